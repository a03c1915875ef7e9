/-
  The reading of the code, part 2.
-/
import Derived.Test.YtcfddlacocdpoaaGreatDoorFnExactIdlePermissionsLnA
set_option linter.unusedVariables false
set_option linter.unusedSimpArgs false
set_option linter.unusedSectionVars false
namespace Go.Ln
open Go
section
variable {w w' : World} {ρ ρ' ρ'' : bD} {rt rt' rt'' : al} {N : Nat→Nat→Prop}
def kZ:V→Root
 | .usl s es=>⟨0,s,es⟩
 | .uptr e=>⟨0,(cells e).length,[e]⟩
 | _=>⟨0,0,[]⟩
def ig (id:Nat):V→V
 | .usl s es=>.hs id 0 [] s 0 es.length
 | .uptr e=>.hp id 0 [] (cells e).length 0 0
 | v=>v
theorem D5 (v:V):notOwn v∨(∃s es,v=.usl s es)∨∃e,v=.uptr e:=by cases v<;>simp[notOwn]
abbrev nZ:=Nat×Nat×Root
theorem FT {c id k:Nat}{x:V}{vs:List V}(h:¬notOwn x):f8 c id k (x::vs)=(ig id x::(f8 c (id+1) (k+1) vs).1,(c,k,kZ x)::(f8 c (id+1) (k+1) vs).2):=by
 cases x<;>first | rfl | exact absurd trivial h
theorem FS {c id k:Nat}{x:V}{vs:List V}(h:notOwn x):f8 c id k (x::vs)=(x::(f8 c id (k+1) vs).1,(f8 c id (k+1) vs).2):=by
 cases x<;>first | rfl | exact h.elim
theorem pB {c:Nat}:∀{vs:List V} {id k:Nat},(f8 c id k vs).1.length=vs.length∧
  (∀(j:Nat) (e:nZ),(f8 c id k vs).2[j]?=some e→∃k' x,vs[k']?=some x∧e=(c,k+k',kZ x)∧¬notOwn x)∧
  (∀(k':Nat) (x:V),vs[k']?=some x→(notOwn x∧(f8 c id k vs).1[k']?=some x)∨(¬notOwn x∧∃j:Nat,(f8 c id k vs).2[j]?=some (c,k+k',kZ x)∧(f8 c id k vs).1[k']?=some (ig (id+j) x)))∧
  (∀(i j:Nat) (e e':nZ),(f8 c id k vs).2[i]?=some e→(f8 c id k vs).2[j]?=some e'→e.2.1=e'.2.1→i=j)
 | [],id,k=>by simp[f8]
 | x::vs,id,k=>by
  by_cases hx:notOwn x
  ·rw[FS hx]
   obtain⟨h1,h2,h3,h4⟩:=pB (c:=c) (vs:=vs) (id:=id) (k:=k+1)
   refine⟨by simp[h1],fun j e he=>?_,fun k' y hy=>?_,h4⟩
   ·obtain⟨k',y,hy,e1,e2⟩:=h2 j e he
    exact⟨k'+1,y,by simpa using hy,by rw[e1];congr 2;omega,e2⟩
   ·cases k' with
    | zero=>simp at hy;subst hy;exact .inl ⟨hx,by simp⟩
    | succ k'=>
     rcases h3 k' y (by simpa using hy) with h | ⟨h,j,hj,hj'⟩
     ·exact .inl ⟨h.1,by simpa using h.2⟩
     ·exact .inr ⟨h,j,by rw[hj];congr 3;omega,by simpa using hj'⟩
  ·rw[FT hx]
   obtain⟨h1,h2,h3,h4⟩:=pB (c:=c) (vs:=vs) (id:=id+1) (k:=k+1)
   refine⟨by simp[h1],fun j e he=>?_,fun k' y hy=>?_,fun i j e e' he he' heq=>?_⟩
   ·cases j with
    | zero=>simp at he;subst he;exact⟨0,x,by simp,by simp,hx⟩
    | succ j=>
     obtain⟨k',y,hy,e1,e2⟩:=h2 j e (by simpa using he)
     exact⟨k'+1,y,by simpa using hy,by rw[e1];congr 2;omega,e2⟩
   ·cases k' with
    | zero=>simp at hy;subst hy;exact .inr ⟨hx,0,by simp,by simp⟩
    | succ k'=>
     rcases h3 k' y (by simpa using hy) with h | ⟨h,j,hj,hj'⟩
     ·exact .inl ⟨h.1,by simpa using h.2⟩
     ·refine .inr ⟨h,j+1,?_,?_⟩
      ·simp only[List.getElem?_cons_succ];rw[hj];congr 3;omega
      ·simp only[List.getElem?_cons_succ];rw[hj'];congr 2;omega
   ·cases i with
    | zero=>
     cases j with
     | zero=>rfl
     | succ j=>
      simp at he;subst he
      obtain⟨k',y,hy,e1,e2⟩:=h2 j e' (by simpa using he')
      subst e1
      simp at heq
      omega
    | succ i=>
     cases j with
     | zero=>
      simp at he';subst he'
      obtain⟨k',y,hy,e1,e2⟩:=h2 i e (by simpa using he)
      subst e1
      simp at heq
      omega
     | succ j=>rw[h4 i j e e' (by simpa using he) (by simpa using he') heq]
theorem MJ {id:Nat}{x:V}(h:¬notOwn x):au (ig id x)=false:=by cases x<;>first | rfl | exact absurd trivial h
theorem MM {id c:Nat}{v:V}:au (ke id c v).1=au v∧(cells (ke id c v).1).length=(cells v).length∧(ke id c v).2=(f8 c id 0 (cells v)).2∧cells (ke id c v).1=(f8 c id 0 (cells v)).1:=by
 by_cases ha:au v=true
 ·cases v<;>simp[au] at ha
  rename_i cs
  have:=(pB (c:=c) (vs:=cs) (id:=id) (k:=0)).1
  exact⟨rfl,this,rfl,rfl⟩
 ·have ha':au v=false:=by simpa using ha
  have hc:=bO ha'
  have e1:(ke id c v).1=(f8 c id 0 [v]).1.headD .und:=by
   unfold ke
   rw[hc]
   cases v<;>first | rfl | exact absurd rfl ha
  have e2:∃y,(f8 c id 0 [v]).1=[y]∧au y=false:=by
   by_cases hn:notOwn v
   ·rw[FS hn];exact⟨v,rfl,ha'⟩
   ·rw[FT hn];exact⟨_,rfl,MJ hn⟩
  obtain⟨y,e2,e3⟩:=e2
  rw[e2] at e1
  simp at e1
  rw[e1]
  refine⟨by rw[e3,ha'],by rw[bO e3,hc];rfl,by simp[ke],by rw[bO e3,hc,e2]⟩
theorem jU:∀{vs:List V} {id c:Nat},(bF id c vs).1.length=vs.length∧
  (∀(j:Nat) (e:nZ),(bF id c vs).2[j]?=some e→∃c' v k x,vs[c']?=some v∧(cells v)[k]?=some x∧e=(c+c',k,kZ x)∧¬notOwn x)∧
  (∀(c':Nat) (v:V),vs[c']?=some v→∃y,(bF id c vs).1[c']?=some y∧au y=au v∧(cells y).length=(cells v).length∧
   ∀(k:Nat) (x:V),(cells v)[k]?=some x→(notOwn x∧(cells y)[k]?=some x)∨(¬notOwn x∧∃j:Nat,(bF id c vs).2[j]?=some (c+c',k,kZ x)∧(cells y)[k]?=some (ig (id+j) x)))∧
  (∀(i j:Nat) (e e':nZ),(bF id c vs).2[i]?=some e→(bF id c vs).2[j]?=some e'→e.1=e'.1→e.2.1=e'.2.1→i=j)
 | [],id,c=>by simp[bF]
 | v::vs,id,c=>by
  obtain⟨a1,a2,a3,a4⟩:=MM (id:=id) (c:=c) (v:=v)
  obtain⟨b1,b2,b3,b4⟩:=pB (c:=c) (vs:=cells v) (id:=id) (k:=0)
  obtain⟨h1,h2,h3,h4⟩:=jU (vs:=vs) (id:=id+(ke id c v).2.length) (c:=c+1)
  simp only[bF]
  rw[←a3] at b2 b3 b4
  refine⟨by simp[h1],fun j e he=>?_,fun c' y hy=>?_,fun i j e e' he he' q1 q2=>?_⟩
  ·by_cases hj:j<(ke id c v).2.length
   ·rw[lf hj] at he
    obtain⟨k',x,hx,e1,e2⟩:=b2 j e he
    exact⟨0,v,k',x,by simp,hx,by simpa using e1,e2⟩
   ·rw[nF (by omega)] at he
    obtain⟨c',v',k,x,q1,q2,q3,q4⟩:=h2 _ e he
    exact⟨c'+1,v',k,x,by simpa using q1,q2,by rw[q3];congr 1;omega,q4⟩
  ·cases c' with
   | zero=>
    simp at hy
    subst hy
    refine⟨(ke id c v).1,by simp,a1,a2,fun k x hx=>?_⟩
    rw[a4]
    rcases b3 k x hx with h | ⟨h,j,hj,hj'⟩
    ·exact .inl h
    ·refine .inr ⟨h,j,?_,hj'⟩
     rw[lf (cB.1 hj).1,hj]
     simp
   | succ c'=>
    obtain⟨y',e1,e2,e3,e4⟩:=h3 c' y (by simpa using hy)
    refine⟨y',by simpa using e1,e2,e3,fun k x hx=>?_⟩
    rcases e4 k x hx with h | ⟨h,j,hj,hj'⟩
    ·exact .inl h
    ·refine .inr ⟨h,(ke id c v).2.length+j,?_,by rw[hj'];congr 2;omega⟩
     rw[nF (by omega),Nat.add_sub_cancel_left,hj]
     congr 2
     omega
  ·by_cases hi:i<(ke id c v).2.length<;>by_cases hj:j<(ke id c v).2.length
   ·rw[lf hi] at he
    rw[lf hj] at he'
    exact b4 i j e e' he he' q2
   ·rw[lf hi] at he
    rw[nF (by omega)] at he'
    obtain⟨k',x,_,e1,_⟩:=b2 i e he
    obtain⟨c',v',k,x',_,_,e3,_⟩:=h2 _ e' he'
    subst e1 e3
    simp at q1
    omega
   ·rw[nF (by omega)] at he
    rw[lf hj] at he'
    obtain⟨k',x,_,e1,_⟩:=b2 j e' he'
    obtain⟨c',v',k,x',_,_,e3,_⟩:=h2 _ e he
    subst e1 e3
    simp at q1
    omega
   ·rw[nF (by omega)] at he he'
    have:=h4 _ _ e e' he he' q1 q2
    omega
end
section
variable {w w' : World} {ρ ρ' ρ'' : bD} {rt rt' rt'' : al} {N : Nat→Nat→Prop}
def qw : List nZ→Nat→Nat→Option Nat
  | [],_,_=>none
  | e :: R,c,k=>if e.1=c ∧ e.2.1=k then some 0 else (qw R c k).map (· + 1)
theorem jE:∀{R:List nZ} {c k j:Nat},qw R c k=some j→∃r,R[j]?=some (c,k,r)
 | [],c,k,j,h=>by simp[qw] at h
 | e::R,c,k,j,h=>by
  simp only[qw] at h
  split at h
  ·rename_i he
   cases h
   obtain⟨e1,e2,e3⟩:=e
   simp at he
   exact⟨e3,by simp[he.1,he.2]⟩
  ·simp only[aF] at h
   obtain⟨j',h',rfl⟩:=h
   obtain⟨r,hr⟩:=jE h'
   exact⟨r,by simpa using hr⟩
theorem wh:∀{R:List nZ} {c k j:Nat} {r:Root},R[j]?=some (c,k,r)→∃j',qw R c k=some j'
 | [],c,k,j,r,h=>by simp at h
 | e::R,c,k,j,r,h=>by
  simp only[qw]
  split
  ·exact⟨0,rfl⟩
  ·cases j with
   | zero=>simp at h;subst h;rename_i hn;exact absurd ⟨rfl,rfl⟩ hn
   | succ j=>
    obtain⟨j',h'⟩:=wh (R:=R) (c:=c) (k:=k) (j:=j) (r:=r) (by simpa using h)
    exact⟨j'+1,by rw[h'];rfl⟩
def eX (ρ:bD)(q id:Nat)(R:List nZ):bD:=fun b=>
 match ρ b with
 | some (o,l)=>if o=q then (match l with
  | x::t=>(qw R x.1 x.2).map fun j=>(id+j,t)
  | []=>none) else some (o,l)
 | none=>none
theorem pj {q id R b}(h:ρ b=none):eX ρ q id R b=none:=by simp[eX,h]
theorem lx {q id R b o l}(h:ρ b=some (o,l))(hn:o≠q):eX ρ q id R b=some (o,l):=by simp[eX,h,hn]
theorem lw {q id R b c k t j}(h:ρ b=some (q,(c,k)::t))(hj:qw R c k=some j):eX ρ q id R b=some (id+j,t):=by simp[eX,h,hj]
theorem ip {q id R b o l}(h:eX ρ q id R b=some (o,l)):(ρ b=some (o,l)∧o≠q)∨∃c k j,ρ b=some (q,(c,k)::l)∧qw R c k=some j∧o=id+j:=by
 unfold eX at h
 split at h
 ·rename_i o' l' hb
  split at h
  ·rename_i hq
   subst hq
   split at h
   ·rename_i x t
    simp only[aF] at h
    obtain⟨j,hj,h⟩:=h
    cases h
    exact .inr ⟨x.1,x.2,j,hb,hj,rfl⟩
   ·cases h
  ·rename_i hq
   cases h
   exact .inl ⟨hb,hq⟩
 ·cases h
theorem jb {id o:Nat}{R:List nZ}(h:¬(id≤o∧o<id+R.length)):d4 rt id R o=rt o:=by unfold d4;rw[if_neg h]
theorem ow {id j:Nat}{R:List nZ}(h:j<R.length):d4 rt id R (id+j)=(R[j]?).map fun x=>x.2.2:=by
 unfold d4
 rw[if_pos (by omega),Nat.add_sub_cancel_left]
structure Placed (N:Nat→Nat→Prop) (w:World) (ρ:bD) (rt:al) (ρ':bD) (rt':al) (id n:Nat) (ys:List V) (p:Nat→Value):Prop where
 rok:ek w ρ' rt'
 inj:eE ρ'
 rtn:gB rt'
 keep:Keep N w ρ rt w ρ' rt'
 lab:Lab w ρ' rt' jw
 val:∀(c:Nat) (y:V),ys[c]?=some y→aL w ρ' rt' bN y (p c)∧∀Un:Nat→Prop,(∀o,id≤o→o<id+n→¬Un o)→aw (cg Un rt') y
 nv:∀o r',rt' o=some r'→rt o=some r'∨(id≤o∧o<id+n)
 f0:∀b l,ρ' b=some (0,l)→ρ b=some (0,l)
theorem Js (H:ek w ρ rt)(J:eE ρ)(hr:gB rt){q:Nat}(hL:Lab w ρ rt (fun o _=>o=0∨o=q))(hq0:q≠0)(hq:rt q=none){id:Nat}{vs:List V}(hid0:0<id)(hf:∀o,id≤o→o<id+(bF id 0 vs).2.length→rt o=none)(hN:∀o nv,id≤o→o<id+(bF id 0 vs).2.length→N o nv){p:Nat→Value}(hv:∀(c:Nat) (v:V),vs[c]?=some v→aL w ρ rt (fun k=>some (q,[(c,k)])) v (p c)∧nh v) :
  Placed N w ρ rt (eX ρ q id (bF id 0 vs).2) (d4 rt id (bF id 0 vs).2) id (bF id 0 vs).2.length (bF id 0 vs).1 p:=by
 obtain⟨s1,s2,s3,s4⟩:=jU (vs:=vs) (id:=id) (c:=0)
 generalize hys:(bF id 0 vs).1=ys at s1 s3
 generalize hR:(bF id 0 vs).2=R at s2 s3 s4 hf hN
 have pos:∀(j c k:Nat) (r:Root),R[j]?=some (c,k,r)→qw R c k=some j:=by
  intro j c k r h
  obtain⟨j',h'⟩:=wh h
  obtain⟨r',h''⟩:=jE h'
  rw[h',s4 j' j _ _ h'' h rfl rfl]
 have K:Keep N w ρ rt w (eX ρ q id R) (d4 rt id R):=by
  refine⟨fun b hb _=>⟨pj hb,rfl⟩,fun o nv path hNo hl=>?_,fun b l hb=>⟨lx hb (Ne.symm hq0),rfl⟩⟩
  have ho:¬(id≤o∧o<id+R.length):=fun h=>hNo (hN o nv h.1 h.2)
  have hl':cz rt o nv path:=by simpa[cz,ch,bZ,jb ho] using hl
  refine⟨hl',fun b n hb hn=>⟨lx hb ?_,hn⟩⟩
  rintro rfl
  simp[cz,ch,bZ,hq] at hl'
 have roots:∀(j:Nat) (e:nZ),R[j]?=some e→∃c k x v,e=(c,k,kZ x)∧¬notOwn x∧nh x∧vs[c]?=some v∧(cells v)[k]?=some x∧∃u,RepV w ρ rt (some (q,[(c,k)])) x u:=by
  intro j e he
  obtain⟨c,v,k,x,h1,h2,h3,h4⟩:=s2 j e he
  rw[Nat.zero_add] at h3
  obtain⟨⟨g,_,hg⟩,hn⟩:=hv c v h1
  exact⟨c,k,x,v,h3,h4,bR hn h2,h1,h2,g k,hg k x h2⟩
 refine⟨?_,?_,?_,K,?_,?_,?_,fun b l h=>?_⟩
 rotate_right
 ·rcases ip h with⟨h1,_⟩ | ⟨_,_,_,_,_,h3⟩
  ·exact h1
  ·omega
 ·intro o r h
  by_cases ho:¬(id≤o∧o<id+R.length)
  ·rw[jb ho] at h
   exact co.under K (fun b l hb _=>⟨lx hb (by rintro rfl;rw[hq] at h;cases h),rfl⟩) (H o r h) (hr o r h)
  ·obtain⟨j,rfl⟩:∃j,o=id+j:=⟨o - id,by omega⟩
   rw[ow (by omega)] at h
   simp only[aF] at h
   obtain⟨e,he,rfl⟩:=h
   obtain⟨c,k,x,v,rfl,h1,h2,_,_,u,hu⟩:=roots j e he
   have hmv:∀b l,ρ b=some (q,[(c,k)]++l)→eX ρ q id R b=some (id+j,[]++l)∧w.heap[b]?=w.heap[b]?:=fun b l hb=>⟨lw hb (pos j c k _ he),rfl⟩
   rcases D5 x with h | ⟨s,es,rfl⟩ | ⟨e,rfl⟩
   ·exact absurd h h1
   ·exact co.move K hmv (pb hu) (by simpa[kZ,nh] using h2)
   ·exact co.move K hmv (nD hu) (by simpa[kZ,nh,nhs] using h2)
 ·rintro b b' ⟨o,l⟩ h h'
  rcases ip h with⟨h1,h2⟩ | ⟨c,k,j,h1,h2,h3⟩<;>rcases ip h' with⟨h1',h2'⟩ | ⟨c',k',j',h1',h2',h3'⟩
  ·exact J _ _ _ h1 h1'
  ·exfalso
   rcases (hL b o l h1).2 with (h | h) | ⟨r,h⟩
   ·omega
   ·exact h2 h
   ·obtain⟨r9,hr9⟩:=jE h2'
    have:=(cB.1 hr9).1
    rw[hf o (by omega) (by omega)] at h;cases h
  ·exfalso
   rcases (hL b' o l h1').2 with (h | h) | ⟨r,h⟩
   ·omega
   ·exact h2' h
   ·obtain⟨r9,hr9⟩:=jE h2
    have:=(cB.1 hr9).1
    rw[hf o (by omega) (by omega)] at h;cases h
  ·have:j=j':=by omega
   subst this
   obtain⟨r,hr1⟩:=jE h2
   obtain⟨r',hr2⟩:=jE h2'
   rw[hr1] at hr2
   cases hr2
   exact J _ _ _ h1 h1'
 ·intro o r h
  by_cases ho:¬(id≤o∧o<id+R.length)
  ·rw[jb ho] at h
   exact hr o r h
  ·obtain⟨j,rfl⟩:∃j,o=id+j:=⟨o - id,by omega⟩
   rw[ow (by omega)] at h
   simp only[aF] at h
   obtain⟨e,he,rfl⟩:=h
   obtain⟨c,k,x,v,rfl,h1,h2,_⟩:=roots j e he
   rcases D5 x with h | ⟨s,es,rfl⟩ | ⟨e,rfl⟩
   ·exact absurd h h1
   ·simpa[kZ,nh] using h2
   ·simpa[kZ,nh,nhs] using h2
 ·refine⟨fun b o l h=>?_,by rw[jb (by omega)];exact hL.z,fun b l h=>?_⟩
  rotate_left
  ·rcases ip h with⟨h1,_⟩ | ⟨_,_,_,_,_,h3⟩
   ·exact hL.f _ _ h1
   ·omega
  rcases ip h with⟨h1,h2⟩ | ⟨c,k,j,h1,h2,h3⟩
  ·refine⟨(hL b o l h1).1,?_⟩
   rcases (hL b o l h1).2 with (h | h) | ⟨r,h⟩
   ·exact .inl h
   ·exact absurd h h2
   ·exact .inr ⟨r,by rw[jb (fun h'=>by rw[hf o h'.1 h'.2] at h;cases h)];exact h⟩
  ·obtain⟨r,hr'⟩:=jE h2
   exact⟨(hL b _ _ h1).1,.inr ⟨r,by rw[h3,ow (cB.1 hr').1,hr'];rfl⟩⟩
 ·intro c y hy
  have hc:c<vs.length:=by rw[←s1];exact (cB.1 hy).1
  have hvc:vs[c]?=some vs[c]:=dS hc
  obtain⟨y',e1,e2,e3,e4⟩:=s3 c _ hvc
  rw[hy] at e1
  cases e1
  obtain⟨⟨g,hp,hg⟩,hn⟩:=hv c _ hvc
  have hx:∀(k:Nat) z,(cells y)[k]?=some z→∃x,(cells vs[c])[k]?=some x:=fun k z hz=>by
   have:=(cB.1 hz).1
   exact⟨_,dS (by omega)⟩
  have each:∀(k:Nat) z,(cells y)[k]?=some z→RepV w (eX ρ q id R) (d4 rt id R) none z (g k)∧∀Un:Nat→Prop,(∀o,id≤o→o<id+R.length→¬Un o)→aw (cg Un (d4 rt id R)) z:=by
   intro k z hz
   obtain⟨x,hx⟩:=hx k z hz
   have hxn:=bR hn hx
   have hxr:=hg k x hx
   rcases e4 k x hx with⟨h1,h2⟩ | ⟨h1,j,hj,h2⟩
   ·rw[hz] at h2
    cases h2
    exact⟨(hxr.any h1 (L':=none)).keep K (cS hxn),fun _ _=>cS hxn⟩
   ·rw[hz] at h2
    cases h2
    rw[Nat.zero_add] at hj
    have hjl:=(cB.1 hj).1
    have hpos:=pos j c k _ hj
    have nn:∀Un:Nat→Prop,(∀o,id≤o→o<id+R.length→¬Un o)→¬cg Un (d4 rt id R) (id+j) 0:=by
     rintro Un hUn (h | ⟨r,h,h'⟩)
     ·exact hUn _ (by omega) (by omega) h
     ·omega
    rcases D5 x with h | ⟨s,es,rfl⟩ | ⟨e,rfl⟩
    ·exact absurd h h1
    ·refine⟨?_,by simpa[ig,aw] using nn⟩
     obtain⟨A,cc,g2,hu,hlc,hs,hb,_⟩:=wn hxr
     rw[hu]
     refine .hs _ _ _ _ _ _ _ _ (fun _=>⟨cc,A,rfl,hlc,fun h0=>?_⟩) trivial
     obtain⟨b,arr,T,q1,q2,q3,q4,_⟩:=hb h0
     exact⟨b,arr.size,lw q1 hpos,⟨arr,T,q2,rfl⟩,by rw[q3];simp,by simpa using q4⟩
    ·refine⟨?_,by simpa[ig,aw] using nn⟩
     generalize g k=u at hxr
     cases hxr with
     | uptr _ _ b arr T g2 hρ hb hc hh=>
      exact .hp _ _ _ _ _ _ _ _ (fun _=>⟨b,arr.size,lw hρ hpos,⟨arr,T,hb,rfl⟩,by simp⟩) trivial
  refine⟨⟨g,?_,fun k z hz=>(each k z hz).1⟩,?_⟩
  ·rw[hp]
   unfold fh
   rw[e2,e3]
  ·by_cases ha:au y=true
   ·cases y<;>simp[au] at ha
    intro Un hUn
    simp only[aw]
    refine dY.2 fun z hz=>?_
    obtain⟨k,hk⟩:=List.mem_iff_getElem?.1 hz
    exact (each k z hk).2 Un hUn
   ·have ha':au y=false:=by simpa using ha
    exact (each 0 y (by simp[bO ha'])).2
 ·intro o r h
  by_cases ho:¬(id≤o∧o<id+R.length)
  ·rw[jb ho] at h
   exact .inl h
  ·obtain⟨j,rfl⟩:∃j,o=id+j:=⟨o - id,by omega⟩
   rw[ow (by omega)] at h
   simp only[aF] at h
   obtain⟨e,he,rfl⟩:=h
   have:=(cB.1 he).1
   exact .inr ⟨by omega,by omega⟩
end
section
variable {w w' : World} {ρ ρ' ρ'' : bD} {rt rt' rt'' : al} {N : Nat→Nat→Prop}
def gN:al:=fun _=>none
structure Ground where
 base:Nat
 inv:World→Prop
 st:∀w w',(∀b,b<base→w'.heap[b]?=w.heap[b]?)→Wk w w'→inv w→inv w'
def Ground.ok (G:Ground)(w:World)(ρ:bD):Prop:=G.base≤w.heap.size∧(∀b,b<G.base→ρ b=none)∧G.inv w
theorem Ground.keep {G:Ground}(h:G.ok w ρ)(hf:∀b,ρ b=none→b<w.heap.size→ρ' b=none∧w'.heap[b]?=w.heap[b]?)(hw:Wk w w'):G.ok w' ρ':=
 ⟨Nat.le_trans h.1 hw.size,fun b hb=>(hf b (h.2.1 b hb) (Nat.lt_of_lt_of_le hb h.1)).1,G.st w w' (fun b hb=>(hf b (h.2.1 b hb) (Nat.lt_of_lt_of_le hb h.1)).2) hw h.2.2⟩
structure Inn (w:World) (ρ:bD):Prop where
 inj:eE ρ
 lab:∀b o l,ρ b=some (o,l)→b<w.heap.size∧(o=0∨o=1)
 f:∀b l,ρ b=some (0,l)→l=[(b,0)]
structure Aft (w:World) (ρ:bD) (w':World) (ρ':bD):Prop where
 wk:Wk w w'
 fr:∀b,ρ b=none→b<w.heap.size→ρ' b=none∧w'.heap[b]?=w.heap[b]?
 k0:∀b l,ρ b=some (0,l)→ρ' b=some (0,l)∧w'.heap[b]?=w.heap[b]?
 f0:∀b l,ρ' b=some (0,l)→ρ b=some (0,l)
 inj:eE ρ'
 lab:∀b o l,ρ' b=some (o,l)→b<w'.heap.size∧(o=0∨o=1∨o=2)
def lG (w:World)(ρ:bD)(vs:List V)(us:List Value):Prop:=
 vs.length=us.length∧∀(a:Nat) v u,vs[a]?=some v→us[a]?=some u→aL w ρ gN (fun k=>some (1,[(a,k)])) v u∧nh v
def lr:V→Bool
 | .tup _=>true
 | _=>false
def Hm (w:World)(ρ:bD)(r:V)(u:Value):Prop:=
 ∃p:Nat→Value,u=(if lr r then .tuple (dx (fe r).length p) else p 0)∧∀(c:Nat) v,(fe r)[c]?=some v→aL w ρ gN (fun k=>some (2,[(c,k)])) v (p c)∧nh v∧lr v=false
def na (w:World)(ρ:bD)(w':World)(ρ':bD)(own:List Bool)(vs:List V)(us:List Value)(cO:List V):Prop:=
 ∀(a:Nat) v u x,vs[a]?=some v→us[a]?=some u→dP own cO a=some x→
  ∀(g:Nat→Value),u=fh v g→∀(k:Nat) y z,(cells x)[k]?=some y→(cells v)[k]?=some z→¬notOwn y→nh y∧RepV w' ρ' gN (some (1,[(a,k)])) y (g k)∧∀b n,ρ b=some (1,[(a,k)])→ki w b n→ρ' b=some (1,[(a,k)])
def ID (P:Program)(f:FuncId)(us:Array Value)(w:World)(K:Value→World→Prop):Prop:=
 (∃u w',(callFunc f us).run P w=.ok (.value u) w'∧K u w')∨
 ((callFunc f us).run P w=.ok (.enter f us) w∧Calls P f us w fun e w'=>∃u,e=.returned u∧K u w')
def fq (P:Program)(G:Ground)(f:FuncId)(e:Ent):Prop:=∀w ρ vs us r cO,lG w ρ vs us→Inn w ρ→G.ok w ρ→e.F vs=some (r,cO)→
 ID P f us.toArray w fun u w'=>∃ρ',Aft w ρ w' ρ'∧Hm w' ρ' r u∧na w ρ w' ρ' e.own vs us cO
def dM:V→Option Nat
 | .hs o _ _ _ _ _=>some o
 | .hp o _ _ _ _ _=>some o
 | _=>none
def jB:V→fB
 | .hs _ _ p _ _ _=>p
 | .hp _ _ p _ _ _=>p
 | _=>[]
theorem DQ {a : Nat} : ∀ {vs : List V} {k0 : Nat} {e : mZ},e ∈ qs a k0 vs ↔ ∃ k x,vs[k]?=some x ∧ dM x=some e.1 ∧ e.2=(jB x,a,k0 + k)
  | [],k0,e=>by simp [qs]
  | v :: vs,k0,e=>by
    have ih:=@DQ a vs (k0 + 1) e
    have tail : (∃ k x,vs[k]?=some x ∧ dM x=some e.1 ∧ e.2=(jB x,a,k0 + 1 + k)) ↔ ∃ k x,(v :: vs)[k + 1]?=some x ∧ dM x=some e.1 ∧ e.2=(jB x,a,k0 + (k + 1)):=by
      constructor
      · rintro ⟨k,x,h1,h2,h3⟩
        exact ⟨k,x,by simpa using h1,h2,by rw [h3]; congr 2; omega⟩
      · rintro ⟨k,x,h1,h2,h3⟩
        exact ⟨k,x,by simpa using h1,h2,by rw [h3]; congr 2; omega⟩
    have hsplit : (∃ k x,(v :: vs)[k]?=some x ∧ dM x=some e.1 ∧ e.2=(jB x,a,k0 + k)) ↔ (dM v=some e.1 ∧ e.2=(jB v,a,k0)) ∨ ∃ k x,(v :: vs)[k + 1]?=some x ∧ dM x=some e.1 ∧ e.2=(jB x,a,k0 + (k + 1)):=by
      constructor
      · rintro ⟨k,x,h1,h2,h3⟩
        cases k with
        | zero=>simp at h1; subst h1; exact .inl ⟨h2,by simpa using h3⟩
        | succ k=>exact .inr ⟨k,x,h1,h2,h3⟩
      · rintro (⟨h1,h2⟩ | ⟨k,x,h1,h2,h3⟩)
        · exact ⟨0,v,by simp,h1,by simpa using h2⟩
        · exact ⟨k + 1,x,h1,h2,h3⟩
    rw [hsplit,← tail,← ih]
    cases v <;> simp only [qs,dM,jB,List.mem_cons] <;> first
      | (obtain ⟨e1, e2⟩ := e
         simp
         done)
      | (obtain ⟨e1, e2⟩ := e
         constructor
         · rintro (h | h)
           · cases h; exact .inl ⟨rfl,rfl⟩
           · exact .inr h
         · rintro (⟨h1,h2⟩ | h)
           · cases h1; cases h2; exact .inl rfl
           · exact .inr h)
theorem jT:∀{own:List Bool} {vs:List V} {a0:Nat} {e:mZ},e∈bh a0 own vs↔∃a v k x,own[a]?=some true∧vs[a]?=some v∧(cells v)[k]?=some x∧dM x=some e.1∧e.2=(jB x,a0+a,k)
 | [],vs,a0,e=>by simp[bh]
 | b::own,[],a0,e=>by cases b<;>simp[bh]
 | true::own,v::vs,a0,e=>by
  simp only[bh,List.mem_append]
  rw[DQ,jT (own:=own)]
  constructor
  ·rintro (⟨k,x,h1,h2,h3⟩ | ⟨a,v',k,x,h1,h2,h3,h4,h5⟩)
   ·exact⟨0,v,k,x,by simp,by simp,h1,h2,by simpa using h3⟩
   ·exact⟨a+1,v',k,x,by simpa using h1,by simpa using h2,h3,h4,by rw[h5];congr 2;omega⟩
  ·rintro⟨a,v',k,x,h1,h2,h3,h4,h5⟩
   cases a with
   | zero=>simp at h2;subst h2;exact .inl ⟨k,x,h3,h4,by simpa using h5⟩
   | succ a=>exact .inr ⟨a,v',k,x,by simpa using h1,by simpa using h2,h3,h4,by rw[h5];congr 2;omega⟩
 | false::own,v::vs,a0,e=>by
  simp only[bh]
  rw[jT (own:=own)]
  constructor
  ·rintro⟨a,v',k,x,h1,h2,h3,h4,h5⟩
   exact⟨a+1,v',k,x,by simpa using h1,by simpa using h2,h3,h4,by rw[h5];congr 2;omega⟩
  ·rintro⟨a,v',k,x,h1,h2,h3,h4,h5⟩
   cases a with
   | zero=>simp at h1
   | succ a=>exact⟨a,v',k,x,by simpa using h1,by simpa using h2,h3,h4,by rw[h5];congr 2;omega⟩
theorem np:∀{own:List Bool} {vs:List V} {o:Nat},(∃(a:Nat) (v:V),own[a]?≠some true∧vs[a]?=some v∧o∈dN v)→o∈bK own vs
 | own,[],o,⟨a,v,h1,h2,h3⟩=>by simp at h2
 | [],v::vs,o,⟨a,v',h1,h2,h3⟩=>by
  simp only[bK,List.mem_append]
  cases a with
  | zero=>simp at h2;subst h2;exact .inl h3
  | succ a=>exact .inr (np (own:=[]) ⟨a,v',by simp,by simpa using h2,h3⟩)
 | true::own,v::vs,o,⟨a,v',h1,h2,h3⟩=>by
  simp only[bK]
  cases a with
  | zero=>simp at h1
  | succ a=>exact np ⟨a,v',by simpa using h1,by simpa using h2,h3⟩
 | false::own,v::vs,o,⟨a,v',h1,h2,h3⟩=>by
  simp only[bK,List.mem_append]
  cases a with
  | zero=>simp at h2;subst h2;exact .inl h3
  | succ a=>exact .inr (np ⟨a,v',by simpa using h1,by simpa using h2,h3⟩)
theorem oZ:∀{g:List mZ} {o:Nat} {x:fB×Nat×Nat},dK g o=some x→(o,x)∈g
 | [],o,x,h=>by simp[dK] at h
 | (o',y)::g,o,x,h=>by
  simp only[dK] at h
  split at h
  ·rename_i he;cases h;subst he;simp
  ·exact List.mem_cons_of_mem _ (oZ h)
theorem DT:∀{g:List mZ} {o:Nat} {x:fB×Nat×Nat},nz (g.map (·.1))=true→(o,x)∈g→dK g o=some x
 | [],o,x,h,hm=>by simp at hm
 | (o',y)::g,o,x,h,hm=>by
  simp only[List.map_cons,nz,Bool.and_eq_true,Bool.not_eq_true'] at h
  simp only[dK]
  rcases List.mem_cons.1 hm with hm' | hm'
  ·cases hm';simp
  ·have hne:o≠o':=by
    rintro rfl
    have h1:=h.1
    have:o∈g.map (·.1):=List.mem_map.2 ⟨(o,x),hm',rfl⟩
    simp only[List.contains_eq_mem,decide_eq_false_iff_not] at h1
    exact h1 this
   rw[if_neg hne]
   exact DT h.2 hm'
theorem ls {g:List mZ}{o:Nat}(h:o∉g.map (·.1)):dK g o=none:=by
 cases hl:dK g o with
 | none=>rfl
 | some x=>exact absurd ((List.mem_map (f:=fun x=>x.1)).2 ⟨(o,x),oZ hl,rfl⟩) h
end
section
variable {w w' : World} {ρ ρ' ρ'' : bD} {rt rt' rt'' : al} {N : Nat→Nat→Prop}
theorem RepV.monoN (mv:dj→dj)(ok:dj→Prop)(hmv:∀l i k,ok l→mv (l.at i k)=(mv l).at i k)(hok:∀l i k,ok l→ok (l.at i k))(K3:∀b l,ok l→ρ b=some l→ρ' b=some (mv l)∧w'.heap[b]?=w.heap[b]?){L:Option dj}{v:V}{u:Value}(h:RepV w ρ rt L v u):(∀l,L=some l→ok l)→nh v→cy v=false→RepV w' ρ' rt' (L.map mv) v u:=by
 have hms:∀{vs:List V} {i:Nat} {v:V},cZ vs=false→vs[i]?=some v→cy v=false:=by
  intro vs
  induction vs with
  | nil=>intro i v _ h;simp at h
  | cons x vs ih=>
   intro i v h e
   simp only[cZ,Bool.or_eq_false_iff] at h
   cases i with
   | zero=>simp at e;subst e;exact h.1
   | succ i=>exact ih h.2 (by simpa using e)
 have hcl:∀{v x:V} {k:Nat},cy v=false→(cells v)[k]?=some x→cy x=false:=by
  intro v x k h e
  by_cases ha:au v=true
  ·cases v<;>simp[au] at ha
   exact hms (by simpa[cy,cells] using h) e
  ·rw[bO (by simpa using ha)] at e
   cases k<;>simp at e
   subst e
   exact h
 induction h with
 | und L=>exact fun _ _ _=>.und _
 | dead L u=>exact fun _ _ _=>.dead _ _
 | bool L b=>exact fun _ _ _=>.bool _ _
 | int L k n=>exact fun _ _ _=>.int _ _ _
 | str L s=>exact fun _ _ _=>.str _ _
 | nilp L=>exact fun _ _ _=>.nilp _
 | nilfn L=>exact fun _ _ _=>.nilfn _
 | nilif L=>exact fun _ _ _=>.nilif _
 | fn L f caps g h ih=>exact fun _ hn hi=>.fn _ _ _ g fun i v hv=>ih i v hv (by simp) (cI (by simpa[nh] using hn) hv) (hms (by simpa[cy] using hi) hv)
 | iface L t v g h ih=>exact fun _ hn hi=>.iface _ _ _ g fun i x hx=>ih i x hx (by simp) (bR (by simpa[nh] using hn) hx) (hcl (by simpa[cy] using hi) hx)
 | tup L vs p g hp h ih=>exact fun _ hn hi=>.tup _ _ p g hp fun c v k x hv hx=>ih c v k x hv hx (by simp) (bR (cI (by simpa[nh] using hn) hv) hx) (hcl (hms (by simpa[cy] using hi) hv) hx)
 | iptr L e k b off g hb hρ hc h ih=>exact fun _ _ hi=>by simp[cy] at hi
 | isl0 L nl A c hn=>exact fun _ _ _=>.isl0 _ _ _ _ hn
 | isl L es b off c s g hl h0 hρ hb hs hc h ih=>exact fun _ _ hi=>by simp[cy] at hi;subst hi;simp at h0
 | usl0 l s A=>exact fun _ _ _=>.usl0 _ _ _
 | usl l s es b A c arr T g hρ hb hl hA hcap hs hc h ih=>
  intro ho hn hi
  have k:=K3 b l (ho l rfl) hρ
  exact .usl _ s es b A c arr T g k.1 (by rw[k.2];exact hb) hl hA hcap hs hc fun i e k x he hx=>by
   have:=ih i e k x he hx (fun l' h'=>by cases h';exact hok _ _ _ (ho l rfl)) (bR (cI (by simpa[nh] using hn) he) hx) (hcl (hms (by simpa[cy] using hi) he) hx)
   rwa[Option.map_some,hmv _ _ _ (ho l rfl)] at this
 | uptr l e b arr T g hρ hb hc h ih=>
  intro ho hn hi
  have k:=K3 b l (ho l rfl) hρ
  exact .uptr _ e b arr T g k.1 (by rw[k.2];exact hb) hc fun k x hx=>by
   have:=ih k x hx (fun l' h'=>by cases h';exact hok _ _ _ (ho l rfl)) (bR (by simpa[nh] using hn) hx) (hcl (by simpa[cy] using hi) hx)
   rwa[Option.map_some,hmv _ _ _ (ho l rfl)] at this
 | hp L o nv path s i k u h h1'=>exact fun _ hn _=>by simp[nh] at hn
 | hs L o nv path s off len u h h1'=>exact fun _ hn _=>by simp[nh] at hn
theorem Nd (J:eE ρ){L:dj}{s c:Nat}{es:List V}{A:Option Addr}(h:co w ρ rt L s es)(hlc:es.length≤c)(hcc:c≠0→∃b n,ρ b=some L∧ki w b n∧A=some ⟨b,0,none⟩∧c*s≤n):RepV w ρ rt (some L) (.usl s es) (.slice A es.length c):=by
 by_cases hc0:c=0
 ·subst hc0
  have:es=[]:=List.length_eq_zero_iff.1 (by omega)
  subst this
  exact .usl0 _ _ _
 ·obtain⟨b,n,hb,⟨arr,T,hbb,rfl⟩,rfl,hle⟩:=hcc hc0
  rcases h with rfl | ⟨b2,arr2,T2,g2,i1,i2,i3,i4,i5⟩
  ·exact .usl _ s [] b _ c arr T (fun _ _=>undef) hb hbb hlc (fun _=>rfl) hle (by simp) (by simp) (by simp)
  ·have:=J _ _ _ hb i1
   subst this
   rw[hbb] at i2
   cases i2
   exact .usl _ _ _ b _ c arr T g2 hb hbb hlc (fun _=>rfl) hle i3 i4 i5
theorem KN (J:eE ρ){L:dj}{s b:Nat}{e:V}(h:co w ρ rt L s [e])(hb:ρ b=some L):RepV w ρ rt (some L) (.uptr e) (.pointer (some ⟨b,0,none⟩)):=by
 rcases h with h | ⟨b2,arr2,T2,g2,i1,i2,i3,i4,i5⟩
 ·cases h
 ·have:=J _ _ _ hb i1
  subst this
  exact .uptr _ e b arr2 T2 (g2 0) hb i2 (fun k x hx=>by simpa using i4 0 e k x rfl hx) (fun k x hx=>i5 0 e k x rfl hx)
theorem FM {cc d:V}(h:gY rt cc=some d)(hc:au cc=false):au d=false:=by
 unfold gY at h
 split at h
 ·simp only[aE] at h
  obtain⟨r,_,x,_,h⟩:=h
  split at h<;>cases h
  rfl
 ·simp only[aE] at h
  obtain⟨r,_,x,_,h⟩:=h
  split at h
  ·split at h<;>cases h
   rfl
  ·cases h
 ·split at h<;>cases h
  exact hc
theorem tI:∀{vs xs:List V},jh rt vs=some xs→xs.length=vs.length∧∀(k:Nat) c,vs[k]?=some c→∃d,xs[k]?=some d∧gY rt c=some d
 | [],xs,h=>by simp[jh] at h;subst h;simp
 | v::vs,xs,h=>by
  simp only[jh,aE,aF] at h
  obtain⟨x,hx,ys,hys,rfl⟩:=h
  obtain⟨l,ih⟩:=tI hys
  refine⟨by simp[l],fun k c hc=>?_⟩
  cases k with
  | zero=>simp at hc;subst hc;exact⟨x,by simp,hx⟩
  | succ k=>simpa using ih k c (by simpa using hc)
theorem uc:∀{vs xs:List V},gX rt vs=some xs→xs.length=vs.length∧∀(k:Nat) c,vs[k]?=some c→∃d,xs[k]?=some d∧fA rt c=some d
 | [],xs,h=>by simp[gX] at h;subst h;simp
 | v::vs,xs,h=>by
  simp only[gX,aE,aF] at h
  obtain⟨x,hx,ys,hys,rfl⟩:=h
  obtain⟨l,ih⟩:=uc hys
  refine⟨by simp[l],fun k c hc=>?_⟩
  cases k with
  | zero=>simp at hc;subst hc;exact⟨x,by simp,hx⟩
  | succ k=>simpa using ih k c (by simpa using hc)
theorem qM:∀{own:List Bool} {vs xs:List V},eI rt own vs=some xs→xs.length=vs.length∧∀(a:Nat) v,vs[a]?=some v→∃x,xs[a]?=some x∧((own[a]?=some true∧no rt v=some x)∨(own[a]?≠some true∧gk rt v=some x))
 | own,[],xs,h=>by simp[eI] at h;subst h;simp
 | own,v::vs,xs,h=>by
  have step:∀(own':List Bool) (x:V) (ys:List V),eI rt own' vs=some ys→xs=x::ys→(∀a,own[a+1]?=own'[a]?)→((own[0]?=some true∧no rt v=some x)∨(own[0]?≠some true∧gk rt v=some x))→
    xs.length=(v::vs).length∧∀(a:Nat) v',(v::vs)[a]?=some v'→∃x,xs[a]?=some x∧((own[a]?=some true∧no rt v'=some x)∨(own[a]?≠some true∧gk rt v'=some x)):=by
   intro own' x ys h1 h2 h3 h4
   subst h2
   obtain⟨l,ih⟩:=qM h1
   refine⟨by simp[l],fun a v' hv=>?_⟩
   cases a with
   | zero=>simp at hv;subst hv;exact⟨x,by simp,h4⟩
   | succ a=>
    obtain⟨y,e1,e2⟩:=ih a v' (by simpa using hv)
    refine⟨y,by simpa using e1,?_⟩
    rw[h3]
    exact e2
  match own,h,step with
  | true::bs,h,step=>
   simp only[eI,aE,aF] at h
   obtain⟨x,hx,ys,hys,rfl⟩:=h
   exact step bs x ys hys rfl (by simp) (.inl ⟨by simp,hx⟩)
  | false::bs,h,step=>
   simp only[eI,aE,aF] at h
   obtain⟨x,hx,ys,hys,rfl⟩:=h
   exact step bs x ys hys rfl (by simp) (.inr ⟨by simp,hx⟩)
  | [],h,step=>
   simp only[eI,aE,aF] at h
   obtain⟨x,hx,ys,hys,rfl⟩:=h
   exact step [] x ys hys rfl (by simp) (.inr ⟨by simp,hx⟩)
def rc:fB→fB→Option fB
 | [],l=>some l
 | x::p,y::l=>if x=y then rc p l else none
 | _::_,[]=>none
theorem pd:∀{p l t:fB},rc p l=some t↔l=p++t
 | [],l,t=>by simp[rc]
 | x::p,[],t=>by simp[rc]
 | x::p,y::l,t=>by
  simp only[rc,List.cons_append,List.cons.injEq]
  split
  ·rename_i h;subst h;rw[pd];simp
  ·rename_i h;exact⟨fun h'=>(by cases h'),fun h'=>absurd h'.1.symm h⟩
theorem M5 {p l:fB}:rc p l=none↔¬p <+: l:=by
 constructor
 ·rintro h ⟨t,ht⟩
  rw[pd.2 ht.symm] at h
  cases h
 ·intro h
  cases hs:rc p l with
  | none=>rfl
  | some t=>exact absurd ⟨t,(pd.1 hs).symm⟩ h
def dE (ρ:bD)(g:List mZ)(lent:List Nat):bD:=fun b=>
 match ρ b with
 | none=>none
 | some (o,l)=>match dK g o with
  | some (p,a,k)=>(match rc p l with
   | some t=>some (1,(a,k)::t)
   | none=>some (0,[(b,0)]))
  | none=>if lent.contains o then none else some (0,[(b,0)])
theorem qo {g lent b}(h:ρ b=none):dE ρ g lent b=none:=by simp[dE,h]
theorem jJ {g lent b o p t a k}(h:ρ b=some (o,p++t))(hg:dK g o=some (p,a,k)):dE ρ g lent b=some (1,(a,k)::t):=by simp[dE,h,hg,pd.2 rfl]
theorem vL {g lent b o p l a k}(h:ρ b=some (o,l))(hg:dK g o=some (p,a,k))(hp:¬p <+: l):dE ρ g lent b=some (0,[(b,0)]):=by simp[dE,h,hg,M5.2 hp]
theorem ne {g lent b o l}(h:ρ b=some (o,l))(hg:dK g o=none)(hl:o∈lent):dE ρ g lent b=none:=by simp[dE,h,hg,hl]
theorem rp {g lent b o l}(h:ρ b=some (o,l))(hg:dK g o=none)(hl:o∉lent):dE ρ g lent b=some (0,[(b,0)]):=by simp[dE,h,hg,hl]
structure CallChk (own:List Bool) (args:List V):Prop where
 nd:nz ((bh 0 own args).map (·.1))=true
 z:0∉(bh 0 own args).map (·.1)
 dis:∀o,o∈bK own args→o∉(bh 0 own args).map (·.1)
 z':0∉bK own args
theorem UC {own:List Bool}{args:List V}(h:(nz (0::(bh 0 own args).map (·.1))&&(bK own args).all (fun o=>!(0::(bh 0 own args).map (·.1)).contains o))=true):CallChk own args:=by
 simp only[nz,Bool.and_eq_true,Bool.not_eq_true',List.contains_eq_mem,decide_eq_false_iff_not,List.all_eq_true,List.mem_cons,not_or] at h
 exact⟨h.1.2,h.1.1,fun o ho=>(h.2 o ho).2,fun ho=>(h.2 0 ho).1 rfl⟩
theorem lq {own:List Bool}{args:List V}(c:CallChk own args){o a k:Nat}{p:fB}:dK (bh 0 own args) o=some (p,a,k)↔∃v x,own[a]?=some true∧args[a]?=some v∧(cells v)[k]?=some x∧dM x=some o∧p=jB x:=by
 constructor
 ·intro h
  obtain⟨a',v,k',x,h1,h2,h3,h4,h5⟩:=jT.1 (oZ h)
  rw[Nat.zero_add] at h5
  cases h5
  exact⟨v,x,h1,h2,h3,h4,rfl⟩
 ·rintro⟨v,x,h1,h2,h3,h4,rfl⟩
  exact DT c.nd (jT.2 ⟨a,v,k,x,h1,h2,h3,h4,by rw[Nat.zero_add]⟩)
theorem xZ (J:eE ρ){U:Pl}(hL:Lab w ρ rt U){own:List Bool}{args:List V}(c:CallChk own args):Inn w (dE ρ (bh 0 own args) (bK own args)):=by
 have inv:∀b L,dE ρ (bh 0 own args) (bK own args) b=some L→(∃o p t a k,ρ b=some (o,p++t)∧dK (bh 0 own args) o=some (p,a,k)∧L=(1,(a,k)::t))∨(∃o l,ρ b=some (o,l)∧L=(0,[(b,0)])):=by
  intro b L h
  unfold dE at h
  split at h
  ·cases h
  ·rename_i o l hb
   split at h
   ·rename_i p a k hg
    split at h
    ·rename_i t ht
     cases h
     exact .inl ⟨o,p,t,a,k,by rw[hb,pd.1 ht],hg,rfl⟩
    ·cases h
     exact .inr ⟨o,l,hb,rfl⟩
   ·split at h
    ·cases h
    ·cases h
     exact .inr ⟨o,l,hb,rfl⟩
 refine⟨?_,?_,?_⟩
 ·intro b b' L h h'
  rcases inv b L h with⟨o,p,l,a,k,h1,h2,rfl⟩ | ⟨o,l,h1,rfl⟩<;>rcases inv b' _ h' with⟨o',p',l',a',k',h1',h2',h3⟩ | ⟨o',l',h1',h3⟩
  ·cases h3
   obtain⟨v,x,e1,e2,e3,e4,e5⟩:=(lq c).1 h2
   obtain⟨v',x',e1',e2',e3',e4',e5'⟩:=(lq c).1 h2'
   rw[e2] at e2'
   cases e2'
   rw[e3] at e3'
   cases e3'
   rw[e4] at e4'
   cases e4'
   rw[←e5] at e5'
   subst e5'
   exact J _ _ _ h1 h1'
  ·cases h3
  ·cases h3
  ·cases h3;rfl
 ·intro b o l h
  rcases inv b _ h with⟨o',p',l',a,k,h1,h2,h3⟩ | ⟨o',l',h1,h3⟩
  ·cases h3;exact⟨(hL _ _ _ h1).1,.inr rfl⟩
  ·cases h3;exact⟨(hL _ _ _ h1).1,.inl rfl⟩
 ·intro b l h
  rcases inv b _ h with⟨o',p',l',a,k,h1,h2,h3⟩ | ⟨o',l',h1,h3⟩
  ·cases h3
  ·cases h3;rfl
theorem IO {U:Pl}(hL:Lab w ρ rt U){own:List Bool}{args:List V}(c:CallChk own args):Keep N w ρ rt w (dE ρ (bh 0 own args) (bK own args)) gN:=by
 refine⟨fun b hb _=>⟨qo hb,rfl⟩,fun o nv p _ hl=>?_,fun b l hb=>⟨?_,rfl⟩⟩
 ·simp[cz,ch,bZ,gN] at hl
 ·rw[hL.f _ _ hb] at *
  exact rp hb (ls c.z) c.z'
theorem Si (H:ek w ρ rt)(J:eE ρ)(hr:gB rt){U:Pl}(hL:Lab w ρ rt U){own:List Bool}{args xs:List V}{us:List Value}(c:CallChk own args)(hlen:args.length=us.length)(hv:∀(a:Nat) v u,args[a]?=some v→us[a]?=some u→aL w ρ rt bN v u∧aw N v)(h:eI rt own args=some xs):lG w (dE ρ (bh 0 own args) (bK own args)) xs us:=by
 obtain⟨l,hx⟩:=qM h
 have K:=IO (N:=N) (rt:=rt) hL c
 have I:=xZ J hL c
 refine⟨by omega,fun a x u hxa hua=>?_⟩
 have hal:=(cB.1 hxa).1
 obtain⟨v,hva⟩:∃v,args[a]?=some v:=⟨_,dS (by omega)⟩
 obtain⟨x',e1,e2⟩:=hx a v hva
 rw[hxa] at e1
 cases e1
 obtain⟨⟨g,hp,hg⟩,hn⟩:=hv a v u hva hua
 have shareCell:own[a]?≠some true→∀(k:Nat) cc d,(cells v)[k]?=some cc→fA rt cc=some d→RepV w (dE ρ (bh 0 own args) (bK own args)) gN none d (g k)∧nh d:=by
  intro ho k cc d hc hd
  refine JI H J hr K hd (hg k cc hc) (iJ hn hc) fun b o l ho' hb=>?_
  have hin:o∈bK own args:=np ⟨a,v,ho,hva,?_⟩
  ·exact⟨ne hb (ls (c.dis o hin)) hin,(hL _ _ _ hb).1⟩
  ·by_cases ha:au v=true
   ·cases v<;>simp[au] at ha
    rename_i cs
    simp only[dN]
    have:∀{cs:List V} {k:Nat} {cc:V},cs[k]?=some cc→o∈dN cc→o∈dT cs:=by
     intro cs
     induction cs with
     | nil=>intro k cc h;simp at h
     | cons y cs ih=>
      intro k cc h ho
      simp only[dT,List.mem_append]
      cases k with
      | zero=>simp at h;subst h;exact .inl ho
      | succ k=>exact .inr (ih (by simpa using h) ho)
    exact this hc ho'
   ·rw[bO (by simpa using ha)] at hc
    cases k<;>simp at hc
    subst hc
    exact ho'
 have kS:au x=au v→(cells x).length=(cells v).length→(∀(k:Nat) d,(cells x)[k]?=some d→RepV w (dE ρ (bh 0 own args) (bK own args)) gN (some (1,[(a,k)])) d (g k)∧nh d)→
   aL w (dE ρ (bh 0 own args) (bK own args)) gN (fun k=>some (1,[(a,k)])) x u∧nh x:=by
  intro h1 h2 h3
  refine⟨⟨g,by rw[hp];unfold fh;rw[h1,h2],fun k d hd=>(h3 k d hd).1⟩,?_⟩
  by_cases ha:au x=true
  ·cases x<;>simp[au] at ha
   simp only[nh]
   exact dw.2 fun d hd=>by
    obtain⟨k,hk⟩:=List.mem_iff_getElem?.1 hd
    exact (h3 k d hk).2
  ·exact (h3 0 x (by rw[bO (by simpa using ha)];rfl)).2
 have giveCell:own[a]?=some true→∀(k:Nat) cc d,(cells v)[k]?=some cc→gY rt cc=some d→RepV w (dE ρ (bh 0 own args) (bK own args)) gN (some (1,[(a,k)])) d (g k)∧nh d:=by
  intro ho k cc d hc hd
  have hr1:=hg k cc hc
  have hn1:=iJ hn hc
  have row:∀o nv r s es,dM cc=some o→bZ rt o nv (jB cc)=some r→aU (jB cc) r.s r.es=some (s,es)→co w (dE ρ (bh 0 own args) (bK own args)) gN (1,[(a,k)]) s es∧nhs es∧(∀b,ρ b=some (o,jB cc)→dE ρ (bh 0 own args) (bK own args) b=some (1,[(a,k)]))∧cz rt o nv (jB cc):=by
   intro o nv r s es h1 h2 h3
   have hlk:=(lq c).2 ⟨v,cc,ho,hva,hc,h1,rfl⟩
   have hlook:ch rt o nv (jB cc)=some (s,es):=by simp[ch,h2,h3]
   have hnes:nhs es:=iU (hr o r (d5 h2).1) h3
   exact⟨co.move K (fun b l hb=>⟨jJ hb hlk,rfl⟩) (ol H hlook) hnes,hnes,fun b hb=>jJ (t:=[]) (by simpa using hb) hlk,by simp[cz,hlook]⟩
  unfold gY at hd
  split at hd
  ·rename_i o nv p s off len
   simp only[aE] at hd
   obtain⟨r,hro,⟨s2,es2⟩,hrow,hd⟩:=hd
   simp only at hd
   split at hd
   ·rename_i hcond
    cases hd
    obtain⟨rfl,rfl,rfl⟩:=hcond
    obtain⟨h1,h2,h3,hlive⟩:=row o nv r s es2 rfl hro hrow
    refine⟨?_,by simpa[nh] using h2⟩
    generalize g k=u' at hr1 ⊢
    cases hr1 with
    | hs _ _ _ _ _ _ _ _ hh _=>
     obtain⟨cc,A,rfl,hlc,hcc⟩:=hh hlive
     refine Nd I.inj h1 hlc fun h0=>?_
     obtain⟨b,n,hb,hbl,rfl,hle⟩:=hcc h0
     exact⟨b,n,h3 b hb,hbl,by simp,by simpa using hle⟩
   ·cases hd
  ·rename_i o nv p s i j
   simp only[aE] at hd
   obtain⟨r,hro,⟨s2,es2⟩,hrow,hd⟩:=hd
   simp only at hd
   split at hd
   ·rename_i e
    split at hd
    ·rename_i hcond
     cases hd
     obtain⟨rfl,rfl,rfl,hes⟩:=hcond
     obtain⟨h1,h2,h3,hlive⟩:=row o nv r s [e] rfl hro hrow
     refine⟨?_,by simpa[nh,nhs] using h2⟩
     generalize g k=u' at hr1 ⊢
     cases hr1 with
     | hp _ _ _ _ _ _ _ _ hh _=>
      obtain⟨b,n,hb,hbl,rfl⟩:=hh hlive
      simpa using KN I.inj h1 (h3 b hb)
    ·cases hd
   ·cases hd
  ·split at hd
   ·rename_i hpl
    cases hd
    exact⟨(hr1.keep K hn1).anyN,qv hpl hn1⟩
   ·cases hd
 rcases e2 with⟨ho,hgv⟩ | ⟨ho,hsh⟩
 ·by_cases ha:au v=true
  ·cases v<;>simp[au] at ha
   rename_i cs
   simp only[no,aF] at hgv
   obtain⟨ds,hds,rfl⟩:=hgv
   obtain⟨l2,hget⟩:=tI hds
   refine kS rfl l2 fun k d hd=>?_
   have hk:=(cB.1 hd).1
   obtain⟨d',e1,e2⟩:=hget k _ (dS (show k<cs.length by rw[←l2];exact hk))
   have hd':ds[k]?=some d:=hd
   rw[hd'] at e1
   cases e1
   exact giveCell ho k _ d (dS (show k<cs.length by rw[←l2];exact hk)) e2
  ·have ha':au v=false:=by simpa using ha
   have hg':gY rt v=some x:=by cases v<;>first | exact hgv | exact absurd rfl ha
   have hh:=giveCell ho 0 v x (by rw[bO ha'];rfl) hg'
   have hxa:au x=false:=FM hg' ha'
   refine kS (by rw[hxa,ha']) (by rw[bO hxa,bO ha'];rfl) fun k d hd=>?_
   rw[bO hxa] at hd
   cases k<;>simp at hd
   subst hd
   exact hh
 ·by_cases ha:au v=true
  ·cases v<;>simp[au] at ha
   rename_i cs
   simp only[gk,aF] at hsh
   obtain⟨ds,hds,rfl⟩:=hsh
   obtain⟨l2,hget⟩:=uc hds
   refine kS rfl l2 fun k d hd=>?_
   have hk:=(cB.1 hd).1
   obtain⟨d',e1,e2⟩:=hget k _ (dS (show k<cs.length by rw[←l2];exact hk))
   have hd':ds[k]?=some d:=hd
   rw[hd'] at e1
   cases e1
   have:=shareCell ho k _ d (dS (show k<cs.length by rw[←l2];exact hk)) e2
   exact⟨this.1.anyN,this.2⟩
  ·have ha':au v=false:=by simpa using ha
   have hv0:(cells v)[0]?=some v:=by rw[bO ha'];rfl
   by_cases hfn:∃f caps,v=.fn f caps
   ·obtain⟨f,caps,rfl⟩:=hfn
    simp only[gk,aF] at hsh
    obtain⟨ds,hds,rfl⟩:=hsh
    obtain⟨l2,hget⟩:=uc hds
    refine kS rfl rfl fun k d hd=>?_
    have:k=0∧d=.fn f ds:=by
     cases k<;>simp[cells] at hd
     exact⟨rfl,hd.symm⟩
    obtain⟨rfl,rfl⟩:=this
    have h0:=hg 0 _ hv0
    generalize g 0=u0 at h0 ⊢
    cases h0 with
    | fn _ _ _ g2 hg2=>
     have each:∀(i:Nat) d,ds[i]?=some d→RepV w (dE ρ (bh 0 own args) (bK own args)) gN none d (g2 i)∧nh d:=by
      intro i d hd
      have hk:=(cB.1 hd).1
      have hci:caps[i]?=some (caps[i]'(by omega)):=dS _
      obtain⟨d',e1,e2⟩:=hget i _ hci
      rw[hd] at e1
      cases e1
      refine JI H J hr K e2 (hg2 i _ hci) (fT (by simpa[aw] using hn) hci) fun b o l ho' hb=>?_
      have hin:o∈bK own args:=np ⟨a,_,ho,hva,by
       simp only[dN]
       have:∀{cs:List V} {k:Nat} {cc:V},cs[k]?=some cc→o∈dN cc→o∈dT cs:=by
        intro cs
        induction cs with
        | nil=>intro k cc h;simp at h
        | cons y cs ih=>
         intro k cc h ho
         simp only[dT,List.mem_append]
         cases k with
         | zero=>simp at h;subst h;exact .inl ho
         | succ k=>exact .inr (ih (by simpa using h) ho)
       exact this hci ho'⟩
      exact⟨ne hb (ls (c.dis o hin)) hin,(hL _ _ _ hb).1⟩
     rw[←l2]
     refine⟨.fn _ _ _ g2 fun i d hd=>(each i d hd).1,?_⟩
     simp only[nh]
     refine dw.2 fun d hd=>?_
     obtain⟨k,hk⟩:=List.mem_iff_getElem?.1 hd
     exact (each k d hk).2
   ·have hs':fA rt v=some x:=by
     cases v<;>first | exact hsh | exact absurd rfl ha | exact absurd ⟨_,_,rfl⟩ hfn
    have hh:=shareCell ho 0 v x hv0 hs'
    have hxa:au x=false:=by
     have:=hs'
     unfold fA at this
     split at this
     ·simp only[aE] at this
      obtain⟨r,_,h⟩:=this
      split at h<;>cases h
      rfl
     ·simp only[aE] at this
      obtain⟨r,_,h⟩:=this
      split at h
      ·simp only[aF] at h
       obtain⟨_,_,rfl⟩:=h
       rfl
      ·cases h
     ·cases this;rfl
     ·split at this<;>cases this
      exact ha'
    refine kS (by rw[hxa,ha']) (by rw[bO hxa,bO ha'];rfl) fun k d hd=>?_
    rw[bO hxa] at hd
    cases k<;>simp at hd
    subst hd
    exact⟨hh.1.anyN,hh.2⟩
end
section
variable {w w' : World} {ρ ρ' ρ'' : bD} {rt rt' rt'' : al} {N : Nat→Nat→Prop}
def SC (own:List Bool)(args:List V)(a k:Nat):Option (Nat×fB):=
 if own[a]?=some true then (args[a]?).bind fun v=>((cells v)[k]?).bind fun x=>(dM x).map fun o=>(o,jB x) else none
theorem Jd {own:List Bool}{args:List V}(c:CallChk own args){o a k:Nat}{p:fB}:SC own args a k=some (o,p)↔dK (bh 0 own args) o=some (p,a,k):=by
 rw[lq c]
 unfold SC
 constructor
 ·intro h
  split at h
  ·rename_i ho
   simp only[aE,aF,Prod.mk.injEq] at h
   obtain⟨v,h1,x,h2,o',h3,rfl,rfl⟩:=h
   exact⟨v,x,ho,h1,h2,h3,rfl⟩
  ·cases h
 ·rintro⟨v,x,ho,h1,h2,h3,rfl⟩
  simp[ho,h1,h2,h3]
theorem FE {p:fB}{r r':Root}{y:V}(h:gU p r y=some r'):r'.nv=r.nv+1:=by
 unfold gU at h
 split at h
 ·unfold qn at h
  split at h
  ·split at h<;>cases h;rfl
  ·split at h<;>cases h;rfl
  ·cases h
 ·simp only[aE] at h
  obtain⟨x,_,h⟩:=h
  split at h
  ·split at h
   ·simp only[aF] at h
    obtain⟨_,_,rfl⟩:=h
    rfl
   ·cases h
  ·split at h
   ·simp only[aF] at h
    obtain⟨_,_,rfl⟩:=h
    rfl
   ·cases h
  ·cases h
theorem DD {p:fB}{r r':Root}{y:V}(h:gU p r y=some r'):¬notOwn y:=by
 unfold gU at h
 split at h
 ·unfold qn at h
  split at h<;>first | (simp[notOwn];done) | cases h
 ·simp only[aE] at h
  obtain⟨x,_,h⟩:=h
  split at h<;>first | (simp[notOwn];done) | cases h
theorem FO {own:List Bool}{v xv xx:V}{a k:Nat}(e1:own[a]?=some true)(e3:(cells v)[k]?=some xx)(e6:(own[a]?=some true∧no rt v=some xv)∨(own[a]?≠some true∧gk rt v=some xv)):∃z,(cells xv)[k]?=some z:=by
 rcases e6 with⟨_,hgv⟩ | ⟨h,_⟩
 ·by_cases ha:au v=true
  ·cases v<;>simp[au] at ha
   simp only[no,aF] at hgv
   obtain⟨ds,hds,rfl⟩:=hgv
   obtain⟨l2,hget⟩:=tI hds
   obtain⟨d,hd,_⟩:=hget k _ e3
   exact⟨d,hd⟩
  ·rw[bO (by simpa using ha)] at e3
   cases k<;>simp at e3
   have hg2:gY rt v=some xv:=by cases v<;>first | exact hgv | exact absurd rfl ha
   rw[bO (FM hg2 (by simpa using ha))]
   exact⟨xv,rfl⟩
 ·exact absurd e1 h
open Classical in
noncomputable def eg (w:World)(ρ ρ':bD)(own:List Bool)(args:List V)(dead:List Nat)(rt2:al)(q:Nat):bD:=fun b=>
 match ρ' b with
 | some (0,_)=>(match ρ b with
  | some (o,l)=>if dK (bh 0 own args) o=none∨(rt2 o).isSome then some (o,l) else none
  | none=>none)
 | some (1,x::l)=>match SC own args x.1 x.2 with
  | some (o,p)=>if (rt2 o).isSome then some (o,p++l) else none
  | none=>none
 | some (2,l)=>some (q,l)
 | some _=>none
 | none=>if b<w.heap.size then (match ρ b with
  | some (o,l)=>if dK (bh 0 own args) o=none∧o∉dead then some (o,l) else none
  | none=>none) else none
section
variable {own : List Bool} {args xs : List V} {us : List Value} {cO : List V} {dead : List Nat} {rt2 : al} {q : Nat} {r : V} {u : Value}
 (H:ek w ρ rt) (J:eE ρ) (hr:gB rt) (hL:Lab w ρ rt jw) (hq:Fresh0 rt q) (c:CallChk own args)
 (af:Aft w (dE ρ (bh 0 own args) (bK own args)) w' ρ') (hdead:∀o,o∈dead→o∈bK own args) (hrt2:rt2=jc rt (bh 0 own args) own cO dead)
include H J hr hL hq c af hdead hrt2
theorem tB {b a k o:Nat}{l p}(h:ρ' b=some (1,(a,k)::l))(hg:dK (bh 0 own args) o=some (p,a,k))(ho:(rt2 o).isSome=true):eg w ρ ρ' own args dead rt2 q b=some (o,p++l):=by
 simp[eg,h,(Jd c).2 hg,ho]
theorem Sd {b:Nat}{l}(h:ρ' b=some (2,l)):eg w ρ ρ' own args dead rt2 q b=some (q,l):=by simp[eg,h]
theorem vK {b o:Nat}{l}(h:ρ b=some (o,l))(hg:dK (bh 0 own args) o=none)(ho:o∉dead):eg w ρ ρ' own args dead rt2 q b=some (o,l)∧w'.heap[b]?=w.heap[b]?:=by
 have hlt:=(hL b o l h).1
 by_cases hl:o∈bK own args
 ·have h1:=af.fr b (ne h hg hl) hlt
  exact⟨by simp[eg,h1.1,hlt,h,hg,ho],h1.2⟩
 ·have h1:=af.k0 b _ (rp h hg hl)
  exact⟨by simp[eg,h1.1,h,hg],h1.2⟩
theorem FH {b o a k:Nat}{l p}(h:ρ b=some (o,l))(hg:dK (bh 0 own args) o=some (p,a,k))(hp:¬p <+: l)(ho:(rt2 o).isSome=true):eg w ρ ρ' own args dead rt2 q b=some (o,l)∧w'.heap[b]?=w.heap[b]?:=by
 have h1:=af.k0 b _ (vL h hg hp)
 exact⟨by simp[eg,h1.1,h,ho],h1.2⟩
theorem ob {b o:Nat}{l}(h:eg w ρ ρ' own args dead rt2 q b=some (o,l)):(∃p t a k,l=p++t∧ρ' b=some (1,(a,k)::t)∧dK (bh 0 own args) o=some (p,a,k)∧(rt2 o).isSome=true)∨(o=q∧ρ' b=some (2,l))∨
  (ρ b=some (o,l)∧((dK (bh 0 own args) o=none∧o∉dead)∨∃p a k,dK (bh 0 own args) o=some (p,a,k)∧¬p <+: l∧(rt2 o).isSome=true)):=by
 unfold eg at h
 split at h
 ·rename_i l' hb
  right;right
  have h1:=af.f0 b l' hb
  split at h
  ·rename_i o1 l1 hb1
   split at h
   ·rename_i hor
    cases h
    refine⟨hb1,?_⟩
    cases hg:dK (bh 0 own args) o with
    | none=>
     refine .inl ⟨rfl,fun hd=>?_⟩
     rw[ne hb1 hg (hdead o hd)] at h1
     cases h1
    | some x=>
     obtain⟨p,a,k⟩:=x
     refine .inr ⟨p,a,k,rfl,?_,hor.resolve_left (by rw[hg];simp)⟩
     rintro⟨t,rfl⟩
     rw[jJ hb1 hg] at h1
     cases h1
   ·cases h
  ·cases h
 ·rename_i x l' hb
  split at h
  ·rename_i o' p' hi
   split at h
   ·rename_i hs
    cases h
    exact .inl ⟨p',l',x.1,x.2,rfl,hb,(Jd c).1 hi,hs⟩
   ·cases h
  ·cases h
 ·rename_i l' hb
  cases h
  exact .inr (.inl ⟨rfl,hb⟩)
 ·cases h
 ·split at h
  ·split at h
   ·rename_i hb
    split at h
    ·rename_i hc
     cases h
     exact .inr (.inr ⟨hb,.inl hc⟩)
    ·cases h
   ·cases h
  ·cases h
theorem PC (hd:∀o,o∈bK own args→o∈dead){b:Nat}(h:ρ' b=none):eg w ρ ρ' own args dead rt2 q b=none:=by
 cases hb:eg w ρ ρ' own args dead rt2 q b with
 | none=>rfl
 | some L=>
  obtain⟨o,l⟩:=L
  exfalso
  rcases ob H J hr hL hq c af hdead hrt2 hb with⟨p,t,a,k,_,h1,_⟩ | ⟨_,h1⟩ | ⟨h1,⟨h2,h3⟩ | ⟨p,a,k,h2,h3,_⟩⟩
  ·rw[h] at h1;cases h1
  ·rw[h] at h1;cases h1
  ·have:=(af.k0 b _ (rp h1 h2 (fun hl=>h3 (hd o hl)))).1
   rw[h] at this
   cases this
  ·have:=(af.k0 b _ (vL h1 h2 h3)).1
   rw[h] at this
   cases this
theorem Az {o:Nat}(h:rt o=none):rt2 o=none:=by
 rw[hrt2]
 unfold jc
 split
 ·simp[h]
 ·split
  ·rfl
  ·exact h
theorem ua {o:Nat}{r':Root}(h:rt2 o=some r')(hg:dK (bh 0 own args) o=none):rt o=some r'∧o∉dead:=by
 rw[hrt2] at h
 unfold jc at h
 rw[hg] at h
 simp only at h
 split at h
 ·cases h
 ·rename_i hd
  exact⟨h,by simpa using hd⟩
theorem Ay {o a k:Nat}{p:fB}{r':Root}(h:rt2 o=some r')(hg:dK (bh 0 own args) o=some (p,a,k)):∃r x y,rt o=some r∧dP own cO a=some x∧(cells x)[k]?=some y∧gU p r y=some r':=by
 rw[hrt2] at h
 unfold jc at h
 rw[hg] at h
 simp only[aE] at h
 obtain⟨r,h1,y,⟨x,h2,h3⟩,h4⟩:=h
 exact⟨r,x,y,h1,h2,h3,h4⟩
theorem IK:eE (eg w ρ ρ' own args dead rt2 q):=by
 have hq2:rt2 q=none:=Az H J hr hL hq c af hdead hrt2 (hq.at')
 have hqρ:∀b l,ρ b≠some (q,l):=by
  intro b l h
  rcases (hL _ _ _ h).2 with h | ⟨r,h⟩
  ·have:=hq.p;simp only[jw] at h;omega
  ·rw[hq.at'] at h;cases h
 rintro b b' ⟨o,l⟩ h h'
 rcases ob H J hr hL hq c af hdead hrt2 h with⟨p,t,a,k,h0,h1,h2,h3⟩ | ⟨h1,h2⟩ | ⟨h1,h2⟩<;>rcases ob H J hr hL hq c af hdead hrt2 h' with⟨p',t',a',k',h0',h1',h2',h3'⟩ | ⟨h1',h2'⟩ | ⟨h1',h2'⟩
 ·rw[h2] at h2'
  cases h2'
  rw[h0] at h0'
  have:=List.append_cancel_left h0'
  subst this
  exact af.inj _ _ _ h1 h1'
 ·subst h1'
  rw[hq2] at h3
  cases h3
 ·rcases h2' with⟨h2',_⟩ | ⟨p',a',k',h2',h3',_⟩
  ·rw[h2] at h2';cases h2'
  ·rw[h2] at h2'
   cases h2'
   exact absurd ⟨t,h0.symm⟩ h3'
 ·subst h1
  rw[hq2] at h3'
  cases h3'
 ·exact af.inj _ _ _ h2 h2'
 ·subst h1
  exact absurd h1' (hqρ _ _)
 ·rcases h2 with⟨h2,_⟩ | ⟨p,a,k,h2,h3,_⟩
  ·rw[h2] at h2';cases h2'
  ·rw[h2] at h2'
   cases h2'
   exact absurd ⟨t',h0'.symm⟩ h3
 ·subst h1'
  exact absurd h1 (hqρ _ _)
 ·exact J _ _ _ h1 h1'
theorem TE {o0:Nat}{p0:List (Nat×Nat)}{L:dj}{v:V}{z:Value}(h:RepV w' ρ' gN (some (o0,p0)) v z)(hn:nh v)(hd:cy v=true→∀o,o∈bK own args→o∈dead)(hmv:∀b l,ρ' b=some (o0,p0++l)→eg w ρ ρ' own args dead rt2 q b=some (L.1,L.2++l)):RepV w' (eg w ρ ρ' own args dead rt2 q) rt2 (some L) v z:=by
 have e:∀l:List (Nat×Nat),(p0++l).drop p0.length=l:=fun l=>by simp
 by_cases hi:cy v=true
 ·have:=h.mono0 (New:=fun _ _=>True) (w':=w') (ρ':=eg w ρ ρ' own args dead rt2 q) (rt':=rt2) ⟨fun b hb _=>⟨PC H J hr hL hq c af hdead hrt2 (hd hi) hb,rfl⟩,fun o nv p hN _=>absurd trivial hN⟩
   (fun l=>(L.1,L.2++l.2.drop p0.length)) (fun l=>l.1=o0∧p0 <+: l.2)
   (fun l i k hl=>by
    obtain⟨_,t,ht⟩:=hl
    simp[dj.at,←ht])
   (fun l i k hl=>⟨hl.1,hl.2.trans (by simp[dj.at])⟩)
   (fun b l hl hb=>by
    obtain⟨l1,l2⟩:=l
    obtain⟨rfl,t,rfl⟩:=hl
    exact⟨by simpa using hmv b t hb,rfl⟩)
   (fun l hl=>by cases hl;exact⟨rfl,List.prefix_refl _⟩) (cS hn)
  simpa using this
 ·have:=h.monoN (w':=w') (ρ':=eg w ρ ρ' own args dead rt2 q) (rt':=rt2)
   (fun l=>(L.1,L.2++l.2.drop p0.length)) (fun l=>l.1=o0∧p0 <+: l.2)
   (fun l i k hl=>by
    obtain⟨_,t,ht⟩:=hl
    simp[dj.at,←ht])
   (fun l i k hl=>⟨hl.1,hl.2.trans (by simp[dj.at])⟩)
   (fun b l hl hb=>by
    obtain⟨l1,l2⟩:=l
    obtain⟨rfl,t,rfl⟩:=hl
    exact⟨by simpa using hmv b t hb,rfl⟩)
   (fun l hl=>by cases hl;exact⟨rfl,List.prefix_refl _⟩) hn (by simpa using hi)
  simpa using this
theorem FG {Un:Nat→Prop}(hret:∀o r',rt2 o=some r'→True)(hlen:args.length=us.length)(hxs:eI rt own args=some xs)(hargs:lG w (dE ρ (bh 0 own args) (bK own args)) xs us)(hout:na w (dE ρ (bh 0 own args) (bK own args)) w' ρ' own xs us cO){id:Nat} :
  Keep (cg Un rt) w ρ rt w' (eg w ρ ρ' own args dead rt2 q) rt2:=by
 refine⟨fun b hb hl=>?_,fun o nv p hN hl=>?_,fun b l hb=>?_⟩
 ·have h1:=af.fr b (qo hb) hl
  exact⟨by simp[eg,h1.1,hl,hb],h1.2⟩
 ·obtain⟨r',hr2,hpv⟩:∃r',rt2 o=some r'∧((p=[]∨r'.nv=nv)∧(aU p r'.s r'.es).isSome=true):=by
   unfold cz ch at hl
   cases hv:bZ rt2 o nv p with
   | none=>simp[hv] at hl
   | some r'=>
    obtain⟨h1,h2⟩:=d5 hv
    simp only[hv,b6] at hl
    exact⟨r',h1,h2,hl⟩
  cases hg:dK (bh 0 own args) o with
  | none=>
   obtain⟨h1,h2⟩:=ua H J hr hL hq c af hdead hrt2 hr2 hg
   refine⟨?_,fun b n hb hn=>⟨(vK H J hr hL hq c af hdead hrt2 hb hg h2).1,af.wk.blk b n hn⟩⟩
   unfold cz ch bZ
   have:(p.isEmpty||r'.nv==nv)=true:=by
    rcases hpv.1 with h | h<;>simp[h]
   simp[h1,this,hpv.2]
  | some x=>
   obtain⟨pp,a,k⟩:=x
   obtain⟨r1,x,y,h1,h2,h3,h4⟩:=Ay H J hr hL hq c af hdead hrt2 hr2 hg
   have hnv:nv≤r1.nv:=Nat.le_of_not_lt fun hlt=>hN (.inr ⟨r1,h1,hlt⟩)
   have hnv':r'.nv=r1.nv+1:=FE h4
   have hp:p=[]:=by
    rcases hpv.1 with h | h
    ·exact h
    ·omega
   subst hp
   refine⟨by simp[cz,ch,bZ,h1,aU],fun b n hb hn=>⟨?_,af.wk.blk b n hn⟩⟩
   by_cases hpp:pp=[]
   case neg=>
    exact (FH H J hr hL hq c af hdead hrt2 hb hg (by simpa using hpp) (by rw[hr2];rfl)).1
   subst hpp
   obtain⟨v,xx,e1,e2,e3,e4,_⟩:=(lq c).1 hg
   obtain⟨ll,hx⟩:=qM hxs
   obtain⟨xv,e5,e6⟩:=hx a v e2
   have hua:∃u,us[a]?=some u:=⟨_,dS (by have:=(cB.1 e2).1;omega)⟩
   obtain⟨u,hua⟩:=hua
   obtain⟨⟨g,hp,hg'⟩,hnn⟩:=hargs.2 a xv u e5 hua
   have hyo:¬notOwn y:=DD h4
   obtain⟨z,hz⟩:=FO e1 e3 e6
   obtain⟨q1,q2,q3⟩:=hout a xv u x e5 hua h2 g hp k y z h3 hz hyo
   have:=tB H J hr hL hq c af hdead hrt2 (q3 b n (jJ (t:=[]) (by simpa using hb) hg) hn) hg (by rw[hr2];rfl)
   simpa using this
 ·have h0:dK (bh 0 own args) 0=none:=ls c.z
  exact vK H J hr hL hq c af hdead hrt2 hb h0 fun hd=>c.z' (hdead 0 hd)
end
end
section
variable {w w' : World} {ρ ρ' ρ'' : bD} {rt rt' rt'' : al} {N : Nat→Nat→Prop}
theorem oD:∀{vs:List V} {i:Nat} {v:V},cZ vs=false→vs[i]?=some v→cy v=false
 | [],i,v,_,h=>by simp at h
 | x::vs,i,v,h,e=>by
  simp only[cZ,Bool.or_eq_false_iff] at h
  cases i with
  | zero=>simp at e;subst e;exact h.1
  | succ i=>exact oD h.2 (by simpa using e)
theorem yk {v x:V}{k:Nat}(h:cy v=false)(e:(cells v)[k]?=some x):cy x=false:=by
 by_cases ha:au v=true
 ·cases v<;>simp[au] at ha
  exact oD (by simpa[cy,cells] using h) e
 ·rw[bO (by simpa using ha)] at e
  cases k<;>simp at e
  subst e
  exact h
theorem wc:∀{own:List Bool} {cO:List V} {a:Nat} {x:V},dP own cO a=some x→∃i:Nat,cO[i]?=some x
 | [],cO,a,x,h=>by simp[dP] at h
 | true::bs,[],a,x,h=>by cases a<;>simp[dP] at h
 | true::bs,y::ys,0,x,h=>by simp[dP] at h;exact⟨0,by simp[h]⟩
 | true::bs,y::ys,a+1,x,h=>by
  simp only[dP] at h
  obtain⟨i,hi⟩:=wc h
  exact⟨i+1,by simpa using hi⟩
 | false::bs,cO,0,x,h=>by cases cO<;>simp[dP] at h
 | false::bs,cO,a+1,x,h=>by
  have:dP bs cO a=some x:=by cases cO<;>simpa[dP] using h
  exact wc this
section
variable {own : List Bool} {args xs : List V} {us : List Value} {cO : List V} {dead : List Nat} {rt2 : al} {q : Nat} {r : V} {u : Value}
 (H:ek w ρ rt) (J:eE ρ) (hr:gB rt) (hL:Lab w ρ rt jw) (hq:Fresh0 rt q) (c:CallChk own args)
 (af:Aft w (dE ρ (bh 0 own args) (bK own args)) w' ρ') (hdead:∀o,o∈dead→o∈bK own args) (hrt2:rt2=jc rt (bh 0 own args) own cO dead)
include H J hr hL hq c af hdead hrt2
theorem FF (hlen:args.length=us.length)(hxs:eI rt own args=some xs)(hargs:lG w (dE ρ (bh 0 own args) (bK own args)) xs us)(hout:na w (dE ρ (bh 0 own args) (bK own args)) w' ρ' own xs us cO){o a k:Nat}{p:fB}{r':Root}(hr2:rt2 o=some r')(hg:dK (bh 0 own args) o=some (p,a,k)) :
  ∃r1 x y z,rt o=some r1∧dP own cO a=some x∧(cells x)[k]?=some y∧gU p r1 y=some r'∧¬notOwn y∧nh y∧RepV w' ρ' gN (some (1,[(a,k)])) y z∧
   ∀b n,dE ρ (bh 0 own args) (bK own args) b=some (1,[(a,k)])→ki w b n→ρ' b=some (1,[(a,k)]):=by
 obtain⟨r1,x,y,h1,h2,h3,h4⟩:=Ay H J hr hL hq c af hdead hrt2 hr2 hg
 obtain⟨v,xx,e1,e2,e3,e4,_⟩:=(lq c).1 hg
 obtain⟨ll,hx⟩:=qM hxs
 obtain⟨xv,e5,e6⟩:=hx a v e2
 obtain⟨u,hua⟩:∃u,us[a]?=some u:=⟨_,dS (by have:=(cB.1 e2).1;omega)⟩
 obtain⟨⟨g,hp,hg'⟩,hnn⟩:=hargs.2 a xv u e5 hua
 have hyo:¬notOwn y:=DD h4
 obtain⟨z,hz⟩:=FO e1 e3 e6
 obtain⟨q1,q2,q3⟩:=hout a xv u x e5 hua h2 g hp k y z h3 hz hyo
 exact⟨r1,x,y,g k,h1,h2,h3,h4,hyo,q1,q2,q3⟩
theorem Se (hlen:args.length=us.length)(hxs:eI rt own args=some xs)(hargs:lG w (dE ρ (bh 0 own args) (bK own args)) xs us)(hout:na w (dE ρ (bh 0 own args) (bK own args)) w' ρ' own xs us cO)(him:cZ cO=true→∀o,o∈bK own args→o∈dead) :
  ek w' (eg w ρ ρ' own args dead rt2 q) rt2∧gB rt2∧Lab w' (eg w ρ ρ' own args dead rt2 q) rt2 (fun o _=>o=0∨o=q):=by
 have K:=FG H J hr hL hq c af hdead hrt2 (Un:=fun _=>False) (fun _ _ _=>trivial) hlen hxs hargs hout (id:=q)
 have BJ:=IK H J hr hL hq c af hdead hrt2
 refine⟨fun o r' h=>?_,fun o r' h=>?_,?_⟩
 ·cases hg:dK (bh 0 own args) o with
  | none=>
   obtain⟨h1,h2⟩:=ua H J hr hL hq c af hdead hrt2 h hg
   exact co.under K (fun b l hb _=>vK H J hr hL hq c af hdead hrt2 hb hg h2) (H o r' h1) (hr o r' h1)
  | some x=>
   obtain⟨p,a,k⟩:=x
   obtain⟨r1,x,y,z,h1,h2,h3,h4,h5,h6,h7,h8⟩:=FF H J hr hL hq c af hdead hrt2 hlen hxs hargs hout h hg
   have hsm:(rt2 o).isSome=true:=by rw[h];rfl
   have hcar:=TE H J hr hL hq c af hdead hrt2 (L:=(o,p)) h7 h6 (fun hi=>him (by
    cases hb:cZ cO with
    | true=>rfl
    | false=>
     obtain⟨i,hi'⟩:=wc h2
     rw[yk (oD hb hi') h3] at hi
     cases hi)) (fun b l hb=>tB H J hr hL hq c af hdead hrt2 hb hg hsm)
   have deep:∀{s1:Nat} {old new es':List V},aU p r1.s r1.es=some (s1,old)→setRow new p r1.es=some es'→new.length=old.length→co w' (eg w ρ ρ' own args dead rt2 q) rt2 (o,p) s1 new→co w' (eg w ρ ρ' own args dead rt2 q) rt2 (o,[]) r1.s es':=by
    intro s1 old new es' q1 q2 q3 q4
    refine pa (p0:=[]) K BJ q3 (H o r1 h1) (hr o r1 h1) q1 q2 (fun b l hb _ hl=>?_) (fun b arr T hb hh=>?_) (by simpa using q4)
    ·exact FH H J hr hL hq c af hdead hrt2 hb hg (by simpa using hl) hsm
    ·have hb':ρ b=some (o,p++[]):=by simpa using hb
     have hk:=h8 b arr.size (jJ hb' hg) ⟨arr,T,hh,rfl⟩
     have:=tB H J hr hL hq c af hdead hrt2 hk hg hsm
     obtain⟨arr',T',q5,q6⟩:=af.wk.blk b arr.size ⟨arr,T,hh,rfl⟩
     exact⟨by simpa using this,arr',T',q5,q6⟩
   unfold gU at h4
   split at h4
   ·unfold qn at h4
    split at h4
    ·split at h4<;>cases h4
     exact pb hcar
    ·rename_i e
     split at h4
     ·rename_i hc
      cases h4
      have:=nD hcar
      rw[hc] at this
      exact this
     ·cases h4
    ·cases h4
   ·simp only[aE] at h4
    obtain⟨⟨s1,old⟩,q1,h4⟩:=h4
    simp only at h4
    split at h4
    ·split at h4
     ·rename_i hc
      simp only[aF] at h4
      obtain⟨es',q2,rfl⟩:=h4
      obtain⟨rfl,hc2⟩:=hc
      exact deep q1 q2 hc2 (pb hcar)
     ·cases h4
    ·rename_i e
     split at h4
     ·rename_i hc
      simp only[aF] at h4
      obtain⟨es',q2,rfl⟩:=h4
      have:=nD hcar
      rw[hc.1] at this
      exact deep q1 q2 (by simp[hc.2]) this
     ·cases h4
    ·cases h4
 ·cases hg:dK (bh 0 own args) o with
  | none=>exact hr o r' (ua H J hr hL hq c af hdead hrt2 h hg).1
  | some x=>
   obtain⟨p,a,k⟩:=x
   obtain⟨r1,x,y,z,h1,h2,h3,h4,h5,h6,h7,h8⟩:=FF H J hr hL hq c af hdead hrt2 hlen hxs hargs hout h hg
   unfold gU at h4
   split at h4
   ·unfold qn at h4
    split at h4
    ·split at h4<;>cases h4
     simpa[nh] using h6
    ·split at h4<;>cases h4
     simpa[nh,nhs] using h6
    ·cases h4
   ·simp only[aE] at h4
    obtain⟨⟨s1,old⟩,q1,h4⟩:=h4
    simp only at h4
    split at h4
    ·split at h4
     ·simp only[aF] at h4
      obtain⟨es',q2,rfl⟩:=h4
      exact mL (by simpa[nh] using h6) (hr o r1 h1) q2
     ·cases h4
    ·split at h4
     ·simp only[aF] at h4
      obtain⟨es',q2,rfl⟩:=h4
      exact mL (by simpa[nh,nhs] using h6) (hr o r1 h1) q2
     ·cases h4
    ·cases h4
 ·refine⟨fun b o l h=>?_,Az H J hr hL hq c af hdead hrt2 hL.z,fun b l h=>?_⟩
  ·rcases ob H J hr hL hq c af hdead hrt2 h with⟨p,t,a,k,h0,h1,h2,h3⟩ | ⟨h1,h2⟩ | ⟨h1,h2⟩
   ·exact⟨(af.lab _ _ _ h1).1,.inr (Option.isSome_iff_exists.1 h3)⟩
   ·exact⟨(af.lab _ _ _ h2).1,.inl (.inr h1)⟩
   ·refine⟨Nat.lt_of_lt_of_le (hL _ _ _ h1).1 af.wk.size,?_⟩
    rcases h2 with⟨h2,h3⟩ | ⟨p,a,k,h2,h3,h4⟩
    ·rcases (hL _ _ _ h1).2 with h | ⟨r,h⟩
     ·exact .inl (.inl h)
     ·refine .inr ⟨r,?_⟩
      rw[hrt2]
      unfold jc
      rw[h2]
      simp[h3,h]
    ·exact .inr (Option.isSome_iff_exists.1 h4)
  ·rcases ob H J hr hL hq c af hdead hrt2 h with⟨p,t,a,k,h0,h1,h2,h3⟩ | ⟨h1,h2⟩ | ⟨h1,h2⟩
   ·rw[ls c.z] at h2;cases h2
   ·have:=hq.p;omega
   ·exact hL.f _ _ h1
end
theorem ID.mono {P:Program}{f:FuncId}{us:Array Value}{K K':Value→World→Prop}(h:ID P f us w K)(hk:∀u w',K u w'→K' u w'):ID P f us w K':=by
 rcases h with⟨u,w',h1,h2⟩ | ⟨h1,h2⟩
 ·exact .inl ⟨u,w',h1,hk _ _ h2⟩
 ·exact .inr ⟨h1,h2.mono fun e w' ⟨u,he,h⟩=>⟨u,he,hk _ _ h⟩⟩
theorem S2 {vs:List V}{p:Nat→Value}(h:∀(c:Nat) v,vs[c]?=some v→aL w ρ rt bN v (p c)):RepV w ρ rt none (.tup vs) (.tuple (dx vs.length p)):=by
 have:∀c:Nat,∃g:Nat→Value,∀v,vs[c]?=some v→p c=fh v g∧∀k x,(cells v)[k]?=some x→RepV w ρ rt none x (g k):=fun c=>by
  cases hv:vs[c]? with
  | none=>exact⟨fun _=>undef,fun v h=>by cases h⟩
  | some v=>
   obtain⟨g,h1,h2⟩:=h c v hv
   exact⟨g,fun v' h'=>by cases h';exact⟨h1,h2⟩⟩
 obtain⟨g,hg⟩:=Classical.skolem.1 this
 exact .tup _ vs p g (fun c v hv=>(hg c v hv).1) fun c v k x hv hx=>(hg c v hv).2 k x hx
theorem WK {P:Program}{E:Env}{G:Ground}(hG:∀f e,E.fn f=some e→fq P G f e)(H:ek w ρ rt)(J:eE ρ)(hr:gB rt)(hL:Lab w ρ rt jw){Un:Nat→Prop}{id:Nat}(hi:Fresh Un rt id)(hgr:G.ok w ρ){f:FuncId}{args:List V}{us:List Value}{v:V}(hlen:args.length=us.length)(hv:∀(a:Nat) v u,args[a]?=some v→us[a]?=some u→aL w ρ rt bN v u∧aw (cg Un rt) v)(h:lT E rt id f args=some (v,rt')):ID P f us.toArray w (fun u w'=>qi Un w ρ rt id v rt' u w'):=by
 simp only[lT,aE] at h
 obtain⟨e,he,h⟩:=h
 split at h
 ·rename_i hchk
  have c:=UC hchk
  simp only[aE] at h
  obtain⟨xs,hxs,⟨r,cO⟩,hF,h⟩:=h
  simp only at h
  split at h
  ·rename_i hroom
   cases h
   have hargs:=Si (N:=cg Un rt) H J hr hL c hlen hv hxs
   have hinn:=xZ J hL c
   refine (hG f e he w _ xs us r cO hargs hinn ⟨hgr.1,fun b hb=>qo (hgr.2.1 b hb),hgr.2.2⟩ hF).mono ?_
   rintro u w' ⟨ρ',af,⟨p,hu,hp⟩,hout⟩
   generalize hdd:(if (cy r||cZ cO)=true then bK e.own args else [])=dead at hroom ⊢
   have hdead:∀o,o∈dead→o∈bK e.own args:=fun o ho=>by
    rw[←hdd] at ho
    split at ho
    ·exact ho
    ·cases ho
   have himm:(cy r||cZ cO)=true→∀o,o∈bK e.own args→o∈dead:=fun hi o ho=>by
    rw[←hdd,if_pos hi];exact ho
   generalize hrt2:jc rt (bh 0 e.own args) e.own cO dead=rt2 at hroom ⊢
   have hrt2':=hrt2.symm
   obtain⟨b1,b2,b3⟩:=Se H J hr hL hi.one c af hdead hrt2' hlen hxs hargs hout (fun hb=>himm (by simp[hb]))
   have bk:=FG H J hr hL hi.one c af hdead hrt2' (Un:=Un) (fun _ _ _=>trivial) hlen hxs hargs hout (id:=id)
   have bj:=IK H J hr hL hi.one c af hdead hrt2'
   have hf2:Fresh Un rt2 id:=⟨fun o ho=>Az H J hr hL hi.one c af hdead hrt2' (hi.f o ho),hi.u,hi.p⟩
   have hcell:∀(cc:Nat) (v:V),(fe r)[cc]?=some v→cy r=false→cy v=false:=by
    intro cc v hv hn
    by_cases ht:lr r=true
    ·cases r<;>simp[lr] at ht
     exact oD (by simpa[cy,fe] using hn) hv
    ·have hcr:fe r=[r]:=by cases r<;>first | rfl | exact absurd rfl ht
     rw[hcr] at hv
     cases cc with
     | zero=>simp at hv;subst hv;exact hn
     | succ cc=>simp at hv
   have pl:=Js (N:=cg Un rt) b1 bj b2 b3 (Nat.ne_of_gt hi.p) hf2.at hi.p (fun o h1 h2=>hf2.f o (hi.u o h1 (by omega))) (fun o nv h1 h2=>.inl (hi.u o h1 (by omega))) (vs:=fe r) (p:=p) (fun cc v hv=>by
    obtain⟨⟨g,h1,h2⟩,h3,h4⟩:=hp cc v hv
    refine⟨⟨g,h1,fun k x hx=>?_⟩,h3⟩
    refine TE H J hr hL hi.one c af hdead hrt2' (L:=(id,[(cc,k)])) (h2 k x hx) (bR h3 hx) (fun him=>himm ?_) (fun b l hb=>Sd H J hr hL hi.one c af hdead hrt2' hb)
    cases hri:cy r with
    | true=>simp
    | false=>rw[yk (hcell cc v hv hri) hx] at him;cases him)
   refine⟨_,⟨pl.rok,pl.inj,pl.rtn,bk.trans pl.keep af.wk.size,pl.lab,af.wk,?_,fun b l h=>?_⟩,?_,?_⟩
   rotate_left
   ·rcases ob H J hr hL hi.one c af hdead hrt2' (pl.f0 b l h) with⟨p,t,a,k,h0,h1,h2,h3⟩ | ⟨h1,h2⟩ | ⟨h1,h2⟩
    ·rw[ls c.z] at h2;cases h2
    ·have:=hi.p;omega
    ·exact h1
   rotate_right
   ·intro o r' h
    rcases pl.nv o r' h with h1 | ⟨h1,h2⟩
    ·left
     cases hg:dK (bh 0 e.own args) o with
     | none=>exact⟨r',(ua H J hr hL hi.one c af hdead hrt2' h1 hg).1,Nat.le_refl _⟩
     | some x=>
      obtain⟨p,a,k⟩:=x
      obtain⟨r1,x,y,q1,q2,q3,q4⟩:=Ay H J hr hL hi.one c af hdead hrt2' h1 hg
      exact⟨r1,q1,by rw[FE q4];exact Nat.le_succ _⟩
    ·exact .inr ⟨h1,by omega⟩
   ·have ll:=(jU (vs:=fe r) (id:=id) (c:=0)).1
    rw[hu]
    by_cases ht:lr r=true
    ·cases r<;>simp[lr] at ht
     rename_i vs
     simp only[lr,if_true,tZ]
     have:=S2 fun c y hy=>(pl.val c y hy).1
     rw[ll] at this
     exact aL.mk1 rfl this
    ·have hcr:fe r=[r]:=by cases r<;>first | rfl | exact absurd rfl ht
     have hys:∃y,(bF id 0 (fe r)).1=[y]:=by
      rw[hcr] at ll ⊢
      match hh:(bF id 0 [r]).1,ll with
      | [y],_=>exact⟨y,rfl⟩
     obtain⟨y,hy⟩:=hys
     have hret:tZ r (bF id 0 (fe r)).1=y:=by
      rw[hy]
      cases r<;>first | rfl | exact absurd rfl ht
     simp only[ht]
     rw[hret]
     exact (pl.val 0 y (by rw[hy];rfl)).1
   ·have mono:∀{y:V},(∀Un':Nat→Prop,(∀o,id≤o→o<id+(bF id 0 (fe r)).2.length→¬Un' o)→aw (cg Un' (d4 rt2 id (bF id 0 (fe r)).2)) y)→aw (cg (tP Un id) (d4 rt2 id (bF id 0 (fe r)).2)) y:=fun hn=>
     hn _ fun o h1 h2 h=>h.2 ⟨h1,by omega⟩
    by_cases ht:lr r=true
    ·cases r<;>simp[lr] at ht
     rename_i vs
     simp only[tZ,aw]
     refine dY.2 fun y hy=>?_
     obtain⟨c,hc⟩:=List.mem_iff_getElem?.1 hy
     exact mono (pl.val c y hc).2
    ·have ll:=(jU (vs:=fe r) (id:=id) (c:=0)).1
     have hcr:fe r=[r]:=by cases r<;>first | rfl | exact absurd rfl ht
     have hys:∃y,(bF id 0 (fe r)).1=[y]:=by
      rw[hcr] at ll ⊢
      match hh:(bF id 0 [r]).1,ll with
      | [y],_=>exact⟨y,rfl⟩
     obtain⟨y,hy⟩:=hys
     have hret:tZ r (bF id 0 (fe r)).1=y:=by
      rw[hy]
      cases r<;>first | rfl | exact absurd rfl ht
     rw[hret]
     exact mono (pl.val 0 y (by rw[hy];rfl)).2
  ·cases h
 ·cases h
end
section
variable {w w' : World} {ρ ρ' ρ'' : bD} {rt rt' rt'' : al} {N : Nat→Nat→Prop}
def Hq (P:Program)(o:Oper)(a:Act)(w:World)(K:Value→World→Prop):Prop:=
 (∃u w',(execOp a.eval o).run P w=.ok (.value u) w'∧K u w')∨(∃w',(execOp a.eval o).run P w=.ok .skip w'∧K undef w')∨
 (∃f us,(execOp a.eval o).run P w=.ok (.enter f us) w∧Calls P f us w fun e w'=>∃u,e=.returned u∧K u w')
theorem Hq.wp {P:Program}{o:Oper}{a:Act}{K:Value→World→Prop}{next:Act→World→Prop}{Q:Exit→Act→World→Prop}(h:Hq P o a w K)(hn:∀u w',K u w'→next (a.put o.dst u) w'):o.wp P a w next Q:=by
 unfold Oper.wp
 rcases h with⟨u,w',h1,h2⟩ | ⟨w',h1,h2⟩ | ⟨f,us,h1,h2⟩
 ·rw[h1];exact hn u w' h2
 ·rw[h1];exact hn undef w' h2
 ·rw[h1]
  exact h2.mono fun e w' ⟨u,he,hk⟩=>by subst he;exact hn u w' hk
theorem Uv {x:Array Operand}{st:St}{d:V}(h:gC st x.toList=some [d]):∃p,x=#[p]∧ev st p=some d:=by
 obtain⟨l⟩:=x
 simp only at h
 match l,h with
 | [p],h=>
  simp only[gC,aE,aF] at h
  obtain⟨v,hv,_,h1,h2⟩:=h
  cases h1
  cases h2
  exact⟨p,rfl,hv⟩
 | [],h=>simp[gC] at h
 | _::_::_,h=>
  simp only[gC,aE,aF] at h
  obtain⟨v,hv,_,⟨_,_,_,_,h1⟩,h2⟩:=h
  subst h1
  cases h2
theorem Uw {x:Array Operand}{st:St}{d e:V}(h:gC st x.toList=some [d,e]):∃p q,x=#[p,q]∧ev st p=some d∧ev st q=some e:=by
 obtain⟨l⟩:=x
 simp only at h
 match l,h with
 | [p,q],h=>
  simp only[gC,aE,aF] at h
  obtain⟨v,hv,_,⟨v2,hv2,_,h3,h1⟩,h2⟩:=h
  cases h3
  subst h1
  cases h2
  exact⟨p,q,rfl,hv,hv2⟩
 | [],h=>simp[gC] at h
 | [_],h=>simp[gC,aE] at h
 | _::_::_::_,h=>
  simp only[gC,aE,aF] at h
  obtain⟨v,hv,_,⟨v2,hv2,_,⟨_,_,_,_,h3⟩,h1⟩,h2⟩:=h
  subst h3
  subst h1
  cases h2
section
variable {P : Program} {E : Env} {G : Ground} (hG : ∀ f e,E.fn f=some e→fq P G f e) (A : Agree P E) {st : St} {a : Act} {o : Oper} (H : ek w ρ st.rt) (J : eE ρ) (T : ja w ρ st.rt st.tm a.tmps) (hr : gB st.rt) (hL : Lab w ρ st.rt jw) {Un : Nat→Prop} {id : Nat} (hm : xX (cg Un st.rt) st.tm) (hi : Fresh Un st.rt id) (hgr : G.ok w ρ)
include hG A H J T hr hL hm hi hgr
theorem WM {o:Nat}{r:Root}(h:st.rt o=some r):¬cg Un st.rt o r.nv:=by
 rintro (h1 | ⟨r',h1,h2⟩)
 ·rw[hi.f o h1] at h;cases h
 ·rw[h] at h1;cases h1;omega
theorem X1 {v : V}{rt' : al}(h : bc E id st o.op=some (v,rt')) : Hq P o a w (fun u w'=>qi Un w ρ st.rt id v rt' u w'):=by
  by_cases hp : sS o.op=true
  · obtain ⟨rfl,⟨u,h1,h2⟩,h3⟩:=WO A H J T hm hr (fun o r h=>WM hG A H J T hr hL hm hi hgr h) hp h
    refine .inl ⟨u,w,h1,ρ,⟨H,J,hr,Keep.refl,hL,Wk.refl,fun o r h=>.inl ⟨r,h,Nat.le_refl _⟩,fun _ _ h=>h⟩,h2,?_⟩
    refine eo (fun o nv h=>?_) h3
    rcases h with h | h
    · exact .inl h.1
    · exact .inr h
  · have mk : (∃ u w',(execOp a.eval o).run P w=.ok (.value u) w' ∧ qi Un w ρ st.rt id v rt' u w')→Hq P o a w (fun u w'=>qi Un w ρ st.rt id v rt' u w'):=fun ⟨u,w',h1,h2⟩=>.inl ⟨u,w',h1,h2⟩
    cases hop : o.op with
    | alloc t=>exact mk (U1 A H J T hr hL hm hi hop h)
    | box t x=>exact mk (XG A H J T hr hL hm hi hop h)
    | buildSlice t n ps=>exact mk (Jl A H J T hr hL hm hi hop h)
    | makeSlice t x y=>exact mk (KD A H J T hr hL hm hi hop h)
    | store t p x =>
      rw [show o.op=.store t p x from hop] at h
      have h' : bc E id st o.op=some (v,rt'):=by rw [hop]; exact h
      obtain ⟨w',h1,h2⟩:=U3 A H J T hr hL hm hi hop h'
      exact .inr (.inl ⟨w',h1,h2⟩)
    | call c =>
      obtain ⟨cal,args,ts⟩:=c
      rw [hop] at h
      simp only [bc,kP,aE] at h
      obtain ⟨vs,hvs,h⟩:=h
      cases cal with
      | builtin b =>
        cases b <;> simp only [eB] at h <;> first | (cases h; done) | skip
        all_goals first
          | (rw [hop] at hp; simp [sS] at hp; done)
          | skip
        all_goals first
          | (match vs, hvs, h with
             | [d,x],hvs,h =>
               simp only [eB,aE] at h
               obtain ⟨t,ht,t1,ht1,h⟩:=h
               split at h
               · rename_i hs1
                 obtain ⟨p,q,rfl,h1,h2⟩:=Uw hvs
                 exact mk (SM A H J T hr hL hm hi hop ht ht1 hs1 h1 h2 h)
               · cases h
             | [],_,h=>simp [eB] at h
             | [_],_,h=>simp [eB] at h
             | _ :: _ :: _ :: _,_,h=>simp [eB] at h)
          | (match vs, hvs, h with
             | [x],hvs,h =>
               simp only [eB,aE,aF,Prod.mk.injEq] at h
               obtain ⟨t,ht,r1,hr1,rfl,rfl⟩:=h
               obtain ⟨p,rfl,h1⟩:=Uv hvs
               exact mk (U2 A H J T hr hL hm hi hop ht h1 hr1)
             | [],_,h=>simp [eB] at h
             | _ :: _ :: _,_,h=>simp [eB] at h)
      | value f =>
        simp only [aE] at h
        obtain ⟨fv,hf,h⟩:=h
        split at h
        · rename_i fid caps
          obtain ⟨hl,hrep⟩:=sK T hvs
          have hfs:=aL.one rfl (cw T hf)
          have hfn:=f7 hm hf
          have hcaps : ∃ g : Nat→Value,a.eval f=.func (.func fid) #[] (dx caps.length g) ∧ ∀ (i : Nat) v,caps[i]?=some v→RepV w ρ st.rt none v (g i):=by
            generalize a.eval f=uf at hfs
            cases hfs with
            | fn _ _ _ g hg=>exact ⟨g,rfl,hg⟩
          obtain ⟨g,hef,hg⟩:=hcaps
          have hus : ((args.toList.map a.eval) ++ (List.range caps.length).map g).toArray=#[] ++ args.map a.eval ++ dx caps.length g:=by
            apply Array.ext'
            simp [dx]
          have hl' : vs.length=args.size:=by simpa using hl
          have hn:=WK (us:=(args.toList.map a.eval) ++ (List.range caps.length).map g) hG H J hr hL hi hgr (by simp [hl]) (fun i v u hv hu=>by
            by_cases hlt : i < vs.length
            · rw [lf hlt] at hv
              rw [lf (by simp; omega),List.getElem?_map] at hu
              obtain ⟨x,hx,rfl⟩:=aF.1 hu
              exact ⟨hrep i v x hv hx,fT (IZ hm hvs) hv⟩
            · rw [nF (by omega)] at hv
              rw [nF (by simp; omega),List.getElem?_map] at hu
              obtain ⟨j,hj,rfl⟩:=aF.1 hu
              have hj' : j=i - vs.length:=by
                have h1:=(cB.1 hj).1
                simp at h1
                rw [List.getElem?_range (by simpa using h1)] at hj
                simp [hl] at hj ⊢
                omega
              subst hj'
              have h1:=hg _ v hv
              exact ⟨aL.mk1 (by cases v <;> first | rfl | (cases h1)) h1,fT (by simpa [aw] using hfn) hv⟩) h
          have hrun : (execOp a.eval o).run P w=(callFunc fid ((args.toList.map a.eval) ++ (List.range caps.length).map g).toArray).run P w:=by
            rw [hus]
            simp [execOp,hop,resolve,Deferred.ofValue,hef,invoke]
          rcases hn with ⟨u,w',h1,h2⟩ | ⟨h1,h2⟩
          · exact .inl ⟨u,w',by rw [hrun]; exact h1,h2⟩
          · exact .inr (.inr ⟨fid,_,by rw [hrun]; exact h1,h2⟩)
        · cases h
      | invoke x m=>simp at h
    | _=>rw [hop] at hp h; first | (simp [sS] at hp; done) | (simp [bc] at h; done)
end
end
section
structure RelU (Un:Nat→Prop) (G:Ground) (m:Nat) (w0:World) (ρ0:bD) (w:World) (ρ:bD) (st:St) (a:Act):Prop where
 tm:ja w ρ st.rt st.tm a.tmps
 rok:ek w ρ st.rt
 inj:eE ρ
 rtn:gB st.rt
 lab:Lab w ρ st.rt jw
 fresh:∀o,Un o→st.rt o=none
 up:∀o,Un o→0<o
 tmn:xX (cg Un st.rt) st.tm
 wk:Wk w0 w
 fr:∀b,ρ0 b=none→b<w0.heap.size→ρ b=none∧w.heap[b]?=w0.heap[b]?
 k0:∀b l,ρ0 b=some (0,l)→ρ b=some (0,l)∧w.heap[b]?=w0.heap[b]?
 f0:∀b l,ρ b=some (0,l)→ρ0 b=some (0,l)
 df:a.defers=[]
 gr:G.ok w ρ
 am:∀i b n,0<i→ρ0 b=some (i,[])→ki w0 b n→(st.rt i).isSome=true→ρ b=some (i,[])∧ki w b n
 le:∀b i l,ρ0 b=some (i,l)→i≤m
 nl:∀i,i≤m→¬Un i
def em (nx:Nat):Nat→Prop:=fun o=>nx≤o
abbrev fX (G:Ground)(m:Nat)(w0:World)(ρ0:bD)(w:World)(ρ:bD)(st:St)(a:Act):Prop:=RelU (em st.nx) G m w0 ρ0 w ρ st a
variable {G : Ground} {m : Nat} {w0 w : World} {ρ0 ρ : bD} {st st' : St} {a : Act}
theorem S8 {ops:Array Oper}(T:ja w ρ st.rt st.tm a.tmps){j:Nat}{b:Option Bool}(h:qE ops st j=some b):yielded ops a.tmps j=b:=by
 unfold qE at h
 unfold yielded
 cases hd:(ops[j]?).bind (·.dst) with
 | none=>simp[hd] at h
 | some d=>
  simp only[hd,b6] at h ⊢
  cases ht:st.tm[d]? with
  | none=>simp[ht] at h
  | some v=>
   have hl:=(cB.1 ht).1
   obtain⟨u,hu⟩:∃u,a.tmps[d]?=some u:=⟨_,Array.getElem?_eq_getElem (by rw[←T.1];exact hl)⟩
   have hs:=T.2 d v u ht hu
   rw[hu]
   simp only[ht] at h
   split at h
   ·rename_i x hx
    cases h
    cases hx
    rw[ld hs]
   ·rename_i hx
    cases h
    cases hx
    have:=aL.one rfl hs
    cases this
    rfl
   ·cases h
theorem LE {ops:Array Oper}(T:ja w ρ st.rt st.tm a.tmps){o:Oper}{b:Bool}(h:gO ops st o=some b):Region.wanted o (yielded ops a.tmps)=b:=by
 unfold gO at h
 unfold Region.wanted
 split at h
 ·cases h;simp_all
 ·rename_i j want hg
  simp only[aF] at h
  obtain⟨x,hx,rfl⟩:=h
  rw[hg]
  simp only
  rw[S8 T hx]
theorem MV {Un:Nat→Prop}{rt rt':al}{id:Nat}(hi:∀o,id≤o→o<id+ci→Un o)(h:∀o r',rt' o=some r'→(∃r,rt o=some r∧r.nv≤r'.nv)∨(id≤o∧o<id+ci)):∀o nv,cg (tP Un id) rt' o nv→cg Un rt o nv:=by
 rintro o nv (h1 | ⟨r,h1,h2⟩)
 ·exact .inl h1.1
 ·rcases h o r h1 with⟨r0,h3,h4⟩ | ⟨h3,h4⟩
  ·exact .inr ⟨r0,h3,by omega⟩
  ·exact .inl (hi o h3 h4)
theorem tX {tm:List V}{d:Option Nat}{v x:V}{i:Nat}(h:(kc tm d v)[i]?=some x):(d=some i∧x=v∧i<tm.length)∨(d≠some i∧tm[i]?=some x):=by
 cases d with
 | none=>exact .inr ⟨by simp,h⟩
 | some d=>
  simp only[kc] at h
  by_cases hd:d=i
  ·subst hd
   have hl:=(cB.1 h).1
   rw[List.length_set] at hl
   rw[List.getElem?_set_self hl] at h
   cases h
   exact .inl ⟨rfl,rfl,hl⟩
  ·rw[List.getElem?_set_ne hd] at h
   exact .inr ⟨by simpa using hd,h⟩
theorem Lw {a:Act}{d:Option Nat}{v u:Value}{i:Nat}(h:(a.put d v).tmps[i]?=some u):(d=some i∧u=v)∨(d≠some i∧a.tmps[i]?=some u):=by
 cases d with
 | none=>exact .inr ⟨by simp,h⟩
 | some d=>
  simp only[Act.put] at h
  by_cases hd:d=i
  ·subst hd
   have hl:=(mN.1 h).1
   simp at hl
   simp[hl] at h
   exact .inl ⟨rfl,h.symm⟩
  ·rw[Array.getElem?_setIfInBounds_ne hd] at h
   exact .inr ⟨by simpa using hd,h⟩
theorem Jy {a:Act}{d:Option Nat}{v:Value}:(a.put d v).tmps.size=a.tmps.size:=by cases d<;>simp[Act.put]
theorem tY {tm:List V}{d:Option Nat}{v:V}:(kc tm d v).length=tm.length:=by cases d<;>simp[kc]
theorem Eb {a:Act}{d:Option Nat}{v:Value}:(a.put d v).defers=a.defers:=by cases d<;>simp[Act.put]
theorem RelU.out {Un:Nat→Prop}(R:RelU Un G m w0 ρ0 w ρ st a){id nx:Nat}(hi:∀o,id≤o→o<id+ci→Un o){v:V}{rt':al}{u:Value}{w':World}(h:qi Un w ρ st.rt id v rt' u w'){d:Option Nat}:∃ρ',RelU (tP Un id) G m w0 ρ0 w' ρ' { tm:=kc st.tm d v,rt:=rt',nx:=nx } (a.put d u):=by
 obtain⟨ρ',e,hv,hn⟩:=h
 have mono:=MV hi e.nv
 refine⟨ρ',⟨?_,e.rok,e.inj,e.rtn,e.lab,?_,fun o h=>R.up o h.1,?_,R.wk.trans e.wk,?_,?_,?_,?_,Ground.keep R.gr e.keep.k1 e.wk,?_,R.le,fun i h1 h2=>R.nl i h1 h2.1⟩⟩
 ·refine⟨by rw[tY,Jy];exact R.tm.1,fun i x y hx hy=>?_⟩
  rcases tX hx with⟨h1,rfl,_⟩ | ⟨h1,h2⟩<;>rcases Lw hy with⟨h3,rfl⟩ | ⟨h3,h4⟩
  ·exact hv
  ·exact absurd h1 h3
  ·exact absurd h3 h1
  ·exact (R.tm.2 i x y h2 h4).keep e.keep (R.tmn i x h2)
 ·intro o ho
  cases hr:rt' o with
  | none=>exact hr
  | some r'=>
   rcases e.nv o r' hr with⟨r,h1,_⟩ | h1
   ·rw[R.fresh o ho.1] at h1;cases h1
   ·exact absurd h1 ho.2
 ·intro i x hx
  rcases tX hx with⟨h1,rfl,_⟩ | ⟨h1,h2⟩
  ·exact hn
  ·exact eo mono (R.tmn i x h2)
 ·intro b hb hl
  have h1:=R.fr b hb hl
  have h2:=e.keep.k1 b h1.1 (Nat.lt_of_lt_of_le hl R.wk.size)
  exact⟨h2.1,h2.2.trans h1.2⟩
 ·intro b l hb
  have h1:=R.k0 b l hb
  have h2:=e.keep.k0 b l h1.1
  exact⟨h2.1,h2.2.trans h1.2⟩
 ·exact fun b l hb=>R.f0 b l (e.f0 b l hb)
 ·rw[Eb];exact R.df
 ·intro i b n hi0 hb hn hs
  simp only at hs
  have hlt:¬Un i:=R.nl i (R.le b i [] hb)
  obtain⟨r',hr'⟩:=Option.isSome_iff_exists.1 hs
  obtain⟨r,hr,hnv⟩:∃r,st.rt i=some r∧r.nv≤r'.nv:=by
   rcases e.nv i r' hr' with h | ⟨h1,h2⟩
   ·exact h
   ·exact absurd (hi i h1 h2) hlt
  have hl:cz rt' i r.nv []:=by simp[cz,ch,bZ,hr',aU]
  have:=(e.keep.k2 i r.nv [] (by
   rintro (h | ⟨r2,h,h2⟩)
   ·exact hlt h
   ·rw[hr] at h;cases h;omega) hl).2
  have h0:=R.am i b n hi0 hb hn (by rw[hr];rfl)
  exact this b n h0.1 h0.2
theorem RelU.mono {Un Un' : Nat→Prop}(R : RelU Un G m w0 ρ0 w ρ st a)(h : ∀ o,Un' o→Un o){nx : Nat} : RelU Un' G m w0 ρ0 w ρ { st with nx:=nx } a :=
  { R with
    fresh:=fun o ho=>R.fresh o (h o ho)
    up:=fun o ho=>R.up o (h o ho)
    tmn:=fun i v hv=>eo (fun o nv h1=>by
      rcases h1 with h1 | h1
      · exact .inl (h o h1)
      · exact .inr h1) (R.tmn i v hv)
    nl:=fun i h1 h2=>R.nl i h1 (h i h2) }
theorem RelU.skip {Un : Nat→Prop}(R : RelU Un G m w0 ρ0 w ρ st a){d : Option Nat} : RelU Un G m w0 ρ0 w ρ { st with tm:=kc st.tm d .und } (a.put d undef) :=
  { R with
    tm:=⟨by rw [tY,Jy]; exact R.tm.1,fun i x y hx hy=>by
      rcases tX hx with ⟨h1,rfl,_⟩ | ⟨h1,h2⟩ <;> rcases Lw hy with ⟨h3,rfl⟩ | ⟨h3,h4⟩
      · exact aL.mk1 rfl (.und _)
      · exact absurd h1 h3
      · exact absurd h3 h1
      · exact R.tm.2 i x y h2 h4⟩
    tmn:=fun i x hx=>by
      rcases tX hx with ⟨h1,rfl,_⟩ | ⟨h1,h2⟩
      · simp [aw]
      · exact R.tmn i x h2
    df:=by rw [Eb]; exact R.df }
theorem RelU.step {Un:Nat→Prop}{P:Program}{E:Env}(hG:∀f e,E.fn f=some e→fq P G f e)(A:Agree P E)(R:RelU Un G m w0 ρ0 w ρ st a){id nx:Nat}(hp:0<id)(hi:∀o,id≤o→o<id+ci→Un o){ops:Array Oper}{i:Nat}{rest:List Nat}{Q:Exit→Act→World→Prop}(h:fi E ops id st i=some st')(hn:∀w' ρ' a',RelU (tP Un id) G m w0 ρ0 w' ρ' { st' with nx:=nx } a'→wpOps P ops Q rest a' w'):wpOps P ops Q (i::rest) a w:=by
 unfold fi at h
 simp only[wpOps]
 cases ho:ops[i]? with
 | none=>
  simp only[ho] at h ⊢
  cases h
  exact hn w ρ a (R.mono fun o h=>h.1)
 | some o=>
  simp only[ho,aE] at h ⊢
  obtain⟨b,hb,h⟩:=h
  rw[LE R.tm hb]
  cases b with
  | true=>
   simp only[if_true,aF] at h
   obtain⟨⟨v,rt'⟩,hv,h⟩:=h
   cases h
   simp only[if_true]
   refine .inl ((X1 hG A R.rok R.inj R.tm R.rtn R.lab R.tmn ⟨R.fresh,hi,hp⟩ R.gr hv).wp fun u w' hout=>?_)
   obtain⟨ρ',R'⟩:=R.out hi hout (d:=o.dst) (nx:=nx)
   exact hn w' ρ' _ R'
  | false=>
   simp only[Bool.false_eq_true,if_false] at h ⊢
   cases h
   exact hn w ρ _ ((R.skip (d:=o.dst)).mono fun o h=>h.1)
theorem fX.step {P:Program}{E:Env}(hG:∀f e,E.fn f=some e→fq P G f e)(A:Agree P E)(R:fX G m w0 ρ0 w ρ st a){ops:Array Oper}{i:Nat}{rest:List Nat}{Q:Exit→Act→World→Prop}(h:fi E ops st.nx st i=some st')(hn:∀w' ρ' a',fX G m w0 ρ0 w' ρ' { st' with nx:=st.nx+ci } a'→wpOps P ops Q rest a' w'):wpOps P ops Q (i::rest) a w:=
 RelU.step hG A R (nx:=st.nx+ci) (R.up st.nx (Nat.le_refl _)) (fun o h _=>h) h fun w' ρ' a' R'=>hn w' ρ' a' (by
  have:=R'.mono (Un':=em (st.nx+ci)) (nx:=st.nx+ci) fun o ho=>⟨by unfold em at *;omega,by unfold em at ho;omega⟩
  exact this)
end
section
variable {G : Ground} {m : Nat} {w0 w : World} {ρ0 ρ : bD} {st st' : St} {a : Act}
theorem fX.nilq {P:Program}{E:Env}(A:Agree P E)(R:fX G m w0 ρ0 w ρ st a){ops:Array Oper}{i:Nat}{rest:List Nat}{Q:Exit→Act→World→Prop}{o:Oper}{op:BinOp}{t t' e:TypeId}{x y:Operand}{nl:Bool}(ho:ops[i]?=some o)(hg:gO ops st o=some true)(hop:o.op=.binOp op t x y t')(he:op=.eql∨op=.neq)(hx:ev st x=some (.isl nl []))(hy:ev st y=some (.isl true []))(hd:E.desc t=some (.slice e))(hn:∀b w' ρ' a',fX G m w0 ρ0 w' ρ' { st with tm:=kc st.tm o.dst (.bool b),nx:=st.nx+ci } a'→wpOps P ops Q rest a' w'):wpOps P ops Q (i::rest) a w:=by
 simp only[wpOps,ho]
 rw[LE R.tm hg]
 simp only[if_true]
 have hu:=A.desc hd
 obtain⟨A1,l,c,h1,_⟩:=jv (aL.one rfl (cw R.tm hx))
 obtain⟨A2,l2,c2,h2,h3⟩:=jv (aL.one rfl (cw R.tm hy))
 have h4:A2=none:=by have:=h3 (.inl rfl);cases A2<;>simp at this ⊢
 have hrun:(Op.equal t (.slice A1 l c) (.slice A2 l2 c2)).run P w=.ok A1.isNone w:=ub fun n=>qY hu h4 rfl
 have hgd:(eqGuard op t x y (.slice A1 l c) (.slice A2 l2 c2)).run P w=.ok () w:=by unfold eqGuard;split<;>simp
 have act:∃b,(execOp a.eval o).run P w=.ok (.value (.bool b)) w:=by
  rcases he with rfl | rfl
  ·exact⟨A1.isNone,by simp[execOp,hop,h1,h2,hgd,binOp,hrun]⟩
  ·exact⟨!A1.isNone,by simp[execOp,hop,h1,h2,hgd,binOp,hrun]⟩
 obtain⟨b,hb⟩:=act
 have hout:qi (em st.nx) w ρ st.rt st.nx (.bool b) st.rt (.bool b) w:=
  ⟨ρ,⟨R.rok,R.inj,R.rtn,Keep.refl,R.lab,Wk.refl,fun o r h=>.inl ⟨r,h,Nat.le_refl _⟩,fun _ _ h=>h⟩,ix _,by simp[aw]⟩
 refine .inl (Hq.wp (K:=fun u w'=>u=.bool b∧w'=w) (.inl ⟨.bool b,w,hb,rfl,rfl⟩) fun u w' hh=>?_)
 obtain⟨rfl,rfl⟩:=hh
 obtain⟨ρ',R'⟩:=R.out (fun o h _=>h) hout (d:=o.dst) (nx:=st.nx+ci)
 have:=R'.mono (Un':=em (st.nx+ci)) (nx:=st.nx+ci) fun o ho=>⟨by unfold em at *;omega,by unfold em at ho;omega⟩
 exact hn b _ ρ' _ this
def AG (ρ:bD)(rt2:al):bD:=fun b=>match ρ b with
 | some (o,l)=>if o=0∨(rt2 o).isSome=true then some (o,l) else none
 | none=>none
theorem iV {rt2:al}{b:Nat}{L:dj}:AG ρ rt2 b=some L↔ρ b=some L∧(L.1=0∨(rt2 L.1).isSome=true):=by
 unfold AG
 cases h:ρ b with
 | none=>simp
 | some x=>
  obtain⟨o,l⟩:=x
  simp only
  by_cases hc:o=0∨(rt2 o).isSome=true
  ·rw[if_pos hc]
   simp only[Option.some.injEq]
   constructor
   ·rintro rfl;exact⟨rfl,hc⟩
   ·exact fun h=>h.1
  ·rw[if_neg hc]
   simp only[reduceCtorEq,Option.some.injEq,false_iff,not_and]
   rintro rfl
   exact hc
theorem fX.sub {tm2 : List V}{rt2 : al}(ht : tm2.length=st.tm.length)(ht2 : ∀ (i : Nat) v,tm2[i]?=some v→st.tm[i]?=some v ∨ v=.dead)(hs : ∀ o r,rt2 o=some r→st.rt o=some r)(R : fX G m w0 ρ0 w ρ st a) : ∃ ρ',fX G m w0 ρ0 w ρ' { st with tm:=tm2,rt:=rt2 } a:=by
  have hz : rt2 0=none:=by
    cases h : rt2 0 with
    | none=>rfl
    | some r=>have:=hs 0 r h; rw [R.lab.z] at this; cases this
  have K : Keep (fun _ _=>False) w ρ st.rt w (AG ρ rt2) rt2:=by
    refine ⟨fun b hb _=>⟨by simp [AG,hb],rfl⟩,fun o nv p _ hl=>?_,fun b l hb=>⟨iV.2 ⟨hb,.inl rfl⟩,rfl⟩⟩
    unfold cz ch at hl
    cases hv : bZ rt2 o nv p with
    | none=>simp [hv] at hl
    | some r =>
      obtain ⟨h1,h2⟩:=d5 hv
      have h3:=hs o r h1
      simp only [hv,b6] at hl
      have : bZ st.rt o nv p=some r:=by
        unfold bZ at hv ⊢
        rw [h3]
        rw [h1] at hv
        exact hv
      exact ⟨by simpa [cz,ch,this] using hl,fun b n hb hn=>⟨iV.2 ⟨hb,.inr (by rw [h1]; rfl)⟩,hn⟩⟩
  have hNew : ∀ o nv,cg (em st.nx) rt2 o nv→cg (em st.nx) st.rt o nv:=by
    rintro o nv (h | ⟨r,h1,h2⟩)
    · exact .inl h
    · exact .inr ⟨r,hs o r h1,h2⟩
  have kp : ∀ {v : V},aw (cg (em st.nx) st.rt) v→aw (fun _ _=>False) v:=fun h=>eo (fun _ _ h=>h.elim) h
  refine ⟨AG ρ rt2,?_⟩
  exact
    { tm := ⟨by rw [ht]; exact R.tm.1, fun i v u hv hu => by
        rcases ht2 i v hv with h | rfl
        · exact (R.tm.2 i v u h hu).keep K (kp (R.tmn i v h))
        · exact aL.mk1 rfl (.dead _ _)⟩
      rok:=fun o r h=>co.under K (fun b l hb _=>⟨iV.2 ⟨hb,.inr (by have h' : rt2 o=some r:=h; simp [h'])⟩,rfl⟩) (R.rok o r (hs o r h)) (R.rtn o r (hs o r h))
      inj:=fun b b' L h h'=>R.inj b b' L (iV.1 h).1 (iV.1 h').1
      rtn:=fun o r h=>R.rtn o r (hs o r h)
      lab:=⟨fun b o l h=>by
        obtain ⟨h1,h2⟩:=iV.1 h
        refine ⟨(R.lab b o l h1).1,?_⟩
        rcases h2 with h2 | h2
        · exact .inl h2
        · exact .inr (Option.isSome_iff_exists.1 h2),hz,fun b l h=>R.lab.f b l (iV.1 h).1⟩
      fresh:=fun o h=>by
        cases hr : rt2 o with
        | none=>exact hr
        | some r=>have:=hs o r hr; rw [R.fresh o h] at this; cases this
      up:=R.up
      tmn:=fun i v hv=>by
        rcases ht2 i v hv with h | rfl
        · exact eo hNew (R.tmn i v h)
        · simp [aw]
      wk:=R.wk
      fr:=fun b hb hl=>⟨by simp [AG,(R.fr b hb hl).1],(R.fr b hb hl).2⟩
      k0:=fun b l hb=>⟨iV.2 ⟨(R.k0 b l hb).1,.inl rfl⟩,(R.k0 b l hb).2⟩
      f0:=fun b l hb=>R.f0 b l (iV.1 hb).1
      df:=R.df
      gr:=⟨R.gr.1,fun b hb=>by simp [AG,R.gr.2.1 b hb],R.gr.2.2⟩
      am:=fun i b n h1 h2 h3 h4=>by
        obtain ⟨r,hr⟩:=Option.isSome_iff_exists.1 h4
        have:=R.am i b n h1 h2 h3 (by rw [hs i r hr]; rfl)
        exact ⟨iV.2 ⟨this.1,.inr h4⟩,this.2⟩
      le:=R.le
      nl:=R.nl }
end
section
def ma:It→Item
 | .code c=>.code c
 | .ops ops is=>.inRegion ops is
 | .blk id=>.inBlock id
 | .lp c=>.inLoop c
 | .dops ops _ _ _=>.inRegion ops []
def lK (P:Program)(R:Act→World→Prop)(todo:List It)(a:Act)(w:World):Prop:=
 ∀(b:Frame) (cs:List Frame),∃a' w' td,R a' w'∧Steps P (lone (b.at a (todo.map ma)) cs w) (lone { b.at a' td with mode:=.returning } cs w')
variable {P : Program} {R : Act→World→Prop} {k : List It} {a : Act} {w : World}
theorem lK.one {t t':List It}(h:∀(b:Frame) (cs:List Frame),step P (lone (b.at a (t.map ma)) cs w)=.next (lone (b.at a (t'.map ma)) cs w))(hk:lK P R t' a w):lK P R t a w:=fun b cs=>
 let ⟨a',w',td,r,s⟩:=hk b cs
 ⟨a',w',td,r,Steps.head (h b cs) s⟩
theorem mG:∀{k k':List It} {id:Nat},gD id k=some k'→exitTo id (k.map ma)=some (k'.map ma)
 | [],k',id,h=>by simp[gD] at h
 | .blk id'::k,k',id,h=>by
  simp only[gD] at h
  split at h
  ·rename_i he
   cases h
   simp[ma,exitTo,he]
  ·rename_i he
   have:=mG h
   have hne:(id==id')=false:=by simp;exact fun h=>he h.symm
   have hne':(id'==id)=false:=by simpa using he
   simp[ma,exitTo,hne,hne',this]
 | .code c::k,k',id,h=>by
  have:=mG (k:=k) (by simpa[gD] using h)
  simp[ma,exitTo,this]
 | .ops o i::k,k',id,h=>by
  have:=mG (k:=k) (by simpa[gD] using h)
  simp[ma,exitTo,this]
 | .lp c::k,k',id,h=>by
  have:=mG (k:=k) (by simpa[gD] using h)
  simp[ma,exitTo,this]
 | .dops _ _ _ _::k,k',id,h=>by
  have:=mG (k:=k) (by simpa[gD] using h)
  simp[ma,exitTo,this]
end
section
variable {P : Program} {R : Act→World→Prop} {k : List It} {a : Act} {w : World}
def MX (F:Act→World→Prop):Exit→Act→World→Prop
 | .normal,a,w=>F a w
 | _,_,_=>False
def IB (P:Program)(R:Act→World→Prop):List It→Act→World→Prop
 | .ops ops is::k,a,w=>wpOps P ops (MX (lK P R k)) is a w
 | [],a,w=>R a w
 | k,a,w=>lK P R k a w
theorem Lc {ops:Array Oper}{is:List Nat}(h:wpOps P ops (MX (lK P R k)) is a w):lK P R (.ops ops is::k) a w:=by
 intro b cs
 obtain⟨e,a1,w1,hq,harr⟩:=wp_ops is a w h b (k.map ma) cs
 cases e with
 | normal=>
  obtain⟨a',w',td,r,s⟩:=hq b cs
  exact⟨a',w',td,r,Steps.trans harr s⟩
 | _=>exact hq.elim
theorem gn:∀{k:List It},IB P R k a w→lK P R k a w
 | .ops ops is::k,h=>Lc h
 | .code _::_,h=>h
 | .blk _::_,h=>h
 | .lp _::_,h=>h
 | .dops _ _ _ _::_,h=>h
 | [],h=>fun b cs=>⟨_,_,_,h,.one step_end⟩
section
variable {E : Env} {G : Ground} (hG : ∀ f e,E.fn f=some e→fq P G f e) (A : Agree P E) {m : Nat} {w0 : World} {ρ0 : bD} {ρ : bD} {st st' : St} {Q : St→Prop}
include hG A
def Hl (G:Ground)(m:Nat)(w0:World)(ρ0:bD)(Q:St→Prop)(a:Act)(w:World):Prop:=∃ρ st,fX G m w0 ρ0 w ρ st a∧Q st
theorem M4 {k':List It}(h:iX E k st=some (k',st'))(R0:fX G m w0 ρ0 w ρ st a)(ih:∀w ρ a,fX G m w0 ρ0 w ρ st' a→IB P (Hl G m w0 ρ0 Q) k' a w):IB P (Hl G m w0 ρ0 Q) k a w:=by
 unfold iX at h
 split at h
 ·cases h
  exact lK.one (fun b cs=>step_skip) (gn (ih w ρ a R0))
 ·rename_i id ops k
  cases h
  exact lK.one (t':=.ops ops (List.range ops.size)::k) (fun b cs=>step_region) (gn (ih w ρ a R0))
 ·rename_i x y k
  cases h
  exact lK.one (t':=.code x::.code y::k) (fun b cs=>step_seq) (gn (ih w ρ a R0))
 ·rename_i c x y k
  simp only[aE] at h
  obtain⟨cv,hc,h⟩:=h
  have hs:=cw R0.tm hc
  split at h
  ·cases h
   exact lK.one (t':=.code x::k) (fun b cs=>step_cond (t:=true) (ld hs)) (gn (ih w ρ a R0))
  ·cases h
   exact lK.one (t':=.code y::k) (fun b cs=>step_cond (t:=false) (ld hs)) (gn (ih w ρ a R0))
  ·cases h
 ·rename_i id c k
  cases h
  exact lK.one (t':=.code c::.blk id::k) (fun b cs=>step_block) (gn (ih w ρ a R0))
 ·rename_i c k
  cases h
  exact lK.one (t':=.code c::.lp c::k) (fun b cs=>step_loop) (gn (ih w ρ a R0))
 ·rename_i id k
  simp only[aF] at h
  obtain⟨k1,hk,h⟩:=h
  cases h
  exact lK.one (fun b cs=>step_exit (mG hk)) (gn (ih w ρ a R0))
 ·cases h
  exact fun b cs=>⟨a,w,_,ih w ρ a R0,.one step_ret⟩
 ·cases h
  exact gn (ih w ρ a R0)
 ·rename_i ops i is k
  simp only[aF] at h
  obtain⟨st1,hst,h⟩:=h
  cases h
  exact R0.step hG A hst fun w' ρ' a' R'=>ih w' ρ' a' R'
 ·cases h
  exact lK.one (fun b cs=>step_inBlock) (gn (ih w ρ a R0))
 ·rename_i c k
  cases h
  exact lK.one (t':=.code c::.lp c::k) (fun b cs=>step_inLoop) (gn (ih w ρ a R0))
 ·cases h
end
end
section
variable {w : World} {ρ : bD} {rt rt' : al}
theorem ji {o:Nat}:∀{os:List Nat} {n m:Nat},nO o os n=some m→n≤m∧os[m - n]?=some o
 | [],n,m,h=>by simp[nO] at h
 | x::xs,n,m,h=>by
  simp only[nO] at h
  split at h
  ·rename_i hx
   cases h
   subst hx
   simp
  ·obtain⟨h1,h2⟩:=ji h
   refine⟨by omega,?_⟩
   rw[show m - n=(m - (n+1))+1 by omega]
   simpa using h2
def gJ (ρ:bD)(os:List Nat):bD:=fun b=>
 match ρ b with
 | none=>none
 | some (o,l)=>if o=0 then some (0,l) else (nO o os 1).map fun n=>(n,l)
theorem lL {os b}(h:ρ b=none):gJ ρ os b=none:=by simp[gJ,h]
theorem Ed {os b l}(h:ρ b=some (0,l)):gJ ρ os b=some (0,l):=by simp[gJ,h]
theorem jX {os b o l n}(h:ρ b=some (o,l))(h0:o≠0)(hn:nO o os 1=some n):gJ ρ os b=some (n,l):=by simp[gJ,h,h0,hn]
theorem ly {os b n l}(h:gJ ρ os b=some (n,l)):(n=0∧ρ b=some (0,l))∨∃o,ρ b=some (o,l)∧o≠0∧nO o os 1=some n:=by
 unfold gJ at h
 split at h
 ·cases h
 ·rename_i o l' hb
  split at h
  ·rename_i h0
   cases h
   subst h0
   exact .inl ⟨rfl,hb⟩
  ·rename_i h0
   simp only[aF] at h
   obtain⟨m,hm,h⟩:=h
   cases h
   exact .inr ⟨o,hb,h0,hm⟩
theorem qU:∀{xs acc:List Nat},acc.Nodup→(nP acc xs).Nodup
 | [],acc,h=>h
 | x::xs,acc,h=>by
  simp only[nP]
  split
  ·exact qU h
  ·rename_i hx
   refine qU (List.nodup_append.2 ⟨h,by simp,?_⟩)
   intro a ha b hb hab
   simp at hb
   subst hb
   subst hab
   exact hx (by simpa using ha)
theorem sM:∀{os:List Nat} {n m o:Nat},os.Nodup→os[m]?=some o→nO o os n=some (n+m)
 | [],n,m,o,hd,h=>by simp at h
 | x::xs,n,m,o,hd,h=>by
  simp only[nO]
  cases m with
  | zero=>simp at h;subst h;simp
  | succ m=>
   have hd':=List.nodup_cons.1 hd
   have hne:x≠o:=by
    rintro rfl
    exact hd'.1 (hJ (by simpa using h))
   rw[if_neg hne,sM hd'.2 (by simpa using h)]
   congr 1
   omega
def gb (rt:al)(os:List Nat):al:=vV (os.map fun o=>(rt o).map fun r=>⟨0,r.s,r.es⟩)
theorem nC {os:List Nat}{o n:Nat}(hn:nO o os 1=some n):gb rt os n=(rt o).map fun r=>⟨0,r.s,r.es⟩:=by
 obtain⟨h1,h2⟩:=ji hn
 unfold gb vV
 rw[if_neg (by omega),List.getElem?_map,h2]
 simp
theorem qX {os:List Nat}(hd:os.Nodup){n:Nat}{r':Root}(h:gb rt os n=some r'):∃o r,nO o os 1=some n∧rt o=some r∧r'=⟨0,r.s,r.es⟩:=by
 unfold gb vV at h
 split at h
 ·cases h
 ·rename_i h0
  rw[List.getElem?_map] at h
  cases ho:os[n - 1]? with
  | none=>simp[ho] at h
  | some o=>
   simp only[ho,Option.map_some,b6,aF] at h
   obtain⟨r,hr,rfl⟩:=h
   exact⟨o,r,by rw[sM hd ho];congr 1;omega,hr,rfl⟩
end
section
variable {w : World} {ρ : bD} {rt : al}
theorem Ly {os:List Nat}{v:V}(h:au v=false):au (eM rt os v)=false:=by
 cases v<;>first | (simp[au] at h;done) | skip
 all_goals simp only[eM]<;>first | rfl | (split<;>rfl)
theorem fE {os:List Nat}:∀{vs:List V},kY rt os vs=vs.map (eM rt os)
 | []=>rfl
 | v::vs=>by simp[kY,fE]
theorem mE {os:List Nat}{v:V}:cells (eM rt os v)=(cells v).map (eM rt os):=by
 by_cases ha:au v=true
 ·cases v<;>simp[au] at ha
  simp[eM,cells,fE]
 ·have ha':au v=false:=by simpa using ha
  rw[bO ha',bO (Ly ha')]
  rfl
theorem EV {os:List Nat}{v:V}:au (eM rt os v)=au v:=by
 by_cases ha:au v=true
 ·cases v<;>simp[au] at ha
  simp[eM,au]
 ·have ha':au v=false:=by simpa using ha
  rw[Ly ha',ha']
theorem JB {os:List Nat}(hd:os.Nodup){o n nv:Nat}{p:List (Nat×Nat)}{r:Root}(hv:bZ rt o nv p=some r)(hn:nO o os 1=some n)(h:cz (gb rt os) n 0 p):cz rt o nv p:=by
 unfold cz ch at h ⊢
 rw[hv]
 have h1:=nC (rt:=rt) hn
 rw[(d5 hv).1] at h1
 simp only[bZ,h1,Option.map_some] at h
 simpa using h
section
variable (hL : Lab w ρ rt jw) {os : List Nat} (hd : os.Nodup)
include hL hd
theorem F4:Keep0 (fun _ _=>True) w ρ rt w (gJ ρ os) (gb rt os):=⟨fun b hb _=>⟨lL hb,rfl⟩,fun _ _ _ h _=>absurd trivial h⟩
theorem Lz {L:Option dj}{v:V}{u:Value}(h:RepV w ρ rt L v u):L=none→aw (fun o _=>rt o=none∧False) v→RepV w (gJ ρ os) (gb rt os) none (eM rt os v) u:=by
 have K:=F4 hL hd
 have far:∀{v:V} {u:Value},RepV w ρ rt none v u→nh v→RepV w (gJ ρ os) (gb rt os) none v u:=fun h hn=>by
  have:=h.mono0 K id (fun _=>False) (fun _ _ _ _=>rfl) (fun _ _ _ h=>h) (fun _ _ h=>h.elim) (by simp) (cS hn)
  simpa using this
 induction h with
 | und L=>exact fun _ _=>by simpa[eM] using RepV.und none
 | dead L u=>exact fun _ _=>by simpa[eM] using RepV.dead none u
 | bool L b=>exact fun _ _=>by simpa[eM] using RepV.bool none b
 | int L k n=>exact fun _ _=>by simpa[eM] using RepV.int none k n
 | str L s=>exact fun _ _=>by simpa[eM] using RepV.str none s
 | nilp L=>exact fun _ _=>by simpa[eM] using RepV.nilp none
 | nilfn L=>exact fun _ _=>by simpa[eM] using RepV.nilfn none
 | nilif L=>exact fun _ _=>by simpa[eM] using RepV.nilif none
 | fn L f caps g h ih=>
  intro _ hn
  simp only[eM]
  have:caps.length=(kY rt os caps).length:=by simp[fE]
  rw[this]
  refine .fn _ _ _ g fun i v hv=>?_
  rw[fE,List.getElem?_map] at hv
  obtain⟨v0,hv0,rfl⟩:=aF.1 hv
  exact ih i v0 hv0 rfl (fT (by simpa[aw] using hn) hv0)
 | iface L t v g h ih=>
  exact fun hL hn=>by
   simp only[eM]
   exact far (.iface none t v g h) (by simpa[aw,nh] using hn)
 | tup L vs p g hp h ih=>
  intro _ hn
  simp only[eM]
  have:vs.length=(kY rt os vs).length:=by simp[fE]
  rw[this]
  refine .tup _ _ p g (fun c v hv=>?_) fun c v k x hv hx=>?_
  ·rw[fE,List.getElem?_map] at hv
   obtain⟨v0,hv0,rfl⟩:=aF.1 hv
   rw[hp c v0 hv0]
   unfold fh
   rw[EV,mE,List.length_map]
  ·rw[fE,List.getElem?_map] at hv
   obtain⟨v0,hv0,rfl⟩:=aF.1 hv
   rw[mE,List.getElem?_map] at hx
   obtain⟨x0,hx0,rfl⟩:=aF.1 hx
   exact ih c v0 k x0 hv0 hx0 rfl (iJ (fT (by simpa[aw] using hn) hv0) hx0)
 | iptr L e k b off g hb hρ hc h ih=>
  exact fun _ hn=>by
   simp only[eM]
   exact far (.iptr none e k b off g hb hρ hc h) (by simpa[aw,nh] using hn)
 | isl0 L nl A c hn=>exact fun _ _=>by simpa[eM] using RepV.isl0 none nl A c hn
 | isl L es b off c s g hl h0 hρ hb hs hc h ih=>
  exact fun _ hn=>by
   simp only[eM]
   exact far (.isl none es b off c s g hl h0 hρ hb hs hc h) (by simpa[aw,nh] using hn)
 | usl0 l s A=>exact fun h=>by cases h
 | usl l s es b A c arr T g hρ hb hl hA hcap hs hc h ih=>exact fun h=>by cases h
 | uptr l e b arr T g hρ hb hc h ih=>exact fun h=>by cases h
 | hp L o nv p s i k u h h1=>
  intro _ _
  simp only[eM]
  split
  ·rename_i r n hv hn
   refine .hp _ _ _ _ _ _ _ _ (fun hl=>?_) h1
   obtain⟨b,m,hb,hbl,hu⟩:=h (JB hd hv hn hl)
   have ho:o≠0:=by
    rintro rfl
    have h2:=(d5 hv).1
    rw[hL.z] at h2
    cases h2
   exact⟨b,m,jX hb ho hn,hbl,hu⟩
  ·exact .dead _ _
 | hs L o nv p s off len u h h1=>
  intro _ _
  simp only[eM]
  split
  ·rename_i r n hv hn
   refine .hs _ _ _ _ _ _ _ _ (fun hl=>?_) h1
   obtain⟨c,A,hu,hlc,hcc⟩:=h (JB hd hv hn hl)
   have ho:o≠0:=by
    rintro rfl
    have h2:=(d5 hv).1
    rw[hL.z] at h2
    cases h2
   exact⟨c,A,hu,hlc,fun h0=>by
    obtain⟨b,m,hb,hbl,h3,h4⟩:=hcc h0
    exact⟨b,m,jX hb ho hn,hbl,h3,h4⟩⟩
  ·exact .dead _ _
end
end
section
variable {w : World} {ρ : bD} {rt : al}
theorem oY {L:List Nat}:∀{tm:List V} {n i:Nat} {v:V},(fI L n tm)[i]?=some v→∃v0,tm[i]?=some v0∧(v=v0∨v=.dead)
 | [],n,i,v,h=>by simp[fI] at h
 | x::tm,n,0,v,h=>by
  simp only[fI,List.getElem?_cons_zero,Option.some.injEq] at h
  refine⟨x,by simp,?_⟩
  split at h
  ·exact .inl h.symm
  ·exact .inr h.symm
 | x::tm,n,i+1,v,h=>by
  simp only[fI,List.getElem?_cons_succ] at h
  simpa using oY h
theorem vX {L:List Nat}:∀{tm:List V} {n:Nat},(fI L n tm).length=tm.length
 | [],n=>rfl
 | x::tm,n=>by simp[fI,vX]
theorem Ee {os:List Nat}(hd:os.Nodup)(J:eE ρ):eE (gJ ρ os):=by
 rintro b b' ⟨n,l⟩ h h'
 rcases ly h with⟨h0,h1⟩ | ⟨o,h1,h2,h3⟩<;>rcases ly h' with⟨h0',h1'⟩ | ⟨o',h1',h2',h3'⟩
 ·exact J b b' _ h1 h1'
 ·subst h0;have:=(ji h3').1;omega
 ·subst h0';have:=(ji h3).1;omega
 ·have e:o=o':=by
   have a:=(ji h3).2
   have a':=(ji h3').2
   rw[a] at a'
   simpa using a'
  subst e
  exact J b b' _ h1 h1'
theorem Lx {os:List Nat}(hd:os.Nodup)(hL:Lab w ρ rt jw):Lab w (gJ ρ os) (gb rt os) jw:=by
 refine⟨fun b n l h=>?_,by simp[gb,vV],fun b l h=>?_⟩
 ·rcases ly h with⟨h0,h1⟩ | ⟨o,h1,h2,h3⟩
  ·exact⟨(hL.l b 0 l h1).1,.inl h0⟩
  ·obtain⟨h4,h5⟩:=hL.l b o l h1
   rcases h5 with h5 | ⟨r,h5⟩
   ·exact absurd h5 h2
   ·exact⟨h4,.inr ⟨_,by rw[nC h3,h5];rfl⟩⟩
 ·rcases ly h with⟨h0,h1⟩ | ⟨o,h1,h2,h3⟩
  ·exact hL.f b l h1
  ·have:=(ji h3).1;omega
theorem LA {os:List Nat}(hd:os.Nodup)(hL:Lab w ρ rt jw)(H:ek w ρ rt)(hr:gB rt):ek w (gJ ρ os) (gb rt os):=by
 intro n r' h
 obtain⟨o,r,hn,ho,rfl⟩:=qX hd h
 have ho0:o≠0:=by rintro rfl;rw[hL.z] at ho;cases ho
 rcases H o r ho with h0 | ⟨b,arr,T,g,h1,h2,h3,h4,h5⟩
 ·exact .inl h0
 ·refine .inr ⟨b,arr,T,g,jX h1 ho0 hn,h2,h3,h4,fun i e k x he hx=>?_⟩
  have K:Keep0 (fun _ _=>True) w ρ rt w (gJ ρ os) (gb rt os):=F4 hL hd
  have:=(h5 i e k x he hx).mono0 K (fun l=>(n,l.2)) (fun l=>l.1=o) (fun l i k _=>rfl) (fun l i k h=>h)
   (fun b l hl hb=>⟨by
    obtain⟨lo,ll⟩:=l
    simp only at hl
    subst hl
    exact jX hb ho0 hn,rfl⟩) (fun l hl=>by cases hl;rfl) (cS (bR (cI (hr o r ho) he) hx))
  simpa[dj.at] using this
theorem Ef {os:List Nat}{n:Nat}(h:os.length+1≤n):gb rt os n=none:=by
 unfold gb vV
 rw[if_neg (by omega),List.getElem?_eq_none (by simp;omega)]
 rfl
theorem SR {os:List Nat}(hd:os.Nodup){n:Nat}{r:Root}(h:gb rt os n=some r):r.nv=0:=by
 obtain⟨o,r0,_,_,rfl⟩:=qX hd h
 rfl
mutual
theorem JC {os:List Nat}(hd:os.Nodup){N:Nat→Nat→Prop}:∀{v:V},aw N v→aw (cg (em (os.length+1)) (gb rt os)) (eM rt os v)
 | .und,_=>by simp[eM,aw]
 | .dead,_=>by simp[eM,aw]
 | .bool _,_=>by simp[eM,aw]
 | .int _ _,_=>by simp[eM,aw]
 | .str _,_=>by simp[eM,aw]
 | .nilp,_=>by simp[eM,aw]
 | .nilfn,_=>by simp[eM,aw]
 | .nilif,_=>by simp[eM,aw]
 | .fn _ cs,h=>by simp only[eM,aw] at h ⊢;exact wW hd h
 | .agg cs,h=>by simp only[eM,aw] at h ⊢;exact wW hd h
 | .tup cs,h=>by simp only[eM,aw] at h ⊢;exact wW hd h
 | .iface _ v,h=>by simpa[eM,aw] using h
 | .iptr e _,h=>by simpa[eM,aw] using h
 | .isl _ es,h=>by simpa[eM,aw] using h
 | .uptr e,h=>by simpa[eM,aw] using h
 | .usl _ es,h=>by simpa[eM,aw] using h
 | .hp o nv p s i k,h=>by
  simp only[eM]
  split
  ·rename_i r n hv hn
   simp only[aw]
   rintro (h1 | ⟨r',h1,h2⟩)
   ·unfold em at h1
    obtain⟨h3,h4⟩:=ji hn
    have:=(cB.1 h4).1
    omega
   ·omega
  ·simp[aw]
 | .hs o nv p s i k,h=>by
  simp only[eM]
  split
  ·rename_i r n hv hn
   simp only[aw]
   rintro (h1 | ⟨r',h1,h2⟩)
   ·unfold em at h1
    obtain⟨h3,h4⟩:=ji hn
    have:=(cB.1 h4).1
    omega
   ·have:=SR hd h1
    omega
  ·simp[aw]
theorem wW {os:List Nat}(hd:os.Nodup){N:Nat→Nat→Prop}:∀{vs:List V},cY N vs→cY (cg (em (os.length+1)) (gb rt os)) (kY rt os vs)
 | [],_=>by simp[kY,cY]
 | v::vs,h=>by simp only[kY,cY] at h ⊢;exact⟨JC hd h.1,wW hd h.2⟩
end
end
section
variable {G : Ground} {m : Nat} {w0 w : World} {ρ0 ρ : bD} {st : St} {a : Act}
theorem yh (m:Nat):(iu m).Nodup:=by
 unfold iu
 exact List.nodup_range'
theorem wU:∀{xs acc:List Nat},∃r,nP acc xs=acc++r
 | [],acc=>⟨[],by simp[nP]⟩
 | x::xs,acc=>by
  simp only[nP]
  split
  ·exact wU
  ·obtain⟨r,h⟩:=@wU xs (acc++[x])
   exact⟨x::r,by rw[h];simp⟩
theorem Qe {m i:Nat}{xs:List Nat}(h1:0<i)(h2:i≤m):nO i (nP (iu m) xs) 1=some i:=by
 have hd:(nP (iu m) xs).Nodup:=qU (yh m)
 obtain⟨r,h⟩:=@wU xs (iu m)
 have hg:(nP (iu m) xs)[i - 1]?=some i:=by
  rw[h,lf (by simp[iu];omega)]
  simp[iu,List.getElem?_range',show i - 1<m by omega]
  omega
 rw[sM hd hg]
 congr 1;omega
theorem U4 {m:Nat}{xs:List Nat}:m≤(nP (iu m) xs).length:=by
 obtain⟨r,h⟩:=@wU xs (iu m)
 rw[h];simp[iu]
theorem fX.forget (R:fX G m w0 ρ0 w ρ st a)(L:List Nat):∃ρ',fX G m w0 ρ0 w ρ' (nA m L st) a:=by
 have hd:(nP (iu m) (dT (fI L 0 st.tm))).Nodup:=qU (yh m)
 have hfx:∀i,0<i→i≤m→nO i (nP (iu m) (dT (fI L 0 st.tm))) 1=some i:=fun i h1 h2=>Qe h1 h2
 have hlen:m≤(nP (iu m) (dT (fI L 0 st.tm))).length:=U4
 generalize hos:nP (iu m) (dT (fI L 0 st.tm))=os at hd hfx hlen
 have e1:(nA m L st).tm=kY st.rt os (fI L 0 st.tm):=by simp[nA,hos]
 have e2:(nA m L st).rt=gb st.rt os:=by simp[nA,hos,gb]
 have e3:(nA m L st).nx=os.length+1:=by simp[nA,hos]
 have nn:∀(i:Nat) v,(fI L 0 st.tm)[i]?=some v→aw (cg (em st.nx) st.rt) v:=fun i v hv=>by
  obtain⟨v0,h1,h2 | h2⟩:=oY hv
  ·subst h2;exact R.tmn i v h1
  ·subst h2;simp[aw]
 refine⟨gJ ρ os,⟨?_,?_,Ee hd R.inj,?_,?_,?_,?_,?_,R.wk,?_,?_,?_,R.df,?_,?_,R.le,fun i h1 h2=>by rw[e3] at h2;unfold em at h2;omega⟩⟩
 ·rw[e1,e2]
  refine⟨by rw[fE,List.length_map,vX];exact R.tm.1,fun i v u hv hu=>?_⟩
  rw[fE,List.getElem?_map] at hv
  obtain⟨v1,hv1,rfl⟩:=aF.1 hv
  obtain⟨v0,h0,h2 | h2⟩:=oY hv1
  ·subst h2
   obtain⟨g,hg,hs⟩:=R.tm.2 i v1 u h0 hu
   refine⟨g,?_,fun k x hx=>?_⟩
   ·rw[hg];unfold fh;rw[EV,mE,List.length_map]
   ·rw[mE,List.getElem?_map] at hx
    obtain⟨x0,hx0,rfl⟩:=aF.1 hx
    exact Lz R.lab hd (hs k x0 hx0) rfl (eo (by rintro o nv ⟨_,h⟩;exact h.elim) (iJ (R.tmn i v1 h0) hx0))
  ·subst h2
   simp only[eM]
   exact aL.mk1 rfl (.dead _ _)
 ·rw[e2];exact LA hd R.lab R.rok R.rtn
 ·rw[e2]
  intro n r h
  obtain⟨o,r0,_,h1,rfl⟩:=qX hd h
  exact R.rtn o r0 h1
 ·rw[e2];exact Lx hd R.lab
 ·rw[e2,e3];exact fun o ho=>Ef ho
 ·rw[e3];intro o ho;unfold em at ho;omega
 ·rw[e1,e2,e3]
  intro i v hv
  rw[fE,List.getElem?_map] at hv
  obtain⟨v1,hv1,rfl⟩:=aF.1 hv
  exact JC hd (nn i v1 hv1)
 ·exact fun b h1 h2=>⟨lL (R.fr b h1 h2).1,(R.fr b h1 h2).2⟩
 ·exact fun b l h=>⟨Ed (R.k0 b l h).1,(R.k0 b l h).2⟩
 ·intro b l h
  rcases ly h with⟨_,h1⟩ | ⟨o,h1,h2,h3⟩
  ·exact R.f0 b l h1
  ·have:=(ji h3).1;omega
 ·exact⟨R.gr.1,fun b hb=>lL (R.gr.2.1 b hb),R.gr.2.2⟩
 ·intro i b n hi hb hn hs
  have hle:=R.le b i [] hb
  rw[e2,nC (hfx i hi hle)] at hs
  have h0:=R.am i b n hi hb hn (by simpa using hs)
  exact⟨jX h0.1 (by omega) (hfx i hi hle),h0.2⟩
end
section
variable {w w' : World} {ρ ρ' : bD} {rt rt' : al}
theorem KH {P:Program}{E:Env}(A:Agree P E)(H:ek w ρ rt)(J:eE ρ){st:St}(hst:st.rt=rt){tmps:Array Value}(T:ja w ρ rt st.tm tmps){r:ResultVar}{v:V}(h:lz E st r=some v) :
  ∃u,((match r with
   | .tmp t=>pure (tmps.getD t undef)
   | .cell a t=>do loadVar t (←asAddr (tmps.getD a undef))):Sem Value).run P w=.ok u w∧aL w ρ rt bN v u:=by
 cases r with
 | tmp t=>
  simp only[lz] at h
  have hl:=(cB.1 h).1
  obtain⟨u,hu⟩:∃u,tmps[t]?=some u:=⟨_,Array.getElem?_eq_getElem (by rw[←T.1];exact hl)⟩
  exact⟨u,by simp[Array.getD_eq_getD_getElem?,hu],T.2 t v u h hu⟩
 | cell a t=>
  simp only[lz,aE] at h
  obtain⟨ti,ht,p,hp,cs,hc,h⟩:=h
  split at h
  ·rename_i hsz
   have hl:=(cB.1 hp).1
   obtain⟨u0,hu0⟩:∃u,tmps[a]?=some u:=⟨_,Array.getElem?_eq_getElem (by rw[←T.1];exact hl)⟩
   have hpv:au p=false:=by cases p<;>first | rfl | simp[jA] at hc
   rw[hst] at hc
   obtain⟨b,off,hu,hr⟩:=I3 H J hc (aL.one hpv (T.2 a p u0 hp hu0)) (by omega)
   have hx:∀j,j<ti.size→∃y,w.cell? ⟨b,off+j,none⟩=some y∧∀x,cs[j]?=some x→RepV w ρ rt none x y:=by
    intro j hj
    obtain⟨y,h1,h2⟩:=hr j (cs[j]'(by omega)) (by simp)
    exact⟨y,h1,fun x hx=>by rw[dS (by omega)] at hx;cases hx;exact h2⟩
   have hg:∃g:Nat→Value,∀j,j<ti.size→w.cell? ⟨b,off+j,none⟩=some (g j)∧∀x,cs[j]?=some x→RepV w ρ rt none x (g j):=by
    refine⟨fun j=>if hj:j<ti.size then (hx j hj).choose else undef,fun j hj=>?_⟩
    simp only[hj,dif_pos]
    exact (hx j hj).choose_spec
   obtain⟨g,hg⟩:=hg
   have h1:et ti.desc=false→ti.size=1:=fun ha=>by
    unfold jC at h
    rw[if_neg (by simp[ha])] at h
    split at h
    ·rename_i v' hv'
     have:=congrArg List.length hv'
     simp[Nat.min_eq_left hsz.2] at this
     exact this
    ·cases h
   refine⟨_,?_,tT (g:=g) h (fun k x hk=>?_)⟩
   ·simp only[Array.getD_eq_getD_getElem?,hu0,Option.getD_some,hu,asAddr,Sem.run_bind,Sem.run_pure,Result.andThen]
    rw[yu A ht (fun j hj=>(hg j hj).1) h1]
    simp[List.length_take,Nat.min_eq_left hsz.2]
   ·rw[List.getElem?_take] at hk
    split at hk
    ·rename_i hk'
     exact (hg k hk').2 x hk
    ·cases hk
  ·cases h
theorem qz {E:Env}{st:St}:∀{rs:List ResultVar} {vs:List V},gv E st rs=some vs→vs.length=rs.length∧∀(i:Nat) r v,rs[i]?=some r→vs[i]?=some v→lz E st r=some v
 | [],vs,h=>by simp[gv] at h;subst h;simp
 | r::rs,vs,h=>by
  simp only[gv,aE,aF] at h
  obtain⟨v,hv,ys,hys,rfl⟩:=h
  have ih:=qz hys
  refine⟨by simp[ih.1],fun i r' v' h1 h2=>?_⟩
  cases i with
  | zero=>simp at h1 h2;subst h1 h2;exact hv
  | succ i=>exact ih.2 i r' v' (by simpa using h1) (by simpa using h2)
theorem KI {P:Program}{E:Env}(A:Agree P E)(H:ek w ρ rt)(J:eE ρ){st:St}(hst:st.rt=rt){tmps:Array Value}(T:ja w ρ rt st.tm tmps){fn:Func}{vs:List V}(h:gv E st fn.results.toList=some vs) :
  ∃p:Nat→Value,(results fn tmps).run P w=.ok (if vs.length=1 then p 0 else .tuple (dx vs.length p)) w∧∀(i:Nat) v,vs[i]?=some v→aL w ρ rt bN v (p i):=by
 obtain⟨hl,hg⟩:=qz h
 have hx:∀i,i<vs.length→∃u,∀r v,fn.results.toList[i]?=some r→vs[i]?=some v→((match r with
   | .tmp t=>pure (tmps.getD t undef)
   | .cell a t=>do loadVar t (←asAddr (tmps.getD a undef))):Sem Value).run P w=.ok u w∧aL w ρ rt bN v u:=by
  intro i hi
  obtain⟨u,h1,h2⟩:=KH A H J hst T (hg i _ _ (dS (by omega)) (dS hi))
  refine⟨u,fun r v hr hv=>?_⟩
  rw[dS (by omega)] at hr
  rw[dS hi] at hv
  cases hr
  cases hv
  exact⟨h1,h2⟩
 have hp:∃p:Nat→Value,∀i,i<vs.length→∀r v,fn.results.toList[i]?=some r→vs[i]?=some v→((match r with
   | .tmp t=>pure (tmps.getD t undef)
   | .cell a t=>do loadVar t (←asAddr (tmps.getD a undef))):Sem Value).run P w=.ok (p i) w∧aL w ρ rt bN v (p i):=by
  refine⟨fun i=>if hi:i<vs.length then (hx i hi).choose else undef,fun i hi=>?_⟩
  simp only[hi,dif_pos]
  exact (hx i hi).choose_spec
 obtain⟨p,hp⟩:=hp
 refine⟨p,?_,fun i v hv=>?_⟩
 ·have hm:=Ao (P:=P) w (l:=fn.results.toList) (r:=(List.range vs.length).map p) (f:=fun r=>((match r with
   | .tmp t=>pure (tmps.getD t undef)
   | .cell a t=>do loadVar t (←asAddr (tmps.getD a undef))):Sem Value)) (by simp[hl]) (fun i r u h1 h2=>by
    rw[List.getElem?_map] at h2
    obtain⟨j,hj,rfl⟩:=aF.1 h2
    have hi:i<vs.length:=by
     have:=(cB.1 hj).1
     simpa using this
    have:j=i:=by simpa[List.getElem?_range hi] using hj.symm
    subst this
    exact (hp j hi r _ h1 (dS hi)).1)
  unfold results
  rw[Array.mapM_eq_mapM_toList]
  simp only[Sem.run_bind,map_eq_pure_bind,Sem.run_pure,Result.andThen]
  erw [hm]
  simp only[Result.andThen,List.size_toArray,List.length_map,List.length_range]
  by_cases h1:vs.length=1
  ·simp[h1]
  ·simp[h1,dx]
 ·have hi:=(cB.1 hv).1
  exact (hp i hi _ v (dS (by omega)) hv).2
end
section
variable {w w' : World} {ρ ρ' : bD} {rt rt' : al}
theorem wV {rt:al}:∀{own:List Bool} {vs:List V} {a:Nat} {x:V},dP own (cO rt own vs) a=some x→∃v,vs[a]?=some v∧x=E4 rt v
 | [],vs,a,x,h=>by cases vs<;>simp[cO,dP] at h
 | true::bs,[],a,x,h=>by simp[cO,dP] at h
 | false::bs,[],0,x,h=>by simp[dP] at h
 | false::bs,[],a+1,x,h=>by
  simp only[cO,dP] at h
  have:cO rt bs []=[]:=by
   cases bs with
   | nil=>rfl
   | cons b _=>cases b<;>rfl
  rw[←this] at h
  obtain⟨v,hv,_⟩:=wV h
  simp at hv
 | true::bs,v::vs,0,x,h=>by simp[cO,dP] at h;exact⟨v,by simp,h.symm⟩
 | true::bs,v::vs,a+1,x,h=>by
  simp only[cO,dP] at h
  obtain⟨y,hy,hx⟩:=wV h
  exact⟨y,by simpa using hy,hx⟩
 | false::bs,v::vs,0,x,h=>by simp[dP] at h
 | false::bs,v::vs,a+1,x,h=>by
  simp only[cO,dP] at h
  obtain⟨y,hy,hx⟩:=wV h
  exact⟨y,by simpa using hy,hx⟩
theorem F0 {v:V}(h:cp v=true):au v=false∧notOwn v:=by
 cases v<;>simp[cp] at h<;>exact⟨rfl,trivial⟩
theorem KE {v:V}:au (fH rt v)=false:=by
 unfold fH
 split
 ·rename_i x hx
  unfold DP at hx
  split at hx
  ·simp only[aE] at hx
   obtain⟨r,_,hx⟩:=hx
   split at hx<;>cases hx
   rfl
  ·simp only[aE] at hx
   obtain⟨r,_,hx⟩:=hx
   split at hx
   ·split at hx<;>cases hx
    rfl
   ·cases hx
  ·split at hx
   ·rename_i hp
    cases hx
    exact (F0 hp).1
   ·cases hx
 ·rfl
theorem Mw {v:V}:cells (E4 rt v)=(cells v).map (fH rt):=by
 by_cases ha:au v=true
 ·cases v<;>simp[au] at ha
  rfl
 ·have ha':au v=false:=by simpa using ha
  have:E4 rt v=fH rt v:=by cases v<;>first | rfl | simp[au] at ha
  rw[this,bO ha',bO KE]
  rfl
theorem rD {v:V}(h:¬notOwn (fH rt v)):(∃o nv s len r,v=.hs o nv [] s 0 len∧rt o=some r∧len=r.es.length∧s=r.s∧fH rt v=.usl s r.es)∨
  (∃o nv s e r,v=.hp o nv [] s 0 0∧rt o=some r∧r.es=[e]∧s=r.s∧(cells e).length=s∧fH rt v=.uptr e):=by
 unfold fH at h ⊢
 split at h
 ·rename_i x hx
  unfold DP at hx
  split at hx
  ·rename_i o nv s off len
   simp only[aE] at hx
   obtain⟨r,hr,hx⟩:=hx
   split at hx
   ·rename_i hc
    cases hx
    obtain⟨rfl,h2,h3⟩:=hc
    exact .inl ⟨o,nv,s,len,r,rfl,hr,h2,h3,rfl⟩
   ·cases hx
  ·rename_i o nv s i k
   simp only[aE] at hx
   obtain⟨r,hr,hx⟩:=hx
   split at hx
   ·rename_i e he
    split at hx
    ·rename_i hc
     cases hx
     obtain⟨rfl,rfl,h2,h3⟩:=hc
     exact .inr ⟨o,nv,s,e,r,rfl,hr,he,h2,h3,rfl⟩
    ·cases hx
   ·cases hx
  ·split at hx
   ·rename_i hp
    cases hx
    exact absurd (F0 hp).2 h
   ·cases hx
 ·exact absurd trivial h
def gV (ρ:bD)(q:Nat)(R:List nZ):bD:=fun b=>
 match ρ b with
 | none=>none
 | some (o,l)=>if o=0 then some (0,l) else if o=q then some (2,l) else (R[o - 1]?).map fun e=>(1,(e.1,e.2.1)::l)
theorem ye {q R b}(h:ρ b=none):gV ρ q R b=none:=by simp[gV,h]
theorem Mz {q R b l}(h:ρ b=some (0,l)):gV ρ q R b=some (0,l):=by simp[gV,h]
theorem MA {q R b l}(h:ρ b=some (q,l))(h0:q≠0):gV ρ q R b=some (2,l):=by simp[gV,h,h0]
theorem nj {q R b l j c k r}(h:ρ b=some (1+j,l))(hq:1+j≠q)(hj:R[j]?=some (c,k,r)):gV ρ q R b=some (1,(c,k)::l):=by
 unfold gV
 rw[h]
 simp only
 rw[if_neg (by omega),if_neg hq,show 1+j - 1=j by omega,hj]
 rfl
theorem py {q R b n l}(h:gV ρ q R b=some (n,l)):(n=0∧ρ b=some (0,l))∨(n=2∧q≠0∧ρ b=some (q,l))∨∃j c k r t,n=1∧l=(c,k)::t∧ρ b=some (1+j,t)∧1+j≠q∧R[j]?=some (c,k,r):=by
 unfold gV at h
 split at h
 ·cases h
 ·rename_i o l' hb
  split at h
  ·rename_i h0
   cases h
   subst h0
   exact .inl ⟨rfl,hb⟩
  ·rename_i h0
   split at h
   ·rename_i hq
    cases h
    subst hq
    exact .inr (.inl ⟨rfl,h0,hb⟩)
   ·rename_i hq
    simp only[aF] at h
    obtain⟨⟨c,k,r⟩,he,h⟩:=h
    cases h
    exact .inr (.inr ⟨o - 1,c,k,r,l',rfl,rfl,by rw[show 1+(o - 1)=o by omega];exact hb,by omega,he⟩)
theorem S1 {v:V}(h:(cells v).all eP=true):lr v=false:=by
 cases v<;>first | rfl | simp[cells,eP] at h
structure Fits (fn:Func) (c:Code) (n:Nat):Prop where
 body:fn.body=some c
 name : (fn.name == "runtime.NumGoroutine") = false
 args:n≤fn.ntmps
theorem F7 {P:Program}{f:FuncId}{fn:Func}{c:Code}{n:Nat}(hf:P.funcs[f]?=some fn)(F:Fits fn c n)(us:Array Value)(w:World):(callFunc f us).run P w=.ok (.enter f us) w:=by
 have:=F.name
 simp at this
 simp[callFunc,hf,F.body,this]
def rE (vs:List V):Nat:=(bF 1 0 vs).2.length
theorem PK {P:Program}{G:Ground}{vs:List V}{us:List Value}(ha:lG w ρ vs us)(hi:Inn w ρ)(hg:G.ok w ρ){fn:Func}(hn:vs.length≤fn.ntmps) :
  fX G (rE vs) w (eX ρ 1 1 (bF 1 0 vs).2) w (eX ρ 1 1 (bF 1 0 vs).2) (enter fn vs).2 { tmps:=us.toArray++Array.replicate (fn.ntmps - us.toArray.size) undef,defers:=[] }:=by
 have hp:∃p:Nat→Value,∀(a:Nat) u,us[a]?=some u→u=p a:=⟨fun a=>us.getD a undef,fun a u h=>by simp[List.getD_eq_getElem?_getD,h]⟩
 obtain⟨p,hp⟩:=hp
 have pl:=Js (N:=fun _ _=>True) (w:=w) (ρ:=ρ) (rt:=gN) (q:=1) (id:=1) (vs:=vs) (p:=p) (by intro o r h;cases h) hi.inj (by intro o r h;cases h)
  ⟨fun b o l h=>⟨(hi.lab b o l h).1,.inl (hi.lab b o l h).2⟩,rfl,hi.f⟩ (by omega) rfl (by omega) (fun _ _ _=>rfl) (fun _ _ _ _=>trivial) (fun c v hv=>by
   obtain⟨u,hu⟩:∃u,us[c]?=some u:=⟨_,dS (by rw[←ha.1];exact (cB.1 hv).1)⟩
   have:=ha.2 c v u hv hu
   rw[hp c u hu] at this
   exact this)
 obtain⟨s1,s2,s3,s4⟩:=jU (vs:=vs) (id:=1) (c:=0)
 have e1:(enter fn vs).2.tm=(bF 1 0 vs).1++List.replicate (fn.ntmps - vs.length) .und:=rfl
 have e2:(enter fn vs).2.rt=d4 gN 1 (bF 1 0 vs).2:=rfl
 have e3:(enter fn vs).2.nx=1+(bF 1 0 vs).2.length:=rfl
 have hle:∀b i l,eX ρ 1 1 (bF 1 0 vs).2 b=some (i,l)→i≤rE vs:=fun b i l h=>by
  rcases ip h with⟨h1,h2⟩ | ⟨c,k,j,h1,h2,h3⟩
  ·rcases (hi.lab b i l h1).2 with h | h
   ·omega
   ·exact absurd h h2
  ·obtain⟨r,hr⟩:=jE h2
   have:=(cB.1 hr).1
   unfold rE
   omega
 refine⟨?_,?_,pl.inj,?_,?_,?_,?_,?_,Wk.refl,fun b hb _=>⟨hb,rfl⟩,fun b l hb=>⟨hb,rfl⟩,fun b l h=>h,rfl,?_,fun i b n _ h1 h2 _=>⟨h1,h2⟩,hle,?_⟩
 ·rw[e1,e2]
  refine⟨by simp[s1,ha.1],fun i v u hv hu=>?_⟩
  by_cases hi:i<vs.length
  ·rw[lf (by rw[s1];exact hi)] at hv
   simp only[Array.getElem?_append,List.size_toArray,←ha.1,hi,if_true,List.getElem?_toArray] at hu
   rw[hp i u hu]
   exact (pl.val i v hv).1
  ·rw[nF (by rw[s1];omega)] at hv
   simp only[Array.getElem?_append,List.size_toArray,←ha.1,hi,if_false,Array.getElem?_replicate] at hu
   rw[List.getElem?_replicate] at hv
   split at hv<;>cases hv
   split at hu<;>cases hu
   exact aL.mk1 rfl (.und _)
 ·rw[e2];exact pl.rok
 ·rw[e2];exact pl.rtn
 ·rw[e2];exact pl.lab
 ·rw[e2,e3]
  intro o ho
  unfold em at ho
  cases hr:d4 gN 1 (bF 1 0 vs).2 o with
  | none=>rfl
  | some r=>
   rcases pl.nv o r hr with h | ⟨_,h⟩
   ·cases h
   ·omega
 ·rw[e3];intro o ho;unfold em at ho;omega
 ·rw[e1,e2,e3]
  intro i v hv
  by_cases hi:i<vs.length
  ·rw[lf (by rw[s1];exact hi)] at hv
   exact (pl.val i v hv).2 _ fun o h1 h2 h3=>by unfold em at h3;omega
  ·rw[nF (by rw[s1];omega)] at hv
   rw[List.getElem?_replicate] at hv
   split at hv<;>cases hv
   simp[aw]
 ·exact⟨hg.1,fun b hb=>pj (hg.2.1 b hb),hg.2.2⟩
 ·rw[e3];unfold em;unfold rE at *;intro i h1 h2;omega
end
section
variable {w w' : World} {ρ ρ' : bD} {rt rt' : al}
theorem P1 {P:Program}{E:Env}(A:Agree P E){G:Ground}{vs:List V}{us:List Value}(ha:lG w ρ vs us)(hi:Inn w ρ){fn:Func}{own:List Bool}{st:St}{a:Act}(R:fX G (rE vs) w (eX ρ 1 1 (bF 1 0 vs).2) w' ρ' st a){r:V}{os:List V}(h:kS E fn own (enter fn vs).1 st=some (r,os)) :
  ∃u,(results fn a.tmps).run P w'=.ok u w'∧∃ρe,Aft w ρ w' ρe∧Hm w' ρe r u∧na w ρ w' ρe own vs us os:=by
 simp only[kS,aE,aF] at h
 obtain⟨rs,hrs,⟨l,rt2⟩,hab,h⟩:=h
 cases h
 obtain⟨p,hrun,hslot⟩:=KI A R.rok R.inj rfl R.tm hrs
 obtain⟨s1,s2,s3,s4⟩:=jU (vs:=vs) (id:=1) (c:=0)
 have hnl:rE vs<st.nx:=Nat.lt_of_not_le fun h=>R.nl (rE vs) (Nat.le_refl _) h
 have hq:st.rt st.nx=none:=R.fresh st.nx (Nat.le_refl _)
 have hq0:st.nx≠0:=by omega
 have hrn:cY (cg (em st.nx) st.rt) rs:=dY.2 fun v hv=>by
  obtain⟨i,hi⟩:=List.mem_iff_getElem?.1 hv
  obtain⟨hl,hg⟩:=qz hrs
  have:=hg i _ v (dS (by have:=(cB.1 hi).1;omega)) hi
  revert this
  generalize fn.results.toList[i]'_=rv
  intro this
  cases rv with
  | tmp t=>exact R.tmn t v this
  | cell b t=>
   simp only[lz,aE] at this
   obtain⟨ti,ht,pv,hpv,cs,hc,this⟩:=this
   split at this
   ·exact Aq this (xc (Lf R.rtn (fun o r hr=>by
     rintro (h | ⟨r',h,h2⟩)
     ·rw[R.fresh o h] at hr;cases hr
     ·rw[hr] at h;cases h;omega) (R.tmn b pv hpv) hc))
   ·cases this
 obtain⟨ρ2,ab,hl,hres⟩:=pf (q:=st.nx) (i0:=0) (g:=p) (N:=cg (em st.nx) st.rt) R.rok R.inj R.rtn R.lab (fun i j l _ h=>hq0 h) hq0 hq hslot hrn hab
 have hR:(bF 1 0 vs).2.length<st.nx:=hnl
 have hlow:∀{j:Nat} {e:nZ},(bF 1 0 vs).2[j]?=some e→1+j≠st.nx:=fun hj=>by
  have:=(cB.1 hj).1
  omega
 have K:Keep0 (fun _ _=>True) w' ρ2 rt2 w' (gV ρ2 st.nx (bF 1 0 vs).2) gN:=⟨fun b hb _=>⟨ye hb,rfl⟩,fun _ _ _ h _=>absurd trivial h⟩
 refine⟨_,hrun,gV ρ2 st.nx (bF 1 0 vs).2,⟨R.wk,fun b hb hlt=>?_,fun b l hb=>?_,fun b l hb=>?_,?_,fun b o l hb=>?_⟩,?_,?_⟩
 ·have h1:=R.fr b (pj hb) hlt
  have h2:=ab.keep.k1 b h1.1 (Nat.lt_of_lt_of_le hlt R.wk.size)
  exact⟨ye h2.1,h1.2⟩
 ·have h1:=R.k0 b l (lx hb (by omega))
  have h2:=ab.keep.k0 b l h1.1
  exact⟨Mz h2.1,h1.2⟩
 ·rcases py hb with⟨_,h1⟩ | ⟨h0,_⟩ | ⟨_,_,_,_,_,h0,_⟩
  ·rcases ip (R.f0 b l (ab.f0 b l h1)) with⟨h2,_⟩ | ⟨_,_,_,_,_,h3⟩
   ·exact h2
   ·omega
  ·cases h0
  ·cases h0
 ·rintro b b' ⟨n,l⟩ h h'
  rcases py h with⟨e,h1⟩ | ⟨e,e0,h1⟩ | ⟨j,c,k,r,t,e,rfl,h1,_,hj⟩<;>rcases py h' with⟨e',h1'⟩ | ⟨e',e0',h1'⟩ | ⟨j',c',k',r',t',e',e1',h1',_,hj'⟩<;>(try omega)
  ·exact ab.inj b b' _ h1 h1'
  ·exact ab.inj b b' _ h1 h1'
  ·cases e1'
   have:=s4 j j' _ _ hj hj' rfl rfl
   subst this
   exact ab.inj b b' _ h1 h1'
 ·rcases py hb with⟨e,h1⟩ | ⟨e,e0,h1⟩ | ⟨j,c,k,r,t,e,_,h1,_,hj⟩
  ·exact⟨(ab.lab.l b 0 l h1).1,.inl e⟩
  ·exact⟨(ab.lab.l b _ l h1).1,.inr (.inr e)⟩
  ·exact⟨(ab.lab.l b _ t h1).1,.inr (.inl e)⟩
 ·have hcell:∀(c:Nat) v,l[c]?=some v→aL w' (gV ρ2 st.nx (bF 1 0 vs).2) gN (fun k=>some (2,[(c,k)])) v (p c)∧nh v∧lr v=false:=by
   intro c v hv
   obtain⟨y,hy⟩:∃y,rs[c]?=some y:=⟨_,dS (by have:=(cB.1 hv).1;omega)⟩
   obtain⟨⟨g,hg,hs⟩,h2,_,_,h5⟩:=hres c v y hv hy
   refine⟨⟨g,hg,fun k x hx=>?_⟩,h2,S1 h5⟩
   have:=(hs k x hx).mono0 K (fun l=>(2,l.2)) (fun l=>l.1=st.nx) (fun l i k _=>rfl) (fun l i k h=>h) (fun b l hl hb=>⟨by
    obtain⟨lo,ll⟩:=l
    simp only at hl
    subst hl
    exact MA hb hq0,rfl⟩) (fun l hl=>by cases hl;rfl) (cS (bR h2 hx))
   simpa using this
  rw[←hl]
  by_cases h1:l.length=1
  ·obtain⟨v,rfl⟩:∃v,l=[v]:=by
    match l,h1 with
    | [v],_=>exact⟨v,rfl⟩
   have hv:=hcell 0 v rfl
   refine⟨p,by simp[uh,hv.2.2],fun c x hx=>?_⟩
   have hc:fe v=[v]:=by cases v<;>first | rfl | (simp[lr] at hv)
   simp only[uh,hc] at hx
   exact hcell c x hx
  ·have ht:uh l=.tup l:=by
    match l,h1 with
    | [],_=>rfl
    | _::_::_,_=>rfl
    | [v],h=>exact absurd rfl h
   rw[ht]
   exact⟨p,by simp[lr,fe,h1],fun c x hx=>hcell c x hx⟩
 ·intro a v u x hv hu hx g hug k y z hy hz hno
  obtain⟨av,hav,rfl⟩:=wV hx
  rw[Mw,List.getElem?_map] at hy
  obtain⟨c0,hc0,rfl⟩:=aF.1 hy
  obtain⟨y',hy',_,hlen,hcc⟩:=s3 a v hv
  have:y'=av:=by
   have:(enter fn vs).1=(bF 1 0 vs).1:=rfl
   rw[this] at hav
   rw[hav] at hy'
   cases hy';rfl
  subst this
  have hown:∃j:Nat,(bF 1 0 vs).2[j]?=some (a,k,kZ z)∧c0=ig (1+j) z∧¬notOwn z:=by
   rcases hcc k z hz with⟨h1,h2⟩ | ⟨h1,j,h2,h3⟩
   ·rw[h2] at hc0
    cases hc0
    exfalso
    rcases rD hno with⟨o,nv,s,len,r,rfl,_⟩ | ⟨o,nv,s,e,r,rfl,_⟩
    ·have:=(ha.2 a v u hv hu).2
     have:=bR this hz
     simp[nh] at this
    ·have:=(ha.2 a v u hv hu).2
     have:=bR this hz
     simp[nh] at this
   ·rw[h3] at hc0
    cases hc0
    exact⟨j,by simpa using h2,rfl,h1⟩
  obtain⟨j,hj,rfl,hzo⟩:=hown
  have hjm:=(cB.1 hj).1
  obtain⟨⟨g',hg',hsl⟩,hnz⟩:=ha.2 a v u hv hu
  have hgk:∀k x,(cells v)[k]?=some x→g k=g' k:=by
   intro k x hx
   rw[hug] at hg'
   unfold fh at hg'
   split at hg'
   ·have hk:=(cB.1 hx).1
    injection hg' with hg'
    have h1:(dx (cells v).length g)[k]?=some (g k):=iB hk
    rw[hg',iB hk] at h1
    exact (Option.some.inj h1).symm
   ·rename_i hag
    have hk:=(cB.1 hx).1
    rw[bO (by simpa using hag)] at hk
    simp at hk
    subst hk
    exact hg'
  have hrz:=hsl k z hz
  rw[←hgk k z hz] at hrz
  generalize g k=uv at hrz ⊢
  have hpos:qw (bF 1 0 vs).2 a k=some j:=by
   obtain⟨j',h'⟩:=wh hj
   obtain⟨r',h''⟩:=jE h'
   rw[h',s4 j' j _ _ h'' hj rfl rfl]
  have hlab:∀b t,ρ b=some (1,(a,k)::t)→eX ρ 1 1 (bF 1 0 vs).2 b=some (1+j,t):=fun b t hb=>lw hb hpos
  have hrt2:∀r,rt2 (1+j)=some r→∃r0,st.rt (1+j)=some r0∧r.nv=r0.nv:=fun r hr=>by
   obtain⟨r0,h0,h1,_⟩:=ab.nv (1+j) r hr
   exact⟨r0,h0,h1⟩
  have hkeep:∀r b n,rt2 (1+j)=some r→ρ b=some (1,[(a,k)])→ki w b n→ρ2 b=some (1+j,[])∧ki w' b n:=fun r b n hr hb hn=>by
   obtain⟨r0,h0,h1⟩:=hrt2 r hr
   have h2:=R.am (1+j) b n (by omega) (hlab b [] hb) hn (by rw[h0];rfl)
   have hlv:cz rt2 (1+j) r0.nv []:=by simp[cz,ch,bZ,hr,aU]
   exact (ab.keep.k2 (1+j) r0.nv [] (by
    rintro (h | ⟨r2,h,h3⟩)
    ·unfold em at h;omega
    ·rw[h0] at h;cases h;omega) hlv).2 b n h2.1 h2.2
  have hmove:∀{e x:V} {i kk:Nat} {r:Root} {yv:Value},rt2 (1+j)=some r→r.es[i]?=some e→(cells e)[kk]?=some x→RepV w' ρ2 rt2 (some (1+j,[(i,kk)])) x yv→
    RepV w' (gV ρ2 st.nx (bF 1 0 vs).2) gN (some (dj.at (1,[(a,k)]) i kk)) x yv:=by
   intro e x i kk r yv hr he hx hxv
   have:=hxv.mono0 K (fun l=>(1,(a,k)::l.2)) (fun l=>l.1=1+j) (fun l i k _=>rfl) (fun l i k h=>h) (fun b l hl hb=>⟨by
    obtain⟨lo,ll⟩:=l
    simp only at hl
    subst hl
    exact nj hb (hlow hj) hj,rfl⟩) (fun l hl=>by cases hl;rfl) (cS (bR (cI (ab.rtn _ r hr) he) hx))
   simpa[dj.at] using this
  rcases D5 z with h | ⟨s,es,rfl⟩ | ⟨e,rfl⟩
  ·exact absurd h hzo
  ·rcases rD hno with⟨o,nv,s',len,r,heq,hr,hln,hs',hout⟩ | ⟨o,nv,s',e,r,heq,_⟩
   ·simp only[ig,V.hs.injEq] at heq
    obtain⟨rfl,rfl,_,rfl,_,rfl⟩:=heq
    rw[hout]
    refine⟨by simpa[nh] using ab.rtn _ r hr,?_,fun b nb hb hnb=>(nj (hkeep r b nb hr hb hnb).1 (hlow hj) hj)⟩
    ·cases hrz with
     | usl0=>
      have:r.es=[]:=List.eq_nil_of_length_eq_zero (by simpa using hln.symm)
      rw[this]
      exact .usl0 _ _ _
     | usl _ _ _ b A c arr T gg hρ hb hl' hA hcap hs hc h=>
      obtain⟨h1,arr',T',h2,h3⟩:=hkeep r b arr.size hr hρ ⟨arr,T,hb,rfl⟩
      have e1:gV ρ2 st.nx (bF 1 0 vs).2 b=some (1,[(a,k)]):=nj h1 (hlow hj) hj
      rw[show es.length=r.es.length from hln]
      rcases ab.rok (1+j) r hr with h0 | ⟨b',arr2,T2,g2,q1,q2,q3,q4,q5⟩
      ·rw[h0]
       exact .usl _ _ [] b A c arr' T' (fun _ _=>undef) e1 h2 (by simp) hA (by rw[h3];exact hcap) (by simp) (by simp) (by simp)
      ·have:=ab.inj b b' _ h1 q1
       subst this
       rw[h2] at q2
       cases q2
       exact .usl _ _ _ b A c arr' T' g2 e1 h2 (by rw[←hln];exact hl') hA (by rw[h3];exact hcap) (by rw[hs'];exact q3) (by rw[hs'];exact q4) (fun i e k' x he hx=>hmove hr he hx (q5 i e k' x he hx))
   ·simp[ig] at heq
  ·rcases rD hno with⟨o,nv,s',len,r,heq,_⟩ | ⟨o,nv,s',e2,r,heq,hr,hes,hs',hce,hout⟩
   ·simp[ig] at heq
   ·simp only[ig,V.hp.injEq] at heq
    obtain⟨rfl,rfl,_,rfl,_,_⟩:=heq
    rw[hout]
    cases hrz with
    | uptr _ _ b arr T gg hρ hb hc h=>
     obtain⟨h1,arr',T',h2,h3⟩:=hkeep r b arr.size hr hρ ⟨arr,T,hb,rfl⟩
     have e1:gV ρ2 st.nx (bF 1 0 vs).2 b=some (1,[(a,k)]):=nj h1 (hlow hj) hj
     refine⟨by have:=ab.rtn _ r hr;rw[hes] at this;simpa[nh,nhs] using this,?_,fun b2 nb hb2 hnb=>nj (hkeep r b2 nb hr hb2 hnb).1 (hlow hj) hj⟩
     ·rcases ab.rok (1+j) r hr with h0 | ⟨b',arr2,T2,g2,q1,q2,q3,q4,q5⟩
      ·rw[hes] at h0;cases h0
      ·have:=ab.inj b b' _ h1 q1
       subst this
       rw[h2] at q2
       cases q2
       refine .uptr _ _ b arr' T' (g2 0) e1 h2 (fun kk x hx=>?_) (fun kk x hx=>?_)
       ·have:=q4 0 e2 kk x (by rw[hes];rfl) hx
        simpa using this
       ·exact hmove hr (i:=0) (by rw[hes];rfl) hx (q5 0 e2 kk x (by rw[hes];rfl) hx)
end
section
def Ag (H:Nat→Prop)(rt rt2:al):Prop:=∀o,H o→rt2 o=rt o
def Lk (H:Nat→Prop)(rt rt1 rt2 rt3:al):Prop:=∀o,(H o→rt3 o=rt1 o)∧(¬H o→rt3 o=rt2 o∧rt1 o=rt o)
variable {H : Nat→Prop} {rt rt1 rt2 rt3 : al}
theorem Lk.refl (h:Ag H rt rt2):Lk H rt rt rt2 rt2:=fun o=>⟨h o,fun _=>⟨rfl,rfl⟩⟩
theorem Lk.ag (h:Lk H rt rt1 rt2 rt3):Ag H rt1 rt3:=fun o ho=>(h o).1 ho
theorem Lk.trans {a b:al}(h:Lk H rt rt1 rt2 rt3)(h':Lk H rt1 a rt3 b):Lk H rt a rt2 b:=
 fun o=>⟨fun ho=>(h' o).1 ho,fun ho=>⟨((h' o).2 ho).1.trans ((h o).2 ho).1,((h' o).2 ho).2.trans ((h o).2 ho).2⟩⟩
theorem Lk.upd {o:Nat}{r:Option Root}(ho:H o)(h:Lk H rt rt1 rt2 rt3):Lk H rt (upd rt1 o r) rt2 (upd rt3 o r):=fun x=>by
 by_cases hx:x=o
 ·subst hx
  exact⟨fun _=>by simp[Ln.upd],fun h=>absurd ho h⟩
 ·simp only[Ln.upd,if_neg hx]
  exact h x
theorem mf (h:Ag H rt rt2){o nv:Nat}{p}(ho:H o):bZ rt2 o nv p=bZ rt o nv p:=by simp[bZ,h o ho]
theorem lu (h:Ag H rt rt2){o nv:Nat}{p}(ho:H o):ch rt2 o nv p=ch rt o nv p:=by simp[ch,mf h ho]
theorem UO (h:Ag H rt rt2){v:V}(hv:∀o∈dN v,H o):jA rt2 v=jA rt v:=by
 cases v with
 | hp o nv p s i k=>simp[jA,mf h (hv o (by simp[dN]))]
 | _=>rfl
theorem Ac (h:Ag H rt rt2){v:V}(hv:∀o∈dN v,H o):lm rt2 v=lm rt v:=by
 cases v with
 | hp o nv p s i k=>simp[lm,lu h (hv o (by simp[dN]))]
 | hs o nv p s i k=>simp[lm,lu h (hv o (by simp[dN]))]
 | _=>rfl
theorem JH (h:Ag H rt rt2){v:V}(hv:∀o∈dN v,H o):fA rt2 v=fA rt v:=by
 cases v with
 | hp o nv p s i k=>simp[fA,lu h (hv o (by simp[dN]))]
 | hs o nv p s i k=>simp[fA,lu h (hv o (by simp[dN]))]
 | _=>rfl
theorem Sk {E:Env}{t t':TypeId}(h:Ag H rt rt2){v:V}(hv:∀o∈dN v,H o):oz E rt2 t t' v=oz E rt t t' v:=by
 have:rF rt2 v=rF rt v:=by
  cases v with
  | hs o nv p s i k=>simp[rF,lu h (hv o (by simp[dN]))]
  | _=>rfl
 unfold oz
 split<;>simp_all
theorem ii {o:Nat}:∀{vs:List V},o∈dT vs↔∃v∈vs,o∈dN v
 | []=>by simp[dT]
 | v::vs=>by simp[dT,@ii o vs]
theorem F9 (h:Ag H rt rt2):∀{vs:List V},(∀o∈dT vs,H o)→gX rt2 vs=gX rt vs
 | [],_=>rfl
 | v::vs,hv=>by
  simp only[dT,List.mem_append] at hv
  simp only[gX,JH h fun o ho=>hv o (.inl ho),F9 h fun o ho=>hv o (.inr ho)]
theorem F8 (h:Ag H rt rt2){v:V}(hv:∀o∈dN v,H o):gk rt2 v=gk rt v:=by
 cases v<;>first | exact JH h hv | (simp only[gk];rw[F9 h (by simpa[dN] using hv)])
theorem I9 (h:Ag H rt rt2){v:V}(hv:∀o∈dN v,H o):gY rt2 v=gY rt v:=by
 cases v with
 | hp o nv p s i k=>simp[gY,mf h (hv o (by simp[dN]))]
 | hs o nv p s i k=>simp[gY,mf h (hv o (by simp[dN]))]
 | _=>rfl
theorem FN (h:Ag H rt rt2):∀{vs:List V},(∀o∈dT vs,H o)→jh rt2 vs=jh rt vs
 | [],_=>rfl
 | v::vs,hv=>by
  simp only[dT,List.mem_append] at hv
  simp only[jh,I9 h fun o ho=>hv o (.inl ho),FN h fun o ho=>hv o (.inr ho)]
theorem UT (h:Ag H rt rt2){v:V}(hv:∀o∈dN v,H o):no rt2 v=no rt v:=by
 cases v<;>first | exact I9 h hv | (simp only[no];rw[FN h (by simpa[dN] using hv)])
theorem tz (h:Ag H rt rt2):∀{own:List Bool} {vs:List V},(∀o∈dT vs,H o)→eI rt2 own vs=eI rt own vs
 | own,[],_=>by cases own<;>rfl
 | [],v::vs,hv=>by
  simp only[dT,List.mem_append] at hv
  simp only[eI,F8 h fun o ho=>hv o (.inl ho),tz h (own:=[]) fun o ho=>hv o (.inr ho)]
 | true::own,v::vs,hv=>by
  simp only[dT,List.mem_append] at hv
  simp only[eI,UT h fun o ho=>hv o (.inl ho),tz h (own:=own) fun o ho=>hv o (.inr ho)]
 | false::own,v::vs,hv=>by
  simp only[dT,List.mem_append] at hv
  simp only[eI,F8 h fun o ho=>hv o (.inl ho),tz h (own:=own) fun o ho=>hv o (.inr ho)]
theorem Em (h:Ag H rt rt2){o:Nat}(ho:H o){r:Root}{p}(e:ey rt o r p=some rt1):∃rt3,ey rt2 o r p=some rt3∧Lk H rt rt1 rt2 rt3:=by
 unfold ey at e ⊢
 split at e
 ·cases e
  exact⟨_,rfl,(Lk.refl h).upd ho⟩
 ·simp only[aE,aF] at e
  obtain⟨y,hy,z,hz,es,hes,rfl⟩:=e
  exact⟨_,by simp[hy,hz,hes],(Lk.refl h).upd ho⟩
theorem lQ (h:Ag H rt rt2){v x:V}(hv:∀o∈dN v,H o)(e:cr rt v=some (x,rt1)):∃rt3,cr rt2 v=some (x,rt3)∧Lk H rt rt1 rt2 rt3:=by
 have pl:∀{w:V},(if cp w then some (w,rt) else none)=some (x,rt1)→∃rt3,(if cp w then some (w,rt2) else none)=some (x,rt3)∧Lk H rt rt1 rt2 rt3:=by
  intro w e
  split at e
  ·rename_i hp
   cases e
   exact⟨rt2,by simp[hp],Lk.refl h⟩
  ·cases e
 cases v with
 | hp o nv p s i k=>
  have ho:H o:=hv o (by simp[dN])
  simp only[cr,aE] at e
  obtain⟨r,hr,y,hy,e⟩:=e
  split at e
  ·rename_i z hz
   split at e
   ·rename_i hc
    simp only[aF,Prod.mk.injEq] at e
    obtain⟨rt',ht,rfl,rfl⟩:=e
    obtain⟨rt3,h3,h4⟩:=Em h ho ht
    exact⟨rt3,by simp[cr,mf h ho,hr,hy,hz,hc,h3],h4⟩
   ·cases e
  ·cases e
 | hs o nv p s off len=>
  have ho:H o:=hv o (by simp[dN])
  simp only[cr,aE] at e
  obtain⟨r,hr,y,hy,e⟩:=e
  split at e
  ·rename_i hc
   simp only[aF,Prod.mk.injEq] at e
   obtain⟨rt',ht,rfl,rfl⟩:=e
   obtain⟨rt3,h3,h4⟩:=Em h ho ht
   refine⟨rt3,?_,h4⟩
   simp only[cr,mf h ho,hr,hy,b6]
   rw[if_pos hc,h3]
   rfl
  ·cases e
 | _=>(simp only[cr] at e ⊢;exact pl e)
theorem Dz:∀{vs xs:List V} {rt rt1 rt2:al},Ag H rt rt2→(∀o∈dT vs,H o)→fa rt vs=some (xs,rt1)→∃rt3,fa rt2 vs=some (xs,rt3)∧Lk H rt rt1 rt2 rt3
 | [],xs,rt,rt1,rt2,h,_,e=>by
  simp only[fa,Option.some.injEq,Prod.mk.injEq] at e
  obtain⟨rfl,rfl⟩:=e
  exact⟨rt2,rfl,Lk.refl h⟩
 | v::vs,xs,rt,rt1,rt2,h,hv,e=>by
  simp only[dT,List.mem_append] at hv
  simp only[fa,aE,aF,Prod.mk.injEq] at e
  obtain⟨⟨x,ra⟩,hx,⟨ys,rb⟩,hy,rfl,rfl⟩:=e
  obtain⟨r3,h3,k3⟩:=lQ h (fun o ho=>hv o (.inl ho)) hx
  obtain⟨r4,h4,k4⟩:=Dz k3.ag (fun o ho=>hv o (.inr ho)) hy
  exact⟨r4,by simp only[fa,h3,b6];rw[h4];rfl,k3.trans k4⟩
theorem vI (h:Ag H rt rt2){v x:V}(hv:∀o∈dN v,H o)(e:fO rt v=some (x,rt1)):∃rt3,fO rt2 v=some (x,rt3)∧Lk H rt rt1 rt2 rt3:=by
 cases v with
 | agg cs=>
  simp only[fO,aF,Prod.mk.injEq] at e
  obtain⟨⟨xs,r1⟩,hx,rfl,rfl⟩:=e
  obtain⟨r3,h3,k3⟩:=Dz h (by simpa[dN] using hv) hx
  exact⟨r3,by simp[fO,h3],k3⟩
 | _=>exact lQ h hv e
theorem ul:∀{vs xs:List V} {rt rt1 rt2:al},Ag H rt rt2→(∀o∈dT vs,H o)→dH rt vs=some (xs,rt1)→∃rt3,dH rt2 vs=some (xs,rt3)∧Lk H rt rt1 rt2 rt3
 | [],xs,rt,rt1,rt2,h,_,e=>by
  simp only[dH,Option.some.injEq,Prod.mk.injEq] at e
  obtain⟨rfl,rfl⟩:=e
  exact⟨rt2,rfl,Lk.refl h⟩
 | v::vs,xs,rt,rt1,rt2,h,hv,e=>by
  simp only[dT,List.mem_append] at hv
  simp only[dH,aE,aF,Prod.mk.injEq] at e
  obtain⟨⟨x,ra⟩,hx,⟨ys,rb⟩,hy,rfl,rfl⟩:=e
  obtain⟨r3,h3,k3⟩:=vI h (fun o ho=>hv o (.inl ho)) hx
  obtain⟨r4,h4,k4⟩:=ul k3.ag (fun o ho=>hv o (.inr ho)) hy
  exact⟨r4,by simp only[dH,h3,b6];rw[h4];rfl,k3.trans k4⟩
theorem M8 (h:Ag H rt rt2){v:V}{xs:List V}(hv:∀o∈dN v,H o)(e:fj rt v=some (xs,rt1)):∃rt3,fj rt2 v=some (xs,rt3)∧Lk H rt rt1 rt2 rt3:=by
 cases v with
 | isl n es=>
  simp only[fj,Option.some.injEq,Prod.mk.injEq] at e
  obtain⟨rfl,rfl⟩:=e
  exact⟨rt2,rfl,Lk.refl h⟩
 | hs o nv p s off len=>
  have ho:H o:=hv o (by simp[dN])
  simp only[fj,aE] at e
  obtain⟨y,hy,e⟩:=e
  simp only[fj,lu h ho,hy,b6]
  split at e
  ·rename_i hc
   rw[if_pos hc]
   split at e
   ·cases e
   ·rename_i hs
    rw[if_neg hs]
    split at e
    ·rename_i hf
     rw[if_pos hf]
     cases e
     exact⟨rt2,rfl,Lk.refl h⟩
    ·rename_i hf
     rw[if_neg hf]
     split at e
     ·rename_i hq
      rw[if_pos hq]
      cases e
      exact⟨_,rfl,(Lk.refl h).upd ho⟩
     ·cases e
  ·cases e
 | _=>simp[fj] at e
end
section
variable {H : Nat→Prop} {rt rt1 rt2 rt3 : al}
theorem nq {o:Nat}:∀{own:List Bool} {vs:List V},o∈bK own vs→o∈dT vs
 | own,[],h=>by cases own with
  | nil=>simp[bK] at h
  | cons b _=>cases b<;>simp[bK] at h
 | [],v::vs,h=>by
  simp only[bK,List.mem_append] at h
  simp only[dT,List.mem_append]
  exact h.imp id nq
 | true::own,v::vs,h=>by
  simp only[bK] at h
  simp only[dT,List.mem_append]
  exact .inr (nq h)
 | false::own,v::vs,h=>by
  simp only[bK,List.mem_append] at h
  simp only[dT,List.mem_append]
  exact h.imp id nq
theorem Lj {v x:V}{k o:Nat}(hx:(cells v)[k]?=some x)(h:dM x=some o):o∈dN v:=by
 have hxi:o∈dN x:=by cases x<;>simp[dM] at h<;>simp[dN,h]
 by_cases ha:au v=true
 ·cases v<;>simp[au] at ha
  simp only[dN]
  exact ii.2 ⟨x,hJ hx,hxi⟩
 ·rw[bO (by simpa using ha)] at hx
  cases k<;>simp at hx
  subst hx
  exact hxi
theorem PQ {own:List Bool}{vs:List V}{o:Nat}{x:fB×Nat×Nat}(h:dK (bh 0 own vs) o=some x):o∈dT vs:=by
 obtain⟨a,v,k,y,h1,h2,h3,h4,h5⟩:=jT.1 (oZ h)
 exact ii.2 ⟨v,hJ h2,Lj h3 h4⟩
theorem Sj {E:Env}(h:Ag H rt rt2){id:Nat}(hb:∀o,id≤o→o<id+ci→H o){f:FuncId}{args:List V}{v:V}(hv:∀o∈dT args,H o)(e:lT E rt id f args=some (v,rt1)):∃rt3,lT E rt2 id f args=some (v,rt3)∧Lk H rt rt1 rt2 rt3:=by
 simp only[lT,aE] at e
 obtain⟨en,hen,e⟩:=e
 split at e
 ·rename_i hchk
  simp only[aE] at e
  obtain⟨xs,hxs,⟨r,os⟩,hF,e⟩:=e
  simp only at e
  split at e
  ·rename_i hroom
   simp only[Option.some.injEq,Prod.mk.injEq] at e
   obtain⟨rfl,rfl⟩:=e
   refine⟨d4 (jc rt2 (bh 0 en.own args) en.own os (if (cy r||cZ os)=true then bK en.own args else [])) id (bF id 0 (fe r)).2,?_,?_⟩
   ·simp only[lT,hen,b6]
    rw[if_pos hchk,tz h hv,hxs]
    simp only[b6,hF]
    rw[if_pos hroom]
   ·have hd:∀o,o∈(if (cy r||cZ os)=true then bK en.own args else [])→H o:=fun o ho=>by
     split at ho
     ·exact hv o (nq ho)
     ·cases ho
    generalize (if (cy r||cZ os)=true then bK en.own args else [])=dead at hd
    intro o
    by_cases hin:id≤o∧o<id+(bF id 0 (fe r)).2.length
    ·have ho:H o:=hb o hin.1 (by omega)
     refine⟨fun _=>?_,fun hn=>absurd ho hn⟩
     simp only[d4]
     rw[if_pos hin,if_pos hin]
    ·simp only[d4]
     rw[if_neg hin,if_neg hin]
     simp only[jc]
     cases hg:dK (bh 0 en.own args) o with
     | some x=>
      have ho:H o:=hv o (PQ hg)
      refine⟨fun _=>by simp only[h o ho],fun hn=>absurd ho hn⟩
     | none=>
      by_cases hc:dead.contains o=true
      ·simp only[hc,if_true]
       refine⟨fun _=>trivial,fun hn=>absurd (hd o (by simpa using hc)) hn⟩
      ·simp only[hc]
       exact⟨fun ho=>by simpa using h o ho,fun _=>⟨rfl,rfl⟩⟩
  ·cases e
 ·cases e
theorem PI {E:Env}(h:Ag H rt rt2){t:TypeId}{x:V}(hx:∀o∈dN x,H o)(e:nf E rt t x=some rt1):∃rt3,nf E rt2 t x=some rt3∧Lk H rt rt1 rt2 rt3:=by
 unfold nf at e ⊢
 split at e
 ·split at e
  ·rename_i hs
   cases e
   exact⟨rt2,by simp[hs],Lk.refl h⟩
  ·cases e
 ·rename_i o nv s off len
  have ho:H o:=hx o (by simp[dN])
  split at e
  ·simp only[aE] at e
   obtain⟨ei,hei,z,hz,r,hr,e⟩:=e
   split at e
   ·rename_i hc
    cases e
    exact⟨_,by simp only[hei,hz,h o ho,hr,b6];rw[if_pos hc],(Lk.refl h).upd ho⟩
   ·cases e
  ·cases e
 ·cases e
theorem Mp {E:Env}(h:Ag H rt rt2){id:Nat}(hb:H id){t:TypeId}{d x v:V}(hd:∀o∈dN d,H o)(hx:∀o∈dN x,H o)(e:jR E rt id t d x=some (v,rt1)):∃rt3,jR E rt2 id t d x=some (v,rt3)∧Lk H rt rt1 rt2 rt3:=by
 unfold jR at e ⊢
 split at e
 ·simp only[aE] at e
  obtain⟨ei,hei,⟨es,ra⟩,hes,e⟩:=e
  obtain⟨r3,h3,k3⟩:=M8 h hx hes
  simp only[hei,b6,h3]
  split at e
  ·rename_i hall
   rw[if_pos hall]
   split at e
   ·split at e
    ·rename_i hl
     rw[if_pos hl]
     simp only[Option.some.injEq,Prod.mk.injEq] at e
     obtain⟨rfl,rfl⟩:=e
     exact⟨_,rfl,k3.upd hb⟩
    ·cases e
   ·rename_i o nv p s off len
    simp only[aE] at e
    obtain⟨z,hz,e⟩:=e
    have ho:H o:=hd o (by simp[dN])
    simp only[lu k3.ag ho,hz,b6]
    split at e
    ·rename_i hc
     rw[if_pos hc]
     simp only[aF,Prod.mk.injEq] at e
     obtain⟨⟨u1,u2⟩,hu,rfl,rfl⟩:=e
     obtain⟨r4,h4,k4⟩:=lQ k3.ag hd hu
     exact⟨_,by rw[h4];rfl,(k3.trans k4).upd hb⟩
    ·cases e
   ·cases e
  ·cases e
 ·cases e
theorem Qx {E:Env}(h:Ag H rt rt2){t:TypeId}{p x:V}(hp:∀o∈dN p,H o)(hx:∀o∈dN x,H o)(e:nE E rt t p x=some rt1):∃rt3,nE E rt2 t p x=some rt3∧Lk H rt rt1 rt2 rt3:=by
 unfold nE at e ⊢
 split at e
 ·rename_i o nv path s i k
  simp only[aE] at e
  obtain⟨ti,hti,⟨y,ra⟩,hy,e⟩:=e
  obtain⟨r3,h3,k3⟩:=vI h hx hy
  have ho:H o:=hp o (by simp[dN])
  simp only[hti,b6,h3]
  split at e
  ·rename_i hc
   rw[if_pos hc]
   simp only[aE] at e
   obtain⟨r,hr,z,hz,e⟩:=e
   simp only[mf k3.ag ho,hr,b6,hz]
   split at e
   ·rename_i hs
    rw[if_pos hs]
    simp only[aE] at e
    obtain⟨w,hw,e⟩:=e
    simp only[hw,b6]
    split at e
    ·rename_i hk
     rw[if_pos hk]
     simp only[aF] at e
     obtain⟨es,hes,rfl⟩:=e
     exact⟨_,by rw[hes];rfl,k3.upd ho⟩
    ·cases e
   ·cases e
  ·cases e
 ·cases e
def D4 (st:St)(op:Op):List Nat:=(op.operands.toList.filterMap (ev st)).flatMap dN
theorem o9 {st:St}{op:Op}{x:Operand}{v:V}{o:Nat}(hx:x∈op.operands.toList)(hv:ev st x=some v)(ho:o∈dN v):o∈D4 st op:=
 List.mem_flatMap.2 ⟨v,List.mem_filterMap.2 ⟨x,hx,hv⟩,ho⟩
def iT:Op→Bool
 | .move _ | .assign _ | .pick .. | .build .. | .binOp .. | .unOp ..  | .makeInterface .. | .makeFunc .. | .field .. | .index .. | .extract .. | .alloc _ | .makeSlice ..=>true
 | _=>false
def fY (st:St)(op:Op):List Nat:=if iT op then [] else D4 st op
theorem IY {st st2:St}:∀{xs:List Operand},(∀x∈xs,ev st2 x=ev st x)→gC st2 xs=gC st xs
 | [],_=>rfl
 | x::xs,h=>by
  simp only[gC,h x (by simp),IY fun y hy=>h y (List.mem_cons_of_mem _ hy)]
theorem tE {st st2:St}:∀{xs:List (Nat×Operand)},(∀x∈xs,ev st2 x.2=ev st x.2)→fg st2 xs=fg st xs
 | [],_=>rfl
 | (i,x)::xs,h=>by
  simp only[fg,h (i,x) (by simp),tE fun y hy=>h y (List.mem_cons_of_mem _ hy)]
theorem sJ {st:St}:∀{xs:List Operand} {vs:List V} {v:V},gC st xs=some vs→v∈vs→∃x∈xs,ev st x=some v
 | [],vs,v,h,hv=>by simp[gC] at h;subst h;cases hv
 | x::xs,vs,v,h,hv=>by
  simp only[gC,aE,aF] at h
  obtain⟨u,hu,us,hus,rfl⟩:=h
  rcases List.mem_cons.1 hv with rfl | hv
  ·exact⟨x,by simp,hu⟩
  ·obtain⟨y,hy,h⟩:=sJ hus hv
   exact⟨y,List.mem_cons_of_mem _ hy,h⟩
theorem yf {st:St}:∀{xs:List (Nat×Operand)} {vs:List (Nat×V)} {v:Nat×V},fg st xs=some vs→v∈vs→∃x∈xs,ev st x.2=some v.2
 | [],vs,v,h,hv=>by simp[fg] at h;subst h;cases hv
 | (i,x)::xs,vs,v,h,hv=>by
  simp only[fg,aE,aF] at h
  obtain⟨u,hu,us,hus,rfl⟩:=h
  rcases List.mem_cons.1 hv with rfl | hv
  ·exact⟨(i,x),by simp,hu⟩
  ·obtain⟨y,hy,h⟩:=yf hus hv
   exact⟨y,List.mem_cons_of_mem _ hy,h⟩
theorem IX {st st2:St}{x:Option Operand}(h:∀y,x=some y→ev st2 y=ev st y):nk st2 x=nk st x:=by
 cases x with
 | none=>rfl
 | some y=>simp only[nk,h y rfl]
theorem Ea {sz:Nat}{a:Bool}:∀{ps:List (Nat×V)} {es es':List V} {v:V},jo sz a es ps=some es'→v∈es'→v∈es∨∃p∈ps,p.2=v
 | [],es,es',v,h,hv=>by simp[jo] at h;subst h;exact .inl hv
 | (i,x)::ps,es,es',v,h,hv=>by
  simp only[jo] at h
  split at h
  ·rcases Ea h hv with h1 | ⟨p,hp,rfl⟩
   ·rcases List.mem_or_eq_of_mem_set h1 with h2 | h2
    ·exact .inl h2
    ·exact .inr ⟨(i,x),by simp,h2.symm⟩
   ·exact .inr ⟨p,List.mem_cons_of_mem _ hp,rfl⟩
  ·cases h
end
section
variable {H : Nat→Prop} {rt rt1 rt2 rt3 : al}
theorem PU {c:Value}{v:V}(h:gc c=some v):dN v=[]:=by
 have one:∀{c:Value} {v:V},jm c=some v→dN v=[]:=by
  intro c v h
  unfold jm at h
  split at h<;>cases h<;>rfl
 unfold gc at h
 split at h
 ·simp only[aF] at h
  obtain⟨vs,hvs,rfl⟩:=h
  simp only[dN]
  rename_i cs
  generalize cs.toList=l at hvs
  induction l generalizing vs with
  | nil=>simp[gt] at hvs;subst hvs;rfl
  | cons x l ih=>
   simp only[gt,aE,aF] at hvs
   obtain⟨y,hy,ys,hys,rfl⟩:=hvs
   simp[dT,one hy,ih ys hys]
 ·exact one h
theorem Qg {E : Env}{id : Nat}{st st2 : St}{op : Op}{v : V}(hb : ∀ o, id ≤ o → o < id + ci → H o)(ho : ∀ o ∈ fY st op, H o)(hx : ∀ x ∈ op.operands.toList, ev st2 x = ev st x)(h : Ag H st.rt st2.rt)(e : bc E id st op=some (v,rt1)) : ∃ rt3,bc E id st2 op=some (v,rt3) ∧ Lk H st.rt rt1 st2.rt rt3:=by
  have dM : H id:=hb id (Nat.le_refl _) (by unfold ci; omega)
  have pure : st.rt=rt1→bc E id st2 op=some (v,st2.rt)→∃ rt3,bc E id st2 op=some (v,rt3) ∧ Lk H st.rt rt1 st2.rt rt3:=by
    rintro rfl h2
    exact ⟨_,h2,Lk.refl h⟩
  have hv : iT op=false→∀ {x : Operand} {u : V},x ∈ op.operands.toList→ev st x=some u→∀ o ∈ dN u,H o:=fun hn _ _ hm hu o hi=>ho o (by unfold fY; rw [hn]; exact o9 hm hu hi)
  cases op with
  | move x =>
    simp only [bc,aF,Prod.mk.injEq] at e
    obtain ⟨u,hu,rfl,rfl⟩:=e
    exact pure rfl (by simp [bc,hx x (by simp [Op.operands]),hu])
  | assign x =>
    simp only [bc,aF,Prod.mk.injEq] at e
    obtain ⟨u,hu,rfl,rfl⟩:=e
    exact pure rfl (by simp [bc,hx x (by simp [Op.operands]),hu])
  | pick c a b =>
    simp only [bc,aF,aE,Prod.mk.injEq] at e
    obtain ⟨u,hu,y,hy,rfl,rfl⟩:=e
    refine pure rfl ?_
    simp only [bc,hx c (by simp [Op.operands]),hx a (by simp [Op.operands]),hx b (by simp [Op.operands]),hu,b6]
    rw [hy]; rfl
  | alloc t =>
    simp only [bc,aF,aE,Prod.mk.injEq] at e
    obtain ⟨ti,hti,z,hz,rfl,rfl⟩:=e
    exact ⟨_,by simp [bc,hti,hz],(Lk.refl h).upd dM⟩
  | box t x =>
    simp only [bc,aF,aE,Prod.mk.injEq] at e
    obtain ⟨u,hu,⟨y,ra⟩,hy,rfl,rfl⟩:=e
    obtain ⟨r3,h3,k3⟩:=vI h (hv rfl (by simp [Op.operands]) hu) hy
    exact ⟨_,by simp [bc,hx x (by simp [Op.operands]),hu,h3],k3.upd dM⟩
  | build t ps =>
    simp only [bc,aF,aE,Prod.mk.injEq] at e
    obtain ⟨u,hu,y,hy,rfl,rfl⟩:=e
    exact pure rfl (by simp [bc,tE (xs:=ps.toList) fun x hm=>hx x.2 (by simp [Op.operands]; exact ⟨x.1,by simpa using hm⟩),hu,hy])
  | buildSlice t n ps =>
    simp only [bc,aE] at e
    obtain ⟨pv,hpv,e⟩:=e
    have hpv2 : fg st2 ps.toList=some pv:=by rw [tE (xs:=ps.toList) fun x hm=>hx x.2 (by simp [Op.operands]; exact ⟨x.1,by simpa using hm⟩),hpv]
    split at e
    · rename_i el sz bt zv htt
      simp only [aE] at e
      obtain ⟨ei,hei,z,hz,e⟩:=e
      split at e
      · rename_i hc
        simp only [aE,aF,Prod.mk.injEq] at e
        obtain ⟨es,hes,⟨ys,ra⟩,hys,rfl,rfl⟩:=e
        obtain ⟨r3,h3,k3⟩:=ul h (fun o hm=>by
          obtain ⟨x,hxm,hi⟩:=ii.1 hm
          rcases Ea hes hxm with h1 | ⟨p,hp,rfl⟩
          · rw [List.eq_of_mem_replicate h1,PU hz] at hi
            cases hi
          · obtain ⟨q,hq,hqe⟩:=yf hpv hp
            exact hv rfl (x:=q.2) (by simp [Op.operands]; exact ⟨q.1,by simpa using hq⟩) hqe o hi) hys
        refine ⟨_,?_,k3.upd dM⟩
        simp only [bc,hpv2,b6,htt,hei,hz]
        rw [if_pos hc,hes]
        simp only [b6,h3]
        rfl
      · cases e
    · cases e
  | load t p =>
    simp only [bc,aE] at e
    obtain ⟨ti,hti,pv,hp,cs,hc,e⟩:=e
    split at e
    · rename_i hcc
      simp only [aF,Prod.mk.injEq] at e
      obtain ⟨y,hy,rfl,rfl⟩:=e
      refine pure rfl ?_
      simp only [bc,hti,b6,hx p (by simp [Op.operands]),hp,UO h (hv rfl (by simp [Op.operands]) hp),hc]
      rw [if_pos hcc,hy]; rfl
    · cases e
  | store t p x =>
    simp only [bc,aE,aF,Prod.mk.injEq] at e
    obtain ⟨pv,hp,xv,hxv,ra,hs,rfl,rfl⟩:=e
    obtain ⟨r3,h3,k3⟩:=Qx h (hv rfl (by simp [Op.operands]) hp) (hv rfl (by simp [Op.operands]) hxv) hs
    exact ⟨r3,by simp [bc,hx p (by simp [Op.operands]),hx x (by simp [Op.operands]),hp,hxv,h3],k3⟩
  | nilCheck x =>
    simp only [bc,aE] at e
    obtain ⟨u,hu,e⟩:=e
    have hi:=hv rfl (x:=x) (by simp [Op.operands]) hu
    split at e
    · rename_i o nv p s i k
      split at e
      · rename_i hc
        cases e
        refine pure rfl ?_
        simp only [bc,hx x (by simp [Op.operands]),hu,b6,lu h (hi o (by simp [dN]))]
        rw [if_pos hc]
      · cases e
    · cases e
      exact pure rfl (by simp [bc,hx x (by simp [Op.operands]),hu])
    · cases e
  | binOp op t x y t' =>
    simp only [bc,aE,aF,Prod.mk.injEq] at e
    obtain ⟨a,ha,b,hb',u,hu,rfl,rfl⟩:=e
    exact pure rfl (by simp [bc,hx x (by simp [Op.operands]),hx y (by simp [Op.operands]),ha,hb',hu])
  | unOp op t x =>
    simp only [bc,aE,aF,Prod.mk.injEq] at e
    obtain ⟨a,ha,u,hu,rfl,rfl⟩:=e
    exact pure rfl (by simp [bc,hx x (by simp [Op.operands]),ha,hu])
  | convert s d x =>
    simp only [bc,aE,aF,Prod.mk.injEq] at e
    obtain ⟨a,ha,u,hu,rfl,rfl⟩:=e
    refine pure rfl ?_
    have : oz E st2.rt s d a=oz E st.rt s d a:=Sk h fun o ho=>hv rfl (by simp [Op.operands]) ha o ho
    simp [bc,hx x (by simp [Op.operands]),ha,this,hu]
  | makeInterface t x =>
    simp only [bc,aE] at e
    obtain ⟨a,ha,e⟩:=e
    split at e
    · rename_i hc
      cases hd : E.desc t with
      | none=>simp [hd] at e
      | some d =>
        cases d <;> simp only [hd] at e <;> first
          | (cases e; done)
          | (simp only [Option.some.injEq, Prod.mk.injEq] at e
             obtain ⟨rfl,rfl⟩:=e
             refine pure rfl ?_
             simp only [bc,hx x (by simp [Op.operands]),ha,b6,hd]
             rw [if_pos hc])
    · cases e
  | makeFunc fn first caps =>
    cases fn with
    | func f =>
      simp only [bc] at e
      split at e
      · rename_i h0
        simp only [aE] at e
        obtain ⟨cs,hcs,e⟩:=e
        split at e
        · rename_i hc
          cases e
          refine pure rfl ?_
          simp only [bc]
          rw [if_pos h0,IY fun x hm=>hx x (by simp [Op.operands]; exact .inr (by simpa using hm)),hcs]
          simp only [b6]
          rw [if_pos hc]
        · cases e
      · cases e
    | _=>simp [bc] at e
  | makeSlice t l c =>
    simp only [bc,aE] at e
    obtain ⟨lv,hl,cv,hc,e⟩:=e
    split at e
    · rename_i el sz bt zv l' c' htt
      simp only [aE] at e
      obtain ⟨ei,hei,z,hz,e⟩:=e
      split at e
      · rename_i hcc
        cases e
        refine ⟨_,?_,(Lk.refl h).upd dM⟩
        simp only [bc,hx l (by simp [Op.operands]),hx c (by simp [Op.operands]),hl,hc,b6,htt,hei,hz]
        rw [if_pos hcc]
      · cases e
    · cases e
  | slice t x lo hi m =>
    cases m with
    | some m=>simp [bc] at e
    | none =>
      simp only [bc,aE] at e
      obtain ⟨xv,hxv,l,hl,r,hr,e⟩:=e
      split at e
      · rename_i hal
        simp only [aF,Prod.mk.injEq] at e
        obtain ⟨u,hu,rfl,rfl⟩:=e
        refine pure rfl ?_
        have h1 : iK E st2.rt t xv l r=iK E st.rt t xv l r:=rfl
        simp only [bc,hx x (by simp [Op.operands]),hxv,b6,IX (x:=lo) (fun y hy=>hx y (by subst hy; simp [Op.operands])),IX (x:=hi) (fun y hy=>hx y (by subst hy; simp [Op.operands])),hl,hr,Ac h (hv rfl (x:=x) (by simp [Op.operands]) hxv)]
        rw [if_pos hal,h1,hu]; rfl
      · cases e
  | fieldAddr s x f =>
    simp only [bc,aE] at e
    obtain ⟨xv,hxv,fl,hf,e⟩:=e
    have hi:=hv rfl (x:=x) (by simp [Op.operands]) hxv
    split at e
    · split at e
      · rename_i hc
        cases e
        refine pure rfl ?_
        simp only [bc,hx x (by simp [Op.operands]),hxv,hf,b6]
        rw [if_pos hc]
      · cases e
    · rename_i o nv p sz i k
      split at e
      · rename_i hc
        cases e
        refine pure rfl ?_
        simp only [bc,hx x (by simp [Op.operands]),hxv,hf,b6,lu h (hi o (by simp [dN]))]
        rw [if_pos hc]
      · cases e
    · cases e
  | field s x f =>
    simp only [bc,aE] at e
    obtain ⟨xv,hxv,fl,hf,e⟩:=e
    split at e
    · split at e
      · rename_i hc
        simp only [aF,Prod.mk.injEq] at e
        obtain ⟨u,hu,rfl,rfl⟩:=e
        refine pure rfl ?_
        simp only [bc,hx x (by simp [Op.operands]),hxv,hf,b6]
        rw [if_pos hc,hu]; rfl
      · cases e
    · cases e
  | indexAddr t x i =>
    simp only [bc,aE] at e
    obtain ⟨xv,hxv,iv,hiv,e⟩:=e
    split at e
    · split at e
      · rename_i hal
        simp only [aF,Prod.mk.injEq] at e
        obtain ⟨u,hu,rfl,rfl⟩:=e
        refine pure rfl ?_
        simp only [bc,hx x (by simp [Op.operands]),hx i (by simp [Op.operands]),hxv,hiv,b6,Ac h (hv rfl (x:=x) (by simp [Op.operands]) hxv)]
        rw [if_pos hal,hu]; rfl
      · cases e
    · cases e
  | index t x i =>
    simp only [bc,aE] at e
    obtain ⟨xv,hxv,iv,hiv,e⟩:=e
    split at e
    · simp only [aF,Prod.mk.injEq] at e
      obtain ⟨u,hu,rfl,rfl⟩:=e
      exact pure rfl (by simp [bc,hx x (by simp [Op.operands]),hx i (by simp [Op.operands]),hxv,hiv,hu])
    · cases e
  | extract x i =>
    simp only [bc,aE] at e
    obtain ⟨xv,hxv,e⟩:=e
    split at e
    · simp only [aF,Prod.mk.injEq] at e
      obtain ⟨u,hu,rfl,rfl⟩:=e
      exact pure rfl (by simp [bc,hx x (by simp [Op.operands]),hxv,hu])
    · cases e
  | call c =>
    simp only [bc,kP,aE] at e
    obtain ⟨args,hargs,e⟩:=e
    have hargs2 : gC st2 c.args.toList=some args:=by rw [IY fun x hm=>hx x (by simp [Op.operands,Call.operands]; exact .inr (by simpa using hm)),hargs]
    have hai : ∀ o ∈ dT args,H o:=fun o hm=>by
      obtain ⟨u,hu,hi⟩:=ii.1 hm
      obtain ⟨x,hxm,hxe⟩:=sJ hargs hu
      exact hv rfl (by simp [Op.operands,Call.operands]; exact .inr (by simpa using hxm)) hxe o hi
    split at e
    · rename_i f hcal
      simp only [aE] at e
      obtain ⟨fv,hf,e⟩:=e
      have hfm : f ∈ (Op.call c).operands.toList:=by simp [Op.operands,Call.operands,hcal]
      have hfi:=hv rfl hfm hf
      split at e
      · rename_i fid caps
        obtain ⟨r3,h3,k3⟩:=Sj h hb (args:=args ++ caps) (fun o hm=>by
          obtain ⟨u,hu,hi⟩:=ii.1 hm
          rcases List.mem_append.1 hu with h1 | h1
          · exact hai o (ii.2 ⟨u,h1,hi⟩)
          · exact hfi o (by simp only [dN]; exact ii.2 ⟨u,h1,hi⟩)) e
        refine ⟨r3,?_,k3⟩
        simp only [bc,kP,hargs2,b6,hcal,hx f hfm,hf]
        exact h3
      · cases e
    · rename_i b hcal
      simp only [bc,kP,hargs2,b6,hcal]
      unfold eB at e ⊢
      split at e
      · split at e
        · rename_i x hal
          simp only [aE,aF,Prod.mk.injEq] at e
          obtain ⟨t,ht,u,hu,rfl,rfl⟩:=e
          refine ⟨st2.rt,?_,Lk.refl h⟩
          rw [Ac h fun o hm=>hai o (by simpa [dT] using hm),if_pos hal,ht]
          simp [hu]
        · cases e
      · simp only [aE] at e
        obtain ⟨t,ht,t1,ht1,e⟩:=e
        split at e
        · rename_i hs
          obtain ⟨r3,h3,k3⟩:=Mp h dM (fun o hm=>hai o (by simp [dT,hm])) (fun o hm=>hai o (by simp [dT,hm])) e
          refine ⟨r3,?_,k3⟩
          simp only [ht,ht1,b6]
          rw [if_pos hs,h3]
        · cases e
      · simp only [aE,aF,Prod.mk.injEq] at e
        obtain ⟨t,ht,r1,hr1,rfl,rfl⟩:=e
        obtain ⟨r3,h3,k3⟩:=PI h (fun o hm=>hai o (by simp [dT,hm])) hr1
        exact ⟨r3,by simp [ht,h3],k3⟩
      · simp only [aF,Prod.mk.injEq] at e
        obtain ⟨u,hu,rfl,rfl⟩:=e
        exact ⟨st2.rt,by simp [hu],Lk.refl h⟩
      · simp only [aF,Prod.mk.injEq] at e
        obtain ⟨u,hu,rfl,rfl⟩:=e
        exact ⟨st2.rt,by simp [hu],Lk.refl h⟩
      · cases e
    · cases e
  | _=>simp [bc] at e
end
section
def wJ (E:Env)(rt:al)(f:FuncId)(args:List V):List Nat:=
 match E.fn f with
 | some e=>(bh 0 e.own args).map (·.1)++(match (eI rt e.own args).bind e.F with
  | some r=>if cy r.1||cZ r.2 then bK e.own args else []
  | none=>[])
 | none=>[]
def oa (rt:al)(d x:V):List Nat:=
 dN d++(match x with
 | .hs o nv p _ off len=>(match ch rt o nv p with
  | some y=>if ((y.2.drop off).take len).all jz then [] else [o]
  | none=>[o])
 | _=>[])
def io (E:Env)(st:St)(op:Op):List Nat:=
 match op with
 | .box _ _ | .buildSlice .. | .store ..=>D4 st op
 | .call c=>(match c.callee with
  | .value f=>(match ev st f,gC st c.args.toList with
   | some (.fn g caps),some args=>wJ E st.rt g (args++caps)
   | _,_=>[])
  | .builtin .clear=>D4 st op
  | .builtin .append=>(match gC st c.args.toList with
   | some [d,x]=>oa st.rt d x
   | _=>[])
  | _=>[])
 | _=>[]
theorem P4 {g:List mZ}{o:Nat}{x:fB×Nat×Nat}(h:dK g o=some x):o∈g.map (·.1):=List.mem_map.2 ⟨(o,x),oZ h,rfl⟩
theorem UD {E:Env}{rt rt1:al}{id:Nat}{f:FuncId}{args:List V}{v:V}(e:lT E rt id f args=some (v,rt1)){o:Nat}(h:o∉wJ E rt f args)(hb:¬(id≤o∧o<id+ci)):rt1 o=rt o:=by
 simp only[lT,aE] at e
 obtain⟨en,hen,e⟩:=e
 split at e
 ·simp only[aE] at e
  obtain⟨xs,hxs,⟨r,os⟩,hF,e⟩:=e
  simp only at e
  split at e
  ·rename_i hroom
   simp only[Option.some.injEq,Prod.mk.injEq] at e
   obtain⟨_,rfl⟩:=e
   simp only[wJ,hen,hxs,b6,hF,List.mem_append,not_or] at h
   simp only[d4]
   rw[if_neg (by omega)]
   simp only[jc]
   cases hg:dK (bh 0 en.own args) o with
   | some x=>exact absurd (P4 hg) h.1
   | none=>
    have:¬(if (cy r||cZ os)=true then bK en.own args else []).contains o=true:=by
     simpa using h.2
    simp only
    rw[if_neg this]
  ·cases e
 ·cases e
theorem QC {rt rt1:al}{x:V}{es:List V}(e:fj rt x=some (es,rt1)){o:Nat}(h:o∉(match x with
 | .hs o nv p _ off len=>(match ch rt o nv p with
  | some y=>if ((y.2.drop off).take len).all jz then [] else [o]
  | none=>[o])
 | _=>[])):rt1 o=rt o:=by
 cases x with
 | isl n es=>simp only[fj,Option.some.injEq,Prod.mk.injEq] at e;rw[e.2]
 | hs o' nv p s off len=>
  simp only[fj,aE] at e
  obtain⟨y,hy,e⟩:=e
  simp only[hy] at h
  split at e
  ·split at e
   ·cases e
   ·split at e
    ·cases e;rfl
    ·rename_i hf
     rw[if_neg hf] at h
     split at e
     ·cases e
      have:o≠o':=by simpa using h
      simp[upd,this]
     ·cases e
  ·cases e
 | _=>simp[fj] at e
theorem IE {rt rt1:al}{d u:V}(e:cr rt d=some (u,rt1)){o:Nat}(h:o∉dN d):rt1 o=rt o:=by
 obtain⟨rt3,h3,k⟩:=lQ (H:=fun x=>x∈dN d) (rt2:=rt) (fun _ _=>rfl) (fun _ h=>h) e
 exact ((k o).2 h).2
theorem TK {E:Env}{id:Nat}{st:St}{op:Op}{v:V}{rt1:al}(e:bc E id st op=some (v,rt1)){o:Nat}(h:o∉io E st op)(hb:¬(id≤o∧o<id+ci)):rt1 o=st.rt o:=by
 have all:o∉fY st op→rt1 o=st.rt o:=fun hn=>by
  obtain⟨rt3,h3,k⟩:=Qg (H:=fun x=>x∈fY st op∨(id≤x∧x<id+ci)) (st2:=st) (fun o h1 h2=>.inr ⟨h1,h2⟩) (fun o h=>.inl h) (fun _ _=>rfl) (fun _ _=>rfl) e
  exact ((k o).2 (by rintro (h | h);exact hn h;exact hb h)).2
 cases op with
 | box t x=>exact all (by simpa[fY,iT,io] using h)
 | buildSlice t n ps=>exact all (by simpa[fY,iT,io] using h)
 | store t p x=>exact all (by simpa[fY,iT,io] using h)
 | call c=>
  simp only[bc,kP,aE] at e
  obtain⟨args,hargs,e⟩:=e
  split at e
  ·rename_i f hcal
   simp only[aE] at e
   obtain⟨fv,hf,e⟩:=e
   split at e
   ·rename_i fid caps
    simp only[io,hcal,hf,hargs] at h
    exact UD e h hb
   ·cases e
  ·rename_i b hcal
   unfold eB at e
   split at e
   ·split at e
    ·simp only[aE,aF,Prod.mk.injEq] at e
     obtain⟨t,ht,u,hu,_,rfl⟩:=e
     rfl
    ·cases e
   ·simp only[aE] at e
    obtain⟨t,ht,t1,ht1,e⟩:=e
    split at e
    ·rename_i d x _
     simp only[io,hcal,hargs,oa,List.mem_append,not_or] at h
     unfold jR at e
     split at e
     ·simp only[aE] at e
      obtain⟨ei,hei,⟨es,ra⟩,hes,e⟩:=e
      have h1:=QC hes h.2
      have dM:o≠id:=by rintro rfl;exact hb ⟨Nat.le_refl _,by unfold ci;omega⟩
      split at e
      ·split at e
       ·split at e
        ·simp only[Option.some.injEq,Prod.mk.injEq] at e
         obtain⟨_,rfl⟩:=e
         simpa[upd,dM] using h1
        ·cases e
       ·simp only[aE] at e
        obtain⟨z,hz,e⟩:=e
        split at e
        ·simp only[aF,Prod.mk.injEq] at e
         obtain⟨⟨u1,u2⟩,hu,_,rfl⟩:=e
         have h2:=IE hu h.1
         simp only[upd,if_neg dM]
         rw[h2,h1]
        ·cases e
       ·cases e
      ·cases e
     ·cases e
    ·cases e
   ·exact all (by simpa[fY,iT,io,hcal] using h)
   ·simp only[aF,Prod.mk.injEq] at e
    obtain⟨u,hu,_,rfl⟩:=e
    rfl
   ·simp only[aF,Prod.mk.injEq] at e
    obtain⟨u,hu,_,rfl⟩:=e
    rfl
   ·cases e
  ·cases e
 | alloc t=>
  simp only[bc,aF,aE,Prod.mk.injEq] at e
  obtain⟨ti,hti,z,hz,_,rfl⟩:=e
  have dM:o≠id:=by rintro rfl;exact hb ⟨Nat.le_refl _,by unfold ci;omega⟩
  simp[upd,dM]
 | makeSlice t l c=>exact all (by simp[fY,iT])
 | nilCheck x=>
  simp only[bc,aE] at e
  obtain⟨u,hu,e⟩:=e
  split at e
  ·split at e<;>cases e;rfl
  ·cases e;rfl
  ·cases e
 | load t p=>
  simp only[bc,aE] at e
  obtain⟨ti,hti,pv,hp,cs,hc,e⟩:=e
  split at e
  ·simp only[aF,Prod.mk.injEq] at e
   obtain⟨y,hy,_,rfl⟩:=e
   rfl
  ·cases e
 | slice t x lo hi m=>
  cases m with
  | some m=>simp[bc] at e
  | none=>
   simp only[bc,aE] at e
   obtain⟨xv,hxv,l,hl,r,hr,e⟩:=e
   split at e
   ·simp only[aF,Prod.mk.injEq] at e
    obtain⟨u,hu,_,rfl⟩:=e
    rfl
   ·cases e
 | fieldAddr s x f=>
  simp only[bc,aE] at e
  obtain⟨xv,hxv,fl,hf,e⟩:=e
  split at e
  ·split at e<;>cases e;rfl
  ·split at e<;>cases e;rfl
  ·cases e
 | indexAddr t x i=>
  simp only[bc,aE] at e
  obtain⟨xv,hxv,iv,hiv,e⟩:=e
  split at e
  ·split at e
   ·simp only[aF,Prod.mk.injEq] at e
    obtain⟨u,hu,_,rfl⟩:=e
    rfl
   ·cases e
  ·cases e
 | makeInterface t x=>exact all (by simp[fY,iT])
 | makeFunc a b c=>exact all (by simp[fY,iT])
 | move x=>exact all (by simp[fY,iT])
 | assign x=>exact all (by simp[fY,iT])
 | pick a b c=>exact all (by simp[fY,iT])
 | build a b=>exact all (by simp[fY,iT])
 | binOp a b c d e=>exact all (by simp[fY,iT])
 | unOp a b c=>exact all (by simp[fY,iT])
 | convert a b c=>
  simp only[bc,aE,aF,Prod.mk.injEq] at e
  obtain⟨y,hy,u,hu,_,rfl⟩:=e
  rfl
 | field a b c=>exact all (by simp[fY,iT])
 | index a b c=>exact all (by simp[fY,iT])
 | extract a b=>exact all (by simp[fY,iT])
 | _=>simp[bc] at e
end
section
theorem Ky {rt:al}{d x:V}{o:Nat}(h:o∈oa rt d x):o∈dN d∨o∈dN x:=by
 simp only[oa,List.mem_append] at h
 refine h.imp id fun h=>?_
 split at h
 ·split at h
  ·split at h
   ·cases h
   ·simpa[dN] using h
  ·simpa[dN] using h
 ·cases h
theorem PF {E:Env}{rt:al}{f:FuncId}{args:List V}{o:Nat}(h:o∈wJ E rt f args):o∈dT args:=by
 unfold wJ at h
 split at h
 ·simp only[List.mem_append] at h
  rcases h with h | h
  ·obtain⟨⟨o',p,a,k⟩,hg,rfl⟩:=List.mem_map.1 h
   obtain⟨a,v,k,y,h1,h2,h3,h4,h5⟩:=jT.1 hg
   exact ii.2 ⟨v,hJ h2,Lj h3 h4⟩
  ·split at h
   ·split at h
    ·exact nq h
    ·cases h
   ·cases h
 ·cases h
theorem U5 {E:Env}{st:St}{op:Op}{o:Nat}(h:o∈io E st op):o∈fY st op:=by
 cases op with
 | box t x=>simpa[fY,iT,io] using h
 | buildSlice t n ps=>simpa[fY,iT,io] using h
 | store t p x=>simpa[fY,iT,io] using h
 | call c=>
  have e:fY st (.call c)=D4 st (.call c):=rfl
  rw[e]
  simp only[io] at h
  split at h
  ·rename_i f hcal
   split at h
   ·rename_i g caps args hf hargs
    obtain⟨v,hv,ho⟩:=ii.1 (PF h)
    rcases List.mem_append.1 hv with h1 | h1
    ·obtain⟨x,hx,hxe⟩:=sJ hargs h1
     exact o9 (by simp[Op.operands,Call.operands];exact .inr (by simpa using hx)) hxe ho
    ·exact o9 (x:=f) (by simp[Op.operands,Call.operands,hcal]) hf (by simp only[dN];exact ii.2 ⟨v,h1,ho⟩)
   ·cases h
  ·exact h
  ·split at h
   ·rename_i d x hargs
    rcases Ky h with h1 | h1
    ·obtain⟨y,hy,hye⟩:=sJ hargs (v:=d) (by simp)
     exact o9 (by simp[Op.operands,Call.operands];exact .inr (by simpa using hy)) hye h1
    ·obtain⟨y,hy,hye⟩:=sJ hargs (v:=x) (by simp)
     exact o9 (by simp[Op.operands,Call.operands];exact .inr (by simpa using hy)) hye h1
   ·cases h
  ·cases h
 | _=>simp[io] at h
def Ar (e:Edge):Bool:=
 match e.ground with
 | .textOnly _=>false
 | .gcOnly _=>false
 | _=>true
def pre (o:Oper):List Nat:=(o.after.toList.filter Ar).map (·.on)
def MU (ms:List Nat):List Nat→Nat→Nat
 | [],m=>m
 | j::l,m=>MU ms l (m ||| (2 ^ j) ||| ms.getD j 0)
def P6 (ms:List Nat)(o:Oper):Nat:=MU ms (pre o) 0
def WP (op:Op):List Nat:=op.operands.toList.filterMap fun
 | .tmp t=>some t
 | _=>none
def Am (ops:Array Oper)(o:Oper):List Nat:=
 match o.guard with
 | some (j,_)=>((ops[j]?).bind (·.dst)).toList
 | none=>[]
def tR (ops:Array Oper)(o:Oper):List Nat:=WP o.op++Am ops o
def sH (l:List Nat):Option Nat→Bool
 | some d=>!l.contains d
 | none=>true
def IJ:Option Nat→Option Nat→Bool
 | some a,some b=>a != b
 | _,_=>true
def jN (ops:Array Oper)(ms:List Nat):Bool:=
 (List.range ops.size).all fun i=>match ops[i]? with
  | none=>false
  | some oi=>(pre oi).all (fun j=>decide (j<i))&&(ms.getD i 0==P6 ms oi)&&(List.range i).all fun j=>match ops[j]? with
   | none=>false
   | some oj=>(ms.getD i 0).testBit j||(sH (tR ops oi) oj.dst&&sH (tR ops oj) oi.dst&&IJ oi.dst oj.dst)
theorem FU {ms:List Nat}{j:Nat}:∀{l:List Nat} {m:Nat},(MU ms l m).testBit j=true→m.testBit j=true∨∃k∈l,j=k∨(ms.getD k 0).testBit j=true
 | [],m,h=>.inl h
 | k::l,m,h=>by
  rcases FU (l:=l) h with h1 | ⟨k',hk,h1⟩
  ·simp only[Nat.testBit_or,Bool.or_eq_true,Nat.testBit_two_pow,decide_eq_true_eq] at h1
   rcases h1 with (h1 | h1) | h1
   ·exact .inl h1
   ·exact .inr ⟨k,by simp,.inl h1.symm⟩
   ·exact .inr ⟨k,by simp,.inr h1⟩
  ·exact .inr ⟨k',List.mem_cons_of_mem _ hk,h1⟩
structure StOk (ops:Array Oper) (ms:List Nat) (i:Nat) (oi:Oper):Prop where
 pre:∀j∈pre oi,j<i
 mask:ms.getD i 0=P6 ms oi
 pair:∀j,j<i→∀oj,ops[j]?=some oj→(ms.getD i 0).testBit j=true∨(sH (tR ops oi) oj.dst=true∧sH (tR ops oj) oi.dst=true∧IJ oi.dst oj.dst=true)
theorem lM {ops:Array Oper}{ms:List Nat}(h:jN ops ms=true){i:Nat}{oi:Oper}(hi:ops[i]?=some oi):StOk ops ms i oi:=by
 unfold jN at h
 rw[List.all_eq_true] at h
 have:=h i (List.mem_range.2 (mN.1 hi).1)
 simp only[hi,Bool.and_eq_true,List.all_eq_true,decide_eq_true_eq,beq_iff_eq] at this
 obtain⟨⟨h1,h2⟩,h3⟩:=this
 refine⟨h1,h2,fun j hj oj hoj=>?_⟩
 have:=h3 j (List.mem_range.2 hj)
 simp only[hoj,Bool.or_eq_true,Bool.and_eq_true] at this
 rcases this with h | ⟨⟨h,h'⟩,h''⟩
 ·exact .inl h
 ·exact .inr ⟨h,h',h''⟩
def blk (base j o:Nat):Prop:=base+ci*j≤o∧o<base+ci*(j+1)
theorem oc {base j j' o:Nat}(h:blk base j o)(h':blk base j' o):j=j':=by
 unfold blk ci at *
 omega
structure Trace (E:Env) (ops:Array Oper) (ms:List Nat) (base:Nat) (sq:Nat→St) (R W:Nat→List Nat):Prop where
 step:∀i,i<ops.size→∃o b,ops[i]?=some o∧gO ops (sq i) o=some b∧R i=(if b then fY (sq i) o.op else [])∧W i=(if b then io E (sq i) o.op else [])∧fi E ops (base+ci*i) (sq i) i=some (sq (i+1))
 own:∀i,i<ops.size→∀x∈R i,x<base∨∃j,(ms.getD i 0).testBit j=true∧blk base j x
 apart:∀j i,j<i→i<ops.size→(ms.getD i 0).testBit j=true∨((∀x∈W j,x∉R i)∧∀x∈W i,x∉R j)
section
variable {E : Env} {ops : Array Oper} {ms : List Nat} {base : Nat} {sq : Nat→St} {R W : Nat→List Nat}
def wT (ops:Array Oper)(j t:Nat):Prop:=∃o,ops[j]?=some o∧o.dst=some t
def wR (W:Nat→List Nat)(base j o:Nat):Prop:=o∈W j∨blk base j o
structure Inv (ops:Array Oper) (base:Nat) (sq:Nat→St) (W:Nat→List Nat) (S:Nat→Prop) (σ:St):Prop where
 nx:σ.nx=(sq 0).nx
 len:σ.tm.length=(sq 0).tm.length
 tm:∀t k,k≤ops.size→(∀j,j<k→wT ops j t→S j)→(∀j,k≤j→j<ops.size→wT ops j t→¬S j)→σ.tm[t]?=(sq k).tm[t]?
 rt:∀o k,k≤ops.size→(∀j,j<k→wR W base j o→S j)→(∀j,k≤j→j<ops.size→wR W base j o→¬S j)→σ.rt o=(sq k).rt o
theorem Lu {tm:List V}{d:Option Nat}{v:V}{t:Nat}(h:d=some t):(kc tm d v)[t]?=if t<tm.length then some v else none:=by
 subst h
 simp only[kc]
 by_cases hl:t<tm.length
 ·rw[if_pos hl,List.getElem?_set_self hl]
 ·rw[if_neg hl,List.getElem?_eq_none (by simpa using hl)]
theorem Lv {tm:List V}{d:Option Nat}{v:V}{t:Nat}(h:d≠some t):(kc tm d v)[t]?=tm[t]?:=by
 cases d with
 | none=>rfl
 | some d=>simp only[kc];rw[List.getElem?_set_ne (by simpa using h)]
theorem lN {id i:Nat}{st st':St}{o:Oper}{b:Bool}(ho:ops[i]?=some o)(hb:gO ops st o=some b)(h:fi E ops id st i=some st') :
  ∃v,st'={ st with tm:=kc st.tm o.dst v,rt:=st'.rt }∧((b=true∧bc E id st o.op=some (v,st'.rt))∨(b=false∧v=.und∧st'.rt=st.rt)):=by
 unfold fi at h
 simp only[ho,hb,b6] at h
 cases b with
 | true=>
  simp only[if_true,aF] at h
  obtain⟨⟨v,rt'⟩,hv,rfl⟩:=h
  exact⟨v,rfl,.inl ⟨rfl,hv⟩⟩
 | false=>
  simp only[Bool.false_eq_true,if_false,Option.some.injEq] at h
  subst h
  exact⟨.und,rfl,.inr ⟨rfl,rfl,rfl⟩⟩
theorem Trace.tmF (T:Trace E ops ms base sq R W){i t:Nat}(hi:i<ops.size)(h:¬wT ops i t):(sq (i+1)).tm[t]?=(sq i).tm[t]?:=by
 obtain⟨o,b,h1,h2,_,_,h5⟩:=T.step i hi
 obtain⟨v,h6,_⟩:=lN h1 h2 h5
 rw[h6]
 exact Lv fun hd=>h ⟨o,h1,hd⟩
theorem Trace.len (T:Trace E ops ms base sq R W){i:Nat}(hi:i≤ops.size):(sq i).tm.length=(sq 0).tm.length:=by
 induction i with
 | zero=>rfl
 | succ i ih=>
  obtain⟨o,b,h1,h2,_,_,h5⟩:=T.step i (by omega)
  obtain⟨v,h6,_⟩:=lN h1 h2 h5
  rw[h6]
  simp only[tY]
  exact ih (by omega)
theorem Trace.nx (T:Trace E ops ms base sq R W){i:Nat}(hi:i≤ops.size):(sq i).nx=(sq 0).nx:=by
 induction i with
 | zero=>rfl
 | succ i ih=>
  obtain⟨o,b,h1,h2,_,_,h5⟩:=T.step i (by omega)
  obtain⟨v,h6,_⟩:=lN h1 h2 h5
  rw[h6]
  exact ih (by omega)
theorem Trace.rtF (T:Trace E ops ms base sq R W){i o:Nat}(hi:i<ops.size)(h:¬wR W base i o):(sq (i+1)).rt o=(sq i).rt o:=by
 obtain⟨op,b,h1,h2,_,h4,h5⟩:=T.step i hi
 obtain⟨v,_,h6 | h6⟩:=lN h1 h2 h5
 ·rw[if_pos h6.1] at h4
  refine TK h6.2 (fun hw=>h (.inl (by rw[h4];exact hw))) fun hb=>h (.inr ?_)
  unfold blk
  exact⟨hb.1,by have:=hb.2;rw[Nat.mul_add];omega⟩
 ·rw[h6.2.2]
theorem Trace.tmS (T : Trace E ops ms base sq R W){t a b : Nat}(hab : a ≤ b)(hb : b ≤ ops.size)(h : ∀ j,a ≤ j→j < b→¬ wT ops j t) : (sq b).tm[t]?=(sq a).tm[t]?:=by
  induction b with
  | zero => have : a = 0 := by omega
            subst this; rfl
  | succ b ih =>
    by_cases he : a=b + 1
    · subst he; rfl
    · rw [T.tmF (by omega) (h b (by omega) (by omega))]
      exact ih (by omega) (by omega) fun j h1 h2=>h j h1 (by omega)
theorem Trace.rtS (T : Trace E ops ms base sq R W){o a b : Nat}(hab : a ≤ b)(hb : b ≤ ops.size)(h : ∀ j,a ≤ j→j < b→¬ wR W base j o) : (sq b).rt o=(sq a).rt o:=by
  induction b with
  | zero => have : a = 0 := by omega
            subst this; rfl
  | succ b ih =>
    by_cases he : a=b + 1
    · subst he; rfl
    · rw [T.rtF (by omega) (h b (by omega) (by omega))]
      exact ih (by omega) (by omega) fun j h1 h2=>h j h1 (by omega)
theorem Inv.init (T:Trace E ops ms base sq R W):Inv ops base sq W (fun _=>False) (sq 0):=
 ⟨rfl,rfl,fun t k hk h1 _=>(T.tmS (Nat.zero_le _) hk fun j _ hj hw=>h1 j hj hw).symm,fun o k hk h1 _=>(T.rtS (Nat.zero_le _) hk fun j _ hj hw=>h1 j hj hw).symm⟩
theorem Inv.final (T:Trace E ops ms base sq R W){S:Nat→Prop}{σ:St}(I:Inv ops base sq W S σ)(h:∀j,j<ops.size→S j):σ=sq ops.size:=by
 have h1:σ.tm=(sq ops.size).tm:=List.ext_getElem? fun t=>I.tm t ops.size (Nat.le_refl _) (fun j hj _=>h j hj) fun j h1 h2=>absurd h2 (by omega)
 have h2:σ.rt=(sq ops.size).rt:=funext fun o=>I.rt o ops.size (Nat.le_refl _) (fun j hj _=>h j hj) fun j h1 h2=>absurd h2 (by omega)
 have h3:σ.nx=(sq ops.size).nx:=by rw[I.nx,T.nx (Nat.le_refl _)]
 cases σ
 simp only at h1 h2 h3
 rw[h1,h2,h3]
def Hr (ops:Array Oper)(S:Nat→Prop):Prop:=∀i o,ops[i]?=some o→S i→∀j∈pre o,S j
theorem IH (hs:jN ops ms=true){S:Nat→Prop}(hc:Hr ops S):∀{i:Nat} {o:Oper},ops[i]?=some o→(∀j∈pre o,S j)→∀j,(ms.getD i 0).testBit j=true→S j∧j<i:=by
 intro i
 induction i using Nat.strongRecOn with
 | _ i ih=>
  intro o ho hp j hj
  have so:=lM hs ho
  rw[so.mask] at hj
  rcases FU hj with h | ⟨k,hk,h⟩
  ·simp at h
  ·have hki:=so.pre k hk
   rcases h with rfl | h
   ·exact⟨hp _ hk,hki⟩
   ·have hlt:k<ops.size:=by have:=(mN.1 ho).1;omega
    obtain⟨h1,h2⟩:=ih k hki (Array.getElem?_eq_getElem hlt) (fun x hx=>hc k _ (Array.getElem?_eq_getElem hlt) (hp k hk) x hx) j h
    exact⟨h1,by omega⟩
end
end
section
variable {E : Env} {ops : Array Oper} {ms : List Nat} {base : Nat} {sq : Nat→St} {R W : Nat→List Nat}
theorem XB {st st2:St}{x:Operand}(h:∀t,x=.tmp t→st2.tm[t]?=st.tm[t]?):ev st2 x=ev st x:=by
 cases x with
 | tmp t=>exact h t rfl
 | _=>rfl
theorem Vf {st st2:St}{o:Oper}(h:∀t∈Am ops o,st2.tm[t]?=st.tm[t]?):gO ops st2 o=gO ops st o:=by
 unfold gO
 cases hg:o.guard with
 | none=>rfl
 | some g=>
  obtain⟨j,w⟩:=g
  simp only
  have:qE ops st2 j=qE ops st j:=by
   unfold qE
   cases hd:(ops[j]?).bind (·.dst) with
   | none=>rfl
   | some d=>
    simp only[b6]
    rw[h d (by simp[Am,hg,hd])]
  rw[this]
theorem DB {l:List Nat}{d:Option Nat}{t:Nat}(h:sH l d=true)(hd:d=some t):t∉l:=by
 subst hd
 simpa[sH] using h
theorem SD (hs:jN ops ms=true)(T:Trace E ops ms base sq R W){S:Nat→Prop}{σ:St}(I:Inv ops base sq W S σ)(hc:Hr ops S){i:Nat}{oi:Oper}(hi:ops[i]?=some oi)(hni:¬S i)(hp:∀j∈pre oi,S j) :
  ∃σ',fi E ops (base+ci*i) σ i=some σ'∧Inv ops base sq W (fun j=>S j∨j=i) σ':=by
 have hin:i<ops.size:=(mN.1 hi).1
 have anc:∀j,(ms.getD i 0).testBit j=true→S j∧j<i:=IH hs hc hi hp
 have so:=lM hs hi
 have ops_get:∀j,j<ops.size→∃oj,ops[j]?=some oj:=fun j hj=>⟨_,Array.getElem?_eq_getElem hj⟩
 -- behind 'i' nothing that hangs on it has been done
 have later:∀j,j<ops.size→S j→(ms.getD j 0).testBit i=true→False:=fun j hj hS hb=>by
  obtain⟨oj,hoj⟩:=ops_get j hj
  exact hni (IH hs hc hoj (fun k hk=>hc j oj hoj hS k hk) i hb).1
 have bitlt:∀j,j<ops.size→∀k,(ms.getD j 0).testBit k=true→k<j:=fun j hj k hb=>by
  obtain⟨oj,hoj⟩:=ops_get j hj
  exact (IH hs (S:=fun _=>True) (fun _ _ _ _ _ _=>trivial) hoj (fun _ _=>trivial) k hb).2
 obtain⟨o,b,h1,h2,hR,hW,h5⟩:=T.step i hin
 rw[hi] at h1
 cases h1
 -- the operands
 have tmEq:∀t∈tR ops oi,σ.tm[t]?=(sq i).tm[t]?:=fun t ht=>by
  refine I.tm t i (Nat.le_of_lt hin) (fun j hj hw=>?_) (fun j hij hjn hw hS=>?_)
  ·obtain⟨oj,hoj,hd⟩:=hw
   rcases so.pair j hj oj hoj with h | ⟨h,_,_⟩
   ·exact (anc j h).1
   ·exact absurd ht (DB h hd)
  ·obtain⟨oj,hoj,hd⟩:=hw
   by_cases he:j=i
   ·subst he;exact hni hS
   ·rcases (lM hs hoj).pair i (by omega) oi hi with h | ⟨_,h,_⟩
    ·exact later j hjn hS h
    ·exact absurd ht (DB h hd)
 have hwant:gO ops σ oi=some b:=by
  rw[Vf fun t ht=>tmEq t (by simp[tR,ht]),h2]
 have hev:∀x∈oi.op.operands.toList,ev σ x=ev (sq i) x:=fun x hx=>XB fun t ht=>tmEq t (by
  subst ht
  simp only[tR,List.mem_append]
  exact .inl (List.mem_filterMap.2 ⟨_,hx,rfl⟩))
 -- the rows
 have sub:∀j,j<ops.size→∀x∈W j,x∈R j:=fun j hj x hx=>by
  obtain⟨oj,bj,_,_,hRj,hWj,_⟩:=T.step j hj
  rw[hWj] at hx
  rw[hRj]
  cases bj with
  | true=>exact U5 hx
  | false=>cases hx
 let H:Nat→Prop:=fun x=>x∈R i∨blk base i x
 have other:∀j,j<ops.size→j≠i→∀x,H x→wR W base j x→(j<i∧S j)∨(i<j∧¬S j):=by
  intro j hj hne x hH hw
  rcases Nat.lt_or_gt_of_ne hne with hlt | hgt
  ·left
   refine⟨hlt,?_⟩
   rcases hw with hw | hw<;>rcases hH with hH | hH
   ·rcases T.apart j i hlt hin with h | ⟨h,_⟩
    ·exact (anc j h).1
    ·exact absurd hH (h x hw)
   ·exfalso
    rcases T.own j hj x (sub j hj x hw) with h | ⟨k,hk,hb⟩
    ·have:=hH.1;omega
    ·have:=oc hb hH
     subst this
     have:=bitlt j hj k hk
     omega
   ·rcases T.own i hin x hH with h | ⟨k,hk,hb⟩
    ·have:=hw.1;omega
    ·have:=oc hb hw
     subst this
     exact (anc k hk).1
   ·exact absurd (oc hw hH) hne
  ·right
   refine⟨hgt,fun hS=>?_⟩
   rcases hw with hw | hw<;>rcases hH with hH | hH
   ·rcases T.apart i j hgt hj with h | ⟨_,h⟩
    ·exact later j hj hS h
    ·exact h x hw hH
   ·rcases T.own j hj x (sub j hj x hw) with h | ⟨k,hk,hb⟩
    ·have:=hH.1;omega
    ·have:=oc hb hH
     subst this
     exact later j hj hS hk
   ·rcases T.own i hin x hH with h | ⟨k,hk,hb⟩
    ·have:=hw.1;omega
    ·have:=oc hb hw
     subst this
     have:=bitlt i hin k hk
     omega
   ·exact absurd (oc hw hH) hne
 have ag:Ag H (sq i).rt σ.rt:=fun x hx=>by
  refine I.rt x i (Nat.le_of_lt hin) (fun j hj hw=>?_) (fun j hij hjn hw hS=>?_)
  ·rcases other j (by omega) (by omega) x hx hw with h | h
   ·exact h.2
   ·omega
  ·by_cases he:j=i
   ·subst he;exact hni hS
   ·rcases other j hjn he x hx hw with h | h
    ·omega
    ·exact h.2 hS
 obtain⟨v,hsq,hcase⟩:=lN hi h2 h5
 have hstep:∃rt3,fi E ops (base+ci*i) σ i=some { σ with tm:=kc σ.tm oi.dst v,rt:=rt3 }∧Lk H (sq i).rt (sq (i+1)).rt σ.rt rt3:=by
  rcases hcase with⟨hb,hop⟩ | ⟨hb,hv,hrt⟩
  ·subst hb
   simp only[if_true] at hR
   obtain⟨rt3,h3,k3⟩:=Qg (H:=H) (fun x h1 h2=>.inr ⟨h1,by rw[Nat.mul_add];omega⟩) (fun x hx=>.inl (by rw[hR];exact hx)) hev ag hop
   refine⟨rt3,?_,k3⟩
   unfold fi
   simp only[hi,hwant,b6,if_true,h3,Option.map_some]
  ·subst hb
   refine⟨σ.rt,?_,?_⟩
   ·unfold fi
    simp only[hi,hwant,b6,Bool.false_eq_true,if_false,hv]
   ·rw[hrt];exact Lk.refl ag
 obtain⟨rt3,h3,k3⟩:=hstep
 have wH:∀x,wR W base i x→H x:=fun x hw=>hw.imp (sub i hin x) id
 refine⟨_,h3,⟨I.nx,by simp only[tY];exact I.len,fun t k hk q1 q2=>?_,fun x k hk q1 q2=>?_⟩⟩
 ·by_cases hd:oi.dst=some t
  ·have hik:i<k:=Nat.lt_of_not_le fun hle=>q2 i hle hin ⟨oi,hi,hd⟩ (.inr rfl)
   have e1:(sq k).tm[t]?=(sq (i+1)).tm[t]?:=T.tmS hik hk fun j hj1 hj2 hw=>by
    have hS:S j:=(q1 j hj2 hw).resolve_right (by omega)
    obtain⟨oj,hoj,hdj⟩:=hw
    rcases (lM hs hoj).pair i (by omega) oi hi with h | ⟨_,_,h⟩
    ·exact later j (by omega) hS h
    ·rw[hd,hdj] at h
     simp[IJ] at h
   rw[e1,hsq]
   simp only
   rw[Lu hd,Lu hd,I.len,T.len (Nat.le_of_lt hin)]
  ·simp only
   rw[Lv hd]
   exact I.tm t k hk (fun j hj hw=>(q1 j hj hw).resolve_right (by
    rintro rfl
    obtain⟨oj,hoj,hdj⟩:=hw
    rw[hi] at hoj
    cases hoj
    exact hd hdj)) (fun j hj1 hj2 hw hS=>q2 j hj1 hj2 hw (.inl hS))
 ·simp only
  by_cases hH:H x
  ·rw[(k3 x).1 hH]
   by_cases hw:wR W base i x
   ·have hik:i<k:=Nat.lt_of_not_le fun hle=>q2 i hle hin hw (.inr rfl)
    refine (T.rtS hik hk fun j hj1 hj2 hwj=>?_).symm
    have hS:S j:=(q1 j hj2 hwj).resolve_right (by omega)
    rcases other j (by omega) (by omega) x hH hwj with h | h
    ·omega
    ·exact h.2 hS
   ·rw[T.rtF hin hw,←ag x hH]
    exact I.rt x k hk (fun j hj hwj=>(q1 j hj hwj).resolve_right (by rintro rfl;exact hw hwj)) (fun j hj1 hj2 hwj hS=>q2 j hj1 hj2 hwj (.inl hS))
  ·rw[((k3 x).2 hH).1]
   exact I.rt x k hk (fun j hj hwj=>(q1 j hj hwj).resolve_right (by rintro rfl;exact hH (wH x hwj))) (fun j hj1 hj2 hwj hS=>q2 j hj1 hj2 hwj (.inl hS))
def v8 (E:Env)(ops:Array Oper)(base:Nat):List Nat→St→Option St
 | [],st=>some st
 | i::is,st=>(fi E ops (base+ci*i) st i).bind (v8 E ops base is)
def vG (ops:Array Oper):(Nat→Prop)→List Nat→Prop
 | S,[]=>∀j,j<ops.size→S j
 | S,i::is=>¬S i∧(∃o,ops[i]?=some o∧∀j∈pre o,S j)∧vG ops (fun j=>S j∨j=i) is
theorem JQ (hs:jN ops ms=true)(T:Trace E ops ms base sq R W):∀{is:List Nat} {S:Nat→Prop} {σ:St},Inv ops base sq W S σ→Hr ops S→vG ops S is→v8 E ops base is σ=some (sq ops.size)
 | [],S,σ,I,hc,ht=>by
  have:=I.final T ht
  subst this
  rfl
 | i::is,S,σ,I,hc,ht=>by
  obtain⟨hni,⟨o,ho,hp⟩,ht⟩:=ht
  obtain⟨σ',h1,I'⟩:=SD hs T I hc ho hni hp
  simp only[v8,h1,b6]
  refine JQ hs T I' (fun j oj hoj hS k hk=>?_) ht
  rcases hS with hS | rfl
  ·exact .inl (hc j oj hoj hS k hk)
  ·rw[ho] at hoj
   cases hoj
   exact .inl (hp k hk)
theorem PD {e:Edge}:Region.binds .any e=Ar e:=by
 unfold Region.binds Ar
 cases e.ground<;>rfl
theorem F1 {o:Oper}{j:Nat}:j∈pre o↔∃e∈o.after,Region.binds .any e=true∧e.on=j:=by
 unfold pre
 simp only[List.mem_map,List.mem_filter,Array.mem_toList_iff,PD]
 exact⟨fun⟨e,⟨h1,h2⟩,h3⟩=>⟨e,h1,h2,h3⟩,fun⟨e,h1,h2,h3⟩=>⟨e,⟨h1,h2⟩,h3⟩⟩
theorem Lh (hs:jN ops ms=true):∀(fuel t:Nat) (listed:Array Bool),listed.size=ops.size→(∀l:List Nat,l.Nodup→(∀j∈l,j<ops.size∧listed.getD j false=false)→l.length≤fuel)→
  vG ops (fun j=>listed.getD j false=true) (Region.linearise.go .any ops fuel t listed [])
 | 0,t,listed,hsz,hf=>by
  simp only[Region.linearise.go,List.reverse_nil,vG]
  intro j hj
  by_cases h:listed.getD j false=true
  ·exact h
  ·have:=hf [j] (by simp) (by simp only[List.mem_singleton,forall_eq];exact⟨hj,by simpa using h⟩)
   simp at this
 | fuel+1,t,listed,hsz,hf=>by
  simp only[Region.linearise.go]
  change vG ops _ (match (Region.ready .any ops listed)[t % (Region.ready .any ops listed).length]? with
   | some i=>Region.linearise.go .any ops fuel (t / (Region.ready .any ops listed).length) (listed.setIfInBounds i true) [i]
   | none=>[].reverse)
  cases hi:(Region.ready .any ops listed)[t % (Region.ready .any ops listed).length]? with
  | none=>
   have hnil:Region.ready .any ops listed=[]:=by
    cases hr:Region.ready .any ops listed with
    | nil=>rfl
    | cons x xs=>
     rw[hr] at hi
     have hlt:t % (x::xs).length<(x::xs).length:=Nat.mod_lt _ (by simp)
     simp at hi
     simp at hlt
     omega
   simp only[List.reverse_nil,vG]
   intro j
   induction j using Nat.strongRecOn with
   | _ j ih=>
    intro hj
    by_cases h:listed.getD j false=true
    ·exact h
    ·exfalso
     have:j∈Region.ready .any ops listed:=by
      rw[mem_ready]
      refine⟨?_,_,Array.getElem?_eq_getElem hj,fun e he hb=>?_⟩
      ·have hlt:j<listed.size:=by omega
       simpa[Array.getD,hlt] using h
      ·have hk:e.on∈pre ops[j]:=F1.2 ⟨e,he,hb,rfl⟩
       have:=(lM hs (Array.getElem?_eq_getElem hj)).pre _ hk
       exact ih _ this (by omega)
     rw[hnil] at this
     cases this
  | some i=>
   simp only
   rw[linearise_go_acc,List.reverse_singleton,List.singleton_append]
   have hm:=hJ hi
   rw[mem_ready] at hm
   obtain⟨h0,o,ho,hall⟩:=hm
   have hin:i<ops.size:=(mN.1 ho).1
   have hil:i<listed.size:=by omega
   have hni:listed.getD i false=false:=by simpa[Array.getD,hil] using h0
   have ih:=Lh hs fuel (t / (Region.ready .any ops listed).length) (listed.setIfInBounds i true) (by simpa using hsz) (fun l hl hj=>by
    have hnil:i∉l:=fun hm=>by
     have:=(hj i hm).2
     simp[Array.getD,hil] at this
    have:=hf (i::l) (List.nodup_cons.2 ⟨hnil,hl⟩) (fun j hjm=>by
     rcases List.mem_cons.1 hjm with rfl | hjm
     ·exact⟨hin,hni⟩
     ·obtain⟨q1,q2⟩:=hj j hjm
      refine⟨q1,?_⟩
      rwa[getD_set_ne false (by rintro rfl;exact hnil hjm)] at q2)
    simpa using this)
   have hni':¬(listed.getD i false=true):=by rw[hni];simp
   refine⟨hni',⟨o,ho,fun j hj=>?_⟩,?_⟩
   ·obtain⟨e,he,hb,rfl⟩:=F1.1 hj
    exact hall e he hb
   ·have:(fun j=>(listed.setIfInBounds i true).getD j false=true)=(fun j=>listed.getD j false=true∨j=i):=by
     funext j
     apply propext
     by_cases he:j=i
     ·subst he
      simp[Array.getD,hil]
     ·rw[getD_set_ne false (Ne.symm he)]
      simp[he]
    rw[this] at ih
    exact ih
theorem Au:∀{n:Nat} {l:List Nat},l.Nodup→(∀j∈l,j<n)→l.length≤n
 | 0,[],_,_=>by simp
 | 0,x::l,_,h=>absurd (h x (by simp)) (by omega)
 | n+1,l,hl,h=>by
  by_cases hn:n∈l
  ·have h1:=Au (n:=n) (hl.erase n) fun j hj=>by
    rw[hl.mem_erase_iff] at hj
    have:=h j hj.2
    omega
   rw[List.length_erase_of_mem hn] at h1
   omega
  ·have:=Au (n:=n) hl fun j hj=>by
    have:=h j hj
    have:j≠n:=by rintro rfl;exact hn hj
    omega
   omega
theorem ut (hs:jN ops ms=true)(t:Nat):vG ops (fun _=>False) (Region.schedule true ops t):=by
 have h:=Lh hs ops.size t (Array.replicate ops.size false) (by simp) fun l hl hj=>Au hl fun j hjm=>(hj j hjm).1
 have e:(fun j=>(Array.replicate ops.size false).getD j false=true)=fun _=>False:=by
  funext j
  apply propext
  simp[Array.getD]
 rw[e] at h
 simpa[Region.schedule,Region.linearise] using h
theorem PA (hs:jN ops ms=true)(T:Trace E ops ms base sq R W)(t:Nat):v8 E ops base (Region.schedule true ops t) (sq 0)=some (sq ops.size):=
 JQ hs T (Inv.init T) (fun _ _ _ h=>h.elim) (ut hs t)
theorem Eo {S:Nat→Prop}:∀{is:List Nat},vG ops S is→is.Nodup∧∀i∈is,¬S i∧i<ops.size
 | [],_=>by simp
 | i::is,⟨h1,⟨o,ho,_⟩,h2⟩=>by
  obtain⟨h3,h4⟩:=Eo h2
  refine⟨List.nodup_cons.2 ⟨fun hm=>(h4 i hm).1 (.inr rfl),h3⟩,fun j hj=>?_⟩
  rcases List.mem_cons.1 hj with rfl | hj
  ·exact⟨h1,(mN.1 ho).1⟩
  ·exact⟨fun h=>(h4 j hj).1 (.inl h),(h4 j hj).2⟩
end
section
abbrev mD:=List (Nat×List Nat×List Nat)
def qV (base:Nat)(ms:List Nat)(i:Nat)(R W:List Nat)(log:mD):Bool:=
 R.all (fun x=>decide (x<base)||(ms.getD i 0).testBit ((x - base) / ci)) &&
 log.all fun e=>(ms.getD i 0).testBit e.1||(e.2.2.all (fun x=>!R.contains x)&&W.all fun x=>!e.2.1.contains x)
def ng (E:Env)(ops:Array Oper)(ms:List Nat)(i:Nat)(log:mD)(st:St):Option (mD×St):=
 (ops[i]?).bind fun o=>(gO ops st o).bind fun b=>
  if qV st.nx ms i (if b then fY st o.op else []) (if b then io E st o.op else []) log then
   (fi E ops (st.nx+ci*i) st i).map fun st'=>((i,(if b then fY st o.op else []),(if b then io E st o.op else []))::log,st') else none
def mK:List It→Bool
 | .dops _ _ _ _::_=>false
 | _=>true
inductive Run (E:Env) (m:Nat) (Q:St→Prop):List It→St→Prop
 | done {st} (h:Q st):Run E m Q [] st
 | step {k k' st st'} (h:iX E k st=some (k',st')) (r:Run E m Q k' st'):Run E m Q k st
 | forget {k st} (L:List Nat) (hk:mK k=true) (r:Run E m Q k (nA m L st)):Run E m Q k st
 | split {k st} (S:St→Prop) (hk:mK k=true) (h:∀{G:Ground} {w0 w:World} {ρ0 ρ:bD} {a:Act},fX G m w0 ρ0 w ρ st a→∃ρ' st',S st'∧fX G m w0 ρ0 w ρ' st' a) (r:∀st',S st'→Run E m Q k st'):Run E m Q k st
 | nilq {ops:Array Oper} {i:Nat} {is:List Nat} {k st} {o:Oper} {op:BinOp} {t t' e:TypeId} {x y:Operand} {nl:Bool} (ho:ops[i]?=some o) (hg:gO ops st o=some true) (hop:o.op=.binOp op t x y t') (he:op=.eql∨op=.neq)
  (hx:ev st x=some (.isl nl [])) (hy:ev st y=some (.isl true [])) (hd:E.desc t=some (.slice e)) (r:∀b,Run E m Q (.ops ops is::k) { st with tm:=kc st.tm o.dst (.bool b),nx:=st.nx+ci }):Run E m Q (.ops ops (i::is)::k) st
 | draw {id ops k st} (ms:List Nat) (hs:jN ops ms=true) (r:Run E m Q (.dops ops ms 0 []::k) st):Run E m Q (.code (.region id ops true)::k) st
 | dop {ops ms i log log' k st st'} (h:ng E ops ms i log st=some (log',st')) (r:Run E m Q (.dops ops ms (i+1) log'::k) st'):Run E m Q (.dops ops ms i log::k) st
 | dend {ops ms i log k st} (h:ops.size≤i) (r:Run E m Q k { st with nx:=st.nx+ci*ops.size }):Run E m Q (.dops ops ms i log::k) st
theorem Run.steps {E:Env}{m:Nat}{Q:St→Prop}:∀{n:Nat} {k k':List It} {st st':St},Hp E n k st=some (k',st')→Run E m Q k' st'→Run E m Q k st
 | 0,k,k',st,st',h,r=>by simp[Hp] at h;obtain⟨rfl,rfl⟩:=h;exact r
 | n+1,k,k',st,st',h,r=>by
  simp only[Hp] at h
  split at h
  ·rename_i k1 st1 h1
   exact .step h1 (Run.steps h r)
  ·cases h
inductive DRun (E:Env) (ops:Array Oper) (ms:List Nat):Nat→mD→St→St→Prop
 | done {i log st} (h:ops.size≤i):DRun E ops ms i log st st
 | step {i log log' st st1 st'} (h:ng E ops ms i log st=some (log',st1)) (r:DRun E ops ms (i+1) log' st1 st'):DRun E ops ms i log st st'
theorem yd {E:Env}{ops:Array Oper}{ms:List Nat}{i:Nat}{log log':mD}{st st':St}(h:ng E ops ms i log st=some (log',st')) :
  ∃o b R W,ops[i]?=some o∧gO ops st o=some b∧R=(if b then fY st o.op else [])∧W=(if b then io E st o.op else [])∧qV st.nx ms i R W log=true∧fi E ops (st.nx+ci*i) st i=some st'∧log'=(i,R,W)::log:=by
 simp only[ng,aE] at h
 obtain⟨o,ho,b,hb,h⟩:=h
 generalize hR:(if b=true then fY st o.op else [])=R at h
 generalize hW:(if b=true then io E st o.op else [])=W at h
 split at h
 ·rename_i hok
  simp only[aF,Prod.mk.injEq] at h
  obtain⟨x,hx,rfl,rfl⟩:=h
  exact⟨o,b,R,W,ho,hb,hR.symm,hW.symm,hok,hx,rfl⟩
 ·cases h
theorem SN {base:Nat}{ms:List Nat}{i:Nat}{R W:List Nat}{log:mD}(h:qV base ms i R W log=true) :
  (∀x∈R,x<base∨∃j,(ms.getD i 0).testBit j=true∧blk base j x)∧∀e∈log,(ms.getD i 0).testBit e.1=true∨((∀x∈e.2.2,x∉R)∧∀x∈W,x∉e.2.1):=by
 simp only[qV,Bool.and_eq_true,List.all_eq_true,Bool.or_eq_true,decide_eq_true_eq,Bool.not_eq_true',List.contains_eq_mem,decide_eq_false_iff_not] at h
 refine⟨fun x hx=>?_,fun e he=>?_⟩
 ·by_cases hlt:x<base
  ·exact .inl hlt
  ·right
   refine⟨_,(h.1 x hx).resolve_left hlt,?_⟩
   unfold blk ci
   have:=Nat.div_add_mod (x - base) 16
   have:=Nat.mod_lt (x - base) (show 16>0 by omega)
   omega
 ·exact h.2 e he
theorem JL {E:Env}{ops:Array Oper}{id i:Nat}{st st':St}(h:fi E ops id st i=some st'):st'.nx=st.nx:=by
 unfold fi at h
 split at h
 ·cases h;rfl
 ·simp only[aE] at h
  obtain⟨b,_,h⟩:=h
  split at h
  ·simp only[aF] at h
   obtain⟨_,_,rfl⟩:=h
   rfl
  ·cases h;rfl
theorem DRun.trace {E:Env}{ops:Array Oper}{ms:List Nat}{i:Nat}{log:mD}{st st':St}(r:DRun E ops ms i log st st'):i≤ops.size→∃(sq:Nat→St) (R W:Nat→List Nat),sq i=st∧sq ops.size=st'∧
  (∀j,i≤j→j<ops.size→∃o b,ops[j]?=some o∧gO ops (sq j) o=some b∧R j=(if b then fY (sq j) o.op else [])∧W j=(if b then io E (sq j) o.op else [])∧fi E ops (st.nx+ci*j) (sq j) j=some (sq (j+1)))∧
  (∀j,i≤j→j<ops.size→∀x∈R j,x<st.nx∨∃k,(ms.getD j 0).testBit k=true∧blk st.nx k x)∧
  (∀j k,i≤j→j<k→k<ops.size→(ms.getD k 0).testBit j=true∨((∀x∈W j,x∉R k)∧∀x∈W k,x∉R j))∧
  (∀e∈log,∀k,i≤k→k<ops.size→(ms.getD k 0).testBit e.1=true∨((∀x∈e.2.2,x∉R k)∧∀x∈W k,x∉e.2.1)):=by
 induction r with
 | @done i log st h=>
  intro hi
  have:i=ops.size:=by omega
  subst this
  exact⟨fun _=>st,fun _=>[],fun _=>[],rfl,rfl,fun j h1 h2=>absurd h2 (by omega),fun j h1 h2=>absurd h2 (by omega),fun j k h1 h2 h3=>absurd h3 (by omega),fun e _ k h1 h2=>absurd h2 (by omega)⟩
 | @step i log log' st st1 st' h r ih=>
  intro hi
  obtain⟨o,b,R0,W0,ho,hb,hR,hW,hok,hst,rfl⟩:=yd h
  have hin:i<ops.size:=(mN.1 ho).1
  obtain⟨sq,R,W,q1,q2,q3,q4,q5,q6⟩:=ih (by omega)
  have hnx:st1.nx=st.nx:=JL hst
  obtain⟨ok1,ok2⟩:=SN hok
  refine⟨fun j=>if j=i then st else sq j,fun j=>if j=i then R0 else R j,fun j=>if j=i then W0 else W j,by simp,by simp only;rw[if_neg (by omega)];exact q2,fun j h1 h2=>?_,fun j h1 h2=>?_,fun j k h1 h2 h3=>?_,fun e he k h1 h2=>?_⟩
  ·by_cases hj:j=i
   ·subst hj
    simp only[if_true,if_neg (show ¬j+1=j by omega)]
    exact⟨o,b,ho,hb,hR,hW,by rw[q1];exact hst⟩
   ·simp only[if_neg hj,if_neg (show ¬j+1=i by omega)]
    obtain⟨o',b',p1,p2,p3,p4,p5⟩:=q3 j (by omega) h2
    exact⟨o',b',p1,p2,p3,p4,by rw[←hnx];exact p5⟩
  ·by_cases hj:j=i
   ·subst hj
    simp only[if_true]
    exact ok1
   ·simp only[if_neg hj]
    rw[←hnx]
    exact q4 j (by omega) h2
  ·by_cases hj:j=i
   ·subst hj
    simp only[if_true,if_neg (show ¬k=j by omega)]
    exact q6 (j,R0,W0) (by simp) k (by omega) h3
   ·simp only[if_neg hj,if_neg (show ¬k=i by omega)]
    exact q5 j k (by omega) h2 h3
  ·by_cases hk:k=i
   ·subst hk
    simp only[if_true]
    exact ok2 e he
   ·simp only[if_neg hk]
    exact q6 e (List.mem_cons_of_mem _ he) k (by omega) h2
theorem DRun.any {E:Env}{ops:Array Oper}{ms:List Nat}{st st':St}(hs:jN ops ms=true)(r:DRun E ops ms 0 [] st st')(t:Nat):v8 E ops st.nx (Region.schedule true ops t) st=some st':=by
 obtain⟨sq,R,W,q1,q2,q3,q4,q5,q6⟩:=r.trace (Nat.zero_le _)
 have T:Trace E ops ms st.nx sq R W:=⟨fun i hi=>q3 i (Nat.zero_le _) hi,fun i hi=>q4 i (Nat.zero_le _) hi,fun j i hj hi=>q5 j i (Nat.zero_le _) hj hi⟩
 have:=PA hs T t
 rwa[q1,q2] at this
end
section
variable {G : Ground} {m : Nat} {w0 w : World} {ρ0 ρ : bD} {st st' : St} {a : Act}
theorem RelU.drawn {Un : Nat→Prop}(R : RelU Un G m w0 ρ0 w ρ st a) : RelU Un G m w0 ρ0 { w with drawn:=w.drawn + 1 } ρ st a:=by
  have K : Keep (fun _ _=>False) w ρ st.rt { w with drawn:=w.drawn + 1 } ρ st.rt:=⟨fun b hb _=>⟨hb,rfl⟩,fun o nv p _ hl=>⟨hl,fun b n h1 h2=>⟨h1,h2⟩⟩,fun b l h=>⟨h,rfl⟩⟩
  have Wd : Wk w { w with drawn:=w.drawn + 1 }:=⟨rfl,rfl,rfl,Nat.le_refl _,fun _ _ h=>h⟩
  exact { R with
    tm:=⟨R.tm.1,fun i v u hv hu=>(R.tm.2 i v u hv hu).keep K (eo (by rintro _ _ h; exact h.elim) (R.tmn i v hv))⟩
    rok:=fun o r hr=>co.under K (fun b l hb _=>⟨hb,rfl⟩) (R.rok o r hr) (R.rtn o r hr)
    lab:=⟨R.lab.l,R.lab.z,R.lab.f⟩
    wk:=R.wk.trans Wd
    gr:=Ground.keep R.gr K.k1 Wd }
section
variable {P : Program} {E : Env} (hG : ∀ f e,E.fn f=some e→fq P G f e) (A : Agree P E)
include hG A
def WW (base n:Nat)(is:List Nat):Nat→Prop:=fun o=>base+ci*n≤o∨∃i∈is,blk base i o
theorem FY {ops:Array Oper}{base:Nat}(hb0:0<base){Q:Exit→Act→World→Prop}:∀{is:List Nat} {st:St} {w:World} {ρ:bD} {a:Act},is.Nodup→(∀i∈is,i<ops.size)→v8 E ops base is st=some st'→RelU (WW base ops.size is) G m w0 ρ0 w ρ st a→
  (∀w ρ a,RelU (em (base+ci*ops.size)) G m w0 ρ0 w ρ st' a→Q .normal a w)→wpOps P ops Q is a w
 | [],st,w,ρ,a,hd,hl,h,R,hQ=>by
  simp only[v8,Option.some.injEq] at h
  subst h
  simp only[wpOps]
  exact hQ w ρ a (R.mono (nx:=st.nx) fun o ho=>.inl ho)
 | i::is,st,w,ρ,a,hd,hl,h,R,hQ=>by
  simp only[v8,aE] at h
  obtain⟨st1,h1,h2⟩:=h
  obtain⟨eY,hd2⟩:=List.nodup_cons.1 hd
  have hil:=hl i (by simp)
  refine RelU.step hG A R (id:=base+ci*i) (nx:=st1.nx) (by omega) (fun o q1 q2=>.inr ⟨i,by simp,q1,by rw[Nat.mul_add];omega⟩) h1 fun w' ρ' a' R'=>?_
  refine FY hb0 hd2 (fun j hj=>hl j (List.mem_cons_of_mem _ hj)) h2 (R'.mono (nx:=st1.nx) fun o ho=>?_) hQ
  rcases ho with ho | ⟨j,hj,hb⟩
  ·refine⟨.inl ho,fun hc=>?_⟩
   have:ci*(i+1)≤ci*ops.size:=Nat.mul_le_mul_left _ hil
   rw[Nat.mul_add] at this
   omega
  ·refine⟨.inr ⟨j,List.mem_cons_of_mem _ hj,hb⟩,fun hc=>?_⟩
   have:=oc (j:=i) ⟨hc.1,by rw[Nat.mul_add];omega⟩ hb
   subst this
   exact eY hj
theorem Mx {id:Nat}{ops:Array Oper}{ms:List Nat}{k:List It}{F:Act→World→Prop}(hm:P.follows .mixedOrders=true)(hs:jN ops ms=true)(r:DRun E ops ms 0 [] st st')(R:fX G m w0 ρ0 w ρ st a)(ih:∀w ρ a,fX G m w0 ρ0 w ρ { st' with nx:=st.nx+ci*ops.size } a→lK P F k a w):lK P F (.code (.region id ops true)::k) a w:=by
 intro b cs
 have hpos:0<st.nx:=R.up st.nx (Nat.le_refl _)
 generalize ht:w.tape w.drawn (.order b.fn id)=t
 have htopo:=ut hs t
 obtain⟨h1,h2⟩:=Eo htopo
 have hw:=FY (P:=P) (Q:=MX (lK P F k)) hG A hpos h1 (fun i hi=>(h2 i hi).2) (r.any hs t) (R.drawn.mono (Un':=WW st.nx ops.size (Region.schedule true ops t)) (nx:=st.nx) fun o ho=>by
  rcases ho with ho | ⟨i,hi,hb⟩
  ·unfold em;omega
  ·have:=hb.1;unfold em;omega) fun w ρ a R'=>ih w ρ a (R'.mono (nx:=st.nx+ci*ops.size) fun o ho=>ho)
 obtain⟨a',w',td,hq,hst⟩:=Lc (ops:=ops) hw b cs
 refine⟨a',w',td,hq,?_⟩
 have hstep:=step_region_draw (P:=P) (b:=b) (a:=a) (k:=k.map ma) (cs:=cs) (w:=w) (ops:=ops) (id:=id)
 rw[hm,ht] at hstep
 exact Steps.head hstep hst
def gq (k:List It):Bool:=k.all fun
 | .dops _ _ _ _=>false
 | _=>true
omit hG A in
theorem oW:∀{k k':List It} {id:Nat},gD id k=some k'→gq k=true→gq k'=true
 | [],k',id,h,_=>by simp[gD] at h
 | .blk id'::k,k',id,h,hn=>by
  simp only[gq,List.all_cons,Bool.and_eq_true] at hn
  simp only[gD] at h
  split at h
  ·cases h;exact hn.2
  ·exact oW h hn.2
 | .code c::k,k',id,h,hn=>by
  simp only[gq,List.all_cons,Bool.and_eq_true] at hn
  exact oW (k:=k) (by simpa[gD] using h) hn.2
 | .ops o i::k,k',id,h,hn=>by
  simp only[gq,List.all_cons,Bool.and_eq_true] at hn
  exact oW (k:=k) (by simpa[gD] using h) hn.2
 | .lp c::k,k',id,h,hn=>by
  simp only[gq,List.all_cons,Bool.and_eq_true] at hn
  exact oW (k:=k) (by simpa[gD] using h) hn.2
 | .dops _ _ _ _::k,k',id,h,hn=>by simp[gq] at hn
theorem Qw {k k':List It}(h:iX E k st=some (k',st'))(hn:gq k=true):gq k'=true:=by
 have tl:∀{x:It} {k:List It},gq (x::k)=true→gq k=true:=fun h=>by
  simp only[gq,List.all_cons,Bool.and_eq_true] at h
  exact h.2
 unfold iX at h
 split at h
 ·cases h;exact tl hn
 ·cases h;have:=tl hn;simpa[gq] using this
 ·cases h;have:=tl hn;simpa[gq] using this
 ·simp only[aE] at h
  obtain⟨cv,hc,h⟩:=h
  have:=tl hn
  split at h<;>cases h<;>simpa[gq] using this
 ·cases h;have:=tl hn;simpa[gq] using this
 ·cases h;have:=tl hn;simpa[gq] using this
 ·simp only[aF] at h
  obtain⟨k1,hk,h⟩:=h
  cases h
  exact oW hk (tl hn)
 ·cases h;rfl
 ·cases h;exact tl hn
 ·simp only[aF] at h
  obtain⟨st1,hst,h⟩:=h
  cases h
  have:=tl hn
  simpa[gq] using this
 ·cases h;exact tl hn
 ·cases h;have:=tl hn;simpa[gq] using this
 ·cases h
def Mn (P:Program)(G:Ground)(m:Nat)(w0:World)(ρ0:bD)(Q:St→Prop)(k:List It)(st:St):Prop:=∀w ρ a,fX G m w0 ρ0 w ρ st a→IB P (Hl G m w0 ρ0 Q) k a w
def Ws (P:Program)(E:Env)(G:Ground)(m:Nat)(w0:World)(ρ0:bD)(Q:St→Prop):List It→St→Prop
 | .dops ops ms i log::k,st=>gq k=true→∃st',DRun E ops ms i log st st'∧Mn P G m w0 ρ0 Q k { st' with nx:=st'.nx+ci*ops.size }
 | k,st=>gq k=true→Mn P G m w0 ρ0 Q k st
theorem wS {Q:St→Prop}{k:List It}(h:Ws P E G m w0 ρ0 Q k st)(hn:gq k=true):Mn P G m w0 ρ0 Q k st:=by
 cases k with
 | nil=>exact h hn
 | cons x k=>
  cases x<;>first | exact h hn | simp[gq] at hn
omit hG A in
theorem DRun.nx {ops:Array Oper}{ms:List Nat}{i:Nat}{log:mD}(r:DRun E ops ms i log st st'):st'.nx=st.nx:=by
 induction r with
 | done h=>rfl
 | step h r ih=>
  obtain⟨o,b,R,W,_,_,_,_,_,hst,_⟩:=yd h
  rw[ih,JL hst]
theorem Run.sound (hm:P.follows .mixedOrders=true){Q:St→Prop}{k:List It}(r:Run E m Q k st):Ws P E G m w0 ρ0 Q k st:=by
 have mk:∀{k:List It} {st:St},(gq k=true→Mn P G m w0 ρ0 Q k st)→mK k=true→Ws P E G m w0 ρ0 Q k st:=by
  intro k st h hd
  cases k with
  | nil=>exact h
  | cons x k=>cases x<;>first | exact h | simp[mK] at hd
 induction r with
 | done h=>exact fun _ w ρ a R=>⟨_,_,R,h⟩
 | @step k k' st st' h r ih=>
  refine mk (fun hn w ρ a R=>M4 hG A h R fun w ρ a R'=>wS hG A ih (Qw hG A h hn) w ρ a R') ?_
  cases k with
  | nil=>rfl
  | cons x k=>
   cases x<;>first | rfl | (simp[iX] at h)
 | forget L hk r ih=>
  refine mk (fun hn w ρ a R=>?_) hk
  obtain⟨ρ',R'⟩:=R.forget L
  exact wS hG A ih hn w ρ' a R'
 | split S hk h r ih=>
  refine mk (fun hn w ρ a R=>?_) hk
  obtain⟨ρ',st',hS,R'⟩:=h R
  exact wS hG A (ih st' hS) hn w ρ' a R'
 | @nilq ops i is k st o op t t' e x y nl ho hg hop he hx hy hd r ih=>
  refine mk (fun hn w ρ a R=>?_) rfl
  refine R.nilq A ho hg hop he hx hy hd fun b w' ρ' a' R'=>?_
  exact wS hG A (ih b) (by simpa[gq] using hn) w' ρ' a' R'
 | @draw id ops k st ms hs r ih=>
  refine mk (fun hn w ρ a R=>?_) rfl
  have hn':gq k=true:=by
   simp only[gq,List.all_cons,Bool.and_eq_true] at hn
   exact hn.2
  obtain⟨st',hr,hk⟩:=ih hn'
  refine Mx hG A hm hs hr R fun w ρ a R'=>gn (hk w ρ a ?_)
  rw[hr.nx]
  exact R'
 | @dop ops ms i log log' k st st' h r ih=>
  intro hn
  obtain⟨st2,h1,h2⟩:=ih hn
  exact⟨st2,.step h h1,h2⟩
 | @dend ops ms i log k st h r ih=>
  intro hn
  exact⟨st,.done h,wS hG A ih hn⟩
theorem Run.fin (hm:P.follows .mixedOrders=true){Q:St→Prop}{c:Code}(r:Run E m Q [.code c] st)(R:fX G m w0 ρ0 w ρ st a):IB P (Hl G m w0 ρ0 Q) [.code c] a w:=
 wS hG A (Run.sound hG A hm r) rfl w ρ a R
end
end
section
variable {G : Ground} {m : Nat} {w0 w : World} {ρ0 ρ : bD} {st st' : St} {a : Act} {rt : al}
theorem um {v y:V}{k:Nat}(hk:k<(cells v).length)(hy:au y=false):cells (dA v k y)=(cells v).set k y∧au (dA v k y)=au v:=by
 cases v with
 | agg cs=>exact⟨rfl,rfl⟩
 | _=>
  have h0:k=0:=by simp[cells] at hk;exact hk
  subst h0
  cases y<;>first | (simp[au] at hy;done) | exact⟨rfl,rfl⟩
theorem fX.slot {t k s : Nat}{v : V}(ht : st.tm[t]? = some v)(hk : (cells v)[k]? = some (.isl true []))(R : fX G m w0 ρ0 w ρ st a) :
    fX G m w0 ρ0 w ρ ⟨st.tm.set t (dA v k (.hs st.nx 0 [] s 0 0)),upd st.rt st.nx (some ⟨0,s,[]⟩),st.nx + ci⟩ a:=by
  have hnx : st.rt st.nx=none:=R.fresh _ (Nat.le_refl _)
  have hne : ∀ {o r},st.rt o=some r→o ≠ st.nx:=fun h e=>by subst e; rw [hnx] at h; cases h
  have K : Keep (fun o _=>o=st.nx) w ρ st.rt w ρ (upd st.rt st.nx (some ⟨0,s,[]⟩)):=by
    refine ⟨fun b hb _=>⟨hb,rfl⟩,fun o nv p hN hl=>⟨?_,fun b n h1 h2=>⟨h1,h2⟩⟩,fun b l h=>⟨h,rfl⟩⟩
    have hN' : o ≠ st.nx:=hN
    simpa [cz,ch,bZ,upd,hN'] using hl
  have hKn : ∀ {v : V},aw (cg (em st.nx) st.rt) v→aw (fun o _=>o=st.nx) v:=fun h=>eo (fun o nv e=>by subst e; exact .inl (Nat.le_refl _)) h
  have hlt : k < (cells v).length:=(cB.1 hk).1
  obtain ⟨hc1,hc2⟩:=um (y:=.hs st.nx 0 [] s 0 0) hlt rfl
  have hmono : ∀ o nv,cg (em (st.nx + ci)) (upd st.rt st.nx (some ⟨0,s,[]⟩)) o nv→cg (em st.nx) st.rt o nv:=by
    intro o nv h
    rcases h with h | ⟨r,h1,h2⟩
    · exact .inl (Nat.le_trans (Nat.le_add_right _ _) h)
    · by_cases e : o=st.nx
      · exact .inl (by subst e; exact Nat.le_refl _)
      · exact .inr ⟨r,by simpa [upd,e] using h1,h2⟩
  have hnn : ¬ cg (em (st.nx + ci)) (upd st.rt st.nx (some ⟨0,s,[]⟩)) st.nx 0:=by
    rintro (h | ⟨r,h1,h2⟩)
    · have : st.nx + 16 ≤ st.nx:=h
      omega
    · simp [upd] at h1
      subst h1
      simp at h2
  have old : ∀ (i : Nat) x u,st.tm[i]?=some x→a.tmps[i]?=some u→aL w ρ (upd st.rt st.nx (some ⟨0,s,[]⟩)) bN x u:=fun i x u hx hu=>(R.tm.2 i x u hx hu).keep K (hKn (R.tmn i x hx))
  exact
    { tm := by
        refine ⟨by simpa using R.tm.1,fun i x u hx hu=>?_⟩
        rw [List.getElem?_set] at hx
        split at hx
        · rename_i e
          split at hx
          · cases hx
            subst e
            obtain ⟨g,hg1,hg2⟩:=old t v u ht hu
            refine ⟨g,?_,fun j x hx=>?_⟩
            · rw [hg1]
              unfold fh
              rw [hc2,hc1]
              simp
            · rw [hc1,List.getElem?_set] at hx
              split at hx
              · rename_i ej
                subst ej
                · cases hx
                  have:=hg2 k _ hk
                  have hA : g k=.slice none 0 0:=by
                    generalize g k=z at this
                    cases this with
                    | isl0 _ _ A c hn=>obtain ⟨rfl,rfl⟩:=hn rfl; rfl
                  rw [hA]
                  exact .hs _ _ _ _ _ _ _ _ (fun _=>⟨0,none,rfl,Nat.le_refl _,fun h=>absurd rfl h⟩) trivial
              · exact hg2 j x hx
          · cases hx
        · exact old i x u hx hu
      rok:=fun o r hr=>by
        by_cases e : o=st.nx
        · subst e
          simp [upd] at hr
          subst hr
          exact .inl rfl
        · have hr' : st.rt o=some r:=by simpa [upd,e] using hr
          exact co.under K (fun b l hb _=>⟨hb,rfl⟩) (R.rok o r hr') (R.rtn o r hr')
      inj:=R.inj
      rtn:=fun o r hr=>by
        by_cases e : o=st.nx
        · subst e
          simp [upd] at hr
          subst hr
          simp [nhs]
        · exact R.rtn o r (by simpa [upd,e] using hr)
      lab := ⟨fun b o l h => ⟨(R.lab.l b o l h).1, by
          rcases (R.lab.l b o l h).2 with h1 | ⟨r,h1⟩
          · exact .inl h1
          · exact .inr ⟨r,by simp [upd,hne h1,h1]⟩⟩,by have:=R.up st.nx (Nat.le_refl _); simp [upd,show (0 : Nat) ≠ st.nx by omega,R.lab.z],R.lab.f⟩
      fresh:=fun o ho=>by
        have ho' : st.nx + ci ≤ o:=ho
        have : o ≠ st.nx:=by simp [ci] at ho'; omega
        simp only [upd,if_neg this]
        exact R.fresh o (Nat.le_trans (Nat.le_add_right _ _) ho')
      up:=fun o ho=>R.up o (Nat.le_trans (Nat.le_add_right _ _) ho)
      tmn:=fun i x hx=>by
        rw [List.getElem?_set] at hx
        split at hx
        · split at hx
          · cases hx
            have hv:=eo hmono (R.tmn t v ht)
            cases v with
            | agg cs =>
              simp only [dA,aw] at hv ⊢
              rw [dY] at hv ⊢
              intro z hz
              rcases List.mem_or_eq_of_mem_set hz with hz | rfl
              · exact hv z hz
              · exact hnn
            | _=>exact hnn
          · cases hx
        · exact eo hmono (R.tmn i x hx)
      wk:=R.wk,fr:=R.fr,k0:=R.k0,f0:=R.f0,df:=R.df,gr:=R.gr
      am:=fun i b n h1 h2 h3 h4=>R.am i b n h1 h2 h3 (by
        have : i ≠ st.nx:=fun e=>R.nl i (R.le b i [] h2) (by subst e; exact Nat.le_refl _)
        simpa [upd,this] using h4)
      le:=R.le
      nl:=fun i hi h=>R.nl i hi (Nat.le_trans (Nat.le_add_right _ _) h) }
inductive Cv:V→V→Prop
 | refl (v):Cv v v
 | nil (s):Cv (.isl true []) (.usl s [])
 | agg (cs cs') (hl:cs.length=cs'.length) (h:∀(k:Nat) x y,cs[k]?=some x→cs'[k]?=some y→Cv x y):Cv (.agg cs) (.agg cs')
 | usl (s es es') (hl:es.length=es'.length) (h:∀(k:Nat) x y,es[k]?=some x→es'[k]?=some y→Cv x y):Cv (.usl s es) (.usl s es')
theorem Cv.isAgg {v v':V}(h:Cv v v'):au v=au v':=by cases h<;>rfl
theorem Cv.cells {v v':V}(h:Cv v v'):(cells v).length=(Go.Ln.cells v').length∧∀(k:Nat) x y,(Go.Ln.cells v)[k]?=some x→(Go.Ln.cells v')[k]?=some y→Cv x y:=by
 cases h with
 | refl=>exact⟨rfl,fun k x y h1 h2=>by rw[h1] at h2;cases h2;exact .refl _⟩
 | nil s=>exact⟨rfl,fun k x y h1 h2=>by cases k<;>simp[Go.Ln.cells] at h1 h2;subst h1;subst h2;exact .nil s⟩
 | agg cs cs' hl h=>exact⟨hl,h⟩
 | usl s es es' hl h=>exact⟨rfl,fun k x y h1 h2=>by cases k<;>simp[Go.Ln.cells] at h1 h2;subst h1;subst h2;exact .usl s es es' hl h⟩
theorem Cv.rep2 {v v':V}(h:Cv v v'):(∀{L:dj} {u:Value},RepV w ρ rt (some L) v u→RepV w ρ rt (some L) v' u)∧∀(k:Nat) x y,(Go.Ln.cells v)[k]?=some x→(Go.Ln.cells v')[k]?=some y→∀{L:dj} {u:Value},RepV w ρ rt (some L) x u→RepV w ρ rt (some L) y u:=by
 induction h with
 | refl=>exact⟨fun h=>h,fun k x y h1 h2 L u h=>by rw[h1] at h2;cases h2;exact h⟩
 | nil s=>
  have key:∀{L:dj} {u:Value},RepV w ρ rt (some L) (.isl true []) u→RepV w ρ rt (some L) (.usl s []) u:=by
   intro L u h
   cases h with
   | isl0 _ _ A c hn=>
    obtain⟨rfl,rfl⟩:=hn rfl
    exact .usl0 _ _ _
  exact⟨key,fun k x y h1 h2 L u h=>by cases k<;>simp[Go.Ln.cells] at h1 h2;subst h1;subst h2;exact key h⟩
 | agg cs cs' hl hc ih=>exact⟨(fun h=>by cases h),fun k x y h1 h2=>(ih k x y h1 h2).1⟩
 | usl s es es' hl hc ih=>
  have key:∀{L:dj} {u:Value},RepV w ρ rt (some L) (.usl s es) u→RepV w ρ rt (some L) (.usl s es') u:=by
   intro L u h
   cases h with
   | usl0 _ _ A=>
    have:es'=[]:=by cases es'<;>simp_all
    subst this
    exact .usl0 _ _ _
   | usl _ _ _ b A c arr T g h1 h2 h3 h4 h5 h6 h7 h8=>
    have back:∀{i:Nat} {e':V},es'[i]?=some e'→∃e,es[i]?=some e∧Cv e e':=by
     intro i e' he
     have hi:i<es.length:=by rw[hl];exact (cB.1 he).1
     exact⟨es[i],dS hi,hc i _ _ (dS hi) he⟩
    have backc:∀{i:Nat} {e':V} {k:Nat} {y:V},es'[i]?=some e'→(Go.Ln.cells e')[k]?=some y→∃e x,es[i]?=some e∧(Go.Ln.cells e)[k]?=some x∧∀{L:dj} {u:Value},RepV w ρ rt (some L) x u→RepV w ρ rt (some L) y u:=by
     intro i e' k y he hy
     obtain⟨e,he2,hcv⟩:=back he
     have hk:k<(Go.Ln.cells e).length:=by rw[hcv.cells.1];exact (cB.1 hy).1
     exact⟨e,(Go.Ln.cells e)[k],he2,dS hk,(ih i e e' he2 he).2 k _ _ (dS hk) hy⟩
    rw[hl]
    refine .usl _ s es' b A c arr T g h1 h2 (by omega) h4 h5 (fun i e' he=>?_) (fun i e' k y he hy=>?_) (fun i e' k y he hy=>?_)
    ·obtain⟨e,he2,hcv⟩:=back he
     rw[←hcv.cells.1]
     exact h6 i e he2
    ·obtain⟨e,x,he2,hx,_⟩:=backc he hy
     exact h7 i e k x he2 hx
    ·obtain⟨e,x,he2,hx,hcv⟩:=backc he hy
     exact hcv (h8 i e k x he2 hx)
  exact⟨key,fun k x y h1 h2 L u h=>by cases k<;>simp[Go.Ln.cells] at h1 h2;subst h1;subst h2;exact key h⟩
def uk (es es':List V):Prop:=es.length=es'.length∧∀(i:Nat) x y,es[i]?=some x→es'[i]?=some y→Cv x y
theorem uk.row {L:dj}{s:Nat}{es es':List V}(h:uk es es')(hr:co w ρ rt L s es):co w ρ rt L s es':=by
 obtain⟨hl,hc⟩:=h
 rcases hr with rfl | ⟨b,arr,T,g,h1,h2,h3,h4,h5⟩
 ·left
  cases es'<;>simp_all
 ·have back:∀{i:Nat} {e':V},es'[i]?=some e'→∃e,es[i]?=some e∧Cv e e':=by
   intro i e' he
   have hi:i<es.length:=by rw[hl];exact (cB.1 he).1
   exact⟨es[i],dS hi,hc i _ _ (dS hi) he⟩
  refine .inr ⟨b,arr,T,g,h1,h2,fun i e' he=>?_,fun i e' k y he hy=>?_,fun i e' k y he hy=>?_⟩
  ·obtain⟨e,he2,hcv⟩:=back he
   rw[←hcv.cells.1]
   exact h3 i e he2
  ·obtain⟨e,he2,hcv⟩:=back he
   have hk:k<(cells e).length:=by rw[hcv.cells.1];exact (cB.1 hy).1
   exact h4 i e k _ he2 (dS hk)
  ·obtain⟨e,he2,hcv⟩:=back he
   have hk:k<(cells e).length:=by rw[hcv.cells.1];exact (cB.1 hy).1
   exact hcv.rep2.2 k _ y (dS hk) hy (h5 i e k _ he2 (dS hk))
theorem Cv.nh {v v':V}(h:Cv v v'):Go.Ln.nh v→Go.Ln.nh v':=by
 induction h with
 | refl=>exact id
 | nil s=>intro _;simp[Go.Ln.nh,nhs]
 | agg cs cs' hl hc ih=>
  intro hn
  simp only[Go.Ln.nh,dw] at hn ⊢
  intro y hy
  obtain⟨k,hk,rfl⟩:=List.mem_iff_getElem.1 hy
  exact ih k _ _ (dS (by omega)) (dS hk) (hn _ (List.getElem_mem (by omega)))
 | usl s es es' hl hc ih=>
  intro hn
  simp only[Go.Ln.nh,dw] at hn ⊢
  intro y hy
  obtain⟨k,hk,rfl⟩:=List.mem_iff_getElem.1 hy
  exact ih k _ _ (dS (by omega)) (dS hk) (hn _ (List.getElem_mem (by omega)))
theorem uk.nhs {es es':List V}(h:uk es es')(hn:nhs es):Go.Ln.nhs es':=by
 rw[dw] at hn ⊢
 intro y hy
 obtain⟨k,hk,rfl⟩:=List.mem_iff_getElem.1 hy
 have h1:=h.1
 exact (h.2 k _ _ (dS (by omega)) (dS hk)).nh (hn _ (List.getElem_mem (by omega)))
theorem fX.row {o : Nat}{r : Root}{es' : List V}(hr : st.rt o=some r)(hc : uk r.es es')(R : fX G m w0 ρ0 w ρ st a) : fX G m w0 ρ0 w ρ { st with rt:=upd st.rt o (some ⟨r.nv + 1,r.s,es'⟩) } a:=by
  have K : Keep (cg (em st.nx) st.rt) w ρ st.rt w ρ (upd st.rt o (some ⟨r.nv + 1,r.s,es'⟩)):=by
    refine ⟨fun b hb _=>⟨hb,rfl⟩,fun o' nv p hN hl=>⟨?_,fun b n h1 h2=>⟨h1,h2⟩⟩,fun b l h=>⟨h,rfl⟩⟩
    by_cases e : o'=o
    · subst e
      have hnv : ¬ r.nv < nv:=fun h=>hN (.inr ⟨r,hr,h⟩)
      have hp : p=[]:=by
        simp only [cz,ch,bZ,upd,if_true] at hl
        split at hl
        · rename_i hc
          simp only [Bool.or_eq_true,List.isEmpty_iff,beq_iff_eq] at hc
          rcases hc with h | h
          · exact h
          · omega
        · simp at hl
      subst hp
      simp [cz,ch,bZ,hr,aU]
    · simpa [cz,ch,bZ,upd,e] using hl
  have hiff : ∀ o',(upd st.rt o (some ⟨r.nv + 1,r.s,es'⟩)) o'=none ↔ st.rt o'=none:=by
    intro o'
    by_cases e : o'=o
    · subst e; simp [upd,hr]
    · simp [upd,e]
  have hmono : ∀ o' nv,cg (em st.nx) (upd st.rt o (some ⟨r.nv + 1,r.s,es'⟩)) o' nv→cg (em st.nx) st.rt o' nv:=by
    intro o' nv h
    rcases h with h | ⟨r',h1,h2⟩
    · exact .inl h
    · by_cases e : o'=o
      · subst e
        simp [upd] at h1
        subst h1
        exact .inr ⟨r,hr,by simp at h2; omega⟩
      · exact .inr ⟨r',by simpa [upd,e] using h1,h2⟩
  exact
    { tm:=⟨R.tm.1,fun i v u hv hu=>(R.tm.2 i v u hv hu).keep K (R.tmn i v hv)⟩
      rok:=fun o' r' hr'=>by
        by_cases e : o'=o
        · subst e
          simp [upd] at hr'
          subst hr'
          exact hc.row (co.under K (fun b l hb _=>⟨hb,rfl⟩) (R.rok o' r hr) (R.rtn o' r hr))
        · have hr2 : st.rt o'=some r':=by simpa [upd,e] using hr'
          exact co.under K (fun b l hb _=>⟨hb,rfl⟩) (R.rok o' r' hr2) (R.rtn o' r' hr2)
      inj:=R.inj
      rtn:=fun o' r' hr'=>by
        by_cases e : o'=o
        · subst e
          simp [upd] at hr'
          subst hr'
          exact hc.nhs (R.rtn o' r hr)
        · exact R.rtn o' r' (by simpa [upd,e] using hr')
      lab := ⟨fun b o' l h => ⟨(R.lab.l b o' l h).1, by
          rcases (R.lab.l b o' l h).2 with h1 | ⟨r',h1⟩
          · exact .inl h1
          · right
            by_cases e : o'=o
            · subst e; exact ⟨⟨r.nv + 1,r.s,es'⟩,by simp [upd]⟩
            · exact ⟨r',by simp [upd,e,h1]⟩⟩,(hiff 0).2 R.lab.z,R.lab.f⟩
      fresh:=fun o' ho=>(hiff o').2 (R.fresh o' ho)
      up:=R.up
      tmn:=fun i v hv=>eo hmono (R.tmn i v hv)
      wk:=R.wk,fr:=R.fr,k0:=R.k0,f0:=R.f0,df:=R.df,gr:=R.gr
      am:=fun i b n h1 h2 h3 h4=>R.am i b n h1 h2 h3 (by
        cases e : st.rt i with
        | some _=>rfl
        | none=>(have h5 : (upd st.rt o (some ⟨r.nv + 1,r.s,es'⟩) i).isSome=true:=h4; rw [(hiff i).2 e] at h5; simp at h5))
      le:=R.le
      nl:=R.nl }
theorem Run.slot {E:Env}{Q:St→Prop}{k:List It}{t j s:Nat}{v:V}(hk:mK k=true)(ht:st.tm[t]?=some v)(hj:(cells v)[j]?=some (.isl true []))(r:Run E m Q k ⟨st.tm.set t (dA v j (.hs st.nx 0 [] s 0 0)),upd st.rt st.nx (some ⟨0,s,[]⟩),st.nx+ci⟩):Run E m Q k st:=
 .split (fun x=>x=_) hk (fun R=>⟨_,_,rfl,fX.slot ht hj R⟩) fun _ h=>h▸r
theorem Run.row {E:Env}{Q:St→Prop}{k:List It}{o:Nat}{r:Root}{es':List V}(hk:mK k=true)(hr:st.rt o=some r)(hc:uk r.es es')(rr:Run E m Q k { st with rt:=upd st.rt o (some ⟨r.nv+1,r.s,es'⟩) }):Run E m Q k st:=
 .split (fun x=>x=_) hk (fun R=>⟨_,_,rfl,fX.row hr hc R⟩) fun _ h=>h▸rr
end
section
theorem fq.weaken {P:Program}{G:Ground}{f:FuncId}{own:List Bool}{F F':List V→Option (V×List V)}(h:fq P G f ⟨own,F⟩)(hF:∀vs x,F' vs=some x→F vs=some x):fq P G f ⟨own,F'⟩:=
 fun w ρ vs us r cO h1 h2 h3 h4=>h w ρ vs us r cO h1 h2 h3 (hF vs _ h4)
theorem fq.levels {P:Program}{G:Ground}{f:FuncId}{own:List Bool}{F:Nat→List V→Option (V×List V)}{F':List V→Option (V×List V)}(h:∀n,fq P G f ⟨own,F n⟩)(hF:∀vs x,F' vs=some x→∃n,F n vs=some x):fq P G f ⟨own,F'⟩:=
 fun w ρ vs us r cO h1 h2 h3 h4=>let ⟨n,h5⟩:=hF vs _ h4;h n w ρ vs us r cO h1 h2 h3 h5
end
section
def S3 (P:Program)(t:TypeId):Option TI:=
 match P.info? t with
 | some i=>match P.underlying t,i.zero with
  | some d,some z=>some ⟨d,i.size,i.bytes,z⟩
  | _,_=>none
 | none=>none
def I2:List (FuncId×Ent)→FuncId→Option Ent
 | [],_=>none
 | (g,e)::l,f=>bif Nat.beq g f then some e else I2 l f
def P7 (P:Program)(fs:List (FuncId×Ent))(eqs:List TypeId:=[]):Env:=⟨S3 P,I2 fs,eqs⟩
theorem Pz {P:Program}{fs:List (FuncId×Ent)}{eqs:List TypeId}(hq:∀t∈eqs,P.stoodInHeld t=false):Agree P (P7 P fs eqs):=by
 have key:∀t ti,S3 P t=some ti→∃i,P.info? t=some i∧i.size=ti.size∧i.bytes=ti.bytes∧i.zero=some ti.zv∧P.underlying t=some ti.desc:=by
  intro t ti h
  unfold S3 at h
  split at h
  ·rename_i i hi
   split at h
   ·rename_i d z hd hz
    cases h
    exact⟨i,hi,rfl,rfl,hz,hd⟩
   ·cases h
  ·cases h
 refine⟨fun t ti h=>?_,fun t ti h=>?_,fun t h=>hq t (by simpa[P7] using h)⟩
 ·obtain⟨i,h1,h2,h3,h4,_⟩:=key t ti h
  exact⟨i,h1,h2,h3,h4⟩
 ·obtain⟨i,_,_,_,_,h5⟩:=key t ti h
  exact h5
theorem Sc {P:Program}{fs:List (FuncId×Ent)}:Agree P (P7 P fs):=Pz (by simp)
theorem FJ {P:Program}{G:Ground}:∀{fs:List (FuncId×Ent)},(∀p∈fs,fq P G p.1 p.2)→∀f e,I2 fs f=some e→fq P G f e
 | [],_,f,e,h=>by simp[I2] at h
 | (g,x)::l,hg,f,e,h=>by
  simp only[I2,cond_eq_ite] at h
  split at h
  ·rename_i hb
   have:g=f:=Nat.eq_of_beq_eq_true hb
   subst this
   cases h
   exact hg (g,x) (by simp)
  ·exact FJ (fun p hp=>hg p (List.mem_cons_of_mem _ hp)) f e h
def lk (d:V):List (Nat×V)→Nat→V
 | [],_=>d
 | (k,v)::l,t=>bif Nat.beq k t then v else lk d l t
def aC (d:V)(n:Nat)(l:List (Nat×V)):List V:=(List.range n).map (lk d l)
def gH (dst:Option Nat)(v:V)(l:List (Nat×V)):List (Nat×V):=
 match dst with
 | some t=>(t,v)::l
 | none=>l
def gW (d:V)(n:Nat)(l:List (Nat×V)):Operand→Option V
 | .tmp t=>bif Nat.ble (t+1) n then some (lk d l t) else none
 | .const v=>gc v
 | .func f=>some (.fn f [])
 | .global _=>none
def vR (d:V)(n:Nat)(l:List (Nat×V)):List Operand→Option (List V)
 | []=>some []
 | x::xs=>match gW d n l x,vR d n l xs with
  | some v,some vs=>some (v::vs)
  | _,_=>none
theorem iQ {d:V}{n:Nat}{l:List (Nat×V)}{t:Nat}:(aC d n l)[t]?=if t<n then some (lk d l t) else none:=by
 unfold aC
 rw[List.getElem?_map]
 split
 ·rename_i h;rw[List.getElem?_range h];rfl
 ·rename_i h;rw[List.getElem?_eq_none (by simpa using h)];rfl
theorem mI {d:V}{k:Nat}{v:V}{l:List (Nat×V)}{t:Nat}:lk d ((k,v)::l) t=if k=t then v else lk d l t:=by
 simp only[lk,cond_eq_ite]
 by_cases h:k=t
 ·subst h;simp
 ·have:Nat.beq k t=false:=by
   cases hb:Nat.beq k t with
   | false=>rfl
   | true=>exact absurd (Nat.eq_of_beq_eq_true hb) h
  simp[this,h]
theorem gQ {d:V}{n:Nat}{l:List (Nat×V)}{dst:Option Nat}{v:V}:kc (aC d n l) dst v=aC d n (gH dst v l):=by
 cases dst with
 | none=>rfl
 | some t=>
  apply List.ext_getElem?
  intro i
  simp only[kc,gH]
  by_cases h:t=i
  ·subst h
   by_cases hn:t<n
   ·rw[List.getElem?_set_self (by simpa[aC] using hn),iQ,if_pos hn,mI,if_pos rfl]
   ·rw[List.getElem?_eq_none (by simpa[aC] using hn),iQ,if_neg hn]
  ·rw[List.getElem?_set_ne h,iQ,iQ,mI,if_neg h]
theorem gi {d:V}{n:Nat}{l:List (Nat×V)}{rt:al}{nx:Nat}{x:Operand}:ev ⟨aC d n l,rt,nx⟩ x=gW d n l x:=by
 cases x with
 | tmp t=>
  simp only[ev,gW,iQ,cond_eq_ite,Nat.ble_eq]
  rfl
 | _=>rfl
theorem wM {d:V}{n:Nat}{l:List (Nat×V)}{rt:al}{nx:Nat}:∀{xs:List Operand},gC ⟨aC d n l,rt,nx⟩ xs=vR d n l xs
 | []=>rfl
 | x::xs=>by
  simp only[gC,vR,gi,wM]
  cases gW d n l x<;>cases vR d n l xs<;>rfl
def cL:Code→Code
 | .seq a _=>a
 | .cond _ a _=>a
 | .block _ b=>b
 | .loop b=>b
 | _=>.skip
def cR:Code→Code
 | .seq _ b=>b
 | .cond _ _ b=>b
 | _=>.skip
def cK:Code→Nat
 | .skip=>0
 | .region _ _ false=>1
 | .seq _ _=>2
 | .cond _ _ _=>3
 | .block _ _=>4
 | .loop _=>5
 | .exit _=>6
 | .ret=>7
 | .region _ _ true=>8
 | _=>9
def Wx:Code→Array Oper
 | .region _ o _=>o
 | _=>#[]
def DG:Code→Operand
 | .cond x _ _=>x
 | _=>.const undef
def aJ (fn:Func):Code:=fn.body.getD .skip
section
variable {E : Env} {m : Nat} {Q : St→Prop} {c : Code} {k k' : List It} {st : St}
theorem Qm {b:Bool}(h:cK c=3)(hv:ev st (DG c)=some (.bool b))(h1:b=true→Run E m Q (.code (cL c)::k) st)(h2:b=false→Run E m Q (.code (cR c)::k) st):Run E m Q (.code c::k) st:=by
 cases c with
 | cond x a b'=>
  simp only[DG] at hv
  cases b with
  | true=>exact .step (by simp[iX,hv,cL]) (h1 rfl)
  | false=>exact .step (by simp[iX,hv,cR]) (h2 rfl)
 | region _ _ b=>cases b<;>cases h
 | _=>cases h
theorem b7 (h:cK c=5)(r:Run E m Q (.code (cL c)::.lp (cL c)::k) st):Run E m Q (.code c::k) st:=by
 cases c with
 | loop b=>exact .step rfl r
 | region _ _ b=>cases b<;>cases h
 | _=>cases h
theorem bX (h:cK c=7)(hq:Q st):Run E m Q (.code c::k) st:=by
 cases c with
 | ret=>exact .step rfl (.done hq)
 | region _ _ b=>cases b<;>cases h
 | _=>cases h
theorem fp (ms:List Nat)(h:cK c=8)(hs:jN (Wx c) ms=true)(r:Run E m Q (.dops (Wx c) ms 0 []::k) st):Run E m Q (.code c::k) st:=by
 cases c with
 | region _ _ b=>cases b with
  | true=>exact .draw ms hs r
  | false=>cases h
 | _=>cases h
theorem dF (r:Run E m Q (.code c::.lp c::k) st):Run E m Q (.lp c::k) st:=.step rfl r
end
def tV (ops:Array Oper)(i:Nat):Option (Option Nat×Op):=
 match ops[i]? with
 | some ⟨d,o,_,_,_,none⟩=>some (d,o)
 | _=>none
def lV (ops:Array Oper)(i:Nat):Option (Option Nat×Op×Option Nat×Bool):=
 match ops[i]? with
 | some ⟨d,o,_,_,_,some (j,w)⟩=>some (d,o,(ops[j]?).bind (·.dst),w)
 | _=>none
theorem FX {ops:Array Oper}{i:Nat}{d:Option Nat}{o:Op}(h:tV ops i=some (d,o)):∃x,ops[i]?=some x∧x.dst=d∧x.op=o∧x.guard=none:=by
 unfold tV at h
 split at h
 ·rename_i d' o' a b c hx
  cases h
  exact⟨_,hx,rfl,rfl,rfl⟩
 ·cases h
theorem pE {ops:Array Oper}{i:Nat}{d g:Option Nat}{o:Op}{w:Bool}(h:lV ops i=some (d,o,g,w)):∃x j,ops[i]?=some x∧x.dst=d∧x.op=o∧x.guard=some (j,w)∧(ops[j]?).bind (·.dst)=g:=by
 unfold lV at h
 split at h
 ·rename_i d' o' a b c j w' hx
  cases h
  exact⟨_,j,hx,rfl,rfl,rfl,rfl⟩
 ·cases h
def gd (v:V)(w:Bool):Option Bool:=
 match v with
 | .bool b=>some (b==w)
 | .und=>some false
 | _=>none
section
variable {E : Env} {m : Nat} {Q : St→Prop} {ops : Array Oper} {i : Nat} {is : List Nat} {k : List It} {d : V} {n : Nat} {l : List (Nat × V)} {rt rt' : al} {nx : Nat} {dst : Option Nat} {op : Op} {v : V}
theorem Ge {x:Oper}(h:x.guard=none){st:St}:gO ops st x=some true:=by simp[gO,h]
theorem rd {x:Oper}{j t:Nat}{w b:Bool}(h:x.guard=some (j,w))(hj:(ops[j]?).bind (·.dst)=some t)(hn:t<n)(hb:gd (lk d l t) w=some b):gO ops ⟨aC d n l,rt,nx⟩ x=some b:=by
 simp only[gO,h,qE,hj,b6,iQ,if_pos hn]
 unfold gd at hb
 split at hb
 ·rename_i b' hv
  rw[hv]
  cases hb
  cases b'<;>cases w<;>rfl
 ·rename_i hv
  rw[hv]
  cases hb
  cases w<;>rfl
 ·cases hb
theorem WR (ho:tV ops i=some (dst,op))(hv:bc E nx ⟨aC d n l,rt,nx⟩ op=some (v,rt'))(r:Run E m Q (.ops ops is::k) ⟨aC d n (gH dst v l),rt',nx+16⟩):Run E m Q (.ops ops (i::is)::k) ⟨aC d n l,rt,nx⟩:=by
 obtain⟨x,h1,h2,h3,h4⟩:=FX ho
 refine .step (st':=⟨aC d n (gH dst v l),rt',nx+16⟩) ?_ r
 subst h2 h3
 simp[iX,fi,h1,Ge h4,hv,gQ,ci]
theorem XJ {t:Nat}{w:Bool}(ho:lV ops i=some (dst,op,some t,w))(hn:Nat.ble (t+1) n=true)(hg:gd (lk d l t) w=some true)(hv:bc E nx ⟨aC d n l,rt,nx⟩ op=some (v,rt'))(r:Run E m Q (.ops ops is::k) ⟨aC d n (gH dst v l),rt',nx+16⟩):Run E m Q (.ops ops (i::is)::k) ⟨aC d n l,rt,nx⟩:=by
 obtain⟨x,j,h1,h2,h3,h4,h5⟩:=pE ho
 refine .step (st':=⟨aC d n (gH dst v l),rt',nx+16⟩) ?_ r
 subst h2 h3
 simp[iX,fi,h1,rd (rt:=rt) (nx:=nx) h4 h5 (Nat.le_of_ble_eq_true hn) hg,hv,gQ,ci]
theorem WS {t:Nat}{w:Bool}(ho:lV ops i=some (dst,op,some t,w))(hn:Nat.ble (t+1) n=true)(hg:gd (lk d l t) w=some false)(r:Run E m Q (.ops ops is::k) ⟨aC d n (gH dst .und l),rt,nx+16⟩):Run E m Q (.ops ops (i::is)::k) ⟨aC d n l,rt,nx⟩:=by
 obtain⟨x,j,h1,h2,h3,h4,h5⟩:=pE ho
 refine .step (st':=⟨aC d n (gH dst .und l),rt,nx+16⟩) ?_ r
 subst h2 h3
 simp[iX,fi,h1,rd (rt:=rt) (nx:=nx) h4 h5 (Nat.le_of_ble_eq_true hn) hg,gQ,ci]
variable {ms R W : List Nat} {log : mD}
theorem XW (ho:tV ops i=some (dst,op))(hv:bc E (nx+16*i) ⟨aC d n l,rt,nx⟩ op=some (v,rt'))(hR:fY ⟨aC d n l,rt,nx⟩ op=R)(hW:io E ⟨aC d n l,rt,nx⟩ op=W)(hc:qV nx ms i R W log=true)(r:Run E m Q (.dops ops ms (i+1) ((i,R,W)::log)::k) ⟨aC d n (gH dst v l),rt',nx⟩):Run E m Q (.dops ops ms i log::k) ⟨aC d n l,rt,nx⟩:=by
 obtain⟨x,h1,h2,h3,h4⟩:=FX ho
 refine .dop (log':=(i,R,W)::log) (st':=⟨aC d n (gH dst v l),rt',nx⟩) ?_ r
 subst h2 h3 hR hW
 simp[ng,fi,h1,Ge h4,hv,gQ,ci,hc]
theorem Xy {t:Nat}{w:Bool}(ho:lV ops i=some (dst,op,some t,w))(hn:Nat.ble (t+1) n=true)(hg:gd (lk d l t) w=some true)(hv:bc E (nx+16*i) ⟨aC d n l,rt,nx⟩ op=some (v,rt'))(hR:fY ⟨aC d n l,rt,nx⟩ op=R)(hW:io E ⟨aC d n l,rt,nx⟩ op=W)(hc:qV nx ms i R W log=true)(r:Run E m Q (.dops ops ms (i+1) ((i,R,W)::log)::k) ⟨aC d n (gH dst v l),rt',nx⟩):Run E m Q (.dops ops ms i log::k) ⟨aC d n l,rt,nx⟩:=by
 obtain⟨x,j,h1,h2,h3,h4,h5⟩:=pE ho
 refine .dop (log':=(i,R,W)::log) (st':=⟨aC d n (gH dst v l),rt',nx⟩) ?_ r
 subst h2 h3 hR hW
 simp[ng,fi,h1,rd (rt:=rt) (nx:=nx) h4 h5 (Nat.le_of_ble_eq_true hn) hg,hv,gQ,ci,hc]
theorem Wy {t:Nat}{w:Bool}(ho:lV ops i=some (dst,op,some t,w))(hn:Nat.ble (t+1) n=true)(hg:gd (lk d l t) w=some false)(hc:qV nx ms i [] [] log=true)(r:Run E m Q (.dops ops ms (i+1) ((i,[],[])::log)::k) ⟨aC d n (gH dst .und l),rt,nx⟩):Run E m Q (.dops ops ms i log::k) ⟨aC d n l,rt,nx⟩:=by
 obtain⟨x,j,h1,h2,h3,h4,h5⟩:=pE ho
 refine .dop (log':=(i,[],[])::log) (st':=⟨aC d n (gH dst .und l),rt,nx⟩) ?_ r
 subst h2 h3
 simp[ng,fi,h1,rd (rt:=rt) (nx:=nx) h4 h5 (Nat.le_of_ble_eq_true hn) hg,gQ,ci,hc]
theorem Xx (h:Nat.ble ops.size i=true)(r:Run E m Q k ⟨aC d n l,rt,nx+16*ops.size⟩):Run E m Q (.dops ops ms i log::k) ⟨aC d n l,rt,nx⟩:=.dend (Nat.le_of_ble_eq_true h) r
theorem U6 {b:Bool}(t:Nat)(ht:lk d l t=.bool b){todo:List It}(h1:b=true→Run E m Q todo ⟨aC d n ((t,.bool true)::l),rt,nx⟩)(h2:b=false→Run E m Q todo ⟨aC d n ((t,.bool false)::l),rt,nx⟩):Run E m Q todo ⟨aC d n l,rt,nx⟩:=by
 have e:∀x,lk d l t=x→aC d n ((t,x)::l)=aC d n l:=by
  rintro x rfl
  apply List.ext_getElem?
  intro j
  rw[iQ,iQ,mI]
  split
  ·split
   ·rename_i h;rw[h]
   ·rfl
  ·rfl
 cases b with
 | true=>rw[←e _ ht];exact h1 rfl
 | false=>rw[←e _ ht];exact h2 rfl
end
end
section
def str (s:List UInt8):V:=.str ⟨s.toArray⟩
theorem Fd {s:List UInt8}:(ByteArray.mk s.toArray).size=s.length:=by simp[ByteArray.size]
section
variable {E : Env} {d : V} {n : Nat} {l : List (Nat × V)} {rt rt' : al} {id : Nat} {a b v z pv xv : V} {x y p c : Operand} {t t' : TypeId}
theorem wK {nx:Nat}{op:BinOp}(hx:gW d n l x=some a)(hy:gW d n l y=some b)(h:pg E op t a b (oE x||oE y)=some v):bc E id ⟨aC d n l,rt,nx⟩ (.binOp op t x y t')=some (v,rt):=by simp[bc,gi,hx,hy,h]
theorem WA {nx:Nat}(hx:gW d n l x=some a)(h:oz E rt t t' a=some v):bc E id ⟨aC d n l,rt,nx⟩ (.convert t t' x)=some (v,rt):=by simp[bc,gi,hx,h]
theorem Xz {nx:Nat}(hx:gW d n l x=some a)(h:fO rt a=some (v,rt')):bc E id ⟨aC d n l,rt,nx⟩ (.box t x)=some (.hp id 0 [] (cells v).length 0 0,upd rt' id (some ⟨0,(cells v).length,[v]⟩)):=by simp[bc,gi,hx,h]
theorem WB {nx:Nat}{ti:TI}{cs:List V}(hp:gW d n l p=some pv)(ht:E.ty t=some ti)(hc:jA rt pv=some cs)(hs:0<ti.size∧ti.size≤cs.length)(h:jC (et ti.desc) (cs.take ti.size)=some v):bc E id ⟨aC d n l,rt,nx⟩ (.load t p)=some (v,rt):=by
 simp only[bc,gi,hp,ht,hc,b6]
 rw[if_pos hs,h];rfl
theorem UI {nx:Nat}(hp:gW d n l p=some pv)(hx:gW d n l x=some xv)(h:nE E rt t pv xv=some rt'):bc E id ⟨aC d n l,rt,nx⟩ (.store t p x)=some (.und,rt'):=by simp[bc,gi,hp,hx,h]
def XQ (rt:al)(fl:Nat×Nat×Bool):V→Option V
 | .iptr e k=>if 0<fl.2.1∧k+fl.1<(cells e).length then some (.iptr e (k+fl.1)) else none
 | .hp o nv p sz i k=>if 0<fl.2.1∧k+fl.1<sz∧(ch rt o nv p).isSome then some (.hp o nv p sz i (k+fl.1)) else none
 | _=>none
theorem dQ {nx:Nat}{f:Nat}{fl:Nat×Nat×Bool}(hx:gW d n l x=some xv)(hf:fieldAt? E t f=some fl)(h:XQ rt fl xv=some v):bc E id ⟨aC d n l,rt,nx⟩ (.fieldAddr t x f)=some (v,rt):=by
 simp only[bc,gi,hx,hf,b6]
 unfold XQ at h
 split at h
 ·split at h<;>cases h
  rename_i hc
  simp only;rw[if_pos hc]
 ·split at h<;>cases h
  rename_i hc
  simp only;rw[if_pos hc]
 ·cases h
theorem an {nx:Nat}{k:IntKind}{i:Int}(hx:gW d n l x=some xv)(hi:gW d n l y=some (.int k i))(ha:lm rt xv=true)(h:gK E t xv i=some v):bc E id ⟨aC d n l,rt,nx⟩ (.indexAddr t x y)=some (v,rt):=by
 simp only[bc,gi,hx,hi,b6]
 rw[if_pos ha,h];rfl
theorem mF {nx:Nat}{k:IntKind}{i:Int}(hx:gW d n l x=some xv)(hi:gW d n l y=some (.int k i))(h:Ja E t xv i=some v):bc E id ⟨aC d n l,rt,nx⟩ (.index t x y)=some (v,rt):=by simp[bc,gi,hx,hi,h]
def TD (d:V)(n:Nat)(l:List (Nat×V)):Option Operand→Option (Option V)
 | some x=>(gW d n l x).map some
 | none=>some none
theorem Wv {nx:Nat}{x:Option Operand}:nk ⟨aC d n l,rt,nx⟩ x=TD d n l x:=by
 cases x with
 | none=>rfl
 | some x=>simp[nk,TD,gi]
theorem hY {nx:Nat}{lo hi:Option Operand}{lv hv:Option V}(hx:gW d n l x=some xv)(h1:TD d n l lo=some lv)(h2:TD d n l hi=some hv)(ha:lm rt xv=true)(h:iK E rt t xv lv hv=some v):bc E id ⟨aC d n l,rt,nx⟩ (.slice t x lo hi none)=some (v,rt):=by
 simp only[bc,gi,hx,Wv,h1,h2,b6]
 rw[if_pos ha,h];rfl
theorem bG {nx:Nat}{ts:Array TypeId}(hx:gW d n l x=some xv)(ht:ts[0]?=some t)(ha:lm rt xv=true)(h:ru (E.desc t) xv=some v):bc E id ⟨aC d n l,rt,nx⟩ (.call { callee:=.builtin .len,args:=#[x],argTypes:=ts })=some (v,rt):=by
 simp only[bc,kP,gC,gi,hx,b6,Option.map_some,eB]
 rw[if_pos ha,ht];simp[h]
theorem fQ {nx:Nat}{ts:Array TypeId}(hx:gW d n l x=some a)(hy:gW d n l y=some b)(ht:ts[0]?=some t)(ht1:ts[1]?=some t')(hs:fD (E.desc t')=true)(h:jR E rt id t a b=some (v,rt')):bc E id ⟨aC d n l,rt,nx⟩ (.call { callee:=.builtin .append,args:=#[x,y],argTypes:=ts })=some (v,rt'):=by
 simp only[bc,kP,gC,gi,hx,hy,b6,Option.map_some,eB,ht,ht1]
 rw[if_pos hs,h]
def Qh (d:V)(n:Nat)(l:List (Nat×V)):List (Nat×Operand)→Option (List (Nat×V))
 | []=>some []
 | (i,x)::xs=>match gW d n l x,Qh d n l xs with
  | some v,some vs=>some ((i,v)::vs)
  | _,_=>none
theorem Qi {nx:Nat}:∀{xs:List (Nat×Operand)},fg ⟨aC d n l,rt,nx⟩ xs=Qh d n l xs
 | []=>rfl
 | (i,x)::xs=>by
  simp only[fg,Qh,gi,Qi]
  cases gW d n l x<;>cases Qh d n l xs<;>rfl
def Ww (E:Env)(rt:al)(id:Nat)(t:TypeId)(n:Nat)(ps:List (Nat×V)):Option (V×al):=
 match E.ty t with
  | some { desc:=.slice e,.. }=>(E.ty e).bind fun ei=>(gc ei.zv).bind fun z=>
   if n*ei.size≤16777216∧0<ei.size∧(cells z).length=ei.size∧au z=et ei.desc then
    (jo ei.size (et ei.desc) (List.replicate n z) ps).bind fun es=>(dH rt es).map fun y=>(.hs id 0 [] ei.size 0 n,upd y.2 id (some ⟨0,ei.size,y.1⟩))
   else none
  | _=>none
theorem bV {nx k:Nat}{ps:Array (Nat×Operand)}{pvs:List (Nat×V)}{r:V×al}(hx:Qh d n l ps.toList=some pvs)(h:Ww E rt id t k pvs=some r):bc E id ⟨aC d n l,rt,nx⟩ (.buildSlice t k ps)=some r:=by
 simp only[bc,Qi,hx,b6]
 exact h
def Lr (E:Env)(rt:al)(id:Nat)(t:TypeId)(l c:Int):Option (V×al):=
 match E.ty t with
  | some { desc:=.slice e,.. }=>(E.ty e).bind fun ei=>(gc ei.zv).bind fun z=>
   if 0≤l∧l≤c∧c*ei.bytes≤lC∧c≤lC∧0<ei.size∧(cells z).length=ei.size∧au z=et ei.desc then
    some (.hs id 0 [] ei.size 0 l.toNat,upd rt id (some ⟨0,ei.size,List.replicate l.toNat z⟩)) else none
  | _=>none
theorem oC {nx:Nat}{k j:Int}{r:V×al}(hx:gW d n l x=some (.int .i64 k))(hy:gW d n l y=some (.int .i64 j))(h:Lr E rt id t k j=some r):bc E id ⟨aC d n l,rt,nx⟩ (.makeSlice t x y)=some r:=by
 simp only[bc,gi,hx,hy,b6]
 unfold Lr at h
 split at h
 ·rename_i e sz bt zv htt
  simp only[htt]
  exact h
 ·cases h
theorem aV {nx:Nat}{f:FuncId}{xs:Array Operand}{ts:Array TypeId}{caps args:List V}{fo:Operand}{r:V×al}(hf:gW d n l fo=some (.fn f caps))(hx:vR d n l xs.toList=some args)(h:lT E rt id f (args++caps)=some r) :
  bc E id ⟨aC d n l,rt,nx⟩ (.call { callee:=.value fo,args:=xs,argTypes:=ts })=some r:=by
 simp[bc,kP,gi,wM,hx,hf,h]
theorem IG {rt:al}{id:Nat}:d4 rt id []=rt:=by
 funext o
 unfold d4
 rw[if_neg (by simp)]
end
end
section
abbrev I (x:Int):V:=.int .i64 x
abbrev B (b:Bool):V:=.bool b
def fm:List (Nat×Option Root)→Nat→Option Root
 | [],_=>none
 | (k,r)::l,o=>bif Nat.beq k o then r else fm l o
def bQ (l:List (Nat×Option Root)):al:=fm l
theorem kW {k:Nat}{r:Option Root}{l:List (Nat×Option Root)}{o:Nat}:fm ((k,r)::l) o=if k=o then r else fm l o:=by
 simp only[fm,cond_eq_ite]
 by_cases h:k=o
 ·subst h;simp
 ·have:Nat.beq k o=false:=by
   cases hb:Nat.beq k o with
   | false=>rfl
   | true=>exact absurd (Nat.eq_of_beq_eq_true hb) h
  simp[this,h]
theorem jO {l:List (Nat×Option Root)}{o:Nat}{r:Option Root}:upd (bQ l) o r=bQ ((o,r)::l):=by
 funext x
 simp only[upd,bQ,kW]
 by_cases h:x=o
 ·subst h;simp
 ·rw[if_neg h,if_neg (fun h'=>h h'.symm)]
def pG (id:Nat):List (Nat×Nat×Root)→List (Nat×Option Root)
 | []=>[]
 | (_,_,r)::R=>(id,some r)::pG (id+1) R
theorem rn {l:List (Nat×Option Root)}:∀{R:List (Nat×Nat×Root)} {id:Nat},d4 (bQ l) id R=bQ (pG id R++l)
 | [],id=>by rw[IG];rfl
 | (a,k,r)::R,id=>by
  have ih:=@rn l R (id+1)
  funext o
  have h:=congrFun ih o
  simp only[d4,List.length_cons] at h ⊢
  simp only[pG,List.cons_append,bQ,kW]
  by_cases ho:id=o
  ·subst ho
   simp
  ·rw[if_neg ho]
   simp only[bQ] at h
   rw[←h]
   by_cases hr:id+1≤o∧o<id+1+R.length
   ·rw[if_pos hr,if_pos (by omega),show o - id=(o - (id+1))+1 by omega,List.getElem?_cons_succ]
   ·rw[if_neg hr,if_neg (by omega)]
theorem wZ {tm tm':List V}{rt rt':al}{nx nx':Nat}(h1:tm=tm')(h2:rt=rt')(h3:nx=nx'):(⟨tm,rt,nx⟩:St)=⟨tm',rt',nx'⟩:=by rw[h1,h2,h3]
theorem Sn {fn:Func}{vs ys:List V}{R:List (Nat×Nat×Root)}(h:bF 1 0 vs=(ys,R)){n:Nat}{l:List (Nat×V)}(hn:ys++List.replicate (fn.ntmps - vs.length) .und=aC .und n l){nx:Nat}(hx:1+R.length=nx):(enter fn vs).2=⟨aC .und n l,bQ (pG 1 R),nx⟩:=by
 unfold enter
 rw[h]
 refine wZ hn ?_ hx
 have:=@rn [] R 1
 rw[List.append_nil] at this
 rw[←this]
 rfl
theorem sV {E:Env}{m:Nat}{Q:St→Prop}{k:List It}{st st':St}(h:st=st')(r:Run E m Q k st'):Run E m Q k st:=h▸r
def ro (n:Nat):Nat→List Nat→Bool
 | _,[]=>true
 | lo,x::xs=>Nat.ble lo x&&Nat.ble (x+1) n&&ro n (x+1) xs
theorem vY {L:List Nat}{f:Nat→V}:∀{n a:Nat},fI L a ((List.range' a n).map f)=(List.range' a n).map fun t=>if L.contains t then f t else .dead
 | 0,a=>rfl
 | n+1,a=>by
  simp only[List.range'_succ,List.map_cons,fI]
  rw[vY (n:=n) (a:=a+1)]
theorem pC {d:V}{n:Nat}{l:List (Nat×V)}:aC d n l=(List.range' 0 n).map (lk d l):=by
 unfold aC
 rw[List.range_eq_range']
theorem tJ {f:Nat→V}:∀{n a lo:Nat} {L:List Nat},lo≤a→ro (a+n) lo L=true→(∀x∈L,a≤x)→dT ((List.range' a n).map fun t=>if L.contains t then f t else .dead)=dT (L.map f)
 | 0,a,lo,L,hlo,h,hl=>by
  cases L with
  | nil=>rfl
  | cons x L=>
   simp only[ro,Bool.and_eq_true,Nat.ble_eq] at h
   have:=hl x (by simp)
   omega
 | n+1,a,lo,L,hlo,h,hl=>by
  simp only[List.range'_succ,List.map_cons,dT]
  cases L with
  | nil=>
   have ih:=@tJ f n (a+1) 0 [] (by omega) rfl (by simp)
   simp only[List.contains_nil,Bool.false_eq_true,if_false,dN,List.nil_append,List.map_nil,dT] at ih ⊢
   exact ih
  | cons x L=>
   simp only[ro,Bool.and_eq_true,Nat.ble_eq] at h
   obtain⟨⟨h1,h2⟩,h3⟩:=h
   have hax:=hl x (by simp)
   have asc_ge:∀{L:List Nat} {lo:Nat},ro (a+(n+1)) lo L=true→∀y∈L,lo≤y:=by
    intro L
    induction L with
    | nil=>intro lo _ y hy;cases hy
    | cons z L ih=>
     intro lo h y hy
     simp only[ro,Bool.and_eq_true,Nat.ble_eq] at h
     rcases List.mem_cons.1 hy with rfl | hy
     ·exact h.1.1
     ·have:=ih h.2 y hy;omega
   have hge:=asc_ge h3
   by_cases hx:a=x
   ·subst hx
    have e1:(a::L).contains a=true:=by simp
    rw[if_pos e1]
    simp only[List.map_cons,dT]
    congr 1
    have ih:=@tJ f n (a+1) (a+1) L (by omega) (by rw[show a+1+n=a+(n+1) by omega];exact h3) hge
    rw[←ih]
    congr 1
    apply List.map_congr_left
    intro t ht
    have hta:a+1≤t:=(List.mem_range'_1.1 ht).1
    have:(a::L).contains t=L.contains t:=by
     simp only[List.contains_cons]
     have:(t==a)=false:=by simp;omega
     rw[this,Bool.false_or]
    rw[this]
   ·have e1:¬(x::L).contains a=true:=by
     simp only[List.contains_eq_mem,decide_eq_true_eq,List.mem_cons,not_or]
     exact⟨hx,fun hm=>by have:=hge a hm;omega⟩
    rw[if_neg e1]
    simp only[dN,List.nil_append]
    exact @tJ f n (a+1) (a+1) (x::L) (Nat.le_refl _) (by
     simp only[ro,Bool.and_eq_true,Nat.ble_eq]
     rw[show a+1+n=a+(n+1) by omega]
     exact⟨⟨by omega,h2⟩,h3⟩) (fun y hy=>by
     rcases List.mem_cons.1 hy with rfl | hy
     ·omega
     ·have:=hge y hy;omega)
theorem MQ {d:V}{g:Nat→V}:∀{L:List Nat} {t:Nat},lk d (L.map fun t=>(t,g t)) t=if L.contains t then g t else d
 | [],t=>rfl
 | x::L,t=>by
  simp only[List.map_cons,mI,List.contains_cons]
  rw[MQ]
  by_cases h:x=t
  ·subst h;simp
  ·have:(t==x)=false:=by simp;exact fun h'=>h h'.symm
   rw[if_neg h,this,Bool.false_or]
def ur:List Root→Nat→List (Nat×Option Root)
 | [],_=>[]
 | r::rs,i=>(i,some ⟨0,r.s,r.es⟩)::ur rs (i+1)
theorem LB:∀{rs:List Root} {i o:Nat},fm (ur rs i) o=if i≤o then (rs[o - i]?).map fun r=>⟨0,r.s,r.es⟩ else none
 | [],i,o=>by simp[ur,fm]
 | r::rs,i,o=>by
  simp only[ur,kW]
  rw[LB]
  by_cases h:i=o
  ·subst h;simp
  ·rw[if_neg h]
   by_cases hle:i≤o
   ·rw[if_pos (by omega),if_pos hle,show o - i=(o - (i+1))+1 by omega,List.getElem?_cons_succ]
   ·rw[if_neg (by omega),if_neg hle]
theorem MZ {E:Env}{m:Nat}{Q:St→Prop}{k:List It}{d:V}{n:Nat}{l:List (Nat×V)}{rt:al}{nx:Nat}(L os:List Nat)(rs:List Root)(ha:ro n 0 L=true)(hos:nP (iu m) (dT (L.map (lk d l)))=os)(hrs:os.map rt=rs.map some)(hk:mK k=true)(r:Run E m Q k ⟨aC .dead n (L.map fun t=>(t,eM rt os (lk d l t))),bQ (ur rs 1),os.length+1⟩):Run E m Q k ⟨aC d n l,rt,nx⟩:=by
 refine .forget L hk (sV ?_ r)
 have hkeep:fI L 0 (aC d n l)=(List.range' 0 n).map fun t=>if L.contains t then lk d l t else .dead:=by rw[pC,vY]
 have hi:dT (fI L 0 (aC d n l))=dT (L.map (lk d l)):=by
  rw[hkeep]
  exact tJ (lo:=0) (Nat.le_refl _) (by rw[Nat.zero_add];exact ha) (fun _ _=>Nat.zero_le _)
 unfold nA
 simp only[hi,hos]
 refine wZ ?_ ?_ rfl
 ·rw[hkeep,fE,List.map_map,pC]
  apply List.map_congr_left
  intro t _
  simp only[Function.comp]
  rw[MQ]
  split
  ·rfl
  ·rfl
 ·funext o
  simp only[vV,bQ]
  rw[LB]
  by_cases h0:o=0
  ·subst h0;simp
  ·rw[if_neg h0,if_pos (by omega)]
   have h1:=congrArg (fun l:List (Option Root)=>l[o - 1]?) hrs
   simp only[List.getElem?_map] at h1 ⊢
   cases ho:os[o - 1]? with
   | none=>
    simp only[ho,Option.map_none] at h1
    cases hr:rs[o - 1]? with
    | none=>rfl
    | some r=>simp[hr] at h1
   | some x=>
    simp only[ho,Option.map_some] at h1
    cases hr:rs[o - 1]? with
    | none=>simp[hr] at h1
    | some r=>
     simp only[hr,Option.map_some,Option.some.injEq] at h1
     simp[h1]
end
section
def Le {α β:Type}(f g:α→Option β):Prop:=∀a b,f a=some b→g a=some b
def Mm {α β γ:Type}(e:(α→Option β)→Option γ):Prop:=∀f g,Le f g→∀r,e f=some r→e g=some r
def f9 {α β:Type}(F:(α→Option β)→α→Option β):Nat→α→Option β
 | 0,_=>none
 | k+1,a=>F (f9 F k) a
noncomputable def aA {α β:Type}(F:(α→Option β)→α→Option β)(a:α):Option β:=
 open Classical in if h : ∃ r k,f9 F k a=some r then some h.choose else none
section
variable {α β : Type} {F : (α→Option β)→α→Option β} (hF : ∀ a,Mm fun f=>F f a)
include hF
theorem vW:∀k,Le (f9 F k) (f9 F (k+1))
 | 0,_,_,h=>by cases h
 | k+1,a,b,h=>hF a _ _ (vW k) b h
theorem Lo {k j:Nat}(h:k≤j):Le (f9 F k) (f9 F j):=by
 induction h with
 | refl=>exact fun _ _ h=>h
 | step _ ih=>exact fun a b h=>vW hF _ a b (ih a b h)
theorem SG {k j:Nat}{a:α}{r r':β}(h:f9 F k a=some r)(h':f9 F j a=some r'):r=r':=by
 rcases Nat.le_total k j with hk | hk
 ·have:=Lo hF hk a r h
  rw[h'] at this
  cases this;rfl
 ·have:=Lo hF hk a r' h'
  rw[h] at this
  cases this;rfl
theorem iP {a:α}{r:β}:aA F a=some r↔∃k,f9 F k a=some r:=by
 unfold aA
 constructor
 ·intro h
  split at h
  ·rename_i hh
   cases h
   exact hh.choose_spec
  ·cases h
 ·rintro⟨k,hk⟩
  have hh:∃r k,f9 F k a=some r:=⟨r,k,hk⟩
  rw[dif_pos hh]
  obtain⟨j,hj⟩:=hh.choose_spec
  rw[SG hF hj hk]
theorem SH (k:Nat):Le (f9 F k) (aA F):=fun a b h=>(iP hF).2 ⟨k,h⟩
theorem UK (hc:∀(f:α→Option β) (g:Nat→α→Option β),(∀k,Le (g k) (g (k+1)))→(∀a b,f a=some b→∃k,g k a=some b)→∀a r,F f a=some r→∃k,F (g k) a=some r)(a:α):aA F a=F (aA F) a:=by
 have h1:∀r,aA F a=some r→F (aA F) a=some r:=fun r h=>by
  obtain⟨k,hk⟩:=(iP hF).1 h
  cases k with
  | zero=>cases hk
  | succ k=>exact hF a _ _ (SH hF k) r hk
 have h2:∀r,F (aA F) a=some r→aA F a=some r:=fun r h=>by
  obtain⟨k,hk⟩:=hc (aA F) (f9 F) (vW hF) (fun a b h=>(iP hF).1 h) a r h
  exact (iP hF).2 ⟨k+1,hk⟩
 cases h:aA F a with
 | none=>
  cases h':F (aA F) a with
  | none=>rfl
  | some r=>rw[h2 r h'] at h;cases h
 | some r=>rw[h1 r h]
theorem So {P:α→β→Prop}(hs:∀f:α→Option β,(∀a b,f a=some b→P a b)→∀a b,F f a=some b→P a b){a:α}{r:β}(h:aA F a=some r):P a r:=by
 obtain⟨k,hk⟩:=(iP hF).1 h
 clear h
 induction k generalizing a r with
 | zero=>cases hk
 | succ k ih=>exact hs (f9 F k) (fun a b h=>ih h) a r hk
end
structure Fin1 {α β γ:Type} (e:(α→Option β)→Option γ):Prop where
 mono:Mm e
 cont:∀(f:α→Option β) (g:Nat→α→Option β),(∀k,Le (g k) (g (k+1)))→(∀a b,f a=some b→∃k,g k a=some b)→∀r,e f=some r→∃k,e (g k)=some r
theorem IP {α β:Type}{g:Nat→α→Option β}(hg:∀k,Le (g k) (g (k+1))){k j:Nat}(h:k≤j):Le (g k) (g j):=by
 induction h with
 | refl=>exact fun _ _ h=>h
 | step _ ih=>exact fun a b h=>hg _ a b (ih a b h)
variable {α β γ δ ε : Type}
theorem aO {e:Option γ}:Fin1 (fun _:α→Option β=>e):=⟨fun _ _ _ _ h=>h,fun _ _ _ _ _ h=>⟨0,h⟩⟩
theorem bv {a:α}:Fin1 (fun f:α→Option β=>f a):=⟨fun _ _ h r e=>h a r e,fun _ _ _ h r e=>h a r e⟩
theorem bm {e:(α→Option β)→Option γ}{k:(α→Option β)→γ→Option δ}(he:Fin1 e)(hk:∀y,Fin1 fun f=>k f y):Fin1 fun f=>(e f).bind (k f):=by
 refine⟨fun f g hfg r h=>?_,fun f g hg hfg r h=>?_⟩
 ·obtain⟨y,h1,h2⟩:=aE.1 h
  exact aE.2 ⟨y,he.mono f g hfg y h1,(hk y).mono f g hfg r h2⟩
 ·obtain⟨y,h1,h2⟩:=aE.1 h
  obtain⟨k1,q1⟩:=he.cont f g hg hfg y h1
  obtain⟨k2,q2⟩:=(hk y).cont f g hg hfg r h2
  exact⟨max k1 k2,aE.2 ⟨y,he.mono _ _ (IP hg (Nat.le_max_left _ _)) _ q1,(hk y).mono _ _ (IP hg (Nat.le_max_right _ _)) _ q2⟩⟩
theorem bz {c:Bool}{a b:(α→Option β)→Option γ}(ha:Fin1 a)(hb:Fin1 b):Fin1 fun f=>bif c then a f else b f:=by
 cases c
 ·exact hb
 ·exact ha
def bg {ρ υ:Type}(e:Option (ρ⊕υ))(k:υ→Option ρ):Option ρ:=
 e.bind fun x=>match x with
  | .inl r=>some r
  | .inr u=>k u
def ct {ρ υ ω:Type}(e:Option (ρ⊕υ))(k:υ→Option (ρ⊕ω)):Option (ρ⊕ω):=
 e.bind fun x=>match x with
  | .inl r=>some (.inl r)
  | .inr u=>k u
theorem bd {ρ υ:Type}{e:(α→Option β)→Option (ρ⊕υ)}{k:(α→Option β)→υ→Option ρ}(he:Fin1 e)(hk:∀y,Fin1 fun f=>k f y):Fin1 fun f=>bg (e f) (k f):=
 bm he fun x=>match x with
  | .inl r=>aO
  | .inr u=>hk u
theorem be {ρ υ ω:Type}{e:(α→Option β)→Option (ρ⊕υ)}{k:(α→Option β)→υ→Option (ρ⊕ω)}(he:Fin1 e)(hk:∀y,Fin1 fun f=>k f y):Fin1 fun f=>ct (e f) (k f):=
 bm he fun x=>match x with
  | .inl r=>aO
  | .inr u=>hk u
def di {α β:Type}(x:α)(k:α→β):β:=k x
theorem bA {x:γ}{k:(α→Option β)→γ→Option δ}(hk:∀y,Fin1 fun f=>k f y):Fin1 fun f=>di x (k f):=hk x
theorem lJ {γ δ:Type}{x:γ}{k:γ→δ}{r:δ}(h:di x k=r):∃p,x=p∧k p=r:=⟨x,rfl,h⟩
@[simp] theorem fU {α β:Type}{x:α}{k:α→β}:di x k=k x:=rfl
theorem bJ {ρ υ:Type}{e:Option (ρ⊕υ)}{k:υ→Option ρ}{r:ρ}(h:bg e k=some r):∃y,e=some y∧(∀r',y=.inl r'→r'=r)∧∀u,y=.inr u→k u=some r:=by
 obtain⟨y,h1,h2⟩:=aE.1 h
 refine⟨y,h1,?_,?_⟩
 ·rintro r' rfl;exact Option.some.inj h2
 ·rintro u rfl;exact h2
theorem bL {ρ υ ω:Type}{e:Option (ρ⊕υ)}{k:υ→Option (ρ⊕ω)}{y0:ρ⊕ω}(h:ct e k=some y0):∃y,e=some y∧(∀r',y=.inl r'→y0=.inl r')∧∀u,y=.inr u→k u=some y0:=by
 obtain⟨y,h1,h2⟩:=aE.1 h
 refine⟨y,h1,?_,?_⟩
 ·rintro r' rfl;exact (Option.some.inj h2).symm
 ·rintro u rfl;exact h2
@[simp] theorem XO {ρ υ:Type}{r:ρ}{k:υ→Option ρ}:bg (some (.inl r)) k=some r:=rfl
@[simp] theorem ft {ρ υ:Type}{u:υ}{k:υ→Option ρ}:bg (some (.inr u)) k=k u:=rfl
@[simp] theorem XP {ρ υ ω:Type}{r:ρ}{k:υ→Option (ρ⊕ω)}:ct (some (.inl r)) k=some (.inl r):=rfl
@[simp] theorem iC {ρ υ ω:Type}{u:υ}{k:υ→Option (ρ⊕ω)}:ct (some (.inr u)) k=k u:=rfl
theorem bE {F:(α→Option β)→α→Option β}(hF:∀a,Fin1 fun f=>F f a)(a:α):aA F a=F (aA F) a:=
 UK (fun a=>(hF a).mono) (fun f g h1 h2 a r h=>(hF a).cont f g h1 h2 r h) a
theorem UL {F:(α→Option β)→α→Option β}(hF:∀a,Fin1 fun f=>F f a){P:α→β→Prop}(hs:∀f:α→Option β,(∀a b,f a=some b→P a b)→∀a b,F f a=some b→P a b){a:α}{r:β}(h:aA F a=some r):P a r:=
 So (fun a=>(hF a).mono) hs h
section
variable {α β γ δ ε : Type}
def fL (h:α⊕γ→Option (β⊕δ))(a:α):Option β:=(h (.inl a)).bind fun x=>match x with
 | .inl b=>some b
 | .inr _=>none
def fR (h:α⊕γ→Option (β⊕δ))(c:γ):Option δ:=(h (.inr c)).bind fun x=>match x with
 | .inl _=>none
 | .inr d=>some d
def jn (f:α→Option β)(g:γ→Option δ):α⊕γ→Option (β⊕δ)
 | .inl a=>(f a).map .inl
 | .inr c=>(g c).map .inr
theorem Hn {f:α→Option β}{g:γ→Option δ}:fL (jn f g)=f:=by
 funext a
 simp only[fL,jn]
 cases f a<;>rfl
theorem Ho {f:α→Option β}{g:γ→Option δ}:fR (jn f g)=g:=by
 funext a
 simp only[fR,jn]
 cases g a<;>rfl
theorem TH {f f':α→Option β}{g g':γ→Option δ}(hf:Le f f')(hg:Le g g'):Le (jn f g) (jn f' g'):=by
 rintro (a | c) b h
 ·obtain⟨x,h1,rfl⟩:=aF.1 h
  simp[jn,hf a x h1]
 ·obtain⟨x,h1,rfl⟩:=aF.1 h
  simp[jn,hg c x h1]
theorem hZ {a:α}:Fin1 fun h:α⊕γ→Option (β⊕δ)=>fL h a:=bm bv fun x=>aO
theorem jg {c:γ}:Fin1 fun h:α⊕γ→Option (β⊕δ)=>fR h c:=bm bv fun x=>aO
theorem gm {α β γ δ μ ν:Type}{a:α}:Fin1 fun h:(α⊕γ)⊕μ→Option ((β⊕δ)⊕ν)=>fL (fL h) a:=bm hZ fun x=>aO
theorem ie {α β γ δ μ ν:Type}{c:γ}:Fin1 fun h:(α⊕γ)⊕μ→Option ((β⊕δ)⊕ν)=>fR (fL h) c:=bm hZ fun x=>aO
theorem gE {α β γ δ μ ν π κ:Type}{a:α}:Fin1 fun h:((α⊕γ)⊕μ)⊕π→Option (((β⊕δ)⊕ν)⊕κ)=>fL (fL (fL h)) a:=bm gm fun x=>aO
theorem gF {α β γ δ μ ν π κ:Type}{c:γ}:Fin1 fun h:((α⊕γ)⊕μ)⊕π→Option (((β⊕δ)⊕ν)⊕κ)=>fR (fL (fL h)) c:=bm gm fun x=>aO
variable {L : (α→Option β)→(γ→Option δ)→γ→Option δ}
theorem nm (hL:∀c,Fin1 fun h:α⊕γ→Option (β⊕δ)=>L (fL h) (fR h) c){c:γ}:Fin1 fun f=>aA (L f) c:=by
 have mono:∀{f f':α→Option β} {g g':γ→Option δ},Le f f'→Le g g'→∀c r,L f g c=some r→L f' g' c=some r:=by
  intro f f' g g' hf hg c r h
  have:=(hL c).mono (jn f g) (jn f' g') (TH hf hg) r (by simpa only[Hn,Ho] using h)
  simpa only[Hn,Ho] using this
 have hm:∀f a,Mm fun g=>L f g a:=fun f a g g' hg r h=>mono (fun _ _ h=>h) hg a r h
 have it:∀{f f':α→Option β},Le f f'→∀k,Le (f9 (L f) k) (f9 (L f') k):=by
  intro f f' hf k
  induction k with
  | zero=>intro _ _ h;cases h
  | succ k ih=>exact fun a r h=>mono hf ih a r h
 refine⟨fun f f' hf r h=>?_,fun f g hg hfg r h=>?_⟩
 ·obtain⟨k,hk⟩:=(iP (hm f)).1 h
  exact (iP (hm f')).2 ⟨k,it hf k c r hk⟩
 ·obtain⟨j,hj⟩:=(iP (hm f)).1 h
  have key:∀j c r,f9 (L f) j c=some r→∃k,f9 (L (g k)) j c=some r:=by
   intro j
   induction j with
   | zero=>intro c r h;cases h
   | succ j ih=>
    intro c r h
    have:=(hL c).cont (jn f (f9 (L f) j)) (fun k=>jn (g k) (f9 (L (g k)) j)) (fun k=>TH (hg k) (it (hg k) j)) (by
     rintro (a | c) b hb
     ·obtain⟨x,h1,rfl⟩:=aF.1 hb
      obtain⟨k,hk⟩:=hfg a x h1
      exact⟨k,by simp[jn,hk]⟩
     ·obtain⟨x,h1,rfl⟩:=aF.1 hb
      obtain⟨k,hk⟩:=ih c x h1
      exact⟨k,by simp[jn,hk]⟩) r (by simp only[Hn,Ho];exact h)
    simp only[Hn,Ho] at this
    exact this
  obtain⟨k,hk⟩:=key j c r hj
  exact⟨k,(iP (hm (g k))).2 ⟨j,hk⟩⟩
end
end
section
def aK {α:Type}(xs:List α)(i:Int):Option α:=if 0≤i then xs[i.toNat]? else none
def qC {α:Type}(xs:List α)(lo hi:Int):Option (List α):=if 0≤lo∧lo≤hi∧hi≤xs.length then some ((xs.drop lo.toNat).take (hi.toNat - lo.toNat)) else none
def cT {α:Type}(xs:List α)(i:Int)(x:α):List α:=xs.set i.toNat x
def fy {α:Type}(bytes:Nat)(xs ys:List α):Option (List α):=if (xs.length+ys.length)*bytes≤lC∧xs.length+ys.length≤lC then some (xs++ys) else none
def uo {α:Type}(bytes:Nat)(z:α)(n:Int):Option (List α):=if 0≤n∧n*bytes≤lC∧n≤lC then some (List.replicate n.toNat z) else none
def Ae (a b:List UInt8):Option (List UInt8):=if a.length+b.length≤9223372036854775807 then some (a++b) else none
abbrev aj (n:Int):Int:=IntKind.i64.wrap n
abbrev len {α:Type}(xs:List α):Int:=(xs.length:Int)
theorem bS {α β:Type}{o:Option α}{f:α→Option β}{r:β}(h:o.bind f=some r):∃x,o=some x∧f x=some r:=aE.1 h
section
variable {E : Env} {m : Nat} {Q : St→Prop} {ops : Array Oper} {i : Nat} {is : List Nat} {k : List It} {d : V} {n : Nat} {l : List (Nat × V)} {rt rt' : al} {nx : Nat} {op : Op} {v : V} {t : Nat}
theorem o (nx':Nat)(v:V)(hx:nx+16=nx')(ho:tV ops i=some (some t,op))(hv:bc E nx ⟨aC d n l,rt,nx⟩ op=some (v,rt'))(r:Run E m Q (.ops ops is::k) ⟨aC d n ((t,v)::l),rt',nx'⟩):Run E m Q (.ops ops (i::is)::k) ⟨aC d n l,rt,nx⟩:=by
 subst hx
 exact WR (dst:=some t) ho hv r
theorem o0 (nx':Nat)(hx:nx+16=nx')(ho:tV ops i=some (none,op))(hv:bc E nx ⟨aC d n l,rt,nx⟩ op=some (v,rt'))(r:Run E m Q (.ops ops is::k) ⟨aC d n l,rt',nx'⟩):Run E m Q (.ops ops (i::is)::k) ⟨aC d n l,rt,nx⟩:=by
 subst hx
 exact WR (dst:=none) ho hv r
theorem og {g:Nat}{w:Bool}(nx':Nat)(v:V)(hx:nx+16=nx')(ho:lV ops i=some (some t,op,some g,w))(hn:Nat.ble (g+1) n=true)(hg:gd (lk d l g) w=some true)(hv:bc E nx ⟨aC d n l,rt,nx⟩ op=some (v,rt'))(r:Run E m Q (.ops ops is::k) ⟨aC d n ((t,v)::l),rt',nx'⟩):Run E m Q (.ops ops (i::is)::k) ⟨aC d n l,rt,nx⟩:=by
 subst hx
 exact XJ (dst:=some t) ho hn hg hv r
theorem os {g:Nat}{w:Bool}(nx':Nat)(hx:nx+16=nx')(ho:lV ops i=some (some t,op,some g,w))(hn:Nat.ble (g+1) n=true)(hg:gd (lk d l g) w=some false)(r:Run E m Q (.ops ops is::k) ⟨aC d n ((t,.und)::l),rt,nx'⟩):Run E m Q (.ops ops (i::is)::k) ⟨aC d n l,rt,nx⟩:=by
 subst hx
 exact WS (dst:=some t) ho hn hg r
variable {ms : List Nat} {log : mD}
theorem dp (R W:List Nat)(v:V)(ho:tV ops i=some (some t,op))(hv:bc E (nx+16*i) ⟨aC d n l,rt,nx⟩ op=some (v,rt'))(hR:fY ⟨aC d n l,rt,nx⟩ op=R)(hW:io E ⟨aC d n l,rt,nx⟩ op=W)(hc:qV nx ms i R W log=true)(r:Run E m Q (.dops ops ms (i+1) ((i,R,W)::log)::k) ⟨aC d n ((t,v)::l),rt',nx⟩):Run E m Q (.dops ops ms i log::k) ⟨aC d n l,rt,nx⟩:=XW (dst:=some t) ho hv hR hW hc r
theorem dg {g:Nat}{w:Bool}(R W:List Nat)(v:V)(ho:lV ops i=some (some t,op,some g,w))(hn:Nat.ble (g+1) n=true)(hg:gd (lk d l g) w=some true)(hv:bc E (nx+16*i) ⟨aC d n l,rt,nx⟩ op=some (v,rt'))(hR:fY ⟨aC d n l,rt,nx⟩ op=R)(hW:io E ⟨aC d n l,rt,nx⟩ op=W)(hc:qV nx ms i R W log=true)(r:Run E m Q (.dops ops ms (i+1) ((i,R,W)::log)::k) ⟨aC d n ((t,v)::l),rt',nx⟩):Run E m Q (.dops ops ms i log::k) ⟨aC d n l,rt,nx⟩:=Xy (dst:=some t) ho hn hg hv hR hW hc r
theorem ds {g:Nat}{w:Bool}(ho:lV ops i=some (some t,op,some g,w))(hn:Nat.ble (g+1) n=true)(hg:gd (lk d l g) w=some false)(hc:qV nx ms i [] [] log=true)(r:Run E m Q (.dops ops ms (i+1) ((i,[],[])::log)::k) ⟨aC d n ((t,.und)::l),rt,nx⟩):Run E m Q (.dops ops ms i log::k) ⟨aC d n l,rt,nx⟩:=Wy (dst:=some t) ho hn hg hc r
theorem de (nx':Nat)(h:Nat.ble ops.size i=true)(hx:nx+16*ops.size=nx')(r:Run E m Q k ⟨aC d n l,rt,nx'⟩):Run E m Q (.dops ops ms i log::k) ⟨aC d n l,rt,nx⟩:=by
 subst hx
 exact Xx h r
end
section
variable {E : Env} {d : V} {n : Nat} {l : List (Nat × V)} {L L' : List (Nat × Option Root)} {id nx : Nat} {a b v z pv xv : V} {x y p c : Operand} {t t' : TypeId} {s : Nat}
theorem lS {rt:al}:∀{vs:List V},vs.all cp=true→fa rt vs=some (vs,rt)
 | [],_=>rfl
 | v::vs,h=>by
  simp only[List.all_cons,Bool.and_eq_true] at h
  have h1:cr rt v=some (v,rt):=by
   have:=h.1
   cases v<;>simp_all[cp,cr]
   all_goals (rename_i cs;cases cs<;>simp_all[cp])
  simp[fa,h1,lS h.2]
theorem bu {rt:al}{v:V}(h:(cells v).all cp=true):fO rt v=some (v,rt):=by
 cases v with
 | agg cs=>simp[fO,lS (show cs.all cp=true from h)]
 | _=>
  have:=lS (rt:=rt) h
  simp only[cells,fa,aE,aF] at this
  obtain⟨x,hx,y,hy,he⟩:=this
  simp only[Option.some.injEq,Prod.mk.injEq] at hy he
  simp only[fO,hx]
  obtain⟨x1,x2⟩:=x
  simp at he hy
  subst hy
  simp at he
  rw[he.1,he.2]
def Lp (E:Env)(rt:al)(t:TypeId)(pv:V):Option V:=
 (E.ty t).bind fun ti=>(jA rt pv).bind fun cs=>if 0<ti.size∧ti.size≤cs.length then jC (et ti.desc) (cs.take ti.size) else none
theorem cQ {rt:al}(hp:gW d n l p=some pv)(h:Lp E rt t pv=some v):bc E id ⟨aC d n l,rt,nx⟩ (.load t p)=some (v,rt):=by
 simp only[Lp,aE] at h
 obtain⟨ti,ht,cs,hc,h⟩:=h
 split at h
 ·rename_i hs
  exact WB hp ht hc hs h
 ·cases h
theorem fJ {rt:al}{rt':al}(hp:gW d n l p=some pv)(hx:gW d n l x=some xv)(h:nE E rt t pv xv=some rt'):bc E id ⟨aC d n l,rt,nx⟩ (.store t p x)=some (.und,rt'):=UI hp hx h
theorem TA {a b c:List UInt8}{lit:Bool}(h:Ae a b=some c):pg E .add t (str a) (str b) lit=some (str c):=by
 unfold Ae at h
 split at h
 ·rename_i hl
  cases h
  simp only[pg,str,xa,Fd]
  rw[if_pos hl]
  congr 2
 ·cases h
theorem cF {α:Type}{f:α→V}{xs:List α}{nl:Bool}(h:fD (E.desc t)=true):ru (E.desc t) (.isl nl (xs.map f))=some (I (len xs)):=by simp[ru,h]
theorem X0 {o nv off k:Nat}{p:List (Nat×Nat)}(h:fD (E.desc t)=true):ru (E.desc t) (.hs o nv p s off k)=some (.int .i64 k):=by simp[ru,h]
theorem qR {s:List UInt8}{i:Int}{c:UInt8}{ti:TI}(ht:E.ty t=some ti)(hd:ti.desc=.string)(h:aK s i=some c):Ja E t (str s) i=some (.int .u8 c.toNat):=by
 unfold aK at h
 split at h
 ·rename_i h0
  obtain⟨dd,a,b,c'⟩:=ti
  simp only at hd
  subst hd
  simp only[Ja,ht,str]
  rw[if_pos h0]
  obtain⟨hl,he⟩:=cB.1 h
  have e:(ByteArray.mk s.toArray)[i.toNat]?=some c:=by
   simp only[getElem?_def,Fd]
   rw[dif_pos hl]
   simp only[Option.some.injEq]
   exact he
  rw[e];rfl
 ·cases h
theorem MD {s:List UInt8}{a b:Nat}(h:a≤b)(hb:b≤s.length):(ByteArray.mk s.toArray).extract a b=⟨((s.drop a).take (b - a)).toArray⟩:=by
 apply ByteArray.ext
 simp[ByteArray.data_extract,List.extract_toArray]
theorem JJ {s c:List UInt8}{lo hi:Option V}{a b:Int}{rt:al}(hd:E.desc t=some .string)(h1:fG 0 lo=some a)(h2:fG (len s) hi=some b)(h:qC s a b=some c):iK E rt t (str s) lo hi=some (str c):=by
 unfold qC at h
 split at h
 ·rename_i hc
  cases h
  have h2':fG (s.length:Int) hi=some b:=h2
  simp only[iK,hd,str,h1,Fd,h2',b6]
  rw[if_pos hc,MD (by omega) (by omega)]
 ·cases h
theorem WJ {α:Type}{f:α→V}{xs:List α}{nl:Bool}{i:Int}{y:α}{e:TypeId}(hd:E.desc t=some (.slice e))(hs:(E.ty e).map (·.size)=some s)(hf:(cells (f y)).length=s)(h:aK xs i=some y):gK E t (.isl nl (xs.map f)) i=some (.iptr (f y) 0):=by
 unfold aK at h
 split at h
 ·rename_i h0
  simp only[gK,hd]
  rw[if_pos h0,List.getElem?_map,h]
  simp only[Option.map_some,b6]
  rw[if_pos (by rw[hs,hf])]
 ·cases h
theorem XF {α:Type}{xs:List α}{o nv off k:Nat}{p:List (Nat×Nat)}{i:Int}{y:α}{e:TypeId}(hd:E.desc t=some (.slice e))(hs:(E.ty e).map (·.size)=some s)(hk:k=xs.length)(h:aK xs i=some y):gK E t (.hs o nv p s off k) i=some (.hp o nv p s (off+i.toNat) 0):=by
 unfold aK at h
 split at h
 ·rename_i h0
  simp only[gK,hd]
  have:=(cB.1 h).1
  rw[if_pos ⟨h0,by omega,hs⟩]
 ·cases h
theorem cX {α:Type}{f:α→V}{xs:List α}{i:Int}{y:α}(h:aK xs i=some y):(xs.map f)[0+i.toNat]?=some (f y):=by
 unfold aK at h
 split at h
 ·rw[Nat.zero_add,List.getElem?_map,h];rfl
 ·cases h
theorem jY {α:Type}{f:α→V}{xs:List α}{i:Int}{y:α}:(xs.map f).set (0+i.toNat) (f y)=(cT xs i y).map f:=by
 rw[Nat.zero_add,cT,List.map_set]
theorem Qp {α:Type}{f:α→V}{xs ys:List α}{nl:Bool}{lo hi:Option V}{a b:Int}{rt:al}{e:TypeId}{ei:TI}(hd:E.desc t=some (.slice e))(he:E.ty e=some ei)(hf:∀y,(cells (f y)).length=ei.size)(h1:fG 0 lo=some a)(h2:fG (len xs) hi=some b)(h:qC xs a b=some ys):iK E rt t (.isl nl (xs.map f)) lo hi=some (.isl nl (ys.map f)):=by
 unfold qC at h
 split at h
 ·rename_i hc
  cases h
  have h2':fG (xs.length:Int) hi=some b:=h2
  simp only[iK,hd,h1,List.length_map,h2',he,b6]
  rw[if_pos ⟨hc.1,hc.2.1,hc.2.2,by simp[hf]⟩]
  simp[List.map_take,List.map_drop]
 ·cases h
end
end
section
abbrev ac:=List UInt8
section
variable {E : Env} {d : V} {n : Nat} {l : List (Nat × V)} {L L' : List (Nat × Option Root)} {id nx : Nat} {a b v z pv xv : V} {x y p c : Operand} {t t' : TypeId} {s : Nat} {rt rt1 rt2 : al}
theorem dm {o nv nv' k:Nat}{es:List V}(hr:fm L o=some ⟨nv',s,es⟩)(hk:k=es.length):cr (bQ L) (.hs o nv [] s 0 k)=some (.usl s es,bQ ((o,none)::L)):=by
 have hv:bZ (bQ L) o nv []=some ⟨nv',s,es⟩:=by simp[bZ,bQ,hr]
 simp only[cr,hv,b6,aU]
 rw[if_pos ⟨trivial,by omega,trivial⟩]
 simp only[ey,List.reverse_nil,Option.map_some]
 rw[jO,hk,List.take_length]
theorem dC (h:cp v=true):cr rt v=some (v,rt):=by
 have:=lS (rt:=rt) (vs:=[v]) (by simp[h])
 simp only[fa,aE,aF,Prod.mk.injEq] at this
 obtain⟨⟨x1,x2⟩,hx,⟨y1,y2⟩,hy,h1,h2⟩:=this
 simp only[Option.some.injEq,Prod.mk.injEq] at hy h1 h2
 obtain⟨rfl,rfl⟩:=hy
 simp only[List.cons.injEq,and_true] at h1
 rw[hx,h1,h2]
theorem dh {w:V}{vs ws:List V}(h1:cr rt v=some (w,rt1))(h2:fa rt1 vs=some (ws,rt2)):fa rt (v::vs)=some (w::ws,rt2):=by simp[fa,h1,h2]
theorem qk:fa rt []=some ([],rt):=rfl
theorem qj {vs ws:List V}(h:fa rt vs=some (ws,rt1)):fO rt (.agg vs)=some (.agg ws,rt1):=by simp[fO,h]
theorem eZ {w:V}(ha:au v=false)(h:cr rt v=some (w,rt1)):fO rt v=some (w,rt1):=by cases v<;>first | exact h | simp[au] at ha
theorem d8 {w:V}{vs ws:List V}(h1:fO rt v=some (w,rt1))(h2:dH rt1 vs=some (ws,rt2)):dH rt (v::vs)=some (w::ws,rt2):=by simp[dH,h1,h2]
theorem dX:dH rt []=some ([],rt):=rfl
theorem Wz {w:V}(hx:gW d n l x=some a)(h:fO (bQ L) a=some (w,bQ L'))(hs:(cells w).length=s):bc E id ⟨aC d n l,bQ L,nx⟩ (.box t x)=some (.hp id 0 [] s 0 0,bQ ((id,some ⟨0,s,[w]⟩)::L')):=by
 rw[Xz hx h,jO,hs]
theorem fin {fn:Func}{own:List Bool}{ax:List V}{st:St}{vs ws:List V}{rt':al}{r:V}{os:List V}(h1:gv E st fn.results.toList=some vs)(h2:dH st.rt vs=some (ws,rt'))(h3:uh ws=r)(h4:cO rt' own ax=os):kS E fn own ax st=some (r,os):=by
 simp[kS,h1,h2,h3,h4]
theorem XL {α:Type}{f g:α→V}{xs:List α}{o nv nv' k:Nat}(hr:fm L o=some ⟨nv',s,xs.map f⟩)(hk:k=xs.length)(hi:eV (xs.map f)=xs.map g):fA (bQ L) (.hs o nv [] s 0 k)=some (.isl false (xs.map g)):=by
 have hv:ch (bQ L) o nv []=some (s,xs.map f):=by simp[ch,bZ,bQ,hr,aU]
 simp only[fA,hv,b6]
 rw[if_pos ⟨trivial,by rw[hk,List.length_map];omega⟩,List.drop_zero,hk,←List.length_map (f:=f),List.take_length,hi]
def Qd:V→V
 | .isl _ es=>.isl false es
 | v=>v
def X2:V→V
 | .agg cs=>.agg (cs.map Qd)
 | v=>Qd v
theorem JG (h:cp v=true):fA rt v=some (Qd v):=by
 cases v<;>simp_all[cp,fA,Qd]
theorem la {w:V}{vs ws:List V}(h1:fA rt v=some w)(h2:gX rt vs=some ws):gX rt (v::vs)=some (w::ws):=by simp[gX,h1,h2]
theorem yx:gX rt []=some []:=rfl
theorem Ei {vs ws:List V}(h:gX rt vs=some ws):gk rt (.agg vs)=some (.agg ws):=by simp[gk,h]
theorem XS {f:FuncId}{vs ws:List V}(h:gX rt vs=some ws):gk rt (.fn f vs)=some (.fn f ws):=by simp[gk,h]
def TG:V→Bool
 | .fn _ _=>true
 | _=>false
theorem pm {w:V}(ha:au v=false)(hf:TG v=false)(h:fA rt v=some w):gk rt v=some w:=by cases v<;>first | (simp[au] at ha;done) | (simp[TG] at hf;done) | exact h
theorem bI (h:(cells v).all cp=true):gk rt v=some (X2 v):=by
 have all:∀{vs:List V},vs.all cp=true→gX rt vs=some (vs.map Qd):=by
  intro vs
  induction vs with
  | nil=>intro _;rfl
  | cons v vs ih=>
   intro h
   simp only[List.all_cons,Bool.and_eq_true] at h
   exact la (JG h.1) (ih h.2)
 cases v with
 | agg cs=>exact Ei (all h)
 | fn f cs=>
  simp only[cells,List.all_cons,List.all_nil,Bool.and_true] at h
  cases cs with
  | nil=>rfl
  | cons c cs=>simp[cp] at h
 | _=>exact JG (rt:=rt) (by simpa[cells] using h)
theorem bi {bs:List Bool}{v w:V}{vs ws:List V}(h1:gk rt v=some w)(h2:eI rt bs vs=some ws):eI rt (false::bs) (v::vs)=some (w::ws):=by simp[eI,h1,h2]
theorem fk {bs:List Bool}{v w:V}{vs ws:List V}(h1:no rt v=some w)(h2:eI rt bs vs=some ws):eI rt (true::bs) (v::vs)=some (w::ws):=by simp[eI,h1,h2]
theorem cu {bs:List Bool}:eI rt bs []=some []:=by cases bs<;>rfl
theorem oe {α:Type}{f:α→V}(hf:∀x,cy (f x)=false):∀{xs:List α},cZ (xs.map f)=false
 | []=>rfl
 | x::xs=>by simp[cZ,hf x,oe hf]
theorem dB {α:Type}{f g:α→V}(hf:∀x,eb (f x)=g x):∀{xs:List α},eV (xs.map f)=xs.map g
 | []=>rfl
 | x::xs=>by simp[eV,hf x,dB hf]
theorem jZ {o nv nv' k:Nat}{es:List V}(hr:fm L o=some ⟨nv',s,es⟩)(hk:k=es.length)(hf:es.all jz=true):fj (bQ L) (.hs o nv [] s 0 k)=some (es,bQ L):=by
 have hv:ch (bQ L) o nv []=some (s,es):=by simp[ch,bZ,bQ,hr,aU]
 simp only[fj,hv,b6]
 rw[if_pos (by omega)]
 simp only[List.drop_zero,hk,List.take_length]
 rw[if_neg (by simp),if_pos hf]
theorem fb {α:Type}{f:α→V}{xs:List α}{k:Nat}{pvs:List (Nat×V)}{es ws:List V}{e:TypeId}{ei:TI}(hd:E.desc t=some (.slice e))(he:E.ty e=some ei)(hz:gc ei.zv=some z)(hc:k*ei.size≤16777216∧0<ei.size∧(cells z).length=ei.size∧au z=et ei.desc)(hp:jo ei.size (et ei.desc) (List.replicate k z) pvs=some es)(ha:dH (bQ L) es=some (ws,bQ L'))(hs:ei.size=s) :
  Ww E (bQ L) id t k pvs=some (.hs id 0 [] s 0 k,bQ ((id,some ⟨0,s,ws⟩)::L')):=by
 subst hs
 obtain⟨⟨dd,a,b,c⟩,hti,hdd⟩:=qO hd
 simp only at hdd
 subst hdd
 simp only[Ww,hti,he,hz,b6]
 rw[if_pos hc,hp]
 simp only[b6,ha,Option.map_some]
 rw[jO]
theorem bw {rt:al}:∀{vs:List V},(vs.all fun v=>(cells v).all cp)=true→dH rt vs=some (vs,rt)
 | [],_=>rfl
 | v::vs,h=>by
  simp only[List.all_cons,Bool.and_eq_true] at h
  simp[dH,bu h.1,bw h.2]
theorem TJ {α:Type}{f:α→V}{xs:List α}{z0:α}{k:Int}{e:TypeId}{ei:TI}(hd:E.desc t=some (.slice e))(he:E.ty e=some ei)(hz:gc ei.zv=some (f z0))(hc:0<ei.size∧(cells (f z0)).length=ei.size∧au (f z0)=et ei.desc)(hx:uo ei.bytes z0 k=some xs)(hs:ei.size=s) :
  Lr E (bQ L) id t k k=some (.hs id 0 [] s 0 xs.length,bQ ((id,some ⟨0,s,xs.map f⟩)::L)):=by
 subst hs
 unfold uo at hx
 split at hx
 ·rename_i hb
  cases hx
  obtain⟨⟨dd,a,b,c⟩,hti,hdd⟩:=qO hd
  simp only at hdd
  subst hdd
  simp only[Lr,hti,he,hz,b6]
  rw[if_pos ⟨hb.1,Int.le_refl _,hb.2.1,hb.2.2,hc.1,hc.2.1,hc.2.2⟩,jO]
  simp
 ·cases hx
theorem bC {α:Type}{f:α→V}{xs:List α}{nl:Bool}{i:Int}{y:α}{e:TypeId}{w:V}(hd:E.desc t=some (.slice e))(hs:(E.ty e).map (·.size)=some s)(hw:f y=w)(hf:(cells w).length=s)(h:aK xs i=some y):gK E t (.isl nl (xs.map f)) i=some (.iptr w 0):=by
 subst hw
 exact WJ hd hs hf h
end
noncomputable def oB {α:Type}(f:α→V)(v:V):Option α:=open Classical in if h:∃a,f a=v then some h.choose else none
theorem DI {α:Type}{f:α→V}(hf:∀a b,f a=f b→a=b)(a:α):oB f (f a)=some a:=by
 unfold oB
 have h:∃b,f b=f a:=⟨a,rfl⟩
 rw[dif_pos h,hf _ _ h.choose_spec]
theorem PJ {α:Type}{f:α→V}{v:V}{a:α}(h:oB f v=some a):f a=v:=by
 unfold oB at h
 split at h
 ·rename_i hh
  cases h
  exact hh.choose_spec
 ·cases h
theorem E3 {α:Type}{f:α→V}(hf:∀a b,f a=f b→a=b):∀{xs ys:List α},xs.map f=ys.map f→xs=ys
 | [],[],_=>rfl
 | [],_::_,h=>by simp at h
 | _::_,[],h=>by simp at h
 | x::xs,y::ys,h=>by
  simp only[List.map_cons,List.cons.injEq] at h
  rw[hf _ _ h.1,E3 hf h.2]
theorem d6 {α:Type}{f:α→V}(hf:∀a b,f a=f b→a=b)(xs ys:List α)(h:V.isl false (xs.map f)=.isl false (ys.map f)):xs=ys:=by
 simp only[V.isl.injEq,true_and] at h
 exact E3 hf h
theorem cf (a b:Int)(h:I a=I b):a=b:=by simpa[I] using h
theorem WX (a b:Bool)(h:B a=B b):a=b:=by simpa[B] using h
theorem bH (a b:ac)(h:str a=str b):a=b:=by
 simp only[str,V.str.injEq,ByteArray.mk.injEq] at h
 simpa using h
theorem nY (y:Int):(cells (I y)).length=1∧(cells (I y)).all eP=true:=⟨rfl,rfl⟩
theorem iL (y:ac):(cells (str y)).length=1∧(cells (str y)).all eP=true:=⟨rfl,rfl⟩
def tD {A B:Type}(da:V→Option A)(db:V→Option B)(f:A→B→Option (V×List V))(vs:List V):Option (V×List V):=match vs with
 | [a,b]=>(da a).bind fun x=>(db b).bind fun y=>f x y
 | _=>none
section
variable {A B C D E F : Type} {da : V→Option A} {db : V→Option B} {dc : V→Option C} {dd : V→Option D} {de : V→Option E} {df : V→Option F} {vs : List V} {r : V × List V}
theorem XA {f:A→B→Option (V×List V)}(h:tD da db f vs=some r):∃a b x y,vs=[a,b]∧da a=some x∧db b=some y∧f x y=some r:=by
 unfold tD at h;split at h
 ·obtain⟨x,h1,h⟩:=bS h;obtain⟨y,h2,h⟩:=bS h;exact⟨_,_,x,y,rfl,h1,h2,h⟩
 ·cases h
end
end
section
theorem qL (y:Int):eb (I y)=I y:=rfl
theorem gw (y:ac):eb (str y)=str y:=rfl
theorem Dy (y:Int):cy (I y)=false:=rfl
theorem S0 (y:ac):cy (str y)=false:=rfl
theorem vE (y:Int):jz (I y)=true:=rfl
theorem me (y:ac):jz (str y)=true:=rfl
section
variable {E : Env} {d : V} {n : Nat} {l : List (Nat × V)} {rt : al}
end
end
section
section
variable {E : Env} {d : V} {n : Nat} {l : List (Nat × V)} {L L' L'' : List (Nat × Option Root)} {id nx : Nat} {a b v z pv xv y : V} {x p c : Operand} {t t' : TypeId} {s s0 s' : Nat} {rt rt' rt1 rt2 : al} {path : List (Nat × Nat)}
theorem aG {es:List V}:aU [] s es=some (s,es):=rfl
theorem gZ {es es':List V}{i k:Nat}{e:V}{r:Option (Nat×List V)}(he:es[i]?=some e)(hc:(cells e)[k]?=some (.usl s' es'))(h:aU path s' es'=r):aU ((i,k)::path) s es=r:=by
 simp only[aU,he,hc,h]
theorem ee {es new:List V}:setRow new [] es=some new:=rfl
theorem M3 {es es' es2 es3 new:List V}{i k:Nat}{e e':V}(he:es[i]?=some e)(hc:(cells e)[k]?=some (.usl s' es'))(h:setRow new path es'=some es2)(he':dA e k (.usl s' es2)=e')(hs:es.set i e'=es3):setRow new ((i,k)::path) es=some es3:=by
 simp only[setRow,he,hc,h,Option.map_some,he',hs]
def qu (path:List (Nat×Nat))(nv nv':Nat):Bool:=path.isEmpty||Nat.beq nv' nv
theorem mg {o nv nv':Nat}{es:List V}(hr:fm L o=some ⟨nv',s0,es⟩)(hv:qu path nv nv'=true):bZ (bQ L) o nv path=some ⟨nv',s0,es⟩:=by
 have:(path.isEmpty||nv'==nv)=true:=by
  simp only[qu,Bool.or_eq_true] at hv ⊢
  rcases hv with h | h
  ·exact .inl h
  ·exact .inr (by simpa using Nat.eq_of_beq_eq_true h)
 simp[bZ,bQ,hr,this]
theorem pV {o nv nv':Nat}{es es2:List V}(hr:fm L o=some ⟨nv',s0,es⟩)(hv:qu path nv nv'=true)(hp:aU path s0 es=some (s,es2)):ch (bQ L) o nv path=some (s,es2):=by
 simp only[ch,mg hr hv,b6,hp]
theorem iH {o nv nv' i k:Nat}{es es2 cs:List V}{e:V}{ti:TI}(ht:E.ty t=some ti)(hr:fm L o=some ⟨nv',s0,es⟩)(hv:qu path nv nv'=true)(hp:aU path s0 es=some (s,es2))(he:es2[i]?=some e)(hc:ot o nv' path i k ((cells e).drop k)=cs)(hs:(Nat.ble 1 ti.size&&Nat.ble ti.size cs.length)=true)(hv':jC (et ti.desc) (cs.take ti.size)=some v):Lp E (bQ L) t (.hp o nv path s i k)=some v:=by
 rw[Bool.and_eq_true,Nat.ble_eq,Nat.ble_eq] at hs
 simp only[Lp,ht,b6,jA,mg hr hv,hp,if_true,he,Option.map_some,hc]
 rw[if_pos (show 0<ti.size∧ti.size≤cs.length from hs),hv']
theorem eJ {o nv nv' i k:Nat}{es es2 es2' es':List V}{e e':V}{pl:Bool}{ti:TI}(ht:E.ty t=some ti)(ha:fO (bQ L) xv=some (y,bQ L'))(hl:(Nat.beq (cells y).length ti.size&&(au y==et ti.desc)&&Nat.ble 1 ti.size)=true)(hr:fm L' o=some ⟨nv',s0,es⟩)(hv:qu path nv nv'=true)(hp:aU path s0 es=some (s,es2))(he:es2[i]?=some e)(hk:Nat.ble (k+ti.size) (cells e).length=true)(hpl:(((cells e).drop k |>.take ti.size).all cp&&(cells y).all cp)=pl)(he':(if au e then .agg ((cells e).take k++cells y++(cells e).drop (k+ti.size)) else ((cells e).take k++cells y++(cells e).drop (k+ti.size)).headD .dead)=e')(h2:es2.set i e'=es2')(hset:setRow es2' path es=some es')(nw:Nat)(hnw:(bif pl then nv' else nv'+1)=nw) :
  nE E (bQ L) t (.hp o nv path s i k) xv=some (bQ ((o,some ⟨nw,s0,es'⟩)::L')):=by
 subst hnw
 simp only[Bool.and_eq_true,Nat.ble_eq,Nat.beq_eq,beq_iff_eq] at hl hk
 simp only[nE,ht,b6,ha]
 rw[if_pos ⟨hl.1.1,hl.1.2,hl.2⟩]
 simp only[mg hr hv,b6,hp,if_true,he]
 rw[if_pos hk,he',h2,hset]
 simp only[Option.map_some]
 rw[jO,hpl]
 cases pl<;>rfl
theorem nc {o nv nv' m:Nat}{es es2:List V}(hr:fm L o=some ⟨nv',s0,es⟩)(hv:qu path nv nv'=true)(hp:aU path s0 es=some (s,es2))(hm:m=es2.length)(ht:ey (bQ L) o ⟨nv',s0,es⟩ path=some rt'):cr (bQ L) (.hs o nv path s 0 m)=some (.usl s es2,rt'):=by
 simp only[cr,mg hr hv,b6,hp]
 rw[if_pos ⟨trivial,by omega,trivial⟩,ht,hm,List.take_length]
 rfl
theorem lF {o nv':Nat}{es:List V}:ey (bQ L) o ⟨nv',s0,es⟩ []=some (bQ ((o,none)::L)):=by
 simp only[ey,List.reverse_nil]
 rw[jO]
theorem rL {o nv' i k:Nat}{es es2 es2' es':List V}{e e':V}(hp:aU path s0 es=some (s,es2))(he:es2[i]?=some e)(he':dA e k .dead=e')(h2:es2.set i e'=es2')(hset:setRow es2' path es=some es'):ey (bQ L) o ⟨nv',s0,es⟩ (path++[(i,k)])=some (bQ ((o,some ⟨nv',s0,es'⟩)::L)):=by
 simp only[ey,List.reverse_append,List.reverse_cons,List.reverse_nil,List.nil_append,List.cons_append,List.reverse_reverse]
 simp only[hp,b6,he,he',h2,hset,Option.map_some]
 rw[jO]
theorem wX {o nv nv' m:Nat}{es es2 es3:List V}(hr:fm L o=some ⟨nv',s0,es⟩)(hv:qu path nv nv'=true)(hp:aU path s0 es=some (s,es2))(hm:m=es2.length)(hi:eV es2=es3):fA (bQ L) (.hs o nv path s 0 m)=some (.isl false es3):=by
 simp only[fA,pV hr hv hp,b6]
 rw[if_pos ⟨trivial,by omega⟩,List.drop_zero,hm,List.take_length,hi]
theorem Ek {o nv nv' i k:Nat}{es es2:List V}{e e':V}(hr:fm L o=some ⟨nv',s0,es⟩)(hv:qu path nv nv'=true)(hp:aU path s0 es=some (s,es2))(he:es2[i]?=some e)(hi:eb e=e'):fA (bQ L) (.hp o nv path s i k)=some (.iptr e' k):=by
 simp only[fA,pV hr hv hp,b6]
 rw[if_pos trivial,he,←hi];rfl
end
theorem E9 {E:Env}{m:Nat}{Q:St→Prop}{k:List It}{d:V}{n:Nat}{l:List (Nat×V)}{L:List (Nat×Option Root)}{nx:Nat}(t j s nx':Nat)(v':V)(hk:mK k=true)(hn:Nat.ble (t+1) n=true)(hj:(cells (lk d l t))[j]?=some (.isl true []))(hv:dA (lk d l t) j (.hs nx 0 [] s 0 0)=v')(hx:nx+16=nx')(r:Run E m Q k ⟨aC d n ((t,v')::l),bQ ((nx,some ⟨0,s,[]⟩)::L),nx'⟩):Run E m Q k ⟨aC d n l,bQ L,nx⟩:=by
 have ht:(aC d n l)[t]?=some (lk d l t):=by
  rw[Nat.ble_eq] at hn
  simp[aC,show t<n by omega]
 refine Run.slot (st:=⟨aC d n l,bQ L,nx⟩) hk ht hj (s:=s) (sV (wZ ?_ ?_ hx) r)
 ·rw[hv]
  exact gQ (dst:=some t)
 ·exact jO
theorem fx {E:Env}{m:Nat}{Q:St→Prop}{k:List It}{tm:List V}{L:List (Nat×Option Root)}{nx:Nat}(o:Nat){nv s:Nat}{es:List V}(es':List V)(hk:mK k=true)(hr:fm L o=some ⟨nv,s,es⟩)(hc:uk es es')(r:Run E m Q k ⟨tm,bQ ((o,some ⟨nv+1,s,es'⟩)::L),nx⟩):Run E m Q k ⟨tm,bQ L,nx⟩:=
 Run.row (st:=⟨tm,bQ L,nx⟩) (r:=⟨nv,s,es⟩) hk hr hc (sV (wZ rfl jO rfl) r)
theorem eh:uk [] []:=⟨rfl,fun i x y h=>by simp at h⟩
theorem az {e e':V}{es es':List V}(h:Cv e e')(hs:uk es es'):uk (e::es) (e'::es'):=
 ⟨by simp[hs.1],fun i x y h1 h2=>by
  cases i with
  | zero=>simp at h1 h2;subst h1;subst h2;exact h
  | succ i=>exact hs.2 i x y (by simpa using h1) (by simpa using h2)⟩
theorem gf {cs cs':List V}(h:uk cs cs'):Cv (.agg cs) (.agg cs'):=.agg cs cs' h.1 h.2
theorem IU {α:Type}{f:α→V}{z:V}{z0:α}{b:Nat}{k:Int}{xs:List α}(hx:uo b z0 k=some xs)(h:Cv z (f z0)):uk (xs.map fun _=>z) (xs.map f):=by
 unfold uo at hx
 split at hx
 ·cases hx
  refine⟨by simp,fun i x y h1 h2=>?_⟩
  simp only[List.getElem?_map,aF,List.getElem?_replicate] at h1 h2
  obtain⟨a,ha,rfl⟩:=h1
  obtain⟨b,hb,rfl⟩:=h2
  split at hb
  ·cases hb;exact h
  ·cases hb
 ·cases hx
section
variable {o nv i k : Nat} {path : List (Nat × Nat)} {v v' : V} {vs vs' : List V}
end
theorem XE {s:Nat}{es es':List V}(h:eV es=es'):eb (.usl s es)=.isl false es':=by simp only[eb,h]
theorem XD {cs cs':List V}(h:eV cs=cs'):eb (.agg cs)=.agg cs':=by simp only[eb,h]
theorem jj {v v':V}{vs vs':List V}(h:eb v=v')(hs:eV vs=vs'):eV (v::vs)=v'::vs':=by simp only[eV,h,hs]
theorem SU {E:Env}{st:St}:gv E st []=some []:=rfl
theorem ST {E:Env}{st:St}{r:ResultVar}{rs:List ResultVar}{v:V}{vs:List V}(h:lz E st r=some v)(hs:gv E st rs=some vs):gv E st (r::rs)=some (v::vs):=by simp only[gv,h,hs,b6,Option.map_some]
theorem E7 {E:Env}{d:V}{n:Nat}{l:List (Nat×V)}{rt:al}{nx a:Nat}{t:TypeId}{p v:V}(hn:Nat.ble (a+1) n=true)(hp:lk d l a=p)(h:Lp E rt t p=some v):lz E ⟨aC d n l,rt,nx⟩ (.cell a t)=some v:=by
 subst hp
 have ht:(aC d n l)[a]?=some (lk d l a):=by
  rw[Nat.ble_eq] at hn
  simp[aC,show a<n by omega]
 simp only[Lp,aE] at h
 obtain⟨ti,h1,cs,h2,h3⟩:=h
 simp only[lz,h1,ht,h2,b6]
 exact h3
theorem tM {α:Type}{f:α→V}(hf:∀a b,f a=f b→a=b)(a b:α)(h:V.iptr (f a) 0=.iptr (f b) 0):a=b:=hf a b (V.iptr.inj h).1
theorem UM {α:Type}{f:α→V}{k:FuncId}(hf:∀a b,f a=f b→a=b)(a b:α)(h:V.fn k [.iptr (f a) 0]=.fn k [.iptr (f b) 0]):a=b:=by
 have:=(V.fn.inj h).2
 simp only[List.cons.injEq,and_true,V.iptr.injEq] at this
 exact hf a b this
theorem UN {α β γ:Type}{f:α→V}{g:β→V}{e:γ→V}{k:FuncId}(hf:∀a b,f a=f b→a=b)(hg:∀a b,g a=g b→a=b)(he:∀a b,e a=e b→a=b)(a b:α×β×γ)(h:V.fn k [.iptr (f a.1) 0,.iptr (g a.2.1) 0,.iptr (e a.2.2) 0]=.fn k [.iptr (f b.1) 0,.iptr (g b.2.1) 0,.iptr (e b.2.2) 0]):a=b:=by
 have:=(V.fn.inj h).2
 simp only[List.cons.injEq,and_true,V.iptr.injEq] at this
 exact Prod.ext (hf _ _ this.1) (Prod.ext (hg _ _ this.2.1) (he _ _ this.2.2))
section
variable {E : Env} {L L' : List (Nat × Option Root)} {rt rt' : al} {t : TypeId} {s s0 : Nat} {path : List (Nat × Nat)} {α : Type} {f g : α→V} {xs ys : List α} {a b : Int}
end
theorem JS {k:IntKind}(a b:Int)(h:V.int k a=.int k b):a=b:=(V.int.inj h).2
end
end Go.Ln
