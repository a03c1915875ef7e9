/-
  The reading of the code, part 2.
-/
import Derived.Test.YtapocebnjdoicaaGreatDoorFnConditionsLnA
set_option linter.unusedVariables false
set_option linter.unusedSimpArgs false
set_option linter.unusedSectionVars false
namespace Go.Ln
open Go
section
variable {w w' : World} {ρ ρ' ρ'' : bg} {rt rt' rt'' : ai} {N : Nat→Nat→Prop}
def kM:V→Root
 | .usl s es=>⟨0,s,es⟩
 | .uptr e=>⟨0,(cells e).length,[e]⟩
 | _=>⟨0,0,[]⟩
def io (id:Nat):V→V
 | .usl s es=>.hs id 0 [] s 0 es.length
 | .uptr e=>.hp id 0 [] (cells e).length 0 0
 | v=>v
theorem BV (v:V):notOwn v∨(∃s es,v=.usl s es)∨∃e,v=.uptr e:=by cases v<;>simp[notOwn]
abbrev ng:=Nat×Nat×Root
theorem DK {c id k:Nat}{x:V}{vs:List V}(h:¬notOwn x):gh c id k (x::vs)=(io id x::(gh c (id+1) (k+1) vs).1,(c,k,kM x)::(gh c (id+1) (k+1) vs).2):=by
 cases x<;>first | rfl | exact absurd trivial h
theorem DJ {c id k:Nat}{x:V}{vs:List V}(h:notOwn x):gh c id k (x::vs)=(x::(gh c id (k+1) vs).1,(gh c id (k+1) vs).2):=by
 cases x<;>first | rfl | exact h.elim
theorem oV {c:Nat}:∀{vs:List V} {id k:Nat},(gh c id k vs).1.length=vs.length∧
  (∀(j:Nat) (e:ng),(gh c id k vs).2[j]?=some e→∃k' x,vs[k']?=some x∧e=(c,k+k',kM x)∧¬notOwn x)∧
  (∀(k':Nat) (x:V),vs[k']?=some x→(notOwn x∧(gh c id k vs).1[k']?=some x)∨(¬notOwn x∧∃j:Nat,(gh c id k vs).2[j]?=some (c,k+k',kM x)∧(gh c id k vs).1[k']?=some (io (id+j) x)))∧
  (∀(i j:Nat) (e e':ng),(gh c id k vs).2[i]?=some e→(gh c id k vs).2[j]?=some e'→e.2.1=e'.2.1→i=j)
 | [],id,k=>by simp[gh]
 | x::vs,id,k=>by
  by_cases hx:notOwn x
  ·rw[DJ hx]
   obtain⟨h1,h2,h3,h4⟩:=oV (c:=c) (vs:=vs) (id:=id) (k:=k+1)
   refine⟨by simp[h1],fun j e he=>?_,fun k' y hy=>?_,h4⟩
   ·obtain⟨k',y,hy,e1,e2⟩:=h2 j e he
    exact⟨k'+1,y,by simpa using hy,by rw[e1];congr 2;omega,e2⟩
   ·cases k' with
    | zero=>simp at hy;subst hy;exact .inl ⟨hx,by simp⟩
    | succ k'=>
     rcases h3 k' y (by simpa using hy) with h | ⟨h,j,hj,hj'⟩
     ·exact .inl ⟨h.1,by simpa using h.2⟩
     ·exact .inr ⟨h,j,by rw[hj];congr 3;omega,by simpa using hj'⟩
  ·rw[DK hx]
   obtain⟨h1,h2,h3,h4⟩:=oV (c:=c) (vs:=vs) (id:=id+1) (k:=k+1)
   refine⟨by simp[h1],fun j e he=>?_,fun k' y hy=>?_,fun i j e e' he he' heq=>?_⟩
   ·cases j with
    | zero=>simp at he;subst he;exact⟨0,x,by simp,by simp,hx⟩
    | succ j=>
     obtain⟨k',y,hy,e1,e2⟩:=h2 j e (by simpa using he)
     exact⟨k'+1,y,by simpa using hy,by rw[e1];congr 2;omega,e2⟩
   ·cases k' with
    | zero=>simp at hy;subst hy;exact .inr ⟨hx,0,by simp,by simp⟩
    | succ k'=>
     rcases h3 k' y (by simpa using hy) with h | ⟨h,j,hj,hj'⟩
     ·exact .inl ⟨h.1,by simpa using h.2⟩
     ·refine .inr ⟨h,j+1,?_,?_⟩
      ·simp only[List.getElem?_cons_succ];rw[hj];congr 3;omega
      ·simp only[List.getElem?_cons_succ];rw[hj'];congr 2;omega
   ·cases i with
    | zero=>
     cases j with
     | zero=>rfl
     | succ j=>
      simp at he;subst he
      obtain⟨k',y,hy,e1,e2⟩:=h2 j e' (by simpa using he')
      subst e1
      simp at heq
      omega
    | succ i=>
     cases j with
     | zero=>
      simp at he';subst he'
      obtain⟨k',y,hy,e1,e2⟩:=h2 i e (by simpa using he)
      subst e1
      simp at heq
      omega
     | succ j=>rw[h4 i j e e' (by simpa using he) (by simpa using he') heq]
theorem Jp {id:Nat}{x:V}(h:¬notOwn x):al (io id x)=false:=by cases x<;>first | rfl | exact absurd trivial h
theorem Jv {id c:Nat}{v:V}:al (kh id c v).1=al v∧(cells (kh id c v).1).length=(cells v).length∧(kh id c v).2=(gh c id 0 (cells v)).2∧cells (kh id c v).1=(gh c id 0 (cells v)).1:=by
 by_cases ha:al v=true
 ·cases v<;>simp[al] at ha
  rename_i cs
  have:=(oV (c:=c) (vs:=cs) (id:=id) (k:=0)).1
  exact⟨rfl,this,rfl,rfl⟩
 ·have ha':al v=false:=by simpa using ha
  have hc:=bw ha'
  have e1:(kh id c v).1=(gh c id 0 [v]).1.headD .und:=by
   unfold kh
   rw[hc]
   cases v<;>first | rfl | exact absurd rfl ha
  have e2:∃y,(gh c id 0 [v]).1=[y]∧al y=false:=by
   by_cases hn:notOwn v
   ·rw[DJ hn];exact⟨v,rfl,ha'⟩
   ·rw[DK hn];exact⟨_,rfl,Jp hn⟩
  obtain⟨y,e2,e3⟩:=e2
  rw[e2] at e1
  simp at e1
  rw[e1]
  refine⟨by rw[e3,ha'],by rw[bw e3,hc];rfl,by simp[kh],by rw[bw e3,hc,e2]⟩
theorem ka:∀{vs:List V} {id c:Nat},(bh id c vs).1.length=vs.length∧
  (∀(j:Nat) (e:ng),(bh id c vs).2[j]?=some e→∃c' v k x,vs[c']?=some v∧(cells v)[k]?=some x∧e=(c+c',k,kM x)∧¬notOwn x)∧
  (∀(c':Nat) (v:V),vs[c']?=some v→∃y,(bh id c vs).1[c']?=some y∧al y=al v∧(cells y).length=(cells v).length∧
   ∀(k:Nat) (x:V),(cells v)[k]?=some x→(notOwn x∧(cells y)[k]?=some x)∨(¬notOwn x∧∃j:Nat,(bh id c vs).2[j]?=some (c+c',k,kM x)∧(cells y)[k]?=some (io (id+j) x)))∧
  (∀(i j:Nat) (e e':ng),(bh id c vs).2[i]?=some e→(bh id c vs).2[j]?=some e'→e.1=e'.1→e.2.1=e'.2.1→i=j)
 | [],id,c=>by simp[bh]
 | v::vs,id,c=>by
  obtain⟨a1,a2,a3,a4⟩:=Jv (id:=id) (c:=c) (v:=v)
  obtain⟨b1,b2,b3,b4⟩:=oV (c:=c) (vs:=cells v) (id:=id) (k:=0)
  obtain⟨h1,h2,h3,h4⟩:=ka (vs:=vs) (id:=id+(kh id c v).2.length) (c:=c+1)
  simp only[bh]
  rw[←a3] at b2 b3 b4
  refine⟨by simp[h1],fun j e he=>?_,fun c' y hy=>?_,fun i j e e' he he' q1 q2=>?_⟩
  ·by_cases hj:j<(kh id c v).2.length
   ·rw[lm hj] at he
    obtain⟨k',x,hx,e1,e2⟩:=b2 j e he
    exact⟨0,v,k',x,by simp,hx,by simpa using e1,e2⟩
   ·rw[mY (by omega)] at he
    obtain⟨c',v',k,x,q1,q2,q3,q4⟩:=h2 _ e he
    exact⟨c'+1,v',k,x,by simpa using q1,q2,by rw[q3];congr 1;omega,q4⟩
  ·cases c' with
   | zero=>
    simp at hy
    subst hy
    refine⟨(kh id c v).1,by simp,a1,a2,fun k x hx=>?_⟩
    rw[a4]
    rcases b3 k x hx with h | ⟨h,j,hj,hj'⟩
    ·exact .inl h
    ·refine .inr ⟨h,j,?_,hj'⟩
     rw[lm (cd.1 hj).1,hj]
     simp
   | succ c'=>
    obtain⟨y',e1,e2,e3,e4⟩:=h3 c' y (by simpa using hy)
    refine⟨y',by simpa using e1,e2,e3,fun k x hx=>?_⟩
    rcases e4 k x hx with h | ⟨h,j,hj,hj'⟩
    ·exact .inl h
    ·refine .inr ⟨h,(kh id c v).2.length+j,?_,by rw[hj'];congr 2;omega⟩
     rw[mY (by omega),Nat.add_sub_cancel_left,hj]
     congr 2
     omega
  ·by_cases hi:i<(kh id c v).2.length<;>by_cases hj:j<(kh id c v).2.length
   ·rw[lm hi] at he
    rw[lm hj] at he'
    exact b4 i j e e' he he' q2
   ·rw[lm hi] at he
    rw[mY (by omega)] at he'
    obtain⟨k',x,_,e1,_⟩:=b2 i e he
    obtain⟨c',v',k,x',_,_,e3,_⟩:=h2 _ e' he'
    subst e1 e3
    simp at q1
    omega
   ·rw[mY (by omega)] at he
    rw[lm hj] at he'
    obtain⟨k',x,_,e1,_⟩:=b2 j e' he'
    obtain⟨c',v',k,x',_,_,e3,_⟩:=h2 _ e he
    subst e1 e3
    simp at q1
    omega
   ·rw[mY (by omega)] at he he'
    have:=h4 _ _ e e' he he' q1 q2
    omega
end
section
variable {w w' : World} {ρ ρ' ρ'' : bg} {rt rt' rt'' : ai} {N : Nat→Nat→Prop}
def pO : List ng→Nat→Nat→Option Nat
  | [],_,_=>none
  | e :: R,c,k=>if e.1=c ∧ e.2.1=k then some 0 else (pO R c k).map (· + 1)
theorem jJ:∀{R:List ng} {c k j:Nat},pO R c k=some j→∃r,R[j]?=some (c,k,r)
 | [],c,k,j,h=>by simp[pO] at h
 | e::R,c,k,j,h=>by
  simp only[pO] at h
  split at h
  ·rename_i he
   cases h
   obtain⟨e1,e2,e3⟩:=e
   simp at he
   exact⟨e3,by simp[he.1,he.2]⟩
  ·simp only[aI] at h
   obtain⟨j',h',rfl⟩:=h
   obtain⟨r,hr⟩:=jJ h'
   exact⟨r,by simpa using hr⟩
theorem vi:∀{R:List ng} {c k j:Nat} {r:Root},R[j]?=some (c,k,r)→∃j',pO R c k=some j'
 | [],c,k,j,r,h=>by simp at h
 | e::R,c,k,j,r,h=>by
  simp only[pO]
  split
  ·exact⟨0,rfl⟩
  ·cases j with
   | zero=>simp at h;subst h;rename_i hn;exact absurd ⟨rfl,rfl⟩ hn
   | succ j=>
    obtain⟨j',h'⟩:=vi (R:=R) (c:=c) (k:=k) (j:=j) (r:=r) (by simpa using h)
    exact⟨j'+1,by rw[h'];rfl⟩
def fe (ρ:bg)(q id:Nat)(R:List ng):bg:=fun b=>
 match ρ b with
 | some (o,l)=>if o=q then (match l with
  | x::t=>(pO R x.1 x.2).map fun j=>(id+j,t)
  | []=>none) else some (o,l)
 | none=>none
theorem oC {q id R b}(h:ρ b=none):fe ρ q id R b=none:=by simp[fe,h]
theorem ld {q id R b o l}(h:ρ b=some (o,l))(hn:o≠q):fe ρ q id R b=some (o,l):=by simp[fe,h,hn]
theorem lc {q id R b c k t j}(h:ρ b=some (q,(c,k)::t))(hj:pO R c k=some j):fe ρ q id R b=some (id+j,t):=by simp[fe,h,hj]
theorem ir {q id R b o l}(h:fe ρ q id R b=some (o,l)):(ρ b=some (o,l)∧o≠q)∨∃c k j,ρ b=some (q,(c,k)::l)∧pO R c k=some j∧o=id+j:=by
 unfold fe at h
 split at h
 ·rename_i o' l' hb
  split at h
  ·rename_i hq
   subst hq
   split at h
   ·rename_i x t
    simp only[aI] at h
    obtain⟨j,hj,h⟩:=h
    cases h
    exact .inr ⟨x.1,x.2,j,hb,hj,rfl⟩
   ·cases h
  ·rename_i hq
   cases h
   exact .inl ⟨hb,hq⟩
 ·cases h
theorem jj {id o:Nat}{R:List ng}(h:¬(id≤o∧o<id+R.length)):dU rt id R o=rt o:=by unfold dU;rw[if_neg h]
theorem nF {id j:Nat}{R:List ng}(h:j<R.length):dU rt id R (id+j)=(R[j]?).map fun x=>x.2.2:=by
 unfold dU
 rw[if_pos (by omega),Nat.add_sub_cancel_left]
structure Placed (N:Nat→Nat→Prop) (w:World) (ρ:bg) (rt:ai) (ρ':bg) (rt':ai) (id n:Nat) (ys:List V) (p:Nat→Value):Prop where
 rok:et w ρ' rt'
 inj:eM ρ'
 rtn:gE rt'
 keep:Keep N w ρ rt w ρ' rt'
 lab:Lab w ρ' rt' jA
 val:∀(c:Nat) (y:V),ys[c]?=some y→aM w ρ' rt' bq y (p c)∧∀Un:Nat→Prop,(∀o,id≤o→o<id+n→¬Un o)→an (bG Un rt') y
 nv:∀o r',rt' o=some r'→rt o=some r'∨(id≤o∧o<id+n)
 f0:∀b l,ρ' b=some (0,l)→ρ b=some (0,l)
theorem GA (H:et w ρ rt)(J:eM ρ)(hr:gE rt){q:Nat}(hL:Lab w ρ rt (fun o _=>o=0∨o=q))(hq0:q≠0)(hq:rt q=none){id:Nat}{vs:List V}(hid0:0<id)(hf:∀o,id≤o→o<id+(bh id 0 vs).2.length→rt o=none)(hN:∀o nv,id≤o→o<id+(bh id 0 vs).2.length→N o nv){p:Nat→Value}(hv:∀(c:Nat) (v:V),vs[c]?=some v→aM w ρ rt (fun k=>some (q,[(c,k)])) v (p c)∧nh v) :
  Placed N w ρ rt (fe ρ q id (bh id 0 vs).2) (dU rt id (bh id 0 vs).2) id (bh id 0 vs).2.length (bh id 0 vs).1 p:=by
 obtain⟨s1,s2,s3,s4⟩:=ka (vs:=vs) (id:=id) (c:=0)
 generalize hys:(bh id 0 vs).1=ys at s1 s3
 generalize hR:(bh id 0 vs).2=R at s2 s3 s4 hf hN
 have pos:∀(j c k:Nat) (r:Root),R[j]?=some (c,k,r)→pO R c k=some j:=by
  intro j c k r h
  obtain⟨j',h'⟩:=vi h
  obtain⟨r',h''⟩:=jJ h'
  rw[h',s4 j' j _ _ h'' h rfl rfl]
 have K:Keep N w ρ rt w (fe ρ q id R) (dU rt id R):=by
  refine⟨fun b hb _=>⟨oC hb,rfl⟩,fun o nv path hNo hl=>?_,fun b l hb=>⟨ld hb (Ne.symm hq0),rfl⟩⟩
  have ho:¬(id≤o∧o<id+R.length):=fun h=>hNo (hN o nv h.1 h.2)
  have hl':b8 rt o nv path:=by simpa[b8,bD,bA,jj ho] using hl
  refine⟨hl',fun b n hb hn=>⟨ld hb ?_,hn⟩⟩
  rintro rfl
  simp[b8,bD,bA,hq] at hl'
 have roots:∀(j:Nat) (e:ng),R[j]?=some e→∃c k x v,e=(c,k,kM x)∧¬notOwn x∧nh x∧vs[c]?=some v∧(cells v)[k]?=some x∧∃u,RepV w ρ rt (some (q,[(c,k)])) x u:=by
  intro j e he
  obtain⟨c,v,k,x,h1,h2,h3,h4⟩:=s2 j e he
  rw[Nat.zero_add] at h3
  obtain⟨⟨g,_,hg⟩,hn⟩:=hv c v h1
  exact⟨c,k,x,v,h3,h4,bC hn h2,h1,h2,g k,hg k x h2⟩
 refine⟨?_,?_,?_,K,?_,?_,?_,fun b l h=>?_⟩
 rotate_right
 ·rcases ir h with⟨h1,_⟩ | ⟨_,_,_,_,_,h3⟩
  ·exact h1
  ·omega
 ·intro o r h
  by_cases ho:¬(id≤o∧o<id+R.length)
  ·rw[jj ho] at h
   exact bW.under K (fun b l hb _=>⟨ld hb (by rintro rfl;rw[hq] at h;cases h),rfl⟩) (H o r h) (hr o r h)
  ·obtain⟨j,rfl⟩:∃j,o=id+j:=⟨o - id,by omega⟩
   rw[nF (by omega)] at h
   simp only[aI] at h
   obtain⟨e,he,rfl⟩:=h
   obtain⟨c,k,x,v,rfl,h1,h2,_,_,u,hu⟩:=roots j e he
   have hmv:∀b l,ρ b=some (q,[(c,k)]++l)→fe ρ q id R b=some (id+j,[]++l)∧w.heap[b]?=w.heap[b]?:=fun b l hb=>⟨lc hb (pos j c k _ he),rfl⟩
   rcases BV x with h | ⟨s,es,rfl⟩ | ⟨e,rfl⟩
   ·exact absurd h h1
   ·exact bW.move K hmv (ol hu) (by simpa[kM,nh] using h2)
   ·exact bW.move K hmv (mM hu) (by simpa[kM,nh,nhs] using h2)
 ·rintro b b' ⟨o,l⟩ h h'
  rcases ir h with⟨h1,h2⟩ | ⟨c,k,j,h1,h2,h3⟩<;>rcases ir h' with⟨h1',h2'⟩ | ⟨c',k',j',h1',h2',h3'⟩
  ·exact J _ _ _ h1 h1'
  ·exfalso
   rcases (hL b o l h1).2 with (h | h) | ⟨r,h⟩
   ·omega
   ·exact h2 h
   ·obtain⟨r9,hr9⟩:=jJ h2'
    have:=(cd.1 hr9).1
    rw[hf o (by omega) (by omega)] at h;cases h
  ·exfalso
   rcases (hL b' o l h1').2 with (h | h) | ⟨r,h⟩
   ·omega
   ·exact h2' h
   ·obtain⟨r9,hr9⟩:=jJ h2
    have:=(cd.1 hr9).1
    rw[hf o (by omega) (by omega)] at h;cases h
  ·have:j=j':=by omega
   subst this
   obtain⟨r,hr1⟩:=jJ h2
   obtain⟨r',hr2⟩:=jJ h2'
   rw[hr1] at hr2
   cases hr2
   exact J _ _ _ h1 h1'
 ·intro o r h
  by_cases ho:¬(id≤o∧o<id+R.length)
  ·rw[jj ho] at h
   exact hr o r h
  ·obtain⟨j,rfl⟩:∃j,o=id+j:=⟨o - id,by omega⟩
   rw[nF (by omega)] at h
   simp only[aI] at h
   obtain⟨e,he,rfl⟩:=h
   obtain⟨c,k,x,v,rfl,h1,h2,_⟩:=roots j e he
   rcases BV x with h | ⟨s,es,rfl⟩ | ⟨e,rfl⟩
   ·exact absurd h h1
   ·simpa[kM,nh] using h2
   ·simpa[kM,nh,nhs] using h2
 ·refine⟨fun b o l h=>?_,by rw[jj (by omega)];exact hL.z,fun b l h=>?_⟩
  rotate_left
  ·rcases ir h with⟨h1,_⟩ | ⟨_,_,_,_,_,h3⟩
   ·exact hL.f _ _ h1
   ·omega
  rcases ir h with⟨h1,h2⟩ | ⟨c,k,j,h1,h2,h3⟩
  ·refine⟨(hL b o l h1).1,?_⟩
   rcases (hL b o l h1).2 with (h | h) | ⟨r,h⟩
   ·exact .inl h
   ·exact absurd h h2
   ·exact .inr ⟨r,by rw[jj (fun h'=>by rw[hf o h'.1 h'.2] at h;cases h)];exact h⟩
  ·obtain⟨r,hr'⟩:=jJ h2
   exact⟨(hL b _ _ h1).1,.inr ⟨r,by rw[h3,nF (cd.1 hr').1,hr'];rfl⟩⟩
 ·intro c y hy
  have hc:c<vs.length:=by rw[←s1];exact (cd.1 hy).1
  have hvc:vs[c]?=some vs[c]:=d5 hc
  obtain⟨y',e1,e2,e3,e4⟩:=s3 c _ hvc
  rw[hy] at e1
  cases e1
  obtain⟨⟨g,hp,hg⟩,hn⟩:=hv c _ hvc
  have hx:∀(k:Nat) z,(cells y)[k]?=some z→∃x,(cells vs[c])[k]?=some x:=fun k z hz=>by
   have:=(cd.1 hz).1
   exact⟨_,d5 (by omega)⟩
  have each:∀(k:Nat) z,(cells y)[k]?=some z→RepV w (fe ρ q id R) (dU rt id R) none z (g k)∧∀Un:Nat→Prop,(∀o,id≤o→o<id+R.length→¬Un o)→an (bG Un (dU rt id R)) z:=by
   intro k z hz
   obtain⟨x,hx⟩:=hx k z hz
   have hxn:=bC hn hx
   have hxr:=hg k x hx
   rcases e4 k x hx with⟨h1,h2⟩ | ⟨h1,j,hj,h2⟩
   ·rw[hz] at h2
    cases h2
    exact⟨(hxr.any h1 (L':=none)).keep K (cz hxn),fun _ _=>cz hxn⟩
   ·rw[hz] at h2
    cases h2
    rw[Nat.zero_add] at hj
    have hjl:=(cd.1 hj).1
    have hpos:=pos j c k _ hj
    have nn:∀Un:Nat→Prop,(∀o,id≤o→o<id+R.length→¬Un o)→¬bG Un (dU rt id R) (id+j) 0:=by
     rintro Un hUn (h | ⟨r,h,h'⟩)
     ·exact hUn _ (by omega) (by omega) h
     ·omega
    rcases BV x with h | ⟨s,es,rfl⟩ | ⟨e,rfl⟩
    ·exact absurd h h1
    ·refine⟨?_,by simpa[io,an] using nn⟩
     obtain⟨A,cc,g2,hu,hlc,hs,hb,_⟩:=vn hxr
     rw[hu]
     refine .hs _ _ _ _ _ _ _ _ (fun _=>⟨cc,A,rfl,hlc,fun h0=>?_⟩) trivial
     obtain⟨b,arr,T,q1,q2,q3,q4,_⟩:=hb h0
     exact⟨b,arr.size,lc q1 hpos,⟨arr,T,q2,rfl⟩,by rw[q3];simp,by simpa using q4⟩
    ·refine⟨?_,by simpa[io,an] using nn⟩
     generalize g k=u at hxr
     cases hxr with
     | uptr _ _ b arr T g2 hρ hb hc hh=>
      exact .hp _ _ _ _ _ _ _ _ (fun _=>⟨b,arr.size,lc hρ hpos,⟨arr,T,hb,rfl⟩,by simp⟩) trivial
  refine⟨⟨g,?_,fun k z hz=>(each k z hz).1⟩,?_⟩
  ·rw[hp]
   unfold fc
   rw[e2,e3]
  ·by_cases ha:al y=true
   ·cases y<;>simp[al] at ha
    intro Un hUn
    simp only[an]
    refine dJ.2 fun z hz=>?_
    obtain⟨k,hk⟩:=List.mem_iff_getElem?.1 hz
    exact (each k z hk).2 Un hUn
   ·have ha':al y=false:=by simpa using ha
    exact (each 0 y (by simp[bw ha'])).2
 ·intro o r h
  by_cases ho:¬(id≤o∧o<id+R.length)
  ·rw[jj ho] at h
   exact .inl h
  ·obtain⟨j,rfl⟩:∃j,o=id+j:=⟨o - id,by omega⟩
   rw[nF (by omega)] at h
   simp only[aI] at h
   obtain⟨e,he,rfl⟩:=h
   have:=(cd.1 he).1
   exact .inr ⟨by omega,by omega⟩
end
section
variable {w w' : World} {ρ ρ' ρ'' : bg} {rt rt' rt'' : ai} {N : Nat→Nat→Prop}
def gR:ai:=fun _=>none
structure Ground where
 base:Nat
 inv:World→Prop
 st:∀w w',(∀b,b<base→w'.heap[b]?=w.heap[b]?)→Wk w w'→inv w→inv w'
def Ground.ok (G:Ground)(w:World)(ρ:bg):Prop:=G.base≤w.heap.size∧(∀b,b<G.base→ρ b=none)∧G.inv w
theorem Ground.keep {G:Ground}(h:G.ok w ρ)(hf:∀b,ρ b=none→b<w.heap.size→ρ' b=none∧w'.heap[b]?=w.heap[b]?)(hw:Wk w w'):G.ok w' ρ':=
 ⟨Nat.le_trans h.1 hw.size,fun b hb=>(hf b (h.2.1 b hb) (Nat.lt_of_lt_of_le hb h.1)).1,G.st w w' (fun b hb=>(hf b (h.2.1 b hb) (Nat.lt_of_lt_of_le hb h.1)).2) hw h.2.2⟩
structure Inn (w:World) (ρ:bg):Prop where
 inj:eM ρ
 lab:∀b o l,ρ b=some (o,l)→b<w.heap.size∧(o=0∨o=1)
 f:∀b l,ρ b=some (0,l)→l=[(b,0)]
structure Aft (w:World) (ρ:bg) (w':World) (ρ':bg):Prop where
 wk:Wk w w'
 fr:∀b,ρ b=none→b<w.heap.size→ρ' b=none∧w'.heap[b]?=w.heap[b]?
 k0:∀b l,ρ b=some (0,l)→ρ' b=some (0,l)∧w'.heap[b]?=w.heap[b]?
 f0:∀b l,ρ' b=some (0,l)→ρ b=some (0,l)
 inj:eM ρ'
 lab:∀b o l,ρ' b=some (o,l)→b<w'.heap.size∧(o=0∨o=1∨o=2)
def kj (w:World)(ρ:bg)(vs:List V)(us:List Value):Prop:=
 vs.length=us.length∧∀(a:Nat) v u,vs[a]?=some v→us[a]?=some u→aM w ρ gR (fun k=>some (1,[(a,k)])) v u∧nh v
def kY:V→Bool
 | .tup _=>true
 | _=>false
def vN (w:World)(ρ:bg)(r:V)(u:Value):Prop:=
 ∃p:Nat→Value,u=(if kY r then .tuple (cT (eE r).length p) else p 0)∧∀(c:Nat) v,(eE r)[c]?=some v→aM w ρ gR (fun k=>some (2,[(c,k)])) v (p c)∧nh v∧kY v=false
def ri (w:World)(ρ:bg)(w':World)(ρ':bg)(own:List Bool)(vs:List V)(us:List Value)(cV:List V):Prop:=
 ∀(a:Nat) v u x,vs[a]?=some v→us[a]?=some u→dV own cV a=some x→
  ∀(g:Nat→Value),u=fc v g→∀(k:Nat) y z,(cells x)[k]?=some y→(cells v)[k]?=some z→¬notOwn y→nh y∧RepV w' ρ' gR (some (1,[(a,k)])) y (g k)∧∀b n,ρ b=some (1,[(a,k)])→km w b n→ρ' b=some (1,[(a,k)])
def FN (P:Program)(f:FuncId)(us:Array Value)(w:World)(K:Value→World→Prop):Prop:=
 (∃u w',(callFunc f us).run P w=.ok (.value u) w'∧K u w')∨
 ((callFunc f us).run P w=.ok (.enter f us) w∧Calls P f us w fun e w'=>∃u,e=.returned u∧K u w')
def fq (P:Program)(G:Ground)(f:FuncId)(e:Ent):Prop:=∀w ρ vs us r cV,kj w ρ vs us→Inn w ρ→G.ok w ρ→e.F vs=some (r,cV)→
 FN P f us.toArray w fun u w'=>∃ρ',Aft w ρ w' ρ'∧vN w' ρ' r u∧ri w ρ w' ρ' e.own vs us cV
def dA:V→Option Nat
 | .hs o _ _ _ _ _=>some o
 | .hp o _ _ _ _ _=>some o
 | _=>none
def jF:V→fU
 | .hs _ _ p _ _ _=>p
 | .hp _ _ p _ _ _=>p
 | _=>[]
theorem BG {a : Nat} : ∀ {vs : List V} {k0 : Nat} {e : mr},e ∈ pJ a k0 vs ↔ ∃ k x,vs[k]?=some x ∧ dA x=some e.1 ∧ e.2=(jF x,a,k0 + k)
  | [],k0,e=>by simp [pJ]
  | v :: vs,k0,e=>by
    have ih:=@BG a vs (k0 + 1) e
    have tail : (∃ k x,vs[k]?=some x ∧ dA x=some e.1 ∧ e.2=(jF x,a,k0 + 1 + k)) ↔ ∃ k x,(v :: vs)[k + 1]?=some x ∧ dA x=some e.1 ∧ e.2=(jF x,a,k0 + (k + 1)):=by
      constructor
      · rintro ⟨k,x,h1,h2,h3⟩
        exact ⟨k,x,by simpa using h1,h2,by rw [h3]; congr 2; omega⟩
      · rintro ⟨k,x,h1,h2,h3⟩
        exact ⟨k,x,by simpa using h1,h2,by rw [h3]; congr 2; omega⟩
    have hsplit : (∃ k x,(v :: vs)[k]?=some x ∧ dA x=some e.1 ∧ e.2=(jF x,a,k0 + k)) ↔ (dA v=some e.1 ∧ e.2=(jF v,a,k0)) ∨ ∃ k x,(v :: vs)[k + 1]?=some x ∧ dA x=some e.1 ∧ e.2=(jF x,a,k0 + (k + 1)):=by
      constructor
      · rintro ⟨k,x,h1,h2,h3⟩
        cases k with
        | zero=>simp at h1; subst h1; exact .inl ⟨h2,by simpa using h3⟩
        | succ k=>exact .inr ⟨k,x,h1,h2,h3⟩
      · rintro (⟨h1,h2⟩ | ⟨k,x,h1,h2,h3⟩)
        · exact ⟨0,v,by simp,h1,by simpa using h2⟩
        · exact ⟨k + 1,x,h1,h2,h3⟩
    rw [hsplit,← tail,← ih]
    cases v <;> simp only [pJ,dA,jF,List.mem_cons] <;> first
      | (obtain ⟨e1, e2⟩ := e
         simp
         done)
      | (obtain ⟨e1, e2⟩ := e
         constructor
         · rintro (h | h)
           · cases h; exact .inl ⟨rfl,rfl⟩
           · exact .inr h
         · rintro (⟨h1,h2⟩ | h)
           · cases h1; cases h2; exact .inl rfl
           · exact .inr h)
theorem jZ:∀{own:List Bool} {vs:List V} {a0:Nat} {e:mr},e∈aZ a0 own vs↔∃a v k x,own[a]?=some true∧vs[a]?=some v∧(cells v)[k]?=some x∧dA x=some e.1∧e.2=(jF x,a0+a,k)
 | [],vs,a0,e=>by simp[aZ]
 | b::own,[],a0,e=>by cases b<;>simp[aZ]
 | true::own,v::vs,a0,e=>by
  simp only[aZ,List.mem_append]
  rw[BG,jZ (own:=own)]
  constructor
  ·rintro (⟨k,x,h1,h2,h3⟩ | ⟨a,v',k,x,h1,h2,h3,h4,h5⟩)
   ·exact⟨0,v,k,x,by simp,by simp,h1,h2,by simpa using h3⟩
   ·exact⟨a+1,v',k,x,by simpa using h1,by simpa using h2,h3,h4,by rw[h5];congr 2;omega⟩
  ·rintro⟨a,v',k,x,h1,h2,h3,h4,h5⟩
   cases a with
   | zero=>simp at h2;subst h2;exact .inl ⟨k,x,h3,h4,by simpa using h5⟩
   | succ a=>exact .inr ⟨a,v',k,x,by simpa using h1,by simpa using h2,h3,h4,by rw[h5];congr 2;omega⟩
 | false::own,v::vs,a0,e=>by
  simp only[aZ]
  rw[jZ (own:=own)]
  constructor
  ·rintro⟨a,v',k,x,h1,h2,h3,h4,h5⟩
   exact⟨a+1,v',k,x,by simpa using h1,by simpa using h2,h3,h4,by rw[h5];congr 2;omega⟩
  ·rintro⟨a,v',k,x,h1,h2,h3,h4,h5⟩
   cases a with
   | zero=>simp at h1
   | succ a=>exact⟨a,v',k,x,by simpa using h1,by simpa using h2,h3,h4,by rw[h5];congr 2;omega⟩
theorem mD:∀{own:List Bool} {vs:List V} {o:Nat},(∃(a:Nat) (v:V),own[a]?≠some true∧vs[a]?=some v∧o∈di v)→o∈bl own vs
 | own,[],o,⟨a,v,h1,h2,h3⟩=>by simp at h2
 | [],v::vs,o,⟨a,v',h1,h2,h3⟩=>by
  simp only[bl,List.mem_append]
  cases a with
  | zero=>simp at h2;subst h2;exact .inl h3
  | succ a=>exact .inr (mD (own:=[]) ⟨a,v',by simp,by simpa using h2,h3⟩)
 | true::own,v::vs,o,⟨a,v',h1,h2,h3⟩=>by
  simp only[bl]
  cases a with
  | zero=>simp at h1
  | succ a=>exact mD ⟨a,v',by simpa using h1,by simpa using h2,h3⟩
 | false::own,v::vs,o,⟨a,v',h1,h2,h3⟩=>by
  simp only[bl,List.mem_append]
  cases a with
  | zero=>simp at h2;subst h2;exact .inl h3
  | succ a=>exact .inr (mD ⟨a,v',by simpa using h1,by simpa using h2,h3⟩)
theorem od:∀{g:List mr} {o:Nat} {x:fU×Nat×Nat},dI g o=some x→(o,x)∈g
 | [],o,x,h=>by simp[dI] at h
 | (o',y)::g,o,x,h=>by
  simp only[dI] at h
  split at h
  ·rename_i he;cases h;subst he;simp
  ·exact List.mem_cons_of_mem _ (od h)
theorem BK:∀{g:List mr} {o:Nat} {x:fU×Nat×Nat},lz (g.map (·.1))=true→(o,x)∈g→dI g o=some x
 | [],o,x,h,hm=>by simp at hm
 | (o',y)::g,o,x,h,hm=>by
  simp only[List.map_cons,lz,Bool.and_eq_true,Bool.not_eq_true'] at h
  simp only[dI]
  rcases List.mem_cons.1 hm with hm' | hm'
  ·cases hm';simp
  ·have hne:o≠o':=by
    rintro rfl
    have h1:=h.1
    have:o∈g.map (·.1):=List.mem_map.2 ⟨(o,x),hm',rfl⟩
    simp only[List.contains_eq_mem,decide_eq_false_iff_not] at h1
    exact h1 this
   rw[if_neg hne]
   exact BK h.2 hm'
theorem la {g:List mr}{o:Nat}(h:o∉g.map (·.1)):dI g o=none:=by
 cases hl:dI g o with
 | none=>rfl
 | some x=>exact absurd ((List.mem_map (f:=fun x=>x.1)).2 ⟨(o,x),od hl,rfl⟩) h
end
section
variable {w w' : World} {ρ ρ' ρ'' : bg} {rt rt' rt'' : ai} {N : Nat→Nat→Prop}
theorem RepV.monoN (mv:cS→cS)(ok:cS→Prop)(hmv:∀l i k,ok l→mv (l.at i k)=(mv l).at i k)(hok:∀l i k,ok l→ok (l.at i k))(K3:∀b l,ok l→ρ b=some l→ρ' b=some (mv l)∧w'.heap[b]?=w.heap[b]?){L:Option cS}{v:V}{u:Value}(h:RepV w ρ rt L v u):(∀l,L=some l→ok l)→nh v→cy v=false→RepV w' ρ' rt' (L.map mv) v u:=by
 have hms:∀{vs:List V} {i:Nat} {v:V},cY vs=false→vs[i]?=some v→cy v=false:=by
  intro vs
  induction vs with
  | nil=>intro i v _ h;simp at h
  | cons x vs ih=>
   intro i v h e
   simp only[cY,Bool.or_eq_false_iff] at h
   cases i with
   | zero=>simp at e;subst e;exact h.1
   | succ i=>exact ih h.2 (by simpa using e)
 have hcl:∀{v x:V} {k:Nat},cy v=false→(cells v)[k]?=some x→cy x=false:=by
  intro v x k h e
  by_cases ha:al v=true
  ·cases v<;>simp[al] at ha
   exact hms (by simpa[cy,cells] using h) e
  ·rw[bw (by simpa using ha)] at e
   cases k<;>simp at e
   subst e
   exact h
 induction h with
 | und L=>exact fun _ _ _=>.und _
 | dead L u=>exact fun _ _ _=>.dead _ _
 | bool L b=>exact fun _ _ _=>.bool _ _
 | int L k n=>exact fun _ _ _=>.int _ _ _
 | str L s=>exact fun _ _ _=>.str _ _
 | nilp L=>exact fun _ _ _=>.nilp _
 | nilfn L=>exact fun _ _ _=>.nilfn _
 | nilif L=>exact fun _ _ _=>.nilif _
 | fn L f caps g h ih=>exact fun _ hn hi=>.fn _ _ _ g fun i v hv=>ih i v hv (by simp) (cp (by simpa[nh] using hn) hv) (hms (by simpa[cy] using hi) hv)
 | iface L t v g h ih=>exact fun _ hn hi=>.iface _ _ _ g fun i x hx=>ih i x hx (by simp) (bC (by simpa[nh] using hn) hx) (hcl (by simpa[cy] using hi) hx)
 | tup L vs p g hp h ih=>exact fun _ hn hi=>.tup _ _ p g hp fun c v k x hv hx=>ih c v k x hv hx (by simp) (bC (cp (by simpa[nh] using hn) hv) hx) (hcl (hms (by simpa[cy] using hi) hv) hx)
 | iptr L e k b off g hb hρ hc h ih=>exact fun _ _ hi=>by simp[cy] at hi
 | isl0 L nl A c hn=>exact fun _ _ _=>.isl0 _ _ _ _ hn
 | isl L es b off c s g hl h0 hρ hb hs hc h ih=>exact fun _ _ hi=>by simp[cy] at hi;subst hi;simp at h0
 | usl0 l s A=>exact fun _ _ _=>.usl0 _ _ _
 | usl l s es b A c arr T g hρ hb hl hA hcap hs hc h ih=>
  intro ho hn hi
  have k:=K3 b l (ho l rfl) hρ
  exact .usl _ s es b A c arr T g k.1 (by rw[k.2];exact hb) hl hA hcap hs hc fun i e k x he hx=>by
   have:=ih i e k x he hx (fun l' h'=>by cases h';exact hok _ _ _ (ho l rfl)) (bC (cp (by simpa[nh] using hn) he) hx) (hcl (hms (by simpa[cy] using hi) he) hx)
   rwa[Option.map_some,hmv _ _ _ (ho l rfl)] at this
 | uptr l e b arr T g hρ hb hc h ih=>
  intro ho hn hi
  have k:=K3 b l (ho l rfl) hρ
  exact .uptr _ e b arr T g k.1 (by rw[k.2];exact hb) hc fun k x hx=>by
   have:=ih k x hx (fun l' h'=>by cases h';exact hok _ _ _ (ho l rfl)) (bC (by simpa[nh] using hn) hx) (hcl (by simpa[cy] using hi) hx)
   rwa[Option.map_some,hmv _ _ _ (ho l rfl)] at this
 | hp L o nv path s i k u h h1'=>exact fun _ hn _=>by simp[nh] at hn
 | hs L o nv path s off len u h h1'=>exact fun _ hn _=>by simp[nh] at hn
theorem JP (J:eM ρ){L:cS}{s c:Nat}{es:List V}{A:Option Addr}(h:bW w ρ rt L s es)(hlc:es.length≤c)(hcc:c≠0→∃b n,ρ b=some L∧km w b n∧A=some ⟨b,0,none⟩∧c*s≤n):RepV w ρ rt (some L) (.usl s es) (.slice A es.length c):=by
 by_cases hc0:c=0
 ·subst hc0
  have:es=[]:=List.length_eq_zero_iff.1 (by omega)
  subst this
  exact .usl0 _ _ _
 ·obtain⟨b,n,hb,⟨arr,T,hbb,rfl⟩,rfl,hle⟩:=hcc hc0
  rcases h with rfl | ⟨b2,arr2,T2,g2,i1,i2,i3,i4,i5⟩
  ·exact .usl _ s [] b _ c arr T (fun _ _=>undef) hb hbb hlc (fun _=>rfl) hle (by simp) (by simp) (by simp)
  ·have:=J _ _ _ hb i1
   subst this
   rw[hbb] at i2
   cases i2
   exact .usl _ _ _ b _ c arr T g2 hb hbb hlc (fun _=>rfl) hle i3 i4 i5
theorem Hp (J:eM ρ){L:cS}{s b:Nat}{e:V}(h:bW w ρ rt L s [e])(hb:ρ b=some L):RepV w ρ rt (some L) (.uptr e) (.pointer (some ⟨b,0,none⟩)):=by
 rcases h with h | ⟨b2,arr2,T2,g2,i1,i2,i3,i4,i5⟩
 ·cases h
 ·have:=J _ _ _ hb i1
  subst this
  exact .uptr _ e b arr2 T2 (g2 0) hb i2 (fun k x hx=>by simpa using i4 0 e k x rfl hx) (fun k x hx=>i5 0 e k x rfl hx)
theorem DE {cc d:V}(h:ib rt cc=some d)(hc:al cc=false):al d=false:=by
 unfold ib at h
 split at h
 ·simp only[aG] at h
  obtain⟨r,_,x,_,h⟩:=h
  split at h<;>cases h
  rfl
 ·simp only[aG] at h
  obtain⟨r,_,x,_,h⟩:=h
  split at h
  ·split at h<;>cases h
   rfl
  ·cases h
 ·split at h<;>cases h
  exact hc
theorem sC:∀{vs xs:List V},ob rt vs=some xs→xs.length=vs.length∧∀(k:Nat) c,vs[k]?=some c→∃d,xs[k]?=some d∧ib rt c=some d
 | [],xs,h=>by simp[ob] at h;subst h;simp
 | v::vs,xs,h=>by
  simp only[ob,aG,aI] at h
  obtain⟨x,hx,ys,hys,rfl⟩:=h
  obtain⟨l,ih⟩:=sC hys
  refine⟨by simp[l],fun k c hc=>?_⟩
  cases k with
  | zero=>simp at hc;subst hc;exact⟨x,by simp,hx⟩
  | succ k=>simpa using ih k c (by simpa using hc)
theorem sV:∀{vs xs:List V},iu rt vs=some xs→xs.length=vs.length∧∀(k:Nat) c,vs[k]?=some c→∃d,xs[k]?=some d∧fO rt c=some d
 | [],xs,h=>by simp[iu] at h;subst h;simp
 | v::vs,xs,h=>by
  simp only[iu,aG,aI] at h
  obtain⟨x,hx,ys,hys,rfl⟩:=h
  obtain⟨l,ih⟩:=sV hys
  refine⟨by simp[l],fun k c hc=>?_⟩
  cases k with
  | zero=>simp at hc;subst hc;exact⟨x,by simp,hx⟩
  | succ k=>simpa using ih k c (by simpa using hc)
theorem qb:∀{own:List Bool} {vs xs:List V},eK rt own vs=some xs→xs.length=vs.length∧∀(a:Nat) v,vs[a]?=some v→∃x,xs[a]?=some x∧((own[a]?=some true∧ox rt v=some x)∨(own[a]?≠some true∧hJ rt v=some x))
 | own,[],xs,h=>by simp[eK] at h;subst h;simp
 | own,v::vs,xs,h=>by
  have step:∀(own':List Bool) (x:V) (ys:List V),eK rt own' vs=some ys→xs=x::ys→(∀a,own[a+1]?=own'[a]?)→((own[0]?=some true∧ox rt v=some x)∨(own[0]?≠some true∧hJ rt v=some x))→
    xs.length=(v::vs).length∧∀(a:Nat) v',(v::vs)[a]?=some v'→∃x,xs[a]?=some x∧((own[a]?=some true∧ox rt v'=some x)∨(own[a]?≠some true∧hJ rt v'=some x)):=by
   intro own' x ys h1 h2 h3 h4
   subst h2
   obtain⟨l,ih⟩:=qb h1
   refine⟨by simp[l],fun a v' hv=>?_⟩
   cases a with
   | zero=>simp at hv;subst hv;exact⟨x,by simp,h4⟩
   | succ a=>
    obtain⟨y,e1,e2⟩:=ih a v' (by simpa using hv)
    refine⟨y,by simpa using e1,?_⟩
    rw[h3]
    exact e2
  match own,h,step with
  | true::bs,h,step=>
   simp only[eK,aG,aI] at h
   obtain⟨x,hx,ys,hys,rfl⟩:=h
   exact step bs x ys hys rfl (by simp) (.inl ⟨by simp,hx⟩)
  | false::bs,h,step=>
   simp only[eK,aG,aI] at h
   obtain⟨x,hx,ys,hys,rfl⟩:=h
   exact step bs x ys hys rfl (by simp) (.inr ⟨by simp,hx⟩)
  | [],h,step=>
   simp only[eK,aG,aI] at h
   obtain⟨x,hx,ys,hys,rfl⟩:=h
   exact step [] x ys hys rfl (by simp) (.inr ⟨by simp,hx⟩)
def ql:fU→fU→Option fU
 | [],l=>some l
 | x::p,y::l=>if x=y then ql p l else none
 | _::_,[]=>none
theorem ot:∀{p l t:fU},ql p l=some t↔l=p++t
 | [],l,t=>by simp[ql]
 | x::p,[],t=>by simp[ql]
 | x::p,y::l,t=>by
  simp only[ql,List.cons_append,List.cons.injEq]
  split
  ·rename_i h;subst h;rw[ot];simp
  ·rename_i h;exact⟨fun h'=>(by cases h'),fun h'=>absurd h'.1.symm h⟩
theorem JK {p l:fU}:ql p l=none↔¬p <+: l:=by
 constructor
 ·rintro h ⟨t,ht⟩
  rw[ot.2 ht.symm] at h
  cases h
 ·intro h
  cases hs:ql p l with
  | none=>rfl
  | some t=>exact absurd ⟨t,(ot.1 hs).symm⟩ h
def dj (ρ:bg)(g:List mr)(lent:List Nat):bg:=fun b=>
 match ρ b with
 | none=>none
 | some (o,l)=>match dI g o with
  | some (p,a,k)=>(match ql p l with
   | some t=>some (1,(a,k)::t)
   | none=>some (0,[(b,0)]))
  | none=>if lent.contains o then none else some (0,[(b,0)])
theorem pG {g lent b}(h:ρ b=none):dj ρ g lent b=none:=by simp[dj,h]
theorem jO {g lent b o p t a k}(h:ρ b=some (o,p++t))(hg:dI g o=some (p,a,k)):dj ρ g lent b=some (1,(a,k)::t):=by simp[dj,h,hg,ot.2 rfl]
theorem uH {g lent b o p l a k}(h:ρ b=some (o,l))(hg:dI g o=some (p,a,k))(hp:¬p <+: l):dj ρ g lent b=some (0,[(b,0)]):=by simp[dj,h,hg,JK.2 hp]
theorem mu {g lent b o l}(h:ρ b=some (o,l))(hg:dI g o=none)(hl:o∈lent):dj ρ g lent b=none:=by simp[dj,h,hg,hl]
theorem qt {g lent b o l}(h:ρ b=some (o,l))(hg:dI g o=none)(hl:o∉lent):dj ρ g lent b=some (0,[(b,0)]):=by simp[dj,h,hg,hl]
structure CallChk (own:List Bool) (args:List V):Prop where
 nd:lz ((aZ 0 own args).map (·.1))=true
 z:0∉(aZ 0 own args).map (·.1)
 dis:∀o,o∈bl own args→o∉(aZ 0 own args).map (·.1)
 z':0∉bl own args
theorem P1 {own:List Bool}{args:List V}(h:(lz (0::(aZ 0 own args).map (·.1))&&(bl own args).all (fun o=>!(0::(aZ 0 own args).map (·.1)).contains o))=true):CallChk own args:=by
 simp only[lz,Bool.and_eq_true,Bool.not_eq_true',List.contains_eq_mem,decide_eq_false_iff_not,List.all_eq_true,List.mem_cons,not_or] at h
 exact⟨h.1.2,h.1.1,fun o ho=>(h.2 o ho).2,fun ho=>(h.2 0 ho).1 rfl⟩
theorem kX {own:List Bool}{args:List V}(c:CallChk own args){o a k:Nat}{p:fU}:dI (aZ 0 own args) o=some (p,a,k)↔∃v x,own[a]?=some true∧args[a]?=some v∧(cells v)[k]?=some x∧dA x=some o∧p=jF x:=by
 constructor
 ·intro h
  obtain⟨a',v,k',x,h1,h2,h3,h4,h5⟩:=jZ.1 (od h)
  rw[Nat.zero_add] at h5
  cases h5
  exact⟨v,x,h1,h2,h3,h4,rfl⟩
 ·rintro⟨v,x,h1,h2,h3,h4,rfl⟩
  exact BK c.nd (jZ.2 ⟨a,v,k,x,h1,h2,h3,h4,by rw[Nat.zero_add]⟩)
theorem ww (J:eM ρ){U:Pl}(hL:Lab w ρ rt U){own:List Bool}{args:List V}(c:CallChk own args):Inn w (dj ρ (aZ 0 own args) (bl own args)):=by
 have inv:∀b L,dj ρ (aZ 0 own args) (bl own args) b=some L→(∃o p t a k,ρ b=some (o,p++t)∧dI (aZ 0 own args) o=some (p,a,k)∧L=(1,(a,k)::t))∨(∃o l,ρ b=some (o,l)∧L=(0,[(b,0)])):=by
  intro b L h
  unfold dj at h
  split at h
  ·cases h
  ·rename_i o l hb
   split at h
   ·rename_i p a k hg
    split at h
    ·rename_i t ht
     cases h
     exact .inl ⟨o,p,t,a,k,by rw[hb,ot.1 ht],hg,rfl⟩
    ·cases h
     exact .inr ⟨o,l,hb,rfl⟩
   ·split at h
    ·cases h
    ·cases h
     exact .inr ⟨o,l,hb,rfl⟩
 refine⟨?_,?_,?_⟩
 ·intro b b' L h h'
  rcases inv b L h with⟨o,p,l,a,k,h1,h2,rfl⟩ | ⟨o,l,h1,rfl⟩<;>rcases inv b' _ h' with⟨o',p',l',a',k',h1',h2',h3⟩ | ⟨o',l',h1',h3⟩
  ·cases h3
   obtain⟨v,x,e1,e2,e3,e4,e5⟩:=(kX c).1 h2
   obtain⟨v',x',e1',e2',e3',e4',e5'⟩:=(kX c).1 h2'
   rw[e2] at e2'
   cases e2'
   rw[e3] at e3'
   cases e3'
   rw[e4] at e4'
   cases e4'
   rw[←e5] at e5'
   subst e5'
   exact J _ _ _ h1 h1'
  ·cases h3
  ·cases h3
  ·cases h3;rfl
 ·intro b o l h
  rcases inv b _ h with⟨o',p',l',a,k,h1,h2,h3⟩ | ⟨o',l',h1,h3⟩
  ·cases h3;exact⟨(hL _ _ _ h1).1,.inr rfl⟩
  ·cases h3;exact⟨(hL _ _ _ h1).1,.inl rfl⟩
 ·intro b l h
  rcases inv b _ h with⟨o',p',l',a,k,h1,h2,h3⟩ | ⟨o',l',h1,h3⟩
  ·cases h3
  ·cases h3;rfl
theorem FX {U:Pl}(hL:Lab w ρ rt U){own:List Bool}{args:List V}(c:CallChk own args):Keep N w ρ rt w (dj ρ (aZ 0 own args) (bl own args)) gR:=by
 refine⟨fun b hb _=>⟨pG hb,rfl⟩,fun o nv p _ hl=>?_,fun b l hb=>⟨?_,rfl⟩⟩
 ·simp[b8,bD,bA,gR] at hl
 ·rw[hL.f _ _ hb] at *
  exact qt hb (la c.z) c.z'
theorem NL (H:et w ρ rt)(J:eM ρ)(hr:gE rt){U:Pl}(hL:Lab w ρ rt U){own:List Bool}{args xs:List V}{us:List Value}(c:CallChk own args)(hlen:args.length=us.length)(hv:∀(a:Nat) v u,args[a]?=some v→us[a]?=some u→aM w ρ rt bq v u∧an N v)(h:eK rt own args=some xs):kj w (dj ρ (aZ 0 own args) (bl own args)) xs us:=by
 obtain⟨l,hx⟩:=qb h
 have K:=FX (N:=N) (rt:=rt) hL c
 have I:=ww J hL c
 refine⟨by omega,fun a x u hxa hua=>?_⟩
 have hal:=(cd.1 hxa).1
 obtain⟨v,hva⟩:∃v,args[a]?=some v:=⟨_,d5 (by omega)⟩
 obtain⟨x',e1,e2⟩:=hx a v hva
 rw[hxa] at e1
 cases e1
 obtain⟨⟨g,hp,hg⟩,hn⟩:=hv a v u hva hua
 have shareCell:own[a]?≠some true→∀(k:Nat) cc d,(cells v)[k]?=some cc→fO rt cc=some d→RepV w (dj ρ (aZ 0 own args) (bl own args)) gR none d (g k)∧nh d:=by
  intro ho k cc d hc hd
  refine yG H J hr K hd (hg k cc hc) (gC hn hc) fun b o l ho' hb=>?_
  have hin:o∈bl own args:=mD ⟨a,v,ho,hva,?_⟩
  ·exact⟨mu hb (la (c.dis o hin)) hin,(hL _ _ _ hb).1⟩
  ·by_cases ha:al v=true
   ·cases v<;>simp[al] at ha
    rename_i cs
    simp only[di]
    have:∀{cs:List V} {k:Nat} {cc:V},cs[k]?=some cc→o∈di cc→o∈dS cs:=by
     intro cs
     induction cs with
     | nil=>intro k cc h;simp at h
     | cons y cs ih=>
      intro k cc h ho
      simp only[dS,List.mem_append]
      cases k with
      | zero=>simp at h;subst h;exact .inl ho
      | succ k=>exact .inr (ih (by simpa using h) ho)
    exact this hc ho'
   ·rw[bw (by simpa using ha)] at hc
    cases k<;>simp at hc
    subst hc
    exact ho'
 have kF:al x=al v→(cells x).length=(cells v).length→(∀(k:Nat) d,(cells x)[k]?=some d→RepV w (dj ρ (aZ 0 own args) (bl own args)) gR (some (1,[(a,k)])) d (g k)∧nh d)→
   aM w (dj ρ (aZ 0 own args) (bl own args)) gR (fun k=>some (1,[(a,k)])) x u∧nh x:=by
  intro h1 h2 h3
  refine⟨⟨g,by rw[hp];unfold fc;rw[h1,h2],fun k d hd=>(h3 k d hd).1⟩,?_⟩
  by_cases ha:al x=true
  ·cases x<;>simp[al] at ha
   simp only[nh]
   exact cZ.2 fun d hd=>by
    obtain⟨k,hk⟩:=List.mem_iff_getElem?.1 hd
    exact (h3 k d hk).2
  ·exact (h3 0 x (by rw[bw (by simpa using ha)];rfl)).2
 have giveCell:own[a]?=some true→∀(k:Nat) cc d,(cells v)[k]?=some cc→ib rt cc=some d→RepV w (dj ρ (aZ 0 own args) (bl own args)) gR (some (1,[(a,k)])) d (g k)∧nh d:=by
  intro ho k cc d hc hd
  have hr1:=hg k cc hc
  have hn1:=gC hn hc
  have row:∀o nv r s es,dA cc=some o→bA rt o nv (jF cc)=some r→aU (jF cc) r.s r.es=some (s,es)→bW w (dj ρ (aZ 0 own args) (bl own args)) gR (1,[(a,k)]) s es∧nhs es∧(∀b,ρ b=some (o,jF cc)→dj ρ (aZ 0 own args) (bl own args) b=some (1,[(a,k)]))∧b8 rt o nv (jF cc):=by
   intro o nv r s es h1 h2 h3
   have hlk:=(kX c).2 ⟨v,cc,ho,hva,hc,h1,rfl⟩
   have hlook:bD rt o nv (jF cc)=some (s,es):=by simp[bD,h2,h3]
   have hnes:nhs es:=iY (hr o r (d8 h2).1) h3
   exact⟨bW.move K (fun b l hb=>⟨jO hb hlk,rfl⟩) (nu H hlook) hnes,hnes,fun b hb=>jO (t:=[]) (by simpa using hb) hlk,by simp[b8,hlook]⟩
  unfold ib at hd
  split at hd
  ·rename_i o nv p s off len
   simp only[aG] at hd
   obtain⟨r,hro,⟨s2,es2⟩,hrow,hd⟩:=hd
   simp only at hd
   split at hd
   ·rename_i hcond
    cases hd
    obtain⟨rfl,rfl,rfl⟩:=hcond
    obtain⟨h1,h2,h3,hlive⟩:=row o nv r s es2 rfl hro hrow
    refine⟨?_,by simpa[nh] using h2⟩
    generalize g k=u' at hr1 ⊢
    cases hr1 with
    | hs _ _ _ _ _ _ _ _ hh _=>
     obtain⟨cc,A,rfl,hlc,hcc⟩:=hh hlive
     refine JP I.inj h1 hlc fun h0=>?_
     obtain⟨b,n,hb,hbl,rfl,hle⟩:=hcc h0
     exact⟨b,n,h3 b hb,hbl,by simp,by simpa using hle⟩
   ·cases hd
  ·rename_i o nv p s i j
   simp only[aG] at hd
   obtain⟨r,hro,⟨s2,es2⟩,hrow,hd⟩:=hd
   simp only at hd
   split at hd
   ·rename_i e
    split at hd
    ·rename_i hcond
     cases hd
     obtain⟨rfl,rfl,rfl,hes⟩:=hcond
     obtain⟨h1,h2,h3,hlive⟩:=row o nv r s [e] rfl hro hrow
     refine⟨?_,by simpa[nh,nhs] using h2⟩
     generalize g k=u' at hr1 ⊢
     cases hr1 with
     | hp _ _ _ _ _ _ _ _ hh _=>
      obtain⟨b,n,hb,hbl,rfl⟩:=hh hlive
      simpa using Hp I.inj h1 (h3 b hb)
    ·cases hd
   ·cases hd
  ·split at hd
   ·rename_i hpl
    cases hd
    exact⟨(hr1.keep K hn1).anyN,pN hpl hn1⟩
   ·cases hd
 rcases e2 with⟨ho,hgv⟩ | ⟨ho,hsh⟩
 ·by_cases ha:al v=true
  ·cases v<;>simp[al] at ha
   rename_i cs
   simp only[ox,aI] at hgv
   obtain⟨ds,hds,rfl⟩:=hgv
   obtain⟨l2,hget⟩:=sC hds
   refine kF rfl l2 fun k d hd=>?_
   have hk:=(cd.1 hd).1
   obtain⟨d',e1,e2⟩:=hget k _ (d5 (show k<cs.length by rw[←l2];exact hk))
   have hd':ds[k]?=some d:=hd
   rw[hd'] at e1
   cases e1
   exact giveCell ho k _ d (d5 (show k<cs.length by rw[←l2];exact hk)) e2
  ·have ha':al v=false:=by simpa using ha
   have hg':ib rt v=some x:=by cases v<;>first | exact hgv | exact absurd rfl ha
   have hh:=giveCell ho 0 v x (by rw[bw ha'];rfl) hg'
   have hxa:al x=false:=DE hg' ha'
   refine kF (by rw[hxa,ha']) (by rw[bw hxa,bw ha'];rfl) fun k d hd=>?_
   rw[bw hxa] at hd
   cases k<;>simp at hd
   subst hd
   exact hh
 ·by_cases ha:al v=true
  ·cases v<;>simp[al] at ha
   rename_i cs
   simp only[hJ,aI] at hsh
   obtain⟨ds,hds,rfl⟩:=hsh
   obtain⟨l2,hget⟩:=sV hds
   refine kF rfl l2 fun k d hd=>?_
   have hk:=(cd.1 hd).1
   obtain⟨d',e1,e2⟩:=hget k _ (d5 (show k<cs.length by rw[←l2];exact hk))
   have hd':ds[k]?=some d:=hd
   rw[hd'] at e1
   cases e1
   have:=shareCell ho k _ d (d5 (show k<cs.length by rw[←l2];exact hk)) e2
   exact⟨this.1.anyN,this.2⟩
  ·have ha':al v=false:=by simpa using ha
   have hv0:(cells v)[0]?=some v:=by rw[bw ha'];rfl
   by_cases hfn:∃f caps,v=.fn f caps
   ·obtain⟨f,caps,rfl⟩:=hfn
    simp only[hJ,aI] at hsh
    obtain⟨ds,hds,rfl⟩:=hsh
    obtain⟨l2,hget⟩:=sV hds
    refine kF rfl rfl fun k d hd=>?_
    have:k=0∧d=.fn f ds:=by
     cases k<;>simp[cells] at hd
     exact⟨rfl,hd.symm⟩
    obtain⟨rfl,rfl⟩:=this
    have h0:=hg 0 _ hv0
    generalize g 0=u0 at h0 ⊢
    cases h0 with
    | fn _ _ _ g2 hg2=>
     have each:∀(i:Nat) d,ds[i]?=some d→RepV w (dj ρ (aZ 0 own args) (bl own args)) gR none d (g2 i)∧nh d:=by
      intro i d hd
      have hk:=(cd.1 hd).1
      have hci:caps[i]?=some (caps[i]'(by omega)):=d5 _
      obtain⟨d',e1,e2⟩:=hget i _ hci
      rw[hd] at e1
      cases e1
      refine yG H J hr K e2 (hg2 i _ hci) (ga (by simpa[an] using hn) hci) fun b o l ho' hb=>?_
      have hin:o∈bl own args:=mD ⟨a,_,ho,hva,by
       simp only[di]
       have:∀{cs:List V} {k:Nat} {cc:V},cs[k]?=some cc→o∈di cc→o∈dS cs:=by
        intro cs
        induction cs with
        | nil=>intro k cc h;simp at h
        | cons y cs ih=>
         intro k cc h ho
         simp only[dS,List.mem_append]
         cases k with
         | zero=>simp at h;subst h;exact .inl ho
         | succ k=>exact .inr (ih (by simpa using h) ho)
       exact this hci ho'⟩
      exact⟨mu hb (la (c.dis o hin)) hin,(hL _ _ _ hb).1⟩
     rw[←l2]
     refine⟨.fn _ _ _ g2 fun i d hd=>(each i d hd).1,?_⟩
     simp only[nh]
     refine cZ.2 fun d hd=>?_
     obtain⟨k,hk⟩:=List.mem_iff_getElem?.1 hd
     exact (each k d hk).2
   ·have hs':fO rt v=some x:=by
     cases v<;>first | exact hsh | exact absurd rfl ha | exact absurd ⟨_,_,rfl⟩ hfn
    have hh:=shareCell ho 0 v x hv0 hs'
    have hxa:al x=false:=by
     have:=hs'
     unfold fO at this
     split at this
     ·simp only[aG] at this
      obtain⟨r,_,h⟩:=this
      split at h<;>cases h
      rfl
     ·simp only[aG] at this
      obtain⟨r,_,h⟩:=this
      split at h
      ·simp only[aI] at h
       obtain⟨_,_,rfl⟩:=h
       rfl
      ·cases h
     ·cases this;rfl
     ·split at this<;>cases this
      exact ha'
    refine kF (by rw[hxa,ha']) (by rw[bw hxa,bw ha'];rfl) fun k d hd=>?_
    rw[bw hxa] at hd
    cases k<;>simp at hd
    subst hd
    exact⟨hh.1.anyN,hh.2⟩
end
section
variable {w w' : World} {ρ ρ' ρ'' : bg} {rt rt' rt'' : ai} {N : Nat→Nat→Prop}
def N1 (own:List Bool)(args:List V)(a k:Nat):Option (Nat×fU):=
 if own[a]?=some true then (args[a]?).bind fun v=>((cells v)[k]?).bind fun x=>(dA x).map fun o=>(o,jF x) else none
theorem Gh {own:List Bool}{args:List V}(c:CallChk own args){o a k:Nat}{p:fU}:N1 own args a k=some (o,p)↔dI (aZ 0 own args) o=some (p,a,k):=by
 rw[kX c]
 unfold N1
 constructor
 ·intro h
  split at h
  ·rename_i ho
   simp only[aG,aI,Prod.mk.injEq] at h
   obtain⟨v,h1,x,h2,o',h3,rfl,rfl⟩:=h
   exact⟨v,x,ho,h1,h2,h3,rfl⟩
  ·cases h
 ·rintro⟨v,x,ho,h1,h2,h3,rfl⟩
  simp[ho,h1,h2,h3]
theorem Dw {p:fU}{r r':Root}{y:V}(h:iJ p r y=some r'):r'.nv=r.nv+1:=by
 unfold iJ at h
 split at h
 ·unfold pF at h
  split at h
  ·split at h<;>cases h;rfl
  ·split at h<;>cases h;rfl
  ·cases h
 ·simp only[aG] at h
  obtain⟨x,_,h⟩:=h
  split at h
  ·split at h
   ·simp only[aI] at h
    obtain⟨_,_,rfl⟩:=h
    rfl
   ·cases h
  ·split at h
   ·simp only[aI] at h
    obtain⟨_,_,rfl⟩:=h
    rfl
   ·cases h
  ·cases h
theorem Bw {p:fU}{r r':Root}{y:V}(h:iJ p r y=some r'):¬notOwn y:=by
 unfold iJ at h
 split at h
 ·unfold pF at h
  split at h<;>first | (simp[notOwn];done) | cases h
 ·simp only[aG] at h
  obtain⟨x,_,h⟩:=h
  split at h<;>first | (simp[notOwn];done) | cases h
theorem DG {own:List Bool}{v xv xx:V}{a k:Nat}(e1:own[a]?=some true)(e3:(cells v)[k]?=some xx)(e6:(own[a]?=some true∧ox rt v=some xv)∨(own[a]?≠some true∧hJ rt v=some xv)):∃z,(cells xv)[k]?=some z:=by
 rcases e6 with⟨_,hgv⟩ | ⟨h,_⟩
 ·by_cases ha:al v=true
  ·cases v<;>simp[al] at ha
   simp only[ox,aI] at hgv
   obtain⟨ds,hds,rfl⟩:=hgv
   obtain⟨l2,hget⟩:=sC hds
   obtain⟨d,hd,_⟩:=hget k _ e3
   exact⟨d,hd⟩
  ·rw[bw (by simpa using ha)] at e3
   cases k<;>simp at e3
   have hg2:ib rt v=some xv:=by cases v<;>first | exact hgv | exact absurd rfl ha
   rw[bw (DE hg2 (by simpa using ha))]
   exact⟨xv,rfl⟩
 ·exact absurd e1 h
open Classical in
noncomputable def em (w:World)(ρ ρ':bg)(own:List Bool)(args:List V)(dead:List Nat)(rt2:ai)(q:Nat):bg:=fun b=>
 match ρ' b with
 | some (0,_)=>(match ρ b with
  | some (o,l)=>if dI (aZ 0 own args) o=none∨(rt2 o).isSome then some (o,l) else none
  | none=>none)
 | some (1,x::l)=>match N1 own args x.1 x.2 with
  | some (o,p)=>if (rt2 o).isSome then some (o,p++l) else none
  | none=>none
 | some (2,l)=>some (q,l)
 | some _=>none
 | none=>if b<w.heap.size then (match ρ b with
  | some (o,l)=>if dI (aZ 0 own args) o=none∧o∉dead then some (o,l) else none
  | none=>none) else none
section
variable {own : List Bool} {args xs : List V} {us : List Value} {cV : List V} {dead : List Nat} {rt2 : ai} {q : Nat} {r : V} {u : Value}
 (H:et w ρ rt) (J:eM ρ) (hr:gE rt) (hL:Lab w ρ rt jA) (hq:Fresh0 rt q) (c:CallChk own args)
 (af:Aft w (dj ρ (aZ 0 own args) (bl own args)) w' ρ') (hdead:∀o,o∈dead→o∈bl own args) (hrt2:rt2=iK rt (aZ 0 own args) own cV dead)
include H J hr hL hq c af hdead hrt2
theorem sr {b a k o:Nat}{l p}(h:ρ' b=some (1,(a,k)::l))(hg:dI (aZ 0 own args) o=some (p,a,k))(ho:(rt2 o).isSome=true):em w ρ ρ' own args dead rt2 q b=some (o,p++l):=by
 simp[em,h,(Gh c).2 hg,ho]
theorem NH {b:Nat}{l}(h:ρ' b=some (2,l)):em w ρ ρ' own args dead rt2 q b=some (q,l):=by simp[em,h]
theorem uG {b o:Nat}{l}(h:ρ b=some (o,l))(hg:dI (aZ 0 own args) o=none)(ho:o∉dead):em w ρ ρ' own args dead rt2 q b=some (o,l)∧w'.heap[b]?=w.heap[b]?:=by
 have hlt:=(hL b o l h).1
 by_cases hl:o∈bl own args
 ·have h1:=af.fr b (mu h hg hl) hlt
  exact⟨by simp[em,h1.1,hlt,h,hg,ho],h1.2⟩
 ·have h1:=af.k0 b _ (qt h hg hl)
  exact⟨by simp[em,h1.1,h,hg],h1.2⟩
theorem Dz {b o a k:Nat}{l p}(h:ρ b=some (o,l))(hg:dI (aZ 0 own args) o=some (p,a,k))(hp:¬p <+: l)(ho:(rt2 o).isSome=true):em w ρ ρ' own args dead rt2 q b=some (o,l)∧w'.heap[b]?=w.heap[b]?:=by
 have h1:=af.k0 b _ (uH h hg hp)
 exact⟨by simp[em,h1.1,h,ho],h1.2⟩
theorem nk {b o:Nat}{l}(h:em w ρ ρ' own args dead rt2 q b=some (o,l)):(∃p t a k,l=p++t∧ρ' b=some (1,(a,k)::t)∧dI (aZ 0 own args) o=some (p,a,k)∧(rt2 o).isSome=true)∨(o=q∧ρ' b=some (2,l))∨
  (ρ b=some (o,l)∧((dI (aZ 0 own args) o=none∧o∉dead)∨∃p a k,dI (aZ 0 own args) o=some (p,a,k)∧¬p <+: l∧(rt2 o).isSome=true)):=by
 unfold em at h
 split at h
 ·rename_i l' hb
  right;right
  have h1:=af.f0 b l' hb
  split at h
  ·rename_i o1 l1 hb1
   split at h
   ·rename_i hor
    cases h
    refine⟨hb1,?_⟩
    cases hg:dI (aZ 0 own args) o with
    | none=>
     refine .inl ⟨rfl,fun hd=>?_⟩
     rw[mu hb1 hg (hdead o hd)] at h1
     cases h1
    | some x=>
     obtain⟨p,a,k⟩:=x
     refine .inr ⟨p,a,k,rfl,?_,hor.resolve_left (by rw[hg];simp)⟩
     rintro⟨t,rfl⟩
     rw[jO hb1 hg] at h1
     cases h1
   ·cases h
  ·cases h
 ·rename_i x l' hb
  split at h
  ·rename_i o' p' hi
   split at h
   ·rename_i hs
    cases h
    exact .inl ⟨p',l',x.1,x.2,rfl,hb,(Gh c).1 hi,hs⟩
   ·cases h
  ·cases h
 ·rename_i l' hb
  cases h
  exact .inr (.inl ⟨rfl,hb⟩)
 ·cases h
 ·split at h
  ·split at h
   ·rename_i hb
    split at h
    ·rename_i hc
     cases h
     exact .inr (.inr ⟨hb,.inl hc⟩)
    ·cases h
   ·cases h
  ·cases h
theorem Ly (hd:∀o,o∈bl own args→o∈dead){b:Nat}(h:ρ' b=none):em w ρ ρ' own args dead rt2 q b=none:=by
 cases hb:em w ρ ρ' own args dead rt2 q b with
 | none=>rfl
 | some L=>
  obtain⟨o,l⟩:=L
  exfalso
  rcases nk H J hr hL hq c af hdead hrt2 hb with⟨p,t,a,k,_,h1,_⟩ | ⟨_,h1⟩ | ⟨h1,⟨h2,h3⟩ | ⟨p,a,k,h2,h3,_⟩⟩
  ·rw[h] at h1;cases h1
  ·rw[h] at h1;cases h1
  ·have:=(af.k0 b _ (qt h1 h2 (fun hl=>h3 (hd o hl)))).1
   rw[h] at this
   cases this
  ·have:=(af.k0 b _ (uH h1 h2 h3)).1
   rw[h] at this
   cases this
theorem yD {o:Nat}(h:rt o=none):rt2 o=none:=by
 rw[hrt2]
 unfold iK
 split
 ·simp[h]
 ·split
  ·rfl
  ·exact h
theorem sS {o:Nat}{r':Root}(h:rt2 o=some r')(hg:dI (aZ 0 own args) o=none):rt o=some r'∧o∉dead:=by
 rw[hrt2] at h
 unfold iK at h
 rw[hg] at h
 simp only at h
 split at h
 ·cases h
 ·rename_i hd
  exact⟨h,by simpa using hd⟩
theorem yC {o a k:Nat}{p:fU}{r':Root}(h:rt2 o=some r')(hg:dI (aZ 0 own args) o=some (p,a,k)):∃r x y,rt o=some r∧dV own cV a=some x∧(cells x)[k]?=some y∧iJ p r y=some r':=by
 rw[hrt2] at h
 unfold iK at h
 rw[hg] at h
 simp only[aG] at h
 obtain⟨r,h1,y,⟨x,h2,h3⟩,h4⟩:=h
 exact⟨r,x,y,h1,h2,h3,h4⟩
theorem FV:eM (em w ρ ρ' own args dead rt2 q):=by
 have hq2:rt2 q=none:=yD H J hr hL hq c af hdead hrt2 (hq.at')
 have hqρ:∀b l,ρ b≠some (q,l):=by
  intro b l h
  rcases (hL _ _ _ h).2 with h | ⟨r,h⟩
  ·have:=hq.p;simp only[jA] at h;omega
  ·rw[hq.at'] at h;cases h
 rintro b b' ⟨o,l⟩ h h'
 rcases nk H J hr hL hq c af hdead hrt2 h with⟨p,t,a,k,h0,h1,h2,h3⟩ | ⟨h1,h2⟩ | ⟨h1,h2⟩<;>rcases nk H J hr hL hq c af hdead hrt2 h' with⟨p',t',a',k',h0',h1',h2',h3'⟩ | ⟨h1',h2'⟩ | ⟨h1',h2'⟩
 ·rw[h2] at h2'
  cases h2'
  rw[h0] at h0'
  have:=List.append_cancel_left h0'
  subst this
  exact af.inj _ _ _ h1 h1'
 ·subst h1'
  rw[hq2] at h3
  cases h3
 ·rcases h2' with⟨h2',_⟩ | ⟨p',a',k',h2',h3',_⟩
  ·rw[h2] at h2';cases h2'
  ·rw[h2] at h2'
   cases h2'
   exact absurd ⟨t,h0.symm⟩ h3'
 ·subst h1
  rw[hq2] at h3'
  cases h3'
 ·exact af.inj _ _ _ h2 h2'
 ·subst h1
  exact absurd h1' (hqρ _ _)
 ·rcases h2 with⟨h2,_⟩ | ⟨p,a,k,h2,h3,_⟩
  ·rw[h2] at h2';cases h2'
  ·rw[h2] at h2'
   cases h2'
   exact absurd ⟨t',h0'.symm⟩ h3
 ·subst h1'
  exact absurd h1 (hqρ _ _)
 ·exact J _ _ _ h1 h1'
theorem O3 {o0:Nat}{p0:List (Nat×Nat)}{L:cS}{v:V}{z:Value}(h:RepV w' ρ' gR (some (o0,p0)) v z)(hn:nh v)(hd:cy v=true→∀o,o∈bl own args→o∈dead)(hmv:∀b l,ρ' b=some (o0,p0++l)→em w ρ ρ' own args dead rt2 q b=some (L.1,L.2++l)):RepV w' (em w ρ ρ' own args dead rt2 q) rt2 (some L) v z:=by
 have e:∀l:List (Nat×Nat),(p0++l).drop p0.length=l:=fun l=>by simp
 by_cases hi:cy v=true
 ·have:=h.mono0 (New:=fun _ _=>True) (w':=w') (ρ':=em w ρ ρ' own args dead rt2 q) (rt':=rt2) ⟨fun b hb _=>⟨Ly H J hr hL hq c af hdead hrt2 (hd hi) hb,rfl⟩,fun o nv p hN _=>absurd trivial hN⟩
   (fun l=>(L.1,L.2++l.2.drop p0.length)) (fun l=>l.1=o0∧p0 <+: l.2)
   (fun l i k hl=>by
    obtain⟨_,t,ht⟩:=hl
    simp[cS.at,←ht])
   (fun l i k hl=>⟨hl.1,hl.2.trans (by simp[cS.at])⟩)
   (fun b l hl hb=>by
    obtain⟨l1,l2⟩:=l
    obtain⟨rfl,t,rfl⟩:=hl
    exact⟨by simpa using hmv b t hb,rfl⟩)
   (fun l hl=>by cases hl;exact⟨rfl,List.prefix_refl _⟩) (cz hn)
  simpa using this
 ·have:=h.monoN (w':=w') (ρ':=em w ρ ρ' own args dead rt2 q) (rt':=rt2)
   (fun l=>(L.1,L.2++l.2.drop p0.length)) (fun l=>l.1=o0∧p0 <+: l.2)
   (fun l i k hl=>by
    obtain⟨_,t,ht⟩:=hl
    simp[cS.at,←ht])
   (fun l i k hl=>⟨hl.1,hl.2.trans (by simp[cS.at])⟩)
   (fun b l hl hb=>by
    obtain⟨l1,l2⟩:=l
    obtain⟨rfl,t,rfl⟩:=hl
    exact⟨by simpa using hmv b t hb,rfl⟩)
   (fun l hl=>by cases hl;exact⟨rfl,List.prefix_refl _⟩) hn (by simpa using hi)
  simpa using this
theorem Dy {Un:Nat→Prop}(hret:∀o r',rt2 o=some r'→True)(hlen:args.length=us.length)(hxs:eK rt own args=some xs)(hargs:kj w (dj ρ (aZ 0 own args) (bl own args)) xs us)(hout:ri w (dj ρ (aZ 0 own args) (bl own args)) w' ρ' own xs us cV){id:Nat} :
  Keep (bG Un rt) w ρ rt w' (em w ρ ρ' own args dead rt2 q) rt2:=by
 refine⟨fun b hb hl=>?_,fun o nv p hN hl=>?_,fun b l hb=>?_⟩
 ·have h1:=af.fr b (pG hb) hl
  exact⟨by simp[em,h1.1,hl,hb],h1.2⟩
 ·obtain⟨r',hr2,hpv⟩:∃r',rt2 o=some r'∧((p=[]∨r'.nv=nv)∧(aU p r'.s r'.es).isSome=true):=by
   unfold b8 bD at hl
   cases hv:bA rt2 o nv p with
   | none=>simp[hv] at hl
   | some r'=>
    obtain⟨h1,h2⟩:=d8 hv
    simp only[hv,cm] at hl
    exact⟨r',h1,h2,hl⟩
  cases hg:dI (aZ 0 own args) o with
  | none=>
   obtain⟨h1,h2⟩:=sS H J hr hL hq c af hdead hrt2 hr2 hg
   refine⟨?_,fun b n hb hn=>⟨(uG H J hr hL hq c af hdead hrt2 hb hg h2).1,af.wk.blk b n hn⟩⟩
   unfold b8 bD bA
   have:(p.isEmpty||r'.nv==nv)=true:=by
    rcases hpv.1 with h | h<;>simp[h]
   simp[h1,this,hpv.2]
  | some x=>
   obtain⟨pp,a,k⟩:=x
   obtain⟨r1,x,y,h1,h2,h3,h4⟩:=yC H J hr hL hq c af hdead hrt2 hr2 hg
   have hnv:nv≤r1.nv:=Nat.le_of_not_lt fun hlt=>hN (.inr ⟨r1,h1,hlt⟩)
   have hnv':r'.nv=r1.nv+1:=Dw h4
   have hp:p=[]:=by
    rcases hpv.1 with h | h
    ·exact h
    ·omega
   subst hp
   refine⟨by simp[b8,bD,bA,h1,aU],fun b n hb hn=>⟨?_,af.wk.blk b n hn⟩⟩
   by_cases hpp:pp=[]
   case neg=>
    exact (Dz H J hr hL hq c af hdead hrt2 hb hg (by simpa using hpp) (by rw[hr2];rfl)).1
   subst hpp
   obtain⟨v,xx,e1,e2,e3,e4,_⟩:=(kX c).1 hg
   obtain⟨ll,hx⟩:=qb hxs
   obtain⟨xv,e5,e6⟩:=hx a v e2
   have hua:∃u,us[a]?=some u:=⟨_,d5 (by have:=(cd.1 e2).1;omega)⟩
   obtain⟨u,hua⟩:=hua
   obtain⟨⟨g,hp,hg'⟩,hnn⟩:=hargs.2 a xv u e5 hua
   have hyo:¬notOwn y:=Bw h4
   obtain⟨z,hz⟩:=DG e1 e3 e6
   obtain⟨q1,q2,q3⟩:=hout a xv u x e5 hua h2 g hp k y z h3 hz hyo
   have:=sr H J hr hL hq c af hdead hrt2 (q3 b n (jO (t:=[]) (by simpa using hb) hg) hn) hg (by rw[hr2];rfl)
   simpa using this
 ·have h0:dI (aZ 0 own args) 0=none:=la c.z
  exact uG H J hr hL hq c af hdead hrt2 hb h0 fun hd=>c.z' (hdead 0 hd)
end
end
section
variable {w w' : World} {ρ ρ' ρ'' : bg} {rt rt' rt'' : ai} {N : Nat→Nat→Prop}
theorem nI:∀{vs:List V} {i:Nat} {v:V},cY vs=false→vs[i]?=some v→cy v=false
 | [],i,v,_,h=>by simp at h
 | x::vs,i,v,h,e=>by
  simp only[cY,Bool.or_eq_false_iff] at h
  cases i with
  | zero=>simp at e;subst e;exact h.1
  | succ i=>exact nI h.2 (by simpa using e)
theorem wE {v x:V}{k:Nat}(h:cy v=false)(e:(cells v)[k]?=some x):cy x=false:=by
 by_cases ha:al v=true
 ·cases v<;>simp[al] at ha
  exact nI (by simpa[cy,cells] using h) e
 ·rw[bw (by simpa using ha)] at e
  cases k<;>simp at e
  subst e
  exact h
theorem vg:∀{own:List Bool} {cV:List V} {a:Nat} {x:V},dV own cV a=some x→∃i:Nat,cV[i]?=some x
 | [],cV,a,x,h=>by simp[dV] at h
 | true::bs,[],a,x,h=>by cases a<;>simp[dV] at h
 | true::bs,y::ys,0,x,h=>by simp[dV] at h;exact⟨0,by simp[h]⟩
 | true::bs,y::ys,a+1,x,h=>by
  simp only[dV] at h
  obtain⟨i,hi⟩:=vg h
  exact⟨i+1,by simpa using hi⟩
 | false::bs,cV,0,x,h=>by cases cV<;>simp[dV] at h
 | false::bs,cV,a+1,x,h=>by
  have:dV bs cV a=some x:=by cases cV<;>simpa[dV] using h
  exact vg this
section
variable {own : List Bool} {args xs : List V} {us : List Value} {cV : List V} {dead : List Nat} {rt2 : ai} {q : Nat} {r : V} {u : Value}
 (H:et w ρ rt) (J:eM ρ) (hr:gE rt) (hL:Lab w ρ rt jA) (hq:Fresh0 rt q) (c:CallChk own args)
 (af:Aft w (dj ρ (aZ 0 own args) (bl own args)) w' ρ') (hdead:∀o,o∈dead→o∈bl own args) (hrt2:rt2=iK rt (aZ 0 own args) own cV dead)
include H J hr hL hq c af hdead hrt2
theorem Dx (hlen:args.length=us.length)(hxs:eK rt own args=some xs)(hargs:kj w (dj ρ (aZ 0 own args) (bl own args)) xs us)(hout:ri w (dj ρ (aZ 0 own args) (bl own args)) w' ρ' own xs us cV){o a k:Nat}{p:fU}{r':Root}(hr2:rt2 o=some r')(hg:dI (aZ 0 own args) o=some (p,a,k)) :
  ∃r1 x y z,rt o=some r1∧dV own cV a=some x∧(cells x)[k]?=some y∧iJ p r1 y=some r'∧¬notOwn y∧nh y∧RepV w' ρ' gR (some (1,[(a,k)])) y z∧
   ∀b n,dj ρ (aZ 0 own args) (bl own args) b=some (1,[(a,k)])→km w b n→ρ' b=some (1,[(a,k)]):=by
 obtain⟨r1,x,y,h1,h2,h3,h4⟩:=yC H J hr hL hq c af hdead hrt2 hr2 hg
 obtain⟨v,xx,e1,e2,e3,e4,_⟩:=(kX c).1 hg
 obtain⟨ll,hx⟩:=qb hxs
 obtain⟨xv,e5,e6⟩:=hx a v e2
 obtain⟨u,hua⟩:∃u,us[a]?=some u:=⟨_,d5 (by have:=(cd.1 e2).1;omega)⟩
 obtain⟨⟨g,hp,hg'⟩,hnn⟩:=hargs.2 a xv u e5 hua
 have hyo:¬notOwn y:=Bw h4
 obtain⟨z,hz⟩:=DG e1 e3 e6
 obtain⟨q1,q2,q3⟩:=hout a xv u x e5 hua h2 g hp k y z h3 hz hyo
 exact⟨r1,x,y,g k,h1,h2,h3,h4,hyo,q1,q2,q3⟩
theorem NI (hlen:args.length=us.length)(hxs:eK rt own args=some xs)(hargs:kj w (dj ρ (aZ 0 own args) (bl own args)) xs us)(hout:ri w (dj ρ (aZ 0 own args) (bl own args)) w' ρ' own xs us cV)(him:cY cV=true→∀o,o∈bl own args→o∈dead) :
  et w' (em w ρ ρ' own args dead rt2 q) rt2∧gE rt2∧Lab w' (em w ρ ρ' own args dead rt2 q) rt2 (fun o _=>o=0∨o=q):=by
 have K:=Dy H J hr hL hq c af hdead hrt2 (Un:=fun _=>False) (fun _ _ _=>trivial) hlen hxs hargs hout (id:=q)
 have BJ:=FV H J hr hL hq c af hdead hrt2
 refine⟨fun o r' h=>?_,fun o r' h=>?_,?_⟩
 ·cases hg:dI (aZ 0 own args) o with
  | none=>
   obtain⟨h1,h2⟩:=sS H J hr hL hq c af hdead hrt2 h hg
   exact bW.under K (fun b l hb _=>uG H J hr hL hq c af hdead hrt2 hb hg h2) (H o r' h1) (hr o r' h1)
  | some x=>
   obtain⟨p,a,k⟩:=x
   obtain⟨r1,x,y,z,h1,h2,h3,h4,h5,h6,h7,h8⟩:=Dx H J hr hL hq c af hdead hrt2 hlen hxs hargs hout h hg
   have hsm:(rt2 o).isSome=true:=by rw[h];rfl
   have hcar:=O3 H J hr hL hq c af hdead hrt2 (L:=(o,p)) h7 h6 (fun hi=>him (by
    cases hb:cY cV with
    | true=>rfl
    | false=>
     obtain⟨i,hi'⟩:=vg h2
     rw[wE (nI hb hi') h3] at hi
     cases hi)) (fun b l hb=>sr H J hr hL hq c af hdead hrt2 hb hg hsm)
   have deep:∀{s1:Nat} {old new es':List V},aU p r1.s r1.es=some (s1,old)→setRow new p r1.es=some es'→new.length=old.length→bW w' (em w ρ ρ' own args dead rt2 q) rt2 (o,p) s1 new→bW w' (em w ρ ρ' own args dead rt2 q) rt2 (o,[]) r1.s es':=by
    intro s1 old new es' q1 q2 q3 q4
    refine oh (p0:=[]) K BJ q3 (H o r1 h1) (hr o r1 h1) q1 q2 (fun b l hb _ hl=>?_) (fun b arr T hb hh=>?_) (by simpa using q4)
    ·exact Dz H J hr hL hq c af hdead hrt2 hb hg (by simpa using hl) hsm
    ·have hb':ρ b=some (o,p++[]):=by simpa using hb
     have hk:=h8 b arr.size (jO hb' hg) ⟨arr,T,hh,rfl⟩
     have:=sr H J hr hL hq c af hdead hrt2 hk hg hsm
     obtain⟨arr',T',q5,q6⟩:=af.wk.blk b arr.size ⟨arr,T,hh,rfl⟩
     exact⟨by simpa using this,arr',T',q5,q6⟩
   unfold iJ at h4
   split at h4
   ·unfold pF at h4
    split at h4
    ·split at h4<;>cases h4
     exact ol hcar
    ·rename_i e
     split at h4
     ·rename_i hc
      cases h4
      have:=mM hcar
      rw[hc] at this
      exact this
     ·cases h4
    ·cases h4
   ·simp only[aG] at h4
    obtain⟨⟨s1,old⟩,q1,h4⟩:=h4
    simp only at h4
    split at h4
    ·split at h4
     ·rename_i hc
      simp only[aI] at h4
      obtain⟨es',q2,rfl⟩:=h4
      obtain⟨rfl,hc2⟩:=hc
      exact deep q1 q2 hc2 (ol hcar)
     ·cases h4
    ·rename_i e
     split at h4
     ·rename_i hc
      simp only[aI] at h4
      obtain⟨es',q2,rfl⟩:=h4
      have:=mM hcar
      rw[hc.1] at this
      exact deep q1 q2 (by simp[hc.2]) this
     ·cases h4
    ·cases h4
 ·cases hg:dI (aZ 0 own args) o with
  | none=>exact hr o r' (sS H J hr hL hq c af hdead hrt2 h hg).1
  | some x=>
   obtain⟨p,a,k⟩:=x
   obtain⟨r1,x,y,z,h1,h2,h3,h4,h5,h6,h7,h8⟩:=Dx H J hr hL hq c af hdead hrt2 hlen hxs hargs hout h hg
   unfold iJ at h4
   split at h4
   ·unfold pF at h4
    split at h4
    ·split at h4<;>cases h4
     simpa[nh] using h6
    ·split at h4<;>cases h4
     simpa[nh,nhs] using h6
    ·cases h4
   ·simp only[aG] at h4
    obtain⟨⟨s1,old⟩,q1,h4⟩:=h4
    simp only at h4
    split at h4
    ·split at h4
     ·simp only[aI] at h4
      obtain⟨es',q2,rfl⟩:=h4
      exact ml (by simpa[nh] using h6) (hr o r1 h1) q2
     ·cases h4
    ·split at h4
     ·simp only[aI] at h4
      obtain⟨es',q2,rfl⟩:=h4
      exact ml (by simpa[nh,nhs] using h6) (hr o r1 h1) q2
     ·cases h4
    ·cases h4
 ·refine⟨fun b o l h=>?_,yD H J hr hL hq c af hdead hrt2 hL.z,fun b l h=>?_⟩
  ·rcases nk H J hr hL hq c af hdead hrt2 h with⟨p,t,a,k,h0,h1,h2,h3⟩ | ⟨h1,h2⟩ | ⟨h1,h2⟩
   ·exact⟨(af.lab _ _ _ h1).1,.inr (Option.isSome_iff_exists.1 h3)⟩
   ·exact⟨(af.lab _ _ _ h2).1,.inl (.inr h1)⟩
   ·refine⟨Nat.lt_of_lt_of_le (hL _ _ _ h1).1 af.wk.size,?_⟩
    rcases h2 with⟨h2,h3⟩ | ⟨p,a,k,h2,h3,h4⟩
    ·rcases (hL _ _ _ h1).2 with h | ⟨r,h⟩
     ·exact .inl (.inl h)
     ·refine .inr ⟨r,?_⟩
      rw[hrt2]
      unfold iK
      rw[h2]
      simp[h3,h]
    ·exact .inr (Option.isSome_iff_exists.1 h4)
  ·rcases nk H J hr hL hq c af hdead hrt2 h with⟨p,t,a,k,h0,h1,h2,h3⟩ | ⟨h1,h2⟩ | ⟨h1,h2⟩
   ·rw[la c.z] at h2;cases h2
   ·have:=hq.p;omega
   ·exact hL.f _ _ h1
end
theorem FN.mono {P:Program}{f:FuncId}{us:Array Value}{K K':Value→World→Prop}(h:FN P f us w K)(hk:∀u w',K u w'→K' u w'):FN P f us w K':=by
 rcases h with⟨u,w',h1,h2⟩ | ⟨h1,h2⟩
 ·exact .inl ⟨u,w',h1,hk _ _ h2⟩
 ·exact .inr ⟨h1,h2.mono fun e w' ⟨u,he,h⟩=>⟨u,he,hk _ _ h⟩⟩
theorem Ow {vs:List V}{p:Nat→Value}(h:∀(c:Nat) v,vs[c]?=some v→aM w ρ rt bq v (p c)):RepV w ρ rt none (.tup vs) (.tuple (cT vs.length p)):=by
 have:∀c:Nat,∃g:Nat→Value,∀v,vs[c]?=some v→p c=fc v g∧∀k x,(cells v)[k]?=some x→RepV w ρ rt none x (g k):=fun c=>by
  cases hv:vs[c]? with
  | none=>exact⟨fun _=>undef,fun v h=>by cases h⟩
  | some v=>
   obtain⟨g,h1,h2⟩:=h c v hv
   exact⟨g,fun v' h'=>by cases h';exact⟨h1,h2⟩⟩
 obtain⟨g,hg⟩:=Classical.skolem.1 this
 exact .tup _ vs p g (fun c v hv=>(hg c v hv).1) fun c v k x hv hx=>(hg c v hv).2 k x hx
theorem Sp {P:Program}{E:Env}{G:Ground}(hG:∀f e,E.fn f=some e→fq P G f e)(H:et w ρ rt)(J:eM ρ)(hr:gE rt)(hL:Lab w ρ rt jA){Un:Nat→Prop}{id:Nat}(hi:Fresh Un rt id)(hgr:G.ok w ρ){f:FuncId}{args:List V}{us:List Value}{v:V}(hlen:args.length=us.length)(hv:∀(a:Nat) v u,args[a]?=some v→us[a]?=some u→aM w ρ rt bq v u∧an (bG Un rt) v)(h:jB E rt id f args=some (v,rt')):FN P f us.toArray w (fun u w'=>pD Un w ρ rt id v rt' u w'):=by
 simp only[jB,aG] at h
 obtain⟨e,he,h⟩:=h
 split at h
 ·rename_i hchk
  have c:=P1 hchk
  simp only[aG] at h
  obtain⟨xs,hxs,⟨r,cV⟩,hF,h⟩:=h
  simp only at h
  split at h
  ·rename_i hroom
   cases h
   have hargs:=NL (N:=bG Un rt) H J hr hL c hlen hv hxs
   have hinn:=ww J hL c
   refine (hG f e he w _ xs us r cV hargs hinn ⟨hgr.1,fun b hb=>pG (hgr.2.1 b hb),hgr.2.2⟩ hF).mono ?_
   rintro u w' ⟨ρ',af,⟨p,hu,hp⟩,hout⟩
   generalize hdd:(if (cy r||cY cV)=true then bl e.own args else [])=dead at hroom ⊢
   have hdead:∀o,o∈dead→o∈bl e.own args:=fun o ho=>by
    rw[←hdd] at ho
    split at ho
    ·exact ho
    ·cases ho
   have himm:(cy r||cY cV)=true→∀o,o∈bl e.own args→o∈dead:=fun hi o ho=>by
    rw[←hdd,if_pos hi];exact ho
   generalize hrt2:iK rt (aZ 0 e.own args) e.own cV dead=rt2 at hroom ⊢
   have hrt2':=hrt2.symm
   obtain⟨b1,b2,b3⟩:=NI H J hr hL hi.one c af hdead hrt2' hlen hxs hargs hout (fun hb=>himm (by simp[hb]))
   have bk:=Dy H J hr hL hi.one c af hdead hrt2' (Un:=Un) (fun _ _ _=>trivial) hlen hxs hargs hout (id:=id)
   have bj:=FV H J hr hL hi.one c af hdead hrt2'
   have hf2:Fresh Un rt2 id:=⟨fun o ho=>yD H J hr hL hi.one c af hdead hrt2' (hi.f o ho),hi.u,hi.p⟩
   have hcell:∀(cc:Nat) (v:V),(eE r)[cc]?=some v→cy r=false→cy v=false:=by
    intro cc v hv hn
    by_cases ht:kY r=true
    ·cases r<;>simp[kY] at ht
     exact nI (by simpa[cy,eE] using hn) hv
    ·have hcr:eE r=[r]:=by cases r<;>first | rfl | exact absurd rfl ht
     rw[hcr] at hv
     cases cc with
     | zero=>simp at hv;subst hv;exact hn
     | succ cc=>simp at hv
   have pl:=GA (N:=bG Un rt) b1 bj b2 b3 (Nat.ne_of_gt hi.p) hf2.at hi.p (fun o h1 h2=>hf2.f o (hi.u o h1 (by omega))) (fun o nv h1 h2=>.inl (hi.u o h1 (by omega))) (vs:=eE r) (p:=p) (fun cc v hv=>by
    obtain⟨⟨g,h1,h2⟩,h3,h4⟩:=hp cc v hv
    refine⟨⟨g,h1,fun k x hx=>?_⟩,h3⟩
    refine O3 H J hr hL hi.one c af hdead hrt2' (L:=(id,[(cc,k)])) (h2 k x hx) (bC h3 hx) (fun him=>himm ?_) (fun b l hb=>NH H J hr hL hi.one c af hdead hrt2' hb)
    cases hri:cy r with
    | true=>simp
    | false=>rw[wE (hcell cc v hv hri) hx] at him;cases him)
   refine⟨_,⟨pl.rok,pl.inj,pl.rtn,bk.trans pl.keep af.wk.size,pl.lab,af.wk,?_,fun b l h=>?_⟩,?_,?_⟩
   rotate_left
   ·rcases nk H J hr hL hi.one c af hdead hrt2' (pl.f0 b l h) with⟨p,t,a,k,h0,h1,h2,h3⟩ | ⟨h1,h2⟩ | ⟨h1,h2⟩
    ·rw[la c.z] at h2;cases h2
    ·have:=hi.p;omega
    ·exact h1
   rotate_right
   ·intro o r' h
    rcases pl.nv o r' h with h1 | ⟨h1,h2⟩
    ·left
     cases hg:dI (aZ 0 e.own args) o with
     | none=>exact⟨r',(sS H J hr hL hi.one c af hdead hrt2' h1 hg).1,Nat.le_refl _⟩
     | some x=>
      obtain⟨p,a,k⟩:=x
      obtain⟨r1,x,y,q1,q2,q3,q4⟩:=yC H J hr hL hi.one c af hdead hrt2' h1 hg
      exact⟨r1,q1,by rw[Dw q4];exact Nat.le_succ _⟩
    ·exact .inr ⟨h1,by omega⟩
   ·have ll:=(ka (vs:=eE r) (id:=id) (c:=0)).1
    rw[hu]
    by_cases ht:kY r=true
    ·cases r<;>simp[kY] at ht
     rename_i vs
     simp only[kY,if_true,qh]
     have:=Ow fun c y hy=>(pl.val c y hy).1
     rw[ll] at this
     exact aM.mk1 rfl this
    ·have hcr:eE r=[r]:=by cases r<;>first | rfl | exact absurd rfl ht
     have hys:∃y,(bh id 0 (eE r)).1=[y]:=by
      rw[hcr] at ll ⊢
      match hh:(bh id 0 [r]).1,ll with
      | [y],_=>exact⟨y,rfl⟩
     obtain⟨y,hy⟩:=hys
     have hret:qh r (bh id 0 (eE r)).1=y:=by
      rw[hy]
      cases r<;>first | rfl | exact absurd rfl ht
     simp only[ht]
     rw[hret]
     exact (pl.val 0 y (by rw[hy];rfl)).1
   ·have mono:∀{y:V},(∀Un':Nat→Prop,(∀o,id≤o→o<id+(bh id 0 (eE r)).2.length→¬Un' o)→an (bG Un' (dU rt2 id (bh id 0 (eE r)).2)) y)→an (bG (sH Un id) (dU rt2 id (bh id 0 (eE r)).2)) y:=fun hn=>
     hn _ fun o h1 h2 h=>h.2 ⟨h1,by omega⟩
    by_cases ht:kY r=true
    ·cases r<;>simp[kY] at ht
     rename_i vs
     simp only[qh,an]
     refine dJ.2 fun y hy=>?_
     obtain⟨c,hc⟩:=List.mem_iff_getElem?.1 hy
     exact mono (pl.val c y hc).2
    ·have ll:=(ka (vs:=eE r) (id:=id) (c:=0)).1
     have hcr:eE r=[r]:=by cases r<;>first | rfl | exact absurd rfl ht
     have hys:∃y,(bh id 0 (eE r)).1=[y]:=by
      rw[hcr] at ll ⊢
      match hh:(bh id 0 [r]).1,ll with
      | [y],_=>exact⟨y,rfl⟩
     obtain⟨y,hy⟩:=hys
     have hret:qh r (bh id 0 (eE r)).1=y:=by
      rw[hy]
      cases r<;>first | rfl | exact absurd rfl ht
     rw[hret]
     exact mono (pl.val 0 y (by rw[hy];rfl)).2
  ·cases h
 ·cases h
end
section
variable {w w' : World} {ρ ρ' ρ'' : bg} {rt rt' rt'' : ai} {N : Nat→Nat→Prop}
def E4 (P:Program)(o:Oper)(a:Act)(w:World)(K:Value→World→Prop):Prop:=
 (∃u w',(execOp a.eval o).run P w=.ok (.value u) w'∧K u w')∨(∃w',(execOp a.eval o).run P w=.ok .skip w'∧K undef w')∨
 (∃f us,(execOp a.eval o).run P w=.ok (.enter f us) w∧Calls P f us w fun e w'=>∃u,e=.returned u∧K u w')
theorem E4.wp {P:Program}{o:Oper}{a:Act}{K:Value→World→Prop}{next:Act→World→Prop}{Q:Exit→Act→World→Prop}(h:E4 P o a w K)(hn:∀u w',K u w'→next (a.put o.dst u) w'):o.wp P a w next Q:=by
 unfold Oper.wp
 rcases h with⟨u,w',h1,h2⟩ | ⟨w',h1,h2⟩ | ⟨f,us,h1,h2⟩
 ·rw[h1];exact hn u w' h2
 ·rw[h1];exact hn undef w' h2
 ·rw[h1]
  exact h2.mono fun e w' ⟨u,he,hk⟩=>by subst he;exact hn u w' hk
theorem PW {x:Array Operand}{st:St}{d:V}(h:gQ st x.toList=some [d]):∃p,x=#[p]∧ev st p=some d:=by
 obtain⟨l⟩:=x
 simp only at h
 match l,h with
 | [p],h=>
  simp only[gQ,aG,aI] at h
  obtain⟨v,hv,_,h1,h2⟩:=h
  cases h1
  cases h2
  exact⟨p,rfl,hv⟩
 | [],h=>simp[gQ] at h
 | _::_::_,h=>
  simp only[gQ,aG,aI] at h
  obtain⟨v,hv,_,⟨_,_,_,_,h1⟩,h2⟩:=h
  subst h1
  cases h2
theorem PX {x:Array Operand}{st:St}{d e:V}(h:gQ st x.toList=some [d,e]):∃p q,x=#[p,q]∧ev st p=some d∧ev st q=some e:=by
 obtain⟨l⟩:=x
 simp only at h
 match l,h with
 | [p,q],h=>
  simp only[gQ,aG,aI] at h
  obtain⟨v,hv,_,⟨v2,hv2,_,h3,h1⟩,h2⟩:=h
  cases h3
  subst h1
  cases h2
  exact⟨p,q,rfl,hv,hv2⟩
 | [],h=>simp[gQ] at h
 | [_],h=>simp[gQ,aG] at h
 | _::_::_::_,h=>
  simp only[gQ,aG,aI] at h
  obtain⟨v,hv,_,⟨v2,hv2,_,⟨_,_,_,_,h3⟩,h1⟩,h2⟩:=h
  subst h3
  subst h1
  cases h2
section
variable {P : Program} {E : Env} {G : Ground} (hG : ∀ f e,E.fn f=some e→fq P G f e) (A : Agree P E) {st : St} {a : Act} {o : Oper} (H : et w ρ st.rt) (J : eM ρ) (T : ji w ρ st.rt st.tm a.tmps) (hr : gE st.rt) (hL : Lab w ρ st.rt jA) {Un : Nat→Prop} {id : Nat} (hm : wu (bG Un st.rt) st.tm) (hi : Fresh Un st.rt id) (hgr : G.ok w ρ)
include hG A H J T hr hL hm hi hgr
theorem Sq {o:Nat}{r:Root}(h:st.rt o=some r):¬bG Un st.rt o r.nv:=by
 rintro (h1 | ⟨r',h1,h2⟩)
 ·rw[hi.f o h1] at h;cases h
 ·rw[h] at h1;cases h1;omega
theorem Ty {v : V}{rt' : ai}(h : aX E id st o.op=some (v,rt')) : E4 P o a w (fun u w'=>pD Un w ρ st.rt id v rt' u w'):=by
  by_cases hp : rC o.op=true
  · obtain ⟨rfl,⟨u,h1,h2⟩,h3⟩:=Ss A H J T hm hr (fun o r h=>Sq hG A H J T hr hL hm hi hgr h) hp h
    refine .inl ⟨u,w,h1,ρ,⟨H,J,hr,Keep.refl,hL,Wk.refl,fun o r h=>.inl ⟨r,h,Nat.le_refl _⟩,fun _ _ h=>h⟩,h2,?_⟩
    refine d7 (fun o nv h=>?_) h3
    rcases h with h | h
    · exact .inl h.1
    · exact .inr h
  · have mk : (∃ u w',(execOp a.eval o).run P w=.ok (.value u) w' ∧ pD Un w ρ st.rt id v rt' u w')→E4 P o a w (fun u w'=>pD Un w ρ st.rt id v rt' u w'):=fun ⟨u,w',h1,h2⟩=>.inl ⟨u,w',h1,h2⟩
    cases hop : o.op with
    | alloc t=>exact mk (Qn A H J T hr hL hm hi hop h)
    | box t x=>exact mk (Tf A H J T hr hL hm hi hop h)
    | buildSlice t n ps=>exact mk (Gl A H J T hr hL hm hi hop h)
    | makeSlice t x y=>exact mk (Hi A H J T hr hL hm hi hop h)
    | store t p x =>
      rw [show o.op=.store t p x from hop] at h
      have h' : aX E id st o.op=some (v,rt'):=by rw [hop]; exact h
      obtain ⟨w',h1,h2⟩:=Qp A H J T hr hL hm hi hop h'
      exact .inr (.inl ⟨w',h1,h2⟩)
    | call c =>
      obtain ⟨cal,args,ts⟩:=c
      rw [hop] at h
      simp only [aX,lw,aG] at h
      obtain ⟨vs,hvs,h⟩:=h
      cases cal with
      | builtin b =>
        cases b <;> simp only [eU] at h <;> first | (cases h; done) | skip
        all_goals first
          | (rw [hop] at hp; simp [rC] at hp; done)
          | skip
        all_goals first
          | (match vs, hvs, h with
             | [d,x],hvs,h =>
               simp only [eU,aG] at h
               obtain ⟨t,ht,t1,ht1,h⟩:=h
               split at h
               · rename_i hs1
                 obtain ⟨p,q,rfl,h1,h2⟩:=PX hvs
                 exact mk (Oa A H J T hr hL hm hi hop ht ht1 hs1 h1 h2 h)
               · cases h
             | [],_,h=>simp [eU] at h
             | [_],_,h=>simp [eU] at h
             | _ :: _ :: _ :: _,_,h=>simp [eU] at h)
          | (match vs, hvs, h with
             | [x],hvs,h =>
               simp only [eU,aG,aI,Prod.mk.injEq] at h
               obtain ⟨t,ht,r1,hr1,rfl,rfl⟩:=h
               obtain ⟨p,rfl,h1⟩:=PW hvs
               exact mk (Qo A H J T hr hL hm hi hop ht h1 hr1)
             | [],_,h=>simp [eU] at h
             | _ :: _ :: _,_,h=>simp [eU] at h)
      | value f =>
        simp only [aG] at h
        obtain ⟨fv,hf,h⟩:=h
        split at h
        · rename_i fid caps
          obtain ⟨hl,hrep⟩:=ro T hvs
          have hfs:=aM.one rfl (cg T hf)
          have hfn:=gf hm hf
          have hcaps : ∃ g : Nat→Value,a.eval f=.func (.func fid) #[] (cT caps.length g) ∧ ∀ (i : Nat) v,caps[i]?=some v→RepV w ρ st.rt none v (g i):=by
            generalize a.eval f=uf at hfs
            cases hfs with
            | fn _ _ _ g hg=>exact ⟨g,rfl,hg⟩
          obtain ⟨g,hef,hg⟩:=hcaps
          have hus : ((args.toList.map a.eval) ++ (List.range caps.length).map g).toArray=#[] ++ args.map a.eval ++ cT caps.length g:=by
            apply Array.ext'
            simp [cT]
          have hl' : vs.length=args.size:=by simpa using hl
          have hn:=Sp (us:=(args.toList.map a.eval) ++ (List.range caps.length).map g) hG H J hr hL hi hgr (by simp [hl]) (fun i v u hv hu=>by
            by_cases hlt : i < vs.length
            · rw [lm hlt] at hv
              rw [lm (by simp; omega),List.getElem?_map] at hu
              obtain ⟨x,hx,rfl⟩:=aI.1 hu
              exact ⟨hrep i v x hv hx,ga (F2 hm hvs) hv⟩
            · rw [mY (by omega)] at hv
              rw [mY (by simp; omega),List.getElem?_map] at hu
              obtain ⟨j,hj,rfl⟩:=aI.1 hu
              have hj' : j=i - vs.length:=by
                have h1:=(cd.1 hj).1
                simp at h1
                rw [List.getElem?_range (by simpa using h1)] at hj
                simp [hl] at hj ⊢
                omega
              subst hj'
              have h1:=hg _ v hv
              exact ⟨aM.mk1 (by cases v <;> first | rfl | (cases h1)) h1,ga (by simpa [an] using hfn) hv⟩) h
          have hrun : (execOp a.eval o).run P w=(callFunc fid ((args.toList.map a.eval) ++ (List.range caps.length).map g).toArray).run P w:=by
            rw [hus]
            simp [execOp,hop,resolve,Deferred.ofValue,hef,invoke]
          rcases hn with ⟨u,w',h1,h2⟩ | ⟨h1,h2⟩
          · exact .inl ⟨u,w',by rw [hrun]; exact h1,h2⟩
          · exact .inr (.inr ⟨fid,_,by rw [hrun]; exact h1,h2⟩)
        · cases h
      | invoke x m=>simp at h
    | _=>rw [hop] at hp h; first | (simp [rC] at hp; done) | (simp [aX] at h; done)
end
end
section
structure RelU (Un:Nat→Prop) (G:Ground) (m:Nat) (w0:World) (ρ0:bg) (w:World) (ρ:bg) (st:St) (a:Act):Prop where
 tm:ji w ρ st.rt st.tm a.tmps
 rok:et w ρ st.rt
 inj:eM ρ
 rtn:gE st.rt
 lab:Lab w ρ st.rt jA
 fresh:∀o,Un o→st.rt o=none
 up:∀o,Un o→0<o
 tmn:wu (bG Un st.rt) st.tm
 wk:Wk w0 w
 fr:∀b,ρ0 b=none→b<w0.heap.size→ρ b=none∧w.heap[b]?=w0.heap[b]?
 k0:∀b l,ρ0 b=some (0,l)→ρ b=some (0,l)∧w.heap[b]?=w0.heap[b]?
 f0:∀b l,ρ b=some (0,l)→ρ0 b=some (0,l)
 df:a.defers=[]
 gr:G.ok w ρ
 am:∀i b n,0<i→ρ0 b=some (i,[])→km w0 b n→(st.rt i).isSome=true→ρ b=some (i,[])∧km w b n
 le:∀b i l,ρ0 b=some (i,l)→i≤m
 nl:∀i,i≤m→¬Un i
def d9 (nx:Nat):Nat→Prop:=fun o=>nx≤o
abbrev fz (G:Ground)(m:Nat)(w0:World)(ρ0:bg)(w:World)(ρ:bg)(st:St)(a:Act):Prop:=RelU (d9 st.nx) G m w0 ρ0 w ρ st a
variable {G : Ground} {m : Nat} {w0 w : World} {ρ0 ρ : bg} {st st' : St} {a : Act}
theorem Oz {ops:Array Oper}(T:ji w ρ st.rt st.tm a.tmps){j:Nat}{b:Option Bool}(h:pV ops st j=some b):yielded ops a.tmps j=b:=by
 unfold pV at h
 unfold yielded
 cases hd:(ops[j]?).bind (·.dst) with
 | none=>simp[hd] at h
 | some d=>
  simp only[hd,cm] at h ⊢
  cases ht:st.tm[d]? with
  | none=>simp[ht] at h
  | some v=>
   have hl:=(cd.1 ht).1
   obtain⟨u,hu⟩:∃u,a.tmps[d]?=some u:=⟨_,Array.getElem?_eq_getElem (by rw[←T.1];exact hl)⟩
   have hs:=T.2 d v u ht hu
   rw[hu]
   simp only[ht] at h
   split at h
   ·rename_i x hx
    cases h
    cases hx
    rw[kO hs]
   ·rename_i hx
    cases h
    cases hx
    have:=aM.one rfl hs
    cases this
    rfl
   ·cases h
theorem Ip {ops:Array Oper}(T:ji w ρ st.rt st.tm a.tmps){o:Oper}{b:Bool}(h:gS ops st o=some b):Region.wanted o (yielded ops a.tmps)=b:=by
 unfold gS at h
 unfold Region.wanted
 split at h
 ·cases h;simp_all
 ·rename_i j want hg
  simp only[aI] at h
  obtain⟨x,hx,rfl⟩:=h
  rw[hg]
  simp only
  rw[Oz T hx]
theorem Jz {Un:Nat→Prop}{rt rt':ai}{id:Nat}(hi:∀o,id≤o→o<id+bO→Un o)(h:∀o r',rt' o=some r'→(∃r,rt o=some r∧r.nv≤r'.nv)∨(id≤o∧o<id+bO)):∀o nv,bG (sH Un id) rt' o nv→bG Un rt o nv:=by
 rintro o nv (h1 | ⟨r,h1,h2⟩)
 ·exact .inl h1.1
 ·rcases h o r h1 with⟨r0,h3,h4⟩ | ⟨h3,h4⟩
  ·exact .inr ⟨r0,h3,by omega⟩
  ·exact .inl (hi o h3 h4)
theorem sQ {tm:List V}{d:Option Nat}{v x:V}{i:Nat}(h:(kf tm d v)[i]?=some x):(d=some i∧x=v∧i<tm.length)∨(d≠some i∧tm[i]?=some x):=by
 cases d with
 | none=>exact .inr ⟨by simp,h⟩
 | some d=>
  simp only[kf] at h
  by_cases hd:d=i
  ·subst hd
   have hl:=(cd.1 h).1
   rw[List.length_set] at hl
   rw[List.getElem?_set_self hl] at h
   cases h
   exact .inl ⟨rfl,rfl,hl⟩
  ·rw[List.getElem?_set_ne hd] at h
   exact .inr ⟨by simpa using hd,h⟩
theorem H8 {a:Act}{d:Option Nat}{v u:Value}{i:Nat}(h:(a.put d v).tmps[i]?=some u):(d=some i∧u=v)∨(d≠some i∧a.tmps[i]?=some u):=by
 cases d with
 | none=>exact .inr ⟨by simp,h⟩
 | some d=>
  simp only[Act.put] at h
  by_cases hd:d=i
  ·subst hd
   have hl:=(pW.1 h).1
   simp at hl
   simp[hl] at h
   exact .inl ⟨rfl,h.symm⟩
  ·rw[Array.getElem?_setIfInBounds_ne hd] at h
   exact .inr ⟨by simpa using hd,h⟩
theorem GH {a:Act}{d:Option Nat}{v:Value}:(a.put d v).tmps.size=a.tmps.size:=by cases d<;>simp[Act.put]
theorem sR {tm:List V}{d:Option Nat}{v:V}:(kf tm d v).length=tm.length:=by cases d<;>simp[kf]
theorem B2 {a:Act}{d:Option Nat}{v:Value}:(a.put d v).defers=a.defers:=by cases d<;>simp[Act.put]
theorem RelU.out {Un:Nat→Prop}(R:RelU Un G m w0 ρ0 w ρ st a){id nx:Nat}(hi:∀o,id≤o→o<id+bO→Un o){v:V}{rt':ai}{u:Value}{w':World}(h:pD Un w ρ st.rt id v rt' u w'){d:Option Nat}:∃ρ',RelU (sH Un id) G m w0 ρ0 w' ρ' { tm:=kf st.tm d v,rt:=rt',nx:=nx } (a.put d u):=by
 obtain⟨ρ',e,hv,hn⟩:=h
 have mono:=Jz hi e.nv
 refine⟨ρ',⟨?_,e.rok,e.inj,e.rtn,e.lab,?_,fun o h=>R.up o h.1,?_,R.wk.trans e.wk,?_,?_,?_,?_,Ground.keep R.gr e.keep.k1 e.wk,?_,R.le,fun i h1 h2=>R.nl i h1 h2.1⟩⟩
 ·refine⟨by rw[sR,GH];exact R.tm.1,fun i x y hx hy=>?_⟩
  rcases sQ hx with⟨h1,rfl,_⟩ | ⟨h1,h2⟩<;>rcases H8 hy with⟨h3,rfl⟩ | ⟨h3,h4⟩
  ·exact hv
  ·exact absurd h1 h3
  ·exact absurd h3 h1
  ·exact (R.tm.2 i x y h2 h4).keep e.keep (R.tmn i x h2)
 ·intro o ho
  cases hr:rt' o with
  | none=>exact hr
  | some r'=>
   rcases e.nv o r' hr with⟨r,h1,_⟩ | h1
   ·rw[R.fresh o ho.1] at h1;cases h1
   ·exact absurd h1 ho.2
 ·intro i x hx
  rcases sQ hx with⟨h1,rfl,_⟩ | ⟨h1,h2⟩
  ·exact hn
  ·exact d7 mono (R.tmn i x h2)
 ·intro b hb hl
  have h1:=R.fr b hb hl
  have h2:=e.keep.k1 b h1.1 (Nat.lt_of_lt_of_le hl R.wk.size)
  exact⟨h2.1,h2.2.trans h1.2⟩
 ·intro b l hb
  have h1:=R.k0 b l hb
  have h2:=e.keep.k0 b l h1.1
  exact⟨h2.1,h2.2.trans h1.2⟩
 ·exact fun b l hb=>R.f0 b l (e.f0 b l hb)
 ·rw[B2];exact R.df
 ·intro i b n hi0 hb hn hs
  simp only at hs
  have hlt:¬Un i:=R.nl i (R.le b i [] hb)
  obtain⟨r',hr'⟩:=Option.isSome_iff_exists.1 hs
  obtain⟨r,hr,hnv⟩:∃r,st.rt i=some r∧r.nv≤r'.nv:=by
   rcases e.nv i r' hr' with h | ⟨h1,h2⟩
   ·exact h
   ·exact absurd (hi i h1 h2) hlt
  have hl:b8 rt' i r.nv []:=by simp[b8,bD,bA,hr',aU]
  have:=(e.keep.k2 i r.nv [] (by
   rintro (h | ⟨r2,h,h2⟩)
   ·exact hlt h
   ·rw[hr] at h;cases h;omega) hl).2
  have h0:=R.am i b n hi0 hb hn (by rw[hr];rfl)
  exact this b n h0.1 h0.2
theorem RelU.mono {Un Un' : Nat→Prop}(R : RelU Un G m w0 ρ0 w ρ st a)(h : ∀ o,Un' o→Un o){nx : Nat} : RelU Un' G m w0 ρ0 w ρ { st with nx:=nx } a :=
  { R with
    fresh:=fun o ho=>R.fresh o (h o ho)
    up:=fun o ho=>R.up o (h o ho)
    tmn:=fun i v hv=>d7 (fun o nv h1=>by
      rcases h1 with h1 | h1
      · exact .inl (h o h1)
      · exact .inr h1) (R.tmn i v hv)
    nl:=fun i h1 h2=>R.nl i h1 (h i h2) }
theorem RelU.skip {Un : Nat→Prop}(R : RelU Un G m w0 ρ0 w ρ st a){d : Option Nat} : RelU Un G m w0 ρ0 w ρ { st with tm:=kf st.tm d .und } (a.put d undef) :=
  { R with
    tm:=⟨by rw [sR,GH]; exact R.tm.1,fun i x y hx hy=>by
      rcases sQ hx with ⟨h1,rfl,_⟩ | ⟨h1,h2⟩ <;> rcases H8 hy with ⟨h3,rfl⟩ | ⟨h3,h4⟩
      · exact aM.mk1 rfl (.und _)
      · exact absurd h1 h3
      · exact absurd h3 h1
      · exact R.tm.2 i x y h2 h4⟩
    tmn:=fun i x hx=>by
      rcases sQ hx with ⟨h1,rfl,_⟩ | ⟨h1,h2⟩
      · simp [an]
      · exact R.tmn i x h2
    df:=by rw [B2]; exact R.df }
theorem RelU.step {Un:Nat→Prop}{P:Program}{E:Env}(hG:∀f e,E.fn f=some e→fq P G f e)(A:Agree P E)(R:RelU Un G m w0 ρ0 w ρ st a){id nx:Nat}(hp:0<id)(hi:∀o,id≤o→o<id+bO→Un o){ops:Array Oper}{i:Nat}{rest:List Nat}{Q:Exit→Act→World→Prop}(h:fm E ops id st i=some st')(hn:∀w' ρ' a',RelU (sH Un id) G m w0 ρ0 w' ρ' { st' with nx:=nx } a'→wpOps P ops Q rest a' w'):wpOps P ops Q (i::rest) a w:=by
 unfold fm at h
 simp only[wpOps]
 cases ho:ops[i]? with
 | none=>
  simp only[ho] at h ⊢
  cases h
  exact hn w ρ a (R.mono fun o h=>h.1)
 | some o=>
  simp only[ho,aG] at h ⊢
  obtain⟨b,hb,h⟩:=h
  rw[Ip R.tm hb]
  cases b with
  | true=>
   simp only[if_true,aI] at h
   obtain⟨⟨v,rt'⟩,hv,h⟩:=h
   cases h
   simp only[if_true]
   refine .inl ((Ty hG A R.rok R.inj R.tm R.rtn R.lab R.tmn ⟨R.fresh,hi,hp⟩ R.gr hv).wp fun u w' hout=>?_)
   obtain⟨ρ',R'⟩:=R.out hi hout (d:=o.dst) (nx:=nx)
   exact hn w' ρ' _ R'
  | false=>
   simp only[Bool.false_eq_true,if_false] at h ⊢
   cases h
   exact hn w ρ _ ((R.skip (d:=o.dst)).mono fun o h=>h.1)
theorem fz.step {P:Program}{E:Env}(hG:∀f e,E.fn f=some e→fq P G f e)(A:Agree P E)(R:fz G m w0 ρ0 w ρ st a){ops:Array Oper}{i:Nat}{rest:List Nat}{Q:Exit→Act→World→Prop}(h:fm E ops st.nx st i=some st')(hn:∀w' ρ' a',fz G m w0 ρ0 w' ρ' { st' with nx:=st.nx+bO } a'→wpOps P ops Q rest a' w'):wpOps P ops Q (i::rest) a w:=
 RelU.step hG A R (nx:=st.nx+bO) (R.up st.nx (Nat.le_refl _)) (fun o h _=>h) h fun w' ρ' a' R'=>hn w' ρ' a' (by
  have:=R'.mono (Un':=d9 (st.nx+bO)) (nx:=st.nx+bO) fun o ho=>⟨by unfold d9 at *;omega,by unfold d9 at ho;omega⟩
  exact this)
end
section
variable {G : Ground} {m : Nat} {w0 w : World} {ρ0 ρ : bg} {st st' : St} {a : Act}
theorem fz.nilq {P:Program}{E:Env}(A:Agree P E)(R:fz G m w0 ρ0 w ρ st a){ops:Array Oper}{i:Nat}{rest:List Nat}{Q:Exit→Act→World→Prop}{o:Oper}{op:BinOp}{t t' e:TypeId}{x y:Operand}{nl:Bool}(ho:ops[i]?=some o)(hg:gS ops st o=some true)(hop:o.op=.binOp op t x y t')(he:op=.eql∨op=.neq)(hx:ev st x=some (.isl nl []))(hy:ev st y=some (.isl true []))(hd:E.desc t=some (.slice e))(hn:∀b w' ρ' a',fz G m w0 ρ0 w' ρ' { st with tm:=kf st.tm o.dst (.bool b),nx:=st.nx+bO } a'→wpOps P ops Q rest a' w'):wpOps P ops Q (i::rest) a w:=by
 simp only[wpOps,ho]
 rw[Ip R.tm hg]
 simp only[if_true]
 have hu:=A.desc hd
 obtain⟨A1,l,c,h1,_⟩:=jz (aM.one rfl (cg R.tm hx))
 obtain⟨A2,l2,c2,h2,h3⟩:=jz (aM.one rfl (cg R.tm hy))
 have h4:A2=none:=by have:=h3 (.inl rfl);cases A2<;>simp at this ⊢
 have hrun:(Op.equal t (.slice A1 l c) (.slice A2 l2 c2)).run P w=.ok A1.isNone w:=sU fun n=>qj hu h4 rfl
 have hgd:(eqGuard op t x y (.slice A1 l c) (.slice A2 l2 c2)).run P w=.ok () w:=by unfold eqGuard;split<;>simp
 have act:∃b,(execOp a.eval o).run P w=.ok (.value (.bool b)) w:=by
  rcases he with rfl | rfl
  ·exact⟨A1.isNone,by simp[execOp,hop,h1,h2,hgd,binOp,hrun]⟩
  ·exact⟨!A1.isNone,by simp[execOp,hop,h1,h2,hgd,binOp,hrun]⟩
 obtain⟨b,hb⟩:=act
 have hout:pD (d9 st.nx) w ρ st.rt st.nx (.bool b) st.rt (.bool b) w:=
  ⟨ρ,⟨R.rok,R.inj,R.rtn,Keep.refl,R.lab,Wk.refl,fun o r h=>.inl ⟨r,h,Nat.le_refl _⟩,fun _ _ h=>h⟩,iG _,by simp[an]⟩
 refine .inl (E4.wp (K:=fun u w'=>u=.bool b∧w'=w) (.inl ⟨.bool b,w,hb,rfl,rfl⟩) fun u w' hh=>?_)
 obtain⟨rfl,rfl⟩:=hh
 obtain⟨ρ',R'⟩:=R.out (fun o h _=>h) hout (d:=o.dst) (nx:=st.nx+bO)
 have:=R'.mono (Un':=d9 (st.nx+bO)) (nx:=st.nx+bO) fun o ho=>⟨by unfold d9 at *;omega,by unfold d9 at ho;omega⟩
 exact hn b _ ρ' _ this
def yI (ρ:bg)(rt2:ai):bg:=fun b=>match ρ b with
 | some (o,l)=>if o=0∨(rt2 o).isSome=true then some (o,l) else none
 | none=>none
theorem i6 {rt2:ai}{b:Nat}{L:cS}:yI ρ rt2 b=some L↔ρ b=some L∧(L.1=0∨(rt2 L.1).isSome=true):=by
 unfold yI
 cases h:ρ b with
 | none=>simp
 | some x=>
  obtain⟨o,l⟩:=x
  simp only
  by_cases hc:o=0∨(rt2 o).isSome=true
  ·rw[if_pos hc]
   simp only[Option.some.injEq]
   constructor
   ·rintro rfl;exact⟨rfl,hc⟩
   ·exact fun h=>h.1
  ·rw[if_neg hc]
   simp only[reduceCtorEq,Option.some.injEq,false_iff,not_and]
   rintro rfl
   exact hc
theorem fz.sub {tm2 : List V}{rt2 : ai}(ht : tm2.length=st.tm.length)(ht2 : ∀ (i : Nat) v,tm2[i]?=some v→st.tm[i]?=some v ∨ v=.dead)(hs : ∀ o r,rt2 o=some r→st.rt o=some r)(R : fz G m w0 ρ0 w ρ st a) : ∃ ρ',fz G m w0 ρ0 w ρ' { st with tm:=tm2,rt:=rt2 } a:=by
  have hz : rt2 0=none:=by
    cases h : rt2 0 with
    | none=>rfl
    | some r=>have:=hs 0 r h; rw [R.lab.z] at this; cases this
  have K : Keep (fun _ _=>False) w ρ st.rt w (yI ρ rt2) rt2:=by
    refine ⟨fun b hb _=>⟨by simp [yI,hb],rfl⟩,fun o nv p _ hl=>?_,fun b l hb=>⟨i6.2 ⟨hb,.inl rfl⟩,rfl⟩⟩
    unfold b8 bD at hl
    cases hv : bA rt2 o nv p with
    | none=>simp [hv] at hl
    | some r =>
      obtain ⟨h1,h2⟩:=d8 hv
      have h3:=hs o r h1
      simp only [hv,cm] at hl
      have : bA st.rt o nv p=some r:=by
        unfold bA at hv ⊢
        rw [h3]
        rw [h1] at hv
        exact hv
      exact ⟨by simpa [b8,bD,this] using hl,fun b n hb hn=>⟨i6.2 ⟨hb,.inr (by rw [h1]; rfl)⟩,hn⟩⟩
  have hNew : ∀ o nv,bG (d9 st.nx) rt2 o nv→bG (d9 st.nx) st.rt o nv:=by
    rintro o nv (h | ⟨r,h1,h2⟩)
    · exact .inl h
    · exact .inr ⟨r,hs o r h1,h2⟩
  have kp : ∀ {v : V},an (bG (d9 st.nx) st.rt) v→an (fun _ _=>False) v:=fun h=>d7 (fun _ _ h=>h.elim) h
  refine ⟨yI ρ rt2,?_⟩
  exact
    { tm := ⟨by rw [ht]; exact R.tm.1, fun i v u hv hu => by
        rcases ht2 i v hv with h | rfl
        · exact (R.tm.2 i v u h hu).keep K (kp (R.tmn i v h))
        · exact aM.mk1 rfl (.dead _ _)⟩
      rok:=fun o r h=>bW.under K (fun b l hb _=>⟨i6.2 ⟨hb,.inr (by have h' : rt2 o=some r:=h; simp [h'])⟩,rfl⟩) (R.rok o r (hs o r h)) (R.rtn o r (hs o r h))
      inj:=fun b b' L h h'=>R.inj b b' L (i6.1 h).1 (i6.1 h').1
      rtn:=fun o r h=>R.rtn o r (hs o r h)
      lab:=⟨fun b o l h=>by
        obtain ⟨h1,h2⟩:=i6.1 h
        refine ⟨(R.lab b o l h1).1,?_⟩
        rcases h2 with h2 | h2
        · exact .inl h2
        · exact .inr (Option.isSome_iff_exists.1 h2),hz,fun b l h=>R.lab.f b l (i6.1 h).1⟩
      fresh:=fun o h=>by
        cases hr : rt2 o with
        | none=>exact hr
        | some r=>have:=hs o r hr; rw [R.fresh o h] at this; cases this
      up:=R.up
      tmn:=fun i v hv=>by
        rcases ht2 i v hv with h | rfl
        · exact d7 hNew (R.tmn i v h)
        · simp [an]
      wk:=R.wk
      fr:=fun b hb hl=>⟨by simp [yI,(R.fr b hb hl).1],(R.fr b hb hl).2⟩
      k0:=fun b l hb=>⟨i6.2 ⟨(R.k0 b l hb).1,.inl rfl⟩,(R.k0 b l hb).2⟩
      f0:=fun b l hb=>R.f0 b l (i6.1 hb).1
      df:=R.df
      gr:=⟨R.gr.1,fun b hb=>by simp [yI,R.gr.2.1 b hb],R.gr.2.2⟩
      am:=fun i b n h1 h2 h3 h4=>by
        obtain ⟨r,hr⟩:=Option.isSome_iff_exists.1 h4
        have:=R.am i b n h1 h2 h3 (by rw [hs i r hr]; rfl)
        exact ⟨i6.2 ⟨this.1,.inr h4⟩,this.2⟩
      le:=R.le
      nl:=R.nl }
end
section
def lZ:It→Item
 | .code c=>.code c
 | .ops ops is=>.inRegion ops is
 | .blk id=>.inBlock id
 | .lp c=>.inLoop c
 | .dops ops _ _ _=>.inRegion ops []
def Fin (P:Program)(R:Act→World→Prop)(todo:List It)(a:Act)(w:World):Prop:=
 ∀(b:Frame) (cs:List Frame),∃a' w' td,R a' w'∧Steps P (lone (b.at a (todo.map lZ)) cs w) (lone { b.at a' td with mode:=.returning } cs w')
variable {P : Program} {R : Act→World→Prop} {k : List It} {a : Act} {w : World}
theorem Fin.one {t t':List It}(h:∀(b:Frame) (cs:List Frame),step P (lone (b.at a (t.map lZ)) cs w)=.next (lone (b.at a (t'.map lZ)) cs w))(hk:Fin P R t' a w):Fin P R t a w:=fun b cs=>
 let ⟨a',w',td,r,s⟩:=hk b cs
 ⟨a',w',td,r,Steps.head (h b cs) s⟩
theorem mf:∀{k k':List It} {id:Nat},gJ id k=some k'→exitTo id (k.map lZ)=some (k'.map lZ)
 | [],k',id,h=>by simp[gJ] at h
 | .blk id'::k,k',id,h=>by
  simp only[gJ] at h
  split at h
  ·rename_i he
   cases h
   simp[lZ,exitTo,he]
  ·rename_i he
   have:=mf h
   have hne:(id==id')=false:=by simp;exact fun h=>he h.symm
   have hne':(id'==id)=false:=by simpa using he
   simp[lZ,exitTo,hne,hne',this]
 | .code c::k,k',id,h=>by
  have:=mf (k:=k) (by simpa[gJ] using h)
  simp[lZ,exitTo,this]
 | .ops o i::k,k',id,h=>by
  have:=mf (k:=k) (by simpa[gJ] using h)
  simp[lZ,exitTo,this]
 | .lp c::k,k',id,h=>by
  have:=mf (k:=k) (by simpa[gJ] using h)
  simp[lZ,exitTo,this]
 | .dops _ _ _ _::k,k',id,h=>by
  have:=mf (k:=k) (by simpa[gJ] using h)
  simp[lZ,exitTo,this]
end
section
variable {P : Program} {R : Act→World→Prop} {k : List It} {a : Act} {w : World}
def JB (F:Act→World→Prop):Exit→Act→World→Prop
 | .normal,a,w=>F a w
 | _,_,_=>False
def FM (P:Program)(R:Act→World→Prop):List It→Act→World→Prop
 | .ops ops is::k,a,w=>wpOps P ops (JB (Fin P R k)) is a w
 | [],a,w=>R a w
 | k,a,w=>Fin P R k a w
theorem HL {ops:Array Oper}{is:List Nat}(h:wpOps P ops (JB (Fin P R k)) is a w):Fin P R (.ops ops is::k) a w:=by
 intro b cs
 obtain⟨e,a1,w1,hq,harr⟩:=wp_ops is a w h b (k.map lZ) cs
 cases e with
 | normal=>
  obtain⟨a',w',td,r,s⟩:=hq b cs
  exact⟨a',w',td,r,Steps.trans harr s⟩
 | _=>exact hq.elim
theorem gn:∀{k:List It},FM P R k a w→Fin P R k a w
 | .ops ops is::k,h=>HL h
 | .code _::_,h=>h
 | .blk _::_,h=>h
 | .lp _::_,h=>h
 | .dops _ _ _ _::_,h=>h
 | [],h=>fun b cs=>⟨_,_,_,h,.one step_end⟩
section
variable {E : Env} {G : Ground} (hG : ∀ f e,E.fn f=some e→fq P G f e) (A : Agree P E) {m : Nat} {w0 : World} {ρ0 : bg} {ρ : bg} {st st' : St} {Q : St→Prop}
include hG A
def EZ (G:Ground)(m:Nat)(w0:World)(ρ0:bg)(Q:St→Prop)(a:Act)(w:World):Prop:=∃ρ st,fz G m w0 ρ0 w ρ st a∧Q st
theorem JJ {k':List It}(h:jd E k st=some (k',st'))(R0:fz G m w0 ρ0 w ρ st a)(ih:∀w ρ a,fz G m w0 ρ0 w ρ st' a→FM P (EZ G m w0 ρ0 Q) k' a w):FM P (EZ G m w0 ρ0 Q) k a w:=by
 unfold jd at h
 split at h
 ·cases h
  exact Fin.one (fun b cs=>step_skip) (gn (ih w ρ a R0))
 ·rename_i id ops k
  cases h
  exact Fin.one (t':=.ops ops (List.range ops.size)::k) (fun b cs=>step_region) (gn (ih w ρ a R0))
 ·rename_i x y k
  cases h
  exact Fin.one (t':=.code x::.code y::k) (fun b cs=>step_seq) (gn (ih w ρ a R0))
 ·rename_i c x y k
  simp only[aG] at h
  obtain⟨cv,hc,h⟩:=h
  have hs:=cg R0.tm hc
  split at h
  ·cases h
   exact Fin.one (t':=.code x::k) (fun b cs=>step_cond (t:=true) (kO hs)) (gn (ih w ρ a R0))
  ·cases h
   exact Fin.one (t':=.code y::k) (fun b cs=>step_cond (t:=false) (kO hs)) (gn (ih w ρ a R0))
  ·cases h
 ·rename_i id c k
  cases h
  exact Fin.one (t':=.code c::.blk id::k) (fun b cs=>step_block) (gn (ih w ρ a R0))
 ·rename_i c k
  cases h
  exact Fin.one (t':=.code c::.lp c::k) (fun b cs=>step_loop) (gn (ih w ρ a R0))
 ·rename_i id k
  simp only[aI] at h
  obtain⟨k1,hk,h⟩:=h
  cases h
  exact Fin.one (fun b cs=>step_exit (mf hk)) (gn (ih w ρ a R0))
 ·cases h
  exact fun b cs=>⟨a,w,_,ih w ρ a R0,.one step_ret⟩
 ·cases h
  exact gn (ih w ρ a R0)
 ·rename_i ops i is k
  simp only[aI] at h
  obtain⟨st1,hst,h⟩:=h
  cases h
  exact R0.step hG A hst fun w' ρ' a' R'=>ih w' ρ' a' R'
 ·cases h
  exact Fin.one (fun b cs=>step_inBlock) (gn (ih w ρ a R0))
 ·rename_i c k
  cases h
  exact Fin.one (t':=.code c::.lp c::k) (fun b cs=>step_inLoop) (gn (ih w ρ a R0))
 ·cases h
end
end
section
variable {w : World} {ρ : bg} {rt rt' : ai}
theorem jo {o:Nat}:∀{os:List Nat} {n m:Nat},mW o os n=some m→n≤m∧os[m - n]?=some o
 | [],n,m,h=>by simp[mW] at h
 | x::xs,n,m,h=>by
  simp only[mW] at h
  split at h
  ·rename_i hx
   cases h
   subst hx
   simp
  ·obtain⟨h1,h2⟩:=jo h
   refine⟨by omega,?_⟩
   rw[show m - n=(m - (n+1))+1 by omega]
   simpa using h2
def gM (ρ:bg)(os:List Nat):bg:=fun b=>
 match ρ b with
 | none=>none
 | some (o,l)=>if o=0 then some (0,l) else (mW o os 1).map fun n=>(n,l)
theorem lA {os b}(h:ρ b=none):gM ρ os b=none:=by simp[gM,h]
theorem B3 {os b l}(h:ρ b=some (0,l)):gM ρ os b=some (0,l):=by simp[gM,h]
theorem kb {os b o l n}(h:ρ b=some (o,l))(h0:o≠0)(hn:mW o os 1=some n):gM ρ os b=some (n,l):=by simp[gM,h,h0,hn]
theorem lf {os b n l}(h:gM ρ os b=some (n,l)):(n=0∧ρ b=some (0,l))∨∃o,ρ b=some (o,l)∧o≠0∧mW o os 1=some n:=by
 unfold gM at h
 split at h
 ·cases h
 ·rename_i o l' hb
  split at h
  ·rename_i h0
   cases h
   subst h0
   exact .inl ⟨rfl,hb⟩
  ·rename_i h0
   simp only[aI] at h
   obtain⟨m,hm,h⟩:=h
   cases h
   exact .inr ⟨o,hb,h0,hm⟩
theorem qf:∀{xs acc:List Nat},acc.Nodup→(mX acc xs).Nodup
 | [],acc,h=>h
 | x::xs,acc,h=>by
  simp only[mX]
  split
  ·exact qf h
  ·rename_i hx
   refine qf (List.nodup_append.2 ⟨h,by simp,?_⟩)
   intro a ha b hb hab
   simp at hb
   subst hb
   subst hab
   exact hx (by simpa using ha)
theorem rq:∀{os:List Nat} {n m o:Nat},os.Nodup→os[m]?=some o→mW o os n=some (n+m)
 | [],n,m,o,hd,h=>by simp at h
 | x::xs,n,m,o,hd,h=>by
  simp only[mW]
  cases m with
  | zero=>simp at h;subst h;simp
  | succ m=>
   have hd':=List.nodup_cons.1 hd
   have hne:x≠o:=by
    rintro rfl
    exact hd'.1 (ii (by simpa using h))
   rw[if_neg hne,rq hd'.2 (by simpa using h)]
   congr 1
   omega
def gj (rt:ai)(os:List Nat):ai:=uU (os.map fun o=>(rt o).map fun r=>⟨0,r.s,r.es⟩)
theorem mL {os:List Nat}{o n:Nat}(hn:mW o os 1=some n):gj rt os n=(rt o).map fun r=>⟨0,r.s,r.es⟩:=by
 obtain⟨h1,h2⟩:=jo hn
 unfold gj uU
 rw[if_neg (by omega),List.getElem?_map,h2]
 simp
theorem qg {os:List Nat}(hd:os.Nodup){n:Nat}{r':Root}(h:gj rt os n=some r'):∃o r,mW o os 1=some n∧rt o=some r∧r'=⟨0,r.s,r.es⟩:=by
 unfold gj uU at h
 split at h
 ·cases h
 ·rename_i h0
  rw[List.getElem?_map] at h
  cases ho:os[n - 1]? with
  | none=>simp[ho] at h
  | some o=>
   simp only[ho,Option.map_some,cm,aI] at h
   obtain⟨r,hr,rfl⟩:=h
   exact⟨o,r,by rw[rq hd ho];congr 1;omega,hr,rfl⟩
end
section
variable {w : World} {ρ : bg} {rt : ai}
theorem Ia {os:List Nat}{v:V}(h:al v=false):al (eT rt os v)=false:=by
 cases v<;>first | (simp[al] at h;done) | skip
 all_goals simp only[eT]<;>first | rfl | (split<;>rfl)
theorem fE {os:List Nat}:∀{vs:List V},kL rt os vs=vs.map (eT rt os)
 | []=>rfl
 | v::vs=>by simp[kL,fE]
theorem md {os:List Nat}{v:V}:cells (eT rt os v)=(cells v).map (eT rt os):=by
 by_cases ha:al v=true
 ·cases v<;>simp[al] at ha
  simp[eT,cells,fE]
 ·have ha':al v=false:=by simpa using ha
  rw[bw ha',bw (Ia ha')]
  rfl
theorem CE {os:List Nat}{v:V}:al (eT rt os v)=al v:=by
 by_cases ha:al v=true
 ·cases v<;>simp[al] at ha
  simp[eT,al]
 ·have ha':al v=false:=by simpa using ha
  rw[Ia ha',ha']
theorem GJ {os:List Nat}(hd:os.Nodup){o n nv:Nat}{p:List (Nat×Nat)}{r:Root}(hv:bA rt o nv p=some r)(hn:mW o os 1=some n)(h:b8 (gj rt os) n 0 p):b8 rt o nv p:=by
 unfold b8 bD at h ⊢
 rw[hv]
 have h1:=mL (rt:=rt) hn
 rw[(d8 hv).1] at h1
 simp only[bA,h1,Option.map_some] at h
 simpa using h
section
variable (hL : Lab w ρ rt jA) {os : List Nat} (hd : os.Nodup)
include hL hd
theorem DU:Keep0 (fun _ _=>True) w ρ rt w (gM ρ os) (gj rt os):=⟨fun b hb _=>⟨lA hb,rfl⟩,fun _ _ _ h _=>absurd trivial h⟩
theorem Ib {L:Option cS}{v:V}{u:Value}(h:RepV w ρ rt L v u):L=none→an (fun o _=>rt o=none∧False) v→RepV w (gM ρ os) (gj rt os) none (eT rt os v) u:=by
 have K:=DU hL hd
 have far:∀{v:V} {u:Value},RepV w ρ rt none v u→nh v→RepV w (gM ρ os) (gj rt os) none v u:=fun h hn=>by
  have:=h.mono0 K id (fun _=>False) (fun _ _ _ _=>rfl) (fun _ _ _ h=>h) (fun _ _ h=>h.elim) (by simp) (cz hn)
  simpa using this
 induction h with
 | und L=>exact fun _ _=>by simpa[eT] using RepV.und none
 | dead L u=>exact fun _ _=>by simpa[eT] using RepV.dead none u
 | bool L b=>exact fun _ _=>by simpa[eT] using RepV.bool none b
 | int L k n=>exact fun _ _=>by simpa[eT] using RepV.int none k n
 | str L s=>exact fun _ _=>by simpa[eT] using RepV.str none s
 | nilp L=>exact fun _ _=>by simpa[eT] using RepV.nilp none
 | nilfn L=>exact fun _ _=>by simpa[eT] using RepV.nilfn none
 | nilif L=>exact fun _ _=>by simpa[eT] using RepV.nilif none
 | fn L f caps g h ih=>
  intro _ hn
  simp only[eT]
  have:caps.length=(kL rt os caps).length:=by simp[fE]
  rw[this]
  refine .fn _ _ _ g fun i v hv=>?_
  rw[fE,List.getElem?_map] at hv
  obtain⟨v0,hv0,rfl⟩:=aI.1 hv
  exact ih i v0 hv0 rfl (ga (by simpa[an] using hn) hv0)
 | iface L t v g h ih=>
  exact fun hL hn=>by
   simp only[eT]
   exact far (.iface none t v g h) (by simpa[an,nh] using hn)
 | tup L vs p g hp h ih=>
  intro _ hn
  simp only[eT]
  have:vs.length=(kL rt os vs).length:=by simp[fE]
  rw[this]
  refine .tup _ _ p g (fun c v hv=>?_) fun c v k x hv hx=>?_
  ·rw[fE,List.getElem?_map] at hv
   obtain⟨v0,hv0,rfl⟩:=aI.1 hv
   rw[hp c v0 hv0]
   unfold fc
   rw[CE,md,List.length_map]
  ·rw[fE,List.getElem?_map] at hv
   obtain⟨v0,hv0,rfl⟩:=aI.1 hv
   rw[md,List.getElem?_map] at hx
   obtain⟨x0,hx0,rfl⟩:=aI.1 hx
   exact ih c v0 k x0 hv0 hx0 rfl (gC (ga (by simpa[an] using hn) hv0) hx0)
 | iptr L e k b off g hb hρ hc h ih=>
  exact fun _ hn=>by
   simp only[eT]
   exact far (.iptr none e k b off g hb hρ hc h) (by simpa[an,nh] using hn)
 | isl0 L nl A c hn=>exact fun _ _=>by simpa[eT] using RepV.isl0 none nl A c hn
 | isl L es b off c s g hl h0 hρ hb hs hc h ih=>
  exact fun _ hn=>by
   simp only[eT]
   exact far (.isl none es b off c s g hl h0 hρ hb hs hc h) (by simpa[an,nh] using hn)
 | usl0 l s A=>exact fun h=>by cases h
 | usl l s es b A c arr T g hρ hb hl hA hcap hs hc h ih=>exact fun h=>by cases h
 | uptr l e b arr T g hρ hb hc h ih=>exact fun h=>by cases h
 | hp L o nv p s i k u h h1=>
  intro _ _
  simp only[eT]
  split
  ·rename_i r n hv hn
   refine .hp _ _ _ _ _ _ _ _ (fun hl=>?_) h1
   obtain⟨b,m,hb,hbl,hu⟩:=h (GJ hd hv hn hl)
   have ho:o≠0:=by
    rintro rfl
    have h2:=(d8 hv).1
    rw[hL.z] at h2
    cases h2
   exact⟨b,m,kb hb ho hn,hbl,hu⟩
  ·exact .dead _ _
 | hs L o nv p s off len u h h1=>
  intro _ _
  simp only[eT]
  split
  ·rename_i r n hv hn
   refine .hs _ _ _ _ _ _ _ _ (fun hl=>?_) h1
   obtain⟨c,A,hu,hlc,hcc⟩:=h (GJ hd hv hn hl)
   have ho:o≠0:=by
    rintro rfl
    have h2:=(d8 hv).1
    rw[hL.z] at h2
    cases h2
   exact⟨c,A,hu,hlc,fun h0=>by
    obtain⟨b,m,hb,hbl,h3,h4⟩:=hcc h0
    exact⟨b,m,kb hb ho hn,hbl,h3,h4⟩⟩
  ·exact .dead _ _
end
end
section
variable {w : World} {ρ : bg} {rt : ai}
theorem oc {L:List Nat}:∀{tm:List V} {n i:Nat} {v:V},(fM L n tm)[i]?=some v→∃v0,tm[i]?=some v0∧(v=v0∨v=.dead)
 | [],n,i,v,h=>by simp[fM] at h
 | x::tm,n,0,v,h=>by
  simp only[fM,List.getElem?_cons_zero,Option.some.injEq] at h
  refine⟨x,by simp,?_⟩
  split at h
  ·exact .inl h.symm
  ·exact .inr h.symm
 | x::tm,n,i+1,v,h=>by
  simp only[fM,List.getElem?_cons_succ] at h
  simpa using oc h
theorem va {L:List Nat}:∀{tm:List V} {n:Nat},(fM L n tm).length=tm.length
 | [],n=>rfl
 | x::tm,n=>by simp[fM,va]
theorem B4 {os:List Nat}(hd:os.Nodup)(J:eM ρ):eM (gM ρ os):=by
 rintro b b' ⟨n,l⟩ h h'
 rcases lf h with⟨h0,h1⟩ | ⟨o,h1,h2,h3⟩<;>rcases lf h' with⟨h0',h1'⟩ | ⟨o',h1',h2',h3'⟩
 ·exact J b b' _ h1 h1'
 ·subst h0;have:=(jo h3').1;omega
 ·subst h0';have:=(jo h3).1;omega
 ·have e:o=o':=by
   have a:=(jo h3).2
   have a':=(jo h3').2
   rw[a] at a'
   simpa using a'
  subst e
  exact J b b' _ h1 h1'
theorem H9 {os:List Nat}(hd:os.Nodup)(hL:Lab w ρ rt jA):Lab w (gM ρ os) (gj rt os) jA:=by
 refine⟨fun b n l h=>?_,by simp[gj,uU],fun b l h=>?_⟩
 ·rcases lf h with⟨h0,h1⟩ | ⟨o,h1,h2,h3⟩
  ·exact⟨(hL.l b 0 l h1).1,.inl h0⟩
  ·obtain⟨h4,h5⟩:=hL.l b o l h1
   rcases h5 with h5 | ⟨r,h5⟩
   ·exact absurd h5 h2
   ·exact⟨h4,.inr ⟨_,by rw[mL h3,h5];rfl⟩⟩
 ·rcases lf h with⟨h0,h1⟩ | ⟨o,h1,h2,h3⟩
  ·exact hL.f b l h1
  ·have:=(jo h3).1;omega
theorem Ic {os:List Nat}(hd:os.Nodup)(hL:Lab w ρ rt jA)(H:et w ρ rt)(hr:gE rt):et w (gM ρ os) (gj rt os):=by
 intro n r' h
 obtain⟨o,r,hn,ho,rfl⟩:=qg hd h
 have ho0:o≠0:=by rintro rfl;rw[hL.z] at ho;cases ho
 rcases H o r ho with h0 | ⟨b,arr,T,g,h1,h2,h3,h4,h5⟩
 ·exact .inl h0
 ·refine .inr ⟨b,arr,T,g,kb h1 ho0 hn,h2,h3,h4,fun i e k x he hx=>?_⟩
  have K:Keep0 (fun _ _=>True) w ρ rt w (gM ρ os) (gj rt os):=DU hL hd
  have:=(h5 i e k x he hx).mono0 K (fun l=>(n,l.2)) (fun l=>l.1=o) (fun l i k _=>rfl) (fun l i k h=>h)
   (fun b l hl hb=>⟨by
    obtain⟨lo,ll⟩:=l
    simp only at hl
    subst hl
    exact kb hb ho0 hn,rfl⟩) (fun l hl=>by cases hl;rfl) (cz (bC (cp (hr o r ho) he) hx))
  simpa[cS.at] using this
theorem B5 {os:List Nat}{n:Nat}(h:os.length+1≤n):gj rt os n=none:=by
 unfold gj uU
 rw[if_neg (by omega),List.getElem?_eq_none (by simp;omega)]
 rfl
theorem Oi {os:List Nat}(hd:os.Nodup){n:Nat}{r:Root}(h:gj rt os n=some r):r.nv=0:=by
 obtain⟨o,r0,_,_,rfl⟩:=qg hd h
 rfl
mutual
theorem GK {os:List Nat}(hd:os.Nodup){N:Nat→Nat→Prop}:∀{v:V},an N v→an (bG (d9 (os.length+1)) (gj rt os)) (eT rt os v)
 | .und,_=>by simp[eT,an]
 | .dead,_=>by simp[eT,an]
 | .bool _,_=>by simp[eT,an]
 | .int _ _,_=>by simp[eT,an]
 | .str _,_=>by simp[eT,an]
 | .nilp,_=>by simp[eT,an]
 | .nilfn,_=>by simp[eT,an]
 | .nilif,_=>by simp[eT,an]
 | .fn _ cs,h=>by simp only[eT,an] at h ⊢;exact v7 hd h
 | .agg cs,h=>by simp only[eT,an] at h ⊢;exact v7 hd h
 | .tup cs,h=>by simp only[eT,an] at h ⊢;exact v7 hd h
 | .iface _ v,h=>by simpa[eT,an] using h
 | .iptr e _,h=>by simpa[eT,an] using h
 | .isl _ es,h=>by simpa[eT,an] using h
 | .uptr e,h=>by simpa[eT,an] using h
 | .usl _ es,h=>by simpa[eT,an] using h
 | .hp o nv p s i k,h=>by
  simp only[eT]
  split
  ·rename_i r n hv hn
   simp only[an]
   rintro (h1 | ⟨r',h1,h2⟩)
   ·unfold d9 at h1
    obtain⟨h3,h4⟩:=jo hn
    have:=(cd.1 h4).1
    omega
   ·omega
  ·simp[an]
 | .hs o nv p s i k,h=>by
  simp only[eT]
  split
  ·rename_i r n hv hn
   simp only[an]
   rintro (h1 | ⟨r',h1,h2⟩)
   ·unfold d9 at h1
    obtain⟨h3,h4⟩:=jo hn
    have:=(cd.1 h4).1
    omega
   ·have:=Oi hd h1
    omega
  ·simp[an]
theorem v7 {os:List Nat}(hd:os.Nodup){N:Nat→Nat→Prop}:∀{vs:List V},cJ N vs→cJ (bG (d9 (os.length+1)) (gj rt os)) (kL rt os vs)
 | [],_=>by simp[kL,cJ]
 | v::vs,h=>by simp only[kL,cJ] at h ⊢;exact⟨GK hd h.1,v7 hd h.2⟩
end
end
section
variable {G : Ground} {m : Nat} {w0 w : World} {ρ0 ρ : bg} {st : St} {a : Act}
theorem wB (m:Nat):(iz m).Nodup:=by
 unfold iz
 exact List.nodup_range'
theorem vY:∀{xs acc:List Nat},∃r,mX acc xs=acc++r
 | [],acc=>⟨[],by simp[mX]⟩
 | x::xs,acc=>by
  simp only[mX]
  split
  ·exact vY
  ·obtain⟨r,h⟩:=@vY xs (acc++[x])
   exact⟨x::r,by rw[h];simp⟩
theorem L8 {m i:Nat}{xs:List Nat}(h1:0<i)(h2:i≤m):mW i (mX (iz m) xs) 1=some i:=by
 have hd:(mX (iz m) xs).Nodup:=qf (wB m)
 obtain⟨r,h⟩:=@vY xs (iz m)
 have hg:(mX (iz m) xs)[i - 1]?=some i:=by
  rw[h,lm (by simp[iz];omega)]
  simp[iz,List.getElem?_range',show i - 1<m by omega]
  omega
 rw[rq hd hg]
 congr 1;omega
theorem Qr {m:Nat}{xs:List Nat}:m≤(mX (iz m) xs).length:=by
 obtain⟨r,h⟩:=@vY xs (iz m)
 rw[h];simp[iz]
theorem fz.forget (R:fz G m w0 ρ0 w ρ st a)(L:List Nat):∃ρ',fz G m w0 ρ0 w ρ' (mJ m L st) a:=by
 have hd:(mX (iz m) (dS (fM L 0 st.tm))).Nodup:=qf (wB m)
 have hfx:∀i,0<i→i≤m→mW i (mX (iz m) (dS (fM L 0 st.tm))) 1=some i:=fun i h1 h2=>L8 h1 h2
 have hlen:m≤(mX (iz m) (dS (fM L 0 st.tm))).length:=Qr
 generalize hos:mX (iz m) (dS (fM L 0 st.tm))=os at hd hfx hlen
 have e1:(mJ m L st).tm=kL st.rt os (fM L 0 st.tm):=by simp[mJ,hos]
 have e2:(mJ m L st).rt=gj st.rt os:=by simp[mJ,hos,gj]
 have e3:(mJ m L st).nx=os.length+1:=by simp[mJ,hos]
 have nn:∀(i:Nat) v,(fM L 0 st.tm)[i]?=some v→an (bG (d9 st.nx) st.rt) v:=fun i v hv=>by
  obtain⟨v0,h1,h2 | h2⟩:=oc hv
  ·subst h2;exact R.tmn i v h1
  ·subst h2;simp[an]
 refine⟨gM ρ os,⟨?_,?_,B4 hd R.inj,?_,?_,?_,?_,?_,R.wk,?_,?_,?_,R.df,?_,?_,R.le,fun i h1 h2=>by rw[e3] at h2;unfold d9 at h2;omega⟩⟩
 ·rw[e1,e2]
  refine⟨by rw[fE,List.length_map,va];exact R.tm.1,fun i v u hv hu=>?_⟩
  rw[fE,List.getElem?_map] at hv
  obtain⟨v1,hv1,rfl⟩:=aI.1 hv
  obtain⟨v0,h0,h2 | h2⟩:=oc hv1
  ·subst h2
   obtain⟨g,hg,hs⟩:=R.tm.2 i v1 u h0 hu
   refine⟨g,?_,fun k x hx=>?_⟩
   ·rw[hg];unfold fc;rw[CE,md,List.length_map]
   ·rw[md,List.getElem?_map] at hx
    obtain⟨x0,hx0,rfl⟩:=aI.1 hx
    exact Ib R.lab hd (hs k x0 hx0) rfl (d7 (by rintro o nv ⟨_,h⟩;exact h.elim) (gC (R.tmn i v1 h0) hx0))
  ·subst h2
   simp only[eT]
   exact aM.mk1 rfl (.dead _ _)
 ·rw[e2];exact Ic hd R.lab R.rok R.rtn
 ·rw[e2]
  intro n r h
  obtain⟨o,r0,_,h1,rfl⟩:=qg hd h
  exact R.rtn o r0 h1
 ·rw[e2];exact H9 hd R.lab
 ·rw[e2,e3];exact fun o ho=>B5 ho
 ·rw[e3];intro o ho;unfold d9 at ho;omega
 ·rw[e1,e2,e3]
  intro i v hv
  rw[fE,List.getElem?_map] at hv
  obtain⟨v1,hv1,rfl⟩:=aI.1 hv
  exact GK hd (nn i v1 hv1)
 ·exact fun b h1 h2=>⟨lA (R.fr b h1 h2).1,(R.fr b h1 h2).2⟩
 ·exact fun b l h=>⟨B3 (R.k0 b l h).1,(R.k0 b l h).2⟩
 ·intro b l h
  rcases lf h with⟨_,h1⟩ | ⟨o,h1,h2,h3⟩
  ·exact R.f0 b l h1
  ·have:=(jo h3).1;omega
 ·exact⟨R.gr.1,fun b hb=>lA (R.gr.2.1 b hb),R.gr.2.2⟩
 ·intro i b n hi hb hn hs
  have hle:=R.le b i [] hb
  rw[e2,mL (hfx i hi hle)] at hs
  have h0:=R.am i b n hi hb hn (by simpa using hs)
  exact⟨kb h0.1 (by omega) (hfx i hi hle),h0.2⟩
end
section
variable {w w' : World} {ρ ρ' : bg} {rt rt' : ai}
theorem Hm {P:Program}{E:Env}(A:Agree P E)(H:et w ρ rt)(J:eM ρ){st:St}(hst:st.rt=rt){tmps:Array Value}(T:ji w ρ rt st.tm tmps){r:ResultVar}{v:V}(h:lg E st r=some v) :
  ∃u,((match r with
   | .tmp t=>pure (tmps.getD t undef)
   | .cell a t=>do loadVar t (←asAddr (tmps.getD a undef))):Sem Value).run P w=.ok u w∧aM w ρ rt bq v u:=by
 cases r with
 | tmp t=>
  simp only[lg] at h
  have hl:=(cd.1 h).1
  obtain⟨u,hu⟩:∃u,tmps[t]?=some u:=⟨_,Array.getElem?_eq_getElem (by rw[←T.1];exact hl)⟩
  exact⟨u,by simp[Array.getD_eq_getD_getElem?,hu],T.2 t v u h hu⟩
 | cell a t=>
  simp only[lg,aG] at h
  obtain⟨ti,ht,p,hp,cs,hc,h⟩:=h
  split at h
  ·rename_i hsz
   have hl:=(cd.1 hp).1
   obtain⟨u0,hu0⟩:∃u,tmps[a]?=some u:=⟨_,Array.getElem?_eq_getElem (by rw[←T.1];exact hl)⟩
   have hpv:al p=false:=by cases p<;>first | rfl | simp[jE] at hc
   rw[hst] at hc
   obtain⟨b,off,hu,hr⟩:=F8 H J hc (aM.one hpv (T.2 a p u0 hp hu0)) (by omega)
   have hx:∀j,j<ti.size→∃y,w.cell? ⟨b,off+j,none⟩=some y∧∀x,cs[j]?=some x→RepV w ρ rt none x y:=by
    intro j hj
    obtain⟨y,h1,h2⟩:=hr j (cs[j]'(by omega)) (by simp)
    exact⟨y,h1,fun x hx=>by rw[d5 (by omega)] at hx;cases hx;exact h2⟩
   have hg:∃g:Nat→Value,∀j,j<ti.size→w.cell? ⟨b,off+j,none⟩=some (g j)∧∀x,cs[j]?=some x→RepV w ρ rt none x (g j):=by
    refine⟨fun j=>if hj:j<ti.size then (hx j hj).choose else undef,fun j hj=>?_⟩
    simp only[hj,dif_pos]
    exact (hx j hj).choose_spec
   obtain⟨g,hg⟩:=hg
   have h1:eH ti.desc=false→ti.size=1:=fun ha=>by
    unfold jH at h
    rw[if_neg (by simp[ha])] at h
    split at h
    ·rename_i v' hv'
     have:=congrArg List.length hv'
     simp[Nat.min_eq_left hsz.2] at this
     exact this
    ·cases h
   refine⟨_,?_,sL (g:=g) h (fun k x hk=>?_)⟩
   ·simp only[Array.getD_eq_getD_getElem?,hu0,Option.getD_some,hu,asAddr,Sem.run_bind,Sem.run_pure,Result.andThen]
    rw[wL A ht (fun j hj=>(hg j hj).1) h1]
    simp[List.length_take,Nat.min_eq_left hsz.2]
   ·rw[List.getElem?_take] at hk
    split at hk
    ·rename_i hk'
     exact (hg k hk').2 x hk
    ·cases hk
  ·cases h
theorem pP {E:Env}{st:St}:∀{rs:List ResultVar} {vs:List V},gA E st rs=some vs→vs.length=rs.length∧∀(i:Nat) r v,rs[i]?=some r→vs[i]?=some v→lg E st r=some v
 | [],vs,h=>by simp[gA] at h;subst h;simp
 | r::rs,vs,h=>by
  simp only[gA,aG,aI] at h
  obtain⟨v,hv,ys,hys,rfl⟩:=h
  have ih:=pP hys
  refine⟨by simp[ih.1],fun i r' v' h1 h2=>?_⟩
  cases i with
  | zero=>simp at h1 h2;subst h1 h2;exact hv
  | succ i=>exact ih.2 i r' v' (by simpa using h1) (by simpa using h2)
theorem Hn {P:Program}{E:Env}(A:Agree P E)(H:et w ρ rt)(J:eM ρ){st:St}(hst:st.rt=rt){tmps:Array Value}(T:ji w ρ rt st.tm tmps){fn:Func}{vs:List V}(h:gA E st fn.results.toList=some vs) :
  ∃p:Nat→Value,(results fn tmps).run P w=.ok (if vs.length=1 then p 0 else .tuple (cT vs.length p)) w∧∀(i:Nat) v,vs[i]?=some v→aM w ρ rt bq v (p i):=by
 obtain⟨hl,hg⟩:=pP h
 have hx:∀i,i<vs.length→∃u,∀r v,fn.results.toList[i]?=some r→vs[i]?=some v→((match r with
   | .tmp t=>pure (tmps.getD t undef)
   | .cell a t=>do loadVar t (←asAddr (tmps.getD a undef))):Sem Value).run P w=.ok u w∧aM w ρ rt bq v u:=by
  intro i hi
  obtain⟨u,h1,h2⟩:=Hm A H J hst T (hg i _ _ (d5 (by omega)) (d5 hi))
  refine⟨u,fun r v hr hv=>?_⟩
  rw[d5 (by omega)] at hr
  rw[d5 hi] at hv
  cases hr
  cases hv
  exact⟨h1,h2⟩
 have hp:∃p:Nat→Value,∀i,i<vs.length→∀r v,fn.results.toList[i]?=some r→vs[i]?=some v→((match r with
   | .tmp t=>pure (tmps.getD t undef)
   | .cell a t=>do loadVar t (←asAddr (tmps.getD a undef))):Sem Value).run P w=.ok (p i) w∧aM w ρ rt bq v (p i):=by
  refine⟨fun i=>if hi:i<vs.length then (hx i hi).choose else undef,fun i hi=>?_⟩
  simp only[hi,dif_pos]
  exact (hx i hi).choose_spec
 obtain⟨p,hp⟩:=hp
 refine⟨p,?_,fun i v hv=>?_⟩
 ·have hm:=yp (P:=P) w (l:=fn.results.toList) (r:=(List.range vs.length).map p) (f:=fun r=>((match r with
   | .tmp t=>pure (tmps.getD t undef)
   | .cell a t=>do loadVar t (←asAddr (tmps.getD a undef))):Sem Value)) (by simp[hl]) (fun i r u h1 h2=>by
    rw[List.getElem?_map] at h2
    obtain⟨j,hj,rfl⟩:=aI.1 h2
    have hi:i<vs.length:=by
     have:=(cd.1 hj).1
     simpa using this
    have:j=i:=by simpa[List.getElem?_range hi] using hj.symm
    subst this
    exact (hp j hi r _ h1 (d5 hi)).1)
  unfold results
  rw[Array.mapM_eq_mapM_toList]
  simp only[Sem.run_bind,map_eq_pure_bind,Sem.run_pure,Result.andThen]
  erw [hm]
  simp only[Result.andThen,List.size_toArray,List.length_map,List.length_range]
  by_cases h1:vs.length=1
  ·simp[h1]
  ·simp[h1,cT]
 ·have hi:=(cd.1 hv).1
  exact (hp i hi _ v (d5 (by omega)) hv).2
end
section
variable {w w' : World} {ρ ρ' : bg} {rt rt' : ai}
theorem vZ {rt:ai}:∀{own:List Bool} {vs:List V} {a:Nat} {x:V},dV own (cV rt own vs) a=some x→∃v,vs[a]?=some v∧x=Gx rt v
 | [],vs,a,x,h=>by cases vs<;>simp[cV,dV] at h
 | true::bs,[],a,x,h=>by simp[cV,dV] at h
 | false::bs,[],0,x,h=>by simp[dV] at h
 | false::bs,[],a+1,x,h=>by
  simp only[cV,dV] at h
  have:cV rt bs []=[]:=by
   cases bs with
   | nil=>rfl
   | cons b _=>cases b<;>rfl
  rw[←this] at h
  obtain⟨v,hv,_⟩:=vZ h
  simp at hv
 | true::bs,v::vs,0,x,h=>by simp[cV,dV] at h;exact⟨v,by simp,h.symm⟩
 | true::bs,v::vs,a+1,x,h=>by
  simp only[cV,dV] at h
  obtain⟨y,hy,hx⟩:=vZ h
  exact⟨y,by simpa using hy,hx⟩
 | false::bs,v::vs,0,x,h=>by simp[dV] at h
 | false::bs,v::vs,a+1,x,h=>by
  simp only[cV,dV] at h
  obtain⟨y,hy,hx⟩:=vZ h
  exact⟨y,by simpa using hy,hx⟩
theorem DR {v:V}(h:cl v=true):al v=false∧notOwn v:=by
 cases v<;>simp[cl] at h<;>exact⟨rfl,trivial⟩
theorem Hj {v:V}:al (gx rt v)=false:=by
 unfold gx
 split
 ·rename_i x hx
  unfold BF at hx
  split at hx
  ·simp only[aG] at hx
   obtain⟨r,_,hx⟩:=hx
   split at hx<;>cases hx
   rfl
  ·simp only[aG] at hx
   obtain⟨r,_,hx⟩:=hx
   split at hx
   ·split at hx<;>cases hx
    rfl
   ·cases hx
  ·split at hx
   ·rename_i hp
    cases hx
    exact (DR hp).1
   ·cases hx
 ·rfl
theorem Jf {v:V}:cells (Gx rt v)=(cells v).map (gx rt):=by
 by_cases ha:al v=true
 ·cases v<;>simp[al] at ha
  rfl
 ·have ha':al v=false:=by simpa using ha
  have:Gx rt v=gx rt v:=by cases v<;>first | rfl | simp[al] at ha
  rw[this,bw ha',bw Hj]
  rfl
theorem qC {v:V}(h:¬notOwn (gx rt v)):(∃o nv s len r,v=.hs o nv [] s 0 len∧rt o=some r∧len=r.es.length∧s=r.s∧gx rt v=.usl s r.es)∨
  (∃o nv s e r,v=.hp o nv [] s 0 0∧rt o=some r∧r.es=[e]∧s=r.s∧(cells e).length=s∧gx rt v=.uptr e):=by
 unfold gx at h ⊢
 split at h
 ·rename_i x hx
  unfold BF at hx
  split at hx
  ·rename_i o nv s off len
   simp only[aG] at hx
   obtain⟨r,hr,hx⟩:=hx
   split at hx
   ·rename_i hc
    cases hx
    obtain⟨rfl,h2,h3⟩:=hc
    exact .inl ⟨o,nv,s,len,r,rfl,hr,h2,h3,rfl⟩
   ·cases hx
  ·rename_i o nv s i k
   simp only[aG] at hx
   obtain⟨r,hr,hx⟩:=hx
   split at hx
   ·rename_i e he
    split at hx
    ·rename_i hc
     cases hx
     obtain⟨rfl,rfl,h2,h3⟩:=hc
     exact .inr ⟨o,nv,s,e,r,rfl,hr,he,h2,h3,rfl⟩
    ·cases hx
   ·cases hx
  ·split at hx
   ·rename_i hp
    cases hx
    exact absurd (DR hp).2 h
   ·cases hx
 ·exact absurd trivial h
def hC (ρ:bg)(q:Nat)(R:List ng):bg:=fun b=>
 match ρ b with
 | none=>none
 | some (o,l)=>if o=0 then some (0,l) else if o=q then some (2,l) else (R[o - 1]?).map fun e=>(1,(e.1,e.2.1)::l)
theorem wz {q R b}(h:ρ b=none):hC ρ q R b=none:=by simp[hC,h]
theorem Ji {q R b l}(h:ρ b=some (0,l)):hC ρ q R b=some (0,l):=by simp[hC,h]
theorem Jj {q R b l}(h:ρ b=some (q,l))(h0:q≠0):hC ρ q R b=some (2,l):=by simp[hC,h,h0]
theorem mz {q R b l j c k r}(h:ρ b=some (1+j,l))(hq:1+j≠q)(hj:R[j]?=some (c,k,r)):hC ρ q R b=some (1,(c,k)::l):=by
 unfold hC
 rw[h]
 simp only
 rw[if_neg (by omega),if_neg hq,show 1+j - 1=j by omega,hj]
 rfl
theorem oS {q R b n l}(h:hC ρ q R b=some (n,l)):(n=0∧ρ b=some (0,l))∨(n=2∧q≠0∧ρ b=some (q,l))∨∃j c k r t,n=1∧l=(c,k)::t∧ρ b=some (1+j,t)∧1+j≠q∧R[j]?=some (c,k,r):=by
 unfold hC at h
 split at h
 ·cases h
 ·rename_i o l' hb
  split at h
  ·rename_i h0
   cases h
   subst h0
   exact .inl ⟨rfl,hb⟩
  ·rename_i h0
   split at h
   ·rename_i hq
    cases h
    subst hq
    exact .inr (.inl ⟨rfl,h0,hb⟩)
   ·rename_i hq
    simp only[aI] at h
    obtain⟨⟨c,k,r⟩,he,h⟩:=h
    cases h
    exact .inr (.inr ⟨o - 1,c,k,r,l',rfl,rfl,by rw[show 1+(o - 1)=o by omega];exact hb,by omega,he⟩)
theorem Ov {v:V}(h:(cells v).all eP=true):kY v=false:=by
 cases v<;>first | rfl | simp[cells,eP] at h
structure Fits (fn:Func) (c:Code) (n:Nat):Prop where
 body:fn.body=some c
 name : (fn.name == "runtime.NumGoroutine") = false
 args:n≤fn.ntmps
theorem DX {P:Program}{f:FuncId}{fn:Func}{c:Code}{n:Nat}(hf:P.funcs[f]?=some fn)(F:Fits fn c n)(us:Array Value)(w:World):(callFunc f us).run P w=.ok (.enter f us) w:=by
 have:=F.name
 simp at this
 simp[callFunc,hf,F.body,this]
def qD (vs:List V):Nat:=(bh 1 0 vs).2.length
theorem LE {P:Program}{G:Ground}{vs:List V}{us:List Value}(ha:kj w ρ vs us)(hi:Inn w ρ)(hg:G.ok w ρ){fn:Func}(hn:vs.length≤fn.ntmps) :
  fz G (qD vs) w (fe ρ 1 1 (bh 1 0 vs).2) w (fe ρ 1 1 (bh 1 0 vs).2) (enter fn vs).2 { tmps:=us.toArray++Array.replicate (fn.ntmps - us.toArray.size) undef,defers:=[] }:=by
 have hp:∃p:Nat→Value,∀(a:Nat) u,us[a]?=some u→u=p a:=⟨fun a=>us.getD a undef,fun a u h=>by simp[List.getD_eq_getElem?_getD,h]⟩
 obtain⟨p,hp⟩:=hp
 have pl:=GA (N:=fun _ _=>True) (w:=w) (ρ:=ρ) (rt:=gR) (q:=1) (id:=1) (vs:=vs) (p:=p) (by intro o r h;cases h) hi.inj (by intro o r h;cases h)
  ⟨fun b o l h=>⟨(hi.lab b o l h).1,.inl (hi.lab b o l h).2⟩,rfl,hi.f⟩ (by omega) rfl (by omega) (fun _ _ _=>rfl) (fun _ _ _ _=>trivial) (fun c v hv=>by
   obtain⟨u,hu⟩:∃u,us[c]?=some u:=⟨_,d5 (by rw[←ha.1];exact (cd.1 hv).1)⟩
   have:=ha.2 c v u hv hu
   rw[hp c u hu] at this
   exact this)
 obtain⟨s1,s2,s3,s4⟩:=ka (vs:=vs) (id:=1) (c:=0)
 have e1:(enter fn vs).2.tm=(bh 1 0 vs).1++List.replicate (fn.ntmps - vs.length) .und:=rfl
 have e2:(enter fn vs).2.rt=dU gR 1 (bh 1 0 vs).2:=rfl
 have e3:(enter fn vs).2.nx=1+(bh 1 0 vs).2.length:=rfl
 have hle:∀b i l,fe ρ 1 1 (bh 1 0 vs).2 b=some (i,l)→i≤qD vs:=fun b i l h=>by
  rcases ir h with⟨h1,h2⟩ | ⟨c,k,j,h1,h2,h3⟩
  ·rcases (hi.lab b i l h1).2 with h | h
   ·omega
   ·exact absurd h h2
  ·obtain⟨r,hr⟩:=jJ h2
   have:=(cd.1 hr).1
   unfold qD
   omega
 refine⟨?_,?_,pl.inj,?_,?_,?_,?_,?_,Wk.refl,fun b hb _=>⟨hb,rfl⟩,fun b l hb=>⟨hb,rfl⟩,fun b l h=>h,rfl,?_,fun i b n _ h1 h2 _=>⟨h1,h2⟩,hle,?_⟩
 ·rw[e1,e2]
  refine⟨by simp[s1,ha.1],fun i v u hv hu=>?_⟩
  by_cases hi:i<vs.length
  ·rw[lm (by rw[s1];exact hi)] at hv
   simp only[Array.getElem?_append,List.size_toArray,←ha.1,hi,if_true,List.getElem?_toArray] at hu
   rw[hp i u hu]
   exact (pl.val i v hv).1
  ·rw[mY (by rw[s1];omega)] at hv
   simp only[Array.getElem?_append,List.size_toArray,←ha.1,hi,if_false,Array.getElem?_replicate] at hu
   rw[List.getElem?_replicate] at hv
   split at hv<;>cases hv
   split at hu<;>cases hu
   exact aM.mk1 rfl (.und _)
 ·rw[e2];exact pl.rok
 ·rw[e2];exact pl.rtn
 ·rw[e2];exact pl.lab
 ·rw[e2,e3]
  intro o ho
  unfold d9 at ho
  cases hr:dU gR 1 (bh 1 0 vs).2 o with
  | none=>rfl
  | some r=>
   rcases pl.nv o r hr with h | ⟨_,h⟩
   ·cases h
   ·omega
 ·rw[e3];intro o ho;unfold d9 at ho;omega
 ·rw[e1,e2,e3]
  intro i v hv
  by_cases hi:i<vs.length
  ·rw[lm (by rw[s1];exact hi)] at hv
   exact (pl.val i v hv).2 _ fun o h1 h2 h3=>by unfold d9 at h3;omega
  ·rw[mY (by rw[s1];omega)] at hv
   rw[List.getElem?_replicate] at hv
   split at hv<;>cases hv
   simp[an]
 ·exact⟨hg.1,fun b hb=>oC (hg.2.1 b hb),hg.2.2⟩
 ·rw[e3];unfold d9;unfold qD at *;intro i h1 h2;omega
end
section
variable {w w' : World} {ρ ρ' : bg} {rt rt' : ai}
theorem LU {P:Program}{E:Env}(A:Agree P E){G:Ground}{vs:List V}{us:List Value}(ha:kj w ρ vs us)(hi:Inn w ρ){fn:Func}{own:List Bool}{st:St}{a:Act}(R:fz G (qD vs) w (fe ρ 1 1 (bh 1 0 vs).2) w' ρ' st a){r:V}{os:List V}(h:kF E fn own (enter fn vs).1 st=some (r,os)) :
  ∃u,(results fn a.tmps).run P w'=.ok u w'∧∃ρe,Aft w ρ w' ρe∧vN w' ρe r u∧ri w ρ w' ρe own vs us os:=by
 simp only[kF,aG,aI] at h
 obtain⟨rs,hrs,⟨l,rt2⟩,hab,h⟩:=h
 cases h
 obtain⟨p,hrun,hslot⟩:=Hn A R.rok R.inj rfl R.tm hrs
 obtain⟨s1,s2,s3,s4⟩:=ka (vs:=vs) (id:=1) (c:=0)
 have hnl:qD vs<st.nx:=Nat.lt_of_not_le fun h=>R.nl (qD vs) (Nat.le_refl _) h
 have hq:st.rt st.nx=none:=R.fresh st.nx (Nat.le_refl _)
 have hq0:st.nx≠0:=by omega
 have hrn:cJ (bG (d9 st.nx) st.rt) rs:=dJ.2 fun v hv=>by
  obtain⟨i,hi⟩:=List.mem_iff_getElem?.1 hv
  obtain⟨hl,hg⟩:=pP hrs
  have:=hg i _ v (d5 (by have:=(cd.1 hi).1;omega)) hi
  revert this
  generalize fn.results.toList[i]'_=rv
  intro this
  cases rv with
  | tmp t=>exact R.tmn t v this
  | cell b t=>
   simp only[lg,aG] at this
   obtain⟨ti,ht,pv,hpv,cs,hc,this⟩:=this
   split at this
   ·exact yq this (wa (HM R.rtn (fun o r hr=>by
     rintro (h | ⟨r',h,h2⟩)
     ·rw[R.fresh o h] at hr;cases hr
     ·rw[hr] at h;cases h;omega) (R.tmn b pv hpv) hc))
   ·cases this
 obtain⟨ρ2,ab,hl,hres⟩:=ov (q:=st.nx) (i0:=0) (g:=p) (N:=bG (d9 st.nx) st.rt) R.rok R.inj R.rtn R.lab (fun i j l _ h=>hq0 h) hq0 hq hslot hrn hab
 have hR:(bh 1 0 vs).2.length<st.nx:=hnl
 have hlow:∀{j:Nat} {e:ng},(bh 1 0 vs).2[j]?=some e→1+j≠st.nx:=fun hj=>by
  have:=(cd.1 hj).1
  omega
 have K:Keep0 (fun _ _=>True) w' ρ2 rt2 w' (hC ρ2 st.nx (bh 1 0 vs).2) gR:=⟨fun b hb _=>⟨wz hb,rfl⟩,fun _ _ _ h _=>absurd trivial h⟩
 refine⟨_,hrun,hC ρ2 st.nx (bh 1 0 vs).2,⟨R.wk,fun b hb hlt=>?_,fun b l hb=>?_,fun b l hb=>?_,?_,fun b o l hb=>?_⟩,?_,?_⟩
 ·have h1:=R.fr b (oC hb) hlt
  have h2:=ab.keep.k1 b h1.1 (Nat.lt_of_lt_of_le hlt R.wk.size)
  exact⟨wz h2.1,h1.2⟩
 ·have h1:=R.k0 b l (ld hb (by omega))
  have h2:=ab.keep.k0 b l h1.1
  exact⟨Ji h2.1,h1.2⟩
 ·rcases oS hb with⟨_,h1⟩ | ⟨h0,_⟩ | ⟨_,_,_,_,_,h0,_⟩
  ·rcases ir (R.f0 b l (ab.f0 b l h1)) with⟨h2,_⟩ | ⟨_,_,_,_,_,h3⟩
   ·exact h2
   ·omega
  ·cases h0
  ·cases h0
 ·rintro b b' ⟨n,l⟩ h h'
  rcases oS h with⟨e,h1⟩ | ⟨e,e0,h1⟩ | ⟨j,c,k,r,t,e,rfl,h1,_,hj⟩<;>rcases oS h' with⟨e',h1'⟩ | ⟨e',e0',h1'⟩ | ⟨j',c',k',r',t',e',e1',h1',_,hj'⟩<;>(try omega)
  ·exact ab.inj b b' _ h1 h1'
  ·exact ab.inj b b' _ h1 h1'
  ·cases e1'
   have:=s4 j j' _ _ hj hj' rfl rfl
   subst this
   exact ab.inj b b' _ h1 h1'
 ·rcases oS hb with⟨e,h1⟩ | ⟨e,e0,h1⟩ | ⟨j,c,k,r,t,e,_,h1,_,hj⟩
  ·exact⟨(ab.lab.l b 0 l h1).1,.inl e⟩
  ·exact⟨(ab.lab.l b _ l h1).1,.inr (.inr e)⟩
  ·exact⟨(ab.lab.l b _ t h1).1,.inr (.inl e)⟩
 ·have hcell:∀(c:Nat) v,l[c]?=some v→aM w' (hC ρ2 st.nx (bh 1 0 vs).2) gR (fun k=>some (2,[(c,k)])) v (p c)∧nh v∧kY v=false:=by
   intro c v hv
   obtain⟨y,hy⟩:∃y,rs[c]?=some y:=⟨_,d5 (by have:=(cd.1 hv).1;omega)⟩
   obtain⟨⟨g,hg,hs⟩,h2,_,_,h5⟩:=hres c v y hv hy
   refine⟨⟨g,hg,fun k x hx=>?_⟩,h2,Ov h5⟩
   have:=(hs k x hx).mono0 K (fun l=>(2,l.2)) (fun l=>l.1=st.nx) (fun l i k _=>rfl) (fun l i k h=>h) (fun b l hl hb=>⟨by
    obtain⟨lo,ll⟩:=l
    simp only at hl
    subst hl
    exact Jj hb hq0,rfl⟩) (fun l hl=>by cases hl;rfl) (cz (bC h2 hx))
   simpa using this
  rw[←hl]
  by_cases h1:l.length=1
  ·obtain⟨v,rfl⟩:∃v,l=[v]:=by
    match l,h1 with
    | [v],_=>exact⟨v,rfl⟩
   have hv:=hcell 0 v rfl
   refine⟨p,by simp[sZ,hv.2.2],fun c x hx=>?_⟩
   have hc:eE v=[v]:=by cases v<;>first | rfl | (simp[kY] at hv)
   simp only[sZ,hc] at hx
   exact hcell c x hx
  ·have ht:sZ l=.tup l:=by
    match l,h1 with
    | [],_=>rfl
    | _::_::_,_=>rfl
    | [v],h=>exact absurd rfl h
   rw[ht]
   exact⟨p,by simp[kY,eE,h1],fun c x hx=>hcell c x hx⟩
 ·intro a v u x hv hu hx g hug k y z hy hz hno
  obtain⟨av,hav,rfl⟩:=vZ hx
  rw[Jf,List.getElem?_map] at hy
  obtain⟨c0,hc0,rfl⟩:=aI.1 hy
  obtain⟨y',hy',_,hlen,hcc⟩:=s3 a v hv
  have:y'=av:=by
   have:(enter fn vs).1=(bh 1 0 vs).1:=rfl
   rw[this] at hav
   rw[hav] at hy'
   cases hy';rfl
  subst this
  have hown:∃j:Nat,(bh 1 0 vs).2[j]?=some (a,k,kM z)∧c0=io (1+j) z∧¬notOwn z:=by
   rcases hcc k z hz with⟨h1,h2⟩ | ⟨h1,j,h2,h3⟩
   ·rw[h2] at hc0
    cases hc0
    exfalso
    rcases qC hno with⟨o,nv,s,len,r,rfl,_⟩ | ⟨o,nv,s,e,r,rfl,_⟩
    ·have:=(ha.2 a v u hv hu).2
     have:=bC this hz
     simp[nh] at this
    ·have:=(ha.2 a v u hv hu).2
     have:=bC this hz
     simp[nh] at this
   ·rw[h3] at hc0
    cases hc0
    exact⟨j,by simpa using h2,rfl,h1⟩
  obtain⟨j,hj,rfl,hzo⟩:=hown
  have hjm:=(cd.1 hj).1
  obtain⟨⟨g',hg',hsl⟩,hnz⟩:=ha.2 a v u hv hu
  have hgk:∀k x,(cells v)[k]?=some x→g k=g' k:=by
   intro k x hx
   rw[hug] at hg'
   unfold fc at hg'
   split at hg'
   ·have hk:=(cd.1 hx).1
    injection hg' with hg'
    have h1:(cT (cells v).length g)[k]?=some (g k):=iI hk
    rw[hg',iI hk] at h1
    exact (Option.some.inj h1).symm
   ·rename_i hag
    have hk:=(cd.1 hx).1
    rw[bw (by simpa using hag)] at hk
    simp at hk
    subst hk
    exact hg'
  have hrz:=hsl k z hz
  rw[←hgk k z hz] at hrz
  generalize g k=uv at hrz ⊢
  have hpos:pO (bh 1 0 vs).2 a k=some j:=by
   obtain⟨j',h'⟩:=vi hj
   obtain⟨r',h''⟩:=jJ h'
   rw[h',s4 j' j _ _ h'' hj rfl rfl]
  have hlab:∀b t,ρ b=some (1,(a,k)::t)→fe ρ 1 1 (bh 1 0 vs).2 b=some (1+j,t):=fun b t hb=>lc hb hpos
  have hrt2:∀r,rt2 (1+j)=some r→∃r0,st.rt (1+j)=some r0∧r.nv=r0.nv:=fun r hr=>by
   obtain⟨r0,h0,h1,_⟩:=ab.nv (1+j) r hr
   exact⟨r0,h0,h1⟩
  have hkeep:∀r b n,rt2 (1+j)=some r→ρ b=some (1,[(a,k)])→km w b n→ρ2 b=some (1+j,[])∧km w' b n:=fun r b n hr hb hn=>by
   obtain⟨r0,h0,h1⟩:=hrt2 r hr
   have h2:=R.am (1+j) b n (by omega) (hlab b [] hb) hn (by rw[h0];rfl)
   have hlv:b8 rt2 (1+j) r0.nv []:=by simp[b8,bD,bA,hr,aU]
   exact (ab.keep.k2 (1+j) r0.nv [] (by
    rintro (h | ⟨r2,h,h3⟩)
    ·unfold d9 at h;omega
    ·rw[h0] at h;cases h;omega) hlv).2 b n h2.1 h2.2
  have hmove:∀{e x:V} {i kk:Nat} {r:Root} {yv:Value},rt2 (1+j)=some r→r.es[i]?=some e→(cells e)[kk]?=some x→RepV w' ρ2 rt2 (some (1+j,[(i,kk)])) x yv→
    RepV w' (hC ρ2 st.nx (bh 1 0 vs).2) gR (some (cS.at (1,[(a,k)]) i kk)) x yv:=by
   intro e x i kk r yv hr he hx hxv
   have:=hxv.mono0 K (fun l=>(1,(a,k)::l.2)) (fun l=>l.1=1+j) (fun l i k _=>rfl) (fun l i k h=>h) (fun b l hl hb=>⟨by
    obtain⟨lo,ll⟩:=l
    simp only at hl
    subst hl
    exact mz hb (hlow hj) hj,rfl⟩) (fun l hl=>by cases hl;rfl) (cz (bC (cp (ab.rtn _ r hr) he) hx))
   simpa[cS.at] using this
  rcases BV z with h | ⟨s,es,rfl⟩ | ⟨e,rfl⟩
  ·exact absurd h hzo
  ·rcases qC hno with⟨o,nv,s',len,r,heq,hr,hln,hs',hout⟩ | ⟨o,nv,s',e,r,heq,_⟩
   ·simp only[io,V.hs.injEq] at heq
    obtain⟨rfl,rfl,_,rfl,_,rfl⟩:=heq
    rw[hout]
    refine⟨by simpa[nh] using ab.rtn _ r hr,?_,fun b nb hb hnb=>(mz (hkeep r b nb hr hb hnb).1 (hlow hj) hj)⟩
    ·cases hrz with
     | usl0=>
      have:r.es=[]:=List.eq_nil_of_length_eq_zero (by simpa using hln.symm)
      rw[this]
      exact .usl0 _ _ _
     | usl _ _ _ b A c arr T gg hρ hb hl' hA hcap hs hc h=>
      obtain⟨h1,arr',T',h2,h3⟩:=hkeep r b arr.size hr hρ ⟨arr,T,hb,rfl⟩
      have e1:hC ρ2 st.nx (bh 1 0 vs).2 b=some (1,[(a,k)]):=mz h1 (hlow hj) hj
      rw[show es.length=r.es.length from hln]
      rcases ab.rok (1+j) r hr with h0 | ⟨b',arr2,T2,g2,q1,q2,q3,q4,q5⟩
      ·rw[h0]
       exact .usl _ _ [] b A c arr' T' (fun _ _=>undef) e1 h2 (by simp) hA (by rw[h3];exact hcap) (by simp) (by simp) (by simp)
      ·have:=ab.inj b b' _ h1 q1
       subst this
       rw[h2] at q2
       cases q2
       exact .usl _ _ _ b A c arr' T' g2 e1 h2 (by rw[←hln];exact hl') hA (by rw[h3];exact hcap) (by rw[hs'];exact q3) (by rw[hs'];exact q4) (fun i e k' x he hx=>hmove hr he hx (q5 i e k' x he hx))
   ·simp[io] at heq
  ·rcases qC hno with⟨o,nv,s',len,r,heq,_⟩ | ⟨o,nv,s',e2,r,heq,hr,hes,hs',hce,hout⟩
   ·simp[io] at heq
   ·simp only[io,V.hp.injEq] at heq
    obtain⟨rfl,rfl,_,rfl,_,_⟩:=heq
    rw[hout]
    cases hrz with
    | uptr _ _ b arr T gg hρ hb hc h=>
     obtain⟨h1,arr',T',h2,h3⟩:=hkeep r b arr.size hr hρ ⟨arr,T,hb,rfl⟩
     have e1:hC ρ2 st.nx (bh 1 0 vs).2 b=some (1,[(a,k)]):=mz h1 (hlow hj) hj
     refine⟨by have:=ab.rtn _ r hr;rw[hes] at this;simpa[nh,nhs] using this,?_,fun b2 nb hb2 hnb=>mz (hkeep r b2 nb hr hb2 hnb).1 (hlow hj) hj⟩
     ·rcases ab.rok (1+j) r hr with h0 | ⟨b',arr2,T2,g2,q1,q2,q3,q4,q5⟩
      ·rw[hes] at h0;cases h0
      ·have:=ab.inj b b' _ h1 q1
       subst this
       rw[h2] at q2
       cases q2
       refine .uptr _ _ b arr' T' (g2 0) e1 h2 (fun kk x hx=>?_) (fun kk x hx=>?_)
       ·have:=q4 0 e2 kk x (by rw[hes];rfl) hx
        simpa using this
       ·exact hmove hr (i:=0) (by rw[hes];rfl) hx (q5 0 e2 kk x (by rw[hes];rfl) hx)
end
section
def Ag (H:Nat→Prop)(rt rt2:ai):Prop:=∀o,H o→rt2 o=rt o
def Lk (H:Nat→Prop)(rt rt1 rt2 rt3:ai):Prop:=∀o,(H o→rt3 o=rt1 o)∧(¬H o→rt3 o=rt2 o∧rt1 o=rt o)
variable {H : Nat→Prop} {rt rt1 rt2 rt3 : ai}
theorem Lk.refl (h:Ag H rt rt2):Lk H rt rt rt2 rt2:=fun o=>⟨h o,fun _=>⟨rfl,rfl⟩⟩
theorem Lk.ag (h:Lk H rt rt1 rt2 rt3):Ag H rt1 rt3:=fun o ho=>(h o).1 ho
theorem Lk.trans {a b:ai}(h:Lk H rt rt1 rt2 rt3)(h':Lk H rt1 a rt3 b):Lk H rt a rt2 b:=
 fun o=>⟨fun ho=>(h' o).1 ho,fun ho=>⟨((h' o).2 ho).1.trans ((h o).2 ho).1,((h' o).2 ho).2.trans ((h o).2 ho).2⟩⟩
theorem Lk.upd {o:Nat}{r:Option Root}(ho:H o)(h:Lk H rt rt1 rt2 rt3):Lk H rt (upd rt1 o r) rt2 (upd rt3 o r):=fun x=>by
 by_cases hx:x=o
 ·subst hx
  exact⟨fun _=>by simp[Ln.upd],fun h=>absurd ho h⟩
 ·simp only[Ln.upd,if_neg hx]
  exact h x
theorem l4 (h:Ag H rt rt2){o nv:Nat}{p}(ho:H o):bA rt2 o nv p=bA rt o nv p:=by simp[bA,h o ho]
theorem lb (h:Ag H rt rt2){o nv:Nat}{p}(ho:H o):bD rt2 o nv p=bD rt o nv p:=by simp[bD,l4 h ho]
theorem Qb (h:Ag H rt rt2){v:V}(hv:∀o∈di v,H o):jE rt2 v=jE rt v:=by
 cases v with
 | hp o nv p s i k=>simp[jE,l4 h (hv o (by simp[di]))]
 | _=>rfl
theorem yd (h:Ag H rt rt2){v:V}(hv:∀o∈di v,H o):kV rt2 v=kV rt v:=by
 cases v with
 | hp o nv p s i k=>simp[kV,lb h (hv o (by simp[di]))]
 | hs o nv p s i k=>simp[kV,lb h (hv o (by simp[di]))]
 | _=>rfl
theorem GN (h:Ag H rt rt2){v:V}(hv:∀o∈di v,H o):fO rt2 v=fO rt v:=by
 cases v with
 | hp o nv p s i k=>simp[fO,lb h (hv o (by simp[di]))]
 | hs o nv p s i k=>simp[fO,lb h (hv o (by simp[di]))]
 | _=>rfl
theorem NN {E:Env}{t t':TypeId}(h:Ag H rt rt2){v:V}(hv:∀o∈di v,H o):qc E rt2 t t' v=qc E rt t t' v:=by
 have:yB rt2 v=yB rt v:=by
  cases v with
  | hs o nv p s i k=>simp[yB,lb h (hv o (by simp[di]))]
  | _=>rfl
 unfold qc
 split<;>simp_all
theorem ip {o:Nat}:∀{vs:List V},o∈dS vs↔∃v∈vs,o∈di v
 | []=>by simp[dS]
 | v::vs=>by simp[dS,@ip o vs]
theorem DZ (h:Ag H rt rt2):∀{vs:List V},(∀o∈dS vs,H o)→iu rt2 vs=iu rt vs
 | [],_=>rfl
 | v::vs,hv=>by
  simp only[dS,List.mem_append] at hv
  simp only[iu,GN h fun o ho=>hv o (.inl ho),DZ h fun o ho=>hv o (.inr ho)]
theorem DY (h:Ag H rt rt2){v:V}(hv:∀o∈di v,H o):hJ rt2 v=hJ rt v:=by
 cases v<;>first | exact GN h hv | (simp only[hJ];rw[DZ h (by simpa[di] using hv)])
theorem Gc (h:Ag H rt rt2){v:V}(hv:∀o∈di v,H o):ib rt2 v=ib rt v:=by
 cases v with
 | hp o nv p s i k=>simp[ib,l4 h (hv o (by simp[di]))]
 | hs o nv p s i k=>simp[ib,l4 h (hv o (by simp[di]))]
 | _=>rfl
theorem DF (h:Ag H rt rt2):∀{vs:List V},(∀o∈dS vs,H o)→ob rt2 vs=ob rt vs
 | [],_=>rfl
 | v::vs,hv=>by
  simp only[dS,List.mem_append] at hv
  simp only[ob,Gc h fun o ho=>hv o (.inl ho),DF h fun o ho=>hv o (.inr ho)]
theorem Qg (h:Ag H rt rt2){v:V}(hv:∀o∈di v,H o):ox rt2 v=ox rt v:=by
 cases v<;>first | exact Gc h hv | (simp only[ox];rw[DF h (by simpa[di] using hv)])
theorem sn (h:Ag H rt rt2):∀{own:List Bool} {vs:List V},(∀o∈dS vs,H o)→eK rt2 own vs=eK rt own vs
 | own,[],_=>by cases own<;>rfl
 | [],v::vs,hv=>by
  simp only[dS,List.mem_append] at hv
  simp only[eK,DY h fun o ho=>hv o (.inl ho),sn h (own:=[]) fun o ho=>hv o (.inr ho)]
 | true::own,v::vs,hv=>by
  simp only[dS,List.mem_append] at hv
  simp only[eK,Qg h fun o ho=>hv o (.inl ho),sn h (own:=own) fun o ho=>hv o (.inr ho)]
 | false::own,v::vs,hv=>by
  simp only[dS,List.mem_append] at hv
  simp only[eK,DY h fun o ho=>hv o (.inl ho),sn h (own:=own) fun o ho=>hv o (.inr ho)]
theorem Cb (h:Ag H rt rt2){o:Nat}(ho:H o){r:Root}{p}(e:eD rt o r p=some rt1):∃rt3,eD rt2 o r p=some rt3∧Lk H rt rt1 rt2 rt3:=by
 unfold eD at e ⊢
 split at e
 ·cases e
  exact⟨_,rfl,(Lk.refl h).upd ho⟩
 ·simp only[aG,aI] at e
  obtain⟨y,hy,z,hz,es,hes,rfl⟩:=e
  exact⟨_,by simp[hy,hz,hes],(Lk.refl h).upd ho⟩
theorem lH (h:Ag H rt rt2){v x:V}(hv:∀o∈di v,H o)(e:bX rt v=some (x,rt1)):∃rt3,bX rt2 v=some (x,rt3)∧Lk H rt rt1 rt2 rt3:=by
 have pl:∀{w:V},(if cl w then some (w,rt) else none)=some (x,rt1)→∃rt3,(if cl w then some (w,rt2) else none)=some (x,rt3)∧Lk H rt rt1 rt2 rt3:=by
  intro w e
  split at e
  ·rename_i hp
   cases e
   exact⟨rt2,by simp[hp],Lk.refl h⟩
  ·cases e
 cases v with
 | hp o nv p s i k=>
  have ho:H o:=hv o (by simp[di])
  simp only[bX,aG] at e
  obtain⟨r,hr,y,hy,e⟩:=e
  split at e
  ·rename_i z hz
   split at e
   ·rename_i hc
    simp only[aI,Prod.mk.injEq] at e
    obtain⟨rt',ht,rfl,rfl⟩:=e
    obtain⟨rt3,h3,h4⟩:=Cb h ho ht
    exact⟨rt3,by simp[bX,l4 h ho,hr,hy,hz,hc,h3],h4⟩
   ·cases e
  ·cases e
 | hs o nv p s off len=>
  have ho:H o:=hv o (by simp[di])
  simp only[bX,aG] at e
  obtain⟨r,hr,y,hy,e⟩:=e
  split at e
  ·rename_i hc
   simp only[aI,Prod.mk.injEq] at e
   obtain⟨rt',ht,rfl,rfl⟩:=e
   obtain⟨rt3,h3,h4⟩:=Cb h ho ht
   refine⟨rt3,?_,h4⟩
   simp only[bX,l4 h ho,hr,hy,cm]
   rw[if_pos hc,h3]
   rfl
  ·cases e
 | _=>(simp only[bX] at e ⊢;exact pl e)
theorem Br:∀{vs xs:List V} {rt rt1 rt2:ai},Ag H rt rt2→(∀o∈dS vs,H o)→fh rt vs=some (xs,rt1)→∃rt3,fh rt2 vs=some (xs,rt3)∧Lk H rt rt1 rt2 rt3
 | [],xs,rt,rt1,rt2,h,_,e=>by
  simp only[fh,Option.some.injEq,Prod.mk.injEq] at e
  obtain⟨rfl,rfl⟩:=e
  exact⟨rt2,rfl,Lk.refl h⟩
 | v::vs,xs,rt,rt1,rt2,h,hv,e=>by
  simp only[dS,List.mem_append] at hv
  simp only[fh,aG,aI,Prod.mk.injEq] at e
  obtain⟨⟨x,ra⟩,hx,⟨ys,rb⟩,hy,rfl,rfl⟩:=e
  obtain⟨r3,h3,k3⟩:=lH h (fun o ho=>hv o (.inl ho)) hx
  obtain⟨r4,h4,k4⟩:=Br k3.ag (fun o ho=>hv o (.inr ho)) hy
  exact⟨r4,by simp only[fh,h3,cm];rw[h4];rfl,k3.trans k4⟩
theorem uD (h:Ag H rt rt2){v x:V}(hv:∀o∈di v,H o)(e:gF rt v=some (x,rt1)):∃rt3,gF rt2 v=some (x,rt3)∧Lk H rt rt1 rt2 rt3:=by
 cases v with
 | agg cs=>
  simp only[gF,aI,Prod.mk.injEq] at e
  obtain⟨⟨xs,r1⟩,hx,rfl,rfl⟩:=e
  obtain⟨r3,h3,k3⟩:=Br h (by simpa[di] using hv) hx
  exact⟨r3,by simp[gF,h3],k3⟩
 | _=>exact lH h hv e
theorem te:∀{vs xs:List V} {rt rt1 rt2:ai},Ag H rt rt2→(∀o∈dS vs,H o)→du rt vs=some (xs,rt1)→∃rt3,du rt2 vs=some (xs,rt3)∧Lk H rt rt1 rt2 rt3
 | [],xs,rt,rt1,rt2,h,_,e=>by
  simp only[du,Option.some.injEq,Prod.mk.injEq] at e
  obtain⟨rfl,rfl⟩:=e
  exact⟨rt2,rfl,Lk.refl h⟩
 | v::vs,xs,rt,rt1,rt2,h,hv,e=>by
  simp only[dS,List.mem_append] at hv
  simp only[du,aG,aI,Prod.mk.injEq] at e
  obtain⟨⟨x,ra⟩,hx,⟨ys,rb⟩,hy,rfl,rfl⟩:=e
  obtain⟨r3,h3,k3⟩:=uD h (fun o ho=>hv o (.inl ho)) hx
  obtain⟨r4,h4,k4⟩:=te k3.ag (fun o ho=>hv o (.inr ho)) hy
  exact⟨r4,by simp only[du,h3,cm];rw[h4];rfl,k3.trans k4⟩
theorem JM (h:Ag H rt rt2){v:V}{xs:List V}(hv:∀o∈di v,H o)(e:eS rt v=some (xs,rt1)):∃rt3,eS rt2 v=some (xs,rt3)∧Lk H rt rt1 rt2 rt3:=by
 cases v with
 | isl n es=>
  simp only[eS,Option.some.injEq,Prod.mk.injEq] at e
  obtain⟨rfl,rfl⟩:=e
  exact⟨rt2,rfl,Lk.refl h⟩
 | hs o nv p s off len=>
  have ho:H o:=hv o (by simp[di])
  simp only[eS,aG] at e
  obtain⟨y,hy,e⟩:=e
  simp only[eS,lb h ho,hy,cm]
  split at e
  ·rename_i hc
   rw[if_pos hc]
   split at e
   ·cases e
   ·rename_i hs
    rw[if_neg hs]
    split at e
    ·rename_i hf
     rw[if_pos hf]
     cases e
     exact⟨rt2,rfl,Lk.refl h⟩
    ·rename_i hf
     rw[if_neg hf]
     split at e
     ·rename_i hq
      rw[if_pos hq]
      cases e
      exact⟨_,rfl,(Lk.refl h).upd ho⟩
     ·cases e
  ·cases e
 | _=>simp[eS] at e
end
section
variable {H : Nat→Prop} {rt rt1 rt2 rt3 : ai}
theorem mE {o:Nat}:∀{own:List Bool} {vs:List V},o∈bl own vs→o∈dS vs
 | own,[],h=>by cases own with
  | nil=>simp[bl] at h
  | cons b _=>cases b<;>simp[bl] at h
 | [],v::vs,h=>by
  simp only[bl,List.mem_append] at h
  simp only[dS,List.mem_append]
  exact h.imp id mE
 | true::own,v::vs,h=>by
  simp only[bl] at h
  simp only[dS,List.mem_append]
  exact .inr (mE h)
 | false::own,v::vs,h=>by
  simp only[bl,List.mem_append] at h
  simp only[dS,List.mem_append]
  exact h.imp id mE
theorem HP {v x:V}{k o:Nat}(hx:(cells v)[k]?=some x)(h:dA x=some o):o∈di v:=by
 have hxi:o∈di x:=by cases x<;>simp[dA] at h<;>simp[di,h]
 by_cases ha:al v=true
 ·cases v<;>simp[al] at ha
  simp only[di]
  exact ip.2 ⟨x,ii hx,hxi⟩
 ·rw[bw (by simpa using ha)] at hx
  cases k<;>simp at hx
  subst hx
  exact hxi
theorem LJ {own:List Bool}{vs:List V}{o:Nat}{x:fU×Nat×Nat}(h:dI (aZ 0 own vs) o=some x):o∈dS vs:=by
 obtain⟨a,v,k,y,h1,h2,h3,h4,h5⟩:=jZ.1 (od h)
 exact ip.2 ⟨v,ii h2,HP h3 h4⟩
theorem NM {E:Env}(h:Ag H rt rt2){id:Nat}(hb:∀o,id≤o→o<id+bO→H o){f:FuncId}{args:List V}{v:V}(hv:∀o∈dS args,H o)(e:jB E rt id f args=some (v,rt1)):∃rt3,jB E rt2 id f args=some (v,rt3)∧Lk H rt rt1 rt2 rt3:=by
 simp only[jB,aG] at e
 obtain⟨en,hen,e⟩:=e
 split at e
 ·rename_i hchk
  simp only[aG] at e
  obtain⟨xs,hxs,⟨r,os⟩,hF,e⟩:=e
  simp only at e
  split at e
  ·rename_i hroom
   simp only[Option.some.injEq,Prod.mk.injEq] at e
   obtain⟨rfl,rfl⟩:=e
   refine⟨dU (iK rt2 (aZ 0 en.own args) en.own os (if (cy r||cY os)=true then bl en.own args else [])) id (bh id 0 (eE r)).2,?_,?_⟩
   ·simp only[jB,hen,cm]
    rw[if_pos hchk,sn h hv,hxs]
    simp only[cm,hF]
    rw[if_pos hroom]
   ·have hd:∀o,o∈(if (cy r||cY os)=true then bl en.own args else [])→H o:=fun o ho=>by
     split at ho
     ·exact hv o (mE ho)
     ·cases ho
    generalize (if (cy r||cY os)=true then bl en.own args else [])=dead at hd
    intro o
    by_cases hin:id≤o∧o<id+(bh id 0 (eE r)).2.length
    ·have ho:H o:=hb o hin.1 (by omega)
     refine⟨fun _=>?_,fun hn=>absurd ho hn⟩
     simp only[dU]
     rw[if_pos hin,if_pos hin]
    ·simp only[dU]
     rw[if_neg hin,if_neg hin]
     simp only[iK]
     cases hg:dI (aZ 0 en.own args) o with
     | some x=>
      have ho:H o:=hv o (LJ hg)
      refine⟨fun _=>by simp only[h o ho],fun hn=>absurd ho hn⟩
     | none=>
      by_cases hc:dead.contains o=true
      ·simp only[hc,if_true]
       refine⟨fun _=>trivial,fun hn=>absurd (hd o (by simpa using hc)) hn⟩
      ·simp only[hc]
       exact⟨fun ho=>by simpa using h o ho,fun _=>⟨rfl,rfl⟩⟩
  ·cases e
 ·cases e
theorem LC {E:Env}(h:Ag H rt rt2){t:TypeId}{x:V}(hx:∀o∈di x,H o)(e:rm E rt t x=some rt1):∃rt3,rm E rt2 t x=some rt3∧Lk H rt rt1 rt2 rt3:=by
 unfold rm at e ⊢
 split at e
 ·split at e
  ·rename_i hs
   cases e
   exact⟨rt2,by simp[hs],Lk.refl h⟩
  ·cases e
 ·rename_i o nv s off len
  have ho:H o:=hx o (by simp[di])
  split at e
  ·simp only[aG] at e
   obtain⟨ei,hei,z,hz,r,hr,e⟩:=e
   split at e
   ·rename_i hc
    cases e
    exact⟨_,by simp only[hei,hz,h o ho,hr,cm];rw[if_pos hc],(Lk.refl h).upd ho⟩
   ·cases e
  ·cases e
 ·cases e
theorem I8 {E:Env}(h:Ag H rt rt2){id:Nat}(hb:H id){t:TypeId}{d x v:V}(hd:∀o∈di d,H o)(hx:∀o∈di x,H o)(e:jX E rt id t d x=some (v,rt1)):∃rt3,jX E rt2 id t d x=some (v,rt3)∧Lk H rt rt1 rt2 rt3:=by
 unfold jX at e ⊢
 split at e
 ·simp only[aG] at e
  obtain⟨ei,hei,⟨es,ra⟩,hes,e⟩:=e
  obtain⟨r3,h3,k3⟩:=JM h hx hes
  simp only[hei,cm,h3]
  split at e
  ·rename_i hall
   rw[if_pos hall]
   split at e
   ·split at e
    ·rename_i hl
     rw[if_pos hl]
     simp only[Option.some.injEq,Prod.mk.injEq] at e
     obtain⟨rfl,rfl⟩:=e
     exact⟨_,rfl,k3.upd hb⟩
    ·cases e
   ·rename_i o nv p s off len
    simp only[aG] at e
    obtain⟨z,hz,e⟩:=e
    have ho:H o:=hd o (by simp[di])
    simp only[lb k3.ag ho,hz,cm]
    split at e
    ·rename_i hc
     rw[if_pos hc]
     simp only[aI,Prod.mk.injEq] at e
     obtain⟨⟨u1,u2⟩,hu,rfl,rfl⟩:=e
     obtain⟨r4,h4,k4⟩:=lH k3.ag hd hu
     exact⟨_,by rw[h4];rfl,(k3.trans k4).upd hb⟩
    ·cases e
   ·cases e
  ·cases e
 ·cases e
theorem Mp {E:Env}(h:Ag H rt rt2){t:TypeId}{p x:V}(hp:∀o∈di p,H o)(hx:∀o∈di x,H o)(e:mP E rt t p x=some rt1):∃rt3,mP E rt2 t p x=some rt3∧Lk H rt rt1 rt2 rt3:=by
 unfold mP at e ⊢
 split at e
 ·rename_i o nv path s i k
  simp only[aG] at e
  obtain⟨ti,hti,⟨y,ra⟩,hy,e⟩:=e
  obtain⟨r3,h3,k3⟩:=uD h hx hy
  have ho:H o:=hp o (by simp[di])
  simp only[hti,cm,h3]
  split at e
  ·rename_i hc
   rw[if_pos hc]
   simp only[aG] at e
   obtain⟨r,hr,z,hz,e⟩:=e
   simp only[l4 k3.ag ho,hr,cm,hz]
   split at e
   ·rename_i hs
    rw[if_pos hs]
    simp only[aG] at e
    obtain⟨w,hw,e⟩:=e
    simp only[hw,cm]
    split at e
    ·rename_i hk
     rw[if_pos hk]
     simp only[aI] at e
     obtain⟨es,hes,rfl⟩:=e
     exact⟨_,by rw[hes];rfl,k3.upd ho⟩
    ·cases e
   ·cases e
  ·cases e
 ·cases e
def BU (st:St)(op:Op):List Nat:=(op.operands.toList.filterMap (ev st)).flatMap di
theorem oe {st:St}{op:Op}{x:Operand}{v:V}{o:Nat}(hx:x∈op.operands.toList)(hv:ev st x=some v)(ho:o∈di v):o∈BU st op:=
 List.mem_flatMap.2 ⟨v,List.mem_filterMap.2 ⟨x,hx,hv⟩,ho⟩
def iW:Op→Bool
 | .move _ | .assign _ | .pick .. | .build .. | .binOp .. | .unOp ..  | .makeInterface .. | .makeFunc .. | .field .. | .index .. | .extract .. | .alloc _ | .makeSlice ..=>true
 | _=>false
def fS (st:St)(op:Op):List Nat:=if iW op then [] else BU st op
theorem F1 {st st2:St}:∀{xs:List Operand},(∀x∈xs,ev st2 x=ev st x)→gQ st2 xs=gQ st xs
 | [],_=>rfl
 | x::xs,h=>by
  simp only[gQ,h x (by simp),F1 fun y hy=>h y (List.mem_cons_of_mem _ hy)]
theorem sA {st st2:St}:∀{xs:List (Nat×Operand)},(∀x∈xs,ev st2 x.2=ev st x.2)→fj st2 xs=fj st xs
 | [],_=>rfl
 | (i,x)::xs,h=>by
  simp only[fj,h (i,x) (by simp),sA fun y hy=>h y (List.mem_cons_of_mem _ hy)]
theorem rn {st:St}:∀{xs:List Operand} {vs:List V} {v:V},gQ st xs=some vs→v∈vs→∃x∈xs,ev st x=some v
 | [],vs,v,h,hv=>by simp[gQ] at h;subst h;cases hv
 | x::xs,vs,v,h,hv=>by
  simp only[gQ,aG,aI] at h
  obtain⟨u,hu,us,hus,rfl⟩:=h
  rcases List.mem_cons.1 hv with rfl | hv
  ·exact⟨x,by simp,hu⟩
  ·obtain⟨y,hy,h⟩:=rn hus hv
   exact⟨y,List.mem_cons_of_mem _ hy,h⟩
theorem wA {st:St}:∀{xs:List (Nat×Operand)} {vs:List (Nat×V)} {v:Nat×V},fj st xs=some vs→v∈vs→∃x∈xs,ev st x.2=some v.2
 | [],vs,v,h,hv=>by simp[fj] at h;subst h;cases hv
 | (i,x)::xs,vs,v,h,hv=>by
  simp only[fj,aG,aI] at h
  obtain⟨u,hu,us,hus,rfl⟩:=h
  rcases List.mem_cons.1 hv with rfl | hv
  ·exact⟨(i,x),by simp,hu⟩
  ·obtain⟨y,hy,h⟩:=wA hus hv
   exact⟨y,List.mem_cons_of_mem _ hy,h⟩
theorem F0 {st st2:St}{x:Option Operand}(h:∀y,x=some y→ev st2 y=ev st y):mA st2 x=mA st x:=by
 cases x with
 | none=>rfl
 | some y=>simp only[mA,h y rfl]
theorem B1 {sz:Nat}{a:Bool}:∀{ps:List (Nat×V)} {es es':List V} {v:V},js sz a es ps=some es'→v∈es'→v∈es∨∃p∈ps,p.2=v
 | [],es,es',v,h,hv=>by simp[js] at h;subst h;exact .inl hv
 | (i,x)::ps,es,es',v,h,hv=>by
  simp only[js] at h
  split at h
  ·rcases B1 h hv with h1 | ⟨p,hp,rfl⟩
   ·rcases List.mem_or_eq_of_mem_set h1 with h2 | h2
    ·exact .inl h2
    ·exact .inr ⟨(i,x),by simp,h2.symm⟩
   ·exact .inr ⟨p,List.mem_cons_of_mem _ hp,rfl⟩
  ·cases h
end
section
variable {H : Nat→Prop} {rt rt1 rt2 rt3 : ai}
theorem LM {c:Value}{v:V}(h:gU c=some v):di v=[]:=by
 have one:∀{c:Value} {v:V},jr c=some v→di v=[]:=by
  intro c v h
  unfold jr at h
  split at h<;>cases h<;>rfl
 unfold gU at h
 split at h
 ·simp only[aI] at h
  obtain⟨vs,hvs,rfl⟩:=h
  simp only[di]
  rename_i cs
  generalize cs.toList=l at hvs
  induction l generalizing vs with
  | nil=>simp[gw] at hvs;subst hvs;rfl
  | cons x l ih=>
   simp only[gw,aG,aI] at hvs
   obtain⟨y,hy,ys,hys,rfl⟩:=hvs
   simp[dS,one hy,ih ys hys]
 ·exact one h
theorem Ma {E : Env}{id : Nat}{st st2 : St}{op : Op}{v : V}(hb : ∀ o, id ≤ o → o < id + bO → H o)(ho : ∀ o ∈ fS st op, H o)(hx : ∀ x ∈ op.operands.toList, ev st2 x = ev st x)(h : Ag H st.rt st2.rt)(e : aX E id st op=some (v,rt1)) : ∃ rt3,aX E id st2 op=some (v,rt3) ∧ Lk H st.rt rt1 st2.rt rt3:=by
  have dA : H id:=hb id (Nat.le_refl _) (by unfold bO; omega)
  have pure : st.rt=rt1→aX E id st2 op=some (v,st2.rt)→∃ rt3,aX E id st2 op=some (v,rt3) ∧ Lk H st.rt rt1 st2.rt rt3:=by
    rintro rfl h2
    exact ⟨_,h2,Lk.refl h⟩
  have hv : iW op=false→∀ {x : Operand} {u : V},x ∈ op.operands.toList→ev st x=some u→∀ o ∈ di u,H o:=fun hn _ _ hm hu o hi=>ho o (by unfold fS; rw [hn]; exact oe hm hu hi)
  cases op with
  | move x =>
    simp only [aX,aI,Prod.mk.injEq] at e
    obtain ⟨u,hu,rfl,rfl⟩:=e
    exact pure rfl (by simp [aX,hx x (by simp [Op.operands]),hu])
  | assign x =>
    simp only [aX,aI,Prod.mk.injEq] at e
    obtain ⟨u,hu,rfl,rfl⟩:=e
    exact pure rfl (by simp [aX,hx x (by simp [Op.operands]),hu])
  | pick c a b =>
    simp only [aX,aI,aG,Prod.mk.injEq] at e
    obtain ⟨u,hu,y,hy,rfl,rfl⟩:=e
    refine pure rfl ?_
    simp only [aX,hx c (by simp [Op.operands]),hx a (by simp [Op.operands]),hx b (by simp [Op.operands]),hu,cm]
    rw [hy]; rfl
  | alloc t =>
    simp only [aX,aI,aG,Prod.mk.injEq] at e
    obtain ⟨ti,hti,z,hz,rfl,rfl⟩:=e
    exact ⟨_,by simp [aX,hti,hz],(Lk.refl h).upd dA⟩
  | box t x =>
    simp only [aX,aI,aG,Prod.mk.injEq] at e
    obtain ⟨u,hu,⟨y,ra⟩,hy,rfl,rfl⟩:=e
    obtain ⟨r3,h3,k3⟩:=uD h (hv rfl (by simp [Op.operands]) hu) hy
    exact ⟨_,by simp [aX,hx x (by simp [Op.operands]),hu,h3],k3.upd dA⟩
  | build t ps =>
    simp only [aX,aI,aG,Prod.mk.injEq] at e
    obtain ⟨u,hu,y,hy,rfl,rfl⟩:=e
    exact pure rfl (by simp [aX,sA (xs:=ps.toList) fun x hm=>hx x.2 (by simp [Op.operands]; exact ⟨x.1,by simpa using hm⟩),hu,hy])
  | buildSlice t n ps =>
    simp only [aX,aG] at e
    obtain ⟨pv,hpv,e⟩:=e
    have hpv2 : fj st2 ps.toList=some pv:=by rw [sA (xs:=ps.toList) fun x hm=>hx x.2 (by simp [Op.operands]; exact ⟨x.1,by simpa using hm⟩),hpv]
    split at e
    · rename_i el sz bt zv htt
      simp only [aG] at e
      obtain ⟨ei,hei,z,hz,e⟩:=e
      split at e
      · rename_i hc
        simp only [aG,aI,Prod.mk.injEq] at e
        obtain ⟨es,hes,⟨ys,ra⟩,hys,rfl,rfl⟩:=e
        obtain ⟨r3,h3,k3⟩:=te h (fun o hm=>by
          obtain ⟨x,hxm,hi⟩:=ip.1 hm
          rcases B1 hes hxm with h1 | ⟨p,hp,rfl⟩
          · rw [List.eq_of_mem_replicate h1,LM hz] at hi
            cases hi
          · obtain ⟨q,hq,hqe⟩:=wA hpv hp
            exact hv rfl (x:=q.2) (by simp [Op.operands]; exact ⟨q.1,by simpa using hq⟩) hqe o hi) hys
        refine ⟨_,?_,k3.upd dA⟩
        simp only [aX,hpv2,cm,htt,hei,hz]
        rw [if_pos hc,hes]
        simp only [cm,h3]
        rfl
      · cases e
    · cases e
  | load t p =>
    simp only [aX,aG] at e
    obtain ⟨ti,hti,pv,hp,cs,hc,e⟩:=e
    split at e
    · rename_i hcc
      simp only [aI,Prod.mk.injEq] at e
      obtain ⟨y,hy,rfl,rfl⟩:=e
      refine pure rfl ?_
      simp only [aX,hti,cm,hx p (by simp [Op.operands]),hp,Qb h (hv rfl (by simp [Op.operands]) hp),hc]
      rw [if_pos hcc,hy]; rfl
    · cases e
  | store t p x =>
    simp only [aX,aG,aI,Prod.mk.injEq] at e
    obtain ⟨pv,hp,xv,hxv,ra,hs,rfl,rfl⟩:=e
    obtain ⟨r3,h3,k3⟩:=Mp h (hv rfl (by simp [Op.operands]) hp) (hv rfl (by simp [Op.operands]) hxv) hs
    exact ⟨r3,by simp [aX,hx p (by simp [Op.operands]),hx x (by simp [Op.operands]),hp,hxv,h3],k3⟩
  | nilCheck x =>
    simp only [aX,aG] at e
    obtain ⟨u,hu,e⟩:=e
    have hi:=hv rfl (x:=x) (by simp [Op.operands]) hu
    split at e
    · rename_i o nv p s i k
      split at e
      · rename_i hc
        cases e
        refine pure rfl ?_
        simp only [aX,hx x (by simp [Op.operands]),hu,cm,lb h (hi o (by simp [di]))]
        rw [if_pos hc]
      · cases e
    · cases e
      exact pure rfl (by simp [aX,hx x (by simp [Op.operands]),hu])
    · cases e
  | binOp op t x y t' =>
    simp only [aX,aG,aI,Prod.mk.injEq] at e
    obtain ⟨a,ha,b,hb',u,hu,rfl,rfl⟩:=e
    exact pure rfl (by simp [aX,hx x (by simp [Op.operands]),hx y (by simp [Op.operands]),ha,hb',hu])
  | unOp op t x =>
    simp only [aX,aG,aI,Prod.mk.injEq] at e
    obtain ⟨a,ha,u,hu,rfl,rfl⟩:=e
    exact pure rfl (by simp [aX,hx x (by simp [Op.operands]),ha,hu])
  | convert s d x =>
    simp only [aX,aG,aI,Prod.mk.injEq] at e
    obtain ⟨a,ha,u,hu,rfl,rfl⟩:=e
    refine pure rfl ?_
    have : qc E st2.rt s d a=qc E st.rt s d a:=NN h fun o ho=>hv rfl (by simp [Op.operands]) ha o ho
    simp [aX,hx x (by simp [Op.operands]),ha,this,hu]
  | makeInterface t x =>
    simp only [aX,aG] at e
    obtain ⟨a,ha,e⟩:=e
    split at e
    · rename_i hc
      cases hd : E.desc t with
      | none=>simp [hd] at e
      | some d =>
        cases d <;> simp only [hd] at e <;> first
          | (cases e; done)
          | (simp only [Option.some.injEq, Prod.mk.injEq] at e
             obtain ⟨rfl,rfl⟩:=e
             refine pure rfl ?_
             simp only [aX,hx x (by simp [Op.operands]),ha,cm,hd]
             rw [if_pos hc])
    · cases e
  | makeFunc fn first caps =>
    cases fn with
    | func f =>
      simp only [aX] at e
      split at e
      · rename_i h0
        simp only [aG] at e
        obtain ⟨cs,hcs,e⟩:=e
        split at e
        · rename_i hc
          cases e
          refine pure rfl ?_
          simp only [aX]
          rw [if_pos h0,F1 fun x hm=>hx x (by simp [Op.operands]; exact .inr (by simpa using hm)),hcs]
          simp only [cm]
          rw [if_pos hc]
        · cases e
      · cases e
    | _=>simp [aX] at e
  | makeSlice t l c =>
    simp only [aX,aG] at e
    obtain ⟨lv,hl,cv,hc,e⟩:=e
    split at e
    · rename_i el sz bt zv l' c' htt
      simp only [aG] at e
      obtain ⟨ei,hei,z,hz,e⟩:=e
      split at e
      · rename_i hcc
        cases e
        refine ⟨_,?_,(Lk.refl h).upd dA⟩
        simp only [aX,hx l (by simp [Op.operands]),hx c (by simp [Op.operands]),hl,hc,cm,htt,hei,hz]
        rw [if_pos hcc]
      · cases e
    · cases e
  | slice t x lo hi m =>
    cases m with
    | some m=>simp [aX] at e
    | none =>
      simp only [aX,aG] at e
      obtain ⟨xv,hxv,l,hl,r,hr,e⟩:=e
      split at e
      · rename_i hal
        simp only [aI,Prod.mk.injEq] at e
        obtain ⟨u,hu,rfl,rfl⟩:=e
        refine pure rfl ?_
        have h1 : jS E st2.rt t xv l r=jS E st.rt t xv l r:=rfl
        simp only [aX,hx x (by simp [Op.operands]),hxv,cm,F0 (x:=lo) (fun y hy=>hx y (by subst hy; simp [Op.operands])),F0 (x:=hi) (fun y hy=>hx y (by subst hy; simp [Op.operands])),hl,hr,yd h (hv rfl (x:=x) (by simp [Op.operands]) hxv)]
        rw [if_pos hal,h1,hu]; rfl
      · cases e
  | fieldAddr s x f =>
    simp only [aX,aG] at e
    obtain ⟨xv,hxv,fl,hf,e⟩:=e
    have hi:=hv rfl (x:=x) (by simp [Op.operands]) hxv
    split at e
    · split at e
      · rename_i hc
        cases e
        refine pure rfl ?_
        simp only [aX,hx x (by simp [Op.operands]),hxv,hf,cm]
        rw [if_pos hc]
      · cases e
    · rename_i o nv p sz i k
      split at e
      · rename_i hc
        cases e
        refine pure rfl ?_
        simp only [aX,hx x (by simp [Op.operands]),hxv,hf,cm,lb h (hi o (by simp [di]))]
        rw [if_pos hc]
      · cases e
    · cases e
  | field s x f =>
    simp only [aX,aG] at e
    obtain ⟨xv,hxv,fl,hf,e⟩:=e
    split at e
    · split at e
      · rename_i hc
        simp only [aI,Prod.mk.injEq] at e
        obtain ⟨u,hu,rfl,rfl⟩:=e
        refine pure rfl ?_
        simp only [aX,hx x (by simp [Op.operands]),hxv,hf,cm]
        rw [if_pos hc,hu]; rfl
      · cases e
    · cases e
  | indexAddr t x i =>
    simp only [aX,aG] at e
    obtain ⟨xv,hxv,iv,hiv,e⟩:=e
    split at e
    · split at e
      · rename_i hal
        simp only [aI,Prod.mk.injEq] at e
        obtain ⟨u,hu,rfl,rfl⟩:=e
        refine pure rfl ?_
        simp only [aX,hx x (by simp [Op.operands]),hx i (by simp [Op.operands]),hxv,hiv,cm,yd h (hv rfl (x:=x) (by simp [Op.operands]) hxv)]
        rw [if_pos hal,hu]; rfl
      · cases e
    · cases e
  | index t x i =>
    simp only [aX,aG] at e
    obtain ⟨xv,hxv,iv,hiv,e⟩:=e
    split at e
    · simp only [aI,Prod.mk.injEq] at e
      obtain ⟨u,hu,rfl,rfl⟩:=e
      exact pure rfl (by simp [aX,hx x (by simp [Op.operands]),hx i (by simp [Op.operands]),hxv,hiv,hu])
    · cases e
  | extract x i =>
    simp only [aX,aG] at e
    obtain ⟨xv,hxv,e⟩:=e
    split at e
    · simp only [aI,Prod.mk.injEq] at e
      obtain ⟨u,hu,rfl,rfl⟩:=e
      exact pure rfl (by simp [aX,hx x (by simp [Op.operands]),hxv,hu])
    · cases e
  | call c =>
    simp only [aX,lw,aG] at e
    obtain ⟨args,hargs,e⟩:=e
    have hargs2 : gQ st2 c.args.toList=some args:=by rw [F1 fun x hm=>hx x (by simp [Op.operands,Call.operands]; exact .inr (by simpa using hm)),hargs]
    have hai : ∀ o ∈ dS args,H o:=fun o hm=>by
      obtain ⟨u,hu,hi⟩:=ip.1 hm
      obtain ⟨x,hxm,hxe⟩:=rn hargs hu
      exact hv rfl (by simp [Op.operands,Call.operands]; exact .inr (by simpa using hxm)) hxe o hi
    split at e
    · rename_i f hcal
      simp only [aG] at e
      obtain ⟨fv,hf,e⟩:=e
      have hfm : f ∈ (Op.call c).operands.toList:=by simp [Op.operands,Call.operands,hcal]
      have hfi:=hv rfl hfm hf
      split at e
      · rename_i fid caps
        obtain ⟨r3,h3,k3⟩:=NM h hb (args:=args ++ caps) (fun o hm=>by
          obtain ⟨u,hu,hi⟩:=ip.1 hm
          rcases List.mem_append.1 hu with h1 | h1
          · exact hai o (ip.2 ⟨u,h1,hi⟩)
          · exact hfi o (by simp only [di]; exact ip.2 ⟨u,h1,hi⟩)) e
        refine ⟨r3,?_,k3⟩
        simp only [aX,lw,hargs2,cm,hcal,hx f hfm,hf]
        exact h3
      · cases e
    · rename_i b hcal
      simp only [aX,lw,hargs2,cm,hcal]
      unfold eU at e ⊢
      split at e
      · split at e
        · rename_i x hal
          simp only [aG,aI,Prod.mk.injEq] at e
          obtain ⟨t,ht,u,hu,rfl,rfl⟩:=e
          refine ⟨st2.rt,?_,Lk.refl h⟩
          rw [yd h fun o hm=>hai o (by simpa [dS] using hm),if_pos hal,ht]
          simp [hu]
        · cases e
      · simp only [aG] at e
        obtain ⟨t,ht,t1,ht1,e⟩:=e
        split at e
        · rename_i hs
          obtain ⟨r3,h3,k3⟩:=I8 h dA (fun o hm=>hai o (by simp [dS,hm])) (fun o hm=>hai o (by simp [dS,hm])) e
          refine ⟨r3,?_,k3⟩
          simp only [ht,ht1,cm]
          rw [if_pos hs,h3]
        · cases e
      · simp only [aG,aI,Prod.mk.injEq] at e
        obtain ⟨t,ht,r1,hr1,rfl,rfl⟩:=e
        obtain ⟨r3,h3,k3⟩:=LC h (fun o hm=>hai o (by simp [dS,hm])) hr1
        exact ⟨r3,by simp [ht,h3],k3⟩
      · simp only [aI,Prod.mk.injEq] at e
        obtain ⟨u,hu,rfl,rfl⟩:=e
        exact ⟨st2.rt,by simp [hu],Lk.refl h⟩
      · simp only [aI,Prod.mk.injEq] at e
        obtain ⟨u,hu,rfl,rfl⟩:=e
        exact ⟨st2.rt,by simp [hu],Lk.refl h⟩
      · cases e
    · cases e
  | _=>simp [aX] at e
end
section
def vO (E:Env)(rt:ai)(f:FuncId)(args:List V):List Nat:=
 match E.fn f with
 | some e=>(aZ 0 e.own args).map (·.1)++(match (eK rt e.own args).bind e.F with
  | some r=>if cy r.1||cY r.2 then bl e.own args else []
  | none=>[])
 | none=>[]
def jk (rt:ai)(d x:V):List Nat:=
 di d++(match x with
 | .hs o nv p _ off len=>(match bD rt o nv p with
  | some y=>if ((y.2.drop off).take len).all jb then [] else [o]
  | none=>[o])
 | _=>[])
def hI (E:Env)(st:St)(op:Op):List Nat:=
 match op with
 | .box _ _ | .buildSlice .. | .store ..=>BU st op
 | .call c=>(match c.callee with
  | .value f=>(match ev st f,gQ st c.args.toList with
   | some (.fn g caps),some args=>vO E st.rt g (args++caps)
   | _,_=>[])
  | .builtin .clear=>BU st op
  | .builtin .append=>(match gQ st c.args.toList with
   | some [d,x]=>jk st.rt d x
   | _=>[])
  | _=>[])
 | _=>[]
theorem LX {g:List mr}{o:Nat}{x:fU×Nat×Nat}(h:dI g o=some x):o∈g.map (·.1):=List.mem_map.2 ⟨(o,x),od h,rfl⟩
theorem P2 {E:Env}{rt rt1:ai}{id:Nat}{f:FuncId}{args:List V}{v:V}(e:jB E rt id f args=some (v,rt1)){o:Nat}(h:o∉vO E rt f args)(hb:¬(id≤o∧o<id+bO)):rt1 o=rt o:=by
 simp only[jB,aG] at e
 obtain⟨en,hen,e⟩:=e
 split at e
 ·simp only[aG] at e
  obtain⟨xs,hxs,⟨r,os⟩,hF,e⟩:=e
  simp only at e
  split at e
  ·rename_i hroom
   simp only[Option.some.injEq,Prod.mk.injEq] at e
   obtain⟨_,rfl⟩:=e
   simp only[vO,hen,hxs,cm,hF,List.mem_append,not_or] at h
   simp only[dU]
   rw[if_neg (by omega)]
   simp only[iK]
   cases hg:dI (aZ 0 en.own args) o with
   | some x=>exact absurd (LX hg) h.1
   | none=>
    have:¬(if (cy r||cY os)=true then bl en.own args else []).contains o=true:=by
     simpa using h.2
    simp only
    rw[if_neg this]
  ·cases e
 ·cases e
theorem Mr {rt rt1:ai}{x:V}{es:List V}(e:eS rt x=some (es,rt1)){o:Nat}(h:o∉(match x with
 | .hs o nv p _ off len=>(match bD rt o nv p with
  | some y=>if ((y.2.drop off).take len).all jb then [] else [o]
  | none=>[o])
 | _=>[])):rt1 o=rt o:=by
 cases x with
 | isl n es=>simp only[eS,Option.some.injEq,Prod.mk.injEq] at e;rw[e.2]
 | hs o' nv p s off len=>
  simp only[eS,aG] at e
  obtain⟨y,hy,e⟩:=e
  simp only[hy] at h
  split at e
  ·split at e
   ·cases e
   ·split at e
    ·cases e;rfl
    ·rename_i hf
     rw[if_neg hf] at h
     split at e
     ·cases e
      have:o≠o':=by simpa using h
      simp[upd,this]
     ·cases e
  ·cases e
 | _=>simp[eS] at e
theorem FO {rt rt1:ai}{d u:V}(e:bX rt d=some (u,rt1)){o:Nat}(h:o∉di d):rt1 o=rt o:=by
 obtain⟨rt3,h3,k⟩:=lH (H:=fun x=>x∈di d) (rt2:=rt) (fun _ _=>rfl) (fun _ h=>h) e
 exact ((k o).2 h).2
theorem Pd {E:Env}{id:Nat}{st:St}{op:Op}{v:V}{rt1:ai}(e:aX E id st op=some (v,rt1)){o:Nat}(h:o∉hI E st op)(hb:¬(id≤o∧o<id+bO)):rt1 o=st.rt o:=by
 have all:o∉fS st op→rt1 o=st.rt o:=fun hn=>by
  obtain⟨rt3,h3,k⟩:=Ma (H:=fun x=>x∈fS st op∨(id≤x∧x<id+bO)) (st2:=st) (fun o h1 h2=>.inr ⟨h1,h2⟩) (fun o h=>.inl h) (fun _ _=>rfl) (fun _ _=>rfl) e
  exact ((k o).2 (by rintro (h | h);exact hn h;exact hb h)).2
 cases op with
 | box t x=>exact all (by simpa[fS,iW,hI] using h)
 | buildSlice t n ps=>exact all (by simpa[fS,iW,hI] using h)
 | store t p x=>exact all (by simpa[fS,iW,hI] using h)
 | call c=>
  simp only[aX,lw,aG] at e
  obtain⟨args,hargs,e⟩:=e
  split at e
  ·rename_i f hcal
   simp only[aG] at e
   obtain⟨fv,hf,e⟩:=e
   split at e
   ·rename_i fid caps
    simp only[hI,hcal,hf,hargs] at h
    exact P2 e h hb
   ·cases e
  ·rename_i b hcal
   unfold eU at e
   split at e
   ·split at e
    ·simp only[aG,aI,Prod.mk.injEq] at e
     obtain⟨t,ht,u,hu,_,rfl⟩:=e
     rfl
    ·cases e
   ·simp only[aG] at e
    obtain⟨t,ht,t1,ht1,e⟩:=e
    split at e
    ·rename_i d x _
     simp only[hI,hcal,hargs,jk,List.mem_append,not_or] at h
     unfold jX at e
     split at e
     ·simp only[aG] at e
      obtain⟨ei,hei,⟨es,ra⟩,hes,e⟩:=e
      have h1:=Mr hes h.2
      have dA:o≠id:=by rintro rfl;exact hb ⟨Nat.le_refl _,by unfold bO;omega⟩
      split at e
      ·split at e
       ·split at e
        ·simp only[Option.some.injEq,Prod.mk.injEq] at e
         obtain⟨_,rfl⟩:=e
         simpa[upd,dA] using h1
        ·cases e
       ·simp only[aG] at e
        obtain⟨z,hz,e⟩:=e
        split at e
        ·simp only[aI,Prod.mk.injEq] at e
         obtain⟨⟨u1,u2⟩,hu,_,rfl⟩:=e
         have h2:=FO hu h.1
         simp only[upd,if_neg dA]
         rw[h2,h1]
        ·cases e
       ·cases e
      ·cases e
     ·cases e
    ·cases e
   ·exact all (by simpa[fS,iW,hI,hcal] using h)
   ·simp only[aI,Prod.mk.injEq] at e
    obtain⟨u,hu,_,rfl⟩:=e
    rfl
   ·simp only[aI,Prod.mk.injEq] at e
    obtain⟨u,hu,_,rfl⟩:=e
    rfl
   ·cases e
  ·cases e
 | alloc t=>
  simp only[aX,aI,aG,Prod.mk.injEq] at e
  obtain⟨ti,hti,z,hz,_,rfl⟩:=e
  have dA:o≠id:=by rintro rfl;exact hb ⟨Nat.le_refl _,by unfold bO;omega⟩
  simp[upd,dA]
 | makeSlice t l c=>exact all (by simp[fS,iW])
 | nilCheck x=>
  simp only[aX,aG] at e
  obtain⟨u,hu,e⟩:=e
  split at e
  ·split at e<;>cases e;rfl
  ·cases e;rfl
  ·cases e
 | load t p=>
  simp only[aX,aG] at e
  obtain⟨ti,hti,pv,hp,cs,hc,e⟩:=e
  split at e
  ·simp only[aI,Prod.mk.injEq] at e
   obtain⟨y,hy,_,rfl⟩:=e
   rfl
  ·cases e
 | slice t x lo hi m=>
  cases m with
  | some m=>simp[aX] at e
  | none=>
   simp only[aX,aG] at e
   obtain⟨xv,hxv,l,hl,r,hr,e⟩:=e
   split at e
   ·simp only[aI,Prod.mk.injEq] at e
    obtain⟨u,hu,_,rfl⟩:=e
    rfl
   ·cases e
 | fieldAddr s x f=>
  simp only[aX,aG] at e
  obtain⟨xv,hxv,fl,hf,e⟩:=e
  split at e
  ·split at e<;>cases e;rfl
  ·split at e<;>cases e;rfl
  ·cases e
 | indexAddr t x i=>
  simp only[aX,aG] at e
  obtain⟨xv,hxv,iv,hiv,e⟩:=e
  split at e
  ·split at e
   ·simp only[aI,Prod.mk.injEq] at e
    obtain⟨u,hu,_,rfl⟩:=e
    rfl
   ·cases e
  ·cases e
 | makeInterface t x=>exact all (by simp[fS,iW])
 | makeFunc a b c=>exact all (by simp[fS,iW])
 | move x=>exact all (by simp[fS,iW])
 | assign x=>exact all (by simp[fS,iW])
 | pick a b c=>exact all (by simp[fS,iW])
 | build a b=>exact all (by simp[fS,iW])
 | binOp a b c d e=>exact all (by simp[fS,iW])
 | unOp a b c=>exact all (by simp[fS,iW])
 | convert a b c=>
  simp only[aX,aG,aI,Prod.mk.injEq] at e
  obtain⟨y,hy,u,hu,_,rfl⟩:=e
  rfl
 | field a b c=>exact all (by simp[fS,iW])
 | index a b c=>exact all (by simp[fS,iW])
 | extract a b=>exact all (by simp[fS,iW])
 | _=>simp[aX] at e
end
section
theorem Ha {rt:ai}{d x:V}{o:Nat}(h:o∈jk rt d x):o∈di d∨o∈di x:=by
 simp only[jk,List.mem_append] at h
 refine h.imp id fun h=>?_
 split at h
 ·split at h
  ·split at h
   ·cases h
   ·simpa[di] using h
  ·simpa[di] using h
 ·cases h
theorem LA {E:Env}{rt:ai}{f:FuncId}{args:List V}{o:Nat}(h:o∈vO E rt f args):o∈dS args:=by
 unfold vO at h
 split at h
 ·simp only[List.mem_append] at h
  rcases h with h | h
  ·obtain⟨⟨o',p,a,k⟩,hg,rfl⟩:=List.mem_map.1 h
   obtain⟨a,v,k,y,h1,h2,h3,h4,h5⟩:=jZ.1 hg
   exact ip.2 ⟨v,ii h2,HP h3 h4⟩
  ·split at h
   ·split at h
    ·exact mE h
    ·cases h
   ·cases h
 ·cases h
theorem Qu {E:Env}{st:St}{op:Op}{o:Nat}(h:o∈hI E st op):o∈fS st op:=by
 cases op with
 | box t x=>simpa[fS,iW,hI] using h
 | buildSlice t n ps=>simpa[fS,iW,hI] using h
 | store t p x=>simpa[fS,iW,hI] using h
 | call c=>
  have e:fS st (.call c)=BU st (.call c):=rfl
  rw[e]
  simp only[hI] at h
  split at h
  ·rename_i f hcal
   split at h
   ·rename_i g caps args hf hargs
    obtain⟨v,hv,ho⟩:=ip.1 (LA h)
    rcases List.mem_append.1 hv with h1 | h1
    ·obtain⟨x,hx,hxe⟩:=rn hargs h1
     exact oe (by simp[Op.operands,Call.operands];exact .inr (by simpa using hx)) hxe ho
    ·exact oe (x:=f) (by simp[Op.operands,Call.operands,hcal]) hf (by simp only[di];exact ip.2 ⟨v,h1,ho⟩)
   ·cases h
  ·exact h
  ·split at h
   ·rename_i d x hargs
    rcases Ha h with h1 | h1
    ·obtain⟨y,hy,hye⟩:=rn hargs (v:=d) (by simp)
     exact oe (by simp[Op.operands,Call.operands];exact .inr (by simpa using hy)) hye h1
    ·obtain⟨y,hy,hye⟩:=rn hargs (v:=x) (by simp)
     exact oe (by simp[Op.operands,Call.operands];exact .inr (by simpa using hy)) hye h1
   ·cases h
  ·cases h
 | _=>simp[hI] at h
def yt (e:Edge):Bool:=
 match e.ground with
 | .textOnly _=>false
 | .gcOnly _=>false
 | _=>true
def pre (o:Oper):List Nat:=(o.after.toList.filter yt).map (·.on)
def Jy (ms:List Nat):List Nat→Nat→Nat
 | [],m=>m
 | j::l,m=>Jy ms l (m ||| (2 ^ j) ||| ms.getD j 0)
def LY (ms:List Nat)(o:Oper):Nat:=Jy ms (pre o) 0
def Su (op:Op):List Nat:=op.operands.toList.filterMap fun
 | .tmp t=>some t
 | _=>none
def yj (ops:Array Oper)(o:Oper):List Nat:=
 match o.guard with
 | some (j,_)=>((ops[j]?).bind (·.dst)).toList
 | none=>[]
def sK (ops:Array Oper)(o:Oper):List Nat:=Su o.op++yj ops o
def rk (l:List Nat):Option Nat→Bool
 | some d=>!l.contains d
 | none=>true
def FS:Option Nat→Option Nat→Bool
 | some a,some b=>a != b
 | _,_=>true
def jU (ops:Array Oper)(ms:List Nat):Bool:=
 (List.range ops.size).all fun i=>match ops[i]? with
  | none=>false
  | some oi=>(pre oi).all (fun j=>decide (j<i))&&(ms.getD i 0==LY ms oi)&&(List.range i).all fun j=>match ops[j]? with
   | none=>false
   | some oj=>(ms.getD i 0).testBit j||(rk (sK ops oi) oj.dst&&rk (sK ops oj) oi.dst&&FS oi.dst oj.dst)
theorem DM {ms:List Nat}{j:Nat}:∀{l:List Nat} {m:Nat},(Jy ms l m).testBit j=true→m.testBit j=true∨∃k∈l,j=k∨(ms.getD k 0).testBit j=true
 | [],m,h=>.inl h
 | k::l,m,h=>by
  rcases DM (l:=l) h with h1 | ⟨k',hk,h1⟩
  ·simp only[Nat.testBit_or,Bool.or_eq_true,Nat.testBit_two_pow,decide_eq_true_eq] at h1
   rcases h1 with (h1 | h1) | h1
   ·exact .inl h1
   ·exact .inr ⟨k,by simp,.inl h1.symm⟩
   ·exact .inr ⟨k,by simp,.inr h1⟩
  ·exact .inr ⟨k',List.mem_cons_of_mem _ hk,h1⟩
structure StOk (ops:Array Oper) (ms:List Nat) (i:Nat) (oi:Oper):Prop where
 pre:∀j∈pre oi,j<i
 mask:ms.getD i 0=LY ms oi
 pair:∀j,j<i→∀oj,ops[j]?=some oj→(ms.getD i 0).testBit j=true∨(rk (sK ops oi) oj.dst=true∧rk (sK ops oj) oi.dst=true∧FS oi.dst oj.dst=true)
theorem lB {ops:Array Oper}{ms:List Nat}(h:jU ops ms=true){i:Nat}{oi:Oper}(hi:ops[i]?=some oi):StOk ops ms i oi:=by
 unfold jU at h
 rw[List.all_eq_true] at h
 have:=h i (List.mem_range.2 (pW.1 hi).1)
 simp only[hi,Bool.and_eq_true,List.all_eq_true,decide_eq_true_eq,beq_iff_eq] at this
 obtain⟨⟨h1,h2⟩,h3⟩:=this
 refine⟨h1,h2,fun j hj oj hoj=>?_⟩
 have:=h3 j (List.mem_range.2 hj)
 simp only[hoj,Bool.or_eq_true,Bool.and_eq_true] at this
 rcases this with h | ⟨⟨h,h'⟩,h''⟩
 ·exact .inl h
 ·exact .inr ⟨h,h',h''⟩
def blk (base j o:Nat):Prop:=base+bO*j≤o∧o<base+bO*(j+1)
theorem no {base j j' o:Nat}(h:blk base j o)(h':blk base j' o):j=j':=by
 unfold blk bO at *
 omega
structure Trace (E:Env) (ops:Array Oper) (ms:List Nat) (base:Nat) (sq:Nat→St) (R W:Nat→List Nat):Prop where
 step:∀i,i<ops.size→∃o b,ops[i]?=some o∧gS ops (sq i) o=some b∧R i=(if b then fS (sq i) o.op else [])∧W i=(if b then hI E (sq i) o.op else [])∧fm E ops (base+bO*i) (sq i) i=some (sq (i+1))
 own:∀i,i<ops.size→∀x∈R i,x<base∨∃j,(ms.getD i 0).testBit j=true∧blk base j x
 apart:∀j i,j<i→i<ops.size→(ms.getD i 0).testBit j=true∨((∀x∈W j,x∉R i)∧∀x∈W i,x∉R j)
section
variable {E : Env} {ops : Array Oper} {ms : List Nat} {base : Nat} {sq : Nat→St} {R W : Nat→List Nat}
def wT (ops:Array Oper)(j t:Nat):Prop:=∃o,ops[j]?=some o∧o.dst=some t
def wR (W:Nat→List Nat)(base j o:Nat):Prop:=o∈W j∨blk base j o
structure Inv (ops:Array Oper) (base:Nat) (sq:Nat→St) (W:Nat→List Nat) (S:Nat→Prop) (σ:St):Prop where
 nx:σ.nx=(sq 0).nx
 len:σ.tm.length=(sq 0).tm.length
 tm:∀t k,k≤ops.size→(∀j,j<k→wT ops j t→S j)→(∀j,k≤j→j<ops.size→wT ops j t→¬S j)→σ.tm[t]?=(sq k).tm[t]?
 rt:∀o k,k≤ops.size→(∀j,j<k→wR W base j o→S j)→(∀j,k≤j→j<ops.size→wR W base j o→¬S j)→σ.rt o=(sq k).rt o
theorem H6 {tm:List V}{d:Option Nat}{v:V}{t:Nat}(h:d=some t):(kf tm d v)[t]?=if t<tm.length then some v else none:=by
 subst h
 simp only[kf]
 by_cases hl:t<tm.length
 ·rw[if_pos hl,List.getElem?_set_self hl]
 ·rw[if_neg hl,List.getElem?_eq_none (by simpa using hl)]
theorem H7 {tm:List V}{d:Option Nat}{v:V}{t:Nat}(h:d≠some t):(kf tm d v)[t]?=tm[t]?:=by
 cases d with
 | none=>rfl
 | some d=>simp only[kf];rw[List.getElem?_set_ne (by simpa using h)]
theorem lC {id i:Nat}{st st':St}{o:Oper}{b:Bool}(ho:ops[i]?=some o)(hb:gS ops st o=some b)(h:fm E ops id st i=some st') :
  ∃v,st'={ st with tm:=kf st.tm o.dst v,rt:=st'.rt }∧((b=true∧aX E id st o.op=some (v,st'.rt))∨(b=false∧v=.und∧st'.rt=st.rt)):=by
 unfold fm at h
 simp only[ho,hb,cm] at h
 cases b with
 | true=>
  simp only[if_true,aI] at h
  obtain⟨⟨v,rt'⟩,hv,rfl⟩:=h
  exact⟨v,rfl,.inl ⟨rfl,hv⟩⟩
 | false=>
  simp only[Bool.false_eq_true,if_false,Option.some.injEq] at h
  subst h
  exact⟨.und,rfl,.inr ⟨rfl,rfl,rfl⟩⟩
theorem Trace.tmF (T:Trace E ops ms base sq R W){i t:Nat}(hi:i<ops.size)(h:¬wT ops i t):(sq (i+1)).tm[t]?=(sq i).tm[t]?:=by
 obtain⟨o,b,h1,h2,_,_,h5⟩:=T.step i hi
 obtain⟨v,h6,_⟩:=lC h1 h2 h5
 rw[h6]
 exact H7 fun hd=>h ⟨o,h1,hd⟩
theorem Trace.len (T:Trace E ops ms base sq R W){i:Nat}(hi:i≤ops.size):(sq i).tm.length=(sq 0).tm.length:=by
 induction i with
 | zero=>rfl
 | succ i ih=>
  obtain⟨o,b,h1,h2,_,_,h5⟩:=T.step i (by omega)
  obtain⟨v,h6,_⟩:=lC h1 h2 h5
  rw[h6]
  simp only[sR]
  exact ih (by omega)
theorem Trace.nx (T:Trace E ops ms base sq R W){i:Nat}(hi:i≤ops.size):(sq i).nx=(sq 0).nx:=by
 induction i with
 | zero=>rfl
 | succ i ih=>
  obtain⟨o,b,h1,h2,_,_,h5⟩:=T.step i (by omega)
  obtain⟨v,h6,_⟩:=lC h1 h2 h5
  rw[h6]
  exact ih (by omega)
theorem Trace.rtF (T:Trace E ops ms base sq R W){i o:Nat}(hi:i<ops.size)(h:¬wR W base i o):(sq (i+1)).rt o=(sq i).rt o:=by
 obtain⟨op,b,h1,h2,_,h4,h5⟩:=T.step i hi
 obtain⟨v,_,h6 | h6⟩:=lC h1 h2 h5
 ·rw[if_pos h6.1] at h4
  refine Pd h6.2 (fun hw=>h (.inl (by rw[h4];exact hw))) fun hb=>h (.inr ?_)
  unfold blk
  exact⟨hb.1,by have:=hb.2;rw[Nat.mul_add];omega⟩
 ·rw[h6.2.2]
theorem Trace.tmS (T : Trace E ops ms base sq R W){t a b : Nat}(hab : a ≤ b)(hb : b ≤ ops.size)(h : ∀ j,a ≤ j→j < b→¬ wT ops j t) : (sq b).tm[t]?=(sq a).tm[t]?:=by
  induction b with
  | zero => have : a = 0 := by omega
            subst this; rfl
  | succ b ih =>
    by_cases he : a=b + 1
    · subst he; rfl
    · rw [T.tmF (by omega) (h b (by omega) (by omega))]
      exact ih (by omega) (by omega) fun j h1 h2=>h j h1 (by omega)
theorem Trace.rtS (T : Trace E ops ms base sq R W){o a b : Nat}(hab : a ≤ b)(hb : b ≤ ops.size)(h : ∀ j,a ≤ j→j < b→¬ wR W base j o) : (sq b).rt o=(sq a).rt o:=by
  induction b with
  | zero => have : a = 0 := by omega
            subst this; rfl
  | succ b ih =>
    by_cases he : a=b + 1
    · subst he; rfl
    · rw [T.rtF (by omega) (h b (by omega) (by omega))]
      exact ih (by omega) (by omega) fun j h1 h2=>h j h1 (by omega)
theorem Inv.init (T:Trace E ops ms base sq R W):Inv ops base sq W (fun _=>False) (sq 0):=
 ⟨rfl,rfl,fun t k hk h1 _=>(T.tmS (Nat.zero_le _) hk fun j _ hj hw=>h1 j hj hw).symm,fun o k hk h1 _=>(T.rtS (Nat.zero_le _) hk fun j _ hj hw=>h1 j hj hw).symm⟩
theorem Inv.final (T:Trace E ops ms base sq R W){S:Nat→Prop}{σ:St}(I:Inv ops base sq W S σ)(h:∀j,j<ops.size→S j):σ=sq ops.size:=by
 have h1:σ.tm=(sq ops.size).tm:=List.ext_getElem? fun t=>I.tm t ops.size (Nat.le_refl _) (fun j hj _=>h j hj) fun j h1 h2=>absurd h2 (by omega)
 have h2:σ.rt=(sq ops.size).rt:=funext fun o=>I.rt o ops.size (Nat.le_refl _) (fun j hj _=>h j hj) fun j h1 h2=>absurd h2 (by omega)
 have h3:σ.nx=(sq ops.size).nx:=by rw[I.nx,T.nx (Nat.le_refl _)]
 cases σ
 simp only at h1 h2 h3
 rw[h1,h2,h3]
def E5 (ops:Array Oper)(S:Nat→Prop):Prop:=∀i o,ops[i]?=some o→S i→∀j∈pre o,S j
theorem FQ (hs:jU ops ms=true){S:Nat→Prop}(hc:E5 ops S):∀{i:Nat} {o:Oper},ops[i]?=some o→(∀j∈pre o,S j)→∀j,(ms.getD i 0).testBit j=true→S j∧j<i:=by
 intro i
 induction i using Nat.strongRecOn with
 | _ i ih=>
  intro o ho hp j hj
  have so:=lB hs ho
  rw[so.mask] at hj
  rcases DM hj with h | ⟨k,hk,h⟩
  ·simp at h
  ·have hki:=so.pre k hk
   rcases h with rfl | h
   ·exact⟨hp _ hk,hki⟩
   ·have hlt:k<ops.size:=by have:=(pW.1 ho).1;omega
    obtain⟨h1,h2⟩:=ih k hki (Array.getElem?_eq_getElem hlt) (fun x hx=>hc k _ (Array.getElem?_eq_getElem hlt) (hp k hk) x hx) j h
    exact⟨h1,by omega⟩
end
end
section
variable {E : Env} {ops : Array Oper} {ms : List Nat} {base : Nat} {sq : Nat→St} {R W : Nat→List Nat}
theorem Ta {st st2:St}{x:Operand}(h:∀t,x=.tmp t→st2.tm[t]?=st.tm[t]?):ev st2 x=ev st x:=by
 cases x with
 | tmp t=>exact h t rfl
 | _=>rfl
theorem QJ {st st2:St}{o:Oper}(h:∀t∈yj ops o,st2.tm[t]?=st.tm[t]?):gS ops st2 o=gS ops st o:=by
 unfold gS
 cases hg:o.guard with
 | none=>rfl
 | some g=>
  obtain⟨j,w⟩:=g
  simp only
  have:pV ops st2 j=pV ops st j:=by
   unfold pV
   cases hd:(ops[j]?).bind (·.dst) with
   | none=>rfl
   | some d=>
    simp only[cm]
    rw[h d (by simp[yj,hg,hd])]
  rw[this]
theorem Bu {l:List Nat}{d:Option Nat}{t:Nat}(h:rk l d=true)(hd:d=some t):t∉l:=by
 subst hd
 simpa[rk] using h
theorem N2 (hs:jU ops ms=true)(T:Trace E ops ms base sq R W){S:Nat→Prop}{σ:St}(I:Inv ops base sq W S σ)(hc:E5 ops S){i:Nat}{oi:Oper}(hi:ops[i]?=some oi)(hni:¬S i)(hp:∀j∈pre oi,S j) :
  ∃σ',fm E ops (base+bO*i) σ i=some σ'∧Inv ops base sq W (fun j=>S j∨j=i) σ':=by
 have hin:i<ops.size:=(pW.1 hi).1
 have anc:∀j,(ms.getD i 0).testBit j=true→S j∧j<i:=FQ hs hc hi hp
 have so:=lB hs hi
 have ops_get:∀j,j<ops.size→∃oj,ops[j]?=some oj:=fun j hj=>⟨_,Array.getElem?_eq_getElem hj⟩
 -- behind 'i' nothing that hangs on it has been done
 have later:∀j,j<ops.size→S j→(ms.getD j 0).testBit i=true→False:=fun j hj hS hb=>by
  obtain⟨oj,hoj⟩:=ops_get j hj
  exact hni (FQ hs hc hoj (fun k hk=>hc j oj hoj hS k hk) i hb).1
 have bitlt:∀j,j<ops.size→∀k,(ms.getD j 0).testBit k=true→k<j:=fun j hj k hb=>by
  obtain⟨oj,hoj⟩:=ops_get j hj
  exact (FQ hs (S:=fun _=>True) (fun _ _ _ _ _ _=>trivial) hoj (fun _ _=>trivial) k hb).2
 obtain⟨o,b,h1,h2,hR,hW,h5⟩:=T.step i hin
 rw[hi] at h1
 cases h1
 -- the operands
 have tmEq:∀t∈sK ops oi,σ.tm[t]?=(sq i).tm[t]?:=fun t ht=>by
  refine I.tm t i (Nat.le_of_lt hin) (fun j hj hw=>?_) (fun j hij hjn hw hS=>?_)
  ·obtain⟨oj,hoj,hd⟩:=hw
   rcases so.pair j hj oj hoj with h | ⟨h,_,_⟩
   ·exact (anc j h).1
   ·exact absurd ht (Bu h hd)
  ·obtain⟨oj,hoj,hd⟩:=hw
   by_cases he:j=i
   ·subst he;exact hni hS
   ·rcases (lB hs hoj).pair i (by omega) oi hi with h | ⟨_,h,_⟩
    ·exact later j hjn hS h
    ·exact absurd ht (Bu h hd)
 have hwant:gS ops σ oi=some b:=by
  rw[QJ fun t ht=>tmEq t (by simp[sK,ht]),h2]
 have hev:∀x∈oi.op.operands.toList,ev σ x=ev (sq i) x:=fun x hx=>Ta fun t ht=>tmEq t (by
  subst ht
  simp only[sK,List.mem_append]
  exact .inl (List.mem_filterMap.2 ⟨_,hx,rfl⟩))
 -- the rows
 have sub:∀j,j<ops.size→∀x∈W j,x∈R j:=fun j hj x hx=>by
  obtain⟨oj,bj,_,_,hRj,hWj,_⟩:=T.step j hj
  rw[hWj] at hx
  rw[hRj]
  cases bj with
  | true=>exact Qu hx
  | false=>cases hx
 let H:Nat→Prop:=fun x=>x∈R i∨blk base i x
 have other:∀j,j<ops.size→j≠i→∀x,H x→wR W base j x→(j<i∧S j)∨(i<j∧¬S j):=by
  intro j hj hne x hH hw
  rcases Nat.lt_or_gt_of_ne hne with hlt | hgt
  ·left
   refine⟨hlt,?_⟩
   rcases hw with hw | hw<;>rcases hH with hH | hH
   ·rcases T.apart j i hlt hin with h | ⟨h,_⟩
    ·exact (anc j h).1
    ·exact absurd hH (h x hw)
   ·exfalso
    rcases T.own j hj x (sub j hj x hw) with h | ⟨k,hk,hb⟩
    ·have:=hH.1;omega
    ·have:=no hb hH
     subst this
     have:=bitlt j hj k hk
     omega
   ·rcases T.own i hin x hH with h | ⟨k,hk,hb⟩
    ·have:=hw.1;omega
    ·have:=no hb hw
     subst this
     exact (anc k hk).1
   ·exact absurd (no hw hH) hne
  ·right
   refine⟨hgt,fun hS=>?_⟩
   rcases hw with hw | hw<;>rcases hH with hH | hH
   ·rcases T.apart i j hgt hj with h | ⟨_,h⟩
    ·exact later j hj hS h
    ·exact h x hw hH
   ·rcases T.own j hj x (sub j hj x hw) with h | ⟨k,hk,hb⟩
    ·have:=hH.1;omega
    ·have:=no hb hH
     subst this
     exact later j hj hS hk
   ·rcases T.own i hin x hH with h | ⟨k,hk,hb⟩
    ·have:=hw.1;omega
    ·have:=no hb hw
     subst this
     have:=bitlt i hin k hk
     omega
   ·exact absurd (no hw hH) hne
 have ag:Ag H (sq i).rt σ.rt:=fun x hx=>by
  refine I.rt x i (Nat.le_of_lt hin) (fun j hj hw=>?_) (fun j hij hjn hw hS=>?_)
  ·rcases other j (by omega) (by omega) x hx hw with h | h
   ·exact h.2
   ·omega
  ·by_cases he:j=i
   ·subst he;exact hni hS
   ·rcases other j hjn he x hx hw with h | h
    ·omega
    ·exact h.2 hS
 obtain⟨v,hsq,hcase⟩:=lC hi h2 h5
 have hstep:∃rt3,fm E ops (base+bO*i) σ i=some { σ with tm:=kf σ.tm oi.dst v,rt:=rt3 }∧Lk H (sq i).rt (sq (i+1)).rt σ.rt rt3:=by
  rcases hcase with⟨hb,hop⟩ | ⟨hb,hv,hrt⟩
  ·subst hb
   simp only[if_true] at hR
   obtain⟨rt3,h3,k3⟩:=Ma (H:=H) (fun x h1 h2=>.inr ⟨h1,by rw[Nat.mul_add];omega⟩) (fun x hx=>.inl (by rw[hR];exact hx)) hev ag hop
   refine⟨rt3,?_,k3⟩
   unfold fm
   simp only[hi,hwant,cm,if_true,h3,Option.map_some]
  ·subst hb
   refine⟨σ.rt,?_,?_⟩
   ·unfold fm
    simp only[hi,hwant,cm,Bool.false_eq_true,if_false,hv]
   ·rw[hrt];exact Lk.refl ag
 obtain⟨rt3,h3,k3⟩:=hstep
 have wH:∀x,wR W base i x→H x:=fun x hw=>hw.imp (sub i hin x) id
 refine⟨_,h3,⟨I.nx,by simp only[sR];exact I.len,fun t k hk q1 q2=>?_,fun x k hk q1 q2=>?_⟩⟩
 ·by_cases hd:oi.dst=some t
  ·have hik:i<k:=Nat.lt_of_not_le fun hle=>q2 i hle hin ⟨oi,hi,hd⟩ (.inr rfl)
   have e1:(sq k).tm[t]?=(sq (i+1)).tm[t]?:=T.tmS hik hk fun j hj1 hj2 hw=>by
    have hS:S j:=(q1 j hj2 hw).resolve_right (by omega)
    obtain⟨oj,hoj,hdj⟩:=hw
    rcases (lB hs hoj).pair i (by omega) oi hi with h | ⟨_,_,h⟩
    ·exact later j (by omega) hS h
    ·rw[hd,hdj] at h
     simp[FS] at h
   rw[e1,hsq]
   simp only
   rw[H6 hd,H6 hd,I.len,T.len (Nat.le_of_lt hin)]
  ·simp only
   rw[H7 hd]
   exact I.tm t k hk (fun j hj hw=>(q1 j hj hw).resolve_right (by
    rintro rfl
    obtain⟨oj,hoj,hdj⟩:=hw
    rw[hi] at hoj
    cases hoj
    exact hd hdj)) (fun j hj1 hj2 hw hS=>q2 j hj1 hj2 hw (.inl hS))
 ·simp only
  by_cases hH:H x
  ·rw[(k3 x).1 hH]
   by_cases hw:wR W base i x
   ·have hik:i<k:=Nat.lt_of_not_le fun hle=>q2 i hle hin hw (.inr rfl)
    refine (T.rtS hik hk fun j hj1 hj2 hwj=>?_).symm
    have hS:S j:=(q1 j hj2 hwj).resolve_right (by omega)
    rcases other j (by omega) (by omega) x hH hwj with h | h
    ·omega
    ·exact h.2 hS
   ·rw[T.rtF hin hw,←ag x hH]
    exact I.rt x k hk (fun j hj hwj=>(q1 j hj hwj).resolve_right (by rintro rfl;exact hw hwj)) (fun j hj1 hj2 hwj hS=>q2 j hj1 hj2 hwj (.inl hS))
  ·rw[((k3 x).2 hH).1]
   exact I.rt x k hk (fun j hj hwj=>(q1 j hj hwj).resolve_right (by rintro rfl;exact hH (wH x hwj))) (fun j hj1 hj2 hwj hS=>q2 j hj1 hj2 hwj (.inl hS))
def vf (E:Env)(ops:Array Oper)(base:Nat):List Nat→St→Option St
 | [],st=>some st
 | i::is,st=>(fm E ops (base+bO*i) st i).bind (vf E ops base is)
def uB (ops:Array Oper):(Nat→Prop)→List Nat→Prop
 | S,[]=>∀j,j<ops.size→S j
 | S,i::is=>¬S i∧(∃o,ops[i]?=some o∧∀j∈pre o,S j)∧uB ops (fun j=>S j∨j=i) is
theorem GR (hs:jU ops ms=true)(T:Trace E ops ms base sq R W):∀{is:List Nat} {S:Nat→Prop} {σ:St},Inv ops base sq W S σ→E5 ops S→uB ops S is→vf E ops base is σ=some (sq ops.size)
 | [],S,σ,I,hc,ht=>by
  have:=I.final T ht
  subst this
  rfl
 | i::is,S,σ,I,hc,ht=>by
  obtain⟨hni,⟨o,ho,hp⟩,ht⟩:=ht
  obtain⟨σ',h1,I'⟩:=N2 hs T I hc ho hni hp
  simp only[vf,h1,cm]
  refine GR hs T I' (fun j oj hoj hS k hk=>?_) ht
  rcases hS with hS | rfl
  ·exact .inl (hc j oj hoj hS k hk)
  ·rw[ho] at hoj
   cases hoj
   exact .inl (hp k hk)
theorem Lz {e:Edge}:Region.binds .any e=yt e:=by
 unfold Region.binds yt
 cases e.ground<;>rfl
theorem DS {o:Oper}{j:Nat}:j∈pre o↔∃e∈o.after,Region.binds .any e=true∧e.on=j:=by
 unfold pre
 simp only[List.mem_map,List.mem_filter,Array.mem_toList_iff,Lz]
 exact⟨fun⟨e,⟨h1,h2⟩,h3⟩=>⟨e,h1,h2,h3⟩,fun⟨e,h1,h2,h3⟩=>⟨e,⟨h1,h2⟩,h3⟩⟩
theorem HN (hs:jU ops ms=true):∀(fuel t:Nat) (listed:Array Bool),listed.size=ops.size→(∀l:List Nat,l.Nodup→(∀j∈l,j<ops.size∧listed.getD j false=false)→l.length≤fuel)→
  uB ops (fun j=>listed.getD j false=true) (Region.linearise.go .any ops fuel t listed [])
 | 0,t,listed,hsz,hf=>by
  simp only[Region.linearise.go,List.reverse_nil,uB]
  intro j hj
  by_cases h:listed.getD j false=true
  ·exact h
  ·have:=hf [j] (by simp) (by simp only[List.mem_singleton,forall_eq];exact⟨hj,by simpa using h⟩)
   simp at this
 | fuel+1,t,listed,hsz,hf=>by
  simp only[Region.linearise.go]
  change uB ops _ (match (Region.ready .any ops listed)[t % (Region.ready .any ops listed).length]? with
   | some i=>Region.linearise.go .any ops fuel (t / (Region.ready .any ops listed).length) (listed.setIfInBounds i true) [i]
   | none=>[].reverse)
  cases hi:(Region.ready .any ops listed)[t % (Region.ready .any ops listed).length]? with
  | none=>
   have hnil:Region.ready .any ops listed=[]:=by
    cases hr:Region.ready .any ops listed with
    | nil=>rfl
    | cons x xs=>
     rw[hr] at hi
     have hlt:t % (x::xs).length<(x::xs).length:=Nat.mod_lt _ (by simp)
     simp at hi
     simp at hlt
     omega
   simp only[List.reverse_nil,uB]
   intro j
   induction j using Nat.strongRecOn with
   | _ j ih=>
    intro hj
    by_cases h:listed.getD j false=true
    ·exact h
    ·exfalso
     have:j∈Region.ready .any ops listed:=by
      rw[mem_ready]
      refine⟨?_,_,Array.getElem?_eq_getElem hj,fun e he hb=>?_⟩
      ·have hlt:j<listed.size:=by omega
       simpa[Array.getD,hlt] using h
      ·have hk:e.on∈pre ops[j]:=DS.2 ⟨e,he,hb,rfl⟩
       have:=(lB hs (Array.getElem?_eq_getElem hj)).pre _ hk
       exact ih _ this (by omega)
     rw[hnil] at this
     cases this
  | some i=>
   simp only
   rw[linearise_go_acc,List.reverse_singleton,List.singleton_append]
   have hm:=ii hi
   rw[mem_ready] at hm
   obtain⟨h0,o,ho,hall⟩:=hm
   have hin:i<ops.size:=(pW.1 ho).1
   have hil:i<listed.size:=by omega
   have hni:listed.getD i false=false:=by simpa[Array.getD,hil] using h0
   have ih:=HN hs fuel (t / (Region.ready .any ops listed).length) (listed.setIfInBounds i true) (by simpa using hsz) (fun l hl hj=>by
    have hnil:i∉l:=fun hm=>by
     have:=(hj i hm).2
     simp[Array.getD,hil] at this
    have:=hf (i::l) (List.nodup_cons.2 ⟨hnil,hl⟩) (fun j hjm=>by
     rcases List.mem_cons.1 hjm with rfl | hjm
     ·exact⟨hin,hni⟩
     ·obtain⟨q1,q2⟩:=hj j hjm
      refine⟨q1,?_⟩
      rwa[getD_set_ne false (by rintro rfl;exact hnil hjm)] at q2)
    simpa using this)
   have hni':¬(listed.getD i false=true):=by rw[hni];simp
   refine⟨hni',⟨o,ho,fun j hj=>?_⟩,?_⟩
   ·obtain⟨e,he,hb,rfl⟩:=DS.1 hj
    exact hall e he hb
   ·have:(fun j=>(listed.setIfInBounds i true).getD j false=true)=(fun j=>listed.getD j false=true∨j=i):=by
     funext j
     apply propext
     by_cases he:j=i
     ·subst he
      simp[Array.getD,hil]
     ·rw[getD_set_ne false (Ne.symm he)]
      simp[he]
    rw[this] at ih
    exact ih
theorem yu:∀{n:Nat} {l:List Nat},l.Nodup→(∀j∈l,j<n)→l.length≤n
 | 0,[],_,_=>by simp
 | 0,x::l,_,h=>absurd (h x (by simp)) (by omega)
 | n+1,l,hl,h=>by
  by_cases hn:n∈l
  ·have h1:=yu (n:=n) (hl.erase n) fun j hj=>by
    rw[hl.mem_erase_iff] at hj
    have:=h j hj.2
    omega
   rw[List.length_erase_of_mem hn] at h1
   omega
  ·have:=yu (n:=n) hl fun j hj=>by
    have:=h j hj
    have:j≠n:=by rintro rfl;exact hn hj
    omega
   omega
theorem th (hs:jU ops ms=true)(t:Nat):uB ops (fun _=>False) (Region.schedule true ops t):=by
 have h:=HN hs ops.size t (Array.replicate ops.size false) (by simp) fun l hl hj=>yu hl fun j hjm=>(hj j hjm).1
 have e:(fun j=>(Array.replicate ops.size false).getD j false=true)=fun _=>False:=by
  funext j
  apply propext
  simp[Array.getD]
 rw[e] at h
 simpa[Region.schedule,Region.linearise] using h
theorem Lv (hs:jU ops ms=true)(T:Trace E ops ms base sq R W)(t:Nat):vf E ops base (Region.schedule true ops t) (sq 0)=some (sq ops.size):=
 GR hs T (Inv.init T) (fun _ _ _ h=>h.elim) (th hs t)
theorem Cd {S:Nat→Prop}:∀{is:List Nat},uB ops S is→is.Nodup∧∀i∈is,¬S i∧i<ops.size
 | [],_=>by simp
 | i::is,⟨h1,⟨o,ho,_⟩,h2⟩=>by
  obtain⟨h3,h4⟩:=Cd h2
  refine⟨List.nodup_cons.2 ⟨fun hm=>(h4 i hm).1 (.inr rfl),h3⟩,fun j hj=>?_⟩
  rcases List.mem_cons.1 hj with rfl | hj
  ·exact⟨h1,(pW.1 ho).1⟩
  ·exact⟨fun h=>(h4 j hj).1 (.inl h),(h4 j hj).2⟩
end
section
abbrev mc:=List (Nat×List Nat×List Nat)
def oG (base:Nat)(ms:List Nat)(i:Nat)(R W:List Nat)(log:mc):Bool:=
 R.all (fun x=>decide (x<base)||(ms.getD i 0).testBit ((x - base) / bO)) &&
 log.all fun e=>(ms.getD i 0).testBit e.1||(e.2.2.all (fun x=>!R.contains x)&&W.all fun x=>!e.2.1.contains x)
def mw (E:Env)(ops:Array Oper)(ms:List Nat)(i:Nat)(log:mc)(st:St):Option (mc×St):=
 (ops[i]?).bind fun o=>(gS ops st o).bind fun b=>
  if oG st.nx ms i (if b then fS st o.op else []) (if b then hI E st o.op else []) log then
   (fm E ops (st.nx+bO*i) st i).map fun st'=>((i,(if b then fS st o.op else []),(if b then hI E st o.op else []))::log,st') else none
def ly:List It→Bool
 | .dops _ _ _ _::_=>false
 | _=>true
inductive Run (E:Env) (m:Nat) (Q:St→Prop):List It→St→Prop
 | done {st} (h:Q st):Run E m Q [] st
 | step {k k' st st'} (h:jd E k st=some (k',st')) (r:Run E m Q k' st'):Run E m Q k st
 | forget {k st} (L:List Nat) (hk:ly k=true) (r:Run E m Q k (mJ m L st)):Run E m Q k st
 | split {k st} (S:St→Prop) (hk:ly k=true) (h:∀{G:Ground} {w0 w:World} {ρ0 ρ:bg} {a:Act},fz G m w0 ρ0 w ρ st a→∃ρ' st',S st'∧fz G m w0 ρ0 w ρ' st' a) (r:∀st',S st'→Run E m Q k st'):Run E m Q k st
 | nilq {ops:Array Oper} {i:Nat} {is:List Nat} {k st} {o:Oper} {op:BinOp} {t t' e:TypeId} {x y:Operand} {nl:Bool} (ho:ops[i]?=some o) (hg:gS ops st o=some true) (hop:o.op=.binOp op t x y t') (he:op=.eql∨op=.neq)
  (hx:ev st x=some (.isl nl [])) (hy:ev st y=some (.isl true [])) (hd:E.desc t=some (.slice e)) (r:∀b,Run E m Q (.ops ops is::k) { st with tm:=kf st.tm o.dst (.bool b),nx:=st.nx+bO }):Run E m Q (.ops ops (i::is)::k) st
 | draw {id ops k st} (ms:List Nat) (hs:jU ops ms=true) (r:Run E m Q (.dops ops ms 0 []::k) st):Run E m Q (.code (.region id ops true)::k) st
 | dop {ops ms i log log' k st st'} (h:mw E ops ms i log st=some (log',st')) (r:Run E m Q (.dops ops ms (i+1) log'::k) st'):Run E m Q (.dops ops ms i log::k) st
 | dend {ops ms i log k st} (h:ops.size≤i) (r:Run E m Q k { st with nx:=st.nx+bO*ops.size }):Run E m Q (.dops ops ms i log::k) st
theorem Run.steps {E:Env}{m:Nat}{Q:St→Prop}:∀{n:Nat} {k k':List It} {st st':St},E3 E n k st=some (k',st')→Run E m Q k' st'→Run E m Q k st
 | 0,k,k',st,st',h,r=>by simp[E3] at h;obtain⟨rfl,rfl⟩:=h;exact r
 | n+1,k,k',st,st',h,r=>by
  simp only[E3] at h
  split at h
  ·rename_i k1 st1 h1
   exact .step h1 (Run.steps h r)
  ·cases h
inductive DRun (E:Env) (ops:Array Oper) (ms:List Nat):Nat→mc→St→St→Prop
 | done {i log st} (h:ops.size≤i):DRun E ops ms i log st st
 | step {i log log' st st1 st'} (h:mw E ops ms i log st=some (log',st1)) (r:DRun E ops ms (i+1) log' st1 st'):DRun E ops ms i log st st'
theorem wy {E:Env}{ops:Array Oper}{ms:List Nat}{i:Nat}{log log':mc}{st st':St}(h:mw E ops ms i log st=some (log',st')) :
  ∃o b R W,ops[i]?=some o∧gS ops st o=some b∧R=(if b then fS st o.op else [])∧W=(if b then hI E st o.op else [])∧oG st.nx ms i R W log=true∧fm E ops (st.nx+bO*i) st i=some st'∧log'=(i,R,W)::log:=by
 simp only[mw,aG] at h
 obtain⟨o,ho,b,hb,h⟩:=h
 generalize hR:(if b=true then fS st o.op else [])=R at h
 generalize hW:(if b=true then hI E st o.op else [])=W at h
 split at h
 ·rename_i hok
  simp only[aI,Prod.mk.injEq] at h
  obtain⟨x,hx,rfl,rfl⟩:=h
  exact⟨o,b,R,W,ho,hb,hR.symm,hW.symm,hok,hx,rfl⟩
 ·cases h
theorem Oc {base:Nat}{ms:List Nat}{i:Nat}{R W:List Nat}{log:mc}(h:oG base ms i R W log=true) :
  (∀x∈R,x<base∨∃j,(ms.getD i 0).testBit j=true∧blk base j x)∧∀e∈log,(ms.getD i 0).testBit e.1=true∨((∀x∈e.2.2,x∉R)∧∀x∈W,x∉e.2.1):=by
 simp only[oG,Bool.and_eq_true,List.all_eq_true,Bool.or_eq_true,decide_eq_true_eq,Bool.not_eq_true',List.contains_eq_mem,decide_eq_false_iff_not] at h
 refine⟨fun x hx=>?_,fun e he=>?_⟩
 ·by_cases hlt:x<base
  ·exact .inl hlt
  ·right
   refine⟨_,(h.1 x hx).resolve_left hlt,?_⟩
   unfold blk bO
   have:=Nat.div_add_mod (x - base) 16
   have:=Nat.mod_lt (x - base) (show 16>0 by omega)
   omega
 ·exact h.2 e he
theorem GP {E:Env}{ops:Array Oper}{id i:Nat}{st st':St}(h:fm E ops id st i=some st'):st'.nx=st.nx:=by
 unfold fm at h
 split at h
 ·cases h;rfl
 ·simp only[aG] at h
  obtain⟨b,_,h⟩:=h
  split at h
  ·simp only[aI] at h
   obtain⟨_,_,rfl⟩:=h
   rfl
  ·cases h;rfl
theorem DRun.trace {E:Env}{ops:Array Oper}{ms:List Nat}{i:Nat}{log:mc}{st st':St}(r:DRun E ops ms i log st st'):i≤ops.size→∃(sq:Nat→St) (R W:Nat→List Nat),sq i=st∧sq ops.size=st'∧
  (∀j,i≤j→j<ops.size→∃o b,ops[j]?=some o∧gS ops (sq j) o=some b∧R j=(if b then fS (sq j) o.op else [])∧W j=(if b then hI E (sq j) o.op else [])∧fm E ops (st.nx+bO*j) (sq j) j=some (sq (j+1)))∧
  (∀j,i≤j→j<ops.size→∀x∈R j,x<st.nx∨∃k,(ms.getD j 0).testBit k=true∧blk st.nx k x)∧
  (∀j k,i≤j→j<k→k<ops.size→(ms.getD k 0).testBit j=true∨((∀x∈W j,x∉R k)∧∀x∈W k,x∉R j))∧
  (∀e∈log,∀k,i≤k→k<ops.size→(ms.getD k 0).testBit e.1=true∨((∀x∈e.2.2,x∉R k)∧∀x∈W k,x∉e.2.1)):=by
 induction r with
 | @done i log st h=>
  intro hi
  have:i=ops.size:=by omega
  subst this
  exact⟨fun _=>st,fun _=>[],fun _=>[],rfl,rfl,fun j h1 h2=>absurd h2 (by omega),fun j h1 h2=>absurd h2 (by omega),fun j k h1 h2 h3=>absurd h3 (by omega),fun e _ k h1 h2=>absurd h2 (by omega)⟩
 | @step i log log' st st1 st' h r ih=>
  intro hi
  obtain⟨o,b,R0,W0,ho,hb,hR,hW,hok,hst,rfl⟩:=wy h
  have hin:i<ops.size:=(pW.1 ho).1
  obtain⟨sq,R,W,q1,q2,q3,q4,q5,q6⟩:=ih (by omega)
  have hnx:st1.nx=st.nx:=GP hst
  obtain⟨ok1,ok2⟩:=Oc hok
  refine⟨fun j=>if j=i then st else sq j,fun j=>if j=i then R0 else R j,fun j=>if j=i then W0 else W j,by simp,by simp only;rw[if_neg (by omega)];exact q2,fun j h1 h2=>?_,fun j h1 h2=>?_,fun j k h1 h2 h3=>?_,fun e he k h1 h2=>?_⟩
  ·by_cases hj:j=i
   ·subst hj
    simp only[if_true,if_neg (show ¬j+1=j by omega)]
    exact⟨o,b,ho,hb,hR,hW,by rw[q1];exact hst⟩
   ·simp only[if_neg hj,if_neg (show ¬j+1=i by omega)]
    obtain⟨o',b',p1,p2,p3,p4,p5⟩:=q3 j (by omega) h2
    exact⟨o',b',p1,p2,p3,p4,by rw[←hnx];exact p5⟩
  ·by_cases hj:j=i
   ·subst hj
    simp only[if_true]
    exact ok1
   ·simp only[if_neg hj]
    rw[←hnx]
    exact q4 j (by omega) h2
  ·by_cases hj:j=i
   ·subst hj
    simp only[if_true,if_neg (show ¬k=j by omega)]
    exact q6 (j,R0,W0) (by simp) k (by omega) h3
   ·simp only[if_neg hj,if_neg (show ¬k=i by omega)]
    exact q5 j k (by omega) h2 h3
  ·by_cases hk:k=i
   ·subst hk
    simp only[if_true]
    exact ok2 e he
   ·simp only[if_neg hk]
    exact q6 e (List.mem_cons_of_mem _ he) k (by omega) h2
theorem DRun.any {E:Env}{ops:Array Oper}{ms:List Nat}{st st':St}(hs:jU ops ms=true)(r:DRun E ops ms 0 [] st st')(t:Nat):vf E ops st.nx (Region.schedule true ops t) st=some st':=by
 obtain⟨sq,R,W,q1,q2,q3,q4,q5,q6⟩:=r.trace (Nat.zero_le _)
 have T:Trace E ops ms st.nx sq R W:=⟨fun i hi=>q3 i (Nat.zero_le _) hi,fun i hi=>q4 i (Nat.zero_le _) hi,fun j i hj hi=>q5 j i (Nat.zero_le _) hj hi⟩
 have:=Lv hs T t
 rwa[q1,q2] at this
end
section
variable {G : Ground} {m : Nat} {w0 w : World} {ρ0 ρ : bg} {st st' : St} {a : Act}
theorem RelU.drawn {Un : Nat→Prop}(R : RelU Un G m w0 ρ0 w ρ st a) : RelU Un G m w0 ρ0 { w with drawn:=w.drawn + 1 } ρ st a:=by
  have K : Keep (fun _ _=>False) w ρ st.rt { w with drawn:=w.drawn + 1 } ρ st.rt:=⟨fun b hb _=>⟨hb,rfl⟩,fun o nv p _ hl=>⟨hl,fun b n h1 h2=>⟨h1,h2⟩⟩,fun b l h=>⟨h,rfl⟩⟩
  have Wd : Wk w { w with drawn:=w.drawn + 1 }:=⟨rfl,rfl,rfl,Nat.le_refl _,fun _ _ h=>h⟩
  exact { R with
    tm:=⟨R.tm.1,fun i v u hv hu=>(R.tm.2 i v u hv hu).keep K (d7 (by rintro _ _ h; exact h.elim) (R.tmn i v hv))⟩
    rok:=fun o r hr=>bW.under K (fun b l hb _=>⟨hb,rfl⟩) (R.rok o r hr) (R.rtn o r hr)
    lab:=⟨R.lab.l,R.lab.z,R.lab.f⟩
    wk:=R.wk.trans Wd
    gr:=Ground.keep R.gr K.k1 Wd }
section
variable {P : Program} {E : Env} (hG : ∀ f e,E.fn f=some e→fq P G f e) (A : Agree P E)
include hG A
def SA (base n:Nat)(is:List Nat):Nat→Prop:=fun o=>base+bO*n≤o∨∃i∈is,blk base i o
theorem DQ {ops:Array Oper}{base:Nat}(hb0:0<base){Q:Exit→Act→World→Prop}:∀{is:List Nat} {st:St} {w:World} {ρ:bg} {a:Act},is.Nodup→(∀i∈is,i<ops.size)→vf E ops base is st=some st'→RelU (SA base ops.size is) G m w0 ρ0 w ρ st a→
  (∀w ρ a,RelU (d9 (base+bO*ops.size)) G m w0 ρ0 w ρ st' a→Q .normal a w)→wpOps P ops Q is a w
 | [],st,w,ρ,a,hd,hl,h,R,hQ=>by
  simp only[vf,Option.some.injEq] at h
  subst h
  simp only[wpOps]
  exact hQ w ρ a (R.mono (nx:=st.nx) fun o ho=>.inl ho)
 | i::is,st,w,ρ,a,hd,hl,h,R,hQ=>by
  simp only[vf,aG] at h
  obtain⟨st1,h1,h2⟩:=h
  obtain⟨ey,hd2⟩:=List.nodup_cons.1 hd
  have hil:=hl i (by simp)
  refine RelU.step hG A R (id:=base+bO*i) (nx:=st1.nx) (by omega) (fun o q1 q2=>.inr ⟨i,by simp,q1,by rw[Nat.mul_add];omega⟩) h1 fun w' ρ' a' R'=>?_
  refine DQ hb0 hd2 (fun j hj=>hl j (List.mem_cons_of_mem _ hj)) h2 (R'.mono (nx:=st1.nx) fun o ho=>?_) hQ
  rcases ho with ho | ⟨j,hj,hb⟩
  ·refine⟨.inl ho,fun hc=>?_⟩
   have:bO*(i+1)≤bO*ops.size:=Nat.mul_le_mul_left _ hil
   rw[Nat.mul_add] at this
   omega
  ·refine⟨.inr ⟨j,List.mem_cons_of_mem _ hj,hb⟩,fun hc=>?_⟩
   have:=no (j:=i) ⟨hc.1,by rw[Nat.mul_add];omega⟩ hb
   subst this
   exact ey hj
theorem Jg {id:Nat}{ops:Array Oper}{ms:List Nat}{k:List It}{F:Act→World→Prop}(hm:P.follows .mixedOrders=true)(hs:jU ops ms=true)(r:DRun E ops ms 0 [] st st')(R:fz G m w0 ρ0 w ρ st a)(ih:∀w ρ a,fz G m w0 ρ0 w ρ { st' with nx:=st.nx+bO*ops.size } a→Fin P F k a w):Fin P F (.code (.region id ops true)::k) a w:=by
 intro b cs
 have hpos:0<st.nx:=R.up st.nx (Nat.le_refl _)
 generalize ht:w.tape w.drawn (.order b.fn id)=t
 have htopo:=th hs t
 obtain⟨h1,h2⟩:=Cd htopo
 have hw:=DQ (P:=P) (Q:=JB (Fin P F k)) hG A hpos h1 (fun i hi=>(h2 i hi).2) (r.any hs t) (R.drawn.mono (Un':=SA st.nx ops.size (Region.schedule true ops t)) (nx:=st.nx) fun o ho=>by
  rcases ho with ho | ⟨i,hi,hb⟩
  ·unfold d9;omega
  ·have:=hb.1;unfold d9;omega) fun w ρ a R'=>ih w ρ a (R'.mono (nx:=st.nx+bO*ops.size) fun o ho=>ho)
 obtain⟨a',w',td,hq,hst⟩:=HL (ops:=ops) hw b cs
 refine⟨a',w',td,hq,?_⟩
 have hstep:=step_region_draw (P:=P) (b:=b) (a:=a) (k:=k.map lZ) (cs:=cs) (w:=w) (ops:=ops) (id:=id)
 rw[hm,ht] at hstep
 exact Steps.head hstep hst
def gv (k:List It):Bool:=k.all fun
 | .dops _ _ _ _=>false
 | _=>true
omit hG A in
theorem oa:∀{k k':List It} {id:Nat},gJ id k=some k'→gv k=true→gv k'=true
 | [],k',id,h,_=>by simp[gJ] at h
 | .blk id'::k,k',id,h,hn=>by
  simp only[gv,List.all_cons,Bool.and_eq_true] at hn
  simp only[gJ] at h
  split at h
  ·cases h;exact hn.2
  ·exact oa h hn.2
 | .code c::k,k',id,h,hn=>by
  simp only[gv,List.all_cons,Bool.and_eq_true] at hn
  exact oa (k:=k) (by simpa[gJ] using h) hn.2
 | .ops o i::k,k',id,h,hn=>by
  simp only[gv,List.all_cons,Bool.and_eq_true] at hn
  exact oa (k:=k) (by simpa[gJ] using h) hn.2
 | .lp c::k,k',id,h,hn=>by
  simp only[gv,List.all_cons,Bool.and_eq_true] at hn
  exact oa (k:=k) (by simpa[gJ] using h) hn.2
 | .dops _ _ _ _::k,k',id,h,hn=>by simp[gv] at hn
theorem Mo {k k':List It}(h:jd E k st=some (k',st'))(hn:gv k=true):gv k'=true:=by
 have tl:∀{x:It} {k:List It},gv (x::k)=true→gv k=true:=fun h=>by
  simp only[gv,List.all_cons,Bool.and_eq_true] at h
  exact h.2
 unfold jd at h
 split at h
 ·cases h;exact tl hn
 ·cases h;have:=tl hn;simpa[gv] using this
 ·cases h;have:=tl hn;simpa[gv] using this
 ·simp only[aG] at h
  obtain⟨cv,hc,h⟩:=h
  have:=tl hn
  split at h<;>cases h<;>simpa[gv] using this
 ·cases h;have:=tl hn;simpa[gv] using this
 ·cases h;have:=tl hn;simpa[gv] using this
 ·simp only[aI] at h
  obtain⟨k1,hk,h⟩:=h
  cases h
  exact oa hk (tl hn)
 ·cases h;rfl
 ·cases h;exact tl hn
 ·simp only[aI] at h
  obtain⟨st1,hst,h⟩:=h
  cases h
  have:=tl hn
  simpa[gv] using this
 ·cases h;exact tl hn
 ·cases h;have:=tl hn;simpa[gv] using this
 ·cases h
def I7 (P:Program)(G:Ground)(m:Nat)(w0:World)(ρ0:bg)(Q:St→Prop)(k:List It)(st:St):Prop:=∀w ρ a,fz G m w0 ρ0 w ρ st a→FM P (EZ G m w0 ρ0 Q) k a w
def RU (P:Program)(E:Env)(G:Ground)(m:Nat)(w0:World)(ρ0:bg)(Q:St→Prop):List It→St→Prop
 | .dops ops ms i log::k,st=>gv k=true→∃st',DRun E ops ms i log st st'∧I7 P G m w0 ρ0 Q k { st' with nx:=st'.nx+bO*ops.size }
 | k,st=>gv k=true→I7 P G m w0 ρ0 Q k st
theorem vX {Q:St→Prop}{k:List It}(h:RU P E G m w0 ρ0 Q k st)(hn:gv k=true):I7 P G m w0 ρ0 Q k st:=by
 cases k with
 | nil=>exact h hn
 | cons x k=>
  cases x<;>first | exact h hn | simp[gv] at hn
omit hG A in
theorem DRun.nx {ops:Array Oper}{ms:List Nat}{i:Nat}{log:mc}(r:DRun E ops ms i log st st'):st'.nx=st.nx:=by
 induction r with
 | done h=>rfl
 | step h r ih=>
  obtain⟨o,b,R,W,_,_,_,_,_,hst,_⟩:=wy h
  rw[ih,GP hst]
theorem Run.sound (hm:P.follows .mixedOrders=true){Q:St→Prop}{k:List It}(r:Run E m Q k st):RU P E G m w0 ρ0 Q k st:=by
 have mk:∀{k:List It} {st:St},(gv k=true→I7 P G m w0 ρ0 Q k st)→ly k=true→RU P E G m w0 ρ0 Q k st:=by
  intro k st h hd
  cases k with
  | nil=>exact h
  | cons x k=>cases x<;>first | exact h | simp[ly] at hd
 induction r with
 | done h=>exact fun _ w ρ a R=>⟨_,_,R,h⟩
 | @step k k' st st' h r ih=>
  refine mk (fun hn w ρ a R=>JJ hG A h R fun w ρ a R'=>vX hG A ih (Mo hG A h hn) w ρ a R') ?_
  cases k with
  | nil=>rfl
  | cons x k=>
   cases x<;>first | rfl | (simp[jd] at h)
 | forget L hk r ih=>
  refine mk (fun hn w ρ a R=>?_) hk
  obtain⟨ρ',R'⟩:=R.forget L
  exact vX hG A ih hn w ρ' a R'
 | split S hk h r ih=>
  refine mk (fun hn w ρ a R=>?_) hk
  obtain⟨ρ',st',hS,R'⟩:=h R
  exact vX hG A (ih st' hS) hn w ρ' a R'
 | @nilq ops i is k st o op t t' e x y nl ho hg hop he hx hy hd r ih=>
  refine mk (fun hn w ρ a R=>?_) rfl
  refine R.nilq A ho hg hop he hx hy hd fun b w' ρ' a' R'=>?_
  exact vX hG A (ih b) (by simpa[gv] using hn) w' ρ' a' R'
 | @draw id ops k st ms hs r ih=>
  refine mk (fun hn w ρ a R=>?_) rfl
  have hn':gv k=true:=by
   simp only[gv,List.all_cons,Bool.and_eq_true] at hn
   exact hn.2
  obtain⟨st',hr,hk⟩:=ih hn'
  refine Jg hG A hm hs hr R fun w ρ a R'=>gn (hk w ρ a ?_)
  rw[hr.nx]
  exact R'
 | @dop ops ms i log log' k st st' h r ih=>
  intro hn
  obtain⟨st2,h1,h2⟩:=ih hn
  exact⟨st2,.step h h1,h2⟩
 | @dend ops ms i log k st h r ih=>
  intro hn
  exact⟨st,.done h,vX hG A ih hn⟩
theorem Run.fin (hm:P.follows .mixedOrders=true){Q:St→Prop}{c:Code}(r:Run E m Q [.code c] st)(R:fz G m w0 ρ0 w ρ st a):FM P (EZ G m w0 ρ0 Q) [.code c] a w:=
 vX hG A (Run.sound hG A hm r) rfl w ρ a R
end
end
section
variable {G : Ground} {m : Nat} {w0 w : World} {ρ0 ρ : bg} {st st' : St} {a : Act} {rt : ai}
theorem ow {v y:V}{k:Nat}(hk:k<(cells v).length)(hy:al y=false):cells (cH v k y)=(cells v).set k y∧al (cH v k y)=al v:=by
 cases v with
 | agg cs=>exact⟨rfl,rfl⟩
 | _=>
  have h0:k=0:=by simp[cells] at hk;exact hk
  subst h0
  cases y<;>first | (simp[al] at hy;done) | exact⟨rfl,rfl⟩
theorem fz.slot {t k s : Nat}{v : V}(ht : st.tm[t]? = some v)(hk : (cells v)[k]? = some (.isl true []))(R : fz G m w0 ρ0 w ρ st a) :
    fz G m w0 ρ0 w ρ ⟨st.tm.set t (cH v k (.hs st.nx 0 [] s 0 0)),upd st.rt st.nx (some ⟨0,s,[]⟩),st.nx + bO⟩ a:=by
  have hnx : st.rt st.nx=none:=R.fresh _ (Nat.le_refl _)
  have hne : ∀ {o r},st.rt o=some r→o ≠ st.nx:=fun h e=>by subst e; rw [hnx] at h; cases h
  have K : Keep (fun o _=>o=st.nx) w ρ st.rt w ρ (upd st.rt st.nx (some ⟨0,s,[]⟩)):=by
    refine ⟨fun b hb _=>⟨hb,rfl⟩,fun o nv p hN hl=>⟨?_,fun b n h1 h2=>⟨h1,h2⟩⟩,fun b l h=>⟨h,rfl⟩⟩
    have hN' : o ≠ st.nx:=hN
    simpa [b8,bD,bA,upd,hN'] using hl
  have hKn : ∀ {v : V},an (bG (d9 st.nx) st.rt) v→an (fun o _=>o=st.nx) v:=fun h=>d7 (fun o nv e=>by subst e; exact .inl (Nat.le_refl _)) h
  have hlt : k < (cells v).length:=(cd.1 hk).1
  obtain ⟨hc1,hc2⟩:=ow (y:=.hs st.nx 0 [] s 0 0) hlt rfl
  have hmono : ∀ o nv,bG (d9 (st.nx + bO)) (upd st.rt st.nx (some ⟨0,s,[]⟩)) o nv→bG (d9 st.nx) st.rt o nv:=by
    intro o nv h
    rcases h with h | ⟨r,h1,h2⟩
    · exact .inl (Nat.le_trans (Nat.le_add_right _ _) h)
    · by_cases e : o=st.nx
      · exact .inl (by subst e; exact Nat.le_refl _)
      · exact .inr ⟨r,by simpa [upd,e] using h1,h2⟩
  have hnn : ¬ bG (d9 (st.nx + bO)) (upd st.rt st.nx (some ⟨0,s,[]⟩)) st.nx 0:=by
    rintro (h | ⟨r,h1,h2⟩)
    · have : st.nx + 16 ≤ st.nx:=h
      omega
    · simp [upd] at h1
      subst h1
      simp at h2
  have old : ∀ (i : Nat) x u,st.tm[i]?=some x→a.tmps[i]?=some u→aM w ρ (upd st.rt st.nx (some ⟨0,s,[]⟩)) bq x u:=fun i x u hx hu=>(R.tm.2 i x u hx hu).keep K (hKn (R.tmn i x hx))
  exact
    { tm := by
        refine ⟨by simpa using R.tm.1,fun i x u hx hu=>?_⟩
        rw [List.getElem?_set] at hx
        split at hx
        · rename_i e
          split at hx
          · cases hx
            subst e
            obtain ⟨g,hg1,hg2⟩:=old t v u ht hu
            refine ⟨g,?_,fun j x hx=>?_⟩
            · rw [hg1]
              unfold fc
              rw [hc2,hc1]
              simp
            · rw [hc1,List.getElem?_set] at hx
              split at hx
              · rename_i ej
                subst ej
                · cases hx
                  have:=hg2 k _ hk
                  have hA : g k=.slice none 0 0:=by
                    generalize g k=z at this
                    cases this with
                    | isl0 _ _ A c hn=>obtain ⟨rfl,rfl⟩:=hn rfl; rfl
                  rw [hA]
                  exact .hs _ _ _ _ _ _ _ _ (fun _=>⟨0,none,rfl,Nat.le_refl _,fun h=>absurd rfl h⟩) trivial
              · exact hg2 j x hx
          · cases hx
        · exact old i x u hx hu
      rok:=fun o r hr=>by
        by_cases e : o=st.nx
        · subst e
          simp [upd] at hr
          subst hr
          exact .inl rfl
        · have hr' : st.rt o=some r:=by simpa [upd,e] using hr
          exact bW.under K (fun b l hb _=>⟨hb,rfl⟩) (R.rok o r hr') (R.rtn o r hr')
      inj:=R.inj
      rtn:=fun o r hr=>by
        by_cases e : o=st.nx
        · subst e
          simp [upd] at hr
          subst hr
          simp [nhs]
        · exact R.rtn o r (by simpa [upd,e] using hr)
      lab := ⟨fun b o l h => ⟨(R.lab.l b o l h).1, by
          rcases (R.lab.l b o l h).2 with h1 | ⟨r,h1⟩
          · exact .inl h1
          · exact .inr ⟨r,by simp [upd,hne h1,h1]⟩⟩,by have:=R.up st.nx (Nat.le_refl _); simp [upd,show (0 : Nat) ≠ st.nx by omega,R.lab.z],R.lab.f⟩
      fresh:=fun o ho=>by
        have ho' : st.nx + bO ≤ o:=ho
        have : o ≠ st.nx:=by simp [bO] at ho'; omega
        simp only [upd,if_neg this]
        exact R.fresh o (Nat.le_trans (Nat.le_add_right _ _) ho')
      up:=fun o ho=>R.up o (Nat.le_trans (Nat.le_add_right _ _) ho)
      tmn:=fun i x hx=>by
        rw [List.getElem?_set] at hx
        split at hx
        · split at hx
          · cases hx
            have hv:=d7 hmono (R.tmn t v ht)
            cases v with
            | agg cs =>
              simp only [cH,an] at hv ⊢
              rw [dJ] at hv ⊢
              intro z hz
              rcases List.mem_or_eq_of_mem_set hz with hz | rfl
              · exact hv z hz
              · exact hnn
            | _=>exact hnn
          · cases hx
        · exact d7 hmono (R.tmn i x hx)
      wk:=R.wk,fr:=R.fr,k0:=R.k0,f0:=R.f0,df:=R.df,gr:=R.gr
      am:=fun i b n h1 h2 h3 h4=>R.am i b n h1 h2 h3 (by
        have : i ≠ st.nx:=fun e=>R.nl i (R.le b i [] h2) (by subst e; exact Nat.le_refl _)
        simpa [upd,this] using h4)
      le:=R.le
      nl:=fun i hi h=>R.nl i hi (Nat.le_trans (Nat.le_add_right _ _) h) }
inductive Cv:V→V→Prop
 | refl (v):Cv v v
 | nil (s):Cv (.isl true []) (.usl s [])
 | agg (cs cs') (hl:cs.length=cs'.length) (h:∀(k:Nat) x y,cs[k]?=some x→cs'[k]?=some y→Cv x y):Cv (.agg cs) (.agg cs')
 | usl (s es es') (hl:es.length=es'.length) (h:∀(k:Nat) x y,es[k]?=some x→es'[k]?=some y→Cv x y):Cv (.usl s es) (.usl s es')
theorem Cv.isAgg {v v':V}(h:Cv v v'):al v=al v':=by cases h<;>rfl
theorem Cv.cells {v v':V}(h:Cv v v'):(cells v).length=(Go.Ln.cells v').length∧∀(k:Nat) x y,(Go.Ln.cells v)[k]?=some x→(Go.Ln.cells v')[k]?=some y→Cv x y:=by
 cases h with
 | refl=>exact⟨rfl,fun k x y h1 h2=>by rw[h1] at h2;cases h2;exact .refl _⟩
 | nil s=>exact⟨rfl,fun k x y h1 h2=>by cases k<;>simp[Go.Ln.cells] at h1 h2;subst h1;subst h2;exact .nil s⟩
 | agg cs cs' hl h=>exact⟨hl,h⟩
 | usl s es es' hl h=>exact⟨rfl,fun k x y h1 h2=>by cases k<;>simp[Go.Ln.cells] at h1 h2;subst h1;subst h2;exact .usl s es es' hl h⟩
theorem Cv.rep2 {v v':V}(h:Cv v v'):(∀{L:cS} {u:Value},RepV w ρ rt (some L) v u→RepV w ρ rt (some L) v' u)∧∀(k:Nat) x y,(Go.Ln.cells v)[k]?=some x→(Go.Ln.cells v')[k]?=some y→∀{L:cS} {u:Value},RepV w ρ rt (some L) x u→RepV w ρ rt (some L) y u:=by
 induction h with
 | refl=>exact⟨fun h=>h,fun k x y h1 h2 L u h=>by rw[h1] at h2;cases h2;exact h⟩
 | nil s=>
  have key:∀{L:cS} {u:Value},RepV w ρ rt (some L) (.isl true []) u→RepV w ρ rt (some L) (.usl s []) u:=by
   intro L u h
   cases h with
   | isl0 _ _ A c hn=>
    obtain⟨rfl,rfl⟩:=hn rfl
    exact .usl0 _ _ _
  exact⟨key,fun k x y h1 h2 L u h=>by cases k<;>simp[Go.Ln.cells] at h1 h2;subst h1;subst h2;exact key h⟩
 | agg cs cs' hl hc ih=>exact⟨(fun h=>by cases h),fun k x y h1 h2=>(ih k x y h1 h2).1⟩
 | usl s es es' hl hc ih=>
  have key:∀{L:cS} {u:Value},RepV w ρ rt (some L) (.usl s es) u→RepV w ρ rt (some L) (.usl s es') u:=by
   intro L u h
   cases h with
   | usl0 _ _ A=>
    have:es'=[]:=by cases es'<;>simp_all
    subst this
    exact .usl0 _ _ _
   | usl _ _ _ b A c arr T g h1 h2 h3 h4 h5 h6 h7 h8=>
    have back:∀{i:Nat} {e':V},es'[i]?=some e'→∃e,es[i]?=some e∧Cv e e':=by
     intro i e' he
     have hi:i<es.length:=by rw[hl];exact (cd.1 he).1
     exact⟨es[i],d5 hi,hc i _ _ (d5 hi) he⟩
    have backc:∀{i:Nat} {e':V} {k:Nat} {y:V},es'[i]?=some e'→(Go.Ln.cells e')[k]?=some y→∃e x,es[i]?=some e∧(Go.Ln.cells e)[k]?=some x∧∀{L:cS} {u:Value},RepV w ρ rt (some L) x u→RepV w ρ rt (some L) y u:=by
     intro i e' k y he hy
     obtain⟨e,he2,hcv⟩:=back he
     have hk:k<(Go.Ln.cells e).length:=by rw[hcv.cells.1];exact (cd.1 hy).1
     exact⟨e,(Go.Ln.cells e)[k],he2,d5 hk,(ih i e e' he2 he).2 k _ _ (d5 hk) hy⟩
    rw[hl]
    refine .usl _ s es' b A c arr T g h1 h2 (by omega) h4 h5 (fun i e' he=>?_) (fun i e' k y he hy=>?_) (fun i e' k y he hy=>?_)
    ·obtain⟨e,he2,hcv⟩:=back he
     rw[←hcv.cells.1]
     exact h6 i e he2
    ·obtain⟨e,x,he2,hx,_⟩:=backc he hy
     exact h7 i e k x he2 hx
    ·obtain⟨e,x,he2,hx,hcv⟩:=backc he hy
     exact hcv (h8 i e k x he2 hx)
  exact⟨key,fun k x y h1 h2 L u h=>by cases k<;>simp[Go.Ln.cells] at h1 h2;subst h1;subst h2;exact key h⟩
def tx (es es':List V):Prop:=es.length=es'.length∧∀(i:Nat) x y,es[i]?=some x→es'[i]?=some y→Cv x y
theorem tx.row {L:cS}{s:Nat}{es es':List V}(h:tx es es')(hr:bW w ρ rt L s es):bW w ρ rt L s es':=by
 obtain⟨hl,hc⟩:=h
 rcases hr with rfl | ⟨b,arr,T,g,h1,h2,h3,h4,h5⟩
 ·left
  cases es'<;>simp_all
 ·have back:∀{i:Nat} {e':V},es'[i]?=some e'→∃e,es[i]?=some e∧Cv e e':=by
   intro i e' he
   have hi:i<es.length:=by rw[hl];exact (cd.1 he).1
   exact⟨es[i],d5 hi,hc i _ _ (d5 hi) he⟩
  refine .inr ⟨b,arr,T,g,h1,h2,fun i e' he=>?_,fun i e' k y he hy=>?_,fun i e' k y he hy=>?_⟩
  ·obtain⟨e,he2,hcv⟩:=back he
   rw[←hcv.cells.1]
   exact h3 i e he2
  ·obtain⟨e,he2,hcv⟩:=back he
   have hk:k<(cells e).length:=by rw[hcv.cells.1];exact (cd.1 hy).1
   exact h4 i e k _ he2 (d5 hk)
  ·obtain⟨e,he2,hcv⟩:=back he
   have hk:k<(cells e).length:=by rw[hcv.cells.1];exact (cd.1 hy).1
   exact hcv.rep2.2 k _ y (d5 hk) hy (h5 i e k _ he2 (d5 hk))
theorem Cv.nh {v v':V}(h:Cv v v'):Go.Ln.nh v→Go.Ln.nh v':=by
 induction h with
 | refl=>exact id
 | nil s=>intro _;simp[Go.Ln.nh,nhs]
 | agg cs cs' hl hc ih=>
  intro hn
  simp only[Go.Ln.nh,cZ] at hn ⊢
  intro y hy
  obtain⟨k,hk,rfl⟩:=List.mem_iff_getElem.1 hy
  exact ih k _ _ (d5 (by omega)) (d5 hk) (hn _ (List.getElem_mem (by omega)))
 | usl s es es' hl hc ih=>
  intro hn
  simp only[Go.Ln.nh,cZ] at hn ⊢
  intro y hy
  obtain⟨k,hk,rfl⟩:=List.mem_iff_getElem.1 hy
  exact ih k _ _ (d5 (by omega)) (d5 hk) (hn _ (List.getElem_mem (by omega)))
theorem tx.nhs {es es':List V}(h:tx es es')(hn:nhs es):Go.Ln.nhs es':=by
 rw[cZ] at hn ⊢
 intro y hy
 obtain⟨k,hk,rfl⟩:=List.mem_iff_getElem.1 hy
 have h1:=h.1
 exact (h.2 k _ _ (d5 (by omega)) (d5 hk)).nh (hn _ (List.getElem_mem (by omega)))
theorem fz.row {o : Nat}{r : Root}{es' : List V}(hr : st.rt o=some r)(hc : tx r.es es')(R : fz G m w0 ρ0 w ρ st a) : fz G m w0 ρ0 w ρ { st with rt:=upd st.rt o (some ⟨r.nv + 1,r.s,es'⟩) } a:=by
  have K : Keep (bG (d9 st.nx) st.rt) w ρ st.rt w ρ (upd st.rt o (some ⟨r.nv + 1,r.s,es'⟩)):=by
    refine ⟨fun b hb _=>⟨hb,rfl⟩,fun o' nv p hN hl=>⟨?_,fun b n h1 h2=>⟨h1,h2⟩⟩,fun b l h=>⟨h,rfl⟩⟩
    by_cases e : o'=o
    · subst e
      have hnv : ¬ r.nv < nv:=fun h=>hN (.inr ⟨r,hr,h⟩)
      have hp : p=[]:=by
        simp only [b8,bD,bA,upd,if_true] at hl
        split at hl
        · rename_i hc
          simp only [Bool.or_eq_true,List.isEmpty_iff,beq_iff_eq] at hc
          rcases hc with h | h
          · exact h
          · omega
        · simp at hl
      subst hp
      simp [b8,bD,bA,hr,aU]
    · simpa [b8,bD,bA,upd,e] using hl
  have hiff : ∀ o',(upd st.rt o (some ⟨r.nv + 1,r.s,es'⟩)) o'=none ↔ st.rt o'=none:=by
    intro o'
    by_cases e : o'=o
    · subst e; simp [upd,hr]
    · simp [upd,e]
  have hmono : ∀ o' nv,bG (d9 st.nx) (upd st.rt o (some ⟨r.nv + 1,r.s,es'⟩)) o' nv→bG (d9 st.nx) st.rt o' nv:=by
    intro o' nv h
    rcases h with h | ⟨r',h1,h2⟩
    · exact .inl h
    · by_cases e : o'=o
      · subst e
        simp [upd] at h1
        subst h1
        exact .inr ⟨r,hr,by simp at h2; omega⟩
      · exact .inr ⟨r',by simpa [upd,e] using h1,h2⟩
  exact
    { tm:=⟨R.tm.1,fun i v u hv hu=>(R.tm.2 i v u hv hu).keep K (R.tmn i v hv)⟩
      rok:=fun o' r' hr'=>by
        by_cases e : o'=o
        · subst e
          simp [upd] at hr'
          subst hr'
          exact hc.row (bW.under K (fun b l hb _=>⟨hb,rfl⟩) (R.rok o' r hr) (R.rtn o' r hr))
        · have hr2 : st.rt o'=some r':=by simpa [upd,e] using hr'
          exact bW.under K (fun b l hb _=>⟨hb,rfl⟩) (R.rok o' r' hr2) (R.rtn o' r' hr2)
      inj:=R.inj
      rtn:=fun o' r' hr'=>by
        by_cases e : o'=o
        · subst e
          simp [upd] at hr'
          subst hr'
          exact hc.nhs (R.rtn o' r hr)
        · exact R.rtn o' r' (by simpa [upd,e] using hr')
      lab := ⟨fun b o' l h => ⟨(R.lab.l b o' l h).1, by
          rcases (R.lab.l b o' l h).2 with h1 | ⟨r',h1⟩
          · exact .inl h1
          · right
            by_cases e : o'=o
            · subst e; exact ⟨⟨r.nv + 1,r.s,es'⟩,by simp [upd]⟩
            · exact ⟨r',by simp [upd,e,h1]⟩⟩,(hiff 0).2 R.lab.z,R.lab.f⟩
      fresh:=fun o' ho=>(hiff o').2 (R.fresh o' ho)
      up:=R.up
      tmn:=fun i v hv=>d7 hmono (R.tmn i v hv)
      wk:=R.wk,fr:=R.fr,k0:=R.k0,f0:=R.f0,df:=R.df,gr:=R.gr
      am:=fun i b n h1 h2 h3 h4=>R.am i b n h1 h2 h3 (by
        cases e : st.rt i with
        | some _=>rfl
        | none=>(have h5 : (upd st.rt o (some ⟨r.nv + 1,r.s,es'⟩) i).isSome=true:=h4; rw [(hiff i).2 e] at h5; simp at h5))
      le:=R.le
      nl:=R.nl }
theorem Run.slot {E:Env}{Q:St→Prop}{k:List It}{t j s:Nat}{v:V}(hk:ly k=true)(ht:st.tm[t]?=some v)(hj:(cells v)[j]?=some (.isl true []))(r:Run E m Q k ⟨st.tm.set t (cH v j (.hs st.nx 0 [] s 0 0)),upd st.rt st.nx (some ⟨0,s,[]⟩),st.nx+bO⟩):Run E m Q k st:=
 .split (fun x=>x=_) hk (fun R=>⟨_,_,rfl,fz.slot ht hj R⟩) fun _ h=>h▸r
theorem Run.row {E:Env}{Q:St→Prop}{k:List It}{o:Nat}{r:Root}{es':List V}(hk:ly k=true)(hr:st.rt o=some r)(hc:tx r.es es')(rr:Run E m Q k { st with rt:=upd st.rt o (some ⟨r.nv+1,r.s,es'⟩) }):Run E m Q k st:=
 .split (fun x=>x=_) hk (fun R=>⟨_,_,rfl,fz.row hr hc R⟩) fun _ h=>h▸rr
end
section
theorem fq.weaken {P:Program}{G:Ground}{f:FuncId}{own:List Bool}{F F':List V→Option (V×List V)}(h:fq P G f ⟨own,F⟩)(hF:∀vs x,F' vs=some x→F vs=some x):fq P G f ⟨own,F'⟩:=
 fun w ρ vs us r cV h1 h2 h3 h4=>h w ρ vs us r cV h1 h2 h3 (hF vs _ h4)
theorem fq.levels {P:Program}{G:Ground}{f:FuncId}{own:List Bool}{F:Nat→List V→Option (V×List V)}{F':List V→Option (V×List V)}(h:∀n,fq P G f ⟨own,F n⟩)(hF:∀vs x,F' vs=some x→∃n,F n vs=some x):fq P G f ⟨own,F'⟩:=
 fun w ρ vs us r cV h1 h2 h3 h4=>let ⟨n,h5⟩:=hF vs _ h4;h n w ρ vs us r cV h1 h2 h3 h5
end
section
def Ox (P:Program)(t:TypeId):Option TI:=
 match P.info? t with
 | some i=>match P.underlying t,i.zero with
  | some d,some z=>some ⟨d,i.size,i.bytes,z⟩
  | _,_=>none
 | none=>none
def F6:List (FuncId×Ent)→FuncId→Option Ent
 | [],_=>none
 | (g,e)::l,f=>bif Nat.beq g f then some e else F6 l f
def LZ (P:Program)(fs:List (FuncId×Ent))(eqs:List TypeId:=[]):Env:=⟨Ox P,F6 fs,eqs⟩
theorem Lr {P:Program}{fs:List (FuncId×Ent)}{eqs:List TypeId}(hq:∀t∈eqs,P.stoodInHeld t=false):Agree P (LZ P fs eqs):=by
 have key:∀t ti,Ox P t=some ti→∃i,P.info? t=some i∧i.size=ti.size∧i.bytes=ti.bytes∧i.zero=some ti.zv∧P.underlying t=some ti.desc:=by
  intro t ti h
  unfold Ox at h
  split at h
  ·rename_i i hi
   split at h
   ·rename_i d z hd hz
    cases h
    exact⟨i,hi,rfl,rfl,hz,hd⟩
   ·cases h
  ·cases h
 refine⟨fun t ti h=>?_,fun t ti h=>?_,fun t h=>hq t (by simpa[LZ] using h)⟩
 ·obtain⟨i,h1,h2,h3,h4,_⟩:=key t ti h
  exact⟨i,h1,h2,h3,h4⟩
 ·obtain⟨i,_,_,_,_,h5⟩:=key t ti h
  exact h5
theorem NE {P:Program}{fs:List (FuncId×Ent)}:Agree P (LZ P fs):=Lr (by simp)
theorem DB {P:Program}{G:Ground}:∀{fs:List (FuncId×Ent)},(∀p∈fs,fq P G p.1 p.2)→∀f e,F6 fs f=some e→fq P G f e
 | [],_,f,e,h=>by simp[F6] at h
 | (g,x)::l,hg,f,e,h=>by
  simp only[F6,cond_eq_ite] at h
  split at h
  ·rename_i hb
   have:g=f:=Nat.eq_of_beq_eq_true hb
   subst this
   cases h
   exact hg (g,x) (by simp)
  ·exact DB (fun p hp=>hg p (List.mem_cons_of_mem _ hp)) f e h
def lk (d:V):List (Nat×V)→Nat→V
 | [],_=>d
 | (k,v)::l,t=>bif Nat.beq k t then v else lk d l t
def ay (d:V)(n:Nat)(l:List (Nat×V)):List V:=(List.range n).map (lk d l)
def gK (dst:Option Nat)(v:V)(l:List (Nat×V)):List (Nat×V):=
 match dst with
 | some t=>(t,v)::l
 | none=>l
def ig (d:V)(n:Nat)(l:List (Nat×V)):Operand→Option V
 | .tmp t=>bif Nat.ble (t+1) n then some (lk d l t) else none
 | .const v=>gU v
 | .func f=>some (.fn f [])
 | .global _=>none
def sx (d:V)(n:Nat)(l:List (Nat×V)):List Operand→Option (List V)
 | []=>some []
 | x::xs=>match ig d n l x,sx d n l xs with
  | some v,some vs=>some (v::vs)
  | _,_=>none
theorem gX {d:V}{n:Nat}{l:List (Nat×V)}{t:Nat}:(ay d n l)[t]?=if t<n then some (lk d l t) else none:=by
 unfold ay
 rw[List.getElem?_map]
 split
 ·rename_i h;rw[List.getElem?_range h];rfl
 ·rename_i h;rw[List.getElem?_eq_none (by simpa using h)];rfl
theorem kZ {d:V}{k:Nat}{v:V}{l:List (Nat×V)}{t:Nat}:lk d ((k,v)::l) t=if k=t then v else lk d l t:=by
 simp only[lk,cond_eq_ite]
 by_cases h:k=t
 ·subst h;simp
 ·have:Nat.beq k t=false:=by
   cases hb:Nat.beq k t with
   | false=>rfl
   | true=>exact absurd (Nat.eq_of_beq_eq_true hb) h
  simp[this,h]
theorem gt {d:V}{n:Nat}{l:List (Nat×V)}{dst:Option Nat}{v:V}:kf (ay d n l) dst v=ay d n (gK dst v l):=by
 cases dst with
 | none=>rfl
 | some t=>
  apply List.ext_getElem?
  intro i
  simp only[kf,gK]
  by_cases h:t=i
  ·subst h
   by_cases hn:t<n
   ·rw[List.getElem?_set_self (by simpa[ay] using hn),gX,if_pos hn,kZ,if_pos rfl]
   ·rw[List.getElem?_eq_none (by simpa[ay] using hn),gX,if_neg hn]
  ·rw[List.getElem?_set_ne h,gX,gX,kZ,if_neg h]
theorem gI {d:V}{n:Nat}{l:List (Nat×V)}{rt:ai}{nx:Nat}{x:Operand}:ev ⟨ay d n l,rt,nx⟩ x=ig d n l x:=by
 cases x with
 | tmp t=>
  simp only[ev,ig,gX,cond_eq_ite,Nat.ble_eq]
  rfl
 | _=>rfl
theorem vQ {d:V}{n:Nat}{l:List (Nat×V)}{rt:ai}{nx:Nat}:∀{xs:List Operand},gQ ⟨ay d n l,rt,nx⟩ xs=sx d n l xs
 | []=>rfl
 | x::xs=>by
  simp only[gQ,sx,gI,vQ]
  cases ig d n l x<;>cases sx d n l xs<;>rfl
def cL:Code→Code
 | .seq a _=>a
 | .cond _ a _=>a
 | .block _ b=>b
 | .loop b=>b
 | _=>.skip
def cR:Code→Code
 | .seq _ b=>b
 | .cond _ _ b=>b
 | _=>.skip
def cK:Code→Nat
 | .skip=>0
 | .region _ _ false=>1
 | .seq _ _=>2
 | .cond _ _ _=>3
 | .block _ _=>4
 | .loop _=>5
 | .exit _=>6
 | .ret=>7
 | .region _ _ true=>8
 | _=>9
def R6:Code→Array Oper
 | .region _ o _=>o
 | _=>#[]
def BA:Code→Operand
 | .cond x _ _=>x
 | _=>.const undef
def aY (fn:Func):Code:=fn.body.getD .skip
section
variable {E : Env} {m : Nat} {Q : St→Prop} {c : Code} {k k' : List It} {st : St}
theorem GL {b:Bool}(h:cK c=3)(hv:ev st (BA c)=some (.bool b))(h1:b=true→Run E m Q (.code (cL c)::k) st)(h2:b=false→Run E m Q (.code (cR c)::k) st):Run E m Q (.code c::k) st:=by
 cases c with
 | cond x a b'=>
  simp only[BA] at hv
  cases b with
  | true=>exact .step (by simp[jd,hv,cL]) (h1 rfl)
  | false=>exact .step (by simp[jd,hv,cR]) (h2 rfl)
 | region _ _ b=>cases b<;>cases h
 | _=>cases h
theorem ep (h:cK c=5)(r:Run E m Q (.code (cL c)::.lp (cL c)::k) st):Run E m Q (.code c::k) st:=by
 cases c with
 | loop b=>exact .step rfl r
 | region _ _ b=>cases b<;>cases h
 | _=>cases h
theorem bH (h:cK c=7)(hq:Q st):Run E m Q (.code c::k) st:=by
 cases c with
 | ret=>exact .step rfl (.done hq)
 | region _ _ b=>cases b<;>cases h
 | _=>cases h
theorem gN (ms:List Nat)(h:cK c=8)(hs:jU (R6 c) ms=true)(r:Run E m Q (.dops (R6 c) ms 0 []::k) st):Run E m Q (.code c::k) st:=by
 cases c with
 | region _ _ b=>cases b with
  | true=>exact .draw ms hs r
  | false=>cases h
 | _=>cases h
theorem fF (r:Run E m Q (.code c::.lp c::k) st):Run E m Q (.lp c::k) st:=.step rfl r
end
def oB (ops:Array Oper)(i:Nat):Option (Option Nat×Op):=
 match ops[i]? with
 | some ⟨d,o,_,_,_,none⟩=>some (d,o)
 | _=>none
def lP (ops:Array Oper)(i:Nat):Option (Option Nat×Op×Option Nat×Bool):=
 match ops[i]? with
 | some ⟨d,o,_,_,_,some (j,w)⟩=>some (d,o,(ops[j]?).bind (·.dst),w)
 | _=>none
theorem DP {ops:Array Oper}{i:Nat}{d:Option Nat}{o:Op}(h:oB ops i=some (d,o)):∃x,ops[i]?=some x∧x.dst=d∧x.op=o∧x.guard=none:=by
 unfold oB at h
 split at h
 ·rename_i d' o' a b c hx
  cases h
  exact⟨_,hx,rfl,rfl,rfl⟩
 ·cases h
theorem oZ {ops:Array Oper}{i:Nat}{d g:Option Nat}{o:Op}{w:Bool}(h:lP ops i=some (d,o,g,w)):∃x j,ops[i]?=some x∧x.dst=d∧x.op=o∧x.guard=some (j,w)∧(ops[j]?).bind (·.dst)=g:=by
 unfold lP at h
 split at h
 ·rename_i d' o' a b c j w' hx
  cases h
  exact⟨_,j,hx,rfl,rfl,rfl,rfl⟩
 ·cases h
def gd (v:V)(w:Bool):Option Bool:=
 match v with
 | .bool b=>some (b==w)
 | .und=>some false
 | _=>none
section
variable {E : Env} {m : Nat} {Q : St→Prop} {ops : Array Oper} {i : Nat} {is : List Nat} {k : List It} {d : V} {n : Nat} {l : List (Nat × V)} {rt rt' : ai} {nx : Nat} {dst : Option Nat} {op : Op} {v : V}
theorem D5 {x:Oper}(h:x.guard=none){st:St}:gS ops st x=some true:=by simp[gS,h]
theorem qn {x:Oper}{j t:Nat}{w b:Bool}(h:x.guard=some (j,w))(hj:(ops[j]?).bind (·.dst)=some t)(hn:t<n)(hb:gd (lk d l t) w=some b):gS ops ⟨ay d n l,rt,nx⟩ x=some b:=by
 simp only[gS,h,pV,hj,cm,gX,if_pos hn]
 unfold gd at hb
 split at hb
 ·rename_i b' hv
  rw[hv]
  cases hb
  cases b'<;>cases w<;>rfl
 ·rename_i hv
  rw[hv]
  cases hb
  cases w<;>rfl
 ·cases hb
theorem Sw (ho:oB ops i=some (dst,op))(hv:aX E nx ⟨ay d n l,rt,nx⟩ op=some (v,rt'))(r:Run E m Q (.ops ops is::k) ⟨ay d n (gK dst v l),rt',nx+16⟩):Run E m Q (.ops ops (i::is)::k) ⟨ay d n l,rt,nx⟩:=by
 obtain⟨x,h1,h2,h3,h4⟩:=DP ho
 refine .step (st':=⟨ay d n (gK dst v l),rt',nx+16⟩) ?_ r
 subst h2 h3
 simp[jd,fm,h1,D5 h4,hv,gt,bO]
theorem Th {t:Nat}{w:Bool}(ho:lP ops i=some (dst,op,some t,w))(hn:Nat.ble (t+1) n=true)(hg:gd (lk d l t) w=some true)(hv:aX E nx ⟨ay d n l,rt,nx⟩ op=some (v,rt'))(r:Run E m Q (.ops ops is::k) ⟨ay d n (gK dst v l),rt',nx+16⟩):Run E m Q (.ops ops (i::is)::k) ⟨ay d n l,rt,nx⟩:=by
 obtain⟨x,j,h1,h2,h3,h4,h5⟩:=oZ ho
 refine .step (st':=⟨ay d n (gK dst v l),rt',nx+16⟩) ?_ r
 subst h2 h3
 simp[jd,fm,h1,qn (rt:=rt) (nx:=nx) h4 h5 (Nat.le_of_ble_eq_true hn) hg,hv,gt,bO]
theorem Sx {t:Nat}{w:Bool}(ho:lP ops i=some (dst,op,some t,w))(hn:Nat.ble (t+1) n=true)(hg:gd (lk d l t) w=some false)(r:Run E m Q (.ops ops is::k) ⟨ay d n (gK dst .und l),rt,nx+16⟩):Run E m Q (.ops ops (i::is)::k) ⟨ay d n l,rt,nx⟩:=by
 obtain⟨x,j,h1,h2,h3,h4,h5⟩:=oZ ho
 refine .step (st':=⟨ay d n (gK dst .und l),rt,nx+16⟩) ?_ r
 subst h2 h3
 simp[jd,fm,h1,qn (rt:=rt) (nx:=nx) h4 h5 (Nat.le_of_ble_eq_true hn) hg,gt,bO]
variable {ms R W : List Nat} {log : mc}
theorem R7 (ho:oB ops i=some (dst,op))(hv:aX E (nx+16*i) ⟨ay d n l,rt,nx⟩ op=some (v,rt'))(hR:fS ⟨ay d n l,rt,nx⟩ op=R)(hW:hI E ⟨ay d n l,rt,nx⟩ op=W)(hc:oG nx ms i R W log=true)(r:Run E m Q (.dops ops ms (i+1) ((i,R,W)::log)::k) ⟨ay d n (gK dst v l),rt',nx⟩):Run E m Q (.dops ops ms i log::k) ⟨ay d n l,rt,nx⟩:=by
 obtain⟨x,h1,h2,h3,h4⟩:=DP ho
 refine .dop (log':=(i,R,W)::log) (st':=⟨ay d n (gK dst v l),rt',nx⟩) ?_ r
 subst h2 h3 hR hW
 simp[mw,fm,h1,D5 h4,hv,gt,bO,hc]
theorem S8 {t:Nat}{w:Bool}(ho:lP ops i=some (dst,op,some t,w))(hn:Nat.ble (t+1) n=true)(hg:gd (lk d l t) w=some true)(hv:aX E (nx+16*i) ⟨ay d n l,rt,nx⟩ op=some (v,rt'))(hR:fS ⟨ay d n l,rt,nx⟩ op=R)(hW:hI E ⟨ay d n l,rt,nx⟩ op=W)(hc:oG nx ms i R W log=true)(r:Run E m Q (.dops ops ms (i+1) ((i,R,W)::log)::k) ⟨ay d n (gK dst v l),rt',nx⟩):Run E m Q (.dops ops ms i log::k) ⟨ay d n l,rt,nx⟩:=by
 obtain⟨x,j,h1,h2,h3,h4,h5⟩:=oZ ho
 refine .dop (log':=(i,R,W)::log) (st':=⟨ay d n (gK dst v l),rt',nx⟩) ?_ r
 subst h2 h3 hR hW
 simp[mw,fm,h1,qn (rt:=rt) (nx:=nx) h4 h5 (Nat.le_of_ble_eq_true hn) hg,hv,gt,bO,hc]
theorem R8 {t:Nat}{w:Bool}(ho:lP ops i=some (dst,op,some t,w))(hn:Nat.ble (t+1) n=true)(hg:gd (lk d l t) w=some false)(hc:oG nx ms i [] [] log=true)(r:Run E m Q (.dops ops ms (i+1) ((i,[],[])::log)::k) ⟨ay d n (gK dst .und l),rt,nx⟩):Run E m Q (.dops ops ms i log::k) ⟨ay d n l,rt,nx⟩:=by
 obtain⟨x,j,h1,h2,h3,h4,h5⟩:=oZ ho
 refine .dop (log':=(i,[],[])::log) (st':=⟨ay d n (gK dst .und l),rt,nx⟩) ?_ r
 subst h2 h3
 simp[mw,fm,h1,qn (rt:=rt) (nx:=nx) h4 h5 (Nat.le_of_ble_eq_true hn) hg,gt,bO,hc]
theorem S7 (h:Nat.ble ops.size i=true)(r:Run E m Q k ⟨ay d n l,rt,nx+16*ops.size⟩):Run E m Q (.dops ops ms i log::k) ⟨ay d n l,rt,nx⟩:=.dend (Nat.le_of_ble_eq_true h) r
theorem Qv {b:Bool}(t:Nat)(ht:lk d l t=.bool b){todo:List It}(h1:b=true→Run E m Q todo ⟨ay d n ((t,.bool true)::l),rt,nx⟩)(h2:b=false→Run E m Q todo ⟨ay d n ((t,.bool false)::l),rt,nx⟩):Run E m Q todo ⟨ay d n l,rt,nx⟩:=by
 have e:∀x,lk d l t=x→ay d n ((t,x)::l)=ay d n l:=by
  rintro x rfl
  apply List.ext_getElem?
  intro j
  rw[gX,gX,kZ]
  split
  ·split
   ·rename_i h;rw[h]
   ·rfl
  ·rfl
 cases b with
 | true=>rw[←e _ ht];exact h1 rfl
 | false=>rw[←e _ ht];exact h2 rfl
end
end
section
def str (s:List UInt8):V:=.str ⟨s.toArray⟩
theorem CX {s:List UInt8}:(ByteArray.mk s.toArray).size=s.length:=by simp[ByteArray.size]
section
variable {E : Env} {d : V} {n : Nat} {l : List (Nat × V)} {rt rt' : ai} {id : Nat} {a b v z pv xv : V} {x y p c : Operand} {t t' : TypeId}
theorem ia {nx:Nat}{op:BinOp}(hx:ig d n l x=some a)(hy:ig d n l y=some b)(h:qs E op t a b (nJ x||nJ y)=some v):aX E id ⟨ay d n l,rt,nx⟩ (.binOp op t x y t')=some (v,rt):=by simp[aX,gI,hx,hy,h]
theorem Sb {nx:Nat}(hx:ig d n l x=some a)(h:qc E rt t t' a=some v):aX E id ⟨ay d n l,rt,nx⟩ (.convert t t' x)=some (v,rt):=by simp[aX,gI,hx,h]
theorem Sc {nx:Nat}{ti:TI}{cs:List V}(hp:ig d n l p=some pv)(ht:E.ty t=some ti)(hc:jE rt pv=some cs)(hs:0<ti.size∧ti.size≤cs.length)(h:jH (eH ti.desc) (cs.take ti.size)=some v):aX E id ⟨ay d n l,rt,nx⟩ (.load t p)=some (v,rt):=by
 simp only[aX,gI,hp,ht,hc,cm]
 rw[if_pos hs,h];rfl
theorem P5 {nx:Nat}(hp:ig d n l p=some pv)(hx:ig d n l x=some xv)(h:mP E rt t pv xv=some rt'):aX E id ⟨ay d n l,rt,nx⟩ (.store t p x)=some (.und,rt'):=by simp[aX,gI,hp,hx,h]
def Tn (rt:ai)(fl:Nat×Nat×Bool):V→Option V
 | .iptr e k=>if 0<fl.2.1∧k+fl.1<(cells e).length then some (.iptr e (k+fl.1)) else none
 | .hp o nv p sz i k=>if 0<fl.2.1∧k+fl.1<sz∧(bD rt o nv p).isSome then some (.hp o nv p sz i (k+fl.1)) else none
 | _=>none
theorem bn {nx:Nat}{f:Nat}{fl:Nat×Nat×Bool}(hx:ig d n l x=some xv)(hf:fieldAt? E t f=some fl)(h:Tn rt fl xv=some v):aX E id ⟨ay d n l,rt,nx⟩ (.fieldAddr t x f)=some (v,rt):=by
 simp only[aX,gI,hx,hf,cm]
 unfold Tn at h
 split at h
 ·split at h<;>cases h
  rename_i hc
  simp only;rw[if_pos hc]
 ·split at h<;>cases h
  rename_i hc
  simp only;rw[if_pos hc]
 ·cases h
theorem aJ {nx:Nat}{k:IntKind}{i:Int}(hx:ig d n l x=some xv)(hi:ig d n l y=some (.int k i))(ha:kV rt xv=true)(h:iE E t xv i=some v):aX E id ⟨ay d n l,rt,nx⟩ (.indexAddr t x y)=some (v,rt):=by
 simp only[aX,gI,hx,hi,cm]
 rw[if_pos ha,h];rfl
theorem iD {nx:Nat}{k:IntKind}{i:Int}(hx:ig d n l x=some xv)(hi:ig d n l y=some (.int k i))(h:Ge E t xv i=some v):aX E id ⟨ay d n l,rt,nx⟩ (.index t x y)=some (v,rt):=by simp[aX,gI,hx,hi,h]
def Tp (rt:ai):V→Bool
 | .hp o nv p _ _ _=>(bD rt o nv p).isSome
 | .iptr _ _=>true
 | _=>false
theorem kW {nx:Nat}(hx:ig d n l x=some v)(h:Tp rt v=true):aX E id ⟨ay d n l,rt,nx⟩ (.nilCheck x)=some (v,rt):=by
 simp only[aX,gI,hx,cm]
 unfold Tp at h
 split at h
 ·simp only;rw[if_pos h]
 ·rfl
 ·cases h
def O2 (d:V)(n:Nat)(l:List (Nat×V)):Option Operand→Option (Option V)
 | some x=>(ig d n l x).map some
 | none=>some none
theorem R4 {nx:Nat}{x:Option Operand}:mA ⟨ay d n l,rt,nx⟩ x=O2 d n l x:=by
 cases x with
 | none=>rfl
 | some x=>simp[mA,O2,gI]
theorem fi {nx:Nat}{lo hi:Option Operand}{lv hv:Option V}(hx:ig d n l x=some xv)(h1:O2 d n l lo=some lv)(h2:O2 d n l hi=some hv)(ha:kV rt xv=true)(h:jS E rt t xv lv hv=some v):aX E id ⟨ay d n l,rt,nx⟩ (.slice t x lo hi none)=some (v,rt):=by
 simp only[aX,gI,hx,R4,h1,h2,cm]
 rw[if_pos ha,h];rfl
theorem eX {nx:Nat}{ts:Array TypeId}(hx:ig d n l x=some xv)(ht:ts[0]?=some t)(ha:kV rt xv=true)(h:qy (E.desc t) xv=some v):aX E id ⟨ay d n l,rt,nx⟩ (.call { callee:=.builtin .len,args:=#[x],argTypes:=ts })=some (v,rt):=by
 simp only[aX,lw,gQ,gI,hx,cm,Option.map_some,eU]
 rw[if_pos ha,ht];simp[h]
theorem kD {nx:Nat}{ts:Array TypeId}(hx:ig d n l x=some a)(hy:ig d n l y=some b)(ht:ts[0]?=some t)(ht1:ts[1]?=some t')(hs:fC (E.desc t')=true)(h:jX E rt id t a b=some (v,rt')):aX E id ⟨ay d n l,rt,nx⟩ (.call { callee:=.builtin .append,args:=#[x,y],argTypes:=ts })=some (v,rt'):=by
 simp only[aX,lw,gQ,gI,hx,hy,cm,Option.map_some,eU,ht,ht1]
 rw[if_pos hs,h]
def Mb (d:V)(n:Nat)(l:List (Nat×V)):List (Nat×Operand)→Option (List (Nat×V))
 | []=>some []
 | (i,x)::xs=>match ig d n l x,Mb d n l xs with
  | some v,some vs=>some ((i,v)::vs)
  | _,_=>none
theorem Mc {nx:Nat}:∀{xs:List (Nat×Operand)},fj ⟨ay d n l,rt,nx⟩ xs=Mb d n l xs
 | []=>rfl
 | (i,x)::xs=>by
  simp only[fj,Mb,gI,Mc]
  cases ig d n l x<;>cases Mb d n l xs<;>rfl
def R5 (E:Env)(rt:ai)(id:Nat)(t:TypeId)(n:Nat)(ps:List (Nat×V)):Option (V×ai):=
 match E.ty t with
  | some { desc:=.slice e,.. }=>(E.ty e).bind fun ei=>(gU ei.zv).bind fun z=>
   if n*ei.size≤16777216∧0<ei.size∧(cells z).length=ei.size∧al z=eH ei.desc then
    (js ei.size (eH ei.desc) (List.replicate n z) ps).bind fun es=>(du rt es).map fun y=>(.hs id 0 [] ei.size 0 n,upd y.2 id (some ⟨0,ei.size,y.1⟩))
   else none
  | _=>none
theorem cf {nx k:Nat}{ps:Array (Nat×Operand)}{pvs:List (Nat×V)}{r:V×ai}(hx:Mb d n l ps.toList=some pvs)(h:R5 E rt id t k pvs=some r):aX E id ⟨ay d n l,rt,nx⟩ (.buildSlice t k ps)=some r:=by
 simp only[aX,Mc,hx,cm]
 exact h
def L3 (E:Env)(rt:ai)(id:Nat)(t:TypeId)(l c:Int):Option (V×ai):=
 match E.ty t with
  | some { desc:=.slice e,.. }=>(E.ty e).bind fun ei=>(gU ei.zv).bind fun z=>
   if 0≤l∧l≤c∧c*ei.bytes≤mF∧c≤mF∧0<ei.size∧(cells z).length=ei.size∧al z=eH ei.desc then
    some (.hs id 0 [] ei.size 0 l.toNat,upd rt id (some ⟨0,ei.size,List.replicate l.toNat z⟩)) else none
  | _=>none
theorem Hb {nx:Nat}{k j:Int}{r:V×ai}(hx:ig d n l x=some (.int .i64 k))(hy:ig d n l y=some (.int .i64 j))(h:L3 E rt id t k j=some r):aX E id ⟨ay d n l,rt,nx⟩ (.makeSlice t x y)=some r:=by
 simp only[aX,gI,hx,hy,cm]
 unfold L3 at h
 split at h
 ·rename_i e sz bt zv htt
  simp only[htt]
  exact h
 ·cases h
theorem aH {nx:Nat}{f:FuncId}{xs:Array Operand}{ts:Array TypeId}{caps args:List V}{fo:Operand}{r:V×ai}(hf:ig d n l fo=some (.fn f caps))(hx:sx d n l xs.toList=some args)(h:jB E rt id f (args++caps)=some r) :
  aX E id ⟨ay d n l,rt,nx⟩ (.call { callee:=.value fo,args:=xs,argTypes:=ts })=some r:=by
 simp[aX,lw,gI,vQ,hx,hf,h]
theorem FP {rt:ai}{id:Nat}:dU rt id []=rt:=by
 funext o
 unfold dU
 rw[if_neg (by simp)]
end
end
section
abbrev I (x:Int):V:=.int .i64 x
abbrev B (b:Bool):V:=.bool b
def fa:List (Nat×Option Root)→Nat→Option Root
 | [],_=>none
 | (k,r)::l,o=>bif Nat.beq k o then r else fa l o
def bp (l:List (Nat×Option Root)):ai:=fa l
theorem jG {k:Nat}{r:Option Root}{l:List (Nat×Option Root)}{o:Nat}:fa ((k,r)::l) o=if k=o then r else fa l o:=by
 simp only[fa,cond_eq_ite]
 by_cases h:k=o
 ·subst h;simp
 ·have:Nat.beq k o=false:=by
   cases hb:Nat.beq k o with
   | false=>rfl
   | true=>exact absurd (Nat.eq_of_beq_eq_true hb) h
  simp[this,h]
theorem jV {l:List (Nat×Option Root)}{o:Nat}{r:Option Root}:upd (bp l) o r=bp ((o,r)::l):=by
 funext x
 simp only[upd,bp,jG]
 by_cases h:x=o
 ·subst h;simp
 ·rw[if_neg h,if_neg (fun h'=>h h'.symm)]
def nN (id:Nat):List (Nat×Nat×Root)→List (Nat×Option Root)
 | []=>[]
 | (_,_,r)::R=>(id,some r)::nN (id+1) R
theorem nG {l:List (Nat×Option Root)}:∀{R:List (Nat×Nat×Root)} {id:Nat},dU (bp l) id R=bp (nN id R++l)
 | [],id=>by rw[FP];rfl
 | (a,k,r)::R,id=>by
  have ih:=@nG l R (id+1)
  funext o
  have h:=congrFun ih o
  simp only[dU,List.length_cons] at h ⊢
  simp only[nN,List.cons_append,bp,jG]
  by_cases ho:id=o
  ·subst ho
   simp
  ·rw[if_neg ho]
   simp only[bp] at h
   rw[←h]
   by_cases hr:id+1≤o∧o<id+1+R.length
   ·rw[if_pos hr,if_pos (by omega),show o - id=(o - (id+1))+1 by omega,List.getElem?_cons_succ]
   ·rw[if_neg hr,if_neg (by omega)]
theorem sY {tm tm':List V}{rt rt':ai}{nx nx':Nat}(h1:tm=tm')(h2:rt=rt')(h3:nx=nx'):(⟨tm,rt,nx⟩:St)=⟨tm',rt',nx'⟩:=by rw[h1,h2,h3]
theorem NP {fn:Func}{vs ys:List V}{R:List (Nat×Nat×Root)}(h:bh 1 0 vs=(ys,R)){n:Nat}{l:List (Nat×V)}(hn:ys++List.replicate (fn.ntmps - vs.length) .und=ay .und n l){nx:Nat}(hx:1+R.length=nx):(enter fn vs).2=⟨ay .und n l,bp (nN 1 R),nx⟩:=by
 unfold enter
 rw[h]
 refine sY hn ?_ hx
 have:=@nG [] R 1
 rw[List.append_nil] at this
 rw[←this]
 rfl
theorem pQ {E:Env}{m:Nat}{Q:St→Prop}{k:List It}{st st':St}(h:st=st')(r:Run E m Q k st'):Run E m Q k st:=h▸r
def qr (n:Nat):Nat→List Nat→Bool
 | _,[]=>true
 | lo,x::xs=>Nat.ble lo x&&Nat.ble (x+1) n&&qr n (x+1) xs
theorem vb {L:List Nat}{f:Nat→V}:∀{n a:Nat},fM L a ((List.range' a n).map f)=(List.range' a n).map fun t=>if L.contains t then f t else .dead
 | 0,a=>rfl
 | n+1,a=>by
  simp only[List.range'_succ,List.map_cons,fM]
  rw[vb (n:=n) (a:=a+1)]
theorem oX {d:V}{n:Nat}{l:List (Nat×V)}:ay d n l=(List.range' 0 n).map (lk d l):=by
 unfold ay
 rw[List.range_eq_range']
theorem sD {f:Nat→V}:∀{n a lo:Nat} {L:List Nat},lo≤a→qr (a+n) lo L=true→(∀x∈L,a≤x)→dS ((List.range' a n).map fun t=>if L.contains t then f t else .dead)=dS (L.map f)
 | 0,a,lo,L,hlo,h,hl=>by
  cases L with
  | nil=>rfl
  | cons x L=>
   simp only[qr,Bool.and_eq_true,Nat.ble_eq] at h
   have:=hl x (by simp)
   omega
 | n+1,a,lo,L,hlo,h,hl=>by
  simp only[List.range'_succ,List.map_cons,dS]
  cases L with
  | nil=>
   have ih:=@sD f n (a+1) 0 [] (by omega) rfl (by simp)
   simp only[List.contains_nil,Bool.false_eq_true,if_false,di,List.nil_append,List.map_nil,dS] at ih ⊢
   exact ih
  | cons x L=>
   simp only[qr,Bool.and_eq_true,Nat.ble_eq] at h
   obtain⟨⟨h1,h2⟩,h3⟩:=h
   have hax:=hl x (by simp)
   have asc_ge:∀{L:List Nat} {lo:Nat},qr (a+(n+1)) lo L=true→∀y∈L,lo≤y:=by
    intro L
    induction L with
    | nil=>intro lo _ y hy;cases hy
    | cons z L ih=>
     intro lo h y hy
     simp only[qr,Bool.and_eq_true,Nat.ble_eq] at h
     rcases List.mem_cons.1 hy with rfl | hy
     ·exact h.1.1
     ·have:=ih h.2 y hy;omega
   have hge:=asc_ge h3
   by_cases hx:a=x
   ·subst hx
    have e1:(a::L).contains a=true:=by simp
    rw[if_pos e1]
    simp only[List.map_cons,dS]
    congr 1
    have ih:=@sD f n (a+1) (a+1) L (by omega) (by rw[show a+1+n=a+(n+1) by omega];exact h3) hge
    rw[←ih]
    congr 1
    apply List.map_congr_left
    intro t ht
    have hta:a+1≤t:=(List.mem_range'_1.1 ht).1
    have:(a::L).contains t=L.contains t:=by
     simp only[List.contains_cons]
     have:(t==a)=false:=by simp;omega
     rw[this,Bool.false_or]
    rw[this]
   ·have e1:¬(x::L).contains a=true:=by
     simp only[List.contains_eq_mem,decide_eq_true_eq,List.mem_cons,not_or]
     exact⟨hx,fun hm=>by have:=hge a hm;omega⟩
    rw[if_neg e1]
    simp only[di,List.nil_append]
    exact @sD f n (a+1) (a+1) (x::L) (Nat.le_refl _) (by
     simp only[qr,Bool.and_eq_true,Nat.ble_eq]
     rw[show a+1+n=a+(n+1) by omega]
     exact⟨⟨by omega,h2⟩,h3⟩) (fun y hy=>by
     rcases List.mem_cons.1 hy with rfl | hy
     ·omega
     ·have:=hge y hy;omega)
theorem Jw {d:V}{g:Nat→V}:∀{L:List Nat} {t:Nat},lk d (L.map fun t=>(t,g t)) t=if L.contains t then g t else d
 | [],t=>rfl
 | x::L,t=>by
  simp only[List.map_cons,kZ,List.contains_cons]
  rw[Jw]
  by_cases h:x=t
  ·subst h;simp
  ·have:(t==x)=false:=by simp;exact fun h'=>h h'.symm
   rw[if_neg h,this,Bool.false_or]
def tg:List Root→Nat→List (Nat×Option Root)
 | [],_=>[]
 | r::rs,i=>(i,some ⟨0,r.s,r.es⟩)::tg rs (i+1)
theorem Ie:∀{rs:List Root} {i o:Nat},fa (tg rs i) o=if i≤o then (rs[o - i]?).map fun r=>⟨0,r.s,r.es⟩ else none
 | [],i,o=>by simp[tg,fa]
 | r::rs,i,o=>by
  simp only[tg,jG]
  rw[Ie]
  by_cases h:i=o
  ·subst h;simp
  ·rw[if_neg h]
   by_cases hle:i≤o
   ·rw[if_pos (by omega),if_pos hle,show o - i=(o - (i+1))+1 by omega,List.getElem?_cons_succ]
   ·rw[if_neg (by omega),if_neg hle]
theorem JD {E:Env}{m:Nat}{Q:St→Prop}{k:List It}{d:V}{n:Nat}{l:List (Nat×V)}{rt:ai}{nx:Nat}(L os:List Nat)(rs:List Root)(ha:qr n 0 L=true)(hos:mX (iz m) (dS (L.map (lk d l)))=os)(hrs:os.map rt=rs.map some)(hk:ly k=true)(r:Run E m Q k ⟨ay .dead n (L.map fun t=>(t,eT rt os (lk d l t))),bp (tg rs 1),os.length+1⟩):Run E m Q k ⟨ay d n l,rt,nx⟩:=by
 refine .forget L hk (pQ ?_ r)
 have hkeep:fM L 0 (ay d n l)=(List.range' 0 n).map fun t=>if L.contains t then lk d l t else .dead:=by rw[oX,vb]
 have hi:dS (fM L 0 (ay d n l))=dS (L.map (lk d l)):=by
  rw[hkeep]
  exact sD (lo:=0) (Nat.le_refl _) (by rw[Nat.zero_add];exact ha) (fun _ _=>Nat.zero_le _)
 unfold mJ
 simp only[hi,hos]
 refine sY ?_ ?_ rfl
 ·rw[hkeep,fE,List.map_map,oX]
  apply List.map_congr_left
  intro t _
  simp only[Function.comp]
  rw[Jw]
  split
  ·rfl
  ·rfl
 ·funext o
  simp only[uU,bp]
  rw[Ie]
  by_cases h0:o=0
  ·subst h0;simp
  ·rw[if_neg h0,if_pos (by omega)]
   have h1:=congrArg (fun l:List (Option Root)=>l[o - 1]?) hrs
   simp only[List.getElem?_map] at h1 ⊢
   cases ho:os[o - 1]? with
   | none=>
    simp only[ho,Option.map_none] at h1
    cases hr:rs[o - 1]? with
    | none=>rfl
    | some r=>simp[hr] at h1
   | some x=>
    simp only[ho,Option.map_some] at h1
    cases hr:rs[o - 1]? with
    | none=>simp[hr] at h1
    | some r=>
     simp only[hr,Option.map_some,Option.some.injEq] at h1
     simp[h1]
end
section
def Le {α β:Type}(f g:α→Option β):Prop:=∀a b,f a=some b→g a=some b
def I6 {α β γ:Type}(e:(α→Option β)→Option γ):Prop:=∀f g,Le f g→∀r,e f=some r→e g=some r
def gi {α β:Type}(F:(α→Option β)→α→Option β):Nat→α→Option β
 | 0,_=>none
 | k+1,a=>F (gi F k) a
noncomputable def aE {α β:Type}(F:(α→Option β)→α→Option β)(a:α):Option β:=
 open Classical in if h : ∃ r k,gi F k a=some r then some h.choose else none
section
variable {α β : Type} {F : (α→Option β)→α→Option β} (hF : ∀ a,I6 fun f=>F f a)
include hF
theorem uZ:∀k,Le (gi F k) (gi F (k+1))
 | 0,_,_,h=>by cases h
 | k+1,a,b,h=>hF a _ _ (uZ k) b h
theorem HU {k j:Nat}(h:k≤j):Le (gi F k) (gi F j):=by
 induction h with
 | refl=>exact fun _ _ h=>h
 | step _ ih=>exact fun a b h=>uZ hF _ a b (ih a b h)
theorem N6 {k j:Nat}{a:α}{r r':β}(h:gi F k a=some r)(h':gi F j a=some r'):r=r':=by
 rcases Nat.le_total k j with hk | hk
 ·have:=HU hF hk a r h
  rw[h'] at this
  cases this;rfl
 ·have:=HU hF hk a r' h'
  rw[h] at this
  cases this;rfl
theorem iU {a:α}{r:β}:aE F a=some r↔∃k,gi F k a=some r:=by
 unfold aE
 constructor
 ·intro h
  split at h
  ·rename_i hh
   cases h
   exact hh.choose_spec
  ·cases h
 ·rintro⟨k,hk⟩
  have hh:∃r k,gi F k a=some r:=⟨r,k,hk⟩
  rw[dif_pos hh]
  obtain⟨j,hj⟩:=hh.choose_spec
  rw[N6 hF hj hk]
theorem N7 (k:Nat):Le (gi F k) (aE F):=fun a b h=>(iU hF).2 ⟨k,h⟩
theorem P7 (hc:∀(f:α→Option β) (g:Nat→α→Option β),(∀k,Le (g k) (g (k+1)))→(∀a b,f a=some b→∃k,g k a=some b)→∀a r,F f a=some r→∃k,F (g k) a=some r)(a:α):aE F a=F (aE F) a:=by
 have h1:∀r,aE F a=some r→F (aE F) a=some r:=fun r h=>by
  obtain⟨k,hk⟩:=(iU hF).1 h
  cases k with
  | zero=>cases hk
  | succ k=>exact hF a _ _ (N7 hF k) r hk
 have h2:∀r,F (aE F) a=some r→aE F a=some r:=fun r h=>by
  obtain⟨k,hk⟩:=hc (aE F) (gi F) (uZ hF) (fun a b h=>(iU hF).1 h) a r h
  exact (iU hF).2 ⟨k+1,hk⟩
 cases h:aE F a with
 | none=>
  cases h':F (aE F) a with
  | none=>rfl
  | some r=>rw[h2 r h'] at h;cases h
 | some r=>rw[h1 r h]
theorem NS {P:α→β→Prop}(hs:∀f:α→Option β,(∀a b,f a=some b→P a b)→∀a b,F f a=some b→P a b){a:α}{r:β}(h:aE F a=some r):P a r:=by
 obtain⟨k,hk⟩:=(iU hF).1 h
 clear h
 induction k generalizing a r with
 | zero=>cases hk
 | succ k ih=>exact hs (gi F k) (fun a b h=>ih h) a r hk
end
structure Fin1 {α β γ:Type} (e:(α→Option β)→Option γ):Prop where
 mono:I6 e
 cont:∀(f:α→Option β) (g:Nat→α→Option β),(∀k,Le (g k) (g (k+1)))→(∀a b,f a=some b→∃k,g k a=some b)→∀r,e f=some r→∃k,e (g k)=some r
theorem FY {α β:Type}{g:Nat→α→Option β}(hg:∀k,Le (g k) (g (k+1))){k j:Nat}(h:k≤j):Le (g k) (g j):=by
 induction h with
 | refl=>exact fun _ _ h=>h
 | step _ ih=>exact fun a b h=>hg _ a b (ih a b h)
variable {α β γ δ ε : Type}
theorem bz {e:Option γ}:Fin1 (fun _:α→Option β=>e):=⟨fun _ _ _ _ h=>h,fun _ _ _ _ _ h=>⟨0,h⟩⟩
theorem cu {a:α}:Fin1 (fun f:α→Option β=>f a):=⟨fun _ _ h r e=>h a r e,fun _ _ _ h r e=>h a r e⟩
theorem bZ {e:(α→Option β)→Option γ}{k:(α→Option β)→γ→Option δ}(he:Fin1 e)(hk:∀y,Fin1 fun f=>k f y):Fin1 fun f=>(e f).bind (k f):=by
 refine⟨fun f g hfg r h=>?_,fun f g hg hfg r h=>?_⟩
 ·obtain⟨y,h1,h2⟩:=aG.1 h
  exact aG.2 ⟨y,he.mono f g hfg y h1,(hk y).mono f g hfg r h2⟩
 ·obtain⟨y,h1,h2⟩:=aG.1 h
  obtain⟨k1,q1⟩:=he.cont f g hg hfg y h1
  obtain⟨k2,q2⟩:=(hk y).cont f g hg hfg r h2
  exact⟨max k1 k2,aG.2 ⟨y,he.mono _ _ (FY hg (Nat.le_max_left _ _)) _ q1,(hk y).mono _ _ (FY hg (Nat.le_max_right _ _)) _ q2⟩⟩
theorem cE {c:Bool}{a b:(α→Option β)→Option γ}(ha:Fin1 a)(hb:Fin1 b):Fin1 fun f=>bif c then a f else b f:=by
 cases c
 ·exact hb
 ·exact ha
def bI {ρ υ:Type}(e:Option (ρ⊕υ))(k:υ→Option ρ):Option ρ:=
 e.bind fun x=>match x with
  | .inl r=>some r
  | .inr u=>k u
def ci {ρ υ ω:Type}(e:Option (ρ⊕υ))(k:υ→Option (ρ⊕ω)):Option (ρ⊕ω):=
 e.bind fun x=>match x with
  | .inl r=>some (.inl r)
  | .inr u=>k u
theorem ca {ρ υ:Type}{e:(α→Option β)→Option (ρ⊕υ)}{k:(α→Option β)→υ→Option ρ}(he:Fin1 e)(hk:∀y,Fin1 fun f=>k f y):Fin1 fun f=>bI (e f) (k f):=
 bZ he fun x=>match x with
  | .inl r=>bz
  | .inr u=>hk u
theorem cb {ρ υ ω:Type}{e:(α→Option β)→Option (ρ⊕υ)}{k:(α→Option β)→υ→Option (ρ⊕ω)}(he:Fin1 e)(hk:∀y,Fin1 fun f=>k f y):Fin1 fun f=>ci (e f) (k f):=
 bZ he fun x=>match x with
  | .inl r=>bz
  | .inr u=>hk u
def d4 {α β:Type}(x:α)(k:α→β):β:=k x
theorem cF {x:γ}{k:(α→Option β)→γ→Option δ}(hk:∀y,Fin1 fun f=>k f y):Fin1 fun f=>d4 x (k f):=hk x
theorem lJ {γ δ:Type}{x:γ}{k:γ→δ}{r:δ}(h:d4 x k=r):∃p,x=p∧k p=r:=⟨x,rfl,h⟩
@[simp] theorem ef {α β:Type}{x:α}{k:α→β}:d4 x k=k x:=rfl
theorem bJ {ρ υ:Type}{e:Option (ρ⊕υ)}{k:υ→Option ρ}{r:ρ}(h:bI e k=some r):∃y,e=some y∧(∀r',y=.inl r'→r'=r)∧∀u,y=.inr u→k u=some r:=by
 obtain⟨y,h1,h2⟩:=aG.1 h
 refine⟨y,h1,?_,?_⟩
 ·rintro r' rfl;exact Option.some.inj h2
 ·rintro u rfl;exact h2
theorem bL {ρ υ ω:Type}{e:Option (ρ⊕υ)}{k:υ→Option (ρ⊕ω)}{y0:ρ⊕ω}(h:ci e k=some y0):∃y,e=some y∧(∀r',y=.inl r'→y0=.inl r')∧∀u,y=.inr u→k u=some y0:=by
 obtain⟨y,h1,h2⟩:=aG.1 h
 refine⟨y,h1,?_,?_⟩
 ·rintro r' rfl;exact (Option.some.inj h2).symm
 ·rintro u rfl;exact h2
@[simp] theorem Tl {ρ υ:Type}{r:ρ}{k:υ→Option ρ}:bI (some (.inl r)) k=some r:=rfl
@[simp] theorem bN {ρ υ:Type}{u:υ}{k:υ→Option ρ}:bI (some (.inr u)) k=k u:=rfl
@[simp] theorem Tm {ρ υ ω:Type}{r:ρ}{k:υ→Option (ρ⊕ω)}:ci (some (.inl r)) k=some (.inl r):=rfl
@[simp] theorem gG {ρ υ ω:Type}{u:υ}{k:υ→Option (ρ⊕ω)}:ci (some (.inr u)) k=k u:=rfl
theorem cU {F:(α→Option β)→α→Option β}(hF:∀a,Fin1 fun f=>F f a)(a:α):aE F a=F (aE F) a:=
 P7 (fun a=>(hF a).mono) (fun f g h1 h2 a r h=>(hF a).cont f g h1 h2 r h) a
theorem P8 {F:(α→Option β)→α→Option β}(hF:∀a,Fin1 fun f=>F f a){P:α→β→Prop}(hs:∀f:α→Option β,(∀a b,f a=some b→P a b)→∀a b,F f a=some b→P a b){a:α}{r:β}(h:aE F a=some r):P a r:=
 NS (fun a=>(hF a).mono) hs h
section
variable {α β γ δ ε : Type}
def fL (h:α⊕γ→Option (β⊕δ))(a:α):Option β:=(h (.inl a)).bind fun x=>match x with
 | .inl b=>some b
 | .inr _=>none
def fR (h:α⊕γ→Option (β⊕δ))(c:γ):Option δ:=(h (.inr c)).bind fun x=>match x with
 | .inl _=>none
 | .inr d=>some d
def jn (f:α→Option β)(g:γ→Option δ):α⊕γ→Option (β⊕δ)
 | .inl a=>(f a).map .inl
 | .inr c=>(g c).map .inr
theorem E0 {f:α→Option β}{g:γ→Option δ}:fL (jn f g)=f:=by
 funext a
 simp only[fL,jn]
 cases f a<;>rfl
theorem E1 {f:α→Option β}{g:γ→Option δ}:fR (jn f g)=g:=by
 funext a
 simp only[fR,jn]
 cases g a<;>rfl
theorem O7 {f f':α→Option β}{g g':γ→Option δ}(hf:Le f f')(hg:Le g g'):Le (jn f g) (jn f' g'):=by
 rintro (a | c) b h
 ·obtain⟨x,h1,rfl⟩:=aI.1 h
  simp[jn,hf a x h1]
 ·obtain⟨x,h1,rfl⟩:=aI.1 h
  simp[jn,hg c x h1]
theorem jY {a:α}:Fin1 fun h:α⊕γ→Option (β⊕δ)=>fL h a:=bZ cu fun x=>bz
theorem mg {c:γ}:Fin1 fun h:α⊕γ→Option (β⊕δ)=>fR h c:=bZ cu fun x=>bz
theorem iT {α β γ δ μ ν:Type}{a:α}:Fin1 fun h:(α⊕γ)⊕μ→Option ((β⊕δ)⊕ν)=>fL (fL h) a:=bZ jY fun x=>bz
theorem kE {α β γ δ μ ν:Type}{c:γ}:Fin1 fun h:(α⊕γ)⊕μ→Option ((β⊕δ)⊕ν)=>fR (fL h) c:=bZ jY fun x=>bz
theorem jx {α β γ δ μ ν π κ:Type}{a:α}:Fin1 fun h:((α⊕γ)⊕μ)⊕π→Option (((β⊕δ)⊕ν)⊕κ)=>fL (fL (fL h)) a:=bZ iT fun x=>bz
theorem jy {α β γ δ μ ν π κ:Type}{c:γ}:Fin1 fun h:((α⊕γ)⊕μ)⊕π→Option (((β⊕δ)⊕ν)⊕κ)=>fR (fL (fL h)) c:=bZ iT fun x=>bz
variable {L : (α→Option β)→(γ→Option δ)→γ→Option δ}
theorem qd (hL:∀c,Fin1 fun h:α⊕γ→Option (β⊕δ)=>L (fL h) (fR h) c){c:γ}:Fin1 fun f=>aE (L f) c:=by
 have mono:∀{f f':α→Option β} {g g':γ→Option δ},Le f f'→Le g g'→∀c r,L f g c=some r→L f' g' c=some r:=by
  intro f f' g g' hf hg c r h
  have:=(hL c).mono (jn f g) (jn f' g') (O7 hf hg) r (by simpa only[E0,E1] using h)
  simpa only[E0,E1] using this
 have hm:∀f a,I6 fun g=>L f g a:=fun f a g g' hg r h=>mono (fun _ _ h=>h) hg a r h
 have it:∀{f f':α→Option β},Le f f'→∀k,Le (gi (L f) k) (gi (L f') k):=by
  intro f f' hf k
  induction k with
  | zero=>intro _ _ h;cases h
  | succ k ih=>exact fun a r h=>mono hf ih a r h
 refine⟨fun f f' hf r h=>?_,fun f g hg hfg r h=>?_⟩
 ·obtain⟨k,hk⟩:=(iU (hm f)).1 h
  exact (iU (hm f')).2 ⟨k,it hf k c r hk⟩
 ·obtain⟨j,hj⟩:=(iU (hm f)).1 h
  have key:∀j c r,gi (L f) j c=some r→∃k,gi (L (g k)) j c=some r:=by
   intro j
   induction j with
   | zero=>intro c r h;cases h
   | succ j ih=>
    intro c r h
    have:=(hL c).cont (jn f (gi (L f) j)) (fun k=>jn (g k) (gi (L (g k)) j)) (fun k=>O7 (hg k) (it (hg k) j)) (by
     rintro (a | c) b hb
     ·obtain⟨x,h1,rfl⟩:=aI.1 hb
      obtain⟨k,hk⟩:=hfg a x h1
      exact⟨k,by simp[jn,hk]⟩
     ·obtain⟨x,h1,rfl⟩:=aI.1 hb
      obtain⟨k,hk⟩:=ih c x h1
      exact⟨k,by simp[jn,hk]⟩) r (by simp only[E0,E1];exact h)
    simp only[E0,E1] at this
    exact this
  obtain⟨k,hk⟩:=key j c r hj
  exact⟨k,(iU (hm (g k))).2 ⟨j,hk⟩⟩
end
end
section
def bf {α:Type}(xs:List α)(i:Int):Option α:=if 0≤i then xs[i.toNat]? else none
def fy {α:Type}(xs:List α)(lo hi:Int):Option (List α):=if 0≤lo∧lo≤hi∧hi≤xs.length then some ((xs.drop lo.toNat).take (hi.toNat - lo.toNat)) else none
def mN {α:Type}(xs:List α)(i:Int)(x:α):List α:=xs.set i.toNat x
def kd {α:Type}(bytes:Nat)(xs ys:List α):Option (List α):=if (xs.length+ys.length)*bytes≤mF∧xs.length+ys.length≤mF then some (xs++ys) else none
def Pa {α:Type}(bytes:Nat)(z:α)(n:Int):Option (List α):=if 0≤n∧n*bytes≤mF∧n≤mF then some (List.replicate n.toNat z) else none
def ew (a b:List UInt8):Option (List UInt8):=if a.length+b.length≤9223372036854775807 then some (a++b) else none
def GI (a b:Int):Option Int:=if b=0 then none else some (a.tmod b)
abbrev aF (n:Int):Int:=IntKind.i64.wrap n
abbrev len {α:Type}(xs:List α):Int:=(xs.length:Int)
theorem bS {α β:Type}{o:Option α}{f:α→Option β}{r:β}(h:o.bind f=some r):∃x,o=some x∧f x=some r:=aG.1 h
section
variable {E : Env} {m : Nat} {Q : St→Prop} {ops : Array Oper} {i : Nat} {is : List Nat} {k : List It} {d : V} {n : Nat} {l : List (Nat × V)} {rt rt' : ai} {nx : Nat} {op : Op} {v : V} {t : Nat}
theorem o (nx':Nat)(v:V)(hx:nx+16=nx')(ho:oB ops i=some (some t,op))(hv:aX E nx ⟨ay d n l,rt,nx⟩ op=some (v,rt'))(r:Run E m Q (.ops ops is::k) ⟨ay d n ((t,v)::l),rt',nx'⟩):Run E m Q (.ops ops (i::is)::k) ⟨ay d n l,rt,nx⟩:=by
 subst hx
 exact Sw (dst:=some t) ho hv r
theorem o0 (nx':Nat)(hx:nx+16=nx')(ho:oB ops i=some (none,op))(hv:aX E nx ⟨ay d n l,rt,nx⟩ op=some (v,rt'))(r:Run E m Q (.ops ops is::k) ⟨ay d n l,rt',nx'⟩):Run E m Q (.ops ops (i::is)::k) ⟨ay d n l,rt,nx⟩:=by
 subst hx
 exact Sw (dst:=none) ho hv r
theorem og {g:Nat}{w:Bool}(nx':Nat)(v:V)(hx:nx+16=nx')(ho:lP ops i=some (some t,op,some g,w))(hn:Nat.ble (g+1) n=true)(hg:gd (lk d l g) w=some true)(hv:aX E nx ⟨ay d n l,rt,nx⟩ op=some (v,rt'))(r:Run E m Q (.ops ops is::k) ⟨ay d n ((t,v)::l),rt',nx'⟩):Run E m Q (.ops ops (i::is)::k) ⟨ay d n l,rt,nx⟩:=by
 subst hx
 exact Th (dst:=some t) ho hn hg hv r
theorem os {g:Nat}{w:Bool}(nx':Nat)(hx:nx+16=nx')(ho:lP ops i=some (some t,op,some g,w))(hn:Nat.ble (g+1) n=true)(hg:gd (lk d l g) w=some false)(r:Run E m Q (.ops ops is::k) ⟨ay d n ((t,.und)::l),rt,nx'⟩):Run E m Q (.ops ops (i::is)::k) ⟨ay d n l,rt,nx⟩:=by
 subst hx
 exact Sx (dst:=some t) ho hn hg r
variable {ms : List Nat} {log : mc}
theorem dp (R W:List Nat)(v:V)(ho:oB ops i=some (some t,op))(hv:aX E (nx+16*i) ⟨ay d n l,rt,nx⟩ op=some (v,rt'))(hR:fS ⟨ay d n l,rt,nx⟩ op=R)(hW:hI E ⟨ay d n l,rt,nx⟩ op=W)(hc:oG nx ms i R W log=true)(r:Run E m Q (.dops ops ms (i+1) ((i,R,W)::log)::k) ⟨ay d n ((t,v)::l),rt',nx⟩):Run E m Q (.dops ops ms i log::k) ⟨ay d n l,rt,nx⟩:=R7 (dst:=some t) ho hv hR hW hc r
theorem TB (R W:List Nat)(ho:oB ops i=some (none,op))(hv:aX E (nx+16*i) ⟨ay d n l,rt,nx⟩ op=some (v,rt'))(hR:fS ⟨ay d n l,rt,nx⟩ op=R)(hW:hI E ⟨ay d n l,rt,nx⟩ op=W)(hc:oG nx ms i R W log=true)(r:Run E m Q (.dops ops ms (i+1) ((i,R,W)::log)::k) ⟨ay d n l,rt',nx⟩):Run E m Q (.dops ops ms i log::k) ⟨ay d n l,rt,nx⟩:=R7 (dst:=none) ho hv hR hW hc r
theorem dg {g:Nat}{w:Bool}(R W:List Nat)(v:V)(ho:lP ops i=some (some t,op,some g,w))(hn:Nat.ble (g+1) n=true)(hg:gd (lk d l g) w=some true)(hv:aX E (nx+16*i) ⟨ay d n l,rt,nx⟩ op=some (v,rt'))(hR:fS ⟨ay d n l,rt,nx⟩ op=R)(hW:hI E ⟨ay d n l,rt,nx⟩ op=W)(hc:oG nx ms i R W log=true)(r:Run E m Q (.dops ops ms (i+1) ((i,R,W)::log)::k) ⟨ay d n ((t,v)::l),rt',nx⟩):Run E m Q (.dops ops ms i log::k) ⟨ay d n l,rt,nx⟩:=S8 (dst:=some t) ho hn hg hv hR hW hc r
theorem ds {g:Nat}{w:Bool}(ho:lP ops i=some (some t,op,some g,w))(hn:Nat.ble (g+1) n=true)(hg:gd (lk d l g) w=some false)(hc:oG nx ms i [] [] log=true)(r:Run E m Q (.dops ops ms (i+1) ((i,[],[])::log)::k) ⟨ay d n ((t,.und)::l),rt,nx⟩):Run E m Q (.dops ops ms i log::k) ⟨ay d n l,rt,nx⟩:=R8 (dst:=some t) ho hn hg hc r
theorem de (nx':Nat)(h:Nat.ble ops.size i=true)(hx:nx+16*ops.size=nx')(r:Run E m Q k ⟨ay d n l,rt,nx'⟩):Run E m Q (.dops ops ms i log::k) ⟨ay d n l,rt,nx⟩:=by
 subst hx
 exact S7 h r
end
section
variable {E : Env} {d : V} {n : Nat} {l : List (Nat × V)} {L L' : List (Nat × Option Root)} {id nx : Nat} {a b v z pv xv : V} {x y p c : Operand} {t t' : TypeId} {s : Nat}
theorem lK {rt:ai}:∀{vs:List V},vs.all cl=true→fh rt vs=some (vs,rt)
 | [],_=>rfl
 | v::vs,h=>by
  simp only[List.all_cons,Bool.and_eq_true] at h
  have h1:bX rt v=some (v,rt):=by
   have:=h.1
   cases v<;>simp_all[cl,bX]
   all_goals (rename_i cs;cases cs<;>simp_all[cl])
  simp[fh,h1,lK h.2]
theorem be {rt:ai}{v:V}(h:(cells v).all cl=true):gF rt v=some (v,rt):=by
 cases v with
 | agg cs=>simp[gF,lK (show cs.all cl=true from h)]
 | _=>
  have:=lK (rt:=rt) h
  simp only[cells,fh,aG,aI] at this
  obtain⟨x,hx,y,hy,he⟩:=this
  simp only[Option.some.injEq,Prod.mk.injEq] at hy he
  simp only[gF,hx]
  obtain⟨x1,x2⟩:=x
  simp at he hy
  subst hy
  simp at he
  rw[he.1,he.2]
def HV (E:Env)(rt:ai)(t:TypeId)(pv:V):Option V:=
 (E.ty t).bind fun ti=>(jE rt pv).bind fun cs=>if 0<ti.size∧ti.size≤cs.length then jH (eH ti.desc) (cs.take ti.size) else none
theorem dD {rt:ai}(hp:ig d n l p=some pv)(h:HV E rt t pv=some v):aX E id ⟨ay d n l,rt,nx⟩ (.load t p)=some (v,rt):=by
 simp only[HV,aG] at h
 obtain⟨ti,ht,cs,hc,h⟩:=h
 split at h
 ·rename_i hs
  exact Sc hp ht hc hs h
 ·cases h
theorem gH {rt:ai}{rt':ai}(hp:ig d n l p=some pv)(hx:ig d n l x=some xv)(h:mP E rt t pv xv=some rt'):aX E id ⟨ay d n l,rt,nx⟩ (.store t p x)=some (.und,rt'):=P5 hp hx h
theorem iy {a b c:List UInt8}{lit:Bool}(h:ew a b=some c):qs E .add t (str a) (str b) lit=some (str c):=by
 unfold ew at h
 split at h
 ·rename_i hl
  cases h
  simp only[qs,str,v8,CX]
  rw[if_pos hl]
  congr 2
 ·cases h
theorem S6 {k:IntKind}{a b c:Int}{lit:Bool}(h:GI a b=some c):qs E .rem t (.int k a) (.int k b) lit=some (.int k c):=by
 unfold GI at h
 split at h
 ·cases h
 ·rename_i hb
  cases h
  simp[qs,uY,vU,hb]
theorem fN {α:Type}{f:α→V}{xs:List α}{nl:Bool}(h:fC (E.desc t)=true):qy (E.desc t) (.isl nl (xs.map f))=some (I (len xs)):=by simp[qy,h]
theorem Tx {o nv off k:Nat}{p:List (Nat×Nat)}(h:fC (E.desc t)=true):qy (E.desc t) (.hs o nv p s off k)=some (.int .i64 k):=by simp[qy,h]
theorem lN {s:List UInt8}{i:Int}{c:UInt8}{ti:TI}(ht:E.ty t=some ti)(hd:ti.desc=.string)(h:bf s i=some c):Ge E t (str s) i=some (.int .u8 c.toNat):=by
 unfold bf at h
 split at h
 ·rename_i h0
  obtain⟨dd,a,b,c'⟩:=ti
  simp only at hd
  subst hd
  simp only[Ge,ht,str]
  rw[if_pos h0]
  obtain⟨hl,he⟩:=cd.1 h
  have e:(ByteArray.mk s.toArray)[i.toNat]?=some c:=by
   simp only[getElem?_def,CX]
   rw[dif_pos hl]
   simp only[Option.some.injEq]
   exact he
  rw[e];rfl
 ·cases h
theorem Jk {s:List UInt8}{a b:Nat}(h:a≤b)(hb:b≤s.length):(ByteArray.mk s.toArray).extract a b=⟨((s.drop a).take (b - a)).toArray⟩:=by
 apply ByteArray.ext
 simp[ByteArray.data_extract,List.extract_toArray]
theorem hM {s c:List UInt8}{lo hi:Option V}{a b:Int}{rt:ai}(hd:E.desc t=some .string)(h1:gO 0 lo=some a)(h2:gO (len s) hi=some b)(h:fy s a b=some c):jS E rt t (str s) lo hi=some (str c):=by
 unfold fy at h
 split at h
 ·rename_i hc
  cases h
  have h2':gO (s.length:Int) hi=some b:=h2
  simp only[jS,hd,str,h1,CX,h2',cm]
  rw[if_pos hc,Jk (by omega) (by omega)]
 ·cases h
theorem Sj {α:Type}{f:α→V}{xs:List α}{nl:Bool}{i:Int}{y:α}{e:TypeId}(hd:E.desc t=some (.slice e))(hs:(E.ty e).map (·.size)=some s)(hf:(cells (f y)).length=s)(h:bf xs i=some y):iE E t (.isl nl (xs.map f)) i=some (.iptr (f y) 0):=by
 unfold bf at h
 split at h
 ·rename_i h0
  simp only[iE,hd]
  rw[if_pos h0,List.getElem?_map,h]
  simp only[Option.map_some,cm]
  rw[if_pos (by rw[hs,hf])]
 ·cases h
theorem Td {α:Type}{xs:List α}{o nv off k:Nat}{p:List (Nat×Nat)}{i:Int}{y:α}{e:TypeId}(hd:E.desc t=some (.slice e))(hs:(E.ty e).map (·.size)=some s)(hk:k=xs.length)(h:bf xs i=some y):iE E t (.hs o nv p s off k) i=some (.hp o nv p s (off+i.toNat) 0):=by
 unfold bf at h
 split at h
 ·rename_i h0
  simp only[iE,hd]
  have:=(cd.1 h).1
  rw[if_pos ⟨h0,by omega,hs⟩]
 ·cases h
theorem nq {α:Type}{f:α→V}{xs:List α}{i:Int}{y:α}(h:bf xs i=some y):(xs.map f)[0+i.toNat]?=some (f y):=by
 unfold bf at h
 split at h
 ·rw[Nat.zero_add,List.getElem?_map,h];rfl
 ·cases h
theorem Ij {α:Type}{f:α→V}{xs:List α}{i:Int}{y:α}:(xs.map f).set (0+i.toNat) (f y)=(mN xs i y).map f:=by
 rw[Nat.zero_add,mN,List.map_set]
end
end
section
abbrev ae:=List UInt8
section
variable {E : Env} {d : V} {n : Nat} {l : List (Nat × V)} {L L' : List (Nat × Option Root)} {id nx : Nat} {a b v z pv xv : V} {x y p c : Operand} {t t' : TypeId} {s : Nat} {rt rt1 rt2 : ai}
theorem ec {o nv nv' k:Nat}{es:List V}(hr:fa L o=some ⟨nv',s,es⟩)(hk:k=es.length):bX (bp L) (.hs o nv [] s 0 k)=some (.usl s es,bp ((o,none)::L)):=by
 have hv:bA (bp L) o nv []=some ⟨nv',s,es⟩:=by simp[bA,bp,hr]
 simp only[bX,hv,cm,aU]
 rw[if_pos ⟨trivial,by omega,trivial⟩]
 simp only[eD,List.reverse_nil,Option.map_some]
 rw[jV,hk,List.take_length]
theorem aA (h:cl v=true):bX rt v=some (v,rt):=by
 have:=lK (rt:=rt) (vs:=[v]) (by simp[h])
 simp only[fh,aG,aI,Prod.mk.injEq] at this
 obtain⟨⟨x1,x2⟩,hx,⟨y1,y2⟩,hy,h1,h2⟩:=this
 simp only[Option.some.injEq,Prod.mk.injEq] at hy h1 h2
 obtain⟨rfl,rfl⟩:=hy
 simp only[List.cons.injEq,and_true] at h1
 rw[hx,h1,h2]
theorem au {w:V}{vs ws:List V}(h1:bX rt v=some (w,rt1))(h2:fh rt1 vs=some (ws,rt2)):fh rt (v::vs)=some (w::ws,rt2):=by simp[fh,h1,h2]
theorem dZ:fh rt []=some ([],rt):=rfl
theorem dY {vs ws:List V}(h:fh rt vs=some (ws,rt1)):gF rt (.agg vs)=some (.agg ws,rt1):=by simp[gF,h]
theorem ni {w:V}(ha:al v=false)(h:bX rt v=some (w,rt1)):gF rt v=some (w,rt1):=by cases v<;>first | exact h | simp[al] at ha
theorem cn {w:V}{vs ws:List V}(h1:gF rt v=some (w,rt1))(h2:du rt1 vs=some (ws,rt2)):du rt (v::vs)=some (w::ws,rt2):=by simp[du,h1,h2]
theorem bT:du rt []=some ([],rt):=rfl
theorem fin {fn:Func}{own:List Bool}{ax:List V}{st:St}{vs ws:List V}{rt':ai}{r:V}{os:List V}(h1:gA E st fn.results.toList=some vs)(h2:du st.rt vs=some (ws,rt'))(h3:sZ ws=r)(h4:cV rt' own ax=os):kF E fn own ax st=some (r,os):=by
 simp[kF,h1,h2,h3,h4]
theorem Ti {α:Type}{f g:α→V}{xs:List α}{o nv nv' k:Nat}(hr:fa L o=some ⟨nv',s,xs.map f⟩)(hk:k=xs.length)(hi:fB (xs.map f)=xs.map g):fO (bp L) (.hs o nv [] s 0 k)=some (.isl false (xs.map g)):=by
 have hv:bD (bp L) o nv []=some (s,xs.map f):=by simp[bD,bA,bp,hr,aU]
 simp only[fO,hv,cm]
 rw[if_pos ⟨trivial,by rw[hk,List.length_map];omega⟩,List.drop_zero,hk,←List.length_map (f:=f),List.take_length,hi]
def L7:V→V
 | .isl _ es=>.isl false es
 | v=>v
def Tz:V→V
 | .agg cs=>.agg (cs.map L7)
 | v=>L7 v
theorem dT (h:cl v=true):fO rt v=some (L7 v):=by
 cases v<;>simp_all[cl,fO,L7]
theorem dX {w:V}{vs ws:List V}(h1:fO rt v=some w)(h2:iu rt vs=some ws):iu rt (v::vs)=some (w::ws):=by simp[iu,h1,h2]
theorem oH:iu rt []=some []:=rfl
theorem oo {vs ws:List V}(h:iu rt vs=some ws):hJ rt (.agg vs)=some (.agg ws):=by simp[hJ,h]
def O6:V→Bool
 | .fn _ _=>true
 | _=>false
theorem tj {w:V}(ha:al v=false)(hf:O6 v=false)(h:fO rt v=some w):hJ rt v=some w:=by cases v<;>first | (simp[al] at ha;done) | (simp[O6] at hf;done) | exact h
theorem bx (h:(cells v).all cl=true):hJ rt v=some (Tz v):=by
 have all:∀{vs:List V},vs.all cl=true→iu rt vs=some (vs.map L7):=by
  intro vs
  induction vs with
  | nil=>intro _;rfl
  | cons v vs ih=>
   intro h
   simp only[List.all_cons,Bool.and_eq_true] at h
   exact dX (dT h.1) (ih h.2)
 cases v with
 | agg cs=>exact oo (all h)
 | fn f cs=>
  simp only[cells,List.all_cons,List.all_nil,Bool.and_true] at h
  cases cs with
  | nil=>rfl
  | cons c cs=>simp[cl] at h
 | _=>exact dT (rt:=rt) (by simpa[cells] using h)
theorem bd {bs:List Bool}{v w:V}{vs ws:List V}(h1:hJ rt v=some w)(h2:eK rt bs vs=some ws):eK rt (false::bs) (v::vs)=some (w::ws):=by simp[eK,h1,h2]
theorem eG {bs:List Bool}{v w:V}{vs ws:List V}(h1:ox rt v=some w)(h2:eK rt bs vs=some ws):eK rt (true::bs) (v::vs)=some (w::ws):=by simp[eK,h1,h2]
theorem bE {bs:List Bool}:eK rt bs []=some []:=by cases bs<;>rfl
theorem yk {α:Type}{f:α→V}(hf:∀x,cy (f x)=false):∀{xs:List α},cY (xs.map f)=false
 | []=>rfl
 | x::xs=>by simp[cY,hf x,yk hf]
theorem dB {α:Type}{f g:α→V}(hf:∀x,ez (f x)=g x):∀{xs:List α},fB (xs.map f)=xs.map g
 | []=>rfl
 | x::xs=>by simp[fB,hf x,dB hf]
theorem CZ {o nv nv' k:Nat}{es:List V}(hr:fa L o=some ⟨nv',s,es⟩)(hk:k=es.length)(hf:es.all jb=true):eS (bp L) (.hs o nv [] s 0 k)=some (es,bp L):=by
 have hv:bD (bp L) o nv []=some (s,es):=by simp[bD,bA,bp,hr,aU]
 simp only[eS,hv,cm]
 rw[if_pos (by omega)]
 simp only[List.drop_zero,hk,List.take_length]
 rw[if_neg (by simp),if_pos hf]
theorem fV {α:Type}{f:α→V}{xs:List α}{k:Nat}{pvs:List (Nat×V)}{es ws:List V}{e:TypeId}{ei:TI}(hd:E.desc t=some (.slice e))(he:E.ty e=some ei)(hz:gU ei.zv=some z)(hc:k*ei.size≤16777216∧0<ei.size∧(cells z).length=ei.size∧al z=eH ei.desc)(hp:js ei.size (eH ei.desc) (List.replicate k z) pvs=some es)(ha:du (bp L) es=some (ws,bp L'))(hs:ei.size=s) :
  R5 E (bp L) id t k pvs=some (.hs id 0 [] s 0 k,bp ((id,some ⟨0,s,ws⟩)::L')):=by
 subst hs
 obtain⟨⟨dd,a,b,c⟩,hti,hdd⟩:=uN hd
 simp only at hdd
 subst hdd
 simp only[R5,hti,he,hz,cm]
 rw[if_pos hc,hp]
 simp only[cm,ha,Option.map_some]
 rw[jV]
theorem cO {rt:ai}:∀{vs:List V},(vs.all fun v=>(cells v).all cl)=true→du rt vs=some (vs,rt)
 | [],_=>rfl
 | v::vs,h=>by
  simp only[List.all_cons,Bool.and_eq_true] at h
  simp[du,be h.1,cO h.2]
theorem Te {α:Type}{f:α→V}{xs:List α}{z0:α}{k:Int}{e:TypeId}{ei:TI}(hd:E.desc t=some (.slice e))(he:E.ty e=some ei)(hz:gU ei.zv=some (f z0))(hc:0<ei.size∧(cells (f z0)).length=ei.size∧al (f z0)=eH ei.desc)(hx:Pa ei.bytes z0 k=some xs)(hs:ei.size=s) :
  L3 E (bp L) id t k k=some (.hs id 0 [] s 0 xs.length,bp ((id,some ⟨0,s,xs.map f⟩)::L)):=by
 subst hs
 unfold Pa at hx
 split at hx
 ·rename_i hb
  cases hx
  obtain⟨⟨dd,a,b,c⟩,hti,hdd⟩:=uN hd
  simp only at hdd
  subst hdd
  simp only[L3,hti,he,hz,cm]
  rw[if_pos ⟨hb.1,Int.le_refl _,hb.2.1,hb.2.2,hc.1,hc.2.1,hc.2.2⟩,jV]
  simp
 ·cases hx
theorem cC {α:Type}{f:α→V}{xs:List α}{nl:Bool}{i:Int}{y:α}{e:TypeId}{w:V}(hd:E.desc t=some (.slice e))(hs:(E.ty e).map (·.size)=some s)(hw:f y=w)(hf:(cells w).length=s)(h:bf xs i=some y):iE E t (.isl nl (xs.map f)) i=some (.iptr w 0):=by
 subst hw
 exact Sj hd hs hf h
end
noncomputable def nH {α:Type}(f:α→V)(v:V):Option α:=open Classical in if h:∃a,f a=v then some h.choose else none
theorem BB {α:Type}{f:α→V}(hf:∀a b,f a=f b→a=b)(a:α):nH f (f a)=some a:=by
 unfold nH
 have h:∃b,f b=f a:=⟨a,rfl⟩
 rw[dif_pos h,hf _ _ h.choose_spec]
theorem LD {α:Type}{f:α→V}{v:V}{a:α}(h:nH f v=some a):f a=v:=by
 unfold nH at h
 split at h
 ·rename_i hh
  cases h
  exact hh.choose_spec
 ·cases h
theorem CP {α:Type}{f:α→V}(hf:∀a b,f a=f b→a=b):∀{xs ys:List α},xs.map f=ys.map f→xs=ys
 | [],[],_=>rfl
 | [],_::_,h=>by simp at h
 | _::_,[],h=>by simp at h
 | x::xs,y::ys,h=>by
  simp only[List.map_cons,List.cons.injEq] at h
  rw[hf _ _ h.1,CP hf h.2]
theorem fK {α:Type}{f:α→V}(hf:∀a b,f a=f b→a=b)(xs ys:List α)(h:V.isl false (xs.map f)=.isl false (ys.map f)):xs=ys:=by
 simp only[V.isl.injEq,true_and] at h
 exact CP hf h
theorem d6 (a b:Int)(h:I a=I b):a=b:=by simpa[I] using h
theorem SD (a b:Bool)(h:B a=B b):a=b:=by simpa[B] using h
theorem bU (a b:ae)(h:str a=str b):a=b:=by
 simp only[str,V.str.injEq,ByteArray.mk.injEq] at h
 simpa using h
theorem qk (y:ae):(cells (str y)).length=1∧(cells (str y)).all eP=true:=⟨rfl,rfl⟩
def sw {A B:Type}(da:V→Option A)(db:V→Option B)(f:A→B→Option (V×List V))(vs:List V):Option (V×List V):=match vs with
 | [a,b]=>(da a).bind fun x=>(db b).bind fun y=>f x y
 | _=>none
section
variable {A B C D E F : Type} {da : V→Option A} {db : V→Option B} {dc : V→Option C} {dd : V→Option D} {de : V→Option E} {df : V→Option F} {vs : List V} {r : V × List V}
theorem S9 {f:A→B→Option (V×List V)}(h:sw da db f vs=some r):∃a b x y,vs=[a,b]∧da a=some x∧db b=some y∧f x y=some r:=by
 unfold sw at h;split at h
 ·obtain⟨x,h1,h⟩:=bS h;obtain⟨y,h2,h⟩:=bS h;exact⟨_,_,x,y,rfl,h1,h2,h⟩
 ·cases h
end
end
section
theorem EY (y:Int):ez (I y)=I y:=rfl
theorem mm (y:ae):ez (str y)=str y:=rfl
theorem pS (y:ae):jb (str y)=true:=rfl
section
variable {E : Env} {d : V} {n : Nat} {l : List (Nat × V)} {rt : ai}
end
end
section
section
variable {E : Env} {d : V} {n : Nat} {l : List (Nat × V)} {L L' L'' : List (Nat × Option Root)} {id nx : Nat} {a b v z pv xv y : V} {x p c : Operand} {t t' : TypeId} {s s0 s' : Nat} {rt rt' rt1 rt2 : ai} {path : List (Nat × Nat)}
theorem aB {es:List V}:aU [] s es=some (s,es):=rfl
theorem dm {es es':List V}{i k:Nat}{e:V}{r:Option (Nat×List V)}(he:es[i]?=some e)(hc:(cells e)[k]?=some (.usl s' es'))(h:aU path s' es'=r):aU ((i,k)::path) s es=r:=by
 simp only[aU,he,hc,h]
theorem dt {es new:List V}:setRow new [] es=some new:=rfl
def pM (path:List (Nat×Nat))(nv nv':Nat):Bool:=path.isEmpty||Nat.beq nv' nv
theorem kQ {o nv nv':Nat}{es:List V}(hr:fa L o=some ⟨nv',s0,es⟩)(hv:pM path nv nv'=true):bA (bp L) o nv path=some ⟨nv',s0,es⟩:=by
 have:(path.isEmpty||nv'==nv)=true:=by
  simp only[pM,Bool.or_eq_true] at hv ⊢
  rcases hv with h | h
  ·exact .inl h
  ·exact .inr (by simpa using Nat.eq_of_beq_eq_true h)
 simp[bA,bp,hr,this]
theorem vW {o nv nv':Nat}{es es2:List V}(hr:fa L o=some ⟨nv',s0,es⟩)(hv:pM path nv nv'=true)(hp:aU path s0 es=some (s,es2)):bD (bp L) o nv path=some (s,es2):=by
 simp only[bD,kQ hr hv,cm,hp]
theorem lO {o nv nv' i k:Nat}{es es2 cs:List V}{e:V}{ti:TI}(ht:E.ty t=some ti)(hr:fa L o=some ⟨nv',s0,es⟩)(hv:pM path nv nv'=true)(hp:aU path s0 es=some (s,es2))(he:es2[i]?=some e)(hc:nz o nv' path i k ((cells e).drop k)=cs)(hs:(Nat.ble 1 ti.size&&Nat.ble ti.size cs.length)=true)(hv':jH (eH ti.desc) (cs.take ti.size)=some v):HV E (bp L) t (.hp o nv path s i k)=some v:=by
 rw[Bool.and_eq_true,Nat.ble_eq,Nat.ble_eq] at hs
 simp only[HV,ht,cm,jE,kQ hr hv,hp,if_true,he,Option.map_some,hc]
 rw[if_pos (show 0<ti.size∧ti.size≤cs.length from hs),hv']
theorem fP {o nv nv' i k:Nat}{es es2 es2' es':List V}{e e':V}{pl:Bool}{ti:TI}(ht:E.ty t=some ti)(ha:gF (bp L) xv=some (y,bp L'))(hl:(Nat.beq (cells y).length ti.size&&(al y==eH ti.desc)&&Nat.ble 1 ti.size)=true)(hr:fa L' o=some ⟨nv',s0,es⟩)(hv:pM path nv nv'=true)(hp:aU path s0 es=some (s,es2))(he:es2[i]?=some e)(hk:Nat.ble (k+ti.size) (cells e).length=true)(hpl:(((cells e).drop k |>.take ti.size).all cl&&(cells y).all cl)=pl)(he':(if al e then .agg ((cells e).take k++cells y++(cells e).drop (k+ti.size)) else ((cells e).take k++cells y++(cells e).drop (k+ti.size)).headD .dead)=e')(h2:es2.set i e'=es2')(hset:setRow es2' path es=some es')(nw:Nat)(hnw:(bif pl then nv' else nv'+1)=nw) :
  mP E (bp L) t (.hp o nv path s i k) xv=some (bp ((o,some ⟨nw,s0,es'⟩)::L')):=by
 subst hnw
 simp only[Bool.and_eq_true,Nat.ble_eq,Nat.beq_eq,beq_iff_eq] at hl hk
 simp only[mP,ht,cm,ha]
 rw[if_pos ⟨hl.1.1,hl.1.2,hl.2⟩]
 simp only[kQ hr hv,cm,hp,if_true,he]
 rw[if_pos hk,he',h2,hset]
 simp only[Option.map_some]
 rw[jV,hpl]
 cases pl<;>rfl
theorem eu {o nv nv' m:Nat}{es es2:List V}(hr:fa L o=some ⟨nv',s0,es⟩)(hv:pM path nv nv'=true)(hp:aU path s0 es=some (s,es2))(hm:m=es2.length)(ht:eD (bp L) o ⟨nv',s0,es⟩ path=some rt'):bX (bp L) (.hs o nv path s 0 m)=some (.usl s es2,rt'):=by
 simp only[bX,kQ hr hv,cm,hp]
 rw[if_pos ⟨trivial,by omega,trivial⟩,ht,hm,List.take_length]
 rfl
theorem GQ {o nv':Nat}{es:List V}:eD (bp L) o ⟨nv',s0,es⟩ []=some (bp ((o,none)::L)):=by
 simp only[eD,List.reverse_nil]
 rw[jV]
theorem fG {o nv' i k:Nat}{es es2 es2' es':List V}{e e':V}(hp:aU path s0 es=some (s,es2))(he:es2[i]?=some e)(he':cH e k .dead=e')(h2:es2.set i e'=es2')(hset:setRow es2' path es=some es'):eD (bp L) o ⟨nv',s0,es⟩ (path++[(i,k)])=some (bp ((o,some ⟨nv',s0,es'⟩)::L)):=by
 simp only[eD,List.reverse_append,List.reverse_cons,List.reverse_nil,List.nil_append,List.cons_append,List.reverse_reverse]
 simp only[hp,cm,he,he',h2,hset,Option.map_some]
 rw[jV]
theorem jc {o nv nv' m:Nat}{es es2 es3:List V}(hr:fa L o=some ⟨nv',s0,es⟩)(hv:pM path nv nv'=true)(hp:aU path s0 es=some (s,es2))(hm:m=es2.length)(hi:fB es2=es3):fO (bp L) (.hs o nv path s 0 m)=some (.isl false es3):=by
 simp only[fO,vW hr hv hp,cm]
 rw[if_pos ⟨trivial,by omega⟩,List.drop_zero,hm,List.take_length,hi]
end
theorem Ih {E:Env}{m:Nat}{Q:St→Prop}{k:List It}{d:V}{n:Nat}{l:List (Nat×V)}{L:List (Nat×Option Root)}{nx:Nat}(t j s nx':Nat)(v':V)(hk:ly k=true)(hn:Nat.ble (t+1) n=true)(hj:(cells (lk d l t))[j]?=some (.isl true []))(hv:cH (lk d l t) j (.hs nx 0 [] s 0 0)=v')(hx:nx+16=nx')(r:Run E m Q k ⟨ay d n ((t,v')::l),bp ((nx,some ⟨0,s,[]⟩)::L),nx'⟩):Run E m Q k ⟨ay d n l,bp L,nx⟩:=by
 have ht:(ay d n l)[t]?=some (lk d l t):=by
  rw[Nat.ble_eq] at hn
  simp[ay,show t<n by omega]
 refine Run.slot (st:=⟨ay d n l,bp L,nx⟩) hk ht hj (s:=s) (pQ (sY ?_ ?_ hx) r)
 ·rw[hv]
  exact gt (dst:=some t)
 ·exact jV
theorem cG {E:Env}{m:Nat}{Q:St→Prop}{k:List It}{tm:List V}{L:List (Nat×Option Root)}{nx:Nat}(o:Nat){nv s:Nat}{es:List V}(es':List V)(hk:ly k=true)(hr:fa L o=some ⟨nv,s,es⟩)(hc:tx es es')(r:Run E m Q k ⟨tm,bp ((o,some ⟨nv+1,s,es'⟩)::L),nx⟩):Run E m Q k ⟨tm,bp L,nx⟩:=
 Run.row (st:=⟨tm,bp L,nx⟩) (r:=⟨nv,s,es⟩) hk hr hc (pQ (sY rfl jV rfl) r)
theorem bv:tx [] []:=⟨rfl,fun i x y h=>by simp at h⟩
theorem ao {e e':V}{es es':List V}(h:Cv e e')(hs:tx es es'):tx (e::es) (e'::es'):=
 ⟨by simp[hs.1],fun i x y h1 h2=>by
  cases i with
  | zero=>simp at h1 h2;subst h1;subst h2;exact h
  | succ i=>exact hs.2 i x y (by simpa using h1) (by simpa using h2)⟩
theorem dC {cs cs':List V}(h:tx cs cs'):Cv (.agg cs) (.agg cs'):=.agg cs cs' h.1 h.2
section
variable {o nv i k : Nat} {path : List (Nat × Nat)} {v v' : V} {vs vs' : List V}
end
theorem fx {E:Env}{st:St}:gA E st []=some []:=rfl
theorem eO {E:Env}{st:St}{r:ResultVar}{rs:List ResultVar}{v:V}{vs:List V}(h:lg E st r=some v)(hs:gA E st rs=some vs):gA E st (r::rs)=some (v::vs):=by simp only[gA,h,hs,cm,Option.map_some]
theorem dh {E:Env}{d:V}{n:Nat}{l:List (Nat×V)}{rt:ai}{nx a:Nat}{t:TypeId}{p v:V}(hn:Nat.ble (a+1) n=true)(hp:lk d l a=p)(h:HV E rt t p=some v):lg E ⟨ay d n l,rt,nx⟩ (.cell a t)=some v:=by
 subst hp
 have ht:(ay d n l)[a]?=some (lk d l a):=by
  rw[Nat.ble_eq] at hn
  simp[ay,show a<n by omega]
 simp only[HV,aG] at h
 obtain⟨ti,h1,cs,h2,h3⟩:=h
 simp only[lg,h1,ht,h2,cm]
 exact h3
theorem P9 {k:FuncId}(a b:Unit)(h:V.fn k []=.fn k []):a=b:=rfl
section
variable {E : Env} {L L' : List (Nat × Option Root)} {rt rt' : ai} {t : TypeId} {s s0 : Nat} {path : List (Nat × Nat)} {α : Type} {f g : α→V} {xs ys : List α} {a b : Int}
end
theorem l5 {k:IntKind}(a b:Int)(h:V.int k a=.int k b):a=b:=(V.int.inj h).2
end
end Go.Ln
