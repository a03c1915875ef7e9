/-
  The reading of the code, part 3.
-/
import Derived.Test.YtpbdjajabmdbcaaGreatDoorFnExactMovesOfLnB
set_option linter.unusedVariables false
set_option linter.unusedSimpArgs false
set_option linter.unusedSectionVars false
namespace Go.Ln
open Go
section
def Fu:List It→Option (List It)
 | .code .skip::k=>some k
 | .code (.region _ ops false)::k=>some (.ops ops (List.range ops.size)::k)
 | .code (.seq a b)::k=>some (.code a::.code b::k)
 | .code (.block id c)::k=>some (.code c::.blk id::k)
 | .code (.exit id)::k=>ie id k
 | .ops _ []::k=>some k
 | .blk _::k=>some k
 | _=>none
theorem Fv {E:Env}{k k':List It}{st:St}(h:Fu k=some k'):jA E k st=some (k',st):=by
 unfold Fu at h
 split at h<;>first | (cases h;done) | (cases h;rfl) | simp[jA,h]
def sU:Nat→List It→List It
 | 0,k=>k
 | n+1,k=>match k with
  | .ops ops (_::is)::k=>sU n (.ops ops is::k)
  | k=>match Fu k with
   | some k'=>sU n k'
   | none=>k
structure Ch where
 l:List (Nat×V)
 rt:an
 nx:Nat
 W:List Nat
 T:List Nat
def OX:Option Nat→List Nat
 | some t=>[t]
 | none=>[]
def BS (E:Env)(N:Nat):Nat→List It→Ch→Option Ch
 | 0,_,c=>some c
 | n+1,k,c=>match k with
  | .ops ops (i::is)::k=>(ops[i]?).bind fun o=>(ix ops ⟨aM .dead N c.l,c.rt,c.nx⟩ o).bind fun b=>match b with
   | true=>(bu E c.nx ⟨aM .dead N c.l,c.rt,c.nx⟩ o.op).bind fun r=>BS E N n (.ops ops is::k) ⟨ig o.dst r.1 c.l,r.2,c.nx+16,OX o.dst++c.W,iJ E ⟨aM .dead N c.l,c.rt,c.nx⟩ o.op++c.T⟩
   | false=>BS E N n (.ops ops is::k) ⟨ig o.dst .und c.l,c.rt,c.nx+16,OX o.dst++c.W,c.T⟩
  | k=>(Fu k).bind fun k'=>BS E N n k' c
structure ChOk (c c':Ch):Prop where
 nx:c.nx≤c'.nx
 l:∀t,t∉c'.W→lk .dead c'.l t=lk .dead c.l t
 rt:∀o,o∉c'.T→o<c.nx→c'.rt o=c.rt o
 W:∀t,t∈c.W→t∈c'.W
 T:∀t,t∈c.T→t∈c'.T
theorem SY {dst:Option Nat}{v:V}{l:List (Nat×V)}{t:Nat}(h:t∉OX dst):lk .dead (ig dst v l) t=lk .dead l t:=by
 cases dst with
 | none=>rfl
 | some d=>
  simp only[OX,List.mem_singleton] at h
  simp only[ig,nz]
  rw[if_neg (fun e=>h e.symm)]
theorem qk {E:Env}{m:Nat}{Q:St→Prop}{N:Nat}:∀{n:Nat} {k:List It} {c c':Ch},BS E N n k c=some c'→ChOk c c'∧(Run E m Q (sU n k) ⟨aM .dead N c'.l,c'.rt,c'.nx⟩→Run E m Q k ⟨aM .dead N c.l,c.rt,c.nx⟩)
 | 0,k,c,c',h=>by
  simp only[BS,Option.some.injEq] at h
  subst h
  exact⟨⟨Nat.le_refl _,fun _ _=>rfl,fun _ _ _=>rfl,fun _ h=>h,fun _ h=>h⟩,fun r=>r⟩
 | n+1,k,c,c',h=>by
  unfold BS at h
  split at h
  ·rename_i ops i is k
   simp only[aR] at h
   obtain⟨o,ho,b,hb,h⟩:=h
   split at h
   ·simp only[aR] at h
    obtain⟨⟨v,rt1⟩,hv,h⟩:=h
    obtain⟨h1,h2⟩:=qk h
    refine⟨⟨Nat.le_trans (Nat.le_add_right _ _) h1.nx,fun t ht=>?_,fun x hx hlt=>?_,fun t ht=>h1.W t (List.mem_append_right _ ht),fun t ht=>h1.T t (List.mem_append_right _ ht)⟩,fun r=>?_⟩
    ·rw[h1.l t ht]
     exact SY fun hm=>ht (h1.W t (List.mem_append_left _ hm))
    ·rw[h1.rt x hx (Nat.lt_of_lt_of_le hlt (Nat.le_add_right _ _))]
     exact W9 hv (fun hm=>hx (h1.T x (List.mem_append_left _ hm))) (by omega)
    ·refine .step (st':=⟨aM .dead N (ig o.dst v c.l),rt1,c.nx+16⟩) ?_ (h2 r)
     simp[jA,fT,ho,hb,hv,iC,cE]
   ·obtain⟨h1,h2⟩:=qk h
    refine⟨⟨Nat.le_trans (Nat.le_add_right _ _) h1.nx,fun t ht=>?_,fun x hx hlt=>h1.rt x hx (Nat.lt_of_lt_of_le hlt (Nat.le_add_right _ _)),fun t ht=>h1.W t (List.mem_append_right _ ht),h1.T⟩,fun r=>?_⟩
    ·rw[h1.l t ht]
     exact SY fun hm=>ht (h1.W t (List.mem_append_left _ hm))
    ·refine .step (st':=⟨aM .dead N (ig o.dst .und c.l),c.rt,c.nx+16⟩) ?_ (h2 r)
     simp[jA,fT,ho,hb,iC,cE]
  ·rename_i k0 hk0
   simp only[aR] at h
   obtain⟨k',hk,h⟩:=h
   obtain⟨h1,h2⟩:=qk h
   refine⟨h1,fun r=>.step (Fv hk) (h2 ?_)⟩
   have:sU (n+1) k=sU n k':=by
    rw[sU]
    ·rw[hk]
    ·exact hk0
   rwa[this] at r
def SV:V→Bool
 | .dead=>true
 | _=>false
def W1 (E:Env)(N n:Nat)(k:List It)(l:List (Nat×V))(L:List (Nat×Option Root))(nx:Nat)(K D O X:List Nat):Option (List V×List (Option Root)×Nat):=
 match BS E N n k ⟨l,cb L,nx,[],[]⟩ with
 | some c=>if c.W.all (fun t=>K.contains t||D.contains t||SV (lk .dead l t))&&c.T.all (fun o=>O.contains o||X.contains o||(fI L o).isNone)&&L.all (fun e=>Nat.ble (e.1+1) nx)&&nA (sU n k) then
  some (K.map (lk .dead c.l),O.map c.rt,c.nx) else none
 | none=>none
theorem SZ:∀{K:List Nat} {vs:List V} {l:List (Nat×V)} {f:Nat→V} {t:Nat},K.map f=vs→lk .dead (K.zip vs++l) t=if t∈K then f t else lk .dead l t
 | [],vs,l,f,t,h=>by cases vs<;>simp
 | k::K,[],l,f,t,h=>by simp at h
 | k::K,v::vs,l,f,t,h=>by
  simp only[List.map_cons,List.cons.injEq] at h
  obtain⟨rfl,h2⟩:=h
  simp only[List.zip_cons_cons,List.cons_append,nz,List.mem_cons]
  by_cases e:k=t
  ·subst e;simp
  ·rw[if_neg e,SZ h2]
   simp[Ne.symm e,show ¬t=k from fun h=>e h.symm]
theorem Yi {D:List Nat}{l:List (Nat×V)}{t:Nat}:lk .dead (D.map (fun t=>(t,V.dead))++l) t=if t∈D then .dead else lk .dead l t:=by
 induction D with
 | nil=>simp
 | cons d D ih=>
  simp only[List.map_cons,List.cons_append,nz,List.mem_cons]
  by_cases e:d=t
  ·subst e;simp
  ·rw[if_neg e,ih]
   simp[show ¬t=d from fun h=>e h.symm]
theorem NP:∀{O:List Nat} {rs:List (Option Root)} {L:List (Nat×Option Root)} {f:Nat→Option Root} {o:Nat},O.map f=rs→fI (O.zip rs++L) o=if o∈O then f o else fI L o
 | [],rs,L,f,o,h=>by cases rs<;>simp
 | k::O,[],L,f,o,h=>by simp at h
 | k::O,v::rs,L,f,o,h=>by
  simp only[List.map_cons,List.cons.injEq] at h
  obtain⟨rfl,h2⟩:=h
  simp only[List.zip_cons_cons,List.cons_append,lI,List.mem_cons]
  by_cases e:k=o
  ·subst e;simp
  ·rw[if_neg e,NP h2]
   simp[show ¬o=k from fun h=>e h.symm]
theorem KL {X:List Nat}{L:List (Nat×Option Root)}{o:Nat}:fI (X.map (fun o=>(o,(none:Option Root)))++L) o=if o∈X then none else fI L o:=by
 induction X with
 | nil=>simp
 | cons d X ih=>
  simp only[List.map_cons,List.cons_append,lI,List.mem_cons]
  by_cases e:d=o
  ·subst e;simp
  ·rw[if_neg e,ih]
   simp[show ¬o=d from fun h=>e h.symm]
theorem VW {L:List (Nat×Option Root)}{nx o:Nat}(h:L.all (fun e=>Nat.ble (e.1+1) nx)=true)(ho:nx≤o):fI L o=none:=by
 induction L with
 | nil=>rfl
 | cons e L ih=>
  obtain⟨k,r⟩:=e
  simp only[List.all_cons,Bool.and_eq_true,Nat.ble_eq] at h
  rw[lI,if_neg (by omega),ih h.2]
theorem N2 {E:Env}{m:Nat}{Q:St→Prop}{k:List It}{tm tm2:List V}{rt rt2:an}{nx:Nat}(hk:nA k=true)(ht:tm2.length=tm.length)(ht2:∀(i:Nat) v,tm2[i]?=some v→tm[i]?=some v∨v=.dead)(hs:∀o r,rt2 o=some r→rt o=some r)(r:Run E m Q k ⟨tm2,rt2,nx⟩):Run E m Q k ⟨tm,rt,nx⟩:=
 .split (fun st=>st=⟨tm2,rt2,nx⟩) hk (fun R=>by
  obtain⟨ρ',R'⟩:=R.sub ht ht2 hs
  exact⟨ρ',_,rfl,R'⟩) fun st h=>h▸r
theorem ck {E:Env}{m:Nat}{Q:St→Prop}{k:List It}{N:Nat}{l:List (Nat×V)}{L:List (Nat×Option Root)}{nx:Nat}(n:Nat)(K D O X:List Nat)(vs:List V)(rs:List (Option Root))(nx':Nat)(h:W1 E N n k l L nx K D O X=some (vs,rs,nx'))(r:Run E m Q (sU n k) ⟨aM .dead N (K.zip vs++(D.map (fun t=>(t,.dead))++l)),cb (O.zip rs++(X.map (fun o=>(o,none))++L)),nx'⟩):Run E m Q k ⟨aM .dead N l,cb L,nx⟩:=by
 unfold W1 at h
 split at h
 ·rename_i c hc
  split at h
  ·rename_i hb
   simp only[Option.some.injEq,Prod.mk.injEq] at h
   obtain⟨hv,hr,rfl⟩:=h
   simp only[Bool.and_eq_true,List.all_eq_true,Bool.or_eq_true,List.contains_eq_mem,decide_eq_true_eq] at hb
   obtain⟨⟨⟨hW,hT⟩,hL⟩,hk⟩:=hb
   obtain⟨h1,h2⟩:=qk (m:=m) (Q:=Q) hc
   refine h2 (N2 hk (by simp[aM]) (fun i v hi=>?_) (fun o r' ho=>?_) r)
   ·rw[jv] at hi ⊢
    split at hi
    ·rename_i hlt
     rw[if_pos hlt]
     cases hi
     rw[SZ hv,Yi]
     by_cases hK:i∈K
     ·rw[if_pos hK];exact .inl rfl
     ·rw[if_neg hK]
      by_cases hD:i∈D
      ·rw[if_pos hD];exact .inr rfl
      ·rw[if_neg hD]
       by_cases hw:i∈c.W
       ·rcases hW i hw with (h | h) | h
        ·exact absurd h hK
        ·exact absurd h hD
        ·right
         generalize lk .dead l i=z at h
         cases z<;>first | rfl | simp[SV] at h
       ·left
        rw[h1.l i hw]
    ·cases hi
   ·simp only[cb] at ho
    rw[NP hr,KL] at ho
    by_cases hO:o∈O
    ·rwa[if_pos hO] at ho
    ·rw[if_neg hO] at ho
     by_cases hX:o∈X
     ·rw[if_pos hX] at ho;cases ho
     ·rw[if_neg hX] at ho
      by_cases hlt:o<nx
      ·by_cases ht:o∈c.T
       ·rcases hT o ht with (h | h) | h
        ·exact absurd h hO
        ·exact absurd h hX
        ·rw[ho] at h;simp at h
       ·rw[h1.rt o ht hlt]
        exact ho
      ·have:=VW (nx:=nx) (List.all_eq_true.2 hL) (Nat.le_of_not_lt hlt)
       rw[this] at ho
       cases ho
  ·cases h
 ·cases h
theorem c0 {E:Env}{m:Nat}{Q:St→Prop}{k:List It}{N:Nat}{l:List (Nat×V)}{L:List (Nat×Option Root)}{nx:Nat}(n:Nat)(K:List Nat)(vs:List V)(nx':Nat)(h:W1 E N n k l L nx K [] [] []=some (vs,[],nx'))(r:Run E m Q (sU n k) ⟨aM .dead N (K.zip vs++l),cb L,nx'⟩):Run E m Q k ⟨aM .dead N l,cb L,nx⟩:=ck n K [] [] [] vs [] nx' h r
def Pm:Nat→List It→Option (List It)
 | 0,k=>some k
 | n+1,k=>(Fu k).bind (Pm n)
theorem ad {E:Env}{m:Nat}{Q:St→Prop}{st:St}:∀(n:Nat) {k k':List It},Pm n k=some k'→Run E m Q k' st→Run E m Q k st
 | 0,k,k',h,r=>by cases h;exact r
 | n+1,k,k',h,r=>by
  obtain⟨k1,h1,h2⟩:=aR.1 h
  exact .step (Fv h1) (ad n h2 r)
end
section
def l5 (L:List (Nat×Option Root))(own:List Bool)(os:List V):List nO→List (Nat×Option Root)
 | []=>[]
 | (o,p,a,k)::g=>(o,(fI L o).bind fun r=>((em own os a).bind fun x=>(cells x)[k]?).bind (iG p r))::l5 L own os g
theorem XX {L:List (Nat×Option Root)}{own:List Bool}{os:List V}{g:List nO}{dead:List Nat}:jG (cb L) g own os dead=cb (l5 L own os g++(dead.map (fun o=>(o,(none:Option Root)))++L)):=by
 funext o
 have key:∀g:List nO,fI (l5 L own os g++(dead.map (fun o=>(o,(none:Option Root)))++L)) o=match ed g o with
   | some (p,a,k)=>(fI L o).bind fun r=>((em own os a).bind fun x=>(cells x)[k]?).bind (iG p r)
   | none=>if o∈dead then none else fI L o:=by
  intro g
  induction g with
  | nil=>simp only[l5,List.nil_append,KL,ed]
  | cons e g ih=>
   obtain⟨o',p,a,k⟩:=e
   simp only[l5,List.cons_append,lI,ed]
   by_cases h:o'=o
   ·subst h;simp
   ·rw[if_neg h,if_neg (fun e=>h e.symm)]
    exact ih
 simp only[jG,cb]
 rw[key g]
 cases ed g o<;>simp
section
variable {E : Env} {L L' : List (Nat × Option Root)} {id : Nat} {rt : an} {s s0 : Nat} {path : fY}
theorem dE {own:List Bool}{os:List V}:l5 L own os []=[]:=rfl
theorem fi {own:List Bool}{os:List V}{o a k:Nat}{p:fY}{g:List nO}{r:Root}{r':Option Root}{x y:V}{G:List (Nat×Option Root)}(h0:fI L o=some r)(h1:em own os a=some x)(h2:(cells x)[k]?=some y)(h3:iG p r y=r')(hs:l5 L own os g=G):l5 L own os ((o,p,a,k)::g)=(o,r')::G:=by
 simp only[l5,h0,h1,h2,h3,hs,cm]
theorem kB {p:fY}{r:Root}:iG p r .dead=none:=by
 cases p with
 | nil=>rfl
 | cons q p=>simp[iG]
theorem OT {q:Nat×Nat}{p:fY}{nv:Nat}{es es2 es3 es':List V}(hp:bp (q::p) s0 es=some (s,es2))(hl:es'.length=es2.length)(hs:setRow es' (q::p) es=some es3):iG (q::p) ⟨nv,s0,es⟩ (.usl s es')=some ⟨nv+1,s0,es3⟩:=by
 simp only[iG,hp,cm]
 rw[if_pos ⟨trivial,hl⟩,hs]
 rfl
theorem eP {o nv nv' m:Nat}{es es2:List V}(hr:fI L o=some ⟨nv',s0,es⟩)(hv:pI path nv nv'=true)(hp:bp path s0 es=some (s,es2))(hm:m=es2.length):io (cb L) (.hs o nv path s 0 m)=some (.usl s es2):=by
 simp only[io,lS hr hv,cm,hp]
 rw[if_pos ⟨trivial,hm,trivial⟩]
theorem abp {o nv nv':Nat}{es:List V}{e:V}(hr:fI L o=some ⟨nv',s0,es⟩)(hv:pI path nv nv'=true)(hp:bp path s0 es=some (s,[e]))(hs:(cells e).length=s):io (cb L) (.hp o nv path s 0 0)=some (.uptr e):=by
 simp only[io,lS hr hv,cm,hp]
 rw[if_pos ⟨trivial,trivial,trivial,hs⟩]
theorem hdC {v w:V}{vs ws:List V}(h1:io rt v=some w)(h2:jJ rt vs=some ws):jJ rt (v::vs)=some (w::ws):=by simp[jJ,h1,h2]
theorem hdN:jJ rt []=some []:=rfl
theorem hdA {vs ws:List V}(h:jJ rt vs=some ws):nZ rt (.agg vs)=some (.agg ws):=by simp[nZ,h]
theorem ge {v w:V}(ha:ay v=false)(h:io rt v=some w):nZ rt v=some w:=by cases v<;>first | (simp[ay] at ha;done) | exact h
def okG (g:List nO)(lent:List Nat):Bool:=ol (0::g.map (·.1))&&lent.all fun o=>!(0::g.map (·.1)).contains o
theorem bW {f:FuncId}{e:Ent}{g:List nO}{args xs:List V}{r v:V}{os ys:List V}{R:List (Nat×Nat×Root)}{G':List (Nat×Option Root)}(he:E.fn f=some e)(hg:bz 0 e.own args=g)(hl:okG g (b6 e.own args)=true)(hx:fk (cb L) e.own args=some xs)(hF:e.F xs=some (r,os))(hi:(di r||dR os)=false∨b6 e.own args=[])(hb:l5 L e.own os g=G')(hr:bU id 0 (fN r)=(ys,R))(hn:Nat.ble R.length 16=true)(hv:vf r ys=v):mH E (cb L) id f args=some (v,cb (qi id R++(G'++L))):=by
 rw[Nat.ble_eq] at hn
 simp only[mH,he,cm,hg,hx,hF,hr]
 rw[if_pos (show (ol (0::g.map (·.1))&&(b6 e.own args).all fun o=>!(0::g.map (·.1)).contains o)=true from hl)]
 rw[if_pos (by simpa[cE] using hn)]
 have hd:(if (di r||dR os)=true then b6 e.own args else [])=[]:=by
  rcases hi with h | h
  ·rw[h];rfl
  ·rw[h];split<;>rfl
 rw[hd,XX,hb,sC,hv]
 simp
end
section
variable {E : Env} {m : Nat} {Q : St→Prop} {ops : Array Oper} {i : Nat} {is : List Nat} {k : List It} {d : V} {n : Nat} {l : List (Nat × V)} {rt rt' rt2 : an} {nx : Nat} {op : Op} {v : V} {t : Nat}
end
theorem dK {E:Env}{d:V}{n:Nat}{l:List (Nat×V)}{rt:an}{nx:Nat}{fo:Operand}{xs:Array Operand}{ts:Array TypeId}{f:FuncId}{caps vs ys:List V}{e:Ent}{r:V}{os:List V}{g:List nO}(hf:il d n l fo=some (.fn f caps))(ha:wU d n l xs.toList=some vs)(he:E.fn f=some e)(hg:bz 0 e.own (vs++caps)=g)(hx:fk rt e.own (vs++caps)=some ys)(hF:e.F ys=some (r,os))(hi:(di r||dR os)=false∨b6 e.own (vs++caps)=[]){W:List Nat}(hW:g.map (·.1)=W):iJ E ⟨aM d n l,rt,nx⟩ (.call { callee:=.value fo,args:=xs,argTypes:=ts })=W:=by
 subst hW
 have hd:(if (di r||dR os)=true then b6 e.own (vs++caps) else [])=[]:=by
  rcases hi with h | h
  ·rw[h];rfl
  ·rw[h];split<;>rfl
 simp only[iJ,gC,xV,hf,ha,xS,he,hg,hx,hF,cm,hd,List.append_nil]
theorem vm {E:Env}{d:V}{n:Nat}{l:List (Nat×V)}{rt:an}{nx:Nat}{xs:Array Operand}{ts:Array TypeId}{dv xv:V}{W:List Nat}(ha:wU d n l xs.toList=some [dv,xv])(h:oS rt dv xv=W):iJ E ⟨aM d n l,rt,nx⟩ (.call { callee:=.builtin .append,args:=xs,argTypes:=ts })=W:=by
 simp only[iJ,xV,ha,h]
theorem uI {L:List (Nat×Option Root)}{o nv nv' s0 s sz off len:Nat}{es0:List V}{path:fY}{dv:V}{α:Type}{f:α→V}{xs:List α}{W:List Nat}(hr:fI L o=some ⟨nv',s0,es0⟩)(hv:pI path nv nv'=true)(hp:bp path s0 es0=some (s,xs.map f))(hf:∀y,ka (f y)=true)(hW:ef dv=W):oS (cb L) dv (.hs o nv path sz off len)=W:=by
 have h:(((xs.map f).drop off).take len).all ka=true:=by
  rw[List.all_eq_true]
  intro z hz
  obtain⟨y,_,rfl⟩:=List.mem_map.1 (List.mem_of_mem_drop (List.mem_of_mem_take hz))
  exact hf y
 simp only[oS,qy hr hv hp,h,if_true,hW,List.append_nil]
theorem abw {L:List (Nat×Option Root)}{s o nv nv' k:Nat}{es:List V}(hr:fI L o=some ⟨nv',s,es⟩)(hk:k=es.length):fQ (cb L) (.hs o nv [] s 0 k)=.usl s es:=by
 have:cb L o=some ⟨nv',s,es⟩:=by simp[cb,hr]
 simp only[fQ,xY,this,cm]
 rw[if_pos ⟨trivial,hk,trivial⟩]
theorem Fx {L:List (Nat×Option Root)}{s o nv nv':Nat}{e:V}(hr:fI L o=some ⟨nv',s,[e]⟩)(hs:(cells e).length=s):fQ (cb L) (.hp o nv [] s 0 0)=.uptr e:=by
 have:cb L o=some ⟨nv',s,[e]⟩:=by simp[cb,hr]
 simp only[fQ,xY,this,cm]
 rw[if_pos ⟨trivial,trivial,trivial,hs⟩]
theorem kJ {L:List (Nat×Option Root)}{s o nv k:Nat}(h:fI L o=none):fQ (cb L) (.hs o nv [] s 0 k)=.dead:=by
 have:cb L o=none:=by simp[cb,h]
 simp only[fQ,xY,this,Option.bind_none]
theorem d4 {rt:an}{own:List Bool}:dG rt own []=[]:=by cases own<;>first | rfl | (rename_i b _;cases b<;>rfl)
theorem bH {rt:an}{own:List Bool}{v:V}{vs ws:List V}(h:dG rt own vs=ws):dG rt (false::own) (v::vs)=ws:=h
theorem fy {rt:an}{own:List Bool}{v w:V}{vs ws:List V}(ha:ay v=false)(h1:fQ rt v=w)(h:dG rt own vs=ws):dG rt (true::own) (v::vs)=w::ws:=by
 have:GF rt v=w:=by cases v<;>first | (simp[ay] at ha;done) | exact h1
 simp only[dG,this,h]
theorem abO {rt:an}{own:List Bool}{cs ds:List V}{vs ws:List V}(h1:cs.map (fQ rt)=ds)(h:dG rt own vs=ws):dG rt (true::own) (.agg cs::vs)=.agg ds::ws:=by
 simp only[dG,GF,h1,h]
theorem mc {α β:Type}{f:α→β}{x:α}{y:β}{xs:List α}{ys:List β}(h1:f x=y)(h:xs.map f=ys):(x::xs).map f=y::ys:=by rw[List.map_cons,h1,h]
theorem mn {α β:Type}{f:α→β}:([]:List α).map f=[]:=rfl
end
section
noncomputable def bA {α β:Type}(own:List Bool)(ea:α→List V)(er:β→V×List V)(f:α→Option β):Ent:=
 ⟨own,fun vs=>open Classical in if h:∃a,ea a=vs then (f h.choose).map er else none⟩
theorem aV {α β:Type}{own:List Bool}{ea:α→List V}{er:β→V×List V}{f:α→Option β}{a:α}{r:β}(inj:∀a b,ea a=ea b→a=b)(h:f a=some r):(bA own ea er f).F (ea a)=some (er r):=by
 have hh:∃b,ea b=ea a:=⟨a,rfl⟩
 simp only[bA]
 rw[dif_pos hh,inj _ _ hh.choose_spec,h]
 rfl
theorem Gz {α β:Type}{own:List Bool}{ea:α→List V}{er:β→V×List V}{f:α→Option β}{vs:List V}{x:V×List V}(h:(bA own ea er f).F vs=some x):∃a r,ea a=vs∧f a=some r∧er r=x:=by
 simp only[bA] at h
 split at h
 ·rename_i hh
  obtain⟨r,h1,h2⟩:=aU.1 h
  exact⟨_,r,hh.choose_spec,h1,h2⟩
 ·cases h
def pX (os os':List V):Prop:=os.length=os'.length∧∀(i:Nat) y,os'[i]?=some y→os[i]?=some y∨y=.dead
theorem kl {os:List V}:pX os os:=⟨rfl,fun _ _ h=>.inl h⟩
theorem dX:pX [] []:=kl
theorem iA {x:V}{os os':List V}(h:pX os os'):pX (x::os) (x::os'):=⟨by simp[h.1],fun i y hy=>by
 cases i with
 | zero=>exact .inl hy
 | succ i=>exact h.2 i y (by simpa using hy)⟩
theorem oZ {x:V}{os os':List V}(h:pX os os'):pX (x::os) (.dead::os'):=⟨by simp[h.1],fun i y hy=>by
 cases i with
 | zero=>simp at hy;exact .inr hy.symm
 | succ i=>exact h.2 i y (by simpa using hy)⟩
theorem vc:∀{own:List Bool} {os os':List V} {a:Nat} {y:V},pX os os'→em own os' a=some y→em own os a=some y∨y=.dead
 | [],os,os',a,y,h,e=>by simp[em] at e
 | true::bs,[],x::ys,a,y,h,e=>by simp[pX] at h
 | true::bs,os,[],a,y,h,e=>by cases a<;>simp[em] at e
 | true::bs,x::xs,x'::ys,0,y,h,e=>by
  simp only[em,Option.some.injEq] at e
  subst e
  rcases h.2 0 x' rfl with h | h
  ·exact .inl (by simpa[em] using h)
  ·exact .inr h
 | true::bs,x::xs,x'::ys,a+1,y,h,e=>by
  simp only[em] at e ⊢
  exact vc ⟨by simpa using h.1,fun i y hy=>by simpa using h.2 (i+1) y (by simpa using hy)⟩ e
 | false::bs,os,os',0,y,h,e=>by cases os'<;>simp[em] at e
 | false::bs,os,os',a+1,y,h,e=>by
  have e':em bs os' a=some y:=by cases os'<;>simpa[em] using e
  have:=vc h e'
  cases os<;>simpa[em] using this
def QF (E:Env)(fn:Func)(own:List Bool)(vs:List V)(x:V×List V)(st:St):Prop:=∃os,lE E fn own (enter fn vs).1 st=some (x.1,os)∧pX os x.2
def bN (E:Env)(fn:Func)(own:List Bool)(m:Nat)(vs:List V)(x:V×List V):Prop:=Run E m (QF E fn own vs x) [.code (aQ fn)] (enter fn vs).2
theorem KE {P:Program}{E:Env}{G:Ground}{f:FuncId}{fn:Func}{own:List Bool}{α β:Type}{ea:α→List V}{er:β→V×List V}{g:α→Option β}{n m:Nat}(hG:∀f e,E.fn f=some e→gf P G f e)(A:Agree P E)(hm:P.follows .mixedOrders=true)(hf:P.funcs[f]?=some fn)(F:Fits fn (aQ fn) n)(hn:∀a,(ea a).length=n∧sR (ea a)=m)(h:∀a r,g a=some r→bN E fn own m (ea a) (er r)):gf P G f (bA own ea er g):=by
 intro w ρ vs us r os ha hi hg hF
 obtain⟨a,r0,rfl,h1,h2⟩:=Gz hF
 have hr:Run E (sR (ea a)) (QF E fn own (ea a) (r,os)) [.code (aQ fn)] (enter fn (ea a)).2:=by
  rw[(hn a).2,←h2]
  exact h a r0 h1
 refine .inr ⟨Hz hf F _ w,fun cs=>?_⟩
 have R:=SD (P:=P) ha hi hg (fn:=fn) (by rw[(hn a).1];exact F.args)
 have hx:=gZ (hr.fin hG A hm R)
 let b:Frame:={ (default:Frame) with fn:=f,kind:=.normal }
 have henter:Frame.enter P f us.toArray .normal =
   b.at { tmps:=us.toArray++Array.replicate (fn.ntmps - us.toArray.size) undef,defers:=[] } ([It.code (aQ fn)].map mT):=by
  simp[Frame.enter,Frame.at,hf,F.body,b,mT]
 obtain⟨a',w',td,⟨ρ',st,R',os0,hQ,hk⟩,hs⟩:=hx b cs
 rw[←henter] at hs
 obtain⟨u,hrun,ρe,q1,q2,q3⟩:=SW A ha hi R' hQ
 refine⟨.returned u,w',_,⟨u,rfl,ρe,q1,q2,?_⟩,hs,rfl,rfl,R'.df,rfl,fn,hf,hrun⟩
 intro i v u' x hv hu hx g hg k y z hy hz hno
 rcases vc hk hx with h | rfl
 ·exact q3 i v u' x hv hu h g hg k y z hy hz hno
 ·have:y=.dead:=by
   cases k<;>simp[cells] at hy
   exact hy.symm
  subst this
  exact absurd trivial hno
theorem aay {E:Env}{m:Nat}{Q:St→Prop}{k:List It}{fn:Func}{vs ys:List V}{R:List (Nat×Nat×Root)}(h:bU 1 0 vs=(ys,R)){n:Nat}(l:List (Nat×V))(hl:ys++List.replicate (fn.ntmps - vs.length) .und=aM .und n l)(nx:Nat)(hx:1+R.length=nx)(hk:nA k=true)(r:Run E m Q k ⟨aM .dead n l,cb (qi 1 R),nx⟩):Run E m Q k (enter fn vs).2:=by
 refine uk (Vz h hl hx) (N2 hk (by simp[aM]) (fun i v hi=>?_) (fun _ _ h=>h) r)
 rw[jv] at hi ⊢
 split at hi
 ·rename_i hlt
  rw[if_pos hlt]
  cases hi
  clear hl h hx r
  induction l with
  | nil=>right;rfl
  | cons e l ih=>
   obtain⟨t,v⟩:=e
   simp only[nz]
   split
   ·exact .inl rfl
   ·exact ih
 ·cases hi
theorem bP {P:Program}{G:Ground}:∀p∈([]:List (FuncId×Ent)),gf P G p.1 p.2:=by simp
theorem bb {P:Program}{G:Ground}{f:FuncId}{e:Ent}{l:List (FuncId×Ent)}(h:gf P G f e)(hs:∀p∈l,gf P G p.1 p.2):∀p∈(f,e)::l,gf P G p.1 p.2:=fun p hp=>by
 rcases List.mem_cons.1 hp with rfl | hp
 ·exact h
 ·exact hs p hp
theorem jt {P:Program}{G:Ground}{f:FuncId}{own:List Bool}{α β:Type}{ea:α→List V}{er:β→V×List V}{F:(α→Option β)→α→Option β}(h:∀self:α→Option β,gf P G f (bA own ea er self)→gf P G f (bA own ea er (F self))):gf P G f (bA own ea er (aP F)):=by
 refine gf.levels (own:=own) (F:=fun k=>(bA own ea er (gQ F k)).F) (fun k=>?_) fun vs x hx=>?_
 ·induction k with
  | zero=>
   intro w ρ vs us r dG h1 h2 h3 h4
   obtain⟨a,r0,_,h5,_⟩:=Gz (own:=own) h4
   cases h5
  | succ k ih=>exact h (gQ F k) ih
 ·simp only[bA] at hx ⊢
  split at hx
  ·rename_i hh
   obtain⟨r,h1,h2⟩:=aU.1 hx
   have h3:∃k,gQ F k hh.choose=some r:=by
    unfold aP at h1
    split at h1
    ·rename_i h4
     cases h1
     exact h4.choose_spec
    ·cases h1
   obtain⟨k,hk⟩:=h3
   exact⟨k,by rw[dif_pos hh,hk,←h2];rfl⟩
  ·cases hx
theorem abI {α:Type}{f:α→V}(hf:∀a b,f a=f b→a=b)(a b:α)(h:[f a]=[f b]):a=b:=hf _ _ (List.cons.inj h).1
theorem abJ {α β:Type}{f:α→V}{g:β→List V}(hf:∀a b,f a=f b→a=b)(hg:∀a b,g a=g b→a=b)(a b:α×β)(h:f a.1::g a.2=f b.1::g b.2):a=b:=by
 obtain⟨h1,h2⟩:=List.cons.inj h
 exact Prod.ext (hf _ _ h1) (hg _ _ h2)
theorem eL {α:Type}{f:α→V}{s:Nat}(hf:∀a b,f a=f b→a=b)(xs ys:List α)(h:V.usl s (xs.map f)=.usl s (ys.map f)):xs=ys:=by
 simp only[V.usl.injEq,true_and] at h
 exact GE hf h
theorem vl {α:Type}{f:α→V}(hf:∀a b,f a=f b→a=b)(a b:α)(h:V.uptr (f a)=.uptr (f b)):a=b:=hf _ _ (V.uptr.inj h)
theorem sc {E:Env}{m:Nat}{Q:St→Prop}{c:Code}{k:List It}{st:St}{α:Type}{b:Bool}{x y:Option α}{r:Option α}(h:(bif b then x else y)=r)(hc:cK c=3)(hv:ev st (Fe c)=some (.bool b))(h1:x=r→Run E m Q (.code (cL c)::k) st)(h2:y=r→Run E m Q (.code (cR c)::k) st):Run E m Q (.code c::k) st:=
 Lc hc hv (fun hb=>h1 (by subst hb;exact h)) (fun hb=>h2 (by subst hb;exact h))
theorem sk {E:Env}{m:Nat}{Q:St→Prop}{c:Code}{k:List It}{st:St}{α:Type}{b:Bool}{x y r:α}(h:(bif b then x else y)=r)(hc:cK c=3)(hv:ev st (Fe c)=some (.bool b))(h1:x=r→Run E m Q (.code (cL c)::k) st)(h2:y=r→Run E m Q (.code (cR c)::k) st):Run E m Q (.code c::k) st:=
 Lc hc hv (fun hb=>h1 (by subst hb;exact h)) (fun hb=>h2 (by subst hb;exact h))
theorem sp {E:Env}{m:Nat}{Q:St→Prop}{d:V}{n:Nat}{l:List (Nat×V)}{rt:an}{nx:Nat}{α:Type}{b:Bool}{x y r:α}(t:Nat)(h:(bif b then x else y)=r)(ht:lk d l t=.bool b){todo:List It}(h1:x=r→Run E m Q todo ⟨aM d n ((t,.bool true)::l),rt,nx⟩)(h2:y=r→Run E m Q todo ⟨aM d n ((t,.bool false)::l),rt,nx⟩):Run E m Q todo ⟨aM d n l,rt,nx⟩:=
 Yo t ht (fun hb=>h1 (by subst hb;exact h)) (fun hb=>h2 (by subst hb;exact h))
theorem gp {α:Type}{f:α→V}{L:List (Nat×Option Root)}{s o nv nv' k:Nat}{xs:List α}(hg:Nat.beq xs.length k=true)(hr:fI L o=some ⟨nv',s,xs.map f⟩):fQ (cb L) (.hs o nv [] s 0 k)=.usl s (xs.map f):=abw hr (by rw[List.length_map];exact (Nat.eq_of_beq_eq_true hg).symm)
theorem gG {α:Type}{b:Bool}{x:Option α}{r:α}(h:(bif b then x else none)=some r):b=true∧x=some r:=by
 cases b
 ·cases h
 ·exact⟨rfl,h⟩
end
section
def nX {α:Type}(xs:List α)(off n:Nat)(i:Int):Option α:=if 0≤i∧i<n then xs[off+i.toNat]? else none
def gb (n:Nat)(lo hi:Int):Option Unit:=if 0≤lo∧lo≤hi∧hi≤n then some () else none
def gF {α:Type}(xs:List α)(off n:Nat):Option (List α):=if off+n≤xs.length then some ((xs.drop off).take n) else none
def uK {α:Type}(xs:List α)(off n:Nat)(z:α):Option (List α):=if off+n≤xs.length then some (xs.take off++List.replicate n z++xs.drop (off+n)) else none
section
variable {E : Env} {L L' : List (Nat × Option Root)} {rt rt' : an} {t : TypeId} {s s0 id : Nat} {path : List (Nat × Nat)} {α : Type} {f g : α→V} {xs ys zs : List α} {a b i : Int} {y : α}
theorem aL {o nv off k:Nat}{p:List (Nat×Nat)}{e:TypeId}(hd:E.desc t=some (.slice e))(hs:(E.ty e).map (·.size)=some s)(hk:k=(xs.map f).length)(h:aC xs i=some y):ip E t (.hs o nv p s off k) i=some (.hp o nv p s (off+i.toNat) 0):=abt hd hs (by rw[hk,List.length_map]) h
theorem kd {o nv off k:Nat}{p:List (Nat×Nat)}(h:gi (E.desc t)=true)(hk:k=(xs.map f).length):sH (E.desc t) (.hs o nv p s off k)=some (I (len xs)):=by
 rw[abL h,hk,List.length_map]
theorem f9 {o nv nv' k:Nat}(hr:fI L o=some ⟨nv',s,xs.map f⟩)(hk:k=(xs.map f).length)(hi:fP (xs.map f)=xs.map g):gH (cb L) (.hs o nv [] s 0 k)=some (.isl false (xs.map g)):=abz hr (by rw[hk,List.length_map]) hi
theorem S5 {z0:α}{k:Int}{e:TypeId}{ei:TI}(hd:E.desc t=some (.slice e))(he:E.ty e=some ei)(hz:gS ei.zv=some (f z0))(hc:0<ei.size∧(cells (f z0)).length=ei.size∧ay (f z0)=eS ei.desc)(hx:vu ei.bytes z0 k=some xs)(hs:ei.size=s) :
  NR E (cb L) id t k k=some (.hs id 0 [] s 0 (xs.map f).length,cb ((id,some ⟨0,s,xs.map f⟩)::L)):=by
 rw[List.length_map];exact W8 hd he hz hc hx hs
theorem mu {es es0:List V}{L2:List (Nat×Option Root)}{xv:V}{e:TypeId}{ei:TI}{o nv nv' k:Nat}(hd:E.desc t=some (.slice e))(he:E.ty e=some ei)(hx:fU (cb L) xv=some (es,cb L'))(hes:es=ys.map f)(hr:fI L' o=some ⟨nv',s0,es0⟩)(hv:pI path nv nv'=true)(hp:bp path s0 es0=some (s,xs.map f))(hk:k=(xs.map f).length)(hsz:0<ei.size∧ei.zv.cells.size=ei.size)(hf:∀y,(cells (f y)).length=ei.size∧(cells (f y)).all fA=true)(hz:iy ei.bytes xs ys=some zs)(hs:ei.size=s)(ht:eX (cb L') o ⟨nv',s0,es0⟩ path=some (cb L2)) :
  kA E (cb L) id t (.hs o nv path s 0 k) xv=some (.hs id 0 [] s 0 (zs.map f).length,cb ((id,some ⟨0,s,zs.map f⟩)::L2)):=by
 subst hes hs
 unfold iy at hz
 split at hz
 ·rename_i hb
  cases hz
  obtain⟨⟨dd,a,b,c⟩,hti,hdd⟩:=rY hd
  simp only at hdd
  subst hdd
  simp only[kA,hti,he,cm,hx]
  rw[if_pos ⟨hsz,by simp[hf]⟩]
  simp only[qy hr hv hp,cm]
  rw[if_pos ⟨trivial,hk,trivial,by rw[hk];simpa using hb.1,by rw[hk];simpa using hb.2⟩,nP hr hv hp hk ht]
  simp only[Option.map_some]
  rw[kx,hk]
  simp
 ·cases hz
theorem lO {o nv k:Nat}{p:List (Nat×Nat)}{lo hi:Option V}{e:TypeId}(hd:E.desc t=some (.slice e))(hs:(E.ty e).map (·.size)=some s)(hk:k=(xs.map f).length)(h1:gn 0 lo=some a)(h2:gn (k:Int) hi=some b)(h:gb xs.length a b=some ()):jm E rt t (.hs o nv p s 0 k) lo hi=some (.hs o nv p s (0+a.toNat) (b.toNat - a.toNat)):=by
 unfold gb at h
 split at h
 ·rename_i hc
  simp only[jm,hd]
  rw[if_pos hs,h1]
  simp only[cm]
  rw[h2]
  simp only[cm]
  rw[if_pos ⟨hc.1,hc.2.1,by rw[hk,List.length_map];exact hc.2.2⟩]
 ·cases h
theorem Gx {k:Nat}(hk:k=(xs.map f).length):gn (k:Int) none=some (len xs):=by rw[hk,List.length_map];rfl
theorem yd {o nv off k:Nat}{p:List (Nat×Nat)}{e:TypeId}(hd:E.desc t=some (.slice e))(hs:(E.ty e).map (·.size)=some s)(h:nX xs off k i=some y):ip E t (.hs o nv p s off k) i=some (.hp o nv p s (off+i.toNat) 0):=by
 unfold nX at h
 split at h
 ·rename_i hc
  simp only[ip,hd]
  rw[if_pos ⟨hc.1,hc.2,hs⟩]
 ·cases h
theorem tX {off k:Nat}(h:nX xs off k i=some y):(xs.map f)[off+i.toNat]?=some (f y):=by
 unfold nX at h
 split at h
 ·rw[List.getElem?_map,h];rfl
 ·cases h
theorem ep {z:α}:((aK xs i z).map f).length=(xs.map f).length:=by simp[aK]
theorem KW {off k:Nat}(h:gF xs off k=some ys):((xs.map f).drop off).take k=ys.map f∧off+k≤(xs.map f).length∧k=ys.length:=by
 unfold gF at h
 split at h
 ·cases h
  refine⟨by rw[List.map_take,List.map_drop],by simpa using ‹_›,?_⟩
  simp
  omega
 ·cases h
theorem yt {o nv nv' off k:Nat}{es:List V}(hr:fI L o=some ⟨nv',s0,es⟩)(hv:pI path nv nv'=true)(hp:bp path s0 es=some (s,xs.map f))(h:gF xs off k=some ys)(hf:∀y,ka (f y)=true):fU (cb L) (.hs o nv path s off k)=some (ys.map f,cb L):=by
 obtain⟨h1,h2,_⟩:=KW (f:=f) h
 simp only[fU,qy hr hv hp,cm]
 rw[if_pos h2,if_neg (by simp),h1,if_pos (by simp[hf])]
theorem Ke {o nv nv' off k:Nat}{es:List V}(hr:fI L o=some ⟨nv',s0,es⟩)(hv:pI path nv nv'=true)(hp:bp path s0 es=some (s,xs.map f))(h:gF xs off k=some ys)(h0:off=0)(ht:eX (cb L) o ⟨nv',s0,es⟩ path=some rt'):cQ (cb L) (.hs o nv path s off k)=some (.usl s (ys.map f),rt'):=by
 obtain⟨h1,h2,_⟩:=KW (f:=f) h
 subst h0
 simp only[cQ,lS hr hv,cm,hp]
 rw[if_pos ⟨trivial,by omega,trivial⟩,ht]
 rw[List.drop_zero] at h1
 rw[h1]
 rfl
theorem W2 {o nv nv' off k:Nat}{e:TypeId}{ei:TI}{z0:α}(hd:E.desc t=some (.slice e))(he:E.ty e=some ei)(hz:gS ei.zv=some (f z0))(hr:fI L o=some ⟨nv',s,xs.map f⟩)(hc:(cells (f z0)).length=s∧0<s)(hf:∀y,ka (f y)=true)(h:uK xs off k z0=some ys):nS E (cb L) t (.hs o nv [] s off k)=some (cb ((o,some ⟨nv',s,ys.map f⟩)::L)):=by
 unfold uK at h
 split at h
 ·rename_i hl
  cases h
  obtain⟨⟨dd,a,b,c⟩,hti,hdd⟩:=rY hd
  simp only at hdd
  subst hdd
  have hm:cb L o=some ⟨nv',s,xs.map f⟩:=hr
  simp only[nS,hti,he,hz,hm,cm]
  rw[if_pos ⟨⟨trivial,by simpa using hl,hc⟩,by simp[hf]⟩,kx]
  simp[List.map_append,List.map_take,List.map_drop]
 ·cases h
theorem ND {d:V}{n:Nat}{l:List (Nat×V)}{nx:Nat}{x:Operand}{xv:V}{ts:Array TypeId}(hx:il d n l x=some xv)(ht:ts[0]?=some t)(h:nS E rt t xv=some rt'):bu E id ⟨aM d n l,rt,nx⟩ (.call { callee:=.builtin .clear,args:=#[x],argTypes:=ts })=some (.tup [],rt'):=by
 simp only[bu,lA,ic,gC,hx,cm,Option.map_some,fb,ht,h]
end
theorem Sv {xs:List Int}:pB (xs.map (V.int .u8))=some (xs.map fun n=>UInt8.ofNat n.toNat):=by
 induction xs with
 | nil=>rfl
 | cons x xs ih=>simp[pB,ih]
theorem Vy {E:Env}{rt:an}{t t' e:TypeId}{v:V}{xs:List Int}(hs:E.desc t=some (.slice e))(hd:E.desc t'=some .string)(h8:Pe (E.desc e)=true)(hr:sS rt v=some (xs.map (V.int .u8))):pe E rt t t' v=some (str (xs.map fun n=>UInt8.ofNat n.toNat)):=by
 simp only[pe,hs,hd]
 rw[if_pos h8,hr]
 simp only[cm,Sv,Option.map_some]
 rfl
theorem aby {L:List (Nat×Option Root)}{o nv nv' s s0 m:Nat}{path:fY}{es es2:List V}(hr:fI L o=some ⟨nv',s0,es⟩)(hv:pI path nv nv'=true)(hp:bp path s0 es=some (s,es2))(hm:m=es2.length):sS (cb L) (.hs o nv path s 0 m)=some es2:=by
 simp only[sS,qy hr hv hp,cm]
 rw[if_pos ⟨trivial,by omega⟩,hm,List.drop_zero,List.take_length]
end
section
section
variable {α : Type} {f : α→V} {xs ys : List α} {i : Int} {y : α} {w : V} {off k : Nat}
theorem lF (hw:f y=w)(h:aC xs i=some y):(xs.map f)[0+i.toNat]?=some w:=hw▸aB h
theorem BU (hw:f y=w):(xs.map f).set (0+i.toNat) w=(aK xs i y).map f:=hw▸eK
theorem eU (h:Nat.beq ys.length xs.length=true):(xs.map f).length=(ys.map f).length:=by simpa using (Nat.eq_of_beq_eq_true h).symm
end
end
section
theorem Nz {α:Type}{f:α→V}{xs ys:List α}{off n:Nat}{z:α}(h:uK xs off n z=some ys):(xs.map f).length=(ys.map f).length:=by
 unfold uK at h
 split at h
 ·cases h
  simp
  omega
 ·cases h
end
section
def jX {α:Type}(f:α→V)(xs:List α):V:=.isl false (xs.map f)
def kM {α:Type}(s:Nat)(f:α→V)(xs:List α):V:=.usl s (xs.map f)
def Xc {α:Type}(f:α→V)(x:α):V:=.uptr (f x)
def oA {α:Type}(f:α→V)(x:α):List V:=[f x]
def cA {α β:Type}(f:α→V)(g:β→List V)(x:α×β):List V:=f x.1::g x.2
theorem aW {α:Type}{f:α→V}(hf:∀a b,f a=f b→a=b):∀a b,oA f a=oA f b→a=b:=abI hf
theorem aY {α β:Type}{f:α→V}{g:β→List V}(hf:∀a b,f a=f b→a=b)(hg:∀a b,g a=g b→a=b):∀a b,cA f g a=cA f g b→a=b:=abJ hf hg
end
section
theorem rin {E:Env}{m:Nat}{Q:St→Prop}{k:List It}{fn:Func}{vs:List V}{n:Nat}(l:List (Nat×V))(L:List (Nat×Option Root))(nx:Nat)(hl:(bU 1 0 vs).1++List.replicate (fn.ntmps - vs.length) .und=aM .und n l)(hL:qi 1 (bU 1 0 vs).2=L)(hx:1+(bU 1 0 vs).2.length=nx)(hk:nA k=true)(r:Run E m Q k ⟨aM .dead n l,cb L,nx⟩):Run E m Q k (enter fn vs).2:=
 aay (ys:=(bU 1 0 vs).1) (R:=(bU 1 0 vs).2) rfl l hl nx hx hk (by rw[hL];exact r)
end
section
def Gv (k:IntKind)(x y:Int):Int:=k.wrap ((BitVec.ofInt k.bits x &&& BitVec.ofInt k.bits y).toNat:Nat)
def cN (k:IntKind)(x y:Int):Int:=k.wrap ((BitVec.ofInt k.bits x ^^^ BitVec.ofInt k.bits y).toNat:Nat)
def d5 (k:IntKind)(a b:Int):Int:=k.wrap (a*2 ^ min b.toNat k.bits)
def gk (k:IntKind)(a b:Int):Int:=a.fdiv (2 ^ min b.toNat k.bits)
def V9 (k:IntKind)(a b:Int):Option Int:=if b<0 then none else some (d5 k a b)
theorem abi {E:Env}{t:TypeId}{k k':IntKind}{a b c:Int}{lit:Bool}(h:V9 k a b=some c):nQ E .shl t (.int k a) (.int k' b) lit=some (.int k c):=by
 unfold V9 at h
 split at h
 ·cases h
 ·rename_i hb
  cases h
  simp only[nQ,wZ]
  rw[if_neg hb]
  rfl
end
section
def uU:Op→Bool
 | .move _ | .assign _ | .pick .. | .build .. | .binOp .. | .unOp .. | .field .. | .index .. | .extract ..=>true
 | _=>false
theorem VS {E:Env}{id:Nat}{st:St}{op:Op}{v:V}{rt:an}(hl:uU op=true)(h:bu E id st op=some (v,rt)):rt=st.rt:=by
 cases op<;>simp only[uU,Bool.false_eq_true] at hl<;>simp only[bu,aR,aU,Prod.mk.injEq] at h
 case move=>obtain⟨_,_,_,h⟩:=h;exact h.symm
 case assign=>obtain⟨_,_,_,h⟩:=h;exact h.symm
 case pick=>obtain⟨_,_,_,_,_,h⟩:=h;exact h.symm
 case build=>obtain⟨_,_,_,_,_,h⟩:=h;exact h.symm
 case binOp=>obtain⟨_,_,_,_,_,_,_,h⟩:=h;exact h.symm
 case unOp=>obtain⟨_,_,_,_,_,h⟩:=h;exact h.symm
 case field=>
  obtain⟨x,_,y,_,h⟩:=h
  cases x<;>simp only[reduceCtorEq] at h
  split at h
  ·simp only[aU,Prod.mk.injEq] at h
   obtain⟨_,_,_,h⟩:=h;exact h.symm
  ·cases h
 case index=>
  obtain⟨x,_,y,_,h⟩:=h
  cases y<;>simp only[reduceCtorEq,aU,Prod.mk.injEq] at h
  obtain⟨_,_,_,h⟩:=h;exact h.symm
 case extract=>
  obtain⟨x,_,h⟩:=h
  cases x<;>simp only[reduceCtorEq,aU,Prod.mk.injEq] at h
  obtain⟨_,_,_,h⟩:=h;exact h.symm
theorem Yf {st:St}{op:Op}(hl:uU op=true):gv st op=[]:=by
 cases op<;>simp only[uU,Bool.false_eq_true] at hl<;>rfl
theorem Yg {E:Env}{st:St}{op:Op}(hl:uU op=true):iJ E st op=[]:=by
 cases op<;>simp only[uU,Bool.false_eq_true] at hl<;>rfl
theorem NS {base:Nat}{ms:List Nat}{i:Nat}{log:nt}:pS base ms i [] [] log=true:=by
 simp[pS]
theorem K1 {t:Option Nat}{v:V}{acc l:List (Nat×V)}:ig t v (acc++l)=ig t v acc++l:=by cases t<;>rfl
def dL (E:Env)(ops:Array Oper)(N nx:Nat)(rt:an)(l:List (Nat×V)):Nat→Nat→List (Nat×V)→Option (List (Nat×V))
 | 0,_,acc=>some acc
 | n+1,i,acc=>(ops[i]?).bind fun o=>(ix ops ⟨aM .dead N (acc++l),rt,nx⟩ o).bind fun b=>match b with
  | true=>match uU o.op with
   | true=>(bu E (nx+cE*i) ⟨aM .dead N (acc++l),rt,nx⟩ o.op).bind fun r=>dL E ops N nx rt l n (i+1) (ig o.dst r.1 acc)
   | false=>none
  | false=>dL E ops N nx rt l n (i+1) (ig o.dst .und acc)
def Pg:Nat→Nat→nt→nt
 | 0,_,log=>log
 | n+1,i,log=>Pg n (i+1) ((i,[],[])::log)
section
variable {E : Env} {m : Nat} {Q : St→Prop} {ops : Array Oper} {ms : List Nat} {k : List It} {N nx : Nat} {rt : an} {l : List (Nat × V)}
theorem BH:∀{n i:Nat} {acc acc':List (Nat×V)} {log:nt},dL E ops N nx rt l n i acc=some acc'→
  Run E m Q (.dops ops ms (i+n) (Pg n i log)::k) ⟨aM .dead N (acc'++l),rt,nx⟩→Run E m Q (.dops ops ms i log::k) ⟨aM .dead N (acc++l),rt,nx⟩
 | 0,i,acc,acc',log,h,r=>by
  simp only[dL,Option.some.injEq] at h
  subst h
  exact r
 | n+1,i,acc,acc',log,h,r=>by
  simp only[dL,aR] at h
  obtain⟨o,ho,b,hb,h⟩:=h
  have r':Run E m Q (.dops ops ms (i+1+n) (Pg n (i+1) ((i,[],[])::log))::k) ⟨aM .dead N (acc'++l),rt,nx⟩:=by
   rw[Nat.add_right_comm];exact r
  cases b with
  | true=>
   simp only at h
   split at h
   ·rename_i hl
    simp only[aR] at h
    obtain⟨⟨v,rt1⟩,hv,h⟩:=h
    have e:=VS hl hv
    dsimp only at e
    rw[e] at hv
    refine .dop (log':=(i,[],[])::log) (st':=⟨aM .dead N (ig o.dst v acc++l),rt,nx⟩) ?_ (BH h r')
    simp[nT,fT,ho,hb,hv,iC,Yf hl,Yg hl,NS,K1]
   ·cases h
  | false=>
   simp only at h
   refine .dop (log':=(i,[],[])::log) (st':=⟨aM .dead N (ig o.dst .und acc++l),rt,nx⟩) ?_ (BH h r')
   simp[nT,fT,ho,hb,iC,NS,K1]
theorem HH:∀{l:List (Nat×V)},(l.map (·.1)).zip (l.map (·.2))=l
 | []=>rfl
 | (a,b)::l=>by simp[HH]
theorem dk {i:Nat}{log:nt}(n:Nat)(K:List Nat)(vs:List V)(r:Run E m Q (.dops ops ms (i+n) (Pg n i log)::k) ⟨aM .dead N (K.zip vs++l),rt,nx⟩)(h:(dL E ops N nx rt l n i []).map (fun a=>(a.map (·.1),a.map (·.2)))=some (K,vs):=by kernel_rfl):Run E m Q (.dops ops ms i log::k) ⟨aM .dead N l,rt,nx⟩:=by
 simp only[aU,Prod.mk.injEq] at h
 obtain⟨a,h1,h2,h3⟩:=h
 subst h2 h3
 rw[HH] at r
 exact BH (acc:=[]) h1 r
end
section
variable {E : Env} {m : Nat} {Q : St→Prop} {ops : Array Oper} {i : Nat} {is : List Nat} {k : List It} {d : V} {n : Nat} {l : List (Nat × V)} {rt rt' : an} {nx : Nat} {op : Op} {v : V} {t : Nat} {ms : List Nat} {log : nt}
theorem dq (R W:List Nat)(v:V)(ho:re ops i=some (some t,op))(hv:bu E (nx+16*i) ⟨aM d n l,rt,nx⟩ op=some (v,rt'))(r:Run E m Q (.dops ops ms (i+1) ((i,R,W)::log)::k) ⟨aM d n ((t,v)::l),rt',nx⟩)(hW:iJ E ⟨aM d n l,rt,nx⟩ op=W:=by exact rfl)(hR:gv ⟨aM d n l,rt,nx⟩ op=R:=by exact rfl)(hc:pS nx ms i R W log=true:=by decide):Run E m Q (.dops ops ms i log::k) ⟨aM d n l,rt,nx⟩:=dp R W v ho hv hR hW hc r
theorem dz (R W:List Nat)(ho:re ops i=some (none,op))(hv:bu E (nx+16*i) ⟨aM d n l,rt,nx⟩ op=some (v,rt'))(r:Run E m Q (.dops ops ms (i+1) ((i,R,W)::log)::k) ⟨aM d n l,rt',nx⟩)(hW:iJ E ⟨aM d n l,rt,nx⟩ op=W:=by exact rfl)(hR:gv ⟨aM d n l,rt,nx⟩ op=R:=by exact rfl)(hc:pS nx ms i R W log=true:=by decide):Run E m Q (.dops ops ms i log::k) ⟨aM d n l,rt,nx⟩:=dp0 R W ho hv hR hW hc r
theorem dy {g:Nat}{w:Bool}(R W:List Nat)(v:V)(ho:mK ops i=some (some t,op,some g,w))(hv:bu E (nx+16*i) ⟨aM d n l,rt,nx⟩ op=some (v,rt'))(r:Run E m Q (.dops ops ms (i+1) ((i,R,W)::log)::k) ⟨aM d n ((t,v)::l),rt',nx⟩)(hW:iJ E ⟨aM d n l,rt,nx⟩ op=W:=by exact rfl)(hR:gv ⟨aM d n l,rt,nx⟩ op=R:=by exact rfl)(hn:Nat.ble (g+1) n=true:=by exact rfl)(hg:gd (lk d l g) w=some true:=by exact rfl)(hc:pS nx ms i R W log=true:=by decide):Run E m Q (.dops ops ms i log::k) ⟨aM d n l,rt,nx⟩:=dg R W v ho hn hg hv hR hW hc r
theorem oq (nx':Nat)(v:V)(ho:re ops i=some (some t,op))(hv:bu E nx ⟨aM d n l,rt,nx⟩ op=some (v,rt'))(r:Run E m Q (.ops ops is::k) ⟨aM d n ((t,v)::l),rt',nx'⟩)(hx:nx+16=nx':=by exact rfl):Run E m Q (.ops ops (i::is)::k) ⟨aM d n l,rt,nx⟩:=o nx' v hx ho hv r
theorem oy {g:Nat}{w:Bool}(nx':Nat)(v:V)(ho:mK ops i=some (some t,op,some g,w))(hv:bu E nx ⟨aM d n l,rt,nx⟩ op=some (v,rt'))(r:Run E m Q (.ops ops is::k) ⟨aM d n ((t,v)::l),rt',nx'⟩)(hx:nx+16=nx':=by exact rfl)(hn:Nat.ble (g+1) n=true:=by exact rfl)(hg:gd (lk d l g) w=some true:=by exact rfl):Run E m Q (.ops ops (i::is)::k) ⟨aM d n l,rt,nx⟩:=og nx' v hx ho hn hg hv r
theorem cq {N:Nat}{L:List (Nat×Option Root)}(n:Nat)(K:List Nat)(vs:List V)(nx':Nat)(r:Run E m Q (sU n k) ⟨aM .dead N (K.zip vs++l),cb L,nx'⟩)(h:W1 E N n k l L nx K [] [] []=some (vs,[],nx'):=by kernel_rfl):Run E m Q k ⟨aM .dead N l,cb L,nx⟩:=c0 n K vs nx' h r
theorem aq {st:St}{k k':List It}(n:Nat)(r:Run E m Q k' st)(h:Pm n k=some k':=by exact rfl):Run E m Q k st:=ad n h r
theorem abv:∀{L:List (Option Root)} {rs:List Root},L.map (fun x=>x.map fun r=>(⟨0,r.s,r.es⟩:Root))=rs.map some→∃rs0:List Root,L=rs0.map some∧vw rs0 1=vw rs 1:=by
 intro L
 suffices h:∀(L:List (Option Root)) (rs:List Root) (i:Nat),L.map (fun x=>x.map fun r=>(⟨0,r.s,r.es⟩:Root))=rs.map some→∃rs0:List Root,L=rs0.map some∧vw rs0 i=vw rs i from fun {rs}=>h L rs 1
 intro L
 induction L with
 | nil=>
  intro rs i h
  cases rs with
  | nil=>exact⟨[],rfl,rfl⟩
  | cons r rs=>simp at h
 | cons x L ih=>
  intro rs i h
  cases rs with
  | nil=>simp at h
  | cons r rs=>
   simp only[List.map_cons,List.cons.injEq,aU] at h
   obtain⟨⟨y,rfl,rfl⟩,h2⟩:=h
   obtain⟨rs0,h3,h4⟩:=ih rs (i+1) h2
   exact⟨y::rs0,by rw[h3];rfl,by simp only[vw];rw[h4]⟩
theorem rf (L os:List Nat){rs:List Root}(r:Run E m Q k ⟨aM .dead n (L.map fun t=>(t,fu rt os (lk d l t))),cb (vw rs 1),os.length+1⟩)(hk:nA k=true:=by exact rfl)(hrs:(os.map rt).map (fun x=>x.map fun r=>(⟨0,r.s,r.es⟩:Root))=rs.map some:=by exact rfl)(ha:sD n 0 L=true:=by exact rfl)(hos:oI (ja m) (et (L.map (lk d l)))=os:=by exact rfl):Run E m Q k ⟨aM d n l,rt,nx⟩:=by
 obtain⟨rs0,h1,h2⟩:=abv hrs
 rw[←h2] at r
 exact Pp L os rs0 ha hos h1 hk r
theorem sq {c:Code}{st:St}{α:Type}{b:Bool}{x y:Option α}{r:Option α}(h:(bif b then x else y)=r)(h1:x=r→Run E m Q (.code (cL c)::k) st)(h2:y=r→Run E m Q (.code (cR c)::k) st)(hc:cK c=3:=by exact rfl)(hv:ev st (Fe c)=some (.bool b):=by exact rfl):Run E m Q (.code c::k) st:=sc h hc hv h1 h2
end
abbrev sT (n:Nat)(l:List (Nat×V))(rs:List Root)(nx:Nat):St:=⟨aM .dead n l,cb (vw rs 1),nx⟩
theorem qb {L:List (Nat×Option Root)}{path:fY}{s0 s o nv nv':Nat}{es:List V}{e:V}(hr:fI L o=some ⟨nv',s0,es⟩)(hv:pI path nv nv'=true)(hp:bp path s0 es=some (s,[e]))(hs:(cells e).length=s:=by exact rfl):io (cb L) (.hp o nv path s 0 0)=some (.uptr e):=abp hr hv hp hs
theorem VC {α β:Type}{F:(α→Option β)→α→Option β}{P:α→β→Prop}(hF:∀a,Fin1 fun f=>F f a)(hs:∀f:α→Option β,(∀a b,f a=some b→P a b)→∀a b,F f a=some b→P a b):∀a r,aP F a=some r→P a r:=fun _ _ h=>X6 hF hs h
end
section
section
variable {E : Env} {id : Nat} {L : List (Nat × Option Root)}
end
section
variable {E : Env} {m : Nat} {Q : St→Prop} {ops : Array Oper} {i : Nat} {k : List It} {d : V} {n : Nat} {l : List (Nat × V)} {rt rt' : an} {nx : Nat} {op : Op} {v : V} {t : Nat} {ms : List Nat} {log : nt}
def Le1 (a b:Nat×List Nat×List Nat):Prop:=a.1=b.1∧(∀x∈a.2.1,x∈b.2.1)∧∀x∈a.2.2,x∈b.2.2
def WV:nt→nt→Prop
 | [],[]=>True
 | a::ax,b::bs=>Le1 a b∧WV ax bs
 | _,_=>False
theorem WV.refl:∀{l:nt},WV l l
 | []=>trivial
 | _::_=>⟨⟨rfl,fun _ h=>h,fun _ h=>h⟩,WV.refl⟩
end
end
section
variable {G : Ground} {m : Nat} {w0 w : World} {ρ0 ρ : bV} {st : St} {a : Act}
def Fr (os L:List Nat)(st:St):St:={ tm:=lL st.rt os (gq L 0 st.tm),rt:=gR st.rt os,nx:=os.length+1 }
theorem gK.moved (R:gK G m w0 ρ0 w ρ st a)(L os:List Nat)(hd:os.Nodup)(hfx:∀i,0<i→i≤m→os[i - 1]?=some i∨∃o,os[i - 1]?=some o∧st.rt o=none):∃ρ',gK G m w0 ρ0 w ρ' (Fr os L st) a:=by
 have hlen:m≤os.length:=by
  by_cases h0:m=0
  ·omega
  ·rcases hfx m (by omega) (Nat.le_refl _) with h | ⟨o,h,_⟩
   ·have:=(cZ.1 h).1;omega
   ·have:=(cZ.1 h).1;omega
 have nn:∀(i:Nat) v,(gq L 0 st.tm)[i]?=some v→az (cC (eN st.nx) st.rt) v:=fun i v hv=>by
  obtain⟨v0,h1,h2 | h2⟩:=pF hv
  ·subst h2;exact R.tmn i v h1
  ·subst h2;simp[az]
 refine⟨ij ρ os,⟨?_,?_,FK hd R.inj,?_,?_,?_,?_,?_,R.wk,?_,?_,?_,R.df,?_,?_,R.le,fun i h1 h2=>by unfold Fr eN at h2;simp only at h2;omega⟩⟩
 ·refine⟨by show (lL st.rt os (gq L 0 st.tm)).length=_;rw[gj,List.length_map,xb];exact R.tm.1,fun i v u hv hu=>?_⟩
  change (lL st.rt os (gq L 0 st.tm))[i]?=some v at hv
  rw[gj,List.getElem?_map] at hv
  obtain⟨v1,hv1,rfl⟩:=aU.1 hv
  obtain⟨v0,h0,h2 | h2⟩:=pF hv1
  ·subst h2
   obtain⟨g,hg,hs⟩:=R.tm.2 i v1 u h0 hu
   refine⟨g,?_,fun k x hx=>?_⟩
   ·rw[hg];unfold fS;rw[Gu,nu,List.length_map]
   ·rw[nu,List.getElem?_map] at hx
    obtain⟨x0,hx0,rfl⟩:=aU.1 hx
    exact NY R.lab hd (hs k x0 hx0) rfl (eQ (by rintro o nv ⟨_,h⟩;exact h.elim) (jl (R.tmn i v1 h0) hx0))
  ·subst h2
   simp only[fu]
   exact be.mk1 rfl (.dead _ _)
 ·exact NZ hd R.lab R.rok R.rtn
 ·intro n r h
  obtain⟨o,r0,_,h1,rfl⟩:=sj hd h
  exact R.rtn o r0 h1
 ·exact NW hd R.lab
 ·exact fun o ho=>FL ho
 ·intro o ho;unfold Fr eN at ho;simp only at ho;omega
 ·intro i v hv
  change (lL st.rt os (gq L 0 st.tm))[i]?=some v at hv
  rw[gj,List.getElem?_map] at hv
  obtain⟨v1,hv1,rfl⟩:=aU.1 hv
  exact K8 hd (nn i v1 hv1)
 ·exact fun b h1 h2=>⟨mz (R.fr b h1 h2).1,(R.fr b h1 h2).2⟩
 ·exact fun b l h=>⟨FJ (R.k0 b l h).1,(R.k0 b l h).2⟩
 ·intro b l h
  rcases mh h with⟨_,h1⟩ | ⟨o,h1,h2,h3⟩
  ·exact R.f0 b l h1
  ·have:=(jK h3).1;omega
 ·exact⟨R.gr.1,fun b hb=>mz (R.gr.2.1 b hb),R.gr.2.2⟩
 ·intro i b n hi hb hn hs
  have hle:=R.le b i [] hb
  change (gR st.rt os i).isSome=true at hs
  rcases hfx i hi hle with h | ⟨o,h,h2⟩
  ·have hx:oH i os 1=some i:=by rw[tY hd h];congr 1;omega
   rw[ot hx] at hs
   have h0:=R.am i b n hi hb hn (by simpa using hs)
   exact⟨kG h0.1 (by omega) hx,h0.2⟩
  ·have hx:oH o os 1=some i:=by rw[tY hd h];congr 1;omega
   rw[ot hx,h2] at hs
   cases hs
def Hy:List (Option Root)→Nat→List (Nat×Option Root)
 | [],_=>[]
 | none::rs,i=>Hy rs (i+1)
 | some r::rs,i=>(i,some ⟨0,r.s,r.es⟩)::Hy rs (i+1)
theorem GL:∀{rs:List (Option Root)} {i o:Nat},fI (Hy rs i) o=if i≤o then (rs[o - i]?).bind fun x=>x.map fun r=>⟨0,r.s,r.es⟩ else none
 | [],i,o=>by simp[Hy,fI]
 | none::rs,i,o=>by
  simp only[Hy]
  rw[GL]
  by_cases h:i+1≤o
  ·rw[if_pos h,if_pos (by omega),show o - i=(o - (i+1))+1 by omega,List.getElem?_cons_succ]
  ·rw[if_neg h]
   split
   ·rw[show o - i=0 by omega];rfl
   ·rfl
 | some r::rs,i,o=>by
  simp only[Hy,lI]
  rw[GL]
  by_cases h:i=o
  ·subst h;simp
  ·rw[if_neg h]
   by_cases h2:i+1≤o
   ·rw[if_pos h2,if_pos (by omega),show o - i=(o - (i+1))+1 by omega,List.getElem?_cons_succ]
   ·rw[if_neg h2,if_neg (by omega)]
abbrev sO (n:Nat)(l:List (Nat×V))(rs:List (Option Root))(nx:Nat):St:=⟨aM .dead n l,cb (Hy rs 1),nx⟩
def aar (m:Nat)(os:List Nat)(rt:an):Bool:=(List.range m).all fun j=>match os[j]? with
 | some o=>o==j+1||(rt o).isNone
 | none=>false
theorem Ta {m:Nat}{os:List Nat}{rt:an}(h:aar m os rt=true):∀i,0<i→i≤m→os[i - 1]?=some i∨∃o,os[i - 1]?=some o∧rt o=none:=by
 intro i h1 h2
 have:=List.all_eq_true.1 h (i - 1) (List.mem_range.2 (by omega))
 split at this
 ·rename_i o ho
  simp only[Bool.or_eq_true,beq_iff_eq,Option.isNone_iff_eq_none] at this
  rcases this with h3 | h3
  ·left;rw[ho,h3];congr 1;omega
  ·exact .inr ⟨o,ho,h3⟩
 ·cases this
def Fw:List Nat→Bool
 | []=>true
 | x::xs=>!xs.contains x&&Fw xs
theorem zB:∀{l:List Nat},Fw l=true→l.Nodup
 | [],_=>List.nodup_nil
 | x::xs,h=>by
  simp only[Fw,Bool.and_eq_true,Bool.not_eq_true',List.contains_eq_mem,decide_eq_false_iff_not] at h
  exact List.nodup_cons.2 ⟨h.1,zB h.2⟩
theorem rg {E:Env}{Q:St→Prop}{k:List It}{d:V}{n:Nat}{l:List (Nat×V)}{rt:an}{nx:Nat}(L os:List Nat){rs:List (Option Root)}(r:Run E m Q k ⟨aM .dead n (L.map fun t=>(t,fu rt os (lk d l t))),cb (Hy rs 1),os.length+1⟩)(hk:nA k=true:=by exact rfl)(hrs:(os.map rt).map (fun x=>x.map fun r=>(⟨0,r.s,r.es⟩:Root))=rs:=by exact rfl)(ha:sD n 0 L=true:=by exact rfl)(hd:Fw os=true:=by exact rfl)(hf:aar m os rt=true:=by exact rfl):Run E m Q k ⟨aM d n l,rt,nx⟩:=by
 subst hrs
 refine .split (fun st'=>st'=Fr os L ⟨aM d n l,rt,nx⟩) hk (fun R=>?_) (fun st' e=>?_)
 ·obtain⟨ρ',R'⟩:=R.moved L os (zB hd) (Ta hf)
  exact⟨ρ',_,rfl,R'⟩
 ·subst e
  refine uk ?_ r
  have hkeep:gq L 0 (aM d n l)=(List.range' 0 n).map fun t=>if L.contains t then lk d l t else .dead:=by rw[qe,xc]
  unfold Fr
  refine yo ?_ ?_ rfl
  ·simp only
   rw[hkeep,gj,List.map_map,qe]
   apply List.map_congr_left
   intro t _
   simp only[Function.comp]
   rw[Pf]
   split
   ·rfl
   ·rfl
  ·simp only
   funext o
   simp only[gR,wY,cb]
   rw[GL]
   by_cases h0:o=0
   ·subst h0;simp
   ·rw[if_neg h0,if_pos (by omega)]
    simp only[List.getElem?_map,List.map_map]
    cases os[o - 1]? with
    | none=>rfl
    | some x=>
     simp only[Option.map_some,cm,Function.comp]
     cases rt x<;>rfl
end
section
theorem S4 {E:Env}{L:List (Nat×Option Root)}{id s:Nat}{t:TypeId}{α:Type}{f g:α→V}{xs:List α}{z0:α}{k:Int}{e:TypeId}{ei:TI}(hd:E.desc t=some (.slice e))(he:E.ty e=some ei)(hz:gS ei.zv=some (f z0))(hc:0<ei.size∧(cells (f z0)).length=ei.size∧ay (f z0)=eS ei.desc)(hx:vu ei.bytes z0 k=some xs)(hs:ei.size=s) :
  NR E (cb L) id t k k=some (.hs id 0 [] s 0 (xs.map g).length,cb ((id,some ⟨0,s,xs.map f⟩)::L)):=by
 rw[List.length_map];exact W8 hd he hz hc hx hs
end
section
variable {G : Ground} {m : Nat} {w0 w : World} {ρ0 ρ : bV} {st : St} {a : Act}
theorem zK {rt rt1:an}{o:Nat}{r:Root}{path:fY}(h:eX rt o r path=some rt1):(path=[]∧rt1=upd rt o none)∨(path≠[]∧∃es,rt1=upd rt o (some { r with es:=es })):=by
 unfold eX at h
 split at h
 ·rename_i he
  cases h
  exact .inl ⟨List.reverse_eq_nil_iff.1 he,rfl⟩
 ·rename_i i k q he
  simp only[aR,aU] at h
  obtain⟨_,_,_,_,es,_,rfl⟩:=h
  exact .inr ⟨fun e=>by subst e;simp at he,es,rfl⟩
theorem gK.take {t k o nv s len : Nat}{path : fY}{v : V}{r : Root}{es : List V}{rt1 : an}(ht : st.tm[t]? = some v)(hk : (cells v)[k]? = some (.hs o nv path s 0 len))(hv : cr st.rt o nv path = some r)(hrow : bp path r.s r.es = some (s, es))(hto : eX st.rt o r path=some rt1)(R : gK G m w0 ρ0 w ρ st a) :
    gK G m w0 ρ0 w (eV ρ o path st.nx []) ⟨st.tm.set t (dY v k (.hs st.nx 0 [] s 0 len)),upd rt1 st.nx (some ⟨0,s,es⟩),st.nx + cE⟩ a:=by
  have hnx : st.rt st.nx=none:=R.fresh _ (Nat.le_refl _)
  have hne : ∀ {o r},st.rt o=some r→o ≠ st.nx:=fun h e=>by subst e; rw [hnx] at h; cases h
  obtain ⟨hro,hvv⟩:=eC hv
  have hpos : 0 < st.nx:=R.up st.nx (Nat.le_refl _)
  have hq : ∀ b l,ρ b ≠ some (st.nx,[] ++ l):=fun b l h=>by
    rcases (R.lab.l b _ _ h).2 with h1 | ⟨r,h1⟩
    · have : st.nx=0:=h1
      omega
    · rw [hnx] at h1; cases h1
  have hon : o ≠ st.nx:=hne hro
  have T:=FR (New:=fun o _=>o=st.nx) R.rok R.inj R.rtn hv hrow hq R.lab.z hto
  have hesn : nhs es:=jy (R.rtn o r hro) hrow
  have hn1 : rt1 st.nx=none:=T.low _ hnx
  have K3 : Keep (fun o _=>o=st.nx) w (eV ρ o path st.nx []) rt1 w (eV ρ o path st.nx []) (upd rt1 st.nx (some ⟨0,s,es⟩)):=by
    refine ⟨fun b hb _=>⟨hb,rfl⟩,fun o nv p hN hl=>⟨?_,fun b n h1 h2=>⟨h1,h2⟩⟩,fun b l h=>⟨h,rfl⟩⟩
    have hN' : o ≠ st.nx:=hN
    simpa [cU,cG,cr,upd,hN'] using hl
  have K : Keep (fun o _=>o=st.nx) w ρ st.rt w (eV ρ o path st.nx []) (upd rt1 st.nx (some ⟨0,s,es⟩)):=by
    refine ⟨T.keep.k1,fun o' nv' p hN hl=>?_,T.keep.k0⟩
    have hN' : o' ≠ st.nx:=hN
    have hl1 : cU rt1 o' nv' p:=by simpa [cU,cG,cr,upd,hN'] using hl
    exact T.keep.k2 o' nv' p hN hl1
  have hKn : ∀ {v : V},az (cC (eN st.nx) st.rt) v→az (fun o _=>o=st.nx) v:=fun h=>eQ (fun o nv e=>by subst e; exact .inl (Nat.le_refl _)) h
  have hlt : k < (cells v).length:=(cZ.1 hk).1
  obtain ⟨hc1,hc2⟩:=vq (y:=.hs st.nx 0 [] s 0 len) hlt rfl
  have hmono : ∀ o' nv',cC (eN (st.nx + cE)) (upd rt1 st.nx (some ⟨0,s,es⟩)) o' nv'→cC (eN st.nx) st.rt o' nv':=by
    intro o' nv' h
    rcases h with h | ⟨r',h1,h2⟩
    · exact .inl (Nat.le_trans (Nat.le_add_right _ _) h)
    · by_cases e : o'=st.nx
      · exact .inl (by subst e; exact Nat.le_refl _)
      · have h3 : rt1 o'=some r':=by simpa [upd,e] using h1
        by_cases e2 : o'=o
        · subst e2
          rcases zK hto with ⟨_,rfl⟩ | ⟨_,es',rfl⟩
          · simp [upd] at h3
          · simp [upd] at h3
            subst h3
            exact .inr ⟨r,hro,h2⟩
        · exact .inr ⟨r',by rw [← T.oth o' e2]; exact h3,h2⟩
  have hnn : ¬ cC (eN (st.nx + cE)) (upd rt1 st.nx (some ⟨0,s,es⟩)) st.nx 0:=by
    rintro (h | ⟨r,h1,h2⟩)
    · have : st.nx + 16 ≤ st.nx:=h
      omega
    · simp [upd] at h1
      subst h1
      simp at h2
  have old : ∀ (i : Nat) x u,st.tm[i]?=some x→a.tmps[i]?=some u→be w (eV ρ o path st.nx []) (upd rt1 st.nx (some ⟨0,s,es⟩)) b7 x u:=fun i x u hx hu=>(R.tm.2 i x u hx hu).keep K (hKn (R.tmn i x hx))
  have hlive : cU st.rt o nv path:=by simp [cU,cG,hv,hrow]
  exact
    { tm := by
        refine ⟨by simpa using R.tm.1,fun i x u hx hu=>?_⟩
        rw [List.getElem?_set] at hx
        split at hx
        · rename_i e
          split at hx
          · cases hx
            subst e
            obtain ⟨g0,hg01,hg02⟩:=R.tm.2 t v u ht hu
            obtain ⟨g,hg1,hg2⟩:=old t v u ht hu
            refine ⟨g0,?_,fun j x hx=>?_⟩
            · rw [hg01]
              unfold fS
              rw [hc2,hc1]
              simp
            · rw [hc1,List.getElem?_set] at hx
              split at hx
              · rename_i ej
                subst ej
                · cases hx
                  have:=hg02 k _ hk
                  generalize g0 k=z at this
                  cases this with
                  | hs _ _ _ _ _ _ _ _ hh h1 =>
                    refine .hs _ _ _ _ _ _ _ _ (fun _=>?_) h1
                    obtain ⟨c,A,e1,e2,e3⟩:=hh hlive
                    refine ⟨c,A,e1,e2,fun hc=>?_⟩
                    obtain ⟨b,n,f1,f2,f3,f4⟩:=e3 hc
                    refine ⟨b,n,?_,f2,f3,f4⟩
                    have:=kt (ρ:=ρ) (o:=o) (path:=path) (q:=st.nx) (dst:=[]) (b:=b) (l:=[]) (by simpa using f1)
                    simpa using this
              · exact ((hg02 j x hx).keep K (hKn (jl (R.tmn t v ht) hx)))
          · cases hx
        · exact old i x u hx hu
      rok:=fun o' r' hr=>by
        by_cases e : o'=st.nx
        · subst e
          simp [upd] at hr
          subst hr
          exact cO.under K3 (fun b l hb _=>⟨hb,rfl⟩) T.row hesn
        · have hr' : rt1 o'=some r':=by simpa [upd,e] using hr
          exact cO.under K3 (fun b l hb _=>⟨hb,rfl⟩) (T.rok o' r' hr') (T.rtn o' r' hr')
      inj:=T.inj
      rtn:=fun o' r' hr=>by
        by_cases e : o'=st.nx
        · subst e
          simp [upd] at hr
          subst hr
          exact hesn
        · exact T.rtn o' r' (by simpa [upd,e] using hr)
      lab := ⟨fun b o' l h => ⟨by
          rcases gw h with ⟨h1,_⟩ | ⟨_,t,_,h1⟩
          · exact (R.lab.l b _ _ h1).1
          · exact (R.lab.l b _ _ h1).1,by
          rcases T.lab b o' l h with ⟨rfl,_⟩ | ⟨h1,h2⟩
          · exact .inr ⟨⟨0,s,es⟩,by simp [upd]⟩
          · rcases (R.lab.l b o' l h1).2 with h3 | ⟨r',h3⟩
            · exact .inl h3
            · by_cases e : o'=o
              · obtain ⟨r2,h4⟩:=h2 e
                exact .inr ⟨r2,by simp only [upd,if_neg (hne h3)]; rw [e]; exact h4⟩
              · exact .inr ⟨r',by simp only [upd,if_neg (hne h3)]; rw [T.oth o' e]; exact h3⟩⟩,by
          simp only [upd,if_neg (show (0 : Nat) ≠ st.nx by omega)]
          exact T.low 0 R.lab.z,fun b l h=>by
          rcases gw h with ⟨h1,_⟩ | ⟨e,t,_,h1⟩
          · exact R.lab.f b l h1
          · omega⟩
      fresh:=fun o' ho=>by
        have ho' : st.nx + cE ≤ o':=ho
        have : o' ≠ st.nx:=by simp [cE] at ho'; omega
        simp only [upd,if_neg this]
        exact T.low o' (R.fresh o' (Nat.le_trans (Nat.le_add_right _ _) ho'))
      up:=fun o ho=>R.up o (Nat.le_trans (Nat.le_add_right _ _) ho)
      tmn:=fun i x hx=>by
        rw [List.getElem?_set] at hx
        split at hx
        · split at hx
          · cases hx
            have hv:=eQ hmono (R.tmn t v ht)
            cases v with
            | agg cs =>
              simp only [dY,az] at hv ⊢
              rw [ew] at hv ⊢
              intro z hz
              rcases List.mem_or_eq_of_mem_set hz with hz | rfl
              · exact hv z hz
              · exact hnn
            | _=>exact hnn
          · cases hx
        · exact eQ hmono (R.tmn i x hx)
      wk:=R.wk
      fr:=fun b h1 h2=>⟨oh.2 (R.fr b h1 h2).1,(R.fr b h1 h2).2⟩
      k0:=fun b l h=>⟨eq (R.k0 b l h).1 (fun ⟨e,_⟩=>by rw [← e,R.lab.z] at hro; cases hro),(R.k0 b l h).2⟩
      f0:=fun b l h=>by
        rcases gw h with ⟨h1,_⟩ | ⟨e,t,_,h1⟩
        · exact R.f0 b l h1
        · omega
      df:=R.df
      gr:=⟨R.gr.1,fun b hb=>oh.2 (R.gr.2.1 b hb),R.gr.2.2⟩
      am:=fun i b n h1 h2 h3 h4=>by
        have hi : i ≠ st.nx:=fun e=>R.nl i (R.le b i [] h2) (by subst e; exact Nat.le_refl _)
        have h5 : (rt1 i).isSome=true:=by simpa [upd,hi] using h4
        have h6 : (st.rt i).isSome=true:=by
          cases e : st.rt i with
          | some _=>rfl
          | none=>rw [T.low i e] at h5; cases h5
        obtain ⟨g1,g2⟩:=R.am i b n h1 h2 h3 h6
        refine ⟨eq g1 ?_,g2⟩
        rintro ⟨rfl,hp⟩
        have hp0 : path=[]:=List.prefix_nil.1 hp
        rcases zK hto with ⟨_,rfl⟩ | ⟨hne,_⟩
        · simp [upd] at h5
        · exact hne hp0
      le:=R.le
      nl:=fun i hi h=>R.nl i hi (Nat.le_trans (Nat.le_add_right _ _) h) }
theorem Run.take {E:Env}{Q:St→Prop}{kk:List It}{t k o nv s len:Nat}{path:fY}{v:V}{r:Root}{es:List V}{rt1:an}(hd:nA kk=true)(ht:st.tm[t]?=some v)(hk:(cells v)[k]?=some (.hs o nv path s 0 len))(hv:cr st.rt o nv path=some r)(hrow:bp path r.s r.es=some (s,es))(hto:eX st.rt o r path=some rt1)(rr:Run E m Q kk ⟨st.tm.set t (dY v k (.hs st.nx 0 [] s 0 len)),upd rt1 st.nx (some ⟨0,s,es⟩),st.nx+cE⟩):Run E m Q kk st:=
 .split (fun x=>x=_) hd (fun R=>⟨_,_,rfl,gK.take ht hk hv hrow hto R⟩) fun _ h=>h▸rr
theorem Lb {E:Env}{Q:St→Prop}{kk:List It}{d:V}{n:Nat}{l:List (Nat×V)}{L:List (Nat×Option Root)}{nx:Nat}(t k:Nat){o nv nv' s s0 len:Nat}{path:fY}{es es0:List V}{L2:List (Nat×Option Root)}(v':V)(nx':Nat)(hd:nA kk=true)(hn:Nat.ble (t+1) n=true)(hk:(cells (lk d l t))[k]?=some (.hs o nv path s 0 len))(hr:fI L o=some ⟨nv',s0,es0⟩)(hvp:pI path nv nv'=true)(hrow:bp path s0 es0=some (s,es))(hto:eX (cb L) o ⟨nv',s0,es0⟩ path=some (cb L2))(hx:nx+cE=nx')(hv:dY (lk d l t) k (.hs nx 0 [] s 0 len)=v')(r:Run E m Q kk ⟨aM d n ((t,v')::l),cb ((nx,some ⟨0,s,es⟩)::L2),nx'⟩):Run E m Q kk ⟨aM d n l,cb L,nx⟩:=by
 have ht:(aM d n l)[t]?=some (lk d l t):=by
  rw[Nat.ble_eq] at hn
  simp[aM,show t<n by omega]
 refine Run.take (st:=⟨aM d n l,cb L,nx⟩) hd ht hk (lS hr hvp) hrow hto (uk (yo ?_ ?_ hx) r)
 ·rw[hv]
  exact iC (dst:=some t)
 ·exact kx
theorem abH {L:List (Nat×Option Root)}{own:List Bool}{os:List V}{o a k:Nat}{p:fY}{g:List nO}{r:Root}{x:V}{G:List (Nat×Option Root)}(h0:fI L o=some r)(h1:em own os a=some x)(h2:(cells x)[k]?=none)(hs:l5 L own os g=G):l5 L own os ((o,p,a,k)::g)=(o,none)::G:=by
 simp only[l5,h0,h1,h2,hs,cm,Option.bind_none]
end
section
theorem qQ {rt:an}:∀{vs:List V},vs.all (fun v=>(cells v).all dh)=true→d8 rt vs=some (vs,rt)
 | [],_=>rfl
 | v::vs,h=>by
  simp only[List.all_cons,Bool.and_eq_true] at h
  exact d6 (ap h.1) (qQ h.2)
theorem sI {α:Type}{a b:α}(h:some a=some b):a=b:=Option.some.inj h
theorem al {α:Type}{a b:α}(h:some a=some b):b=a:=(Option.some.inj h).symm
theorem qp {E:Env}{fn:Func}{own:List Bool}{ax:List V}{st:St}{r:V}(vs:List V)(h1:hP E st fn.results.toList=some vs:=by exact rfl)(h2:vs.all (fun v=>(cells v).all dh)=true:=by exact rfl)(h3:vk vs=r:=by exact rfl)(h4:dG st.rt own (enter fn ax).1=[]:=by exact rfl):QF E fn own ax (r,[]) st:=
 ⟨_,fin h1 (qQ h2) h3 h4,dX⟩
theorem rP {E:Env}{m:Nat}{fn:Func}{own:List Bool}{ax:List V}{st:St}{r:V}{c:Code}{K:List It}(vs:List V)(hc:cK c=7:=by exact rfl)(h1:hP E st fn.results.toList=some vs:=by exact rfl)(h2:vs.all (fun v=>(cells v).all dh)=true:=by exact rfl)(h3:vk vs=r:=by exact rfl)(h4:dG st.rt own (enter fn ax).1=[]:=by exact rfl):Run E m (QF E fn own ax (r,[])) (.code c::K) st:=
 bR hc (qp vs h1 h2 h3 h4)
theorem cP {E:Env}{d:V}{n:Nat}{l:List (Nat×V)}{L:List (Nat×Option Root)}{id nx:Nat}{f:FuncId}{xs:Array Operand}{ts:Array TypeId}{caps args:List V}{fo:Operand}{e:Ent}{ys zs:List V}{r v:V}{R:List (Nat×Nat×Root)}(hF:e.F ys=some (r,[]))(hf:il d n l fo=some (.fn f caps):=by exact rfl)(hx:wU d n l xs.toList=some args:=by exact rfl)(he:E.fn f=some e:=by exact rfl)(hg:bz 0 e.own (args++caps)=[]:=by exact rfl)(ha:fk (cb L) e.own (args++caps)=some ys:=by exact rfl)(hl:b6 e.own (args++caps)=[]:=by exact rfl)(hr:bU id 0 (fN r)=(zs,R):=by exact rfl)(hn:Nat.ble R.length 16=true:=by exact rfl)(hv:vf r zs=v:=by exact rfl) :
  bu E id ⟨aM d n l,cb L,nx⟩ (.call { callee:=.value fo,args:=xs,argTypes:=ts })=some (v,cb (qi id R++L)):=by
 have:=bC (E:=E) (nx:=nx) (ts:=ts) hf hx (bW he hg (by rw[hl];rfl) ha hF (.inr hl) dE hr hn hv)
 exact this
theorem gT {P:Program}{G:Ground}{f:FuncId}{fn:Func}{own:List Bool}{α β:Type}{ea:α→List V}{er:β→V×List V}{g:α→Option β}{fs:List (FuncId×Ent)}(n m:Nat)(hG:∀p∈fs,gf P G p.1 p.2)(hm:P.follows .mixedOrders=true)(hf:P.funcs[f]?=some fn)(h:∀a r,g a=some r→bN (S2 P fs) fn own m (ea a) (er r))(F:Fits fn (aQ fn) n:=by exact⟨rfl,rfl,by decide⟩)(hn:∀a,(ea a).length=n∧sR (ea a)=m:=by exact fun _=>⟨rfl,rfl⟩):gf P G f (bA own ea er g):=
 KE (sb hG) Vo hm hf F hn h
theorem rI {E:Env}{m:Nat}{Q:St→Prop}{k:List It}{fn:Func}{vs:List V}(n:Nat)(l:List (Nat×V))(L:List (Nat×Option Root))(nx:Nat)(r:Run E m Q k ⟨aM .dead n l,cb L,nx⟩)(hl:(bU 1 0 vs).1++List.replicate (fn.ntmps - vs.length) .und=aM .und n l:=by kernel_rfl)(hL:qi 1 (bU 1 0 vs).2=L:=by kernel_rfl)(hx:1+(bU 1 0 vs).2.length=nx:=by kernel_rfl)(hk:nA k=true:=by exact rfl):Run E m Q k (enter fn vs).2:=
 rin l L nx hl hL hx hk r
def cf {α ρ υ:Type}(E:Env)(m:Nat)(QF:ρ→St→Prop)(P:Code)(b:Nat)(L:α→Option (ρ⊕υ))(ex:υ→St)(hd:α→St):Prop:=
 ∀{Q:St→Prop} {K:List It},nA K=true→∀(x:α) (y:ρ⊕υ),L x=some y→(∀r',y=.inl r'→∀st,QF r' st→Q st)→(∀u,y=.inr u→Run E m Q K (ex u))→Run E m Q (.code P::.lp P::.blk b::K) (hd x)
theorem eu {α ρ υ:Type}{E:Env}{m:Nat}{QF:ρ→St→Prop}{P:Code}{b:Nat}{F:(α→Option (ρ⊕υ))→α→Option (ρ⊕υ)}{ex:υ→St}{hd:α→St}(hf:∀a,Fin1 fun f=>F f a)(H:∀{Q:St→Prop} {K:List It},nA K=true→∀self:α→Option (ρ⊕υ),(∀(x:α) (y:ρ⊕υ),self x=some y→(∀r',y=.inl r'→∀st,QF r' st→Q st)→(∀u,y=.inr u→Run E m Q K (ex u))→Run E m Q (.code P::.lp P::.blk b::K) (hd x))→
   ∀(x:α) (y:ρ⊕υ),F self x=some y→(∀r',y=.inl r'→∀st,QF r' st→Q st)→(∀u,y=.inr u→Run E m Q K (ex u))→Run E m Q (.code P::.lp P::.blk b::K) (hd x)):cf E m QF P b (aP F) ex hd:=
 fun {_ _} hK=>VC hf fun self ih=>H hK self ih
section
variable {α : Type} {f : α→V} {xs w : List α} {i : Int} {y z : α} {v : V} {off k j : Nat}
theorem dB (hw:aK xs i y=w):(xs.map f).set (0+i.toNat) (f y)=w.map f:=hw▸eK
theorem xq (he:f y=v)(hw:aK xs i y=w):(xs.map f).set (0+i.toNat) v=w.map f:=hw▸BU he
theorem cu (hw:aK xs i z=w):(w.map f).length=(xs.map f).length:=hw▸ep
end
end
section
theorem BV {w:World}{ρ:bV}{rt:an}{at_:Nat→Option dP}{v:V}{u:Value}(hv:ay v=false)(h:be w ρ rt at_ v u):RepV w ρ rt (at_ 0) v u:=by
 obtain⟨g,hu,hg⟩:=h
 have hc:cells v=[v]:=by cases v<;>first | rfl | (simp[ay] at hv)
 have:=hg 0 v (by rw[hc];rfl)
 rw[hu]
 unfold fS
 rw[hv]
 exact this
theorem Vn {w:World}{ρ:bV}(hi:Inn w ρ):Aft w ρ w ρ:=
 ⟨Wk.refl,fun b hb _=>⟨hb,rfl⟩,fun b l h=>⟨h,rfl⟩,fun b l h=>h,hi.inj,fun b o l h=>⟨(hi.lab b o l h).1,(hi.lab b o l h).2.imp id .inl⟩⟩
theorem Yr {w:World}{ρ:bV}{n:Int}:IQ w ρ (I n) (.int .i64 n):=
 ⟨fun _=>.int .i64 n,rfl,fun c v h=>by
  cases c with
  | zero=>
   simp[fN,I] at h
   subst h
   exact⟨⟨fun _=>.int .i64 n,rfl,fun k x hx=>by
    cases k<;>simp[cells] at hx
    subst hx
    exact .int _ _ _⟩,by simp[nh],rfl⟩
  | succ c=>simp[fN,I] at h⟩
theorem V1 {w w':World}{ρ ρ':bV}{own:List Bool}{vs:List V}{us:List Value}:qN w ρ w' ρ' own vs us []:=by
 intro a v u x h1 h2 h3
 exfalso
 have:∀(own:List Bool) a,em own [] a=none:=by
  intro own
  induction own with
  | nil=>intro a;cases a<;>rfl
  | cons b own ih=>intro a;cases b<;>cases a<;>simp[em,ih]
 rw[this] at h3
 cases h3
section
variable {P : Program} {G : Ground} {f : FuncId} {fn : Func} {e : Array Value→Sem Value}
theorem NJ {g : ae → Int → Int}(hf : P.funcs[f]? = some fn)(hb : fn.body = none)(hn : (fn.name == "runtime.NumGoroutine") = false)(hx : Extern.findNext fn = none)(he : Extern.find fn = some e)(h:∀(s:ByteArray) (c:Int) (w:World),(e #[.string s,.int .u8 c]).run P w=.ok (.int .i64 (g s.data.toList c)) w):gf P G f ⟨[false,false],uN (pf str) (pf (V.int .u8)) fun s c=>some (I (g s c),[])⟩:=by
 intro w ρ vs us r os ha hi hg hF
 obtain⟨v0,v1,s,c,rfl,q0,q1,h9⟩:=abm hF
 obtain rfl:=SC q0
 obtain rfl:=SC q1
 cases h9
 obtain⟨hl,ha⟩:=ha
 obtain⟨u0,u1,rfl⟩:∃u0 u1,us=[u0,u1]:=by
  match us,hl with
  | [u0,u1],_=>exact⟨u0,u1,rfl⟩
 have h0:=BV rfl (ha 0 _ u0 rfl rfl).1
 have h1:=BV rfl (ha 1 _ u1 rfl rfl).1
 have e0:u0=.string ⟨s.toArray⟩:=by
  have h0':RepV w ρ iw _ (.str ⟨s.toArray⟩) u0:=h0
  cases h0';rfl
 have e1:u1=.int .u8 c:=by cases h1;rfl
 subst e0 e1
 simp only[beq_eq_false_iff_ne,ne_eq] at hn
 refine .inl ⟨.int .i64 (g s c),w,?_,ρ,Vn hi,Yr,V1⟩
 have:=h ⟨s.toArray⟩ c w
 simp[callFunc,hf,hb,hn,hx,he,this]
end
theorem TB (a b:Int)(h:V.int .u8 a=.int .u8 b):a=b:=by simpa using h
def rp (s:ae)(c:Int):Option Int:=some (Lib.indexByte s c.toNat.toUInt8)
def xt (s:ae)(c:Int):Option Int:=some ((Lib.countByte s c.toNat.toUInt8:Nat):Int)
end
section
open Go Go.ChangeShapes Go.WideShapes Go.RowKit
def ρ0:bV:=fun _=>none
def R2 (w:World)(vs:List V)(cs:List Value):Prop:=vs.length=cs.length∧∀(k:Nat) x u,vs[k]?=some x→cs[k]?=some u→RepV w ρ0 iw none x u
def Kc (w:World)(cs:List Value):Nat→List (List V)→Prop
 | off,[]=>cs.length=off
 | off,p::ps=>R2 w p ((cs.drop off).take p.length)∧Kc w cs (off+p.length) ps
theorem Kc.join {w:World}{cs:List Value}:∀{ps:List (List V)} {off:Nat},off≤cs.length→Kc w cs off ps→R2 w ps.flatten (cs.drop off)
 | [],off,ho,h=>by
  simp only[Kc] at h
  subst h
  exact⟨by simp,fun k x u h1=>by simp at h1⟩
 | p::ps,off,ho,⟨h1,h2⟩=>by
  have hl:p.length+off≤cs.length:=by
   have:=h1.1
   rw[List.length_take,List.length_drop] at this
   omega
  have ih:=Kc.join (by omega) h2
  refine⟨?_,fun k x u hx hu=>?_⟩
  ·have:=ih.1
   simp only[List.flatten_cons,List.length_append,List.length_drop] at this ⊢
   omega
  ·rw[List.flatten_cons] at hx
   by_cases hk:k<p.length
   ·rw[lT hk] at hx
    refine h1.2 k x u hx ?_
    rw[List.getElem?_take_of_lt hk]
    exact hu
   ·rw[ox (by omega)] at hx
    refine ih.2 (k - p.length) x u hx ?_
    rw[List.getElem?_drop] at hu ⊢
    rw[←hu]
    congr 1
    omega
def Rd (P:Program)(t:TypeId){A:Type}(f:A→V)(ok:A→Prop):Prop:=
 ∀{H:Type} {enc:TypeId×Value→H} {w:World} {sp:Nat→Bool} {held:Bool} {n:Nat} {cs:List Value} {x:DataW H×List MemPlace},
  DataW.trod enc P w 0 sp held n t cs=some x→∃a,ok a∧nh (f a)∧R2 w (cells (f a)) cs
def zl (n:Int):Prop:=-9223372036854775808≤n∧n≤9223372036854775807
def Hp (s:ae):Prop:=s.length≤maxLen
def Fz {A:Type}(ok:A→Prop)(xs:List A):Prop:=xs.length≤maxLen∧∀x∈xs,ok x
theorem wI {w:World}{v:V}{u:Value}(h:RepV w ρ0 iw none v u):R2 w [v] [u]:=by
 refine⟨rfl,fun k x y hx hy=>?_⟩
 match k with
 | 0=>simp at hx hy;subst hx;subst hy;exact h
 | k+1=>simp at hx
theorem rj {P:Program}{t:TypeId}(ht:P.underlying t=some (.int .i64)):Rd P t I zl:=by
 intro H enc w sp held n cs x h
 obtain⟨m,rfl,_,hw⟩:=DataW.trod_int ht h
 refine⟨m,?_,by simp[I,nh],wI (.int ..)⟩
 simp only[Lit.wf,Bool.and_eq_true,decide_eq_true_eq] at hw
 have e1:IntKind.i64.min=-9223372036854775808:=by decide
 have e2:IntKind.i64.max=9223372036854775807:=by decide
 rw[e1,e2] at hw
 exact hw
theorem xn {P:Program}{t:TypeId}(ht:P.underlying t=some .string):Rd P t str Hp:=by
 intro H enc w sp held n cs x h
 obtain⟨s,rfl,_,hs⟩:=DataW.trod_string ht h
 refine⟨s.data.toList,by show s.data.toList.length≤maxLen;rw[Array.length_toList];exact hs,by simp[str,nh],wI ?_⟩
 have:str s.data.toList=.str s:=by unfold str;rw[Array.toArray_toList]
 rw[show str s.data.toList=V.str s from this]
 exact .str ..
theorem Sy {α:Type}[Inhabited α]{n:Nat}{p:Nat→α→Prop}(h:∀i,i<n→∃a,p i a):∃f:Nat→α,∀i,i<n→p i (f i):=by
 classical
 refine⟨fun i=>if hi:i<n then (h i hi).choose else default,fun i hi=>?_⟩
 simp only[dif_pos hi]
 exact (h i hi).choose_spec
def Sm (N:Nat)(P:Program)(t:TypeId){A:Type}(f:A→V)(ok:A→Prop):Prop:=
 ∀{H:Type} {enc:TypeId×Value→H} {w:World} {sp:Nat→Bool} {held:Bool} {n:Nat} {cs:List Value} {x:DataW H×List MemPlace},
  n<N→DataW.trod enc P w 0 sp held n t cs=some x→∃a,ok a∧nh (f a)∧R2 w (cells (f a)) cs
theorem Rd.toF {P:Program}{t:TypeId}{A:Type}{f:A→V}{ok:A→Prop}(h:Rd P t f ok){N:Nat}:Sm N P t f ok:=fun _ h2=>h h2
theorem Th {P:Program}{t:TypeId}{A:Type}{f:A→V}{ok:A→Prop}(h:∀N,Sm N P t f ok):Rd P t f ok:=fun {H enc w sp held n cs x} h2=>h (n+1) (Nat.lt_succ_self n) h2
theorem Hu {P:Program}{t e:TypeId}{A:Type}{f:A→V}{ok:A→Prop}{N:Nat}(ht:P.underlying t=some (.slice e))(hr:Sm N P e f ok)(hp:(0<P.cellsOf e)):Sm (N+1) P t (fun xs=>.isl false (xs.map f)) (Fz ok):=by
 intro H enc w sp held n cs x hN h
 rcases DataW.trod_slice ht h with⟨rfl,_⟩ | ⟨a,len,cap,elems,rest,k,hfk,rfl,_,hb,hl,hm,hlen,hel,_,_⟩
 ·refine⟨[],⟨by simp,by simp⟩,by simp[nh,nhs],wI ?_⟩
  exact .isl0 _ _ _ _ (by simp)
 by_cases h0:len=0
 ·subst h0
  refine⟨[],⟨by simp,by simp⟩,by simp[nh,nhs],wI ?_⟩
  exact .isl0 _ _ _ _ (by simp)
 have hq:∀i,i<len→∃y:A×List Value,ok y.1∧nh (f y.1)∧R2 w (cells (f y.1)) y.2∧w.cells? 0 (a.add (i*P.cellsOf e)) (P.cellsOf e)=some y.2:=by
  intro i hi
  have key:=hel i hi
  rw[eo (by omega)] at key
  obtain⟨cs',h1,h2⟩:=aR.1 key
  obtain⟨y,hy1,hy2,hy3⟩:=hr (by omega) h2
  exact⟨(y,cs'),hy1,hy2,hy3,h1⟩
 have:Inhabited (A×List Value):=⟨(hq 0 (by omega)).choose⟩
 obtain⟨F,hF⟩:=Sy hq
 have hsz:∀i,i<len→(cells (f (F i).1)).length=P.cellsOf e:=by
  intro i hi
  obtain⟨_,_,h3,h4⟩:=hF i hi
  obtain⟨_,h5,_⟩:=World.cells?_some h4
  rw[h3.1,h5]
 have hcell:∀i,i<len→∀k u,(F i).2[k]?=some u→w.cell? (a.add (i*P.cellsOf e+k))=some u:=by
  intro i hi k u hu
  obtain⟨_,_,h3,h4⟩:=hF i hi
  obtain⟨_,h5,h6⟩:=World.cells?_some h4
  have hk:k<P.cellsOf e:=by rw[←h5];exact (cZ.1 hu).1
  have:=h6 k hk
  rw[hu] at this
  rw[←this]
  congr 1
  simp only[Addr.add]
  by_cases h7:i*P.cellsOf e=0<;>by_cases h8:k=0<;>simp[h7,h8]<;>omega
 have hspot:a.spot=none∧a.block<w.heap.size:=by
  have hlen:(F 0).2.length=P.cellsOf e:=by
   have:=(hF 0 (by omega)).2.2.1.1
   rw[←this];exact hsz 0 (by omega)
  obtain⟨u,hu⟩:∃u,(F 0).2[0]?=some u:=⟨(F 0).2[0],eo (by omega)⟩
  have h9:=hcell 0 (by omega) 0 u hu
  simp only[Nat.zero_mul,Nat.add_zero,Addr.add,if_true,World.cell?] at h9
  split at h9
  ·rename_i c T fr hh
   refine⟨?_,(nE.1 hh).1⟩
   cases hs:a.spot with
   | none=>rfl
   | some _=>simp[hs] at h9
  ·cases h9
 obtain⟨b,off,spot⟩:=a
 obtain⟨rfl,hblk⟩:=hspot
 refine⟨(List.range len).map fun i=>(F i).1,⟨by simp;omega,?_⟩,?_,wI ?_⟩
 ·intro y hy
  simp only[List.mem_map,List.mem_range] at hy
  obtain⟨i,hi,rfl⟩:=hy
  exact (hF i hi).1
 ·simp only[nh,dS,List.mem_map,List.mem_range]
  rintro v ⟨y,⟨i,hi,rfl⟩,rfl⟩
  exact (hF i hi).2.1
 ·have hl2:len=(((List.range len).map fun i=>(F i).1).map f).length:=by simp
  have key:RepV w ρ0 iw none (.isl false (((List.range len).map fun i=>(F i).1).map f)) (.slice (some ⟨b,off,none⟩) (((List.range len).map fun i=>(F i).1).map f).length cap):=by
   have get:∀{i:Nat} {e':V},(((List.range len).map fun i=>(F i).1).map f)[i]?=some e'→i<len∧e'=f (F i).1:=by
    intro i e' he
    simp only[List.getElem?_map,aU] at he
    obtain⟨y,⟨j,hj,rfl⟩,rfl⟩:=he
    obtain⟨h1,h2⟩:=cZ.1 hj
    simp at h1 h2
    subst h2
    exact⟨h1,rfl⟩
   refine .isl _ _ b off cap (P.cellsOf e) (fun i k=>((F i).2[k]?).getD undef) (by simpa using hl) (by simp;omega) rfl hblk ?_ ?_ ?_
   ·intro i e' he
    obtain⟨hi,rfl⟩:=get he
    exact hsz i hi
   ·intro i e' k x' he hx'
    obtain⟨hi,rfl⟩:=get he
    have h3:=(hF i hi).2.2.1
    have hk:k<(F i).2.length:=by rw[←h3.1];exact (cZ.1 hx').1
    rw[eo hk]
    have:=hcell i hi k _ (eo hk)
    simp only[Addr.add] at this
    split at this
    ·rename_i hz
     simp only[Nat.add_eq_zero_iff] at hz
     simpa[hz] using this
    ·exact this
   ·intro i e' k x' he hx'
    obtain⟨hi,rfl⟩:=get he
    have h3:=(hF i hi).2.2.1
    have hk:k<(F i).2.length:=by rw[←h3.1];exact (cZ.1 hx').1
    rw[eo hk]
    exact h3.2 k x' _ hx' (eo hk)
  rw[←hl2] at key
  exact key
theorem K6 {P:Program}{t e:TypeId}{A:Type}{f:A→V}{ok:A→Prop}(ht:P.underlying t=some (.slice e))(hr:Rd P e f ok)(hp:(0<P.cellsOf e)):Rd P t (fun xs=>.isl false (xs.map f)) (Fz ok):=
 Th fun N _ h=>by
  intro a b c d e g h1 h2
  exact Hu ht (hr.toF (N:=N)) hp (Nat.lt_succ_of_lt h1) h2
theorem Hv {H:Type}{enc:TypeId×Value→H}{P:Program}{t:TypeId}{fs:Array Field}(ht:P.underlying t=some (.struct fs)){w:World}{sp:Nat→Bool}{held:Bool}{n:Nat}{cs:List Value}{x:DataW H×List MemPlace}(h:DataW.trod enc P w 0 sp held n t cs=some x) :
  cs.length=P.cellsOf t∧∀(i:Nat) (f:Field),fs[i]?=some f→∃n y,DataW.trod enc P w 0 sp held n f.type ((cs.drop f.offset).take (P.cellsOf f.type))=some y:=by
 obtain⟨xs,n,_,_,hl,hlen,hf⟩:=DataW.trod_struct ht h
 refine⟨hl,fun i f hi=>?_⟩
 have h1:=hf i f hi
 have hi2:i<fs.size:=(nE.1 hi).1
 exact⟨n,xs[i]'(by omega),by rw[h1];exact eo (by omega)⟩
theorem Po {H:Type}{enc:TypeId×Value→H}{P:Program}{t:TypeId}{fs:Array Field}(ht:P.underlying t=some (.struct fs)){w:World}{sp:Nat→Bool}{held:Bool}{n:Nat}{cs:List Value}{x:DataW H×List MemPlace}(h:DataW.trod enc P w 0 sp held n t cs=some x) :
  ∃k,n=k+1∧cs.length=P.cellsOf t∧∀(i:Nat) (f:Field),fs[i]?=some f→∃y,DataW.trod enc P w 0 sp held k f.type ((cs.drop f.offset).take (P.cellsOf f.type))=some y:=by
 obtain⟨xs,n,hn,_,hl,hlen,hf⟩:=DataW.trod_struct ht h
 refine⟨n,hn,hl,fun i f hi=>?_⟩
 have h1:=hf i f hi
 have hi2:i<fs.size:=(nE.1 hi).1
 exact⟨xs[i]'(by omega),by rw[h1];exact eo (by omega)⟩
theorem GI {w:World}{v:V}{ps:List (List V)}{cs:List Value}(hv:cells v=ps.flatten)(h:Kc w cs 0 ps):R2 w (cells v) cs:=by
 have:=Kc.join (Nat.zero_le _) h
 rw[List.drop_zero,←hv] at this
 exact this
theorem Ys {w:World}{v:V}{u:Value}(ha:ay v=true↔∃cs,u=.agg cs)(h:R2 w (cells v) u.cells.toList):be w ρ0 iw b7 v u:=by
 refine⟨fun k=>(u.cells[k]?).getD undef,?_,fun k x hx=>?_⟩
 ·unfold fS
  cases hv:ay v with
  | true=>
   obtain⟨cs,rfl⟩:=ha.1 hv
   have hl:=h.1
   simp only[Value.cells,Array.length_toList] at hl ⊢
   simp only[if_true,Value.agg.injEq]
   apply Array.ext
   ·simp[dT,hl]
   ·intro i h1 h2
    simp[dT,Array.getElem?_eq_getElem h1]
  | false=>
   have hu:u.cells=#[u]:=by
    cases u<;>first | rfl | (exfalso;have:=ha.2 ⟨_,rfl⟩;rw[hv] at this;cases this)
   simp[hu]
 ·have hk:k<u.cells.toList.length:=by rw[←h.1];exact (cZ.1 hx).1
  have:=h.2 k x _ hx (eo hk)
  show RepV w ρ0 iw none x ((u.cells[k]?).getD undef)
  rw[Array.getElem?_eq_getElem (by simpa using hk)]
  simpa using this
def pc (P:Program)(w:World):List TypeId→List V→List Value→Prop
 | [],[],[]=>True
 | _::ts,v::vs,u::us=>(nh v∧be w ρ0 iw b7 v u)∧pc P w ts vs us
 | _,_,_=>False
theorem pc.len {P:Program}{w:World}:∀{ts vs us},pc P w ts vs us→vs.length=us.length
 | [],[],[],_=>rfl
 | _::ts,v::vs,u::us,h=>by simp[pc.len h.2]
theorem pc.get {P:Program}{w:World}:∀{ts vs us},pc P w ts vs us→∀(a:Nat) v u,vs[a]?=some v→us[a]?=some u→nh v∧be w ρ0 iw b7 v u
 | [],[],[],_,a,v,u,h,_=>by simp at h
 | _::ts,v::vs,u::us,h,0,v',u',h1,h2=>by simp at h1 h2;subst h1;subst h2;exact h.1
 | _::ts,v::vs,u::us,h,a+1,v',u',h1,h2=>pc.get h.2 a v' u' (by simpa using h1) (by simpa using h2)
theorem Z7 {P:Program}{w:World}{ts:List TypeId}{vs:List V}{us:List Value}(h:pc P w ts vs us):pq w ρ0 vs us:=
 ⟨h.len,fun a v u hv hu=>by
  obtain⟨h1,g,h2,h3⟩:=h.get a v u hv hu
  exact⟨⟨g,h2,fun k x hx=>(h3 k x hx).anyN⟩,h1⟩⟩
theorem abK {w:World}:Inn w ρ0:=⟨fun b b' L h=>(by cases h),fun b o l h=>(by cases h),fun b l h=>(by cases h)⟩
def G0:Ground:=⟨0,fun _=>True,fun _ _ _ _ _=>trivial⟩
theorem ok0 {w:World}:G0.ok w ρ0:=⟨Nat.zero_le _,fun b h=>rfl,trivial⟩
theorem HI {P:Program}{f:FuncId}{fn:Func}{c:Code}{n:Nat}{e:Ent}{W:World}{ts:List TypeId}{vs:List V}{args:Array Value}{b:Bool}(hf:P.funcs[f]?=some fn)(F:Fits fn c n)(hg:gf P G0 f e)(ha:pc P W ts vs args.toList)(hF:e.F vs=some (B b,[])) :
  Calls P f args W fun r W'=>r=.returned (.bool b)∧Below W.heap.size W W':=by
 rcases hg W ρ0 vs args.toList (B b) [] (Z7 ha) abK ok0 hF with⟨u,w',h1,_⟩ | ⟨_,h2⟩
 ·rw[Hz hf F] at h1
  cases h1
 ·refine h2.mono fun r W' hr=>?_
  obtain⟨u,rfl,ρ',ha,⟨p,hp,hc⟩,_⟩:=hr
  obtain⟨hs,_,_⟩:=hc 0 (B b) rfl
  obtain⟨g,hg1,hg2⟩:=hs
  have h3:=hg2 0 (B b) rfl
  refine⟨?_,ha.wk.os,ha.wk.tape,ha.wk.out,ha.wk.size,fun k hk=>(ha.fr k rfl hk).2⟩
  have h4:u=p 0:=hp
  have h5:p 0=g 0:=hg1
  have h6:g 0=.bool b:=by
   have h7:RepV W' ρ' iw _ (.bool b) (g 0):=h3
   generalize g 0=z at h7
   cases h7
   rfl
  rw[h4,h5,h6]
section
variable {H : Type} {enc : TypeId × Value→H} {P : Program}
theorem vy (hl:laidOutB P=true){W W':World}(hb:Below W.heap.size W W'){sp:Nat→Bool}:∀{ts:List TypeId} {us:List Value} {ds:List (DataW H)} {ps:List MemPlace},(∀t∈ts,P.readableRec t=true∧t<P.types.size)→(∀x∈ps,x.block<W.heap.size∧sp x.block=true)→DataW.TrodAll enc P W 0 (fun _=>true) true ts us ds ps→DataW.TrodAll enc P W' 0 sp true ts us ds ps
 | [],us,ds,ps,_,_,h=>by
  obtain⟨rfl,rfl,rfl⟩:=trodAll_nil h
  exact rfl
 | t::ts,us,ds,ps,ht,hp,h=>by
  obtain⟨u,us',d,ds',p,q,rfl,rfl,rfl,h1,h2⟩:=trodAll_cons h
  have:=ht t (by simp)
  refine⟨p,q,WideElems.Trod_stays hl this.1 this.2 h1 (fun x hx=>hb.same (hp x (by simp[hx])).1) (fun x hx=>(hp x (by simp[hx])).2),vy hl hb (fun t' ht'=>ht t' (by simp[ht'])) (fun x hx=>hp x (by simp[hx])) h2,rfl⟩
theorem zL {W:World}{sp:Nat→Bool}:∀{ts:List TypeId} {us:List Value} {ds:List (DataW H)} {ps:List MemPlace},DataW.TrodAll enc P W 0 sp true ts us ds ps→ds.length=ts.length
 | [],us,ds,ps,h=>by
  obtain⟨rfl,rfl,rfl⟩:=trodAll_nil h
  rfl
 | t::ts,us,ds,ps,h=>by
  obtain⟨u,us',d,ds',p,q,rfl,rfl,rfl,h1,h2⟩:=trodAll_cons h
  simp[zL h2]
theorem V2 (hl:laidOutB P=true){fn:Func}{s:ChangeSpec}{apart fresh handsOn again:Bool}{W W':World}{args:Array Value}{ds gs:List (DataW H)}{before:List MemPlace}{tb:TypeId}(hread:∀t∈fn.params.toList,P.readableRec t=true∧t<P.types.size)(hres:fn.resultTypes=#[tb])(hb:P.underlying tb=some .bool)(hs:s.vars=[])(hfn:∀ds:List (DataW H),ds.length=fn.params.toList.length→s.fn H (ds++[])={ results:=[.lit (.bool true)],args:=ds })(hW:DataW.Whole enc P fn.params.toList s.vars apart W args.toList ds gs before)(hB:Below W.heap.size W W'):s.post enc P fn apart fresh handsOn again W args (.bool true) W':=by
 have hW0:=hW
 have hlt:∀p∈before,p.block<W.heap.size:=fun p hp=>by simpa using hW.lt p hp
 obtain⟨p,q,hA,hV,rfl,hz,hn⟩:=hW
 rw[hs] at hV
 have hgs:gs=[]∧q=[]:=by
  cases gs with
  | nil=>exact⟨rfl,hV⟩
  | cons _ _=>exact hV.elim
 obtain⟨rfl,rfl⟩:=hgs
 simp only[List.append_nil] at hlt hz hn
 have hf:=hfn ds (zL hA)
 have hr:∀(b:Nat) (sp:Nat→Bool) (hd:Bool),DataW.TrodAll enc P W' b sp hd fn.resultTypes.toList ((Value.bool true).resultList fn.resultTypes.size) (s.fn H (ds++[])).results []:=by
  intro b sp hd
  rw[hf,hres]
  exact trodAll_mk1 (shut_bool hb true)
 have ha:∀sp:Nat→Bool,(∀x∈p,sp x.block=true)→DataW.TrodAll enc P W' 0 sp true fn.params.toList args.toList ds p:=fun sp hsp=>vy hl hB hread (fun x hx=>⟨hlt x hx,hsp x hx⟩) hA
 refine⟨ds,[],p++[],[],p,[],hW0,hr _ _ _,?_,?_,hB.frame _,fun _=>?_⟩
 ·rw[hf]
  exact ha _ (fun x hx=>by simpa using hlt x hx)
 ·rw[hf,hs]
  exact rfl
 ·refine⟨ok_one hres rfl (okWide_bool_mk hb true),_,[],([]++p)++[],⟨[]++p,[],trodAll_append (ha _ (fun _ _=>rfl)) (hr _ _ _),?_,rfl,?_,?_⟩,?_⟩
  ·rw[hs];exact rfl
  ·intro b off hp
   have hp:MemPlace.cell b off∈p:=by simpa using hp
   rw[hB.frozen (hlt _ hp)]
   exact hz b off hp
  ·intro ha
   simpa using hn ha
  ·intro x hx _
   simpa using hx
end
section
variable {H : Type} {enc : TypeId × Value→H} {P : Program} {W : World} {r : Reach} {b0 : Nat} {t : TypeId} {v : Value} {d : DataW H} {p : List MemPlace} {sp : Nat→Bool} {held : Bool} {A : Type} {f : A→V} {ok : A→Prop}
theorem XU {fs:Array Field}(ht:P.underlying t=some (.struct fs))(hr:Rd P t f ok)(hf:∀a,ay (f a)=true)(hv:Value.okWide P W r b0 t v)(h:DataW.Trod enc P W 0 sp held t v d p):∃a,ok a∧nh (f a)∧be W ρ0 iw b7 (f a) v:=by
 obtain⟨n,hn⟩:=h
 obtain⟨a,h1,h2,h3⟩:=hr hn
 refine⟨a,h1,h2,Ys ⟨fun _=>?_,fun _=>hf a⟩ h3⟩
 simp only[Value.okWide,ht] at hv
 obtain⟨cs,h4,_⟩:=hv
 exact⟨cs,h4⟩
end
end
section
theorem dV {n:Int}(h : -9223372036854775808≤n)(h':n<9223372036854775808):ac n=n:=by
 show (if (true&&decide (n % (2 ^ 64:Int)≥(2 ^ 63:Int)))=true then n % (2 ^ 64:Int) - (2 ^ 64:Int) else n % (2 ^ 64:Int))=n
 have e:(2:Int) ^ 64=18446744073709551616:=by decide
 have e2:(2:Int) ^ 63=9223372036854775808:=by decide
 rw[e,e2,Bool.true_and]
 split
 ·rename_i hd
  have:=of_decide_eq_true hd
  omega
 ·rename_i hd
  have:¬(n % 18446744073709551616≥9223372036854775808):=fun h9=>hd (decide_eq_true h9)
  omega
theorem cV {n:Nat}(h:n<9223372036854775807):ac ((n:Int)+1)=((n+1:Nat):Int):=dV (by omega) (by omega)
theorem b8 {α:Type}{xs:List α}{i:Nat}:aC xs (i:Int)=xs[i]?:=by
 unfold aC
 rw[if_pos (by omega),Int.toNat_natCast]
theorem kj {α:Type}{xs:List α}{i:Nat}{x:α}:aK xs (i:Int) x=xs.set i x:=by
 unfold aK
 rw[Int.toNat_natCast]
theorem bX {α:Type}{xs:List α}{i:Nat}:decide ((i:Int)<len xs)=decide (i<xs.length):=by
 simp[len]
@[simp] theorem XY {ρ υ:Type}{r:ρ}{k:υ→Option ρ}:bD (some (.inl r)) k=some r:=rfl
@[simp] theorem XZ {ρ υ:Type}{u:υ}{k:υ→Option ρ}:bD (some (.inr u)) k=k u:=rfl
@[simp] theorem X0 {ρ υ ω:Type}{r:ρ}{k:υ→Option (ρ⊕ω)}:bQ (some (.inl r)) k=some (.inl r):=rfl
@[simp] theorem jH {ρ υ ω:Type}{u:υ}{k:υ→Option (ρ⊕ω)}:bQ (some (.inr u)) k=k u:=rfl
theorem qA {x y:ae}:(x==y)=decide (x=y):=by
 by_cases h:x=y
 ·subst h;simp
 ·rw[beq_eq_false_iff_ne.2 h];simp[h]
theorem ub {x y:Int}:(x==y)=decide (x=y):=by
 by_cases h:x=y
 ·subst h;simp
 ·rw[beq_eq_false_iff_ne.2 h];simp[h]
theorem NL {x y:Int}:(x != y)=!decide (x=y):=by rw[bne,ub]
theorem BG {α β ρ:Type}{L:Int×List β→Option (ρ⊕List β)}{a:List α}{g:α→Option β}{h:α→β}(hg:∀x∈a,g x=some (h x))(hL:∀x,L x=bif decide (x.1<len a) then (aC a x.1).bind fun e=>(g e).bind fun y=>(aC x.2 x.1).bind fun _=>L (ac (x.1+1),aK x.2 x.1 y) else some (.inr x.2))(hb:a.length<9223372036854775807){z:List β}(hz:z.length=a.length):L (0,z)=some (.inr (a.map h)):=by
 have key:∀(k i:Nat) (z:List β),i+k=a.length→z.length=a.length→L ((i:Int),z)=some (.inr (z.take i++(a.drop i).map h)):=by
  intro k
  induction k with
  | zero=>
   intro i z hi hz
   rw[hL,bX,decide_eq_false (by omega),cond_false,List.drop_eq_nil_of_le (by omega),List.take_of_length_le (by omega)]
   simp
  | succ k ih=>
   intro i z hi hz
   have h1:i<a.length:=by omega
   have h2:i<z.length:=by omega
   rw[hL,bX,decide_eq_true h1,cond_true,b8,b8,eo h1,eo h2,cm,hg _ (List.getElem_mem h1),cm,cm,cV (by omega),kj,ih (i+1) _ (by omega) (by simpa using hz),List.drop_eq_getElem_cons h1]
   congr 2
   rw[List.map_cons,List.take_add_one]
   simp[h2,List.take_set_of_le (Nat.le_refl i)]
 have:=key a.length 0 z (by omega) hz
 simpa using this
theorem Tx {α:Type}{L:Int×Int→Option (Int⊕Int)}{a:List α}{s:α→Int→Option Int}{ok:α→Prop}{M:Int}(hM:M≤9223372036854775807)(hs:∀x∈a,∀l,0≤l→l≤M→∃r,s x l=some r∧(r<0∨(0≤r∧r≤l∧ok x)))(hL:∀x,L x=bif decide (x.2<len a) then (aC a x.2).bind fun e=>(s e x.1).bind fun r=>bif decide (r<0) then some (.inl (-1)) else L (r,ac (x.2+1)) else some (.inr x.1))(hb:a.length<9223372036854775807){l:Int}(h0:0≤l)(h1:l≤M):∃y,L (l,0)=some y∧(y=.inl (-1)∨∃r,y=.inr r∧0≤r∧r≤l∧∀x∈a,ok x):=by
 have key:∀(k i:Nat) (l:Int),i+k=a.length→0≤l→l≤M→∃y,L (l,(i:Int))=some y∧(y=.inl (-1)∨∃r,y=.inr r∧0≤r∧r≤l∧∀x∈a.drop i,ok x):=by
  intro k
  induction k with
  | zero=>
   intro i l hi h0 h1
   refine⟨.inr l,?_,.inr ⟨l,rfl,h0,Int.le_refl _,?_⟩⟩
   ·rw[hL,bX,decide_eq_false (by omega),cond_false]
   ·rw[List.drop_eq_nil_of_le (by omega)];simp
  | succ k ih=>
   intro i l hi h0 h1
   have hi1:i<a.length:=by omega
   obtain⟨r,hr,hr2⟩:=hs _ (List.getElem_mem hi1) l h0 h1
   rw[hL,bX,decide_eq_true hi1,cond_true,b8,eo hi1,cm,hr,cm]
   rcases hr2 with hr2 | ⟨hr2,hr3,hok⟩
   ·rw[decide_eq_true hr2,cond_true]
    exact⟨_,rfl,.inl rfl⟩
   ·rw[decide_eq_false (by omega),cond_false,cV (by omega)]
    obtain⟨y,hy,hy2⟩:=ih (i+1) r (by omega) hr2 (by omega)
    refine⟨y,hy,?_⟩
    rcases hy2 with h | ⟨r',h3,h4,h5,h6⟩
    ·exact .inl h
    ·refine .inr ⟨r',h3,h4,by omega,?_⟩
     intro x hx
     rw[List.drop_eq_getElem_cons hi1,List.mem_cons] at hx
     rcases hx with rfl | hx
     ·exact hok
     ·exact h6 x hx
 obtain⟨y,hy,hy2⟩:=key a.length 0 l (by omega) h0 h1
 exact⟨y,hy,by simpa using hy2⟩
theorem Yv {α:Type}{L:Int×Int→Option (Int⊕Int)}{a:List α}{s:α→Int→Option Int}{w:α→Nat}{ok:α→Prop}{M:Int}(hM:M≤9223372036854775807)(hs:∀x∈a,∀l,0≤l→l≤M→∃r,s x l=some r∧(r<0∨(0≤r∧r+((w x:Nat):Int)≤l∧ok x)))(hL:∀x,L x=bif decide (x.2<len a) then (aC a x.2).bind fun e=>(s e x.1).bind fun r=>bif decide (r<0) then some (.inl (-1)) else L (r,ac (x.2+1)) else some (.inr x.1))(hb:a.length<9223372036854775807){l:Int}(h0:0≤l)(h1:l≤M):∃y,L (l,0)=some y∧(y=.inl (-1)∨∃r,y=.inr r∧0≤r∧r+(((a.map w).sum:Nat):Int)≤l∧∀x∈a,ok x):=by
 have key:∀(k i:Nat) (l:Int),i+k=a.length→0≤l→l≤M→∃y,L (l,(i:Int))=some y∧(y=.inl (-1)∨∃r,y=.inr r∧0≤r∧r+((((a.drop i).map w).sum:Nat):Int)≤l∧∀x∈a.drop i,ok x):=by
  intro k
  induction k with
  | zero=>
   intro i l hi h0 h1
   refine⟨.inr l,?_,.inr ⟨l,rfl,h0,by rw[List.drop_eq_nil_of_le (by omega)];simp,?_⟩⟩
   ·rw[hL,bX,decide_eq_false (by omega),cond_false]
   ·rw[List.drop_eq_nil_of_le (by omega)];simp
  | succ k ih=>
   intro i l hi h0 h1
   have hi1:i<a.length:=by omega
   obtain⟨r,hr,hr2⟩:=hs _ (List.getElem_mem hi1) l h0 h1
   rw[hL,bX,decide_eq_true hi1,cond_true,b8,eo hi1,cm,hr,cm]
   rcases hr2 with hr2 | ⟨hr2,hr3,hok⟩
   ·rw[decide_eq_true hr2,cond_true]
    exact⟨_,rfl,.inl rfl⟩
   ·rw[decide_eq_false (by omega),cond_false,cV (by omega)]
    obtain⟨y,hy,hy2⟩:=ih (i+1) r (by omega) hr2 (by omega)
    refine⟨y,hy,?_⟩
    rcases hy2 with h | ⟨r',h3,h4,h5,h6⟩
    ·exact .inl h
    ·refine .inr ⟨r',h3,h4,by rw[List.drop_eq_getElem_cons hi1,List.map_cons,List.sum_cons];omega,?_⟩
     intro x hx
     rw[List.drop_eq_getElem_cons hi1,List.mem_cons] at hx
     rcases hx with rfl | hx
     ·exact hok
     ·exact h6 x hx
 obtain⟨y,hy,hy2⟩:=key a.length 0 l (by omega) h0 h1
 exact⟨y,hy,by simpa using hy2⟩
theorem nD {l:Int}{n:Nat}(h0:0≤l)(h1:l≤9223372036854775807)(hn:n≤9223372036854775807):ac (l - (n:Int))=l - n:=dV (by omega) (by omega)
theorem KP {α:Type}{b:Nat}{z:α}{n:Nat}(h:n*b≤1099511627776)(h2:n≤1099511627776):vu b z (n:Int)=some (List.replicate n z):=by
 unfold vu
 rw[if_pos ⟨by omega,by simp only[lH];omega,by simp only[lH];omega⟩,Int.toNat_natCast]
theorem xU {α ρ:Type}{L:Int→Option (ρ⊕Unit)}{a:List α}{p:α→α→Option Bool}{r:ρ}(hp:∀x∈a,p x x=some true)(hL:∀x,L x=bif decide (x<len a) then (aC a x).bind fun e=>(aC a x).bind fun f=>(p e f).bind fun c=>bif !c then some (.inl r) else L (ac (x+1)) else some (.inr ()))(hb:a.length<9223372036854775807):L 0=some (.inr ()):=by
 have key:∀(k i:Nat),i+k=a.length→L (i:Int)=some (.inr ()):=by
  intro k
  induction k with
  | zero=>
   intro i hi
   rw[hL,bX,decide_eq_false (by omega),cond_false]
  | succ k ih=>
   intro i hi
   have h1:i<a.length:=by omega
   rw[hL,bX,decide_eq_true h1,cond_true,b8,eo h1,cm,cm,hp _ (List.getElem_mem h1),cm,Bool.not_true,cond_false,cV (by omega),ih (i+1) (by omega)]
 exact key a.length 0 (by omega)
def ov (_:Int):Prop:=True
def pU (s:List UInt8):Prop:=s.length≤1048576
def lQ {A:Type}(sm:A→Prop)(xs:List A):Prop:=xs.length≤1048576∧∀x∈xs,sm x
theorem Gw {α ρ:Type}{L:Int→Option (ρ⊕Unit)}{a:List α}{p:α→Option Bool}{r:ρ}{q:α→Bool}(hp:∀x∈a,p x=some (q x))(hL:∀x,L x=bif decide (x<len a) then (aC a x).bind fun e=>(p e).bind fun c=>bif c then some (.inl r) else L (ac (x+1)) else some (.inr ()))(hb:a.length<9223372036854775807):L 0=some (bif a.any q then .inl r else .inr ()):=by
 have key:∀(k i:Nat),i+k=a.length→L (i:Int)=some (bif (a.drop i).any q then .inl r else .inr ()):=by
  intro k
  induction k with
  | zero=>
   intro i hi
   rw[hL,bX,decide_eq_false (by omega),cond_false,List.drop_eq_nil_of_le (by omega)]
   rfl
  | succ k ih=>
   intro i hi
   have h1:i<a.length:=by omega
   rw[hL,bX,decide_eq_true h1,cond_true,b8,eo h1,cm,hp _ (List.getElem_mem h1),cm,cV (by omega),ih (i+1) (by omega),List.drop_eq_getElem_cons h1,List.any_cons]
   cases q a[i]<;>rfl
 simpa using key a.length 0 (by omega)
theorem xZ {α:Type}{L:Int→Option (Int⊕Unit)}{a:List α}{p:α→Option Bool}{q:α→Bool}(hp:∀x∈a,p x=some (q x))(hL:∀x,L x=bif decide (x<len a) then (aC a x).bind fun e=>(p e).bind fun c=>bif c then some (.inl x) else L (ac (x+1)) else some (.inr ()))(hb:a.length<9223372036854775807):L 0=some (match a.findIdx? q with | some i=>.inl (i:Int) | none=>.inr ()):=by
 have key:∀(k i:Nat),i+k=a.length→L (i:Int)=some (match (a.drop i).findIdx? q with | some j=>.inl ((i+j:Nat):Int) | none=>.inr ()):=by
  intro k
  induction k with
  | zero=>
   intro i hi
   rw[hL,bX,decide_eq_false (by omega),cond_false,List.drop_eq_nil_of_le (by omega)]
   rfl
  | succ k ih=>
   intro i hi
   have h1:i<a.length:=by omega
   rw[hL,bX,decide_eq_true h1,cond_true,b8,eo h1,cm,hp _ (List.getElem_mem h1),cm,cV (by omega),ih (i+1) (by omega),List.drop_eq_getElem_cons h1,List.findIdx?_cons]
   cases hq:q a[i]
   ·simp only[cond_false,Bool.false_eq_true,if_false]
    cases (a.drop (i+1)).findIdx? q with
    | none=>rfl
    | some j=>simp only[Option.map_some];congr 3;omega
   ·simp
 simpa using key a.length 0 (by omega)
theorem uW:∀(a b:List UInt8),(!(Op.bytesLess a b||a==b))=Op.bytesLess b a
 | [],[]=>rfl
 | [],b::bs=>by simp[Op.bytesLess]
 | a::ax,[]=>by simp[Op.bytesLess]
 | a::ax,b::bs=>by
  have ih:=uW ax bs
  rcases Nat.lt_trichotomy a.toNat b.toNat with h | h | h
  ·have h1:a<b:=UInt8.lt_iff_toNat_lt.2 h
   have h2:¬b<a:=fun h'=>by have:=UInt8.lt_iff_toNat_lt.1 h';omega
   have h3:(b==a)=false:=by rw[beq_eq_false_iff_ne];rintro rfl;omega
   simp[Op.bytesLess,h1,h2,h3]
  ·have he:a=b:=UInt8.toNat_inj.1 h
   subst he
   have h1:¬a<a:=fun h'=>by have:=UInt8.lt_iff_toNat_lt.1 h';omega
   simpa[Op.bytesLess,h1] using ih
  ·have h1:b<a:=UInt8.lt_iff_toNat_lt.2 h
   have h2:¬a<b:=fun h'=>by have:=UInt8.lt_iff_toNat_lt.1 h';omega
   have h3:(a==b)=false:=by rw[beq_eq_false_iff_ne];rintro rfl;omega
   simp[Op.bytesLess,h1,h2,h3]
end
section
def d9 {α:Type}(g:Int→α→Int×α):Int→List α→Int×List α
 | k,[]=>(k,[])
 | k,x::xs=>((d9 g (g k x).1 xs).1,(g k x).2::(d9 g (g k x).1 xs).2)
section
variable {α ρ : Type} {g : Int→α→Int × α} {M : Int}
theorem pH:∀{xs:List α} {k:Int},(d9 g k xs).2.length=xs.length
 | [],_=>rfl
 | x::xs,k=>by simp only[d9,List.length_cons];rw[pH]
theorem od (hg:∀k x,k≤(g k x).1):∀{xs:List α} {k:Int},k≤(d9 g k xs).1
 | [],k=>Int.le_refl k
 | x::xs,k=>Int.le_trans (hg k x) (od hg)
theorem BM {c:Nat}(hc:∀k x,(g k x).1≤k+c):∀{xs:List α} {k:Int},(d9 g k xs).1≤k+((c*xs.length:Nat):Int)
 | [],k=>by simp[d9]
 | x::xs,k=>by
  have h1:=hc k x
  have h2:=BM hc (xs:=xs) (k:=(g k x).1)
  have:c*(x::xs).length=c*xs.length+c:=by rw[List.length_cons,Nat.mul_succ]
  rw[this]
  show (d9 g (g k x).1 xs).1≤_
  omega
theorem KM {L:Int×Int×List α→Option (ρ⊕(Int×List α))}(hg:∀k x,k≤(g k x).1)(hS:∀(k:Int) (i:Nat) (xs:List α) (e:α),0≤k→(g k e).1≤M→i<4611686018427387904→xs[i]?=some e→L (k,(i:Int),xs)=L ((g k e).1,((i+1:Nat):Int),xs.set i (g k e).2))(hE:∀(k:Int) (i:Nat) (xs:List α),xs.length≤i→L (k,(i:Int),xs)=some (.inr (k,xs))){k:Int}{xs:List α}(h0:0≤k)(hM:(d9 g k xs).1≤M)(hb:xs.length<4611686018427387904):L (k,0,xs)=some (.inr (d9 g k xs)):=by
 have key:∀(ys pre:List α) (k:Int),0≤k→(d9 g k ys).1≤M→(pre++ys).length<4611686018427387904→L (k,((pre.length:Nat):Int),pre++ys)=some (.inr ((d9 g k ys).1,pre++(d9 g k ys).2)):=by
  intro ys
  induction ys with
  | nil=>intro pre k _ _ _;exact hE k pre.length (pre++[]) (by simp)
  | cons y ys ih=>
   intro pre k h0 hM hb
   have hb':pre.length+(ys.length+1)<4611686018427387904:=by simpa using hb
   have h1:=od hg (xs:=ys) (k:=(g k y).1)
   have h2:=hg k y
   have h3:(d9 g (g k y).1 ys).1≤M:=hM
   rw[hS k pre.length (pre++y::ys) y h0 (by omega) (by omega) (by simp)]
   have e:(pre++y::ys).set pre.length (g k y).2=(pre++[(g k y).2])++ys:=by simp
   have:=ih (pre++[(g k y).2]) (g k y).1 (by omega) h3 (by simpa using hb)
   rw[e,show pre.length+1=(pre++[(g k y).2]).length by simp,this]
   simp[d9]
 have:=key xs [] k h0 hM (by simpa using hb)
 simpa using this
theorem VK {H:Int×Int→Option (ρ⊕Int)}{a:List α}(hg:∀k x,k≤(g k x).1)(hS:∀(k:Int) (i:Nat) (e:α),0≤k→(g k e).1≤M→i<4611686018427387904→a[i]?=some (g k e).2→H (k,(i:Int))=H ((g k e).1,((i+1:Nat):Int)))(hE:∀(k:Int) (i:Nat),a.length≤i→H (k,(i:Int))=some (.inr k)){k:Int}{xs:List α}(h0:0≤k)(hM:(d9 g k xs).1≤M)(hb:xs.length<4611686018427387904)(ha:a=(d9 g k xs).2):H (k,0)=some (.inr (d9 g k xs).1):=by
 have key:∀(ys:List α) (i:Nat) (k:Int),0≤k→(d9 g k ys).1≤M→i+ys.length<4611686018427387904→a.drop i=(d9 g k ys).2→H (k,(i:Int))=some (.inr (d9 g k ys).1):=by
  intro ys
  induction ys with
  | nil=>intro i k _ _ _ h;exact hE k i (by simpa[d9] using h)
  | cons y ys ih=>
   intro i k h0 hM hb h
   have h1:=od hg (xs:=ys) (k:=(g k y).1)
   have h2:=hg k y
   have h3:(d9 g (g k y).1 ys).1≤M:=hM
   simp only[List.length_cons] at hb
   have h':a.drop i=(g k y).2::(d9 g (g k y).1 ys).2:=h
   have e1:a[i]?=some (g k y).2:=by
    have:=congrArg (fun l=>l[0]?) h'
    simpa using this
   have e2:a.drop (i+1)=(d9 g (g k y).1 ys).2:=by
    have:=congrArg List.tail h'
    simpa using this
   rw[hS k i y h0 (by omega) (by omega) e1,ih (i+1) (g k y).1 (by omega) h3 (by omega) e2]
   rfl
 have:=key xs 0 k h0 hM (by omega) (by simpa using ha)
 simpa using this
theorem V3 {β ρ:Type}{L:Int×List β→Option (ρ⊕List β)}{a:List α}{f:α→List β}(hS:∀(i:Nat) (x:α),a[i]?=some x→L ((i:Int),(a.take i).flatMap f)=L (((i+1:Nat):Int),(a.take i).flatMap f++f x))(hE:∀(i:Nat) z,a.length≤i→L ((i:Int),z)=some (.inr z)):L (0,[])=some (.inr (a.flatMap f)):=by
 have key:∀(k i:Nat),i+k=a.length→L ((i:Int),(a.take i).flatMap f)=some (.inr (a.flatMap f)):=by
  intro k
  induction k with
  | zero=>intro i hi;rw[hE i _ (by omega),List.take_of_length_le (by omega)]
  | succ k ih=>
   intro i hi
   have h1:i<a.length:=by omega
   have:=ih (i+1) (by omega)
   rw[List.take_add_one,eo h1,List.flatMap_append] at this
   rw[hS i a[i] (eo h1),←this]
   simp
 simpa using key a.length 0 (by omega)
def iM (keep:Nat→Bool)(a:List α)(n:Nat):List α:=(List.range n).filterMap fun j=>if keep j=true then a[j]? else none
theorem rc {keep:Nat→Bool}{a:List α}{n:Nat}{x:α}(h:keep n=true)(hx:a[n]?=some x):iM keep a (n+1)=iM keep a n++[x]:=by
 unfold iM
 rw[List.range_succ,List.filterMap_append]
 simp[h,hx]
theorem uc {keep:Nat→Bool}{a:List α}{n:Nat}(h:keep n=false):iM keep a (n+1)=iM keep a n:=by
 unfold iM
 rw[List.range_succ,List.filterMap_append]
 simp[h]
theorem NB {L:Int×Int×List α→Option (ρ⊕(Int×List α))}{keep:Nat→Bool}{a:List α}{i0:Nat}(hS:∀(i j:Nat) (z:List α) (x:α),z.length=a.length→i0≤i→i<j→a[j]?=some x→z[j]?=some x→z[j - 1]?=a[j - 1]?→L ((i:Int),(j:Int),z)=bif keep j then L (((i+1:Nat):Int),((j+1:Nat):Int),z.set i x) else L ((i:Int),((j+1:Nat):Int),z))(hE:∀(i j:Nat) (z:List α),z.length=a.length→i0≤i→i<j→a.length≤j→L ((i:Int),(j:Int),z)=some (.inr ((i:Int),z)))(h0:iM keep a (i0+1)=a.take i0)(hi:i0<a.length):∃(i:Nat) (z:List α),L ((i0:Int),((i0+1:Nat):Int),a)=some (.inr ((i:Int),z))∧z.length=a.length∧i≤z.length∧z.take i=iM keep a a.length:=by
 have key:∀(k i j:Nat) (z:List α),j+k=a.length→i0≤i→i<j→z.length=a.length→z.drop (j - 1)=a.drop (j - 1)→z.take i=iM keep a j→∃(i':Nat) (z':List α),L ((i:Int),(j:Int),z)=some (.inr ((i':Int),z'))∧z'.length=a.length∧i'≤z'.length∧z'.take i'=iM keep a a.length:=by
  intro k
  induction k with
  | zero=>
   intro i j z hj h00 hij hz hd ht
   refine⟨i,z,hE i j z hz h00 hij (by omega),hz,by omega,?_⟩
   rw[ht,show j=a.length by omega]
  | succ k ih=>
   intro i j z hj h00 hij hz hd ht
   have h1:j<a.length:=by omega
   have hx:=eo h1
   have e1:z[j]?=some a[j]:=by
    have:=congrArg (fun l=>l[1]?) hd
    simp only[List.getElem?_drop] at this
    rw[show j - 1+1=j by omega] at this
    rw[this,hx]
   have e2:z[j - 1]?=a[j - 1]?:=by
    have:=congrArg (fun l=>l[0]?) hd
    simpa only[List.getElem?_drop,Nat.add_zero] using this
   have e3:z.drop j=a.drop j:=by
    have:=congrArg (List.drop 1) hd
    simpa only[List.drop_drop,show j - 1+1=j by omega] using this
   rw[hS i j z a[j] hz h00 hij hx e1 e2]
   cases hk:keep j with
   | true=>
    rw[cond_true]
    refine ih (i+1) (j+1) (z.set i a[j]) (by omega) (by omega) (by omega) (by simpa using hz) ?_ ?_
    ·rw[show j+1 - 1=j by omega,List.drop_set_of_lt hij,e3]
    ·rw[rc hk hx,←ht,List.take_add_one,List.getElem?_set_self (by omega),List.take_set_of_le (Nat.le_refl i)]
     rfl
   | false=>
    rw[cond_false]
    refine ih i (j+1) z (by omega) h00 (by omega) hz ?_ ?_
    ·rw[show j+1 - 1=j by omega,e3]
    ·rw[uc hk,ht]
 exact key (a.length - (i0+1)) i0 (i0+1) a (by omega) (Nat.le_refl _) (by omega) rfl rfl h0.symm
theorem aad {β:Type}{i:Nat}{z:List α}{c:α}{F:List α→Option β}(h:i≤z.length) :
  (gb z.length (i:Int) (len z)).bind (fun _=>(uK z (0+Int.toNat (i:Int)) (Int.toNat (len z) - Int.toNat (i:Int)) c).bind fun k=>(gb k.length 0 (i:Int)).bind fun _=>(gF k (0+Int.toNat 0) (Int.toNat (i:Int) - Int.toNat 0)).bind F)=F (z.take i):=by
 have e1:gb z.length (i:Int) (len z)=some ():=by unfold gb;rw[if_pos (by simp only[len];omega)]
 have e2:uK z (0+Int.toNat (i:Int)) (Int.toNat (len z) - Int.toNat (i:Int)) c=some (z.take i++List.replicate (z.length - i) c):=by
  unfold uK
  simp only[len,Int.toNat_natCast,Nat.zero_add]
  rw[if_pos (by omega),List.drop_eq_nil_of_le (by omega),List.append_nil]
 rw[e1,cm,e2,cm]
 have hl:(z.take i++List.replicate (z.length - i) c).length=z.length:=by simp;omega
 have e3:gb (z.take i++List.replicate (z.length - i) c).length 0 (i:Int)=some ():=by rw[hl];unfold gb;rw[if_pos (by omega)]
 have e4:gF (z.take i++List.replicate (z.length - i) c) (0+Int.toNat 0) (Int.toNat (i:Int) - Int.toNat 0)=some (z.take i):=by
  unfold gF
  rw[hl]
  simp only[Int.toNat_natCast,Nat.zero_add,Int.toNat_zero,Nat.sub_zero,List.drop_zero]
  rw[if_pos h,List.take_left' (by simp;omega)]
 rw[e3,cm,e4,cm]
end
end
section
open Go Go.Proofs Go.RowKit
structure Cell1 {α:Type} (fV:α→V) (fc:α→Value):Prop where
 one:∀x,cells (fV x)=[fV x]
 out:∀{w:World} {ρ:bV} {L:Option dP} {x:α} {u:Value},RepV w ρ iw L (fV x) u→u=fc x
 rep:∀(w:World) (ρ:bV) (L:Option dP) (x:α),RepV w ρ iw L (fV x) (fc x)
 nh:∀x,nh (fV x)
theorem Sx:Cell1 str (fun l=>Value.string ⟨l.toArray⟩) where
 one:=fun x=>rfl
 out:=fun {w ρ L x u} h=>by
  have h':RepV w ρ iw L (.str ⟨x.toArray⟩) u:=h
  cases h';rfl
 rep:=fun w ρ L x=>.str _ _
 nh:=fun x=>by simp[str,Go.Ln.nh]
theorem zF {w:World}{b n:Nat}{α:Type}[Inhabited α]{fc:α→Value}{d:Array α}{os:Array Obj}{arr:Array Value}{T:TypeId}(hb:w.heap[b]?=some (.cells arr T (0,0))) :
  (Sort.grow (Sort.putRow fc (Sort.ahead w n) b 0 d) os).heap[b]?=some (.cells (Sort.putCells fc 0 d arr) T (0,0))∧
  (∀k,k≠b→k<w.heap.size→(Sort.grow (Sort.putRow fc (Sort.ahead w n) b 0 d) os).heap[k]?=w.heap[k]?)∧w.heap.size≤(Sort.grow (Sort.putRow fc (Sort.ahead w n) b 0 d) os).heap.size:=by
 have hlt:b<w.heap.size:=(nE.1 hb).1
 have hs:(Sort.putRow fc (Sort.ahead w n) b 0 d).heap.size=w.heap.size:=by rw[Sort.size_putRow];rfl
 have hk:∀k,k<w.heap.size→(Sort.grow (Sort.putRow fc (Sort.ahead w n) b 0 d) os).heap[k]?=(Sort.putRow fc (Sort.ahead w n) b 0 d).heap[k]?:=by
  intro k hk
  simp only[Sort.grow]
  rw[Array.getElem?_append,if_pos (by omega)]
 refine⟨?_,fun k h1 h2=>?_,?_⟩
 ·rw[hk b hlt]
  simp only[Sort.putRow,Sort.mapBlock,Sort.ahead,Array.getElem?_modify,if_true]
  rw[hb]
  rfl
 ·rw[hk k h2]
  simp only[Sort.putRow,Sort.mapBlock,Sort.ahead,Array.getElem?_modify]
  rw[if_neg (by omega)]
 ·simp only[Sort.grow,Array.size_append]
  omega
theorem OO {w w':World}{ρ:bV}{b:Nat}{l:List (Nat×Nat)}{arr arr':Array Value}{T:TypeId}(hi:Inn w ρ)(hρ:ρ b=some (1,l))(hb:w.heap[b]?=some (.cells arr T (0,0)))(hb':w'.heap[b]?=some (.cells arr' T (0,0)))(hs:arr'.size=arr.size)(ho:∀k,k≠b→k<w.heap.size→w'.heap[k]?=w.heap[k]?)(hz:w.heap.size≤w'.heap.size)(h1:w'.os=w.os)(h2:w'.output=w.output)(h3:w'.tape=w.tape):Aft w ρ w' ρ:=by
 refine⟨⟨h1,h2,h3,hz,fun c n ⟨a,t,e1,e2⟩=>?_⟩,fun c e1 e2=>⟨e1,ho c (fun e=>by subst e;rw[hρ] at e1;cases e1) e2⟩,fun c l' h=>⟨h,ho c (fun e=>by subst e;rw[hρ] at h;cases h) (hi.lab c 0 l' h).1⟩,fun c l h=>h,hi.inj,fun c o l h=>⟨Nat.lt_of_lt_of_le (hi.lab c o l h).1 hz,(hi.lab c o l h).2.imp id .inl⟩⟩
 by_cases e:c=b
 ·subst e
  rw[hb] at e1
  cases e1
  exact⟨arr',T,hb',by omega⟩
 ·refine⟨a,t,?_,e2⟩
  rw[ho c e (nE.1 e1).1]
  exact e1
theorem La {w:World}{ρ:bV}:IQ w ρ (.tup []) (.tuple #[]):=⟨fun _=>undef,rfl,fun c v h=>by simp[fN] at h⟩
theorem SL {α:Type}[Inhabited α]{P:Program}{G:Ground}{f:FuncId}{fV:α→V}{fc:α→Value}(C:Cell1 fV fc){g:List α→Option (List α)}(he:∀us w,(callFunc f us).run P w=.ok (.enter f us) w)(h0:∀(p:Option Addr) (c:Nat) (w:World),Calls P f #[.slice p 0 c] w fun e w'=>e=.returned (.tuple #[])∧w'=w)(hn:∀ys,g []=some ys→ys=[])(h:∀(b c:Nat) (xs ys:List α) (w:World),g xs=some ys→Sort.Holds fc w b 0 xs.toArray→b<w.heap.size→ys.length=xs.length∧Calls P f #[.slice (some ⟨b,0,none⟩) xs.length c] w fun e w'=>e=.returned (.tuple #[])∧∃n os,w'=Sort.grow (Sort.putRow fc (Sort.ahead w n) b 0 ys.toArray) os) :
  gf P G f (bA [true] (oA (kM 1 fV)) (fun r=>(.tup [],[.usl 1 (r.map fV)])) g):=by
 intro w ρ vs us r dG hA hi hg hF
 obtain⟨xs,ys,rfl,hq,h9⟩:=Gz hF
 cases h9
 obtain⟨hl,ha⟩:=hA
 obtain⟨u,rfl⟩:∃u,us=[u]:=by
  match us,hl with
  | [u],_=>exact⟨u,rfl⟩
 have hr:RepV w ρ iw (some (1,[(0,0)])) (.usl 1 (xs.map fV)) u:=BV rfl (ha 0 _ u rfl rfl).1
 have nhy:Go.Ln.nh (.usl 1 (ys.map fV)):=by
  simp only[Go.Ln.nh,dS,List.mem_map]
  rintro v ⟨y,_,rfl⟩
  exact C.nh y
 -- what a row in memory gives back
 have outs_of:∀(w':World),RepV w' ρ iw (some (1,[(0,0)])) (.usl 1 (ys.map fV)) u→qN w ρ w' ρ [true] [.usl 1 (xs.map fV)] [u] [.usl 1 (ys.map fV)]:=by
  intro w' hw' a v u' x e1 e2 e3 gg e4 k y z e5 e6 e7
  match a,e3 with
  | 0,e3=>
   simp at e1 e2
   subst e1 e2
   have e8:x=.usl 1 (ys.map fV):=(Option.some.inj e3).symm
   subst e8
   match k,e5 with
   | 0,e5=>
    have e9:y=.usl 1 (ys.map fV):=by simpa[cells] using e5.symm
    subst e9
    refine⟨nhy,?_,fun b n h1 h2=>h1⟩
    have:gg 0=u:=by rw[e4];rfl
    rw[this]
    exact hw'
   | k+1,e5=>simp[cells] at e5
  | a+1,e3=>simp[em] at e3
 by_cases hx:xs=[]
 ·subst hx
  obtain rfl:=hn ys hq
  have hu:∃p c,u=.slice p 0 c:=by
   generalize hv:V.usl 1 (List.map fV [])=v at hr
   cases hr<;>simp at hv
   ·exact⟨_,_,rfl⟩
   ·obtain⟨_,rfl⟩:=hv;exact⟨_,_,rfl⟩
  obtain⟨p,c,rfl⟩:=hu
  refine .inr ⟨he _ _,(h0 p c w).mono fun e w' ⟨h1,h2⟩=>⟨_,h1,ρ,?_,La,?_⟩⟩
  ·subst h2
   exact⟨Wk.refl,fun b e1 e2=>⟨e1,rfl⟩,fun b l e1=>⟨e1,rfl⟩,fun b l e1=>e1,hi.inj,fun b o l e1=>⟨(hi.lab b o l e1).1,(hi.lab b o l e1).2.imp id .inl⟩⟩
  ·subst h2
   exact outs_of _ hr
 ·have hpos:0<xs.length:=List.length_pos_iff.2 hx
  obtain⟨b,c,arr,T,gg,hρ,hb,hlc,hu,hcap,hc⟩:∃b c arr T,∃gg:Nat→Value,ρ b=some (1,[(0,0)])∧w.heap[b]?=some (.cells arr T (0,0))∧xs.length≤c∧u=.slice (some ⟨b,0,none⟩) xs.length c∧c≤arr.size∧(∀(i:Nat) (x:α),xs[i]?=some x→arr[i]?=some (fc x)):=by
   generalize hv:V.usl 1 (xs.map fV)=v at hr
   cases hr<;>simp at hv
   case usl0=>exact absurd hv.2 hx
   case usl s es b A c arr T gg hb hlc hA hcap hs hc hρ hrep=>
    obtain⟨rfl,rfl⟩:=hv
    rw[List.length_map] at hlc
    refine⟨b,c,arr,T,fun i=>gg i 0,hρ,hb,hlc,?_,by omega,fun i x hx=>?_⟩
    ·rw[hA (by omega),List.length_map]
    ·have e1:(xs.map fV)[i]?=some (fV x):=by rw[List.getElem?_map,hx];rfl
     have e2:(cells (fV x))[0]?=some (fV x):=by rw[C.one];rfl
     have e3:=hc i _ 0 _ e1 e2
     rw[C.out (hrep i _ 0 _ e1 e2),Nat.mul_one,Nat.add_zero] at e3
     exact e3
  subst hu
  have hblt:b<w.heap.size:=(nE.1 hb).1
  have hH:Sort.Holds fc w b 0 xs.toArray:=by
   intro j hj
   have hj':j<xs.length:=by simpa using hj
   have e1:=hc j xs[j] (eo hj')
   have e2:xs.toArray[j]! = xs[j]:=by rw[getElem!_pos _ j (by simpa using hj')];simp
   refine⟨?_,?_⟩
   ·simp only[World.cell?,hb,Nat.zero_add,e2]
    exact e1
   ·simp only[World.frozen?,hb]
    simp
  obtain⟨hlen,hcall⟩:=h b c xs ys w hq hH hblt
  refine .inr ⟨he _ _,hcall.mono fun e w' ⟨h1,n,os,h2⟩=>⟨_,h1,ρ,?_,La,?_⟩⟩
  ·subst h2
   obtain⟨k1,k2,k3⟩:=zF (n:=n) (fc:=fc) (d:=ys.toArray) (os:=os) hb
   exact OO hi hρ hb k1 (by simp[Sort.putCells]) k2 k3 rfl rfl rfl
  ·subst h2
   obtain⟨k1,k2,k3⟩:=zF (n:=n) (fc:=fc) (d:=ys.toArray) (os:=os) hb
   refine outs_of _ ?_
   rw[←hlen,←List.length_map (f:=fV)]
   refine .usl _ 1 _ b _ c _ T (fun i _=>fc (ys[i]?.getD default)) hρ k1 (by rw[List.length_map];omega) (fun _=>rfl) (by simp[Sort.putCells];omega) ?_ ?_ ?_
   ·intro i e h3
    rw[List.getElem?_map] at h3
    obtain⟨x,_,rfl⟩:=aU.1 h3
    rw[C.one];rfl
   ·intro i e k x h3 h4
    rw[List.getElem?_map] at h3
    obtain⟨y,h5,rfl⟩:=aU.1 h3
    rw[C.one] at h4
    match k,h4 with
    | 0,h4=>
     obtain⟨hi1,hi2⟩:=cZ.1 h5
     have hi3:i<arr.size:=by omega
     rw[h5,Nat.mul_one,Nat.add_zero]
     simp only[Sort.putCells,Array.getElem?_mapIdx,Array.getElem?_eq_getElem hi3,Option.map_some]
     rw[if_pos ⟨Nat.zero_le _,by simpa using hi1⟩,Nat.sub_zero,getElem!_pos _ i (by simpa using hi1)]
     simp[hi2]
    | k+1,h4=>simp at h4
   ·intro i e k x h3 h4
    rw[List.getElem?_map] at h3
    obtain⟨y,h5,rfl⟩:=aU.1 h3
    rw[C.one] at h4
    match k,h4 with
    | 0,h4=>
     simp at h4
     subst h4
     rw[h5]
     exact C.rep _ _ _ _
    | k+1,h4=>simp at h4
def uq (l:List (List UInt8)):Option (List (List UInt8)):=bif Nat.ble l.length 1048576 then some (l.mergeSort fun x y=>decide (x≤y)) else none
theorem O7 {P:Program}{G:Ground}{ρ:Shelf.Ren}(L:Lays.n190 P ρ):gf P G (ρ.f 190) (bA [true] (oA (kM 1 str)) (fun r=>(.tup [],[.usl 1 (r.map str)])) uq):=by
 refine SL Sx (Go.Proofs.enters_of L.f190 (by kernel_rfl) rfl) (fun p c w=>Any.slices_Sort_string_none L p c w) (fun ys h=>by cases h;exact List.mergeSort_nil) fun b c xs ys w hq hH hb=>?_
 unfold uq at hq
 cases hk:Nat.ble xs.length 1048576 with
 | false=>rw[hk] at hq;cases hq
 | true=>
  rw[hk] at hq
  cases hq
  have:=Nat.le_of_ble_eq_true hk
  exact⟨List.length_mergeSort _,Any.slices_Sort_string L b 0 c xs w hH hb (by omega)⟩
end
end Go.Ln
