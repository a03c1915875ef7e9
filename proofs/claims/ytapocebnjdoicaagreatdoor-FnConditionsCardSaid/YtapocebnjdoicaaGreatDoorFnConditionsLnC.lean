/-
  The reading of the code, part 3.
-/
import Derived.Test.YtapocebnjdoicaaGreatDoorFnConditionsLnB
set_option linter.unusedVariables false
set_option linter.unusedSimpArgs false
set_option linter.unusedSectionVars false
namespace Go.Ln
open Go
section
def BQ:List It→Option (List It)
 | .code .skip::k=>some k
 | .code (.region _ ops false)::k=>some (.ops ops (List.range ops.size)::k)
 | .code (.seq a b)::k=>some (.code a::.code b::k)
 | .code (.block id c)::k=>some (.code c::.blk id::k)
 | .code (.exit id)::k=>gJ id k
 | .ops _ []::k=>some k
 | .blk _::k=>some k
 | _=>none
theorem BR {E:Env}{k k':List It}{st:St}(h:BQ k=some k'):jd E k st=some (k',st):=by
 unfold BQ at h
 split at h<;>first | (cases h;done) | (cases h;rfl) | simp[jd,h]
def qE:Nat→List It→List It
 | 0,k=>k
 | n+1,k=>match k with
  | .ops ops (_::is)::k=>qE n (.ops ops is::k)
  | k=>match BQ k with
   | some k'=>qE n k'
   | none=>k
structure Ch where
 l:List (Nat×V)
 rt:ai
 nx:Nat
 W:List Nat
 T:List Nat
def Jh:Option Nat→List Nat
 | some t=>[t]
 | none=>[]
def yE (E:Env)(N:Nat):Nat→List It→Ch→Option Ch
 | 0,_,c=>some c
 | n+1,k,c=>match k with
  | .ops ops (i::is)::k=>(ops[i]?).bind fun o=>(gS ops ⟨ay .dead N c.l,c.rt,c.nx⟩ o).bind fun b=>match b with
   | true=>(aX E c.nx ⟨ay .dead N c.l,c.rt,c.nx⟩ o.op).bind fun r=>yE E N n (.ops ops is::k) ⟨gK o.dst r.1 c.l,r.2,c.nx+16,Jh o.dst++c.W,hI E ⟨ay .dead N c.l,c.rt,c.nx⟩ o.op++c.T⟩
   | false=>yE E N n (.ops ops is::k) ⟨gK o.dst .und c.l,c.rt,c.nx+16,Jh o.dst++c.W,c.T⟩
  | k=>(BQ k).bind fun k'=>yE E N n k' c
structure ChOk (c c':Ch):Prop where
 nx:c.nx≤c'.nx
 l:∀t,t∉c'.W→lk .dead c'.l t=lk .dead c.l t
 rt:∀o,o∉c'.T→o<c.nx→c'.rt o=c.rt o
 W:∀t,t∈c.W→t∈c'.W
 T:∀t,t∈c.T→t∈c'.T
theorem LV {dst:Option Nat}{v:V}{l:List (Nat×V)}{t:Nat}(h:t∉Jh dst):lk .dead (gK dst v l) t=lk .dead l t:=by
 cases dst with
 | none=>rfl
 | some d=>
  simp only[Jh,List.mem_singleton] at h
  simp only[gK,kZ]
  rw[if_neg (fun e=>h e.symm)]
theorem o8 {E:Env}{m:Nat}{Q:St→Prop}{N:Nat}:∀{n:Nat} {k:List It} {c c':Ch},yE E N n k c=some c'→ChOk c c'∧(Run E m Q (qE n k) ⟨ay .dead N c'.l,c'.rt,c'.nx⟩→Run E m Q k ⟨ay .dead N c.l,c.rt,c.nx⟩)
 | 0,k,c,c',h=>by
  simp only[yE,Option.some.injEq] at h
  subst h
  exact⟨⟨Nat.le_refl _,fun _ _=>rfl,fun _ _ _=>rfl,fun _ h=>h,fun _ h=>h⟩,fun r=>r⟩
 | n+1,k,c,c',h=>by
  unfold yE at h
  split at h
  ·rename_i ops i is k
   simp only[aG] at h
   obtain⟨o,ho,b,hb,h⟩:=h
   split at h
   ·simp only[aG] at h
    obtain⟨⟨v,rt1⟩,hv,h⟩:=h
    obtain⟨h1,h2⟩:=o8 h
    refine⟨⟨Nat.le_trans (Nat.le_add_right _ _) h1.nx,fun t ht=>?_,fun x hx hlt=>?_,fun t ht=>h1.W t (List.mem_append_right _ ht),fun t ht=>h1.T t (List.mem_append_right _ ht)⟩,fun r=>?_⟩
    ·rw[h1.l t ht]
     exact LV fun hm=>ht (h1.W t (List.mem_append_left _ hm))
    ·rw[h1.rt x hx (Nat.lt_of_lt_of_le hlt (Nat.le_add_right _ _))]
     exact Pd hv (fun hm=>hx (h1.T x (List.mem_append_left _ hm))) (by omega)
    ·refine .step (st':=⟨ay .dead N (gK o.dst v c.l),rt1,c.nx+16⟩) ?_ (h2 r)
     simp[jd,fm,ho,hb,hv,gt,bO]
   ·obtain⟨h1,h2⟩:=o8 h
    refine⟨⟨Nat.le_trans (Nat.le_add_right _ _) h1.nx,fun t ht=>?_,fun x hx hlt=>h1.rt x hx (Nat.lt_of_lt_of_le hlt (Nat.le_add_right _ _)),fun t ht=>h1.W t (List.mem_append_right _ ht),h1.T⟩,fun r=>?_⟩
    ·rw[h1.l t ht]
     exact LV fun hm=>ht (h1.W t (List.mem_append_left _ hm))
    ·refine .step (st':=⟨ay .dead N (gK o.dst .und c.l),c.rt,c.nx+16⟩) ?_ (h2 r)
     simp[jd,fm,ho,hb,gt,bO]
  ·rename_i k0 hk0
   simp only[aG] at h
   obtain⟨k',hk,h⟩:=h
   obtain⟨h1,h2⟩:=o8 h
   refine⟨h1,fun r=>.step (BR hk) (h2 ?_)⟩
   have:qE (n+1) k=qE n k':=by
    rw[qE]
    ·rw[hk]
    ·exact hk0
   rwa[this] at r
def LT:V→Bool
 | .dead=>true
 | _=>false
def O4 (E:Env)(N n:Nat)(k:List It)(l:List (Nat×V))(L:List (Nat×Option Root))(nx:Nat)(K D O X:List Nat):Option (List V×List (Option Root)×Nat):=
 match yE E N n k ⟨l,bp L,nx,[],[]⟩ with
 | some c=>if c.W.all (fun t=>K.contains t||D.contains t||LT (lk .dead l t))&&c.T.all (fun o=>O.contains o||X.contains o||(fa L o).isNone)&&L.all (fun e=>Nat.ble (e.1+1) nx)&&ly (qE n k) then
  some (K.map (lk .dead c.l),O.map c.rt,c.nx) else none
 | none=>none
theorem LW:∀{K:List Nat} {vs:List V} {l:List (Nat×V)} {f:Nat→V} {t:Nat},K.map f=vs→lk .dead (K.zip vs++l) t=if t∈K then f t else lk .dead l t
 | [],vs,l,f,t,h=>by cases vs<;>simp
 | k::K,[],l,f,t,h=>by simp at h
 | k::K,v::vs,l,f,t,h=>by
  simp only[List.map_cons,List.cons.injEq] at h
  obtain⟨rfl,h2⟩:=h
  simp only[List.zip_cons_cons,List.cons_append,kZ,List.mem_cons]
  by_cases e:k=t
  ·subst e;simp
  ·rw[if_neg e,LW h2]
   simp[Ne.symm e,show ¬t=k from fun h=>e h.symm]
theorem Ql {D:List Nat}{l:List (Nat×V)}{t:Nat}:lk .dead (D.map (fun t=>(t,V.dead))++l) t=if t∈D then .dead else lk .dead l t:=by
 induction D with
 | nil=>simp
 | cons d D ih=>
  simp only[List.map_cons,List.cons_append,kZ,List.mem_cons]
  by_cases e:d=t
  ·subst e;simp
  ·rw[if_neg e,ih]
   simp[show ¬t=d from fun h=>e h.symm]
theorem HX:∀{O:List Nat} {rs:List (Option Root)} {L:List (Nat×Option Root)} {f:Nat→Option Root} {o:Nat},O.map f=rs→fa (O.zip rs++L) o=if o∈O then f o else fa L o
 | [],rs,L,f,o,h=>by cases rs<;>simp
 | k::O,[],L,f,o,h=>by simp at h
 | k::O,v::rs,L,f,o,h=>by
  simp only[List.map_cons,List.cons.injEq] at h
  obtain⟨rfl,h2⟩:=h
  simp only[List.zip_cons_cons,List.cons_append,jG,List.mem_cons]
  by_cases e:k=o
  ·subst e;simp
  ·rw[if_neg e,HX h2]
   simp[show ¬o=k from fun h=>e h.symm]
theorem yo {X:List Nat}{L:List (Nat×Option Root)}{o:Nat}:fa (X.map (fun o=>(o,(none:Option Root)))++L) o=if o∈X then none else fa L o:=by
 induction X with
 | nil=>simp
 | cons d X ih=>
  simp only[List.map_cons,List.cons_append,jG,List.mem_cons]
  by_cases e:d=o
  ·subst e;simp
  ·rw[if_neg e,ih]
   simp[show ¬o=d from fun h=>e h.symm]
theorem N8 {L:List (Nat×Option Root)}{nx o:Nat}(h:L.all (fun e=>Nat.ble (e.1+1) nx)=true)(ho:nx≤o):fa L o=none:=by
 induction L with
 | nil=>rfl
 | cons e L ih=>
  obtain⟨k,r⟩:=e
  simp only[List.all_cons,Bool.and_eq_true,Nat.ble_eq] at h
  rw[jG,if_neg (by omega),ih h.2]
theorem CT {E:Env}{m:Nat}{Q:St→Prop}{k:List It}{tm tm2:List V}{rt rt2:ai}{nx:Nat}(hk:ly k=true)(ht:tm2.length=tm.length)(ht2:∀(i:Nat) v,tm2[i]?=some v→tm[i]?=some v∨v=.dead)(hs:∀o r,rt2 o=some r→rt o=some r)(r:Run E m Q k ⟨tm2,rt2,nx⟩):Run E m Q k ⟨tm,rt,nx⟩:=
 .split (fun st=>st=⟨tm2,rt2,nx⟩) hk (fun R=>by
  obtain⟨ρ',R'⟩:=R.sub ht ht2 hs
  exact⟨ρ',_,rfl,R'⟩) fun st h=>h▸r
theorem ck {E:Env}{m:Nat}{Q:St→Prop}{k:List It}{N:Nat}{l:List (Nat×V)}{L:List (Nat×Option Root)}{nx:Nat}(n:Nat)(K D O X:List Nat)(vs:List V)(rs:List (Option Root))(nx':Nat)(h:O4 E N n k l L nx K D O X=some (vs,rs,nx'))(r:Run E m Q (qE n k) ⟨ay .dead N (K.zip vs++(D.map (fun t=>(t,.dead))++l)),bp (O.zip rs++(X.map (fun o=>(o,none))++L)),nx'⟩):Run E m Q k ⟨ay .dead N l,bp L,nx⟩:=by
 unfold O4 at h
 split at h
 ·rename_i c hc
  split at h
  ·rename_i hb
   simp only[Option.some.injEq,Prod.mk.injEq] at h
   obtain⟨hv,hr,rfl⟩:=h
   simp only[Bool.and_eq_true,List.all_eq_true,Bool.or_eq_true,List.contains_eq_mem,decide_eq_true_eq] at hb
   obtain⟨⟨⟨hW,hT⟩,hL⟩,hk⟩:=hb
   obtain⟨h1,h2⟩:=o8 (m:=m) (Q:=Q) hc
   refine h2 (CT hk (by simp[ay]) (fun i v hi=>?_) (fun o r' ho=>?_) r)
   ·rw[gX] at hi ⊢
    split at hi
    ·rename_i hlt
     rw[if_pos hlt]
     cases hi
     rw[LW hv,Ql]
     by_cases hK:i∈K
     ·rw[if_pos hK];exact .inl rfl
     ·rw[if_neg hK]
      by_cases hD:i∈D
      ·rw[if_pos hD];exact .inr rfl
      ·rw[if_neg hD]
       by_cases hw:i∈c.W
       ·rcases hW i hw with (h | h) | h
        ·exact absurd h hK
        ·exact absurd h hD
        ·right
         generalize lk .dead l i=z at h
         cases z<;>first | rfl | simp[LT] at h
       ·left
        rw[h1.l i hw]
    ·cases hi
   ·simp only[bp] at ho
    rw[HX hr,yo] at ho
    by_cases hO:o∈O
    ·rwa[if_pos hO] at ho
    ·rw[if_neg hO] at ho
     by_cases hX:o∈X
     ·rw[if_pos hX] at ho;cases ho
     ·rw[if_neg hX] at ho
      by_cases hlt:o<nx
      ·by_cases ht:o∈c.T
       ·rcases hT o ht with (h | h) | h
        ·exact absurd h hO
        ·exact absurd h hX
        ·rw[ho] at h;simp at h
       ·rw[h1.rt o ht hlt]
        exact ho
      ·have:=N8 (nx:=nx) (List.all_eq_true.2 hL) (Nat.le_of_not_lt hlt)
       rw[this] at ho
       cases ho
  ·cases h
 ·cases h
theorem c0 {E:Env}{m:Nat}{Q:St→Prop}{k:List It}{N:Nat}{l:List (Nat×V)}{L:List (Nat×Option Root)}{nx:Nat}(n:Nat)(K:List Nat)(vs:List V)(nx':Nat)(h:O4 E N n k l L nx K [] [] []=some (vs,[],nx'))(r:Run E m Q (qE n k) ⟨ay .dead N (K.zip vs++l),bp L,nx'⟩):Run E m Q k ⟨ay .dead N l,bp L,nx⟩:=ck n K [] [] [] vs [] nx' h r
def JA:Nat→List It→Option (List It)
 | 0,k=>some k
 | n+1,k=>(BQ k).bind (JA n)
theorem ad {E:Env}{m:Nat}{Q:St→Prop}{st:St}:∀(n:Nat) {k k':List It},JA n k=some k'→Run E m Q k' st→Run E m Q k st
 | 0,k,k',h,r=>by cases h;exact r
 | n+1,k,k',h,r=>by
  obtain⟨k1,h1,h2⟩:=aG.1 h
  exact .step (BR h1) (ad n h2 r)
end
section
def mt (L:List (Nat×Option Root))(own:List Bool)(os:List V):List mr→List (Nat×Option Root)
 | []=>[]
 | (o,p,a,k)::g=>(o,(fa L o).bind fun r=>((dV own os a).bind fun x=>(cells x)[k]?).bind (iJ p r))::mt L own os g
theorem HC {L:List (Nat×Option Root)}{own:List Bool}{os:List V}{g:List mr}{dead:List Nat}:iK (bp L) g own os dead=bp (mt L own os g++(dead.map (fun o=>(o,(none:Option Root)))++L)):=by
 funext o
 have key:∀g:List mr,fa (mt L own os g++(dead.map (fun o=>(o,(none:Option Root)))++L)) o=match dI g o with
   | some (p,a,k)=>(fa L o).bind fun r=>((dV own os a).bind fun x=>(cells x)[k]?).bind (iJ p r)
   | none=>if o∈dead then none else fa L o:=by
  intro g
  induction g with
  | nil=>simp only[mt,List.nil_append,yo,dI]
  | cons e g ih=>
   obtain⟨o',p,a,k⟩:=e
   simp only[mt,List.cons_append,jG,dI]
   by_cases h:o'=o
   ·subst h;simp
   ·rw[if_neg h,if_neg (fun e=>h e.symm)]
    exact ih
 simp only[iK,bp]
 rw[key g]
 cases dI g o<;>simp
section
variable {E : Env} {L L' : List (Nat × Option Root)} {id : Nat} {rt : ai} {s s0 : Nat} {path : fU}
theorem bm {own:List Bool}{os:List V}:mt L own os []=[]:=rfl
theorem dM {own:List Bool}{os:List V}{o a k:Nat}{p:fU}{g:List mr}{r:Root}{r':Option Root}{x y:V}{G:List (Nat×Option Root)}(h0:fa L o=some r)(h1:dV own os a=some x)(h2:(cells x)[k]?=some y)(h3:iJ p r y=r')(hs:mt L own os g=G):mt L own os ((o,p,a,k)::g)=(o,r')::G:=by
 simp only[mt,h0,h1,h2,h3,hs,cm]
theorem HD {p:fU}{r:Root}:iJ p r .dead=none:=by
 cases p with
 | nil=>rfl
 | cons q p=>simp[iJ]
theorem O5 {o nv nv' m:Nat}{es es2:List V}(hr:fa L o=some ⟨nv',s0,es⟩)(hv:pM path nv nv'=true)(hp:aU path s0 es=some (s,es2))(hm:m=es2.length):ib (bp L) (.hs o nv path s 0 m)=some (.usl s es2):=by
 simp only[ib,kQ hr hv,cm,hp]
 rw[if_pos ⟨trivial,hm,trivial⟩]
theorem Tc {o nv nv':Nat}{es:List V}{e:V}(hr:fa L o=some ⟨nv',s0,es⟩)(hv:pM path nv nv'=true)(hp:aU path s0 es=some (s,[e]))(hs:(cells e).length=s):ib (bp L) (.hp o nv path s 0 0)=some (.uptr e):=by
 simp only[ib,kQ hr hv,cm,hp]
 rw[if_pos ⟨trivial,trivial,trivial,hs⟩]
theorem ey {v w:V}(ha:al v=false)(h:ib rt v=some w):ox rt v=some w:=by cases v<;>first | (simp[al] at ha;done) | exact h
def Tr (g:List mr)(lent:List Nat):Bool:=lz (0::g.map (·.1))&&lent.all fun o=>!(0::g.map (·.1)).contains o
theorem aP {f:FuncId}{e:Ent}{g:List mr}{args xs:List V}{r v:V}{os ys:List V}{R:List (Nat×Nat×Root)}{G':List (Nat×Option Root)}(he:E.fn f=some e)(hg:aZ 0 e.own args=g)(hl:Tr g (bl e.own args)=true)(hx:eK (bp L) e.own args=some xs)(hF:e.F xs=some (r,os))(hi:(cy r||cY os)=false∨bl e.own args=[])(hb:mt L e.own os g=G')(hr:bh id 0 (eE r)=(ys,R))(hn:Nat.ble R.length 16=true)(hv:qh r ys=v):jB E (bp L) id f args=some (v,bp (nN id R++(G'++L))):=by
 rw[Nat.ble_eq] at hn
 simp only[jB,he,cm,hg,hx,hF,hr]
 rw[if_pos (show (lz (0::g.map (·.1))&&(bl e.own args).all fun o=>!(0::g.map (·.1)).contains o)=true from hl)]
 rw[if_pos (by simpa[bO] using hn)]
 have hd:(if (cy r||cY os)=true then bl e.own args else [])=[]:=by
  rcases hi with h | h
  ·rw[h];rfl
  ·rw[h];split<;>rfl
 rw[hd,HC,hb,nG,hv]
 simp
theorem nZ {f:FuncId}{e:Ent}{g:List mr}{args xs:List V}{r v:V}{os ys:List V}{R:List (Nat×Nat×Root)}{G':List (Nat×Option Root)}{D:List Nat}(he:E.fn f=some e)(hg:aZ 0 e.own args=g)(hD:bl e.own args=D)(hl:Tr g D=true)(hx:eK (bp L) e.own args=some xs)(hF:e.F xs=some (r,os))(hb:mt L e.own os g=G')(hr:bh id 0 (eE r)=(ys,R))(hn:Nat.ble R.length 16=true)(hv:qh r ys=v) :
  ∃rt',jB E (bp L) id f args=some (v,rt')∧∀o r',bp (nN id R++(G'++(D.map (fun o=>(o,none))++L))) o=some r'→rt' o=some r':=by
 rw[Nat.ble_eq] at hn
 refine⟨dU (iK (bp L) g e.own os (if (cy r||cY os)=true then bl e.own args else [])) id R,?_,?_⟩
 ·simp only[jB,he,cm,hg,hx,hF,hr]
  rw[hD]
  rw[if_pos (show (lz (0::g.map (·.1))&&D.all fun o=>!(0::g.map (·.1)).contains o)=true from hl)]
  rw[if_pos (by simpa[bO] using hn),hv]
 ·intro o r' h
  rw[HC,hb,nG]
  have key:∀(A:List (Nat×Option Root)) (r':Root),fa (A++(D.map (fun o=>(o,(none:Option Root)))++L)) o=some r'→fa (A++L) o=some r':=by
   intro A
   induction A with
   | nil=>
    intro r' h
    simp only[List.nil_append,yo] at h ⊢
    split at h
    ·cases h
    ·exact h
   | cons e A ih=>
    intro r' h
    obtain⟨k,x⟩:=e
    simp only[List.cons_append,jG] at h ⊢
    split
    ·rename_i hk;rw[if_pos hk] at h;exact h
    ·rename_i hk;rw[if_neg hk] at h;exact ih r' h
  split
  ·rw[hD];exact h
  ·simp only[bp] at h ⊢
   rw[←List.append_assoc] at h ⊢
   exact key _ r' h
end
section
variable {E : Env} {m : Nat} {Q : St→Prop} {ops : Array Oper} {i : Nat} {is : List Nat} {k : List It} {d : V} {n : Nat} {l : List (Nat × V)} {rt rt' rt2 : ai} {nx : Nat} {op : Op} {v : V} {t : Nat}
theorem oK (nx':Nat)(v:V)(hx:nx+16=nx')(ho:oB ops i=some (some t,op))(hv:∃rt',aX E nx ⟨ay d n l,rt,nx⟩ op=some (v,rt')∧∀o r',rt2 o=some r'→rt' o=some r')(r:Run E m Q (.ops ops is::k) ⟨ay d n ((t,v)::l),rt2,nx'⟩):Run E m Q (.ops ops (i::is)::k) ⟨ay d n l,rt,nx⟩:=by
 obtain⟨rt',h1,h2⟩:=hv
 exact o nx' v hx ho h1 (CT rfl rfl (fun i v h=>.inl h) h2 r)
theorem me {id:Nat}{nx:Nat}{f:FuncId}{xs:Array Operand}{ts:Array TypeId}{caps args:List V}{fo:Operand}(hf:ig d n l fo=some (.fn f caps))(hx:sx d n l xs.toList=some args)(h:∃rt',jB E rt id f (args++caps)=some (v,rt')∧∀o r',rt2 o=some r'→rt' o=some r') :
  ∃rt',aX E id ⟨ay d n l,rt,nx⟩ (.call { callee:=.value fo,args:=xs,argTypes:=ts })=some (v,rt')∧∀o r',rt2 o=some r'→rt' o=some r':=by
 obtain⟨rt',h1,h2⟩:=h
 exact⟨rt',aH hf hx h1,h2⟩
end
theorem fb {E:Env}{d:V}{n:Nat}{l:List (Nat×V)}{rt:ai}{nx:Nat}{fo:Operand}{xs:Array Operand}{ts:Array TypeId}{f:FuncId}{caps vs ys:List V}{e:Ent}{r:V}{os:List V}{g:List mr}(hf:ig d n l fo=some (.fn f caps))(ha:sx d n l xs.toList=some vs)(he:E.fn f=some e)(hg:aZ 0 e.own (vs++caps)=g)(hx:eK rt e.own (vs++caps)=some ys)(hF:e.F ys=some (r,os))(hi:(cy r||cY os)=false∨bl e.own (vs++caps)=[]){W:List Nat}(hW:g.map (·.1)=W):hI E ⟨ay d n l,rt,nx⟩ (.call { callee:=.value fo,args:=xs,argTypes:=ts })=W:=by
 subst hW
 have hd:(if (cy r||cY os)=true then bl e.own (vs++caps) else [])=[]:=by
  rcases hi with h | h
  ·rw[h];rfl
  ·rw[h];split<;>rfl
 simp only[hI,gI,vQ,hf,ha,vO,he,hg,hx,hF,cm,hd,List.append_nil]
theorem ta {E:Env}{d:V}{n:Nat}{l:List (Nat×V)}{rt:ai}{nx:Nat}{xs:Array Operand}{ts:Array TypeId}{dv xv:V}{W:List Nat}(ha:sx d n l xs.toList=some [dv,xv])(h:jk rt dv xv=W):hI E ⟨ay d n l,rt,nx⟩ (.call { callee:=.builtin .append,args:=xs,argTypes:=ts })=W:=by
 simp only[hI,vQ,ha,h]
theorem Ja {L:List (Nat×Option Root)}{o nv nv' s0 s sz off len:Nat}{es0:List V}{path:fU}{dv:V}{α:Type}{f:α→V}{xs:List α}{W:List Nat}(hr:fa L o=some ⟨nv',s0,es0⟩)(hv:pM path nv nv'=true)(hp:aU path s0 es0=some (s,xs.map f))(hf:∀y,jb (f y)=true)(hW:di dv=W):jk (bp L) dv (.hs o nv path sz off len)=W:=by
 have h:(((xs.map f).drop off).take len).all jb=true:=by
  rw[List.all_eq_true]
  intro z hz
  obtain⟨y,_,rfl⟩:=List.mem_map.1 (List.mem_of_mem_drop (List.mem_of_mem_take hz))
  exact hf y
 simp only[jk,vW hr hv hp,h,if_true,hW,List.append_nil]
theorem Jb {L:List (Nat×Option Root)}{o nv nv' s k:Nat}{es:List V}{dv:V}{W:List Nat}(hr:fa L o=some ⟨nv',s,es⟩)(hk:k=es.length)(hf:es.all jb=false)(hW:di dv++[o]=W):jk (bp L) dv (.hs o nv [] s 0 k)=W:=by
 have hv:bD (bp L) o nv []=some (s,es):=by simp[bD,bA,bp,hr,aU]
 simp only[jk,hv,List.drop_zero,hk,List.take_length,hf]
 exact hW
theorem S5 {L:List (Nat×Option Root)}{o nv nv' s k:Nat}{es:List V}{dv:V}{W:List Nat}(hr:fa L o=some ⟨nv',s,es⟩)(hk:k=es.length)(hf:es.all jb=true)(hW:di dv=W):jk (bp L) dv (.hs o nv [] s 0 k)=W:=by
 have hv:bD (bp L) o nv []=some (s,es):=by simp[bD,bA,bp,hr,aU]
 simp only[jk,hv,List.drop_zero,hk,List.take_length,hf]
 simpa using hW
theorem eQ {L:List (Nat×Option Root)}{s o nv nv':Nat}{e:V}(hr:fa L o=some ⟨nv',s,[e]⟩)(hs:(cells e).length=s):gx (bp L) (.hp o nv [] s 0 0)=.uptr e:=by
 have:bp L o=some ⟨nv',s,[e]⟩:=by simp[bp,hr]
 simp only[gx,BF,this,cm]
 rw[if_pos ⟨trivial,trivial,trivial,hs⟩]
theorem Pb {L:List (Nat×Option Root)}{s o nv k:Nat}(h:fa L o=none):gx (bp L) (.hs o nv [] s 0 k)=.dead:=by
 have:bp L o=none:=by simp[bp,h]
 simp only[gx,BF,this,Option.bind_none]
theorem dG {rt:ai}{own:List Bool}:cV rt own []=[]:=by cases own<;>first | rfl | (rename_i b _;cases b<;>rfl)
theorem eF {rt:ai}{own:List Bool}{v:V}{vs ws:List V}(h:cV rt own vs=ws):cV rt (false::own) (v::vs)=ws:=h
theorem fw {rt:ai}{own:List Bool}{v w:V}{vs ws:List V}(ha:al v=false)(h1:gx rt v=w)(h:cV rt own vs=ws):cV rt (true::own) (v::vs)=w::ws:=by
 have:Gx rt v=w:=by cases v<;>first | (simp[al] at ha;done) | exact h1
 simp only[cV,this,h]
end
section
noncomputable def bu {α β:Type}(own:List Bool)(ea:α→List V)(er:β→V×List V)(f:α→Option β):Ent:=
 ⟨own,fun vs=>open Classical in if h:∃a,ea a=vs then (f h.choose).map er else none⟩
theorem ba {α β:Type}{own:List Bool}{ea:α→List V}{er:β→V×List V}{f:α→Option β}{a:α}{r:β}(inj:∀a b,ea a=ea b→a=b)(h:f a=some r):(bu own ea er f).F (ea a)=some (er r):=by
 have hh:∃b,ea b=ea a:=⟨a,rfl⟩
 simp only[bu]
 rw[dif_pos hh,inj _ _ hh.choose_spec,h]
 rfl
theorem vP {α β:Type}{own:List Bool}{ea:α→List V}{er:β→V×List V}{f:α→Option β}{vs:List V}{x:V×List V}(h:(bu own ea er f).F vs=some x):∃a r,ea a=vs∧f a=some r∧er r=x:=by
 simp only[bu] at h
 split at h
 ·rename_i hh
  obtain⟨r,h1,h2⟩:=aI.1 h
  exact⟨_,r,hh.choose_spec,h1,h2⟩
 ·cases h
def oQ (os os':List V):Prop:=os.length=os'.length∧∀(i:Nat) y,os'[i]?=some y→os[i]?=some y∨y=.dead
theorem kl {os:List V}:oQ os os:=⟨rfl,fun _ _ h=>.inl h⟩
theorem dw:oQ [] []:=kl
theorem fQ {x:V}{os os':List V}(h:oQ os os'):oQ (x::os) (x::os'):=⟨by simp[h.1],fun i y hy=>by
 cases i with
 | zero=>exact .inl hy
 | succ i=>exact h.2 i y (by simpa using hy)⟩
theorem Sk {x:V}{os os':List V}(h:oQ os os'):oQ (x::os) (.dead::os'):=⟨by simp[h.1],fun i y hy=>by
 cases i with
 | zero=>simp at hy;exact .inr hy.symm
 | succ i=>exact h.2 i y (by simpa using hy)⟩
theorem sP:∀{own:List Bool} {os os':List V} {a:Nat} {y:V},oQ os os'→dV own os' a=some y→dV own os a=some y∨y=.dead
 | [],os,os',a,y,h,e=>by simp[dV] at e
 | true::bs,[],x::ys,a,y,h,e=>by simp[oQ] at h
 | true::bs,os,[],a,y,h,e=>by cases a<;>simp[dV] at e
 | true::bs,x::xs,x'::ys,0,y,h,e=>by
  simp only[dV,Option.some.injEq] at e
  subst e
  rcases h.2 0 x' rfl with h | h
  ·exact .inl (by simpa[dV] using h)
  ·exact .inr h
 | true::bs,x::xs,x'::ys,a+1,y,h,e=>by
  simp only[dV] at e ⊢
  exact sP ⟨by simpa using h.1,fun i y hy=>by simpa using h.2 (i+1) y (by simpa using hy)⟩ e
 | false::bs,os,os',0,y,h,e=>by cases os'<;>simp[dV] at e
 | false::bs,os,os',a+1,y,h,e=>by
  have e':dV bs os' a=some y:=by cases os'<;>simpa[dV] using e
  have:=sP h e'
  cases os<;>simpa[dV] using this
def QF (E:Env)(fn:Func)(own:List Bool)(vs:List V)(x:V×List V)(st:St):Prop:=∃os,kF E fn own (enter fn vs).1 st=some (x.1,os)∧oQ os x.2
def b7 (E:Env)(fn:Func)(own:List Bool)(m:Nat)(vs:List V)(x:V×List V):Prop:=Run E m (QF E fn own vs x) [.code (aY fn)] (enter fn vs).2
theorem Si {P:Program}{E:Env}{G:Ground}{f:FuncId}{fn:Func}{own:List Bool}{α β:Type}{ea:α→List V}{er:β→V×List V}{g:α→Option β}{n m:Nat}(hG:∀f e,E.fn f=some e→fq P G f e)(A:Agree P E)(hm:P.follows .mixedOrders=true)(hf:P.funcs[f]?=some fn)(F:Fits fn (aY fn) n)(hn:∀a,(ea a).length=n∧qD (ea a)=m)(h:∀a r,g a=some r→b7 E fn own m (ea a) (er r)):fq P G f (bu own ea er g):=by
 intro w ρ vs us r os ha hi hg hF
 obtain⟨a,r0,rfl,h1,h2⟩:=vP hF
 have hr:Run E (qD (ea a)) (QF E fn own (ea a) (r,os)) [.code (aY fn)] (enter fn (ea a)).2:=by
  rw[(hn a).2,←h2]
  exact h a r0 h1
 refine .inr ⟨DX hf F _ w,fun cs=>?_⟩
 have R:=LE (P:=P) ha hi hg (fn:=fn) (by rw[(hn a).1];exact F.args)
 have hx:=gn (hr.fin hG A hm R)
 let b:Frame:={ (default:Frame) with fn:=f,kind:=.normal }
 have henter:Frame.enter P f us.toArray .normal =
   b.at { tmps:=us.toArray++Array.replicate (fn.ntmps - us.toArray.size) undef,defers:=[] } ([It.code (aY fn)].map lZ):=by
  simp[Frame.enter,Frame.at,hf,F.body,b,lZ]
 obtain⟨a',w',td,⟨ρ',st,R',os0,hQ,hk⟩,hs⟩:=hx b cs
 rw[←henter] at hs
 obtain⟨u,hrun,ρe,q1,q2,q3⟩:=LU A ha hi R' hQ
 refine⟨.returned u,w',_,⟨u,rfl,ρe,q1,q2,?_⟩,hs,rfl,rfl,R'.df,rfl,fn,hf,hrun⟩
 intro i v u' x hv hu hx g hg k y z hy hz hno
 rcases sP hk hx with h | rfl
 ·exact q3 i v u' x hv hu h g hg k y z hy hz hno
 ·have:y=.dead:=by
   cases k<;>simp[cells] at hy
   exact hy.symm
  subst this
  exact absurd trivial hno
theorem Sy {E:Env}{m:Nat}{Q:St→Prop}{k:List It}{fn:Func}{vs ys:List V}{R:List (Nat×Nat×Root)}(h:bh 1 0 vs=(ys,R)){n:Nat}(l:List (Nat×V))(hl:ys++List.replicate (fn.ntmps - vs.length) .und=ay .und n l)(nx:Nat)(hx:1+R.length=nx)(hk:ly k=true)(r:Run E m Q k ⟨ay .dead n l,bp (nN 1 R),nx⟩):Run E m Q k (enter fn vs).2:=by
 refine pQ (NP h hl hx) (CT hk (by simp[ay]) (fun i v hi=>?_) (fun _ _ h=>h) r)
 rw[gX] at hi ⊢
 split at hi
 ·rename_i hlt
  rw[if_pos hlt]
  cases hi
  clear hl h hx r
  induction l with
  | nil=>right;rfl
  | cons e l ih=>
   obtain⟨t,v⟩:=e
   simp only[kZ]
   split
   ·exact .inl rfl
   ·exact ih
 ·cases hi
theorem ch {P:Program}{G:Ground}:∀p∈([]:List (FuncId×Ent)),fq P G p.1 p.2:=by simp
theorem aQ {P:Program}{G:Ground}{f:FuncId}{e:Ent}{l:List (FuncId×Ent)}(h:fq P G f e)(hs:∀p∈l,fq P G p.1 p.2):∀p∈(f,e)::l,fq P G p.1 p.2:=fun p hp=>by
 rcases List.mem_cons.1 hp with rfl | hp
 ·exact h
 ·exact hs p hp
theorem gq {P:Program}{G:Ground}{f:FuncId}{own:List Bool}{α β:Type}{ea:α→List V}{er:β→V×List V}{F:(α→Option β)→α→Option β}(h:∀self:α→Option β,fq P G f (bu own ea er self)→fq P G f (bu own ea er (F self))):fq P G f (bu own ea er (aE F)):=by
 refine fq.levels (own:=own) (F:=fun k=>(bu own ea er (gi F k)).F) (fun k=>?_) fun vs x hx=>?_
 ·induction k with
  | zero=>
   intro w ρ vs us r cV h1 h2 h3 h4
   obtain⟨a,r0,_,h5,_⟩:=vP (own:=own) h4
   cases h5
  | succ k ih=>exact h (gi F k) ih
 ·simp only[bu] at hx ⊢
  split at hx
  ·rename_i hh
   obtain⟨r,h1,h2⟩:=aI.1 hx
   have h3:∃k,gi F k hh.choose=some r:=by
    unfold aE at h1
    split at h1
    ·rename_i h4
     cases h1
     exact h4.choose_spec
    ·cases h1
   obtain⟨k,hk⟩:=h3
   exact⟨k,by rw[dif_pos hh,hk,←h2];rfl⟩
  ·cases hx
theorem Tu {α:Type}{f:α→V}(hf:∀a b,f a=f b→a=b)(a b:α)(h:[f a]=[f b]):a=b:=hf _ _ (List.cons.inj h).1
theorem Tv {α β:Type}{f:α→V}{g:β→List V}(hf:∀a b,f a=f b→a=b)(hg:∀a b,g a=g b→a=b)(a b:α×β)(h:f a.1::g a.2=f b.1::g b.2):a=b:=by
 obtain⟨h1,h2⟩:=List.cons.inj h
 exact Prod.ext (hf _ _ h1) (hg _ _ h2)
theorem QH {α:Type}{f:α→V}{s:Nat}(hf:∀a b,f a=f b→a=b)(xs ys:List α)(h:V.usl s (xs.map f)=.usl s (ys.map f)):xs=ys:=by
 simp only[V.usl.injEq,true_and] at h
 exact CP hf h
theorem gb {α:Type}{f:α→V}(hf:∀a b,f a=f b→a=b)(a b:α)(h:V.uptr (f a)=.uptr (f b)):a=b:=hf _ _ (V.uptr.inj h)
theorem sc {E:Env}{m:Nat}{Q:St→Prop}{c:Code}{k:List It}{st:St}{α:Type}{b:Bool}{x y:Option α}{r:Option α}(h:(bif b then x else y)=r)(hc:cK c=3)(hv:ev st (BA c)=some (.bool b))(h1:x=r→Run E m Q (.code (cL c)::k) st)(h2:y=r→Run E m Q (.code (cR c)::k) st):Run E m Q (.code c::k) st:=
 GL hc hv (fun hb=>h1 (by subst hb;exact h)) (fun hb=>h2 (by subst hb;exact h))
theorem om {E:Env}{m:Nat}{Q:St→Prop}{c:Code}{k:List It}{st:St}{α:Type}{b:Bool}{x y r:α}(h:(bif b then x else y)=r)(hc:cK c=3)(hv:ev st (BA c)=some (.bool b))(h1:x=r→Run E m Q (.code (cL c)::k) st)(h2:y=r→Run E m Q (.code (cR c)::k) st):Run E m Q (.code c::k) st:=
 GL hc hv (fun hb=>h1 (by subst hb;exact h)) (fun hb=>h2 (by subst hb;exact h))
theorem sp {E:Env}{m:Nat}{Q:St→Prop}{d:V}{n:Nat}{l:List (Nat×V)}{rt:ai}{nx:Nat}{α:Type}{b:Bool}{x y r:α}(t:Nat)(h:(bif b then x else y)=r)(ht:lk d l t=.bool b){todo:List It}(h1:x=r→Run E m Q todo ⟨ay d n ((t,.bool true)::l),rt,nx⟩)(h2:y=r→Run E m Q todo ⟨ay d n ((t,.bool false)::l),rt,nx⟩):Run E m Q todo ⟨ay d n l,rt,nx⟩:=
 Qv t ht (fun hb=>h1 (by subst hb;exact h)) (fun hb=>h2 (by subst hb;exact h))
theorem L1 {α:Type}{f:α→V}:([]:List V)=([]:List α).map f:=rfl
theorem HY {α:Type}{f:α→V}{w:V}{y:α}{ws:List V}{ys:List α}(h:w=f y)(t:ws=ys.map f):w::ws=(y::ys).map f:=by rw[h,t];rfl
theorem rj {α:Type}{f:α→V}{xs:List α}{L:List (Nat×Option Root)}{s o nv nv' k:Nat}{es:List V}(hr:fa L o=some ⟨nv',s,es⟩)(hk:k=es.length)(he:es=xs.map f):bX (bp L) (.hs o nv [] s 0 k)=some (.usl s (xs.map f),bp ((o,none)::L)):=by rw[←he];exact ec hr hk
def fI (a b:FuncId)(x:Bool):V:=.fn (bif x then a else b) []
theorem Id {E:Env}{m:Nat}{Q:St→Prop}{d:V}{n:Nat}{l:List (Nat×V)}{rt:ai}{nx:Nat}{f g:FuncId}{b q:Bool}(t:Nat)(e:b=q){todo:List It}(r:Run E m Q todo ⟨ay d n ((t,fI f g q)::l),rt,nx⟩)(ht:lk d l t=fI f g b:=by exact rfl):Run E m Q todo ⟨ay d n l,rt,nx⟩:=by
 have h:ay d n ((t,fI f g q)::l)=ay d n l:=by
  apply List.ext_getElem?
  intro j
  rw[gX,gX,kZ]
  split
  ·split
   ·rename_i h;subst h;rw[ht,e]
   ·rfl
  ·rfl
 rw[h] at r
 exact r
theorem fX {α:Type}{b:Bool}{x y r:α}{P:Prop}(h:(bif b then x else y)=r)(h1:b=true→x=r→P)(h2:b=false→y=r→P):P:=by
 cases b with
 | true=>exact h1 rfl h
 | false=>exact h2 rfl h
end
section
def qI (n:Nat)(lo hi:Int):Option Unit:=if 0≤lo∧lo≤hi∧hi≤n then some () else none
def lQ {α:Type}(xs:List α)(off n:Nat):Option (List α):=if off+n≤xs.length then some ((xs.drop off).take n) else none
section
variable {E : Env} {L L' : List (Nat × Option Root)} {rt rt' : ai} {t : TypeId} {s s0 id : Nat} {path : List (Nat × Nat)} {α : Type} {f g : α→V} {xs ys zs : List α} {a b i : Int} {y : α}
theorem iO {o nv off k:Nat}{p:List (Nat×Nat)}{e:TypeId}(hd:E.desc t=some (.slice e))(hs:(E.ty e).map (·.size)=some s)(hk:k=(xs.map f).length)(h:bf xs i=some y):iE E t (.hs o nv p s off k) i=some (.hp o nv p s (off+i.toNat) 0):=Td hd hs (by rw[hk,List.length_map]) h
theorem BI {o nv off k:Nat}{p:List (Nat×Nat)}(h:fC (E.desc t)=true)(hk:k=(xs.map f).length):qy (E.desc t) (.hs o nv p s off k)=some (I (len xs)):=by
 rw[Tx h,hk,List.length_map]
theorem jR {o nv nv' k:Nat}(hr:fa L o=some ⟨nv',s,xs.map f⟩)(hk:k=(xs.map f).length)(hi:fB (xs.map f)=xs.map g):fO (bp L) (.hs o nv [] s 0 k)=some (.isl false (xs.map g)):=Ti hr (by rw[hk,List.length_map]) hi
theorem Sn {z0:α}{k:Int}{e:TypeId}{ei:TI}(hd:E.desc t=some (.slice e))(he:E.ty e=some ei)(hz:gU ei.zv=some (f z0))(hc:0<ei.size∧(cells (f z0)).length=ei.size∧al (f z0)=eH ei.desc)(hx:Pa ei.bytes z0 k=some xs)(hs:ei.size=s) :
  L3 E (bp L) id t k k=some (.hs id 0 [] s 0 (xs.map f).length,bp ((id,some ⟨0,s,xs.map f⟩)::L)):=by
 rw[List.length_map];exact Te hd he hz hc hx hs
theorem nY {es es0:List V}{L2:List (Nat×Option Root)}{xv:V}{e:TypeId}{ei:TI}{o nv nv' k:Nat}(hd:E.desc t=some (.slice e))(he:E.ty e=some ei)(hx:eS (bp L) xv=some (es,bp L'))(hes:es=ys.map f)(hr:fa L' o=some ⟨nv',s0,es0⟩)(hv:pM path nv nv'=true)(hp:aU path s0 es0=some (s,xs.map f))(hk:k=(xs.map f).length)(hsz:0<ei.size∧ei.zv.cells.size=ei.size)(hf:∀y,(cells (f y)).length=ei.size∧(cells (f y)).all eP=true)(hz:kd ei.bytes xs ys=some zs)(hs:ei.size=s)(ht:eD (bp L') o ⟨nv',s0,es0⟩ path=some (bp L2)) :
  jX E (bp L) id t (.hs o nv path s 0 k) xv=some (.hs id 0 [] s 0 (zs.map f).length,bp ((id,some ⟨0,s,zs.map f⟩)::L2)):=by
 subst hes hs
 unfold kd at hz
 split at hz
 ·rename_i hb
  cases hz
  obtain⟨⟨dd,a,b,c⟩,hti,hdd⟩:=uN hd
  simp only at hdd
  subst hdd
  simp only[jX,hti,he,cm,hx]
  rw[if_pos ⟨hsz,by simp[hf]⟩]
  simp only[vW hr hv hp,cm]
  rw[if_pos ⟨trivial,hk,trivial,by rw[hk];simpa using hb.1,by rw[hk];simpa using hb.2⟩,eu hr hv hp hk ht]
  simp only[Option.map_some]
  rw[jV,hk]
  simp
 ·cases hz
theorem GO {o nv k:Nat}{p:List (Nat×Nat)}{lo hi:Option V}{e:TypeId}(hd:E.desc t=some (.slice e))(hs:(E.ty e).map (·.size)=some s)(hk:k=(xs.map f).length)(h1:gO 0 lo=some a)(h2:gO (k:Int) hi=some b)(h:qI xs.length a b=some ()):jS E rt t (.hs o nv p s 0 k) lo hi=some (.hs o nv p s (0+a.toNat) (b.toNat - a.toNat)):=by
 unfold qI at h
 split at h
 ·rename_i hc
  simp only[jS,hd]
  rw[if_pos hs,h1]
  simp only[cm]
  rw[h2]
  simp only[cm]
  rw[if_pos ⟨hc.1,hc.2.1,by rw[hk,List.length_map];exact hc.2.2⟩]
 ·cases h
theorem Tt {k:Nat}(hk:k=(xs.map f).length):gO (k:Int) none=some (len xs):=by rw[hk,List.length_map];rfl
theorem Gj {z:α}:((mN xs i z).map f).length=(xs.map f).length:=by simp[mN]
theorem Gz {off k:Nat}(h:lQ xs off k=some ys):((xs.map f).drop off).take k=ys.map f∧off+k≤(xs.map f).length∧k=ys.length:=by
 unfold lQ at h
 split at h
 ·cases h
  refine⟨by rw[List.map_take,List.map_drop],by simpa using ‹_›,?_⟩
  simp
  omega
 ·cases h
theorem Im {o nv nv' off k:Nat}{es:List V}(hr:fa L o=some ⟨nv',s0,es⟩)(hv:pM path nv nv'=true)(hp:aU path s0 es=some (s,xs.map f))(h:lQ xs off k=some ys)(hf:∀y,jb (f y)=true):eS (bp L) (.hs o nv path s off k)=some (ys.map f,bp L):=by
 obtain⟨h1,h2,_⟩:=Gz (f:=f) h
 simp only[eS,vW hr hv hp,cm]
 rw[if_pos h2,if_neg (by simp),h1,if_pos (by simp[hf])]
theorem RV {o nv nv' off k:Nat}{es:List V}(hr:fa L o=some ⟨nv',s0,es⟩)(hv:pM path nv nv'=true)(hp:aU path s0 es=some (s,xs.map f))(h:lQ xs off k=some ys)(h0:off=0)(ht:eD (bp L) o ⟨nv',s0,es⟩ path=some rt'):bX (bp L) (.hs o nv path s off k)=some (.usl s (ys.map f),rt'):=by
 obtain⟨h1,h2,_⟩:=Gz (f:=f) h
 subst h0
 simp only[bX,kQ hr hv,cm,hp]
 rw[if_pos ⟨trivial,by omega,trivial⟩,ht]
 rw[List.drop_zero] at h1
 rw[h1]
 rfl
end
end
section
section
variable {α : Type} {f : α→V} {xs ys : List α} {i : Int} {y : α} {w : V} {off k : Nat}
theorem kH (hw:f y=w)(h:bf xs i=some y):(xs.map f)[0+i.toNat]?=some w:=hw▸nq h
end
end
section
theorem C0 {L:List (Nat×Option Root)}{o nv nv' s k:Nat}{es:List V}(hr:fa L o=some ⟨nv',s,es⟩)(hk:k=es.length)(hf:es.all jb=false):eS (bp L) (.hs o nv [] s 0 k)=some (es,bp ((o,none)::L)):=by
 have hv:bD (bp L) o nv []=some (s,es):=by simp[bD,bA,bp,hr,aU]
 simp only[eS,hv,cm]
 rw[if_pos (by omega)]
 simp only[List.drop_zero,hk,List.take_length]
 rw[if_neg (by simp),if_neg (by simp[hf]),if_pos (by simp),jV]
end
section
def oI {α:Type}(f:α→V)(xs:List α):V:=.isl false (xs.map f)
def TE {α:Type}(s:Nat)(f:α→V)(xs:List α):V:=.usl s (xs.map f)
def qm {α:Type}(f:α→V)(x:α):V:=.uptr (f x)
def nA (_:Unit):List V:=[]
def oA {α:Type}(f:α→V)(x:α):List V:=[f x]
def cA {α β:Type}(f:α→V)(g:β→List V)(x:α×β):List V:=f x.1::g x.2
theorem So:∀a b,nA a=nA b→a=b:=fun _ _ _=>rfl
theorem bb {α:Type}{f:α→V}(hf:∀a b,f a=f b→a=b):∀a b,oA f a=oA f b→a=b:=Tu hf
theorem cI {α β:Type}{f:α→V}{g:β→List V}(hf:∀a b,f a=f b→a=b)(hg:∀a b,g a=g b→a=b):∀a b,cA f g a=cA f g b→a=b:=Tv hf hg
end
section
theorem TD {E:Env}{m:Nat}{Q:St→Prop}{k:List It}{fn:Func}{vs:List V}{n:Nat}(l:List (Nat×V))(L:List (Nat×Option Root))(nx:Nat)(hl:(bh 1 0 vs).1++List.replicate (fn.ntmps - vs.length) .und=ay .und n l)(hL:nN 1 (bh 1 0 vs).2=L)(hx:1+(bh 1 0 vs).2.length=nx)(hk:ly k=true)(r:Run E m Q k ⟨ay .dead n l,bp L,nx⟩):Run E m Q k (enter fn vs).2:=
 Sy (ys:=(bh 1 0 vs).1) (R:=(bh 1 0 vs).2) rfl l hl nx hx hk (by rw[hL];exact r)
end
section
def CF (k:IntKind)(x y:Int):Int:=k.wrap ((BitVec.ofInt k.bits x &&& BitVec.ofInt k.bits y).toNat:Nat)
def JF (k:IntKind)(a b:Int):Int:=a.fdiv (2 ^ min b.toNat k.bits)
end
section
def sF:Op→Bool
 | .move _ | .assign _ | .pick .. | .build .. | .binOp .. | .unOp .. | .field .. | .index .. | .extract ..=>true
 | _=>false
theorem N3 {E:Env}{id:Nat}{st:St}{op:Op}{v:V}{rt:ai}(hl:sF op=true)(h:aX E id st op=some (v,rt)):rt=st.rt:=by
 cases op<;>simp only[sF,Bool.false_eq_true] at hl<;>simp only[aX,aG,aI,Prod.mk.injEq] at h
 case move=>obtain⟨_,_,_,h⟩:=h;exact h.symm
 case assign=>obtain⟨_,_,_,h⟩:=h;exact h.symm
 case pick=>obtain⟨_,_,_,_,_,h⟩:=h;exact h.symm
 case build=>obtain⟨_,_,_,_,_,h⟩:=h;exact h.symm
 case binOp=>obtain⟨_,_,_,_,_,_,_,h⟩:=h;exact h.symm
 case unOp=>obtain⟨_,_,_,_,_,h⟩:=h;exact h.symm
 case field=>
  obtain⟨x,_,y,_,h⟩:=h
  cases x<;>simp only[reduceCtorEq] at h
  split at h
  ·simp only[aI,Prod.mk.injEq] at h
   obtain⟨_,_,_,h⟩:=h;exact h.symm
  ·cases h
 case index=>
  obtain⟨x,_,y,_,h⟩:=h
  cases y<;>simp only[reduceCtorEq,aI,Prod.mk.injEq] at h
  obtain⟨_,_,_,h⟩:=h;exact h.symm
 case extract=>
  obtain⟨x,_,h⟩:=h
  cases x<;>simp only[reduceCtorEq,aI,Prod.mk.injEq] at h
  obtain⟨_,_,_,h⟩:=h;exact h.symm
theorem Qj {st:St}{op:Op}(hl:sF op=true):fS st op=[]:=by
 cases op<;>simp only[sF,Bool.false_eq_true] at hl<;>rfl
theorem Qk {E:Env}{st:St}{op:Op}(hl:sF op=true):hI E st op=[]:=by
 cases op<;>simp only[sF,Bool.false_eq_true] at hl<;>rfl
theorem H2 {base:Nat}{ms:List Nat}{i:Nat}{log:mc}:oG base ms i [] [] log=true:=by
 simp[oG]
theorem GE {t:Option Nat}{v:V}{acc l:List (Nat×V)}:gK t v (acc++l)=gK t v acc++l:=by cases t<;>rfl
def dL (E:Env)(ops:Array Oper)(N nx:Nat)(rt:ai)(l:List (Nat×V)):Nat→Nat→List (Nat×V)→Option (List (Nat×V))
 | 0,_,acc=>some acc
 | n+1,i,acc=>(ops[i]?).bind fun o=>(gS ops ⟨ay .dead N (acc++l),rt,nx⟩ o).bind fun b=>match b with
  | true=>match sF o.op with
   | true=>(aX E (nx+bO*i) ⟨ay .dead N (acc++l),rt,nx⟩ o.op).bind fun r=>dL E ops N nx rt l n (i+1) (gK o.dst r.1 acc)
   | false=>none
  | false=>dL E ops N nx rt l n (i+1) (gK o.dst .und acc)
def Jx:Nat→Nat→mc→mc
 | 0,_,log=>log
 | n+1,i,log=>Jx n (i+1) ((i,[],[])::log)
section
variable {E : Env} {m : Nat} {Q : St→Prop} {ops : Array Oper} {ms : List Nat} {k : List It} {N nx : Nat} {rt : ai} {l : List (Nat × V)}
theorem yg:∀{n i:Nat} {acc acc':List (Nat×V)} {log:mc},dL E ops N nx rt l n i acc=some acc'→
  Run E m Q (.dops ops ms (i+n) (Jx n i log)::k) ⟨ay .dead N (acc'++l),rt,nx⟩→Run E m Q (.dops ops ms i log::k) ⟨ay .dead N (acc++l),rt,nx⟩
 | 0,i,acc,acc',log,h,r=>by
  simp only[dL,Option.some.injEq] at h
  subst h
  exact r
 | n+1,i,acc,acc',log,h,r=>by
  simp only[dL,aG] at h
  obtain⟨o,ho,b,hb,h⟩:=h
  have r':Run E m Q (.dops ops ms (i+1+n) (Jx n (i+1) ((i,[],[])::log))::k) ⟨ay .dead N (acc'++l),rt,nx⟩:=by
   rw[Nat.add_right_comm];exact r
  cases b with
  | true=>
   simp only at h
   split at h
   ·rename_i hl
    simp only[aG] at h
    obtain⟨⟨v,rt1⟩,hv,h⟩:=h
    have e:=N3 hl hv
    dsimp only at e
    rw[e] at hv
    refine .dop (log':=(i,[],[])::log) (st':=⟨ay .dead N (gK o.dst v acc++l),rt,nx⟩) ?_ (yg h r')
    simp[mw,fm,ho,hb,hv,gt,Qj hl,Qk hl,H2,GE]
   ·cases h
  | false=>
   simp only at h
   refine .dop (log':=(i,[],[])::log) (st':=⟨ay .dead N (gK o.dst .und acc++l),rt,nx⟩) ?_ (yg h r')
   simp[mw,fm,ho,hb,gt,H2,GE]
theorem D6:∀{l:List (Nat×V)},(l.map (·.1)).zip (l.map (·.2))=l
 | []=>rfl
 | (a,b)::l=>by simp[D6]
theorem dk {i:Nat}{log:mc}(n:Nat)(K:List Nat)(vs:List V)(r:Run E m Q (.dops ops ms (i+n) (Jx n i log)::k) ⟨ay .dead N (K.zip vs++l),rt,nx⟩)(h:(dL E ops N nx rt l n i []).map (fun a=>(a.map (·.1),a.map (·.2)))=some (K,vs):=by kernel_rfl):Run E m Q (.dops ops ms i log::k) ⟨ay .dead N l,rt,nx⟩:=by
 simp only[aI,Prod.mk.injEq] at h
 obtain⟨a,h1,h2,h3⟩:=h
 subst h2 h3
 rw[D6] at r
 exact yg (acc:=[]) h1 r
end
section
variable {E : Env} {m : Nat} {Q : St→Prop} {ops : Array Oper} {i : Nat} {is : List Nat} {k : List It} {d : V} {n : Nat} {l : List (Nat × V)} {rt rt' : ai} {nx : Nat} {op : Op} {v : V} {t : Nat} {ms : List Nat} {log : mc}
theorem dq (R W:List Nat)(v:V)(ho:oB ops i=some (some t,op))(hv:aX E (nx+16*i) ⟨ay d n l,rt,nx⟩ op=some (v,rt'))(r:Run E m Q (.dops ops ms (i+1) ((i,R,W)::log)::k) ⟨ay d n ((t,v)::l),rt',nx⟩)(hW:hI E ⟨ay d n l,rt,nx⟩ op=W:=by exact rfl)(hR:fS ⟨ay d n l,rt,nx⟩ op=R:=by exact rfl)(hc:oG nx ms i R W log=true:=by decide):Run E m Q (.dops ops ms i log::k) ⟨ay d n l,rt,nx⟩:=dp R W v ho hv hR hW hc r
theorem dz (R W:List Nat)(ho:oB ops i=some (none,op))(hv:aX E (nx+16*i) ⟨ay d n l,rt,nx⟩ op=some (v,rt'))(r:Run E m Q (.dops ops ms (i+1) ((i,R,W)::log)::k) ⟨ay d n l,rt',nx⟩)(hW:hI E ⟨ay d n l,rt,nx⟩ op=W:=by exact rfl)(hR:fS ⟨ay d n l,rt,nx⟩ op=R:=by exact rfl)(hc:oG nx ms i R W log=true:=by decide):Run E m Q (.dops ops ms i log::k) ⟨ay d n l,rt,nx⟩:=TB R W ho hv hR hW hc r
theorem dy {g:Nat}{w:Bool}(R W:List Nat)(v:V)(ho:lP ops i=some (some t,op,some g,w))(hv:aX E (nx+16*i) ⟨ay d n l,rt,nx⟩ op=some (v,rt'))(r:Run E m Q (.dops ops ms (i+1) ((i,R,W)::log)::k) ⟨ay d n ((t,v)::l),rt',nx⟩)(hW:hI E ⟨ay d n l,rt,nx⟩ op=W:=by exact rfl)(hR:fS ⟨ay d n l,rt,nx⟩ op=R:=by exact rfl)(hn:Nat.ble (g+1) n=true:=by exact rfl)(hg:gd (lk d l g) w=some true:=by exact rfl)(hc:oG nx ms i R W log=true:=by decide):Run E m Q (.dops ops ms i log::k) ⟨ay d n l,rt,nx⟩:=dg R W v ho hn hg hv hR hW hc r
theorem oq (nx':Nat)(v:V)(ho:oB ops i=some (some t,op))(hv:aX E nx ⟨ay d n l,rt,nx⟩ op=some (v,rt'))(r:Run E m Q (.ops ops is::k) ⟨ay d n ((t,v)::l),rt',nx'⟩)(hx:nx+16=nx':=by exact rfl):Run E m Q (.ops ops (i::is)::k) ⟨ay d n l,rt,nx⟩:=o nx' v hx ho hv r
theorem oy {g:Nat}{w:Bool}(nx':Nat)(v:V)(ho:lP ops i=some (some t,op,some g,w))(hv:aX E nx ⟨ay d n l,rt,nx⟩ op=some (v,rt'))(r:Run E m Q (.ops ops is::k) ⟨ay d n ((t,v)::l),rt',nx'⟩)(hx:nx+16=nx':=by exact rfl)(hn:Nat.ble (g+1) n=true:=by exact rfl)(hg:gd (lk d l g) w=some true:=by exact rfl):Run E m Q (.ops ops (i::is)::k) ⟨ay d n l,rt,nx⟩:=og nx' v hx ho hn hg hv r
theorem cq {N:Nat}{L:List (Nat×Option Root)}(n:Nat)(K:List Nat)(vs:List V)(nx':Nat)(r:Run E m Q (qE n k) ⟨ay .dead N (K.zip vs++l),bp L,nx'⟩)(h:O4 E N n k l L nx K [] [] []=some (vs,[],nx'):=by kernel_rfl):Run E m Q k ⟨ay .dead N l,bp L,nx⟩:=c0 n K vs nx' h r
theorem aq {st:St}{k k':List It}(n:Nat)(r:Run E m Q k' st)(h:JA n k=some k':=by exact rfl):Run E m Q k st:=ad n h r
theorem Tg:∀{L:List (Option Root)} {rs:List Root},L.map (fun x=>x.map fun r=>(⟨0,r.s,r.es⟩:Root))=rs.map some→∃rs0:List Root,L=rs0.map some∧tg rs0 1=tg rs 1:=by
 intro L
 suffices h:∀(L:List (Option Root)) (rs:List Root) (i:Nat),L.map (fun x=>x.map fun r=>(⟨0,r.s,r.es⟩:Root))=rs.map some→∃rs0:List Root,L=rs0.map some∧tg rs0 i=tg rs i from fun {rs}=>h L rs 1
 intro L
 induction L with
 | nil=>
  intro rs i h
  cases rs with
  | nil=>exact⟨[],rfl,rfl⟩
  | cons r rs=>simp at h
 | cons x L ih=>
  intro rs i h
  cases rs with
  | nil=>simp at h
  | cons r rs=>
   simp only[List.map_cons,List.cons.injEq,aI] at h
   obtain⟨⟨y,rfl,rfl⟩,h2⟩:=h
   obtain⟨rs0,h3,h4⟩:=ih rs (i+1) h2
   exact⟨y::rs0,by rw[h3];rfl,by simp only[tg];rw[h4]⟩
theorem rf (L os:List Nat){rs:List Root}(r:Run E m Q k ⟨ay .dead n (L.map fun t=>(t,eT rt os (lk d l t))),bp (tg rs 1),os.length+1⟩)(hk:ly k=true:=by exact rfl)(hrs:(os.map rt).map (fun x=>x.map fun r=>(⟨0,r.s,r.es⟩:Root))=rs.map some:=by exact rfl)(ha:qr n 0 L=true:=by exact rfl)(hos:mX (iz m) (dS (L.map (lk d l)))=os:=by exact rfl):Run E m Q k ⟨ay d n l,rt,nx⟩:=by
 obtain⟨rs0,h1,h2⟩:=Tg hrs
 rw[←h2] at r
 exact JD L os rs0 ha hos h1 hk r
theorem sq {c:Code}{st:St}{α:Type}{b:Bool}{x y:Option α}{r:Option α}(h:(bif b then x else y)=r)(h1:x=r→Run E m Q (.code (cL c)::k) st)(h2:y=r→Run E m Q (.code (cR c)::k) st)(hc:cK c=3:=by exact rfl)(hv:ev st (BA c)=some (.bool b):=by exact rfl):Run E m Q (.code c::k) st:=sc h hc hv h1 h2
end
abbrev sT (n:Nat)(l:List (Nat×V))(rs:List Root)(nx:Nat):St:=⟨ay .dead n l,bp (tg rs 1),nx⟩
theorem cB {L:List (Nat×Option Root)}{path:fU}{s0 s o nv nv':Nat}{es:List V}{e:V}(hr:fa L o=some ⟨nv',s0,es⟩)(hv:pM path nv nv'=true)(hp:aU path s0 es=some (s,[e]))(hs:(cells e).length=s:=by exact rfl):ib (bp L) (.hp o nv path s 0 0)=some (.uptr e):=Tc hr hv hp hs
theorem NT {α β:Type}{F:(α→Option β)→α→Option β}{P:α→β→Prop}(hF:∀a,Fin1 fun f=>F f a)(hs:∀f:α→Option β,(∀a b,f a=some b→P a b)→∀a b,F f a=some b→P a b):∀a r,aE F a=some r→P a r:=fun _ _ h=>P8 hF hs h
end
section
section
variable {E : Env} {id : Nat} {L : List (Nat × Option Root)}
end
section
variable {E : Env} {m : Nat} {Q : St→Prop} {ops : Array Oper} {i : Nat} {k : List It} {d : V} {n : Nat} {l : List (Nat × V)} {rt rt' : ai} {nx : Nat} {op : Op} {v : V} {t : Nat} {ms : List Nat} {log : mc}
def TA (a b:Nat×List Nat×List Nat):Prop:=a.1=b.1∧(∀x∈a.2.1,x∈b.2.1)∧∀x∈a.2.2,x∈b.2.2
def O0:mc→mc→Prop
 | [],[]=>True
 | a::ax,b::bs=>TA a b∧O0 ax bs
 | _,_=>False
theorem O0.refl:∀{l:mc},O0 l l
 | []=>trivial
 | _::_=>⟨⟨rfl,fun _ h=>h,fun _ h=>h⟩,O0.refl⟩
end
end
section
variable {G : Ground} {m : Nat} {w0 w : World} {ρ0 ρ : bg} {st : St} {a : Act}
def BN (os L:List Nat)(st:St):St:={ tm:=kL st.rt os (fM L 0 st.tm),rt:=gj st.rt os,nx:=os.length+1 }
theorem fz.moved (R:fz G m w0 ρ0 w ρ st a)(L os:List Nat)(hd:os.Nodup)(hfx:∀i,0<i→i≤m→os[i - 1]?=some i∨∃o,os[i - 1]?=some o∧st.rt o=none):∃ρ',fz G m w0 ρ0 w ρ' (BN os L st) a:=by
 have hlen:m≤os.length:=by
  by_cases h0:m=0
  ·omega
  ·rcases hfx m (by omega) (Nat.le_refl _) with h | ⟨o,h,_⟩
   ·have:=(cd.1 h).1;omega
   ·have:=(cd.1 h).1;omega
 have nn:∀(i:Nat) v,(fM L 0 st.tm)[i]?=some v→an (bG (d9 st.nx) st.rt) v:=fun i v hv=>by
  obtain⟨v0,h1,h2 | h2⟩:=oc hv
  ·subst h2;exact R.tmn i v h1
  ·subst h2;simp[an]
 refine⟨gM ρ os,⟨?_,?_,B4 hd R.inj,?_,?_,?_,?_,?_,R.wk,?_,?_,?_,R.df,?_,?_,R.le,fun i h1 h2=>by unfold BN d9 at h2;simp only at h2;omega⟩⟩
 ·refine⟨by show (kL st.rt os (fM L 0 st.tm)).length=_;rw[fE,List.length_map,va];exact R.tm.1,fun i v u hv hu=>?_⟩
  change (kL st.rt os (fM L 0 st.tm))[i]?=some v at hv
  rw[fE,List.getElem?_map] at hv
  obtain⟨v1,hv1,rfl⟩:=aI.1 hv
  obtain⟨v0,h0,h2 | h2⟩:=oc hv1
  ·subst h2
   obtain⟨g,hg,hs⟩:=R.tm.2 i v1 u h0 hu
   refine⟨g,?_,fun k x hx=>?_⟩
   ·rw[hg];unfold fc;rw[CE,md,List.length_map]
   ·rw[md,List.getElem?_map] at hx
    obtain⟨x0,hx0,rfl⟩:=aI.1 hx
    exact Ib R.lab hd (hs k x0 hx0) rfl (d7 (by rintro o nv ⟨_,h⟩;exact h.elim) (gC (R.tmn i v1 h0) hx0))
  ·subst h2
   simp only[eT]
   exact aM.mk1 rfl (.dead _ _)
 ·exact Ic hd R.lab R.rok R.rtn
 ·intro n r h
  obtain⟨o,r0,_,h1,rfl⟩:=qg hd h
  exact R.rtn o r0 h1
 ·exact H9 hd R.lab
 ·exact fun o ho=>B5 ho
 ·intro o ho;unfold BN d9 at ho;simp only at ho;omega
 ·intro i v hv
  change (kL st.rt os (fM L 0 st.tm))[i]?=some v at hv
  rw[fE,List.getElem?_map] at hv
  obtain⟨v1,hv1,rfl⟩:=aI.1 hv
  exact GK hd (nn i v1 hv1)
 ·exact fun b h1 h2=>⟨lA (R.fr b h1 h2).1,(R.fr b h1 h2).2⟩
 ·exact fun b l h=>⟨B3 (R.k0 b l h).1,(R.k0 b l h).2⟩
 ·intro b l h
  rcases lf h with⟨_,h1⟩ | ⟨o,h1,h2,h3⟩
  ·exact R.f0 b l h1
  ·have:=(jo h3).1;omega
 ·exact⟨R.gr.1,fun b hb=>lA (R.gr.2.1 b hb),R.gr.2.2⟩
 ·intro i b n hi hb hn hs
  have hle:=R.le b i [] hb
  change (gj st.rt os i).isSome=true at hs
  rcases hfx i hi hle with h | ⟨o,h,h2⟩
  ·have hx:mW i os 1=some i:=by rw[rq hd h];congr 1;omega
   rw[mL hx] at hs
   have h0:=R.am i b n hi hb hn (by simpa using hs)
   exact⟨kb h0.1 (by omega) hx,h0.2⟩
  ·have hx:mW o os 1=some i:=by rw[rq hd h];congr 1;omega
   rw[mL hx,h2] at hs
   cases hs
def DW:List (Option Root)→Nat→List (Nat×Option Root)
 | [],_=>[]
 | none::rs,i=>DW rs (i+1)
 | some r::rs,i=>(i,some ⟨0,r.s,r.es⟩)::DW rs (i+1)
theorem CS:∀{rs:List (Option Root)} {i o:Nat},fa (DW rs i) o=if i≤o then (rs[o - i]?).bind fun x=>x.map fun r=>⟨0,r.s,r.es⟩ else none
 | [],i,o=>by simp[DW,fa]
 | none::rs,i,o=>by
  simp only[DW]
  rw[CS]
  by_cases h:i+1≤o
  ·rw[if_pos h,if_pos (by omega),show o - i=(o - (i+1))+1 by omega,List.getElem?_cons_succ]
  ·rw[if_neg h]
   split
   ·rw[show o - i=0 by omega];rfl
   ·rfl
 | some r::rs,i,o=>by
  simp only[DW,jG]
  rw[CS]
  by_cases h:i=o
  ·subst h;simp
  ·rw[if_neg h]
   by_cases h2:i+1≤o
   ·rw[if_pos h2,if_pos (by omega),show o - i=(o - (i+1))+1 by omega,List.getElem?_cons_succ]
   ·rw[if_neg h2,if_neg (by omega)]
abbrev sO (n:Nat)(l:List (Nat×V))(rs:List (Option Root))(nx:Nat):St:=⟨ay .dead n l,bp (DW rs 1),nx⟩
def Sr (m:Nat)(os:List Nat)(rt:ai):Bool:=(List.range m).all fun j=>match os[j]? with
 | some o=>o==j+1||(rt o).isNone
 | none=>false
theorem L9 {m:Nat}{os:List Nat}{rt:ai}(h:Sr m os rt=true):∀i,0<i→i≤m→os[i - 1]?=some i∨∃o,os[i - 1]?=some o∧rt o=none:=by
 intro i h1 h2
 have:=List.all_eq_true.1 h (i - 1) (List.mem_range.2 (by omega))
 split at this
 ·rename_i o ho
  simp only[Bool.or_eq_true,beq_iff_eq,Option.isNone_iff_eq_none] at this
  rcases this with h3 | h3
  ·left;rw[ho,h3];congr 1;omega
  ·exact .inr ⟨o,ho,h3⟩
 ·cases this
def BS:List Nat→Bool
 | []=>true
 | x::xs=>!xs.contains x&&BS xs
theorem wI:∀{l:List Nat},BS l=true→l.Nodup
 | [],_=>List.nodup_nil
 | x::xs,h=>by
  simp only[BS,Bool.and_eq_true,Bool.not_eq_true',List.contains_eq_mem,decide_eq_false_iff_not] at h
  exact List.nodup_cons.2 ⟨h.1,wI h.2⟩
theorem rg {E:Env}{Q:St→Prop}{k:List It}{d:V}{n:Nat}{l:List (Nat×V)}{rt:ai}{nx:Nat}(L os:List Nat){rs:List (Option Root)}(r:Run E m Q k ⟨ay .dead n (L.map fun t=>(t,eT rt os (lk d l t))),bp (DW rs 1),os.length+1⟩)(hk:ly k=true:=by exact rfl)(hrs:(os.map rt).map (fun x=>x.map fun r=>(⟨0,r.s,r.es⟩:Root))=rs:=by exact rfl)(ha:qr n 0 L=true:=by exact rfl)(hd:BS os=true:=by exact rfl)(hf:Sr m os rt=true:=by exact rfl):Run E m Q k ⟨ay d n l,rt,nx⟩:=by
 subst hrs
 refine .split (fun st'=>st'=BN os L ⟨ay d n l,rt,nx⟩) hk (fun R=>?_) (fun st' e=>?_)
 ·obtain⟨ρ',R'⟩:=R.moved L os (wI hd) (L9 hf)
  exact⟨ρ',_,rfl,R'⟩
 ·subst e
  refine pQ ?_ r
  have hkeep:fM L 0 (ay d n l)=(List.range' 0 n).map fun t=>if L.contains t then lk d l t else .dead:=by rw[oX,vb]
  unfold BN
  refine sY ?_ ?_ rfl
  ·simp only
   rw[hkeep,fE,List.map_map,oX]
   apply List.map_congr_left
   intro t _
   simp only[Function.comp]
   rw[Jw]
   split
   ·rfl
   ·rfl
  ·simp only
   funext o
   simp only[gj,uU,bp]
   rw[CS]
   by_cases h0:o=0
   ·subst h0;simp
   ·rw[if_neg h0,if_pos (by omega)]
    simp only[List.getElem?_map,List.map_map]
    cases os[o - 1]? with
    | none=>rfl
    | some x=>
     simp only[Option.map_some,cm,Function.comp]
     cases rt x<;>rfl
end
section
end
section
variable {G : Ground} {m : Nat} {w0 w : World} {ρ0 ρ : bg} {st : St} {a : Act}
theorem wS {rt rt1:ai}{o:Nat}{r:Root}{path:fU}(h:eD rt o r path=some rt1):(path=[]∧rt1=upd rt o none)∨(path≠[]∧∃es,rt1=upd rt o (some { r with es:=es })):=by
 unfold eD at h
 split at h
 ·rename_i he
  cases h
  exact .inl ⟨List.reverse_eq_nil_iff.1 he,rfl⟩
 ·rename_i i k q he
  simp only[aG,aI] at h
  obtain⟨_,_,_,_,es,_,rfl⟩:=h
  exact .inr ⟨fun e=>by subst e;simp at he,es,rfl⟩
theorem fz.take {t k o nv s len : Nat}{path : fU}{v : V}{r : Root}{es : List V}{rt1 : ai}(ht : st.tm[t]? = some v)(hk : (cells v)[k]? = some (.hs o nv path s 0 len))(hv : bA st.rt o nv path = some r)(hrow : aU path r.s r.es = some (s, es))(hto : eD st.rt o r path=some rt1)(R : fz G m w0 ρ0 w ρ st a) :
    fz G m w0 ρ0 w (eB ρ o path st.nx []) ⟨st.tm.set t (cH v k (.hs st.nx 0 [] s 0 len)),upd rt1 st.nx (some ⟨0,s,es⟩),st.nx + bO⟩ a:=by
  have hnx : st.rt st.nx=none:=R.fresh _ (Nat.le_refl _)
  have hne : ∀ {o r},st.rt o=some r→o ≠ st.nx:=fun h e=>by subst e; rw [hnx] at h; cases h
  obtain ⟨hro,hvv⟩:=d8 hv
  have hpos : 0 < st.nx:=R.up st.nx (Nat.le_refl _)
  have hq : ∀ b l,ρ b ≠ some (st.nx,[] ++ l):=fun b l h=>by
    rcases (R.lab.l b _ _ h).2 with h1 | ⟨r,h1⟩
    · have : st.nx=0:=h1
      omega
    · rw [hnx] at h1; cases h1
  have hon : o ≠ st.nx:=hne hro
  have T:=Cc (New:=fun o _=>o=st.nx) R.rok R.inj R.rtn hv hrow hq R.lab.z hto
  have hesn : nhs es:=iY (R.rtn o r hro) hrow
  have hn1 : rt1 st.nx=none:=T.low _ hnx
  have K3 : Keep (fun o _=>o=st.nx) w (eB ρ o path st.nx []) rt1 w (eB ρ o path st.nx []) (upd rt1 st.nx (some ⟨0,s,es⟩)):=by
    refine ⟨fun b hb _=>⟨hb,rfl⟩,fun o nv p hN hl=>⟨?_,fun b n h1 h2=>⟨h1,h2⟩⟩,fun b l h=>⟨h,rfl⟩⟩
    have hN' : o ≠ st.nx:=hN
    simpa [b8,bD,bA,upd,hN'] using hl
  have K : Keep (fun o _=>o=st.nx) w ρ st.rt w (eB ρ o path st.nx []) (upd rt1 st.nx (some ⟨0,s,es⟩)):=by
    refine ⟨T.keep.k1,fun o' nv' p hN hl=>?_,T.keep.k0⟩
    have hN' : o' ≠ st.nx:=hN
    have hl1 : b8 rt1 o' nv' p:=by simpa [b8,bD,bA,upd,hN'] using hl
    exact T.keep.k2 o' nv' p hN hl1
  have hKn : ∀ {v : V},an (bG (d9 st.nx) st.rt) v→an (fun o _=>o=st.nx) v:=fun h=>d7 (fun o nv e=>by subst e; exact .inl (Nat.le_refl _)) h
  have hlt : k < (cells v).length:=(cd.1 hk).1
  obtain ⟨hc1,hc2⟩:=ow (y:=.hs st.nx 0 [] s 0 len) hlt rfl
  have hmono : ∀ o' nv',bG (d9 (st.nx + bO)) (upd rt1 st.nx (some ⟨0,s,es⟩)) o' nv'→bG (d9 st.nx) st.rt o' nv':=by
    intro o' nv' h
    rcases h with h | ⟨r',h1,h2⟩
    · exact .inl (Nat.le_trans (Nat.le_add_right _ _) h)
    · by_cases e : o'=st.nx
      · exact .inl (by subst e; exact Nat.le_refl _)
      · have h3 : rt1 o'=some r':=by simpa [upd,e] using h1
        by_cases e2 : o'=o
        · subst e2
          rcases wS hto with ⟨_,rfl⟩ | ⟨_,es',rfl⟩
          · simp [upd] at h3
          · simp [upd] at h3
            subst h3
            exact .inr ⟨r,hro,h2⟩
        · exact .inr ⟨r',by rw [← T.oth o' e2]; exact h3,h2⟩
  have hnn : ¬ bG (d9 (st.nx + bO)) (upd rt1 st.nx (some ⟨0,s,es⟩)) st.nx 0:=by
    rintro (h | ⟨r,h1,h2⟩)
    · have : st.nx + 16 ≤ st.nx:=h
      omega
    · simp [upd] at h1
      subst h1
      simp at h2
  have old : ∀ (i : Nat) x u,st.tm[i]?=some x→a.tmps[i]?=some u→aM w (eB ρ o path st.nx []) (upd rt1 st.nx (some ⟨0,s,es⟩)) bq x u:=fun i x u hx hu=>(R.tm.2 i x u hx hu).keep K (hKn (R.tmn i x hx))
  have hlive : b8 st.rt o nv path:=by simp [b8,bD,hv,hrow]
  exact
    { tm := by
        refine ⟨by simpa using R.tm.1,fun i x u hx hu=>?_⟩
        rw [List.getElem?_set] at hx
        split at hx
        · rename_i e
          split at hx
          · cases hx
            subst e
            obtain ⟨g0,hg01,hg02⟩:=R.tm.2 t v u ht hu
            obtain ⟨g,hg1,hg2⟩:=old t v u ht hu
            refine ⟨g0,?_,fun j x hx=>?_⟩
            · rw [hg01]
              unfold fc
              rw [hc2,hc1]
              simp
            · rw [hc1,List.getElem?_set] at hx
              split at hx
              · rename_i ej
                subst ej
                · cases hx
                  have:=hg02 k _ hk
                  generalize g0 k=z at this
                  cases this with
                  | hs _ _ _ _ _ _ _ _ hh h1 =>
                    refine .hs _ _ _ _ _ _ _ _ (fun _=>?_) h1
                    obtain ⟨c,A,e1,e2,e3⟩:=hh hlive
                    refine ⟨c,A,e1,e2,fun hc=>?_⟩
                    obtain ⟨b,n,f1,f2,f3,f4⟩:=e3 hc
                    refine ⟨b,n,?_,f2,f3,f4⟩
                    have:=jQ (ρ:=ρ) (o:=o) (path:=path) (q:=st.nx) (dst:=[]) (b:=b) (l:=[]) (by simpa using f1)
                    simpa using this
              · exact ((hg02 j x hx).keep K (hKn (gC (R.tmn t v ht) hx)))
          · cases hx
        · exact old i x u hx hu
      rok:=fun o' r' hr=>by
        by_cases e : o'=st.nx
        · subst e
          simp [upd] at hr
          subst hr
          exact bW.under K3 (fun b l hb _=>⟨hb,rfl⟩) T.row hesn
        · have hr' : rt1 o'=some r':=by simpa [upd,e] using hr
          exact bW.under K3 (fun b l hb _=>⟨hb,rfl⟩) (T.rok o' r' hr') (T.rtn o' r' hr')
      inj:=T.inj
      rtn:=fun o' r' hr=>by
        by_cases e : o'=st.nx
        · subst e
          simp [upd] at hr
          subst hr
          exact hesn
        · exact T.rtn o' r' (by simpa [upd,e] using hr)
      lab := ⟨fun b o' l h => ⟨by
          rcases fT h with ⟨h1,_⟩ | ⟨_,t,_,h1⟩
          · exact (R.lab.l b _ _ h1).1
          · exact (R.lab.l b _ _ h1).1,by
          rcases T.lab b o' l h with ⟨rfl,_⟩ | ⟨h1,h2⟩
          · exact .inr ⟨⟨0,s,es⟩,by simp [upd]⟩
          · rcases (R.lab.l b o' l h1).2 with h3 | ⟨r',h3⟩
            · exact .inl h3
            · by_cases e : o'=o
              · obtain ⟨r2,h4⟩:=h2 e
                exact .inr ⟨r2,by simp only [upd,if_neg (hne h3)]; rw [e]; exact h4⟩
              · exact .inr ⟨r',by simp only [upd,if_neg (hne h3)]; rw [T.oth o' e]; exact h3⟩⟩,by
          simp only [upd,if_neg (show (0 : Nat) ≠ st.nx by omega)]
          exact T.low 0 R.lab.z,fun b l h=>by
          rcases fT h with ⟨h1,_⟩ | ⟨e,t,_,h1⟩
          · exact R.lab.f b l h1
          · omega⟩
      fresh:=fun o' ho=>by
        have ho' : st.nx + bO ≤ o':=ho
        have : o' ≠ st.nx:=by simp [bO] at ho'; omega
        simp only [upd,if_neg this]
        exact T.low o' (R.fresh o' (Nat.le_trans (Nat.le_add_right _ _) ho'))
      up:=fun o ho=>R.up o (Nat.le_trans (Nat.le_add_right _ _) ho)
      tmn:=fun i x hx=>by
        rw [List.getElem?_set] at hx
        split at hx
        · split at hx
          · cases hx
            have hv:=d7 hmono (R.tmn t v ht)
            cases v with
            | agg cs =>
              simp only [cH,an] at hv ⊢
              rw [dJ] at hv ⊢
              intro z hz
              rcases List.mem_or_eq_of_mem_set hz with hz | rfl
              · exact hv z hz
              · exact hnn
            | _=>exact hnn
          · cases hx
        · exact d7 hmono (R.tmn i x hx)
      wk:=R.wk
      fr:=fun b h1 h2=>⟨mI.2 (R.fr b h1 h2).1,(R.fr b h1 h2).2⟩
      k0:=fun b l h=>⟨dN (R.k0 b l h).1 (fun ⟨e,_⟩=>by rw [← e,R.lab.z] at hro; cases hro),(R.k0 b l h).2⟩
      f0:=fun b l h=>by
        rcases fT h with ⟨h1,_⟩ | ⟨e,t,_,h1⟩
        · exact R.f0 b l h1
        · omega
      df:=R.df
      gr:=⟨R.gr.1,fun b hb=>mI.2 (R.gr.2.1 b hb),R.gr.2.2⟩
      am:=fun i b n h1 h2 h3 h4=>by
        have hi : i ≠ st.nx:=fun e=>R.nl i (R.le b i [] h2) (by subst e; exact Nat.le_refl _)
        have h5 : (rt1 i).isSome=true:=by simpa [upd,hi] using h4
        have h6 : (st.rt i).isSome=true:=by
          cases e : st.rt i with
          | some _=>rfl
          | none=>rw [T.low i e] at h5; cases h5
        obtain ⟨g1,g2⟩:=R.am i b n h1 h2 h3 h6
        refine ⟨dN g1 ?_,g2⟩
        rintro ⟨rfl,hp⟩
        have hp0 : path=[]:=List.prefix_nil.1 hp
        rcases wS hto with ⟨_,rfl⟩ | ⟨hne,_⟩
        · simp [upd] at h5
        · exact hne hp0
      le:=R.le
      nl:=fun i hi h=>R.nl i hi (Nat.le_trans (Nat.le_add_right _ _) h) }
theorem Run.take {E:Env}{Q:St→Prop}{kk:List It}{t k o nv s len:Nat}{path:fU}{v:V}{r:Root}{es:List V}{rt1:ai}(hd:ly kk=true)(ht:st.tm[t]?=some v)(hk:(cells v)[k]?=some (.hs o nv path s 0 len))(hv:bA st.rt o nv path=some r)(hrow:aU path r.s r.es=some (s,es))(hto:eD st.rt o r path=some rt1)(rr:Run E m Q kk ⟨st.tm.set t (cH v k (.hs st.nx 0 [] s 0 len)),upd rt1 st.nx (some ⟨0,s,es⟩),st.nx+bO⟩):Run E m Q kk st:=
 .split (fun x=>x=_) hd (fun R=>⟨_,_,rfl,fz.take ht hk hv hrow hto R⟩) fun _ h=>h▸rr
theorem Om {E:Env}{Q:St→Prop}{kk:List It}{d:V}{n:Nat}{l:List (Nat×V)}{L:List (Nat×Option Root)}{nx:Nat}(t k:Nat){o nv nv' s s0 len:Nat}{path:fU}{es es0:List V}{L2:List (Nat×Option Root)}(v':V)(nx':Nat)(hd:ly kk=true)(hn:Nat.ble (t+1) n=true)(hk:(cells (lk d l t))[k]?=some (.hs o nv path s 0 len))(hr:fa L o=some ⟨nv',s0,es0⟩)(hvp:pM path nv nv'=true)(hrow:aU path s0 es0=some (s,es))(hto:eD (bp L) o ⟨nv',s0,es0⟩ path=some (bp L2))(hx:nx+bO=nx')(hv:cH (lk d l t) k (.hs nx 0 [] s 0 len)=v')(r:Run E m Q kk ⟨ay d n ((t,v')::l),bp ((nx,some ⟨0,s,es⟩)::L2),nx'⟩):Run E m Q kk ⟨ay d n l,bp L,nx⟩:=by
 have ht:(ay d n l)[t]?=some (lk d l t):=by
  rw[Nat.ble_eq] at hn
  simp[ay,show t<n by omega]
 refine Run.take (st:=⟨ay d n l,bp L,nx⟩) hd ht hk (kQ hr hvp) hrow hto (pQ (sY ?_ ?_ hx) r)
 ·rw[hv]
  exact gt (dst:=some t)
 ·exact jV
end
section
variable {G : Ground} {m : Nat} {w0 w : World} {ρ0 ρ : bg} {st : St} {a : Act}
def jm (ρ:bg)(o:Nat):bg:=fun b=>match ρ b with
 | some (o',l)=>if o'=o then none else some (o',l)
 | none=>none
theorem yi {b o:Nat}(h:ρ b=none):jm ρ o b=none:=by simp[jm,h]
theorem Se {b o:Nat}{l}(h:ρ b=some (o,l)):jm ρ o b=none:=by simp[jm,h]
theorem pI {b o o':Nat}{l}(h:ρ b=some (o',l))(hne:o'≠o):jm ρ o b=some (o',l):=by simp[jm,h,hne]
theorem rp {b o o':Nat}{l}(h:jm ρ o b=some (o',l)):ρ b=some (o',l)∧o'≠o:=by
 unfold jm at h
 split at h
 ·rename_i o2 l2 e
  split at h
  ·cases h
  ·rename_i hne
   cases h
   exact⟨e,hne⟩
 ·cases h
theorem fz.frz {t k o nv s len : Nat}{v y : V}{r : Root}(h0 : 0 < o)(ht : st.tm[t]? = some v)(hk : (cells v)[k]? = some (.hs o nv [] s 0 len))(hr : st.rt o = some r)(hy : fO st.rt (.hs o nv [] s 0 len) = some y)(hag : al y = false)(R : fz G m w0 ρ0 w ρ st a) :
    fz G m w0 ρ0 w (jm ρ o) ⟨st.tm.set t (cH v k y),upd st.rt o none,st.nx⟩ a:=by
  have K : Keep (bG (d9 st.nx) st.rt) w ρ st.rt w (jm ρ o) (upd st.rt o none):=by
    refine ⟨fun b hb _=>⟨yi hb,rfl⟩,fun o' nv' p hN hl=>?_,fun b l h=>⟨pI h (by omega),rfl⟩⟩
    have hne : o' ≠ o:=by
      rintro rfl
      simp [b8,bD,bA,upd] at hl
    exact ⟨by simpa [b8,bD,bA,upd,hne] using hl,fun b n h1 h2=>⟨pI h1 hne,h2⟩⟩
  have hlt : k < (cells v).length:=(cd.1 hk).1
  obtain ⟨hc1,hc2⟩:=ow (y:=y) hlt hag
  have hmono : ∀ o' nv',bG (d9 st.nx) (upd st.rt o none) o' nv'→bG (d9 st.nx) st.rt o' nv':=by
    intro o' nv' h
    rcases h with h | ⟨r',h1,h2⟩
    · exact .inl h
    · by_cases e : o'=o
      · subst e; simp [upd] at h1
      · exact .inr ⟨r',by simpa [upd,e] using h1,h2⟩
  have old : ∀ (i : Nat) x u,st.tm[i]?=some x→a.tmps[i]?=some u→aM w (jm ρ o) (upd st.rt o none) bq x u:=fun i x u hx hu=>(R.tm.2 i x u hx hu).keep K (R.tmn i x hx)
  have hF : ∀ b o' l,o' ∈ di (.hs o nv [] s 0 len)→ρ b=some (o',l)→jm ρ o b=none ∧ b < w.heap.size:=by
    intro b o' l ho h
    have : o'=o:=by simpa [di] using ho
    subst this
    exact ⟨Se h,(R.lab.l b _ _ h).1⟩
  have hyn : ∀ u,RepV w ρ st.rt none (.hs o nv [] s 0 len) u→RepV w (jm ρ o) (upd st.rt o none) none y u ∧ nh y:=fun u hu =>
    yG R.rok R.inj R.rtn K hy hu (gC (R.tmn t v ht) hk) hF
  exact
    { tm := by
        refine ⟨by simpa using R.tm.1,fun i x u hx hu=>?_⟩
        rw [List.getElem?_set] at hx
        split at hx
        · rename_i e
          split at hx
          · cases hx
            subst e
            obtain ⟨g0,hg01,hg02⟩:=R.tm.2 t v u ht hu
            refine ⟨g0,?_,fun j x hx=>?_⟩
            · rw [hg01]
              unfold fc
              rw [hc2,hc1]
              simp
            · rw [hc1,List.getElem?_set] at hx
              split at hx
              · rename_i ej
                subst ej
                cases hx
                exact (hyn _ (hg02 k _ hk)).1
              · exact (hg02 j x hx).keep K (gC (R.tmn t v ht) hx)
          · cases hx
        · exact old i x u hx hu
      rok:=fun o' r' hr'=>by
        by_cases e : o'=o
        · subst e; simp [upd] at hr'
        · have h1 : st.rt o'=some r':=by simpa [upd,e] using hr'
          exact bW.under K (fun b l hb _=>⟨pI hb e,rfl⟩) (R.rok o' r' h1) (R.rtn o' r' h1)
      inj:=fun b b' L h1 h2=>R.inj b b' L (rp h1).1 (rp h2).1
      rtn:=fun o' r' hr'=>by
        by_cases e : o'=o
        · subst e; simp [upd] at hr'
        · exact R.rtn o' r' (by simpa [upd,e] using hr')
      lab := ⟨fun b o' l h => by
          obtain ⟨h1,h2⟩:=rp h
          refine ⟨(R.lab.l b _ _ h1).1,?_⟩
          rcases (R.lab.l b o' l h1).2 with h3 | ⟨r',h3⟩
          · exact .inl h3
          · exact .inr ⟨r',by simpa [upd,h2] using h3⟩,by
          simp only [upd,if_neg (show (0 : Nat) ≠ o by omega)]
          exact R.lab.z,fun b l h=>R.lab.f b l (rp h).1⟩
      fresh:=fun o' ho=>by
        by_cases e : o'=o
        · subst e; simp [upd]
        · simp only [upd,if_neg e]
          exact R.fresh o' ho
      up:=R.up
      tmn:=fun i x hx=>by
        rw [List.getElem?_set] at hx
        split at hx
        · split at hx
          · rename_i e _
            cases hx
            subst e
            have hv:=d7 hmono (R.tmn t v ht)
            have hny : an (bG (d9 st.nx) (upd st.rt o none)) y:=by
              have htl : t < a.tmps.size:=by
                have h1:=(cd.1 ht).1
                rw [← R.tm.1]; exact h1
              obtain ⟨g0,_,hg02⟩:=R.tm.2 t v a.tmps[t] ht (by simp [htl])
              exact cz (hyn _ (hg02 k _ hk)).2
            cases v with
            | agg cs =>
              simp only [cH,an] at hv ⊢
              rw [dJ] at hv ⊢
              intro z hz
              rcases List.mem_or_eq_of_mem_set hz with hz | rfl
              · exact hv z hz
              · exact hny
            | _=>exact hny
          · cases hx
        · exact d7 hmono (R.tmn i x hx)
      wk:=R.wk
      fr:=fun b h1 h2=>⟨yi (R.fr b h1 h2).1,(R.fr b h1 h2).2⟩
      k0:=fun b l h=>⟨pI (R.k0 b l h).1 (by omega),(R.k0 b l h).2⟩
      f0:=fun b l h=>R.f0 b l (rp h).1
      df:=R.df
      gr:=⟨R.gr.1,fun b hb=>yi (R.gr.2.1 b hb),R.gr.2.2⟩
      am:=fun i b n h1 h2 h3 h4=>by
        have hi : i ≠ o:=by
          rintro rfl
          simp [upd] at h4
        obtain ⟨g1,g2⟩:=R.am i b n h1 h2 h3 (by simpa [upd,hi] using h4)
        exact ⟨pI g1 hi,g2⟩
      le:=R.le
      nl:=R.nl }
theorem Ig {E:Env}{Q:St→Prop}{kk:List It}{d:V}{n:Nat}{l:List (Nat×V)}{L:List (Nat×Option Root)}{nx:Nat}(t k:Nat){o nv nv' s len:Nat}{es es':List V}(v':V)(hd:ly kk=true)(hn:Nat.ble (t+1) n=true)(hk:(cells (lk d l t))[k]?=some (.hs o nv [] s 0 len))(hr:fa L o=some ⟨nv',s,es⟩)(h0:Nat.ble 1 o=true)(hl:len=es.length)(hi:fB es=es')(hv:cH (lk d l t) k (.isl false es')=v')(r:Run E m Q kk ⟨ay d n ((t,v')::l),bp ((o,none)::L),nx⟩):Run E m Q kk ⟨ay d n l,bp L,nx⟩:=by
 subst hi hl
 have ht:(ay d n l)[t]?=some (lk d l t):=by
  rw[Nat.ble_eq] at hn
  simp[ay,show t<n by omega]
 have hro:bp L o=some ⟨nv',s,es⟩:=by simp[bp,hr]
 have hy:fO (bp L) (.hs o nv [] s 0 es.length)=some (.isl false (fB es)):=by
  simp[fO,bD,bA,hro,aU]
 refine .split (fun x=>x=_) hd (fun R=>⟨_,_,rfl,fz.frz (by rw[Nat.ble_eq] at h0;omega) ht hk hro hy rfl R⟩) fun _ h=>h▸(pQ (sY ?_ ?_ rfl) r)
 ·rw[hv]
  exact gt (dst:=some t)
 ·exact jV
end
section
theorem pE {rt:ai}:∀{vs:List V},vs.all (fun v=>(cells v).all cl)=true→du rt vs=some (vs,rt)
 | [],_=>rfl
 | v::vs,h=>by
  simp only[List.all_cons,Bool.and_eq_true] at h
  exact cn (be h.1) (pE h.2)
theorem sI {α:Type}{a b:α}(h:some a=some b):a=b:=Option.some.inj h
theorem ak {α:Type}{a b:α}(h:some a=some b):b=a:=(Option.some.inj h).symm
theorem qp {E:Env}{fn:Func}{own:List Bool}{ax:List V}{st:St}{r:V}(vs:List V)(h1:gA E st fn.results.toList=some vs:=by exact rfl)(h2:vs.all (fun v=>(cells v).all cl)=true:=by exact rfl)(h3:sZ vs=r:=by exact rfl)(h4:cV st.rt own (enter fn ax).1=[]:=by exact rfl):QF E fn own ax (r,[]) st:=
 ⟨_,fin h1 (pE h2) h3 h4,dw⟩
theorem rP {E:Env}{m:Nat}{fn:Func}{own:List Bool}{ax:List V}{st:St}{r:V}{c:Code}{K:List It}(vs:List V)(hc:cK c=7:=by exact rfl)(h1:gA E st fn.results.toList=some vs:=by exact rfl)(h2:vs.all (fun v=>(cells v).all cl)=true:=by exact rfl)(h3:sZ vs=r:=by exact rfl)(h4:cV st.rt own (enter fn ax).1=[]:=by exact rfl):Run E m (QF E fn own ax (r,[])) (.code c::K) st:=
 bH hc (qp vs h1 h2 h3 h4)
theorem cP {E:Env}{d:V}{n:Nat}{l:List (Nat×V)}{L:List (Nat×Option Root)}{id nx:Nat}{f:FuncId}{xs:Array Operand}{ts:Array TypeId}{caps args:List V}{fo:Operand}{e:Ent}{ys zs:List V}{r v:V}{R:List (Nat×Nat×Root)}(hF:e.F ys=some (r,[]))(hf:ig d n l fo=some (.fn f caps):=by exact rfl)(hx:sx d n l xs.toList=some args:=by exact rfl)(he:E.fn f=some e:=by exact rfl)(hg:aZ 0 e.own (args++caps)=[]:=by exact rfl)(ha:eK (bp L) e.own (args++caps)=some ys:=by exact rfl)(hl:bl e.own (args++caps)=[]:=by exact rfl)(hr:bh id 0 (eE r)=(zs,R):=by exact rfl)(hn:Nat.ble R.length 16=true:=by exact rfl)(hv:qh r zs=v:=by exact rfl) :
  aX E id ⟨ay d n l,bp L,nx⟩ (.call { callee:=.value fo,args:=xs,argTypes:=ts })=some (v,bp (nN id R++L)):=by
 have:=aH (E:=E) (nx:=nx) (ts:=ts) hf hx (aP he hg (by rw[hl];rfl) ha hF (.inr hl) bm hr hn hv)
 exact this
theorem gT {P:Program}{G:Ground}{f:FuncId}{fn:Func}{own:List Bool}{α β:Type}{ea:α→List V}{er:β→V×List V}{g:α→Option β}{fs:List (FuncId×Ent)}(n m:Nat)(hG:∀p∈fs,fq P G p.1 p.2)(hm:P.follows .mixedOrders=true)(hf:P.funcs[f]?=some fn)(h:∀a r,g a=some r→b7 (LZ P fs) fn own m (ea a) (er r))(F:Fits fn (aY fn) n:=by exact⟨rfl,rfl,by decide⟩)(hn:∀a,(ea a).length=n∧qD (ea a)=m:=by exact fun _=>⟨rfl,rfl⟩):fq P G f (bu own ea er g):=
 Si (DB hG) NE hm hf F hn h
theorem rI {E:Env}{m:Nat}{Q:St→Prop}{k:List It}{fn:Func}{vs:List V}(n:Nat)(l:List (Nat×V))(L:List (Nat×Option Root))(nx:Nat)(r:Run E m Q k ⟨ay .dead n l,bp L,nx⟩)(hl:(bh 1 0 vs).1++List.replicate (fn.ntmps - vs.length) .und=ay .und n l:=by kernel_rfl)(hL:nN 1 (bh 1 0 vs).2=L:=by kernel_rfl)(hx:1+(bh 1 0 vs).2.length=nx:=by kernel_rfl)(hk:ly k=true:=by exact rfl):Run E m Q k (enter fn vs).2:=
 TD l L nx hl hL hx hk r
def eW {α ρ υ:Type}(E:Env)(m:Nat)(QF:ρ→St→Prop)(P:Code)(b:Nat)(L:α→Option (ρ⊕υ))(ex:υ→St)(hd:α→St):Prop:=
 ∀{Q:St→Prop} {K:List It},ly K=true→∀(x:α) (y:ρ⊕υ),L x=some y→(∀r',y=.inl r'→∀st,QF r' st→Q st)→(∀u,y=.inr u→Run E m Q K (ex u))→Run E m Q (.code P::.lp P::.blk b::K) (hd x)
theorem i7 {α ρ υ:Type}{E:Env}{m:Nat}{QF:ρ→St→Prop}{P:Code}{b:Nat}{F:(α→Option (ρ⊕υ))→α→Option (ρ⊕υ)}{ex:υ→St}{hd:α→St}(hf:∀a,Fin1 fun f=>F f a)(H:∀{Q:St→Prop} {K:List It},ly K=true→∀self:α→Option (ρ⊕υ),(∀(x:α) (y:ρ⊕υ),self x=some y→(∀r',y=.inl r'→∀st,QF r' st→Q st)→(∀u,y=.inr u→Run E m Q K (ex u))→Run E m Q (.code P::.lp P::.blk b::K) (hd x))→
   ∀(x:α) (y:ρ⊕υ),F self x=some y→(∀r',y=.inl r'→∀st,QF r' st→Q st)→(∀u,y=.inr u→Run E m Q K (ex u))→Run E m Q (.code P::.lp P::.blk b::K) (hd x)):eW E m QF P b (aE F) ex hd:=
 fun {_ _} hK=>NT hf fun self ih=>H hK self ih
section
variable {α : Type} {f : α→V} {xs w : List α} {i : Int} {y z : α} {v : V} {off k j : Nat}
end
end
section
theorem sX {w:World}{ρ:bg}{rt:ai}{at_:Nat→Option cS}{v:V}{u:Value}(hv:al v=false)(h:aM w ρ rt at_ v u):RepV w ρ rt (at_ 0) v u:=by
 obtain⟨g,hu,hg⟩:=h
 have hc:cells v=[v]:=by cases v<;>first | rfl | (simp[al] at hv)
 have:=hg 0 v (by rw[hc];rfl)
 rw[hu]
 unfold fc
 rw[hv]
 exact this
theorem ND {w:World}{ρ:bg}(hi:Inn w ρ):Aft w ρ w ρ:=
 ⟨Wk.refl,fun b hb _=>⟨hb,rfl⟩,fun b l h=>⟨h,rfl⟩,fun b l h=>h,hi.inj,fun b o l h=>⟨(hi.lab b o l h).1,(hi.lab b o l h).2.imp id .inl⟩⟩
theorem QA {w:World}{ρ:bg}{n:Int}:vN w ρ (I n) (.int .i64 n):=
 ⟨fun _=>.int .i64 n,rfl,fun c v h=>by
  cases c with
  | zero=>
   simp[eE,I] at h
   subst h
   exact⟨⟨fun _=>.int .i64 n,rfl,fun k x hx=>by
    cases k<;>simp[cells] at hx
    subst hx
    exact .int _ _ _⟩,by simp[nh],rfl⟩
  | succ c=>simp[eE,I] at h⟩
theorem yy {w w':World}{ρ ρ':bg}{own:List Bool}{vs:List V}{us:List Value}:ri w ρ w' ρ' own vs us []:=by
 intro a v u x h1 h2 h3
 exfalso
 have:∀(own:List Bool) a,dV own [] a=none:=by
  intro own
  induction own with
  | nil=>intro a;cases a<;>rfl
  | cons b own ih=>intro a;cases b<;>cases a<;>simp[dV,ih]
 rw[this] at h3
 cases h3
section
variable {P : Program} {G : Ground} {f : FuncId} {fn : Func} {e : Array Value→Sem Value}
theorem HO {g : ae → Int → Int}(hf : P.funcs[f]? = some fn)(hb : fn.body = none)(hn : (fn.name == "runtime.NumGoroutine") = false)(hx : Extern.findNext fn = none)(he : Extern.find fn = some e)(h:∀(s:ByteArray) (c:Int) (w:World),(e #[.string s,.int .u8 c]).run P w=.ok (.int .i64 (g s.data.toList c)) w):fq P G f ⟨[false,false],sw (nH str) (nH (V.int .u8)) fun s c=>some (I (g s c),[])⟩:=by
 intro w ρ vs us r os ha hi hg hF
 obtain⟨v0,v1,s,c,rfl,q0,q1,h9⟩:=S9 hF
 obtain rfl:=LD q0
 obtain rfl:=LD q1
 cases h9
 obtain⟨hl,ha⟩:=ha
 obtain⟨u0,u1,rfl⟩:∃u0 u1,us=[u0,u1]:=by
  match us,hl with
  | [u0,u1],_=>exact⟨u0,u1,rfl⟩
 have h0:=sX rfl (ha 0 _ u0 rfl rfl).1
 have h1:=sX rfl (ha 1 _ u1 rfl rfl).1
 have e0:u0=.string ⟨s.toArray⟩:=by
  have h0':RepV w ρ gR _ (.str ⟨s.toArray⟩) u0:=h0
  cases h0';rfl
 have e1:u1=.int .u8 c:=by cases h1;rfl
 subst e0 e1
 simp only[beq_eq_false_iff_ne,ne_eq] at hn
 refine .inl ⟨.int .i64 (g s c),w,?_,ρ,ND hi,QA,yy⟩
 have:=h ⟨s.toArray⟩ c w
 simp[callFunc,hf,hb,hn,hx,he,this]
end
theorem Mt (a b:Int)(h:V.int .u8 a=.int .u8 b):a=b:=by simpa using h
def pU (s:ae)(c:Int):Option Int:=some (Lib.indexByte s c.toNat.toUInt8)
def vq (s:ae)(c:Int):Option Int:=some ((Lib.countByte s c.toNat.toUInt8:Nat):Int)
end
section
open Go Go.ChangeShapes Go.WideShapes Go.RowKit
def ρ0:bg:=fun _=>none
def R2 (w:World)(vs:List V)(cs:List Value):Prop:=vs.length=cs.length∧∀(k:Nat) x u,vs[k]?=some x→cs[k]?=some u→RepV w ρ0 gR none x u
def Rd (P:Program)(t:TypeId){A:Type}(f:A→V)(ok:A→Prop):Prop:=
 ∀{H:Type} {enc:TypeId×Value→H} {w:World} {sp:Nat→Bool} {held:Bool} {n:Nat} {cs:List Value} {x:DataW H×List MemPlace},
  DataW.trod enc P w 0 sp held n t cs=some x→∃a,ok a∧nh (f a)∧R2 w (cells (f a)) cs
def Pc (s:ae):Prop:=s.length≤maxLen
def Gv {A:Type}(ok:A→Prop)(xs:List A):Prop:=xs.length≤maxLen∧∀x∈xs,ok x
theorem Bq {w:World}{v:V}{u:Value}(h:RepV w ρ0 gR none v u):R2 w [v] [u]:=by
 refine⟨rfl,fun k x y hx hy=>?_⟩
 match k with
 | 0=>simp at hx hy;subst hx;subst hy;exact h
 | k+1=>simp at hx
def Gu (k:IntKind)(n:Int):Prop:=k.min≤n∧n≤k.max
theorem Qw {P:Program}{t:TypeId}{k:IntKind}(ht:P.underlying t=some (.int k)):Rd P t (V.int k) (Gu k):=by
 intro H enc w sp held n cs x h
 obtain⟨m,rfl,_,hw⟩:=DataW.trod_int ht h
 refine⟨m,?_,by simp[nh],Bq (.int ..)⟩
 simp only[Lit.wf,Bool.and_eq_true,decide_eq_true_eq] at hw
 exact hw
theorem LB {α:Type}[Inhabited α]{n:Nat}{p:Nat→α→Prop}(h:∀i,i<n→∃a,p i a):∃f:Nat→α,∀i,i<n→p i (f i):=by
 classical
 refine⟨fun i=>if hi:i<n then (h i hi).choose else default,fun i hi=>?_⟩
 simp only[dif_pos hi]
 exact (h i hi).choose_spec
def O1 (N:Nat)(P:Program)(t:TypeId){A:Type}(f:A→V)(ok:A→Prop):Prop:=
 ∀{H:Type} {enc:TypeId×Value→H} {w:World} {sp:Nat→Bool} {held:Bool} {n:Nat} {cs:List Value} {x:DataW H×List MemPlace},
  n<N→DataW.trod enc P w 0 sp held n t cs=some x→∃a,ok a∧nh (f a)∧R2 w (cells (f a)) cs
theorem Rd.toF {P:Program}{t:TypeId}{A:Type}{f:A→V}{ok:A→Prop}(h:Rd P t f ok){N:Nat}:O1 N P t f ok:=fun _ h2=>h h2
theorem Sz {P:Program}{t:TypeId}{A:Type}{f:A→V}{ok:A→Prop}(h:∀N,O1 N P t f ok):Rd P t f ok:=fun {H enc w sp held n cs x} h2=>h (n+1) (Nat.lt_succ_self n) h2
theorem Mf {P:Program}{t e:TypeId}{A:Type}{f:A→V}{ok:A→Prop}{N:Nat}(ht:P.underlying t=some (.slice e))(hr:O1 N P e f ok)(hp:(0<P.cellsOf e)):O1 (N+1) P t (fun xs=>.isl false (xs.map f)) (Gv ok):=by
 intro H enc w sp held n cs x hN h
 rcases DataW.trod_slice ht h with⟨rfl,_⟩ | ⟨a,len,cap,elems,rest,k,hfk,rfl,_,hb,hl,hm,hlen,hel,_,_⟩
 ·refine⟨[],⟨by simp,by simp⟩,by simp[nh,nhs],Bq ?_⟩
  exact .isl0 _ _ _ _ (by simp)
 by_cases h0:len=0
 ·subst h0
  refine⟨[],⟨by simp,by simp⟩,by simp[nh,nhs],Bq ?_⟩
  exact .isl0 _ _ _ _ (by simp)
 have hq:∀i,i<len→∃y:A×List Value,ok y.1∧nh (f y.1)∧R2 w (cells (f y.1)) y.2∧w.cells? 0 (a.add (i*P.cellsOf e)) (P.cellsOf e)=some y.2:=by
  intro i hi
  have key:=hel i hi
  rw[d5 (by omega)] at key
  obtain⟨cs',h1,h2⟩:=aG.1 key
  obtain⟨y,hy1,hy2,hy3⟩:=hr (by omega) h2
  exact⟨(y,cs'),hy1,hy2,hy3,h1⟩
 have:Inhabited (A×List Value):=⟨(hq 0 (by omega)).choose⟩
 obtain⟨F,hF⟩:=LB hq
 have hsz:∀i,i<len→(cells (f (F i).1)).length=P.cellsOf e:=by
  intro i hi
  obtain⟨_,_,h3,h4⟩:=hF i hi
  obtain⟨_,h5,_⟩:=World.cells?_some h4
  rw[h3.1,h5]
 have hcell:∀i,i<len→∀k u,(F i).2[k]?=some u→w.cell? (a.add (i*P.cellsOf e+k))=some u:=by
  intro i hi k u hu
  obtain⟨_,_,h3,h4⟩:=hF i hi
  obtain⟨_,h5,h6⟩:=World.cells?_some h4
  have hk:k<P.cellsOf e:=by rw[←h5];exact (cd.1 hu).1
  have:=h6 k hk
  rw[hu] at this
  rw[←this]
  congr 1
  simp only[Addr.add]
  by_cases h7:i*P.cellsOf e=0<;>by_cases h8:k=0<;>simp[h7,h8]<;>omega
 have hspot:a.spot=none∧a.block<w.heap.size:=by
  have hlen:(F 0).2.length=P.cellsOf e:=by
   have:=(hF 0 (by omega)).2.2.1.1
   rw[←this];exact hsz 0 (by omega)
  obtain⟨u,hu⟩:∃u,(F 0).2[0]?=some u:=⟨(F 0).2[0],d5 (by omega)⟩
  have h9:=hcell 0 (by omega) 0 u hu
  simp only[Nat.zero_mul,Nat.add_zero,Addr.add,if_true,World.cell?] at h9
  split at h9
  ·rename_i c T fr hh
   refine⟨?_,(pW.1 hh).1⟩
   cases hs:a.spot with
   | none=>rfl
   | some _=>simp[hs] at h9
  ·cases h9
 obtain⟨b,off,spot⟩:=a
 obtain⟨rfl,hblk⟩:=hspot
 refine⟨(List.range len).map fun i=>(F i).1,⟨by simp;omega,?_⟩,?_,Bq ?_⟩
 ·intro y hy
  simp only[List.mem_map,List.mem_range] at hy
  obtain⟨i,hi,rfl⟩:=hy
  exact (hF i hi).1
 ·simp only[nh,cZ,List.mem_map,List.mem_range]
  rintro v ⟨y,⟨i,hi,rfl⟩,rfl⟩
  exact (hF i hi).2.1
 ·have hl2:len=(((List.range len).map fun i=>(F i).1).map f).length:=by simp
  have key:RepV w ρ0 gR none (.isl false (((List.range len).map fun i=>(F i).1).map f)) (.slice (some ⟨b,off,none⟩) (((List.range len).map fun i=>(F i).1).map f).length cap):=by
   have get:∀{i:Nat} {e':V},(((List.range len).map fun i=>(F i).1).map f)[i]?=some e'→i<len∧e'=f (F i).1:=by
    intro i e' he
    simp only[List.getElem?_map,aI] at he
    obtain⟨y,⟨j,hj,rfl⟩,rfl⟩:=he
    obtain⟨h1,h2⟩:=cd.1 hj
    simp at h1 h2
    subst h2
    exact⟨h1,rfl⟩
   refine .isl _ _ b off cap (P.cellsOf e) (fun i k=>((F i).2[k]?).getD undef) (by simpa using hl) (by simp;omega) rfl hblk ?_ ?_ ?_
   ·intro i e' he
    obtain⟨hi,rfl⟩:=get he
    exact hsz i hi
   ·intro i e' k x' he hx'
    obtain⟨hi,rfl⟩:=get he
    have h3:=(hF i hi).2.2.1
    have hk:k<(F i).2.length:=by rw[←h3.1];exact (cd.1 hx').1
    rw[d5 hk]
    have:=hcell i hi k _ (d5 hk)
    simp only[Addr.add] at this
    split at this
    ·rename_i hz
     simp only[Nat.add_eq_zero_iff] at hz
     simpa[hz] using this
    ·exact this
   ·intro i e' k x' he hx'
    obtain⟨hi,rfl⟩:=get he
    have h3:=(hF i hi).2.2.1
    have hk:k<(F i).2.length:=by rw[←h3.1];exact (cd.1 hx').1
    rw[d5 hk]
    exact h3.2 k x' _ hx' (d5 hk)
  rw[←hl2] at key
  exact key
theorem Oh {P:Program}{t e:TypeId}{A:Type}{f:A→V}{ok:A→Prop}(ht:P.underlying t=some (.slice e))(hr:Rd P e f ok)(hp:(0<P.cellsOf e)):Rd P t (fun xs=>.isl false (xs.map f)) (Gv ok):=
 Sz fun N _ h=>by
  intro a b c d e g h1 h2
  exact Mf ht (hr.toF (N:=N)) hp (Nat.lt_succ_of_lt h1) h2
theorem QC {w:World}{v:V}{u:Value}(ha:al v=true↔∃cs,u=.agg cs)(h:R2 w (cells v) u.cells.toList):aM w ρ0 gR bq v u:=by
 refine⟨fun k=>(u.cells[k]?).getD undef,?_,fun k x hx=>?_⟩
 ·unfold fc
  cases hv:al v with
  | true=>
   obtain⟨cs,rfl⟩:=ha.1 hv
   have hl:=h.1
   simp only[Value.cells,Array.length_toList] at hl ⊢
   simp only[if_true,Value.agg.injEq]
   apply Array.ext
   ·simp[cT,hl]
   ·intro i h1 h2
    simp[cT,Array.getElem?_eq_getElem h1]
  | false=>
   have hu:u.cells=#[u]:=by
    cases u<;>first | rfl | (exfalso;have:=ha.2 ⟨_,rfl⟩;rw[hv] at this;cases this)
   simp[hu]
 ·have hk:k<u.cells.toList.length:=by rw[←h.1];exact (cd.1 hx).1
  have:=h.2 k x _ hx (d5 hk)
  show RepV w ρ0 gR none x ((u.cells[k]?).getD undef)
  rw[Array.getElem?_eq_getElem (by simpa using hk)]
  simpa using this
def nE (P:Program)(w:World):List TypeId→List V→List Value→Prop
 | [],[],[]=>True
 | _::ts,v::vs,u::us=>(nh v∧aM w ρ0 gR bq v u)∧nE P w ts vs us
 | _,_,_=>False
theorem nE.len {P:Program}{w:World}:∀{ts vs us},nE P w ts vs us→vs.length=us.length
 | [],[],[],_=>rfl
 | _::ts,v::vs,u::us,h=>by simp[nE.len h.2]
theorem nE.get {P:Program}{w:World}:∀{ts vs us},nE P w ts vs us→∀(a:Nat) v u,vs[a]?=some v→us[a]?=some u→nh v∧aM w ρ0 gR bq v u
 | [],[],[],_,a,v,u,h,_=>by simp at h
 | _::ts,v::vs,u::us,h,0,v',u',h1,h2=>by simp at h1 h2;subst h1;subst h2;exact h.1
 | _::ts,v::vs,u::us,h,a+1,v',u',h1,h2=>nE.get h.2 a v' u' (by simpa using h1) (by simpa using h2)
theorem RZ {P:Program}{w:World}{ts:List TypeId}{vs:List V}{us:List Value}(h:nE P w ts vs us):kj w ρ0 vs us:=
 ⟨h.len,fun a v u hv hu=>by
  obtain⟨h1,g,h2,h3⟩:=h.get a v u hv hu
  exact⟨⟨g,h2,fun k x hx=>(h3 k x hx).anyN⟩,h1⟩⟩
theorem Tw {w:World}:Inn w ρ0:=⟨fun b b' L h=>(by cases h),fun b o l h=>(by cases h),fun b l h=>(by cases h)⟩
section
variable {H : Type} {enc : TypeId × Value→H} {P : Program}
theorem tu (hl:laidOutB P=true){W W':World}(hb:Below W.heap.size W W'){sp:Nat→Bool}:∀{ts:List TypeId} {us:List Value} {ds:List (DataW H)} {ps:List MemPlace},(∀t∈ts,P.readableRec t=true∧t<P.types.size)→(∀x∈ps,x.block<W.heap.size∧sp x.block=true)→DataW.TrodAll enc P W 0 (fun _=>true) true ts us ds ps→DataW.TrodAll enc P W' 0 sp true ts us ds ps
 | [],us,ds,ps,_,_,h=>by
  obtain⟨rfl,rfl,rfl⟩:=trodAll_nil h
  exact rfl
 | t::ts,us,ds,ps,ht,hp,h=>by
  obtain⟨u,us',d,ds',p,q,rfl,rfl,rfl,h1,h2⟩:=trodAll_cons h
  have:=ht t (by simp)
  refine⟨p,q,WideElems.Trod_stays hl this.1 this.2 h1 (fun x hx=>hb.same (hp x (by simp[hx])).1) (fun x hx=>(hp x (by simp[hx])).2),tu hl hb (fun t' ht'=>ht t' (by simp[ht'])) (fun x hx=>hp x (by simp[hx])) h2,rfl⟩
theorem wU {W:World}{sp:Nat→Bool}:∀{ts:List TypeId} {us:List Value} {ds:List (DataW H)} {ps:List MemPlace},DataW.TrodAll enc P W 0 sp true ts us ds ps→ds.length=ts.length
 | [],us,ds,ps,h=>by
  obtain⟨rfl,rfl,rfl⟩:=trodAll_nil h
  rfl
 | t::ts,us,ds,ps,h=>by
  obtain⟨u,us',d,ds',p,q,rfl,rfl,rfl,h1,h2⟩:=trodAll_cons h
  simp[wU h2]
theorem Og (hl:laidOutB P=true){fn:Func}{s:ChangeSpec}{apart fresh handsOn again:Bool}{W W':World}{args:Array Value}{ds gs:List (DataW H)}{before:List MemPlace}{tb:TypeId}(hread:∀t∈fn.params.toList,P.readableRec t=true∧t<P.types.size)(hres:fn.resultTypes=#[tb])(hb:P.underlying tb=some .bool)(hs:s.vars=[])(hfn:∀ds:List (DataW H),ds.length=fn.params.toList.length→s.fn H (ds++[])={ results:=[.lit (.bool true)],args:=ds })(hW:DataW.Whole enc P fn.params.toList s.vars apart W args.toList ds gs before)(hB:Below W.heap.size W W'):s.post enc P fn apart fresh handsOn again W args (.bool true) W':=by
 have hW0:=hW
 have hlt:∀p∈before,p.block<W.heap.size:=fun p hp=>by simpa using hW.lt p hp
 obtain⟨p,q,hA,hV,rfl,hz,hn⟩:=hW
 rw[hs] at hV
 have hgs:gs=[]∧q=[]:=by
  cases gs with
  | nil=>exact⟨rfl,hV⟩
  | cons _ _=>exact hV.elim
 obtain⟨rfl,rfl⟩:=hgs
 simp only[List.append_nil] at hlt hz hn
 have hf:=hfn ds (wU hA)
 have hr:∀(b:Nat) (sp:Nat→Bool) (hd:Bool),DataW.TrodAll enc P W' b sp hd fn.resultTypes.toList ((Value.bool true).resultList fn.resultTypes.size) (s.fn H (ds++[])).results []:=by
  intro b sp hd
  rw[hf,hres]
  exact trodAll_mk1 (shut_bool hb true)
 have ha:∀sp:Nat→Bool,(∀x∈p,sp x.block=true)→DataW.TrodAll enc P W' 0 sp true fn.params.toList args.toList ds p:=fun sp hsp=>tu hl hB hread (fun x hx=>⟨hlt x hx,hsp x hx⟩) hA
 refine⟨ds,[],p++[],[],p,[],hW0,hr _ _ _,?_,?_,hB.frame _,fun _=>?_⟩
 ·rw[hf]
  exact ha _ (fun x hx=>by simpa using hlt x hx)
 ·rw[hf,hs]
  exact rfl
 ·refine⟨ok_one hres rfl (okWide_bool_mk hb true),_,[],([]++p)++[],⟨[]++p,[],trodAll_append (ha _ (fun _ _=>rfl)) (hr _ _ _),?_,rfl,?_,?_⟩,?_⟩
  ·rw[hs];exact rfl
  ·intro b off hp
   have hp:MemPlace.cell b off∈p:=by simpa using hp
   rw[hB.frozen (hlt _ hp)]
   exact hz b off hp
  ·intro ha
   simpa using hn ha
  ·intro x hx _
   simpa using hx
end
section
variable {H : Type} {enc : TypeId × Value→H} {P : Program} {W : World} {r : Reach} {b0 : Nat} {t : TypeId} {v : Value} {d : DataW H} {p : List MemPlace} {sp : Nat→Bool} {held : Bool} {A : Type} {f : A→V} {ok : A→Prop}
theorem NF (hn:∀cs,v≠.agg cs)(hr:Rd P t f ok)(hf:∀a,al (f a)=false)(h:DataW.Trod enc P W 0 sp held t v d p):∃a,ok a∧nh (f a)∧aM W ρ0 gR bq (f a) v:=by
 obtain⟨n,hn'⟩:=h
 obtain⟨a,h1,h2,h3⟩:=hr hn'
 refine⟨a,h1,h2,QC ⟨fun h=>?_,fun⟨cs,h⟩=>(hn cs h).elim⟩ h3⟩
 rw[hf a] at h
 cases h
theorem Lx {e:TypeId}(ht:P.underlying t=some (.slice e))(hr:Rd P e f ok)(hp:0<P.cellsOf e)(hv:Value.okWide P W r b0 t v)(h:DataW.Trod enc P W 0 sp held t v d p):∃a,Gv ok a∧nh (.isl false (a.map f))∧aM W ρ0 gR bq (.isl false (a.map f)) v:=
 NF (fun cs e=>by simp only[Value.okWide,ht,Cell.okWide] at hv;subst e;simp[Cell.ok,ht] at hv) (Oh ht hr hp) (fun _=>rfl) h
end
end
section
theorem eI {n:Int}(h : -9223372036854775808≤n)(h':n<9223372036854775808):aF n=n:=by
 show (if (true&&decide (n % (2 ^ 64:Int)≥(2 ^ 63:Int)))=true then n % (2 ^ 64:Int) - (2 ^ 64:Int) else n % (2 ^ 64:Int))=n
 have e:(2:Int) ^ 64=18446744073709551616:=by decide
 have e2:(2:Int) ^ 63=9223372036854775808:=by decide
 rw[e,e2,Bool.true_and]
 split
 ·rename_i hd
  have:=of_decide_eq_true hd
  omega
 ·rename_i hd
  have:¬(n % 18446744073709551616≥9223372036854775808):=fun h9=>hd (decide_eq_true h9)
  omega
theorem ek {n:Nat}(h:n<9223372036854775807):aF ((n:Int)+1)=((n+1:Nat):Int):=eI (by omega) (by omega)
theorem ed {α:Type}{xs:List α}{i:Nat}:bf xs (i:Int)=xs[i]?:=by
 unfold bf
 rw[if_pos (by omega),Int.toNat_natCast]
theorem eo {α:Type}{xs:List α}{i:Nat}:decide ((i:Int)<len xs)=decide (i<xs.length):=by
 simp[len]
@[simp] theorem PY {ρ υ:Type}{r:ρ}{k:υ→Option ρ}:bI (some (.inl r)) k=some r:=rfl
@[simp] theorem PZ {ρ υ:Type}{u:υ}{k:υ→Option ρ}:bI (some (.inr u)) k=k u:=rfl
@[simp] theorem P0 {ρ υ ω:Type}{r:ρ}{k:υ→Option (ρ⊕ω)}:ci (some (.inl r)) k=some (.inl r):=rfl
@[simp] theorem gl {ρ υ ω:Type}{u:υ}{k:υ→Option (ρ⊕ω)}:ci (some (.inr u)) k=k u:=rfl
theorem Il {x y:ae}:(x==y)=decide (x=y):=by
 by_cases h:x=y
 ·subst h;simp
 ·rw[beq_eq_false_iff_ne.2 h];simp[h]
theorem CM {x y:Int}:(x==y)=decide (x=y):=by
 by_cases h:x=y
 ·subst h;simp
 ·rw[beq_eq_false_iff_ne.2 h];simp[h]
theorem Qi {x y:Int}:(x != y)=!decide (x=y):=by rw[bne,CM]
def uF {α β:Type}(p:α→β→Bool):List α→List β→Bool
 | x::xs,y::ys=>p x y&&uF p xs ys
 | _,_=>true
theorem Sd {α β ρ:Type}{L:Int→Option (ρ⊕Unit)}{a:List α}{b:List β}{p:α→β→Option Bool}{r:ρ}{q:α→β→Bool}(hp:∀x∈a,∀y,p x y=some (q x y))(hL:∀x,L x=bif decide (x<len a) then (bf a x).bind fun e=>(bf b x).bind fun f=>(p e f).bind fun c=>bif !c then some (.inl r) else L (aF (x+1)) else some (.inr ()))(hl:a.length=b.length)(hb:a.length<9223372036854775807):L 0=some (bif uF q a b then .inr () else .inl r):=by
 have key:∀(k i:Nat),i+k=a.length→L (i:Int)=some (bif uF q (a.drop i) (b.drop i) then .inr () else .inl r):=by
  intro k
  induction k with
  | zero=>
   intro i hi
   rw[hL,eo,decide_eq_false (by omega),cond_false,List.drop_eq_nil_of_le (by omega),List.drop_eq_nil_of_le (by omega)]
   rfl
  | succ k ih=>
   intro i hi
   have h1:i<a.length:=by omega
   have h2:i<b.length:=by omega
   rw[hL,eo,decide_eq_true h1,cond_true,ed,ed,d5 h1,d5 h2,cm,cm,hp _ (List.getElem_mem h1),cm,ek (by omega),ih (i+1) (by omega),List.drop_eq_getElem_cons h1,List.drop_eq_getElem_cons h2,uF]
   cases q a[i] b[i]<;>rfl
 have:=key a.length 0 (by omega)
 simpa using this
theorem P6 {α ρ:Type}{L:Int→Option (ρ⊕Unit)}{a:List α}{p:α→α→Option Bool}{r:ρ}(hp:∀x∈a,p x x=some true)(hL:∀x,L x=bif decide (x<len a) then (bf a x).bind fun e=>(bf a x).bind fun f=>(p e f).bind fun c=>bif !c then some (.inl r) else L (aF (x+1)) else some (.inr ()))(hb:a.length<9223372036854775807):L 0=some (.inr ()):=by
 have key:∀(k i:Nat),i+k=a.length→L (i:Int)=some (.inr ()):=by
  intro k
  induction k with
  | zero=>
   intro i hi
   rw[hL,eo,decide_eq_false (by omega),cond_false]
  | succ k ih=>
   intro i hi
   have h1:i<a.length:=by omega
   rw[hL,eo,decide_eq_true h1,cond_true,ed,d5 h1,cm,cm,hp _ (List.getElem_mem h1),cm,Bool.not_true,cond_false,ek (by omega),ih (i+1) (by omega)]
 exact key a.length 0 (by omega)
def tn (_:Int):Prop:=True
def wM (s:List UInt8):Prop:=s.length≤1048576
def Ca {A:Type}(sm:A→Prop)(xs:List A):Prop:=xs.length≤1048576∧∀x∈xs,sm x
theorem CG {α ρ:Type}{L:Int→Option (ρ⊕Unit)}{a:List α}{p:α→Option Bool}{r:ρ}{q:α→Bool}(hp:∀x∈a,p x=some (q x))(hL:∀x,L x=bif decide (x<len a) then (bf a x).bind fun e=>(p e).bind fun c=>bif c then some (.inl r) else L (aF (x+1)) else some (.inr ()))(hb:a.length<9223372036854775807):L 0=some (bif a.any q then .inl r else .inr ()):=by
 have key:∀(k i:Nat),i+k=a.length→L (i:Int)=some (bif (a.drop i).any q then .inl r else .inr ()):=by
  intro k
  induction k with
  | zero=>
   intro i hi
   rw[hL,eo,decide_eq_false (by omega),cond_false,List.drop_eq_nil_of_le (by omega)]
   rfl
  | succ k ih=>
   intro i hi
   have h1:i<a.length:=by omega
   rw[hL,eo,decide_eq_true h1,cond_true,ed,d5 h1,cm,hp _ (List.getElem_mem h1),cm,ek (by omega),ih (i+1) (by omega),List.drop_eq_getElem_cons h1,List.any_cons]
   cases q a[i]<;>rfl
 simpa using key a.length 0 (by omega)
theorem HR {α:Type}{L:Int→Option (Int⊕Unit)}{a:List α}{p:α→Option Bool}{q:α→Bool}(hp:∀x∈a,p x=some (q x))(hL:∀x,L x=bif decide (x<len a) then (bf a x).bind fun e=>(p e).bind fun c=>bif c then some (.inl x) else L (aF (x+1)) else some (.inr ()))(hb:a.length<9223372036854775807):L 0=some (match a.findIdx? q with | some i=>.inl (i:Int) | none=>.inr ()):=by
 have key:∀(k i:Nat),i+k=a.length→L (i:Int)=some (match (a.drop i).findIdx? q with | some j=>.inl ((i+j:Nat):Int) | none=>.inr ()):=by
  intro k
  induction k with
  | zero=>
   intro i hi
   rw[hL,eo,decide_eq_false (by omega),cond_false,List.drop_eq_nil_of_le (by omega)]
   rfl
  | succ k ih=>
   intro i hi
   have h1:i<a.length:=by omega
   rw[hL,eo,decide_eq_true h1,cond_true,ed,d5 h1,cm,hp _ (List.getElem_mem h1),cm,ek (by omega),ih (i+1) (by omega),List.drop_eq_getElem_cons h1,List.findIdx?_cons]
   cases hq:q a[i]
   ·simp only[cond_false,Bool.false_eq_true,if_false]
    cases (a.drop (i+1)).findIdx? q with
    | none=>rfl
    | some j=>simp only[Option.map_some];congr 3;omega
   ·simp
 simpa using key a.length 0 (by omega)
theorem Gk:∀(a b:List UInt8),(!(Op.bytesLess a b||a==b))=Op.bytesLess b a
 | [],[]=>rfl
 | [],b::bs=>by simp[Op.bytesLess]
 | a::ax,[]=>by simp[Op.bytesLess]
 | a::ax,b::bs=>by
  have ih:=Gk ax bs
  rcases Nat.lt_trichotomy a.toNat b.toNat with h | h | h
  ·have h1:a<b:=UInt8.lt_iff_toNat_lt.2 h
   have h2:¬b<a:=fun h'=>by have:=UInt8.lt_iff_toNat_lt.1 h';omega
   have h3:(b==a)=false:=by rw[beq_eq_false_iff_ne];rintro rfl;omega
   simp[Op.bytesLess,h1,h2,h3]
  ·have he:a=b:=UInt8.toNat_inj.1 h
   subst he
   have h1:¬a<a:=fun h'=>by have:=UInt8.lt_iff_toNat_lt.1 h';omega
   simpa[Op.bytesLess,h1] using ih
  ·have h1:b<a:=UInt8.lt_iff_toNat_lt.2 h
   have h2:¬a<b:=fun h'=>by have:=UInt8.lt_iff_toNat_lt.1 h';omega
   have h3:(a==b)=false:=by rw[beq_eq_false_iff_ne];rintro rfl;omega
   simp[Op.bytesLess,h1,h2,h3]
end
section
section
variable {α ρ : Type} {g : Int→α→Int × α} {M : Int}
end
end
section
open Go Go.Proofs Go.RowKit
theorem Du {w w':World}{ρ:bg}(hi:Inn w ρ)(hb:Below w.heap.size w w'):Aft w ρ w' ρ:=by
 refine⟨⟨hb.os,hb.output,hb.tape,hb.size,fun b n ⟨a,t,h1,h2⟩=>⟨a,t,?_,h2⟩⟩,fun b h1 h2=>⟨h1,hb.block b h2⟩,fun b l h=>⟨h,hb.block b (hi.lab b 0 l h).1⟩,fun b l h=>h,hi.inj,fun b o l h=>⟨Nat.lt_of_lt_of_le (hi.lab b o l h).1 hb.size,(hi.lab b o l h).2.imp id .inl⟩⟩
 rw[hb.block b (oW h1)]
 exact h1
theorem NJ (w:World)(k:Nat)(os:Array Obj):Below w.heap.size w (Sort.grow (w.drewN k) os):=by
 have hk:∀(k:Nat) (w:World),(w.drewN k).os=w.os∧(w.drewN k).tape=w.tape∧(w.drewN k).output=w.output∧(w.drewN k).heap=w.heap:=by
  intro k
  induction k with
  | zero=>intro w;exact⟨rfl,rfl,rfl,rfl⟩
  | succ k ih=>intro w;exact ih w.drew
 obtain⟨h1,h2,h3,h4⟩:=hk k w
 refine⟨h1,h2,h3,?_,fun i hi=>?_⟩
 ·simp[Sort.grow,h4]
 ·simp[Sort.grow,h4,Array.getElem?_append,hi]
theorem QB {w:World}{ρ:bg}{s:List UInt8}:vN w ρ (str s) (.string ⟨s.toArray⟩):=
 ⟨fun _=>.string ⟨s.toArray⟩,rfl,fun c v h=>by
  cases c with
  | zero=>
   simp[eE,str] at h
   subst h
   exact⟨⟨fun _=>.string ⟨s.toArray⟩,rfl,fun k x hx=>by
    cases k<;>simp[cells] at hx
    subst hx
    exact .str _ _⟩,by simp[nh],rfl⟩
  | succ c=>simp[eE,str] at h⟩
class TabG (P:Program) (G:Ground):Prop where
 tab : ∀ w, G.inv w → Lib.TabIs P w "internal/strconv.uint64pow10" .u64 Lib.pow10Tab
def GT (P : Program)(B : Nat) : Ground := ⟨B, fun w => Lib.TabBelow P B w "internal/strconv.uint64pow10" .u64 Lib.pow10Tab, fun w w' hb hw h => h.on ⟨hw.os, hw.tape, hw.out, hw.size, hb⟩⟩
instance {P:Program}{B:Nat}:TabG P (GT P B):=⟨fun w h=>Lib.TabBelow.here h⟩
theorem TC {P : Program}{w : World}(h : Lib.TabIs P w "internal/strconv.uint64pow10" .u64 Lib.pow10Tab) : (GT P w.heap.size).ok w ρ0 := ⟨Nat.le_refl _, fun _ _ => rfl, Lib.tabBelow_of_tabIs h⟩
section
variable {P : Program} {G : Ground} {f : FuncId}
theorem Qf {g:Int→Option (List UInt8)}(he:∀us w,(callFunc f us).run P w=.ok (.enter f us) w)(h:∀(n:Int) (r:List UInt8) (w:World),g n=some r→G.inv w→Calls P f #[.int .i64 n] w fun e w'=>e=.returned (.string ⟨r.toArray⟩)∧Below w.heap.size w w') :
  fq P G f (bu [false] (oA I) (fun r=>(str r,[])) g):=by
 intro w ρ vs us r os ha hi hg hF
 obtain⟨n,s,rfl,hr,h9⟩:=vP hF
 cases h9
 obtain⟨hl,ha⟩:=ha
 obtain⟨u0,rfl⟩:∃u0,us=[u0]:=by
  match us,hl with
  | [u0],_=>exact⟨u0,rfl⟩
 have h0:RepV w ρ gR _ (.int .i64 n) u0:=sX rfl (ha 0 _ u0 rfl rfl).1
 have e0:u0=.int .i64 n:=by
  cases h0;rfl
 subst e0
 refine .inr ⟨he _ _,(h n s w hr hg.2.2).mono fun e w' ⟨h1,h2⟩=>⟨_,h1,ρ,Du hi h2,QB,yy⟩⟩
end
section
variable {P : Program} {G : Ground} {f : FuncId}
theorem NZ {α β:Type}{own:List Bool}{ea:α→List V}{er:β→V}{g:α→Option β}{ua:α→List Value}{ur:β→Value}(he:∀us w,(callFunc f us).run P w=.ok (.enter f us) w)(ha:∀a us w ρ,kj w ρ (ea a) us→us=ua a)(hr:∀r w ρ,vN w ρ (er r) (ur r))(h:∀(a:α) (r:β) (w:World),g a=some r→G.inv w→Calls P f (ua a).toArray w fun e w'=>e=.returned (ur r)∧Below w.heap.size w w') :
  fq P G f (bu own ea (fun r=>(er r,[])) g):=by
 intro w ρ vs us r os hA hi hg hF
 obtain⟨n,s,rfl,hq,h9⟩:=vP hF
 cases h9
 obtain rfl:=ha _ _ _ _ hA
 exact .inr ⟨he _ _,(h n s w hq hg.2.2).mono fun e w' ⟨h1,h2⟩=>⟨_,h1,ρ,Du hi h2,hr _ _ _,yy⟩⟩
theorem RY {w:World}{ρ:bg}{vs:List V}{us:List Value}(h:kj w ρ vs us)(a:Nat){v:V}(hv:vs[a]?=some v)(hn:al v=false):∃u L,us[a]?=some u∧RepV w ρ gR L v u:=by
 obtain⟨hl,ha⟩:=h
 have hlt:a<us.length:=by rw[←hl];exact (cd.1 hv).1
 exact⟨us[a],_,d5 hlt,sX hn (ha a v us[a] hv (d5 hlt)).1⟩
theorem Ok {w:World}{ρ:bg}{L:Option cS}{s:List UInt8}{u:Value}(h:RepV w ρ gR L (str s) u):u=.string ⟨s.toArray⟩:=by
 have h':RepV w ρ gR L (.str ⟨s.toArray⟩) u:=h
 cases h';rfl
theorem R1 {w:World}{ρ:bg}{s:List UInt8}{us:List Value}(h:kj w ρ [str s] us):us=[.string ⟨s.toArray⟩]:=by
 obtain⟨u0,L0,e0,r0⟩:=RY h 0 rfl rfl
 have hl:=h.1
 match us,hl with
 | [x],_=>simp at e0;subst e0;rw[Ok r0]
theorem Ol {w:World}{ρ:bg}{n:Int}:vN w ρ (.tup [I n,.nilif]) (.tuple #[.int .i64 n,.nilIface]):=
 ⟨fun c=>match c with | 0=>.int .i64 n | _=>.nilIface,rfl,fun c v h=>by
  match c with
  | 0=>
   simp[eE,I] at h
   subst h
   exact⟨⟨fun _=>.int .i64 n,rfl,fun k x hx=>by
    cases k<;>simp[cells] at hx
    subst hx
    exact .int _ _ _⟩,by simp[nh],rfl⟩
  | 1=>
   simp[eE] at h
   subst h
   exact⟨⟨fun _=>.nilIface,rfl,fun k x hx=>by
    cases k<;>simp[cells] at hx
    subst hx
    exact .nilif _⟩,by simp[nh],rfl⟩
  | c+2=>simp[eE] at h⟩
end
def mQ (s:List UInt8):Option (Int×Unit):=bif Nat.ble s.length 18 then (Lib.atoi s).map fun n=>(n,()) else none
theorem LK {P:Program}{G:Ground}{ρ:Shelf.Ren}(L:Lays.n172 P ρ):fq P G (ρ.f 172) (bu [false] (oA str) (fun r=>(.tup [I r.1,.nilif],[])) mQ):=by
 refine NZ (ua:=fun s=>[.string ⟨s.toArray⟩]) (ur:=fun r=>.tuple #[.int .i64 r.1,.nilIface]) (Go.Proofs.enters_of L.f172 (by kernel_rfl) rfl) (fun _ _ _ _ h=>R1 h) (fun _ _ _=>Ol) fun s r w h hg=>?_
 unfold mQ at h
 cases hb:Nat.ble s.length 18 with
 | false=>rw[hb] at h;cases h
 | true=>
  rw[hb] at h
  simp only[cond_true,aI] at h
  obtain⟨n,h1,rfl⟩:=h
  exact (Any.strconv_Atoi L ⟨s.toArray⟩ n (Nat.le_of_ble_eq_true hb) h1 w).mono fun e w' ⟨h1,t,h2⟩=>⟨h1,by rw[h2];exact Lib.bytesWorld_below _ _ _⟩
open Go.ChangeShapes in
theorem DL {P:Program}{x:String×DataW Unit}{r:List (String×DataW Unit)}{w:World}(h:laidMet P (x::r) w):laidMet P r w:=by
 obtain⟨ps,hv,hnd,hrows⟩:=h
 obtain⟨n,d⟩:=x
 obtain⟨g,t,cs,fuel,p,q,_,_,_,_,hq,rfl⟩:=hv
 exact⟨q,hq,List.Nodup.sublist (List.sublist_append_right _ _) hnd,fun b off hm=>hrows b off (List.mem_append_right _ hm)⟩
def Gd (n:Int):Bool:=decide (-9223372036854775808≤n)&&decide (n≤9223372036854775807)
def tc (n:Int):Option (List UInt8):=bif Gd n then some (Lib.itoa n) else none
theorem LL {P:Program}{G:Ground}[TabG P G]{ρ:Shelf.Ren}(L:LaysM.n171 P ρ):fq P G (ρ.f 171) (bu [false] (oA I) (fun r=>(str r,[])) tc):=by
 refine Qf (Go.Proofs.enters_of L.f171 (by kernel_rfl) rfl) fun n r w h hg=>?_
 unfold tc at h
 cases hb:Gd n with
 | false=>rw[hb] at h;cases h
 | true=>
  rw[hb] at h
  cases h
  simp only[Gd,Bool.and_eq_true,decide_eq_true_eq] at hb
  exact (Any.strconv_Itoa L n hb.1 hb.2 w (TabG.tab w hg)).mono fun e w' ⟨h1,k,os,h2⟩=>⟨h1,by rw[h2];exact NJ w k os⟩
theorem CH {P:Program}{G:Ground}{f:FuncId}{fn:Func}{c:Code}{n:Nat}{e:Ent}{W:World}{ts:List TypeId}{vs:List V}{args:Array Value}{b:Bool}(ho:G.ok W ρ0)(hf:P.funcs[f]?=some fn)(F:Fits fn c n)(hg:fq P G f e)(ha:nE P W ts vs args.toList)(hF:e.F vs=some (B b,[])) :
  Calls P f args W fun r W'=>r=.returned (.bool b)∧Below W.heap.size W W':=by
 rcases hg W ρ0 vs args.toList (B b) [] (RZ ha) Tw ho hF with⟨u,w',h1,_⟩ | ⟨_,h2⟩
 ·rw[DX hf F] at h1
  cases h1
 ·refine h2.mono fun r W' hr=>?_
  obtain⟨u,rfl,ρ',ha,⟨p,hp,hc⟩,_⟩:=hr
  obtain⟨hs,_,_⟩:=hc 0 (B b) rfl
  obtain⟨g,hg1,hg2⟩:=hs
  have h3:=hg2 0 (B b) rfl
  refine⟨?_,ha.wk.os,ha.wk.tape,ha.wk.out,ha.wk.size,fun k hk=>(ha.fr k rfl hk).2⟩
  have h4:u=p 0:=hp
  have h5:p 0=g 0:=hg1
  have h6:g 0=.bool b:=by
   have h7:RepV W' ρ' gR _ (.bool b) (g 0):=h3
   generalize g 0=z at h7
   cases h7
   rfl
  rw[h4,h5,h6]
end
end Go.Ln
