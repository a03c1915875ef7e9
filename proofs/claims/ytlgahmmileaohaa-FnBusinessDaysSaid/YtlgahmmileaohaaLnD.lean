/-
  A step by step reading of the printed code by values, proved sound once (part 4): no statement of the seat stands here.
-/
import Derived.Test.YtlgahmmileaohaaLnC
set_option linter.unusedVariables false
set_option linter.unusedSimpArgs false
set_option linter.unusedSectionVars false
namespace Go.Ln
open Go
def isLoc : Op→Bool
  | .move _ | .assign _ | .pick .. | .build .. | .binOp .. | .unOp .. | .field .. | .index .. | .extract ..=>true
  | _=>false
theorem isLoc_rt {E : Env} {id : Nat} {st : St} {op : Op} {v : V} {rt : Store} (hl : isLoc op=true) (h : opV E id st op=some (v,rt)) : rt=st.rt:=by
  cases op <;> simp only [isLoc,Bool.false_eq_true] at hl <;> simp only [opV,Option.bind_eq_some_iff,Option.map_eq_some_iff,Prod.mk.injEq] at h
  case move=>obtain ⟨_,_,_,h⟩:=h; exact h.symm
  case assign=>obtain ⟨_,_,_,h⟩:=h; exact h.symm
  case pick=>obtain ⟨_,_,_,_,_,h⟩:=h; exact h.symm
  case build=>obtain ⟨_,_,_,_,_,h⟩:=h; exact h.symm
  case binOp=>obtain ⟨_,_,_,_,_,_,_,h⟩:=h; exact h.symm
  case unOp=>obtain ⟨_,_,_,_,_,h⟩:=h; exact h.symm
  case field =>
    obtain ⟨x,_,y,_,h⟩:=h
    cases x <;> simp only [reduceCtorEq] at h
    split at h
    · simp only [Option.map_eq_some_iff,Prod.mk.injEq] at h
      obtain ⟨_,_,_,h⟩:=h; exact h.symm
    · cases h
  case index =>
    obtain ⟨x,_,y,_,h⟩:=h
    cases y <;> simp only [reduceCtorEq,Option.map_eq_some_iff,Prod.mk.injEq] at h
    obtain ⟨_,_,_,h⟩:=h; exact h.symm
  case extract =>
    obtain ⟨x,_,h⟩:=h
    cases x <;> simp only [reduceCtorEq,Option.map_eq_some_iff,Prod.mk.injEq] at h
    obtain ⟨_,_,_,h⟩:=h; exact h.symm
theorem isLoc_R {st : St} {op : Op} (hl : isLoc op=true) : opR st op=[]:=by
  cases op <;> simp only [isLoc,Bool.false_eq_true] at hl <;> rfl
theorem isLoc_W {E : Env} {st : St} {op : Op} (hl : isLoc op=true) : opW E st op=[]:=by
  cases op <;> simp only [isLoc,Bool.false_eq_true] at hl <;> rfl
theorem okD_nil {base : Nat} {ms : List Nat} {i : Nat} {log : Log} : okD base ms i [] [] log=true:=by
  simp [okD]
theorem putL_app {t : Option Nat} {v : V} {acc l : List (Nat × V)} : putL t v (acc ++ l)=putL t v acc ++ l:=by cases t <;> rfl
def dL (E : Env) (ops : Array Oper) (N nx : Nat) (rt : Store) (l : List (Nat × V)) : Nat→Nat→List (Nat × V)→Option (List (Nat × V))
  | 0,_,acc=>some acc
  | n + 1,i,acc=>(ops[i]?).bind fun o=>(wantV ops ⟨mkTm .dead N (acc ++ l),rt,nx⟩ o).bind fun b=>match b with
    | true=>match isLoc o.op with
      | true=>(opV E (nx + room * i) ⟨mkTm .dead N (acc ++ l),rt,nx⟩ o.op).bind fun r=>dL E ops N nx rt l n (i + 1) (putL o.dst r.1 acc)
      | false=>none
    | false=>dL E ops N nx rt l n (i + 1) (putL o.dst .und acc)
def logN : Nat→Nat→Log→Log
  | 0,_,log=>log
  | n + 1,i,log=>logN n (i + 1) ((i,[],[]) :: log)
section
variable {E : Env} {m : Nat} {Q : St→Prop} {ops : Array Oper} {ms : List Nat} {k : List It} {N nx : Nat} {rt : Store} {l : List (Nat × V)}
theorem dL_sound : ∀ {n i : Nat} {acc acc' : List (Nat × V)} {log : Log}, dL E ops N nx rt l n i acc = some acc' →
    Run E m Q (.dops ops ms (i + n) (logN n i log) :: k) ⟨mkTm .dead N (acc' ++ l), rt, nx⟩ → Run E m Q (.dops ops ms i log :: k) ⟨mkTm .dead N (acc ++ l), rt, nx⟩
  | 0, i, acc, acc', log, h, r => by
    simp only [dL, Option.some.injEq] at h
    subst h
    exact r
  | n + 1, i, acc, acc', log, h, r => by
    simp only [dL, Option.bind_eq_some_iff] at h
    obtain ⟨o, ho, b, hb, h⟩ := h
    have r' : Run E m Q (.dops ops ms (i + 1 + n) (logN n (i + 1) ((i, [], []) :: log)) :: k) ⟨mkTm .dead N (acc' ++ l), rt, nx⟩ := by
      rw [Nat.add_right_comm]; exact r
    cases b with
    | true =>
      simp only at h
      split at h
      · rename_i hl
        simp only [Option.bind_eq_some_iff] at h
        obtain ⟨⟨v, rt1⟩, hv, h⟩ := h
        have e := isLoc_rt hl hv
        dsimp only at e
        rw [e] at hv
        refine .dop (log' := (i, [], []) :: log) (st' := ⟨mkTm .dead N (putL o.dst v acc ++ l), rt, nx⟩) ?_ (dL_sound h r')
        simp [dstepV, stepV, ho, hb, hv, mkTm_put, isLoc_R hl, isLoc_W hl, okD_nil, putL_app]
      · cases h
    | false =>
      simp only at h
      refine .dop (log' := (i, [], []) :: log) (st' := ⟨mkTm .dead N (putL o.dst .und acc ++ l), rt, nx⟩) ?_ (dL_sound h r')
      simp [dstepV, stepV, ho, hb, mkTm_put, okD_nil, putL_app]
theorem zip_parts : ∀ {l : List (Nat × V)},(l.map (·.1)).zip (l.map (·.2))=l
  | []=>rfl
  | (a,b) :: l=>by simp [zip_parts]
theorem dk {i : Nat} {log : Log} (n : Nat) (K : List Nat) (vs : List V) (r : Run E m Q (.dops ops ms (i + n) (logN n i log) :: k) ⟨mkTm .dead N (K.zip vs ++ l), rt, nx⟩)
    (h : (dL E ops N nx rt l n i []).map (fun a => (a.map (·.1), a.map (·.2))) = some (K, vs) := by kernel_rfl) : Run E m Q (.dops ops ms i log :: k) ⟨mkTm .dead N l, rt, nx⟩ := by
  simp only [Option.map_eq_some_iff, Prod.mk.injEq] at h
  obtain ⟨a, h1, h2, h3⟩ := h
  subst h2 h3
  rw [zip_parts] at r
  exact dL_sound (acc := []) h1 r
end
section
variable {E : Env} {m : Nat} {Q : St→Prop} {ops : Array Oper} {i : Nat} {is : List Nat} {k : List It} {d : V} {n : Nat} {l : List (Nat × V)} {rt rt' : Store} {nx : Nat} {op : Op} {v : V} {t : Nat} {ms : List Nat} {log : Log}
theorem dq (R W : List Nat) (v : V) (ho : opAt ops i = some (some t, op)) (hv : opV E (nx + 16 * i) ⟨mkTm d n l, rt, nx⟩ op = some (v, rt'))
    (r : Run E m Q (.dops ops ms (i + 1) ((i, R, W) :: log) :: k) ⟨mkTm d n ((t, v) :: l), rt', nx⟩)
    (hW : opW E ⟨mkTm d n l, rt, nx⟩ op = W := by exact rfl) (hR : opR ⟨mkTm d n l, rt, nx⟩ op = R := by exact rfl) (hc : okD nx ms i R W log = true := by decide) : Run E m Q (.dops ops ms i log :: k) ⟨mkTm d n l, rt, nx⟩ := dp R W v ho hv hR hW hc r
theorem dz (R W : List Nat) (ho : opAt ops i = some (none, op)) (hv : opV E (nx + 16 * i) ⟨mkTm d n l, rt, nx⟩ op = some (v, rt'))
    (r : Run E m Q (.dops ops ms (i + 1) ((i, R, W) :: log) :: k) ⟨mkTm d n l, rt', nx⟩)
    (hW : opW E ⟨mkTm d n l, rt, nx⟩ op = W := by exact rfl) (hR : opR ⟨mkTm d n l, rt, nx⟩ op = R := by exact rfl) (hc : okD nx ms i R W log = true := by decide) : Run E m Q (.dops ops ms i log :: k) ⟨mkTm d n l, rt, nx⟩ := dp0 R W ho hv hR hW hc r
theorem dy {g : Nat} {w : Bool} (R W : List Nat) (v : V) (ho : opAtG ops i = some (some t, op, some g, w)) (hv : opV E (nx + 16 * i) ⟨mkTm d n l, rt, nx⟩ op = some (v, rt'))
    (r : Run E m Q (.dops ops ms (i + 1) ((i, R, W) :: log) :: k) ⟨mkTm d n ((t, v) :: l), rt', nx⟩)
    (hW : opW E ⟨mkTm d n l, rt, nx⟩ op = W := by exact rfl) (hR : opR ⟨mkTm d n l, rt, nx⟩ op = R := by exact rfl) (hn : Nat.ble (g + 1) n = true := by exact rfl) (hg : gd (lk d l g) w = some true := by exact rfl) (hc : okD nx ms i R W log = true := by decide) : Run E m Q (.dops ops ms i log :: k) ⟨mkTm d n l, rt, nx⟩ := dg R W v ho hn hg hv hR hW hc r
theorem oq (nx' : Nat) (v : V) (ho : opAt ops i=some (some t,op)) (hv : opV E nx ⟨mkTm d n l,rt,nx⟩ op=some (v,rt')) (r : Run E m Q (.ops ops is :: k) ⟨mkTm d n ((t,v) :: l),rt',nx'⟩) (hx : nx + 16=nx':=by exact rfl) : Run E m Q (.ops ops (i :: is) :: k) ⟨mkTm d n l,rt,nx⟩:=o nx' v hx ho hv r
theorem oy {g : Nat} {w : Bool} (nx' : Nat) (v : V) (ho : opAtG ops i=some (some t,op,some g,w)) (hv : opV E nx ⟨mkTm d n l,rt,nx⟩ op=some (v,rt')) (r : Run E m Q (.ops ops is :: k) ⟨mkTm d n ((t,v) :: l),rt',nx'⟩) (hx : nx + 16=nx':=by exact rfl) (hn : Nat.ble (g + 1) n=true:=by exact rfl) (hg : gd (lk d l g) w=some true:=by exact rfl) : Run E m Q (.ops ops (i :: is) :: k) ⟨mkTm d n l,rt,nx⟩:=og nx' v hx ho hn hg hv r
theorem cq {N : Nat} {L : List (Nat × Option Root)} (n : Nat) (K : List Nat) (vs : List V) (nx' : Nat) (r : Run E m Q (runI n k) ⟨mkTm .dead N (K.zip vs ++ l), mkS L, nx'⟩)
    (h : chk E N n k l L nx K [] [] [] = some (vs, [], nx') := by kernel_rfl) : Run E m Q k ⟨mkTm .dead N l, mkS L, nx⟩ := c0 n K vs nx' h r
theorem aq {st : St} {k k' : List It} (n : Nat) (r : Run E m Q k' st) (h : nextN n k=some k':=by exact rfl) : Run E m Q k st:=ad n h r
theorem nv_ex : ∀ {L : List (Option Root)} {rs : List Root},L.map (fun x=>x.map fun r=>(⟨0,r.s,r.es⟩ : Root))=rs.map some→∃ rs0 : List Root,L=rs0.map some ∧ rtL rs0 1=rtL rs 1:=by
  intro L
  suffices h : ∀ (L : List (Option Root)) (rs : List Root) (i : Nat),L.map (fun x=>x.map fun r=>(⟨0,r.s,r.es⟩ : Root))=rs.map some→∃ rs0 : List Root,L=rs0.map some ∧ rtL rs0 i=rtL rs i from fun {rs}=>h L rs 1
  intro L
  induction L with
  | nil =>
    intro rs i h
    cases rs with
    | nil=>exact ⟨[],rfl,rfl⟩
    | cons r rs=>simp at h
  | cons x L ih =>
    intro rs i h
    cases rs with
    | nil=>simp at h
    | cons r rs =>
      simp only [List.map_cons,List.cons.injEq,Option.map_eq_some_iff] at h
      obtain ⟨⟨y,rfl,rfl⟩,h2⟩:=h
      obtain ⟨rs0,h3,h4⟩:=ih rs (i + 1) h2
      exact ⟨y :: rs0,by rw [h3]; rfl,by simp only [rtL]; rw [h4]⟩
theorem rf (L os : List Nat) {rs : List Root} (r : Run E m Q k ⟨mkTm .dead n (L.map fun t => (t, ren rt os (lk d l t))), mkS (rtL rs 1), os.length + 1⟩)
    (hk : noD k = true := by exact rfl) (hrs : (os.map rt).map (fun x => x.map fun r => (⟨0, r.s, r.es⟩ : Root)) = rs.map some := by exact rfl) (ha : ascB n 0 L = true := by exact rfl) (hos : nub (fixed m) (idss (L.map (lk d l))) = os := by exact rfl) : Run E m Q k ⟨mkTm d n l, rt, nx⟩ := by
  obtain ⟨rs0, h1, h2⟩ := nv_ex hrs
  rw [← h2] at r
  exact run_forget L os rs0 ha hos h1 hk r
theorem sq {c : Code} {st : St} {α : Type} {b : Bool} {x y : Option α} {r : Option α} (h : (bif b then x else y)=r) (h1 : x=r→Run E m Q (.code (cL c) :: k) st) (h2 : y=r→Run E m Q (.code (cR c) :: k) st) (hc : cK c=3:=by exact rfl) (hv : ev st (cCond c)=some (.bool b):=by exact rfl) : Run E m Q (.code c :: k) st:=sc h hc hv h1 h2
end
abbrev sT (n : Nat) (l : List (Nat × V)) (rs : List Root) (nx : Nat) : St:=⟨mkTm .dead n l,mkS (rtL rs 1),nx⟩
theorem hd_hq {L : List (Nat × Option Root)} {path : Path} {s0 s o nv nv' : Nat} {es : List V} {e : V} (hr : lkS L o=some ⟨nv',s0,es⟩) (hv : okP path nv nv'=true) (hp : rowAt path s0 es=some (s,[e])) (hs : (cells e).length=s:=by exact rfl) : handC (mkS L) (.hp o nv path s 0 0)=some (.uptr e):=hd_hp hr hv hp hs
theorem fix_indP {α β : Type} {F : (α→Option β)→α→Option β} {P : α→β→Prop} (hF : ∀ a,Fin1 fun f=>F f a) (hs : ∀ f : α→Option β,(∀ a b,f a=some b→P a b)→∀ a b,F f a=some b→P a b) : ∀ a r,fixO F a=some r→P a r:=fun _ _ h=>fix_ind hF hs h
end Go.Ln
set_option linter.unusedVariables false
set_option linter.unusedSimpArgs false
set_option linter.unusedSectionVars false
namespace Go.Ln
open Go
theorem lkS_same {A X Y : List (Nat × Option Root)} (h : ∀ o,lkS X o=lkS Y o) (o : Nat) : lkS (A ++ X) o=lkS (A ++ Y) o:=by
  induction A with
  | nil=>exact h o
  | cons e A ih =>
    obtain ⟨k,x⟩:=e
    simp only [List.cons_append,lkS_cons]
    split
    · rfl
    · exact ih
theorem lkS_self {D : List Nat} {L : List (Nat × Option Root)} (o : Nat) : lkS (D.map (fun o=>(o,lkS L o)) ++ L) o=lkS L o:=by
  induction D with
  | nil=>rfl
  | cons d D ih =>
    simp only [List.map_cons,List.cons_append,lkS_cons]
    split
    · rename_i h; rw [h]
    · exact ih
theorem mkS_ext {X Y : List (Nat × Option Root)} (h : ∀ o,lkS X o=lkS Y o) : mkS X=mkS Y:=by
  funext o
  exact h o
section
variable {E : Env} {id : Nat} {L : List (Nat × Option Root)}
theorem call_D {f : FuncId} {e : Ent} {g : List Giv} {args xs : List V} {r v : V} {os ys : List V} {R : List (Nat × Nat × Root)} {G' : List (Nat × Option Root)} {D : List Nat} (he : E.fn f = some e) (hg : givenOf 0 e.own args = g) (hD : lentOf e.own args = D) (hl : okG g D = true)
    (hx : argsV (mkS L) e.own args = some xs) (hF : e.F xs = some (r, os)) (hb : backL L e.own os g = G') (hr : inst1s id 0 (comps r) = (ys, R)) (hn : Nat.ble R.length 16 = true) (hv : retup r ys = v) :
    callV E (mkS L) id f args = some (v, mkS (rootL id R ++ (G' ++ (D.map (fun o => (o, if (hasImm r || hasImms os) = true then none else lkS L o)) ++ L)))) := by
  rw [Nat.ble_eq] at hn
  simp only [callV, he, Option.bind_some, hg, hx, hF, hr]
  rw [hD]
  rw [if_pos (show (nodupN (0 :: g.map (·.1)) && D.all fun o => !(0 :: g.map (·.1)).contains o) = true from hl)]
  rw [if_pos (by simpa [room] using hn), back_mk, hb, addRoots_mk, hv]
  congr 2
  refine mkS_ext fun o => lkS_same (fun o => lkS_same (fun o => ?_) o) o
  cases h : hasImm r || hasImms os with
  | true => simp
  | false =>
    simp only [Bool.false_eq_true, if_false, List.map_nil, List.nil_append]
    exact (lkS_self o).symm
end
section
variable {E : Env} {m : Nat} {Q : St→Prop} {ops : Array Oper} {i : Nat} {k : List It} {d : V} {n : Nat} {l : List (Nat × V)} {rt rt' : Store} {nx : Nat} {op : Op} {v : V} {t : Nat} {ms : List Nat} {log : Log}
theorem w_callD {fo : Operand} {xs : Array Operand} {ts : Array TypeId} {f : FuncId} {caps vs : List V} {e : Ent} {g : List Giv} (hf : evM d n l fo=some (.fn f caps)) (ha : evMs d n l xs.toList=some vs) (he : E.fn f=some e) (hg : givenOf 0 e.own (vs ++ caps)=g) {D W : List Nat} (hD : lentOf e.own (vs ++ caps)=D) (hW : g.map (·.1) ++ D=W) : ∀ x ∈ opW E ⟨mkTm d n l,rt,nx⟩ (.call { callee:=.value fo,args:=xs,argTypes:=ts }),x ∈ W:=by
  subst hW hD
  intro x hx
  simp only [opW,evM_eq,evMs_eq,hf,ha,callW,he,hg,List.mem_append] at hx ⊢
  rcases hx with h | h
  · exact .inl h
  · right
    split at h
    · split at h
      · exact h
      · cases h
    · cases h
def Le1 (a b : Nat × List Nat × List Nat) : Prop:=a.1=b.1 ∧ (∀ x ∈ a.2.1,x ∈ b.2.1) ∧ ∀ x ∈ a.2.2,x ∈ b.2.2
def LeL : Log→Log→Prop
  | [],[]=>True
  | a :: ax,b :: bs=>Le1 a b ∧ LeL ax bs
  | _,_=>False
theorem LeL.refl : ∀ {l : Log},LeL l l
  | []=>trivial
  | _ :: _=>⟨⟨rfl,fun _ h=>h,fun _ h=>h⟩,LeL.refl⟩
theorem LeL.mem : ∀ {ax bs : Log},LeL ax bs→∀ a ∈ ax,∃ b ∈ bs,Le1 a b
  | [],[],_,a,h=>by cases h
  | x :: ax,y :: bs,h,a,ha=>by
    rcases List.mem_cons.1 ha with rfl | ha
    · exact ⟨y,by simp,h.1⟩
    · obtain ⟨b,hb,h2⟩:=h.2.mem a ha
      exact ⟨b,by simp [hb],h2⟩
  | [],_ :: _,h,_,_=>h.elim
  | _ :: _,[],h,_,_=>h.elim
theorem okD_le {base : Nat} {i : Nat} {R W R' W' : List Nat} {log log' : Log} (hl : LeL log' log) (hR : ∀ x ∈ R',x ∈ R) (hW : ∀ x ∈ W',x ∈ W) (h : okD base ms i R W log=true) : okD base ms i R' W' log'=true:=by
  simp only [okD,Bool.and_eq_true,List.all_eq_true,Bool.or_eq_true,decide_eq_true_eq] at h ⊢
  refine ⟨fun x hx=>h.1 x (hR x hx),fun a ha=>?_⟩
  obtain ⟨b,hb,h1,h2,h3⟩:=hl.mem a ha
  rcases h.2 b hb with h4 | ⟨h4,h5⟩
  · left; rw [h1]; exact h4
  · right
    refine ⟨fun x hx=>?_,fun x hx=>?_⟩
    · have:=h4 x (h3 x hx)
      simp only [Bool.not_eq_true',List.contains_eq_mem,decide_eq_false_iff_not] at this ⊢
      exact fun hm=>this (hR x hm)
    · have:=h5 x (hW x hx)
      simp only [Bool.not_eq_true',List.contains_eq_mem,decide_eq_false_iff_not] at this ⊢
      exact fun hm=>this (h2 x hm)
theorem log_up {todo : List It} {st : St} (r : Run E m Q todo st) : ∀ {i : Nat} {log log' : Log} {k : List It},todo=.dops ops ms i log :: k→LeL log' log→Run E m Q (.dops ops ms i log' :: k) st:=by
  induction r with
  | done h=>intro i log log' k e; cases e
  | step h r ih=>intro i log log' k e; subst e; simp [step1] at h
  | forget L hk r ih=>intro i log log' k e; subst e; simp [noD] at hk
  | split S hk h r ih=>intro i log log' k e; subst e; simp [noD] at hk
  | nilq=>intro i log log' k e; cases e
  | draw=>intro i log log' k e; cases e
  | @dop ops0 ms0 i0 log0 log1 k0 st0 st1 h r ih =>
    intro i log log' k e hl
    cases e
    obtain ⟨o,b,R,W,h1,h2,h3,h4,h5,h6,h7⟩:=dstep_parts h
    refine .dop (log':=(i0,R,W) :: log') (st':=st1) ?_ (ih (log:=(i0,R,W) :: log0) (by rw [h7]) ⟨⟨rfl,fun _ h=>h,fun _ h=>h⟩,hl⟩)
    have h8:=okD_le hl (fun _ h=>h) (fun _ h=>h) h5
    subst h3 h4
    simp only [dstepV,h1,h2,Option.bind_some]
    rw [if_pos h8,h6]
    rfl
  | dend h r ih =>
    intro i log log' k e hl
    cases e
    exact .dend h r
theorem dw (R W : List Nat) (v : V) (ho : opAt ops i = some (some t, op)) (hv : opV E (nx + 16 * i) ⟨mkTm d n l, rt, nx⟩ op = some (v, rt'))
    (r : Run E m Q (.dops ops ms (i + 1) ((i, R, W) :: log) :: k) ⟨mkTm d n ((t, v) :: l), rt', nx⟩)
    (hW : ∀ x ∈ opW E ⟨mkTm d n l, rt, nx⟩ op, x ∈ W) (hR : opR ⟨mkTm d n l, rt, nx⟩ op = R := by exact rfl) (hc : okD nx ms i R W log = true := by decide) : Run E m Q (.dops ops ms i log :: k) ⟨mkTm d n l, rt, nx⟩ :=
  dp R _ v ho hv hR rfl (okD_le LeL.refl (fun _ h => h) hW hc) (log_up r rfl ⟨⟨rfl, fun _ h => h, hW⟩, LeL.refl⟩)
theorem dwg {g : Nat} {w : Bool} (R W : List Nat) (v : V) (ho : opAtG ops i = some (some t, op, some g, w)) (hv : opV E (nx + 16 * i) ⟨mkTm d n l, rt, nx⟩ op = some (v, rt'))
    (r : Run E m Q (.dops ops ms (i + 1) ((i, R, W) :: log) :: k) ⟨mkTm d n ((t, v) :: l), rt', nx⟩)
    (hW : ∀ x ∈ opW E ⟨mkTm d n l, rt, nx⟩ op, x ∈ W) (hR : opR ⟨mkTm d n l, rt, nx⟩ op = R := by exact rfl) (hn : Nat.ble (g + 1) n = true := by exact rfl) (hg : gd (lk d l g) w = some true := by exact rfl) (hc : okD nx ms i R W log = true := by decide) : Run E m Q (.dops ops ms i log :: k) ⟨mkTm d n l, rt, nx⟩ :=
  dg R _ v ho hn hg hv hR rfl (okD_le LeL.refl (fun _ h => h) hW hc) (log_up r rfl ⟨⟨rfl, fun _ h => h, hW⟩, LeL.refl⟩)
end
end Go.Ln
set_option linter.unusedVariables false
set_option linter.unusedSimpArgs false
set_option linter.unusedSectionVars false
namespace Go.Ln
open Go
variable {G : Ground} {m : Nat} {w0 w : World} {ρ0 ρ : Own} {st : St} {a : Act}
def movSt (os L : List Nat) (st : St) : St:={ tm:=rens st.rt os (keepT L 0 st.tm),rt:=renRt st.rt os,nx:=os.length + 1 }
theorem Rel.moved (R : Rel G m w0 ρ0 w ρ st a) (L os : List Nat) (hd : os.Nodup) (hfx : ∀ i,0 < i→i ≤ m→os[i - 1]?=some i ∨ ∃ o,os[i - 1]?=some o ∧ st.rt o=none) : ∃ ρ',Rel G m w0 ρ0 w ρ' (movSt os L st) a:=by
  have hlen : m ≤ os.length:=by
    by_cases h0 : m=0
    · omega
    · rcases hfx m (by omega) (Nat.le_refl _) with h | ⟨o,h,_⟩
      · have:=(List.getElem?_eq_some_iff.1 h).1; omega
      · have:=(List.getElem?_eq_some_iff.1 h).1; omega
  have nn : ∀ (i : Nat) v,(keepT L 0 st.tm)[i]?=some v→noNew (NewOf (past st.nx) st.rt) v:=fun i v hv=>by
    obtain ⟨v0,h1,h2 | h2⟩:=keepT_get hv
    · subst h2; exact R.tmn i v h1
    · subst h2; simp [noNew]
  refine ⟨renOwn ρ os,⟨?_,?_,renOwn_inj hd R.inj,?_,?_,?_,?_,?_,R.wk,?_,?_,?_,R.df,?_,?_,R.le,fun i h1 h2=>by unfold movSt past at h2; simp only at h2; omega⟩⟩
  · refine ⟨by show (rens st.rt os (keepT L 0 st.tm)).length=_; rw [rens_map,List.length_map,keepT_len]; exact R.tm.1,fun i v u hv hu=>?_⟩
    change (rens st.rt os (keepT L 0 st.tm))[i]?=some v at hv
    rw [rens_map,List.getElem?_map] at hv
    obtain ⟨v1,hv1,rfl⟩:=Option.map_eq_some_iff.1 hv
    obtain ⟨v0,h0,h2 | h2⟩:=keepT_get hv1
    · subst h2
      obtain ⟨g,hg,hs⟩:=R.tm.2 i v1 u h0 hu
      refine ⟨g,?_,fun k x hx=>?_⟩
      · rw [hg]; unfold pack; rw [agg_ren,cells_ren,List.length_map]
      · rw [cells_ren,List.getElem?_map] at hx
        obtain ⟨x0,hx0,rfl⟩:=Option.map_eq_some_iff.1 hx
        exact ren_rep R.lab hd (hs k x0 hx0) rfl (noNew_mono (by rintro o nv ⟨_,h⟩; exact h.elim) (noNew_cell (R.tmn i v1 h0) hx0))
    · subst h2
      simp only [ren]
      exact Slot.mk1 rfl (.dead _ _)
  · exact ren_rok hd R.lab R.rok R.rtn
  · intro n r h
    obtain ⟨o,r0,_,h1,rfl⟩:=renRt_inv hd h
    exact R.rtn o r0 h1
  · exact ren_lab hd R.lab
  · exact fun o ho=>renRt_high ho
  · intro o ho; unfold movSt past at ho; simp only at ho; omega
  · intro i v hv
    change (rens st.rt os (keepT L 0 st.tm))[i]?=some v at hv
    rw [rens_map,List.getElem?_map] at hv
    obtain ⟨v1,hv1,rfl⟩:=Option.map_eq_some_iff.1 hv
    exact ren_nn hd (nn i v1 hv1)
  · exact fun b h1 h2=>⟨renOwn_none (R.fr b h1 h2).1,(R.fr b h1 h2).2⟩
  · exact fun b l h=>⟨renOwn_far (R.k0 b l h).1,(R.k0 b l h).2⟩
  · intro b l h
    rcases renOwn_inv h with ⟨_,h1⟩ | ⟨o,h1,h2,h3⟩
    · exact R.f0 b l h1
    · have:=(idx_pos h3).1; omega
  · exact ⟨R.gr.1,fun b hb=>renOwn_none (R.gr.2.1 b hb),R.gr.2.2⟩
  · intro i b n hi hb hn hs
    have hle:=R.le b i [] hb
    change (renRt st.rt os i).isSome=true at hs
    rcases hfx i hi hle with h | ⟨o,h,h2⟩
    · have hx : idx i os 1=some i:=by rw [idx_get hd h]; congr 1; omega
      rw [renRt_some hx] at hs
      have h0:=R.am i b n hi hb hn (by simpa using hs)
      exact ⟨renOwn_some h0.1 (by omega) hx,h0.2⟩
    · have hx : idx o os 1=some i:=by rw [idx_get hd h]; congr 1; omega
      rw [renRt_some hx,h2] at hs
      cases hs
def rtO : List (Option Root)→Nat→List (Nat × Option Root)
  | [],_=>[]
  | none :: rs,i=>rtO rs (i + 1)
  | some r :: rs,i=>(i,some ⟨0,r.s,r.es⟩) :: rtO rs (i + 1)
theorem rtO_get : ∀ {rs : List (Option Root)} {i o : Nat},lkS (rtO rs i) o=if i ≤ o then (rs[o - i]?).bind fun x=>x.map fun r=>⟨0,r.s,r.es⟩ else none
  | [],i,o=>by simp [rtO,lkS]
  | none :: rs,i,o=>by
    simp only [rtO]
    rw [rtO_get]
    by_cases h : i + 1 ≤ o
    · rw [if_pos h,if_pos (by omega),show o - i=(o - (i + 1)) + 1 by omega,List.getElem?_cons_succ]
    · rw [if_neg h]
      split
      · rw [show o - i=0 by omega]; rfl
      · rfl
  | some r :: rs,i,o=>by
    simp only [rtO,lkS_cons]
    rw [rtO_get]
    by_cases h : i=o
    · subst h; simp
    · rw [if_neg h]
      by_cases h2 : i + 1 ≤ o
      · rw [if_pos h2,if_pos (by omega),show o - i=(o - (i + 1)) + 1 by omega,List.getElem?_cons_succ]
      · rw [if_neg h2,if_neg (by omega)]
abbrev sO (n : Nat) (l : List (Nat × V)) (rs : List (Option Root)) (nx : Nat) : St:=⟨mkTm .dead n l,mkS (rtO rs 1),nx⟩
def okFx (m : Nat) (os : List Nat) (rt : Store) : Bool:=(List.range m).all fun j=>match os[j]? with
  | some o=>o == j + 1 || (rt o).isNone
  | none=>false
theorem okFx_spec {m : Nat} {os : List Nat} {rt : Store} (h : okFx m os rt=true) : ∀ i,0 < i→i ≤ m→os[i - 1]?=some i ∨ ∃ o,os[i - 1]?=some o ∧ rt o=none:=by
  intro i h1 h2
  have:=List.all_eq_true.1 h (i - 1) (List.mem_range.2 (by omega))
  split at this
  · rename_i o ho
    simp only [Bool.or_eq_true,beq_iff_eq,Option.isNone_iff_eq_none] at this
    rcases this with h3 | h3
    · left; rw [ho,h3]; congr 1; omega
    · exact .inr ⟨o,ho,h3⟩
  · cases this
def nodupB : List Nat→Bool
  | []=>true
  | x :: xs=>!xs.contains x && nodupB xs
theorem nodupB_spec : ∀ {l : List Nat},nodupB l=true→l.Nodup
  | [],_=>List.nodup_nil
  | x :: xs,h=>by
    simp only [nodupB,Bool.and_eq_true,Bool.not_eq_true',List.contains_eq_mem,decide_eq_false_iff_not] at h
    exact List.nodup_cons.2 ⟨h.1,nodupB_spec h.2⟩
theorem rg {E : Env} {Q : St → Prop} {k : List It} {d : V} {n : Nat} {l : List (Nat × V)} {rt : Store} {nx : Nat} (L os : List Nat) {rs : List (Option Root)} (r : Run E m Q k ⟨mkTm .dead n (L.map fun t => (t, ren rt os (lk d l t))), mkS (rtO rs 1), os.length + 1⟩)
    (hk : noD k = true := by exact rfl) (hrs : (os.map rt).map (fun x => x.map fun r => (⟨0, r.s, r.es⟩ : Root)) = rs := by exact rfl) (ha : ascB n 0 L = true := by exact rfl) (hd : nodupB os = true := by exact rfl) (hf : okFx m os rt = true := by exact rfl) : Run E m Q k ⟨mkTm d n l, rt, nx⟩ := by
  subst hrs
  refine .split (fun st' => st' = movSt os L ⟨mkTm d n l, rt, nx⟩) hk (fun R => ?_) (fun st' e => ?_)
  · obtain ⟨ρ', R'⟩ := R.moved L os (nodupB_spec hd) (okFx_spec hf)
    exact ⟨ρ', _, rfl, R'⟩
  · subst e
    refine run_at ?_ r
    have hkeep : keepT L 0 (mkTm d n l) = (List.range' 0 n).map fun t => if L.contains t then lk d l t else .dead := by rw [mkTm_range, keepT_map]
    unfold movSt
    refine st_eq ?_ ?_ rfl
    · simp only
      rw [hkeep, rens_map, List.map_map, mkTm_range]
      apply List.map_congr_left
      intro t _
      simp only [Function.comp]
      rw [lk_of]
      split
      · rfl
      · rfl
    · simp only
      funext o
      simp only [renRt, getL, mkS]
      rw [rtO_get]
      by_cases h0 : o = 0
      · subst h0; simp
      · rw [if_neg h0, if_pos (by omega)]
        simp only [List.getElem?_map, List.map_map]
        cases os[o - 1]? with
        | none => rfl
        | some x =>
          simp only [Option.map_some, Option.bind_some, Function.comp]
          cases rt x <;> rfl
end Go.Ln
set_option linter.unusedVariables false
set_option linter.unusedSimpArgs false
set_option linter.unusedSectionVars false
namespace Go.Ln
open Go
def fixN1 : Option Nat→V→V
  | some s,.isl true []=>.usl s []
  | _,v=>v
def fixN : List (Option Nat)→List V→List V
  | _,[]=>[]
  | [],v :: vs=>v :: vs
  | z :: zs,v :: vs=>fixN1 z v :: fixN zs vs
def entN (zs : List (Option Nat)) (e : Ent) : Ent:=⟨e.own,fun vs=>e.F (fixN zs vs)⟩
theorem fixN_get : ∀ {zs : List (Option Nat)} {vs : List V} {a : Nat} {v : V},vs[a]?=some v→∃ z,(fixN zs vs)[a]?=some (fixN1 z v)
  | _,[],a,v,h=>by simp at h
  | [],w :: vs,a,v,h=>⟨none,by simp only [fixN]; rw [h]; cases v <;> rfl⟩
  | z :: zs,w :: vs,0,v,h=>⟨z,by simp only [fixN,List.getElem?_cons_zero] at h ⊢; cases h; rfl⟩
  | z :: zs,w :: vs,a + 1,v,h=>by
    simp only [fixN,List.getElem?_cons_succ] at h ⊢
    exact fixN_get h
theorem fixN_len : ∀ {zs : List (Option Nat)} {vs : List V},(fixN zs vs).length=vs.length
  | _,[]=>by cases ‹List (Option Nat)› <;> rfl
  | [],w :: vs=>rfl
  | z :: zs,w :: vs=>by simp only [fixN,List.length_cons,fixN_len]
theorem fixN1_cases (z : Option Nat) (v : V) : fixN1 z v=v ∨ ∃ s,v=.isl true [] ∧ fixN1 z v=.usl s []:=by
  unfold fixN1
  split
  · exact .inr ⟨_,rfl,rfl⟩
  · exact .inl rfl
theorem argsOk_fix {w : World} {ρ : Own} {zs : List (Option Nat)} {vs : List V} {us : List Value} (h : ArgsOk w ρ vs us) : ArgsOk w ρ (fixN zs vs) us:=by
  refine ⟨by rw [fixN_len]; exact h.1,fun a v u hv hu=>?_⟩
  have hlt : a < vs.length:=by
    have:=(List.getElem?_eq_some_iff.1 hv).1
    rwa [fixN_len] at this
  have h0:=List.getElem?_eq_getElem hlt
  obtain ⟨z,hz⟩:=fixN_get (zs:=zs) h0
  rw [hz] at hv
  obtain ⟨hs,hn⟩:=h.2 a _ u h0 hu
  generalize vs[a]=x at *
  cases hv
  rcases fixN1_cases z x with e | ⟨s,e1,e2⟩
  · rw [e]; exact ⟨hs,hn⟩
  · subst e1
    rw [e2]
    refine ⟨?_,by simp [nh,nhs]⟩
    obtain ⟨g,h1,h2⟩:=hs
    have h3:=h2 0 (.isl true []) rfl
    have h4 : g 0=.slice none 0 0:=by
      generalize hg : g 0=y at h3
      generalize hA : (some (1,[(a,0)]) : Option Loc)=L at h3
      cases h3 with
      | isl0 _ _ A c hn =>
        obtain ⟨rfl,rfl⟩:=hn rfl
        rfl
    have h5 : u=.slice none 0 0:=by rw [h1]; exact h4
    subst h5
    exact ⟨fun _=>.slice none 0 0,rfl,fun k x hx=>by
      cases k with
      | zero =>
        simp only [cells,List.getElem?_cons_zero,Option.some.injEq] at hx
        subst hx
        exact .usl0 _ _ _
      | succ k=>simp [cells] at hx⟩
theorem good_N {P : Program} {G : Ground} {f : FuncId} {e : Ent} (zs : List (Option Nat)) (h : Good P G f e) : Good P G f (entN zs e):=by
  intro w ρ vs us r outs ha hi hg hF
  have key : ∀ {w' : World} {ρ' : Own},OutsOk w ρ w' ρ' e.own (fixN zs vs) us outs→OutsOk w ρ w' ρ' e.own vs us outs:=by
    intro w' ρ' ho a v u x h1 h2 h3 g hu k y z hy hz hno
    obtain ⟨zz,hzz⟩:=fixN_get (zs:=zs) h1
    rcases fixN1_cases zz v with e1 | ⟨s,e1,e2⟩
    · rw [e1] at hzz
      exact ho a v u x hzz h2 h3 g hu k y z hy hz hno
    · rw [e2] at hzz
      subst e1
      have hk : k=0:=by
        cases k with
        | zero=>rfl
        | succ k=>simp [cells] at hz
      subst hk
      exact ho a (.usl s []) u x hzz h2 h3 g hu 0 y (.usl s []) hy rfl hno
  rcases h w ρ (fixN zs vs) us r outs (argsOk_fix ha) hi hg hF with ⟨u,w',h1,ρ',h2,h3,h4⟩ | ⟨h1,h2⟩
  · exact .inl ⟨u,w',h1,ρ',h2,h3,key h4⟩
  · exact .inr ⟨h1,h2.mono fun e' w' ⟨u,h3,ρ',h4,h5,h6⟩=>⟨u,h3,ρ',h4,h5,key h6⟩⟩
end Go.Ln
set_option linter.unusedVariables false
set_option linter.unusedSimpArgs false
namespace Go.Ln
open Go
theorem slot_one {w : World} {ρ : Own} {rt : Store} {at_ : Nat→Option Loc} {v : V} {u : Value} (hv : isAggV v=false) (h : Slot w ρ rt at_ v u) : RepV w ρ rt (at_ 0) v u:=by
  obtain ⟨g,hu,hg⟩:=h
  have hc : cells v=[v]:=by cases v <;> first | rfl | (simp [isAggV] at hv)
  have:=hg 0 v (by rw [hc]; rfl)
  rw [hu]
  unfold pack
  rw [hv]
  exact this
theorem aft_refl {w : World} {ρ : Own} (hi : Inn w ρ) : Aft w ρ w ρ :=
  ⟨Wk.refl,fun b hb _=>⟨hb,rfl⟩,fun b l h=>⟨h,rfl⟩,fun b l h=>h,hi.inj,fun b o l h=>⟨(hi.lab b o l h).1,(hi.lab b o l h).2.imp id .inl⟩⟩
theorem res_int {w : World} {ρ : Own} {n : Int} : ResOk w ρ (I n) (.int .i64 n) :=
  ⟨fun _=>.int .i64 n,rfl,fun c v h=>by
    cases c with
    | zero =>
      simp [comps,I] at h
      subst h
      exact ⟨⟨fun _=>.int .i64 n,rfl,fun k x hx=>by
        cases k <;> simp [cells] at hx
        subst hx
        exact .int _ _ _⟩,by simp [nh],rfl⟩
    | succ c=>simp [comps,I] at h⟩
theorem outs_nil {w w' : World} {ρ ρ' : Own} {own : List Bool} {vs : List V} {us : List Value} : OutsOk w ρ w' ρ' own vs us []:=by
  intro a v u x h1 h2 h3
  exfalso
  have : ∀ (own : List Bool) a,outAt own [] a=none:=by
    intro own
    induction own with
    | nil=>intro a; cases a <;> rfl
    | cons b own ih=>intro a; cases b <;> cases a <;> simp [outAt,ih]
  rw [this] at h3
  cases h3
section
variable {P : Program} {G : Ground} {f : FuncId} {fn : Func} {e : Array Value→Sem Value}
theorem good_sc {g : Str → Int → Int} (hf : P.funcs[f]? = some fn) (hb : fn.body = none) (hn : (fn.name == "runtime.NumGoroutine") = false) (hx : Extern.findNext fn = none) (he : Extern.find fn = some e)
    (h : ∀ (s : ByteArray) (c : Int) (w : World), (e #[.string s, .int .u8 c]).run P w = .ok (.int .i64 (g s.data.toList c)) w) : Good P G f ⟨[false, false], entF2 (decBy str) (decBy (V.int .u8)) fun s c => some (I (g s c), [])⟩ := by
  intro w ρ vs us r os ha hi hg hF
  obtain ⟨v0, v1, s, c, rfl, q0, q1, h9⟩ := entI2 hF
  obtain rfl := dec_of q0
  obtain rfl := dec_of q1
  cases h9
  obtain ⟨hl, ha⟩ := ha
  obtain ⟨u0, u1, rfl⟩ : ∃ u0 u1, us = [u0, u1] := by
    match us, hl with
    | [u0, u1], _ => exact ⟨u0, u1, rfl⟩
  have h0 := slot_one rfl (ha 0 _ u0 rfl rfl).1
  have h1 := slot_one rfl (ha 1 _ u1 rfl rfl).1
  have e0 : u0 = .string ⟨s.toArray⟩ := by
    have h0' : RepV w ρ rt0 _ (.str ⟨s.toArray⟩) u0 := h0
    cases h0'; rfl
  have e1 : u1 = .int .u8 c := by cases h1; rfl
  subst e0 e1
  simp only [beq_eq_false_iff_ne, ne_eq] at hn
  refine .inl ⟨.int .i64 (g s c), w, ?_, ρ, aft_refl hi, res_int, outs_nil⟩
  have := h ⟨s.toArray⟩ c w
  simp [callFunc, hf, hb, hn, hx, he, this]
end
theorem u8_inj (a b : Int) (h : V.int .u8 a=.int .u8 b) : a=b:=by simpa using h
def xIndexByteString (s : Str) (c : Int) : Option Int:=some (Lib.indexByte s c.toNat.toUInt8)
def xCountString (s : Str) (c : Int) : Option Int:=some ((Lib.countByte s c.toNat.toUInt8 : Nat) : Int)
end Go.Ln
set_option linter.unusedVariables false
set_option linter.unusedSimpArgs false
set_option linter.unusedSectionVars false
namespace Go.Ln
open Go Go.ChangeShapes Go.WideShapes Go.RowKit
def ρ0 : Own:=fun _=>none
def R2 (w : World) (vs : List V) (cs : List Value) : Prop:=vs.length=cs.length ∧ ∀ (k : Nat) x u,vs[k]?=some x→cs[k]?=some u→RepV w ρ0 rt0 none x u
def R2s (w : World) (cs : List Value) : Nat→List (List V)→Prop
  | off,[]=>cs.length=off
  | off,p :: ps=>R2 w p ((cs.drop off).take p.length) ∧ R2s w cs (off + p.length) ps
theorem R2s.join {w : World} {cs : List Value} : ∀ {ps : List (List V)} {off : Nat},off ≤ cs.length→R2s w cs off ps→R2 w ps.flatten (cs.drop off)
  | [],off,ho,h=>by
    simp only [R2s] at h
    subst h
    exact ⟨by simp,fun k x u h1=>by simp at h1⟩
  | p :: ps,off,ho,⟨h1,h2⟩=>by
    have hl : p.length + off ≤ cs.length:=by
      have:=h1.1
      rw [List.length_take,List.length_drop] at this
      omega
    have ih:=R2s.join (by omega) h2
    refine ⟨?_,fun k x u hx hu=>?_⟩
    · have:=ih.1
      simp only [List.flatten_cons,List.length_append,List.length_drop] at this ⊢
      omega
    · rw [List.flatten_cons] at hx
      by_cases hk : k < p.length
      · rw [List.getElem?_append_left hk] at hx
        refine h1.2 k x u hx ?_
        rw [List.getElem?_take_of_lt hk]
        exact hu
      · rw [List.getElem?_append_right (by omega)] at hx
        refine ih.2 (k - p.length) x u hx ?_
        rw [List.getElem?_drop] at hu ⊢
        rw [← hu]
        congr 1
        omega
def Rd (P : Program) (t : TypeId) {A : Type} (f : A→V) (ok : A→Prop) : Prop :=
  ∀ {H : Type} {enc : TypeId × Value→H} {w : World} {sp : Nat→Bool} {held : Bool} {n : Nat} {cs : List Value} {x : DataW H × List MemPlace},
    DataW.trod enc P w 0 sp held n t cs=some x→∃ a,ok a ∧ nh (f a) ∧ R2 w (cells (f a)) cs
def I64 (n : Int) : Prop:=-9223372036854775808 ≤ n ∧ n ≤ 9223372036854775807
def okS (s : Str) : Prop:=s.length ≤ maxLen
def okB (b : Bool) : Prop:=True
def okL {A : Type} (ok : A→Prop) (xs : List A) : Prop:=xs.length ≤ maxLen ∧ ∀ x ∈ xs,ok x
theorem R2_one {w : World} {v : V} {u : Value} (h : RepV w ρ0 rt0 none v u) : R2 w [v] [u]:=by
  refine ⟨rfl,fun k x y hx hy=>?_⟩
  match k with
  | 0=>simp at hx hy; subst hx; subst hy; exact h
  | k + 1=>simp at hx
theorem rd_int {P : Program} {t : TypeId} (ht : P.underlying t=some (.int .i64)) : Rd P t I I64:=by
  intro H enc w sp held n cs x h
  obtain ⟨m,rfl,_,hw⟩:=DataW.trod_int ht h
  refine ⟨m,?_,by simp [I,nh],R2_one (.int ..)⟩
  simp only [Lit.wf,Bool.and_eq_true,decide_eq_true_eq] at hw
  have e1 : IntKind.i64.min=-9223372036854775808:=by decide
  have e2 : IntKind.i64.max=9223372036854775807:=by decide
  rw [e1,e2] at hw
  exact hw
def okI (k : IntKind) (n : Int) : Prop:=k.min ≤ n ∧ n ≤ k.max
theorem rd_intk {P : Program} {t : TypeId} {k : IntKind} (ht : P.underlying t=some (.int k)) : Rd P t (V.int k) (okI k):=by
  intro H enc w sp held n cs x h
  obtain ⟨m,rfl,_,hw⟩:=DataW.trod_int ht h
  refine ⟨m,?_,by simp [nh],R2_one (.int ..)⟩
  simp only [Lit.wf,Bool.and_eq_true,decide_eq_true_eq] at hw
  exact hw
theorem rd_bool {P : Program} {t : TypeId} (ht : P.underlying t=some .bool) : Rd P t B okB:=by
  intro H enc w sp held n cs x h
  obtain ⟨m,rfl,_⟩:=DataW.trod_bool ht h
  exact ⟨m,trivial,by simp [B,nh],R2_one (.bool ..)⟩
theorem rd_str {P : Program} {t : TypeId} (ht : P.underlying t=some .string) : Rd P t str okS:=by
  intro H enc w sp held n cs x h
  obtain ⟨s,rfl,_,hs⟩:=DataW.trod_string ht h
  refine ⟨s.data.toList,by show s.data.toList.length ≤ maxLen; rw [Array.length_toList]; exact hs,by simp [str,nh],R2_one ?_⟩
  have : str s.data.toList=.str s:=by unfold str; rw [Array.toArray_toList]
  rw [show str s.data.toList=V.str s from this]
  exact .str ..
theorem choose_lt {α : Type} [Inhabited α] {n : Nat} {p : Nat→α→Prop} (h : ∀ i,i < n→∃ a,p i a) : ∃ f : Nat→α,∀ i,i < n→p i (f i):=by
  classical
  refine ⟨fun i=>if hi : i < n then (h i hi).choose else default,fun i hi=>?_⟩
  simp only [dif_pos hi]
  exact (h i hi).choose_spec
theorem rd_slice {P : Program} {t e : TypeId} {A : Type} {f : A→V} {ok : A→Prop} (ht : P.underlying t=some (.slice e)) (hr : Rd P e f ok) (hp : (0 < P.cellsOf e)) : Rd P t (fun xs=>.isl false (xs.map f)) (okL ok):=by
  intro H enc w sp held n cs x h
  rcases Go.Deep.open_slice ht h with ⟨rfl,_⟩ | ⟨a,len,cap,m,k,D,Pl,rfl,hb,hl,hm,hmm,_,hx⟩
  · refine ⟨[],⟨by simp,by simp⟩,by simp [nh,nhs],R2_one ?_⟩
    exact .isl0 _ _ _ _ (by simp)
  have hlm : len ≤ m:=by rw [hmm]; split <;> omega
  by_cases h0 : len=0
  · subst h0
    refine ⟨[],⟨by simp,by simp⟩,by simp [nh,nhs],R2_one ?_⟩
    exact .isl0 _ _ _ _ (by simp)
  have hq : ∀ i,i < len→∃ y : A × List Value,ok y.1 ∧ nh (f y.1) ∧ R2 w (cells (f y.1)) y.2 ∧ w.cells? 0 (a.add (i * P.cellsOf e)) (P.cellsOf e)=some y.2:=by
    intro i hi
    obtain ⟨cs',h1,h2⟩:=hx i (by omega)
    obtain ⟨y,hy1,hy2,hy3⟩:=hr h2
    exact ⟨(y,cs'),hy1,hy2,hy3,h1⟩
  have : Inhabited (A × List Value):=⟨(hq 0 (by omega)).choose⟩
  obtain ⟨F,hF⟩:=choose_lt hq
  have hsz : ∀ i,i < len→(cells (f (F i).1)).length=P.cellsOf e:=by
    intro i hi
    obtain ⟨_,_,h3,h4⟩:=hF i hi
    obtain ⟨_,h5,_⟩:=World.cells?_some h4
    rw [h3.1,h5]
  have hcell : ∀ i,i < len→∀ k u,(F i).2[k]?=some u→w.cell? (a.add (i * P.cellsOf e + k))=some u:=by
    intro i hi k u hu
    obtain ⟨_,_,h3,h4⟩:=hF i hi
    obtain ⟨_,h5,h6⟩:=World.cells?_some h4
    have hk : k < P.cellsOf e:=by rw [← h5]; exact (List.getElem?_eq_some_iff.1 hu).1
    have:=h6 k hk
    rw [hu] at this
    rw [← this]
    congr 1
    simp only [Addr.add]
    by_cases h7 : i * P.cellsOf e=0 <;> by_cases h8 : k=0 <;> simp [h7,h8] <;> omega
  have hspot : a.spot=none ∧ a.block < w.heap.size:=by
    have hlen : (F 0).2.length=P.cellsOf e:=by
      have:=(hF 0 (by omega)).2.2.1.1
      rw [← this]; exact hsz 0 (by omega)
    obtain ⟨u,hu⟩ : ∃ u,(F 0).2[0]?=some u:=⟨(F 0).2[0],List.getElem?_eq_getElem (by omega)⟩
    have h9:=hcell 0 (by omega) 0 u hu
    simp only [Nat.zero_mul,Nat.add_zero,Addr.add,if_true,World.cell?] at h9
    split at h9
    · rename_i c T fr hh
      refine ⟨?_,(Array.getElem?_eq_some_iff.1 hh).1⟩
      cases hs : a.spot with
      | none=>rfl
      | some _=>simp [hs] at h9
    · cases h9
  obtain ⟨b,off,spot⟩:=a
  obtain ⟨rfl,hblk⟩:=hspot
  refine ⟨(List.range len).map fun i=>(F i).1,⟨by simp; omega,?_⟩,?_,R2_one ?_⟩
  · intro y hy
    simp only [List.mem_map,List.mem_range] at hy
    obtain ⟨i,hi,rfl⟩:=hy
    exact (hF i hi).1
  · simp only [nh,nhs_iff,List.mem_map,List.mem_range]
    rintro v ⟨y,⟨i,hi,rfl⟩,rfl⟩
    exact (hF i hi).2.1
  · have hl2 : len=(((List.range len).map fun i=>(F i).1).map f).length:=by simp
    have key : RepV w ρ0 rt0 none (.isl false (((List.range len).map fun i=>(F i).1).map f)) (.slice (some ⟨b,off,none⟩) (((List.range len).map fun i=>(F i).1).map f).length cap):=by
      have get : ∀ {i : Nat} {e' : V},(((List.range len).map fun i=>(F i).1).map f)[i]?=some e'→i < len ∧ e'=f (F i).1:=by
        intro i e' he
        simp only [List.getElem?_map,Option.map_eq_some_iff] at he
        obtain ⟨y,⟨j,hj,rfl⟩,rfl⟩:=he
        obtain ⟨h1,h2⟩:=List.getElem?_eq_some_iff.1 hj
        simp at h1 h2
        subst h2
        exact ⟨h1,rfl⟩
      refine .isl _ _ b off cap (P.cellsOf e) (fun i k=>((F i).2[k]?).getD undef) (by simpa using hl) (by simp; omega) rfl hblk ?_ ?_ ?_
      · intro i e' he
        obtain ⟨hi,rfl⟩:=get he
        exact hsz i hi
      · intro i e' k x' he hx'
        obtain ⟨hi,rfl⟩:=get he
        have h3:=(hF i hi).2.2.1
        have hk : k < (F i).2.length:=by rw [← h3.1]; exact (List.getElem?_eq_some_iff.1 hx').1
        rw [List.getElem?_eq_getElem hk]
        have:=hcell i hi k _ (List.getElem?_eq_getElem hk)
        simp only [Addr.add] at this
        split at this
        · rename_i hz
          simp only [Nat.add_eq_zero_iff] at hz
          simpa [hz] using this
        · exact this
      · intro i e' k x' he hx'
        obtain ⟨hi,rfl⟩:=get he
        have h3:=(hF i hi).2.2.1
        have hk : k < (F i).2.length:=by rw [← h3.1]; exact (List.getElem?_eq_some_iff.1 hx').1
        rw [List.getElem?_eq_getElem hk]
        exact h3.2 k x' _ hx' (List.getElem?_eq_getElem hk)
    rw [← hl2] at key
    exact key
theorem rd_fields {H : Type} {enc : TypeId × Value → H} {P : Program} {t : TypeId} {fs : Array Field} (ht : P.underlying t = some (.struct fs)) {w : World} {sp : Nat → Bool} {held : Bool} {n : Nat} {cs : List Value} {x : DataW H × List MemPlace} (h : DataW.trod enc P w 0 sp held n t cs = some x) :
    cs.length = P.cellsOf t ∧ ∀ (i : Nat) (f : Field), fs[i]? = some f → ∃ n y, DataW.trod enc P w 0 sp held n f.type ((cs.drop f.offset).take (P.cellsOf f.type)) = some y := by
  obtain ⟨xs, n, _, _, hl, hlen, hf⟩ := DataW.trod_struct ht h
  refine ⟨hl, fun i f hi => ?_⟩
  have h1 := hf i f hi
  have hi2 : i < fs.size := (Array.getElem?_eq_some_iff.1 hi).1
  exact ⟨n, xs[i]'(by omega), by rw [h1]; exact List.getElem?_eq_getElem (by omega)⟩
theorem rd_done {w : World} {v : V} {ps : List (List V)} {cs : List Value} (hv : cells v=ps.flatten) (h : R2s w cs 0 ps) : R2 w (cells v) cs:=by
  have:=R2s.join (Nat.zero_le _) h
  rw [List.drop_zero,← hv] at this
  exact this
theorem slot_of {w : World} {v : V} {u : Value} (ha : isAggV v=true ↔ ∃ cs,u=.agg cs) (h : R2 w (cells v) u.cells.toList) : Slot w ρ0 rt0 nowhere v u:=by
  refine ⟨fun k=>(u.cells[k]?).getD undef,?_,fun k x hx=>?_⟩
  · unfold pack
    cases hv : isAggV v with
    | true =>
      obtain ⟨cs,rfl⟩:=ha.1 hv
      have hl:=h.1
      simp only [Value.cells,Array.length_toList] at hl ⊢
      simp only [if_true,Value.agg.injEq]
      apply Array.ext
      · simp [arrOf,hl]
      · intro i h1 h2
        simp [arrOf,Array.getElem?_eq_getElem h1]
    | false =>
      have hu : u.cells=#[u]:=by
        cases u <;> first | rfl | (exfalso; have:=ha.2 ⟨_,rfl⟩; rw [hv] at this; cases this)
      simp [hu]
  · have hk : k < u.cells.toList.length:=by rw [← h.1]; exact (List.getElem?_eq_some_iff.1 hx).1
    have:=h.2 k x _ hx (List.getElem?_eq_getElem hk)
    show RepV w ρ0 rt0 none x ((u.cells[k]?).getD undef)
    rw [Array.getElem?_eq_getElem (by simpa using hk)]
    simpa using this
def Given (P : Program) (w : World) : List TypeId→List V→List Value→Prop
  | [],[],[]=>True
  | _ :: ts,v :: vs,u :: us=>(nh v ∧ Slot w ρ0 rt0 nowhere v u) ∧ Given P w ts vs us
  | _,_,_=>False
theorem Given.len {P : Program} {w : World} : ∀ {ts vs us},Given P w ts vs us→vs.length=us.length
  | [],[],[],_=>rfl
  | _ :: ts,v :: vs,u :: us,h=>by simp [Given.len h.2]
theorem Given.get {P : Program} {w : World} : ∀ {ts vs us},Given P w ts vs us→∀ (a : Nat) v u,vs[a]?=some v→us[a]?=some u→nh v ∧ Slot w ρ0 rt0 nowhere v u
  | [],[],[],_,a,v,u,h,_=>by simp at h
  | _ :: ts,v :: vs,u :: us,h,0,v',u',h1,h2=>by simp at h1 h2; subst h1; subst h2; exact h.1
  | _ :: ts,v :: vs,u :: us,h,a + 1,v',u',h1,h2=>Given.get h.2 a v' u' (by simpa using h1) (by simpa using h2)
theorem argsOk {P : Program} {w : World} {ts : List TypeId} {vs : List V} {us : List Value} (h : Given P w ts vs us) : ArgsOk w ρ0 vs us :=
  ⟨h.len,fun a v u hv hu=>by
    obtain ⟨h1,g,h2,h3⟩:=h.get a v u hv hu
    exact ⟨⟨g,h2,fun k x hx=>(h3 k x hx).anyN⟩,h1⟩⟩
theorem inn0 {w : World} : Inn w ρ0:=⟨fun b b' L h=>(by cases h),fun b o l h=>(by cases h),fun b l h=>(by cases h)⟩
def G0 : Ground:=⟨0,fun _=>True,fun _ _ _ _ _=>trivial⟩
theorem ok0 {w : World} : G0.ok w ρ0:=⟨Nat.zero_le _,fun b h=>rfl,trivial⟩
theorem calls_of_good {P : Program} {f : FuncId} {fn : Func} {c : Code} {n : Nat} {e : Ent} {W : World} {ts : List TypeId} {vs : List V} {args : Array Value} {b : Bool} (hf : P.funcs[f]? = some fn) (F : Fits fn c n) (hg : Good P G0 f e) (ha : Given P W ts vs args.toList) (hF : e.F vs = some (B b, [])) :
    Calls P f args W fun r W' => r = .returned (.bool b) ∧ Below W.heap.size W W' := by
  rcases hg W ρ0 vs args.toList (B b) [] (argsOk ha) inn0 ok0 hF with ⟨u, w', h1, _⟩ | ⟨_, h2⟩
  · rw [run_enter hf F] at h1
    cases h1
  · refine h2.mono fun r W' hr => ?_
    obtain ⟨u, rfl, ρ', ha, ⟨p, hp, hc⟩, _⟩ := hr
    obtain ⟨hs, _, _⟩ := hc 0 (B b) rfl
    obtain ⟨g, hg1, hg2⟩ := hs
    have h3 := hg2 0 (B b) rfl
    refine ⟨?_, ha.wk.os, ha.wk.tape, ha.wk.out, ha.wk.size, fun k hk => (ha.fr k rfl hk).2⟩
    have h4 : u = p 0 := hp
    have h5 : p 0 = g 0 := hg1
    have h6 : g 0 = .bool b := by
      have h7 : RepV W' ρ' rt0 _ (.bool b) (g 0) := h3
      generalize g 0 = z at h7
      cases h7
      rfl
    rw [h4, h5, h6]
section
variable {H : Type} {enc : TypeId × Value→H} {P : Program}
theorem trodAll_below (hl : laidOutB P=true) {W W' : World} (hb : Below W.heap.size W W') {sp : Nat→Bool} : ∀ {ts : List TypeId} {us : List Value} {ds : List (DataW H)} {ps : List MemPlace},(∀ t ∈ ts,P.readableRec t=true ∧ t < P.types.size)→(∀ x ∈ ps,x.block < W.heap.size ∧ sp x.block=true)→DataW.TrodAll enc P W 0 (fun _=>true) true ts us ds ps→DataW.TrodAll enc P W' 0 sp true ts us ds ps
  | [],us,ds,ps,_,_,h=>by
    obtain ⟨rfl,rfl,rfl⟩:=trodAll_nil h
    exact rfl
  | t :: ts,us,ds,ps,ht,hp,h=>by
    obtain ⟨u,us',d,ds',p,q,rfl,rfl,rfl,h1,h2⟩:=trodAll_cons h
    have:=ht t (by simp)
    refine ⟨p,q,WideElems.Trod_stays hl this.1 this.2 h1 (fun x hx=>hb.same (hp x (by simp [hx])).1) (fun x hx=>(hp x (by simp [hx])).2),trodAll_below hl hb (fun t' ht'=>ht t' (by simp [ht'])) (fun x hx=>hp x (by simp [hx])) h2,rfl⟩
theorem trodAll_len {W : World} {sp : Nat→Bool} : ∀ {ts : List TypeId} {us : List Value} {ds : List (DataW H)} {ps : List MemPlace},DataW.TrodAll enc P W 0 sp true ts us ds ps→ds.length=ts.length
  | [],us,ds,ps,h=>by
    obtain ⟨rfl,rfl,rfl⟩:=trodAll_nil h
    rfl
  | t :: ts,us,ds,ps,h=>by
    obtain ⟨u,us',d,ds',p,q,rfl,rfl,rfl,h1,h2⟩:=trodAll_cons h
    simp [trodAll_len h2]
theorem post_law (hl : laidOutB P = true) {fn : Func} {s : ChangeSpec} {apart fresh handsOn again : Bool} {W W' : World} {args : Array Value} {ds gs : List (DataW H)} {before : List MemPlace} {tb : TypeId}
    (hread : ∀ t ∈ fn.params.toList, P.readableRec t = true ∧ t < P.types.size) (hres : fn.resultTypes = #[tb]) (hb : P.underlying tb = some .bool) (hs : s.vars = [])
    (hfn : ∀ ds : List (DataW H), ds.length = fn.params.toList.length → s.fn H (ds ++ []) = { results := [.lit (.bool true)], args := ds })
    (hW : DataW.Whole enc P fn.params.toList s.vars apart W args.toList ds gs before) (hB : Below W.heap.size W W') : s.post enc P fn apart fresh handsOn again W args (.bool true) W' := by
  have hW0 := hW
  have hlt : ∀ p ∈ before, p.block < W.heap.size := fun p hp => by simpa using hW.lt p hp
  obtain ⟨p, q, hA, hV, rfl, hz, hn⟩ := hW
  rw [hs] at hV
  have hgs : gs = [] ∧ q = [] := by
    cases gs with
    | nil => exact ⟨rfl, hV⟩
    | cons _ _ => exact hV.elim
  obtain ⟨rfl, rfl⟩ := hgs
  simp only [List.append_nil] at hlt hz hn
  have hf := hfn ds (trodAll_len hA)
  have hr : ∀ (b : Nat) (sp : Nat → Bool) (hd : Bool), DataW.TrodAll enc P W' b sp hd fn.resultTypes.toList ((Value.bool true).resultList fn.resultTypes.size) (s.fn H (ds ++ [])).results [] := by
    intro b sp hd
    rw [hf, hres]
    exact trodAll_mk1 (shut_bool hb true)
  have ha : ∀ sp : Nat → Bool, (∀ x ∈ p, sp x.block = true) → DataW.TrodAll enc P W' 0 sp true fn.params.toList args.toList ds p := fun sp hsp => trodAll_below hl hB hread (fun x hx => ⟨hlt x hx, hsp x hx⟩) hA
  refine ⟨ds, [], p ++ [], [], p, [], hW0, hr _ _ _, ?_, ?_, hB.frame _, fun _ => ?_⟩
  · rw [hf]
    exact ha _ (fun x hx => by simpa using hlt x hx)
  · rw [hf, hs]
    exact rfl
  · refine ⟨ok_one hres rfl (okWide_bool_mk hb true), _, [], ([] ++ p) ++ [], ⟨[] ++ p, [], trodAll_append (ha _ (fun _ _ => rfl)) (hr _ _ _), ?_, rfl, ?_, ?_⟩, ?_⟩
    · rw [hs]; exact rfl
    · intro b off hp
      have hp : MemPlace.cell b off ∈ p := by simpa using hp
      rw [hB.frozen (hlt _ hp)]
      exact hz b off hp
    · intro ha
      simpa using hn ha
    · intro x hx _
      simpa using hx
end
section
variable {H : Type} {enc : TypeId × Value→H} {P : Program} {W : World} {r : Reach} {b0 : Nat} {t : TypeId} {v : Value} {d : DataW H} {p : List MemPlace} {sp : Nat→Bool} {held : Bool} {A : Type} {f : A→V} {ok : A→Prop}
theorem arg_agg {fs : Array Field} (ht : P.underlying t=some (.struct fs)) (hr : Rd P t f ok) (hf : ∀ a,isAggV (f a)=true) (hv : Value.okWide P W r b0 t v) (h : DataW.Trod enc P W 0 sp held t v d p) : ∃ a,ok a ∧ nh (f a) ∧ Slot W ρ0 rt0 nowhere (f a) v:=by
  obtain ⟨n,hn⟩:=h
  obtain ⟨a,h1,h2,h3⟩:=hr hn
  refine ⟨a,h1,h2,slot_of ⟨fun _=>?_,fun _=>hf a⟩ h3⟩
  simp only [Value.okWide,ht] at hv
  obtain ⟨cs,h4,_⟩:=hv
  exact ⟨cs,h4⟩
theorem arg_cell (hn : ∀ cs,v ≠ .agg cs) (hr : Rd P t f ok) (hf : ∀ a,isAggV (f a)=false) (h : DataW.Trod enc P W 0 sp held t v d p) : ∃ a,ok a ∧ nh (f a) ∧ Slot W ρ0 rt0 nowhere (f a) v:=by
  obtain ⟨n,hn'⟩:=h
  obtain ⟨a,h1,h2,h3⟩:=hr hn'
  refine ⟨a,h1,h2,slot_of ⟨fun h=>?_,fun ⟨cs,h⟩=>(hn cs h).elim⟩ h3⟩
  rw [hf a] at h
  cases h
theorem arg_int (ht : P.underlying t=some (.int .i64)) (hv : Value.okWide P W r b0 t v) (h : DataW.Trod enc P W 0 sp held t v d p) : ∃ a,I64 a ∧ nh (I a) ∧ Slot W ρ0 rt0 nowhere (I a) v :=
  arg_cell (fun cs e=>by obtain ⟨m,rfl⟩:=okWide_int ht hv; cases e) (rd_int ht) (fun _=>rfl) h
theorem arg_bool (ht : P.underlying t=some .bool) (hv : Value.okWide P W r b0 t v) (h : DataW.Trod enc P W 0 sp held t v d p) : ∃ a,okB a ∧ nh (B a) ∧ Slot W ρ0 rt0 nowhere (B a) v :=
  arg_cell (fun cs e=>by obtain ⟨m,rfl⟩:=okWide_bool ht hv; cases e) (rd_bool ht) (fun _=>rfl) h
theorem arg_str (ht : P.underlying t=some .string) (hv : Value.okWide P W r b0 t v) (h : DataW.Trod enc P W 0 sp held t v d p) : ∃ a,okS a ∧ nh (str a) ∧ Slot W ρ0 rt0 nowhere (str a) v :=
  arg_cell (fun cs e=>by obtain ⟨m,rfl⟩:=okWide_string ht hv; cases e) (rd_str ht) (fun _=>rfl) h
theorem arg_slice {e : TypeId} (ht : P.underlying t=some (.slice e)) (hr : Rd P e f ok) (hp : 0 < P.cellsOf e) (hv : Value.okWide P W r b0 t v) (h : DataW.Trod enc P W 0 sp held t v d p) : ∃ a,okL ok a ∧ nh (.isl false (a.map f)) ∧ Slot W ρ0 rt0 nowhere (.isl false (a.map f)) v :=
  arg_cell (fun cs e=>by simp only [Value.okWide,ht,Cell.okWide] at hv; subst e; simp [Cell.ok,ht] at hv) (rd_slice ht hr hp) (fun _=>rfl) h
end
end Go.Ln
set_option linter.unusedVariables false
set_option linter.unusedSimpArgs false
namespace Go.Ln
open Go
theorem w64_id {n : Int} (h : -9223372036854775808 ≤ n) (h' : n < 9223372036854775808) : w64 n=n:=by
  show (if (true && decide (n % (2 ^ 64 : Int) ≥ (2 ^ 63 : Int)))=true then n % (2 ^ 64 : Int) - (2 ^ 64 : Int) else n % (2 ^ 64 : Int))=n
  have e : (2 : Int) ^ 64=18446744073709551616:=by decide
  have e2 : (2 : Int) ^ 63=9223372036854775808:=by decide
  rw [e,e2,Bool.true_and]
  split
  · rename_i hd
    have:=of_decide_eq_true hd
    omega
  · rename_i hd
    have : ¬ (n % 18446744073709551616 ≥ 9223372036854775808):=fun h9=>hd (decide_eq_true h9)
    omega
theorem w64_nat {n : Nat} (h : n < 9223372036854775808) : w64 (n : Int)=n:=w64_id (by omega) (by omega)
theorem w64_succ {n : Nat} (h : n < 9223372036854775807) : w64 ((n : Int) + 1)=((n + 1 : Nat) : Int):=w64_id (by omega) (by omega)
theorem getI_nat {α : Type} {xs : List α} {i : Nat} : getI xs (i : Int)=xs[i]?:=by
  unfold getI
  rw [if_pos (by omega),Int.toNat_natCast]
theorem setI_nat {α : Type} {xs : List α} {i : Nat} {x : α} : setI xs (i : Int) x=xs.set i x:=by
  unfold setI
  rw [Int.toNat_natCast]
theorem lt_len {α : Type} {xs : List α} {i : Nat} : decide ((i : Int) < len xs)=decide (i < xs.length):=by
  simp [len]
@[simp] theorem bindJ_some_inl {ρ υ : Type} {r : ρ} {k : υ→Option ρ} : bindJ (some (.inl r)) k=some r:=rfl
@[simp] theorem bindJ_some_inr {ρ υ : Type} {u : υ} {k : υ→Option ρ} : bindJ (some (.inr u)) k=k u:=rfl
@[simp] theorem bindL_some_inl {ρ υ ω : Type} {r : ρ} {k : υ→Option (ρ ⊕ ω)} : bindL (some (.inl r)) k=some (.inl r):=rfl
@[simp] theorem bindL_some_inr {ρ υ ω : Type} {u : υ} {k : υ→Option (ρ ⊕ ω)} : bindL (some (.inr u)) k=k u:=rfl
theorem str_beq {x y : Str} : (x == y)=decide (x=y):=by
  by_cases h : x=y
  · subst h; simp
  · rw [beq_eq_false_iff_ne.2 h]; simp [h]
theorem int_beq {x y : Int} : (x == y)=decide (x=y):=by
  by_cases h : x=y
  · subst h; simp
  · rw [beq_eq_false_iff_ne.2 h]; simp [h]
theorem int_bne {x y : Int} : (x != y)=!decide (x=y):=by rw [bne,int_beq]
def allB {α β : Type} (p : α→β→Bool) : List α→List β→Bool
  | x :: xs,y :: ys=>p x y && allB p xs ys
  | _,_=>true
theorem eqLoop {α β ρ : Type} {L : Int → Option (ρ ⊕ Unit)} {a : List α} {b : List β} {p : α → β → Option Bool} {r : ρ} {q : α → β → Bool} (hp : ∀ x ∈ a, ∀ y, p x y = some (q x y))
    (hL : ∀ x, L x = bif decide (x < len a) then (getI a x).bind fun e => (getI b x).bind fun f => (p e f).bind fun c => bif !c then some (.inl r) else L (w64 (x + 1)) else some (.inr ()))
    (hl : a.length = b.length) (hb : a.length < 9223372036854775807) : L 0 = some (bif allB q a b then .inr () else .inl r) := by
  have key : ∀ (k i : Nat), i + k = a.length → L (i : Int) = some (bif allB q (a.drop i) (b.drop i) then .inr () else .inl r) := by
    intro k
    induction k with
    | zero =>
      intro i hi
      rw [hL, lt_len, decide_eq_false (by omega), cond_false, List.drop_eq_nil_of_le (by omega), List.drop_eq_nil_of_le (by omega)]
      rfl
    | succ k ih =>
      intro i hi
      have h1 : i < a.length := by omega
      have h2 : i < b.length := by omega
      rw [hL, lt_len, decide_eq_true h1, cond_true, getI_nat, getI_nat, List.getElem?_eq_getElem h1, List.getElem?_eq_getElem h2, Option.bind_some, Option.bind_some, hp _ (List.getElem_mem h1), Option.bind_some, w64_succ (by omega), ih (i + 1) (by omega), List.drop_eq_getElem_cons h1, List.drop_eq_getElem_cons h2, allB]
      cases q a[i] b[i] <;> rfl
  have := key a.length 0 (by omega)
  simpa using this
theorem copyLoop {α β ρ : Type} {L : Int × List β → Option (ρ ⊕ List β)} {a : List α} {g : α → Option β} {h : α → β} (hg : ∀ x ∈ a, g x = some (h x))
    (hL : ∀ x, L x = bif decide (x.1 < len a) then (getI a x.1).bind fun e => (g e).bind fun y => (getI x.2 x.1).bind fun _ => L (w64 (x.1 + 1), setI x.2 x.1 y) else some (.inr x.2))
    (hb : a.length < 9223372036854775807) {z : List β} (hz : z.length = a.length) : L (0, z) = some (.inr (a.map h)) := by
  have key : ∀ (k i : Nat) (z : List β), i + k = a.length → z.length = a.length → L ((i : Int), z) = some (.inr (z.take i ++ (a.drop i).map h)) := by
    intro k
    induction k with
    | zero =>
      intro i z hi hz
      rw [hL, lt_len, decide_eq_false (by omega), cond_false, List.drop_eq_nil_of_le (by omega), List.take_of_length_le (by omega)]
      simp
    | succ k ih =>
      intro i z hi hz
      have h1 : i < a.length := by omega
      have h2 : i < z.length := by omega
      rw [hL, lt_len, decide_eq_true h1, cond_true, getI_nat, getI_nat, List.getElem?_eq_getElem h1, List.getElem?_eq_getElem h2, Option.bind_some, hg _ (List.getElem_mem h1), Option.bind_some, Option.bind_some, w64_succ (by omega), setI_nat, ih (i + 1) _ (by omega) (by simpa using hz), List.drop_eq_getElem_cons h1]
      congr 2
      rw [List.map_cons, List.take_add_one]
      simp [h2, List.take_set_of_le (Nat.le_refl i)]
  have := key a.length 0 z (by omega) hz
  simpa using this
theorem szLoop {α : Type} {L : Int × Int → Option (Int ⊕ Int)} {a : List α} {s : α → Int → Option Int} {ok : α → Prop} {M : Int} (hM : M ≤ 9223372036854775807) (hs : ∀ x ∈ a, ∀ l, 0 ≤ l → l ≤ M → ∃ r, s x l = some r ∧ (r < 0 ∨ (0 ≤ r ∧ r ≤ l ∧ ok x)))
    (hL : ∀ x, L x = bif decide (x.2 < len a) then (getI a x.2).bind fun e => (s e x.1).bind fun r => bif decide (r < 0) then some (.inl (-1)) else L (r, w64 (x.2 + 1)) else some (.inr x.1))
    (hb : a.length < 9223372036854775807) {l : Int} (h0 : 0 ≤ l) (h1 : l ≤ M) : ∃ y, L (l, 0) = some y ∧ (y = .inl (-1) ∨ ∃ r, y = .inr r ∧ 0 ≤ r ∧ r ≤ l ∧ ∀ x ∈ a, ok x) := by
  have key : ∀ (k i : Nat) (l : Int), i + k = a.length → 0 ≤ l → l ≤ M → ∃ y, L (l, (i : Int)) = some y ∧ (y = .inl (-1) ∨ ∃ r, y = .inr r ∧ 0 ≤ r ∧ r ≤ l ∧ ∀ x ∈ a.drop i, ok x) := by
    intro k
    induction k with
    | zero =>
      intro i l hi h0 h1
      refine ⟨.inr l, ?_, .inr ⟨l, rfl, h0, Int.le_refl _, ?_⟩⟩
      · rw [hL, lt_len, decide_eq_false (by omega), cond_false]
      · rw [List.drop_eq_nil_of_le (by omega)]; simp
    | succ k ih =>
      intro i l hi h0 h1
      have hi1 : i < a.length := by omega
      obtain ⟨r, hr, hr2⟩ := hs _ (List.getElem_mem hi1) l h0 h1
      rw [hL, lt_len, decide_eq_true hi1, cond_true, getI_nat, List.getElem?_eq_getElem hi1, Option.bind_some, hr, Option.bind_some]
      rcases hr2 with hr2 | ⟨hr2, hr3, hok⟩
      · rw [decide_eq_true hr2, cond_true]
        exact ⟨_, rfl, .inl rfl⟩
      · rw [decide_eq_false (by omega), cond_false, w64_succ (by omega)]
        obtain ⟨y, hy, hy2⟩ := ih (i + 1) r (by omega) hr2 (by omega)
        refine ⟨y, hy, ?_⟩
        rcases hy2 with h | ⟨r', h3, h4, h5, h6⟩
        · exact .inl h
        · refine .inr ⟨r', h3, h4, by omega, ?_⟩
          intro x hx
          rw [List.drop_eq_getElem_cons hi1, List.mem_cons] at hx
          rcases hx with rfl | hx
          · exact hok
          · exact h6 x hx
  obtain ⟨y, hy, hy2⟩ := key a.length 0 l (by omega) h0 h1
  exact ⟨y, hy, by simpa using hy2⟩
theorem w64_sub {l : Int} {n : Nat} (h0 : 0 ≤ l) (h1 : l ≤ 9223372036854775807) (hn : n ≤ 9223372036854775807) : w64 (l - (n : Int))=l - n:=w64_id (by omega) (by omega)
theorem mkI_ok {α : Type} {b : Nat} {z : α} {n : Nat} (h : n * b ≤ 1099511627776) (h2 : n ≤ 1099511627776) : mkI b z (n : Int)=some (List.replicate n z):=by
  unfold mkI
  rw [if_pos ⟨by omega,by simp only [lim]; omega,by simp only [lim]; omega⟩,Int.toNat_natCast]
theorem eqLoopR {α ρ : Type} {L : Int → Option (ρ ⊕ Unit)} {a : List α} {p : α → α → Option Bool} {r : ρ} (hp : ∀ x ∈ a, p x x = some true)
    (hL : ∀ x, L x = bif decide (x < len a) then (getI a x).bind fun e => (getI a x).bind fun f => (p e f).bind fun c => bif !c then some (.inl r) else L (w64 (x + 1)) else some (.inr ()))
    (hb : a.length < 9223372036854775807) : L 0 = some (.inr ()) := by
  have key : ∀ (k i : Nat), i + k = a.length → L (i : Int) = some (.inr ()) := by
    intro k
    induction k with
    | zero =>
      intro i hi
      rw [hL, lt_len, decide_eq_false (by omega), cond_false]
    | succ k ih =>
      intro i hi
      have h1 : i < a.length := by omega
      rw [hL, lt_len, decide_eq_true h1, cond_true, getI_nat, List.getElem?_eq_getElem h1, Option.bind_some, Option.bind_some, hp _ (List.getElem_mem h1), Option.bind_some, Bool.not_true, cond_false, w64_succ (by omega), ih (i + 1) (by omega)]
  exact key a.length 0 (by omega)
def smI (_ : Int) : Prop:=True
def smB (_ : Bool) : Prop:=True
def smS (s : List UInt8) : Prop:=s.length ≤ 1048576
def smL {A : Type} (sm : A→Prop) (xs : List A) : Prop:=xs.length ≤ 1048576 ∧ ∀ x ∈ xs,sm x
theorem len_beq {α β : Type} {a : List α} {b : List β} : (len a == len b)=decide (a.length=b.length):=by
  rw [int_beq]
  by_cases h : a.length=b.length
  · rw [decide_eq_true h,decide_eq_true (by show (a.length : Int)=b.length; omega)]
  · rw [decide_eq_false h,decide_eq_false (by show ¬ (a.length : Int)=b.length; omega)]
theorem len_bne {α β : Type} {a : List α} {b : List β} : (len a != len b)=!decide (a.length=b.length):=by rw [bne,len_beq]
theorem anyLoop {α ρ : Type} {L : Int → Option (ρ ⊕ Unit)} {a : List α} {p : α → Option Bool} {r : ρ} {q : α → Bool} (hp : ∀ x ∈ a, p x = some (q x))
    (hL : ∀ x, L x = bif decide (x < len a) then (getI a x).bind fun e => (p e).bind fun c => bif c then some (.inl r) else L (w64 (x + 1)) else some (.inr ()))
    (hb : a.length < 9223372036854775807) : L 0 = some (bif a.any q then .inl r else .inr ()) := by
  have key : ∀ (k i : Nat), i + k = a.length → L (i : Int) = some (bif (a.drop i).any q then .inl r else .inr ()) := by
    intro k
    induction k with
    | zero =>
      intro i hi
      rw [hL, lt_len, decide_eq_false (by omega), cond_false, List.drop_eq_nil_of_le (by omega)]
      rfl
    | succ k ih =>
      intro i hi
      have h1 : i < a.length := by omega
      rw [hL, lt_len, decide_eq_true h1, cond_true, getI_nat, List.getElem?_eq_getElem h1, Option.bind_some, hp _ (List.getElem_mem h1), Option.bind_some, w64_succ (by omega), ih (i + 1) (by omega), List.drop_eq_getElem_cons h1, List.any_cons]
      cases q a[i] <;> rfl
  simpa using key a.length 0 (by omega)
theorem idxLoop {α : Type} {L : Int → Option (Int ⊕ Unit)} {a : List α} {p : α → Option Bool} {q : α → Bool} (hp : ∀ x ∈ a, p x = some (q x))
    (hL : ∀ x, L x = bif decide (x < len a) then (getI a x).bind fun e => (p e).bind fun c => bif c then some (.inl x) else L (w64 (x + 1)) else some (.inr ()))
    (hb : a.length < 9223372036854775807) : L 0 = some (match a.findIdx? q with | some i => .inl (i : Int) | none => .inr ()) := by
  have key : ∀ (k i : Nat), i + k = a.length → L (i : Int) = some (match (a.drop i).findIdx? q with | some j => .inl ((i + j : Nat) : Int) | none => .inr ()) := by
    intro k
    induction k with
    | zero =>
      intro i hi
      rw [hL, lt_len, decide_eq_false (by omega), cond_false, List.drop_eq_nil_of_le (by omega)]
      rfl
    | succ k ih =>
      intro i hi
      have h1 : i < a.length := by omega
      rw [hL, lt_len, decide_eq_true h1, cond_true, getI_nat, List.getElem?_eq_getElem h1, Option.bind_some, hp _ (List.getElem_mem h1), Option.bind_some, w64_succ (by omega), ih (i + 1) (by omega), List.drop_eq_getElem_cons h1, List.findIdx?_cons]
      cases hq : q a[i]
      · simp only [cond_false, Bool.false_eq_true, if_false]
        cases (a.drop (i + 1)).findIdx? q with
        | none => rfl
        | some j => simp only [Option.map_some]; congr 3; omega
      · simp
  simpa using key a.length 0 (by omega)
theorem less_tri : ∀ (a b : List UInt8),(!(Op.bytesLess a b || a == b))=Op.bytesLess b a
  | [],[]=>rfl
  | [],b :: bs=>by simp [Op.bytesLess]
  | a :: ax,[]=>by simp [Op.bytesLess]
  | a :: ax,b :: bs=>by
    have ih:=less_tri ax bs
    rcases Nat.lt_trichotomy a.toNat b.toNat with h | h | h
    · have h1 : a < b:=UInt8.lt_iff_toNat_lt.2 h
      have h2 : ¬ b < a:=fun h'=>by have:=UInt8.lt_iff_toNat_lt.1 h'; omega
      have h3 : (b == a)=false:=by rw [beq_eq_false_iff_ne]; rintro rfl; omega
      simp [Op.bytesLess,h1,h2,h3]
    · have he : a=b:=UInt8.toNat_inj.1 h
      subst he
      have h1 : ¬ a < a:=fun h'=>by have:=UInt8.lt_iff_toNat_lt.1 h'; omega
      simpa [Op.bytesLess,h1] using ih
    · have h1 : b < a:=UInt8.lt_iff_toNat_lt.2 h
      have h2 : ¬ a < b:=fun h'=>by have:=UInt8.lt_iff_toNat_lt.1 h'; omega
      have h3 : (a == b)=false:=by rw [beq_eq_false_iff_ne]; rintro rfl; omega
      simp [Op.bytesLess,h1,h2,h3]
end Go.Ln
set_option linter.unusedVariables false
set_option linter.unusedSimpArgs false
namespace Go.Ln
open Go
def markL {α : Type} (g : Int→α→Int × α) : Int→List α→Int × List α
  | k,[]=>(k,[])
  | k,x :: xs=>((markL g (g k x).1 xs).1,(g k x).2 :: (markL g (g k x).1 xs).2)
section
variable {α ρ : Type} {g : Int→α→Int × α} {M : Int}
theorem markL_len : ∀ {xs : List α} {k : Int},(markL g k xs).2.length=xs.length
  | [],_=>rfl
  | x :: xs,k=>by simp only [markL,List.length_cons]; rw [markL_len]
theorem markL_mono (hg : ∀ k x,k ≤ (g k x).1) : ∀ {xs : List α} {k : Int},k ≤ (markL g k xs).1
  | [],k=>Int.le_refl k
  | x :: xs,k=>Int.le_trans (hg k x) (markL_mono hg)
theorem markL_le {c : Nat} (hc : ∀ k x,(g k x).1 ≤ k + c) : ∀ {xs : List α} {k : Int},(markL g k xs).1 ≤ k + ((c * xs.length : Nat) : Int)
  | [],k=>by simp [markL]
  | x :: xs,k=>by
    have h1:=hc k x
    have h2:=markL_le hc (xs:=xs) (k:=(g k x).1)
    have : c * (x :: xs).length=c * xs.length + c:=by rw [List.length_cons,Nat.mul_succ]
    rw [this]
    show (markL g (g k x).1 xs).1 ≤ _
    omega
theorem markLoop {L : Int × Int × List α → Option (ρ ⊕ (Int × List α))} (hg : ∀ k x, k ≤ (g k x).1)
    (hS : ∀ (k : Int) (i : Nat) (xs : List α) (e : α), 0 ≤ k → (g k e).1 ≤ M → i < 4611686018427387904 → xs[i]? = some e → L (k, (i : Int), xs) = L ((g k e).1, ((i + 1 : Nat) : Int), xs.set i (g k e).2))
    (hE : ∀ (k : Int) (i : Nat) (xs : List α), xs.length ≤ i → L (k, (i : Int), xs) = some (.inr (k, xs)))
    {k : Int} {xs : List α} (h0 : 0 ≤ k) (hM : (markL g k xs).1 ≤ M) (hb : xs.length < 4611686018427387904) : L (k, 0, xs) = some (.inr (markL g k xs)) := by
  have key : ∀ (ys pre : List α) (k : Int), 0 ≤ k → (markL g k ys).1 ≤ M → (pre ++ ys).length < 4611686018427387904 → L (k, ((pre.length : Nat) : Int), pre ++ ys) = some (.inr ((markL g k ys).1, pre ++ (markL g k ys).2)) := by
    intro ys
    induction ys with
    | nil => intro pre k _ _ _; exact hE k pre.length (pre ++ []) (by simp)
    | cons y ys ih =>
      intro pre k h0 hM hb
      have hb' : pre.length + (ys.length + 1) < 4611686018427387904 := by simpa using hb
      have h1 := markL_mono hg (xs := ys) (k := (g k y).1)
      have h2 := hg k y
      have h3 : (markL g (g k y).1 ys).1 ≤ M := hM
      rw [hS k pre.length (pre ++ y :: ys) y h0 (by omega) (by omega) (by simp)]
      have e : (pre ++ y :: ys).set pre.length (g k y).2 = (pre ++ [(g k y).2]) ++ ys := by simp
      have := ih (pre ++ [(g k y).2]) (g k y).1 (by omega) h3 (by simpa using hb)
      rw [e, show pre.length + 1 = (pre ++ [(g k y).2]).length by simp, this]
      simp [markL]
  have := key xs [] k h0 hM (by simpa using hb)
  simpa using this
theorem heldLoop {H : Int × Int → Option (ρ ⊕ Int)} {a : List α} (hg : ∀ k x, k ≤ (g k x).1)
    (hS : ∀ (k : Int) (i : Nat) (e : α), 0 ≤ k → (g k e).1 ≤ M → i < 4611686018427387904 → a[i]? = some (g k e).2 → H (k, (i : Int)) = H ((g k e).1, ((i + 1 : Nat) : Int)))
    (hE : ∀ (k : Int) (i : Nat), a.length ≤ i → H (k, (i : Int)) = some (.inr k))
    {k : Int} {xs : List α} (h0 : 0 ≤ k) (hM : (markL g k xs).1 ≤ M) (hb : xs.length < 4611686018427387904) (ha : a = (markL g k xs).2) : H (k, 0) = some (.inr (markL g k xs).1) := by
  have key : ∀ (ys : List α) (i : Nat) (k : Int), 0 ≤ k → (markL g k ys).1 ≤ M → i + ys.length < 4611686018427387904 → a.drop i = (markL g k ys).2 → H (k, (i : Int)) = some (.inr (markL g k ys).1) := by
    intro ys
    induction ys with
    | nil => intro i k _ _ _ h; exact hE k i (by simpa [markL] using h)
    | cons y ys ih =>
      intro i k h0 hM hb h
      have h1 := markL_mono hg (xs := ys) (k := (g k y).1)
      have h2 := hg k y
      have h3 : (markL g (g k y).1 ys).1 ≤ M := hM
      simp only [List.length_cons] at hb
      have h' : a.drop i = (g k y).2 :: (markL g (g k y).1 ys).2 := h
      have e1 : a[i]? = some (g k y).2 := by
        have := congrArg (fun l => l[0]?) h'
        simpa using this
      have e2 : a.drop (i + 1) = (markL g (g k y).1 ys).2 := by
        have := congrArg List.tail h'
        simpa using this
      rw [hS k i y h0 (by omega) (by omega) e1, ih (i + 1) (g k y).1 (by omega) h3 (by omega) e2]
      rfl
  have := key xs 0 k h0 hM (by omega) (by simpa using ha)
  simpa using this
theorem pushLoop {β ρ : Type} {L : Int × List β → Option (ρ ⊕ List β)} {a : List α} {f : α → List β}
    (hS : ∀ (i : Nat) (x : α), a[i]? = some x → L ((i : Int), (a.take i).flatMap f) = L (((i + 1 : Nat) : Int), (a.take i).flatMap f ++ f x))
    (hE : ∀ (i : Nat) z, a.length ≤ i → L ((i : Int), z) = some (.inr z)) : L (0, []) = some (.inr (a.flatMap f)) := by
  have key : ∀ (k i : Nat), i + k = a.length → L ((i : Int), (a.take i).flatMap f) = some (.inr (a.flatMap f)) := by
    intro k
    induction k with
    | zero => intro i hi; rw [hE i _ (by omega), List.take_of_length_le (by omega)]
    | succ k ih =>
      intro i hi
      have h1 : i < a.length := by omega
      have := ih (i + 1) (by omega)
      rw [List.take_add_one, List.getElem?_eq_getElem h1, List.flatMap_append] at this
      rw [hS i a[i] (List.getElem?_eq_getElem h1), ← this]
      simp
  simpa using key a.length 0 (by omega)
theorem mapLoop {ρ : Type} {L : Int × List α → Option (ρ ⊕ List α)} {f : α → α} {a : List α}
    (hS : ∀ (i : Nat) (z : List α) (x : α), z.length = a.length → z[i]? = some x → a[i]? = some x → L ((i : Int), z) = L (((i + 1 : Nat) : Int), z.set i (f x)))
    (hE : ∀ (i : Nat) (z : List α), a.length ≤ i → L ((i : Int), z) = some (.inr z)) : L (0, a) = some (.inr (a.map f)) := by
  have key : ∀ (ys pre : List α) (i : Nat), i = pre.length → a.length = (pre ++ ys).length → a.drop i = ys → L ((i : Int), pre ++ ys) = some (.inr (pre ++ ys.map f)) := by
    intro ys
    induction ys with
    | nil => intro pre i hi hl h; rw [hE i (pre ++ []) (by rw [hl]; simp [hi])]; rfl
    | cons y ys ih =>
      intro pre i hi hl h
      have e1 : a[i]? = some y := by
        have := congrArg (fun l => l[0]?) h
        simpa using this
      have e2 : a.drop (i + 1) = ys := by
        have := congrArg List.tail h
        simpa using this
      rw [hS i _ y (by rw [hl]) (by simp [hi]) e1]
      have e : (pre ++ y :: ys).set i (f y) = (pre ++ [f y]) ++ ys := by subst hi; simp
      rw [e, ih (pre ++ [f y]) (i + 1) (by simp [hi]) (by rw [hl]; simp) e2]
      simp
  simpa using key a [] 0 rfl rfl rfl
def kept (keep : Nat→Bool) (a : List α) (n : Nat) : List α:=(List.range n).filterMap fun j=>if keep j=true then a[j]? else none
theorem kept_yes {keep : Nat→Bool} {a : List α} {n : Nat} {x : α} (h : keep n=true) (hx : a[n]?=some x) : kept keep a (n + 1)=kept keep a n ++ [x]:=by
  unfold kept
  rw [List.range_succ,List.filterMap_append]
  simp [h,hx]
theorem kept_no {keep : Nat→Bool} {a : List α} {n : Nat} (h : keep n=false) : kept keep a (n + 1)=kept keep a n:=by
  unfold kept
  rw [List.range_succ,List.filterMap_append]
  simp [h]
theorem kept_filter {p : α→Bool} {a : List α} {keep : Nat→Bool} (hk : ∀ (j : Nat) (x : α),a[j]?=some x→keep j=p x) : ∀ {n : Nat},n ≤ a.length→kept keep a n=(a.take n).filter p
  | 0,_=>rfl
  | n + 1,h=>by
    have h1 : n < a.length:=h
    have hx:=List.getElem?_eq_getElem h1
    rw [List.take_add_one,hx,List.filter_append,← kept_filter hk (Nat.le_of_lt h1)]
    cases hp : p a[n] with
    | true=>rw [kept_yes (by rw [hk n _ hx,hp]) hx]; simp [hp]
    | false=>rw [kept_no (by rw [hk n _ hx,hp])]; simp [hp]
theorem delLoop {L : Int × Int × List α → Option (ρ ⊕ (Int × List α))} {keep : Nat → Bool} {a : List α} {i0 : Nat}
    (hS : ∀ (i j : Nat) (z : List α) (x : α), z.length = a.length → i0 ≤ i → i < j → a[j]? = some x → z[j]? = some x → z[j - 1]? = a[j - 1]? → L ((i : Int), (j : Int), z) = bif keep j then L (((i + 1 : Nat) : Int), ((j + 1 : Nat) : Int), z.set i x) else L ((i : Int), ((j + 1 : Nat) : Int), z))
    (hE : ∀ (i j : Nat) (z : List α), z.length = a.length → i0 ≤ i → i < j → a.length ≤ j → L ((i : Int), (j : Int), z) = some (.inr ((i : Int), z)))
    (h0 : kept keep a (i0 + 1) = a.take i0) (hi : i0 < a.length) : ∃ (i : Nat) (z : List α), L ((i0 : Int), ((i0 + 1 : Nat) : Int), a) = some (.inr ((i : Int), z)) ∧ z.length = a.length ∧ i ≤ z.length ∧ z.take i = kept keep a a.length := by
  have key : ∀ (k i j : Nat) (z : List α), j + k = a.length → i0 ≤ i → i < j → z.length = a.length → z.drop (j - 1) = a.drop (j - 1) → z.take i = kept keep a j → ∃ (i' : Nat) (z' : List α), L ((i : Int), (j : Int), z) = some (.inr ((i' : Int), z')) ∧ z'.length = a.length ∧ i' ≤ z'.length ∧ z'.take i' = kept keep a a.length := by
    intro k
    induction k with
    | zero =>
      intro i j z hj h00 hij hz hd ht
      refine ⟨i, z, hE i j z hz h00 hij (by omega), hz, by omega, ?_⟩
      rw [ht, show j = a.length by omega]
    | succ k ih =>
      intro i j z hj h00 hij hz hd ht
      have h1 : j < a.length := by omega
      have hx := List.getElem?_eq_getElem h1
      have e1 : z[j]? = some a[j] := by
        have := congrArg (fun l => l[1]?) hd
        simp only [List.getElem?_drop] at this
        rw [show j - 1 + 1 = j by omega] at this
        rw [this, hx]
      have e2 : z[j - 1]? = a[j - 1]? := by
        have := congrArg (fun l => l[0]?) hd
        simpa only [List.getElem?_drop, Nat.add_zero] using this
      have e3 : z.drop j = a.drop j := by
        have := congrArg (List.drop 1) hd
        simpa only [List.drop_drop, show j - 1 + 1 = j by omega] using this
      rw [hS i j z a[j] hz h00 hij hx e1 e2]
      cases hk : keep j with
      | true =>
        rw [cond_true]
        refine ih (i + 1) (j + 1) (z.set i a[j]) (by omega) (by omega) (by omega) (by simpa using hz) ?_ ?_
        · rw [show j + 1 - 1 = j by omega, List.drop_set_of_lt hij, e3]
        · rw [kept_yes hk hx, ← ht, List.take_add_one, List.getElem?_set_self (by omega), List.take_set_of_le (Nat.le_refl i)]
          rfl
      | false =>
        rw [cond_false]
        refine ih i (j + 1) z (by omega) h00 (by omega) hz ?_ ?_
        · rw [show j + 1 - 1 = j by omega, e3]
        · rw [kept_no hk, ht]
  exact key (a.length - (i0 + 1)) i0 (i0 + 1) a (by omega) (Nat.le_refl _) (by omega) rfl rfl h0.symm
theorem cutL {β : Type} {i : Nat} {z : List α} {c : α} {F : List α → Option β} (h : i ≤ z.length) :
    (subP z.length (i : Int) (len z)).bind (fun _ => (clrP z (0 + Int.toNat (i : Int)) (Int.toNat (len z) - Int.toNat (i : Int)) c).bind fun k => (subP k.length 0 (i : Int)).bind fun _ => (partP k (0 + Int.toNat 0) (Int.toNat (i : Int) - Int.toNat 0)).bind F) = F (z.take i) := by
  have e1 : subP z.length (i : Int) (len z) = some () := by unfold subP; rw [if_pos (by simp only [len]; omega)]
  have e2 : clrP z (0 + Int.toNat (i : Int)) (Int.toNat (len z) - Int.toNat (i : Int)) c = some (z.take i ++ List.replicate (z.length - i) c) := by
    unfold clrP
    simp only [len, Int.toNat_natCast, Nat.zero_add]
    rw [if_pos (by omega), List.drop_eq_nil_of_le (by omega), List.append_nil]
  rw [e1, Option.bind_some, e2, Option.bind_some]
  have hl : (z.take i ++ List.replicate (z.length - i) c).length = z.length := by simp; omega
  have e3 : subP (z.take i ++ List.replicate (z.length - i) c).length 0 (i : Int) = some () := by rw [hl]; unfold subP; rw [if_pos (by omega)]
  have e4 : partP (z.take i ++ List.replicate (z.length - i) c) (0 + Int.toNat 0) (Int.toNat (i : Int) - Int.toNat 0) = some (z.take i) := by
    unfold partP
    rw [hl]
    simp only [Int.toNat_natCast, Nat.zero_add, Int.toNat_zero, Nat.sub_zero, List.drop_zero]
    rw [if_pos h, List.take_left' (by simp; omega)]
  rw [e3, Option.bind_some, e4, Option.bind_some]
end
end Go.Ln
