/-
  A step by step reading of the printed code by values, proved sound once (part 4): no statement of the seat stands here.
-/
import Derived.Test.YtniljljgdoncpaaGreatDoorLnC
set_option linter.unusedVariables false
set_option linter.unusedSimpArgs false
set_option linter.unusedSectionVars false
namespace Go.Ln
open Go Go.ChangeShapes Go.WideShapes Go.RowKit
def ρ0 : Own:=fun _=>none
def R2 (w : World) (vs : List V) (cs : List Value) : Prop:=vs.length=cs.length ∧ ∀ (k : Nat) x u,vs[k]?=some x→cs[k]?=some u→RepV w ρ0 rt0 none x u
def R2s (w : World) (cs : List Value) : Nat→List (List V)→Prop
  | off,[]=>cs.length=off
  | off,p :: ps=>R2 w p ((cs.drop off).take p.length) ∧ R2s w cs (off + p.length) ps
theorem R2s.join {w : World} {cs : List Value} : ∀ {ps : List (List V)} {off : Nat},off ≤ cs.length→R2s w cs off ps→R2 w ps.flatten (cs.drop off)
  | [],off,ho,h=>by
    simp only [R2s] at h
    subst h
    exact ⟨by simp,fun k x u h1=>by simp at h1⟩
  | p :: ps,off,ho,⟨h1,h2⟩=>by
    have hl : p.length + off ≤ cs.length:=by
      have:=h1.1
      rw [List.length_take,List.length_drop] at this
      omega
    have ih:=R2s.join (by omega) h2
    refine ⟨?_,fun k x u hx hu=>?_⟩
    · have:=ih.1
      simp only [List.flatten_cons,List.length_append,List.length_drop] at this ⊢
      omega
    · rw [List.flatten_cons] at hx
      by_cases hk : k < p.length
      · rw [List.getElem?_append_left hk] at hx
        refine h1.2 k x u hx ?_
        rw [List.getElem?_take_of_lt hk]
        exact hu
      · rw [List.getElem?_append_right (by omega)] at hx
        refine ih.2 (k - p.length) x u hx ?_
        rw [List.getElem?_drop] at hu ⊢
        rw [← hu]
        congr 1
        omega
def Rd (P : Program) (t : TypeId) {A : Type} (f : A→V) (ok : A→Prop) : Prop :=
  ∀ {H : Type} {enc : TypeId × Value→H} {w : World} {sp : Nat→Bool} {held : Bool} {n : Nat} {cs : List Value} {x : DataW H × List MemPlace},
    DataW.trod enc P w 0 sp held n t cs=some x→∃ a,ok a ∧ nh (f a) ∧ R2 w (cells (f a)) cs
def I64 (n : Int) : Prop:=-9223372036854775808 ≤ n ∧ n ≤ 9223372036854775807
def okS (s : Str) : Prop:=s.length ≤ maxLen
def okL {A : Type} (ok : A→Prop) (xs : List A) : Prop:=xs.length ≤ maxLen ∧ ∀ x ∈ xs,ok x
theorem R2_one {w : World} {v : V} {u : Value} (h : RepV w ρ0 rt0 none v u) : R2 w [v] [u]:=by
  refine ⟨rfl,fun k x y hx hy=>?_⟩
  match k with
  | 0=>simp at hx hy; subst hx; subst hy; exact h
  | k + 1=>simp at hx
theorem rd_int {P : Program} {t : TypeId} (ht : P.underlying t=some (.int .i64)) : Rd P t I I64:=by
  intro H enc w sp held n cs x h
  obtain ⟨m,rfl,_,hw⟩:=DataW.trod_int ht h
  refine ⟨m,?_,by simp [I,nh],R2_one (.int ..)⟩
  simp only [Lit.wf,Bool.and_eq_true,decide_eq_true_eq] at hw
  have e1 : IntKind.i64.min=-9223372036854775808:=by decide
  have e2 : IntKind.i64.max=9223372036854775807:=by decide
  rw [e1,e2] at hw
  exact hw
theorem rd_str {P : Program} {t : TypeId} (ht : P.underlying t=some .string) : Rd P t str okS:=by
  intro H enc w sp held n cs x h
  obtain ⟨s,rfl,_,hs⟩:=DataW.trod_string ht h
  refine ⟨s.data.toList,by show s.data.toList.length ≤ maxLen; rw [Array.length_toList]; exact hs,by simp [str,nh],R2_one ?_⟩
  have : str s.data.toList=.str s:=by unfold str; rw [Array.toArray_toList]
  rw [show str s.data.toList=V.str s from this]
  exact .str ..
theorem choose_lt {α : Type} [Inhabited α] {n : Nat} {p : Nat→α→Prop} (h : ∀ i,i < n→∃ a,p i a) : ∃ f : Nat→α,∀ i,i < n→p i (f i):=by
  classical
  refine ⟨fun i=>if hi : i < n then (h i hi).choose else default,fun i hi=>?_⟩
  simp only [dif_pos hi]
  exact (h i hi).choose_spec
def RdF (N : Nat) (P : Program) (t : TypeId) {A : Type} (f : A→V) (ok : A→Prop) : Prop :=
  ∀ {H : Type} {enc : TypeId × Value→H} {w : World} {sp : Nat→Bool} {held : Bool} {n : Nat} {cs : List Value} {x : DataW H × List MemPlace},
    n < N→DataW.trod enc P w 0 sp held n t cs=some x→∃ a,ok a ∧ nh (f a) ∧ R2 w (cells (f a)) cs
theorem Rd.toF {P : Program} {t : TypeId} {A : Type} {f : A→V} {ok : A→Prop} (h : Rd P t f ok) {N : Nat} : RdF N P t f ok:=fun _ h2=>h h2
theorem rd_ofF {P : Program} {t : TypeId} {A : Type} {f : A→V} {ok : A→Prop} (h : ∀ N,RdF N P t f ok) : Rd P t f ok:=fun {H enc w sp held n cs x} h2=>h (n + 1) (Nat.lt_succ_self n) h2
theorem rdF_slice {P : Program} {t e : TypeId} {A : Type} {f : A→V} {ok : A→Prop} {N : Nat} (ht : P.underlying t=some (.slice e)) (hr : RdF N P e f ok) (hp : (0 < P.cellsOf e)) : RdF (N + 1) P t (fun xs=>.isl false (xs.map f)) (okL ok):=by
  intro H enc w sp held n cs x hN h
  rcases DataW.trod_slice ht h with ⟨rfl,_⟩ | ⟨a,len,cap,elems,rest,k,hfk,rfl,_,hb,hl,hm,hlen,hel,_,_⟩
  · refine ⟨[],⟨by simp,by simp⟩,by simp [nh,nhs],R2_one ?_⟩
    exact .isl0 _ _ _ _ (by simp)
  by_cases h0 : len=0
  · subst h0
    refine ⟨[],⟨by simp,by simp⟩,by simp [nh,nhs],R2_one ?_⟩
    exact .isl0 _ _ _ _ (by simp)
  have hq : ∀ i,i < len→∃ y : A × List Value,ok y.1 ∧ nh (f y.1) ∧ R2 w (cells (f y.1)) y.2 ∧ w.cells? 0 (a.add (i * P.cellsOf e)) (P.cellsOf e)=some y.2:=by
    intro i hi
    have key:=hel i hi
    rw [List.getElem?_eq_getElem (by omega)] at key
    obtain ⟨cs',h1,h2⟩:=Option.bind_eq_some_iff.1 key
    obtain ⟨y,hy1,hy2,hy3⟩:=hr (by omega) h2
    exact ⟨(y,cs'),hy1,hy2,hy3,h1⟩
  have : Inhabited (A × List Value):=⟨(hq 0 (by omega)).choose⟩
  obtain ⟨F,hF⟩:=choose_lt hq
  have hsz : ∀ i,i < len→(cells (f (F i).1)).length=P.cellsOf e:=by
    intro i hi
    obtain ⟨_,_,h3,h4⟩:=hF i hi
    obtain ⟨_,h5,_⟩:=World.cells?_some h4
    rw [h3.1,h5]
  have hcell : ∀ i,i < len→∀ k u,(F i).2[k]?=some u→w.cell? (a.add (i * P.cellsOf e + k))=some u:=by
    intro i hi k u hu
    obtain ⟨_,_,h3,h4⟩:=hF i hi
    obtain ⟨_,h5,h6⟩:=World.cells?_some h4
    have hk : k < P.cellsOf e:=by rw [← h5]; exact (List.getElem?_eq_some_iff.1 hu).1
    have:=h6 k hk
    rw [hu] at this
    rw [← this]
    congr 1
    simp only [Addr.add]
    by_cases h7 : i * P.cellsOf e=0 <;> by_cases h8 : k=0 <;> simp [h7,h8] <;> omega
  have hspot : a.spot=none ∧ a.block < w.heap.size:=by
    have hlen : (F 0).2.length=P.cellsOf e:=by
      have:=(hF 0 (by omega)).2.2.1.1
      rw [← this]; exact hsz 0 (by omega)
    obtain ⟨u,hu⟩ : ∃ u,(F 0).2[0]?=some u:=⟨(F 0).2[0],List.getElem?_eq_getElem (by omega)⟩
    have h9:=hcell 0 (by omega) 0 u hu
    simp only [Nat.zero_mul,Nat.add_zero,Addr.add,if_true,World.cell?] at h9
    split at h9
    · rename_i c T fr hh
      refine ⟨?_,(Array.getElem?_eq_some_iff.1 hh).1⟩
      cases hs : a.spot with
      | none=>rfl
      | some _=>simp [hs] at h9
    · cases h9
  obtain ⟨b,off,spot⟩:=a
  obtain ⟨rfl,hblk⟩:=hspot
  refine ⟨(List.range len).map fun i=>(F i).1,⟨by simp; omega,?_⟩,?_,R2_one ?_⟩
  · intro y hy
    simp only [List.mem_map,List.mem_range] at hy
    obtain ⟨i,hi,rfl⟩:=hy
    exact (hF i hi).1
  · simp only [nh,nhs_iff,List.mem_map,List.mem_range]
    rintro v ⟨y,⟨i,hi,rfl⟩,rfl⟩
    exact (hF i hi).2.1
  · have hl2 : len=(((List.range len).map fun i=>(F i).1).map f).length:=by simp
    have key : RepV w ρ0 rt0 none (.isl false (((List.range len).map fun i=>(F i).1).map f)) (.slice (some ⟨b,off,none⟩) (((List.range len).map fun i=>(F i).1).map f).length cap):=by
      have get : ∀ {i : Nat} {e' : V},(((List.range len).map fun i=>(F i).1).map f)[i]?=some e'→i < len ∧ e'=f (F i).1:=by
        intro i e' he
        simp only [List.getElem?_map,Option.map_eq_some_iff] at he
        obtain ⟨y,⟨j,hj,rfl⟩,rfl⟩:=he
        obtain ⟨h1,h2⟩:=List.getElem?_eq_some_iff.1 hj
        simp at h1 h2
        subst h2
        exact ⟨h1,rfl⟩
      refine .isl _ _ b off cap (P.cellsOf e) (fun i k=>((F i).2[k]?).getD undef) (by simpa using hl) (by simp; omega) rfl hblk ?_ ?_ ?_
      · intro i e' he
        obtain ⟨hi,rfl⟩:=get he
        exact hsz i hi
      · intro i e' k x' he hx'
        obtain ⟨hi,rfl⟩:=get he
        have h3:=(hF i hi).2.2.1
        have hk : k < (F i).2.length:=by rw [← h3.1]; exact (List.getElem?_eq_some_iff.1 hx').1
        rw [List.getElem?_eq_getElem hk]
        have:=hcell i hi k _ (List.getElem?_eq_getElem hk)
        simp only [Addr.add] at this
        split at this
        · rename_i hz
          simp only [Nat.add_eq_zero_iff] at hz
          simpa [hz] using this
        · exact this
      · intro i e' k x' he hx'
        obtain ⟨hi,rfl⟩:=get he
        have h3:=(hF i hi).2.2.1
        have hk : k < (F i).2.length:=by rw [← h3.1]; exact (List.getElem?_eq_some_iff.1 hx').1
        rw [List.getElem?_eq_getElem hk]
        exact h3.2 k x' _ hx' (List.getElem?_eq_getElem hk)
    rw [← hl2] at key
    exact key
theorem rd_slice {P : Program} {t e : TypeId} {A : Type} {f : A→V} {ok : A→Prop} (ht : P.underlying t=some (.slice e)) (hr : Rd P e f ok) (hp : (0 < P.cellsOf e)) : Rd P t (fun xs=>.isl false (xs.map f)) (okL ok) :=
  rd_ofF fun N _ h=>by
    intro a b c d e g h1 h2
    exact rdF_slice ht (hr.toF (N:=N)) hp (Nat.lt_succ_of_lt h1) h2
theorem rd_fields {H : Type} {enc : TypeId × Value → H} {P : Program} {t : TypeId} {fs : Array Field} (ht : P.underlying t = some (.struct fs)) {w : World} {sp : Nat → Bool} {held : Bool} {n : Nat} {cs : List Value} {x : DataW H × List MemPlace} (h : DataW.trod enc P w 0 sp held n t cs = some x) :
    cs.length = P.cellsOf t ∧ ∀ (i : Nat) (f : Field), fs[i]? = some f → ∃ n y, DataW.trod enc P w 0 sp held n f.type ((cs.drop f.offset).take (P.cellsOf f.type)) = some y := by
  obtain ⟨xs, n, _, _, hl, hlen, hf⟩ := DataW.trod_struct ht h
  refine ⟨hl, fun i f hi => ?_⟩
  have h1 := hf i f hi
  have hi2 : i < fs.size := (Array.getElem?_eq_some_iff.1 hi).1
  exact ⟨n, xs[i]'(by omega), by rw [h1]; exact List.getElem?_eq_getElem (by omega)⟩
theorem rdF_fields {H : Type} {enc : TypeId × Value → H} {P : Program} {t : TypeId} {fs : Array Field} (ht : P.underlying t = some (.struct fs)) {w : World} {sp : Nat → Bool} {held : Bool} {n : Nat} {cs : List Value} {x : DataW H × List MemPlace} (h : DataW.trod enc P w 0 sp held n t cs = some x) :
    ∃ k, n = k + 1 ∧ cs.length = P.cellsOf t ∧ ∀ (i : Nat) (f : Field), fs[i]? = some f → ∃ y, DataW.trod enc P w 0 sp held k f.type ((cs.drop f.offset).take (P.cellsOf f.type)) = some y := by
  obtain ⟨xs, n, hn, _, hl, hlen, hf⟩ := DataW.trod_struct ht h
  refine ⟨n, hn, hl, fun i f hi => ?_⟩
  have h1 := hf i f hi
  have hi2 : i < fs.size := (Array.getElem?_eq_some_iff.1 hi).1
  exact ⟨xs[i]'(by omega), by rw [h1]; exact List.getElem?_eq_getElem (by omega)⟩
theorem rd_done {w : World} {v : V} {ps : List (List V)} {cs : List Value} (hv : cells v=ps.flatten) (h : R2s w cs 0 ps) : R2 w (cells v) cs:=by
  have:=R2s.join (Nat.zero_le _) h
  rw [List.drop_zero,← hv] at this
  exact this
theorem slot_of {w : World} {v : V} {u : Value} (ha : isAggV v=true ↔ ∃ cs,u=.agg cs) (h : R2 w (cells v) u.cells.toList) : Slot w ρ0 rt0 nowhere v u:=by
  refine ⟨fun k=>(u.cells[k]?).getD undef,?_,fun k x hx=>?_⟩
  · unfold pack
    cases hv : isAggV v with
    | true =>
      obtain ⟨cs,rfl⟩:=ha.1 hv
      have hl:=h.1
      simp only [Value.cells,Array.length_toList] at hl ⊢
      simp only [if_true,Value.agg.injEq]
      apply Array.ext
      · simp [arrOf,hl]
      · intro i h1 h2
        simp [arrOf,Array.getElem?_eq_getElem h1]
    | false =>
      have hu : u.cells=#[u]:=by
        cases u <;> first | rfl | (exfalso; have:=ha.2 ⟨_,rfl⟩; rw [hv] at this; cases this)
      simp [hu]
  · have hk : k < u.cells.toList.length:=by rw [← h.1]; exact (List.getElem?_eq_some_iff.1 hx).1
    have:=h.2 k x _ hx (List.getElem?_eq_getElem hk)
    show RepV w ρ0 rt0 none x ((u.cells[k]?).getD undef)
    rw [Array.getElem?_eq_getElem (by simpa using hk)]
    simpa using this
def Given (P : Program) (w : World) : List TypeId→List V→List Value→Prop
  | [],[],[]=>True
  | _ :: ts,v :: vs,u :: us=>(nh v ∧ Slot w ρ0 rt0 nowhere v u) ∧ Given P w ts vs us
  | _,_,_=>False
theorem Given.len {P : Program} {w : World} : ∀ {ts vs us},Given P w ts vs us→vs.length=us.length
  | [],[],[],_=>rfl
  | _ :: ts,v :: vs,u :: us,h=>by simp [Given.len h.2]
theorem Given.get {P : Program} {w : World} : ∀ {ts vs us},Given P w ts vs us→∀ (a : Nat) v u,vs[a]?=some v→us[a]?=some u→nh v ∧ Slot w ρ0 rt0 nowhere v u
  | [],[],[],_,a,v,u,h,_=>by simp at h
  | _ :: ts,v :: vs,u :: us,h,0,v',u',h1,h2=>by simp at h1 h2; subst h1; subst h2; exact h.1
  | _ :: ts,v :: vs,u :: us,h,a + 1,v',u',h1,h2=>Given.get h.2 a v' u' (by simpa using h1) (by simpa using h2)
theorem argsOk {P : Program} {w : World} {ts : List TypeId} {vs : List V} {us : List Value} (h : Given P w ts vs us) : ArgsOk w ρ0 vs us :=
  ⟨h.len,fun a v u hv hu=>by
    obtain ⟨h1,g,h2,h3⟩:=h.get a v u hv hu
    exact ⟨⟨g,h2,fun k x hx=>(h3 k x hx).anyN⟩,h1⟩⟩
theorem inn0 {w : World} : Inn w ρ0:=⟨fun b b' L h=>(by cases h),fun b o l h=>(by cases h),fun b l h=>(by cases h)⟩
def G0 : Ground:=⟨0,fun _=>True,fun _ _ _ _ _=>trivial⟩
theorem ok0 {w : World} : G0.ok w ρ0:=⟨Nat.zero_le _,fun b h=>rfl,trivial⟩
theorem calls_of_good {P : Program} {f : FuncId} {fn : Func} {c : Code} {n : Nat} {e : Ent} {W : World} {ts : List TypeId} {vs : List V} {args : Array Value} {b : Bool} (hf : P.funcs[f]? = some fn) (F : Fits fn c n) (hg : Good P G0 f e) (ha : Given P W ts vs args.toList) (hF : e.F vs = some (B b, [])) :
    Calls P f args W fun r W' => r = .returned (.bool b) ∧ Below W.heap.size W W' := by
  rcases hg W ρ0 vs args.toList (B b) [] (argsOk ha) inn0 ok0 hF with ⟨u, w', h1, _⟩ | ⟨_, h2⟩
  · rw [run_enter hf F] at h1
    cases h1
  · refine h2.mono fun r W' hr => ?_
    obtain ⟨u, rfl, ρ', ha, ⟨p, hp, hc⟩, _⟩ := hr
    obtain ⟨hs, _, _⟩ := hc 0 (B b) rfl
    obtain ⟨g, hg1, hg2⟩ := hs
    have h3 := hg2 0 (B b) rfl
    refine ⟨?_, ha.wk.os, ha.wk.tape, ha.wk.out, ha.wk.size, fun k hk => (ha.fr k rfl hk).2⟩
    have h4 : u = p 0 := hp
    have h5 : p 0 = g 0 := hg1
    have h6 : g 0 = .bool b := by
      have h7 : RepV W' ρ' rt0 _ (.bool b) (g 0) := h3
      generalize g 0 = z at h7
      cases h7
      rfl
    rw [h4, h5, h6]
section
variable {H : Type} {enc : TypeId × Value→H} {P : Program}
theorem trodAll_below (hl : laidOutB P=true) {W W' : World} (hb : Below W.heap.size W W') {sp : Nat→Bool} : ∀ {ts : List TypeId} {us : List Value} {ds : List (DataW H)} {ps : List MemPlace},(∀ t ∈ ts,P.readableRec t=true ∧ t < P.types.size)→(∀ x ∈ ps,x.block < W.heap.size ∧ sp x.block=true)→DataW.TrodAll enc P W 0 (fun _=>true) true ts us ds ps→DataW.TrodAll enc P W' 0 sp true ts us ds ps
  | [],us,ds,ps,_,_,h=>by
    obtain ⟨rfl,rfl,rfl⟩:=trodAll_nil h
    exact rfl
  | t :: ts,us,ds,ps,ht,hp,h=>by
    obtain ⟨u,us',d,ds',p,q,rfl,rfl,rfl,h1,h2⟩:=trodAll_cons h
    have:=ht t (by simp)
    refine ⟨p,q,WideElems.Trod_stays hl this.1 this.2 h1 (fun x hx=>hb.same (hp x (by simp [hx])).1) (fun x hx=>(hp x (by simp [hx])).2),trodAll_below hl hb (fun t' ht'=>ht t' (by simp [ht'])) (fun x hx=>hp x (by simp [hx])) h2,rfl⟩
theorem trodAll_len {W : World} {sp : Nat→Bool} : ∀ {ts : List TypeId} {us : List Value} {ds : List (DataW H)} {ps : List MemPlace},DataW.TrodAll enc P W 0 sp true ts us ds ps→ds.length=ts.length
  | [],us,ds,ps,h=>by
    obtain ⟨rfl,rfl,rfl⟩:=trodAll_nil h
    rfl
  | t :: ts,us,ds,ps,h=>by
    obtain ⟨u,us',d,ds',p,q,rfl,rfl,rfl,h1,h2⟩:=trodAll_cons h
    simp [trodAll_len h2]
theorem post_law (hl : laidOutB P = true) {fn : Func} {s : ChangeSpec} {apart fresh handsOn again : Bool} {W W' : World} {args : Array Value} {ds gs : List (DataW H)} {before : List MemPlace} {tb : TypeId}
    (hread : ∀ t ∈ fn.params.toList, P.readableRec t = true ∧ t < P.types.size) (hres : fn.resultTypes = #[tb]) (hb : P.underlying tb = some .bool) (hs : s.vars = [])
    (hfn : ∀ ds : List (DataW H), ds.length = fn.params.toList.length → s.fn H (ds ++ []) = { results := [.lit (.bool true)], args := ds })
    (hW : DataW.Whole enc P fn.params.toList s.vars apart W args.toList ds gs before) (hB : Below W.heap.size W W') : s.post enc P fn apart fresh handsOn again W args (.bool true) W' := by
  have hW0 := hW
  have hlt : ∀ p ∈ before, p.block < W.heap.size := fun p hp => by simpa using hW.lt p hp
  obtain ⟨p, q, hA, hV, rfl, hz, hn⟩ := hW
  rw [hs] at hV
  have hgs : gs = [] ∧ q = [] := by
    cases gs with
    | nil => exact ⟨rfl, hV⟩
    | cons _ _ => exact hV.elim
  obtain ⟨rfl, rfl⟩ := hgs
  simp only [List.append_nil] at hlt hz hn
  have hf := hfn ds (trodAll_len hA)
  have hr : ∀ (b : Nat) (sp : Nat → Bool) (hd : Bool), DataW.TrodAll enc P W' b sp hd fn.resultTypes.toList ((Value.bool true).resultList fn.resultTypes.size) (s.fn H (ds ++ [])).results [] := by
    intro b sp hd
    rw [hf, hres]
    exact trodAll_mk1 (shut_bool hb true)
  have ha : ∀ sp : Nat → Bool, (∀ x ∈ p, sp x.block = true) → DataW.TrodAll enc P W' 0 sp true fn.params.toList args.toList ds p := fun sp hsp => trodAll_below hl hB hread (fun x hx => ⟨hlt x hx, hsp x hx⟩) hA
  refine ⟨ds, [], p ++ [], [], p, [], hW0, hr _ _ _, ?_, ?_, hB.frame _, fun _ => ?_⟩
  · rw [hf]
    exact ha _ (fun x hx => by simpa using hlt x hx)
  · rw [hf, hs]
    exact rfl
  · refine ⟨ok_one hres rfl (okWide_bool_mk hb true), _, [], ([] ++ p) ++ [], ⟨[] ++ p, [], trodAll_append (ha _ (fun _ _ => rfl)) (hr _ _ _), ?_, rfl, ?_, ?_⟩, ?_⟩
    · rw [hs]; exact rfl
    · intro b off hp
      have hp : MemPlace.cell b off ∈ p := by simpa using hp
      rw [hB.frozen (hlt _ hp)]
      exact hz b off hp
    · intro ha
      simpa using hn ha
    · intro x hx _
      simpa using hx
end
section
variable {H : Type} {enc : TypeId × Value→H} {P : Program} {W : World} {r : Reach} {b0 : Nat} {t : TypeId} {v : Value} {d : DataW H} {p : List MemPlace} {sp : Nat→Bool} {held : Bool} {A : Type} {f : A→V} {ok : A→Prop}
theorem arg_agg {fs : Array Field} (ht : P.underlying t=some (.struct fs)) (hr : Rd P t f ok) (hf : ∀ a,isAggV (f a)=true) (hv : Value.okWide P W r b0 t v) (h : DataW.Trod enc P W 0 sp held t v d p) : ∃ a,ok a ∧ nh (f a) ∧ Slot W ρ0 rt0 nowhere (f a) v:=by
  obtain ⟨n,hn⟩:=h
  obtain ⟨a,h1,h2,h3⟩:=hr hn
  refine ⟨a,h1,h2,slot_of ⟨fun _=>?_,fun _=>hf a⟩ h3⟩
  simp only [Value.okWide,ht] at hv
  obtain ⟨cs,h4,_⟩:=hv
  exact ⟨cs,h4⟩
theorem arg_cell (hn : ∀ cs,v ≠ .agg cs) (hr : Rd P t f ok) (hf : ∀ a,isAggV (f a)=false) (h : DataW.Trod enc P W 0 sp held t v d p) : ∃ a,ok a ∧ nh (f a) ∧ Slot W ρ0 rt0 nowhere (f a) v:=by
  obtain ⟨n,hn'⟩:=h
  obtain ⟨a,h1,h2,h3⟩:=hr hn'
  refine ⟨a,h1,h2,slot_of ⟨fun h=>?_,fun ⟨cs,h⟩=>(hn cs h).elim⟩ h3⟩
  rw [hf a] at h
  cases h
theorem arg_slice {e : TypeId} (ht : P.underlying t=some (.slice e)) (hr : Rd P e f ok) (hp : 0 < P.cellsOf e) (hv : Value.okWide P W r b0 t v) (h : DataW.Trod enc P W 0 sp held t v d p) : ∃ a,okL ok a ∧ nh (.isl false (a.map f)) ∧ Slot W ρ0 rt0 nowhere (.isl false (a.map f)) v :=
  arg_cell (fun cs e=>by simp only [Value.okWide,ht,Cell.okWide] at hv; subst e; simp [Cell.ok,ht] at hv) (rd_slice ht hr hp) (fun _=>rfl) h
end
end Go.Ln
namespace Go.Ln
open Go
theorem w64_id {n : Int} (h : -9223372036854775808 ≤ n) (h' : n < 9223372036854775808) : w64 n=n:=by
  show (if (true && decide (n % (2 ^ 64 : Int) ≥ (2 ^ 63 : Int)))=true then n % (2 ^ 64 : Int) - (2 ^ 64 : Int) else n % (2 ^ 64 : Int))=n
  have e : (2 : Int) ^ 64=18446744073709551616:=by decide
  have e2 : (2 : Int) ^ 63=9223372036854775808:=by decide
  rw [e,e2,Bool.true_and]
  split
  · rename_i hd
    have:=of_decide_eq_true hd
    omega
  · rename_i hd
    have : ¬ (n % 18446744073709551616 ≥ 9223372036854775808):=fun h9=>hd (decide_eq_true h9)
    omega
theorem w64_succ {n : Nat} (h : n < 9223372036854775807) : w64 ((n : Int) + 1)=((n + 1 : Nat) : Int):=w64_id (by omega) (by omega)
theorem getI_nat {α : Type} {xs : List α} {i : Nat} : getI xs (i : Int)=xs[i]?:=by
  unfold getI
  rw [if_pos (by omega),Int.toNat_natCast]
theorem setI_nat {α : Type} {xs : List α} {i : Nat} {x : α} : setI xs (i : Int) x=xs.set i x:=by
  unfold setI
  rw [Int.toNat_natCast]
theorem lt_len {α : Type} {xs : List α} {i : Nat} : decide ((i : Int) < len xs)=decide (i < xs.length):=by
  simp [len]
@[simp] theorem bindJ_some_inl {ρ υ : Type} {r : ρ} {k : υ→Option ρ} : bindJ (some (.inl r)) k=some r:=rfl
@[simp] theorem bindJ_some_inr {ρ υ : Type} {u : υ} {k : υ→Option ρ} : bindJ (some (.inr u)) k=k u:=rfl
@[simp] theorem bindL_some_inl {ρ υ ω : Type} {r : ρ} {k : υ→Option (ρ ⊕ ω)} : bindL (some (.inl r)) k=some (.inl r):=rfl
@[simp] theorem bindL_some_inr {ρ υ ω : Type} {u : υ} {k : υ→Option (ρ ⊕ ω)} : bindL (some (.inr u)) k=k u:=rfl
theorem str_beq {x y : Str} : (x == y)=decide (x=y):=by
  by_cases h : x=y
  · subst h; simp
  · rw [beq_eq_false_iff_ne.2 h]; simp [h]
theorem int_beq {x y : Int} : (x == y)=decide (x=y):=by
  by_cases h : x=y
  · subst h; simp
  · rw [beq_eq_false_iff_ne.2 h]; simp [h]
theorem int_bne {x y : Int} : (x != y)=!decide (x=y):=by rw [bne,int_beq]
theorem copyLoop {α β ρ : Type} {L : Int × List β → Option (ρ ⊕ List β)} {a : List α} {g : α → Option β} {h : α → β} (hg : ∀ x ∈ a, g x = some (h x))
    (hL : ∀ x, L x = bif decide (x.1 < len a) then (getI a x.1).bind fun e => (g e).bind fun y => (getI x.2 x.1).bind fun _ => L (w64 (x.1 + 1), setI x.2 x.1 y) else some (.inr x.2))
    (hb : a.length < 9223372036854775807) {z : List β} (hz : z.length = a.length) : L (0, z) = some (.inr (a.map h)) := by
  have key : ∀ (k i : Nat) (z : List β), i + k = a.length → z.length = a.length → L ((i : Int), z) = some (.inr (z.take i ++ (a.drop i).map h)) := by
    intro k
    induction k with
    | zero =>
      intro i z hi hz
      rw [hL, lt_len, decide_eq_false (by omega), cond_false, List.drop_eq_nil_of_le (by omega), List.take_of_length_le (by omega)]
      simp
    | succ k ih =>
      intro i z hi hz
      have h1 : i < a.length := by omega
      have h2 : i < z.length := by omega
      rw [hL, lt_len, decide_eq_true h1, cond_true, getI_nat, getI_nat, List.getElem?_eq_getElem h1, List.getElem?_eq_getElem h2, Option.bind_some, hg _ (List.getElem_mem h1), Option.bind_some, Option.bind_some, w64_succ (by omega), setI_nat, ih (i + 1) _ (by omega) (by simpa using hz), List.drop_eq_getElem_cons h1]
      congr 2
      rw [List.map_cons, List.take_add_one]
      simp [h2, List.take_set_of_le (Nat.le_refl i)]
  have := key a.length 0 z (by omega) hz
  simpa using this
theorem szLoop {α : Type} {L : Int × Int → Option (Int ⊕ Int)} {a : List α} {s : α → Int → Option Int} {ok : α → Prop} {M : Int} (hM : M ≤ 9223372036854775807) (hs : ∀ x ∈ a, ∀ l, 0 ≤ l → l ≤ M → ∃ r, s x l = some r ∧ (r < 0 ∨ (0 ≤ r ∧ r ≤ l ∧ ok x)))
    (hL : ∀ x, L x = bif decide (x.2 < len a) then (getI a x.2).bind fun e => (s e x.1).bind fun r => bif decide (r < 0) then some (.inl (-1)) else L (r, w64 (x.2 + 1)) else some (.inr x.1))
    (hb : a.length < 9223372036854775807) {l : Int} (h0 : 0 ≤ l) (h1 : l ≤ M) : ∃ y, L (l, 0) = some y ∧ (y = .inl (-1) ∨ ∃ r, y = .inr r ∧ 0 ≤ r ∧ r ≤ l ∧ ∀ x ∈ a, ok x) := by
  have key : ∀ (k i : Nat) (l : Int), i + k = a.length → 0 ≤ l → l ≤ M → ∃ y, L (l, (i : Int)) = some y ∧ (y = .inl (-1) ∨ ∃ r, y = .inr r ∧ 0 ≤ r ∧ r ≤ l ∧ ∀ x ∈ a.drop i, ok x) := by
    intro k
    induction k with
    | zero =>
      intro i l hi h0 h1
      refine ⟨.inr l, ?_, .inr ⟨l, rfl, h0, Int.le_refl _, ?_⟩⟩
      · rw [hL, lt_len, decide_eq_false (by omega), cond_false]
      · rw [List.drop_eq_nil_of_le (by omega)]; simp
    | succ k ih =>
      intro i l hi h0 h1
      have hi1 : i < a.length := by omega
      obtain ⟨r, hr, hr2⟩ := hs _ (List.getElem_mem hi1) l h0 h1
      rw [hL, lt_len, decide_eq_true hi1, cond_true, getI_nat, List.getElem?_eq_getElem hi1, Option.bind_some, hr, Option.bind_some]
      rcases hr2 with hr2 | ⟨hr2, hr3, hok⟩
      · rw [decide_eq_true hr2, cond_true]
        exact ⟨_, rfl, .inl rfl⟩
      · rw [decide_eq_false (by omega), cond_false, w64_succ (by omega)]
        obtain ⟨y, hy, hy2⟩ := ih (i + 1) r (by omega) hr2 (by omega)
        refine ⟨y, hy, ?_⟩
        rcases hy2 with h | ⟨r', h3, h4, h5, h6⟩
        · exact .inl h
        · refine .inr ⟨r', h3, h4, by omega, ?_⟩
          intro x hx
          rw [List.drop_eq_getElem_cons hi1, List.mem_cons] at hx
          rcases hx with rfl | hx
          · exact hok
          · exact h6 x hx
  obtain ⟨y, hy, hy2⟩ := key a.length 0 l (by omega) h0 h1
  exact ⟨y, hy, by simpa using hy2⟩
theorem szLoopW {α : Type} {L : Int × Int → Option (Int ⊕ Int)} {a : List α} {s : α → Int → Option Int} {w : α → Nat} {ok : α → Prop} {M : Int} (hM : M ≤ 9223372036854775807) (hs : ∀ x ∈ a, ∀ l, 0 ≤ l → l ≤ M → ∃ r, s x l = some r ∧ (r < 0 ∨ (0 ≤ r ∧ r + ((w x : Nat) : Int) ≤ l ∧ ok x)))
    (hL : ∀ x, L x = bif decide (x.2 < len a) then (getI a x.2).bind fun e => (s e x.1).bind fun r => bif decide (r < 0) then some (.inl (-1)) else L (r, w64 (x.2 + 1)) else some (.inr x.1))
    (hb : a.length < 9223372036854775807) {l : Int} (h0 : 0 ≤ l) (h1 : l ≤ M) : ∃ y, L (l, 0) = some y ∧ (y = .inl (-1) ∨ ∃ r, y = .inr r ∧ 0 ≤ r ∧ r + (((a.map w).sum : Nat) : Int) ≤ l ∧ ∀ x ∈ a, ok x) := by
  have key : ∀ (k i : Nat) (l : Int), i + k = a.length → 0 ≤ l → l ≤ M → ∃ y, L (l, (i : Int)) = some y ∧ (y = .inl (-1) ∨ ∃ r, y = .inr r ∧ 0 ≤ r ∧ r + ((((a.drop i).map w).sum : Nat) : Int) ≤ l ∧ ∀ x ∈ a.drop i, ok x) := by
    intro k
    induction k with
    | zero =>
      intro i l hi h0 h1
      refine ⟨.inr l, ?_, .inr ⟨l, rfl, h0, by rw [List.drop_eq_nil_of_le (by omega)]; simp, ?_⟩⟩
      · rw [hL, lt_len, decide_eq_false (by omega), cond_false]
      · rw [List.drop_eq_nil_of_le (by omega)]; simp
    | succ k ih =>
      intro i l hi h0 h1
      have hi1 : i < a.length := by omega
      obtain ⟨r, hr, hr2⟩ := hs _ (List.getElem_mem hi1) l h0 h1
      rw [hL, lt_len, decide_eq_true hi1, cond_true, getI_nat, List.getElem?_eq_getElem hi1, Option.bind_some, hr, Option.bind_some]
      rcases hr2 with hr2 | ⟨hr2, hr3, hok⟩
      · rw [decide_eq_true hr2, cond_true]
        exact ⟨_, rfl, .inl rfl⟩
      · rw [decide_eq_false (by omega), cond_false, w64_succ (by omega)]
        obtain ⟨y, hy, hy2⟩ := ih (i + 1) r (by omega) hr2 (by omega)
        refine ⟨y, hy, ?_⟩
        rcases hy2 with h | ⟨r', h3, h4, h5, h6⟩
        · exact .inl h
        · refine .inr ⟨r', h3, h4, by rw [List.drop_eq_getElem_cons hi1, List.map_cons, List.sum_cons]; omega, ?_⟩
          intro x hx
          rw [List.drop_eq_getElem_cons hi1, List.mem_cons] at hx
          rcases hx with rfl | hx
          · exact hok
          · exact h6 x hx
  obtain ⟨y, hy, hy2⟩ := key a.length 0 l (by omega) h0 h1
  exact ⟨y, hy, by simpa using hy2⟩
theorem w64_sub {l : Int} {n : Nat} (h0 : 0 ≤ l) (h1 : l ≤ 9223372036854775807) (hn : n ≤ 9223372036854775807) : w64 (l - (n : Int))=l - n:=w64_id (by omega) (by omega)
theorem mkI_ok {α : Type} {b : Nat} {z : α} {n : Nat} (h : n * b ≤ 1099511627776) (h2 : n ≤ 1099511627776) : mkI b z (n : Int)=some (List.replicate n z):=by
  unfold mkI
  rw [if_pos ⟨by omega,by simp only [lim]; omega,by simp only [lim]; omega⟩,Int.toNat_natCast]
theorem eqLoopR {α ρ : Type} {L : Int → Option (ρ ⊕ Unit)} {a : List α} {p : α → α → Option Bool} {r : ρ} (hp : ∀ x ∈ a, p x x = some true)
    (hL : ∀ x, L x = bif decide (x < len a) then (getI a x).bind fun e => (getI a x).bind fun f => (p e f).bind fun c => bif !c then some (.inl r) else L (w64 (x + 1)) else some (.inr ()))
    (hb : a.length < 9223372036854775807) : L 0 = some (.inr ()) := by
  have key : ∀ (k i : Nat), i + k = a.length → L (i : Int) = some (.inr ()) := by
    intro k
    induction k with
    | zero =>
      intro i hi
      rw [hL, lt_len, decide_eq_false (by omega), cond_false]
    | succ k ih =>
      intro i hi
      have h1 : i < a.length := by omega
      rw [hL, lt_len, decide_eq_true h1, cond_true, getI_nat, List.getElem?_eq_getElem h1, Option.bind_some, Option.bind_some, hp _ (List.getElem_mem h1), Option.bind_some, Bool.not_true, cond_false, w64_succ (by omega), ih (i + 1) (by omega)]
  exact key a.length 0 (by omega)
def smI (_ : Int) : Prop:=True
def smS (s : List UInt8) : Prop:=s.length ≤ 1048576
def smL {A : Type} (sm : A→Prop) (xs : List A) : Prop:=xs.length ≤ 1048576 ∧ ∀ x ∈ xs,sm x
theorem anyLoop {α ρ : Type} {L : Int → Option (ρ ⊕ Unit)} {a : List α} {p : α → Option Bool} {r : ρ} {q : α → Bool} (hp : ∀ x ∈ a, p x = some (q x))
    (hL : ∀ x, L x = bif decide (x < len a) then (getI a x).bind fun e => (p e).bind fun c => bif c then some (.inl r) else L (w64 (x + 1)) else some (.inr ()))
    (hb : a.length < 9223372036854775807) : L 0 = some (bif a.any q then .inl r else .inr ()) := by
  have key : ∀ (k i : Nat), i + k = a.length → L (i : Int) = some (bif (a.drop i).any q then .inl r else .inr ()) := by
    intro k
    induction k with
    | zero =>
      intro i hi
      rw [hL, lt_len, decide_eq_false (by omega), cond_false, List.drop_eq_nil_of_le (by omega)]
      rfl
    | succ k ih =>
      intro i hi
      have h1 : i < a.length := by omega
      rw [hL, lt_len, decide_eq_true h1, cond_true, getI_nat, List.getElem?_eq_getElem h1, Option.bind_some, hp _ (List.getElem_mem h1), Option.bind_some, w64_succ (by omega), ih (i + 1) (by omega), List.drop_eq_getElem_cons h1, List.any_cons]
      cases q a[i] <;> rfl
  simpa using key a.length 0 (by omega)
theorem idxLoop {α : Type} {L : Int → Option (Int ⊕ Unit)} {a : List α} {p : α → Option Bool} {q : α → Bool} (hp : ∀ x ∈ a, p x = some (q x))
    (hL : ∀ x, L x = bif decide (x < len a) then (getI a x).bind fun e => (p e).bind fun c => bif c then some (.inl x) else L (w64 (x + 1)) else some (.inr ()))
    (hb : a.length < 9223372036854775807) : L 0 = some (match a.findIdx? q with | some i => .inl (i : Int) | none => .inr ()) := by
  have key : ∀ (k i : Nat), i + k = a.length → L (i : Int) = some (match (a.drop i).findIdx? q with | some j => .inl ((i + j : Nat) : Int) | none => .inr ()) := by
    intro k
    induction k with
    | zero =>
      intro i hi
      rw [hL, lt_len, decide_eq_false (by omega), cond_false, List.drop_eq_nil_of_le (by omega)]
      rfl
    | succ k ih =>
      intro i hi
      have h1 : i < a.length := by omega
      rw [hL, lt_len, decide_eq_true h1, cond_true, getI_nat, List.getElem?_eq_getElem h1, Option.bind_some, hp _ (List.getElem_mem h1), Option.bind_some, w64_succ (by omega), ih (i + 1) (by omega), List.drop_eq_getElem_cons h1, List.findIdx?_cons]
      cases hq : q a[i]
      · simp only [cond_false, Bool.false_eq_true, if_false]
        cases (a.drop (i + 1)).findIdx? q with
        | none => rfl
        | some j => simp only [Option.map_some]; congr 3; omega
      · simp
  simpa using key a.length 0 (by omega)
theorem less_tri : ∀ (a b : List UInt8),(!(Op.bytesLess a b || a == b))=Op.bytesLess b a
  | [],[]=>rfl
  | [],b :: bs=>by simp [Op.bytesLess]
  | a :: ax,[]=>by simp [Op.bytesLess]
  | a :: ax,b :: bs=>by
    have ih:=less_tri ax bs
    rcases Nat.lt_trichotomy a.toNat b.toNat with h | h | h
    · have h1 : a < b:=UInt8.lt_iff_toNat_lt.2 h
      have h2 : ¬ b < a:=fun h'=>by have:=UInt8.lt_iff_toNat_lt.1 h'; omega
      have h3 : (b == a)=false:=by rw [beq_eq_false_iff_ne]; rintro rfl; omega
      simp [Op.bytesLess,h1,h2,h3]
    · have he : a=b:=UInt8.toNat_inj.1 h
      subst he
      have h1 : ¬ a < a:=fun h'=>by have:=UInt8.lt_iff_toNat_lt.1 h'; omega
      simpa [Op.bytesLess,h1] using ih
    · have h1 : b < a:=UInt8.lt_iff_toNat_lt.2 h
      have h2 : ¬ a < b:=fun h'=>by have:=UInt8.lt_iff_toNat_lt.1 h'; omega
      have h3 : (a == b)=false:=by rw [beq_eq_false_iff_ne]; rintro rfl; omega
      simp [Op.bytesLess,h1,h2,h3]
end Go.Ln
namespace Go.Ln
open Go
section
variable {α ρ : Type} {g : Int→α→Int × α} {M : Int}
def kept (keep : Nat→Bool) (a : List α) (n : Nat) : List α:=(List.range n).filterMap fun j=>if keep j=true then a[j]? else none
theorem kept_yes {keep : Nat→Bool} {a : List α} {n : Nat} {x : α} (h : keep n=true) (hx : a[n]?=some x) : kept keep a (n + 1)=kept keep a n ++ [x]:=by
  unfold kept
  rw [List.range_succ,List.filterMap_append]
  simp [h,hx]
theorem kept_no {keep : Nat→Bool} {a : List α} {n : Nat} (h : keep n=false) : kept keep a (n + 1)=kept keep a n:=by
  unfold kept
  rw [List.range_succ,List.filterMap_append]
  simp [h]
theorem kept_filter {p : α→Bool} {a : List α} {keep : Nat→Bool} (hk : ∀ (j : Nat) (x : α),a[j]?=some x→keep j=p x) : ∀ {n : Nat},n ≤ a.length→kept keep a n=(a.take n).filter p
  | 0,_=>rfl
  | n + 1,h=>by
    have h1 : n < a.length:=h
    have hx:=List.getElem?_eq_getElem h1
    rw [List.take_add_one,hx,List.filter_append,← kept_filter hk (Nat.le_of_lt h1)]
    cases hp : p a[n] with
    | true=>rw [kept_yes (by rw [hk n _ hx,hp]) hx]; simp [hp]
    | false=>rw [kept_no (by rw [hk n _ hx,hp])]; simp [hp]
theorem delLoop {L : Int × Int × List α → Option (ρ ⊕ (Int × List α))} {keep : Nat → Bool} {a : List α} {i0 : Nat}
    (hS : ∀ (i j : Nat) (z : List α) (x : α), z.length = a.length → i0 ≤ i → i < j → a[j]? = some x → z[j]? = some x → z[j - 1]? = a[j - 1]? → L ((i : Int), (j : Int), z) = bif keep j then L (((i + 1 : Nat) : Int), ((j + 1 : Nat) : Int), z.set i x) else L ((i : Int), ((j + 1 : Nat) : Int), z))
    (hE : ∀ (i j : Nat) (z : List α), z.length = a.length → i0 ≤ i → i < j → a.length ≤ j → L ((i : Int), (j : Int), z) = some (.inr ((i : Int), z)))
    (h0 : kept keep a (i0 + 1) = a.take i0) (hi : i0 < a.length) : ∃ (i : Nat) (z : List α), L ((i0 : Int), ((i0 + 1 : Nat) : Int), a) = some (.inr ((i : Int), z)) ∧ z.length = a.length ∧ i ≤ z.length ∧ z.take i = kept keep a a.length := by
  have key : ∀ (k i j : Nat) (z : List α), j + k = a.length → i0 ≤ i → i < j → z.length = a.length → z.drop (j - 1) = a.drop (j - 1) → z.take i = kept keep a j → ∃ (i' : Nat) (z' : List α), L ((i : Int), (j : Int), z) = some (.inr ((i' : Int), z')) ∧ z'.length = a.length ∧ i' ≤ z'.length ∧ z'.take i' = kept keep a a.length := by
    intro k
    induction k with
    | zero =>
      intro i j z hj h00 hij hz hd ht
      refine ⟨i, z, hE i j z hz h00 hij (by omega), hz, by omega, ?_⟩
      rw [ht, show j = a.length by omega]
    | succ k ih =>
      intro i j z hj h00 hij hz hd ht
      have h1 : j < a.length := by omega
      have hx := List.getElem?_eq_getElem h1
      have e1 : z[j]? = some a[j] := by
        have := congrArg (fun l => l[1]?) hd
        simp only [List.getElem?_drop] at this
        rw [show j - 1 + 1 = j by omega] at this
        rw [this, hx]
      have e2 : z[j - 1]? = a[j - 1]? := by
        have := congrArg (fun l => l[0]?) hd
        simpa only [List.getElem?_drop, Nat.add_zero] using this
      have e3 : z.drop j = a.drop j := by
        have := congrArg (List.drop 1) hd
        simpa only [List.drop_drop, show j - 1 + 1 = j by omega] using this
      rw [hS i j z a[j] hz h00 hij hx e1 e2]
      cases hk : keep j with
      | true =>
        rw [cond_true]
        refine ih (i + 1) (j + 1) (z.set i a[j]) (by omega) (by omega) (by omega) (by simpa using hz) ?_ ?_
        · rw [show j + 1 - 1 = j by omega, List.drop_set_of_lt hij, e3]
        · rw [kept_yes hk hx, ← ht, List.take_add_one, List.getElem?_set_self (by omega), List.take_set_of_le (Nat.le_refl i)]
          rfl
      | false =>
        rw [cond_false]
        refine ih i (j + 1) z (by omega) h00 (by omega) hz ?_ ?_
        · rw [show j + 1 - 1 = j by omega, e3]
        · rw [kept_no hk, ht]
  exact key (a.length - (i0 + 1)) i0 (i0 + 1) a (by omega) (Nat.le_refl _) (by omega) rfl rfl h0.symm
theorem cutL {β : Type} {i : Nat} {z : List α} {c : α} {F : List α → Option β} (h : i ≤ z.length) :
    (subP z.length (i : Int) (len z)).bind (fun _ => (clrP z (0 + Int.toNat (i : Int)) (Int.toNat (len z) - Int.toNat (i : Int)) c).bind fun k => (subP k.length 0 (i : Int)).bind fun _ => (partP k (0 + Int.toNat 0) (Int.toNat (i : Int) - Int.toNat 0)).bind F) = F (z.take i) := by
  have e1 : subP z.length (i : Int) (len z) = some () := by unfold subP; rw [if_pos (by simp only [len]; omega)]
  have e2 : clrP z (0 + Int.toNat (i : Int)) (Int.toNat (len z) - Int.toNat (i : Int)) c = some (z.take i ++ List.replicate (z.length - i) c) := by
    unfold clrP
    simp only [len, Int.toNat_natCast, Nat.zero_add]
    rw [if_pos (by omega), List.drop_eq_nil_of_le (by omega), List.append_nil]
  rw [e1, Option.bind_some, e2, Option.bind_some]
  have hl : (z.take i ++ List.replicate (z.length - i) c).length = z.length := by simp; omega
  have e3 : subP (z.take i ++ List.replicate (z.length - i) c).length 0 (i : Int) = some () := by rw [hl]; unfold subP; rw [if_pos (by omega)]
  have e4 : partP (z.take i ++ List.replicate (z.length - i) c) (0 + Int.toNat 0) (Int.toNat (i : Int) - Int.toNat 0) = some (z.take i) := by
    unfold partP
    rw [hl]
    simp only [Int.toNat_natCast, Nat.zero_add, Int.toNat_zero, Nat.sub_zero, List.drop_zero]
    rw [if_pos h, List.take_left' (by simp; omega)]
  rw [e3, Option.bind_some, e4, Option.bind_some]
end
end Go.Ln
namespace Go.Ln
open Go Go.Proofs Go.RowKit
structure Cell1 {α : Type} (fV : α→V) (fc : α→Value) : Prop where
  one : ∀ x,cells (fV x)=[fV x]
  out : ∀ {w : World} {ρ : Own} {L : Option Loc} {x : α} {u : Value},RepV w ρ rt0 L (fV x) u→u=fc x
  rep : ∀ (w : World) (ρ : Own) (L : Option Loc) (x : α),RepV w ρ rt0 L (fV x) (fc x)
  nh : ∀ x,nh (fV x)
theorem cell1_str : Cell1 str (fun l=>Value.string ⟨l.toArray⟩) where
  one:=fun x=>rfl
  out:=fun {w ρ L x u} h=>by
    have h' : RepV w ρ rt0 L (.str ⟨x.toArray⟩) u:=h
    cases h'; rfl
  rep:=fun w ρ L x=>.str _ _
  nh:=fun x=>by simp [str,Go.Ln.nh]
theorem sorted_heap {w : World} {b n : Nat} {α : Type} [Inhabited α] {fc : α → Value} {d : Array α} {os : Array Obj} {arr : Array Value} {T : TypeId} (hb : w.heap[b]? = some (.cells arr T (0, 0))) :
    (Sort.grow (Sort.putRow fc (Sort.ahead w n) b 0 d) os).heap[b]? = some (.cells (Sort.putCells fc 0 d arr) T (0, 0)) ∧
    (∀ k, k ≠ b → k < w.heap.size → (Sort.grow (Sort.putRow fc (Sort.ahead w n) b 0 d) os).heap[k]? = w.heap[k]?) ∧ w.heap.size ≤ (Sort.grow (Sort.putRow fc (Sort.ahead w n) b 0 d) os).heap.size := by
  have hlt : b < w.heap.size := (Array.getElem?_eq_some_iff.1 hb).1
  have hs : (Sort.putRow fc (Sort.ahead w n) b 0 d).heap.size = w.heap.size := by rw [Sort.size_putRow]; rfl
  have hk : ∀ k, k < w.heap.size → (Sort.grow (Sort.putRow fc (Sort.ahead w n) b 0 d) os).heap[k]? = (Sort.putRow fc (Sort.ahead w n) b 0 d).heap[k]? := by
    intro k hk
    simp only [Sort.grow]
    rw [Array.getElem?_append, if_pos (by omega)]
  refine ⟨?_, fun k h1 h2 => ?_, ?_⟩
  · rw [hk b hlt]
    simp only [Sort.putRow, Sort.mapBlock, Sort.ahead, Array.getElem?_modify, if_true]
    rw [hb]
    rfl
  · rw [hk k h2]
    simp only [Sort.putRow, Sort.mapBlock, Sort.ahead, Array.getElem?_modify]
    rw [if_neg (by omega)]
  · simp only [Sort.grow, Array.size_append]
    omega
theorem aft_sorted {w w' : World} {ρ : Own} {b : Nat} {l : List (Nat × Nat)} {arr arr' : Array Value} {T : TypeId} (hi : Inn w ρ) (hρ : ρ b = some (1, l)) (hb : w.heap[b]? = some (.cells arr T (0, 0))) (hb' : w'.heap[b]? = some (.cells arr' T (0, 0))) (hs : arr'.size = arr.size)
    (ho : ∀ k, k ≠ b → k < w.heap.size → w'.heap[k]? = w.heap[k]?) (hz : w.heap.size ≤ w'.heap.size) (h1 : w'.os = w.os) (h2 : w'.output = w.output) (h3 : w'.tape = w.tape) : Aft w ρ w' ρ := by
  refine ⟨⟨h1, h2, h3, hz, fun c n ⟨a, t, e1, e2⟩ => ?_⟩, fun c e1 e2 => ⟨e1, ho c (fun e => by subst e; rw [hρ] at e1; cases e1) e2⟩, fun c l' h => ⟨h, ho c (fun e => by subst e; rw [hρ] at h; cases h) (hi.lab c 0 l' h).1⟩, fun c l h => h, hi.inj, fun c o l h => ⟨Nat.lt_of_lt_of_le (hi.lab c o l h).1 hz, (hi.lab c o l h).2.imp id .inl⟩⟩
  by_cases e : c = b
  · subst e
    rw [hb] at e1
    cases e1
    exact ⟨arr', T, hb', by omega⟩
  · refine ⟨a, t, ?_, e2⟩
    rw [ho c e (Array.getElem?_eq_some_iff.1 e1).1]
    exact e1
theorem res_tup0 {w : World} {ρ : Own} : ResOk w ρ (.tup []) (.tuple #[]):=⟨fun _=>undef,rfl,fun c v h=>by simp [comps] at h⟩
theorem good_sort {α : Type} [Inhabited α] {P : Program} {G : Ground} {f : FuncId} {fV : α → V} {fc : α → Value} (C : Cell1 fV fc) {g : List α → Option (List α)} (he : ∀ us w, (callFunc f us).run P w = .ok (.enter f us) w)
    (h0 : ∀ (p : Option Addr) (c : Nat) (w : World), Calls P f #[.slice p 0 c] w fun e w' => e = .returned (.tuple #[]) ∧ w' = w) (hn : ∀ ys, g [] = some ys → ys = [])
    (h : ∀ (b c : Nat) (xs ys : List α) (w : World), g xs = some ys → Sort.Holds fc w b 0 xs.toArray → b < w.heap.size → ys.length = xs.length ∧ Calls P f #[.slice (some ⟨b, 0, none⟩) xs.length c] w fun e w' => e = .returned (.tuple #[]) ∧ ∃ n os, w' = Sort.grow (Sort.putRow fc (Sort.ahead w n) b 0 ys.toArray) os) :
    Good P G f (entT [true] (oA (usE 1 fV)) (fun r => (.tup [], [.usl 1 (r.map fV)])) g) := by
  intro w ρ vs us r outs hA hi hg hF
  obtain ⟨xs, ys, rfl, hq, h9⟩ := entT_of hF
  cases h9
  obtain ⟨hl, ha⟩ := hA
  obtain ⟨u, rfl⟩ : ∃ u, us = [u] := by
    match us, hl with
    | [u], _ => exact ⟨u, rfl⟩
  have hr : RepV w ρ rt0 (some (1, [(0, 0)])) (.usl 1 (xs.map fV)) u := slot_one rfl (ha 0 _ u rfl rfl).1
  have nhy : Go.Ln.nh (.usl 1 (ys.map fV)) := by
    simp only [Go.Ln.nh, nhs_iff, List.mem_map]
    rintro v ⟨y, _, rfl⟩
    exact C.nh y
  -- what a row in memory gives back
  have outs_of : ∀ (w' : World), RepV w' ρ rt0 (some (1, [(0, 0)])) (.usl 1 (ys.map fV)) u → OutsOk w ρ w' ρ [true] [.usl 1 (xs.map fV)] [u] [.usl 1 (ys.map fV)] := by
    intro w' hw' a v u' x e1 e2 e3 gg e4 k y z e5 e6 e7
    match a, e3 with
    | 0, e3 =>
      simp at e1 e2
      subst e1 e2
      have e8 : x = .usl 1 (ys.map fV) := (Option.some.inj e3).symm
      subst e8
      match k, e5 with
      | 0, e5 =>
        have e9 : y = .usl 1 (ys.map fV) := by simpa [cells] using e5.symm
        subst e9
        refine ⟨nhy, ?_, fun b n h1 h2 => h1⟩
        have : gg 0 = u := by rw [e4]; rfl
        rw [this]
        exact hw'
      | k + 1, e5 => simp [cells] at e5
    | a + 1, e3 => simp [outAt] at e3
  by_cases hx : xs = []
  · subst hx
    obtain rfl := hn ys hq
    have hu : ∃ p c, u = .slice p 0 c := by
      generalize hv : V.usl 1 (List.map fV []) = v at hr
      cases hr <;> simp at hv
      · exact ⟨_, _, rfl⟩
      · obtain ⟨_, rfl⟩ := hv; exact ⟨_, _, rfl⟩
    obtain ⟨p, c, rfl⟩ := hu
    refine .inr ⟨he _ _, (h0 p c w).mono fun e w' ⟨h1, h2⟩ => ⟨_, h1, ρ, ?_, res_tup0, ?_⟩⟩
    · subst h2
      exact ⟨Wk.refl, fun b e1 e2 => ⟨e1, rfl⟩, fun b l e1 => ⟨e1, rfl⟩, fun b l e1 => e1, hi.inj, fun b o l e1 => ⟨(hi.lab b o l e1).1, (hi.lab b o l e1).2.imp id .inl⟩⟩
    · subst h2
      exact outs_of _ hr
  · have hpos : 0 < xs.length := List.length_pos_iff.2 hx
    obtain ⟨b, c, arr, T, gg, hρ, hb, hlc, hu, hcap, hc⟩ : ∃ b c arr T, ∃ gg : Nat → Value, ρ b = some (1, [(0, 0)]) ∧ w.heap[b]? = some (.cells arr T (0, 0)) ∧ xs.length ≤ c ∧ u = .slice (some ⟨b, 0, none⟩) xs.length c ∧ c ≤ arr.size ∧ (∀ (i : Nat) (x : α), xs[i]? = some x → arr[i]? = some (fc x)) := by
      generalize hv : V.usl 1 (xs.map fV) = v at hr
      cases hr <;> simp at hv
      case usl0 => exact absurd hv.2 hx
      case usl s es b A c arr T gg hb hlc hA hcap hs hc hρ hrep =>
        obtain ⟨rfl, rfl⟩ := hv
        rw [List.length_map] at hlc
        refine ⟨b, c, arr, T, fun i => gg i 0, hρ, hb, hlc, ?_, by omega, fun i x hx => ?_⟩
        · rw [hA (by omega), List.length_map]
        · have e1 : (xs.map fV)[i]? = some (fV x) := by rw [List.getElem?_map, hx]; rfl
          have e2 : (cells (fV x))[0]? = some (fV x) := by rw [C.one]; rfl
          have e3 := hc i _ 0 _ e1 e2
          rw [C.out (hrep i _ 0 _ e1 e2), Nat.mul_one, Nat.add_zero] at e3
          exact e3
    subst hu
    have hblt : b < w.heap.size := (Array.getElem?_eq_some_iff.1 hb).1
    have hH : Sort.Holds fc w b 0 xs.toArray := by
      intro j hj
      have hj' : j < xs.length := by simpa using hj
      have e1 := hc j xs[j] (List.getElem?_eq_getElem hj')
      have e2 : xs.toArray[j]! = xs[j] := by rw [getElem!_pos _ j (by simpa using hj')]; simp
      refine ⟨?_, ?_⟩
      · simp only [World.cell?, hb, Nat.zero_add, e2]
        exact e1
      · simp only [World.frozen?, hb]
        simp
    obtain ⟨hlen, hcall⟩ := h b c xs ys w hq hH hblt
    refine .inr ⟨he _ _, hcall.mono fun e w' ⟨h1, n, os, h2⟩ => ⟨_, h1, ρ, ?_, res_tup0, ?_⟩⟩
    · subst h2
      obtain ⟨k1, k2, k3⟩ := sorted_heap (n := n) (fc := fc) (d := ys.toArray) (os := os) hb
      exact aft_sorted hi hρ hb k1 (by simp [Sort.putCells]) k2 k3 rfl rfl rfl
    · subst h2
      obtain ⟨k1, k2, k3⟩ := sorted_heap (n := n) (fc := fc) (d := ys.toArray) (os := os) hb
      refine outs_of _ ?_
      rw [← hlen, ← List.length_map (f := fV)]
      refine .usl _ 1 _ b _ c _ T (fun i _ => fc (ys[i]?.getD default)) hρ k1 (by rw [List.length_map]; omega) (fun _ => rfl) (by simp [Sort.putCells]; omega) ?_ ?_ ?_
      · intro i e h3
        rw [List.getElem?_map] at h3
        obtain ⟨x, _, rfl⟩ := Option.map_eq_some_iff.1 h3
        rw [C.one]; rfl
      · intro i e k x h3 h4
        rw [List.getElem?_map] at h3
        obtain ⟨y, h5, rfl⟩ := Option.map_eq_some_iff.1 h3
        rw [C.one] at h4
        match k, h4 with
        | 0, h4 =>
          obtain ⟨hi1, hi2⟩ := List.getElem?_eq_some_iff.1 h5
          have hi3 : i < arr.size := by omega
          rw [h5, Nat.mul_one, Nat.add_zero]
          simp only [Sort.putCells, Array.getElem?_mapIdx, Array.getElem?_eq_getElem hi3, Option.map_some]
          rw [if_pos ⟨Nat.zero_le _, by simpa using hi1⟩, Nat.sub_zero, getElem!_pos _ i (by simpa using hi1)]
          simp [hi2]
        | k + 1, h4 => simp at h4
      · intro i e k x h3 h4
        rw [List.getElem?_map] at h3
        obtain ⟨y, h5, rfl⟩ := Option.map_eq_some_iff.1 h3
        rw [C.one] at h4
        match k, h4 with
        | 0, h4 =>
          simp at h4
          subst h4
          rw [h5]
          exact C.rep _ _ _ _
        | k + 1, h4 => simp at h4
def xSortS (l : List (List UInt8)) : Option (List (List UInt8)):=bif Nat.ble l.length 1048576 then some (l.mergeSort fun x y=>decide (x ≤ y)) else none
theorem good_sortS {P : Program} {G : Ground} {ρ : Shelf.Ren} (L : Lays.n190 P ρ) : Good P G (ρ.f 190) (entT [true] (oA (usE 1 str)) (fun r=>(.tup [],[.usl 1 (r.map str)])) xSortS):=by
  refine good_sort cell1_str (Go.Proofs.enters_of L.f190 (by kernel_rfl) rfl) (fun p c w=>Any.slices_Sort_string_none L p c w) (fun ys h=>by cases h; exact List.mergeSort_nil) fun b c xs ys w hq hH hb=>?_
  unfold xSortS at hq
  cases hk : Nat.ble xs.length 1048576 with
  | false=>rw [hk] at hq; cases hq
  | true =>
    rw [hk] at hq
    cases hq
    have:=Nat.le_of_ble_eq_true hk
    exact ⟨List.length_mergeSort _,Any.slices_Sort_string L b 0 c xs w hH hb (by omega)⟩
end Go.Ln
