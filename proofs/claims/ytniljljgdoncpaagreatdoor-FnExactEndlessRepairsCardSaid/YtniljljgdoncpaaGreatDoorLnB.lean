/-
  A step by step reading of the printed code by values, proved sound once (part 2): no statement of the seat stands here.
-/
import Derived.Test.YtniljljgdoncpaaGreatDoorLnA
set_option linter.unusedVariables false
set_option linter.unusedSimpArgs false
set_option linter.unusedSectionVars false
namespace Go.Ln
open Go
variable {w w' : World} {ρ ρ' ρ'' : Own} {rt rt' rt'' : Store} {N : Nat→Nat→Prop}
structure Near (w:World) (ρ:Own) (w':World) (ρ':Own) (id:Nat):Prop where
 h1:∀b,ρ b=none→b<w.heap.size→ρ' b=none∧w'.heap[b]?=w.heap[b]?
 h2:∀b o l,ρ b=some (o,l)→(o≠id∨l≠[])→ρ' b=some (o,l)∧w'.heap[b]?=w.heap[b]?
 h3:∀b o l,ρ' b=some (o,l)→b<w'.heap.size∧(ρ b=some (o,l)∨(o=id∧l=[]))
 wk:Wk w w'
theorem Near.keep {id:Nat}(n:Near w ρ w' ρ' id)(hp:0<id)(hid:rt id=none)(hN:∀nv,N id nv){r:Option Root}:Keep N w ρ rt w' ρ' (upd rt id r):=by
 refine⟨fun b hb hl=>n.h1 b hb hl,fun o nv p hNo hl=>?_,fun b l hb=>n.h2 b 0 l hb (.inl (by omega))⟩
 have hne:o≠id:=by rintro rfl;exact hNo (hN nv)
 refine⟨by simpa[live,look,valid,upd,hne] using hl,fun b m hb hbl=>?_⟩
 exact⟨(n.h2 b o p hb (.inl hne)).1,n.wk.blk b m hbl⟩
theorem Near.eff {U:Pl}(a:AbsL N w ρ rt ρ' rt' U){id:Nat}(hp:0<id)(hU:∀o l,U o l→o=0∨o=id)(hid:rt id=none)(hN:∀nv,N id nv){w':World}{ρ'':Own}(n:Near w ρ' w' ρ'' id)(J:Inj ρ''){s:Nat}{es:List V}(row:RowOk w' ρ'' (upd rt' id (some ⟨0,s,es⟩)) (id,[]) s es)(hn:nhs es):Eff N w ρ rt w' ρ'' (upd rt' id (some ⟨0,s,es⟩)) id:=by
 have hid':=a.gone hid
 have K:=n.keep (N:=N) (rt:=rt') hp hid' hN (r:=some ⟨0,s,es⟩)
 refine⟨?_,J,?_,a.keep.trans K (Nat.le_refl _),?_,n.wk,?_,fun b l h=>a.f0 b l (by
  rcases (n.h3 b 0 l h).2 with h | h
  ·exact h
  ·omega)⟩
 ·intro o r h
  by_cases ho:o=id
  ·subst ho
   simp[upd] at h
   subst h
   exact row
  ·simp[upd,ho] at h
   exact RowOk.under K (fun b l hb _=>n.h2 b o l hb (.inl ho)) (a.rok o r h) (a.rtn o r h)
 ·intro o r h
  by_cases ho:o=id
  ·simp[upd,ho] at h
   subst h
   exact hn
  ·simp[upd,ho] at h
   exact a.rtn o r h
 ·refine⟨fun b o l h=>?_,by simp[upd,Nat.ne_of_lt hp,a.lab.z],fun b l h=>?_⟩
  rotate_left
  ·rcases (n.h3 b 0 l h).2 with h | h
   ·exact a.lab.f _ _ h
   ·omega
  obtain⟨h1,h2⟩:=n.h3 b o l h
  refine⟨h1,?_⟩
  by_cases ho:o=id
  ·exact .inr ⟨⟨0,s,es⟩,by simp[upd,ho]⟩
  ·rcases h2 with h2 | h2
   ·rcases (a.lab b o l h2).2 with hu | ⟨r,hu⟩
    ·rcases hU _ _ hu with h | h
     ·exact .inl h
     ·exact absurd h ho
    ·exact .inr ⟨r,by simp[upd,ho,hu]⟩
   ·exact absurd h2.1 ho
 ·intro o r h
  by_cases ho:o=id
  ·subst ho;exact .inr ⟨Nat.le_refl _,by simp[room]⟩
  ·simp[upd,ho] at h
   obtain⟨r',h',e,_⟩:=a.nv o r h
   exact .inl ⟨r',h',by omega⟩
theorem append_in {P:Program}{t t1 ty e e':TypeId}{i:TypeInfo}(ht:P.underlying t=some (.slice e))(ht1:P.underlying t1=some (.slice e'))(hi:P.info? e=some i){ts:Array TypeId}(h0:ts[0]?=some t)(h1:ts[1]?=some t1){g sLen sCap n:Nat}{cur:Array Value}{T:TypeId}{u:Value}{nw:List Value}(hg:w.heap[g]?=some (.cells cur T (0,0)))(hu:∃A c,u=.slice A n c)(hf:(Builtin.firstCells i.size n u).run P w=.ok nw.toArray w)(hone:∀v∈nw,v.oneCell'=true)(hroom:sLen+n≤sCap)(hfit:sLen*i.size+nw.length≤cur.size) :
  (Builtin.append_ ts ty #[.slice (some ⟨g,0,none⟩) sLen sCap,u]).run P w=.ok (.slice (some ⟨g,0,none⟩) (sLen+n) sCap) (w.setRow g (cur.toList.take (sLen*i.size)++nw++cur.toList.drop (sLen*i.size+nw.length)).toArray):=by
 obtain⟨A,c,rfl⟩:=hu
 have hst:=run_storeCells_at P g (sLen*i.size) T nw 0 cur w hg (by simpa using hfit) hone
 simp only[Nat.add_zero] at hst
 simp[Builtin.append_,h0,h1,run_underlying ht,run_underlying ht1,sizeOf,typeInfo,hi,Builtin.lenOf,hroom,hf,Addr.add_lit,hst]
theorem append_none {P:Program}{t t1 ty e e':TypeId}{i:TypeInfo}(ht:P.underlying t=some (.slice e))(ht1:P.underlying t1=some (.slice e'))(hi:P.info? e=some i){ts:Array TypeId}(h0:ts[0]?=some t)(h1:ts[1]?=some t1){A A':Option Addr}{sLen c c':Nat}(hc:sLen≤c):(Builtin.append_ ts ty #[.slice A sLen c,.slice A' 0 c']).run P w=.ok (.slice A sLen c) w:=by
 have hf:(Builtin.firstCells i.size 0 (.slice A' 0 c')).run P w=.ok #[] w:=by
  cases A' with
  | none=>exact run_firstCells_none w _ _ _ _
  | some a=>exact run_firstCells_some w i.size 0 a 0 c' [] (by simp) (by simp)
 cases A with
 | none=>simp[Builtin.append_,h0,h1,run_underlying ht,run_underlying ht1,sizeOf,typeInfo,hi,Builtin.lenOf,hc,hf]
 | some a=>simp[Builtin.append_,h0,h1,run_underlying ht,run_underlying ht1,sizeOf,typeInfo,hi,Builtin.lenOf,hc,hf,storeCells]
theorem append_new {P:Program}{t t1 ty e e':TypeId}{i:TypeInfo}{z:Value}(ht:P.underlying t=some (.slice e))(ht1:P.underlying t1=some (.slice e'))(hi:P.info? e=some i)(hz:i.zero=some z){ts:Array TypeId}(h0:ts[0]?=some t)(h1:ts[1]?=some t1){A:Option Addr}{sLen sCap n:Nat}{u:Value}{olds nw:List Value}(hu:∃A c,u=.slice A n c)(ho:(Builtin.firstCells i.size sLen (.slice A sLen sCap)).run P w.drew=.ok olds.toArray w.drew)(hf:(Builtin.firstCells i.size n u).run P w.drew=.ok nw.toArray w.drew)(hg:sCap<sLen+n)(hl:sLen+n≤lim)(hb:(sLen+n)*i.bytes≤lim) :
  (Builtin.append_ ts ty #[.slice A sLen sCap,u]).run P w=.ok (.slice (some ⟨w.heap.size,0,none⟩) (sLen+n) (grownCap w (sLen+n) sCap e))
   (w.drew.alloc (.cells (olds++nw++(Builtin.zeroCells z.cells (grownCap w (sLen+n) sCap e - (sLen+n))).toList).toArray e)):=by
 obtain⟨A',c,rfl⟩:=hu
 have hlim:lim=1099511627776:=rfl
 have hn:¬(sLen+n≤sCap):=by omega
 have h63':¬(9223372036854775807<((sLen:Int)+(n:Int))):=by omega
 have h48':¬(281474976710656<Builtin.nextslicecap (sLen+n) sCap*i.bytes):=by
  have h1:Builtin.nextslicecap (sLen+n) sCap*i.bytes≤2*(sLen+n)*i.bytes:=Nat.mul_le_mul_right _ (nextslicecap_le hg)
  rw[Nat.mul_assoc] at h1
  omega
 simp[Builtin.append_,h0,h1,run_underlying ht,run_underlying ht1,sizeOf,typeInfo,zeroValue,hi,hz,Builtin.lenOf,hn,h63',h48',Question.forced,hf,ho,newRow,grownCap]
 congr 2
 apply Array.ext'
 simp
theorem usl_parts {l:Loc}{s:Nat}{z:List V}{u:Value}(h:RepV w ρ rt (some l) (.usl s z) u):∃A c,∃g:Nat→Nat→Value,u=.slice A z.length c∧z.length≤c∧(∀(i:Nat) (e:V),z[i]?=some e→(cells e).length=s)∧
  (c≠0→∃b arr T,ρ b=some l∧w.heap[b]?=some (.cells arr T (0,0))∧A=some ⟨b,0,none⟩∧c*s≤arr.size∧∀(i:Nat) (e:V) k x,z[i]?=some e→(cells e)[k]?=some x→arr[i*s+k]?=some (g i k))∧
  (∀(i:Nat) (e:V) k x,z[i]?=some e→(cells e)[k]?=some x→RepV w ρ rt (some (l.at i k)) x (g i k)):=by
 cases h with
 | usl0 _ _ A=>exact⟨A,0,fun _ _=>undef,rfl,by simp,by simp,by simp,by simp⟩
 | usl _ _ _ b A c arr T g hρ hb hl hA hcap hs hc hh=>exact⟨A,c,g,rfl,hl,hs,fun h0=>⟨b,arr,T,hρ,hb,hA h0,hcap,hc⟩,hh⟩
theorem absorb_hs {o nv:Nat}{p:List (Nat×Nat)}{s off len:Nat}{v:V}(h:absorbCell rt (.hs o nv p s off len)=some (v,rt')){s1:Nat}{row:List V}(hl:look rt o nv p=some (s1,row)):v=.usl s1 (row.take len)∧s=s1∧off=0:=by
 unfold absorbCell at h
 unfold look at hl
 simp only[zqb] at h hl
 obtain⟨r,hr,x,hx,h⟩:=h
 obtain⟨r',hr',hx'⟩:=hl
 rw[hr] at hr'
 cases hr'
 rw[hx] at hx'
 cases hx'
 split at h
 ·rename_i hc
  simp only[zqm] at h
  obtain⟨_,_,h⟩:=h
  cases h
  exact⟨rfl,hc.2.2,hc.1⟩
 ·cases h
theorem src_nil (H:RtOk w ρ rt)(J:Inj ρ)(hr:RtN rt)(hL:Lab w ρ rt noU){id:Nat}(hp:0<id)(hid:rt id=none){es:List V}{g:Nat→Nat→Value}(hn:nhs es)(h:(rt'=rt∧∀(i:Nat) (e:V) k x,es[i]?=some e→(cells e)[k]?=some x→RepV w ρ rt none x (g i k))∨
   ∃q r,rt q=some r∧rt'=upd rt q none∧∀(i:Nat) (e:V) k x,es[i]?=some e→(cells e)[k]?=some x→RepV w ρ rt (some (q,[(i,k)])) x (g i k)) :
  ∃ρ1,AbsL N w ρ rt ρ1 rt' (fun o l=>o=0∨(o=id∧l≠[]))∧∀(i:Nat) (e:V) k x,es[i]?=some e→(cells e)[k]?=some x→RepV w ρ1 rt' (some (id,[(i,k)])) x (g i k):=by
 rcases h with⟨rfl,h⟩ | ⟨q,r,ho,rfl,h⟩
 ·exact⟨ρ,((Abs.refl H J hr hL).weaken fun o l h=>.inl h).l,fun i e k x he hx=>(h i e k x he hx).anyN⟩
 ·have hq0:q≠0:=by rintro rfl;rw[hL.z] at ho;cases ho
  have hqi:id≠q:=by rintro rfl;rw[ho] at hid;cases hid
  have a:=unroot (N:=N) H J hr hL ho
  obtain⟨K,b⟩:=shift_abs (n:=0) a.l (q:=q) (id:=id) (fun o l h=>h.imp (fun h=>h) fun h=>.inl h) hq0 (Nat.ne_of_gt hp) hqi (by simp[upd]) (a.gone hid)
  refine⟨_,{ b with lab:=⟨fun x o l hx=>⟨(b.lab x o l hx).1,?_⟩,b.lab.z,b.lab.f⟩ },fun i e k x he hx=>?_⟩
  ·rcases (b.lab x o l hx).2 with (h1 | rfl) | h1
   ·exact .inl (.inl h1)
   ·refine .inl (.inr ⟨rfl,?_⟩)
    rintro rfl
    rcases shift_inv hx with⟨_,h2,_⟩ | ⟨_,⟨i,k,t,_,h2⟩ | ⟨_,h2,_⟩⟩
    ·exact h2 rfl
    ·cases h2
    ·rcases (hL _ _ _ h2).2 with h3 | ⟨r',h3⟩
     ·exact absurd h3 (Nat.ne_of_gt hp)
     ·rw[hid] at h3;cases h3
   ·exact .inr h1
  ·have h1:=RepV.under a.keep (fun b l hb _=>⟨hb,rfl⟩) (h i e k x he hx) (nh_cell (nhs_get hn he) hx)
   simpa using h1.shift K (nh_cell (nhs_get hn he) hx)
theorem src_row (H:RtOk w ρ rt)(J:Inj ρ)(hr:RtN rt)(hL:Lab w ρ rt noU){id:Nat}(hp:0<id)(hid:rt id=none){es z:List V}{g:Nat→Nat→Value}(hn:nhs es)(h:(rt'=rt∧∀(i:Nat) (e:V) k x,es[i]?=some e→(cells e)[k]?=some x→RepV w ρ rt none x (g i k))∨
   ∃q r,rt q=some r∧rt'=upd rt q none∧∀(i:Nat) (e:V) k x,es[i]?=some e→(cells e)[k]?=some x→RepV w ρ rt (some (q,[(i,k)])) x (g i k)){o1 nv s:Nat}{p:List (Nat×Nat)}{dv:V}{ud:Value}(hd:RepV w ρ rt none (.hs o1 nv p s 0 z.length) ud)(hdn:noNew N (.hs o1 nv p s 0 z.length))(hz:look rt' o1 nv p=some (s,z))(hab:absorbCell rt' (.hs o1 nv p s 0 z.length)=some (dv,rt'')) :
  ∃ρ3,AbsL N w ρ rt ρ3 rt'' (fun o _=>o=0∨o=id)∧nhs z∧(∀(i:Nat) (e:V) k x,es[i]?=some e→(cells e)[k]?=some x→RepV w ρ3 rt'' (some (id,[(z.length+i,k)])) x (g i k))∧
   ∃A c,∃gz:Nat→Nat→Value,ud=.slice A z.length c∧z.length≤c∧(∀(i:Nat) (e:V),z[i]?=some e→(cells e).length=s)∧
    (c≠0→∃b arr T,ρ3 b=some (id,[])∧w.heap[b]?=some (.cells arr T (0,0))∧A=some ⟨b,0,none⟩∧c*s≤arr.size∧∀(i:Nat) (e:V) k x,z[i]?=some e→(cells e)[k]?=some x→arr[i*s+k]?=some (gz i k))∧
    (∀(i:Nat) (e:V) k x,z[i]?=some e→(cells e)[k]?=some x→RepV w ρ3 rt'' (some (id,[(i,k)])) x (gz i k)):=by
 rcases h with⟨rfl,h⟩ | ⟨q,r,ho,rfl,h⟩
 ·obtain⟨ρ2,ab2,dr,dn,dc⟩:=absorbCell_ok (N:=N) H J hr hL (q:=id) (dst:=[]) (fun l h=>absurd hp (by simp only[noU] at h;omega)) (Nat.ne_of_gt hp) hid hd hdn hab
  obtain⟨rfl,_,_⟩:=absorb_hs hab hz
  rw[List.take_length] at dr dn
  have hzn:nhs z:=by simpa[nh] using dn
  exact⟨ρ2,(ab2.weaken fun o l h=>h.imp (fun h=>h) fun h=>h.1).l,hzn,fun i e k x he hx=>((h i e k x he hx).keep ab2.keep (nh_noNew (nh_cell (nhs_get hn he) hx))).anyN,usl_parts dr⟩
 ·have hq0:q≠0:=by rintro rfl;rw[hL.z] at ho;cases ho
  have hqi:id≠q:=by rintro rfl;rw[ho] at hid;cases hid
  have a:=unroot (N:=N) H J hr hL ho
  obtain⟨ρ2,ab2,dr,dn,dc⟩:=absorbCell_ok (N:=N) a.rok a.inj a.rtn a.lab (q:=id) (dst:=[]) (fun l h=>h.elim (fun h=>absurd hp (by omega)) hqi) (Nat.ne_of_gt hp) (a.gone hid) (hd.keep a.keep hdn) hdn hab
  obtain⟨rfl,_,_⟩:=absorb_hs hab hz
  rw[List.take_length] at dr dn
  have hzn:nhs z:=by simpa[nh] using dn
  have abs:=a.trans ab2
  have hq:rt'' q=none:=ab2.gone (by simp[upd])
  obtain⟨K,b⟩:=shift_abs (n:=z.length) abs.l (q:=q) (id:=id) (fun o l h=>by
   rcases h with (h | h) | h
   ·exact .inl h
   ·exact .inr (.inl h)
   ·exact .inr (.inr h.1)) hq0 (Nat.ne_of_gt hp) hqi hq (abs.gone hid)
  obtain⟨A,c,gz,h1,h2,h3,h4,h5⟩:=usl_parts dr
  refine⟨_,b,hzn,fun i e k x he hx=>?_,A,c,gz,h1,h2,h3,fun hc=>?_,fun i e k x he hx=>?_⟩
  ·have q1:=RepV.under a.keep (fun b l hb _=>⟨hb,rfl⟩) (h i e k x he hx) (nh_cell (nhs_get hn he) hx)
   exact (ab2.tr q _ _ _ (by simp[upd]) q1 (nh_cell (nhs_get hn he) hx)).shift K (nh_cell (nhs_get hn he) hx)
  ·obtain⟨b,arr,T,q1,q2,q3,q4,q5⟩:=h4 hc
   exact⟨b,arr,T,shift_nil q1 hqi,q2,q3,q4,q5⟩
  ·exact RepV.shift_low hqi K (zqg.1 he).1 (h5 i e k x he hx) (nh_cell (nhs_get hzn he) hx)
section
variable {P : Program} {E : Env} (A : Agree P E) {st : St} {a : Act} {o : Oper} (H : RtOk w ρ st.rt) (J : Inj ρ) (T : TmOk w ρ st.rt st.tm a.tmps) (hr : RtN st.rt) (hL : Lab w ρ st.rt noU) {Un : Nat→Prop} {id : Nat} (hm : TmN (NewOf Un st.rt) st.tm) (hi : Fresh Un st.rt id)
include A H J T hr hL hm hi
theorem n_append {t t1:TypeId}{x y:Operand}{d xv v:V}{ts:Array TypeId}{rt':Store}(ho:o.op=.call { callee:=.builtin .append,args:=#[x,y],argTypes:=ts })(h0:ts[0]?=some t)(h1:ts[1]?=some t1)(hs1:isSliceD (E.desc t1)=true)(hd:ev st x=some d)(hx:ev st y=some xv)(h:appendV E st.rt id t d xv=some (v,rt')) :
  ∃u w',(execOp a.eval o).run P w=.ok (.value u) w'∧Out Un w ρ st.rt id v rt' u w':=by
 obtain⟨e',he'⟩:∃e',P.underlying t1=some (.slice e'):=by
  cases hq:E.desc t1 with
  | none=>simp[hq,isSliceD] at hs1
  | some d=>cases d<;>simp[hq,isSliceD] at hs1;exact⟨_,A.desc hq⟩
 have hN:∀nv,NewOf Un st.rt id nv:=fun nv=>.inl hi.uid
 have hid:=hi.at
 have go:∀u w',(Builtin.append_ ts o.type #[a.eval x,a.eval y]).run P w=.ok u w'→Out Un w ρ st.rt id v rt' u w'→∃u w',(execOp a.eval o).run P w=.ok (.value u) w'∧Out Un w ρ st.rt id v rt' u w':=by
  intro u w' hrun hout
  exact⟨u,w',by simp[execOp,ho,resolve,invoke,builtin,hrun],hout⟩
 unfold appendV at h
 split at h
 ·rename_i e sz bt zv htt
  simp only[zqb] at h
  obtain⟨ei,hei,⟨es,rt1⟩,hes,h⟩:=h
  split at h
  ·rename_i hall
   simp only at hall
   obtain⟨⟨hpos,hzs⟩,hall⟩:=hall
   have hall':∀e∈es,(cells e).length=ei.size∧(cells e).all cellV=true:=fun e he=>by
    have:=List.all_eq_true.1 hall e he
    simp only[Bool.and_eq_true,beq_iff_eq] at this
    exact this
   have hsz:∀e∈es,(cells e).length=ei.size:=fun e he=>(hall' e he).1
   obtain⟨i,hi1,hi2,hi3,hi4⟩:=A.info e ei hei
   have hu:=A.und t _ htt
   simp only at hu
   have hxa:isAggV xv=false:=by cases xv<;>first | rfl | simp[takeEls] at hes
   obtain⟨g,hesn,src,hmv⟩:=takeEls_ok (N:=NewOf Un st.rt) H J hr hL (Slot.one hxa (ev_rep T hx)) (ev_nn hm hx) hes hsz hpos
   have shape:=src.shape
   obtain⟨Ax,cx,hux,hAx⟩:=shape
   have hfirst:∀w1:World,w1.heap=w.heap→(Builtin.firstCells i.size es.length (a.eval y)).run P w1=.ok (news es.length ei.size g).toArray w1:=fun w1 hw1=>by
    rw[hi2]
    exact src.first hsz hw1
   have hone:∀v∈news es.length ei.size g,v.oneCell'=true:=by
    rcases hmv with⟨_,h⟩ | ⟨q,r,_,_,h⟩
    ·exact news_one h hall'
    ·exact news_one h hall'
   split at h
   ·-- nothing yet
    rename_i nl
    split at h
    ·rename_i hlim
     cases h
     simp only at hlim ⊢
     obtain⟨l1,l2⟩:=hlim
     have hdr:=Slot.one rfl (ev_rep T hd)
     have hud:a.eval x=.slice none 0 0:=by
      generalize a.eval x=ud at hdr
      cases hdr with
      | isl0 _ _ _ c hn=>obtain⟨rfl,rfl⟩:=hn rfl;rfl
     obtain⟨ρ1,ab,hrep⟩:=src_nil (N:=NewOf Un st.rt) H J hr hL hi.p hid hesn hmv
     by_cases hne:es=[]
     ·subst hne
      have hrun:=append_none (P:=P) (w:=w) (ty:=o.type) hu he' hi1 h0 h1 (A:=none) (sLen:=0) (c:=0) (A':=Ax) (c':=cx) (Nat.le_refl _)
      refine go (.slice none 0 0) w (by rw[hud,hux];exact hrun) ⟨ρ1,?_,Slot.mk1 rfl (.hs _ _ _ _ _ _ _ _ (fun _=>⟨0,none,rfl,Nat.le_refl _,fun h=>absurd rfl h⟩) trivial),new_val_hs A H J T hr hL hm hi⟩
      refine Near.eff ab hi.p (fun o l h=>h.imp (fun h=>h) fun h=>h.1) hid hN ⟨fun b hb _=>⟨hb,rfl⟩,fun b o l hb _=>⟨hb,rfl⟩,fun b o l hb=>⟨(ab.lab b o l hb).1,.inl hb⟩,Wk.refl⟩ ab.inj (.inl rfl) hesn
     ·have hpe:0<es.length:=List.length_pos_iff.2 hne
      have hrun:=append_new (P:=P) (w:=w) (ty:=o.type) (u:=a.eval y) (olds:=[]) hu he' hi1 hi4 h0 h1 (A:=none) (sLen:=0) (sCap:=0) (n:=es.length) ⟨_,_,hux⟩ (by simp[run_firstCells_none]) (hfirst _ rfl) (by omega) (by omega) (by rw[Nat.zero_add,hi3];exact l1)
      rw[Nat.zero_add] at hrun
      simp only[List.nil_append] at hrun
      generalize hcap:grownCap w es.length 0 e=cap at hrun
      have hge:es.length≤cap:=by rw[←hcap];exact grownCap_ge _ _ _ _
      generalize harr:(news es.length ei.size g++(Builtin.zeroCells ei.zv.cells (cap - es.length)).toList).toArray=arr at hrun
      refine go _ _ (by rw[hud];exact hrun) ⟨lab1 ρ1 w.heap.size (id,[]),?_,Slot.mk1 rfl (new_hs (w:=w) (w':=w.drew.alloc (.cells arr e)) rfl hge ?_),new_val_hs A H J T hr hL hm hi⟩
      ·refine AbsL.newRoot (w':=w.drew.alloc (.cells arr e)) (es:=es) (T:=e) (g:=g) ab hi.p (fun o l h=>h) hid hN rfl rfl rfl rfl (fun i e he=>hsz e (zqo he)) ?_ hrep hesn
       intro i e k x he hx
       have hi':=(zqg.1 he).1
       have hk:=(zqg.1 hx).1
       rw[hsz e (zqo he)] at hk
       rw[←harr,List.getElem?_toArray,zql]
       ·exact news_at hi' hk
       ·exact (zqg.1 (news_at (g:=g) hi' hk)).1
      ·rw[←harr]
       simp only[List.size_toArray,List.length_append,news_len,Array.length_toList,size_zeroCells,hzs]
       rw[←Nat.add_mul]
       exact Nat.mul_le_mul_right _ (by omega)
    ·cases h
   ·rename_i o1 nv p s off len
    simp only[zqb] at h
    obtain⟨⟨s1,z⟩,hz,h⟩:=h
    split at h
    ·rename_i hcond
     simp only at hcond
     obtain⟨c1,c2,c3,c4,c5⟩:=hcond
     simp only[zqm] at h
     obtain⟨⟨dv,rt2⟩,hab,h⟩:=h
     cases h
     have hdn:=ev_nn hm hd
     obtain⟨rfl,hs1',rfl⟩:=absorb_hs hab hz
     subst hs1'
     subst c2
     subst c3
     obtain⟨ρ2,abs,hzn,hesr,Ad,c,gz,hud,hlc,hzl,hblk,hzr⟩:=src_row (N:=NewOf Un st.rt) H J hr hL hi.p hid hesn hmv (Slot.one rfl (ev_rep T hd)) hdn hz hab
     have hesn':nhs (z++es):=nhs_iff.2 fun x hx=>by
      rcases List.mem_append.1 hx with h | h
      ·exact nhs_iff.1 hzn x h
      ·exact nhs_iff.1 hesn x h
     have hU:∀o l,(fun (o:Nat) (_:List (Nat×Nat))=>o=0∨o=id) o l→o=0∨o=id:=fun o l h=>h
     have hzl':∀e∈z,(cells e).length=ei.size:=fun e he=>by
      obtain⟨j,hj⟩:=List.mem_iff_getElem?.1 he
      exact hzl j e hj
     have hboth:∀(j:Nat) (e:V),(z++es)[j]?=some e→(j<z.length∧z[j]?=some e)∨(z.length≤j∧es[j - z.length]?=some e):=fun j e he=>by
      by_cases hj:j<z.length
      ·rw[zql hj] at he;exact .inl ⟨hj,he⟩
      ·rw[zqr (by omega)] at he;exact .inr ⟨by omega,he⟩
     by_cases hne:es=[]
     ·subst hne
      have hrun:=append_none (P:=P) (w:=w) (ty:=o.type) hu he' hi1 h0 h1 (A:=Ad) (sLen:=z.length) (c:=c) (A':=Ax) (c':=cx) hlc
      simp only[List.append_nil,List.length_nil,Nat.add_zero] at go ⊢
      refine go (.slice Ad z.length c) w (by rw[hud,hux];exact hrun) ⟨ρ2,?_,Slot.mk1 rfl (.hs _ _ _ _ _ _ _ _ (fun _=>⟨c,Ad,rfl,hlc,fun hc0=>?_⟩) trivial),new_val_hs A H J T hr hL hm hi⟩
      ·have n0:Near w ρ2 w ρ2 id:=⟨fun b hb _=>⟨hb,rfl⟩,fun b o l hb _=>⟨hb,rfl⟩,fun b o l hb=>⟨(abs.lab b o l hb).1,.inl hb⟩,Wk.refl⟩
       refine Near.eff abs hi.p hU hid hN n0 abs.inj ?_ hzn
       refine RowOk.under (n0.keep (N:=NewOf Un st.rt) (rt:=rt2) hi.p (abs.gone hid) hN) (fun b l hb _=>⟨hb,rfl⟩) ?_ hzn
       by_cases hz0:z=[]
       ·exact .inl hz0
       ·obtain⟨b,arr,TT,q1,q2,rfl,q4,q5⟩:=hblk (by have:=List.length_pos_iff.2 hz0;omega)
        exact .inr ⟨b,arr,TT,gz,q1,q2,hzl,q5,hzr⟩
      ·obtain⟨b,arr,TT,q1,q2,rfl,q4,q5⟩:=hblk hc0
       exact⟨b,_,q1,⟨arr,TT,q2,rfl⟩,by simp,by simpa using q4⟩
     ·have hpe:0<es.length:=List.length_pos_iff.2 hne
      by_cases hroom:z.length+es.length≤c
      ·-- in place
       obtain⟨b,arr,TT,q1,q2,rfl,q4,q5⟩:=hblk (by omega)
       have hfit:z.length*ei.size+es.length*ei.size≤arr.size:=by
        rw[←Nat.add_mul]
        exact Nat.le_trans (Nat.mul_le_mul_right _ hroom) q4
       have hrun:=append_in (P:=P) (ty:=o.type) hu he' hi1 h0 h1 (u:=a.eval y) (sLen:=z.length) (sCap:=c) (n:=es.length) q2 ⟨_,_,hux⟩ (hfirst w rfl) hone hroom (by rw[news_len,hi2];exact hfit)
       rw[news_len,hi2] at hrun
       generalize harr':(arr.toList.take (z.length*ei.size)++news es.length ei.size g++arr.toList.drop (z.length*ei.size+es.length*ei.size)).toArray=arr' at hrun
       have hget':∀j,arr'[j]?=if z.length*ei.size≤j∧j<z.length*ei.size+es.length*ei.size then (news es.length ei.size g)[j - z.length*ei.size]? else arr[j]?:=fun j=>by
        rw[←harr',List.getElem?_toArray,seg_get' (n:=es.length*ei.size) news_len (by simpa using hfit)]
        simp
       have hsz':arr'.size=arr.size:=by rw[←harr'];simp[news_len];omega
       have hw1:=setRow_heap w b arr arr' TT (0,0) q2
       have hw2:∀c,c≠b→(w.setRow b arr').heap[c]?=w.heap[c]?:=fun c hc=>setRow_other w b c arr' hc
       have n0:Near w ρ2 (w.setRow b arr') ρ2 id:=by
        refine⟨fun b' hb _=>⟨hb,hw2 b' (by rintro rfl;rw[q1] at hb;cases hb)⟩,fun b' o l hb hn=>⟨hb,hw2 b' (by rintro rfl;rw[q1] at hb;cases hb;rcases hn with h | h<;>exact h rfl)⟩,fun b' o l hb=>⟨by simpa using (abs.lab b' o l hb).1,.inl hb⟩,rfl,rfl,rfl,by simp,fun b' n hb=>?_⟩
        obtain⟨a1,t1,p1,p2⟩:=hb
        by_cases hbb:b'=b
        ·subst hbb
         rw[q2] at p1
         cases p1
         exact⟨arr',TT,hw1,by rw[hsz',p2]⟩
        ·exact⟨a1,t1,by rw[hw2 b' hbb];exact p1,p2⟩
       have K:=n0.keep (N:=NewOf Un st.rt) (rt:=rt2) (r:=some ⟨0,ei.size,z++es⟩) hi.p (abs.gone hid) hN
       refine go _ _ (by rw[hud];exact hrun) ⟨ρ2,?_,Slot.mk1 rfl (.hs _ _ _ _ _ _ _ _ (fun _=>⟨c,_,rfl,hroom,fun _=>⟨b,arr'.size,q1,⟨arr',TT,hw1,rfl⟩,by simp,by rw[hsz'];simpa using q4⟩⟩) trivial),new_val_hs A H J T hr hL hm hi⟩
       refine Near.eff abs hi.p hU hid hN n0 abs.inj (.inr ⟨b,arr',TT,fun i k=>if i<z.length then gz i k else g (i - z.length) k,q1,hw1,?_,?_,?_⟩) hesn'
       ·intro j e he
        rcases hboth j e he with⟨_,h⟩ | ⟨_,h⟩
        ·exact hzl j e h
        ·exact hsz e (zqo h)
       ·intro j e k x he hx
        have hk:=(zqg.1 hx).1
        rcases hboth j e he with⟨hj,h⟩ | ⟨hj,h⟩
        ·rw[hzl j e h] at hk
         have:(j+1)*ei.size≤z.length*ei.size:=Nat.mul_le_mul_right _ hj
         rw[Nat.succ_mul] at this
         show arr'[j*ei.size+k]?=some (if j<z.length then _ else _)
         rw[if_pos hj,hget',if_neg (by omega)]
         exact q5 j e k x h hx
        ·have hje:=(zqg.1 h).1
         rw[hsz e (zqo h)] at hk
         have e1:j*ei.size+k=z.length*ei.size+((j - z.length)*ei.size+k):=by
          rw[←Nat.add_assoc,←Nat.add_mul]
          congr 2
          omega
         have e2:=news_at (g:=g) hje hk
         have e3:=(zqg.1 e2).1
         rw[news_len] at e3
         show arr'[j*ei.size+k]?=some (if j<z.length then _ else _)
         rw[if_neg (by omega),hget',if_pos (by omega),e1,Nat.add_sub_cancel_left]
         exact e2
       ·intro j e k x he hx
        rcases hboth j e he with⟨hj,h⟩ | ⟨hj,h⟩
        ·show RepV _ _ _ _ _ (if j<z.length then _ else _)
         rw[if_pos hj]
         exact RepV.under K (fun b l hb hp=>n0.h2 b id l hb (.inr (by rintro rfl;obtain⟨t,ht⟩:=hp;simp at ht))) (hzr j e k x h hx) (nh_cell (nhs_get hzn h) hx)
        ·show RepV _ _ _ _ _ (if j<z.length then _ else _)
         rw[if_neg (by omega)]
         have e1:Loc.at (id,[]) j k=((id,[(z.length+(j - z.length),k)]):Loc):=by rw[show z.length+(j - z.length)=j by omega];rfl
         rw[e1]
         exact RepV.under K (fun b l hb hp=>n0.h2 b id l hb (.inr (by rintro rfl;obtain⟨t,ht⟩:=hp;simp at ht))) (hesr _ e k x h hx) (nh_cell (nhs_get hesn h) hx)
      ·-- elsewhere
       have hlo:∀w1:World,w1.heap=w.heap→(Builtin.firstCells i.size z.length (.slice Ad z.length c)).run P w1=.ok (news z.length ei.size gz).toArray w1:=fun w1 hw1=>by
        rw[hi2]
        refine first_of (fun hzne=>?_) hzl' hw1
        obtain⟨b,arr,TT,q1,q2,rfl,q4,q5⟩:=hblk (by have:=List.length_pos_iff.2 hzne;omega)
        refine⟨b,0,rfl,fun i e k x he hx=>?_⟩
        rw[Nat.zero_add]
        simp only[World.cell?,q2]
        exact q5 i e k x he hx
       have hrun:=append_new (P:=P) (w:=w) (ty:=o.type) (u:=a.eval y) hu he' hi1 hi4 h0 h1 (A:=Ad) (sLen:=z.length) (sCap:=c) (n:=es.length) ⟨_,_,hux⟩ (hlo _ rfl) (hfirst _ rfl) (by omega) c5 (by rw[hi3];exact c4)
       generalize hcap:grownCap w (z.length+es.length) c e=cap at hrun
       have hge:z.length+es.length≤cap:=by rw[←hcap];exact grownCap_ge _ _ _ _
       generalize harr:(news z.length ei.size gz++news es.length ei.size g++(Builtin.zeroCells ei.zv.cells (cap - (z.length+es.length))).toList).toArray=arr at hrun
       let ρ3:Own:=fun b=>if b=w.heap.size then some (id,[]) else if ρ2 b=some (id,[]) then none else ρ2 b
       have hw:(w.drew.alloc (.cells arr e)).heap=w.heap.push (.cells arr e (0,0)):=rfl
       have hlt:∀b o l,ρ2 b=some (o,l)→b<w.heap.size:=fun b o l hb=>(abs.lab b o l hb).1
       have hold:∀b,b<w.heap.size→(w.drew.alloc (.cells arr e)).heap[b]?=w.heap[b]?:=fun b hb=>by
        rw[hw,Array.getElem?_push,if_neg (by omega)]
       have n0:Near w ρ2 (w.drew.alloc (.cells arr e)) ρ3 id:=by
        refine⟨fun b hb hl=>⟨?_,hold b hl⟩,fun b o l hb hn=>⟨?_,hold b (hlt b o l hb)⟩,fun b o l hb=>?_,Wk.push hw rfl rfl rfl⟩
        ·simp[ρ3,Nat.ne_of_lt hl,hb]
        ·have:=hlt b o l hb
         simp only[ρ3]
         rw[if_neg (by omega),if_neg]
         ·exact hb
         ·rw[hb]
          intro hq
          cases hq
          rcases hn with h | h<;>exact h rfl
        ·simp only[ρ3] at hb
         split at hb
         ·cases hb
          rename_i hb'
          subst hb'
          exact⟨by rw[hw];simp,.inr ⟨rfl,rfl⟩⟩
         ·split at hb
          ·cases hb
          ·exact⟨by rw[hw];have:=hlt b o l hb;simp;omega,.inl hb⟩
       have J3:Inj ρ3:=by
        intro b b' L hb hb'
        simp only[ρ3] at hb hb'
        split at hb<;>split at hb'
        ·simp_all
        ·cases hb
         split at hb'
         ·cases hb'
         ·rename_i h ;exact absurd hb' h
        ·cases hb'
         split at hb
         ·cases hb
         ·rename_i h ;exact absurd hb h
        ·split at hb
         ·cases hb
         ·split at hb'
          ·cases hb'
          ·exact abs.inj _ _ _ hb hb'
       have K:=n0.keep (N:=NewOf Un st.rt) (rt:=rt2) (r:=some ⟨0,ei.size,z++es⟩) hi.p (abs.gone hid) hN
       have hb3:ρ3 w.heap.size=some (id,[]):=by simp[ρ3]
       have hsz3:cap*ei.size≤arr.size:=by
        rw[←harr]
        simp only[List.size_toArray,List.length_append,news_len,Array.length_toList,size_zeroCells,hzs]
        rw[←Nat.add_mul,←Nat.add_mul]
        exact Nat.mul_le_mul_right _ (by omega)
       have hnew:(w.drew.alloc (.cells arr e)).heap[w.heap.size]?=some (.cells arr e (0,0)):=by rw[hw];simp
       refine go _ _ (by rw[hud];exact hrun) ⟨ρ3,?_,Slot.mk1 rfl (.hs _ _ _ _ _ _ _ _ (fun _=>⟨cap,_,rfl,hge,fun _=>⟨w.heap.size,arr.size,hb3,⟨arr,e,hnew,rfl⟩,by simp,by simpa using hsz3⟩⟩) trivial),new_val_hs A H J T hr hL hm hi⟩
       refine Near.eff abs hi.p hU hid hN n0 J3 (.inr ⟨w.heap.size,arr,e,fun i k=>if i<z.length then gz i k else g (i - z.length) k,hb3,hnew,?_,?_,?_⟩) hesn'
       ·intro j e he
        rcases hboth j e he with⟨_,h⟩ | ⟨_,h⟩
        ·exact hzl j e h
        ·exact hsz e (zqo h)
       ·intro j e k x he hx
        have hk:=(zqg.1 hx).1
        rw[←harr,List.getElem?_toArray]
        rcases hboth j e he with⟨hj,h⟩ | ⟨hj,h⟩
        ·rw[hzl j e h] at hk
         have e2:=news_at (g:=gz) hj hk
         have e3:=(zqg.1 e2).1
         show _=some (if j<z.length then _ else _)
         rw[if_pos hj,List.append_assoc,zql e3]
         exact e2
        ·have hje:=(zqg.1 h).1
         rw[hsz e (zqo h)] at hk
         have e1:j*ei.size+k=z.length*ei.size+((j - z.length)*ei.size+k):=by
          rw[←Nat.add_assoc,←Nat.add_mul]
          congr 2
          omega
         have e2:=news_at (g:=g) hje hk
         have e3:=(zqg.1 e2).1
         show _=some (if j<z.length then _ else _)
         rw[if_neg (by omega),List.append_assoc,e1,zqr (by rw[news_len];omega),news_len,Nat.add_sub_cancel_left,zql e3]
         exact e2
       ·intro j e k x he hx
        rcases hboth j e he with⟨hj,h⟩ | ⟨hj,h⟩
        ·show RepV _ _ _ _ _ (if j<z.length then _ else _)
         rw[if_pos hj]
         exact RepV.under K (fun b l hb hp=>n0.h2 b id l hb (.inr (by rintro rfl;obtain⟨t,ht⟩:=hp;simp at ht))) (hzr j e k x h hx) (nh_cell (nhs_get hzn h) hx)
        ·show RepV _ _ _ _ _ (if j<z.length then _ else _)
         rw[if_neg (by omega)]
         have e1:Loc.at (id,[]) j k=((id,[(z.length+(j - z.length),k)]):Loc):=by rw[show z.length+(j - z.length)=j by omega];rfl
         rw[e1]
         exact RepV.under K (fun b l hb hp=>n0.h2 b id l hb (.inr (by rintro rfl;obtain⟨t,ht⟩:=hp;simp at ht))) (hesr _ e k x h hx) (nh_cell (nhs_get hesn h) hx)
    ·cases h
   ·cases h
  ·cases h
 ·cases h
end
end Go.Ln
namespace Go.Ln
open Go
variable {w w' : World} {ρ ρ' ρ'' : Own} {rt rt' rt'' : Store} {N : Nat→Nat→Prop}
def rootOf:V→Root
 | .usl s es=>⟨0,s,es⟩
 | .uptr e=>⟨0,(cells e).length,[e]⟩
 | _=>⟨0,0,[]⟩
def handleOf (id:Nat):V→V
 | .usl s es=>.hs id 0 [] s 0 es.length
 | .uptr e=>.hp id 0 [] (cells e).length 0 0
 | v=>v
theorem own_or (v:V):notOwn v∨(∃s es,v=.usl s es)∨∃e,v=.uptr e:=by cases v<;>simp[notOwn]
abbrev NewR:=Nat×Nat×Root
theorem instC_own {c id k:Nat}{x:V}{vs:List V}(h:¬notOwn x):instC c id k (x::vs)=(handleOf id x::(instC c (id+1) (k+1) vs).1,(c,k,rootOf x)::(instC c (id+1) (k+1) vs).2):=by
 cases x<;>first | rfl | exact absurd trivial h
theorem instC_not {c id k:Nat}{x:V}{vs:List V}(h:notOwn x):instC c id k (x::vs)=(x::(instC c id (k+1) vs).1,(instC c id (k+1) vs).2):=by
 cases x<;>first | rfl | exact h.elim
theorem instC_spec {c:Nat}:∀{vs:List V} {id k:Nat},(instC c id k vs).1.length=vs.length∧
  (∀(j:Nat) (e:NewR),(instC c id k vs).2[j]?=some e→∃k' x,vs[k']?=some x∧e=(c,k+k',rootOf x)∧¬notOwn x)∧
  (∀(k':Nat) (x:V),vs[k']?=some x→(notOwn x∧(instC c id k vs).1[k']?=some x)∨(¬notOwn x∧∃j:Nat,(instC c id k vs).2[j]?=some (c,k+k',rootOf x)∧(instC c id k vs).1[k']?=some (handleOf (id+j) x)))∧
  (∀(i j:Nat) (e e':NewR),(instC c id k vs).2[i]?=some e→(instC c id k vs).2[j]?=some e'→e.2.1=e'.2.1→i=j)
 | [],id,k=>by simp[instC]
 | x::vs,id,k=>by
  by_cases hx:notOwn x
  ·rw[instC_not hx]
   obtain⟨h1,h2,h3,h4⟩:=instC_spec (c:=c) (vs:=vs) (id:=id) (k:=k+1)
   refine⟨by simp[h1],fun j e he=>?_,fun k' y hy=>?_,h4⟩
   ·obtain⟨k',y,hy,e1,e2⟩:=h2 j e he
    exact⟨k'+1,y,by simpa using hy,by rw[e1];congr 2;omega,e2⟩
   ·cases k' with
    | zero=>simp at hy;subst hy;exact .inl ⟨hx,by simp⟩
    | succ k'=>
     rcases h3 k' y (by simpa using hy) with h | ⟨h,j,hj,hj'⟩
     ·exact .inl ⟨h.1,by simpa using h.2⟩
     ·exact .inr ⟨h,j,by rw[hj];congr 3;omega,by simpa using hj'⟩
  ·rw[instC_own hx]
   obtain⟨h1,h2,h3,h4⟩:=instC_spec (c:=c) (vs:=vs) (id:=id+1) (k:=k+1)
   refine⟨by simp[h1],fun j e he=>?_,fun k' y hy=>?_,fun i j e e' he he' heq=>?_⟩
   ·cases j with
    | zero=>simp at he;subst he;exact⟨0,x,by simp,by simp,hx⟩
    | succ j=>
     obtain⟨k',y,hy,e1,e2⟩:=h2 j e (by simpa using he)
     exact⟨k'+1,y,by simpa using hy,by rw[e1];congr 2;omega,e2⟩
   ·cases k' with
    | zero=>simp at hy;subst hy;exact .inr ⟨hx,0,by simp,by simp⟩
    | succ k'=>
     rcases h3 k' y (by simpa using hy) with h | ⟨h,j,hj,hj'⟩
     ·exact .inl ⟨h.1,by simpa using h.2⟩
     ·refine .inr ⟨h,j+1,?_,?_⟩
      ·simp only[List.getElem?_cons_succ];rw[hj];congr 3;omega
      ·simp only[List.getElem?_cons_succ];rw[hj'];congr 2;omega
   ·cases i with
    | zero=>
     cases j with
     | zero=>rfl
     | succ j=>
      simp at he;subst he
      obtain⟨k',y,hy,e1,e2⟩:=h2 j e' (by simpa using he')
      subst e1
      simp at heq
      omega
    | succ i=>
     cases j with
     | zero=>
      simp at he';subst he'
      obtain⟨k',y,hy,e1,e2⟩:=h2 i e (by simpa using he)
      subst e1
      simp at heq
      omega
     | succ j=>rw[h4 i j e e' (by simpa using he) (by simpa using he') heq]
theorem handle_one {id:Nat}{x:V}(h:¬notOwn x):isAggV (handleOf id x)=false:=by cases x<;>first | rfl | exact absurd trivial h
theorem inst1_spec {id c:Nat}{v:V}:isAggV (inst1 id c v).1=isAggV v∧(cells (inst1 id c v).1).length=(cells v).length∧(inst1 id c v).2=(instC c id 0 (cells v)).2∧cells (inst1 id c v).1=(instC c id 0 (cells v)).1:=by
 by_cases ha:isAggV v=true
 ·cases v<;>simp[isAggV] at ha
  rename_i cs
  have:=(instC_spec (c:=c) (vs:=cs) (id:=id) (k:=0)).1
  exact⟨rfl,this,rfl,rfl⟩
 ·have ha':isAggV v=false:=by simpa using ha
  have hc:=cells_one ha'
  have e1:(inst1 id c v).1=(instC c id 0 [v]).1.headD .und:=by
   unfold inst1
   rw[hc]
   cases v<;>first | rfl | exact absurd rfl ha
  have e2:∃y,(instC c id 0 [v]).1=[y]∧isAggV y=false:=by
   by_cases hn:notOwn v
   ·rw[instC_not hn];exact⟨v,rfl,ha'⟩
   ·rw[instC_own hn];exact⟨_,rfl,handle_one hn⟩
  obtain⟨y,e2,e3⟩:=e2
  rw[e2] at e1
  simp at e1
  rw[e1]
  refine⟨by rw[e3,ha'],by rw[cells_one e3,hc];rfl,by simp[inst1],by rw[cells_one e3,hc,e2]⟩
theorem inst1s_spec:∀{vs:List V} {id c:Nat},(inst1s id c vs).1.length=vs.length∧
  (∀(j:Nat) (e:NewR),(inst1s id c vs).2[j]?=some e→∃c' v k x,vs[c']?=some v∧(cells v)[k]?=some x∧e=(c+c',k,rootOf x)∧¬notOwn x)∧
  (∀(c':Nat) (v:V),vs[c']?=some v→∃y,(inst1s id c vs).1[c']?=some y∧isAggV y=isAggV v∧(cells y).length=(cells v).length∧
   ∀(k:Nat) (x:V),(cells v)[k]?=some x→(notOwn x∧(cells y)[k]?=some x)∨(¬notOwn x∧∃j:Nat,(inst1s id c vs).2[j]?=some (c+c',k,rootOf x)∧(cells y)[k]?=some (handleOf (id+j) x)))∧
  (∀(i j:Nat) (e e':NewR),(inst1s id c vs).2[i]?=some e→(inst1s id c vs).2[j]?=some e'→e.1=e'.1→e.2.1=e'.2.1→i=j)
 | [],id,c=>by simp[inst1s]
 | v::vs,id,c=>by
  obtain⟨a1,a2,a3,a4⟩:=inst1_spec (id:=id) (c:=c) (v:=v)
  obtain⟨b1,b2,b3,b4⟩:=instC_spec (c:=c) (vs:=cells v) (id:=id) (k:=0)
  obtain⟨h1,h2,h3,h4⟩:=inst1s_spec (vs:=vs) (id:=id+(inst1 id c v).2.length) (c:=c+1)
  simp only[inst1s]
  rw[←a3] at b2 b3 b4
  refine⟨by simp[h1],fun j e he=>?_,fun c' y hy=>?_,fun i j e e' he he' q1 q2=>?_⟩
  ·by_cases hj:j<(inst1 id c v).2.length
   ·rw[zql hj] at he
    obtain⟨k',x,hx,e1,e2⟩:=b2 j e he
    exact⟨0,v,k',x,by simp,hx,by simpa using e1,e2⟩
   ·rw[zqr (by omega)] at he
    obtain⟨c',v',k,x,q1,q2,q3,q4⟩:=h2 _ e he
    exact⟨c'+1,v',k,x,by simpa using q1,q2,by rw[q3];congr 1;omega,q4⟩
  ·cases c' with
   | zero=>
    simp at hy
    subst hy
    refine⟨(inst1 id c v).1,by simp,a1,a2,fun k x hx=>?_⟩
    rw[a4]
    rcases b3 k x hx with h | ⟨h,j,hj,hj'⟩
    ·exact .inl h
    ·refine .inr ⟨h,j,?_,hj'⟩
     rw[zql (zqg.1 hj).1,hj]
     simp
   | succ c'=>
    obtain⟨y',e1,e2,e3,e4⟩:=h3 c' y (by simpa using hy)
    refine⟨y',by simpa using e1,e2,e3,fun k x hx=>?_⟩
    rcases e4 k x hx with h | ⟨h,j,hj,hj'⟩
    ·exact .inl h
    ·refine .inr ⟨h,(inst1 id c v).2.length+j,?_,by rw[hj'];congr 2;omega⟩
     rw[zqr (by omega),Nat.add_sub_cancel_left,hj]
     congr 2
     omega
  ·by_cases hi:i<(inst1 id c v).2.length<;>by_cases hj:j<(inst1 id c v).2.length
   ·rw[zql hi] at he
    rw[zql hj] at he'
    exact b4 i j e e' he he' q2
   ·rw[zql hi] at he
    rw[zqr (by omega)] at he'
    obtain⟨k',x,_,e1,_⟩:=b2 i e he
    obtain⟨c',v',k,x',_,_,e3,_⟩:=h2 _ e' he'
    subst e1 e3
    simp at q1
    omega
   ·rw[zqr (by omega)] at he
    rw[zql hj] at he'
    obtain⟨k',x,_,e1,_⟩:=b2 j e' he'
    obtain⟨c',v',k,x',_,_,e3,_⟩:=h2 _ e he
    subst e1 e3
    simp at q1
    omega
   ·rw[zqr (by omega)] at he he'
    have:=h4 _ _ e e' he he' q1 q2
    omega
end Go.Ln
namespace Go.Ln
open Go
variable {w w' : World} {ρ ρ' ρ'' : Own} {rt rt' rt'' : Store} {N : Nat→Nat→Prop}
def posR : List NewR→Nat→Nat→Option Nat
  | [],_,_=>none
  | e :: R,c,k=>if e.1=c ∧ e.2.1=k then some 0 else (posR R c k).map (· + 1)
theorem posR_get:∀{R:List NewR} {c k j:Nat},posR R c k=some j→∃r,R[j]?=some (c,k,r)
 | [],c,k,j,h=>by simp[posR] at h
 | e::R,c,k,j,h=>by
  simp only[posR] at h
  split at h
  ·rename_i he
   cases h
   obtain⟨e1,e2,e3⟩:=e
   simp at he
   exact⟨e3,by simp[he.1,he.2]⟩
  ·simp only[zqm] at h
   obtain⟨j',h',rfl⟩:=h
   obtain⟨r,hr⟩:=posR_get h'
   exact⟨r,by simpa using hr⟩
theorem posR_some:∀{R:List NewR} {c k j:Nat} {r:Root},R[j]?=some (c,k,r)→∃j',posR R c k=some j'
 | [],c,k,j,r,h=>by simp at h
 | e::R,c,k,j,r,h=>by
  simp only[posR]
  split
  ·exact⟨0,rfl⟩
  ·cases j with
   | zero=>simp at h;subst h;rename_i hn;exact absurd ⟨rfl,rfl⟩ hn
   | succ j=>
    obtain⟨j',h'⟩:=posR_some (R:=R) (c:=c) (k:=k) (j:=j) (r:=r) (by simpa using h)
    exact⟨j'+1,by rw[h'];rfl⟩
def placeOwn (ρ:Own)(q id:Nat)(R:List NewR):Own:=fun b=>
 match ρ b with
 | some (o,l)=>if o=q then (match l with
  | x::t=>(posR R x.1 x.2).map fun j=>(id+j,t)
  | []=>none) else some (o,l)
 | none=>none
theorem placeOwn_none {q id R b}(h:ρ b=none):placeOwn ρ q id R b=none:=by simp[placeOwn,h]
theorem placeOwn_other {q id R b o l}(h:ρ b=some (o,l))(hn:o≠q):placeOwn ρ q id R b=some (o,l):=by simp[placeOwn,h,hn]
theorem placeOwn_moved {q id R b c k t j}(h:ρ b=some (q,(c,k)::t))(hj:posR R c k=some j):placeOwn ρ q id R b=some (id+j,t):=by simp[placeOwn,h,hj]
theorem placeOwn_inv {q id R b o l}(h:placeOwn ρ q id R b=some (o,l)):(ρ b=some (o,l)∧o≠q)∨∃c k j,ρ b=some (q,(c,k)::l)∧posR R c k=some j∧o=id+j:=by
 unfold placeOwn at h
 split at h
 ·rename_i o' l' hb
  split at h
  ·rename_i hq
   subst hq
   split at h
   ·rename_i x t
    simp only[zqm] at h
    obtain⟨j,hj,h⟩:=h
    cases h
    exact .inr ⟨x.1,x.2,j,hb,hj,rfl⟩
   ·cases h
  ·rename_i hq
   cases h
   exact .inl ⟨hb,hq⟩
 ·cases h
theorem addRoots_low {id o:Nat}{R:List NewR}(h:¬(id≤o∧o<id+R.length)):addRoots rt id R o=rt o:=by unfold addRoots;rw[if_neg h]
theorem addRoots_at {id j:Nat}{R:List NewR}(h:j<R.length):addRoots rt id R (id+j)=(R[j]?).map fun x=>x.2.2:=by
 unfold addRoots
 rw[if_pos (by omega),Nat.add_sub_cancel_left]
structure Placed (N:Nat→Nat→Prop) (w:World) (ρ:Own) (rt:Store) (ρ':Own) (rt':Store) (id n:Nat) (ys:List V) (p:Nat→Value):Prop where
 rok:RtOk w ρ' rt'
 inj:Inj ρ'
 rtn:RtN rt'
 keep:Keep N w ρ rt w ρ' rt'
 lab:Lab w ρ' rt' noU
 val:∀(c:Nat) (y:V),ys[c]?=some y→Slot w ρ' rt' nowhere y (p c)∧∀Un:Nat→Prop,(∀o,id≤o→o<id+n→¬Un o)→noNew (NewOf Un rt') y
 nv:∀o r',rt' o=some r'→rt o=some r'∨(id≤o∧o<id+n)
 f0:∀b l,ρ' b=some (0,l)→ρ b=some (0,l)
theorem placeAll (H:RtOk w ρ rt)(J:Inj ρ)(hr:RtN rt){q:Nat}(hL:Lab w ρ rt (fun o _=>o=0∨o=q))(hq0:q≠0)(hq:rt q=none){id:Nat}{vs:List V}(hid0:0<id)(hf:∀o,id≤o→o<id+(inst1s id 0 vs).2.length→rt o=none)(hN:∀o nv,id≤o→o<id+(inst1s id 0 vs).2.length→N o nv){p:Nat→Value}(hv:∀(c:Nat) (v:V),vs[c]?=some v→Slot w ρ rt (fun k=>some (q,[(c,k)])) v (p c)∧nh v) :
  Placed N w ρ rt (placeOwn ρ q id (inst1s id 0 vs).2) (addRoots rt id (inst1s id 0 vs).2) id (inst1s id 0 vs).2.length (inst1s id 0 vs).1 p:=by
 obtain⟨s1,s2,s3,s4⟩:=inst1s_spec (vs:=vs) (id:=id) (c:=0)
 generalize hys:(inst1s id 0 vs).1=ys at s1 s3
 generalize hR:(inst1s id 0 vs).2=R at s2 s3 s4 hf hN
 have pos:∀(j c k:Nat) (r:Root),R[j]?=some (c,k,r)→posR R c k=some j:=by
  intro j c k r h
  obtain⟨j',h'⟩:=posR_some h
  obtain⟨r',h''⟩:=posR_get h'
  rw[h',s4 j' j _ _ h'' h rfl rfl]
 have K:Keep N w ρ rt w (placeOwn ρ q id R) (addRoots rt id R):=by
  refine⟨fun b hb _=>⟨placeOwn_none hb,rfl⟩,fun o nv path hNo hl=>?_,fun b l hb=>⟨placeOwn_other hb (Ne.symm hq0),rfl⟩⟩
  have ho:¬(id≤o∧o<id+R.length):=fun h=>hNo (hN o nv h.1 h.2)
  have hl':live rt o nv path:=by simpa[live,look,valid,addRoots_low ho] using hl
  refine⟨hl',fun b n hb hn=>⟨placeOwn_other hb ?_,hn⟩⟩
  rintro rfl
  simp[live,look,valid,hq] at hl'
 have roots:∀(j:Nat) (e:NewR),R[j]?=some e→∃c k x v,e=(c,k,rootOf x)∧¬notOwn x∧nh x∧vs[c]?=some v∧(cells v)[k]?=some x∧∃u,RepV w ρ rt (some (q,[(c,k)])) x u:=by
  intro j e he
  obtain⟨c,v,k,x,h1,h2,h3,h4⟩:=s2 j e he
  rw[Nat.zero_add] at h3
  obtain⟨⟨g,_,hg⟩,hn⟩:=hv c v h1
  exact⟨c,k,x,v,h3,h4,nh_cell hn h2,h1,h2,g k,hg k x h2⟩
 refine⟨?_,?_,?_,K,?_,?_,?_,fun b l h=>?_⟩
 rotate_right
 ·rcases placeOwn_inv h with⟨h1,_⟩ | ⟨_,_,_,_,_,h3⟩
  ·exact h1
  ·omega
 ·intro o r h
  by_cases ho:¬(id≤o∧o<id+R.length)
  ·rw[addRoots_low ho] at h
   exact RowOk.under K (fun b l hb _=>⟨placeOwn_other hb (by rintro rfl;rw[hq] at h;cases h),rfl⟩) (H o r h) (hr o r h)
  ·obtain⟨j,rfl⟩:∃j,o=id+j:=⟨o - id,by omega⟩
   rw[addRoots_at (by omega)] at h
   simp only[zqm] at h
   obtain⟨e,he,rfl⟩:=h
   obtain⟨c,k,x,v,rfl,h1,h2,_,_,u,hu⟩:=roots j e he
   have hmv:∀b l,ρ b=some (q,[(c,k)]++l)→placeOwn ρ q id R b=some (id+j,[]++l)∧w.heap[b]?=w.heap[b]?:=fun b l hb=>⟨placeOwn_moved hb (pos j c k _ he),rfl⟩
   rcases own_or x with h | ⟨s,es,rfl⟩ | ⟨e,rfl⟩
   ·exact absurd h h1
   ·exact RowOk.move K hmv (rowOk_usl hu) (by simpa[rootOf,nh] using h2)
   ·exact RowOk.move K hmv (rowOk_uptr hu) (by simpa[rootOf,nh,nhs] using h2)
 ·rintro b b' ⟨o,l⟩ h h'
  rcases placeOwn_inv h with⟨h1,h2⟩ | ⟨c,k,j,h1,h2,h3⟩<;>rcases placeOwn_inv h' with⟨h1',h2'⟩ | ⟨c',k',j',h1',h2',h3'⟩
  ·exact J _ _ _ h1 h1'
  ·exfalso
   rcases (hL b o l h1).2 with (h | h) | ⟨r,h⟩
   ·omega
   ·exact h2 h
   ·obtain⟨r9,hr9⟩:=posR_get h2'
    have:=(zqg.1 hr9).1
    rw[hf o (by omega) (by omega)] at h;cases h
  ·exfalso
   rcases (hL b' o l h1').2 with (h | h) | ⟨r,h⟩
   ·omega
   ·exact h2' h
   ·obtain⟨r9,hr9⟩:=posR_get h2
    have:=(zqg.1 hr9).1
    rw[hf o (by omega) (by omega)] at h;cases h
  ·have:j=j':=by omega
   subst this
   obtain⟨r,hr1⟩:=posR_get h2
   obtain⟨r',hr2⟩:=posR_get h2'
   rw[hr1] at hr2
   cases hr2
   exact J _ _ _ h1 h1'
 ·intro o r h
  by_cases ho:¬(id≤o∧o<id+R.length)
  ·rw[addRoots_low ho] at h
   exact hr o r h
  ·obtain⟨j,rfl⟩:∃j,o=id+j:=⟨o - id,by omega⟩
   rw[addRoots_at (by omega)] at h
   simp only[zqm] at h
   obtain⟨e,he,rfl⟩:=h
   obtain⟨c,k,x,v,rfl,h1,h2,_⟩:=roots j e he
   rcases own_or x with h | ⟨s,es,rfl⟩ | ⟨e,rfl⟩
   ·exact absurd h h1
   ·simpa[rootOf,nh] using h2
   ·simpa[rootOf,nh,nhs] using h2
 ·refine⟨fun b o l h=>?_,by rw[addRoots_low (by omega)];exact hL.z,fun b l h=>?_⟩
  rotate_left
  ·rcases placeOwn_inv h with⟨h1,_⟩ | ⟨_,_,_,_,_,h3⟩
   ·exact hL.f _ _ h1
   ·omega
  rcases placeOwn_inv h with⟨h1,h2⟩ | ⟨c,k,j,h1,h2,h3⟩
  ·refine⟨(hL b o l h1).1,?_⟩
   rcases (hL b o l h1).2 with (h | h) | ⟨r,h⟩
   ·exact .inl h
   ·exact absurd h h2
   ·exact .inr ⟨r,by rw[addRoots_low (fun h'=>by rw[hf o h'.1 h'.2] at h;cases h)];exact h⟩
  ·obtain⟨r,hr'⟩:=posR_get h2
   exact⟨(hL b _ _ h1).1,.inr ⟨r,by rw[h3,addRoots_at (zqg.1 hr').1,hr'];rfl⟩⟩
 ·intro c y hy
  have hc:c<vs.length:=by rw[←s1];exact (zqg.1 hy).1
  have hvc:vs[c]?=some vs[c]:=zqe hc
  obtain⟨y',e1,e2,e3,e4⟩:=s3 c _ hvc
  rw[hy] at e1
  cases e1
  obtain⟨⟨g,hp,hg⟩,hn⟩:=hv c _ hvc
  have hx:∀(k:Nat) z,(cells y)[k]?=some z→∃x,(cells vs[c])[k]?=some x:=fun k z hz=>by
   have:=(zqg.1 hz).1
   exact⟨_,zqe (by omega)⟩
  have each:∀(k:Nat) z,(cells y)[k]?=some z→RepV w (placeOwn ρ q id R) (addRoots rt id R) none z (g k)∧∀Un:Nat→Prop,(∀o,id≤o→o<id+R.length→¬Un o)→noNew (NewOf Un (addRoots rt id R)) z:=by
   intro k z hz
   obtain⟨x,hx⟩:=hx k z hz
   have hxn:=nh_cell hn hx
   have hxr:=hg k x hx
   rcases e4 k x hx with⟨h1,h2⟩ | ⟨h1,j,hj,h2⟩
   ·rw[hz] at h2
    cases h2
    exact⟨(hxr.any h1 (L':=none)).keep K (nh_noNew hxn),fun _ _=>nh_noNew hxn⟩
   ·rw[hz] at h2
    cases h2
    rw[Nat.zero_add] at hj
    have hjl:=(zqg.1 hj).1
    have hpos:=pos j c k _ hj
    have nn:∀Un:Nat→Prop,(∀o,id≤o→o<id+R.length→¬Un o)→¬NewOf Un (addRoots rt id R) (id+j) 0:=by
     rintro Un hUn (h | ⟨r,h,h'⟩)
     ·exact hUn _ (by omega) (by omega) h
     ·omega
    rcases own_or x with h | ⟨s,es,rfl⟩ | ⟨e,rfl⟩
    ·exact absurd h h1
    ·refine⟨?_,by simpa[handleOf,noNew] using nn⟩
     obtain⟨A,cc,g2,hu,hlc,hs,hb,_⟩:=usl_parts hxr
     rw[hu]
     refine .hs _ _ _ _ _ _ _ _ (fun _=>⟨cc,A,rfl,hlc,fun h0=>?_⟩) trivial
     obtain⟨b,arr,T,q1,q2,q3,q4,_⟩:=hb h0
     exact⟨b,arr.size,placeOwn_moved q1 hpos,⟨arr,T,q2,rfl⟩,by rw[q3];simp,by simpa using q4⟩
    ·refine⟨?_,by simpa[handleOf,noNew] using nn⟩
     generalize g k=u at hxr
     cases hxr with
     | uptr _ _ b arr T g2 hρ hb hc hh=>
      exact .hp _ _ _ _ _ _ _ _ (fun _=>⟨b,arr.size,placeOwn_moved hρ hpos,⟨arr,T,hb,rfl⟩,by simp⟩) trivial
  refine⟨⟨g,?_,fun k z hz=>(each k z hz).1⟩,?_⟩
  ·rw[hp]
   unfold pack
   rw[e2,e3]
  ·by_cases ha:isAggV y=true
   ·cases y<;>simp[isAggV] at ha
    intro Un hUn
    simp only[noNew]
    refine noNews_iff.2 fun z hz=>?_
    obtain⟨k,hk⟩:=List.mem_iff_getElem?.1 hz
    exact (each k z hk).2 Un hUn
   ·have ha':isAggV y=false:=by simpa using ha
    exact (each 0 y (by simp[cells_one ha'])).2
 ·intro o r h
  by_cases ho:¬(id≤o∧o<id+R.length)
  ·rw[addRoots_low ho] at h
   exact .inl h
  ·obtain⟨j,rfl⟩:∃j,o=id+j:=⟨o - id,by omega⟩
   rw[addRoots_at (by omega)] at h
   simp only[zqm] at h
   obtain⟨e,he,rfl⟩:=h
   have:=(zqg.1 he).1
   exact .inr ⟨by omega,by omega⟩
end Go.Ln
namespace Go.Ln
open Go
variable {w w' : World} {ρ ρ' ρ'' : Own} {rt rt' rt'' : Store} {N : Nat→Nat→Prop}
def rt0:Store:=fun _=>none
structure Ground where
 base:Nat
 inv:World→Prop
 st:∀w w',(∀b,b<base→w'.heap[b]?=w.heap[b]?)→Wk w w'→inv w→inv w'
def Ground.ok (G:Ground)(w:World)(ρ:Own):Prop:=G.base≤w.heap.size∧(∀b,b<G.base→ρ b=none)∧G.inv w
theorem Ground.keep {G:Ground}(h:G.ok w ρ)(hf:∀b,ρ b=none→b<w.heap.size→ρ' b=none∧w'.heap[b]?=w.heap[b]?)(hw:Wk w w'):G.ok w' ρ':=
 ⟨Nat.le_trans h.1 hw.size,fun b hb=>(hf b (h.2.1 b hb) (Nat.lt_of_lt_of_le hb h.1)).1,G.st w w' (fun b hb=>(hf b (h.2.1 b hb) (Nat.lt_of_lt_of_le hb h.1)).2) hw h.2.2⟩
structure Inn (w:World) (ρ:Own):Prop where
 inj:Inj ρ
 lab:∀b o l,ρ b=some (o,l)→b<w.heap.size∧(o=0∨o=1)
 f:∀b l,ρ b=some (0,l)→l=[(b,0)]
structure Aft (w:World) (ρ:Own) (w':World) (ρ':Own):Prop where
 wk:Wk w w'
 fr:∀b,ρ b=none→b<w.heap.size→ρ' b=none∧w'.heap[b]?=w.heap[b]?
 k0:∀b l,ρ b=some (0,l)→ρ' b=some (0,l)∧w'.heap[b]?=w.heap[b]?
 f0:∀b l,ρ' b=some (0,l)→ρ b=some (0,l)
 inj:Inj ρ'
 lab:∀b o l,ρ' b=some (o,l)→b<w'.heap.size∧(o=0∨o=1∨o=2)
def ArgsOk (w:World)(ρ:Own)(vs:List V)(us:List Value):Prop:=
 vs.length=us.length∧∀(a:Nat) v u,vs[a]?=some v→us[a]?=some u→Slot w ρ rt0 (fun k=>some (1,[(a,k)])) v u∧nh v
def isTup:V→Bool
 | .tup _=>true
 | _=>false
def ResOk (w:World)(ρ:Own)(r:V)(u:Value):Prop:=
 ∃p:Nat→Value,u=(if isTup r then .tuple (arrOf (comps r).length p) else p 0)∧∀(c:Nat) v,(comps r)[c]?=some v→Slot w ρ rt0 (fun k=>some (2,[(c,k)])) v (p c)∧nh v∧isTup v=false
def OutsOk (w:World)(ρ:Own)(w':World)(ρ':Own)(own:List Bool)(vs:List V)(us:List Value)(outs:List V):Prop:=
 ∀(a:Nat) v u x,vs[a]?=some v→us[a]?=some u→outAt own outs a=some x→
  ∀(g:Nat→Value),u=pack v g→∀(k:Nat) y z,(cells x)[k]?=some y→(cells v)[k]?=some z→¬notOwn y→nh y∧RepV w' ρ' rt0 (some (1,[(a,k)])) y (g k)∧∀b n,ρ b=some (1,[(a,k)])→Blk w b n→ρ' b=some (1,[(a,k)])
def Runs (P:Program)(f:FuncId)(us:Array Value)(w:World)(K:Value→World→Prop):Prop:=
 (∃u w',(callFunc f us).run P w=.ok (.value u) w'∧K u w')∨
 ((callFunc f us).run P w=.ok (.enter f us) w∧Calls P f us w fun e w'=>∃u,e=.returned u∧K u w')
def Good (P:Program)(G:Ground)(f:FuncId)(e:Ent):Prop:=∀w ρ vs us r outs,ArgsOk w ρ vs us→Inn w ρ→G.ok w ρ→e.F vs=some (r,outs)→
 Runs P f us.toArray w fun u w'=>∃ρ',Aft w ρ w' ρ'∧ResOk w' ρ' r u∧OutsOk w ρ w' ρ' e.own vs us outs
def hid:V→Option Nat
 | .hs o _ _ _ _ _=>some o
 | .hp o _ _ _ _ _=>some o
 | _=>none
def hpath:V→Path
 | .hs _ _ p _ _ _=>p
 | .hp _ _ p _ _ _=>p
 | _=>[]
theorem givenC_mem {a : Nat} : ∀ {vs : List V} {k0 : Nat} {e : Giv}, e ∈ givenC a k0 vs ↔ ∃ k x, vs[k]? = some x ∧ hid x = some e.1 ∧ e.2 = (hpath x, a, k0 + k)
  | [], k0, e => by simp [givenC]
  | v :: vs, k0, e => by
    have ih := @givenC_mem a vs (k0 + 1) e
    have tail : (∃ k x, vs[k]? = some x ∧ hid x = some e.1 ∧ e.2 = (hpath x, a, k0 + 1 + k)) ↔ ∃ k x, (v :: vs)[k + 1]? = some x ∧ hid x = some e.1 ∧ e.2 = (hpath x, a, k0 + (k + 1)) := by
      constructor
      · rintro ⟨k, x, h1, h2, h3⟩
        exact ⟨k, x, by simpa using h1, h2, by rw [h3]; congr 2; omega⟩
      · rintro ⟨k, x, h1, h2, h3⟩
        exact ⟨k, x, by simpa using h1, h2, by rw [h3]; congr 2; omega⟩
    have hsplit : (∃ k x, (v :: vs)[k]? = some x ∧ hid x = some e.1 ∧ e.2 = (hpath x, a, k0 + k)) ↔ (hid v = some e.1 ∧ e.2 = (hpath v, a, k0)) ∨ ∃ k x, (v :: vs)[k + 1]? = some x ∧ hid x = some e.1 ∧ e.2 = (hpath x, a, k0 + (k + 1)) := by
      constructor
      · rintro ⟨k, x, h1, h2, h3⟩
        cases k with
        | zero => simp at h1; subst h1; exact .inl ⟨h2, by simpa using h3⟩
        | succ k => exact .inr ⟨k, x, h1, h2, h3⟩
      · rintro (⟨h1, h2⟩ | ⟨k, x, h1, h2, h3⟩)
        · exact ⟨0, v, by simp, h1, by simpa using h2⟩
        · exact ⟨k + 1, x, h1, h2, h3⟩
    rw [hsplit, ← tail, ← ih]
    cases v <;> simp only [givenC, hid, hpath, List.mem_cons] <;> first
      | (obtain ⟨e1, e2⟩ := e
         simp
         done)
      | (obtain ⟨e1, e2⟩ := e
         constructor
         · rintro (h | h)
           · cases h; exact .inl ⟨rfl, rfl⟩
           · exact .inr h
         · rintro (⟨h1, h2⟩ | h)
           · cases h1; cases h2; exact .inl rfl
           · exact .inr h)
theorem givenOf_mem:∀{own:List Bool} {vs:List V} {a0:Nat} {e:Giv},e∈givenOf a0 own vs↔∃a v k x,own[a]?=some true∧vs[a]?=some v∧(cells v)[k]?=some x∧hid x=some e.1∧e.2=(hpath x,a0+a,k)
 | [],vs,a0,e=>by simp[givenOf]
 | b::own,[],a0,e=>by cases b<;>simp[givenOf]
 | true::own,v::vs,a0,e=>by
  simp only[givenOf,List.mem_append]
  rw[givenC_mem,givenOf_mem (own:=own)]
  constructor
  ·rintro (⟨k,x,h1,h2,h3⟩ | ⟨a,v',k,x,h1,h2,h3,h4,h5⟩)
   ·exact⟨0,v,k,x,by simp,by simp,h1,h2,by simpa using h3⟩
   ·exact⟨a+1,v',k,x,by simpa using h1,by simpa using h2,h3,h4,by rw[h5];congr 2;omega⟩
  ·rintro⟨a,v',k,x,h1,h2,h3,h4,h5⟩
   cases a with
   | zero=>simp at h2;subst h2;exact .inl ⟨k,x,h3,h4,by simpa using h5⟩
   | succ a=>exact .inr ⟨a,v',k,x,by simpa using h1,by simpa using h2,h3,h4,by rw[h5];congr 2;omega⟩
 | false::own,v::vs,a0,e=>by
  simp only[givenOf]
  rw[givenOf_mem (own:=own)]
  constructor
  ·rintro⟨a,v',k,x,h1,h2,h3,h4,h5⟩
   exact⟨a+1,v',k,x,by simpa using h1,by simpa using h2,h3,h4,by rw[h5];congr 2;omega⟩
  ·rintro⟨a,v',k,x,h1,h2,h3,h4,h5⟩
   cases a with
   | zero=>simp at h1
   | succ a=>exact⟨a,v',k,x,by simpa using h1,by simpa using h2,h3,h4,by rw[h5];congr 2;omega⟩
theorem lentOf_mem:∀{own:List Bool} {vs:List V} {o:Nat},(∃(a:Nat) (v:V),own[a]?≠some true∧vs[a]?=some v∧o∈ids v)→o∈lentOf own vs
 | own,[],o,⟨a,v,h1,h2,h3⟩=>by simp at h2
 | [],v::vs,o,⟨a,v',h1,h2,h3⟩=>by
  simp only[lentOf,List.mem_append]
  cases a with
  | zero=>simp at h2;subst h2;exact .inl h3
  | succ a=>exact .inr (lentOf_mem (own:=[]) ⟨a,v',by simp,by simpa using h2,h3⟩)
 | true::own,v::vs,o,⟨a,v',h1,h2,h3⟩=>by
  simp only[lentOf]
  cases a with
  | zero=>simp at h1
  | succ a=>exact lentOf_mem ⟨a,v',by simpa using h1,by simpa using h2,h3⟩
 | false::own,v::vs,o,⟨a,v',h1,h2,h3⟩=>by
  simp only[lentOf,List.mem_append]
  cases a with
  | zero=>simp at h2;subst h2;exact .inl h3
  | succ a=>exact .inr (lentOf_mem ⟨a,v',by simpa using h1,by simpa using h2,h3⟩)
theorem lookG_mem:∀{g:List Giv} {o:Nat} {x:Path×Nat×Nat},lookG g o=some x→(o,x)∈g
 | [],o,x,h=>by simp[lookG] at h
 | (o',y)::g,o,x,h=>by
  simp only[lookG] at h
  split at h
  ·rename_i he;cases h;subst he;simp
  ·exact List.mem_cons_of_mem _ (lookG_mem h)
theorem lookG_some:∀{g:List Giv} {o:Nat} {x:Path×Nat×Nat},nodupN (g.map (·.1))=true→(o,x)∈g→lookG g o=some x
 | [],o,x,h,hm=>by simp at hm
 | (o',y)::g,o,x,h,hm=>by
  simp only[List.map_cons,nodupN,Bool.and_eq_true,Bool.not_eq_true'] at h
  simp only[lookG]
  rcases List.mem_cons.1 hm with hm' | hm'
  ·cases hm';simp
  ·have hne:o≠o':=by
    rintro rfl
    have h1:=h.1
    have:o∈g.map (·.1):=List.mem_map.2 ⟨(o,x),hm',rfl⟩
    simp only[List.contains_eq_mem,decide_eq_false_iff_not] at h1
    exact h1 this
   rw[if_neg hne]
   exact lookG_some h.2 hm'
theorem lookG_none {g:List Giv}{o:Nat}(h:o∉g.map (·.1)):lookG g o=none:=by
 cases hl:lookG g o with
 | none=>rfl
 | some x=>exact absurd ((List.mem_map (f:=fun x=>x.1)).2 ⟨(o,x),lookG_mem hl,rfl⟩) h
end Go.Ln
namespace Go.Ln
open Go
variable {w w' : World} {ρ ρ' ρ'' : Own} {rt rt' rt'' : Store} {N : Nat→Nat→Prop}
theorem RepV.monoN (mv:Loc→Loc)(ok:Loc→Prop)(hmv:∀l i k,ok l→mv (l.at i k)=(mv l).at i k)(hok:∀l i k,ok l→ok (l.at i k))(K3:∀b l,ok l→ρ b=some l→ρ' b=some (mv l)∧w'.heap[b]?=w.heap[b]?){L:Option Loc}{v:V}{u:Value}(h:RepV w ρ rt L v u):(∀l,L=some l→ok l)→nh v→hasImm v=false→RepV w' ρ' rt' (L.map mv) v u:=by
 have hms:∀{vs:List V} {i:Nat} {v:V},hasImms vs=false→vs[i]?=some v→hasImm v=false:=by
  intro vs
  induction vs with
  | nil=>intro i v _ h;simp at h
  | cons x vs ih=>
   intro i v h e
   simp only[hasImms,Bool.or_eq_false_iff] at h
   cases i with
   | zero=>simp at e;subst e;exact h.1
   | succ i=>exact ih h.2 (by simpa using e)
 have hcl:∀{v x:V} {k:Nat},hasImm v=false→(cells v)[k]?=some x→hasImm x=false:=by
  intro v x k h e
  by_cases ha:isAggV v=true
  ·cases v<;>simp[isAggV] at ha
   exact hms (by simpa[hasImm,cells] using h) e
  ·rw[cells_one (by simpa using ha)] at e
   cases k<;>simp at e
   subst e
   exact h
 induction h with
 | und L=>exact fun _ _ _=>.und _
 | dead L u=>exact fun _ _ _=>.dead _ _
 | bool L b=>exact fun _ _ _=>.bool _ _
 | int L k n=>exact fun _ _ _=>.int _ _ _
 | str L s=>exact fun _ _ _=>.str _ _
 | nilp L=>exact fun _ _ _=>.nilp _
 | nilfn L=>exact fun _ _ _=>.nilfn _
 | nilif L=>exact fun _ _ _=>.nilif _
 | fn L f caps g h ih=>exact fun _ hn hi=>.fn _ _ _ g fun i v hv=>ih i v hv (by simp) (nhs_get (by simpa[nh] using hn) hv) (hms (by simpa[hasImm] using hi) hv)
 | iface L t v g h ih=>exact fun _ hn hi=>.iface _ _ _ g fun i x hx=>ih i x hx (by simp) (nh_cell (by simpa[nh] using hn) hx) (hcl (by simpa[hasImm] using hi) hx)
 | tup L vs p g hp h ih=>exact fun _ hn hi=>.tup _ _ p g hp fun c v k x hv hx=>ih c v k x hv hx (by simp) (nh_cell (nhs_get (by simpa[nh] using hn) hv) hx) (hcl (hms (by simpa[hasImm] using hi) hv) hx)
 | iptr L e k b off g hb hρ hc h ih=>exact fun _ _ hi=>by simp[hasImm] at hi
 | isl0 L nl A c hn=>exact fun _ _ _=>.isl0 _ _ _ _ hn
 | isl L es b off c s g hl h0 hρ hb hs hc h ih=>exact fun _ _ hi=>by simp[hasImm] at hi;subst hi;simp at h0
 | usl0 l s A=>exact fun _ _ _=>.usl0 _ _ _
 | usl l s es b A c arr T g hρ hb hl hA hcap hs hc h ih=>
  intro ho hn hi
  have k:=K3 b l (ho l rfl) hρ
  exact .usl _ s es b A c arr T g k.1 (by rw[k.2];exact hb) hl hA hcap hs hc fun i e k x he hx=>by
   have:=ih i e k x he hx (fun l' h'=>by cases h';exact hok _ _ _ (ho l rfl)) (nh_cell (nhs_get (by simpa[nh] using hn) he) hx) (hcl (hms (by simpa[hasImm] using hi) he) hx)
   rwa[Option.map_some,hmv _ _ _ (ho l rfl)] at this
 | uptr l e b arr T g hρ hb hc h ih=>
  intro ho hn hi
  have k:=K3 b l (ho l rfl) hρ
  exact .uptr _ e b arr T g k.1 (by rw[k.2];exact hb) hc fun k x hx=>by
   have:=ih k x hx (fun l' h'=>by cases h';exact hok _ _ _ (ho l rfl)) (nh_cell (by simpa[nh] using hn) hx) (hcl (by simpa[hasImm] using hi) hx)
   rwa[Option.map_some,hmv _ _ _ (ho l rfl)] at this
 | hp L o nv path s i k u h h1'=>exact fun _ hn _=>by simp[nh] at hn
 | hs L o nv path s off len u h h1'=>exact fun _ hn _=>by simp[nh] at hn
theorem usl_of_row (J:Inj ρ){L:Loc}{s c:Nat}{es:List V}{A:Option Addr}(h:RowOk w ρ rt L s es)(hlc:es.length≤c)(hcc:c≠0→∃b n,ρ b=some L∧Blk w b n∧A=some ⟨b,0,none⟩∧c*s≤n):RepV w ρ rt (some L) (.usl s es) (.slice A es.length c):=by
 by_cases hc0:c=0
 ·subst hc0
  have:es=[]:=List.length_eq_zero_iff.1 (by omega)
  subst this
  exact .usl0 _ _ _
 ·obtain⟨b,n,hb,⟨arr,T,hbb,rfl⟩,rfl,hle⟩:=hcc hc0
  rcases h with rfl | ⟨b2,arr2,T2,g2,i1,i2,i3,i4,i5⟩
  ·exact .usl _ s [] b _ c arr T (fun _ _=>undef) hb hbb hlc (fun _=>rfl) hle (by simp) (by simp) (by simp)
  ·have:=J _ _ _ hb i1
   subst this
   rw[hbb] at i2
   cases i2
   exact .usl _ _ _ b _ c arr T g2 hb hbb hlc (fun _=>rfl) hle i3 i4 i5
theorem uptr_of_row (J:Inj ρ){L:Loc}{s b:Nat}{e:V}(h:RowOk w ρ rt L s [e])(hb:ρ b=some L):RepV w ρ rt (some L) (.uptr e) (.pointer (some ⟨b,0,none⟩)):=by
 rcases h with h | ⟨b2,arr2,T2,g2,i1,i2,i3,i4,i5⟩
 ·cases h
 ·have:=J _ _ _ hb i1
  subst this
  exact .uptr _ e b arr2 T2 (g2 0) hb i2 (fun k x hx=>by simpa using i4 0 e k x rfl hx) (fun k x hx=>i5 0 e k x rfl hx)
theorem handC_one {cc d:V}(h:handC rt cc=some d)(hc:isAggV cc=false):isAggV d=false:=by
 unfold handC at h
 split at h
 ·simp only[zqb] at h
  obtain⟨r,_,x,_,h⟩:=h
  split at h<;>cases h
  rfl
 ·simp only[zqb] at h
  obtain⟨r,_,x,_,h⟩:=h
  split at h
  ·split at h<;>cases h
   rfl
  ·cases h
 ·split at h<;>cases h
  exact hc
theorem handCs_get:∀{vs xs:List V},handCs rt vs=some xs→xs.length=vs.length∧∀(k:Nat) c,vs[k]?=some c→∃d,xs[k]?=some d∧handC rt c=some d
 | [],xs,h=>by simp[handCs] at h;subst h;simp
 | v::vs,xs,h=>by
  simp only[handCs,zqb,zqm] at h
  obtain⟨x,hx,ys,hys,rfl⟩:=h
  obtain⟨l,ih⟩:=handCs_get hys
  refine⟨by simp[l],fun k c hc=>?_⟩
  cases k with
  | zero=>simp at hc;subst hc;exact⟨x,by simp,hx⟩
  | succ k=>simpa using ih k c (by simpa using hc)
theorem shares_get:∀{vs xs:List V},shares rt vs=some xs→xs.length=vs.length∧∀(k:Nat) c,vs[k]?=some c→∃d,xs[k]?=some d∧share rt c=some d
 | [],xs,h=>by simp[shares] at h;subst h;simp
 | v::vs,xs,h=>by
  simp only[shares,zqb,zqm] at h
  obtain⟨x,hx,ys,hys,rfl⟩:=h
  obtain⟨l,ih⟩:=shares_get hys
  refine⟨by simp[l],fun k c hc=>?_⟩
  cases k with
  | zero=>simp at hc;subst hc;exact⟨x,by simp,hx⟩
  | succ k=>simpa using ih k c (by simpa using hc)
theorem argsV_get:∀{own:List Bool} {vs xs:List V},argsV rt own vs=some xs→xs.length=vs.length∧∀(a:Nat) v,vs[a]?=some v→∃x,xs[a]?=some x∧((own[a]?=some true∧hand rt v=some x)∨(own[a]?≠some true∧share1 rt v=some x))
 | own,[],xs,h=>by simp[argsV] at h;subst h;simp
 | own,v::vs,xs,h=>by
  have step:∀(own':List Bool) (x:V) (ys:List V),argsV rt own' vs=some ys→xs=x::ys→(∀a,own[a+1]?=own'[a]?)→((own[0]?=some true∧hand rt v=some x)∨(own[0]?≠some true∧share1 rt v=some x))→
    xs.length=(v::vs).length∧∀(a:Nat) v',(v::vs)[a]?=some v'→∃x,xs[a]?=some x∧((own[a]?=some true∧hand rt v'=some x)∨(own[a]?≠some true∧share1 rt v'=some x)):=by
   intro own' x ys h1 h2 h3 h4
   subst h2
   obtain⟨l,ih⟩:=argsV_get h1
   refine⟨by simp[l],fun a v' hv=>?_⟩
   cases a with
   | zero=>simp at hv;subst hv;exact⟨x,by simp,h4⟩
   | succ a=>
    obtain⟨y,e1,e2⟩:=ih a v' (by simpa using hv)
    refine⟨y,by simpa using e1,?_⟩
    rw[h3]
    exact e2
  match own,h,step with
  | true::bs,h,step=>
   simp only[argsV,zqb,zqm] at h
   obtain⟨x,hx,ys,hys,rfl⟩:=h
   exact step bs x ys hys rfl (by simp) (.inl ⟨by simp,hx⟩)
  | false::bs,h,step=>
   simp only[argsV,zqb,zqm] at h
   obtain⟨x,hx,ys,hys,rfl⟩:=h
   exact step bs x ys hys rfl (by simp) (.inr ⟨by simp,hx⟩)
  | [],h,step=>
   simp only[argsV,zqb,zqm] at h
   obtain⟨x,hx,ys,hys,rfl⟩:=h
   exact step [] x ys hys rfl (by simp) (.inr ⟨by simp,hx⟩)
def strip:Path→Path→Option Path
 | [],l=>some l
 | x::p,y::l=>if x=y then strip p l else none
 | _::_,[]=>none
theorem strip_iff:∀{p l t:Path},strip p l=some t↔l=p++t
 | [],l,t=>by simp[strip]
 | x::p,[],t=>by simp[strip]
 | x::p,y::l,t=>by
  simp only[strip,List.cons_append,List.cons.injEq]
  split
  ·rename_i h;subst h;rw[strip_iff];simp
  ·rename_i h;exact⟨fun h'=>(by cases h'),fun h'=>absurd h'.1.symm h⟩
theorem strip_none {p l:Path}:strip p l=none↔¬p <+: l:=by
 constructor
 ·rintro h ⟨t,ht⟩
  rw[strip_iff.2 ht.symm] at h
  cases h
 ·intro h
  cases hs:strip p l with
  | none=>rfl
  | some t=>exact absurd ⟨t,(strip_iff.1 hs).symm⟩ h
def callOwn (ρ:Own)(g:List Giv)(lent:List Nat):Own:=fun b=>
 match ρ b with
 | none=>none
 | some (o,l)=>match lookG g o with
  | some (p,a,k)=>(match strip p l with
   | some t=>some (1,(a,k)::t)
   | none=>some (0,[(b,0)]))
  | none=>if lent.contains o then none else some (0,[(b,0)])
theorem callOwn_none {g lent b}(h:ρ b=none):callOwn ρ g lent b=none:=by simp[callOwn,h]
theorem callOwn_given {g lent b o p t a k}(h:ρ b=some (o,p++t))(hg:lookG g o=some (p,a,k)):callOwn ρ g lent b=some (1,(a,k)::t):=by simp[callOwn,h,hg,strip_iff.2 rfl]
theorem callOwn_part {g lent b o p l a k}(h:ρ b=some (o,l))(hg:lookG g o=some (p,a,k))(hp:¬p <+: l):callOwn ρ g lent b=some (0,[(b,0)]):=by simp[callOwn,h,hg,strip_none.2 hp]
theorem callOwn_lent {g lent b o l}(h:ρ b=some (o,l))(hg:lookG g o=none)(hl:o∈lent):callOwn ρ g lent b=none:=by simp[callOwn,h,hg,hl]
theorem callOwn_far {g lent b o l}(h:ρ b=some (o,l))(hg:lookG g o=none)(hl:o∉lent):callOwn ρ g lent b=some (0,[(b,0)]):=by simp[callOwn,h,hg,hl]
structure CallChk (own:List Bool) (args:List V):Prop where
 nd:nodupN ((givenOf 0 own args).map (·.1))=true
 z:0∉(givenOf 0 own args).map (·.1)
 dis:∀o,o∈lentOf own args→o∉(givenOf 0 own args).map (·.1)
 z':0∉lentOf own args
theorem callChk {own:List Bool}{args:List V}(h:(nodupN (0::(givenOf 0 own args).map (·.1))&&(lentOf own args).all (fun o=>!(0::(givenOf 0 own args).map (·.1)).contains o))=true):CallChk own args:=by
 simp only[nodupN,Bool.and_eq_true,Bool.not_eq_true',List.contains_eq_mem,decide_eq_false_iff_not,List.all_eq_true,List.mem_cons,not_or] at h
 exact⟨h.1.2,h.1.1,fun o ho=>(h.2 o ho).2,fun ho=>(h.2 0 ho).1 rfl⟩
theorem given_look {own:List Bool}{args:List V}(c:CallChk own args){o a k:Nat}{p:Path}:lookG (givenOf 0 own args) o=some (p,a,k)↔∃v x,own[a]?=some true∧args[a]?=some v∧(cells v)[k]?=some x∧hid x=some o∧p=hpath x:=by
 constructor
 ·intro h
  obtain⟨a',v,k',x,h1,h2,h3,h4,h5⟩:=givenOf_mem.1 (lookG_mem h)
  rw[Nat.zero_add] at h5
  cases h5
  exact⟨v,x,h1,h2,h3,h4,rfl⟩
 ·rintro⟨v,x,h1,h2,h3,h4,rfl⟩
  exact lookG_some c.nd (givenOf_mem.2 ⟨a,v,k,x,h1,h2,h3,h4,by rw[Nat.zero_add]⟩)
theorem callOwn_inn (J:Inj ρ){U:Pl}(hL:Lab w ρ rt U){own:List Bool}{args:List V}(c:CallChk own args):Inn w (callOwn ρ (givenOf 0 own args) (lentOf own args)):=by
 have inv:∀b L,callOwn ρ (givenOf 0 own args) (lentOf own args) b=some L→(∃o p t a k,ρ b=some (o,p++t)∧lookG (givenOf 0 own args) o=some (p,a,k)∧L=(1,(a,k)::t))∨(∃o l,ρ b=some (o,l)∧L=(0,[(b,0)])):=by
  intro b L h
  unfold callOwn at h
  split at h
  ·cases h
  ·rename_i o l hb
   split at h
   ·rename_i p a k hg
    split at h
    ·rename_i t ht
     cases h
     exact .inl ⟨o,p,t,a,k,by rw[hb,strip_iff.1 ht],hg,rfl⟩
    ·cases h
     exact .inr ⟨o,l,hb,rfl⟩
   ·split at h
    ·cases h
    ·cases h
     exact .inr ⟨o,l,hb,rfl⟩
 refine⟨?_,?_,?_⟩
 ·intro b b' L h h'
  rcases inv b L h with⟨o,p,l,a,k,h1,h2,rfl⟩ | ⟨o,l,h1,rfl⟩<;>rcases inv b' _ h' with⟨o',p',l',a',k',h1',h2',h3⟩ | ⟨o',l',h1',h3⟩
  ·cases h3
   obtain⟨v,x,e1,e2,e3,e4,e5⟩:=(given_look c).1 h2
   obtain⟨v',x',e1',e2',e3',e4',e5'⟩:=(given_look c).1 h2'
   rw[e2] at e2'
   cases e2'
   rw[e3] at e3'
   cases e3'
   rw[e4] at e4'
   cases e4'
   rw[←e5] at e5'
   subst e5'
   exact J _ _ _ h1 h1'
  ·cases h3
  ·cases h3
  ·cases h3;rfl
 ·intro b o l h
  rcases inv b _ h with⟨o',p',l',a,k,h1,h2,h3⟩ | ⟨o',l',h1,h3⟩
  ·cases h3;exact⟨(hL _ _ _ h1).1,.inr rfl⟩
  ·cases h3;exact⟨(hL _ _ _ h1).1,.inl rfl⟩
 ·intro b l h
  rcases inv b _ h with⟨o',p',l',a,k,h1,h2,h3⟩ | ⟨o',l',h1,h3⟩
  ·cases h3
  ·cases h3;rfl
theorem callOwn_keep {U:Pl}(hL:Lab w ρ rt U){own:List Bool}{args:List V}(c:CallChk own args):Keep N w ρ rt w (callOwn ρ (givenOf 0 own args) (lentOf own args)) rt0:=by
 refine⟨fun b hb _=>⟨callOwn_none hb,rfl⟩,fun o nv p _ hl=>?_,fun b l hb=>⟨?_,rfl⟩⟩
 ·simp[live,look,valid,rt0] at hl
 ·rw[hL.f _ _ hb] at *
  exact callOwn_far hb (lookG_none c.z) c.z'
theorem callArgs (H:RtOk w ρ rt)(J:Inj ρ)(hr:RtN rt){U:Pl}(hL:Lab w ρ rt U){own:List Bool}{args xs:List V}{us:List Value}(c:CallChk own args)(hlen:args.length=us.length)(hv:∀(a:Nat) v u,args[a]?=some v→us[a]?=some u→Slot w ρ rt nowhere v u∧noNew N v)(h:argsV rt own args=some xs):ArgsOk w (callOwn ρ (givenOf 0 own args) (lentOf own args)) xs us:=by
 obtain⟨l,hx⟩:=argsV_get h
 have K:=callOwn_keep (N:=N) (rt:=rt) hL c
 have I:=callOwn_inn J hL c
 refine⟨by omega,fun a x u hxa hua=>?_⟩
 have hal:=(zqg.1 hxa).1
 obtain⟨v,hva⟩:∃v,args[a]?=some v:=⟨_,zqe (by omega)⟩
 obtain⟨x',e1,e2⟩:=hx a v hva
 rw[hxa] at e1
 cases e1
 obtain⟨⟨g,hp,hg⟩,hn⟩:=hv a v u hva hua
 have shareCell:own[a]?≠some true→∀(k:Nat) cc d,(cells v)[k]?=some cc→share rt cc=some d→RepV w (callOwn ρ (givenOf 0 own args) (lentOf own args)) rt0 none d (g k)∧nh d:=by
  intro ho k cc d hc hd
  refine share_ok H J hr K hd (hg k cc hc) (noNew_cell hn hc) fun b o l ho' hb=>?_
  have hin:o∈lentOf own args:=lentOf_mem ⟨a,v,ho,hva,?_⟩
  ·exact⟨callOwn_lent hb (lookG_none (c.dis o hin)) hin,(hL _ _ _ hb).1⟩
  ·by_cases ha:isAggV v=true
   ·cases v<;>simp[isAggV] at ha
    rename_i cs
    simp only[ids]
    have:∀{cs:List V} {k:Nat} {cc:V},cs[k]?=some cc→o∈ids cc→o∈idss cs:=by
     intro cs
     induction cs with
     | nil=>intro k cc h;simp at h
     | cons y cs ih=>
      intro k cc h ho
      simp only[idss,List.mem_append]
      cases k with
      | zero=>simp at h;subst h;exact .inl ho
      | succ k=>exact .inr (ih (by simpa using h) ho)
    exact this hc ho'
   ·rw[cells_one (by simpa using ha)] at hc
    cases k<;>simp at hc
    subst hc
    exact ho'
 have finish:isAggV x=isAggV v→(cells x).length=(cells v).length→(∀(k:Nat) d,(cells x)[k]?=some d→RepV w (callOwn ρ (givenOf 0 own args) (lentOf own args)) rt0 (some (1,[(a,k)])) d (g k)∧nh d)→
   Slot w (callOwn ρ (givenOf 0 own args) (lentOf own args)) rt0 (fun k=>some (1,[(a,k)])) x u∧nh x:=by
  intro h1 h2 h3
  refine⟨⟨g,by rw[hp];unfold pack;rw[h1,h2],fun k d hd=>(h3 k d hd).1⟩,?_⟩
  by_cases ha:isAggV x=true
  ·cases x<;>simp[isAggV] at ha
   simp only[nh]
   exact nhs_iff.2 fun d hd=>by
    obtain⟨k,hk⟩:=List.mem_iff_getElem?.1 hd
    exact (h3 k d hk).2
  ·exact (h3 0 x (by rw[cells_one (by simpa using ha)];rfl)).2
 have giveCell:own[a]?=some true→∀(k:Nat) cc d,(cells v)[k]?=some cc→handC rt cc=some d→RepV w (callOwn ρ (givenOf 0 own args) (lentOf own args)) rt0 (some (1,[(a,k)])) d (g k)∧nh d:=by
  intro ho k cc d hc hd
  have hr1:=hg k cc hc
  have hn1:=noNew_cell hn hc
  have row:∀o nv r s es,hid cc=some o→valid rt o nv (hpath cc)=some r→rowAt (hpath cc) r.s r.es=some (s,es)→RowOk w (callOwn ρ (givenOf 0 own args) (lentOf own args)) rt0 (1,[(a,k)]) s es∧nhs es∧(∀b,ρ b=some (o,hpath cc)→callOwn ρ (givenOf 0 own args) (lentOf own args) b=some (1,[(a,k)]))∧live rt o nv (hpath cc):=by
   intro o nv r s es h1 h2 h3
   have hlk:=(given_look c).2 ⟨v,cc,ho,hva,hc,h1,rfl⟩
   have hlook:look rt o nv (hpath cc)=some (s,es):=by simp[look,h2,h3]
   have hnes:nhs es:=rowAt_nh (hr o r (valid_some h2).1) h3
   exact⟨RowOk.move K (fun b l hb=>⟨callOwn_given hb hlk,rfl⟩) (look_rep H hlook) hnes,hnes,fun b hb=>callOwn_given (t:=[]) (by simpa using hb) hlk,by simp[live,hlook]⟩
  unfold handC at hd
  split at hd
  ·rename_i o nv p s off len
   simp only[zqb] at hd
   obtain⟨r,hro,⟨s2,es2⟩,hrow,hd⟩:=hd
   simp only at hd
   split at hd
   ·rename_i hcond
    cases hd
    obtain⟨rfl,rfl,rfl⟩:=hcond
    obtain⟨h1,h2,h3,hlive⟩:=row o nv r s es2 rfl hro hrow
    refine⟨?_,by simpa[nh] using h2⟩
    generalize g k=u' at hr1 ⊢
    cases hr1 with
    | hs _ _ _ _ _ _ _ _ hh _=>
     obtain⟨cc,A,rfl,hlc,hcc⟩:=hh hlive
     refine usl_of_row I.inj h1 hlc fun h0=>?_
     obtain⟨b,n,hb,hbl,rfl,hle⟩:=hcc h0
     exact⟨b,n,h3 b hb,hbl,by simp,by simpa using hle⟩
   ·cases hd
  ·rename_i o nv p s i j
   simp only[zqb] at hd
   obtain⟨r,hro,⟨s2,es2⟩,hrow,hd⟩:=hd
   simp only at hd
   split at hd
   ·rename_i e
    split at hd
    ·rename_i hcond
     cases hd
     obtain⟨rfl,rfl,rfl,hes⟩:=hcond
     obtain⟨h1,h2,h3,hlive⟩:=row o nv r s [e] rfl hro hrow
     refine⟨?_,by simpa[nh,nhs] using h2⟩
     generalize g k=u' at hr1 ⊢
     cases hr1 with
     | hp _ _ _ _ _ _ _ _ hh _=>
      obtain⟨b,n,hb,hbl,rfl⟩:=hh hlive
      simpa using uptr_of_row I.inj h1 (h3 b hb)
    ·cases hd
   ·cases hd
  ·split at hd
   ·rename_i hpl
    cases hd
    exact⟨(hr1.keep K hn1).anyN,plain_nh hpl hn1⟩
   ·cases hd
 rcases e2 with⟨ho,hgv⟩ | ⟨ho,hsh⟩
 ·by_cases ha:isAggV v=true
  ·cases v<;>simp[isAggV] at ha
   rename_i cs
   simp only[hand,zqm] at hgv
   obtain⟨ds,hds,rfl⟩:=hgv
   obtain⟨l2,hget⟩:=handCs_get hds
   refine finish rfl l2 fun k d hd=>?_
   have hk:=(zqg.1 hd).1
   obtain⟨d',e1,e2⟩:=hget k _ (zqe (show k<cs.length by rw[←l2];exact hk))
   have hd':ds[k]?=some d:=hd
   rw[hd'] at e1
   cases e1
   exact giveCell ho k _ d (zqe (show k<cs.length by rw[←l2];exact hk)) e2
  ·have ha':isAggV v=false:=by simpa using ha
   have hg':handC rt v=some x:=by cases v<;>first | exact hgv | exact absurd rfl ha
   have hh:=giveCell ho 0 v x (by rw[cells_one ha'];rfl) hg'
   have hxa:isAggV x=false:=handC_one hg' ha'
   refine finish (by rw[hxa,ha']) (by rw[cells_one hxa,cells_one ha'];rfl) fun k d hd=>?_
   rw[cells_one hxa] at hd
   cases k<;>simp at hd
   subst hd
   exact hh
 ·by_cases ha:isAggV v=true
  ·cases v<;>simp[isAggV] at ha
   rename_i cs
   simp only[share1,zqm] at hsh
   obtain⟨ds,hds,rfl⟩:=hsh
   obtain⟨l2,hget⟩:=shares_get hds
   refine finish rfl l2 fun k d hd=>?_
   have hk:=(zqg.1 hd).1
   obtain⟨d',e1,e2⟩:=hget k _ (zqe (show k<cs.length by rw[←l2];exact hk))
   have hd':ds[k]?=some d:=hd
   rw[hd'] at e1
   cases e1
   have:=shareCell ho k _ d (zqe (show k<cs.length by rw[←l2];exact hk)) e2
   exact⟨this.1.anyN,this.2⟩
  ·have ha':isAggV v=false:=by simpa using ha
   have hv0:(cells v)[0]?=some v:=by rw[cells_one ha'];rfl
   by_cases hfn:∃f caps,v=.fn f caps
   ·obtain⟨f,caps,rfl⟩:=hfn
    simp only[share1,zqm] at hsh
    obtain⟨ds,hds,rfl⟩:=hsh
    obtain⟨l2,hget⟩:=shares_get hds
    refine finish rfl rfl fun k d hd=>?_
    have:k=0∧d=.fn f ds:=by
     cases k<;>simp[cells] at hd
     exact⟨rfl,hd.symm⟩
    obtain⟨rfl,rfl⟩:=this
    have h0:=hg 0 _ hv0
    generalize g 0=u0 at h0 ⊢
    cases h0 with
    | fn _ _ _ g2 hg2=>
     have each:∀(i:Nat) d,ds[i]?=some d→RepV w (callOwn ρ (givenOf 0 own args) (lentOf own args)) rt0 none d (g2 i)∧nh d:=by
      intro i d hd
      have hk:=(zqg.1 hd).1
      have hci:caps[i]?=some (caps[i]'(by omega)):=zqe _
      obtain⟨d',e1,e2⟩:=hget i _ hci
      rw[hd] at e1
      cases e1
      refine share_ok H J hr K e2 (hg2 i _ hci) (noNews_get (by simpa[noNew] using hn) hci) fun b o l ho' hb=>?_
      have hin:o∈lentOf own args:=lentOf_mem ⟨a,_,ho,hva,by
       simp only[ids]
       have:∀{cs:List V} {k:Nat} {cc:V},cs[k]?=some cc→o∈ids cc→o∈idss cs:=by
        intro cs
        induction cs with
        | nil=>intro k cc h;simp at h
        | cons y cs ih=>
         intro k cc h ho
         simp only[idss,List.mem_append]
         cases k with
         | zero=>simp at h;subst h;exact .inl ho
         | succ k=>exact .inr (ih (by simpa using h) ho)
       exact this hci ho'⟩
      exact⟨callOwn_lent hb (lookG_none (c.dis o hin)) hin,(hL _ _ _ hb).1⟩
     rw[←l2]
     refine⟨.fn _ _ _ g2 fun i d hd=>(each i d hd).1,?_⟩
     simp only[nh]
     refine nhs_iff.2 fun d hd=>?_
     obtain⟨k,hk⟩:=List.mem_iff_getElem?.1 hd
     exact (each k d hk).2
   ·have hs':share rt v=some x:=by
     cases v<;>first | exact hsh | exact absurd rfl ha | exact absurd ⟨_,_,rfl⟩ hfn
    have hh:=shareCell ho 0 v x hv0 hs'
    have hxa:isAggV x=false:=by
     have:=hs'
     unfold share at this
     split at this
     ·simp only[zqb] at this
      obtain⟨r,_,h⟩:=this
      split at h<;>cases h
      rfl
     ·simp only[zqb] at this
      obtain⟨r,_,h⟩:=this
      split at h
      ·simp only[zqm] at h
       obtain⟨_,_,rfl⟩:=h
       rfl
      ·cases h
     ·cases this;rfl
     ·split at this<;>cases this
      exact ha'
    refine finish (by rw[hxa,ha']) (by rw[cells_one hxa,cells_one ha'];rfl) fun k d hd=>?_
    rw[cells_one hxa] at hd
    cases k<;>simp at hd
    subst hd
    exact⟨hh.1.anyN,hh.2⟩
end Go.Ln
namespace Go.Ln
open Go
variable {w w' : World} {ρ ρ' ρ'' : Own} {rt rt' rt'' : Store} {N : Nat→Nat→Prop}
def invA (own:List Bool)(args:List V)(a k:Nat):Option (Nat×Path):=
 if own[a]?=some true then (args[a]?).bind fun v=>((cells v)[k]?).bind fun x=>(hid x).map fun o=>(o,hpath x) else none
theorem invA_iff {own:List Bool}{args:List V}(c:CallChk own args){o a k:Nat}{p:Path}:invA own args a k=some (o,p)↔lookG (givenOf 0 own args) o=some (p,a,k):=by
 rw[given_look c]
 unfold invA
 constructor
 ·intro h
  split at h
  ·rename_i ho
   simp only[zqb,zqm,Prod.mk.injEq] at h
   obtain⟨v,h1,x,h2,o',h3,rfl,rfl⟩:=h
   exact⟨v,x,ho,h1,h2,h3,rfl⟩
  ·cases h
 ·rintro⟨v,x,ho,h1,h2,h3,rfl⟩
  simp[ho,h1,h2,h3]
theorem backAt_nv {p:Path}{r r':Root}{y:V}(h:backAt p r y=some r'):r'.nv=r.nv+1:=by
 unfold backAt at h
 split at h
 ·unfold backRoot at h
  split at h
  ·split at h<;>cases h;rfl
  ·split at h<;>cases h;rfl
  ·cases h
 ·simp only[zqb] at h
  obtain⟨x,_,h⟩:=h
  split at h
  ·split at h
   ·simp only[zqm] at h
    obtain⟨_,_,rfl⟩:=h
    rfl
   ·cases h
  ·split at h
   ·simp only[zqm] at h
    obtain⟨_,_,rfl⟩:=h
    rfl
   ·cases h
  ·cases h
theorem backAt_own {p:Path}{r r':Root}{y:V}(h:backAt p r y=some r'):¬notOwn y:=by
 unfold backAt at h
 split at h
 ·unfold backRoot at h
  split at h<;>first | (simp[notOwn];done) | cases h
 ·simp only[zqb] at h
  obtain⟨x,_,h⟩:=h
  split at h<;>first | (simp[notOwn];done) | cases h
theorem hand_cell {own:List Bool}{v xv xx:V}{a k:Nat}(e1:own[a]?=some true)(e3:(cells v)[k]?=some xx)(e6:(own[a]?=some true∧hand rt v=some xv)∨(own[a]?≠some true∧share1 rt v=some xv)):∃z,(cells xv)[k]?=some z:=by
 rcases e6 with⟨_,hgv⟩ | ⟨h,_⟩
 ·by_cases ha:isAggV v=true
  ·cases v<;>simp[isAggV] at ha
   simp only[hand,zqm] at hgv
   obtain⟨ds,hds,rfl⟩:=hgv
   obtain⟨l2,hget⟩:=handCs_get hds
   obtain⟨d,hd,_⟩:=hget k _ e3
   exact⟨d,hd⟩
  ·rw[cells_one (by simpa using ha)] at e3
   cases k<;>simp at e3
   have hg2:handC rt v=some xv:=by cases v<;>first | exact hgv | exact absurd rfl ha
   rw[cells_one (handC_one hg2 (by simpa using ha))]
   exact⟨xv,rfl⟩
 ·exact absurd e1 h
open Classical in
noncomputable def backOwn (w:World)(ρ ρ':Own)(own:List Bool)(args:List V)(dead:List Nat)(rt2:Store)(q:Nat):Own:=fun b=>
 match ρ' b with
 | some (0,_)=>(match ρ b with
  | some (o,l)=>if lookG (givenOf 0 own args) o=none∨(rt2 o).isSome then some (o,l) else none
  | none=>none)
 | some (1,x::l)=>match invA own args x.1 x.2 with
  | some (o,p)=>if (rt2 o).isSome then some (o,p++l) else none
  | none=>none
 | some (2,l)=>some (q,l)
 | some _=>none
 | none=>if b<w.heap.size then (match ρ b with
  | some (o,l)=>if lookG (givenOf 0 own args) o=none∧o∉dead then some (o,l) else none
  | none=>none) else none
section
variable {own : List Bool} {args xs : List V} {us : List Value} {outs : List V} {dead : List Nat} {rt2 : Store} {q : Nat} {r : V} {u : Value}
 (H:RtOk w ρ rt) (J:Inj ρ) (hr:RtN rt) (hL:Lab w ρ rt noU) (hq:Fresh0 rt q) (c:CallChk own args)
 (af:Aft w (callOwn ρ (givenOf 0 own args) (lentOf own args)) w' ρ') (hdead:∀o,o∈dead→o∈lentOf own args) (hrt2:rt2=backSt rt (givenOf 0 own args) own outs dead)
include H J hr hL hq c af hdead hrt2
theorem back_given {b a k o:Nat}{l p}(h:ρ' b=some (1,(a,k)::l))(hg:lookG (givenOf 0 own args) o=some (p,a,k))(ho:(rt2 o).isSome=true):backOwn w ρ ρ' own args dead rt2 q b=some (o,p++l):=by
 simp[backOwn,h,(invA_iff c).2 hg,ho]
theorem back_res {b:Nat}{l}(h:ρ' b=some (2,l)):backOwn w ρ ρ' own args dead rt2 q b=some (q,l):=by simp[backOwn,h]
theorem back_else {b o:Nat}{l}(h:ρ b=some (o,l))(hg:lookG (givenOf 0 own args) o=none)(ho:o∉dead):backOwn w ρ ρ' own args dead rt2 q b=some (o,l)∧w'.heap[b]?=w.heap[b]?:=by
 have hlt:=(hL b o l h).1
 by_cases hl:o∈lentOf own args
 ·have h1:=af.fr b (callOwn_lent h hg hl) hlt
  exact⟨by simp[backOwn,h1.1,hlt,h,hg,ho],h1.2⟩
 ·have h1:=af.k0 b _ (callOwn_far h hg hl)
  exact⟨by simp[backOwn,h1.1,h,hg],h1.2⟩
theorem back_part {b o a k:Nat}{l p}(h:ρ b=some (o,l))(hg:lookG (givenOf 0 own args) o=some (p,a,k))(hp:¬p <+: l)(ho:(rt2 o).isSome=true):backOwn w ρ ρ' own args dead rt2 q b=some (o,l)∧w'.heap[b]?=w.heap[b]?:=by
 have h1:=af.k0 b _ (callOwn_part h hg hp)
 exact⟨by simp[backOwn,h1.1,h,ho],h1.2⟩
theorem back_inv {b o:Nat}{l}(h:backOwn w ρ ρ' own args dead rt2 q b=some (o,l)):(∃p t a k,l=p++t∧ρ' b=some (1,(a,k)::t)∧lookG (givenOf 0 own args) o=some (p,a,k)∧(rt2 o).isSome=true)∨(o=q∧ρ' b=some (2,l))∨
  (ρ b=some (o,l)∧((lookG (givenOf 0 own args) o=none∧o∉dead)∨∃p a k,lookG (givenOf 0 own args) o=some (p,a,k)∧¬p <+: l∧(rt2 o).isSome=true)):=by
 unfold backOwn at h
 split at h
 ·rename_i l' hb
  right;right
  have h1:=af.f0 b l' hb
  split at h
  ·rename_i o1 l1 hb1
   split at h
   ·rename_i hor
    cases h
    refine⟨hb1,?_⟩
    cases hg:lookG (givenOf 0 own args) o with
    | none=>
     refine .inl ⟨rfl,fun hd=>?_⟩
     rw[callOwn_lent hb1 hg (hdead o hd)] at h1
     cases h1
    | some x=>
     obtain⟨p,a,k⟩:=x
     refine .inr ⟨p,a,k,rfl,?_,hor.resolve_left (by rw[hg];simp)⟩
     rintro⟨t,rfl⟩
     rw[callOwn_given hb1 hg] at h1
     cases h1
   ·cases h
  ·cases h
 ·rename_i x l' hb
  split at h
  ·rename_i o' p' hi
   split at h
   ·rename_i hs
    cases h
    exact .inl ⟨p',l',x.1,x.2,rfl,hb,(invA_iff c).1 hi,hs⟩
   ·cases h
  ·cases h
 ·rename_i l' hb
  cases h
  exact .inr (.inl ⟨rfl,hb⟩)
 ·cases h
 ·split at h
  ·split at h
   ·rename_i hb
    split at h
    ·rename_i hc
     cases h
     exact .inr (.inr ⟨hb,.inl hc⟩)
    ·cases h
   ·cases h
  ·cases h
theorem back_none (hd:∀o,o∈lentOf own args→o∈dead){b:Nat}(h:ρ' b=none):backOwn w ρ ρ' own args dead rt2 q b=none:=by
 cases hb:backOwn w ρ ρ' own args dead rt2 q b with
 | none=>rfl
 | some L=>
  obtain⟨o,l⟩:=L
  exfalso
  rcases back_inv H J hr hL hq c af hdead hrt2 hb with⟨p,t,a,k,_,h1,_⟩ | ⟨_,h1⟩ | ⟨h1,⟨h2,h3⟩ | ⟨p,a,k,h2,h3,_⟩⟩
  ·rw[h] at h1;cases h1
  ·rw[h] at h1;cases h1
  ·have:=(af.k0 b _ (callOwn_far h1 h2 (fun hl=>h3 (hd o hl)))).1
   rw[h] at this
   cases this
  ·have:=(af.k0 b _ (callOwn_part h1 h2 h3)).1
   rw[h] at this
   cases this
theorem rt2_none {o:Nat}(h:rt o=none):rt2 o=none:=by
 rw[hrt2]
 unfold backSt
 split
 ·simp[h]
 ·split
  ·rfl
  ·exact h
theorem rt2_else {o:Nat}{r':Root}(h:rt2 o=some r')(hg:lookG (givenOf 0 own args) o=none):rt o=some r'∧o∉dead:=by
 rw[hrt2] at h
 unfold backSt at h
 rw[hg] at h
 simp only at h
 split at h
 ·cases h
 ·rename_i hd
  exact⟨h,by simpa using hd⟩
theorem rt2_back {o a k:Nat}{p:Path}{r':Root}(h:rt2 o=some r')(hg:lookG (givenOf 0 own args) o=some (p,a,k)):∃r x y,rt o=some r∧outAt own outs a=some x∧(cells x)[k]?=some y∧backAt p r y=some r':=by
 rw[hrt2] at h
 unfold backSt at h
 rw[hg] at h
 simp only[zqb] at h
 obtain⟨r,h1,y,⟨x,h2,h3⟩,h4⟩:=h
 exact⟨r,x,y,h1,h2,h3,h4⟩
theorem back_inj:Inj (backOwn w ρ ρ' own args dead rt2 q):=by
 have hq2:rt2 q=none:=rt2_none H J hr hL hq c af hdead hrt2 (hq.at')
 have hqρ:∀b l,ρ b≠some (q,l):=by
  intro b l h
  rcases (hL _ _ _ h).2 with h | ⟨r,h⟩
  ·have:=hq.p;simp only[noU] at h;omega
  ·rw[hq.at'] at h;cases h
 rintro b b' ⟨o,l⟩ h h'
 rcases back_inv H J hr hL hq c af hdead hrt2 h with⟨p,t,a,k,h0,h1,h2,h3⟩ | ⟨h1,h2⟩ | ⟨h1,h2⟩<;>rcases back_inv H J hr hL hq c af hdead hrt2 h' with⟨p',t',a',k',h0',h1',h2',h3'⟩ | ⟨h1',h2'⟩ | ⟨h1',h2'⟩
 ·rw[h2] at h2'
  cases h2'
  rw[h0] at h0'
  have:=List.append_cancel_left h0'
  subst this
  exact af.inj _ _ _ h1 h1'
 ·subst h1'
  rw[hq2] at h3
  cases h3
 ·rcases h2' with⟨h2',_⟩ | ⟨p',a',k',h2',h3',_⟩
  ·rw[h2] at h2';cases h2'
  ·rw[h2] at h2'
   cases h2'
   exact absurd ⟨t,h0.symm⟩ h3'
 ·subst h1
  rw[hq2] at h3'
  cases h3'
 ·exact af.inj _ _ _ h2 h2'
 ·subst h1
  exact absurd h1' (hqρ _ _)
 ·rcases h2 with⟨h2,_⟩ | ⟨p,a,k,h2,h3,_⟩
  ·rw[h2] at h2';cases h2'
  ·rw[h2] at h2'
   cases h2'
   exact absurd ⟨t',h0'.symm⟩ h3
 ·subst h1'
  exact absurd h1 (hqρ _ _)
 ·exact J _ _ _ h1 h1'
theorem carry {o0:Nat}{p0:List (Nat×Nat)}{L:Loc}{v:V}{z:Value}(h:RepV w' ρ' rt0 (some (o0,p0)) v z)(hn:nh v)(hd:hasImm v=true→∀o,o∈lentOf own args→o∈dead)(hmv:∀b l,ρ' b=some (o0,p0++l)→backOwn w ρ ρ' own args dead rt2 q b=some (L.1,L.2++l)):RepV w' (backOwn w ρ ρ' own args dead rt2 q) rt2 (some L) v z:=by
 have e:∀l:List (Nat×Nat),(p0++l).drop p0.length=l:=fun l=>by simp
 by_cases hi:hasImm v=true
 ·have:=h.mono0 (New:=fun _ _=>True) (w':=w') (ρ':=backOwn w ρ ρ' own args dead rt2 q) (rt':=rt2) ⟨fun b hb _=>⟨back_none H J hr hL hq c af hdead hrt2 (hd hi) hb,rfl⟩,fun o nv p hN _=>absurd trivial hN⟩
   (fun l=>(L.1,L.2++l.2.drop p0.length)) (fun l=>l.1=o0∧p0 <+: l.2)
   (fun l i k hl=>by
    obtain⟨_,t,ht⟩:=hl
    simp[Loc.at,←ht])
   (fun l i k hl=>⟨hl.1,hl.2.trans (by simp[Loc.at])⟩)
   (fun b l hl hb=>by
    obtain⟨l1,l2⟩:=l
    obtain⟨rfl,t,rfl⟩:=hl
    exact⟨by simpa using hmv b t hb,rfl⟩)
   (fun l hl=>by cases hl;exact⟨rfl,List.prefix_refl _⟩) (nh_noNew hn)
  simpa using this
 ·have:=h.monoN (w':=w') (ρ':=backOwn w ρ ρ' own args dead rt2 q) (rt':=rt2)
   (fun l=>(L.1,L.2++l.2.drop p0.length)) (fun l=>l.1=o0∧p0 <+: l.2)
   (fun l i k hl=>by
    obtain⟨_,t,ht⟩:=hl
    simp[Loc.at,←ht])
   (fun l i k hl=>⟨hl.1,hl.2.trans (by simp[Loc.at])⟩)
   (fun b l hl hb=>by
    obtain⟨l1,l2⟩:=l
    obtain⟨rfl,t,rfl⟩:=hl
    exact⟨by simpa using hmv b t hb,rfl⟩)
   (fun l hl=>by cases hl;exact⟨rfl,List.prefix_refl _⟩) hn (by simpa using hi)
  simpa using this
theorem back_keep {Un:Nat→Prop}(hret:∀o r',rt2 o=some r'→True)(hlen:args.length=us.length)(hxs:argsV rt own args=some xs)(hargs:ArgsOk w (callOwn ρ (givenOf 0 own args) (lentOf own args)) xs us)(hout:OutsOk w (callOwn ρ (givenOf 0 own args) (lentOf own args)) w' ρ' own xs us outs){id:Nat} :
  Keep (NewOf Un rt) w ρ rt w' (backOwn w ρ ρ' own args dead rt2 q) rt2:=by
 refine⟨fun b hb hl=>?_,fun o nv p hN hl=>?_,fun b l hb=>?_⟩
 ·have h1:=af.fr b (callOwn_none hb) hl
  exact⟨by simp[backOwn,h1.1,hl,hb],h1.2⟩
 ·obtain⟨r',hr2,hpv⟩:∃r',rt2 o=some r'∧((p=[]∨r'.nv=nv)∧(rowAt p r'.s r'.es).isSome=true):=by
   unfold live look at hl
   cases hv:valid rt2 o nv p with
   | none=>simp[hv] at hl
   | some r'=>
    obtain⟨h1,h2⟩:=valid_some hv
    simp only[hv,zqs] at hl
    exact⟨r',h1,h2,hl⟩
  cases hg:lookG (givenOf 0 own args) o with
  | none=>
   obtain⟨h1,h2⟩:=rt2_else H J hr hL hq c af hdead hrt2 hr2 hg
   refine⟨?_,fun b n hb hn=>⟨(back_else H J hr hL hq c af hdead hrt2 hb hg h2).1,af.wk.blk b n hn⟩⟩
   unfold live look valid
   have:(p.isEmpty||r'.nv==nv)=true:=by
    rcases hpv.1 with h | h<;>simp[h]
   simp[h1,this,hpv.2]
  | some x=>
   obtain⟨pp,a,k⟩:=x
   obtain⟨r1,x,y,h1,h2,h3,h4⟩:=rt2_back H J hr hL hq c af hdead hrt2 hr2 hg
   have hnv:nv≤r1.nv:=Nat.le_of_not_lt fun hlt=>hN (.inr ⟨r1,h1,hlt⟩)
   have hnv':r'.nv=r1.nv+1:=backAt_nv h4
   have hp:p=[]:=by
    rcases hpv.1 with h | h
    ·exact h
    ·omega
   subst hp
   refine⟨by simp[live,look,valid,h1,rowAt],fun b n hb hn=>⟨?_,af.wk.blk b n hn⟩⟩
   by_cases hpp:pp=[]
   case neg=>
    exact (back_part H J hr hL hq c af hdead hrt2 hb hg (by simpa using hpp) (by rw[hr2];rfl)).1
   subst hpp
   obtain⟨v,xx,e1,e2,e3,e4,_⟩:=(given_look c).1 hg
   obtain⟨ll,hx⟩:=argsV_get hxs
   obtain⟨xv,e5,e6⟩:=hx a v e2
   have hua:∃u,us[a]?=some u:=⟨_,zqe (by have:=(zqg.1 e2).1;omega)⟩
   obtain⟨u,hua⟩:=hua
   obtain⟨⟨g,hp,hg'⟩,hnn⟩:=hargs.2 a xv u e5 hua
   have hyo:¬notOwn y:=backAt_own h4
   obtain⟨z,hz⟩:=hand_cell e1 e3 e6
   obtain⟨q1,q2,q3⟩:=hout a xv u x e5 hua h2 g hp k y z h3 hz hyo
   have:=back_given H J hr hL hq c af hdead hrt2 (q3 b n (callOwn_given (t:=[]) (by simpa using hb) hg) hn) hg (by rw[hr2];rfl)
   simpa using this
 ·have h0:lookG (givenOf 0 own args) 0=none:=lookG_none c.z
  exact back_else H J hr hL hq c af hdead hrt2 hb h0 fun hd=>c.z' (hdead 0 hd)
end
end Go.Ln
namespace Go.Ln
open Go
variable {w w' : World} {ρ ρ' ρ'' : Own} {rt rt' rt'' : Store} {N : Nat→Nat→Prop}
theorem hasImms_get:∀{vs:List V} {i:Nat} {v:V},hasImms vs=false→vs[i]?=some v→hasImm v=false
 | [],i,v,_,h=>by simp at h
 | x::vs,i,v,h,e=>by
  simp only[hasImms,Bool.or_eq_false_iff] at h
  cases i with
  | zero=>simp at e;subst e;exact h.1
  | succ i=>exact hasImms_get h.2 (by simpa using e)
theorem hasImm_cell {v x:V}{k:Nat}(h:hasImm v=false)(e:(cells v)[k]?=some x):hasImm x=false:=by
 by_cases ha:isAggV v=true
 ·cases v<;>simp[isAggV] at ha
  exact hasImms_get (by simpa[hasImm,cells] using h) e
 ·rw[cells_one (by simpa using ha)] at e
  cases k<;>simp at e
  subst e
  exact h
theorem outAt_get:∀{own:List Bool} {outs:List V} {a:Nat} {x:V},outAt own outs a=some x→∃i:Nat,outs[i]?=some x
 | [],outs,a,x,h=>by simp[outAt] at h
 | true::bs,[],a,x,h=>by cases a<;>simp[outAt] at h
 | true::bs,y::ys,0,x,h=>by simp[outAt] at h;exact⟨0,by simp[h]⟩
 | true::bs,y::ys,a+1,x,h=>by
  simp only[outAt] at h
  obtain⟨i,hi⟩:=outAt_get h
  exact⟨i+1,by simpa using hi⟩
 | false::bs,outs,0,x,h=>by cases outs<;>simp[outAt] at h
 | false::bs,outs,a+1,x,h=>by
  have:outAt bs outs a=some x:=by cases outs<;>simpa[outAt] using h
  exact outAt_get this
section
variable {own : List Bool} {args xs : List V} {us : List Value} {outs : List V} {dead : List Nat} {rt2 : Store} {q : Nat} {r : V} {u : Value}
 (H:RtOk w ρ rt) (J:Inj ρ) (hr:RtN rt) (hL:Lab w ρ rt noU) (hq:Fresh0 rt q) (c:CallChk own args)
 (af:Aft w (callOwn ρ (givenOf 0 own args) (lentOf own args)) w' ρ') (hdead:∀o,o∈dead→o∈lentOf own args) (hrt2:rt2=backSt rt (givenOf 0 own args) own outs dead)
include H J hr hL hq c af hdead hrt2
theorem back_cell (hlen:args.length=us.length)(hxs:argsV rt own args=some xs)(hargs:ArgsOk w (callOwn ρ (givenOf 0 own args) (lentOf own args)) xs us)(hout:OutsOk w (callOwn ρ (givenOf 0 own args) (lentOf own args)) w' ρ' own xs us outs){o a k:Nat}{p:Path}{r':Root}(hr2:rt2 o=some r')(hg:lookG (givenOf 0 own args) o=some (p,a,k)) :
  ∃r1 x y z,rt o=some r1∧outAt own outs a=some x∧(cells x)[k]?=some y∧backAt p r1 y=some r'∧¬notOwn y∧nh y∧RepV w' ρ' rt0 (some (1,[(a,k)])) y z∧
   ∀b n,callOwn ρ (givenOf 0 own args) (lentOf own args) b=some (1,[(a,k)])→Blk w b n→ρ' b=some (1,[(a,k)]):=by
 obtain⟨r1,x,y,h1,h2,h3,h4⟩:=rt2_back H J hr hL hq c af hdead hrt2 hr2 hg
 obtain⟨v,xx,e1,e2,e3,e4,_⟩:=(given_look c).1 hg
 obtain⟨ll,hx⟩:=argsV_get hxs
 obtain⟨xv,e5,e6⟩:=hx a v e2
 obtain⟨u,hua⟩:∃u,us[a]?=some u:=⟨_,zqe (by have:=(zqg.1 e2).1;omega)⟩
 obtain⟨⟨g,hp,hg'⟩,hnn⟩:=hargs.2 a xv u e5 hua
 have hyo:¬notOwn y:=backAt_own h4
 obtain⟨z,hz⟩:=hand_cell e1 e3 e6
 obtain⟨q1,q2,q3⟩:=hout a xv u x e5 hua h2 g hp k y z h3 hz hyo
 exact⟨r1,x,y,g k,h1,h2,h3,h4,hyo,q1,q2,q3⟩
theorem back_row (hlen:args.length=us.length)(hxs:argsV rt own args=some xs)(hargs:ArgsOk w (callOwn ρ (givenOf 0 own args) (lentOf own args)) xs us)(hout:OutsOk w (callOwn ρ (givenOf 0 own args) (lentOf own args)) w' ρ' own xs us outs)(him:hasImms outs=true→∀o,o∈lentOf own args→o∈dead) :
  RtOk w' (backOwn w ρ ρ' own args dead rt2 q) rt2∧RtN rt2∧Lab w' (backOwn w ρ ρ' own args dead rt2 q) rt2 (fun o _=>o=0∨o=q):=by
 have K:=back_keep H J hr hL hq c af hdead hrt2 (Un:=fun _=>False) (fun _ _ _=>trivial) hlen hxs hargs hout (id:=q)
 have BJ:=back_inj H J hr hL hq c af hdead hrt2
 refine⟨fun o r' h=>?_,fun o r' h=>?_,?_⟩
 ·cases hg:lookG (givenOf 0 own args) o with
  | none=>
   obtain⟨h1,h2⟩:=rt2_else H J hr hL hq c af hdead hrt2 h hg
   exact RowOk.under K (fun b l hb _=>back_else H J hr hL hq c af hdead hrt2 hb hg h2) (H o r' h1) (hr o r' h1)
  | some x=>
   obtain⟨p,a,k⟩:=x
   obtain⟨r1,x,y,z,h1,h2,h3,h4,h5,h6,h7,h8⟩:=back_cell H J hr hL hq c af hdead hrt2 hlen hxs hargs hout h hg
   have hsm:(rt2 o).isSome=true:=by rw[h];rfl
   have hcar:=carry H J hr hL hq c af hdead hrt2 (L:=(o,p)) h7 h6 (fun hi=>him (by
    cases hb:hasImms outs with
    | true=>rfl
    | false=>
     obtain⟨i,hi'⟩:=outAt_get h2
     rw[hasImm_cell (hasImms_get hb hi') h3] at hi
     cases hi)) (fun b l hb=>back_given H J hr hL hq c af hdead hrt2 hb hg hsm)
   have deep:∀{s1:Nat} {old new es':List V},rowAt p r1.s r1.es=some (s1,old)→setRow new p r1.es=some es'→new.length=old.length→RowOk w' (backOwn w ρ ρ' own args dead rt2 q) rt2 (o,p) s1 new→RowOk w' (backOwn w ρ ρ' own args dead rt2 q) rt2 (o,[]) r1.s es':=by
    intro s1 old new es' q1 q2 q3 q4
    refine rowOk_set (p0:=[]) K BJ q3 (H o r1 h1) (hr o r1 h1) q1 q2 (fun b l hb _ hl=>?_) (fun b arr T hb hh=>?_) (by simpa using q4)
    ·exact back_part H J hr hL hq c af hdead hrt2 hb hg (by simpa using hl) hsm
    ·have hb':ρ b=some (o,p++[]):=by simpa using hb
     have hk:=h8 b arr.size (callOwn_given hb' hg) ⟨arr,T,hh,rfl⟩
     have:=back_given H J hr hL hq c af hdead hrt2 hk hg hsm
     obtain⟨arr',T',q5,q6⟩:=af.wk.blk b arr.size ⟨arr,T,hh,rfl⟩
     exact⟨by simpa using this,arr',T',q5,q6⟩
   unfold backAt at h4
   split at h4
   ·unfold backRoot at h4
    split at h4
    ·split at h4<;>cases h4
     exact rowOk_usl hcar
    ·rename_i e
     split at h4
     ·rename_i hc
      cases h4
      have:=rowOk_uptr hcar
      rw[hc] at this
      exact this
     ·cases h4
    ·cases h4
   ·simp only[zqb] at h4
    obtain⟨⟨s1,old⟩,q1,h4⟩:=h4
    simp only at h4
    split at h4
    ·split at h4
     ·rename_i hc
      simp only[zqm] at h4
      obtain⟨es',q2,rfl⟩:=h4
      obtain⟨rfl,hc2⟩:=hc
      exact deep q1 q2 hc2 (rowOk_usl hcar)
     ·cases h4
    ·rename_i e
     split at h4
     ·rename_i hc
      simp only[zqm] at h4
      obtain⟨es',q2,rfl⟩:=h4
      have:=rowOk_uptr hcar
      rw[hc.1] at this
      exact deep q1 q2 (by simp[hc.2]) this
     ·cases h4
    ·cases h4
 ·cases hg:lookG (givenOf 0 own args) o with
  | none=>exact hr o r' (rt2_else H J hr hL hq c af hdead hrt2 h hg).1
  | some x=>
   obtain⟨p,a,k⟩:=x
   obtain⟨r1,x,y,z,h1,h2,h3,h4,h5,h6,h7,h8⟩:=back_cell H J hr hL hq c af hdead hrt2 hlen hxs hargs hout h hg
   unfold backAt at h4
   split at h4
   ·unfold backRoot at h4
    split at h4
    ·split at h4<;>cases h4
     simpa[nh] using h6
    ·split at h4<;>cases h4
     simpa[nh,nhs] using h6
    ·cases h4
   ·simp only[zqb] at h4
    obtain⟨⟨s1,old⟩,q1,h4⟩:=h4
    simp only at h4
    split at h4
    ·split at h4
     ·simp only[zqm] at h4
      obtain⟨es',q2,rfl⟩:=h4
      exact setRow_nh (by simpa[nh] using h6) (hr o r1 h1) q2
     ·cases h4
    ·split at h4
     ·simp only[zqm] at h4
      obtain⟨es',q2,rfl⟩:=h4
      exact setRow_nh (by simpa[nh,nhs] using h6) (hr o r1 h1) q2
     ·cases h4
    ·cases h4
 ·refine⟨fun b o l h=>?_,rt2_none H J hr hL hq c af hdead hrt2 hL.z,fun b l h=>?_⟩
  ·rcases back_inv H J hr hL hq c af hdead hrt2 h with⟨p,t,a,k,h0,h1,h2,h3⟩ | ⟨h1,h2⟩ | ⟨h1,h2⟩
   ·exact⟨(af.lab _ _ _ h1).1,.inr (Option.isSome_iff_exists.1 h3)⟩
   ·exact⟨(af.lab _ _ _ h2).1,.inl (.inr h1)⟩
   ·refine⟨Nat.lt_of_lt_of_le (hL _ _ _ h1).1 af.wk.size,?_⟩
    rcases h2 with⟨h2,h3⟩ | ⟨p,a,k,h2,h3,h4⟩
    ·rcases (hL _ _ _ h1).2 with h | ⟨r,h⟩
     ·exact .inl (.inl h)
     ·refine .inr ⟨r,?_⟩
      rw[hrt2]
      unfold backSt
      rw[h2]
      simp[h3,h]
    ·exact .inr (Option.isSome_iff_exists.1 h4)
  ·rcases back_inv H J hr hL hq c af hdead hrt2 h with⟨p,t,a,k,h0,h1,h2,h3⟩ | ⟨h1,h2⟩ | ⟨h1,h2⟩
   ·rw[lookG_none c.z] at h2;cases h2
   ·have:=hq.p;omega
   ·exact hL.f _ _ h1
end
theorem Runs.mono {P:Program}{f:FuncId}{us:Array Value}{K K':Value→World→Prop}(h:Runs P f us w K)(hk:∀u w',K u w'→K' u w'):Runs P f us w K':=by
 rcases h with⟨u,w',h1,h2⟩ | ⟨h1,h2⟩
 ·exact .inl ⟨u,w',h1,hk _ _ h2⟩
 ·exact .inr ⟨h1,h2.mono fun e w' ⟨u,he,h⟩=>⟨u,he,hk _ _ h⟩⟩
theorem tup_slot {vs:List V}{p:Nat→Value}(h:∀(c:Nat) v,vs[c]?=some v→Slot w ρ rt nowhere v (p c)):RepV w ρ rt none (.tup vs) (.tuple (arrOf vs.length p)):=by
 have:∀c:Nat,∃g:Nat→Value,∀v,vs[c]?=some v→p c=pack v g∧∀k x,(cells v)[k]?=some x→RepV w ρ rt none x (g k):=fun c=>by
  cases hv:vs[c]? with
  | none=>exact⟨fun _=>undef,fun v h=>by cases h⟩
  | some v=>
   obtain⟨g,h1,h2⟩:=h c v hv
   exact⟨g,fun v' h'=>by cases h';exact⟨h1,h2⟩⟩
 obtain⟨g,hg⟩:=Classical.skolem.1 this
 exact .tup _ vs p g (fun c v hv=>(hg c v hv).1) fun c v k x hv hx=>(hg c v hv).2 k x hx
theorem n_call {P:Program}{E:Env}{G:Ground}(hG:∀f e,E.fn f=some e→Good P G f e)(H:RtOk w ρ rt)(J:Inj ρ)(hr:RtN rt)(hL:Lab w ρ rt noU){Un:Nat→Prop}{id:Nat}(hi:Fresh Un rt id)(hgr:G.ok w ρ){f:FuncId}{args:List V}{us:List Value}{v:V}(hlen:args.length=us.length)(hv:∀(a:Nat) v u,args[a]?=some v→us[a]?=some u→Slot w ρ rt nowhere v u∧noNew (NewOf Un rt) v)(h:callV E rt id f args=some (v,rt')):Runs P f us.toArray w (fun u w'=>Out Un w ρ rt id v rt' u w'):=by
 simp only[callV,zqb] at h
 obtain⟨e,he,h⟩:=h
 split at h
 ·rename_i hchk
  have c:=callChk hchk
  simp only[zqb] at h
  obtain⟨xs,hxs,⟨r,outs⟩,hF,h⟩:=h
  simp only at h
  split at h
  ·rename_i hroom
   cases h
   have hargs:=callArgs (N:=NewOf Un rt) H J hr hL c hlen hv hxs
   have hinn:=callOwn_inn J hL c
   refine (hG f e he w _ xs us r outs hargs hinn ⟨hgr.1,fun b hb=>callOwn_none (hgr.2.1 b hb),hgr.2.2⟩ hF).mono ?_
   rintro u w' ⟨ρ',af,⟨p,hu,hp⟩,hout⟩
   generalize hdd:(if (hasImm r||hasImms outs)=true then lentOf e.own args else [])=dead at hroom ⊢
   have hdead:∀o,o∈dead→o∈lentOf e.own args:=fun o ho=>by
    rw[←hdd] at ho
    split at ho
    ·exact ho
    ·cases ho
   have himm:(hasImm r||hasImms outs)=true→∀o,o∈lentOf e.own args→o∈dead:=fun hi o ho=>by
    rw[←hdd,if_pos hi];exact ho
   generalize hrt2:backSt rt (givenOf 0 e.own args) e.own outs dead=rt2 at hroom ⊢
   have hrt2':=hrt2.symm
   obtain⟨b1,b2,b3⟩:=back_row H J hr hL hi.one c af hdead hrt2' hlen hxs hargs hout (fun hb=>himm (by simp[hb]))
   have bk:=back_keep H J hr hL hi.one c af hdead hrt2' (Un:=Un) (fun _ _ _=>trivial) hlen hxs hargs hout (id:=id)
   have bj:=back_inj H J hr hL hi.one c af hdead hrt2'
   have hf2:Fresh Un rt2 id:=⟨fun o ho=>rt2_none H J hr hL hi.one c af hdead hrt2' (hi.f o ho),hi.u,hi.p⟩
   have hcell:∀(cc:Nat) (v:V),(comps r)[cc]?=some v→hasImm r=false→hasImm v=false:=by
    intro cc v hv hn
    by_cases ht:isTup r=true
    ·cases r<;>simp[isTup] at ht
     exact hasImms_get (by simpa[hasImm,comps] using hn) hv
    ·have hcr:comps r=[r]:=by cases r<;>first | rfl | exact absurd rfl ht
     rw[hcr] at hv
     cases cc with
     | zero=>simp at hv;subst hv;exact hn
     | succ cc=>simp at hv
   have pl:=placeAll (N:=NewOf Un rt) b1 bj b2 b3 (Nat.ne_of_gt hi.p) hf2.at hi.p (fun o h1 h2=>hf2.f o (hi.u o h1 (by omega))) (fun o nv h1 h2=>.inl (hi.u o h1 (by omega))) (vs:=comps r) (p:=p) (fun cc v hv=>by
    obtain⟨⟨g,h1,h2⟩,h3,h4⟩:=hp cc v hv
    refine⟨⟨g,h1,fun k x hx=>?_⟩,h3⟩
    refine carry H J hr hL hi.one c af hdead hrt2' (L:=(id,[(cc,k)])) (h2 k x hx) (nh_cell h3 hx) (fun him=>himm ?_) (fun b l hb=>back_res H J hr hL hi.one c af hdead hrt2' hb)
    cases hri:hasImm r with
    | true=>simp
    | false=>rw[hasImm_cell (hcell cc v hv hri) hx] at him;cases him)
   refine⟨_,⟨pl.rok,pl.inj,pl.rtn,bk.trans pl.keep af.wk.size,pl.lab,af.wk,?_,fun b l h=>?_⟩,?_,?_⟩
   rotate_left
   ·rcases back_inv H J hr hL hi.one c af hdead hrt2' (pl.f0 b l h) with⟨p,t,a,k,h0,h1,h2,h3⟩ | ⟨h1,h2⟩ | ⟨h1,h2⟩
    ·rw[lookG_none c.z] at h2;cases h2
    ·have:=hi.p;omega
    ·exact h1
   rotate_right
   ·intro o r' h
    rcases pl.nv o r' h with h1 | ⟨h1,h2⟩
    ·left
     cases hg:lookG (givenOf 0 e.own args) o with
     | none=>exact⟨r',(rt2_else H J hr hL hi.one c af hdead hrt2' h1 hg).1,Nat.le_refl _⟩
     | some x=>
      obtain⟨p,a,k⟩:=x
      obtain⟨r1,x,y,q1,q2,q3,q4⟩:=rt2_back H J hr hL hi.one c af hdead hrt2' h1 hg
      exact⟨r1,q1,by rw[backAt_nv q4];exact Nat.le_succ _⟩
    ·exact .inr ⟨h1,by omega⟩
   ·have ll:=(inst1s_spec (vs:=comps r) (id:=id) (c:=0)).1
    rw[hu]
    by_cases ht:isTup r=true
    ·cases r<;>simp[isTup] at ht
     rename_i vs
     simp only[isTup,if_true,retup]
     have:=tup_slot fun c y hy=>(pl.val c y hy).1
     rw[ll] at this
     exact Slot.mk1 rfl this
    ·have hcr:comps r=[r]:=by cases r<;>first | rfl | exact absurd rfl ht
     have hys:∃y,(inst1s id 0 (comps r)).1=[y]:=by
      rw[hcr] at ll ⊢
      match hh:(inst1s id 0 [r]).1,ll with
      | [y],_=>exact⟨y,rfl⟩
     obtain⟨y,hy⟩:=hys
     have hret:retup r (inst1s id 0 (comps r)).1=y:=by
      rw[hy]
      cases r<;>first | rfl | exact absurd rfl ht
     simp only[ht]
     rw[hret]
     exact (pl.val 0 y (by rw[hy];rfl)).1
   ·have mono:∀{y:V},(∀Un':Nat→Prop,(∀o,id≤o→o<id+(inst1s id 0 (comps r)).2.length→¬Un' o)→noNew (NewOf Un' (addRoots rt2 id (inst1s id 0 (comps r)).2)) y)→noNew (NewOf (less Un id) (addRoots rt2 id (inst1s id 0 (comps r)).2)) y:=fun hn=>
     hn _ fun o h1 h2 h=>h.2 ⟨h1,by omega⟩
    by_cases ht:isTup r=true
    ·cases r<;>simp[isTup] at ht
     rename_i vs
     simp only[retup,noNew]
     refine noNews_iff.2 fun y hy=>?_
     obtain⟨c,hc⟩:=List.mem_iff_getElem?.1 hy
     exact mono (pl.val c y hc).2
    ·have ll:=(inst1s_spec (vs:=comps r) (id:=id) (c:=0)).1
     have hcr:comps r=[r]:=by cases r<;>first | rfl | exact absurd rfl ht
     have hys:∃y,(inst1s id 0 (comps r)).1=[y]:=by
      rw[hcr] at ll ⊢
      match hh:(inst1s id 0 [r]).1,ll with
      | [y],_=>exact⟨y,rfl⟩
     obtain⟨y,hy⟩:=hys
     have hret:retup r (inst1s id 0 (comps r)).1=y:=by
      rw[hy]
      cases r<;>first | rfl | exact absurd rfl ht
     rw[hret]
     exact mono (pl.val 0 y (by rw[hy];rfl)).2
  ·cases h
 ·cases h
end Go.Ln
namespace Go.Ln
open Go
variable {w w' : World} {ρ ρ' ρ'' : Own} {rt rt' rt'' : Store} {N : Nat→Nat→Prop}
def Acts (P:Program)(o:Oper)(a:Act)(w:World)(K:Value→World→Prop):Prop:=
 (∃u w',(execOp a.eval o).run P w=.ok (.value u) w'∧K u w')∨(∃w',(execOp a.eval o).run P w=.ok .skip w'∧K undef w')∨
 (∃f us,(execOp a.eval o).run P w=.ok (.enter f us) w∧Calls P f us w fun e w'=>∃u,e=.returned u∧K u w')
theorem Acts.wp {P:Program}{o:Oper}{a:Act}{K:Value→World→Prop}{next:Act→World→Prop}{Q:Exit→Act→World→Prop}(h:Acts P o a w K)(hn:∀u w',K u w'→next (a.put o.dst u) w'):o.wp P a w next Q:=by
 unfold Oper.wp
 rcases h with⟨u,w',h1,h2⟩ | ⟨w',h1,h2⟩ | ⟨f,us,h1,h2⟩
 ·rw[h1];exact hn u w' h2
 ·rw[h1];exact hn undef w' h2
 ·rw[h1]
  exact h2.mono fun e w' ⟨u,he,hk⟩=>by subst he;exact hn u w' hk
theorem arr_one {x:Array Operand}{st:St}{d:V}(h:evs st x.toList=some [d]):∃p,x=#[p]∧ev st p=some d:=by
 obtain⟨l⟩:=x
 simp only at h
 match l,h with
 | [p],h=>
  simp only[evs,zqb,zqm] at h
  obtain⟨v,hv,_,h1,h2⟩:=h
  cases h1
  cases h2
  exact⟨p,rfl,hv⟩
 | [],h=>simp[evs] at h
 | _::_::_,h=>
  simp only[evs,zqb,zqm] at h
  obtain⟨v,hv,_,⟨_,_,_,_,h1⟩,h2⟩:=h
  subst h1
  cases h2
theorem arr_two {x:Array Operand}{st:St}{d e:V}(h:evs st x.toList=some [d,e]):∃p q,x=#[p,q]∧ev st p=some d∧ev st q=some e:=by
 obtain⟨l⟩:=x
 simp only at h
 match l,h with
 | [p,q],h=>
  simp only[evs,zqb,zqm] at h
  obtain⟨v,hv,_,⟨v2,hv2,_,h3,h1⟩,h2⟩:=h
  cases h3
  subst h1
  cases h2
  exact⟨p,q,rfl,hv,hv2⟩
 | [],h=>simp[evs] at h
 | [_],h=>simp[evs,zqb] at h
 | _::_::_::_,h=>
  simp only[evs,zqb,zqm] at h
  obtain⟨v,hv,_,⟨v2,hv2,_,⟨_,_,_,_,h3⟩,h1⟩,h2⟩:=h
  subst h3
  subst h1
  cases h2
section
variable {P : Program} {E : Env} {G : Ground} (hG : ∀ f e,E.fn f=some e→Good P G f e) (A : Agree P E) {st : St} {a : Act} {o : Oper} (H : RtOk w ρ st.rt) (J : Inj ρ) (T : TmOk w ρ st.rt st.tm a.tmps) (hr : RtN st.rt) (hL : Lab w ρ st.rt noU) {Un : Nat→Prop} {id : Nat} (hm : TmN (NewOf Un st.rt) st.tm) (hi : Fresh Un st.rt id) (hgr : G.ok w ρ)
include hG A H J T hr hL hm hi hgr
theorem notNew {o:Nat}{r:Root}(h:st.rt o=some r):¬NewOf Un st.rt o r.nv:=by
 rintro (h1 | ⟨r',h1,h2⟩)
 ·rw[hi.f o h1] at h;cases h
 ·rw[h] at h1;cases h1;omega
theorem n_op {v : V}{rt' : Store}(h : opV E id st o.op = some (v, rt')) : Acts P o a w (fun u w' => Out Un w ρ st.rt id v rt' u w') := by
  by_cases hp : pureOp o.op = true
  · obtain ⟨rfl, ⟨u, h1, h2⟩, h3⟩ := opPure A H J T hm hr (fun o r h => notNew hG A H J T hr hL hm hi hgr h) hp h
    refine .inl ⟨u, w, h1, ρ, ⟨H, J, hr, Keep.refl, hL, Wk.refl, fun o r h => .inl ⟨r, h, Nat.le_refl _⟩, fun _ _ h => h⟩, h2, ?_⟩
    refine noNew_mono (fun o nv h => ?_) h3
    rcases h with h | h
    · exact .inl h.1
    · exact .inr h
  · have mk : (∃ u w', (execOp a.eval o).run P w = .ok (.value u) w' ∧ Out Un w ρ st.rt id v rt' u w') → Acts P o a w (fun u w' => Out Un w ρ st.rt id v rt' u w') := fun ⟨u, w', h1, h2⟩ => .inl ⟨u, w', h1, h2⟩
    cases hop : o.op with
    | alloc t => exact mk (n_alloc A H J T hr hL hm hi hop h)
    | box t x => exact mk (n_box A H J T hr hL hm hi hop h)
    | buildSlice t n ps => exact mk (n_buildSlice A H J T hr hL hm hi hop h)
    | makeSlice t x y => exact mk (n_makeSlice A H J T hr hL hm hi hop h)
    | store t p x =>
      rw [show o.op = .store t p x from hop] at h
      have h' : opV E id st o.op = some (v, rt') := by rw [hop]; exact h
      obtain ⟨w', h1, h2⟩ := n_store A H J T hr hL hm hi hop h'
      exact .inr (.inl ⟨w', h1, h2⟩)
    | call c =>
      obtain ⟨cal, args, ts⟩ := c
      rw [hop] at h
      simp only [opV, callOp, zqb] at h
      obtain ⟨vs, hvs, h⟩ := h
      cases cal with
      | builtin b =>
        cases b <;> simp only [builtinV] at h <;> first | (cases h; done) | skip
        all_goals first
          | (rw [hop] at hp; simp [pureOp] at hp; done)
          | skip
        all_goals first
          | (match vs, hvs, h with
             | [d, x], hvs, h =>
               simp only [builtinV, zqb] at h
               obtain ⟨t, ht, t1, ht1, h⟩ := h
               split at h
               · rename_i hs1
                 obtain ⟨p, q, rfl, h1, h2⟩ := arr_two hvs
                 exact mk (n_append A H J T hr hL hm hi hop ht ht1 hs1 h1 h2 h)
               · cases h
             | [], _, h => simp [builtinV] at h
             | [_], _, h => simp [builtinV] at h
             | _ :: _ :: _ :: _, _, h => simp [builtinV] at h)
          | (match vs, hvs, h with
             | [x], hvs, h =>
               simp only [builtinV, zqb, zqm, Prod.mk.injEq] at h
               obtain ⟨t, ht, r1, hr1, rfl, rfl⟩ := h
               obtain ⟨p, rfl, h1⟩ := arr_one hvs
               exact mk (n_clear A H J T hr hL hm hi hop ht h1 hr1)
             | [], _, h => simp [builtinV] at h
             | _ :: _ :: _, _, h => simp [builtinV] at h)
      | value f =>
        simp only [zqb] at h
        obtain ⟨fv, hf, h⟩ := h
        split at h
        · rename_i fid caps
          obtain ⟨hl, hrep⟩ := evs_rep T hvs
          have hfs := Slot.one rfl (ev_rep T hf)
          have hfn := ev_nn hm hf
          have hcaps : ∃ g : Nat → Value, a.eval f = .func (.func fid) #[] (arrOf caps.length g) ∧ ∀ (i : Nat) v, caps[i]? = some v → RepV w ρ st.rt none v (g i) := by
            generalize a.eval f = uf at hfs
            cases hfs with
            | fn _ _ _ g hg => exact ⟨g, rfl, hg⟩
          obtain ⟨g, hef, hg⟩ := hcaps
          have hus : ((args.toList.map a.eval) ++ (List.range caps.length).map g).toArray = #[] ++ args.map a.eval ++ arrOf caps.length g := by
            apply Array.ext'
            simp [arrOf]
          have hl' : vs.length = args.size := by simpa using hl
          have hn := n_call (us := (args.toList.map a.eval) ++ (List.range caps.length).map g) hG H J hr hL hi hgr (by simp [hl]) (fun i v u hv hu => by
            by_cases hlt : i < vs.length
            · rw [zql hlt] at hv
              rw [zql (by simp; omega), List.getElem?_map] at hu
              obtain ⟨x, hx, rfl⟩ := zqm.1 hu
              exact ⟨hrep i v x hv hx, noNews_get (evs_nn hm hvs) hv⟩
            · rw [zqr (by omega)] at hv
              rw [zqr (by simp; omega), List.getElem?_map] at hu
              obtain ⟨j, hj, rfl⟩ := zqm.1 hu
              have hj' : j = i - vs.length := by
                have h1 := (zqg.1 hj).1
                simp at h1
                rw [List.getElem?_range (by simpa using h1)] at hj
                simp [hl] at hj ⊢
                omega
              subst hj'
              have h1 := hg _ v hv
              exact ⟨Slot.mk1 (by cases v <;> first | rfl | (cases h1)) h1, noNews_get (by simpa [noNew] using hfn) hv⟩) h
          have hrun : (execOp a.eval o).run P w = (callFunc fid ((args.toList.map a.eval) ++ (List.range caps.length).map g).toArray).run P w := by
            rw [hus]
            simp [execOp, hop, resolve, Deferred.ofValue, hef, invoke]
          rcases hn with ⟨u, w', h1, h2⟩ | ⟨h1, h2⟩
          · exact .inl ⟨u, w', by rw [hrun]; exact h1, h2⟩
          · exact .inr (.inr ⟨fid, _, by rw [hrun]; exact h1, h2⟩)
        · cases h
      | invoke x m => simp at h
    | _ => rw [hop] at hp h; first | (simp [pureOp] at hp; done) | (simp [opV] at h; done)
end
end Go.Ln
namespace Go.Ln
open Go
structure RelU (Un:Nat→Prop) (G:Ground) (m:Nat) (w0:World) (ρ0:Own) (w:World) (ρ:Own) (st:St) (a:Act):Prop where
 tm:TmOk w ρ st.rt st.tm a.tmps
 rok:RtOk w ρ st.rt
 inj:Inj ρ
 rtn:RtN st.rt
 lab:Lab w ρ st.rt noU
 fresh:∀o,Un o→st.rt o=none
 up:∀o,Un o→0<o
 tmn:TmN (NewOf Un st.rt) st.tm
 wk:Wk w0 w
 fr:∀b,ρ0 b=none→b<w0.heap.size→ρ b=none∧w.heap[b]?=w0.heap[b]?
 k0:∀b l,ρ0 b=some (0,l)→ρ b=some (0,l)∧w.heap[b]?=w0.heap[b]?
 f0:∀b l,ρ b=some (0,l)→ρ0 b=some (0,l)
 df:a.defers=[]
 gr:G.ok w ρ
 am:∀i b n,0<i→ρ0 b=some (i,[])→Blk w0 b n→(st.rt i).isSome=true→ρ b=some (i,[])∧Blk w b n
 le:∀b i l,ρ0 b=some (i,l)→i≤m
 nl:∀i,i≤m→¬Un i
def past (nx:Nat):Nat→Prop:=fun o=>nx≤o
abbrev Rel (G:Ground)(m:Nat)(w0:World)(ρ0:Own)(w:World)(ρ:Own)(st:St)(a:Act):Prop:=RelU (past st.nx) G m w0 ρ0 w ρ st a
variable {G : Ground} {m : Nat} {w0 w : World} {ρ0 ρ : Own} {st st' : St} {a : Act}
theorem yield_eq {ops:Array Oper}(T:TmOk w ρ st.rt st.tm a.tmps){j:Nat}{b:Option Bool}(h:yieldV ops st j=some b):yielded ops a.tmps j=b:=by
 unfold yieldV at h
 unfold yielded
 cases hd:(ops[j]?).bind (·.dst) with
 | none=>simp[hd] at h
 | some d=>
  simp only[hd,zqs] at h ⊢
  cases ht:st.tm[d]? with
  | none=>simp[ht] at h
  | some v=>
   have hl:=(zqg.1 ht).1
   obtain⟨u,hu⟩:∃u,a.tmps[d]?=some u:=⟨_,Array.getElem?_eq_getElem (by rw[←T.1];exact hl)⟩
   have hs:=T.2 d v u ht hu
   rw[hu]
   simp only[ht] at h
   split at h
   ·rename_i x hx
    cases h
    cases hx
    rw[slot_bool hs]
   ·rename_i hx
    cases h
    cases hx
    have:=Slot.one rfl hs
    cases this
    rfl
   ·cases h
theorem want_eq {ops:Array Oper}(T:TmOk w ρ st.rt st.tm a.tmps){o:Oper}{b:Bool}(h:wantV ops st o=some b):Region.wanted o (yielded ops a.tmps)=b:=by
 unfold wantV at h
 unfold Region.wanted
 split at h
 ·cases h;simp_all
 ·rename_i j want hg
  simp only[zqm] at h
  obtain⟨x,hx,rfl⟩:=h
  rw[hg]
  simp only
  rw[yield_eq T hx]
theorem newOf_less {Un:Nat→Prop}{rt rt':Store}{id:Nat}(hi:∀o,id≤o→o<id+room→Un o)(h:∀o r',rt' o=some r'→(∃r,rt o=some r∧r.nv≤r'.nv)∨(id≤o∧o<id+room)):∀o nv,NewOf (less Un id) rt' o nv→NewOf Un rt o nv:=by
 rintro o nv (h1 | ⟨r,h1,h2⟩)
 ·exact .inl h1.1
 ·rcases h o r h1 with⟨r0,h3,h4⟩ | ⟨h3,h4⟩
  ·exact .inr ⟨r0,h3,by omega⟩
  ·exact .inl (hi o h3 h4)
theorem putT_get {tm:List V}{d:Option Nat}{v x:V}{i:Nat}(h:(putT tm d v)[i]?=some x):(d=some i∧x=v∧i<tm.length)∨(d≠some i∧tm[i]?=some x):=by
 cases d with
 | none=>exact .inr ⟨by simp,h⟩
 | some d=>
  simp only[putT] at h
  by_cases hd:d=i
  ·subst hd
   have hl:=(zqg.1 h).1
   rw[List.length_set] at hl
   rw[List.getElem?_set_self hl] at h
   cases h
   exact .inl ⟨rfl,rfl,hl⟩
  ·rw[List.getElem?_set_ne hd] at h
   exact .inr ⟨by simpa using hd,h⟩
theorem put_get {a:Act}{d:Option Nat}{v u:Value}{i:Nat}(h:(a.put d v).tmps[i]?=some u):(d=some i∧u=v)∨(d≠some i∧a.tmps[i]?=some u):=by
 cases d with
 | none=>exact .inr ⟨by simp,h⟩
 | some d=>
  simp only[Act.put] at h
  by_cases hd:d=i
  ·subst hd
   have hl:=(zqa.1 h).1
   simp at hl
   simp[hl] at h
   exact .inl ⟨rfl,h.symm⟩
  ·rw[Array.getElem?_setIfInBounds_ne hd] at h
   exact .inr ⟨by simpa using hd,h⟩
theorem put_size {a:Act}{d:Option Nat}{v:Value}:(a.put d v).tmps.size=a.tmps.size:=by cases d<;>simp[Act.put]
theorem putT_len {tm:List V}{d:Option Nat}{v:V}:(putT tm d v).length=tm.length:=by cases d<;>simp[putT]
theorem put_defers {a:Act}{d:Option Nat}{v:Value}:(a.put d v).defers=a.defers:=by cases d<;>simp[Act.put]
theorem RelU.out {Un:Nat→Prop}(R:RelU Un G m w0 ρ0 w ρ st a){id nx:Nat}(hi:∀o,id≤o→o<id+room→Un o){v:V}{rt':Store}{u:Value}{w':World}(h:Out Un w ρ st.rt id v rt' u w'){d:Option Nat}:∃ρ',RelU (less Un id) G m w0 ρ0 w' ρ' { tm:=putT st.tm d v,rt:=rt',nx:=nx } (a.put d u):=by
 obtain⟨ρ',e,hv,hn⟩:=h
 have mono:=newOf_less hi e.nv
 refine⟨ρ',⟨?_,e.rok,e.inj,e.rtn,e.lab,?_,fun o h=>R.up o h.1,?_,R.wk.trans e.wk,?_,?_,?_,?_,Ground.keep R.gr e.keep.k1 e.wk,?_,R.le,fun i h1 h2=>R.nl i h1 h2.1⟩⟩
 ·refine⟨by rw[putT_len,put_size];exact R.tm.1,fun i x y hx hy=>?_⟩
  rcases putT_get hx with⟨h1,rfl,_⟩ | ⟨h1,h2⟩<;>rcases put_get hy with⟨h3,rfl⟩ | ⟨h3,h4⟩
  ·exact hv
  ·exact absurd h1 h3
  ·exact absurd h3 h1
  ·exact (R.tm.2 i x y h2 h4).keep e.keep (R.tmn i x h2)
 ·intro o ho
  cases hr:rt' o with
  | none=>exact hr
  | some r'=>
   rcases e.nv o r' hr with⟨r,h1,_⟩ | h1
   ·rw[R.fresh o ho.1] at h1;cases h1
   ·exact absurd h1 ho.2
 ·intro i x hx
  rcases putT_get hx with⟨h1,rfl,_⟩ | ⟨h1,h2⟩
  ·exact hn
  ·exact noNew_mono mono (R.tmn i x h2)
 ·intro b hb hl
  have h1:=R.fr b hb hl
  have h2:=e.keep.k1 b h1.1 (Nat.lt_of_lt_of_le hl R.wk.size)
  exact⟨h2.1,h2.2.trans h1.2⟩
 ·intro b l hb
  have h1:=R.k0 b l hb
  have h2:=e.keep.k0 b l h1.1
  exact⟨h2.1,h2.2.trans h1.2⟩
 ·exact fun b l hb=>R.f0 b l (e.f0 b l hb)
 ·rw[put_defers];exact R.df
 ·intro i b n hi0 hb hn hs
  simp only at hs
  have hlt:¬Un i:=R.nl i (R.le b i [] hb)
  obtain⟨r',hr'⟩:=Option.isSome_iff_exists.1 hs
  obtain⟨r,hr,hnv⟩:∃r,st.rt i=some r∧r.nv≤r'.nv:=by
   rcases e.nv i r' hr' with h | ⟨h1,h2⟩
   ·exact h
   ·exact absurd (hi i h1 h2) hlt
  have hl:live rt' i r.nv []:=by simp[live,look,valid,hr',rowAt]
  have:=(e.keep.k2 i r.nv [] (by
   rintro (h | ⟨r2,h,h2⟩)
   ·exact hlt h
   ·rw[hr] at h;cases h;omega) hl).2
  have h0:=R.am i b n hi0 hb hn (by rw[hr];rfl)
  exact this b n h0.1 h0.2
theorem RelU.mono {Un Un' : Nat→Prop}(R : RelU Un G m w0 ρ0 w ρ st a)(h : ∀ o,Un' o→Un o){nx : Nat} : RelU Un' G m w0 ρ0 w ρ { st with nx:=nx } a :=
  { R with
    fresh:=fun o ho=>R.fresh o (h o ho)
    up:=fun o ho=>R.up o (h o ho)
    tmn:=fun i v hv=>noNew_mono (fun o nv h1=>by
      rcases h1 with h1 | h1
      · exact .inl (h o h1)
      · exact .inr h1) (R.tmn i v hv)
    nl:=fun i h1 h2=>R.nl i h1 (h i h2) }
theorem RelU.skip {Un : Nat→Prop}(R : RelU Un G m w0 ρ0 w ρ st a){d : Option Nat} : RelU Un G m w0 ρ0 w ρ { st with tm:=putT st.tm d .und } (a.put d undef) :=
  { R with
    tm:=⟨by rw [putT_len,put_size]; exact R.tm.1,fun i x y hx hy=>by
      rcases putT_get hx with ⟨h1,rfl,_⟩ | ⟨h1,h2⟩ <;> rcases put_get hy with ⟨h3,rfl⟩ | ⟨h3,h4⟩
      · exact Slot.mk1 rfl (.und _)
      · exact absurd h1 h3
      · exact absurd h3 h1
      · exact R.tm.2 i x y h2 h4⟩
    tmn:=fun i x hx=>by
      rcases putT_get hx with ⟨h1,rfl,_⟩ | ⟨h1,h2⟩
      · simp [noNew]
      · exact R.tmn i x h2
    df:=by rw [put_defers]; exact R.df }
theorem RelU.step {Un:Nat→Prop}{P:Program}{E:Env}(hG:∀f e,E.fn f=some e→Good P G f e)(A:Agree P E)(R:RelU Un G m w0 ρ0 w ρ st a){id nx:Nat}(hp:0<id)(hi:∀o,id≤o→o<id+room→Un o){ops:Array Oper}{i:Nat}{rest:List Nat}{Q:Exit→Act→World→Prop}(h:stepV E ops id st i=some st')(hn:∀w' ρ' a',RelU (less Un id) G m w0 ρ0 w' ρ' { st' with nx:=nx } a'→wpOps P ops Q rest a' w'):wpOps P ops Q (i::rest) a w:=by
 unfold stepV at h
 simp only[wpOps]
 cases ho:ops[i]? with
 | none=>
  simp only[ho] at h ⊢
  cases h
  exact hn w ρ a (R.mono fun o h=>h.1)
 | some o=>
  simp only[ho,zqb] at h ⊢
  obtain⟨b,hb,h⟩:=h
  rw[want_eq R.tm hb]
  cases b with
  | true=>
   simp only[if_true,zqm] at h
   obtain⟨⟨v,rt'⟩,hv,h⟩:=h
   cases h
   simp only[if_true]
   refine .inl ((n_op hG A R.rok R.inj R.tm R.rtn R.lab R.tmn ⟨R.fresh,hi,hp⟩ R.gr hv).wp fun u w' hout=>?_)
   obtain⟨ρ',R'⟩:=R.out hi hout (d:=o.dst) (nx:=nx)
   exact hn w' ρ' _ R'
  | false=>
   simp only[Bool.false_eq_true,if_false] at h ⊢
   cases h
   exact hn w ρ _ ((R.skip (d:=o.dst)).mono fun o h=>h.1)
theorem Rel.step {P:Program}{E:Env}(hG:∀f e,E.fn f=some e→Good P G f e)(A:Agree P E)(R:Rel G m w0 ρ0 w ρ st a){ops:Array Oper}{i:Nat}{rest:List Nat}{Q:Exit→Act→World→Prop}(h:stepV E ops st.nx st i=some st')(hn:∀w' ρ' a',Rel G m w0 ρ0 w' ρ' { st' with nx:=st.nx+room } a'→wpOps P ops Q rest a' w'):wpOps P ops Q (i::rest) a w:=
 RelU.step hG A R (nx:=st.nx+room) (R.up st.nx (Nat.le_refl _)) (fun o h _=>h) h fun w' ρ' a' R'=>hn w' ρ' a' (by
  have:=R'.mono (Un':=past (st.nx+room)) (nx:=st.nx+room) fun o ho=>⟨by unfold past at *;omega,by unfold past at ho;omega⟩
  exact this)
end Go.Ln
namespace Go.Ln
open Go
variable {G : Ground} {m : Nat} {w0 w : World} {ρ0 ρ : Own} {st st' : St} {a : Act}
theorem Rel.nilq {P:Program}{E:Env}(A:Agree P E)(R:Rel G m w0 ρ0 w ρ st a){ops:Array Oper}{i:Nat}{rest:List Nat}{Q:Exit→Act→World→Prop}{o:Oper}{op:BinOp}{t t' e:TypeId}{x y:Operand}{nl:Bool}(ho:ops[i]?=some o)(hg:wantV ops st o=some true)(hop:o.op=.binOp op t x y t')(he:op=.eql∨op=.neq)(hx:ev st x=some (.isl nl []))(hy:ev st y=some (.isl true []))(hd:E.desc t=some (.slice e))(hn:∀b w' ρ' a',Rel G m w0 ρ0 w' ρ' { st with tm:=putT st.tm o.dst (.bool b),nx:=st.nx+room } a'→wpOps P ops Q rest a' w'):wpOps P ops Q (i::rest) a w:=by
 simp only[wpOps,ho]
 rw[want_eq R.tm hg]
 simp only[if_true]
 have hu:=A.desc hd
 obtain⟨A1,l,c,h1,_⟩:=isl_shape (Slot.one rfl (ev_rep R.tm hx))
 obtain⟨A2,l2,c2,h2,h3⟩:=isl_shape (Slot.one rfl (ev_rep R.tm hy))
 have h4:A2=none:=by have:=h3 (.inl rfl);cases A2<;>simp at this ⊢
 have hrun:(Op.equal t (.slice A1 l c) (.slice A2 l2 c2)).run P w=.ok A1.isNone w:=run_equal' fun n=>slice_nil_right hu h4 rfl
 have hgd:(eqGuard op t x y (.slice A1 l c) (.slice A2 l2 c2)).run P w=.ok () w:=by unfold eqGuard;split<;>simp
 have act:∃b,(execOp a.eval o).run P w=.ok (.value (.bool b)) w:=by
  rcases he with rfl | rfl
  ·exact⟨A1.isNone,by simp[execOp,hop,h1,h2,hgd,binOp,hrun]⟩
  ·exact⟨!A1.isNone,by simp[execOp,hop,h1,h2,hgd,binOp,hrun]⟩
 obtain⟨b,hb⟩:=act
 have hout:Out (past st.nx) w ρ st.rt st.nx (.bool b) st.rt (.bool b) w:=
  ⟨ρ,⟨R.rok,R.inj,R.rtn,Keep.refl,R.lab,Wk.refl,fun o r h=>.inl ⟨r,h,Nat.le_refl _⟩,fun _ _ h=>h⟩,mk_bool _,by simp[noNew]⟩
 refine .inl (Acts.wp (K:=fun u w'=>u=.bool b∧w'=w) (.inl ⟨.bool b,w,hb,rfl,rfl⟩) fun u w' hh=>?_)
 obtain⟨rfl,rfl⟩:=hh
 obtain⟨ρ',R'⟩:=R.out (fun o h _=>h) hout (d:=o.dst) (nx:=st.nx+room)
 have:=R'.mono (Un':=past (st.nx+room)) (nx:=st.nx+room) fun o ho=>⟨by unfold past at *;omega,by unfold past at ho;omega⟩
 exact hn b _ ρ' _ this
def subO (ρ:Own)(rt2:Store):Own:=fun b=>match ρ b with
 | some (o,l)=>if o=0∨(rt2 o).isSome=true then some (o,l) else none
 | none=>none
theorem subO_iff {rt2:Store}{b:Nat}{L:Loc}:subO ρ rt2 b=some L↔ρ b=some L∧(L.1=0∨(rt2 L.1).isSome=true):=by
 unfold subO
 cases h:ρ b with
 | none=>simp
 | some x=>
  obtain⟨o,l⟩:=x
  simp only
  by_cases hc:o=0∨(rt2 o).isSome=true
  ·rw[if_pos hc]
   simp only[Option.some.injEq]
   constructor
   ·rintro rfl;exact⟨rfl,hc⟩
   ·exact fun h=>h.1
  ·rw[if_neg hc]
   simp only[reduceCtorEq,Option.some.injEq,false_iff,not_and]
   rintro rfl
   exact hc
theorem Rel.sub {tm2 : List V}{rt2 : Store}(ht : tm2.length = st.tm.length)(ht2 : ∀ (i : Nat) v, tm2[i]? = some v → st.tm[i]? = some v ∨ v = .dead)(hs : ∀ o r, rt2 o = some r → st.rt o = some r)(R : Rel G m w0 ρ0 w ρ st a) : ∃ ρ', Rel G m w0 ρ0 w ρ' { st with tm := tm2, rt := rt2 } a := by
  have hz : rt2 0 = none := by
    cases h : rt2 0 with
    | none => rfl
    | some r => have := hs 0 r h; rw [R.lab.z] at this; cases this
  have K : Keep (fun _ _ => False) w ρ st.rt w (subO ρ rt2) rt2 := by
    refine ⟨fun b hb _ => ⟨by simp [subO, hb], rfl⟩, fun o nv p _ hl => ?_, fun b l hb => ⟨subO_iff.2 ⟨hb, .inl rfl⟩, rfl⟩⟩
    unfold live look at hl
    cases hv : valid rt2 o nv p with
    | none => simp [hv] at hl
    | some r =>
      obtain ⟨h1, h2⟩ := valid_some hv
      have h3 := hs o r h1
      simp only [hv, zqs] at hl
      have : valid st.rt o nv p = some r := by
        unfold valid at hv ⊢
        rw [h3]
        rw [h1] at hv
        exact hv
      exact ⟨by simpa [live, look, this] using hl, fun b n hb hn => ⟨subO_iff.2 ⟨hb, .inr (by rw [h1]; rfl)⟩, hn⟩⟩
  have hNew : ∀ o nv, NewOf (past st.nx) rt2 o nv → NewOf (past st.nx) st.rt o nv := by
    rintro o nv (h | ⟨r, h1, h2⟩)
    · exact .inl h
    · exact .inr ⟨r, hs o r h1, h2⟩
  have kp : ∀ {v : V}, noNew (NewOf (past st.nx) st.rt) v → noNew (fun _ _ => False) v := fun h => noNew_mono (fun _ _ h => h.elim) h
  refine ⟨subO ρ rt2, ?_⟩
  exact
    { tm := ⟨by rw [ht]; exact R.tm.1, fun i v u hv hu => by
        rcases ht2 i v hv with h | rfl
        · exact (R.tm.2 i v u h hu).keep K (kp (R.tmn i v h))
        · exact Slot.mk1 rfl (.dead _ _)⟩
      rok := fun o r h => RowOk.under K (fun b l hb _ => ⟨subO_iff.2 ⟨hb, .inr (by have h' : rt2 o = some r := h; simp [h'])⟩, rfl⟩) (R.rok o r (hs o r h)) (R.rtn o r (hs o r h))
      inj := fun b b' L h h' => R.inj b b' L (subO_iff.1 h).1 (subO_iff.1 h').1
      rtn := fun o r h => R.rtn o r (hs o r h)
      lab := ⟨fun b o l h => by
        obtain ⟨h1, h2⟩ := subO_iff.1 h
        refine ⟨(R.lab b o l h1).1, ?_⟩
        rcases h2 with h2 | h2
        · exact .inl h2
        · exact .inr (Option.isSome_iff_exists.1 h2), hz, fun b l h => R.lab.f b l (subO_iff.1 h).1⟩
      fresh := fun o h => by
        cases hr : rt2 o with
        | none => exact hr
        | some r => have := hs o r hr; rw [R.fresh o h] at this; cases this
      up := R.up
      tmn := fun i v hv => by
        rcases ht2 i v hv with h | rfl
        · exact noNew_mono hNew (R.tmn i v h)
        · simp [noNew]
      wk := R.wk
      fr := fun b hb hl => ⟨by simp [subO, (R.fr b hb hl).1], (R.fr b hb hl).2⟩
      k0 := fun b l hb => ⟨subO_iff.2 ⟨(R.k0 b l hb).1, .inl rfl⟩, (R.k0 b l hb).2⟩
      f0 := fun b l hb => R.f0 b l (subO_iff.1 hb).1
      df := R.df
      gr := ⟨R.gr.1, fun b hb => by simp [subO, R.gr.2.1 b hb], R.gr.2.2⟩
      am := fun i b n h1 h2 h3 h4 => by
        obtain ⟨r, hr⟩ := Option.isSome_iff_exists.1 h4
        have := R.am i b n h1 h2 h3 (by rw [hs i r hr]; rfl)
        exact ⟨subO_iff.2 ⟨this.1, .inr h4⟩, this.2⟩
      le := R.le
      nl := R.nl }
end Go.Ln
namespace Go.Ln
open Go
def item:It→Item
 | .code c=>.code c
 | .ops ops is=>.inRegion ops is
 | .blk id=>.inBlock id
 | .lp c=>.inLoop c
 | .dops ops _ _ _=>.inRegion ops []
def Fin (P:Program)(R:Act→World→Prop)(todo:List It)(a:Act)(w:World):Prop:=
 ∀(b:Frame) (cs:List Frame),∃a' w' td,R a' w'∧Steps P (lone (b.at a (todo.map item)) cs w) (lone { b.at a' td with mode:=.returning } cs w')
variable {P : Program} {R : Act→World→Prop} {k : List It} {a : Act} {w : World}
theorem Fin.one {t t':List It}(h:∀(b:Frame) (cs:List Frame),step P (lone (b.at a (t.map item)) cs w)=.next (lone (b.at a (t'.map item)) cs w))(hk:Fin P R t' a w):Fin P R t a w:=fun b cs=>
 let ⟨a',w',td,r,s⟩:=hk b cs
 ⟨a',w',td,r,Steps.head (h b cs) s⟩
theorem exit_item:∀{k k':List It} {id:Nat},exitIt id k=some k'→exitTo id (k.map item)=some (k'.map item)
 | [],k',id,h=>by simp[exitIt] at h
 | .blk id'::k,k',id,h=>by
  simp only[exitIt] at h
  split at h
  ·rename_i he
   cases h
   simp[item,exitTo,he]
  ·rename_i he
   have:=exit_item h
   have hne:(id==id')=false:=by simp;exact fun h=>he h.symm
   have hne':(id'==id)=false:=by simpa using he
   simp[item,exitTo,hne,hne',this]
 | .code c::k,k',id,h=>by
  have:=exit_item (k:=k) (by simpa[exitIt] using h)
  simp[item,exitTo,this]
 | .ops o i::k,k',id,h=>by
  have:=exit_item (k:=k) (by simpa[exitIt] using h)
  simp[item,exitTo,this]
 | .lp c::k,k',id,h=>by
  have:=exit_item (k:=k) (by simpa[exitIt] using h)
  simp[item,exitTo,this]
 | .dops _ _ _ _::k,k',id,h=>by
  have:=exit_item (k:=k) (by simpa[exitIt] using h)
  simp[item,exitTo,this]
end Go.Ln
namespace Go.Ln
open Go
variable {P : Program} {R : Act→World→Prop} {k : List It} {a : Act} {w : World}
def onlyN (F:Act→World→Prop):Exit→Act→World→Prop
 | .normal,a,w=>F a w
 | _,_,_=>False
def FinX (P:Program)(R:Act→World→Prop):List It→Act→World→Prop
 | .ops ops is::k,a,w=>wpOps P ops (onlyN (Fin P R k)) is a w
 | [],a,w=>R a w
 | k,a,w=>Fin P R k a w
theorem fin_ops {ops:Array Oper}{is:List Nat}(h:wpOps P ops (onlyN (Fin P R k)) is a w):Fin P R (.ops ops is::k) a w:=by
 intro b cs
 obtain⟨e,a1,w1,hq,harr⟩:=wp_ops is a w h b (k.map item) cs
 cases e with
 | normal=>
  obtain⟨a',w',td,r,s⟩:=hq b cs
  exact⟨a',w',td,r,Steps.trans harr s⟩
 | _=>exact hq.elim
theorem finX_fin:∀{k:List It},FinX P R k a w→Fin P R k a w
 | .ops ops is::k,h=>fin_ops h
 | .code _::_,h=>h
 | .blk _::_,h=>h
 | .lp _::_,h=>h
 | .dops _ _ _ _::_,h=>h
 | [],h=>fun b cs=>⟨_,_,_,h,.one step_end⟩
section
variable {E : Env} {G : Ground} (hG : ∀ f e,E.fn f=some e→Good P G f e) (A : Agree P E) {m : Nat} {w0 : World} {ρ0 : Own} {ρ : Own} {st st' : St} {Q : St→Prop}
include hG A
def PostR (G:Ground)(m:Nat)(w0:World)(ρ0:Own)(Q:St→Prop)(a:Act)(w:World):Prop:=∃ρ st,Rel G m w0 ρ0 w ρ st a∧Q st
theorem step_sound {k':List It}(h:step1 E k st=some (k',st'))(R0:Rel G m w0 ρ0 w ρ st a)(ih:∀w ρ a,Rel G m w0 ρ0 w ρ st' a→FinX P (PostR G m w0 ρ0 Q) k' a w):FinX P (PostR G m w0 ρ0 Q) k a w:=by
 unfold step1 at h
 split at h
 ·cases h
  exact Fin.one (fun b cs=>step_skip) (finX_fin (ih w ρ a R0))
 ·rename_i id ops k
  cases h
  exact Fin.one (t':=.ops ops (List.range ops.size)::k) (fun b cs=>step_region) (finX_fin (ih w ρ a R0))
 ·rename_i x y k
  cases h
  exact Fin.one (t':=.code x::.code y::k) (fun b cs=>step_seq) (finX_fin (ih w ρ a R0))
 ·rename_i c x y k
  simp only[zqb] at h
  obtain⟨cv,hc,h⟩:=h
  have hs:=ev_rep R0.tm hc
  split at h
  ·cases h
   exact Fin.one (t':=.code x::k) (fun b cs=>step_cond (t:=true) (slot_bool hs)) (finX_fin (ih w ρ a R0))
  ·cases h
   exact Fin.one (t':=.code y::k) (fun b cs=>step_cond (t:=false) (slot_bool hs)) (finX_fin (ih w ρ a R0))
  ·cases h
 ·rename_i id c k
  cases h
  exact Fin.one (t':=.code c::.blk id::k) (fun b cs=>step_block) (finX_fin (ih w ρ a R0))
 ·rename_i c k
  cases h
  exact Fin.one (t':=.code c::.lp c::k) (fun b cs=>step_loop) (finX_fin (ih w ρ a R0))
 ·rename_i id k
  simp only[zqm] at h
  obtain⟨k1,hk,h⟩:=h
  cases h
  exact Fin.one (fun b cs=>step_exit (exit_item hk)) (finX_fin (ih w ρ a R0))
 ·cases h
  exact fun b cs=>⟨a,w,_,ih w ρ a R0,.one step_ret⟩
 ·cases h
  exact finX_fin (ih w ρ a R0)
 ·rename_i ops i is k
  simp only[zqm] at h
  obtain⟨st1,hst,h⟩:=h
  cases h
  exact R0.step hG A hst fun w' ρ' a' R'=>ih w' ρ' a' R'
 ·cases h
  exact Fin.one (fun b cs=>step_inBlock) (finX_fin (ih w ρ a R0))
 ·rename_i c k
  cases h
  exact Fin.one (t':=.code c::.lp c::k) (fun b cs=>step_inLoop) (finX_fin (ih w ρ a R0))
 ·cases h
end
end Go.Ln
namespace Go.Ln
open Go
variable {w : World} {ρ : Own} {rt rt' : Store}
theorem idx_pos {o:Nat}:∀{os:List Nat} {n m:Nat},idx o os n=some m→n≤m∧os[m - n]?=some o
 | [],n,m,h=>by simp[idx] at h
 | x::xs,n,m,h=>by
  simp only[idx] at h
  split at h
  ·rename_i hx
   cases h
   subst hx
   simp
  ·obtain⟨h1,h2⟩:=idx_pos h
   refine⟨by omega,?_⟩
   rw[show m - n=(m - (n+1))+1 by omega]
   simpa using h2
def renOwn (ρ:Own)(os:List Nat):Own:=fun b=>
 match ρ b with
 | none=>none
 | some (o,l)=>if o=0 then some (0,l) else (idx o os 1).map fun n=>(n,l)
theorem renOwn_none {os b}(h:ρ b=none):renOwn ρ os b=none:=by simp[renOwn,h]
theorem renOwn_far {os b l}(h:ρ b=some (0,l)):renOwn ρ os b=some (0,l):=by simp[renOwn,h]
theorem renOwn_some {os b o l n}(h:ρ b=some (o,l))(h0:o≠0)(hn:idx o os 1=some n):renOwn ρ os b=some (n,l):=by simp[renOwn,h,h0,hn]
theorem renOwn_inv {os b n l}(h:renOwn ρ os b=some (n,l)):(n=0∧ρ b=some (0,l))∨∃o,ρ b=some (o,l)∧o≠0∧idx o os 1=some n:=by
 unfold renOwn at h
 split at h
 ·cases h
 ·rename_i o l' hb
  split at h
  ·rename_i h0
   cases h
   subst h0
   exact .inl ⟨rfl,hb⟩
  ·rename_i h0
   simp only[zqm] at h
   obtain⟨m,hm,h⟩:=h
   cases h
   exact .inr ⟨o,hb,h0,hm⟩
theorem nub_nodup:∀{xs acc:List Nat},acc.Nodup→(nub acc xs).Nodup
 | [],acc,h=>h
 | x::xs,acc,h=>by
  simp only[nub]
  split
  ·exact nub_nodup h
  ·rename_i hx
   refine nub_nodup (List.nodup_append.2 ⟨h,by simp,?_⟩)
   intro a ha b hb hab
   simp at hb
   subst hb
   subst hab
   exact hx (by simpa using ha)
theorem idx_get:∀{os:List Nat} {n m o:Nat},os.Nodup→os[m]?=some o→idx o os n=some (n+m)
 | [],n,m,o,hd,h=>by simp at h
 | x::xs,n,m,o,hd,h=>by
  simp only[idx]
  cases m with
  | zero=>simp at h;subst h;simp
  | succ m=>
   have hd':=List.nodup_cons.1 hd
   have hne:x≠o:=by
    rintro rfl
    exact hd'.1 (zqo (by simpa using h))
   rw[if_neg hne,idx_get hd'.2 (by simpa using h)]
   congr 1
   omega
def renRt (rt:Store)(os:List Nat):Store:=getL (os.map fun o=>(rt o).map fun r=>⟨0,r.s,r.es⟩)
theorem renRt_some {os:List Nat}{o n:Nat}(hn:idx o os 1=some n):renRt rt os n=(rt o).map fun r=>⟨0,r.s,r.es⟩:=by
 obtain⟨h1,h2⟩:=idx_pos hn
 unfold renRt getL
 rw[if_neg (by omega),List.getElem?_map,h2]
 simp
theorem renRt_inv {os:List Nat}(hd:os.Nodup){n:Nat}{r':Root}(h:renRt rt os n=some r'):∃o r,idx o os 1=some n∧rt o=some r∧r'=⟨0,r.s,r.es⟩:=by
 unfold renRt getL at h
 split at h
 ·cases h
 ·rename_i h0
  rw[List.getElem?_map] at h
  cases ho:os[n - 1]? with
  | none=>simp[ho] at h
  | some o=>
   simp only[ho,Option.map_some,zqs,zqm] at h
   obtain⟨r,hr,rfl⟩:=h
   exact⟨o,r,by rw[idx_get hd ho];congr 1;omega,hr,rfl⟩
end Go.Ln
namespace Go.Ln
open Go
variable {w : World} {ρ : Own} {rt : Store}
theorem ren_one {os:List Nat}{v:V}(h:isAggV v=false):isAggV (ren rt os v)=false:=by
 cases v<;>first | (simp[isAggV] at h;done) | skip
 all_goals simp only[ren]<;>first | rfl | (split<;>rfl)
theorem rens_map {os:List Nat}:∀{vs:List V},rens rt os vs=vs.map (ren rt os)
 | []=>rfl
 | v::vs=>by simp[rens,rens_map]
theorem cells_ren {os:List Nat}{v:V}:cells (ren rt os v)=(cells v).map (ren rt os):=by
 by_cases ha:isAggV v=true
 ·cases v<;>simp[isAggV] at ha
  simp[ren,cells,rens_map]
 ·have ha':isAggV v=false:=by simpa using ha
  rw[cells_one ha',cells_one (ren_one ha')]
  rfl
theorem agg_ren {os:List Nat}{v:V}:isAggV (ren rt os v)=isAggV v:=by
 by_cases ha:isAggV v=true
 ·cases v<;>simp[isAggV] at ha
  simp[ren,isAggV]
 ·have ha':isAggV v=false:=by simpa using ha
  rw[ren_one ha',ha']
theorem ren_live {os:List Nat}(hd:os.Nodup){o n nv:Nat}{p:List (Nat×Nat)}{r:Root}(hv:valid rt o nv p=some r)(hn:idx o os 1=some n)(h:live (renRt rt os) n 0 p):live rt o nv p:=by
 unfold live look at h ⊢
 rw[hv]
 have h1:=renRt_some (rt:=rt) hn
 rw[(valid_some hv).1] at h1
 simp only[valid,h1,Option.map_some] at h
 simpa using h
section
variable (hL : Lab w ρ rt noU) {os : List Nat} (hd : os.Nodup)
include hL hd
theorem ren_keep0:Keep0 (fun _ _=>True) w ρ rt w (renOwn ρ os) (renRt rt os):=⟨fun b hb _=>⟨renOwn_none hb,rfl⟩,fun _ _ _ h _=>absurd trivial h⟩
theorem ren_rep {L:Option Loc}{v:V}{u:Value}(h:RepV w ρ rt L v u):L=none→noNew (fun o _=>rt o=none∧False) v→RepV w (renOwn ρ os) (renRt rt os) none (ren rt os v) u:=by
 have K:=ren_keep0 hL hd
 have far:∀{v:V} {u:Value},RepV w ρ rt none v u→nh v→RepV w (renOwn ρ os) (renRt rt os) none v u:=fun h hn=>by
  have:=h.mono0 K id (fun _=>False) (fun _ _ _ _=>rfl) (fun _ _ _ h=>h) (fun _ _ h=>h.elim) (by simp) (nh_noNew hn)
  simpa using this
 induction h with
 | und L=>exact fun _ _=>by simpa[ren] using RepV.und none
 | dead L u=>exact fun _ _=>by simpa[ren] using RepV.dead none u
 | bool L b=>exact fun _ _=>by simpa[ren] using RepV.bool none b
 | int L k n=>exact fun _ _=>by simpa[ren] using RepV.int none k n
 | str L s=>exact fun _ _=>by simpa[ren] using RepV.str none s
 | nilp L=>exact fun _ _=>by simpa[ren] using RepV.nilp none
 | nilfn L=>exact fun _ _=>by simpa[ren] using RepV.nilfn none
 | nilif L=>exact fun _ _=>by simpa[ren] using RepV.nilif none
 | fn L f caps g h ih=>
  intro _ hn
  simp only[ren]
  have:caps.length=(rens rt os caps).length:=by simp[rens_map]
  rw[this]
  refine .fn _ _ _ g fun i v hv=>?_
  rw[rens_map,List.getElem?_map] at hv
  obtain⟨v0,hv0,rfl⟩:=zqm.1 hv
  exact ih i v0 hv0 rfl (noNews_get (by simpa[noNew] using hn) hv0)
 | iface L t v g h ih=>
  exact fun hL hn=>by
   simp only[ren]
   exact far (.iface none t v g h) (by simpa[noNew,nh] using hn)
 | tup L vs p g hp h ih=>
  intro _ hn
  simp only[ren]
  have:vs.length=(rens rt os vs).length:=by simp[rens_map]
  rw[this]
  refine .tup _ _ p g (fun c v hv=>?_) fun c v k x hv hx=>?_
  ·rw[rens_map,List.getElem?_map] at hv
   obtain⟨v0,hv0,rfl⟩:=zqm.1 hv
   rw[hp c v0 hv0]
   unfold pack
   rw[agg_ren,cells_ren,List.length_map]
  ·rw[rens_map,List.getElem?_map] at hv
   obtain⟨v0,hv0,rfl⟩:=zqm.1 hv
   rw[cells_ren,List.getElem?_map] at hx
   obtain⟨x0,hx0,rfl⟩:=zqm.1 hx
   exact ih c v0 k x0 hv0 hx0 rfl (noNew_cell (noNews_get (by simpa[noNew] using hn) hv0) hx0)
 | iptr L e k b off g hb hρ hc h ih=>
  exact fun _ hn=>by
   simp only[ren]
   exact far (.iptr none e k b off g hb hρ hc h) (by simpa[noNew,nh] using hn)
 | isl0 L nl A c hn=>exact fun _ _=>by simpa[ren] using RepV.isl0 none nl A c hn
 | isl L es b off c s g hl h0 hρ hb hs hc h ih=>
  exact fun _ hn=>by
   simp only[ren]
   exact far (.isl none es b off c s g hl h0 hρ hb hs hc h) (by simpa[noNew,nh] using hn)
 | usl0 l s A=>exact fun h=>by cases h
 | usl l s es b A c arr T g hρ hb hl hA hcap hs hc h ih=>exact fun h=>by cases h
 | uptr l e b arr T g hρ hb hc h ih=>exact fun h=>by cases h
 | hp L o nv p s i k u h h1=>
  intro _ _
  simp only[ren]
  split
  ·rename_i r n hv hn
   refine .hp _ _ _ _ _ _ _ _ (fun hl=>?_) h1
   obtain⟨b,m,hb,hbl,hu⟩:=h (ren_live hd hv hn hl)
   have ho:o≠0:=by
    rintro rfl
    have h2:=(valid_some hv).1
    rw[hL.z] at h2
    cases h2
   exact⟨b,m,renOwn_some hb ho hn,hbl,hu⟩
  ·exact .dead _ _
 | hs L o nv p s off len u h h1=>
  intro _ _
  simp only[ren]
  split
  ·rename_i r n hv hn
   refine .hs _ _ _ _ _ _ _ _ (fun hl=>?_) h1
   obtain⟨c,A,hu,hlc,hcc⟩:=h (ren_live hd hv hn hl)
   have ho:o≠0:=by
    rintro rfl
    have h2:=(valid_some hv).1
    rw[hL.z] at h2
    cases h2
   exact⟨c,A,hu,hlc,fun h0=>by
    obtain⟨b,m,hb,hbl,h3,h4⟩:=hcc h0
    exact⟨b,m,renOwn_some hb ho hn,hbl,h3,h4⟩⟩
  ·exact .dead _ _
end
end Go.Ln
namespace Go.Ln
open Go
variable {w : World} {ρ : Own} {rt : Store}
theorem keepT_get {L:List Nat}:∀{tm:List V} {n i:Nat} {v:V},(keepT L n tm)[i]?=some v→∃v0,tm[i]?=some v0∧(v=v0∨v=.dead)
 | [],n,i,v,h=>by simp[keepT] at h
 | x::tm,n,0,v,h=>by
  simp only[keepT,List.getElem?_cons_zero,Option.some.injEq] at h
  refine⟨x,by simp,?_⟩
  split at h
  ·exact .inl h.symm
  ·exact .inr h.symm
 | x::tm,n,i+1,v,h=>by
  simp only[keepT,List.getElem?_cons_succ] at h
  simpa using keepT_get h
theorem keepT_len {L:List Nat}:∀{tm:List V} {n:Nat},(keepT L n tm).length=tm.length
 | [],n=>rfl
 | x::tm,n=>by simp[keepT,keepT_len]
theorem renOwn_inj {os:List Nat}(hd:os.Nodup)(J:Inj ρ):Inj (renOwn ρ os):=by
 rintro b b' ⟨n,l⟩ h h'
 rcases renOwn_inv h with⟨h0,h1⟩ | ⟨o,h1,h2,h3⟩<;>rcases renOwn_inv h' with⟨h0',h1'⟩ | ⟨o',h1',h2',h3'⟩
 ·exact J b b' _ h1 h1'
 ·subst h0;have:=(idx_pos h3').1;omega
 ·subst h0';have:=(idx_pos h3).1;omega
 ·have e:o=o':=by
   have a:=(idx_pos h3).2
   have a':=(idx_pos h3').2
   rw[a] at a'
   simpa using a'
  subst e
  exact J b b' _ h1 h1'
theorem ren_lab {os:List Nat}(hd:os.Nodup)(hL:Lab w ρ rt noU):Lab w (renOwn ρ os) (renRt rt os) noU:=by
 refine⟨fun b n l h=>?_,by simp[renRt,getL],fun b l h=>?_⟩
 ·rcases renOwn_inv h with⟨h0,h1⟩ | ⟨o,h1,h2,h3⟩
  ·exact⟨(hL.l b 0 l h1).1,.inl h0⟩
  ·obtain⟨h4,h5⟩:=hL.l b o l h1
   rcases h5 with h5 | ⟨r,h5⟩
   ·exact absurd h5 h2
   ·exact⟨h4,.inr ⟨_,by rw[renRt_some h3,h5];rfl⟩⟩
 ·rcases renOwn_inv h with⟨h0,h1⟩ | ⟨o,h1,h2,h3⟩
  ·exact hL.f b l h1
  ·have:=(idx_pos h3).1;omega
theorem ren_rok {os:List Nat}(hd:os.Nodup)(hL:Lab w ρ rt noU)(H:RtOk w ρ rt)(hr:RtN rt):RtOk w (renOwn ρ os) (renRt rt os):=by
 intro n r' h
 obtain⟨o,r,hn,ho,rfl⟩:=renRt_inv hd h
 have ho0:o≠0:=by rintro rfl;rw[hL.z] at ho;cases ho
 rcases H o r ho with h0 | ⟨b,arr,T,g,h1,h2,h3,h4,h5⟩
 ·exact .inl h0
 ·refine .inr ⟨b,arr,T,g,renOwn_some h1 ho0 hn,h2,h3,h4,fun i e k x he hx=>?_⟩
  have K:Keep0 (fun _ _=>True) w ρ rt w (renOwn ρ os) (renRt rt os):=ren_keep0 hL hd
  have:=(h5 i e k x he hx).mono0 K (fun l=>(n,l.2)) (fun l=>l.1=o) (fun l i k _=>rfl) (fun l i k h=>h)
   (fun b l hl hb=>⟨by
    obtain⟨lo,ll⟩:=l
    simp only at hl
    subst hl
    exact renOwn_some hb ho0 hn,rfl⟩) (fun l hl=>by cases hl;rfl) (nh_noNew (nh_cell (nhs_get (hr o r ho) he) hx))
  simpa[Loc.at] using this
theorem renRt_high {os:List Nat}{n:Nat}(h:os.length+1≤n):renRt rt os n=none:=by
 unfold renRt getL
 rw[if_neg (by omega),List.getElem?_eq_none (by simp;omega)]
 rfl
theorem renRt_nv {os:List Nat}(hd:os.Nodup){n:Nat}{r:Root}(h:renRt rt os n=some r):r.nv=0:=by
 obtain⟨o,r0,_,_,rfl⟩:=renRt_inv hd h
 rfl
mutual
theorem ren_nn {os:List Nat}(hd:os.Nodup){N:Nat→Nat→Prop}:∀{v:V},noNew N v→noNew (NewOf (past (os.length+1)) (renRt rt os)) (ren rt os v)
 | .und,_=>by simp[ren,noNew]
 | .dead,_=>by simp[ren,noNew]
 | .bool _,_=>by simp[ren,noNew]
 | .int _ _,_=>by simp[ren,noNew]
 | .str _,_=>by simp[ren,noNew]
 | .nilp,_=>by simp[ren,noNew]
 | .nilfn,_=>by simp[ren,noNew]
 | .nilif,_=>by simp[ren,noNew]
 | .fn _ cs,h=>by simp only[ren,noNew] at h ⊢;exact rens_nn hd h
 | .agg cs,h=>by simp only[ren,noNew] at h ⊢;exact rens_nn hd h
 | .tup cs,h=>by simp only[ren,noNew] at h ⊢;exact rens_nn hd h
 | .iface _ v,h=>by simpa[ren,noNew] using h
 | .iptr e _,h=>by simpa[ren,noNew] using h
 | .isl _ es,h=>by simpa[ren,noNew] using h
 | .uptr e,h=>by simpa[ren,noNew] using h
 | .usl _ es,h=>by simpa[ren,noNew] using h
 | .hp o nv p s i k,h=>by
  simp only[ren]
  split
  ·rename_i r n hv hn
   simp only[noNew]
   rintro (h1 | ⟨r',h1,h2⟩)
   ·unfold past at h1
    obtain⟨h3,h4⟩:=idx_pos hn
    have:=(zqg.1 h4).1
    omega
   ·omega
  ·simp[noNew]
 | .hs o nv p s i k,h=>by
  simp only[ren]
  split
  ·rename_i r n hv hn
   simp only[noNew]
   rintro (h1 | ⟨r',h1,h2⟩)
   ·unfold past at h1
    obtain⟨h3,h4⟩:=idx_pos hn
    have:=(zqg.1 h4).1
    omega
   ·have:=renRt_nv hd h1
    omega
  ·simp[noNew]
theorem rens_nn {os:List Nat}(hd:os.Nodup){N:Nat→Nat→Prop}:∀{vs:List V},noNews N vs→noNews (NewOf (past (os.length+1)) (renRt rt os)) (rens rt os vs)
 | [],_=>by simp[rens,noNews]
 | v::vs,h=>by simp only[rens,noNews] at h ⊢;exact⟨ren_nn hd h.1,rens_nn hd h.2⟩
end
end Go.Ln
namespace Go.Ln
open Go
variable {G : Ground} {m : Nat} {w0 w : World} {ρ0 ρ : Own} {st : St} {a : Act}
theorem fixed_nodup (m:Nat):(fixed m).Nodup:=by
 unfold fixed
 exact List.nodup_range'
theorem nub_pre:∀{xs acc:List Nat},∃r,nub acc xs=acc++r
 | [],acc=>⟨[],by simp[nub]⟩
 | x::xs,acc=>by
  simp only[nub]
  split
  ·exact nub_pre
  ·obtain⟨r,h⟩:=@nub_pre xs (acc++[x])
   exact⟨x::r,by rw[h];simp⟩
theorem nub_fixed {m i:Nat}{xs:List Nat}(h1:0<i)(h2:i≤m):idx i (nub (fixed m) xs) 1=some i:=by
 have hd:(nub (fixed m) xs).Nodup:=nub_nodup (fixed_nodup m)
 obtain⟨r,h⟩:=@nub_pre xs (fixed m)
 have hg:(nub (fixed m) xs)[i - 1]?=some i:=by
  rw[h,zql (by simp[fixed];omega)]
  simp[fixed,List.getElem?_range',show i - 1<m by omega]
  omega
 rw[idx_get hd hg]
 congr 1;omega
theorem nub_len {m:Nat}{xs:List Nat}:m≤(nub (fixed m) xs).length:=by
 obtain⟨r,h⟩:=@nub_pre xs (fixed m)
 rw[h];simp[fixed]
theorem Rel.forget (R:Rel G m w0 ρ0 w ρ st a)(L:List Nat):∃ρ',Rel G m w0 ρ0 w ρ' (normSt m L st) a:=by
 have hd:(nub (fixed m) (idss (keepT L 0 st.tm))).Nodup:=nub_nodup (fixed_nodup m)
 have hfx:∀i,0<i→i≤m→idx i (nub (fixed m) (idss (keepT L 0 st.tm))) 1=some i:=fun i h1 h2=>nub_fixed h1 h2
 have hlen:m≤(nub (fixed m) (idss (keepT L 0 st.tm))).length:=nub_len
 generalize hos:nub (fixed m) (idss (keepT L 0 st.tm))=os at hd hfx hlen
 have e1:(normSt m L st).tm=rens st.rt os (keepT L 0 st.tm):=by simp[normSt,hos]
 have e2:(normSt m L st).rt=renRt st.rt os:=by simp[normSt,hos,renRt]
 have e3:(normSt m L st).nx=os.length+1:=by simp[normSt,hos]
 have nn:∀(i:Nat) v,(keepT L 0 st.tm)[i]?=some v→noNew (NewOf (past st.nx) st.rt) v:=fun i v hv=>by
  obtain⟨v0,h1,h2 | h2⟩:=keepT_get hv
  ·subst h2;exact R.tmn i v h1
  ·subst h2;simp[noNew]
 refine⟨renOwn ρ os,⟨?_,?_,renOwn_inj hd R.inj,?_,?_,?_,?_,?_,R.wk,?_,?_,?_,R.df,?_,?_,R.le,fun i h1 h2=>by rw[e3] at h2;unfold past at h2;omega⟩⟩
 ·rw[e1,e2]
  refine⟨by rw[rens_map,List.length_map,keepT_len];exact R.tm.1,fun i v u hv hu=>?_⟩
  rw[rens_map,List.getElem?_map] at hv
  obtain⟨v1,hv1,rfl⟩:=zqm.1 hv
  obtain⟨v0,h0,h2 | h2⟩:=keepT_get hv1
  ·subst h2
   obtain⟨g,hg,hs⟩:=R.tm.2 i v1 u h0 hu
   refine⟨g,?_,fun k x hx=>?_⟩
   ·rw[hg];unfold pack;rw[agg_ren,cells_ren,List.length_map]
   ·rw[cells_ren,List.getElem?_map] at hx
    obtain⟨x0,hx0,rfl⟩:=zqm.1 hx
    exact ren_rep R.lab hd (hs k x0 hx0) rfl (noNew_mono (by rintro o nv ⟨_,h⟩;exact h.elim) (noNew_cell (R.tmn i v1 h0) hx0))
  ·subst h2
   simp only[ren]
   exact Slot.mk1 rfl (.dead _ _)
 ·rw[e2];exact ren_rok hd R.lab R.rok R.rtn
 ·rw[e2]
  intro n r h
  obtain⟨o,r0,_,h1,rfl⟩:=renRt_inv hd h
  exact R.rtn o r0 h1
 ·rw[e2];exact ren_lab hd R.lab
 ·rw[e2,e3];exact fun o ho=>renRt_high ho
 ·rw[e3];intro o ho;unfold past at ho;omega
 ·rw[e1,e2,e3]
  intro i v hv
  rw[rens_map,List.getElem?_map] at hv
  obtain⟨v1,hv1,rfl⟩:=zqm.1 hv
  exact ren_nn hd (nn i v1 hv1)
 ·exact fun b h1 h2=>⟨renOwn_none (R.fr b h1 h2).1,(R.fr b h1 h2).2⟩
 ·exact fun b l h=>⟨renOwn_far (R.k0 b l h).1,(R.k0 b l h).2⟩
 ·intro b l h
  rcases renOwn_inv h with⟨_,h1⟩ | ⟨o,h1,h2,h3⟩
  ·exact R.f0 b l h1
  ·have:=(idx_pos h3).1;omega
 ·exact⟨R.gr.1,fun b hb=>renOwn_none (R.gr.2.1 b hb),R.gr.2.2⟩
 ·intro i b n hi hb hn hs
  have hle:=R.le b i [] hb
  rw[e2,renRt_some (hfx i hi hle)] at hs
  have h0:=R.am i b n hi hb hn (by simpa using hs)
  exact⟨renOwn_some h0.1 (by omega) (hfx i hi hle),h0.2⟩
end Go.Ln
namespace Go.Ln
open Go
variable {w w' : World} {ρ ρ' : Own} {rt rt' : Store}
theorem result1_run {P:Program}{E:Env}(A:Agree P E)(H:RtOk w ρ rt)(J:Inj ρ){st:St}(hst:st.rt=rt){tmps:Array Value}(T:TmOk w ρ rt st.tm tmps){r:ResultVar}{v:V}(h:result1 E st r=some v) :
  ∃u,((match r with
   | .tmp t=>pure (tmps.getD t undef)
   | .cell a t=>do loadVar t (←asAddr (tmps.getD a undef))):Sem Value).run P w=.ok u w∧Slot w ρ rt nowhere v u:=by
 cases r with
 | tmp t=>
  simp only[result1] at h
  have hl:=(zqg.1 h).1
  obtain⟨u,hu⟩:∃u,tmps[t]?=some u:=⟨_,Array.getElem?_eq_getElem (by rw[←T.1];exact hl)⟩
  exact⟨u,by simp[Array.getD_eq_getD_getElem?,hu],T.2 t v u h hu⟩
 | cell a t=>
  simp only[result1,zqb] at h
  obtain⟨ti,ht,p,hp,cs,hc,h⟩:=h
  split at h
  ·rename_i hsz
   have hl:=(zqg.1 hp).1
   obtain⟨u0,hu0⟩:∃u,tmps[a]?=some u:=⟨_,Array.getElem?_eq_getElem (by rw[←T.1];exact hl)⟩
   have hpv:isAggV p=false:=by cases p<;>first | rfl | simp[from_] at hc
   rw[hst] at hc
   obtain⟨b,off,hu,hr⟩:=from_rep H J hc (Slot.one hpv (T.2 a p u0 hp hu0)) (by omega)
   have hx:∀j,j<ti.size→∃y,w.cell? ⟨b,off+j,none⟩=some y∧∀x,cs[j]?=some x→RepV w ρ rt none x y:=by
    intro j hj
    obtain⟨y,h1,h2⟩:=hr j (cs[j]'(by omega)) (by simp)
    exact⟨y,h1,fun x hx=>by rw[zqe (by omega)] at hx;cases hx;exact h2⟩
   have hg:∃g:Nat→Value,∀j,j<ti.size→w.cell? ⟨b,off+j,none⟩=some (g j)∧∀x,cs[j]?=some x→RepV w ρ rt none x (g j):=by
    refine⟨fun j=>if hj:j<ti.size then (hx j hj).choose else undef,fun j hj=>?_⟩
    simp only[hj,dif_pos]
    exact (hx j hj).choose_spec
   obtain⟨g,hg⟩:=hg
   have h1:isAggD ti.desc=false→ti.size=1:=fun ha=>by
    unfold mkVal at h
    rw[if_neg (by simp[ha])] at h
    split at h
    ·rename_i v' hv'
     have:=congrArg List.length hv'
     simp[Nat.min_eq_left hsz.2] at this
     exact this
    ·cases h
   refine⟨_,?_,mkVal_slot (g:=g) h (fun k x hk=>?_)⟩
   ·simp only[Array.getD_eq_getD_getElem?,hu0,Option.getD_some,hu,asAddr,Sem.run_bind,Sem.run_pure,Result.andThen]
    rw[run_loadVar A ht (fun j hj=>(hg j hj).1) h1]
    simp[List.length_take,Nat.min_eq_left hsz.2]
   ·rw[List.getElem?_take] at hk
    split at hk
    ·rename_i hk'
     exact (hg k hk').2 x hk
    ·cases hk
  ·cases h
theorem resultsV_get {E:Env}{st:St}:∀{rs:List ResultVar} {vs:List V},resultsV E st rs=some vs→vs.length=rs.length∧∀(i:Nat) r v,rs[i]?=some r→vs[i]?=some v→result1 E st r=some v
 | [],vs,h=>by simp[resultsV] at h;subst h;simp
 | r::rs,vs,h=>by
  simp only[resultsV,zqb,zqm] at h
  obtain⟨v,hv,ys,hys,rfl⟩:=h
  have ih:=resultsV_get hys
  refine⟨by simp[ih.1],fun i r' v' h1 h2=>?_⟩
  cases i with
  | zero=>simp at h1 h2;subst h1 h2;exact hv
  | succ i=>exact ih.2 i r' v' (by simpa using h1) (by simpa using h2)
theorem results_run {P:Program}{E:Env}(A:Agree P E)(H:RtOk w ρ rt)(J:Inj ρ){st:St}(hst:st.rt=rt){tmps:Array Value}(T:TmOk w ρ rt st.tm tmps){fn:Func}{vs:List V}(h:resultsV E st fn.results.toList=some vs) :
  ∃p:Nat→Value,(results fn tmps).run P w=.ok (if vs.length=1 then p 0 else .tuple (arrOf vs.length p)) w∧∀(i:Nat) v,vs[i]?=some v→Slot w ρ rt nowhere v (p i):=by
 obtain⟨hl,hg⟩:=resultsV_get h
 have hx:∀i,i<vs.length→∃u,∀r v,fn.results.toList[i]?=some r→vs[i]?=some v→((match r with
   | .tmp t=>pure (tmps.getD t undef)
   | .cell a t=>do loadVar t (←asAddr (tmps.getD a undef))):Sem Value).run P w=.ok u w∧Slot w ρ rt nowhere v u:=by
  intro i hi
  obtain⟨u,h1,h2⟩:=result1_run A H J hst T (hg i _ _ (zqe (by omega)) (zqe hi))
  refine⟨u,fun r v hr hv=>?_⟩
  rw[zqe (by omega)] at hr
  rw[zqe hi] at hv
  cases hr
  cases hv
  exact⟨h1,h2⟩
 have hp:∃p:Nat→Value,∀i,i<vs.length→∀r v,fn.results.toList[i]?=some r→vs[i]?=some v→((match r with
   | .tmp t=>pure (tmps.getD t undef)
   | .cell a t=>do loadVar t (←asAddr (tmps.getD a undef))):Sem Value).run P w=.ok (p i) w∧Slot w ρ rt nowhere v (p i):=by
  refine⟨fun i=>if hi:i<vs.length then (hx i hi).choose else undef,fun i hi=>?_⟩
  simp only[hi,dif_pos]
  exact (hx i hi).choose_spec
 obtain⟨p,hp⟩:=hp
 refine⟨p,?_,fun i v hv=>?_⟩
 ·have hm:=mapM_run (P:=P) w (l:=fn.results.toList) (r:=(List.range vs.length).map p) (f:=fun r=>((match r with
   | .tmp t=>pure (tmps.getD t undef)
   | .cell a t=>do loadVar t (←asAddr (tmps.getD a undef))):Sem Value)) (by simp[hl]) (fun i r u h1 h2=>by
    rw[List.getElem?_map] at h2
    obtain⟨j,hj,rfl⟩:=zqm.1 h2
    have hi:i<vs.length:=by
     have:=(zqg.1 hj).1
     simpa using this
    have:j=i:=by simpa[List.getElem?_range hi] using hj.symm
    subst this
    exact (hp j hi r _ h1 (zqe hi)).1)
  unfold results
  rw[Array.mapM_eq_mapM_toList]
  simp only[Sem.run_bind,map_eq_pure_bind,Sem.run_pure,Result.andThen]
  erw [hm]
  simp only[Result.andThen,List.size_toArray,List.length_map,List.length_range]
  by_cases h1:vs.length=1
  ·simp[h1]
  ·simp[h1,arrOf]
 ·have hi:=(zqg.1 hv).1
  exact (hp i hi _ v (zqe (by omega)) hv).2
end Go.Ln
namespace Go.Ln
open Go
variable {w w' : World} {ρ ρ' : Own} {rt rt' : Store}
theorem outs_at {rt:Store}:∀{own:List Bool} {vs:List V} {a:Nat} {x:V},outAt own (outs rt own vs) a=some x→∃v,vs[a]?=some v∧x=out1 rt v
 | [],vs,a,x,h=>by cases vs<;>simp[outs,outAt] at h
 | true::bs,[],a,x,h=>by simp[outs,outAt] at h
 | false::bs,[],0,x,h=>by simp[outAt] at h
 | false::bs,[],a+1,x,h=>by
  simp only[outs,outAt] at h
  have:outs rt bs []=[]:=by
   cases bs with
   | nil=>rfl
   | cons b _=>cases b<;>rfl
  rw[←this] at h
  obtain⟨v,hv,_⟩:=outs_at h
  simp at hv
 | true::bs,v::vs,0,x,h=>by simp[outs,outAt] at h;exact⟨v,by simp,h.symm⟩
 | true::bs,v::vs,a+1,x,h=>by
  simp only[outs,outAt] at h
  obtain⟨y,hy,hx⟩:=outs_at h
  exact⟨y,by simpa using hy,hx⟩
 | false::bs,v::vs,0,x,h=>by simp[outAt] at h
 | false::bs,v::vs,a+1,x,h=>by
  simp only[outs,outAt] at h
  obtain⟨y,hy,hx⟩:=outs_at h
  exact⟨y,by simpa using hy,hx⟩
theorem plain_one {v:V}(h:plainV v=true):isAggV v=false∧notOwn v:=by
 cases v<;>simp[plainV] at h<;>exact⟨rfl,trivial⟩
theorem outCell_one {v:V}:isAggV (outCell rt v)=false:=by
 unfold outCell
 split
 ·rename_i x hx
  unfold giveC at hx
  split at hx
  ·simp only[zqb] at hx
   obtain⟨r,_,hx⟩:=hx
   split at hx<;>cases hx
   rfl
  ·simp only[zqb] at hx
   obtain⟨r,_,hx⟩:=hx
   split at hx
   ·split at hx<;>cases hx
    rfl
   ·cases hx
  ·split at hx
   ·rename_i hp
    cases hx
    exact (plain_one hp).1
   ·cases hx
 ·rfl
theorem cells_out1 {v:V}:cells (out1 rt v)=(cells v).map (outCell rt):=by
 by_cases ha:isAggV v=true
 ·cases v<;>simp[isAggV] at ha
  rfl
 ·have ha':isAggV v=false:=by simpa using ha
  have:out1 rt v=outCell rt v:=by cases v<;>first | rfl | simp[isAggV] at ha
  rw[this,cells_one ha',cells_one outCell_one]
  rfl
theorem outCell_own {v:V}(h:¬notOwn (outCell rt v)):(∃o nv s len r,v=.hs o nv [] s 0 len∧rt o=some r∧len=r.es.length∧s=r.s∧outCell rt v=.usl s r.es)∨
  (∃o nv s e r,v=.hp o nv [] s 0 0∧rt o=some r∧r.es=[e]∧s=r.s∧(cells e).length=s∧outCell rt v=.uptr e):=by
 unfold outCell at h ⊢
 split at h
 ·rename_i x hx
  unfold giveC at hx
  split at hx
  ·rename_i o nv s off len
   simp only[zqb] at hx
   obtain⟨r,hr,hx⟩:=hx
   split at hx
   ·rename_i hc
    cases hx
    obtain⟨rfl,h2,h3⟩:=hc
    exact .inl ⟨o,nv,s,len,r,rfl,hr,h2,h3,rfl⟩
   ·cases hx
  ·rename_i o nv s i k
   simp only[zqb] at hx
   obtain⟨r,hr,hx⟩:=hx
   split at hx
   ·rename_i e he
    split at hx
    ·rename_i hc
     cases hx
     obtain⟨rfl,rfl,h2,h3⟩:=hc
     exact .inr ⟨o,nv,s,e,r,rfl,hr,he,h2,h3,rfl⟩
    ·cases hx
   ·cases hx
  ·split at hx
   ·rename_i hp
    cases hx
    exact absurd (plain_one hp).2 h
   ·cases hx
 ·exact absurd trivial h
def endOwn (ρ:Own)(q:Nat)(R:List NewR):Own:=fun b=>
 match ρ b with
 | none=>none
 | some (o,l)=>if o=0 then some (0,l) else if o=q then some (2,l) else (R[o - 1]?).map fun e=>(1,(e.1,e.2.1)::l)
theorem endOwn_none {q R b}(h:ρ b=none):endOwn ρ q R b=none:=by simp[endOwn,h]
theorem endOwn_far {q R b l}(h:ρ b=some (0,l)):endOwn ρ q R b=some (0,l):=by simp[endOwn,h]
theorem endOwn_res {q R b l}(h:ρ b=some (q,l))(h0:q≠0):endOwn ρ q R b=some (2,l):=by simp[endOwn,h,h0]
theorem endOwn_arg {q R b l j c k r}(h:ρ b=some (1+j,l))(hq:1+j≠q)(hj:R[j]?=some (c,k,r)):endOwn ρ q R b=some (1,(c,k)::l):=by
 unfold endOwn
 rw[h]
 simp only
 rw[if_neg (by omega),if_neg hq,show 1+j - 1=j by omega,hj]
 rfl
theorem endOwn_inv {q R b n l}(h:endOwn ρ q R b=some (n,l)):(n=0∧ρ b=some (0,l))∨(n=2∧q≠0∧ρ b=some (q,l))∨∃j c k r t,n=1∧l=(c,k)::t∧ρ b=some (1+j,t)∧1+j≠q∧R[j]?=some (c,k,r):=by
 unfold endOwn at h
 split at h
 ·cases h
 ·rename_i o l' hb
  split at h
  ·rename_i h0
   cases h
   subst h0
   exact .inl ⟨rfl,hb⟩
  ·rename_i h0
   split at h
   ·rename_i hq
    cases h
    subst hq
    exact .inr (.inl ⟨rfl,h0,hb⟩)
   ·rename_i hq
    simp only[zqm] at h
    obtain⟨⟨c,k,r⟩,he,h⟩:=h
    cases h
    exact .inr (.inr ⟨o - 1,c,k,r,l',rfl,rfl,by rw[show 1+(o - 1)=o by omega];exact hb,by omega,he⟩)
theorem tup_cell {v:V}(h:(cells v).all cellV=true):isTup v=false:=by
 cases v<;>first | rfl | simp[cells,cellV] at h
structure Fits (fn:Func) (c:Code) (n:Nat):Prop where
 body:fn.body=some c
 name : (fn.name == "runtime.NumGoroutine") = false
 args:n≤fn.ntmps
theorem run_enter {P:Program}{f:FuncId}{fn:Func}{c:Code}{n:Nat}(hf:P.funcs[f]?=some fn)(F:Fits fn c n)(us:Array Value)(w:World):(callFunc f us).run P w=.ok (.enter f us) w:=by
 have:=F.name
 simp at this
 simp[callFunc,hf,F.body,this]
def ownN (vs:List V):Nat:=(inst1s 1 0 vs).2.length
theorem enter_rel {P:Program}{G:Ground}{vs:List V}{us:List Value}(ha:ArgsOk w ρ vs us)(hi:Inn w ρ)(hg:G.ok w ρ){fn:Func}(hn:vs.length≤fn.ntmps) :
  Rel G (ownN vs) w (placeOwn ρ 1 1 (inst1s 1 0 vs).2) w (placeOwn ρ 1 1 (inst1s 1 0 vs).2) (enter fn vs).2 { tmps:=us.toArray++Array.replicate (fn.ntmps - us.toArray.size) undef,defers:=[] }:=by
 have hp:∃p:Nat→Value,∀(a:Nat) u,us[a]?=some u→u=p a:=⟨fun a=>us.getD a undef,fun a u h=>by simp[List.getD_eq_getElem?_getD,h]⟩
 obtain⟨p,hp⟩:=hp
 have pl:=placeAll (N:=fun _ _=>True) (w:=w) (ρ:=ρ) (rt:=rt0) (q:=1) (id:=1) (vs:=vs) (p:=p) (by intro o r h;cases h) hi.inj (by intro o r h;cases h)
  ⟨fun b o l h=>⟨(hi.lab b o l h).1,.inl (hi.lab b o l h).2⟩,rfl,hi.f⟩ (by omega) rfl (by omega) (fun _ _ _=>rfl) (fun _ _ _ _=>trivial) (fun c v hv=>by
   obtain⟨u,hu⟩:∃u,us[c]?=some u:=⟨_,zqe (by rw[←ha.1];exact (zqg.1 hv).1)⟩
   have:=ha.2 c v u hv hu
   rw[hp c u hu] at this
   exact this)
 obtain⟨s1,s2,s3,s4⟩:=inst1s_spec (vs:=vs) (id:=1) (c:=0)
 have e1:(enter fn vs).2.tm=(inst1s 1 0 vs).1++List.replicate (fn.ntmps - vs.length) .und:=rfl
 have e2:(enter fn vs).2.rt=addRoots rt0 1 (inst1s 1 0 vs).2:=rfl
 have e3:(enter fn vs).2.nx=1+(inst1s 1 0 vs).2.length:=rfl
 have hle:∀b i l,placeOwn ρ 1 1 (inst1s 1 0 vs).2 b=some (i,l)→i≤ownN vs:=fun b i l h=>by
  rcases placeOwn_inv h with⟨h1,h2⟩ | ⟨c,k,j,h1,h2,h3⟩
  ·rcases (hi.lab b i l h1).2 with h | h
   ·omega
   ·exact absurd h h2
  ·obtain⟨r,hr⟩:=posR_get h2
   have:=(zqg.1 hr).1
   unfold ownN
   omega
 refine⟨?_,?_,pl.inj,?_,?_,?_,?_,?_,Wk.refl,fun b hb _=>⟨hb,rfl⟩,fun b l hb=>⟨hb,rfl⟩,fun b l h=>h,rfl,?_,fun i b n _ h1 h2 _=>⟨h1,h2⟩,hle,?_⟩
 ·rw[e1,e2]
  refine⟨by simp[s1,ha.1],fun i v u hv hu=>?_⟩
  by_cases hi:i<vs.length
  ·rw[zql (by rw[s1];exact hi)] at hv
   simp only[Array.getElem?_append,List.size_toArray,←ha.1,hi,if_true,List.getElem?_toArray] at hu
   rw[hp i u hu]
   exact (pl.val i v hv).1
  ·rw[zqr (by rw[s1];omega)] at hv
   simp only[Array.getElem?_append,List.size_toArray,←ha.1,hi,if_false,Array.getElem?_replicate] at hu
   rw[List.getElem?_replicate] at hv
   split at hv<;>cases hv
   split at hu<;>cases hu
   exact Slot.mk1 rfl (.und _)
 ·rw[e2];exact pl.rok
 ·rw[e2];exact pl.rtn
 ·rw[e2];exact pl.lab
 ·rw[e2,e3]
  intro o ho
  unfold past at ho
  cases hr:addRoots rt0 1 (inst1s 1 0 vs).2 o with
  | none=>rfl
  | some r=>
   rcases pl.nv o r hr with h | ⟨_,h⟩
   ·cases h
   ·omega
 ·rw[e3];intro o ho;unfold past at ho;omega
 ·rw[e1,e2,e3]
  intro i v hv
  by_cases hi:i<vs.length
  ·rw[zql (by rw[s1];exact hi)] at hv
   exact (pl.val i v hv).2 _ fun o h1 h2 h3=>by unfold past at h3;omega
  ·rw[zqr (by rw[s1];omega)] at hv
   rw[List.getElem?_replicate] at hv
   split at hv<;>cases hv
   simp[noNew]
 ·exact⟨hg.1,fun b hb=>placeOwn_none (hg.2.1 b hb),hg.2.2⟩
 ·rw[e3];unfold past;unfold ownN at *;intro i h1 h2;omega
end Go.Ln
namespace Go.Ln
open Go
variable {w w' : World} {ρ ρ' : Own} {rt rt' : Store}
theorem leave_rel {P:Program}{E:Env}(A:Agree P E){G:Ground}{vs:List V}{us:List Value}(ha:ArgsOk w ρ vs us)(hi:Inn w ρ){fn:Func}{own:List Bool}{st:St}{a:Act}(R:Rel G (ownN vs) w (placeOwn ρ 1 1 (inst1s 1 0 vs).2) w' ρ' st a){r:V}{os:List V}(h:finish E fn own (enter fn vs).1 st=some (r,os)) :
  ∃u,(results fn a.tmps).run P w'=.ok u w'∧∃ρe,Aft w ρ w' ρe∧ResOk w' ρe r u∧OutsOk w ρ w' ρe own vs us os:=by
 simp only[finish,zqb,zqm] at h
 obtain⟨rs,hrs,⟨l,rt2⟩,hab,h⟩:=h
 cases h
 obtain⟨p,hrun,hslot⟩:=results_run A R.rok R.inj rfl R.tm hrs
 obtain⟨s1,s2,s3,s4⟩:=inst1s_spec (vs:=vs) (id:=1) (c:=0)
 have hnl:ownN vs<st.nx:=Nat.lt_of_not_le fun h=>R.nl (ownN vs) (Nat.le_refl _) h
 have hq:st.rt st.nx=none:=R.fresh st.nx (Nat.le_refl _)
 have hq0:st.nx≠0:=by omega
 have hrn:noNews (NewOf (past st.nx) st.rt) rs:=noNews_iff.2 fun v hv=>by
  obtain⟨i,hi⟩:=List.mem_iff_getElem?.1 hv
  obtain⟨hl,hg⟩:=resultsV_get hrs
  have:=hg i _ v (zqe (by have:=(zqg.1 hi).1;omega)) hi
  revert this
  generalize fn.results.toList[i]'_=rv
  intro this
  cases rv with
  | tmp t=>exact R.tmn t v this
  | cell b t=>
   simp only[result1,zqb] at this
   obtain⟨ti,ht,pv,hpv,cs,hc,this⟩:=this
   split at this
   ·exact mkVal_nn this (take_nn (from_nn R.rtn (fun o r hr=>by
     rintro (h | ⟨r',h,h2⟩)
     ·rw[R.fresh o h] at hr;cases hr
     ·rw[hr] at h;cases h;omega) (R.tmn b pv hpv) hc))
   ·cases this
 obtain⟨ρ2,ab,hl,hres⟩:=absorbEach_ok (q:=st.nx) (i0:=0) (g:=p) (N:=NewOf (past st.nx) st.rt) R.rok R.inj R.rtn R.lab (fun i j l _ h=>hq0 h) hq0 hq hslot hrn hab
 have hR:(inst1s 1 0 vs).2.length<st.nx:=hnl
 have hlow:∀{j:Nat} {e:NewR},(inst1s 1 0 vs).2[j]?=some e→1+j≠st.nx:=fun hj=>by
  have:=(zqg.1 hj).1
  omega
 have K:Keep0 (fun _ _=>True) w' ρ2 rt2 w' (endOwn ρ2 st.nx (inst1s 1 0 vs).2) rt0:=⟨fun b hb _=>⟨endOwn_none hb,rfl⟩,fun _ _ _ h _=>absurd trivial h⟩
 refine⟨_,hrun,endOwn ρ2 st.nx (inst1s 1 0 vs).2,⟨R.wk,fun b hb hlt=>?_,fun b l hb=>?_,fun b l hb=>?_,?_,fun b o l hb=>?_⟩,?_,?_⟩
 ·have h1:=R.fr b (placeOwn_none hb) hlt
  have h2:=ab.keep.k1 b h1.1 (Nat.lt_of_lt_of_le hlt R.wk.size)
  exact⟨endOwn_none h2.1,h1.2⟩
 ·have h1:=R.k0 b l (placeOwn_other hb (by omega))
  have h2:=ab.keep.k0 b l h1.1
  exact⟨endOwn_far h2.1,h1.2⟩
 ·rcases endOwn_inv hb with⟨_,h1⟩ | ⟨h0,_⟩ | ⟨_,_,_,_,_,h0,_⟩
  ·rcases placeOwn_inv (R.f0 b l (ab.f0 b l h1)) with⟨h2,_⟩ | ⟨_,_,_,_,_,h3⟩
   ·exact h2
   ·omega
  ·cases h0
  ·cases h0
 ·rintro b b' ⟨n,l⟩ h h'
  rcases endOwn_inv h with⟨e,h1⟩ | ⟨e,e0,h1⟩ | ⟨j,c,k,r,t,e,rfl,h1,_,hj⟩<;>rcases endOwn_inv h' with⟨e',h1'⟩ | ⟨e',e0',h1'⟩ | ⟨j',c',k',r',t',e',e1',h1',_,hj'⟩<;>(try omega)
  ·exact ab.inj b b' _ h1 h1'
  ·exact ab.inj b b' _ h1 h1'
  ·cases e1'
   have:=s4 j j' _ _ hj hj' rfl rfl
   subst this
   exact ab.inj b b' _ h1 h1'
 ·rcases endOwn_inv hb with⟨e,h1⟩ | ⟨e,e0,h1⟩ | ⟨j,c,k,r,t,e,_,h1,_,hj⟩
  ·exact⟨(ab.lab.l b 0 l h1).1,.inl e⟩
  ·exact⟨(ab.lab.l b _ l h1).1,.inr (.inr e)⟩
  ·exact⟨(ab.lab.l b _ t h1).1,.inr (.inl e)⟩
 ·have hcell:∀(c:Nat) v,l[c]?=some v→Slot w' (endOwn ρ2 st.nx (inst1s 1 0 vs).2) rt0 (fun k=>some (2,[(c,k)])) v (p c)∧nh v∧isTup v=false:=by
   intro c v hv
   obtain⟨y,hy⟩:∃y,rs[c]?=some y:=⟨_,zqe (by have:=(zqg.1 hv).1;omega)⟩
   obtain⟨⟨g,hg,hs⟩,h2,_,_,h5⟩:=hres c v y hv hy
   refine⟨⟨g,hg,fun k x hx=>?_⟩,h2,tup_cell h5⟩
   have:=(hs k x hx).mono0 K (fun l=>(2,l.2)) (fun l=>l.1=st.nx) (fun l i k _=>rfl) (fun l i k h=>h) (fun b l hl hb=>⟨by
    obtain⟨lo,ll⟩:=l
    simp only at hl
    subst hl
    exact endOwn_res hb hq0,rfl⟩) (fun l hl=>by cases hl;rfl) (nh_noNew (nh_cell h2 hx))
   simpa using this
  rw[←hl]
  by_cases h1:l.length=1
  ·obtain⟨v,rfl⟩:∃v,l=[v]:=by
    match l,h1 with
    | [v],_=>exact⟨v,rfl⟩
   have hv:=hcell 0 v rfl
   refine⟨p,by simp[tupOf,hv.2.2],fun c x hx=>?_⟩
   have hc:comps v=[v]:=by cases v<;>first | rfl | (simp[isTup] at hv)
   simp only[tupOf,hc] at hx
   exact hcell c x hx
  ·have ht:tupOf l=.tup l:=by
    match l,h1 with
    | [],_=>rfl
    | _::_::_,_=>rfl
    | [v],h=>exact absurd rfl h
   rw[ht]
   exact⟨p,by simp[isTup,comps,h1],fun c x hx=>hcell c x hx⟩
 ·intro a v u x hv hu hx g hug k y z hy hz hno
  obtain⟨av,hav,rfl⟩:=outs_at hx
  rw[cells_out1,List.getElem?_map] at hy
  obtain⟨c0,hc0,rfl⟩:=zqm.1 hy
  obtain⟨y',hy',_,hlen,hcc⟩:=s3 a v hv
  have:y'=av:=by
   have:(enter fn vs).1=(inst1s 1 0 vs).1:=rfl
   rw[this] at hav
   rw[hav] at hy'
   cases hy';rfl
  subst this
  have hown:∃j:Nat,(inst1s 1 0 vs).2[j]?=some (a,k,rootOf z)∧c0=handleOf (1+j) z∧¬notOwn z:=by
   rcases hcc k z hz with⟨h1,h2⟩ | ⟨h1,j,h2,h3⟩
   ·rw[h2] at hc0
    cases hc0
    exfalso
    rcases outCell_own hno with⟨o,nv,s,len,r,rfl,_⟩ | ⟨o,nv,s,e,r,rfl,_⟩
    ·have:=(ha.2 a v u hv hu).2
     have:=nh_cell this hz
     simp[nh] at this
    ·have:=(ha.2 a v u hv hu).2
     have:=nh_cell this hz
     simp[nh] at this
   ·rw[h3] at hc0
    cases hc0
    exact⟨j,by simpa using h2,rfl,h1⟩
  obtain⟨j,hj,rfl,hzo⟩:=hown
  have hjm:=(zqg.1 hj).1
  obtain⟨⟨g',hg',hsl⟩,hnz⟩:=ha.2 a v u hv hu
  have hgk:∀k x,(cells v)[k]?=some x→g k=g' k:=by
   intro k x hx
   rw[hug] at hg'
   unfold pack at hg'
   split at hg'
   ·have hk:=(zqg.1 hx).1
    injection hg' with hg'
    have h1:(arrOf (cells v).length g)[k]?=some (g k):=arrOf_get hk
    rw[hg',arrOf_get hk] at h1
    exact (Option.some.inj h1).symm
   ·rename_i hag
    have hk:=(zqg.1 hx).1
    rw[cells_one (by simpa using hag)] at hk
    simp at hk
    subst hk
    exact hg'
  have hrz:=hsl k z hz
  rw[←hgk k z hz] at hrz
  generalize g k=uv at hrz ⊢
  have hpos:posR (inst1s 1 0 vs).2 a k=some j:=by
   obtain⟨j',h'⟩:=posR_some hj
   obtain⟨r',h''⟩:=posR_get h'
   rw[h',s4 j' j _ _ h'' hj rfl rfl]
  have hlab:∀b t,ρ b=some (1,(a,k)::t)→placeOwn ρ 1 1 (inst1s 1 0 vs).2 b=some (1+j,t):=fun b t hb=>placeOwn_moved hb hpos
  have hrt2:∀r,rt2 (1+j)=some r→∃r0,st.rt (1+j)=some r0∧r.nv=r0.nv:=fun r hr=>by
   obtain⟨r0,h0,h1,_⟩:=ab.nv (1+j) r hr
   exact⟨r0,h0,h1⟩
  have hkeep:∀r b n,rt2 (1+j)=some r→ρ b=some (1,[(a,k)])→Blk w b n→ρ2 b=some (1+j,[])∧Blk w' b n:=fun r b n hr hb hn=>by
   obtain⟨r0,h0,h1⟩:=hrt2 r hr
   have h2:=R.am (1+j) b n (by omega) (hlab b [] hb) hn (by rw[h0];rfl)
   have hlv:live rt2 (1+j) r0.nv []:=by simp[live,look,valid,hr,rowAt]
   exact (ab.keep.k2 (1+j) r0.nv [] (by
    rintro (h | ⟨r2,h,h3⟩)
    ·unfold past at h;omega
    ·rw[h0] at h;cases h;omega) hlv).2 b n h2.1 h2.2
  have hmove:∀{e x:V} {i kk:Nat} {r:Root} {yv:Value},rt2 (1+j)=some r→r.es[i]?=some e→(cells e)[kk]?=some x→RepV w' ρ2 rt2 (some (1+j,[(i,kk)])) x yv→
    RepV w' (endOwn ρ2 st.nx (inst1s 1 0 vs).2) rt0 (some (Loc.at (1,[(a,k)]) i kk)) x yv:=by
   intro e x i kk r yv hr he hx hxv
   have:=hxv.mono0 K (fun l=>(1,(a,k)::l.2)) (fun l=>l.1=1+j) (fun l i k _=>rfl) (fun l i k h=>h) (fun b l hl hb=>⟨by
    obtain⟨lo,ll⟩:=l
    simp only at hl
    subst hl
    exact endOwn_arg hb (hlow hj) hj,rfl⟩) (fun l hl=>by cases hl;rfl) (nh_noNew (nh_cell (nhs_get (ab.rtn _ r hr) he) hx))
   simpa[Loc.at] using this
  rcases own_or z with h | ⟨s,es,rfl⟩ | ⟨e,rfl⟩
  ·exact absurd h hzo
  ·rcases outCell_own hno with⟨o,nv,s',len,r,heq,hr,hln,hs',hout⟩ | ⟨o,nv,s',e,r,heq,_⟩
   ·simp only[handleOf,V.hs.injEq] at heq
    obtain⟨rfl,rfl,_,rfl,_,rfl⟩:=heq
    rw[hout]
    refine⟨by simpa[nh] using ab.rtn _ r hr,?_,fun b nb hb hnb=>(endOwn_arg (hkeep r b nb hr hb hnb).1 (hlow hj) hj)⟩
    ·cases hrz with
     | usl0=>
      have:r.es=[]:=List.eq_nil_of_length_eq_zero (by simpa using hln.symm)
      rw[this]
      exact .usl0 _ _ _
     | usl _ _ _ b A c arr T gg hρ hb hl' hA hcap hs hc h=>
      obtain⟨h1,arr',T',h2,h3⟩:=hkeep r b arr.size hr hρ ⟨arr,T,hb,rfl⟩
      have e1:endOwn ρ2 st.nx (inst1s 1 0 vs).2 b=some (1,[(a,k)]):=endOwn_arg h1 (hlow hj) hj
      rw[show es.length=r.es.length from hln]
      rcases ab.rok (1+j) r hr with h0 | ⟨b',arr2,T2,g2,q1,q2,q3,q4,q5⟩
      ·rw[h0]
       exact .usl _ _ [] b A c arr' T' (fun _ _=>undef) e1 h2 (by simp) hA (by rw[h3];exact hcap) (by simp) (by simp) (by simp)
      ·have:=ab.inj b b' _ h1 q1
       subst this
       rw[h2] at q2
       cases q2
       exact .usl _ _ _ b A c arr' T' g2 e1 h2 (by rw[←hln];exact hl') hA (by rw[h3];exact hcap) (by rw[hs'];exact q3) (by rw[hs'];exact q4) (fun i e k' x he hx=>hmove hr he hx (q5 i e k' x he hx))
   ·simp[handleOf] at heq
  ·rcases outCell_own hno with⟨o,nv,s',len,r,heq,_⟩ | ⟨o,nv,s',e2,r,heq,hr,hes,hs',hce,hout⟩
   ·simp[handleOf] at heq
   ·simp only[handleOf,V.hp.injEq] at heq
    obtain⟨rfl,rfl,_,rfl,_,_⟩:=heq
    rw[hout]
    cases hrz with
    | uptr _ _ b arr T gg hρ hb hc h=>
     obtain⟨h1,arr',T',h2,h3⟩:=hkeep r b arr.size hr hρ ⟨arr,T,hb,rfl⟩
     have e1:endOwn ρ2 st.nx (inst1s 1 0 vs).2 b=some (1,[(a,k)]):=endOwn_arg h1 (hlow hj) hj
     refine⟨by have:=ab.rtn _ r hr;rw[hes] at this;simpa[nh,nhs] using this,?_,fun b2 nb hb2 hnb=>endOwn_arg (hkeep r b2 nb hr hb2 hnb).1 (hlow hj) hj⟩
     ·rcases ab.rok (1+j) r hr with h0 | ⟨b',arr2,T2,g2,q1,q2,q3,q4,q5⟩
      ·rw[hes] at h0;cases h0
      ·have:=ab.inj b b' _ h1 q1
       subst this
       rw[h2] at q2
       cases q2
       refine .uptr _ _ b arr' T' (g2 0) e1 h2 (fun kk x hx=>?_) (fun kk x hx=>?_)
       ·have:=q4 0 e2 kk x (by rw[hes];rfl) hx
        simpa using this
       ·exact hmove hr (i:=0) (by rw[hes];rfl) hx (q5 0 e2 kk x (by rw[hes];rfl) hx)
end Go.Ln
namespace Go.Ln
open Go
def Ag (H:Nat→Prop)(rt rt2:Store):Prop:=∀o,H o→rt2 o=rt o
def Lk (H:Nat→Prop)(rt rt1 rt2 rt3:Store):Prop:=∀o,(H o→rt3 o=rt1 o)∧(¬H o→rt3 o=rt2 o∧rt1 o=rt o)
variable {H : Nat→Prop} {rt rt1 rt2 rt3 : Store}
theorem Lk.refl (h:Ag H rt rt2):Lk H rt rt rt2 rt2:=fun o=>⟨h o,fun _=>⟨rfl,rfl⟩⟩
theorem Lk.ag (h:Lk H rt rt1 rt2 rt3):Ag H rt1 rt3:=fun o ho=>(h o).1 ho
theorem Lk.trans {a b:Store}(h:Lk H rt rt1 rt2 rt3)(h':Lk H rt1 a rt3 b):Lk H rt a rt2 b:=
 fun o=>⟨fun ho=>(h' o).1 ho,fun ho=>⟨((h' o).2 ho).1.trans ((h o).2 ho).1,((h' o).2 ho).2.trans ((h o).2 ho).2⟩⟩
theorem Lk.upd {o:Nat}{r:Option Root}(ho:H o)(h:Lk H rt rt1 rt2 rt3):Lk H rt (upd rt1 o r) rt2 (upd rt3 o r):=fun x=>by
 by_cases hx:x=o
 ·subst hx
  exact⟨fun _=>by simp[Ln.upd],fun h=>absurd ho h⟩
 ·simp only[Ln.upd,if_neg hx]
  exact h x
theorem valid_ag (h:Ag H rt rt2){o nv:Nat}{p}(ho:H o):valid rt2 o nv p=valid rt o nv p:=by simp[valid,h o ho]
theorem look_ag (h:Ag H rt rt2){o nv:Nat}{p}(ho:H o):look rt2 o nv p=look rt o nv p:=by simp[look,valid_ag h ho]
theorem from_ag (h:Ag H rt rt2){v:V}(hv:∀o∈ids v,H o):from_ rt2 v=from_ rt v:=by
 cases v with
 | hp o nv p s i k=>simp[from_,valid_ag h (hv o (by simp[ids]))]
 | _=>rfl
theorem alive_ag (h:Ag H rt rt2){v:V}(hv:∀o∈ids v,H o):alive rt2 v=alive rt v:=by
 cases v with
 | hp o nv p s i k=>simp[alive,look_ag h (hv o (by simp[ids]))]
 | hs o nv p s i k=>simp[alive,look_ag h (hv o (by simp[ids]))]
 | _=>rfl
theorem share_ag (h:Ag H rt rt2){v:V}(hv:∀o∈ids v,H o):share rt2 v=share rt v:=by
 cases v with
 | hp o nv p s i k=>simp[share,look_ag h (hv o (by simp[ids]))]
 | hs o nv p s i k=>simp[share,look_ag h (hv o (by simp[ids]))]
 | _=>rfl
theorem convV_ag {E:Env}{t t':TypeId}(h:Ag H rt rt2){v:V}(hv:∀o∈ids v,H o):convV E rt2 t t' v=convV E rt t t' v:=by
 have:rowV rt2 v=rowV rt v:=by
  cases v with
  | hs o nv p s i k=>simp[rowV,look_ag h (hv o (by simp[ids]))]
  | _=>rfl
 unfold convV
 split<;>simp_all
theorem idss_mem {o:Nat}:∀{vs:List V},o∈idss vs↔∃v∈vs,o∈ids v
 | []=>by simp[idss]
 | v::vs=>by simp[idss,@idss_mem o vs]
theorem shares_ag (h:Ag H rt rt2):∀{vs:List V},(∀o∈idss vs,H o)→shares rt2 vs=shares rt vs
 | [],_=>rfl
 | v::vs,hv=>by
  simp only[idss,List.mem_append] at hv
  simp only[shares,share_ag h fun o ho=>hv o (.inl ho),shares_ag h fun o ho=>hv o (.inr ho)]
theorem share1_ag (h:Ag H rt rt2){v:V}(hv:∀o∈ids v,H o):share1 rt2 v=share1 rt v:=by
 cases v<;>first | exact share_ag h hv | (simp only[share1];rw[shares_ag h (by simpa[ids] using hv)])
theorem handC_ag (h:Ag H rt rt2){v:V}(hv:∀o∈ids v,H o):handC rt2 v=handC rt v:=by
 cases v with
 | hp o nv p s i k=>simp[handC,valid_ag h (hv o (by simp[ids]))]
 | hs o nv p s i k=>simp[handC,valid_ag h (hv o (by simp[ids]))]
 | _=>rfl
theorem handCs_ag (h:Ag H rt rt2):∀{vs:List V},(∀o∈idss vs,H o)→handCs rt2 vs=handCs rt vs
 | [],_=>rfl
 | v::vs,hv=>by
  simp only[idss,List.mem_append] at hv
  simp only[handCs,handC_ag h fun o ho=>hv o (.inl ho),handCs_ag h fun o ho=>hv o (.inr ho)]
theorem hand_ag (h:Ag H rt rt2){v:V}(hv:∀o∈ids v,H o):hand rt2 v=hand rt v:=by
 cases v<;>first | exact handC_ag h hv | (simp only[hand];rw[handCs_ag h (by simpa[ids] using hv)])
theorem argsV_ag (h:Ag H rt rt2):∀{own:List Bool} {vs:List V},(∀o∈idss vs,H o)→argsV rt2 own vs=argsV rt own vs
 | own,[],_=>by cases own<;>rfl
 | [],v::vs,hv=>by
  simp only[idss,List.mem_append] at hv
  simp only[argsV,share1_ag h fun o ho=>hv o (.inl ho),argsV_ag h (own:=[]) fun o ho=>hv o (.inr ho)]
 | true::own,v::vs,hv=>by
  simp only[idss,List.mem_append] at hv
  simp only[argsV,hand_ag h fun o ho=>hv o (.inl ho),argsV_ag h (own:=own) fun o ho=>hv o (.inr ho)]
 | false::own,v::vs,hv=>by
  simp only[idss,List.mem_append] at hv
  simp only[argsV,share1_ag h fun o ho=>hv o (.inl ho),argsV_ag h (own:=own) fun o ho=>hv o (.inr ho)]
theorem takeOut_lk (h:Ag H rt rt2){o:Nat}(ho:H o){r:Root}{p}(e:takeOut rt o r p=some rt1):∃rt3,takeOut rt2 o r p=some rt3∧Lk H rt rt1 rt2 rt3:=by
 unfold takeOut at e ⊢
 split at e
 ·cases e
  exact⟨_,rfl,(Lk.refl h).upd ho⟩
 ·simp only[zqb,zqm] at e
  obtain⟨y,hy,z,hz,es,hes,rfl⟩:=e
  exact⟨_,by simp[hy,hz,hes],(Lk.refl h).upd ho⟩
theorem absorbCell_lk (h:Ag H rt rt2){v x:V}(hv:∀o∈ids v,H o)(e:absorbCell rt v=some (x,rt1)):∃rt3,absorbCell rt2 v=some (x,rt3)∧Lk H rt rt1 rt2 rt3:=by
 have pl:∀{w:V},(if plainV w then some (w,rt) else none)=some (x,rt1)→∃rt3,(if plainV w then some (w,rt2) else none)=some (x,rt3)∧Lk H rt rt1 rt2 rt3:=by
  intro w e
  split at e
  ·rename_i hp
   cases e
   exact⟨rt2,by simp[hp],Lk.refl h⟩
  ·cases e
 cases v with
 | hp o nv p s i k=>
  have ho:H o:=hv o (by simp[ids])
  simp only[absorbCell,zqb] at e
  obtain⟨r,hr,y,hy,e⟩:=e
  split at e
  ·rename_i z hz
   split at e
   ·rename_i hc
    simp only[zqm,Prod.mk.injEq] at e
    obtain⟨rt',ht,rfl,rfl⟩:=e
    obtain⟨rt3,h3,h4⟩:=takeOut_lk h ho ht
    exact⟨rt3,by simp[absorbCell,valid_ag h ho,hr,hy,hz,hc,h3],h4⟩
   ·cases e
  ·cases e
 | hs o nv p s off len=>
  have ho:H o:=hv o (by simp[ids])
  simp only[absorbCell,zqb] at e
  obtain⟨r,hr,y,hy,e⟩:=e
  split at e
  ·rename_i hc
   simp only[zqm,Prod.mk.injEq] at e
   obtain⟨rt',ht,rfl,rfl⟩:=e
   obtain⟨rt3,h3,h4⟩:=takeOut_lk h ho ht
   refine⟨rt3,?_,h4⟩
   simp only[absorbCell,valid_ag h ho,hr,hy,zqs]
   rw[if_pos hc,h3]
   rfl
  ·cases e
 | _=>(simp only[absorbCell] at e ⊢;exact pl e)
theorem absorbs_lk:∀{vs xs:List V} {rt rt1 rt2:Store},Ag H rt rt2→(∀o∈idss vs,H o)→absorbs rt vs=some (xs,rt1)→∃rt3,absorbs rt2 vs=some (xs,rt3)∧Lk H rt rt1 rt2 rt3
 | [],xs,rt,rt1,rt2,h,_,e=>by
  simp only[absorbs,Option.some.injEq,Prod.mk.injEq] at e
  obtain⟨rfl,rfl⟩:=e
  exact⟨rt2,rfl,Lk.refl h⟩
 | v::vs,xs,rt,rt1,rt2,h,hv,e=>by
  simp only[idss,List.mem_append] at hv
  simp only[absorbs,zqb,zqm,Prod.mk.injEq] at e
  obtain⟨⟨x,ra⟩,hx,⟨ys,rb⟩,hy,rfl,rfl⟩:=e
  obtain⟨r3,h3,k3⟩:=absorbCell_lk h (fun o ho=>hv o (.inl ho)) hx
  obtain⟨r4,h4,k4⟩:=absorbs_lk k3.ag (fun o ho=>hv o (.inr ho)) hy
  exact⟨r4,by simp only[absorbs,h3,zqs];rw[h4];rfl,k3.trans k4⟩
theorem absorb_lk (h:Ag H rt rt2){v x:V}(hv:∀o∈ids v,H o)(e:absorb rt v=some (x,rt1)):∃rt3,absorb rt2 v=some (x,rt3)∧Lk H rt rt1 rt2 rt3:=by
 cases v with
 | agg cs=>
  simp only[absorb,zqm,Prod.mk.injEq] at e
  obtain⟨⟨xs,r1⟩,hx,rfl,rfl⟩:=e
  obtain⟨r3,h3,k3⟩:=absorbs_lk h (by simpa[ids] using hv) hx
  exact⟨r3,by simp[absorb,h3],k3⟩
 | _=>exact absorbCell_lk h hv e
theorem absorbEach_lk:∀{vs xs:List V} {rt rt1 rt2:Store},Ag H rt rt2→(∀o∈idss vs,H o)→absorbEach rt vs=some (xs,rt1)→∃rt3,absorbEach rt2 vs=some (xs,rt3)∧Lk H rt rt1 rt2 rt3
 | [],xs,rt,rt1,rt2,h,_,e=>by
  simp only[absorbEach,Option.some.injEq,Prod.mk.injEq] at e
  obtain⟨rfl,rfl⟩:=e
  exact⟨rt2,rfl,Lk.refl h⟩
 | v::vs,xs,rt,rt1,rt2,h,hv,e=>by
  simp only[idss,List.mem_append] at hv
  simp only[absorbEach,zqb,zqm,Prod.mk.injEq] at e
  obtain⟨⟨x,ra⟩,hx,⟨ys,rb⟩,hy,rfl,rfl⟩:=e
  obtain⟨r3,h3,k3⟩:=absorb_lk h (fun o ho=>hv o (.inl ho)) hx
  obtain⟨r4,h4,k4⟩:=absorbEach_lk k3.ag (fun o ho=>hv o (.inr ho)) hy
  exact⟨r4,by simp only[absorbEach,h3,zqs];rw[h4];rfl,k3.trans k4⟩
theorem takeEls_lk (h:Ag H rt rt2){v:V}{xs:List V}(hv:∀o∈ids v,H o)(e:takeEls rt v=some (xs,rt1)):∃rt3,takeEls rt2 v=some (xs,rt3)∧Lk H rt rt1 rt2 rt3:=by
 cases v with
 | isl n es=>
  simp only[takeEls,Option.some.injEq,Prod.mk.injEq] at e
  obtain⟨rfl,rfl⟩:=e
  exact⟨rt2,rfl,Lk.refl h⟩
 | hs o nv p s off len=>
  have ho:H o:=hv o (by simp[ids])
  simp only[takeEls,zqb] at e
  obtain⟨y,hy,e⟩:=e
  simp only[takeEls,look_ag h ho,hy,zqs]
  split at e
  ·rename_i hc
   rw[if_pos hc]
   split at e
   ·cases e
   ·rename_i hs
    rw[if_neg hs]
    split at e
    ·rename_i hf
     rw[if_pos hf]
     cases e
     exact⟨rt2,rfl,Lk.refl h⟩
    ·rename_i hf
     rw[if_neg hf]
     split at e
     ·rename_i hq
      rw[if_pos hq]
      cases e
      exact⟨_,rfl,(Lk.refl h).upd ho⟩
     ·cases e
  ·cases e
 | _=>simp[takeEls] at e
end Go.Ln
namespace Go.Ln
open Go
variable {H : Nat→Prop} {rt rt1 rt2 rt3 : Store}
theorem lentOf_sub {o:Nat}:∀{own:List Bool} {vs:List V},o∈lentOf own vs→o∈idss vs
 | own,[],h=>by cases own with
  | nil=>simp[lentOf] at h
  | cons b _=>cases b<;>simp[lentOf] at h
 | [],v::vs,h=>by
  simp only[lentOf,List.mem_append] at h
  simp only[idss,List.mem_append]
  exact h.imp id lentOf_sub
 | true::own,v::vs,h=>by
  simp only[lentOf] at h
  simp only[idss,List.mem_append]
  exact .inr (lentOf_sub h)
 | false::own,v::vs,h=>by
  simp only[lentOf,List.mem_append] at h
  simp only[idss,List.mem_append]
  exact h.imp id lentOf_sub
theorem hid_ids {v x:V}{k o:Nat}(hx:(cells v)[k]?=some x)(h:hid x=some o):o∈ids v:=by
 have hxi:o∈ids x:=by cases x<;>simp[hid] at h<;>simp[ids,h]
 by_cases ha:isAggV v=true
 ·cases v<;>simp[isAggV] at ha
  simp only[ids]
  exact idss_mem.2 ⟨x,zqo hx,hxi⟩
 ·rw[cells_one (by simpa using ha)] at hx
  cases k<;>simp at hx
  subst hx
  exact hxi
theorem given_sub {own:List Bool}{vs:List V}{o:Nat}{x:Path×Nat×Nat}(h:lookG (givenOf 0 own vs) o=some x):o∈idss vs:=by
 obtain⟨a,v,k,y,h1,h2,h3,h4,h5⟩:=givenOf_mem.1 (lookG_mem h)
 exact idss_mem.2 ⟨v,zqo h2,hid_ids h3 h4⟩
theorem callV_lk {E:Env}(h:Ag H rt rt2){id:Nat}(hb:∀o,id≤o→o<id+room→H o){f:FuncId}{args:List V}{v:V}(hv:∀o∈idss args,H o)(e:callV E rt id f args=some (v,rt1)):∃rt3,callV E rt2 id f args=some (v,rt3)∧Lk H rt rt1 rt2 rt3:=by
 simp only[callV,zqb] at e
 obtain⟨en,hen,e⟩:=e
 split at e
 ·rename_i hchk
  simp only[zqb] at e
  obtain⟨xs,hxs,⟨r,os⟩,hF,e⟩:=e
  simp only at e
  split at e
  ·rename_i hroom
   simp only[Option.some.injEq,Prod.mk.injEq] at e
   obtain⟨rfl,rfl⟩:=e
   refine⟨addRoots (backSt rt2 (givenOf 0 en.own args) en.own os (if (hasImm r||hasImms os)=true then lentOf en.own args else [])) id (inst1s id 0 (comps r)).2,?_,?_⟩
   ·simp only[callV,hen,zqs]
    rw[if_pos hchk,argsV_ag h hv,hxs]
    simp only[zqs,hF]
    rw[if_pos hroom]
   ·have hd:∀o,o∈(if (hasImm r||hasImms os)=true then lentOf en.own args else [])→H o:=fun o ho=>by
     split at ho
     ·exact hv o (lentOf_sub ho)
     ·cases ho
    generalize (if (hasImm r||hasImms os)=true then lentOf en.own args else [])=dead at hd
    intro o
    by_cases hin:id≤o∧o<id+(inst1s id 0 (comps r)).2.length
    ·have ho:H o:=hb o hin.1 (by omega)
     refine⟨fun _=>?_,fun hn=>absurd ho hn⟩
     simp only[addRoots]
     rw[if_pos hin,if_pos hin]
    ·simp only[addRoots]
     rw[if_neg hin,if_neg hin]
     simp only[backSt]
     cases hg:lookG (givenOf 0 en.own args) o with
     | some x=>
      have ho:H o:=hv o (given_sub hg)
      refine⟨fun _=>by simp only[h o ho],fun hn=>absurd ho hn⟩
     | none=>
      by_cases hc:dead.contains o=true
      ·simp only[hc,if_true]
       refine⟨fun _=>trivial,fun hn=>absurd (hd o (by simpa using hc)) hn⟩
      ·simp only[hc]
       exact⟨fun ho=>by simpa using h o ho,fun _=>⟨rfl,rfl⟩⟩
  ·cases e
 ·cases e
theorem clearV_lk {E:Env}(h:Ag H rt rt2){t:TypeId}{x:V}(hx:∀o∈ids x,H o)(e:clearV E rt t x=some rt1):∃rt3,clearV E rt2 t x=some rt3∧Lk H rt rt1 rt2 rt3:=by
 unfold clearV at e ⊢
 split at e
 ·split at e
  ·rename_i hs
   cases e
   exact⟨rt2,by simp[hs],Lk.refl h⟩
  ·cases e
 ·rename_i o nv s off len
  have ho:H o:=hx o (by simp[ids])
  split at e
  ·simp only[zqb] at e
   obtain⟨ei,hei,z,hz,r,hr,e⟩:=e
   split at e
   ·rename_i hc
    cases e
    exact⟨_,by simp only[hei,hz,h o ho,hr,zqs];rw[if_pos hc],(Lk.refl h).upd ho⟩
   ·cases e
  ·cases e
 ·cases e
theorem appendV_lk {E:Env}(h:Ag H rt rt2){id:Nat}(hb:H id){t:TypeId}{d x v:V}(hd:∀o∈ids d,H o)(hx:∀o∈ids x,H o)(e:appendV E rt id t d x=some (v,rt1)):∃rt3,appendV E rt2 id t d x=some (v,rt3)∧Lk H rt rt1 rt2 rt3:=by
 unfold appendV at e ⊢
 split at e
 ·simp only[zqb] at e
  obtain⟨ei,hei,⟨es,ra⟩,hes,e⟩:=e
  obtain⟨r3,h3,k3⟩:=takeEls_lk h hx hes
  simp only[hei,zqs,h3]
  split at e
  ·rename_i hall
   rw[if_pos hall]
   split at e
   ·split at e
    ·rename_i hl
     rw[if_pos hl]
     simp only[Option.some.injEq,Prod.mk.injEq] at e
     obtain⟨rfl,rfl⟩:=e
     exact⟨_,rfl,k3.upd hb⟩
    ·cases e
   ·rename_i o nv p s off len
    simp only[zqb] at e
    obtain⟨z,hz,e⟩:=e
    have ho:H o:=hd o (by simp[ids])
    simp only[look_ag k3.ag ho,hz,zqs]
    split at e
    ·rename_i hc
     rw[if_pos hc]
     simp only[zqm,Prod.mk.injEq] at e
     obtain⟨⟨u1,u2⟩,hu,rfl,rfl⟩:=e
     obtain⟨r4,h4,k4⟩:=absorbCell_lk k3.ag hd hu
     exact⟨_,by rw[h4];rfl,(k3.trans k4).upd hb⟩
    ·cases e
   ·cases e
  ·cases e
 ·cases e
theorem storeV_lk {E:Env}(h:Ag H rt rt2){t:TypeId}{p x:V}(hp:∀o∈ids p,H o)(hx:∀o∈ids x,H o)(e:storeV E rt t p x=some rt1):∃rt3,storeV E rt2 t p x=some rt3∧Lk H rt rt1 rt2 rt3:=by
 unfold storeV at e ⊢
 split at e
 ·rename_i o nv path s i k
  simp only[zqb] at e
  obtain⟨ti,hti,⟨y,ra⟩,hy,e⟩:=e
  obtain⟨r3,h3,k3⟩:=absorb_lk h hx hy
  have ho:H o:=hp o (by simp[ids])
  simp only[hti,zqs,h3]
  split at e
  ·rename_i hc
   rw[if_pos hc]
   simp only[zqb] at e
   obtain⟨r,hr,z,hz,e⟩:=e
   simp only[valid_ag k3.ag ho,hr,zqs,hz]
   split at e
   ·rename_i hs
    rw[if_pos hs]
    simp only[zqb] at e
    obtain⟨w,hw,e⟩:=e
    simp only[hw,zqs]
    split at e
    ·rename_i hk
     rw[if_pos hk]
     simp only[zqm] at e
     obtain⟨es,hes,rfl⟩:=e
     exact⟨_,by rw[hes];rfl,k3.upd ho⟩
    ·cases e
   ·cases e
  ·cases e
 ·cases e
def opIds (st:St)(op:Op):List Nat:=(op.operands.toList.filterMap (ev st)).flatMap ids
theorem opIds_mem {st:St}{op:Op}{x:Operand}{v:V}{o:Nat}(hx:x∈op.operands.toList)(hv:ev st x=some v)(ho:o∈ids v):o∈opIds st op:=
 List.mem_flatMap.2 ⟨v,List.mem_filterMap.2 ⟨x,hx,hv⟩,ho⟩
def noRt:Op→Bool
 | .move _ | .assign _ | .pick .. | .build .. | .binOp .. | .unOp ..  | .makeInterface .. | .makeFunc .. | .field .. | .index .. | .extract .. | .alloc _ | .makeSlice ..=>true
 | _=>false
def opR (st:St)(op:Op):List Nat:=if noRt op then [] else opIds st op
theorem evs_ag {st st2:St}:∀{xs:List Operand},(∀x∈xs,ev st2 x=ev st x)→evs st2 xs=evs st xs
 | [],_=>rfl
 | x::xs,h=>by
  simp only[evs,h x (by simp),evs_ag fun y hy=>h y (List.mem_cons_of_mem _ hy)]
theorem evParts_ag {st st2:St}:∀{xs:List (Nat×Operand)},(∀x∈xs,ev st2 x.2=ev st x.2)→evParts st2 xs=evParts st xs
 | [],_=>rfl
 | (i,x)::xs,h=>by
  simp only[evParts,h (i,x) (by simp),evParts_ag fun y hy=>h y (List.mem_cons_of_mem _ hy)]
theorem evs_mem {st:St}:∀{xs:List Operand} {vs:List V} {v:V},evs st xs=some vs→v∈vs→∃x∈xs,ev st x=some v
 | [],vs,v,h,hv=>by simp[evs] at h;subst h;cases hv
 | x::xs,vs,v,h,hv=>by
  simp only[evs,zqb,zqm] at h
  obtain⟨u,hu,us,hus,rfl⟩:=h
  rcases List.mem_cons.1 hv with rfl | hv
  ·exact⟨x,by simp,hu⟩
  ·obtain⟨y,hy,h⟩:=evs_mem hus hv
   exact⟨y,List.mem_cons_of_mem _ hy,h⟩
theorem evParts_mem {st:St}:∀{xs:List (Nat×Operand)} {vs:List (Nat×V)} {v:Nat×V},evParts st xs=some vs→v∈vs→∃x∈xs,ev st x.2=some v.2
 | [],vs,v,h,hv=>by simp[evParts] at h;subst h;cases hv
 | (i,x)::xs,vs,v,h,hv=>by
  simp only[evParts,zqb,zqm] at h
  obtain⟨u,hu,us,hus,rfl⟩:=h
  rcases List.mem_cons.1 hv with rfl | hv
  ·exact⟨(i,x),by simp,hu⟩
  ·obtain⟨y,hy,h⟩:=evParts_mem hus hv
   exact⟨y,List.mem_cons_of_mem _ hy,h⟩
theorem evOpt_ag {st st2:St}{x:Option Operand}(h:∀y,x=some y→ev st2 y=ev st y):evOpt st2 x=evOpt st x:=by
 cases x with
 | none=>rfl
 | some y=>simp only[evOpt,h y rfl]
theorem putEls_mem {sz:Nat}{a:Bool}:∀{ps:List (Nat×V)} {es es':List V} {v:V},putEls sz a es ps=some es'→v∈es'→v∈es∨∃p∈ps,p.2=v
 | [],es,es',v,h,hv=>by simp[putEls] at h;subst h;exact .inl hv
 | (i,x)::ps,es,es',v,h,hv=>by
  simp only[putEls] at h
  split at h
  ·rcases putEls_mem h hv with h1 | ⟨p,hp,rfl⟩
   ·rcases List.mem_or_eq_of_mem_set h1 with h2 | h2
    ·exact .inl h2
    ·exact .inr ⟨(i,x),by simp,h2.symm⟩
   ·exact .inr ⟨p,List.mem_cons_of_mem _ hp,rfl⟩
  ·cases h
end Go.Ln
namespace Go.Ln
open Go
variable {H : Nat→Prop} {rt rt1 rt2 rt3 : Store}
theorem ids_const {c:Value}{v:V}(h:zeroV c=some v):ids v=[]:=by
 have one:∀{c:Value} {v:V},ofConst c=some v→ids v=[]:=by
  intro c v h
  unfold ofConst at h
  split at h<;>cases h<;>rfl
 unfold zeroV at h
 split at h
 ·simp only[zqm] at h
  obtain⟨vs,hvs,rfl⟩:=h
  simp only[ids]
  rename_i cs
  generalize cs.toList=l at hvs
  induction l generalizing vs with
  | nil=>simp[ofConsts] at hvs;subst hvs;rfl
  | cons x l ih=>
   simp only[ofConsts,zqb,zqm] at hvs
   obtain⟨y,hy,ys,hys,rfl⟩:=hvs
   simp[idss,one hy,ih ys hys]
 ·exact one h
theorem opV_lk {E : Env}{id : Nat}{st st2 : St}{op : Op}{v : V}(hb : ∀ o, id ≤ o → o < id + room → H o)(ho : ∀ o ∈ opR st op, H o)(hx : ∀ x ∈ op.operands.toList, ev st2 x = ev st x)(h : Ag H st.rt st2.rt)(e : opV E id st op = some (v, rt1)) : ∃ rt3, opV E id st2 op = some (v, rt3) ∧ Lk H st.rt rt1 st2.rt rt3 := by
  have hid : H id := hb id (Nat.le_refl _) (by unfold room; omega)
  have pure : st.rt = rt1 → opV E id st2 op = some (v, st2.rt) → ∃ rt3, opV E id st2 op = some (v, rt3) ∧ Lk H st.rt rt1 st2.rt rt3 := by
    rintro rfl h2
    exact ⟨_, h2, Lk.refl h⟩
  have hv : noRt op = false → ∀ {x : Operand} {u : V}, x ∈ op.operands.toList → ev st x = some u → ∀ o ∈ ids u, H o := fun hn _ _ hm hu o hi => ho o (by unfold opR; rw [hn]; exact opIds_mem hm hu hi)
  cases op with
  | move x =>
    simp only [opV, zqm, Prod.mk.injEq] at e
    obtain ⟨u, hu, rfl, rfl⟩ := e
    exact pure rfl (by simp [opV, hx x (by simp [Op.operands]), hu])
  | assign x =>
    simp only [opV, zqm, Prod.mk.injEq] at e
    obtain ⟨u, hu, rfl, rfl⟩ := e
    exact pure rfl (by simp [opV, hx x (by simp [Op.operands]), hu])
  | pick c a b =>
    simp only [opV, zqm, zqb, Prod.mk.injEq] at e
    obtain ⟨u, hu, y, hy, rfl, rfl⟩ := e
    refine pure rfl ?_
    simp only [opV, hx c (by simp [Op.operands]), hx a (by simp [Op.operands]), hx b (by simp [Op.operands]), hu, zqs]
    rw [hy]; rfl
  | alloc t =>
    simp only [opV, zqm, zqb, Prod.mk.injEq] at e
    obtain ⟨ti, hti, z, hz, rfl, rfl⟩ := e
    exact ⟨_, by simp [opV, hti, hz], (Lk.refl h).upd hid⟩
  | box t x =>
    simp only [opV, zqm, zqb, Prod.mk.injEq] at e
    obtain ⟨u, hu, ⟨y, ra⟩, hy, rfl, rfl⟩ := e
    obtain ⟨r3, h3, k3⟩ := absorb_lk h (hv rfl (by simp [Op.operands]) hu) hy
    exact ⟨_, by simp [opV, hx x (by simp [Op.operands]), hu, h3], k3.upd hid⟩
  | build t ps =>
    simp only [opV, zqm, zqb, Prod.mk.injEq] at e
    obtain ⟨u, hu, y, hy, rfl, rfl⟩ := e
    exact pure rfl (by simp [opV, evParts_ag (xs := ps.toList) fun x hm => hx x.2 (by simp [Op.operands]; exact ⟨x.1, by simpa using hm⟩), hu, hy])
  | buildSlice t n ps =>
    simp only [opV, zqb] at e
    obtain ⟨pv, hpv, e⟩ := e
    have hpv2 : evParts st2 ps.toList = some pv := by rw [evParts_ag (xs := ps.toList) fun x hm => hx x.2 (by simp [Op.operands]; exact ⟨x.1, by simpa using hm⟩), hpv]
    split at e
    · rename_i el sz bt zv htt
      simp only [zqb] at e
      obtain ⟨ei, hei, z, hz, e⟩ := e
      split at e
      · rename_i hc
        simp only [zqb, zqm, Prod.mk.injEq] at e
        obtain ⟨es, hes, ⟨ys, ra⟩, hys, rfl, rfl⟩ := e
        obtain ⟨r3, h3, k3⟩ := absorbEach_lk h (fun o hm => by
          obtain ⟨x, hxm, hi⟩ := idss_mem.1 hm
          rcases putEls_mem hes hxm with h1 | ⟨p, hp, rfl⟩
          · rw [List.eq_of_mem_replicate h1, ids_const hz] at hi
            cases hi
          · obtain ⟨q, hq, hqe⟩ := evParts_mem hpv hp
            exact hv rfl (x := q.2) (by simp [Op.operands]; exact ⟨q.1, by simpa using hq⟩) hqe o hi) hys
        refine ⟨_, ?_, k3.upd hid⟩
        simp only [opV, hpv2, zqs, htt, hei, hz]
        rw [if_pos hc, hes]
        simp only [zqs, h3]
        rfl
      · cases e
    · cases e
  | load t p =>
    simp only [opV, zqb] at e
    obtain ⟨ti, hti, pv, hp, cs, hc, e⟩ := e
    split at e
    · rename_i hcc
      simp only [zqm, Prod.mk.injEq] at e
      obtain ⟨y, hy, rfl, rfl⟩ := e
      refine pure rfl ?_
      simp only [opV, hti, zqs, hx p (by simp [Op.operands]), hp, from_ag h (hv rfl (by simp [Op.operands]) hp), hc]
      rw [if_pos hcc, hy]; rfl
    · cases e
  | store t p x =>
    simp only [opV, zqb, zqm, Prod.mk.injEq] at e
    obtain ⟨pv, hp, xv, hxv, ra, hs, rfl, rfl⟩ := e
    obtain ⟨r3, h3, k3⟩ := storeV_lk h (hv rfl (by simp [Op.operands]) hp) (hv rfl (by simp [Op.operands]) hxv) hs
    exact ⟨r3, by simp [opV, hx p (by simp [Op.operands]), hx x (by simp [Op.operands]), hp, hxv, h3], k3⟩
  | nilCheck x =>
    simp only [opV, zqb] at e
    obtain ⟨u, hu, e⟩ := e
    have hi := hv rfl (x := x) (by simp [Op.operands]) hu
    split at e
    · rename_i o nv p s i k
      split at e
      · rename_i hc
        cases e
        refine pure rfl ?_
        simp only [opV, hx x (by simp [Op.operands]), hu, zqs, look_ag h (hi o (by simp [ids]))]
        rw [if_pos hc]
      · cases e
    · cases e
      exact pure rfl (by simp [opV, hx x (by simp [Op.operands]), hu])
    · cases e
  | binOp op t x y t' =>
    simp only [opV, zqb, zqm, Prod.mk.injEq] at e
    obtain ⟨a, ha, b, hb', u, hu, rfl, rfl⟩ := e
    exact pure rfl (by simp [opV, hx x (by simp [Op.operands]), hx y (by simp [Op.operands]), ha, hb', hu])
  | unOp op t x =>
    simp only [opV, zqb, zqm, Prod.mk.injEq] at e
    obtain ⟨a, ha, u, hu, rfl, rfl⟩ := e
    exact pure rfl (by simp [opV, hx x (by simp [Op.operands]), ha, hu])
  | convert s d x =>
    simp only [opV, zqb, zqm, Prod.mk.injEq] at e
    obtain ⟨a, ha, u, hu, rfl, rfl⟩ := e
    refine pure rfl ?_
    have : convV E st2.rt s d a = convV E st.rt s d a := convV_ag h fun o ho => hv rfl (by simp [Op.operands]) ha o ho
    simp [opV, hx x (by simp [Op.operands]), ha, this, hu]
  | makeInterface t x =>
    simp only [opV, zqb] at e
    obtain ⟨a, ha, e⟩ := e
    split at e
    · rename_i hc
      cases hd : E.desc t with
      | none => simp [hd] at e
      | some d =>
        cases d <;> simp only [hd] at e <;> first
          | (cases e; done)
          | (simp only [Option.some.injEq, Prod.mk.injEq] at e
             obtain ⟨rfl, rfl⟩ := e
             refine pure rfl ?_
             simp only [opV, hx x (by simp [Op.operands]), ha, zqs, hd]
             rw [if_pos hc])
    · cases e
  | makeFunc fn first caps =>
    cases fn with
    | func f =>
      simp only [opV] at e
      split at e
      · rename_i h0
        simp only [zqb] at e
        obtain ⟨cs, hcs, e⟩ := e
        split at e
        · rename_i hc
          cases e
          refine pure rfl ?_
          simp only [opV]
          rw [if_pos h0, evs_ag fun x hm => hx x (by simp [Op.operands]; exact .inr (by simpa using hm)), hcs]
          simp only [zqs]
          rw [if_pos hc]
        · cases e
      · cases e
    | _ => simp [opV] at e
  | makeSlice t l c =>
    simp only [opV, zqb] at e
    obtain ⟨lv, hl, cv, hc, e⟩ := e
    split at e
    · rename_i el sz bt zv l' c' htt
      simp only [zqb] at e
      obtain ⟨ei, hei, z, hz, e⟩ := e
      split at e
      · rename_i hcc
        cases e
        refine ⟨_, ?_, (Lk.refl h).upd hid⟩
        simp only [opV, hx l (by simp [Op.operands]), hx c (by simp [Op.operands]), hl, hc, zqs, htt, hei, hz]
        rw [if_pos hcc]
      · cases e
    · cases e
  | slice t x lo hi m =>
    cases m with
    | some m => simp [opV] at e
    | none =>
      simp only [opV, zqb] at e
      obtain ⟨xv, hxv, l, hl, r, hr, e⟩ := e
      split at e
      · rename_i hal
        simp only [zqm, Prod.mk.injEq] at e
        obtain ⟨u, hu, rfl, rfl⟩ := e
        refine pure rfl ?_
        have h1 : sliceV E st2.rt t xv l r = sliceV E st.rt t xv l r := rfl
        simp only [opV, hx x (by simp [Op.operands]), hxv, zqs, evOpt_ag (x := lo) (fun y hy => hx y (by subst hy; simp [Op.operands])), evOpt_ag (x := hi) (fun y hy => hx y (by subst hy; simp [Op.operands])), hl, hr, alive_ag h (hv rfl (x := x) (by simp [Op.operands]) hxv)]
        rw [if_pos hal, h1, hu]; rfl
      · cases e
  | fieldAddr s x f =>
    simp only [opV, zqb] at e
    obtain ⟨xv, hxv, fl, hf, e⟩ := e
    have hi := hv rfl (x := x) (by simp [Op.operands]) hxv
    split at e
    · split at e
      · rename_i hc
        cases e
        refine pure rfl ?_
        simp only [opV, hx x (by simp [Op.operands]), hxv, hf, zqs]
        rw [if_pos hc]
      · cases e
    · rename_i o nv p sz i k
      split at e
      · rename_i hc
        cases e
        refine pure rfl ?_
        simp only [opV, hx x (by simp [Op.operands]), hxv, hf, zqs, look_ag h (hi o (by simp [ids]))]
        rw [if_pos hc]
      · cases e
    · cases e
  | field s x f =>
    simp only [opV, zqb] at e
    obtain ⟨xv, hxv, fl, hf, e⟩ := e
    split at e
    · split at e
      · rename_i hc
        simp only [zqm, Prod.mk.injEq] at e
        obtain ⟨u, hu, rfl, rfl⟩ := e
        refine pure rfl ?_
        simp only [opV, hx x (by simp [Op.operands]), hxv, hf, zqs]
        rw [if_pos hc, hu]; rfl
      · cases e
    · cases e
  | indexAddr t x i =>
    simp only [opV, zqb] at e
    obtain ⟨xv, hxv, iv, hiv, e⟩ := e
    split at e
    · split at e
      · rename_i hal
        simp only [zqm, Prod.mk.injEq] at e
        obtain ⟨u, hu, rfl, rfl⟩ := e
        refine pure rfl ?_
        simp only [opV, hx x (by simp [Op.operands]), hx i (by simp [Op.operands]), hxv, hiv, zqs, alive_ag h (hv rfl (x := x) (by simp [Op.operands]) hxv)]
        rw [if_pos hal, hu]; rfl
      · cases e
    · cases e
  | index t x i =>
    simp only [opV, zqb] at e
    obtain ⟨xv, hxv, iv, hiv, e⟩ := e
    split at e
    · simp only [zqm, Prod.mk.injEq] at e
      obtain ⟨u, hu, rfl, rfl⟩ := e
      exact pure rfl (by simp [opV, hx x (by simp [Op.operands]), hx i (by simp [Op.operands]), hxv, hiv, hu])
    · cases e
  | extract x i =>
    simp only [opV, zqb] at e
    obtain ⟨xv, hxv, e⟩ := e
    split at e
    · simp only [zqm, Prod.mk.injEq] at e
      obtain ⟨u, hu, rfl, rfl⟩ := e
      exact pure rfl (by simp [opV, hx x (by simp [Op.operands]), hxv, hu])
    · cases e
  | call c =>
    simp only [opV, callOp, zqb] at e
    obtain ⟨args, hargs, e⟩ := e
    have hargs2 : evs st2 c.args.toList = some args := by rw [evs_ag fun x hm => hx x (by simp [Op.operands, Call.operands]; exact .inr (by simpa using hm)), hargs]
    have hai : ∀ o ∈ idss args, H o := fun o hm => by
      obtain ⟨u, hu, hi⟩ := idss_mem.1 hm
      obtain ⟨x, hxm, hxe⟩ := evs_mem hargs hu
      exact hv rfl (by simp [Op.operands, Call.operands]; exact .inr (by simpa using hxm)) hxe o hi
    split at e
    · rename_i f hcal
      simp only [zqb] at e
      obtain ⟨fv, hf, e⟩ := e
      have hfm : f ∈ (Op.call c).operands.toList := by simp [Op.operands, Call.operands, hcal]
      have hfi := hv rfl hfm hf
      split at e
      · rename_i fid caps
        obtain ⟨r3, h3, k3⟩ := callV_lk h hb (args := args ++ caps) (fun o hm => by
          obtain ⟨u, hu, hi⟩ := idss_mem.1 hm
          rcases List.mem_append.1 hu with h1 | h1
          · exact hai o (idss_mem.2 ⟨u, h1, hi⟩)
          · exact hfi o (by simp only [ids]; exact idss_mem.2 ⟨u, h1, hi⟩)) e
        refine ⟨r3, ?_, k3⟩
        simp only [opV, callOp, hargs2, zqs, hcal, hx f hfm, hf]
        exact h3
      · cases e
    · rename_i b hcal
      simp only [opV, callOp, hargs2, zqs, hcal]
      unfold builtinV at e ⊢
      split at e
      · split at e
        · rename_i x hal
          simp only [zqb, zqm, Prod.mk.injEq] at e
          obtain ⟨t, ht, u, hu, rfl, rfl⟩ := e
          refine ⟨st2.rt, ?_, Lk.refl h⟩
          rw [alive_ag h fun o hm => hai o (by simpa [idss] using hm), if_pos hal, ht]
          simp [hu]
        · cases e
      · simp only [zqb] at e
        obtain ⟨t, ht, t1, ht1, e⟩ := e
        split at e
        · rename_i hs
          obtain ⟨r3, h3, k3⟩ := appendV_lk h hid (fun o hm => hai o (by simp [idss, hm])) (fun o hm => hai o (by simp [idss, hm])) e
          refine ⟨r3, ?_, k3⟩
          simp only [ht, ht1, zqs]
          rw [if_pos hs, h3]
        · cases e
      · simp only [zqb, zqm, Prod.mk.injEq] at e
        obtain ⟨t, ht, r1, hr1, rfl, rfl⟩ := e
        obtain ⟨r3, h3, k3⟩ := clearV_lk h (fun o hm => hai o (by simp [idss, hm])) hr1
        exact ⟨r3, by simp [ht, h3], k3⟩
      · simp only [zqm, Prod.mk.injEq] at e
        obtain ⟨u, hu, rfl, rfl⟩ := e
        exact ⟨st2.rt, by simp [hu], Lk.refl h⟩
      · simp only [zqm, Prod.mk.injEq] at e
        obtain ⟨u, hu, rfl, rfl⟩ := e
        exact ⟨st2.rt, by simp [hu], Lk.refl h⟩
      · cases e
    · cases e
  | _ => simp [opV] at e
end Go.Ln
namespace Go.Ln
open Go
def callW (E:Env)(rt:Store)(f:FuncId)(args:List V):List Nat:=
 match E.fn f with
 | some e=>(givenOf 0 e.own args).map (·.1)++(match (argsV rt e.own args).bind e.F with
  | some r=>if hasImm r.1||hasImms r.2 then lentOf e.own args else []
  | none=>[])
 | none=>[]
def appendW (rt:Store)(d x:V):List Nat:=
 ids d++(match x with
 | .hs o nv p _ off len=>(match look rt o nv p with
  | some y=>if ((y.2.drop off).take len).all flatE then [] else [o]
  | none=>[o])
 | _=>[])
def opW (E:Env)(st:St)(op:Op):List Nat:=
 match op with
 | .box _ _ | .buildSlice .. | .store ..=>opIds st op
 | .call c=>(match c.callee with
  | .value f=>(match ev st f,evs st c.args.toList with
   | some (.fn g caps),some args=>callW E st.rt g (args++caps)
   | _,_=>[])
  | .builtin .clear=>opIds st op
  | .builtin .append=>(match evs st c.args.toList with
   | some [d,x]=>appendW st.rt d x
   | _=>[])
  | _=>[])
 | _=>[]
theorem lookG_key {g:List Giv}{o:Nat}{x:Path×Nat×Nat}(h:lookG g o=some x):o∈g.map (·.1):=List.mem_map.2 ⟨(o,x),lookG_mem h,rfl⟩
theorem callV_w {E:Env}{rt rt1:Store}{id:Nat}{f:FuncId}{args:List V}{v:V}(e:callV E rt id f args=some (v,rt1)){o:Nat}(h:o∉callW E rt f args)(hb:¬(id≤o∧o<id+room)):rt1 o=rt o:=by
 simp only[callV,zqb] at e
 obtain⟨en,hen,e⟩:=e
 split at e
 ·simp only[zqb] at e
  obtain⟨xs,hxs,⟨r,os⟩,hF,e⟩:=e
  simp only at e
  split at e
  ·rename_i hroom
   simp only[Option.some.injEq,Prod.mk.injEq] at e
   obtain⟨_,rfl⟩:=e
   simp only[callW,hen,hxs,zqs,hF,List.mem_append,not_or] at h
   simp only[addRoots]
   rw[if_neg (by omega)]
   simp only[backSt]
   cases hg:lookG (givenOf 0 en.own args) o with
   | some x=>exact absurd (lookG_key hg) h.1
   | none=>
    have:¬(if (hasImm r||hasImms os)=true then lentOf en.own args else []).contains o=true:=by
     simpa using h.2
    simp only
    rw[if_neg this]
  ·cases e
 ·cases e
theorem takeEls_w {rt rt1:Store}{x:V}{es:List V}(e:takeEls rt x=some (es,rt1)){o:Nat}(h:o∉(match x with
 | .hs o nv p _ off len=>(match look rt o nv p with
  | some y=>if ((y.2.drop off).take len).all flatE then [] else [o]
  | none=>[o])
 | _=>[])):rt1 o=rt o:=by
 cases x with
 | isl n es=>simp only[takeEls,Option.some.injEq,Prod.mk.injEq] at e;rw[e.2]
 | hs o' nv p s off len=>
  simp only[takeEls,zqb] at e
  obtain⟨y,hy,e⟩:=e
  simp only[hy] at h
  split at e
  ·split at e
   ·cases e
   ·split at e
    ·cases e;rfl
    ·rename_i hf
     rw[if_neg hf] at h
     split at e
     ·cases e
      have:o≠o':=by simpa using h
      simp[upd,this]
     ·cases e
  ·cases e
 | _=>simp[takeEls] at e
theorem absorbCell_w {rt rt1:Store}{d u:V}(e:absorbCell rt d=some (u,rt1)){o:Nat}(h:o∉ids d):rt1 o=rt o:=by
 obtain⟨rt3,h3,k⟩:=absorbCell_lk (H:=fun x=>x∈ids d) (rt2:=rt) (fun _ _=>rfl) (fun _ h=>h) e
 exact ((k o).2 h).2
theorem opV_w {E:Env}{id:Nat}{st:St}{op:Op}{v:V}{rt1:Store}(e:opV E id st op=some (v,rt1)){o:Nat}(h:o∉opW E st op)(hb:¬(id≤o∧o<id+room)):rt1 o=st.rt o:=by
 have all:o∉opR st op→rt1 o=st.rt o:=fun hn=>by
  obtain⟨rt3,h3,k⟩:=opV_lk (H:=fun x=>x∈opR st op∨(id≤x∧x<id+room)) (st2:=st) (fun o h1 h2=>.inr ⟨h1,h2⟩) (fun o h=>.inl h) (fun _ _=>rfl) (fun _ _=>rfl) e
  exact ((k o).2 (by rintro (h | h);exact hn h;exact hb h)).2
 cases op with
 | box t x=>exact all (by simpa[opR,noRt,opW] using h)
 | buildSlice t n ps=>exact all (by simpa[opR,noRt,opW] using h)
 | store t p x=>exact all (by simpa[opR,noRt,opW] using h)
 | call c=>
  simp only[opV,callOp,zqb] at e
  obtain⟨args,hargs,e⟩:=e
  split at e
  ·rename_i f hcal
   simp only[zqb] at e
   obtain⟨fv,hf,e⟩:=e
   split at e
   ·rename_i fid caps
    simp only[opW,hcal,hf,hargs] at h
    exact callV_w e h hb
   ·cases e
  ·rename_i b hcal
   unfold builtinV at e
   split at e
   ·split at e
    ·simp only[zqb,zqm,Prod.mk.injEq] at e
     obtain⟨t,ht,u,hu,_,rfl⟩:=e
     rfl
    ·cases e
   ·simp only[zqb] at e
    obtain⟨t,ht,t1,ht1,e⟩:=e
    split at e
    ·rename_i d x _
     simp only[opW,hcal,hargs,appendW,List.mem_append,not_or] at h
     unfold appendV at e
     split at e
     ·simp only[zqb] at e
      obtain⟨ei,hei,⟨es,ra⟩,hes,e⟩:=e
      have h1:=takeEls_w hes h.2
      have hid:o≠id:=by rintro rfl;exact hb ⟨Nat.le_refl _,by unfold room;omega⟩
      split at e
      ·split at e
       ·split at e
        ·simp only[Option.some.injEq,Prod.mk.injEq] at e
         obtain⟨_,rfl⟩:=e
         simpa[upd,hid] using h1
        ·cases e
       ·simp only[zqb] at e
        obtain⟨z,hz,e⟩:=e
        split at e
        ·simp only[zqm,Prod.mk.injEq] at e
         obtain⟨⟨u1,u2⟩,hu,_,rfl⟩:=e
         have h2:=absorbCell_w hu h.1
         simp only[upd,if_neg hid]
         rw[h2,h1]
        ·cases e
       ·cases e
      ·cases e
     ·cases e
    ·cases e
   ·exact all (by simpa[opR,noRt,opW,hcal] using h)
   ·simp only[zqm,Prod.mk.injEq] at e
    obtain⟨u,hu,_,rfl⟩:=e
    rfl
   ·simp only[zqm,Prod.mk.injEq] at e
    obtain⟨u,hu,_,rfl⟩:=e
    rfl
   ·cases e
  ·cases e
 | alloc t=>
  simp only[opV,zqm,zqb,Prod.mk.injEq] at e
  obtain⟨ti,hti,z,hz,_,rfl⟩:=e
  have hid:o≠id:=by rintro rfl;exact hb ⟨Nat.le_refl _,by unfold room;omega⟩
  simp[upd,hid]
 | makeSlice t l c=>exact all (by simp[opR,noRt])
 | nilCheck x=>
  simp only[opV,zqb] at e
  obtain⟨u,hu,e⟩:=e
  split at e
  ·split at e<;>cases e;rfl
  ·cases e;rfl
  ·cases e
 | load t p=>
  simp only[opV,zqb] at e
  obtain⟨ti,hti,pv,hp,cs,hc,e⟩:=e
  split at e
  ·simp only[zqm,Prod.mk.injEq] at e
   obtain⟨y,hy,_,rfl⟩:=e
   rfl
  ·cases e
 | slice t x lo hi m=>
  cases m with
  | some m=>simp[opV] at e
  | none=>
   simp only[opV,zqb] at e
   obtain⟨xv,hxv,l,hl,r,hr,e⟩:=e
   split at e
   ·simp only[zqm,Prod.mk.injEq] at e
    obtain⟨u,hu,_,rfl⟩:=e
    rfl
   ·cases e
 | fieldAddr s x f=>
  simp only[opV,zqb] at e
  obtain⟨xv,hxv,fl,hf,e⟩:=e
  split at e
  ·split at e<;>cases e;rfl
  ·split at e<;>cases e;rfl
  ·cases e
 | indexAddr t x i=>
  simp only[opV,zqb] at e
  obtain⟨xv,hxv,iv,hiv,e⟩:=e
  split at e
  ·split at e
   ·simp only[zqm,Prod.mk.injEq] at e
    obtain⟨u,hu,_,rfl⟩:=e
    rfl
   ·cases e
  ·cases e
 | makeInterface t x=>exact all (by simp[opR,noRt])
 | makeFunc a b c=>exact all (by simp[opR,noRt])
 | move x=>exact all (by simp[opR,noRt])
 | assign x=>exact all (by simp[opR,noRt])
 | pick a b c=>exact all (by simp[opR,noRt])
 | build a b=>exact all (by simp[opR,noRt])
 | binOp a b c d e=>exact all (by simp[opR,noRt])
 | unOp a b c=>exact all (by simp[opR,noRt])
 | convert a b c=>
  simp only[opV,zqb,zqm,Prod.mk.injEq] at e
  obtain⟨y,hy,u,hu,_,rfl⟩:=e
  rfl
 | field a b c=>exact all (by simp[opR,noRt])
 | index a b c=>exact all (by simp[opR,noRt])
 | extract a b=>exact all (by simp[opR,noRt])
 | _=>simp[opV] at e
end Go.Ln
namespace Go.Ln
open Go
theorem appendW_sub {rt:Store}{d x:V}{o:Nat}(h:o∈appendW rt d x):o∈ids d∨o∈ids x:=by
 simp only[appendW,List.mem_append] at h
 refine h.imp id fun h=>?_
 split at h
 ·split at h
  ·split at h
   ·cases h
   ·simpa[ids] using h
  ·simpa[ids] using h
 ·cases h
theorem callW_sub {E:Env}{rt:Store}{f:FuncId}{args:List V}{o:Nat}(h:o∈callW E rt f args):o∈idss args:=by
 unfold callW at h
 split at h
 ·simp only[List.mem_append] at h
  rcases h with h | h
  ·obtain⟨⟨o',p,a,k⟩,hg,rfl⟩:=List.mem_map.1 h
   obtain⟨a,v,k,y,h1,h2,h3,h4,h5⟩:=givenOf_mem.1 hg
   exact idss_mem.2 ⟨v,zqo h2,hid_ids h3 h4⟩
  ·split at h
   ·split at h
    ·exact lentOf_sub h
    ·cases h
   ·cases h
 ·cases h
theorem opW_sub {E:Env}{st:St}{op:Op}{o:Nat}(h:o∈opW E st op):o∈opR st op:=by
 cases op with
 | box t x=>simpa[opR,noRt,opW] using h
 | buildSlice t n ps=>simpa[opR,noRt,opW] using h
 | store t p x=>simpa[opR,noRt,opW] using h
 | call c=>
  have e:opR st (.call c)=opIds st (.call c):=rfl
  rw[e]
  simp only[opW] at h
  split at h
  ·rename_i f hcal
   split at h
   ·rename_i g caps args hf hargs
    obtain⟨v,hv,ho⟩:=idss_mem.1 (callW_sub h)
    rcases List.mem_append.1 hv with h1 | h1
    ·obtain⟨x,hx,hxe⟩:=evs_mem hargs h1
     exact opIds_mem (by simp[Op.operands,Call.operands];exact .inr (by simpa using hx)) hxe ho
    ·exact opIds_mem (x:=f) (by simp[Op.operands,Call.operands,hcal]) hf (by simp only[ids];exact idss_mem.2 ⟨v,h1,ho⟩)
   ·cases h
  ·exact h
  ·split at h
   ·rename_i d x hargs
    rcases appendW_sub h with h1 | h1
    ·obtain⟨y,hy,hye⟩:=evs_mem hargs (v:=d) (by simp)
     exact opIds_mem (by simp[Op.operands,Call.operands];exact .inr (by simpa using hy)) hye h1
    ·obtain⟨y,hy,hye⟩:=evs_mem hargs (v:=x) (by simp)
     exact opIds_mem (by simp[Op.operands,Call.operands];exact .inr (by simpa using hy)) hye h1
   ·cases h
  ·cases h
 | _=>simp[opW] at h
def modeFree (e:Edge):Bool:=
 match e.ground with
 | .textOnly _=>false
 | .gcOnly _=>false
 | _=>true
def pre (o:Oper):List Nat:=(o.after.toList.filter modeFree).map (·.on)
def maskF (ms:List Nat):List Nat→Nat→Nat
 | [],m=>m
 | j::l,m=>maskF ms l (m ||| (2 ^ j) ||| ms.getD j 0)
def maskOf (ms:List Nat)(o:Oper):Nat:=maskF ms (pre o) 0
def opTmps (op:Op):List Nat:=op.operands.toList.filterMap fun
 | .tmp t=>some t
 | _=>none
def guardTmp (ops:Array Oper)(o:Oper):List Nat:=
 match o.guard with
 | some (j,_)=>((ops[j]?).bind (·.dst)).toList
 | none=>[]
def looks (ops:Array Oper)(o:Oper):List Nat:=opTmps o.op++guardTmp ops o
def apartT (l:List Nat):Option Nat→Bool
 | some d=>!l.contains d
 | none=>true
def apartD:Option Nat→Option Nat→Bool
 | some a,some b=>a != b
 | _,_=>true
def static (ops:Array Oper)(ms:List Nat):Bool:=
 (List.range ops.size).all fun i=>match ops[i]? with
  | none=>false
  | some oi=>(pre oi).all (fun j=>decide (j<i))&&(ms.getD i 0==maskOf ms oi)&&(List.range i).all fun j=>match ops[j]? with
   | none=>false
   | some oj=>(ms.getD i 0).testBit j||(apartT (looks ops oi) oj.dst&&apartT (looks ops oj) oi.dst&&apartD oi.dst oj.dst)
theorem maskF_bit {ms:List Nat}{j:Nat}:∀{l:List Nat} {m:Nat},(maskF ms l m).testBit j=true→m.testBit j=true∨∃k∈l,j=k∨(ms.getD k 0).testBit j=true
 | [],m,h=>.inl h
 | k::l,m,h=>by
  rcases maskF_bit (l:=l) h with h1 | ⟨k',hk,h1⟩
  ·simp only[Nat.testBit_or,Bool.or_eq_true,Nat.testBit_two_pow,decide_eq_true_eq] at h1
   rcases h1 with (h1 | h1) | h1
   ·exact .inl h1
   ·exact .inr ⟨k,by simp,.inl h1.symm⟩
   ·exact .inr ⟨k,by simp,.inr h1⟩
  ·exact .inr ⟨k',List.mem_cons_of_mem _ hk,h1⟩
structure StOk (ops:Array Oper) (ms:List Nat) (i:Nat) (oi:Oper):Prop where
 pre:∀j∈pre oi,j<i
 mask:ms.getD i 0=maskOf ms oi
 pair:∀j,j<i→∀oj,ops[j]?=some oj→(ms.getD i 0).testBit j=true∨(apartT (looks ops oi) oj.dst=true∧apartT (looks ops oj) oi.dst=true∧apartD oi.dst oj.dst=true)
theorem static_spec {ops:Array Oper}{ms:List Nat}(h:static ops ms=true){i:Nat}{oi:Oper}(hi:ops[i]?=some oi):StOk ops ms i oi:=by
 unfold static at h
 rw[List.all_eq_true] at h
 have:=h i (List.mem_range.2 (zqa.1 hi).1)
 simp only[hi,Bool.and_eq_true,List.all_eq_true,decide_eq_true_eq,beq_iff_eq] at this
 obtain⟨⟨h1,h2⟩,h3⟩:=this
 refine⟨h1,h2,fun j hj oj hoj=>?_⟩
 have:=h3 j (List.mem_range.2 hj)
 simp only[hoj,Bool.or_eq_true,Bool.and_eq_true] at this
 rcases this with h | ⟨⟨h,h'⟩,h''⟩
 ·exact .inl h
 ·exact .inr ⟨h,h',h''⟩
def blk (base j o:Nat):Prop:=base+room*j≤o∧o<base+room*(j+1)
theorem blk_inj {base j j' o:Nat}(h:blk base j o)(h':blk base j' o):j=j':=by
 unfold blk room at *
 omega
structure Trace (E:Env) (ops:Array Oper) (ms:List Nat) (base:Nat) (sq:Nat→St) (R W:Nat→List Nat):Prop where
 step:∀i,i<ops.size→∃o b,ops[i]?=some o∧wantV ops (sq i) o=some b∧R i=(if b then opR (sq i) o.op else [])∧W i=(if b then opW E (sq i) o.op else [])∧stepV E ops (base+room*i) (sq i) i=some (sq (i+1))
 own:∀i,i<ops.size→∀x∈R i,x<base∨∃j,(ms.getD i 0).testBit j=true∧blk base j x
 apart:∀j i,j<i→i<ops.size→(ms.getD i 0).testBit j=true∨((∀x∈W j,x∉R i)∧∀x∈W i,x∉R j)
section
variable {E : Env} {ops : Array Oper} {ms : List Nat} {base : Nat} {sq : Nat→St} {R W : Nat→List Nat}
def wT (ops:Array Oper)(j t:Nat):Prop:=∃o,ops[j]?=some o∧o.dst=some t
def wR (W:Nat→List Nat)(base j o:Nat):Prop:=o∈W j∨blk base j o
structure Inv (ops:Array Oper) (base:Nat) (sq:Nat→St) (W:Nat→List Nat) (S:Nat→Prop) (σ:St):Prop where
 nx:σ.nx=(sq 0).nx
 len:σ.tm.length=(sq 0).tm.length
 tm:∀t k,k≤ops.size→(∀j,j<k→wT ops j t→S j)→(∀j,k≤j→j<ops.size→wT ops j t→¬S j)→σ.tm[t]?=(sq k).tm[t]?
 rt:∀o k,k≤ops.size→(∀j,j<k→wR W base j o→S j)→(∀j,k≤j→j<ops.size→wR W base j o→¬S j)→σ.rt o=(sq k).rt o
theorem putT_at {tm:List V}{d:Option Nat}{v:V}{t:Nat}(h:d=some t):(putT tm d v)[t]?=if t<tm.length then some v else none:=by
 subst h
 simp only[putT]
 by_cases hl:t<tm.length
 ·rw[if_pos hl,List.getElem?_set_self hl]
 ·rw[if_neg hl,List.getElem?_eq_none (by simpa using hl)]
theorem putT_ne {tm:List V}{d:Option Nat}{v:V}{t:Nat}(h:d≠some t):(putT tm d v)[t]?=tm[t]?:=by
 cases d with
 | none=>rfl
 | some d=>simp only[putT];rw[List.getElem?_set_ne (by simpa using h)]
theorem stepV_parts {id i:Nat}{st st':St}{o:Oper}{b:Bool}(ho:ops[i]?=some o)(hb:wantV ops st o=some b)(h:stepV E ops id st i=some st') :
  ∃v,st'={ st with tm:=putT st.tm o.dst v,rt:=st'.rt }∧((b=true∧opV E id st o.op=some (v,st'.rt))∨(b=false∧v=.und∧st'.rt=st.rt)):=by
 unfold stepV at h
 simp only[ho,hb,zqs] at h
 cases b with
 | true=>
  simp only[if_true,zqm] at h
  obtain⟨⟨v,rt'⟩,hv,rfl⟩:=h
  exact⟨v,rfl,.inl ⟨rfl,hv⟩⟩
 | false=>
  simp only[Bool.false_eq_true,if_false,Option.some.injEq] at h
  subst h
  exact⟨.und,rfl,.inr ⟨rfl,rfl,rfl⟩⟩
theorem Trace.tmF (T:Trace E ops ms base sq R W){i t:Nat}(hi:i<ops.size)(h:¬wT ops i t):(sq (i+1)).tm[t]?=(sq i).tm[t]?:=by
 obtain⟨o,b,h1,h2,_,_,h5⟩:=T.step i hi
 obtain⟨v,h6,_⟩:=stepV_parts h1 h2 h5
 rw[h6]
 exact putT_ne fun hd=>h ⟨o,h1,hd⟩
theorem Trace.len (T:Trace E ops ms base sq R W){i:Nat}(hi:i≤ops.size):(sq i).tm.length=(sq 0).tm.length:=by
 induction i with
 | zero=>rfl
 | succ i ih=>
  obtain⟨o,b,h1,h2,_,_,h5⟩:=T.step i (by omega)
  obtain⟨v,h6,_⟩:=stepV_parts h1 h2 h5
  rw[h6]
  simp only[putT_len]
  exact ih (by omega)
theorem Trace.nx (T:Trace E ops ms base sq R W){i:Nat}(hi:i≤ops.size):(sq i).nx=(sq 0).nx:=by
 induction i with
 | zero=>rfl
 | succ i ih=>
  obtain⟨o,b,h1,h2,_,_,h5⟩:=T.step i (by omega)
  obtain⟨v,h6,_⟩:=stepV_parts h1 h2 h5
  rw[h6]
  exact ih (by omega)
theorem Trace.rtF (T:Trace E ops ms base sq R W){i o:Nat}(hi:i<ops.size)(h:¬wR W base i o):(sq (i+1)).rt o=(sq i).rt o:=by
 obtain⟨op,b,h1,h2,_,h4,h5⟩:=T.step i hi
 obtain⟨v,_,h6 | h6⟩:=stepV_parts h1 h2 h5
 ·rw[if_pos h6.1] at h4
  refine opV_w h6.2 (fun hw=>h (.inl (by rw[h4];exact hw))) fun hb=>h (.inr ?_)
  unfold blk
  exact⟨hb.1,by have:=hb.2;rw[Nat.mul_add];omega⟩
 ·rw[h6.2.2]
theorem Trace.tmS (T : Trace E ops ms base sq R W){t a b : Nat}(hab : a ≤ b)(hb : b ≤ ops.size)(h : ∀ j, a ≤ j → j < b → ¬ wT ops j t) : (sq b).tm[t]? = (sq a).tm[t]? := by
  induction b with
  | zero => have : a = 0 := by omega
            subst this; rfl
  | succ b ih =>
    by_cases he : a = b + 1
    · subst he; rfl
    · rw [T.tmF (by omega) (h b (by omega) (by omega))]
      exact ih (by omega) (by omega) fun j h1 h2 => h j h1 (by omega)
theorem Trace.rtS (T : Trace E ops ms base sq R W){o a b : Nat}(hab : a ≤ b)(hb : b ≤ ops.size)(h : ∀ j, a ≤ j → j < b → ¬ wR W base j o) : (sq b).rt o = (sq a).rt o := by
  induction b with
  | zero => have : a = 0 := by omega
            subst this; rfl
  | succ b ih =>
    by_cases he : a = b + 1
    · subst he; rfl
    · rw [T.rtF (by omega) (h b (by omega) (by omega))]
      exact ih (by omega) (by omega) fun j h1 h2 => h j h1 (by omega)
theorem Inv.init (T:Trace E ops ms base sq R W):Inv ops base sq W (fun _=>False) (sq 0):=
 ⟨rfl,rfl,fun t k hk h1 _=>(T.tmS (Nat.zero_le _) hk fun j _ hj hw=>h1 j hj hw).symm,fun o k hk h1 _=>(T.rtS (Nat.zero_le _) hk fun j _ hj hw=>h1 j hj hw).symm⟩
theorem Inv.final (T:Trace E ops ms base sq R W){S:Nat→Prop}{σ:St}(I:Inv ops base sq W S σ)(h:∀j,j<ops.size→S j):σ=sq ops.size:=by
 have h1:σ.tm=(sq ops.size).tm:=List.ext_getElem? fun t=>I.tm t ops.size (Nat.le_refl _) (fun j hj _=>h j hj) fun j h1 h2=>absurd h2 (by omega)
 have h2:σ.rt=(sq ops.size).rt:=funext fun o=>I.rt o ops.size (Nat.le_refl _) (fun j hj _=>h j hj) fun j h1 h2=>absurd h2 (by omega)
 have h3:σ.nx=(sq ops.size).nx:=by rw[I.nx,T.nx (Nat.le_refl _)]
 cases σ
 simp only at h1 h2 h3
 rw[h1,h2,h3]
def Closed (ops:Array Oper)(S:Nat→Prop):Prop:=∀i o,ops[i]?=some o→S i→∀j∈pre o,S j
theorem anc_in (hs:static ops ms=true){S:Nat→Prop}(hc:Closed ops S):∀{i:Nat} {o:Oper},ops[i]?=some o→(∀j∈pre o,S j)→∀j,(ms.getD i 0).testBit j=true→S j∧j<i:=by
 intro i
 induction i using Nat.strongRecOn with
 | _ i ih=>
  intro o ho hp j hj
  have so:=static_spec hs ho
  rw[so.mask] at hj
  rcases maskF_bit hj with h | ⟨k,hk,h⟩
  ·simp at h
  ·have hki:=so.pre k hk
   rcases h with rfl | h
   ·exact⟨hp _ hk,hki⟩
   ·have hlt:k<ops.size:=by have:=(zqa.1 ho).1;omega
    obtain⟨h1,h2⟩:=ih k hki (Array.getElem?_eq_getElem hlt) (fun x hx=>hc k _ (Array.getElem?_eq_getElem hlt) (hp k hk) x hx) j h
    exact⟨h1,by omega⟩
end
end Go.Ln
namespace Go.Ln
open Go
variable {E : Env} {ops : Array Oper} {ms : List Nat} {base : Nat} {sq : Nat→St} {R W : Nat→List Nat}
theorem ev_tm {st st2:St}{x:Operand}(h:∀t,x=.tmp t→st2.tm[t]?=st.tm[t]?):ev st2 x=ev st x:=by
 cases x with
 | tmp t=>exact h t rfl
 | _=>rfl
theorem want_tm {st st2:St}{o:Oper}(h:∀t∈guardTmp ops o,st2.tm[t]?=st.tm[t]?):wantV ops st2 o=wantV ops st o:=by
 unfold wantV
 cases hg:o.guard with
 | none=>rfl
 | some g=>
  obtain⟨j,w⟩:=g
  simp only
  have:yieldV ops st2 j=yieldV ops st j:=by
   unfold yieldV
   cases hd:(ops[j]?).bind (·.dst) with
   | none=>rfl
   | some d=>
    simp only[zqs]
    rw[h d (by simp[guardTmp,hg,hd])]
  rw[this]
theorem apartT_not {l:List Nat}{d:Option Nat}{t:Nat}(h:apartT l d=true)(hd:d=some t):t∉l:=by
 subst hd
 simpa[apartT] using h
theorem inv_step (hs:static ops ms=true)(T:Trace E ops ms base sq R W){S:Nat→Prop}{σ:St}(I:Inv ops base sq W S σ)(hc:Closed ops S){i:Nat}{oi:Oper}(hi:ops[i]?=some oi)(hni:¬S i)(hp:∀j∈pre oi,S j) :
  ∃σ',stepV E ops (base+room*i) σ i=some σ'∧Inv ops base sq W (fun j=>S j∨j=i) σ':=by
 have hin:i<ops.size:=(zqa.1 hi).1
 have anc:∀j,(ms.getD i 0).testBit j=true→S j∧j<i:=anc_in hs hc hi hp
 have so:=static_spec hs hi
 have ops_get:∀j,j<ops.size→∃oj,ops[j]?=some oj:=fun j hj=>⟨_,Array.getElem?_eq_getElem hj⟩
 -- behind 'i' nothing that hangs on it has been done
 have later:∀j,j<ops.size→S j→(ms.getD j 0).testBit i=true→False:=fun j hj hS hb=>by
  obtain⟨oj,hoj⟩:=ops_get j hj
  exact hni (anc_in hs hc hoj (fun k hk=>hc j oj hoj hS k hk) i hb).1
 have bitlt:∀j,j<ops.size→∀k,(ms.getD j 0).testBit k=true→k<j:=fun j hj k hb=>by
  obtain⟨oj,hoj⟩:=ops_get j hj
  exact (anc_in hs (S:=fun _=>True) (fun _ _ _ _ _ _=>trivial) hoj (fun _ _=>trivial) k hb).2
 obtain⟨o,b,h1,h2,hR,hW,h5⟩:=T.step i hin
 rw[hi] at h1
 cases h1
 -- the operands
 have tmEq:∀t∈looks ops oi,σ.tm[t]?=(sq i).tm[t]?:=fun t ht=>by
  refine I.tm t i (Nat.le_of_lt hin) (fun j hj hw=>?_) (fun j hij hjn hw hS=>?_)
  ·obtain⟨oj,hoj,hd⟩:=hw
   rcases so.pair j hj oj hoj with h | ⟨h,_,_⟩
   ·exact (anc j h).1
   ·exact absurd ht (apartT_not h hd)
  ·obtain⟨oj,hoj,hd⟩:=hw
   by_cases he:j=i
   ·subst he;exact hni hS
   ·rcases (static_spec hs hoj).pair i (by omega) oi hi with h | ⟨_,h,_⟩
    ·exact later j hjn hS h
    ·exact absurd ht (apartT_not h hd)
 have hwant:wantV ops σ oi=some b:=by
  rw[want_tm fun t ht=>tmEq t (by simp[looks,ht]),h2]
 have hev:∀x∈oi.op.operands.toList,ev σ x=ev (sq i) x:=fun x hx=>ev_tm fun t ht=>tmEq t (by
  subst ht
  simp only[looks,List.mem_append]
  exact .inl (List.mem_filterMap.2 ⟨_,hx,rfl⟩))
 -- the rows
 have sub:∀j,j<ops.size→∀x∈W j,x∈R j:=fun j hj x hx=>by
  obtain⟨oj,bj,_,_,hRj,hWj,_⟩:=T.step j hj
  rw[hWj] at hx
  rw[hRj]
  cases bj with
  | true=>exact opW_sub hx
  | false=>cases hx
 let H:Nat→Prop:=fun x=>x∈R i∨blk base i x
 have other:∀j,j<ops.size→j≠i→∀x,H x→wR W base j x→(j<i∧S j)∨(i<j∧¬S j):=by
  intro j hj hne x hH hw
  rcases Nat.lt_or_gt_of_ne hne with hlt | hgt
  ·left
   refine⟨hlt,?_⟩
   rcases hw with hw | hw<;>rcases hH with hH | hH
   ·rcases T.apart j i hlt hin with h | ⟨h,_⟩
    ·exact (anc j h).1
    ·exact absurd hH (h x hw)
   ·exfalso
    rcases T.own j hj x (sub j hj x hw) with h | ⟨k,hk,hb⟩
    ·have:=hH.1;omega
    ·have:=blk_inj hb hH
     subst this
     have:=bitlt j hj k hk
     omega
   ·rcases T.own i hin x hH with h | ⟨k,hk,hb⟩
    ·have:=hw.1;omega
    ·have:=blk_inj hb hw
     subst this
     exact (anc k hk).1
   ·exact absurd (blk_inj hw hH) hne
  ·right
   refine⟨hgt,fun hS=>?_⟩
   rcases hw with hw | hw<;>rcases hH with hH | hH
   ·rcases T.apart i j hgt hj with h | ⟨_,h⟩
    ·exact later j hj hS h
    ·exact h x hw hH
   ·rcases T.own j hj x (sub j hj x hw) with h | ⟨k,hk,hb⟩
    ·have:=hH.1;omega
    ·have:=blk_inj hb hH
     subst this
     exact later j hj hS hk
   ·rcases T.own i hin x hH with h | ⟨k,hk,hb⟩
    ·have:=hw.1;omega
    ·have:=blk_inj hb hw
     subst this
     have:=bitlt i hin k hk
     omega
   ·exact absurd (blk_inj hw hH) hne
 have ag:Ag H (sq i).rt σ.rt:=fun x hx=>by
  refine I.rt x i (Nat.le_of_lt hin) (fun j hj hw=>?_) (fun j hij hjn hw hS=>?_)
  ·rcases other j (by omega) (by omega) x hx hw with h | h
   ·exact h.2
   ·omega
  ·by_cases he:j=i
   ·subst he;exact hni hS
   ·rcases other j hjn he x hx hw with h | h
    ·omega
    ·exact h.2 hS
 obtain⟨v,hsq,hcase⟩:=stepV_parts hi h2 h5
 have hstep:∃rt3,stepV E ops (base+room*i) σ i=some { σ with tm:=putT σ.tm oi.dst v,rt:=rt3 }∧Lk H (sq i).rt (sq (i+1)).rt σ.rt rt3:=by
  rcases hcase with⟨hb,hop⟩ | ⟨hb,hv,hrt⟩
  ·subst hb
   simp only[if_true] at hR
   obtain⟨rt3,h3,k3⟩:=opV_lk (H:=H) (fun x h1 h2=>.inr ⟨h1,by rw[Nat.mul_add];omega⟩) (fun x hx=>.inl (by rw[hR];exact hx)) hev ag hop
   refine⟨rt3,?_,k3⟩
   unfold stepV
   simp only[hi,hwant,zqs,if_true,h3,Option.map_some]
  ·subst hb
   refine⟨σ.rt,?_,?_⟩
   ·unfold stepV
    simp only[hi,hwant,zqs,Bool.false_eq_true,if_false,hv]
   ·rw[hrt];exact Lk.refl ag
 obtain⟨rt3,h3,k3⟩:=hstep
 have wH:∀x,wR W base i x→H x:=fun x hw=>hw.imp (sub i hin x) id
 refine⟨_,h3,⟨I.nx,by simp only[putT_len];exact I.len,fun t k hk q1 q2=>?_,fun x k hk q1 q2=>?_⟩⟩
 ·by_cases hd:oi.dst=some t
  ·have hik:i<k:=Nat.lt_of_not_le fun hle=>q2 i hle hin ⟨oi,hi,hd⟩ (.inr rfl)
   have e1:(sq k).tm[t]?=(sq (i+1)).tm[t]?:=T.tmS hik hk fun j hj1 hj2 hw=>by
    have hS:S j:=(q1 j hj2 hw).resolve_right (by omega)
    obtain⟨oj,hoj,hdj⟩:=hw
    rcases (static_spec hs hoj).pair i (by omega) oi hi with h | ⟨_,_,h⟩
    ·exact later j (by omega) hS h
    ·rw[hd,hdj] at h
     simp[apartD] at h
   rw[e1,hsq]
   simp only
   rw[putT_at hd,putT_at hd,I.len,T.len (Nat.le_of_lt hin)]
  ·simp only
   rw[putT_ne hd]
   exact I.tm t k hk (fun j hj hw=>(q1 j hj hw).resolve_right (by
    rintro rfl
    obtain⟨oj,hoj,hdj⟩:=hw
    rw[hi] at hoj
    cases hoj
    exact hd hdj)) (fun j hj1 hj2 hw hS=>q2 j hj1 hj2 hw (.inl hS))
 ·simp only
  by_cases hH:H x
  ·rw[(k3 x).1 hH]
   by_cases hw:wR W base i x
   ·have hik:i<k:=Nat.lt_of_not_le fun hle=>q2 i hle hin hw (.inr rfl)
    refine (T.rtS hik hk fun j hj1 hj2 hwj=>?_).symm
    have hS:S j:=(q1 j hj2 hwj).resolve_right (by omega)
    rcases other j (by omega) (by omega) x hH hwj with h | h
    ·omega
    ·exact h.2 hS
   ·rw[T.rtF hin hw,←ag x hH]
    exact I.rt x k hk (fun j hj hwj=>(q1 j hj hwj).resolve_right (by rintro rfl;exact hw hwj)) (fun j hj1 hj2 hwj hS=>q2 j hj1 hj2 hwj (.inl hS))
  ·rw[((k3 x).2 hH).1]
   exact I.rt x k hk (fun j hj hwj=>(q1 j hj hwj).resolve_right (by rintro rfl;exact hH (wH x hwj))) (fun j hj1 hj2 hwj hS=>q2 j hj1 hj2 hwj (.inl hS))
def opsV (E:Env)(ops:Array Oper)(base:Nat):List Nat→St→Option St
 | [],st=>some st
 | i::is,st=>(stepV E ops (base+room*i) st i).bind (opsV E ops base is)
def Topo (ops:Array Oper):(Nat→Prop)→List Nat→Prop
 | S,[]=>∀j,j<ops.size→S j
 | S,i::is=>¬S i∧(∃o,ops[i]?=some o∧∀j∈pre o,S j)∧Topo ops (fun j=>S j∨j=i) is
theorem topo_run (hs:static ops ms=true)(T:Trace E ops ms base sq R W):∀{is:List Nat} {S:Nat→Prop} {σ:St},Inv ops base sq W S σ→Closed ops S→Topo ops S is→opsV E ops base is σ=some (sq ops.size)
 | [],S,σ,I,hc,ht=>by
  have:=I.final T ht
  subst this
  rfl
 | i::is,S,σ,I,hc,ht=>by
  obtain⟨hni,⟨o,ho,hp⟩,ht⟩:=ht
  obtain⟨σ',h1,I'⟩:=inv_step hs T I hc ho hni hp
  simp only[opsV,h1,zqs]
  refine topo_run hs T I' (fun j oj hoj hS k hk=>?_) ht
  rcases hS with hS | rfl
  ·exact .inl (hc j oj hoj hS k hk)
  ·rw[ho] at hoj
   cases hoj
   exact .inl (hp k hk)
theorem binds_any {e:Edge}:Region.binds .any e=modeFree e:=by
 unfold Region.binds modeFree
 cases e.ground<;>rfl
theorem pre_binds {o:Oper}{j:Nat}:j∈pre o↔∃e∈o.after,Region.binds .any e=true∧e.on=j:=by
 unfold pre
 simp only[List.mem_map,List.mem_filter,Array.mem_toList_iff,binds_any]
 exact⟨fun⟨e,⟨h1,h2⟩,h3⟩=>⟨e,h1,h2,h3⟩,fun⟨e,h1,h2,h3⟩=>⟨e,⟨h1,h2⟩,h3⟩⟩
theorem go_topo (hs:static ops ms=true):∀(fuel t:Nat) (listed:Array Bool),listed.size=ops.size→(∀l:List Nat,l.Nodup→(∀j∈l,j<ops.size∧listed.getD j false=false)→l.length≤fuel)→
  Topo ops (fun j=>listed.getD j false=true) (Region.linearise.go .any ops fuel t listed [])
 | 0,t,listed,hsz,hf=>by
  simp only[Region.linearise.go,List.reverse_nil,Topo]
  intro j hj
  by_cases h:listed.getD j false=true
  ·exact h
  ·have:=hf [j] (by simp) (by simp only[List.mem_singleton,forall_eq];exact⟨hj,by simpa using h⟩)
   simp at this
 | fuel+1,t,listed,hsz,hf=>by
  simp only[Region.linearise.go]
  change Topo ops _ (match (Region.ready .any ops listed)[t % (Region.ready .any ops listed).length]? with
   | some i=>Region.linearise.go .any ops fuel (t / (Region.ready .any ops listed).length) (listed.setIfInBounds i true) [i]
   | none=>[].reverse)
  cases hi:(Region.ready .any ops listed)[t % (Region.ready .any ops listed).length]? with
  | none=>
   have hnil:Region.ready .any ops listed=[]:=by
    cases hr:Region.ready .any ops listed with
    | nil=>rfl
    | cons x xs=>
     rw[hr] at hi
     have hlt:t % (x::xs).length<(x::xs).length:=Nat.mod_lt _ (by simp)
     simp at hi
     simp at hlt
     omega
   simp only[List.reverse_nil,Topo]
   intro j
   induction j using Nat.strongRecOn with
   | _ j ih=>
    intro hj
    by_cases h:listed.getD j false=true
    ·exact h
    ·exfalso
     have:j∈Region.ready .any ops listed:=by
      rw[mem_ready]
      refine⟨?_,_,Array.getElem?_eq_getElem hj,fun e he hb=>?_⟩
      ·have hlt:j<listed.size:=by omega
       simpa[Array.getD,hlt] using h
      ·have hk:e.on∈pre ops[j]:=pre_binds.2 ⟨e,he,hb,rfl⟩
       have:=(static_spec hs (Array.getElem?_eq_getElem hj)).pre _ hk
       exact ih _ this (by omega)
     rw[hnil] at this
     cases this
  | some i=>
   simp only
   rw[linearise_go_acc,List.reverse_singleton,List.singleton_append]
   have hm:=zqo hi
   rw[mem_ready] at hm
   obtain⟨h0,o,ho,hall⟩:=hm
   have hin:i<ops.size:=(zqa.1 ho).1
   have hil:i<listed.size:=by omega
   have hni:listed.getD i false=false:=by simpa[Array.getD,hil] using h0
   have ih:=go_topo hs fuel (t / (Region.ready .any ops listed).length) (listed.setIfInBounds i true) (by simpa using hsz) (fun l hl hj=>by
    have hnil:i∉l:=fun hm=>by
     have:=(hj i hm).2
     simp[Array.getD,hil] at this
    have:=hf (i::l) (List.nodup_cons.2 ⟨hnil,hl⟩) (fun j hjm=>by
     rcases List.mem_cons.1 hjm with rfl | hjm
     ·exact⟨hin,hni⟩
     ·obtain⟨q1,q2⟩:=hj j hjm
      refine⟨q1,?_⟩
      rwa[getD_set_ne false (by rintro rfl;exact hnil hjm)] at q2)
    simpa using this)
   have hni':¬(listed.getD i false=true):=by rw[hni];simp
   refine⟨hni',⟨o,ho,fun j hj=>?_⟩,?_⟩
   ·obtain⟨e,he,hb,rfl⟩:=pre_binds.1 hj
    exact hall e he hb
   ·have:(fun j=>(listed.setIfInBounds i true).getD j false=true)=(fun j=>listed.getD j false=true∨j=i):=by
     funext j
     apply propext
     by_cases he:j=i
     ·subst he
      simp[Array.getD,hil]
     ·rw[getD_set_ne false (Ne.symm he)]
      simp[he]
    rw[this] at ih
    exact ih
theorem nodup_le:∀{n:Nat} {l:List Nat},l.Nodup→(∀j∈l,j<n)→l.length≤n
 | 0,[],_,_=>by simp
 | 0,x::l,_,h=>absurd (h x (by simp)) (by omega)
 | n+1,l,hl,h=>by
  by_cases hn:n∈l
  ·have h1:=nodup_le (n:=n) (hl.erase n) fun j hj=>by
    rw[hl.mem_erase_iff] at hj
    have:=h j hj.2
    omega
   rw[List.length_erase_of_mem hn] at h1
   omega
  ·have:=nodup_le (n:=n) hl fun j hj=>by
    have:=h j hj
    have:j≠n:=by rintro rfl;exact hn hj
    omega
   omega
theorem schedule_topo (hs:static ops ms=true)(t:Nat):Topo ops (fun _=>False) (Region.schedule true ops t):=by
 have h:=go_topo hs ops.size t (Array.replicate ops.size false) (by simp) fun l hl hj=>nodup_le hl fun j hjm=>(hj j hjm).1
 have e:(fun j=>(Array.replicate ops.size false).getD j false=true)=fun _=>False:=by
  funext j
  apply propext
  simp[Array.getD]
 rw[e] at h
 simpa[Region.schedule,Region.linearise] using h
theorem any_order (hs:static ops ms=true)(T:Trace E ops ms base sq R W)(t:Nat):opsV E ops base (Region.schedule true ops t) (sq 0)=some (sq ops.size):=
 topo_run hs T (Inv.init T) (fun _ _ _ h=>h.elim) (schedule_topo hs t)
theorem topo_nodup {S:Nat→Prop}:∀{is:List Nat},Topo ops S is→is.Nodup∧∀i∈is,¬S i∧i<ops.size
 | [],_=>by simp
 | i::is,⟨h1,⟨o,ho,_⟩,h2⟩=>by
  obtain⟨h3,h4⟩:=topo_nodup h2
  refine⟨List.nodup_cons.2 ⟨fun hm=>(h4 i hm).1 (.inr rfl),h3⟩,fun j hj=>?_⟩
  rcases List.mem_cons.1 hj with rfl | hj
  ·exact⟨h1,(zqa.1 ho).1⟩
  ·exact⟨fun h=>(h4 j hj).1 (.inl h),(h4 j hj).2⟩
end Go.Ln
namespace Go.Ln
open Go
abbrev Log:=List (Nat×List Nat×List Nat)
def okD (base:Nat)(ms:List Nat)(i:Nat)(R W:List Nat)(log:Log):Bool:=
 R.all (fun x=>decide (x<base)||(ms.getD i 0).testBit ((x - base) / room)) &&
 log.all fun e=>(ms.getD i 0).testBit e.1||(e.2.2.all (fun x=>!R.contains x)&&W.all fun x=>!e.2.1.contains x)
def dstepV (E:Env)(ops:Array Oper)(ms:List Nat)(i:Nat)(log:Log)(st:St):Option (Log×St):=
 (ops[i]?).bind fun o=>(wantV ops st o).bind fun b=>
  if okD st.nx ms i (if b then opR st o.op else []) (if b then opW E st o.op else []) log then
   (stepV E ops (st.nx+room*i) st i).map fun st'=>((i,(if b then opR st o.op else []),(if b then opW E st o.op else []))::log,st') else none
def noD:List It→Bool
 | .dops _ _ _ _::_=>false
 | _=>true
inductive Run (E:Env) (m:Nat) (Q:St→Prop):List It→St→Prop
 | done {st} (h:Q st):Run E m Q [] st
 | step {k k' st st'} (h:step1 E k st=some (k',st')) (r:Run E m Q k' st'):Run E m Q k st
 | forget {k st} (L:List Nat) (hk:noD k=true) (r:Run E m Q k (normSt m L st)):Run E m Q k st
 | split {k st} (S:St→Prop) (hk:noD k=true) (h:∀{G:Ground} {w0 w:World} {ρ0 ρ:Own} {a:Act},Rel G m w0 ρ0 w ρ st a→∃ρ' st',S st'∧Rel G m w0 ρ0 w ρ' st' a) (r:∀st',S st'→Run E m Q k st'):Run E m Q k st
 | nilq {ops:Array Oper} {i:Nat} {is:List Nat} {k st} {o:Oper} {op:BinOp} {t t' e:TypeId} {x y:Operand} {nl:Bool} (ho:ops[i]?=some o) (hg:wantV ops st o=some true) (hop:o.op=.binOp op t x y t') (he:op=.eql∨op=.neq)
  (hx:ev st x=some (.isl nl [])) (hy:ev st y=some (.isl true [])) (hd:E.desc t=some (.slice e)) (r:∀b,Run E m Q (.ops ops is::k) { st with tm:=putT st.tm o.dst (.bool b),nx:=st.nx+room }):Run E m Q (.ops ops (i::is)::k) st
 | draw {id ops k st} (ms:List Nat) (hs:static ops ms=true) (r:Run E m Q (.dops ops ms 0 []::k) st):Run E m Q (.code (.region id ops true)::k) st
 | dop {ops ms i log log' k st st'} (h:dstepV E ops ms i log st=some (log',st')) (r:Run E m Q (.dops ops ms (i+1) log'::k) st'):Run E m Q (.dops ops ms i log::k) st
 | dend {ops ms i log k st} (h:ops.size≤i) (r:Run E m Q k { st with nx:=st.nx+room*ops.size }):Run E m Q (.dops ops ms i log::k) st
theorem Run.steps {E:Env}{m:Nat}{Q:St→Prop}:∀{n:Nat} {k k':List It} {st st':St},stepN E n k st=some (k',st')→Run E m Q k' st'→Run E m Q k st
 | 0,k,k',st,st',h,r=>by simp[stepN] at h;obtain⟨rfl,rfl⟩:=h;exact r
 | n+1,k,k',st,st',h,r=>by
  simp only[stepN] at h
  split at h
  ·rename_i k1 st1 h1
   exact .step h1 (Run.steps h r)
  ·cases h
inductive DRun (E:Env) (ops:Array Oper) (ms:List Nat):Nat→Log→St→St→Prop
 | done {i log st} (h:ops.size≤i):DRun E ops ms i log st st
 | step {i log log' st st1 st'} (h:dstepV E ops ms i log st=some (log',st1)) (r:DRun E ops ms (i+1) log' st1 st'):DRun E ops ms i log st st'
theorem dstep_parts {E:Env}{ops:Array Oper}{ms:List Nat}{i:Nat}{log log':Log}{st st':St}(h:dstepV E ops ms i log st=some (log',st')) :
  ∃o b R W,ops[i]?=some o∧wantV ops st o=some b∧R=(if b then opR st o.op else [])∧W=(if b then opW E st o.op else [])∧okD st.nx ms i R W log=true∧stepV E ops (st.nx+room*i) st i=some st'∧log'=(i,R,W)::log:=by
 simp only[dstepV,zqb] at h
 obtain⟨o,ho,b,hb,h⟩:=h
 generalize hR:(if b=true then opR st o.op else [])=R at h
 generalize hW:(if b=true then opW E st o.op else [])=W at h
 split at h
 ·rename_i hok
  simp only[zqm,Prod.mk.injEq] at h
  obtain⟨x,hx,rfl,rfl⟩:=h
  exact⟨o,b,R,W,ho,hb,hR.symm,hW.symm,hok,hx,rfl⟩
 ·cases h
theorem okD_spec {base:Nat}{ms:List Nat}{i:Nat}{R W:List Nat}{log:Log}(h:okD base ms i R W log=true) :
  (∀x∈R,x<base∨∃j,(ms.getD i 0).testBit j=true∧blk base j x)∧∀e∈log,(ms.getD i 0).testBit e.1=true∨((∀x∈e.2.2,x∉R)∧∀x∈W,x∉e.2.1):=by
 simp only[okD,Bool.and_eq_true,List.all_eq_true,Bool.or_eq_true,decide_eq_true_eq,Bool.not_eq_true',List.contains_eq_mem,decide_eq_false_iff_not] at h
 refine⟨fun x hx=>?_,fun e he=>?_⟩
 ·by_cases hlt:x<base
  ·exact .inl hlt
  ·right
   refine⟨_,(h.1 x hx).resolve_left hlt,?_⟩
   unfold blk room
   have:=Nat.div_add_mod (x - base) 16
   have:=Nat.mod_lt (x - base) (show 16>0 by omega)
   omega
 ·exact h.2 e he
theorem stepV_nx {E:Env}{ops:Array Oper}{id i:Nat}{st st':St}(h:stepV E ops id st i=some st'):st'.nx=st.nx:=by
 unfold stepV at h
 split at h
 ·cases h;rfl
 ·simp only[zqb] at h
  obtain⟨b,_,h⟩:=h
  split at h
  ·simp only[zqm] at h
   obtain⟨_,_,rfl⟩:=h
   rfl
  ·cases h;rfl
theorem DRun.trace {E:Env}{ops:Array Oper}{ms:List Nat}{i:Nat}{log:Log}{st st':St}(r:DRun E ops ms i log st st'):i≤ops.size→∃(sq:Nat→St) (R W:Nat→List Nat),sq i=st∧sq ops.size=st'∧
  (∀j,i≤j→j<ops.size→∃o b,ops[j]?=some o∧wantV ops (sq j) o=some b∧R j=(if b then opR (sq j) o.op else [])∧W j=(if b then opW E (sq j) o.op else [])∧stepV E ops (st.nx+room*j) (sq j) j=some (sq (j+1)))∧
  (∀j,i≤j→j<ops.size→∀x∈R j,x<st.nx∨∃k,(ms.getD j 0).testBit k=true∧blk st.nx k x)∧
  (∀j k,i≤j→j<k→k<ops.size→(ms.getD k 0).testBit j=true∨((∀x∈W j,x∉R k)∧∀x∈W k,x∉R j))∧
  (∀e∈log,∀k,i≤k→k<ops.size→(ms.getD k 0).testBit e.1=true∨((∀x∈e.2.2,x∉R k)∧∀x∈W k,x∉e.2.1)):=by
 induction r with
 | @done i log st h=>
  intro hi
  have:i=ops.size:=by omega
  subst this
  exact⟨fun _=>st,fun _=>[],fun _=>[],rfl,rfl,fun j h1 h2=>absurd h2 (by omega),fun j h1 h2=>absurd h2 (by omega),fun j k h1 h2 h3=>absurd h3 (by omega),fun e _ k h1 h2=>absurd h2 (by omega)⟩
 | @step i log log' st st1 st' h r ih=>
  intro hi
  obtain⟨o,b,R0,W0,ho,hb,hR,hW,hok,hst,rfl⟩:=dstep_parts h
  have hin:i<ops.size:=(zqa.1 ho).1
  obtain⟨sq,R,W,q1,q2,q3,q4,q5,q6⟩:=ih (by omega)
  have hnx:st1.nx=st.nx:=stepV_nx hst
  obtain⟨ok1,ok2⟩:=okD_spec hok
  refine⟨fun j=>if j=i then st else sq j,fun j=>if j=i then R0 else R j,fun j=>if j=i then W0 else W j,by simp,by simp only;rw[if_neg (by omega)];exact q2,fun j h1 h2=>?_,fun j h1 h2=>?_,fun j k h1 h2 h3=>?_,fun e he k h1 h2=>?_⟩
  ·by_cases hj:j=i
   ·subst hj
    simp only[if_true,if_neg (show ¬j+1=j by omega)]
    exact⟨o,b,ho,hb,hR,hW,by rw[q1];exact hst⟩
   ·simp only[if_neg hj,if_neg (show ¬j+1=i by omega)]
    obtain⟨o',b',p1,p2,p3,p4,p5⟩:=q3 j (by omega) h2
    exact⟨o',b',p1,p2,p3,p4,by rw[←hnx];exact p5⟩
  ·by_cases hj:j=i
   ·subst hj
    simp only[if_true]
    exact ok1
   ·simp only[if_neg hj]
    rw[←hnx]
    exact q4 j (by omega) h2
  ·by_cases hj:j=i
   ·subst hj
    simp only[if_true,if_neg (show ¬k=j by omega)]
    exact q6 (j,R0,W0) (by simp) k (by omega) h3
   ·simp only[if_neg hj,if_neg (show ¬k=i by omega)]
    exact q5 j k (by omega) h2 h3
  ·by_cases hk:k=i
   ·subst hk
    simp only[if_true]
    exact ok2 e he
   ·simp only[if_neg hk]
    exact q6 e (List.mem_cons_of_mem _ he) k (by omega) h2
theorem DRun.any {E:Env}{ops:Array Oper}{ms:List Nat}{st st':St}(hs:static ops ms=true)(r:DRun E ops ms 0 [] st st')(t:Nat):opsV E ops st.nx (Region.schedule true ops t) st=some st':=by
 obtain⟨sq,R,W,q1,q2,q3,q4,q5,q6⟩:=r.trace (Nat.zero_le _)
 have T:Trace E ops ms st.nx sq R W:=⟨fun i hi=>q3 i (Nat.zero_le _) hi,fun i hi=>q4 i (Nat.zero_le _) hi,fun j i hj hi=>q5 j i (Nat.zero_le _) hj hi⟩
 have:=any_order hs T t
 rwa[q1,q2] at this
end Go.Ln
namespace Go.Ln
open Go
variable {G : Ground} {m : Nat} {w0 w : World} {ρ0 ρ : Own} {st st' : St} {a : Act}
theorem RelU.drawn {Un : Nat→Prop}(R : RelU Un G m w0 ρ0 w ρ st a) : RelU Un G m w0 ρ0 { w with drawn:=w.drawn + 1 } ρ st a:=by
  have K : Keep (fun _ _=>False) w ρ st.rt { w with drawn:=w.drawn + 1 } ρ st.rt:=⟨fun b hb _=>⟨hb,rfl⟩,fun o nv p _ hl=>⟨hl,fun b n h1 h2=>⟨h1,h2⟩⟩,fun b l h=>⟨h,rfl⟩⟩
  have Wd : Wk w { w with drawn:=w.drawn + 1 }:=⟨rfl,rfl,rfl,Nat.le_refl _,fun _ _ h=>h⟩
  exact { R with
    tm:=⟨R.tm.1,fun i v u hv hu=>(R.tm.2 i v u hv hu).keep K (noNew_mono (by rintro _ _ h; exact h.elim) (R.tmn i v hv))⟩
    rok:=fun o r hr=>RowOk.under K (fun b l hb _=>⟨hb,rfl⟩) (R.rok o r hr) (R.rtn o r hr)
    lab:=⟨R.lab.l,R.lab.z,R.lab.f⟩
    wk:=R.wk.trans Wd
    gr:=Ground.keep R.gr K.k1 Wd }
section
variable {P : Program} {E : Env} (hG : ∀ f e,E.fn f=some e→Good P G f e) (A : Agree P E)
include hG A
def useU (base n:Nat)(is:List Nat):Nat→Prop:=fun o=>base+room*n≤o∨∃i∈is,blk base i o
theorem ops_sound {ops:Array Oper}{base:Nat}(hb0:0<base){Q:Exit→Act→World→Prop}:∀{is:List Nat} {st:St} {w:World} {ρ:Own} {a:Act},is.Nodup→(∀i∈is,i<ops.size)→opsV E ops base is st=some st'→RelU (useU base ops.size is) G m w0 ρ0 w ρ st a→
  (∀w ρ a,RelU (past (base+room*ops.size)) G m w0 ρ0 w ρ st' a→Q .normal a w)→wpOps P ops Q is a w
 | [],st,w,ρ,a,hd,hl,h,R,hQ=>by
  simp only[opsV,Option.some.injEq] at h
  subst h
  simp only[wpOps]
  exact hQ w ρ a (R.mono (nx:=st.nx) fun o ho=>.inl ho)
 | i::is,st,w,ρ,a,hd,hl,h,R,hQ=>by
  simp only[opsV,zqb] at h
  obtain⟨st1,h1,h2⟩:=h
  obtain⟨hd1,hd2⟩:=List.nodup_cons.1 hd
  have hil:=hl i (by simp)
  refine RelU.step hG A R (id:=base+room*i) (nx:=st1.nx) (by omega) (fun o q1 q2=>.inr ⟨i,by simp,q1,by rw[Nat.mul_add];omega⟩) h1 fun w' ρ' a' R'=>?_
  refine ops_sound hb0 hd2 (fun j hj=>hl j (List.mem_cons_of_mem _ hj)) h2 (R'.mono (nx:=st1.nx) fun o ho=>?_) hQ
  rcases ho with ho | ⟨j,hj,hb⟩
  ·refine⟨.inl ho,fun hc=>?_⟩
   have:room*(i+1)≤room*ops.size:=Nat.mul_le_mul_left _ hil
   rw[Nat.mul_add] at this
   omega
  ·refine⟨.inr ⟨j,List.mem_cons_of_mem _ hj,hb⟩,fun hc=>?_⟩
   have:=blk_inj (j:=i) ⟨hc.1,by rw[Nat.mul_add];omega⟩ hb
   subst this
   exact hd1 hj
theorem draw_sound {id:Nat}{ops:Array Oper}{ms:List Nat}{k:List It}{F:Act→World→Prop}(hm:P.follows .mixedOrders=true)(hs:static ops ms=true)(r:DRun E ops ms 0 [] st st')(R:Rel G m w0 ρ0 w ρ st a)(ih:∀w ρ a,Rel G m w0 ρ0 w ρ { st' with nx:=st.nx+room*ops.size } a→Fin P F k a w):Fin P F (.code (.region id ops true)::k) a w:=by
 intro b cs
 have hpos:0<st.nx:=R.up st.nx (Nat.le_refl _)
 generalize ht:w.tape w.drawn (.order b.fn id)=t
 have htopo:=schedule_topo hs t
 obtain⟨h1,h2⟩:=topo_nodup htopo
 have hw:=ops_sound (P:=P) (Q:=onlyN (Fin P F k)) hG A hpos h1 (fun i hi=>(h2 i hi).2) (r.any hs t) (R.drawn.mono (Un':=useU st.nx ops.size (Region.schedule true ops t)) (nx:=st.nx) fun o ho=>by
  rcases ho with ho | ⟨i,hi,hb⟩
  ·unfold past;omega
  ·have:=hb.1;unfold past;omega) fun w ρ a R'=>ih w ρ a (R'.mono (nx:=st.nx+room*ops.size) fun o ho=>ho)
 obtain⟨a',w',td,hq,hst⟩:=fin_ops (ops:=ops) hw b cs
 refine⟨a',w',td,hq,?_⟩
 have hstep:=step_region_draw (P:=P) (b:=b) (a:=a) (k:=k.map item) (cs:=cs) (w:=w) (ops:=ops) (id:=id)
 rw[hm,ht] at hstep
 exact Steps.head hstep hst
def noDs (k:List It):Bool:=k.all fun
 | .dops _ _ _ _=>false
 | _=>true
omit hG A in
theorem exit_noDs:∀{k k':List It} {id:Nat},exitIt id k=some k'→noDs k=true→noDs k'=true
 | [],k',id,h,_=>by simp[exitIt] at h
 | .blk id'::k,k',id,h,hn=>by
  simp only[noDs,List.all_cons,Bool.and_eq_true] at hn
  simp only[exitIt] at h
  split at h
  ·cases h;exact hn.2
  ·exact exit_noDs h hn.2
 | .code c::k,k',id,h,hn=>by
  simp only[noDs,List.all_cons,Bool.and_eq_true] at hn
  exact exit_noDs (k:=k) (by simpa[exitIt] using h) hn.2
 | .ops o i::k,k',id,h,hn=>by
  simp only[noDs,List.all_cons,Bool.and_eq_true] at hn
  exact exit_noDs (k:=k) (by simpa[exitIt] using h) hn.2
 | .lp c::k,k',id,h,hn=>by
  simp only[noDs,List.all_cons,Bool.and_eq_true] at hn
  exact exit_noDs (k:=k) (by simpa[exitIt] using h) hn.2
 | .dops _ _ _ _::k,k',id,h,hn=>by simp[noDs] at hn
theorem step_noDs {k k':List It}(h:step1 E k st=some (k',st'))(hn:noDs k=true):noDs k'=true:=by
 have tl:∀{x:It} {k:List It},noDs (x::k)=true→noDs k=true:=fun h=>by
  simp only[noDs,List.all_cons,Bool.and_eq_true] at h
  exact h.2
 unfold step1 at h
 split at h
 ·cases h;exact tl hn
 ·cases h;have:=tl hn;simpa[noDs] using this
 ·cases h;have:=tl hn;simpa[noDs] using this
 ·simp only[zqb] at h
  obtain⟨cv,hc,h⟩:=h
  have:=tl hn
  split at h<;>cases h<;>simpa[noDs] using this
 ·cases h;have:=tl hn;simpa[noDs] using this
 ·cases h;have:=tl hn;simpa[noDs] using this
 ·simp only[zqm] at h
  obtain⟨k1,hk,h⟩:=h
  cases h
  exact exit_noDs hk (tl hn)
 ·cases h;rfl
 ·cases h;exact tl hn
 ·simp only[zqm] at h
  obtain⟨st1,hst,h⟩:=h
  cases h
  have:=tl hn
  simpa[noDs] using this
 ·cases h;exact tl hn
 ·cases h;have:=tl hn;simpa[noDs] using this
 ·cases h
def MotN (P:Program)(G:Ground)(m:Nat)(w0:World)(ρ0:Own)(Q:St→Prop)(k:List It)(st:St):Prop:=∀w ρ a,Rel G m w0 ρ0 w ρ st a→FinX P (PostR G m w0 ρ0 Q) k a w
def Mot (P:Program)(E:Env)(G:Ground)(m:Nat)(w0:World)(ρ0:Own)(Q:St→Prop):List It→St→Prop
 | .dops ops ms i log::k,st=>noDs k=true→∃st',DRun E ops ms i log st st'∧MotN P G m w0 ρ0 Q k { st' with nx:=st'.nx+room*ops.size }
 | k,st=>noDs k=true→MotN P G m w0 ρ0 Q k st
theorem mot_n {Q:St→Prop}{k:List It}(h:Mot P E G m w0 ρ0 Q k st)(hn:noDs k=true):MotN P G m w0 ρ0 Q k st:=by
 cases k with
 | nil=>exact h hn
 | cons x k=>
  cases x<;>first | exact h hn | simp[noDs] at hn
omit hG A in
theorem DRun.nx {ops:Array Oper}{ms:List Nat}{i:Nat}{log:Log}(r:DRun E ops ms i log st st'):st'.nx=st.nx:=by
 induction r with
 | done h=>rfl
 | step h r ih=>
  obtain⟨o,b,R,W,_,_,_,_,_,hst,_⟩:=dstep_parts h
  rw[ih,stepV_nx hst]
theorem Run.sound (hm:P.follows .mixedOrders=true){Q:St→Prop}{k:List It}(r:Run E m Q k st):Mot P E G m w0 ρ0 Q k st:=by
 have mk:∀{k:List It} {st:St},(noDs k=true→MotN P G m w0 ρ0 Q k st)→noD k=true→Mot P E G m w0 ρ0 Q k st:=by
  intro k st h hd
  cases k with
  | nil=>exact h
  | cons x k=>cases x<;>first | exact h | simp[noD] at hd
 induction r with
 | done h=>exact fun _ w ρ a R=>⟨_,_,R,h⟩
 | @step k k' st st' h r ih=>
  refine mk (fun hn w ρ a R=>step_sound hG A h R fun w ρ a R'=>mot_n hG A ih (step_noDs hG A h hn) w ρ a R') ?_
  cases k with
  | nil=>rfl
  | cons x k=>
   cases x<;>first | rfl | (simp[step1] at h)
 | forget L hk r ih=>
  refine mk (fun hn w ρ a R=>?_) hk
  obtain⟨ρ',R'⟩:=R.forget L
  exact mot_n hG A ih hn w ρ' a R'
 | split S hk h r ih=>
  refine mk (fun hn w ρ a R=>?_) hk
  obtain⟨ρ',st',hS,R'⟩:=h R
  exact mot_n hG A (ih st' hS) hn w ρ' a R'
 | @nilq ops i is k st o op t t' e x y nl ho hg hop he hx hy hd r ih=>
  refine mk (fun hn w ρ a R=>?_) rfl
  refine R.nilq A ho hg hop he hx hy hd fun b w' ρ' a' R'=>?_
  exact mot_n hG A (ih b) (by simpa[noDs] using hn) w' ρ' a' R'
 | @draw id ops k st ms hs r ih=>
  refine mk (fun hn w ρ a R=>?_) rfl
  have hn':noDs k=true:=by
   simp only[noDs,List.all_cons,Bool.and_eq_true] at hn
   exact hn.2
  obtain⟨st',hr,hk⟩:=ih hn'
  refine draw_sound hG A hm hs hr R fun w ρ a R'=>finX_fin (hk w ρ a ?_)
  rw[hr.nx]
  exact R'
 | @dop ops ms i log log' k st st' h r ih=>
  intro hn
  obtain⟨st2,h1,h2⟩:=ih hn
  exact⟨st2,.step h h1,h2⟩
 | @dend ops ms i log k st h r ih=>
  intro hn
  exact⟨st,.done h,mot_n hG A ih hn⟩
theorem Run.fin (hm:P.follows .mixedOrders=true){Q:St→Prop}{c:Code}(r:Run E m Q [.code c] st)(R:Rel G m w0 ρ0 w ρ st a):FinX P (PostR G m w0 ρ0 Q) [.code c] a w:=
 mot_n hG A (Run.sound hG A hm r) rfl w ρ a R
end
end Go.Ln
namespace Go.Ln
open Go
variable {G : Ground} {m : Nat} {w0 w : World} {ρ0 ρ : Own} {st st' : St} {a : Act} {rt : Store}
theorem cells_setCell {v y:V}{k:Nat}(hk:k<(cells v).length)(hy:isAggV y=false):cells (setCellV v k y)=(cells v).set k y∧isAggV (setCellV v k y)=isAggV v:=by
 cases v with
 | agg cs=>exact⟨rfl,rfl⟩
 | _=>
  have h0:k=0:=by simp[cells] at hk;exact hk
  subst h0
  cases y<;>first | (simp[isAggV] at hy;done) | exact⟨rfl,rfl⟩
theorem Rel.slot {t k s : Nat}{v : V}(ht : st.tm[t]? = some v)(hk : (cells v)[k]? = some (.isl true []))(R : Rel G m w0 ρ0 w ρ st a) :
    Rel G m w0 ρ0 w ρ ⟨st.tm.set t (setCellV v k (.hs st.nx 0 [] s 0 0)), upd st.rt st.nx (some ⟨0, s, []⟩), st.nx + room⟩ a := by
  have hnx : st.rt st.nx = none := R.fresh _ (Nat.le_refl _)
  have hne : ∀ {o r}, st.rt o = some r → o ≠ st.nx := fun h e => by subst e; rw [hnx] at h; cases h
  have K : Keep (fun o _ => o = st.nx) w ρ st.rt w ρ (upd st.rt st.nx (some ⟨0, s, []⟩)) := by
    refine ⟨fun b hb _ => ⟨hb, rfl⟩, fun o nv p hN hl => ⟨?_, fun b n h1 h2 => ⟨h1, h2⟩⟩, fun b l h => ⟨h, rfl⟩⟩
    have hN' : o ≠ st.nx := hN
    simpa [live, look, valid, upd, hN'] using hl
  have hKn : ∀ {v : V}, noNew (NewOf (past st.nx) st.rt) v → noNew (fun o _ => o = st.nx) v := fun h => noNew_mono (fun o nv e => by subst e; exact .inl (Nat.le_refl _)) h
  have hlt : k < (cells v).length := (zqg.1 hk).1
  obtain ⟨hc1, hc2⟩ := cells_setCell (y := .hs st.nx 0 [] s 0 0) hlt rfl
  have hmono : ∀ o nv, NewOf (past (st.nx + room)) (upd st.rt st.nx (some ⟨0, s, []⟩)) o nv → NewOf (past st.nx) st.rt o nv := by
    intro o nv h
    rcases h with h | ⟨r, h1, h2⟩
    · exact .inl (Nat.le_trans (Nat.le_add_right _ _) h)
    · by_cases e : o = st.nx
      · exact .inl (by subst e; exact Nat.le_refl _)
      · exact .inr ⟨r, by simpa [upd, e] using h1, h2⟩
  have hnn : ¬ NewOf (past (st.nx + room)) (upd st.rt st.nx (some ⟨0, s, []⟩)) st.nx 0 := by
    rintro (h | ⟨r, h1, h2⟩)
    · have : st.nx + 16 ≤ st.nx := h
      omega
    · simp [upd] at h1
      subst h1
      simp at h2
  have old : ∀ (i : Nat) x u, st.tm[i]? = some x → a.tmps[i]? = some u → Slot w ρ (upd st.rt st.nx (some ⟨0, s, []⟩)) nowhere x u := fun i x u hx hu => (R.tm.2 i x u hx hu).keep K (hKn (R.tmn i x hx))
  exact
    { tm := by
        refine ⟨by simpa using R.tm.1, fun i x u hx hu => ?_⟩
        rw [List.getElem?_set] at hx
        split at hx
        · rename_i e
          split at hx
          · cases hx
            subst e
            obtain ⟨g, hg1, hg2⟩ := old t v u ht hu
            refine ⟨g, ?_, fun j x hx => ?_⟩
            · rw [hg1]
              unfold pack
              rw [hc2, hc1]
              simp
            · rw [hc1, List.getElem?_set] at hx
              split at hx
              · rename_i ej
                subst ej
                · cases hx
                  have := hg2 k _ hk
                  have hA : g k = .slice none 0 0 := by
                    generalize g k = z at this
                    cases this with
                    | isl0 _ _ A c hn => obtain ⟨rfl, rfl⟩ := hn rfl; rfl
                  rw [hA]
                  exact .hs _ _ _ _ _ _ _ _ (fun _ => ⟨0, none, rfl, Nat.le_refl _, fun h => absurd rfl h⟩) trivial
              · exact hg2 j x hx
          · cases hx
        · exact old i x u hx hu
      rok := fun o r hr => by
        by_cases e : o = st.nx
        · subst e
          simp [upd] at hr
          subst hr
          exact .inl rfl
        · have hr' : st.rt o = some r := by simpa [upd, e] using hr
          exact RowOk.under K (fun b l hb _ => ⟨hb, rfl⟩) (R.rok o r hr') (R.rtn o r hr')
      inj := R.inj
      rtn := fun o r hr => by
        by_cases e : o = st.nx
        · subst e
          simp [upd] at hr
          subst hr
          simp [nhs]
        · exact R.rtn o r (by simpa [upd, e] using hr)
      lab := ⟨fun b o l h => ⟨(R.lab.l b o l h).1, by
          rcases (R.lab.l b o l h).2 with h1 | ⟨r, h1⟩
          · exact .inl h1
          · exact .inr ⟨r, by simp [upd, hne h1, h1]⟩⟩, by have := R.up st.nx (Nat.le_refl _); simp [upd, show (0 : Nat) ≠ st.nx by omega, R.lab.z], R.lab.f⟩
      fresh := fun o ho => by
        have ho' : st.nx + room ≤ o := ho
        have : o ≠ st.nx := by simp [room] at ho'; omega
        simp only [upd, if_neg this]
        exact R.fresh o (Nat.le_trans (Nat.le_add_right _ _) ho')
      up := fun o ho => R.up o (Nat.le_trans (Nat.le_add_right _ _) ho)
      tmn := fun i x hx => by
        rw [List.getElem?_set] at hx
        split at hx
        · split at hx
          · cases hx
            have hv := noNew_mono hmono (R.tmn t v ht)
            cases v with
            | agg cs =>
              simp only [setCellV, noNew] at hv ⊢
              rw [noNews_iff] at hv ⊢
              intro z hz
              rcases List.mem_or_eq_of_mem_set hz with hz | rfl
              · exact hv z hz
              · exact hnn
            | _ => exact hnn
          · cases hx
        · exact noNew_mono hmono (R.tmn i x hx)
      wk := R.wk, fr := R.fr, k0 := R.k0, f0 := R.f0, df := R.df, gr := R.gr
      am := fun i b n h1 h2 h3 h4 => R.am i b n h1 h2 h3 (by
        have : i ≠ st.nx := fun e => R.nl i (R.le b i [] h2) (by subst e; exact Nat.le_refl _)
        simpa [upd, this] using h4)
      le := R.le
      nl := fun i hi h => R.nl i hi (Nat.le_trans (Nat.le_add_right _ _) h) }
inductive Cv:V→V→Prop
 | refl (v):Cv v v
 | nil (s):Cv (.isl true []) (.usl s [])
 | agg (cs cs') (hl:cs.length=cs'.length) (h:∀(k:Nat) x y,cs[k]?=some x→cs'[k]?=some y→Cv x y):Cv (.agg cs) (.agg cs')
 | usl (s es es') (hl:es.length=es'.length) (h:∀(k:Nat) x y,es[k]?=some x→es'[k]?=some y→Cv x y):Cv (.usl s es) (.usl s es')
theorem Cv.isAgg {v v':V}(h:Cv v v'):isAggV v=isAggV v':=by cases h<;>rfl
theorem Cv.cells {v v':V}(h:Cv v v'):(cells v).length=(Go.Ln.cells v').length∧∀(k:Nat) x y,(Go.Ln.cells v)[k]?=some x→(Go.Ln.cells v')[k]?=some y→Cv x y:=by
 cases h with
 | refl=>exact⟨rfl,fun k x y h1 h2=>by rw[h1] at h2;cases h2;exact .refl _⟩
 | nil s=>exact⟨rfl,fun k x y h1 h2=>by cases k<;>simp[Go.Ln.cells] at h1 h2;subst h1;subst h2;exact .nil s⟩
 | agg cs cs' hl h=>exact⟨hl,h⟩
 | usl s es es' hl h=>exact⟨rfl,fun k x y h1 h2=>by cases k<;>simp[Go.Ln.cells] at h1 h2;subst h1;subst h2;exact .usl s es es' hl h⟩
theorem Cv.rep2 {v v':V}(h:Cv v v'):(∀{L:Loc} {u:Value},RepV w ρ rt (some L) v u→RepV w ρ rt (some L) v' u)∧∀(k:Nat) x y,(Go.Ln.cells v)[k]?=some x→(Go.Ln.cells v')[k]?=some y→∀{L:Loc} {u:Value},RepV w ρ rt (some L) x u→RepV w ρ rt (some L) y u:=by
 induction h with
 | refl=>exact⟨fun h=>h,fun k x y h1 h2 L u h=>by rw[h1] at h2;cases h2;exact h⟩
 | nil s=>
  have key:∀{L:Loc} {u:Value},RepV w ρ rt (some L) (.isl true []) u→RepV w ρ rt (some L) (.usl s []) u:=by
   intro L u h
   cases h with
   | isl0 _ _ A c hn=>
    obtain⟨rfl,rfl⟩:=hn rfl
    exact .usl0 _ _ _
  exact⟨key,fun k x y h1 h2 L u h=>by cases k<;>simp[Go.Ln.cells] at h1 h2;subst h1;subst h2;exact key h⟩
 | agg cs cs' hl hc ih=>exact⟨(fun h=>by cases h),fun k x y h1 h2=>(ih k x y h1 h2).1⟩
 | usl s es es' hl hc ih=>
  have key:∀{L:Loc} {u:Value},RepV w ρ rt (some L) (.usl s es) u→RepV w ρ rt (some L) (.usl s es') u:=by
   intro L u h
   cases h with
   | usl0 _ _ A=>
    have:es'=[]:=by cases es'<;>simp_all
    subst this
    exact .usl0 _ _ _
   | usl _ _ _ b A c arr T g h1 h2 h3 h4 h5 h6 h7 h8=>
    have back:∀{i:Nat} {e':V},es'[i]?=some e'→∃e,es[i]?=some e∧Cv e e':=by
     intro i e' he
     have hi:i<es.length:=by rw[hl];exact (zqg.1 he).1
     exact⟨es[i],zqe hi,hc i _ _ (zqe hi) he⟩
    have backc:∀{i:Nat} {e':V} {k:Nat} {y:V},es'[i]?=some e'→(Go.Ln.cells e')[k]?=some y→∃e x,es[i]?=some e∧(Go.Ln.cells e)[k]?=some x∧∀{L:Loc} {u:Value},RepV w ρ rt (some L) x u→RepV w ρ rt (some L) y u:=by
     intro i e' k y he hy
     obtain⟨e,he2,hcv⟩:=back he
     have hk:k<(Go.Ln.cells e).length:=by rw[hcv.cells.1];exact (zqg.1 hy).1
     exact⟨e,(Go.Ln.cells e)[k],he2,zqe hk,(ih i e e' he2 he).2 k _ _ (zqe hk) hy⟩
    rw[hl]
    refine .usl _ s es' b A c arr T g h1 h2 (by omega) h4 h5 (fun i e' he=>?_) (fun i e' k y he hy=>?_) (fun i e' k y he hy=>?_)
    ·obtain⟨e,he2,hcv⟩:=back he
     rw[←hcv.cells.1]
     exact h6 i e he2
    ·obtain⟨e,x,he2,hx,_⟩:=backc he hy
     exact h7 i e k x he2 hx
    ·obtain⟨e,x,he2,hx,hcv⟩:=backc he hy
     exact hcv (h8 i e k x he2 hx)
  exact⟨key,fun k x y h1 h2 L u h=>by cases k<;>simp[Go.Ln.cells] at h1 h2;subst h1;subst h2;exact key h⟩
def Cvs (es es':List V):Prop:=es.length=es'.length∧∀(i:Nat) x y,es[i]?=some x→es'[i]?=some y→Cv x y
theorem Cvs.row {L:Loc}{s:Nat}{es es':List V}(h:Cvs es es')(hr:RowOk w ρ rt L s es):RowOk w ρ rt L s es':=by
 obtain⟨hl,hc⟩:=h
 rcases hr with rfl | ⟨b,arr,T,g,h1,h2,h3,h4,h5⟩
 ·left
  cases es'<;>simp_all
 ·have back:∀{i:Nat} {e':V},es'[i]?=some e'→∃e,es[i]?=some e∧Cv e e':=by
   intro i e' he
   have hi:i<es.length:=by rw[hl];exact (zqg.1 he).1
   exact⟨es[i],zqe hi,hc i _ _ (zqe hi) he⟩
  refine .inr ⟨b,arr,T,g,h1,h2,fun i e' he=>?_,fun i e' k y he hy=>?_,fun i e' k y he hy=>?_⟩
  ·obtain⟨e,he2,hcv⟩:=back he
   rw[←hcv.cells.1]
   exact h3 i e he2
  ·obtain⟨e,he2,hcv⟩:=back he
   have hk:k<(cells e).length:=by rw[hcv.cells.1];exact (zqg.1 hy).1
   exact h4 i e k _ he2 (zqe hk)
  ·obtain⟨e,he2,hcv⟩:=back he
   have hk:k<(cells e).length:=by rw[hcv.cells.1];exact (zqg.1 hy).1
   exact hcv.rep2.2 k _ y (zqe hk) hy (h5 i e k _ he2 (zqe hk))
theorem Cv.nh {v v':V}(h:Cv v v'):Go.Ln.nh v→Go.Ln.nh v':=by
 induction h with
 | refl=>exact id
 | nil s=>intro _;simp[Go.Ln.nh,nhs]
 | agg cs cs' hl hc ih=>
  intro hn
  simp only[Go.Ln.nh,nhs_iff] at hn ⊢
  intro y hy
  obtain⟨k,hk,rfl⟩:=List.mem_iff_getElem.1 hy
  exact ih k _ _ (zqe (by omega)) (zqe hk) (hn _ (List.getElem_mem (by omega)))
 | usl s es es' hl hc ih=>
  intro hn
  simp only[Go.Ln.nh,nhs_iff] at hn ⊢
  intro y hy
  obtain⟨k,hk,rfl⟩:=List.mem_iff_getElem.1 hy
  exact ih k _ _ (zqe (by omega)) (zqe hk) (hn _ (List.getElem_mem (by omega)))
theorem Cvs.nhs {es es':List V}(h:Cvs es es')(hn:nhs es):Go.Ln.nhs es':=by
 rw[nhs_iff] at hn ⊢
 intro y hy
 obtain⟨k,hk,rfl⟩:=List.mem_iff_getElem.1 hy
 have h1:=h.1
 exact (h.2 k _ _ (zqe (by omega)) (zqe hk)).nh (hn _ (List.getElem_mem (by omega)))
theorem Rel.row {o : Nat}{r : Root}{es' : List V}(hr : st.rt o = some r)(hc : Cvs r.es es')(R : Rel G m w0 ρ0 w ρ st a) : Rel G m w0 ρ0 w ρ { st with rt := upd st.rt o (some ⟨r.nv + 1, r.s, es'⟩) } a := by
  have K : Keep (NewOf (past st.nx) st.rt) w ρ st.rt w ρ (upd st.rt o (some ⟨r.nv + 1, r.s, es'⟩)) := by
    refine ⟨fun b hb _ => ⟨hb, rfl⟩, fun o' nv p hN hl => ⟨?_, fun b n h1 h2 => ⟨h1, h2⟩⟩, fun b l h => ⟨h, rfl⟩⟩
    by_cases e : o' = o
    · subst e
      have hnv : ¬ r.nv < nv := fun h => hN (.inr ⟨r, hr, h⟩)
      have hp : p = [] := by
        simp only [live, look, valid, upd, if_true] at hl
        split at hl
        · rename_i hc
          simp only [Bool.or_eq_true, List.isEmpty_iff, beq_iff_eq] at hc
          rcases hc with h | h
          · exact h
          · omega
        · simp at hl
      subst hp
      simp [live, look, valid, hr, rowAt]
    · simpa [live, look, valid, upd, e] using hl
  have hiff : ∀ o', (upd st.rt o (some ⟨r.nv + 1, r.s, es'⟩)) o' = none ↔ st.rt o' = none := by
    intro o'
    by_cases e : o' = o
    · subst e; simp [upd, hr]
    · simp [upd, e]
  have hmono : ∀ o' nv, NewOf (past st.nx) (upd st.rt o (some ⟨r.nv + 1, r.s, es'⟩)) o' nv → NewOf (past st.nx) st.rt o' nv := by
    intro o' nv h
    rcases h with h | ⟨r', h1, h2⟩
    · exact .inl h
    · by_cases e : o' = o
      · subst e
        simp [upd] at h1
        subst h1
        exact .inr ⟨r, hr, by simp at h2; omega⟩
      · exact .inr ⟨r', by simpa [upd, e] using h1, h2⟩
  exact
    { tm := ⟨R.tm.1, fun i v u hv hu => (R.tm.2 i v u hv hu).keep K (R.tmn i v hv)⟩
      rok := fun o' r' hr' => by
        by_cases e : o' = o
        · subst e
          simp [upd] at hr'
          subst hr'
          exact hc.row (RowOk.under K (fun b l hb _ => ⟨hb, rfl⟩) (R.rok o' r hr) (R.rtn o' r hr))
        · have hr2 : st.rt o' = some r' := by simpa [upd, e] using hr'
          exact RowOk.under K (fun b l hb _ => ⟨hb, rfl⟩) (R.rok o' r' hr2) (R.rtn o' r' hr2)
      inj := R.inj
      rtn := fun o' r' hr' => by
        by_cases e : o' = o
        · subst e
          simp [upd] at hr'
          subst hr'
          exact hc.nhs (R.rtn o' r hr)
        · exact R.rtn o' r' (by simpa [upd, e] using hr')
      lab := ⟨fun b o' l h => ⟨(R.lab.l b o' l h).1, by
          rcases (R.lab.l b o' l h).2 with h1 | ⟨r', h1⟩
          · exact .inl h1
          · right
            by_cases e : o' = o
            · subst e; exact ⟨⟨r.nv + 1, r.s, es'⟩, by simp [upd]⟩
            · exact ⟨r', by simp [upd, e, h1]⟩⟩, (hiff 0).2 R.lab.z, R.lab.f⟩
      fresh := fun o' ho => (hiff o').2 (R.fresh o' ho)
      up := R.up
      tmn := fun i v hv => noNew_mono hmono (R.tmn i v hv)
      wk := R.wk, fr := R.fr, k0 := R.k0, f0 := R.f0, df := R.df, gr := R.gr
      am := fun i b n h1 h2 h3 h4 => R.am i b n h1 h2 h3 (by
        cases e : st.rt i with
        | some _ => rfl
        | none => (have h5 : (upd st.rt o (some ⟨r.nv + 1, r.s, es'⟩) i).isSome = true := h4; rw [(hiff i).2 e] at h5; simp at h5))
      le := R.le
      nl := R.nl }
theorem Run.slot {E:Env}{Q:St→Prop}{k:List It}{t j s:Nat}{v:V}(hk:noD k=true)(ht:st.tm[t]?=some v)(hj:(cells v)[j]?=some (.isl true []))(r:Run E m Q k ⟨st.tm.set t (setCellV v j (.hs st.nx 0 [] s 0 0)),upd st.rt st.nx (some ⟨0,s,[]⟩),st.nx+room⟩):Run E m Q k st:=
 .split (fun x=>x=_) hk (fun R=>⟨_,_,rfl,Rel.slot ht hj R⟩) fun _ h=>h▸r
theorem Run.row {E:Env}{Q:St→Prop}{k:List It}{o:Nat}{r:Root}{es':List V}(hk:noD k=true)(hr:st.rt o=some r)(hc:Cvs r.es es')(rr:Run E m Q k { st with rt:=upd st.rt o (some ⟨r.nv+1,r.s,es'⟩) }):Run E m Q k st:=
 .split (fun x=>x=_) hk (fun R=>⟨_,_,rfl,Rel.row hr hc R⟩) fun _ h=>h▸rr
end Go.Ln
namespace Go.Ln
open Go
theorem Good.weaken {P:Program}{G:Ground}{f:FuncId}{own:List Bool}{F F':List V→Option (V×List V)}(h:Good P G f ⟨own,F⟩)(hF:∀vs x,F' vs=some x→F vs=some x):Good P G f ⟨own,F'⟩:=
 fun w ρ vs us r outs h1 h2 h3 h4=>h w ρ vs us r outs h1 h2 h3 (hF vs _ h4)
theorem Good.levels {P:Program}{G:Ground}{f:FuncId}{own:List Bool}{F:Nat→List V→Option (V×List V)}{F':List V→Option (V×List V)}(h:∀n,Good P G f ⟨own,F n⟩)(hF:∀vs x,F' vs=some x→∃n,F n vs=some x):Good P G f ⟨own,F'⟩:=
 fun w ρ vs us r outs h1 h2 h3 h4=>let ⟨n,h5⟩:=hF vs _ h4;h n w ρ vs us r outs h1 h2 h3 h5
end Go.Ln
namespace Go.Ln
open Go
def tyOf (P:Program)(t:TypeId):Option TI:=
 match P.info? t with
 | some i=>match P.underlying t,i.zero with
  | some d,some z=>some ⟨d,i.size,i.bytes,z⟩
  | _,_=>none
 | none=>none
def fnOf:List (FuncId×Ent)→FuncId→Option Ent
 | [],_=>none
 | (g,e)::l,f=>bif Nat.beq g f then some e else fnOf l f
def mkE (P:Program)(fs:List (FuncId×Ent))(eqs:List TypeId:=[]):Env:=⟨tyOf P,fnOf fs,eqs⟩
theorem agree_mkq {P:Program}{fs:List (FuncId×Ent)}{eqs:List TypeId}(hq:∀t∈eqs,P.stoodInHeld t=false):Agree P (mkE P fs eqs):=by
 have key:∀t ti,tyOf P t=some ti→∃i,P.info? t=some i∧i.size=ti.size∧i.bytes=ti.bytes∧i.zero=some ti.zv∧P.underlying t=some ti.desc:=by
  intro t ti h
  unfold tyOf at h
  split at h
  ·rename_i i hi
   split at h
   ·rename_i d z hd hz
    cases h
    exact⟨i,hi,rfl,rfl,hz,hd⟩
   ·cases h
  ·cases h
 refine⟨fun t ti h=>?_,fun t ti h=>?_,fun t h=>hq t (by simpa[mkE] using h)⟩
 ·obtain⟨i,h1,h2,h3,h4,_⟩:=key t ti h
  exact⟨i,h1,h2,h3,h4⟩
 ·obtain⟨i,_,_,_,_,h5⟩:=key t ti h
  exact h5
theorem agree_mk {P:Program}{fs:List (FuncId×Ent)}:Agree P (mkE P fs):=agree_mkq (by simp)
theorem fnOf_good {P:Program}{G:Ground}:∀{fs:List (FuncId×Ent)},(∀p∈fs,Good P G p.1 p.2)→∀f e,fnOf fs f=some e→Good P G f e
 | [],_,f,e,h=>by simp[fnOf] at h
 | (g,x)::l,hg,f,e,h=>by
  simp only[fnOf,cond_eq_ite] at h
  split at h
  ·rename_i hb
   have:g=f:=Nat.eq_of_beq_eq_true hb
   subst this
   cases h
   exact hg (g,x) (by simp)
  ·exact fnOf_good (fun p hp=>hg p (List.mem_cons_of_mem _ hp)) f e h
def lk (d:V):List (Nat×V)→Nat→V
 | [],_=>d
 | (k,v)::l,t=>bif Nat.beq k t then v else lk d l t
def mkTm (d:V)(n:Nat)(l:List (Nat×V)):List V:=(List.range n).map (lk d l)
def putL (dst:Option Nat)(v:V)(l:List (Nat×V)):List (Nat×V):=
 match dst with
 | some t=>(t,v)::l
 | none=>l
def evM (d:V)(n:Nat)(l:List (Nat×V)):Operand→Option V
 | .tmp t=>bif Nat.ble (t+1) n then some (lk d l t) else none
 | .const v=>zeroV v
 | .func f=>some (.fn f [])
 | .global _=>none
def evMs (d:V)(n:Nat)(l:List (Nat×V)):List Operand→Option (List V)
 | []=>some []
 | x::xs=>match evM d n l x,evMs d n l xs with
  | some v,some vs=>some (v::vs)
  | _,_=>none
theorem mkTm_get {d:V}{n:Nat}{l:List (Nat×V)}{t:Nat}:(mkTm d n l)[t]?=if t<n then some (lk d l t) else none:=by
 unfold mkTm
 rw[List.getElem?_map]
 split
 ·rename_i h;rw[List.getElem?_range h];rfl
 ·rename_i h;rw[List.getElem?_eq_none (by simpa using h)];rfl
theorem lk_cons {d:V}{k:Nat}{v:V}{l:List (Nat×V)}{t:Nat}:lk d ((k,v)::l) t=if k=t then v else lk d l t:=by
 simp only[lk,cond_eq_ite]
 by_cases h:k=t
 ·subst h;simp
 ·have:Nat.beq k t=false:=by
   cases hb:Nat.beq k t with
   | false=>rfl
   | true=>exact absurd (Nat.eq_of_beq_eq_true hb) h
  simp[this,h]
theorem mkTm_put {d:V}{n:Nat}{l:List (Nat×V)}{dst:Option Nat}{v:V}:putT (mkTm d n l) dst v=mkTm d n (putL dst v l):=by
 cases dst with
 | none=>rfl
 | some t=>
  apply List.ext_getElem?
  intro i
  simp only[putT,putL]
  by_cases h:t=i
  ·subst h
   by_cases hn:t<n
   ·rw[List.getElem?_set_self (by simpa[mkTm] using hn),mkTm_get,if_pos hn,lk_cons,if_pos rfl]
   ·rw[List.getElem?_eq_none (by simpa[mkTm] using hn),mkTm_get,if_neg hn]
  ·rw[List.getElem?_set_ne h,mkTm_get,mkTm_get,lk_cons,if_neg h]
theorem evM_eq {d:V}{n:Nat}{l:List (Nat×V)}{rt:Store}{nx:Nat}{x:Operand}:ev ⟨mkTm d n l,rt,nx⟩ x=evM d n l x:=by
 cases x with
 | tmp t=>
  simp only[ev,evM,mkTm_get,cond_eq_ite,Nat.ble_eq]
  rfl
 | _=>rfl
theorem evMs_eq {d:V}{n:Nat}{l:List (Nat×V)}{rt:Store}{nx:Nat}:∀{xs:List Operand},evs ⟨mkTm d n l,rt,nx⟩ xs=evMs d n l xs
 | []=>rfl
 | x::xs=>by
  simp only[evs,evMs,evM_eq,evMs_eq]
  cases evM d n l x<;>cases evMs d n l xs<;>rfl
def cL:Code→Code
 | .seq a _=>a
 | .cond _ a _=>a
 | .block _ b=>b
 | .loop b=>b
 | _=>.skip
def cR:Code→Code
 | .seq _ b=>b
 | .cond _ _ b=>b
 | _=>.skip
def cK:Code→Nat
 | .skip=>0
 | .region _ _ false=>1
 | .seq _ _=>2
 | .cond _ _ _=>3
 | .block _ _=>4
 | .loop _=>5
 | .exit _=>6
 | .ret=>7
 | .region _ _ true=>8
 | _=>9
def cOps:Code→Array Oper
 | .region _ o _=>o
 | _=>#[]
def cCond:Code→Operand
 | .cond x _ _=>x
 | _=>.const undef
def bodyOf (fn:Func):Code:=fn.body.getD .skip
section
variable {E : Env} {m : Nat} {Q : St→Prop} {c : Code} {k k' : List It} {st : St}
theorem s_cond {b:Bool}(h:cK c=3)(hv:ev st (cCond c)=some (.bool b))(h1:b=true→Run E m Q (.code (cL c)::k) st)(h2:b=false→Run E m Q (.code (cR c)::k) st):Run E m Q (.code c::k) st:=by
 cases c with
 | cond x a b'=>
  simp only[cCond] at hv
  cases b with
  | true=>exact .step (by simp[step1,hv,cL]) (h1 rfl)
  | false=>exact .step (by simp[step1,hv,cR]) (h2 rfl)
 | region _ _ b=>cases b<;>cases h
 | _=>cases h
theorem s_loop (h:cK c=5)(r:Run E m Q (.code (cL c)::.lp (cL c)::k) st):Run E m Q (.code c::k) st:=by
 cases c with
 | loop b=>exact .step rfl r
 | region _ _ b=>cases b<;>cases h
 | _=>cases h
theorem s_ret (h:cK c=7)(hq:Q st):Run E m Q (.code c::k) st:=by
 cases c with
 | ret=>exact .step rfl (.done hq)
 | region _ _ b=>cases b<;>cases h
 | _=>cases h
theorem s_draw (ms:List Nat)(h:cK c=8)(hs:static (cOps c) ms=true)(r:Run E m Q (.dops (cOps c) ms 0 []::k) st):Run E m Q (.code c::k) st:=by
 cases c with
 | region _ _ b=>cases b with
  | true=>exact .draw ms hs r
  | false=>cases h
 | _=>cases h
theorem s_lp (r:Run E m Q (.code c::.lp c::k) st):Run E m Q (.lp c::k) st:=.step rfl r
end
def opAt (ops:Array Oper)(i:Nat):Option (Option Nat×Op):=
 match ops[i]? with
 | some ⟨d,o,_,_,_,none⟩=>some (d,o)
 | _=>none
def opAtG (ops:Array Oper)(i:Nat):Option (Option Nat×Op×Option Nat×Bool):=
 match ops[i]? with
 | some ⟨d,o,_,_,_,some (j,w)⟩=>some (d,o,(ops[j]?).bind (·.dst),w)
 | _=>none
theorem opAt_spec {ops:Array Oper}{i:Nat}{d:Option Nat}{o:Op}(h:opAt ops i=some (d,o)):∃x,ops[i]?=some x∧x.dst=d∧x.op=o∧x.guard=none:=by
 unfold opAt at h
 split at h
 ·rename_i d' o' a b c hx
  cases h
  exact⟨_,hx,rfl,rfl,rfl⟩
 ·cases h
theorem opAtG_spec {ops:Array Oper}{i:Nat}{d g:Option Nat}{o:Op}{w:Bool}(h:opAtG ops i=some (d,o,g,w)):∃x j,ops[i]?=some x∧x.dst=d∧x.op=o∧x.guard=some (j,w)∧(ops[j]?).bind (·.dst)=g:=by
 unfold opAtG at h
 split at h
 ·rename_i d' o' a b c j w' hx
  cases h
  exact⟨_,j,hx,rfl,rfl,rfl,rfl⟩
 ·cases h
def gd (v:V)(w:Bool):Option Bool:=
 match v with
 | .bool b=>some (b==w)
 | .und=>some false
 | _=>none
section
variable {E : Env} {m : Nat} {Q : St→Prop} {ops : Array Oper} {i : Nat} {is : List Nat} {k : List It} {d : V} {n : Nat} {l : List (Nat × V)} {rt rt' : Store} {nx : Nat} {dst : Option Nat} {op : Op} {v : V}
theorem want_none {x:Oper}(h:x.guard=none){st:St}:wantV ops st x=some true:=by simp[wantV,h]
theorem want_some {x:Oper}{j t:Nat}{w b:Bool}(h:x.guard=some (j,w))(hj:(ops[j]?).bind (·.dst)=some t)(hn:t<n)(hb:gd (lk d l t) w=some b):wantV ops ⟨mkTm d n l,rt,nx⟩ x=some b:=by
 simp only[wantV,h,yieldV,hj,zqs,mkTm_get,if_pos hn]
 unfold gd at hb
 split at hb
 ·rename_i b' hv
  rw[hv]
  cases hb
  cases b'<;>cases w<;>rfl
 ·rename_i hv
  rw[hv]
  cases hb
  cases w<;>rfl
 ·cases hb
theorem r_op (ho:opAt ops i=some (dst,op))(hv:opV E nx ⟨mkTm d n l,rt,nx⟩ op=some (v,rt'))(r:Run E m Q (.ops ops is::k) ⟨mkTm d n (putL dst v l),rt',nx+16⟩):Run E m Q (.ops ops (i::is)::k) ⟨mkTm d n l,rt,nx⟩:=by
 obtain⟨x,h1,h2,h3,h4⟩:=opAt_spec ho
 refine .step (st':=⟨mkTm d n (putL dst v l),rt',nx+16⟩) ?_ r
 subst h2 h3
 simp[step1,stepV,h1,want_none h4,hv,mkTm_put,room]
theorem r_opG {t:Nat}{w:Bool}(ho:opAtG ops i=some (dst,op,some t,w))(hn:Nat.ble (t+1) n=true)(hg:gd (lk d l t) w=some true)(hv:opV E nx ⟨mkTm d n l,rt,nx⟩ op=some (v,rt'))(r:Run E m Q (.ops ops is::k) ⟨mkTm d n (putL dst v l),rt',nx+16⟩):Run E m Q (.ops ops (i::is)::k) ⟨mkTm d n l,rt,nx⟩:=by
 obtain⟨x,j,h1,h2,h3,h4,h5⟩:=opAtG_spec ho
 refine .step (st':=⟨mkTm d n (putL dst v l),rt',nx+16⟩) ?_ r
 subst h2 h3
 simp[step1,stepV,h1,want_some (rt:=rt) (nx:=nx) h4 h5 (Nat.le_of_ble_eq_true hn) hg,hv,mkTm_put,room]
theorem r_skip {t:Nat}{w:Bool}(ho:opAtG ops i=some (dst,op,some t,w))(hn:Nat.ble (t+1) n=true)(hg:gd (lk d l t) w=some false)(r:Run E m Q (.ops ops is::k) ⟨mkTm d n (putL dst .und l),rt,nx+16⟩):Run E m Q (.ops ops (i::is)::k) ⟨mkTm d n l,rt,nx⟩:=by
 obtain⟨x,j,h1,h2,h3,h4,h5⟩:=opAtG_spec ho
 refine .step (st':=⟨mkTm d n (putL dst .und l),rt,nx+16⟩) ?_ r
 subst h2 h3
 simp[step1,stepV,h1,want_some (rt:=rt) (nx:=nx) h4 h5 (Nat.le_of_ble_eq_true hn) hg,mkTm_put,room]
variable {ms R W : List Nat} {log : Log}
theorem d_op (ho:opAt ops i=some (dst,op))(hv:opV E (nx+16*i) ⟨mkTm d n l,rt,nx⟩ op=some (v,rt'))(hR:opR ⟨mkTm d n l,rt,nx⟩ op=R)(hW:opW E ⟨mkTm d n l,rt,nx⟩ op=W)(hc:okD nx ms i R W log=true)(r:Run E m Q (.dops ops ms (i+1) ((i,R,W)::log)::k) ⟨mkTm d n (putL dst v l),rt',nx⟩):Run E m Q (.dops ops ms i log::k) ⟨mkTm d n l,rt,nx⟩:=by
 obtain⟨x,h1,h2,h3,h4⟩:=opAt_spec ho
 refine .dop (log':=(i,R,W)::log) (st':=⟨mkTm d n (putL dst v l),rt',nx⟩) ?_ r
 subst h2 h3 hR hW
 simp[dstepV,stepV,h1,want_none h4,hv,mkTm_put,room,hc]
theorem d_opG {t:Nat}{w:Bool}(ho:opAtG ops i=some (dst,op,some t,w))(hn:Nat.ble (t+1) n=true)(hg:gd (lk d l t) w=some true)(hv:opV E (nx+16*i) ⟨mkTm d n l,rt,nx⟩ op=some (v,rt'))(hR:opR ⟨mkTm d n l,rt,nx⟩ op=R)(hW:opW E ⟨mkTm d n l,rt,nx⟩ op=W)(hc:okD nx ms i R W log=true)(r:Run E m Q (.dops ops ms (i+1) ((i,R,W)::log)::k) ⟨mkTm d n (putL dst v l),rt',nx⟩):Run E m Q (.dops ops ms i log::k) ⟨mkTm d n l,rt,nx⟩:=by
 obtain⟨x,j,h1,h2,h3,h4,h5⟩:=opAtG_spec ho
 refine .dop (log':=(i,R,W)::log) (st':=⟨mkTm d n (putL dst v l),rt',nx⟩) ?_ r
 subst h2 h3 hR hW
 simp[dstepV,stepV,h1,want_some (rt:=rt) (nx:=nx) h4 h5 (Nat.le_of_ble_eq_true hn) hg,hv,mkTm_put,room,hc]
theorem d_skip {t:Nat}{w:Bool}(ho:opAtG ops i=some (dst,op,some t,w))(hn:Nat.ble (t+1) n=true)(hg:gd (lk d l t) w=some false)(hc:okD nx ms i [] [] log=true)(r:Run E m Q (.dops ops ms (i+1) ((i,[],[])::log)::k) ⟨mkTm d n (putL dst .und l),rt,nx⟩):Run E m Q (.dops ops ms i log::k) ⟨mkTm d n l,rt,nx⟩:=by
 obtain⟨x,j,h1,h2,h3,h4,h5⟩:=opAtG_spec ho
 refine .dop (log':=(i,[],[])::log) (st':=⟨mkTm d n (putL dst .und l),rt,nx⟩) ?_ r
 subst h2 h3
 simp[dstepV,stepV,h1,want_some (rt:=rt) (nx:=nx) h4 h5 (Nat.le_of_ble_eq_true hn) hg,mkTm_put,room,hc]
theorem d_end (h:Nat.ble ops.size i=true)(r:Run E m Q k ⟨mkTm d n l,rt,nx+16*ops.size⟩):Run E m Q (.dops ops ms i log::k) ⟨mkTm d n l,rt,nx⟩:=.dend (Nat.le_of_ble_eq_true h) r
theorem r_split {b:Bool}(t:Nat)(ht:lk d l t=.bool b){todo:List It}(h1:b=true→Run E m Q todo ⟨mkTm d n ((t,.bool true)::l),rt,nx⟩)(h2:b=false→Run E m Q todo ⟨mkTm d n ((t,.bool false)::l),rt,nx⟩):Run E m Q todo ⟨mkTm d n l,rt,nx⟩:=by
 have e:∀x,lk d l t=x→mkTm d n ((t,x)::l)=mkTm d n l:=by
  rintro x rfl
  apply List.ext_getElem?
  intro j
  rw[mkTm_get,mkTm_get,lk_cons]
  split
  ·split
   ·rename_i h;rw[h]
   ·rfl
  ·rfl
 cases b with
 | true=>rw[←e _ ht];exact h1 rfl
 | false=>rw[←e _ ht];exact h2 rfl
end
end Go.Ln
namespace Go.Ln
open Go
def str (s:List UInt8):V:=.str ⟨s.toArray⟩
theorem size_mk {s:List UInt8}:(ByteArray.mk s.toArray).size=s.length:=by simp[ByteArray.size]
section
variable {E : Env} {d : V} {n : Nat} {l : List (Nat × V)} {rt rt' : Store} {id : Nat} {a b v z pv xv : V} {x y p c : Operand} {t t' : TypeId}
theorem e_bin {nx:Nat}{op:BinOp}(hx:evM d n l x=some a)(hy:evM d n l y=some b)(h:binV E op t a b (isLit x||isLit y)=some v):opV E id ⟨mkTm d n l,rt,nx⟩ (.binOp op t x y t')=some (v,rt):=by simp[opV,evM_eq,hx,hy,h]
theorem e_conv {nx:Nat}(hx:evM d n l x=some a)(h:convV E rt t t' a=some v):opV E id ⟨mkTm d n l,rt,nx⟩ (.convert t t' x)=some (v,rt):=by simp[opV,evM_eq,hx,h]
theorem e_box {nx:Nat}(hx:evM d n l x=some a)(h:absorb rt a=some (v,rt')):opV E id ⟨mkTm d n l,rt,nx⟩ (.box t x)=some (.hp id 0 [] (cells v).length 0 0,upd rt' id (some ⟨0,(cells v).length,[v]⟩)):=by simp[opV,evM_eq,hx,h]
theorem e_load {nx:Nat}{ti:TI}{cs:List V}(hp:evM d n l p=some pv)(ht:E.ty t=some ti)(hc:from_ rt pv=some cs)(hs:0<ti.size∧ti.size≤cs.length)(h:mkVal (isAggD ti.desc) (cs.take ti.size)=some v):opV E id ⟨mkTm d n l,rt,nx⟩ (.load t p)=some (v,rt):=by
 simp only[opV,evM_eq,hp,ht,hc,zqs]
 rw[if_pos hs,h];rfl
theorem e_store {nx:Nat}(hp:evM d n l p=some pv)(hx:evM d n l x=some xv)(h:storeV E rt t pv xv=some rt'):opV E id ⟨mkTm d n l,rt,nx⟩ (.store t p x)=some (.und,rt'):=by simp[opV,evM_eq,hp,hx,h]
def faV (rt:Store)(fl:Nat×Nat×Bool):V→Option V
 | .iptr e k=>if 0<fl.2.1∧k+fl.1<(cells e).length then some (.iptr e (k+fl.1)) else none
 | .hp o nv p sz i k=>if 0<fl.2.1∧k+fl.1<sz∧(look rt o nv p).isSome then some (.hp o nv p sz i (k+fl.1)) else none
 | _=>none
theorem e_fieldAddr {nx:Nat}{f:Nat}{fl:Nat×Nat×Bool}(hx:evM d n l x=some xv)(hf:fieldAt? E t f=some fl)(h:faV rt fl xv=some v):opV E id ⟨mkTm d n l,rt,nx⟩ (.fieldAddr t x f)=some (v,rt):=by
 simp only[opV,evM_eq,hx,hf,zqs]
 unfold faV at h
 split at h
 ·split at h<;>cases h
  rename_i hc
  simp only;rw[if_pos hc]
 ·split at h<;>cases h
  rename_i hc
  simp only;rw[if_pos hc]
 ·cases h
theorem e_indexAddr {nx:Nat}{k:IntKind}{i:Int}(hx:evM d n l x=some xv)(hi:evM d n l y=some (.int k i))(ha:alive rt xv=true)(h:idxAddr E t xv i=some v):opV E id ⟨mkTm d n l,rt,nx⟩ (.indexAddr t x y)=some (v,rt):=by
 simp only[opV,evM_eq,hx,hi,zqs]
 rw[if_pos ha,h];rfl
theorem e_index {nx:Nat}{k:IntKind}{i:Int}(hx:evM d n l x=some xv)(hi:evM d n l y=some (.int k i))(h:idxV E t xv i=some v):opV E id ⟨mkTm d n l,rt,nx⟩ (.index t x y)=some (v,rt):=by simp[opV,evM_eq,hx,hi,h]
def boM (d:V)(n:Nat)(l:List (Nat×V)):Option Operand→Option (Option V)
 | some x=>(evM d n l x).map some
 | none=>some none
theorem boM_eq {nx:Nat}{x:Option Operand}:evOpt ⟨mkTm d n l,rt,nx⟩ x=boM d n l x:=by
 cases x with
 | none=>rfl
 | some x=>simp[evOpt,boM,evM_eq]
theorem e_slice {nx:Nat}{lo hi:Option Operand}{lv hv:Option V}(hx:evM d n l x=some xv)(h1:boM d n l lo=some lv)(h2:boM d n l hi=some hv)(ha:alive rt xv=true)(h:sliceV E rt t xv lv hv=some v):opV E id ⟨mkTm d n l,rt,nx⟩ (.slice t x lo hi none)=some (v,rt):=by
 simp only[opV,evM_eq,hx,boM_eq,h1,h2,zqs]
 rw[if_pos ha,h];rfl
theorem e_len {nx:Nat}{ts:Array TypeId}(hx:evM d n l x=some xv)(ht:ts[0]?=some t)(ha:alive rt xv=true)(h:lenV (E.desc t) xv=some v):opV E id ⟨mkTm d n l,rt,nx⟩ (.call { callee:=.builtin .len,args:=#[x],argTypes:=ts })=some (v,rt):=by
 simp only[opV,callOp,evs,evM_eq,hx,zqs,Option.map_some,builtinV]
 rw[if_pos ha,ht];simp[h]
theorem e_append {nx:Nat}{ts:Array TypeId}(hx:evM d n l x=some a)(hy:evM d n l y=some b)(ht:ts[0]?=some t)(ht1:ts[1]?=some t')(hs:isSliceD (E.desc t')=true)(h:appendV E rt id t a b=some (v,rt')):opV E id ⟨mkTm d n l,rt,nx⟩ (.call { callee:=.builtin .append,args:=#[x,y],argTypes:=ts })=some (v,rt'):=by
 simp only[opV,callOp,evs,evM_eq,hx,hy,zqs,Option.map_some,builtinV,ht,ht1]
 rw[if_pos hs,h]
def paM (d:V)(n:Nat)(l:List (Nat×V)):List (Nat×Operand)→Option (List (Nat×V))
 | []=>some []
 | (i,x)::xs=>match evM d n l x,paM d n l xs with
  | some v,some vs=>some ((i,v)::vs)
  | _,_=>none
theorem paM_eq {nx:Nat}:∀{xs:List (Nat×Operand)},evParts ⟨mkTm d n l,rt,nx⟩ xs=paM d n l xs
 | []=>rfl
 | (i,x)::xs=>by
  simp only[evParts,paM,evM_eq,paM_eq]
  cases evM d n l x<;>cases paM d n l xs<;>rfl
def bsV (E:Env)(rt:Store)(id:Nat)(t:TypeId)(n:Nat)(ps:List (Nat×V)):Option (V×Store):=
 match E.ty t with
  | some { desc:=.slice e,.. }=>(E.ty e).bind fun ei=>(zeroV ei.zv).bind fun z=>
   if n*ei.size≤16777216∧0<ei.size∧(cells z).length=ei.size∧isAggV z=isAggD ei.desc then
    (putEls ei.size (isAggD ei.desc) (List.replicate n z) ps).bind fun es=>(absorbEach rt es).map fun y=>(.hs id 0 [] ei.size 0 n,upd y.2 id (some ⟨0,ei.size,y.1⟩))
   else none
  | _=>none
theorem e_buildSlice {nx k:Nat}{ps:Array (Nat×Operand)}{pvs:List (Nat×V)}{r:V×Store}(hx:paM d n l ps.toList=some pvs)(h:bsV E rt id t k pvs=some r):opV E id ⟨mkTm d n l,rt,nx⟩ (.buildSlice t k ps)=some r:=by
 simp only[opV,paM_eq,hx,zqs]
 exact h
def msV (E:Env)(rt:Store)(id:Nat)(t:TypeId)(l c:Int):Option (V×Store):=
 match E.ty t with
  | some { desc:=.slice e,.. }=>(E.ty e).bind fun ei=>(zeroV ei.zv).bind fun z=>
   if 0≤l∧l≤c∧c*ei.bytes≤lim∧c≤lim∧0<ei.size∧(cells z).length=ei.size∧isAggV z=isAggD ei.desc then
    some (.hs id 0 [] ei.size 0 l.toNat,upd rt id (some ⟨0,ei.size,List.replicate l.toNat z⟩)) else none
  | _=>none
theorem e_makeSlice {nx:Nat}{k j:Int}{r:V×Store}(hx:evM d n l x=some (.int .i64 k))(hy:evM d n l y=some (.int .i64 j))(h:msV E rt id t k j=some r):opV E id ⟨mkTm d n l,rt,nx⟩ (.makeSlice t x y)=some r:=by
 simp only[opV,evM_eq,hx,hy,zqs]
 unfold msV at h
 split at h
 ·rename_i e sz bt zv htt
  simp only[htt]
  exact h
 ·cases h
theorem e_callV {nx:Nat}{f:FuncId}{xs:Array Operand}{ts:Array TypeId}{caps args:List V}{fo:Operand}{r:V×Store}(hf:evM d n l fo=some (.fn f caps))(hx:evMs d n l xs.toList=some args)(h:callV E rt id f (args++caps)=some r) :
  opV E id ⟨mkTm d n l,rt,nx⟩ (.call { callee:=.value fo,args:=xs,argTypes:=ts })=some r:=by
 simp[opV,callOp,evM_eq,evMs_eq,hx,hf,h]
theorem addRoots_nil {rt:Store}{id:Nat}:addRoots rt id []=rt:=by
 funext o
 unfold addRoots
 rw[if_neg (by simp)]
end
end Go.Ln
