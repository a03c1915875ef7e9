/-
  The walks.
-/
import Derived.Test.YtcfddlacocdpoaaGreatDoorFnExactOverdueByFun
import Derived.Test.YtcfddlacocdpoaaGreatDoorChecked
set_option maxHeartbeats 4000000
set_option linter.unusedVariables false
set_option linter.unusedSimpArgs false
set_option maxRecDepth 100000
namespace Go.Ln
open Go Go.Proofs
noncomputable abbrev cn:=Checked.mixed Tryz.checked
abbrev cb:=Go.Ln.Ground
abbrev b9 (G:cb):=gq Tryz.prog G
noncomputable abbrev cm:=Xf Tryz.prog
def Fs:((List ae)×Int)→List V:=cA (gp str) (oA I)
def Ft (r:Int):V×List V:=(I r,[])
noncomputable def v6 :=bm [false,false] Fs Ft fun x=>xQ x.1 x.2
theorem Ur {a_1:List ae}{aw:Int}{r}(h:xQ a_1 aw=some r):v6.F (Fs (a_1,aw))=some (Ft r):=aK (aO (cr bP) (aL bf)) h
noncomputable def Ut :=aI Tryz.f41
noncomputable def MK :=cm []
def Us (x:(List ae)×Int)(r:Int):St→Prop:=QF MK Tryz.f41 [false,false] (Fs x) (Ft r)
theorem Pg (a_1:List ae)(aw:Int):cg MK 0 (Us (a_1,aw)) (cL (cL (cR (cL (cR (cR (cR Ut))))))) 0 (uK a_1 aw) (fun u=>(sT 28 [(1,I u)] [] 1)) fun x3=>(sT 28 [(0,.isl false (a_1.map str)),(1,I x3.1),(5,I x3.2)] [] 1):=ef (AF a_1 aw) fun {Q K} hK self ih x3 y h hr hn=>by
 unfold oe at h
 refine cq 5 [12,13] [I x3.2,.isl false (a_1.map str)] 33 ?_
 refine oq 49 (I (len a_1)) rfl (bw rfl rfl rfl (bR rfl)) ?_
 refine cq 2 [15] [B (decide (x3.2<(len a_1)))] 65 ?_
 refine sq h ?_ ?_<;>intro h
 ·refine aq 1 ?_
  refine cq 7 [18,19,20] [I x3.1,.isl false (a_1.map str),I x3.2] 113 ?_
  obtain⟨e4,he4,h⟩:=bS h
  refine oq 129 (.iptr (str e4) 0) rfl (al rfl rfl rfl (bn rfl rfl rfl rfl he4)) ?_
  refine cq 10 [1,26] [I (ac (x3.1 - (len e4))),B (decide ((ac (x3.1 - (len e4)))<0))] 225 ?_
  refine sq h ?_ ?_<;>intro h
  ·refine cq 4 [4] [I (-1)] 241 ?_
   exact ca rfl (hr _ (an h) _ (qp [I (-1)]))
  ·refine aq 1 ?_
   refine cq 6 [5] [I (ac (x3.2+1))] 273 ?_
   refine cX ?_
   exact rf [0,1,5] [] (ih _ _ h hr hn :)
 ·refine aq 1 ?_
  exact rf [1] [] (hn _ (an h) :) (hk:=hK)
theorem Ys (a_1:List ae)(aw:Int)(r:Int)(h:xQ a_1 aw=some r):bx MK Tryz.f41 [false,false] 0 (Fs (a_1,aw)) (Ft r):=by
 show Run _ _ (Us (a_1,aw) r) [.code Ut] _
 refine rI 28 [(0,.isl false (a_1.map str)),(1,I aw)] [] 1 ?_
 unfold xQ at h
 refine cq 8 [6,7] [I aw,.isl false (a_1.map str)] 49 ?_
 refine oq 65 (I (len a_1)) rfl (bw rfl rfl rfl (bR rfl)) ?_
 refine cq 9 [1,11] [I (ac (aw - (len a_1))),B (decide ((ac (aw - (len a_1)))<0))] 129 ?_
 refine sq h ?_ ?_<;>intro h
 ·refine cq 4 [4] [I (-1)] 145 ?_
  obtain rfl:=sI h
  exact rP [I (-1)]
 ·refine aq 1 ?_
  refine cq 6 [5] [I (0)] 145 ?_
  obtain⟨y5,hy5,hy51,hy52⟩:=bJ h
  refine bM rfl ?_
  refine rf [0,1,5] [] (Pg a_1 aw rfl ((ac (aw - (len a_1))),0) _ hy5 (fun r' e st hq=>by rw[hy51 r' e] at hq;exact hq) fun u5 hu=>?_)
  replace h:=hy52 u5 hu
  refine cq 5 [4] [I u5] 33 ?_
  obtain rfl:=sI h
  exact rP [I u5]
theorem Kg {G:cb}:b9 G 41 v6:=gT 2 0 bB cn Tryz.func41 (fun a r h=>Ys a.1 a.2 r h)
def xN:(Condition×Int)→List V:=cA bH (oA I)
def xO (r:Int):V×List V:=(I r,[])
noncomputable def th (bE:(Condition×Int)→Option Int):Ent:=bm [false,false] xN xO bE
theorem Qm (bE:(Condition×Int)→Option Int){x}{r}(h:bE x=some r):(th bE).F (xN x)=some (xO r):=aK (aO dP (aL bf)) h
def Fi:((List Condition)×Int)→List V:=cA (gp aH) (oA I)
def Fj (r:Int):V×List V:=(I r,[])
noncomputable def CB (bE:(Condition×Int)→Option Int):Ent:=bm [false,false] Fi Fj fun x=>xP bE x.1 x.2
theorem adE (bE:(Condition×Int)→Option Int){a_1:List Condition}{aw:Int}{r}(h:xP bE a_1 aw=some r):(CB bE).F (Fi (a_1,aw))=some (Fj r):=aK (aO (cr fY) (aL bf)) h
noncomputable def Uf :=aI Tryz.f168
noncomputable def MJ (bE:(Condition×Int)→Option Int):Env:=cm [(134,(th bE))]
def Ue (bE:(Condition×Int)→Option Int)(x:(List Condition)×Int)(r:Int):St→Prop:=QF (MJ bE) Tryz.f168 [false,false] (Fi x) (Fj r)
theorem Pf (bE:(Condition×Int)→Option Int)(a_1:List Condition)(aw:Int):cg (MJ bE) 0 (Ue bE (a_1,aw)) (cL (cL (cR (cL (cR (cR (cR Uf))))))) 0 (rR bE a_1 aw) (fun u=>(sT 27 [(1,I u)] [] 1)) fun x3=>(sT 27 [(0,.isl false (a_1.map aH)),(1,I x3.1),(5,I x3.2)] [] 1):=ef (AE bE a_1 aw) fun {Q K} hK self ih x3 y h hr hn=>by
 unfold lU at h
 refine cq 5 [12,13] [I x3.2,.isl false (a_1.map aH)] 33 ?_
 refine oq 49 (I (len a_1)) rfl (bw rfl rfl rfl (bR rfl)) ?_
 refine cq 2 [15] [B (decide (x3.2<(len a_1)))] 65 ?_
 refine sq h ?_ ?_<;>intro h
 ·refine aq 1 ?_
  refine cq 6 [18,19] [.isl false (a_1.map aH),I x3.2] 97 ?_
  obtain⟨e4,he4,h⟩:=bS h
  refine oq 113 (.iptr (bH e4) 0) rfl (al rfl rfl rfl (bn rfl rfl (dI e4) rfl he4)) ?_
  refine cq 2 [21,22] [bH e4,I x3.1] 145 ?_
  obtain⟨r5,hr5,h⟩:=bS h
  refine oq 161 (I r5) rfl (bK rfl rfl (b8 rfl rfl rfl (bg (bW rfl) (bg (bW rfl) dj)) (Qm bE hr5) (.inr rfl) dK rfl rfl rfl)) ?_
  refine cq 7 [1,25] [I r5,B (decide (r5<0))] 209 ?_
  refine sq h ?_ ?_<;>intro h
  ·refine cq 4 [4] [I (-1)] 225 ?_
   exact ca rfl (hr _ (an h) _ (qp [I (-1)]))
  ·refine aq 1 ?_
   refine cq 6 [5] [I (ac (x3.2+1))] 257 ?_
   refine cX ?_
   exact rf [0,1,5] [] (ih _ _ h hr hn :)
 ·refine aq 1 ?_
  exact rf [1] [] (hn _ (an h) :) (hk:=hK)
theorem Yn (bE:(Condition×Int)→Option Int)(a_1:List Condition)(aw:Int)(r:Int)(h:xP bE a_1 aw=some r):bx (MJ bE) Tryz.f168 [false,false] 0 (Fi (a_1,aw)) (Fj r):=by
 show Run _ _ (Ue bE (a_1,aw) r) [.code Uf] _
 refine rI 27 [(0,.isl false (a_1.map aH)),(1,I aw)] [] 1 ?_
 unfold xP at h
 refine cq 8 [6,7] [I aw,.isl false (a_1.map aH)] 49 ?_
 refine oq 65 (I (len a_1)) rfl (bw rfl rfl rfl (bR rfl)) ?_
 refine cq 9 [1,11] [I (ac (aw - (len a_1))),B (decide ((ac (aw - (len a_1)))<0))] 129 ?_
 refine sq h ?_ ?_<;>intro h
 ·refine cq 4 [4] [I (-1)] 145 ?_
  obtain rfl:=sI h
  exact rP [I (-1)]
 ·refine aq 1 ?_
  refine cq 6 [5] [I (0)] 145 ?_
  obtain⟨y6,hy6,hy61,hy62⟩:=bJ h
  refine bM rfl ?_
  refine rf [0,1,5] [] (Pf bE a_1 aw rfl ((ac (aw - (len a_1))),0) _ hy6 (fun r' e st hq=>by rw[hy61 r' e] at hq;exact hq) fun u6 hu=>?_)
  replace h:=hy62 u6 hu
  refine cq 5 [4] [I u6] 33 ?_
  obtain rfl:=sI h
  exact rP [I u6]
theorem Ug {G:cb}(bE:(Condition×Int)→Option Int)(N7:b9 G 134 (th bE)):b9 G 168 (CB bE):=gT 2 0 (aN N7 bB) cn Tryz.func168 (fun a r h=>Yn bE a.1 a.2 r h)
noncomputable def CA :=th (aJ qI)
theorem adB {a_1:Condition}{aw:Int}{r}(h:xM a_1 aw=some r):CA.F (xN (a_1,aw))=some (xO r):=Qm (aJ qI) h
noncomputable def adD :=aI Tryz.f134
noncomputable def Uc (bE:(Condition×Int)→Option Int):Env:=cm [(168,(CB bE))]
def adC (bE:(Condition×Int)→Option Int)(x:Condition×Int)(r:Int):St→Prop:=QF (Uc bE) Tryz.f134 [false,false] (xN x) (xO r)
theorem Ym (bE:(Condition×Int)→Option Int)(a_1:Condition)(aw:Int)(r:Int)(h:uJ bE a_1 aw=some r):bx (Uc bE) Tryz.f134 [false,false] 0 (xN (a_1,aw)) (xO r):=by
 show Run _ _ (adC bE (a_1,aw) r) [.code adD] _
 refine rI 19 [(0,bH a_1),(1,I aw)] [] 1 ?_
 unfold uJ at h
 refine ck 20 [1,2,11] [] [1] [] [I (ac (aw - (len a_1.Name))),.hp 1 0 [] 4 0 0,B (decide ((ac (aw - (len a_1.Name)))<0))] [some ⟨0,4,[bH a_1]⟩] 161 (by kernel_rfl) ?_
 refine sq h ?_ ?_<;>intro h
 ·refine cq 4 [4] [I (-1)] 177 ?_
  obtain rfl:=sI h
  exact rP [I (-1)]
 ·refine aq 1 ?_
  refine cq 5 [13,14] [.isl false (a_1.Parts.map aH),I (ac (aw - (len a_1.Name)))] 209 ?_
  obtain⟨r3,hr3,h⟩:=bS h
  refine oq 225 (I r3) rfl (bK rfl rfl (b8 rfl rfl rfl (bg (bW rfl) (bg (bW rfl) dj)) (adE bE hr3) (.inr rfl) dK rfl rfl rfl)) ?_
  refine cq 8 [1,17] [I r3,B (decide (r3<0))] 273 ?_
  refine sq h ?_ ?_<;>intro h
  ·refine cq 4 [4] [I (-1)] 289 ?_
   obtain rfl:=sI h
   exact rP [I (-1)]
  ·refine aq 1 ?_
   refine cq 5 [4] [I r3] 305 ?_
   obtain rfl:=sI h
   exact rP [I r3]
theorem Ud {G:cb}:b9 G 134 CA:=jL fun bE N7=>gT 2 0 (aN (Ug bE N7) bB) cn Tryz.func134 (fun a r h=>Ym bE a.1 a.2 r h)
def Fe:(Clause×Int)→List V:=cA au (oA I)
def Ff (r:Int):V×List V:=(I r,[])
noncomputable def Cx :=bm [false,false] Fe Ff fun x=>vZ x.1 x.2
theorem adx {a_1:Clause}{aw:Int}{r}(h:vZ a_1 aw=some r):Cx.F (Fe (a_1,aw))=some (Ff r):=aK (aO dU (aL bf)) h
noncomputable def adz :=aI Tryz.f88
noncomputable def T7 :=cm [(134,CA)]
def ady (x:Clause×Int)(r:Int):St→Prop:=QF T7 Tryz.f88 [false,false] (Fe x) (Ff r)
theorem Yi (a_1:Clause)(aw:Int)(r:Int)(h:vZ a_1 aw=some r):bx T7 Tryz.f88 [false,false] 0 (Fe (a_1,aw)) (Ff r):=by
 show Run _ _ (ady (a_1,aw) r) [.code adz] _
 refine rI 33 [(0,au a_1),(1,I aw)] [] 1 ?_
 unfold vZ at h
 refine ck 20 [1,2,11] [] [1] [] [I (ac (aw - (len a_1.Id))),.hp 1 0 [] 12 0 0,B (decide ((ac (aw - (len a_1.Id)))<0))] [some ⟨0,12,[au a_1]⟩] 161 (by kernel_rfl) ?_
 refine sq h ?_ ?_<;>intro h
 ·refine cq 4 [4] [I (-1)] 177 ?_
  obtain rfl:=sI h
  exact rP [I (-1)]
 ·refine aq 1 ?_
  refine cq 15 [1,18] [I (ac ((ac (aw - (len a_1.Id))) - (len a_1.Action))),B (decide ((ac ((ac (aw - (len a_1.Id))) - (len a_1.Action)))<0))] 289 ?_
  refine sq h ?_ ?_<;>intro h
  ·refine cq 4 [4] [I (-1)] 305 ?_
   obtain rfl:=sI h
   exact rP [I (-1)]
  ·refine aq 1 ?_
   refine cq 5 [20,21] [bH a_1.When,I (ac ((ac (aw - (len a_1.Id))) - (len a_1.Action)))] 337 ?_
   obtain⟨r3,hr3,h⟩:=bS h
   refine oq 353 (I r3) rfl (cP (adB hr3)) ?_
   refine cq 8 [1,24] [I r3,B (decide (r3<0))] 401 ?_
   refine sq h ?_ ?_<;>intro h
   ·refine cq 4 [4] [I (-1)] 417 ?_
    obtain rfl:=sI h
    exact rP [I (-1)]
   ·refine aq 1 ?_
    refine cq 15 [1,31] [I (ac (r3 - (len a_1.Repair))),B (decide ((ac (r3 - (len a_1.Repair)))<0))] 529 ?_
    refine sq h ?_ ?_<;>intro h
    ·refine cq 4 [4] [I (-1)] 545 ?_
     obtain rfl:=sI h
     exact rP [I (-1)]
    ·refine aq 1 ?_
     refine cq 5 [4] [I (ac (r3 - (len a_1.Repair)))] 561 ?_
     obtain rfl:=sI h
     exact rP [I (ac (r3 - (len a_1.Repair)))]
theorem T8 {G:cb}:b9 G 88 Cx:=gT 2 0 (aN Ud bB) cn Tryz.func88 (fun a r h=>Yi a.1 a.2 r h)
def Fg:((List Clause)×Int)→List V:=cA (gp au) (oA I)
def Fh (r:Int):V×List V:=(I r,[])
noncomputable def Cz :=bm [false,false] Fg Fh fun x=>Cy x.1 x.2
theorem adA {a_1:List Clause}{aw:Int}{r}(h:Cy a_1 aw=some r):Cz.F (Fg (a_1,aw))=some (Fh r):=aK (aO (cr dU) (aL bf)) h
noncomputable def Ua :=aI Tryz.f42
noncomputable def MI :=cm [(88,Cx)]
def T9 (x:(List Clause)×Int)(r:Int):St→Prop:=QF MI Tryz.f42 [false,false] (Fg x) (Fh r)
theorem Pe (a_1:List Clause)(aw:Int):cg MI 0 (T9 (a_1,aw)) (cL (cL (cR (cL (cR (cR (cR Ua))))))) 0 (uI a_1 aw) (fun u=>(sT 27 [(1,I u)] [] 1)) fun x3=>(sT 27 [(0,.isl false (a_1.map au)),(1,I x3.1),(5,I x3.2)] [] 1):=ef (AD a_1 aw) fun {Q K} hK self ih x3 y h hr hn=>by
 unfold od at h
 refine cq 5 [12,13] [I x3.2,.isl false (a_1.map au)] 33 ?_
 refine oq 49 (I (len a_1)) rfl (bw rfl rfl rfl (bR rfl)) ?_
 refine cq 2 [15] [B (decide (x3.2<(len a_1)))] 65 ?_
 refine sq h ?_ ?_<;>intro h
 ·refine aq 1 ?_
  refine cq 6 [18,19] [.isl false (a_1.map au),I x3.2] 97 ?_
  obtain⟨e4,he4,h⟩:=bS h
  refine oq 113 (.iptr (au e4) 0) rfl (al rfl rfl rfl (bn rfl rfl rfl rfl he4)) ?_
  refine cq 2 [21,22] [au e4,I x3.1] 145 ?_
  obtain⟨r5,hr5,h⟩:=bS h
  refine oq 161 (I r5) rfl (cP (adx hr5)) ?_
  refine cq 7 [1,25] [I r5,B (decide (r5<0))] 209 ?_
  refine sq h ?_ ?_<;>intro h
  ·refine cq 4 [4] [I (-1)] 225 ?_
   exact ca rfl (hr _ (an h) _ (qp [I (-1)]))
  ·refine aq 1 ?_
   refine cq 6 [5] [I (ac (x3.2+1))] 257 ?_
   refine cX ?_
   exact rf [0,1,5] [] (ih _ _ h hr hn :)
 ·refine aq 1 ?_
  exact rf [1] [] (hn _ (an h) :) (hk:=hK)
theorem Yk (a_1:List Clause)(aw:Int)(r:Int)(h:Cy a_1 aw=some r):bx MI Tryz.f42 [false,false] 0 (Fg (a_1,aw)) (Fh r):=by
 show Run _ _ (T9 (a_1,aw) r) [.code Ua] _
 refine rI 27 [(0,.isl false (a_1.map au)),(1,I aw)] [] 1 ?_
 unfold Cy at h
 refine cq 8 [6,7] [I aw,.isl false (a_1.map au)] 49 ?_
 refine oq 65 (I (len a_1)) rfl (bw rfl rfl rfl (bR rfl)) ?_
 refine cq 9 [1,11] [I (ac (aw - (len a_1))),B (decide ((ac (aw - (len a_1)))<0))] 129 ?_
 refine sq h ?_ ?_<;>intro h
 ·refine cq 4 [4] [I (-1)] 145 ?_
  obtain rfl:=sI h
  exact rP [I (-1)]
 ·refine aq 1 ?_
  refine cq 6 [5] [I (0)] 145 ?_
  obtain⟨y6,hy6,hy61,hy62⟩:=bJ h
  refine bM rfl ?_
  refine rf [0,1,5] [] (Pe a_1 aw rfl ((ac (aw - (len a_1))),0) _ hy6 (fun r' e st hq=>by rw[hy61 r' e] at hq;exact hq) fun u6 hu=>?_)
  replace h:=hy62 u6 hu
  refine cq 5 [4] [I u6] 33 ?_
  obtain rfl:=sI h
  exact rP [I u6]
theorem Ub {G:cb}:b9 G 42 Cz:=gT 2 0 (aN T8 bB) cn Tryz.func42 (fun a r h=>Yk a.1 a.2 r h)
def Fk:(Contract×Int)→List V:=cA aV (oA I)
def Fl (r:Int):V×List V:=(I r,[])
noncomputable def CD :=bm [false,false] Fk Fl fun x=>CC x.1 x.2
theorem adF {a_1:Contract}{aw:Int}{r}(h:CC a_1 aw=some r):CD.F (Fk (a_1,aw))=some (Fl r):=aK (aO bv (aL bf)) h
noncomputable def adH :=aI Tryz.f12
noncomputable def Uh :=cm [(41,v6),(42,Cz)]
def adG (x:Contract×Int)(r:Int):St→Prop:=QF Uh Tryz.f12 [false,false] (Fk x) (Fl r)
theorem Yo (a_1:Contract)(aw:Int)(r:Int)(h:CC a_1 aw=some r):bx Uh Tryz.f12 [false,false] 0 (Fk (a_1,aw)) (Fl r):=by
 show Run _ _ (adG (a_1,aw) r) [.code adH] _
 refine rI 18 [(0,aV a_1),(1,I aw)] [] 1 ?_
 unfold CC at h
 refine ck 10 [2,6,7] [] [1] [] [.hp 1 0 [] 2 0 0,.isl false (a_1.Parties.map str),I aw] [some ⟨0,2,[aV a_1]⟩] 81 (by kernel_rfl) ?_
 obtain⟨r3,hr3,h⟩:=bS h
 refine oq 97 (I r3) rfl (cP (Ur hr3)) ?_
 refine cq 8 [1,10] [I r3,B (decide (r3<0))] 145 ?_
 refine sq h ?_ ?_<;>intro h
 ·refine cq 4 [4] [I (-1)] 161 ?_
  obtain rfl:=sI h
  exact rP [I (-1)]
 ·refine aq 1 ?_
  refine cq 5 [12,13] [.isl false (a_1.Clauses.map au),I r3] 193 ?_
  obtain⟨r4,hr4,h⟩:=bS h
  refine oq 209 (I r4) rfl (cP (adA hr4)) ?_
  refine cq 8 [1,16] [I r4,B (decide (r4<0))] 257 ?_
  refine sq h ?_ ?_<;>intro h
  ·refine cq 4 [4] [I (-1)] 273 ?_
   obtain rfl:=sI h
   exact rP [I (-1)]
  ·refine aq 1 ?_
   refine cq 5 [4] [I r4] 289 ?_
   obtain rfl:=sI h
   exact rP [I r4]
theorem Ui {G:cb}:b9 G 12 CD:=gT 2 0 (aN Kg (aN Ub bB)) cn Tryz.func12 (fun a r h=>Yo a.1 a.2 r h)
def Fm:((List Duty)×Int)→List V:=cA (gp ah) (oA I)
def Fn (r:Int):V×List V:=(I r,[])
noncomputable def CF :=bm [false,false] Fm Fn fun x=>CE x.1 x.2
theorem adI {a_1:List Duty}{aw:Int}{r}(h:CE a_1 aw=some r):CF.F (Fm (a_1,aw))=some (Fn r):=aK (aO (cr eh) (aL bf)) h
noncomputable def adK :=aI Tryz.f53
noncomputable def Uj :=cm []
def adJ (x:(List Duty)×Int)(r:Int):St→Prop:=QF Uj Tryz.f53 [false,false] (Fm x) (Fn r)
theorem Yp (a_1:List Duty)(aw:Int)(r:Int)(h:CE a_1 aw=some r):bx Uj Tryz.f53 [false,false] 0 (Fm (a_1,aw)) (Fn r):=by
 show Run _ _ (adJ (a_1,aw) r) [.code adK] _
 refine rI 12 [(0,.isl false (a_1.map ah)),(1,I aw)] [] 1 ?_
 unfold CE at h
 refine cq 8 [5,6] [I aw,.isl false (a_1.map ah)] 49 ?_
 refine oq 65 (I (len a_1)) rfl (bw rfl rfl rfl (bR rfl)) ?_
 refine cq 9 [1,10] [I (ac (aw - (len a_1))),B (decide ((ac (aw - (len a_1)))<0))] 129 ?_
 refine sq h ?_ ?_<;>intro h
 ·refine cq 4 [4] [I (-1)] 145 ?_
  obtain rfl:=sI h
  exact rP [I (-1)]
 ·refine aq 1 ?_
  refine cq 5 [4] [I (ac (aw - (len a_1)))] 161 ?_
  obtain rfl:=sI h
  exact rP [I (ac (aw - (len a_1)))]
theorem Uk {G:cb}:b9 G 53 CF:=gT 2 0 bB cn Tryz.func53 (fun a r h=>Yp a.1 a.2 r h)
def Fo:((List Int)×Int)→List V:=cA (gp I) (oA I)
def Fp (r:Int):V×List V:=(I r,[])
noncomputable def CH :=bm [false,false] Fo Fp fun x=>CG x.1 x.2
theorem adL {a_1:List Int}{aw:Int}{r}(h:CG a_1 aw=some r):CH.F (Fo (a_1,aw))=some (Fp r):=aK (aO (cr bf) (aL bf)) h
noncomputable def adN :=aI Tryz.f54
noncomputable def Ul :=cm []
def adM (x:(List Int)×Int)(r:Int):St→Prop:=QF Ul Tryz.f54 [false,false] (Fo x) (Fp r)
theorem Yq (a_1:List Int)(aw:Int)(r:Int)(h:CG a_1 aw=some r):bx Ul Tryz.f54 [false,false] 0 (Fo (a_1,aw)) (Fp r):=by
 show Run _ _ (adM (a_1,aw) r) [.code adN] _
 refine rI 12 [(0,.isl false (a_1.map I)),(1,I aw)] [] 1 ?_
 unfold CG at h
 refine cq 8 [5,6] [I aw,.isl false (a_1.map I)] 49 ?_
 refine oq 65 (I (len a_1)) rfl (bw rfl rfl rfl (bR rfl)) ?_
 refine cq 9 [1,10] [I (ac (aw - (len a_1))),B (decide ((ac (aw - (len a_1)))<0))] 129 ?_
 refine sq h ?_ ?_<;>intro h
 ·refine cq 4 [4] [I (-1)] 145 ?_
  obtain rfl:=sI h
  exact rP [I (-1)]
 ·refine aq 1 ?_
  refine cq 5 [4] [I (ac (aw - (len a_1)))] 161 ?_
  obtain rfl:=sI h
  exact rP [I (ac (aw - (len a_1)))]
theorem Um {G:cb}:b9 G 54 CH:=gT 2 0 bB cn Tryz.func54 (fun a r h=>Yq a.1 a.2 r h)
def Fq:(State×Int)→List V:=cA bN (oA I)
def Fr (r:Int):V×List V:=(I r,[])
noncomputable def CJ :=bm [false,false] Fq Fr fun x=>CI x.1 x.2
theorem adO {a_1:State}{aw:Int}{r}(h:CI a_1 aw=some r):CJ.F (Fq (a_1,aw))=some (Fr r):=aK (aO cw (aL bf)) h
noncomputable def adQ :=aI Tryz.f21
noncomputable def Uo :=cm [(41,v6),(53,CF),(54,CH)]
def adP (x:State×Int)(r:Int):St→Prop:=QF Uo Tryz.f21 [false,false] (Fq x) (Fr r)
theorem Yr (a_1:State)(aw:Int)(r:Int)(h:CI a_1 aw=some r):bx Uo Tryz.f21 [false,false] 0 (Fq (a_1,aw)) (Fr r):=by
 show Run _ _ (adP (a_1,aw) r) [.code adQ] _
 refine rI 24 [(0,bN a_1),(1,I aw)] [] 1 ?_
 unfold CI at h
 refine ck 10 [2,6,7] [] [1] [] [.hp 1 0 [] 5 0 0,.isl false (a_1.Facts.map str),I aw] [some ⟨0,5,[bN a_1]⟩] 81 (by kernel_rfl) ?_
 obtain⟨r3,hr3,h⟩:=bS h
 refine oq 97 (I r3) rfl (cP (Ur hr3)) ?_
 refine cq 8 [1,10] [I r3,B (decide (r3<0))] 145 ?_
 refine sq h ?_ ?_<;>intro h
 ·refine cq 4 [4] [I (-1)] 161 ?_
  obtain rfl:=sI h
  exact rP [I (-1)]
 ·refine aq 1 ?_
  refine cq 5 [12,13] [.isl false (a_1.Duties.map ah),I r3] 193 ?_
  obtain⟨r4,hr4,h⟩:=bS h
  refine oq 209 (I r4) rfl (cP (adI hr4)) ?_
  refine cq 8 [1,16] [I r4,B (decide (r4<0))] 257 ?_
  refine sq h ?_ ?_<;>intro h
  ·refine cq 4 [4] [I (-1)] 273 ?_
   obtain rfl:=sI h
   exact rP [I (-1)]
  ·refine aq 1 ?_
   refine cq 5 [18,19] [.isl false (a_1.Balances.map I),I r4] 305 ?_
   obtain⟨r5,hr5,h⟩:=bS h
   refine oq 321 (I r5) rfl (cP (adL hr5)) ?_
   refine cq 8 [1,22] [I r5,B (decide (r5<0))] 369 ?_
   refine sq h ?_ ?_<;>intro h
   ·refine cq 4 [4] [I (-1)] 385 ?_
    obtain rfl:=sI h
    exact rP [I (-1)]
   ·refine aq 1 ?_
    refine cq 5 [4] [I r5] 401 ?_
    obtain rfl:=sI h
    exact rP [I r5]
theorem Uq {G:cb}:b9 G 21 CJ:=gT 2 0 (aN Kg (aN Uk (aN Um bB))) cn Tryz.func21 (fun a r h=>Yr a.1 a.2 r h)
def FK:(List ae)→List V:=oA (gp str)
def FL (r:(List ae)):V×List V:=(.usl 1 (r.map str),[])
noncomputable def v7 :=bm [false] FK FL fun x=>xW x
theorem UR {a_1:List ae}{r}(h:xW a_1=some r):v7.F (FK a_1)=some (FL r):=aK (aL (cr bP)) h
noncomputable def UT :=aI Tryz.f45
noncomputable def MP :=cm []
def US (x:(List ae))(r:(List ae)):St→Prop:=QF MP Tryz.f45 [false] (FK x) (FL r)
theorem Pm (a_1:List ae):cg MP 0 (US a_1) (cL (cL (cR (cL (cR (cR UT)))))) 0 (uQ a_1) (fun u=>(sT 22 [(3,.hs 1 0 [] 1 0 (u.map str).length)] [⟨0,1,u.map str⟩] 2)) fun x3=>(sT 22 [(0,.isl false (a_1.map str)),(3,.hs 1 0 [] 1 0 (x3.2.map str).length),(4,I x3.1)] [⟨0,1,x3.2.map str⟩] 2):=ef (AK a_1) fun {Q K} hK self ih x3 y h hr hn=>by
 unfold oo at h
 refine cq 5 [8,9] [I x3.1,.isl false (a_1.map str)] 34 ?_
 refine oq 50 (I (len a_1)) rfl (bw rfl rfl rfl (bR rfl)) ?_
 refine cq 2 [11] [B (decide (x3.1<(len a_1)))] 66 ?_
 refine sq h ?_ ?_<;>intro h
 ·refine aq 1 ?_
  refine cq 7 [14,15,16,17] [.hs 1 0 [] 1 0 (x3.2.map str).length,I x3.1,.isl false (a_1.map str),I x3.1] 130 ?_
  obtain⟨e4,he4,h⟩:=bS h
  refine oq 146 (.iptr (str e4) 0) rfl (al rfl rfl rfl (bn rfl rfl rfl rfl he4)) ?_
  refine cq 1 [19] [str e4] 162 ?_
  obtain⟨e5,he5,h⟩:=bS h
  refine oq 178 (.hp 1 0 [] 1 (0+Int.toNat x3.1) 0) rfl (al rfl rfl rfl (ce (f:=str) (xs:=x3.2) rfl rfl rfl he5)) ?_
  refine o0 194 rfl rfl (et rfl rfl (dF (path:=[]) (pl:=true) (e':=str e4) (es2':=(bI x3.2 x3.1 e4).map str) rfl (ba rfl) rfl rfl rfl aF (bO (f:=str) (xs:=x3.2) he5) rfl rfl rfl (gB (f:=str) (xs:=x3.2) (y:=e4)) cJ 0 rfl)) ?_
  try rw[←fK (f:=str) (xs:=x3.2) (i:=x3.1) (z:=e4)]
  refine cq 7 [4] [I (ac (x3.1+1))] 242 ?_
  refine cX ?_
  exact rf [0,3,4] [1] (ih _ _ h hr hn :)
 ·refine aq 1 ?_
  exact rf [3] [1] (hn _ (an h) :) (hk:=hK)
theorem YD (a_1:List ae)(r:(List ae))(h:xW a_1=some r):bx MP Tryz.f45 [false] 0 (FK a_1) (FL r):=by
 show Run _ _ (US a_1 r) [.code UT] _
 refine rI 22 [(0,.isl false (a_1.map str))] [] 1 ?_
 unfold xW at h
 refine cq 7 [5] [.isl false (a_1.map str)] 33 ?_
 refine oq 49 (I (len a_1)) rfl (bw rfl rfl rfl (bR rfl)) ?_
 obtain⟨m2,hm2,h⟩:=bS h
 refine oq 65 (.hs 49 0 [] 1 0 (m2.map str).length) rfl (lu rfl rfl (Ix (f:=str) rfl rfl rfl (by decide) hm2 rfl)) ?_
 refine cq 8 [3,4] [.hs 49 0 [] 1 0 (m2.map str).length,I (0)] 97 ?_
 obtain⟨y6,hy6,hy61,hy62⟩:=bJ h
 refine bM rfl ?_
 refine rf [0,3,4] [49] (Pm a_1 rfl (0,m2) _ hy6 (fun r' e st hq=>by rw[hy61 r' e] at hq;exact hq) fun u6 hu=>?_)
 replace h:=hy62 u6 hu
 refine cq 5 [2] [.hs 1 0 [] 1 0 (u6.map str).length] 34 ?_
 obtain rfl:=sI h
 exact ca rfl ⟨_,fin (vs:=[.hs 1 0 [] 1 0 (u6.map str).length]) rfl (eU (gi rfl (dx rfl rfl)) d3) rfl (cz eP),eI⟩
theorem Kh {G:cb}:b9 G 45 v7:=gT 1 0 bB cn Tryz.func45 (fun a r h=>YD a r h)
def xS:Condition→List V:=oA bH
def xT (r:Condition):V×List V:=(rh r,[])
noncomputable def tj (bF:Condition→Option Condition):Ent:=bm [false] xS xT bF
theorem Qn (bF:Condition→Option Condition){x}{r}(h:bF x=some r):(tj bF).F (xS x)=some (xT r):=aK (aL dP) h
def Fy:(List Condition)→List V:=oA (gp aH)
def Fz (r:(List Condition)):V×List V:=(.usl 4 (r.map aj),[])
noncomputable def CP (bF:Condition→Option Condition):Ent:=bm [false] Fy Fz fun x=>xU bF x
theorem adY (bF:Condition→Option Condition){a_1:List Condition}{r}(h:xU bF a_1=some r):(CP bF).F (Fy a_1)=some (Fz r):=aK (aL (cr fY)) h
noncomputable def UC :=aI Tryz.f174
noncomputable def MM (bF:Condition→Option Condition):Env:=cm [(139,(tj bF))]
def UB (bF:Condition→Option Condition)(x:(List Condition))(r:(List Condition)):St→Prop:=QF (MM bF) Tryz.f174 [false] (Fy x) (Fz r)
theorem Pi (bF:Condition→Option Condition)(a_1:List Condition):cg (MM bF) 0 (UB bF a_1) (cL (cL (cR (cL (cR (cR UC)))))) 0 (rS bF a_1) (fun u=>(sT 23 [(3,.hs 1 0 [] 4 0 (u.map aj).length)] [⟨0,4,u.map aj⟩] 2)) fun x3=>(sT 23 [(0,.isl false (a_1.map aH)),(3,.hs 1 0 [] 4 0 (x3.2.map aj).length),(4,I x3.1)] [⟨0,4,x3.2.map aj⟩] 2):=ef (AH bF a_1) fun {Q K} hK self ih x3 y h hr hn=>by
 unfold lV at h
 refine cq 5 [8,9] [I x3.1,.isl false (a_1.map aH)] 34 ?_
 refine oq 50 (I (len a_1)) rfl (bw rfl rfl rfl (bR rfl)) ?_
 refine cq 2 [11] [B (decide (x3.1<(len a_1)))] 66 ?_
 refine sq h ?_ ?_<;>intro h
 ·refine aq 1 ?_
  refine cq 7 [14,15,16,17] [.hs 1 0 [] 4 0 (x3.2.map aj).length,I x3.1,.isl false (a_1.map aH),I x3.1] 130 ?_
  obtain⟨e4,he4,h⟩:=bS h
  refine oq 146 (.iptr (bH e4) 0) rfl (al rfl rfl rfl (bn rfl rfl (dI e4) rfl he4)) ?_
  refine cq 1 [19] [bH e4] 162 ?_
  obtain⟨r5,hr5,h⟩:=bS h
  refine oq 178 (.agg [I r5.Op,str r5.Name,I r5.Day,.hs 162 0 [] 4 0 (r5.Parts.map aj).length]) rfl (bK rfl rfl (b8 rfl rfl rfl (bg (bW rfl) dj) (Qn bF hr5) (.inr rfl) dK rfl rfl rfl)) ?_
  obtain⟨e6,he6,h⟩:=bS h
  refine oq 194 (.hp 1 0 [] 4 (0+Int.toNat x3.1) 0) rfl (al rfl rfl rfl (ce (f:=aj) (xs:=x3.2) rfl rfl rfl he6)) ?_
  refine o0 210 rfl rfl (et rfl rfl (dF (path:=[]) (pl:=false) (e':=rh r5) (es2':=(bI x3.2 x3.1 r5).map aj) rfl (nP (cB (dA rfl) (cB (dA rfl) (cB (dA rfl) (cB (dx rfl rfl) nQ))))) rfl rfl rfl aF (mp (f:=aj) (xs:=x3.2) (dJ e6) he6) rfl rfl rfl (Eg (f:=aj) (xs:=x3.2) (dJ r5)) cJ 1 rfl)) ?_
  try rw[←fK (f:=aj) (xs:=x3.2) (i:=x3.1) (z:=r5)]
  refine cq 7 [4] [I (ac (x3.1+1))] 258 ?_
  refine cX ?_
  exact rf [0,3,4] [1] (ih _ _ h hr hn :)
 ·refine aq 1 ?_
  exact rf [3] [1] (hn _ (an h) :) (hk:=hK)
theorem Yx (bF:Condition→Option Condition)(a_1:List Condition)(r:(List Condition))(h:xU bF a_1=some r):bx (MM bF) Tryz.f174 [false] 0 (Fy a_1) (Fz r):=by
 show Run _ _ (UB bF a_1 r) [.code UC] _
 refine rI 23 [(0,.isl false (a_1.map aH))] [] 1 ?_
 unfold xU at h
 refine cq 7 [5] [.isl false (a_1.map aH)] 33 ?_
 refine oq 49 (I (len a_1)) rfl (bw rfl rfl rfl (bR rfl)) ?_
 obtain⟨m2,hm2,h⟩:=bS h
 refine oq 65 (.hs 49 0 [] 4 0 (m2.map aj).length) rfl (lu rfl rfl (Xh (g:=aj) (f:=fun _=>(.agg [I (0),str ([]),I (0),.isl true []]:V)) (z0:=(Condition.mk 0 [] 0 [])) rfl rfl rfl (by decide) hm2 rfl)) ?_
 refine gk 49 (m2.map aj) rfl rfl (NX hm2 ((dJ _).symm▸iw (aQ (.refl _) (aQ (.refl _) (aQ (.refl _) (aQ (.nil _) fh)))))) ?_
 refine cq 8 [3,4] [.hs 49 0 [] 4 0 (m2.map aj).length,I (0)] 97 ?_
 obtain⟨y7,hy7,hy71,hy72⟩:=bJ h
 refine bM rfl ?_
 refine rf [0,3,4] [49] (Pi bF a_1 rfl (0,m2) _ hy7 (fun r' e st hq=>by rw[hy71 r' e] at hq;exact hq) fun u7 hu=>?_)
 replace h:=hy72 u7 hu
 refine cq 5 [2] [.hs 1 0 [] 4 0 (u7.map aj).length] 34 ?_
 obtain rfl:=sI h
 exact ca rfl ⟨_,fin (vs:=[.hs 1 0 [] 4 0 (u7.map aj).length]) rfl (eU (gi rfl (dx rfl rfl)) d3) rfl (cz eP),eI⟩
theorem UD {G:cb}(bF:Condition→Option Condition)(N8:b9 G 139 (tj bF)):b9 G 174 (CP bF):=gT 1 0 (aN N8 bB) cn Tryz.func174 (fun a r h=>Yx bF a r h)
noncomputable def CO :=tj (aJ qJ)
theorem adV {a_1:Condition}{r}(h:CN a_1=some r):CO.F (xS a_1)=some (xT r):=Qn (aJ qJ) h
noncomputable def adX :=aI Tryz.f139
noncomputable def Uz (bF:Condition→Option Condition):Env:=cm [(174,(CP bF))]
def adW (bF:Condition→Option Condition)(x:Condition)(r:Condition):St→Prop:=QF (Uz bF) Tryz.f139 [false] (xS x) (xT r)
theorem Yw (bF:Condition→Option Condition)(a_1:Condition)(r:Condition)(h:uM bF a_1=some r):bx (Uz bF) Tryz.f139 [false] 0 (xS a_1) (xT r):=by
 show Run _ _ (adW bF a_1 r) [.code adX] _
 refine rI 18 [(0,bH a_1)] [] 1 ?_
 unfold uM at h
 refine ck 4 [1,2] [] [1,17] [] [.hp 1 0 [] 4 0 0,.hp 17 0 [] 4 0 0] [some ⟨0,4,[bH a_1]⟩,some ⟨0,4,[.agg [I (0),str ([]),I (0),.isl true []]]⟩] 33 (by kernel_rfl) ?_
 refine gk 17 [.agg [I (0),str ([]),I (0),.usl 4 (([]).map aj)]] rfl rfl (aQ (iw (aQ (.refl _) (aQ (.refl _) (aQ (.refl _) (aQ (.nil _) fh))))) fh) ?_
 refine ck 4 [3] [] [33] [] [.hp 33 0 [] 4 0 0] [some ⟨0,4,[.agg [I (0),str ([]),I (0),.isl true []]]⟩] 49 (by kernel_rfl) ?_
 refine gk 33 [.agg [I (0),str ([]),I (0),.usl 4 (([]).map aj)]] rfl rfl (aQ (iw (aQ (.refl _) (aQ (.refl _) (aQ (.refl _) (aQ (.nil _) fh))))) fh) ?_
 refine ck 26 [14] [] [33] [] [.isl false (a_1.Parts.map aH)] [some ⟨1,4,[.agg [I a_1.Op,str a_1.Name,I a_1.Day,.usl 4 (([]).map aj)]]⟩] 273 (by kernel_rfl) ?_
 obtain⟨r2,hr2,h⟩:=bS h
 refine oq 289 (.hs 273 0 [] 4 0 (r2.map aj).length) rfl (bK rfl rfl (b8 rfl rfl rfl (bg (bW rfl) dj) (adY bF hr2) (.inr rfl) dK rfl rfl rfl)) ?_
 refine cq 1 [16] [.hp 33 0 [] 4 0 3] 305 ?_
 refine o0 321 rfl rfl (et rfl rfl (dF (path:=[]) (pl:=false) (e':=.agg [I a_1.Op,str a_1.Name,I a_1.Day,.usl 4 (r2.map aj)]) (es2':=[.agg [I a_1.Op,str a_1.Name,I a_1.Day,.usl 4 (r2.map aj)]]) rfl (gi rfl (dx rfl rfl)) rfl rfl rfl aF rfl rfl rfl rfl rfl cJ 2 rfl)) ?_
 refine cq 4 [17] [.agg [I a_1.Op,str a_1.Name,I a_1.Day,.hs 33 2 [(0,3)] 4 0 (r2.map aj).length]] 337 ?_
 refine o0 353 rfl rfl (et rfl rfl (dF (path:=[]) (pl:=false) (e':=.agg [I a_1.Op,str a_1.Name,I a_1.Day,.usl 4 (r2.map aj)]) (es2':=[.agg [I a_1.Op,str a_1.Name,I a_1.Day,.usl 4 (r2.map aj)]]) rfl (nP (cB (dA rfl) (cB (dA rfl) (cB (dA rfl) (cB (jc (path:=[(0,3)]) rfl rfl (eF rfl rfl aF) rfl (kV (path:=[]) (i:=0) (k:=3) (e':=.agg [I a_1.Op,str a_1.Name,I a_1.Day,.dead]) (es2':=[.agg [I a_1.Op,str a_1.Name,I a_1.Day,.dead]]) aF rfl rfl rfl cJ)) nQ))))) rfl rfl rfl aF rfl rfl rfl rfl rfl cJ 2 rfl)) ?_
 refine aq 1 ?_
 obtain rfl:=sI h
 exact ca rfl ⟨_,fin (vs:=[.agg [I a_1.Op,str a_1.Name,I a_1.Day,.hs 17 2 [(0,3)] 4 0 (r2.map aj).length]]) (OK (vO rfl rfl rfl) OL) (eU (nP (cB (dA rfl) (cB (dA rfl) (cB (dA rfl) (cB (jc (path:=[(0,3)]) rfl rfl (eF rfl rfl aF) rfl (kV (path:=[]) (i:=0) (k:=3) (e':=.agg [I a_1.Op,str a_1.Name,I a_1.Day,.dead]) (es2':=[.agg [I a_1.Op,str a_1.Name,I a_1.Day,.dead]]) aF rfl rfl rfl cJ)) nQ))))) d3) rfl (cz eP),eI⟩
theorem UA {G:cb}:b9 G 139 CO:=jL fun bF N8=>gT 1 0 (aN (UD bF N8) bB) cn Tryz.func139 (fun a r h=>Yw bF a r h)
def Fu:Clause→List V:=oA au
def Fv (r:Clause):V×List V:=(vS r,[])
noncomputable def CK :=bm [false] Fu Fv fun x=>xR x
theorem adR {a_1:Clause}{r}(h:xR a_1=some r):CK.F (Fu a_1)=some (Fv r):=aK (aL dU) h
noncomputable def adT :=aI Tryz.f97
noncomputable def Uu :=cm [(139,CO)]
def adS (x:Clause)(r:Clause):St→Prop:=QF Uu Tryz.f97 [false] (Fu x) (Fv r)
theorem Yt (a_1:Clause)(r:Clause)(h:xR a_1=some r):bx Uu Tryz.f97 [false] 0 (Fu a_1) (Fv r):=by
 show Run _ _ (adS a_1 r) [.code adT] _
 refine rI 33 [(0,au a_1)] [] 1 ?_
 unfold xR at h
 refine ck 4 [1,2] [] [1,17] [] [.hp 1 0 [] 12 0 0,.hp 17 0 [] 12 0 0] [some ⟨0,12,[au a_1]⟩,some ⟨0,12,[.agg [str ([]),I (0),I (0),str ([]),I (0),I (0),I (0),str ([]),I (0),.isl true [],I (0),str ([])]]⟩] 33 (by kernel_rfl) ?_
 refine gk 17 [.agg [str ([]),I (0),I (0),str ([]),I (0),I (0),I (0),str ([]),I (0),.usl 4 (([]).map aj),I (0),str ([])]] rfl rfl (aQ (iw (aQ (.refl _) (aQ (.refl _) (aQ (.refl _) (aQ (.refl _) (aQ (.refl _) (aQ (.refl _) (aQ (.refl _) (aQ (.refl _) (aQ (.refl _) (aQ (.nil _) (aQ (.refl _) (aQ (.refl _) fh))))))))))))) fh) ?_
 refine ck 4 [3] [] [33] [] [.hp 33 0 [] 12 0 0] [some ⟨0,12,[.agg [str ([]),I (0),I (0),str ([]),I (0),I (0),I (0),str ([]),I (0),.isl true [],I (0),str ([])]]⟩] 49 (by kernel_rfl) ?_
 refine gk 33 [.agg [str ([]),I (0),I (0),str ([]),I (0),I (0),I (0),str ([]),I (0),.usl 4 (([]).map aj),I (0),str ([])]] rfl rfl (aQ (iw (aQ (.refl _) (aQ (.refl _) (aQ (.refl _) (aQ (.refl _) (aQ (.refl _) (aQ (.refl _) (aQ (.refl _) (aQ (.refl _) (aQ (.refl _) (aQ (.nil _) (aQ (.refl _) (aQ (.refl _) fh))))))))))))) fh) ?_
 refine ck 47 [23] [] [33] [] [bH a_1.When] [some ⟨1,12,[.agg [str a_1.Id,I a_1.Kind,I a_1.Party,str a_1.Action,I a_1.Other,I a_1.Amount,I (0),str ([]),I (0),.usl 4 (([]).map aj),I (0),str ([])]]⟩] 465 (by kernel_rfl) ?_
 obtain⟨r2,hr2,h⟩:=bS h
 refine oq 481 (.agg [I r2.Op,str r2.Name,I r2.Day,.hs 465 0 [] 4 0 (r2.Parts.map aj).length]) rfl (cP (adV hr2)) ?_
 refine cq 1 [25] [.hp 33 0 [] 12 0 6] 497 ?_
 refine o0 513 rfl rfl (et rfl rfl (dF (path:=[]) (pl:=false) (e':=.agg [str a_1.Id,I a_1.Kind,I a_1.Party,str a_1.Action,I a_1.Other,I a_1.Amount,I r2.Op,str r2.Name,I r2.Day,.usl 4 (r2.Parts.map aj),I (0),str ([])]) (es2':=[.agg [str a_1.Id,I a_1.Kind,I a_1.Party,str a_1.Action,I a_1.Other,I a_1.Amount,I r2.Op,str r2.Name,I r2.Day,.usl 4 (r2.Parts.map aj),I (0),str ([])]]) rfl (nP (cB (dA rfl) (cB (dA rfl) (cB (dA rfl) (cB (dx rfl rfl) nQ))))) rfl rfl rfl aF rfl rfl rfl rfl rfl cJ 2 rfl)) ?_
 refine ck 18 [32] [] [33] [] [.agg [str a_1.Id,I a_1.Kind,I a_1.Party,str a_1.Action,I a_1.Other,I a_1.Amount,I r2.Op,str r2.Name,I r2.Day,.hs 33 2 [(0,9)] 4 0 (r2.Parts.map aj).length,I a_1.Within,str a_1.Repair]] [some ⟨2,12,[.agg [str a_1.Id,I a_1.Kind,I a_1.Party,str a_1.Action,I a_1.Other,I a_1.Amount,I r2.Op,str r2.Name,I r2.Day,.usl 4 (r2.Parts.map aj),I a_1.Within,str a_1.Repair]]⟩] 657 (by kernel_rfl) ?_
 refine o0 673 rfl rfl (et rfl rfl (dF (path:=[]) (pl:=false) (e':=.agg [str a_1.Id,I a_1.Kind,I a_1.Party,str a_1.Action,I a_1.Other,I a_1.Amount,I r2.Op,str r2.Name,I r2.Day,.usl 4 (r2.Parts.map aj),I a_1.Within,str a_1.Repair]) (es2':=[.agg [str a_1.Id,I a_1.Kind,I a_1.Party,str a_1.Action,I a_1.Other,I a_1.Amount,I r2.Op,str r2.Name,I r2.Day,.usl 4 (r2.Parts.map aj),I a_1.Within,str a_1.Repair]]) rfl (nP (cB (dA rfl) (cB (dA rfl) (cB (dA rfl) (cB (dA rfl) (cB (dA rfl) (cB (dA rfl) (cB (dA rfl) (cB (dA rfl) (cB (dA rfl) (cB (jc (path:=[(0,9)]) rfl rfl (eF rfl rfl aF) rfl (kV (path:=[]) (i:=0) (k:=9) (e':=.agg [str a_1.Id,I a_1.Kind,I a_1.Party,str a_1.Action,I a_1.Other,I a_1.Amount,I r2.Op,str r2.Name,I r2.Day,.dead,I a_1.Within,str a_1.Repair]) (es2':=[.agg [str a_1.Id,I a_1.Kind,I a_1.Party,str a_1.Action,I a_1.Other,I a_1.Amount,I r2.Op,str r2.Name,I r2.Day,.dead,I a_1.Within,str a_1.Repair]]) aF rfl rfl rfl cJ)) (cB (dA rfl) (cB (dA rfl) nQ))))))))))))) rfl rfl rfl aF rfl rfl rfl rfl rfl cJ 2 rfl)) ?_
 refine aq 1 ?_
 obtain rfl:=sI h
 exact ca rfl ⟨_,fin (vs:=[.agg [str a_1.Id,I a_1.Kind,I a_1.Party,str a_1.Action,I a_1.Other,I a_1.Amount,I r2.Op,str r2.Name,I r2.Day,.hs 17 2 [(0,9)] 4 0 (r2.Parts.map aj).length,I a_1.Within,str a_1.Repair]]) (OK (vO rfl rfl rfl) OL) (eU (nP (cB (dA rfl) (cB (dA rfl) (cB (dA rfl) (cB (dA rfl) (cB (dA rfl) (cB (dA rfl) (cB (dA rfl) (cB (dA rfl) (cB (dA rfl) (cB (jc (path:=[(0,9)]) rfl rfl (eF rfl rfl aF) rfl (kV (path:=[]) (i:=0) (k:=9) (e':=.agg [str a_1.Id,I a_1.Kind,I a_1.Party,str a_1.Action,I a_1.Other,I a_1.Amount,I r2.Op,str r2.Name,I r2.Day,.dead,I a_1.Within,str a_1.Repair]) (es2':=[.agg [str a_1.Id,I a_1.Kind,I a_1.Party,str a_1.Action,I a_1.Other,I a_1.Amount,I r2.Op,str r2.Name,I r2.Day,.dead,I a_1.Within,str a_1.Repair]]) aF rfl rfl rfl cJ)) (cB (dA rfl) (cB (dA rfl) nQ))))))))))))) d3) rfl (cz eP),eI⟩
theorem Uv {G:cb}:b9 G 97 CK:=gT 1 0 (aN UA bB) cn Tryz.func97 (fun a r h=>Yt a r h)
def Fw:(List Clause)→List V:=oA (gp au)
def Fx (r:(List Clause)):V×List V:=(.usl 12 (r.map ak),[])
noncomputable def CM :=bm [false] Fw Fx fun x=>CL x
theorem adU {a_1:List Clause}{r}(h:CL a_1=some r):CM.F (Fw a_1)=some (Fx r):=aK (aL (cr dU)) h
noncomputable def Ux :=aI Tryz.f46
noncomputable def ML :=cm [(97,CK)]
def Uw (x:(List Clause))(r:(List Clause)):St→Prop:=QF ML Tryz.f46 [false] (Fw x) (Fx r)
theorem Ph (a_1:List Clause):cg ML 0 (Uw a_1) (cL (cL (cR (cL (cR (cR Ux)))))) 0 (uL a_1) (fun u=>(sT 23 [(3,.hs 1 0 [] 12 0 (u.map ak).length)] [⟨0,12,u.map ak⟩] 2)) fun x3=>(sT 23 [(0,.isl false (a_1.map au)),(3,.hs 1 0 [] 12 0 (x3.2.map ak).length),(4,I x3.1)] [⟨0,12,x3.2.map ak⟩] 2):=ef (AG a_1) fun {Q K} hK self ih x3 y h hr hn=>by
 unfold oh at h
 refine cq 5 [8,9] [I x3.1,.isl false (a_1.map au)] 34 ?_
 refine oq 50 (I (len a_1)) rfl (bw rfl rfl rfl (bR rfl)) ?_
 refine cq 2 [11] [B (decide (x3.1<(len a_1)))] 66 ?_
 refine sq h ?_ ?_<;>intro h
 ·refine aq 1 ?_
  refine cq 7 [14,15,16,17] [.hs 1 0 [] 12 0 (x3.2.map ak).length,I x3.1,.isl false (a_1.map au),I x3.1] 130 ?_
  obtain⟨e4,he4,h⟩:=bS h
  refine oq 146 (.iptr (au e4) 0) rfl (al rfl rfl rfl (bn rfl rfl rfl rfl he4)) ?_
  refine cq 1 [19] [au e4] 162 ?_
  obtain⟨r5,hr5,h⟩:=bS h
  refine oq 178 (.agg [str r5.Id,I r5.Kind,I r5.Party,str r5.Action,I r5.Other,I r5.Amount,I r5.When.Op,str r5.When.Name,I r5.When.Day,.hs 162 0 [] 4 0 (r5.When.Parts.map aj).length,I r5.Within,str r5.Repair]) rfl (cP (adR hr5)) ?_
  obtain⟨e6,he6,h⟩:=bS h
  refine oq 194 (.hp 1 0 [] 12 (0+Int.toNat x3.1) 0) rfl (al rfl rfl rfl (ce (f:=ak) (xs:=x3.2) rfl rfl rfl he6)) ?_
  refine o0 210 rfl rfl (et rfl rfl (dF (path:=[]) (pl:=false) (e':=vS r5) (es2':=(bI x3.2 x3.1 r5).map ak) rfl (nP (cB (dA rfl) (cB (dA rfl) (cB (dA rfl) (cB (dA rfl) (cB (dA rfl) (cB (dA rfl) (cB (dA rfl) (cB (dA rfl) (cB (dA rfl) (cB (dx rfl rfl) (cB (dA rfl) (cB (dA rfl) nQ))))))))))))) rfl rfl rfl aF (bO (f:=ak) (xs:=x3.2) he6) rfl rfl rfl (gB (f:=ak) (xs:=x3.2) (y:=r5)) cJ 1 rfl)) ?_
  try rw[←fK (f:=ak) (xs:=x3.2) (i:=x3.1) (z:=r5)]
  refine cq 7 [4] [I (ac (x3.1+1))] 258 ?_
  refine cX ?_
  exact rf [0,3,4] [1] (ih _ _ h hr hn :)
 ·refine aq 1 ?_
  exact rf [3] [1] (hn _ (an h) :) (hk:=hK)
theorem Yu (a_1:List Clause)(r:(List Clause))(h:CL a_1=some r):bx ML Tryz.f46 [false] 0 (Fw a_1) (Fx r):=by
 show Run _ _ (Uw a_1 r) [.code Ux] _
 refine rI 23 [(0,.isl false (a_1.map au))] [] 1 ?_
 unfold CL at h
 refine cq 7 [5] [.isl false (a_1.map au)] 33 ?_
 refine oq 49 (I (len a_1)) rfl (bw rfl rfl rfl (bR rfl)) ?_
 obtain⟨m2,hm2,h⟩:=bS h
 refine oq 65 (.hs 49 0 [] 12 0 (m2.map ak).length) rfl (lu rfl rfl (Xh (g:=ak) (f:=fun _=>(.agg [str ([]),I (0),I (0),str ([]),I (0),I (0),I (0),str ([]),I (0),.isl true [],I (0),str ([])]:V)) (z0:=(Clause.mk [] 0 0 [] 0 0 (Condition.mk 0 [] 0 []) 0 [])) rfl rfl rfl (by decide) hm2 rfl)) ?_
 refine gk 49 (m2.map ak) rfl rfl (NX hm2 (iw (aQ (.refl _) (aQ (.refl _) (aQ (.refl _) (aQ (.refl _) (aQ (.refl _) (aQ (.refl _) (aQ (.refl _) (aQ (.refl _) (aQ (.refl _) (aQ (.nil _) (aQ (.refl _) (aQ (.refl _) fh)))))))))))))) ?_
 refine cq 8 [3,4] [.hs 49 0 [] 12 0 (m2.map ak).length,I (0)] 97 ?_
 obtain⟨y7,hy7,hy71,hy72⟩:=bJ h
 refine bM rfl ?_
 refine rf [0,3,4] [49] (Ph a_1 rfl (0,m2) _ hy7 (fun r' e st hq=>by rw[hy71 r' e] at hq;exact hq) fun u7 hu=>?_)
 replace h:=hy72 u7 hu
 refine cq 5 [2] [.hs 1 0 [] 12 0 (u7.map ak).length] 34 ?_
 obtain rfl:=sI h
 exact ca rfl ⟨_,fin (vs:=[.hs 1 0 [] 12 0 (u7.map ak).length]) rfl (eU (gi rfl (dx rfl rfl)) d3) rfl (cz eP),eI⟩
theorem Uy {G:cb}:b9 G 46 CM:=gT 1 0 (aN Uv bB) cn Tryz.func46 (fun a r h=>Yu a r h)
def FA:Contract→List V:=oA aV
def FB (r:Contract):V×List V:=(kW r,[])
noncomputable def CQ :=bm [false] FA FB fun x=>tT x
theorem si {a_1:Contract}{r}(h:tT a_1=some r):CQ.F (FA a_1)=some (FB r):=aK (aL bv) h
noncomputable def ad0 :=aI Tryz.f14
noncomputable def UE :=cm [(45,v7),(46,CM)]
def adZ (x:Contract)(r:Contract):St→Prop:=QF UE Tryz.f14 [false] (FA x) (FB r)
theorem Yy (a_1:Contract)(r:Contract)(h:tT a_1=some r):bx UE Tryz.f14 [false] 0 (FA a_1) (FB r):=by
 show Run _ _ (adZ a_1 r) [.code ad0] _
 refine rI 13 [(0,aV a_1)] [] 1 ?_
 unfold tT at h
 refine ck 4 [1,2] [] [1,17] [] [.hp 1 0 [] 2 0 0,.hp 17 0 [] 2 0 0] [some ⟨0,2,[aV a_1]⟩,some ⟨0,2,[.agg [.isl true [],.isl true []]]⟩] 33 (by kernel_rfl) ?_
 refine gk 17 [.agg [.usl 1 (([]).map str),.usl 12 (([]).map ak)]] rfl rfl (aQ (iw (aQ (.nil _) (aQ (.nil _) fh))) fh) ?_
 refine ck 4 [3] [] [33] [] [.hp 33 0 [] 2 0 0] [some ⟨0,2,[.agg [.isl true [],.isl true []]]⟩] 49 (by kernel_rfl) ?_
 refine gk 33 [.agg [.usl 1 (([]).map str),.usl 12 (([]).map ak)]] rfl rfl (aQ (iw (aQ (.nil _) (aQ (.nil _) fh))) fh) ?_
 refine cq 5 [5] [.isl false (a_1.Parties.map str)] 81 ?_
 obtain⟨r2,hr2,h⟩:=bS h
 refine oq 97 (.hs 81 0 [] 1 0 (r2.map str).length) rfl (cP (UR hr2)) ?_
 refine cq 1 [7] [.hp 33 0 [] 2 0 0] 113 ?_
 refine o0 129 rfl rfl (et rfl rfl (dF (path:=[]) (pl:=false) (e':=.agg [.usl 1 (r2.map str),.usl 12 (([]).map ak)]) (es2':=[.agg [.usl 1 (r2.map str),.usl 12 (([]).map ak)]]) rfl (gi rfl (dx rfl rfl)) rfl rfl rfl aF rfl rfl rfl rfl rfl cJ 2 rfl)) ?_
 refine cq 5 [9] [.isl false (a_1.Clauses.map au)] 161 ?_
 obtain⟨r3,hr3,h⟩:=bS h
 refine oq 177 (.hs 161 0 [] 12 0 (r3.map ak).length) rfl (cP (adU hr3)) ?_
 refine cq 1 [11] [.hp 33 0 [] 2 0 1] 193 ?_
 refine o0 209 rfl rfl (et rfl rfl (dF (path:=[]) (pl:=false) (e':=.agg [.usl 1 (r2.map str),.usl 12 (r3.map ak)]) (es2':=[.agg [.usl 1 (r2.map str),.usl 12 (r3.map ak)]]) rfl (gi rfl (dx rfl rfl)) rfl rfl rfl aF rfl rfl rfl rfl rfl cJ 3 rfl)) ?_
 refine cq 4 [12] [.agg [.hs 33 3 [(0,0)] 1 0 (r2.map str).length,.hs 33 3 [(0,1)] 12 0 (r3.map ak).length]] 225 ?_
 refine o0 241 rfl rfl (et rfl rfl (dF (path:=[]) (pl:=false) (e':=.agg [.usl 1 (r2.map str),.usl 12 (r3.map ak)]) (es2':=[.agg [.usl 1 (r2.map str),.usl 12 (r3.map ak)]]) rfl (nP (cB (jc (path:=[(0,0)]) rfl rfl (eF rfl rfl aF) rfl (kV (path:=[]) (i:=0) (k:=0) (e':=.agg [.dead,.usl 12 (r3.map ak)]) (es2':=[.agg [.dead,.usl 12 (r3.map ak)]]) aF rfl rfl rfl cJ)) (cB (jc (path:=[(0,1)]) rfl rfl (eF rfl rfl aF) rfl (kV (path:=[]) (i:=0) (k:=1) (e':=.agg [.dead,.dead]) (es2':=[.agg [.dead,.dead]]) aF rfl rfl rfl cJ)) nQ))) rfl rfl rfl aF rfl rfl rfl rfl rfl cJ 2 rfl)) ?_
 refine aq 1 ?_
 obtain rfl:=sI h
 exact ca rfl ⟨_,fin (vs:=[.agg [.hs 17 2 [(0,0)] 1 0 (r2.map str).length,.hs 17 2 [(0,1)] 12 0 (r3.map ak).length]]) (OK (vO rfl rfl rfl) OL) (eU (nP (cB (jc (path:=[(0,0)]) rfl rfl (eF rfl rfl aF) rfl (kV (path:=[]) (i:=0) (k:=0) (e':=.agg [.dead,.usl 12 (r3.map ak)]) (es2':=[.agg [.dead,.usl 12 (r3.map ak)]]) aF rfl rfl rfl cJ)) (cB (jc (path:=[(0,1)]) rfl rfl (eF rfl rfl aF) rfl (kV (path:=[]) (i:=0) (k:=1) (e':=.agg [.dead,.dead]) (es2':=[.agg [.dead,.dead]]) aF rfl rfl rfl cJ)) nQ))) d3) rfl (cz eP),eI⟩
theorem UF {G:cb}:b9 G 14 CQ:=gT 1 0 (aN Kh (aN Uy bB)) cn Tryz.func14 (fun a r h=>Yy a r h)
def FC:Duty→List V:=oA ah
def FD (r:Duty):V×List V:=(ah r,[])
noncomputable def CR :=bm [false] FC FD fun x=>xV x
theorem ad1 {a_1:Duty}{r}(h:xV a_1=some r):CR.F (FC a_1)=some (FD r):=aK (aL eh) h
noncomputable def ad3 :=aI Tryz.f108
noncomputable def UG :=cm []
def ad2 (x:Duty)(r:Duty):St→Prop:=QF UG Tryz.f108 [false] (FC x) (FD r)
theorem Yz (a_1:Duty)(r:Duty)(h:xV a_1=some r):bx UG Tryz.f108 [false] 0 (FC a_1) (FD r):=by
 show Run _ _ (ad2 a_1 r) [.code ad3] _
 refine rI 17 [(0,ah a_1)] [] 1 ?_
 unfold xV at h
 refine ck 42 [2] [] [17] [] [.hp 17 0 [] 4 0 0] [some ⟨0,4,[ah a_1]⟩] 337 (by kernel_rfl) ?_
 obtain rfl:=sI h
 exact ca rfl ⟨_,fin (vs:=[ah a_1]) (OK (vO rfl rfl rfl) OL) (eU (ba rfl) d3) rfl (cz eP),eI⟩
theorem UH {G:cb}:b9 G 108 CR:=gT 1 0 bB cn Tryz.func108 (fun a r h=>Yz a r h)
def FE:(List Duty)→List V:=oA (gp ah)
def FF (r:(List Duty)):V×List V:=(.usl 4 (r.map ah),[])
noncomputable def CT :=bm [false] FE FF fun x=>CS x
theorem ad4 {a_1:List Duty}{r}(h:CS a_1=some r):CT.F (FE a_1)=some (FF r):=aK (aL (cr eh)) h
noncomputable def UJ :=aI Tryz.f57
noncomputable def MN :=cm [(108,CR)]
def UI (x:(List Duty))(r:(List Duty)):St→Prop:=QF MN Tryz.f57 [false] (FE x) (FF r)
theorem Pj (a_1:List Duty):cg MN 0 (UI a_1) (cL (cL (cR (cL (cR (cR UJ)))))) 0 (uN a_1) (fun u=>(sT 23 [(3,.hs 1 0 [] 4 0 (u.map ah).length)] [⟨0,4,u.map ah⟩] 2)) fun x3=>(sT 23 [(0,.isl false (a_1.map ah)),(3,.hs 1 0 [] 4 0 (x3.2.map ah).length),(4,I x3.1)] [⟨0,4,x3.2.map ah⟩] 2):=ef (AI a_1) fun {Q K} hK self ih x3 y h hr hn=>by
 unfold ol at h
 refine cq 5 [8,9] [I x3.1,.isl false (a_1.map ah)] 34 ?_
 refine oq 50 (I (len a_1)) rfl (bw rfl rfl rfl (bR rfl)) ?_
 refine cq 2 [11] [B (decide (x3.1<(len a_1)))] 66 ?_
 refine sq h ?_ ?_<;>intro h
 ·refine aq 1 ?_
  refine cq 7 [14,15,16,17] [.hs 1 0 [] 4 0 (x3.2.map ah).length,I x3.1,.isl false (a_1.map ah),I x3.1] 130 ?_
  obtain⟨e4,he4,h⟩:=bS h
  refine oq 146 (.iptr (ah e4) 0) rfl (al rfl rfl rfl (bn rfl rfl rfl rfl he4)) ?_
  refine cq 1 [19] [ah e4] 162 ?_
  obtain⟨r5,hr5,h⟩:=bS h
  refine oq 178 (ah r5) rfl (cP (ad1 hr5)) ?_
  obtain⟨e6,he6,h⟩:=bS h
  refine oq 194 (.hp 1 0 [] 4 (0+Int.toNat x3.1) 0) rfl (al rfl rfl rfl (ce (f:=ah) (xs:=x3.2) rfl rfl rfl he6)) ?_
  refine o0 210 rfl rfl (et rfl rfl (dF (path:=[]) (pl:=true) (e':=ah r5) (es2':=(bI x3.2 x3.1 r5).map ah) rfl (ba rfl) rfl rfl rfl aF (bO (f:=ah) (xs:=x3.2) he6) rfl rfl rfl (gB (f:=ah) (xs:=x3.2) (y:=r5)) cJ 0 rfl)) ?_
  try rw[←fK (f:=ah) (xs:=x3.2) (i:=x3.1) (z:=r5)]
  refine cq 7 [4] [I (ac (x3.1+1))] 258 ?_
  refine cX ?_
  exact rf [0,3,4] [1] (ih _ _ h hr hn :)
 ·refine aq 1 ?_
  exact rf [3] [1] (hn _ (an h) :) (hk:=hK)
theorem YA (a_1:List Duty)(r:(List Duty))(h:CS a_1=some r):bx MN Tryz.f57 [false] 0 (FE a_1) (FF r):=by
 show Run _ _ (UI a_1 r) [.code UJ] _
 refine rI 23 [(0,.isl false (a_1.map ah))] [] 1 ?_
 unfold CS at h
 refine cq 7 [5] [.isl false (a_1.map ah)] 33 ?_
 refine oq 49 (I (len a_1)) rfl (bw rfl rfl rfl (bR rfl)) ?_
 obtain⟨m2,hm2,h⟩:=bS h
 refine oq 65 (.hs 49 0 [] 4 0 (m2.map ah).length) rfl (lu rfl rfl (Ix (f:=ah) rfl rfl rfl (by decide) hm2 rfl)) ?_
 refine cq 8 [3,4] [.hs 49 0 [] 4 0 (m2.map ah).length,I (0)] 97 ?_
 obtain⟨y7,hy7,hy71,hy72⟩:=bJ h
 refine bM rfl ?_
 refine rf [0,3,4] [49] (Pj a_1 rfl (0,m2) _ hy7 (fun r' e st hq=>by rw[hy71 r' e] at hq;exact hq) fun u7 hu=>?_)
 replace h:=hy72 u7 hu
 refine cq 5 [2] [.hs 1 0 [] 4 0 (u7.map ah).length] 34 ?_
 obtain rfl:=sI h
 exact ca rfl ⟨_,fin (vs:=[.hs 1 0 [] 4 0 (u7.map ah).length]) rfl (eU (gi rfl (dx rfl rfl)) d3) rfl (cz eP),eI⟩
theorem UK {G:cb}:b9 G 57 CT:=gT 1 0 (aN UH bB) cn Tryz.func57 (fun a r h=>YA a r h)
def FG:(List Int)→List V:=oA (gp I)
def FH (r:(List Int)):V×List V:=(.usl 1 (r.map I),[])
noncomputable def CV :=bm [false] FG FH fun x=>CU x
theorem ad5 {a_1:List Int}{r}(h:CU a_1=some r):CV.F (FG a_1)=some (FH r):=aK (aL (cr bf)) h
noncomputable def UM :=aI Tryz.f58
noncomputable def MO :=cm []
def UL (x:(List Int))(r:(List Int)):St→Prop:=QF MO Tryz.f58 [false] (FG x) (FH r)
theorem Pk (a_1:List Int):cg MO 0 (UL a_1) (cL (cL (cR (cL (cR (cR UM)))))) 0 (uO a_1) (fun u=>(sT 22 [(3,.hs 1 0 [] 1 0 (u.map I).length)] [⟨0,1,u.map I⟩] 2)) fun x3=>(sT 22 [(0,.isl false (a_1.map I)),(3,.hs 1 0 [] 1 0 (x3.2.map I).length),(4,I x3.1)] [⟨0,1,x3.2.map I⟩] 2):=ef (AJ a_1) fun {Q K} hK self ih x3 y h hr hn=>by
 unfold om at h
 refine cq 5 [8,9] [I x3.1,.isl false (a_1.map I)] 34 ?_
 refine oq 50 (I (len a_1)) rfl (bw rfl rfl rfl (bR rfl)) ?_
 refine cq 2 [11] [B (decide (x3.1<(len a_1)))] 66 ?_
 refine sq h ?_ ?_<;>intro h
 ·refine aq 1 ?_
  refine cq 7 [14,15,16,17] [.hs 1 0 [] 1 0 (x3.2.map I).length,I x3.1,.isl false (a_1.map I),I x3.1] 130 ?_
  obtain⟨e4,he4,h⟩:=bS h
  refine oq 146 (.iptr (I e4) 0) rfl (al rfl rfl rfl (bn rfl rfl rfl rfl he4)) ?_
  refine cq 1 [19] [I e4] 162 ?_
  obtain⟨e5,he5,h⟩:=bS h
  refine oq 178 (.hp 1 0 [] 1 (0+Int.toNat x3.1) 0) rfl (al rfl rfl rfl (ce (f:=I) (xs:=x3.2) rfl rfl rfl he5)) ?_
  refine o0 194 rfl rfl (et rfl rfl (dF (path:=[]) (pl:=true) (e':=I e4) (es2':=(bI x3.2 x3.1 e4).map I) rfl (ba rfl) rfl rfl rfl aF (bO (f:=I) (xs:=x3.2) he5) rfl rfl rfl (gB (f:=I) (xs:=x3.2) (y:=e4)) cJ 0 rfl)) ?_
  try rw[←fK (f:=I) (xs:=x3.2) (i:=x3.1) (z:=e4)]
  refine cq 7 [4] [I (ac (x3.1+1))] 242 ?_
  refine cX ?_
  exact rf [0,3,4] [1] (ih _ _ h hr hn :)
 ·refine aq 1 ?_
  exact rf [3] [1] (hn _ (an h) :) (hk:=hK)
theorem YB (a_1:List Int)(r:(List Int))(h:CU a_1=some r):bx MO Tryz.f58 [false] 0 (FG a_1) (FH r):=by
 show Run _ _ (UL a_1 r) [.code UM] _
 refine rI 22 [(0,.isl false (a_1.map I))] [] 1 ?_
 unfold CU at h
 refine cq 7 [5] [.isl false (a_1.map I)] 33 ?_
 refine oq 49 (I (len a_1)) rfl (bw rfl rfl rfl (bR rfl)) ?_
 obtain⟨m2,hm2,h⟩:=bS h
 refine oq 65 (.hs 49 0 [] 1 0 (m2.map I).length) rfl (lu rfl rfl (Ix (f:=I) rfl rfl rfl (by decide) hm2 rfl)) ?_
 refine cq 8 [3,4] [.hs 49 0 [] 1 0 (m2.map I).length,I (0)] 97 ?_
 obtain⟨y6,hy6,hy61,hy62⟩:=bJ h
 refine bM rfl ?_
 refine rf [0,3,4] [49] (Pk a_1 rfl (0,m2) _ hy6 (fun r' e st hq=>by rw[hy61 r' e] at hq;exact hq) fun u6 hu=>?_)
 replace h:=hy62 u6 hu
 refine cq 5 [2] [.hs 1 0 [] 1 0 (u6.map I).length] 34 ?_
 obtain rfl:=sI h
 exact ca rfl ⟨_,fin (vs:=[.hs 1 0 [] 1 0 (u6.map I).length]) rfl (eU (gi rfl (dx rfl rfl)) d3) rfl (cz eP),eI⟩
theorem UN {G:cb}:b9 G 58 CV:=gT 1 0 bB cn Tryz.func58 (fun a r h=>YB a r h)
def FI:State→List V:=oA bN
def FJ (r:State):V×List V:=(nI r,[])
noncomputable def CW :=bm [false] FI FJ fun x=>tU x
theorem sj {a_1:State}{r}(h:tU a_1=some r):CW.F (FI a_1)=some (FJ r):=aK (aL cw) h
noncomputable def ad7 :=aI Tryz.f23
noncomputable def UO :=cm [(45,v7),(57,CT),(58,CV)]
def ad6 (x:State)(r:State):St→Prop:=QF UO Tryz.f23 [false] (FI x) (FJ r)
theorem YC (a_1:State)(r:State)(h:tU a_1=some r):bx UO Tryz.f23 [false] 0 (FI a_1) (FJ r):=by
 show Run _ _ (ad6 a_1 r) [.code ad7] _
 refine rI 23 [(0,bN a_1)] [] 1 ?_
 unfold tU at h
 refine ck 4 [1,2] [] [1,17] [] [.hp 1 0 [] 5 0 0,.hp 17 0 [] 5 0 0] [some ⟨0,5,[bN a_1]⟩,some ⟨0,5,[.agg [I (0),.isl true [],.isl true [],.isl true [],B false]]⟩] 33 (by kernel_rfl) ?_
 refine gk 17 [.agg [I (0),.usl 1 (([]).map str),.usl 4 (([]).map ah),.usl 1 (([]).map I),B false]] rfl rfl (aQ (iw (aQ (.refl _) (aQ (.nil _) (aQ (.nil _) (aQ (.nil _) (aQ (.refl _) fh)))))) fh) ?_
 refine ck 4 [3] [] [33] [] [.hp 33 0 [] 5 0 0] [some ⟨0,5,[.agg [I (0),.isl true [],.isl true [],.isl true [],B false]]⟩] 49 (by kernel_rfl) ?_
 refine gk 33 [.agg [I (0),.usl 1 (([]).map str),.usl 4 (([]).map ah),.usl 1 (([]).map I),B false]] rfl rfl (aQ (iw (aQ (.refl _) (aQ (.nil _) (aQ (.nil _) (aQ (.nil _) (aQ (.refl _) fh)))))) fh) ?_
 refine ck 12 [8] [] [33] [] [.isl false (a_1.Facts.map str)] [some ⟨1,5,[.agg [I a_1.Day,.usl 1 (([]).map str),.usl 4 (([]).map ah),.usl 1 (([]).map I),B false]]⟩] 145 (by kernel_rfl) ?_
 obtain⟨r2,hr2,h⟩:=bS h
 refine oq 161 (.hs 145 0 [] 1 0 (r2.map str).length) rfl (cP (UR hr2)) ?_
 refine cq 1 [10] [.hp 33 0 [] 5 0 1] 177 ?_
 refine o0 193 rfl rfl (et rfl rfl (dF (path:=[]) (pl:=false) (e':=.agg [I a_1.Day,.usl 1 (r2.map str),.usl 4 (([]).map ah),.usl 1 (([]).map I),B false]) (es2':=[.agg [I a_1.Day,.usl 1 (r2.map str),.usl 4 (([]).map ah),.usl 1 (([]).map I),B false]]) rfl (gi rfl (dx rfl rfl)) rfl rfl rfl aF rfl rfl rfl rfl rfl cJ 2 rfl)) ?_
 refine cq 5 [12] [.isl false (a_1.Duties.map ah)] 225 ?_
 obtain⟨r3,hr3,h⟩:=bS h
 refine oq 241 (.hs 225 0 [] 4 0 (r3.map ah).length) rfl (cP (ad4 hr3)) ?_
 refine cq 1 [14] [.hp 33 0 [] 5 0 2] 257 ?_
 refine o0 273 rfl rfl (et rfl rfl (dF (path:=[]) (pl:=false) (e':=.agg [I a_1.Day,.usl 1 (r2.map str),.usl 4 (r3.map ah),.usl 1 (([]).map I),B false]) (es2':=[.agg [I a_1.Day,.usl 1 (r2.map str),.usl 4 (r3.map ah),.usl 1 (([]).map I),B false]]) rfl (gi rfl (dx rfl rfl)) rfl rfl rfl aF rfl rfl rfl rfl rfl cJ 3 rfl)) ?_
 refine cq 5 [16] [.isl false (a_1.Balances.map I)] 305 ?_
 obtain⟨r4,hr4,h⟩:=bS h
 refine oq 321 (.hs 305 0 [] 1 0 (r4.map I).length) rfl (cP (ad5 hr4)) ?_
 refine cq 1 [18] [.hp 33 0 [] 5 0 3] 337 ?_
 refine o0 353 rfl rfl (et rfl rfl (dF (path:=[]) (pl:=false) (e':=.agg [I a_1.Day,.usl 1 (r2.map str),.usl 4 (r3.map ah),.usl 1 (r4.map I),B false]) (es2':=[.agg [I a_1.Day,.usl 1 (r2.map str),.usl 4 (r3.map ah),.usl 1 (r4.map I),B false]]) rfl (gi rfl (dx rfl rfl)) rfl rfl rfl aF rfl rfl rfl rfl rfl cJ 4 rfl)) ?_
 refine ck 11 [22] [] [33] [] [.agg [I a_1.Day,.hs 33 4 [(0,1)] 1 0 (r2.map str).length,.hs 33 4 [(0,2)] 4 0 (r3.map ah).length,.hs 33 4 [(0,3)] 1 0 (r4.map I).length,B a_1.Over]] [some ⟨4,5,[.agg [I a_1.Day,.usl 1 (r2.map str),.usl 4 (r3.map ah),.usl 1 (r4.map I),B a_1.Over]]⟩] 433 (by kernel_rfl) ?_
 refine o0 449 rfl rfl (et rfl rfl (dF (path:=[]) (pl:=false) (e':=.agg [I a_1.Day,.usl 1 (r2.map str),.usl 4 (r3.map ah),.usl 1 (r4.map I),B a_1.Over]) (es2':=[.agg [I a_1.Day,.usl 1 (r2.map str),.usl 4 (r3.map ah),.usl 1 (r4.map I),B a_1.Over]]) rfl (nP (cB (dA rfl) (cB (jc (path:=[(0,1)]) rfl rfl (eF rfl rfl aF) rfl (kV (path:=[]) (i:=0) (k:=1) (e':=.agg [I a_1.Day,.dead,.usl 4 (r3.map ah),.usl 1 (r4.map I),B a_1.Over]) (es2':=[.agg [I a_1.Day,.dead,.usl 4 (r3.map ah),.usl 1 (r4.map I),B a_1.Over]]) aF rfl rfl rfl cJ)) (cB (jc (path:=[(0,2)]) rfl rfl (eF rfl rfl aF) rfl (kV (path:=[]) (i:=0) (k:=2) (e':=.agg [I a_1.Day,.dead,.dead,.usl 1 (r4.map I),B a_1.Over]) (es2':=[.agg [I a_1.Day,.dead,.dead,.usl 1 (r4.map I),B a_1.Over]]) aF rfl rfl rfl cJ)) (cB (jc (path:=[(0,3)]) rfl rfl (eF rfl rfl aF) rfl (kV (path:=[]) (i:=0) (k:=3) (e':=.agg [I a_1.Day,.dead,.dead,.dead,B a_1.Over]) (es2':=[.agg [I a_1.Day,.dead,.dead,.dead,B a_1.Over]]) aF rfl rfl rfl cJ)) (cB (dA rfl) nQ)))))) rfl rfl rfl aF rfl rfl rfl rfl rfl cJ 2 rfl)) ?_
 refine aq 1 ?_
 obtain rfl:=sI h
 exact ca rfl ⟨_,fin (vs:=[.agg [I a_1.Day,.hs 17 2 [(0,1)] 1 0 (r2.map str).length,.hs 17 2 [(0,2)] 4 0 (r3.map ah).length,.hs 17 2 [(0,3)] 1 0 (r4.map I).length,B a_1.Over]]) (OK (vO rfl rfl rfl) OL) (eU (nP (cB (dA rfl) (cB (jc (path:=[(0,1)]) rfl rfl (eF rfl rfl aF) rfl (kV (path:=[]) (i:=0) (k:=1) (e':=.agg [I a_1.Day,.dead,.usl 4 (r3.map ah),.usl 1 (r4.map I),B a_1.Over]) (es2':=[.agg [I a_1.Day,.dead,.usl 4 (r3.map ah),.usl 1 (r4.map I),B a_1.Over]]) aF rfl rfl rfl cJ)) (cB (jc (path:=[(0,2)]) rfl rfl (eF rfl rfl aF) rfl (kV (path:=[]) (i:=0) (k:=2) (e':=.agg [I a_1.Day,.dead,.dead,.usl 1 (r4.map I),B a_1.Over]) (es2':=[.agg [I a_1.Day,.dead,.dead,.usl 1 (r4.map I),B a_1.Over]]) aF rfl rfl rfl cJ)) (cB (jc (path:=[(0,3)]) rfl rfl (eF rfl rfl aF) rfl (kV (path:=[]) (i:=0) (k:=3) (e':=.agg [I a_1.Day,.dead,.dead,.dead,B a_1.Over]) (es2':=[.agg [I a_1.Day,.dead,.dead,.dead,B a_1.Over]]) aF rfl rfl rfl cJ)) (cB (dA rfl) nQ)))))) d3) rfl (cz eP),eI⟩
theorem UQ {G:cb}:b9 G 23 CW:=gT 1 0 (aN Kh (aN UK (aN UN bB))) cn Tryz.func23 (fun a r h=>YC a r h)
def qE:(Int×Int×Int)→List V:=cA I (cA I (oA I))
def qF (r:Bool):V×List V:=(B r,[])
noncomputable def gn :=bm [false,false,false] qE qF fun x=>eN x.1 x.2.1 x.2.2
theorem eQ {x_1:Int}{a_2:Int}{b_3:Int}{r}(h:eN x_1 a_2 b_3=some r):gn.F (qE (x_1,a_2,b_3))=some (qF r):=aK (aO bf (aO bf (aL bf))) h
noncomputable def BU :=aI Tryz.f89
noncomputable def uq :=cm []
def BT (x:Int×Int×Int)(r:Bool):St→Prop:=QF uq Tryz.f89 [false,false,false] (qE x) (qF r)
theorem Lg (x_1:Int)(a_2:Int)(b_3:Int)(r:Bool)(h:eN x_1 a_2 b_3=some r):bx uq Tryz.f89 [false,false,false] 0 (qE (x_1,a_2,b_3)) (qF r):=by
 show Run _ _ (BT (x_1,a_2,b_3) r) [.code BU] _
 refine rI 15 [(0,I x_1),(1,I a_2),(2,I b_3)] [] 1 ?_
 unfold eN at h
 refine cq 10 [10] [B (decide (x_1≥a_2))] 81 ?_
 obtain⟨u4,hu4,h⟩:=lJ h
 have j4:Run uq 0 (BT (x_1,a_2,b_3) r) (.code (cR (cR BU))::[]) (sT 15 [(6,B u4)] [] 1):=by
  obtain rfl:=sI h
  exact rP [B u4]
 replace h:=hu4
 clear hu4
 refine sp 10 h rfl ?_ ?_<;>intro h
 ·refine cq 6 [6] [B (decide (x_1≤b_3))] 161 ?_
  subst h
  exact rf [6] [] (j4 :)
 ·refine cq 6 [6] [B false] 161 ?_
  subst h
  exact rf [6] [] (j4 :)
theorem io {G:cb}:b9 G 89 gn:=gT 3 0 bB cn Tryz.func89 (fun a r h=>Lg a.1 a.2.1 a.2.2 r h)
def Hc:Int→List V:=oA (V.int .u8)
def Hd (r:Bool):V×List V:=(B r,[])
noncomputable def Dy :=bm [false] Hc Hd fun x=>yy x
theorem aeK {b_1:Int}{r}(h:yy b_1=some r):Dy.F (Hc b_1)=some (Hd r):=aK (aL (OY (k:=.u8))) h
noncomputable def yA :=aI Tryz.f128
noncomputable def vl :=cm []
def yz (x:Int)(r:Bool):St→Prop:=QF vl Tryz.f128 [false] (Hc x) (Hd r)
theorem Zf (b_1:Int)(r:Bool)(h:yy b_1=some r):bx vl Tryz.f128 [false] 0 (Hc b_1) (Hd r):=by
 show Run _ _ (yz b_1 r) [.code yA] _
 refine rI 17 [(0,.int .u8 b_1)] [] 1 ?_
 unfold yy at h
 refine cq 9 [5] [B (decide (b_1≥97))] 65 ?_
 obtain⟨u2,hu2,h⟩:=lJ h
 have j2:Run vl 0 (yz b_1 r) (.code (cR (cR yA))::[]) (sT 17 [(2,B u2)] [] 1):=by
  obtain rfl:=sI h
  exact rP [B u2]
 replace h:=hu2
 clear hu2
 refine sp 5 h rfl ?_ ?_<;>intro h
 ·refine cq 4 [9] [B (decide (b_1≤122))] 129 ?_
  obtain⟨u3,hu3,h⟩:=lJ h
  have j3:Run vl 0 (yz b_1 r) (.code (cR (cR yA))::[]) (sT 17 [(2,B u3)] [] 1):=by
   subst h
   exact rf [2] [] (j2 :)
  replace h:=hu3
  clear hu3
  refine sp 9 h rfl ?_ ?_<;>intro h
  ·refine cq 9 [2] [B true] 257 ?_
   subst h
   exact rf [2] [] (j3 :)
  ·refine cq 3 [12] [B (decide (b_1≥48))] 177 ?_
   obtain⟨u4,hu4,h⟩:=lJ h
   have j4:Run vl 0 (yz b_1 r) (.code (cR (cR yA))::[]) (sT 17 [(2,B u4)] [] 1):=by
    subst h
    exact rf [2] [] (j3 :)
   replace h:=hu4
   clear hu4
   refine sp 12 h rfl ?_ ?_<;>intro h
   ·refine cq 6 [2] [B (decide (b_1≤57))] 257 ?_
    subst h
    exact rf [2] [] (j4 :)
   ·refine cq 6 [2] [B false] 257 ?_
    subst h
    exact rf [2] [] (j4 :)
 ·refine cq 7 [9,12] [B false,B (decide (b_1≥48))] 177 ?_
  obtain⟨u5,hu5,h⟩:=lJ h
  have j5:Run vl 0 (yz b_1 r) (.code (cR (cR yA))::[]) (sT 17 [(2,B u5)] [] 1):=by
   subst h
   exact rf [2] [] (j2 :)
  replace h:=hu5
  clear hu5
  refine sp 12 h rfl ?_ ?_<;>intro h
  ·refine cq 6 [2] [B (decide (b_1≤57))] 257 ?_
   subst h
   exact rf [2] [] (j5 :)
  ·refine cq 6 [2] [B false] 257 ?_
   subst h
   exact rf [2] [] (j5 :)
theorem VX {G:cb}:b9 G 128 Dy:=gT 1 0 bB cn Tryz.func128 (fun a r h=>Zf a r h)
def G2:ae→List V:=oA str
def G3 (r:Bool):V×List V:=(B r,[])
noncomputable def pY :=bm [false] G2 G3 fun x=>su x
theorem sv {s_1:ae}{r}(h:su s_1=some r):pY.F (G2 s_1)=some (G3 r):=aK (aL bP) h
noncomputable def qK :=aI Tryz.f80
noncomputable abbrev oD :=cR (cR (cR (cR qK)))
noncomputable abbrev oE :=cR (cL (cR (cL (cR (cR (cR qK))))))
noncomputable def jZ :=cm [(89,gn),(128,Dy)]
def iQ (x:ae)(r:Bool):St→Prop:=QF jZ Tryz.f80 [false] (G2 x) (G3 r)
theorem PO (s_1:ae):cg jZ 0 (iQ s_1) (cL (cL (cR (cL (cR (cR qK)))))) 0 (vh s_1) (fun u=>(sT 40 [(0,str s_1)] [] 1)) fun x4=>(sT 40 [(0,str s_1),(3,I x4)] [] 1):=ef (Bj s_1) fun {Q K} hK self ih x4 y h hr hn=>by
 unfold oG at h
 refine cq 8 [21] [B (decide (x4<(len s_1)))] 65 ?_
 refine sq h ?_ ?_<;>intro h
 ·refine aq 1 ?_
  refine cq 6 [24,25] [str s_1,I x4] 97 ?_
  obtain⟨c5,hc5,h⟩:=bS h
  refine oq 113 (.int .u8 (c5.toNat:Int)) rfl (oT rfl rfl (tE rfl rfl hc5)) ?_
  obtain⟨r6,hr6,h⟩:=bS h
  refine oq 129 (B r6) rfl (cP (aeK hr6)) ?_
  refine cq 2 [28] [B (!r6)] 145 ?_
  refine sq h ?_ ?_<;>intro h
  ·refine cq 4 [2] [B false] 161 ?_
   exact ca rfl (hr _ (an h) _ (qp [B false]))
  ·refine aq 1 ?_
   refine cq 6 [3] [I (ac (x4+1))] 193 ?_
   refine cX ?_
   exact rf [0,3] [] (ih _ _ h hr hn :)
 ·refine aq 1 ?_
  exact rf [0] [] (hn _ (an h) :) (hk:=hK)
theorem Zb (s_1:ae)(r:Bool)(h:su s_1=some r):bx jZ Tryz.f80 [false] 0 (G2 s_1) (G3 r):=by
 show Run _ _ (iQ s_1 r) [.code qK] _
 refine rI 40 [(0,str s_1)] [] 1 ?_
 unfold su at h
 refine cq 9 [5] [I (len s_1)] 49 ?_
 obtain⟨r2,hr2,h⟩:=bS h
 refine oq 65 (B r2) rfl (cP (eQ hr2)) ?_
 refine cq 2 [8] [B (!r2)] 97 ?_
 obtain⟨y3,hy3,hy31,hy32⟩:=bJ h
 have j3:∀u3,y3=.inr u3→Run jZ 0 (iQ s_1 r) (.code (cR (cL (cR qK)))::.code (cR (cR qK))::[]) (sT 40 [(0,str s_1),(17,B u3)] [] 1):=by
  intro u3 hu
  replace h:=hy32 u3 hu
  refine sq h ?_ ?_<;>intro h
  ·refine cq 4 [2] [B false] 17 ?_
   obtain rfl:=sI h
   exact rP [B false]
  ·refine aq 1 ?_
   refine cq 6 [3] [I (0)] 17 ?_
   obtain⟨y7,hy7,hy71,hy72⟩:=bJ h
   refine bM rfl ?_
   refine rf [0,3] [] (PO s_1 rfl 0 _ hy7 (fun r' e st hq=>by rw[hy71 r' e] at hq;exact hq) fun u7 hu=>?_)
   replace h:=hy72 u7 hu
   refine cq 12 [29,30] [str s_1,B (s_1==([116,114,117,101]:ae))] 49 ?_
   obtain⟨u8,hu8,h⟩:=lJ h
   have j8:Run jZ 0 (iQ s_1 r) (.code oE::.blk 2::.code oD::[]) (sT 40 [(30,B u8)] [] 1):=by
    refine sq h ?_ ?_<;>intro h
    ·refine cq 4 [2] [B false] 17 ?_
     obtain rfl:=sI h
     exact rP [B false]
    ·refine aq 1 ?_
     refine cq 5 [2] [B true] 17 ?_
     obtain rfl:=sI h
     exact rP [B true]
   replace h:=hu8
   clear hu8
   refine tM h rfl rfl ?_ ?_<;>intro h
   ·refine aq 1 ?_
    subst h
    exact rf [30] [] (j8 :)
   ·refine cq 5 [30] [B (s_1==([102,114,111,109]:ae))] 81 ?_
    obtain⟨u9,hu9,h⟩:=lJ h
    have j9:Run jZ 0 (iQ s_1 r) (.code oE::.blk 2::.code oD::[]) (sT 40 [(30,B u9)] [] 1):=by
     subst h
     exact rf [30] [] (j8 :)
    replace h:=hu9
    clear hu9
    refine tM h rfl rfl ?_ ?_<;>intro h
    ·refine aq 1 ?_
     subst h
     exact rf [30] [] (j9 :)
    ·refine cq 5 [30] [B (s_1==([110,111,116]:ae))] 113 ?_
     obtain⟨u10,hu10,h⟩:=lJ h
     have j10:Run jZ 0 (iQ s_1 r) (.code oE::.blk 2::.code oD::[]) (sT 40 [(30,B u10)] [] 1):=by
      subst h
      exact rf [30] [] (j9 :)
     replace h:=hu10
     clear hu10
     refine tM h rfl rfl ?_ ?_<;>intro h
     ·refine aq 1 ?_
      subst h
      exact rf [30] [] (j10 :)
     ·refine cq 5 [30] [B (s_1==([97,110,100]:ae))] 145 ?_
      obtain⟨u11,hu11,h⟩:=lJ h
      have j11:Run jZ 0 (iQ s_1 r) (.code oE::.blk 2::.code oD::[]) (sT 40 [(30,B u11)] [] 1):=by
       subst h
       exact rf [30] [] (j10 :)
      replace h:=hu11
      clear hu11
      refine tM h rfl rfl ?_ ?_<;>intro h
      ·refine aq 1 ?_
       subst h
       exact rf [30] [] (j11 :)
      ·refine cq 5 [30] [B (s_1==([111,114]:ae))] 177 ?_
       obtain⟨u12,hu12,h⟩:=lJ h
       have j12:Run jZ 0 (iQ s_1 r) (.code oE::.blk 2::.code oD::[]) (sT 40 [(30,B u12)] [] 1):=by
        subst h
        exact rf [30] [] (j11 :)
       replace h:=hu12
       clear hu12
       refine tM h rfl rfl ?_ ?_<;>intro h
       ·refine aq 1 ?_
        subst h
        exact rf [30] [] (j12 :)
       ·refine cq 5 [30] [B (s_1==([98,111,116,104]:ae))] 209 ?_
        obtain⟨u13,hu13,h⟩:=lJ h
        have j13:Run jZ 0 (iQ s_1 r) (.code oE::.blk 2::.code oD::[]) (sT 40 [(30,B u13)] [] 1):=by
         subst h
         exact rf [30] [] (j12 :)
        replace h:=hu13
        clear hu13
        refine tM h rfl rfl ?_ ?_<;>intro h
        ·refine aq 1 ?_
         subst h
         exact rf [30] [] (j13 :)
        ·refine cq 5 [30] [B (s_1==([101,105,116,104,101,114]:ae))] 241 ?_
         obtain⟨u14,hu14,h⟩:=lJ h
         have j14:Run jZ 0 (iQ s_1 r) (.code oE::.blk 2::.code oD::[]) (sT 40 [(30,B u14)] [] 1):=by
          subst h
          exact rf [30] [] (j13 :)
         replace h:=hu14
         clear hu14
         refine tM h rfl rfl ?_ ?_<;>intro h
         ·refine aq 1 ?_
          subst h
          exact rf [30] [] (j14 :)
         ·refine cq 5 [30] [B (s_1==([105,116]:ae))] 273 ?_
          obtain⟨u15,hu15,h⟩:=lJ h
          have j15:Run jZ 0 (iQ s_1 r) (.code oE::.blk 2::.code oD::[]) (sT 40 [(30,B u15)] [] 1):=by
           subst h
           exact rf [30] [] (j14 :)
          replace h:=hu15
          clear hu15
          refine tM h rfl rfl ?_ ?_<;>intro h
          ·refine aq 1 ?_
           subst h
           exact rf [30] [] (j15 :)
          ·refine cq 4 [30] [B (s_1==([105,110]:ae))] 305 ?_
           subst h
           exact rf [30] [] (j15 :)
 have r3:∀r',y3=.inl r'→∀st,iQ s_1 r' st→(iQ s_1 r) st:=fun r' e st hq=>by rw[hy31 r' e] at hq;exact hq
 replace h:=hy3
 refine sp 8 h rfl ?_ ?_<;>intro h
 ·refine cq 10 [17] [B true] 241 ?_
  exact rf [0,17] [] (j3 _ (an h) :)
 ·refine cq 1 [9] [str s_1] 113 ?_
  obtain⟨c16,hc16,h⟩:=bS h
  refine oy 129 (.int .u8 (c16.toNat:Int)) rfl (oT rfl rfl (tE rfl rfl hc16)) ?_
  refine cq 3 [13] [B (decide ((c16.toNat:Int)<97))] 177 ?_
  obtain⟨y17,hy17,hy171,hy172⟩:=bL h
  have j17:∀u17,y17=.inr u17→Run jZ 0 (iQ s_1 r) (.code (cR (cL (cR qK)))::.code (cR (cR qK))::[]) (sT 40 [(0,str s_1),(17,B u17)] [] 1):=by
   intro u17 hu
   replace h:=hy172 u17 hu
   exact rf [0,17] [] (j3 _ (an h) :)
  have r17:∀r',y17=.inl r'→∀st,iQ s_1 r' st→(iQ s_1 r) st:=fun r' e st hq=>r3 r' (hy171 r' e) st hq
  replace h:=hy17
  refine sp 13 h rfl ?_ ?_<;>intro h
  ·refine cq 5 [17] [B true] 241 ?_
   exact rf [0,17] [] (j17 _ (an h) :)
  ·refine cq 1 [14] [str s_1] 193 ?_
   obtain⟨c18,hc18,h⟩:=bS h
   refine oy 209 (.int .u8 (c18.toNat:Int)) rfl (oT rfl rfl (tE rfl rfl hc18)) ?_
   refine cq 3 [17] [B (decide ((c18.toNat:Int)>122))] 241 ?_
   exact rf [0,17] [] (j17 _ (an h) :)
theorem tn {G:cb}:b9 G 80 pY:=gT 1 0 (aN io (aN VX bB)) cn Tryz.func80 (fun a r h=>Zb a r h)
def GZ:((List ae)×ae)→List V:=cA (gp str) (oA str)
def G1 (r:Bool):V×List V:=(B r,[])
noncomputable def wm :=bm [false,false] GZ G1 fun x=>wl x.1 x.2
theorem Nf {az:List ae}{fp:ae}{r}(h:wl az fp=some r):wm.F (GZ (az,fp))=some (G1 r):=aK (aO (cr bP) (aL bP)) h
noncomputable def VR :=aI Tryz.f123
noncomputable def Nd :=cm []
def VQ (x:(List ae)×ae)(r:Bool):St→Prop:=QF Nd Tryz.f123 [false,false] (GZ x) (G1 r)
theorem PN (az:List ae)(fp:ae):cg Nd 0 (VQ (az,fp)) (cL (cL (cR (cL (cR VR))))) 0 (vg az fp) (fun u=>(sT 18 [] [] 1)) fun x3=>(sT 18 [(0,.isl false (az.map str)),(1,str fp),(5,I x3)] [] 1):=ef (Bi az fp) fun {Q K} hK self ih x3 y h hr hn=>by
 unfold oC at h
 refine cq 5 [6,7] [I x3,.isl false (az.map str)] 33 ?_
 refine oq 49 (I (len az)) rfl (bw rfl rfl rfl (bR rfl)) ?_
 refine cq 2 [9] [B (decide (x3<(len az)))] 65 ?_
 refine sq h ?_ ?_<;>intro h
 ·refine aq 1 ?_
  refine cq 6 [12,13] [.isl false (az.map str),I x3] 97 ?_
  obtain⟨e4,he4,h⟩:=bS h
  refine oq 113 (.iptr (str e4) 0) rfl (al rfl rfl rfl (bn rfl rfl rfl rfl he4)) ?_
  refine cq 4 [17] [B (e4==fp)] 161 ?_
  refine sq h ?_ ?_<;>intro h
  ·refine cq 4 [4] [B true] 177 ?_
   exact ca rfl (hr _ (an h) _ (qp [B true]))
  ·refine aq 1 ?_
   refine cq 6 [5] [I (ac (x3+1))] 209 ?_
   refine cX ?_
   exact rf [0,1,5] [] (ih _ _ h hr hn :)
 ·refine aq 1 ?_
  exact rf [] [] (hn _ (an h) :) (hk:=hK)
theorem Za (az:List ae)(fp:ae)(r:Bool)(h:wl az fp=some r):bx Nd Tryz.f123 [false,false] 0 (GZ (az,fp)) (G1 r):=by
 show Run _ _ (VQ (az,fp) r) [.code VR] _
 refine rI 18 [(0,.isl false (az.map str)),(1,str fp)] [] 1 ?_
 unfold wl at h
 refine cq 10 [5] [I (0)] 33 ?_
 obtain⟨y5,hy5,hy51,hy52⟩:=bJ h
 refine bM rfl ?_
 refine rf [0,1,5] [] (PN az fp rfl 0 _ hy5 (fun r' e st hq=>by rw[hy51 r' e] at hq;exact hq) fun u5 hu=>?_)
 replace h:=hy52 u5 hu
 refine cq 4 [4] [B false] 17 ?_
 obtain rfl:=sI h
 exact rP [B false]
theorem Kj {G:cb}:b9 G 123 wm:=gT 2 0 bB cn Tryz.func123 (fun a r h=>Za a.1 a.2 r h)
def Hs:Contract→List V:=oA aV
def Hu (r:Bool):V×List V:=(B r,[])
noncomputable def DG :=bm [false] Hs Hu fun x=>yF x
theorem aeO {c_1:Contract}{r}(h:yF c_1=some r):DG.F (Hs c_1)=some (Hu r):=aK (aL bv) h
noncomputable def yG :=aI Tryz.f90
noncomputable def Ht :=cm [(80,pY),(123,wm),(89,gn)]
def Nq (x:Contract)(r:Bool):St→Prop:=QF Ht Tryz.f90 [false] (Hs x) (Hu r)
theorem PW (c_1:Contract):cg Ht 0 (Nq c_1) (cL (cL (cR (cL (cR yG))))) 0 (vr c_1) (fun u=>(sT 34 [(1,.hp 1 0 [] 2 0 0)] [⟨0,2,[aa c_1]⟩] 2)) fun x2=>(sT 34 [(1,.hp 1 0 [] 2 0 0),(3,I x2)] [⟨0,2,[aa c_1]⟩] 2):=ef (Br c_1) fun {Q K} hK self ih x2 y h hr hn=>by
 unfold me at h
 refine cq 6 [4,6] [I x2,.isl false (c_1.Parties.map str)] 50 ?_
 refine oq 66 (I (len c_1.Parties)) rfl (bw rfl rfl rfl (bR rfl)) ?_
 refine cq 2 [8] [B (decide (x2<(len c_1.Parties)))] 82 ?_
 refine sq h ?_ ?_<;>intro h
 ·refine aq 1 ?_
  refine aq 3 ?_
  refine d7 [0,1,0,7,15,31,63,127,255,511,255,2047,255,4351,255,28927,61695,131071,262143] rfl (by decide +kernel) ?_
  refine dq [1] [] (.hp 1 0 [] 2 0 0) rfl (ay rfl rfl rfl) ?_
  refine dq [1] [] (.isl false (c_1.Parties.map str)) rfl (aU rfl rfl) ?_
  refine dk 1 [13] [I x2] ?_
  obtain⟨e3,he3,h⟩:=bS h
  refine dq [] [] (.iptr (str e3) 0) rfl (al rfl rfl rfl (bn rfl rfl rfl rfl he3)) ?_
  refine dq [] [] (str e3) rfl (aU rfl rfl) ?_
  obtain⟨r4,hr4,h⟩:=bS h
  refine dq [] [] (B r4) rfl (cP (sv hr4)) ?_ (dZ rfl rfl rfl rfl (bg (bW rfl) dj) (sv hr4) (.inr rfl) rfl)
  refine dk 2 [18,17] [B (!r4),B (!r4)] ?_
  obtain⟨y5,hy5,hy51,hy52⟩:=bL h
  have j5:∀u5,y5=.inr u5→Run Ht 0 Q (.code (cR (cL (cL (cR (cL (cL (cR (cL (cR yG)))))))))::.blk 1::.code (cR (cR (cL (cL (cR (cL (cR yG)))))))::.lp (cL (cL (cR (cL (cR yG)))))::.blk 0::K) (sT 34 [(1,.hp 1 0 [] 2 0 0),(3,I x2),(29,B u5)] [⟨0,2,[aa c_1]⟩] 2):=by
   intro u5 hu
   replace h:=hy52 u5 hu
   refine sq h ?_ ?_<;>intro h
   ·refine cq 4 [2] [B false] 18 ?_
    exact ca rfl (hr _ (an h) _ (qp [B false]))
   ·refine aq 1 ?_
    refine cq 6 [3] [I (ac (x2+1))] 50 ?_
    refine cX ?_
    exact rf [1,3] [1] (ih _ _ h hr hn :)
  have r5:∀r',y5=.inl r'→∀st,Nq c_1 r' st→Q st:=fun r' e st hq=>hr r' (hy51 r' e) st hq
  replace h:=hy5
  refine sp 18 h rfl ?_ ?_<;>intro h
  ·refine dk 11 [29,28,27,26,25,24,23,22,21,20,19] [B true,.und,.und,.und,.und,.und,.und,.und,.und,.und,.und] ?_
   refine de 386 rfl rfl ?_
   exact rf [1,3,29] [1] (j5 _ (an h) :)
  ·refine dy [1] [] (.hp 1 0 [] 2 0 0) rfl (ay rfl rfl rfl) ?_
   refine dy [1] [] (.isl false (c_1.Parties.map str)) rfl (aU rfl rfl) ?_
   refine dk 1 [21] [I x2] ?_
   obtain⟨s6,hs6,h⟩:=bS h
   refine dy [] [] (.isl false (s6.map str)) rfl (iG rfl rfl rfl rfl (zw rfl rfl (fun y=>(mF y).1) rfl rfl hs6)) ?_
   refine dy [1] [] (.hp 1 0 [] 2 0 0) rfl (ay rfl rfl rfl) ?_
   refine dy [1] [] (.isl false (c_1.Parties.map str)) rfl (aU rfl rfl) ?_
   refine dk 1 [25] [I x2] ?_
   obtain⟨e7,he7,h⟩:=bS h
   refine dy [] [] (.iptr (str e7) 0) rfl (al rfl rfl rfl (bn rfl rfl rfl rfl he7)) ?_
   refine dy [] [] (str e7) rfl (aU rfl rfl) ?_
   obtain⟨r8,hr8,h⟩:=bS h
   refine dy [] [] (B r8) rfl (cP (Nf hr8)) ?_ (dZ rfl rfl rfl rfl (bg (bW rfl) (bg (bW rfl) dj)) (Nf hr8) (.inr rfl) rfl)
   refine dk 1 [29] [B r8] ?_
   refine de 386 rfl rfl ?_
   exact rf [1,3,29] [1] (j5 _ (an h) :)
 ·refine aq 1 ?_
  exact rf [1] [1] (hn _ (an h) :) (hk:=hK)
theorem Zn (c_1:Contract)(r:Bool)(h:yF c_1=some r):bx Ht Tryz.f90 [false] 0 (Hs c_1) (Hu r):=by
 show Run _ _ (Nq c_1 r) [.code yG] _
 refine rI 34 [(0,aa c_1)] [] 1 ?_
 unfold yF at h
 refine ck 11 [1,3] [] [1] [] [.hp 1 0 [] 2 0 0,I (0)] [some ⟨0,2,[aa c_1]⟩] 49 (by kernel_rfl) ?_
 obtain⟨y9,hy9,hy91,hy92⟩:=bJ h
 refine bM rfl ?_
 refine rf [1,3] [1] (PW c_1 rfl 0 _ hy9 (fun r' e st hq=>by rw[hy91 r' e] at hq;exact hq) fun u9 hu=>?_)
 replace h:=hy92 u9 hu
 refine cq 4 [31] [.isl false (c_1.Parties.map str)] 34 ?_
 refine oq 50 (I (len c_1.Parties)) rfl (bw rfl rfl rfl (bR rfl)) ?_
 obtain⟨r10,hr10,h⟩:=bS h
 refine oq 66 (B r10) rfl (cP (eQ hr10)) ?_
 refine cq 2 [2] [B r10] 82 ?_
 obtain rfl:=sI h
 exact rP [B r10]
theorem Wc {G:cb}:b9 G 90 DG:=gT 1 0 (aN tn (aN Kj (aN io bB))) cn Tryz.func90 (fun a r h=>Zn a r h)
def Hj:(Contract×ae)→List V:=cA aV (oA str)
def Hk (r:Int):V×List V:=(I r,[])
noncomputable def wr :=bm [false,false] Hj Hk fun x=>wq x.1 x.2
theorem No {c_1:Contract}{fC:ae}{r}(h:wq c_1 fC=some r):wr.F (Hj (c_1,fC))=some (Hk r):=aK (aO bv (aL bP)) h
noncomputable def V7 :=aI Tryz.f91
noncomputable def Nn :=cm []
def V6 (x:Contract×ae)(r:Int):St→Prop:=QF Nn Tryz.f91 [false,false] (Hj x) (Hk r)
theorem PT (c_1:Contract)(fC:ae):cg Nn 0 (V6 (c_1,fC)) (cL (cL (cR (cL (cR V7))))) 0 (vp c_1 fC) (fun u=>(sT 22 [] [] 1)) fun x3=>(sT 22 [(1,str fC),(2,.hp 1 0 [] 2 0 0),(5,I x3)] [⟨0,2,[aa c_1]⟩] 2):=ef (Bo c_1 fC) fun {Q K} hK self ih x3 y h hr hn=>by
 unfold oJ at h
 refine cq 6 [6,8] [I x3,.isl false (c_1.Clauses.map au)] 50 ?_
 refine oq 66 (I (len c_1.Clauses)) rfl (bw rfl rfl rfl (bR rfl)) ?_
 refine cq 2 [10] [B (decide (x3<(len c_1.Clauses)))] 82 ?_
 refine sq h ?_ ?_<;>intro h
 ·refine aq 1 ?_
  refine cq 7 [14,15] [.isl false (c_1.Clauses.map au),I x3] 130 ?_
  obtain⟨e4,he4,h⟩:=bS h
  refine oq 146 (.iptr (aB e4) 0) rfl (al rfl rfl rfl (bn rfl rfl rfl rfl he4)) ?_
  refine cq 5 [20] [B (e4.Id==fC)] 210 ?_
  refine sq h ?_ ?_<;>intro h
  ·refine cq 5 [4] [I x3] 242 ?_
   exact ca rfl (hr _ (an h) _ (qp [I x3]))
  ·refine aq 1 ?_
   refine cq 6 [5] [I (ac (x3+1))] 258 ?_
   refine cX ?_
   exact rf [1,2,5] [1] (ih _ _ h hr hn :)
 ·refine aq 1 ?_
  exact rf [] [] (hn _ (an h) :) (hk:=hK)
theorem Zk (c_1:Contract)(fC:ae)(r:Int)(h:wq c_1 fC=some r):bx Nn Tryz.f91 [false,false] 0 (Hj (c_1,fC)) (Hk r):=by
 show Run _ _ (V6 (c_1,fC) r) [.code V7] _
 refine rI 22 [(0,aa c_1),(1,str fC)] [] 1 ?_
 unfold wq at h
 refine ck 11 [2,5] [] [1] [] [.hp 1 0 [] 2 0 0,I (0)] [some ⟨0,2,[aa c_1]⟩] 49 (by kernel_rfl) ?_
 obtain⟨y5,hy5,hy51,hy52⟩:=bJ h
 refine bM rfl ?_
 refine rf [1,2,5] [1] (PT c_1 fC rfl 0 _ hy5 (fun r' e st hq=>by rw[hy51 r' e] at hq;exact hq) fun u5 hu=>?_)
 replace h:=hy52 u5 hu
 refine cq 4 [4] [I (-1)] 17 ?_
 obtain rfl:=sI h
 exact rP [I (-1)]
theorem Kl {G:cb}:b9 G 91 wr:=gT 2 0 bB cn Tryz.func91 (fun a r h=>Zk a.1 a.2 r h)
def GP:Int→List V:=oA I
def GQ (r:Bool):V×List V:=(B r,[])
noncomputable def pX :=bm [false] GP GQ fun x=>pW x
theorem yj {iq:Int}{r}(h:pW iq=some r):pX.F (GP iq)=some (GQ r):=aK (aL bf) h
noncomputable def aeF :=aI Tryz.f76
noncomputable def VH :=cm [(89,gn)]
def aeE (x:Int)(r:Bool):St→Prop:=QF VH Tryz.f76 [false] (GP x) (GQ r)
theorem Y4 (iq:Int)(r:Bool)(h:pW iq=some r):bx VH Tryz.f76 [false] 0 (GP iq) (GQ r):=by
 show Run _ _ (aeE iq r) [.code aeF] _
 refine rI 5 [(0,I iq)] [] 1 ?_
 unfold pW at h
 refine cq 7 [3] [I iq] 33 ?_
 obtain⟨r2,hr2,h⟩:=bS h
 refine oq 49 (B r2) rfl (cP (eQ hr2)) ?_
 refine cq 2 [2] [B r2] 65 ?_
 obtain rfl:=sI h
 exact rP [B r2]
theorem tk {G:cb}:b9 G 76 pX:=gT 1 0 (aN io bB) cn Tryz.func76 (fun a r h=>Y4 a r h)
def GU:Condition→List V:=oA bH
def GV (r:Bool):V×List V:=(B r,[])
noncomputable def Dt :=bm [false] GU GV fun x=>Ds x
theorem aeH {c_1:Condition}{r}(h:Ds c_1=some r):Dt.F (GU c_1)=some (GV r):=aK (aL dP) h
noncomputable def pe :=aI Tryz.f190
noncomputable abbrev jY :=cR (cR (cR pe))
noncomputable abbrev Qr :=cR (cL (cR (cR (cR (cL (cR (cL (cR (cR pe)))))))))
noncomputable abbrev Qs :=cR (cL (cR (cR (cR (cR (cR (cL (cR (cL (cR (cR pe)))))))))))
noncomputable abbrev Qt :=cR (cL (cR (cR (cR (cR (cR (cR (cR (cL (cR (cL (cR (cR pe)))))))))))))
noncomputable abbrev Qu :=cR (cL (cR (cR (cR (cR (cR (cR (cR (cR (cR (cL (cR (cL (cR (cR pe)))))))))))))))
noncomputable def jX :=cm [(80,pY),(76,pX)]
def hP (x:Condition)(r:Bool):St→Prop:=QF jX Tryz.f190 [false] (GU x) (GV r)
theorem Y6 (c_1:Condition)(r:Bool)(h:Ds c_1=some r):bx jX Tryz.f190 [false] 0 (GU c_1) (GV r):=by
 show Run _ _ (hP c_1 r) [.code pe] _
 refine rI 80 [(0,ar c_1)] [] 1 ?_
 unfold Ds at h
 refine ck 9 [1,5] [] [1] [] [.hp 1 0 [] 4 0 0,.isl false (c_1.Parts.map aH)] [some ⟨0,4,[ar c_1]⟩] 65 (by kernel_rfl) ?_
 refine oq 81 (I (len c_1.Parts)) rfl (bw rfl rfl rfl (bR rfl)) ?_
 refine cq 14 [3,8,9] [I (len c_1.Parts),I c_1.Op,B (c_1.Op==1)] 161 ?_
 refine sq h ?_ ?_<;>intro h
 ·refine cq 5 [13] [B ((len c_1.Parts)==0)] 209 ?_
  obtain⟨u2,hu2,h⟩:=lJ h
  have j2:Run jX 0 (hP c_1 r) (.code (cR (cL (cR (cL (cR (cL (cR (cR pe))))))))::.blk 0::.code jY::[]) (sT 80 [(2,B u2)] [] 1):=by
   obtain rfl:=sI h
   exact rP [B u2]
  replace h:=hu2
  clear hu2
  refine sp 13 h rfl ?_ ?_<;>intro h
  ·refine cq 5 [18] [B (c_1.Name==([]:ae))] 289 ?_
   obtain⟨u3,hu3,h⟩:=lJ h
   have j3:Run jX 0 (hP c_1 r) (.code (cR (cL (cR (cL (cR (cL (cR (cR pe))))))))::.blk 0::.code jY::[]) (sT 80 [(2,B u3)] [] 1):=by
    subst h
    exact rf [2] [] (j2 :)
   replace h:=hu3
   clear hu3
   refine sp 18 h rfl ?_ ?_<;>intro h
   ·refine cq 6 [2] [B (c_1.Day==0)] 369 ?_
    subst h
    exact rf [2] [] (j3 :)
   ·refine cq 6 [2] [B false] 369 ?_
    subst h
    exact rf [2] [] (j3 :)
  ·refine cq 11 [2] [B false] 369 ?_
   subst h
   exact rf [2] [] (j2 :)
 ·refine cq 5 [23] [B (c_1.Op==2)] 193 ?_
  refine sq h ?_ ?_<;>intro h
  ·refine cq 5 [27] [B ((len c_1.Parts)==0)] 241 ?_
   obtain⟨y4,hy4,hy41,hy42⟩:=bJ h
   have j4:∀u4,y4=.inr u4→Run jX 0 (hP c_1 r) (.code Qr::.blk 0::.code jY::[]) (sT 80 [(2,B u4)] [] 1):=by
    intro u4 hu
    replace h:=hy42 u4 hu
    obtain rfl:=sI h
    exact rP [B u4]
   have r4:∀r',y4=.inl r'→∀st,hP c_1 r' st→(hP c_1 r) st:=fun r' e st hq=>by rw[hy41 r' e] at hq;exact hq
   replace h:=hy4
   refine sp 27 h rfl ?_ ?_<;>intro h
   ·refine cq 2 [29] [str c_1.Name] 273 ?_
    obtain⟨r5,hr5,h⟩:=bS h
    refine oy 289 (B r5) rfl (cP (sv hr5)) ?_
    refine cq 2 [32] [B r5] 321 ?_
    obtain⟨u6,hu6,h⟩:=lJ h
    have j6:Run jX 0 (hP c_1 r) (.code Qr::.blk 0::.code jY::[]) (sT 80 [(2,B u6)] [] 1):=by
     exact rf [2] [] (j4 _ (an h) :)
    replace h:=hu6
    clear hu6
    refine sp 32 h rfl ?_ ?_<;>intro h
    ·refine cq 6 [2] [B (c_1.Day==0)] 401 ?_
     subst h
     exact rf [2] [] (j6 :)
    ·refine cq 6 [2] [B false] 401 ?_
     subst h
     exact rf [2] [] (j6 :)
   ·refine cq 11 [2] [B false] 401 ?_
    exact rf [2] [] (j4 _ (an h) :)
  ·refine cq 5 [37] [B (c_1.Op==3)] 225 ?_
   refine sq h ?_ ?_<;>intro h
   ·refine cq 5 [41] [B ((len c_1.Parts)==0)] 273 ?_
    obtain⟨y7,hy7,hy71,hy72⟩:=bJ h
    have j7:∀u7,y7=.inr u7→Run jX 0 (hP c_1 r) (.code Qs::.blk 0::.code jY::[]) (sT 80 [(2,B u7)] [] 1):=by
     intro u7 hu
     replace h:=hy72 u7 hu
     obtain rfl:=sI h
     exact rP [B u7]
    have r7:∀r',y7=.inl r'→∀st,hP c_1 r' st→(hP c_1 r) st:=fun r' e st hq=>by rw[hy71 r' e] at hq;exact hq
    replace h:=hy7
    refine sp 41 h rfl ?_ ?_<;>intro h
    ·refine cq 5 [46] [B (c_1.Name==([]:ae))] 353 ?_
     obtain⟨y8,hy8,hy81,hy82⟩:=bL h
     have j8:∀u8,y8=.inr u8→Run jX 0 (hP c_1 r) (.code Qs::.blk 0::.code jY::[]) (sT 80 [(2,B u8)] [] 1):=by
      intro u8 hu
      replace h:=hy82 u8 hu
      exact rf [2] [] (j7 _ (an h) :)
     have r8:∀r',y8=.inl r'→∀st,hP c_1 r' st→(hP c_1 r) st:=fun r' e st hq=>r7 r' (hy81 r' e) st hq
     replace h:=hy8
     refine sp 46 h rfl ?_ ?_<;>intro h
     ·refine cq 2 [48] [I c_1.Day] 385 ?_
      obtain⟨r9,hr9,h⟩:=bS h
      refine oy 401 (B r9) rfl (cP (yj hr9)) ?_
      refine cq 3 [2] [B r9] 433 ?_
      exact rf [2] [] (j8 _ (an h) :)
     ·refine cq 6 [2] [B false] 433 ?_
      exact rf [2] [] (j8 _ (an h) :)
    ·refine cq 11 [2] [B false] 433 ?_
     exact rf [2] [] (j7 _ (an h) :)
   ·refine cq 5 [51] [B (c_1.Op==4)] 257 ?_
    refine sq h ?_ ?_<;>intro h
    ·refine cq 5 [55] [B ((len c_1.Parts)==1)] 305 ?_
     obtain⟨u10,hu10,h⟩:=lJ h
     have j10:Run jX 0 (hP c_1 r) (.code Qt::.blk 0::.code jY::[]) (sT 80 [(2,B u10)] [] 1):=by
      obtain rfl:=sI h
      exact rP [B u10]
     replace h:=hu10
     clear hu10
     refine sp 55 h rfl ?_ ?_<;>intro h
     ·refine cq 5 [60] [B (c_1.Name==([]:ae))] 385 ?_
      obtain⟨u11,hu11,h⟩:=lJ h
      have j11:Run jX 0 (hP c_1 r) (.code Qt::.blk 0::.code jY::[]) (sT 80 [(2,B u11)] [] 1):=by
       subst h
       exact rf [2] [] (j10 :)
      replace h:=hu11
      clear hu11
      refine sp 60 h rfl ?_ ?_<;>intro h
      ·refine cq 6 [2] [B (c_1.Day==0)] 465 ?_
       subst h
       exact rf [2] [] (j11 :)
      ·refine cq 6 [2] [B false] 465 ?_
       subst h
       exact rf [2] [] (j11 :)
     ·refine cq 11 [2] [B false] 465 ?_
      subst h
      exact rf [2] [] (j10 :)
    ·refine cq 6 [65] [B (c_1.Op==5)] 289 ?_
     obtain⟨u12,hu12,h⟩:=lJ h
     have j12:Run jX 0 (hP c_1 r) (.code (cR (cR (cR (cR (cR (cR (cR (cR (cR (cL (cR (cL (cR (cR pe))))))))))))))::.blk 0::.code jY::[]) (sT 80 [(1,.hp 1 0 [] 4 0 0),(3,I (len c_1.Parts)),(65,B u12)] [⟨0,4,[ar c_1]⟩] 2):=by
      refine sq h ?_ ?_<;>intro h
      ·refine cq 5 [70] [B ((len c_1.Parts)==2)] 50 ?_
       obtain⟨u13,hu13,h⟩:=lJ h
       have j13:Run jX 0 (hP c_1 r) (.code Qu::.blk 0::.code jY::[]) (sT 80 [(2,B u13)] [] 1):=by
        obtain rfl:=sI h
        exact rP [B u13]
       replace h:=hu13
       clear hu13
       refine sp 70 h rfl ?_ ?_<;>intro h
       ·refine cq 5 [75] [B (c_1.Name==([]:ae))] 130 ?_
        obtain⟨u14,hu14,h⟩:=lJ h
        have j14:Run jX 0 (hP c_1 r) (.code Qu::.blk 0::.code jY::[]) (sT 80 [(2,B u14)] [] 1):=by
         subst h
         exact rf [2] [] (j13 :)
        replace h:=hu14
        clear hu14
        refine sp 75 h rfl ?_ ?_<;>intro h
        ·refine cq 6 [2] [B (c_1.Day==0)] 210 ?_
         subst h
         exact rf [2] [] (j14 :)
        ·refine cq 6 [2] [B false] 210 ?_
         subst h
         exact rf [2] [] (j14 :)
       ·refine cq 11 [2] [B false] 210 ?_
        subst h
        exact rf [2] [] (j13 :)
      ·refine aq 1 ?_
       refine cq 5 [2] [B false] 18 ?_
       obtain rfl:=sI h
       exact rP [B false]
     replace h:=hu12
     clear hu12
     refine tM h rfl rfl ?_ ?_<;>intro h
     ·refine aq 1 ?_
      subst h
      exact rf [1,3,65] [1] (j12 :)
     ·refine cq 4 [65] [B (c_1.Op==6)] 321 ?_
      subst h
      exact rf [1,3,65] [1] (j12 :)
theorem VK {G:cb}:b9 G 190 Dt:=gT 1 0 (aN tn (aN tk bB)) cn Tryz.func190 (fun a r h=>Y6 a r h)
def yk:Condition→List V:=oA bH
def ym (r:Bool):V×List V:=(B r,[])
noncomputable def yo (cG:Condition→Option Bool):Ent:=bm [false] yk ym cG
theorem Qv (cG:Condition→Option Bool){x}{r}(h:cG x=some r):(yo cG).F (yk x)=some (ym r):=aK (aL dP) h
noncomputable def Du :=yo (aJ ss)
theorem aeI {c_1:Condition}{r}(h:Jo c_1=some r):Du.F (yk c_1)=some (ym r):=Qv (aJ ss) h
noncomputable def VM :=aI Tryz.f169
noncomputable def Nb (cG:Condition→Option Bool):Env:=cm [(190,Dt),(169,(yo cG))]
def VL (cG:Condition→Option Bool)(x:Condition)(r:Bool):St→Prop:=QF (Nb cG) Tryz.f169 [false] (yk x) (ym r)
theorem PM (cG:Condition→Option Bool)(c_1:Condition):cg (Nb cG) 0 (VL cG c_1) (cL (cL (cR (cL (cR (cR VM)))))) 0 (rY cG c_1) (fun u=>(sT 21 [] [] 1)) fun x3=>(sT 21 [(1,.hp 1 0 [] 4 0 0),(3,I x3)] [⟨0,4,[ar c_1]⟩] 2):=ef (Bh cG c_1) fun {Q K} hK self ih x3 y h hr hn=>by
 unfold l7 at h
 refine cq 6 [7,9] [I x3,.isl false (c_1.Parts.map aH)] 50 ?_
 refine oq 66 (I (len c_1.Parts)) rfl (bw rfl rfl rfl (bR rfl)) ?_
 refine cq 2 [11] [B (decide (x3<(len c_1.Parts)))] 82 ?_
 refine sq h ?_ ?_<;>intro h
 ·refine aq 1 ?_
  refine cq 7 [15,16] [.isl false (c_1.Parts.map aH),I x3] 130 ?_
  obtain⟨e4,he4,h⟩:=bS h
  refine oq 146 (.iptr (ar e4) 0) rfl (al rfl rfl rfl (bn rfl rfl (dI e4) rfl he4)) ?_
  refine cq 1 [18] [ar e4] 162 ?_
  obtain⟨r5,hr5,h⟩:=bS h
  refine oq 178 (B r5) rfl (bK rfl rfl (b8 rfl rfl rfl (bg (bW rfl) dj) (Qv cG hr5) (.inr rfl) dK rfl rfl rfl)) ?_
  refine cq 2 [20] [B (!r5)] 194 ?_
  refine sq h ?_ ?_<;>intro h
  ·refine cq 4 [2] [B false] 210 ?_
   exact ca rfl (hr _ (an h) _ (qp [B false]))
  ·refine aq 1 ?_
   refine cq 6 [3] [I (ac (x3+1))] 242 ?_
   refine cX ?_
   exact rf [1,3] [1] (ih _ _ h hr hn :)
 ·refine aq 1 ?_
  exact rf [] [] (hn _ (an h) :) (hk:=hK)
theorem Y8 (cG:Condition→Option Bool)(c_1:Condition)(r:Bool)(h:vf cG c_1=some r):bx (Nb cG) Tryz.f169 [false] 0 (yk c_1) (ym r):=by
 show Run _ _ (VL cG c_1 r) [.code VM] _
 refine rI 21 [(0,ar c_1)] [] 1 ?_
 unfold vf at h
 refine ck 9 [1,4] [] [1] [] [.hp 1 0 [] 4 0 0,ar c_1] [some ⟨0,4,[ar c_1]⟩] 49 (by kernel_rfl) ?_
 obtain⟨r2,hr2,h⟩:=bS h
 refine oq 65 (B r2) rfl (cP (aeH hr2)) ?_
 refine cq 2 [6] [B (!r2)] 81 ?_
 refine sq h ?_ ?_<;>intro h
 ·refine cq 4 [2] [B false] 97 ?_
  obtain rfl:=sI h
  exact rP [B false]
 ·refine aq 1 ?_
  refine cq 6 [3] [I (0)] 97 ?_
  obtain⟨y6,hy6,hy61,hy62⟩:=bJ h
  refine bM rfl ?_
  refine rf [1,3] [1] (PM cG c_1 rfl 0 _ hy6 (fun r' e st hq=>by rw[hy61 r' e] at hq;exact hq) fun u6 hu=>?_)
  replace h:=hy62 u6 hu
  refine cq 4 [2] [B true] 17 ?_
  obtain rfl:=sI h
  exact rP [B true]
theorem VN {G:cb}:b9 G 169 Du:=jL fun cG g_Ffdv=>gT 1 0 (aN VK (aN g_Ffdv bB)) cn Tryz.func169 (fun a r h=>Y8 cG a r h)
def yB:Condition→List V:=oA bH
def yC (r:Int):V×List V:=(I r,[])
noncomputable def yD (cI:Condition→Option Int):Ent:=bm [false] yB yC cI
theorem Qx (cI:Condition→Option Int){x}{r}(h:cI x=some r):(yD cI).F (yB x)=some (yC r):=aK (aL dP) h
noncomputable def Dz :=yD (aJ ma)
theorem aeL {c_1:Condition}{r}(h:Nj c_1=some r):Dz.F (yB c_1)=some (yC r):=Qx (aJ ma) h
noncomputable def VZ :=aI Tryz.f170
noncomputable def Nk (cI:Condition→Option Int):Env:=cm [(170,(yD cI))]
def VY (cI:Condition→Option Int)(x:Condition)(r:Int):St→Prop:=QF (Nk cI) Tryz.f170 [false] (yB x) (yC r)
theorem PR (cI:Condition→Option Int)(c_1:Condition):cg (Nk cI) 0 (VY cI c_1) (cL (cL (cR (cL (cR (cR VZ)))))) 0 (mN cI c_1) (fun u=>(sT 21 [(3,I u)] [] 1)) fun x2=>(sT 21 [(1,.hp 1 0 [] 4 0 0),(3,I x2.1),(4,I x2.2)] [⟨0,4,[ar c_1]⟩] 2):=ef (Bm cI c_1) fun {Q K} hK self ih x2 y h hr hn=>by
 unfold kB at h
 refine cq 6 [5,7] [I x2.2,.isl false (c_1.Parts.map aH)] 50 ?_
 refine oq 66 (I (len c_1.Parts)) rfl (bw rfl rfl rfl (bR rfl)) ?_
 refine cq 2 [9] [B (decide (x2.2<(len c_1.Parts)))] 82 ?_
 refine sq h ?_ ?_<;>intro h
 ·refine aq 1 ?_
  refine cq 7 [12,14,15] [I x2.1,.isl false (c_1.Parts.map aH),I x2.2] 146 ?_
  obtain⟨e3,he3,h⟩:=bS h
  refine oq 162 (.iptr (ar e3) 0) rfl (al rfl rfl rfl (bn rfl rfl (dI e3) rfl he3)) ?_
  refine cq 1 [17] [ar e3] 178 ?_
  obtain⟨r4,hr4,h⟩:=bS h
  refine oq 194 (I r4) rfl (bK rfl rfl (b8 rfl rfl rfl (bg (bW rfl) dj) (Qx cI hr4) (.inr rfl) dK rfl rfl rfl)) ?_
  refine cq 9 [3,4] [I (ac (x2.1+r4)),I (ac (x2.2+1))] 274 ?_
  refine cX ?_
  exact rf [1,3,4] [1] (ih _ _ h hr hn :)
 ·refine aq 1 ?_
  exact rf [3] [] (hn _ (an h) :) (hk:=hK)
theorem Zh (cI:Condition→Option Int)(c_1:Condition)(r:Int)(h:vm cI c_1=some r):bx (Nk cI) Tryz.f170 [false] 0 (yB c_1) (yC r):=by
 show Run _ _ (VY cI c_1 r) [.code VZ] _
 refine rI 21 [(0,ar c_1)] [] 1 ?_
 unfold vm at h
 refine ck 15 [1,3,4] [] [1] [] [.hp 1 0 [] 4 0 0,I (1),I (0)] [some ⟨0,4,[ar c_1]⟩] 65 (by kernel_rfl) ?_
 obtain⟨y5,hy5,hy51,hy52⟩:=bJ h
 refine bM rfl ?_
 refine rf [1,3,4] [1] (PR cI c_1 rfl (1,0) _ hy5 (fun r' e st hq=>by rw[hy51 r' e] at hq;exact hq) fun u5 hu=>?_)
 replace h:=hy52 u5 hu
 refine cq 5 [2] [I u5] 33 ?_
 obtain rfl:=sI h
 exact rP [I u5]
theorem V0 {G:cb}:b9 G 170 Dz:=jL fun cI g_Ffec=>gT 1 0 (aN g_Ffec bB) cn Tryz.func170 (fun a r h=>Zh cI a r h)
def GW:Condition→List V:=oA bH
def GY (r:Bool):V×List V:=(B r,[])
noncomputable def Dw :=bm [false] GW GY fun x=>Dv x
theorem aeJ {c_1:Condition}{r}(h:Dv c_1=some r):Dw.F (GW c_1)=some (GY r):=aK (aL dP) h
noncomputable def VO :=aI Tryz.f135
noncomputable def Nc :=cm [(169,Du),(170,Dz)]
def GX (x:Condition)(r:Bool):St→Prop:=QF Nc Tryz.f135 [false] (GW x) (GY r)
theorem Y9 (c_1:Condition)(r:Bool)(h:Dv c_1=some r):bx Nc Tryz.f135 [false] 0 (GW c_1) (GY r):=by
 show Run _ _ (GX c_1 r) [.code VO] _
 refine rI 10 [(0,ar c_1)] [] 1 ?_
 unfold Dv at h
 refine ck 8 [1,3] [] [1] [] [.hp 1 0 [] 4 0 0,ar c_1] [some ⟨0,4,[ar c_1]⟩] 49 (by kernel_rfl) ?_
 obtain⟨r2,hr2,h⟩:=bS h
 refine oq 65 (B r2) rfl (cP (aeI hr2)) ?_
 refine cq 1 [5] [B r2] 81 ?_
 obtain⟨y3,hy3,hy31,hy32⟩:=bJ h
 have j3:∀u3,y3=.inr u3→Run Nc 0 (GX c_1 r) (.code (cR (cR VO))::[]) (sT 10 [(2,B u3)] [] 1):=by
  intro u3 hu
  replace h:=hy32 u3 hu
  obtain rfl:=sI h
  exact rP [B u3]
 have r3:∀r',y3=.inl r'→∀st,GX c_1 r' st→(GX c_1 r) st:=fun r' e st hq=>by rw[hy31 r' e] at hq;exact hq
 replace h:=hy3
 refine sp 5 h rfl ?_ ?_<;>intro h
 ·refine cq 1 [6] [ar c_1] 97 ?_
  obtain⟨r4,hr4,h⟩:=bS h
  refine oy 113 (I r4) rfl (cP (aeL hr4)) ?_
  refine cq 4 [2] [B (decide (r4≤15))] 161 ?_
  exact rf [2] [] (j3 _ (an h) :)
 ·refine cq 6 [2] [B false] 161 ?_
  exact rf [2] [] (j3 _ (an h) :)
theorem VP {G:cb}:b9 G 135 Dw:=gT 1 0 (aN VN (aN V0 bB)) cn Tryz.func135 (fun a r h=>Y9 a r h)
def Hf:(Contract×Int)→List V:=cA aV (oA I)
def Hg (r:Bool):V×List V:=(B r,[])
noncomputable def DB :=bm [false,false] Hf Hg fun x=>DA x.1 x.2
theorem V1 {c_1:Contract}{i_2:Int}{r}(h:DA c_1 i_2=some r):DB.F (Hf (c_1,i_2))=some (Hg r):=aK (aO bv (aL bf)) h
noncomputable def Nl :=aI Tryz.f92
noncomputable abbrev oH :=cR (cR (cR (cR Nl)))
noncomputable abbrev sa :=cR (cL (cR (cR (cR Nl))))
noncomputable abbrev vn :=cR oH
noncomputable abbrev zI :=cR (cL oH)
noncomputable abbrev Jp :=cR (cR (cR vn))
noncomputable def jb :=cm [(80,pY),(89,gn),(91,wr),(135,Dw)]
def eC (x:Contract×Int)(r:Bool):St→Prop:=QF jb Tryz.f92 [false,false] (Hf x) (Hg r)
theorem Zi (c_1:Contract)(i_2:Int)(r:Bool)(h:DA c_1 i_2=some r):bx jb Tryz.f92 [false,false] 0 (Hf (c_1,i_2)) (Hg r):=by
 show Run _ _ (eC (c_1,i_2) r) [.code Nl] _
 refine rI 114 [(0,aa c_1),(1,I i_2)] [] 1 ?_
 unfold DA at h
 refine ck 10 [2,9,10] [] [1] [] [.hp 1 0 [] 2 0 0,.isl false (c_1.Clauses.map au),I i_2] [some ⟨0,2,[aa c_1]⟩] 81 (by kernel_rfl) ?_
 obtain⟨e3,he3,h⟩:=bS h
 refine oq 97 (.iptr (aB e3) 0) rfl (al rfl rfl rfl (bn rfl rfl rfl rfl he3)) ?_
 refine ck 2 [5,12] [] [113] [] [.hp 113 0 [] 12 0 0,aB e3] [some ⟨0,12,[.agg [str ([]),I (0),I (0),str ([]),I (0),I (0),I (0),str ([]),I (0),.isl true [],I (0),str ([])]]⟩] 129 (by kernel_rfl) ?_
 refine gk 113 [.agg [str ([]),I (0),I (0),str ([]),I (0),I (0),I (0),str ([]),I (0),.usl 4 (([]).map aj),I (0),str ([])]] rfl rfl (aQ (iw (aQ (.refl _) (aQ (.refl _) (aQ (.refl _) (aQ (.refl _) (aQ (.refl _) (aQ (.refl _) (aQ (.refl _) (aQ (.refl _) (aQ (.refl _) (aQ (.nil _) (aQ (.refl _) (aQ (.refl _) fh))))))))))))) fh) ?_
 refine ck 6 [14] [] [113] [] [.isl false (c_1.Parties.map str)] [some ⟨2,12,[aB e3]⟩] 177 (by kernel_rfl) ?_
 refine oq 193 (I (len c_1.Parties)) rfl (bw rfl rfl rfl (bR rfl)) ?_
 refine cq 7 [6,17] [I (len c_1.Parties),str e3.Id] 241 ?_
 obtain⟨r4,hr4,h⟩:=bS h
 refine oq 257 (B r4) rfl (cP (sv hr4)) ?_
 refine cq 2 [20] [B (!r4)] 289 ?_
 obtain⟨y5,hy5,hy51,hy52⟩:=bJ h
 have j5:∀u5,y5=.inr u5→Run jb 0 (eC (c_1,i_2) r) (.code sa::.code oH::[]) (sT 114 [(1,I i_2),(2,.hp 1 0 [] 2 0 0),(5,.hp 2 0 [] 12 0 0),(60,B u5)] [⟨0,2,[aa c_1]⟩,⟨0,12,[aB e3]⟩] 3):=by
  intro u5 hu
  replace h:=hy52 u5 hu
  refine sq h ?_ ?_<;>intro h
  ·refine cq 4 [4] [B false] 19 ?_
   obtain rfl:=sI h
   exact rP [B false]
  ·refine aq 1 ?_
   refine cq 5 [62] [I e3.Amount] 35 ?_
   obtain⟨r6,hr6,h⟩:=bS h
   refine oq 51 (B r6) rfl (cP (eQ hr6)) ?_
   refine cq 2 [65] [B (!r6)] 83 ?_
   obtain⟨y7,hy7,hy71,hy72⟩:=bJ h
   have j7:∀u7,y7=.inr u7→Run jb 0 (eC (c_1,i_2) r) (.code zI::.code vn::[]) (sT 114 [(1,I i_2),(2,.hp 1 0 [] 2 0 0),(5,.hp 2 0 [] 12 0 0),(85,B u7)] [⟨0,2,[aa c_1]⟩,⟨0,12,[aB e3]⟩] 3):=by
    intro u7 hu
    replace h:=hy72 u7 hu
    refine sq h ?_ ?_<;>intro h
    ·refine cq 4 [4] [B false] 19 ?_
     obtain rfl:=sI h
     exact rP [B false]
    ·refine aq 1 ?_
     refine cq 7 [88] [B (e3.Repair==([]:ae))] 51 ?_
     refine sq h ?_ ?_<;>intro h
     ·refine cq 4 [4] [B true] 67 ?_
      obtain rfl:=sI h
      exact rP [B true]
     ·refine aq 1 ?_
      refine cq 5 [89,91] [aa c_1,str e3.Repair] 99 ?_
      obtain⟨r8,hr8,h⟩:=bS h
      refine oq 115 (I r8) rfl (cP (No hr8)) ?_
      refine cq 7 [7,95] [I r8,B (decide (r8≥0))] 179 ?_
      obtain⟨y9,hy9,hy91,hy92⟩:=bJ h
      have j9:∀u9,y9=.inr u9→Run jb 0 (eC (c_1,i_2) r) (.code Jp::[]) (sT 114 [(4,B u9)] [] 1):=by
       intro u9 hu
       replace h:=hy92 u9 hu
       obtain rfl:=sI h
       exact rP [B u9]
      have r9:∀r',y9=.inl r'→∀st,eC (c_1,i_2) r' st→(eC (c_1,i_2) r) st:=fun r' e st hq=>by rw[hy91 r' e] at hq;exact hq
      replace h:=hy9
      refine sp 95 h rfl ?_ ?_<;>intro h
      ·refine cq 5 [100] [B (r8 != i_2)] 259 ?_
       obtain⟨y10,hy10,hy101,hy102⟩:=bL h
       have j10:∀u10,y10=.inr u10→Run jb 0 (eC (c_1,i_2) r) (.code Jp::[]) (sT 114 [(4,B u10)] [] 1):=by
        intro u10 hu
        replace h:=hy102 u10 hu
        exact rf [4] [] (j9 _ (an h) :)
       have r10:∀r',y10=.inl r'→∀st,eC (c_1,i_2) r' st→(eC (c_1,i_2) r) st:=fun r' e st hq=>r9 r' (hy101 r' e) st hq
       replace h:=hy10
       refine sp 100 h rfl ?_ ?_<;>intro h
       ·refine cq 3 [102,103] [.isl false (c_1.Clauses.map au),I r8] 307 ?_
        obtain⟨e11,he11,h⟩:=bS h
        refine oy 323 (.iptr (aB e11) 0) rfl (al rfl rfl rfl (bn rfl rfl rfl rfl he11)) ?_
        refine cq 5 [109] [B (e11.Kind==1)] 403 ?_
        obtain⟨u12,hu12,h⟩:=lJ h
        have j12:Run jb 0 (eC (c_1,i_2) r) (.code Jp::[]) (sT 114 [(4,B u12)] [] 1):=by
         exact rf [4] [] (j10 _ (an h) :)
        replace h:=hu12
        clear hu12
        refine sp 109 h rfl ?_ ?_<;>intro h
        ·refine cq 6 [4] [B (e3.Kind != 3)] 483 ?_
         subst h
         exact rf [4] [] (j12 :)
        ·refine cq 6 [4] [B false] 483 ?_
         subst h
         exact rf [4] [] (j12 :)
       ·refine cq 15 [4] [B false] 483 ?_
        exact rf [4] [] (j10 _ (an h) :)
      ·refine cq 20 [4] [B false] 483 ?_
       exact rf [4] [] (j9 _ (an h) :)
   have r7:∀r',y7=.inl r'→∀st,eC (c_1,i_2) r' st→(eC (c_1,i_2) r) st:=fun r' e st hq=>by rw[hy71 r' e] at hq;exact hq
   replace h:=hy7
   refine sp 65 h rfl ?_ ?_<;>intro h
   ·refine cq 21 [85] [B true] 403 ?_
    exact rf [1,2,5,85] [1,2] (j7 _ (an h) :)
   ·refine cq 2 [67] [I e3.Within] 115 ?_
    obtain⟨r13,hr13,h⟩:=bS h
    refine oy 131 (B r13) rfl (cP (eQ hr13)) ?_
    refine cq 3 [71] [B (!r13)] 179 ?_
    obtain⟨u14,hu14,h⟩:=lJ h
    have j14:Run jb 0 (eC (c_1,i_2) r) (.code zI::.code vn::[]) (sT 114 [(1,I i_2),(2,.hp 1 0 [] 2 0 0),(5,.hp 2 0 [] 12 0 0),(85,B u14)] [⟨0,2,[aa c_1]⟩,⟨0,12,[aB e3]⟩] 3):=by
     exact rf [1,2,5,85] [1,2] (j7 _ (an h) :)
    replace h:=hu14
    clear hu14
    refine sp 71 h rfl ?_ ?_<;>intro h
    ·refine cq 15 [85] [B true] 403 ?_
     subst h
     exact rf [1,2,5,85] [1,2] (j14 :)
    ·refine cq 4 [75] [B (e3.Kind != 1)] 243 ?_
     obtain⟨u15,hu15,h⟩:=lJ h
     have j15:Run jb 0 (eC (c_1,i_2) r) (.code zI::.code vn::[]) (sT 114 [(1,I i_2),(2,.hp 1 0 [] 2 0 0),(5,.hp 2 0 [] 12 0 0),(85,B u15)] [⟨0,2,[aa c_1]⟩,⟨0,12,[aB e3]⟩] 3):=by
      subst h
      exact rf [1,2,5,85] [1,2] (j14 :)
     replace h:=hu15
     clear hu15
     refine sp 75 h rfl ?_ ?_<;>intro h
     ·refine cq 4 [79] [B (e3.Amount != 0)] 307 ?_
      obtain⟨u16,hu16,h⟩:=lJ h
      have j16:Run jb 0 (eC (c_1,i_2) r) (.code zI::.code vn::[]) (sT 114 [(1,I i_2),(2,.hp 1 0 [] 2 0 0),(5,.hp 2 0 [] 12 0 0),(85,B u16)] [⟨0,2,[aa c_1]⟩,⟨0,12,[aB e3]⟩] 3):=by
       subst h
       exact rf [1,2,5,85] [1,2] (j15 :)
      replace h:=hu16
      clear hu16
      refine sp 79 h rfl ?_ ?_<;>intro h
      ·refine cq 7 [85] [B true] 403 ?_
       subst h
       exact rf [1,2,5,85] [1,2] (j16 :)
      ·refine cq 7 [85] [B (e3.Within != 0)] 403 ?_
       subst h
       exact rf [1,2,5,85] [1,2] (j16 :)
     ·refine cq 11 [85] [B false] 403 ?_
      subst h
      exact rf [1,2,5,85] [1,2] (j15 :)
 have r5:∀r',y5=.inl r'→∀st,eC (c_1,i_2) r' st→(eC (c_1,i_2) r) st:=fun r' e st hq=>by rw[hy51 r' e] at hq;exact hq
 replace h:=hy5
 refine sp 20 h rfl ?_ ?_<;>intro h
 ·refine cq 41 [60] [B true] 929 ?_
  exact rf [1,2,5,60] [1,113] (j5 _ (an h) :)
 ·refine cq 2 [22] [str e3.Action] 321 ?_
  obtain⟨r17,hr17,h⟩:=bS h
  refine oy 337 (B r17) rfl (cP (sv hr17)) ?_
  refine cq 3 [26] [B (!r17)] 385 ?_
  obtain⟨y18,hy18,hy181,hy182⟩:=bL h
  have j18:∀u18,y18=.inr u18→Run jb 0 (eC (c_1,i_2) r) (.code sa::.code oH::[]) (sT 114 [(1,I i_2),(2,.hp 1 0 [] 2 0 0),(5,.hp 2 0 [] 12 0 0),(60,B u18)] [⟨0,2,[aa c_1]⟩,⟨0,12,[aB e3]⟩] 3):=by
   intro u18 hu
   replace h:=hy182 u18 hu
   exact rf [1,2,5,60] [1,2] (j5 _ (an h) :)
  have r18:∀r',y18=.inl r'→∀st,eC (c_1,i_2) r' st→(eC (c_1,i_2) r) st:=fun r' e st hq=>r5 r' (hy181 r' e) st hq
  replace h:=hy18
  refine sp 26 h rfl ?_ ?_<;>intro h
  ·refine cq 35 [60] [B true] 929 ?_
   exact rf [1,2,5,60] [1,113] (j18 _ (an h) :)
  ·refine cq 2 [28] [I e3.Kind] 417 ?_
   obtain⟨r19,hr19,h⟩:=bS h
   refine oy 433 (B r19) rfl (cP (eQ hr19)) ?_
   refine cq 3 [32] [B (!r19)] 481 ?_
   obtain⟨y20,hy20,hy201,hy202⟩:=bL h
   have j20:∀u20,y20=.inr u20→Run jb 0 (eC (c_1,i_2) r) (.code sa::.code oH::[]) (sT 114 [(1,I i_2),(2,.hp 1 0 [] 2 0 0),(5,.hp 2 0 [] 12 0 0),(60,B u20)] [⟨0,2,[aa c_1]⟩,⟨0,12,[aB e3]⟩] 3):=by
    intro u20 hu
    replace h:=hy202 u20 hu
    exact rf [1,2,5,60] [1,2] (j18 _ (an h) :)
   have r20:∀r',y20=.inl r'→∀st,eC (c_1,i_2) r' st→(eC (c_1,i_2) r) st:=fun r' e st hq=>r18 r' (hy201 r' e) st hq
   replace h:=hy20
   refine sp 32 h rfl ?_ ?_<;>intro h
   ·refine cq 29 [60] [B true] 929 ?_
    exact rf [1,2,5,60] [1,113] (j20 _ (an h) :)
   ·refine cq 4 [34,36] [I e3.Party,I (ac ((len c_1.Parties) - 1))] 545 ?_
    obtain⟨r21,hr21,h⟩:=bS h
    refine oy 561 (B r21) rfl (cP (eQ hr21)) ?_
    refine cq 3 [40] [B (!r21)] 609 ?_
    obtain⟨y22,hy22,hy221,hy222⟩:=bL h
    have j22:∀u22,y22=.inr u22→Run jb 0 (eC (c_1,i_2) r) (.code sa::.code oH::[]) (sT 114 [(1,I i_2),(2,.hp 1 0 [] 2 0 0),(5,.hp 2 0 [] 12 0 0),(60,B u22)] [⟨0,2,[aa c_1]⟩,⟨0,12,[aB e3]⟩] 3):=by
     intro u22 hu
     replace h:=hy222 u22 hu
     exact rf [1,2,5,60] [1,2] (j20 _ (an h) :)
    have r22:∀r',y22=.inl r'→∀st,eC (c_1,i_2) r' st→(eC (c_1,i_2) r) st:=fun r' e st hq=>r20 r' (hy221 r' e) st hq
    replace h:=hy22
    refine sp 40 h rfl ?_ ?_<;>intro h
    ·refine cq 21 [60] [B true] 929 ?_
     exact rf [1,2,5,60] [1,113] (j22 _ (an h) :)
    ·refine cq 4 [42,44] [I e3.Other,I (ac ((len c_1.Parties) - 1))] 673 ?_
     obtain⟨r23,hr23,h⟩:=bS h
     refine oy 689 (B r23) rfl (cP (eQ hr23)) ?_
     refine cq 3 [48] [B (!r23)] 737 ?_
     obtain⟨y24,hy24,hy241,hy242⟩:=bL h
     have j24:∀u24,y24=.inr u24→Run jb 0 (eC (c_1,i_2) r) (.code sa::.code oH::[]) (sT 114 [(1,I i_2),(2,.hp 1 0 [] 2 0 0),(5,.hp 2 0 [] 12 0 0),(60,B u24)] [⟨0,2,[aa c_1]⟩,⟨0,12,[aB e3]⟩] 3):=by
      intro u24 hu
      replace h:=hy242 u24 hu
      exact rf [1,2,5,60] [1,2] (j22 _ (an h) :)
     have r24:∀r',y24=.inl r'→∀st,eC (c_1,i_2) r' st→(eC (c_1,i_2) r) st:=fun r' e st hq=>r22 r' (hy241 r' e) st hq
     replace h:=hy24
     refine sp 48 h rfl ?_ ?_<;>intro h
     ·refine cq 13 [60] [B true] 929 ?_
      exact rf [1,2,5,60] [1,113] (j24 _ (an h) :)
     ·refine cq 7 [55] [B (e3.Party==e3.Other)] 849 ?_
      obtain⟨y25,hy25,hy251,hy252⟩:=bL h
      have j25:∀u25,y25=.inr u25→Run jb 0 (eC (c_1,i_2) r) (.code sa::.code oH::[]) (sT 114 [(1,I i_2),(2,.hp 1 0 [] 2 0 0),(5,.hp 2 0 [] 12 0 0),(60,B u25)] [⟨0,2,[aa c_1]⟩,⟨0,12,[aB e3]⟩] 3):=by
       intro u25 hu
       replace h:=hy252 u25 hu
       exact rf [1,2,5,60] [1,2] (j24 _ (an h) :)
      have r25:∀r',y25=.inl r'→∀st,eC (c_1,i_2) r' st→(eC (c_1,i_2) r) st:=fun r' e st hq=>r24 r' (hy251 r' e) st hq
      replace h:=hy25
      refine sp 55 h rfl ?_ ?_<;>intro h
      ·refine cq 6 [60] [B true] 929 ?_
       exact rf [1,2,5,60] [1,113] (j25 _ (an h) :)
      ·refine cq 2 [57] [ar e3.When] 881 ?_
       obtain⟨r26,hr26,h⟩:=bS h
       refine oy 897 (B r26) rfl (cP (aeJ hr26)) ?_
       refine cq 3 [60] [B (!r26)] 929 ?_
       exact rf [1,2,5,60] [1,113] (j25 _ (an h) :)
theorem V2 {G:cb}:b9 G 92 DB:=gT 2 0 (aN tn (aN io (aN Kl (aN VP bB)))) cn Tryz.func92 (fun a r h=>Zi a.1 a.2 r h)
def G9:((List ae)×ae)→List V:=cA (o8 1 str) (oA str)
def Ha (r:(List ae)):V×List V:=(.usl 1 (r.map str),[.dead])
noncomputable def wo :=bm [true,false] G9 Ha fun x=>yw x.1 x.2
theorem Ni {l_8:List ae}{s_9:ae}{r}(h:yw l_8 s_9=some r):wo.F (G9 (l_8,s_9))=some (Ha r):=aK (aO (ft bP) (aL bP)) h
noncomputable def sx :=aI Tryz.f137
noncomputable def yx :=cm []
def vj (x:(List ae)×ae)(r:(List ae)):St→Prop:=QF yx Tryz.f137 [true,false] (G9 x) (Ha r)
theorem PQ (l_8:List ae)(s_9:ae):cg yx 1 (vj (l_8,s_9)) (cL (cL (cL (cR (cR sx))))) 0 (vk l_8 s_9) (fun u=>(sO 45 [(0,.hs 2 0 [] 1 0 (u.2.2.map str).length),(1,str u.1),(5,I u.2.1)] [none,some ⟨0,1,u.2.2.map str⟩] 3)) fun x3=>(sO 45 [(0,.hs 2 0 [] 1 0 (l_8.map str).length),(1,str s_9),(5,I x3)] [none,some ⟨0,1,l_8.map str⟩] 3):=ef (Bl l_8 s_9) fun {Q K} hK self ih x3 y h hr hn=>by
 unfold l9 at h
 refine cq 5 [6,7] [I x3,.hs 2 0 [] 1 0 (l_8.map str).length] 35 ?_
 refine oq 51 (I (len l_8)) rfl (bw rfl rfl rfl (mW (f:=str) (xs:=l_8) rfl rfl)) ?_
 refine cq 2 [10] [B (decide (x3<(len l_8)))] 83 ?_
 obtain⟨y4,hy4,hy41,hy42⟩:=bL h
 have j4:∀u4,y4=.inr u4→Run yx 1 Q (.code (cR (cL (cL (cL (cL (cR (cR sx)))))))::.code (cR (cL (cL (cL (cR (cR sx))))))::.lp (cL (cL (cL (cR (cR sx)))))::.blk 0::K) (sO 45 [(0,.hs 2 0 [] 1 0 (l_8.map str).length),(1,str s_9),(5,I x3),(17,B u4)] [none,some ⟨0,1,l_8.map str⟩] 3):=by
  intro u4 hu
  replace h:=hy42 u4 hu
  refine sq h ?_ ?_<;>intro h
  ·refine aq 1 ?_
   refine cq 7 [5] [I (ac (x3+1))] 51 ?_
   refine cX ?_
   exact rg [0,1,5] [52,2] (ih _ _ h hr hn :)
  ·refine aq 1 ?_
   exact rg [0,1,5] [4,2] (hn _ (an h) :) (hk:=hK)
 have r4:∀r',y4=.inl r'→∀st,vj (l_8,s_9) r' st→Q st:=fun r' e st hq=>hr r' (hy41 r' e) st hq
 replace h:=hy4
 refine sp 10 h rfl ?_ ?_<;>intro h
 ·refine cq 2 [11,12] [.hs 2 0 [] 1 0 (l_8.map str).length,I x3] 115 ?_
  obtain⟨e5,he5,h⟩:=bS h
  refine oy 131 (.hp 2 0 [] 1 (0+Int.toNat x3) 0) rfl (al rfl rfl rfl (ce (f:=str) (xs:=l_8) rfl rfl rfl he5)) ?_
  refine oy 147 (str e5) rfl (aU rfl (fU (path:=[]) rfl rfl rfl aF (bO (f:=str) (xs:=l_8) he5) rfl rfl rfl)) ?_
  refine cq 4 [17] [B (Op.bytesLess e5 s_9)] 195 ?_
  exact rg [0,1,5,17] [196,2] (j4 _ (an h) :)
 ·refine cq 8 [17] [B false] 195 ?_
  exact rg [0,1,5,17] [196,2] (j4 _ (an h) :)
theorem Ze (l_8:List ae)(s_9:ae)(r:(List ae))(h:yw l_8 s_9=some r):bx yx Tryz.f137 [true,false] 1 (G9 (l_8,s_9)) (Ha r):=by
 show Run _ _ (vj (l_8,s_9) r) [.code sx] _
 refine rI 45 [(0,.hs 1 0 [] 1 0 (l_8.map str).length),(1,str s_9)] [(1,some ⟨0,1,l_8.map str⟩)] 2 ?_
 unfold yw at h
 refine cq 10 [5] [I (0)] 34 ?_
 obtain⟨y6,hy6,hy61,hy62⟩:=bJ h
 refine bM rfl ?_
 refine rg [0,1,5] [35,1] (PQ l_8 s_9 rfl 0 _ hy6 (fun r' e st hq=>by rw[hy61 r' e] at hq;exact hq) fun u6 hu=>?_)
 replace h:=hy62 u6 hu
 refine cq 5 [20,21] [I u6.2.1,.hs 2 0 [] 1 0 (u6.2.2.map str).length] 35 ?_
 refine oq 51 (I (len u6.2.2)) rfl (bw rfl rfl rfl (mW (f:=str) (xs:=u6.2.2) rfl rfl)) ?_
 refine cq 2 [24] [B (decide (u6.2.1<(len u6.2.2)))] 83 ?_
 obtain⟨y7,hy7,hy71,hy72⟩:=bJ h
 have j7:∀u7,y7=.inr u7→Run yx 1 (vj (l_8,s_9) r) (.code (cR (cL (cR (cR (cR sx)))))::.code (cR (cR (cR (cR sx))))::[]) (sO 45 [(0,.hs 2 0 [] 1 0 (u6.2.2.map str).length),(1,str u6.1),(5,I u6.2.1),(31,B u7)] [none,some ⟨0,1,u6.2.2.map str⟩] 3):=by
  intro u7 hu
  replace h:=hy72 u7 hu
  refine sq h ?_ ?_<;>intro h
  ·refine cq 5 [4] [.hs 2 0 [] 1 0 (u6.2.2.map str).length] 35 ?_
   obtain rfl:=sI h
   exact ca rfl ⟨_,fin (vs:=[.hs 2 0 [] 1 0 (u6.2.2.map str).length]) rfl (eU (gi rfl (dx rfl rfl)) d3) rfl (jk rfl (lH rfl) (cz eP)),sM eI⟩
  ·refine aq 1 ?_
   refine aq 1 ?_
   refine d7 [0,0,0,6,15,0,32,127,0,0,768,2047,4095] rfl (by decide +kernel) ?_
   refine dq [] [] (.hs 3 0 [] 1 0 0) rfl (eH rfl (kH (f:=I) (xs:=[]) (z:=str ([])) (es:=[]) (ws:=[]) rfl rfl rfl (by decide) rfl (dX rfl) rfl)) ?_
   refine dk 2 [35,34] [I u6.2.1,.hs 2 0 [] 1 0 (u6.2.2.map str).length] ?_
   obtain⟨s8,hs8,h⟩:=bS h
   refine dq [2] [] (.hs 2 0 [] 1 (0+Int.toNat (0)) (Int.toNat u6.2.1 - Int.toNat (0))) rfl (iG rfl rfl rfl rfl (vQ (f:=str) (xs:=u6.2.2) rfl rfl rfl rfl rfl hs8)) ?_
   obtain⟨p9,hp9,h⟩:=bS h
   obtain⟨a10,ha10,h⟩:=bS h
   refine dq [3,2] [3] (.hs 67 0 [] 1 0 (a10.map str).length) rfl (jH rfl rfl rfl rfl rfl (np (path:=[]) (es0:=[]) (f:=str) (xs:=([]:List ae)) (ys:=p9) rfl rfl (Q9 (path:=[]) (f:=str) (xs:=u6.2.2) rfl rfl aF hp9 nU) rfl rfl rfl rfl rfl (by decide) mF ha10 rfl ro)) ?_ (I3 rfl (H9 (path:=[]) (f:=str) (xs:=u6.2.2) rfl rfl aF nU rfl))
   refine dk 1 [38] [str u6.1] ?_
   refine dq [] [] (.hs 99 0 [] 1 0 1) rfl (eH rfl (kH (f:=I) (xs:=[]) (z:=str ([])) (es:=[str u6.1]) (ws:=[str u6.1]) rfl rfl rfl (by decide) rfl (dX rfl) rfl)) ?_
   obtain⟨a11,ha11,h⟩:=bS h
   refine dq [67,99] [67] (.hs 115 0 [] 1 0 (a11.map str).length) rfl (jH rfl rfl rfl rfl rfl (np (path:=[]) (f:=str) (xs:=a10) (ys:=[u6.1]) rfl rfl (sf rfl rfl rfl) rfl rfl rfl aF rfl (by decide) mF ha11 rfl ro)) ?_ (I3 rfl (H9 (path:=[]) (f:=str) (xs:=[u6.1]) rfl rfl aF nU rfl))
   refine dk 2 [42,41] [I u6.2.1,.hs 2 0 [] 1 0 (u6.2.2.map str).length] ?_
   obtain⟨s12,hs12,h⟩:=bS h
   refine dq [2] [] (.hs 2 0 [] 1 (0+Int.toNat u6.2.1) (Int.toNat (len u6.2.2) - Int.toNat u6.2.1)) rfl (iG rfl rfl rfl rfl (vQ (f:=str) (xs:=u6.2.2) rfl rfl rfl rfl (ZT rfl) hs12)) ?_
   obtain⟨p13,hp13,h⟩:=bS h
   obtain⟨a14,ha14,h⟩:=bS h
   refine dq [115,2] [115] (.hs 179 0 [] 1 0 (a14.map str).length) rfl (jH rfl rfl rfl rfl rfl (np (path:=[]) (f:=str) (xs:=a11) (ys:=p13) rfl rfl (Q9 (path:=[]) (f:=str) (xs:=u6.2.2) rfl rfl aF hp13 nU) rfl rfl rfl aF rfl (by decide) mF ha14 rfl ro)) ?_ (I3 rfl (H9 (path:=[]) (f:=str) (xs:=u6.2.2) rfl rfl aF nU rfl))
   refine dk 1 [4] [.hs 179 0 [] 1 0 (a14.map str).length] ?_
   refine de 211 rfl rfl ?_
   obtain rfl:=sI h
   exact ca rfl ⟨_,fin (vs:=[.hs 179 0 [] 1 0 (a14.map str).length]) rfl (eU (gi rfl (dx rfl rfl)) d3) rfl (jk rfl (lH rfl) (cz eP)),sM eI⟩
 have r7:∀r',y7=.inl r'→∀st,vj (l_8,s_9) r' st→(vj (l_8,s_9) r) st:=fun r' e st hq=>by rw[hy71 r' e] at hq;exact hq
 replace h:=hy7
 refine sp 24 h rfl ?_ ?_<;>intro h
 ·refine cq 2 [25,26] [.hs 2 0 [] 1 0 (u6.2.2.map str).length,I u6.2.1] 115 ?_
  obtain⟨e15,he15,h⟩:=bS h
  refine oy 131 (.hp 2 0 [] 1 (0+Int.toNat u6.2.1) 0) rfl (al rfl rfl rfl (ce (f:=str) (xs:=u6.2.2) rfl rfl rfl he15)) ?_
  refine oy 147 (str e15) rfl (aU rfl (fU (path:=[]) rfl rfl rfl aF (bO (f:=str) (xs:=u6.2.2) he15) rfl rfl rfl)) ?_
  refine cq 4 [31] [B (e15==u6.1)] 195 ?_
  exact rg [0,1,5,31] [196,2] (j7 _ (an h) :)
 ·refine cq 8 [31] [B false] 195 ?_
  exact rg [0,1,5,31] [196,2] (j7 _ (an h) :)
theorem Kk {G:cb}:b9 G 137 wo:=gT 2 1 bB cn Tryz.func137 (fun a r h=>Ze a.1 a.2 r h)
def yp:((List ae)×Condition)→List V:=cA (o8 1 str) (oA bH)
def yq (r:(List ae)):V×List V:=(.usl 1 (r.map str),[.dead])
noncomputable def yt (cH:((List ae)×Condition)→Option (List ae)):Ent:=bm [true,false] yp yq cH
theorem Qw (cH:((List ae)×Condition)→Option (List ae)){x}{r}(h:cH x=some r):(yt cH).F (yp x)=some (yq r):=aK (aO (ft bP) (aL dP)) h
noncomputable def Dx :=yt (aJ l8)
theorem VS {l_4:List ae}{c_5:Condition}{r}(h:Ng l_4 c_5=some r):Dx.F (yp (l_4,c_5))=some (yq r):=Qw (aJ l8) h
noncomputable def VU :=aI Tryz.f136
noncomputable def Nh (cH:((List ae)×Condition)→Option (List ae)):Env:=cm [(137,wo),(136,(yt cH))]
def VT (cH:((List ae)×Condition)→Option (List ae))(x:(List ae)×Condition)(r:(List ae)):St→Prop:=QF (Nh cH) Tryz.f136 [true,false] (yp x) (yq r)
theorem PP (cH:((List ae)×Condition)→Option (List ae))(l_4:List ae)(c_5:Condition):cg (Nh cH) 1 (VT cH (l_4,c_5)) (cL (cL (cR (cL (cR (cR VU)))))) 0 (mM cH l_4 c_5) (fun u=>(sO 28 [(0,.hs 2 0 [] 1 0 (u.map str).length)] [none,some ⟨0,1,u.map str⟩] 3)) fun x4=>(sO 28 [(0,.hs 2 0 [] 1 0 (x4.2.map str).length),(3,.hp 3 0 [] 4 0 0),(5,I x4.1)] [none,some ⟨0,1,x4.2.map str⟩,some ⟨0,4,[ar c_5]⟩] 4):=ef (Bk cH l_4 c_5) fun {Q K} hK self ih x4 y h hr hn=>by
 unfold kA at h
 refine cq 6 [13,15] [I x4.1,.isl false (c_5.Parts.map aH)] 52 ?_
 refine oq 68 (I (len c_5.Parts)) rfl (bw rfl rfl rfl (bR rfl)) ?_
 refine cq 2 [17] [B (decide (x4.1<(len c_5.Parts)))] 84 ?_
 refine sq h ?_ ?_<;>intro h
 ·refine aq 1 ?_
  refine cq 7 [20,22,23] [.hs 2 0 [] 1 0 (x4.2.map str).length,.isl false (c_5.Parts.map aH),I x4.1] 148 ?_
  obtain⟨e5,he5,h⟩:=bS h
  refine oq 164 (.iptr (ar e5) 0) rfl (al rfl rfl rfl (bn rfl rfl (dI e5) rfl he5)) ?_
  refine cq 1 [25] [ar e5] 180 ?_
  obtain⟨r6,hr6,h⟩:=bS h
  refine oq 196 (.hs 180 0 [] 1 0 (r6.map str).length) rfl (bK rfl rfl (b8 rfl rfl rfl (iE (iI rfl (eJ (path:=[]) rfl rfl aF rfl)) (bg (bW rfl) dj)) (Qw cH hr6) (.inr rfl) (gE rfl rfl rfl mT dK) rfl rfl rfl)) ?_
  refine cq 8 [0,5] [.hs 180 0 [] 1 0 (r6.map str).length,I (ac (x4.1+1))] 260 ?_
  refine cX ?_
  exact rg [0,3,5] [261,180,3] (ih _ _ h hr hn :)
 ·refine aq 1 ?_
  exact rg [0] [85,2] (hn _ (an h) :) (hk:=hK)
theorem Zd (cH:((List ae)×Condition)→Option (List ae))(l_4:List ae)(c_5:Condition)(r:(List ae))(h:vi cH l_4 c_5=some r):bx (Nh cH) Tryz.f136 [true,false] 1 (yp (l_4,c_5)) (yq r):=by
 show Run _ _ (VT cH (l_4,c_5) r) [.code VU] _
 refine rI 28 [(0,.hs 1 0 [] 1 0 (l_4.map str).length),(1,ar c_5)] [(1,some ⟨0,1,l_4.map str⟩)] 2 ?_
 unfold vi at h
 refine ck 12 [3,8] [] [2] [] [.hp 2 0 [] 4 0 0,B (c_5.Op==2)] [some ⟨0,4,[ar c_5]⟩] 82 (by kernel_rfl) ?_
 refine sq h ?_ ?_<;>intro h
 ·refine cq 5 [9,11] [.hs 1 0 [] 1 0 (l_4.map str).length,str c_5.Name] 130 ?_
  obtain⟨r3,hr3,h⟩:=bS h
  refine oq 146 (.hs 130 0 [] 1 0 (r3.map str).length) rfl (bK rfl rfl (b8 rfl rfl rfl (iE (iI rfl (eJ (path:=[]) rfl rfl aF rfl)) (bg (bW rfl) dj)) (Ni hr3) (.inr rfl) (gE rfl rfl rfl mT dK) rfl rfl rfl)) ?_
  refine cq 2 [4] [.hs 130 0 [] 1 0 (r3.map str).length] 162 ?_
  obtain rfl:=sI h
  exact ca rfl ⟨_,fin (vs:=[.hs 130 0 [] 1 0 (r3.map str).length]) rfl (eU (gi rfl (dx rfl rfl)) d3) rfl (jk rfl (lH rfl) (cz eP)),sM eI⟩
 ·refine aq 1 ?_
  refine cq 6 [5] [I (0)] 98 ?_
  obtain⟨y7,hy7,hy71,hy72⟩:=bJ h
  refine bM rfl ?_
  refine rg [0,3,5] [99,1,2] (PP cH l_4 c_5 rfl (0,l_4) _ hy7 (fun r' e st hq=>by rw[hy71 r' e] at hq;exact hq) fun u7 hu=>?_)
  replace h:=hy72 u7 hu
  refine cq 5 [4] [.hs 2 0 [] 1 0 (u7.map str).length] 35 ?_
  obtain rfl:=sI h
  exact ca rfl ⟨_,fin (vs:=[.hs 2 0 [] 1 0 (u7.map str).length]) rfl (eU (gi rfl (dx rfl rfl)) d3) rfl (jk rfl (lH rfl) (cz eP)),sM eI⟩
theorem VV {G:cb}:b9 G 136 Dx:=jL fun cH g_Ffdz=>gT 2 1 (aN Kk (aN g_Ffdz bB)) cn Tryz.func136 (fun a r h=>Zd cH a.1 a.2 r h)
def Hp:Contract→List V:=oA aV
def Hq (r:(List ae)):V×List V:=(.usl 1 (r.map str),[])
noncomputable def wt :=bm [false] Hp Hq fun x=>ri x
theorem V9 {c_1:Contract}{r}(h:ri c_1=some r):wt.F (Hp c_1)=some (Hq r):=aK (aL bv) h
noncomputable def Wb :=aI Tryz.f93
noncomputable def Np :=cm [(137,wo),(136,Dx)]
def Wa (x:Contract)(r:(List ae)):St→Prop:=QF Np Tryz.f93 [false] (Hp x) (Hq r)
theorem PV (c_1:Contract):cg Np 0 (Wa c_1) (cL (cL (cR (cL (cR (cR Wb)))))) 0 (oK c_1) (fun u=>(sT 29 [(3,.hs 1 0 [] 1 0 (u.map str).length)] [⟨0,1,u.map str⟩] 2)) fun x2=>(sT 29 [(1,.hp 1 0 [] 2 0 0),(3,.hs 2 0 [] 1 0 (x2.2.map str).length),(4,I x2.1)] [⟨0,2,[aa c_1]⟩,⟨0,1,x2.2.map str⟩] 3):=ef (Bq c_1) fun {Q K} hK self ih x2 y h hr hn=>by
 unfold md at h
 refine cq 6 [6,8] [I x2.1,.isl false (c_1.Clauses.map au)] 51 ?_
 refine oq 67 (I (len c_1.Clauses)) rfl (bw rfl rfl rfl (bR rfl)) ?_
 refine cq 2 [10] [B (decide (x2.1<(len c_1.Clauses)))] 83 ?_
 refine sq h ?_ ?_<;>intro h
 ·refine aq 1 ?_
  refine aq 2 ?_
  refine d7 [0,0,2,0,14,30,62,127,0,256,0,1792,3840,7936,16383,32767] rfl (by decide +kernel) ?_
  refine dk 1 [13] [.hs 2 0 [] 1 0 (x2.2.map str).length] ?_
  refine dq [1] [] (.hp 1 0 [] 2 0 1) rfl (ay rfl rfl rfl) ?_
  refine dq [1] [] (.isl false (c_1.Clauses.map au)) rfl (aU rfl rfl) ?_
  refine dk 1 [16] [I x2.1] ?_
  obtain⟨e3,he3,h⟩:=bS h
  refine dq [] [] (.iptr (aB e3) 0) rfl (al rfl rfl rfl (bn rfl rfl rfl rfl he3)) ?_
  refine dq [] [] (.iptr (aB e3) 3) rfl (ay rfl rfl rfl) ?_
  refine dq [] [] (str e3.Action) rfl (aU rfl rfl) ?_
  obtain⟨r4,hr4,h⟩:=bS h
  refine dq [2] [2] (.hs 195 0 [] 1 0 (r4.map str).length) rfl (bK rfl rfl (b8 rfl rfl rfl (iE (iI rfl (eJ (path:=[]) rfl rfl aF rfl)) (bg (bW rfl) dj)) (Ni hr4) (.inr rfl) (gE rfl rfl rfl mT dK) rfl rfl rfl)) ?_ (dZ rfl rfl rfl rfl (iE (iI rfl (eJ (path:=[]) rfl rfl aF rfl)) (bg (bW rfl) dj)) (Ni hr4) (.inr rfl) rfl)
  refine dq [1] [] (.hp 1 0 [] 2 0 1) rfl (ay rfl rfl rfl) ?_
  refine dq [1] [] (.isl false (c_1.Clauses.map au)) rfl (aU rfl rfl) ?_
  refine dk 1 [23] [I x2.1] ?_
  obtain⟨e5,he5,h⟩:=bS h
  refine dq [] [] (.iptr (aB e5) 0) rfl (al rfl rfl rfl (bn rfl rfl rfl rfl he5)) ?_
  refine dq [] [] (.iptr (aB e5) 6) rfl (ay rfl rfl rfl) ?_
  refine dq [] [] (ar e5.When) rfl (aU rfl rfl) ?_
  obtain⟨r6,hr6,h⟩:=bS h
  refine dq [195] [195] (.hs 307 0 [] 1 0 (r6.map str).length) rfl (bK rfl rfl (b8 rfl rfl rfl (iE (iI rfl (eJ (path:=[]) rfl rfl aF rfl)) (bg (bW rfl) dj)) (VS hr6) (.inr rfl) (gE rfl rfl rfl mT dK) rfl rfl rfl)) ?_ (dZ rfl rfl rfl rfl (iE (iI rfl (eJ (path:=[]) rfl rfl aF rfl)) (bg (bW rfl) dj)) (VS hr6) (.inr rfl) rfl)
  refine dk 1 [3] [.hs 307 0 [] 1 0 (r6.map str).length] ?_
  refine de 339 rfl rfl ?_
  refine cq 6 [4] [I (ac (x2.1+1))] 387 ?_
  refine cX ?_
  exact rf [1,3,4] [1,307] (ih _ _ h hr hn :)
 ·refine aq 1 ?_
  exact rf [3] [2] (hn _ (an h) :) (hk:=hK)
theorem Zm (c_1:Contract)(r:(List ae))(h:ri c_1=some r):bx Np Tryz.f93 [false] 0 (Hp c_1) (Hq r):=by
 show Run _ _ (Wa c_1 r) [.code Wb] _
 refine rI 29 [(0,aa c_1)] [] 1 ?_
 unfold ri at h
 refine ck 7 [1] [] [1] [] [.hp 1 0 [] 2 0 0] [some ⟨0,2,[aa c_1]⟩] 33 (by kernel_rfl) ?_
 refine oq 49 (.hs 33 0 [] 1 0 0) rfl (eH rfl (kH (f:=I) (xs:=[]) (z:=str ([])) (es:=[]) (ws:=[]) rfl rfl rfl (by decide) rfl (dX rfl) rfl)) ?_
 refine cq 8 [3,4] [.hs 33 0 [] 1 0 0,I (0)] 81 ?_
 obtain⟨y7,hy7,hy71,hy72⟩:=bJ h
 refine bM rfl ?_
 refine rf [1,3,4] [1,33] (PV c_1 rfl (0,[]) _ hy7 (fun r' e st hq=>by rw[hy71 r' e] at hq;exact hq) fun u7 hu=>?_)
 replace h:=hy72 u7 hu
 refine cq 5 [2] [.hs 1 0 [] 1 0 (u7.map str).length] 34 ?_
 obtain rfl:=sI h
 exact ca rfl ⟨_,fin (vs:=[.hs 1 0 [] 1 0 (u7.map str).length]) rfl (eU (gi rfl (dx rfl rfl)) d3) rfl (cz eP),eI⟩
theorem Km {G:cb}:b9 G 93 wt:=gT 1 0 (aN Kk (aN VV bB)) cn Tryz.func93 (fun a r h=>Zm a r h)
def Hl:Contract→List V:=oA aV
def Hm (r:Bool):V×List V:=(B r,[])
noncomputable def DF :=bm [false] Hl Hm fun x=>DE x
theorem aeN {c_1:Contract}{r}(h:DE c_1=some r):DF.F (Hl c_1)=some (Hm r):=aK (aL bv) h
noncomputable def Hn :=aI Tryz.f43
noncomputable abbrev zJ :=cL (cL (cR (cL (cR (cR Hn)))))
noncomputable def yE :=cm [(89,gn),(91,wr),(92,DB),(93,wt),(90,DG)]
def vq (x:Contract)(r:Bool):St→Prop:=QF yE Tryz.f43 [false] (Hl x) (Hm r)
theorem PU (c_1:Contract):cg yE 0 (vq c_1) zJ 0 (mO c_1) (fun u=>(sT 41 [(1,.hp 1 0 [] 2 0 0)] [⟨0,2,[aa c_1]⟩] 2)) fun x4=>(sT 41 [(1,.hp 1 0 [] 2 0 0),(3,I x4)] [⟨0,2,[aa c_1]⟩] 2):=ef (Bp c_1) fun {Q K} hK self ih x4 y h hr hn=>by
 unfold mb at h
 refine cq 6 [14,16] [I x4,.isl false (c_1.Clauses.map au)] 50 ?_
 refine oq 66 (I (len c_1.Clauses)) rfl (bw rfl rfl rfl (bR rfl)) ?_
 refine cq 2 [18] [B (decide (x4<(len c_1.Clauses)))] 82 ?_
 refine sq h ?_ ?_<;>intro h
 ·refine aq 1 ?_
  refine aq 3 ?_
  refine d7 [0,0,2,0,14,30,62,127,0,511,1023,2047,2047,8191,16383,32767] rfl (by decide +kernel) ?_
  refine dq [1] [] (aa c_1) rfl (aU rfl rfl) ?_
  refine dq [1] [] (.hp 1 0 [] 2 0 1) rfl (ay rfl rfl rfl) ?_
  refine dq [1] [] (.isl false (c_1.Clauses.map au)) rfl (aU rfl rfl) ?_
  refine dk 1 [24] [I x4] ?_
  obtain⟨e5,he5,h⟩:=bS h
  refine dq [] [] (.iptr (aB e5) 0) rfl (al rfl rfl rfl (bn rfl rfl rfl rfl he5)) ?_
  refine dq [] [] (.iptr (aB e5) 0) rfl (ay rfl rfl rfl) ?_
  refine dq [] [] (str e5.Id) rfl (aU rfl rfl) ?_
  obtain⟨r6,hr6,h⟩:=bS h
  refine dq [] [] (I r6) rfl (cP (No hr6)) ?_ (dZ rfl rfl rfl rfl (bg (bW rfl) (bg (bW rfl) dj)) (No hr6) (.inr rfl) rfl)
  refine dk 3 [31,30,29] [B (r6 != x4),B (r6 != x4),I x4] ?_
  obtain⟨y7,hy7,hy71,hy72⟩:=bL h
  have j7:∀u7,y7=.inr u7→Run yE 0 Q (.code (cR (cL (cL (cR zJ))))::.blk 1::.code (cR (cR zJ))::.lp zJ::.blk 0::K) (sT 41 [(1,.hp 1 0 [] 2 0 0),(3,I x4),(36,B u7)] [⟨0,2,[aa c_1]⟩] 2):=by
   intro u7 hu
   replace h:=hy72 u7 hu
   refine sq h ?_ ?_<;>intro h
   ·refine cq 4 [2] [B false] 18 ?_
    exact ca rfl (hr _ (an h) _ (qp [B false]))
   ·refine aq 1 ?_
    refine cq 6 [3] [I (ac (x4+1))] 50 ?_
    refine cX ?_
    exact rf [1,3] [1] (ih _ _ h hr hn :)
  have r7:∀r',y7=.inl r'→∀st,vq c_1 r' st→Q st:=fun r' e st hq=>hr r' (hy71 r' e) st hq
  replace h:=hy7
  refine sp 31 h rfl ?_ ?_<;>intro h
  ·refine dk 5 [36,35,34,33,32] [B true,.und,.und,.und,.und] ?_
   refine de 338 rfl rfl ?_
   exact rf [1,3,36] [1] (j7 _ (an h) :)
  ·refine dy [1] [] (aa c_1) rfl (aU rfl rfl) ?_
   refine dk 1 [33] [I x4] ?_
   obtain⟨r8,hr8,h⟩:=bS h
   refine dy [] [] (B r8) rfl (cP (V1 hr8)) ?_ (dZ rfl rfl rfl rfl (bg (bW rfl) (bg (bW rfl) dj)) (V1 hr8) (.inr rfl) rfl)
   refine dk 2 [36,35] [B (!r8),B (!r8)] ?_
   refine de 338 rfl rfl ?_
   exact rf [1,3,36] [1] (j7 _ (an h) :)
 ·refine aq 1 ?_
  exact rf [1] [1] (hn _ (an h) :) (hk:=hK)
theorem Zl (c_1:Contract)(r:Bool)(h:DE c_1=some r):bx yE Tryz.f43 [false] 0 (Hl c_1) (Hm r):=by
 show Run _ _ (vq c_1 r) [.code Hn] _
 refine rI 41 [(0,aa c_1)] [] 1 ?_
 unfold DE at h
 refine ck 10 [1,5] [] [1] [] [.hp 1 0 [] 2 0 0,.isl false (c_1.Clauses.map au)] [some ⟨0,2,[aa c_1]⟩] 65 (by kernel_rfl) ?_
 refine oq 81 (I (len c_1.Clauses)) rfl (bw rfl rfl rfl (bR rfl)) ?_
 obtain⟨r2,hr2,h⟩:=bS h
 refine oq 97 (B r2) rfl (cP (eQ hr2)) ?_
 refine cq 2 [9] [B (!r2)] 129 ?_
 obtain⟨y3,hy3,hy31,hy32⟩:=bJ h
 have j3:∀u3,y3=.inr u3→Run yE 0 (vq c_1 r) (.code (cR (cL (cR Hn)))::.code (cR (cR Hn))::[]) (sT 41 [(1,.hp 1 0 [] 2 0 0),(13,B u3)] [⟨0,2,[aa c_1]⟩] 2):=by
  intro u3 hu
  replace h:=hy32 u3 hu
  refine sq h ?_ ?_<;>intro h
  ·refine cq 4 [2] [B false] 18 ?_
   obtain rfl:=sI h
   exact rP [B false]
  ·refine aq 1 ?_
   refine cq 6 [3] [I (0)] 18 ?_
   obtain⟨y9,hy9,hy91,hy92⟩:=bJ h
   refine bM rfl ?_
   refine rf [1,3] [1] (PU c_1 rfl 0 _ hy9 (fun r' e st hq=>by rw[hy91 r' e] at hq;exact hq) fun u9 hu=>?_)
   replace h:=hy92 u9 hu
   refine cq 3 [37] [aa c_1] 18 ?_
   obtain⟨r10,hr10,h⟩:=bS h
   refine oq 34 (.hs 18 0 [] 1 0 (r10.map str).length) rfl (cP (V9 hr10)) ?_
   refine oq 50 (I (len r10)) rfl (bw rfl rfl rfl (mW (f:=str) (xs:=r10) rfl rfl)) ?_
   refine cq 3 [2] [B (decide ((len r10)≤16))] 82 ?_
   obtain rfl:=sI h
   exact rP [B (decide ((len r10)≤16))]
 have r3:∀r',y3=.inl r'→∀st,vq c_1 r' st→(vq c_1 r) st:=fun r' e st hq=>by rw[hy31 r' e] at hq;exact hq
 replace h:=hy3
 refine sp 9 h rfl ?_ ?_<;>intro h
 ·refine cq 5 [13] [B true] 193 ?_
  exact rf [1,13] [1] (j3 _ (an h) :)
 ·refine cq 1 [10] [aa c_1] 145 ?_
  obtain⟨r11,hr11,h⟩:=bS h
  refine oy 161 (B r11) rfl (cP (aeO hr11)) ?_
  refine cq 3 [13] [B (!r11)] 193 ?_
  exact rf [1,13] [1] (j3 _ (an h) :)
theorem V8 {G:cb}:b9 G 43 DF:=gT 1 0 (aN io (aN Kl (aN V2 (aN Km (aN Wc bB))))) cn Tryz.func43 (fun a r h=>Zl a r h)
def GR:(List ae)→List V:=oA (gp str)
def GT (r:Bool):V×List V:=(B r,[])
noncomputable def Dr :=bm [false] GR GT fun x=>Dq x
theorem aeG {az:List ae}{r}(h:Dq az=some r):Dr.F (GR az)=some (GT r):=aK (aL (cr bP)) h
noncomputable def VI :=aI Tryz.f122
noncomputable abbrev lq :=cL (cL (cR (cL (cR VI))))
noncomputable def ve :=cm [(80,pY)]
def GS (x:(List ae))(r:Bool):St→Prop:=QF ve Tryz.f122 [false] (GR x) (GT r)
theorem PL (az:List ae):cg ve 0 (GS az) lq 0 (jl az) (fun u=>(sT 39 [(0,.isl false (az.map str))] [] 1)) fun x2=>(sT 39 [(0,.isl false (az.map str)),(3,I x2)] [] 1):=ef (Bg az) fun {Q K} hK self ih x2 y h hr hn=>by
 unfold kz at h
 refine cq 5 [4,5] [I x2,.isl false (az.map str)] 33 ?_
 refine oq 49 (I (len az)) rfl (bw rfl rfl rfl (bR rfl)) ?_
 refine cq 2 [8] [B (decide (x2<(len az)))] 81 ?_
 obtain⟨u3,hu3,h⟩:=lJ h
 have j3:Run ve 0 Q (.code (cR (cL lq))::.code (cR lq)::.lp lq::.blk 0::K) (sT 39 [(0,.isl false (az.map str)),(3,I x2),(11,B u3)] [] 1):=by
  refine sq h ?_ ?_<;>intro h
  ·refine aq 1 ?_
   refine aq 3 ?_
   refine d7 [0,0,3,7,15,31,63,127,255,511,1023,1023,3071,8191,16383,1023,1023,99327,230399,524287,1048575,2097151] rfl (by decide +kernel) ?_
   refine dk 2 [15,14] [I x2,.isl false (az.map str)] ?_
   obtain⟨e4,he4,h⟩:=bS h
   refine dq [] [] (.iptr (str e4) 0) rfl (al rfl rfl rfl (bn rfl rfl rfl rfl he4)) ?_
   refine dq [] [] (str e4) rfl (aU rfl rfl) ?_
   obtain⟨r5,hr5,h⟩:=bS h
   refine dq [] [] (B r5) rfl (cP (sv hr5)) ?_ (dZ rfl rfl rfl rfl (bg (bW rfl) dj) (sv hr5) (.inr rfl) rfl)
   refine dk 2 [20,19] [B (!r5),B (!r5)] ?_
   obtain⟨y6,hy6,hy61,hy62⟩:=bL h
   have j6:∀u6,y6=.inr u6→Run ve 0 Q (.code (cR (cL (cL (cR lq))))::.blk 1::.code (cR (cR lq))::.lp lq::.blk 0::K) (sT 39 [(0,.isl false (az.map str)),(3,I x2),(35,B u6)] [] 1):=by
    intro u6 hu
    replace h:=hy62 u6 hu
    refine sq h ?_ ?_<;>intro h
    ·refine cq 4 [2] [B false] 17 ?_
     exact ca rfl (hr _ (an h) _ (qp [B false]))
    ·refine aq 1 ?_
     refine cq 6 [3] [I (ac (x2+1))] 49 ?_
     refine cX ?_
     exact rf [0,3] [] (ih _ _ h hr hn :)
   have r6:∀r',y6=.inl r'→∀st,GS az r' st→Q st:=fun r' e st hq=>hr r' (hy61 r' e) st hq
   replace h:=hy6
   refine sp 20 h rfl ?_ ?_<;>intro h
   ·refine dk 15 [35,34,33,32,31,30,29,28,27,26,25,24,23,22,21] [B true,.und,.und,.und,.und,.und,.und,.und,.und,.und,.und,.und,.und,.und,.und] ?_
    refine de 353 rfl rfl ?_
    exact rf [0,3,35] [] (j6 _ (an h) :)
   ·refine dk 3 [23,22,21] [B (decide (x2>0)),B (decide (x2>0)),I x2] ?_
    obtain⟨y7,hy7,hy71,hy72⟩:=bL h
    have j7:∀u7,y7=.inr u7→Run ve 0 Q (.code (cR (cL (cL (cR lq))))::.blk 1::.code (cR (cR lq))::.lp lq::.blk 0::K) (sT 39 [(0,.isl false (az.map str)),(3,I x2),(35,B u7)] [] 1):=by
     intro u7 hu
     replace h:=hy72 u7 hu
     exact rf [0,3,35] [] (j6 _ (an h) :)
    have r7:∀r',y7=.inl r'→∀st,GS az r' st→Q st:=fun r' e st hq=>r6 r' (hy71 r' e) st hq
    replace h:=hy7
    refine sp 23 h rfl ?_ ?_<;>intro h
    ·refine dk 3 [26,25,24] [I (ac (x2 - 1)),I x2,.isl false (az.map str)] ?_
     obtain⟨e8,he8,h⟩:=bS h
     refine dy [] [] (.iptr (str e8) 0) rfl (al rfl rfl rfl (bn rfl rfl rfl rfl he8)) ?_
     refine dy [] [] (str e8) rfl (aU rfl rfl) ?_
     refine dk 2 [30,29] [I x2,.isl false (az.map str)] ?_
     obtain⟨e9,he9,h⟩:=bS h
     refine dy [] [] (.iptr (str e9) 0) rfl (al rfl rfl rfl (bn rfl rfl rfl rfl he9)) ?_
     refine dy [] [] (str e9) rfl (aU rfl rfl) ?_
     refine dk 3 [35,34,33] [B (!(Op.bytesLess e8 e9)),B (!(Op.bytesLess e8 e9)),B (!(Op.bytesLess e8 e9))] ?_
     refine de 353 rfl rfl ?_
     exact rf [0,3,35] [] (j7 _ (an h) :)
    ·refine dk 12 [35,34,33,32,31,30,29,28,27,26,25,24] [B false,B false,.und,.und,.und,.und,.und,.und,.und,.und,.und,.und] ?_
     refine de 353 rfl rfl ?_
     exact rf [0,3,35] [] (j7 _ (an h) :)
  ·refine aq 1 ?_
   exact rf [0] [] (hn _ (an h) :) (hk:=hK)
 replace h:=hu3
 clear hu3
 refine sp 8 h rfl ?_ ?_<;>intro h
 ·refine cq 4 [11] [B (decide (x2≤16))] 129 ?_
  subst h
  exact rf [0,3,11] [] (j3 :)
 ·refine cq 4 [11] [B false] 129 ?_
  subst h
  exact rf [0,3,11] [] (j3 :)
theorem Y5 (az:List ae)(r:Bool)(h:Dq az=some r):bx ve Tryz.f122 [false] 0 (GR az) (GT r):=by
 show Run _ _ (GS az r) [.code VI] _
 refine rI 39 [(0,.isl false (az.map str))] [] 1 ?_
 unfold Dq at h
 refine cq 10 [3] [I (0)] 33 ?_
 obtain⟨y10,hy10,hy101,hy102⟩:=bJ h
 refine bM rfl ?_
 refine rf [0,3] [] (PL az rfl 0 _ hy10 (fun r' e st hq=>by rw[hy101 r' e] at hq;exact hq) fun u10 hu=>?_)
 replace h:=hy102 u10 hu
 refine cq 3 [36] [.isl false (az.map str)] 17 ?_
 refine oq 33 (I (len az)) rfl (bw rfl rfl rfl (bR rfl)) ?_
 refine cq 3 [2] [B (decide ((len az)≤16))] 65 ?_
 obtain rfl:=sI h
 exact rP [B (decide ((len az)≤16))]
theorem VJ {G:cb}:b9 G 122 Dr:=gT 1 0 (aN tn bB) cn Tryz.func122 (fun a r h=>Y5 a r h)
def Hh:(Contract×Int)→List V:=cA aV (oA I)
def Hi (r:Bool):V×List V:=(B r,[])
noncomputable def DD :=bm [false,false] Hh Hi fun x=>DC x.1 x.2
theorem aeM {c_1:Contract}{i_2:Int}{r}(h:DC c_1 i_2=some r):DD.F (Hh (c_1,i_2))=some (Hi r):=aK (aO bv (aL bf)) h
noncomputable def V4 :=aI Tryz.f156
noncomputable def Nm :=cm []
def V3 (x:Contract×Int)(r:Bool):St→Prop:=QF Nm Tryz.f156 [false,false] (Hh x) (Hi r)
theorem PS (c_1:Contract)(i_2:Int):cg Nm 0 (V3 (c_1,i_2)) (cL (cL (cR (cL (cR V4))))) 0 (vo c_1 i_2) (fun u=>(sT 26 [] [] 1)) fun x3=>(sT 26 [(1,I i_2),(2,.hp 1 0 [] 2 0 0),(5,I x3)] [⟨0,2,[aa c_1]⟩] 2):=ef (Bn c_1 i_2) fun {Q K} hK self ih x3 y h hr hn=>by
 unfold oI at h
 refine cq 6 [6,8] [I x3,.isl false (c_1.Clauses.map au)] 50 ?_
 refine oq 66 (I (len c_1.Clauses)) rfl (bw rfl rfl rfl (bR rfl)) ?_
 refine cq 2 [10] [B (decide (x3<(len c_1.Clauses)))] 82 ?_
 refine sq h ?_ ?_<;>intro h
 ·refine aq 1 ?_
  refine aq 3 ?_
  refine d7 [0,1,0,7,15,31,0,64,0,448,960,1984,4095] rfl (by decide +kernel) ?_
  refine dq [1] [] (.hp 1 0 [] 2 0 1) rfl (ay rfl rfl rfl) ?_
  refine dq [1] [] (.isl false (c_1.Clauses.map au)) rfl (aU rfl rfl) ?_
  refine dk 1 [15] [I x3] ?_
  obtain⟨e4,he4,h⟩:=bS h
  refine dq [] [] (.iptr (aB e4) 0) rfl (al rfl rfl rfl (bn rfl rfl rfl rfl he4)) ?_
  refine dq [] [] (.iptr (aB e4) 11) rfl (ay rfl rfl rfl) ?_
  refine dq [] [] (str e4.Repair) rfl (aU rfl rfl) ?_
  refine dq [1] [] (.hp 1 0 [] 2 0 1) rfl (ay rfl rfl rfl) ?_
  refine dq [1] [] (.isl false (c_1.Clauses.map au)) rfl (aU rfl rfl) ?_
  refine dk 1 [21] [I i_2] ?_
  obtain⟨e5,he5,h⟩:=bS h
  refine dq [] [] (.iptr (aB e5) 0) rfl (al rfl rfl rfl (bn rfl rfl rfl rfl he5)) ?_
  refine dq [] [] (.iptr (aB e5) 0) rfl (ay rfl rfl rfl) ?_
  refine dq [] [] (str e5.Id) rfl (aU rfl rfl) ?_
  refine dk 1 [25] [B (e4.Repair==e5.Id)] ?_
  refine de 290 rfl rfl ?_
  refine sq h ?_ ?_<;>intro h
  ·refine cq 4 [4] [B true] 306 ?_
   exact ca rfl (hr _ (an h) _ (qp [B true]))
  ·refine aq 1 ?_
   refine cq 6 [5] [I (ac (x3+1))] 338 ?_
   refine cX ?_
   exact rf [1,2,5] [1] (ih _ _ h hr hn :)
 ·refine aq 1 ?_
  exact rf [] [] (hn _ (an h) :) (hk:=hK)
theorem Zj (c_1:Contract)(i_2:Int)(r:Bool)(h:DC c_1 i_2=some r):bx Nm Tryz.f156 [false,false] 0 (Hh (c_1,i_2)) (Hi r):=by
 show Run _ _ (V3 (c_1,i_2) r) [.code V4] _
 refine rI 26 [(0,aa c_1),(1,I i_2)] [] 1 ?_
 unfold DC at h
 refine ck 11 [2,5] [] [1] [] [.hp 1 0 [] 2 0 0,I (0)] [some ⟨0,2,[aa c_1]⟩] 49 (by kernel_rfl) ?_
 obtain⟨y6,hy6,hy61,hy62⟩:=bJ h
 refine bM rfl ?_
 refine rf [1,2,5] [1] (PS c_1 i_2 rfl 0 _ hy6 (fun r' e st hq=>by rw[hy61 r' e] at hq;exact hq) fun u6 hu=>?_)
 replace h:=hy62 u6 hu
 refine cq 4 [4] [B false] 17 ?_
 obtain rfl:=sI h
 exact rP [B false]
theorem V5 {G:cb}:b9 G 156 DD:=gT 2 0 bB cn Tryz.func156 (fun a r h=>Zj a.1 a.2 r h)
def Hw:(State×Int)→List V:=cA bN (oA I)
def Hy (r:Int):V×List V:=(I r,[])
noncomputable def DI :=bm [false,false] Hw Hy fun x=>DH x.1 x.2
theorem aeP {s_1:State}{i_2:Int}{r}(h:DH s_1 i_2=some r):DI.F (Hw (s_1,i_2))=some (Hy r):=aK (aO cw (aL bf)) h
noncomputable def Wf :=aI Tryz.f157
noncomputable abbrev Jq :=cL (cL (cR (cL (cR (cR Wf)))))
noncomputable def Hx :=cm []
def We (x:State×Int)(r:Int):St→Prop:=QF Hx Tryz.f157 [false,false] (Hw x) (Hy r)
theorem PX (s_1:State)(i_2:Int):cg Hx 0 (We (s_1,i_2)) Jq 0 (mP s_1 i_2) (fun u=>(sT 25 [(5,I u)] [] 1)) fun x3=>(sT 25 [(1,I i_2),(2,.hp 1 0 [] 5 0 0),(5,I x3.1),(6,I x3.2)] [⟨0,5,[ai s_1]⟩] 2):=ef (Bs s_1 i_2) fun {Q K} hK self ih x3 y h hr hn=>by
 unfold mf at h
 refine cq 6 [7,9] [I x3.2,.isl false (s_1.Duties.map ah)] 50 ?_
 refine oq 66 (I (len s_1.Duties)) rfl (bw rfl rfl rfl (bR rfl)) ?_
 refine cq 2 [11] [B (decide (x3.2<(len s_1.Duties)))] 82 ?_
 refine sq h ?_ ?_<;>intro h
 ·refine aq 1 ?_
  refine cq 7 [15,16] [.isl false (s_1.Duties.map ah),I x3.2] 130 ?_
  obtain⟨e4,he4,h⟩:=bS h
  refine oq 146 (.iptr (ah e4) 0) rfl (al rfl rfl rfl (bn rfl rfl rfl rfl he4)) ?_
  refine cq 5 [21] [B (e4.Clause==i_2)] 210 ?_
  obtain⟨u5,hu5,h⟩:=lJ h
  have j5:Run Hx 0 Q (.blk 1::.code (cR (cR Jq))::.lp Jq::.blk 0::K) (sT 25 [(1,I i_2),(2,.hp 1 0 [] 5 0 0),(5,I u5),(6,I x3.2)] [⟨0,5,[ai s_1]⟩] 2):=by
   refine cq 6 [6] [I (ac (x3.2+1))] 50 ?_
   refine cX ?_
   exact rf [1,2,5,6] [1] (ih _ _ h hr hn :)
  replace h:=hu5
  clear hu5
  refine tM h rfl rfl ?_ ?_<;>intro h
  ·refine cq 5 [5] [I (ac (x3.1+1))] 258 ?_
   subst h
   exact rf [1,2,5,6] [1] (j5 :)
  ·refine aq 1 ?_
   subst h
   exact rf [1,2,5,6] [1] (j5 :)
 ·refine aq 1 ?_
  exact rf [5] [] (hn _ (an h) :) (hk:=hK)
theorem Zo (s_1:State)(i_2:Int)(r:Int)(h:DH s_1 i_2=some r):bx Hx Tryz.f157 [false,false] 0 (Hw (s_1,i_2)) (Hy r):=by
 show Run _ _ (We (s_1,i_2) r) [.code Wf] _
 refine rI 25 [(0,ai s_1),(1,I i_2)] [] 1 ?_
 unfold DH at h
 refine ck 15 [2,5,6] [] [1] [] [.hp 1 0 [] 5 0 0,I (0),I (0)] [some ⟨0,5,[ai s_1]⟩] 65 (by kernel_rfl) ?_
 obtain⟨y6,hy6,hy61,hy62⟩:=bJ h
 refine bM rfl ?_
 refine rf [1,2,5,6] [1] (PX s_1 i_2 rfl (0,0) _ hy6 (fun r' e st hq=>by rw[hy61 r' e] at hq;exact hq) fun u6 hu=>?_)
 replace h:=hy62 u6 hu
 refine cq 5 [4] [I u6] 33 ?_
 obtain rfl:=sI h
 exact rP [I u6]
theorem Wg {G:cb}:b9 G 157 DI:=gT 2 0 bB cn Tryz.func157 (fun a r h=>Zo a.1 a.2 r h)
def HA:(Contract×State×Int)→List V:=cA aV (cA bN (oA I))
def HB (r:Bool):V×List V:=(B r,[])
noncomputable def DK :=bm [false,false,false] HA HB fun x=>DJ x.1 x.2.1 x.2.2
theorem aeQ {c_1:Contract}{s_2:State}{k_3:Int}{r}(h:DJ c_1 s_2 k_3=some r):DK.F (HA (c_1,s_2,k_3))=some (HB r):=aK (aO bv (aO cw (aL bf))) h
noncomputable def Nr :=aI Tryz.f124
noncomputable abbrev qa :=cR (cR (cR Nr))
noncomputable abbrev vt :=cR (cL (cR (cR Nr)))
noncomputable abbrev eS :=cR qa
noncomputable abbrev eW :=cR (cL qa)
noncomputable def eD :=cm [(89,gn),(156,DD),(157,DI),(76,pX)]
def du (x:Contract×State×Int)(r:Bool):St→Prop:=QF eD Tryz.f124 [false,false,false] (HA x) (HB r)
theorem Zp (c_1:Contract)(s_2:State)(k_3:Int)(r:Bool)(h:DJ c_1 s_2 k_3=some r):bx eD Tryz.f124 [false,false,false] 0 (HA (c_1,s_2,k_3)) (HB r):=by
 show Run _ _ (du (c_1,s_2,k_3) r) [.code Nr] _
 refine rI 129 [(0,aa c_1),(1,ai s_2),(2,I k_3)] [] 1 ?_
 unfold DJ at h
 refine ck 11 [3,4,9,10] [] [1,17] [] [.hp 1 0 [] 2 0 0,.hp 17 0 [] 5 0 0,.isl false (s_2.Duties.map ah),I k_3] [some ⟨0,2,[aa c_1]⟩,some ⟨0,5,[ai s_2]⟩] 97 (by kernel_rfl) ?_
 obtain⟨e4,he4,h⟩:=bS h
 refine oq 113 (.iptr (ah e4) 0) rfl (al rfl rfl rfl (bn rfl rfl rfl rfl he4)) ?_
 refine ck 6 [7] [] [129] [] [.hp 129 0 [] 4 0 0] [some ⟨0,4,[ah e4]⟩] 161 (by kernel_rfl) ?_
 refine d7 [0,1,0,4,12,28,63,127,255,511,1023,511,2559,8191,16383,32767,65535,131071,262143,524287,1048575,524287,2621439,8388607,16777215,33554431,67108863,134217727,268435455,134217727,671088639,134217727,2281701375,134217727,8724152319,32346472447,66706210815,135425687551,274475253759,549755813887,1099511627775,2199023255551,4398046511103,8796093022207,17592186044415,35184372088831,70368744177663,140737488355327,281474976710655,562949953421311,1125899906842623,2251799813685247,4503599627370495] rfl (by decide +kernel) ?_
 refine dq [129] [] (.hp 129 0 [] 4 0 0) rfl (ay rfl rfl rfl) ?_
 refine dq [129] [] (I e4.Clause) rfl (aU rfl rfl) ?_
 refine dq [1] [] (.hp 1 0 [] 2 0 1) rfl (ay rfl rfl rfl) ?_
 refine dq [1] [] (.isl false (c_1.Clauses.map au)) rfl (aU rfl rfl) ?_
 refine dq [] [] (I (len c_1.Clauses)) rfl (bw rfl rfl rfl (bR rfl)) ?_
 refine dk 1 [18] [I (ac ((len c_1.Clauses) - 1))] ?_
 obtain⟨r5,hr5,h⟩:=bS h
 refine dq [] [] (B r5) rfl (cP (eQ hr5)) ?_ (dZ rfl rfl rfl rfl (bg (bW rfl) (bg (bW rfl) (bg (bW rfl) dj))) (eQ hr5) (.inr rfl) rfl)
 refine dk 2 [21,20] [B (!r5),B (!r5)] ?_
 obtain⟨y6,hy6,hy61,hy62⟩:=bJ h
 have j6:∀u6,y6=.inr u6→Run eD 0 (du (c_1,s_2,k_3) r) (.code vt::.code qa::[]) (sT 129 [(2,I k_3),(3,.hp 1 0 [] 2 0 0),(4,.hp 2 0 [] 5 0 0),(7,.hp 3 0 [] 4 0 0),(65,B u6)] [⟨0,2,[aa c_1]⟩,⟨0,5,[ai s_2]⟩,⟨0,4,[ah e4]⟩] 4):=by
  intro u6 hu
  replace h:=hy62 u6 hu
  refine sq h ?_ ?_<;>intro h
  ·refine cq 4 [6] [B false] 20 ?_
   obtain rfl:=sI h
   exact rP [B false]
  ·refine aq 1 ?_
   refine aq 2 ?_
   refine d7 [0,1,3,7,15,7,39,127,255,511,7,1031,4095,8191,16383,32767,65535,131071,262143,524287,1048575,524287,2621439,8388607,16777215,33554431,67108863,134217727,268435455,536870911,1073741823,2147483647,4294967295,8589934591,17179869183,34359738367,68719476735,34359738367,171798691839,549755813887,1099511627775,2199023255551,4398046511103,8796093022207,17592186044415,35184372088831,70368744177663,140737488355327,281474976710655,562949953421311,1125899906842623,2251799813685247] rfl (by decide +kernel) ?_
   refine dk 3 [68,67,66] [B (decide (k_3>0)),B (decide (k_3>0)),I k_3] ?_
   obtain⟨y7,hy7,hy71,hy72⟩:=bJ h
   have j7:∀u7,y7=.inr u7→Run eD 0 (du (c_1,s_2,k_3) r) (.code eW::.code eS::[]) (sT 129 [(3,.hp 1 0 [] 2 0 0),(4,.hp 2 0 [] 5 0 0),(7,.hp 3 0 [] 4 0 0),(117,B u7)] [⟨0,2,[aa c_1]⟩,⟨0,5,[ai s_2]⟩,⟨0,4,[ah e4]⟩] 4):=by
    intro u7 hu
    replace h:=hy72 u7 hu
    refine sq h ?_ ?_<;>intro h
    ·refine cq 4 [6] [B false] 20 ?_
     obtain rfl:=sI h
     exact rP [B false]
    ·refine aq 1 ?_
     refine cq 5 [118,120] [aa c_1,I e4.Clause] 52 ?_
     obtain⟨r8,hr8,h⟩:=bS h
     refine oq 68 (B r8) rfl (cP (aeM hr8)) ?_
     refine cq 1 [122] [B r8] 84 ?_
     obtain⟨y9,hy9,hy91,hy92⟩:=bJ h
     have j9:∀u9,y9=.inr u9→Run eD 0 (du (c_1,s_2,k_3) r) (.code (cR eS)::[]) (sT 129 [(6,B u9)] [] 1):=by
      intro u9 hu
      replace h:=hy92 u9 hu
      obtain rfl:=sI h
      exact rP [B u9]
     have r9:∀r',y9=.inl r'→∀st,du (c_1,s_2,k_3) r' st→(du (c_1,s_2,k_3) r) st:=fun r' e st hq=>by rw[hy91 r' e] at hq;exact hq
     replace h:=hy9
     refine sp 122 h rfl ?_ ?_<;>intro h
     ·refine cq 8 [6] [B true] 196 ?_
      exact rf [6] [] (j9 _ (an h) :)
     ·refine cq 3 [123,125] [ai s_2,I e4.Clause] 132 ?_
      obtain⟨r10,hr10,h⟩:=bS h
      refine oy 148 (I r10) rfl (cP (aeP hr10)) ?_
      refine cq 4 [6] [B (r10==1)] 196 ?_
      exact rf [6] [] (j9 _ (an h) :)
   have r7:∀r',y7=.inl r'→∀st,du (c_1,s_2,k_3) r' st→(du (c_1,s_2,k_3) r) st:=fun r' e st hq=>by rw[hy71 r' e] at hq;exact hq
   replace h:=hy7
   refine sp 68 h rfl ?_ ?_<;>intro h
   ·refine dy [2] [] (.hp 2 0 [] 5 0 2) rfl (ay rfl rfl rfl) ?_
    refine dy [2] [] (.isl false (s_2.Duties.map ah)) rfl (aU rfl rfl) ?_
    refine dk 2 [72,71] [I (ac (k_3 - 1)),I k_3] ?_
    obtain⟨e11,he11,h⟩:=bS h
    refine dy [] [] (.iptr (ah e11) 0) rfl (al rfl rfl rfl (bn rfl rfl rfl rfl he11)) ?_
    refine dy [] [] (.iptr (ah e11) 1) rfl (ay rfl rfl rfl) ?_
    refine dy [] [] (I e11.Since) rfl (aU rfl rfl) ?_
    refine dy [3] [] (.hp 3 0 [] 4 0 1) rfl (ay rfl rfl rfl) ?_
    refine dy [3] [] (I e4.Since) rfl (aU rfl rfl) ?_
    refine dk 3 [80,79,78] [B (decide (e11.Since>e4.Since)),B (decide (e11.Since>e4.Since)),B (decide (e11.Since>e4.Since))] ?_
    obtain⟨u12,hu12,h⟩:=lJ h
    have j12:Run eD 0 (du (c_1,s_2,k_3) r) (.code eW::.code eS::[]) (sT 129 [(3,.hp 1 0 [] 2 0 0),(4,.hp 2 0 [] 5 0 0),(7,.hp 3 0 [] 4 0 0),(117,B u12)] [⟨0,2,[aa c_1]⟩,⟨0,5,[ai s_2]⟩,⟨0,4,[ah e4]⟩] 4):=by
     exact rf [3,4,7,117] [1,2,3] (j7 _ (an h) :)
    replace h:=hu12
    clear hu12
    refine sp 80 h rfl ?_ ?_<;>intro h
    ·refine dk 37 [117,116,115,114,113,112,111,110,109,108,107,106,105,104,103,102,101,100,99,98,97,96,95,94,93,92,91,90,89,88,87,86,85,84,83,82,81] [B true,.und,.und,.und,.und,.und,.und,.und,.und,B true,B true,.und,.und,.und,.und,.und,.und,.und,.und,.und,.und,B true,B true,.und,.und,.und,.und,.und,.und,.und,.und,.und,.und,.und,.und,.und,.und] ?_
     refine de 836 rfl rfl ?_
     subst h
     exact rf [3,4,7,117] [1,2,3] (j12 :)
    ·refine dy [3] [] (.hp 3 0 [] 4 0 3) rfl (ay rfl rfl rfl) ?_
     refine dy [3] [] (I e4.Status) rfl (aU rfl rfl) ?_
     refine dk 2 [84,83] [B (e4.Status==1),B (e4.Status==1)] ?_
     obtain⟨u13,hu13,h⟩:=lJ h
     have j13:Run eD 0 (du (c_1,s_2,k_3) r) (.code eW::.code eS::[]) (sT 129 [(3,.hp 1 0 [] 2 0 0),(4,.hp 2 0 [] 5 0 0),(7,.hp 3 0 [] 4 0 0),(117,B u13)] [⟨0,2,[aa c_1]⟩,⟨0,5,[ai s_2]⟩,⟨0,4,[ah e4]⟩] 4):=by
      subst h
      exact rf [3,4,7,117] [1,2,3] (j12 :)
     replace h:=hu13
     clear hu13
     refine sp 84 h rfl ?_ ?_<;>intro h
     ·refine dy [3] [] (.hp 3 0 [] 4 0 2) rfl (ay rfl rfl rfl) ?_
      refine dy [3] [] (I e4.Due) rfl (aU rfl rfl) ?_
      refine dy [2] [] (.hp 2 0 [] 5 0 0) rfl (ay rfl rfl rfl) ?_
      refine dy [2] [] (I s_2.Day) rfl (aU rfl rfl) ?_
      refine dk 2 [90,89] [B (decide (e4.Due<s_2.Day)),B (decide (e4.Due<s_2.Day))] ?_
      obtain⟨u14,hu14,h⟩:=lJ h
      have j14:Run eD 0 (du (c_1,s_2,k_3) r) (.code eW::.code eS::[]) (sT 129 [(3,.hp 1 0 [] 2 0 0),(4,.hp 2 0 [] 5 0 0),(7,.hp 3 0 [] 4 0 0),(117,B u14)] [⟨0,2,[aa c_1]⟩,⟨0,5,[ai s_2]⟩,⟨0,4,[ah e4]⟩] 4):=by
       subst h
       exact rf [3,4,7,117] [1,2,3] (j13 :)
      replace h:=hu14
      clear hu14
      refine sp 90 h rfl ?_ ?_<;>intro h
      ·refine dk 27 [117,116,115,114,113,112,111,110,109,108,107,106,105,104,103,102,101,100,99,98,97,96,95,94,93,92,91] [B true,.und,.und,.und,.und,.und,.und,.und,.und,B true,B true,.und,.und,.und,.und,.und,.und,.und,.und,.und,.und,B true,B true,B true,B true,.und,.und] ?_
       refine de 836 rfl rfl ?_
       subst h
       exact rf [3,4,7,117] [1,2,3] (j14 :)
      ·refine dy [2] [] (.hp 2 0 [] 5 0 4) rfl (ay rfl rfl rfl) ?_
       refine dy [2] [] (B s_2.Over) rfl (aU rfl rfl) ?_
       refine dk 4 [96,95,94,93] [B s_2.Over,B s_2.Over,B s_2.Over,B s_2.Over] ?_
       obtain⟨u15,hu15,h⟩:=lJ h
       have j15:Run eD 0 (du (c_1,s_2,k_3) r) (.code eW::.code eS::[]) (sT 129 [(3,.hp 1 0 [] 2 0 0),(4,.hp 2 0 [] 5 0 0),(7,.hp 3 0 [] 4 0 0),(117,B u15)] [⟨0,2,[aa c_1]⟩,⟨0,5,[ai s_2]⟩,⟨0,4,[ah e4]⟩] 4):=by
        subst h
        exact rf [3,4,7,117] [1,2,3] (j14 :)
       replace h:=hu15
       clear hu15
       refine sp 96 h rfl ?_ ?_<;>intro h
       ·refine dk 21 [117,116,115,114,113,112,111,110,109,108,107,106,105,104,103,102,101,100,99,98,97] [B true,.und,.und,.und,.und,.und,.und,.und,.und,B true,B true,.und,.und,.und,.und,.und,.und,.und,.und,.und,.und] ?_
        refine de 836 rfl rfl ?_
        subst h
        exact rf [3,4,7,117] [1,2,3] (j15 :)
       ·refine dy [3] [] (.hp 3 0 [] 4 0 3) rfl (ay rfl rfl rfl) ?_
        refine dy [3] [] (I e4.Status) rfl (aU rfl rfl) ?_
        refine dk 2 [100,99] [B (e4.Status==3),B (e4.Status==3)] ?_
        obtain⟨u16,hu16,h⟩:=lJ h
        have j16:Run eD 0 (du (c_1,s_2,k_3) r) (.code eW::.code eS::[]) (sT 129 [(3,.hp 1 0 [] 2 0 0),(4,.hp 2 0 [] 5 0 0),(7,.hp 3 0 [] 4 0 0),(117,B u16)] [⟨0,2,[aa c_1]⟩,⟨0,5,[ai s_2]⟩,⟨0,4,[ah e4]⟩] 4):=by
         subst h
         exact rf [3,4,7,117] [1,2,3] (j15 :)
        replace h:=hu16
        clear hu16
        refine sp 100 h rfl ?_ ?_<;>intro h
        ·refine dy [3] [] (.hp 3 0 [] 4 0 2) rfl (ay rfl rfl rfl) ?_
         refine dy [3] [] (I e4.Due) rfl (aU rfl rfl) ?_
         refine dy [2] [] (.hp 2 0 [] 5 0 0) rfl (ay rfl rfl rfl) ?_
         refine dy [2] [] (I s_2.Day) rfl (aU rfl rfl) ?_
         refine dk 4 [108,107,106,105] [B (decide (e4.Due≥s_2.Day)),B (decide (e4.Due≥s_2.Day)),B (decide (e4.Due≥s_2.Day)),B (decide (e4.Due≥s_2.Day))] ?_
         obtain⟨u17,hu17,h⟩:=lJ h
         have j17:Run eD 0 (du (c_1,s_2,k_3) r) (.code eW::.code eS::[]) (sT 129 [(3,.hp 1 0 [] 2 0 0),(4,.hp 2 0 [] 5 0 0),(7,.hp 3 0 [] 4 0 0),(117,B u17)] [⟨0,2,[aa c_1]⟩,⟨0,5,[ai s_2]⟩,⟨0,4,[ah e4]⟩] 4):=by
          subst h
          exact rf [3,4,7,117] [1,2,3] (j16 :)
         replace h:=hu17
         clear hu17
         refine sp 108 h rfl ?_ ?_<;>intro h
         ·refine dk 9 [117,116,115,114,113,112,111,110,109] [B true,.und,.und,.und,.und,.und,.und,.und,.und] ?_
          refine de 836 rfl rfl ?_
          subst h
          exact rf [3,4,7,117] [1,2,3] (j17 :)
         ·refine dy [3] [] (.hp 3 0 [] 4 0 3) rfl (ay rfl rfl rfl) ?_
          refine dy [3] [] (I e4.Status) rfl (aU rfl rfl) ?_
          refine dk 2 [112,111] [B (e4.Status==4),B (e4.Status==4)] ?_
          obtain⟨u18,hu18,h⟩:=lJ h
          have j18:Run eD 0 (du (c_1,s_2,k_3) r) (.code eW::.code eS::[]) (sT 129 [(3,.hp 1 0 [] 2 0 0),(4,.hp 2 0 [] 5 0 0),(7,.hp 3 0 [] 4 0 0),(117,B u18)] [⟨0,2,[aa c_1]⟩,⟨0,5,[ai s_2]⟩,⟨0,4,[ah e4]⟩] 4):=by
           subst h
           exact rf [3,4,7,117] [1,2,3] (j17 :)
          replace h:=hu18
          clear hu18
          refine sp 112 h rfl ?_ ?_<;>intro h
          ·refine dy [2] [] (.hp 2 0 [] 5 0 4) rfl (ay rfl rfl rfl) ?_
           refine dy [2] [] (B s_2.Over) rfl (aU rfl rfl) ?_
           refine dk 3 [117,116,115] [B (!s_2.Over),B (!s_2.Over),B (!s_2.Over)] ?_
           refine de 836 rfl rfl ?_
           subst h
           exact rf [3,4,7,117] [1,2,3] (j18 :)
          ·refine dk 5 [117,116,115,114,113] [B false,B false,.und,.und,.und] ?_
           refine de 836 rfl rfl ?_
           subst h
           exact rf [3,4,7,117] [1,2,3] (j18 :)
        ·refine dk 8 [108,107,106,105,104,103,102,101] [B false,B false,B false,.und,.und,.und,.und,.und] ?_
         refine dy [3] [] (.hp 3 0 [] 4 0 3) rfl (ay rfl rfl rfl) ?_
         refine dy [3] [] (I e4.Status) rfl (aU rfl rfl) ?_
         refine dk 2 [112,111] [B (e4.Status==4),B (e4.Status==4)] ?_
         obtain⟨u19,hu19,h⟩:=lJ h
         have j19:Run eD 0 (du (c_1,s_2,k_3) r) (.code eW::.code eS::[]) (sT 129 [(3,.hp 1 0 [] 2 0 0),(4,.hp 2 0 [] 5 0 0),(7,.hp 3 0 [] 4 0 0),(117,B u19)] [⟨0,2,[aa c_1]⟩,⟨0,5,[ai s_2]⟩,⟨0,4,[ah e4]⟩] 4):=by
          subst h
          exact rf [3,4,7,117] [1,2,3] (j16 :)
         replace h:=hu19
         clear hu19
         refine sp 112 h rfl ?_ ?_<;>intro h
         ·refine dy [2] [] (.hp 2 0 [] 5 0 4) rfl (ay rfl rfl rfl) ?_
          refine dy [2] [] (B s_2.Over) rfl (aU rfl rfl) ?_
          refine dk 3 [117,116,115] [B (!s_2.Over),B (!s_2.Over),B (!s_2.Over)] ?_
          refine de 836 rfl rfl ?_
          subst h
          exact rf [3,4,7,117] [1,2,3] (j19 :)
         ·refine dk 5 [117,116,115,114,113] [B false,B false,.und,.und,.und] ?_
          refine de 836 rfl rfl ?_
          subst h
          exact rf [3,4,7,117] [1,2,3] (j19 :)
     ·refine dk 12 [96,95,94,93,92,91,90,89,88,87,86,85] [B false,B false,B false,.und,.und,.und,.und,.und,.und,.und,.und,.und] ?_
      refine dy [3] [] (.hp 3 0 [] 4 0 3) rfl (ay rfl rfl rfl) ?_
      refine dy [3] [] (I e4.Status) rfl (aU rfl rfl) ?_
      refine dk 2 [100,99] [B (e4.Status==3),B (e4.Status==3)] ?_
      obtain⟨u20,hu20,h⟩:=lJ h
      have j20:Run eD 0 (du (c_1,s_2,k_3) r) (.code eW::.code eS::[]) (sT 129 [(3,.hp 1 0 [] 2 0 0),(4,.hp 2 0 [] 5 0 0),(7,.hp 3 0 [] 4 0 0),(117,B u20)] [⟨0,2,[aa c_1]⟩,⟨0,5,[ai s_2]⟩,⟨0,4,[ah e4]⟩] 4):=by
       subst h
       exact rf [3,4,7,117] [1,2,3] (j13 :)
      replace h:=hu20
      clear hu20
      refine sp 100 h rfl ?_ ?_<;>intro h
      ·refine dy [3] [] (.hp 3 0 [] 4 0 2) rfl (ay rfl rfl rfl) ?_
       refine dy [3] [] (I e4.Due) rfl (aU rfl rfl) ?_
       refine dy [2] [] (.hp 2 0 [] 5 0 0) rfl (ay rfl rfl rfl) ?_
       refine dy [2] [] (I s_2.Day) rfl (aU rfl rfl) ?_
       refine dk 4 [108,107,106,105] [B (decide (e4.Due≥s_2.Day)),B (decide (e4.Due≥s_2.Day)),B (decide (e4.Due≥s_2.Day)),B (decide (e4.Due≥s_2.Day))] ?_
       obtain⟨u21,hu21,h⟩:=lJ h
       have j21:Run eD 0 (du (c_1,s_2,k_3) r) (.code eW::.code eS::[]) (sT 129 [(3,.hp 1 0 [] 2 0 0),(4,.hp 2 0 [] 5 0 0),(7,.hp 3 0 [] 4 0 0),(117,B u21)] [⟨0,2,[aa c_1]⟩,⟨0,5,[ai s_2]⟩,⟨0,4,[ah e4]⟩] 4):=by
        subst h
        exact rf [3,4,7,117] [1,2,3] (j20 :)
       replace h:=hu21
       clear hu21
       refine sp 108 h rfl ?_ ?_<;>intro h
       ·refine dk 9 [117,116,115,114,113,112,111,110,109] [B true,.und,.und,.und,.und,.und,.und,.und,.und] ?_
        refine de 836 rfl rfl ?_
        subst h
        exact rf [3,4,7,117] [1,2,3] (j21 :)
       ·refine dy [3] [] (.hp 3 0 [] 4 0 3) rfl (ay rfl rfl rfl) ?_
        refine dy [3] [] (I e4.Status) rfl (aU rfl rfl) ?_
        refine dk 2 [112,111] [B (e4.Status==4),B (e4.Status==4)] ?_
        obtain⟨u22,hu22,h⟩:=lJ h
        have j22:Run eD 0 (du (c_1,s_2,k_3) r) (.code eW::.code eS::[]) (sT 129 [(3,.hp 1 0 [] 2 0 0),(4,.hp 2 0 [] 5 0 0),(7,.hp 3 0 [] 4 0 0),(117,B u22)] [⟨0,2,[aa c_1]⟩,⟨0,5,[ai s_2]⟩,⟨0,4,[ah e4]⟩] 4):=by
         subst h
         exact rf [3,4,7,117] [1,2,3] (j21 :)
        replace h:=hu22
        clear hu22
        refine sp 112 h rfl ?_ ?_<;>intro h
        ·refine dy [2] [] (.hp 2 0 [] 5 0 4) rfl (ay rfl rfl rfl) ?_
         refine dy [2] [] (B s_2.Over) rfl (aU rfl rfl) ?_
         refine dk 3 [117,116,115] [B (!s_2.Over),B (!s_2.Over),B (!s_2.Over)] ?_
         refine de 836 rfl rfl ?_
         subst h
         exact rf [3,4,7,117] [1,2,3] (j22 :)
        ·refine dk 5 [117,116,115,114,113] [B false,B false,.und,.und,.und] ?_
         refine de 836 rfl rfl ?_
         subst h
         exact rf [3,4,7,117] [1,2,3] (j22 :)
      ·refine dk 8 [108,107,106,105,104,103,102,101] [B false,B false,B false,.und,.und,.und,.und,.und] ?_
       refine dy [3] [] (.hp 3 0 [] 4 0 3) rfl (ay rfl rfl rfl) ?_
       refine dy [3] [] (I e4.Status) rfl (aU rfl rfl) ?_
       refine dk 2 [112,111] [B (e4.Status==4),B (e4.Status==4)] ?_
       obtain⟨u23,hu23,h⟩:=lJ h
       have j23:Run eD 0 (du (c_1,s_2,k_3) r) (.code eW::.code eS::[]) (sT 129 [(3,.hp 1 0 [] 2 0 0),(4,.hp 2 0 [] 5 0 0),(7,.hp 3 0 [] 4 0 0),(117,B u23)] [⟨0,2,[aa c_1]⟩,⟨0,5,[ai s_2]⟩,⟨0,4,[ah e4]⟩] 4):=by
        subst h
        exact rf [3,4,7,117] [1,2,3] (j20 :)
       replace h:=hu23
       clear hu23
       refine sp 112 h rfl ?_ ?_<;>intro h
       ·refine dy [2] [] (.hp 2 0 [] 5 0 4) rfl (ay rfl rfl rfl) ?_
        refine dy [2] [] (B s_2.Over) rfl (aU rfl rfl) ?_
        refine dk 3 [117,116,115] [B (!s_2.Over),B (!s_2.Over),B (!s_2.Over)] ?_
        refine de 836 rfl rfl ?_
        subst h
        exact rf [3,4,7,117] [1,2,3] (j23 :)
       ·refine dk 5 [117,116,115,114,113] [B false,B false,.und,.und,.und] ?_
        refine de 836 rfl rfl ?_
        subst h
        exact rf [3,4,7,117] [1,2,3] (j23 :)
   ·refine dk 12 [80,79,78,77,76,75,74,73,72,71,70,69] [B false,B false,.und,.und,.und,.und,.und,.und,.und,.und,.und,.und] ?_
    refine dy [3] [] (.hp 3 0 [] 4 0 3) rfl (ay rfl rfl rfl) ?_
    refine dy [3] [] (I e4.Status) rfl (aU rfl rfl) ?_
    refine dk 2 [84,83] [B (e4.Status==1),B (e4.Status==1)] ?_
    obtain⟨u24,hu24,h⟩:=lJ h
    have j24:Run eD 0 (du (c_1,s_2,k_3) r) (.code eW::.code eS::[]) (sT 129 [(3,.hp 1 0 [] 2 0 0),(4,.hp 2 0 [] 5 0 0),(7,.hp 3 0 [] 4 0 0),(117,B u24)] [⟨0,2,[aa c_1]⟩,⟨0,5,[ai s_2]⟩,⟨0,4,[ah e4]⟩] 4):=by
     exact rf [3,4,7,117] [1,2,3] (j7 _ (an h) :)
    replace h:=hu24
    clear hu24
    refine sp 84 h rfl ?_ ?_<;>intro h
    ·refine dy [3] [] (.hp 3 0 [] 4 0 2) rfl (ay rfl rfl rfl) ?_
     refine dy [3] [] (I e4.Due) rfl (aU rfl rfl) ?_
     refine dy [2] [] (.hp 2 0 [] 5 0 0) rfl (ay rfl rfl rfl) ?_
     refine dy [2] [] (I s_2.Day) rfl (aU rfl rfl) ?_
     refine dk 2 [90,89] [B (decide (e4.Due<s_2.Day)),B (decide (e4.Due<s_2.Day))] ?_
     obtain⟨u25,hu25,h⟩:=lJ h
     have j25:Run eD 0 (du (c_1,s_2,k_3) r) (.code eW::.code eS::[]) (sT 129 [(3,.hp 1 0 [] 2 0 0),(4,.hp 2 0 [] 5 0 0),(7,.hp 3 0 [] 4 0 0),(117,B u25)] [⟨0,2,[aa c_1]⟩,⟨0,5,[ai s_2]⟩,⟨0,4,[ah e4]⟩] 4):=by
      subst h
      exact rf [3,4,7,117] [1,2,3] (j24 :)
     replace h:=hu25
     clear hu25
     refine sp 90 h rfl ?_ ?_<;>intro h
     ·refine dk 27 [117,116,115,114,113,112,111,110,109,108,107,106,105,104,103,102,101,100,99,98,97,96,95,94,93,92,91] [B true,.und,.und,.und,.und,.und,.und,.und,.und,B true,B true,.und,.und,.und,.und,.und,.und,.und,.und,.und,.und,B true,B true,B true,B true,.und,.und] ?_
      refine de 836 rfl rfl ?_
      subst h
      exact rf [3,4,7,117] [1,2,3] (j25 :)
     ·refine dy [2] [] (.hp 2 0 [] 5 0 4) rfl (ay rfl rfl rfl) ?_
      refine dy [2] [] (B s_2.Over) rfl (aU rfl rfl) ?_
      refine dk 4 [96,95,94,93] [B s_2.Over,B s_2.Over,B s_2.Over,B s_2.Over] ?_
      obtain⟨u26,hu26,h⟩:=lJ h
      have j26:Run eD 0 (du (c_1,s_2,k_3) r) (.code eW::.code eS::[]) (sT 129 [(3,.hp 1 0 [] 2 0 0),(4,.hp 2 0 [] 5 0 0),(7,.hp 3 0 [] 4 0 0),(117,B u26)] [⟨0,2,[aa c_1]⟩,⟨0,5,[ai s_2]⟩,⟨0,4,[ah e4]⟩] 4):=by
       subst h
       exact rf [3,4,7,117] [1,2,3] (j25 :)
      replace h:=hu26
      clear hu26
      refine sp 96 h rfl ?_ ?_<;>intro h
      ·refine dk 21 [117,116,115,114,113,112,111,110,109,108,107,106,105,104,103,102,101,100,99,98,97] [B true,.und,.und,.und,.und,.und,.und,.und,.und,B true,B true,.und,.und,.und,.und,.und,.und,.und,.und,.und,.und] ?_
       refine de 836 rfl rfl ?_
       subst h
       exact rf [3,4,7,117] [1,2,3] (j26 :)
      ·refine dy [3] [] (.hp 3 0 [] 4 0 3) rfl (ay rfl rfl rfl) ?_
       refine dy [3] [] (I e4.Status) rfl (aU rfl rfl) ?_
       refine dk 2 [100,99] [B (e4.Status==3),B (e4.Status==3)] ?_
       obtain⟨u27,hu27,h⟩:=lJ h
       have j27:Run eD 0 (du (c_1,s_2,k_3) r) (.code eW::.code eS::[]) (sT 129 [(3,.hp 1 0 [] 2 0 0),(4,.hp 2 0 [] 5 0 0),(7,.hp 3 0 [] 4 0 0),(117,B u27)] [⟨0,2,[aa c_1]⟩,⟨0,5,[ai s_2]⟩,⟨0,4,[ah e4]⟩] 4):=by
        subst h
        exact rf [3,4,7,117] [1,2,3] (j26 :)
       replace h:=hu27
       clear hu27
       refine sp 100 h rfl ?_ ?_<;>intro h
       ·refine dy [3] [] (.hp 3 0 [] 4 0 2) rfl (ay rfl rfl rfl) ?_
        refine dy [3] [] (I e4.Due) rfl (aU rfl rfl) ?_
        refine dy [2] [] (.hp 2 0 [] 5 0 0) rfl (ay rfl rfl rfl) ?_
        refine dy [2] [] (I s_2.Day) rfl (aU rfl rfl) ?_
        refine dk 4 [108,107,106,105] [B (decide (e4.Due≥s_2.Day)),B (decide (e4.Due≥s_2.Day)),B (decide (e4.Due≥s_2.Day)),B (decide (e4.Due≥s_2.Day))] ?_
        obtain⟨u28,hu28,h⟩:=lJ h
        have j28:Run eD 0 (du (c_1,s_2,k_3) r) (.code eW::.code eS::[]) (sT 129 [(3,.hp 1 0 [] 2 0 0),(4,.hp 2 0 [] 5 0 0),(7,.hp 3 0 [] 4 0 0),(117,B u28)] [⟨0,2,[aa c_1]⟩,⟨0,5,[ai s_2]⟩,⟨0,4,[ah e4]⟩] 4):=by
         subst h
         exact rf [3,4,7,117] [1,2,3] (j27 :)
        replace h:=hu28
        clear hu28
        refine sp 108 h rfl ?_ ?_<;>intro h
        ·refine dk 9 [117,116,115,114,113,112,111,110,109] [B true,.und,.und,.und,.und,.und,.und,.und,.und] ?_
         refine de 836 rfl rfl ?_
         subst h
         exact rf [3,4,7,117] [1,2,3] (j28 :)
        ·refine dy [3] [] (.hp 3 0 [] 4 0 3) rfl (ay rfl rfl rfl) ?_
         refine dy [3] [] (I e4.Status) rfl (aU rfl rfl) ?_
         refine dk 2 [112,111] [B (e4.Status==4),B (e4.Status==4)] ?_
         obtain⟨u29,hu29,h⟩:=lJ h
         have j29:Run eD 0 (du (c_1,s_2,k_3) r) (.code eW::.code eS::[]) (sT 129 [(3,.hp 1 0 [] 2 0 0),(4,.hp 2 0 [] 5 0 0),(7,.hp 3 0 [] 4 0 0),(117,B u29)] [⟨0,2,[aa c_1]⟩,⟨0,5,[ai s_2]⟩,⟨0,4,[ah e4]⟩] 4):=by
          subst h
          exact rf [3,4,7,117] [1,2,3] (j28 :)
         replace h:=hu29
         clear hu29
         refine sp 112 h rfl ?_ ?_<;>intro h
         ·refine dy [2] [] (.hp 2 0 [] 5 0 4) rfl (ay rfl rfl rfl) ?_
          refine dy [2] [] (B s_2.Over) rfl (aU rfl rfl) ?_
          refine dk 3 [117,116,115] [B (!s_2.Over),B (!s_2.Over),B (!s_2.Over)] ?_
          refine de 836 rfl rfl ?_
          subst h
          exact rf [3,4,7,117] [1,2,3] (j29 :)
         ·refine dk 5 [117,116,115,114,113] [B false,B false,.und,.und,.und] ?_
          refine de 836 rfl rfl ?_
          subst h
          exact rf [3,4,7,117] [1,2,3] (j29 :)
       ·refine dk 8 [108,107,106,105,104,103,102,101] [B false,B false,B false,.und,.und,.und,.und,.und] ?_
        refine dy [3] [] (.hp 3 0 [] 4 0 3) rfl (ay rfl rfl rfl) ?_
        refine dy [3] [] (I e4.Status) rfl (aU rfl rfl) ?_
        refine dk 2 [112,111] [B (e4.Status==4),B (e4.Status==4)] ?_
        obtain⟨u30,hu30,h⟩:=lJ h
        have j30:Run eD 0 (du (c_1,s_2,k_3) r) (.code eW::.code eS::[]) (sT 129 [(3,.hp 1 0 [] 2 0 0),(4,.hp 2 0 [] 5 0 0),(7,.hp 3 0 [] 4 0 0),(117,B u30)] [⟨0,2,[aa c_1]⟩,⟨0,5,[ai s_2]⟩,⟨0,4,[ah e4]⟩] 4):=by
         subst h
         exact rf [3,4,7,117] [1,2,3] (j27 :)
        replace h:=hu30
        clear hu30
        refine sp 112 h rfl ?_ ?_<;>intro h
        ·refine dy [2] [] (.hp 2 0 [] 5 0 4) rfl (ay rfl rfl rfl) ?_
         refine dy [2] [] (B s_2.Over) rfl (aU rfl rfl) ?_
         refine dk 3 [117,116,115] [B (!s_2.Over),B (!s_2.Over),B (!s_2.Over)] ?_
         refine de 836 rfl rfl ?_
         subst h
         exact rf [3,4,7,117] [1,2,3] (j30 :)
        ·refine dk 5 [117,116,115,114,113] [B false,B false,.und,.und,.und] ?_
         refine de 836 rfl rfl ?_
         subst h
         exact rf [3,4,7,117] [1,2,3] (j30 :)
    ·refine dk 12 [96,95,94,93,92,91,90,89,88,87,86,85] [B false,B false,B false,.und,.und,.und,.und,.und,.und,.und,.und,.und] ?_
     refine dy [3] [] (.hp 3 0 [] 4 0 3) rfl (ay rfl rfl rfl) ?_
     refine dy [3] [] (I e4.Status) rfl (aU rfl rfl) ?_
     refine dk 2 [100,99] [B (e4.Status==3),B (e4.Status==3)] ?_
     obtain⟨u31,hu31,h⟩:=lJ h
     have j31:Run eD 0 (du (c_1,s_2,k_3) r) (.code eW::.code eS::[]) (sT 129 [(3,.hp 1 0 [] 2 0 0),(4,.hp 2 0 [] 5 0 0),(7,.hp 3 0 [] 4 0 0),(117,B u31)] [⟨0,2,[aa c_1]⟩,⟨0,5,[ai s_2]⟩,⟨0,4,[ah e4]⟩] 4):=by
      subst h
      exact rf [3,4,7,117] [1,2,3] (j24 :)
     replace h:=hu31
     clear hu31
     refine sp 100 h rfl ?_ ?_<;>intro h
     ·refine dy [3] [] (.hp 3 0 [] 4 0 2) rfl (ay rfl rfl rfl) ?_
      refine dy [3] [] (I e4.Due) rfl (aU rfl rfl) ?_
      refine dy [2] [] (.hp 2 0 [] 5 0 0) rfl (ay rfl rfl rfl) ?_
      refine dy [2] [] (I s_2.Day) rfl (aU rfl rfl) ?_
      refine dk 4 [108,107,106,105] [B (decide (e4.Due≥s_2.Day)),B (decide (e4.Due≥s_2.Day)),B (decide (e4.Due≥s_2.Day)),B (decide (e4.Due≥s_2.Day))] ?_
      obtain⟨u32,hu32,h⟩:=lJ h
      have j32:Run eD 0 (du (c_1,s_2,k_3) r) (.code eW::.code eS::[]) (sT 129 [(3,.hp 1 0 [] 2 0 0),(4,.hp 2 0 [] 5 0 0),(7,.hp 3 0 [] 4 0 0),(117,B u32)] [⟨0,2,[aa c_1]⟩,⟨0,5,[ai s_2]⟩,⟨0,4,[ah e4]⟩] 4):=by
       subst h
       exact rf [3,4,7,117] [1,2,3] (j31 :)
      replace h:=hu32
      clear hu32
      refine sp 108 h rfl ?_ ?_<;>intro h
      ·refine dk 9 [117,116,115,114,113,112,111,110,109] [B true,.und,.und,.und,.und,.und,.und,.und,.und] ?_
       refine de 836 rfl rfl ?_
       subst h
       exact rf [3,4,7,117] [1,2,3] (j32 :)
      ·refine dy [3] [] (.hp 3 0 [] 4 0 3) rfl (ay rfl rfl rfl) ?_
       refine dy [3] [] (I e4.Status) rfl (aU rfl rfl) ?_
       refine dk 2 [112,111] [B (e4.Status==4),B (e4.Status==4)] ?_
       obtain⟨u33,hu33,h⟩:=lJ h
       have j33:Run eD 0 (du (c_1,s_2,k_3) r) (.code eW::.code eS::[]) (sT 129 [(3,.hp 1 0 [] 2 0 0),(4,.hp 2 0 [] 5 0 0),(7,.hp 3 0 [] 4 0 0),(117,B u33)] [⟨0,2,[aa c_1]⟩,⟨0,5,[ai s_2]⟩,⟨0,4,[ah e4]⟩] 4):=by
        subst h
        exact rf [3,4,7,117] [1,2,3] (j32 :)
       replace h:=hu33
       clear hu33
       refine sp 112 h rfl ?_ ?_<;>intro h
       ·refine dy [2] [] (.hp 2 0 [] 5 0 4) rfl (ay rfl rfl rfl) ?_
        refine dy [2] [] (B s_2.Over) rfl (aU rfl rfl) ?_
        refine dk 3 [117,116,115] [B (!s_2.Over),B (!s_2.Over),B (!s_2.Over)] ?_
        refine de 836 rfl rfl ?_
        subst h
        exact rf [3,4,7,117] [1,2,3] (j33 :)
       ·refine dk 5 [117,116,115,114,113] [B false,B false,.und,.und,.und] ?_
        refine de 836 rfl rfl ?_
        subst h
        exact rf [3,4,7,117] [1,2,3] (j33 :)
     ·refine dk 8 [108,107,106,105,104,103,102,101] [B false,B false,B false,.und,.und,.und,.und,.und] ?_
      refine dy [3] [] (.hp 3 0 [] 4 0 3) rfl (ay rfl rfl rfl) ?_
      refine dy [3] [] (I e4.Status) rfl (aU rfl rfl) ?_
      refine dk 2 [112,111] [B (e4.Status==4),B (e4.Status==4)] ?_
      obtain⟨u34,hu34,h⟩:=lJ h
      have j34:Run eD 0 (du (c_1,s_2,k_3) r) (.code eW::.code eS::[]) (sT 129 [(3,.hp 1 0 [] 2 0 0),(4,.hp 2 0 [] 5 0 0),(7,.hp 3 0 [] 4 0 0),(117,B u34)] [⟨0,2,[aa c_1]⟩,⟨0,5,[ai s_2]⟩,⟨0,4,[ah e4]⟩] 4):=by
       subst h
       exact rf [3,4,7,117] [1,2,3] (j31 :)
      replace h:=hu34
      clear hu34
      refine sp 112 h rfl ?_ ?_<;>intro h
      ·refine dy [2] [] (.hp 2 0 [] 5 0 4) rfl (ay rfl rfl rfl) ?_
       refine dy [2] [] (B s_2.Over) rfl (aU rfl rfl) ?_
       refine dk 3 [117,116,115] [B (!s_2.Over),B (!s_2.Over),B (!s_2.Over)] ?_
       refine de 836 rfl rfl ?_
       subst h
       exact rf [3,4,7,117] [1,2,3] (j34 :)
      ·refine dk 5 [117,116,115,114,113] [B false,B false,.und,.und,.und] ?_
       refine de 836 rfl rfl ?_
       subst h
       exact rf [3,4,7,117] [1,2,3] (j34 :)
 have r6:∀r',y6=.inl r'→∀st,du (c_1,s_2,k_3) r' st→(du (c_1,s_2,k_3) r) st:=fun r' e st hq=>by rw[hy61 r' e] at hq;exact hq
 replace h:=hy6
 refine sp 21 h rfl ?_ ?_<;>intro h
 ·refine dk 44 [65,64,63,62,61,60,59,58,57,56,55,54,53,52,51,50,49,48,47,46,45,44,43,42,41,40,39,38,37,36,35,34,33,32,31,30,29,28,27,26,25,24,23,22] [B true,.und,.und,.und,.und,B true,B true,.und,.und,.und,.und,B true,B true,.und,.und,.und,.und,.und,.und,.und,.und,.und,.und,.und,.und,.und,B true,B true,.und,.und,.und,.und,.und,.und,B true,B true,.und,.und,.und,.und,.und,.und,.und,.und] ?_
  refine de 1009 rfl rfl ?_
  exact rf [2,3,4,7,65] [1,17,129] (j6 _ (an h) :)
 ·refine dy [1] [] (.hp 1 0 [] 2 0 1) rfl (ay rfl rfl rfl) ?_
  refine dy [1] [] (.isl false (c_1.Clauses.map au)) rfl (aU rfl rfl) ?_
  refine dy [129] [] (.hp 129 0 [] 4 0 0) rfl (ay rfl rfl rfl) ?_
  refine dy [129] [] (I e4.Clause) rfl (aU rfl rfl) ?_
  obtain⟨e35,he35,h⟩:=bS h
  refine dy [] [] (.iptr (aB e35) 0) rfl (al rfl rfl rfl (bn rfl rfl rfl rfl he35)) ?_
  refine dy [] [] (.iptr (aB e35) 1) rfl (ay rfl rfl rfl) ?_
  refine dy [] [] (I e35.Kind) rfl (aU rfl rfl) ?_
  refine dk 3 [31,30,29] [B (e35.Kind != 1),B (e35.Kind != 1),B (e35.Kind != 1)] ?_
  obtain⟨y36,hy36,hy361,hy362⟩:=bL h
  have j36:∀u36,y36=.inr u36→Run eD 0 (du (c_1,s_2,k_3) r) (.code vt::.code qa::[]) (sT 129 [(2,I k_3),(3,.hp 1 0 [] 2 0 0),(4,.hp 2 0 [] 5 0 0),(7,.hp 3 0 [] 4 0 0),(65,B u36)] [⟨0,2,[aa c_1]⟩,⟨0,5,[ai s_2]⟩,⟨0,4,[ah e4]⟩] 4):=by
   intro u36 hu
   replace h:=hy362 u36 hu
   exact rf [2,3,4,7,65] [1,2,3] (j6 _ (an h) :)
  have r36:∀r',y36=.inl r'→∀st,du (c_1,s_2,k_3) r' st→(du (c_1,s_2,k_3) r) st:=fun r' e st hq=>r6 r' (hy361 r' e) st hq
  replace h:=hy36
  refine sp 31 h rfl ?_ ?_<;>intro h
  ·refine dk 34 [65,64,63,62,61,60,59,58,57,56,55,54,53,52,51,50,49,48,47,46,45,44,43,42,41,40,39,38,37,36,35,34,33,32] [B true,.und,.und,.und,.und,B true,B true,.und,.und,.und,.und,B true,B true,.und,.und,.und,.und,.und,.und,.und,.und,.und,.und,.und,.und,.und,B true,B true,.und,.und,.und,.und,.und,.und] ?_
   refine de 1009 rfl rfl ?_
   exact rf [2,3,4,7,65] [1,17,129] (j36 _ (an h) :)
  ·refine dy [129] [] (.hp 129 0 [] 4 0 1) rfl (ay rfl rfl rfl) ?_
   refine dy [129] [] (I e4.Since) rfl (aU rfl rfl) ?_
   refine dy [17] [] (.hp 17 0 [] 5 0 0) rfl (ay rfl rfl rfl) ?_
   refine dy [17] [] (I s_2.Day) rfl (aU rfl rfl) ?_
   obtain⟨r37,hr37,h⟩:=bS h
   refine dy [] [] (B r37) rfl (cP (eQ hr37)) ?_ (dZ rfl rfl rfl rfl (bg (bW rfl) (bg (bW rfl) (bg (bW rfl) dj))) (eQ hr37) (.inr rfl) rfl)
   refine dk 3 [39,38,37] [B (!r37),B (!r37),B (!r37)] ?_
   obtain⟨y38,hy38,hy381,hy382⟩:=bL h
   have j38:∀u38,y38=.inr u38→Run eD 0 (du (c_1,s_2,k_3) r) (.code vt::.code qa::[]) (sT 129 [(2,I k_3),(3,.hp 1 0 [] 2 0 0),(4,.hp 2 0 [] 5 0 0),(7,.hp 3 0 [] 4 0 0),(65,B u38)] [⟨0,2,[aa c_1]⟩,⟨0,5,[ai s_2]⟩,⟨0,4,[ah e4]⟩] 4):=by
    intro u38 hu
    replace h:=hy382 u38 hu
    exact rf [2,3,4,7,65] [1,2,3] (j36 _ (an h) :)
   have r38:∀r',y38=.inl r'→∀st,du (c_1,s_2,k_3) r' st→(du (c_1,s_2,k_3) r) st:=fun r' e st hq=>r36 r' (hy381 r' e) st hq
   replace h:=hy38
   refine sp 39 h rfl ?_ ?_<;>intro h
   ·refine dk 26 [65,64,63,62,61,60,59,58,57,56,55,54,53,52,51,50,49,48,47,46,45,44,43,42,41,40] [B true,.und,.und,.und,.und,B true,B true,.und,.und,.und,.und,B true,B true,.und,.und,.und,.und,.und,.und,.und,.und,.und,.und,.und,.und,.und] ?_
    refine de 1009 rfl rfl ?_
    exact rf [2,3,4,7,65] [1,17,129] (j38 _ (an h) :)
   ·refine dy [129] [] (.hp 129 0 [] 4 0 2) rfl (ay rfl rfl rfl) ?_
    refine dy [129] [] (I e4.Due) rfl (aU rfl rfl) ?_
    refine dy [129] [] (.hp 129 0 [] 4 0 1) rfl (ay rfl rfl rfl) ?_
    refine dy [129] [] (I e4.Since) rfl (aU rfl rfl) ?_
    refine dy [1] [] (.hp 1 0 [] 2 0 1) rfl (ay rfl rfl rfl) ?_
    refine dy [1] [] (.isl false (c_1.Clauses.map au)) rfl (aU rfl rfl) ?_
    refine dy [129] [] (.hp 129 0 [] 4 0 0) rfl (ay rfl rfl rfl) ?_
    refine dy [129] [] (I e4.Clause) rfl (aU rfl rfl) ?_
    obtain⟨e39,he39,h⟩:=bS h
    refine dy [] [] (.iptr (aB e39) 0) rfl (al rfl rfl rfl (bn rfl rfl rfl rfl he39)) ?_
    refine dy [] [] (.iptr (aB e39) 10) rfl (ay rfl rfl rfl) ?_
    refine dy [] [] (I e39.Within) rfl (aU rfl rfl) ?_
    refine dk 4 [54,53,52,51] [B (e4.Due != (ac (e4.Since+e39.Within))),B (e4.Due != (ac (e4.Since+e39.Within))),B (e4.Due != (ac (e4.Since+e39.Within))),I (ac (e4.Since+e39.Within))] ?_
    obtain⟨y40,hy40,hy401,hy402⟩:=bL h
    have j40:∀u40,y40=.inr u40→Run eD 0 (du (c_1,s_2,k_3) r) (.code vt::.code qa::[]) (sT 129 [(2,I k_3),(3,.hp 1 0 [] 2 0 0),(4,.hp 2 0 [] 5 0 0),(7,.hp 3 0 [] 4 0 0),(65,B u40)] [⟨0,2,[aa c_1]⟩,⟨0,5,[ai s_2]⟩,⟨0,4,[ah e4]⟩] 4):=by
     intro u40 hu
     replace h:=hy402 u40 hu
     exact rf [2,3,4,7,65] [1,2,3] (j38 _ (an h) :)
    have r40:∀r',y40=.inl r'→∀st,du (c_1,s_2,k_3) r' st→(du (c_1,s_2,k_3) r) st:=fun r' e st hq=>r38 r' (hy401 r' e) st hq
    replace h:=hy40
    refine sp 54 h rfl ?_ ?_<;>intro h
    ·refine dk 11 [65,64,63,62,61,60,59,58,57,56,55] [B true,.und,.und,.und,.und,B true,B true,.und,.und,.und,.und] ?_
     refine de 1009 rfl rfl ?_
     exact rf [2,3,4,7,65] [1,17,129] (j40 _ (an h) :)
    ·refine dy [129] [] (.hp 129 0 [] 4 0 2) rfl (ay rfl rfl rfl) ?_
     refine dy [129] [] (I e4.Due) rfl (aU rfl rfl) ?_
     obtain⟨r41,hr41,h⟩:=bS h
     refine dy [] [] (B r41) rfl (cP (yj hr41)) ?_ (dZ rfl rfl rfl rfl (bg (bW rfl) dj) (yj hr41) (.inr rfl) rfl)
     refine dk 3 [60,59,58] [B (!r41),B (!r41),B (!r41)] ?_
     obtain⟨y42,hy42,hy421,hy422⟩:=bL h
     have j42:∀u42,y42=.inr u42→Run eD 0 (du (c_1,s_2,k_3) r) (.code vt::.code qa::[]) (sT 129 [(2,I k_3),(3,.hp 1 0 [] 2 0 0),(4,.hp 2 0 [] 5 0 0),(7,.hp 3 0 [] 4 0 0),(65,B u42)] [⟨0,2,[aa c_1]⟩,⟨0,5,[ai s_2]⟩,⟨0,4,[ah e4]⟩] 4):=by
      intro u42 hu
      replace h:=hy422 u42 hu
      exact rf [2,3,4,7,65] [1,2,3] (j40 _ (an h) :)
     have r42:∀r',y42=.inl r'→∀st,du (c_1,s_2,k_3) r' st→(du (c_1,s_2,k_3) r) st:=fun r' e st hq=>r40 r' (hy421 r' e) st hq
     replace h:=hy42
     refine sp 60 h rfl ?_ ?_<;>intro h
     ·refine dk 5 [65,64,63,62,61] [B true,.und,.und,.und,.und] ?_
      refine de 1009 rfl rfl ?_
      exact rf [2,3,4,7,65] [1,17,129] (j42 _ (an h) :)
     ·refine dy [129] [] (.hp 129 0 [] 4 0 3) rfl (ay rfl rfl rfl) ?_
      refine dy [129] [] (I e4.Status) rfl (aU rfl rfl) ?_
      obtain⟨r43,hr43,h⟩:=bS h
      refine dy [] [] (B r43) rfl (cP (eQ hr43)) ?_ (dZ rfl rfl rfl rfl (bg (bW rfl) (bg (bW rfl) (bg (bW rfl) dj))) (eQ hr43) (.inr rfl) rfl)
      refine dk 2 [65,64] [B (!r43),B (!r43)] ?_
      refine de 1009 rfl rfl ?_
      exact rf [2,3,4,7,65] [1,17,129] (j42 _ (an h) :)
theorem Wh {G:cb}:b9 G 124 DK:=gT 3 0 (aN io (aN V5 (aN Wg (aN tk bB)))) cn Tryz.func124 (fun a r h=>Zp a.1 a.2.1 a.2.2 r h)
def GK:Int→List V:=oA I
def GL (r:Bool):V×List V:=(B r,[])
noncomputable def Dn :=bm [false] GK GL fun x=>Dm x
theorem aeA {x_1:Int}{r}(h:Dm x_1=some r):Dn.F (GK x_1)=some (GL r):=aK (aL bf) h
noncomputable def aeC :=aI Tryz.f125
noncomputable def VC :=cm [(89,gn)]
def aeB (x:Int)(r:Bool):St→Prop:=QF VC Tryz.f125 [false] (GK x) (GL r)
theorem Y2 (x_1:Int)(r:Bool)(h:Dm x_1=some r):bx VC Tryz.f125 [false] 0 (GK x_1) (GL r):=by
 show Run _ _ (aeB x_1 r) [.code aeC] _
 refine rI 5 [(0,I x_1)] [] 1 ?_
 unfold Dm at h
 refine cq 7 [3] [I x_1] 33 ?_
 obtain⟨r2,hr2,h⟩:=bS h
 refine oq 49 (B r2) rfl (cP (eQ hr2)) ?_
 refine cq 2 [2] [B r2] 65 ?_
 obtain rfl:=sI h
 exact rP [B r2]
theorem VD {G:cb}:b9 G 125 Dn:=gT 1 0 (aN io bB) cn Tryz.func125 (fun a r h=>Y2 a r h)
def GM:(List Int)→List V:=oA (gp I)
def GN (r:Int):V×List V:=(I r,[])
noncomputable def Dp :=bm [false] GM GN fun x=>wi x
theorem aeD {az:List Int}{r}(h:wi az=some r):Dp.F (GM az)=some (GN r):=aK (aL (cr bf)) h
noncomputable def VF :=aI Tryz.f126
noncomputable def Na :=cm []
def VE (x:(List Int))(r:Int):St→Prop:=QF Na Tryz.f126 [false] (GM x) (GN r)
theorem PK (az:List Int):cg Na 0 (VE az) (cL (cL (cR (cL (cR (cR VF)))))) 0 (ln az) (fun u=>(sT 18 [(3,I u)] [] 1)) fun x2=>(sT 18 [(0,.isl false (az.map I)),(3,I x2.1),(4,I x2.2)] [] 1):=ef (Bf az) fun {Q K} hK self ih x2 y h hr hn=>by
 unfold l6 at h
 refine cq 5 [5,6] [I x2.2,.isl false (az.map I)] 33 ?_
 refine oq 49 (I (len az)) rfl (bw rfl rfl rfl (bR rfl)) ?_
 refine cq 2 [8] [B (decide (x2.2<(len az)))] 65 ?_
 refine sq h ?_ ?_<;>intro h
 ·refine aq 1 ?_
  refine cq 6 [11,12,13] [I x2.1,.isl false (az.map I),I x2.2] 113 ?_
  obtain⟨e3,he3,h⟩:=bS h
  refine oq 129 (.iptr (I e3) 0) rfl (al rfl rfl rfl (bn rfl rfl rfl rfl he3)) ?_
  refine cq 10 [3,4] [I (ac (x2.1+e3)),I (ac (x2.2+1))] 225 ?_
  refine cX ?_
  exact rf [0,3,4] [] (ih _ _ h hr hn :)
 ·refine aq 1 ?_
  exact rf [3] [] (hn _ (an h) :) (hk:=hK)
theorem Y3 (az:List Int)(r:Int)(h:wi az=some r):bx Na Tryz.f126 [false] 0 (GM az) (GN r):=by
 show Run _ _ (VE az r) [.code VF] _
 refine rI 18 [(0,.isl false (az.map I))] [] 1 ?_
 unfold wi at h
 refine cq 14 [3,4] [I (0),I (0)] 49 ?_
 obtain⟨y4,hy4,hy41,hy42⟩:=bJ h
 refine bM rfl ?_
 refine rf [0,3,4] [] (PK az rfl (0,0) _ hy4 (fun r' e st hq=>by rw[hy41 r' e] at hq;exact hq) fun u4 hu=>?_)
 replace h:=hy42 u4 hu
 refine cq 5 [2] [I u4] 33 ?_
 obtain rfl:=sI h
 exact rP [I u4]
theorem VG {G:cb}:b9 G 126 Dp:=gT 1 0 bB cn Tryz.func126 (fun a r h=>Y3 a r h)
def HC:(Contract×State)→List V:=cA aV (oA bN)
def HD (r:Bool):V×List V:=(B r,[])
noncomputable def DL :=bm [false,false] HC HD fun x=>wu x.1 x.2
theorem aeR {c_1:Contract}{s_2:State}{r}(h:wu c_1 s_2=some r):DL.F (HC (c_1,s_2))=some (HD r):=aK (aO bv (aL cw)) h
noncomputable def kZ :=aI Tryz.f75
noncomputable def pf :=cm [(43,DF),(93,wt),(123,wm),(124,DK),(125,Dn),(126,Dp),(76,pX),(122,Dr)]
def kY (x:Contract×State)(r:Bool):St→Prop:=QF pf Tryz.f75 [false,false] (HC x) (HD r)
theorem PY (c_1:Contract)(s_2:State)(r5:(List ae)):cg pf 0 (kY (c_1,s_2)) (cL (cL (cR (cL (cR (cR (cR kZ))))))) 0 (vu c_1 s_2 r5) (fun u=>(sT 86 [(2,.hp 1 0 [] 2 0 0),(3,.hp 2 0 [] 5 0 0)] [⟨0,2,[aa c_1]⟩,⟨0,5,[ai s_2]⟩] 3)) fun x6=>(sT 86 [(2,.hp 1 0 [] 2 0 0),(3,.hp 2 0 [] 5 0 0),(5,.hs 3 0 [] 1 0 (r5.map str).length),(6,I x6)] [⟨0,2,[aa c_1]⟩,⟨0,5,[ai s_2]⟩,⟨0,1,r5.map str⟩] 4):=ef (Bt c_1 s_2 r5) fun {Q K} hK self ih x6 y h hr hn=>by
 unfold oL at h
 refine cq 6 [41,43] [I x6,.isl false (s_2.Facts.map str)] 52 ?_
 refine oq 68 (I (len s_2.Facts)) rfl (bw rfl rfl rfl (bR rfl)) ?_
 refine cq 2 [45] [B (decide (x6<(len s_2.Facts)))] 84 ?_
 refine sq h ?_ ?_<;>intro h
 ·refine aq 1 ?_
  refine cq 8 [48,50,51] [.hs 3 0 [] 1 0 (r5.map str).length,.isl false (s_2.Facts.map str),I x6] 148 ?_
  obtain⟨e7,he7,h⟩:=bS h
  refine oq 164 (.iptr (str e7) 0) rfl (al rfl rfl rfl (bn rfl rfl rfl rfl he7)) ?_
  refine cq 1 [53] [str e7] 180 ?_
  obtain⟨r8,hr8,h⟩:=bS h
  refine oq 196 (B r8) rfl (bK rfl rfl (b8 rfl rfl rfl (bg (zu rfl rfl (dM (f:=str) (g:=str) (xs:=r5) rfl rfl (bT fI))) (bg (bW rfl) dj)) (Nf hr8) (.inl rfl) dK rfl rfl rfl)) ?_
  refine cq 2 [55] [B (!r8)] 212 ?_
  refine sq h ?_ ?_<;>intro h
  ·refine cq 4 [4] [B false] 228 ?_
   exact ca rfl (hr _ (an h) _ (qp [B false]))
  ·refine aq 1 ?_
   refine cq 6 [6] [I (ac (x6+1))] 260 ?_
   refine cX ?_
   exact rf [2,3,5,6] [1,2,3] (ih _ _ h hr hn :)
 ·refine aq 1 ?_
  exact rf [2,3] [1,2] (hn _ (an h) :) (hk:=hK)
theorem PZ (c_1:Contract)(s_2:State):cg pf 0 (kY (c_1,s_2)) (cL (cL (cR (cL (cR (cR (cR (cR kZ)))))))) 2 (oM c_1 s_2) (fun u=>(sT 86 [(3,.hp 1 0 [] 5 0 0)] [⟨0,5,[ai s_2]⟩] 2)) fun x10=>(sT 86 [(2,.hp 1 0 [] 2 0 0),(3,.hp 2 0 [] 5 0 0),(7,I x10)] [⟨0,2,[aa c_1]⟩,⟨0,5,[ai s_2]⟩] 3):=ef (Bu c_1 s_2) fun {Q K} hK self ih x10 y h hr hn=>by
 unfold mg at h
 refine cq 6 [56,58] [I x10,.isl false (s_2.Duties.map ah)] 51 ?_
 refine oq 67 (I (len s_2.Duties)) rfl (bw rfl rfl rfl (bR rfl)) ?_
 refine cq 2 [60] [B (decide (x10<(len s_2.Duties)))] 83 ?_
 refine sq h ?_ ?_<;>intro h
 ·refine aq 1 ?_
  refine cq 7 [63,64,65] [aa c_1,ai s_2,I x10] 131 ?_
  obtain⟨r11,hr11,h⟩:=bS h
  refine oq 147 (B r11) rfl (cP (aeQ hr11)) ?_
  refine cq 2 [67] [B (!r11)] 163 ?_
  refine sq h ?_ ?_<;>intro h
  ·refine cq 4 [4] [B false] 179 ?_
   exact ca rfl (hr _ (an h) _ (qp [B false]))
  ·refine aq 1 ?_
   refine cq 6 [7] [I (ac (x10+1))] 211 ?_
   refine cX ?_
   exact rf [2,3,7] [1,2] (ih _ _ h hr hn :)
 ·refine aq 1 ?_
  exact rf [3] [2] (hn _ (an h) :) (hk:=hK)
theorem P0 (c_1:Contract)(s_2:State):cg pf 0 (kY (c_1,s_2)) (cL (cL (cR (cL (cR (cR (cR (cR (cR kZ))))))))) 4 (vv c_1 s_2) (fun u=>(sT 86 [(3,.hp 1 0 [] 5 0 0)] [⟨0,5,[ai s_2]⟩] 2)) fun x13=>(sT 86 [(3,.hp 1 0 [] 5 0 0),(8,I x13)] [⟨0,5,[ai s_2]⟩] 2):=ef (Bv c_1 s_2) fun {Q K} hK self ih x13 y h hr hn=>by
 unfold oO at h
 refine cq 6 [68,70] [I x13,.isl false (s_2.Balances.map I)] 50 ?_
 refine oq 66 (I (len s_2.Balances)) rfl (bw rfl rfl rfl (bR rfl)) ?_
 refine cq 2 [72] [B (decide (x13<(len s_2.Balances)))] 82 ?_
 refine sq h ?_ ?_<;>intro h
 ·refine aq 1 ?_
  refine cq 7 [76,77] [.isl false (s_2.Balances.map I),I x13] 130 ?_
  obtain⟨e14,he14,h⟩:=bS h
  refine oq 146 (.iptr (I e14) 0) rfl (al rfl rfl rfl (bn rfl rfl rfl rfl he14)) ?_
  refine cq 1 [79] [I e14] 162 ?_
  obtain⟨r15,hr15,h⟩:=bS h
  refine oq 178 (B r15) rfl (cP (aeA hr15)) ?_
  refine cq 2 [81] [B (!r15)] 194 ?_
  refine sq h ?_ ?_<;>intro h
  ·refine cq 4 [4] [B false] 210 ?_
   exact ca rfl (hr _ (an h) _ (qp [B false]))
  ·refine aq 1 ?_
   refine cq 6 [8] [I (ac (x13+1))] 242 ?_
   refine cX ?_
   exact rf [3,8] [1] (ih _ _ h hr hn :)
 ·refine aq 1 ?_
  exact rf [3] [1] (hn _ (an h) :) (hk:=hK)
theorem Zq (c_1:Contract)(s_2:State)(r:Bool)(h:wu c_1 s_2=some r):bx pf Tryz.f75 [false,false] 0 (HC (c_1,s_2)) (HD r):=by
 show Run _ _ (kY (c_1,s_2) r) [.code kZ] _
 refine rI 86 [(0,aa c_1),(1,ai s_2)] [] 1 ?_
 unfold wu at h
 refine ck 10 [2,3,9] [] [1,17] [] [.hp 1 0 [] 2 0 0,.hp 17 0 [] 5 0 0,aa c_1] [some ⟨0,2,[aa c_1]⟩,some ⟨0,5,[ai s_2]⟩] 65 (by kernel_rfl) ?_
 obtain⟨r3,hr3,h⟩:=bS h
 refine oq 81 (B r3) rfl (cP (aeN hr3)) ?_
 refine cq 2 [12] [B (!r3)] 113 ?_
 obtain⟨y4,hy4,hy41,hy42⟩:=bJ h
 have j4:∀u4,y4=.inr u4→Run pf 0 (kY (c_1,s_2) r) (.code (cR (cL (cR kZ)))::.code (cR (cR kZ))::[]) (sT 86 [(2,.hp 1 0 [] 2 0 0),(3,.hp 2 0 [] 5 0 0),(38,B u4)] [⟨0,2,[aa c_1]⟩,⟨0,5,[ai s_2]⟩] 3):=by
  intro u4 hu
  replace h:=hy42 u4 hu
  refine sq h ?_ ?_<;>intro h
  ·refine cq 4 [4] [B false] 19 ?_
   obtain rfl:=sI h
   exact rP [B false]
  ·refine aq 1 ?_
   refine cq 3 [39] [aa c_1] 19 ?_
   obtain⟨r5,hr5,h⟩:=bS h
   refine oq 35 (.hs 19 0 [] 1 0 (r5.map str).length) rfl (cP (V9 hr5)) ?_
   refine cq 8 [5,6] [.hs 19 0 [] 1 0 (r5.map str).length,I (0)] 67 ?_
   obtain⟨y9,hy9,hy91,hy92⟩:=bJ h
   refine bM rfl ?_
   refine rf [2,3,5,6] [1,2,19] (PY c_1 s_2 r5 rfl 0 _ hy9 (fun r' e st hq=>by rw[hy91 r' e] at hq;exact hq) fun u9 hu=>?_)
   replace h:=hy92 u9 hu
   refine cq 6 [7] [I (0)] 19 ?_
   obtain⟨y12,hy12,hy121,hy122⟩:=bJ h
   refine bM rfl ?_
   refine rf [2,3,7] [1,2] (PZ c_1 s_2 rfl 0 _ hy12 (fun r' e st hq=>by rw[hy121 r' e] at hq;exact hq) fun u12 hu=>?_)
   replace h:=hy122 u12 hu
   refine cq 6 [8] [I (0)] 18 ?_
   obtain⟨y16,hy16,hy161,hy162⟩:=bJ h
   refine bM rfl ?_
   refine rf [3,8] [1] (P0 c_1 s_2 rfl 0 _ hy16 (fun r' e st hq=>by rw[hy161 r' e] at hq;exact hq) fun u16 hu=>?_)
   replace h:=hy162 u16 hu
   refine cq 4 [83] [.isl false (s_2.Balances.map I)] 34 ?_
   obtain⟨r17,hr17,h⟩:=bS h
   refine oq 50 (I r17) rfl (cP (aeD hr17)) ?_
   refine cq 3 [4] [B (r17==0)] 82 ?_
   obtain rfl:=sI h
   exact rP [B (r17==0)]
 have r4:∀r',y4=.inl r'→∀st,kY (c_1,s_2) r' st→(kY (c_1,s_2) r) st:=fun r' e st hq=>by rw[hy41 r' e] at hq;exact hq
 replace h:=hy4
 refine sp 12 h rfl ?_ ?_<;>intro h
 ·refine cq 27 [38] [B true] 529 ?_
  exact rf [2,3,38] [1,17] (j4 _ (an h) :)
 ·refine cq 2 [14] [I s_2.Day] 145 ?_
  obtain⟨r18,hr18,h⟩:=bS h
  refine oy 161 (B r18) rfl (cP (yj hr18)) ?_
  refine cq 3 [18] [B (!r18)] 209 ?_
  obtain⟨y19,hy19,hy191,hy192⟩:=bL h
  have j19:∀u19,y19=.inr u19→Run pf 0 (kY (c_1,s_2) r) (.code (cR (cL (cR kZ)))::.code (cR (cR kZ))::[]) (sT 86 [(2,.hp 1 0 [] 2 0 0),(3,.hp 2 0 [] 5 0 0),(38,B u19)] [⟨0,2,[aa c_1]⟩,⟨0,5,[ai s_2]⟩] 3):=by
   intro u19 hu
   replace h:=hy192 u19 hu
   exact rf [2,3,38] [1,2] (j4 _ (an h) :)
  have r19:∀r',y19=.inl r'→∀st,kY (c_1,s_2) r' st→(kY (c_1,s_2) r) st:=fun r' e st hq=>r4 r' (hy191 r' e) st hq
  replace h:=hy19
  refine sp 18 h rfl ?_ ?_<;>intro h
  ·refine cq 21 [38] [B true] 529 ?_
   exact rf [2,3,38] [1,17] (j19 _ (an h) :)
  ·refine cq 2 [20] [.isl false (s_2.Facts.map str)] 241 ?_
   obtain⟨r20,hr20,h⟩:=bS h
   refine oy 257 (B r20) rfl (cP (aeG hr20)) ?_
   refine cq 3 [24] [B (!r20)] 305 ?_
   obtain⟨u21,hu21,h⟩:=lJ h
   have j21:Run pf 0 (kY (c_1,s_2) r) (.code (cR (cL (cR kZ)))::.code (cR (cR kZ))::[]) (sT 86 [(2,.hp 1 0 [] 2 0 0),(3,.hp 2 0 [] 5 0 0),(38,B u21)] [⟨0,2,[aa c_1]⟩,⟨0,5,[ai s_2]⟩] 3):=by
    exact rf [2,3,38] [1,2] (j19 _ (an h) :)
   replace h:=hu21
   clear hu21
   refine sp 24 h rfl ?_ ?_<;>intro h
   ·refine cq 15 [38] [B true] 529 ?_
    subst h
    exact rf [2,3,38] [1,17] (j21 :)
   ·refine cq 2 [26] [.isl false (s_2.Duties.map ah)] 337 ?_
    refine oy 353 (I (len s_2.Duties)) rfl (bw rfl rfl rfl (bR rfl)) ?_
    refine cq 3 [30] [B (decide ((len s_2.Duties)>24))] 401 ?_
    obtain⟨u22,hu22,h⟩:=lJ h
    have j22:Run pf 0 (kY (c_1,s_2) r) (.code (cR (cL (cR kZ)))::.code (cR (cR kZ))::[]) (sT 86 [(2,.hp 1 0 [] 2 0 0),(3,.hp 2 0 [] 5 0 0),(38,B u22)] [⟨0,2,[aa c_1]⟩,⟨0,5,[ai s_2]⟩] 3):=by
     subst h
     exact rf [2,3,38] [1,2] (j21 :)
    replace h:=hu22
    clear hu22
    refine sp 30 h rfl ?_ ?_<;>intro h
    ·refine cq 9 [38] [B true] 529 ?_
     subst h
     exact rf [2,3,38] [1,17] (j22 :)
    ·refine cq 2 [32] [.isl false (s_2.Balances.map I)] 433 ?_
     refine oy 449 (I (len s_2.Balances)) rfl (bw rfl rfl rfl (bR rfl)) ?_
     refine cq 2 [35] [.isl false (c_1.Parties.map str)] 481 ?_
     refine oy 497 (I (len c_1.Parties)) rfl (bw rfl rfl rfl (bR rfl)) ?_
     refine cq 3 [38] [B ((len s_2.Balances) != (len c_1.Parties))] 529 ?_
     subst h
     exact rf [2,3,38] [1,17] (j22 :)
theorem Wi {G:cb}:b9 G 75 DL:=gT 2 0 (aN V8 (aN Km (aN Kj (aN Wh (aN VD (aN VG (aN tk (aN VJ bB)))))))) cn Tryz.func75 (fun a r h=>Zq a.1 a.2 r h)
def GG:(State×(List Int)×Int)→List V:=cA bN (cA (gp I) (oA I))
def GI (r:(List Int)):V×List V:=(.usl 1 (r.map I),[])
noncomputable def Dl :=bm [false,false,false] GG GI fun x=>wh x.1 x.2.1 x.2.2
theorem aez {s_1:State}{dQ:List Int}{k_3:Int}{r}(h:wh s_1 dQ k_3=some r):Dl.F (GG (s_1,dQ,k_3))=some (GI r):=aK (aO cw (aO (cr bf) (aL bf))) h
noncomputable def yi :=aI Tryz.f114
noncomputable def GH :=cm []
def M9 (x:State×(List Int)×Int)(r:(List Int)):St→Prop:=QF GH Tryz.f114 [false,false,false] (GG x) (GI r)
theorem PJ (s_1:State)(dQ:List Int)(k_3:Int):cg GH 0 (M9 (s_1,dQ,k_3)) (cL (cL (cL (cR (cR yi))))) 0 (pV s_1 dQ k_3) (fun u=>(sT 45 [(1,.isl false (dQ.map I)),(2,I k_3),(7,I u)] [] 1)) fun x4=>(sT 45 [(1,.isl false (dQ.map I)),(2,I k_3),(3,.hp 1 0 [] 5 0 0),(7,I x4)] [⟨0,5,[ai s_1]⟩] 2):=ef (Be s_1 dQ k_3) fun {Q K} hK self ih x4 y h hr hn=>by
 unfold l5 at h
 refine aq 2 ?_
 refine d7 [0,1,3,7,15,7,7,71,231,487,1023,2047,4095,7,8199,7,57351,122887,253959,524287,1048575] rfl (by decide +kernel) ?_
 refine dk 3 [12,11,10] [B (decide (x4>0)),B (decide (x4>0)),I x4] ?_
 obtain⟨y5,hy5,hy51,hy52⟩:=bL h
 have j5:∀u5,y5=.inr u5→Run GH 0 Q (.code (cR (cL (cL (cL (cL (cR (cR yi)))))))::.code (cR (cL (cL (cL (cR (cR yi))))))::.lp (cL (cL (cL (cR (cR yi)))))::.blk 0::K) (sT 45 [(1,.isl false (dQ.map I)),(2,I k_3),(3,.hp 1 0 [] 5 0 0),(7,I x4),(30,B u5)] [⟨0,5,[ai s_1]⟩] 2):=by
  intro u5 hu
  replace h:=hy52 u5 hu
  refine sq h ?_ ?_<;>intro h
  ·refine aq 1 ?_
   refine cq 7 [7] [I (ac (x4 - 1))] 50 ?_
   refine cX ?_
   exact rf [1,2,3,7] [1] (ih _ _ h hr hn :)
  ·refine aq 1 ?_
   exact rf [1,2,7] [] (hn _ (an h) :) (hk:=hK)
 have r5:∀r',y5=.inl r'→∀st,M9 (s_1,dQ,k_3) r' st→Q st:=fun r' e st hq=>hr r' (hy51 r' e) st hq
 replace h:=hy5
 refine sp 12 h rfl ?_ ?_<;>intro h
 ·refine dy [1] [] (.hp 1 0 [] 5 0 2) rfl (ay rfl rfl rfl) ?_
  refine dy [1] [] (.isl false (s_1.Duties.map ah)) rfl (aU rfl rfl) ?_
  refine dk 3 [17,16,15] [I (ac (x4 - 1)),I x4,.isl false (dQ.map I)] ?_
  obtain⟨e6,he6,h⟩:=bS h
  refine dy [] [] (.iptr (I e6) 0) rfl (al rfl rfl rfl (bn rfl rfl rfl rfl he6)) ?_
  refine dy [] [] (I e6) rfl (aU rfl rfl) ?_
  obtain⟨e7,he7,h⟩:=bS h
  refine dy [] [] (.iptr (ah e7) 0) rfl (al rfl rfl rfl (bn rfl rfl rfl rfl he7)) ?_
  refine dy [] [] (.iptr (ah e7) 2) rfl (ay rfl rfl rfl) ?_
  refine dy [] [] (I e7.Due) rfl (aU rfl rfl) ?_
  refine dy [1] [] (.hp 1 0 [] 5 0 2) rfl (ay rfl rfl rfl) ?_
  refine dy [1] [] (.isl false (s_1.Duties.map ah)) rfl (aU rfl rfl) ?_
  refine dk 1 [25] [I k_3] ?_
  obtain⟨e8,he8,h⟩:=bS h
  refine dy [] [] (.iptr (ah e8) 0) rfl (al rfl rfl rfl (bn rfl rfl rfl rfl he8)) ?_
  refine dy [] [] (.iptr (ah e8) 2) rfl (ay rfl rfl rfl) ?_
  refine dy [] [] (I e8.Due) rfl (aU rfl rfl) ?_
  refine dk 2 [30,29] [B (decide (e7.Due>e8.Due)),B (decide (e7.Due>e8.Due))] ?_
  refine de 338 rfl rfl ?_
  exact rf [1,2,3,7,30] [1] (j5 _ (an h) :)
 ·refine dk 18 [30,29,28,27,26,25,24,23,22,21,20,19,18,17,16,15,14,13] [B false,.und,.und,.und,.und,.und,.und,.und,.und,.und,.und,.und,.und,.und,.und,.und,.und,.und] ?_
  refine de 338 rfl rfl ?_
  exact rf [1,2,3,7,30] [1] (j5 _ (an h) :)
theorem Y1 (s_1:State)(dQ:List Int)(k_3:Int)(r:(List Int))(h:wh s_1 dQ k_3=some r):bx GH Tryz.f114 [false,false,false] 0 (GG (s_1,dQ,k_3)) (GI r):=by
 show Run _ _ (M9 (s_1,dQ,k_3) r) [.code yi] _
 refine rI 45 [(0,ai s_1),(1,.isl false (dQ.map I)),(2,I k_3)] [] 1 ?_
 unfold wh at h
 refine ck 8 [3,8] [] [1] [] [.hp 1 0 [] 5 0 0,.isl false (dQ.map I)] [some ⟨0,5,[ai s_1]⟩] 49 (by kernel_rfl) ?_
 refine oq 65 (I (len dQ)) rfl (bw rfl rfl rfl (bR rfl)) ?_
 refine cq 4 [7] [I (len dQ)] 81 ?_
 obtain⟨y9,hy9,hy91,hy92⟩:=bJ h
 refine bM rfl ?_
 refine rf [1,2,3,7] [1] (PJ s_1 dQ k_3 rfl (len dQ) _ hy9 (fun r' e st hq=>by rw[hy91 r' e] at hq;exact hq) fun u9 hu=>?_)
 replace h:=hy92 u9 hu
 refine aq 1 ?_
 refine d7 [0,0,0,6,15,0,32,127,0,0,768,2047,4095] rfl (by decide +kernel) ?_
 refine dq [] [] (.hs 1 0 [] 1 0 0) rfl (eH rfl (kH (f:=I) (xs:=[]) (z:=I (0)) (es:=[]) (ws:=[]) rfl rfl rfl (by decide) rfl (dX rfl) rfl)) ?_
 refine dk 2 [35,34] [I u9,.isl false (dQ.map I)] ?_
 obtain⟨s10,hs10,h⟩:=bS h
 refine dq [] [] (.isl false (s10.map I)) rfl (iG rfl rfl rfl rfl (zw rfl rfl (fun y=>(qb y).1) rfl rfl hs10)) ?_
 obtain⟨a11,ha11,h⟩:=bS h
 refine dq [1] [1] (.hs 65 0 [] 1 0 (a11.map I).length) rfl (jH rfl rfl rfl rfl rfl (np (path:=[]) (es0:=[]) (f:=I) (xs:=([]:List Int)) (ys:=s10) rfl rfl OU rfl rfl rfl rfl rfl (by decide) qb ha11 rfl ro)) ?_
 refine dk 1 [38] [I k_3] ?_
 refine dq [] [] (.hs 97 0 [] 1 0 1) rfl (eH rfl (kH (f:=I) (xs:=[]) (z:=I (0)) (es:=[I k_3]) (ws:=[I k_3]) rfl rfl rfl (by decide) rfl (dX rfl) rfl)) ?_
 obtain⟨a12,ha12,h⟩:=bS h
 refine dq [65,97] [65] (.hs 113 0 [] 1 0 (a12.map I).length) rfl (jH rfl rfl rfl rfl rfl (np (path:=[]) (f:=I) (xs:=a11) (ys:=[k_3]) rfl rfl (sf rfl rfl rfl) rfl rfl rfl aF rfl (by decide) qb ha12 rfl ro)) ?_ (I3 rfl (H9 (path:=[]) (f:=I) (xs:=[k_3]) rfl rfl aF ae1 rfl))
 refine dk 2 [42,41] [I u9,.isl false (dQ.map I)] ?_
 obtain⟨s13,hs13,h⟩:=bS h
 refine dq [] [] (.isl false (s13.map I)) rfl (iG rfl rfl rfl rfl (zw rfl rfl (fun y=>(qb y).1) rfl rfl hs13)) ?_
 obtain⟨a14,ha14,h⟩:=bS h
 refine dq [113] [113] (.hs 177 0 [] 1 0 (a14.map I).length) rfl (jH rfl rfl rfl rfl rfl (np (path:=[]) (f:=I) (xs:=a12) (ys:=s13) rfl rfl OU rfl rfl rfl aF rfl (by decide) qb ha14 rfl ro)) ?_
 refine dk 1 [6] [.hs 177 0 [] 1 0 (a14.map I).length] ?_
 refine de 209 rfl rfl ?_
 obtain rfl:=sI h
 exact ca rfl ⟨_,fin (vs:=[.hs 177 0 [] 1 0 (a14.map I).length]) rfl (eU (gi rfl (dx rfl rfl)) d3) rfl (cz (cz (cz eP))),eI⟩
theorem VB {G:cb}:b9 G 114 Dl:=gT 3 0 bB cn Tryz.func114 (fun a r h=>Y1 a.1 a.2.1 a.2.2 r h)
def GD:(Contract×State×Int×Int)→List V:=cA aV (cA bN (cA I (oA I)))
def GE (r:(List Int)):V×List V:=(.usl 1 (r.map I),[])
noncomputable def Dk :=bm [false,false,false,false] GD GE fun x=>Dj x.1 x.2.1 x.2.2.1 x.2.2.2
theorem aey {c_1:Contract}{s_2:State}{eb:Int}{fu:Int}{r}(h:Dj c_1 s_2 eb fu=some r):Dk.F (GD (c_1,s_2,eb,fu))=some (GE r):=aK (aO bv (aO cw (aO bf (aL bf)))) h
noncomputable def Vz :=aI Tryz.f67
noncomputable abbrev mL :=cL (cL (cR (cL (cR (cR Vz)))))
noncomputable abbrev rX :=cR (cR mL)
noncomputable abbrev vd :=cR (cR (cL (cL (cR mL))))
noncomputable def pd :=cm [(114,Dl)]
def M8 (x:Contract×State×Int×Int)(r:(List Int)):St→Prop:=QF pd Tryz.f67 [false,false,false,false] (GD x) (GE r)
theorem PI (c_1:Contract)(s_2:State)(eb:Int)(fu:Int):cg pd 0 (M8 (c_1,s_2,eb,fu)) mL 0 (lm c_1 s_2 eb fu) (fun u=>(sT 62 [(9,.hs 1 0 [] 1 0 (u.map I).length)] [⟨0,1,u.map I⟩] 2)) fun x5=>(sT 62 [(2,I eb),(3,I fu),(4,.hp 1 0 [] 2 0 0),(5,.hp 2 0 [] 5 0 0),(9,.hs 3 0 [] 1 0 (x5.2.map I).length),(10,I x5.1)] [⟨0,2,[aa c_1]⟩,⟨0,5,[ai s_2]⟩,⟨0,1,x5.2.map I⟩] 4):=ef (Bd c_1 s_2 eb fu) fun {Q K} hK self ih x5 y h hr hn=>by
 unfold l4 at h
 refine cq 6 [13,15] [I x5.1,.isl false (s_2.Duties.map ah)] 52 ?_
 refine oq 68 (I (len s_2.Duties)) rfl (bw rfl rfl rfl (bR rfl)) ?_
 refine cq 2 [17] [B (decide (x5.1<(len s_2.Duties)))] 84 ?_
 refine sq h ?_ ?_<;>intro h
 ·refine aq 1 ?_
  refine aq 3 ?_
  refine d7 [0,1,0,4,0,28,60,124,255,511,0,2047] rfl (by decide +kernel) ?_
  refine dq [1] [] (.hp 1 0 [] 2 0 1) rfl (ay rfl rfl rfl) ?_
  refine dq [1] [] (.isl false (c_1.Clauses.map au)) rfl (aU rfl rfl) ?_
  refine dq [2] [] (.hp 2 0 [] 5 0 2) rfl (ay rfl rfl rfl) ?_
  refine dq [2] [] (.isl false (s_2.Duties.map ah)) rfl (aU rfl rfl) ?_
  refine dk 1 [24] [I x5.1] ?_
  obtain⟨e6,he6,h⟩:=bS h
  refine dq [] [] (.iptr (ah e6) 0) rfl (al rfl rfl rfl (bn rfl rfl rfl rfl he6)) ?_
  refine dq [] [] (.iptr (ah e6) 0) rfl (ay rfl rfl rfl) ?_
  refine dq [] [] (I e6.Clause) rfl (aU rfl rfl) ?_
  obtain⟨e7,he7,h⟩:=bS h
  refine dq [] [] (.iptr (aB e7) 0) rfl (al rfl rfl rfl (bn rfl rfl rfl rfl he7)) ?_
  refine dq [] [] (aB e7) rfl (aU rfl rfl) ?_
  refine dq [] [] (.hp 244 0 [] 12 0 0) rfl (Z1 (z:=.agg [str ([]),I (0),I (0),str ([]),I (0),I (0),I (0),str ([]),I (0),.isl true [],I (0),str ([])]) rfl rfl rfl) ?_
  refine dz [244] [244] rfl (et rfl rfl (dF (path:=[]) (pl:=true) (e':=aB e7) (es2':=[aB e7]) rfl (ba rfl) rfl rfl rfl aF rfl rfl rfl rfl rfl cJ 0 rfl)) ?_
  refine de 276 rfl rfl ?_
  refine cq 5 [31,32] [.isl false (s_2.Duties.map ah),I x5.1] 324 ?_
  obtain⟨e8,he8,h⟩:=bS h
  refine oq 340 (.iptr (ah e8) 0) rfl (al rfl rfl rfl (bn rfl rfl rfl rfl he8)) ?_
  refine cq 4 [37] [B (e8.Status==1)] 404 ?_
  obtain⟨u9,hu9,h⟩:=lJ h
  have j9:Run pd 0 Q (.code vd::.blk 1::.code rX::.lp mL::.blk 0::K) (sT 62 [(2,I eb),(3,I fu),(4,.hp 1 0 [] 2 0 0),(5,.hp 2 0 [] 5 0 0),(9,.hs 3 0 [] 1 0 (x5.2.map I).length),(10,I x5.1),(56,B u9)] [⟨0,2,[aa c_1]⟩,⟨0,5,[ai s_2]⟩,⟨0,1,x5.2.map I⟩] 4):=by
   obtain⟨y10,hy10,hy101,hy102⟩:=bL h
   have j10:∀u10,y10=.inr u10→Run pd 0 Q (.blk 1::.code rX::.lp mL::.blk 0::K) (sT 62 [(2,I eb),(3,I fu),(4,.hp 1 0 [] 2 0 0),(5,.hp 2 0 [] 5 0 0),(9,.hs 3 0 [] 1 0 (u10.map I).length),(10,I x5.1)] [⟨0,2,[aa c_1]⟩,⟨0,5,[ai s_2]⟩,⟨0,1,u10.map I⟩] 4):=by
    intro u10 hu
    replace h:=hy102 u10 hu
    refine cq 6 [10] [I (ac (x5.1+1))] 52 ?_
    refine cX ?_
    exact rf [2,3,4,5,9,10] [1,2,3] (ih _ _ h hr hn :)
   have r10:∀r',y10=.inl r'→∀st,M8 (c_1,s_2,eb,fu) r' st→Q st:=fun r' e st hq=>hr r' (hy101 r' e) st hq
   replace h:=hy10
   refine sq h ?_ ?_<;>intro h
   ·refine cq 4 [57,58,59] [ai s_2,.hs 3 0 [] 1 0 (x5.2.map I).length,I x5.1] 52 ?_
    obtain⟨r11,hr11,h⟩:=bS h
    refine oq 68 (.hs 52 0 [] 1 0 (r11.map I).length) rfl (bK rfl rfl (b8 rfl rfl rfl (bg (bW rfl) (bg (zu rfl rfl (dM (f:=I) (g:=I) (xs:=x5.2) rfl rfl (bT ji))) (bg (bW rfl) dj))) (aez hr11) (.inl (by simp[cS,dD,str,kL (f:=I) qP])) dK rfl rfl rfl)) ?_
    refine cq 2 [9] [.hs 52 0 [] 1 0 (r11.map I).length] 84 ?_
    exact rf [2,3,4,5,9,10] [1,2,52] (j10 _ (an h) :)
   ·refine aq 1 ?_
    exact rf [2,3,4,5,9,10] [1,2,3] (j10 _ (an h) :)
  replace h:=hu9
  clear hu9
  refine sp 37 h rfl ?_ ?_<;>intro h
  ·refine cq 3 [40] [B (decide (eb<0))] 452 ?_
   obtain⟨u12,hu12,h⟩:=lJ h
   have j12:Run pd 0 Q (.code vd::.blk 1::.code rX::.lp mL::.blk 0::K) (sT 62 [(2,I eb),(3,I fu),(4,.hp 1 0 [] 2 0 0),(5,.hp 2 0 [] 5 0 0),(9,.hs 3 0 [] 1 0 (x5.2.map I).length),(10,I x5.1),(56,B u12)] [⟨0,2,[aa c_1]⟩,⟨0,5,[ai s_2]⟩,⟨0,1,x5.2.map I⟩] 4):=by
    subst h
    exact rf [2,3,4,5,9,10,56] [1,2,3] (j9 :)
   replace h:=hu12
   clear hu12
   refine sp 40 h rfl ?_ ?_<;>intro h
   ·refine cq 10 [47,50] [B true,B (decide (fu<0))] 612 ?_
    obtain⟨u13,hu13,h⟩:=lJ h
    have j13:Run pd 0 Q (.code vd::.blk 1::.code rX::.lp mL::.blk 0::K) (sT 62 [(2,I eb),(3,I fu),(4,.hp 1 0 [] 2 0 0),(5,.hp 2 0 [] 5 0 0),(9,.hs 3 0 [] 1 0 (x5.2.map I).length),(10,I x5.1),(56,B u13)] [⟨0,2,[aa c_1]⟩,⟨0,5,[ai s_2]⟩,⟨0,1,x5.2.map I⟩] 4):=by
     subst h
     exact rf [2,3,4,5,9,10,56] [1,2,3] (j12 :)
    replace h:=hu13
    clear hu13
    refine sp 50 h rfl ?_ ?_<;>intro h
    ·refine cq 7 [56] [B true] 708 ?_
     subst h
     exact rf [2,3,4,5,9,10,56] [1,2,3] (j13 :)
    ·refine cq 7 [56] [B (e7.Other==fu)] 708 ?_
     subst h
     exact rf [2,3,4,5,9,10,56] [1,2,3] (j13 :)
   ·refine cq 7 [47] [B (e7.Party==eb)] 564 ?_
    obtain⟨u14,hu14,h⟩:=lJ h
    have j14:Run pd 0 Q (.code vd::.blk 1::.code rX::.lp mL::.blk 0::K) (sT 62 [(2,I eb),(3,I fu),(4,.hp 1 0 [] 2 0 0),(5,.hp 2 0 [] 5 0 0),(9,.hs 3 0 [] 1 0 (x5.2.map I).length),(10,I x5.1),(56,B u14)] [⟨0,2,[aa c_1]⟩,⟨0,5,[ai s_2]⟩,⟨0,1,x5.2.map I⟩] 4):=by
     subst h
     exact rf [2,3,4,5,9,10,56] [1,2,3] (j12 :)
    replace h:=hu14
    clear hu14
    refine sp 47 h rfl ?_ ?_<;>intro h
    ·refine cq 3 [50] [B (decide (fu<0))] 612 ?_
     obtain⟨u15,hu15,h⟩:=lJ h
     have j15:Run pd 0 Q (.code vd::.blk 1::.code rX::.lp mL::.blk 0::K) (sT 62 [(2,I eb),(3,I fu),(4,.hp 1 0 [] 2 0 0),(5,.hp 2 0 [] 5 0 0),(9,.hs 3 0 [] 1 0 (x5.2.map I).length),(10,I x5.1),(56,B u15)] [⟨0,2,[aa c_1]⟩,⟨0,5,[ai s_2]⟩,⟨0,1,x5.2.map I⟩] 4):=by
      subst h
      exact rf [2,3,4,5,9,10,56] [1,2,3] (j14 :)
     replace h:=hu15
     clear hu15
     refine sp 50 h rfl ?_ ?_<;>intro h
     ·refine cq 7 [56] [B true] 708 ?_
      subst h
      exact rf [2,3,4,5,9,10,56] [1,2,3] (j15 :)
     ·refine cq 7 [56] [B (e7.Other==fu)] 708 ?_
      subst h
      exact rf [2,3,4,5,9,10,56] [1,2,3] (j15 :)
    ·refine cq 10 [56] [B false] 708 ?_
     subst h
     exact rf [2,3,4,5,9,10,56] [1,2,3] (j14 :)
  ·refine cq 20 [56] [B false] 708 ?_
   subst h
   exact rf [2,3,4,5,9,10,56] [1,2,3] (j9 :)
 ·refine aq 1 ?_
  exact rf [9] [3] (hn _ (an h) :) (hk:=hK)
theorem Y0 (c_1:Contract)(s_2:State)(eb:Int)(fu:Int)(r:(List Int))(h:Dj c_1 s_2 eb fu=some r):bx pd Tryz.f67 [false,false,false,false] 0 (GD (c_1,s_2,eb,fu)) (GE r):=by
 show Run _ _ (M8 (c_1,s_2,eb,fu) r) [.code Vz] _
 refine rI 62 [(0,aa c_1),(1,ai s_2),(2,I eb),(3,I fu)] [] 1 ?_
 unfold Dj at h
 refine ck 8 [4,5] [] [1,17] [] [.hp 1 0 [] 2 0 0,.hp 17 0 [] 5 0 0] [some ⟨0,2,[aa c_1]⟩,some ⟨0,5,[ai s_2]⟩] 49 (by kernel_rfl) ?_
 refine oq 65 (.hs 49 0 [] 1 0 0) rfl (eH rfl (kH (f:=I) (xs:=[]) (z:=I (0)) (es:=[]) (ws:=[]) rfl rfl rfl (by decide) rfl (dX rfl) rfl)) ?_
 refine cq 8 [9,10] [.hs 49 0 [] 1 0 0,I (0)] 97 ?_
 obtain⟨y16,hy16,hy161,hy162⟩:=bJ h
 refine bM rfl ?_
 refine rf [2,3,4,5,9,10] [1,17,49] (PI c_1 s_2 eb fu rfl (0,[]) _ hy16 (fun r' e st hq=>by rw[hy161 r' e] at hq;exact hq) fun u16 hu=>?_)
 replace h:=hy162 u16 hu
 refine cq 5 [8] [.hs 1 0 [] 1 0 (u16.map I).length] 34 ?_
 obtain rfl:=sI h
 exact ca rfl ⟨_,fin (vs:=[.hs 1 0 [] 1 0 (u16.map I).length]) rfl (eU (gi rfl (dx rfl rfl)) d3) rfl (cz (cz (cz (cz eP)))),eI⟩
theorem VA {G:cb}:b9 G 67 Dk:=gT 4 0 (aN VB bB) cn Tryz.func67 (fun a r h=>Y0 a.1 a.2.1 a.2.2.1 a.2.2.2 r h)
def Gz:(Contract×State×Int)→List V:=cA aV (cA bN (oA I))
def GA (r:(List Int)×Bool):V×List V:=(.tup [.usl 1 (r.1.map I),B r.2],[])
noncomputable def Di :=bm [false,false,false] Gz GA fun x=>Dh x.1 x.2.1 x.2.2
theorem Vx {c_1:Contract}{s_2:State}{dB:Int}{r}(h:Dh c_1 s_2 dB=some r):Di.F (Gz (c_1,s_2,dB))=some (GA r):=aK (aO bv (aO cw (aL bf))) h
noncomputable def GB :=aI Tryz.f35
noncomputable abbrev Jn :=cL (cL (cR (cL (cR (cR (cR (cR GB)))))))
noncomputable def yh :=cm [(75,DL),(67,Dk),(76,pX)]
def vc (x:Contract×State×Int)(r:(List Int)×Bool):St→Prop:=QF yh Tryz.f35 [false,false,false] (Gz x) (GA r)
theorem PH (c_1:Contract)(s_2:State)(dB:Int)(r6:(List Int)):cg yh 0 (vc (c_1,s_2,dB)) Jn 0 (mK c_1 s_2 dB r6) (fun u=>(sT 50 [(8,.hs 1 0 [] 1 0 (u.map I).length)] [⟨0,1,u.map I⟩] 2)) fun x7=>(sT 50 [(2,I dB),(4,.hp 1 0 [] 5 0 0),(8,.hs 2 0 [] 1 0 (x7.2.map I).length),(9,.hs 3 0 [] 1 0 (r6.map I).length),(10,I x7.1)] [⟨0,5,[ai s_2]⟩,⟨0,1,x7.2.map I⟩,⟨0,1,r6.map I⟩] 4):=ef (Bc c_1 s_2 dB r6) fun {Q K} hK self ih x7 y h hr hn=>by
 unfold l3 at h
 refine cq 5 [25,26] [I x7.1,.hs 3 0 [] 1 0 (r6.map I).length] 36 ?_
 refine oq 52 (I (len r6)) rfl (bw rfl rfl rfl (mW (f:=I) (xs:=r6) rfl rfl)) ?_
 refine cq 2 [28] [B (decide (x7.1<(len r6)))] 68 ?_
 refine sq h ?_ ?_<;>intro h
 ·refine aq 1 ?_
  refine aq 3 ?_
  refine d7 [0,1,0,0,12,28,63,127,255,0,1023] rfl (by decide +kernel) ?_
  refine dq [1] [] (.hp 1 0 [] 5 0 2) rfl (ay rfl rfl rfl) ?_
  refine dq [1] [] (.isl false (s_2.Duties.map ah)) rfl (aU rfl rfl) ?_
  refine dk 2 [34,33] [I x7.1,.hs 3 0 [] 1 0 (r6.map I).length] ?_
  obtain⟨e8,he8,h⟩:=bS h
  refine dq [3] [] (.hp 3 0 [] 1 (0+Int.toNat x7.1) 0) rfl (al rfl rfl rfl (ce (f:=I) (xs:=r6) rfl rfl rfl he8)) ?_
  refine dq [3] [] (I e8) rfl (aU rfl (fU (path:=[]) rfl rfl rfl aF (bO (f:=I) (xs:=r6) he8) rfl rfl rfl)) ?_
  obtain⟨e9,he9,h⟩:=bS h
  refine dq [] [] (.iptr (ah e9) 0) rfl (al rfl rfl rfl (bn rfl rfl rfl rfl he9)) ?_
  refine dq [] [] (.iptr (ah e9) 2) rfl (ay rfl rfl rfl) ?_
  refine dq [] [] (I e9.Due) rfl (aU rfl rfl) ?_
  refine dk 2 [41,40] [B (decide (e9.Due<dB)),I dB] ?_
  refine de 244 rfl rfl ?_
  obtain⟨y10,hy10,hy101,hy102⟩:=bL h
  have j10:∀u10,y10=.inr u10→Run yh 0 Q (.blk 1::.code (cR (cR Jn))::.lp Jn::.blk 0::K) (sT 50 [(2,I dB),(4,.hp 1 0 [] 5 0 0),(8,.hs 2 0 [] 1 0 (u10.map I).length),(9,.hs 3 0 [] 1 0 (r6.map I).length),(10,I x7.1)] [⟨0,5,[ai s_2]⟩,⟨0,1,u10.map I⟩,⟨0,1,r6.map I⟩] 4):=by
   intro u10 hu
   replace h:=hy102 u10 hu
   refine cq 6 [10] [I (ac (x7.1+1))] 52 ?_
   refine cX ?_
   exact rf [2,4,8,9,10] [1,2,3] (ih _ _ h hr hn :)
  have r10:∀r',y10=.inl r'→∀st,vc (c_1,s_2,dB) r' st→Q st:=fun r' e st hq=>hr r' (hy101 r' e) st hq
  replace h:=hy10
  refine sq h ?_ ?_<;>intro h
  ·refine cq 4 [42,43,44] [.hs 2 0 [] 1 0 (x7.2.map I).length,.hs 3 0 [] 1 0 (r6.map I).length,I x7.1] 292 ?_
   obtain⟨e11,he11,h⟩:=bS h
   refine oq 308 (.hp 3 0 [] 1 (0+Int.toNat x7.1) 0) rfl (al rfl rfl rfl (ce (f:=I) (xs:=r6) rfl rfl rfl he11)) ?_
   refine oq 324 (I e11) rfl (aU rfl (fU (path:=[]) rfl rfl rfl aF (bO (f:=I) (xs:=r6) he11) rfl rfl rfl)) ?_
   refine oq 340 (.hs 324 0 [] 1 0 1) rfl (eH rfl (kH (f:=I) (xs:=[]) (z:=I (0)) (es:=[I e11]) (ws:=[I e11]) rfl rfl rfl (by decide) rfl (dX rfl) rfl)) ?_
   obtain⟨a12,ha12,h⟩:=bS h
   refine oq 356 (.hs 340 0 [] 1 0 (a12.map I).length) rfl (jH rfl rfl rfl rfl rfl (np (path:=[]) (f:=I) (xs:=x7.2) (ys:=[e11]) rfl rfl (sf rfl rfl rfl) rfl rfl rfl aF rfl (by decide) qb ha12 rfl ro)) ?_
   refine cq 2 [8] [.hs 340 0 [] 1 0 (a12.map I).length] 372 ?_
   exact rf [2,4,8,9,10] [1,340,3] (j10 _ (an h) :)
  ·refine aq 1 ?_
   exact rf [2,4,8,9,10] [1,2,3] (j10 _ (an h) :)
 ·refine aq 1 ?_
  exact rf [8] [2] (hn _ (an h) :) (hk:=hK)
theorem YZ (c_1:Contract)(s_2:State)(dB:Int)(r:(List Int)×Bool)(h:Dh c_1 s_2 dB=some r):bx yh Tryz.f35 [false,false,false] 0 (Gz (c_1,s_2,dB)) (GA r):=by
 show Run _ _ (vc (c_1,s_2,dB) r) [.code GB] _
 refine rI 50 [(0,aa c_1),(1,ai s_2),(2,I dB)] [] 1 ?_
 unfold Dh at h
 refine ck 9 [3,4] [] [1,17] [] [.hp 1 0 [] 2 0 0,.hp 17 0 [] 5 0 0] [some ⟨0,2,[aa c_1]⟩,some ⟨0,5,[ai s_2]⟩] 65 (by kernel_rfl) ?_
 refine oq 81 (.hs 65 0 [] 1 0 0) rfl (eH rfl (kH (f:=I) (xs:=[]) (z:=I (0)) (es:=[]) (ws:=[]) rfl rfl rfl (by decide) rfl (dX rfl) rfl)) ?_
 refine cq 7 [8,12,13] [.hs 65 0 [] 1 0 0,aa c_1,ai s_2] 129 ?_
 obtain⟨r4,hr4,h⟩:=bS h
 refine oq 145 (B r4) rfl (cP (aeR hr4)) ?_
 refine cq 2 [16] [B (!r4)] 177 ?_
 obtain⟨y5,hy5,hy51,hy52⟩:=bJ h
 have j5:∀u5,y5=.inr u5→Run yh 0 (vc (c_1,s_2,dB) r) (.code (cR (cL (cR (cR GB))))::.code (cR (cR (cR GB)))::[]) (sT 50 [(2,I dB),(3,.hp 1 0 [] 2 0 0),(4,.hp 2 0 [] 5 0 0),(8,.hs 3 0 [] 1 0 0),(20,B u5)] [⟨0,2,[aa c_1]⟩,⟨0,5,[ai s_2]⟩,⟨0,1,[]⟩] 4):=by
  intro u5 hu
  replace h:=hy52 u5 hu
  refine sq h ?_ ?_<;>intro h
  ·refine cq 6 [6,7] [.hs 3 0 [] 1 0 0,B false] 52 ?_
   obtain rfl:=sI h
   exact ca rfl ⟨_,fin (vs:=[.hs 3 0 [] 1 0 0,B false]) rfl (eU (gi rfl (dx (k:=0) (es:=[]) rfl rfl)) (eU (ba rfl) d3)) rfl (cz (cz (cz eP))),eI⟩
  ·refine aq 1 ?_
   refine cq 4 [22,23] [aa c_1,ai s_2] 36 ?_
   obtain⟨r6,hr6,h⟩:=bS h
   refine oq 52 (.hs 36 0 [] 1 0 (r6.map I).length) rfl (cP (aey hr6)) ?_
   refine cq 8 [9,10] [.hs 36 0 [] 1 0 (r6.map I).length,I (0)] 84 ?_
   obtain⟨y13,hy13,hy131,hy132⟩:=bJ h
   refine bM rfl ?_
   refine rf [2,4,8,9,10] [2,3,36] (PH c_1 s_2 dB r6 rfl (0,[]) _ hy13 (fun r' e st hq=>by rw[hy131 r' e] at hq;exact hq) fun u13 hu=>?_)
   replace h:=hy132 u13 hu
   refine cq 6 [6,7] [.hs 1 0 [] 1 0 (u13.map I).length,B true] 50 ?_
   obtain rfl:=sI h
   exact ca rfl ⟨_,fin (vs:=[.hs 1 0 [] 1 0 (u13.map I).length,B true]) rfl (eU (gi rfl (dx rfl rfl)) (eU (ba rfl) d3)) rfl (cz (cz (cz eP))),eI⟩
 have r5:∀r',y5=.inl r'→∀st,vc (c_1,s_2,dB) r' st→(vc (c_1,s_2,dB) r) st:=fun r' e st hq=>by rw[hy51 r' e] at hq;exact hq
 replace h:=hy5
 refine sp 16 h rfl ?_ ?_<;>intro h
 ·refine cq 5 [20] [B true] 241 ?_
  exact rf [2,3,4,8,20] [1,17,65] (j5 _ (an h) :)
 ·refine cq 1 [17] [I dB] 193 ?_
  obtain⟨r14,hr14,h⟩:=bS h
  refine oy 209 (B r14) rfl (cP (yj hr14)) ?_
  refine cq 3 [20] [B (!r14)] 241 ?_
  exact rf [2,3,4,8,20] [1,17,65] (j5 _ (an h) :)
theorem Vy {G:cb}:b9 G 35 Di:=gT 3 0 (aN Wi (aN VA (aN tk bB))) cn Tryz.func35 (fun a r h=>YZ a.1 a.2.1 a.2.2 r h)
def Es:(Int×Int×Int)→List V:=cA I (cA I (oA I))
def Et (r:Bool):V×List V:=(B r,[])
noncomputable def jF :=bm [false,false,false] Es Et fun x=>jE x.1 x.2.1 x.2.2
theorem jq {n_1:Int}{pB:Int}{mq:Int}{r}(h:jE n_1 pB mq=some r):jF.F (Es (n_1,pB,mq))=some (Et r):=aK (aO bf (aO bf (aL bf))) h
noncomputable def S6 :=aI Tryz.f99
noncomputable def Mq :=cm []
def S5 (x:Int×Int×Int)(r:Bool):St→Prop:=QF Mq Tryz.f99 [false,false,false] (Es x) (Et r)
theorem XU (n_1:Int)(pB:Int)(mq:Int)(r:Bool)(h:jE n_1 pB mq=some r):bx Mq Tryz.f99 [false,false,false] 0 (Es (n_1,pB,mq)) (Et r):=by
 show Run _ _ (S5 (n_1,pB,mq) r) [.code S6] _
 refine rI 15 [(0,I n_1),(1,I pB),(2,I mq)] [] 1 ?_
 unfold jE at h
 refine cq 10 [10] [B (decide (n_1≥pB))] 81 ?_
 obtain⟨u4,hu4,h⟩:=lJ h
 have j4:Run Mq 0 (S5 (n_1,pB,mq) r) (.code (cR (cR S6))::[]) (sT 15 [(6,B u4)] [] 1):=by
  obtain rfl:=sI h
  exact rP [B u4]
 replace h:=hu4
 clear hu4
 refine sp 10 h rfl ?_ ?_<;>intro h
 ·refine cq 6 [6] [B (decide (n_1≤mq))] 161 ?_
  subst h
  exact rf [6] [] (j4 :)
 ·refine cq 6 [6] [B false] 161 ?_
  subst h
  exact rf [6] [] (j4 :)
theorem kt {G:cb}:b9 G 99 jF:=gT 3 0 bB cn Tryz.func99 (fun a r h=>XU a.1 a.2.1 a.2.2 r h)
noncomputable def kX:Ent:=⟨[false,false],wG (qx str) (qx (V.int .u8)) fun s c=>some (I ((Lib.countByte s c.toNat.toUInt8:Nat):Int),[])⟩
theorem J9 {s:ae}{c r:Int}(h:zA s c=some r):kX.F [str s,.int .u8 c]=some (I r,[]):=by
 cases h
 simp only[kX,wG,Ih bP,Ih XM,Option.bind_some]
theorem Ka:Extern.findNext Tryz.f199=none:=by kernel_rfl
theorem Kb:Extern.find Tryz.f199=some Extern.BytealgCount.count:=by kernel_rfl
theorem Am {G:cb}:b9 G 199 kX:=QP (g:=fun s c=>((Lib.countByte s c.toNat.toUInt8:Nat):Int)) Tryz.func199 rfl (by decide) Ka Kb fun s c w=>Lib.run_countString s c w
noncomputable def i6:Ent:=⟨[false,false],wG (qx str) (qx (V.int .u8)) fun s c=>some (I (Lib.indexByte s c.toNat.toUInt8),[])⟩
theorem zB {s:ae}{c r:Int}(h:sZ s c=some r):i6.F [str s,.int .u8 c]=some (I r,[]):=by
 cases h
 simp only[i6,wG,Ih bP,Ih XM,Option.bind_some]
theorem zC:Extern.findNext Tryz.f232=none:=by kernel_rfl
theorem zD:Extern.find Tryz.f232=some Extern.BytealgIndexByte.indexByte:=by kernel_rfl
theorem vT {G:cb}:b9 G 232 i6:=QP (g:=fun s c=>Lib.indexByte s c.toNat.toUInt8) Tryz.func232 rfl (by decide) zC zD fun s c w=>Lib.run_indexByteString s c w
def Ew:(ae×Int)→List V:=cA str (oA (V.int .u8))
def Ex (r:Int):V×List V:=(I r,[])
noncomputable def B6 :=bm [false,false] Ew Ex fun x=>Mu x.1 x.2
theorem ac6 {s_1:ae}{c_2:Int}{r}(h:Mu s_1 c_2=some r):B6.F (Ew (s_1,c_2))=some (Ex r):=aK (aO bP (aL (OY (k:=.u8)))) h
noncomputable def ac8 :=aI Tryz.f218
noncomputable def S9 :=cm [(232,i6)]
def ac7 (x:ae×Int)(r:Int):St→Prop:=QF S9 Tryz.f218 [false,false] (Ew x) (Ex r)
theorem XW (s_1:ae)(c_2:Int)(r:Int)(h:Mu s_1 c_2=some r):bx S9 Tryz.f218 [false,false] 0 (Ew (s_1,c_2)) (Ex r):=by
 show Run _ _ (ac7 (s_1,c_2) r) [.code ac8] _
 refine rI 8 [(0,str s_1),(1,.int .u8 c_2)] [] 1 ?_
 unfold Mu at h
 refine cq 8 [5,6] [str s_1,.int .u8 c_2] 49 ?_
 obtain⟨r3,hr3,h⟩:=bS h
 refine oq 65 (I r3) rfl (cP (zB hr3)) ?_
 refine cq 2 [4] [I r3] 81 ?_
 obtain rfl:=sI h
 exact rP [I r3]
theorem Ta {G:cb}:b9 G 218 B6:=gT 2 0 (aN vT bB) cn Tryz.func218 (fun a r h=>XW a.1 a.2 r h)
def Eu:(ae×ae)→List V:=cA str (oA str)
def Ev (r:Int):V×List V:=(I r,[])
noncomputable def B5 :=bm [false,false] Eu Ev fun x=>Mr x.1 x.2
theorem ac5 {s_1:ae}{bp:ae}{r}(h:Mr s_1 bp=some r):B5.F (Eu (s_1,bp))=some (Ev r):=aK (aO bP (aL bP)) h
noncomputable def Mt :=aI Tryz.f200
noncomputable def Ms :=cm [(218,B6)]
def S7 (x:ae×ae)(r:Int):St→Prop:=QF Ms Tryz.f200 [false,false] (Eu x) (Ev r)
theorem XV (s_1:ae)(bp:ae)(r:Int)(h:Mr s_1 bp=some r):bx Ms Tryz.f200 [false,false] 0 (Eu (s_1,bp)) (Ev r):=by
 show Run _ _ (S7 (s_1,bp) r) [.code Mt] _
 refine rI 143 [(0,str s_1),(1,str bp)] [] 1 ?_
 unfold Mr at h
 refine cq 17 [5,19] [I (len bp),B ((len bp)==0)] 113 ?_
 obtain⟨u3,hu3,h⟩:=lJ h
 have j3:Run Ms 0 (S7 (s_1,bp) r) (.code (cR (cL (cL (cR (cR Mt)))))::.blk 0::.code (cR (cR (cR Mt)))::[]) (sT 143 [(0,str s_1),(1,str bp),(5,I (len bp)),(16,B u3)] [] 1):=by
  refine sq h ?_ ?_<;>intro h
  ·refine cq 4 [4] [I (0)] 17 ?_
   obtain rfl:=sI h
   exact rP [I (0)]
  ·refine cq 6 [24] [B ((len bp)==1)] 49 ?_
   refine sq h ?_ ?_<;>intro h
   ·refine cq 4 [27,28] [str s_1,str bp] 81 ?_
    obtain⟨c4,hc4,h⟩:=bS h
    refine oq 97 (.int .u8 (c4.toNat:Int)) rfl (oT rfl rfl (tE rfl rfl hc4)) ?_
    obtain⟨r5,hr5,h⟩:=bS h
    refine oq 113 (I r5) rfl (cP (ac6 hr5)) ?_
    refine cq 2 [4] [I r5] 129 ?_
    obtain rfl:=sI h
    exact rP [I r5]
   ·refine cq 8 [31] [B (decide ((len bp)≥(len s_1)))] 129 ?_
    refine sq h ?_ ?_<;>intro h
    ·refine cq 4 [4] [I (-1)] 145 ?_
     obtain rfl:=sI h
     exact rP [I (-1)]
    ·cases h
 replace h:=hu3
 clear hu3
 refine sp 19 h rfl ?_ ?_<;>intro h
 ·refine cq 6 [16] [B true] 193 ?_
  subst h
  exact rf [0,1,5,16] [] (j3 :)
 ·refine cq 6 [16] [B (bp==s_1)] 193 ?_
  subst h
  exact rf [0,1,5,16] [] (j3 :)
theorem S8 {G:cb}:b9 G 200 B5:=gT 2 0 (aN Ta bB) cn Tryz.func200 (fun a r h=>XV a.1 a.2 r h)
def HH:(ae×ae)→List V:=cA str (oA str)
def HI (r:Int):V×List V:=(I r,[])
noncomputable def wv :=bm [false,false] HH HI fun x=>Jr x.1 x.2
theorem Wo {s_1:ae}{bp:ae}{r}(h:Jr s_1 bp=some r):wv.F (HH (s_1,bp))=some (HI r):=aK (aO bP (aL bP)) h
noncomputable def aeU :=aI Tryz.f188
noncomputable def Wn :=cm [(200,B5)]
def aeT (x:ae×ae)(r:Int):St→Prop:=QF Wn Tryz.f188 [false,false] (HH x) (HI r)
theorem Zs (s_1:ae)(bp:ae)(r:Int)(h:Jr s_1 bp=some r):bx Wn Tryz.f188 [false,false] 0 (HH (s_1,bp)) (HI r):=by
 show Run _ _ (aeT (s_1,bp) r) [.code aeU] _
 refine rI 8 [(0,str s_1),(1,str bp)] [] 1 ?_
 unfold Jr at h
 refine cq 8 [5,6] [str s_1,str bp] 49 ?_
 obtain⟨r3,hr3,h⟩:=bS h
 refine oq 65 (I r3) rfl (cP (ac5 hr3)) ?_
 refine cq 2 [4] [I r3] 81 ?_
 obtain rfl:=sI h
 exact rP [I r3]
theorem Kn {G:cb}:b9 G 188 wv:=gT 2 0 (aN S8 bB) cn Tryz.func188 (fun a r h=>Zs a.1 a.2 r h)
def HF:(ae×ae)→List V:=cA str (oA str)
def HG (r:Int):V×List V:=(I r,[])
noncomputable def DM :=bm [false,false] HF HG fun x=>Ns x.1 x.2
theorem aeS {s_1:ae}{bp:ae}{r}(h:Ns s_1 bp=some r):DM.F (HF (s_1,bp))=some (HG r):=aK (aO bP (aL bP)) h
noncomputable def Wl :=aI Tryz.f187
noncomputable def Nt :=cm [(199,kX),(188,wv)]
def Wj (x:ae×ae)(r:Int):St→Prop:=QF Nt Tryz.f187 [false,false] (HF x) (HG r)
theorem P2 (s_1:ae)(bp:ae):cg Nt 0 (Wj (s_1,bp)) (cL (cL (cR (cR (cR (cR Wl)))))) 0 (Qy s_1 bp) (fun u=>(sT 34 [] [] 1)) fun x5=>(sT 34 [(0,str x5.1),(1,str bp),(5,I x5.2)] [] 1):=ef (P1 s_1 bp) fun {Q K} hK self ih x5 y h hr hn=>by
 unfold tq at h
 refine cq 5 [20,21] [str x5.1,str bp] 33 ?_
 obtain⟨r6,hr6,h⟩:=bS h
 refine oq 49 (I r6) rfl (cP (Wo hr6)) ?_
 refine cq 8 [6,24] [I r6,B (r6==(-1))] 97 ?_
 refine sq h ?_ ?_<;>intro h
 ·refine cq 5 [4] [I x5.2] 129 ?_
  exact ca rfl (hr _ (an h) _ (qp [I x5.2]))
 ·refine aq 1 ?_
  refine cq 12 [5,28,32] [I (ac (x5.2+1)),str x5.1,I (ac (r6+(len bp)))] 225 ?_
  obtain⟨s7,hs7,h⟩:=bS h
  refine oq 241 (str s7) rfl (iG rfl rfl rfl rfl (OP rfl rfl rfl hs7)) ?_
  refine cq 3 [0] [str s7] 257 ?_
  refine cX ?_
  exact rf [0,1,5] [] (ih _ _ h hr hn :)
theorem Zr (s_1:ae)(bp:ae)(r:Int)(h:Ns s_1 bp=some r):bx Nt Tryz.f187 [false,false] 0 (HF (s_1,bp)) (HG r):=by
 show Run _ _ (Wj (s_1,bp) r) [.code Wl] _
 refine rI 34 [(0,str s_1),(1,str bp)] [] 1 ?_
 unfold Ns at h
 refine cq 11 [9] [B ((len bp)==0)] 65 ?_
 refine sq h ?_ ?_<;>intro h
 ·cases h
 ·refine aq 1 ?_
  refine cq 7 [15] [B ((len bp)==1)] 113 ?_
  refine sq h ?_ ?_<;>intro h
  ·refine cq 4 [16,17] [str s_1,str bp] 145 ?_
   obtain⟨c3,hc3,h⟩:=bS h
   refine oq 161 (.int .u8 (c3.toNat:Int)) rfl (oT rfl rfl (tE rfl rfl hc3)) ?_
   obtain⟨r4,hr4,h⟩:=bS h
   refine oq 177 (I r4) rfl (cP (J9 hr4)) ?_
   refine cq 2 [4] [I r4] 193 ?_
   obtain rfl:=sI h
   exact rP [I r4]
  ·refine aq 1 ?_
   refine cq 5 [5] [I (0)] 129 ?_
   obtain⟨y8,hy8,hy81,hy82⟩:=bJ h
   refine bM rfl ?_
   refine rf [0,1,5] [] (P2 s_1 bp rfl (s_1,0) _ hy8 (fun r' e st hq=>by rw[hy81 r' e] at hq;exact hq) fun u8 hu=>?_)
   replace h:=hy82 u8 hu
   cases h
theorem Wm {G:cb}:b9 G 187 DM:=gT 2 0 (aN Am (aN Kn bB)) cn Tryz.func187 (fun a r h=>Zr a.1 a.2 r h)
def HL:(ae×ae×Int×Int)→List V:=cA str (cA str (cA I (oA I)))
def HN (r:(List ae)):V×List V:=(.usl 1 (r.map str),[])
noncomputable def DQ :=bm [false,false,false,false] HL HN fun x=>Nu x.1 x.2.1 x.2.2.1 x.2.2.2
theorem aeY {s_1:ae}{ed:ae}{dS:Int}{n_4:Int}{r}(h:Nu s_1 ed dS n_4=some r):DQ.F (HL (s_1,ed,dS,n_4))=some (HN r):=aK (aO bP (aO bP (aO bf (aL bf)))) h
noncomputable def Nv :=aI Tryz.f166
noncomputable abbrev abJ :=cL (cL (cL (cR (cR (cR (cR (cR (cR (cR (cR Nv))))))))))
noncomputable def HM :=cm [(188,wv),(187,DM)]
def yH (x:ae×ae×Int×Int)(r:(List ae)):St→Prop:=QF HM Tryz.f166 [false,false,false,false] (HL x) (HN r)
theorem P3 (s_1:ae)(ed:ae)(dS:Int)(n_4:Int)(u5:Int):cg HM 0 (yH (s_1,ed,dS,n_4)) abJ 0 (zK s_1 ed dS n_4 u5) (fun u=>(sT 66 [(0,str u.1),(9,.hs 1 0 [] 1 0 (u.2.2.map str).length),(10,I u.2.1)] [⟨0,1,u.2.2.map str⟩] 2)) fun x7=>(sT 66 [(0,str x7.1),(1,str ed),(2,I dS),(3,I (ac ((if (ac ((len s_1)+1))<u5 then (ac ((len s_1)+1)) else u5) - 1))),(9,.hs 1 0 [] 1 0 (x7.2.2.map str).length),(10,I x7.2.1)] [⟨0,1,x7.2.2.map str⟩] 2):=ef (Bw s_1 ed dS n_4 u5) fun {Q K} hK self ih x7 y h hr hn=>by
 unfold tt at h
 refine cq 7 [36] [B (decide (x7.2.1<(ac ((if (ac ((len s_1)+1))<u5 then (ac ((len s_1)+1)) else u5) - 1))))] 50 ?_
 refine sq h ?_ ?_<;>intro h
 ·refine aq 1 ?_
  refine cq 5 [37,38] [str x7.1,str ed] 82 ?_
  obtain⟨r8,hr8,h⟩:=bS h
  refine oq 98 (I r8) rfl (cP (Wo hr8)) ?_
  refine cq 8 [11,41] [I r8,B (decide (r8<0))] 146 ?_
  refine sq h ?_ ?_<;>intro h
  ·refine aq 1 ?_
   exact rf [0,9,10] [1] (hn _ (an h) :) (hk:=hK)
  ·refine aq 1 ?_
   refine cq 8 [42,43,44,47] [.hs 1 0 [] 1 0 (x7.2.2.map str).length,I x7.2.1,str x7.1,I (ac (r8+dS))] 242 ?_
   obtain⟨s9,hs9,h⟩:=bS h
   refine oq 258 (str s9) rfl (iG rfl rfl rfl rfl (OP rfl rfl rfl hs9)) ?_
   obtain⟨e10,he10,h⟩:=bS h
   refine oq 274 (.hp 1 0 [] 1 (0+Int.toNat x7.2.1) 0) rfl (al rfl rfl rfl (ce (f:=str) (xs:=x7.2.2) rfl rfl rfl he10)) ?_
   refine o0 290 rfl rfl (et rfl rfl (dF (path:=[]) (pl:=true) (e':=str s9) (es2':=(bI x7.2.2 x7.2.1 s9).map str) rfl (ba rfl) rfl rfl rfl aF (bO (f:=str) (xs:=x7.2.2) he10) rfl rfl rfl (gB (f:=str) (xs:=x7.2.2) (y:=s9)) cJ 0 rfl)) ?_
   try rw[←fK (f:=str) (xs:=x7.2.2) (i:=x7.2.1) (z:=s9)]
   refine cq 8 [50,54] [str x7.1,I (ac (r8+(len ed)))] 370 ?_
   obtain⟨s11,hs11,h⟩:=bS h
   refine oq 386 (str s11) rfl (iG rfl rfl rfl rfl (OP rfl rfl rfl hs11)) ?_
   refine cq 8 [0,10] [str s11,I (ac (x7.2.1+1))] 450 ?_
   refine cX ?_
   exact rf [0,1,2,3,9,10] [1] (ih _ _ h hr hn :)
 ·refine aq 1 ?_
  exact rf [0,9,10] [1] (hn _ (an h) :) (hk:=hK)
theorem Zu (s_1:ae)(ed:ae)(dS:Int)(n_4:Int)(r:(List ae))(h:Nu s_1 ed dS n_4=some r):bx HM Tryz.f166 [false,false,false,false] 0 (HL (s_1,ed,dS,n_4)) (HN r):=by
 show Run _ _ (yH (s_1,ed,dS,n_4) r) [.code Nv] _
 refine rI 66 [(0,str s_1),(1,str ed),(2,I dS),(3,I n_4)] [] 1 ?_
 unfold Nu at h
 refine cq 10 [13] [B (n_4==0)] 49 ?_
 refine sq h ?_ ?_<;>intro h
 ·refine cq 4 [8] [.isl true []] 65 ?_
  refine Q5 8 0 1 81 (.hs 65 0 [] 1 0 0) rfl rfl rfl rfl rfl ?_
  obtain rfl:=sI h
  exact ca rfl ⟨_,fin (vs:=[.hs 65 0 [] 1 0 0]) rfl (eU (gi rfl (dx (k:=0) (es:=[]) rfl rfl)) d3) rfl (cz (cz (cz (cz eP)))),eI⟩
 ·refine aq 1 ?_
  refine cq 6 [15] [B (ed==([]:ae))] 81 ?_
  refine sq h ?_ ?_<;>intro h
  ·cases h
  ·refine aq 1 ?_
   refine cq 6 [20] [B (decide (n_4<0))] 113 ?_
   obtain⟨y5,hy5,hy51,hy52⟩:=bJ h
   have j5:∀u5,y5=.inr u5→Run HM 0 (yH (s_1,ed,dS,n_4) r) (.code (cR (cR (cR (cR Nv))))::[]) (sT 66 [(0,str s_1),(1,str ed),(2,I dS),(3,I u5)] [] 1):=by
    intro u5 hu
    replace h:=hy52 u5 hu
    refine cq 12 [3,30] [I (if (ac ((len s_1)+1))<u5 then (ac ((len s_1)+1)) else u5),I (if (ac ((len s_1)+1))<u5 then (ac ((len s_1)+1)) else u5)] 113 ?_
    obtain⟨m6,hm6,h⟩:=bS h
    refine oq 129 (.hs 113 0 [] 1 0 (m6.map str).length) rfl (lu rfl rfl (Ix (f:=str) rfl rfl rfl (by decide) hm6 rfl)) ?_
    refine cq 14 [3,9,10] [I (ac ((if (ac ((len s_1)+1))<u5 then (ac ((len s_1)+1)) else u5) - 1)),.hs 113 0 [] 1 0 (m6.map str).length,I (0)] 209 ?_
    obtain⟨y12,hy12,hy121,hy122⟩:=bJ h
    refine bM rfl ?_
    refine rf [0,1,2,3,9,10] [113] (P3 s_1 ed dS n_4 u5 rfl (s_1,0,m6) _ hy12 (fun r' e st hq=>by rw[hy121 r' e] at hq;exact hq) fun u12 hu=>?_)
    replace h:=hy122 u12 hu
    refine cq 5 [58,59,60] [.hs 1 0 [] 1 0 (u12.2.2.map str).length,I u12.2.1,str u12.1] 50 ?_
    obtain⟨e13,he13,h⟩:=bS h
    refine oq 66 (.hp 1 0 [] 1 (0+Int.toNat u12.2.1) 0) rfl (al rfl rfl rfl (ce (f:=str) (xs:=u12.2.2) rfl rfl rfl he13)) ?_
    refine o0 82 rfl rfl (et rfl rfl (dF (path:=[]) (pl:=true) (e':=str u12.1) (es2':=(bI u12.2.2 u12.2.1 u12.1).map str) rfl (ba rfl) rfl rfl rfl aF (bO (f:=str) (xs:=u12.2.2) he13) rfl rfl rfl (gB (f:=str) (xs:=u12.2.2) (y:=u12.1)) cJ 0 rfl)) ?_
    try rw[←fK (f:=str) (xs:=u12.2.2) (i:=u12.2.1) (z:=u12.1)]
    refine cq 6 [62,64] [.hs 1 0 [] 1 0 ((bI u12.2.2 u12.2.1 u12.1).map str).length,I (ac (u12.2.1+1))] 130 ?_
    obtain⟨s14,hs14,h⟩:=bS h
    refine oq 146 (.hs 1 0 [] 1 (0+Int.toNat (0)) (Int.toNat (ac (u12.2.1+1)) - Int.toNat (0))) rfl (iG rfl rfl rfl rfl (vQ (f:=str) (xs:=(bI u12.2.2 u12.2.1 u12.1)) rfl rfl rfl rfl rfl hs14)) ?_
    refine cq 2 [8] [.hs 1 0 [] 1 (0+Int.toNat (0)) (Int.toNat (ac (u12.2.1+1)) - Int.toNat (0))] 162 ?_
    obtain⟨p15,hp15,h⟩:=bS h
    obtain rfl:=sI h
    exact ca rfl ⟨_,fin (vs:=[.hs 1 0 [] 1 (0+Int.toNat (0)) (Int.toNat (ac (u12.2.1+1)) - Int.toNat (0))]) rfl (eU (gi rfl (WB (path:=[]) (f:=str) (xs:=(bI u12.2.2 u12.2.1 u12.1)) rfl rfl aF hp15 rfl ro)) d3) rfl (cz (cz (cz (cz eP)))),eI⟩
   have r5:∀r',y5=.inl r'→∀st,yH (s_1,ed,dS,n_4) r' st→(yH (s_1,ed,dS,n_4) r) st:=fun r' e st hq=>by rw[hy51 r' e] at hq;exact hq
   replace h:=hy5
   refine sq h ?_ ?_<;>intro h
   ·refine cq 3 [21,22] [str s_1,str ed] 145 ?_
    obtain⟨r16,hr16,h⟩:=bS h
    refine oq 161 (I r16) rfl (cP (aeS hr16)) ?_
    refine cq 3 [3] [I (ac (r16+1))] 193 ?_
    exact rf [0,1,2,3] [] (j5 _ (an h) :)
   ·refine aq 1 ?_
    exact rf [0,1,2,3] [] (j5 _ (an h) :)
theorem Wr {G:cb}:b9 G 166 DQ:=gT 4 0 (aN Kn (aN Wm bB)) cn Tryz.func166 (fun a r h=>Zu a.1 a.2.1 a.2.2.1 a.2.2.2 r h)
def HJ:(ae×ae)→List V:=cA str (oA str)
def HK (r:(List ae)):V×List V:=(.usl 1 (r.map str),[])
noncomputable def DP :=bm [false,false] HJ HK fun x=>DN x.1 x.2
theorem aeV {s_1:ae}{ed:ae}{r}(h:DN s_1 ed=some r):DP.F (HJ (s_1,ed))=some (HK r):=aK (aO bP (aL bP)) h
noncomputable def aeX :=aI Tryz.f130
noncomputable def Wp :=cm [(166,DQ)]
def aeW (x:ae×ae)(r:(List ae)):St→Prop:=QF Wp Tryz.f130 [false,false] (HJ x) (HK r)
theorem Zt (s_1:ae)(ed:ae)(r:(List ae))(h:DN s_1 ed=some r):bx Wp Tryz.f130 [false,false] 0 (HJ (s_1,ed)) (HK r):=by
 show Run _ _ (aeW (s_1,ed) r) [.code aeX] _
 refine rI 8 [(0,str s_1),(1,str ed)] [] 1 ?_
 unfold DN at h
 refine cq 8 [5,6] [str s_1,str ed] 49 ?_
 obtain⟨r3,hr3,h⟩:=bS h
 refine oq 65 (.hs 49 0 [] 1 0 (r3.map str).length) rfl (cP (aeY hr3)) ?_
 refine cq 2 [4] [.hs 49 0 [] 1 0 (r3.map str).length] 81 ?_
 obtain rfl:=sI h
 exact ca rfl ⟨_,fin (vs:=[.hs 49 0 [] 1 0 (r3.map str).length]) rfl (eU (gi rfl (dx rfl rfl)) d3) rfl (cz (cz eP)),eI⟩
theorem Wq {G:cb}:b9 G 130 DP:=gT 2 0 (aN Wr bB) cn Tryz.func130 (fun a r h=>Zt a.1 a.2 r h)
def Gd:((List ae)×ae)→List V:=cA (gp str) (oA str)
def Ge (r:Int):V×List V:=(I r,[])
noncomputable def C9 :=bm [false,false] Gd Ge fun x=>C8 x.1 x.2
theorem aes {s_1:List ae}{v_2:ae}{r}(h:C8 s_1 v_2=some r):C9.F (Gd (s_1,v_2))=some (Ge r):=aK (aO (cr bP) (aL bP)) h
noncomputable def Vk :=aI Tryz.f165
noncomputable def M1 :=cm []
def Vj (x:(List ae)×ae)(r:Int):St→Prop:=QF M1 Tryz.f165 [false,false] (Gd x) (Ge r)
theorem Pu (s_1:List ae)(v_2:ae):cg M1 0 (Vj (s_1,v_2)) (cL (cL (cR (cL (cR Vk))))) 0 (rU s_1 v_2) (fun u=>(sT 19 [] [] 1)) fun x3=>(sT 19 [(0,.isl false (s_1.map str)),(1,str v_2),(7,I (len s_1)),(8,I x3)] [] 1):=ef (AU s_1 v_2) fun {Q K} hK self ih x3 y h hr hn=>by
 unfold lY at h
 refine cq 5 [9] [B (decide (x3<(len s_1)))] 17 ?_
 refine sq h ?_ ?_<;>intro h
 ·refine aq 1 ?_
  refine cq 12 [5,11,12,13] [I x3,str v_2,.isl false (s_1.map str),I x3] 97 ?_
  obtain⟨e4,he4,h⟩:=bS h
  refine oq 113 (.iptr (str e4) 0) rfl (al rfl rfl rfl (bn rfl rfl rfl rfl he4)) ?_
  refine cq 3 [16] [B (v_2==e4)] 145 ?_
  refine sq h ?_ ?_<;>intro h
  ·refine cq 5 [4] [I x3] 177 ?_
   exact ca rfl (hr _ (an h) _ (qp [I x3]))
  ·refine aq 1 ?_
   refine cq 5 [8] [I (ac (x3+1))] 177 ?_
   refine cX ?_
   exact rf [0,1,7,8] [] (ih _ _ h hr hn :)
 ·refine aq 1 ?_
  exact rf [] [] (hn _ (an h) :) (hk:=hK)
theorem YR (s_1:List ae)(v_2:ae)(r:Int)(h:C8 s_1 v_2=some r):bx M1 Tryz.f165 [false,false] 0 (Gd (s_1,v_2)) (Ge r):=by
 show Run _ _ (Vj (s_1,v_2) r) [.code Vk] _
 refine rI 19 [(0,.isl false (s_1.map str)),(1,str v_2)] [] 1 ?_
 unfold C8 at h
 refine cq 8 [6] [.isl false (s_1.map str)] 33 ?_
 refine oq 49 (I (len s_1)) rfl (bw rfl rfl rfl (bR rfl)) ?_
 refine cq 3 [8] [I (0)] 65 ?_
 obtain⟨y5,hy5,hy51,hy52⟩:=bJ h
 refine bM rfl ?_
 refine rf [0,1,7,8] [] (Pu s_1 v_2 rfl 0 _ hy5 (fun r' e st hq=>by rw[hy51 r' e] at hq;exact hq) fun u5 hu=>?_)
 replace h:=hy52 u5 hu
 refine cq 4 [4] [I (-1)] 17 ?_
 obtain rfl:=sI h
 exact rP [I (-1)]
theorem Vl {G:cb}:b9 G 165 C9:=gT 2 0 bB cn Tryz.func165 (fun a r h=>YR a.1 a.2 r h)
def F1:((List ae)×ae)→List V:=cA (gp str) (oA str)
def F2 (r:Bool):V×List V:=(B r,[])
noncomputable def sn :=bm [false,false] F1 F2 fun x=>sk x.1 x.2
theorem MV {s_1:List ae}{v_2:ae}{r}(h:sk s_1 v_2=some r):sn.F (F1 (s_1,v_2))=some (F2 r):=aK (aO (cr bP) (aL bP)) h
noncomputable def aem :=aI Tryz.f129
noncomputable def U3 :=cm [(165,C9)]
def ael (x:(List ae)×ae)(r:Bool):St→Prop:=QF U3 Tryz.f129 [false,false] (F1 x) (F2 r)
theorem YL (s_1:List ae)(v_2:ae)(r:Bool)(h:sk s_1 v_2=some r):bx U3 Tryz.f129 [false,false] 0 (F1 (s_1,v_2)) (F2 r):=by
 show Run _ _ (ael (s_1,v_2) r) [.code aem] _
 refine rI 9 [(0,.isl false (s_1.map str)),(1,str v_2)] [] 1 ?_
 unfold sk at h
 refine cq 8 [5,6] [.isl false (s_1.map str),str v_2] 49 ?_
 obtain⟨r3,hr3,h⟩:=bS h
 refine oq 65 (I r3) rfl (cP (aes hr3)) ?_
 refine cq 3 [4] [B (decide (r3≥0))] 97 ?_
 obtain rfl:=sI h
 exact rP [B (decide (r3≥0))]
theorem xY {G:cb}:b9 G 129 sn:=gT 2 0 (aN Vl bB) cn Tryz.func129 (fun a r h=>YL a.1 a.2 r h)
def Lv:ae→List V:=oA str
def Lw (r:Bool):V×List V:=(B r,[])
noncomputable def rZ :=bm [false] Lv Lw fun x=>xj x
theorem G5 {s_1:ae}{r}(h:xj s_1=some r):rZ.F (Lv s_1)=some (Lw r):=aK (aL bP) h
noncomputable def zH :=aI Tryz.f81
noncomputable abbrev sw :=cL (cL (cR (cL (cR (cR zH)))))
noncomputable abbrev G6 :=cR (cR (cR sw))
noncomputable abbrev G7 :=cR (cR (cR (cL (cL (cR (cR sw))))))
noncomputable def rx :=cm [(99,jF),(130,DP),(129,sn)]
def tp (x:ae)(r:Bool):St→Prop:=QF rx Tryz.f81 [false] (Lv x) (Lw r)
theorem RC (s_1:ae):cg rx 0 (tp s_1) sw 0 (yu s_1) (fun u=>(sT 46 [(0,str s_1)] [] 1)) fun x4=>(sT 46 [(0,str s_1),(20,I (len s_1)),(21,I x4)] [] 1):=ef (G8 s_1) fun {Q K} hK self ih x4 y h hr hn=>by
 unfold pZ at h
 refine cq 5 [22] [B (decide (x4<(len s_1)))] 17 ?_
 refine sq h ?_ ?_<;>intro h
 ·refine aq 1 ?_
  refine cq 11 [24,25] [str s_1,I x4] 81 ?_
  obtain⟨c5,hc5,h⟩:=bS h
  refine oq 97 (.int .u8 (c5.toNat:Int)) rfl (oT rfl rfl (tE rfl rfl hc5)) ?_
  refine cq 7 [4,29] [.int .u8 (c5.toNat:Int),B (decide ((c5.toNat:Int)<97))] 161 ?_
  obtain⟨u6,hu6,h⟩:=lJ h
  have j6:Run rx 0 Q (.code G7::.blk 1::.code G6::.lp sw::.blk 0::K) (sT 46 [(0,str s_1),(20,I (len s_1)),(21,I x4),(40,B u6)] [] 1):=by
   refine sq h ?_ ?_<;>intro h
   ·refine cq 4 [2] [B false] 17 ?_
    exact ca rfl (hr _ (an h) _ (qp [B false]))
   ·refine aq 1 ?_
    refine cq 5 [21] [I (ac (x4+1))] 33 ?_
    refine cX ?_
    exact rf [0,20,21] [] (ih _ _ h hr hn :)
  replace h:=hu6
  clear hu6
  refine sp 29 h rfl ?_ ?_<;>intro h
  ·refine cq 7 [33,36] [B true,B (decide ((c5.toNat:Int)<48))] 273 ?_
   obtain⟨u7,hu7,h⟩:=lJ h
   have j7:Run rx 0 Q (.code G7::.blk 1::.code G6::.lp sw::.blk 0::K) (sT 46 [(0,str s_1),(20,I (len s_1)),(21,I x4),(40,B u7)] [] 1):=by
    subst h
    exact rf [0,20,21,40] [] (j6 :)
   replace h:=hu7
   clear hu7
   refine sp 36 h rfl ?_ ?_<;>intro h
   ·refine cq 5 [40] [B true] 337 ?_
    subst h
    exact rf [0,20,21,40] [] (j7 :)
   ·refine cq 5 [40] [B (decide ((c5.toNat:Int)>57))] 337 ?_
    subst h
    exact rf [0,20,21,40] [] (j7 :)
  ·refine cq 4 [33] [B (decide ((c5.toNat:Int)>122))] 225 ?_
   obtain⟨u8,hu8,h⟩:=lJ h
   have j8:Run rx 0 Q (.code G7::.blk 1::.code G6::.lp sw::.blk 0::K) (sT 46 [(0,str s_1),(20,I (len s_1)),(21,I x4),(40,B u8)] [] 1):=by
    subst h
    exact rf [0,20,21,40] [] (j6 :)
   replace h:=hu8
   clear hu8
   refine sp 33 h rfl ?_ ?_<;>intro h
   ·refine cq 3 [36] [B (decide ((c5.toNat:Int)<48))] 273 ?_
    obtain⟨u9,hu9,h⟩:=lJ h
    have j9:Run rx 0 Q (.code G7::.blk 1::.code G6::.lp sw::.blk 0::K) (sT 46 [(0,str s_1),(20,I (len s_1)),(21,I x4),(40,B u9)] [] 1):=by
     subst h
     exact rf [0,20,21,40] [] (j8 :)
    replace h:=hu9
    clear hu9
    refine sp 36 h rfl ?_ ?_<;>intro h
    ·refine cq 5 [40] [B true] 337 ?_
     subst h
     exact rf [0,20,21,40] [] (j9 :)
    ·refine cq 5 [40] [B (decide ((c5.toNat:Int)>57))] 337 ?_
     subst h
     exact rf [0,20,21,40] [] (j9 :)
   ·refine cq 8 [40] [B false] 337 ?_
    subst h
    exact rf [0,20,21,40] [] (j8 :)
 ·refine aq 1 ?_
  exact rf [0] [] (hn _ (an h) :) (hk:=hK)
theorem abH (s_1:ae)(r:Bool)(h:xj s_1=some r):bx rx Tryz.f81 [false] 0 (Lv s_1) (Lw r):=by
 show Run _ _ (tp s_1 r) [.code zH] _
 refine rI 46 [(0,str s_1)] [] 1 ?_
 unfold xj at h
 refine cq 9 [6] [I (len s_1)] 49 ?_
 obtain⟨r2,hr2,h⟩:=bS h
 refine oq 65 (B r2) rfl (cP (jq hr2)) ?_
 refine cq 2 [9] [B (!r2)] 97 ?_
 obtain⟨y3,hy3,hy31,hy32⟩:=bJ h
 have j3:∀u3,y3=.inr u3→Run rx 0 (tp s_1 r) (.code (cR (cL (cR zH)))::.code (cR (cR zH))::[]) (sT 46 [(0,str s_1),(18,B u3)] [] 1):=by
  intro u3 hu
  replace h:=hy32 u3 hu
  refine sq h ?_ ?_<;>intro h
  ·refine cq 4 [2] [B false] 17 ?_
   obtain rfl:=sI h
   exact rP [B false]
  ·refine aq 1 ?_
   refine cq 8 [20,21] [I (len s_1),I (0)] 49 ?_
   obtain⟨y10,hy10,hy101,hy102⟩:=bJ h
   refine bM rfl ?_
   refine rf [0,20,21] [] (RC s_1 rfl 0 _ hy10 (fun r' e st hq=>by rw[hy101 r' e] at hq;exact hq) fun u10 hu=>?_)
   replace h:=hy102 u10 hu
   refine aq 2 ?_
   obtain⟨r11,hr11,h⟩:=bS h
   refine oq 17 (.hs 1 0 [] 1 0 (r11.map str).length) rfl (cP (aeV hr11)) ?_
   refine cq 1 [43] [str s_1] 33 ?_
   obtain⟨r12,hr12,h⟩:=bS h
   refine oq 49 (B r12) rfl (bK rfl rfl (b8 rfl rfl rfl (bg (zu rfl rfl (dM (f:=str) (g:=str) (xs:=r11) rfl rfl (bT fI))) (bg (bW rfl) dj)) (MV hr12) (.inl rfl) dK rfl rfl rfl)) ?_
   refine cq 3 [2] [B (!r12)] 81 ?_
   obtain rfl:=sI h
   exact rP [B (!r12)]
 have r3:∀r',y3=.inl r'→∀st,tp s_1 r' st→(tp s_1 r) st:=fun r' e st hq=>by rw[hy31 r' e] at hq;exact hq
 replace h:=hy3
 refine sp 9 h rfl ?_ ?_<;>intro h
 ·refine cq 10 [18] [B true] 241 ?_
  exact rf [0,18] [] (j3 _ (an h) :)
 ·refine cq 1 [10] [str s_1] 113 ?_
  obtain⟨c13,hc13,h⟩:=bS h
  refine oy 129 (.int .u8 (c13.toNat:Int)) rfl (oT rfl rfl (tE rfl rfl hc13)) ?_
  refine cq 3 [14] [B (decide ((c13.toNat:Int)<97))] 177 ?_
  obtain⟨y14,hy14,hy141,hy142⟩:=bL h
  have j14:∀u14,y14=.inr u14→Run rx 0 (tp s_1 r) (.code (cR (cL (cR zH)))::.code (cR (cR zH))::[]) (sT 46 [(0,str s_1),(18,B u14)] [] 1):=by
   intro u14 hu
   replace h:=hy142 u14 hu
   exact rf [0,18] [] (j3 _ (an h) :)
  have r14:∀r',y14=.inl r'→∀st,tp s_1 r' st→(tp s_1 r) st:=fun r' e st hq=>r3 r' (hy141 r' e) st hq
  replace h:=hy14
  refine sp 14 h rfl ?_ ?_<;>intro h
  ·refine cq 5 [18] [B true] 241 ?_
   exact rf [0,18] [] (j14 _ (an h) :)
  ·refine cq 1 [15] [str s_1] 193 ?_
   obtain⟨c15,hc15,h⟩:=bS h
   refine oy 209 (.int .u8 (c15.toNat:Int)) rfl (oT rfl rfl (tE rfl rfl hc15)) ?_
   refine cq 3 [18] [B (decide ((c15.toNat:Int)>122))] 241 ?_
   exact rf [0,18] [] (j14 _ (an h) :)
theorem wn {G:cb}:b9 G 81 rZ:=gT 1 0 (aN kt (aN Wq (aN xY bB))) cn Tryz.func81 (fun a r h=>abH a r h)
def LG:(List ae)→List V:=oA (gp str)
def LI (r:Bool):V×List V:=(B r,[])
noncomputable def Jw :=bm [false] LG LI fun x=>Nw x
theorem afN {az:List ae}{r}(h:Nw az=some r):Jw.F (LG az)=some (LI r):=aK (aL (cr bP)) h
noncomputable def HS :=aI Tryz.f98
noncomputable def LH :=cm [(81,rZ),(129,sn),(99,jF)]
def RN (x:(List ae))(r:Bool):St→Prop:=QF LH Tryz.f98 [false] (LG x) (LI r)
theorem RO (az:List ae):cg LH 0 (RN az) (cL (cL (cR (cL (cR HS))))) 0 (yI az) (fun u=>(sT 26 [(0,.isl false (az.map str))] [] 1)) fun x2=>(sT 26 [(0,.isl false (az.map str)),(5,.isl false (az.map str)),(6,I (len az)),(7,I x2)] [] 1):=ef (HT az) fun {Q K} hK self ih x2 y h hr hn=>by
 unfold nK at h
 refine cq 5 [8] [B (decide (x2<(len az)))] 17 ?_
 refine sq h ?_ ?_<;>intro h
 ·refine aq 1 ?_
  refine cq 5 [9] [I x2] 33 ?_
  obtain⟨e3,he3,h⟩:=bS h
  refine oq 49 (.iptr (str e3) 0) rfl (al rfl rfl rfl (bn rfl rfl rfl rfl he3)) ?_
  refine cq 7 [3,4,12] [I x2,str e3,str e3] 113 ?_
  obtain⟨r4,hr4,h⟩:=bS h
  refine oq 129 (B r4) rfl (cP (G5 hr4)) ?_
  refine cq 2 [15] [B (!r4)] 161 ?_
  obtain⟨y5,hy5,hy51,hy52⟩:=bL h
  have j5:∀u5,y5=.inr u5→Run LH 0 Q (.code (cR (cR (cL (cL (cR (cR (cL (cL (cR (cL (cR HS)))))))))))::.blk 1::.code (cR (cR (cR (cL (cL (cR (cL (cR HS))))))))::.lp (cL (cL (cR (cL (cR HS)))))::.blk 0::K) (sT 26 [(0,.isl false (az.map str)),(5,.isl false (az.map str)),(6,I (len az)),(7,I x2),(21,B u5)] [] 1):=by
   intro u5 hu
   replace h:=hy52 u5 hu
   refine sq h ?_ ?_<;>intro h
   ·refine cq 4 [2] [B false] 17 ?_
    exact ca rfl (hr _ (an h) _ (qp [B false]))
   ·refine aq 1 ?_
    refine cq 5 [7] [I (ac (x2+1))] 33 ?_
    refine cX ?_
    exact rf [0,5,6,7] [] (ih _ _ h hr hn :)
  have r5:∀r',y5=.inl r'→∀st,RN az r' st→Q st:=fun r' e st hq=>hr r' (hy51 r' e) st hq
  replace h:=hy5
  refine sp 15 h rfl ?_ ?_<;>intro h
  ·refine cq 7 [21] [B true] 257 ?_
   exact rf [0,5,6,7,21] [] (j5 _ (an h) :)
  ·refine cq 2 [16,17] [.isl false (az.map str),I x2] 193 ?_
   obtain⟨s6,hs6,h⟩:=bS h
   refine oy 209 (.isl false (s6.map str)) rfl (iG rfl rfl rfl rfl (zw rfl rfl (fun y=>(mF y).1) rfl rfl hs6)) ?_
   refine cq 1 [19] [str e3] 225 ?_
   obtain⟨r7,hr7,h⟩:=bS h
   refine oy 241 (B r7) rfl (cP (MV hr7)) ?_
   refine cq 2 [21] [B r7] 257 ?_
   exact rf [0,5,6,7,21] [] (j5 _ (an h) :)
 ·refine aq 1 ?_
  exact rf [0] [] (hn _ (an h) :) (hk:=hK)
theorem abP (az:List ae)(r:Bool)(h:Nw az=some r):bx LH Tryz.f98 [false] 0 (LG az) (LI r):=by
 show Run _ _ (RN az r) [.code HS] _
 refine rI 26 [(0,.isl false (az.map str))] [] 1 ?_
 unfold Nw at h
 refine cq 8 [5] [.isl false (az.map str)] 33 ?_
 refine oq 49 (I (len az)) rfl (bw rfl rfl rfl (bR rfl)) ?_
 refine cq 3 [7] [I (0)] 65 ?_
 obtain⟨y8,hy8,hy81,hy82⟩:=bJ h
 refine bM rfl ?_
 refine rf [0,5,6,7] [] (RO az rfl 0 _ hy8 (fun r' e st hq=>by rw[hy81 r' e] at hq;exact hq) fun u8 hu=>?_)
 replace h:=hy82 u8 hu
 refine cq 3 [23] [.isl false (az.map str)] 17 ?_
 refine oq 33 (I (len az)) rfl (bw rfl rfl rfl (bR rfl)) ?_
 obtain⟨r9,hr9,h⟩:=bS h
 refine oq 49 (B r9) rfl (cP (jq hr9)) ?_
 refine cq 2 [2] [B r9] 65 ?_
 obtain rfl:=sI h
 exact rP [B r9]
theorem Zz {G:cb}:b9 G 98 Jw:=gT 1 0 (aN wn (aN xY (aN kt bB))) cn Tryz.func98 (fun a r h=>abP a r h)
def LL:(Clause×ae)→List V:=cA au (oA (fun x:ae=>.iptr (str x) 0))
def LM (r:Bool):V×List V:=(B r,[])
noncomputable def Jy :=bm [false,false] LL LM fun x=>Wu x.1 x.2
theorem afQ {x_1:Clause}{a_2:ae}{r}(h:Wu x_1 a_2=some r):Jy.F (LL (x_1,a_2))=some (LM r):=aK (aO dU (aL (nS bP))) h
noncomputable def afS :=aI Tryz.f175
noncomputable def aa2 :=cm []
def afR (x:Clause×ae)(r:Bool):St→Prop:=QF aa2 Tryz.f175 [false,false] (LL x) (LM r)
theorem abR (x_1:Clause)(a_2:ae)(r:Bool)(h:Wu x_1 a_2=some r):bx aa2 Tryz.f175 [false,false] 0 (LL (x_1,a_2)) (LM r):=by
 show Run _ _ (afR (x_1,a_2) r) [.code afS] _
 refine rI 8 [(0,aB x_1),(1,.iptr (str a_2) 0)] [] 1 ?_
 unfold Wu at h
 refine cq 13 [3] [B (x_1.Id==a_2)] 113 ?_
 obtain rfl:=sI h
 exact rP [B (x_1.Id==a_2)]
theorem ZB {G:cb}:b9 G 175 Jy:=gT 2 0 bB cn Tryz.func175 (fun a r h=>abR a.1 a.2 r h)
def F3:((List Clause)×ae)→List V:=cA (gp au) (oA (fun x:ae=>(.fn 175 [.iptr (str x) 0]:V)))
def F4 (r:Int):V×List V:=(I r,[])
noncomputable def C3 :=bm [false,false] F3 F4 fun x=>Jf x.1 x.2
theorem aen {s_1:List Clause}{f_2:ae}{r}(h:Jf s_1 f_2=some r):C3.F (F3 (s_1,f_2))=some (F4 r):=aK (aO (cr dU) (aL (jo bP))) h
noncomputable def U5 :=aI Tryz.f110
noncomputable def MW :=cm [(175,Jy)]
def U4 (x:(List Clause)×ae)(r:Int):St→Prop:=QF MW Tryz.f110 [false,false] (F3 x) (F4 r)
theorem Pp (s_1:List Clause)(f_2:ae):cg MW 0 (U4 (s_1,f_2)) (cL (cL (cR (cL (cR U5))))) 0 (uR s_1 f_2) (fun u=>(sT 19 [] [] 1)) fun x3=>(sT 19 [(0,.isl false (s_1.map au)),(1,.fn 175 [.iptr (str f_2) 0]),(7,I (len s_1)),(8,I x3)] [] 1):=ef (AN s_1 f_2) fun {Q K} hK self ih x3 y h hr hn=>by
 unfold ot at h
 refine cq 5 [9] [B (decide (x3<(len s_1)))] 17 ?_
 refine sq h ?_ ?_<;>intro h
 ·refine aq 1 ?_
  refine cq 12 [5,11,12,13] [I x3,.fn 175 [.iptr (str f_2) 0],.isl false (s_1.map au),I x3] 97 ?_
  obtain⟨e4,he4,h⟩:=bS h
  refine oq 113 (.iptr (aB e4) 0) rfl (al rfl rfl rfl (bn rfl rfl rfl rfl he4)) ?_
  refine cq 1 [15] [aB e4] 129 ?_
  obtain⟨r5,hr5,h⟩:=bS h
  refine oq 145 (B r5) rfl (cP (afQ hr5)) ?_
  refine aq 1 ?_
  refine sq h ?_ ?_<;>intro h
  ·refine cq 5 [4] [I x3] 177 ?_
   exact ca rfl (hr _ (an h) _ (qp [I x3]))
  ·refine aq 1 ?_
   refine cq 5 [8] [I (ac (x3+1))] 177 ?_
   refine cX ?_
   exact rf [0,1,7,8] [] (ih _ _ h hr hn :)
 ·refine aq 1 ?_
  exact rf [] [] (hn _ (an h) :) (hk:=hK)
theorem YM (s_1:List Clause)(f_2:ae)(r:Int)(h:Jf s_1 f_2=some r):bx MW Tryz.f110 [false,false] 0 (F3 (s_1,f_2)) (F4 r):=by
 show Run _ _ (U4 (s_1,f_2) r) [.code U5] _
 refine rI 19 [(0,.isl false (s_1.map au)),(1,.fn 175 [.iptr (str f_2) 0])] [] 1 ?_
 unfold Jf at h
 refine cq 8 [6] [.isl false (s_1.map au)] 33 ?_
 refine oq 49 (I (len s_1)) rfl (bw rfl rfl rfl (bR rfl)) ?_
 refine cq 3 [8] [I (0)] 65 ?_
 obtain⟨y6,hy6,hy61,hy62⟩:=bJ h
 refine bM rfl ?_
 refine rf [0,1,7,8] [] (Pp s_1 f_2 rfl 0 _ hy6 (fun r' e st hq=>by rw[hy61 r' e] at hq;exact hq) fun u6 hu=>?_)
 replace h:=hy62 u6 hu
 refine cq 4 [4] [I (-1)] 17 ?_
 obtain rfl:=sI h
 exact rP [I (-1)]
theorem U6 {G:cb}:b9 G 110 C3:=gT 2 0 (aN ZB bB) cn Tryz.func110 (fun a r h=>YM a.1 a.2 r h)
def LJ:(Contract×ae)→List V:=cA aV (oA str)
def LK (r:Int):V×List V:=(I r,[])
noncomputable def Jx :=bm [false,false] LJ LK fun x=>HU x.1 x.2
theorem aa1 {c_1:Contract}{fC:ae}{r}(h:HU c_1 fC=some r):Jx.F (LJ (c_1,fC))=some (LK r):=aK (aO bv (aL bP)) h
noncomputable def afP :=aI Tryz.f140
noncomputable def aa0 :=cm [(110,C3)]
def afO (x:Contract×ae)(r:Int):St→Prop:=QF aa0 Tryz.f140 [false,false] (LJ x) (LK r)
theorem abQ (c_1:Contract)(fC:ae)(r:Int)(h:HU c_1 fC=some r):bx aa0 Tryz.f140 [false,false] 0 (LJ (c_1,fC)) (LK r):=by
 show Run _ _ (afO (c_1,fC) r) [.code afP] _
 refine rI 9 [(0,aa c_1),(1,str fC)] [] 1 ?_
 unfold HU at h
 refine ck 11 [6,7] [] [17] [] [.isl false (c_1.Clauses.map au),.fn 175 [.hp 17 0 [] 1 0 0]] [some ⟨0,1,[str fC]⟩] 97 (by kernel_rfl) ?_
 obtain⟨r3,hr3,h⟩:=bS h
 refine oq 113 (I r3) rfl (bK rfl rfl (b8 rfl rfl rfl (bg (bW rfl) (bg (oZ (dE (sY (path:=[]) rfl rfl aF rfl rfl) gQ)) dj)) (aen hr3) (.inl rfl) dK rfl rfl rfl)) ?_
 refine cq 2 [4] [I r3] 129 ?_
 obtain rfl:=sI h
 exact rP [I r3]
theorem ZA {G:cb}:b9 G 140 Jx:=gT 2 0 (aN U6 bB) cn Tryz.func140 (fun a r h=>abQ a.1 a.2 r h)
def LY:Int→List V:=oA I
def LZ (r:Bool):V×List V:=(B r,[])
noncomputable def sb :=bm [false] LY LZ fun x=>oP x
theorem tv {iq:Int}{r}(h:oP iq=some r):sb.F (LY iq)=some (LZ r):=aK (aL bf) h
noncomputable def af2 :=aI Tryz.f78
noncomputable def aa9 :=cm [(99,jF)]
def af1 (x:Int)(r:Bool):St→Prop:=QF aa9 Tryz.f78 [false] (LY x) (LZ r)
theorem abZ (iq:Int)(r:Bool)(h:oP iq=some r):bx aa9 Tryz.f78 [false] 0 (LY iq) (LZ r):=by
 show Run _ _ (af1 iq r) [.code af2] _
 refine rI 5 [(0,I iq)] [] 1 ?_
 unfold oP at h
 refine cq 7 [3] [I iq] 33 ?_
 obtain⟨r2,hr2,h⟩:=bS h
 refine oq 49 (B r2) rfl (cP (jq hr2)) ?_
 refine cq 2 [2] [B r2] 65 ?_
 obtain rfl:=sI h
 exact rP [B r2]
theorem wx {G:cb}:b9 G 78 sb:=gT 1 0 (aN kt bB) cn Tryz.func78 (fun a r h=>abZ a r h)
def HV:(Condition×Int)→List V:=cA bH (oA I)
def HW (r:Int):V×List V:=(I r,[])
noncomputable def DS (bo:(Condition×Int)→Option Int):Ent:=bm [false,false] HV HW bo
theorem Ww (bo:(Condition×Int)→Option Int){x}{r}(h:bo x=some r):(DS bo).F (HV x)=some (HW r):=aK (aO dP (aL bf)) h
noncomputable def Jz :=DS (aJ nz)
theorem afT {c_1:Condition}{cU:Int}{r}(h:Wv c_1 cU=some r):Jz.F (HV (c_1,cU))=some (HW r):=Ww (aJ nz) h
noncomputable def ww :=aI Tryz.f176
noncomputable abbrev qL :=cR (cR (cR (cR (cR ww))))
noncomputable abbrev sA :=cR (cL (cR (cR (cR (cR ww)))))
noncomputable def ny (bo:(Condition×Int)→Option Int):Env:=cm [(176,(DS bo)),(81,rZ),(78,sb),(99,jF)]
def fN (bo:(Condition×Int)→Option Int)(x:Condition×Int)(r:Int):St→Prop:=QF (ny bo) Tryz.f176 [false,false] (HV x) (HW r)
theorem RP (bo:(Condition×Int)→Option Int)(c_1:Condition)(cU:Int):cg (ny bo) 0 (fN bo (c_1,cU)) (cL (cL (cR (cL qL)))) 0 (nm bo c_1 cU) (fun u=>(sT 78 [(1,I u)] [] 1)) fun x5=>(sT 78 [(1,I x5.1),(65,.isl false (c_1.Parts.map aH)),(66,I (len c_1.Parts)),(67,I x5.2)] [] 1):=ef (HX bo c_1 cU) fun {Q K} hK self ih x5 y h hr hn=>by
 unfold mi at h
 refine cq 5 [68] [B (decide (x5.2<(len c_1.Parts)))] 17 ?_
 refine sq h ?_ ?_<;>intro h
 ·refine aq 1 ?_
  refine aq 4 ?_
  obtain⟨e6,he6,h⟩:=bS h
  refine oq 33 (.iptr (ar e6) 0) rfl (al rfl rfl rfl (bn rfl rfl (dI e6) rfl he6)) ?_
  refine ck 2 [7,70] [] [49] [] [.hp 49 0 [] 4 0 0,ar e6] [some ⟨0,4,[.agg [I (0),str ([]),I (0),.isl true []]]⟩] 65 (by kernel_rfl) ?_
  refine gk 49 [.agg [I (0),str ([]),I (0),.usl 4 (([]).map aj)]] rfl rfl (aQ (iw (aQ (.refl _) (aQ (.refl _) (aQ (.refl _) (aQ (.nil _) fh))))) fh) ?_
  refine ck 6 [71,72] [] [49] [] [ar e6,I x5.1] [some ⟨2,4,[ar e6]⟩] 113 (by kernel_rfl) ?_
  obtain⟨r7,hr7,h⟩:=bS h
  refine oq 129 (I r7) rfl (bK rfl rfl (b8 rfl rfl rfl (bg (bW rfl) (bg (bW rfl) dj)) (Ww bo hr7) (.inr rfl) dK rfl rfl rfl)) ?_
  refine cq 7 [1,75] [I r7,B (decide (r7<0))] 177 ?_
  refine sq h ?_ ?_<;>intro h
  ·refine cq 4 [4] [I (-1)] 193 ?_
   exact ca rfl (hr _ (an h) _ (qp [I (-1)]))
  ·refine aq 1 ?_
   refine cq 5 [67] [I (ac (x5.2+1))] 209 ?_
   refine cX ?_
   exact rf [1,65,66,67] [] (ih _ _ h hr hn :)
 ·refine aq 1 ?_
  exact rf [1] [] (hn _ (an h) :) (hk:=hK)
theorem abT (bo:(Condition×Int)→Option Int)(c_1:Condition)(cU:Int)(r:Int)(h:zM bo c_1 cU=some r):bx (ny bo) Tryz.f176 [false,false] 0 (HV (c_1,cU)) (HW r):=by
 show Run _ _ (fN bo (c_1,cU) r) [.code ww] _
 refine rI 78 [(0,ar c_1),(1,I cU)] [] 1 ?_
 unfold zM at h
 refine ck 13 [1,2] [] [1] [] [I (ac (cU+1)),.hp 1 0 [] 4 0 0] [some ⟨0,4,[ar c_1]⟩] 81 (by kernel_rfl) ?_
 refine oq 97 (.hs 81 0 [] 1 0 7) rfl (eH rfl (kH (f:=I) (xs:=[]) (z:=I (0)) (es:=[I (-1),I (0),I (0),I (0),I (1),I (2),I (2)]) (ws:=[I (-1),I (0),I (0),I (0),I (1),I (2),I (2)]) rfl rfl rfl (by decide) rfl (dX rfl) rfl)) ?_
 refine cq 4 [5] [.hs 81 0 [] 1 0 7] 113 ?_
 refine d7 [0,1,3,7,15,31,63,127,255,511,1023,2047,511,511,8703,29183,61951,131071,262143] rfl (by decide +kernel) ?_
 refine dk 3 [13,12,11] [B (decide ((ac (cU+1))>15)),B (decide ((ac (cU+1))>15)),I (ac (cU+1))] ?_
 obtain⟨y3,hy3,hy31,hy32⟩:=bJ h
 have j3:∀u3,y3=.inr u3→Run (ny bo) 0 (fN bo (c_1,cU) r) (.code (cR (cL (cR (cR (cR ww)))))::.code (cR (cR (cR (cR ww))))::[]) (sT 78 [(1,I (ac (cU+1))),(2,.hp 1 0 [] 4 0 0),(29,B u3)] [⟨0,4,[ar c_1]⟩] 2):=by
  intro u3 hu
  replace h:=hy32 u3 hu
  refine sq h ?_ ?_<;>intro h
  ·refine cq 4 [4] [I (-1)] 18 ?_
   obtain rfl:=sI h
   exact rP [I (-1)]
  ·refine aq 1 ?_
   refine cq 11 [37] [B (!((c_1.Op==2)==(!(c_1.Name==([]:ae)))))] 130 ?_
   obtain⟨y4,hy4,hy41,hy42⟩:=bJ h
   have j4:∀u4,y4=.inr u4→Run (ny bo) 0 (fN bo (c_1,cU) r) (.code sA::.code qL::[]) (sT 78 [(1,I (ac (cU+1))),(2,.hp 1 0 [] 4 0 0),(63,B u4)] [⟨0,4,[ar c_1]⟩] 2):=by
    intro u4 hu
    replace h:=hy42 u4 hu
    refine sq h ?_ ?_<;>intro h
    ·refine cq 4 [4] [I (-1)] 18 ?_
     obtain rfl:=sI h
     exact rP [I (-1)]
    ·refine aq 1 ?_
     refine cq 5 [65] [.isl false (c_1.Parts.map aH)] 34 ?_
     refine oq 50 (I (len c_1.Parts)) rfl (bw rfl rfl rfl (bR rfl)) ?_
     refine cq 3 [67] [I (0)] 66 ?_
     obtain⟨y8,hy8,hy81,hy82⟩:=bJ h
     refine bM rfl ?_
     refine rf [1,65,66,67] [] (RP bo c_1 cU rfl ((ac (cU+1)),0) _ hy8 (fun r' e st hq=>by rw[hy81 r' e] at hq;exact hq) fun u8 hu=>?_)
     replace h:=hy82 u8 hu
     refine cq 5 [4] [I u8] 33 ?_
     obtain rfl:=sI h
     exact rP [I u8]
   have r4:∀r',y4=.inl r'→∀st,fN bo (c_1,cU) r' st→(fN bo (c_1,cU) r) st:=fun r' e st hq=>by rw[hy41 r' e] at hq;exact hq
   replace h:=hy4
   refine sp 37 h rfl ?_ ?_<;>intro h
   ·refine cq 27 [63] [B true] 546 ?_
    exact rf [1,2,63] [1] (j4 _ (an h) :)
   ·refine cq 4 [41] [B (c_1.Op==2)] 194 ?_
    obtain⟨y9,hy9,hy91,hy92⟩:=bL h
    have j9:∀u9,y9=.inr u9→Run (ny bo) 0 (fN bo (c_1,cU) r) (.code sA::.code qL::[]) (sT 78 [(1,I (ac (cU+1))),(2,.hp 1 0 [] 4 0 0),(63,B u9)] [⟨0,4,[ar c_1]⟩] 2):=by
     intro u9 hu
     replace h:=hy92 u9 hu
     exact rf [1,2,63] [1] (j4 _ (an h) :)
    have r9:∀r',y9=.inl r'→∀st,fN bo (c_1,cU) r' st→(fN bo (c_1,cU) r) st:=fun r' e st hq=>r4 r' (hy91 r' e) st hq
    replace h:=hy9
    refine sp 41 h rfl ?_ ?_<;>intro h
    ·refine cq 2 [43] [str c_1.Name] 226 ?_
     obtain⟨r10,hr10,h⟩:=bS h
     refine oy 242 (B r10) rfl (cP (G5 hr10)) ?_
     refine cq 4 [48] [B (!r10)] 306 ?_
     obtain⟨y11,hy11,hy111,hy112⟩:=bL h
     have j11:∀u11,y11=.inr u11→Run (ny bo) 0 (fN bo (c_1,cU) r) (.code sA::.code qL::[]) (sT 78 [(1,I (ac (cU+1))),(2,.hp 1 0 [] 4 0 0),(63,B u11)] [⟨0,4,[ar c_1]⟩] 2):=by
      intro u11 hu
      replace h:=hy112 u11 hu
      exact rf [1,2,63] [1] (j9 _ (an h) :)
     have r11:∀r',y11=.inl r'→∀st,fN bo (c_1,cU) r' st→(fN bo (c_1,cU) r) st:=fun r' e st hq=>r9 r' (hy111 r' e) st hq
     replace h:=hy11
     refine sp 48 h rfl ?_ ?_<;>intro h
     ·refine cq 16 [63] [B true] 546 ?_
      exact rf [1,2,63] [1] (j11 _ (an h) :)
     ·refine cq 4 [52] [B (c_1.Op != 3)] 370 ?_
      obtain⟨y12,hy12,hy121,hy122⟩:=bL h
      have j12:∀u12,y12=.inr u12→Run (ny bo) 0 (fN bo (c_1,cU) r) (.code sA::.code qL::[]) (sT 78 [(1,I (ac (cU+1))),(2,.hp 1 0 [] 4 0 0),(63,B u12)] [⟨0,4,[ar c_1]⟩] 2):=by
       intro u12 hu
       replace h:=hy122 u12 hu
       exact rf [1,2,63] [1] (j11 _ (an h) :)
      have r12:∀r',y12=.inl r'→∀st,fN bo (c_1,cU) r' st→(fN bo (c_1,cU) r) st:=fun r' e st hq=>r11 r' (hy121 r' e) st hq
      replace h:=hy12
      refine sp 52 h rfl ?_ ?_<;>intro h
      ·refine cq 6 [58] [B (c_1.Day != 0)] 466 ?_
       obtain⟨y13,hy13,hy131,hy132⟩:=bL h
       have j13:∀u13,y13=.inr u13→Run (ny bo) 0 (fN bo (c_1,cU) r) (.code sA::.code qL::[]) (sT 78 [(1,I (ac (cU+1))),(2,.hp 1 0 [] 4 0 0),(63,B u13)] [⟨0,4,[ar c_1]⟩] 2):=by
        intro u13 hu
        replace h:=hy132 u13 hu
        exact rf [1,2,63] [1] (j12 _ (an h) :)
       have r13:∀r',y13=.inl r'→∀st,fN bo (c_1,cU) r' st→(fN bo (c_1,cU) r) st:=fun r' e st hq=>r12 r' (hy131 r' e) st hq
       replace h:=hy13
       refine sp 58 h rfl ?_ ?_<;>intro h
       ·refine cq 6 [63] [B true] 546 ?_
        exact rf [1,2,63] [1] (j13 _ (an h) :)
       ·refine cq 2 [60] [I c_1.Day] 498 ?_
        obtain⟨r14,hr14,h⟩:=bS h
        refine oy 514 (B r14) rfl (cP (tv hr14)) ?_
        refine cq 3 [63] [B (!r14)] 546 ?_
        exact rf [1,2,63] [1] (j13 _ (an h) :)
      ·refine cq 8 [58,60] [B false,I c_1.Day] 498 ?_
       obtain⟨r15,hr15,h⟩:=bS h
       refine oy 514 (B r15) rfl (cP (tv hr15)) ?_
       refine cq 3 [63] [B (!r15)] 546 ?_
       exact rf [1,2,63] [1] (j12 _ (an h) :)
    ·refine cq 11 [48,52] [B false,B (c_1.Op != 3)] 370 ?_
     obtain⟨y16,hy16,hy161,hy162⟩:=bL h
     have j16:∀u16,y16=.inr u16→Run (ny bo) 0 (fN bo (c_1,cU) r) (.code sA::.code qL::[]) (sT 78 [(1,I (ac (cU+1))),(2,.hp 1 0 [] 4 0 0),(63,B u16)] [⟨0,4,[ar c_1]⟩] 2):=by
      intro u16 hu
      replace h:=hy162 u16 hu
      exact rf [1,2,63] [1] (j9 _ (an h) :)
     have r16:∀r',y16=.inl r'→∀st,fN bo (c_1,cU) r' st→(fN bo (c_1,cU) r) st:=fun r' e st hq=>r9 r' (hy161 r' e) st hq
     replace h:=hy16
     refine sp 52 h rfl ?_ ?_<;>intro h
     ·refine cq 6 [58] [B (c_1.Day != 0)] 466 ?_
      obtain⟨y17,hy17,hy171,hy172⟩:=bL h
      have j17:∀u17,y17=.inr u17→Run (ny bo) 0 (fN bo (c_1,cU) r) (.code sA::.code qL::[]) (sT 78 [(1,I (ac (cU+1))),(2,.hp 1 0 [] 4 0 0),(63,B u17)] [⟨0,4,[ar c_1]⟩] 2):=by
       intro u17 hu
       replace h:=hy172 u17 hu
       exact rf [1,2,63] [1] (j16 _ (an h) :)
      have r17:∀r',y17=.inl r'→∀st,fN bo (c_1,cU) r' st→(fN bo (c_1,cU) r) st:=fun r' e st hq=>r16 r' (hy171 r' e) st hq
      replace h:=hy17
      refine sp 58 h rfl ?_ ?_<;>intro h
      ·refine cq 6 [63] [B true] 546 ?_
       exact rf [1,2,63] [1] (j17 _ (an h) :)
      ·refine cq 2 [60] [I c_1.Day] 498 ?_
       obtain⟨r18,hr18,h⟩:=bS h
       refine oy 514 (B r18) rfl (cP (tv hr18)) ?_
       refine cq 3 [63] [B (!r18)] 546 ?_
       exact rf [1,2,63] [1] (j17 _ (an h) :)
     ·refine cq 8 [58,60] [B false,I c_1.Day] 498 ?_
      obtain⟨r19,hr19,h⟩:=bS h
      refine oy 514 (B r19) rfl (cP (tv hr19)) ?_
      refine cq 3 [63] [B (!r19)] 546 ?_
      exact rf [1,2,63] [1] (j16 _ (an h) :)
 have r3:∀r',y3=.inl r'→∀st,fN bo (c_1,cU) r' st→(fN bo (c_1,cU) r) st:=fun r' e st hq=>by rw[hy31 r' e] at hq;exact hq
 replace h:=hy3
 refine sp 13 h rfl ?_ ?_<;>intro h
 ·refine dk 16 [29,28,27,26,25,24,23,22,21,20,19,18,17,16,15,14] [B true,.und,.und,.und,.und,.und,.und,.und,.und,.und,B true,B true,.und,.und,.und,.und] ?_
  refine de 417 rfl rfl ?_
  exact rf [1,2,29] [1] (j3 _ (an h) :)
 ·refine dy [1] [] (.hp 1 0 [] 4 0 0) rfl (ay rfl rfl rfl) ?_
  refine dy [1] [] (I c_1.Op) rfl (aU rfl rfl) ?_
  obtain⟨r20,hr20,h⟩:=bS h
  refine dy [] [] (B r20) rfl (cP (jq hr20)) ?_ (dZ rfl rfl rfl rfl (bg (bW rfl) (bg (bW rfl) (bg (bW rfl) dj))) (jq hr20) (.inr rfl) rfl)
  refine dk 3 [19,18,17] [B (!r20),B (!r20),B (!r20)] ?_
  obtain⟨y21,hy21,hy211,hy212⟩:=bL h
  have j21:∀u21,y21=.inr u21→Run (ny bo) 0 (fN bo (c_1,cU) r) (.code (cR (cL (cR (cR (cR ww)))))::.code (cR (cR (cR (cR ww))))::[]) (sT 78 [(1,I (ac (cU+1))),(2,.hp 1 0 [] 4 0 0),(29,B u21)] [⟨0,4,[ar c_1]⟩] 2):=by
   intro u21 hu
   replace h:=hy212 u21 hu
   exact rf [1,2,29] [1] (j3 _ (an h) :)
  have r21:∀r',y21=.inl r'→∀st,fN bo (c_1,cU) r' st→(fN bo (c_1,cU) r) st:=fun r' e st hq=>r3 r' (hy211 r' e) st hq
  replace h:=hy21
  refine sp 19 h rfl ?_ ?_<;>intro h
  ·refine dk 10 [29,28,27,26,25,24,23,22,21,20] [B true,.und,.und,.und,.und,.und,.und,.und,.und,.und] ?_
   refine de 417 rfl rfl ?_
   exact rf [1,2,29] [1] (j21 _ (an h) :)
  ·refine dy [1] [] (.hp 1 0 [] 4 0 3) rfl (ay rfl rfl rfl) ?_
   refine dy [1] [] (.isl false (c_1.Parts.map aH)) rfl (aU rfl rfl) ?_
   refine dy [] [] (I (len c_1.Parts)) rfl (bw rfl rfl rfl (bR rfl)) ?_
   refine dk 1 [23] [.hs 81 0 [] 1 0 7] ?_
   refine dy [1] [] (.hp 1 0 [] 4 0 0) rfl (ay rfl rfl rfl) ?_
   refine dy [1] [] (I c_1.Op) rfl (aU rfl rfl) ?_
   obtain⟨e22,he22,h⟩:=bS h
   refine dy [81] [] (.hp 81 0 [] 1 (0+Int.toNat c_1.Op) 0) rfl (al rfl rfl rfl (ce (f:=I) (xs:=[(-1),0,0,0,1,2,2]) rfl rfl rfl he22)) ?_
   refine dy [81] [] (I e22) rfl (aU rfl (fU (path:=[]) rfl rfl rfl aF (bO (f:=I) (xs:=[(-1),0,0,0,1,2,2]) he22) rfl rfl rfl)) ?_
   refine dk 2 [29,28] [B ((len c_1.Parts) != e22),B ((len c_1.Parts) != e22)] ?_
   refine de 417 rfl rfl ?_
   exact rf [1,2,29] [1] (j21 _ (an h) :)
theorem ZC {G:cb}:b9 G 176 Jz:=jL fun bo g_Ffm=>gT 2 0 (aN g_Ffm (aN wn (aN wx (aN kt bB)))) cn Tryz.func176 (fun a r h=>abT bo a.1 a.2 r h)
def Lo:Condition→List V:=oA bH
def Lp (r:Bool):V×List V:=(B r,[])
noncomputable def I8 :=bm [false] Lo Lp fun x=>MH x
theorem afG {c_1:Condition}{r}(h:MH c_1=some r):I8.F (Lo c_1)=some (Lp r):=aK (aL dP) h
noncomputable def afI :=aI Tryz.f141
noncomputable def aaV :=cm [(176,Jz)]
def afH (x:Condition)(r:Bool):St→Prop:=QF aaV Tryz.f141 [false] (Lo x) (Lp r)
theorem abx (c_1:Condition)(r:Bool)(h:MH c_1=some r):bx aaV Tryz.f141 [false] 0 (Lo c_1) (Lp r):=by
 show Run _ _ (afH c_1 r) [.code afI] _
 refine rI 6 [(0,ar c_1)] [] 1 ?_
 unfold MH at h
 refine cq 8 [3] [ar c_1] 49 ?_
 obtain⟨r2,hr2,h⟩:=bS h
 refine oq 65 (I r2) rfl (cP (afT hr2)) ?_
 refine cq 3 [2] [B (decide (r2>0))] 97 ?_
 obtain rfl:=sI h
 exact rP [B (decide (r2>0))]
theorem Yj {G:cb}:b9 G 141 I8:=gT 1 0 (aN ZC bB) cn Tryz.func141 (fun a r h=>abx a r h)
def LW:(Contract×Int)→List V:=cA aV (oA I)
def LX (r:Bool):V×List V:=(B r,[])
noncomputable def JC :=bm [false,false] LW LX fun x=>NA x.1 x.2
theorem af0 {c_1:Contract}{i_2:Int}{r}(h:NA c_1 i_2=some r):JC.F (LW (c_1,i_2))=some (LX r):=aK (aO bv (aL bf)) h
noncomputable def mQ :=aI Tryz.f100
noncomputable abbrev NB :=cR (cL (cR (cR (cR (cR mQ)))))
noncomputable abbrev yJ :=cR (cR (cR (cR (cR (cR mQ)))))
noncomputable abbrev H1 :=cR (cL (cR (cR (cR (cR (cR mQ))))))
noncomputable abbrev NC :=cR (cR (cR yJ))
noncomputable def kF :=cm [(81,rZ),(99,jF),(140,Jx),(141,I8)]
def eX (x:Contract×Int)(r:Bool):St→Prop:=QF kF Tryz.f100 [false,false] (LW x) (LX r)
theorem abY (c_1:Contract)(i_2:Int)(r:Bool)(h:NA c_1 i_2=some r):bx kF Tryz.f100 [false,false] 0 (LW (c_1,i_2)) (LX r):=by
 show Run _ _ (eX (c_1,i_2) r) [.code mQ] _
 refine rI 119 [(0,aa c_1),(1,I i_2)] [] 1 ?_
 unfold NA at h
 refine ck 10 [2,9,10] [] [1] [] [.hp 1 0 [] 2 0 0,.isl false (c_1.Clauses.map au),I i_2] [some ⟨0,2,[aa c_1]⟩] 81 (by kernel_rfl) ?_
 obtain⟨e3,he3,h⟩:=bS h
 refine oq 97 (.iptr (aB e3) 0) rfl (al rfl rfl rfl (bn rfl rfl rfl rfl he3)) ?_
 refine ck 2 [5,12] [] [113] [] [.hp 113 0 [] 12 0 0,aB e3] [some ⟨0,12,[.agg [str ([]),I (0),I (0),str ([]),I (0),I (0),I (0),str ([]),I (0),.isl true [],I (0),str ([])]]⟩] 129 (by kernel_rfl) ?_
 refine gk 113 [.agg [str ([]),I (0),I (0),str ([]),I (0),I (0),I (0),str ([]),I (0),.usl 4 (([]).map aj),I (0),str ([])]] rfl rfl (aQ (iw (aQ (.refl _) (aQ (.refl _) (aQ (.refl _) (aQ (.refl _) (aQ (.refl _) (aQ (.refl _) (aQ (.refl _) (aQ (.refl _) (aQ (.refl _) (aQ (.nil _) (aQ (.refl _) (aQ (.refl _) fh))))))))))))) fh) ?_
 refine ck 6 [14] [] [113] [] [.isl false (c_1.Parties.map str)] [some ⟨2,12,[aB e3]⟩] 177 (by kernel_rfl) ?_
 refine oq 193 (I (len c_1.Parties)) rfl (bw rfl rfl rfl (bR rfl)) ?_
 refine cq 8 [6,18] [I (ac ((len c_1.Parties) - 1)),str e3.Id] 257 ?_
 obtain⟨r4,hr4,h⟩:=bS h
 refine oq 273 (B r4) rfl (cP (G5 hr4)) ?_
 refine cq 2 [21] [B (!r4)] 305 ?_
 obtain⟨y5,hy5,hy51,hy52⟩:=bJ h
 have j5:∀u5,y5=.inr u5→Run kF 0 (eX (c_1,i_2) r) (.code (cR (cL (cR (cR (cR mQ)))))::.code (cR (cR (cR (cR mQ))))::[]) (sT 119 [(1,I i_2),(2,.hp 1 0 [] 2 0 0),(5,.hp 2 0 [] 12 0 0),(6,I (ac ((len c_1.Parties) - 1))),(40,B u5)] [⟨0,2,[aa c_1]⟩,⟨0,12,[aB e3]⟩] 3):=by
  intro u5 hu
  replace h:=hy52 u5 hu
  refine sq h ?_ ?_<;>intro h
  ·refine cq 4 [4] [B false] 19 ?_
   obtain rfl:=sI h
   exact rP [B false]
  ·refine aq 1 ?_
   refine cq 6 [42,43] [I e3.Party,I (ac ((len c_1.Parties) - 1))] 51 ?_
   obtain⟨r6,hr6,h⟩:=bS h
   refine oq 67 (B r6) rfl (cP (jq hr6)) ?_
   refine cq 2 [46] [B (!r6)] 99 ?_
   obtain⟨y7,hy7,hy71,hy72⟩:=bJ h
   have j7:∀u7,y7=.inr u7→Run kF 0 (eX (c_1,i_2) r) (.code NB::.code (cR (cR (cR (cR (cR mQ)))))::[]) (sT 119 [(1,I i_2),(2,.hp 1 0 [] 2 0 0),(5,.hp 2 0 [] 12 0 0),(65,B u7)] [⟨0,2,[aa c_1]⟩,⟨0,12,[aB e3]⟩] 3):=by
    intro u7 hu
    replace h:=hy72 u7 hu
    refine sq h ?_ ?_<;>intro h
    ·refine cq 4 [4] [B false] 19 ?_
     obtain rfl:=sI h
     exact rP [B false]
    ·refine aq 1 ?_
     refine cq 5 [67] [I e3.Amount] 35 ?_
     obtain⟨r8,hr8,h⟩:=bS h
     refine oq 51 (B r8) rfl (cP (jq hr8)) ?_
     refine cq 2 [70] [B (!r8)] 83 ?_
     obtain⟨y9,hy9,hy91,hy92⟩:=bJ h
     have j9:∀u9,y9=.inr u9→Run kF 0 (eX (c_1,i_2) r) (.code H1::.code yJ::[]) (sT 119 [(1,I i_2),(2,.hp 1 0 [] 2 0 0),(5,.hp 2 0 [] 12 0 0),(90,B u9)] [⟨0,2,[aa c_1]⟩,⟨0,12,[aB e3]⟩] 3):=by
      intro u9 hu
      replace h:=hy92 u9 hu
      refine sq h ?_ ?_<;>intro h
      ·refine cq 4 [4] [B false] 19 ?_
       obtain rfl:=sI h
       exact rP [B false]
      ·refine aq 1 ?_
       refine cq 7 [93] [B (e3.Repair==([]:ae))] 51 ?_
       refine sq h ?_ ?_<;>intro h
       ·refine cq 4 [4] [B true] 67 ?_
        obtain rfl:=sI h
        exact rP [B true]
       ·refine aq 1 ?_
        refine cq 5 [94,96] [aa c_1,str e3.Repair] 99 ?_
        obtain⟨r10,hr10,h⟩:=bS h
        refine oq 115 (I r10) rfl (cP (aa1 hr10)) ?_
        refine cq 8 [7,101] [I r10,B (e3.Kind != 3)] 195 ?_
        obtain⟨y11,hy11,hy111,hy112⟩:=bJ h
        have j11:∀u11,y11=.inr u11→Run kF 0 (eX (c_1,i_2) r) (.code NC::[]) (sT 119 [(4,B u11)] [] 1):=by
         intro u11 hu
         replace h:=hy112 u11 hu
         obtain rfl:=sI h
         exact rP [B u11]
        have r11:∀r',y11=.inl r'→∀st,eX (c_1,i_2) r' st→(eX (c_1,i_2) r) st:=fun r' e st hq=>by rw[hy111 r' e] at hq;exact hq
        replace h:=hy11
        refine sp 101 h rfl ?_ ?_<;>intro h
        ·refine cq 4 [105] [B (decide (r10≥0))] 259 ?_
         obtain⟨y12,hy12,hy121,hy122⟩:=bL h
         have j12:∀u12,y12=.inr u12→Run kF 0 (eX (c_1,i_2) r) (.code NC::[]) (sT 119 [(4,B u12)] [] 1):=by
          intro u12 hu
          replace h:=hy122 u12 hu
          exact rf [4] [] (j11 _ (an h) :)
         have r12:∀r',y12=.inl r'→∀st,eX (c_1,i_2) r' st→(eX (c_1,i_2) r) st:=fun r' e st hq=>r11 r' (hy121 r' e) st hq
         replace h:=hy12
         refine sp 105 h rfl ?_ ?_<;>intro h
         ·refine cq 5 [110] [B (r10 != i_2)] 339 ?_
          obtain⟨y13,hy13,hy131,hy132⟩:=bL h
          have j13:∀u13,y13=.inr u13→Run kF 0 (eX (c_1,i_2) r) (.code NC::[]) (sT 119 [(4,B u13)] [] 1):=by
           intro u13 hu
           replace h:=hy132 u13 hu
           exact rf [4] [] (j12 _ (an h) :)
          have r13:∀r',y13=.inl r'→∀st,eX (c_1,i_2) r' st→(eX (c_1,i_2) r) st:=fun r' e st hq=>r12 r' (hy131 r' e) st hq
          replace h:=hy13
          refine sp 110 h rfl ?_ ?_<;>intro h
          ·refine cq 3 [112,113] [.isl false (c_1.Clauses.map au),I r10] 387 ?_
           obtain⟨e14,he14,h⟩:=bS h
           refine oy 403 (.iptr (aB e14) 0) rfl (al rfl rfl rfl (bn rfl rfl rfl rfl he14)) ?_
           refine cq 6 [4] [B (e14.Kind==1)] 483 ?_
           exact rf [4] [] (j13 _ (an h) :)
          ·refine cq 10 [4] [B false] 483 ?_
           exact rf [4] [] (j13 _ (an h) :)
         ·refine cq 15 [4] [B false] 483 ?_
          exact rf [4] [] (j12 _ (an h) :)
        ·refine cq 19 [4] [B false] 483 ?_
         exact rf [4] [] (j11 _ (an h) :)
     have r9:∀r',y9=.inl r'→∀st,eX (c_1,i_2) r' st→(eX (c_1,i_2) r) st:=fun r' e st hq=>by rw[hy91 r' e] at hq;exact hq
     replace h:=hy9
     refine sp 70 h rfl ?_ ?_<;>intro h
     ·refine cq 21 [90] [B true] 403 ?_
      exact rf [1,2,5,90] [1,2] (j9 _ (an h) :)
     ·refine cq 2 [72] [I e3.Within] 115 ?_
      obtain⟨r15,hr15,h⟩:=bS h
      refine oy 131 (B r15) rfl (cP (jq hr15)) ?_
      refine cq 3 [76] [B (!r15)] 179 ?_
      obtain⟨u16,hu16,h⟩:=lJ h
      have j16:Run kF 0 (eX (c_1,i_2) r) (.code H1::.code yJ::[]) (sT 119 [(1,I i_2),(2,.hp 1 0 [] 2 0 0),(5,.hp 2 0 [] 12 0 0),(90,B u16)] [⟨0,2,[aa c_1]⟩,⟨0,12,[aB e3]⟩] 3):=by
       exact rf [1,2,5,90] [1,2] (j9 _ (an h) :)
      replace h:=hu16
      clear hu16
      refine sp 76 h rfl ?_ ?_<;>intro h
      ·refine cq 15 [90] [B true] 403 ?_
       subst h
       exact rf [1,2,5,90] [1,2] (j16 :)
      ·refine cq 4 [80] [B (e3.Kind != 1)] 243 ?_
       obtain⟨u17,hu17,h⟩:=lJ h
       have j17:Run kF 0 (eX (c_1,i_2) r) (.code H1::.code yJ::[]) (sT 119 [(1,I i_2),(2,.hp 1 0 [] 2 0 0),(5,.hp 2 0 [] 12 0 0),(90,B u17)] [⟨0,2,[aa c_1]⟩,⟨0,12,[aB e3]⟩] 3):=by
        subst h
        exact rf [1,2,5,90] [1,2] (j16 :)
       replace h:=hu17
       clear hu17
       refine sp 80 h rfl ?_ ?_<;>intro h
       ·refine cq 4 [84] [B (e3.Amount != 0)] 307 ?_
        obtain⟨u18,hu18,h⟩:=lJ h
        have j18:Run kF 0 (eX (c_1,i_2) r) (.code H1::.code yJ::[]) (sT 119 [(1,I i_2),(2,.hp 1 0 [] 2 0 0),(5,.hp 2 0 [] 12 0 0),(90,B u18)] [⟨0,2,[aa c_1]⟩,⟨0,12,[aB e3]⟩] 3):=by
         subst h
         exact rf [1,2,5,90] [1,2] (j17 :)
        replace h:=hu18
        clear hu18
        refine sp 84 h rfl ?_ ?_<;>intro h
        ·refine cq 7 [90] [B true] 403 ?_
         subst h
         exact rf [1,2,5,90] [1,2] (j18 :)
        ·refine cq 7 [90] [B (e3.Within != 0)] 403 ?_
         subst h
         exact rf [1,2,5,90] [1,2] (j18 :)
       ·refine cq 11 [90] [B false] 403 ?_
        subst h
        exact rf [1,2,5,90] [1,2] (j17 :)
   have r7:∀r',y7=.inl r'→∀st,eX (c_1,i_2) r' st→(eX (c_1,i_2) r) st:=fun r' e st hq=>by rw[hy71 r' e] at hq;exact hq
   replace h:=hy7
   refine sp 46 h rfl ?_ ?_<;>intro h
   ·refine cq 20 [65] [B true] 403 ?_
    exact rf [1,2,5,65] [1,2] (j7 _ (an h) :)
   ·refine cq 3 [48,49] [I e3.Other,I (ac ((len c_1.Parties) - 1))] 147 ?_
    obtain⟨r19,hr19,h⟩:=bS h
    refine oy 163 (B r19) rfl (cP (jq hr19)) ?_
    refine cq 3 [53] [B (!r19)] 211 ?_
    obtain⟨y20,hy20,hy201,hy202⟩:=bL h
    have j20:∀u20,y20=.inr u20→Run kF 0 (eX (c_1,i_2) r) (.code NB::.code (cR (cR (cR (cR (cR mQ)))))::[]) (sT 119 [(1,I i_2),(2,.hp 1 0 [] 2 0 0),(5,.hp 2 0 [] 12 0 0),(65,B u20)] [⟨0,2,[aa c_1]⟩,⟨0,12,[aB e3]⟩] 3):=by
     intro u20 hu
     replace h:=hy202 u20 hu
     exact rf [1,2,5,65] [1,2] (j7 _ (an h) :)
    have r20:∀r',y20=.inl r'→∀st,eX (c_1,i_2) r' st→(eX (c_1,i_2) r) st:=fun r' e st hq=>r7 r' (hy201 r' e) st hq
    replace h:=hy20
    refine sp 53 h rfl ?_ ?_<;>intro h
    ·refine cq 13 [65] [B true] 403 ?_
     exact rf [1,2,5,65] [1,2] (j20 _ (an h) :)
    ·refine cq 7 [60] [B (e3.Party==e3.Other)] 323 ?_
     obtain⟨y21,hy21,hy211,hy212⟩:=bL h
     have j21:∀u21,y21=.inr u21→Run kF 0 (eX (c_1,i_2) r) (.code NB::.code (cR (cR (cR (cR (cR mQ)))))::[]) (sT 119 [(1,I i_2),(2,.hp 1 0 [] 2 0 0),(5,.hp 2 0 [] 12 0 0),(65,B u21)] [⟨0,2,[aa c_1]⟩,⟨0,12,[aB e3]⟩] 3):=by
      intro u21 hu
      replace h:=hy212 u21 hu
      exact rf [1,2,5,65] [1,2] (j20 _ (an h) :)
     have r21:∀r',y21=.inl r'→∀st,eX (c_1,i_2) r' st→(eX (c_1,i_2) r) st:=fun r' e st hq=>r20 r' (hy211 r' e) st hq
     replace h:=hy21
     refine sp 60 h rfl ?_ ?_<;>intro h
     ·refine cq 6 [65] [B true] 403 ?_
      exact rf [1,2,5,65] [1,2] (j21 _ (an h) :)
     ·refine cq 2 [62] [ar e3.When] 355 ?_
      obtain⟨r22,hr22,h⟩:=bS h
      refine oy 371 (B r22) rfl (cP (afG hr22)) ?_
      refine cq 3 [65] [B (!r22)] 403 ?_
      exact rf [1,2,5,65] [1,2] (j21 _ (an h) :)
 have r5:∀r',y5=.inl r'→∀st,eX (c_1,i_2) r' st→(eX (c_1,i_2) r) st:=fun r' e st hq=>by rw[hy51 r' e] at hq;exact hq
 replace h:=hy5
 refine sp 21 h rfl ?_ ?_<;>intro h
 ·refine cq 20 [40] [B true] 609 ?_
  exact rf [1,2,5,6,40] [1,113] (j5 _ (an h) :)
 ·refine cq 3 [22,24] [aa c_1,str e3.Id] 353 ?_
  obtain⟨r23,hr23,h⟩:=bS h
  refine oy 369 (I r23) rfl (cP (aa1 hr23)) ?_
  refine cq 4 [29] [B (r23 != i_2)] 433 ?_
  obtain⟨y24,hy24,hy241,hy242⟩:=bL h
  have j24:∀u24,y24=.inr u24→Run kF 0 (eX (c_1,i_2) r) (.code (cR (cL (cR (cR (cR mQ)))))::.code (cR (cR (cR (cR mQ))))::[]) (sT 119 [(1,I i_2),(2,.hp 1 0 [] 2 0 0),(5,.hp 2 0 [] 12 0 0),(6,I (ac ((len c_1.Parties) - 1))),(40,B u24)] [⟨0,2,[aa c_1]⟩,⟨0,12,[aB e3]⟩] 3):=by
   intro u24 hu
   replace h:=hy242 u24 hu
   exact rf [1,2,5,6,40] [1,2] (j5 _ (an h) :)
  have r24:∀r',y24=.inl r'→∀st,eX (c_1,i_2) r' st→(eX (c_1,i_2) r) st:=fun r' e st hq=>r5 r' (hy241 r' e) st hq
  replace h:=hy24
  refine sp 29 h rfl ?_ ?_<;>intro h
  ·refine cq 12 [40] [B true] 609 ?_
   exact rf [1,2,5,6,40] [1,113] (j24 _ (an h) :)
  ·refine cq 2 [31] [str e3.Action] 465 ?_
   obtain⟨r25,hr25,h⟩:=bS h
   refine oy 481 (B r25) rfl (cP (G5 hr25)) ?_
   refine cq 3 [35] [B (!r25)] 529 ?_
   obtain⟨y26,hy26,hy261,hy262⟩:=bL h
   have j26:∀u26,y26=.inr u26→Run kF 0 (eX (c_1,i_2) r) (.code (cR (cL (cR (cR (cR mQ)))))::.code (cR (cR (cR (cR mQ))))::[]) (sT 119 [(1,I i_2),(2,.hp 1 0 [] 2 0 0),(5,.hp 2 0 [] 12 0 0),(6,I (ac ((len c_1.Parties) - 1))),(40,B u26)] [⟨0,2,[aa c_1]⟩,⟨0,12,[aB e3]⟩] 3):=by
    intro u26 hu
    replace h:=hy262 u26 hu
    exact rf [1,2,5,6,40] [1,2] (j24 _ (an h) :)
   have r26:∀r',y26=.inl r'→∀st,eX (c_1,i_2) r' st→(eX (c_1,i_2) r) st:=fun r' e st hq=>r24 r' (hy261 r' e) st hq
   replace h:=hy26
   refine sp 35 h rfl ?_ ?_<;>intro h
   ·refine cq 6 [40] [B true] 609 ?_
    exact rf [1,2,5,6,40] [1,113] (j26 _ (an h) :)
   ·refine cq 2 [37] [I e3.Kind] 561 ?_
    obtain⟨r27,hr27,h⟩:=bS h
    refine oy 577 (B r27) rfl (cP (jq hr27)) ?_
    refine cq 3 [40] [B (!r27)] 609 ?_
    exact rf [1,2,5,6,40] [1,113] (j26 _ (an h) :)
theorem ZF {G:cb}:b9 G 100 JC:=gT 2 0 (aN wn (aN kt (aN ZA (aN Yj bB)))) cn Tryz.func100 (fun a r h=>abY a.1 a.2 r h)
def HO:(Condition×(List ae))→List V:=cA bH (oA (o8 1 str))
def HQ (r:(List ae)):V×List V:=(.usl 1 (r.map str),[.dead])
noncomputable def DR (cQ:(Condition×(List ae))→Option (List ae)):Ent:=bm [false,true] HO HQ cQ
theorem Wt (cQ:(Condition×(List ae))→Option (List ae)){x}{r}(h:cQ x=some r):(DR cQ).F (HO x)=some (HQ r):=aK (aO dP (aL (ft bP))) h
noncomputable def Jv :=DR (aJ pg)
theorem aaZ {c_3:Condition}{d5:List ae}{r}(h:Ws c_3 d5=some r):Jv.F (HO (c_3,d5))=some (HQ r):=Wt (aJ pg) h
noncomputable def RL :=aI Tryz.f142
noncomputable def LF (cQ:(Condition×(List ae))→Option (List ae)):Env:=cm [(142,(DR cQ))]
def HP (cQ:(Condition×(List ae))→Option (List ae))(x:Condition×(List ae))(r:(List ae)):St→Prop:=QF (LF cQ) Tryz.f142 [false,true] (HO x) (HQ r)
theorem RM (cQ:(Condition×(List ae))→Option (List ae))(c_3:Condition)(d5:List ae):cg (LF cQ) 1 (HP cQ (c_3,d5)) (cL (cL (cR (cL (cR (cR RL)))))) 0 (ph cQ c_3 d5) (fun u=>(sO 27 [(1,.hs 2 0 [] 1 0 (u.map str).length)] [none,some ⟨0,1,u.map str⟩] 3)) fun x4=>(sO 27 [(1,.hs 2 0 [] 1 0 (x4.2.map str).length),(16,.isl false (c_3.Parts.map aH)),(17,I (len c_3.Parts)),(18,I x4.1)] [none,some ⟨0,1,x4.2.map str⟩] 3):=ef (HR cQ c_3 d5) fun {Q K} hK self ih x4 y h hr hn=>by
 unfold mh at h
 refine cq 5 [19] [B (decide (x4.1<(len c_3.Parts)))] 19 ?_
 refine sq h ?_ ?_<;>intro h
 ·refine aq 1 ?_
  refine aq 4 ?_
  obtain⟨e5,he5,h⟩:=bS h
  refine oq 35 (.iptr (ar e5) 0) rfl (al rfl rfl rfl (bn rfl rfl (dI e5) rfl he5)) ?_
  refine ck 2 [6,21] [] [51] [] [.hp 51 0 [] 4 0 0,ar e5] [some ⟨0,4,[.agg [I (0),str ([]),I (0),.isl true []]]⟩] 67 (by kernel_rfl) ?_
  refine gk 51 [.agg [I (0),str ([]),I (0),.usl 4 (([]).map aj)]] rfl rfl (aQ (iw (aQ (.refl _) (aQ (.refl _) (aQ (.refl _) (aQ (.nil _) fh))))) fh) ?_
  refine ck 5 [22,23] [] [51] [] [ar e5,.hs 2 0 [] 1 0 (x4.2.map str).length] [some ⟨2,4,[ar e5]⟩] 115 (by kernel_rfl) ?_
  obtain⟨r6,hr6,h⟩:=bS h
  refine oq 131 (.hs 115 0 [] 1 0 (r6.map str).length) rfl (bK rfl rfl (b8 rfl rfl rfl (bg (bW rfl) (iE (iI rfl (eJ (path:=[]) rfl rfl aF rfl)) dj)) (Wt cQ hr6) (.inr rfl) (gE rfl rfl rfl mT dK) rfl rfl rfl)) ?_
  refine cq 7 [1,18] [.hs 115 0 [] 1 0 (r6.map str).length,I (ac (x4.1+1))] 179 ?_
  refine cX ?_
  exact rg [1,16,17,18] [180,115] (ih _ _ h hr hn :)
 ·refine aq 1 ?_
  exact rg [1] [20,2] (hn _ (an h) :) (hk:=hK)
theorem abO (cQ:(Condition×(List ae))→Option (List ae))(c_3:Condition)(d5:List ae)(r:(List ae))(h:zL cQ c_3 d5=some r):bx (LF cQ) Tryz.f142 [false,true] 1 (HO (c_3,d5)) (HQ r):=by
 show Run _ _ (HP cQ (c_3,d5) r) [.code RL] _
 refine rI 27 [(0,ar c_3),(1,.hs 1 0 [] 1 0 (d5.map str).length)] [(1,some ⟨0,1,d5.map str⟩)] 2 ?_
 unfold zL at h
 refine ck 12 [2,9] [] [2] [] [.hp 2 0 [] 4 0 0,B (c_3.Op==2)] [some ⟨0,4,[ar c_3]⟩] 82 (by kernel_rfl) ?_
 obtain⟨y3,hy3,hy31,hy32⟩:=bJ h
 have j3:∀u3,y3=.inr u3→Run (LF cQ) 1 (HP cQ (c_3,d5) r) (.code (cR (cR RL))::[]) (sO 27 [(1,.hs 2 0 [] 1 0 (u3.map str).length),(2,.hp 3 0 [] 4 0 0)] [none,some ⟨0,1,u3.map str⟩,some ⟨0,4,[ar c_3]⟩] 4):=by
  intro u3 hu
  replace h:=hy32 u3 hu
  refine cq 5 [16] [.isl false (c_3.Parts.map aH)] 36 ?_
  refine oq 52 (I (len c_3.Parts)) rfl (bw rfl rfl rfl (bR rfl)) ?_
  refine cq 3 [18] [I (0)] 68 ?_
  obtain⟨y7,hy7,hy71,hy72⟩:=bJ h
  refine bM rfl ?_
  refine rg [1,16,17,18] [69,2] (RM cQ c_3 d5 rfl (0,u3) _ hy7 (fun r' e st hq=>by rw[hy71 r' e] at hq;exact hq) fun u7 hu=>?_)
  replace h:=hy72 u7 hu
  refine cq 5 [4] [.hs 2 0 [] 1 0 (u7.map str).length] 35 ?_
  obtain rfl:=sI h
  exact ca rfl ⟨_,fin (vs:=[.hs 2 0 [] 1 0 (u7.map str).length]) rfl (eU (gi rfl (dx rfl rfl)) d3) rfl (cz (jk rfl (lH rfl) eP)),sM eI⟩
 have r3:∀r',y3=.inl r'→∀st,HP cQ (c_3,d5) r' st→(HP cQ (c_3,d5) r) st:=fun r' e st hq=>by rw[hy31 r' e] at hq;exact hq
 replace h:=hy3
 refine sq h ?_ ?_<;>intro h
 ·refine cq 4 [10,12] [.hs 1 0 [] 1 0 (d5.map str).length,str c_3.Name] 130 ?_
  refine oq 146 (.hs 130 0 [] 1 0 1) rfl (eH rfl (kH (f:=I) (xs:=[]) (z:=str ([])) (es:=[str c_3.Name]) (ws:=[str c_3.Name]) rfl rfl rfl (by decide) rfl (dX rfl) rfl)) ?_
  obtain⟨a8,ha8,h⟩:=bS h
  refine oq 162 (.hs 146 0 [] 1 0 (a8.map str).length) rfl (jH rfl rfl rfl rfl rfl (np (path:=[]) (f:=str) (xs:=d5) (ys:=[c_3.Name]) rfl rfl (sf rfl rfl rfl) rfl rfl rfl aF rfl (by decide) mF ha8 rfl ro)) ?_
  refine cq 2 [1] [.hs 146 0 [] 1 0 (a8.map str).length] 178 ?_
  exact rg [1,2] [179,146,2] (j3 _ (an h) :)
 ·refine aq 1 ?_
  exact rg [1,2] [83,1,2] (j3 _ (an h) :)
theorem Zy {G:cb}:b9 G 142 Jv:=jL fun cQ g_Ffi=>gT 2 1 (aN g_Ffi bB) cn Tryz.func142 (fun a r h=>abO cQ a.1 a.2 r h)
def OZ:Shelf.Ren:=⟨fun | 190=>177 | 125=>192 | 258=>191 | 128=>214 | 129=>215 | 302=>205 | 303=>206 | 304=>207 | 305=>208 | 306=>209 | 307=>210 | 308=>211 | 309=>212 | 310=>213 | 333=>226 | 329=>227 | 330=>228 | 334=>229 | 335=>230 | 336=>231 | 344=>236 | n=>n,fun | 31=>22 | 9=>9 | 3=>3 | 46=>158 | 0=>0 | 51=>195 | 53=>181 | 4=>4 | 183=>188 | 182=>187 | 131=>43 | 5=>5 | 218=>199 | 222=>203 | 228=>211 | 229=>212 | n=>n,fun | n=>n⟩
theorem aaN:Go.Proofs.Lays.n190 Tryz.prog OZ where
 mixed:=by kernel_rfl
 f125:=Tryz.func192.trans (congrArg some (by kernel_rfl))
 f128:=Tryz.func214.trans (congrArg some (by kernel_rfl))
 f129:=Tryz.func215.trans (congrArg some (by kernel_rfl))
 f190:=Tryz.func177.trans (congrArg some (by kernel_rfl))
 f258:=Tryz.func191.trans (congrArg some (by kernel_rfl))
 f302:=Tryz.func205.trans (congrArg some (by kernel_rfl))
 f303:=Tryz.func206.trans (congrArg some (by kernel_rfl))
 f304:=Tryz.func207.trans (congrArg some (by kernel_rfl))
 f305:=Tryz.func208.trans (congrArg some (by kernel_rfl))
 f306:=Tryz.func209.trans (congrArg some (by kernel_rfl))
 f307:=Tryz.func210.trans (congrArg some (by kernel_rfl))
 f308:=Tryz.func211.trans (congrArg some (by kernel_rfl))
 f309:=Tryz.func212.trans (congrArg some (by kernel_rfl))
 f310:=Tryz.func213.trans (congrArg some (by kernel_rfl))
 f329:=Tryz.func227.trans (congrArg some (by kernel_rfl))
 f330:=Tryz.func228.trans (congrArg some (by kernel_rfl))
 f333:=Tryz.func226.trans (congrArg some (by kernel_rfl))
 f334:=Tryz.func229.trans (congrArg some (by kernel_rfl))
 f335:=Tryz.func230.trans (congrArg some (by kernel_rfl))
 f336:=Tryz.func231.trans (congrArg some (by kernel_rfl))
 f344:=Tryz.func236.trans (congrArg some (by kernel_rfl))
 t0:=Tryz.underlying0
 a0:=Tryz.isAgg0
 z0:=Tryz.sizeOf0
 v0:=Tryz.zeroValue0
 t3:=Tryz.underlying3
 a3:=Tryz.isAgg3
 z3:=Tryz.sizeOf3
 v3:=Tryz.zeroValue3
 t4:=Tryz.underlying4
 a4:=Tryz.isAgg4
 z4:=Tryz.sizeOf4
 v4:=Tryz.zeroValue4
 t5:=Tryz.underlying5
 a5:=Tryz.isAgg5
 z5:=Tryz.sizeOf5
 v5:=Tryz.zeroValue5
 t9:=Tryz.underlying9
 a9:=Tryz.isAgg9
 z9:=Tryz.sizeOf9
 v9:=Tryz.zeroValue9
 t31:=Tryz.underlying22
 a31:=Tryz.isAgg22
 z31:=Tryz.sizeOf22
 v31:=Tryz.zeroValue22
 t46:=Tryz.underlying158
 a46:=Tryz.isAgg158
 z46:=Tryz.sizeOf158
 v46:=Tryz.zeroValue158
 t51:=Tryz.underlying195
 a51:=Tryz.isAgg195
 z51:=Tryz.sizeOf195
 v51:=Tryz.zeroValue195
 t53:=Tryz.underlying181
 a53:=Tryz.isAgg181
 z53:=Tryz.sizeOf181
 v53:=Tryz.zeroValue181
 t131:=Tryz.underlying43
 a131:=Tryz.isAgg43
 z131:=Tryz.sizeOf43
 v131:=Tryz.zeroValue43
 t182:=Tryz.underlying187
 a182:=Tryz.isAgg187
 z182:=Tryz.sizeOf187
 v182:=Tryz.zeroValue187
 t183:=Tryz.underlying188
 a183:=Tryz.isAgg188
 z183:=Tryz.sizeOf188
 v183:=Tryz.zeroValue188
 t218:=Tryz.underlying199
 a218:=Tryz.isAgg199
 z218:=Tryz.sizeOf199
 v218:=Tryz.zeroValue199
 t222:=Tryz.underlying203
 a222:=Tryz.isAgg203
 z222:=Tryz.sizeOf203
 v222:=Tryz.zeroValue203
 t228:=Tryz.underlying211
 a228:=Tryz.isAgg211
 z228:=Tryz.sizeOf211
 v228:=Tryz.zeroValue211
 t229:=Tryz.underlying212
 a229:=Tryz.isAgg212
 z229:=Tryz.sizeOf212
 v229:=Tryz.zeroValue212
noncomputable def xh :=bm [true] (oA (o8 1 str)) (fun r=>(.tup [],[.usl 1 (r.map str)])) vU
theorem aaM {l:List ae}{r}(h:vU l=some r):xh.F [.usl 1 (l.map str)]=some (.tup [],[.usl 1 (r.map str)]):=aK (ea:=oA (o8 1 str)) (aL (ft bP)) h
theorem Qk {G:cb}:b9 G 177 xh:=Sh aaN
def FM:(List ae)→List V:=oA (o8 1 str)
def FO (r:(List ae)):V×List V:=(.usl 1 (r.map str),[.dead])
noncomputable def CY :=bm [true] FM FO fun x=>CX x
theorem ad8 {s_2:List ae}{r}(h:CX s_2=some r):CY.F (FM s_2)=some (FO r):=aK (aL (ft bP)) h
noncomputable def MT :=aI Tryz.f178
noncomputable abbrev I9 :=cL (cL (cR (cL (cR (cL (cR (cL (cL (cR (cL (cL (cR (cL (cR (cR MT)))))))))))))))
noncomputable def xX :=cm []
def FN (x:(List ae))(r:(List ae)):St→Prop:=QF xX Tryz.f178 [true] (FM x) (FO r)
theorem Po (s_2:List ae)(x2:Int):cg xX 1 (FN s_2) I9 2 (li s_2 x2) (fun u=>(sO 61 [(0,.hs 2 0 [] 1 0 (u.2.map str).length),(3,I u.1)] [none,some ⟨0,1,u.2.map str⟩] 3)) fun x6=>(sO 61 [(0,.hs 2 0 [] 1 0 (x6.2.2.map str).length),(3,I x6.1),(4,.hs 2 0 [] 1 (0+Int.toNat x2) (Int.toNat (len s_2) - Int.toNat x2)),(5,I x6.2.1)] [none,some ⟨0,1,x6.2.2.map str⟩] 3):=ef (AM s_2 x2) fun {Q K} hK self ih x6 y h hr hn=>by
 unfold lX at h
 refine cq 8 [32] [B (decide (x6.2.1<(((Int.toNat (len s_2) - Int.toNat x2):Nat):Int)))] 67 ?_
 refine sq h ?_ ?_<;>intro h
 ·refine aq 1 ?_
  refine aq 3 ?_
  refine d7 [0,0,3,7,0,0,32,112,240,511] rfl (by decide +kernel) ?_
  refine dk 2 [36,35] [I x6.2.1,.hs 2 0 [] 1 (0+Int.toNat x2) (Int.toNat (len s_2) - Int.toNat x2)] ?_
  obtain⟨e7,he7,h⟩:=bS h
  refine dq [2] [] (.hp 2 0 [] 1 ((0+Int.toNat x2)+Int.toNat x6.2.1) 0) rfl (al rfl rfl rfl (Sr (xs:=x6.2.2) rfl rfl he7)) ?_
  refine dq [2] [] (str e7) rfl (aU rfl (fU (path:=[]) rfl rfl rfl aF (Ob (f:=str) (xs:=x6.2.2) he7) rfl rfl rfl)) ?_
  refine dk 3 [41,40,39] [I (ac (x6.2.1 - 1)),I x6.2.1,.hs 2 0 [] 1 (0+Int.toNat x2) (Int.toNat (len s_2) - Int.toNat x2)] ?_
  obtain⟨e8,he8,h⟩:=bS h
  refine dq [2] [] (.hp 2 0 [] 1 ((0+Int.toNat x2)+Int.toNat (ac (x6.2.1 - 1))) 0) rfl (al rfl rfl rfl (Sr (xs:=x6.2.2) rfl rfl he8)) ?_
  refine dq [2] [] (str e8) rfl (aU rfl (fU (path:=[]) rfl rfl rfl aF (Ob (f:=str) (xs:=x6.2.2) he8) rfl rfl rfl)) ?_
  refine dk 1 [44] [B (!(e7==e8))] ?_
  refine de 227 rfl rfl ?_
  obtain⟨y9,hy9,hy91,hy92⟩:=bL h
  have j9:∀u9,y9=.inr u9→Run xX 1 Q (.blk 3::.code (cR (cR I9))::.lp I9::.blk 2::K) (sO 61 [(0,.hs 2 0 [] 1 0 (u9.2.map str).length),(3,I u9.1),(4,.hs 2 0 [] 1 (0+Int.toNat x2) (Int.toNat (len s_2) - Int.toNat x2)),(5,I x6.2.1)] [none,some ⟨0,1,u9.2.map str⟩] 3):=by
   intro u9 hu
   replace h:=hy92 u9 hu
   refine cq 6 [5] [I (ac (x6.2.1+1))] 51 ?_
   refine cX ?_
   exact rg [0,3,4,5] [52,2] (ih _ _ h hr hn :)
  have r9:∀r',y9=.inl r'→∀st,FN s_2 r' st→Q st:=fun r' e st hq=>hr r' (hy91 r' e) st hq
  replace h:=hy9
  refine sq h ?_ ?_<;>intro h
  ·refine cq 6 [45,46,47,48] [.hs 2 0 [] 1 0 (x6.2.2.map str).length,I x6.1,.hs 2 0 [] 1 (0+Int.toNat x2) (Int.toNat (len s_2) - Int.toNat x2),I x6.2.1] 291 ?_
   obtain⟨e10,he10,h⟩:=bS h
   refine oq 307 (.hp 2 0 [] 1 ((0+Int.toNat x2)+Int.toNat x6.2.1) 0) rfl (al rfl rfl rfl (Sr (xs:=x6.2.2) rfl rfl he10)) ?_
   refine oq 323 (str e10) rfl (aU rfl (fU (path:=[]) rfl rfl rfl aF (Ob (f:=str) (xs:=x6.2.2) he10) rfl rfl rfl)) ?_
   obtain⟨e11,he11,h⟩:=bS h
   refine oq 339 (.hp 2 0 [] 1 (0+Int.toNat x6.1) 0) rfl (al rfl rfl rfl (ce (f:=str) (xs:=x6.2.2) rfl rfl rfl he11)) ?_
   refine o0 355 rfl rfl (et rfl rfl (dF (path:=[]) (pl:=true) (e':=str e10) (es2':=(bI x6.2.2 x6.1 e10).map str) rfl (ba rfl) rfl rfl rfl aF (bO (f:=str) (xs:=x6.2.2) he11) rfl rfl rfl (gB (f:=str) (xs:=x6.2.2) (y:=e10)) cJ 0 rfl)) ?_
   try rw[←fK (f:=str) (xs:=x6.2.2) (i:=x6.1) (z:=e10)]
   refine cq 6 [3] [I (ac (x6.1+1))] 403 ?_
   exact rg [0,3,4,5] [404,2] (j9 _ (an h) :)
  ·refine aq 1 ?_
   exact rg [0,3,4,5] [228,2] (j9 _ (an h) :)
 ·refine aq 1 ?_
  exact rg [0,3] [68,2] (hn _ (an h) :) (hk:=hK)
theorem Pn (s_2:List ae):cg xX 1 (FN s_2) (cL (cL (cR (cL (cR (cR MT)))))) 0 (rT s_2) (fun u=>(sO 61 [(0,.hs 2 0 [] 1 0 (u.map str).length)] [none,some ⟨0,1,u.map str⟩] 3)) fun x2=>(sO 61 [(0,.hs 2 0 [] 1 0 (s_2.map str).length),(3,I x2)] [none,some ⟨0,1,s_2.map str⟩] 3):=ef (AL s_2) fun {Q K} hK self ih x2 y h hr hn=>by
 unfold lW at h
 refine cq 5 [10,11] [I x2,.hs 2 0 [] 1 0 (s_2.map str).length] 35 ?_
 refine oq 51 (I (len s_2)) rfl (bw rfl rfl rfl (mW (f:=str) (xs:=s_2) rfl rfl)) ?_
 refine cq 2 [13] [B (decide (x2<(len s_2)))] 67 ?_
 refine sq h ?_ ?_<;>intro h
 ·refine aq 1 ?_
  refine aq 3 ?_
  refine d7 [0,0,3,7,0,0,32,112,240,511] rfl (by decide +kernel) ?_
  refine dk 2 [17,16] [I x2,.hs 2 0 [] 1 0 (s_2.map str).length] ?_
  obtain⟨e3,he3,h⟩:=bS h
  refine dq [2] [] (.hp 2 0 [] 1 (0+Int.toNat x2) 0) rfl (al rfl rfl rfl (ce (f:=str) (xs:=s_2) rfl rfl rfl he3)) ?_
  refine dq [2] [] (str e3) rfl (aU rfl (fU (path:=[]) rfl rfl rfl aF (bO (f:=str) (xs:=s_2) he3) rfl rfl rfl)) ?_
  refine dk 3 [22,21,20] [I (ac (x2 - 1)),I x2,.hs 2 0 [] 1 0 (s_2.map str).length] ?_
  obtain⟨e4,he4,h⟩:=bS h
  refine dq [2] [] (.hp 2 0 [] 1 (0+Int.toNat (ac (x2 - 1))) 0) rfl (al rfl rfl rfl (ce (f:=str) (xs:=s_2) rfl rfl rfl he4)) ?_
  refine dq [2] [] (str e4) rfl (aU rfl (fU (path:=[]) rfl rfl rfl aF (bO (f:=str) (xs:=s_2) he4) rfl rfl rfl)) ?_
  refine dk 1 [25] [B (e3==e4)] ?_
  refine de 227 rfl rfl ?_
  refine sq h ?_ ?_<;>intro h
  ·refine cq 4 [26,27] [.hs 2 0 [] 1 0 (s_2.map str).length,I x2] 259 ?_
   obtain⟨s5,hs5,h⟩:=bS h
   refine oq 275 (.hs 2 0 [] 1 (0+Int.toNat x2) (Int.toNat (len s_2) - Int.toNat x2)) rfl (iG rfl rfl rfl rfl (vQ (f:=str) (xs:=s_2) rfl rfl rfl rfl (ZT rfl) hs5)) ?_
   refine cq 8 [4,5] [.hs 2 0 [] 1 (0+Int.toNat x2) (Int.toNat (len s_2) - Int.toNat x2),I (1)] 307 ?_
   obtain⟨y15,hy15,hy151,hy152⟩:=bL h
   refine bM rfl ?_
   refine rg [0,3,4,5] [308,2] (Po s_2 x2 rfl (x2,1,s_2) _ hy15 (fun r' e st hq=>hr r' (hy151 r' e) st hq) fun u15 hu=>?_)
   replace h:=hy152 u15 hu
   refine cq 4 [54,55] [.hs 2 0 [] 1 0 (u15.2.map str).length,I u15.1] 35 ?_
   obtain⟨s16,hs16,h⟩:=bS h
   refine oq 51 (.hs 2 0 [] 1 (0+Int.toNat u15.1) (Int.toNat (len u15.2) - Int.toNat u15.1)) rfl (iG rfl rfl rfl rfl (vQ (f:=str) (xs:=u15.2) rfl rfl rfl rfl (ZT rfl) hs16)) ?_
   obtain⟨k17,hk17,h⟩:=bS h
   refine o0 67 rfl rfl (acn rfl rfl (agj (f:=str) (xs:=u15.2) (z0:=[]) rfl rfl rfl rfl (by decide) nU hk17)) ?_
   try rw[show (u15.2.map str).length=(k17.map str).length from acj hk17]
   refine cq 5 [57,58] [.hs 2 0 [] 1 0 (k17.map str).length,I u15.1] 99 ?_
   obtain⟨s18,hs18,h⟩:=bS h
   refine oq 115 (.hs 2 0 [] 1 (0+Int.toNat (0)) (Int.toNat u15.1 - Int.toNat (0))) rfl (iG rfl rfl rfl rfl (vQ (f:=str) (xs:=k17) rfl rfl rfl rfl rfl hs18)) ?_
   refine cq 2 [2] [.hs 2 0 [] 1 (0+Int.toNat (0)) (Int.toNat u15.1 - Int.toNat (0))] 131 ?_
   obtain⟨p19,hp19,h⟩:=bS h
   exact ca rfl (hr _ (an h) _ ⟨_,fin (vs:=[.hs 2 0 [] 1 (0+Int.toNat (0)) (Int.toNat u15.1 - Int.toNat (0))]) rfl (eU (gi rfl (WB (path:=[]) (f:=str) (xs:=k17) rfl rfl aF hp19 rfl ro)) d3) rfl (jk rfl (lH rfl) eP),sM eI⟩)
  ·refine aq 1 ?_
   refine cq 6 [3] [I (ac (x2+1))] 275 ?_
   refine cX ?_
   exact rg [0,3] [276,2] (ih _ _ h hr hn :)
 ·refine aq 1 ?_
  exact rg [0] [68,2] (hn _ (an h) :) (hk:=hK)
theorem YF (s_2:List ae)(r:(List ae))(h:CX s_2=some r):bx xX Tryz.f178 [true] 1 (FM s_2) (FO r):=by
 show Run _ _ (FN s_2 r) [.code MT] _
 refine rI 61 [(0,.hs 1 0 [] 1 0 (s_2.map str).length)] [(1,some ⟨0,1,s_2.map str⟩)] 2 ?_
 unfold CX at h
 refine cq 8 [6] [.hs 1 0 [] 1 0 (s_2.map str).length] 34 ?_
 refine oq 50 (I (len s_2)) rfl (bw rfl rfl rfl (mW (f:=str) (xs:=s_2) rfl rfl)) ?_
 refine cq 2 [8] [B (decide ((len s_2)<2))] 66 ?_
 refine sq h ?_ ?_<;>intro h
 ·refine cq 5 [2] [.hs 1 0 [] 1 0 (s_2.map str).length] 98 ?_
  obtain rfl:=sI h
  exact ca rfl ⟨_,fin (vs:=[.hs 1 0 [] 1 0 (s_2.map str).length]) rfl (eU (gi rfl (dx rfl rfl)) d3) rfl (jk rfl (lH rfl) eP),sM eI⟩
 ·refine aq 1 ?_
  refine cq 6 [3] [I (1)] 82 ?_
  obtain⟨y20,hy20,hy201,hy202⟩:=bJ h
  refine bM rfl ?_
  refine rg [0,3] [83,1] (Pn s_2 rfl 1 _ hy20 (fun r' e st hq=>by rw[hy201 r' e] at hq;exact hq) fun u20 hu=>?_)
  replace h:=hy202 u20 hu
  refine cq 5 [2] [.hs 2 0 [] 1 0 (u20.map str).length] 35 ?_
  obtain rfl:=sI h
  exact ca rfl ⟨_,fin (vs:=[.hs 2 0 [] 1 0 (u20.map str).length]) rfl (eU (gi rfl (dx rfl rfl)) d3) rfl (jk rfl (lH rfl) eP),sM eI⟩
theorem UU {G:cb}:b9 G 178 CY:=gT 1 1 bB cn Tryz.func178 (fun a r h=>YF a r h)
def Eo:(List ae)→List V:=oA (o8 1 str)
def Ep (r:(List ae)):V×List V:=(.usl 1 (r.map str),[.dead])
noncomputable def B3 :=bm [true] Eo Ep fun x=>B2 x
theorem ac1 {kg:List ae}{r}(h:B2 kg=some r):B3.F (Eo kg)=some (Ep r):=aK (aL (ft bP)) h
noncomputable def ac3 :=aI Tryz.f143
noncomputable def S0 :=cm [(177,xh),(178,CY)]
def ac2 (x:(List ae))(r:(List ae)):St→Prop:=QF S0 Tryz.f143 [true] (Eo x) (Ep r)
theorem XR (kg:List ae)(r:(List ae))(h:B2 kg=some r):bx S0 Tryz.f143 [true] 1 (Eo kg) (Ep r):=by
 show Run _ _ (ac2 kg r) [.code ac3] _
 refine rI 7 [(0,.hs 1 0 [] 1 0 (kg.map str).length)] [(1,some ⟨0,1,kg.map str⟩)] 2 ?_
 unfold B2 at h
 refine cq 7 [3] [.hs 1 0 [] 1 0 (kg.map str).length] 34 ?_
 obtain⟨r2,hr2,h⟩:=bS h
 obtain⟨g3,h⟩:=gG h
 refine oq 50 (.tup []) rfl (bK rfl rfl (b8 rfl rfl rfl (iE (iI rfl (eJ (path:=[]) rfl rfl aF rfl)) dj) (aaM hr2) (.inr rfl) (gE rfl rfl rfl rfl dK) rfl rfl rfl)) ?_
 try rw[eA (f:=str) (xs:=kg) (ys:=r2) g3]
 refine cq 4 [5] [.hs 1 0 [] 1 0 (r2.map str).length] 66 ?_
 obtain⟨r4,hr4,h⟩:=bS h
 refine oq 82 (.hs 66 0 [] 1 0 (r4.map str).length) rfl (bK rfl rfl (b8 rfl rfl rfl (iE (iI rfl (eJ (path:=[]) rfl rfl aF rfl)) dj) (ad8 hr4) (.inr rfl) (gE rfl rfl rfl mT dK) rfl rfl rfl)) ?_
 refine cq 2 [2] [.hs 66 0 [] 1 0 (r4.map str).length] 98 ?_
 obtain rfl:=sI h
 exact ca rfl ⟨_,fin (vs:=[.hs 66 0 [] 1 0 (r4.map str).length]) rfl (eU (gi rfl (dx rfl rfl)) d3) rfl (jk rfl (lH rfl) eP),sM eI⟩
theorem S1 {G:cb}:b9 G 143 B3:=gT 1 1 (aN Qk (aN UU bB)) cn Tryz.func143 (fun a r h=>XR a r h)
def LS:Contract→List V:=oA aV
def LT (r:(List ae)):V×List V:=(.usl 1 (r.map str),[])
noncomputable def zO :=bm [false] LS LT fun x=>Bz x
theorem aa5 {c_1:Contract}{r}(h:Bz c_1=some r):zO.F (LS c_1)=some (LT r):=aK (aL bv) h
noncomputable def aa7 :=aI Tryz.f101
noncomputable def RR :=cm [(142,Jv),(143,B3)]
def aa6 (x:Contract)(r:(List ae)):St→Prop:=QF RR Tryz.f101 [false] (LS x) (LT r)
end Go.Ln
