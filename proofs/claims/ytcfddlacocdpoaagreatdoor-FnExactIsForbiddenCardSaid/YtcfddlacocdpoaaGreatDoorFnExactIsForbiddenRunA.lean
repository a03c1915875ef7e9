/-
  The walks.
-/
import Derived.Test.YtcfddlacocdpoaaGreatDoorFnExactIsForbiddenFun
import Derived.Test.YtcfddlacocdpoaaGreatDoorChecked
set_option maxHeartbeats 4000000
set_option linter.unusedVariables false
set_option linter.unusedSimpArgs false
set_option maxRecDepth 100000
namespace Go.Ln
open Go Go.Proofs
noncomputable abbrev bX:=Checked.mixed Tryz.checked
abbrev bR:=Go.Ln.Ground
abbrev bQ (G:bR):=fA Tryz.prog G
noncomputable abbrev bW:=S0 Tryz.prog
def Cz:((List aa)×Int)→List V:=cA (fa str) (oA I)
def CA (r:Int):V×List V:=(I r,[])
noncomputable def tA :=aZ [false,false] Cz CA fun x=>vi x.1 x.2
theorem P1 {a_1:List aa}{ap:Int}{r}(h:vi a_1 ap=some r):tA.F (Cz (a_1,ap))=some (CA r):=aH (aK (bv ba) (aI bz)) h
noncomputable def P3 :=aF Tryz.f41
noncomputable def Jq :=bW []
def P2 (x:(List aa)×Int)(r:Int):St→Prop:=QF Jq Tryz.f41 [false,false] (Cz x) (CA r)
theorem LF (a_1:List aa)(ap:Int):cX Jq 0 (P2 (a_1,ap)) (cL (cL (cR (cL (cR (cR (cR P3))))))) 0 (rU a_1 ap) (fun u=>(sT 28 [(1,I u)] [] 1)) fun x3=>(sT 28 [(0,.isl false (a_1.map str)),(1,I x3.1),(5,I x3.2)] [] 1):=eI (xC a_1 ap) fun {Q K} hK self ih x3 y h hr hn=>by
 unfold mc at h
 refine cq 5 [12,13] [I x3.2,.isl false (a_1.map str)] 33 ?_
 refine oq 49 (I (len a_1)) rfl (br rfl rfl rfl (bC rfl)) ?_
 refine cq 2 [15] [B (decide (x3.2<(len a_1)))] 65 ?_
 refine sq h ?_ ?_<;>intro h
 ·refine aq 1 ?_
  refine cq 7 [18,19,20] [I x3.1,.isl false (a_1.map str),I x3.2] 113 ?_
  obtain⟨e4,he4,h⟩:=bS h
  refine oq 129 (.iptr (str e4) 0) rfl (au rfl rfl rfl (aV rfl rfl rfl rfl he4)) ?_
  refine cq 10 [1,26] [I (az (x3.1 - (len e4))),B (decide ((az (x3.1 - (len e4)))<0))] 225 ?_
  refine sq h ?_ ?_<;>intro h
  ·refine cq 4 [4] [I (-1)] 241 ?_
   exact ca rfl (hr _ (ai h) _ (qp [I (-1)]))
  ·refine aq 1 ?_
   refine cq 6 [5] [I (az (x3.2+1))] 273 ?_
   refine dQ ?_
   exact rf [0,1,5] [] (ih _ _ h hr hn :)
 ·refine aq 1 ?_
  exact rf [1] [] (hn _ (ai h) :) (hk:=hK)
theorem T9 (a_1:List aa)(ap:Int)(r:Int)(h:vi a_1 ap=some r):bo Jq Tryz.f41 [false,false] 0 (Cz (a_1,ap)) (CA r):=by
 show Run _ _ (P2 (a_1,ap) r) [.code P3] _
 refine rI 28 [(0,.isl false (a_1.map str)),(1,I ap)] [] 1 ?_
 unfold vi at h
 refine cq 8 [6,7] [I ap,.isl false (a_1.map str)] 49 ?_
 refine oq 65 (I (len a_1)) rfl (br rfl rfl rfl (bC rfl)) ?_
 refine cq 9 [1,11] [I (az (ap - (len a_1))),B (decide ((az (ap - (len a_1)))<0))] 129 ?_
 refine sq h ?_ ?_<;>intro h
 ·refine cq 4 [4] [I (-1)] 145 ?_
  obtain rfl:=sI h
  exact rP [I (-1)]
 ·refine aq 1 ?_
  refine cq 6 [5] [I (0)] 145 ?_
  obtain⟨y5,hy5,hy51,hy52⟩:=bJ h
  refine cj rfl ?_
  refine rf [0,1,5] [] (LF a_1 ap rfl ((az (ap - (len a_1))),0) _ hy5 (fun r' e st hq=>by rw[hy51 r' e] at hq;exact hq) fun u5 hu=>?_)
  replace h:=hy52 u5 hu
  refine cq 5 [4] [I u5] 33 ?_
  obtain rfl:=sI h
  exact rP [I u5]
theorem G7 {G:bR}:bQ G 41 tA:=gT 2 0 bq bX Tryz.func41 (fun a r h=>T9 a.1 a.2 r h)
def vf:(Condition×Int)→List V:=cA bg (oA I)
def vg (r:Int):V×List V:=(I r,[])
noncomputable def qH (bh:(Condition×Int)→Option Int):Ent:=aZ [false,false] vf vg bh
theorem Mx (bh:(Condition×Int)→Option Int){x}{r}(h:bh x=some r):(qH bh).F (vf x)=some (vg r):=aH (aK cH (aI bz)) h
def Cl:((List Condition)×Int)→List V:=cA (fa ay) (oA I)
def Cm (r:Int):V×List V:=(I r,[])
noncomputable def zu (bh:(Condition×Int)→Option Int):Ent:=aZ [false,false] Cl Cm fun x=>vh bh x.1 x.2
theorem Zg (bh:(Condition×Int)→Option Int){a_1:List Condition}{ap:Int}{r}(h:vh bh a_1 ap=some r):(zu bh).F (Cl (a_1,ap))=some (Cm r):=aH (aK (bv eV) (aI bz)) h
noncomputable def PR :=aF Tryz.f168
noncomputable def Jo (bh:(Condition×Int)→Option Int):Env:=bW [(134,(qH bh))]
def PQ (bh:(Condition×Int)→Option Int)(x:(List Condition)×Int)(r:Int):St→Prop:=QF (Jo bh) Tryz.f168 [false,false] (Cl x) (Cm r)
theorem LE (bh:(Condition×Int)→Option Int)(a_1:List Condition)(ap:Int):cX (Jo bh) 0 (PQ bh (a_1,ap)) (cL (cL (cR (cL (cR (cR (cR PR))))))) 0 (pQ bh a_1 ap) (fun u=>(sT 27 [(1,I u)] [] 1)) fun x3=>(sT 27 [(0,.isl false (a_1.map ay)),(1,I x3.1),(5,I x3.2)] [] 1):=eI (xB bh a_1 ap) fun {Q K} hK self ih x3 y h hr hn=>by
 unfold ko at h
 refine cq 5 [12,13] [I x3.2,.isl false (a_1.map ay)] 33 ?_
 refine oq 49 (I (len a_1)) rfl (br rfl rfl rfl (bC rfl)) ?_
 refine cq 2 [15] [B (decide (x3.2<(len a_1)))] 65 ?_
 refine sq h ?_ ?_<;>intro h
 ·refine aq 1 ?_
  refine cq 6 [18,19] [.isl false (a_1.map ay),I x3.2] 97 ?_
  obtain⟨e4,he4,h⟩:=bS h
  refine oq 113 (.iptr (bg e4) 0) rfl (au rfl rfl rfl (aV rfl rfl (bB e4) rfl he4)) ?_
  refine cq 2 [21,22] [bg e4,I x3.1] 145 ?_
  obtain⟨r5,hr5,h⟩:=bS h
  refine oq 161 (I r5) rfl (ce rfl rfl (cS rfl rfl rfl (bA (bV rfl) (bA (bV rfl) dB)) (Mx bh hr5) (.inr rfl) eb rfl rfl rfl)) ?_
  refine cq 7 [1,25] [I r5,B (decide (r5<0))] 209 ?_
  refine sq h ?_ ?_<;>intro h
  ·refine cq 4 [4] [I (-1)] 225 ?_
   exact ca rfl (hr _ (ai h) _ (qp [I (-1)]))
  ·refine aq 1 ?_
   refine cq 6 [5] [I (az (x3.2+1))] 257 ?_
   refine dQ ?_
   exact rf [0,1,5] [] (ih _ _ h hr hn :)
 ·refine aq 1 ?_
  exact rf [1] [] (hn _ (ai h) :) (hk:=hK)
theorem T3 (bh:(Condition×Int)→Option Int)(a_1:List Condition)(ap:Int)(r:Int)(h:vh bh a_1 ap=some r):bo (Jo bh) Tryz.f168 [false,false] 0 (Cl (a_1,ap)) (Cm r):=by
 show Run _ _ (PQ bh (a_1,ap) r) [.code PR] _
 refine rI 27 [(0,.isl false (a_1.map ay)),(1,I ap)] [] 1 ?_
 unfold vh at h
 refine cq 8 [6,7] [I ap,.isl false (a_1.map ay)] 49 ?_
 refine oq 65 (I (len a_1)) rfl (br rfl rfl rfl (bC rfl)) ?_
 refine cq 9 [1,11] [I (az (ap - (len a_1))),B (decide ((az (ap - (len a_1)))<0))] 129 ?_
 refine sq h ?_ ?_<;>intro h
 ·refine cq 4 [4] [I (-1)] 145 ?_
  obtain rfl:=sI h
  exact rP [I (-1)]
 ·refine aq 1 ?_
  refine cq 6 [5] [I (0)] 145 ?_
  obtain⟨y6,hy6,hy61,hy62⟩:=bJ h
  refine cj rfl ?_
  refine rf [0,1,5] [] (LE bh a_1 ap rfl ((az (ap - (len a_1))),0) _ hy6 (fun r' e st hq=>by rw[hy61 r' e] at hq;exact hq) fun u6 hu=>?_)
  replace h:=hy62 u6 hu
  refine cq 5 [4] [I u6] 33 ?_
  obtain rfl:=sI h
  exact rP [I u6]
theorem PS {G:bR}(bh:(Condition×Int)→Option Int)(KH:bQ G 134 (qH bh)):bQ G 168 (zu bh):=gT 2 0 (aJ KH bq) bX Tryz.func168 (fun a r h=>T3 bh a.1 a.2 r h)
noncomputable def zt :=qH (aN oK)
theorem Zd {a_1:Condition}{ap:Int}{r}(h:ve a_1 ap=some r):zt.F (vf (a_1,ap))=some (vg r):=Mx (aN oK) h
noncomputable def Zf :=aF Tryz.f134
noncomputable def PO (bh:(Condition×Int)→Option Int):Env:=bW [(168,(zu bh))]
def Ze (bh:(Condition×Int)→Option Int)(x:Condition×Int)(r:Int):St→Prop:=QF (PO bh) Tryz.f134 [false,false] (vf x) (vg r)
theorem T1 (bh:(Condition×Int)→Option Int)(a_1:Condition)(ap:Int)(r:Int)(h:rT bh a_1 ap=some r):bo (PO bh) Tryz.f134 [false,false] 0 (vf (a_1,ap)) (vg r):=by
 show Run _ _ (Ze bh (a_1,ap) r) [.code Zf] _
 refine rI 19 [(0,bg a_1),(1,I ap)] [] 1 ?_
 unfold rT at h
 refine ck 20 [1,2,11] [] [1] [] [I (az (ap - (len a_1.Name))),.hp 1 0 [] 4 0 0,B (decide ((az (ap - (len a_1.Name)))<0))] [some ⟨0,4,[bg a_1]⟩] 161 (by kernel_rfl) ?_
 refine sq h ?_ ?_<;>intro h
 ·refine cq 4 [4] [I (-1)] 177 ?_
  obtain rfl:=sI h
  exact rP [I (-1)]
 ·refine aq 1 ?_
  refine cq 5 [13,14] [.isl false (a_1.Parts.map ay),I (az (ap - (len a_1.Name)))] 209 ?_
  obtain⟨r3,hr3,h⟩:=bS h
  refine oq 225 (I r3) rfl (ce rfl rfl (cS rfl rfl rfl (bA (bV rfl) (bA (bV rfl) dB)) (Zg bh hr3) (.inr rfl) eb rfl rfl rfl)) ?_
  refine cq 8 [1,17] [I r3,B (decide (r3<0))] 273 ?_
  refine sq h ?_ ?_<;>intro h
  ·refine cq 4 [4] [I (-1)] 289 ?_
   obtain rfl:=sI h
   exact rP [I (-1)]
  ·refine aq 1 ?_
   refine cq 5 [4] [I r3] 305 ?_
   obtain rfl:=sI h
   exact rP [I r3]
theorem PP {G:bR}:bQ G 134 zt:=iG fun bh KH=>gT 2 0 (aJ (PS bh KH) bq) bX Tryz.func134 (fun a r h=>T1 bh a.1 a.2 r h)
def Cg:(Clause×Int)→List V:=cA aj (oA I)
def Ci (r:Int):V×List V:=(I r,[])
noncomputable def zp :=aZ [false,false] Cg Ci fun x=>tz x.1 x.2
theorem Y9 {a_1:Clause}{ap:Int}{r}(h:tz a_1 ap=some r):zp.F (Cg (a_1,ap))=some (Ci r):=aH (aK cC (aI bz)) h
noncomputable def Zb :=aF Tryz.f88
noncomputable def PJ :=bW [(134,zt)]
def Za (x:Clause×Int)(r:Int):St→Prop:=QF PJ Tryz.f88 [false,false] (Cg x) (Ci r)
theorem TY (a_1:Clause)(ap:Int)(r:Int)(h:tz a_1 ap=some r):bo PJ Tryz.f88 [false,false] 0 (Cg (a_1,ap)) (Ci r):=by
 show Run _ _ (Za (a_1,ap) r) [.code Zb] _
 refine rI 33 [(0,aj a_1),(1,I ap)] [] 1 ?_
 unfold tz at h
 refine ck 20 [1,2,11] [] [1] [] [I (az (ap - (len a_1.Id))),.hp 1 0 [] 12 0 0,B (decide ((az (ap - (len a_1.Id)))<0))] [some ⟨0,12,[aj a_1]⟩] 161 (by kernel_rfl) ?_
 refine sq h ?_ ?_<;>intro h
 ·refine cq 4 [4] [I (-1)] 177 ?_
  obtain rfl:=sI h
  exact rP [I (-1)]
 ·refine aq 1 ?_
  refine cq 15 [1,18] [I (az ((az (ap - (len a_1.Id))) - (len a_1.Action))),B (decide ((az ((az (ap - (len a_1.Id))) - (len a_1.Action)))<0))] 289 ?_
  refine sq h ?_ ?_<;>intro h
  ·refine cq 4 [4] [I (-1)] 305 ?_
   obtain rfl:=sI h
   exact rP [I (-1)]
  ·refine aq 1 ?_
   refine cq 5 [20,21] [bg a_1.When,I (az ((az (ap - (len a_1.Id))) - (len a_1.Action)))] 337 ?_
   obtain⟨r3,hr3,h⟩:=bS h
   refine oq 353 (I r3) rfl (cP (Zd hr3)) ?_
   refine cq 8 [1,24] [I r3,B (decide (r3<0))] 401 ?_
   refine sq h ?_ ?_<;>intro h
   ·refine cq 4 [4] [I (-1)] 417 ?_
    obtain rfl:=sI h
    exact rP [I (-1)]
   ·refine aq 1 ?_
    refine cq 15 [1,31] [I (az (r3 - (len a_1.Repair))),B (decide ((az (r3 - (len a_1.Repair)))<0))] 529 ?_
    refine sq h ?_ ?_<;>intro h
    ·refine cq 4 [4] [I (-1)] 545 ?_
     obtain rfl:=sI h
     exact rP [I (-1)]
    ·refine aq 1 ?_
     refine cq 5 [4] [I (az (r3 - (len a_1.Repair)))] 561 ?_
     obtain rfl:=sI h
     exact rP [I (az (r3 - (len a_1.Repair)))]
theorem PK {G:bR}:bQ G 88 zp:=gT 2 0 (aJ PP bq) bX Tryz.func88 (fun a r h=>TY a.1 a.2 r h)
def Cj:((List Clause)×Int)→List V:=cA (fa aj) (oA I)
def Ck (r:Int):V×List V:=(I r,[])
noncomputable def zr :=aZ [false,false] Cj Ck fun x=>zq x.1 x.2
theorem Zc {a_1:List Clause}{ap:Int}{r}(h:zq a_1 ap=some r):zr.F (Cj (a_1,ap))=some (Ck r):=aH (aK (bv cC) (aI bz)) h
noncomputable def PM :=aF Tryz.f42
noncomputable def Jn :=bW [(88,zp)]
def PL (x:(List Clause)×Int)(r:Int):St→Prop:=QF Jn Tryz.f42 [false,false] (Cj x) (Ck r)
theorem LD (a_1:List Clause)(ap:Int):cX Jn 0 (PL (a_1,ap)) (cL (cL (cR (cL (cR (cR (cR PM))))))) 0 (rS a_1 ap) (fun u=>(sT 27 [(1,I u)] [] 1)) fun x3=>(sT 27 [(0,.isl false (a_1.map aj)),(1,I x3.1),(5,I x3.2)] [] 1):=eI (xA a_1 ap) fun {Q K} hK self ih x3 y h hr hn=>by
 unfold mb at h
 refine cq 5 [12,13] [I x3.2,.isl false (a_1.map aj)] 33 ?_
 refine oq 49 (I (len a_1)) rfl (br rfl rfl rfl (bC rfl)) ?_
 refine cq 2 [15] [B (decide (x3.2<(len a_1)))] 65 ?_
 refine sq h ?_ ?_<;>intro h
 ·refine aq 1 ?_
  refine cq 6 [18,19] [.isl false (a_1.map aj),I x3.2] 97 ?_
  obtain⟨e4,he4,h⟩:=bS h
  refine oq 113 (.iptr (aj e4) 0) rfl (au rfl rfl rfl (aV rfl rfl rfl rfl he4)) ?_
  refine cq 2 [21,22] [aj e4,I x3.1] 145 ?_
  obtain⟨r5,hr5,h⟩:=bS h
  refine oq 161 (I r5) rfl (cP (Y9 hr5)) ?_
  refine cq 7 [1,25] [I r5,B (decide (r5<0))] 209 ?_
  refine sq h ?_ ?_<;>intro h
  ·refine cq 4 [4] [I (-1)] 225 ?_
   exact ca rfl (hr _ (ai h) _ (qp [I (-1)]))
  ·refine aq 1 ?_
   refine cq 6 [5] [I (az (x3.2+1))] 257 ?_
   refine dQ ?_
   exact rf [0,1,5] [] (ih _ _ h hr hn :)
 ·refine aq 1 ?_
  exact rf [1] [] (hn _ (ai h) :) (hk:=hK)
theorem TZ (a_1:List Clause)(ap:Int)(r:Int)(h:zq a_1 ap=some r):bo Jn Tryz.f42 [false,false] 0 (Cj (a_1,ap)) (Ck r):=by
 show Run _ _ (PL (a_1,ap) r) [.code PM] _
 refine rI 27 [(0,.isl false (a_1.map aj)),(1,I ap)] [] 1 ?_
 unfold zq at h
 refine cq 8 [6,7] [I ap,.isl false (a_1.map aj)] 49 ?_
 refine oq 65 (I (len a_1)) rfl (br rfl rfl rfl (bC rfl)) ?_
 refine cq 9 [1,11] [I (az (ap - (len a_1))),B (decide ((az (ap - (len a_1)))<0))] 129 ?_
 refine sq h ?_ ?_<;>intro h
 ·refine cq 4 [4] [I (-1)] 145 ?_
  obtain rfl:=sI h
  exact rP [I (-1)]
 ·refine aq 1 ?_
  refine cq 6 [5] [I (0)] 145 ?_
  obtain⟨y6,hy6,hy61,hy62⟩:=bJ h
  refine cj rfl ?_
  refine rf [0,1,5] [] (LD a_1 ap rfl ((az (ap - (len a_1))),0) _ hy6 (fun r' e st hq=>by rw[hy61 r' e] at hq;exact hq) fun u6 hu=>?_)
  replace h:=hy62 u6 hu
  refine cq 5 [4] [I u6] 33 ?_
  obtain rfl:=sI h
  exact rP [I u6]
theorem PN {G:bR}:bQ G 42 zr:=gT 2 0 (aJ PK bq) bX Tryz.func42 (fun a r h=>TZ a.1 a.2 r h)
def Cn:(Contract×Int)→List V:=cA aO (oA I)
def Co (r:Int):V×List V:=(I r,[])
noncomputable def zx :=aZ [false,false] Cn Co fun x=>zw x.1 x.2
theorem Zh {a_1:Contract}{ap:Int}{r}(h:zw a_1 ap=some r):zx.F (Cn (a_1,ap))=some (Co r):=aH (aK bb (aI bz)) h
noncomputable def Zj :=aF Tryz.f12
noncomputable def PT :=bW [(41,tA),(42,zr)]
def Zi (x:Contract×Int)(r:Int):St→Prop:=QF PT Tryz.f12 [false,false] (Cn x) (Co r)
theorem T4 (a_1:Contract)(ap:Int)(r:Int)(h:zw a_1 ap=some r):bo PT Tryz.f12 [false,false] 0 (Cn (a_1,ap)) (Co r):=by
 show Run _ _ (Zi (a_1,ap) r) [.code Zj] _
 refine rI 18 [(0,aO a_1),(1,I ap)] [] 1 ?_
 unfold zw at h
 refine ck 10 [2,6,7] [] [1] [] [.hp 1 0 [] 2 0 0,.isl false (a_1.Parties.map str),I ap] [some ⟨0,2,[aO a_1]⟩] 81 (by kernel_rfl) ?_
 obtain⟨r3,hr3,h⟩:=bS h
 refine oq 97 (I r3) rfl (cP (P1 hr3)) ?_
 refine cq 8 [1,10] [I r3,B (decide (r3<0))] 145 ?_
 refine sq h ?_ ?_<;>intro h
 ·refine cq 4 [4] [I (-1)] 161 ?_
  obtain rfl:=sI h
  exact rP [I (-1)]
 ·refine aq 1 ?_
  refine cq 5 [12,13] [.isl false (a_1.Clauses.map aj),I r3] 193 ?_
  obtain⟨r4,hr4,h⟩:=bS h
  refine oq 209 (I r4) rfl (cP (Zc hr4)) ?_
  refine cq 8 [1,16] [I r4,B (decide (r4<0))] 257 ?_
  refine sq h ?_ ?_<;>intro h
  ·refine cq 4 [4] [I (-1)] 273 ?_
   obtain rfl:=sI h
   exact rP [I (-1)]
  ·refine aq 1 ?_
   refine cq 5 [4] [I r4] 289 ?_
   obtain rfl:=sI h
   exact rP [I r4]
theorem PU {G:bR}:bQ G 12 zx:=gT 2 0 (aJ G7 (aJ PN bq)) bX Tryz.func12 (fun a r h=>T4 a.1 a.2 r h)
def Cp:((List Duty)×Int)→List V:=cA (fa ae) (oA I)
def Cq (r:Int):V×List V:=(I r,[])
noncomputable def zz :=aZ [false,false] Cp Cq fun x=>zy x.1 x.2
theorem Zk {a_1:List Duty}{ap:Int}{r}(h:zy a_1 ap=some r):zz.F (Cp (a_1,ap))=some (Cq r):=aH (aK (bv dH) (aI bz)) h
noncomputable def Zm :=aF Tryz.f53
noncomputable def PV :=bW []
def Zl (x:(List Duty)×Int)(r:Int):St→Prop:=QF PV Tryz.f53 [false,false] (Cp x) (Cq r)
theorem T5 (a_1:List Duty)(ap:Int)(r:Int)(h:zy a_1 ap=some r):bo PV Tryz.f53 [false,false] 0 (Cp (a_1,ap)) (Cq r):=by
 show Run _ _ (Zl (a_1,ap) r) [.code Zm] _
 refine rI 12 [(0,.isl false (a_1.map ae)),(1,I ap)] [] 1 ?_
 unfold zy at h
 refine cq 8 [5,6] [I ap,.isl false (a_1.map ae)] 49 ?_
 refine oq 65 (I (len a_1)) rfl (br rfl rfl rfl (bC rfl)) ?_
 refine cq 9 [1,10] [I (az (ap - (len a_1))),B (decide ((az (ap - (len a_1)))<0))] 129 ?_
 refine sq h ?_ ?_<;>intro h
 ·refine cq 4 [4] [I (-1)] 145 ?_
  obtain rfl:=sI h
  exact rP [I (-1)]
 ·refine aq 1 ?_
  refine cq 5 [4] [I (az (ap - (len a_1)))] 161 ?_
  obtain rfl:=sI h
  exact rP [I (az (ap - (len a_1)))]
theorem PW {G:bR}:bQ G 53 zz:=gT 2 0 bq bX Tryz.func53 (fun a r h=>T5 a.1 a.2 r h)
def Cr:((List Int)×Int)→List V:=cA (fa I) (oA I)
def Ct (r:Int):V×List V:=(I r,[])
noncomputable def zB :=aZ [false,false] Cr Ct fun x=>zA x.1 x.2
theorem Zn {a_1:List Int}{ap:Int}{r}(h:zA a_1 ap=some r):zB.F (Cr (a_1,ap))=some (Ct r):=aH (aK (bv bz) (aI bz)) h
noncomputable def Zp :=aF Tryz.f54
noncomputable def PX :=bW []
def Zo (x:(List Int)×Int)(r:Int):St→Prop:=QF PX Tryz.f54 [false,false] (Cr x) (Ct r)
theorem T6 (a_1:List Int)(ap:Int)(r:Int)(h:zA a_1 ap=some r):bo PX Tryz.f54 [false,false] 0 (Cr (a_1,ap)) (Ct r):=by
 show Run _ _ (Zo (a_1,ap) r) [.code Zp] _
 refine rI 12 [(0,.isl false (a_1.map I)),(1,I ap)] [] 1 ?_
 unfold zA at h
 refine cq 8 [5,6] [I ap,.isl false (a_1.map I)] 49 ?_
 refine oq 65 (I (len a_1)) rfl (br rfl rfl rfl (bC rfl)) ?_
 refine cq 9 [1,10] [I (az (ap - (len a_1))),B (decide ((az (ap - (len a_1)))<0))] 129 ?_
 refine sq h ?_ ?_<;>intro h
 ·refine cq 4 [4] [I (-1)] 145 ?_
  obtain rfl:=sI h
  exact rP [I (-1)]
 ·refine aq 1 ?_
  refine cq 5 [4] [I (az (ap - (len a_1)))] 161 ?_
  obtain rfl:=sI h
  exact rP [I (az (ap - (len a_1)))]
theorem PY {G:bR}:bQ G 54 zB:=gT 2 0 bq bX Tryz.func54 (fun a r h=>T6 a.1 a.2 r h)
def Cx:(State×Int)→List V:=cA b9 (oA I)
def Cy (r:Int):V×List V:=(I r,[])
noncomputable def zD :=aZ [false,false] Cx Cy fun x=>zC x.1 x.2
theorem Zq {a_1:State}{ap:Int}{r}(h:zC a_1 ap=some r):zD.F (Cx (a_1,ap))=some (Cy r):=aH (aK cZ (aI bz)) h
noncomputable def Zs :=aF Tryz.f21
noncomputable def PZ :=bW [(41,tA),(53,zz),(54,zB)]
def Zr (x:State×Int)(r:Int):St→Prop:=QF PZ Tryz.f21 [false,false] (Cx x) (Cy r)
theorem T8 (a_1:State)(ap:Int)(r:Int)(h:zC a_1 ap=some r):bo PZ Tryz.f21 [false,false] 0 (Cx (a_1,ap)) (Cy r):=by
 show Run _ _ (Zr (a_1,ap) r) [.code Zs] _
 refine rI 24 [(0,b9 a_1),(1,I ap)] [] 1 ?_
 unfold zC at h
 refine ck 10 [2,6,7] [] [1] [] [.hp 1 0 [] 5 0 0,.isl false (a_1.Facts.map str),I ap] [some ⟨0,5,[b9 a_1]⟩] 81 (by kernel_rfl) ?_
 obtain⟨r3,hr3,h⟩:=bS h
 refine oq 97 (I r3) rfl (cP (P1 hr3)) ?_
 refine cq 8 [1,10] [I r3,B (decide (r3<0))] 145 ?_
 refine sq h ?_ ?_<;>intro h
 ·refine cq 4 [4] [I (-1)] 161 ?_
  obtain rfl:=sI h
  exact rP [I (-1)]
 ·refine aq 1 ?_
  refine cq 5 [12,13] [.isl false (a_1.Duties.map ae),I r3] 193 ?_
  obtain⟨r4,hr4,h⟩:=bS h
  refine oq 209 (I r4) rfl (cP (Zk hr4)) ?_
  refine cq 8 [1,16] [I r4,B (decide (r4<0))] 257 ?_
  refine sq h ?_ ?_<;>intro h
  ·refine cq 4 [4] [I (-1)] 273 ?_
   obtain rfl:=sI h
   exact rP [I (-1)]
  ·refine aq 1 ?_
   refine cq 5 [18,19] [.isl false (a_1.Balances.map I),I r4] 305 ?_
   obtain⟨r5,hr5,h⟩:=bS h
   refine oq 321 (I r5) rfl (cP (Zn hr5)) ?_
   refine cq 8 [1,22] [I r5,B (decide (r5<0))] 369 ?_
   refine sq h ?_ ?_<;>intro h
   ·refine cq 4 [4] [I (-1)] 385 ?_
    obtain rfl:=sI h
    exact rP [I (-1)]
   ·refine aq 1 ?_
    refine cq 5 [4] [I r5] 401 ?_
    obtain rfl:=sI h
    exact rP [I r5]
theorem P0 {G:bR}:bQ G 21 zD:=gT 2 0 (aJ G7 (aJ PW (aJ PY bq))) bX Tryz.func21 (fun a r h=>T8 a.1 a.2 r h)
def CR:(List aa)→List V:=oA (fa str)
def CS (r:(List aa)):V×List V:=(.usl 1 (r.map str),[])
noncomputable def tD :=aZ [false] CR CS fun x=>vq x
theorem Qq {a_1:List aa}{r}(h:vq a_1=some r):tD.F (CR a_1)=some (CS r):=aH (aI (bv ba)) h
noncomputable def Qs :=aF Tryz.f45
noncomputable def Jv :=bW []
def Qr (x:(List aa))(r:(List aa)):St→Prop:=QF Jv Tryz.f45 [false] (CR x) (CS r)
theorem LK (a_1:List aa):cX Jv 0 (Qr a_1) (cL (cL (cR (cL (cR (cR Qs)))))) 0 (sa a_1) (fun u=>(sT 22 [(3,.hs 1 0 [] 1 0 (u.map str).length)] [⟨0,1,u.map str⟩] 2)) fun x3=>(sT 22 [(0,.isl false (a_1.map str)),(3,.hs 1 0 [] 1 0 (x3.2.map str).length),(4,I x3.1)] [⟨0,1,x3.2.map str⟩] 2):=eI (xH a_1) fun {Q K} hK self ih x3 y h hr hn=>by
 unfold mg at h
 refine cq 5 [8,9] [I x3.1,.isl false (a_1.map str)] 34 ?_
 refine oq 50 (I (len a_1)) rfl (br rfl rfl rfl (bC rfl)) ?_
 refine cq 2 [11] [B (decide (x3.1<(len a_1)))] 66 ?_
 refine sq h ?_ ?_<;>intro h
 ·refine aq 1 ?_
  refine cq 7 [14,15,16,17] [.hs 1 0 [] 1 0 (x3.2.map str).length,I x3.1,.isl false (a_1.map str),I x3.1] 130 ?_
  obtain⟨e4,he4,h⟩:=bS h
  refine oq 146 (.iptr (str e4) 0) rfl (au rfl rfl rfl (aV rfl rfl rfl rfl he4)) ?_
  refine cq 1 [19] [str e4] 162 ?_
  obtain⟨e5,he5,h⟩:=bS h
  refine oq 178 (.hp 1 0 [] 1 (0+Int.toNat x3.1) 0) rfl (au rfl rfl rfl (i9 (f:=str) (xs:=x3.2) rfl rfl rfl he5)) ?_
  refine o0 194 rfl rfl (gy rfl rfl (fu (path:=[]) (pl:=true) (e':=str e4) (es2':=(fO x3.2 x3.1 e4).map str) rfl (fU rfl) rfl rfl rfl bc (gY (f:=str) (xs:=x3.2) he5) rfl rfl rfl (mM (f:=str) (xs:=x3.2) (y:=e4)) d9 0 rfl)) ?_
  try rw[←kO (f:=str) (xs:=x3.2) (i:=x3.1) (z:=e4)]
  refine cq 7 [4] [I (az (x3.1+1))] 242 ?_
  refine dQ ?_
  exact rf [0,3,4] [1] (ih _ _ h hr hn :)
 ·refine aq 1 ?_
  exact rf [3] [1] (hn _ (ai h) :) (hk:=hK)
theorem Uk (a_1:List aa)(r:(List aa))(h:vq a_1=some r):bo Jv Tryz.f45 [false] 0 (CR a_1) (CS r):=by
 show Run _ _ (Qr a_1 r) [.code Qs] _
 refine rI 22 [(0,.isl false (a_1.map str))] [] 1 ?_
 unfold vq at h
 refine cq 7 [5] [.isl false (a_1.map str)] 33 ?_
 refine oq 49 (I (len a_1)) rfl (br rfl rfl rfl (bC rfl)) ?_
 obtain⟨m2,hm2,h⟩:=bS h
 refine oq 65 (.hs 49 0 [] 1 0 (m2.map str).length) rfl (jV rfl rfl (Fr (f:=str) rfl rfl rfl (by decide) hm2 rfl)) ?_
 refine cq 8 [3,4] [.hs 49 0 [] 1 0 (m2.map str).length,I (0)] 97 ?_
 obtain⟨y6,hy6,hy61,hy62⟩:=bJ h
 refine cj rfl ?_
 refine rf [0,3,4] [49] (LK a_1 rfl (0,m2) _ hy6 (fun r' e st hq=>by rw[hy61 r' e] at hq;exact hq) fun u6 hu=>?_)
 replace h:=hy62 u6 hu
 refine cq 5 [2] [.hs 1 0 [] 1 0 (u6.map str).length] 34 ?_
 obtain rfl:=sI h
 exact ca rfl ⟨_,fin (vs:=[.hs 1 0 [] 1 0 (u6.map str).length]) rfl (fq (eR rfl (cQ rfl rfl)) eA) rfl (eS fy),ft⟩
theorem G8 {G:bR}:bQ G 45 tD:=gT 1 0 bq bX Tryz.func45 (fun a r h=>Uk a r h)
def vk:Condition→List V:=oA bg
def vl (r:Condition):V×List V:=(pe r,[])
noncomputable def qI (bi:Condition→Option Condition):Ent:=aZ [false] vk vl bi
theorem My (bi:Condition→Option Condition){x}{r}(h:bi x=some r):(qI bi).F (vk x)=some (vl r):=aH (aI cH) h
def CF:(List Condition)→List V:=oA (fa ay)
def CG (r:(List Condition)):V×List V:=(.usl 4 (r.map aC),[])
noncomputable def zJ (bi:Condition→Option Condition):Ent:=aZ [false] CF CG fun x=>vm bi x
theorem ZA (bi:Condition→Option Condition){a_1:List Condition}{r}(h:vm bi a_1=some r):(zJ bi).F (CF a_1)=some (CG r):=aH (aI (bv eV)) h
noncomputable def Qc :=aF Tryz.f174
noncomputable def Js (bi:Condition→Option Condition):Env:=bW [(139,(qI bi))]
def Qb (bi:Condition→Option Condition)(x:(List Condition))(r:(List Condition)):St→Prop:=QF (Js bi) Tryz.f174 [false] (CF x) (CG r)
theorem LH (bi:Condition→Option Condition)(a_1:List Condition):cX (Js bi) 0 (Qb bi a_1) (cL (cL (cR (cL (cR (cR Qc)))))) 0 (pR bi a_1) (fun u=>(sT 23 [(3,.hs 1 0 [] 4 0 (u.map aC).length)] [⟨0,4,u.map aC⟩] 2)) fun x3=>(sT 23 [(0,.isl false (a_1.map ay)),(3,.hs 1 0 [] 4 0 (x3.2.map aC).length),(4,I x3.1)] [⟨0,4,x3.2.map aC⟩] 2):=eI (xE bi a_1) fun {Q K} hK self ih x3 y h hr hn=>by
 unfold kq at h
 refine cq 5 [8,9] [I x3.1,.isl false (a_1.map ay)] 34 ?_
 refine oq 50 (I (len a_1)) rfl (br rfl rfl rfl (bC rfl)) ?_
 refine cq 2 [11] [B (decide (x3.1<(len a_1)))] 66 ?_
 refine sq h ?_ ?_<;>intro h
 ·refine aq 1 ?_
  refine cq 7 [14,15,16,17] [.hs 1 0 [] 4 0 (x3.2.map aC).length,I x3.1,.isl false (a_1.map ay),I x3.1] 130 ?_
  obtain⟨e4,he4,h⟩:=bS h
  refine oq 146 (.iptr (bg e4) 0) rfl (au rfl rfl rfl (aV rfl rfl (bB e4) rfl he4)) ?_
  refine cq 1 [19] [bg e4] 162 ?_
  obtain⟨r5,hr5,h⟩:=bS h
  refine oq 178 (.agg [I r5.Op,str r5.Name,I r5.Day,.hs 162 0 [] 4 0 (r5.Parts.map aC).length]) rfl (ce rfl rfl (cS rfl rfl rfl (bA (bV rfl) dB) (My bi hr5) (.inr rfl) eb rfl rfl rfl)) ?_
  obtain⟨e6,he6,h⟩:=bS h
  refine oq 194 (.hp 1 0 [] 4 (0+Int.toNat x3.1) 0) rfl (au rfl rfl rfl (i9 (f:=aC) (xs:=x3.2) rfl rfl rfl he6)) ?_
  refine o0 210 rfl rfl (gy rfl rfl (fu (path:=[]) (pl:=false) (e':=pe r5) (es2':=(fO x3.2 x3.1 r5).map aC) rfl (lx (bK (cp rfl) (bK (cp rfl) (bK (cp rfl) (bK (cQ rfl rfl) ly))))) rfl rfl rfl bc (VW (f:=aC) (xs:=x3.2) (lz e6) he6) rfl rfl rfl (Wi (f:=aC) (xs:=x3.2) (lz r5)) d9 1 rfl)) ?_
  try rw[←kO (f:=aC) (xs:=x3.2) (i:=x3.1) (z:=r5)]
  refine cq 7 [4] [I (az (x3.1+1))] 258 ?_
  refine dQ ?_
  exact rf [0,3,4] [1] (ih _ _ h hr hn :)
 ·refine aq 1 ?_
  exact rf [3] [1] (hn _ (ai h) :) (hk:=hK)
theorem Ue (bi:Condition→Option Condition)(a_1:List Condition)(r:(List Condition))(h:vm bi a_1=some r):bo (Js bi) Tryz.f174 [false] 0 (CF a_1) (CG r):=by
 show Run _ _ (Qb bi a_1 r) [.code Qc] _
 refine rI 23 [(0,.isl false (a_1.map ay))] [] 1 ?_
 unfold vm at h
 refine cq 7 [5] [.isl false (a_1.map ay)] 33 ?_
 refine oq 49 (I (len a_1)) rfl (br rfl rfl rfl (bC rfl)) ?_
 obtain⟨m2,hm2,h⟩:=bS h
 refine oq 65 (.hs 49 0 [] 4 0 (m2.map aC).length) rfl (jV rfl rfl (S1 (g:=aC) (f:=fun _=>(.agg [I (0),str ([]),I (0),.isl true []]:V)) (z0:=(Condition.mk 0 [] 0 [])) rfl rfl rfl (by decide) hm2 rfl)) ?_
 refine eM 49 (m2.map aC) rfl rfl (Ku hm2 ((lz _).symm▸fF (aD (.refl _) (aD (.refl _) (aD (.refl _) (aD (.nil _) dU)))))) ?_
 refine cq 8 [3,4] [.hs 49 0 [] 4 0 (m2.map aC).length,I (0)] 97 ?_
 obtain⟨y7,hy7,hy71,hy72⟩:=bJ h
 refine cj rfl ?_
 refine rf [0,3,4] [49] (LH bi a_1 rfl (0,m2) _ hy7 (fun r' e st hq=>by rw[hy71 r' e] at hq;exact hq) fun u7 hu=>?_)
 replace h:=hy72 u7 hu
 refine cq 5 [2] [.hs 1 0 [] 4 0 (u7.map aC).length] 34 ?_
 obtain rfl:=sI h
 exact ca rfl ⟨_,fin (vs:=[.hs 1 0 [] 4 0 (u7.map aC).length]) rfl (fq (eR rfl (cQ rfl rfl)) eA) rfl (eS fy),ft⟩
theorem Qd {G:bR}(bi:Condition→Option Condition)(KI:bQ G 139 (qI bi)):bQ G 174 (zJ bi):=gT 1 0 (aJ KI bq) bX Tryz.func174 (fun a r h=>Ue bi a r h)
noncomputable def zI :=qI (aN oL)
theorem Zx {a_1:Condition}{r}(h:zH a_1=some r):zI.F (vk a_1)=some (vl r):=My (aN oL) h
noncomputable def Zz :=aF Tryz.f139
noncomputable def P9 (bi:Condition→Option Condition):Env:=bW [(174,(zJ bi))]
def Zy (bi:Condition→Option Condition)(x:Condition)(r:Condition):St→Prop:=QF (P9 bi) Tryz.f139 [false] (vk x) (vl r)
theorem Ud (bi:Condition→Option Condition)(a_1:Condition)(r:Condition)(h:rX bi a_1=some r):bo (P9 bi) Tryz.f139 [false] 0 (vk a_1) (vl r):=by
 show Run _ _ (Zy bi a_1 r) [.code Zz] _
 refine rI 18 [(0,bg a_1)] [] 1 ?_
 unfold rX at h
 refine ck 4 [1,2] [] [1,17] [] [.hp 1 0 [] 4 0 0,.hp 17 0 [] 4 0 0] [some ⟨0,4,[bg a_1]⟩,some ⟨0,4,[.agg [I (0),str ([]),I (0),.isl true []]]⟩] 33 (by kernel_rfl) ?_
 refine eM 17 [.agg [I (0),str ([]),I (0),.usl 4 (([]).map aC)]] rfl rfl (aD (fF (aD (.refl _) (aD (.refl _) (aD (.refl _) (aD (.nil _) dU))))) dU) ?_
 refine ck 4 [3] [] [33] [] [.hp 33 0 [] 4 0 0] [some ⟨0,4,[.agg [I (0),str ([]),I (0),.isl true []]]⟩] 49 (by kernel_rfl) ?_
 refine eM 33 [.agg [I (0),str ([]),I (0),.usl 4 (([]).map aC)]] rfl rfl (aD (fF (aD (.refl _) (aD (.refl _) (aD (.refl _) (aD (.nil _) dU))))) dU) ?_
 refine ck 26 [14] [] [33] [] [.isl false (a_1.Parts.map ay)] [some ⟨1,4,[.agg [I a_1.Op,str a_1.Name,I a_1.Day,.usl 4 (([]).map aC)]]⟩] 273 (by kernel_rfl) ?_
 obtain⟨r2,hr2,h⟩:=bS h
 refine oq 289 (.hs 273 0 [] 4 0 (r2.map aC).length) rfl (ce rfl rfl (cS rfl rfl rfl (bA (bV rfl) dB) (ZA bi hr2) (.inr rfl) eb rfl rfl rfl)) ?_
 refine cq 1 [16] [.hp 33 0 [] 4 0 3] 305 ?_
 refine o0 321 rfl rfl (gy rfl rfl (fu (path:=[]) (pl:=false) (e':=.agg [I a_1.Op,str a_1.Name,I a_1.Day,.usl 4 (r2.map aC)]) (es2':=[.agg [I a_1.Op,str a_1.Name,I a_1.Day,.usl 4 (r2.map aC)]]) rfl (eR rfl (cQ rfl rfl)) rfl rfl rfl bc rfl rfl rfl rfl rfl d9 2 rfl)) ?_
 refine cq 4 [17] [.agg [I a_1.Op,str a_1.Name,I a_1.Day,.hs 33 2 [(0,3)] 4 0 (r2.map aC).length]] 337 ?_
 refine o0 353 rfl rfl (gy rfl rfl (fu (path:=[]) (pl:=false) (e':=.agg [I a_1.Op,str a_1.Name,I a_1.Day,.usl 4 (r2.map aC)]) (es2':=[.agg [I a_1.Op,str a_1.Name,I a_1.Day,.usl 4 (r2.map aC)]]) rfl (lx (bK (cp rfl) (bK (cp rfl) (bK (cp rfl) (bK (fw (path:=[(0,3)]) rfl rfl (eY rfl rfl bc) rfl (jh (path:=[]) (i:=0) (k:=3) (e':=.agg [I a_1.Op,str a_1.Name,I a_1.Day,.dead]) (es2':=[.agg [I a_1.Op,str a_1.Name,I a_1.Day,.dead]]) bc rfl rfl rfl d9)) ly))))) rfl rfl rfl bc rfl rfl rfl rfl rfl d9 2 rfl)) ?_
 refine aq 1 ?_
 obtain rfl:=sI h
 exact ca rfl ⟨_,fin (vs:=[.agg [I a_1.Op,str a_1.Name,I a_1.Day,.hs 17 2 [(0,3)] 4 0 (r2.map aC).length]]) (GT (pY rfl rfl rfl) GU) (fq (lx (bK (cp rfl) (bK (cp rfl) (bK (cp rfl) (bK (fw (path:=[(0,3)]) rfl rfl (eY rfl rfl bc) rfl (jh (path:=[]) (i:=0) (k:=3) (e':=.agg [I a_1.Op,str a_1.Name,I a_1.Day,.dead]) (es2':=[.agg [I a_1.Op,str a_1.Name,I a_1.Day,.dead]]) bc rfl rfl rfl d9)) ly))))) eA) rfl (eS fy),ft⟩
theorem Qa {G:bR}:bQ G 139 zI:=iG fun bi KI=>gT 1 0 (aJ (Qd bi KI) bq) bX Tryz.func139 (fun a r h=>Ud bi a r h)
def CB:Clause→List V:=oA aj
def CC (r:Clause):V×List V:=(tu r,[])
noncomputable def zE :=aZ [false] CB CC fun x=>vj x
theorem Zt {a_1:Clause}{r}(h:vj a_1=some r):zE.F (CB a_1)=some (CC r):=aH (aI cC) h
noncomputable def Zv :=aF Tryz.f97
noncomputable def P4 :=bW [(139,zI)]
def Zu (x:Clause)(r:Clause):St→Prop:=QF P4 Tryz.f97 [false] (CB x) (CC r)
theorem Ua (a_1:Clause)(r:Clause)(h:vj a_1=some r):bo P4 Tryz.f97 [false] 0 (CB a_1) (CC r):=by
 show Run _ _ (Zu a_1 r) [.code Zv] _
 refine rI 33 [(0,aj a_1)] [] 1 ?_
 unfold vj at h
 refine ck 4 [1,2] [] [1,17] [] [.hp 1 0 [] 12 0 0,.hp 17 0 [] 12 0 0] [some ⟨0,12,[aj a_1]⟩,some ⟨0,12,[.agg [str ([]),I (0),I (0),str ([]),I (0),I (0),I (0),str ([]),I (0),.isl true [],I (0),str ([])]]⟩] 33 (by kernel_rfl) ?_
 refine eM 17 [.agg [str ([]),I (0),I (0),str ([]),I (0),I (0),I (0),str ([]),I (0),.usl 4 (([]).map aC),I (0),str ([])]] rfl rfl (aD (fF (aD (.refl _) (aD (.refl _) (aD (.refl _) (aD (.refl _) (aD (.refl _) (aD (.refl _) (aD (.refl _) (aD (.refl _) (aD (.refl _) (aD (.nil _) (aD (.refl _) (aD (.refl _) dU))))))))))))) dU) ?_
 refine ck 4 [3] [] [33] [] [.hp 33 0 [] 12 0 0] [some ⟨0,12,[.agg [str ([]),I (0),I (0),str ([]),I (0),I (0),I (0),str ([]),I (0),.isl true [],I (0),str ([])]]⟩] 49 (by kernel_rfl) ?_
 refine eM 33 [.agg [str ([]),I (0),I (0),str ([]),I (0),I (0),I (0),str ([]),I (0),.usl 4 (([]).map aC),I (0),str ([])]] rfl rfl (aD (fF (aD (.refl _) (aD (.refl _) (aD (.refl _) (aD (.refl _) (aD (.refl _) (aD (.refl _) (aD (.refl _) (aD (.refl _) (aD (.refl _) (aD (.nil _) (aD (.refl _) (aD (.refl _) dU))))))))))))) dU) ?_
 refine ck 47 [23] [] [33] [] [bg a_1.When] [some ⟨1,12,[.agg [str a_1.Id,I a_1.Kind,I a_1.Party,str a_1.Action,I a_1.Other,I a_1.Amount,I (0),str ([]),I (0),.usl 4 (([]).map aC),I (0),str ([])]]⟩] 465 (by kernel_rfl) ?_
 obtain⟨r2,hr2,h⟩:=bS h
 refine oq 481 (.agg [I r2.Op,str r2.Name,I r2.Day,.hs 465 0 [] 4 0 (r2.Parts.map aC).length]) rfl (cP (Zx hr2)) ?_
 refine cq 1 [25] [.hp 33 0 [] 12 0 6] 497 ?_
 refine o0 513 rfl rfl (gy rfl rfl (fu (path:=[]) (pl:=false) (e':=.agg [str a_1.Id,I a_1.Kind,I a_1.Party,str a_1.Action,I a_1.Other,I a_1.Amount,I r2.Op,str r2.Name,I r2.Day,.usl 4 (r2.Parts.map aC),I (0),str ([])]) (es2':=[.agg [str a_1.Id,I a_1.Kind,I a_1.Party,str a_1.Action,I a_1.Other,I a_1.Amount,I r2.Op,str r2.Name,I r2.Day,.usl 4 (r2.Parts.map aC),I (0),str ([])]]) rfl (lx (bK (cp rfl) (bK (cp rfl) (bK (cp rfl) (bK (cQ rfl rfl) ly))))) rfl rfl rfl bc rfl rfl rfl rfl rfl d9 2 rfl)) ?_
 refine ck 18 [32] [] [33] [] [.agg [str a_1.Id,I a_1.Kind,I a_1.Party,str a_1.Action,I a_1.Other,I a_1.Amount,I r2.Op,str r2.Name,I r2.Day,.hs 33 2 [(0,9)] 4 0 (r2.Parts.map aC).length,I a_1.Within,str a_1.Repair]] [some ⟨2,12,[.agg [str a_1.Id,I a_1.Kind,I a_1.Party,str a_1.Action,I a_1.Other,I a_1.Amount,I r2.Op,str r2.Name,I r2.Day,.usl 4 (r2.Parts.map aC),I a_1.Within,str a_1.Repair]]⟩] 657 (by kernel_rfl) ?_
 refine o0 673 rfl rfl (gy rfl rfl (fu (path:=[]) (pl:=false) (e':=.agg [str a_1.Id,I a_1.Kind,I a_1.Party,str a_1.Action,I a_1.Other,I a_1.Amount,I r2.Op,str r2.Name,I r2.Day,.usl 4 (r2.Parts.map aC),I a_1.Within,str a_1.Repair]) (es2':=[.agg [str a_1.Id,I a_1.Kind,I a_1.Party,str a_1.Action,I a_1.Other,I a_1.Amount,I r2.Op,str r2.Name,I r2.Day,.usl 4 (r2.Parts.map aC),I a_1.Within,str a_1.Repair]]) rfl (lx (bK (cp rfl) (bK (cp rfl) (bK (cp rfl) (bK (cp rfl) (bK (cp rfl) (bK (cp rfl) (bK (cp rfl) (bK (cp rfl) (bK (cp rfl) (bK (fw (path:=[(0,9)]) rfl rfl (eY rfl rfl bc) rfl (jh (path:=[]) (i:=0) (k:=9) (e':=.agg [str a_1.Id,I a_1.Kind,I a_1.Party,str a_1.Action,I a_1.Other,I a_1.Amount,I r2.Op,str r2.Name,I r2.Day,.dead,I a_1.Within,str a_1.Repair]) (es2':=[.agg [str a_1.Id,I a_1.Kind,I a_1.Party,str a_1.Action,I a_1.Other,I a_1.Amount,I r2.Op,str r2.Name,I r2.Day,.dead,I a_1.Within,str a_1.Repair]]) bc rfl rfl rfl d9)) (bK (cp rfl) (bK (cp rfl) ly))))))))))))) rfl rfl rfl bc rfl rfl rfl rfl rfl d9 2 rfl)) ?_
 refine aq 1 ?_
 obtain rfl:=sI h
 exact ca rfl ⟨_,fin (vs:=[.agg [str a_1.Id,I a_1.Kind,I a_1.Party,str a_1.Action,I a_1.Other,I a_1.Amount,I r2.Op,str r2.Name,I r2.Day,.hs 17 2 [(0,9)] 4 0 (r2.Parts.map aC).length,I a_1.Within,str a_1.Repair]]) (GT (pY rfl rfl rfl) GU) (fq (lx (bK (cp rfl) (bK (cp rfl) (bK (cp rfl) (bK (cp rfl) (bK (cp rfl) (bK (cp rfl) (bK (cp rfl) (bK (cp rfl) (bK (cp rfl) (bK (fw (path:=[(0,9)]) rfl rfl (eY rfl rfl bc) rfl (jh (path:=[]) (i:=0) (k:=9) (e':=.agg [str a_1.Id,I a_1.Kind,I a_1.Party,str a_1.Action,I a_1.Other,I a_1.Amount,I r2.Op,str r2.Name,I r2.Day,.dead,I a_1.Within,str a_1.Repair]) (es2':=[.agg [str a_1.Id,I a_1.Kind,I a_1.Party,str a_1.Action,I a_1.Other,I a_1.Amount,I r2.Op,str r2.Name,I r2.Day,.dead,I a_1.Within,str a_1.Repair]]) bc rfl rfl rfl d9)) (bK (cp rfl) (bK (cp rfl) ly))))))))))))) eA) rfl (eS fy),ft⟩
theorem P5 {G:bR}:bQ G 97 zE:=gT 1 0 (aJ Qa bq) bX Tryz.func97 (fun a r h=>Ua a r h)
def CD:(List Clause)→List V:=oA (fa aj)
def CE (r:(List Clause)):V×List V:=(.usl 12 (r.map aQ),[])
noncomputable def zG :=aZ [false] CD CE fun x=>zF x
theorem Zw {a_1:List Clause}{r}(h:zF a_1=some r):zG.F (CD a_1)=some (CE r):=aH (aI (bv cC)) h
noncomputable def P7 :=aF Tryz.f46
noncomputable def Jr :=bW [(97,zE)]
def P6 (x:(List Clause))(r:(List Clause)):St→Prop:=QF Jr Tryz.f46 [false] (CD x) (CE r)
theorem LG (a_1:List Clause):cX Jr 0 (P6 a_1) (cL (cL (cR (cL (cR (cR P7)))))) 0 (rV a_1) (fun u=>(sT 23 [(3,.hs 1 0 [] 12 0 (u.map aQ).length)] [⟨0,12,u.map aQ⟩] 2)) fun x3=>(sT 23 [(0,.isl false (a_1.map aj)),(3,.hs 1 0 [] 12 0 (x3.2.map aQ).length),(4,I x3.1)] [⟨0,12,x3.2.map aQ⟩] 2):=eI (xD a_1) fun {Q K} hK self ih x3 y h hr hn=>by
 unfold md at h
 refine cq 5 [8,9] [I x3.1,.isl false (a_1.map aj)] 34 ?_
 refine oq 50 (I (len a_1)) rfl (br rfl rfl rfl (bC rfl)) ?_
 refine cq 2 [11] [B (decide (x3.1<(len a_1)))] 66 ?_
 refine sq h ?_ ?_<;>intro h
 ·refine aq 1 ?_
  refine cq 7 [14,15,16,17] [.hs 1 0 [] 12 0 (x3.2.map aQ).length,I x3.1,.isl false (a_1.map aj),I x3.1] 130 ?_
  obtain⟨e4,he4,h⟩:=bS h
  refine oq 146 (.iptr (aj e4) 0) rfl (au rfl rfl rfl (aV rfl rfl rfl rfl he4)) ?_
  refine cq 1 [19] [aj e4] 162 ?_
  obtain⟨r5,hr5,h⟩:=bS h
  refine oq 178 (.agg [str r5.Id,I r5.Kind,I r5.Party,str r5.Action,I r5.Other,I r5.Amount,I r5.When.Op,str r5.When.Name,I r5.When.Day,.hs 162 0 [] 4 0 (r5.When.Parts.map aC).length,I r5.Within,str r5.Repair]) rfl (cP (Zt hr5)) ?_
  obtain⟨e6,he6,h⟩:=bS h
  refine oq 194 (.hp 1 0 [] 12 (0+Int.toNat x3.1) 0) rfl (au rfl rfl rfl (i9 (f:=aQ) (xs:=x3.2) rfl rfl rfl he6)) ?_
  refine o0 210 rfl rfl (gy rfl rfl (fu (path:=[]) (pl:=false) (e':=tu r5) (es2':=(fO x3.2 x3.1 r5).map aQ) rfl (lx (bK (cp rfl) (bK (cp rfl) (bK (cp rfl) (bK (cp rfl) (bK (cp rfl) (bK (cp rfl) (bK (cp rfl) (bK (cp rfl) (bK (cp rfl) (bK (cQ rfl rfl) (bK (cp rfl) (bK (cp rfl) ly))))))))))))) rfl rfl rfl bc (gY (f:=aQ) (xs:=x3.2) he6) rfl rfl rfl (mM (f:=aQ) (xs:=x3.2) (y:=r5)) d9 1 rfl)) ?_
  try rw[←kO (f:=aQ) (xs:=x3.2) (i:=x3.1) (z:=r5)]
  refine cq 7 [4] [I (az (x3.1+1))] 258 ?_
  refine dQ ?_
  exact rf [0,3,4] [1] (ih _ _ h hr hn :)
 ·refine aq 1 ?_
  exact rf [3] [1] (hn _ (ai h) :) (hk:=hK)
theorem Ub (a_1:List Clause)(r:(List Clause))(h:zF a_1=some r):bo Jr Tryz.f46 [false] 0 (CD a_1) (CE r):=by
 show Run _ _ (P6 a_1 r) [.code P7] _
 refine rI 23 [(0,.isl false (a_1.map aj))] [] 1 ?_
 unfold zF at h
 refine cq 7 [5] [.isl false (a_1.map aj)] 33 ?_
 refine oq 49 (I (len a_1)) rfl (br rfl rfl rfl (bC rfl)) ?_
 obtain⟨m2,hm2,h⟩:=bS h
 refine oq 65 (.hs 49 0 [] 12 0 (m2.map aQ).length) rfl (jV rfl rfl (S1 (g:=aQ) (f:=fun _=>(.agg [str ([]),I (0),I (0),str ([]),I (0),I (0),I (0),str ([]),I (0),.isl true [],I (0),str ([])]:V)) (z0:=(Clause.mk [] 0 0 [] 0 0 (Condition.mk 0 [] 0 []) 0 [])) rfl rfl rfl (by decide) hm2 rfl)) ?_
 refine eM 49 (m2.map aQ) rfl rfl (Ku hm2 (fF (aD (.refl _) (aD (.refl _) (aD (.refl _) (aD (.refl _) (aD (.refl _) (aD (.refl _) (aD (.refl _) (aD (.refl _) (aD (.refl _) (aD (.nil _) (aD (.refl _) (aD (.refl _) dU)))))))))))))) ?_
 refine cq 8 [3,4] [.hs 49 0 [] 12 0 (m2.map aQ).length,I (0)] 97 ?_
 obtain⟨y7,hy7,hy71,hy72⟩:=bJ h
 refine cj rfl ?_
 refine rf [0,3,4] [49] (LG a_1 rfl (0,m2) _ hy7 (fun r' e st hq=>by rw[hy71 r' e] at hq;exact hq) fun u7 hu=>?_)
 replace h:=hy72 u7 hu
 refine cq 5 [2] [.hs 1 0 [] 12 0 (u7.map aQ).length] 34 ?_
 obtain rfl:=sI h
 exact ca rfl ⟨_,fin (vs:=[.hs 1 0 [] 12 0 (u7.map aQ).length]) rfl (fq (eR rfl (cQ rfl rfl)) eA) rfl (eS fy),ft⟩
theorem P8 {G:bR}:bQ G 46 zG:=gT 1 0 (aJ P5 bq) bX Tryz.func46 (fun a r h=>Ub a r h)
def CH:Contract→List V:=oA aO
def CI (r:Contract):V×List V:=(.agg [.usl 1 (r.Parties.map str),.usl 12 (r.Clauses.map aQ)],[])
noncomputable def zK :=aZ [false] CH CI fun x=>tB x
theorem vn {a_1:Contract}{r}(h:tB a_1=some r):zK.F (CH a_1)=some (CI r):=aH (aI bb) h
noncomputable def ZC :=aF Tryz.f14
noncomputable def Qe :=bW [(45,tD),(46,zG)]
def ZB (x:Contract)(r:Contract):St→Prop:=QF Qe Tryz.f14 [false] (CH x) (CI r)
theorem Uf (a_1:Contract)(r:Contract)(h:tB a_1=some r):bo Qe Tryz.f14 [false] 0 (CH a_1) (CI r):=by
 show Run _ _ (ZB a_1 r) [.code ZC] _
 refine rI 13 [(0,aO a_1)] [] 1 ?_
 unfold tB at h
 refine ck 4 [1,2] [] [1,17] [] [.hp 1 0 [] 2 0 0,.hp 17 0 [] 2 0 0] [some ⟨0,2,[aO a_1]⟩,some ⟨0,2,[.agg [.isl true [],.isl true []]]⟩] 33 (by kernel_rfl) ?_
 refine eM 17 [.agg [.usl 1 (([]).map str),.usl 12 (([]).map aQ)]] rfl rfl (aD (fF (aD (.nil _) (aD (.nil _) dU))) dU) ?_
 refine ck 4 [3] [] [33] [] [.hp 33 0 [] 2 0 0] [some ⟨0,2,[.agg [.isl true [],.isl true []]]⟩] 49 (by kernel_rfl) ?_
 refine eM 33 [.agg [.usl 1 (([]).map str),.usl 12 (([]).map aQ)]] rfl rfl (aD (fF (aD (.nil _) (aD (.nil _) dU))) dU) ?_
 refine cq 5 [5] [.isl false (a_1.Parties.map str)] 81 ?_
 obtain⟨r2,hr2,h⟩:=bS h
 refine oq 97 (.hs 81 0 [] 1 0 (r2.map str).length) rfl (cP (Qq hr2)) ?_
 refine cq 1 [7] [.hp 33 0 [] 2 0 0] 113 ?_
 refine o0 129 rfl rfl (gy rfl rfl (fu (path:=[]) (pl:=false) (e':=.agg [.usl 1 (r2.map str),.usl 12 (([]).map aQ)]) (es2':=[.agg [.usl 1 (r2.map str),.usl 12 (([]).map aQ)]]) rfl (eR rfl (cQ rfl rfl)) rfl rfl rfl bc rfl rfl rfl rfl rfl d9 2 rfl)) ?_
 refine cq 5 [9] [.isl false (a_1.Clauses.map aj)] 161 ?_
 obtain⟨r3,hr3,h⟩:=bS h
 refine oq 177 (.hs 161 0 [] 12 0 (r3.map aQ).length) rfl (cP (Zw hr3)) ?_
 refine cq 1 [11] [.hp 33 0 [] 2 0 1] 193 ?_
 refine o0 209 rfl rfl (gy rfl rfl (fu (path:=[]) (pl:=false) (e':=.agg [.usl 1 (r2.map str),.usl 12 (r3.map aQ)]) (es2':=[.agg [.usl 1 (r2.map str),.usl 12 (r3.map aQ)]]) rfl (eR rfl (cQ rfl rfl)) rfl rfl rfl bc rfl rfl rfl rfl rfl d9 3 rfl)) ?_
 refine cq 4 [12] [.agg [.hs 33 3 [(0,0)] 1 0 (r2.map str).length,.hs 33 3 [(0,1)] 12 0 (r3.map aQ).length]] 225 ?_
 refine o0 241 rfl rfl (gy rfl rfl (fu (path:=[]) (pl:=false) (e':=.agg [.usl 1 (r2.map str),.usl 12 (r3.map aQ)]) (es2':=[.agg [.usl 1 (r2.map str),.usl 12 (r3.map aQ)]]) rfl (lx (bK (fw (path:=[(0,0)]) rfl rfl (eY rfl rfl bc) rfl (jh (path:=[]) (i:=0) (k:=0) (e':=.agg [.dead,.usl 12 (r3.map aQ)]) (es2':=[.agg [.dead,.usl 12 (r3.map aQ)]]) bc rfl rfl rfl d9)) (bK (fw (path:=[(0,1)]) rfl rfl (eY rfl rfl bc) rfl (jh (path:=[]) (i:=0) (k:=1) (e':=.agg [.dead,.dead]) (es2':=[.agg [.dead,.dead]]) bc rfl rfl rfl d9)) ly))) rfl rfl rfl bc rfl rfl rfl rfl rfl d9 2 rfl)) ?_
 refine aq 1 ?_
 obtain rfl:=sI h
 exact ca rfl ⟨_,fin (vs:=[.agg [.hs 17 2 [(0,0)] 1 0 (r2.map str).length,.hs 17 2 [(0,1)] 12 0 (r3.map aQ).length]]) (GT (pY rfl rfl rfl) GU) (fq (lx (bK (fw (path:=[(0,0)]) rfl rfl (eY rfl rfl bc) rfl (jh (path:=[]) (i:=0) (k:=0) (e':=.agg [.dead,.usl 12 (r3.map aQ)]) (es2':=[.agg [.dead,.usl 12 (r3.map aQ)]]) bc rfl rfl rfl d9)) (bK (fw (path:=[(0,1)]) rfl rfl (eY rfl rfl bc) rfl (jh (path:=[]) (i:=0) (k:=1) (e':=.agg [.dead,.dead]) (es2':=[.agg [.dead,.dead]]) bc rfl rfl rfl d9)) ly))) eA) rfl (eS fy),ft⟩
theorem Qf {G:bR}:bQ G 14 zK:=gT 1 0 (aJ G8 (aJ P8 bq)) bX Tryz.func14 (fun a r h=>Uf a r h)
def CJ:Duty→List V:=oA ae
def CK (r:Duty):V×List V:=(ae r,[])
noncomputable def zL :=aZ [false] CJ CK fun x=>vo x
theorem ZD {a_1:Duty}{r}(h:vo a_1=some r):zL.F (CJ a_1)=some (CK r):=aH (aI dH) h
noncomputable def ZF :=aF Tryz.f108
noncomputable def Qg :=bW []
def ZE (x:Duty)(r:Duty):St→Prop:=QF Qg Tryz.f108 [false] (CJ x) (CK r)
theorem Ug (a_1:Duty)(r:Duty)(h:vo a_1=some r):bo Qg Tryz.f108 [false] 0 (CJ a_1) (CK r):=by
 show Run _ _ (ZE a_1 r) [.code ZF] _
 refine rI 17 [(0,ae a_1)] [] 1 ?_
 unfold vo at h
 refine ck 42 [2] [] [17] [] [.hp 17 0 [] 4 0 0] [some ⟨0,4,[ae a_1]⟩] 337 (by kernel_rfl) ?_
 obtain rfl:=sI h
 exact ca rfl ⟨_,fin (vs:=[ae a_1]) (GT (pY rfl rfl rfl) GU) (fq (fU rfl) eA) rfl (eS fy),ft⟩
theorem Qh {G:bR}:bQ G 108 zL:=gT 1 0 bq bX Tryz.func108 (fun a r h=>Ug a r h)
def CL:(List Duty)→List V:=oA (fa ae)
def CM (r:(List Duty)):V×List V:=(.usl 4 (r.map ae),[])
noncomputable def zN :=aZ [false] CL CM fun x=>zM x
theorem ZG {a_1:List Duty}{r}(h:zM a_1=some r):zN.F (CL a_1)=some (CM r):=aH (aI (bv dH)) h
noncomputable def Qj :=aF Tryz.f57
noncomputable def Jt :=bW [(108,zL)]
def Qi (x:(List Duty))(r:(List Duty)):St→Prop:=QF Jt Tryz.f57 [false] (CL x) (CM r)
theorem LI (a_1:List Duty):cX Jt 0 (Qi a_1) (cL (cL (cR (cL (cR (cR Qj)))))) 0 (rY a_1) (fun u=>(sT 23 [(3,.hs 1 0 [] 4 0 (u.map ae).length)] [⟨0,4,u.map ae⟩] 2)) fun x3=>(sT 23 [(0,.isl false (a_1.map ae)),(3,.hs 1 0 [] 4 0 (x3.2.map ae).length),(4,I x3.1)] [⟨0,4,x3.2.map ae⟩] 2):=eI (xF a_1) fun {Q K} hK self ih x3 y h hr hn=>by
 unfold me at h
 refine cq 5 [8,9] [I x3.1,.isl false (a_1.map ae)] 34 ?_
 refine oq 50 (I (len a_1)) rfl (br rfl rfl rfl (bC rfl)) ?_
 refine cq 2 [11] [B (decide (x3.1<(len a_1)))] 66 ?_
 refine sq h ?_ ?_<;>intro h
 ·refine aq 1 ?_
  refine cq 7 [14,15,16,17] [.hs 1 0 [] 4 0 (x3.2.map ae).length,I x3.1,.isl false (a_1.map ae),I x3.1] 130 ?_
  obtain⟨e4,he4,h⟩:=bS h
  refine oq 146 (.iptr (ae e4) 0) rfl (au rfl rfl rfl (aV rfl rfl rfl rfl he4)) ?_
  refine cq 1 [19] [ae e4] 162 ?_
  obtain⟨r5,hr5,h⟩:=bS h
  refine oq 178 (ae r5) rfl (cP (ZD hr5)) ?_
  obtain⟨e6,he6,h⟩:=bS h
  refine oq 194 (.hp 1 0 [] 4 (0+Int.toNat x3.1) 0) rfl (au rfl rfl rfl (i9 (f:=ae) (xs:=x3.2) rfl rfl rfl he6)) ?_
  refine o0 210 rfl rfl (gy rfl rfl (fu (path:=[]) (pl:=true) (e':=ae r5) (es2':=(fO x3.2 x3.1 r5).map ae) rfl (fU rfl) rfl rfl rfl bc (gY (f:=ae) (xs:=x3.2) he6) rfl rfl rfl (mM (f:=ae) (xs:=x3.2) (y:=r5)) d9 0 rfl)) ?_
  try rw[←kO (f:=ae) (xs:=x3.2) (i:=x3.1) (z:=r5)]
  refine cq 7 [4] [I (az (x3.1+1))] 258 ?_
  refine dQ ?_
  exact rf [0,3,4] [1] (ih _ _ h hr hn :)
 ·refine aq 1 ?_
  exact rf [3] [1] (hn _ (ai h) :) (hk:=hK)
theorem Uh (a_1:List Duty)(r:(List Duty))(h:zM a_1=some r):bo Jt Tryz.f57 [false] 0 (CL a_1) (CM r):=by
 show Run _ _ (Qi a_1 r) [.code Qj] _
 refine rI 23 [(0,.isl false (a_1.map ae))] [] 1 ?_
 unfold zM at h
 refine cq 7 [5] [.isl false (a_1.map ae)] 33 ?_
 refine oq 49 (I (len a_1)) rfl (br rfl rfl rfl (bC rfl)) ?_
 obtain⟨m2,hm2,h⟩:=bS h
 refine oq 65 (.hs 49 0 [] 4 0 (m2.map ae).length) rfl (jV rfl rfl (Fr (f:=ae) rfl rfl rfl (by decide) hm2 rfl)) ?_
 refine cq 8 [3,4] [.hs 49 0 [] 4 0 (m2.map ae).length,I (0)] 97 ?_
 obtain⟨y7,hy7,hy71,hy72⟩:=bJ h
 refine cj rfl ?_
 refine rf [0,3,4] [49] (LI a_1 rfl (0,m2) _ hy7 (fun r' e st hq=>by rw[hy71 r' e] at hq;exact hq) fun u7 hu=>?_)
 replace h:=hy72 u7 hu
 refine cq 5 [2] [.hs 1 0 [] 4 0 (u7.map ae).length] 34 ?_
 obtain rfl:=sI h
 exact ca rfl ⟨_,fin (vs:=[.hs 1 0 [] 4 0 (u7.map ae).length]) rfl (fq (eR rfl (cQ rfl rfl)) eA) rfl (eS fy),ft⟩
theorem Qk {G:bR}:bQ G 57 zN:=gT 1 0 (aJ Qh bq) bX Tryz.func57 (fun a r h=>Uh a r h)
def CN:(List Int)→List V:=oA (fa I)
def CO (r:(List Int)):V×List V:=(.usl 1 (r.map I),[])
noncomputable def zP :=aZ [false] CN CO fun x=>zO x
theorem ZH {a_1:List Int}{r}(h:zO a_1=some r):zP.F (CN a_1)=some (CO r):=aH (aI (bv bz)) h
noncomputable def Qm :=aF Tryz.f58
noncomputable def Ju :=bW []
def Ql (x:(List Int))(r:(List Int)):St→Prop:=QF Ju Tryz.f58 [false] (CN x) (CO r)
theorem LJ (a_1:List Int):cX Ju 0 (Ql a_1) (cL (cL (cR (cL (cR (cR Qm)))))) 0 (rZ a_1) (fun u=>(sT 22 [(3,.hs 1 0 [] 1 0 (u.map I).length)] [⟨0,1,u.map I⟩] 2)) fun x3=>(sT 22 [(0,.isl false (a_1.map I)),(3,.hs 1 0 [] 1 0 (x3.2.map I).length),(4,I x3.1)] [⟨0,1,x3.2.map I⟩] 2):=eI (xG a_1) fun {Q K} hK self ih x3 y h hr hn=>by
 unfold mf at h
 refine cq 5 [8,9] [I x3.1,.isl false (a_1.map I)] 34 ?_
 refine oq 50 (I (len a_1)) rfl (br rfl rfl rfl (bC rfl)) ?_
 refine cq 2 [11] [B (decide (x3.1<(len a_1)))] 66 ?_
 refine sq h ?_ ?_<;>intro h
 ·refine aq 1 ?_
  refine cq 7 [14,15,16,17] [.hs 1 0 [] 1 0 (x3.2.map I).length,I x3.1,.isl false (a_1.map I),I x3.1] 130 ?_
  obtain⟨e4,he4,h⟩:=bS h
  refine oq 146 (.iptr (I e4) 0) rfl (au rfl rfl rfl (aV rfl rfl rfl rfl he4)) ?_
  refine cq 1 [19] [I e4] 162 ?_
  obtain⟨e5,he5,h⟩:=bS h
  refine oq 178 (.hp 1 0 [] 1 (0+Int.toNat x3.1) 0) rfl (au rfl rfl rfl (i9 (f:=I) (xs:=x3.2) rfl rfl rfl he5)) ?_
  refine o0 194 rfl rfl (gy rfl rfl (fu (path:=[]) (pl:=true) (e':=I e4) (es2':=(fO x3.2 x3.1 e4).map I) rfl (fU rfl) rfl rfl rfl bc (gY (f:=I) (xs:=x3.2) he5) rfl rfl rfl (mM (f:=I) (xs:=x3.2) (y:=e4)) d9 0 rfl)) ?_
  try rw[←kO (f:=I) (xs:=x3.2) (i:=x3.1) (z:=e4)]
  refine cq 7 [4] [I (az (x3.1+1))] 242 ?_
  refine dQ ?_
  exact rf [0,3,4] [1] (ih _ _ h hr hn :)
 ·refine aq 1 ?_
  exact rf [3] [1] (hn _ (ai h) :) (hk:=hK)
theorem Ui (a_1:List Int)(r:(List Int))(h:zO a_1=some r):bo Ju Tryz.f58 [false] 0 (CN a_1) (CO r):=by
 show Run _ _ (Ql a_1 r) [.code Qm] _
 refine rI 22 [(0,.isl false (a_1.map I))] [] 1 ?_
 unfold zO at h
 refine cq 7 [5] [.isl false (a_1.map I)] 33 ?_
 refine oq 49 (I (len a_1)) rfl (br rfl rfl rfl (bC rfl)) ?_
 obtain⟨m2,hm2,h⟩:=bS h
 refine oq 65 (.hs 49 0 [] 1 0 (m2.map I).length) rfl (jV rfl rfl (Fr (f:=I) rfl rfl rfl (by decide) hm2 rfl)) ?_
 refine cq 8 [3,4] [.hs 49 0 [] 1 0 (m2.map I).length,I (0)] 97 ?_
 obtain⟨y6,hy6,hy61,hy62⟩:=bJ h
 refine cj rfl ?_
 refine rf [0,3,4] [49] (LJ a_1 rfl (0,m2) _ hy6 (fun r' e st hq=>by rw[hy61 r' e] at hq;exact hq) fun u6 hu=>?_)
 replace h:=hy62 u6 hu
 refine cq 5 [2] [.hs 1 0 [] 1 0 (u6.map I).length] 34 ?_
 obtain rfl:=sI h
 exact ca rfl ⟨_,fin (vs:=[.hs 1 0 [] 1 0 (u6.map I).length]) rfl (fq (eR rfl (cQ rfl rfl)) eA) rfl (eS fy),ft⟩
theorem Qn {G:bR}:bQ G 58 zP:=gT 1 0 bq bX Tryz.func58 (fun a r h=>Ui a r h)
def CP:State→List V:=oA b9
def CQ (r:State):V×List V:=(.agg [I r.Day,.usl 1 (r.Facts.map str),.usl 4 (r.Duties.map ae),.usl 1 (r.Balances.map I),B r.Over],[])
noncomputable def zQ :=aZ [false] CP CQ fun x=>tC x
theorem vp {a_1:State}{r}(h:tC a_1=some r):zQ.F (CP a_1)=some (CQ r):=aH (aI cZ) h
noncomputable def ZJ :=aF Tryz.f23
noncomputable def Qo :=bW [(45,tD),(57,zN),(58,zP)]
def ZI (x:State)(r:State):St→Prop:=QF Qo Tryz.f23 [false] (CP x) (CQ r)
theorem Uj (a_1:State)(r:State)(h:tC a_1=some r):bo Qo Tryz.f23 [false] 0 (CP a_1) (CQ r):=by
 show Run _ _ (ZI a_1 r) [.code ZJ] _
 refine rI 23 [(0,b9 a_1)] [] 1 ?_
 unfold tC at h
 refine ck 4 [1,2] [] [1,17] [] [.hp 1 0 [] 5 0 0,.hp 17 0 [] 5 0 0] [some ⟨0,5,[b9 a_1]⟩,some ⟨0,5,[.agg [I (0),.isl true [],.isl true [],.isl true [],B false]]⟩] 33 (by kernel_rfl) ?_
 refine eM 17 [.agg [I (0),.usl 1 (([]).map str),.usl 4 (([]).map ae),.usl 1 (([]).map I),B false]] rfl rfl (aD (fF (aD (.refl _) (aD (.nil _) (aD (.nil _) (aD (.nil _) (aD (.refl _) dU)))))) dU) ?_
 refine ck 4 [3] [] [33] [] [.hp 33 0 [] 5 0 0] [some ⟨0,5,[.agg [I (0),.isl true [],.isl true [],.isl true [],B false]]⟩] 49 (by kernel_rfl) ?_
 refine eM 33 [.agg [I (0),.usl 1 (([]).map str),.usl 4 (([]).map ae),.usl 1 (([]).map I),B false]] rfl rfl (aD (fF (aD (.refl _) (aD (.nil _) (aD (.nil _) (aD (.nil _) (aD (.refl _) dU)))))) dU) ?_
 refine ck 12 [8] [] [33] [] [.isl false (a_1.Facts.map str)] [some ⟨1,5,[.agg [I a_1.Day,.usl 1 (([]).map str),.usl 4 (([]).map ae),.usl 1 (([]).map I),B false]]⟩] 145 (by kernel_rfl) ?_
 obtain⟨r2,hr2,h⟩:=bS h
 refine oq 161 (.hs 145 0 [] 1 0 (r2.map str).length) rfl (cP (Qq hr2)) ?_
 refine cq 1 [10] [.hp 33 0 [] 5 0 1] 177 ?_
 refine o0 193 rfl rfl (gy rfl rfl (fu (path:=[]) (pl:=false) (e':=.agg [I a_1.Day,.usl 1 (r2.map str),.usl 4 (([]).map ae),.usl 1 (([]).map I),B false]) (es2':=[.agg [I a_1.Day,.usl 1 (r2.map str),.usl 4 (([]).map ae),.usl 1 (([]).map I),B false]]) rfl (eR rfl (cQ rfl rfl)) rfl rfl rfl bc rfl rfl rfl rfl rfl d9 2 rfl)) ?_
 refine cq 5 [12] [.isl false (a_1.Duties.map ae)] 225 ?_
 obtain⟨r3,hr3,h⟩:=bS h
 refine oq 241 (.hs 225 0 [] 4 0 (r3.map ae).length) rfl (cP (ZG hr3)) ?_
 refine cq 1 [14] [.hp 33 0 [] 5 0 2] 257 ?_
 refine o0 273 rfl rfl (gy rfl rfl (fu (path:=[]) (pl:=false) (e':=.agg [I a_1.Day,.usl 1 (r2.map str),.usl 4 (r3.map ae),.usl 1 (([]).map I),B false]) (es2':=[.agg [I a_1.Day,.usl 1 (r2.map str),.usl 4 (r3.map ae),.usl 1 (([]).map I),B false]]) rfl (eR rfl (cQ rfl rfl)) rfl rfl rfl bc rfl rfl rfl rfl rfl d9 3 rfl)) ?_
 refine cq 5 [16] [.isl false (a_1.Balances.map I)] 305 ?_
 obtain⟨r4,hr4,h⟩:=bS h
 refine oq 321 (.hs 305 0 [] 1 0 (r4.map I).length) rfl (cP (ZH hr4)) ?_
 refine cq 1 [18] [.hp 33 0 [] 5 0 3] 337 ?_
 refine o0 353 rfl rfl (gy rfl rfl (fu (path:=[]) (pl:=false) (e':=.agg [I a_1.Day,.usl 1 (r2.map str),.usl 4 (r3.map ae),.usl 1 (r4.map I),B false]) (es2':=[.agg [I a_1.Day,.usl 1 (r2.map str),.usl 4 (r3.map ae),.usl 1 (r4.map I),B false]]) rfl (eR rfl (cQ rfl rfl)) rfl rfl rfl bc rfl rfl rfl rfl rfl d9 4 rfl)) ?_
 refine ck 11 [22] [] [33] [] [.agg [I a_1.Day,.hs 33 4 [(0,1)] 1 0 (r2.map str).length,.hs 33 4 [(0,2)] 4 0 (r3.map ae).length,.hs 33 4 [(0,3)] 1 0 (r4.map I).length,B a_1.Over]] [some ⟨4,5,[.agg [I a_1.Day,.usl 1 (r2.map str),.usl 4 (r3.map ae),.usl 1 (r4.map I),B a_1.Over]]⟩] 433 (by kernel_rfl) ?_
 refine o0 449 rfl rfl (gy rfl rfl (fu (path:=[]) (pl:=false) (e':=.agg [I a_1.Day,.usl 1 (r2.map str),.usl 4 (r3.map ae),.usl 1 (r4.map I),B a_1.Over]) (es2':=[.agg [I a_1.Day,.usl 1 (r2.map str),.usl 4 (r3.map ae),.usl 1 (r4.map I),B a_1.Over]]) rfl (lx (bK (cp rfl) (bK (fw (path:=[(0,1)]) rfl rfl (eY rfl rfl bc) rfl (jh (path:=[]) (i:=0) (k:=1) (e':=.agg [I a_1.Day,.dead,.usl 4 (r3.map ae),.usl 1 (r4.map I),B a_1.Over]) (es2':=[.agg [I a_1.Day,.dead,.usl 4 (r3.map ae),.usl 1 (r4.map I),B a_1.Over]]) bc rfl rfl rfl d9)) (bK (fw (path:=[(0,2)]) rfl rfl (eY rfl rfl bc) rfl (jh (path:=[]) (i:=0) (k:=2) (e':=.agg [I a_1.Day,.dead,.dead,.usl 1 (r4.map I),B a_1.Over]) (es2':=[.agg [I a_1.Day,.dead,.dead,.usl 1 (r4.map I),B a_1.Over]]) bc rfl rfl rfl d9)) (bK (fw (path:=[(0,3)]) rfl rfl (eY rfl rfl bc) rfl (jh (path:=[]) (i:=0) (k:=3) (e':=.agg [I a_1.Day,.dead,.dead,.dead,B a_1.Over]) (es2':=[.agg [I a_1.Day,.dead,.dead,.dead,B a_1.Over]]) bc rfl rfl rfl d9)) (bK (cp rfl) ly)))))) rfl rfl rfl bc rfl rfl rfl rfl rfl d9 2 rfl)) ?_
 refine aq 1 ?_
 obtain rfl:=sI h
 exact ca rfl ⟨_,fin (vs:=[.agg [I a_1.Day,.hs 17 2 [(0,1)] 1 0 (r2.map str).length,.hs 17 2 [(0,2)] 4 0 (r3.map ae).length,.hs 17 2 [(0,3)] 1 0 (r4.map I).length,B a_1.Over]]) (GT (pY rfl rfl rfl) GU) (fq (lx (bK (cp rfl) (bK (fw (path:=[(0,1)]) rfl rfl (eY rfl rfl bc) rfl (jh (path:=[]) (i:=0) (k:=1) (e':=.agg [I a_1.Day,.dead,.usl 4 (r3.map ae),.usl 1 (r4.map I),B a_1.Over]) (es2':=[.agg [I a_1.Day,.dead,.usl 4 (r3.map ae),.usl 1 (r4.map I),B a_1.Over]]) bc rfl rfl rfl d9)) (bK (fw (path:=[(0,2)]) rfl rfl (eY rfl rfl bc) rfl (jh (path:=[]) (i:=0) (k:=2) (e':=.agg [I a_1.Day,.dead,.dead,.usl 1 (r4.map I),B a_1.Over]) (es2':=[.agg [I a_1.Day,.dead,.dead,.usl 1 (r4.map I),B a_1.Over]]) bc rfl rfl rfl d9)) (bK (fw (path:=[(0,3)]) rfl rfl (eY rfl rfl bc) rfl (jh (path:=[]) (i:=0) (k:=3) (e':=.agg [I a_1.Day,.dead,.dead,.dead,B a_1.Over]) (es2':=[.agg [I a_1.Day,.dead,.dead,.dead,B a_1.Over]]) bc rfl rfl rfl d9)) (bK (cp rfl) ly)))))) eA) rfl (eS fy),ft⟩
theorem Qp {G:bR}:bQ G 23 zQ:=gT 1 0 (aJ G8 (aJ Qk (aJ Qn bq))) bX Tryz.func23 (fun a r h=>Uj a r h)
def oG:(Int×Int×Int)→List V:=cA I (cA I (oA I))
def oH (r:Bool):V×List V:=(B r,[])
noncomputable def eZ :=aZ [false,false,false] oG oH fun x=>dY x.1 x.2.1 x.2.2
theorem dZ {x_1:Int}{a_2:Int}{b_3:Int}{r}(h:dY x_1 a_2 b_3=some r):eZ.F (oG (x_1,a_2,b_3))=some (oH r):=aH (aK bz (aK bz (aI bz))) h
noncomputable def yK :=aF Tryz.f89
noncomputable def rK :=bW []
def yJ (x:Int×Int×Int)(r:Bool):St→Prop:=QF rK Tryz.f89 [false,false,false] (oG x) (oH r)
theorem HX (x_1:Int)(a_2:Int)(b_3:Int)(r:Bool)(h:dY x_1 a_2 b_3=some r):bo rK Tryz.f89 [false,false,false] 0 (oG (x_1,a_2,b_3)) (oH r):=by
 show Run _ _ (yJ (x_1,a_2,b_3) r) [.code yK] _
 refine rI 15 [(0,I x_1),(1,I a_2),(2,I b_3)] [] 1 ?_
 unfold dY at h
 refine cq 10 [10] [B (decide (x_1≥a_2))] 81 ?_
 obtain⟨u4,hu4,h⟩:=lJ h
 have j4:Run rK 0 (yJ (x_1,a_2,b_3) r) (.code (cR (cR yK))::[]) (sT 15 [(6,B u4)] [] 1):=by
  obtain rfl:=sI h
  exact rP [B u4]
 replace h:=hu4
 clear hu4
 refine sp 10 h rfl ?_ ?_<;>intro h
 ·refine cq 6 [6] [B (decide (x_1≤b_3))] 161 ?_
  subst h
  exact rf [6] [] (j4 :)
 ·refine cq 6 [6] [B false] 161 ?_
  subst h
  exact rf [6] [] (j4 :)
theorem fH {G:bR}:bQ G 89 eZ:=gT 3 0 bq bX Tryz.func89 (fun a r h=>HX a.1 a.2.1 a.2.2 r h)
def D2:Int→List V:=oA (V.int .u8)
def D3 (r:Bool):V×List V:=(B r,[])
noncomputable def AE :=aZ [false] D2 D3 fun x=>vI x
theorem aao {b_1:Int}{r}(h:vI b_1=some r):AE.F (D2 b_1)=some (D3 r):=aH (aI (Lu (k:=.u8))) h
noncomputable def vK :=aF Tryz.f128
noncomputable def sx :=bW []
def vJ (x:Int)(r:Bool):St→Prop:=QF sx Tryz.f128 [false] (D2 x) (D3 r)
theorem UV (b_1:Int)(r:Bool)(h:vI b_1=some r):bo sx Tryz.f128 [false] 0 (D2 b_1) (D3 r):=by
 show Run _ _ (vJ b_1 r) [.code vK] _
 refine rI 17 [(0,.int .u8 b_1)] [] 1 ?_
 unfold vI at h
 refine cq 9 [5] [B (decide (b_1≥97))] 65 ?_
 obtain⟨u2,hu2,h⟩:=lJ h
 have j2:Run sx 0 (vJ b_1 r) (.code (cR (cR vK))::[]) (sT 17 [(2,B u2)] [] 1):=by
  obtain rfl:=sI h
  exact rP [B u2]
 replace h:=hu2
 clear hu2
 refine sp 5 h rfl ?_ ?_<;>intro h
 ·refine cq 4 [9] [B (decide (b_1≤122))] 129 ?_
  obtain⟨u3,hu3,h⟩:=lJ h
  have j3:Run sx 0 (vJ b_1 r) (.code (cR (cR vK))::[]) (sT 17 [(2,B u3)] [] 1):=by
   subst h
   exact rf [2] [] (j2 :)
  replace h:=hu3
  clear hu3
  refine sp 9 h rfl ?_ ?_<;>intro h
  ·refine cq 9 [2] [B true] 257 ?_
   subst h
   exact rf [2] [] (j3 :)
  ·refine cq 3 [12] [B (decide (b_1≥48))] 177 ?_
   obtain⟨u4,hu4,h⟩:=lJ h
   have j4:Run sx 0 (vJ b_1 r) (.code (cR (cR vK))::[]) (sT 17 [(2,B u4)] [] 1):=by
    subst h
    exact rf [2] [] (j3 :)
   replace h:=hu4
   clear hu4
   refine sp 12 h rfl ?_ ?_<;>intro h
   ·refine cq 6 [2] [B (decide (b_1≤57))] 257 ?_
    subst h
    exact rf [2] [] (j4 :)
   ·refine cq 6 [2] [B false] 257 ?_
    subst h
    exact rf [2] [] (j4 :)
 ·refine cq 7 [9,12] [B false,B (decide (b_1≥48))] 177 ?_
  obtain⟨u5,hu5,h⟩:=lJ h
  have j5:Run sx 0 (vJ b_1 r) (.code (cR (cR vK))::[]) (sT 17 [(2,B u5)] [] 1):=by
   subst h
   exact rf [2] [] (j2 :)
  replace h:=hu5
  clear hu5
  refine sp 12 h rfl ?_ ?_<;>intro h
  ·refine cq 6 [2] [B (decide (b_1≤57))] 257 ?_
   subst h
   exact rf [2] [] (j5 :)
  ·refine cq 6 [2] [B false] 257 ?_
   subst h
   exact rf [2] [] (j5 :)
theorem RA {G:bR}:bQ G 128 AE:=gT 1 0 bq bX Tryz.func128 (fun a r h=>UV a r h)
def DW:aa→List V:=oA str
def DX (r:Bool):V×List V:=(B r,[])
noncomputable def lT :=aZ [false] DW DX fun x=>pg x
theorem oM {s_1:aa}{r}(h:pg s_1=some r):lT.F (DW s_1)=some (DX r):=aH (aI ba) h
noncomputable def oO :=aF Tryz.f80
noncomputable abbrev mo :=cR (cR (cR (cR oO)))
noncomputable abbrev mp :=cR (cL (cR (cL (cR (cR (cR oO))))))
noncomputable def iW :=bW [(89,eZ),(128,AE)]
def gP (x:aa)(r:Bool):St→Prop:=QF iW Tryz.f80 [false] (DW x) (DX r)
theorem LY (s_1:aa):cX iW 0 (gP s_1) (cL (cL (cR (cL (cR (cR oO)))))) 0 (ss s_1) (fun u=>(sT 40 [(0,str s_1)] [] 1)) fun x4=>(sT 40 [(0,str s_1),(3,I x4)] [] 1):=eI (xV s_1) fun {Q K} hK self ih x4 y h hr hn=>by
 unfold mq at h
 refine cq 8 [21] [B (decide (x4<(len s_1)))] 65 ?_
 refine sq h ?_ ?_<;>intro h
 ·refine aq 1 ?_
  refine cq 6 [24,25] [str s_1,I x4] 97 ?_
  obtain⟨c5,hc5,h⟩:=bS h
  refine oq 113 (.int .u8 (c5.toNat:Int)) rfl (mF rfl rfl (qW rfl rfl hc5)) ?_
  obtain⟨r6,hr6,h⟩:=bS h
  refine oq 129 (B r6) rfl (cP (aao hr6)) ?_
  refine cq 2 [28] [B (!r6)] 145 ?_
  refine sq h ?_ ?_<;>intro h
  ·refine cq 4 [2] [B false] 161 ?_
   exact ca rfl (hr _ (ai h) _ (qp [B false]))
  ·refine aq 1 ?_
   refine cq 6 [3] [I (az (x4+1))] 193 ?_
   refine dQ ?_
   exact rf [0,3] [] (ih _ _ h hr hn :)
 ·refine aq 1 ?_
  exact rf [0] [] (hn _ (ai h) :) (hk:=hK)
theorem UR (s_1:aa)(r:Bool)(h:pg s_1=some r):bo iW Tryz.f80 [false] 0 (DW s_1) (DX r):=by
 show Run _ _ (gP s_1 r) [.code oO] _
 refine rI 40 [(0,str s_1)] [] 1 ?_
 unfold pg at h
 refine cq 9 [5] [I (len s_1)] 49 ?_
 obtain⟨r2,hr2,h⟩:=bS h
 refine oq 65 (B r2) rfl (cP (dZ hr2)) ?_
 refine cq 2 [8] [B (!r2)] 97 ?_
 obtain⟨y3,hy3,hy31,hy32⟩:=bJ h
 have j3:∀u3,y3=.inr u3→Run iW 0 (gP s_1 r) (.code (cR (cL (cR oO)))::.code (cR (cR oO))::[]) (sT 40 [(0,str s_1),(17,B u3)] [] 1):=by
  intro u3 hu
  replace h:=hy32 u3 hu
  refine sq h ?_ ?_<;>intro h
  ·refine cq 4 [2] [B false] 17 ?_
   obtain rfl:=sI h
   exact rP [B false]
  ·refine aq 1 ?_
   refine cq 6 [3] [I (0)] 17 ?_
   obtain⟨y7,hy7,hy71,hy72⟩:=bJ h
   refine cj rfl ?_
   refine rf [0,3] [] (LY s_1 rfl 0 _ hy7 (fun r' e st hq=>by rw[hy71 r' e] at hq;exact hq) fun u7 hu=>?_)
   replace h:=hy72 u7 hu
   refine cq 12 [29,30] [str s_1,B (s_1==([116,114,117,101]:aa))] 49 ?_
   obtain⟨u8,hu8,h⟩:=lJ h
   have j8:Run iW 0 (gP s_1 r) (.code mp::.blk 2::.code mo::[]) (sT 40 [(30,B u8)] [] 1):=by
    refine sq h ?_ ?_<;>intro h
    ·refine cq 4 [2] [B false] 17 ?_
     obtain rfl:=sI h
     exact rP [B false]
    ·refine aq 1 ?_
     refine cq 5 [2] [B true] 17 ?_
     obtain rfl:=sI h
     exact rP [B true]
   replace h:=hu8
   clear hu8
   refine yH h rfl rfl ?_ ?_<;>intro h
   ·refine aq 1 ?_
    subst h
    exact rf [30] [] (j8 :)
   ·refine cq 5 [30] [B (s_1==([102,114,111,109]:aa))] 81 ?_
    obtain⟨u9,hu9,h⟩:=lJ h
    have j9:Run iW 0 (gP s_1 r) (.code mp::.blk 2::.code mo::[]) (sT 40 [(30,B u9)] [] 1):=by
     subst h
     exact rf [30] [] (j8 :)
    replace h:=hu9
    clear hu9
    refine yH h rfl rfl ?_ ?_<;>intro h
    ·refine aq 1 ?_
     subst h
     exact rf [30] [] (j9 :)
    ·refine cq 5 [30] [B (s_1==([110,111,116]:aa))] 113 ?_
     obtain⟨u10,hu10,h⟩:=lJ h
     have j10:Run iW 0 (gP s_1 r) (.code mp::.blk 2::.code mo::[]) (sT 40 [(30,B u10)] [] 1):=by
      subst h
      exact rf [30] [] (j9 :)
     replace h:=hu10
     clear hu10
     refine yH h rfl rfl ?_ ?_<;>intro h
     ·refine aq 1 ?_
      subst h
      exact rf [30] [] (j10 :)
     ·refine cq 5 [30] [B (s_1==([97,110,100]:aa))] 145 ?_
      obtain⟨u11,hu11,h⟩:=lJ h
      have j11:Run iW 0 (gP s_1 r) (.code mp::.blk 2::.code mo::[]) (sT 40 [(30,B u11)] [] 1):=by
       subst h
       exact rf [30] [] (j10 :)
      replace h:=hu11
      clear hu11
      refine yH h rfl rfl ?_ ?_<;>intro h
      ·refine aq 1 ?_
       subst h
       exact rf [30] [] (j11 :)
      ·refine cq 5 [30] [B (s_1==([111,114]:aa))] 177 ?_
       obtain⟨u12,hu12,h⟩:=lJ h
       have j12:Run iW 0 (gP s_1 r) (.code mp::.blk 2::.code mo::[]) (sT 40 [(30,B u12)] [] 1):=by
        subst h
        exact rf [30] [] (j11 :)
       replace h:=hu12
       clear hu12
       refine yH h rfl rfl ?_ ?_<;>intro h
       ·refine aq 1 ?_
        subst h
        exact rf [30] [] (j12 :)
       ·refine cq 5 [30] [B (s_1==([98,111,116,104]:aa))] 209 ?_
        obtain⟨u13,hu13,h⟩:=lJ h
        have j13:Run iW 0 (gP s_1 r) (.code mp::.blk 2::.code mo::[]) (sT 40 [(30,B u13)] [] 1):=by
         subst h
         exact rf [30] [] (j12 :)
        replace h:=hu13
        clear hu13
        refine yH h rfl rfl ?_ ?_<;>intro h
        ·refine aq 1 ?_
         subst h
         exact rf [30] [] (j13 :)
        ·refine cq 5 [30] [B (s_1==([101,105,116,104,101,114]:aa))] 241 ?_
         obtain⟨u14,hu14,h⟩:=lJ h
         have j14:Run iW 0 (gP s_1 r) (.code mp::.blk 2::.code mo::[]) (sT 40 [(30,B u14)] [] 1):=by
          subst h
          exact rf [30] [] (j13 :)
         replace h:=hu14
         clear hu14
         refine yH h rfl rfl ?_ ?_<;>intro h
         ·refine aq 1 ?_
          subst h
          exact rf [30] [] (j14 :)
         ·refine cq 5 [30] [B (s_1==([105,116]:aa))] 273 ?_
          obtain⟨u15,hu15,h⟩:=lJ h
          have j15:Run iW 0 (gP s_1 r) (.code mp::.blk 2::.code mo::[]) (sT 40 [(30,B u15)] [] 1):=by
           subst h
           exact rf [30] [] (j14 :)
          replace h:=hu15
          clear hu15
          refine yH h rfl rfl ?_ ?_<;>intro h
          ·refine aq 1 ?_
           subst h
           exact rf [30] [] (j15 :)
          ·refine cq 4 [30] [B (s_1==([105,110]:aa))] 305 ?_
           subst h
           exact rf [30] [] (j15 :)
 have r3:∀r',y3=.inl r'→∀st,gP s_1 r' st→(gP s_1 r) st:=fun r' e st hq=>by rw[hy31 r' e] at hq;exact hq
 replace h:=hy3
 refine sp 8 h rfl ?_ ?_<;>intro h
 ·refine cq 10 [17] [B true] 241 ?_
  exact rf [0,17] [] (j3 _ (ai h) :)
 ·refine cq 1 [9] [str s_1] 113 ?_
  obtain⟨c16,hc16,h⟩:=bS h
  refine oy 129 (.int .u8 (c16.toNat:Int)) rfl (mF rfl rfl (qW rfl rfl hc16)) ?_
  refine cq 3 [13] [B (decide ((c16.toNat:Int)<97))] 177 ?_
  obtain⟨y17,hy17,hy171,hy172⟩:=bL h
  have j17:∀u17,y17=.inr u17→Run iW 0 (gP s_1 r) (.code (cR (cL (cR oO)))::.code (cR (cR oO))::[]) (sT 40 [(0,str s_1),(17,B u17)] [] 1):=by
   intro u17 hu
   replace h:=hy172 u17 hu
   exact rf [0,17] [] (j3 _ (ai h) :)
  have r17:∀r',y17=.inl r'→∀st,gP s_1 r' st→(gP s_1 r) st:=fun r' e st hq=>r3 r' (hy171 r' e) st hq
  replace h:=hy17
  refine sp 13 h rfl ?_ ?_<;>intro h
  ·refine cq 5 [17] [B true] 241 ?_
   exact rf [0,17] [] (j17 _ (ai h) :)
  ·refine cq 1 [14] [str s_1] 193 ?_
   obtain⟨c18,hc18,h⟩:=bS h
   refine oy 209 (.int .u8 (c18.toNat:Int)) rfl (mF rfl rfl (qW rfl rfl hc18)) ?_
   refine cq 3 [17] [B (decide ((c18.toNat:Int)>122))] 241 ?_
   exact rf [0,17] [] (j17 _ (ai h) :)
theorem oP {G:bR}:bQ G 80 lT:=gT 1 0 (aJ fH (aJ RA bq)) bX Tryz.func80 (fun a r h=>UR a r h)
def DQ:((List aa)×aa)→List V:=cA (fa str) (oA str)
def DS (r:Bool):V×List V:=(B r,[])
noncomputable def qf :=aZ [false,false] DQ DS fun x=>pf x.1 x.2
theorem DR {ar:List aa}{ey:aa}{r}(h:pf ar ey=some r):qf.F (DQ (ar,ey))=some (DS r):=aH (aK (bv ba) (aI ba)) h
noncomputable def Rs :=aF Tryz.f123
noncomputable def JK :=bW []
def Rr (x:(List aa)×aa)(r:Bool):St→Prop:=QF JK Tryz.f123 [false,false] (DQ x) (DS r)
theorem LX (ar:List aa)(ey:aa):cX JK 0 (Rr (ar,ey)) (cL (cL (cR (cL (cR Rs))))) 0 (pU ar ey) (fun u=>(sT 18 [] [] 1)) fun x3=>(sT 18 [(0,.isl false (ar.map str)),(1,str ey),(5,I x3)] [] 1):=eI (xU ar ey) fun {Q K} hK self ih x3 y h hr hn=>by
 unfold kv at h
 refine cq 5 [6,7] [I x3,.isl false (ar.map str)] 33 ?_
 refine oq 49 (I (len ar)) rfl (br rfl rfl rfl (bC rfl)) ?_
 refine cq 2 [9] [B (decide (x3<(len ar)))] 65 ?_
 refine sq h ?_ ?_<;>intro h
 ·refine aq 1 ?_
  refine cq 6 [12,13] [.isl false (ar.map str),I x3] 97 ?_
  obtain⟨e4,he4,h⟩:=bS h
  refine oq 113 (.iptr (str e4) 0) rfl (au rfl rfl rfl (aV rfl rfl rfl rfl he4)) ?_
  refine cq 4 [17] [B (e4==ey)] 161 ?_
  refine sq h ?_ ?_<;>intro h
  ·refine cq 4 [4] [B true] 177 ?_
   exact ca rfl (hr _ (ai h) _ (qp [B true]))
  ·refine aq 1 ?_
   refine cq 6 [5] [I (az (x3+1))] 209 ?_
   refine dQ ?_
   exact rf [0,1,5] [] (ih _ _ h hr hn :)
 ·refine aq 1 ?_
  exact rf [] [] (hn _ (ai h) :) (hk:=hK)
theorem UN (ar:List aa)(ey:aa)(r:Bool)(h:pf ar ey=some r):bo JK Tryz.f123 [false,false] 0 (DQ (ar,ey)) (DS r):=by
 show Run _ _ (Rr (ar,ey) r) [.code Rs] _
 refine rI 18 [(0,.isl false (ar.map str)),(1,str ey)] [] 1 ?_
 unfold pf at h
 refine cq 10 [5] [I (0)] 33 ?_
 obtain⟨y5,hy5,hy51,hy52⟩:=bJ h
 refine cj rfl ?_
 refine rf [0,1,5] [] (LX ar ey rfl 0 _ hy5 (fun r' e st hq=>by rw[hy51 r' e] at hq;exact hq) fun u5 hu=>?_)
 replace h:=hy52 u5 hu
 refine cq 4 [4] [B false] 17 ?_
 obtain rfl:=sI h
 exact rP [B false]
theorem vz {G:bR}:bQ G 123 qf:=gT 2 0 bq bX Tryz.func123 (fun a r h=>UN a.1 a.2 r h)
def Ei:Contract→List V:=oA aO
def Ek (r:Bool):V×List V:=(B r,[])
noncomputable def AM :=aZ [false] Ei Ek fun x=>vP x
theorem aas {c_1:Contract}{r}(h:vP c_1=some r):AM.F (Ei c_1)=some (Ek r):=aH (aI bb) h
noncomputable def vQ :=aF Tryz.f90
noncomputable def Ej :=bW [(80,lT),(123,qf),(89,eZ)]
def JV (x:Contract)(r:Bool):St→Prop:=QF Ej Tryz.f90 [false] (Ei x) (Ek r)
theorem L7 (c_1:Contract):cX Ej 0 (JV c_1) (cL (cL (cR (cL (cR vQ))))) 0 (sF c_1) (fun u=>(sT 34 [(1,.hp 1 0 [] 2 0 0)] [⟨0,2,[ac c_1]⟩] 2)) fun x2=>(sT 34 [(1,.hp 1 0 [] 2 0 0),(3,I x2)] [⟨0,2,[ac c_1]⟩] 2):=eI (yf c_1) fun {Q K} hK self ih x2 y h hr hn=>by
 unfold kC at h
 refine cq 6 [4,6] [I x2,.isl false (c_1.Parties.map str)] 50 ?_
 refine oq 66 (I (len c_1.Parties)) rfl (br rfl rfl rfl (bC rfl)) ?_
 refine cq 2 [8] [B (decide (x2<(len c_1.Parties)))] 82 ?_
 refine sq h ?_ ?_<;>intro h
 ·refine aq 1 ?_
  refine aq 3 ?_
  refine eB [0,1,0,7,15,31,63,127,255,511,255,2047,255,4351,255,28927,61695,131071,262143] rfl (by decide +kernel) ?_
  refine dq [1] [] (.hp 1 0 [] 2 0 0) rfl (al rfl rfl rfl) ?_
  refine dq [1] [] (.isl false (c_1.Parties.map str)) rfl (aY rfl rfl) ?_
  refine dk 1 [13] [I x2] ?_
  obtain⟨e3,he3,h⟩:=bS h
  refine dq [] [] (.iptr (str e3) 0) rfl (au rfl rfl rfl (aV rfl rfl rfl rfl he3)) ?_
  refine dq [] [] (str e3) rfl (aY rfl rfl) ?_
  obtain⟨r4,hr4,h⟩:=bS h
  refine dq [] [] (B r4) rfl (cP (oM hr4)) ?_ (dE rfl rfl rfl rfl (bA (bV rfl) dB) (oM hr4) (.inr rfl) rfl)
  refine dk 2 [18,17] [B (!r4),B (!r4)] ?_
  obtain⟨y5,hy5,hy51,hy52⟩:=bL h
  have j5:∀u5,y5=.inr u5→Run Ej 0 Q (.code (cR (cL (cL (cR (cL (cL (cR (cL (cR vQ)))))))))::.blk 1::.code (cR (cR (cL (cL (cR (cL (cR vQ)))))))::.lp (cL (cL (cR (cL (cR vQ)))))::.blk 0::K) (sT 34 [(1,.hp 1 0 [] 2 0 0),(3,I x2),(29,B u5)] [⟨0,2,[ac c_1]⟩] 2):=by
   intro u5 hu
   replace h:=hy52 u5 hu
   refine sq h ?_ ?_<;>intro h
   ·refine cq 4 [2] [B false] 18 ?_
    exact ca rfl (hr _ (ai h) _ (qp [B false]))
   ·refine aq 1 ?_
    refine cq 6 [3] [I (az (x2+1))] 50 ?_
    refine dQ ?_
    exact rf [1,3] [1] (ih _ _ h hr hn :)
  have r5:∀r',y5=.inl r'→∀st,JV c_1 r' st→Q st:=fun r' e st hq=>hr r' (hy51 r' e) st hq
  replace h:=hy5
  refine sp 18 h rfl ?_ ?_<;>intro h
  ·refine dk 11 [29,28,27,26,25,24,23,22,21,20,19] [B true,.und,.und,.und,.und,.und,.und,.und,.und,.und,.und] ?_
   refine de 386 rfl rfl ?_
   exact rf [1,3,29] [1] (j5 _ (ai h) :)
  ·refine dy [1] [] (.hp 1 0 [] 2 0 0) rfl (al rfl rfl rfl) ?_
   refine dy [1] [] (.isl false (c_1.Parties.map str)) rfl (aY rfl rfl) ?_
   refine dk 1 [21] [I x2] ?_
   obtain⟨s6,hs6,h⟩:=bS h
   refine dy [] [] (.isl false (s6.map str)) rfl (im rfl rfl rfl rfl (Li rfl rfl (fun y=>(js y).1) rfl rfl hs6)) ?_
   refine dy [1] [] (.hp 1 0 [] 2 0 0) rfl (al rfl rfl rfl) ?_
   refine dy [1] [] (.isl false (c_1.Parties.map str)) rfl (aY rfl rfl) ?_
   refine dk 1 [25] [I x2] ?_
   obtain⟨e7,he7,h⟩:=bS h
   refine dy [] [] (.iptr (str e7) 0) rfl (au rfl rfl rfl (aV rfl rfl rfl rfl he7)) ?_
   refine dy [] [] (str e7) rfl (aY rfl rfl) ?_
   obtain⟨r8,hr8,h⟩:=bS h
   refine dy [] [] (B r8) rfl (cP (DR hr8)) ?_ (dE rfl rfl rfl rfl (bA (bV rfl) (bA (bV rfl) dB)) (DR hr8) (.inr rfl) rfl)
   refine dk 1 [29] [B r8] ?_
   refine de 386 rfl rfl ?_
   exact rf [1,3,29] [1] (j5 _ (ai h) :)
 ·refine aq 1 ?_
  exact rf [1] [1] (hn _ (ai h) :) (hk:=hK)
theorem U3 (c_1:Contract)(r:Bool)(h:vP c_1=some r):bo Ej Tryz.f90 [false] 0 (Ei c_1) (Ek r):=by
 show Run _ _ (JV c_1 r) [.code vQ] _
 refine rI 34 [(0,ac c_1)] [] 1 ?_
 unfold vP at h
 refine ck 11 [1,3] [] [1] [] [.hp 1 0 [] 2 0 0,I (0)] [some ⟨0,2,[ac c_1]⟩] 49 (by kernel_rfl) ?_
 obtain⟨y9,hy9,hy91,hy92⟩:=bJ h
 refine cj rfl ?_
 refine rf [1,3] [1] (L7 c_1 rfl 0 _ hy9 (fun r' e st hq=>by rw[hy91 r' e] at hq;exact hq) fun u9 hu=>?_)
 replace h:=hy92 u9 hu
 refine cq 4 [31] [.isl false (c_1.Parties.map str)] 34 ?_
 refine oq 50 (I (len c_1.Parties)) rfl (br rfl rfl rfl (bC rfl)) ?_
 obtain⟨r10,hr10,h⟩:=bS h
 refine oq 66 (B r10) rfl (cP (dZ hr10)) ?_
 refine cq 2 [2] [B r10] 82 ?_
 obtain rfl:=sI h
 exact rP [B r10]
theorem RP {G:bR}:bQ G 90 AM:=gT 1 0 (aJ oP (aJ vz (aJ fH bq))) bX Tryz.func90 (fun a r h=>U3 a r h)
def D9:(Contract×aa)→List V:=cA aO (oA str)
def Ea (r:Int):V×List V:=(I r,[])
noncomputable def tJ :=aZ [false,false] D9 Ea fun x=>tI x.1 x.2
theorem JT {c_1:Contract}{eH:aa}{r}(h:tI c_1 eH=some r):tJ.F (D9 (c_1,eH))=some (Ea r):=aH (aK bb (aI ba)) h
noncomputable def RK :=aF Tryz.f91
noncomputable def JS :=bW []
def RJ (x:Contract×aa)(r:Int):St→Prop:=QF JS Tryz.f91 [false,false] (D9 x) (Ea r)
theorem L4 (c_1:Contract)(eH:aa):cX JS 0 (RJ (c_1,eH)) (cL (cL (cR (cL (cR RK))))) 0 (sD c_1 eH) (fun u=>(sT 22 [] [] 1)) fun x3=>(sT 22 [(1,str eH),(2,.hp 1 0 [] 2 0 0),(5,I x3)] [⟨0,2,[ac c_1]⟩] 2):=eI (yb c_1 eH) fun {Q K} hK self ih x3 y h hr hn=>by
 unfold mu at h
 refine cq 6 [6,8] [I x3,.isl false (c_1.Clauses.map aj)] 50 ?_
 refine oq 66 (I (len c_1.Clauses)) rfl (br rfl rfl rfl (bC rfl)) ?_
 refine cq 2 [10] [B (decide (x3<(len c_1.Clauses)))] 82 ?_
 refine sq h ?_ ?_<;>intro h
 ·refine aq 1 ?_
  refine cq 7 [14,15] [.isl false (c_1.Clauses.map aj),I x3] 130 ?_
  obtain⟨e4,he4,h⟩:=bS h
  refine oq 146 (.iptr (ao e4) 0) rfl (au rfl rfl rfl (aV rfl rfl rfl rfl he4)) ?_
  refine cq 5 [20] [B (e4.Id==eH)] 210 ?_
  refine sq h ?_ ?_<;>intro h
  ·refine cq 5 [4] [I x3] 242 ?_
   exact ca rfl (hr _ (ai h) _ (qp [I x3]))
  ·refine aq 1 ?_
   refine cq 6 [5] [I (az (x3+1))] 258 ?_
   refine dQ ?_
   exact rf [1,2,5] [1] (ih _ _ h hr hn :)
 ·refine aq 1 ?_
  exact rf [] [] (hn _ (ai h) :) (hk:=hK)
theorem U0 (c_1:Contract)(eH:aa)(r:Int)(h:tI c_1 eH=some r):bo JS Tryz.f91 [false,false] 0 (D9 (c_1,eH)) (Ea r):=by
 show Run _ _ (RJ (c_1,eH) r) [.code RK] _
 refine rI 22 [(0,ac c_1),(1,str eH)] [] 1 ?_
 unfold tI at h
 refine ck 11 [2,5] [] [1] [] [.hp 1 0 [] 2 0 0,I (0)] [some ⟨0,2,[ac c_1]⟩] 49 (by kernel_rfl) ?_
 obtain⟨y5,hy5,hy51,hy52⟩:=bJ h
 refine cj rfl ?_
 refine rf [1,2,5] [1] (L4 c_1 eH rfl 0 _ hy5 (fun r' e st hq=>by rw[hy51 r' e] at hq;exact hq) fun u5 hu=>?_)
 replace h:=hy52 u5 hu
 refine cq 4 [4] [I (-1)] 17 ?_
 obtain rfl:=sI h
 exact rP [I (-1)]
theorem Ha {G:bR}:bQ G 91 tJ:=gT 2 0 bq bX Tryz.func91 (fun a r h=>U0 a.1 a.2 r h)
def DE:Int→List V:=oA I
def DG (r:Bool):V×List V:=(B r,[])
noncomputable def qd :=aZ [false] DE DG fun x=>qc x
theorem DF {gv:Int}{r}(h:qc gv=some r):qd.F (DE gv)=some (DG r):=aH (aI bz) h
noncomputable def aaj :=aF Tryz.f76
noncomputable def Ri :=bW [(89,eZ)]
def aai (x:Int)(r:Bool):St→Prop:=QF Ri Tryz.f76 [false] (DE x) (DG r)
theorem UH (gv:Int)(r:Bool)(h:qc gv=some r):bo Ri Tryz.f76 [false] 0 (DE gv) (DG r):=by
 show Run _ _ (aai gv r) [.code aaj] _
 refine rI 5 [(0,I gv)] [] 1 ?_
 unfold qc at h
 refine cq 7 [3] [I gv] 33 ?_
 obtain⟨r2,hr2,h⟩:=bS h
 refine oq 49 (B r2) rfl (cP (dZ hr2)) ?_
 refine cq 2 [2] [B r2] 65 ?_
 obtain rfl:=sI h
 exact rP [B r2]
theorem vv {G:bR}:bQ G 76 qd:=gT 1 0 (aJ fH bq) bX Tryz.func76 (fun a r h=>UH a r h)
def DK:Condition→List V:=oA bg
def DL (r:Bool):V×List V:=(B r,[])
noncomputable def Aw :=aZ [false] DK DL fun x=>Av x
theorem aal {c_1:Condition}{r}(h:Av c_1=some r):Aw.F (DK c_1)=some (DL r):=aH (aI cH) h
noncomputable def mS :=aF Tryz.f190
noncomputable abbrev iV :=cR (cR (cR mS))
noncomputable abbrev Mz :=cR (cL (cR (cR (cR (cL (cR (cL (cR (cR mS)))))))))
noncomputable abbrev MA :=cR (cL (cR (cR (cR (cR (cR (cL (cR (cL (cR (cR mS)))))))))))
noncomputable abbrev MB :=cR (cL (cR (cR (cR (cR (cR (cR (cR (cL (cR (cL (cR (cR mS)))))))))))))
noncomputable abbrev MC :=cR (cL (cR (cR (cR (cR (cR (cR (cR (cR (cR (cL (cR (cL (cR (cR mS)))))))))))))))
noncomputable def iU :=bW [(80,lT),(76,qd)]
def gc (x:Condition)(r:Bool):St→Prop:=QF iU Tryz.f190 [false] (DK x) (DL r)
theorem UJ (c_1:Condition)(r:Bool)(h:Av c_1=some r):bo iU Tryz.f190 [false] 0 (DK c_1) (DL r):=by
 show Run _ _ (gc c_1 r) [.code mS] _
 refine rI 80 [(0,ah c_1)] [] 1 ?_
 unfold Av at h
 refine ck 9 [1,5] [] [1] [] [.hp 1 0 [] 4 0 0,.isl false (c_1.Parts.map ay)] [some ⟨0,4,[ah c_1]⟩] 65 (by kernel_rfl) ?_
 refine oq 81 (I (len c_1.Parts)) rfl (br rfl rfl rfl (bC rfl)) ?_
 refine cq 14 [3,8,9] [I (len c_1.Parts),I c_1.Op,B (c_1.Op==1)] 161 ?_
 refine sq h ?_ ?_<;>intro h
 ·refine cq 5 [13] [B ((len c_1.Parts)==0)] 209 ?_
  obtain⟨u2,hu2,h⟩:=lJ h
  have j2:Run iU 0 (gc c_1 r) (.code (cR (cL (cR (cL (cR (cL (cR (cR mS))))))))::.blk 0::.code iV::[]) (sT 80 [(2,B u2)] [] 1):=by
   obtain rfl:=sI h
   exact rP [B u2]
  replace h:=hu2
  clear hu2
  refine sp 13 h rfl ?_ ?_<;>intro h
  ·refine cq 5 [18] [B (c_1.Name==([]:aa))] 289 ?_
   obtain⟨u3,hu3,h⟩:=lJ h
   have j3:Run iU 0 (gc c_1 r) (.code (cR (cL (cR (cL (cR (cL (cR (cR mS))))))))::.blk 0::.code iV::[]) (sT 80 [(2,B u3)] [] 1):=by
    subst h
    exact rf [2] [] (j2 :)
   replace h:=hu3
   clear hu3
   refine sp 18 h rfl ?_ ?_<;>intro h
   ·refine cq 6 [2] [B (c_1.Day==0)] 369 ?_
    subst h
    exact rf [2] [] (j3 :)
   ·refine cq 6 [2] [B false] 369 ?_
    subst h
    exact rf [2] [] (j3 :)
  ·refine cq 11 [2] [B false] 369 ?_
   subst h
   exact rf [2] [] (j2 :)
 ·refine cq 5 [23] [B (c_1.Op==2)] 193 ?_
  refine sq h ?_ ?_<;>intro h
  ·refine cq 5 [27] [B ((len c_1.Parts)==0)] 241 ?_
   obtain⟨y4,hy4,hy41,hy42⟩:=bJ h
   have j4:∀u4,y4=.inr u4→Run iU 0 (gc c_1 r) (.code Mz::.blk 0::.code iV::[]) (sT 80 [(2,B u4)] [] 1):=by
    intro u4 hu
    replace h:=hy42 u4 hu
    obtain rfl:=sI h
    exact rP [B u4]
   have r4:∀r',y4=.inl r'→∀st,gc c_1 r' st→(gc c_1 r) st:=fun r' e st hq=>by rw[hy41 r' e] at hq;exact hq
   replace h:=hy4
   refine sp 27 h rfl ?_ ?_<;>intro h
   ·refine cq 2 [29] [str c_1.Name] 273 ?_
    obtain⟨r5,hr5,h⟩:=bS h
    refine oy 289 (B r5) rfl (cP (oM hr5)) ?_
    refine cq 2 [32] [B r5] 321 ?_
    obtain⟨u6,hu6,h⟩:=lJ h
    have j6:Run iU 0 (gc c_1 r) (.code Mz::.blk 0::.code iV::[]) (sT 80 [(2,B u6)] [] 1):=by
     exact rf [2] [] (j4 _ (ai h) :)
    replace h:=hu6
    clear hu6
    refine sp 32 h rfl ?_ ?_<;>intro h
    ·refine cq 6 [2] [B (c_1.Day==0)] 401 ?_
     subst h
     exact rf [2] [] (j6 :)
    ·refine cq 6 [2] [B false] 401 ?_
     subst h
     exact rf [2] [] (j6 :)
   ·refine cq 11 [2] [B false] 401 ?_
    exact rf [2] [] (j4 _ (ai h) :)
  ·refine cq 5 [37] [B (c_1.Op==3)] 225 ?_
   refine sq h ?_ ?_<;>intro h
   ·refine cq 5 [41] [B ((len c_1.Parts)==0)] 273 ?_
    obtain⟨y7,hy7,hy71,hy72⟩:=bJ h
    have j7:∀u7,y7=.inr u7→Run iU 0 (gc c_1 r) (.code MA::.blk 0::.code iV::[]) (sT 80 [(2,B u7)] [] 1):=by
     intro u7 hu
     replace h:=hy72 u7 hu
     obtain rfl:=sI h
     exact rP [B u7]
    have r7:∀r',y7=.inl r'→∀st,gc c_1 r' st→(gc c_1 r) st:=fun r' e st hq=>by rw[hy71 r' e] at hq;exact hq
    replace h:=hy7
    refine sp 41 h rfl ?_ ?_<;>intro h
    ·refine cq 5 [46] [B (c_1.Name==([]:aa))] 353 ?_
     obtain⟨y8,hy8,hy81,hy82⟩:=bL h
     have j8:∀u8,y8=.inr u8→Run iU 0 (gc c_1 r) (.code MA::.blk 0::.code iV::[]) (sT 80 [(2,B u8)] [] 1):=by
      intro u8 hu
      replace h:=hy82 u8 hu
      exact rf [2] [] (j7 _ (ai h) :)
     have r8:∀r',y8=.inl r'→∀st,gc c_1 r' st→(gc c_1 r) st:=fun r' e st hq=>r7 r' (hy81 r' e) st hq
     replace h:=hy8
     refine sp 46 h rfl ?_ ?_<;>intro h
     ·refine cq 2 [48] [I c_1.Day] 385 ?_
      obtain⟨r9,hr9,h⟩:=bS h
      refine oy 401 (B r9) rfl (cP (DF hr9)) ?_
      refine cq 3 [2] [B r9] 433 ?_
      exact rf [2] [] (j8 _ (ai h) :)
     ·refine cq 6 [2] [B false] 433 ?_
      exact rf [2] [] (j8 _ (ai h) :)
    ·refine cq 11 [2] [B false] 433 ?_
     exact rf [2] [] (j7 _ (ai h) :)
   ·refine cq 5 [51] [B (c_1.Op==4)] 257 ?_
    refine sq h ?_ ?_<;>intro h
    ·refine cq 5 [55] [B ((len c_1.Parts)==1)] 305 ?_
     obtain⟨u10,hu10,h⟩:=lJ h
     have j10:Run iU 0 (gc c_1 r) (.code MB::.blk 0::.code iV::[]) (sT 80 [(2,B u10)] [] 1):=by
      obtain rfl:=sI h
      exact rP [B u10]
     replace h:=hu10
     clear hu10
     refine sp 55 h rfl ?_ ?_<;>intro h
     ·refine cq 5 [60] [B (c_1.Name==([]:aa))] 385 ?_
      obtain⟨u11,hu11,h⟩:=lJ h
      have j11:Run iU 0 (gc c_1 r) (.code MB::.blk 0::.code iV::[]) (sT 80 [(2,B u11)] [] 1):=by
       subst h
       exact rf [2] [] (j10 :)
      replace h:=hu11
      clear hu11
      refine sp 60 h rfl ?_ ?_<;>intro h
      ·refine cq 6 [2] [B (c_1.Day==0)] 465 ?_
       subst h
       exact rf [2] [] (j11 :)
      ·refine cq 6 [2] [B false] 465 ?_
       subst h
       exact rf [2] [] (j11 :)
     ·refine cq 11 [2] [B false] 465 ?_
      subst h
      exact rf [2] [] (j10 :)
    ·refine cq 6 [65] [B (c_1.Op==5)] 289 ?_
     obtain⟨u12,hu12,h⟩:=lJ h
     have j12:Run iU 0 (gc c_1 r) (.code (cR (cR (cR (cR (cR (cR (cR (cR (cR (cL (cR (cL (cR (cR mS))))))))))))))::.blk 0::.code iV::[]) (sT 80 [(1,.hp 1 0 [] 4 0 0),(3,I (len c_1.Parts)),(65,B u12)] [⟨0,4,[ah c_1]⟩] 2):=by
      refine sq h ?_ ?_<;>intro h
      ·refine cq 5 [70] [B ((len c_1.Parts)==2)] 50 ?_
       obtain⟨u13,hu13,h⟩:=lJ h
       have j13:Run iU 0 (gc c_1 r) (.code MC::.blk 0::.code iV::[]) (sT 80 [(2,B u13)] [] 1):=by
        obtain rfl:=sI h
        exact rP [B u13]
       replace h:=hu13
       clear hu13
       refine sp 70 h rfl ?_ ?_<;>intro h
       ·refine cq 5 [75] [B (c_1.Name==([]:aa))] 130 ?_
        obtain⟨u14,hu14,h⟩:=lJ h
        have j14:Run iU 0 (gc c_1 r) (.code MC::.blk 0::.code iV::[]) (sT 80 [(2,B u14)] [] 1):=by
         subst h
         exact rf [2] [] (j13 :)
        replace h:=hu14
        clear hu14
        refine sp 75 h rfl ?_ ?_<;>intro h
        ·refine cq 6 [2] [B (c_1.Day==0)] 210 ?_
         subst h
         exact rf [2] [] (j14 :)
        ·refine cq 6 [2] [B false] 210 ?_
         subst h
         exact rf [2] [] (j14 :)
       ·refine cq 11 [2] [B false] 210 ?_
        subst h
        exact rf [2] [] (j13 :)
      ·refine aq 1 ?_
       refine cq 5 [2] [B false] 18 ?_
       obtain rfl:=sI h
       exact rP [B false]
     replace h:=hu12
     clear hu12
     refine yH h rfl rfl ?_ ?_<;>intro h
     ·refine aq 1 ?_
      subst h
      exact rf [1,3,65] [1] (j12 :)
     ·refine cq 4 [65] [B (c_1.Op==6)] 321 ?_
      subst h
      exact rf [1,3,65] [1] (j12 :)
theorem Rl {G:bR}:bQ G 190 Aw:=gT 1 0 (aJ oP (aJ vv bq)) bX Tryz.func190 (fun a r h=>UJ a r h)
def vw:Condition→List V:=oA bg
def vx (r:Bool):V×List V:=(B r,[])
noncomputable def vy (cl:Condition→Option Bool):Ent:=aZ [false] vw vx cl
theorem MD (cl:Condition→Option Bool){x}{r}(h:cl x=some r):(vy cl).F (vw x)=some (vx r):=aH (aI cH) h
noncomputable def Ay :=vy (aN qe)
theorem aam {c_1:Condition}{r}(h:Ge c_1=some r):Ay.F (vw c_1)=some (vx r):=MD (aN qe) h
noncomputable def Rn :=aF Tryz.f169
noncomputable def JI (cl:Condition→Option Bool):Env:=bW [(190,Aw),(169,(vy cl))]
def Rm (cl:Condition→Option Bool)(x:Condition)(r:Bool):St→Prop:=QF (JI cl) Tryz.f169 [false] (vw x) (vx r)
theorem LW (cl:Condition→Option Bool)(c_1:Condition):cX (JI cl) 0 (Rm cl c_1) (cL (cL (cR (cL (cR (cR Rn)))))) 0 (pT cl c_1) (fun u=>(sT 21 [] [] 1)) fun x3=>(sT 21 [(1,.hp 1 0 [] 4 0 0),(3,I x3)] [⟨0,4,[ah c_1]⟩] 2):=eI (xT cl c_1) fun {Q K} hK self ih x3 y h hr hn=>by
 unfold ku at h
 refine cq 6 [7,9] [I x3,.isl false (c_1.Parts.map ay)] 50 ?_
 refine oq 66 (I (len c_1.Parts)) rfl (br rfl rfl rfl (bC rfl)) ?_
 refine cq 2 [11] [B (decide (x3<(len c_1.Parts)))] 82 ?_
 refine sq h ?_ ?_<;>intro h
 ·refine aq 1 ?_
  refine cq 7 [15,16] [.isl false (c_1.Parts.map ay),I x3] 130 ?_
  obtain⟨e4,he4,h⟩:=bS h
  refine oq 146 (.iptr (ah e4) 0) rfl (au rfl rfl rfl (aV rfl rfl (bB e4) rfl he4)) ?_
  refine cq 1 [18] [ah e4] 162 ?_
  obtain⟨r5,hr5,h⟩:=bS h
  refine oq 178 (B r5) rfl (ce rfl rfl (cS rfl rfl rfl (bA (bV rfl) dB) (MD cl hr5) (.inr rfl) eb rfl rfl rfl)) ?_
  refine cq 2 [20] [B (!r5)] 194 ?_
  refine sq h ?_ ?_<;>intro h
  ·refine cq 4 [2] [B false] 210 ?_
   exact ca rfl (hr _ (ai h) _ (qp [B false]))
  ·refine aq 1 ?_
   refine cq 6 [3] [I (az (x3+1))] 242 ?_
   refine dQ ?_
   exact rf [1,3] [1] (ih _ _ h hr hn :)
 ·refine aq 1 ?_
  exact rf [] [] (hn _ (ai h) :) (hk:=hK)
theorem UL (cl:Condition→Option Bool)(c_1:Condition)(r:Bool)(h:sn cl c_1=some r):bo (JI cl) Tryz.f169 [false] 0 (vw c_1) (vx r):=by
 show Run _ _ (Rm cl c_1 r) [.code Rn] _
 refine rI 21 [(0,ah c_1)] [] 1 ?_
 unfold sn at h
 refine ck 9 [1,4] [] [1] [] [.hp 1 0 [] 4 0 0,ah c_1] [some ⟨0,4,[ah c_1]⟩] 49 (by kernel_rfl) ?_
 obtain⟨r2,hr2,h⟩:=bS h
 refine oq 65 (B r2) rfl (cP (aal hr2)) ?_
 refine cq 2 [6] [B (!r2)] 81 ?_
 refine sq h ?_ ?_<;>intro h
 ·refine cq 4 [2] [B false] 97 ?_
  obtain rfl:=sI h
  exact rP [B false]
 ·refine aq 1 ?_
  refine cq 6 [3] [I (0)] 97 ?_
  obtain⟨y6,hy6,hy61,hy62⟩:=bJ h
  refine cj rfl ?_
  refine rf [1,3] [1] (LW cl c_1 rfl 0 _ hy6 (fun r' e st hq=>by rw[hy61 r' e] at hq;exact hq) fun u6 hu=>?_)
  replace h:=hy62 u6 hu
  refine cq 4 [2] [B true] 17 ?_
  obtain rfl:=sI h
  exact rP [B true]
theorem Ro {G:bR}:bQ G 169 Ay:=iG fun cl g_Ffdl=>gT 1 0 (aJ Rl (aJ g_Ffdl bq)) bX Tryz.func169 (fun a r h=>UL cl a r h)
def vL:Condition→List V:=oA bg
def vM (r:Int):V×List V:=(I r,[])
noncomputable def vN (cn:Condition→Option Int):Ent:=aZ [false] vL vM cn
theorem MF (cn:Condition→Option Int){x}{r}(h:cn x=some r):(vN cn).F (vL x)=some (vM r):=aH (aI cH) h
noncomputable def AF :=vN (aN kz)
theorem aap {c_1:Condition}{r}(h:JO c_1=some r):AF.F (vL c_1)=some (vM r):=MF (aN kz) h
noncomputable def RC :=aF Tryz.f170
noncomputable def JP (cn:Condition→Option Int):Env:=bW [(170,(vN cn))]
def RB (cn:Condition→Option Int)(x:Condition)(r:Int):St→Prop:=QF (JP cn) Tryz.f170 [false] (vL x) (vM r)
theorem L1 (cn:Condition→Option Int)(c_1:Condition):cX (JP cn) 0 (RB cn c_1) (cL (cL (cR (cL (cR (cR RC)))))) 0 (kZ cn c_1) (fun u=>(sT 21 [(3,I u)] [] 1)) fun x2=>(sT 21 [(1,.hp 1 0 [] 4 0 0),(3,I x2.1),(4,I x2.2)] [⟨0,4,[ah c_1]⟩] 2):=eI (xY cn c_1) fun {Q K} hK self ih x2 y h hr hn=>by
 unfold jl at h
 refine cq 6 [5,7] [I x2.2,.isl false (c_1.Parts.map ay)] 50 ?_
 refine oq 66 (I (len c_1.Parts)) rfl (br rfl rfl rfl (bC rfl)) ?_
 refine cq 2 [9] [B (decide (x2.2<(len c_1.Parts)))] 82 ?_
 refine sq h ?_ ?_<;>intro h
 ·refine aq 1 ?_
  refine cq 7 [12,14,15] [I x2.1,.isl false (c_1.Parts.map ay),I x2.2] 146 ?_
  obtain⟨e3,he3,h⟩:=bS h
  refine oq 162 (.iptr (ah e3) 0) rfl (au rfl rfl rfl (aV rfl rfl (bB e3) rfl he3)) ?_
  refine cq 1 [17] [ah e3] 178 ?_
  obtain⟨r4,hr4,h⟩:=bS h
  refine oq 194 (I r4) rfl (ce rfl rfl (cS rfl rfl rfl (bA (bV rfl) dB) (MF cn hr4) (.inr rfl) eb rfl rfl rfl)) ?_
  refine cq 9 [3,4] [I (az (x2.1+r4)),I (az (x2.2+1))] 274 ?_
  refine dQ ?_
  exact rf [1,3,4] [1] (ih _ _ h hr hn :)
 ·refine aq 1 ?_
  exact rf [3] [] (hn _ (ai h) :) (hk:=hK)
theorem UX (cn:Condition→Option Int)(c_1:Condition)(r:Int)(h:sA cn c_1=some r):bo (JP cn) Tryz.f170 [false] 0 (vL c_1) (vM r):=by
 show Run _ _ (RB cn c_1 r) [.code RC] _
 refine rI 21 [(0,ah c_1)] [] 1 ?_
 unfold sA at h
 refine ck 15 [1,3,4] [] [1] [] [.hp 1 0 [] 4 0 0,I (1),I (0)] [some ⟨0,4,[ah c_1]⟩] 65 (by kernel_rfl) ?_
 obtain⟨y5,hy5,hy51,hy52⟩:=bJ h
 refine cj rfl ?_
 refine rf [1,3,4] [1] (L1 cn c_1 rfl (1,0) _ hy5 (fun r' e st hq=>by rw[hy51 r' e] at hq;exact hq) fun u5 hu=>?_)
 replace h:=hy52 u5 hu
 refine cq 5 [2] [I u5] 33 ?_
 obtain rfl:=sI h
 exact rP [I u5]
theorem RD {G:bR}:bQ G 170 AF:=iG fun cn g_Ffdt=>gT 1 0 (aJ g_Ffdt bq) bX Tryz.func170 (fun a r h=>UX cn a r h)
def DM:Condition→List V:=oA bg
def DP (r:Bool):V×List V:=(B r,[])
noncomputable def AB :=aZ [false] DM DP fun x=>Az x
theorem aan {c_1:Condition}{r}(h:Az c_1=some r):AB.F (DM c_1)=some (DP r):=aH (aI cH) h
noncomputable def Rp :=aF Tryz.f135
noncomputable def JJ :=bW [(169,Ay),(170,AF)]
def DN (x:Condition)(r:Bool):St→Prop:=QF JJ Tryz.f135 [false] (DM x) (DP r)
theorem UM (c_1:Condition)(r:Bool)(h:Az c_1=some r):bo JJ Tryz.f135 [false] 0 (DM c_1) (DP r):=by
 show Run _ _ (DN c_1 r) [.code Rp] _
 refine rI 10 [(0,ah c_1)] [] 1 ?_
 unfold Az at h
 refine ck 8 [1,3] [] [1] [] [.hp 1 0 [] 4 0 0,ah c_1] [some ⟨0,4,[ah c_1]⟩] 49 (by kernel_rfl) ?_
 obtain⟨r2,hr2,h⟩:=bS h
 refine oq 65 (B r2) rfl (cP (aam hr2)) ?_
 refine cq 1 [5] [B r2] 81 ?_
 obtain⟨y3,hy3,hy31,hy32⟩:=bJ h
 have j3:∀u3,y3=.inr u3→Run JJ 0 (DN c_1 r) (.code (cR (cR Rp))::[]) (sT 10 [(2,B u3)] [] 1):=by
  intro u3 hu
  replace h:=hy32 u3 hu
  obtain rfl:=sI h
  exact rP [B u3]
 have r3:∀r',y3=.inl r'→∀st,DN c_1 r' st→(DN c_1 r) st:=fun r' e st hq=>by rw[hy31 r' e] at hq;exact hq
 replace h:=hy3
 refine sp 5 h rfl ?_ ?_<;>intro h
 ·refine cq 1 [6] [ah c_1] 97 ?_
  obtain⟨r4,hr4,h⟩:=bS h
  refine oy 113 (I r4) rfl (cP (aap hr4)) ?_
  refine cq 4 [2] [B (decide (r4≤15))] 161 ?_
  exact rf [2] [] (j3 _ (ai h) :)
 ·refine cq 6 [2] [B false] 161 ?_
  exact rf [2] [] (j3 _ (ai h) :)
theorem Rq {G:bR}:bQ G 135 AB:=gT 1 0 (aJ Ro (aJ RD bq)) bX Tryz.func135 (fun a r h=>UM a r h)
def D5:(Contract×Int)→List V:=cA aO (oA I)
def D6 (r:Bool):V×List V:=(B r,[])
noncomputable def AH :=aZ [false,false] D5 D6 fun x=>AG x.1 x.2
theorem RE {c_1:Contract}{i_2:Int}{r}(h:AG c_1 i_2=some r):AH.F (D5 (c_1,i_2))=some (D6 r):=aH (aK bb (aI bz)) h
noncomputable def JQ :=aF Tryz.f92
noncomputable abbrev mr :=cR (cR (cR (cR JQ)))
noncomputable abbrev pW :=cR (cL (cR (cR (cR JQ))))
noncomputable abbrev sB :=cR mr
noncomputable abbrev wS :=cR (cL mr)
noncomputable abbrev Gg :=cR (cR (cR sB))
noncomputable def hJ :=bW [(80,lT),(89,eZ),(91,tJ),(135,AB)]
def dW (x:Contract×Int)(r:Bool):St→Prop:=QF hJ Tryz.f92 [false,false] (D5 x) (D6 r)
theorem UY (c_1:Contract)(i_2:Int)(r:Bool)(h:AG c_1 i_2=some r):bo hJ Tryz.f92 [false,false] 0 (D5 (c_1,i_2)) (D6 r):=by
 show Run _ _ (dW (c_1,i_2) r) [.code JQ] _
 refine rI 114 [(0,ac c_1),(1,I i_2)] [] 1 ?_
 unfold AG at h
 refine ck 10 [2,9,10] [] [1] [] [.hp 1 0 [] 2 0 0,.isl false (c_1.Clauses.map aj),I i_2] [some ⟨0,2,[ac c_1]⟩] 81 (by kernel_rfl) ?_
 obtain⟨e3,he3,h⟩:=bS h
 refine oq 97 (.iptr (ao e3) 0) rfl (au rfl rfl rfl (aV rfl rfl rfl rfl he3)) ?_
 refine ck 2 [5,12] [] [113] [] [.hp 113 0 [] 12 0 0,ao e3] [some ⟨0,12,[.agg [str ([]),I (0),I (0),str ([]),I (0),I (0),I (0),str ([]),I (0),.isl true [],I (0),str ([])]]⟩] 129 (by kernel_rfl) ?_
 refine eM 113 [.agg [str ([]),I (0),I (0),str ([]),I (0),I (0),I (0),str ([]),I (0),.usl 4 (([]).map aC),I (0),str ([])]] rfl rfl (aD (fF (aD (.refl _) (aD (.refl _) (aD (.refl _) (aD (.refl _) (aD (.refl _) (aD (.refl _) (aD (.refl _) (aD (.refl _) (aD (.refl _) (aD (.nil _) (aD (.refl _) (aD (.refl _) dU))))))))))))) dU) ?_
 refine ck 6 [14] [] [113] [] [.isl false (c_1.Parties.map str)] [some ⟨2,12,[ao e3]⟩] 177 (by kernel_rfl) ?_
 refine oq 193 (I (len c_1.Parties)) rfl (br rfl rfl rfl (bC rfl)) ?_
 refine cq 7 [6,17] [I (len c_1.Parties),str e3.Id] 241 ?_
 obtain⟨r4,hr4,h⟩:=bS h
 refine oq 257 (B r4) rfl (cP (oM hr4)) ?_
 refine cq 2 [20] [B (!r4)] 289 ?_
 obtain⟨y5,hy5,hy51,hy52⟩:=bJ h
 have j5:∀u5,y5=.inr u5→Run hJ 0 (dW (c_1,i_2) r) (.code pW::.code mr::[]) (sT 114 [(1,I i_2),(2,.hp 1 0 [] 2 0 0),(5,.hp 2 0 [] 12 0 0),(60,B u5)] [⟨0,2,[ac c_1]⟩,⟨0,12,[ao e3]⟩] 3):=by
  intro u5 hu
  replace h:=hy52 u5 hu
  refine sq h ?_ ?_<;>intro h
  ·refine cq 4 [4] [B false] 19 ?_
   obtain rfl:=sI h
   exact rP [B false]
  ·refine aq 1 ?_
   refine cq 5 [62] [I e3.Amount] 35 ?_
   obtain⟨r6,hr6,h⟩:=bS h
   refine oq 51 (B r6) rfl (cP (dZ hr6)) ?_
   refine cq 2 [65] [B (!r6)] 83 ?_
   obtain⟨y7,hy7,hy71,hy72⟩:=bJ h
   have j7:∀u7,y7=.inr u7→Run hJ 0 (dW (c_1,i_2) r) (.code wS::.code sB::[]) (sT 114 [(1,I i_2),(2,.hp 1 0 [] 2 0 0),(5,.hp 2 0 [] 12 0 0),(85,B u7)] [⟨0,2,[ac c_1]⟩,⟨0,12,[ao e3]⟩] 3):=by
    intro u7 hu
    replace h:=hy72 u7 hu
    refine sq h ?_ ?_<;>intro h
    ·refine cq 4 [4] [B false] 19 ?_
     obtain rfl:=sI h
     exact rP [B false]
    ·refine aq 1 ?_
     refine cq 7 [88] [B (e3.Repair==([]:aa))] 51 ?_
     refine sq h ?_ ?_<;>intro h
     ·refine cq 4 [4] [B true] 67 ?_
      obtain rfl:=sI h
      exact rP [B true]
     ·refine aq 1 ?_
      refine cq 5 [89,91] [ac c_1,str e3.Repair] 99 ?_
      obtain⟨r8,hr8,h⟩:=bS h
      refine oq 115 (I r8) rfl (cP (JT hr8)) ?_
      refine cq 7 [7,95] [I r8,B (decide (r8≥0))] 179 ?_
      obtain⟨y9,hy9,hy91,hy92⟩:=bJ h
      have j9:∀u9,y9=.inr u9→Run hJ 0 (dW (c_1,i_2) r) (.code Gg::[]) (sT 114 [(4,B u9)] [] 1):=by
       intro u9 hu
       replace h:=hy92 u9 hu
       obtain rfl:=sI h
       exact rP [B u9]
      have r9:∀r',y9=.inl r'→∀st,dW (c_1,i_2) r' st→(dW (c_1,i_2) r) st:=fun r' e st hq=>by rw[hy91 r' e] at hq;exact hq
      replace h:=hy9
      refine sp 95 h rfl ?_ ?_<;>intro h
      ·refine cq 5 [100] [B (r8 != i_2)] 259 ?_
       obtain⟨y10,hy10,hy101,hy102⟩:=bL h
       have j10:∀u10,y10=.inr u10→Run hJ 0 (dW (c_1,i_2) r) (.code Gg::[]) (sT 114 [(4,B u10)] [] 1):=by
        intro u10 hu
        replace h:=hy102 u10 hu
        exact rf [4] [] (j9 _ (ai h) :)
       have r10:∀r',y10=.inl r'→∀st,dW (c_1,i_2) r' st→(dW (c_1,i_2) r) st:=fun r' e st hq=>r9 r' (hy101 r' e) st hq
       replace h:=hy10
       refine sp 100 h rfl ?_ ?_<;>intro h
       ·refine cq 3 [102,103] [.isl false (c_1.Clauses.map aj),I r8] 307 ?_
        obtain⟨e11,he11,h⟩:=bS h
        refine oy 323 (.iptr (ao e11) 0) rfl (au rfl rfl rfl (aV rfl rfl rfl rfl he11)) ?_
        refine cq 5 [109] [B (e11.Kind==1)] 403 ?_
        obtain⟨u12,hu12,h⟩:=lJ h
        have j12:Run hJ 0 (dW (c_1,i_2) r) (.code Gg::[]) (sT 114 [(4,B u12)] [] 1):=by
         exact rf [4] [] (j10 _ (ai h) :)
        replace h:=hu12
        clear hu12
        refine sp 109 h rfl ?_ ?_<;>intro h
        ·refine cq 6 [4] [B (e3.Kind != 3)] 483 ?_
         subst h
         exact rf [4] [] (j12 :)
        ·refine cq 6 [4] [B false] 483 ?_
         subst h
         exact rf [4] [] (j12 :)
       ·refine cq 15 [4] [B false] 483 ?_
        exact rf [4] [] (j10 _ (ai h) :)
      ·refine cq 20 [4] [B false] 483 ?_
       exact rf [4] [] (j9 _ (ai h) :)
   have r7:∀r',y7=.inl r'→∀st,dW (c_1,i_2) r' st→(dW (c_1,i_2) r) st:=fun r' e st hq=>by rw[hy71 r' e] at hq;exact hq
   replace h:=hy7
   refine sp 65 h rfl ?_ ?_<;>intro h
   ·refine cq 21 [85] [B true] 403 ?_
    exact rf [1,2,5,85] [1,2] (j7 _ (ai h) :)
   ·refine cq 2 [67] [I e3.Within] 115 ?_
    obtain⟨r13,hr13,h⟩:=bS h
    refine oy 131 (B r13) rfl (cP (dZ hr13)) ?_
    refine cq 3 [71] [B (!r13)] 179 ?_
    obtain⟨u14,hu14,h⟩:=lJ h
    have j14:Run hJ 0 (dW (c_1,i_2) r) (.code wS::.code sB::[]) (sT 114 [(1,I i_2),(2,.hp 1 0 [] 2 0 0),(5,.hp 2 0 [] 12 0 0),(85,B u14)] [⟨0,2,[ac c_1]⟩,⟨0,12,[ao e3]⟩] 3):=by
     exact rf [1,2,5,85] [1,2] (j7 _ (ai h) :)
    replace h:=hu14
    clear hu14
    refine sp 71 h rfl ?_ ?_<;>intro h
    ·refine cq 15 [85] [B true] 403 ?_
     subst h
     exact rf [1,2,5,85] [1,2] (j14 :)
    ·refine cq 4 [75] [B (e3.Kind != 1)] 243 ?_
     obtain⟨u15,hu15,h⟩:=lJ h
     have j15:Run hJ 0 (dW (c_1,i_2) r) (.code wS::.code sB::[]) (sT 114 [(1,I i_2),(2,.hp 1 0 [] 2 0 0),(5,.hp 2 0 [] 12 0 0),(85,B u15)] [⟨0,2,[ac c_1]⟩,⟨0,12,[ao e3]⟩] 3):=by
      subst h
      exact rf [1,2,5,85] [1,2] (j14 :)
     replace h:=hu15
     clear hu15
     refine sp 75 h rfl ?_ ?_<;>intro h
     ·refine cq 4 [79] [B (e3.Amount != 0)] 307 ?_
      obtain⟨u16,hu16,h⟩:=lJ h
      have j16:Run hJ 0 (dW (c_1,i_2) r) (.code wS::.code sB::[]) (sT 114 [(1,I i_2),(2,.hp 1 0 [] 2 0 0),(5,.hp 2 0 [] 12 0 0),(85,B u16)] [⟨0,2,[ac c_1]⟩,⟨0,12,[ao e3]⟩] 3):=by
       subst h
       exact rf [1,2,5,85] [1,2] (j15 :)
      replace h:=hu16
      clear hu16
      refine sp 79 h rfl ?_ ?_<;>intro h
      ·refine cq 7 [85] [B true] 403 ?_
       subst h
       exact rf [1,2,5,85] [1,2] (j16 :)
      ·refine cq 7 [85] [B (e3.Within != 0)] 403 ?_
       subst h
       exact rf [1,2,5,85] [1,2] (j16 :)
     ·refine cq 11 [85] [B false] 403 ?_
      subst h
      exact rf [1,2,5,85] [1,2] (j15 :)
 have r5:∀r',y5=.inl r'→∀st,dW (c_1,i_2) r' st→(dW (c_1,i_2) r) st:=fun r' e st hq=>by rw[hy51 r' e] at hq;exact hq
 replace h:=hy5
 refine sp 20 h rfl ?_ ?_<;>intro h
 ·refine cq 41 [60] [B true] 929 ?_
  exact rf [1,2,5,60] [1,113] (j5 _ (ai h) :)
 ·refine cq 2 [22] [str e3.Action] 321 ?_
  obtain⟨r17,hr17,h⟩:=bS h
  refine oy 337 (B r17) rfl (cP (oM hr17)) ?_
  refine cq 3 [26] [B (!r17)] 385 ?_
  obtain⟨y18,hy18,hy181,hy182⟩:=bL h
  have j18:∀u18,y18=.inr u18→Run hJ 0 (dW (c_1,i_2) r) (.code pW::.code mr::[]) (sT 114 [(1,I i_2),(2,.hp 1 0 [] 2 0 0),(5,.hp 2 0 [] 12 0 0),(60,B u18)] [⟨0,2,[ac c_1]⟩,⟨0,12,[ao e3]⟩] 3):=by
   intro u18 hu
   replace h:=hy182 u18 hu
   exact rf [1,2,5,60] [1,2] (j5 _ (ai h) :)
  have r18:∀r',y18=.inl r'→∀st,dW (c_1,i_2) r' st→(dW (c_1,i_2) r) st:=fun r' e st hq=>r5 r' (hy181 r' e) st hq
  replace h:=hy18
  refine sp 26 h rfl ?_ ?_<;>intro h
  ·refine cq 35 [60] [B true] 929 ?_
   exact rf [1,2,5,60] [1,113] (j18 _ (ai h) :)
  ·refine cq 2 [28] [I e3.Kind] 417 ?_
   obtain⟨r19,hr19,h⟩:=bS h
   refine oy 433 (B r19) rfl (cP (dZ hr19)) ?_
   refine cq 3 [32] [B (!r19)] 481 ?_
   obtain⟨y20,hy20,hy201,hy202⟩:=bL h
   have j20:∀u20,y20=.inr u20→Run hJ 0 (dW (c_1,i_2) r) (.code pW::.code mr::[]) (sT 114 [(1,I i_2),(2,.hp 1 0 [] 2 0 0),(5,.hp 2 0 [] 12 0 0),(60,B u20)] [⟨0,2,[ac c_1]⟩,⟨0,12,[ao e3]⟩] 3):=by
    intro u20 hu
    replace h:=hy202 u20 hu
    exact rf [1,2,5,60] [1,2] (j18 _ (ai h) :)
   have r20:∀r',y20=.inl r'→∀st,dW (c_1,i_2) r' st→(dW (c_1,i_2) r) st:=fun r' e st hq=>r18 r' (hy201 r' e) st hq
   replace h:=hy20
   refine sp 32 h rfl ?_ ?_<;>intro h
   ·refine cq 29 [60] [B true] 929 ?_
    exact rf [1,2,5,60] [1,113] (j20 _ (ai h) :)
   ·refine cq 4 [34,36] [I e3.Party,I (az ((len c_1.Parties) - 1))] 545 ?_
    obtain⟨r21,hr21,h⟩:=bS h
    refine oy 561 (B r21) rfl (cP (dZ hr21)) ?_
    refine cq 3 [40] [B (!r21)] 609 ?_
    obtain⟨y22,hy22,hy221,hy222⟩:=bL h
    have j22:∀u22,y22=.inr u22→Run hJ 0 (dW (c_1,i_2) r) (.code pW::.code mr::[]) (sT 114 [(1,I i_2),(2,.hp 1 0 [] 2 0 0),(5,.hp 2 0 [] 12 0 0),(60,B u22)] [⟨0,2,[ac c_1]⟩,⟨0,12,[ao e3]⟩] 3):=by
     intro u22 hu
     replace h:=hy222 u22 hu
     exact rf [1,2,5,60] [1,2] (j20 _ (ai h) :)
    have r22:∀r',y22=.inl r'→∀st,dW (c_1,i_2) r' st→(dW (c_1,i_2) r) st:=fun r' e st hq=>r20 r' (hy221 r' e) st hq
    replace h:=hy22
    refine sp 40 h rfl ?_ ?_<;>intro h
    ·refine cq 21 [60] [B true] 929 ?_
     exact rf [1,2,5,60] [1,113] (j22 _ (ai h) :)
    ·refine cq 4 [42,44] [I e3.Other,I (az ((len c_1.Parties) - 1))] 673 ?_
     obtain⟨r23,hr23,h⟩:=bS h
     refine oy 689 (B r23) rfl (cP (dZ hr23)) ?_
     refine cq 3 [48] [B (!r23)] 737 ?_
     obtain⟨y24,hy24,hy241,hy242⟩:=bL h
     have j24:∀u24,y24=.inr u24→Run hJ 0 (dW (c_1,i_2) r) (.code pW::.code mr::[]) (sT 114 [(1,I i_2),(2,.hp 1 0 [] 2 0 0),(5,.hp 2 0 [] 12 0 0),(60,B u24)] [⟨0,2,[ac c_1]⟩,⟨0,12,[ao e3]⟩] 3):=by
      intro u24 hu
      replace h:=hy242 u24 hu
      exact rf [1,2,5,60] [1,2] (j22 _ (ai h) :)
     have r24:∀r',y24=.inl r'→∀st,dW (c_1,i_2) r' st→(dW (c_1,i_2) r) st:=fun r' e st hq=>r22 r' (hy241 r' e) st hq
     replace h:=hy24
     refine sp 48 h rfl ?_ ?_<;>intro h
     ·refine cq 13 [60] [B true] 929 ?_
      exact rf [1,2,5,60] [1,113] (j24 _ (ai h) :)
     ·refine cq 7 [55] [B (e3.Party==e3.Other)] 849 ?_
      obtain⟨y25,hy25,hy251,hy252⟩:=bL h
      have j25:∀u25,y25=.inr u25→Run hJ 0 (dW (c_1,i_2) r) (.code pW::.code mr::[]) (sT 114 [(1,I i_2),(2,.hp 1 0 [] 2 0 0),(5,.hp 2 0 [] 12 0 0),(60,B u25)] [⟨0,2,[ac c_1]⟩,⟨0,12,[ao e3]⟩] 3):=by
       intro u25 hu
       replace h:=hy252 u25 hu
       exact rf [1,2,5,60] [1,2] (j24 _ (ai h) :)
      have r25:∀r',y25=.inl r'→∀st,dW (c_1,i_2) r' st→(dW (c_1,i_2) r) st:=fun r' e st hq=>r24 r' (hy251 r' e) st hq
      replace h:=hy25
      refine sp 55 h rfl ?_ ?_<;>intro h
      ·refine cq 6 [60] [B true] 929 ?_
       exact rf [1,2,5,60] [1,113] (j25 _ (ai h) :)
      ·refine cq 2 [57] [ah e3.When] 881 ?_
       obtain⟨r26,hr26,h⟩:=bS h
       refine oy 897 (B r26) rfl (cP (aan hr26)) ?_
       refine cq 3 [60] [B (!r26)] 929 ?_
       exact rf [1,2,5,60] [1,113] (j25 _ (ai h) :)
theorem RF {G:bR}:bQ G 92 AH:=gT 2 0 (aJ oP (aJ fH (aJ Ha (aJ Rq bq)))) bX Tryz.func92 (fun a r h=>UY a.1 a.2 r h)
def DZ:((List aa)×aa)→List V:=cA (FV 1 str) (oA str)
def D0 (r:(List aa)):V×List V:=(.usl 1 (r.map str),[.dead])
noncomputable def tH :=aZ [true,false] DZ D0 fun x=>vG x.1 x.2
theorem JN {l_8:List aa}{s_9:aa}{r}(h:vG l_8 s_9=some r):tH.F (DZ (l_8,s_9))=some (D0 r):=aH (aK (pZ ba) (aI ba)) h
noncomputable def qh :=aF Tryz.f137
noncomputable def vH :=bW []
def sv (x:(List aa)×aa)(r:(List aa)):St→Prop:=QF vH Tryz.f137 [true,false] (DZ x) (D0 r)
theorem L0 (l_8:List aa)(s_9:aa):cX vH 1 (sv (l_8,s_9)) (cL (cL (cL (cR (cR qh))))) 0 (sw l_8 s_9) (fun u=>(sO 45 [(0,.hs 2 0 [] 1 0 (u.2.2.map str).length),(1,str u.1),(5,I u.2.1)] [none,some ⟨0,1,u.2.2.map str⟩] 3)) fun x3=>(sO 45 [(0,.hs 2 0 [] 1 0 (l_8.map str).length),(1,str s_9),(5,I x3)] [none,some ⟨0,1,l_8.map str⟩] 3):=eI (xX l_8 s_9) fun {Q K} hK self ih x3 y h hr hn=>by
 unfold ky at h
 refine cq 5 [6,7] [I x3,.hs 2 0 [] 1 0 (l_8.map str).length] 35 ?_
 refine oq 51 (I (len l_8)) rfl (br rfl rfl rfl (xg (f:=str) (xs:=l_8) rfl rfl)) ?_
 refine cq 2 [10] [B (decide (x3<(len l_8)))] 83 ?_
 obtain⟨y4,hy4,hy41,hy42⟩:=bL h
 have j4:∀u4,y4=.inr u4→Run vH 1 Q (.code (cR (cL (cL (cL (cL (cR (cR qh)))))))::.code (cR (cL (cL (cL (cR (cR qh))))))::.lp (cL (cL (cL (cR (cR qh)))))::.blk 0::K) (sO 45 [(0,.hs 2 0 [] 1 0 (l_8.map str).length),(1,str s_9),(5,I x3),(17,B u4)] [none,some ⟨0,1,l_8.map str⟩] 3):=by
  intro u4 hu
  replace h:=hy42 u4 hu
  refine sq h ?_ ?_<;>intro h
  ·refine aq 1 ?_
   refine cq 7 [5] [I (az (x3+1))] 51 ?_
   refine dQ ?_
   exact rg [0,1,5] [52,2] (ih _ _ h hr hn :)
  ·refine aq 1 ?_
   exact rg [0,1,5] [4,2] (hn _ (ai h) :) (hk:=hK)
 have r4:∀r',y4=.inl r'→∀st,sv (l_8,s_9) r' st→Q st:=fun r' e st hq=>hr r' (hy41 r' e) st hq
 replace h:=hy4
 refine sp 10 h rfl ?_ ?_<;>intro h
 ·refine cq 2 [11,12] [.hs 2 0 [] 1 0 (l_8.map str).length,I x3] 115 ?_
  obtain⟨e5,he5,h⟩:=bS h
  refine oy 131 (.hp 2 0 [] 1 (0+Int.toNat x3) 0) rfl (au rfl rfl rfl (i9 (f:=str) (xs:=l_8) rfl rfl rfl he5)) ?_
  refine oy 147 (str e5) rfl (aY rfl (qX (path:=[]) rfl rfl rfl bc (gY (f:=str) (xs:=l_8) he5) rfl rfl rfl)) ?_
  refine cq 4 [17] [B (Op.bytesLess e5 s_9)] 195 ?_
  exact rg [0,1,5,17] [196,2] (j4 _ (ai h) :)
 ·refine cq 8 [17] [B false] 195 ?_
  exact rg [0,1,5,17] [196,2] (j4 _ (ai h) :)
theorem UU (l_8:List aa)(s_9:aa)(r:(List aa))(h:vG l_8 s_9=some r):bo vH Tryz.f137 [true,false] 1 (DZ (l_8,s_9)) (D0 r):=by
 show Run _ _ (sv (l_8,s_9) r) [.code qh] _
 refine rI 45 [(0,.hs 1 0 [] 1 0 (l_8.map str).length),(1,str s_9)] [(1,some ⟨0,1,l_8.map str⟩)] 2 ?_
 unfold vG at h
 refine cq 10 [5] [I (0)] 34 ?_
 obtain⟨y6,hy6,hy61,hy62⟩:=bJ h
 refine cj rfl ?_
 refine rg [0,1,5] [35,1] (L0 l_8 s_9 rfl 0 _ hy6 (fun r' e st hq=>by rw[hy61 r' e] at hq;exact hq) fun u6 hu=>?_)
 replace h:=hy62 u6 hu
 refine cq 5 [20,21] [I u6.2.1,.hs 2 0 [] 1 0 (u6.2.2.map str).length] 35 ?_
 refine oq 51 (I (len u6.2.2)) rfl (br rfl rfl rfl (xg (f:=str) (xs:=u6.2.2) rfl rfl)) ?_
 refine cq 2 [24] [B (decide (u6.2.1<(len u6.2.2)))] 83 ?_
 obtain⟨y7,hy7,hy71,hy72⟩:=bJ h
 have j7:∀u7,y7=.inr u7→Run vH 1 (sv (l_8,s_9) r) (.code (cR (cL (cR (cR (cR qh)))))::.code (cR (cR (cR (cR qh))))::[]) (sO 45 [(0,.hs 2 0 [] 1 0 (u6.2.2.map str).length),(1,str u6.1),(5,I u6.2.1),(31,B u7)] [none,some ⟨0,1,u6.2.2.map str⟩] 3):=by
  intro u7 hu
  replace h:=hy72 u7 hu
  refine sq h ?_ ?_<;>intro h
  ·refine cq 5 [4] [.hs 2 0 [] 1 0 (u6.2.2.map str).length] 35 ?_
   obtain rfl:=sI h
   exact ca rfl ⟨_,fin (vs:=[.hs 2 0 [] 1 0 (u6.2.2.map str).length]) rfl (fq (eR rfl (cQ rfl rfl)) eA) rfl (uw rfl (pH rfl) (eS fy)),um ft⟩
  ·refine aq 1 ?_
   refine aq 1 ?_
   refine eB [0,0,0,6,15,0,32,127,0,0,768,2047,4095] rfl (by decide +kernel) ?_
   refine dq [] [] (.hs 3 0 [] 1 0 0) rfl (fx rfl (ow (f:=I) (xs:=[]) (z:=str ([])) (es:=[]) (ws:=[]) rfl rfl rfl (by decide) rfl (eq rfl) rfl)) ?_
   refine dk 2 [35,34] [I u6.2.1,.hs 2 0 [] 1 0 (u6.2.2.map str).length] ?_
   obtain⟨s8,hs8,h⟩:=bS h
   refine dq [2] [] (.hs 2 0 [] 1 (0+Int.toNat (0)) (Int.toNat u6.2.1 - Int.toNat (0))) rfl (im rfl rfl rfl rfl (tq (f:=str) (xs:=u6.2.2) rfl rfl rfl rfl rfl hs8)) ?_
   obtain⟨p9,hp9,h⟩:=bS h
   obtain⟨a10,ha10,h⟩:=bS h
   refine dq [3,2] [3] (.hs 67 0 [] 1 0 (a10.map str).length) rfl (kJ rfl rfl rfl rfl rfl (oU (path:=[]) (es0:=[]) (f:=str) (xs:=([]:List aa)) (ys:=p9) rfl rfl (Nh (path:=[]) (f:=str) (xs:=u6.2.2) rfl rfl bc hp9 l4) rfl rfl rfl rfl rfl (by decide) js ha10 rfl qC)) ?_ (I7 rfl (I2 (path:=[]) (f:=str) (xs:=u6.2.2) rfl rfl bc l4 rfl))
   refine dk 1 [38] [str u6.1] ?_
   refine dq [] [] (.hs 99 0 [] 1 0 1) rfl (fx rfl (ow (f:=I) (xs:=[]) (z:=str ([])) (es:=[str u6.1]) (ws:=[str u6.1]) rfl rfl rfl (by decide) rfl (eq rfl) rfl)) ?_
   obtain⟨a11,ha11,h⟩:=bS h
   refine dq [67,99] [67] (.hs 115 0 [] 1 0 (a11.map str).length) rfl (kJ rfl rfl rfl rfl rfl (oU (path:=[]) (f:=str) (xs:=a10) (ys:=[u6.1]) rfl rfl (GZ rfl rfl rfl) rfl rfl rfl bc rfl (by decide) js ha11 rfl qC)) ?_ (I7 rfl (I2 (path:=[]) (f:=str) (xs:=[u6.1]) rfl rfl bc l4 rfl))
   refine dk 2 [42,41] [I u6.2.1,.hs 2 0 [] 1 0 (u6.2.2.map str).length] ?_
   obtain⟨s12,hs12,h⟩:=bS h
   refine dq [2] [] (.hs 2 0 [] 1 (0+Int.toNat u6.2.1) (Int.toNat (len u6.2.2) - Int.toNat u6.2.1)) rfl (im rfl rfl rfl rfl (tq (f:=str) (xs:=u6.2.2) rfl rfl rfl rfl (VE rfl) hs12)) ?_
   obtain⟨p13,hp13,h⟩:=bS h
   obtain⟨a14,ha14,h⟩:=bS h
   refine dq [115,2] [115] (.hs 179 0 [] 1 0 (a14.map str).length) rfl (kJ rfl rfl rfl rfl rfl (oU (path:=[]) (f:=str) (xs:=a11) (ys:=p13) rfl rfl (Nh (path:=[]) (f:=str) (xs:=u6.2.2) rfl rfl bc hp13 l4) rfl rfl rfl bc rfl (by decide) js ha14 rfl qC)) ?_ (I7 rfl (I2 (path:=[]) (f:=str) (xs:=u6.2.2) rfl rfl bc l4 rfl))
   refine dk 1 [4] [.hs 179 0 [] 1 0 (a14.map str).length] ?_
   refine de 211 rfl rfl ?_
   obtain rfl:=sI h
   exact ca rfl ⟨_,fin (vs:=[.hs 179 0 [] 1 0 (a14.map str).length]) rfl (fq (eR rfl (cQ rfl rfl)) eA) rfl (uw rfl (pH rfl) (eS fy)),um ft⟩
 have r7:∀r',y7=.inl r'→∀st,sv (l_8,s_9) r' st→(sv (l_8,s_9) r) st:=fun r' e st hq=>by rw[hy71 r' e] at hq;exact hq
 replace h:=hy7
 refine sp 24 h rfl ?_ ?_<;>intro h
 ·refine cq 2 [25,26] [.hs 2 0 [] 1 0 (u6.2.2.map str).length,I u6.2.1] 115 ?_
  obtain⟨e15,he15,h⟩:=bS h
  refine oy 131 (.hp 2 0 [] 1 (0+Int.toNat u6.2.1) 0) rfl (au rfl rfl rfl (i9 (f:=str) (xs:=u6.2.2) rfl rfl rfl he15)) ?_
  refine oy 147 (str e15) rfl (aY rfl (qX (path:=[]) rfl rfl rfl bc (gY (f:=str) (xs:=u6.2.2) he15) rfl rfl rfl)) ?_
  refine cq 4 [31] [B (e15==u6.1)] 195 ?_
  exact rg [0,1,5,31] [196,2] (j7 _ (ai h) :)
 ·refine cq 8 [31] [B false] 195 ?_
  exact rg [0,1,5,31] [196,2] (j7 _ (ai h) :)
theorem G9 {G:bR}:bQ G 137 tH:=gT 2 1 bq bX Tryz.func137 (fun a r h=>UU a.1 a.2 r h)
def vD:((List aa)×Condition)→List V:=cA (FV 1 str) (oA bg)
def vE (r:(List aa)):V×List V:=(.usl 1 (r.map str),[.dead])
noncomputable def vF (cm:((List aa)×Condition)→Option (List aa)):Ent:=aZ [true,false] vD vE cm
theorem ME (cm:((List aa)×Condition)→Option (List aa)){x}{r}(h:cm x=some r):(vF cm).F (vD x)=some (vE r):=aH (aK (pZ ba) (aI cH)) h
noncomputable def AD :=vF (aN kx)
theorem Rv {l_4:List aa}{c_5:Condition}{r}(h:JL l_4 c_5=some r):AD.F (vD (l_4,c_5))=some (vE r):=ME (aN kx) h
noncomputable def Ry :=aF Tryz.f136
noncomputable def JM (cm:((List aa)×Condition)→Option (List aa)):Env:=bW [(137,tH),(136,(vF cm))]
def Rx (cm:((List aa)×Condition)→Option (List aa))(x:(List aa)×Condition)(r:(List aa)):St→Prop:=QF (JM cm) Tryz.f136 [true,false] (vD x) (vE r)
theorem LZ (cm:((List aa)×Condition)→Option (List aa))(l_4:List aa)(c_5:Condition):cX (JM cm) 1 (Rx cm (l_4,c_5)) (cL (cL (cR (cL (cR (cR Ry)))))) 0 (kY cm l_4 c_5) (fun u=>(sO 28 [(0,.hs 2 0 [] 1 0 (u.map str).length)] [none,some ⟨0,1,u.map str⟩] 3)) fun x4=>(sO 28 [(0,.hs 2 0 [] 1 0 (x4.2.map str).length),(3,.hp 3 0 [] 4 0 0),(5,I x4.1)] [none,some ⟨0,1,x4.2.map str⟩,some ⟨0,4,[ah c_5]⟩] 4):=eI (xW cm l_4 c_5) fun {Q K} hK self ih x4 y h hr hn=>by
 unfold jk at h
 refine cq 6 [13,15] [I x4.1,.isl false (c_5.Parts.map ay)] 52 ?_
 refine oq 68 (I (len c_5.Parts)) rfl (br rfl rfl rfl (bC rfl)) ?_
 refine cq 2 [17] [B (decide (x4.1<(len c_5.Parts)))] 84 ?_
 refine sq h ?_ ?_<;>intro h
 ·refine aq 1 ?_
  refine cq 7 [20,22,23] [.hs 2 0 [] 1 0 (x4.2.map str).length,.isl false (c_5.Parts.map ay),I x4.1] 148 ?_
  obtain⟨e5,he5,h⟩:=bS h
  refine oq 164 (.iptr (ah e5) 0) rfl (au rfl rfl rfl (aV rfl rfl (bB e5) rfl he5)) ?_
  refine cq 1 [25] [ah e5] 180 ?_
  obtain⟨r6,hr6,h⟩:=bS h
  refine oq 196 (.hs 180 0 [] 1 0 (r6.map str).length) rfl (ce rfl rfl (cS rfl rfl rfl (uL (qU rfl (lP (path:=[]) rfl rfl bc rfl)) (bA (bV rfl) dB)) (ME cm hr6) (.inr rfl) (tX rfl rfl rfl mD eb) rfl rfl rfl)) ?_
  refine cq 8 [0,5] [.hs 180 0 [] 1 0 (r6.map str).length,I (az (x4.1+1))] 260 ?_
  refine dQ ?_
  exact rg [0,3,5] [261,180,3] (ih _ _ h hr hn :)
 ·refine aq 1 ?_
  exact rg [0] [85,2] (hn _ (ai h) :) (hk:=hK)
theorem UT (cm:((List aa)×Condition)→Option (List aa))(l_4:List aa)(c_5:Condition)(r:(List aa))(h:su cm l_4 c_5=some r):bo (JM cm) Tryz.f136 [true,false] 1 (vD (l_4,c_5)) (vE r):=by
 show Run _ _ (Rx cm (l_4,c_5) r) [.code Ry] _
 refine rI 28 [(0,.hs 1 0 [] 1 0 (l_4.map str).length),(1,ah c_5)] [(1,some ⟨0,1,l_4.map str⟩)] 2 ?_
 unfold su at h
 refine ck 12 [3,8] [] [2] [] [.hp 2 0 [] 4 0 0,B (c_5.Op==2)] [some ⟨0,4,[ah c_5]⟩] 82 (by kernel_rfl) ?_
 refine sq h ?_ ?_<;>intro h
 ·refine cq 5 [9,11] [.hs 1 0 [] 1 0 (l_4.map str).length,str c_5.Name] 130 ?_
  obtain⟨r3,hr3,h⟩:=bS h
  refine oq 146 (.hs 130 0 [] 1 0 (r3.map str).length) rfl (ce rfl rfl (cS rfl rfl rfl (uL (qU rfl (lP (path:=[]) rfl rfl bc rfl)) (bA (bV rfl) dB)) (JN hr3) (.inr rfl) (tX rfl rfl rfl mD eb) rfl rfl rfl)) ?_
  refine cq 2 [4] [.hs 130 0 [] 1 0 (r3.map str).length] 162 ?_
  obtain rfl:=sI h
  exact ca rfl ⟨_,fin (vs:=[.hs 130 0 [] 1 0 (r3.map str).length]) rfl (fq (eR rfl (cQ rfl rfl)) eA) rfl (uw rfl (pH rfl) (eS fy)),um ft⟩
 ·refine aq 1 ?_
  refine cq 6 [5] [I (0)] 98 ?_
  obtain⟨y7,hy7,hy71,hy72⟩:=bJ h
  refine cj rfl ?_
  refine rg [0,3,5] [99,1,2] (LZ cm l_4 c_5 rfl (0,l_4) _ hy7 (fun r' e st hq=>by rw[hy71 r' e] at hq;exact hq) fun u7 hu=>?_)
  replace h:=hy72 u7 hu
  refine cq 5 [4] [.hs 2 0 [] 1 0 (u7.map str).length] 35 ?_
  obtain rfl:=sI h
  exact ca rfl ⟨_,fin (vs:=[.hs 2 0 [] 1 0 (u7.map str).length]) rfl (fq (eR rfl (cQ rfl rfl)) eA) rfl (uw rfl (pH rfl) (eS fy)),um ft⟩
theorem Rz {G:bR}:bQ G 136 AD:=iG fun cm g_Ffdq=>gT 2 1 (aJ G9 (aJ g_Ffdq bq)) bX Tryz.func136 (fun a r h=>UT cm a.1 a.2 r h)
def Ef:Contract→List V:=oA aO
def Eg (r:(List aa)):V×List V:=(.usl 1 (r.map str),[])
noncomputable def tK :=aZ [false] Ef Eg fun x=>nT x
theorem RM {c_1:Contract}{r}(h:nT c_1=some r):tK.F (Ef c_1)=some (Eg r):=aH (aI bb) h
noncomputable def RO :=aF Tryz.f93
noncomputable def JU :=bW [(137,tH),(136,AD)]
def RN (x:Contract)(r:(List aa)):St→Prop:=QF JU Tryz.f93 [false] (Ef x) (Eg r)
theorem L6 (c_1:Contract):cX JU 0 (RN c_1) (cL (cL (cR (cL (cR (cR RO)))))) 0 (mw c_1) (fun u=>(sT 29 [(3,.hs 1 0 [] 1 0 (u.map str).length)] [⟨0,1,u.map str⟩] 2)) fun x2=>(sT 29 [(1,.hp 1 0 [] 2 0 0),(3,.hs 2 0 [] 1 0 (x2.2.map str).length),(4,I x2.1)] [⟨0,2,[ac c_1]⟩,⟨0,1,x2.2.map str⟩] 3):=eI (ye c_1) fun {Q K} hK self ih x2 y h hr hn=>by
 unfold kB at h
 refine cq 6 [6,8] [I x2.1,.isl false (c_1.Clauses.map aj)] 51 ?_
 refine oq 67 (I (len c_1.Clauses)) rfl (br rfl rfl rfl (bC rfl)) ?_
 refine cq 2 [10] [B (decide (x2.1<(len c_1.Clauses)))] 83 ?_
 refine sq h ?_ ?_<;>intro h
 ·refine aq 1 ?_
  refine aq 2 ?_
  refine eB [0,0,2,0,14,30,62,127,0,256,0,1792,3840,7936,16383,32767] rfl (by decide +kernel) ?_
  refine dk 1 [13] [.hs 2 0 [] 1 0 (x2.2.map str).length] ?_
  refine dq [1] [] (.hp 1 0 [] 2 0 1) rfl (al rfl rfl rfl) ?_
  refine dq [1] [] (.isl false (c_1.Clauses.map aj)) rfl (aY rfl rfl) ?_
  refine dk 1 [16] [I x2.1] ?_
  obtain⟨e3,he3,h⟩:=bS h
  refine dq [] [] (.iptr (ao e3) 0) rfl (au rfl rfl rfl (aV rfl rfl rfl rfl he3)) ?_
  refine dq [] [] (.iptr (ao e3) 3) rfl (al rfl rfl rfl) ?_
  refine dq [] [] (str e3.Action) rfl (aY rfl rfl) ?_
  obtain⟨r4,hr4,h⟩:=bS h
  refine dq [2] [2] (.hs 195 0 [] 1 0 (r4.map str).length) rfl (ce rfl rfl (cS rfl rfl rfl (uL (qU rfl (lP (path:=[]) rfl rfl bc rfl)) (bA (bV rfl) dB)) (JN hr4) (.inr rfl) (tX rfl rfl rfl mD eb) rfl rfl rfl)) ?_ (dE rfl rfl rfl rfl (uL (qU rfl (lP (path:=[]) rfl rfl bc rfl)) (bA (bV rfl) dB)) (JN hr4) (.inr rfl) rfl)
  refine dq [1] [] (.hp 1 0 [] 2 0 1) rfl (al rfl rfl rfl) ?_
  refine dq [1] [] (.isl false (c_1.Clauses.map aj)) rfl (aY rfl rfl) ?_
  refine dk 1 [23] [I x2.1] ?_
  obtain⟨e5,he5,h⟩:=bS h
  refine dq [] [] (.iptr (ao e5) 0) rfl (au rfl rfl rfl (aV rfl rfl rfl rfl he5)) ?_
  refine dq [] [] (.iptr (ao e5) 6) rfl (al rfl rfl rfl) ?_
  refine dq [] [] (ah e5.When) rfl (aY rfl rfl) ?_
  obtain⟨r6,hr6,h⟩:=bS h
  refine dq [195] [195] (.hs 307 0 [] 1 0 (r6.map str).length) rfl (ce rfl rfl (cS rfl rfl rfl (uL (qU rfl (lP (path:=[]) rfl rfl bc rfl)) (bA (bV rfl) dB)) (Rv hr6) (.inr rfl) (tX rfl rfl rfl mD eb) rfl rfl rfl)) ?_ (dE rfl rfl rfl rfl (uL (qU rfl (lP (path:=[]) rfl rfl bc rfl)) (bA (bV rfl) dB)) (Rv hr6) (.inr rfl) rfl)
  refine dk 1 [3] [.hs 307 0 [] 1 0 (r6.map str).length] ?_
  refine de 339 rfl rfl ?_
  refine cq 6 [4] [I (az (x2.1+1))] 387 ?_
  refine dQ ?_
  exact rf [1,3,4] [1,307] (ih _ _ h hr hn :)
 ·refine aq 1 ?_
  exact rf [3] [2] (hn _ (ai h) :) (hk:=hK)
theorem U2 (c_1:Contract)(r:(List aa))(h:nT c_1=some r):bo JU Tryz.f93 [false] 0 (Ef c_1) (Eg r):=by
 show Run _ _ (RN c_1 r) [.code RO] _
 refine rI 29 [(0,ac c_1)] [] 1 ?_
 unfold nT at h
 refine ck 7 [1] [] [1] [] [.hp 1 0 [] 2 0 0] [some ⟨0,2,[ac c_1]⟩] 33 (by kernel_rfl) ?_
 refine oq 49 (.hs 33 0 [] 1 0 0) rfl (fx rfl (ow (f:=I) (xs:=[]) (z:=str ([])) (es:=[]) (ws:=[]) rfl rfl rfl (by decide) rfl (eq rfl) rfl)) ?_
 refine cq 8 [3,4] [.hs 33 0 [] 1 0 0,I (0)] 81 ?_
 obtain⟨y7,hy7,hy71,hy72⟩:=bJ h
 refine cj rfl ?_
 refine rf [1,3,4] [1,33] (L6 c_1 rfl (0,[]) _ hy7 (fun r' e st hq=>by rw[hy71 r' e] at hq;exact hq) fun u7 hu=>?_)
 replace h:=hy72 u7 hu
 refine cq 5 [2] [.hs 1 0 [] 1 0 (u7.map str).length] 34 ?_
 obtain rfl:=sI h
 exact ca rfl ⟨_,fin (vs:=[.hs 1 0 [] 1 0 (u7.map str).length]) rfl (fq (eR rfl (cQ rfl rfl)) eA) rfl (eS fy),ft⟩
theorem Hb {G:bR}:bQ G 93 tK:=gT 1 0 (aJ G9 (aJ Rz bq)) bX Tryz.func93 (fun a r h=>U2 a r h)
def Eb:Contract→List V:=oA aO
def Ec (r:Bool):V×List V:=(B r,[])
noncomputable def AL :=aZ [false] Eb Ec fun x=>AK x
theorem aar {c_1:Contract}{r}(h:AK c_1=some r):AL.F (Eb c_1)=some (Ec r):=aH (aI bb) h
noncomputable def Ed :=aF Tryz.f43
noncomputable abbrev wU :=cL (cL (cR (cL (cR (cR Ed)))))
noncomputable def vO :=bW [(89,eZ),(91,tJ),(92,AH),(93,tK),(90,AM)]
def sE (x:Contract)(r:Bool):St→Prop:=QF vO Tryz.f43 [false] (Eb x) (Ec r)
theorem L5 (c_1:Contract):cX vO 0 (sE c_1) wU 0 (la c_1) (fun u=>(sT 41 [(1,.hp 1 0 [] 2 0 0)] [⟨0,2,[ac c_1]⟩] 2)) fun x4=>(sT 41 [(1,.hp 1 0 [] 2 0 0),(3,I x4)] [⟨0,2,[ac c_1]⟩] 2):=eI (yd c_1) fun {Q K} hK self ih x4 y h hr hn=>by
 unfold kA at h
 refine cq 6 [14,16] [I x4,.isl false (c_1.Clauses.map aj)] 50 ?_
 refine oq 66 (I (len c_1.Clauses)) rfl (br rfl rfl rfl (bC rfl)) ?_
 refine cq 2 [18] [B (decide (x4<(len c_1.Clauses)))] 82 ?_
 refine sq h ?_ ?_<;>intro h
 ·refine aq 1 ?_
  refine aq 3 ?_
  refine eB [0,0,2,0,14,30,62,127,0,511,1023,2047,2047,8191,16383,32767] rfl (by decide +kernel) ?_
  refine dq [1] [] (ac c_1) rfl (aY rfl rfl) ?_
  refine dq [1] [] (.hp 1 0 [] 2 0 1) rfl (al rfl rfl rfl) ?_
  refine dq [1] [] (.isl false (c_1.Clauses.map aj)) rfl (aY rfl rfl) ?_
  refine dk 1 [24] [I x4] ?_
  obtain⟨e5,he5,h⟩:=bS h
  refine dq [] [] (.iptr (ao e5) 0) rfl (au rfl rfl rfl (aV rfl rfl rfl rfl he5)) ?_
  refine dq [] [] (.iptr (ao e5) 0) rfl (al rfl rfl rfl) ?_
  refine dq [] [] (str e5.Id) rfl (aY rfl rfl) ?_
  obtain⟨r6,hr6,h⟩:=bS h
  refine dq [] [] (I r6) rfl (cP (JT hr6)) ?_ (dE rfl rfl rfl rfl (bA (bV rfl) (bA (bV rfl) dB)) (JT hr6) (.inr rfl) rfl)
  refine dk 3 [31,30,29] [B (r6 != x4),B (r6 != x4),I x4] ?_
  obtain⟨y7,hy7,hy71,hy72⟩:=bL h
  have j7:∀u7,y7=.inr u7→Run vO 0 Q (.code (cR (cL (cL (cR wU))))::.blk 1::.code (cR (cR wU))::.lp wU::.blk 0::K) (sT 41 [(1,.hp 1 0 [] 2 0 0),(3,I x4),(36,B u7)] [⟨0,2,[ac c_1]⟩] 2):=by
   intro u7 hu
   replace h:=hy72 u7 hu
   refine sq h ?_ ?_<;>intro h
   ·refine cq 4 [2] [B false] 18 ?_
    exact ca rfl (hr _ (ai h) _ (qp [B false]))
   ·refine aq 1 ?_
    refine cq 6 [3] [I (az (x4+1))] 50 ?_
    refine dQ ?_
    exact rf [1,3] [1] (ih _ _ h hr hn :)
  have r7:∀r',y7=.inl r'→∀st,sE c_1 r' st→Q st:=fun r' e st hq=>hr r' (hy71 r' e) st hq
  replace h:=hy7
  refine sp 31 h rfl ?_ ?_<;>intro h
  ·refine dk 5 [36,35,34,33,32] [B true,.und,.und,.und,.und] ?_
   refine de 338 rfl rfl ?_
   exact rf [1,3,36] [1] (j7 _ (ai h) :)
  ·refine dy [1] [] (ac c_1) rfl (aY rfl rfl) ?_
   refine dk 1 [33] [I x4] ?_
   obtain⟨r8,hr8,h⟩:=bS h
   refine dy [] [] (B r8) rfl (cP (RE hr8)) ?_ (dE rfl rfl rfl rfl (bA (bV rfl) (bA (bV rfl) dB)) (RE hr8) (.inr rfl) rfl)
   refine dk 2 [36,35] [B (!r8),B (!r8)] ?_
   refine de 338 rfl rfl ?_
   exact rf [1,3,36] [1] (j7 _ (ai h) :)
 ·refine aq 1 ?_
  exact rf [1] [1] (hn _ (ai h) :) (hk:=hK)
theorem U1 (c_1:Contract)(r:Bool)(h:AK c_1=some r):bo vO Tryz.f43 [false] 0 (Eb c_1) (Ec r):=by
 show Run _ _ (sE c_1 r) [.code Ed] _
 refine rI 41 [(0,ac c_1)] [] 1 ?_
 unfold AK at h
 refine ck 10 [1,5] [] [1] [] [.hp 1 0 [] 2 0 0,.isl false (c_1.Clauses.map aj)] [some ⟨0,2,[ac c_1]⟩] 65 (by kernel_rfl) ?_
 refine oq 81 (I (len c_1.Clauses)) rfl (br rfl rfl rfl (bC rfl)) ?_
 obtain⟨r2,hr2,h⟩:=bS h
 refine oq 97 (B r2) rfl (cP (dZ hr2)) ?_
 refine cq 2 [9] [B (!r2)] 129 ?_
 obtain⟨y3,hy3,hy31,hy32⟩:=bJ h
 have j3:∀u3,y3=.inr u3→Run vO 0 (sE c_1 r) (.code (cR (cL (cR Ed)))::.code (cR (cR Ed))::[]) (sT 41 [(1,.hp 1 0 [] 2 0 0),(13,B u3)] [⟨0,2,[ac c_1]⟩] 2):=by
  intro u3 hu
  replace h:=hy32 u3 hu
  refine sq h ?_ ?_<;>intro h
  ·refine cq 4 [2] [B false] 18 ?_
   obtain rfl:=sI h
   exact rP [B false]
  ·refine aq 1 ?_
   refine cq 6 [3] [I (0)] 18 ?_
   obtain⟨y9,hy9,hy91,hy92⟩:=bJ h
   refine cj rfl ?_
   refine rf [1,3] [1] (L5 c_1 rfl 0 _ hy9 (fun r' e st hq=>by rw[hy91 r' e] at hq;exact hq) fun u9 hu=>?_)
   replace h:=hy92 u9 hu
   refine cq 3 [37] [ac c_1] 18 ?_
   obtain⟨r10,hr10,h⟩:=bS h
   refine oq 34 (.hs 18 0 [] 1 0 (r10.map str).length) rfl (cP (RM hr10)) ?_
   refine oq 50 (I (len r10)) rfl (br rfl rfl rfl (xg (f:=str) (xs:=r10) rfl rfl)) ?_
   refine cq 3 [2] [B (decide ((len r10)≤16))] 82 ?_
   obtain rfl:=sI h
   exact rP [B (decide ((len r10)≤16))]
 have r3:∀r',y3=.inl r'→∀st,sE c_1 r' st→(sE c_1 r) st:=fun r' e st hq=>by rw[hy31 r' e] at hq;exact hq
 replace h:=hy3
 refine sp 9 h rfl ?_ ?_<;>intro h
 ·refine cq 5 [13] [B true] 193 ?_
  exact rf [1,13] [1] (j3 _ (ai h) :)
 ·refine cq 1 [10] [ac c_1] 145 ?_
  obtain⟨r11,hr11,h⟩:=bS h
  refine oy 161 (B r11) rfl (cP (aas hr11)) ?_
  refine cq 3 [13] [B (!r11)] 193 ?_
  exact rf [1,13] [1] (j3 _ (ai h) :)
theorem RL {G:bR}:bQ G 43 AL:=gT 1 0 (aJ fH (aJ Ha (aJ RF (aJ Hb (aJ RP bq))))) bX Tryz.func43 (fun a r h=>U1 a r h)
def DH:(List aa)→List V:=oA (fa str)
def DJ (r:Bool):V×List V:=(B r,[])
noncomputable def Au :=aZ [false] DH DJ fun x=>Ar x
theorem aak {ar:List aa}{r}(h:Ar ar=some r):Au.F (DH ar)=some (DJ r):=aH (aI (bv ba)) h
noncomputable def Rj :=aF Tryz.f122
noncomputable abbrev jS :=cL (cL (cR (cL (cR Rj))))
noncomputable def sk :=bW [(80,lT)]
def DI (x:(List aa))(r:Bool):St→Prop:=QF sk Tryz.f122 [false] (DH x) (DJ r)
theorem LV (ar:List aa):cX sk 0 (DI ar) jS 0 (il ar) (fun u=>(sT 39 [(0,.isl false (ar.map str))] [] 1)) fun x2=>(sT 39 [(0,.isl false (ar.map str)),(3,I x2)] [] 1):=eI (xS ar) fun {Q K} hK self ih x2 y h hr hn=>by
 unfold jj at h
 refine cq 5 [4,5] [I x2,.isl false (ar.map str)] 33 ?_
 refine oq 49 (I (len ar)) rfl (br rfl rfl rfl (bC rfl)) ?_
 refine cq 2 [8] [B (decide (x2<(len ar)))] 81 ?_
 obtain⟨u3,hu3,h⟩:=lJ h
 have j3:Run sk 0 Q (.code (cR (cL jS))::.code (cR jS)::.lp jS::.blk 0::K) (sT 39 [(0,.isl false (ar.map str)),(3,I x2),(11,B u3)] [] 1):=by
  refine sq h ?_ ?_<;>intro h
  ·refine aq 1 ?_
   refine aq 3 ?_
   refine eB [0,0,3,7,15,31,63,127,255,511,1023,1023,3071,8191,16383,1023,1023,99327,230399,524287,1048575,2097151] rfl (by decide +kernel) ?_
   refine dk 2 [15,14] [I x2,.isl false (ar.map str)] ?_
   obtain⟨e4,he4,h⟩:=bS h
   refine dq [] [] (.iptr (str e4) 0) rfl (au rfl rfl rfl (aV rfl rfl rfl rfl he4)) ?_
   refine dq [] [] (str e4) rfl (aY rfl rfl) ?_
   obtain⟨r5,hr5,h⟩:=bS h
   refine dq [] [] (B r5) rfl (cP (oM hr5)) ?_ (dE rfl rfl rfl rfl (bA (bV rfl) dB) (oM hr5) (.inr rfl) rfl)
   refine dk 2 [20,19] [B (!r5),B (!r5)] ?_
   obtain⟨y6,hy6,hy61,hy62⟩:=bL h
   have j6:∀u6,y6=.inr u6→Run sk 0 Q (.code (cR (cL (cL (cR jS))))::.blk 1::.code (cR (cR jS))::.lp jS::.blk 0::K) (sT 39 [(0,.isl false (ar.map str)),(3,I x2),(35,B u6)] [] 1):=by
    intro u6 hu
    replace h:=hy62 u6 hu
    refine sq h ?_ ?_<;>intro h
    ·refine cq 4 [2] [B false] 17 ?_
     exact ca rfl (hr _ (ai h) _ (qp [B false]))
    ·refine aq 1 ?_
     refine cq 6 [3] [I (az (x2+1))] 49 ?_
     refine dQ ?_
     exact rf [0,3] [] (ih _ _ h hr hn :)
   have r6:∀r',y6=.inl r'→∀st,DI ar r' st→Q st:=fun r' e st hq=>hr r' (hy61 r' e) st hq
   replace h:=hy6
   refine sp 20 h rfl ?_ ?_<;>intro h
   ·refine dk 15 [35,34,33,32,31,30,29,28,27,26,25,24,23,22,21] [B true,.und,.und,.und,.und,.und,.und,.und,.und,.und,.und,.und,.und,.und,.und] ?_
    refine de 353 rfl rfl ?_
    exact rf [0,3,35] [] (j6 _ (ai h) :)
   ·refine dk 3 [23,22,21] [B (decide (x2>0)),B (decide (x2>0)),I x2] ?_
    obtain⟨y7,hy7,hy71,hy72⟩:=bL h
    have j7:∀u7,y7=.inr u7→Run sk 0 Q (.code (cR (cL (cL (cR jS))))::.blk 1::.code (cR (cR jS))::.lp jS::.blk 0::K) (sT 39 [(0,.isl false (ar.map str)),(3,I x2),(35,B u7)] [] 1):=by
     intro u7 hu
     replace h:=hy72 u7 hu
     exact rf [0,3,35] [] (j6 _ (ai h) :)
    have r7:∀r',y7=.inl r'→∀st,DI ar r' st→Q st:=fun r' e st hq=>r6 r' (hy71 r' e) st hq
    replace h:=hy7
    refine sp 23 h rfl ?_ ?_<;>intro h
    ·refine dk 3 [26,25,24] [I (az (x2 - 1)),I x2,.isl false (ar.map str)] ?_
     obtain⟨e8,he8,h⟩:=bS h
     refine dy [] [] (.iptr (str e8) 0) rfl (au rfl rfl rfl (aV rfl rfl rfl rfl he8)) ?_
     refine dy [] [] (str e8) rfl (aY rfl rfl) ?_
     refine dk 2 [30,29] [I x2,.isl false (ar.map str)] ?_
     obtain⟨e9,he9,h⟩:=bS h
     refine dy [] [] (.iptr (str e9) 0) rfl (au rfl rfl rfl (aV rfl rfl rfl rfl he9)) ?_
     refine dy [] [] (str e9) rfl (aY rfl rfl) ?_
     refine dk 3 [35,34,33] [B (!(Op.bytesLess e8 e9)),B (!(Op.bytesLess e8 e9)),B (!(Op.bytesLess e8 e9))] ?_
     refine de 353 rfl rfl ?_
     exact rf [0,3,35] [] (j7 _ (ai h) :)
    ·refine dk 12 [35,34,33,32,31,30,29,28,27,26,25,24] [B false,B false,.und,.und,.und,.und,.und,.und,.und,.und,.und,.und] ?_
     refine de 353 rfl rfl ?_
     exact rf [0,3,35] [] (j7 _ (ai h) :)
  ·refine aq 1 ?_
   exact rf [0] [] (hn _ (ai h) :) (hk:=hK)
 replace h:=hu3
 clear hu3
 refine sp 8 h rfl ?_ ?_<;>intro h
 ·refine cq 4 [11] [B (decide (x2≤16))] 129 ?_
  subst h
  exact rf [0,3,11] [] (j3 :)
 ·refine cq 4 [11] [B false] 129 ?_
  subst h
  exact rf [0,3,11] [] (j3 :)
theorem UI (ar:List aa)(r:Bool)(h:Ar ar=some r):bo sk Tryz.f122 [false] 0 (DH ar) (DJ r):=by
 show Run _ _ (DI ar r) [.code Rj] _
 refine rI 39 [(0,.isl false (ar.map str))] [] 1 ?_
 unfold Ar at h
 refine cq 10 [3] [I (0)] 33 ?_
 obtain⟨y10,hy10,hy101,hy102⟩:=bJ h
 refine cj rfl ?_
 refine rf [0,3] [] (LV ar rfl 0 _ hy10 (fun r' e st hq=>by rw[hy101 r' e] at hq;exact hq) fun u10 hu=>?_)
 replace h:=hy102 u10 hu
 refine cq 3 [36] [.isl false (ar.map str)] 17 ?_
 refine oq 33 (I (len ar)) rfl (br rfl rfl rfl (bC rfl)) ?_
 refine cq 3 [2] [B (decide ((len ar)≤16))] 65 ?_
 obtain rfl:=sI h
 exact rP [B (decide ((len ar)≤16))]
theorem Rk {G:bR}:bQ G 122 Au:=gT 1 0 (aJ oP bq) bX Tryz.func122 (fun a r h=>UI a r h)
def D7:(Contract×Int)→List V:=cA aO (oA I)
def D8 (r:Bool):V×List V:=(B r,[])
noncomputable def AJ :=aZ [false,false] D7 D8 fun x=>AI x.1 x.2
theorem aaq {c_1:Contract}{i_2:Int}{r}(h:AI c_1 i_2=some r):AJ.F (D7 (c_1,i_2))=some (D8 r):=aH (aK bb (aI bz)) h
noncomputable def RH :=aF Tryz.f156
noncomputable def JR :=bW []
def RG (x:Contract×Int)(r:Bool):St→Prop:=QF JR Tryz.f156 [false,false] (D7 x) (D8 r)
theorem L3 (c_1:Contract)(i_2:Int):cX JR 0 (RG (c_1,i_2)) (cL (cL (cR (cL (cR RH))))) 0 (sC c_1 i_2) (fun u=>(sT 26 [] [] 1)) fun x3=>(sT 26 [(1,I i_2),(2,.hp 1 0 [] 2 0 0),(5,I x3)] [⟨0,2,[ac c_1]⟩] 2):=eI (xZ c_1 i_2) fun {Q K} hK self ih x3 y h hr hn=>by
 unfold mt at h
 refine cq 6 [6,8] [I x3,.isl false (c_1.Clauses.map aj)] 50 ?_
 refine oq 66 (I (len c_1.Clauses)) rfl (br rfl rfl rfl (bC rfl)) ?_
 refine cq 2 [10] [B (decide (x3<(len c_1.Clauses)))] 82 ?_
 refine sq h ?_ ?_<;>intro h
 ·refine aq 1 ?_
  refine aq 3 ?_
  refine eB [0,1,0,7,15,31,0,64,0,448,960,1984,4095] rfl (by decide +kernel) ?_
  refine dq [1] [] (.hp 1 0 [] 2 0 1) rfl (al rfl rfl rfl) ?_
  refine dq [1] [] (.isl false (c_1.Clauses.map aj)) rfl (aY rfl rfl) ?_
  refine dk 1 [15] [I x3] ?_
  obtain⟨e4,he4,h⟩:=bS h
  refine dq [] [] (.iptr (ao e4) 0) rfl (au rfl rfl rfl (aV rfl rfl rfl rfl he4)) ?_
  refine dq [] [] (.iptr (ao e4) 11) rfl (al rfl rfl rfl) ?_
  refine dq [] [] (str e4.Repair) rfl (aY rfl rfl) ?_
  refine dq [1] [] (.hp 1 0 [] 2 0 1) rfl (al rfl rfl rfl) ?_
  refine dq [1] [] (.isl false (c_1.Clauses.map aj)) rfl (aY rfl rfl) ?_
  refine dk 1 [21] [I i_2] ?_
  obtain⟨e5,he5,h⟩:=bS h
  refine dq [] [] (.iptr (ao e5) 0) rfl (au rfl rfl rfl (aV rfl rfl rfl rfl he5)) ?_
  refine dq [] [] (.iptr (ao e5) 0) rfl (al rfl rfl rfl) ?_
  refine dq [] [] (str e5.Id) rfl (aY rfl rfl) ?_
  refine dk 1 [25] [B (e4.Repair==e5.Id)] ?_
  refine de 290 rfl rfl ?_
  refine sq h ?_ ?_<;>intro h
  ·refine cq 4 [4] [B true] 306 ?_
   exact ca rfl (hr _ (ai h) _ (qp [B true]))
  ·refine aq 1 ?_
   refine cq 6 [5] [I (az (x3+1))] 338 ?_
   refine dQ ?_
   exact rf [1,2,5] [1] (ih _ _ h hr hn :)
 ·refine aq 1 ?_
  exact rf [] [] (hn _ (ai h) :) (hk:=hK)
theorem UZ (c_1:Contract)(i_2:Int)(r:Bool)(h:AI c_1 i_2=some r):bo JR Tryz.f156 [false,false] 0 (D7 (c_1,i_2)) (D8 r):=by
 show Run _ _ (RG (c_1,i_2) r) [.code RH] _
 refine rI 26 [(0,ac c_1),(1,I i_2)] [] 1 ?_
 unfold AI at h
 refine ck 11 [2,5] [] [1] [] [.hp 1 0 [] 2 0 0,I (0)] [some ⟨0,2,[ac c_1]⟩] 49 (by kernel_rfl) ?_
 obtain⟨y6,hy6,hy61,hy62⟩:=bJ h
 refine cj rfl ?_
 refine rf [1,2,5] [1] (L3 c_1 i_2 rfl 0 _ hy6 (fun r' e st hq=>by rw[hy61 r' e] at hq;exact hq) fun u6 hu=>?_)
 replace h:=hy62 u6 hu
 refine cq 4 [4] [B false] 17 ?_
 obtain rfl:=sI h
 exact rP [B false]
theorem RI {G:bR}:bQ G 156 AJ:=gT 2 0 bq bX Tryz.func156 (fun a r h=>UZ a.1 a.2 r h)
def Ep:(State×Int)→List V:=cA b9 (oA I)
def Er (r:Int):V×List V:=(I r,[])
noncomputable def AQ :=aZ [false,false] Ep Er fun x=>AP x.1 x.2
theorem aau {s_1:State}{i_2:Int}{r}(h:AP s_1 i_2=some r):AQ.F (Ep (s_1,i_2))=some (Er r):=aH (aK cZ (aI bz)) h
noncomputable def RS :=aF Tryz.f157
noncomputable abbrev Gi :=cL (cL (cR (cL (cR (cR RS)))))
noncomputable def Eq :=bW []
def RR (x:State×Int)(r:Int):St→Prop:=QF Eq Tryz.f157 [false,false] (Ep x) (Er r)
theorem L8 (s_1:State)(i_2:Int):cX Eq 0 (RR (s_1,i_2)) Gi 0 (lb s_1 i_2) (fun u=>(sT 25 [(5,I u)] [] 1)) fun x3=>(sT 25 [(1,I i_2),(2,.hp 1 0 [] 5 0 0),(5,I x3.1),(6,I x3.2)] [⟨0,5,[ak s_1]⟩] 2):=eI (yg s_1 i_2) fun {Q K} hK self ih x3 y h hr hn=>by
 unfold kD at h
 refine cq 6 [7,9] [I x3.2,.isl false (s_1.Duties.map ae)] 50 ?_
 refine oq 66 (I (len s_1.Duties)) rfl (br rfl rfl rfl (bC rfl)) ?_
 refine cq 2 [11] [B (decide (x3.2<(len s_1.Duties)))] 82 ?_
 refine sq h ?_ ?_<;>intro h
 ·refine aq 1 ?_
  refine cq 7 [15,16] [.isl false (s_1.Duties.map ae),I x3.2] 130 ?_
  obtain⟨e4,he4,h⟩:=bS h
  refine oq 146 (.iptr (ae e4) 0) rfl (au rfl rfl rfl (aV rfl rfl rfl rfl he4)) ?_
  refine cq 5 [21] [B (e4.Clause==i_2)] 210 ?_
  obtain⟨u5,hu5,h⟩:=lJ h
  have j5:Run Eq 0 Q (.blk 1::.code (cR (cR Gi))::.lp Gi::.blk 0::K) (sT 25 [(1,I i_2),(2,.hp 1 0 [] 5 0 0),(5,I u5),(6,I x3.2)] [⟨0,5,[ak s_1]⟩] 2):=by
   refine cq 6 [6] [I (az (x3.2+1))] 50 ?_
   refine dQ ?_
   exact rf [1,2,5,6] [1] (ih _ _ h hr hn :)
  replace h:=hu5
  clear hu5
  refine yH h rfl rfl ?_ ?_<;>intro h
  ·refine cq 5 [5] [I (az (x3.1+1))] 258 ?_
   subst h
   exact rf [1,2,5,6] [1] (j5 :)
  ·refine aq 1 ?_
   subst h
   exact rf [1,2,5,6] [1] (j5 :)
 ·refine aq 1 ?_
  exact rf [5] [] (hn _ (ai h) :) (hk:=hK)
theorem U6 (s_1:State)(i_2:Int)(r:Int)(h:AP s_1 i_2=some r):bo Eq Tryz.f157 [false,false] 0 (Ep (s_1,i_2)) (Er r):=by
 show Run _ _ (RR (s_1,i_2) r) [.code RS] _
 refine rI 25 [(0,ak s_1),(1,I i_2)] [] 1 ?_
 unfold AP at h
 refine ck 15 [2,5,6] [] [1] [] [.hp 1 0 [] 5 0 0,I (0),I (0)] [some ⟨0,5,[ak s_1]⟩] 65 (by kernel_rfl) ?_
 obtain⟨y6,hy6,hy61,hy62⟩:=bJ h
 refine cj rfl ?_
 refine rf [1,2,5,6] [1] (L8 s_1 i_2 rfl (0,0) _ hy6 (fun r' e st hq=>by rw[hy61 r' e] at hq;exact hq) fun u6 hu=>?_)
 replace h:=hy62 u6 hu
 refine cq 5 [4] [I u6] 33 ?_
 obtain rfl:=sI h
 exact rP [I u6]
theorem RT {G:bR}:bQ G 157 AQ:=gT 2 0 bq bX Tryz.func157 (fun a r h=>U6 a.1 a.2 r h)
def Et:(Contract×State×Int)→List V:=cA aO (cA b9 (oA I))
def Eu (r:Bool):V×List V:=(B r,[])
noncomputable def AU :=aZ [false,false,false] Et Eu fun x=>AR x.1 x.2.1 x.2.2
theorem aav {c_1:Contract}{s_2:State}{k_3:Int}{r}(h:AR c_1 s_2 k_3=some r):AU.F (Et (c_1,s_2,k_3))=some (Eu r):=aH (aK bb (aK cZ (aI bz))) h
noncomputable def JW :=aF Tryz.f124
noncomputable abbrev nU :=cR (cR (cR JW))
noncomputable abbrev sG :=cR (cL (cR (cR JW)))
noncomputable abbrev ec :=cR nU
noncomputable abbrev ee :=cR (cL nU)
noncomputable def dX :=bW [(89,eZ),(156,AJ),(157,AQ),(76,qd)]
def cO (x:Contract×State×Int)(r:Bool):St→Prop:=QF dX Tryz.f124 [false,false,false] (Et x) (Eu r)
theorem U7 (c_1:Contract)(s_2:State)(k_3:Int)(r:Bool)(h:AR c_1 s_2 k_3=some r):bo dX Tryz.f124 [false,false,false] 0 (Et (c_1,s_2,k_3)) (Eu r):=by
 show Run _ _ (cO (c_1,s_2,k_3) r) [.code JW] _
 refine rI 129 [(0,ac c_1),(1,ak s_2),(2,I k_3)] [] 1 ?_
 unfold AR at h
 refine ck 11 [3,4,9,10] [] [1,17] [] [.hp 1 0 [] 2 0 0,.hp 17 0 [] 5 0 0,.isl false (s_2.Duties.map ae),I k_3] [some ⟨0,2,[ac c_1]⟩,some ⟨0,5,[ak s_2]⟩] 97 (by kernel_rfl) ?_
 obtain⟨e4,he4,h⟩:=bS h
 refine oq 113 (.iptr (ae e4) 0) rfl (au rfl rfl rfl (aV rfl rfl rfl rfl he4)) ?_
 refine ck 6 [7] [] [129] [] [.hp 129 0 [] 4 0 0] [some ⟨0,4,[ae e4]⟩] 161 (by kernel_rfl) ?_
 refine eB [0,1,0,4,12,28,63,127,255,511,1023,511,2559,8191,16383,32767,65535,131071,262143,524287,1048575,524287,2621439,8388607,16777215,33554431,67108863,134217727,268435455,134217727,671088639,134217727,2281701375,134217727,8724152319,32346472447,66706210815,135425687551,274475253759,549755813887,1099511627775,2199023255551,4398046511103,8796093022207,17592186044415,35184372088831,70368744177663,140737488355327,281474976710655,562949953421311,1125899906842623,2251799813685247,4503599627370495] rfl (by decide +kernel) ?_
 refine dq [129] [] (.hp 129 0 [] 4 0 0) rfl (al rfl rfl rfl) ?_
 refine dq [129] [] (I e4.Clause) rfl (aY rfl rfl) ?_
 refine dq [1] [] (.hp 1 0 [] 2 0 1) rfl (al rfl rfl rfl) ?_
 refine dq [1] [] (.isl false (c_1.Clauses.map aj)) rfl (aY rfl rfl) ?_
 refine dq [] [] (I (len c_1.Clauses)) rfl (br rfl rfl rfl (bC rfl)) ?_
 refine dk 1 [18] [I (az ((len c_1.Clauses) - 1))] ?_
 obtain⟨r5,hr5,h⟩:=bS h
 refine dq [] [] (B r5) rfl (cP (dZ hr5)) ?_ (dE rfl rfl rfl rfl (bA (bV rfl) (bA (bV rfl) (bA (bV rfl) dB))) (dZ hr5) (.inr rfl) rfl)
 refine dk 2 [21,20] [B (!r5),B (!r5)] ?_
 obtain⟨y6,hy6,hy61,hy62⟩:=bJ h
 have j6:∀u6,y6=.inr u6→Run dX 0 (cO (c_1,s_2,k_3) r) (.code sG::.code nU::[]) (sT 129 [(2,I k_3),(3,.hp 1 0 [] 2 0 0),(4,.hp 2 0 [] 5 0 0),(7,.hp 3 0 [] 4 0 0),(65,B u6)] [⟨0,2,[ac c_1]⟩,⟨0,5,[ak s_2]⟩,⟨0,4,[ae e4]⟩] 4):=by
  intro u6 hu
  replace h:=hy62 u6 hu
  refine sq h ?_ ?_<;>intro h
  ·refine cq 4 [6] [B false] 20 ?_
   obtain rfl:=sI h
   exact rP [B false]
  ·refine aq 1 ?_
   refine aq 2 ?_
   refine eB [0,1,3,7,15,7,39,127,255,511,7,1031,4095,8191,16383,32767,65535,131071,262143,524287,1048575,524287,2621439,8388607,16777215,33554431,67108863,134217727,268435455,536870911,1073741823,2147483647,4294967295,8589934591,17179869183,34359738367,68719476735,34359738367,171798691839,549755813887,1099511627775,2199023255551,4398046511103,8796093022207,17592186044415,35184372088831,70368744177663,140737488355327,281474976710655,562949953421311,1125899906842623,2251799813685247] rfl (by decide +kernel) ?_
   refine dk 3 [68,67,66] [B (decide (k_3>0)),B (decide (k_3>0)),I k_3] ?_
   obtain⟨y7,hy7,hy71,hy72⟩:=bJ h
   have j7:∀u7,y7=.inr u7→Run dX 0 (cO (c_1,s_2,k_3) r) (.code ee::.code ec::[]) (sT 129 [(3,.hp 1 0 [] 2 0 0),(4,.hp 2 0 [] 5 0 0),(7,.hp 3 0 [] 4 0 0),(117,B u7)] [⟨0,2,[ac c_1]⟩,⟨0,5,[ak s_2]⟩,⟨0,4,[ae e4]⟩] 4):=by
    intro u7 hu
    replace h:=hy72 u7 hu
    refine sq h ?_ ?_<;>intro h
    ·refine cq 4 [6] [B false] 20 ?_
     obtain rfl:=sI h
     exact rP [B false]
    ·refine aq 1 ?_
     refine cq 5 [118,120] [ac c_1,I e4.Clause] 52 ?_
     obtain⟨r8,hr8,h⟩:=bS h
     refine oq 68 (B r8) rfl (cP (aaq hr8)) ?_
     refine cq 1 [122] [B r8] 84 ?_
     obtain⟨y9,hy9,hy91,hy92⟩:=bJ h
     have j9:∀u9,y9=.inr u9→Run dX 0 (cO (c_1,s_2,k_3) r) (.code (cR ec)::[]) (sT 129 [(6,B u9)] [] 1):=by
      intro u9 hu
      replace h:=hy92 u9 hu
      obtain rfl:=sI h
      exact rP [B u9]
     have r9:∀r',y9=.inl r'→∀st,cO (c_1,s_2,k_3) r' st→(cO (c_1,s_2,k_3) r) st:=fun r' e st hq=>by rw[hy91 r' e] at hq;exact hq
     replace h:=hy9
     refine sp 122 h rfl ?_ ?_<;>intro h
     ·refine cq 8 [6] [B true] 196 ?_
      exact rf [6] [] (j9 _ (ai h) :)
     ·refine cq 3 [123,125] [ak s_2,I e4.Clause] 132 ?_
      obtain⟨r10,hr10,h⟩:=bS h
      refine oy 148 (I r10) rfl (cP (aau hr10)) ?_
      refine cq 4 [6] [B (r10==1)] 196 ?_
      exact rf [6] [] (j9 _ (ai h) :)
   have r7:∀r',y7=.inl r'→∀st,cO (c_1,s_2,k_3) r' st→(cO (c_1,s_2,k_3) r) st:=fun r' e st hq=>by rw[hy71 r' e] at hq;exact hq
   replace h:=hy7
   refine sp 68 h rfl ?_ ?_<;>intro h
   ·refine dy [2] [] (.hp 2 0 [] 5 0 2) rfl (al rfl rfl rfl) ?_
    refine dy [2] [] (.isl false (s_2.Duties.map ae)) rfl (aY rfl rfl) ?_
    refine dk 2 [72,71] [I (az (k_3 - 1)),I k_3] ?_
    obtain⟨e11,he11,h⟩:=bS h
    refine dy [] [] (.iptr (ae e11) 0) rfl (au rfl rfl rfl (aV rfl rfl rfl rfl he11)) ?_
    refine dy [] [] (.iptr (ae e11) 1) rfl (al rfl rfl rfl) ?_
    refine dy [] [] (I e11.Since) rfl (aY rfl rfl) ?_
    refine dy [3] [] (.hp 3 0 [] 4 0 1) rfl (al rfl rfl rfl) ?_
    refine dy [3] [] (I e4.Since) rfl (aY rfl rfl) ?_
    refine dk 3 [80,79,78] [B (decide (e11.Since>e4.Since)),B (decide (e11.Since>e4.Since)),B (decide (e11.Since>e4.Since))] ?_
    obtain⟨u12,hu12,h⟩:=lJ h
    have j12:Run dX 0 (cO (c_1,s_2,k_3) r) (.code ee::.code ec::[]) (sT 129 [(3,.hp 1 0 [] 2 0 0),(4,.hp 2 0 [] 5 0 0),(7,.hp 3 0 [] 4 0 0),(117,B u12)] [⟨0,2,[ac c_1]⟩,⟨0,5,[ak s_2]⟩,⟨0,4,[ae e4]⟩] 4):=by
     exact rf [3,4,7,117] [1,2,3] (j7 _ (ai h) :)
    replace h:=hu12
    clear hu12
    refine sp 80 h rfl ?_ ?_<;>intro h
    ·refine dk 37 [117,116,115,114,113,112,111,110,109,108,107,106,105,104,103,102,101,100,99,98,97,96,95,94,93,92,91,90,89,88,87,86,85,84,83,82,81] [B true,.und,.und,.und,.und,.und,.und,.und,.und,B true,B true,.und,.und,.und,.und,.und,.und,.und,.und,.und,.und,B true,B true,.und,.und,.und,.und,.und,.und,.und,.und,.und,.und,.und,.und,.und,.und] ?_
     refine de 836 rfl rfl ?_
     subst h
     exact rf [3,4,7,117] [1,2,3] (j12 :)
    ·refine dy [3] [] (.hp 3 0 [] 4 0 3) rfl (al rfl rfl rfl) ?_
     refine dy [3] [] (I e4.Status) rfl (aY rfl rfl) ?_
     refine dk 2 [84,83] [B (e4.Status==1),B (e4.Status==1)] ?_
     obtain⟨u13,hu13,h⟩:=lJ h
     have j13:Run dX 0 (cO (c_1,s_2,k_3) r) (.code ee::.code ec::[]) (sT 129 [(3,.hp 1 0 [] 2 0 0),(4,.hp 2 0 [] 5 0 0),(7,.hp 3 0 [] 4 0 0),(117,B u13)] [⟨0,2,[ac c_1]⟩,⟨0,5,[ak s_2]⟩,⟨0,4,[ae e4]⟩] 4):=by
      subst h
      exact rf [3,4,7,117] [1,2,3] (j12 :)
     replace h:=hu13
     clear hu13
     refine sp 84 h rfl ?_ ?_<;>intro h
     ·refine dy [3] [] (.hp 3 0 [] 4 0 2) rfl (al rfl rfl rfl) ?_
      refine dy [3] [] (I e4.Due) rfl (aY rfl rfl) ?_
      refine dy [2] [] (.hp 2 0 [] 5 0 0) rfl (al rfl rfl rfl) ?_
      refine dy [2] [] (I s_2.Day) rfl (aY rfl rfl) ?_
      refine dk 2 [90,89] [B (decide (e4.Due<s_2.Day)),B (decide (e4.Due<s_2.Day))] ?_
      obtain⟨u14,hu14,h⟩:=lJ h
      have j14:Run dX 0 (cO (c_1,s_2,k_3) r) (.code ee::.code ec::[]) (sT 129 [(3,.hp 1 0 [] 2 0 0),(4,.hp 2 0 [] 5 0 0),(7,.hp 3 0 [] 4 0 0),(117,B u14)] [⟨0,2,[ac c_1]⟩,⟨0,5,[ak s_2]⟩,⟨0,4,[ae e4]⟩] 4):=by
       subst h
       exact rf [3,4,7,117] [1,2,3] (j13 :)
      replace h:=hu14
      clear hu14
      refine sp 90 h rfl ?_ ?_<;>intro h
      ·refine dk 27 [117,116,115,114,113,112,111,110,109,108,107,106,105,104,103,102,101,100,99,98,97,96,95,94,93,92,91] [B true,.und,.und,.und,.und,.und,.und,.und,.und,B true,B true,.und,.und,.und,.und,.und,.und,.und,.und,.und,.und,B true,B true,B true,B true,.und,.und] ?_
       refine de 836 rfl rfl ?_
       subst h
       exact rf [3,4,7,117] [1,2,3] (j14 :)
      ·refine dy [2] [] (.hp 2 0 [] 5 0 4) rfl (al rfl rfl rfl) ?_
       refine dy [2] [] (B s_2.Over) rfl (aY rfl rfl) ?_
       refine dk 4 [96,95,94,93] [B s_2.Over,B s_2.Over,B s_2.Over,B s_2.Over] ?_
       obtain⟨u15,hu15,h⟩:=lJ h
       have j15:Run dX 0 (cO (c_1,s_2,k_3) r) (.code ee::.code ec::[]) (sT 129 [(3,.hp 1 0 [] 2 0 0),(4,.hp 2 0 [] 5 0 0),(7,.hp 3 0 [] 4 0 0),(117,B u15)] [⟨0,2,[ac c_1]⟩,⟨0,5,[ak s_2]⟩,⟨0,4,[ae e4]⟩] 4):=by
        subst h
        exact rf [3,4,7,117] [1,2,3] (j14 :)
       replace h:=hu15
       clear hu15
       refine sp 96 h rfl ?_ ?_<;>intro h
       ·refine dk 21 [117,116,115,114,113,112,111,110,109,108,107,106,105,104,103,102,101,100,99,98,97] [B true,.und,.und,.und,.und,.und,.und,.und,.und,B true,B true,.und,.und,.und,.und,.und,.und,.und,.und,.und,.und] ?_
        refine de 836 rfl rfl ?_
        subst h
        exact rf [3,4,7,117] [1,2,3] (j15 :)
       ·refine dy [3] [] (.hp 3 0 [] 4 0 3) rfl (al rfl rfl rfl) ?_
        refine dy [3] [] (I e4.Status) rfl (aY rfl rfl) ?_
        refine dk 2 [100,99] [B (e4.Status==3),B (e4.Status==3)] ?_
        obtain⟨u16,hu16,h⟩:=lJ h
        have j16:Run dX 0 (cO (c_1,s_2,k_3) r) (.code ee::.code ec::[]) (sT 129 [(3,.hp 1 0 [] 2 0 0),(4,.hp 2 0 [] 5 0 0),(7,.hp 3 0 [] 4 0 0),(117,B u16)] [⟨0,2,[ac c_1]⟩,⟨0,5,[ak s_2]⟩,⟨0,4,[ae e4]⟩] 4):=by
         subst h
         exact rf [3,4,7,117] [1,2,3] (j15 :)
        replace h:=hu16
        clear hu16
        refine sp 100 h rfl ?_ ?_<;>intro h
        ·refine dy [3] [] (.hp 3 0 [] 4 0 2) rfl (al rfl rfl rfl) ?_
         refine dy [3] [] (I e4.Due) rfl (aY rfl rfl) ?_
         refine dy [2] [] (.hp 2 0 [] 5 0 0) rfl (al rfl rfl rfl) ?_
         refine dy [2] [] (I s_2.Day) rfl (aY rfl rfl) ?_
         refine dk 4 [108,107,106,105] [B (decide (e4.Due≥s_2.Day)),B (decide (e4.Due≥s_2.Day)),B (decide (e4.Due≥s_2.Day)),B (decide (e4.Due≥s_2.Day))] ?_
         obtain⟨u17,hu17,h⟩:=lJ h
         have j17:Run dX 0 (cO (c_1,s_2,k_3) r) (.code ee::.code ec::[]) (sT 129 [(3,.hp 1 0 [] 2 0 0),(4,.hp 2 0 [] 5 0 0),(7,.hp 3 0 [] 4 0 0),(117,B u17)] [⟨0,2,[ac c_1]⟩,⟨0,5,[ak s_2]⟩,⟨0,4,[ae e4]⟩] 4):=by
          subst h
          exact rf [3,4,7,117] [1,2,3] (j16 :)
         replace h:=hu17
         clear hu17
         refine sp 108 h rfl ?_ ?_<;>intro h
         ·refine dk 9 [117,116,115,114,113,112,111,110,109] [B true,.und,.und,.und,.und,.und,.und,.und,.und] ?_
          refine de 836 rfl rfl ?_
          subst h
          exact rf [3,4,7,117] [1,2,3] (j17 :)
         ·refine dy [3] [] (.hp 3 0 [] 4 0 3) rfl (al rfl rfl rfl) ?_
          refine dy [3] [] (I e4.Status) rfl (aY rfl rfl) ?_
          refine dk 2 [112,111] [B (e4.Status==4),B (e4.Status==4)] ?_
          obtain⟨u18,hu18,h⟩:=lJ h
          have j18:Run dX 0 (cO (c_1,s_2,k_3) r) (.code ee::.code ec::[]) (sT 129 [(3,.hp 1 0 [] 2 0 0),(4,.hp 2 0 [] 5 0 0),(7,.hp 3 0 [] 4 0 0),(117,B u18)] [⟨0,2,[ac c_1]⟩,⟨0,5,[ak s_2]⟩,⟨0,4,[ae e4]⟩] 4):=by
           subst h
           exact rf [3,4,7,117] [1,2,3] (j17 :)
          replace h:=hu18
          clear hu18
          refine sp 112 h rfl ?_ ?_<;>intro h
          ·refine dy [2] [] (.hp 2 0 [] 5 0 4) rfl (al rfl rfl rfl) ?_
           refine dy [2] [] (B s_2.Over) rfl (aY rfl rfl) ?_
           refine dk 3 [117,116,115] [B (!s_2.Over),B (!s_2.Over),B (!s_2.Over)] ?_
           refine de 836 rfl rfl ?_
           subst h
           exact rf [3,4,7,117] [1,2,3] (j18 :)
          ·refine dk 5 [117,116,115,114,113] [B false,B false,.und,.und,.und] ?_
           refine de 836 rfl rfl ?_
           subst h
           exact rf [3,4,7,117] [1,2,3] (j18 :)
        ·refine dk 8 [108,107,106,105,104,103,102,101] [B false,B false,B false,.und,.und,.und,.und,.und] ?_
         refine dy [3] [] (.hp 3 0 [] 4 0 3) rfl (al rfl rfl rfl) ?_
         refine dy [3] [] (I e4.Status) rfl (aY rfl rfl) ?_
         refine dk 2 [112,111] [B (e4.Status==4),B (e4.Status==4)] ?_
         obtain⟨u19,hu19,h⟩:=lJ h
         have j19:Run dX 0 (cO (c_1,s_2,k_3) r) (.code ee::.code ec::[]) (sT 129 [(3,.hp 1 0 [] 2 0 0),(4,.hp 2 0 [] 5 0 0),(7,.hp 3 0 [] 4 0 0),(117,B u19)] [⟨0,2,[ac c_1]⟩,⟨0,5,[ak s_2]⟩,⟨0,4,[ae e4]⟩] 4):=by
          subst h
          exact rf [3,4,7,117] [1,2,3] (j16 :)
         replace h:=hu19
         clear hu19
         refine sp 112 h rfl ?_ ?_<;>intro h
         ·refine dy [2] [] (.hp 2 0 [] 5 0 4) rfl (al rfl rfl rfl) ?_
          refine dy [2] [] (B s_2.Over) rfl (aY rfl rfl) ?_
          refine dk 3 [117,116,115] [B (!s_2.Over),B (!s_2.Over),B (!s_2.Over)] ?_
          refine de 836 rfl rfl ?_
          subst h
          exact rf [3,4,7,117] [1,2,3] (j19 :)
         ·refine dk 5 [117,116,115,114,113] [B false,B false,.und,.und,.und] ?_
          refine de 836 rfl rfl ?_
          subst h
          exact rf [3,4,7,117] [1,2,3] (j19 :)
     ·refine dk 12 [96,95,94,93,92,91,90,89,88,87,86,85] [B false,B false,B false,.und,.und,.und,.und,.und,.und,.und,.und,.und] ?_
      refine dy [3] [] (.hp 3 0 [] 4 0 3) rfl (al rfl rfl rfl) ?_
      refine dy [3] [] (I e4.Status) rfl (aY rfl rfl) ?_
      refine dk 2 [100,99] [B (e4.Status==3),B (e4.Status==3)] ?_
      obtain⟨u20,hu20,h⟩:=lJ h
      have j20:Run dX 0 (cO (c_1,s_2,k_3) r) (.code ee::.code ec::[]) (sT 129 [(3,.hp 1 0 [] 2 0 0),(4,.hp 2 0 [] 5 0 0),(7,.hp 3 0 [] 4 0 0),(117,B u20)] [⟨0,2,[ac c_1]⟩,⟨0,5,[ak s_2]⟩,⟨0,4,[ae e4]⟩] 4):=by
       subst h
       exact rf [3,4,7,117] [1,2,3] (j13 :)
      replace h:=hu20
      clear hu20
      refine sp 100 h rfl ?_ ?_<;>intro h
      ·refine dy [3] [] (.hp 3 0 [] 4 0 2) rfl (al rfl rfl rfl) ?_
       refine dy [3] [] (I e4.Due) rfl (aY rfl rfl) ?_
       refine dy [2] [] (.hp 2 0 [] 5 0 0) rfl (al rfl rfl rfl) ?_
       refine dy [2] [] (I s_2.Day) rfl (aY rfl rfl) ?_
       refine dk 4 [108,107,106,105] [B (decide (e4.Due≥s_2.Day)),B (decide (e4.Due≥s_2.Day)),B (decide (e4.Due≥s_2.Day)),B (decide (e4.Due≥s_2.Day))] ?_
       obtain⟨u21,hu21,h⟩:=lJ h
       have j21:Run dX 0 (cO (c_1,s_2,k_3) r) (.code ee::.code ec::[]) (sT 129 [(3,.hp 1 0 [] 2 0 0),(4,.hp 2 0 [] 5 0 0),(7,.hp 3 0 [] 4 0 0),(117,B u21)] [⟨0,2,[ac c_1]⟩,⟨0,5,[ak s_2]⟩,⟨0,4,[ae e4]⟩] 4):=by
        subst h
        exact rf [3,4,7,117] [1,2,3] (j20 :)
       replace h:=hu21
       clear hu21
       refine sp 108 h rfl ?_ ?_<;>intro h
       ·refine dk 9 [117,116,115,114,113,112,111,110,109] [B true,.und,.und,.und,.und,.und,.und,.und,.und] ?_
        refine de 836 rfl rfl ?_
        subst h
        exact rf [3,4,7,117] [1,2,3] (j21 :)
       ·refine dy [3] [] (.hp 3 0 [] 4 0 3) rfl (al rfl rfl rfl) ?_
        refine dy [3] [] (I e4.Status) rfl (aY rfl rfl) ?_
        refine dk 2 [112,111] [B (e4.Status==4),B (e4.Status==4)] ?_
        obtain⟨u22,hu22,h⟩:=lJ h
        have j22:Run dX 0 (cO (c_1,s_2,k_3) r) (.code ee::.code ec::[]) (sT 129 [(3,.hp 1 0 [] 2 0 0),(4,.hp 2 0 [] 5 0 0),(7,.hp 3 0 [] 4 0 0),(117,B u22)] [⟨0,2,[ac c_1]⟩,⟨0,5,[ak s_2]⟩,⟨0,4,[ae e4]⟩] 4):=by
         subst h
         exact rf [3,4,7,117] [1,2,3] (j21 :)
        replace h:=hu22
        clear hu22
        refine sp 112 h rfl ?_ ?_<;>intro h
        ·refine dy [2] [] (.hp 2 0 [] 5 0 4) rfl (al rfl rfl rfl) ?_
         refine dy [2] [] (B s_2.Over) rfl (aY rfl rfl) ?_
         refine dk 3 [117,116,115] [B (!s_2.Over),B (!s_2.Over),B (!s_2.Over)] ?_
         refine de 836 rfl rfl ?_
         subst h
         exact rf [3,4,7,117] [1,2,3] (j22 :)
        ·refine dk 5 [117,116,115,114,113] [B false,B false,.und,.und,.und] ?_
         refine de 836 rfl rfl ?_
         subst h
         exact rf [3,4,7,117] [1,2,3] (j22 :)
      ·refine dk 8 [108,107,106,105,104,103,102,101] [B false,B false,B false,.und,.und,.und,.und,.und] ?_
       refine dy [3] [] (.hp 3 0 [] 4 0 3) rfl (al rfl rfl rfl) ?_
       refine dy [3] [] (I e4.Status) rfl (aY rfl rfl) ?_
       refine dk 2 [112,111] [B (e4.Status==4),B (e4.Status==4)] ?_
       obtain⟨u23,hu23,h⟩:=lJ h
       have j23:Run dX 0 (cO (c_1,s_2,k_3) r) (.code ee::.code ec::[]) (sT 129 [(3,.hp 1 0 [] 2 0 0),(4,.hp 2 0 [] 5 0 0),(7,.hp 3 0 [] 4 0 0),(117,B u23)] [⟨0,2,[ac c_1]⟩,⟨0,5,[ak s_2]⟩,⟨0,4,[ae e4]⟩] 4):=by
        subst h
        exact rf [3,4,7,117] [1,2,3] (j20 :)
       replace h:=hu23
       clear hu23
       refine sp 112 h rfl ?_ ?_<;>intro h
       ·refine dy [2] [] (.hp 2 0 [] 5 0 4) rfl (al rfl rfl rfl) ?_
        refine dy [2] [] (B s_2.Over) rfl (aY rfl rfl) ?_
        refine dk 3 [117,116,115] [B (!s_2.Over),B (!s_2.Over),B (!s_2.Over)] ?_
        refine de 836 rfl rfl ?_
        subst h
        exact rf [3,4,7,117] [1,2,3] (j23 :)
       ·refine dk 5 [117,116,115,114,113] [B false,B false,.und,.und,.und] ?_
        refine de 836 rfl rfl ?_
        subst h
        exact rf [3,4,7,117] [1,2,3] (j23 :)
   ·refine dk 12 [80,79,78,77,76,75,74,73,72,71,70,69] [B false,B false,.und,.und,.und,.und,.und,.und,.und,.und,.und,.und] ?_
    refine dy [3] [] (.hp 3 0 [] 4 0 3) rfl (al rfl rfl rfl) ?_
    refine dy [3] [] (I e4.Status) rfl (aY rfl rfl) ?_
    refine dk 2 [84,83] [B (e4.Status==1),B (e4.Status==1)] ?_
    obtain⟨u24,hu24,h⟩:=lJ h
    have j24:Run dX 0 (cO (c_1,s_2,k_3) r) (.code ee::.code ec::[]) (sT 129 [(3,.hp 1 0 [] 2 0 0),(4,.hp 2 0 [] 5 0 0),(7,.hp 3 0 [] 4 0 0),(117,B u24)] [⟨0,2,[ac c_1]⟩,⟨0,5,[ak s_2]⟩,⟨0,4,[ae e4]⟩] 4):=by
     exact rf [3,4,7,117] [1,2,3] (j7 _ (ai h) :)
    replace h:=hu24
    clear hu24
    refine sp 84 h rfl ?_ ?_<;>intro h
    ·refine dy [3] [] (.hp 3 0 [] 4 0 2) rfl (al rfl rfl rfl) ?_
     refine dy [3] [] (I e4.Due) rfl (aY rfl rfl) ?_
     refine dy [2] [] (.hp 2 0 [] 5 0 0) rfl (al rfl rfl rfl) ?_
     refine dy [2] [] (I s_2.Day) rfl (aY rfl rfl) ?_
     refine dk 2 [90,89] [B (decide (e4.Due<s_2.Day)),B (decide (e4.Due<s_2.Day))] ?_
     obtain⟨u25,hu25,h⟩:=lJ h
     have j25:Run dX 0 (cO (c_1,s_2,k_3) r) (.code ee::.code ec::[]) (sT 129 [(3,.hp 1 0 [] 2 0 0),(4,.hp 2 0 [] 5 0 0),(7,.hp 3 0 [] 4 0 0),(117,B u25)] [⟨0,2,[ac c_1]⟩,⟨0,5,[ak s_2]⟩,⟨0,4,[ae e4]⟩] 4):=by
      subst h
      exact rf [3,4,7,117] [1,2,3] (j24 :)
     replace h:=hu25
     clear hu25
     refine sp 90 h rfl ?_ ?_<;>intro h
     ·refine dk 27 [117,116,115,114,113,112,111,110,109,108,107,106,105,104,103,102,101,100,99,98,97,96,95,94,93,92,91] [B true,.und,.und,.und,.und,.und,.und,.und,.und,B true,B true,.und,.und,.und,.und,.und,.und,.und,.und,.und,.und,B true,B true,B true,B true,.und,.und] ?_
      refine de 836 rfl rfl ?_
      subst h
      exact rf [3,4,7,117] [1,2,3] (j25 :)
     ·refine dy [2] [] (.hp 2 0 [] 5 0 4) rfl (al rfl rfl rfl) ?_
      refine dy [2] [] (B s_2.Over) rfl (aY rfl rfl) ?_
      refine dk 4 [96,95,94,93] [B s_2.Over,B s_2.Over,B s_2.Over,B s_2.Over] ?_
      obtain⟨u26,hu26,h⟩:=lJ h
      have j26:Run dX 0 (cO (c_1,s_2,k_3) r) (.code ee::.code ec::[]) (sT 129 [(3,.hp 1 0 [] 2 0 0),(4,.hp 2 0 [] 5 0 0),(7,.hp 3 0 [] 4 0 0),(117,B u26)] [⟨0,2,[ac c_1]⟩,⟨0,5,[ak s_2]⟩,⟨0,4,[ae e4]⟩] 4):=by
       subst h
       exact rf [3,4,7,117] [1,2,3] (j25 :)
      replace h:=hu26
      clear hu26
      refine sp 96 h rfl ?_ ?_<;>intro h
      ·refine dk 21 [117,116,115,114,113,112,111,110,109,108,107,106,105,104,103,102,101,100,99,98,97] [B true,.und,.und,.und,.und,.und,.und,.und,.und,B true,B true,.und,.und,.und,.und,.und,.und,.und,.und,.und,.und] ?_
       refine de 836 rfl rfl ?_
       subst h
       exact rf [3,4,7,117] [1,2,3] (j26 :)
      ·refine dy [3] [] (.hp 3 0 [] 4 0 3) rfl (al rfl rfl rfl) ?_
       refine dy [3] [] (I e4.Status) rfl (aY rfl rfl) ?_
       refine dk 2 [100,99] [B (e4.Status==3),B (e4.Status==3)] ?_
       obtain⟨u27,hu27,h⟩:=lJ h
       have j27:Run dX 0 (cO (c_1,s_2,k_3) r) (.code ee::.code ec::[]) (sT 129 [(3,.hp 1 0 [] 2 0 0),(4,.hp 2 0 [] 5 0 0),(7,.hp 3 0 [] 4 0 0),(117,B u27)] [⟨0,2,[ac c_1]⟩,⟨0,5,[ak s_2]⟩,⟨0,4,[ae e4]⟩] 4):=by
        subst h
        exact rf [3,4,7,117] [1,2,3] (j26 :)
       replace h:=hu27
       clear hu27
       refine sp 100 h rfl ?_ ?_<;>intro h
       ·refine dy [3] [] (.hp 3 0 [] 4 0 2) rfl (al rfl rfl rfl) ?_
        refine dy [3] [] (I e4.Due) rfl (aY rfl rfl) ?_
        refine dy [2] [] (.hp 2 0 [] 5 0 0) rfl (al rfl rfl rfl) ?_
        refine dy [2] [] (I s_2.Day) rfl (aY rfl rfl) ?_
        refine dk 4 [108,107,106,105] [B (decide (e4.Due≥s_2.Day)),B (decide (e4.Due≥s_2.Day)),B (decide (e4.Due≥s_2.Day)),B (decide (e4.Due≥s_2.Day))] ?_
        obtain⟨u28,hu28,h⟩:=lJ h
        have j28:Run dX 0 (cO (c_1,s_2,k_3) r) (.code ee::.code ec::[]) (sT 129 [(3,.hp 1 0 [] 2 0 0),(4,.hp 2 0 [] 5 0 0),(7,.hp 3 0 [] 4 0 0),(117,B u28)] [⟨0,2,[ac c_1]⟩,⟨0,5,[ak s_2]⟩,⟨0,4,[ae e4]⟩] 4):=by
         subst h
         exact rf [3,4,7,117] [1,2,3] (j27 :)
        replace h:=hu28
        clear hu28
        refine sp 108 h rfl ?_ ?_<;>intro h
        ·refine dk 9 [117,116,115,114,113,112,111,110,109] [B true,.und,.und,.und,.und,.und,.und,.und,.und] ?_
         refine de 836 rfl rfl ?_
         subst h
         exact rf [3,4,7,117] [1,2,3] (j28 :)
        ·refine dy [3] [] (.hp 3 0 [] 4 0 3) rfl (al rfl rfl rfl) ?_
         refine dy [3] [] (I e4.Status) rfl (aY rfl rfl) ?_
         refine dk 2 [112,111] [B (e4.Status==4),B (e4.Status==4)] ?_
         obtain⟨u29,hu29,h⟩:=lJ h
         have j29:Run dX 0 (cO (c_1,s_2,k_3) r) (.code ee::.code ec::[]) (sT 129 [(3,.hp 1 0 [] 2 0 0),(4,.hp 2 0 [] 5 0 0),(7,.hp 3 0 [] 4 0 0),(117,B u29)] [⟨0,2,[ac c_1]⟩,⟨0,5,[ak s_2]⟩,⟨0,4,[ae e4]⟩] 4):=by
          subst h
          exact rf [3,4,7,117] [1,2,3] (j28 :)
         replace h:=hu29
         clear hu29
         refine sp 112 h rfl ?_ ?_<;>intro h
         ·refine dy [2] [] (.hp 2 0 [] 5 0 4) rfl (al rfl rfl rfl) ?_
          refine dy [2] [] (B s_2.Over) rfl (aY rfl rfl) ?_
          refine dk 3 [117,116,115] [B (!s_2.Over),B (!s_2.Over),B (!s_2.Over)] ?_
          refine de 836 rfl rfl ?_
          subst h
          exact rf [3,4,7,117] [1,2,3] (j29 :)
         ·refine dk 5 [117,116,115,114,113] [B false,B false,.und,.und,.und] ?_
          refine de 836 rfl rfl ?_
          subst h
          exact rf [3,4,7,117] [1,2,3] (j29 :)
       ·refine dk 8 [108,107,106,105,104,103,102,101] [B false,B false,B false,.und,.und,.und,.und,.und] ?_
        refine dy [3] [] (.hp 3 0 [] 4 0 3) rfl (al rfl rfl rfl) ?_
        refine dy [3] [] (I e4.Status) rfl (aY rfl rfl) ?_
        refine dk 2 [112,111] [B (e4.Status==4),B (e4.Status==4)] ?_
        obtain⟨u30,hu30,h⟩:=lJ h
        have j30:Run dX 0 (cO (c_1,s_2,k_3) r) (.code ee::.code ec::[]) (sT 129 [(3,.hp 1 0 [] 2 0 0),(4,.hp 2 0 [] 5 0 0),(7,.hp 3 0 [] 4 0 0),(117,B u30)] [⟨0,2,[ac c_1]⟩,⟨0,5,[ak s_2]⟩,⟨0,4,[ae e4]⟩] 4):=by
         subst h
         exact rf [3,4,7,117] [1,2,3] (j27 :)
        replace h:=hu30
        clear hu30
        refine sp 112 h rfl ?_ ?_<;>intro h
        ·refine dy [2] [] (.hp 2 0 [] 5 0 4) rfl (al rfl rfl rfl) ?_
         refine dy [2] [] (B s_2.Over) rfl (aY rfl rfl) ?_
         refine dk 3 [117,116,115] [B (!s_2.Over),B (!s_2.Over),B (!s_2.Over)] ?_
         refine de 836 rfl rfl ?_
         subst h
         exact rf [3,4,7,117] [1,2,3] (j30 :)
        ·refine dk 5 [117,116,115,114,113] [B false,B false,.und,.und,.und] ?_
         refine de 836 rfl rfl ?_
         subst h
         exact rf [3,4,7,117] [1,2,3] (j30 :)
    ·refine dk 12 [96,95,94,93,92,91,90,89,88,87,86,85] [B false,B false,B false,.und,.und,.und,.und,.und,.und,.und,.und,.und] ?_
     refine dy [3] [] (.hp 3 0 [] 4 0 3) rfl (al rfl rfl rfl) ?_
     refine dy [3] [] (I e4.Status) rfl (aY rfl rfl) ?_
     refine dk 2 [100,99] [B (e4.Status==3),B (e4.Status==3)] ?_
     obtain⟨u31,hu31,h⟩:=lJ h
     have j31:Run dX 0 (cO (c_1,s_2,k_3) r) (.code ee::.code ec::[]) (sT 129 [(3,.hp 1 0 [] 2 0 0),(4,.hp 2 0 [] 5 0 0),(7,.hp 3 0 [] 4 0 0),(117,B u31)] [⟨0,2,[ac c_1]⟩,⟨0,5,[ak s_2]⟩,⟨0,4,[ae e4]⟩] 4):=by
      subst h
      exact rf [3,4,7,117] [1,2,3] (j24 :)
     replace h:=hu31
     clear hu31
     refine sp 100 h rfl ?_ ?_<;>intro h
     ·refine dy [3] [] (.hp 3 0 [] 4 0 2) rfl (al rfl rfl rfl) ?_
      refine dy [3] [] (I e4.Due) rfl (aY rfl rfl) ?_
      refine dy [2] [] (.hp 2 0 [] 5 0 0) rfl (al rfl rfl rfl) ?_
      refine dy [2] [] (I s_2.Day) rfl (aY rfl rfl) ?_
      refine dk 4 [108,107,106,105] [B (decide (e4.Due≥s_2.Day)),B (decide (e4.Due≥s_2.Day)),B (decide (e4.Due≥s_2.Day)),B (decide (e4.Due≥s_2.Day))] ?_
      obtain⟨u32,hu32,h⟩:=lJ h
      have j32:Run dX 0 (cO (c_1,s_2,k_3) r) (.code ee::.code ec::[]) (sT 129 [(3,.hp 1 0 [] 2 0 0),(4,.hp 2 0 [] 5 0 0),(7,.hp 3 0 [] 4 0 0),(117,B u32)] [⟨0,2,[ac c_1]⟩,⟨0,5,[ak s_2]⟩,⟨0,4,[ae e4]⟩] 4):=by
       subst h
       exact rf [3,4,7,117] [1,2,3] (j31 :)
      replace h:=hu32
      clear hu32
      refine sp 108 h rfl ?_ ?_<;>intro h
      ·refine dk 9 [117,116,115,114,113,112,111,110,109] [B true,.und,.und,.und,.und,.und,.und,.und,.und] ?_
       refine de 836 rfl rfl ?_
       subst h
       exact rf [3,4,7,117] [1,2,3] (j32 :)
      ·refine dy [3] [] (.hp 3 0 [] 4 0 3) rfl (al rfl rfl rfl) ?_
       refine dy [3] [] (I e4.Status) rfl (aY rfl rfl) ?_
       refine dk 2 [112,111] [B (e4.Status==4),B (e4.Status==4)] ?_
       obtain⟨u33,hu33,h⟩:=lJ h
       have j33:Run dX 0 (cO (c_1,s_2,k_3) r) (.code ee::.code ec::[]) (sT 129 [(3,.hp 1 0 [] 2 0 0),(4,.hp 2 0 [] 5 0 0),(7,.hp 3 0 [] 4 0 0),(117,B u33)] [⟨0,2,[ac c_1]⟩,⟨0,5,[ak s_2]⟩,⟨0,4,[ae e4]⟩] 4):=by
        subst h
        exact rf [3,4,7,117] [1,2,3] (j32 :)
       replace h:=hu33
       clear hu33
       refine sp 112 h rfl ?_ ?_<;>intro h
       ·refine dy [2] [] (.hp 2 0 [] 5 0 4) rfl (al rfl rfl rfl) ?_
        refine dy [2] [] (B s_2.Over) rfl (aY rfl rfl) ?_
        refine dk 3 [117,116,115] [B (!s_2.Over),B (!s_2.Over),B (!s_2.Over)] ?_
        refine de 836 rfl rfl ?_
        subst h
        exact rf [3,4,7,117] [1,2,3] (j33 :)
       ·refine dk 5 [117,116,115,114,113] [B false,B false,.und,.und,.und] ?_
        refine de 836 rfl rfl ?_
        subst h
        exact rf [3,4,7,117] [1,2,3] (j33 :)
     ·refine dk 8 [108,107,106,105,104,103,102,101] [B false,B false,B false,.und,.und,.und,.und,.und] ?_
      refine dy [3] [] (.hp 3 0 [] 4 0 3) rfl (al rfl rfl rfl) ?_
      refine dy [3] [] (I e4.Status) rfl (aY rfl rfl) ?_
      refine dk 2 [112,111] [B (e4.Status==4),B (e4.Status==4)] ?_
      obtain⟨u34,hu34,h⟩:=lJ h
      have j34:Run dX 0 (cO (c_1,s_2,k_3) r) (.code ee::.code ec::[]) (sT 129 [(3,.hp 1 0 [] 2 0 0),(4,.hp 2 0 [] 5 0 0),(7,.hp 3 0 [] 4 0 0),(117,B u34)] [⟨0,2,[ac c_1]⟩,⟨0,5,[ak s_2]⟩,⟨0,4,[ae e4]⟩] 4):=by
       subst h
       exact rf [3,4,7,117] [1,2,3] (j31 :)
      replace h:=hu34
      clear hu34
      refine sp 112 h rfl ?_ ?_<;>intro h
      ·refine dy [2] [] (.hp 2 0 [] 5 0 4) rfl (al rfl rfl rfl) ?_
       refine dy [2] [] (B s_2.Over) rfl (aY rfl rfl) ?_
       refine dk 3 [117,116,115] [B (!s_2.Over),B (!s_2.Over),B (!s_2.Over)] ?_
       refine de 836 rfl rfl ?_
       subst h
       exact rf [3,4,7,117] [1,2,3] (j34 :)
      ·refine dk 5 [117,116,115,114,113] [B false,B false,.und,.und,.und] ?_
       refine de 836 rfl rfl ?_
       subst h
       exact rf [3,4,7,117] [1,2,3] (j34 :)
 have r6:∀r',y6=.inl r'→∀st,cO (c_1,s_2,k_3) r' st→(cO (c_1,s_2,k_3) r) st:=fun r' e st hq=>by rw[hy61 r' e] at hq;exact hq
 replace h:=hy6
 refine sp 21 h rfl ?_ ?_<;>intro h
 ·refine dk 44 [65,64,63,62,61,60,59,58,57,56,55,54,53,52,51,50,49,48,47,46,45,44,43,42,41,40,39,38,37,36,35,34,33,32,31,30,29,28,27,26,25,24,23,22] [B true,.und,.und,.und,.und,B true,B true,.und,.und,.und,.und,B true,B true,.und,.und,.und,.und,.und,.und,.und,.und,.und,.und,.und,.und,.und,B true,B true,.und,.und,.und,.und,.und,.und,B true,B true,.und,.und,.und,.und,.und,.und,.und,.und] ?_
  refine de 1009 rfl rfl ?_
  exact rf [2,3,4,7,65] [1,17,129] (j6 _ (ai h) :)
 ·refine dy [1] [] (.hp 1 0 [] 2 0 1) rfl (al rfl rfl rfl) ?_
  refine dy [1] [] (.isl false (c_1.Clauses.map aj)) rfl (aY rfl rfl) ?_
  refine dy [129] [] (.hp 129 0 [] 4 0 0) rfl (al rfl rfl rfl) ?_
  refine dy [129] [] (I e4.Clause) rfl (aY rfl rfl) ?_
  obtain⟨e35,he35,h⟩:=bS h
  refine dy [] [] (.iptr (ao e35) 0) rfl (au rfl rfl rfl (aV rfl rfl rfl rfl he35)) ?_
  refine dy [] [] (.iptr (ao e35) 1) rfl (al rfl rfl rfl) ?_
  refine dy [] [] (I e35.Kind) rfl (aY rfl rfl) ?_
  refine dk 3 [31,30,29] [B (e35.Kind != 1),B (e35.Kind != 1),B (e35.Kind != 1)] ?_
  obtain⟨y36,hy36,hy361,hy362⟩:=bL h
  have j36:∀u36,y36=.inr u36→Run dX 0 (cO (c_1,s_2,k_3) r) (.code sG::.code nU::[]) (sT 129 [(2,I k_3),(3,.hp 1 0 [] 2 0 0),(4,.hp 2 0 [] 5 0 0),(7,.hp 3 0 [] 4 0 0),(65,B u36)] [⟨0,2,[ac c_1]⟩,⟨0,5,[ak s_2]⟩,⟨0,4,[ae e4]⟩] 4):=by
   intro u36 hu
   replace h:=hy362 u36 hu
   exact rf [2,3,4,7,65] [1,2,3] (j6 _ (ai h) :)
  have r36:∀r',y36=.inl r'→∀st,cO (c_1,s_2,k_3) r' st→(cO (c_1,s_2,k_3) r) st:=fun r' e st hq=>r6 r' (hy361 r' e) st hq
  replace h:=hy36
  refine sp 31 h rfl ?_ ?_<;>intro h
  ·refine dk 34 [65,64,63,62,61,60,59,58,57,56,55,54,53,52,51,50,49,48,47,46,45,44,43,42,41,40,39,38,37,36,35,34,33,32] [B true,.und,.und,.und,.und,B true,B true,.und,.und,.und,.und,B true,B true,.und,.und,.und,.und,.und,.und,.und,.und,.und,.und,.und,.und,.und,B true,B true,.und,.und,.und,.und,.und,.und] ?_
   refine de 1009 rfl rfl ?_
   exact rf [2,3,4,7,65] [1,17,129] (j36 _ (ai h) :)
  ·refine dy [129] [] (.hp 129 0 [] 4 0 1) rfl (al rfl rfl rfl) ?_
   refine dy [129] [] (I e4.Since) rfl (aY rfl rfl) ?_
   refine dy [17] [] (.hp 17 0 [] 5 0 0) rfl (al rfl rfl rfl) ?_
   refine dy [17] [] (I s_2.Day) rfl (aY rfl rfl) ?_
   obtain⟨r37,hr37,h⟩:=bS h
   refine dy [] [] (B r37) rfl (cP (dZ hr37)) ?_ (dE rfl rfl rfl rfl (bA (bV rfl) (bA (bV rfl) (bA (bV rfl) dB))) (dZ hr37) (.inr rfl) rfl)
   refine dk 3 [39,38,37] [B (!r37),B (!r37),B (!r37)] ?_
   obtain⟨y38,hy38,hy381,hy382⟩:=bL h
   have j38:∀u38,y38=.inr u38→Run dX 0 (cO (c_1,s_2,k_3) r) (.code sG::.code nU::[]) (sT 129 [(2,I k_3),(3,.hp 1 0 [] 2 0 0),(4,.hp 2 0 [] 5 0 0),(7,.hp 3 0 [] 4 0 0),(65,B u38)] [⟨0,2,[ac c_1]⟩,⟨0,5,[ak s_2]⟩,⟨0,4,[ae e4]⟩] 4):=by
    intro u38 hu
    replace h:=hy382 u38 hu
    exact rf [2,3,4,7,65] [1,2,3] (j36 _ (ai h) :)
   have r38:∀r',y38=.inl r'→∀st,cO (c_1,s_2,k_3) r' st→(cO (c_1,s_2,k_3) r) st:=fun r' e st hq=>r36 r' (hy381 r' e) st hq
   replace h:=hy38
   refine sp 39 h rfl ?_ ?_<;>intro h
   ·refine dk 26 [65,64,63,62,61,60,59,58,57,56,55,54,53,52,51,50,49,48,47,46,45,44,43,42,41,40] [B true,.und,.und,.und,.und,B true,B true,.und,.und,.und,.und,B true,B true,.und,.und,.und,.und,.und,.und,.und,.und,.und,.und,.und,.und,.und] ?_
    refine de 1009 rfl rfl ?_
    exact rf [2,3,4,7,65] [1,17,129] (j38 _ (ai h) :)
   ·refine dy [129] [] (.hp 129 0 [] 4 0 2) rfl (al rfl rfl rfl) ?_
    refine dy [129] [] (I e4.Due) rfl (aY rfl rfl) ?_
    refine dy [129] [] (.hp 129 0 [] 4 0 1) rfl (al rfl rfl rfl) ?_
    refine dy [129] [] (I e4.Since) rfl (aY rfl rfl) ?_
    refine dy [1] [] (.hp 1 0 [] 2 0 1) rfl (al rfl rfl rfl) ?_
    refine dy [1] [] (.isl false (c_1.Clauses.map aj)) rfl (aY rfl rfl) ?_
    refine dy [129] [] (.hp 129 0 [] 4 0 0) rfl (al rfl rfl rfl) ?_
    refine dy [129] [] (I e4.Clause) rfl (aY rfl rfl) ?_
    obtain⟨e39,he39,h⟩:=bS h
    refine dy [] [] (.iptr (ao e39) 0) rfl (au rfl rfl rfl (aV rfl rfl rfl rfl he39)) ?_
    refine dy [] [] (.iptr (ao e39) 10) rfl (al rfl rfl rfl) ?_
    refine dy [] [] (I e39.Within) rfl (aY rfl rfl) ?_
    refine dk 4 [54,53,52,51] [B (e4.Due != (az (e4.Since+e39.Within))),B (e4.Due != (az (e4.Since+e39.Within))),B (e4.Due != (az (e4.Since+e39.Within))),I (az (e4.Since+e39.Within))] ?_
    obtain⟨y40,hy40,hy401,hy402⟩:=bL h
    have j40:∀u40,y40=.inr u40→Run dX 0 (cO (c_1,s_2,k_3) r) (.code sG::.code nU::[]) (sT 129 [(2,I k_3),(3,.hp 1 0 [] 2 0 0),(4,.hp 2 0 [] 5 0 0),(7,.hp 3 0 [] 4 0 0),(65,B u40)] [⟨0,2,[ac c_1]⟩,⟨0,5,[ak s_2]⟩,⟨0,4,[ae e4]⟩] 4):=by
     intro u40 hu
     replace h:=hy402 u40 hu
     exact rf [2,3,4,7,65] [1,2,3] (j38 _ (ai h) :)
    have r40:∀r',y40=.inl r'→∀st,cO (c_1,s_2,k_3) r' st→(cO (c_1,s_2,k_3) r) st:=fun r' e st hq=>r38 r' (hy401 r' e) st hq
    replace h:=hy40
    refine sp 54 h rfl ?_ ?_<;>intro h
    ·refine dk 11 [65,64,63,62,61,60,59,58,57,56,55] [B true,.und,.und,.und,.und,B true,B true,.und,.und,.und,.und] ?_
     refine de 1009 rfl rfl ?_
     exact rf [2,3,4,7,65] [1,17,129] (j40 _ (ai h) :)
    ·refine dy [129] [] (.hp 129 0 [] 4 0 2) rfl (al rfl rfl rfl) ?_
     refine dy [129] [] (I e4.Due) rfl (aY rfl rfl) ?_
     obtain⟨r41,hr41,h⟩:=bS h
     refine dy [] [] (B r41) rfl (cP (DF hr41)) ?_ (dE rfl rfl rfl rfl (bA (bV rfl) dB) (DF hr41) (.inr rfl) rfl)
     refine dk 3 [60,59,58] [B (!r41),B (!r41),B (!r41)] ?_
     obtain⟨y42,hy42,hy421,hy422⟩:=bL h
     have j42:∀u42,y42=.inr u42→Run dX 0 (cO (c_1,s_2,k_3) r) (.code sG::.code nU::[]) (sT 129 [(2,I k_3),(3,.hp 1 0 [] 2 0 0),(4,.hp 2 0 [] 5 0 0),(7,.hp 3 0 [] 4 0 0),(65,B u42)] [⟨0,2,[ac c_1]⟩,⟨0,5,[ak s_2]⟩,⟨0,4,[ae e4]⟩] 4):=by
      intro u42 hu
      replace h:=hy422 u42 hu
      exact rf [2,3,4,7,65] [1,2,3] (j40 _ (ai h) :)
     have r42:∀r',y42=.inl r'→∀st,cO (c_1,s_2,k_3) r' st→(cO (c_1,s_2,k_3) r) st:=fun r' e st hq=>r40 r' (hy421 r' e) st hq
     replace h:=hy42
     refine sp 60 h rfl ?_ ?_<;>intro h
     ·refine dk 5 [65,64,63,62,61] [B true,.und,.und,.und,.und] ?_
      refine de 1009 rfl rfl ?_
      exact rf [2,3,4,7,65] [1,17,129] (j42 _ (ai h) :)
     ·refine dy [129] [] (.hp 129 0 [] 4 0 3) rfl (al rfl rfl rfl) ?_
      refine dy [129] [] (I e4.Status) rfl (aY rfl rfl) ?_
      obtain⟨r43,hr43,h⟩:=bS h
      refine dy [] [] (B r43) rfl (cP (dZ hr43)) ?_ (dE rfl rfl rfl rfl (bA (bV rfl) (bA (bV rfl) (bA (bV rfl) dB))) (dZ hr43) (.inr rfl) rfl)
      refine dk 2 [65,64] [B (!r43),B (!r43)] ?_
      refine de 1009 rfl rfl ?_
      exact rf [2,3,4,7,65] [1,17,129] (j42 _ (ai h) :)
theorem RU {G:bR}:bQ G 124 AU:=gT 3 0 (aJ fH (aJ RI (aJ RT (aJ vv bq)))) bX Tryz.func124 (fun a r h=>U7 a.1 a.2.1 a.2.2 r h)
def Dz:Int→List V:=oA I
def DA (r:Bool):V×List V:=(B r,[])
noncomputable def Ap :=aZ [false] Dz DA fun x=>Ao x
theorem aae {x_1:Int}{r}(h:Ao x_1=some r):Ap.F (Dz x_1)=some (DA r):=aH (aI bz) h
noncomputable def aag :=aF Tryz.f125
noncomputable def Rc :=bW [(89,eZ)]
def aaf (x:Int)(r:Bool):St→Prop:=QF Rc Tryz.f125 [false] (Dz x) (DA r)
theorem UF (x_1:Int)(r:Bool)(h:Ao x_1=some r):bo Rc Tryz.f125 [false] 0 (Dz x_1) (DA r):=by
 show Run _ _ (aaf x_1 r) [.code aag] _
 refine rI 5 [(0,I x_1)] [] 1 ?_
 unfold Ao at h
 refine cq 7 [3] [I x_1] 33 ?_
 obtain⟨r2,hr2,h⟩:=bS h
 refine oq 49 (B r2) rfl (cP (dZ hr2)) ?_
 refine cq 2 [2] [B r2] 65 ?_
 obtain rfl:=sI h
 exact rP [B r2]
theorem Re {G:bR}:bQ G 125 Ap:=gT 1 0 (aJ fH bq) bX Tryz.func125 (fun a r h=>UF a r h)
def DB:(List Int)→List V:=oA (fa I)
def DC (r:Int):V×List V:=(I r,[])
noncomputable def Aq :=aZ [false] DB DC fun x=>tF x
theorem aah {ar:List Int}{r}(h:tF ar=some r):Aq.F (DB ar)=some (DC r):=aH (aI (bv bz)) h
noncomputable def Rg :=aF Tryz.f126
noncomputable def JH :=bW []
def Rf (x:(List Int))(r:Int):St→Prop:=QF JH Tryz.f126 [false] (DB x) (DC r)
theorem LU (ar:List Int):cX JH 0 (Rf ar) (cL (cL (cR (cL (cR (cR Rg)))))) 0 (jR ar) (fun u=>(sT 18 [(3,I u)] [] 1)) fun x2=>(sT 18 [(0,.isl false (ar.map I)),(3,I x2.1),(4,I x2.2)] [] 1):=eI (xR ar) fun {Q K} hK self ih x2 y h hr hn=>by
 unfold kt at h
 refine cq 5 [5,6] [I x2.2,.isl false (ar.map I)] 33 ?_
 refine oq 49 (I (len ar)) rfl (br rfl rfl rfl (bC rfl)) ?_
 refine cq 2 [8] [B (decide (x2.2<(len ar)))] 65 ?_
 refine sq h ?_ ?_<;>intro h
 ·refine aq 1 ?_
  refine cq 6 [11,12,13] [I x2.1,.isl false (ar.map I),I x2.2] 113 ?_
  obtain⟨e3,he3,h⟩:=bS h
  refine oq 129 (.iptr (I e3) 0) rfl (au rfl rfl rfl (aV rfl rfl rfl rfl he3)) ?_
  refine cq 10 [3,4] [I (az (x2.1+e3)),I (az (x2.2+1))] 225 ?_
  refine dQ ?_
  exact rf [0,3,4] [] (ih _ _ h hr hn :)
 ·refine aq 1 ?_
  exact rf [3] [] (hn _ (ai h) :) (hk:=hK)
theorem UG (ar:List Int)(r:Int)(h:tF ar=some r):bo JH Tryz.f126 [false] 0 (DB ar) (DC r):=by
 show Run _ _ (Rf ar r) [.code Rg] _
 refine rI 18 [(0,.isl false (ar.map I))] [] 1 ?_
 unfold tF at h
 refine cq 14 [3,4] [I (0),I (0)] 49 ?_
 obtain⟨y4,hy4,hy41,hy42⟩:=bJ h
 refine cj rfl ?_
 refine rf [0,3,4] [] (LU ar rfl (0,0) _ hy4 (fun r' e st hq=>by rw[hy41 r' e] at hq;exact hq) fun u4 hu=>?_)
 replace h:=hy42 u4 hu
 refine cq 5 [2] [I u4] 33 ?_
 obtain rfl:=sI h
 exact rP [I u4]
theorem Rh {G:bR}:bQ G 126 Aq:=gT 1 0 bq bX Tryz.func126 (fun a r h=>UG a r h)
def Ev:(Contract×State)→List V:=cA aO (oA b9)
def Ew (r:Bool):V×List V:=(B r,[])
noncomputable def AV :=aZ [false,false] Ev Ew fun x=>tL x.1 x.2
theorem aaw {c_1:Contract}{s_2:State}{r}(h:tL c_1 s_2=some r):AV.F (Ev (c_1,s_2))=some (Ew r):=aH (aK bb (aI cZ)) h
noncomputable def jI :=aF Tryz.f75
noncomputable def mT :=bW [(43,AL),(93,tK),(123,qf),(124,AU),(125,Ap),(126,Aq),(76,qd),(122,Au)]
def jH (x:Contract×State)(r:Bool):St→Prop:=QF mT Tryz.f75 [false,false] (Ev x) (Ew r)
theorem L9 (c_1:Contract)(s_2:State)(r5:(List aa)):cX mT 0 (jH (c_1,s_2)) (cL (cL (cR (cL (cR (cR (cR jI))))))) 0 (sH c_1 s_2 r5) (fun u=>(sT 86 [(2,.hp 1 0 [] 2 0 0),(3,.hp 2 0 [] 5 0 0)] [⟨0,2,[ac c_1]⟩,⟨0,5,[ak s_2]⟩] 3)) fun x6=>(sT 86 [(2,.hp 1 0 [] 2 0 0),(3,.hp 2 0 [] 5 0 0),(5,.hs 3 0 [] 1 0 (r5.map str).length),(6,I x6)] [⟨0,2,[ac c_1]⟩,⟨0,5,[ak s_2]⟩,⟨0,1,r5.map str⟩] 4):=eI (yh c_1 s_2 r5) fun {Q K} hK self ih x6 y h hr hn=>by
 unfold my at h
 refine cq 6 [41,43] [I x6,.isl false (s_2.Facts.map str)] 52 ?_
 refine oq 68 (I (len s_2.Facts)) rfl (br rfl rfl rfl (bC rfl)) ?_
 refine cq 2 [45] [B (decide (x6<(len s_2.Facts)))] 84 ?_
 refine sq h ?_ ?_<;>intro h
 ·refine aq 1 ?_
  refine cq 8 [48,50,51] [.hs 3 0 [] 1 0 (r5.map str).length,.isl false (s_2.Facts.map str),I x6] 148 ?_
  obtain⟨e7,he7,h⟩:=bS h
  refine oq 164 (.iptr (str e7) 0) rfl (au rfl rfl rfl (aV rfl rfl rfl rfl he7)) ?_
  refine cq 1 [53] [str e7] 180 ?_
  obtain⟨r8,hr8,h⟩:=bS h
  refine oq 196 (B r8) rfl (ce rfl rfl (cS rfl rfl rfl (bA (W6 rfl rfl (fp (f:=str) (g:=str) (xs:=r5) rfl rfl (cf fk))) (bA (bV rfl) dB)) (DR hr8) (.inl rfl) eb rfl rfl rfl)) ?_
  refine cq 2 [55] [B (!r8)] 212 ?_
  refine sq h ?_ ?_<;>intro h
  ·refine cq 4 [4] [B false] 228 ?_
   exact ca rfl (hr _ (ai h) _ (qp [B false]))
  ·refine aq 1 ?_
   refine cq 6 [6] [I (az (x6+1))] 260 ?_
   refine dQ ?_
   exact rf [2,3,5,6] [1,2,3] (ih _ _ h hr hn :)
 ·refine aq 1 ?_
  exact rf [2,3] [1,2] (hn _ (ai h) :) (hk:=hK)
theorem Ma (c_1:Contract)(s_2:State):cX mT 0 (jH (c_1,s_2)) (cL (cL (cR (cL (cR (cR (cR (cR jI)))))))) 2 (mz c_1 s_2) (fun u=>(sT 86 [(3,.hp 1 0 [] 5 0 0)] [⟨0,5,[ak s_2]⟩] 2)) fun x10=>(sT 86 [(2,.hp 1 0 [] 2 0 0),(3,.hp 2 0 [] 5 0 0),(7,I x10)] [⟨0,2,[ac c_1]⟩,⟨0,5,[ak s_2]⟩] 3):=eI (yi c_1 s_2) fun {Q K} hK self ih x10 y h hr hn=>by
 unfold kE at h
 refine cq 6 [56,58] [I x10,.isl false (s_2.Duties.map ae)] 51 ?_
 refine oq 67 (I (len s_2.Duties)) rfl (br rfl rfl rfl (bC rfl)) ?_
 refine cq 2 [60] [B (decide (x10<(len s_2.Duties)))] 83 ?_
 refine sq h ?_ ?_<;>intro h
 ·refine aq 1 ?_
  refine cq 7 [63,64,65] [ac c_1,ak s_2,I x10] 131 ?_
  obtain⟨r11,hr11,h⟩:=bS h
  refine oq 147 (B r11) rfl (cP (aav hr11)) ?_
  refine cq 2 [67] [B (!r11)] 163 ?_
  refine sq h ?_ ?_<;>intro h
  ·refine cq 4 [4] [B false] 179 ?_
   exact ca rfl (hr _ (ai h) _ (qp [B false]))
  ·refine aq 1 ?_
   refine cq 6 [7] [I (az (x10+1))] 211 ?_
   refine dQ ?_
   exact rf [2,3,7] [1,2] (ih _ _ h hr hn :)
 ·refine aq 1 ?_
  exact rf [3] [2] (hn _ (ai h) :) (hk:=hK)
theorem Mb (c_1:Contract)(s_2:State):cX mT 0 (jH (c_1,s_2)) (cL (cL (cR (cL (cR (cR (cR (cR (cR jI))))))))) 4 (sJ c_1 s_2) (fun u=>(sT 86 [(3,.hp 1 0 [] 5 0 0)] [⟨0,5,[ak s_2]⟩] 2)) fun x13=>(sT 86 [(3,.hp 1 0 [] 5 0 0),(8,I x13)] [⟨0,5,[ak s_2]⟩] 2):=eI (yj c_1 s_2) fun {Q K} hK self ih x13 y h hr hn=>by
 unfold mA at h
 refine cq 6 [68,70] [I x13,.isl false (s_2.Balances.map I)] 50 ?_
 refine oq 66 (I (len s_2.Balances)) rfl (br rfl rfl rfl (bC rfl)) ?_
 refine cq 2 [72] [B (decide (x13<(len s_2.Balances)))] 82 ?_
 refine sq h ?_ ?_<;>intro h
 ·refine aq 1 ?_
  refine cq 7 [76,77] [.isl false (s_2.Balances.map I),I x13] 130 ?_
  obtain⟨e14,he14,h⟩:=bS h
  refine oq 146 (.iptr (I e14) 0) rfl (au rfl rfl rfl (aV rfl rfl rfl rfl he14)) ?_
  refine cq 1 [79] [I e14] 162 ?_
  obtain⟨r15,hr15,h⟩:=bS h
  refine oq 178 (B r15) rfl (cP (aae hr15)) ?_
  refine cq 2 [81] [B (!r15)] 194 ?_
  refine sq h ?_ ?_<;>intro h
  ·refine cq 4 [4] [B false] 210 ?_
   exact ca rfl (hr _ (ai h) _ (qp [B false]))
  ·refine aq 1 ?_
   refine cq 6 [8] [I (az (x13+1))] 242 ?_
   refine dQ ?_
   exact rf [3,8] [1] (ih _ _ h hr hn :)
 ·refine aq 1 ?_
  exact rf [3] [1] (hn _ (ai h) :) (hk:=hK)
theorem U8 (c_1:Contract)(s_2:State)(r:Bool)(h:tL c_1 s_2=some r):bo mT Tryz.f75 [false,false] 0 (Ev (c_1,s_2)) (Ew r):=by
 show Run _ _ (jH (c_1,s_2) r) [.code jI] _
 refine rI 86 [(0,ac c_1),(1,ak s_2)] [] 1 ?_
 unfold tL at h
 refine ck 10 [2,3,9] [] [1,17] [] [.hp 1 0 [] 2 0 0,.hp 17 0 [] 5 0 0,ac c_1] [some ⟨0,2,[ac c_1]⟩,some ⟨0,5,[ak s_2]⟩] 65 (by kernel_rfl) ?_
 obtain⟨r3,hr3,h⟩:=bS h
 refine oq 81 (B r3) rfl (cP (aar hr3)) ?_
 refine cq 2 [12] [B (!r3)] 113 ?_
 obtain⟨y4,hy4,hy41,hy42⟩:=bJ h
 have j4:∀u4,y4=.inr u4→Run mT 0 (jH (c_1,s_2) r) (.code (cR (cL (cR jI)))::.code (cR (cR jI))::[]) (sT 86 [(2,.hp 1 0 [] 2 0 0),(3,.hp 2 0 [] 5 0 0),(38,B u4)] [⟨0,2,[ac c_1]⟩,⟨0,5,[ak s_2]⟩] 3):=by
  intro u4 hu
  replace h:=hy42 u4 hu
  refine sq h ?_ ?_<;>intro h
  ·refine cq 4 [4] [B false] 19 ?_
   obtain rfl:=sI h
   exact rP [B false]
  ·refine aq 1 ?_
   refine cq 3 [39] [ac c_1] 19 ?_
   obtain⟨r5,hr5,h⟩:=bS h
   refine oq 35 (.hs 19 0 [] 1 0 (r5.map str).length) rfl (cP (RM hr5)) ?_
   refine cq 8 [5,6] [.hs 19 0 [] 1 0 (r5.map str).length,I (0)] 67 ?_
   obtain⟨y9,hy9,hy91,hy92⟩:=bJ h
   refine cj rfl ?_
   refine rf [2,3,5,6] [1,2,19] (L9 c_1 s_2 r5 rfl 0 _ hy9 (fun r' e st hq=>by rw[hy91 r' e] at hq;exact hq) fun u9 hu=>?_)
   replace h:=hy92 u9 hu
   refine cq 6 [7] [I (0)] 19 ?_
   obtain⟨y12,hy12,hy121,hy122⟩:=bJ h
   refine cj rfl ?_
   refine rf [2,3,7] [1,2] (Ma c_1 s_2 rfl 0 _ hy12 (fun r' e st hq=>by rw[hy121 r' e] at hq;exact hq) fun u12 hu=>?_)
   replace h:=hy122 u12 hu
   refine cq 6 [8] [I (0)] 18 ?_
   obtain⟨y16,hy16,hy161,hy162⟩:=bJ h
   refine cj rfl ?_
   refine rf [3,8] [1] (Mb c_1 s_2 rfl 0 _ hy16 (fun r' e st hq=>by rw[hy161 r' e] at hq;exact hq) fun u16 hu=>?_)
   replace h:=hy162 u16 hu
   refine cq 4 [83] [.isl false (s_2.Balances.map I)] 34 ?_
   obtain⟨r17,hr17,h⟩:=bS h
   refine oq 50 (I r17) rfl (cP (aah hr17)) ?_
   refine cq 3 [4] [B (r17==0)] 82 ?_
   obtain rfl:=sI h
   exact rP [B (r17==0)]
 have r4:∀r',y4=.inl r'→∀st,jH (c_1,s_2) r' st→(jH (c_1,s_2) r) st:=fun r' e st hq=>by rw[hy41 r' e] at hq;exact hq
 replace h:=hy4
 refine sp 12 h rfl ?_ ?_<;>intro h
 ·refine cq 27 [38] [B true] 529 ?_
  exact rf [2,3,38] [1,17] (j4 _ (ai h) :)
 ·refine cq 2 [14] [I s_2.Day] 145 ?_
  obtain⟨r18,hr18,h⟩:=bS h
  refine oy 161 (B r18) rfl (cP (DF hr18)) ?_
  refine cq 3 [18] [B (!r18)] 209 ?_
  obtain⟨y19,hy19,hy191,hy192⟩:=bL h
  have j19:∀u19,y19=.inr u19→Run mT 0 (jH (c_1,s_2) r) (.code (cR (cL (cR jI)))::.code (cR (cR jI))::[]) (sT 86 [(2,.hp 1 0 [] 2 0 0),(3,.hp 2 0 [] 5 0 0),(38,B u19)] [⟨0,2,[ac c_1]⟩,⟨0,5,[ak s_2]⟩] 3):=by
   intro u19 hu
   replace h:=hy192 u19 hu
   exact rf [2,3,38] [1,2] (j4 _ (ai h) :)
  have r19:∀r',y19=.inl r'→∀st,jH (c_1,s_2) r' st→(jH (c_1,s_2) r) st:=fun r' e st hq=>r4 r' (hy191 r' e) st hq
  replace h:=hy19
  refine sp 18 h rfl ?_ ?_<;>intro h
  ·refine cq 21 [38] [B true] 529 ?_
   exact rf [2,3,38] [1,17] (j19 _ (ai h) :)
  ·refine cq 2 [20] [.isl false (s_2.Facts.map str)] 241 ?_
   obtain⟨r20,hr20,h⟩:=bS h
   refine oy 257 (B r20) rfl (cP (aak hr20)) ?_
   refine cq 3 [24] [B (!r20)] 305 ?_
   obtain⟨u21,hu21,h⟩:=lJ h
   have j21:Run mT 0 (jH (c_1,s_2) r) (.code (cR (cL (cR jI)))::.code (cR (cR jI))::[]) (sT 86 [(2,.hp 1 0 [] 2 0 0),(3,.hp 2 0 [] 5 0 0),(38,B u21)] [⟨0,2,[ac c_1]⟩,⟨0,5,[ak s_2]⟩] 3):=by
    exact rf [2,3,38] [1,2] (j19 _ (ai h) :)
   replace h:=hu21
   clear hu21
   refine sp 24 h rfl ?_ ?_<;>intro h
   ·refine cq 15 [38] [B true] 529 ?_
    subst h
    exact rf [2,3,38] [1,17] (j21 :)
   ·refine cq 2 [26] [.isl false (s_2.Duties.map ae)] 337 ?_
    refine oy 353 (I (len s_2.Duties)) rfl (br rfl rfl rfl (bC rfl)) ?_
    refine cq 3 [30] [B (decide ((len s_2.Duties)>24))] 401 ?_
    obtain⟨u22,hu22,h⟩:=lJ h
    have j22:Run mT 0 (jH (c_1,s_2) r) (.code (cR (cL (cR jI)))::.code (cR (cR jI))::[]) (sT 86 [(2,.hp 1 0 [] 2 0 0),(3,.hp 2 0 [] 5 0 0),(38,B u22)] [⟨0,2,[ac c_1]⟩,⟨0,5,[ak s_2]⟩] 3):=by
     subst h
     exact rf [2,3,38] [1,2] (j21 :)
    replace h:=hu22
    clear hu22
    refine sp 30 h rfl ?_ ?_<;>intro h
    ·refine cq 9 [38] [B true] 529 ?_
     subst h
     exact rf [2,3,38] [1,17] (j22 :)
    ·refine cq 2 [32] [.isl false (s_2.Balances.map I)] 433 ?_
     refine oy 449 (I (len s_2.Balances)) rfl (br rfl rfl rfl (bC rfl)) ?_
     refine cq 2 [35] [.isl false (c_1.Parties.map str)] 481 ?_
     refine oy 497 (I (len c_1.Parties)) rfl (br rfl rfl rfl (bC rfl)) ?_
     refine cq 3 [38] [B ((len s_2.Balances) != (len c_1.Parties))] 529 ?_
     subst h
     exact rf [2,3,38] [1,17] (j22 :)
theorem RV {G:bR}:bQ G 75 AV:=gT 2 0 (aJ RL (aJ Hb (aJ vz (aJ RU (aJ Re (aJ Rh (aJ vv (aJ Rk bq)))))))) bX Tryz.func75 (fun a r h=>U8 a.1 a.2 r h)
def Em:(Contract×State×Int×aa)→List V:=cA aO (cA b9 (cA I (oA str)))
def En (r:Bool):V×List V:=(B r,[])
noncomputable def AO :=aZ [false,false,false,false] Em En fun x=>AN x.1 x.2.1 x.2.2.1 x.2.2.2
theorem aat {c_1:Contract}{s_2:State}{aE:Int}{aA:aa}{r}(h:AN c_1 s_2 aE aA=some r):AO.F (Em (c_1,s_2,aE,aA))=some (En r):=aH (aK bb (aK cZ (aK bz (aI ba)))) h
noncomputable def Eo :=aF Tryz.f55
noncomputable def vR :=bW [(75,AV),(89,eZ),(80,lT)]
def lB (x:Contract×State×Int×aa)(r:Bool):St→Prop:=QF vR Tryz.f55 [false,false,false,false] (Em x) (En r)
theorem U5 (c_1:Contract)(s_2:State)(aE:Int)(aA:aa)(r:Bool)(h:AN c_1 s_2 aE aA=some r):bo vR Tryz.f55 [false,false,false,false] 0 (Em (c_1,s_2,aE,aA)) (En r):=by
 show Run _ _ (lB (c_1,s_2,aE,aA) r) [.code Eo] _
 refine rI 29 [(0,ac c_1),(1,ak s_2),(2,I aE),(3,str aA)] [] 1 ?_
 unfold AN at h
 refine ck 10 [4,5,9,10] [] [1,17] [] [.hp 1 0 [] 2 0 0,.hp 17 0 [] 5 0 0,ac c_1,ak s_2] [some ⟨0,2,[ac c_1]⟩,some ⟨0,5,[ak s_2]⟩] 81 (by kernel_rfl) ?_
 obtain⟨r5,hr5,h⟩:=bS h
 refine oq 97 (B r5) rfl (cP (aaw hr5)) ?_
 refine cq 1 [12] [B r5] 113 ?_
 obtain⟨y6,hy6,hy61,hy62⟩:=bJ h
 have j6:∀u6,y6=.inr u6→Run vR 0 (lB (c_1,s_2,aE,aA) r) (.code (cR (cR Eo))::[]) (sT 29 [(8,B u6)] [] 1):=by
  intro u6 hu
  replace h:=hy62 u6 hu
  obtain rfl:=sI h
  exact rP [B u6]
 have r6:∀r',y6=.inl r'→∀st,lB (c_1,s_2,aE,aA) r' st→(lB (c_1,s_2,aE,aA) r) st:=fun r' e st hq=>by rw[hy61 r' e] at hq;exact hq
 replace h:=hy6
 refine sp 12 h rfl ?_ ?_<;>intro h
 ·refine cq 5 [17] [B (!s_2.Over)] 193 ?_
  obtain⟨y7,hy7,hy71,hy72⟩:=bL h
  have j7:∀u7,y7=.inr u7→Run vR 0 (lB (c_1,s_2,aE,aA) r) (.code (cR (cR Eo))::[]) (sT 29 [(8,B u7)] [] 1):=by
   intro u7 hu
   replace h:=hy72 u7 hu
   exact rf [8] [] (j6 _ (ai h) :)
  have r7:∀r',y7=.inl r'→∀st,lB (c_1,s_2,aE,aA) r' st→(lB (c_1,s_2,aE,aA) r) st:=fun r' e st hq=>r6 r' (hy71 r' e) st hq
  replace h:=hy7
  refine sp 17 h rfl ?_ ?_<;>intro h
  ·refine cq 3 [18,20] [I aE,.isl false (c_1.Parties.map str)] 241 ?_
   refine oy 257 (I (len c_1.Parties)) rfl (br rfl rfl rfl (bC rfl)) ?_
   refine cq 1 [22] [I (az ((len c_1.Parties) - 1))] 273 ?_
   obtain⟨r8,hr8,h⟩:=bS h
   refine oy 289 (B r8) rfl (cP (dZ hr8)) ?_
   refine cq 2 [25] [B r8] 321 ?_
   obtain⟨y9,hy9,hy91,hy92⟩:=bL h
   have j9:∀u9,y9=.inr u9→Run vR 0 (lB (c_1,s_2,aE,aA) r) (.code (cR (cR Eo))::[]) (sT 29 [(8,B u9)] [] 1):=by
    intro u9 hu
    replace h:=hy92 u9 hu
    exact rf [8] [] (j7 _ (ai h) :)
   have r9:∀r',y9=.inl r'→∀st,lB (c_1,s_2,aE,aA) r' st→(lB (c_1,s_2,aE,aA) r) st:=fun r' e st hq=>r7 r' (hy91 r' e) st hq
   replace h:=hy9
   refine sp 25 h rfl ?_ ?_<;>intro h
   ·refine cq 1 [26] [str aA] 337 ?_
    obtain⟨r10,hr10,h⟩:=bS h
    refine oy 353 (B r10) rfl (cP (oM hr10)) ?_
    refine cq 3 [8] [B r10] 385 ?_
    exact rf [8] [] (j9 _ (ai h) :)
   ·refine cq 5 [8] [B false] 385 ?_
    exact rf [8] [] (j9 _ (ai h) :)
  ·refine cq 13 [8] [B false] 385 ?_
   exact rf [8] [] (j7 _ (ai h) :)
 ·refine cq 18 [8] [B false] 385 ?_
  exact rf [8] [] (j6 _ (ai h) :)
theorem RQ {G:bR}:bQ G 55 AO:=gT 4 0 (aJ RV (aJ fH (aJ oP bq))) bX Tryz.func55 (fun a r h=>U5 a.1 a.2.1 a.2.2.1 a.2.2.2 r h)
def vA:(Condition×(List aa)×Int)→List V:=cA bg (cA (fa str) (oA I))
def vB (r:Bool):V×List V:=(B r,[])
noncomputable def vC (cz:(Condition×(List aa)×Int)→Option Bool):Ent:=aZ [false,false,false] vA vB cz
theorem pV (cz:(Condition×(List aa)×Int)→Option Bool){x}{r}(h:cz x=some r):(vC cz).F (vA x)=some (vB r):=aH (aK cH (aK (bv ba) (aI bz))) h
noncomputable def AC :=vC (aN kw)
theorem Rt {c_1:Condition}{bp:List aa}{b8:Int}{r}(h:Gf c_1 bp b8=some r):AC.F (vA (c_1,bp,b8))=some (vB r):=pV (aN kw) h
noncomputable def DV :=aF Tryz.f149
noncomputable def DU (cz:(Condition×(List aa)×Int)→Option Bool):Env:=bW [(123,qf),(149,(vC cz))]
def qg (cz:(Condition×(List aa)×Int)→Option Bool)(x:Condition×(List aa)×Int)(r:Bool):St→Prop:=QF (DU cz) Tryz.f149 [false,false,false] (vA x) (vB r)
theorem UQ (cz:(Condition×(List aa)×Int)→Option Bool)(c_1:Condition)(bp:List aa)(b8:Int)(r:Bool)(h:sr cz c_1 bp b8=some r):bo (DU cz) Tryz.f149 [false,false,false] 0 (vA (c_1,bp,b8)) (vB r):=by
 show Run _ _ (qg cz (c_1,bp,b8) r) [.code DV] _
 refine rI 67 [(0,ah c_1),(1,.isl false (bp.map str)),(2,I b8)] [] 1 ?_
 unfold sr at h
 refine ck 17 [3,8,9] [] [1] [] [.hp 1 0 [] 4 0 0,I c_1.Op,B (c_1.Op==1)] [some ⟨0,4,[ah c_1]⟩] 97 (by kernel_rfl) ?_
 refine sq h ?_ ?_<;>intro h
 ·refine cq 4 [6] [B true] 113 ?_
  obtain rfl:=sI h
  exact rP [B true]
 ·refine cq 5 [11] [B (c_1.Op==2)] 129 ?_
  refine sq h ?_ ?_<;>intro h
  ·refine cq 5 [13,15] [.isl false (bp.map str),str c_1.Name] 177 ?_
   obtain⟨r4,hr4,h⟩:=bS h
   refine oq 193 (B r4) rfl (cP (DR hr4)) ?_
   refine cq 2 [6] [B r4] 209 ?_
   obtain rfl:=sI h
   exact rP [B r4]
  ·refine cq 5 [17] [B (c_1.Op==3)] 161 ?_
   refine sq h ?_ ?_<;>intro h
   ·refine cq 8 [6] [B (decide (b8≥c_1.Day))] 241 ?_
    obtain rfl:=sI h
    exact rP [B (decide (b8≥c_1.Day))]
   ·refine cq 5 [23] [B (c_1.Op==4)] 193 ?_
    refine sq h ?_ ?_<;>intro h
    ·refine cq 4 [26] [.isl false (c_1.Parts.map ay)] 225 ?_
     obtain⟨e5,he5,h⟩:=bS h
     refine oq 241 (.iptr (ah e5) 0) rfl (au rfl rfl rfl (aV rfl rfl (bB e5) rfl he5)) ?_
     refine cq 3 [28,29,30] [ah e5,.isl false (bp.map str),I b8] 289 ?_
     obtain⟨r6,hr6,h⟩:=bS h
     refine oq 305 (B r6) rfl (ce rfl rfl (cS rfl rfl rfl (bA (bV rfl) (bA (bV rfl) (bA (bV rfl) dB))) (pV cz hr6) (.inr rfl) eb rfl rfl rfl)) ?_
     refine cq 3 [6] [B (!r6)] 337 ?_
     obtain rfl:=sI h
     exact rP [B (!r6)]
    ·refine cq 5 [33] [B (c_1.Op==5)] 225 ?_
     refine sq h ?_ ?_<;>intro h
     ·refine cq 4 [36] [.isl false (c_1.Parts.map ay)] 257 ?_
      obtain⟨e7,he7,h⟩:=bS h
      refine oq 273 (.iptr (ah e7) 0) rfl (au rfl rfl rfl (aV rfl rfl (bB e7) rfl he7)) ?_
      refine cq 3 [38,39,40] [ah e7,.isl false (bp.map str),I b8] 321 ?_
      obtain⟨r8,hr8,h⟩:=bS h
      refine oq 337 (B r8) rfl (ce rfl rfl (cS rfl rfl rfl (bA (bV rfl) (bA (bV rfl) (bA (bV rfl) dB))) (pV cz hr8) (.inr rfl) eb rfl rfl rfl)) ?_
      refine cq 1 [42] [B r8] 353 ?_
      obtain⟨y9,hy9,hy91,hy92⟩:=bJ h
      have j9:∀u9,y9=.inr u9→Run (DU cz) 0 (qg cz (c_1,bp,b8) r) (.code (cR (cL (cR (cR (cR (cR (cR (cR (cR (cR (cR (cL (cR (cL (cR DV)))))))))))))))::.blk 0::.code (cR (cR DV))::[]) (sT 67 [(6,B u9)] [] 1):=by
       intro u9 hu
       replace h:=hy92 u9 hu
       obtain rfl:=sI h
       exact rP [B u9]
      have r9:∀r',y9=.inl r'→∀st,qg cz (c_1,bp,b8) r' st→(qg cz (c_1,bp,b8) r) st:=fun r' e st hq=>by rw[hy91 r' e] at hq;exact hq
      replace h:=hy9
      refine sp 42 h rfl ?_ ?_<;>intro h
      ·refine cq 2 [44] [.isl false (c_1.Parts.map ay)] 385 ?_
       obtain⟨e10,he10,h⟩:=bS h
       refine oy 401 (.iptr (ah e10) 0) rfl (au rfl rfl rfl (aV rfl rfl (bB e10) rfl he10)) ?_
       refine cq 3 [46,47,48] [ah e10,.isl false (bp.map str),I b8] 449 ?_
       obtain⟨r11,hr11,h⟩:=bS h
       refine oy 465 (B r11) rfl (ce rfl rfl (cS rfl rfl rfl (bA (bV rfl) (bA (bV rfl) (bA (bV rfl) dB))) (pV cz hr11) (.inr rfl) eb rfl rfl rfl)) ?_
       refine cq 3 [6] [B r11] 497 ?_
       exact rf [6] [] (j9 _ (ai h) :)
      ·refine cq 10 [6] [B false] 497 ?_
       exact rf [6] [] (j9 _ (ai h) :)
     ·refine aq 1 ?_
      refine cq 5 [52] [.isl false (c_1.Parts.map ay)] 257 ?_
      obtain⟨e12,he12,h⟩:=bS h
      refine oq 273 (.iptr (ah e12) 0) rfl (au rfl rfl rfl (aV rfl rfl (bB e12) rfl he12)) ?_
      refine cq 3 [54,55,56] [ah e12,.isl false (bp.map str),I b8] 321 ?_
      obtain⟨r13,hr13,h⟩:=bS h
      refine oq 337 (B r13) rfl (ce rfl rfl (cS rfl rfl rfl (bA (bV rfl) (bA (bV rfl) (bA (bV rfl) dB))) (pV cz hr13) (.inr rfl) eb rfl rfl rfl)) ?_
      refine cq 1 [58] [B r13] 353 ?_
      obtain⟨y14,hy14,hy141,hy142⟩:=bJ h
      have j14:∀u14,y14=.inr u14→Run (DU cz) 0 (qg cz (c_1,bp,b8) r) (.code (cR (cR (cR DV)))::[]) (sT 67 [(6,B u14)] [] 1):=by
       intro u14 hu
       replace h:=hy142 u14 hu
       obtain rfl:=sI h
       exact rP [B u14]
      have r14:∀r',y14=.inl r'→∀st,qg cz (c_1,bp,b8) r' st→(qg cz (c_1,bp,b8) r) st:=fun r' e st hq=>by rw[hy141 r' e] at hq;exact hq
      replace h:=hy14
      refine sp 58 h rfl ?_ ?_<;>intro h
      ·refine cq 10 [6] [B true] 497 ?_
       exact rf [6] [] (j14 _ (ai h) :)
      ·refine cq 2 [60] [.isl false (c_1.Parts.map ay)] 385 ?_
       obtain⟨e15,he15,h⟩:=bS h
       refine oy 401 (.iptr (ah e15) 0) rfl (au rfl rfl rfl (aV rfl rfl (bB e15) rfl he15)) ?_
       refine cq 3 [62,63,64] [ah e15,.isl false (bp.map str),I b8] 449 ?_
       obtain⟨r16,hr16,h⟩:=bS h
       refine oy 465 (B r16) rfl (ce rfl rfl (cS rfl rfl rfl (bA (bV rfl) (bA (bV rfl) (bA (bV rfl) dB))) (pV cz hr16) (.inr rfl) eb rfl rfl rfl)) ?_
       refine cq 3 [6] [B r16] 497 ?_
       exact rf [6] [] (j14 _ (ai h) :)
theorem Ru {G:bR}:bQ G 149 AC:=iG fun cz g_Ffdo=>gT 3 0 (aJ vz (aJ g_Ffdo bq)) bX Tryz.func149 (fun a r h=>UQ cz a.1 a.2.1 a.2.2 r h)
def EC:(l9Run×Int)→List V:=cA (HA cN) (oA I)
def ED (r:Bool):V×List V:=(B r,[])
noncomputable def AZ :=aZ [false,false] EC ED fun x=>AY x.1 x.2
theorem aaA {r_1:l9Run}{i_2:Int}{r}(h:AY r_1 i_2=some r):AZ.F (EC (r_1,i_2))=some (ED r):=aH (aK (eW oa) (aI bz)) h
noncomputable def aaC :=aF Tryz.f107
noncomputable def R4 :=bW [(149,AC)]
def aaB (x:l9Run×Int)(r:Bool):St→Prop:=QF R4 Tryz.f107 [false,false] (EC x) (ED r)
theorem Vb (r_1:l9Run)(i_2:Int)(r:Bool)(h:AY r_1 i_2=some r):bo R4 Tryz.f107 [false,false] 0 (EC (r_1,i_2)) (ED r):=by
 show Run _ _ (aaB (r_1,i_2) r) [.code aaC] _
 refine rI 25 [(0,.iptr (cN r_1) 0),(1,I i_2)] [] 1 ?_
 unfold AY at h
 refine cq 5 [] [] 17 ?_
 refine eB [0,1,3,7,15,0,63,127,255,0,512,1536,3584,7680,0,16384,49152,114688,245760,524287,1048575] rfl (by decide +kernel) ?_
 refine dk 1 [5] [.iptr (cN r_1) 0] ?_
 refine dq [] [] (.iptr (cN r_1) 0) rfl (nf rfl rfl) ?_
 refine dq [] [] (.iptr (cN r_1) 0) rfl (al rfl rfl rfl) ?_
 refine dq [] [] (.iptr (cN r_1) 1) rfl (al rfl rfl rfl) ?_
 refine dq [] [] (.isl false (r_1.f_c.Clauses.map aj)) rfl (aY rfl rfl) ?_
 refine dk 1 [10] [I i_2] ?_
 obtain⟨e3,he3,h⟩:=bS h
 refine dq [] [] (.iptr (ao e3) 0) rfl (au rfl rfl rfl (aV rfl rfl rfl rfl he3)) ?_
 refine dq [] [] (.iptr (ao e3) 6) rfl (al rfl rfl rfl) ?_
 refine dq [] [] (ah e3.When) rfl (aY rfl rfl) ?_
 refine dk 1 [14] [.iptr (cN r_1) 0] ?_
 refine dq [] [] (.iptr (cN r_1) 0) rfl (nf rfl rfl) ?_
 refine dq [] [] (.iptr (cN r_1) 2) rfl (al rfl rfl rfl) ?_
 refine dq [] [] (.iptr (cN r_1) 3) rfl (al rfl rfl rfl) ?_
 refine dq [] [] (.isl false (r_1.f_s.Facts.map str)) rfl (aY rfl rfl) ?_
 refine dk 1 [19] [.iptr (cN r_1) 0] ?_
 refine dq [] [] (.iptr (cN r_1) 0) rfl (nf rfl rfl) ?_
 refine dq [] [] (.iptr (cN r_1) 2) rfl (al rfl rfl rfl) ?_
 refine dq [] [] (.iptr (cN r_1) 2) rfl (al rfl rfl rfl) ?_
 refine dq [] [] (I r_1.f_s.Day) rfl (aY rfl rfl) ?_
 obtain⟨r4,hr4,h⟩:=bS h
 refine dq [] [] (B r4) rfl (cP (Rt hr4)) ?_ (dE rfl rfl rfl rfl (bA (bV rfl) (bA (bV rfl) (bA (bV rfl) dB))) (Rt hr4) (.inr rfl) rfl)
 refine dk 1 [4] [B r4] ?_
 refine de 353 rfl rfl ?_
 obtain rfl:=sI h
 exact rP [B r4]
theorem R5 {G:bR}:bQ G 107 AZ:=gT 2 0 (aJ Ru bq) bX Tryz.func107 (fun a r h=>Vb a.1 a.2 r h)
def Ey:(l9Run×Int×Int×aa)→List V:=cA (HA cN) (cA I (cA I (oA str)))
def Ez (r:Int):V×List V:=(I r,[])
noncomputable def AW :=aZ [false,false,false,false] Ey Ez fun x=>vS x.1 x.2.1 x.2.2.1 x.2.2.2
theorem RX {r_1:l9Run}{cV:Int}{aE:Int}{aA:aa}{r}(h:vS r_1 cV aE aA=some r):AW.F (Ey (r_1,cV,aE,aA))=some (Ez r):=aH (aK (eW oa) (aK bz (aK bz (aI ba)))) h
noncomputable def RY :=aF Tryz.f56
noncomputable abbrev pX :=cL (cL (cR (cL (cR RY))))
noncomputable abbrev Gj :=cR (cR pX)
noncomputable abbrev Gk :=cR (cR (cL (cL (cR pX))))
noncomputable def sK :=bW [(107,AZ)]
def vT (x:l9Run×Int×Int×aa)(r:Int):St→Prop:=QF sK Tryz.f56 [false,false,false,false] (Ey x) (Ez r)
theorem Mc (r_1:l9Run)(cV:Int)(aE:Int)(aA:aa):cX sK 0 (vT (r_1,cV,aE,aA)) pX 0 (sL r_1 cV aE aA) (fun u=>(sT 51 [] [] 1)) fun x5=>(sT 51 [(0,.iptr (cN r_1) 0),(1,I cV),(2,I aE),(3,str aA),(9,I x5)] [] 1):=eI (yk r_1 cV aE aA) fun {Q K} hK self ih x5 y h hr hn=>by
 unfold mB at h
 refine cq 9 [11,16] [I x5,.isl false (r_1.f_c.Clauses.map aj)] 97 ?_
 refine oq 113 (I (len r_1.f_c.Clauses)) rfl (br rfl rfl rfl (bC rfl)) ?_
 refine cq 2 [18] [B (decide (x5<(len r_1.f_c.Clauses)))] 129 ?_
 refine sq h ?_ ?_<;>intro h
 ·refine aq 1 ?_
  refine cq 10 [25,26] [.isl false (r_1.f_c.Clauses.map aj),I x5] 225 ?_
  obtain⟨e6,he6,h⟩:=bS h
  refine oq 241 (.iptr (ao e6) 0) rfl (au rfl rfl rfl (aV rfl rfl rfl rfl he6)) ?_
  refine ck 2 [10,28] [] [257] [] [.hp 257 0 [] 12 0 0,ao e6] [some ⟨0,12,[.agg [str ([]),I (0),I (0),str ([]),I (0),I (0),I (0),str ([]),I (0),.isl true [],I (0),str ([])]]⟩] 273 (by kernel_rfl) ?_
  refine eM 257 [.agg [str ([]),I (0),I (0),str ([]),I (0),I (0),I (0),str ([]),I (0),.usl 4 (([]).map aC),I (0),str ([])]] rfl rfl (aD (fF (aD (.refl _) (aD (.refl _) (aD (.refl _) (aD (.refl _) (aD (.refl _) (aD (.refl _) (aD (.refl _) (aD (.refl _) (aD (.refl _) (aD (.nil _) (aD (.refl _) (aD (.refl _) dU))))))))))))) dU) ?_
  refine ck 9 [33] [] [257] [] [B (e6.Kind==cV)] [some ⟨2,12,[ao e6]⟩] 369 (by kernel_rfl) ?_
  obtain⟨y7,hy7,hy71,hy72⟩:=bL h
  have j7:∀u7,y7=.inr u7→Run sK 0 Q (.code Gk::.blk 1::.code Gj::.lp pX::.blk 0::K) (sT 51 [(0,.iptr (cN r_1) 0),(1,I cV),(2,I aE),(3,str aA),(9,I x5),(49,B u7)] [] 1):=by
   intro u7 hu
   replace h:=hy72 u7 hu
   refine sq h ?_ ?_<;>intro h
   ·refine cq 5 [8] [I x5] 33 ?_
    exact ca rfl (hr _ (ai h) _ (qp [I x5]))
   ·refine aq 1 ?_
    refine cq 6 [9] [I (az (x5+1))] 49 ?_
    refine dQ ?_
    exact rf [0,1,2,3,9] [] (ih _ _ h hr hn :)
  have r7:∀r',y7=.inl r'→∀st,vT (r_1,cV,aE,aA) r' st→Q st:=fun r' e st hq=>hr r' (hy71 r' e) st hq
  replace h:=hy7
  refine sp 33 h rfl ?_ ?_<;>intro h
  ·refine cq 6 [39] [B (e6.Party==aE)] 465 ?_
   obtain⟨y8,hy8,hy81,hy82⟩:=bL h
   have j8:∀u8,y8=.inr u8→Run sK 0 Q (.code Gk::.blk 1::.code Gj::.lp pX::.blk 0::K) (sT 51 [(0,.iptr (cN r_1) 0),(1,I cV),(2,I aE),(3,str aA),(9,I x5),(49,B u8)] [] 1):=by
    intro u8 hu
    replace h:=hy82 u8 hu
    exact rf [0,1,2,3,9,49] [] (j7 _ (ai h) :)
   have r8:∀r',y8=.inl r'→∀st,vT (r_1,cV,aE,aA) r' st→Q st:=fun r' e st hq=>r7 r' (hy81 r' e) st hq
   replace h:=hy8
   refine sp 39 h rfl ?_ ?_<;>intro h
   ·refine cq 6 [45] [B (e6.Action==aA)] 561 ?_
    obtain⟨y9,hy9,hy91,hy92⟩:=bL h
    have j9:∀u9,y9=.inr u9→Run sK 0 Q (.code Gk::.blk 1::.code Gj::.lp pX::.blk 0::K) (sT 51 [(0,.iptr (cN r_1) 0),(1,I cV),(2,I aE),(3,str aA),(9,I x5),(49,B u9)] [] 1):=by
     intro u9 hu
     replace h:=hy92 u9 hu
     exact rf [0,1,2,3,9,49] [] (j8 _ (ai h) :)
    have r9:∀r',y9=.inl r'→∀st,vT (r_1,cV,aE,aA) r' st→Q st:=fun r' e st hq=>r8 r' (hy91 r' e) st hq
    replace h:=hy9
    refine sp 45 h rfl ?_ ?_<;>intro h
    ·refine cq 2 [46,47] [.iptr (cN r_1) 0,I x5] 593 ?_
     obtain⟨r10,hr10,h⟩:=bS h
     refine oy 609 (B r10) rfl (cP (aaA hr10)) ?_
     refine cq 2 [49] [B r10] 625 ?_
     exact rf [0,1,2,3,9,49] [] (j9 _ (ai h) :)
    ·refine cq 5 [49] [B false] 625 ?_
     exact rf [0,1,2,3,9,49] [] (j9 _ (ai h) :)
   ·refine cq 11 [49] [B false] 625 ?_
    exact rf [0,1,2,3,9,49] [] (j8 _ (ai h) :)
  ·refine cq 17 [49] [B false] 625 ?_
   exact rf [0,1,2,3,9,49] [] (j7 _ (ai h) :)
 ·refine aq 1 ?_
  exact rf [] [] (hn _ (ai h) :) (hk:=hK)
theorem U9 (r_1:l9Run)(cV:Int)(aE:Int)(aA:aa)(r:Int)(h:vS r_1 cV aE aA=some r):bo sK Tryz.f56 [false,false,false,false] 0 (Ey (r_1,cV,aE,aA)) (Ez r):=by
 show Run _ _ (vT (r_1,cV,aE,aA) r) [.code RY] _
 refine rI 51 [(0,.iptr (cN r_1) 0),(1,I cV),(2,I aE),(3,str aA)] [] 1 ?_
 unfold vS at h
 refine cq 10 [9] [I (0)] 33 ?_
 obtain⟨y11,hy11,hy111,hy112⟩:=bJ h
 refine cj rfl ?_
 refine rf [0,1,2,3,9] [] (Mc r_1 cV aE aA rfl 0 _ hy11 (fun r' e st hq=>by rw[hy111 r' e] at hq;exact hq) fun u11 hu=>?_)
 replace h:=hy112 u11 hu
 refine cq 4 [8] [I (-1)] 17 ?_
 obtain rfl:=sI h
 exact rP [I (-1)]
theorem RZ {G:bR}:bQ G 56 AW:=gT 4 0 (aJ R5 bq) bX Tryz.func56 (fun a r h=>U9 a.1 a.2.1 a.2.2.1 a.2.2.2 r h)
def EA:(l9Run×Int×aa)→List V:=cA (HA cN) (cA I (oA str))
def EB (r:Int):V×List V:=(I r,[])
noncomputable def AX :=aZ [false,false,false] EA EB fun x=>Gl x.1 x.2.1 x.2.2
theorem aax {r_1:l9Run}{ed:Int}{dN:aa}{r}(h:Gl r_1 ed dN=some r):AX.F (EA (r_1,ed,dN))=some (EB r):=aH (aK (eW oa) (aK bz (aI ba))) h
noncomputable def aaz :=aF Tryz.f63
noncomputable def R1 :=bW [(56,AW)]
def aay (x:l9Run×Int×aa)(r:Int):St→Prop:=QF R1 Tryz.f63 [false,false,false] (EA x) (EB r)
theorem Va (r_1:l9Run)(ed:Int)(dN:aa)(r:Int)(h:Gl r_1 ed dN=some r):bo R1 Tryz.f63 [false,false,false] 0 (EA (r_1,ed,dN)) (EB r):=by
 show Run _ _ (aay (r_1,ed,dN) r) [.code aaz] _
 refine rI 16 [(0,.iptr (cN r_1) 0),(1,I ed),(2,str dN)] [] 1 ?_
 unfold Gl at h
 refine cq 10 [7,8,9] [.iptr (cN r_1) 0,I ed,str dN] 65 ?_
 obtain⟨r4,hr4,h⟩:=bS h
 refine oq 81 (I r4) rfl (cP (RX hr4)) ?_
 refine cq 2 [11] [B (decide (r4≥0))] 97 ?_
 refine sq h ?_ ?_<;>intro h
 ·refine cq 4 [6] [I (-1)] 113 ?_
  obtain rfl:=sI h
  exact rP [I (-1)]
 ·refine aq 1 ?_
  refine cq 5 [12,13,14] [.iptr (cN r_1) 0,I ed,str dN] 145 ?_
  obtain⟨r5,hr5,h⟩:=bS h
  refine oq 161 (I r5) rfl (cP (RX hr5)) ?_
  refine cq 2 [6] [I r5] 177 ?_
  obtain rfl:=sI h
  exact rP [I r5]
theorem R3 {G:bR}:bQ G 63 AX:=gT 3 0 (aJ RZ bq) bX Tryz.func63 (fun a r h=>Va a.1 a.2.1 a.2.2 r h)
def Dx:(Contract×State×Int×aa)→List V:=cA aO (cA b9 (cA I (oA str)))
def Dy (r:Bool×Bool):V×List V:=(.tup [B r.1,B r.2],[])
noncomputable def An :=aZ [false,false,false,false] Dx Dy fun x=>Am x.1 x.2.1 x.2.2.1 x.2.2.2
theorem Ra {c_1:Contract}{s_2:State}{aE:Int}{aA:aa}{r}(h:Am c_1 s_2 aE aA=some r):An.F (Dx (c_1,s_2,aE,aA))=some (Dy r):=aH (aK bb (aK cZ (aK bz (aI ba)))) h
noncomputable def aad :=aF Tryz.f26
noncomputable def Q9 :=bW [(55,AO),(63,AX)]
def aac (x:Contract×State×Int×aa)(r:Bool×Bool):St→Prop:=QF Q9 Tryz.f26 [false,false,false,false] (Dx x) (Dy r)
theorem UE (c_1:Contract)(s_2:State)(aE:Int)(aA:aa)(r:Bool×Bool)(h:Am c_1 s_2 aE aA=some r):bo Q9 Tryz.f26 [false,false,false,false] 0 (Dx (c_1,s_2,aE,aA)) (Dy r):=by
 show Run _ _ (aac (c_1,s_2,aE,aA) r) [.code aad] _
 refine rI 26 [(0,ac c_1),(1,ak s_2),(2,I aE),(3,str aA)] [] 1 ?_
 unfold Am at h
 refine ck 14 [4,5,11,12,13,14] [] [1,17] [] [.hp 1 0 [] 2 0 0,.hp 17 0 [] 5 0 0,ac c_1,ak s_2,I aE,str aA] [some ⟨0,2,[ac c_1]⟩,some ⟨0,5,[ak s_2]⟩] 129 (by kernel_rfl) ?_
 obtain⟨r5,hr5,h⟩:=bS h
 refine oq 145 (B r5) rfl (cP (aat hr5)) ?_
 refine cq 2 [16] [B (!r5)] 161 ?_
 refine sq h ?_ ?_<;>intro h
 ·refine cq 5 [8,9] [B false,B false] 193 ?_
  obtain rfl:=sI h
  exact rP [B false,B false]
 ·refine aq 1 ?_
  refine ck 13 [21,22,23] [] [209] [] [.hp 209 0 [] 8 0 0,I aE,str aA] [some ⟨0,8,[.agg [.isl false (c_1.Parties.map str),.isl false (c_1.Clauses.map aj),I s_2.Day,.isl false (s_2.Facts.map str),.isl false (s_2.Duties.map ae),.isl false (s_2.Balances.map I),B s_2.Over,B false]]⟩] 289 (by kernel_rfl) ?_
  obtain⟨r6,hr6,h⟩:=bS h
  refine oq 305 (I r6) rfl (ce rfl rfl (cS rfl rfl rfl (bA (W6 rfl rfl (kU (path:=[]) rfl rfl bc rfl rfl)) (bA (bV rfl) (bA (bV rfl) dB))) (aax hr6) (.inl rfl) eb rfl rfl rfl)) ?_
  refine cq 4 [8,9] [B (decide (r6≥0)),B true] 353 ?_
  obtain rfl:=sI h
  exact rP [B (decide (r6≥0)),B true]
theorem Rb {G:bR}:bQ G 26 An:=gT 4 0 (aJ RQ (aJ R3 bq)) bX Tryz.func26 (fun a r h=>UE a.1 a.2.1 a.2.2.1 a.2.2.2 r h)
def BR:(Int×Int×Int)→List V:=cA I (cA I (oA I))
def BS (r:Bool):V×List V:=(B r,[])
noncomputable def hI :=aZ [false,false,false] BR BS fun x=>ij x.1 x.2.1 x.2.2
theorem hC {n_1:Int}{nr:Int}{kM:Int}{r}(h:ij n_1 nr kM=some r):hI.F (BR (n_1,nr,kM))=some (BS r):=aH (aK bz (aK bz (aI bz))) h
noncomputable def Pa :=aF Tryz.f99
noncomputable def Jd :=bW []
def O9 (x:Int×Int×Int)(r:Bool):St→Prop:=QF Jd Tryz.f99 [false,false,false] (BR x) (BS r)
theorem TH (n_1:Int)(nr:Int)(kM:Int)(r:Bool)(h:ij n_1 nr kM=some r):bo Jd Tryz.f99 [false,false,false] 0 (BR (n_1,nr,kM)) (BS r):=by
 show Run _ _ (O9 (n_1,nr,kM) r) [.code Pa] _
 refine rI 15 [(0,I n_1),(1,I nr),(2,I kM)] [] 1 ?_
 unfold ij at h
 refine cq 10 [10] [B (decide (n_1≥nr))] 81 ?_
 obtain⟨u4,hu4,h⟩:=lJ h
 have j4:Run Jd 0 (O9 (n_1,nr,kM) r) (.code (cR (cR Pa))::[]) (sT 15 [(6,B u4)] [] 1):=by
  obtain rfl:=sI h
  exact rP [B u4]
 replace h:=hu4
 clear hu4
 refine sp 10 h rfl ?_ ?_<;>intro h
 ·refine cq 6 [6] [B (decide (n_1≤kM))] 161 ?_
  subst h
  exact rf [6] [] (j4 :)
 ·refine cq 6 [6] [B false] 161 ?_
  subst h
  exact rf [6] [] (j4 :)
theorem ip {G:bR}:bQ G 99 hI:=gT 3 0 bq bX Tryz.func99 (fun a r h=>TH a.1 a.2.1 a.2.2 r h)
noncomputable def jG:Ent:=⟨[false,false],ua (oz str) (oz (V.int .u8)) fun s c=>some (I ((Lib.countByte s c.toNat.toUInt8:Nat):Int),[])⟩
theorem G2 {s:aa}{c r:Int}(h:wL s c=some r):jG.F [str s,.int .u8 c]=some (I r,[]):=by
 cases h
 simp only[jG,ua,Ff ba,Ff Tw,Option.bind_some]
theorem G3:Extern.findNext Tryz.f199=none:=by kernel_rfl
theorem G4:Extern.find Tryz.f199=some Extern.BytealgCount.count:=by kernel_rfl
theorem xr {G:bR}:bQ G 199 jG:=MU (g:=fun s c=>((Lib.countByte s c.toNat.toUInt8:Nat):Int)) Tryz.func199 rfl (by decide) G3 G4 fun s c w=>Lib.run_countString s c w
noncomputable def gV:Ent:=⟨[false,false],ua (oz str) (oz (V.int .u8)) fun s c=>some (I (Lib.indexByte s c.toNat.toUInt8),[])⟩
theorem wM {s:aa}{c r:Int}(h:qD s c=some r):gV.F [str s,.int .u8 c]=some (I r,[]):=by
 cases h
 simp only[gV,ua,Ff ba,Ff Tw,Option.bind_some]
theorem wN:Extern.findNext Tryz.f232=none:=by kernel_rfl
theorem wO:Extern.find Tryz.f232=some Extern.BytealgIndexByte.indexByte:=by kernel_rfl
theorem tv {G:bR}:bQ G 232 gV:=MU (g:=fun s c=>Lib.indexByte s c.toNat.toUInt8) Tryz.func232 rfl (by decide) wN wO fun s c w=>Lib.run_indexByteString s c w
def BV:(aa×Int)→List V:=cA str (oA (V.int .u8))
def BW (r:Int):V×List V:=(I r,[])
noncomputable def yZ :=aZ [false,false] BV BW fun x=>Jh x.1 x.2
theorem YR {s_1:aa}{c_2:Int}{r}(h:Jh s_1 c_2=some r):yZ.F (BV (s_1,c_2))=some (BW r):=aH (aK ba (aI (Lu (k:=.u8)))) h
noncomputable def YT :=aF Tryz.f218
noncomputable def Pd :=bW [(232,gV)]
def YS (x:aa×Int)(r:Int):St→Prop:=QF Pd Tryz.f218 [false,false] (BV x) (BW r)
theorem TK (s_1:aa)(c_2:Int)(r:Int)(h:Jh s_1 c_2=some r):bo Pd Tryz.f218 [false,false] 0 (BV (s_1,c_2)) (BW r):=by
 show Run _ _ (YS (s_1,c_2) r) [.code YT] _
 refine rI 8 [(0,str s_1),(1,.int .u8 c_2)] [] 1 ?_
 unfold Jh at h
 refine cq 8 [5,6] [str s_1,.int .u8 c_2] 49 ?_
 obtain⟨r3,hr3,h⟩:=bS h
 refine oq 65 (I r3) rfl (cP (wM hr3)) ?_
 refine cq 2 [4] [I r3] 81 ?_
 obtain rfl:=sI h
 exact rP [I r3]
theorem Pe {G:bR}:bQ G 218 yZ:=gT 2 0 (aJ tv bq) bX Tryz.func218 (fun a r h=>TK a.1 a.2 r h)
def BT:(aa×aa)→List V:=cA str (oA str)
def BU (r:Int):V×List V:=(I r,[])
noncomputable def yY :=aZ [false,false] BT BU fun x=>Je x.1 x.2
theorem YQ {s_1:aa}{aX:aa}{r}(h:Je s_1 aX=some r):yY.F (BT (s_1,aX))=some (BU r):=aH (aK ba (aI ba)) h
noncomputable def Jg :=aF Tryz.f200
noncomputable def Jf :=bW [(218,yZ)]
def Pb (x:aa×aa)(r:Int):St→Prop:=QF Jf Tryz.f200 [false,false] (BT x) (BU r)
theorem TJ (s_1:aa)(aX:aa)(r:Int)(h:Je s_1 aX=some r):bo Jf Tryz.f200 [false,false] 0 (BT (s_1,aX)) (BU r):=by
 show Run _ _ (Pb (s_1,aX) r) [.code Jg] _
 refine rI 143 [(0,str s_1),(1,str aX)] [] 1 ?_
 unfold Je at h
 refine cq 17 [5,19] [I (len aX),B ((len aX)==0)] 113 ?_
 obtain⟨u3,hu3,h⟩:=lJ h
 have j3:Run Jf 0 (Pb (s_1,aX) r) (.code (cR (cL (cL (cR (cR Jg)))))::.blk 0::.code (cR (cR (cR Jg)))::[]) (sT 143 [(0,str s_1),(1,str aX),(5,I (len aX)),(16,B u3)] [] 1):=by
  refine sq h ?_ ?_<;>intro h
  ·refine cq 4 [4] [I (0)] 17 ?_
   obtain rfl:=sI h
   exact rP [I (0)]
  ·refine cq 6 [24] [B ((len aX)==1)] 49 ?_
   refine sq h ?_ ?_<;>intro h
   ·refine cq 4 [27,28] [str s_1,str aX] 81 ?_
    obtain⟨c4,hc4,h⟩:=bS h
    refine oq 97 (.int .u8 (c4.toNat:Int)) rfl (mF rfl rfl (qW rfl rfl hc4)) ?_
    obtain⟨r5,hr5,h⟩:=bS h
    refine oq 113 (I r5) rfl (cP (YR hr5)) ?_
    refine cq 2 [4] [I r5] 129 ?_
    obtain rfl:=sI h
    exact rP [I r5]
   ·refine cq 8 [31] [B (decide ((len aX)≥(len s_1)))] 129 ?_
    refine sq h ?_ ?_<;>intro h
    ·refine cq 4 [4] [I (-1)] 145 ?_
     obtain rfl:=sI h
     exact rP [I (-1)]
    ·cases h
 replace h:=hu3
 clear hu3
 refine sp 19 h rfl ?_ ?_<;>intro h
 ·refine cq 6 [16] [B true] 193 ?_
  subst h
  exact rf [0,1,5,16] [] (j3 :)
 ·refine cq 6 [16] [B (aX==s_1)] 193 ?_
  subst h
  exact rf [0,1,5,16] [] (j3 :)
theorem Pc {G:bR}:bQ G 200 yY:=gT 2 0 (aJ Pe bq) bX Tryz.func200 (fun a r h=>TJ a.1 a.2 r h)
def EG:(aa×aa)→List V:=cA str (oA str)
def EH (r:Int):V×List V:=(I r,[])
noncomputable def tM :=aZ [false,false] EG EH fun x=>Gm x.1 x.2
theorem Sa {s_1:aa}{aX:aa}{r}(h:Gm s_1 aX=some r):tM.F (EG (s_1,aX))=some (EH r):=aH (aK ba (aI ba)) h
noncomputable def aaF :=aF Tryz.f188
noncomputable def R9 :=bW [(200,yY)]
def aaE (x:aa×aa)(r:Int):St→Prop:=QF R9 Tryz.f188 [false,false] (EG x) (EH r)
theorem Vd (s_1:aa)(aX:aa)(r:Int)(h:Gm s_1 aX=some r):bo R9 Tryz.f188 [false,false] 0 (EG (s_1,aX)) (EH r):=by
 show Run _ _ (aaE (s_1,aX) r) [.code aaF] _
 refine rI 8 [(0,str s_1),(1,str aX)] [] 1 ?_
 unfold Gm at h
 refine cq 8 [5,6] [str s_1,str aX] 49 ?_
 obtain⟨r3,hr3,h⟩:=bS h
 refine oq 65 (I r3) rfl (cP (YQ hr3)) ?_
 refine cq 2 [4] [I r3] 81 ?_
 obtain rfl:=sI h
 exact rP [I r3]
theorem Hd {G:bR}:bQ G 188 tM:=gT 2 0 (aJ Pc bq) bX Tryz.func188 (fun a r h=>Vd a.1 a.2 r h)
def EE:(aa×aa)→List V:=cA str (oA str)
def EF (r:Int):V×List V:=(I r,[])
noncomputable def A3 :=aZ [false,false] EE EF fun x=>JX x.1 x.2
theorem aaD {s_1:aa}{aX:aa}{r}(h:JX s_1 aX=some r):A3.F (EE (s_1,aX))=some (EF r):=aH (aK ba (aI ba)) h
noncomputable def R7 :=aF Tryz.f187
noncomputable def JY :=bW [(199,jG),(188,tM)]
def R6 (x:aa×aa)(r:Int):St→Prop:=QF JY Tryz.f187 [false,false] (EE x) (EF r)
theorem Me (s_1:aa)(aX:aa):cX JY 0 (R6 (s_1,aX)) (cL (cL (cR (cR (cR (cR R7)))))) 0 (MG s_1 aX) (fun u=>(sT 34 [] [] 1)) fun x5=>(sT 34 [(0,str x5.1),(1,str aX),(5,I x5.2)] [] 1):=eI (Md s_1 aX) fun {Q K} hK self ih x5 y h hr hn=>by
 unfold qL at h
 refine cq 5 [20,21] [str x5.1,str aX] 33 ?_
 obtain⟨r6,hr6,h⟩:=bS h
 refine oq 49 (I r6) rfl (cP (Sa hr6)) ?_
 refine cq 8 [6,24] [I r6,B (r6==(-1))] 97 ?_
 refine sq h ?_ ?_<;>intro h
 ·refine cq 5 [4] [I x5.2] 129 ?_
  exact ca rfl (hr _ (ai h) _ (qp [I x5.2]))
 ·refine aq 1 ?_
  refine cq 12 [5,28,32] [I (az (x5.2+1)),str x5.1,I (az (r6+(len aX)))] 225 ?_
  obtain⟨s7,hs7,h⟩:=bS h
  refine oq 241 (str s7) rfl (im rfl rfl rfl rfl (Lj rfl rfl rfl hs7)) ?_
  refine cq 3 [0] [str s7] 257 ?_
  refine dQ ?_
  exact rf [0,1,5] [] (ih _ _ h hr hn :)
theorem Vc (s_1:aa)(aX:aa)(r:Int)(h:JX s_1 aX=some r):bo JY Tryz.f187 [false,false] 0 (EE (s_1,aX)) (EF r):=by
 show Run _ _ (R6 (s_1,aX) r) [.code R7] _
 refine rI 34 [(0,str s_1),(1,str aX)] [] 1 ?_
 unfold JX at h
 refine cq 11 [9] [B ((len aX)==0)] 65 ?_
 refine sq h ?_ ?_<;>intro h
 ·cases h
 ·refine aq 1 ?_
  refine cq 7 [15] [B ((len aX)==1)] 113 ?_
  refine sq h ?_ ?_<;>intro h
  ·refine cq 4 [16,17] [str s_1,str aX] 145 ?_
   obtain⟨c3,hc3,h⟩:=bS h
   refine oq 161 (.int .u8 (c3.toNat:Int)) rfl (mF rfl rfl (qW rfl rfl hc3)) ?_
   obtain⟨r4,hr4,h⟩:=bS h
   refine oq 177 (I r4) rfl (cP (G2 hr4)) ?_
   refine cq 2 [4] [I r4] 193 ?_
   obtain rfl:=sI h
   exact rP [I r4]
  ·refine aq 1 ?_
   refine cq 5 [5] [I (0)] 129 ?_
   obtain⟨y8,hy8,hy81,hy82⟩:=bJ h
   refine cj rfl ?_
   refine rf [0,1,5] [] (Me s_1 aX rfl (s_1,0) _ hy8 (fun r' e st hq=>by rw[hy81 r' e] at hq;exact hq) fun u8 hu=>?_)
   replace h:=hy82 u8 hu
   cases h
theorem R8 {G:bR}:bQ G 187 A3:=gT 2 0 (aJ xr (aJ Hd bq)) bX Tryz.func187 (fun a r h=>Vc a.1 a.2 r h)
def EK:(aa×aa×Int×Int)→List V:=cA str (cA str (cA I (oA I)))
def EM (r:(List aa)):V×List V:=(.usl 1 (r.map str),[])
noncomputable def A6 :=aZ [false,false,false,false] EK EM fun x=>JZ x.1 x.2.1 x.2.2.1 x.2.2.2
theorem aaJ {s_1:aa}{dG:aa}{di:Int}{n_4:Int}{r}(h:JZ s_1 dG di n_4=some r):A6.F (EK (s_1,dG,di,n_4))=some (EM r):=aH (aK ba (aK ba (aK bz (aI bz)))) h
noncomputable def J0 :=aF Tryz.f166
noncomputable abbrev Xm :=cL (cL (cL (cR (cR (cR (cR (cR (cR (cR (cR J0))))))))))
noncomputable def EL :=bW [(188,tM),(187,A3)]
def vU (x:aa×aa×Int×Int)(r:(List aa)):St→Prop:=QF EL Tryz.f166 [false,false,false,false] (EK x) (EM r)
theorem Mf (s_1:aa)(dG:aa)(di:Int)(n_4:Int)(u5:Int):cX EL 0 (vU (s_1,dG,di,n_4)) Xm 0 (wV s_1 dG di n_4 u5) (fun u=>(sT 66 [(0,str u.1),(9,.hs 1 0 [] 1 0 (u.2.2.map str).length),(10,I u.2.1)] [⟨0,1,u.2.2.map str⟩] 2)) fun x7=>(sT 66 [(0,str x7.1),(1,str dG),(2,I di),(3,I (az ((if (az ((len s_1)+1))<u5 then (az ((len s_1)+1)) else u5) - 1))),(9,.hs 1 0 [] 1 0 (x7.2.2.map str).length),(10,I x7.2.1)] [⟨0,1,x7.2.2.map str⟩] 2):=eI (ym s_1 dG di n_4 u5) fun {Q K} hK self ih x7 y h hr hn=>by
 unfold qM at h
 refine cq 7 [36] [B (decide (x7.2.1<(az ((if (az ((len s_1)+1))<u5 then (az ((len s_1)+1)) else u5) - 1))))] 50 ?_
 refine sq h ?_ ?_<;>intro h
 ·refine aq 1 ?_
  refine cq 5 [37,38] [str x7.1,str dG] 82 ?_
  obtain⟨r8,hr8,h⟩:=bS h
  refine oq 98 (I r8) rfl (cP (Sa hr8)) ?_
  refine cq 8 [11,41] [I r8,B (decide (r8<0))] 146 ?_
  refine sq h ?_ ?_<;>intro h
  ·refine aq 1 ?_
   exact rf [0,9,10] [1] (hn _ (ai h) :) (hk:=hK)
  ·refine aq 1 ?_
   refine cq 8 [42,43,44,47] [.hs 1 0 [] 1 0 (x7.2.2.map str).length,I x7.2.1,str x7.1,I (az (r8+di))] 242 ?_
   obtain⟨s9,hs9,h⟩:=bS h
   refine oq 258 (str s9) rfl (im rfl rfl rfl rfl (Lj rfl rfl rfl hs9)) ?_
   obtain⟨e10,he10,h⟩:=bS h
   refine oq 274 (.hp 1 0 [] 1 (0+Int.toNat x7.2.1) 0) rfl (au rfl rfl rfl (i9 (f:=str) (xs:=x7.2.2) rfl rfl rfl he10)) ?_
   refine o0 290 rfl rfl (gy rfl rfl (fu (path:=[]) (pl:=true) (e':=str s9) (es2':=(fO x7.2.2 x7.2.1 s9).map str) rfl (fU rfl) rfl rfl rfl bc (gY (f:=str) (xs:=x7.2.2) he10) rfl rfl rfl (mM (f:=str) (xs:=x7.2.2) (y:=s9)) d9 0 rfl)) ?_
   try rw[←kO (f:=str) (xs:=x7.2.2) (i:=x7.2.1) (z:=s9)]
   refine cq 8 [50,54] [str x7.1,I (az (r8+(len dG)))] 370 ?_
   obtain⟨s11,hs11,h⟩:=bS h
   refine oq 386 (str s11) rfl (im rfl rfl rfl rfl (Lj rfl rfl rfl hs11)) ?_
   refine cq 8 [0,10] [str s11,I (az (x7.2.1+1))] 450 ?_
   refine dQ ?_
   exact rf [0,1,2,3,9,10] [1] (ih _ _ h hr hn :)
 ·refine aq 1 ?_
  exact rf [0,9,10] [1] (hn _ (ai h) :) (hk:=hK)
theorem Vf (s_1:aa)(dG:aa)(di:Int)(n_4:Int)(r:(List aa))(h:JZ s_1 dG di n_4=some r):bo EL Tryz.f166 [false,false,false,false] 0 (EK (s_1,dG,di,n_4)) (EM r):=by
 show Run _ _ (vU (s_1,dG,di,n_4) r) [.code J0] _
 refine rI 66 [(0,str s_1),(1,str dG),(2,I di),(3,I n_4)] [] 1 ?_
 unfold JZ at h
 refine cq 10 [13] [B (n_4==0)] 49 ?_
 refine sq h ?_ ?_<;>intro h
 ·refine cq 4 [8] [.isl true []] 65 ?_
  refine xn 8 0 1 81 (.hs 65 0 [] 1 0 0) rfl rfl rfl rfl rfl ?_
  obtain rfl:=sI h
  exact ca rfl ⟨_,fin (vs:=[.hs 65 0 [] 1 0 0]) rfl (fq (eR rfl (cQ (k:=0) (es:=[]) rfl rfl)) eA) rfl (eS (eS (eS (eS fy)))),ft⟩
 ·refine aq 1 ?_
  refine cq 6 [15] [B (dG==([]:aa))] 81 ?_
  refine sq h ?_ ?_<;>intro h
  ·cases h
  ·refine aq 1 ?_
   refine cq 6 [20] [B (decide (n_4<0))] 113 ?_
   obtain⟨y5,hy5,hy51,hy52⟩:=bJ h
   have j5:∀u5,y5=.inr u5→Run EL 0 (vU (s_1,dG,di,n_4) r) (.code (cR (cR (cR (cR J0))))::[]) (sT 66 [(0,str s_1),(1,str dG),(2,I di),(3,I u5)] [] 1):=by
    intro u5 hu
    replace h:=hy52 u5 hu
    refine cq 12 [3,30] [I (if (az ((len s_1)+1))<u5 then (az ((len s_1)+1)) else u5),I (if (az ((len s_1)+1))<u5 then (az ((len s_1)+1)) else u5)] 113 ?_
    obtain⟨m6,hm6,h⟩:=bS h
    refine oq 129 (.hs 113 0 [] 1 0 (m6.map str).length) rfl (jV rfl rfl (Fr (f:=str) rfl rfl rfl (by decide) hm6 rfl)) ?_
    refine cq 14 [3,9,10] [I (az ((if (az ((len s_1)+1))<u5 then (az ((len s_1)+1)) else u5) - 1)),.hs 113 0 [] 1 0 (m6.map str).length,I (0)] 209 ?_
    obtain⟨y12,hy12,hy121,hy122⟩:=bJ h
    refine cj rfl ?_
    refine rf [0,1,2,3,9,10] [113] (Mf s_1 dG di n_4 u5 rfl (s_1,0,m6) _ hy12 (fun r' e st hq=>by rw[hy121 r' e] at hq;exact hq) fun u12 hu=>?_)
    replace h:=hy122 u12 hu
    refine cq 5 [58,59,60] [.hs 1 0 [] 1 0 (u12.2.2.map str).length,I u12.2.1,str u12.1] 50 ?_
    obtain⟨e13,he13,h⟩:=bS h
    refine oq 66 (.hp 1 0 [] 1 (0+Int.toNat u12.2.1) 0) rfl (au rfl rfl rfl (i9 (f:=str) (xs:=u12.2.2) rfl rfl rfl he13)) ?_
    refine o0 82 rfl rfl (gy rfl rfl (fu (path:=[]) (pl:=true) (e':=str u12.1) (es2':=(fO u12.2.2 u12.2.1 u12.1).map str) rfl (fU rfl) rfl rfl rfl bc (gY (f:=str) (xs:=u12.2.2) he13) rfl rfl rfl (mM (f:=str) (xs:=u12.2.2) (y:=u12.1)) d9 0 rfl)) ?_
    try rw[←kO (f:=str) (xs:=u12.2.2) (i:=u12.2.1) (z:=u12.1)]
    refine cq 6 [62,64] [.hs 1 0 [] 1 0 ((fO u12.2.2 u12.2.1 u12.1).map str).length,I (az (u12.2.1+1))] 130 ?_
    obtain⟨s14,hs14,h⟩:=bS h
    refine oq 146 (.hs 1 0 [] 1 (0+Int.toNat (0)) (Int.toNat (az (u12.2.1+1)) - Int.toNat (0))) rfl (im rfl rfl rfl rfl (tq (f:=str) (xs:=(fO u12.2.2 u12.2.1 u12.1)) rfl rfl rfl rfl rfl hs14)) ?_
    refine cq 2 [8] [.hs 1 0 [] 1 (0+Int.toNat (0)) (Int.toNat (az (u12.2.1+1)) - Int.toNat (0))] 162 ?_
    obtain⟨p15,hp15,h⟩:=bS h
    obtain rfl:=sI h
    exact ca rfl ⟨_,fin (vs:=[.hs 1 0 [] 1 (0+Int.toNat (0)) (Int.toNat (az (u12.2.1+1)) - Int.toNat (0))]) rfl (fq (eR rfl (Sm (path:=[]) (f:=str) (xs:=(fO u12.2.2 u12.2.1 u12.1)) rfl rfl bc hp15 rfl qC)) eA) rfl (eS (eS (eS (eS fy)))),ft⟩
   have r5:∀r',y5=.inl r'→∀st,vU (s_1,dG,di,n_4) r' st→(vU (s_1,dG,di,n_4) r) st:=fun r' e st hq=>by rw[hy51 r' e] at hq;exact hq
   replace h:=hy5
   refine sq h ?_ ?_<;>intro h
   ·refine cq 3 [21,22] [str s_1,str dG] 145 ?_
    obtain⟨r16,hr16,h⟩:=bS h
    refine oq 161 (I r16) rfl (cP (aaD hr16)) ?_
    refine cq 3 [3] [I (az (r16+1))] 193 ?_
    exact rf [0,1,2,3] [] (j5 _ (ai h) :)
   ·refine aq 1 ?_
    exact rf [0,1,2,3] [] (j5 _ (ai h) :)
theorem Sd {G:bR}:bQ G 166 A6:=gT 4 0 (aJ Hd (aJ R8 bq)) bX Tryz.func166 (fun a r h=>Vf a.1 a.2.1 a.2.2.1 a.2.2.2 r h)
def EI:(aa×aa)→List V:=cA str (oA str)
def EJ (r:(List aa)):V×List V:=(.usl 1 (r.map str),[])
noncomputable def A5 :=aZ [false,false] EI EJ fun x=>A4 x.1 x.2
theorem aaG {s_1:aa}{dG:aa}{r}(h:A4 s_1 dG=some r):A5.F (EI (s_1,dG))=some (EJ r):=aH (aK ba (aI ba)) h
noncomputable def aaI :=aF Tryz.f130
noncomputable def Sb :=bW [(166,A6)]
def aaH (x:aa×aa)(r:(List aa)):St→Prop:=QF Sb Tryz.f130 [false,false] (EI x) (EJ r)
theorem Ve (s_1:aa)(dG:aa)(r:(List aa))(h:A4 s_1 dG=some r):bo Sb Tryz.f130 [false,false] 0 (EI (s_1,dG)) (EJ r):=by
 show Run _ _ (aaH (s_1,dG) r) [.code aaI] _
 refine rI 8 [(0,str s_1),(1,str dG)] [] 1 ?_
 unfold A4 at h
 refine cq 8 [5,6] [str s_1,str dG] 49 ?_
 obtain⟨r3,hr3,h⟩:=bS h
 refine oq 65 (.hs 49 0 [] 1 0 (r3.map str).length) rfl (cP (aaJ hr3)) ?_
 refine cq 2 [4] [.hs 49 0 [] 1 0 (r3.map str).length] 81 ?_
 obtain rfl:=sI h
 exact ca rfl ⟨_,fin (vs:=[.hs 49 0 [] 1 0 (r3.map str).length]) rfl (fq (eR rfl (cQ rfl rfl)) eA) rfl (eS (eS fy)),ft⟩
theorem Sc {G:bR}:bQ G 130 A5:=gT 2 0 (aJ Sd bq) bX Tryz.func130 (fun a r h=>Ve a.1 a.2 r h)
def Dv:((List aa)×aa)→List V:=cA (fa str) (oA str)
def Dw (r:Int):V×List V:=(I r,[])
noncomputable def Al :=aZ [false,false] Dv Dw fun x=>vu x.1 x.2
theorem aab {s_1:List aa}{v_2:aa}{r}(h:vu s_1 v_2=some r):Al.F (Dv (s_1,v_2))=some (Dw r):=aH (aK (bv ba) (aI ba)) h
noncomputable def Q7 :=aF Tryz.f165
noncomputable def JG :=bW []
def Q6 (x:(List aa)×aa)(r:Int):St→Prop:=QF JG Tryz.f165 [false,false] (Dv x) (Dw r)
theorem LT (s_1:List aa)(v_2:aa):cX JG 0 (Q6 (s_1,v_2)) (cL (cL (cR (cL (cR Q7))))) 0 (nS s_1 v_2) (fun u=>(sT 19 [] [] 1)) fun x3=>(sT 19 [(0,.isl false (s_1.map str)),(1,str v_2),(7,I (len s_1)),(8,I x3)] [] 1):=eI (xQ s_1 v_2) fun {Q K} hK self ih x3 y h hr hn=>by
 unfold ji at h
 refine cq 5 [9] [B (decide (x3<(len s_1)))] 17 ?_
 refine sq h ?_ ?_<;>intro h
 ·refine aq 1 ?_
  refine cq 12 [5,11,12,13] [I x3,str v_2,.isl false (s_1.map str),I x3] 97 ?_
  obtain⟨e4,he4,h⟩:=bS h
  refine oq 113 (.iptr (str e4) 0) rfl (au rfl rfl rfl (aV rfl rfl rfl rfl he4)) ?_
  refine cq 3 [16] [B (v_2==e4)] 145 ?_
  refine sq h ?_ ?_<;>intro h
  ·refine cq 5 [4] [I x3] 177 ?_
   exact ca rfl (hr _ (ai h) _ (qp [I x3]))
  ·refine aq 1 ?_
   refine cq 5 [8] [I (az (x3+1))] 177 ?_
   refine dQ ?_
   exact rf [0,1,7,8] [] (ih _ _ h hr hn :)
 ·refine aq 1 ?_
  exact rf [] [] (hn _ (ai h) :) (hk:=hK)
theorem UD (s_1:List aa)(v_2:aa)(r:Int)(h:vu s_1 v_2=some r):bo JG Tryz.f165 [false,false] 0 (Dv (s_1,v_2)) (Dw r):=by
 show Run _ _ (Q6 (s_1,v_2) r) [.code Q7] _
 refine rI 19 [(0,.isl false (s_1.map str)),(1,str v_2)] [] 1 ?_
 unfold vu at h
 refine cq 8 [6] [.isl false (s_1.map str)] 33 ?_
 refine oq 49 (I (len s_1)) rfl (br rfl rfl rfl (bC rfl)) ?_
 refine cq 3 [8] [I (0)] 65 ?_
 obtain⟨y5,hy5,hy51,hy52⟩:=bJ h
 refine cj rfl ?_
 refine rf [0,1,7,8] [] (LT s_1 v_2 rfl 0 _ hy5 (fun r' e st hq=>by rw[hy51 r' e] at hq;exact hq) fun u5 hu=>?_)
 replace h:=hy52 u5 hu
 refine cq 4 [4] [I (-1)] 17 ?_
 obtain rfl:=sI h
 exact rP [I (-1)]
theorem Q8 {G:bR}:bQ G 165 Al:=gT 2 0 bq bX Tryz.func165 (fun a r h=>UD a.1 a.2 r h)
def Dc:((List aa)×aa)→List V:=cA (fa str) (oA str)
def De (r:Bool):V×List V:=(B r,[])
noncomputable def nP :=aZ [false,false] Dc De fun x=>mR x.1 x.2
theorem Dd {s_1:List aa}{v_2:aa}{r}(h:mR s_1 v_2=some r):nP.F (Dc (s_1,v_2))=some (De r):=aH (aK (bv ba) (aI ba)) h
noncomputable def Z4 :=aF Tryz.f129
noncomputable def QM :=bW [(165,Al)]
def Z3 (x:(List aa)×aa)(r:Bool):St→Prop:=QF QM Tryz.f129 [false,false] (Dc x) (De r)
theorem Uw (s_1:List aa)(v_2:aa)(r:Bool)(h:mR s_1 v_2=some r):bo QM Tryz.f129 [false,false] 0 (Dc (s_1,v_2)) (De r):=by
 show Run _ _ (Z3 (s_1,v_2) r) [.code Z4] _
 refine rI 9 [(0,.isl false (s_1.map str)),(1,str v_2)] [] 1 ?_
 unfold mR at h
 refine cq 8 [5,6] [.isl false (s_1.map str),str v_2] 49 ?_
 obtain⟨r3,hr3,h⟩:=bS h
 refine oq 65 (I r3) rfl (cP (aab hr3)) ?_
 refine cq 3 [4] [B (decide (r3≥0))] 97 ?_
 obtain rfl:=sI h
 exact rP [B (decide (r3≥0))]
theorem qJ {G:bR}:bQ G 129 nP:=gT 2 0 (aJ Q8 bq) bX Tryz.func129 (fun a r h=>Uw a.1 a.2 r h)
def H7:aa→List V:=oA str
def H8 (r:Bool):V×List V:=(B r,[])
noncomputable def nQ :=aZ [false] H7 H8 fun x=>se x
theorem wP {s_1:aa}{r}(h:se s_1=some r):nQ.F (H7 s_1)=some (H8 r):=aH (aI ba) h
noncomputable def wQ :=aF Tryz.f81
noncomputable abbrev qb :=cL (cL (cR (cL (cR (cR wQ)))))
noncomputable abbrev Dj :=cR (cR (cR qb))
noncomputable abbrev Dk :=cR (cR (cR (cL (cL (cR (cR qb))))))
noncomputable def pr :=bW [(99,hI),(130,A5),(129,nP)]
def qK (x:aa)(r:Bool):St→Prop:=QF pr Tryz.f81 [false] (H7 x) (H8 r)
theorem NA (s_1:aa):cX pr 0 (qK s_1) qb 0 (vt s_1) (fun u=>(sT 46 [(0,str s_1)] [] 1)) fun x4=>(sT 46 [(0,str s_1),(20,I (len s_1)),(21,I x4)] [] 1):=eI (Dl s_1) fun {Q K} hK self ih x4 y h hr hn=>by
 unfold nR at h
 refine cq 5 [22] [B (decide (x4<(len s_1)))] 17 ?_
 refine sq h ?_ ?_<;>intro h
 ·refine aq 1 ?_
  refine cq 11 [24,25] [str s_1,I x4] 81 ?_
  obtain⟨c5,hc5,h⟩:=bS h
  refine oq 97 (.int .u8 (c5.toNat:Int)) rfl (mF rfl rfl (qW rfl rfl hc5)) ?_
  refine cq 7 [4,29] [.int .u8 (c5.toNat:Int),B (decide ((c5.toNat:Int)<97))] 161 ?_
  obtain⟨u6,hu6,h⟩:=lJ h
  have j6:Run pr 0 Q (.code Dk::.blk 1::.code Dj::.lp qb::.blk 0::K) (sT 46 [(0,str s_1),(20,I (len s_1)),(21,I x4),(40,B u6)] [] 1):=by
   refine sq h ?_ ?_<;>intro h
   ·refine cq 4 [2] [B false] 17 ?_
    exact ca rfl (hr _ (ai h) _ (qp [B false]))
   ·refine aq 1 ?_
    refine cq 5 [21] [I (az (x4+1))] 33 ?_
    refine dQ ?_
    exact rf [0,20,21] [] (ih _ _ h hr hn :)
  replace h:=hu6
  clear hu6
  refine sp 29 h rfl ?_ ?_<;>intro h
  ·refine cq 7 [33,36] [B true,B (decide ((c5.toNat:Int)<48))] 273 ?_
   obtain⟨u7,hu7,h⟩:=lJ h
   have j7:Run pr 0 Q (.code Dk::.blk 1::.code Dj::.lp qb::.blk 0::K) (sT 46 [(0,str s_1),(20,I (len s_1)),(21,I x4),(40,B u7)] [] 1):=by
    subst h
    exact rf [0,20,21,40] [] (j6 :)
   replace h:=hu7
   clear hu7
   refine sp 36 h rfl ?_ ?_<;>intro h
   ·refine cq 5 [40] [B true] 337 ?_
    subst h
    exact rf [0,20,21,40] [] (j7 :)
   ·refine cq 5 [40] [B (decide ((c5.toNat:Int)>57))] 337 ?_
    subst h
    exact rf [0,20,21,40] [] (j7 :)
  ·refine cq 4 [33] [B (decide ((c5.toNat:Int)>122))] 225 ?_
   obtain⟨u8,hu8,h⟩:=lJ h
   have j8:Run pr 0 Q (.code Dk::.blk 1::.code Dj::.lp qb::.blk 0::K) (sT 46 [(0,str s_1),(20,I (len s_1)),(21,I x4),(40,B u8)] [] 1):=by
    subst h
    exact rf [0,20,21,40] [] (j6 :)
   replace h:=hu8
   clear hu8
   refine sp 33 h rfl ?_ ?_<;>intro h
   ·refine cq 3 [36] [B (decide ((c5.toNat:Int)<48))] 273 ?_
    obtain⟨u9,hu9,h⟩:=lJ h
    have j9:Run pr 0 Q (.code Dk::.blk 1::.code Dj::.lp qb::.blk 0::K) (sT 46 [(0,str s_1),(20,I (len s_1)),(21,I x4),(40,B u9)] [] 1):=by
     subst h
     exact rf [0,20,21,40] [] (j8 :)
    replace h:=hu9
    clear hu9
    refine sp 36 h rfl ?_ ?_<;>intro h
    ·refine cq 5 [40] [B true] 337 ?_
     subst h
     exact rf [0,20,21,40] [] (j9 :)
    ·refine cq 5 [40] [B (decide ((c5.toNat:Int)>57))] 337 ?_
     subst h
     exact rf [0,20,21,40] [] (j9 :)
   ·refine cq 8 [40] [B false] 337 ?_
    subst h
    exact rf [0,20,21,40] [] (j8 :)
 ·refine aq 1 ?_
  exact rf [0] [] (hn _ (ai h) :) (hk:=hK)
theorem Xg (s_1:aa)(r:Bool)(h:se s_1=some r):bo pr Tryz.f81 [false] 0 (H7 s_1) (H8 r):=by
 show Run _ _ (qK s_1 r) [.code wQ] _
 refine rI 46 [(0,str s_1)] [] 1 ?_
 unfold se at h
 refine cq 9 [6] [I (len s_1)] 49 ?_
 obtain⟨r2,hr2,h⟩:=bS h
 refine oq 65 (B r2) rfl (cP (hC hr2)) ?_
 refine cq 2 [9] [B (!r2)] 97 ?_
 obtain⟨y3,hy3,hy31,hy32⟩:=bJ h
 have j3:∀u3,y3=.inr u3→Run pr 0 (qK s_1 r) (.code (cR (cL (cR wQ)))::.code (cR (cR wQ))::[]) (sT 46 [(0,str s_1),(18,B u3)] [] 1):=by
  intro u3 hu
  replace h:=hy32 u3 hu
  refine sq h ?_ ?_<;>intro h
  ·refine cq 4 [2] [B false] 17 ?_
   obtain rfl:=sI h
   exact rP [B false]
  ·refine aq 1 ?_
   refine cq 8 [20,21] [I (len s_1),I (0)] 49 ?_
   obtain⟨y10,hy10,hy101,hy102⟩:=bJ h
   refine cj rfl ?_
   refine rf [0,20,21] [] (NA s_1 rfl 0 _ hy10 (fun r' e st hq=>by rw[hy101 r' e] at hq;exact hq) fun u10 hu=>?_)
   replace h:=hy102 u10 hu
   refine aq 2 ?_
   obtain⟨r11,hr11,h⟩:=bS h
   refine oq 17 (.hs 1 0 [] 1 0 (r11.map str).length) rfl (cP (aaG hr11)) ?_
   refine cq 1 [43] [str s_1] 33 ?_
   obtain⟨r12,hr12,h⟩:=bS h
   refine oq 49 (B r12) rfl (ce rfl rfl (cS rfl rfl rfl (bA (W6 rfl rfl (fp (f:=str) (g:=str) (xs:=r11) rfl rfl (cf fk))) (bA (bV rfl) dB)) (Dd hr12) (.inl rfl) eb rfl rfl rfl)) ?_
   refine cq 3 [2] [B (!r12)] 81 ?_
   obtain rfl:=sI h
   exact rP [B (!r12)]
 have r3:∀r',y3=.inl r'→∀st,qK s_1 r' st→(qK s_1 r) st:=fun r' e st hq=>by rw[hy31 r' e] at hq;exact hq
 replace h:=hy3
 refine sp 9 h rfl ?_ ?_<;>intro h
 ·refine cq 10 [18] [B true] 241 ?_
  exact rf [0,18] [] (j3 _ (ai h) :)
 ·refine cq 1 [10] [str s_1] 113 ?_
  obtain⟨c13,hc13,h⟩:=bS h
  refine oy 129 (.int .u8 (c13.toNat:Int)) rfl (mF rfl rfl (qW rfl rfl hc13)) ?_
  refine cq 3 [14] [B (decide ((c13.toNat:Int)<97))] 177 ?_
  obtain⟨y14,hy14,hy141,hy142⟩:=bL h
  have j14:∀u14,y14=.inr u14→Run pr 0 (qK s_1 r) (.code (cR (cL (cR wQ)))::.code (cR (cR wQ))::[]) (sT 46 [(0,str s_1),(18,B u14)] [] 1):=by
   intro u14 hu
   replace h:=hy142 u14 hu
   exact rf [0,18] [] (j3 _ (ai h) :)
  have r14:∀r',y14=.inl r'→∀st,qK s_1 r' st→(qK s_1 r) st:=fun r' e st hq=>r3 r' (hy141 r' e) st hq
  replace h:=hy14
  refine sp 14 h rfl ?_ ?_<;>intro h
  ·refine cq 5 [18] [B true] 241 ?_
   exact rf [0,18] [] (j14 _ (ai h) :)
  ·refine cq 1 [15] [str s_1] 193 ?_
   obtain⟨c15,hc15,h⟩:=bS h
   refine oy 209 (.int .u8 (c15.toNat:Int)) rfl (mF rfl rfl (qW rfl rfl hc15)) ?_
   refine cq 3 [18] [B (decide ((c15.toNat:Int)>122))] 241 ?_
   exact rf [0,18] [] (j14 _ (ai h) :)
theorem qa {G:bR}:bQ G 81 nQ:=gT 1 0 (aJ ip (aJ Sc (aJ qJ bq))) bX Tryz.func81 (fun a r h=>Xg a r h)
def Ie:(List aa)→List V:=oA (fa str)
def Ih (r:Bool):V×List V:=(B r,[])
noncomputable def Gp :=aZ [false] Ie Ih fun x=>J1 x
theorem abr {ar:List aa}{r}(h:J1 ar=some r):Gp.F (Ie ar)=some (Ih r):=aH (aI (bv ba)) h
noncomputable def ER :=aF Tryz.f98
noncomputable def Ig :=bW [(81,nQ),(129,nP),(99,hI)]
def NP (x:(List aa))(r:Bool):St→Prop:=QF Ig Tryz.f98 [false] (Ie x) (Ih r)
theorem NQ (ar:List aa):cX Ig 0 (NP ar) (cL (cL (cR (cL (cR ER))))) 0 (vV ar) (fun u=>(sT 26 [(0,.isl false (ar.map str))] [] 1)) fun x2=>(sT 26 [(0,.isl false (ar.map str)),(5,.isl false (ar.map str)),(6,I (len ar)),(7,I x2)] [] 1):=eI (ES ar) fun {Q K} hK self ih x2 y h hr hn=>by
 unfold lU at h
 refine cq 5 [8] [B (decide (x2<(len ar)))] 17 ?_
 refine sq h ?_ ?_<;>intro h
 ·refine aq 1 ?_
  refine cq 5 [9] [I x2] 33 ?_
  obtain⟨e3,he3,h⟩:=bS h
  refine oq 49 (.iptr (str e3) 0) rfl (au rfl rfl rfl (aV rfl rfl rfl rfl he3)) ?_
  refine cq 7 [3,4,12] [I x2,str e3,str e3] 113 ?_
  obtain⟨r4,hr4,h⟩:=bS h
  refine oq 129 (B r4) rfl (cP (wP hr4)) ?_
  refine cq 2 [15] [B (!r4)] 161 ?_
  obtain⟨y5,hy5,hy51,hy52⟩:=bL h
  have j5:∀u5,y5=.inr u5→Run Ig 0 Q (.code (cR (cR (cL (cL (cR (cR (cL (cL (cR (cL (cR ER)))))))))))::.blk 1::.code (cR (cR (cR (cL (cL (cR (cL (cR ER))))))))::.lp (cL (cL (cR (cL (cR ER)))))::.blk 0::K) (sT 26 [(0,.isl false (ar.map str)),(5,.isl false (ar.map str)),(6,I (len ar)),(7,I x2),(21,B u5)] [] 1):=by
   intro u5 hu
   replace h:=hy52 u5 hu
   refine sq h ?_ ?_<;>intro h
   ·refine cq 4 [2] [B false] 17 ?_
    exact ca rfl (hr _ (ai h) _ (qp [B false]))
   ·refine aq 1 ?_
    refine cq 5 [7] [I (az (x2+1))] 33 ?_
    refine dQ ?_
    exact rf [0,5,6,7] [] (ih _ _ h hr hn :)
  have r5:∀r',y5=.inl r'→∀st,NP ar r' st→Q st:=fun r' e st hq=>hr r' (hy51 r' e) st hq
  replace h:=hy5
  refine sp 15 h rfl ?_ ?_<;>intro h
  ·refine cq 7 [21] [B true] 257 ?_
   exact rf [0,5,6,7,21] [] (j5 _ (ai h) :)
  ·refine cq 2 [16,17] [.isl false (ar.map str),I x2] 193 ?_
   obtain⟨s6,hs6,h⟩:=bS h
   refine oy 209 (.isl false (s6.map str)) rfl (im rfl rfl rfl rfl (Li rfl rfl (fun y=>(js y).1) rfl rfl hs6)) ?_
   refine cq 1 [19] [str e3] 225 ?_
   obtain⟨r7,hr7,h⟩:=bS h
   refine oy 241 (B r7) rfl (cP (Dd hr7)) ?_
   refine cq 2 [21] [B r7] 257 ?_
   exact rf [0,5,6,7,21] [] (j5 _ (ai h) :)
 ·refine aq 1 ?_
  exact rf [0] [] (hn _ (ai h) :) (hk:=hK)
theorem Xp (ar:List aa)(r:Bool)(h:J1 ar=some r):bo Ig Tryz.f98 [false] 0 (Ie ar) (Ih r):=by
 show Run _ _ (NP ar r) [.code ER] _
 refine rI 26 [(0,.isl false (ar.map str))] [] 1 ?_
 unfold J1 at h
 refine cq 8 [5] [.isl false (ar.map str)] 33 ?_
 refine oq 49 (I (len ar)) rfl (br rfl rfl rfl (bC rfl)) ?_
 refine cq 3 [7] [I (0)] 65 ?_
 obtain⟨y8,hy8,hy81,hy82⟩:=bJ h
 refine cj rfl ?_
 refine rf [0,5,6,7] [] (NQ ar rfl 0 _ hy8 (fun r' e st hq=>by rw[hy81 r' e] at hq;exact hq) fun u8 hu=>?_)
 replace h:=hy82 u8 hu
 refine cq 3 [23] [.isl false (ar.map str)] 17 ?_
 refine oq 33 (I (len ar)) rfl (br rfl rfl rfl (bC rfl)) ?_
 obtain⟨r9,hr9,h⟩:=bS h
 refine oq 49 (B r9) rfl (cP (hC hr9)) ?_
 refine cq 2 [2] [B r9] 65 ?_
 obtain rfl:=sI h
 exact rP [B r9]
theorem Vh {G:bR}:bQ G 98 Gp:=gT 1 0 (aJ qa (aJ qJ (aJ ip bq))) bX Tryz.func98 (fun a r h=>Xp a r h)
def Io:(Clause×aa)→List V:=cA aj (oA (fun x:aa=>.iptr (str x) 0))
def Ip (r:Bool):V×List V:=(B r,[])
noncomputable def Gs :=aZ [false,false] Io Ip fun x=>Sg x.1 x.2
theorem abw {x_1:Clause}{a_2:aa}{r}(h:Sg x_1 a_2=some r):Gs.F (Io (x_1,a_2))=some (Ip r):=aH (aK cC (aI (eW ba))) h
noncomputable def aby :=aF Tryz.f175
noncomputable def WH :=bW []
def abx (x:Clause×aa)(r:Bool):St→Prop:=QF WH Tryz.f175 [false,false] (Io x) (Ip r)
theorem Xs (x_1:Clause)(a_2:aa)(r:Bool)(h:Sg x_1 a_2=some r):bo WH Tryz.f175 [false,false] 0 (Io (x_1,a_2)) (Ip r):=by
 show Run _ _ (abx (x_1,a_2) r) [.code aby] _
 refine rI 8 [(0,ao x_1),(1,.iptr (str a_2) 0)] [] 1 ?_
 unfold Sg at h
 refine cq 13 [3] [B (x_1.Id==a_2)] 113 ?_
 obtain rfl:=sI h
 exact rP [B (x_1.Id==a_2)]
theorem Vk {G:bR}:bQ G 175 Gs:=gT 2 0 bq bX Tryz.func175 (fun a r h=>Xs a.1 a.2 r h)
def Df:((List Clause)×aa)→List V:=cA (fa aj) (oA (fun x:aa=>(.fn 175 [.iptr (str x) 0]:V)))
def Dg (r:Int):V×List V:=(I r,[])
noncomputable def Ae :=aZ [false,false] Df Dg fun x=>F8 x.1 x.2
theorem Z5 {s_1:List Clause}{f_2:aa}{r}(h:F8 s_1 f_2=some r):Ae.F (Df (s_1,f_2))=some (Dg r):=aH (aK (bv cC) (aI (tc ba))) h
noncomputable def QO :=aF Tryz.f110
noncomputable def JA :=bW [(175,Gs)]
def QN (x:(List Clause)×aa)(r:Int):St→Prop:=QF JA Tryz.f110 [false,false] (Df x) (Dg r)
theorem LN (s_1:List Clause)(f_2:aa):cX JA 0 (QN (s_1,f_2)) (cL (cL (cR (cL (cR QO))))) 0 (sb s_1 f_2) (fun u=>(sT 19 [] [] 1)) fun x3=>(sT 19 [(0,.isl false (s_1.map aj)),(1,.fn 175 [.iptr (str f_2) 0]),(7,I (len s_1)),(8,I x3)] [] 1):=eI (xK s_1 f_2) fun {Q K} hK self ih x3 y h hr hn=>by
 unfold mh at h
 refine cq 5 [9] [B (decide (x3<(len s_1)))] 17 ?_
 refine sq h ?_ ?_<;>intro h
 ·refine aq 1 ?_
  refine cq 12 [5,11,12,13] [I x3,.fn 175 [.iptr (str f_2) 0],.isl false (s_1.map aj),I x3] 97 ?_
  obtain⟨e4,he4,h⟩:=bS h
  refine oq 113 (.iptr (ao e4) 0) rfl (au rfl rfl rfl (aV rfl rfl rfl rfl he4)) ?_
  refine cq 1 [15] [ao e4] 129 ?_
  obtain⟨r5,hr5,h⟩:=bS h
  refine oq 145 (B r5) rfl (cP (abw hr5)) ?_
  refine aq 1 ?_
  refine sq h ?_ ?_<;>intro h
  ·refine cq 5 [4] [I x3] 177 ?_
   exact ca rfl (hr _ (ai h) _ (qp [I x3]))
  ·refine aq 1 ?_
   refine cq 5 [8] [I (az (x3+1))] 177 ?_
   refine dQ ?_
   exact rf [0,1,7,8] [] (ih _ _ h hr hn :)
 ·refine aq 1 ?_
  exact rf [] [] (hn _ (ai h) :) (hk:=hK)
theorem Ux (s_1:List Clause)(f_2:aa)(r:Int)(h:F8 s_1 f_2=some r):bo JA Tryz.f110 [false,false] 0 (Df (s_1,f_2)) (Dg r):=by
 show Run _ _ (QN (s_1,f_2) r) [.code QO] _
 refine rI 19 [(0,.isl false (s_1.map aj)),(1,.fn 175 [.iptr (str f_2) 0])] [] 1 ?_
 unfold F8 at h
 refine cq 8 [6] [.isl false (s_1.map aj)] 33 ?_
 refine oq 49 (I (len s_1)) rfl (br rfl rfl rfl (bC rfl)) ?_
 refine cq 3 [8] [I (0)] 65 ?_
 obtain⟨y6,hy6,hy61,hy62⟩:=bJ h
 refine cj rfl ?_
 refine rf [0,1,7,8] [] (LN s_1 f_2 rfl 0 _ hy6 (fun r' e st hq=>by rw[hy61 r' e] at hq;exact hq) fun u6 hu=>?_)
 replace h:=hy62 u6 hu
 refine cq 4 [4] [I (-1)] 17 ?_
 obtain rfl:=sI h
 exact rP [I (-1)]
theorem QP {G:bR}:bQ G 110 Ae:=gT 2 0 (aJ Vk bq) bX Tryz.func110 (fun a r h=>Ux a.1 a.2 r h)
def Il:(Contract×aa)→List V:=cA aO (oA str)
def Im (r:Int):V×List V:=(I r,[])
noncomputable def Gr :=aZ [false,false] Il Im fun x=>EU x.1 x.2
theorem WG {c_1:Contract}{eH:aa}{r}(h:EU c_1 eH=some r):Gr.F (Il (c_1,eH))=some (Im r):=aH (aK bb (aI ba)) h
noncomputable def abv :=aF Tryz.f140
noncomputable def WF :=bW [(110,Ae)]
def abu (x:Contract×aa)(r:Int):St→Prop:=QF WF Tryz.f140 [false,false] (Il x) (Im r)
theorem Xr (c_1:Contract)(eH:aa)(r:Int)(h:EU c_1 eH=some r):bo WF Tryz.f140 [false,false] 0 (Il (c_1,eH)) (Im r):=by
 show Run _ _ (abu (c_1,eH) r) [.code abv] _
 refine rI 9 [(0,ac c_1),(1,str eH)] [] 1 ?_
 unfold EU at h
 refine ck 11 [6,7] [] [17] [] [.isl false (c_1.Clauses.map aj),.fn 175 [.hp 17 0 [] 1 0 0]] [some ⟨0,1,[str eH]⟩] 97 (by kernel_rfl) ?_
 obtain⟨r3,hr3,h⟩:=bS h
 refine oq 113 (I r3) rfl (ce rfl rfl (cS rfl rfl rfl (bA (bV rfl) (bA (HL (d7 (kU (path:=[]) rfl rfl bc rfl rfl) lw)) dB)) (Z5 hr3) (.inl rfl) eb rfl rfl rfl)) ?_
 refine cq 2 [4] [I r3] 129 ?_
 obtain rfl:=sI h
 exact rP [I r3]
theorem Vj {G:bR}:bQ G 140 Gr:=gT 2 0 (aJ QP bq) bX Tryz.func140 (fun a r h=>Xr a.1 a.2 r h)
def IA:Int→List V:=oA I
def IB (r:Bool):V×List V:=(B r,[])
noncomputable def sQ :=aZ [false] IA IB fun x=>nF x
theorem tQ {gv:Int}{r}(h:nF gv=some r):sQ.F (IA gv)=some (IB r):=aH (aI bz) h
noncomputable def abF :=aF Tryz.f78
noncomputable def WM :=bW [(99,hI)]
def abE (x:Int)(r:Bool):St→Prop:=QF WM Tryz.f78 [false] (IA x) (IB r)
theorem XA (gv:Int)(r:Bool)(h:nF gv=some r):bo WM Tryz.f78 [false] 0 (IA gv) (IB r):=by
 show Run _ _ (abE gv r) [.code abF] _
 refine rI 5 [(0,I gv)] [] 1 ?_
 unfold nF at h
 refine cq 7 [3] [I gv] 33 ?_
 obtain⟨r2,hr2,h⟩:=bS h
 refine oq 49 (B r2) rfl (cP (hC hr2)) ?_
 refine cq 2 [2] [B r2] 65 ?_
 obtain rfl:=sI h
 exact rP [B r2]
theorem Bb {G:bR}:bQ G 78 sQ:=gT 1 0 (aJ ip bq) bX Tryz.func78 (fun a r h=>XA a r h)
def EV:(Condition×Int)→List V:=cA bg (oA I)
def EW (r:Int):V×List V:=(I r,[])
noncomputable def A8 (aW:(Condition×Int)→Option Int):Ent:=aZ [false,false] EV EW aW
theorem Si (aW:(Condition×Int)→Option Int){x}{r}(h:aW x=some r):(A8 aW).F (EV x)=some (EW r):=aH (aK cH (aI bz)) h
noncomputable def Gt :=A8 (aN lI)
theorem abz {c_1:Condition}{cD:Int}{r}(h:Sh c_1 cD=some r):Gt.F (EV (c_1,cD))=some (EW r):=Si (aN lI) h
noncomputable def tN :=aF Tryz.f176
noncomputable abbrev oQ :=cR (cR (cR (cR (cR tN))))
noncomputable abbrev qi :=cR (cL (cR (cR (cR (cR tN)))))
noncomputable def lH (aW:(Condition×Int)→Option Int):Env:=bW [(176,(A8 aW)),(81,nQ),(78,sQ),(99,hI)]
def eQ (aW:(Condition×Int)→Option Int)(x:Condition×Int)(r:Int):St→Prop:=QF (lH aW) Tryz.f176 [false,false] (EV x) (EW r)
theorem NR (aW:(Condition×Int)→Option Int)(c_1:Condition)(cD:Int):cX (lH aW) 0 (eQ aW (c_1,cD)) (cL (cL (cR (cL oQ)))) 0 (lC aW c_1 cD) (fun u=>(sT 78 [(1,I u)] [] 1)) fun x5=>(sT 78 [(1,I x5.1),(65,.isl false (c_1.Parts.map ay)),(66,I (len c_1.Parts)),(67,I x5.2)] [] 1):=eI (EX aW c_1 cD) fun {Q K} hK self ih x5 y h hr hn=>by
 unfold kG at h
 refine cq 5 [68] [B (decide (x5.2<(len c_1.Parts)))] 17 ?_
 refine sq h ?_ ?_<;>intro h
 ·refine aq 1 ?_
  refine aq 4 ?_
  obtain⟨e6,he6,h⟩:=bS h
  refine oq 33 (.iptr (ah e6) 0) rfl (au rfl rfl rfl (aV rfl rfl (bB e6) rfl he6)) ?_
  refine ck 2 [7,70] [] [49] [] [.hp 49 0 [] 4 0 0,ah e6] [some ⟨0,4,[.agg [I (0),str ([]),I (0),.isl true []]]⟩] 65 (by kernel_rfl) ?_
  refine eM 49 [.agg [I (0),str ([]),I (0),.usl 4 (([]).map aC)]] rfl rfl (aD (fF (aD (.refl _) (aD (.refl _) (aD (.refl _) (aD (.nil _) dU))))) dU) ?_
  refine ck 6 [71,72] [] [49] [] [ah e6,I x5.1] [some ⟨2,4,[ah e6]⟩] 113 (by kernel_rfl) ?_
  obtain⟨r7,hr7,h⟩:=bS h
  refine oq 129 (I r7) rfl (ce rfl rfl (cS rfl rfl rfl (bA (bV rfl) (bA (bV rfl) dB)) (Si aW hr7) (.inr rfl) eb rfl rfl rfl)) ?_
  refine cq 7 [1,75] [I r7,B (decide (r7<0))] 177 ?_
  refine sq h ?_ ?_<;>intro h
  ·refine cq 4 [4] [I (-1)] 193 ?_
   exact ca rfl (hr _ (ai h) _ (qp [I (-1)]))
  ·refine aq 1 ?_
   refine cq 5 [67] [I (az (x5.2+1))] 209 ?_
   refine dQ ?_
   exact rf [1,65,66,67] [] (ih _ _ h hr hn :)
 ·refine aq 1 ?_
  exact rf [1] [] (hn _ (ai h) :) (hk:=hK)
theorem Xu (aW:(Condition×Int)→Option Int)(c_1:Condition)(cD:Int)(r:Int)(h:wX aW c_1 cD=some r):bo (lH aW) Tryz.f176 [false,false] 0 (EV (c_1,cD)) (EW r):=by
 show Run _ _ (eQ aW (c_1,cD) r) [.code tN] _
 refine rI 78 [(0,ah c_1),(1,I cD)] [] 1 ?_
 unfold wX at h
 refine ck 13 [1,2] [] [1] [] [I (az (cD+1)),.hp 1 0 [] 4 0 0] [some ⟨0,4,[ah c_1]⟩] 81 (by kernel_rfl) ?_
 refine oq 97 (.hs 81 0 [] 1 0 7) rfl (fx rfl (ow (f:=I) (xs:=[]) (z:=I (0)) (es:=[I (-1),I (0),I (0),I (0),I (1),I (2),I (2)]) (ws:=[I (-1),I (0),I (0),I (0),I (1),I (2),I (2)]) rfl rfl rfl (by decide) rfl (eq rfl) rfl)) ?_
 refine cq 4 [5] [.hs 81 0 [] 1 0 7] 113 ?_
 refine eB [0,1,3,7,15,31,63,127,255,511,1023,2047,511,511,8703,29183,61951,131071,262143] rfl (by decide +kernel) ?_
 refine dk 3 [13,12,11] [B (decide ((az (cD+1))>15)),B (decide ((az (cD+1))>15)),I (az (cD+1))] ?_
 obtain⟨y3,hy3,hy31,hy32⟩:=bJ h
 have j3:∀u3,y3=.inr u3→Run (lH aW) 0 (eQ aW (c_1,cD) r) (.code (cR (cL (cR (cR (cR tN)))))::.code (cR (cR (cR (cR tN))))::[]) (sT 78 [(1,I (az (cD+1))),(2,.hp 1 0 [] 4 0 0),(29,B u3)] [⟨0,4,[ah c_1]⟩] 2):=by
  intro u3 hu
  replace h:=hy32 u3 hu
  refine sq h ?_ ?_<;>intro h
  ·refine cq 4 [4] [I (-1)] 18 ?_
   obtain rfl:=sI h
   exact rP [I (-1)]
  ·refine aq 1 ?_
   refine cq 11 [37] [B (!((c_1.Op==2)==(!(c_1.Name==([]:aa)))))] 130 ?_
   obtain⟨y4,hy4,hy41,hy42⟩:=bJ h
   have j4:∀u4,y4=.inr u4→Run (lH aW) 0 (eQ aW (c_1,cD) r) (.code qi::.code oQ::[]) (sT 78 [(1,I (az (cD+1))),(2,.hp 1 0 [] 4 0 0),(63,B u4)] [⟨0,4,[ah c_1]⟩] 2):=by
    intro u4 hu
    replace h:=hy42 u4 hu
    refine sq h ?_ ?_<;>intro h
    ·refine cq 4 [4] [I (-1)] 18 ?_
     obtain rfl:=sI h
     exact rP [I (-1)]
    ·refine aq 1 ?_
     refine cq 5 [65] [.isl false (c_1.Parts.map ay)] 34 ?_
     refine oq 50 (I (len c_1.Parts)) rfl (br rfl rfl rfl (bC rfl)) ?_
     refine cq 3 [67] [I (0)] 66 ?_
     obtain⟨y8,hy8,hy81,hy82⟩:=bJ h
     refine cj rfl ?_
     refine rf [1,65,66,67] [] (NR aW c_1 cD rfl ((az (cD+1)),0) _ hy8 (fun r' e st hq=>by rw[hy81 r' e] at hq;exact hq) fun u8 hu=>?_)
     replace h:=hy82 u8 hu
     refine cq 5 [4] [I u8] 33 ?_
     obtain rfl:=sI h
     exact rP [I u8]
   have r4:∀r',y4=.inl r'→∀st,eQ aW (c_1,cD) r' st→(eQ aW (c_1,cD) r) st:=fun r' e st hq=>by rw[hy41 r' e] at hq;exact hq
   replace h:=hy4
   refine sp 37 h rfl ?_ ?_<;>intro h
   ·refine cq 27 [63] [B true] 546 ?_
    exact rf [1,2,63] [1] (j4 _ (ai h) :)
   ·refine cq 4 [41] [B (c_1.Op==2)] 194 ?_
    obtain⟨y9,hy9,hy91,hy92⟩:=bL h
    have j9:∀u9,y9=.inr u9→Run (lH aW) 0 (eQ aW (c_1,cD) r) (.code qi::.code oQ::[]) (sT 78 [(1,I (az (cD+1))),(2,.hp 1 0 [] 4 0 0),(63,B u9)] [⟨0,4,[ah c_1]⟩] 2):=by
     intro u9 hu
     replace h:=hy92 u9 hu
     exact rf [1,2,63] [1] (j4 _ (ai h) :)
    have r9:∀r',y9=.inl r'→∀st,eQ aW (c_1,cD) r' st→(eQ aW (c_1,cD) r) st:=fun r' e st hq=>r4 r' (hy91 r' e) st hq
    replace h:=hy9
    refine sp 41 h rfl ?_ ?_<;>intro h
    ·refine cq 2 [43] [str c_1.Name] 226 ?_
     obtain⟨r10,hr10,h⟩:=bS h
     refine oy 242 (B r10) rfl (cP (wP hr10)) ?_
     refine cq 4 [48] [B (!r10)] 306 ?_
     obtain⟨y11,hy11,hy111,hy112⟩:=bL h
     have j11:∀u11,y11=.inr u11→Run (lH aW) 0 (eQ aW (c_1,cD) r) (.code qi::.code oQ::[]) (sT 78 [(1,I (az (cD+1))),(2,.hp 1 0 [] 4 0 0),(63,B u11)] [⟨0,4,[ah c_1]⟩] 2):=by
      intro u11 hu
      replace h:=hy112 u11 hu
      exact rf [1,2,63] [1] (j9 _ (ai h) :)
     have r11:∀r',y11=.inl r'→∀st,eQ aW (c_1,cD) r' st→(eQ aW (c_1,cD) r) st:=fun r' e st hq=>r9 r' (hy111 r' e) st hq
     replace h:=hy11
     refine sp 48 h rfl ?_ ?_<;>intro h
     ·refine cq 16 [63] [B true] 546 ?_
      exact rf [1,2,63] [1] (j11 _ (ai h) :)
     ·refine cq 4 [52] [B (c_1.Op != 3)] 370 ?_
      obtain⟨y12,hy12,hy121,hy122⟩:=bL h
      have j12:∀u12,y12=.inr u12→Run (lH aW) 0 (eQ aW (c_1,cD) r) (.code qi::.code oQ::[]) (sT 78 [(1,I (az (cD+1))),(2,.hp 1 0 [] 4 0 0),(63,B u12)] [⟨0,4,[ah c_1]⟩] 2):=by
       intro u12 hu
       replace h:=hy122 u12 hu
       exact rf [1,2,63] [1] (j11 _ (ai h) :)
      have r12:∀r',y12=.inl r'→∀st,eQ aW (c_1,cD) r' st→(eQ aW (c_1,cD) r) st:=fun r' e st hq=>r11 r' (hy121 r' e) st hq
      replace h:=hy12
      refine sp 52 h rfl ?_ ?_<;>intro h
      ·refine cq 6 [58] [B (c_1.Day != 0)] 466 ?_
       obtain⟨y13,hy13,hy131,hy132⟩:=bL h
       have j13:∀u13,y13=.inr u13→Run (lH aW) 0 (eQ aW (c_1,cD) r) (.code qi::.code oQ::[]) (sT 78 [(1,I (az (cD+1))),(2,.hp 1 0 [] 4 0 0),(63,B u13)] [⟨0,4,[ah c_1]⟩] 2):=by
        intro u13 hu
        replace h:=hy132 u13 hu
        exact rf [1,2,63] [1] (j12 _ (ai h) :)
       have r13:∀r',y13=.inl r'→∀st,eQ aW (c_1,cD) r' st→(eQ aW (c_1,cD) r) st:=fun r' e st hq=>r12 r' (hy131 r' e) st hq
       replace h:=hy13
       refine sp 58 h rfl ?_ ?_<;>intro h
       ·refine cq 6 [63] [B true] 546 ?_
        exact rf [1,2,63] [1] (j13 _ (ai h) :)
       ·refine cq 2 [60] [I c_1.Day] 498 ?_
        obtain⟨r14,hr14,h⟩:=bS h
        refine oy 514 (B r14) rfl (cP (tQ hr14)) ?_
        refine cq 3 [63] [B (!r14)] 546 ?_
        exact rf [1,2,63] [1] (j13 _ (ai h) :)
      ·refine cq 8 [58,60] [B false,I c_1.Day] 498 ?_
       obtain⟨r15,hr15,h⟩:=bS h
       refine oy 514 (B r15) rfl (cP (tQ hr15)) ?_
       refine cq 3 [63] [B (!r15)] 546 ?_
       exact rf [1,2,63] [1] (j12 _ (ai h) :)
    ·refine cq 11 [48,52] [B false,B (c_1.Op != 3)] 370 ?_
     obtain⟨y16,hy16,hy161,hy162⟩:=bL h
     have j16:∀u16,y16=.inr u16→Run (lH aW) 0 (eQ aW (c_1,cD) r) (.code qi::.code oQ::[]) (sT 78 [(1,I (az (cD+1))),(2,.hp 1 0 [] 4 0 0),(63,B u16)] [⟨0,4,[ah c_1]⟩] 2):=by
      intro u16 hu
      replace h:=hy162 u16 hu
      exact rf [1,2,63] [1] (j9 _ (ai h) :)
     have r16:∀r',y16=.inl r'→∀st,eQ aW (c_1,cD) r' st→(eQ aW (c_1,cD) r) st:=fun r' e st hq=>r9 r' (hy161 r' e) st hq
     replace h:=hy16
     refine sp 52 h rfl ?_ ?_<;>intro h
     ·refine cq 6 [58] [B (c_1.Day != 0)] 466 ?_
      obtain⟨y17,hy17,hy171,hy172⟩:=bL h
      have j17:∀u17,y17=.inr u17→Run (lH aW) 0 (eQ aW (c_1,cD) r) (.code qi::.code oQ::[]) (sT 78 [(1,I (az (cD+1))),(2,.hp 1 0 [] 4 0 0),(63,B u17)] [⟨0,4,[ah c_1]⟩] 2):=by
       intro u17 hu
       replace h:=hy172 u17 hu
       exact rf [1,2,63] [1] (j16 _ (ai h) :)
      have r17:∀r',y17=.inl r'→∀st,eQ aW (c_1,cD) r' st→(eQ aW (c_1,cD) r) st:=fun r' e st hq=>r16 r' (hy171 r' e) st hq
      replace h:=hy17
      refine sp 58 h rfl ?_ ?_<;>intro h
      ·refine cq 6 [63] [B true] 546 ?_
       exact rf [1,2,63] [1] (j17 _ (ai h) :)
      ·refine cq 2 [60] [I c_1.Day] 498 ?_
       obtain⟨r18,hr18,h⟩:=bS h
       refine oy 514 (B r18) rfl (cP (tQ hr18)) ?_
       refine cq 3 [63] [B (!r18)] 546 ?_
       exact rf [1,2,63] [1] (j17 _ (ai h) :)
     ·refine cq 8 [58,60] [B false,I c_1.Day] 498 ?_
      obtain⟨r19,hr19,h⟩:=bS h
      refine oy 514 (B r19) rfl (cP (tQ hr19)) ?_
      refine cq 3 [63] [B (!r19)] 546 ?_
      exact rf [1,2,63] [1] (j16 _ (ai h) :)
 have r3:∀r',y3=.inl r'→∀st,eQ aW (c_1,cD) r' st→(eQ aW (c_1,cD) r) st:=fun r' e st hq=>by rw[hy31 r' e] at hq;exact hq
 replace h:=hy3
 refine sp 13 h rfl ?_ ?_<;>intro h
 ·refine dk 16 [29,28,27,26,25,24,23,22,21,20,19,18,17,16,15,14] [B true,.und,.und,.und,.und,.und,.und,.und,.und,.und,B true,B true,.und,.und,.und,.und] ?_
  refine de 417 rfl rfl ?_
  exact rf [1,2,29] [1] (j3 _ (ai h) :)
 ·refine dy [1] [] (.hp 1 0 [] 4 0 0) rfl (al rfl rfl rfl) ?_
  refine dy [1] [] (I c_1.Op) rfl (aY rfl rfl) ?_
  obtain⟨r20,hr20,h⟩:=bS h
  refine dy [] [] (B r20) rfl (cP (hC hr20)) ?_ (dE rfl rfl rfl rfl (bA (bV rfl) (bA (bV rfl) (bA (bV rfl) dB))) (hC hr20) (.inr rfl) rfl)
  refine dk 3 [19,18,17] [B (!r20),B (!r20),B (!r20)] ?_
  obtain⟨y21,hy21,hy211,hy212⟩:=bL h
  have j21:∀u21,y21=.inr u21→Run (lH aW) 0 (eQ aW (c_1,cD) r) (.code (cR (cL (cR (cR (cR tN)))))::.code (cR (cR (cR (cR tN))))::[]) (sT 78 [(1,I (az (cD+1))),(2,.hp 1 0 [] 4 0 0),(29,B u21)] [⟨0,4,[ah c_1]⟩] 2):=by
   intro u21 hu
   replace h:=hy212 u21 hu
   exact rf [1,2,29] [1] (j3 _ (ai h) :)
  have r21:∀r',y21=.inl r'→∀st,eQ aW (c_1,cD) r' st→(eQ aW (c_1,cD) r) st:=fun r' e st hq=>r3 r' (hy211 r' e) st hq
  replace h:=hy21
  refine sp 19 h rfl ?_ ?_<;>intro h
  ·refine dk 10 [29,28,27,26,25,24,23,22,21,20] [B true,.und,.und,.und,.und,.und,.und,.und,.und,.und] ?_
   refine de 417 rfl rfl ?_
   exact rf [1,2,29] [1] (j21 _ (ai h) :)
  ·refine dy [1] [] (.hp 1 0 [] 4 0 3) rfl (al rfl rfl rfl) ?_
   refine dy [1] [] (.isl false (c_1.Parts.map ay)) rfl (aY rfl rfl) ?_
   refine dy [] [] (I (len c_1.Parts)) rfl (br rfl rfl rfl (bC rfl)) ?_
   refine dk 1 [23] [.hs 81 0 [] 1 0 7] ?_
   refine dy [1] [] (.hp 1 0 [] 4 0 0) rfl (al rfl rfl rfl) ?_
   refine dy [1] [] (I c_1.Op) rfl (aY rfl rfl) ?_
   obtain⟨e22,he22,h⟩:=bS h
   refine dy [81] [] (.hp 81 0 [] 1 (0+Int.toNat c_1.Op) 0) rfl (au rfl rfl rfl (i9 (f:=I) (xs:=[(-1),0,0,0,1,2,2]) rfl rfl rfl he22)) ?_
   refine dy [81] [] (I e22) rfl (aY rfl (qX (path:=[]) rfl rfl rfl bc (gY (f:=I) (xs:=[(-1),0,0,0,1,2,2]) he22) rfl rfl rfl)) ?_
   refine dk 2 [29,28] [B ((len c_1.Parts) != e22),B ((len c_1.Parts) != e22)] ?_
   refine de 417 rfl rfl ?_
   exact rf [1,2,29] [1] (j21 _ (ai h) :)
theorem Vl {G:bR}:bQ G 176 Gt:=iG fun aW g_Ffk=>gT 2 0 (aJ g_Ffk (aJ qa (aJ Bb (aJ ip bq)))) bX Tryz.func176 (fun a r h=>Xu aW a.1 a.2 r h)
def H1:Condition→List V:=oA bg
def H2 (r:Bool):V×List V:=(B r,[])
noncomputable def FX :=aZ [false] H1 H2 fun x=>Jb x
theorem abm {c_1:Condition}{r}(h:Jb c_1=some r):FX.F (H1 c_1)=some (H2 r):=aH (aI cH) h
noncomputable def abo :=aF Tryz.f141
noncomputable def WC :=bW [(176,Gt)]
def abn (x:Condition)(r:Bool):St→Prop:=QF WC Tryz.f141 [false] (H1 x) (H2 r)
theorem Xb (c_1:Condition)(r:Bool)(h:Jb c_1=some r):bo WC Tryz.f141 [false] 0 (H1 c_1) (H2 r):=by
 show Run _ _ (abn c_1 r) [.code abo] _
 refine rI 6 [(0,ah c_1)] [] 1 ?_
 unfold Jb at h
 refine cq 8 [3] [ah c_1] 49 ?_
 obtain⟨r2,hr2,h⟩:=bS h
 refine oq 65 (I r2) rfl (cP (abz hr2)) ?_
 refine cq 3 [2] [B (decide (r2>0))] 97 ?_
 obtain rfl:=sI h
 exact rP [B (decide (r2>0))]
theorem Tz {G:bR}:bQ G 141 FX:=gT 1 0 (aJ Vl bq) bX Tryz.func141 (fun a r h=>Xb a r h)
def Iy:(Contract×Int)→List V:=cA aO (oA I)
def Iz (r:Bool):V×List V:=(B r,[])
noncomputable def Gw :=aZ [false,false] Iy Iz fun x=>J5 x.1 x.2
theorem abD {c_1:Contract}{i_2:Int}{r}(h:J5 c_1 i_2=some r):Gw.F (Iy (c_1,i_2))=some (Iz r):=aH (aK bb (aI bz)) h
noncomputable def lc :=aF Tryz.f100
noncomputable abbrev J6 :=cR (cL (cR (cR (cR (cR lc)))))
noncomputable abbrev vW :=cR (cR (cR (cR (cR (cR lc)))))
noncomputable abbrev E2 :=cR (cL (cR (cR (cR (cR (cR lc))))))
noncomputable abbrev J7 :=cR (cR (cR vW))
noncomputable def jt :=bW [(81,nQ),(99,hI),(140,Gr),(141,FX)]
def ef (x:Contract×Int)(r:Bool):St→Prop:=QF jt Tryz.f100 [false,false] (Iy x) (Iz r)
theorem Xz (c_1:Contract)(i_2:Int)(r:Bool)(h:J5 c_1 i_2=some r):bo jt Tryz.f100 [false,false] 0 (Iy (c_1,i_2)) (Iz r):=by
 show Run _ _ (ef (c_1,i_2) r) [.code lc] _
 refine rI 119 [(0,ac c_1),(1,I i_2)] [] 1 ?_
 unfold J5 at h
 refine ck 10 [2,9,10] [] [1] [] [.hp 1 0 [] 2 0 0,.isl false (c_1.Clauses.map aj),I i_2] [some ⟨0,2,[ac c_1]⟩] 81 (by kernel_rfl) ?_
 obtain⟨e3,he3,h⟩:=bS h
 refine oq 97 (.iptr (ao e3) 0) rfl (au rfl rfl rfl (aV rfl rfl rfl rfl he3)) ?_
 refine ck 2 [5,12] [] [113] [] [.hp 113 0 [] 12 0 0,ao e3] [some ⟨0,12,[.agg [str ([]),I (0),I (0),str ([]),I (0),I (0),I (0),str ([]),I (0),.isl true [],I (0),str ([])]]⟩] 129 (by kernel_rfl) ?_
 refine eM 113 [.agg [str ([]),I (0),I (0),str ([]),I (0),I (0),I (0),str ([]),I (0),.usl 4 (([]).map aC),I (0),str ([])]] rfl rfl (aD (fF (aD (.refl _) (aD (.refl _) (aD (.refl _) (aD (.refl _) (aD (.refl _) (aD (.refl _) (aD (.refl _) (aD (.refl _) (aD (.refl _) (aD (.nil _) (aD (.refl _) (aD (.refl _) dU))))))))))))) dU) ?_
 refine ck 6 [14] [] [113] [] [.isl false (c_1.Parties.map str)] [some ⟨2,12,[ao e3]⟩] 177 (by kernel_rfl) ?_
 refine oq 193 (I (len c_1.Parties)) rfl (br rfl rfl rfl (bC rfl)) ?_
 refine cq 8 [6,18] [I (az ((len c_1.Parties) - 1)),str e3.Id] 257 ?_
 obtain⟨r4,hr4,h⟩:=bS h
 refine oq 273 (B r4) rfl (cP (wP hr4)) ?_
 refine cq 2 [21] [B (!r4)] 305 ?_
 obtain⟨y5,hy5,hy51,hy52⟩:=bJ h
 have j5:∀u5,y5=.inr u5→Run jt 0 (ef (c_1,i_2) r) (.code (cR (cL (cR (cR (cR lc)))))::.code (cR (cR (cR (cR lc))))::[]) (sT 119 [(1,I i_2),(2,.hp 1 0 [] 2 0 0),(5,.hp 2 0 [] 12 0 0),(6,I (az ((len c_1.Parties) - 1))),(40,B u5)] [⟨0,2,[ac c_1]⟩,⟨0,12,[ao e3]⟩] 3):=by
  intro u5 hu
  replace h:=hy52 u5 hu
  refine sq h ?_ ?_<;>intro h
  ·refine cq 4 [4] [B false] 19 ?_
   obtain rfl:=sI h
   exact rP [B false]
  ·refine aq 1 ?_
   refine cq 6 [42,43] [I e3.Party,I (az ((len c_1.Parties) - 1))] 51 ?_
   obtain⟨r6,hr6,h⟩:=bS h
   refine oq 67 (B r6) rfl (cP (hC hr6)) ?_
   refine cq 2 [46] [B (!r6)] 99 ?_
   obtain⟨y7,hy7,hy71,hy72⟩:=bJ h
   have j7:∀u7,y7=.inr u7→Run jt 0 (ef (c_1,i_2) r) (.code J6::.code (cR (cR (cR (cR (cR lc)))))::[]) (sT 119 [(1,I i_2),(2,.hp 1 0 [] 2 0 0),(5,.hp 2 0 [] 12 0 0),(65,B u7)] [⟨0,2,[ac c_1]⟩,⟨0,12,[ao e3]⟩] 3):=by
    intro u7 hu
    replace h:=hy72 u7 hu
    refine sq h ?_ ?_<;>intro h
    ·refine cq 4 [4] [B false] 19 ?_
     obtain rfl:=sI h
     exact rP [B false]
    ·refine aq 1 ?_
     refine cq 5 [67] [I e3.Amount] 35 ?_
     obtain⟨r8,hr8,h⟩:=bS h
     refine oq 51 (B r8) rfl (cP (hC hr8)) ?_
     refine cq 2 [70] [B (!r8)] 83 ?_
     obtain⟨y9,hy9,hy91,hy92⟩:=bJ h
     have j9:∀u9,y9=.inr u9→Run jt 0 (ef (c_1,i_2) r) (.code E2::.code vW::[]) (sT 119 [(1,I i_2),(2,.hp 1 0 [] 2 0 0),(5,.hp 2 0 [] 12 0 0),(90,B u9)] [⟨0,2,[ac c_1]⟩,⟨0,12,[ao e3]⟩] 3):=by
      intro u9 hu
      replace h:=hy92 u9 hu
      refine sq h ?_ ?_<;>intro h
      ·refine cq 4 [4] [B false] 19 ?_
       obtain rfl:=sI h
       exact rP [B false]
      ·refine aq 1 ?_
       refine cq 7 [93] [B (e3.Repair==([]:aa))] 51 ?_
       refine sq h ?_ ?_<;>intro h
       ·refine cq 4 [4] [B true] 67 ?_
        obtain rfl:=sI h
        exact rP [B true]
       ·refine aq 1 ?_
        refine cq 5 [94,96] [ac c_1,str e3.Repair] 99 ?_
        obtain⟨r10,hr10,h⟩:=bS h
        refine oq 115 (I r10) rfl (cP (WG hr10)) ?_
        refine cq 8 [7,101] [I r10,B (e3.Kind != 3)] 195 ?_
        obtain⟨y11,hy11,hy111,hy112⟩:=bJ h
        have j11:∀u11,y11=.inr u11→Run jt 0 (ef (c_1,i_2) r) (.code J7::[]) (sT 119 [(4,B u11)] [] 1):=by
         intro u11 hu
         replace h:=hy112 u11 hu
         obtain rfl:=sI h
         exact rP [B u11]
        have r11:∀r',y11=.inl r'→∀st,ef (c_1,i_2) r' st→(ef (c_1,i_2) r) st:=fun r' e st hq=>by rw[hy111 r' e] at hq;exact hq
        replace h:=hy11
        refine sp 101 h rfl ?_ ?_<;>intro h
        ·refine cq 4 [105] [B (decide (r10≥0))] 259 ?_
         obtain⟨y12,hy12,hy121,hy122⟩:=bL h
         have j12:∀u12,y12=.inr u12→Run jt 0 (ef (c_1,i_2) r) (.code J7::[]) (sT 119 [(4,B u12)] [] 1):=by
          intro u12 hu
          replace h:=hy122 u12 hu
          exact rf [4] [] (j11 _ (ai h) :)
         have r12:∀r',y12=.inl r'→∀st,ef (c_1,i_2) r' st→(ef (c_1,i_2) r) st:=fun r' e st hq=>r11 r' (hy121 r' e) st hq
         replace h:=hy12
         refine sp 105 h rfl ?_ ?_<;>intro h
         ·refine cq 5 [110] [B (r10 != i_2)] 339 ?_
          obtain⟨y13,hy13,hy131,hy132⟩:=bL h
          have j13:∀u13,y13=.inr u13→Run jt 0 (ef (c_1,i_2) r) (.code J7::[]) (sT 119 [(4,B u13)] [] 1):=by
           intro u13 hu
           replace h:=hy132 u13 hu
           exact rf [4] [] (j12 _ (ai h) :)
          have r13:∀r',y13=.inl r'→∀st,ef (c_1,i_2) r' st→(ef (c_1,i_2) r) st:=fun r' e st hq=>r12 r' (hy131 r' e) st hq
          replace h:=hy13
          refine sp 110 h rfl ?_ ?_<;>intro h
          ·refine cq 3 [112,113] [.isl false (c_1.Clauses.map aj),I r10] 387 ?_
           obtain⟨e14,he14,h⟩:=bS h
           refine oy 403 (.iptr (ao e14) 0) rfl (au rfl rfl rfl (aV rfl rfl rfl rfl he14)) ?_
           refine cq 6 [4] [B (e14.Kind==1)] 483 ?_
           exact rf [4] [] (j13 _ (ai h) :)
          ·refine cq 10 [4] [B false] 483 ?_
           exact rf [4] [] (j13 _ (ai h) :)
         ·refine cq 15 [4] [B false] 483 ?_
          exact rf [4] [] (j12 _ (ai h) :)
        ·refine cq 19 [4] [B false] 483 ?_
         exact rf [4] [] (j11 _ (ai h) :)
     have r9:∀r',y9=.inl r'→∀st,ef (c_1,i_2) r' st→(ef (c_1,i_2) r) st:=fun r' e st hq=>by rw[hy91 r' e] at hq;exact hq
     replace h:=hy9
     refine sp 70 h rfl ?_ ?_<;>intro h
     ·refine cq 21 [90] [B true] 403 ?_
      exact rf [1,2,5,90] [1,2] (j9 _ (ai h) :)
     ·refine cq 2 [72] [I e3.Within] 115 ?_
      obtain⟨r15,hr15,h⟩:=bS h
      refine oy 131 (B r15) rfl (cP (hC hr15)) ?_
      refine cq 3 [76] [B (!r15)] 179 ?_
      obtain⟨u16,hu16,h⟩:=lJ h
      have j16:Run jt 0 (ef (c_1,i_2) r) (.code E2::.code vW::[]) (sT 119 [(1,I i_2),(2,.hp 1 0 [] 2 0 0),(5,.hp 2 0 [] 12 0 0),(90,B u16)] [⟨0,2,[ac c_1]⟩,⟨0,12,[ao e3]⟩] 3):=by
       exact rf [1,2,5,90] [1,2] (j9 _ (ai h) :)
      replace h:=hu16
      clear hu16
      refine sp 76 h rfl ?_ ?_<;>intro h
      ·refine cq 15 [90] [B true] 403 ?_
       subst h
       exact rf [1,2,5,90] [1,2] (j16 :)
      ·refine cq 4 [80] [B (e3.Kind != 1)] 243 ?_
       obtain⟨u17,hu17,h⟩:=lJ h
       have j17:Run jt 0 (ef (c_1,i_2) r) (.code E2::.code vW::[]) (sT 119 [(1,I i_2),(2,.hp 1 0 [] 2 0 0),(5,.hp 2 0 [] 12 0 0),(90,B u17)] [⟨0,2,[ac c_1]⟩,⟨0,12,[ao e3]⟩] 3):=by
        subst h
        exact rf [1,2,5,90] [1,2] (j16 :)
       replace h:=hu17
       clear hu17
       refine sp 80 h rfl ?_ ?_<;>intro h
       ·refine cq 4 [84] [B (e3.Amount != 0)] 307 ?_
        obtain⟨u18,hu18,h⟩:=lJ h
        have j18:Run jt 0 (ef (c_1,i_2) r) (.code E2::.code vW::[]) (sT 119 [(1,I i_2),(2,.hp 1 0 [] 2 0 0),(5,.hp 2 0 [] 12 0 0),(90,B u18)] [⟨0,2,[ac c_1]⟩,⟨0,12,[ao e3]⟩] 3):=by
         subst h
         exact rf [1,2,5,90] [1,2] (j17 :)
        replace h:=hu18
        clear hu18
        refine sp 84 h rfl ?_ ?_<;>intro h
        ·refine cq 7 [90] [B true] 403 ?_
         subst h
         exact rf [1,2,5,90] [1,2] (j18 :)
        ·refine cq 7 [90] [B (e3.Within != 0)] 403 ?_
         subst h
         exact rf [1,2,5,90] [1,2] (j18 :)
       ·refine cq 11 [90] [B false] 403 ?_
        subst h
        exact rf [1,2,5,90] [1,2] (j17 :)
   have r7:∀r',y7=.inl r'→∀st,ef (c_1,i_2) r' st→(ef (c_1,i_2) r) st:=fun r' e st hq=>by rw[hy71 r' e] at hq;exact hq
   replace h:=hy7
   refine sp 46 h rfl ?_ ?_<;>intro h
   ·refine cq 20 [65] [B true] 403 ?_
    exact rf [1,2,5,65] [1,2] (j7 _ (ai h) :)
   ·refine cq 3 [48,49] [I e3.Other,I (az ((len c_1.Parties) - 1))] 147 ?_
    obtain⟨r19,hr19,h⟩:=bS h
    refine oy 163 (B r19) rfl (cP (hC hr19)) ?_
    refine cq 3 [53] [B (!r19)] 211 ?_
    obtain⟨y20,hy20,hy201,hy202⟩:=bL h
    have j20:∀u20,y20=.inr u20→Run jt 0 (ef (c_1,i_2) r) (.code J6::.code (cR (cR (cR (cR (cR lc)))))::[]) (sT 119 [(1,I i_2),(2,.hp 1 0 [] 2 0 0),(5,.hp 2 0 [] 12 0 0),(65,B u20)] [⟨0,2,[ac c_1]⟩,⟨0,12,[ao e3]⟩] 3):=by
     intro u20 hu
     replace h:=hy202 u20 hu
     exact rf [1,2,5,65] [1,2] (j7 _ (ai h) :)
    have r20:∀r',y20=.inl r'→∀st,ef (c_1,i_2) r' st→(ef (c_1,i_2) r) st:=fun r' e st hq=>r7 r' (hy201 r' e) st hq
    replace h:=hy20
    refine sp 53 h rfl ?_ ?_<;>intro h
    ·refine cq 13 [65] [B true] 403 ?_
     exact rf [1,2,5,65] [1,2] (j20 _ (ai h) :)
    ·refine cq 7 [60] [B (e3.Party==e3.Other)] 323 ?_
     obtain⟨y21,hy21,hy211,hy212⟩:=bL h
     have j21:∀u21,y21=.inr u21→Run jt 0 (ef (c_1,i_2) r) (.code J6::.code (cR (cR (cR (cR (cR lc)))))::[]) (sT 119 [(1,I i_2),(2,.hp 1 0 [] 2 0 0),(5,.hp 2 0 [] 12 0 0),(65,B u21)] [⟨0,2,[ac c_1]⟩,⟨0,12,[ao e3]⟩] 3):=by
      intro u21 hu
      replace h:=hy212 u21 hu
      exact rf [1,2,5,65] [1,2] (j20 _ (ai h) :)
     have r21:∀r',y21=.inl r'→∀st,ef (c_1,i_2) r' st→(ef (c_1,i_2) r) st:=fun r' e st hq=>r20 r' (hy211 r' e) st hq
     replace h:=hy21
     refine sp 60 h rfl ?_ ?_<;>intro h
     ·refine cq 6 [65] [B true] 403 ?_
      exact rf [1,2,5,65] [1,2] (j21 _ (ai h) :)
     ·refine cq 2 [62] [ah e3.When] 355 ?_
      obtain⟨r22,hr22,h⟩:=bS h
      refine oy 371 (B r22) rfl (cP (abm hr22)) ?_
      refine cq 3 [65] [B (!r22)] 403 ?_
      exact rf [1,2,5,65] [1,2] (j21 _ (ai h) :)
 have r5:∀r',y5=.inl r'→∀st,ef (c_1,i_2) r' st→(ef (c_1,i_2) r) st:=fun r' e st hq=>by rw[hy51 r' e] at hq;exact hq
 replace h:=hy5
 refine sp 21 h rfl ?_ ?_<;>intro h
 ·refine cq 20 [40] [B true] 609 ?_
  exact rf [1,2,5,6,40] [1,113] (j5 _ (ai h) :)
 ·refine cq 3 [22,24] [ac c_1,str e3.Id] 353 ?_
  obtain⟨r23,hr23,h⟩:=bS h
  refine oy 369 (I r23) rfl (cP (WG hr23)) ?_
  refine cq 4 [29] [B (r23 != i_2)] 433 ?_
  obtain⟨y24,hy24,hy241,hy242⟩:=bL h
  have j24:∀u24,y24=.inr u24→Run jt 0 (ef (c_1,i_2) r) (.code (cR (cL (cR (cR (cR lc)))))::.code (cR (cR (cR (cR lc))))::[]) (sT 119 [(1,I i_2),(2,.hp 1 0 [] 2 0 0),(5,.hp 2 0 [] 12 0 0),(6,I (az ((len c_1.Parties) - 1))),(40,B u24)] [⟨0,2,[ac c_1]⟩,⟨0,12,[ao e3]⟩] 3):=by
   intro u24 hu
   replace h:=hy242 u24 hu
   exact rf [1,2,5,6,40] [1,2] (j5 _ (ai h) :)
  have r24:∀r',y24=.inl r'→∀st,ef (c_1,i_2) r' st→(ef (c_1,i_2) r) st:=fun r' e st hq=>r5 r' (hy241 r' e) st hq
  replace h:=hy24
  refine sp 29 h rfl ?_ ?_<;>intro h
  ·refine cq 12 [40] [B true] 609 ?_
   exact rf [1,2,5,6,40] [1,113] (j24 _ (ai h) :)
  ·refine cq 2 [31] [str e3.Action] 465 ?_
   obtain⟨r25,hr25,h⟩:=bS h
   refine oy 481 (B r25) rfl (cP (wP hr25)) ?_
   refine cq 3 [35] [B (!r25)] 529 ?_
   obtain⟨y26,hy26,hy261,hy262⟩:=bL h
   have j26:∀u26,y26=.inr u26→Run jt 0 (ef (c_1,i_2) r) (.code (cR (cL (cR (cR (cR lc)))))::.code (cR (cR (cR (cR lc))))::[]) (sT 119 [(1,I i_2),(2,.hp 1 0 [] 2 0 0),(5,.hp 2 0 [] 12 0 0),(6,I (az ((len c_1.Parties) - 1))),(40,B u26)] [⟨0,2,[ac c_1]⟩,⟨0,12,[ao e3]⟩] 3):=by
    intro u26 hu
    replace h:=hy262 u26 hu
    exact rf [1,2,5,6,40] [1,2] (j24 _ (ai h) :)
   have r26:∀r',y26=.inl r'→∀st,ef (c_1,i_2) r' st→(ef (c_1,i_2) r) st:=fun r' e st hq=>r24 r' (hy261 r' e) st hq
   replace h:=hy26
   refine sp 35 h rfl ?_ ?_<;>intro h
   ·refine cq 6 [40] [B true] 609 ?_
    exact rf [1,2,5,6,40] [1,113] (j26 _ (ai h) :)
   ·refine cq 2 [37] [I e3.Kind] 561 ?_
    obtain⟨r27,hr27,h⟩:=bS h
    refine oy 577 (B r27) rfl (cP (hC hr27)) ?_
    refine cq 3 [40] [B (!r27)] 609 ?_
    exact rf [1,2,5,6,40] [1,113] (j26 _ (ai h) :)
theorem Vo {G:bR}:bQ G 100 Gw:=gT 2 0 (aJ qa (aJ ip (aJ Vj (aJ Tz bq)))) bX Tryz.func100 (fun a r h=>Xz a.1 a.2 r h)
def EN:(Condition×(List aa))→List V:=cA bg (oA (FV 1 str))
def EP (r:(List aa)):V×List V:=(.usl 1 (r.map str),[.dead])
noncomputable def A7 (cB:(Condition×(List aa))→Option (List aa)):Ent:=aZ [false,true] EN EP cB
theorem Sf (cB:(Condition×(List aa))→Option (List aa)){x}{r}(h:cB x=some r):(A7 cB).F (EN x)=some (EP r):=aH (aK cH (aI (pZ ba))) h
noncomputable def Gn :=A7 (aN mU)
theorem WE {c_3:Condition}{dA:List aa}{r}(h:Se c_3 dA=some r):Gn.F (EN (c_3,dA))=some (EP r):=Sf (aN mU) h
noncomputable def NN :=aF Tryz.f142
noncomputable def Ic (cB:(Condition×(List aa))→Option (List aa)):Env:=bW [(142,(A7 cB))]
def EO (cB:(Condition×(List aa))→Option (List aa))(x:Condition×(List aa))(r:(List aa)):St→Prop:=QF (Ic cB) Tryz.f142 [false,true] (EN x) (EP r)
theorem NO (cB:(Condition×(List aa))→Option (List aa))(c_3:Condition)(dA:List aa):cX (Ic cB) 1 (EO cB (c_3,dA)) (cL (cL (cR (cL (cR (cR NN)))))) 0 (mV cB c_3 dA) (fun u=>(sO 27 [(1,.hs 2 0 [] 1 0 (u.map str).length)] [none,some ⟨0,1,u.map str⟩] 3)) fun x4=>(sO 27 [(1,.hs 2 0 [] 1 0 (x4.2.map str).length),(16,.isl false (c_3.Parts.map ay)),(17,I (len c_3.Parts)),(18,I x4.1)] [none,some ⟨0,1,x4.2.map str⟩] 3):=eI (EQ cB c_3 dA) fun {Q K} hK self ih x4 y h hr hn=>by
 unfold kF at h
 refine cq 5 [19] [B (decide (x4.1<(len c_3.Parts)))] 19 ?_
 refine sq h ?_ ?_<;>intro h
 ·refine aq 1 ?_
  refine aq 4 ?_
  obtain⟨e5,he5,h⟩:=bS h
  refine oq 35 (.iptr (ah e5) 0) rfl (au rfl rfl rfl (aV rfl rfl (bB e5) rfl he5)) ?_
  refine ck 2 [6,21] [] [51] [] [.hp 51 0 [] 4 0 0,ah e5] [some ⟨0,4,[.agg [I (0),str ([]),I (0),.isl true []]]⟩] 67 (by kernel_rfl) ?_
  refine eM 51 [.agg [I (0),str ([]),I (0),.usl 4 (([]).map aC)]] rfl rfl (aD (fF (aD (.refl _) (aD (.refl _) (aD (.refl _) (aD (.nil _) dU))))) dU) ?_
  refine ck 5 [22,23] [] [51] [] [ah e5,.hs 2 0 [] 1 0 (x4.2.map str).length] [some ⟨2,4,[ah e5]⟩] 115 (by kernel_rfl) ?_
  obtain⟨r6,hr6,h⟩:=bS h
  refine oq 131 (.hs 115 0 [] 1 0 (r6.map str).length) rfl (ce rfl rfl (cS rfl rfl rfl (bA (bV rfl) (uL (qU rfl (lP (path:=[]) rfl rfl bc rfl)) dB)) (Sf cB hr6) (.inr rfl) (tX rfl rfl rfl mD eb) rfl rfl rfl)) ?_
  refine cq 7 [1,18] [.hs 115 0 [] 1 0 (r6.map str).length,I (az (x4.1+1))] 179 ?_
  refine dQ ?_
  exact rg [1,16,17,18] [180,115] (ih _ _ h hr hn :)
 ·refine aq 1 ?_
  exact rg [1] [20,2] (hn _ (ai h) :) (hk:=hK)
theorem Xo (cB:(Condition×(List aa))→Option (List aa))(c_3:Condition)(dA:List aa)(r:(List aa))(h:wW cB c_3 dA=some r):bo (Ic cB) Tryz.f142 [false,true] 1 (EN (c_3,dA)) (EP r):=by
 show Run _ _ (EO cB (c_3,dA) r) [.code NN] _
 refine rI 27 [(0,ah c_3),(1,.hs 1 0 [] 1 0 (dA.map str).length)] [(1,some ⟨0,1,dA.map str⟩)] 2 ?_
 unfold wW at h
 refine ck 12 [2,9] [] [2] [] [.hp 2 0 [] 4 0 0,B (c_3.Op==2)] [some ⟨0,4,[ah c_3]⟩] 82 (by kernel_rfl) ?_
 obtain⟨y3,hy3,hy31,hy32⟩:=bJ h
 have j3:∀u3,y3=.inr u3→Run (Ic cB) 1 (EO cB (c_3,dA) r) (.code (cR (cR NN))::[]) (sO 27 [(1,.hs 2 0 [] 1 0 (u3.map str).length),(2,.hp 3 0 [] 4 0 0)] [none,some ⟨0,1,u3.map str⟩,some ⟨0,4,[ah c_3]⟩] 4):=by
  intro u3 hu
  replace h:=hy32 u3 hu
  refine cq 5 [16] [.isl false (c_3.Parts.map ay)] 36 ?_
  refine oq 52 (I (len c_3.Parts)) rfl (br rfl rfl rfl (bC rfl)) ?_
  refine cq 3 [18] [I (0)] 68 ?_
  obtain⟨y7,hy7,hy71,hy72⟩:=bJ h
  refine cj rfl ?_
  refine rg [1,16,17,18] [69,2] (NO cB c_3 dA rfl (0,u3) _ hy7 (fun r' e st hq=>by rw[hy71 r' e] at hq;exact hq) fun u7 hu=>?_)
  replace h:=hy72 u7 hu
  refine cq 5 [4] [.hs 2 0 [] 1 0 (u7.map str).length] 35 ?_
  obtain rfl:=sI h
  exact ca rfl ⟨_,fin (vs:=[.hs 2 0 [] 1 0 (u7.map str).length]) rfl (fq (eR rfl (cQ rfl rfl)) eA) rfl (eS (uw rfl (pH rfl) fy)),um ft⟩
 have r3:∀r',y3=.inl r'→∀st,EO cB (c_3,dA) r' st→(EO cB (c_3,dA) r) st:=fun r' e st hq=>by rw[hy31 r' e] at hq;exact hq
 replace h:=hy3
 refine sq h ?_ ?_<;>intro h
 ·refine cq 4 [10,12] [.hs 1 0 [] 1 0 (dA.map str).length,str c_3.Name] 130 ?_
  refine oq 146 (.hs 130 0 [] 1 0 1) rfl (fx rfl (ow (f:=I) (xs:=[]) (z:=str ([])) (es:=[str c_3.Name]) (ws:=[str c_3.Name]) rfl rfl rfl (by decide) rfl (eq rfl) rfl)) ?_
  obtain⟨a8,ha8,h⟩:=bS h
  refine oq 162 (.hs 146 0 [] 1 0 (a8.map str).length) rfl (kJ rfl rfl rfl rfl rfl (oU (path:=[]) (f:=str) (xs:=dA) (ys:=[c_3.Name]) rfl rfl (GZ rfl rfl rfl) rfl rfl rfl bc rfl (by decide) js ha8 rfl qC)) ?_
  refine cq 2 [1] [.hs 146 0 [] 1 0 (a8.map str).length] 178 ?_
  exact rg [1,2] [179,146,2] (j3 _ (ai h) :)
 ·refine aq 1 ?_
  exact rg [1,2] [83,1,2] (j3 _ (ai h) :)
theorem Vg {G:bR}:bQ G 142 Gn:=iG fun cB g_Fff=>gT 2 1 (aJ g_Fff bq) bX Tryz.func142 (fun a r h=>Xo cB a.1 a.2 r h)
def Lv:Shelf.Ren:=⟨fun | 190=>177 | 125=>192 | 258=>191 | 128=>214 | 129=>215 | 302=>205 | 303=>206 | 304=>207 | 305=>208 | 306=>209 | 307=>210 | 308=>211 | 309=>212 | 310=>213 | 333=>226 | 329=>227 | 330=>228 | 334=>229 | 335=>230 | 336=>231 | 344=>236 | n=>n,fun | 31=>22 | 9=>9 | 3=>3 | 46=>158 | 0=>0 | 51=>195 | 53=>181 | 4=>4 | 183=>188 | 182=>187 | 131=>43 | 5=>5 | 218=>199 | 222=>203 | 228=>211 | 229=>212 | n=>n,fun | n=>n⟩
theorem Wy:Go.Proofs.Lays.n190 Tryz.prog Lv where
 mixed:=by kernel_rfl
 f125:=Tryz.func192.trans (congrArg some (by kernel_rfl))
 f128:=Tryz.func214.trans (congrArg some (by kernel_rfl))
 f129:=Tryz.func215.trans (congrArg some (by kernel_rfl))
 f190:=Tryz.func177.trans (congrArg some (by kernel_rfl))
 f258:=Tryz.func191.trans (congrArg some (by kernel_rfl))
 f302:=Tryz.func205.trans (congrArg some (by kernel_rfl))
 f303:=Tryz.func206.trans (congrArg some (by kernel_rfl))
 f304:=Tryz.func207.trans (congrArg some (by kernel_rfl))
 f305:=Tryz.func208.trans (congrArg some (by kernel_rfl))
 f306:=Tryz.func209.trans (congrArg some (by kernel_rfl))
 f307:=Tryz.func210.trans (congrArg some (by kernel_rfl))
 f308:=Tryz.func211.trans (congrArg some (by kernel_rfl))
 f309:=Tryz.func212.trans (congrArg some (by kernel_rfl))
 f310:=Tryz.func213.trans (congrArg some (by kernel_rfl))
 f329:=Tryz.func227.trans (congrArg some (by kernel_rfl))
 f330:=Tryz.func228.trans (congrArg some (by kernel_rfl))
 f333:=Tryz.func226.trans (congrArg some (by kernel_rfl))
 f334:=Tryz.func229.trans (congrArg some (by kernel_rfl))
 f335:=Tryz.func230.trans (congrArg some (by kernel_rfl))
 f336:=Tryz.func231.trans (congrArg some (by kernel_rfl))
 f344:=Tryz.func236.trans (congrArg some (by kernel_rfl))
 t0:=Tryz.underlying0
 a0:=Tryz.isAgg0
 z0:=Tryz.sizeOf0
 v0:=Tryz.zeroValue0
 t3:=Tryz.underlying3
 a3:=Tryz.isAgg3
 z3:=Tryz.sizeOf3
 v3:=Tryz.zeroValue3
 t4:=Tryz.underlying4
 a4:=Tryz.isAgg4
 z4:=Tryz.sizeOf4
 v4:=Tryz.zeroValue4
 t5:=Tryz.underlying5
 a5:=Tryz.isAgg5
 z5:=Tryz.sizeOf5
 v5:=Tryz.zeroValue5
 t9:=Tryz.underlying9
 a9:=Tryz.isAgg9
 z9:=Tryz.sizeOf9
 v9:=Tryz.zeroValue9
 t31:=Tryz.underlying22
 a31:=Tryz.isAgg22
 z31:=Tryz.sizeOf22
 v31:=Tryz.zeroValue22
 t46:=Tryz.underlying158
 a46:=Tryz.isAgg158
 z46:=Tryz.sizeOf158
 v46:=Tryz.zeroValue158
 t51:=Tryz.underlying195
 a51:=Tryz.isAgg195
 z51:=Tryz.sizeOf195
 v51:=Tryz.zeroValue195
 t53:=Tryz.underlying181
 a53:=Tryz.isAgg181
 z53:=Tryz.sizeOf181
 v53:=Tryz.zeroValue181
 t131:=Tryz.underlying43
 a131:=Tryz.isAgg43
 z131:=Tryz.sizeOf43
 v131:=Tryz.zeroValue43
 t182:=Tryz.underlying187
 a182:=Tryz.isAgg187
 z182:=Tryz.sizeOf187
 v182:=Tryz.zeroValue187
 t183:=Tryz.underlying188
 a183:=Tryz.isAgg188
 z183:=Tryz.sizeOf188
 v183:=Tryz.zeroValue188
 t218:=Tryz.underlying199
 a218:=Tryz.isAgg199
 z218:=Tryz.sizeOf199
 v218:=Tryz.zeroValue199
 t222:=Tryz.underlying203
 a222:=Tryz.isAgg203
 z222:=Tryz.sizeOf203
 v222:=Tryz.zeroValue203
 t228:=Tryz.underlying211
 a228:=Tryz.isAgg211
 z228:=Tryz.sizeOf211
 v228:=Tryz.zeroValue211
 t229:=Tryz.underlying212
 a229:=Tryz.isAgg212
 z229:=Tryz.sizeOf212
 v229:=Tryz.zeroValue212
noncomputable def uI :=aZ [true] (oA (FV 1 str)) (fun r=>(.tup [],[.usl 1 (r.map str)])) tw
theorem Wx {l:List aa}{r}(h:tw l=some r):uI.F [.usl 1 (l.map str)]=some (.tup [],[.usl 1 (r.map str)]):=aH (ea:=oA (FV 1 str)) (aI (pZ ba)) h
theorem Mw {G:bR}:bQ G 177 uI:=Oe Wy
def CZ:(List aa)→List V:=oA (FV 1 str)
def C1 (r:(List aa)):V×List V:=(.usl 1 (r.map str),[.dead])
noncomputable def zY :=aZ [true] CZ C1 fun x=>zX x
theorem ZQ {s_2:List aa}{r}(h:zX s_2=some r):zY.F (CZ s_2)=some (C1 r):=aH (aI (pZ ba)) h
noncomputable def Jz :=aF Tryz.f178
noncomputable abbrev F3 :=cL (cL (cR (cL (cR (cL (cR (cL (cL (cR (cL (cL (cR (cL (cR (cR Jz)))))))))))))))
noncomputable def vr :=bW []
def C0 (x:(List aa))(r:(List aa)):St→Prop:=QF vr Tryz.f178 [true] (CZ x) (C1 r)
theorem LM (s_2:List aa)(x2:Int):cX vr 1 (C0 s_2) F3 2 (jQ s_2 x2) (fun u=>(sO 61 [(0,.hs 2 0 [] 1 0 (u.2.map str).length),(3,I u.1)] [none,some ⟨0,1,u.2.map str⟩] 3)) fun x6=>(sO 61 [(0,.hs 2 0 [] 1 0 (x6.2.2.map str).length),(3,I x6.1),(4,.hs 2 0 [] 1 (0+Int.toNat x2) (Int.toNat (len s_2) - Int.toNat x2)),(5,I x6.2.1)] [none,some ⟨0,1,x6.2.2.map str⟩] 3):=eI (xJ s_2 x2) fun {Q K} hK self ih x6 y h hr hn=>by
 unfold ks at h
 refine cq 8 [32] [B (decide (x6.2.1<(((Int.toNat (len s_2) - Int.toNat x2):Nat):Int)))] 67 ?_
 refine sq h ?_ ?_<;>intro h
 ·refine aq 1 ?_
  refine aq 3 ?_
  refine eB [0,0,3,7,0,0,32,112,240,511] rfl (by decide +kernel) ?_
  refine dk 2 [36,35] [I x6.2.1,.hs 2 0 [] 1 (0+Int.toNat x2) (Int.toNat (len s_2) - Int.toNat x2)] ?_
  obtain⟨e7,he7,h⟩:=bS h
  refine dq [2] [] (.hp 2 0 [] 1 ((0+Int.toNat x2)+Int.toNat x6.2.1) 0) rfl (au rfl rfl rfl (Ot (xs:=x6.2.2) rfl rfl he7)) ?_
  refine dq [2] [] (str e7) rfl (aY rfl (qX (path:=[]) rfl rfl rfl bc (KL (f:=str) (xs:=x6.2.2) he7) rfl rfl rfl)) ?_
  refine dk 3 [41,40,39] [I (az (x6.2.1 - 1)),I x6.2.1,.hs 2 0 [] 1 (0+Int.toNat x2) (Int.toNat (len s_2) - Int.toNat x2)] ?_
  obtain⟨e8,he8,h⟩:=bS h
  refine dq [2] [] (.hp 2 0 [] 1 ((0+Int.toNat x2)+Int.toNat (az (x6.2.1 - 1))) 0) rfl (au rfl rfl rfl (Ot (xs:=x6.2.2) rfl rfl he8)) ?_
  refine dq [2] [] (str e8) rfl (aY rfl (qX (path:=[]) rfl rfl rfl bc (KL (f:=str) (xs:=x6.2.2) he8) rfl rfl rfl)) ?_
  refine dk 1 [44] [B (!(e7==e8))] ?_
  refine de 227 rfl rfl ?_
  obtain⟨y9,hy9,hy91,hy92⟩:=bL h
  have j9:∀u9,y9=.inr u9→Run vr 1 Q (.blk 3::.code (cR (cR F3))::.lp F3::.blk 2::K) (sO 61 [(0,.hs 2 0 [] 1 0 (u9.2.map str).length),(3,I u9.1),(4,.hs 2 0 [] 1 (0+Int.toNat x2) (Int.toNat (len s_2) - Int.toNat x2)),(5,I x6.2.1)] [none,some ⟨0,1,u9.2.map str⟩] 3):=by
   intro u9 hu
   replace h:=hy92 u9 hu
   refine cq 6 [5] [I (az (x6.2.1+1))] 51 ?_
   refine dQ ?_
   exact rg [0,3,4,5] [52,2] (ih _ _ h hr hn :)
  have r9:∀r',y9=.inl r'→∀st,C0 s_2 r' st→Q st:=fun r' e st hq=>hr r' (hy91 r' e) st hq
  replace h:=hy9
  refine sq h ?_ ?_<;>intro h
  ·refine cq 6 [45,46,47,48] [.hs 2 0 [] 1 0 (x6.2.2.map str).length,I x6.1,.hs 2 0 [] 1 (0+Int.toNat x2) (Int.toNat (len s_2) - Int.toNat x2),I x6.2.1] 291 ?_
   obtain⟨e10,he10,h⟩:=bS h
   refine oq 307 (.hp 2 0 [] 1 ((0+Int.toNat x2)+Int.toNat x6.2.1) 0) rfl (au rfl rfl rfl (Ot (xs:=x6.2.2) rfl rfl he10)) ?_
   refine oq 323 (str e10) rfl (aY rfl (qX (path:=[]) rfl rfl rfl bc (KL (f:=str) (xs:=x6.2.2) he10) rfl rfl rfl)) ?_
   obtain⟨e11,he11,h⟩:=bS h
   refine oq 339 (.hp 2 0 [] 1 (0+Int.toNat x6.1) 0) rfl (au rfl rfl rfl (i9 (f:=str) (xs:=x6.2.2) rfl rfl rfl he11)) ?_
   refine o0 355 rfl rfl (gy rfl rfl (fu (path:=[]) (pl:=true) (e':=str e10) (es2':=(fO x6.2.2 x6.1 e10).map str) rfl (fU rfl) rfl rfl rfl bc (gY (f:=str) (xs:=x6.2.2) he11) rfl rfl rfl (mM (f:=str) (xs:=x6.2.2) (y:=e10)) d9 0 rfl)) ?_
   try rw[←kO (f:=str) (xs:=x6.2.2) (i:=x6.1) (z:=e10)]
   refine cq 6 [3] [I (az (x6.1+1))] 403 ?_
   exact rg [0,3,4,5] [404,2] (j9 _ (ai h) :)
  ·refine aq 1 ?_
   exact rg [0,3,4,5] [228,2] (j9 _ (ai h) :)
 ·refine aq 1 ?_
  exact rg [0,3] [68,2] (hn _ (ai h) :) (hk:=hK)
theorem LL (s_2:List aa):cX vr 1 (C0 s_2) (cL (cL (cR (cL (cR (cR Jz)))))) 0 (pS s_2) (fun u=>(sO 61 [(0,.hs 2 0 [] 1 0 (u.map str).length)] [none,some ⟨0,1,u.map str⟩] 3)) fun x2=>(sO 61 [(0,.hs 2 0 [] 1 0 (s_2.map str).length),(3,I x2)] [none,some ⟨0,1,s_2.map str⟩] 3):=eI (xI s_2) fun {Q K} hK self ih x2 y h hr hn=>by
 unfold kr at h
 refine cq 5 [10,11] [I x2,.hs 2 0 [] 1 0 (s_2.map str).length] 35 ?_
 refine oq 51 (I (len s_2)) rfl (br rfl rfl rfl (xg (f:=str) (xs:=s_2) rfl rfl)) ?_
 refine cq 2 [13] [B (decide (x2<(len s_2)))] 67 ?_
 refine sq h ?_ ?_<;>intro h
 ·refine aq 1 ?_
  refine aq 3 ?_
  refine eB [0,0,3,7,0,0,32,112,240,511] rfl (by decide +kernel) ?_
  refine dk 2 [17,16] [I x2,.hs 2 0 [] 1 0 (s_2.map str).length] ?_
  obtain⟨e3,he3,h⟩:=bS h
  refine dq [2] [] (.hp 2 0 [] 1 (0+Int.toNat x2) 0) rfl (au rfl rfl rfl (i9 (f:=str) (xs:=s_2) rfl rfl rfl he3)) ?_
  refine dq [2] [] (str e3) rfl (aY rfl (qX (path:=[]) rfl rfl rfl bc (gY (f:=str) (xs:=s_2) he3) rfl rfl rfl)) ?_
  refine dk 3 [22,21,20] [I (az (x2 - 1)),I x2,.hs 2 0 [] 1 0 (s_2.map str).length] ?_
  obtain⟨e4,he4,h⟩:=bS h
  refine dq [2] [] (.hp 2 0 [] 1 (0+Int.toNat (az (x2 - 1))) 0) rfl (au rfl rfl rfl (i9 (f:=str) (xs:=s_2) rfl rfl rfl he4)) ?_
  refine dq [2] [] (str e4) rfl (aY rfl (qX (path:=[]) rfl rfl rfl bc (gY (f:=str) (xs:=s_2) he4) rfl rfl rfl)) ?_
  refine dk 1 [25] [B (e3==e4)] ?_
  refine de 227 rfl rfl ?_
  refine sq h ?_ ?_<;>intro h
  ·refine cq 4 [26,27] [.hs 2 0 [] 1 0 (s_2.map str).length,I x2] 259 ?_
   obtain⟨s5,hs5,h⟩:=bS h
   refine oq 275 (.hs 2 0 [] 1 (0+Int.toNat x2) (Int.toNat (len s_2) - Int.toNat x2)) rfl (im rfl rfl rfl rfl (tq (f:=str) (xs:=s_2) rfl rfl rfl rfl (VE rfl) hs5)) ?_
   refine cq 8 [4,5] [.hs 2 0 [] 1 (0+Int.toNat x2) (Int.toNat (len s_2) - Int.toNat x2),I (1)] 307 ?_
   obtain⟨y15,hy15,hy151,hy152⟩:=bL h
   refine cj rfl ?_
   refine rg [0,3,4,5] [308,2] (LM s_2 x2 rfl (x2,1,s_2) _ hy15 (fun r' e st hq=>hr r' (hy151 r' e) st hq) fun u15 hu=>?_)
   replace h:=hy152 u15 hu
   refine cq 4 [54,55] [.hs 2 0 [] 1 0 (u15.2.map str).length,I u15.1] 35 ?_
   obtain⟨s16,hs16,h⟩:=bS h
   refine oq 51 (.hs 2 0 [] 1 (0+Int.toNat u15.1) (Int.toNat (len u15.2) - Int.toNat u15.1)) rfl (im rfl rfl rfl rfl (tq (f:=str) (xs:=u15.2) rfl rfl rfl rfl (VE rfl) hs16)) ?_
   obtain⟨k17,hk17,h⟩:=bS h
   refine o0 67 rfl rfl (X1 rfl rfl (ab4 (f:=str) (xs:=u15.2) (z0:=[]) rfl rfl rfl rfl (by decide) l4 hk17)) ?_
   try rw[show (u15.2.map str).length=(k17.map str).length from XY hk17]
   refine cq 5 [57,58] [.hs 2 0 [] 1 0 (k17.map str).length,I u15.1] 99 ?_
   obtain⟨s18,hs18,h⟩:=bS h
   refine oq 115 (.hs 2 0 [] 1 (0+Int.toNat (0)) (Int.toNat u15.1 - Int.toNat (0))) rfl (im rfl rfl rfl rfl (tq (f:=str) (xs:=k17) rfl rfl rfl rfl rfl hs18)) ?_
   refine cq 2 [2] [.hs 2 0 [] 1 (0+Int.toNat (0)) (Int.toNat u15.1 - Int.toNat (0))] 131 ?_
   obtain⟨p19,hp19,h⟩:=bS h
   exact ca rfl (hr _ (ai h) _ ⟨_,fin (vs:=[.hs 2 0 [] 1 (0+Int.toNat (0)) (Int.toNat u15.1 - Int.toNat (0))]) rfl (fq (eR rfl (Sm (path:=[]) (f:=str) (xs:=k17) rfl rfl bc hp19 rfl qC)) eA) rfl (uw rfl (pH rfl) fy),um ft⟩)
  ·refine aq 1 ?_
   refine cq 6 [3] [I (az (x2+1))] 275 ?_
   refine dQ ?_
   exact rg [0,3] [276,2] (ih _ _ h hr hn :)
 ·refine aq 1 ?_
  exact rg [0] [68,2] (hn _ (ai h) :) (hk:=hK)
theorem Ur (s_2:List aa)(r:(List aa))(h:zX s_2=some r):bo vr Tryz.f178 [true] 1 (CZ s_2) (C1 r):=by
 show Run _ _ (C0 s_2 r) [.code Jz] _
 refine rI 61 [(0,.hs 1 0 [] 1 0 (s_2.map str).length)] [(1,some ⟨0,1,s_2.map str⟩)] 2 ?_
 unfold zX at h
 refine cq 8 [6] [.hs 1 0 [] 1 0 (s_2.map str).length] 34 ?_
 refine oq 50 (I (len s_2)) rfl (br rfl rfl rfl (xg (f:=str) (xs:=s_2) rfl rfl)) ?_
 refine cq 2 [8] [B (decide ((len s_2)<2))] 66 ?_
 refine sq h ?_ ?_<;>intro h
 ·refine cq 5 [2] [.hs 1 0 [] 1 0 (s_2.map str).length] 98 ?_
  obtain rfl:=sI h
  exact ca rfl ⟨_,fin (vs:=[.hs 1 0 [] 1 0 (s_2.map str).length]) rfl (fq (eR rfl (cQ rfl rfl)) eA) rfl (uw rfl (pH rfl) fy),um ft⟩
 ·refine aq 1 ?_
  refine cq 6 [3] [I (1)] 82 ?_
  obtain⟨y20,hy20,hy201,hy202⟩:=bJ h
  refine cj rfl ?_
  refine rg [0,3] [83,1] (LL s_2 rfl 1 _ hy20 (fun r' e st hq=>by rw[hy201 r' e] at hq;exact hq) fun u20 hu=>?_)
  replace h:=hy202 u20 hu
  refine cq 5 [2] [.hs 2 0 [] 1 0 (u20.map str).length] 35 ?_
  obtain rfl:=sI h
  exact ca rfl ⟨_,fin (vs:=[.hs 2 0 [] 1 0 (u20.map str).length]) rfl (fq (eR rfl (cQ rfl rfl)) eA) rfl (uw rfl (pH rfl) fy),um ft⟩
theorem QC {G:bR}:bQ G 178 zY:=gT 1 1 bq bX Tryz.func178 (fun a r h=>Ur a r h)
def BN:(List aa)→List V:=oA (FV 1 str)
def BO (r:(List aa)):V×List V:=(.usl 1 (r.map str),[.dead])
noncomputable def yW :=aZ [true] BN BO fun x=>yV x
theorem YM {ja:List aa}{r}(h:yV ja=some r):yW.F (BN ja)=some (BO r):=aH (aI (pZ ba)) h
noncomputable def YO :=aF Tryz.f143
noncomputable def O4 :=bW [(177,uI),(178,zY)]
def YN (x:(List aa))(r:(List aa)):St→Prop:=QF O4 Tryz.f143 [true] (BN x) (BO r)
theorem TE (ja:List aa)(r:(List aa))(h:yV ja=some r):bo O4 Tryz.f143 [true] 1 (BN ja) (BO r):=by
 show Run _ _ (YN ja r) [.code YO] _
 refine rI 7 [(0,.hs 1 0 [] 1 0 (ja.map str).length)] [(1,some ⟨0,1,ja.map str⟩)] 2 ?_
 unfold yV at h
 refine cq 7 [3] [.hs 1 0 [] 1 0 (ja.map str).length] 34 ?_
 obtain⟨r2,hr2,h⟩:=bS h
 obtain⟨g3,h⟩:=gG h
 refine oq 50 (.tup []) rfl (ce rfl rfl (cS rfl rfl rfl (uL (qU rfl (lP (path:=[]) rfl rfl bc rfl)) dB) (Wx hr2) (.inr rfl) (tX rfl rfl rfl rfl eb) rfl rfl rfl)) ?_
 try rw[Yh (f:=str) (xs:=ja) (ys:=r2) g3]
 refine cq 4 [5] [.hs 1 0 [] 1 0 (r2.map str).length] 66 ?_
 obtain⟨r4,hr4,h⟩:=bS h
 refine oq 82 (.hs 66 0 [] 1 0 (r4.map str).length) rfl (ce rfl rfl (cS rfl rfl rfl (uL (qU rfl (lP (path:=[]) rfl rfl bc rfl)) dB) (ZQ hr4) (.inr rfl) (tX rfl rfl rfl mD eb) rfl rfl rfl)) ?_
 refine cq 2 [2] [.hs 66 0 [] 1 0 (r4.map str).length] 98 ?_
 obtain rfl:=sI h
 exact ca rfl ⟨_,fin (vs:=[.hs 66 0 [] 1 0 (r4.map str).length]) rfl (fq (eR rfl (cQ rfl rfl)) eA) rfl (uw rfl (pH rfl) fy),um ft⟩
theorem O5 {G:bR}:bQ G 143 yW:=gT 1 1 (aJ Mw (aJ QC bq)) bX Tryz.func143 (fun a r h=>TE a r h)
def Ir:Contract→List V:=oA aO
def Iv (r:(List aa)):V×List V:=(.usl 1 (r.map str),[])
noncomputable def sP :=aZ [false] Ir Iv fun x=>sN x
theorem Iu {c_1:Contract}{r}(h:sN c_1=some r):sP.F (Ir c_1)=some (Iv r):=aH (aI bb) h
noncomputable def WK :=aF Tryz.f101
noncomputable def NS :=bW [(142,Gn),(143,yW)]
def WJ (x:Contract)(r:(List aa)):St→Prop:=QF NS Tryz.f101 [false] (Ir x) (Iv r)
end Go.Ln
