/-
  The walks.
-/
import Derived.Test.YtcfddlacocdpoaaGreatDoorFnExactPowerForFun
import Derived.Test.YtcfddlacocdpoaaGreatDoorChecked
set_option maxHeartbeats 4000000
set_option linter.unusedVariables false
set_option linter.unusedSimpArgs false
set_option maxRecDepth 100000
namespace Go.Ln
open Go Go.Proofs
noncomputable abbrev ca:=Checked.mixed Tryz.checked
abbrev bU:=Go.Ln.Ground
abbrev bQ (G:bU):=fx Tryz.prog G
noncomputable abbrev b9:=SL Tryz.prog
def Cw:((List aa)×Int)→List V:=cA (eW str) (oA I)
def Cx (r:Int):V×List V:=(I r,[])
noncomputable def tw :=ba [false,false] Cw Cx fun x=>vh x.1 x.2
theorem PQ {a_1:List aa}{ap:Int}{r}(h:vh a_1 ap=some r):tw.F (Cw (a_1,ap))=some (Cx r):=aH (aN (bu bc) (aI bC)) h
noncomputable def PS :=aF Tryz.f41
noncomputable def Jd :=b9 []
def PR (x:(List aa)×Int)(r:Int):St→Prop:=QF Jd Tryz.f41 [false,false] (Cw x) (Cx r)
theorem Ls (a_1:List aa)(ap:Int):cW Jd 0 (PR (a_1,ap)) (cL (cL (cR (cL (cR (cR (cR PS))))))) 0 (rR a_1 ap) (fun u=>(sT 28 [(1,I u)] [] 1)) fun x3=>(sT 28 [(0,.isl false (a_1.map str)),(1,I x3.1),(5,I x3.2)] [] 1):=eF (xz a_1 ap) fun {Q K} hK self ih x3 y h hr hn=>by
 unfold ma at h
 refine cq 5 [12,13] [I x3.2,.isl false (a_1.map str)] 33 ?_
 refine oq 49 (I (len a_1)) rfl (bq rfl rfl rfl (bB rfl)) ?_
 refine cq 2 [15] [B (decide (x3.2<(len a_1)))] 65 ?_
 refine sq h ?_ ?_<;>intro h
 ·refine aq 1 ?_
  refine cq 7 [18,19,20] [I x3.1,.isl false (a_1.map str),I x3.2] 113 ?_
  obtain⟨e4,he4,h⟩:=bS h
  refine oq 129 (.iptr (str e4) 0) rfl (au rfl rfl rfl (aV rfl rfl rfl rfl he4)) ?_
  refine cq 10 [1,26] [I (az (x3.1 - (len e4))),B (decide ((az (x3.1 - (len e4)))<0))] 225 ?_
  refine sq h ?_ ?_<;>intro h
  ·refine cq 4 [4] [I (-1)] 241 ?_
   exact b8 rfl (hr _ (ai h) _ (qp [I (-1)]))
  ·refine aq 1 ?_
   refine cq 6 [5] [I (az (x3.2+1))] 273 ?_
   refine dP ?_
   exact rf [0,1,5] [] (ih _ _ h hr hn :)
 ·refine aq 1 ?_
  exact rf [1] [] (hn _ (ai h) :) (hk:=hK)
theorem TR (a_1:List aa)(ap:Int)(r:Int)(h:vh a_1 ap=some r):bp Jd Tryz.f41 [false,false] 0 (Cw (a_1,ap)) (Cx r):=by
 show Run _ _ (PR (a_1,ap) r) [.code PS] _
 refine rI 28 [(0,.isl false (a_1.map str)),(1,I ap)] [] 1 ?_
 unfold vh at h
 refine cq 8 [6,7] [I ap,.isl false (a_1.map str)] 49 ?_
 refine oq 65 (I (len a_1)) rfl (bq rfl rfl rfl (bB rfl)) ?_
 refine cq 9 [1,11] [I (az (ap - (len a_1))),B (decide ((az (ap - (len a_1)))<0))] 129 ?_
 refine sq h ?_ ?_<;>intro h
 ·refine cq 4 [4] [I (-1)] 145 ?_
  obtain rfl:=sI h
  exact rP [I (-1)]
 ·refine aq 1 ?_
  refine cq 6 [5] [I (0)] 145 ?_
  obtain⟨y5,hy5,hy51,hy52⟩:=bJ h
  refine ci rfl ?_
  refine rf [0,1,5] [] (Ls a_1 ap rfl ((az (ap - (len a_1))),0) _ hy5 (fun r' e st hq=>by rw[hy51 r' e] at hq;exact hq) fun u5 hu=>?_)
  replace h:=hy52 u5 hu
  refine cq 5 [4] [I u5] 33 ?_
  obtain rfl:=sI h
  exact rP [I u5]
theorem GW {G:bU}:bQ G 41 tw:=gT 2 0 bv ca Tryz.func41 (fun a r h=>TR a.1 a.2 r h)
def vd:(Condition×Int)→List V:=cA bg (oA I)
def ve (r:Int):V×List V:=(I r,[])
noncomputable def qC (bh:(Condition×Int)→Option Int):Ent:=ba [false,false] vd ve bh
theorem Ml (bh:(Condition×Int)→Option Int){x}{r}(h:bh x=some r):(qC bh).F (vd x)=some (ve r):=aH (aN cG (aI bC)) h
def Cg:((List Condition)×Int)→List V:=cA (eW ay) (oA I)
def Ci (r:Int):V×List V:=(I r,[])
noncomputable def zp (bh:(Condition×Int)→Option Int):Ent:=ba [false,false] Cg Ci fun x=>vf bh x.1 x.2
theorem YV (bh:(Condition×Int)→Option Int){a_1:List Condition}{ap:Int}{r}(h:vf bh a_1 ap=some r):(zp bh).F (Cg (a_1,ap))=some (Ci r):=aH (aN (bu eS) (aI bC)) h
noncomputable def PF :=aF Tryz.f168
noncomputable def Jc (bh:(Condition×Int)→Option Int):Env:=b9 [(134,(qC bh))]
def PE (bh:(Condition×Int)→Option Int)(x:(List Condition)×Int)(r:Int):St→Prop:=QF (Jc bh) Tryz.f168 [false,false] (Cg x) (Ci r)
theorem Lr (bh:(Condition×Int)→Option Int)(a_1:List Condition)(ap:Int):cW (Jc bh) 0 (PE bh (a_1,ap)) (cL (cL (cR (cL (cR (cR (cR PF))))))) 0 (pK bh a_1 ap) (fun u=>(sT 27 [(1,I u)] [] 1)) fun x3=>(sT 27 [(0,.isl false (a_1.map ay)),(1,I x3.1),(5,I x3.2)] [] 1):=eF (xy bh a_1 ap) fun {Q K} hK self ih x3 y h hr hn=>by
 unfold kj at h
 refine cq 5 [12,13] [I x3.2,.isl false (a_1.map ay)] 33 ?_
 refine oq 49 (I (len a_1)) rfl (bq rfl rfl rfl (bB rfl)) ?_
 refine cq 2 [15] [B (decide (x3.2<(len a_1)))] 65 ?_
 refine sq h ?_ ?_<;>intro h
 ·refine aq 1 ?_
  refine cq 6 [18,19] [.isl false (a_1.map ay),I x3.2] 97 ?_
  obtain⟨e4,he4,h⟩:=bS h
  refine oq 113 (.iptr (bg e4) 0) rfl (au rfl rfl rfl (aV rfl rfl (bA e4) rfl he4)) ?_
  refine cq 2 [21,22] [bg e4,I x3.1] 145 ?_
  obtain⟨r5,hr5,h⟩:=bS h
  refine oq 161 (I r5) rfl (cd rfl rfl (cO rfl rfl rfl (bw (bR rfl) (bw (bR rfl) dB)) (Ml bh hr5) (.inr rfl) d9 rfl rfl rfl)) ?_
  refine cq 7 [1,25] [I r5,B (decide (r5<0))] 209 ?_
  refine sq h ?_ ?_<;>intro h
  ·refine cq 4 [4] [I (-1)] 225 ?_
   exact b8 rfl (hr _ (ai h) _ (qp [I (-1)]))
  ·refine aq 1 ?_
   refine cq 6 [5] [I (az (x3.2+1))] 257 ?_
   refine dP ?_
   exact rf [0,1,5] [] (ih _ _ h hr hn :)
 ·refine aq 1 ?_
  exact rf [1] [] (hn _ (ai h) :) (hk:=hK)
theorem TL (bh:(Condition×Int)→Option Int)(a_1:List Condition)(ap:Int)(r:Int)(h:vf bh a_1 ap=some r):bp (Jc bh) Tryz.f168 [false,false] 0 (Cg (a_1,ap)) (Ci r):=by
 show Run _ _ (PE bh (a_1,ap) r) [.code PF] _
 refine rI 27 [(0,.isl false (a_1.map ay)),(1,I ap)] [] 1 ?_
 unfold vf at h
 refine cq 8 [6,7] [I ap,.isl false (a_1.map ay)] 49 ?_
 refine oq 65 (I (len a_1)) rfl (bq rfl rfl rfl (bB rfl)) ?_
 refine cq 9 [1,11] [I (az (ap - (len a_1))),B (decide ((az (ap - (len a_1)))<0))] 129 ?_
 refine sq h ?_ ?_<;>intro h
 ·refine cq 4 [4] [I (-1)] 145 ?_
  obtain rfl:=sI h
  exact rP [I (-1)]
 ·refine aq 1 ?_
  refine cq 6 [5] [I (0)] 145 ?_
  obtain⟨y6,hy6,hy61,hy62⟩:=bJ h
  refine ci rfl ?_
  refine rf [0,1,5] [] (Lr bh a_1 ap rfl ((az (ap - (len a_1))),0) _ hy6 (fun r' e st hq=>by rw[hy61 r' e] at hq;exact hq) fun u6 hu=>?_)
  replace h:=hy62 u6 hu
  refine cq 5 [4] [I u6] 33 ?_
  obtain rfl:=sI h
  exact rP [I u6]
theorem PG {G:bU}(bh:(Condition×Int)→Option Int)(Kv:bQ G 134 (qC bh)):bQ G 168 (zp bh):=gT 2 0 (aJ Kv bv) ca Tryz.func168 (fun a r h=>TL bh a.1 a.2 r h)
noncomputable def zo :=qC (aM oG)
theorem YS {a_1:Condition}{ap:Int}{r}(h:vc a_1 ap=some r):zo.F (vd (a_1,ap))=some (ve r):=Ml (aM oG) h
noncomputable def YU :=aF Tryz.f134
noncomputable def PC (bh:(Condition×Int)→Option Int):Env:=b9 [(168,(zp bh))]
def YT (bh:(Condition×Int)→Option Int)(x:Condition×Int)(r:Int):St→Prop:=QF (PC bh) Tryz.f134 [false,false] (vd x) (ve r)
theorem TK (bh:(Condition×Int)→Option Int)(a_1:Condition)(ap:Int)(r:Int)(h:rO bh a_1 ap=some r):bp (PC bh) Tryz.f134 [false,false] 0 (vd (a_1,ap)) (ve r):=by
 show Run _ _ (YT bh (a_1,ap) r) [.code YU] _
 refine rI 19 [(0,bg a_1),(1,I ap)] [] 1 ?_
 unfold rO at h
 refine ck 20 [1,2,11] [] [1] [] [I (az (ap - (len a_1.Name))),.hp 1 0 [] 4 0 0,B (decide ((az (ap - (len a_1.Name)))<0))] [some ⟨0,4,[bg a_1]⟩] 161 (by kernel_rfl) ?_
 refine sq h ?_ ?_<;>intro h
 ·refine cq 4 [4] [I (-1)] 177 ?_
  obtain rfl:=sI h
  exact rP [I (-1)]
 ·refine aq 1 ?_
  refine cq 5 [13,14] [.isl false (a_1.Parts.map ay),I (az (ap - (len a_1.Name)))] 209 ?_
  obtain⟨r3,hr3,h⟩:=bS h
  refine oq 225 (I r3) rfl (cd rfl rfl (cO rfl rfl rfl (bw (bR rfl) (bw (bR rfl) dB)) (YV bh hr3) (.inr rfl) d9 rfl rfl rfl)) ?_
  refine cq 8 [1,17] [I r3,B (decide (r3<0))] 273 ?_
  refine sq h ?_ ?_<;>intro h
  ·refine cq 4 [4] [I (-1)] 289 ?_
   obtain rfl:=sI h
   exact rP [I (-1)]
  ·refine aq 1 ?_
   refine cq 5 [4] [I r3] 305 ?_
   obtain rfl:=sI h
   exact rP [I r3]
theorem PD {G:bU}:bQ G 134 zo:=iB fun bh Kv=>gT 2 0 (aJ (PG bh Kv) bv) ca Tryz.func134 (fun a r h=>TK bh a.1 a.2 r h)
def Cc:(Clause×Int)→List V:=cA aj (oA I)
def Cd (r:Int):V×List V:=(I r,[])
noncomputable def zl :=ba [false,false] Cc Cd fun x=>tv x.1 x.2
theorem YO {a_1:Clause}{ap:Int}{r}(h:tv a_1 ap=some r):zl.F (Cc (a_1,ap))=some (Cd r):=aH (aN cB (aI bC)) h
noncomputable def YQ :=aF Tryz.f88
noncomputable def Px :=b9 [(134,zo)]
def YP (x:Clause×Int)(r:Int):St→Prop:=QF Px Tryz.f88 [false,false] (Cc x) (Cd r)
theorem TG (a_1:Clause)(ap:Int)(r:Int)(h:tv a_1 ap=some r):bp Px Tryz.f88 [false,false] 0 (Cc (a_1,ap)) (Cd r):=by
 show Run _ _ (YP (a_1,ap) r) [.code YQ] _
 refine rI 33 [(0,aj a_1),(1,I ap)] [] 1 ?_
 unfold tv at h
 refine ck 20 [1,2,11] [] [1] [] [I (az (ap - (len a_1.Id))),.hp 1 0 [] 12 0 0,B (decide ((az (ap - (len a_1.Id)))<0))] [some ⟨0,12,[aj a_1]⟩] 161 (by kernel_rfl) ?_
 refine sq h ?_ ?_<;>intro h
 ·refine cq 4 [4] [I (-1)] 177 ?_
  obtain rfl:=sI h
  exact rP [I (-1)]
 ·refine aq 1 ?_
  refine cq 15 [1,18] [I (az ((az (ap - (len a_1.Id))) - (len a_1.Action))),B (decide ((az ((az (ap - (len a_1.Id))) - (len a_1.Action)))<0))] 289 ?_
  refine sq h ?_ ?_<;>intro h
  ·refine cq 4 [4] [I (-1)] 305 ?_
   obtain rfl:=sI h
   exact rP [I (-1)]
  ·refine aq 1 ?_
   refine cq 5 [20,21] [bg a_1.When,I (az ((az (ap - (len a_1.Id))) - (len a_1.Action)))] 337 ?_
   obtain⟨r3,hr3,h⟩:=bS h
   refine oq 353 (I r3) rfl (cP (YS hr3)) ?_
   refine cq 8 [1,24] [I r3,B (decide (r3<0))] 401 ?_
   refine sq h ?_ ?_<;>intro h
   ·refine cq 4 [4] [I (-1)] 417 ?_
    obtain rfl:=sI h
    exact rP [I (-1)]
   ·refine aq 1 ?_
    refine cq 15 [1,31] [I (az (r3 - (len a_1.Repair))),B (decide ((az (r3 - (len a_1.Repair)))<0))] 529 ?_
    refine sq h ?_ ?_<;>intro h
    ·refine cq 4 [4] [I (-1)] 545 ?_
     obtain rfl:=sI h
     exact rP [I (-1)]
    ·refine aq 1 ?_
     refine cq 5 [4] [I (az (r3 - (len a_1.Repair)))] 561 ?_
     obtain rfl:=sI h
     exact rP [I (az (r3 - (len a_1.Repair)))]
theorem Py {G:bU}:bQ G 88 zl:=gT 2 0 (aJ PD bv) ca Tryz.func88 (fun a r h=>TG a.1 a.2 r h)
def Ce:((List Clause)×Int)→List V:=cA (eW aj) (oA I)
def Cf (r:Int):V×List V:=(I r,[])
noncomputable def zn :=ba [false,false] Ce Cf fun x=>zm x.1 x.2
theorem YR {a_1:List Clause}{ap:Int}{r}(h:zm a_1 ap=some r):zn.F (Ce (a_1,ap))=some (Cf r):=aH (aN (bu cB) (aI bC)) h
noncomputable def PA :=aF Tryz.f42
noncomputable def Jb :=b9 [(88,zl)]
def Pz (x:(List Clause)×Int)(r:Int):St→Prop:=QF Jb Tryz.f42 [false,false] (Ce x) (Cf r)
theorem Lq (a_1:List Clause)(ap:Int):cW Jb 0 (Pz (a_1,ap)) (cL (cL (cR (cL (cR (cR (cR PA))))))) 0 (rN a_1 ap) (fun u=>(sT 27 [(1,I u)] [] 1)) fun x3=>(sT 27 [(0,.isl false (a_1.map aj)),(1,I x3.1),(5,I x3.2)] [] 1):=eF (xw a_1 ap) fun {Q K} hK self ih x3 y h hr hn=>by
 unfold l9 at h
 refine cq 5 [12,13] [I x3.2,.isl false (a_1.map aj)] 33 ?_
 refine oq 49 (I (len a_1)) rfl (bq rfl rfl rfl (bB rfl)) ?_
 refine cq 2 [15] [B (decide (x3.2<(len a_1)))] 65 ?_
 refine sq h ?_ ?_<;>intro h
 ·refine aq 1 ?_
  refine cq 6 [18,19] [.isl false (a_1.map aj),I x3.2] 97 ?_
  obtain⟨e4,he4,h⟩:=bS h
  refine oq 113 (.iptr (aj e4) 0) rfl (au rfl rfl rfl (aV rfl rfl rfl rfl he4)) ?_
  refine cq 2 [21,22] [aj e4,I x3.1] 145 ?_
  obtain⟨r5,hr5,h⟩:=bS h
  refine oq 161 (I r5) rfl (cP (YO hr5)) ?_
  refine cq 7 [1,25] [I r5,B (decide (r5<0))] 209 ?_
  refine sq h ?_ ?_<;>intro h
  ·refine cq 4 [4] [I (-1)] 225 ?_
   exact b8 rfl (hr _ (ai h) _ (qp [I (-1)]))
  ·refine aq 1 ?_
   refine cq 6 [5] [I (az (x3.2+1))] 257 ?_
   refine dP ?_
   exact rf [0,1,5] [] (ih _ _ h hr hn :)
 ·refine aq 1 ?_
  exact rf [1] [] (hn _ (ai h) :) (hk:=hK)
theorem TH (a_1:List Clause)(ap:Int)(r:Int)(h:zm a_1 ap=some r):bp Jb Tryz.f42 [false,false] 0 (Ce (a_1,ap)) (Cf r):=by
 show Run _ _ (Pz (a_1,ap) r) [.code PA] _
 refine rI 27 [(0,.isl false (a_1.map aj)),(1,I ap)] [] 1 ?_
 unfold zm at h
 refine cq 8 [6,7] [I ap,.isl false (a_1.map aj)] 49 ?_
 refine oq 65 (I (len a_1)) rfl (bq rfl rfl rfl (bB rfl)) ?_
 refine cq 9 [1,11] [I (az (ap - (len a_1))),B (decide ((az (ap - (len a_1)))<0))] 129 ?_
 refine sq h ?_ ?_<;>intro h
 ·refine cq 4 [4] [I (-1)] 145 ?_
  obtain rfl:=sI h
  exact rP [I (-1)]
 ·refine aq 1 ?_
  refine cq 6 [5] [I (0)] 145 ?_
  obtain⟨y6,hy6,hy61,hy62⟩:=bJ h
  refine ci rfl ?_
  refine rf [0,1,5] [] (Lq a_1 ap rfl ((az (ap - (len a_1))),0) _ hy6 (fun r' e st hq=>by rw[hy61 r' e] at hq;exact hq) fun u6 hu=>?_)
  replace h:=hy62 u6 hu
  refine cq 5 [4] [I u6] 33 ?_
  obtain rfl:=sI h
  exact rP [I u6]
theorem PB {G:bU}:bQ G 42 zn:=gT 2 0 (aJ Py bv) ca Tryz.func42 (fun a r h=>TH a.1 a.2 r h)
def Cj:(Contract×Int)→List V:=cA aO (oA I)
def Ck (r:Int):V×List V:=(I r,[])
noncomputable def zr :=ba [false,false] Cj Ck fun x=>zq x.1 x.2
theorem YW {a_1:Contract}{ap:Int}{r}(h:zq a_1 ap=some r):zr.F (Cj (a_1,ap))=some (Ck r):=aH (aN aZ (aI bC)) h
noncomputable def YY :=aF Tryz.f12
noncomputable def PH :=b9 [(41,tw),(42,zn)]
def YX (x:Contract×Int)(r:Int):St→Prop:=QF PH Tryz.f12 [false,false] (Cj x) (Ck r)
theorem TM (a_1:Contract)(ap:Int)(r:Int)(h:zq a_1 ap=some r):bp PH Tryz.f12 [false,false] 0 (Cj (a_1,ap)) (Ck r):=by
 show Run _ _ (YX (a_1,ap) r) [.code YY] _
 refine rI 18 [(0,aO a_1),(1,I ap)] [] 1 ?_
 unfold zq at h
 refine ck 10 [2,6,7] [] [1] [] [.hp 1 0 [] 2 0 0,.isl false (a_1.Parties.map str),I ap] [some ⟨0,2,[aO a_1]⟩] 81 (by kernel_rfl) ?_
 obtain⟨r3,hr3,h⟩:=bS h
 refine oq 97 (I r3) rfl (cP (PQ hr3)) ?_
 refine cq 8 [1,10] [I r3,B (decide (r3<0))] 145 ?_
 refine sq h ?_ ?_<;>intro h
 ·refine cq 4 [4] [I (-1)] 161 ?_
  obtain rfl:=sI h
  exact rP [I (-1)]
 ·refine aq 1 ?_
  refine cq 5 [12,13] [.isl false (a_1.Clauses.map aj),I r3] 193 ?_
  obtain⟨r4,hr4,h⟩:=bS h
  refine oq 209 (I r4) rfl (cP (YR hr4)) ?_
  refine cq 8 [1,16] [I r4,B (decide (r4<0))] 257 ?_
  refine sq h ?_ ?_<;>intro h
  ·refine cq 4 [4] [I (-1)] 273 ?_
   obtain rfl:=sI h
   exact rP [I (-1)]
  ·refine aq 1 ?_
   refine cq 5 [4] [I r4] 289 ?_
   obtain rfl:=sI h
   exact rP [I r4]
theorem PI {G:bU}:bQ G 12 zr:=gT 2 0 (aJ GW (aJ PB bv)) ca Tryz.func12 (fun a r h=>TM a.1 a.2 r h)
def Cl:((List Duty)×Int)→List V:=cA (eW ae) (oA I)
def Cm (r:Int):V×List V:=(I r,[])
noncomputable def zu :=ba [false,false] Cl Cm fun x=>zt x.1 x.2
theorem YZ {a_1:List Duty}{ap:Int}{r}(h:zt a_1 ap=some r):zu.F (Cl (a_1,ap))=some (Cm r):=aH (aN (bu dH) (aI bC)) h
noncomputable def Y1 :=aF Tryz.f53
noncomputable def PJ :=b9 []
def Y0 (x:(List Duty)×Int)(r:Int):St→Prop:=QF PJ Tryz.f53 [false,false] (Cl x) (Cm r)
theorem TN (a_1:List Duty)(ap:Int)(r:Int)(h:zt a_1 ap=some r):bp PJ Tryz.f53 [false,false] 0 (Cl (a_1,ap)) (Cm r):=by
 show Run _ _ (Y0 (a_1,ap) r) [.code Y1] _
 refine rI 12 [(0,.isl false (a_1.map ae)),(1,I ap)] [] 1 ?_
 unfold zt at h
 refine cq 8 [5,6] [I ap,.isl false (a_1.map ae)] 49 ?_
 refine oq 65 (I (len a_1)) rfl (bq rfl rfl rfl (bB rfl)) ?_
 refine cq 9 [1,10] [I (az (ap - (len a_1))),B (decide ((az (ap - (len a_1)))<0))] 129 ?_
 refine sq h ?_ ?_<;>intro h
 ·refine cq 4 [4] [I (-1)] 145 ?_
  obtain rfl:=sI h
  exact rP [I (-1)]
 ·refine aq 1 ?_
  refine cq 5 [4] [I (az (ap - (len a_1)))] 161 ?_
  obtain rfl:=sI h
  exact rP [I (az (ap - (len a_1)))]
theorem PK {G:bU}:bQ G 53 zu:=gT 2 0 bv ca Tryz.func53 (fun a r h=>TN a.1 a.2 r h)
def Cn:((List Int)×Int)→List V:=cA (eW I) (oA I)
def Co (r:Int):V×List V:=(I r,[])
noncomputable def zx :=ba [false,false] Cn Co fun x=>zw x.1 x.2
theorem Y2 {a_1:List Int}{ap:Int}{r}(h:zw a_1 ap=some r):zx.F (Cn (a_1,ap))=some (Co r):=aH (aN (bu bC) (aI bC)) h
noncomputable def Y4 :=aF Tryz.f54
noncomputable def PL :=b9 []
def Y3 (x:(List Int)×Int)(r:Int):St→Prop:=QF PL Tryz.f54 [false,false] (Cn x) (Co r)
theorem TP (a_1:List Int)(ap:Int)(r:Int)(h:zw a_1 ap=some r):bp PL Tryz.f54 [false,false] 0 (Cn (a_1,ap)) (Co r):=by
 show Run _ _ (Y3 (a_1,ap) r) [.code Y4] _
 refine rI 12 [(0,.isl false (a_1.map I)),(1,I ap)] [] 1 ?_
 unfold zw at h
 refine cq 8 [5,6] [I ap,.isl false (a_1.map I)] 49 ?_
 refine oq 65 (I (len a_1)) rfl (bq rfl rfl rfl (bB rfl)) ?_
 refine cq 9 [1,10] [I (az (ap - (len a_1))),B (decide ((az (ap - (len a_1)))<0))] 129 ?_
 refine sq h ?_ ?_<;>intro h
 ·refine cq 4 [4] [I (-1)] 145 ?_
  obtain rfl:=sI h
  exact rP [I (-1)]
 ·refine aq 1 ?_
  refine cq 5 [4] [I (az (ap - (len a_1)))] 161 ?_
  obtain rfl:=sI h
  exact rP [I (az (ap - (len a_1)))]
theorem PM {G:bU}:bQ G 54 zx:=gT 2 0 bv ca Tryz.func54 (fun a r h=>TP a.1 a.2 r h)
def Cp:(State×Int)→List V:=cA b7 (oA I)
def Cq (r:Int):V×List V:=(I r,[])
noncomputable def zz :=ba [false,false] Cp Cq fun x=>zy x.1 x.2
theorem Y5 {a_1:State}{ap:Int}{r}(h:zy a_1 ap=some r):zz.F (Cp (a_1,ap))=some (Cq r):=aH (aN cY (aI bC)) h
noncomputable def Y7 :=aF Tryz.f21
noncomputable def PN :=b9 [(41,tw),(53,zu),(54,zx)]
def Y6 (x:State×Int)(r:Int):St→Prop:=QF PN Tryz.f21 [false,false] (Cp x) (Cq r)
theorem TQ (a_1:State)(ap:Int)(r:Int)(h:zy a_1 ap=some r):bp PN Tryz.f21 [false,false] 0 (Cp (a_1,ap)) (Cq r):=by
 show Run _ _ (Y6 (a_1,ap) r) [.code Y7] _
 refine rI 24 [(0,b7 a_1),(1,I ap)] [] 1 ?_
 unfold zy at h
 refine ck 10 [2,6,7] [] [1] [] [.hp 1 0 [] 5 0 0,.isl false (a_1.Facts.map str),I ap] [some ⟨0,5,[b7 a_1]⟩] 81 (by kernel_rfl) ?_
 obtain⟨r3,hr3,h⟩:=bS h
 refine oq 97 (I r3) rfl (cP (PQ hr3)) ?_
 refine cq 8 [1,10] [I r3,B (decide (r3<0))] 145 ?_
 refine sq h ?_ ?_<;>intro h
 ·refine cq 4 [4] [I (-1)] 161 ?_
  obtain rfl:=sI h
  exact rP [I (-1)]
 ·refine aq 1 ?_
  refine cq 5 [12,13] [.isl false (a_1.Duties.map ae),I r3] 193 ?_
  obtain⟨r4,hr4,h⟩:=bS h
  refine oq 209 (I r4) rfl (cP (YZ hr4)) ?_
  refine cq 8 [1,16] [I r4,B (decide (r4<0))] 257 ?_
  refine sq h ?_ ?_<;>intro h
  ·refine cq 4 [4] [I (-1)] 273 ?_
   obtain rfl:=sI h
   exact rP [I (-1)]
  ·refine aq 1 ?_
   refine cq 5 [18,19] [.isl false (a_1.Balances.map I),I r4] 305 ?_
   obtain⟨r5,hr5,h⟩:=bS h
   refine oq 321 (I r5) rfl (cP (Y2 hr5)) ?_
   refine cq 8 [1,22] [I r5,B (decide (r5<0))] 369 ?_
   refine sq h ?_ ?_<;>intro h
   ·refine cq 4 [4] [I (-1)] 385 ?_
    obtain rfl:=sI h
    exact rP [I (-1)]
   ·refine aq 1 ?_
    refine cq 5 [4] [I r5] 401 ?_
    obtain rfl:=sI h
    exact rP [I r5]
theorem PO {G:bU}:bQ G 21 zz:=gT 2 0 (aJ GW (aJ PK (aJ PM bv))) ca Tryz.func21 (fun a r h=>TQ a.1 a.2 r h)
def CO:(List aa)→List V:=oA (eW str)
def CP (r:(List aa)):V×List V:=(.usl 1 (r.map str),[])
noncomputable def tA :=ba [false] CO CP fun x=>vp x
theorem Qf {a_1:List aa}{r}(h:vp a_1=some r):tA.F (CO a_1)=some (CP r):=aH (aI (bu bc)) h
noncomputable def Qh :=aF Tryz.f45
noncomputable def Ji :=b9 []
def Qg (x:(List aa))(r:(List aa)):St→Prop:=QF Ji Tryz.f45 [false] (CO x) (CP r)
theorem Ly (a_1:List aa):cW Ji 0 (Qg a_1) (cL (cL (cR (cL (cR (cR Qh)))))) 0 (rX a_1) (fun u=>(sT 22 [(3,.hs 1 0 [] 1 0 (u.map str).length)] [⟨0,1,u.map str⟩] 2)) fun x3=>(sT 22 [(0,.isl false (a_1.map str)),(3,.hs 1 0 [] 1 0 (x3.2.map str).length),(4,I x3.1)] [⟨0,1,x3.2.map str⟩] 2):=eF (xE a_1) fun {Q K} hK self ih x3 y h hr hn=>by
 unfold me at h
 refine cq 5 [8,9] [I x3.1,.isl false (a_1.map str)] 34 ?_
 refine oq 50 (I (len a_1)) rfl (bq rfl rfl rfl (bB rfl)) ?_
 refine cq 2 [11] [B (decide (x3.1<(len a_1)))] 66 ?_
 refine sq h ?_ ?_<;>intro h
 ·refine aq 1 ?_
  refine cq 7 [14,15,16,17] [.hs 1 0 [] 1 0 (x3.2.map str).length,I x3.1,.isl false (a_1.map str),I x3.1] 130 ?_
  obtain⟨e4,he4,h⟩:=bS h
  refine oq 146 (.iptr (str e4) 0) rfl (au rfl rfl rfl (aV rfl rfl rfl rfl he4)) ?_
  refine cq 1 [19] [str e4] 162 ?_
  obtain⟨e5,he5,h⟩:=bS h
  refine oq 178 (.hp 1 0 [] 1 (0+Int.toNat x3.1) 0) rfl (au rfl rfl rfl (i6 (f:=str) (xs:=x3.2) rfl rfl rfl he5)) ?_
  refine o0 194 rfl rfl (gw rfl rfl (fp (path:=[]) (pl:=true) (e':=str e4) (es2':=(fI x3.2 x3.1 e4).map str) rfl (fO rfl) rfl rfl rfl bb (gU (f:=str) (xs:=x3.2) he5) rfl rfl rfl (mK (f:=str) (xs:=x3.2) (y:=e4)) d8 0 rfl)) ?_
  try rw[←kL (f:=str) (xs:=x3.2) (i:=x3.1) (z:=e4)]
  refine cq 7 [4] [I (az (x3.1+1))] 242 ?_
  refine dP ?_
  exact rf [0,3,4] [1] (ih _ _ h hr hn :)
 ·refine aq 1 ?_
  exact rf [3] [1] (hn _ (ai h) :) (hk:=hK)
theorem T4 (a_1:List aa)(r:(List aa))(h:vp a_1=some r):bp Ji Tryz.f45 [false] 0 (CO a_1) (CP r):=by
 show Run _ _ (Qg a_1 r) [.code Qh] _
 refine rI 22 [(0,.isl false (a_1.map str))] [] 1 ?_
 unfold vp at h
 refine cq 7 [5] [.isl false (a_1.map str)] 33 ?_
 refine oq 49 (I (len a_1)) rfl (bq rfl rfl rfl (bB rfl)) ?_
 obtain⟨m2,hm2,h⟩:=bS h
 refine oq 65 (.hs 49 0 [] 1 0 (m2.map str).length) rfl (jT rfl rfl (Fj (f:=str) rfl rfl rfl (by decide) hm2 rfl)) ?_
 refine cq 8 [3,4] [.hs 49 0 [] 1 0 (m2.map str).length,I (0)] 97 ?_
 obtain⟨y6,hy6,hy61,hy62⟩:=bJ h
 refine ci rfl ?_
 refine rf [0,3,4] [49] (Ly a_1 rfl (0,m2) _ hy6 (fun r' e st hq=>by rw[hy61 r' e] at hq;exact hq) fun u6 hu=>?_)
 replace h:=hy62 u6 hu
 refine cq 5 [2] [.hs 1 0 [] 1 0 (u6.map str).length] 34 ?_
 obtain rfl:=sI h
 exact b8 rfl ⟨_,fin (vs:=[.hs 1 0 [] 1 0 (u6.map str).length]) rfl (fk (eO rfl (cN rfl rfl)) ey) rfl (eP fu),fm⟩
theorem GX {G:bU}:bQ G 45 tA:=gT 1 0 bv ca Tryz.func45 (fun a r h=>T4 a r h)
def vj:Condition→List V:=oA bg
def vk (r:Condition):V×List V:=(o9 r,[])
noncomputable def qE (bi:Condition→Option Condition):Ent:=ba [false] vj vk bi
theorem Mm (bi:Condition→Option Condition){x}{r}(h:bi x=some r):(qE bi).F (vj x)=some (vk r):=aH (aI cG) h
def CC:(List Condition)→List V:=oA (eW ay)
def CD (r:(List Condition)):V×List V:=(.usl 4 (r.map aC),[])
noncomputable def zF (bi:Condition→Option Condition):Ent:=ba [false] CC CD fun x=>vl bi x
theorem Zf (bi:Condition→Option Condition){a_1:List Condition}{r}(h:vl bi a_1=some r):(zF bi).F (CC a_1)=some (CD r):=aH (aI (bu eS)) h
noncomputable def P1 :=aF Tryz.f174
noncomputable def Jf (bi:Condition→Option Condition):Env:=b9 [(139,(qE bi))]
def P0 (bi:Condition→Option Condition)(x:(List Condition))(r:(List Condition)):St→Prop:=QF (Jf bi) Tryz.f174 [false] (CC x) (CD r)
theorem Lv (bi:Condition→Option Condition)(a_1:List Condition):cW (Jf bi) 0 (P0 bi a_1) (cL (cL (cR (cL (cR (cR P1)))))) 0 (pL bi a_1) (fun u=>(sT 23 [(3,.hs 1 0 [] 4 0 (u.map aC).length)] [⟨0,4,u.map aC⟩] 2)) fun x3=>(sT 23 [(0,.isl false (a_1.map ay)),(3,.hs 1 0 [] 4 0 (x3.2.map aC).length),(4,I x3.1)] [⟨0,4,x3.2.map aC⟩] 2):=eF (xB bi a_1) fun {Q K} hK self ih x3 y h hr hn=>by
 unfold km at h
 refine cq 5 [8,9] [I x3.1,.isl false (a_1.map ay)] 34 ?_
 refine oq 50 (I (len a_1)) rfl (bq rfl rfl rfl (bB rfl)) ?_
 refine cq 2 [11] [B (decide (x3.1<(len a_1)))] 66 ?_
 refine sq h ?_ ?_<;>intro h
 ·refine aq 1 ?_
  refine cq 7 [14,15,16,17] [.hs 1 0 [] 4 0 (x3.2.map aC).length,I x3.1,.isl false (a_1.map ay),I x3.1] 130 ?_
  obtain⟨e4,he4,h⟩:=bS h
  refine oq 146 (.iptr (bg e4) 0) rfl (au rfl rfl rfl (aV rfl rfl (bA e4) rfl he4)) ?_
  refine cq 1 [19] [bg e4] 162 ?_
  obtain⟨r5,hr5,h⟩:=bS h
  refine oq 178 (.agg [I r5.Op,str r5.Name,I r5.Day,.hs 162 0 [] 4 0 (r5.Parts.map aC).length]) rfl (cd rfl rfl (cO rfl rfl rfl (bw (bR rfl) dB) (Mm bi hr5) (.inr rfl) d9 rfl rfl rfl)) ?_
  obtain⟨e6,he6,h⟩:=bS h
  refine oq 194 (.hp 1 0 [] 4 (0+Int.toNat x3.1) 0) rfl (au rfl rfl rfl (i6 (f:=aC) (xs:=x3.2) rfl rfl rfl he6)) ?_
  refine o0 210 rfl rfl (gw rfl rfl (fp (path:=[]) (pl:=false) (e':=o9 r5) (es2':=(fI x3.2 x3.1 r5).map aC) rfl (ls (bK (co rfl) (bK (co rfl) (bK (co rfl) (bK (cN rfl rfl) lu))))) rfl rfl rfl bb (VF (f:=aC) (xs:=x3.2) (lw e6) he6) rfl rfl rfl (V0 (f:=aC) (xs:=x3.2) (lw r5)) d8 1 rfl)) ?_
  try rw[←kL (f:=aC) (xs:=x3.2) (i:=x3.1) (z:=r5)]
  refine cq 7 [4] [I (az (x3.1+1))] 258 ?_
  refine dP ?_
  exact rf [0,3,4] [1] (ih _ _ h hr hn :)
 ·refine aq 1 ?_
  exact rf [3] [1] (hn _ (ai h) :) (hk:=hK)
theorem TX (bi:Condition→Option Condition)(a_1:List Condition)(r:(List Condition))(h:vl bi a_1=some r):bp (Jf bi) Tryz.f174 [false] 0 (CC a_1) (CD r):=by
 show Run _ _ (P0 bi a_1 r) [.code P1] _
 refine rI 23 [(0,.isl false (a_1.map ay))] [] 1 ?_
 unfold vl at h
 refine cq 7 [5] [.isl false (a_1.map ay)] 33 ?_
 refine oq 49 (I (len a_1)) rfl (bq rfl rfl rfl (bB rfl)) ?_
 obtain⟨m2,hm2,h⟩:=bS h
 refine oq 65 (.hs 49 0 [] 4 0 (m2.map aC).length) rfl (jT rfl rfl (SM (g:=aC) (f:=fun _=>(.agg [I (0),str ([]),I (0),.isl true []]:V)) (z0:=(Condition.mk 0 [] 0 [])) rfl rfl rfl (by decide) hm2 rfl)) ?_
 refine eJ 49 (m2.map aC) rfl rfl (Kj hm2 ((lw _).symm▸fD (aD (.refl _) (aD (.refl _) (aD (.refl _) (aD (.nil _) dT)))))) ?_
 refine cq 8 [3,4] [.hs 49 0 [] 4 0 (m2.map aC).length,I (0)] 97 ?_
 obtain⟨y7,hy7,hy71,hy72⟩:=bJ h
 refine ci rfl ?_
 refine rf [0,3,4] [49] (Lv bi a_1 rfl (0,m2) _ hy7 (fun r' e st hq=>by rw[hy71 r' e] at hq;exact hq) fun u7 hu=>?_)
 replace h:=hy72 u7 hu
 refine cq 5 [2] [.hs 1 0 [] 4 0 (u7.map aC).length] 34 ?_
 obtain rfl:=sI h
 exact b8 rfl ⟨_,fin (vs:=[.hs 1 0 [] 4 0 (u7.map aC).length]) rfl (fk (eO rfl (cN rfl rfl)) ey) rfl (eP fu),fm⟩
theorem P2 {G:bU}(bi:Condition→Option Condition)(Kw:bQ G 139 (qE bi)):bQ G 174 (zF bi):=gT 1 0 (aJ Kw bv) ca Tryz.func174 (fun a r h=>TX bi a r h)
noncomputable def zE :=qE (aM oH)
theorem Zc {a_1:Condition}{r}(h:zD a_1=some r):zE.F (vj a_1)=some (vk r):=Mm (aM oH) h
noncomputable def Ze :=aF Tryz.f139
noncomputable def PY (bi:Condition→Option Condition):Env:=b9 [(174,(zF bi))]
def Zd (bi:Condition→Option Condition)(x:Condition)(r:Condition):St→Prop:=QF (PY bi) Tryz.f139 [false] (vj x) (vk r)
theorem TW (bi:Condition→Option Condition)(a_1:Condition)(r:Condition)(h:rT bi a_1=some r):bp (PY bi) Tryz.f139 [false] 0 (vj a_1) (vk r):=by
 show Run _ _ (Zd bi a_1 r) [.code Ze] _
 refine rI 18 [(0,bg a_1)] [] 1 ?_
 unfold rT at h
 refine ck 4 [1,2] [] [1,17] [] [.hp 1 0 [] 4 0 0,.hp 17 0 [] 4 0 0] [some ⟨0,4,[bg a_1]⟩,some ⟨0,4,[.agg [I (0),str ([]),I (0),.isl true []]]⟩] 33 (by kernel_rfl) ?_
 refine eJ 17 [.agg [I (0),str ([]),I (0),.usl 4 (([]).map aC)]] rfl rfl (aD (fD (aD (.refl _) (aD (.refl _) (aD (.refl _) (aD (.nil _) dT))))) dT) ?_
 refine ck 4 [3] [] [33] [] [.hp 33 0 [] 4 0 0] [some ⟨0,4,[.agg [I (0),str ([]),I (0),.isl true []]]⟩] 49 (by kernel_rfl) ?_
 refine eJ 33 [.agg [I (0),str ([]),I (0),.usl 4 (([]).map aC)]] rfl rfl (aD (fD (aD (.refl _) (aD (.refl _) (aD (.refl _) (aD (.nil _) dT))))) dT) ?_
 refine ck 26 [14] [] [33] [] [.isl false (a_1.Parts.map ay)] [some ⟨1,4,[.agg [I a_1.Op,str a_1.Name,I a_1.Day,.usl 4 (([]).map aC)]]⟩] 273 (by kernel_rfl) ?_
 obtain⟨r2,hr2,h⟩:=bS h
 refine oq 289 (.hs 273 0 [] 4 0 (r2.map aC).length) rfl (cd rfl rfl (cO rfl rfl rfl (bw (bR rfl) dB) (Zf bi hr2) (.inr rfl) d9 rfl rfl rfl)) ?_
 refine cq 1 [16] [.hp 33 0 [] 4 0 3] 305 ?_
 refine o0 321 rfl rfl (gw rfl rfl (fp (path:=[]) (pl:=false) (e':=.agg [I a_1.Op,str a_1.Name,I a_1.Day,.usl 4 (r2.map aC)]) (es2':=[.agg [I a_1.Op,str a_1.Name,I a_1.Day,.usl 4 (r2.map aC)]]) rfl (eO rfl (cN rfl rfl)) rfl rfl rfl bb rfl rfl rfl rfl rfl d8 2 rfl)) ?_
 refine cq 4 [17] [.agg [I a_1.Op,str a_1.Name,I a_1.Day,.hs 33 2 [(0,3)] 4 0 (r2.map aC).length]] 337 ?_
 refine o0 353 rfl rfl (gw rfl rfl (fp (path:=[]) (pl:=false) (e':=.agg [I a_1.Op,str a_1.Name,I a_1.Day,.usl 4 (r2.map aC)]) (es2':=[.agg [I a_1.Op,str a_1.Name,I a_1.Day,.usl 4 (r2.map aC)]]) rfl (ls (bK (co rfl) (bK (co rfl) (bK (co rfl) (bK (fq (path:=[(0,3)]) rfl rfl (eU rfl rfl bb) rfl (je (path:=[]) (i:=0) (k:=3) (e':=.agg [I a_1.Op,str a_1.Name,I a_1.Day,.dead]) (es2':=[.agg [I a_1.Op,str a_1.Name,I a_1.Day,.dead]]) bb rfl rfl rfl d8)) lu))))) rfl rfl rfl bb rfl rfl rfl rfl rfl d8 2 rfl)) ?_
 refine aq 1 ?_
 obtain rfl:=sI h
 exact b8 rfl ⟨_,fin (vs:=[.agg [I a_1.Op,str a_1.Name,I a_1.Day,.hs 17 2 [(0,3)] 4 0 (r2.map aC).length]]) (GJ (pS rfl rfl rfl) GK) (fk (ls (bK (co rfl) (bK (co rfl) (bK (co rfl) (bK (fq (path:=[(0,3)]) rfl rfl (eU rfl rfl bb) rfl (je (path:=[]) (i:=0) (k:=3) (e':=.agg [I a_1.Op,str a_1.Name,I a_1.Day,.dead]) (es2':=[.agg [I a_1.Op,str a_1.Name,I a_1.Day,.dead]]) bb rfl rfl rfl d8)) lu))))) ey) rfl (eP fu),fm⟩
theorem PZ {G:bU}:bQ G 139 zE:=iB fun bi Kw=>gT 1 0 (aJ (P2 bi Kw) bv) ca Tryz.func139 (fun a r h=>TW bi a r h)
def Cy:Clause→List V:=oA aj
def Cz (r:Clause):V×List V:=(tp r,[])
noncomputable def zA :=ba [false] Cy Cz fun x=>vi x
theorem Y8 {a_1:Clause}{r}(h:vi a_1=some r):zA.F (Cy a_1)=some (Cz r):=aH (aI cB) h
noncomputable def Za :=aF Tryz.f97
noncomputable def PT :=b9 [(139,zE)]
def Y9 (x:Clause)(r:Clause):St→Prop:=QF PT Tryz.f97 [false] (Cy x) (Cz r)
theorem TS (a_1:Clause)(r:Clause)(h:vi a_1=some r):bp PT Tryz.f97 [false] 0 (Cy a_1) (Cz r):=by
 show Run _ _ (Y9 a_1 r) [.code Za] _
 refine rI 33 [(0,aj a_1)] [] 1 ?_
 unfold vi at h
 refine ck 4 [1,2] [] [1,17] [] [.hp 1 0 [] 12 0 0,.hp 17 0 [] 12 0 0] [some ⟨0,12,[aj a_1]⟩,some ⟨0,12,[.agg [str ([]),I (0),I (0),str ([]),I (0),I (0),I (0),str ([]),I (0),.isl true [],I (0),str ([])]]⟩] 33 (by kernel_rfl) ?_
 refine eJ 17 [.agg [str ([]),I (0),I (0),str ([]),I (0),I (0),I (0),str ([]),I (0),.usl 4 (([]).map aC),I (0),str ([])]] rfl rfl (aD (fD (aD (.refl _) (aD (.refl _) (aD (.refl _) (aD (.refl _) (aD (.refl _) (aD (.refl _) (aD (.refl _) (aD (.refl _) (aD (.refl _) (aD (.nil _) (aD (.refl _) (aD (.refl _) dT))))))))))))) dT) ?_
 refine ck 4 [3] [] [33] [] [.hp 33 0 [] 12 0 0] [some ⟨0,12,[.agg [str ([]),I (0),I (0),str ([]),I (0),I (0),I (0),str ([]),I (0),.isl true [],I (0),str ([])]]⟩] 49 (by kernel_rfl) ?_
 refine eJ 33 [.agg [str ([]),I (0),I (0),str ([]),I (0),I (0),I (0),str ([]),I (0),.usl 4 (([]).map aC),I (0),str ([])]] rfl rfl (aD (fD (aD (.refl _) (aD (.refl _) (aD (.refl _) (aD (.refl _) (aD (.refl _) (aD (.refl _) (aD (.refl _) (aD (.refl _) (aD (.refl _) (aD (.nil _) (aD (.refl _) (aD (.refl _) dT))))))))))))) dT) ?_
 refine ck 47 [23] [] [33] [] [bg a_1.When] [some ⟨1,12,[.agg [str a_1.Id,I a_1.Kind,I a_1.Party,str a_1.Action,I a_1.Other,I a_1.Amount,I (0),str ([]),I (0),.usl 4 (([]).map aC),I (0),str ([])]]⟩] 465 (by kernel_rfl) ?_
 obtain⟨r2,hr2,h⟩:=bS h
 refine oq 481 (.agg [I r2.Op,str r2.Name,I r2.Day,.hs 465 0 [] 4 0 (r2.Parts.map aC).length]) rfl (cP (Zc hr2)) ?_
 refine cq 1 [25] [.hp 33 0 [] 12 0 6] 497 ?_
 refine o0 513 rfl rfl (gw rfl rfl (fp (path:=[]) (pl:=false) (e':=.agg [str a_1.Id,I a_1.Kind,I a_1.Party,str a_1.Action,I a_1.Other,I a_1.Amount,I r2.Op,str r2.Name,I r2.Day,.usl 4 (r2.Parts.map aC),I (0),str ([])]) (es2':=[.agg [str a_1.Id,I a_1.Kind,I a_1.Party,str a_1.Action,I a_1.Other,I a_1.Amount,I r2.Op,str r2.Name,I r2.Day,.usl 4 (r2.Parts.map aC),I (0),str ([])]]) rfl (ls (bK (co rfl) (bK (co rfl) (bK (co rfl) (bK (cN rfl rfl) lu))))) rfl rfl rfl bb rfl rfl rfl rfl rfl d8 2 rfl)) ?_
 refine ck 18 [32] [] [33] [] [.agg [str a_1.Id,I a_1.Kind,I a_1.Party,str a_1.Action,I a_1.Other,I a_1.Amount,I r2.Op,str r2.Name,I r2.Day,.hs 33 2 [(0,9)] 4 0 (r2.Parts.map aC).length,I a_1.Within,str a_1.Repair]] [some ⟨2,12,[.agg [str a_1.Id,I a_1.Kind,I a_1.Party,str a_1.Action,I a_1.Other,I a_1.Amount,I r2.Op,str r2.Name,I r2.Day,.usl 4 (r2.Parts.map aC),I a_1.Within,str a_1.Repair]]⟩] 657 (by kernel_rfl) ?_
 refine o0 673 rfl rfl (gw rfl rfl (fp (path:=[]) (pl:=false) (e':=.agg [str a_1.Id,I a_1.Kind,I a_1.Party,str a_1.Action,I a_1.Other,I a_1.Amount,I r2.Op,str r2.Name,I r2.Day,.usl 4 (r2.Parts.map aC),I a_1.Within,str a_1.Repair]) (es2':=[.agg [str a_1.Id,I a_1.Kind,I a_1.Party,str a_1.Action,I a_1.Other,I a_1.Amount,I r2.Op,str r2.Name,I r2.Day,.usl 4 (r2.Parts.map aC),I a_1.Within,str a_1.Repair]]) rfl (ls (bK (co rfl) (bK (co rfl) (bK (co rfl) (bK (co rfl) (bK (co rfl) (bK (co rfl) (bK (co rfl) (bK (co rfl) (bK (co rfl) (bK (fq (path:=[(0,9)]) rfl rfl (eU rfl rfl bb) rfl (je (path:=[]) (i:=0) (k:=9) (e':=.agg [str a_1.Id,I a_1.Kind,I a_1.Party,str a_1.Action,I a_1.Other,I a_1.Amount,I r2.Op,str r2.Name,I r2.Day,.dead,I a_1.Within,str a_1.Repair]) (es2':=[.agg [str a_1.Id,I a_1.Kind,I a_1.Party,str a_1.Action,I a_1.Other,I a_1.Amount,I r2.Op,str r2.Name,I r2.Day,.dead,I a_1.Within,str a_1.Repair]]) bb rfl rfl rfl d8)) (bK (co rfl) (bK (co rfl) lu))))))))))))) rfl rfl rfl bb rfl rfl rfl rfl rfl d8 2 rfl)) ?_
 refine aq 1 ?_
 obtain rfl:=sI h
 exact b8 rfl ⟨_,fin (vs:=[.agg [str a_1.Id,I a_1.Kind,I a_1.Party,str a_1.Action,I a_1.Other,I a_1.Amount,I r2.Op,str r2.Name,I r2.Day,.hs 17 2 [(0,9)] 4 0 (r2.Parts.map aC).length,I a_1.Within,str a_1.Repair]]) (GJ (pS rfl rfl rfl) GK) (fk (ls (bK (co rfl) (bK (co rfl) (bK (co rfl) (bK (co rfl) (bK (co rfl) (bK (co rfl) (bK (co rfl) (bK (co rfl) (bK (co rfl) (bK (fq (path:=[(0,9)]) rfl rfl (eU rfl rfl bb) rfl (je (path:=[]) (i:=0) (k:=9) (e':=.agg [str a_1.Id,I a_1.Kind,I a_1.Party,str a_1.Action,I a_1.Other,I a_1.Amount,I r2.Op,str r2.Name,I r2.Day,.dead,I a_1.Within,str a_1.Repair]) (es2':=[.agg [str a_1.Id,I a_1.Kind,I a_1.Party,str a_1.Action,I a_1.Other,I a_1.Amount,I r2.Op,str r2.Name,I r2.Day,.dead,I a_1.Within,str a_1.Repair]]) bb rfl rfl rfl d8)) (bK (co rfl) (bK (co rfl) lu))))))))))))) ey) rfl (eP fu),fm⟩
theorem PU {G:bU}:bQ G 97 zA:=gT 1 0 (aJ PZ bv) ca Tryz.func97 (fun a r h=>TS a r h)
def CA:(List Clause)→List V:=oA (eW aj)
def CB (r:(List Clause)):V×List V:=(.usl 12 (r.map aQ),[])
noncomputable def zC :=ba [false] CA CB fun x=>zB x
theorem Zb {a_1:List Clause}{r}(h:zB a_1=some r):zC.F (CA a_1)=some (CB r):=aH (aI (bu cB)) h
noncomputable def PW :=aF Tryz.f46
noncomputable def Je :=b9 [(97,zA)]
def PV (x:(List Clause))(r:(List Clause)):St→Prop:=QF Je Tryz.f46 [false] (CA x) (CB r)
theorem Lu (a_1:List Clause):cW Je 0 (PV a_1) (cL (cL (cR (cL (cR (cR PW)))))) 0 (rS a_1) (fun u=>(sT 23 [(3,.hs 1 0 [] 12 0 (u.map aQ).length)] [⟨0,12,u.map aQ⟩] 2)) fun x3=>(sT 23 [(0,.isl false (a_1.map aj)),(3,.hs 1 0 [] 12 0 (x3.2.map aQ).length),(4,I x3.1)] [⟨0,12,x3.2.map aQ⟩] 2):=eF (xA a_1) fun {Q K} hK self ih x3 y h hr hn=>by
 unfold mb at h
 refine cq 5 [8,9] [I x3.1,.isl false (a_1.map aj)] 34 ?_
 refine oq 50 (I (len a_1)) rfl (bq rfl rfl rfl (bB rfl)) ?_
 refine cq 2 [11] [B (decide (x3.1<(len a_1)))] 66 ?_
 refine sq h ?_ ?_<;>intro h
 ·refine aq 1 ?_
  refine cq 7 [14,15,16,17] [.hs 1 0 [] 12 0 (x3.2.map aQ).length,I x3.1,.isl false (a_1.map aj),I x3.1] 130 ?_
  obtain⟨e4,he4,h⟩:=bS h
  refine oq 146 (.iptr (aj e4) 0) rfl (au rfl rfl rfl (aV rfl rfl rfl rfl he4)) ?_
  refine cq 1 [19] [aj e4] 162 ?_
  obtain⟨r5,hr5,h⟩:=bS h
  refine oq 178 (.agg [str r5.Id,I r5.Kind,I r5.Party,str r5.Action,I r5.Other,I r5.Amount,I r5.When.Op,str r5.When.Name,I r5.When.Day,.hs 162 0 [] 4 0 (r5.When.Parts.map aC).length,I r5.Within,str r5.Repair]) rfl (cP (Y8 hr5)) ?_
  obtain⟨e6,he6,h⟩:=bS h
  refine oq 194 (.hp 1 0 [] 12 (0+Int.toNat x3.1) 0) rfl (au rfl rfl rfl (i6 (f:=aQ) (xs:=x3.2) rfl rfl rfl he6)) ?_
  refine o0 210 rfl rfl (gw rfl rfl (fp (path:=[]) (pl:=false) (e':=tp r5) (es2':=(fI x3.2 x3.1 r5).map aQ) rfl (ls (bK (co rfl) (bK (co rfl) (bK (co rfl) (bK (co rfl) (bK (co rfl) (bK (co rfl) (bK (co rfl) (bK (co rfl) (bK (co rfl) (bK (cN rfl rfl) (bK (co rfl) (bK (co rfl) lu))))))))))))) rfl rfl rfl bb (gU (f:=aQ) (xs:=x3.2) he6) rfl rfl rfl (mK (f:=aQ) (xs:=x3.2) (y:=r5)) d8 1 rfl)) ?_
  try rw[←kL (f:=aQ) (xs:=x3.2) (i:=x3.1) (z:=r5)]
  refine cq 7 [4] [I (az (x3.1+1))] 258 ?_
  refine dP ?_
  exact rf [0,3,4] [1] (ih _ _ h hr hn :)
 ·refine aq 1 ?_
  exact rf [3] [1] (hn _ (ai h) :) (hk:=hK)
theorem TU (a_1:List Clause)(r:(List Clause))(h:zB a_1=some r):bp Je Tryz.f46 [false] 0 (CA a_1) (CB r):=by
 show Run _ _ (PV a_1 r) [.code PW] _
 refine rI 23 [(0,.isl false (a_1.map aj))] [] 1 ?_
 unfold zB at h
 refine cq 7 [5] [.isl false (a_1.map aj)] 33 ?_
 refine oq 49 (I (len a_1)) rfl (bq rfl rfl rfl (bB rfl)) ?_
 obtain⟨m2,hm2,h⟩:=bS h
 refine oq 65 (.hs 49 0 [] 12 0 (m2.map aQ).length) rfl (jT rfl rfl (SM (g:=aQ) (f:=fun _=>(.agg [str ([]),I (0),I (0),str ([]),I (0),I (0),I (0),str ([]),I (0),.isl true [],I (0),str ([])]:V)) (z0:=(Clause.mk [] 0 0 [] 0 0 (Condition.mk 0 [] 0 []) 0 [])) rfl rfl rfl (by decide) hm2 rfl)) ?_
 refine eJ 49 (m2.map aQ) rfl rfl (Kj hm2 (fD (aD (.refl _) (aD (.refl _) (aD (.refl _) (aD (.refl _) (aD (.refl _) (aD (.refl _) (aD (.refl _) (aD (.refl _) (aD (.refl _) (aD (.nil _) (aD (.refl _) (aD (.refl _) dT)))))))))))))) ?_
 refine cq 8 [3,4] [.hs 49 0 [] 12 0 (m2.map aQ).length,I (0)] 97 ?_
 obtain⟨y7,hy7,hy71,hy72⟩:=bJ h
 refine ci rfl ?_
 refine rf [0,3,4] [49] (Lu a_1 rfl (0,m2) _ hy7 (fun r' e st hq=>by rw[hy71 r' e] at hq;exact hq) fun u7 hu=>?_)
 replace h:=hy72 u7 hu
 refine cq 5 [2] [.hs 1 0 [] 12 0 (u7.map aQ).length] 34 ?_
 obtain rfl:=sI h
 exact b8 rfl ⟨_,fin (vs:=[.hs 1 0 [] 12 0 (u7.map aQ).length]) rfl (fk (eO rfl (cN rfl rfl)) ey) rfl (eP fu),fm⟩
theorem PX {G:bU}:bQ G 46 zC:=gT 1 0 (aJ PU bv) ca Tryz.func46 (fun a r h=>TU a r h)
def CE:Contract→List V:=oA aO
def CF (r:Contract):V×List V:=(.agg [.usl 1 (r.Parties.map str),.usl 12 (r.Clauses.map aQ)],[])
noncomputable def zG :=ba [false] CE CF fun x=>tx x
theorem vm {a_1:Contract}{r}(h:tx a_1=some r):zG.F (CE a_1)=some (CF r):=aH (aI aZ) h
noncomputable def Zh :=aF Tryz.f14
noncomputable def P3 :=b9 [(45,tA),(46,zC)]
def Zg (x:Contract)(r:Contract):St→Prop:=QF P3 Tryz.f14 [false] (CE x) (CF r)
theorem TY (a_1:Contract)(r:Contract)(h:tx a_1=some r):bp P3 Tryz.f14 [false] 0 (CE a_1) (CF r):=by
 show Run _ _ (Zg a_1 r) [.code Zh] _
 refine rI 13 [(0,aO a_1)] [] 1 ?_
 unfold tx at h
 refine ck 4 [1,2] [] [1,17] [] [.hp 1 0 [] 2 0 0,.hp 17 0 [] 2 0 0] [some ⟨0,2,[aO a_1]⟩,some ⟨0,2,[.agg [.isl true [],.isl true []]]⟩] 33 (by kernel_rfl) ?_
 refine eJ 17 [.agg [.usl 1 (([]).map str),.usl 12 (([]).map aQ)]] rfl rfl (aD (fD (aD (.nil _) (aD (.nil _) dT))) dT) ?_
 refine ck 4 [3] [] [33] [] [.hp 33 0 [] 2 0 0] [some ⟨0,2,[.agg [.isl true [],.isl true []]]⟩] 49 (by kernel_rfl) ?_
 refine eJ 33 [.agg [.usl 1 (([]).map str),.usl 12 (([]).map aQ)]] rfl rfl (aD (fD (aD (.nil _) (aD (.nil _) dT))) dT) ?_
 refine cq 5 [5] [.isl false (a_1.Parties.map str)] 81 ?_
 obtain⟨r2,hr2,h⟩:=bS h
 refine oq 97 (.hs 81 0 [] 1 0 (r2.map str).length) rfl (cP (Qf hr2)) ?_
 refine cq 1 [7] [.hp 33 0 [] 2 0 0] 113 ?_
 refine o0 129 rfl rfl (gw rfl rfl (fp (path:=[]) (pl:=false) (e':=.agg [.usl 1 (r2.map str),.usl 12 (([]).map aQ)]) (es2':=[.agg [.usl 1 (r2.map str),.usl 12 (([]).map aQ)]]) rfl (eO rfl (cN rfl rfl)) rfl rfl rfl bb rfl rfl rfl rfl rfl d8 2 rfl)) ?_
 refine cq 5 [9] [.isl false (a_1.Clauses.map aj)] 161 ?_
 obtain⟨r3,hr3,h⟩:=bS h
 refine oq 177 (.hs 161 0 [] 12 0 (r3.map aQ).length) rfl (cP (Zb hr3)) ?_
 refine cq 1 [11] [.hp 33 0 [] 2 0 1] 193 ?_
 refine o0 209 rfl rfl (gw rfl rfl (fp (path:=[]) (pl:=false) (e':=.agg [.usl 1 (r2.map str),.usl 12 (r3.map aQ)]) (es2':=[.agg [.usl 1 (r2.map str),.usl 12 (r3.map aQ)]]) rfl (eO rfl (cN rfl rfl)) rfl rfl rfl bb rfl rfl rfl rfl rfl d8 3 rfl)) ?_
 refine cq 4 [12] [.agg [.hs 33 3 [(0,0)] 1 0 (r2.map str).length,.hs 33 3 [(0,1)] 12 0 (r3.map aQ).length]] 225 ?_
 refine o0 241 rfl rfl (gw rfl rfl (fp (path:=[]) (pl:=false) (e':=.agg [.usl 1 (r2.map str),.usl 12 (r3.map aQ)]) (es2':=[.agg [.usl 1 (r2.map str),.usl 12 (r3.map aQ)]]) rfl (ls (bK (fq (path:=[(0,0)]) rfl rfl (eU rfl rfl bb) rfl (je (path:=[]) (i:=0) (k:=0) (e':=.agg [.dead,.usl 12 (r3.map aQ)]) (es2':=[.agg [.dead,.usl 12 (r3.map aQ)]]) bb rfl rfl rfl d8)) (bK (fq (path:=[(0,1)]) rfl rfl (eU rfl rfl bb) rfl (je (path:=[]) (i:=0) (k:=1) (e':=.agg [.dead,.dead]) (es2':=[.agg [.dead,.dead]]) bb rfl rfl rfl d8)) lu))) rfl rfl rfl bb rfl rfl rfl rfl rfl d8 2 rfl)) ?_
 refine aq 1 ?_
 obtain rfl:=sI h
 exact b8 rfl ⟨_,fin (vs:=[.agg [.hs 17 2 [(0,0)] 1 0 (r2.map str).length,.hs 17 2 [(0,1)] 12 0 (r3.map aQ).length]]) (GJ (pS rfl rfl rfl) GK) (fk (ls (bK (fq (path:=[(0,0)]) rfl rfl (eU rfl rfl bb) rfl (je (path:=[]) (i:=0) (k:=0) (e':=.agg [.dead,.usl 12 (r3.map aQ)]) (es2':=[.agg [.dead,.usl 12 (r3.map aQ)]]) bb rfl rfl rfl d8)) (bK (fq (path:=[(0,1)]) rfl rfl (eU rfl rfl bb) rfl (je (path:=[]) (i:=0) (k:=1) (e':=.agg [.dead,.dead]) (es2':=[.agg [.dead,.dead]]) bb rfl rfl rfl d8)) lu))) ey) rfl (eP fu),fm⟩
theorem P4 {G:bU}:bQ G 14 zG:=gT 1 0 (aJ GX (aJ PX bv)) ca Tryz.func14 (fun a r h=>TY a r h)
def CG:Duty→List V:=oA ae
def CH (r:Duty):V×List V:=(ae r,[])
noncomputable def zH :=ba [false] CG CH fun x=>vn x
theorem Zi {a_1:Duty}{r}(h:vn a_1=some r):zH.F (CG a_1)=some (CH r):=aH (aI dH) h
noncomputable def Zk :=aF Tryz.f108
noncomputable def P5 :=b9 []
def Zj (x:Duty)(r:Duty):St→Prop:=QF P5 Tryz.f108 [false] (CG x) (CH r)
theorem TZ (a_1:Duty)(r:Duty)(h:vn a_1=some r):bp P5 Tryz.f108 [false] 0 (CG a_1) (CH r):=by
 show Run _ _ (Zj a_1 r) [.code Zk] _
 refine rI 17 [(0,ae a_1)] [] 1 ?_
 unfold vn at h
 refine ck 42 [2] [] [17] [] [.hp 17 0 [] 4 0 0] [some ⟨0,4,[ae a_1]⟩] 337 (by kernel_rfl) ?_
 obtain rfl:=sI h
 exact b8 rfl ⟨_,fin (vs:=[ae a_1]) (GJ (pS rfl rfl rfl) GK) (fk (fO rfl) ey) rfl (eP fu),fm⟩
theorem P6 {G:bU}:bQ G 108 zH:=gT 1 0 bv ca Tryz.func108 (fun a r h=>TZ a r h)
def CI:(List Duty)→List V:=oA (eW ae)
def CJ (r:(List Duty)):V×List V:=(.usl 4 (r.map ae),[])
noncomputable def zJ :=ba [false] CI CJ fun x=>zI x
theorem Zl {a_1:List Duty}{r}(h:zI a_1=some r):zJ.F (CI a_1)=some (CJ r):=aH (aI (bu dH)) h
noncomputable def P8 :=aF Tryz.f57
noncomputable def Jg :=b9 [(108,zH)]
def P7 (x:(List Duty))(r:(List Duty)):St→Prop:=QF Jg Tryz.f57 [false] (CI x) (CJ r)
theorem Lw (a_1:List Duty):cW Jg 0 (P7 a_1) (cL (cL (cR (cL (cR (cR P8)))))) 0 (rU a_1) (fun u=>(sT 23 [(3,.hs 1 0 [] 4 0 (u.map ae).length)] [⟨0,4,u.map ae⟩] 2)) fun x3=>(sT 23 [(0,.isl false (a_1.map ae)),(3,.hs 1 0 [] 4 0 (x3.2.map ae).length),(4,I x3.1)] [⟨0,4,x3.2.map ae⟩] 2):=eF (xC a_1) fun {Q K} hK self ih x3 y h hr hn=>by
 unfold mc at h
 refine cq 5 [8,9] [I x3.1,.isl false (a_1.map ae)] 34 ?_
 refine oq 50 (I (len a_1)) rfl (bq rfl rfl rfl (bB rfl)) ?_
 refine cq 2 [11] [B (decide (x3.1<(len a_1)))] 66 ?_
 refine sq h ?_ ?_<;>intro h
 ·refine aq 1 ?_
  refine cq 7 [14,15,16,17] [.hs 1 0 [] 4 0 (x3.2.map ae).length,I x3.1,.isl false (a_1.map ae),I x3.1] 130 ?_
  obtain⟨e4,he4,h⟩:=bS h
  refine oq 146 (.iptr (ae e4) 0) rfl (au rfl rfl rfl (aV rfl rfl rfl rfl he4)) ?_
  refine cq 1 [19] [ae e4] 162 ?_
  obtain⟨r5,hr5,h⟩:=bS h
  refine oq 178 (ae r5) rfl (cP (Zi hr5)) ?_
  obtain⟨e6,he6,h⟩:=bS h
  refine oq 194 (.hp 1 0 [] 4 (0+Int.toNat x3.1) 0) rfl (au rfl rfl rfl (i6 (f:=ae) (xs:=x3.2) rfl rfl rfl he6)) ?_
  refine o0 210 rfl rfl (gw rfl rfl (fp (path:=[]) (pl:=true) (e':=ae r5) (es2':=(fI x3.2 x3.1 r5).map ae) rfl (fO rfl) rfl rfl rfl bb (gU (f:=ae) (xs:=x3.2) he6) rfl rfl rfl (mK (f:=ae) (xs:=x3.2) (y:=r5)) d8 0 rfl)) ?_
  try rw[←kL (f:=ae) (xs:=x3.2) (i:=x3.1) (z:=r5)]
  refine cq 7 [4] [I (az (x3.1+1))] 258 ?_
  refine dP ?_
  exact rf [0,3,4] [1] (ih _ _ h hr hn :)
 ·refine aq 1 ?_
  exact rf [3] [1] (hn _ (ai h) :) (hk:=hK)
theorem T0 (a_1:List Duty)(r:(List Duty))(h:zI a_1=some r):bp Jg Tryz.f57 [false] 0 (CI a_1) (CJ r):=by
 show Run _ _ (P7 a_1 r) [.code P8] _
 refine rI 23 [(0,.isl false (a_1.map ae))] [] 1 ?_
 unfold zI at h
 refine cq 7 [5] [.isl false (a_1.map ae)] 33 ?_
 refine oq 49 (I (len a_1)) rfl (bq rfl rfl rfl (bB rfl)) ?_
 obtain⟨m2,hm2,h⟩:=bS h
 refine oq 65 (.hs 49 0 [] 4 0 (m2.map ae).length) rfl (jT rfl rfl (Fj (f:=ae) rfl rfl rfl (by decide) hm2 rfl)) ?_
 refine cq 8 [3,4] [.hs 49 0 [] 4 0 (m2.map ae).length,I (0)] 97 ?_
 obtain⟨y7,hy7,hy71,hy72⟩:=bJ h
 refine ci rfl ?_
 refine rf [0,3,4] [49] (Lw a_1 rfl (0,m2) _ hy7 (fun r' e st hq=>by rw[hy71 r' e] at hq;exact hq) fun u7 hu=>?_)
 replace h:=hy72 u7 hu
 refine cq 5 [2] [.hs 1 0 [] 4 0 (u7.map ae).length] 34 ?_
 obtain rfl:=sI h
 exact b8 rfl ⟨_,fin (vs:=[.hs 1 0 [] 4 0 (u7.map ae).length]) rfl (fk (eO rfl (cN rfl rfl)) ey) rfl (eP fu),fm⟩
theorem P9 {G:bU}:bQ G 57 zJ:=gT 1 0 (aJ P6 bv) ca Tryz.func57 (fun a r h=>T0 a r h)
def CK:(List Int)→List V:=oA (eW I)
def CL (r:(List Int)):V×List V:=(.usl 1 (r.map I),[])
noncomputable def zL :=ba [false] CK CL fun x=>zK x
theorem Zm {a_1:List Int}{r}(h:zK a_1=some r):zL.F (CK a_1)=some (CL r):=aH (aI (bu bC)) h
noncomputable def Qb :=aF Tryz.f58
noncomputable def Jh :=b9 []
def Qa (x:(List Int))(r:(List Int)):St→Prop:=QF Jh Tryz.f58 [false] (CK x) (CL r)
theorem Lx (a_1:List Int):cW Jh 0 (Qa a_1) (cL (cL (cR (cL (cR (cR Qb)))))) 0 (rV a_1) (fun u=>(sT 22 [(3,.hs 1 0 [] 1 0 (u.map I).length)] [⟨0,1,u.map I⟩] 2)) fun x3=>(sT 22 [(0,.isl false (a_1.map I)),(3,.hs 1 0 [] 1 0 (x3.2.map I).length),(4,I x3.1)] [⟨0,1,x3.2.map I⟩] 2):=eF (xD a_1) fun {Q K} hK self ih x3 y h hr hn=>by
 unfold md at h
 refine cq 5 [8,9] [I x3.1,.isl false (a_1.map I)] 34 ?_
 refine oq 50 (I (len a_1)) rfl (bq rfl rfl rfl (bB rfl)) ?_
 refine cq 2 [11] [B (decide (x3.1<(len a_1)))] 66 ?_
 refine sq h ?_ ?_<;>intro h
 ·refine aq 1 ?_
  refine cq 7 [14,15,16,17] [.hs 1 0 [] 1 0 (x3.2.map I).length,I x3.1,.isl false (a_1.map I),I x3.1] 130 ?_
  obtain⟨e4,he4,h⟩:=bS h
  refine oq 146 (.iptr (I e4) 0) rfl (au rfl rfl rfl (aV rfl rfl rfl rfl he4)) ?_
  refine cq 1 [19] [I e4] 162 ?_
  obtain⟨e5,he5,h⟩:=bS h
  refine oq 178 (.hp 1 0 [] 1 (0+Int.toNat x3.1) 0) rfl (au rfl rfl rfl (i6 (f:=I) (xs:=x3.2) rfl rfl rfl he5)) ?_
  refine o0 194 rfl rfl (gw rfl rfl (fp (path:=[]) (pl:=true) (e':=I e4) (es2':=(fI x3.2 x3.1 e4).map I) rfl (fO rfl) rfl rfl rfl bb (gU (f:=I) (xs:=x3.2) he5) rfl rfl rfl (mK (f:=I) (xs:=x3.2) (y:=e4)) d8 0 rfl)) ?_
  try rw[←kL (f:=I) (xs:=x3.2) (i:=x3.1) (z:=e4)]
  refine cq 7 [4] [I (az (x3.1+1))] 242 ?_
  refine dP ?_
  exact rf [0,3,4] [1] (ih _ _ h hr hn :)
 ·refine aq 1 ?_
  exact rf [3] [1] (hn _ (ai h) :) (hk:=hK)
theorem T1 (a_1:List Int)(r:(List Int))(h:zK a_1=some r):bp Jh Tryz.f58 [false] 0 (CK a_1) (CL r):=by
 show Run _ _ (Qa a_1 r) [.code Qb] _
 refine rI 22 [(0,.isl false (a_1.map I))] [] 1 ?_
 unfold zK at h
 refine cq 7 [5] [.isl false (a_1.map I)] 33 ?_
 refine oq 49 (I (len a_1)) rfl (bq rfl rfl rfl (bB rfl)) ?_
 obtain⟨m2,hm2,h⟩:=bS h
 refine oq 65 (.hs 49 0 [] 1 0 (m2.map I).length) rfl (jT rfl rfl (Fj (f:=I) rfl rfl rfl (by decide) hm2 rfl)) ?_
 refine cq 8 [3,4] [.hs 49 0 [] 1 0 (m2.map I).length,I (0)] 97 ?_
 obtain⟨y6,hy6,hy61,hy62⟩:=bJ h
 refine ci rfl ?_
 refine rf [0,3,4] [49] (Lx a_1 rfl (0,m2) _ hy6 (fun r' e st hq=>by rw[hy61 r' e] at hq;exact hq) fun u6 hu=>?_)
 replace h:=hy62 u6 hu
 refine cq 5 [2] [.hs 1 0 [] 1 0 (u6.map I).length] 34 ?_
 obtain rfl:=sI h
 exact b8 rfl ⟨_,fin (vs:=[.hs 1 0 [] 1 0 (u6.map I).length]) rfl (fk (eO rfl (cN rfl rfl)) ey) rfl (eP fu),fm⟩
theorem Qc {G:bU}:bQ G 58 zL:=gT 1 0 bv ca Tryz.func58 (fun a r h=>T1 a r h)
def CM:State→List V:=oA b7
def CN (r:State):V×List V:=(.agg [I r.Day,.usl 1 (r.Facts.map str),.usl 4 (r.Duties.map ae),.usl 1 (r.Balances.map I),B r.Over],[])
noncomputable def zM :=ba [false] CM CN fun x=>tz x
theorem vo {a_1:State}{r}(h:tz a_1=some r):zM.F (CM a_1)=some (CN r):=aH (aI cY) h
noncomputable def Zo :=aF Tryz.f23
noncomputable def Qd :=b9 [(45,tA),(57,zJ),(58,zL)]
def Zn (x:State)(r:State):St→Prop:=QF Qd Tryz.f23 [false] (CM x) (CN r)
theorem T3 (a_1:State)(r:State)(h:tz a_1=some r):bp Qd Tryz.f23 [false] 0 (CM a_1) (CN r):=by
 show Run _ _ (Zn a_1 r) [.code Zo] _
 refine rI 23 [(0,b7 a_1)] [] 1 ?_
 unfold tz at h
 refine ck 4 [1,2] [] [1,17] [] [.hp 1 0 [] 5 0 0,.hp 17 0 [] 5 0 0] [some ⟨0,5,[b7 a_1]⟩,some ⟨0,5,[.agg [I (0),.isl true [],.isl true [],.isl true [],B false]]⟩] 33 (by kernel_rfl) ?_
 refine eJ 17 [.agg [I (0),.usl 1 (([]).map str),.usl 4 (([]).map ae),.usl 1 (([]).map I),B false]] rfl rfl (aD (fD (aD (.refl _) (aD (.nil _) (aD (.nil _) (aD (.nil _) (aD (.refl _) dT)))))) dT) ?_
 refine ck 4 [3] [] [33] [] [.hp 33 0 [] 5 0 0] [some ⟨0,5,[.agg [I (0),.isl true [],.isl true [],.isl true [],B false]]⟩] 49 (by kernel_rfl) ?_
 refine eJ 33 [.agg [I (0),.usl 1 (([]).map str),.usl 4 (([]).map ae),.usl 1 (([]).map I),B false]] rfl rfl (aD (fD (aD (.refl _) (aD (.nil _) (aD (.nil _) (aD (.nil _) (aD (.refl _) dT)))))) dT) ?_
 refine ck 12 [8] [] [33] [] [.isl false (a_1.Facts.map str)] [some ⟨1,5,[.agg [I a_1.Day,.usl 1 (([]).map str),.usl 4 (([]).map ae),.usl 1 (([]).map I),B false]]⟩] 145 (by kernel_rfl) ?_
 obtain⟨r2,hr2,h⟩:=bS h
 refine oq 161 (.hs 145 0 [] 1 0 (r2.map str).length) rfl (cP (Qf hr2)) ?_
 refine cq 1 [10] [.hp 33 0 [] 5 0 1] 177 ?_
 refine o0 193 rfl rfl (gw rfl rfl (fp (path:=[]) (pl:=false) (e':=.agg [I a_1.Day,.usl 1 (r2.map str),.usl 4 (([]).map ae),.usl 1 (([]).map I),B false]) (es2':=[.agg [I a_1.Day,.usl 1 (r2.map str),.usl 4 (([]).map ae),.usl 1 (([]).map I),B false]]) rfl (eO rfl (cN rfl rfl)) rfl rfl rfl bb rfl rfl rfl rfl rfl d8 2 rfl)) ?_
 refine cq 5 [12] [.isl false (a_1.Duties.map ae)] 225 ?_
 obtain⟨r3,hr3,h⟩:=bS h
 refine oq 241 (.hs 225 0 [] 4 0 (r3.map ae).length) rfl (cP (Zl hr3)) ?_
 refine cq 1 [14] [.hp 33 0 [] 5 0 2] 257 ?_
 refine o0 273 rfl rfl (gw rfl rfl (fp (path:=[]) (pl:=false) (e':=.agg [I a_1.Day,.usl 1 (r2.map str),.usl 4 (r3.map ae),.usl 1 (([]).map I),B false]) (es2':=[.agg [I a_1.Day,.usl 1 (r2.map str),.usl 4 (r3.map ae),.usl 1 (([]).map I),B false]]) rfl (eO rfl (cN rfl rfl)) rfl rfl rfl bb rfl rfl rfl rfl rfl d8 3 rfl)) ?_
 refine cq 5 [16] [.isl false (a_1.Balances.map I)] 305 ?_
 obtain⟨r4,hr4,h⟩:=bS h
 refine oq 321 (.hs 305 0 [] 1 0 (r4.map I).length) rfl (cP (Zm hr4)) ?_
 refine cq 1 [18] [.hp 33 0 [] 5 0 3] 337 ?_
 refine o0 353 rfl rfl (gw rfl rfl (fp (path:=[]) (pl:=false) (e':=.agg [I a_1.Day,.usl 1 (r2.map str),.usl 4 (r3.map ae),.usl 1 (r4.map I),B false]) (es2':=[.agg [I a_1.Day,.usl 1 (r2.map str),.usl 4 (r3.map ae),.usl 1 (r4.map I),B false]]) rfl (eO rfl (cN rfl rfl)) rfl rfl rfl bb rfl rfl rfl rfl rfl d8 4 rfl)) ?_
 refine ck 11 [22] [] [33] [] [.agg [I a_1.Day,.hs 33 4 [(0,1)] 1 0 (r2.map str).length,.hs 33 4 [(0,2)] 4 0 (r3.map ae).length,.hs 33 4 [(0,3)] 1 0 (r4.map I).length,B a_1.Over]] [some ⟨4,5,[.agg [I a_1.Day,.usl 1 (r2.map str),.usl 4 (r3.map ae),.usl 1 (r4.map I),B a_1.Over]]⟩] 433 (by kernel_rfl) ?_
 refine o0 449 rfl rfl (gw rfl rfl (fp (path:=[]) (pl:=false) (e':=.agg [I a_1.Day,.usl 1 (r2.map str),.usl 4 (r3.map ae),.usl 1 (r4.map I),B a_1.Over]) (es2':=[.agg [I a_1.Day,.usl 1 (r2.map str),.usl 4 (r3.map ae),.usl 1 (r4.map I),B a_1.Over]]) rfl (ls (bK (co rfl) (bK (fq (path:=[(0,1)]) rfl rfl (eU rfl rfl bb) rfl (je (path:=[]) (i:=0) (k:=1) (e':=.agg [I a_1.Day,.dead,.usl 4 (r3.map ae),.usl 1 (r4.map I),B a_1.Over]) (es2':=[.agg [I a_1.Day,.dead,.usl 4 (r3.map ae),.usl 1 (r4.map I),B a_1.Over]]) bb rfl rfl rfl d8)) (bK (fq (path:=[(0,2)]) rfl rfl (eU rfl rfl bb) rfl (je (path:=[]) (i:=0) (k:=2) (e':=.agg [I a_1.Day,.dead,.dead,.usl 1 (r4.map I),B a_1.Over]) (es2':=[.agg [I a_1.Day,.dead,.dead,.usl 1 (r4.map I),B a_1.Over]]) bb rfl rfl rfl d8)) (bK (fq (path:=[(0,3)]) rfl rfl (eU rfl rfl bb) rfl (je (path:=[]) (i:=0) (k:=3) (e':=.agg [I a_1.Day,.dead,.dead,.dead,B a_1.Over]) (es2':=[.agg [I a_1.Day,.dead,.dead,.dead,B a_1.Over]]) bb rfl rfl rfl d8)) (bK (co rfl) lu)))))) rfl rfl rfl bb rfl rfl rfl rfl rfl d8 2 rfl)) ?_
 refine aq 1 ?_
 obtain rfl:=sI h
 exact b8 rfl ⟨_,fin (vs:=[.agg [I a_1.Day,.hs 17 2 [(0,1)] 1 0 (r2.map str).length,.hs 17 2 [(0,2)] 4 0 (r3.map ae).length,.hs 17 2 [(0,3)] 1 0 (r4.map I).length,B a_1.Over]]) (GJ (pS rfl rfl rfl) GK) (fk (ls (bK (co rfl) (bK (fq (path:=[(0,1)]) rfl rfl (eU rfl rfl bb) rfl (je (path:=[]) (i:=0) (k:=1) (e':=.agg [I a_1.Day,.dead,.usl 4 (r3.map ae),.usl 1 (r4.map I),B a_1.Over]) (es2':=[.agg [I a_1.Day,.dead,.usl 4 (r3.map ae),.usl 1 (r4.map I),B a_1.Over]]) bb rfl rfl rfl d8)) (bK (fq (path:=[(0,2)]) rfl rfl (eU rfl rfl bb) rfl (je (path:=[]) (i:=0) (k:=2) (e':=.agg [I a_1.Day,.dead,.dead,.usl 1 (r4.map I),B a_1.Over]) (es2':=[.agg [I a_1.Day,.dead,.dead,.usl 1 (r4.map I),B a_1.Over]]) bb rfl rfl rfl d8)) (bK (fq (path:=[(0,3)]) rfl rfl (eU rfl rfl bb) rfl (je (path:=[]) (i:=0) (k:=3) (e':=.agg [I a_1.Day,.dead,.dead,.dead,B a_1.Over]) (es2':=[.agg [I a_1.Day,.dead,.dead,.dead,B a_1.Over]]) bb rfl rfl rfl d8)) (bK (co rfl) lu)))))) ey) rfl (eP fu),fm⟩
theorem Qe {G:bU}:bQ G 23 zM:=gT 1 0 (aJ GX (aJ P9 (aJ Qc bv))) ca Tryz.func23 (fun a r h=>T3 a r h)
def oB:(Int×Int×Int)→List V:=cA I (cA I (oA I))
def oC (r:Bool):V×List V:=(B r,[])
noncomputable def eV :=ba [false,false,false] oB oC fun x=>dX x.1 x.2.1 x.2.2
theorem dY {x_1:Int}{a_2:Int}{b_3:Int}{r}(h:dX x_1 a_2 b_3=some r):eV.F (oB (x_1,a_2,b_3))=some (oC r):=aH (aN bC (aN bC (aI bC))) h
noncomputable def yH :=aF Tryz.f89
noncomputable def rF :=b9 []
def yG (x:Int×Int×Int)(r:Bool):St→Prop:=QF rF Tryz.f89 [false,false,false] (oB x) (oC r)
theorem HL (x_1:Int)(a_2:Int)(b_3:Int)(r:Bool)(h:dX x_1 a_2 b_3=some r):bp rF Tryz.f89 [false,false,false] 0 (oB (x_1,a_2,b_3)) (oC r):=by
 show Run _ _ (yG (x_1,a_2,b_3) r) [.code yH] _
 refine rI 15 [(0,I x_1),(1,I a_2),(2,I b_3)] [] 1 ?_
 unfold dX at h
 refine cq 10 [10] [B (decide (x_1≥a_2))] 81 ?_
 obtain⟨u4,hu4,h⟩:=lJ h
 have j4:Run rF 0 (yG (x_1,a_2,b_3) r) (.code (cR (cR yH))::[]) (sT 15 [(6,B u4)] [] 1):=by
  obtain rfl:=sI h
  exact rP [B u4]
 replace h:=hu4
 clear hu4
 refine sp 10 h rfl ?_ ?_<;>intro h
 ·refine cq 6 [6] [B (decide (x_1≤b_3))] 161 ?_
  subst h
  exact rf [6] [] (j4 :)
 ·refine cq 6 [6] [B false] 161 ?_
  subst h
  exact rf [6] [] (j4 :)
theorem fF {G:bU}:bQ G 89 eV:=gT 3 0 bv ca Tryz.func89 (fun a r h=>HL a.1 a.2.1 a.2.2 r h)
def DW:Int→List V:=oA (V.int .u8)
def DX (r:Bool):V×List V:=(B r,[])
noncomputable def Az :=ba [false] DW DX fun x=>vG x
theorem Z3 {b_1:Int}{r}(h:vG b_1=some r):Az.F (DW b_1)=some (DX r):=aH (aI (Lf (k:=.u8))) h
noncomputable def vI :=aF Tryz.f128
noncomputable def ss :=b9 []
def vH (x:Int)(r:Bool):St→Prop:=QF ss Tryz.f128 [false] (DW x) (DX r)
theorem UF (b_1:Int)(r:Bool)(h:vG b_1=some r):bp ss Tryz.f128 [false] 0 (DW b_1) (DX r):=by
 show Run _ _ (vH b_1 r) [.code vI] _
 refine rI 17 [(0,.int .u8 b_1)] [] 1 ?_
 unfold vG at h
 refine cq 9 [5] [B (decide (b_1≥97))] 65 ?_
 obtain⟨u2,hu2,h⟩:=lJ h
 have j2:Run ss 0 (vH b_1 r) (.code (cR (cR vI))::[]) (sT 17 [(2,B u2)] [] 1):=by
  obtain rfl:=sI h
  exact rP [B u2]
 replace h:=hu2
 clear hu2
 refine sp 5 h rfl ?_ ?_<;>intro h
 ·refine cq 4 [9] [B (decide (b_1≤122))] 129 ?_
  obtain⟨u3,hu3,h⟩:=lJ h
  have j3:Run ss 0 (vH b_1 r) (.code (cR (cR vI))::[]) (sT 17 [(2,B u3)] [] 1):=by
   subst h
   exact rf [2] [] (j2 :)
  replace h:=hu3
  clear hu3
  refine sp 9 h rfl ?_ ?_<;>intro h
  ·refine cq 9 [2] [B true] 257 ?_
   subst h
   exact rf [2] [] (j3 :)
  ·refine cq 3 [12] [B (decide (b_1≥48))] 177 ?_
   obtain⟨u4,hu4,h⟩:=lJ h
   have j4:Run ss 0 (vH b_1 r) (.code (cR (cR vI))::[]) (sT 17 [(2,B u4)] [] 1):=by
    subst h
    exact rf [2] [] (j3 :)
   replace h:=hu4
   clear hu4
   refine sp 12 h rfl ?_ ?_<;>intro h
   ·refine cq 6 [2] [B (decide (b_1≤57))] 257 ?_
    subst h
    exact rf [2] [] (j4 :)
   ·refine cq 6 [2] [B false] 257 ?_
    subst h
    exact rf [2] [] (j4 :)
 ·refine cq 7 [9,12] [B false,B (decide (b_1≥48))] 177 ?_
  obtain⟨u5,hu5,h⟩:=lJ h
  have j5:Run ss 0 (vH b_1 r) (.code (cR (cR vI))::[]) (sT 17 [(2,B u5)] [] 1):=by
   subst h
   exact rf [2] [] (j2 :)
  replace h:=hu5
  clear hu5
  refine sp 12 h rfl ?_ ?_<;>intro h
  ·refine cq 6 [2] [B (decide (b_1≤57))] 257 ?_
   subst h
   exact rf [2] [] (j5 :)
  ·refine cq 6 [2] [B false] 257 ?_
   subst h
   exact rf [2] [] (j5 :)
theorem Rn {G:bU}:bQ G 128 Az:=gT 1 0 bv ca Tryz.func128 (fun a r h=>UF a r h)
def DQ:aa→List V:=oA str
def DR (r:Bool):V×List V:=(B r,[])
noncomputable def lR :=ba [false] DQ DR fun x=>pb x
theorem oI {s_1:aa}{r}(h:pb s_1=some r):lR.F (DQ s_1)=some (DR r):=aH (aI bc) h
noncomputable def oJ :=aF Tryz.f80
noncomputable abbrev mm :=cR (cR (cR (cR oJ)))
noncomputable abbrev mn :=cR (cL (cR (cL (cR (cR (cR oJ))))))
noncomputable def iT :=b9 [(89,eV),(128,Az)]
def gM (x:aa)(r:Bool):St→Prop:=QF iT Tryz.f80 [false] (DQ x) (DR r)
theorem LM (s_1:aa):cW iT 0 (gM s_1) (cL (cL (cR (cL (cR (cR oJ)))))) 0 (sj s_1) (fun u=>(sT 40 [(0,str s_1)] [] 1)) fun x4=>(sT 40 [(0,str s_1),(3,I x4)] [] 1):=eF (xS s_1) fun {Q K} hK self ih x4 y h hr hn=>by
 unfold mo at h
 refine cq 8 [21] [B (decide (x4<(len s_1)))] 65 ?_
 refine sq h ?_ ?_<;>intro h
 ·refine aq 1 ?_
  refine cq 6 [24,25] [str s_1,I x4] 97 ?_
  obtain⟨c5,hc5,h⟩:=bS h
  refine oq 113 (.int .u8 (c5.toNat:Int)) rfl (mD rfl rfl (qR rfl rfl hc5)) ?_
  obtain⟨r6,hr6,h⟩:=bS h
  refine oq 129 (B r6) rfl (cP (Z3 hr6)) ?_
  refine cq 2 [28] [B (!r6)] 145 ?_
  refine sq h ?_ ?_<;>intro h
  ·refine cq 4 [2] [B false] 161 ?_
   exact b8 rfl (hr _ (ai h) _ (qp [B false]))
  ·refine aq 1 ?_
   refine cq 6 [3] [I (az (x4+1))] 193 ?_
   refine dP ?_
   exact rf [0,3] [] (ih _ _ h hr hn :)
 ·refine aq 1 ?_
  exact rf [0] [] (hn _ (ai h) :) (hk:=hK)
theorem UB (s_1:aa)(r:Bool)(h:pb s_1=some r):bp iT Tryz.f80 [false] 0 (DQ s_1) (DR r):=by
 show Run _ _ (gM s_1 r) [.code oJ] _
 refine rI 40 [(0,str s_1)] [] 1 ?_
 unfold pb at h
 refine cq 9 [5] [I (len s_1)] 49 ?_
 obtain⟨r2,hr2,h⟩:=bS h
 refine oq 65 (B r2) rfl (cP (dY hr2)) ?_
 refine cq 2 [8] [B (!r2)] 97 ?_
 obtain⟨y3,hy3,hy31,hy32⟩:=bJ h
 have j3:∀u3,y3=.inr u3→Run iT 0 (gM s_1 r) (.code (cR (cL (cR oJ)))::.code (cR (cR oJ))::[]) (sT 40 [(0,str s_1),(17,B u3)] [] 1):=by
  intro u3 hu
  replace h:=hy32 u3 hu
  refine sq h ?_ ?_<;>intro h
  ·refine cq 4 [2] [B false] 17 ?_
   obtain rfl:=sI h
   exact rP [B false]
  ·refine aq 1 ?_
   refine cq 6 [3] [I (0)] 17 ?_
   obtain⟨y7,hy7,hy71,hy72⟩:=bJ h
   refine ci rfl ?_
   refine rf [0,3] [] (LM s_1 rfl 0 _ hy7 (fun r' e st hq=>by rw[hy71 r' e] at hq;exact hq) fun u7 hu=>?_)
   replace h:=hy72 u7 hu
   refine cq 12 [29,30] [str s_1,B (s_1==([116,114,117,101]:aa))] 49 ?_
   obtain⟨u8,hu8,h⟩:=lJ h
   have j8:Run iT 0 (gM s_1 r) (.code mn::.blk 2::.code mm::[]) (sT 40 [(30,B u8)] [] 1):=by
    refine sq h ?_ ?_<;>intro h
    ·refine cq 4 [2] [B false] 17 ?_
     obtain rfl:=sI h
     exact rP [B false]
    ·refine aq 1 ?_
     refine cq 5 [2] [B true] 17 ?_
     obtain rfl:=sI h
     exact rP [B true]
   replace h:=hu8
   clear hu8
   refine yE h rfl rfl ?_ ?_<;>intro h
   ·refine aq 1 ?_
    subst h
    exact rf [30] [] (j8 :)
   ·refine cq 5 [30] [B (s_1==([102,114,111,109]:aa))] 81 ?_
    obtain⟨u9,hu9,h⟩:=lJ h
    have j9:Run iT 0 (gM s_1 r) (.code mn::.blk 2::.code mm::[]) (sT 40 [(30,B u9)] [] 1):=by
     subst h
     exact rf [30] [] (j8 :)
    replace h:=hu9
    clear hu9
    refine yE h rfl rfl ?_ ?_<;>intro h
    ·refine aq 1 ?_
     subst h
     exact rf [30] [] (j9 :)
    ·refine cq 5 [30] [B (s_1==([110,111,116]:aa))] 113 ?_
     obtain⟨u10,hu10,h⟩:=lJ h
     have j10:Run iT 0 (gM s_1 r) (.code mn::.blk 2::.code mm::[]) (sT 40 [(30,B u10)] [] 1):=by
      subst h
      exact rf [30] [] (j9 :)
     replace h:=hu10
     clear hu10
     refine yE h rfl rfl ?_ ?_<;>intro h
     ·refine aq 1 ?_
      subst h
      exact rf [30] [] (j10 :)
     ·refine cq 5 [30] [B (s_1==([97,110,100]:aa))] 145 ?_
      obtain⟨u11,hu11,h⟩:=lJ h
      have j11:Run iT 0 (gM s_1 r) (.code mn::.blk 2::.code mm::[]) (sT 40 [(30,B u11)] [] 1):=by
       subst h
       exact rf [30] [] (j10 :)
      replace h:=hu11
      clear hu11
      refine yE h rfl rfl ?_ ?_<;>intro h
      ·refine aq 1 ?_
       subst h
       exact rf [30] [] (j11 :)
      ·refine cq 5 [30] [B (s_1==([111,114]:aa))] 177 ?_
       obtain⟨u12,hu12,h⟩:=lJ h
       have j12:Run iT 0 (gM s_1 r) (.code mn::.blk 2::.code mm::[]) (sT 40 [(30,B u12)] [] 1):=by
        subst h
        exact rf [30] [] (j11 :)
       replace h:=hu12
       clear hu12
       refine yE h rfl rfl ?_ ?_<;>intro h
       ·refine aq 1 ?_
        subst h
        exact rf [30] [] (j12 :)
       ·refine cq 5 [30] [B (s_1==([98,111,116,104]:aa))] 209 ?_
        obtain⟨u13,hu13,h⟩:=lJ h
        have j13:Run iT 0 (gM s_1 r) (.code mn::.blk 2::.code mm::[]) (sT 40 [(30,B u13)] [] 1):=by
         subst h
         exact rf [30] [] (j12 :)
        replace h:=hu13
        clear hu13
        refine yE h rfl rfl ?_ ?_<;>intro h
        ·refine aq 1 ?_
         subst h
         exact rf [30] [] (j13 :)
        ·refine cq 5 [30] [B (s_1==([101,105,116,104,101,114]:aa))] 241 ?_
         obtain⟨u14,hu14,h⟩:=lJ h
         have j14:Run iT 0 (gM s_1 r) (.code mn::.blk 2::.code mm::[]) (sT 40 [(30,B u14)] [] 1):=by
          subst h
          exact rf [30] [] (j13 :)
         replace h:=hu14
         clear hu14
         refine yE h rfl rfl ?_ ?_<;>intro h
         ·refine aq 1 ?_
          subst h
          exact rf [30] [] (j14 :)
         ·refine cq 5 [30] [B (s_1==([105,116]:aa))] 273 ?_
          obtain⟨u15,hu15,h⟩:=lJ h
          have j15:Run iT 0 (gM s_1 r) (.code mn::.blk 2::.code mm::[]) (sT 40 [(30,B u15)] [] 1):=by
           subst h
           exact rf [30] [] (j14 :)
          replace h:=hu15
          clear hu15
          refine yE h rfl rfl ?_ ?_<;>intro h
          ·refine aq 1 ?_
           subst h
           exact rf [30] [] (j15 :)
          ·refine cq 4 [30] [B (s_1==([105,110]:aa))] 305 ?_
           subst h
           exact rf [30] [] (j15 :)
 have r3:∀r',y3=.inl r'→∀st,gM s_1 r' st→(gM s_1 r) st:=fun r' e st hq=>by rw[hy31 r' e] at hq;exact hq
 replace h:=hy3
 refine sp 8 h rfl ?_ ?_<;>intro h
 ·refine cq 10 [17] [B true] 241 ?_
  exact rf [0,17] [] (j3 _ (ai h) :)
 ·refine cq 1 [9] [str s_1] 113 ?_
  obtain⟨c16,hc16,h⟩:=bS h
  refine oy 129 (.int .u8 (c16.toNat:Int)) rfl (mD rfl rfl (qR rfl rfl hc16)) ?_
  refine cq 3 [13] [B (decide ((c16.toNat:Int)<97))] 177 ?_
  obtain⟨y17,hy17,hy171,hy172⟩:=bL h
  have j17:∀u17,y17=.inr u17→Run iT 0 (gM s_1 r) (.code (cR (cL (cR oJ)))::.code (cR (cR oJ))::[]) (sT 40 [(0,str s_1),(17,B u17)] [] 1):=by
   intro u17 hu
   replace h:=hy172 u17 hu
   exact rf [0,17] [] (j3 _ (ai h) :)
  have r17:∀r',y17=.inl r'→∀st,gM s_1 r' st→(gM s_1 r) st:=fun r' e st hq=>r3 r' (hy171 r' e) st hq
  replace h:=hy17
  refine sp 13 h rfl ?_ ?_<;>intro h
  ·refine cq 5 [17] [B true] 241 ?_
   exact rf [0,17] [] (j17 _ (ai h) :)
  ·refine cq 1 [14] [str s_1] 193 ?_
   obtain⟨c18,hc18,h⟩:=bS h
   refine oy 209 (.int .u8 (c18.toNat:Int)) rfl (mD rfl rfl (qR rfl rfl hc18)) ?_
   refine cq 3 [17] [B (decide ((c18.toNat:Int)>122))] 241 ?_
   exact rf [0,17] [] (j17 _ (ai h) :)
theorem oK {G:bU}:bQ G 80 lR:=gT 1 0 (aJ fF (aJ Rn bv)) ca Tryz.func80 (fun a r h=>UB a r h)
def DJ:((List aa)×aa)→List V:=cA (eW str) (oA str)
def DL (r:Bool):V×List V:=(B r,[])
noncomputable def pZ :=ba [false,false] DJ DL fun x=>pa x.1 x.2
theorem DK {ar:List aa}{eu:aa}{r}(h:pa ar eu=some r):pZ.F (DJ (ar,eu))=some (DL r):=aH (aN (bu bc) (aI bc)) h
noncomputable def Rg :=aF Tryz.f123
noncomputable def Jx :=b9 []
def Rf (x:(List aa)×aa)(r:Bool):St→Prop:=QF Jx Tryz.f123 [false,false] (DJ x) (DL r)
theorem LL (ar:List aa)(eu:aa):cW Jx 0 (Rf (ar,eu)) (cL (cL (cR (cL (cR Rg))))) 0 (pO ar eu) (fun u=>(sT 18 [] [] 1)) fun x3=>(sT 18 [(0,.isl false (ar.map str)),(1,str eu),(5,I x3)] [] 1):=eF (xR ar eu) fun {Q K} hK self ih x3 y h hr hn=>by
 unfold ks at h
 refine cq 5 [6,7] [I x3,.isl false (ar.map str)] 33 ?_
 refine oq 49 (I (len ar)) rfl (bq rfl rfl rfl (bB rfl)) ?_
 refine cq 2 [9] [B (decide (x3<(len ar)))] 65 ?_
 refine sq h ?_ ?_<;>intro h
 ·refine aq 1 ?_
  refine cq 6 [12,13] [.isl false (ar.map str),I x3] 97 ?_
  obtain⟨e4,he4,h⟩:=bS h
  refine oq 113 (.iptr (str e4) 0) rfl (au rfl rfl rfl (aV rfl rfl rfl rfl he4)) ?_
  refine cq 4 [17] [B (e4==eu)] 161 ?_
  refine sq h ?_ ?_<;>intro h
  ·refine cq 4 [4] [B true] 177 ?_
   exact b8 rfl (hr _ (ai h) _ (qp [B true]))
  ·refine aq 1 ?_
   refine cq 6 [5] [I (az (x3+1))] 209 ?_
   refine dP ?_
   exact rf [0,1,5] [] (ih _ _ h hr hn :)
 ·refine aq 1 ?_
  exact rf [] [] (hn _ (ai h) :) (hk:=hK)
theorem Uy (ar:List aa)(eu:aa)(r:Bool)(h:pa ar eu=some r):bp Jx Tryz.f123 [false,false] 0 (DJ (ar,eu)) (DL r):=by
 show Run _ _ (Rf (ar,eu) r) [.code Rg] _
 refine rI 18 [(0,.isl false (ar.map str)),(1,str eu)] [] 1 ?_
 unfold pa at h
 refine cq 10 [5] [I (0)] 33 ?_
 obtain⟨y5,hy5,hy51,hy52⟩:=bJ h
 refine ci rfl ?_
 refine rf [0,1,5] [] (LL ar eu rfl 0 _ hy5 (fun r' e st hq=>by rw[hy51 r' e] at hq;exact hq) fun u5 hu=>?_)
 replace h:=hy52 u5 hu
 refine cq 4 [4] [B false] 17 ?_
 obtain rfl:=sI h
 exact rP [B false]
theorem vx {G:bU}:bQ G 123 pZ:=gT 2 0 bv ca Tryz.func123 (fun a r h=>Uy a.1 a.2 r h)
def Ec:Contract→List V:=oA aO
def Ee (r:Bool):V×List V:=(B r,[])
noncomputable def AI :=ba [false] Ec Ee fun x=>vN x
theorem Z7 {c_1:Contract}{r}(h:vN c_1=some r):AI.F (Ec c_1)=some (Ee r):=aH (aI aZ) h
noncomputable def vO :=aF Tryz.f90
noncomputable def Ed :=b9 [(80,lR),(123,pZ),(89,eV)]
def JI (x:Contract)(r:Bool):St→Prop:=QF Ed Tryz.f90 [false] (Ec x) (Ee r)
theorem LU (c_1:Contract):cW Ed 0 (JI c_1) (cL (cL (cR (cL (cR vO))))) 0 (sB c_1) (fun u=>(sT 34 [(1,.hp 1 0 [] 2 0 0)] [⟨0,2,[ac c_1]⟩] 2)) fun x2=>(sT 34 [(1,.hp 1 0 [] 2 0 0),(3,I x2)] [⟨0,2,[ac c_1]⟩] 2):=eF (yb c_1) fun {Q K} hK self ih x2 y h hr hn=>by
 unfold kz at h
 refine cq 6 [4,6] [I x2,.isl false (c_1.Parties.map str)] 50 ?_
 refine oq 66 (I (len c_1.Parties)) rfl (bq rfl rfl rfl (bB rfl)) ?_
 refine cq 2 [8] [B (decide (x2<(len c_1.Parties)))] 82 ?_
 refine sq h ?_ ?_<;>intro h
 ·refine aq 1 ?_
  refine aq 3 ?_
  refine ez [0,1,0,7,15,31,63,127,255,511,255,2047,255,4351,255,28927,61695,131071,262143] rfl (by decide +kernel) ?_
  refine dq [1] [] (.hp 1 0 [] 2 0 0) rfl (al rfl rfl rfl) ?_
  refine dq [1] [] (.isl false (c_1.Parties.map str)) rfl (aY rfl rfl) ?_
  refine dk 1 [13] [I x2] ?_
  obtain⟨e3,he3,h⟩:=bS h
  refine dq [] [] (.iptr (str e3) 0) rfl (au rfl rfl rfl (aV rfl rfl rfl rfl he3)) ?_
  refine dq [] [] (str e3) rfl (aY rfl rfl) ?_
  obtain⟨r4,hr4,h⟩:=bS h
  refine dq [] [] (B r4) rfl (cP (oI hr4)) ?_ (dE rfl rfl rfl rfl (bw (bR rfl) dB) (oI hr4) (.inr rfl) rfl)
  refine dk 2 [18,17] [B (!r4),B (!r4)] ?_
  obtain⟨y5,hy5,hy51,hy52⟩:=bL h
  have j5:∀u5,y5=.inr u5→Run Ed 0 Q (.code (cR (cL (cL (cR (cL (cL (cR (cL (cR vO)))))))))::.blk 1::.code (cR (cR (cL (cL (cR (cL (cR vO)))))))::.lp (cL (cL (cR (cL (cR vO)))))::.blk 0::K) (sT 34 [(1,.hp 1 0 [] 2 0 0),(3,I x2),(29,B u5)] [⟨0,2,[ac c_1]⟩] 2):=by
   intro u5 hu
   replace h:=hy52 u5 hu
   refine sq h ?_ ?_<;>intro h
   ·refine cq 4 [2] [B false] 18 ?_
    exact b8 rfl (hr _ (ai h) _ (qp [B false]))
   ·refine aq 1 ?_
    refine cq 6 [3] [I (az (x2+1))] 50 ?_
    refine dP ?_
    exact rf [1,3] [1] (ih _ _ h hr hn :)
  have r5:∀r',y5=.inl r'→∀st,JI c_1 r' st→Q st:=fun r' e st hq=>hr r' (hy51 r' e) st hq
  replace h:=hy5
  refine sp 18 h rfl ?_ ?_<;>intro h
  ·refine dk 11 [29,28,27,26,25,24,23,22,21,20,19] [B true,.und,.und,.und,.und,.und,.und,.und,.und,.und,.und] ?_
   refine de 386 rfl rfl ?_
   exact rf [1,3,29] [1] (j5 _ (ai h) :)
  ·refine dy [1] [] (.hp 1 0 [] 2 0 0) rfl (al rfl rfl rfl) ?_
   refine dy [1] [] (.isl false (c_1.Parties.map str)) rfl (aY rfl rfl) ?_
   refine dk 1 [21] [I x2] ?_
   obtain⟨s6,hs6,h⟩:=bS h
   refine dy [] [] (.isl false (s6.map str)) rfl (ig rfl rfl rfl rfl (K5 rfl rfl (fun y=>(jp y).1) rfl rfl hs6)) ?_
   refine dy [1] [] (.hp 1 0 [] 2 0 0) rfl (al rfl rfl rfl) ?_
   refine dy [1] [] (.isl false (c_1.Parties.map str)) rfl (aY rfl rfl) ?_
   refine dk 1 [25] [I x2] ?_
   obtain⟨e7,he7,h⟩:=bS h
   refine dy [] [] (.iptr (str e7) 0) rfl (au rfl rfl rfl (aV rfl rfl rfl rfl he7)) ?_
   refine dy [] [] (str e7) rfl (aY rfl rfl) ?_
   obtain⟨r8,hr8,h⟩:=bS h
   refine dy [] [] (B r8) rfl (cP (DK hr8)) ?_ (dE rfl rfl rfl rfl (bw (bR rfl) (bw (bR rfl) dB)) (DK hr8) (.inr rfl) rfl)
   refine dk 1 [29] [B r8] ?_
   refine de 386 rfl rfl ?_
   exact rf [1,3,29] [1] (j5 _ (ai h) :)
 ·refine aq 1 ?_
  exact rf [1] [1] (hn _ (ai h) :) (hk:=hK)
theorem UN (c_1:Contract)(r:Bool)(h:vN c_1=some r):bp Ed Tryz.f90 [false] 0 (Ec c_1) (Ee r):=by
 show Run _ _ (JI c_1 r) [.code vO] _
 refine rI 34 [(0,ac c_1)] [] 1 ?_
 unfold vN at h
 refine ck 11 [1,3] [] [1] [] [.hp 1 0 [] 2 0 0,I (0)] [some ⟨0,2,[ac c_1]⟩] 49 (by kernel_rfl) ?_
 obtain⟨y9,hy9,hy91,hy92⟩:=bJ h
 refine ci rfl ?_
 refine rf [1,3] [1] (LU c_1 rfl 0 _ hy9 (fun r' e st hq=>by rw[hy91 r' e] at hq;exact hq) fun u9 hu=>?_)
 replace h:=hy92 u9 hu
 refine cq 4 [31] [.isl false (c_1.Parties.map str)] 34 ?_
 refine oq 50 (I (len c_1.Parties)) rfl (bq rfl rfl rfl (bB rfl)) ?_
 obtain⟨r10,hr10,h⟩:=bS h
 refine oq 66 (B r10) rfl (cP (dY hr10)) ?_
 refine cq 2 [2] [B r10] 82 ?_
 obtain rfl:=sI h
 exact rP [B r10]
theorem RD {G:bU}:bQ G 90 AI:=gT 1 0 (aJ oK (aJ vx (aJ fF bv))) ca Tryz.func90 (fun a r h=>UN a r h)
def D3:(Contract×aa)→List V:=cA aO (oA str)
def D4 (r:Int):V×List V:=(I r,[])
noncomputable def tG :=ba [false,false] D3 D4 fun x=>tF x.1 x.2
theorem JG {c_1:Contract}{eE:aa}{r}(h:tF c_1 eE=some r):tG.F (D3 (c_1,eE))=some (D4 r):=aH (aN aZ (aI bc)) h
noncomputable def Ry :=aF Tryz.f91
noncomputable def JF :=b9 []
def Rx (x:Contract×aa)(r:Int):St→Prop:=QF JF Tryz.f91 [false,false] (D3 x) (D4 r)
theorem LR (c_1:Contract)(eE:aa):cW JF 0 (Rx (c_1,eE)) (cL (cL (cR (cL (cR Ry))))) 0 (sx c_1 eE) (fun u=>(sT 22 [] [] 1)) fun x3=>(sT 22 [(1,str eE),(2,.hp 1 0 [] 2 0 0),(5,I x3)] [⟨0,2,[ac c_1]⟩] 2):=eF (xX c_1 eE) fun {Q K} hK self ih x3 y h hr hn=>by
 unfold mr at h
 refine cq 6 [6,8] [I x3,.isl false (c_1.Clauses.map aj)] 50 ?_
 refine oq 66 (I (len c_1.Clauses)) rfl (bq rfl rfl rfl (bB rfl)) ?_
 refine cq 2 [10] [B (decide (x3<(len c_1.Clauses)))] 82 ?_
 refine sq h ?_ ?_<;>intro h
 ·refine aq 1 ?_
  refine cq 7 [14,15] [.isl false (c_1.Clauses.map aj),I x3] 130 ?_
  obtain⟨e4,he4,h⟩:=bS h
  refine oq 146 (.iptr (ao e4) 0) rfl (au rfl rfl rfl (aV rfl rfl rfl rfl he4)) ?_
  refine cq 5 [20] [B (e4.Id==eE)] 210 ?_
  refine sq h ?_ ?_<;>intro h
  ·refine cq 5 [4] [I x3] 242 ?_
   exact b8 rfl (hr _ (ai h) _ (qp [I x3]))
  ·refine aq 1 ?_
   refine cq 6 [5] [I (az (x3+1))] 258 ?_
   refine dP ?_
   exact rf [1,2,5] [1] (ih _ _ h hr hn :)
 ·refine aq 1 ?_
  exact rf [] [] (hn _ (ai h) :) (hk:=hK)
theorem UK (c_1:Contract)(eE:aa)(r:Int)(h:tF c_1 eE=some r):bp JF Tryz.f91 [false,false] 0 (D3 (c_1,eE)) (D4 r):=by
 show Run _ _ (Rx (c_1,eE) r) [.code Ry] _
 refine rI 22 [(0,ac c_1),(1,str eE)] [] 1 ?_
 unfold tF at h
 refine ck 11 [2,5] [] [1] [] [.hp 1 0 [] 2 0 0,I (0)] [some ⟨0,2,[ac c_1]⟩] 49 (by kernel_rfl) ?_
 obtain⟨y5,hy5,hy51,hy52⟩:=bJ h
 refine ci rfl ?_
 refine rf [1,2,5] [1] (LR c_1 eE rfl 0 _ hy5 (fun r' e st hq=>by rw[hy51 r' e] at hq;exact hq) fun u5 hu=>?_)
 replace h:=hy52 u5 hu
 refine cq 4 [4] [I (-1)] 17 ?_
 obtain rfl:=sI h
 exact rP [I (-1)]
theorem G1 {G:bU}:bQ G 91 tG:=gT 2 0 bv ca Tryz.func91 (fun a r h=>UK a.1 a.2 r h)
def Dy:Int→List V:=oA I
def DA (r:Bool):V×List V:=(B r,[])
noncomputable def pX :=ba [false] Dy DA fun x=>pW x
theorem Dz {gm:Int}{r}(h:pW gm=some r):pX.F (Dy gm)=some (DA r):=aH (aI bC) h
noncomputable def ZY :=aF Tryz.f76
noncomputable def Q5 :=b9 [(89,eV)]
def ZX (x:Int)(r:Bool):St→Prop:=QF Q5 Tryz.f76 [false] (Dy x) (DA r)
theorem Us (gm:Int)(r:Bool)(h:pW gm=some r):bp Q5 Tryz.f76 [false] 0 (Dy gm) (DA r):=by
 show Run _ _ (ZX gm r) [.code ZY] _
 refine rI 5 [(0,I gm)] [] 1 ?_
 unfold pW at h
 refine cq 7 [3] [I gm] 33 ?_
 obtain⟨r2,hr2,h⟩:=bS h
 refine oq 49 (B r2) rfl (cP (dY hr2)) ?_
 refine cq 2 [2] [B r2] 65 ?_
 obtain rfl:=sI h
 exact rP [B r2]
theorem vt {G:bU}:bQ G 76 pX:=gT 1 0 (aJ fF bv) ca Tryz.func76 (fun a r h=>Us a r h)
def DE:Condition→List V:=oA bg
def DF (r:Bool):V×List V:=(B r,[])
noncomputable def Aq :=ba [false] DE DF fun x=>Ap x
theorem Z0 {c_1:Condition}{r}(h:Ap c_1=some r):Aq.F (DE c_1)=some (DF r):=aH (aI cG) h
noncomputable def mQ :=aF Tryz.f190
noncomputable abbrev iR :=cR (cR (cR mQ))
noncomputable abbrev Mn :=cR (cL (cR (cR (cR (cL (cR (cL (cR (cR mQ)))))))))
noncomputable abbrev Mo :=cR (cL (cR (cR (cR (cR (cR (cL (cR (cL (cR (cR mQ)))))))))))
noncomputable abbrev Mp :=cR (cL (cR (cR (cR (cR (cR (cR (cR (cL (cR (cL (cR (cR mQ)))))))))))))
noncomputable abbrev Mq :=cR (cL (cR (cR (cR (cR (cR (cR (cR (cR (cR (cL (cR (cL (cR (cR mQ)))))))))))))))
noncomputable def iQ :=b9 [(80,lR),(76,pX)]
def f7 (x:Condition)(r:Bool):St→Prop:=QF iQ Tryz.f190 [false] (DE x) (DF r)
theorem Uu (c_1:Condition)(r:Bool)(h:Ap c_1=some r):bp iQ Tryz.f190 [false] 0 (DE c_1) (DF r):=by
 show Run _ _ (f7 c_1 r) [.code mQ] _
 refine rI 80 [(0,ah c_1)] [] 1 ?_
 unfold Ap at h
 refine ck 9 [1,5] [] [1] [] [.hp 1 0 [] 4 0 0,.isl false (c_1.Parts.map ay)] [some ⟨0,4,[ah c_1]⟩] 65 (by kernel_rfl) ?_
 refine oq 81 (I (len c_1.Parts)) rfl (bq rfl rfl rfl (bB rfl)) ?_
 refine cq 14 [3,8,9] [I (len c_1.Parts),I c_1.Op,B (c_1.Op==1)] 161 ?_
 refine sq h ?_ ?_<;>intro h
 ·refine cq 5 [13] [B ((len c_1.Parts)==0)] 209 ?_
  obtain⟨u2,hu2,h⟩:=lJ h
  have j2:Run iQ 0 (f7 c_1 r) (.code (cR (cL (cR (cL (cR (cL (cR (cR mQ))))))))::.blk 0::.code iR::[]) (sT 80 [(2,B u2)] [] 1):=by
   obtain rfl:=sI h
   exact rP [B u2]
  replace h:=hu2
  clear hu2
  refine sp 13 h rfl ?_ ?_<;>intro h
  ·refine cq 5 [18] [B (c_1.Name==([]:aa))] 289 ?_
   obtain⟨u3,hu3,h⟩:=lJ h
   have j3:Run iQ 0 (f7 c_1 r) (.code (cR (cL (cR (cL (cR (cL (cR (cR mQ))))))))::.blk 0::.code iR::[]) (sT 80 [(2,B u3)] [] 1):=by
    subst h
    exact rf [2] [] (j2 :)
   replace h:=hu3
   clear hu3
   refine sp 18 h rfl ?_ ?_<;>intro h
   ·refine cq 6 [2] [B (c_1.Day==0)] 369 ?_
    subst h
    exact rf [2] [] (j3 :)
   ·refine cq 6 [2] [B false] 369 ?_
    subst h
    exact rf [2] [] (j3 :)
  ·refine cq 11 [2] [B false] 369 ?_
   subst h
   exact rf [2] [] (j2 :)
 ·refine cq 5 [23] [B (c_1.Op==2)] 193 ?_
  refine sq h ?_ ?_<;>intro h
  ·refine cq 5 [27] [B ((len c_1.Parts)==0)] 241 ?_
   obtain⟨y4,hy4,hy41,hy42⟩:=bJ h
   have j4:∀u4,y4=.inr u4→Run iQ 0 (f7 c_1 r) (.code Mn::.blk 0::.code iR::[]) (sT 80 [(2,B u4)] [] 1):=by
    intro u4 hu
    replace h:=hy42 u4 hu
    obtain rfl:=sI h
    exact rP [B u4]
   have r4:∀r',y4=.inl r'→∀st,f7 c_1 r' st→(f7 c_1 r) st:=fun r' e st hq=>by rw[hy41 r' e] at hq;exact hq
   replace h:=hy4
   refine sp 27 h rfl ?_ ?_<;>intro h
   ·refine cq 2 [29] [str c_1.Name] 273 ?_
    obtain⟨r5,hr5,h⟩:=bS h
    refine oy 289 (B r5) rfl (cP (oI hr5)) ?_
    refine cq 2 [32] [B r5] 321 ?_
    obtain⟨u6,hu6,h⟩:=lJ h
    have j6:Run iQ 0 (f7 c_1 r) (.code Mn::.blk 0::.code iR::[]) (sT 80 [(2,B u6)] [] 1):=by
     exact rf [2] [] (j4 _ (ai h) :)
    replace h:=hu6
    clear hu6
    refine sp 32 h rfl ?_ ?_<;>intro h
    ·refine cq 6 [2] [B (c_1.Day==0)] 401 ?_
     subst h
     exact rf [2] [] (j6 :)
    ·refine cq 6 [2] [B false] 401 ?_
     subst h
     exact rf [2] [] (j6 :)
   ·refine cq 11 [2] [B false] 401 ?_
    exact rf [2] [] (j4 _ (ai h) :)
  ·refine cq 5 [37] [B (c_1.Op==3)] 225 ?_
   refine sq h ?_ ?_<;>intro h
   ·refine cq 5 [41] [B ((len c_1.Parts)==0)] 273 ?_
    obtain⟨y7,hy7,hy71,hy72⟩:=bJ h
    have j7:∀u7,y7=.inr u7→Run iQ 0 (f7 c_1 r) (.code Mo::.blk 0::.code iR::[]) (sT 80 [(2,B u7)] [] 1):=by
     intro u7 hu
     replace h:=hy72 u7 hu
     obtain rfl:=sI h
     exact rP [B u7]
    have r7:∀r',y7=.inl r'→∀st,f7 c_1 r' st→(f7 c_1 r) st:=fun r' e st hq=>by rw[hy71 r' e] at hq;exact hq
    replace h:=hy7
    refine sp 41 h rfl ?_ ?_<;>intro h
    ·refine cq 5 [46] [B (c_1.Name==([]:aa))] 353 ?_
     obtain⟨y8,hy8,hy81,hy82⟩:=bL h
     have j8:∀u8,y8=.inr u8→Run iQ 0 (f7 c_1 r) (.code Mo::.blk 0::.code iR::[]) (sT 80 [(2,B u8)] [] 1):=by
      intro u8 hu
      replace h:=hy82 u8 hu
      exact rf [2] [] (j7 _ (ai h) :)
     have r8:∀r',y8=.inl r'→∀st,f7 c_1 r' st→(f7 c_1 r) st:=fun r' e st hq=>r7 r' (hy81 r' e) st hq
     replace h:=hy8
     refine sp 46 h rfl ?_ ?_<;>intro h
     ·refine cq 2 [48] [I c_1.Day] 385 ?_
      obtain⟨r9,hr9,h⟩:=bS h
      refine oy 401 (B r9) rfl (cP (Dz hr9)) ?_
      refine cq 3 [2] [B r9] 433 ?_
      exact rf [2] [] (j8 _ (ai h) :)
     ·refine cq 6 [2] [B false] 433 ?_
      exact rf [2] [] (j8 _ (ai h) :)
    ·refine cq 11 [2] [B false] 433 ?_
     exact rf [2] [] (j7 _ (ai h) :)
   ·refine cq 5 [51] [B (c_1.Op==4)] 257 ?_
    refine sq h ?_ ?_<;>intro h
    ·refine cq 5 [55] [B ((len c_1.Parts)==1)] 305 ?_
     obtain⟨u10,hu10,h⟩:=lJ h
     have j10:Run iQ 0 (f7 c_1 r) (.code Mp::.blk 0::.code iR::[]) (sT 80 [(2,B u10)] [] 1):=by
      obtain rfl:=sI h
      exact rP [B u10]
     replace h:=hu10
     clear hu10
     refine sp 55 h rfl ?_ ?_<;>intro h
     ·refine cq 5 [60] [B (c_1.Name==([]:aa))] 385 ?_
      obtain⟨u11,hu11,h⟩:=lJ h
      have j11:Run iQ 0 (f7 c_1 r) (.code Mp::.blk 0::.code iR::[]) (sT 80 [(2,B u11)] [] 1):=by
       subst h
       exact rf [2] [] (j10 :)
      replace h:=hu11
      clear hu11
      refine sp 60 h rfl ?_ ?_<;>intro h
      ·refine cq 6 [2] [B (c_1.Day==0)] 465 ?_
       subst h
       exact rf [2] [] (j11 :)
      ·refine cq 6 [2] [B false] 465 ?_
       subst h
       exact rf [2] [] (j11 :)
     ·refine cq 11 [2] [B false] 465 ?_
      subst h
      exact rf [2] [] (j10 :)
    ·refine cq 6 [65] [B (c_1.Op==5)] 289 ?_
     obtain⟨u12,hu12,h⟩:=lJ h
     have j12:Run iQ 0 (f7 c_1 r) (.code (cR (cR (cR (cR (cR (cR (cR (cR (cR (cL (cR (cL (cR (cR mQ))))))))))))))::.blk 0::.code iR::[]) (sT 80 [(1,.hp 1 0 [] 4 0 0),(3,I (len c_1.Parts)),(65,B u12)] [⟨0,4,[ah c_1]⟩] 2):=by
      refine sq h ?_ ?_<;>intro h
      ·refine cq 5 [70] [B ((len c_1.Parts)==2)] 50 ?_
       obtain⟨u13,hu13,h⟩:=lJ h
       have j13:Run iQ 0 (f7 c_1 r) (.code Mq::.blk 0::.code iR::[]) (sT 80 [(2,B u13)] [] 1):=by
        obtain rfl:=sI h
        exact rP [B u13]
       replace h:=hu13
       clear hu13
       refine sp 70 h rfl ?_ ?_<;>intro h
       ·refine cq 5 [75] [B (c_1.Name==([]:aa))] 130 ?_
        obtain⟨u14,hu14,h⟩:=lJ h
        have j14:Run iQ 0 (f7 c_1 r) (.code Mq::.blk 0::.code iR::[]) (sT 80 [(2,B u14)] [] 1):=by
         subst h
         exact rf [2] [] (j13 :)
        replace h:=hu14
        clear hu14
        refine sp 75 h rfl ?_ ?_<;>intro h
        ·refine cq 6 [2] [B (c_1.Day==0)] 210 ?_
         subst h
         exact rf [2] [] (j14 :)
        ·refine cq 6 [2] [B false] 210 ?_
         subst h
         exact rf [2] [] (j14 :)
       ·refine cq 11 [2] [B false] 210 ?_
        subst h
        exact rf [2] [] (j13 :)
      ·refine aq 1 ?_
       refine cq 5 [2] [B false] 18 ?_
       obtain rfl:=sI h
       exact rP [B false]
     replace h:=hu12
     clear hu12
     refine yE h rfl rfl ?_ ?_<;>intro h
     ·refine aq 1 ?_
      subst h
      exact rf [1,3,65] [1] (j12 :)
     ·refine cq 4 [65] [B (c_1.Op==6)] 321 ?_
      subst h
      exact rf [1,3,65] [1] (j12 :)
theorem Q8 {G:bU}:bQ G 190 Aq:=gT 1 0 (aJ oK (aJ vt bv)) ca Tryz.func190 (fun a r h=>Uu a r h)
def vu:Condition→List V:=oA bg
def vv (r:Bool):V×List V:=(B r,[])
noncomputable def vw (cj:Condition→Option Bool):Ent:=ba [false] vu vv cj
theorem Mr (cj:Condition→Option Bool){x}{r}(h:cj x=some r):(vw cj).F (vu x)=some (vv r):=aH (aI cG) h
noncomputable def Ar :=vw (aM pY)
theorem Z1 {c_1:Condition}{r}(h:F5 c_1=some r):Ar.F (vu c_1)=some (vv r):=Mr (aM pY) h
noncomputable def Ra :=aF Tryz.f169
noncomputable def Jv (cj:Condition→Option Bool):Env:=b9 [(190,Aq),(169,(vw cj))]
def Q9 (cj:Condition→Option Bool)(x:Condition)(r:Bool):St→Prop:=QF (Jv cj) Tryz.f169 [false] (vu x) (vv r)
theorem LK (cj:Condition→Option Bool)(c_1:Condition):cW (Jv cj) 0 (Q9 cj c_1) (cL (cL (cR (cL (cR (cR Ra)))))) 0 (pN cj c_1) (fun u=>(sT 21 [] [] 1)) fun x3=>(sT 21 [(1,.hp 1 0 [] 4 0 0),(3,I x3)] [⟨0,4,[ah c_1]⟩] 2):=eF (xQ cj c_1) fun {Q K} hK self ih x3 y h hr hn=>by
 unfold kr at h
 refine cq 6 [7,9] [I x3,.isl false (c_1.Parts.map ay)] 50 ?_
 refine oq 66 (I (len c_1.Parts)) rfl (bq rfl rfl rfl (bB rfl)) ?_
 refine cq 2 [11] [B (decide (x3<(len c_1.Parts)))] 82 ?_
 refine sq h ?_ ?_<;>intro h
 ·refine aq 1 ?_
  refine cq 7 [15,16] [.isl false (c_1.Parts.map ay),I x3] 130 ?_
  obtain⟨e4,he4,h⟩:=bS h
  refine oq 146 (.iptr (ah e4) 0) rfl (au rfl rfl rfl (aV rfl rfl (bA e4) rfl he4)) ?_
  refine cq 1 [18] [ah e4] 162 ?_
  obtain⟨r5,hr5,h⟩:=bS h
  refine oq 178 (B r5) rfl (cd rfl rfl (cO rfl rfl rfl (bw (bR rfl) dB) (Mr cj hr5) (.inr rfl) d9 rfl rfl rfl)) ?_
  refine cq 2 [20] [B (!r5)] 194 ?_
  refine sq h ?_ ?_<;>intro h
  ·refine cq 4 [2] [B false] 210 ?_
   exact b8 rfl (hr _ (ai h) _ (qp [B false]))
  ·refine aq 1 ?_
   refine cq 6 [3] [I (az (x3+1))] 242 ?_
   refine dP ?_
   exact rf [1,3] [1] (ih _ _ h hr hn :)
 ·refine aq 1 ?_
  exact rf [] [] (hn _ (ai h) :) (hk:=hK)
theorem Uw (cj:Condition→Option Bool)(c_1:Condition)(r:Bool)(h:sh cj c_1=some r):bp (Jv cj) Tryz.f169 [false] 0 (vu c_1) (vv r):=by
 show Run _ _ (Q9 cj c_1 r) [.code Ra] _
 refine rI 21 [(0,ah c_1)] [] 1 ?_
 unfold sh at h
 refine ck 9 [1,4] [] [1] [] [.hp 1 0 [] 4 0 0,ah c_1] [some ⟨0,4,[ah c_1]⟩] 49 (by kernel_rfl) ?_
 obtain⟨r2,hr2,h⟩:=bS h
 refine oq 65 (B r2) rfl (cP (Z0 hr2)) ?_
 refine cq 2 [6] [B (!r2)] 81 ?_
 refine sq h ?_ ?_<;>intro h
 ·refine cq 4 [2] [B false] 97 ?_
  obtain rfl:=sI h
  exact rP [B false]
 ·refine aq 1 ?_
  refine cq 6 [3] [I (0)] 97 ?_
  obtain⟨y6,hy6,hy61,hy62⟩:=bJ h
  refine ci rfl ?_
  refine rf [1,3] [1] (LK cj c_1 rfl 0 _ hy6 (fun r' e st hq=>by rw[hy61 r' e] at hq;exact hq) fun u6 hu=>?_)
  replace h:=hy62 u6 hu
  refine cq 4 [2] [B true] 17 ?_
  obtain rfl:=sI h
  exact rP [B true]
theorem Rb {G:bU}:bQ G 169 Ar:=iB fun cj g_Ffdk=>gT 1 0 (aJ Q8 (aJ g_Ffdk bv)) ca Tryz.func169 (fun a r h=>Uw cj a r h)
def vJ:Condition→List V:=oA bg
def vK (r:Int):V×List V:=(I r,[])
noncomputable def vL (cm:Condition→Option Int):Ent:=ba [false] vJ vK cm
theorem Mt (cm:Condition→Option Int){x}{r}(h:cm x=some r):(vL cm).F (vJ x)=some (vK r):=aH (aI cG) h
noncomputable def AB :=vL (aM kw)
theorem Z4 {c_1:Condition}{r}(h:JB c_1=some r):AB.F (vJ c_1)=some (vK r):=Mt (aM kw) h
noncomputable def Rp :=aF Tryz.f170
noncomputable def JC (cm:Condition→Option Int):Env:=b9 [(170,(vL cm))]
def Ro (cm:Condition→Option Int)(x:Condition)(r:Int):St→Prop:=QF (JC cm) Tryz.f170 [false] (vJ x) (vK r)
theorem LP (cm:Condition→Option Int)(c_1:Condition):cW (JC cm) 0 (Ro cm c_1) (cL (cL (cR (cL (cR (cR Rp)))))) 0 (kW cm c_1) (fun u=>(sT 21 [(3,I u)] [] 1)) fun x2=>(sT 21 [(1,.hp 1 0 [] 4 0 0),(3,I x2.1),(4,I x2.2)] [⟨0,4,[ah c_1]⟩] 2):=eF (xV cm c_1) fun {Q K} hK self ih x2 y h hr hn=>by
 unfold ji at h
 refine cq 6 [5,7] [I x2.2,.isl false (c_1.Parts.map ay)] 50 ?_
 refine oq 66 (I (len c_1.Parts)) rfl (bq rfl rfl rfl (bB rfl)) ?_
 refine cq 2 [9] [B (decide (x2.2<(len c_1.Parts)))] 82 ?_
 refine sq h ?_ ?_<;>intro h
 ·refine aq 1 ?_
  refine cq 7 [12,14,15] [I x2.1,.isl false (c_1.Parts.map ay),I x2.2] 146 ?_
  obtain⟨e3,he3,h⟩:=bS h
  refine oq 162 (.iptr (ah e3) 0) rfl (au rfl rfl rfl (aV rfl rfl (bA e3) rfl he3)) ?_
  refine cq 1 [17] [ah e3] 178 ?_
  obtain⟨r4,hr4,h⟩:=bS h
  refine oq 194 (I r4) rfl (cd rfl rfl (cO rfl rfl rfl (bw (bR rfl) dB) (Mt cm hr4) (.inr rfl) d9 rfl rfl rfl)) ?_
  refine cq 9 [3,4] [I (az (x2.1+r4)),I (az (x2.2+1))] 274 ?_
  refine dP ?_
  exact rf [1,3,4] [1] (ih _ _ h hr hn :)
 ·refine aq 1 ?_
  exact rf [3] [] (hn _ (ai h) :) (hk:=hK)
theorem UH (cm:Condition→Option Int)(c_1:Condition)(r:Int)(h:su cm c_1=some r):bp (JC cm) Tryz.f170 [false] 0 (vJ c_1) (vK r):=by
 show Run _ _ (Ro cm c_1 r) [.code Rp] _
 refine rI 21 [(0,ah c_1)] [] 1 ?_
 unfold su at h
 refine ck 15 [1,3,4] [] [1] [] [.hp 1 0 [] 4 0 0,I (1),I (0)] [some ⟨0,4,[ah c_1]⟩] 65 (by kernel_rfl) ?_
 obtain⟨y5,hy5,hy51,hy52⟩:=bJ h
 refine ci rfl ?_
 refine rf [1,3,4] [1] (LP cm c_1 rfl (1,0) _ hy5 (fun r' e st hq=>by rw[hy51 r' e] at hq;exact hq) fun u5 hu=>?_)
 replace h:=hy52 u5 hu
 refine cq 5 [2] [I u5] 33 ?_
 obtain rfl:=sI h
 exact rP [I u5]
theorem Rq {G:bU}:bQ G 170 AB:=iB fun cm g_Ffds=>gT 1 0 (aJ g_Ffds bv) ca Tryz.func170 (fun a r h=>UH cm a r h)
def DG:Condition→List V:=oA bg
def DI (r:Bool):V×List V:=(B r,[])
noncomputable def Av :=ba [false] DG DI fun x=>Au x
theorem Z2 {c_1:Condition}{r}(h:Au c_1=some r):Av.F (DG c_1)=some (DI r):=aH (aI cG) h
noncomputable def Rc :=aF Tryz.f135
noncomputable def Jw :=b9 [(169,Ar),(170,AB)]
def DH (x:Condition)(r:Bool):St→Prop:=QF Jw Tryz.f135 [false] (DG x) (DI r)
theorem Ux (c_1:Condition)(r:Bool)(h:Au c_1=some r):bp Jw Tryz.f135 [false] 0 (DG c_1) (DI r):=by
 show Run _ _ (DH c_1 r) [.code Rc] _
 refine rI 10 [(0,ah c_1)] [] 1 ?_
 unfold Au at h
 refine ck 8 [1,3] [] [1] [] [.hp 1 0 [] 4 0 0,ah c_1] [some ⟨0,4,[ah c_1]⟩] 49 (by kernel_rfl) ?_
 obtain⟨r2,hr2,h⟩:=bS h
 refine oq 65 (B r2) rfl (cP (Z1 hr2)) ?_
 refine cq 1 [5] [B r2] 81 ?_
 obtain⟨y3,hy3,hy31,hy32⟩:=bJ h
 have j3:∀u3,y3=.inr u3→Run Jw 0 (DH c_1 r) (.code (cR (cR Rc))::[]) (sT 10 [(2,B u3)] [] 1):=by
  intro u3 hu
  replace h:=hy32 u3 hu
  obtain rfl:=sI h
  exact rP [B u3]
 have r3:∀r',y3=.inl r'→∀st,DH c_1 r' st→(DH c_1 r) st:=fun r' e st hq=>by rw[hy31 r' e] at hq;exact hq
 replace h:=hy3
 refine sp 5 h rfl ?_ ?_<;>intro h
 ·refine cq 1 [6] [ah c_1] 97 ?_
  obtain⟨r4,hr4,h⟩:=bS h
  refine oy 113 (I r4) rfl (cP (Z4 hr4)) ?_
  refine cq 4 [2] [B (decide (r4≤15))] 161 ?_
  exact rf [2] [] (j3 _ (ai h) :)
 ·refine cq 6 [2] [B false] 161 ?_
  exact rf [2] [] (j3 _ (ai h) :)
theorem Re {G:bU}:bQ G 135 Av:=gT 1 0 (aJ Rb (aJ Rq bv)) ca Tryz.func135 (fun a r h=>Ux a r h)
def DZ:(Contract×Int)→List V:=cA aO (oA I)
def D0 (r:Bool):V×List V:=(B r,[])
noncomputable def AD :=ba [false,false] DZ D0 fun x=>AC x.1 x.2
theorem Rr {c_1:Contract}{i_2:Int}{r}(h:AC c_1 i_2=some r):AD.F (DZ (c_1,i_2))=some (D0 r):=aH (aN aZ (aI bC)) h
noncomputable def JD :=aF Tryz.f92
noncomputable abbrev mp :=cR (cR (cR (cR JD)))
noncomputable abbrev pQ :=cR (cL (cR (cR (cR JD))))
noncomputable abbrev sv :=cR mp
noncomputable abbrev wO :=cR (cL mp)
noncomputable abbrev F7 :=cR (cR (cR sv))
noncomputable def gY :=b9 [(80,lR),(89,eV),(91,tG),(135,Av)]
def dV (x:Contract×Int)(r:Bool):St→Prop:=QF gY Tryz.f92 [false,false] (DZ x) (D0 r)
theorem UI (c_1:Contract)(i_2:Int)(r:Bool)(h:AC c_1 i_2=some r):bp gY Tryz.f92 [false,false] 0 (DZ (c_1,i_2)) (D0 r):=by
 show Run _ _ (dV (c_1,i_2) r) [.code JD] _
 refine rI 114 [(0,ac c_1),(1,I i_2)] [] 1 ?_
 unfold AC at h
 refine ck 10 [2,9,10] [] [1] [] [.hp 1 0 [] 2 0 0,.isl false (c_1.Clauses.map aj),I i_2] [some ⟨0,2,[ac c_1]⟩] 81 (by kernel_rfl) ?_
 obtain⟨e3,he3,h⟩:=bS h
 refine oq 97 (.iptr (ao e3) 0) rfl (au rfl rfl rfl (aV rfl rfl rfl rfl he3)) ?_
 refine ck 2 [5,12] [] [113] [] [.hp 113 0 [] 12 0 0,ao e3] [some ⟨0,12,[.agg [str ([]),I (0),I (0),str ([]),I (0),I (0),I (0),str ([]),I (0),.isl true [],I (0),str ([])]]⟩] 129 (by kernel_rfl) ?_
 refine eJ 113 [.agg [str ([]),I (0),I (0),str ([]),I (0),I (0),I (0),str ([]),I (0),.usl 4 (([]).map aC),I (0),str ([])]] rfl rfl (aD (fD (aD (.refl _) (aD (.refl _) (aD (.refl _) (aD (.refl _) (aD (.refl _) (aD (.refl _) (aD (.refl _) (aD (.refl _) (aD (.refl _) (aD (.nil _) (aD (.refl _) (aD (.refl _) dT))))))))))))) dT) ?_
 refine ck 6 [14] [] [113] [] [.isl false (c_1.Parties.map str)] [some ⟨2,12,[ao e3]⟩] 177 (by kernel_rfl) ?_
 refine oq 193 (I (len c_1.Parties)) rfl (bq rfl rfl rfl (bB rfl)) ?_
 refine cq 7 [6,17] [I (len c_1.Parties),str e3.Id] 241 ?_
 obtain⟨r4,hr4,h⟩:=bS h
 refine oq 257 (B r4) rfl (cP (oI hr4)) ?_
 refine cq 2 [20] [B (!r4)] 289 ?_
 obtain⟨y5,hy5,hy51,hy52⟩:=bJ h
 have j5:∀u5,y5=.inr u5→Run gY 0 (dV (c_1,i_2) r) (.code pQ::.code mp::[]) (sT 114 [(1,I i_2),(2,.hp 1 0 [] 2 0 0),(5,.hp 2 0 [] 12 0 0),(60,B u5)] [⟨0,2,[ac c_1]⟩,⟨0,12,[ao e3]⟩] 3):=by
  intro u5 hu
  replace h:=hy52 u5 hu
  refine sq h ?_ ?_<;>intro h
  ·refine cq 4 [4] [B false] 19 ?_
   obtain rfl:=sI h
   exact rP [B false]
  ·refine aq 1 ?_
   refine cq 5 [62] [I e3.Amount] 35 ?_
   obtain⟨r6,hr6,h⟩:=bS h
   refine oq 51 (B r6) rfl (cP (dY hr6)) ?_
   refine cq 2 [65] [B (!r6)] 83 ?_
   obtain⟨y7,hy7,hy71,hy72⟩:=bJ h
   have j7:∀u7,y7=.inr u7→Run gY 0 (dV (c_1,i_2) r) (.code wO::.code sv::[]) (sT 114 [(1,I i_2),(2,.hp 1 0 [] 2 0 0),(5,.hp 2 0 [] 12 0 0),(85,B u7)] [⟨0,2,[ac c_1]⟩,⟨0,12,[ao e3]⟩] 3):=by
    intro u7 hu
    replace h:=hy72 u7 hu
    refine sq h ?_ ?_<;>intro h
    ·refine cq 4 [4] [B false] 19 ?_
     obtain rfl:=sI h
     exact rP [B false]
    ·refine aq 1 ?_
     refine cq 7 [88] [B (e3.Repair==([]:aa))] 51 ?_
     refine sq h ?_ ?_<;>intro h
     ·refine cq 4 [4] [B true] 67 ?_
      obtain rfl:=sI h
      exact rP [B true]
     ·refine aq 1 ?_
      refine cq 5 [89,91] [ac c_1,str e3.Repair] 99 ?_
      obtain⟨r8,hr8,h⟩:=bS h
      refine oq 115 (I r8) rfl (cP (JG hr8)) ?_
      refine cq 7 [7,95] [I r8,B (decide (r8≥0))] 179 ?_
      obtain⟨y9,hy9,hy91,hy92⟩:=bJ h
      have j9:∀u9,y9=.inr u9→Run gY 0 (dV (c_1,i_2) r) (.code F7::[]) (sT 114 [(4,B u9)] [] 1):=by
       intro u9 hu
       replace h:=hy92 u9 hu
       obtain rfl:=sI h
       exact rP [B u9]
      have r9:∀r',y9=.inl r'→∀st,dV (c_1,i_2) r' st→(dV (c_1,i_2) r) st:=fun r' e st hq=>by rw[hy91 r' e] at hq;exact hq
      replace h:=hy9
      refine sp 95 h rfl ?_ ?_<;>intro h
      ·refine cq 5 [100] [B (r8 != i_2)] 259 ?_
       obtain⟨y10,hy10,hy101,hy102⟩:=bL h
       have j10:∀u10,y10=.inr u10→Run gY 0 (dV (c_1,i_2) r) (.code F7::[]) (sT 114 [(4,B u10)] [] 1):=by
        intro u10 hu
        replace h:=hy102 u10 hu
        exact rf [4] [] (j9 _ (ai h) :)
       have r10:∀r',y10=.inl r'→∀st,dV (c_1,i_2) r' st→(dV (c_1,i_2) r) st:=fun r' e st hq=>r9 r' (hy101 r' e) st hq
       replace h:=hy10
       refine sp 100 h rfl ?_ ?_<;>intro h
       ·refine cq 3 [102,103] [.isl false (c_1.Clauses.map aj),I r8] 307 ?_
        obtain⟨e11,he11,h⟩:=bS h
        refine oy 323 (.iptr (ao e11) 0) rfl (au rfl rfl rfl (aV rfl rfl rfl rfl he11)) ?_
        refine cq 5 [109] [B (e11.Kind==1)] 403 ?_
        obtain⟨u12,hu12,h⟩:=lJ h
        have j12:Run gY 0 (dV (c_1,i_2) r) (.code F7::[]) (sT 114 [(4,B u12)] [] 1):=by
         exact rf [4] [] (j10 _ (ai h) :)
        replace h:=hu12
        clear hu12
        refine sp 109 h rfl ?_ ?_<;>intro h
        ·refine cq 6 [4] [B (e3.Kind != 3)] 483 ?_
         subst h
         exact rf [4] [] (j12 :)
        ·refine cq 6 [4] [B false] 483 ?_
         subst h
         exact rf [4] [] (j12 :)
       ·refine cq 15 [4] [B false] 483 ?_
        exact rf [4] [] (j10 _ (ai h) :)
      ·refine cq 20 [4] [B false] 483 ?_
       exact rf [4] [] (j9 _ (ai h) :)
   have r7:∀r',y7=.inl r'→∀st,dV (c_1,i_2) r' st→(dV (c_1,i_2) r) st:=fun r' e st hq=>by rw[hy71 r' e] at hq;exact hq
   replace h:=hy7
   refine sp 65 h rfl ?_ ?_<;>intro h
   ·refine cq 21 [85] [B true] 403 ?_
    exact rf [1,2,5,85] [1,2] (j7 _ (ai h) :)
   ·refine cq 2 [67] [I e3.Within] 115 ?_
    obtain⟨r13,hr13,h⟩:=bS h
    refine oy 131 (B r13) rfl (cP (dY hr13)) ?_
    refine cq 3 [71] [B (!r13)] 179 ?_
    obtain⟨u14,hu14,h⟩:=lJ h
    have j14:Run gY 0 (dV (c_1,i_2) r) (.code wO::.code sv::[]) (sT 114 [(1,I i_2),(2,.hp 1 0 [] 2 0 0),(5,.hp 2 0 [] 12 0 0),(85,B u14)] [⟨0,2,[ac c_1]⟩,⟨0,12,[ao e3]⟩] 3):=by
     exact rf [1,2,5,85] [1,2] (j7 _ (ai h) :)
    replace h:=hu14
    clear hu14
    refine sp 71 h rfl ?_ ?_<;>intro h
    ·refine cq 15 [85] [B true] 403 ?_
     subst h
     exact rf [1,2,5,85] [1,2] (j14 :)
    ·refine cq 4 [75] [B (e3.Kind != 1)] 243 ?_
     obtain⟨u15,hu15,h⟩:=lJ h
     have j15:Run gY 0 (dV (c_1,i_2) r) (.code wO::.code sv::[]) (sT 114 [(1,I i_2),(2,.hp 1 0 [] 2 0 0),(5,.hp 2 0 [] 12 0 0),(85,B u15)] [⟨0,2,[ac c_1]⟩,⟨0,12,[ao e3]⟩] 3):=by
      subst h
      exact rf [1,2,5,85] [1,2] (j14 :)
     replace h:=hu15
     clear hu15
     refine sp 75 h rfl ?_ ?_<;>intro h
     ·refine cq 4 [79] [B (e3.Amount != 0)] 307 ?_
      obtain⟨u16,hu16,h⟩:=lJ h
      have j16:Run gY 0 (dV (c_1,i_2) r) (.code wO::.code sv::[]) (sT 114 [(1,I i_2),(2,.hp 1 0 [] 2 0 0),(5,.hp 2 0 [] 12 0 0),(85,B u16)] [⟨0,2,[ac c_1]⟩,⟨0,12,[ao e3]⟩] 3):=by
       subst h
       exact rf [1,2,5,85] [1,2] (j15 :)
      replace h:=hu16
      clear hu16
      refine sp 79 h rfl ?_ ?_<;>intro h
      ·refine cq 7 [85] [B true] 403 ?_
       subst h
       exact rf [1,2,5,85] [1,2] (j16 :)
      ·refine cq 7 [85] [B (e3.Within != 0)] 403 ?_
       subst h
       exact rf [1,2,5,85] [1,2] (j16 :)
     ·refine cq 11 [85] [B false] 403 ?_
      subst h
      exact rf [1,2,5,85] [1,2] (j15 :)
 have r5:∀r',y5=.inl r'→∀st,dV (c_1,i_2) r' st→(dV (c_1,i_2) r) st:=fun r' e st hq=>by rw[hy51 r' e] at hq;exact hq
 replace h:=hy5
 refine sp 20 h rfl ?_ ?_<;>intro h
 ·refine cq 41 [60] [B true] 929 ?_
  exact rf [1,2,5,60] [1,113] (j5 _ (ai h) :)
 ·refine cq 2 [22] [str e3.Action] 321 ?_
  obtain⟨r17,hr17,h⟩:=bS h
  refine oy 337 (B r17) rfl (cP (oI hr17)) ?_
  refine cq 3 [26] [B (!r17)] 385 ?_
  obtain⟨y18,hy18,hy181,hy182⟩:=bL h
  have j18:∀u18,y18=.inr u18→Run gY 0 (dV (c_1,i_2) r) (.code pQ::.code mp::[]) (sT 114 [(1,I i_2),(2,.hp 1 0 [] 2 0 0),(5,.hp 2 0 [] 12 0 0),(60,B u18)] [⟨0,2,[ac c_1]⟩,⟨0,12,[ao e3]⟩] 3):=by
   intro u18 hu
   replace h:=hy182 u18 hu
   exact rf [1,2,5,60] [1,2] (j5 _ (ai h) :)
  have r18:∀r',y18=.inl r'→∀st,dV (c_1,i_2) r' st→(dV (c_1,i_2) r) st:=fun r' e st hq=>r5 r' (hy181 r' e) st hq
  replace h:=hy18
  refine sp 26 h rfl ?_ ?_<;>intro h
  ·refine cq 35 [60] [B true] 929 ?_
   exact rf [1,2,5,60] [1,113] (j18 _ (ai h) :)
  ·refine cq 2 [28] [I e3.Kind] 417 ?_
   obtain⟨r19,hr19,h⟩:=bS h
   refine oy 433 (B r19) rfl (cP (dY hr19)) ?_
   refine cq 3 [32] [B (!r19)] 481 ?_
   obtain⟨y20,hy20,hy201,hy202⟩:=bL h
   have j20:∀u20,y20=.inr u20→Run gY 0 (dV (c_1,i_2) r) (.code pQ::.code mp::[]) (sT 114 [(1,I i_2),(2,.hp 1 0 [] 2 0 0),(5,.hp 2 0 [] 12 0 0),(60,B u20)] [⟨0,2,[ac c_1]⟩,⟨0,12,[ao e3]⟩] 3):=by
    intro u20 hu
    replace h:=hy202 u20 hu
    exact rf [1,2,5,60] [1,2] (j18 _ (ai h) :)
   have r20:∀r',y20=.inl r'→∀st,dV (c_1,i_2) r' st→(dV (c_1,i_2) r) st:=fun r' e st hq=>r18 r' (hy201 r' e) st hq
   replace h:=hy20
   refine sp 32 h rfl ?_ ?_<;>intro h
   ·refine cq 29 [60] [B true] 929 ?_
    exact rf [1,2,5,60] [1,113] (j20 _ (ai h) :)
   ·refine cq 4 [34,36] [I e3.Party,I (az ((len c_1.Parties) - 1))] 545 ?_
    obtain⟨r21,hr21,h⟩:=bS h
    refine oy 561 (B r21) rfl (cP (dY hr21)) ?_
    refine cq 3 [40] [B (!r21)] 609 ?_
    obtain⟨y22,hy22,hy221,hy222⟩:=bL h
    have j22:∀u22,y22=.inr u22→Run gY 0 (dV (c_1,i_2) r) (.code pQ::.code mp::[]) (sT 114 [(1,I i_2),(2,.hp 1 0 [] 2 0 0),(5,.hp 2 0 [] 12 0 0),(60,B u22)] [⟨0,2,[ac c_1]⟩,⟨0,12,[ao e3]⟩] 3):=by
     intro u22 hu
     replace h:=hy222 u22 hu
     exact rf [1,2,5,60] [1,2] (j20 _ (ai h) :)
    have r22:∀r',y22=.inl r'→∀st,dV (c_1,i_2) r' st→(dV (c_1,i_2) r) st:=fun r' e st hq=>r20 r' (hy221 r' e) st hq
    replace h:=hy22
    refine sp 40 h rfl ?_ ?_<;>intro h
    ·refine cq 21 [60] [B true] 929 ?_
     exact rf [1,2,5,60] [1,113] (j22 _ (ai h) :)
    ·refine cq 4 [42,44] [I e3.Other,I (az ((len c_1.Parties) - 1))] 673 ?_
     obtain⟨r23,hr23,h⟩:=bS h
     refine oy 689 (B r23) rfl (cP (dY hr23)) ?_
     refine cq 3 [48] [B (!r23)] 737 ?_
     obtain⟨y24,hy24,hy241,hy242⟩:=bL h
     have j24:∀u24,y24=.inr u24→Run gY 0 (dV (c_1,i_2) r) (.code pQ::.code mp::[]) (sT 114 [(1,I i_2),(2,.hp 1 0 [] 2 0 0),(5,.hp 2 0 [] 12 0 0),(60,B u24)] [⟨0,2,[ac c_1]⟩,⟨0,12,[ao e3]⟩] 3):=by
      intro u24 hu
      replace h:=hy242 u24 hu
      exact rf [1,2,5,60] [1,2] (j22 _ (ai h) :)
     have r24:∀r',y24=.inl r'→∀st,dV (c_1,i_2) r' st→(dV (c_1,i_2) r) st:=fun r' e st hq=>r22 r' (hy241 r' e) st hq
     replace h:=hy24
     refine sp 48 h rfl ?_ ?_<;>intro h
     ·refine cq 13 [60] [B true] 929 ?_
      exact rf [1,2,5,60] [1,113] (j24 _ (ai h) :)
     ·refine cq 7 [55] [B (e3.Party==e3.Other)] 849 ?_
      obtain⟨y25,hy25,hy251,hy252⟩:=bL h
      have j25:∀u25,y25=.inr u25→Run gY 0 (dV (c_1,i_2) r) (.code pQ::.code mp::[]) (sT 114 [(1,I i_2),(2,.hp 1 0 [] 2 0 0),(5,.hp 2 0 [] 12 0 0),(60,B u25)] [⟨0,2,[ac c_1]⟩,⟨0,12,[ao e3]⟩] 3):=by
       intro u25 hu
       replace h:=hy252 u25 hu
       exact rf [1,2,5,60] [1,2] (j24 _ (ai h) :)
      have r25:∀r',y25=.inl r'→∀st,dV (c_1,i_2) r' st→(dV (c_1,i_2) r) st:=fun r' e st hq=>r24 r' (hy251 r' e) st hq
      replace h:=hy25
      refine sp 55 h rfl ?_ ?_<;>intro h
      ·refine cq 6 [60] [B true] 929 ?_
       exact rf [1,2,5,60] [1,113] (j25 _ (ai h) :)
      ·refine cq 2 [57] [ah e3.When] 881 ?_
       obtain⟨r26,hr26,h⟩:=bS h
       refine oy 897 (B r26) rfl (cP (Z2 hr26)) ?_
       refine cq 3 [60] [B (!r26)] 929 ?_
       exact rf [1,2,5,60] [1,113] (j25 _ (ai h) :)
theorem Rs {G:bU}:bQ G 92 AD:=gT 2 0 (aJ oK (aJ fF (aJ G1 (aJ Re bv)))) ca Tryz.func92 (fun a r h=>UI a.1 a.2 r h)
def DT:((List aa)×aa)→List V:=cA (FN 1 str) (oA str)
def DU (r:(List aa)):V×List V:=(.usl 1 (r.map str),[.dead])
noncomputable def tE :=ba [true,false] DT DU fun x=>vE x.1 x.2
theorem JA {l_8:List aa}{s_9:aa}{r}(h:vE l_8 s_9=some r):tE.F (DT (l_8,s_9))=some (DU r):=aH (aN (pT bc) (aI bc)) h
noncomputable def qb :=aF Tryz.f137
noncomputable def vF :=b9 []
def sn (x:(List aa)×aa)(r:(List aa)):St→Prop:=QF vF Tryz.f137 [true,false] (DT x) (DU r)
theorem LO (l_8:List aa)(s_9:aa):cW vF 1 (sn (l_8,s_9)) (cL (cL (cL (cR (cR qb))))) 0 (sr l_8 s_9) (fun u=>(sO 45 [(0,.hs 2 0 [] 1 0 (u.2.2.map str).length),(1,str u.1),(5,I u.2.1)] [none,some ⟨0,1,u.2.2.map str⟩] 3)) fun x3=>(sO 45 [(0,.hs 2 0 [] 1 0 (l_8.map str).length),(1,str s_9),(5,I x3)] [none,some ⟨0,1,l_8.map str⟩] 3):=eF (xU l_8 s_9) fun {Q K} hK self ih x3 y h hr hn=>by
 unfold kv at h
 refine cq 5 [6,7] [I x3,.hs 2 0 [] 1 0 (l_8.map str).length] 35 ?_
 refine oq 51 (I (len l_8)) rfl (bq rfl rfl rfl (xd (f:=str) (xs:=l_8) rfl rfl)) ?_
 refine cq 2 [10] [B (decide (x3<(len l_8)))] 83 ?_
 obtain⟨y4,hy4,hy41,hy42⟩:=bL h
 have j4:∀u4,y4=.inr u4→Run vF 1 Q (.code (cR (cL (cL (cL (cL (cR (cR qb)))))))::.code (cR (cL (cL (cL (cR (cR qb))))))::.lp (cL (cL (cL (cR (cR qb)))))::.blk 0::K) (sO 45 [(0,.hs 2 0 [] 1 0 (l_8.map str).length),(1,str s_9),(5,I x3),(17,B u4)] [none,some ⟨0,1,l_8.map str⟩] 3):=by
  intro u4 hu
  replace h:=hy42 u4 hu
  refine sq h ?_ ?_<;>intro h
  ·refine aq 1 ?_
   refine cq 7 [5] [I (az (x3+1))] 51 ?_
   refine dP ?_
   exact rg [0,1,5] [52,2] (ih _ _ h hr hn :)
  ·refine aq 1 ?_
   exact rg [0,1,5] [4,2] (hn _ (ai h) :) (hk:=hK)
 have r4:∀r',y4=.inl r'→∀st,sn (l_8,s_9) r' st→Q st:=fun r' e st hq=>hr r' (hy41 r' e) st hq
 replace h:=hy4
 refine sp 10 h rfl ?_ ?_<;>intro h
 ·refine cq 2 [11,12] [.hs 2 0 [] 1 0 (l_8.map str).length,I x3] 115 ?_
  obtain⟨e5,he5,h⟩:=bS h
  refine oy 131 (.hp 2 0 [] 1 (0+Int.toNat x3) 0) rfl (au rfl rfl rfl (i6 (f:=str) (xs:=l_8) rfl rfl rfl he5)) ?_
  refine oy 147 (str e5) rfl (aY rfl (qS (path:=[]) rfl rfl rfl bb (gU (f:=str) (xs:=l_8) he5) rfl rfl rfl)) ?_
  refine cq 4 [17] [B (Op.bytesLess e5 s_9)] 195 ?_
  exact rg [0,1,5,17] [196,2] (j4 _ (ai h) :)
 ·refine cq 8 [17] [B false] 195 ?_
  exact rg [0,1,5,17] [196,2] (j4 _ (ai h) :)
theorem UE (l_8:List aa)(s_9:aa)(r:(List aa))(h:vE l_8 s_9=some r):bp vF Tryz.f137 [true,false] 1 (DT (l_8,s_9)) (DU r):=by
 show Run _ _ (sn (l_8,s_9) r) [.code qb] _
 refine rI 45 [(0,.hs 1 0 [] 1 0 (l_8.map str).length),(1,str s_9)] [(1,some ⟨0,1,l_8.map str⟩)] 2 ?_
 unfold vE at h
 refine cq 10 [5] [I (0)] 34 ?_
 obtain⟨y6,hy6,hy61,hy62⟩:=bJ h
 refine ci rfl ?_
 refine rg [0,1,5] [35,1] (LO l_8 s_9 rfl 0 _ hy6 (fun r' e st hq=>by rw[hy61 r' e] at hq;exact hq) fun u6 hu=>?_)
 replace h:=hy62 u6 hu
 refine cq 5 [20,21] [I u6.2.1,.hs 2 0 [] 1 0 (u6.2.2.map str).length] 35 ?_
 refine oq 51 (I (len u6.2.2)) rfl (bq rfl rfl rfl (xd (f:=str) (xs:=u6.2.2) rfl rfl)) ?_
 refine cq 2 [24] [B (decide (u6.2.1<(len u6.2.2)))] 83 ?_
 obtain⟨y7,hy7,hy71,hy72⟩:=bJ h
 have j7:∀u7,y7=.inr u7→Run vF 1 (sn (l_8,s_9) r) (.code (cR (cL (cR (cR (cR qb)))))::.code (cR (cR (cR (cR qb))))::[]) (sO 45 [(0,.hs 2 0 [] 1 0 (u6.2.2.map str).length),(1,str u6.1),(5,I u6.2.1),(31,B u7)] [none,some ⟨0,1,u6.2.2.map str⟩] 3):=by
  intro u7 hu
  replace h:=hy72 u7 hu
  refine sq h ?_ ?_<;>intro h
  ·refine cq 5 [4] [.hs 2 0 [] 1 0 (u6.2.2.map str).length] 35 ?_
   obtain rfl:=sI h
   exact b8 rfl ⟨_,fin (vs:=[.hs 2 0 [] 1 0 (u6.2.2.map str).length]) rfl (fk (eO rfl (cN rfl rfl)) ey) rfl (ur rfl (pB rfl) (eP fu)),uj fm⟩
  ·refine aq 1 ?_
   refine aq 1 ?_
   refine ez [0,0,0,6,15,0,32,127,0,0,768,2047,4095] rfl (by decide +kernel) ?_
   refine dq [] [] (.hs 3 0 [] 1 0 0) rfl (ft rfl (oo (f:=I) (xs:=[]) (z:=str ([])) (es:=[]) (ws:=[]) rfl rfl rfl (by decide) rfl (eo rfl) rfl)) ?_
   refine dk 2 [35,34] [I u6.2.1,.hs 2 0 [] 1 0 (u6.2.2.map str).length] ?_
   obtain⟨s8,hs8,h⟩:=bS h
   refine dq [2] [] (.hs 2 0 [] 1 (0+Int.toNat (0)) (Int.toNat u6.2.1 - Int.toNat (0))) rfl (ig rfl rfl rfl rfl (tk (f:=str) (xs:=u6.2.2) rfl rfl rfl rfl rfl hs8)) ?_
   obtain⟨p9,hp9,h⟩:=bS h
   obtain⟨a10,ha10,h⟩:=bS h
   refine dq [3,2] [3] (.hs 67 0 [] 1 0 (a10.map str).length) rfl (kG rfl rfl rfl rfl rfl (oP (path:=[]) (es0:=[]) (f:=str) (xs:=([]:List aa)) (ys:=p9) rfl rfl (M5 (path:=[]) (f:=str) (xs:=u6.2.2) rfl rfl bb hp9 lZ) rfl rfl rfl rfl rfl (by decide) jp ha10 rfl qx)) ?_ (IV rfl (IP (path:=[]) (f:=str) (xs:=u6.2.2) rfl rfl bb lZ rfl))
   refine dk 1 [38] [str u6.1] ?_
   refine dq [] [] (.hs 99 0 [] 1 0 1) rfl (ft rfl (oo (f:=I) (xs:=[]) (z:=str ([])) (es:=[str u6.1]) (ws:=[str u6.1]) rfl rfl rfl (by decide) rfl (eo rfl) rfl)) ?_
   obtain⟨a11,ha11,h⟩:=bS h
   refine dq [67,99] [67] (.hs 115 0 [] 1 0 (a11.map str).length) rfl (kG rfl rfl rfl rfl rfl (oP (path:=[]) (f:=str) (xs:=a10) (ys:=[u6.1]) rfl rfl (GP rfl rfl rfl) rfl rfl rfl bb rfl (by decide) jp ha11 rfl qx)) ?_ (IV rfl (IP (path:=[]) (f:=str) (xs:=[u6.1]) rfl rfl bb lZ rfl))
   refine dk 2 [42,41] [I u6.2.1,.hs 2 0 [] 1 0 (u6.2.2.map str).length] ?_
   obtain⟨s12,hs12,h⟩:=bS h
   refine dq [2] [] (.hs 2 0 [] 1 (0+Int.toNat u6.2.1) (Int.toNat (len u6.2.2) - Int.toNat u6.2.1)) rfl (ig rfl rfl rfl rfl (tk (f:=str) (xs:=u6.2.2) rfl rfl rfl rfl (Vo rfl) hs12)) ?_
   obtain⟨p13,hp13,h⟩:=bS h
   obtain⟨a14,ha14,h⟩:=bS h
   refine dq [115,2] [115] (.hs 179 0 [] 1 0 (a14.map str).length) rfl (kG rfl rfl rfl rfl rfl (oP (path:=[]) (f:=str) (xs:=a11) (ys:=p13) rfl rfl (M5 (path:=[]) (f:=str) (xs:=u6.2.2) rfl rfl bb hp13 lZ) rfl rfl rfl bb rfl (by decide) jp ha14 rfl qx)) ?_ (IV rfl (IP (path:=[]) (f:=str) (xs:=u6.2.2) rfl rfl bb lZ rfl))
   refine dk 1 [4] [.hs 179 0 [] 1 0 (a14.map str).length] ?_
   refine de 211 rfl rfl ?_
   obtain rfl:=sI h
   exact b8 rfl ⟨_,fin (vs:=[.hs 179 0 [] 1 0 (a14.map str).length]) rfl (fk (eO rfl (cN rfl rfl)) ey) rfl (ur rfl (pB rfl) (eP fu)),uj fm⟩
 have r7:∀r',y7=.inl r'→∀st,sn (l_8,s_9) r' st→(sn (l_8,s_9) r) st:=fun r' e st hq=>by rw[hy71 r' e] at hq;exact hq
 replace h:=hy7
 refine sp 24 h rfl ?_ ?_<;>intro h
 ·refine cq 2 [25,26] [.hs 2 0 [] 1 0 (u6.2.2.map str).length,I u6.2.1] 115 ?_
  obtain⟨e15,he15,h⟩:=bS h
  refine oy 131 (.hp 2 0 [] 1 (0+Int.toNat u6.2.1) 0) rfl (au rfl rfl rfl (i6 (f:=str) (xs:=u6.2.2) rfl rfl rfl he15)) ?_
  refine oy 147 (str e15) rfl (aY rfl (qS (path:=[]) rfl rfl rfl bb (gU (f:=str) (xs:=u6.2.2) he15) rfl rfl rfl)) ?_
  refine cq 4 [31] [B (e15==u6.1)] 195 ?_
  exact rg [0,1,5,31] [196,2] (j7 _ (ai h) :)
 ·refine cq 8 [31] [B false] 195 ?_
  exact rg [0,1,5,31] [196,2] (j7 _ (ai h) :)
theorem GZ {G:bU}:bQ G 137 tE:=gT 2 1 bv ca Tryz.func137 (fun a r h=>UE a.1 a.2 r h)
def vB:((List aa)×Condition)→List V:=cA (FN 1 str) (oA bg)
def vC (r:(List aa)):V×List V:=(.usl 1 (r.map str),[.dead])
noncomputable def vD (cl:((List aa)×Condition)→Option (List aa)):Ent:=ba [true,false] vB vC cl
theorem Ms (cl:((List aa)×Condition)→Option (List aa)){x}{r}(h:cl x=some r):(vD cl).F (vB x)=some (vC r):=aH (aN (pT bc) (aI cG)) h
noncomputable def Ay :=vD (aM ku)
theorem Rj {l_4:List aa}{c_5:Condition}{r}(h:Jy l_4 c_5=some r):Ay.F (vB (l_4,c_5))=some (vC r):=Ms (aM ku) h
noncomputable def Rl :=aF Tryz.f136
noncomputable def Jz (cl:((List aa)×Condition)→Option (List aa)):Env:=b9 [(137,tE),(136,(vD cl))]
def Rk (cl:((List aa)×Condition)→Option (List aa))(x:(List aa)×Condition)(r:(List aa)):St→Prop:=QF (Jz cl) Tryz.f136 [true,false] (vB x) (vC r)
theorem LN (cl:((List aa)×Condition)→Option (List aa))(l_4:List aa)(c_5:Condition):cW (Jz cl) 1 (Rk cl (l_4,c_5)) (cL (cL (cR (cL (cR (cR Rl)))))) 0 (kV cl l_4 c_5) (fun u=>(sO 28 [(0,.hs 2 0 [] 1 0 (u.map str).length)] [none,some ⟨0,1,u.map str⟩] 3)) fun x4=>(sO 28 [(0,.hs 2 0 [] 1 0 (x4.2.map str).length),(3,.hp 3 0 [] 4 0 0),(5,I x4.1)] [none,some ⟨0,1,x4.2.map str⟩,some ⟨0,4,[ah c_5]⟩] 4):=eF (xT cl l_4 c_5) fun {Q K} hK self ih x4 y h hr hn=>by
 unfold jh at h
 refine cq 6 [13,15] [I x4.1,.isl false (c_5.Parts.map ay)] 52 ?_
 refine oq 68 (I (len c_5.Parts)) rfl (bq rfl rfl rfl (bB rfl)) ?_
 refine cq 2 [17] [B (decide (x4.1<(len c_5.Parts)))] 84 ?_
 refine sq h ?_ ?_<;>intro h
 ·refine aq 1 ?_
  refine cq 7 [20,22,23] [.hs 2 0 [] 1 0 (x4.2.map str).length,.isl false (c_5.Parts.map ay),I x4.1] 148 ?_
  obtain⟨e5,he5,h⟩:=bS h
  refine oq 164 (.iptr (ah e5) 0) rfl (au rfl rfl rfl (aV rfl rfl (bA e5) rfl he5)) ?_
  refine cq 1 [25] [ah e5] 180 ?_
  obtain⟨r6,hr6,h⟩:=bS h
  refine oq 196 (.hs 180 0 [] 1 0 (r6.map str).length) rfl (cd rfl rfl (cO rfl rfl rfl (uI (qP rfl (lN (path:=[]) rfl rfl bb rfl)) (bw (bR rfl) dB)) (Ms cl hr6) (.inr rfl) (tU rfl rfl rfl mB d9) rfl rfl rfl)) ?_
  refine cq 8 [0,5] [.hs 180 0 [] 1 0 (r6.map str).length,I (az (x4.1+1))] 260 ?_
  refine dP ?_
  exact rg [0,3,5] [261,180,3] (ih _ _ h hr hn :)
 ·refine aq 1 ?_
  exact rg [0] [85,2] (hn _ (ai h) :) (hk:=hK)
theorem UD (cl:((List aa)×Condition)→Option (List aa))(l_4:List aa)(c_5:Condition)(r:(List aa))(h:sk cl l_4 c_5=some r):bp (Jz cl) Tryz.f136 [true,false] 1 (vB (l_4,c_5)) (vC r):=by
 show Run _ _ (Rk cl (l_4,c_5) r) [.code Rl] _
 refine rI 28 [(0,.hs 1 0 [] 1 0 (l_4.map str).length),(1,ah c_5)] [(1,some ⟨0,1,l_4.map str⟩)] 2 ?_
 unfold sk at h
 refine ck 12 [3,8] [] [2] [] [.hp 2 0 [] 4 0 0,B (c_5.Op==2)] [some ⟨0,4,[ah c_5]⟩] 82 (by kernel_rfl) ?_
 refine sq h ?_ ?_<;>intro h
 ·refine cq 5 [9,11] [.hs 1 0 [] 1 0 (l_4.map str).length,str c_5.Name] 130 ?_
  obtain⟨r3,hr3,h⟩:=bS h
  refine oq 146 (.hs 130 0 [] 1 0 (r3.map str).length) rfl (cd rfl rfl (cO rfl rfl rfl (uI (qP rfl (lN (path:=[]) rfl rfl bb rfl)) (bw (bR rfl) dB)) (JA hr3) (.inr rfl) (tU rfl rfl rfl mB d9) rfl rfl rfl)) ?_
  refine cq 2 [4] [.hs 130 0 [] 1 0 (r3.map str).length] 162 ?_
  obtain rfl:=sI h
  exact b8 rfl ⟨_,fin (vs:=[.hs 130 0 [] 1 0 (r3.map str).length]) rfl (fk (eO rfl (cN rfl rfl)) ey) rfl (ur rfl (pB rfl) (eP fu)),uj fm⟩
 ·refine aq 1 ?_
  refine cq 6 [5] [I (0)] 98 ?_
  obtain⟨y7,hy7,hy71,hy72⟩:=bJ h
  refine ci rfl ?_
  refine rg [0,3,5] [99,1,2] (LN cl l_4 c_5 rfl (0,l_4) _ hy7 (fun r' e st hq=>by rw[hy71 r' e] at hq;exact hq) fun u7 hu=>?_)
  replace h:=hy72 u7 hu
  refine cq 5 [4] [.hs 2 0 [] 1 0 (u7.map str).length] 35 ?_
  obtain rfl:=sI h
  exact b8 rfl ⟨_,fin (vs:=[.hs 2 0 [] 1 0 (u7.map str).length]) rfl (fk (eO rfl (cN rfl rfl)) ey) rfl (ur rfl (pB rfl) (eP fu)),uj fm⟩
theorem Rm {G:bU}:bQ G 136 Ay:=iB fun cl g_Ffdp=>gT 2 1 (aJ GZ (aJ g_Ffdp bv)) ca Tryz.func136 (fun a r h=>UD cl a.1 a.2 r h)
def D9:Contract→List V:=oA aO
def Ea (r:(List aa)):V×List V:=(.usl 1 (r.map str),[])
noncomputable def tH :=ba [false] D9 Ea fun x=>nR x
theorem RA {c_1:Contract}{r}(h:nR c_1=some r):tH.F (D9 c_1)=some (Ea r):=aH (aI aZ) h
noncomputable def RC :=aF Tryz.f93
noncomputable def JH :=b9 [(137,tE),(136,Ay)]
def RB (x:Contract)(r:(List aa)):St→Prop:=QF JH Tryz.f93 [false] (D9 x) (Ea r)
theorem LT (c_1:Contract):cW JH 0 (RB c_1) (cL (cL (cR (cL (cR (cR RC)))))) 0 (mt c_1) (fun u=>(sT 29 [(3,.hs 1 0 [] 1 0 (u.map str).length)] [⟨0,1,u.map str⟩] 2)) fun x2=>(sT 29 [(1,.hp 1 0 [] 2 0 0),(3,.hs 2 0 [] 1 0 (x2.2.map str).length),(4,I x2.1)] [⟨0,2,[ac c_1]⟩,⟨0,1,x2.2.map str⟩] 3):=eF (xZ c_1) fun {Q K} hK self ih x2 y h hr hn=>by
 unfold ky at h
 refine cq 6 [6,8] [I x2.1,.isl false (c_1.Clauses.map aj)] 51 ?_
 refine oq 67 (I (len c_1.Clauses)) rfl (bq rfl rfl rfl (bB rfl)) ?_
 refine cq 2 [10] [B (decide (x2.1<(len c_1.Clauses)))] 83 ?_
 refine sq h ?_ ?_<;>intro h
 ·refine aq 1 ?_
  refine aq 2 ?_
  refine ez [0,0,2,0,14,30,62,127,0,256,0,1792,3840,7936,16383,32767] rfl (by decide +kernel) ?_
  refine dk 1 [13] [.hs 2 0 [] 1 0 (x2.2.map str).length] ?_
  refine dq [1] [] (.hp 1 0 [] 2 0 1) rfl (al rfl rfl rfl) ?_
  refine dq [1] [] (.isl false (c_1.Clauses.map aj)) rfl (aY rfl rfl) ?_
  refine dk 1 [16] [I x2.1] ?_
  obtain⟨e3,he3,h⟩:=bS h
  refine dq [] [] (.iptr (ao e3) 0) rfl (au rfl rfl rfl (aV rfl rfl rfl rfl he3)) ?_
  refine dq [] [] (.iptr (ao e3) 3) rfl (al rfl rfl rfl) ?_
  refine dq [] [] (str e3.Action) rfl (aY rfl rfl) ?_
  obtain⟨r4,hr4,h⟩:=bS h
  refine dq [2] [2] (.hs 195 0 [] 1 0 (r4.map str).length) rfl (cd rfl rfl (cO rfl rfl rfl (uI (qP rfl (lN (path:=[]) rfl rfl bb rfl)) (bw (bR rfl) dB)) (JA hr4) (.inr rfl) (tU rfl rfl rfl mB d9) rfl rfl rfl)) ?_ (dE rfl rfl rfl rfl (uI (qP rfl (lN (path:=[]) rfl rfl bb rfl)) (bw (bR rfl) dB)) (JA hr4) (.inr rfl) rfl)
  refine dq [1] [] (.hp 1 0 [] 2 0 1) rfl (al rfl rfl rfl) ?_
  refine dq [1] [] (.isl false (c_1.Clauses.map aj)) rfl (aY rfl rfl) ?_
  refine dk 1 [23] [I x2.1] ?_
  obtain⟨e5,he5,h⟩:=bS h
  refine dq [] [] (.iptr (ao e5) 0) rfl (au rfl rfl rfl (aV rfl rfl rfl rfl he5)) ?_
  refine dq [] [] (.iptr (ao e5) 6) rfl (al rfl rfl rfl) ?_
  refine dq [] [] (ah e5.When) rfl (aY rfl rfl) ?_
  obtain⟨r6,hr6,h⟩:=bS h
  refine dq [195] [195] (.hs 307 0 [] 1 0 (r6.map str).length) rfl (cd rfl rfl (cO rfl rfl rfl (uI (qP rfl (lN (path:=[]) rfl rfl bb rfl)) (bw (bR rfl) dB)) (Rj hr6) (.inr rfl) (tU rfl rfl rfl mB d9) rfl rfl rfl)) ?_ (dE rfl rfl rfl rfl (uI (qP rfl (lN (path:=[]) rfl rfl bb rfl)) (bw (bR rfl) dB)) (Rj hr6) (.inr rfl) rfl)
  refine dk 1 [3] [.hs 307 0 [] 1 0 (r6.map str).length] ?_
  refine de 339 rfl rfl ?_
  refine cq 6 [4] [I (az (x2.1+1))] 387 ?_
  refine dP ?_
  exact rf [1,3,4] [1,307] (ih _ _ h hr hn :)
 ·refine aq 1 ?_
  exact rf [3] [2] (hn _ (ai h) :) (hk:=hK)
theorem UM (c_1:Contract)(r:(List aa))(h:nR c_1=some r):bp JH Tryz.f93 [false] 0 (D9 c_1) (Ea r):=by
 show Run _ _ (RB c_1 r) [.code RC] _
 refine rI 29 [(0,ac c_1)] [] 1 ?_
 unfold nR at h
 refine ck 7 [1] [] [1] [] [.hp 1 0 [] 2 0 0] [some ⟨0,2,[ac c_1]⟩] 33 (by kernel_rfl) ?_
 refine oq 49 (.hs 33 0 [] 1 0 0) rfl (ft rfl (oo (f:=I) (xs:=[]) (z:=str ([])) (es:=[]) (ws:=[]) rfl rfl rfl (by decide) rfl (eo rfl) rfl)) ?_
 refine cq 8 [3,4] [.hs 33 0 [] 1 0 0,I (0)] 81 ?_
 obtain⟨y7,hy7,hy71,hy72⟩:=bJ h
 refine ci rfl ?_
 refine rf [1,3,4] [1,33] (LT c_1 rfl (0,[]) _ hy7 (fun r' e st hq=>by rw[hy71 r' e] at hq;exact hq) fun u7 hu=>?_)
 replace h:=hy72 u7 hu
 refine cq 5 [2] [.hs 1 0 [] 1 0 (u7.map str).length] 34 ?_
 obtain rfl:=sI h
 exact b8 rfl ⟨_,fin (vs:=[.hs 1 0 [] 1 0 (u7.map str).length]) rfl (fk (eO rfl (cN rfl rfl)) ey) rfl (eP fu),fm⟩
theorem G2 {G:bU}:bQ G 93 tH:=gT 1 0 (aJ GZ (aJ Rm bv)) ca Tryz.func93 (fun a r h=>UM a r h)
def D5:Contract→List V:=oA aO
def D6 (r:Bool):V×List V:=(B r,[])
noncomputable def AH :=ba [false] D5 D6 fun x=>AG x
theorem Z6 {c_1:Contract}{r}(h:AG c_1=some r):AH.F (D5 c_1)=some (D6 r):=aH (aI aZ) h
noncomputable def D7 :=aF Tryz.f43
noncomputable abbrev wP :=cL (cL (cR (cL (cR (cR D7)))))
noncomputable def vM :=b9 [(89,eV),(91,tG),(92,AD),(93,tH),(90,AI)]
def sA (x:Contract)(r:Bool):St→Prop:=QF vM Tryz.f43 [false] (D5 x) (D6 r)
theorem LS (c_1:Contract):cW vM 0 (sA c_1) wP 0 (kX c_1) (fun u=>(sT 41 [(1,.hp 1 0 [] 2 0 0)] [⟨0,2,[ac c_1]⟩] 2)) fun x4=>(sT 41 [(1,.hp 1 0 [] 2 0 0),(3,I x4)] [⟨0,2,[ac c_1]⟩] 2):=eF (xY c_1) fun {Q K} hK self ih x4 y h hr hn=>by
 unfold kx at h
 refine cq 6 [14,16] [I x4,.isl false (c_1.Clauses.map aj)] 50 ?_
 refine oq 66 (I (len c_1.Clauses)) rfl (bq rfl rfl rfl (bB rfl)) ?_
 refine cq 2 [18] [B (decide (x4<(len c_1.Clauses)))] 82 ?_
 refine sq h ?_ ?_<;>intro h
 ·refine aq 1 ?_
  refine aq 3 ?_
  refine ez [0,0,2,0,14,30,62,127,0,511,1023,2047,2047,8191,16383,32767] rfl (by decide +kernel) ?_
  refine dq [1] [] (ac c_1) rfl (aY rfl rfl) ?_
  refine dq [1] [] (.hp 1 0 [] 2 0 1) rfl (al rfl rfl rfl) ?_
  refine dq [1] [] (.isl false (c_1.Clauses.map aj)) rfl (aY rfl rfl) ?_
  refine dk 1 [24] [I x4] ?_
  obtain⟨e5,he5,h⟩:=bS h
  refine dq [] [] (.iptr (ao e5) 0) rfl (au rfl rfl rfl (aV rfl rfl rfl rfl he5)) ?_
  refine dq [] [] (.iptr (ao e5) 0) rfl (al rfl rfl rfl) ?_
  refine dq [] [] (str e5.Id) rfl (aY rfl rfl) ?_
  obtain⟨r6,hr6,h⟩:=bS h
  refine dq [] [] (I r6) rfl (cP (JG hr6)) ?_ (dE rfl rfl rfl rfl (bw (bR rfl) (bw (bR rfl) dB)) (JG hr6) (.inr rfl) rfl)
  refine dk 3 [31,30,29] [B (r6 != x4),B (r6 != x4),I x4] ?_
  obtain⟨y7,hy7,hy71,hy72⟩:=bL h
  have j7:∀u7,y7=.inr u7→Run vM 0 Q (.code (cR (cL (cL (cR wP))))::.blk 1::.code (cR (cR wP))::.lp wP::.blk 0::K) (sT 41 [(1,.hp 1 0 [] 2 0 0),(3,I x4),(36,B u7)] [⟨0,2,[ac c_1]⟩] 2):=by
   intro u7 hu
   replace h:=hy72 u7 hu
   refine sq h ?_ ?_<;>intro h
   ·refine cq 4 [2] [B false] 18 ?_
    exact b8 rfl (hr _ (ai h) _ (qp [B false]))
   ·refine aq 1 ?_
    refine cq 6 [3] [I (az (x4+1))] 50 ?_
    refine dP ?_
    exact rf [1,3] [1] (ih _ _ h hr hn :)
  have r7:∀r',y7=.inl r'→∀st,sA c_1 r' st→Q st:=fun r' e st hq=>hr r' (hy71 r' e) st hq
  replace h:=hy7
  refine sp 31 h rfl ?_ ?_<;>intro h
  ·refine dk 5 [36,35,34,33,32] [B true,.und,.und,.und,.und] ?_
   refine de 338 rfl rfl ?_
   exact rf [1,3,36] [1] (j7 _ (ai h) :)
  ·refine dy [1] [] (ac c_1) rfl (aY rfl rfl) ?_
   refine dk 1 [33] [I x4] ?_
   obtain⟨r8,hr8,h⟩:=bS h
   refine dy [] [] (B r8) rfl (cP (Rr hr8)) ?_ (dE rfl rfl rfl rfl (bw (bR rfl) (bw (bR rfl) dB)) (Rr hr8) (.inr rfl) rfl)
   refine dk 2 [36,35] [B (!r8),B (!r8)] ?_
   refine de 338 rfl rfl ?_
   exact rf [1,3,36] [1] (j7 _ (ai h) :)
 ·refine aq 1 ?_
  exact rf [1] [1] (hn _ (ai h) :) (hk:=hK)
theorem UL (c_1:Contract)(r:Bool)(h:AG c_1=some r):bp vM Tryz.f43 [false] 0 (D5 c_1) (D6 r):=by
 show Run _ _ (sA c_1 r) [.code D7] _
 refine rI 41 [(0,ac c_1)] [] 1 ?_
 unfold AG at h
 refine ck 10 [1,5] [] [1] [] [.hp 1 0 [] 2 0 0,.isl false (c_1.Clauses.map aj)] [some ⟨0,2,[ac c_1]⟩] 65 (by kernel_rfl) ?_
 refine oq 81 (I (len c_1.Clauses)) rfl (bq rfl rfl rfl (bB rfl)) ?_
 obtain⟨r2,hr2,h⟩:=bS h
 refine oq 97 (B r2) rfl (cP (dY hr2)) ?_
 refine cq 2 [9] [B (!r2)] 129 ?_
 obtain⟨y3,hy3,hy31,hy32⟩:=bJ h
 have j3:∀u3,y3=.inr u3→Run vM 0 (sA c_1 r) (.code (cR (cL (cR D7)))::.code (cR (cR D7))::[]) (sT 41 [(1,.hp 1 0 [] 2 0 0),(13,B u3)] [⟨0,2,[ac c_1]⟩] 2):=by
  intro u3 hu
  replace h:=hy32 u3 hu
  refine sq h ?_ ?_<;>intro h
  ·refine cq 4 [2] [B false] 18 ?_
   obtain rfl:=sI h
   exact rP [B false]
  ·refine aq 1 ?_
   refine cq 6 [3] [I (0)] 18 ?_
   obtain⟨y9,hy9,hy91,hy92⟩:=bJ h
   refine ci rfl ?_
   refine rf [1,3] [1] (LS c_1 rfl 0 _ hy9 (fun r' e st hq=>by rw[hy91 r' e] at hq;exact hq) fun u9 hu=>?_)
   replace h:=hy92 u9 hu
   refine cq 3 [37] [ac c_1] 18 ?_
   obtain⟨r10,hr10,h⟩:=bS h
   refine oq 34 (.hs 18 0 [] 1 0 (r10.map str).length) rfl (cP (RA hr10)) ?_
   refine oq 50 (I (len r10)) rfl (bq rfl rfl rfl (xd (f:=str) (xs:=r10) rfl rfl)) ?_
   refine cq 3 [2] [B (decide ((len r10)≤16))] 82 ?_
   obtain rfl:=sI h
   exact rP [B (decide ((len r10)≤16))]
 have r3:∀r',y3=.inl r'→∀st,sA c_1 r' st→(sA c_1 r) st:=fun r' e st hq=>by rw[hy31 r' e] at hq;exact hq
 replace h:=hy3
 refine sp 9 h rfl ?_ ?_<;>intro h
 ·refine cq 5 [13] [B true] 193 ?_
  exact rf [1,13] [1] (j3 _ (ai h) :)
 ·refine cq 1 [10] [ac c_1] 145 ?_
  obtain⟨r11,hr11,h⟩:=bS h
  refine oy 161 (B r11) rfl (cP (Z7 hr11)) ?_
  refine cq 3 [13] [B (!r11)] 193 ?_
  exact rf [1,13] [1] (j3 _ (ai h) :)
theorem Rz {G:bU}:bQ G 43 AH:=gT 1 0 (aJ fF (aJ G1 (aJ Rs (aJ G2 (aJ RD bv))))) ca Tryz.func43 (fun a r h=>UL a r h)
def DB:(List aa)→List V:=oA (eW str)
def DD (r:Bool):V×List V:=(B r,[])
noncomputable def Ao :=ba [false] DB DD fun x=>An x
theorem ZZ {ar:List aa}{r}(h:An ar=some r):Ao.F (DB ar)=some (DD r):=aH (aI (bu bc)) h
noncomputable def Q6 :=aF Tryz.f122
noncomputable abbrev jQ :=cL (cL (cR (cL (cR Q6))))
noncomputable def sf :=b9 [(80,lR)]
def DC (x:(List aa))(r:Bool):St→Prop:=QF sf Tryz.f122 [false] (DB x) (DD r)
theorem LJ (ar:List aa):cW sf 0 (DC ar) jQ 0 (ie ar) (fun u=>(sT 39 [(0,.isl false (ar.map str))] [] 1)) fun x2=>(sT 39 [(0,.isl false (ar.map str)),(3,I x2)] [] 1):=eF (xP ar) fun {Q K} hK self ih x2 y h hr hn=>by
 unfold jg at h
 refine cq 5 [4,5] [I x2,.isl false (ar.map str)] 33 ?_
 refine oq 49 (I (len ar)) rfl (bq rfl rfl rfl (bB rfl)) ?_
 refine cq 2 [8] [B (decide (x2<(len ar)))] 81 ?_
 obtain⟨u3,hu3,h⟩:=lJ h
 have j3:Run sf 0 Q (.code (cR (cL jQ))::.code (cR jQ)::.lp jQ::.blk 0::K) (sT 39 [(0,.isl false (ar.map str)),(3,I x2),(11,B u3)] [] 1):=by
  refine sq h ?_ ?_<;>intro h
  ·refine aq 1 ?_
   refine aq 3 ?_
   refine ez [0,0,3,7,15,31,63,127,255,511,1023,1023,3071,8191,16383,1023,1023,99327,230399,524287,1048575,2097151] rfl (by decide +kernel) ?_
   refine dk 2 [15,14] [I x2,.isl false (ar.map str)] ?_
   obtain⟨e4,he4,h⟩:=bS h
   refine dq [] [] (.iptr (str e4) 0) rfl (au rfl rfl rfl (aV rfl rfl rfl rfl he4)) ?_
   refine dq [] [] (str e4) rfl (aY rfl rfl) ?_
   obtain⟨r5,hr5,h⟩:=bS h
   refine dq [] [] (B r5) rfl (cP (oI hr5)) ?_ (dE rfl rfl rfl rfl (bw (bR rfl) dB) (oI hr5) (.inr rfl) rfl)
   refine dk 2 [20,19] [B (!r5),B (!r5)] ?_
   obtain⟨y6,hy6,hy61,hy62⟩:=bL h
   have j6:∀u6,y6=.inr u6→Run sf 0 Q (.code (cR (cL (cL (cR jQ))))::.blk 1::.code (cR (cR jQ))::.lp jQ::.blk 0::K) (sT 39 [(0,.isl false (ar.map str)),(3,I x2),(35,B u6)] [] 1):=by
    intro u6 hu
    replace h:=hy62 u6 hu
    refine sq h ?_ ?_<;>intro h
    ·refine cq 4 [2] [B false] 17 ?_
     exact b8 rfl (hr _ (ai h) _ (qp [B false]))
    ·refine aq 1 ?_
     refine cq 6 [3] [I (az (x2+1))] 49 ?_
     refine dP ?_
     exact rf [0,3] [] (ih _ _ h hr hn :)
   have r6:∀r',y6=.inl r'→∀st,DC ar r' st→Q st:=fun r' e st hq=>hr r' (hy61 r' e) st hq
   replace h:=hy6
   refine sp 20 h rfl ?_ ?_<;>intro h
   ·refine dk 15 [35,34,33,32,31,30,29,28,27,26,25,24,23,22,21] [B true,.und,.und,.und,.und,.und,.und,.und,.und,.und,.und,.und,.und,.und,.und] ?_
    refine de 353 rfl rfl ?_
    exact rf [0,3,35] [] (j6 _ (ai h) :)
   ·refine dk 3 [23,22,21] [B (decide (x2>0)),B (decide (x2>0)),I x2] ?_
    obtain⟨y7,hy7,hy71,hy72⟩:=bL h
    have j7:∀u7,y7=.inr u7→Run sf 0 Q (.code (cR (cL (cL (cR jQ))))::.blk 1::.code (cR (cR jQ))::.lp jQ::.blk 0::K) (sT 39 [(0,.isl false (ar.map str)),(3,I x2),(35,B u7)] [] 1):=by
     intro u7 hu
     replace h:=hy72 u7 hu
     exact rf [0,3,35] [] (j6 _ (ai h) :)
    have r7:∀r',y7=.inl r'→∀st,DC ar r' st→Q st:=fun r' e st hq=>r6 r' (hy71 r' e) st hq
    replace h:=hy7
    refine sp 23 h rfl ?_ ?_<;>intro h
    ·refine dk 3 [26,25,24] [I (az (x2 - 1)),I x2,.isl false (ar.map str)] ?_
     obtain⟨e8,he8,h⟩:=bS h
     refine dy [] [] (.iptr (str e8) 0) rfl (au rfl rfl rfl (aV rfl rfl rfl rfl he8)) ?_
     refine dy [] [] (str e8) rfl (aY rfl rfl) ?_
     refine dk 2 [30,29] [I x2,.isl false (ar.map str)] ?_
     obtain⟨e9,he9,h⟩:=bS h
     refine dy [] [] (.iptr (str e9) 0) rfl (au rfl rfl rfl (aV rfl rfl rfl rfl he9)) ?_
     refine dy [] [] (str e9) rfl (aY rfl rfl) ?_
     refine dk 3 [35,34,33] [B (!(Op.bytesLess e8 e9)),B (!(Op.bytesLess e8 e9)),B (!(Op.bytesLess e8 e9))] ?_
     refine de 353 rfl rfl ?_
     exact rf [0,3,35] [] (j7 _ (ai h) :)
    ·refine dk 12 [35,34,33,32,31,30,29,28,27,26,25,24] [B false,B false,.und,.und,.und,.und,.und,.und,.und,.und,.und,.und] ?_
     refine de 353 rfl rfl ?_
     exact rf [0,3,35] [] (j7 _ (ai h) :)
  ·refine aq 1 ?_
   exact rf [0] [] (hn _ (ai h) :) (hk:=hK)
 replace h:=hu3
 clear hu3
 refine sp 8 h rfl ?_ ?_<;>intro h
 ·refine cq 4 [11] [B (decide (x2≤16))] 129 ?_
  subst h
  exact rf [0,3,11] [] (j3 :)
 ·refine cq 4 [11] [B false] 129 ?_
  subst h
  exact rf [0,3,11] [] (j3 :)
theorem Ut (ar:List aa)(r:Bool)(h:An ar=some r):bp sf Tryz.f122 [false] 0 (DB ar) (DD r):=by
 show Run _ _ (DC ar r) [.code Q6] _
 refine rI 39 [(0,.isl false (ar.map str))] [] 1 ?_
 unfold An at h
 refine cq 10 [3] [I (0)] 33 ?_
 obtain⟨y10,hy10,hy101,hy102⟩:=bJ h
 refine ci rfl ?_
 refine rf [0,3] [] (LJ ar rfl 0 _ hy10 (fun r' e st hq=>by rw[hy101 r' e] at hq;exact hq) fun u10 hu=>?_)
 replace h:=hy102 u10 hu
 refine cq 3 [36] [.isl false (ar.map str)] 17 ?_
 refine oq 33 (I (len ar)) rfl (bq rfl rfl rfl (bB rfl)) ?_
 refine cq 3 [2] [B (decide ((len ar)≤16))] 65 ?_
 obtain rfl:=sI h
 exact rP [B (decide ((len ar)≤16))]
theorem Q7 {G:bU}:bQ G 122 Ao:=gT 1 0 (aJ oK bv) ca Tryz.func122 (fun a r h=>Ut a r h)
def D1:(Contract×Int)→List V:=cA aO (oA I)
def D2 (r:Bool):V×List V:=(B r,[])
noncomputable def AF :=ba [false,false] D1 D2 fun x=>AE x.1 x.2
theorem Z5 {c_1:Contract}{i_2:Int}{r}(h:AE c_1 i_2=some r):AF.F (D1 (c_1,i_2))=some (D2 r):=aH (aN aZ (aI bC)) h
noncomputable def Ru :=aF Tryz.f156
noncomputable def JE :=b9 []
def Rt (x:Contract×Int)(r:Bool):St→Prop:=QF JE Tryz.f156 [false,false] (D1 x) (D2 r)
theorem LQ (c_1:Contract)(i_2:Int):cW JE 0 (Rt (c_1,i_2)) (cL (cL (cR (cL (cR Ru))))) 0 (sw c_1 i_2) (fun u=>(sT 26 [] [] 1)) fun x3=>(sT 26 [(1,I i_2),(2,.hp 1 0 [] 2 0 0),(5,I x3)] [⟨0,2,[ac c_1]⟩] 2):=eF (xW c_1 i_2) fun {Q K} hK self ih x3 y h hr hn=>by
 unfold mq at h
 refine cq 6 [6,8] [I x3,.isl false (c_1.Clauses.map aj)] 50 ?_
 refine oq 66 (I (len c_1.Clauses)) rfl (bq rfl rfl rfl (bB rfl)) ?_
 refine cq 2 [10] [B (decide (x3<(len c_1.Clauses)))] 82 ?_
 refine sq h ?_ ?_<;>intro h
 ·refine aq 1 ?_
  refine aq 3 ?_
  refine ez [0,1,0,7,15,31,0,64,0,448,960,1984,4095] rfl (by decide +kernel) ?_
  refine dq [1] [] (.hp 1 0 [] 2 0 1) rfl (al rfl rfl rfl) ?_
  refine dq [1] [] (.isl false (c_1.Clauses.map aj)) rfl (aY rfl rfl) ?_
  refine dk 1 [15] [I x3] ?_
  obtain⟨e4,he4,h⟩:=bS h
  refine dq [] [] (.iptr (ao e4) 0) rfl (au rfl rfl rfl (aV rfl rfl rfl rfl he4)) ?_
  refine dq [] [] (.iptr (ao e4) 11) rfl (al rfl rfl rfl) ?_
  refine dq [] [] (str e4.Repair) rfl (aY rfl rfl) ?_
  refine dq [1] [] (.hp 1 0 [] 2 0 1) rfl (al rfl rfl rfl) ?_
  refine dq [1] [] (.isl false (c_1.Clauses.map aj)) rfl (aY rfl rfl) ?_
  refine dk 1 [21] [I i_2] ?_
  obtain⟨e5,he5,h⟩:=bS h
  refine dq [] [] (.iptr (ao e5) 0) rfl (au rfl rfl rfl (aV rfl rfl rfl rfl he5)) ?_
  refine dq [] [] (.iptr (ao e5) 0) rfl (al rfl rfl rfl) ?_
  refine dq [] [] (str e5.Id) rfl (aY rfl rfl) ?_
  refine dk 1 [25] [B (e4.Repair==e5.Id)] ?_
  refine de 290 rfl rfl ?_
  refine sq h ?_ ?_<;>intro h
  ·refine cq 4 [4] [B true] 306 ?_
   exact b8 rfl (hr _ (ai h) _ (qp [B true]))
  ·refine aq 1 ?_
   refine cq 6 [5] [I (az (x3+1))] 338 ?_
   refine dP ?_
   exact rf [1,2,5] [1] (ih _ _ h hr hn :)
 ·refine aq 1 ?_
  exact rf [] [] (hn _ (ai h) :) (hk:=hK)
theorem UJ (c_1:Contract)(i_2:Int)(r:Bool)(h:AE c_1 i_2=some r):bp JE Tryz.f156 [false,false] 0 (D1 (c_1,i_2)) (D2 r):=by
 show Run _ _ (Rt (c_1,i_2) r) [.code Ru] _
 refine rI 26 [(0,ac c_1),(1,I i_2)] [] 1 ?_
 unfold AE at h
 refine ck 11 [2,5] [] [1] [] [.hp 1 0 [] 2 0 0,I (0)] [some ⟨0,2,[ac c_1]⟩] 49 (by kernel_rfl) ?_
 obtain⟨y6,hy6,hy61,hy62⟩:=bJ h
 refine ci rfl ?_
 refine rf [1,2,5] [1] (LQ c_1 i_2 rfl 0 _ hy6 (fun r' e st hq=>by rw[hy61 r' e] at hq;exact hq) fun u6 hu=>?_)
 replace h:=hy62 u6 hu
 refine cq 4 [4] [B false] 17 ?_
 obtain rfl:=sI h
 exact rP [B false]
theorem Rv {G:bU}:bQ G 156 AF:=gT 2 0 bv ca Tryz.func156 (fun a r h=>UJ a.1 a.2 r h)
def Ej:(State×Int)→List V:=cA b7 (oA I)
def El (r:Int):V×List V:=(I r,[])
noncomputable def AM :=ba [false,false] Ej El fun x=>AL x.1 x.2
theorem Z9 {s_1:State}{i_2:Int}{r}(h:AL s_1 i_2=some r):AM.F (Ej (s_1,i_2))=some (El r):=aH (aN cY (aI bC)) h
noncomputable def RG :=aF Tryz.f157
noncomputable abbrev F9 :=cL (cL (cR (cL (cR (cR RG)))))
noncomputable def Ek :=b9 []
def RF (x:State×Int)(r:Int):St→Prop:=QF Ek Tryz.f157 [false,false] (Ej x) (El r)
theorem LV (s_1:State)(i_2:Int):cW Ek 0 (RF (s_1,i_2)) F9 0 (kY s_1 i_2) (fun u=>(sT 25 [(5,I u)] [] 1)) fun x3=>(sT 25 [(1,I i_2),(2,.hp 1 0 [] 5 0 0),(5,I x3.1),(6,I x3.2)] [⟨0,5,[ak s_1]⟩] 2):=eF (yd s_1 i_2) fun {Q K} hK self ih x3 y h hr hn=>by
 unfold kA at h
 refine cq 6 [7,9] [I x3.2,.isl false (s_1.Duties.map ae)] 50 ?_
 refine oq 66 (I (len s_1.Duties)) rfl (bq rfl rfl rfl (bB rfl)) ?_
 refine cq 2 [11] [B (decide (x3.2<(len s_1.Duties)))] 82 ?_
 refine sq h ?_ ?_<;>intro h
 ·refine aq 1 ?_
  refine cq 7 [15,16] [.isl false (s_1.Duties.map ae),I x3.2] 130 ?_
  obtain⟨e4,he4,h⟩:=bS h
  refine oq 146 (.iptr (ae e4) 0) rfl (au rfl rfl rfl (aV rfl rfl rfl rfl he4)) ?_
  refine cq 5 [21] [B (e4.Clause==i_2)] 210 ?_
  obtain⟨u5,hu5,h⟩:=lJ h
  have j5:Run Ek 0 Q (.blk 1::.code (cR (cR F9))::.lp F9::.blk 0::K) (sT 25 [(1,I i_2),(2,.hp 1 0 [] 5 0 0),(5,I u5),(6,I x3.2)] [⟨0,5,[ak s_1]⟩] 2):=by
   refine cq 6 [6] [I (az (x3.2+1))] 50 ?_
   refine dP ?_
   exact rf [1,2,5,6] [1] (ih _ _ h hr hn :)
  replace h:=hu5
  clear hu5
  refine yE h rfl rfl ?_ ?_<;>intro h
  ·refine cq 5 [5] [I (az (x3.1+1))] 258 ?_
   subst h
   exact rf [1,2,5,6] [1] (j5 :)
  ·refine aq 1 ?_
   subst h
   exact rf [1,2,5,6] [1] (j5 :)
 ·refine aq 1 ?_
  exact rf [5] [] (hn _ (ai h) :) (hk:=hK)
theorem UR (s_1:State)(i_2:Int)(r:Int)(h:AL s_1 i_2=some r):bp Ek Tryz.f157 [false,false] 0 (Ej (s_1,i_2)) (El r):=by
 show Run _ _ (RF (s_1,i_2) r) [.code RG] _
 refine rI 25 [(0,ak s_1),(1,I i_2)] [] 1 ?_
 unfold AL at h
 refine ck 15 [2,5,6] [] [1] [] [.hp 1 0 [] 5 0 0,I (0),I (0)] [some ⟨0,5,[ak s_1]⟩] 65 (by kernel_rfl) ?_
 obtain⟨y6,hy6,hy61,hy62⟩:=bJ h
 refine ci rfl ?_
 refine rf [1,2,5,6] [1] (LV s_1 i_2 rfl (0,0) _ hy6 (fun r' e st hq=>by rw[hy61 r' e] at hq;exact hq) fun u6 hu=>?_)
 replace h:=hy62 u6 hu
 refine cq 5 [4] [I u6] 33 ?_
 obtain rfl:=sI h
 exact rP [I u6]
theorem RH {G:bU}:bQ G 157 AM:=gT 2 0 bv ca Tryz.func157 (fun a r h=>UR a.1 a.2 r h)
def En:(Contract×State×Int)→List V:=cA aO (cA b7 (oA I))
def Eo (r:Bool):V×List V:=(B r,[])
noncomputable def AO :=ba [false,false,false] En Eo fun x=>AN x.1 x.2.1 x.2.2
theorem aaa {c_1:Contract}{s_2:State}{k_3:Int}{r}(h:AN c_1 s_2 k_3=some r):AO.F (En (c_1,s_2,k_3))=some (Eo r):=aH (aN aZ (aN cY (aI bC))) h
noncomputable def JK :=aF Tryz.f124
noncomputable abbrev nS :=cR (cR (cR JK))
noncomputable abbrev sC :=cR (cL (cR (cR JK)))
noncomputable abbrev eb :=cR nS
noncomputable abbrev ec :=cR (cL nS)
noncomputable def dW :=b9 [(89,eV),(156,AF),(157,AM),(76,pX)]
def cM (x:Contract×State×Int)(r:Bool):St→Prop:=QF dW Tryz.f124 [false,false,false] (En x) (Eo r)
theorem US (c_1:Contract)(s_2:State)(k_3:Int)(r:Bool)(h:AN c_1 s_2 k_3=some r):bp dW Tryz.f124 [false,false,false] 0 (En (c_1,s_2,k_3)) (Eo r):=by
 show Run _ _ (cM (c_1,s_2,k_3) r) [.code JK] _
 refine rI 129 [(0,ac c_1),(1,ak s_2),(2,I k_3)] [] 1 ?_
 unfold AN at h
 refine ck 11 [3,4,9,10] [] [1,17] [] [.hp 1 0 [] 2 0 0,.hp 17 0 [] 5 0 0,.isl false (s_2.Duties.map ae),I k_3] [some ⟨0,2,[ac c_1]⟩,some ⟨0,5,[ak s_2]⟩] 97 (by kernel_rfl) ?_
 obtain⟨e4,he4,h⟩:=bS h
 refine oq 113 (.iptr (ae e4) 0) rfl (au rfl rfl rfl (aV rfl rfl rfl rfl he4)) ?_
 refine ck 6 [7] [] [129] [] [.hp 129 0 [] 4 0 0] [some ⟨0,4,[ae e4]⟩] 161 (by kernel_rfl) ?_
 refine ez [0,1,0,4,12,28,63,127,255,511,1023,511,2559,8191,16383,32767,65535,131071,262143,524287,1048575,524287,2621439,8388607,16777215,33554431,67108863,134217727,268435455,134217727,671088639,134217727,2281701375,134217727,8724152319,32346472447,66706210815,135425687551,274475253759,549755813887,1099511627775,2199023255551,4398046511103,8796093022207,17592186044415,35184372088831,70368744177663,140737488355327,281474976710655,562949953421311,1125899906842623,2251799813685247,4503599627370495] rfl (by decide +kernel) ?_
 refine dq [129] [] (.hp 129 0 [] 4 0 0) rfl (al rfl rfl rfl) ?_
 refine dq [129] [] (I e4.Clause) rfl (aY rfl rfl) ?_
 refine dq [1] [] (.hp 1 0 [] 2 0 1) rfl (al rfl rfl rfl) ?_
 refine dq [1] [] (.isl false (c_1.Clauses.map aj)) rfl (aY rfl rfl) ?_
 refine dq [] [] (I (len c_1.Clauses)) rfl (bq rfl rfl rfl (bB rfl)) ?_
 refine dk 1 [18] [I (az ((len c_1.Clauses) - 1))] ?_
 obtain⟨r5,hr5,h⟩:=bS h
 refine dq [] [] (B r5) rfl (cP (dY hr5)) ?_ (dE rfl rfl rfl rfl (bw (bR rfl) (bw (bR rfl) (bw (bR rfl) dB))) (dY hr5) (.inr rfl) rfl)
 refine dk 2 [21,20] [B (!r5),B (!r5)] ?_
 obtain⟨y6,hy6,hy61,hy62⟩:=bJ h
 have j6:∀u6,y6=.inr u6→Run dW 0 (cM (c_1,s_2,k_3) r) (.code sC::.code nS::[]) (sT 129 [(2,I k_3),(3,.hp 1 0 [] 2 0 0),(4,.hp 2 0 [] 5 0 0),(7,.hp 3 0 [] 4 0 0),(65,B u6)] [⟨0,2,[ac c_1]⟩,⟨0,5,[ak s_2]⟩,⟨0,4,[ae e4]⟩] 4):=by
  intro u6 hu
  replace h:=hy62 u6 hu
  refine sq h ?_ ?_<;>intro h
  ·refine cq 4 [6] [B false] 20 ?_
   obtain rfl:=sI h
   exact rP [B false]
  ·refine aq 1 ?_
   refine aq 2 ?_
   refine ez [0,1,3,7,15,7,39,127,255,511,7,1031,4095,8191,16383,32767,65535,131071,262143,524287,1048575,524287,2621439,8388607,16777215,33554431,67108863,134217727,268435455,536870911,1073741823,2147483647,4294967295,8589934591,17179869183,34359738367,68719476735,34359738367,171798691839,549755813887,1099511627775,2199023255551,4398046511103,8796093022207,17592186044415,35184372088831,70368744177663,140737488355327,281474976710655,562949953421311,1125899906842623,2251799813685247] rfl (by decide +kernel) ?_
   refine dk 3 [68,67,66] [B (decide (k_3>0)),B (decide (k_3>0)),I k_3] ?_
   obtain⟨y7,hy7,hy71,hy72⟩:=bJ h
   have j7:∀u7,y7=.inr u7→Run dW 0 (cM (c_1,s_2,k_3) r) (.code ec::.code eb::[]) (sT 129 [(3,.hp 1 0 [] 2 0 0),(4,.hp 2 0 [] 5 0 0),(7,.hp 3 0 [] 4 0 0),(117,B u7)] [⟨0,2,[ac c_1]⟩,⟨0,5,[ak s_2]⟩,⟨0,4,[ae e4]⟩] 4):=by
    intro u7 hu
    replace h:=hy72 u7 hu
    refine sq h ?_ ?_<;>intro h
    ·refine cq 4 [6] [B false] 20 ?_
     obtain rfl:=sI h
     exact rP [B false]
    ·refine aq 1 ?_
     refine cq 5 [118,120] [ac c_1,I e4.Clause] 52 ?_
     obtain⟨r8,hr8,h⟩:=bS h
     refine oq 68 (B r8) rfl (cP (Z5 hr8)) ?_
     refine cq 1 [122] [B r8] 84 ?_
     obtain⟨y9,hy9,hy91,hy92⟩:=bJ h
     have j9:∀u9,y9=.inr u9→Run dW 0 (cM (c_1,s_2,k_3) r) (.code (cR eb)::[]) (sT 129 [(6,B u9)] [] 1):=by
      intro u9 hu
      replace h:=hy92 u9 hu
      obtain rfl:=sI h
      exact rP [B u9]
     have r9:∀r',y9=.inl r'→∀st,cM (c_1,s_2,k_3) r' st→(cM (c_1,s_2,k_3) r) st:=fun r' e st hq=>by rw[hy91 r' e] at hq;exact hq
     replace h:=hy9
     refine sp 122 h rfl ?_ ?_<;>intro h
     ·refine cq 8 [6] [B true] 196 ?_
      exact rf [6] [] (j9 _ (ai h) :)
     ·refine cq 3 [123,125] [ak s_2,I e4.Clause] 132 ?_
      obtain⟨r10,hr10,h⟩:=bS h
      refine oy 148 (I r10) rfl (cP (Z9 hr10)) ?_
      refine cq 4 [6] [B (r10==1)] 196 ?_
      exact rf [6] [] (j9 _ (ai h) :)
   have r7:∀r',y7=.inl r'→∀st,cM (c_1,s_2,k_3) r' st→(cM (c_1,s_2,k_3) r) st:=fun r' e st hq=>by rw[hy71 r' e] at hq;exact hq
   replace h:=hy7
   refine sp 68 h rfl ?_ ?_<;>intro h
   ·refine dy [2] [] (.hp 2 0 [] 5 0 2) rfl (al rfl rfl rfl) ?_
    refine dy [2] [] (.isl false (s_2.Duties.map ae)) rfl (aY rfl rfl) ?_
    refine dk 2 [72,71] [I (az (k_3 - 1)),I k_3] ?_
    obtain⟨e11,he11,h⟩:=bS h
    refine dy [] [] (.iptr (ae e11) 0) rfl (au rfl rfl rfl (aV rfl rfl rfl rfl he11)) ?_
    refine dy [] [] (.iptr (ae e11) 1) rfl (al rfl rfl rfl) ?_
    refine dy [] [] (I e11.Since) rfl (aY rfl rfl) ?_
    refine dy [3] [] (.hp 3 0 [] 4 0 1) rfl (al rfl rfl rfl) ?_
    refine dy [3] [] (I e4.Since) rfl (aY rfl rfl) ?_
    refine dk 3 [80,79,78] [B (decide (e11.Since>e4.Since)),B (decide (e11.Since>e4.Since)),B (decide (e11.Since>e4.Since))] ?_
    obtain⟨u12,hu12,h⟩:=lJ h
    have j12:Run dW 0 (cM (c_1,s_2,k_3) r) (.code ec::.code eb::[]) (sT 129 [(3,.hp 1 0 [] 2 0 0),(4,.hp 2 0 [] 5 0 0),(7,.hp 3 0 [] 4 0 0),(117,B u12)] [⟨0,2,[ac c_1]⟩,⟨0,5,[ak s_2]⟩,⟨0,4,[ae e4]⟩] 4):=by
     exact rf [3,4,7,117] [1,2,3] (j7 _ (ai h) :)
    replace h:=hu12
    clear hu12
    refine sp 80 h rfl ?_ ?_<;>intro h
    ·refine dk 37 [117,116,115,114,113,112,111,110,109,108,107,106,105,104,103,102,101,100,99,98,97,96,95,94,93,92,91,90,89,88,87,86,85,84,83,82,81] [B true,.und,.und,.und,.und,.und,.und,.und,.und,B true,B true,.und,.und,.und,.und,.und,.und,.und,.und,.und,.und,B true,B true,.und,.und,.und,.und,.und,.und,.und,.und,.und,.und,.und,.und,.und,.und] ?_
     refine de 836 rfl rfl ?_
     subst h
     exact rf [3,4,7,117] [1,2,3] (j12 :)
    ·refine dy [3] [] (.hp 3 0 [] 4 0 3) rfl (al rfl rfl rfl) ?_
     refine dy [3] [] (I e4.Status) rfl (aY rfl rfl) ?_
     refine dk 2 [84,83] [B (e4.Status==1),B (e4.Status==1)] ?_
     obtain⟨u13,hu13,h⟩:=lJ h
     have j13:Run dW 0 (cM (c_1,s_2,k_3) r) (.code ec::.code eb::[]) (sT 129 [(3,.hp 1 0 [] 2 0 0),(4,.hp 2 0 [] 5 0 0),(7,.hp 3 0 [] 4 0 0),(117,B u13)] [⟨0,2,[ac c_1]⟩,⟨0,5,[ak s_2]⟩,⟨0,4,[ae e4]⟩] 4):=by
      subst h
      exact rf [3,4,7,117] [1,2,3] (j12 :)
     replace h:=hu13
     clear hu13
     refine sp 84 h rfl ?_ ?_<;>intro h
     ·refine dy [3] [] (.hp 3 0 [] 4 0 2) rfl (al rfl rfl rfl) ?_
      refine dy [3] [] (I e4.Due) rfl (aY rfl rfl) ?_
      refine dy [2] [] (.hp 2 0 [] 5 0 0) rfl (al rfl rfl rfl) ?_
      refine dy [2] [] (I s_2.Day) rfl (aY rfl rfl) ?_
      refine dk 2 [90,89] [B (decide (e4.Due<s_2.Day)),B (decide (e4.Due<s_2.Day))] ?_
      obtain⟨u14,hu14,h⟩:=lJ h
      have j14:Run dW 0 (cM (c_1,s_2,k_3) r) (.code ec::.code eb::[]) (sT 129 [(3,.hp 1 0 [] 2 0 0),(4,.hp 2 0 [] 5 0 0),(7,.hp 3 0 [] 4 0 0),(117,B u14)] [⟨0,2,[ac c_1]⟩,⟨0,5,[ak s_2]⟩,⟨0,4,[ae e4]⟩] 4):=by
       subst h
       exact rf [3,4,7,117] [1,2,3] (j13 :)
      replace h:=hu14
      clear hu14
      refine sp 90 h rfl ?_ ?_<;>intro h
      ·refine dk 27 [117,116,115,114,113,112,111,110,109,108,107,106,105,104,103,102,101,100,99,98,97,96,95,94,93,92,91] [B true,.und,.und,.und,.und,.und,.und,.und,.und,B true,B true,.und,.und,.und,.und,.und,.und,.und,.und,.und,.und,B true,B true,B true,B true,.und,.und] ?_
       refine de 836 rfl rfl ?_
       subst h
       exact rf [3,4,7,117] [1,2,3] (j14 :)
      ·refine dy [2] [] (.hp 2 0 [] 5 0 4) rfl (al rfl rfl rfl) ?_
       refine dy [2] [] (B s_2.Over) rfl (aY rfl rfl) ?_
       refine dk 4 [96,95,94,93] [B s_2.Over,B s_2.Over,B s_2.Over,B s_2.Over] ?_
       obtain⟨u15,hu15,h⟩:=lJ h
       have j15:Run dW 0 (cM (c_1,s_2,k_3) r) (.code ec::.code eb::[]) (sT 129 [(3,.hp 1 0 [] 2 0 0),(4,.hp 2 0 [] 5 0 0),(7,.hp 3 0 [] 4 0 0),(117,B u15)] [⟨0,2,[ac c_1]⟩,⟨0,5,[ak s_2]⟩,⟨0,4,[ae e4]⟩] 4):=by
        subst h
        exact rf [3,4,7,117] [1,2,3] (j14 :)
       replace h:=hu15
       clear hu15
       refine sp 96 h rfl ?_ ?_<;>intro h
       ·refine dk 21 [117,116,115,114,113,112,111,110,109,108,107,106,105,104,103,102,101,100,99,98,97] [B true,.und,.und,.und,.und,.und,.und,.und,.und,B true,B true,.und,.und,.und,.und,.und,.und,.und,.und,.und,.und] ?_
        refine de 836 rfl rfl ?_
        subst h
        exact rf [3,4,7,117] [1,2,3] (j15 :)
       ·refine dy [3] [] (.hp 3 0 [] 4 0 3) rfl (al rfl rfl rfl) ?_
        refine dy [3] [] (I e4.Status) rfl (aY rfl rfl) ?_
        refine dk 2 [100,99] [B (e4.Status==3),B (e4.Status==3)] ?_
        obtain⟨u16,hu16,h⟩:=lJ h
        have j16:Run dW 0 (cM (c_1,s_2,k_3) r) (.code ec::.code eb::[]) (sT 129 [(3,.hp 1 0 [] 2 0 0),(4,.hp 2 0 [] 5 0 0),(7,.hp 3 0 [] 4 0 0),(117,B u16)] [⟨0,2,[ac c_1]⟩,⟨0,5,[ak s_2]⟩,⟨0,4,[ae e4]⟩] 4):=by
         subst h
         exact rf [3,4,7,117] [1,2,3] (j15 :)
        replace h:=hu16
        clear hu16
        refine sp 100 h rfl ?_ ?_<;>intro h
        ·refine dy [3] [] (.hp 3 0 [] 4 0 2) rfl (al rfl rfl rfl) ?_
         refine dy [3] [] (I e4.Due) rfl (aY rfl rfl) ?_
         refine dy [2] [] (.hp 2 0 [] 5 0 0) rfl (al rfl rfl rfl) ?_
         refine dy [2] [] (I s_2.Day) rfl (aY rfl rfl) ?_
         refine dk 4 [108,107,106,105] [B (decide (e4.Due≥s_2.Day)),B (decide (e4.Due≥s_2.Day)),B (decide (e4.Due≥s_2.Day)),B (decide (e4.Due≥s_2.Day))] ?_
         obtain⟨u17,hu17,h⟩:=lJ h
         have j17:Run dW 0 (cM (c_1,s_2,k_3) r) (.code ec::.code eb::[]) (sT 129 [(3,.hp 1 0 [] 2 0 0),(4,.hp 2 0 [] 5 0 0),(7,.hp 3 0 [] 4 0 0),(117,B u17)] [⟨0,2,[ac c_1]⟩,⟨0,5,[ak s_2]⟩,⟨0,4,[ae e4]⟩] 4):=by
          subst h
          exact rf [3,4,7,117] [1,2,3] (j16 :)
         replace h:=hu17
         clear hu17
         refine sp 108 h rfl ?_ ?_<;>intro h
         ·refine dk 9 [117,116,115,114,113,112,111,110,109] [B true,.und,.und,.und,.und,.und,.und,.und,.und] ?_
          refine de 836 rfl rfl ?_
          subst h
          exact rf [3,4,7,117] [1,2,3] (j17 :)
         ·refine dy [3] [] (.hp 3 0 [] 4 0 3) rfl (al rfl rfl rfl) ?_
          refine dy [3] [] (I e4.Status) rfl (aY rfl rfl) ?_
          refine dk 2 [112,111] [B (e4.Status==4),B (e4.Status==4)] ?_
          obtain⟨u18,hu18,h⟩:=lJ h
          have j18:Run dW 0 (cM (c_1,s_2,k_3) r) (.code ec::.code eb::[]) (sT 129 [(3,.hp 1 0 [] 2 0 0),(4,.hp 2 0 [] 5 0 0),(7,.hp 3 0 [] 4 0 0),(117,B u18)] [⟨0,2,[ac c_1]⟩,⟨0,5,[ak s_2]⟩,⟨0,4,[ae e4]⟩] 4):=by
           subst h
           exact rf [3,4,7,117] [1,2,3] (j17 :)
          replace h:=hu18
          clear hu18
          refine sp 112 h rfl ?_ ?_<;>intro h
          ·refine dy [2] [] (.hp 2 0 [] 5 0 4) rfl (al rfl rfl rfl) ?_
           refine dy [2] [] (B s_2.Over) rfl (aY rfl rfl) ?_
           refine dk 3 [117,116,115] [B (!s_2.Over),B (!s_2.Over),B (!s_2.Over)] ?_
           refine de 836 rfl rfl ?_
           subst h
           exact rf [3,4,7,117] [1,2,3] (j18 :)
          ·refine dk 5 [117,116,115,114,113] [B false,B false,.und,.und,.und] ?_
           refine de 836 rfl rfl ?_
           subst h
           exact rf [3,4,7,117] [1,2,3] (j18 :)
        ·refine dk 8 [108,107,106,105,104,103,102,101] [B false,B false,B false,.und,.und,.und,.und,.und] ?_
         refine dy [3] [] (.hp 3 0 [] 4 0 3) rfl (al rfl rfl rfl) ?_
         refine dy [3] [] (I e4.Status) rfl (aY rfl rfl) ?_
         refine dk 2 [112,111] [B (e4.Status==4),B (e4.Status==4)] ?_
         obtain⟨u19,hu19,h⟩:=lJ h
         have j19:Run dW 0 (cM (c_1,s_2,k_3) r) (.code ec::.code eb::[]) (sT 129 [(3,.hp 1 0 [] 2 0 0),(4,.hp 2 0 [] 5 0 0),(7,.hp 3 0 [] 4 0 0),(117,B u19)] [⟨0,2,[ac c_1]⟩,⟨0,5,[ak s_2]⟩,⟨0,4,[ae e4]⟩] 4):=by
          subst h
          exact rf [3,4,7,117] [1,2,3] (j16 :)
         replace h:=hu19
         clear hu19
         refine sp 112 h rfl ?_ ?_<;>intro h
         ·refine dy [2] [] (.hp 2 0 [] 5 0 4) rfl (al rfl rfl rfl) ?_
          refine dy [2] [] (B s_2.Over) rfl (aY rfl rfl) ?_
          refine dk 3 [117,116,115] [B (!s_2.Over),B (!s_2.Over),B (!s_2.Over)] ?_
          refine de 836 rfl rfl ?_
          subst h
          exact rf [3,4,7,117] [1,2,3] (j19 :)
         ·refine dk 5 [117,116,115,114,113] [B false,B false,.und,.und,.und] ?_
          refine de 836 rfl rfl ?_
          subst h
          exact rf [3,4,7,117] [1,2,3] (j19 :)
     ·refine dk 12 [96,95,94,93,92,91,90,89,88,87,86,85] [B false,B false,B false,.und,.und,.und,.und,.und,.und,.und,.und,.und] ?_
      refine dy [3] [] (.hp 3 0 [] 4 0 3) rfl (al rfl rfl rfl) ?_
      refine dy [3] [] (I e4.Status) rfl (aY rfl rfl) ?_
      refine dk 2 [100,99] [B (e4.Status==3),B (e4.Status==3)] ?_
      obtain⟨u20,hu20,h⟩:=lJ h
      have j20:Run dW 0 (cM (c_1,s_2,k_3) r) (.code ec::.code eb::[]) (sT 129 [(3,.hp 1 0 [] 2 0 0),(4,.hp 2 0 [] 5 0 0),(7,.hp 3 0 [] 4 0 0),(117,B u20)] [⟨0,2,[ac c_1]⟩,⟨0,5,[ak s_2]⟩,⟨0,4,[ae e4]⟩] 4):=by
       subst h
       exact rf [3,4,7,117] [1,2,3] (j13 :)
      replace h:=hu20
      clear hu20
      refine sp 100 h rfl ?_ ?_<;>intro h
      ·refine dy [3] [] (.hp 3 0 [] 4 0 2) rfl (al rfl rfl rfl) ?_
       refine dy [3] [] (I e4.Due) rfl (aY rfl rfl) ?_
       refine dy [2] [] (.hp 2 0 [] 5 0 0) rfl (al rfl rfl rfl) ?_
       refine dy [2] [] (I s_2.Day) rfl (aY rfl rfl) ?_
       refine dk 4 [108,107,106,105] [B (decide (e4.Due≥s_2.Day)),B (decide (e4.Due≥s_2.Day)),B (decide (e4.Due≥s_2.Day)),B (decide (e4.Due≥s_2.Day))] ?_
       obtain⟨u21,hu21,h⟩:=lJ h
       have j21:Run dW 0 (cM (c_1,s_2,k_3) r) (.code ec::.code eb::[]) (sT 129 [(3,.hp 1 0 [] 2 0 0),(4,.hp 2 0 [] 5 0 0),(7,.hp 3 0 [] 4 0 0),(117,B u21)] [⟨0,2,[ac c_1]⟩,⟨0,5,[ak s_2]⟩,⟨0,4,[ae e4]⟩] 4):=by
        subst h
        exact rf [3,4,7,117] [1,2,3] (j20 :)
       replace h:=hu21
       clear hu21
       refine sp 108 h rfl ?_ ?_<;>intro h
       ·refine dk 9 [117,116,115,114,113,112,111,110,109] [B true,.und,.und,.und,.und,.und,.und,.und,.und] ?_
        refine de 836 rfl rfl ?_
        subst h
        exact rf [3,4,7,117] [1,2,3] (j21 :)
       ·refine dy [3] [] (.hp 3 0 [] 4 0 3) rfl (al rfl rfl rfl) ?_
        refine dy [3] [] (I e4.Status) rfl (aY rfl rfl) ?_
        refine dk 2 [112,111] [B (e4.Status==4),B (e4.Status==4)] ?_
        obtain⟨u22,hu22,h⟩:=lJ h
        have j22:Run dW 0 (cM (c_1,s_2,k_3) r) (.code ec::.code eb::[]) (sT 129 [(3,.hp 1 0 [] 2 0 0),(4,.hp 2 0 [] 5 0 0),(7,.hp 3 0 [] 4 0 0),(117,B u22)] [⟨0,2,[ac c_1]⟩,⟨0,5,[ak s_2]⟩,⟨0,4,[ae e4]⟩] 4):=by
         subst h
         exact rf [3,4,7,117] [1,2,3] (j21 :)
        replace h:=hu22
        clear hu22
        refine sp 112 h rfl ?_ ?_<;>intro h
        ·refine dy [2] [] (.hp 2 0 [] 5 0 4) rfl (al rfl rfl rfl) ?_
         refine dy [2] [] (B s_2.Over) rfl (aY rfl rfl) ?_
         refine dk 3 [117,116,115] [B (!s_2.Over),B (!s_2.Over),B (!s_2.Over)] ?_
         refine de 836 rfl rfl ?_
         subst h
         exact rf [3,4,7,117] [1,2,3] (j22 :)
        ·refine dk 5 [117,116,115,114,113] [B false,B false,.und,.und,.und] ?_
         refine de 836 rfl rfl ?_
         subst h
         exact rf [3,4,7,117] [1,2,3] (j22 :)
      ·refine dk 8 [108,107,106,105,104,103,102,101] [B false,B false,B false,.und,.und,.und,.und,.und] ?_
       refine dy [3] [] (.hp 3 0 [] 4 0 3) rfl (al rfl rfl rfl) ?_
       refine dy [3] [] (I e4.Status) rfl (aY rfl rfl) ?_
       refine dk 2 [112,111] [B (e4.Status==4),B (e4.Status==4)] ?_
       obtain⟨u23,hu23,h⟩:=lJ h
       have j23:Run dW 0 (cM (c_1,s_2,k_3) r) (.code ec::.code eb::[]) (sT 129 [(3,.hp 1 0 [] 2 0 0),(4,.hp 2 0 [] 5 0 0),(7,.hp 3 0 [] 4 0 0),(117,B u23)] [⟨0,2,[ac c_1]⟩,⟨0,5,[ak s_2]⟩,⟨0,4,[ae e4]⟩] 4):=by
        subst h
        exact rf [3,4,7,117] [1,2,3] (j20 :)
       replace h:=hu23
       clear hu23
       refine sp 112 h rfl ?_ ?_<;>intro h
       ·refine dy [2] [] (.hp 2 0 [] 5 0 4) rfl (al rfl rfl rfl) ?_
        refine dy [2] [] (B s_2.Over) rfl (aY rfl rfl) ?_
        refine dk 3 [117,116,115] [B (!s_2.Over),B (!s_2.Over),B (!s_2.Over)] ?_
        refine de 836 rfl rfl ?_
        subst h
        exact rf [3,4,7,117] [1,2,3] (j23 :)
       ·refine dk 5 [117,116,115,114,113] [B false,B false,.und,.und,.und] ?_
        refine de 836 rfl rfl ?_
        subst h
        exact rf [3,4,7,117] [1,2,3] (j23 :)
   ·refine dk 12 [80,79,78,77,76,75,74,73,72,71,70,69] [B false,B false,.und,.und,.und,.und,.und,.und,.und,.und,.und,.und] ?_
    refine dy [3] [] (.hp 3 0 [] 4 0 3) rfl (al rfl rfl rfl) ?_
    refine dy [3] [] (I e4.Status) rfl (aY rfl rfl) ?_
    refine dk 2 [84,83] [B (e4.Status==1),B (e4.Status==1)] ?_
    obtain⟨u24,hu24,h⟩:=lJ h
    have j24:Run dW 0 (cM (c_1,s_2,k_3) r) (.code ec::.code eb::[]) (sT 129 [(3,.hp 1 0 [] 2 0 0),(4,.hp 2 0 [] 5 0 0),(7,.hp 3 0 [] 4 0 0),(117,B u24)] [⟨0,2,[ac c_1]⟩,⟨0,5,[ak s_2]⟩,⟨0,4,[ae e4]⟩] 4):=by
     exact rf [3,4,7,117] [1,2,3] (j7 _ (ai h) :)
    replace h:=hu24
    clear hu24
    refine sp 84 h rfl ?_ ?_<;>intro h
    ·refine dy [3] [] (.hp 3 0 [] 4 0 2) rfl (al rfl rfl rfl) ?_
     refine dy [3] [] (I e4.Due) rfl (aY rfl rfl) ?_
     refine dy [2] [] (.hp 2 0 [] 5 0 0) rfl (al rfl rfl rfl) ?_
     refine dy [2] [] (I s_2.Day) rfl (aY rfl rfl) ?_
     refine dk 2 [90,89] [B (decide (e4.Due<s_2.Day)),B (decide (e4.Due<s_2.Day))] ?_
     obtain⟨u25,hu25,h⟩:=lJ h
     have j25:Run dW 0 (cM (c_1,s_2,k_3) r) (.code ec::.code eb::[]) (sT 129 [(3,.hp 1 0 [] 2 0 0),(4,.hp 2 0 [] 5 0 0),(7,.hp 3 0 [] 4 0 0),(117,B u25)] [⟨0,2,[ac c_1]⟩,⟨0,5,[ak s_2]⟩,⟨0,4,[ae e4]⟩] 4):=by
      subst h
      exact rf [3,4,7,117] [1,2,3] (j24 :)
     replace h:=hu25
     clear hu25
     refine sp 90 h rfl ?_ ?_<;>intro h
     ·refine dk 27 [117,116,115,114,113,112,111,110,109,108,107,106,105,104,103,102,101,100,99,98,97,96,95,94,93,92,91] [B true,.und,.und,.und,.und,.und,.und,.und,.und,B true,B true,.und,.und,.und,.und,.und,.und,.und,.und,.und,.und,B true,B true,B true,B true,.und,.und] ?_
      refine de 836 rfl rfl ?_
      subst h
      exact rf [3,4,7,117] [1,2,3] (j25 :)
     ·refine dy [2] [] (.hp 2 0 [] 5 0 4) rfl (al rfl rfl rfl) ?_
      refine dy [2] [] (B s_2.Over) rfl (aY rfl rfl) ?_
      refine dk 4 [96,95,94,93] [B s_2.Over,B s_2.Over,B s_2.Over,B s_2.Over] ?_
      obtain⟨u26,hu26,h⟩:=lJ h
      have j26:Run dW 0 (cM (c_1,s_2,k_3) r) (.code ec::.code eb::[]) (sT 129 [(3,.hp 1 0 [] 2 0 0),(4,.hp 2 0 [] 5 0 0),(7,.hp 3 0 [] 4 0 0),(117,B u26)] [⟨0,2,[ac c_1]⟩,⟨0,5,[ak s_2]⟩,⟨0,4,[ae e4]⟩] 4):=by
       subst h
       exact rf [3,4,7,117] [1,2,3] (j25 :)
      replace h:=hu26
      clear hu26
      refine sp 96 h rfl ?_ ?_<;>intro h
      ·refine dk 21 [117,116,115,114,113,112,111,110,109,108,107,106,105,104,103,102,101,100,99,98,97] [B true,.und,.und,.und,.und,.und,.und,.und,.und,B true,B true,.und,.und,.und,.und,.und,.und,.und,.und,.und,.und] ?_
       refine de 836 rfl rfl ?_
       subst h
       exact rf [3,4,7,117] [1,2,3] (j26 :)
      ·refine dy [3] [] (.hp 3 0 [] 4 0 3) rfl (al rfl rfl rfl) ?_
       refine dy [3] [] (I e4.Status) rfl (aY rfl rfl) ?_
       refine dk 2 [100,99] [B (e4.Status==3),B (e4.Status==3)] ?_
       obtain⟨u27,hu27,h⟩:=lJ h
       have j27:Run dW 0 (cM (c_1,s_2,k_3) r) (.code ec::.code eb::[]) (sT 129 [(3,.hp 1 0 [] 2 0 0),(4,.hp 2 0 [] 5 0 0),(7,.hp 3 0 [] 4 0 0),(117,B u27)] [⟨0,2,[ac c_1]⟩,⟨0,5,[ak s_2]⟩,⟨0,4,[ae e4]⟩] 4):=by
        subst h
        exact rf [3,4,7,117] [1,2,3] (j26 :)
       replace h:=hu27
       clear hu27
       refine sp 100 h rfl ?_ ?_<;>intro h
       ·refine dy [3] [] (.hp 3 0 [] 4 0 2) rfl (al rfl rfl rfl) ?_
        refine dy [3] [] (I e4.Due) rfl (aY rfl rfl) ?_
        refine dy [2] [] (.hp 2 0 [] 5 0 0) rfl (al rfl rfl rfl) ?_
        refine dy [2] [] (I s_2.Day) rfl (aY rfl rfl) ?_
        refine dk 4 [108,107,106,105] [B (decide (e4.Due≥s_2.Day)),B (decide (e4.Due≥s_2.Day)),B (decide (e4.Due≥s_2.Day)),B (decide (e4.Due≥s_2.Day))] ?_
        obtain⟨u28,hu28,h⟩:=lJ h
        have j28:Run dW 0 (cM (c_1,s_2,k_3) r) (.code ec::.code eb::[]) (sT 129 [(3,.hp 1 0 [] 2 0 0),(4,.hp 2 0 [] 5 0 0),(7,.hp 3 0 [] 4 0 0),(117,B u28)] [⟨0,2,[ac c_1]⟩,⟨0,5,[ak s_2]⟩,⟨0,4,[ae e4]⟩] 4):=by
         subst h
         exact rf [3,4,7,117] [1,2,3] (j27 :)
        replace h:=hu28
        clear hu28
        refine sp 108 h rfl ?_ ?_<;>intro h
        ·refine dk 9 [117,116,115,114,113,112,111,110,109] [B true,.und,.und,.und,.und,.und,.und,.und,.und] ?_
         refine de 836 rfl rfl ?_
         subst h
         exact rf [3,4,7,117] [1,2,3] (j28 :)
        ·refine dy [3] [] (.hp 3 0 [] 4 0 3) rfl (al rfl rfl rfl) ?_
         refine dy [3] [] (I e4.Status) rfl (aY rfl rfl) ?_
         refine dk 2 [112,111] [B (e4.Status==4),B (e4.Status==4)] ?_
         obtain⟨u29,hu29,h⟩:=lJ h
         have j29:Run dW 0 (cM (c_1,s_2,k_3) r) (.code ec::.code eb::[]) (sT 129 [(3,.hp 1 0 [] 2 0 0),(4,.hp 2 0 [] 5 0 0),(7,.hp 3 0 [] 4 0 0),(117,B u29)] [⟨0,2,[ac c_1]⟩,⟨0,5,[ak s_2]⟩,⟨0,4,[ae e4]⟩] 4):=by
          subst h
          exact rf [3,4,7,117] [1,2,3] (j28 :)
         replace h:=hu29
         clear hu29
         refine sp 112 h rfl ?_ ?_<;>intro h
         ·refine dy [2] [] (.hp 2 0 [] 5 0 4) rfl (al rfl rfl rfl) ?_
          refine dy [2] [] (B s_2.Over) rfl (aY rfl rfl) ?_
          refine dk 3 [117,116,115] [B (!s_2.Over),B (!s_2.Over),B (!s_2.Over)] ?_
          refine de 836 rfl rfl ?_
          subst h
          exact rf [3,4,7,117] [1,2,3] (j29 :)
         ·refine dk 5 [117,116,115,114,113] [B false,B false,.und,.und,.und] ?_
          refine de 836 rfl rfl ?_
          subst h
          exact rf [3,4,7,117] [1,2,3] (j29 :)
       ·refine dk 8 [108,107,106,105,104,103,102,101] [B false,B false,B false,.und,.und,.und,.und,.und] ?_
        refine dy [3] [] (.hp 3 0 [] 4 0 3) rfl (al rfl rfl rfl) ?_
        refine dy [3] [] (I e4.Status) rfl (aY rfl rfl) ?_
        refine dk 2 [112,111] [B (e4.Status==4),B (e4.Status==4)] ?_
        obtain⟨u30,hu30,h⟩:=lJ h
        have j30:Run dW 0 (cM (c_1,s_2,k_3) r) (.code ec::.code eb::[]) (sT 129 [(3,.hp 1 0 [] 2 0 0),(4,.hp 2 0 [] 5 0 0),(7,.hp 3 0 [] 4 0 0),(117,B u30)] [⟨0,2,[ac c_1]⟩,⟨0,5,[ak s_2]⟩,⟨0,4,[ae e4]⟩] 4):=by
         subst h
         exact rf [3,4,7,117] [1,2,3] (j27 :)
        replace h:=hu30
        clear hu30
        refine sp 112 h rfl ?_ ?_<;>intro h
        ·refine dy [2] [] (.hp 2 0 [] 5 0 4) rfl (al rfl rfl rfl) ?_
         refine dy [2] [] (B s_2.Over) rfl (aY rfl rfl) ?_
         refine dk 3 [117,116,115] [B (!s_2.Over),B (!s_2.Over),B (!s_2.Over)] ?_
         refine de 836 rfl rfl ?_
         subst h
         exact rf [3,4,7,117] [1,2,3] (j30 :)
        ·refine dk 5 [117,116,115,114,113] [B false,B false,.und,.und,.und] ?_
         refine de 836 rfl rfl ?_
         subst h
         exact rf [3,4,7,117] [1,2,3] (j30 :)
    ·refine dk 12 [96,95,94,93,92,91,90,89,88,87,86,85] [B false,B false,B false,.und,.und,.und,.und,.und,.und,.und,.und,.und] ?_
     refine dy [3] [] (.hp 3 0 [] 4 0 3) rfl (al rfl rfl rfl) ?_
     refine dy [3] [] (I e4.Status) rfl (aY rfl rfl) ?_
     refine dk 2 [100,99] [B (e4.Status==3),B (e4.Status==3)] ?_
     obtain⟨u31,hu31,h⟩:=lJ h
     have j31:Run dW 0 (cM (c_1,s_2,k_3) r) (.code ec::.code eb::[]) (sT 129 [(3,.hp 1 0 [] 2 0 0),(4,.hp 2 0 [] 5 0 0),(7,.hp 3 0 [] 4 0 0),(117,B u31)] [⟨0,2,[ac c_1]⟩,⟨0,5,[ak s_2]⟩,⟨0,4,[ae e4]⟩] 4):=by
      subst h
      exact rf [3,4,7,117] [1,2,3] (j24 :)
     replace h:=hu31
     clear hu31
     refine sp 100 h rfl ?_ ?_<;>intro h
     ·refine dy [3] [] (.hp 3 0 [] 4 0 2) rfl (al rfl rfl rfl) ?_
      refine dy [3] [] (I e4.Due) rfl (aY rfl rfl) ?_
      refine dy [2] [] (.hp 2 0 [] 5 0 0) rfl (al rfl rfl rfl) ?_
      refine dy [2] [] (I s_2.Day) rfl (aY rfl rfl) ?_
      refine dk 4 [108,107,106,105] [B (decide (e4.Due≥s_2.Day)),B (decide (e4.Due≥s_2.Day)),B (decide (e4.Due≥s_2.Day)),B (decide (e4.Due≥s_2.Day))] ?_
      obtain⟨u32,hu32,h⟩:=lJ h
      have j32:Run dW 0 (cM (c_1,s_2,k_3) r) (.code ec::.code eb::[]) (sT 129 [(3,.hp 1 0 [] 2 0 0),(4,.hp 2 0 [] 5 0 0),(7,.hp 3 0 [] 4 0 0),(117,B u32)] [⟨0,2,[ac c_1]⟩,⟨0,5,[ak s_2]⟩,⟨0,4,[ae e4]⟩] 4):=by
       subst h
       exact rf [3,4,7,117] [1,2,3] (j31 :)
      replace h:=hu32
      clear hu32
      refine sp 108 h rfl ?_ ?_<;>intro h
      ·refine dk 9 [117,116,115,114,113,112,111,110,109] [B true,.und,.und,.und,.und,.und,.und,.und,.und] ?_
       refine de 836 rfl rfl ?_
       subst h
       exact rf [3,4,7,117] [1,2,3] (j32 :)
      ·refine dy [3] [] (.hp 3 0 [] 4 0 3) rfl (al rfl rfl rfl) ?_
       refine dy [3] [] (I e4.Status) rfl (aY rfl rfl) ?_
       refine dk 2 [112,111] [B (e4.Status==4),B (e4.Status==4)] ?_
       obtain⟨u33,hu33,h⟩:=lJ h
       have j33:Run dW 0 (cM (c_1,s_2,k_3) r) (.code ec::.code eb::[]) (sT 129 [(3,.hp 1 0 [] 2 0 0),(4,.hp 2 0 [] 5 0 0),(7,.hp 3 0 [] 4 0 0),(117,B u33)] [⟨0,2,[ac c_1]⟩,⟨0,5,[ak s_2]⟩,⟨0,4,[ae e4]⟩] 4):=by
        subst h
        exact rf [3,4,7,117] [1,2,3] (j32 :)
       replace h:=hu33
       clear hu33
       refine sp 112 h rfl ?_ ?_<;>intro h
       ·refine dy [2] [] (.hp 2 0 [] 5 0 4) rfl (al rfl rfl rfl) ?_
        refine dy [2] [] (B s_2.Over) rfl (aY rfl rfl) ?_
        refine dk 3 [117,116,115] [B (!s_2.Over),B (!s_2.Over),B (!s_2.Over)] ?_
        refine de 836 rfl rfl ?_
        subst h
        exact rf [3,4,7,117] [1,2,3] (j33 :)
       ·refine dk 5 [117,116,115,114,113] [B false,B false,.und,.und,.und] ?_
        refine de 836 rfl rfl ?_
        subst h
        exact rf [3,4,7,117] [1,2,3] (j33 :)
     ·refine dk 8 [108,107,106,105,104,103,102,101] [B false,B false,B false,.und,.und,.und,.und,.und] ?_
      refine dy [3] [] (.hp 3 0 [] 4 0 3) rfl (al rfl rfl rfl) ?_
      refine dy [3] [] (I e4.Status) rfl (aY rfl rfl) ?_
      refine dk 2 [112,111] [B (e4.Status==4),B (e4.Status==4)] ?_
      obtain⟨u34,hu34,h⟩:=lJ h
      have j34:Run dW 0 (cM (c_1,s_2,k_3) r) (.code ec::.code eb::[]) (sT 129 [(3,.hp 1 0 [] 2 0 0),(4,.hp 2 0 [] 5 0 0),(7,.hp 3 0 [] 4 0 0),(117,B u34)] [⟨0,2,[ac c_1]⟩,⟨0,5,[ak s_2]⟩,⟨0,4,[ae e4]⟩] 4):=by
       subst h
       exact rf [3,4,7,117] [1,2,3] (j31 :)
      replace h:=hu34
      clear hu34
      refine sp 112 h rfl ?_ ?_<;>intro h
      ·refine dy [2] [] (.hp 2 0 [] 5 0 4) rfl (al rfl rfl rfl) ?_
       refine dy [2] [] (B s_2.Over) rfl (aY rfl rfl) ?_
       refine dk 3 [117,116,115] [B (!s_2.Over),B (!s_2.Over),B (!s_2.Over)] ?_
       refine de 836 rfl rfl ?_
       subst h
       exact rf [3,4,7,117] [1,2,3] (j34 :)
      ·refine dk 5 [117,116,115,114,113] [B false,B false,.und,.und,.und] ?_
       refine de 836 rfl rfl ?_
       subst h
       exact rf [3,4,7,117] [1,2,3] (j34 :)
 have r6:∀r',y6=.inl r'→∀st,cM (c_1,s_2,k_3) r' st→(cM (c_1,s_2,k_3) r) st:=fun r' e st hq=>by rw[hy61 r' e] at hq;exact hq
 replace h:=hy6
 refine sp 21 h rfl ?_ ?_<;>intro h
 ·refine dk 44 [65,64,63,62,61,60,59,58,57,56,55,54,53,52,51,50,49,48,47,46,45,44,43,42,41,40,39,38,37,36,35,34,33,32,31,30,29,28,27,26,25,24,23,22] [B true,.und,.und,.und,.und,B true,B true,.und,.und,.und,.und,B true,B true,.und,.und,.und,.und,.und,.und,.und,.und,.und,.und,.und,.und,.und,B true,B true,.und,.und,.und,.und,.und,.und,B true,B true,.und,.und,.und,.und,.und,.und,.und,.und] ?_
  refine de 1009 rfl rfl ?_
  exact rf [2,3,4,7,65] [1,17,129] (j6 _ (ai h) :)
 ·refine dy [1] [] (.hp 1 0 [] 2 0 1) rfl (al rfl rfl rfl) ?_
  refine dy [1] [] (.isl false (c_1.Clauses.map aj)) rfl (aY rfl rfl) ?_
  refine dy [129] [] (.hp 129 0 [] 4 0 0) rfl (al rfl rfl rfl) ?_
  refine dy [129] [] (I e4.Clause) rfl (aY rfl rfl) ?_
  obtain⟨e35,he35,h⟩:=bS h
  refine dy [] [] (.iptr (ao e35) 0) rfl (au rfl rfl rfl (aV rfl rfl rfl rfl he35)) ?_
  refine dy [] [] (.iptr (ao e35) 1) rfl (al rfl rfl rfl) ?_
  refine dy [] [] (I e35.Kind) rfl (aY rfl rfl) ?_
  refine dk 3 [31,30,29] [B (e35.Kind != 1),B (e35.Kind != 1),B (e35.Kind != 1)] ?_
  obtain⟨y36,hy36,hy361,hy362⟩:=bL h
  have j36:∀u36,y36=.inr u36→Run dW 0 (cM (c_1,s_2,k_3) r) (.code sC::.code nS::[]) (sT 129 [(2,I k_3),(3,.hp 1 0 [] 2 0 0),(4,.hp 2 0 [] 5 0 0),(7,.hp 3 0 [] 4 0 0),(65,B u36)] [⟨0,2,[ac c_1]⟩,⟨0,5,[ak s_2]⟩,⟨0,4,[ae e4]⟩] 4):=by
   intro u36 hu
   replace h:=hy362 u36 hu
   exact rf [2,3,4,7,65] [1,2,3] (j6 _ (ai h) :)
  have r36:∀r',y36=.inl r'→∀st,cM (c_1,s_2,k_3) r' st→(cM (c_1,s_2,k_3) r) st:=fun r' e st hq=>r6 r' (hy361 r' e) st hq
  replace h:=hy36
  refine sp 31 h rfl ?_ ?_<;>intro h
  ·refine dk 34 [65,64,63,62,61,60,59,58,57,56,55,54,53,52,51,50,49,48,47,46,45,44,43,42,41,40,39,38,37,36,35,34,33,32] [B true,.und,.und,.und,.und,B true,B true,.und,.und,.und,.und,B true,B true,.und,.und,.und,.und,.und,.und,.und,.und,.und,.und,.und,.und,.und,B true,B true,.und,.und,.und,.und,.und,.und] ?_
   refine de 1009 rfl rfl ?_
   exact rf [2,3,4,7,65] [1,17,129] (j36 _ (ai h) :)
  ·refine dy [129] [] (.hp 129 0 [] 4 0 1) rfl (al rfl rfl rfl) ?_
   refine dy [129] [] (I e4.Since) rfl (aY rfl rfl) ?_
   refine dy [17] [] (.hp 17 0 [] 5 0 0) rfl (al rfl rfl rfl) ?_
   refine dy [17] [] (I s_2.Day) rfl (aY rfl rfl) ?_
   obtain⟨r37,hr37,h⟩:=bS h
   refine dy [] [] (B r37) rfl (cP (dY hr37)) ?_ (dE rfl rfl rfl rfl (bw (bR rfl) (bw (bR rfl) (bw (bR rfl) dB))) (dY hr37) (.inr rfl) rfl)
   refine dk 3 [39,38,37] [B (!r37),B (!r37),B (!r37)] ?_
   obtain⟨y38,hy38,hy381,hy382⟩:=bL h
   have j38:∀u38,y38=.inr u38→Run dW 0 (cM (c_1,s_2,k_3) r) (.code sC::.code nS::[]) (sT 129 [(2,I k_3),(3,.hp 1 0 [] 2 0 0),(4,.hp 2 0 [] 5 0 0),(7,.hp 3 0 [] 4 0 0),(65,B u38)] [⟨0,2,[ac c_1]⟩,⟨0,5,[ak s_2]⟩,⟨0,4,[ae e4]⟩] 4):=by
    intro u38 hu
    replace h:=hy382 u38 hu
    exact rf [2,3,4,7,65] [1,2,3] (j36 _ (ai h) :)
   have r38:∀r',y38=.inl r'→∀st,cM (c_1,s_2,k_3) r' st→(cM (c_1,s_2,k_3) r) st:=fun r' e st hq=>r36 r' (hy381 r' e) st hq
   replace h:=hy38
   refine sp 39 h rfl ?_ ?_<;>intro h
   ·refine dk 26 [65,64,63,62,61,60,59,58,57,56,55,54,53,52,51,50,49,48,47,46,45,44,43,42,41,40] [B true,.und,.und,.und,.und,B true,B true,.und,.und,.und,.und,B true,B true,.und,.und,.und,.und,.und,.und,.und,.und,.und,.und,.und,.und,.und] ?_
    refine de 1009 rfl rfl ?_
    exact rf [2,3,4,7,65] [1,17,129] (j38 _ (ai h) :)
   ·refine dy [129] [] (.hp 129 0 [] 4 0 2) rfl (al rfl rfl rfl) ?_
    refine dy [129] [] (I e4.Due) rfl (aY rfl rfl) ?_
    refine dy [129] [] (.hp 129 0 [] 4 0 1) rfl (al rfl rfl rfl) ?_
    refine dy [129] [] (I e4.Since) rfl (aY rfl rfl) ?_
    refine dy [1] [] (.hp 1 0 [] 2 0 1) rfl (al rfl rfl rfl) ?_
    refine dy [1] [] (.isl false (c_1.Clauses.map aj)) rfl (aY rfl rfl) ?_
    refine dy [129] [] (.hp 129 0 [] 4 0 0) rfl (al rfl rfl rfl) ?_
    refine dy [129] [] (I e4.Clause) rfl (aY rfl rfl) ?_
    obtain⟨e39,he39,h⟩:=bS h
    refine dy [] [] (.iptr (ao e39) 0) rfl (au rfl rfl rfl (aV rfl rfl rfl rfl he39)) ?_
    refine dy [] [] (.iptr (ao e39) 10) rfl (al rfl rfl rfl) ?_
    refine dy [] [] (I e39.Within) rfl (aY rfl rfl) ?_
    refine dk 4 [54,53,52,51] [B (e4.Due != (az (e4.Since+e39.Within))),B (e4.Due != (az (e4.Since+e39.Within))),B (e4.Due != (az (e4.Since+e39.Within))),I (az (e4.Since+e39.Within))] ?_
    obtain⟨y40,hy40,hy401,hy402⟩:=bL h
    have j40:∀u40,y40=.inr u40→Run dW 0 (cM (c_1,s_2,k_3) r) (.code sC::.code nS::[]) (sT 129 [(2,I k_3),(3,.hp 1 0 [] 2 0 0),(4,.hp 2 0 [] 5 0 0),(7,.hp 3 0 [] 4 0 0),(65,B u40)] [⟨0,2,[ac c_1]⟩,⟨0,5,[ak s_2]⟩,⟨0,4,[ae e4]⟩] 4):=by
     intro u40 hu
     replace h:=hy402 u40 hu
     exact rf [2,3,4,7,65] [1,2,3] (j38 _ (ai h) :)
    have r40:∀r',y40=.inl r'→∀st,cM (c_1,s_2,k_3) r' st→(cM (c_1,s_2,k_3) r) st:=fun r' e st hq=>r38 r' (hy401 r' e) st hq
    replace h:=hy40
    refine sp 54 h rfl ?_ ?_<;>intro h
    ·refine dk 11 [65,64,63,62,61,60,59,58,57,56,55] [B true,.und,.und,.und,.und,B true,B true,.und,.und,.und,.und] ?_
     refine de 1009 rfl rfl ?_
     exact rf [2,3,4,7,65] [1,17,129] (j40 _ (ai h) :)
    ·refine dy [129] [] (.hp 129 0 [] 4 0 2) rfl (al rfl rfl rfl) ?_
     refine dy [129] [] (I e4.Due) rfl (aY rfl rfl) ?_
     obtain⟨r41,hr41,h⟩:=bS h
     refine dy [] [] (B r41) rfl (cP (Dz hr41)) ?_ (dE rfl rfl rfl rfl (bw (bR rfl) dB) (Dz hr41) (.inr rfl) rfl)
     refine dk 3 [60,59,58] [B (!r41),B (!r41),B (!r41)] ?_
     obtain⟨y42,hy42,hy421,hy422⟩:=bL h
     have j42:∀u42,y42=.inr u42→Run dW 0 (cM (c_1,s_2,k_3) r) (.code sC::.code nS::[]) (sT 129 [(2,I k_3),(3,.hp 1 0 [] 2 0 0),(4,.hp 2 0 [] 5 0 0),(7,.hp 3 0 [] 4 0 0),(65,B u42)] [⟨0,2,[ac c_1]⟩,⟨0,5,[ak s_2]⟩,⟨0,4,[ae e4]⟩] 4):=by
      intro u42 hu
      replace h:=hy422 u42 hu
      exact rf [2,3,4,7,65] [1,2,3] (j40 _ (ai h) :)
     have r42:∀r',y42=.inl r'→∀st,cM (c_1,s_2,k_3) r' st→(cM (c_1,s_2,k_3) r) st:=fun r' e st hq=>r40 r' (hy421 r' e) st hq
     replace h:=hy42
     refine sp 60 h rfl ?_ ?_<;>intro h
     ·refine dk 5 [65,64,63,62,61] [B true,.und,.und,.und,.und] ?_
      refine de 1009 rfl rfl ?_
      exact rf [2,3,4,7,65] [1,17,129] (j42 _ (ai h) :)
     ·refine dy [129] [] (.hp 129 0 [] 4 0 3) rfl (al rfl rfl rfl) ?_
      refine dy [129] [] (I e4.Status) rfl (aY rfl rfl) ?_
      obtain⟨r43,hr43,h⟩:=bS h
      refine dy [] [] (B r43) rfl (cP (dY hr43)) ?_ (dE rfl rfl rfl rfl (bw (bR rfl) (bw (bR rfl) (bw (bR rfl) dB))) (dY hr43) (.inr rfl) rfl)
      refine dk 2 [65,64] [B (!r43),B (!r43)] ?_
      refine de 1009 rfl rfl ?_
      exact rf [2,3,4,7,65] [1,17,129] (j42 _ (ai h) :)
theorem RI {G:bU}:bQ G 124 AO:=gT 3 0 (aJ fF (aJ Rv (aJ RH (aJ vt bv)))) ca Tryz.func124 (fun a r h=>US a.1 a.2.1 a.2.2 r h)
def Dt:Int→List V:=oA I
def Du (r:Bool):V×List V:=(B r,[])
noncomputable def Al :=ba [false] Dt Du fun x=>Ak x
theorem ZT {x_1:Int}{r}(h:Ak x_1=some r):Al.F (Dt x_1)=some (Du r):=aH (aI bC) h
noncomputable def ZV :=aF Tryz.f125
noncomputable def Q0 :=b9 [(89,eV)]
def ZU (x:Int)(r:Bool):St→Prop:=QF Q0 Tryz.f125 [false] (Dt x) (Du r)
theorem Uq (x_1:Int)(r:Bool)(h:Ak x_1=some r):bp Q0 Tryz.f125 [false] 0 (Dt x_1) (Du r):=by
 show Run _ _ (ZU x_1 r) [.code ZV] _
 refine rI 5 [(0,I x_1)] [] 1 ?_
 unfold Ak at h
 refine cq 7 [3] [I x_1] 33 ?_
 obtain⟨r2,hr2,h⟩:=bS h
 refine oq 49 (B r2) rfl (cP (dY hr2)) ?_
 refine cq 2 [2] [B r2] 65 ?_
 obtain rfl:=sI h
 exact rP [B r2]
theorem Q1 {G:bU}:bQ G 125 Al:=gT 1 0 (aJ fF bv) ca Tryz.func125 (fun a r h=>Uq a r h)
def Dv:(List Int)→List V:=oA (eW I)
def Dw (r:Int):V×List V:=(I r,[])
noncomputable def Am :=ba [false] Dv Dw fun x=>tC x
theorem ZW {ar:List Int}{r}(h:tC ar=some r):Am.F (Dv ar)=some (Dw r):=aH (aI (bu bC)) h
noncomputable def Q3 :=aF Tryz.f126
noncomputable def Ju :=b9 []
def Q2 (x:(List Int))(r:Int):St→Prop:=QF Ju Tryz.f126 [false] (Dv x) (Dw r)
theorem LI (ar:List Int):cW Ju 0 (Q2 ar) (cL (cL (cR (cL (cR (cR Q3)))))) 0 (jP ar) (fun u=>(sT 18 [(3,I u)] [] 1)) fun x2=>(sT 18 [(0,.isl false (ar.map I)),(3,I x2.1),(4,I x2.2)] [] 1):=eF (xO ar) fun {Q K} hK self ih x2 y h hr hn=>by
 unfold kq at h
 refine cq 5 [5,6] [I x2.2,.isl false (ar.map I)] 33 ?_
 refine oq 49 (I (len ar)) rfl (bq rfl rfl rfl (bB rfl)) ?_
 refine cq 2 [8] [B (decide (x2.2<(len ar)))] 65 ?_
 refine sq h ?_ ?_<;>intro h
 ·refine aq 1 ?_
  refine cq 6 [11,12,13] [I x2.1,.isl false (ar.map I),I x2.2] 113 ?_
  obtain⟨e3,he3,h⟩:=bS h
  refine oq 129 (.iptr (I e3) 0) rfl (au rfl rfl rfl (aV rfl rfl rfl rfl he3)) ?_
  refine cq 10 [3,4] [I (az (x2.1+e3)),I (az (x2.2+1))] 225 ?_
  refine dP ?_
  exact rf [0,3,4] [] (ih _ _ h hr hn :)
 ·refine aq 1 ?_
  exact rf [3] [] (hn _ (ai h) :) (hk:=hK)
theorem Ur (ar:List Int)(r:Int)(h:tC ar=some r):bp Ju Tryz.f126 [false] 0 (Dv ar) (Dw r):=by
 show Run _ _ (Q2 ar r) [.code Q3] _
 refine rI 18 [(0,.isl false (ar.map I))] [] 1 ?_
 unfold tC at h
 refine cq 14 [3,4] [I (0),I (0)] 49 ?_
 obtain⟨y4,hy4,hy41,hy42⟩:=bJ h
 refine ci rfl ?_
 refine rf [0,3,4] [] (LI ar rfl (0,0) _ hy4 (fun r' e st hq=>by rw[hy41 r' e] at hq;exact hq) fun u4 hu=>?_)
 replace h:=hy42 u4 hu
 refine cq 5 [2] [I u4] 33 ?_
 obtain rfl:=sI h
 exact rP [I u4]
theorem Q4 {G:bU}:bQ G 126 Am:=gT 1 0 bv ca Tryz.func126 (fun a r h=>Ur a r h)
def Ep:(Contract×State)→List V:=cA aO (oA b7)
def Eq (r:Bool):V×List V:=(B r,[])
noncomputable def AP :=ba [false,false] Ep Eq fun x=>tI x.1 x.2
theorem aab {c_1:Contract}{s_2:State}{r}(h:tI c_1 s_2=some r):AP.F (Ep (c_1,s_2))=some (Eq r):=aH (aN aZ (aI cY)) h
noncomputable def jG :=aF Tryz.f75
noncomputable def mR :=b9 [(43,AH),(93,tH),(123,pZ),(124,AO),(125,Al),(126,Am),(76,pX),(122,Ao)]
def jF (x:Contract×State)(r:Bool):St→Prop:=QF mR Tryz.f75 [false,false] (Ep x) (Eq r)
theorem LW (c_1:Contract)(s_2:State)(r5:(List aa)):cW mR 0 (jF (c_1,s_2)) (cL (cL (cR (cL (cR (cR (cR jG))))))) 0 (sD c_1 s_2 r5) (fun u=>(sT 86 [(2,.hp 1 0 [] 2 0 0),(3,.hp 2 0 [] 5 0 0)] [⟨0,2,[ac c_1]⟩,⟨0,5,[ak s_2]⟩] 3)) fun x6=>(sT 86 [(2,.hp 1 0 [] 2 0 0),(3,.hp 2 0 [] 5 0 0),(5,.hs 3 0 [] 1 0 (r5.map str).length),(6,I x6)] [⟨0,2,[ac c_1]⟩,⟨0,5,[ak s_2]⟩,⟨0,1,r5.map str⟩] 4):=eF (ye c_1 s_2 r5) fun {Q K} hK self ih x6 y h hr hn=>by
 unfold mu at h
 refine cq 6 [41,43] [I x6,.isl false (s_2.Facts.map str)] 52 ?_
 refine oq 68 (I (len s_2.Facts)) rfl (bq rfl rfl rfl (bB rfl)) ?_
 refine cq 2 [45] [B (decide (x6<(len s_2.Facts)))] 84 ?_
 refine sq h ?_ ?_<;>intro h
 ·refine aq 1 ?_
  refine cq 8 [48,50,51] [.hs 3 0 [] 1 0 (r5.map str).length,.isl false (s_2.Facts.map str),I x6] 148 ?_
  obtain⟨e7,he7,h⟩:=bS h
  refine oq 164 (.iptr (str e7) 0) rfl (au rfl rfl rfl (aV rfl rfl rfl rfl he7)) ?_
  refine cq 1 [53] [str e7] 180 ?_
  obtain⟨r8,hr8,h⟩:=bS h
  refine oq 196 (B r8) rfl (cd rfl rfl (cO rfl rfl rfl (bw (WN rfl rfl (fj (f:=str) (g:=str) (xs:=r5) rfl rfl (ce fh))) (bw (bR rfl) dB)) (DK hr8) (.inl rfl) d9 rfl rfl rfl)) ?_
  refine cq 2 [55] [B (!r8)] 212 ?_
  refine sq h ?_ ?_<;>intro h
  ·refine cq 4 [4] [B false] 228 ?_
   exact b8 rfl (hr _ (ai h) _ (qp [B false]))
  ·refine aq 1 ?_
   refine cq 6 [6] [I (az (x6+1))] 260 ?_
   refine dP ?_
   exact rf [2,3,5,6] [1,2,3] (ih _ _ h hr hn :)
 ·refine aq 1 ?_
  exact rf [2,3] [1,2] (hn _ (ai h) :) (hk:=hK)
theorem LX (c_1:Contract)(s_2:State):cW mR 0 (jF (c_1,s_2)) (cL (cL (cR (cL (cR (cR (cR (cR jG)))))))) 2 (mw c_1 s_2) (fun u=>(sT 86 [(3,.hp 1 0 [] 5 0 0)] [⟨0,5,[ak s_2]⟩] 2)) fun x10=>(sT 86 [(2,.hp 1 0 [] 2 0 0),(3,.hp 2 0 [] 5 0 0),(7,I x10)] [⟨0,2,[ac c_1]⟩,⟨0,5,[ak s_2]⟩] 3):=eF (yf c_1 s_2) fun {Q K} hK self ih x10 y h hr hn=>by
 unfold kB at h
 refine cq 6 [56,58] [I x10,.isl false (s_2.Duties.map ae)] 51 ?_
 refine oq 67 (I (len s_2.Duties)) rfl (bq rfl rfl rfl (bB rfl)) ?_
 refine cq 2 [60] [B (decide (x10<(len s_2.Duties)))] 83 ?_
 refine sq h ?_ ?_<;>intro h
 ·refine aq 1 ?_
  refine cq 7 [63,64,65] [ac c_1,ak s_2,I x10] 131 ?_
  obtain⟨r11,hr11,h⟩:=bS h
  refine oq 147 (B r11) rfl (cP (aaa hr11)) ?_
  refine cq 2 [67] [B (!r11)] 163 ?_
  refine sq h ?_ ?_<;>intro h
  ·refine cq 4 [4] [B false] 179 ?_
   exact b8 rfl (hr _ (ai h) _ (qp [B false]))
  ·refine aq 1 ?_
   refine cq 6 [7] [I (az (x10+1))] 211 ?_
   refine dP ?_
   exact rf [2,3,7] [1,2] (ih _ _ h hr hn :)
 ·refine aq 1 ?_
  exact rf [3] [2] (hn _ (ai h) :) (hk:=hK)
theorem LY (c_1:Contract)(s_2:State):cW mR 0 (jF (c_1,s_2)) (cL (cL (cR (cL (cR (cR (cR (cR (cR jG))))))))) 4 (sE c_1 s_2) (fun u=>(sT 86 [(3,.hp 1 0 [] 5 0 0)] [⟨0,5,[ak s_2]⟩] 2)) fun x13=>(sT 86 [(3,.hp 1 0 [] 5 0 0),(8,I x13)] [⟨0,5,[ak s_2]⟩] 2):=eF (yg c_1 s_2) fun {Q K} hK self ih x13 y h hr hn=>by
 unfold my at h
 refine cq 6 [68,70] [I x13,.isl false (s_2.Balances.map I)] 50 ?_
 refine oq 66 (I (len s_2.Balances)) rfl (bq rfl rfl rfl (bB rfl)) ?_
 refine cq 2 [72] [B (decide (x13<(len s_2.Balances)))] 82 ?_
 refine sq h ?_ ?_<;>intro h
 ·refine aq 1 ?_
  refine cq 7 [76,77] [.isl false (s_2.Balances.map I),I x13] 130 ?_
  obtain⟨e14,he14,h⟩:=bS h
  refine oq 146 (.iptr (I e14) 0) rfl (au rfl rfl rfl (aV rfl rfl rfl rfl he14)) ?_
  refine cq 1 [79] [I e14] 162 ?_
  obtain⟨r15,hr15,h⟩:=bS h
  refine oq 178 (B r15) rfl (cP (ZT hr15)) ?_
  refine cq 2 [81] [B (!r15)] 194 ?_
  refine sq h ?_ ?_<;>intro h
  ·refine cq 4 [4] [B false] 210 ?_
   exact b8 rfl (hr _ (ai h) _ (qp [B false]))
  ·refine aq 1 ?_
   refine cq 6 [8] [I (az (x13+1))] 242 ?_
   refine dP ?_
   exact rf [3,8] [1] (ih _ _ h hr hn :)
 ·refine aq 1 ?_
  exact rf [3] [1] (hn _ (ai h) :) (hk:=hK)
theorem UT (c_1:Contract)(s_2:State)(r:Bool)(h:tI c_1 s_2=some r):bp mR Tryz.f75 [false,false] 0 (Ep (c_1,s_2)) (Eq r):=by
 show Run _ _ (jF (c_1,s_2) r) [.code jG] _
 refine rI 86 [(0,ac c_1),(1,ak s_2)] [] 1 ?_
 unfold tI at h
 refine ck 10 [2,3,9] [] [1,17] [] [.hp 1 0 [] 2 0 0,.hp 17 0 [] 5 0 0,ac c_1] [some ⟨0,2,[ac c_1]⟩,some ⟨0,5,[ak s_2]⟩] 65 (by kernel_rfl) ?_
 obtain⟨r3,hr3,h⟩:=bS h
 refine oq 81 (B r3) rfl (cP (Z6 hr3)) ?_
 refine cq 2 [12] [B (!r3)] 113 ?_
 obtain⟨y4,hy4,hy41,hy42⟩:=bJ h
 have j4:∀u4,y4=.inr u4→Run mR 0 (jF (c_1,s_2) r) (.code (cR (cL (cR jG)))::.code (cR (cR jG))::[]) (sT 86 [(2,.hp 1 0 [] 2 0 0),(3,.hp 2 0 [] 5 0 0),(38,B u4)] [⟨0,2,[ac c_1]⟩,⟨0,5,[ak s_2]⟩] 3):=by
  intro u4 hu
  replace h:=hy42 u4 hu
  refine sq h ?_ ?_<;>intro h
  ·refine cq 4 [4] [B false] 19 ?_
   obtain rfl:=sI h
   exact rP [B false]
  ·refine aq 1 ?_
   refine cq 3 [39] [ac c_1] 19 ?_
   obtain⟨r5,hr5,h⟩:=bS h
   refine oq 35 (.hs 19 0 [] 1 0 (r5.map str).length) rfl (cP (RA hr5)) ?_
   refine cq 8 [5,6] [.hs 19 0 [] 1 0 (r5.map str).length,I (0)] 67 ?_
   obtain⟨y9,hy9,hy91,hy92⟩:=bJ h
   refine ci rfl ?_
   refine rf [2,3,5,6] [1,2,19] (LW c_1 s_2 r5 rfl 0 _ hy9 (fun r' e st hq=>by rw[hy91 r' e] at hq;exact hq) fun u9 hu=>?_)
   replace h:=hy92 u9 hu
   refine cq 6 [7] [I (0)] 19 ?_
   obtain⟨y12,hy12,hy121,hy122⟩:=bJ h
   refine ci rfl ?_
   refine rf [2,3,7] [1,2] (LX c_1 s_2 rfl 0 _ hy12 (fun r' e st hq=>by rw[hy121 r' e] at hq;exact hq) fun u12 hu=>?_)
   replace h:=hy122 u12 hu
   refine cq 6 [8] [I (0)] 18 ?_
   obtain⟨y16,hy16,hy161,hy162⟩:=bJ h
   refine ci rfl ?_
   refine rf [3,8] [1] (LY c_1 s_2 rfl 0 _ hy16 (fun r' e st hq=>by rw[hy161 r' e] at hq;exact hq) fun u16 hu=>?_)
   replace h:=hy162 u16 hu
   refine cq 4 [83] [.isl false (s_2.Balances.map I)] 34 ?_
   obtain⟨r17,hr17,h⟩:=bS h
   refine oq 50 (I r17) rfl (cP (ZW hr17)) ?_
   refine cq 3 [4] [B (r17==0)] 82 ?_
   obtain rfl:=sI h
   exact rP [B (r17==0)]
 have r4:∀r',y4=.inl r'→∀st,jF (c_1,s_2) r' st→(jF (c_1,s_2) r) st:=fun r' e st hq=>by rw[hy41 r' e] at hq;exact hq
 replace h:=hy4
 refine sp 12 h rfl ?_ ?_<;>intro h
 ·refine cq 27 [38] [B true] 529 ?_
  exact rf [2,3,38] [1,17] (j4 _ (ai h) :)
 ·refine cq 2 [14] [I s_2.Day] 145 ?_
  obtain⟨r18,hr18,h⟩:=bS h
  refine oy 161 (B r18) rfl (cP (Dz hr18)) ?_
  refine cq 3 [18] [B (!r18)] 209 ?_
  obtain⟨y19,hy19,hy191,hy192⟩:=bL h
  have j19:∀u19,y19=.inr u19→Run mR 0 (jF (c_1,s_2) r) (.code (cR (cL (cR jG)))::.code (cR (cR jG))::[]) (sT 86 [(2,.hp 1 0 [] 2 0 0),(3,.hp 2 0 [] 5 0 0),(38,B u19)] [⟨0,2,[ac c_1]⟩,⟨0,5,[ak s_2]⟩] 3):=by
   intro u19 hu
   replace h:=hy192 u19 hu
   exact rf [2,3,38] [1,2] (j4 _ (ai h) :)
  have r19:∀r',y19=.inl r'→∀st,jF (c_1,s_2) r' st→(jF (c_1,s_2) r) st:=fun r' e st hq=>r4 r' (hy191 r' e) st hq
  replace h:=hy19
  refine sp 18 h rfl ?_ ?_<;>intro h
  ·refine cq 21 [38] [B true] 529 ?_
   exact rf [2,3,38] [1,17] (j19 _ (ai h) :)
  ·refine cq 2 [20] [.isl false (s_2.Facts.map str)] 241 ?_
   obtain⟨r20,hr20,h⟩:=bS h
   refine oy 257 (B r20) rfl (cP (ZZ hr20)) ?_
   refine cq 3 [24] [B (!r20)] 305 ?_
   obtain⟨u21,hu21,h⟩:=lJ h
   have j21:Run mR 0 (jF (c_1,s_2) r) (.code (cR (cL (cR jG)))::.code (cR (cR jG))::[]) (sT 86 [(2,.hp 1 0 [] 2 0 0),(3,.hp 2 0 [] 5 0 0),(38,B u21)] [⟨0,2,[ac c_1]⟩,⟨0,5,[ak s_2]⟩] 3):=by
    exact rf [2,3,38] [1,2] (j19 _ (ai h) :)
   replace h:=hu21
   clear hu21
   refine sp 24 h rfl ?_ ?_<;>intro h
   ·refine cq 15 [38] [B true] 529 ?_
    subst h
    exact rf [2,3,38] [1,17] (j21 :)
   ·refine cq 2 [26] [.isl false (s_2.Duties.map ae)] 337 ?_
    refine oy 353 (I (len s_2.Duties)) rfl (bq rfl rfl rfl (bB rfl)) ?_
    refine cq 3 [30] [B (decide ((len s_2.Duties)>24))] 401 ?_
    obtain⟨u22,hu22,h⟩:=lJ h
    have j22:Run mR 0 (jF (c_1,s_2) r) (.code (cR (cL (cR jG)))::.code (cR (cR jG))::[]) (sT 86 [(2,.hp 1 0 [] 2 0 0),(3,.hp 2 0 [] 5 0 0),(38,B u22)] [⟨0,2,[ac c_1]⟩,⟨0,5,[ak s_2]⟩] 3):=by
     subst h
     exact rf [2,3,38] [1,2] (j21 :)
    replace h:=hu22
    clear hu22
    refine sp 30 h rfl ?_ ?_<;>intro h
    ·refine cq 9 [38] [B true] 529 ?_
     subst h
     exact rf [2,3,38] [1,17] (j22 :)
    ·refine cq 2 [32] [.isl false (s_2.Balances.map I)] 433 ?_
     refine oy 449 (I (len s_2.Balances)) rfl (bq rfl rfl rfl (bB rfl)) ?_
     refine cq 2 [35] [.isl false (c_1.Parties.map str)] 481 ?_
     refine oy 497 (I (len c_1.Parties)) rfl (bq rfl rfl rfl (bB rfl)) ?_
     refine cq 3 [38] [B ((len s_2.Balances) != (len c_1.Parties))] 529 ?_
     subst h
     exact rf [2,3,38] [1,17] (j22 :)
theorem RJ {G:bU}:bQ G 75 AP:=gT 2 0 (aJ Rz (aJ G2 (aJ vx (aJ RI (aJ Q1 (aJ Q4 (aJ vt (aJ Q7 bv)))))))) ca Tryz.func75 (fun a r h=>UT a.1 a.2 r h)
def Eg:(Contract×State×Int×aa)→List V:=cA aO (cA b7 (cA I (oA str)))
def Eh (r:Bool):V×List V:=(B r,[])
noncomputable def AK :=ba [false,false,false,false] Eg Eh fun x=>AJ x.1 x.2.1 x.2.2.1 x.2.2.2
theorem Z8 {c_1:Contract}{s_2:State}{aE:Int}{aA:aa}{r}(h:AJ c_1 s_2 aE aA=some r):AK.F (Eg (c_1,s_2,aE,aA))=some (Eh r):=aH (aN aZ (aN cY (aN bC (aI bc)))) h
noncomputable def Ei :=aF Tryz.f55
noncomputable def vP :=b9 [(75,AP),(89,eV),(80,lR)]
def ly (x:Contract×State×Int×aa)(r:Bool):St→Prop:=QF vP Tryz.f55 [false,false,false,false] (Eg x) (Eh r)
theorem UO (c_1:Contract)(s_2:State)(aE:Int)(aA:aa)(r:Bool)(h:AJ c_1 s_2 aE aA=some r):bp vP Tryz.f55 [false,false,false,false] 0 (Eg (c_1,s_2,aE,aA)) (Eh r):=by
 show Run _ _ (ly (c_1,s_2,aE,aA) r) [.code Ei] _
 refine rI 29 [(0,ac c_1),(1,ak s_2),(2,I aE),(3,str aA)] [] 1 ?_
 unfold AJ at h
 refine ck 10 [4,5,9,10] [] [1,17] [] [.hp 1 0 [] 2 0 0,.hp 17 0 [] 5 0 0,ac c_1,ak s_2] [some ⟨0,2,[ac c_1]⟩,some ⟨0,5,[ak s_2]⟩] 81 (by kernel_rfl) ?_
 obtain⟨r5,hr5,h⟩:=bS h
 refine oq 97 (B r5) rfl (cP (aab hr5)) ?_
 refine cq 1 [12] [B r5] 113 ?_
 obtain⟨y6,hy6,hy61,hy62⟩:=bJ h
 have j6:∀u6,y6=.inr u6→Run vP 0 (ly (c_1,s_2,aE,aA) r) (.code (cR (cR Ei))::[]) (sT 29 [(8,B u6)] [] 1):=by
  intro u6 hu
  replace h:=hy62 u6 hu
  obtain rfl:=sI h
  exact rP [B u6]
 have r6:∀r',y6=.inl r'→∀st,ly (c_1,s_2,aE,aA) r' st→(ly (c_1,s_2,aE,aA) r) st:=fun r' e st hq=>by rw[hy61 r' e] at hq;exact hq
 replace h:=hy6
 refine sp 12 h rfl ?_ ?_<;>intro h
 ·refine cq 5 [17] [B (!s_2.Over)] 193 ?_
  obtain⟨y7,hy7,hy71,hy72⟩:=bL h
  have j7:∀u7,y7=.inr u7→Run vP 0 (ly (c_1,s_2,aE,aA) r) (.code (cR (cR Ei))::[]) (sT 29 [(8,B u7)] [] 1):=by
   intro u7 hu
   replace h:=hy72 u7 hu
   exact rf [8] [] (j6 _ (ai h) :)
  have r7:∀r',y7=.inl r'→∀st,ly (c_1,s_2,aE,aA) r' st→(ly (c_1,s_2,aE,aA) r) st:=fun r' e st hq=>r6 r' (hy71 r' e) st hq
  replace h:=hy7
  refine sp 17 h rfl ?_ ?_<;>intro h
  ·refine cq 3 [18,20] [I aE,.isl false (c_1.Parties.map str)] 241 ?_
   refine oy 257 (I (len c_1.Parties)) rfl (bq rfl rfl rfl (bB rfl)) ?_
   refine cq 1 [22] [I (az ((len c_1.Parties) - 1))] 273 ?_
   obtain⟨r8,hr8,h⟩:=bS h
   refine oy 289 (B r8) rfl (cP (dY hr8)) ?_
   refine cq 2 [25] [B r8] 321 ?_
   obtain⟨y9,hy9,hy91,hy92⟩:=bL h
   have j9:∀u9,y9=.inr u9→Run vP 0 (ly (c_1,s_2,aE,aA) r) (.code (cR (cR Ei))::[]) (sT 29 [(8,B u9)] [] 1):=by
    intro u9 hu
    replace h:=hy92 u9 hu
    exact rf [8] [] (j7 _ (ai h) :)
   have r9:∀r',y9=.inl r'→∀st,ly (c_1,s_2,aE,aA) r' st→(ly (c_1,s_2,aE,aA) r) st:=fun r' e st hq=>r7 r' (hy91 r' e) st hq
   replace h:=hy9
   refine sp 25 h rfl ?_ ?_<;>intro h
   ·refine cq 1 [26] [str aA] 337 ?_
    obtain⟨r10,hr10,h⟩:=bS h
    refine oy 353 (B r10) rfl (cP (oI hr10)) ?_
    refine cq 3 [8] [B r10] 385 ?_
    exact rf [8] [] (j9 _ (ai h) :)
   ·refine cq 5 [8] [B false] 385 ?_
    exact rf [8] [] (j9 _ (ai h) :)
  ·refine cq 13 [8] [B false] 385 ?_
   exact rf [8] [] (j7 _ (ai h) :)
 ·refine cq 18 [8] [B false] 385 ?_
  exact rf [8] [] (j6 _ (ai h) :)
theorem RE {G:bU}:bQ G 55 AK:=gT 4 0 (aJ RJ (aJ fF (aJ oK bv))) ca Tryz.func55 (fun a r h=>UO a.1 a.2.1 a.2.2.1 a.2.2.2 r h)
def vy:(Condition×(List aa)×Int)→List V:=cA bg (cA (eW str) (oA I))
def vz (r:Bool):V×List V:=(B r,[])
noncomputable def vA (cy:(Condition×(List aa)×Int)→Option Bool):Ent:=ba [false,false,false] vy vz cy
theorem pP (cy:(Condition×(List aa)×Int)→Option Bool){x}{r}(h:cy x=some r):(vA cy).F (vy x)=some (vz r):=aH (aN cG (aN (bu bc) (aI bC))) h
noncomputable def Aw :=vA (aM kt)
theorem Rh {c_1:Condition}{bo:List aa}{b6:Int}{r}(h:F6 c_1 bo b6=some r):Aw.F (vy (c_1,bo,b6))=some (vz r):=pP (aM kt) h
noncomputable def DP :=aF Tryz.f149
noncomputable def DN (cy:(Condition×(List aa)×Int)→Option Bool):Env:=b9 [(123,pZ),(149,(vA cy))]
def qa (cy:(Condition×(List aa)×Int)→Option Bool)(x:Condition×(List aa)×Int)(r:Bool):St→Prop:=QF (DN cy) Tryz.f149 [false,false,false] (vy x) (vz r)
theorem UA (cy:(Condition×(List aa)×Int)→Option Bool)(c_1:Condition)(bo:List aa)(b6:Int)(r:Bool)(h:si cy c_1 bo b6=some r):bp (DN cy) Tryz.f149 [false,false,false] 0 (vy (c_1,bo,b6)) (vz r):=by
 show Run _ _ (qa cy (c_1,bo,b6) r) [.code DP] _
 refine rI 67 [(0,ah c_1),(1,.isl false (bo.map str)),(2,I b6)] [] 1 ?_
 unfold si at h
 refine ck 17 [3,8,9] [] [1] [] [.hp 1 0 [] 4 0 0,I c_1.Op,B (c_1.Op==1)] [some ⟨0,4,[ah c_1]⟩] 97 (by kernel_rfl) ?_
 refine sq h ?_ ?_<;>intro h
 ·refine cq 4 [6] [B true] 113 ?_
  obtain rfl:=sI h
  exact rP [B true]
 ·refine cq 5 [11] [B (c_1.Op==2)] 129 ?_
  refine sq h ?_ ?_<;>intro h
  ·refine cq 5 [13,15] [.isl false (bo.map str),str c_1.Name] 177 ?_
   obtain⟨r4,hr4,h⟩:=bS h
   refine oq 193 (B r4) rfl (cP (DK hr4)) ?_
   refine cq 2 [6] [B r4] 209 ?_
   obtain rfl:=sI h
   exact rP [B r4]
  ·refine cq 5 [17] [B (c_1.Op==3)] 161 ?_
   refine sq h ?_ ?_<;>intro h
   ·refine cq 8 [6] [B (decide (b6≥c_1.Day))] 241 ?_
    obtain rfl:=sI h
    exact rP [B (decide (b6≥c_1.Day))]
   ·refine cq 5 [23] [B (c_1.Op==4)] 193 ?_
    refine sq h ?_ ?_<;>intro h
    ·refine cq 4 [26] [.isl false (c_1.Parts.map ay)] 225 ?_
     obtain⟨e5,he5,h⟩:=bS h
     refine oq 241 (.iptr (ah e5) 0) rfl (au rfl rfl rfl (aV rfl rfl (bA e5) rfl he5)) ?_
     refine cq 3 [28,29,30] [ah e5,.isl false (bo.map str),I b6] 289 ?_
     obtain⟨r6,hr6,h⟩:=bS h
     refine oq 305 (B r6) rfl (cd rfl rfl (cO rfl rfl rfl (bw (bR rfl) (bw (bR rfl) (bw (bR rfl) dB))) (pP cy hr6) (.inr rfl) d9 rfl rfl rfl)) ?_
     refine cq 3 [6] [B (!r6)] 337 ?_
     obtain rfl:=sI h
     exact rP [B (!r6)]
    ·refine cq 5 [33] [B (c_1.Op==5)] 225 ?_
     refine sq h ?_ ?_<;>intro h
     ·refine cq 4 [36] [.isl false (c_1.Parts.map ay)] 257 ?_
      obtain⟨e7,he7,h⟩:=bS h
      refine oq 273 (.iptr (ah e7) 0) rfl (au rfl rfl rfl (aV rfl rfl (bA e7) rfl he7)) ?_
      refine cq 3 [38,39,40] [ah e7,.isl false (bo.map str),I b6] 321 ?_
      obtain⟨r8,hr8,h⟩:=bS h
      refine oq 337 (B r8) rfl (cd rfl rfl (cO rfl rfl rfl (bw (bR rfl) (bw (bR rfl) (bw (bR rfl) dB))) (pP cy hr8) (.inr rfl) d9 rfl rfl rfl)) ?_
      refine cq 1 [42] [B r8] 353 ?_
      obtain⟨y9,hy9,hy91,hy92⟩:=bJ h
      have j9:∀u9,y9=.inr u9→Run (DN cy) 0 (qa cy (c_1,bo,b6) r) (.code (cR (cL (cR (cR (cR (cR (cR (cR (cR (cR (cR (cL (cR (cL (cR DP)))))))))))))))::.blk 0::.code (cR (cR DP))::[]) (sT 67 [(6,B u9)] [] 1):=by
       intro u9 hu
       replace h:=hy92 u9 hu
       obtain rfl:=sI h
       exact rP [B u9]
      have r9:∀r',y9=.inl r'→∀st,qa cy (c_1,bo,b6) r' st→(qa cy (c_1,bo,b6) r) st:=fun r' e st hq=>by rw[hy91 r' e] at hq;exact hq
      replace h:=hy9
      refine sp 42 h rfl ?_ ?_<;>intro h
      ·refine cq 2 [44] [.isl false (c_1.Parts.map ay)] 385 ?_
       obtain⟨e10,he10,h⟩:=bS h
       refine oy 401 (.iptr (ah e10) 0) rfl (au rfl rfl rfl (aV rfl rfl (bA e10) rfl he10)) ?_
       refine cq 3 [46,47,48] [ah e10,.isl false (bo.map str),I b6] 449 ?_
       obtain⟨r11,hr11,h⟩:=bS h
       refine oy 465 (B r11) rfl (cd rfl rfl (cO rfl rfl rfl (bw (bR rfl) (bw (bR rfl) (bw (bR rfl) dB))) (pP cy hr11) (.inr rfl) d9 rfl rfl rfl)) ?_
       refine cq 3 [6] [B r11] 497 ?_
       exact rf [6] [] (j9 _ (ai h) :)
      ·refine cq 10 [6] [B false] 497 ?_
       exact rf [6] [] (j9 _ (ai h) :)
     ·refine aq 1 ?_
      refine cq 5 [52] [.isl false (c_1.Parts.map ay)] 257 ?_
      obtain⟨e12,he12,h⟩:=bS h
      refine oq 273 (.iptr (ah e12) 0) rfl (au rfl rfl rfl (aV rfl rfl (bA e12) rfl he12)) ?_
      refine cq 3 [54,55,56] [ah e12,.isl false (bo.map str),I b6] 321 ?_
      obtain⟨r13,hr13,h⟩:=bS h
      refine oq 337 (B r13) rfl (cd rfl rfl (cO rfl rfl rfl (bw (bR rfl) (bw (bR rfl) (bw (bR rfl) dB))) (pP cy hr13) (.inr rfl) d9 rfl rfl rfl)) ?_
      refine cq 1 [58] [B r13] 353 ?_
      obtain⟨y14,hy14,hy141,hy142⟩:=bJ h
      have j14:∀u14,y14=.inr u14→Run (DN cy) 0 (qa cy (c_1,bo,b6) r) (.code (cR (cR (cR DP)))::[]) (sT 67 [(6,B u14)] [] 1):=by
       intro u14 hu
       replace h:=hy142 u14 hu
       obtain rfl:=sI h
       exact rP [B u14]
      have r14:∀r',y14=.inl r'→∀st,qa cy (c_1,bo,b6) r' st→(qa cy (c_1,bo,b6) r) st:=fun r' e st hq=>by rw[hy141 r' e] at hq;exact hq
      replace h:=hy14
      refine sp 58 h rfl ?_ ?_<;>intro h
      ·refine cq 10 [6] [B true] 497 ?_
       exact rf [6] [] (j14 _ (ai h) :)
      ·refine cq 2 [60] [.isl false (c_1.Parts.map ay)] 385 ?_
       obtain⟨e15,he15,h⟩:=bS h
       refine oy 401 (.iptr (ah e15) 0) rfl (au rfl rfl rfl (aV rfl rfl (bA e15) rfl he15)) ?_
       refine cq 3 [62,63,64] [ah e15,.isl false (bo.map str),I b6] 449 ?_
       obtain⟨r16,hr16,h⟩:=bS h
       refine oy 465 (B r16) rfl (cd rfl rfl (cO rfl rfl rfl (bw (bR rfl) (bw (bR rfl) (bw (bR rfl) dB))) (pP cy hr16) (.inr rfl) d9 rfl rfl rfl)) ?_
       refine cq 3 [6] [B r16] 497 ?_
       exact rf [6] [] (j14 _ (ai h) :)
theorem Ri {G:bU}:bQ G 149 Aw:=iB fun cy g_Ffdn=>gT 3 0 (aJ vx (aJ g_Ffdn bv)) ca Tryz.func149 (fun a r h=>UA cy a.1 a.2.1 a.2.2 r h)
def Eu:(l9Run×Int)→List V:=cA (MN dm) (oA I)
def Ev (r:Bool):V×List V:=(B r,[])
noncomputable def AV :=ba [false,false] Eu Ev fun x=>AU x.1 x.2
theorem aad {r_1:l9Run}{i_2:Int}{r}(h:AU r_1 i_2=some r):AV.F (Eu (r_1,i_2))=some (Ev r):=aH (aN (fz sS) (aI bC)) h
noncomputable def aaf :=aF Tryz.f107
noncomputable def RM :=b9 [(149,Aw)]
def aae (x:l9Run×Int)(r:Bool):St→Prop:=QF RM Tryz.f107 [false,false] (Eu x) (Ev r)
theorem UV (r_1:l9Run)(i_2:Int)(r:Bool)(h:AU r_1 i_2=some r):bp RM Tryz.f107 [false,false] 0 (Eu (r_1,i_2)) (Ev r):=by
 show Run _ _ (aae (r_1,i_2) r) [.code aaf] _
 refine rI 25 [(0,.iptr (dm r_1) 0),(1,I i_2)] [] 1 ?_
 unfold AU at h
 refine cq 5 [] [] 17 ?_
 refine ez [0,1,3,7,15,0,63,127,255,0,512,1536,3584,7680,0,16384,49152,114688,245760,524287,1048575] rfl (by decide +kernel) ?_
 refine dk 1 [5] [.iptr (dm r_1) 0] ?_
 refine dq [] [] (.iptr (dm r_1) 0) rfl (na rfl rfl) ?_
 refine dq [] [] (.iptr (dm r_1) 0) rfl (al rfl rfl rfl) ?_
 refine dq [] [] (.iptr (dm r_1) 1) rfl (al rfl rfl rfl) ?_
 refine dq [] [] (.isl false (r_1.f_c.Clauses.map aj)) rfl (aY rfl rfl) ?_
 refine dk 1 [10] [I i_2] ?_
 obtain⟨e3,he3,h⟩:=bS h
 refine dq [] [] (.iptr (ao e3) 0) rfl (au rfl rfl rfl (aV rfl rfl rfl rfl he3)) ?_
 refine dq [] [] (.iptr (ao e3) 6) rfl (al rfl rfl rfl) ?_
 refine dq [] [] (ah e3.When) rfl (aY rfl rfl) ?_
 refine dk 1 [14] [.iptr (dm r_1) 0] ?_
 refine dq [] [] (.iptr (dm r_1) 0) rfl (na rfl rfl) ?_
 refine dq [] [] (.iptr (dm r_1) 2) rfl (al rfl rfl rfl) ?_
 refine dq [] [] (.iptr (dm r_1) 3) rfl (al rfl rfl rfl) ?_
 refine dq [] [] (.isl false (r_1.f_s.Facts.map str)) rfl (aY rfl rfl) ?_
 refine dk 1 [19] [.iptr (dm r_1) 0] ?_
 refine dq [] [] (.iptr (dm r_1) 0) rfl (na rfl rfl) ?_
 refine dq [] [] (.iptr (dm r_1) 2) rfl (al rfl rfl rfl) ?_
 refine dq [] [] (.iptr (dm r_1) 2) rfl (al rfl rfl rfl) ?_
 refine dq [] [] (I r_1.f_s.Day) rfl (aY rfl rfl) ?_
 obtain⟨r4,hr4,h⟩:=bS h
 refine dq [] [] (B r4) rfl (cP (Rh hr4)) ?_ (dE rfl rfl rfl rfl (bw (bR rfl) (bw (bR rfl) (bw (bR rfl) dB))) (Rh hr4) (.inr rfl) rfl)
 refine dk 1 [4] [B r4] ?_
 refine de 353 rfl rfl ?_
 obtain rfl:=sI h
 exact rP [B r4]
theorem RN {G:bU}:bQ G 107 AV:=gT 2 0 (aJ Ri bv) ca Tryz.func107 (fun a r h=>UV a.1 a.2 r h)
def Es:(l9Run×Int×Int×aa)→List V:=cA (MN dm) (cA I (cA I (oA str)))
def Et (r:Int):V×List V:=(I r,[])
noncomputable def AR :=ba [false,false,false,false] Es Et fun x=>AQ x.1 x.2.1 x.2.2.1 x.2.2.2
theorem aac {r_1:l9Run}{cU:Int}{aE:Int}{aA:aa}{r}(h:AQ r_1 cU aE aA=some r):AR.F (Es (r_1,cU,aE,aA))=some (Et r):=aH (aN (fz sS) (aN bC (aN bC (aI bc)))) h
noncomputable def RK :=aF Tryz.f56
noncomputable abbrev pR :=cL (cL (cR (cL (cR RK))))
noncomputable abbrev Ga :=cR (cR pR)
noncomputable abbrev Gb :=cR (cR (cL (cL (cR pR))))
noncomputable def sF :=b9 [(107,AV)]
def vQ (x:l9Run×Int×Int×aa)(r:Int):St→Prop:=QF sF Tryz.f56 [false,false,false,false] (Es x) (Et r)
theorem LZ (r_1:l9Run)(cU:Int)(aE:Int)(aA:aa):cW sF 0 (vQ (r_1,cU,aE,aA)) pR 0 (sG r_1 cU aE aA) (fun u=>(sT 51 [] [] 1)) fun x5=>(sT 51 [(0,.iptr (dm r_1) 0),(1,I cU),(2,I aE),(3,str aA),(9,I x5)] [] 1):=eF (yh r_1 cU aE aA) fun {Q K} hK self ih x5 y h hr hn=>by
 unfold mz at h
 refine cq 9 [11,16] [I x5,.isl false (r_1.f_c.Clauses.map aj)] 97 ?_
 refine oq 113 (I (len r_1.f_c.Clauses)) rfl (bq rfl rfl rfl (bB rfl)) ?_
 refine cq 2 [18] [B (decide (x5<(len r_1.f_c.Clauses)))] 129 ?_
 refine sq h ?_ ?_<;>intro h
 ·refine aq 1 ?_
  refine cq 10 [25,26] [.isl false (r_1.f_c.Clauses.map aj),I x5] 225 ?_
  obtain⟨e6,he6,h⟩:=bS h
  refine oq 241 (.iptr (ao e6) 0) rfl (au rfl rfl rfl (aV rfl rfl rfl rfl he6)) ?_
  refine ck 2 [10,28] [] [257] [] [.hp 257 0 [] 12 0 0,ao e6] [some ⟨0,12,[.agg [str ([]),I (0),I (0),str ([]),I (0),I (0),I (0),str ([]),I (0),.isl true [],I (0),str ([])]]⟩] 273 (by kernel_rfl) ?_
  refine eJ 257 [.agg [str ([]),I (0),I (0),str ([]),I (0),I (0),I (0),str ([]),I (0),.usl 4 (([]).map aC),I (0),str ([])]] rfl rfl (aD (fD (aD (.refl _) (aD (.refl _) (aD (.refl _) (aD (.refl _) (aD (.refl _) (aD (.refl _) (aD (.refl _) (aD (.refl _) (aD (.refl _) (aD (.nil _) (aD (.refl _) (aD (.refl _) dT))))))))))))) dT) ?_
  refine ck 9 [33] [] [257] [] [B (e6.Kind==cU)] [some ⟨2,12,[ao e6]⟩] 369 (by kernel_rfl) ?_
  obtain⟨y7,hy7,hy71,hy72⟩:=bL h
  have j7:∀u7,y7=.inr u7→Run sF 0 Q (.code Gb::.blk 1::.code Ga::.lp pR::.blk 0::K) (sT 51 [(0,.iptr (dm r_1) 0),(1,I cU),(2,I aE),(3,str aA),(9,I x5),(49,B u7)] [] 1):=by
   intro u7 hu
   replace h:=hy72 u7 hu
   refine sq h ?_ ?_<;>intro h
   ·refine cq 5 [8] [I x5] 33 ?_
    exact b8 rfl (hr _ (ai h) _ (qp [I x5]))
   ·refine aq 1 ?_
    refine cq 6 [9] [I (az (x5+1))] 49 ?_
    refine dP ?_
    exact rf [0,1,2,3,9] [] (ih _ _ h hr hn :)
  have r7:∀r',y7=.inl r'→∀st,vQ (r_1,cU,aE,aA) r' st→Q st:=fun r' e st hq=>hr r' (hy71 r' e) st hq
  replace h:=hy7
  refine sp 33 h rfl ?_ ?_<;>intro h
  ·refine cq 6 [39] [B (e6.Party==aE)] 465 ?_
   obtain⟨y8,hy8,hy81,hy82⟩:=bL h
   have j8:∀u8,y8=.inr u8→Run sF 0 Q (.code Gb::.blk 1::.code Ga::.lp pR::.blk 0::K) (sT 51 [(0,.iptr (dm r_1) 0),(1,I cU),(2,I aE),(3,str aA),(9,I x5),(49,B u8)] [] 1):=by
    intro u8 hu
    replace h:=hy82 u8 hu
    exact rf [0,1,2,3,9,49] [] (j7 _ (ai h) :)
   have r8:∀r',y8=.inl r'→∀st,vQ (r_1,cU,aE,aA) r' st→Q st:=fun r' e st hq=>r7 r' (hy81 r' e) st hq
   replace h:=hy8
   refine sp 39 h rfl ?_ ?_<;>intro h
   ·refine cq 6 [45] [B (e6.Action==aA)] 561 ?_
    obtain⟨y9,hy9,hy91,hy92⟩:=bL h
    have j9:∀u9,y9=.inr u9→Run sF 0 Q (.code Gb::.blk 1::.code Ga::.lp pR::.blk 0::K) (sT 51 [(0,.iptr (dm r_1) 0),(1,I cU),(2,I aE),(3,str aA),(9,I x5),(49,B u9)] [] 1):=by
     intro u9 hu
     replace h:=hy92 u9 hu
     exact rf [0,1,2,3,9,49] [] (j8 _ (ai h) :)
    have r9:∀r',y9=.inl r'→∀st,vQ (r_1,cU,aE,aA) r' st→Q st:=fun r' e st hq=>r8 r' (hy91 r' e) st hq
    replace h:=hy9
    refine sp 45 h rfl ?_ ?_<;>intro h
    ·refine cq 2 [46,47] [.iptr (dm r_1) 0,I x5] 593 ?_
     obtain⟨r10,hr10,h⟩:=bS h
     refine oy 609 (B r10) rfl (cP (aad hr10)) ?_
     refine cq 2 [49] [B r10] 625 ?_
     exact rf [0,1,2,3,9,49] [] (j9 _ (ai h) :)
    ·refine cq 5 [49] [B false] 625 ?_
     exact rf [0,1,2,3,9,49] [] (j9 _ (ai h) :)
   ·refine cq 11 [49] [B false] 625 ?_
    exact rf [0,1,2,3,9,49] [] (j8 _ (ai h) :)
  ·refine cq 17 [49] [B false] 625 ?_
   exact rf [0,1,2,3,9,49] [] (j7 _ (ai h) :)
 ·refine aq 1 ?_
  exact rf [] [] (hn _ (ai h) :) (hk:=hK)
theorem UU (r_1:l9Run)(cU:Int)(aE:Int)(aA:aa)(r:Int)(h:AQ r_1 cU aE aA=some r):bp sF Tryz.f56 [false,false,false,false] 0 (Es (r_1,cU,aE,aA)) (Et r):=by
 show Run _ _ (vQ (r_1,cU,aE,aA) r) [.code RK] _
 refine rI 51 [(0,.iptr (dm r_1) 0),(1,I cU),(2,I aE),(3,str aA)] [] 1 ?_
 unfold AQ at h
 refine cq 10 [9] [I (0)] 33 ?_
 obtain⟨y11,hy11,hy111,hy112⟩:=bJ h
 refine ci rfl ?_
 refine rf [0,1,2,3,9] [] (LZ r_1 cU aE aA rfl 0 _ hy11 (fun r' e st hq=>by rw[hy111 r' e] at hq;exact hq) fun u11 hu=>?_)
 replace h:=hy112 u11 hu
 refine cq 4 [8] [I (-1)] 17 ?_
 obtain rfl:=sI h
 exact rP [I (-1)]
theorem RL {G:bU}:bQ G 56 AR:=gT 4 0 (aJ RN bv) ca Tryz.func56 (fun a r h=>UU a.1 a.2.1 a.2.2.1 a.2.2.2 r h)
def Dr:(Contract×State×Int×aa)→List V:=cA aO (cA b7 (cA I (oA str)))
def Ds (r:Int×Bool):V×List V:=(.tup [I r.1,B r.2],[])
noncomputable def Aj :=ba [false,false,false,false] Dr Ds fun x=>Ai x.1 x.2.1 x.2.2.1 x.2.2.2
theorem QY {c_1:Contract}{s_2:State}{aE:Int}{aA:aa}{r}(h:Ai c_1 s_2 aE aA=some r):Aj.F (Dr (c_1,s_2,aE,aA))=some (Ds r):=aH (aN aZ (aN cY (aN bC (aI bc)))) h
noncomputable def ZS :=aF Tryz.f22
noncomputable def QX :=b9 [(55,AK),(56,AR)]
def ZR (x:Contract×State×Int×aa)(r:Int×Bool):St→Prop:=QF QX Tryz.f22 [false,false,false,false] (Dr x) (Ds r)
theorem Uo (c_1:Contract)(s_2:State)(aE:Int)(aA:aa)(r:Int×Bool)(h:Ai c_1 s_2 aE aA=some r):bp QX Tryz.f22 [false,false,false,false] 0 (Dr (c_1,s_2,aE,aA)) (Ds r):=by
 show Run _ _ (ZR (c_1,s_2,aE,aA) r) [.code ZS] _
 refine rI 25 [(0,ac c_1),(1,ak s_2),(2,I aE),(3,str aA)] [] 1 ?_
 unfold Ai at h
 refine ck 14 [4,5,11,12,13,14] [] [1,17] [] [.hp 1 0 [] 2 0 0,.hp 17 0 [] 5 0 0,ac c_1,ak s_2,I aE,str aA] [some ⟨0,2,[ac c_1]⟩,some ⟨0,5,[ak s_2]⟩] 129 (by kernel_rfl) ?_
 obtain⟨r5,hr5,h⟩:=bS h
 refine oq 145 (B r5) rfl (cP (Z8 hr5)) ?_
 refine cq 2 [16] [B (!r5)] 161 ?_
 refine sq h ?_ ?_<;>intro h
 ·refine cq 5 [8,9] [I (0),B false] 193 ?_
  obtain rfl:=sI h
  exact rP [I (0),B false]
 ·refine aq 1 ?_
  refine ck 13 [21,22,23] [] [209] [] [.hp 209 0 [] 8 0 0,I aE,str aA] [some ⟨0,8,[.agg [.isl false (c_1.Parties.map str),.isl false (c_1.Clauses.map aj),I s_2.Day,.isl false (s_2.Facts.map str),.isl false (s_2.Duties.map ae),.isl false (s_2.Balances.map I),B s_2.Over,B false]]⟩] 289 (by kernel_rfl) ?_
  obtain⟨r6,hr6,h⟩:=bS h
  refine oq 305 (I r6) rfl (cd rfl rfl (cO rfl rfl rfl (bw (WN rfl rfl (kR (path:=[]) rfl rfl bb rfl rfl)) (bw (bR rfl) (bw (bR rfl) (bw (bR rfl) dB)))) (aac hr6) (.inl rfl) d9 rfl rfl rfl)) ?_
  refine cq 3 [8,9] [I r6,B true] 337 ?_
  obtain rfl:=sI h
  exact rP [I r6,B true]
theorem QZ {G:bU}:bQ G 22 Aj:=gT 4 0 (aJ RE (aJ RL bv)) ca Tryz.func22 (fun a r h=>Uo a.1 a.2.1 a.2.2.1 a.2.2.2 r h)
def BN:(Int×Int×Int)→List V:=cA I (cA I (oA I))
def BO (r:Bool):V×List V:=(B r,[])
noncomputable def gX :=ba [false,false,false] BN BO fun x=>ic x.1 x.2.1 x.2.2
theorem gW {n_1:Int}{no:Int}{kJ:Int}{r}(h:ic n_1 no kJ=some r):gX.F (BN (n_1,no,kJ))=some (BO r):=aH (aN bC (aN bC (aI bC))) h
noncomputable def OY :=aF Tryz.f99
noncomputable def I1 :=b9 []
def OX (x:Int×Int×Int)(r:Bool):St→Prop:=QF I1 Tryz.f99 [false,false,false] (BN x) (BO r)
theorem Ts (n_1:Int)(no:Int)(kJ:Int)(r:Bool)(h:ic n_1 no kJ=some r):bp I1 Tryz.f99 [false,false,false] 0 (BN (n_1,no,kJ)) (BO r):=by
 show Run _ _ (OX (n_1,no,kJ) r) [.code OY] _
 refine rI 15 [(0,I n_1),(1,I no),(2,I kJ)] [] 1 ?_
 unfold ic at h
 refine cq 10 [10] [B (decide (n_1≥no))] 81 ?_
 obtain⟨u4,hu4,h⟩:=lJ h
 have j4:Run I1 0 (OX (n_1,no,kJ) r) (.code (cR (cR OY))::[]) (sT 15 [(6,B u4)] [] 1):=by
  obtain rfl:=sI h
  exact rP [B u4]
 replace h:=hu4
 clear hu4
 refine sp 10 h rfl ?_ ?_<;>intro h
 ·refine cq 6 [6] [B (decide (n_1≤kJ))] 161 ?_
  subst h
  exact rf [6] [] (j4 :)
 ·refine cq 6 [6] [B false] 161 ?_
  subst h
  exact rf [6] [] (j4 :)
theorem ij {G:bU}:bQ G 99 gX:=gT 3 0 bv ca Tryz.func99 (fun a r h=>Ts a.1 a.2.1 a.2.2 r h)
noncomputable def jE:Ent:=⟨[false,false],tX (ou str) (ou (V.int .u8)) fun s c=>some (I ((Lib.countByte s c.toNat.toUInt8:Nat):Int),[])⟩
theorem GR {s:aa}{c r:Int}(h:wI s c=some r):jE.F [str s,.int .u8 c]=some (I r,[]):=by
 cases h
 simp only[jE,tX,E7 bc,E7 Th,Option.bind_some]
theorem GS:Extern.findNext Tryz.f199=none:=by kernel_rfl
theorem GT:Extern.find Tryz.f199=some Extern.BytealgCount.count:=by kernel_rfl
theorem xo {G:bU}:bQ G 199 jE:=MI (g:=fun s c=>((Lib.countByte s c.toNat.toUInt8:Nat):Int)) Tryz.func199 rfl (by decide) GS GT fun s c w=>Lib.run_countString s c w
noncomputable def gQ:Ent:=⟨[false,false],tX (ou str) (ou (V.int .u8)) fun s c=>some (I (Lib.indexByte s c.toNat.toUInt8),[])⟩
theorem wJ {s:aa}{c r:Int}(h:qy s c=some r):gQ.F [str s,.int .u8 c]=some (I r,[]):=by
 cases h
 simp only[gQ,tX,E7 bc,E7 Th,Option.bind_some]
theorem wK:Extern.findNext Tryz.f232=none:=by kernel_rfl
theorem wL:Extern.find Tryz.f232=some Extern.BytealgIndexByte.indexByte:=by kernel_rfl
theorem tq {G:bU}:bQ G 232 gQ:=MI (g:=fun s c=>Lib.indexByte s c.toNat.toUInt8) Tryz.func232 rfl (by decide) wK wL fun s c w=>Lib.run_indexByteString s c w
def BR:(aa×Int)→List V:=cA str (oA (V.int .u8))
def BS (r:Int):V×List V:=(I r,[])
noncomputable def yV :=ba [false,false] BR BS fun x=>I5 x.1 x.2
theorem Yw {s_1:aa}{c_2:Int}{r}(h:I5 s_1 c_2=some r):yV.F (BR (s_1,c_2))=some (BS r):=aH (aN bc (aI (Lf (k:=.u8)))) h
noncomputable def Yy :=aF Tryz.f218
noncomputable def O1 :=b9 [(232,gQ)]
def Yx (x:aa×Int)(r:Int):St→Prop:=QF O1 Tryz.f218 [false,false] (BR x) (BS r)
theorem Tu (s_1:aa)(c_2:Int)(r:Int)(h:I5 s_1 c_2=some r):bp O1 Tryz.f218 [false,false] 0 (BR (s_1,c_2)) (BS r):=by
 show Run _ _ (Yx (s_1,c_2) r) [.code Yy] _
 refine rI 8 [(0,str s_1),(1,.int .u8 c_2)] [] 1 ?_
 unfold I5 at h
 refine cq 8 [5,6] [str s_1,.int .u8 c_2] 49 ?_
 obtain⟨r3,hr3,h⟩:=bS h
 refine oq 65 (I r3) rfl (cP (wJ hr3)) ?_
 refine cq 2 [4] [I r3] 81 ?_
 obtain rfl:=sI h
 exact rP [I r3]
theorem O2 {G:bU}:bQ G 218 yV:=gT 2 0 (aJ tq bv) ca Tryz.func218 (fun a r h=>Tu a.1 a.2 r h)
def BP:(aa×aa)→List V:=cA str (oA str)
def BQ (r:Int):V×List V:=(I r,[])
noncomputable def yU :=ba [false,false] BP BQ fun x=>I2 x.1 x.2
theorem Yv {s_1:aa}{aX:aa}{r}(h:I2 s_1 aX=some r):yU.F (BP (s_1,aX))=some (BQ r):=aH (aN bc (aI bc)) h
noncomputable def I4 :=aF Tryz.f200
noncomputable def I3 :=b9 [(218,yV)]
def OZ (x:aa×aa)(r:Int):St→Prop:=QF I3 Tryz.f200 [false,false] (BP x) (BQ r)
theorem Tt (s_1:aa)(aX:aa)(r:Int)(h:I2 s_1 aX=some r):bp I3 Tryz.f200 [false,false] 0 (BP (s_1,aX)) (BQ r):=by
 show Run _ _ (OZ (s_1,aX) r) [.code I4] _
 refine rI 143 [(0,str s_1),(1,str aX)] [] 1 ?_
 unfold I2 at h
 refine cq 17 [5,19] [I (len aX),B ((len aX)==0)] 113 ?_
 obtain⟨u3,hu3,h⟩:=lJ h
 have j3:Run I3 0 (OZ (s_1,aX) r) (.code (cR (cL (cL (cR (cR I4)))))::.blk 0::.code (cR (cR (cR I4)))::[]) (sT 143 [(0,str s_1),(1,str aX),(5,I (len aX)),(16,B u3)] [] 1):=by
  refine sq h ?_ ?_<;>intro h
  ·refine cq 4 [4] [I (0)] 17 ?_
   obtain rfl:=sI h
   exact rP [I (0)]
  ·refine cq 6 [24] [B ((len aX)==1)] 49 ?_
   refine sq h ?_ ?_<;>intro h
   ·refine cq 4 [27,28] [str s_1,str aX] 81 ?_
    obtain⟨c4,hc4,h⟩:=bS h
    refine oq 97 (.int .u8 (c4.toNat:Int)) rfl (mD rfl rfl (qR rfl rfl hc4)) ?_
    obtain⟨r5,hr5,h⟩:=bS h
    refine oq 113 (I r5) rfl (cP (Yw hr5)) ?_
    refine cq 2 [4] [I r5] 129 ?_
    obtain rfl:=sI h
    exact rP [I r5]
   ·refine cq 8 [31] [B (decide ((len aX)≥(len s_1)))] 129 ?_
    refine sq h ?_ ?_<;>intro h
    ·refine cq 4 [4] [I (-1)] 145 ?_
     obtain rfl:=sI h
     exact rP [I (-1)]
    ·cases h
 replace h:=hu3
 clear hu3
 refine sp 19 h rfl ?_ ?_<;>intro h
 ·refine cq 6 [16] [B true] 193 ?_
  subst h
  exact rf [0,1,5,16] [] (j3 :)
 ·refine cq 6 [16] [B (aX==s_1)] 193 ?_
  subst h
  exact rf [0,1,5,16] [] (j3 :)
theorem O0 {G:bU}:bQ G 200 yU:=gT 2 0 (aJ O2 bv) ca Tryz.func200 (fun a r h=>Tt a.1 a.2 r h)
def Ey:(aa×aa)→List V:=cA str (oA str)
def Ez (r:Int):V×List V:=(I r,[])
noncomputable def tJ :=ba [false,false] Ey Ez fun x=>Gc x.1 x.2
theorem RS {s_1:aa}{aX:aa}{r}(h:Gc s_1 aX=some r):tJ.F (Ey (s_1,aX))=some (Ez r):=aH (aN bc (aI bc)) h
noncomputable def aai :=aF Tryz.f188
noncomputable def RR :=b9 [(200,yU)]
def aah (x:aa×aa)(r:Int):St→Prop:=QF RR Tryz.f188 [false,false] (Ey x) (Ez r)
theorem UX (s_1:aa)(aX:aa)(r:Int)(h:Gc s_1 aX=some r):bp RR Tryz.f188 [false,false] 0 (Ey (s_1,aX)) (Ez r):=by
 show Run _ _ (aah (s_1,aX) r) [.code aai] _
 refine rI 8 [(0,str s_1),(1,str aX)] [] 1 ?_
 unfold Gc at h
 refine cq 8 [5,6] [str s_1,str aX] 49 ?_
 obtain⟨r3,hr3,h⟩:=bS h
 refine oq 65 (I r3) rfl (cP (Yv hr3)) ?_
 refine cq 2 [4] [I r3] 81 ?_
 obtain rfl:=sI h
 exact rP [I r3]
theorem G3 {G:bU}:bQ G 188 tJ:=gT 2 0 (aJ O0 bv) ca Tryz.func188 (fun a r h=>UX a.1 a.2 r h)
def Ew:(aa×aa)→List V:=cA str (oA str)
def Ex (r:Int):V×List V:=(I r,[])
noncomputable def AW :=ba [false,false] Ew Ex fun x=>JL x.1 x.2
theorem aag {s_1:aa}{aX:aa}{r}(h:JL s_1 aX=some r):AW.F (Ew (s_1,aX))=some (Ex r):=aH (aN bc (aI bc)) h
noncomputable def RP :=aF Tryz.f187
noncomputable def JM :=b9 [(199,jE),(188,tJ)]
def RO (x:aa×aa)(r:Int):St→Prop:=QF JM Tryz.f187 [false,false] (Ew x) (Ex r)
theorem L1 (s_1:aa)(aX:aa):cW JM 0 (RO (s_1,aX)) (cL (cL (cR (cR (cR (cR RP)))))) 0 (Mu s_1 aX) (fun u=>(sT 34 [] [] 1)) fun x5=>(sT 34 [(0,str x5.1),(1,str aX),(5,I x5.2)] [] 1):=eF (L0 s_1 aX) fun {Q K} hK self ih x5 y h hr hn=>by
 unfold qG at h
 refine cq 5 [20,21] [str x5.1,str aX] 33 ?_
 obtain⟨r6,hr6,h⟩:=bS h
 refine oq 49 (I r6) rfl (cP (RS hr6)) ?_
 refine cq 8 [6,24] [I r6,B (r6==(-1))] 97 ?_
 refine sq h ?_ ?_<;>intro h
 ·refine cq 5 [4] [I x5.2] 129 ?_
  exact b8 rfl (hr _ (ai h) _ (qp [I x5.2]))
 ·refine aq 1 ?_
  refine cq 12 [5,28,32] [I (az (x5.2+1)),str x5.1,I (az (r6+(len aX)))] 225 ?_
  obtain⟨s7,hs7,h⟩:=bS h
  refine oq 241 (str s7) rfl (ig rfl rfl rfl rfl (K6 rfl rfl rfl hs7)) ?_
  refine cq 3 [0] [str s7] 257 ?_
  refine dP ?_
  exact rf [0,1,5] [] (ih _ _ h hr hn :)
theorem UW (s_1:aa)(aX:aa)(r:Int)(h:JL s_1 aX=some r):bp JM Tryz.f187 [false,false] 0 (Ew (s_1,aX)) (Ex r):=by
 show Run _ _ (RO (s_1,aX) r) [.code RP] _
 refine rI 34 [(0,str s_1),(1,str aX)] [] 1 ?_
 unfold JL at h
 refine cq 11 [9] [B ((len aX)==0)] 65 ?_
 refine sq h ?_ ?_<;>intro h
 ·cases h
 ·refine aq 1 ?_
  refine cq 7 [15] [B ((len aX)==1)] 113 ?_
  refine sq h ?_ ?_<;>intro h
  ·refine cq 4 [16,17] [str s_1,str aX] 145 ?_
   obtain⟨c3,hc3,h⟩:=bS h
   refine oq 161 (.int .u8 (c3.toNat:Int)) rfl (mD rfl rfl (qR rfl rfl hc3)) ?_
   obtain⟨r4,hr4,h⟩:=bS h
   refine oq 177 (I r4) rfl (cP (GR hr4)) ?_
   refine cq 2 [4] [I r4] 193 ?_
   obtain rfl:=sI h
   exact rP [I r4]
  ·refine aq 1 ?_
   refine cq 5 [5] [I (0)] 129 ?_
   obtain⟨y8,hy8,hy81,hy82⟩:=bJ h
   refine ci rfl ?_
   refine rf [0,1,5] [] (L1 s_1 aX rfl (s_1,0) _ hy8 (fun r' e st hq=>by rw[hy81 r' e] at hq;exact hq) fun u8 hu=>?_)
   replace h:=hy82 u8 hu
   cases h
theorem RQ {G:bU}:bQ G 187 AW:=gT 2 0 (aJ xo (aJ G3 bv)) ca Tryz.func187 (fun a r h=>UW a.1 a.2 r h)
def EC:(aa×aa×Int×Int)→List V:=cA str (cA str (cA I (oA I)))
def EE (r:(List aa)):V×List V:=(.usl 1 (r.map str),[])
noncomputable def AZ :=ba [false,false,false,false] EC EE fun x=>JN x.1 x.2.1 x.2.2.1 x.2.2.2
theorem aam {s_1:aa}{dG:aa}{dh:Int}{n_4:Int}{r}(h:JN s_1 dG dh n_4=some r):AZ.F (EC (s_1,dG,dh,n_4))=some (EE r):=aH (aN bc (aN bc (aN bC (aI bC)))) h
noncomputable def JO :=aF Tryz.f166
noncomputable abbrev W4 :=cL (cL (cL (cR (cR (cR (cR (cR (cR (cR (cR JO))))))))))
noncomputable def ED :=b9 [(188,tJ),(187,AW)]
def vR (x:aa×aa×Int×Int)(r:(List aa)):St→Prop:=QF ED Tryz.f166 [false,false,false,false] (EC x) (EE r)
theorem L3 (s_1:aa)(dG:aa)(dh:Int)(n_4:Int)(u5:Int):cW ED 0 (vR (s_1,dG,dh,n_4)) W4 0 (wQ s_1 dG dh n_4 u5) (fun u=>(sT 66 [(0,str u.1),(9,.hs 1 0 [] 1 0 (u.2.2.map str).length),(10,I u.2.1)] [⟨0,1,u.2.2.map str⟩] 2)) fun x7=>(sT 66 [(0,str x7.1),(1,str dG),(2,I dh),(3,I (az ((if (az ((len s_1)+1))<u5 then (az ((len s_1)+1)) else u5) - 1))),(9,.hs 1 0 [] 1 0 (x7.2.2.map str).length),(10,I x7.2.1)] [⟨0,1,x7.2.2.map str⟩] 2):=eF (yi s_1 dG dh n_4 u5) fun {Q K} hK self ih x7 y h hr hn=>by
 unfold qH at h
 refine cq 7 [36] [B (decide (x7.2.1<(az ((if (az ((len s_1)+1))<u5 then (az ((len s_1)+1)) else u5) - 1))))] 50 ?_
 refine sq h ?_ ?_<;>intro h
 ·refine aq 1 ?_
  refine cq 5 [37,38] [str x7.1,str dG] 82 ?_
  obtain⟨r8,hr8,h⟩:=bS h
  refine oq 98 (I r8) rfl (cP (RS hr8)) ?_
  refine cq 8 [11,41] [I r8,B (decide (r8<0))] 146 ?_
  refine sq h ?_ ?_<;>intro h
  ·refine aq 1 ?_
   exact rf [0,9,10] [1] (hn _ (ai h) :) (hk:=hK)
  ·refine aq 1 ?_
   refine cq 8 [42,43,44,47] [.hs 1 0 [] 1 0 (x7.2.2.map str).length,I x7.2.1,str x7.1,I (az (r8+dh))] 242 ?_
   obtain⟨s9,hs9,h⟩:=bS h
   refine oq 258 (str s9) rfl (ig rfl rfl rfl rfl (K6 rfl rfl rfl hs9)) ?_
   obtain⟨e10,he10,h⟩:=bS h
   refine oq 274 (.hp 1 0 [] 1 (0+Int.toNat x7.2.1) 0) rfl (au rfl rfl rfl (i6 (f:=str) (xs:=x7.2.2) rfl rfl rfl he10)) ?_
   refine o0 290 rfl rfl (gw rfl rfl (fp (path:=[]) (pl:=true) (e':=str s9) (es2':=(fI x7.2.2 x7.2.1 s9).map str) rfl (fO rfl) rfl rfl rfl bb (gU (f:=str) (xs:=x7.2.2) he10) rfl rfl rfl (mK (f:=str) (xs:=x7.2.2) (y:=s9)) d8 0 rfl)) ?_
   try rw[←kL (f:=str) (xs:=x7.2.2) (i:=x7.2.1) (z:=s9)]
   refine cq 8 [50,54] [str x7.1,I (az (r8+(len dG)))] 370 ?_
   obtain⟨s11,hs11,h⟩:=bS h
   refine oq 386 (str s11) rfl (ig rfl rfl rfl rfl (K6 rfl rfl rfl hs11)) ?_
   refine cq 8 [0,10] [str s11,I (az (x7.2.1+1))] 450 ?_
   refine dP ?_
   exact rf [0,1,2,3,9,10] [1] (ih _ _ h hr hn :)
 ·refine aq 1 ?_
  exact rf [0,9,10] [1] (hn _ (ai h) :) (hk:=hK)
theorem UZ (s_1:aa)(dG:aa)(dh:Int)(n_4:Int)(r:(List aa))(h:JN s_1 dG dh n_4=some r):bp ED Tryz.f166 [false,false,false,false] 0 (EC (s_1,dG,dh,n_4)) (EE r):=by
 show Run _ _ (vR (s_1,dG,dh,n_4) r) [.code JO] _
 refine rI 66 [(0,str s_1),(1,str dG),(2,I dh),(3,I n_4)] [] 1 ?_
 unfold JN at h
 refine cq 10 [13] [B (n_4==0)] 49 ?_
 refine sq h ?_ ?_<;>intro h
 ·refine cq 4 [8] [.isl true []] 65 ?_
  refine xk 8 0 1 81 (.hs 65 0 [] 1 0 0) rfl rfl rfl rfl rfl ?_
  obtain rfl:=sI h
  exact b8 rfl ⟨_,fin (vs:=[.hs 65 0 [] 1 0 0]) rfl (fk (eO rfl (cN (k:=0) (es:=[]) rfl rfl)) ey) rfl (eP (eP (eP (eP fu)))),fm⟩
 ·refine aq 1 ?_
  refine cq 6 [15] [B (dG==([]:aa))] 81 ?_
  refine sq h ?_ ?_<;>intro h
  ·cases h
  ·refine aq 1 ?_
   refine cq 6 [20] [B (decide (n_4<0))] 113 ?_
   obtain⟨y5,hy5,hy51,hy52⟩:=bJ h
   have j5:∀u5,y5=.inr u5→Run ED 0 (vR (s_1,dG,dh,n_4) r) (.code (cR (cR (cR (cR JO))))::[]) (sT 66 [(0,str s_1),(1,str dG),(2,I dh),(3,I u5)] [] 1):=by
    intro u5 hu
    replace h:=hy52 u5 hu
    refine cq 12 [3,30] [I (if (az ((len s_1)+1))<u5 then (az ((len s_1)+1)) else u5),I (if (az ((len s_1)+1))<u5 then (az ((len s_1)+1)) else u5)] 113 ?_
    obtain⟨m6,hm6,h⟩:=bS h
    refine oq 129 (.hs 113 0 [] 1 0 (m6.map str).length) rfl (jT rfl rfl (Fj (f:=str) rfl rfl rfl (by decide) hm6 rfl)) ?_
    refine cq 14 [3,9,10] [I (az ((if (az ((len s_1)+1))<u5 then (az ((len s_1)+1)) else u5) - 1)),.hs 113 0 [] 1 0 (m6.map str).length,I (0)] 209 ?_
    obtain⟨y12,hy12,hy121,hy122⟩:=bJ h
    refine ci rfl ?_
    refine rf [0,1,2,3,9,10] [113] (L3 s_1 dG dh n_4 u5 rfl (s_1,0,m6) _ hy12 (fun r' e st hq=>by rw[hy121 r' e] at hq;exact hq) fun u12 hu=>?_)
    replace h:=hy122 u12 hu
    refine cq 5 [58,59,60] [.hs 1 0 [] 1 0 (u12.2.2.map str).length,I u12.2.1,str u12.1] 50 ?_
    obtain⟨e13,he13,h⟩:=bS h
    refine oq 66 (.hp 1 0 [] 1 (0+Int.toNat u12.2.1) 0) rfl (au rfl rfl rfl (i6 (f:=str) (xs:=u12.2.2) rfl rfl rfl he13)) ?_
    refine o0 82 rfl rfl (gw rfl rfl (fp (path:=[]) (pl:=true) (e':=str u12.1) (es2':=(fI u12.2.2 u12.2.1 u12.1).map str) rfl (fO rfl) rfl rfl rfl bb (gU (f:=str) (xs:=u12.2.2) he13) rfl rfl rfl (mK (f:=str) (xs:=u12.2.2) (y:=u12.1)) d8 0 rfl)) ?_
    try rw[←kL (f:=str) (xs:=u12.2.2) (i:=u12.2.1) (z:=u12.1)]
    refine cq 6 [62,64] [.hs 1 0 [] 1 0 ((fI u12.2.2 u12.2.1 u12.1).map str).length,I (az (u12.2.1+1))] 130 ?_
    obtain⟨s14,hs14,h⟩:=bS h
    refine oq 146 (.hs 1 0 [] 1 (0+Int.toNat (0)) (Int.toNat (az (u12.2.1+1)) - Int.toNat (0))) rfl (ig rfl rfl rfl rfl (tk (f:=str) (xs:=(fI u12.2.2 u12.2.1 u12.1)) rfl rfl rfl rfl rfl hs14)) ?_
    refine cq 2 [8] [.hs 1 0 [] 1 (0+Int.toNat (0)) (Int.toNat (az (u12.2.1+1)) - Int.toNat (0))] 162 ?_
    obtain⟨p15,hp15,h⟩:=bS h
    obtain rfl:=sI h
    exact b8 rfl ⟨_,fin (vs:=[.hs 1 0 [] 1 (0+Int.toNat (0)) (Int.toNat (az (u12.2.1+1)) - Int.toNat (0))]) rfl (fk (eO rfl (R7 (path:=[]) (f:=str) (xs:=(fI u12.2.2 u12.2.1 u12.1)) rfl rfl bb hp15 rfl qx)) ey) rfl (eP (eP (eP (eP fu)))),fm⟩
   have r5:∀r',y5=.inl r'→∀st,vR (s_1,dG,dh,n_4) r' st→(vR (s_1,dG,dh,n_4) r) st:=fun r' e st hq=>by rw[hy51 r' e] at hq;exact hq
   replace h:=hy5
   refine sq h ?_ ?_<;>intro h
   ·refine cq 3 [21,22] [str s_1,str dG] 145 ?_
    obtain⟨r16,hr16,h⟩:=bS h
    refine oq 161 (I r16) rfl (cP (aag hr16)) ?_
    refine cq 3 [3] [I (az (r16+1))] 193 ?_
    exact rf [0,1,2,3] [] (j5 _ (ai h) :)
   ·refine aq 1 ?_
    exact rf [0,1,2,3] [] (j5 _ (ai h) :)
theorem RV {G:bU}:bQ G 166 AZ:=gT 4 0 (aJ G3 (aJ RQ bv)) ca Tryz.func166 (fun a r h=>UZ a.1 a.2.1 a.2.2.1 a.2.2.2 r h)
def EA:(aa×aa)→List V:=cA str (oA str)
def EB (r:(List aa)):V×List V:=(.usl 1 (r.map str),[])
noncomputable def AY :=ba [false,false] EA EB fun x=>AX x.1 x.2
theorem aaj {s_1:aa}{dG:aa}{r}(h:AX s_1 dG=some r):AY.F (EA (s_1,dG))=some (EB r):=aH (aN bc (aI bc)) h
noncomputable def aal :=aF Tryz.f130
noncomputable def RT :=b9 [(166,AZ)]
def aak (x:aa×aa)(r:(List aa)):St→Prop:=QF RT Tryz.f130 [false,false] (EA x) (EB r)
theorem UY (s_1:aa)(dG:aa)(r:(List aa))(h:AX s_1 dG=some r):bp RT Tryz.f130 [false,false] 0 (EA (s_1,dG)) (EB r):=by
 show Run _ _ (aak (s_1,dG) r) [.code aal] _
 refine rI 8 [(0,str s_1),(1,str dG)] [] 1 ?_
 unfold AX at h
 refine cq 8 [5,6] [str s_1,str dG] 49 ?_
 obtain⟨r3,hr3,h⟩:=bS h
 refine oq 65 (.hs 49 0 [] 1 0 (r3.map str).length) rfl (cP (aam hr3)) ?_
 refine cq 2 [4] [.hs 49 0 [] 1 0 (r3.map str).length] 81 ?_
 obtain rfl:=sI h
 exact b8 rfl ⟨_,fin (vs:=[.hs 49 0 [] 1 0 (r3.map str).length]) rfl (fk (eO rfl (cN rfl rfl)) ey) rfl (eP (eP fu)),fm⟩
theorem RU {G:bU}:bQ G 130 AY:=gT 2 0 (aJ RV bv) ca Tryz.func130 (fun a r h=>UY a.1 a.2 r h)
def Dp:((List aa)×aa)→List V:=cA (eW str) (oA str)
def Dq (r:Int):V×List V:=(I r,[])
noncomputable def Ah :=ba [false,false] Dp Dq fun x=>vr x.1 x.2
theorem ZQ {s_1:List aa}{v_2:aa}{r}(h:vr s_1 v_2=some r):Ah.F (Dp (s_1,v_2))=some (Dq r):=aH (aN (bu bc) (aI bc)) h
noncomputable def QV :=aF Tryz.f165
noncomputable def Jt :=b9 []
def QU (x:(List aa)×aa)(r:Int):St→Prop:=QF Jt Tryz.f165 [false,false] (Dp x) (Dq r)
theorem LH (s_1:List aa)(v_2:aa):cW Jt 0 (QU (s_1,v_2)) (cL (cL (cR (cL (cR QV))))) 0 (nQ s_1 v_2) (fun u=>(sT 19 [] [] 1)) fun x3=>(sT 19 [(0,.isl false (s_1.map str)),(1,str v_2),(7,I (len s_1)),(8,I x3)] [] 1):=eF (xN s_1 v_2) fun {Q K} hK self ih x3 y h hr hn=>by
 unfold jf at h
 refine cq 5 [9] [B (decide (x3<(len s_1)))] 17 ?_
 refine sq h ?_ ?_<;>intro h
 ·refine aq 1 ?_
  refine cq 12 [5,11,12,13] [I x3,str v_2,.isl false (s_1.map str),I x3] 97 ?_
  obtain⟨e4,he4,h⟩:=bS h
  refine oq 113 (.iptr (str e4) 0) rfl (au rfl rfl rfl (aV rfl rfl rfl rfl he4)) ?_
  refine cq 3 [16] [B (v_2==e4)] 145 ?_
  refine sq h ?_ ?_<;>intro h
  ·refine cq 5 [4] [I x3] 177 ?_
   exact b8 rfl (hr _ (ai h) _ (qp [I x3]))
  ·refine aq 1 ?_
   refine cq 5 [8] [I (az (x3+1))] 177 ?_
   refine dP ?_
   exact rf [0,1,7,8] [] (ih _ _ h hr hn :)
 ·refine aq 1 ?_
  exact rf [] [] (hn _ (ai h) :) (hk:=hK)
theorem Um (s_1:List aa)(v_2:aa)(r:Int)(h:vr s_1 v_2=some r):bp Jt Tryz.f165 [false,false] 0 (Dp (s_1,v_2)) (Dq r):=by
 show Run _ _ (QU (s_1,v_2) r) [.code QV] _
 refine rI 19 [(0,.isl false (s_1.map str)),(1,str v_2)] [] 1 ?_
 unfold vr at h
 refine cq 8 [6] [.isl false (s_1.map str)] 33 ?_
 refine oq 49 (I (len s_1)) rfl (bq rfl rfl rfl (bB rfl)) ?_
 refine cq 3 [8] [I (0)] 65 ?_
 obtain⟨y5,hy5,hy51,hy52⟩:=bJ h
 refine ci rfl ?_
 refine rf [0,1,7,8] [] (LH s_1 v_2 rfl 0 _ hy5 (fun r' e st hq=>by rw[hy51 r' e] at hq;exact hq) fun u5 hu=>?_)
 replace h:=hy52 u5 hu
 refine cq 4 [4] [I (-1)] 17 ?_
 obtain rfl:=sI h
 exact rP [I (-1)]
theorem QW {G:bU}:bQ G 165 Ah:=gT 2 0 bv ca Tryz.func165 (fun a r h=>Um a.1 a.2 r h)
def C9:((List aa)×aa)→List V:=cA (eW str) (oA str)
def Db (r:Bool):V×List V:=(B r,[])
noncomputable def nP :=ba [false,false] C9 Db fun x=>mP x.1 x.2
theorem Da {s_1:List aa}{v_2:aa}{r}(h:mP s_1 v_2=some r):nP.F (C9 (s_1,v_2))=some (Db r):=aH (aN (bu bc) (aI bc)) h
noncomputable def ZJ :=aF Tryz.f129
noncomputable def QA :=b9 [(165,Ah)]
def ZI (x:(List aa)×aa)(r:Bool):St→Prop:=QF QA Tryz.f129 [false,false] (C9 x) (Db r)
theorem Ue (s_1:List aa)(v_2:aa)(r:Bool)(h:mP s_1 v_2=some r):bp QA Tryz.f129 [false,false] 0 (C9 (s_1,v_2)) (Db r):=by
 show Run _ _ (ZI (s_1,v_2) r) [.code ZJ] _
 refine rI 9 [(0,.isl false (s_1.map str)),(1,str v_2)] [] 1 ?_
 unfold mP at h
 refine cq 8 [5,6] [.isl false (s_1.map str),str v_2] 49 ?_
 obtain⟨r3,hr3,h⟩:=bS h
 refine oq 65 (I r3) rfl (cP (ZQ hr3)) ?_
 refine cq 3 [4] [B (decide (r3≥0))] 97 ?_
 obtain rfl:=sI h
 exact rP [B (decide (r3≥0))]
theorem qF {G:bU}:bQ G 129 nP:=gT 2 0 (aJ QW bv) ca Tryz.func129 (fun a r h=>Ue a.1 a.2 r h)
def HT:aa→List V:=oA str
def HU (r:Bool):V×List V:=(B r,[])
noncomputable def nM :=ba [false] HT HU fun x=>rQ x
theorem wM {s_1:aa}{r}(h:rQ s_1=some r):nM.F (HT s_1)=some (HU r):=aH (aI bc) h
noncomputable def wN :=aF Tryz.f81
noncomputable abbrev pV :=cL (cL (cR (cL (cR (cR wN)))))
noncomputable abbrev Cr :=cR (cR (cR pV))
noncomputable abbrev Ct :=cR (cR (cR (cL (cL (cR (cR pV))))))
noncomputable def pk :=b9 [(99,gX),(130,AY),(129,nP)]
def qD (x:aa)(r:Bool):St→Prop:=QF pk Tryz.f81 [false] (HT x) (HU r)
theorem Nh (s_1:aa):cW pk 0 (qD s_1) pV 0 (vg s_1) (fun u=>(sT 46 [(0,str s_1)] [] 1)) fun x4=>(sT 46 [(0,str s_1),(20,I (len s_1)),(21,I x4)] [] 1):=eF (Cu s_1) fun {Q K} hK self ih x4 y h hr hn=>by
 unfold nN at h
 refine cq 5 [22] [B (decide (x4<(len s_1)))] 17 ?_
 refine sq h ?_ ?_<;>intro h
 ·refine aq 1 ?_
  refine cq 11 [24,25] [str s_1,I x4] 81 ?_
  obtain⟨c5,hc5,h⟩:=bS h
  refine oq 97 (.int .u8 (c5.toNat:Int)) rfl (mD rfl rfl (qR rfl rfl hc5)) ?_
  refine cq 7 [4,29] [.int .u8 (c5.toNat:Int),B (decide ((c5.toNat:Int)<97))] 161 ?_
  obtain⟨u6,hu6,h⟩:=lJ h
  have j6:Run pk 0 Q (.code Ct::.blk 1::.code Cr::.lp pV::.blk 0::K) (sT 46 [(0,str s_1),(20,I (len s_1)),(21,I x4),(40,B u6)] [] 1):=by
   refine sq h ?_ ?_<;>intro h
   ·refine cq 4 [2] [B false] 17 ?_
    exact b8 rfl (hr _ (ai h) _ (qp [B false]))
   ·refine aq 1 ?_
    refine cq 5 [21] [I (az (x4+1))] 33 ?_
    refine dP ?_
    exact rf [0,20,21] [] (ih _ _ h hr hn :)
  replace h:=hu6
  clear hu6
  refine sp 29 h rfl ?_ ?_<;>intro h
  ·refine cq 7 [33,36] [B true,B (decide ((c5.toNat:Int)<48))] 273 ?_
   obtain⟨u7,hu7,h⟩:=lJ h
   have j7:Run pk 0 Q (.code Ct::.blk 1::.code Cr::.lp pV::.blk 0::K) (sT 46 [(0,str s_1),(20,I (len s_1)),(21,I x4),(40,B u7)] [] 1):=by
    subst h
    exact rf [0,20,21,40] [] (j6 :)
   replace h:=hu7
   clear hu7
   refine sp 36 h rfl ?_ ?_<;>intro h
   ·refine cq 5 [40] [B true] 337 ?_
    subst h
    exact rf [0,20,21,40] [] (j7 :)
   ·refine cq 5 [40] [B (decide ((c5.toNat:Int)>57))] 337 ?_
    subst h
    exact rf [0,20,21,40] [] (j7 :)
  ·refine cq 4 [33] [B (decide ((c5.toNat:Int)>122))] 225 ?_
   obtain⟨u8,hu8,h⟩:=lJ h
   have j8:Run pk 0 Q (.code Ct::.blk 1::.code Cr::.lp pV::.blk 0::K) (sT 46 [(0,str s_1),(20,I (len s_1)),(21,I x4),(40,B u8)] [] 1):=by
    subst h
    exact rf [0,20,21,40] [] (j6 :)
   replace h:=hu8
   clear hu8
   refine sp 33 h rfl ?_ ?_<;>intro h
   ·refine cq 3 [36] [B (decide ((c5.toNat:Int)<48))] 273 ?_
    obtain⟨u9,hu9,h⟩:=lJ h
    have j9:Run pk 0 Q (.code Ct::.blk 1::.code Cr::.lp pV::.blk 0::K) (sT 46 [(0,str s_1),(20,I (len s_1)),(21,I x4),(40,B u9)] [] 1):=by
     subst h
     exact rf [0,20,21,40] [] (j8 :)
    replace h:=hu9
    clear hu9
    refine sp 36 h rfl ?_ ?_<;>intro h
    ·refine cq 5 [40] [B true] 337 ?_
     subst h
     exact rf [0,20,21,40] [] (j9 :)
    ·refine cq 5 [40] [B (decide ((c5.toNat:Int)>57))] 337 ?_
     subst h
     exact rf [0,20,21,40] [] (j9 :)
   ·refine cq 8 [40] [B false] 337 ?_
    subst h
    exact rf [0,20,21,40] [] (j8 :)
 ·refine aq 1 ?_
  exact rf [0] [] (hn _ (ai h) :) (hk:=hK)
theorem WV (s_1:aa)(r:Bool)(h:rQ s_1=some r):bp pk Tryz.f81 [false] 0 (HT s_1) (HU r):=by
 show Run _ _ (qD s_1 r) [.code wN] _
 refine rI 46 [(0,str s_1)] [] 1 ?_
 unfold rQ at h
 refine cq 9 [6] [I (len s_1)] 49 ?_
 obtain⟨r2,hr2,h⟩:=bS h
 refine oq 65 (B r2) rfl (cP (gW hr2)) ?_
 refine cq 2 [9] [B (!r2)] 97 ?_
 obtain⟨y3,hy3,hy31,hy32⟩:=bJ h
 have j3:∀u3,y3=.inr u3→Run pk 0 (qD s_1 r) (.code (cR (cL (cR wN)))::.code (cR (cR wN))::[]) (sT 46 [(0,str s_1),(18,B u3)] [] 1):=by
  intro u3 hu
  replace h:=hy32 u3 hu
  refine sq h ?_ ?_<;>intro h
  ·refine cq 4 [2] [B false] 17 ?_
   obtain rfl:=sI h
   exact rP [B false]
  ·refine aq 1 ?_
   refine cq 8 [20,21] [I (len s_1),I (0)] 49 ?_
   obtain⟨y10,hy10,hy101,hy102⟩:=bJ h
   refine ci rfl ?_
   refine rf [0,20,21] [] (Nh s_1 rfl 0 _ hy10 (fun r' e st hq=>by rw[hy101 r' e] at hq;exact hq) fun u10 hu=>?_)
   replace h:=hy102 u10 hu
   refine aq 2 ?_
   obtain⟨r11,hr11,h⟩:=bS h
   refine oq 17 (.hs 1 0 [] 1 0 (r11.map str).length) rfl (cP (aaj hr11)) ?_
   refine cq 1 [43] [str s_1] 33 ?_
   obtain⟨r12,hr12,h⟩:=bS h
   refine oq 49 (B r12) rfl (cd rfl rfl (cO rfl rfl rfl (bw (WN rfl rfl (fj (f:=str) (g:=str) (xs:=r11) rfl rfl (ce fh))) (bw (bR rfl) dB)) (Da hr12) (.inl rfl) d9 rfl rfl rfl)) ?_
   refine cq 3 [2] [B (!r12)] 81 ?_
   obtain rfl:=sI h
   exact rP [B (!r12)]
 have r3:∀r',y3=.inl r'→∀st,qD s_1 r' st→(qD s_1 r) st:=fun r' e st hq=>by rw[hy31 r' e] at hq;exact hq
 replace h:=hy3
 refine sp 9 h rfl ?_ ?_<;>intro h
 ·refine cq 10 [18] [B true] 241 ?_
  exact rf [0,18] [] (j3 _ (ai h) :)
 ·refine cq 1 [10] [str s_1] 113 ?_
  obtain⟨c13,hc13,h⟩:=bS h
  refine oy 129 (.int .u8 (c13.toNat:Int)) rfl (mD rfl rfl (qR rfl rfl hc13)) ?_
  refine cq 3 [14] [B (decide ((c13.toNat:Int)<97))] 177 ?_
  obtain⟨y14,hy14,hy141,hy142⟩:=bL h
  have j14:∀u14,y14=.inr u14→Run pk 0 (qD s_1 r) (.code (cR (cL (cR wN)))::.code (cR (cR wN))::[]) (sT 46 [(0,str s_1),(18,B u14)] [] 1):=by
   intro u14 hu
   replace h:=hy142 u14 hu
   exact rf [0,18] [] (j3 _ (ai h) :)
  have r14:∀r',y14=.inl r'→∀st,qD s_1 r' st→(qD s_1 r) st:=fun r' e st hq=>r3 r' (hy141 r' e) st hq
  replace h:=hy14
  refine sp 14 h rfl ?_ ?_<;>intro h
  ·refine cq 5 [18] [B true] 241 ?_
   exact rf [0,18] [] (j14 _ (ai h) :)
  ·refine cq 1 [15] [str s_1] 193 ?_
   obtain⟨c15,hc15,h⟩:=bS h
   refine oy 209 (.int .u8 (c15.toNat:Int)) rfl (mD rfl rfl (qR rfl rfl hc15)) ?_
   refine cq 3 [18] [B (decide ((c15.toNat:Int)>122))] 241 ?_
   exact rf [0,18] [] (j14 _ (ai h) :)
theorem pU {G:bU}:bQ G 81 nM:=gT 1 0 (aJ ij (aJ RU (aJ qF bv))) ca Tryz.func81 (fun a r h=>WV a r h)
def H1:(List aa)→List V:=oA (eW str)
def H3 (r:Bool):V×List V:=(B r,[])
noncomputable def Ge :=ba [false] H1 H3 fun x=>JP x
theorem aa4 {ar:List aa}{r}(h:JP ar=some r):Ge.F (H1 ar)=some (H3 r):=aH (aI (bu bc)) h
noncomputable def EJ :=aF Tryz.f98
noncomputable def H2 :=b9 [(81,nM),(129,nP),(99,gX)]
def NE (x:(List aa))(r:Bool):St→Prop:=QF H2 Tryz.f98 [false] (H1 x) (H3 r)
theorem NF (ar:List aa):cW H2 0 (NE ar) (cL (cL (cR (cL (cR EJ))))) 0 (vS ar) (fun u=>(sT 26 [(0,.isl false (ar.map str))] [] 1)) fun x2=>(sT 26 [(0,.isl false (ar.map str)),(5,.isl false (ar.map str)),(6,I (len ar)),(7,I x2)] [] 1):=eF (EK ar) fun {Q K} hK self ih x2 y h hr hn=>by
 unfold lS at h
 refine cq 5 [8] [B (decide (x2<(len ar)))] 17 ?_
 refine sq h ?_ ?_<;>intro h
 ·refine aq 1 ?_
  refine cq 5 [9] [I x2] 33 ?_
  obtain⟨e3,he3,h⟩:=bS h
  refine oq 49 (.iptr (str e3) 0) rfl (au rfl rfl rfl (aV rfl rfl rfl rfl he3)) ?_
  refine cq 7 [3,4,12] [I x2,str e3,str e3] 113 ?_
  obtain⟨r4,hr4,h⟩:=bS h
  refine oq 129 (B r4) rfl (cP (wM hr4)) ?_
  refine cq 2 [15] [B (!r4)] 161 ?_
  obtain⟨y5,hy5,hy51,hy52⟩:=bL h
  have j5:∀u5,y5=.inr u5→Run H2 0 Q (.code (cR (cR (cL (cL (cR (cR (cL (cL (cR (cL (cR EJ)))))))))))::.blk 1::.code (cR (cR (cR (cL (cL (cR (cL (cR EJ))))))))::.lp (cL (cL (cR (cL (cR EJ)))))::.blk 0::K) (sT 26 [(0,.isl false (ar.map str)),(5,.isl false (ar.map str)),(6,I (len ar)),(7,I x2),(21,B u5)] [] 1):=by
   intro u5 hu
   replace h:=hy52 u5 hu
   refine sq h ?_ ?_<;>intro h
   ·refine cq 4 [2] [B false] 17 ?_
    exact b8 rfl (hr _ (ai h) _ (qp [B false]))
   ·refine aq 1 ?_
    refine cq 5 [7] [I (az (x2+1))] 33 ?_
    refine dP ?_
    exact rf [0,5,6,7] [] (ih _ _ h hr hn :)
  have r5:∀r',y5=.inl r'→∀st,NE ar r' st→Q st:=fun r' e st hq=>hr r' (hy51 r' e) st hq
  replace h:=hy5
  refine sp 15 h rfl ?_ ?_<;>intro h
  ·refine cq 7 [21] [B true] 257 ?_
   exact rf [0,5,6,7,21] [] (j5 _ (ai h) :)
  ·refine cq 2 [16,17] [.isl false (ar.map str),I x2] 193 ?_
   obtain⟨s6,hs6,h⟩:=bS h
   refine oy 209 (.isl false (s6.map str)) rfl (ig rfl rfl rfl rfl (K5 rfl rfl (fun y=>(jp y).1) rfl rfl hs6)) ?_
   refine cq 1 [19] [str e3] 225 ?_
   obtain⟨r7,hr7,h⟩:=bS h
   refine oy 241 (B r7) rfl (cP (Da hr7)) ?_
   refine cq 2 [21] [B r7] 257 ?_
   exact rf [0,5,6,7,21] [] (j5 _ (ai h) :)
 ·refine aq 1 ?_
  exact rf [0] [] (hn _ (ai h) :) (hk:=hK)
theorem W7 (ar:List aa)(r:Bool)(h:JP ar=some r):bp H2 Tryz.f98 [false] 0 (H1 ar) (H3 r):=by
 show Run _ _ (NE ar r) [.code EJ] _
 refine rI 26 [(0,.isl false (ar.map str))] [] 1 ?_
 unfold JP at h
 refine cq 8 [5] [.isl false (ar.map str)] 33 ?_
 refine oq 49 (I (len ar)) rfl (bq rfl rfl rfl (bB rfl)) ?_
 refine cq 3 [7] [I (0)] 65 ?_
 obtain⟨y8,hy8,hy81,hy82⟩:=bJ h
 refine ci rfl ?_
 refine rf [0,5,6,7] [] (NF ar rfl 0 _ hy8 (fun r' e st hq=>by rw[hy81 r' e] at hq;exact hq) fun u8 hu=>?_)
 replace h:=hy82 u8 hu
 refine cq 3 [23] [.isl false (ar.map str)] 17 ?_
 refine oq 33 (I (len ar)) rfl (bq rfl rfl rfl (bB rfl)) ?_
 obtain⟨r9,hr9,h⟩:=bS h
 refine oq 49 (B r9) rfl (cP (gW hr9)) ?_
 refine cq 2 [2] [B r9] 65 ?_
 obtain rfl:=sI h
 exact rP [B r9]
theorem U1 {G:bU}:bQ G 98 Ge:=gT 1 0 (aJ pU (aJ qF (aJ ij bv))) ca Tryz.func98 (fun a r h=>W7 a r h)
def H9:(Clause×aa)→List V:=cA aj (oA (fun x:aa=>.iptr (str x) 0))
def Ia (r:Bool):V×List V:=(B r,[])
noncomputable def Gh :=ba [false,false] H9 Ia fun x=>RZ x.1 x.2
theorem aa8 {x_1:Clause}{a_2:aa}{r}(h:RZ x_1 a_2=some r):Gh.F (H9 (x_1,a_2))=some (Ia r):=aH (aN cB (aI (fz bc))) h
noncomputable def aba :=aF Tryz.f175
noncomputable def Wq :=b9 []
def aa9 (x:Clause×aa)(r:Bool):St→Prop:=QF Wq Tryz.f175 [false,false] (H9 x) (Ia r)
theorem Xa (x_1:Clause)(a_2:aa)(r:Bool)(h:RZ x_1 a_2=some r):bp Wq Tryz.f175 [false,false] 0 (H9 (x_1,a_2)) (Ia r):=by
 show Run _ _ (aa9 (x_1,a_2) r) [.code aba] _
 refine rI 8 [(0,ao x_1),(1,.iptr (str a_2) 0)] [] 1 ?_
 unfold RZ at h
 refine cq 13 [3] [B (x_1.Id==a_2)] 113 ?_
 obtain rfl:=sI h
 exact rP [B (x_1.Id==a_2)]
theorem U4 {G:bU}:bQ G 175 Gh:=gT 2 0 bv ca Tryz.func175 (fun a r h=>Xa a.1 a.2 r h)
def Dc:((List Clause)×aa)→List V:=cA (eW aj) (oA (fun x:aa=>(.fn 175 [.iptr (str x) 0]:V)))
def Dd (r:Int):V×List V:=(I r,[])
noncomputable def zZ :=ba [false,false] Dc Dd fun x=>FY x.1 x.2
theorem ZK {s_1:List Clause}{f_2:aa}{r}(h:FY s_1 f_2=some r):zZ.F (Dc (s_1,f_2))=some (Dd r):=aH (aN (bu cB) (aI (sY bc))) h
noncomputable def QC :=aF Tryz.f110
noncomputable def Jn :=b9 [(175,Gh)]
def QB (x:(List Clause)×aa)(r:Int):St→Prop:=QF Jn Tryz.f110 [false,false] (Dc x) (Dd r)
theorem LB (s_1:List Clause)(f_2:aa):cW Jn 0 (QB (s_1,f_2)) (cL (cL (cR (cL (cR QC))))) 0 (rY s_1 f_2) (fun u=>(sT 19 [] [] 1)) fun x3=>(sT 19 [(0,.isl false (s_1.map aj)),(1,.fn 175 [.iptr (str f_2) 0]),(7,I (len s_1)),(8,I x3)] [] 1):=eF (xH s_1 f_2) fun {Q K} hK self ih x3 y h hr hn=>by
 unfold mf at h
 refine cq 5 [9] [B (decide (x3<(len s_1)))] 17 ?_
 refine sq h ?_ ?_<;>intro h
 ·refine aq 1 ?_
  refine cq 12 [5,11,12,13] [I x3,.fn 175 [.iptr (str f_2) 0],.isl false (s_1.map aj),I x3] 97 ?_
  obtain⟨e4,he4,h⟩:=bS h
  refine oq 113 (.iptr (ao e4) 0) rfl (au rfl rfl rfl (aV rfl rfl rfl rfl he4)) ?_
  refine cq 1 [15] [ao e4] 129 ?_
  obtain⟨r5,hr5,h⟩:=bS h
  refine oq 145 (B r5) rfl (cP (aa8 hr5)) ?_
  refine aq 1 ?_
  refine sq h ?_ ?_<;>intro h
  ·refine cq 5 [4] [I x3] 177 ?_
   exact b8 rfl (hr _ (ai h) _ (qp [I x3]))
  ·refine aq 1 ?_
   refine cq 5 [8] [I (az (x3+1))] 177 ?_
   refine dP ?_
   exact rf [0,1,7,8] [] (ih _ _ h hr hn :)
 ·refine aq 1 ?_
  exact rf [] [] (hn _ (ai h) :) (hk:=hK)
theorem Uf (s_1:List Clause)(f_2:aa)(r:Int)(h:FY s_1 f_2=some r):bp Jn Tryz.f110 [false,false] 0 (Dc (s_1,f_2)) (Dd r):=by
 show Run _ _ (QB (s_1,f_2) r) [.code QC] _
 refine rI 19 [(0,.isl false (s_1.map aj)),(1,.fn 175 [.iptr (str f_2) 0])] [] 1 ?_
 unfold FY at h
 refine cq 8 [6] [.isl false (s_1.map aj)] 33 ?_
 refine oq 49 (I (len s_1)) rfl (bq rfl rfl rfl (bB rfl)) ?_
 refine cq 3 [8] [I (0)] 65 ?_
 obtain⟨y6,hy6,hy61,hy62⟩:=bJ h
 refine ci rfl ?_
 refine rf [0,1,7,8] [] (LB s_1 f_2 rfl 0 _ hy6 (fun r' e st hq=>by rw[hy61 r' e] at hq;exact hq) fun u6 hu=>?_)
 replace h:=hy62 u6 hu
 refine cq 4 [4] [I (-1)] 17 ?_
 obtain rfl:=sI h
 exact rP [I (-1)]
theorem QD {G:bU}:bQ G 110 zZ:=gT 2 0 (aJ U4 bv) ca Tryz.func110 (fun a r h=>Uf a.1 a.2 r h)
def H7:(Contract×aa)→List V:=cA aO (oA str)
def H8 (r:Int):V×List V:=(I r,[])
noncomputable def Gg :=ba [false,false] H7 H8 fun x=>EM x.1 x.2
theorem Wp {c_1:Contract}{eE:aa}{r}(h:EM c_1 eE=some r):Gg.F (H7 (c_1,eE))=some (H8 r):=aH (aN aZ (aI bc)) h
noncomputable def aa7 :=aF Tryz.f140
noncomputable def Wo :=b9 [(110,zZ)]
def aa6 (x:Contract×aa)(r:Int):St→Prop:=QF Wo Tryz.f140 [false,false] (H7 x) (H8 r)
theorem W9 (c_1:Contract)(eE:aa)(r:Int)(h:EM c_1 eE=some r):bp Wo Tryz.f140 [false,false] 0 (H7 (c_1,eE)) (H8 r):=by
 show Run _ _ (aa6 (c_1,eE) r) [.code aa7] _
 refine rI 9 [(0,ac c_1),(1,str eE)] [] 1 ?_
 unfold EM at h
 refine ck 11 [6,7] [] [17] [] [.isl false (c_1.Clauses.map aj),.fn 175 [.hp 17 0 [] 1 0 0]] [some ⟨0,1,[str eE]⟩] 97 (by kernel_rfl) ?_
 obtain⟨r3,hr3,h⟩:=bS h
 refine oq 113 (I r3) rfl (cd rfl rfl (cO rfl rfl rfl (bw (bR rfl) (bw (Hz (d6 (kR (path:=[]) rfl rfl bb rfl rfl) lr)) dB)) (ZK hr3) (.inl rfl) d9 rfl rfl rfl)) ?_
 refine cq 2 [4] [I r3] 129 ?_
 obtain rfl:=sI h
 exact rP [I r3]
theorem U3 {G:bU}:bQ G 140 Gg:=gT 2 0 (aJ QD bv) ca Tryz.func140 (fun a r h=>W9 a.1 a.2 r h)
def Il:Int→List V:=oA I
def Im (r:Bool):V×List V:=(B r,[])
noncomputable def sL :=ba [false] Il Im fun x=>nD x
theorem tM {gm:Int}{r}(h:nD gm=some r):sL.F (Il gm)=some (Im r):=aH (aI bC) h
noncomputable def abh :=aF Tryz.f78
noncomputable def Wv :=b9 [(99,gX)]
def abg (x:Int)(r:Bool):St→Prop:=QF Wv Tryz.f78 [false] (Il x) (Im r)
theorem Xi (gm:Int)(r:Bool)(h:nD gm=some r):bp Wv Tryz.f78 [false] 0 (Il gm) (Im r):=by
 show Run _ _ (abg gm r) [.code abh] _
 refine rI 5 [(0,I gm)] [] 1 ?_
 unfold nD at h
 refine cq 7 [3] [I gm] 33 ?_
 obtain⟨r2,hr2,h⟩:=bS h
 refine oq 49 (B r2) rfl (cP (gW hr2)) ?_
 refine cq 2 [2] [B r2] 65 ?_
 obtain rfl:=sI h
 exact rP [B r2]
theorem A7 {G:bU}:bQ G 78 sL:=gT 1 0 (aJ ij bv) ca Tryz.func78 (fun a r h=>Xi a r h)
def EN:(Condition×Int)→List V:=cA bg (oA I)
def EO (r:Int):V×List V:=(I r,[])
noncomputable def A4 (aW:(Condition×Int)→Option Int):Ent:=ba [false,false] EN EO aW
theorem R3 (aW:(Condition×Int)→Option Int){x}{r}(h:aW x=some r):(A4 aW).F (EN x)=some (EO r):=aH (aN cG (aI bC)) h
noncomputable def Gi :=A4 (aM lG)
theorem abb {c_1:Condition}{cC:Int}{r}(h:R1 c_1 cC=some r):Gi.F (EN (c_1,cC))=some (EO r):=R3 (aM lG) h
noncomputable def tK :=aF Tryz.f176
noncomputable abbrev oL :=cR (cR (cR (cR (cR tK))))
noncomputable abbrev qc :=cR (cL (cR (cR (cR (cR tK)))))
noncomputable def lF (aW:(Condition×Int)→Option Int):Env:=b9 [(176,(A4 aW)),(81,nM),(78,sL),(99,gX)]
def eN (aW:(Condition×Int)→Option Int)(x:Condition×Int)(r:Int):St→Prop:=QF (lF aW) Tryz.f176 [false,false] (EN x) (EO r)
theorem NG (aW:(Condition×Int)→Option Int)(c_1:Condition)(cC:Int):cW (lF aW) 0 (eN aW (c_1,cC)) (cL (cL (cR (cL oL)))) 0 (lz aW c_1 cC) (fun u=>(sT 78 [(1,I u)] [] 1)) fun x5=>(sT 78 [(1,I x5.1),(65,.isl false (c_1.Parts.map ay)),(66,I (len c_1.Parts)),(67,I x5.2)] [] 1):=eF (EP aW c_1 cC) fun {Q K} hK self ih x5 y h hr hn=>by
 unfold kD at h
 refine cq 5 [68] [B (decide (x5.2<(len c_1.Parts)))] 17 ?_
 refine sq h ?_ ?_<;>intro h
 ·refine aq 1 ?_
  refine aq 4 ?_
  obtain⟨e6,he6,h⟩:=bS h
  refine oq 33 (.iptr (ah e6) 0) rfl (au rfl rfl rfl (aV rfl rfl (bA e6) rfl he6)) ?_
  refine ck 2 [7,70] [] [49] [] [.hp 49 0 [] 4 0 0,ah e6] [some ⟨0,4,[.agg [I (0),str ([]),I (0),.isl true []]]⟩] 65 (by kernel_rfl) ?_
  refine eJ 49 [.agg [I (0),str ([]),I (0),.usl 4 (([]).map aC)]] rfl rfl (aD (fD (aD (.refl _) (aD (.refl _) (aD (.refl _) (aD (.nil _) dT))))) dT) ?_
  refine ck 6 [71,72] [] [49] [] [ah e6,I x5.1] [some ⟨2,4,[ah e6]⟩] 113 (by kernel_rfl) ?_
  obtain⟨r7,hr7,h⟩:=bS h
  refine oq 129 (I r7) rfl (cd rfl rfl (cO rfl rfl rfl (bw (bR rfl) (bw (bR rfl) dB)) (R3 aW hr7) (.inr rfl) d9 rfl rfl rfl)) ?_
  refine cq 7 [1,75] [I r7,B (decide (r7<0))] 177 ?_
  refine sq h ?_ ?_<;>intro h
  ·refine cq 4 [4] [I (-1)] 193 ?_
   exact b8 rfl (hr _ (ai h) _ (qp [I (-1)]))
  ·refine aq 1 ?_
   refine cq 5 [67] [I (az (x5.2+1))] 209 ?_
   refine dP ?_
   exact rf [1,65,66,67] [] (ih _ _ h hr hn :)
 ·refine aq 1 ?_
  exact rf [1] [] (hn _ (ai h) :) (hk:=hK)
theorem Xc (aW:(Condition×Int)→Option Int)(c_1:Condition)(cC:Int)(r:Int)(h:wU aW c_1 cC=some r):bp (lF aW) Tryz.f176 [false,false] 0 (EN (c_1,cC)) (EO r):=by
 show Run _ _ (eN aW (c_1,cC) r) [.code tK] _
 refine rI 78 [(0,ah c_1),(1,I cC)] [] 1 ?_
 unfold wU at h
 refine ck 13 [1,2] [] [1] [] [I (az (cC+1)),.hp 1 0 [] 4 0 0] [some ⟨0,4,[ah c_1]⟩] 81 (by kernel_rfl) ?_
 refine oq 97 (.hs 81 0 [] 1 0 7) rfl (ft rfl (oo (f:=I) (xs:=[]) (z:=I (0)) (es:=[I (-1),I (0),I (0),I (0),I (1),I (2),I (2)]) (ws:=[I (-1),I (0),I (0),I (0),I (1),I (2),I (2)]) rfl rfl rfl (by decide) rfl (eo rfl) rfl)) ?_
 refine cq 4 [5] [.hs 81 0 [] 1 0 7] 113 ?_
 refine ez [0,1,3,7,15,31,63,127,255,511,1023,2047,511,511,8703,29183,61951,131071,262143] rfl (by decide +kernel) ?_
 refine dk 3 [13,12,11] [B (decide ((az (cC+1))>15)),B (decide ((az (cC+1))>15)),I (az (cC+1))] ?_
 obtain⟨y3,hy3,hy31,hy32⟩:=bJ h
 have j3:∀u3,y3=.inr u3→Run (lF aW) 0 (eN aW (c_1,cC) r) (.code (cR (cL (cR (cR (cR tK)))))::.code (cR (cR (cR (cR tK))))::[]) (sT 78 [(1,I (az (cC+1))),(2,.hp 1 0 [] 4 0 0),(29,B u3)] [⟨0,4,[ah c_1]⟩] 2):=by
  intro u3 hu
  replace h:=hy32 u3 hu
  refine sq h ?_ ?_<;>intro h
  ·refine cq 4 [4] [I (-1)] 18 ?_
   obtain rfl:=sI h
   exact rP [I (-1)]
  ·refine aq 1 ?_
   refine cq 11 [37] [B (!((c_1.Op==2)==(!(c_1.Name==([]:aa)))))] 130 ?_
   obtain⟨y4,hy4,hy41,hy42⟩:=bJ h
   have j4:∀u4,y4=.inr u4→Run (lF aW) 0 (eN aW (c_1,cC) r) (.code qc::.code oL::[]) (sT 78 [(1,I (az (cC+1))),(2,.hp 1 0 [] 4 0 0),(63,B u4)] [⟨0,4,[ah c_1]⟩] 2):=by
    intro u4 hu
    replace h:=hy42 u4 hu
    refine sq h ?_ ?_<;>intro h
    ·refine cq 4 [4] [I (-1)] 18 ?_
     obtain rfl:=sI h
     exact rP [I (-1)]
    ·refine aq 1 ?_
     refine cq 5 [65] [.isl false (c_1.Parts.map ay)] 34 ?_
     refine oq 50 (I (len c_1.Parts)) rfl (bq rfl rfl rfl (bB rfl)) ?_
     refine cq 3 [67] [I (0)] 66 ?_
     obtain⟨y8,hy8,hy81,hy82⟩:=bJ h
     refine ci rfl ?_
     refine rf [1,65,66,67] [] (NG aW c_1 cC rfl ((az (cC+1)),0) _ hy8 (fun r' e st hq=>by rw[hy81 r' e] at hq;exact hq) fun u8 hu=>?_)
     replace h:=hy82 u8 hu
     refine cq 5 [4] [I u8] 33 ?_
     obtain rfl:=sI h
     exact rP [I u8]
   have r4:∀r',y4=.inl r'→∀st,eN aW (c_1,cC) r' st→(eN aW (c_1,cC) r) st:=fun r' e st hq=>by rw[hy41 r' e] at hq;exact hq
   replace h:=hy4
   refine sp 37 h rfl ?_ ?_<;>intro h
   ·refine cq 27 [63] [B true] 546 ?_
    exact rf [1,2,63] [1] (j4 _ (ai h) :)
   ·refine cq 4 [41] [B (c_1.Op==2)] 194 ?_
    obtain⟨y9,hy9,hy91,hy92⟩:=bL h
    have j9:∀u9,y9=.inr u9→Run (lF aW) 0 (eN aW (c_1,cC) r) (.code qc::.code oL::[]) (sT 78 [(1,I (az (cC+1))),(2,.hp 1 0 [] 4 0 0),(63,B u9)] [⟨0,4,[ah c_1]⟩] 2):=by
     intro u9 hu
     replace h:=hy92 u9 hu
     exact rf [1,2,63] [1] (j4 _ (ai h) :)
    have r9:∀r',y9=.inl r'→∀st,eN aW (c_1,cC) r' st→(eN aW (c_1,cC) r) st:=fun r' e st hq=>r4 r' (hy91 r' e) st hq
    replace h:=hy9
    refine sp 41 h rfl ?_ ?_<;>intro h
    ·refine cq 2 [43] [str c_1.Name] 226 ?_
     obtain⟨r10,hr10,h⟩:=bS h
     refine oy 242 (B r10) rfl (cP (wM hr10)) ?_
     refine cq 4 [48] [B (!r10)] 306 ?_
     obtain⟨y11,hy11,hy111,hy112⟩:=bL h
     have j11:∀u11,y11=.inr u11→Run (lF aW) 0 (eN aW (c_1,cC) r) (.code qc::.code oL::[]) (sT 78 [(1,I (az (cC+1))),(2,.hp 1 0 [] 4 0 0),(63,B u11)] [⟨0,4,[ah c_1]⟩] 2):=by
      intro u11 hu
      replace h:=hy112 u11 hu
      exact rf [1,2,63] [1] (j9 _ (ai h) :)
     have r11:∀r',y11=.inl r'→∀st,eN aW (c_1,cC) r' st→(eN aW (c_1,cC) r) st:=fun r' e st hq=>r9 r' (hy111 r' e) st hq
     replace h:=hy11
     refine sp 48 h rfl ?_ ?_<;>intro h
     ·refine cq 16 [63] [B true] 546 ?_
      exact rf [1,2,63] [1] (j11 _ (ai h) :)
     ·refine cq 4 [52] [B (c_1.Op != 3)] 370 ?_
      obtain⟨y12,hy12,hy121,hy122⟩:=bL h
      have j12:∀u12,y12=.inr u12→Run (lF aW) 0 (eN aW (c_1,cC) r) (.code qc::.code oL::[]) (sT 78 [(1,I (az (cC+1))),(2,.hp 1 0 [] 4 0 0),(63,B u12)] [⟨0,4,[ah c_1]⟩] 2):=by
       intro u12 hu
       replace h:=hy122 u12 hu
       exact rf [1,2,63] [1] (j11 _ (ai h) :)
      have r12:∀r',y12=.inl r'→∀st,eN aW (c_1,cC) r' st→(eN aW (c_1,cC) r) st:=fun r' e st hq=>r11 r' (hy121 r' e) st hq
      replace h:=hy12
      refine sp 52 h rfl ?_ ?_<;>intro h
      ·refine cq 6 [58] [B (c_1.Day != 0)] 466 ?_
       obtain⟨y13,hy13,hy131,hy132⟩:=bL h
       have j13:∀u13,y13=.inr u13→Run (lF aW) 0 (eN aW (c_1,cC) r) (.code qc::.code oL::[]) (sT 78 [(1,I (az (cC+1))),(2,.hp 1 0 [] 4 0 0),(63,B u13)] [⟨0,4,[ah c_1]⟩] 2):=by
        intro u13 hu
        replace h:=hy132 u13 hu
        exact rf [1,2,63] [1] (j12 _ (ai h) :)
       have r13:∀r',y13=.inl r'→∀st,eN aW (c_1,cC) r' st→(eN aW (c_1,cC) r) st:=fun r' e st hq=>r12 r' (hy131 r' e) st hq
       replace h:=hy13
       refine sp 58 h rfl ?_ ?_<;>intro h
       ·refine cq 6 [63] [B true] 546 ?_
        exact rf [1,2,63] [1] (j13 _ (ai h) :)
       ·refine cq 2 [60] [I c_1.Day] 498 ?_
        obtain⟨r14,hr14,h⟩:=bS h
        refine oy 514 (B r14) rfl (cP (tM hr14)) ?_
        refine cq 3 [63] [B (!r14)] 546 ?_
        exact rf [1,2,63] [1] (j13 _ (ai h) :)
      ·refine cq 8 [58,60] [B false,I c_1.Day] 498 ?_
       obtain⟨r15,hr15,h⟩:=bS h
       refine oy 514 (B r15) rfl (cP (tM hr15)) ?_
       refine cq 3 [63] [B (!r15)] 546 ?_
       exact rf [1,2,63] [1] (j12 _ (ai h) :)
    ·refine cq 11 [48,52] [B false,B (c_1.Op != 3)] 370 ?_
     obtain⟨y16,hy16,hy161,hy162⟩:=bL h
     have j16:∀u16,y16=.inr u16→Run (lF aW) 0 (eN aW (c_1,cC) r) (.code qc::.code oL::[]) (sT 78 [(1,I (az (cC+1))),(2,.hp 1 0 [] 4 0 0),(63,B u16)] [⟨0,4,[ah c_1]⟩] 2):=by
      intro u16 hu
      replace h:=hy162 u16 hu
      exact rf [1,2,63] [1] (j9 _ (ai h) :)
     have r16:∀r',y16=.inl r'→∀st,eN aW (c_1,cC) r' st→(eN aW (c_1,cC) r) st:=fun r' e st hq=>r9 r' (hy161 r' e) st hq
     replace h:=hy16
     refine sp 52 h rfl ?_ ?_<;>intro h
     ·refine cq 6 [58] [B (c_1.Day != 0)] 466 ?_
      obtain⟨y17,hy17,hy171,hy172⟩:=bL h
      have j17:∀u17,y17=.inr u17→Run (lF aW) 0 (eN aW (c_1,cC) r) (.code qc::.code oL::[]) (sT 78 [(1,I (az (cC+1))),(2,.hp 1 0 [] 4 0 0),(63,B u17)] [⟨0,4,[ah c_1]⟩] 2):=by
       intro u17 hu
       replace h:=hy172 u17 hu
       exact rf [1,2,63] [1] (j16 _ (ai h) :)
      have r17:∀r',y17=.inl r'→∀st,eN aW (c_1,cC) r' st→(eN aW (c_1,cC) r) st:=fun r' e st hq=>r16 r' (hy171 r' e) st hq
      replace h:=hy17
      refine sp 58 h rfl ?_ ?_<;>intro h
      ·refine cq 6 [63] [B true] 546 ?_
       exact rf [1,2,63] [1] (j17 _ (ai h) :)
      ·refine cq 2 [60] [I c_1.Day] 498 ?_
       obtain⟨r18,hr18,h⟩:=bS h
       refine oy 514 (B r18) rfl (cP (tM hr18)) ?_
       refine cq 3 [63] [B (!r18)] 546 ?_
       exact rf [1,2,63] [1] (j17 _ (ai h) :)
     ·refine cq 8 [58,60] [B false,I c_1.Day] 498 ?_
      obtain⟨r19,hr19,h⟩:=bS h
      refine oy 514 (B r19) rfl (cP (tM hr19)) ?_
      refine cq 3 [63] [B (!r19)] 546 ?_
      exact rf [1,2,63] [1] (j16 _ (ai h) :)
 have r3:∀r',y3=.inl r'→∀st,eN aW (c_1,cC) r' st→(eN aW (c_1,cC) r) st:=fun r' e st hq=>by rw[hy31 r' e] at hq;exact hq
 replace h:=hy3
 refine sp 13 h rfl ?_ ?_<;>intro h
 ·refine dk 16 [29,28,27,26,25,24,23,22,21,20,19,18,17,16,15,14] [B true,.und,.und,.und,.und,.und,.und,.und,.und,.und,B true,B true,.und,.und,.und,.und] ?_
  refine de 417 rfl rfl ?_
  exact rf [1,2,29] [1] (j3 _ (ai h) :)
 ·refine dy [1] [] (.hp 1 0 [] 4 0 0) rfl (al rfl rfl rfl) ?_
  refine dy [1] [] (I c_1.Op) rfl (aY rfl rfl) ?_
  obtain⟨r20,hr20,h⟩:=bS h
  refine dy [] [] (B r20) rfl (cP (gW hr20)) ?_ (dE rfl rfl rfl rfl (bw (bR rfl) (bw (bR rfl) (bw (bR rfl) dB))) (gW hr20) (.inr rfl) rfl)
  refine dk 3 [19,18,17] [B (!r20),B (!r20),B (!r20)] ?_
  obtain⟨y21,hy21,hy211,hy212⟩:=bL h
  have j21:∀u21,y21=.inr u21→Run (lF aW) 0 (eN aW (c_1,cC) r) (.code (cR (cL (cR (cR (cR tK)))))::.code (cR (cR (cR (cR tK))))::[]) (sT 78 [(1,I (az (cC+1))),(2,.hp 1 0 [] 4 0 0),(29,B u21)] [⟨0,4,[ah c_1]⟩] 2):=by
   intro u21 hu
   replace h:=hy212 u21 hu
   exact rf [1,2,29] [1] (j3 _ (ai h) :)
  have r21:∀r',y21=.inl r'→∀st,eN aW (c_1,cC) r' st→(eN aW (c_1,cC) r) st:=fun r' e st hq=>r3 r' (hy211 r' e) st hq
  replace h:=hy21
  refine sp 19 h rfl ?_ ?_<;>intro h
  ·refine dk 10 [29,28,27,26,25,24,23,22,21,20] [B true,.und,.und,.und,.und,.und,.und,.und,.und,.und] ?_
   refine de 417 rfl rfl ?_
   exact rf [1,2,29] [1] (j21 _ (ai h) :)
  ·refine dy [1] [] (.hp 1 0 [] 4 0 3) rfl (al rfl rfl rfl) ?_
   refine dy [1] [] (.isl false (c_1.Parts.map ay)) rfl (aY rfl rfl) ?_
   refine dy [] [] (I (len c_1.Parts)) rfl (bq rfl rfl rfl (bB rfl)) ?_
   refine dk 1 [23] [.hs 81 0 [] 1 0 7] ?_
   refine dy [1] [] (.hp 1 0 [] 4 0 0) rfl (al rfl rfl rfl) ?_
   refine dy [1] [] (I c_1.Op) rfl (aY rfl rfl) ?_
   obtain⟨e22,he22,h⟩:=bS h
   refine dy [81] [] (.hp 81 0 [] 1 (0+Int.toNat c_1.Op) 0) rfl (au rfl rfl rfl (i6 (f:=I) (xs:=[(-1),0,0,0,1,2,2]) rfl rfl rfl he22)) ?_
   refine dy [81] [] (I e22) rfl (aY rfl (qS (path:=[]) rfl rfl rfl bb (gU (f:=I) (xs:=[(-1),0,0,0,1,2,2]) he22) rfl rfl rfl)) ?_
   refine dk 2 [29,28] [B ((len c_1.Parts) != e22),B ((len c_1.Parts) != e22)] ?_
   refine de 417 rfl rfl ?_
   exact rf [1,2,29] [1] (j21 _ (ai h) :)
theorem U5 {G:bU}:bQ G 176 Gi:=iB fun aW g_Ffk=>gT 2 0 (aJ g_Ffk (aJ pU (aJ A7 (aJ ij bv)))) ca Tryz.func176 (fun a r h=>Xc aW a.1 a.2 r h)
def HN:Condition→List V:=oA bg
def HO (r:Bool):V×List V:=(B r,[])
noncomputable def FO :=ba [false] HN HO fun x=>IY x
theorem aaW {c_1:Condition}{r}(h:IY c_1=some r):FO.F (HN c_1)=some (HO r):=aH (aI cG) h
noncomputable def aaY :=aF Tryz.f141
noncomputable def Wj :=b9 [(176,Gi)]
def aaX (x:Condition)(r:Bool):St→Prop:=QF Wj Tryz.f141 [false] (HN x) (HO r)
theorem WR (c_1:Condition)(r:Bool)(h:IY c_1=some r):bp Wj Tryz.f141 [false] 0 (HN c_1) (HO r):=by
 show Run _ _ (aaX c_1 r) [.code aaY] _
 refine rI 6 [(0,ah c_1)] [] 1 ?_
 unfold IY at h
 refine cq 8 [3] [ah c_1] 49 ?_
 obtain⟨r2,hr2,h⟩:=bS h
 refine oq 65 (I r2) rfl (cP (abb hr2)) ?_
 refine cq 3 [2] [B (decide (r2>0))] 97 ?_
 obtain rfl:=sI h
 exact rP [B (decide (r2>0))]
theorem Tj {G:bU}:bQ G 141 FO:=gT 1 0 (aJ U5 bv) ca Tryz.func141 (fun a r h=>WR a r h)
def Ij:(Contract×Int)→List V:=cA aO (oA I)
def Ik (r:Bool):V×List V:=(B r,[])
noncomputable def Gl :=ba [false,false] Ij Ik fun x=>JS x.1 x.2
theorem abf {c_1:Contract}{i_2:Int}{r}(h:JS c_1 i_2=some r):Gl.F (Ij (c_1,i_2))=some (Ik r):=aH (aN aZ (aI bC)) h
noncomputable def kZ :=aF Tryz.f100
noncomputable abbrev JT :=cR (cL (cR (cR (cR (cR kZ)))))
noncomputable abbrev vT :=cR (cR (cR (cR (cR (cR kZ)))))
noncomputable abbrev EU :=cR (cL (cR (cR (cR (cR (cR kZ))))))
noncomputable abbrev JU :=cR (cR (cR vT))
noncomputable def jq :=b9 [(81,nM),(99,gX),(140,Gg),(141,FO)]
def ed (x:Contract×Int)(r:Bool):St→Prop:=QF jq Tryz.f100 [false,false] (Ij x) (Ik r)
theorem Xh (c_1:Contract)(i_2:Int)(r:Bool)(h:JS c_1 i_2=some r):bp jq Tryz.f100 [false,false] 0 (Ij (c_1,i_2)) (Ik r):=by
 show Run _ _ (ed (c_1,i_2) r) [.code kZ] _
 refine rI 119 [(0,ac c_1),(1,I i_2)] [] 1 ?_
 unfold JS at h
 refine ck 10 [2,9,10] [] [1] [] [.hp 1 0 [] 2 0 0,.isl false (c_1.Clauses.map aj),I i_2] [some ⟨0,2,[ac c_1]⟩] 81 (by kernel_rfl) ?_
 obtain⟨e3,he3,h⟩:=bS h
 refine oq 97 (.iptr (ao e3) 0) rfl (au rfl rfl rfl (aV rfl rfl rfl rfl he3)) ?_
 refine ck 2 [5,12] [] [113] [] [.hp 113 0 [] 12 0 0,ao e3] [some ⟨0,12,[.agg [str ([]),I (0),I (0),str ([]),I (0),I (0),I (0),str ([]),I (0),.isl true [],I (0),str ([])]]⟩] 129 (by kernel_rfl) ?_
 refine eJ 113 [.agg [str ([]),I (0),I (0),str ([]),I (0),I (0),I (0),str ([]),I (0),.usl 4 (([]).map aC),I (0),str ([])]] rfl rfl (aD (fD (aD (.refl _) (aD (.refl _) (aD (.refl _) (aD (.refl _) (aD (.refl _) (aD (.refl _) (aD (.refl _) (aD (.refl _) (aD (.refl _) (aD (.nil _) (aD (.refl _) (aD (.refl _) dT))))))))))))) dT) ?_
 refine ck 6 [14] [] [113] [] [.isl false (c_1.Parties.map str)] [some ⟨2,12,[ao e3]⟩] 177 (by kernel_rfl) ?_
 refine oq 193 (I (len c_1.Parties)) rfl (bq rfl rfl rfl (bB rfl)) ?_
 refine cq 8 [6,18] [I (az ((len c_1.Parties) - 1)),str e3.Id] 257 ?_
 obtain⟨r4,hr4,h⟩:=bS h
 refine oq 273 (B r4) rfl (cP (wM hr4)) ?_
 refine cq 2 [21] [B (!r4)] 305 ?_
 obtain⟨y5,hy5,hy51,hy52⟩:=bJ h
 have j5:∀u5,y5=.inr u5→Run jq 0 (ed (c_1,i_2) r) (.code (cR (cL (cR (cR (cR kZ)))))::.code (cR (cR (cR (cR kZ))))::[]) (sT 119 [(1,I i_2),(2,.hp 1 0 [] 2 0 0),(5,.hp 2 0 [] 12 0 0),(6,I (az ((len c_1.Parties) - 1))),(40,B u5)] [⟨0,2,[ac c_1]⟩,⟨0,12,[ao e3]⟩] 3):=by
  intro u5 hu
  replace h:=hy52 u5 hu
  refine sq h ?_ ?_<;>intro h
  ·refine cq 4 [4] [B false] 19 ?_
   obtain rfl:=sI h
   exact rP [B false]
  ·refine aq 1 ?_
   refine cq 6 [42,43] [I e3.Party,I (az ((len c_1.Parties) - 1))] 51 ?_
   obtain⟨r6,hr6,h⟩:=bS h
   refine oq 67 (B r6) rfl (cP (gW hr6)) ?_
   refine cq 2 [46] [B (!r6)] 99 ?_
   obtain⟨y7,hy7,hy71,hy72⟩:=bJ h
   have j7:∀u7,y7=.inr u7→Run jq 0 (ed (c_1,i_2) r) (.code JT::.code (cR (cR (cR (cR (cR kZ)))))::[]) (sT 119 [(1,I i_2),(2,.hp 1 0 [] 2 0 0),(5,.hp 2 0 [] 12 0 0),(65,B u7)] [⟨0,2,[ac c_1]⟩,⟨0,12,[ao e3]⟩] 3):=by
    intro u7 hu
    replace h:=hy72 u7 hu
    refine sq h ?_ ?_<;>intro h
    ·refine cq 4 [4] [B false] 19 ?_
     obtain rfl:=sI h
     exact rP [B false]
    ·refine aq 1 ?_
     refine cq 5 [67] [I e3.Amount] 35 ?_
     obtain⟨r8,hr8,h⟩:=bS h
     refine oq 51 (B r8) rfl (cP (gW hr8)) ?_
     refine cq 2 [70] [B (!r8)] 83 ?_
     obtain⟨y9,hy9,hy91,hy92⟩:=bJ h
     have j9:∀u9,y9=.inr u9→Run jq 0 (ed (c_1,i_2) r) (.code EU::.code vT::[]) (sT 119 [(1,I i_2),(2,.hp 1 0 [] 2 0 0),(5,.hp 2 0 [] 12 0 0),(90,B u9)] [⟨0,2,[ac c_1]⟩,⟨0,12,[ao e3]⟩] 3):=by
      intro u9 hu
      replace h:=hy92 u9 hu
      refine sq h ?_ ?_<;>intro h
      ·refine cq 4 [4] [B false] 19 ?_
       obtain rfl:=sI h
       exact rP [B false]
      ·refine aq 1 ?_
       refine cq 7 [93] [B (e3.Repair==([]:aa))] 51 ?_
       refine sq h ?_ ?_<;>intro h
       ·refine cq 4 [4] [B true] 67 ?_
        obtain rfl:=sI h
        exact rP [B true]
       ·refine aq 1 ?_
        refine cq 5 [94,96] [ac c_1,str e3.Repair] 99 ?_
        obtain⟨r10,hr10,h⟩:=bS h
        refine oq 115 (I r10) rfl (cP (Wp hr10)) ?_
        refine cq 8 [7,101] [I r10,B (e3.Kind != 3)] 195 ?_
        obtain⟨y11,hy11,hy111,hy112⟩:=bJ h
        have j11:∀u11,y11=.inr u11→Run jq 0 (ed (c_1,i_2) r) (.code JU::[]) (sT 119 [(4,B u11)] [] 1):=by
         intro u11 hu
         replace h:=hy112 u11 hu
         obtain rfl:=sI h
         exact rP [B u11]
        have r11:∀r',y11=.inl r'→∀st,ed (c_1,i_2) r' st→(ed (c_1,i_2) r) st:=fun r' e st hq=>by rw[hy111 r' e] at hq;exact hq
        replace h:=hy11
        refine sp 101 h rfl ?_ ?_<;>intro h
        ·refine cq 4 [105] [B (decide (r10≥0))] 259 ?_
         obtain⟨y12,hy12,hy121,hy122⟩:=bL h
         have j12:∀u12,y12=.inr u12→Run jq 0 (ed (c_1,i_2) r) (.code JU::[]) (sT 119 [(4,B u12)] [] 1):=by
          intro u12 hu
          replace h:=hy122 u12 hu
          exact rf [4] [] (j11 _ (ai h) :)
         have r12:∀r',y12=.inl r'→∀st,ed (c_1,i_2) r' st→(ed (c_1,i_2) r) st:=fun r' e st hq=>r11 r' (hy121 r' e) st hq
         replace h:=hy12
         refine sp 105 h rfl ?_ ?_<;>intro h
         ·refine cq 5 [110] [B (r10 != i_2)] 339 ?_
          obtain⟨y13,hy13,hy131,hy132⟩:=bL h
          have j13:∀u13,y13=.inr u13→Run jq 0 (ed (c_1,i_2) r) (.code JU::[]) (sT 119 [(4,B u13)] [] 1):=by
           intro u13 hu
           replace h:=hy132 u13 hu
           exact rf [4] [] (j12 _ (ai h) :)
          have r13:∀r',y13=.inl r'→∀st,ed (c_1,i_2) r' st→(ed (c_1,i_2) r) st:=fun r' e st hq=>r12 r' (hy131 r' e) st hq
          replace h:=hy13
          refine sp 110 h rfl ?_ ?_<;>intro h
          ·refine cq 3 [112,113] [.isl false (c_1.Clauses.map aj),I r10] 387 ?_
           obtain⟨e14,he14,h⟩:=bS h
           refine oy 403 (.iptr (ao e14) 0) rfl (au rfl rfl rfl (aV rfl rfl rfl rfl he14)) ?_
           refine cq 6 [4] [B (e14.Kind==1)] 483 ?_
           exact rf [4] [] (j13 _ (ai h) :)
          ·refine cq 10 [4] [B false] 483 ?_
           exact rf [4] [] (j13 _ (ai h) :)
         ·refine cq 15 [4] [B false] 483 ?_
          exact rf [4] [] (j12 _ (ai h) :)
        ·refine cq 19 [4] [B false] 483 ?_
         exact rf [4] [] (j11 _ (ai h) :)
     have r9:∀r',y9=.inl r'→∀st,ed (c_1,i_2) r' st→(ed (c_1,i_2) r) st:=fun r' e st hq=>by rw[hy91 r' e] at hq;exact hq
     replace h:=hy9
     refine sp 70 h rfl ?_ ?_<;>intro h
     ·refine cq 21 [90] [B true] 403 ?_
      exact rf [1,2,5,90] [1,2] (j9 _ (ai h) :)
     ·refine cq 2 [72] [I e3.Within] 115 ?_
      obtain⟨r15,hr15,h⟩:=bS h
      refine oy 131 (B r15) rfl (cP (gW hr15)) ?_
      refine cq 3 [76] [B (!r15)] 179 ?_
      obtain⟨u16,hu16,h⟩:=lJ h
      have j16:Run jq 0 (ed (c_1,i_2) r) (.code EU::.code vT::[]) (sT 119 [(1,I i_2),(2,.hp 1 0 [] 2 0 0),(5,.hp 2 0 [] 12 0 0),(90,B u16)] [⟨0,2,[ac c_1]⟩,⟨0,12,[ao e3]⟩] 3):=by
       exact rf [1,2,5,90] [1,2] (j9 _ (ai h) :)
      replace h:=hu16
      clear hu16
      refine sp 76 h rfl ?_ ?_<;>intro h
      ·refine cq 15 [90] [B true] 403 ?_
       subst h
       exact rf [1,2,5,90] [1,2] (j16 :)
      ·refine cq 4 [80] [B (e3.Kind != 1)] 243 ?_
       obtain⟨u17,hu17,h⟩:=lJ h
       have j17:Run jq 0 (ed (c_1,i_2) r) (.code EU::.code vT::[]) (sT 119 [(1,I i_2),(2,.hp 1 0 [] 2 0 0),(5,.hp 2 0 [] 12 0 0),(90,B u17)] [⟨0,2,[ac c_1]⟩,⟨0,12,[ao e3]⟩] 3):=by
        subst h
        exact rf [1,2,5,90] [1,2] (j16 :)
       replace h:=hu17
       clear hu17
       refine sp 80 h rfl ?_ ?_<;>intro h
       ·refine cq 4 [84] [B (e3.Amount != 0)] 307 ?_
        obtain⟨u18,hu18,h⟩:=lJ h
        have j18:Run jq 0 (ed (c_1,i_2) r) (.code EU::.code vT::[]) (sT 119 [(1,I i_2),(2,.hp 1 0 [] 2 0 0),(5,.hp 2 0 [] 12 0 0),(90,B u18)] [⟨0,2,[ac c_1]⟩,⟨0,12,[ao e3]⟩] 3):=by
         subst h
         exact rf [1,2,5,90] [1,2] (j17 :)
        replace h:=hu18
        clear hu18
        refine sp 84 h rfl ?_ ?_<;>intro h
        ·refine cq 7 [90] [B true] 403 ?_
         subst h
         exact rf [1,2,5,90] [1,2] (j18 :)
        ·refine cq 7 [90] [B (e3.Within != 0)] 403 ?_
         subst h
         exact rf [1,2,5,90] [1,2] (j18 :)
       ·refine cq 11 [90] [B false] 403 ?_
        subst h
        exact rf [1,2,5,90] [1,2] (j17 :)
   have r7:∀r',y7=.inl r'→∀st,ed (c_1,i_2) r' st→(ed (c_1,i_2) r) st:=fun r' e st hq=>by rw[hy71 r' e] at hq;exact hq
   replace h:=hy7
   refine sp 46 h rfl ?_ ?_<;>intro h
   ·refine cq 20 [65] [B true] 403 ?_
    exact rf [1,2,5,65] [1,2] (j7 _ (ai h) :)
   ·refine cq 3 [48,49] [I e3.Other,I (az ((len c_1.Parties) - 1))] 147 ?_
    obtain⟨r19,hr19,h⟩:=bS h
    refine oy 163 (B r19) rfl (cP (gW hr19)) ?_
    refine cq 3 [53] [B (!r19)] 211 ?_
    obtain⟨y20,hy20,hy201,hy202⟩:=bL h
    have j20:∀u20,y20=.inr u20→Run jq 0 (ed (c_1,i_2) r) (.code JT::.code (cR (cR (cR (cR (cR kZ)))))::[]) (sT 119 [(1,I i_2),(2,.hp 1 0 [] 2 0 0),(5,.hp 2 0 [] 12 0 0),(65,B u20)] [⟨0,2,[ac c_1]⟩,⟨0,12,[ao e3]⟩] 3):=by
     intro u20 hu
     replace h:=hy202 u20 hu
     exact rf [1,2,5,65] [1,2] (j7 _ (ai h) :)
    have r20:∀r',y20=.inl r'→∀st,ed (c_1,i_2) r' st→(ed (c_1,i_2) r) st:=fun r' e st hq=>r7 r' (hy201 r' e) st hq
    replace h:=hy20
    refine sp 53 h rfl ?_ ?_<;>intro h
    ·refine cq 13 [65] [B true] 403 ?_
     exact rf [1,2,5,65] [1,2] (j20 _ (ai h) :)
    ·refine cq 7 [60] [B (e3.Party==e3.Other)] 323 ?_
     obtain⟨y21,hy21,hy211,hy212⟩:=bL h
     have j21:∀u21,y21=.inr u21→Run jq 0 (ed (c_1,i_2) r) (.code JT::.code (cR (cR (cR (cR (cR kZ)))))::[]) (sT 119 [(1,I i_2),(2,.hp 1 0 [] 2 0 0),(5,.hp 2 0 [] 12 0 0),(65,B u21)] [⟨0,2,[ac c_1]⟩,⟨0,12,[ao e3]⟩] 3):=by
      intro u21 hu
      replace h:=hy212 u21 hu
      exact rf [1,2,5,65] [1,2] (j20 _ (ai h) :)
     have r21:∀r',y21=.inl r'→∀st,ed (c_1,i_2) r' st→(ed (c_1,i_2) r) st:=fun r' e st hq=>r20 r' (hy211 r' e) st hq
     replace h:=hy21
     refine sp 60 h rfl ?_ ?_<;>intro h
     ·refine cq 6 [65] [B true] 403 ?_
      exact rf [1,2,5,65] [1,2] (j21 _ (ai h) :)
     ·refine cq 2 [62] [ah e3.When] 355 ?_
      obtain⟨r22,hr22,h⟩:=bS h
      refine oy 371 (B r22) rfl (cP (aaW hr22)) ?_
      refine cq 3 [65] [B (!r22)] 403 ?_
      exact rf [1,2,5,65] [1,2] (j21 _ (ai h) :)
 have r5:∀r',y5=.inl r'→∀st,ed (c_1,i_2) r' st→(ed (c_1,i_2) r) st:=fun r' e st hq=>by rw[hy51 r' e] at hq;exact hq
 replace h:=hy5
 refine sp 21 h rfl ?_ ?_<;>intro h
 ·refine cq 20 [40] [B true] 609 ?_
  exact rf [1,2,5,6,40] [1,113] (j5 _ (ai h) :)
 ·refine cq 3 [22,24] [ac c_1,str e3.Id] 353 ?_
  obtain⟨r23,hr23,h⟩:=bS h
  refine oy 369 (I r23) rfl (cP (Wp hr23)) ?_
  refine cq 4 [29] [B (r23 != i_2)] 433 ?_
  obtain⟨y24,hy24,hy241,hy242⟩:=bL h
  have j24:∀u24,y24=.inr u24→Run jq 0 (ed (c_1,i_2) r) (.code (cR (cL (cR (cR (cR kZ)))))::.code (cR (cR (cR (cR kZ))))::[]) (sT 119 [(1,I i_2),(2,.hp 1 0 [] 2 0 0),(5,.hp 2 0 [] 12 0 0),(6,I (az ((len c_1.Parties) - 1))),(40,B u24)] [⟨0,2,[ac c_1]⟩,⟨0,12,[ao e3]⟩] 3):=by
   intro u24 hu
   replace h:=hy242 u24 hu
   exact rf [1,2,5,6,40] [1,2] (j5 _ (ai h) :)
  have r24:∀r',y24=.inl r'→∀st,ed (c_1,i_2) r' st→(ed (c_1,i_2) r) st:=fun r' e st hq=>r5 r' (hy241 r' e) st hq
  replace h:=hy24
  refine sp 29 h rfl ?_ ?_<;>intro h
  ·refine cq 12 [40] [B true] 609 ?_
   exact rf [1,2,5,6,40] [1,113] (j24 _ (ai h) :)
  ·refine cq 2 [31] [str e3.Action] 465 ?_
   obtain⟨r25,hr25,h⟩:=bS h
   refine oy 481 (B r25) rfl (cP (wM hr25)) ?_
   refine cq 3 [35] [B (!r25)] 529 ?_
   obtain⟨y26,hy26,hy261,hy262⟩:=bL h
   have j26:∀u26,y26=.inr u26→Run jq 0 (ed (c_1,i_2) r) (.code (cR (cL (cR (cR (cR kZ)))))::.code (cR (cR (cR (cR kZ))))::[]) (sT 119 [(1,I i_2),(2,.hp 1 0 [] 2 0 0),(5,.hp 2 0 [] 12 0 0),(6,I (az ((len c_1.Parties) - 1))),(40,B u26)] [⟨0,2,[ac c_1]⟩,⟨0,12,[ao e3]⟩] 3):=by
    intro u26 hu
    replace h:=hy262 u26 hu
    exact rf [1,2,5,6,40] [1,2] (j24 _ (ai h) :)
   have r26:∀r',y26=.inl r'→∀st,ed (c_1,i_2) r' st→(ed (c_1,i_2) r) st:=fun r' e st hq=>r24 r' (hy261 r' e) st hq
   replace h:=hy26
   refine sp 35 h rfl ?_ ?_<;>intro h
   ·refine cq 6 [40] [B true] 609 ?_
    exact rf [1,2,5,6,40] [1,113] (j26 _ (ai h) :)
   ·refine cq 2 [37] [I e3.Kind] 561 ?_
    obtain⟨r27,hr27,h⟩:=bS h
    refine oy 577 (B r27) rfl (cP (gW hr27)) ?_
    refine cq 3 [40] [B (!r27)] 609 ?_
    exact rf [1,2,5,6,40] [1,113] (j26 _ (ai h) :)
theorem U8 {G:bU}:bQ G 100 Gl:=gT 2 0 (aJ pU (aJ ij (aJ U3 (aJ Tj bv)))) ca Tryz.func100 (fun a r h=>Xh a.1 a.2 r h)
def EF:(Condition×(List aa))→List V:=cA bg (oA (FN 1 str))
def EH (r:(List aa)):V×List V:=(.usl 1 (r.map str),[.dead])
noncomputable def A3 (cz:(Condition×(List aa))→Option (List aa)):Ent:=ba [false,true] EF EH cz
theorem RY (cz:(Condition×(List aa))→Option (List aa)){x}{r}(h:cz x=some r):(A3 cz).F (EF x)=some (EH r):=aH (aN cG (aI (pT bc))) h
noncomputable def Gd :=A3 (aM mS)
theorem Wn {c_3:Condition}{dA:List aa}{r}(h:RX c_3 dA=some r):Gd.F (EF (c_3,dA))=some (EH r):=RY (aM mS) h
noncomputable def NC :=aF Tryz.f142
noncomputable def H0 (cz:(Condition×(List aa))→Option (List aa)):Env:=b9 [(142,(A3 cz))]
def EG (cz:(Condition×(List aa))→Option (List aa))(x:Condition×(List aa))(r:(List aa)):St→Prop:=QF (H0 cz) Tryz.f142 [false,true] (EF x) (EH r)
theorem ND (cz:(Condition×(List aa))→Option (List aa))(c_3:Condition)(dA:List aa):cW (H0 cz) 1 (EG cz (c_3,dA)) (cL (cL (cR (cL (cR (cR NC)))))) 0 (mT cz c_3 dA) (fun u=>(sO 27 [(1,.hs 2 0 [] 1 0 (u.map str).length)] [none,some ⟨0,1,u.map str⟩] 3)) fun x4=>(sO 27 [(1,.hs 2 0 [] 1 0 (x4.2.map str).length),(16,.isl false (c_3.Parts.map ay)),(17,I (len c_3.Parts)),(18,I x4.1)] [none,some ⟨0,1,x4.2.map str⟩] 3):=eF (EI cz c_3 dA) fun {Q K} hK self ih x4 y h hr hn=>by
 unfold kC at h
 refine cq 5 [19] [B (decide (x4.1<(len c_3.Parts)))] 19 ?_
 refine sq h ?_ ?_<;>intro h
 ·refine aq 1 ?_
  refine aq 4 ?_
  obtain⟨e5,he5,h⟩:=bS h
  refine oq 35 (.iptr (ah e5) 0) rfl (au rfl rfl rfl (aV rfl rfl (bA e5) rfl he5)) ?_
  refine ck 2 [6,21] [] [51] [] [.hp 51 0 [] 4 0 0,ah e5] [some ⟨0,4,[.agg [I (0),str ([]),I (0),.isl true []]]⟩] 67 (by kernel_rfl) ?_
  refine eJ 51 [.agg [I (0),str ([]),I (0),.usl 4 (([]).map aC)]] rfl rfl (aD (fD (aD (.refl _) (aD (.refl _) (aD (.refl _) (aD (.nil _) dT))))) dT) ?_
  refine ck 5 [22,23] [] [51] [] [ah e5,.hs 2 0 [] 1 0 (x4.2.map str).length] [some ⟨2,4,[ah e5]⟩] 115 (by kernel_rfl) ?_
  obtain⟨r6,hr6,h⟩:=bS h
  refine oq 131 (.hs 115 0 [] 1 0 (r6.map str).length) rfl (cd rfl rfl (cO rfl rfl rfl (bw (bR rfl) (uI (qP rfl (lN (path:=[]) rfl rfl bb rfl)) dB)) (RY cz hr6) (.inr rfl) (tU rfl rfl rfl mB d9) rfl rfl rfl)) ?_
  refine cq 7 [1,18] [.hs 115 0 [] 1 0 (r6.map str).length,I (az (x4.1+1))] 179 ?_
  refine dP ?_
  exact rg [1,16,17,18] [180,115] (ih _ _ h hr hn :)
 ·refine aq 1 ?_
  exact rg [1] [20,2] (hn _ (ai h) :) (hk:=hK)
theorem W6 (cz:(Condition×(List aa))→Option (List aa))(c_3:Condition)(dA:List aa)(r:(List aa))(h:wS cz c_3 dA=some r):bp (H0 cz) Tryz.f142 [false,true] 1 (EF (c_3,dA)) (EH r):=by
 show Run _ _ (EG cz (c_3,dA) r) [.code NC] _
 refine rI 27 [(0,ah c_3),(1,.hs 1 0 [] 1 0 (dA.map str).length)] [(1,some ⟨0,1,dA.map str⟩)] 2 ?_
 unfold wS at h
 refine ck 12 [2,9] [] [2] [] [.hp 2 0 [] 4 0 0,B (c_3.Op==2)] [some ⟨0,4,[ah c_3]⟩] 82 (by kernel_rfl) ?_
 obtain⟨y3,hy3,hy31,hy32⟩:=bJ h
 have j3:∀u3,y3=.inr u3→Run (H0 cz) 1 (EG cz (c_3,dA) r) (.code (cR (cR NC))::[]) (sO 27 [(1,.hs 2 0 [] 1 0 (u3.map str).length),(2,.hp 3 0 [] 4 0 0)] [none,some ⟨0,1,u3.map str⟩,some ⟨0,4,[ah c_3]⟩] 4):=by
  intro u3 hu
  replace h:=hy32 u3 hu
  refine cq 5 [16] [.isl false (c_3.Parts.map ay)] 36 ?_
  refine oq 52 (I (len c_3.Parts)) rfl (bq rfl rfl rfl (bB rfl)) ?_
  refine cq 3 [18] [I (0)] 68 ?_
  obtain⟨y7,hy7,hy71,hy72⟩:=bJ h
  refine ci rfl ?_
  refine rg [1,16,17,18] [69,2] (ND cz c_3 dA rfl (0,u3) _ hy7 (fun r' e st hq=>by rw[hy71 r' e] at hq;exact hq) fun u7 hu=>?_)
  replace h:=hy72 u7 hu
  refine cq 5 [4] [.hs 2 0 [] 1 0 (u7.map str).length] 35 ?_
  obtain rfl:=sI h
  exact b8 rfl ⟨_,fin (vs:=[.hs 2 0 [] 1 0 (u7.map str).length]) rfl (fk (eO rfl (cN rfl rfl)) ey) rfl (eP (ur rfl (pB rfl) fu)),uj fm⟩
 have r3:∀r',y3=.inl r'→∀st,EG cz (c_3,dA) r' st→(EG cz (c_3,dA) r) st:=fun r' e st hq=>by rw[hy31 r' e] at hq;exact hq
 replace h:=hy3
 refine sq h ?_ ?_<;>intro h
 ·refine cq 4 [10,12] [.hs 1 0 [] 1 0 (dA.map str).length,str c_3.Name] 130 ?_
  refine oq 146 (.hs 130 0 [] 1 0 1) rfl (ft rfl (oo (f:=I) (xs:=[]) (z:=str ([])) (es:=[str c_3.Name]) (ws:=[str c_3.Name]) rfl rfl rfl (by decide) rfl (eo rfl) rfl)) ?_
  obtain⟨a8,ha8,h⟩:=bS h
  refine oq 162 (.hs 146 0 [] 1 0 (a8.map str).length) rfl (kG rfl rfl rfl rfl rfl (oP (path:=[]) (f:=str) (xs:=dA) (ys:=[c_3.Name]) rfl rfl (GP rfl rfl rfl) rfl rfl rfl bb rfl (by decide) jp ha8 rfl qx)) ?_
  refine cq 2 [1] [.hs 146 0 [] 1 0 (a8.map str).length] 178 ?_
  exact rg [1,2] [179,146,2] (j3 _ (ai h) :)
 ·refine aq 1 ?_
  exact rg [1,2] [83,1,2] (j3 _ (ai h) :)
theorem U0 {G:bU}:bQ G 142 Gd:=iB fun cz g_Fff=>gT 2 1 (aJ g_Fff bv) ca Tryz.func142 (fun a r h=>W6 cz a.1 a.2 r h)
def Lg:Shelf.Ren:=⟨fun | 190=>177 | 125=>192 | 258=>191 | 128=>214 | 129=>215 | 302=>205 | 303=>206 | 304=>207 | 305=>208 | 306=>209 | 307=>210 | 308=>211 | 309=>212 | 310=>213 | 333=>226 | 329=>227 | 330=>228 | 334=>229 | 335=>230 | 336=>231 | 344=>236 | n=>n,fun | 31=>22 | 9=>9 | 3=>3 | 46=>158 | 0=>0 | 51=>195 | 53=>181 | 4=>4 | 183=>188 | 182=>187 | 131=>43 | 5=>5 | 218=>199 | 222=>203 | 228=>211 | 229=>212 | n=>n,fun | n=>n⟩
theorem Wg:Go.Proofs.Lays.n190 Tryz.prog Lg where
 mixed:=by kernel_rfl
 f125:=Tryz.func192.trans (congrArg some (by kernel_rfl))
 f128:=Tryz.func214.trans (congrArg some (by kernel_rfl))
 f129:=Tryz.func215.trans (congrArg some (by kernel_rfl))
 f190:=Tryz.func177.trans (congrArg some (by kernel_rfl))
 f258:=Tryz.func191.trans (congrArg some (by kernel_rfl))
 f302:=Tryz.func205.trans (congrArg some (by kernel_rfl))
 f303:=Tryz.func206.trans (congrArg some (by kernel_rfl))
 f304:=Tryz.func207.trans (congrArg some (by kernel_rfl))
 f305:=Tryz.func208.trans (congrArg some (by kernel_rfl))
 f306:=Tryz.func209.trans (congrArg some (by kernel_rfl))
 f307:=Tryz.func210.trans (congrArg some (by kernel_rfl))
 f308:=Tryz.func211.trans (congrArg some (by kernel_rfl))
 f309:=Tryz.func212.trans (congrArg some (by kernel_rfl))
 f310:=Tryz.func213.trans (congrArg some (by kernel_rfl))
 f329:=Tryz.func227.trans (congrArg some (by kernel_rfl))
 f330:=Tryz.func228.trans (congrArg some (by kernel_rfl))
 f333:=Tryz.func226.trans (congrArg some (by kernel_rfl))
 f334:=Tryz.func229.trans (congrArg some (by kernel_rfl))
 f335:=Tryz.func230.trans (congrArg some (by kernel_rfl))
 f336:=Tryz.func231.trans (congrArg some (by kernel_rfl))
 f344:=Tryz.func236.trans (congrArg some (by kernel_rfl))
 t0:=Tryz.underlying0
 a0:=Tryz.isAgg0
 z0:=Tryz.sizeOf0
 v0:=Tryz.zeroValue0
 t3:=Tryz.underlying3
 a3:=Tryz.isAgg3
 z3:=Tryz.sizeOf3
 v3:=Tryz.zeroValue3
 t4:=Tryz.underlying4
 a4:=Tryz.isAgg4
 z4:=Tryz.sizeOf4
 v4:=Tryz.zeroValue4
 t5:=Tryz.underlying5
 a5:=Tryz.isAgg5
 z5:=Tryz.sizeOf5
 v5:=Tryz.zeroValue5
 t9:=Tryz.underlying9
 a9:=Tryz.isAgg9
 z9:=Tryz.sizeOf9
 v9:=Tryz.zeroValue9
 t31:=Tryz.underlying22
 a31:=Tryz.isAgg22
 z31:=Tryz.sizeOf22
 v31:=Tryz.zeroValue22
 t46:=Tryz.underlying158
 a46:=Tryz.isAgg158
 z46:=Tryz.sizeOf158
 v46:=Tryz.zeroValue158
 t51:=Tryz.underlying195
 a51:=Tryz.isAgg195
 z51:=Tryz.sizeOf195
 v51:=Tryz.zeroValue195
 t53:=Tryz.underlying181
 a53:=Tryz.isAgg181
 z53:=Tryz.sizeOf181
 v53:=Tryz.zeroValue181
 t131:=Tryz.underlying43
 a131:=Tryz.isAgg43
 z131:=Tryz.sizeOf43
 v131:=Tryz.zeroValue43
 t182:=Tryz.underlying187
 a182:=Tryz.isAgg187
 z182:=Tryz.sizeOf187
 v182:=Tryz.zeroValue187
 t183:=Tryz.underlying188
 a183:=Tryz.isAgg188
 z183:=Tryz.sizeOf188
 v183:=Tryz.zeroValue188
 t218:=Tryz.underlying199
 a218:=Tryz.isAgg199
 z218:=Tryz.sizeOf199
 v218:=Tryz.zeroValue199
 t222:=Tryz.underlying203
 a222:=Tryz.isAgg203
 z222:=Tryz.sizeOf203
 v222:=Tryz.zeroValue203
 t228:=Tryz.underlying211
 a228:=Tryz.isAgg211
 z228:=Tryz.sizeOf211
 v228:=Tryz.zeroValue211
 t229:=Tryz.underlying212
 a229:=Tryz.isAgg212
 z229:=Tryz.sizeOf212
 v229:=Tryz.zeroValue212
noncomputable def uF :=ba [true] (oA (FN 1 str)) (fun r=>(.tup [],[.usl 1 (r.map str)])) tt
theorem Wf {l:List aa}{r}(h:tt l=some r):uF.F [.usl 1 (l.map str)]=some (.tup [],[.usl 1 (r.map str)]):=aH (ea:=oA (FN 1 str)) (aI (pT bc)) h
theorem Mk {G:bU}:bQ G 177 uF:=N4 Wg
def CW:(List aa)→List V:=oA (FN 1 str)
def CY (r:(List aa)):V×List V:=(.usl 1 (r.map str),[.dead])
noncomputable def zU :=ba [true] CW CY fun x=>zT x
theorem Zv {s_2:List aa}{r}(h:zT s_2=some r):zU.F (CW s_2)=some (CY r):=aH (aI (pT bc)) h
noncomputable def Jm :=aF Tryz.f178
noncomputable abbrev FT :=cL (cL (cR (cL (cR (cL (cR (cL (cL (cR (cL (cL (cR (cL (cR (cR Jm)))))))))))))))
noncomputable def vq :=b9 []
def CX (x:(List aa))(r:(List aa)):St→Prop:=QF vq Tryz.f178 [true] (CW x) (CY r)
theorem LA (s_2:List aa)(x2:Int):cW vq 1 (CX s_2) FT 2 (jO s_2 x2) (fun u=>(sO 61 [(0,.hs 2 0 [] 1 0 (u.2.map str).length),(3,I u.1)] [none,some ⟨0,1,u.2.map str⟩] 3)) fun x6=>(sO 61 [(0,.hs 2 0 [] 1 0 (x6.2.2.map str).length),(3,I x6.1),(4,.hs 2 0 [] 1 (0+Int.toNat x2) (Int.toNat (len s_2) - Int.toNat x2)),(5,I x6.2.1)] [none,some ⟨0,1,x6.2.2.map str⟩] 3):=eF (xG s_2 x2) fun {Q K} hK self ih x6 y h hr hn=>by
 unfold ko at h
 refine cq 8 [32] [B (decide (x6.2.1<(((Int.toNat (len s_2) - Int.toNat x2):Nat):Int)))] 67 ?_
 refine sq h ?_ ?_<;>intro h
 ·refine aq 1 ?_
  refine aq 3 ?_
  refine ez [0,0,3,7,0,0,32,112,240,511] rfl (by decide +kernel) ?_
  refine dk 2 [36,35] [I x6.2.1,.hs 2 0 [] 1 (0+Int.toNat x2) (Int.toNat (len s_2) - Int.toNat x2)] ?_
  obtain⟨e7,he7,h⟩:=bS h
  refine dq [2] [] (.hp 2 0 [] 1 ((0+Int.toNat x2)+Int.toNat x6.2.1) 0) rfl (au rfl rfl rfl (Oe (xs:=x6.2.2) rfl rfl he7)) ?_
  refine dq [2] [] (str e7) rfl (aY rfl (qS (path:=[]) rfl rfl rfl bb (Kz (f:=str) (xs:=x6.2.2) he7) rfl rfl rfl)) ?_
  refine dk 3 [41,40,39] [I (az (x6.2.1 - 1)),I x6.2.1,.hs 2 0 [] 1 (0+Int.toNat x2) (Int.toNat (len s_2) - Int.toNat x2)] ?_
  obtain⟨e8,he8,h⟩:=bS h
  refine dq [2] [] (.hp 2 0 [] 1 ((0+Int.toNat x2)+Int.toNat (az (x6.2.1 - 1))) 0) rfl (au rfl rfl rfl (Oe (xs:=x6.2.2) rfl rfl he8)) ?_
  refine dq [2] [] (str e8) rfl (aY rfl (qS (path:=[]) rfl rfl rfl bb (Kz (f:=str) (xs:=x6.2.2) he8) rfl rfl rfl)) ?_
  refine dk 1 [44] [B (!(e7==e8))] ?_
  refine de 227 rfl rfl ?_
  obtain⟨y9,hy9,hy91,hy92⟩:=bL h
  have j9:∀u9,y9=.inr u9→Run vq 1 Q (.blk 3::.code (cR (cR FT))::.lp FT::.blk 2::K) (sO 61 [(0,.hs 2 0 [] 1 0 (u9.2.map str).length),(3,I u9.1),(4,.hs 2 0 [] 1 (0+Int.toNat x2) (Int.toNat (len s_2) - Int.toNat x2)),(5,I x6.2.1)] [none,some ⟨0,1,u9.2.map str⟩] 3):=by
   intro u9 hu
   replace h:=hy92 u9 hu
   refine cq 6 [5] [I (az (x6.2.1+1))] 51 ?_
   refine dP ?_
   exact rg [0,3,4,5] [52,2] (ih _ _ h hr hn :)
  have r9:∀r',y9=.inl r'→∀st,CX s_2 r' st→Q st:=fun r' e st hq=>hr r' (hy91 r' e) st hq
  replace h:=hy9
  refine sq h ?_ ?_<;>intro h
  ·refine cq 6 [45,46,47,48] [.hs 2 0 [] 1 0 (x6.2.2.map str).length,I x6.1,.hs 2 0 [] 1 (0+Int.toNat x2) (Int.toNat (len s_2) - Int.toNat x2),I x6.2.1] 291 ?_
   obtain⟨e10,he10,h⟩:=bS h
   refine oq 307 (.hp 2 0 [] 1 ((0+Int.toNat x2)+Int.toNat x6.2.1) 0) rfl (au rfl rfl rfl (Oe (xs:=x6.2.2) rfl rfl he10)) ?_
   refine oq 323 (str e10) rfl (aY rfl (qS (path:=[]) rfl rfl rfl bb (Kz (f:=str) (xs:=x6.2.2) he10) rfl rfl rfl)) ?_
   obtain⟨e11,he11,h⟩:=bS h
   refine oq 339 (.hp 2 0 [] 1 (0+Int.toNat x6.1) 0) rfl (au rfl rfl rfl (i6 (f:=str) (xs:=x6.2.2) rfl rfl rfl he11)) ?_
   refine o0 355 rfl rfl (gw rfl rfl (fp (path:=[]) (pl:=true) (e':=str e10) (es2':=(fI x6.2.2 x6.1 e10).map str) rfl (fO rfl) rfl rfl rfl bb (gU (f:=str) (xs:=x6.2.2) he11) rfl rfl rfl (mK (f:=str) (xs:=x6.2.2) (y:=e10)) d8 0 rfl)) ?_
   try rw[←kL (f:=str) (xs:=x6.2.2) (i:=x6.1) (z:=e10)]
   refine cq 6 [3] [I (az (x6.1+1))] 403 ?_
   exact rg [0,3,4,5] [404,2] (j9 _ (ai h) :)
  ·refine aq 1 ?_
   exact rg [0,3,4,5] [228,2] (j9 _ (ai h) :)
 ·refine aq 1 ?_
  exact rg [0,3] [68,2] (hn _ (ai h) :) (hk:=hK)
theorem Lz (s_2:List aa):cW vq 1 (CX s_2) (cL (cL (cR (cL (cR (cR Jm)))))) 0 (pM s_2) (fun u=>(sO 61 [(0,.hs 2 0 [] 1 0 (u.map str).length)] [none,some ⟨0,1,u.map str⟩] 3)) fun x2=>(sO 61 [(0,.hs 2 0 [] 1 0 (s_2.map str).length),(3,I x2)] [none,some ⟨0,1,s_2.map str⟩] 3):=eF (xF s_2) fun {Q K} hK self ih x2 y h hr hn=>by
 unfold kn at h
 refine cq 5 [10,11] [I x2,.hs 2 0 [] 1 0 (s_2.map str).length] 35 ?_
 refine oq 51 (I (len s_2)) rfl (bq rfl rfl rfl (xd (f:=str) (xs:=s_2) rfl rfl)) ?_
 refine cq 2 [13] [B (decide (x2<(len s_2)))] 67 ?_
 refine sq h ?_ ?_<;>intro h
 ·refine aq 1 ?_
  refine aq 3 ?_
  refine ez [0,0,3,7,0,0,32,112,240,511] rfl (by decide +kernel) ?_
  refine dk 2 [17,16] [I x2,.hs 2 0 [] 1 0 (s_2.map str).length] ?_
  obtain⟨e3,he3,h⟩:=bS h
  refine dq [2] [] (.hp 2 0 [] 1 (0+Int.toNat x2) 0) rfl (au rfl rfl rfl (i6 (f:=str) (xs:=s_2) rfl rfl rfl he3)) ?_
  refine dq [2] [] (str e3) rfl (aY rfl (qS (path:=[]) rfl rfl rfl bb (gU (f:=str) (xs:=s_2) he3) rfl rfl rfl)) ?_
  refine dk 3 [22,21,20] [I (az (x2 - 1)),I x2,.hs 2 0 [] 1 0 (s_2.map str).length] ?_
  obtain⟨e4,he4,h⟩:=bS h
  refine dq [2] [] (.hp 2 0 [] 1 (0+Int.toNat (az (x2 - 1))) 0) rfl (au rfl rfl rfl (i6 (f:=str) (xs:=s_2) rfl rfl rfl he4)) ?_
  refine dq [2] [] (str e4) rfl (aY rfl (qS (path:=[]) rfl rfl rfl bb (gU (f:=str) (xs:=s_2) he4) rfl rfl rfl)) ?_
  refine dk 1 [25] [B (e3==e4)] ?_
  refine de 227 rfl rfl ?_
  refine sq h ?_ ?_<;>intro h
  ·refine cq 4 [26,27] [.hs 2 0 [] 1 0 (s_2.map str).length,I x2] 259 ?_
   obtain⟨s5,hs5,h⟩:=bS h
   refine oq 275 (.hs 2 0 [] 1 (0+Int.toNat x2) (Int.toNat (len s_2) - Int.toNat x2)) rfl (ig rfl rfl rfl rfl (tk (f:=str) (xs:=s_2) rfl rfl rfl rfl (Vo rfl) hs5)) ?_
   refine cq 8 [4,5] [.hs 2 0 [] 1 (0+Int.toNat x2) (Int.toNat (len s_2) - Int.toNat x2),I (1)] 307 ?_
   obtain⟨y15,hy15,hy151,hy152⟩:=bL h
   refine ci rfl ?_
   refine rg [0,3,4,5] [308,2] (LA s_2 x2 rfl (x2,1,s_2) _ hy15 (fun r' e st hq=>hr r' (hy151 r' e) st hq) fun u15 hu=>?_)
   replace h:=hy152 u15 hu
   refine cq 4 [54,55] [.hs 2 0 [] 1 0 (u15.2.map str).length,I u15.1] 35 ?_
   obtain⟨s16,hs16,h⟩:=bS h
   refine oq 51 (.hs 2 0 [] 1 (0+Int.toNat u15.1) (Int.toNat (len u15.2) - Int.toNat u15.1)) rfl (ig rfl rfl rfl rfl (tk (f:=str) (xs:=u15.2) rfl rfl rfl rfl (Vo rfl) hs16)) ?_
   obtain⟨k17,hk17,h⟩:=bS h
   refine o0 67 rfl rfl (XJ rfl rfl (abH (f:=str) (xs:=u15.2) (z0:=[]) rfl rfl rfl rfl (by decide) lZ hk17)) ?_
   try rw[show (u15.2.map str).length=(k17.map str).length from XG hk17]
   refine cq 5 [57,58] [.hs 2 0 [] 1 0 (k17.map str).length,I u15.1] 99 ?_
   obtain⟨s18,hs18,h⟩:=bS h
   refine oq 115 (.hs 2 0 [] 1 (0+Int.toNat (0)) (Int.toNat u15.1 - Int.toNat (0))) rfl (ig rfl rfl rfl rfl (tk (f:=str) (xs:=k17) rfl rfl rfl rfl rfl hs18)) ?_
   refine cq 2 [2] [.hs 2 0 [] 1 (0+Int.toNat (0)) (Int.toNat u15.1 - Int.toNat (0))] 131 ?_
   obtain⟨p19,hp19,h⟩:=bS h
   exact b8 rfl (hr _ (ai h) _ ⟨_,fin (vs:=[.hs 2 0 [] 1 (0+Int.toNat (0)) (Int.toNat u15.1 - Int.toNat (0))]) rfl (fk (eO rfl (R7 (path:=[]) (f:=str) (xs:=k17) rfl rfl bb hp19 rfl qx)) ey) rfl (ur rfl (pB rfl) fu),uj fm⟩)
  ·refine aq 1 ?_
   refine cq 6 [3] [I (az (x2+1))] 275 ?_
   refine dP ?_
   exact rg [0,3] [276,2] (ih _ _ h hr hn :)
 ·refine aq 1 ?_
  exact rg [0] [68,2] (hn _ (ai h) :) (hk:=hK)
theorem T9 (s_2:List aa)(r:(List aa))(h:zT s_2=some r):bp vq Tryz.f178 [true] 1 (CW s_2) (CY r):=by
 show Run _ _ (CX s_2 r) [.code Jm] _
 refine rI 61 [(0,.hs 1 0 [] 1 0 (s_2.map str).length)] [(1,some ⟨0,1,s_2.map str⟩)] 2 ?_
 unfold zT at h
 refine cq 8 [6] [.hs 1 0 [] 1 0 (s_2.map str).length] 34 ?_
 refine oq 50 (I (len s_2)) rfl (bq rfl rfl rfl (xd (f:=str) (xs:=s_2) rfl rfl)) ?_
 refine cq 2 [8] [B (decide ((len s_2)<2))] 66 ?_
 refine sq h ?_ ?_<;>intro h
 ·refine cq 5 [2] [.hs 1 0 [] 1 0 (s_2.map str).length] 98 ?_
  obtain rfl:=sI h
  exact b8 rfl ⟨_,fin (vs:=[.hs 1 0 [] 1 0 (s_2.map str).length]) rfl (fk (eO rfl (cN rfl rfl)) ey) rfl (ur rfl (pB rfl) fu),uj fm⟩
 ·refine aq 1 ?_
  refine cq 6 [3] [I (1)] 82 ?_
  obtain⟨y20,hy20,hy201,hy202⟩:=bJ h
  refine ci rfl ?_
  refine rg [0,3] [83,1] (Lz s_2 rfl 1 _ hy20 (fun r' e st hq=>by rw[hy201 r' e] at hq;exact hq) fun u20 hu=>?_)
  replace h:=hy202 u20 hu
  refine cq 5 [2] [.hs 2 0 [] 1 0 (u20.map str).length] 35 ?_
  obtain rfl:=sI h
  exact b8 rfl ⟨_,fin (vs:=[.hs 2 0 [] 1 0 (u20.map str).length]) rfl (fk (eO rfl (cN rfl rfl)) ey) rfl (ur rfl (pB rfl) fu),uj fm⟩
theorem Qr {G:bU}:bQ G 178 zU:=gT 1 1 bv ca Tryz.func178 (fun a r h=>T9 a r h)
def BI:(List aa)→List V:=oA (FN 1 str)
def BK (r:(List aa)):V×List V:=(.usl 1 (r.map str),[.dead])
noncomputable def yS :=ba [true] BI BK fun x=>yR x
theorem Yr {i7:List aa}{r}(h:yR i7=some r):yS.F (BI i7)=some (BK r):=aH (aI (pT bc)) h
noncomputable def Yt :=aF Tryz.f143
noncomputable def OS :=b9 [(177,uF),(178,zU)]
def Ys (x:(List aa))(r:(List aa)):St→Prop:=QF OS Tryz.f143 [true] (BI x) (BK r)
theorem Tp (i7:List aa)(r:(List aa))(h:yR i7=some r):bp OS Tryz.f143 [true] 1 (BI i7) (BK r):=by
 show Run _ _ (Ys i7 r) [.code Yt] _
 refine rI 7 [(0,.hs 1 0 [] 1 0 (i7.map str).length)] [(1,some ⟨0,1,i7.map str⟩)] 2 ?_
 unfold yR at h
 refine cq 7 [3] [.hs 1 0 [] 1 0 (i7.map str).length] 34 ?_
 obtain⟨r2,hr2,h⟩:=bS h
 obtain⟨g3,h⟩:=gG h
 refine oq 50 (.tup []) rfl (cd rfl rfl (cO rfl rfl rfl (uI (qP rfl (lN (path:=[]) rfl rfl bb rfl)) dB) (Wf hr2) (.inr rfl) (tU rfl rfl rfl rfl d9) rfl rfl rfl)) ?_
 try rw[XZ (f:=str) (xs:=i7) (ys:=r2) g3]
 refine cq 4 [5] [.hs 1 0 [] 1 0 (r2.map str).length] 66 ?_
 obtain⟨r4,hr4,h⟩:=bS h
 refine oq 82 (.hs 66 0 [] 1 0 (r4.map str).length) rfl (cd rfl rfl (cO rfl rfl rfl (uI (qP rfl (lN (path:=[]) rfl rfl bb rfl)) dB) (Zv hr4) (.inr rfl) (tU rfl rfl rfl mB d9) rfl rfl rfl)) ?_
 refine cq 2 [2] [.hs 66 0 [] 1 0 (r4.map str).length] 98 ?_
 obtain rfl:=sI h
 exact b8 rfl ⟨_,fin (vs:=[.hs 66 0 [] 1 0 (r4.map str).length]) rfl (fk (eO rfl (cN rfl rfl)) ey) rfl (ur rfl (pB rfl) fu),uj fm⟩
theorem OT {G:bU}:bQ G 143 yS:=gT 1 1 (aJ Mk (aJ Qr bv)) ca Tryz.func143 (fun a r h=>Tp a r h)
def Ic:Contract→List V:=oA aO
def Ig (r:(List aa)):V×List V:=(.usl 1 (r.map str),[])
noncomputable def sK :=ba [false] Ic Ig fun x=>sJ x
theorem Ie {c_1:Contract}{r}(h:sJ c_1=some r):sK.F (Ic c_1)=some (Ig r):=aH (aI aZ) h
noncomputable def Wt :=aF Tryz.f101
noncomputable def NH :=b9 [(142,Gd),(143,yS)]
def Ws (x:Contract)(r:(List aa)):St→Prop:=QF NH Tryz.f101 [false] (Ic x) (Ig r)
theorem NI (c_1:Contract):cW NH 0 (Ws c_1) (cL (cL (cR (cL (cR (cR Wt)))))) 0 (oM c_1) (fun u=>(sT 25 [(3,.hs 1 0 [] 1 0 (u.map str).length)] [⟨0,1,u.map str⟩] 2)) fun x2=>(sT 25 [(3,.hs 1 0 [] 1 0 (x2.2.map str).length),(8,.isl false (c_1.Clauses.map aj)),(9,I (len c_1.Clauses)),(10,I x2.1)] [⟨0,1,x2.2.map str⟩] 2):=eF (ET c_1) fun {Q K} hK self ih x2 y h hr hn=>by
 unfold lT at h
 refine cq 5 [11] [B (decide (x2.1<(len c_1.Clauses)))] 18 ?_
 refine sq h ?_ ?_<;>intro h
 ·refine aq 1 ?_
  refine aq 4 ?_
  obtain⟨e3,he3,h⟩:=bS h
  refine oq 34 (.iptr (ao e3) 0) rfl (au rfl rfl rfl (aV rfl rfl rfl rfl he3)) ?_
  refine ck 2 [5,13] [] [50] [] [.hp 50 0 [] 12 0 0,ao e3] [some ⟨0,12,[.agg [str ([]),I (0),I (0),str ([]),I (0),I (0),I (0),str ([]),I (0),.isl true [],I (0),str ([])]]⟩] 66 (by kernel_rfl) ?_
  refine eJ 50 [.agg [str ([]),I (0),I (0),str ([]),I (0),I (0),I (0),str ([]),I (0),.usl 4 (([]).map aC),I (0),str ([])]] rfl rfl (aD (fD (aD (.refl _) (aD (.refl _) (aD (.refl _) (aD (.refl _) (aD (.refl _) (aD (.refl _) (aD (.refl _) (aD (.refl _) (aD (.refl _) (aD (.nil _) (aD (.refl _) (aD (.refl _) dT))))))))))))) dT) ?_
  refine ck 2 [] [] [50] [] [] [some ⟨2,12,[ao e3]⟩] 82 (by kernel_rfl) ?_
  refine ez [0,1,0,0,8,24,60,127,255] rfl (by decide +kernel) ?_
  refine dq [50] [] (.hp 50 0 [] 12 0 6) rfl (al rfl rfl rfl) ?_
  refine dq [50] [] (ah e3.When) rfl (aY rfl rfl) ?_
  refine dk 1 [16] [.hs 1 0 [] 1 0 (x2.2.map str).length] ?_
  refine dq [50] [] (.hp 50 0 [] 12 0 3) rfl (al rfl rfl rfl) ?_
  refine dq [50] [] (str e3.Action) rfl (aY rfl rfl) ?_
  refine dq [] [] (.hs 162 0 [] 1 0 1) rfl (ft rfl (oo (f:=I) (xs:=[]) (z:=str ([])) (es:=[str e3.Action]) (ws:=[str e3.Action]) rfl rfl rfl (by decide) rfl (eo rfl) rfl)) ?_
  obtain⟨a4,ha4,h⟩:=bS h
  refine dq [1,162] [1] (.hs 178 0 [] 1 0 (a4.map str).length) rfl (kG rfl rfl rfl rfl rfl (oP (path:=[]) (f:=str) (xs:=x2.2) (ys:=[e3.Action]) rfl rfl (GP rfl rfl rfl) rfl rfl rfl bb rfl (by decide) jp ha4 rfl qx)) ?_ (IV rfl (IP (path:=[]) (f:=str) (xs:=[e3.Action]) rfl rfl bb lZ rfl))
  obtain⟨r5,hr5,h⟩:=bS h
  refine dq [178] [178] (.hs 194 0 [] 1 0 (r5.map str).length) rfl (cd rfl rfl (cO rfl rfl rfl (bw (bR rfl) (uI (qP rfl (lN (path:=[]) rfl rfl bb rfl)) dB)) (Wn hr5) (.inr rfl) (tU rfl rfl rfl mB d9) rfl rfl rfl)) ?_ (dE rfl rfl rfl rfl (bw (bR rfl) (uI (qP rfl (lN (path:=[]) rfl rfl bb rfl)) dB)) (Wn hr5) (.inr rfl) rfl)
  refine dk 1 [3] [.hs 194 0 [] 1 0 (r5.map str).length] ?_
  refine de 226 rfl rfl ?_
  refine cq 5 [10] [I (az (x2.1+1))] 258 ?_
  refine dP ?_
  exact rf [3,8,9,10] [194] (ih _ _ h hr hn :)
 ·refine aq 1 ?_
  exact rf [3] [1] (hn _ (ai h) :) (hk:=hK)
end Go.Ln
