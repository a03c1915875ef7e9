/-
  Each function of the program computes its plain function.
-/
import Derived.Test.YtobhcnmeflacnaaGreatDoorFnExactFormatClauseFun
import Derived.Test.YtobhcnmeflacnaaGreatDoorChecked
set_option maxHeartbeats 4000000
set_option linter.unusedVariables false
set_option linter.unusedSimpArgs false
set_option maxRecDepth 100000
namespace Go.Ln
open Go Go.Proofs
def zz:((List ac)×Int)→List V:=cA (mj str) (oA I)
def Az (r:Int):V×List V:=(I r,[])
noncomputable def xj:Ent:=aW [false,false] zz Az fun x=>wZ x.1 x.2
theorem RK {a_1:List ac}{left_2:Int}{r}(h:wZ a_1 left_2=some r):xj.F (zz (a_1,left_2))=some (Az r):=aF (bO (dG bp) (aE bK)) h
noncomputable def KJ:Code:=aD Tryz.f57
noncomputable def FN:Env:=bW Tryz.prog []
def JD (x:(List ac)×Int)(r:Int):St→Prop:=QF FN Tryz.f57 [false,false] (zz x) (Az r)
theorem Hh (a_1:List ac)(left_2:Int):cI FN 0 (JD (a_1,left_2)) (cL (cL (cR (cL (cR (cR (cR KJ))))))) 0 (pC a_1 left_2) (fun u=>(sT 28 [(1,I u)] [] 1)) fun x3=>(sT 28 [(0,.isl false (a_1.map str)),(1,I x3.1),(5,I x3.2)] [] 1):=eC (uT a_1 left_2) fun {Q K} hK self ih x3 y h hr hn=>by
 unfold kf at h
 refine cq 5 [12,13] [I x3.2,.isl false (a_1.map str)] 33 ?_
 refine oq 49 (I (len a_1)) rfl (bT rfl rfl rfl (ce rfl)) ?_
 refine cq 2 [15] [B (decide (x3.2<(len a_1)))] 65 ?_
 refine sq h (fun h=>?_) fun h=>?_
 ·refine aq 1 ?_
  refine cq 7 [18,19,20] [I x3.1,.isl false (a_1.map str),I x3.2] 113 ?_
  obtain⟨e4,he4,h⟩:=bS h
  refine oq 129 (.iptr (str e4) 0) rfl (ao rfl rfl rfl (bh rfl rfl rfl rfl he4)) ?_
  refine cq 10 [1,26] [I (an (x3.1 - (len e4))),B (decide ((an (x3.1 - (len e4)))<0))] 225 ?_
  refine sq h (fun h=>?_) fun h=>?_
  ·refine cq 4 [4] [I (-1)] 241 ?_
   exact aj rfl (hr _ (Option.some.inj h).symm _ (qp [I (-1)]))
  ·refine aq 1 ?_
   refine cq 6 [5] [I (an (x3.2+1))] 273 ?_
   refine dC ?_
   exact rf [0,1,5] [] (ih _ _ h hr hn :)
 ·refine aq 1 ?_
  exact rf [1] [] (hn _ (Option.some.inj h).symm :) (hk:=hK)
theorem Oj (a_1:List ac)(left_2:Int)(r:Int)(h:wZ a_1 left_2=some r):bl FN Tryz.f57 [false,false] 0 (zz (a_1,left_2)) (Az r):=by
 show Run _ _ (JD (a_1,left_2) r) [.code KJ] _
 refine rI 28 [(0,.isl false (a_1.map str)),(1,I left_2)] [] 1 ?_
 unfold wZ at h
 refine cq 8 [6,7] [I left_2,.isl false (a_1.map str)] 49 ?_
 refine oq 65 (I (len a_1)) rfl (bT rfl rfl rfl (ce rfl)) ?_
 refine cq 9 [1,11] [I (an (left_2 - (len a_1))),B (decide ((an (left_2 - (len a_1)))<0))] 129 ?_
 refine sq h (fun h=>?_) fun h=>?_
 ·refine cq 4 [4] [I (-1)] 145 ?_
  obtain rfl:=Option.some.inj h
  exact aj rfl (qp [I (-1)])
 ·refine aq 1 ?_
  refine cq 6 [5] [I (0)] 145 ?_
  obtain⟨y5,hy5,hy51,hy52⟩:=bJ h
  refine ci rfl ?_
  refine rf [0,1,5] [] (Hh a_1 left_2 rfl ((an (left_2 - (len a_1))),0) _ hy5 (fun r' e st hq=>by rw[hy51 r' e] at hq;exact hq) fun u5 hu=>?_)
  replace h:=hy52 u5 hu
  refine cq 5 [4] [I u5] 33 ?_
  obtain rfl:=Option.some.inj h
  exact aj rfl (qp [I u5])
theorem Lq {G:Go.Ln.Ground}[TabG Tryz.prog G]:aK Tryz.prog G 57 xj:=gT 2 0 bn (Checked.mixed Tryz.checked) Tryz.func57 (fun a r h=>Oj a.1 a.2 r h)
def rR:(Condition×Int)→List V:=cA aI (oA I)
def sH (r:Int):V×List V:=(I r,[])
noncomputable def nT (slf_Ffbh:(Condition×Int)→Option Int):Ent:=aW [false,false] rR sH slf_Ffbh
theorem HR (slf_Ffbh:(Condition×Int)→Option Int){x}{r}(h:slf_Ffbh x=some r):(nT slf_Ffbh).F (rR x)=some (sH r):=aF (bO bH (aE bK)) h
def zF:((List Condition)×Int)→List V:=cA (mj aa) (oA I)
def AO (r:Int):V×List V:=(I r,[])
noncomputable def xo (slf_Ffbh:(Condition×Int)→Option Int):Ent:=aW [false,false] zF AO fun x=>sn slf_Ffbh x.1 x.2
theorem Sa (slf_Ffbh:(Condition×Int)→Option Int){a_1:List Condition}{left_2:Int}{r}(h:sn slf_Ffbh a_1 left_2=some r):(xo slf_Ffbh).F (zF (a_1,left_2))=some (AO r):=aF (bO (dG dM) (aE bK)) h
noncomputable def JQ:Code:=aD Tryz.f215
noncomputable def Ev (slf_Ffbh:(Condition×Int)→Option Int):Env:=bW Tryz.prog [(178,(nT slf_Ffbh))]
def JO (slf_Ffbh:(Condition×Int)→Option Int)(x:(List Condition)×Int)(r:Int):St→Prop:=QF (Ev slf_Ffbh) Tryz.f215 [false,false] (zF x) (AO r)
theorem Hn (slf_Ffbh:(Condition×Int)→Option Int)(a_1:List Condition)(left_2:Int):cI (Ev slf_Ffbh) 0 (JO slf_Ffbh (a_1,left_2)) (cL (cL (cR (cL (cR (cR (cR JQ))))))) 0 (ni slf_Ffbh a_1 left_2) (fun u=>(sT 27 [(1,I u)] [] 1)) fun x3=>(sT 27 [(0,.isl false (a_1.map aa)),(1,I x3.1),(5,I x3.2)] [] 1):=eC (vw slf_Ffbh a_1 left_2) fun {Q K} hK self ih x3 y h hr hn=>by
 unfold jd at h
 refine cq 5 [12,13] [I x3.2,.isl false (a_1.map aa)] 33 ?_
 refine oq 49 (I (len a_1)) rfl (bT rfl rfl rfl (ce rfl)) ?_
 refine cq 2 [15] [B (decide (x3.2<(len a_1)))] 65 ?_
 refine sq h (fun h=>?_) fun h=>?_
 ·refine aq 1 ?_
  refine cq 6 [18,19] [.isl false (a_1.map aa),I x3.2] 97 ?_
  obtain⟨e4,he4,h⟩:=bS h
  refine oq 113 (.iptr (aI e4) 0) rfl (ao rfl rfl rfl (bh rfl rfl (aQ e4) rfl he4)) ?_
  refine cq 2 [21,22] [aI e4,I x3.1] 145 ?_
  obtain⟨r5,hr5,h⟩:=bS h
  refine oq 161 (I r5) rfl (bU rfl rfl (cm rfl rfl rfl (bX (cj rfl) (bX (cj rfl) cN)) (HR slf_Ffbh hr5) (.inr rfl) dF rfl rfl rfl)) ?_
  refine cq 7 [1,25] [I r5,B (decide (r5<0))] 209 ?_
  refine sq h (fun h=>?_) fun h=>?_
  ·refine cq 4 [4] [I (-1)] 225 ?_
   exact aj rfl (hr _ (Option.some.inj h).symm _ (qp [I (-1)]))
  ·refine aq 1 ?_
   refine cq 6 [5] [I (an (x3.2+1))] 257 ?_
   refine dC ?_
   exact rf [0,1,5] [] (ih _ _ h hr hn :)
 ·refine aq 1 ?_
  exact rf [1] [] (hn _ (Option.some.inj h).symm :) (hk:=hK)
theorem OU (slf_Ffbh:(Condition×Int)→Option Int)(a_1:List Condition)(left_2:Int)(r:Int)(h:sn slf_Ffbh a_1 left_2=some r):bl (Ev slf_Ffbh) Tryz.f215 [false,false] 0 (zF (a_1,left_2)) (AO r):=by
 show Run _ _ (JO slf_Ffbh (a_1,left_2) r) [.code JQ] _
 refine rI 27 [(0,.isl false (a_1.map aa)),(1,I left_2)] [] 1 ?_
 unfold sn at h
 refine cq 8 [6,7] [I left_2,.isl false (a_1.map aa)] 49 ?_
 refine oq 65 (I (len a_1)) rfl (bT rfl rfl rfl (ce rfl)) ?_
 refine cq 9 [1,11] [I (an (left_2 - (len a_1))),B (decide ((an (left_2 - (len a_1)))<0))] 129 ?_
 refine sq h (fun h=>?_) fun h=>?_
 ·refine cq 4 [4] [I (-1)] 145 ?_
  obtain rfl:=Option.some.inj h
  exact aj rfl (qp [I (-1)])
 ·refine aq 1 ?_
  refine cq 6 [5] [I (0)] 145 ?_
  obtain⟨y6,hy6,hy61,hy62⟩:=bJ h
  refine ci rfl ?_
  refine rf [0,1,5] [] (Hn slf_Ffbh a_1 left_2 rfl ((an (left_2 - (len a_1))),0) _ hy6 (fun r' e st hq=>by rw[hy61 r' e] at hq;exact hq) fun u6 hu=>?_)
  replace h:=hy62 u6 hu
  refine cq 5 [4] [I u6] 33 ?_
  obtain rfl:=Option.some.inj h
  exact aj rfl (qp [I u6])
theorem LZ {G:Go.Ln.Ground}[TabG Tryz.prog G](slf_Ffbh:(Condition×Int)→Option Int)(g_Ffbh:aK Tryz.prog G 178 (nT slf_Ffbh)):aK Tryz.prog G 215 (xo slf_Ffbh):=gT 2 0 (aJ g_Ffbh bn) (Checked.mixed Tryz.checked) Tryz.func215 (fun a r h=>OU slf_Ffbh a.1 a.2 r h)
noncomputable def wg:Ent:=nT (ay md)
theorem R9 {a_1:Condition}{left_2:Int}{r}(h:tg a_1 left_2=some r):wg.F (rR (a_1,left_2))=some (sH r):=HR (ay md) h
noncomputable def Rn:Code:=aD Tryz.f178
noncomputable def Mw (slf_Ffbh:(Condition×Int)→Option Int):Env:=bW Tryz.prog [(215,(xo slf_Ffbh))]
def R4 (slf_Ffbh:(Condition×Int)→Option Int)(x:Condition×Int)(r:Int):St→Prop:=QF (Mw slf_Ffbh) Tryz.f178 [false,false] (rR x) (sH r)
theorem MZ (slf_Ffbh:(Condition×Int)→Option Int)(a_1:Condition)(left_2:Int)(r:Int)(h:pG slf_Ffbh a_1 left_2=some r):bl (Mw slf_Ffbh) Tryz.f178 [false,false] 0 (rR (a_1,left_2)) (sH r):=by
 show Run _ _ (R4 slf_Ffbh (a_1,left_2) r) [.code Rn] _
 refine rI 19 [(0,aI a_1),(1,I left_2)] [] 1 ?_
 unfold pG at h
 refine ck 20 [1,2,11] [] [1] [] [I (an (left_2 - (len a_1.Name))),.hp 1 0 [] 4 0 0,B (decide ((an (left_2 - (len a_1.Name)))<0))] [some ⟨0,4,[aI a_1]⟩] 161 (by kernel_rfl) ?_
 refine sq h (fun h=>?_) fun h=>?_
 ·refine cq 4 [4] [I (-1)] 177 ?_
  obtain rfl:=Option.some.inj h
  exact aj rfl (qp [I (-1)])
 ·refine aq 1 ?_
  refine cq 5 [13,14] [.isl false (a_1.Parts.map aa),I (an (left_2 - (len a_1.Name)))] 209 ?_
  obtain⟨r3,hr3,h⟩:=bS h
  refine oq 225 (I r3) rfl (bU rfl rfl (cm rfl rfl rfl (bX (cj rfl) (bX (cj rfl) cN)) (Sa slf_Ffbh hr3) (.inr rfl) dF rfl rfl rfl)) ?_
  refine cq 8 [1,17] [I r3,B (decide (r3<0))] 273 ?_
  refine sq h (fun h=>?_) fun h=>?_
  ·refine cq 4 [4] [I (-1)] 289 ?_
   obtain rfl:=Option.some.inj h
   exact aj rfl (qp [I (-1)])
  ·refine aq 1 ?_
   refine cq 5 [4] [I r3] 305 ?_
   obtain rfl:=Option.some.inj h
   exact aj rfl (qp [I r3])
theorem Kz {G:Go.Ln.Ground}[TabG Tryz.prog G]:aK Tryz.prog G 178 wg:=fE fun slf_Ffbh g_Ffbh=>gT 2 0 (aJ (LZ slf_Ffbh g_Ffbh) bn) (Checked.mixed Tryz.checked) Tryz.func178 (fun a r h=>MZ slf_Ffbh a.1 a.2 r h)
def yu:(Clause×Int)→List V:=cA ae (oA I)
def xO (r:Int):V×List V:=(I r,[])
noncomputable def wm:Ent:=aW [false,false] yu xO fun x=>qH x.1 x.2
theorem RS {a_1:Clause}{left_2:Int}{r}(h:qH a_1 left_2=some r):wm.F (yu (a_1,left_2))=some (xO r):=aF (bO cH (aE bK)) h
noncomputable def Rc:Code:=aD Tryz.f113
noncomputable def Mv:Env:=bW Tryz.prog [(178,wg)]
def RN (x:Clause×Int)(r:Int):St→Prop:=QF Mv Tryz.f113 [false,false] (yu x) (xO r)
theorem NP (a_1:Clause)(left_2:Int)(r:Int)(h:qH a_1 left_2=some r):bl Mv Tryz.f113 [false,false] 0 (yu (a_1,left_2)) (xO r):=by
 show Run _ _ (RN (a_1,left_2) r) [.code Rc] _
 refine rI 33 [(0,ae a_1),(1,I left_2)] [] 1 ?_
 unfold qH at h
 refine ck 20 [1,2,11] [] [1] [] [I (an (left_2 - (len a_1.Id))),.hp 1 0 [] 12 0 0,B (decide ((an (left_2 - (len a_1.Id)))<0))] [some ⟨0,12,[ae a_1]⟩] 161 (by kernel_rfl) ?_
 refine sq h (fun h=>?_) fun h=>?_
 ·refine cq 4 [4] [I (-1)] 177 ?_
  obtain rfl:=Option.some.inj h
  exact aj rfl (qp [I (-1)])
 ·refine aq 1 ?_
  refine cq 15 [1,18] [I (an ((an (left_2 - (len a_1.Id))) - (len a_1.Action))),B (decide ((an ((an (left_2 - (len a_1.Id))) - (len a_1.Action)))<0))] 289 ?_
  refine sq h (fun h=>?_) fun h=>?_
  ·refine cq 4 [4] [I (-1)] 305 ?_
   obtain rfl:=Option.some.inj h
   exact aj rfl (qp [I (-1)])
  ·refine aq 1 ?_
   refine cq 5 [20,21] [aI a_1.When,I (an ((an (left_2 - (len a_1.Id))) - (len a_1.Action)))] 337 ?_
   obtain⟨r3,hr3,h⟩:=bS h
   refine oq 353 (I r3) rfl (cP (R9 hr3)) ?_
   refine cq 8 [1,24] [I r3,B (decide (r3<0))] 401 ?_
   refine sq h (fun h=>?_) fun h=>?_
   ·refine cq 4 [4] [I (-1)] 417 ?_
    obtain rfl:=Option.some.inj h
    exact aj rfl (qp [I (-1)])
   ·refine aq 1 ?_
    refine cq 15 [1,31] [I (an (r3 - (len a_1.Repair))),B (decide ((an (r3 - (len a_1.Repair)))<0))] 529 ?_
    refine sq h (fun h=>?_) fun h=>?_
    ·refine cq 4 [4] [I (-1)] 545 ?_
     obtain rfl:=Option.some.inj h
     exact aj rfl (qp [I (-1)])
    ·refine aq 1 ?_
     refine cq 5 [4] [I (an (r3 - (len a_1.Repair)))] 561 ?_
     obtain rfl:=Option.some.inj h
     exact aj rfl (qp [I (an (r3 - (len a_1.Repair)))])
theorem JG {G:Go.Ln.Ground}[TabG Tryz.prog G]:aK Tryz.prog G 113 wm:=gT 2 0 (aJ Kz bn) (Checked.mixed Tryz.checked) Tryz.func113 (fun a r h=>NP a.1 a.2 r h)
def yO:((List Clause)×Int)→List V:=cA (mj ae) (oA I)
def AL (r:Int):V×List V:=(I r,[])
noncomputable def vH:Ent:=aW [false,false] yO AL fun x=>vT x.1 x.2
theorem Ss {a_1:List Clause}{left_2:Int}{r}(h:vT a_1 left_2=some r):vH.F (yO (a_1,left_2))=some (AL r):=aF (bO (dG cH) (aE bK)) h
noncomputable def LM:Code:=aD Tryz.f58
noncomputable def Ew:Env:=bW Tryz.prog [(113,wm)]
def J4 (x:(List Clause)×Int)(r:Int):St→Prop:=QF Ew Tryz.f58 [false,false] (yO x) (AL r)
theorem Hb (a_1:List Clause)(left_2:Int):cI Ew 0 (J4 (a_1,left_2)) (cL (cL (cR (cL (cR (cR (cR LM))))))) 0 (ph a_1 left_2) (fun u=>(sT 27 [(1,I u)] [] 1)) fun x3=>(sT 27 [(0,.isl false (a_1.map ae)),(1,I x3.1),(5,I x3.2)] [] 1):=eC (uQ a_1 left_2) fun {Q K} hK self ih x3 y h hr hn=>by
 unfold ki at h
 refine cq 5 [12,13] [I x3.2,.isl false (a_1.map ae)] 33 ?_
 refine oq 49 (I (len a_1)) rfl (bT rfl rfl rfl (ce rfl)) ?_
 refine cq 2 [15] [B (decide (x3.2<(len a_1)))] 65 ?_
 refine sq h (fun h=>?_) fun h=>?_
 ·refine aq 1 ?_
  refine cq 6 [18,19] [.isl false (a_1.map ae),I x3.2] 97 ?_
  obtain⟨e4,he4,h⟩:=bS h
  refine oq 113 (.iptr (ae e4) 0) rfl (ao rfl rfl rfl (bh rfl rfl rfl rfl he4)) ?_
  refine cq 2 [21,22] [ae e4,I x3.1] 145 ?_
  obtain⟨r5,hr5,h⟩:=bS h
  refine oq 161 (I r5) rfl (cP (RS hr5)) ?_
  refine cq 7 [1,25] [I r5,B (decide (r5<0))] 209 ?_
  refine sq h (fun h=>?_) fun h=>?_
  ·refine cq 4 [4] [I (-1)] 225 ?_
   exact aj rfl (hr _ (Option.some.inj h).symm _ (qp [I (-1)]))
  ·refine aq 1 ?_
   refine cq 6 [5] [I (an (x3.2+1))] 257 ?_
   refine dC ?_
   exact rf [0,1,5] [] (ih _ _ h hr hn :)
 ·refine aq 1 ?_
  exact rf [1] [] (hn _ (Option.some.inj h).symm :) (hk:=hK)
theorem Ox (a_1:List Clause)(left_2:Int)(r:Int)(h:vT a_1 left_2=some r):bl Ew Tryz.f58 [false,false] 0 (yO (a_1,left_2)) (AL r):=by
 show Run _ _ (J4 (a_1,left_2) r) [.code LM] _
 refine rI 27 [(0,.isl false (a_1.map ae)),(1,I left_2)] [] 1 ?_
 unfold vT at h
 refine cq 8 [6,7] [I left_2,.isl false (a_1.map ae)] 49 ?_
 refine oq 65 (I (len a_1)) rfl (bT rfl rfl rfl (ce rfl)) ?_
 refine cq 9 [1,11] [I (an (left_2 - (len a_1))),B (decide ((an (left_2 - (len a_1)))<0))] 129 ?_
 refine sq h (fun h=>?_) fun h=>?_
 ·refine cq 4 [4] [I (-1)] 145 ?_
  obtain rfl:=Option.some.inj h
  exact aj rfl (qp [I (-1)])
 ·refine aq 1 ?_
  refine cq 6 [5] [I (0)] 145 ?_
  obtain⟨y6,hy6,hy61,hy62⟩:=bJ h
  refine ci rfl ?_
  refine rf [0,1,5] [] (Hb a_1 left_2 rfl ((an (left_2 - (len a_1))),0) _ hy6 (fun r' e st hq=>by rw[hy61 r' e] at hq;exact hq) fun u6 hu=>?_)
  replace h:=hy62 u6 hu
  refine cq 5 [4] [I u6] 33 ?_
  obtain rfl:=Option.some.inj h
  exact aj rfl (qp [I u6])
theorem Lh {G:Go.Ln.Ground}[TabG Tryz.prog G]:aK Tryz.prog G 58 vH:=gT 2 0 (aJ JG bn) (Checked.mixed Tryz.checked) Tryz.func58 (fun a r h=>Ox a.1 a.2 r h)
def yZ:(Contract×Int)→List V:=cA aN (oA I)
def AM (r:Int):V×List V:=(I r,[])
noncomputable def wl:Ent:=aW [false,false] yZ AM fun x=>xi x.1 x.2
theorem RP {a_1:Contract}{left_2:Int}{r}(h:xi a_1 left_2=some r):wl.F (yZ (a_1,left_2))=some (AM r):=aF (bO bm (aE bK)) h
noncomputable def Re:Code:=aD Tryz.f15
noncomputable def Kc:Env:=bW Tryz.prog [(57,xj),(58,vH)]
def SH (x:Contract×Int)(r:Int):St→Prop:=QF Kc Tryz.f15 [false,false] (yZ x) (AM r)
theorem OG (a_1:Contract)(left_2:Int)(r:Int)(h:xi a_1 left_2=some r):bl Kc Tryz.f15 [false,false] 0 (yZ (a_1,left_2)) (AM r):=by
 show Run _ _ (SH (a_1,left_2) r) [.code Re] _
 refine rI 18 [(0,aN a_1),(1,I left_2)] [] 1 ?_
 unfold xi at h
 refine ck 10 [2,6,7] [] [1] [] [.hp 1 0 [] 2 0 0,.isl false (a_1.Parties.map str),I left_2] [some ⟨0,2,[aN a_1]⟩] 81 (by kernel_rfl) ?_
 obtain⟨r3,hr3,h⟩:=bS h
 refine oq 97 (I r3) rfl (cP (RK hr3)) ?_
 refine cq 8 [1,10] [I r3,B (decide (r3<0))] 145 ?_
 refine sq h (fun h=>?_) fun h=>?_
 ·refine cq 4 [4] [I (-1)] 161 ?_
  obtain rfl:=Option.some.inj h
  exact aj rfl (qp [I (-1)])
 ·refine aq 1 ?_
  refine cq 5 [12,13] [.isl false (a_1.Clauses.map ae),I r3] 193 ?_
  obtain⟨r4,hr4,h⟩:=bS h
  refine oq 209 (I r4) rfl (cP (Ss hr4)) ?_
  refine cq 8 [1,16] [I r4,B (decide (r4<0))] 257 ?_
  refine sq h (fun h=>?_) fun h=>?_
  ·refine cq 4 [4] [I (-1)] 273 ?_
   obtain rfl:=Option.some.inj h
   exact aj rfl (qp [I (-1)])
  ·refine aq 1 ?_
   refine cq 5 [4] [I r4] 289 ?_
   obtain rfl:=Option.some.inj h
   exact aj rfl (qp [I r4])
theorem Ls {G:Go.Ln.Ground}[TabG Tryz.prog G]:aK Tryz.prog G 15 wl:=gT 2 0 (aJ Lq (aJ Lh bn)) (Checked.mixed Tryz.checked) Tryz.func15 (fun a r h=>OG a.1 a.2 r h)
def yf:(List ac)→List V:=oA (mj str)
def zh (r:(List ac)):V×List V:=(.usl 1 (r.map str),[])
noncomputable def wn:Ent:=aW [false] yf zh fun x=>vO x
theorem SB {a_1:List ac}{r}(h:vO a_1=some r):wn.F (yf a_1)=some (zh r):=aF (aE (dG bp)) h
noncomputable def MD:Code:=aD Tryz.f62
noncomputable def E4:Env:=bW Tryz.prog []
def KZ (x:(List ac))(r:(List ac)):St→Prop:=QF E4 Tryz.f62 [false] (yf x) (zh r)
theorem GC (a_1:List ac):cI E4 0 (KZ a_1) (cL (cL (cR (cL (cR (cR MD)))))) 0 (pY a_1) (fun u=>(sT 22 [(3,.hs 1 0 [] 1 0 (u.map str).length)] [⟨0,1,u.map str⟩] 2)) fun x3=>(sT 22 [(0,.isl false (a_1.map str)),(3,.hs 1 0 [] 1 0 (x3.2.map str).length),(4,I x3.1)] [⟨0,1,x3.2.map str⟩] 2):=eC (vn a_1) fun {Q K} hK self ih x3 y h hr hn=>by
 unfold kw at h
 refine cq 5 [8,9] [I x3.1,.isl false (a_1.map str)] 34 ?_
 refine oq 50 (I (len a_1)) rfl (bT rfl rfl rfl (ce rfl)) ?_
 refine cq 2 [11] [B (decide (x3.1<(len a_1)))] 66 ?_
 refine sq h (fun h=>?_) fun h=>?_
 ·refine aq 1 ?_
  refine cq 7 [14,15,16,17] [.hs 1 0 [] 1 0 (x3.2.map str).length,I x3.1,.isl false (a_1.map str),I x3.1] 130 ?_
  obtain⟨e4,he4,h⟩:=bS h
  refine oq 146 (.iptr (str e4) 0) rfl (ao rfl rfl rfl (bh rfl rfl rfl rfl he4)) ?_
  refine cq 1 [19] [str e4] 162 ?_
  obtain⟨e5,he5,h⟩:=bS h
  refine oq 178 (.hp 1 0 [] 1 (0+Int.toNat x3.1) 0) rfl (ao rfl rfl rfl (iY (f:=str) (xs:=x3.2) rfl rfl rfl he5)) ?_
  refine o0 194 rfl rfl (li rfl rfl (iz (path:=[]) (pl:=true) (e':=str e4) (es2':=(eU x3.2 x3.1 e4).map str) rfl (eR rfl) rfl rfl rfl bM (gB (f:=str) (xs:=x3.2) he5) rfl rfl rfl (mY (f:=str) (xs:=x3.2) (y:=e4)) fU 0 rfl)) ?_
  try rw[←lQ (f:=str) (xs:=x3.2) (i:=x3.1) (z:=e4)]
  refine cq 7 [4] [I (an (x3.1+1))] 242 ?_
  refine dC ?_
  exact rf [0,3,4] [1] (ih _ _ h hr hn :)
 ·refine aq 1 ?_
  exact rf [3] [1] (hn _ (Option.some.inj h).symm :) (hk:=hK)
theorem Nn (a_1:List ac)(r:(List ac))(h:vO a_1=some r):bl E4 Tryz.f62 [false] 0 (yf a_1) (zh r):=by
 show Run _ _ (KZ a_1 r) [.code MD] _
 refine rI 22 [(0,.isl false (a_1.map str))] [] 1 ?_
 unfold vO at h
 refine cq 7 [5] [.isl false (a_1.map str)] 33 ?_
 refine oq 49 (I (len a_1)) rfl (bT rfl rfl rfl (ce rfl)) ?_
 obtain⟨m2,hm2,h⟩:=bS h
 refine oq 65 (.hs 49 0 [] 1 0 (m2.map str).length) rfl (lU rfl rfl (Ll (f:=str) rfl rfl rfl (by decide) hm2 rfl)) ?_
 refine cq 8 [3,4] [.hs 49 0 [] 1 0 (m2.map str).length,I (0)] 97 ?_
 obtain⟨y6,hy6,hy61,hy62⟩:=bJ h
 refine ci rfl ?_
 refine rf [0,3,4] [49] (GC a_1 rfl (0,m2) _ hy6 (fun r' e st hq=>by rw[hy61 r' e] at hq;exact hq) fun u6 hu=>?_)
 replace h:=hy62 u6 hu
 refine cq 5 [2] [.hs 1 0 [] 1 0 (u6.map str).length] 34 ?_
 obtain rfl:=Option.some.inj h
 exact aj rfl ⟨_,fin (vs:=[.hs 1 0 [] 1 0 (u6.map str).length]) rfl (fK (gt rfl (dK rfl rfl)) et) rfl (fh fT),fI⟩
theorem LK {G:Go.Ln.Ground}[TabG Tryz.prog G]:aK Tryz.prog G 62 wn:=gT 1 0 bn (Checked.mixed Tryz.checked) Tryz.func62 (fun a r h=>Nn a r h)
def rH:Condition→List V:=oA aI
def rY (r:Condition):V×List V:=(.agg [I r.Op,str r.Name,I r.Day,.usl 4 (r.Parts.map ak)],[])
noncomputable def oa (slf_Ffbn:Condition→Option Condition):Ent:=aW [false] rH rY slf_Ffbn
theorem HS (slf_Ffbn:Condition→Option Condition){x}{r}(h:slf_Ffbn x=some r):(oa slf_Ffbn).F (rH x)=some (rY r):=aF (aE bH) h
def yR:(List Condition)→List V:=oA (mj aa)
def AR (r:(List Condition)):V×List V:=(.usl 4 (r.map ak),[])
noncomputable def vR (slf_Ffbn:Condition→Option Condition):Ent:=aW [false] yR AR fun x=>sF slf_Ffbn x
theorem Ry (slf_Ffbn:Condition→Option Condition){a_1:List Condition}{r}(h:sF slf_Ffbn a_1=some r):(vR slf_Ffbn).F (yR a_1)=some (AR r):=aF (aE (dG dM)) h
noncomputable def Lz:Code:=aD Tryz.f216
noncomputable def EE (slf_Ffbn:Condition→Option Condition):Env:=bW Tryz.prog [(183,(oa slf_Ffbn))]
def J6 (slf_Ffbn:Condition→Option Condition)(x:(List Condition))(r:(List Condition)):St→Prop:=QF (EE slf_Ffbn) Tryz.f216 [false] (yR x) (AR r)
theorem GZ (slf_Ffbn:Condition→Option Condition)(a_1:List Condition):cI (EE slf_Ffbn) 0 (J6 slf_Ffbn a_1) (cL (cL (cR (cL (cR (cR Lz)))))) 0 (nc slf_Ffbn a_1) (fun u=>(sT 23 [(3,.hs 1 0 [] 4 0 (u.map ak).length)] [⟨0,4,u.map ak⟩] 2)) fun x3=>(sT 23 [(0,.isl false (a_1.map aa)),(3,.hs 1 0 [] 4 0 (x3.2.map ak).length),(4,I x3.1)] [⟨0,4,x3.2.map ak⟩] 2):=eC (uK slf_Ffbn a_1) fun {Q K} hK self ih x3 y h hr hn=>by
 unfold iR at h
 refine cq 5 [8,9] [I x3.1,.isl false (a_1.map aa)] 34 ?_
 refine oq 50 (I (len a_1)) rfl (bT rfl rfl rfl (ce rfl)) ?_
 refine cq 2 [11] [B (decide (x3.1<(len a_1)))] 66 ?_
 refine sq h (fun h=>?_) fun h=>?_
 ·refine aq 1 ?_
  refine cq 7 [14,15,16,17] [.hs 1 0 [] 4 0 (x3.2.map ak).length,I x3.1,.isl false (a_1.map aa),I x3.1] 130 ?_
  obtain⟨e4,he4,h⟩:=bS h
  refine oq 146 (.iptr (aI e4) 0) rfl (ao rfl rfl rfl (bh rfl rfl (aQ e4) rfl he4)) ?_
  refine cq 1 [19] [aI e4] 162 ?_
  obtain⟨r5,hr5,h⟩:=bS h
  refine oq 178 (.agg [I r5.Op,str r5.Name,I r5.Day,.hs 162 0 [] 4 0 (r5.Parts.map ak).length]) rfl (bU rfl rfl (cm rfl rfl rfl (bX (cj rfl) cN) (HS slf_Ffbn hr5) (.inr rfl) dF rfl rfl rfl)) ?_
  obtain⟨e6,he6,h⟩:=bS h
  refine oq 194 (.hp 1 0 [] 4 (0+Int.toNat x3.1) 0) rfl (ao rfl rfl rfl (iY (f:=ak) (xs:=x3.2) rfl rfl rfl he6)) ?_
  refine o0 210 rfl rfl (li rfl rfl (iz (path:=[]) (pl:=false) (e':=.agg [I r5.Op,str r5.Name,I r5.Day,.usl 4 (r5.Parts.map ak)]) (es2':=(eU x3.2 x3.1 r5).map ak) rfl (oL (cb (ch rfl) (cb (ch rfl) (cb (ch rfl) (cb (dK rfl rfl) oM))))) rfl rfl rfl bM (OV (f:=ak) (xs:=x3.2) (jA e6) he6) rfl rfl rfl (NV (f:=ak) (xs:=x3.2) (jA r5)) fU 1 rfl)) ?_
  try rw[←lQ (f:=ak) (xs:=x3.2) (i:=x3.1) (z:=r5)]
  refine cq 7 [4] [I (an (x3.1+1))] 258 ?_
  refine dC ?_
  exact rf [0,3,4] [1] (ih _ _ h hr hn :)
 ·refine aq 1 ?_
  exact rf [3] [1] (hn _ (Option.some.inj h).symm :) (hk:=hK)
theorem Ot (slf_Ffbn:Condition→Option Condition)(a_1:List Condition)(r:(List Condition))(h:sF slf_Ffbn a_1=some r):bl (EE slf_Ffbn) Tryz.f216 [false] 0 (yR a_1) (AR r):=by
 show Run _ _ (J6 slf_Ffbn a_1 r) [.code Lz] _
 refine rI 23 [(0,.isl false (a_1.map aa))] [] 1 ?_
 unfold sF at h
 refine cq 7 [5] [.isl false (a_1.map aa)] 33 ?_
 refine oq 49 (I (len a_1)) rfl (bT rfl rfl rfl (ce rfl)) ?_
 obtain⟨m2,hm2,h⟩:=bS h
 refine oq 65 (.hs 49 0 [] 4 0 (m2.map ak).length) rfl (lU rfl rfl (LH (g:=ak) (f:=fun _=>(.agg [I (0),str ([]),I (0),.isl true []]:V)) (z0:=(Condition.mk 0 [] 0 [])) rfl rfl rfl (by decide) hm2 rfl)) ?_
 refine eF 49 (m2.map ak) rfl rfl (En hm2 ((jA _).symm▸fH (au (.refl _) (au (.refl _) (au (.refl _) (au (.nil _) dH)))))) ?_
 refine cq 8 [3,4] [.hs 49 0 [] 4 0 (m2.map ak).length,I (0)] 97 ?_
 obtain⟨y7,hy7,hy71,hy72⟩:=bJ h
 refine ci rfl ?_
 refine rf [0,3,4] [49] (GZ slf_Ffbn a_1 rfl (0,m2) _ hy7 (fun r' e st hq=>by rw[hy71 r' e] at hq;exact hq) fun u7 hu=>?_)
 replace h:=hy72 u7 hu
 refine cq 5 [2] [.hs 1 0 [] 4 0 (u7.map ak).length] 34 ?_
 obtain rfl:=Option.some.inj h
 exact aj rfl ⟨_,fin (vs:=[.hs 1 0 [] 4 0 (u7.map ak).length]) rfl (fK (gt rfl (dK rfl rfl)) et) rfl (fh fT),fI⟩
theorem MH {G:Go.Ln.Ground}[TabG Tryz.prog G](slf_Ffbn:Condition→Option Condition)(g_Ffbn:aK Tryz.prog G 183 (oa slf_Ffbn)):aK Tryz.prog G 216 (vR slf_Ffbn):=gT 1 0 (aJ g_Ffbn bn) (Checked.mixed Tryz.checked) Tryz.func216 (fun a r h=>Ot slf_Ffbn a r h)
noncomputable def vG:Ent:=oa (ay mp)
theorem SN {a_1:Condition}{r}(h:xt a_1=some r):vG.F (rH a_1)=some (rY r):=HS (ay mp) h
noncomputable def SF:Code:=aD Tryz.f183
noncomputable def Mk (slf_Ffbn:Condition→Option Condition):Env:=bW Tryz.prog [(216,(vR slf_Ffbn))]
def Sk (slf_Ffbn:Condition→Option Condition)(x:Condition)(r:Condition):St→Prop:=QF (Mk slf_Ffbn) Tryz.f183 [false] (rH x) (rY r)
theorem MK (slf_Ffbn:Condition→Option Condition)(a_1:Condition)(r:Condition)(h:pX slf_Ffbn a_1=some r):bl (Mk slf_Ffbn) Tryz.f183 [false] 0 (rH a_1) (rY r):=by
 show Run _ _ (Sk slf_Ffbn a_1 r) [.code SF] _
 refine rI 18 [(0,aI a_1)] [] 1 ?_
 unfold pX at h
 refine ck 4 [1,2] [] [1,17] [] [.hp 1 0 [] 4 0 0,.hp 17 0 [] 4 0 0] [some ⟨0,4,[aI a_1]⟩,some ⟨0,4,[.agg [I (0),str ([]),I (0),.isl true []]]⟩] 33 (by kernel_rfl) ?_
 refine eF 17 [.agg [I (0),str ([]),I (0),.usl 4 (([]).map ak)]] rfl rfl (au (fH (au (.refl _) (au (.refl _) (au (.refl _) (au (.nil _) dH))))) dH) ?_
 refine ck 4 [3] [] [33] [] [.hp 33 0 [] 4 0 0] [some ⟨0,4,[.agg [I (0),str ([]),I (0),.isl true []]]⟩] 49 (by kernel_rfl) ?_
 refine eF 33 [.agg [I (0),str ([]),I (0),.usl 4 (([]).map ak)]] rfl rfl (au (fH (au (.refl _) (au (.refl _) (au (.refl _) (au (.nil _) dH))))) dH) ?_
 refine ck 26 [14] [] [33] [] [.isl false (a_1.Parts.map aa)] [some ⟨1,4,[.agg [I a_1.Op,str a_1.Name,I a_1.Day,.usl 4 (([]).map ak)]]⟩] 273 (by kernel_rfl) ?_
 obtain⟨r2,hr2,h⟩:=bS h
 refine oq 289 (.hs 273 0 [] 4 0 (r2.map ak).length) rfl (bU rfl rfl (cm rfl rfl rfl (bX (cj rfl) cN) (Ry slf_Ffbn hr2) (.inr rfl) dF rfl rfl rfl)) ?_
 refine cq 1 [16] [.hp 33 0 [] 4 0 3] 305 ?_
 refine o0 321 rfl rfl (li rfl rfl (iz (path:=[]) (pl:=false) (e':=.agg [I a_1.Op,str a_1.Name,I a_1.Day,.usl 4 (r2.map ak)]) (es2':=[.agg [I a_1.Op,str a_1.Name,I a_1.Day,.usl 4 (r2.map ak)]]) rfl (gt rfl (dK rfl rfl)) rfl rfl rfl bM rfl rfl rfl rfl rfl fU 2 rfl)) ?_
 refine cq 4 [17] [.agg [I a_1.Op,str a_1.Name,I a_1.Day,.hs 33 2 [(0,3)] 4 0 (r2.map ak).length]] 337 ?_
 refine o0 353 rfl rfl (li rfl rfl (iz (path:=[]) (pl:=false) (e':=.agg [I a_1.Op,str a_1.Name,I a_1.Day,.usl 4 (r2.map ak)]) (es2':=[.agg [I a_1.Op,str a_1.Name,I a_1.Day,.usl 4 (r2.map ak)]]) rfl (oL (cb (ch rfl) (cb (ch rfl) (cb (ch rfl) (cb (kH (path:=[(0,3)]) rfl rfl (kT rfl rfl bM) rfl (sY (path:=[]) (i:=0) (k:=3) (e':=.agg [I a_1.Op,str a_1.Name,I a_1.Day,.dead]) (es2':=[.agg [I a_1.Op,str a_1.Name,I a_1.Day,.dead]]) bM rfl rfl rfl fU)) oM))))) rfl rfl rfl bM rfl rfl rfl rfl rfl fU 2 rfl)) ?_
 refine aq 1 ?_
 obtain rfl:=Option.some.inj h
 exact aj rfl ⟨_,fin (vs:=[.agg [I a_1.Op,str a_1.Name,I a_1.Day,.hs 17 2 [(0,3)] 4 0 (r2.map ak).length]]) (EP (pW rfl rfl rfl) EM) (fK (oL (cb (ch rfl) (cb (ch rfl) (cb (ch rfl) (cb (kH (path:=[(0,3)]) rfl rfl (kT rfl rfl bM) rfl (sY (path:=[]) (i:=0) (k:=3) (e':=.agg [I a_1.Op,str a_1.Name,I a_1.Day,.dead]) (es2':=[.agg [I a_1.Op,str a_1.Name,I a_1.Day,.dead]]) bM rfl rfl rfl fU)) oM))))) et) rfl (fh fT),fI⟩
theorem LR {G:Go.Ln.Ground}[TabG Tryz.prog G]:aK Tryz.prog G 183 vG:=fE fun slf_Ffbn g_Ffbn=>gT 1 0 (aJ (MH slf_Ffbn g_Ffbn) bn) (Checked.mixed Tryz.checked) Tryz.func183 (fun a r h=>MK slf_Ffbn a r h)
def A8:Clause→List V:=oA ae
def zC (r:Clause):V×List V:=(.agg [str r.Id,I r.Kind,I r.Party,str r.Action,I r.Other,I r.Amount,I r.When.Op,str r.When.Name,I r.When.Day,.usl 4 (r.When.Parts.map ak),I r.Within,str r.Repair],[])
noncomputable def wQ:Ent:=aW [false] A8 zC fun x=>ta x
theorem RI {a_1:Clause}{r}(h:ta a_1=some r):wQ.F (A8 a_1)=some (zC r):=aF (aE cH) h
noncomputable def Sn:Code:=aD Tryz.f121
noncomputable def Kt:Env:=bW Tryz.prog [(183,vG)]
def Sx (x:Clause)(r:Clause):St→Prop:=QF Kt Tryz.f121 [false] (A8 x) (zC r)
theorem OH (a_1:Clause)(r:Clause)(h:ta a_1=some r):bl Kt Tryz.f121 [false] 0 (A8 a_1) (zC r):=by
 show Run _ _ (Sx a_1 r) [.code Sn] _
 refine rI 33 [(0,ae a_1)] [] 1 ?_
 unfold ta at h
 refine ck 4 [1,2] [] [1,17] [] [.hp 1 0 [] 12 0 0,.hp 17 0 [] 12 0 0] [some ⟨0,12,[ae a_1]⟩,some ⟨0,12,[.agg [str ([]),I (0),I (0),str ([]),I (0),I (0),I (0),str ([]),I (0),.isl true [],I (0),str ([])]]⟩] 33 (by kernel_rfl) ?_
 refine eF 17 [.agg [str ([]),I (0),I (0),str ([]),I (0),I (0),I (0),str ([]),I (0),.usl 4 (([]).map ak),I (0),str ([])]] rfl rfl (au (fH (au (.refl _) (au (.refl _) (au (.refl _) (au (.refl _) (au (.refl _) (au (.refl _) (au (.refl _) (au (.refl _) (au (.refl _) (au (.nil _) (au (.refl _) (au (.refl _) dH))))))))))))) dH) ?_
 refine ck 4 [3] [] [33] [] [.hp 33 0 [] 12 0 0] [some ⟨0,12,[.agg [str ([]),I (0),I (0),str ([]),I (0),I (0),I (0),str ([]),I (0),.isl true [],I (0),str ([])]]⟩] 49 (by kernel_rfl) ?_
 refine eF 33 [.agg [str ([]),I (0),I (0),str ([]),I (0),I (0),I (0),str ([]),I (0),.usl 4 (([]).map ak),I (0),str ([])]] rfl rfl (au (fH (au (.refl _) (au (.refl _) (au (.refl _) (au (.refl _) (au (.refl _) (au (.refl _) (au (.refl _) (au (.refl _) (au (.refl _) (au (.nil _) (au (.refl _) (au (.refl _) dH))))))))))))) dH) ?_
 refine ck 47 [23] [] [33] [] [aI a_1.When] [some ⟨1,12,[.agg [str a_1.Id,I a_1.Kind,I a_1.Party,str a_1.Action,I a_1.Other,I a_1.Amount,I (0),str ([]),I (0),.usl 4 (([]).map ak),I (0),str ([])]]⟩] 465 (by kernel_rfl) ?_
 obtain⟨r2,hr2,h⟩:=bS h
 refine oq 481 (.agg [I r2.Op,str r2.Name,I r2.Day,.hs 465 0 [] 4 0 (r2.Parts.map ak).length]) rfl (cP (SN hr2)) ?_
 refine cq 1 [25] [.hp 33 0 [] 12 0 6] 497 ?_
 refine o0 513 rfl rfl (li rfl rfl (iz (path:=[]) (pl:=false) (e':=.agg [str a_1.Id,I a_1.Kind,I a_1.Party,str a_1.Action,I a_1.Other,I a_1.Amount,I r2.Op,str r2.Name,I r2.Day,.usl 4 (r2.Parts.map ak),I (0),str ([])]) (es2':=[.agg [str a_1.Id,I a_1.Kind,I a_1.Party,str a_1.Action,I a_1.Other,I a_1.Amount,I r2.Op,str r2.Name,I r2.Day,.usl 4 (r2.Parts.map ak),I (0),str ([])]]) rfl (oL (cb (ch rfl) (cb (ch rfl) (cb (ch rfl) (cb (dK rfl rfl) oM))))) rfl rfl rfl bM rfl rfl rfl rfl rfl fU 2 rfl)) ?_
 refine ck 18 [32] [] [33] [] [.agg [str a_1.Id,I a_1.Kind,I a_1.Party,str a_1.Action,I a_1.Other,I a_1.Amount,I r2.Op,str r2.Name,I r2.Day,.hs 33 2 [(0,9)] 4 0 (r2.Parts.map ak).length,I a_1.Within,str a_1.Repair]] [some ⟨2,12,[.agg [str a_1.Id,I a_1.Kind,I a_1.Party,str a_1.Action,I a_1.Other,I a_1.Amount,I r2.Op,str r2.Name,I r2.Day,.usl 4 (r2.Parts.map ak),I a_1.Within,str a_1.Repair]]⟩] 657 (by kernel_rfl) ?_
 refine o0 673 rfl rfl (li rfl rfl (iz (path:=[]) (pl:=false) (e':=.agg [str a_1.Id,I a_1.Kind,I a_1.Party,str a_1.Action,I a_1.Other,I a_1.Amount,I r2.Op,str r2.Name,I r2.Day,.usl 4 (r2.Parts.map ak),I a_1.Within,str a_1.Repair]) (es2':=[.agg [str a_1.Id,I a_1.Kind,I a_1.Party,str a_1.Action,I a_1.Other,I a_1.Amount,I r2.Op,str r2.Name,I r2.Day,.usl 4 (r2.Parts.map ak),I a_1.Within,str a_1.Repair]]) rfl (oL (cb (ch rfl) (cb (ch rfl) (cb (ch rfl) (cb (ch rfl) (cb (ch rfl) (cb (ch rfl) (cb (ch rfl) (cb (ch rfl) (cb (ch rfl) (cb (kH (path:=[(0,9)]) rfl rfl (kT rfl rfl bM) rfl (sY (path:=[]) (i:=0) (k:=9) (e':=.agg [str a_1.Id,I a_1.Kind,I a_1.Party,str a_1.Action,I a_1.Other,I a_1.Amount,I r2.Op,str r2.Name,I r2.Day,.dead,I a_1.Within,str a_1.Repair]) (es2':=[.agg [str a_1.Id,I a_1.Kind,I a_1.Party,str a_1.Action,I a_1.Other,I a_1.Amount,I r2.Op,str r2.Name,I r2.Day,.dead,I a_1.Within,str a_1.Repair]]) bM rfl rfl rfl fU)) (cb (ch rfl) (cb (ch rfl) oM))))))))))))) rfl rfl rfl bM rfl rfl rfl rfl rfl fU 2 rfl)) ?_
 refine aq 1 ?_
 obtain rfl:=Option.some.inj h
 exact aj rfl ⟨_,fin (vs:=[.agg [str a_1.Id,I a_1.Kind,I a_1.Party,str a_1.Action,I a_1.Other,I a_1.Amount,I r2.Op,str r2.Name,I r2.Day,.hs 17 2 [(0,9)] 4 0 (r2.Parts.map ak).length,I a_1.Within,str a_1.Repair]]) (EP (pW rfl rfl rfl) EM) (fK (oL (cb (ch rfl) (cb (ch rfl) (cb (ch rfl) (cb (ch rfl) (cb (ch rfl) (cb (ch rfl) (cb (ch rfl) (cb (ch rfl) (cb (ch rfl) (cb (kH (path:=[(0,9)]) rfl rfl (kT rfl rfl bM) rfl (sY (path:=[]) (i:=0) (k:=9) (e':=.agg [str a_1.Id,I a_1.Kind,I a_1.Party,str a_1.Action,I a_1.Other,I a_1.Amount,I r2.Op,str r2.Name,I r2.Day,.dead,I a_1.Within,str a_1.Repair]) (es2':=[.agg [str a_1.Id,I a_1.Kind,I a_1.Party,str a_1.Action,I a_1.Other,I a_1.Amount,I r2.Op,str r2.Name,I r2.Day,.dead,I a_1.Within,str a_1.Repair]]) bM rfl rfl rfl fU)) (cb (ch rfl) (cb (ch rfl) oM))))))))))))) et) rfl (fh fT),fI⟩
theorem JT {G:Go.Ln.Ground}[TabG Tryz.prog G]:aK Tryz.prog G 121 wQ:=gT 1 0 (aJ LR bn) (Checked.mixed Tryz.checked) Tryz.func121 (fun a r h=>OH a r h)
def zV:(List Clause)→List V:=oA (mj ae)
def AC (r:(List Clause)):V×List V:=(.usl 12 (r.map aA),[])
noncomputable def wL:Ent:=aW [false] zV AC fun x=>v6 x
theorem Sr {a_1:List Clause}{r}(h:v6 a_1=some r):wL.F (zV a_1)=some (AC r):=aF (aE (dG cH)) h
noncomputable def LO:Code:=aD Tryz.f63
noncomputable def Gd:Env:=bW Tryz.prog [(121,wQ)]
def Lp (x:(List Clause))(r:(List Clause)):St→Prop:=QF Gd Tryz.f63 [false] (zV x) (AC r)
theorem Hl (a_1:List Clause):cI Gd 0 (Lp a_1) (cL (cL (cR (cL (cR (cR LO)))))) 0 (pZ a_1) (fun u=>(sT 23 [(3,.hs 1 0 [] 12 0 (u.map aA).length)] [⟨0,12,u.map aA⟩] 2)) fun x3=>(sT 23 [(0,.isl false (a_1.map ae)),(3,.hs 1 0 [] 12 0 (x3.2.map aA).length),(4,I x3.1)] [⟨0,12,x3.2.map aA⟩] 2):=eC (uC a_1) fun {Q K} hK self ih x3 y h hr hn=>by
 unfold kz at h
 refine cq 5 [8,9] [I x3.1,.isl false (a_1.map ae)] 34 ?_
 refine oq 50 (I (len a_1)) rfl (bT rfl rfl rfl (ce rfl)) ?_
 refine cq 2 [11] [B (decide (x3.1<(len a_1)))] 66 ?_
 refine sq h (fun h=>?_) fun h=>?_
 ·refine aq 1 ?_
  refine cq 7 [14,15,16,17] [.hs 1 0 [] 12 0 (x3.2.map aA).length,I x3.1,.isl false (a_1.map ae),I x3.1] 130 ?_
  obtain⟨e4,he4,h⟩:=bS h
  refine oq 146 (.iptr (ae e4) 0) rfl (ao rfl rfl rfl (bh rfl rfl rfl rfl he4)) ?_
  refine cq 1 [19] [ae e4] 162 ?_
  obtain⟨r5,hr5,h⟩:=bS h
  refine oq 178 (.agg [str r5.Id,I r5.Kind,I r5.Party,str r5.Action,I r5.Other,I r5.Amount,I r5.When.Op,str r5.When.Name,I r5.When.Day,.hs 162 0 [] 4 0 (r5.When.Parts.map ak).length,I r5.Within,str r5.Repair]) rfl (cP (RI hr5)) ?_
  obtain⟨e6,he6,h⟩:=bS h
  refine oq 194 (.hp 1 0 [] 12 (0+Int.toNat x3.1) 0) rfl (ao rfl rfl rfl (iY (f:=aA) (xs:=x3.2) rfl rfl rfl he6)) ?_
  refine o0 210 rfl rfl (li rfl rfl (iz (path:=[]) (pl:=false) (e':=.agg [str r5.Id,I r5.Kind,I r5.Party,str r5.Action,I r5.Other,I r5.Amount,I r5.When.Op,str r5.When.Name,I r5.When.Day,.usl 4 (r5.When.Parts.map ak),I r5.Within,str r5.Repair]) (es2':=(eU x3.2 x3.1 r5).map aA) rfl (oL (cb (ch rfl) (cb (ch rfl) (cb (ch rfl) (cb (ch rfl) (cb (ch rfl) (cb (ch rfl) (cb (ch rfl) (cb (ch rfl) (cb (ch rfl) (cb (dK rfl rfl) (cb (ch rfl) (cb (ch rfl) oM))))))))))))) rfl rfl rfl bM (gB (f:=aA) (xs:=x3.2) he6) rfl rfl rfl (mY (f:=aA) (xs:=x3.2) (y:=r5)) fU 1 rfl)) ?_
  try rw[←lQ (f:=aA) (xs:=x3.2) (i:=x3.1) (z:=r5)]
  refine cq 7 [4] [I (an (x3.1+1))] 258 ?_
  refine dC ?_
  exact rf [0,3,4] [1] (ih _ _ h hr hn :)
 ·refine aq 1 ?_
  exact rf [3] [1] (hn _ (Option.some.inj h).symm :) (hk:=hK)
theorem Nk (a_1:List Clause)(r:(List Clause))(h:v6 a_1=some r):bl Gd Tryz.f63 [false] 0 (zV a_1) (AC r):=by
 show Run _ _ (Lp a_1 r) [.code LO] _
 refine rI 23 [(0,.isl false (a_1.map ae))] [] 1 ?_
 unfold v6 at h
 refine cq 7 [5] [.isl false (a_1.map ae)] 33 ?_
 refine oq 49 (I (len a_1)) rfl (bT rfl rfl rfl (ce rfl)) ?_
 obtain⟨m2,hm2,h⟩:=bS h
 refine oq 65 (.hs 49 0 [] 12 0 (m2.map aA).length) rfl (lU rfl rfl (LH (g:=aA) (f:=fun _=>(.agg [str ([]),I (0),I (0),str ([]),I (0),I (0),I (0),str ([]),I (0),.isl true [],I (0),str ([])]:V)) (z0:=(Clause.mk [] 0 0 [] 0 0 (Condition.mk 0 [] 0 []) 0 [])) rfl rfl rfl (by decide) hm2 rfl)) ?_
 refine eF 49 (m2.map aA) rfl rfl (En hm2 (fH (au (.refl _) (au (.refl _) (au (.refl _) (au (.refl _) (au (.refl _) (au (.refl _) (au (.refl _) (au (.refl _) (au (.refl _) (au (.nil _) (au (.refl _) (au (.refl _) dH)))))))))))))) ?_
 refine cq 8 [3,4] [.hs 49 0 [] 12 0 (m2.map aA).length,I (0)] 97 ?_
 obtain⟨y7,hy7,hy71,hy72⟩:=bJ h
 refine ci rfl ?_
 refine rf [0,3,4] [49] (Hl a_1 rfl (0,m2) _ hy7 (fun r' e st hq=>by rw[hy71 r' e] at hq;exact hq) fun u7 hu=>?_)
 replace h:=hy72 u7 hu
 refine cq 5 [2] [.hs 1 0 [] 12 0 (u7.map aA).length] 34 ?_
 obtain rfl:=Option.some.inj h
 exact aj rfl ⟨_,fin (vs:=[.hs 1 0 [] 12 0 (u7.map aA).length]) rfl (fK (gt rfl (dK rfl rfl)) et) rfl (fh fT),fI⟩
theorem Lg {G:Go.Ln.Ground}[TabG Tryz.prog G]:aK Tryz.prog G 63 wL:=gT 1 0 (aJ JT bn) (Checked.mixed Tryz.checked) Tryz.func63 (fun a r h=>Nk a r h)
def Bg:Contract→List V:=oA aN
def ym (r:Contract):V×List V:=(.agg [.usl 1 (r.Parties.map str),.usl 12 (r.Clauses.map aA)],[])
noncomputable def xb:Ent:=aW [false] Bg ym fun x=>rh x
theorem xJ {a_1:Contract}{r}(h:rh a_1=some r):xb.F (Bg a_1)=some (ym r):=aF (aE bm) h
noncomputable def RA:Code:=aD Tryz.f18
noncomputable def JL:Env:=bW Tryz.prog [(62,wn),(63,wL)]
def R3 (x:Contract)(r:Contract):St→Prop:=QF JL Tryz.f18 [false] (Bg x) (ym r)
theorem MR (a_1:Contract)(r:Contract)(h:rh a_1=some r):bl JL Tryz.f18 [false] 0 (Bg a_1) (ym r):=by
 show Run _ _ (R3 a_1 r) [.code RA] _
 refine rI 13 [(0,aN a_1)] [] 1 ?_
 unfold rh at h
 refine ck 4 [1,2] [] [1,17] [] [.hp 1 0 [] 2 0 0,.hp 17 0 [] 2 0 0] [some ⟨0,2,[aN a_1]⟩,some ⟨0,2,[.agg [.isl true [],.isl true []]]⟩] 33 (by kernel_rfl) ?_
 refine eF 17 [.agg [.usl 1 (([]).map str),.usl 12 (([]).map aA)]] rfl rfl (au (fH (au (.nil _) (au (.nil _) dH))) dH) ?_
 refine ck 4 [3] [] [33] [] [.hp 33 0 [] 2 0 0] [some ⟨0,2,[.agg [.isl true [],.isl true []]]⟩] 49 (by kernel_rfl) ?_
 refine eF 33 [.agg [.usl 1 (([]).map str),.usl 12 (([]).map aA)]] rfl rfl (au (fH (au (.nil _) (au (.nil _) dH))) dH) ?_
 refine cq 5 [5] [.isl false (a_1.Parties.map str)] 81 ?_
 obtain⟨r2,hr2,h⟩:=bS h
 refine oq 97 (.hs 81 0 [] 1 0 (r2.map str).length) rfl (cP (SB hr2)) ?_
 refine cq 1 [7] [.hp 33 0 [] 2 0 0] 113 ?_
 refine o0 129 rfl rfl (li rfl rfl (iz (path:=[]) (pl:=false) (e':=.agg [.usl 1 (r2.map str),.usl 12 (([]).map aA)]) (es2':=[.agg [.usl 1 (r2.map str),.usl 12 (([]).map aA)]]) rfl (gt rfl (dK rfl rfl)) rfl rfl rfl bM rfl rfl rfl rfl rfl fU 2 rfl)) ?_
 refine cq 5 [9] [.isl false (a_1.Clauses.map ae)] 161 ?_
 obtain⟨r3,hr3,h⟩:=bS h
 refine oq 177 (.hs 161 0 [] 12 0 (r3.map aA).length) rfl (cP (Sr hr3)) ?_
 refine cq 1 [11] [.hp 33 0 [] 2 0 1] 193 ?_
 refine o0 209 rfl rfl (li rfl rfl (iz (path:=[]) (pl:=false) (e':=.agg [.usl 1 (r2.map str),.usl 12 (r3.map aA)]) (es2':=[.agg [.usl 1 (r2.map str),.usl 12 (r3.map aA)]]) rfl (gt rfl (dK rfl rfl)) rfl rfl rfl bM rfl rfl rfl rfl rfl fU 3 rfl)) ?_
 refine cq 4 [12] [.agg [.hs 33 3 [(0,0)] 1 0 (r2.map str).length,.hs 33 3 [(0,1)] 12 0 (r3.map aA).length]] 225 ?_
 refine o0 241 rfl rfl (li rfl rfl (iz (path:=[]) (pl:=false) (e':=.agg [.usl 1 (r2.map str),.usl 12 (r3.map aA)]) (es2':=[.agg [.usl 1 (r2.map str),.usl 12 (r3.map aA)]]) rfl (oL (cb (kH (path:=[(0,0)]) rfl rfl (kT rfl rfl bM) rfl (sY (path:=[]) (i:=0) (k:=0) (e':=.agg [.dead,.usl 12 (r3.map aA)]) (es2':=[.agg [.dead,.usl 12 (r3.map aA)]]) bM rfl rfl rfl fU)) (cb (kH (path:=[(0,1)]) rfl rfl (kT rfl rfl bM) rfl (sY (path:=[]) (i:=0) (k:=1) (e':=.agg [.dead,.dead]) (es2':=[.agg [.dead,.dead]]) bM rfl rfl rfl fU)) oM))) rfl rfl rfl bM rfl rfl rfl rfl rfl fU 2 rfl)) ?_
 refine aq 1 ?_
 obtain rfl:=Option.some.inj h
 exact aj rfl ⟨_,fin (vs:=[.agg [.hs 17 2 [(0,0)] 1 0 (r2.map str).length,.hs 17 2 [(0,1)] 12 0 (r3.map aA).length]]) (EP (pW rfl rfl rfl) EM) (fK (oL (cb (kH (path:=[(0,0)]) rfl rfl (kT rfl rfl bM) rfl (sY (path:=[]) (i:=0) (k:=0) (e':=.agg [.dead,.usl 12 (r3.map aA)]) (es2':=[.agg [.dead,.usl 12 (r3.map aA)]]) bM rfl rfl rfl fU)) (cb (kH (path:=[(0,1)]) rfl rfl (kT rfl rfl bM) rfl (sY (path:=[]) (i:=0) (k:=1) (e':=.agg [.dead,.dead]) (es2':=[.agg [.dead,.dead]]) bM rfl rfl rfl fU)) oM))) et) rfl (fh fT),fI⟩
theorem J8 {G:Go.Ln.Ground}[TabG Tryz.prog G]:aK Tryz.prog G 18 xb:=gT 1 0 (aJ LK (aJ Lg bn)) (Checked.mixed Tryz.checked) Tryz.func18 (fun a r h=>MR a r h)
def l5:(Int×Int×Int)→List V:=cA I (cA I (oA I))
def l7 (r:Bool):V×List V:=(B r,[])
noncomputable def em:Ent:=aW [false,false,false] l5 l7 fun x=>dj x.1 x.2.1 x.2.2
theorem eb {x_1:Int}{a_2:Int}{b_3:Int}{r}(h:dj x_1 a_2 b_3=some r):em.F (l5 (x_1,a_2,b_3))=some (l7 r):=aF (bO bK (bO bK (aE bK))) h
noncomputable def uY:Code:=aD Tryz.f73
noncomputable def oS:Env:=bW Tryz.prog []
def uE (x:Int×Int×Int)(r:Bool):St→Prop:=QF oS Tryz.f73 [false,false,false] (l5 x) (l7 r)
theorem Df (x_1:Int)(a_2:Int)(b_3:Int)(r:Bool)(h:dj x_1 a_2 b_3=some r):bl oS Tryz.f73 [false,false,false] 0 (l5 (x_1,a_2,b_3)) (l7 r):=by
 show Run _ _ (uE (x_1,a_2,b_3) r) [.code uY] _
 refine rI 15 [(0,I x_1),(1,I a_2),(2,I b_3)] [] 1 ?_
 unfold dj at h
 refine cq 10 [10] [B (decide (x_1≥a_2))] 81 ?_
 obtain⟨u4,hu4,h⟩:=lJ h
 have j4:Run oS 0 (uE (x_1,a_2,b_3) r) (.code (cR (cR uY))::[]) (sT 15 [(6,B u4)] [] 1):=by
  obtain rfl:=Option.some.inj h
  exact aj rfl (qp [B u4])
 replace h:=hu4
 clear hu4
 refine sp 10 h rfl (fun h=>?_) fun h=>?_
 ·refine cq 6 [6] [B (decide (x_1≤b_3))] 161 ?_
  subst h
  exact rf [6] [] (j4 :)
 ·refine cq 6 [6] [B false] 161 ?_
  subst h
  exact rf [6] [] (j4 :)
theorem fz {G:Go.Ln.Ground}[TabG Tryz.prog G]:aK Tryz.prog G 73 em:=gT 3 0 bn (Checked.mixed Tryz.checked) Tryz.func73 (fun a r h=>Df a.1 a.2.1 a.2.2 r h)
def zn:Int→List V:=oA (V.int .u8)
def xR (r:Bool):V×List V:=(B r,[])
noncomputable def wt:Ent:=aW [false] zn xR fun x=>sD x
theorem Sl {b_1:Int}{r}(h:sD b_1=some r):wt.F (zn b_1)=some (xR r):=aF (aE (F9 (k:=.u8))) h
noncomputable def sd:Code:=aD Tryz.f200
noncomputable def pc:Env:=bW Tryz.prog []
def sa (x:Int)(r:Bool):St→Prop:=QF pc Tryz.f200 [false] (zn x) (xR r)
theorem M1 (b_1:Int)(r:Bool)(h:sD b_1=some r):bl pc Tryz.f200 [false] 0 (zn b_1) (xR r):=by
 show Run _ _ (sa b_1 r) [.code sd] _
 refine rI 17 [(0,.int .u8 b_1)] [] 1 ?_
 unfold sD at h
 refine cq 9 [5] [B (decide (b_1≥97))] 65 ?_
 obtain⟨u2,hu2,h⟩:=lJ h
 have j2:Run pc 0 (sa b_1 r) (.code (cR (cR sd))::[]) (sT 17 [(2,B u2)] [] 1):=by
  obtain rfl:=Option.some.inj h
  exact aj rfl (qp [B u2])
 replace h:=hu2
 clear hu2
 refine sp 5 h rfl (fun h=>?_) fun h=>?_
 ·refine cq 4 [9] [B (decide (b_1≤122))] 129 ?_
  obtain⟨u3,hu3,h⟩:=lJ h
  have j3:Run pc 0 (sa b_1 r) (.code (cR (cR sd))::[]) (sT 17 [(2,B u3)] [] 1):=by
   subst h
   exact rf [2] [] (j2 :)
  replace h:=hu3
  clear hu3
  refine sp 9 h rfl (fun h=>?_) fun h=>?_
  ·refine cq 9 [2] [B true] 257 ?_
   subst h
   exact rf [2] [] (j3 :)
  ·refine cq 3 [12] [B (decide (b_1≥48))] 177 ?_
   obtain⟨u4,hu4,h⟩:=lJ h
   have j4:Run pc 0 (sa b_1 r) (.code (cR (cR sd))::[]) (sT 17 [(2,B u4)] [] 1):=by
    subst h
    exact rf [2] [] (j3 :)
   replace h:=hu4
   clear hu4
   refine sp 12 h rfl (fun h=>?_) fun h=>?_
   ·refine cq 6 [2] [B (decide (b_1≤57))] 257 ?_
    subst h
    exact rf [2] [] (j4 :)
   ·refine cq 6 [2] [B false] 257 ?_
    subst h
    exact rf [2] [] (j4 :)
 ·refine cq 7 [9,12] [B false,B (decide (b_1≥48))] 177 ?_
  obtain⟨u5,hu5,h⟩:=lJ h
  have j5:Run pc 0 (sa b_1 r) (.code (cR (cR sd))::[]) (sT 17 [(2,B u5)] [] 1):=by
   subst h
   exact rf [2] [] (j2 :)
  replace h:=hu5
  clear hu5
  refine sp 12 h rfl (fun h=>?_) fun h=>?_
  ·refine cq 6 [2] [B (decide (b_1≤57))] 257 ?_
   subst h
   exact rf [2] [] (j5 :)
  ·refine cq 6 [2] [B false] 257 ?_
   subst h
   exact rf [2] [] (j5 :)
theorem Ka {G:Go.Ln.Ground}[TabG Tryz.prog G]:aK Tryz.prog G 200 wt:=gT 1 0 bn (Checked.mixed Tryz.checked) Tryz.func200 (fun a r h=>M1 a r h)
def zt:ac→List V:=oA str
def yy (r:Bool):V×List V:=(B r,[])
noncomputable def np:Ent:=aW [false] zt yy fun x=>oG x
theorem sX {s_1:ac}{r}(h:oG s_1=some r):np.F (zt s_1)=some (yy r):=aF (aE bp) h
noncomputable def ml:Code:=aD Tryz.f157
noncomputable abbrev km:Code:=cR (cR (cR (cR ml)))
noncomputable abbrev ku:Code:=cR (cL (cR (cL (cR (cR (cR ml))))))
noncomputable def gx:Env:=bW Tryz.prog [(73,em),(200,wt)]
def fm (x:ac)(r:Bool):St→Prop:=QF gx Tryz.f157 [false] (zt x) (yy r)
theorem GL (s_1:ac):cI gx 0 (fm s_1) (cL (cL (cR (cL (cR (cR ml)))))) 0 (pr s_1) (fun u=>(sT 40 [(0,str s_1)] [] 1)) fun x4=>(sT 40 [(0,str s_1),(3,I x4)] [] 1):=eC (uR s_1) fun {Q K} hK self ih x4 y h hr hn=>by
 unfold kG at h
 refine cq 8 [21] [B (decide (x4<(len s_1)))] 65 ?_
 refine sq h (fun h=>?_) fun h=>?_
 ·refine aq 1 ?_
  refine cq 6 [24,25] [str s_1,I x4] 97 ?_
  obtain⟨c5,hc5,h⟩:=bS h
  refine oq 113 (.int .u8 (c5.toNat:Int)) rfl (kr rfl rfl (nW rfl rfl hc5)) ?_
  obtain⟨r6,hr6,h⟩:=bS h
  refine oq 129 (B r6) rfl (cP (Sl hr6)) ?_
  refine cq 2 [28] [B (!r6)] 145 ?_
  refine sq h (fun h=>?_) fun h=>?_
  ·refine cq 4 [2] [B false] 161 ?_
   exact aj rfl (hr _ (Option.some.inj h).symm _ (qp [B false]))
  ·refine aq 1 ?_
   refine cq 6 [3] [I (an (x4+1))] 193 ?_
   refine dC ?_
   exact rf [0,3] [] (ih _ _ h hr hn :)
 ·refine aq 1 ?_
  exact rf [0] [] (hn _ (Option.some.inj h).symm :) (hk:=hK)
theorem MT (s_1:ac)(r:Bool)(h:oG s_1=some r):bl gx Tryz.f157 [false] 0 (zt s_1) (yy r):=by
 show Run _ _ (fm s_1 r) [.code ml] _
 refine rI 40 [(0,str s_1)] [] 1 ?_
 unfold oG at h
 refine cq 9 [5] [I (len s_1)] 49 ?_
 obtain⟨r2,hr2,h⟩:=bS h
 refine oq 65 (B r2) rfl (cP (eb hr2)) ?_
 refine cq 2 [8] [B (!r2)] 97 ?_
 obtain⟨y3,hy3,hy31,hy32⟩:=bJ h
 have j3:∀u3,y3=.inr u3→Run gx 0 (fm s_1 r) (.code (cR (cL (cR ml)))::.code (cR (cR ml))::[]) (sT 40 [(0,str s_1),(17,B u3)] [] 1):=by
  intro u3 hu
  replace h:=hy32 u3 hu
  refine sq h (fun h=>?_) fun h=>?_
  ·refine cq 4 [2] [B false] 17 ?_
   obtain rfl:=Option.some.inj h
   exact aj rfl (qp [B false])
  ·refine aq 1 ?_
   refine cq 6 [3] [I (0)] 17 ?_
   obtain⟨y7,hy7,hy71,hy72⟩:=bJ h
   refine ci rfl ?_
   refine rf [0,3] [] (GL s_1 rfl 0 _ hy7 (fun r' e st hq=>by rw[hy71 r' e] at hq;exact hq) fun u7 hu=>?_)
   replace h:=hy72 u7 hu
   refine cq 12 [29,30] [str s_1,B (s_1==([116,114,117,101]:ac))] 49 ?_
   obtain⟨u8,hu8,h⟩:=lJ h
   have j8:Run gx 0 (fm s_1 r) (.code ku::.blk 2::.code km::[]) (sT 40 [(30,B u8)] [] 1):=by
    refine sq h (fun h=>?_) fun h=>?_
    ·refine cq 4 [2] [B false] 17 ?_
     obtain rfl:=Option.some.inj h
     exact aj rfl (qp [B false])
    ·refine aq 1 ?_
     refine cq 5 [2] [B true] 17 ?_
     obtain rfl:=Option.some.inj h
     exact aj rfl (qp [B true])
   replace h:=hu8
   clear hu8
   refine ma h rfl rfl (fun h=>?_) fun h=>?_
   ·refine aq 1 ?_
    subst h
    exact rf [30] [] (j8 :)
   ·refine cq 5 [30] [B (s_1==([102,114,111,109]:ac))] 81 ?_
    obtain⟨u9,hu9,h⟩:=lJ h
    have j9:Run gx 0 (fm s_1 r) (.code ku::.blk 2::.code km::[]) (sT 40 [(30,B u9)] [] 1):=by
     subst h
     exact rf [30] [] (j8 :)
    replace h:=hu9
    clear hu9
    refine ma h rfl rfl (fun h=>?_) fun h=>?_
    ·refine aq 1 ?_
     subst h
     exact rf [30] [] (j9 :)
    ·refine cq 5 [30] [B (s_1==([110,111,116]:ac))] 113 ?_
     obtain⟨u10,hu10,h⟩:=lJ h
     have j10:Run gx 0 (fm s_1 r) (.code ku::.blk 2::.code km::[]) (sT 40 [(30,B u10)] [] 1):=by
      subst h
      exact rf [30] [] (j9 :)
     replace h:=hu10
     clear hu10
     refine ma h rfl rfl (fun h=>?_) fun h=>?_
     ·refine aq 1 ?_
      subst h
      exact rf [30] [] (j10 :)
     ·refine cq 5 [30] [B (s_1==([97,110,100]:ac))] 145 ?_
      obtain⟨u11,hu11,h⟩:=lJ h
      have j11:Run gx 0 (fm s_1 r) (.code ku::.blk 2::.code km::[]) (sT 40 [(30,B u11)] [] 1):=by
       subst h
       exact rf [30] [] (j10 :)
      replace h:=hu11
      clear hu11
      refine ma h rfl rfl (fun h=>?_) fun h=>?_
      ·refine aq 1 ?_
       subst h
       exact rf [30] [] (j11 :)
      ·refine cq 5 [30] [B (s_1==([111,114]:ac))] 177 ?_
       obtain⟨u12,hu12,h⟩:=lJ h
       have j12:Run gx 0 (fm s_1 r) (.code ku::.blk 2::.code km::[]) (sT 40 [(30,B u12)] [] 1):=by
        subst h
        exact rf [30] [] (j11 :)
       replace h:=hu12
       clear hu12
       refine ma h rfl rfl (fun h=>?_) fun h=>?_
       ·refine aq 1 ?_
        subst h
        exact rf [30] [] (j12 :)
       ·refine cq 5 [30] [B (s_1==([98,111,116,104]:ac))] 209 ?_
        obtain⟨u13,hu13,h⟩:=lJ h
        have j13:Run gx 0 (fm s_1 r) (.code ku::.blk 2::.code km::[]) (sT 40 [(30,B u13)] [] 1):=by
         subst h
         exact rf [30] [] (j12 :)
        replace h:=hu13
        clear hu13
        refine ma h rfl rfl (fun h=>?_) fun h=>?_
        ·refine aq 1 ?_
         subst h
         exact rf [30] [] (j13 :)
        ·refine cq 5 [30] [B (s_1==([101,105,116,104,101,114]:ac))] 241 ?_
         obtain⟨u14,hu14,h⟩:=lJ h
         have j14:Run gx 0 (fm s_1 r) (.code ku::.blk 2::.code km::[]) (sT 40 [(30,B u14)] [] 1):=by
          subst h
          exact rf [30] [] (j13 :)
         replace h:=hu14
         clear hu14
         refine ma h rfl rfl (fun h=>?_) fun h=>?_
         ·refine aq 1 ?_
          subst h
          exact rf [30] [] (j14 :)
         ·refine cq 5 [30] [B (s_1==([105,116]:ac))] 273 ?_
          obtain⟨u15,hu15,h⟩:=lJ h
          have j15:Run gx 0 (fm s_1 r) (.code ku::.blk 2::.code km::[]) (sT 40 [(30,B u15)] [] 1):=by
           subst h
           exact rf [30] [] (j14 :)
          replace h:=hu15
          clear hu15
          refine ma h rfl rfl (fun h=>?_) fun h=>?_
          ·refine aq 1 ?_
           subst h
           exact rf [30] [] (j15 :)
          ·refine cq 4 [30] [B (s_1==([105,110]:ac))] 305 ?_
           subst h
           exact rf [30] [] (j15 :)
 have r3:∀r',y3=.inl r'→∀st,fm s_1 r' st→(fm s_1 r) st:=fun r' e st hq=>by rw[hy31 r' e] at hq;exact hq
 replace h:=hy3
 refine sp 8 h rfl (fun h=>?_) fun h=>?_
 ·refine cq 10 [17] [B true] 241 ?_
  exact rf [0,17] [] (j3 _ (Option.some.inj h).symm :)
 ·refine cq 1 [9] [str s_1] 113 ?_
  obtain⟨c16,hc16,h⟩:=bS h
  refine oy 129 (.int .u8 (c16.toNat:Int)) rfl (kr rfl rfl (nW rfl rfl hc16)) ?_
  refine cq 3 [13] [B (decide ((c16.toNat:Int)<97))] 177 ?_
  obtain⟨y17,hy17,hy171,hy172⟩:=bL h
  have j17:∀u17,y17=.inr u17→Run gx 0 (fm s_1 r) (.code (cR (cL (cR ml)))::.code (cR (cR ml))::[]) (sT 40 [(0,str s_1),(17,B u17)] [] 1):=by
   intro u17 hu
   replace h:=hy172 u17 hu
   exact rf [0,17] [] (j3 _ (Option.some.inj h).symm :)
  have r17:∀r',y17=.inl r'→∀st,fm s_1 r' st→(fm s_1 r) st:=fun r' e st hq=>r3 r' (hy171 r' e) st hq
  replace h:=hy17
  refine sp 13 h rfl (fun h=>?_) fun h=>?_
  ·refine cq 5 [17] [B true] 241 ?_
   exact rf [0,17] [] (j17 _ (Option.some.inj h).symm :)
  ·refine cq 1 [14] [str s_1] 193 ?_
   obtain⟨c18,hc18,h⟩:=bS h
   refine oy 209 (.int .u8 (c18.toNat:Int)) rfl (kr rfl rfl (nW rfl rfl hc18)) ?_
   refine cq 3 [17] [B (decide ((c18.toNat:Int)>122))] 241 ?_
   exact rf [0,17] [] (j17 _ (Option.some.inj h).symm :)
theorem rZ {G:Go.Ln.Ground}[TabG Tryz.prog G]:aK Tryz.prog G 157 np:=gT 1 0 (aJ fz (aJ Ka bn)) (Checked.mixed Tryz.checked) Tryz.func157 (fun a r h=>MT a r h)
def xZ:((List ac)×ac)→List V:=cA (mj str) (oA str)
def xQ (r:Bool):V×List V:=(B r,[])
noncomputable def wc:Ent:=aW [false,false] xZ xQ fun x=>xl x.1 x.2
theorem LU {list_1:List ac}{name_2:ac}{r}(h:xl list_1 name_2=some r):wc.F (xZ (list_1,name_2))=some (xQ r):=aF (bO (dG bp) (aE bp)) h
noncomputable def K8:Code:=aD Tryz.f117
noncomputable def Ez:Env:=bW Tryz.prog []
def Mm (x:(List ac)×ac)(r:Bool):St→Prop:=QF Ez Tryz.f117 [false,false] (xZ x) (xQ r)
theorem Hf (list_1:List ac)(name_2:ac):cI Ez 0 (Mm (list_1,name_2)) (cL (cL (cR (cL (cR K8))))) 0 (pO list_1 name_2) (fun u=>(sT 18 [] [] 1)) fun x3=>(sT 18 [(0,.isl false (list_1.map str)),(1,str name_2),(5,I x3)] [] 1):=eC (uU list_1 name_2) fun {Q K} hK self ih x3 y h hr hn=>by
 unfold kt at h
 refine cq 5 [6,7] [I x3,.isl false (list_1.map str)] 33 ?_
 refine oq 49 (I (len list_1)) rfl (bT rfl rfl rfl (ce rfl)) ?_
 refine cq 2 [9] [B (decide (x3<(len list_1)))] 65 ?_
 refine sq h (fun h=>?_) fun h=>?_
 ·refine aq 1 ?_
  refine cq 6 [12,13] [.isl false (list_1.map str),I x3] 97 ?_
  obtain⟨e4,he4,h⟩:=bS h
  refine oq 113 (.iptr (str e4) 0) rfl (ao rfl rfl rfl (bh rfl rfl rfl rfl he4)) ?_
  refine cq 4 [17] [B (e4==name_2)] 161 ?_
  refine sq h (fun h=>?_) fun h=>?_
  ·refine cq 4 [4] [B true] 177 ?_
   exact aj rfl (hr _ (Option.some.inj h).symm _ (qp [B true]))
  ·refine aq 1 ?_
   refine cq 6 [5] [I (an (x3+1))] 209 ?_
   refine dC ?_
   exact rf [0,1,5] [] (ih _ _ h hr hn :)
 ·refine aq 1 ?_
  exact rf [] [] (hn _ (Option.some.inj h).symm :) (hk:=hK)
theorem Nt (list_1:List ac)(name_2:ac)(r:Bool)(h:xl list_1 name_2=some r):bl Ez Tryz.f117 [false,false] 0 (xZ (list_1,name_2)) (xQ r):=by
 show Run _ _ (Mm (list_1,name_2) r) [.code K8] _
 refine rI 18 [(0,.isl false (list_1.map str)),(1,str name_2)] [] 1 ?_
 unfold xl at h
 refine cq 10 [5] [I (0)] 33 ?_
 obtain⟨y5,hy5,hy51,hy52⟩:=bJ h
 refine ci rfl ?_
 refine rf [0,1,5] [] (Hf list_1 name_2 rfl 0 _ hy5 (fun r' e st hq=>by rw[hy51 r' e] at hq;exact hq) fun u5 hu=>?_)
 replace h:=hy52 u5 hu
 refine cq 4 [4] [B false] 17 ?_
 obtain rfl:=Option.some.inj h
 exact aj rfl (qp [B false])
theorem Lm {G:Go.Ln.Ground}[TabG Tryz.prog G]:aK Tryz.prog G 117 wc:=gT 2 0 bn (Checked.mixed Tryz.checked) Tryz.func117 (fun a r h=>Nt a.1 a.2 r h)
def zu:Contract→List V:=oA aN
def AW (r:Bool):V×List V:=(B r,[])
noncomputable def xk:Ent:=aW [false] zu AW fun x=>tD x
theorem RQ {c_1:Contract}{r}(h:tD c_1=some r):xk.F (zu c_1)=some (AW r):=aF (aE bm) h
noncomputable def tq:Code:=aD Tryz.f139
noncomputable def AP:Env:=bW Tryz.prog [(157,np),(117,wc),(73,em)]
def ER (x:Contract)(r:Bool):St→Prop:=QF AP Tryz.f139 [false] (zu x) (AW r)
theorem GR (c_1:Contract):cI AP 0 (ER c_1) (cL (cL (cR (cL (cR tq))))) 0 (pQ c_1) (fun u=>(sT 34 [(1,.hp 1 0 [] 2 0 0)] [⟨0,2,[.agg [.isl false (c_1.Parties.map str),.isl false (c_1.Clauses.map ae)]]⟩] 2)) fun x2=>(sT 34 [(1,.hp 1 0 [] 2 0 0),(3,I x2)] [⟨0,2,[.agg [.isl false (c_1.Parties.map str),.isl false (c_1.Clauses.map ae)]]⟩] 2):=eC (vD c_1) fun {Q K} hK self ih x2 y h hr hn=>by
 unfold i6 at h
 refine cq 6 [4,6] [I x2,.isl false (c_1.Parties.map str)] 50 ?_
 refine oq 66 (I (len c_1.Parties)) rfl (bT rfl rfl rfl (ce rfl)) ?_
 refine cq 2 [8] [B (decide (x2<(len c_1.Parties)))] 82 ?_
 refine sq h (fun h=>?_) fun h=>?_
 ·refine aq 1 ?_
  refine aq 3 ?_
  refine dV [0,1,0,7,15,31,63,127,255,511,255,2047,255,4351,255,28927,61695,131071,262143] rfl (by decide +kernel) ?_
  refine dq [1] [] (.hp 1 0 [] 2 0 0) rfl (aV rfl rfl rfl) ?_
  refine dq [1] [] (.isl false (c_1.Parties.map str)) rfl (bQ rfl rfl) ?_
  refine dk 1 [13] [I x2] ?_
  obtain⟨e3,he3,h⟩:=bS h
  refine dq [] [] (.iptr (str e3) 0) rfl (ao rfl rfl rfl (bh rfl rfl rfl rfl he3)) ?_
  refine dq [] [] (str e3) rfl (bQ rfl rfl) ?_
  obtain⟨r4,hr4,h⟩:=bS h
  refine dq [] [] (B r4) rfl (cP (sX hr4)) ?_ (cC rfl rfl rfl rfl (bX (cj rfl) cN) (sX hr4) (.inr rfl) rfl)
  refine dk 2 [18,17] [B (!r4),B (!r4)] ?_
  obtain⟨y5,hy5,hy51,hy52⟩:=bL h
  have j5:∀u5,y5=.inr u5→Run AP 0 Q (.code (cR (cL (cL (cR (cL (cL (cR (cL (cR tq)))))))))::.blk 1::.code (cR (cR (cL (cL (cR (cL (cR tq)))))))::.lp (cL (cL (cR (cL (cR tq)))))::.blk 0::K) (sT 34 [(1,.hp 1 0 [] 2 0 0),(3,I x2),(29,B u5)] [⟨0,2,[.agg [.isl false (c_1.Parties.map str),.isl false (c_1.Clauses.map ae)]]⟩] 2):=by
   intro u5 hu
   replace h:=hy52 u5 hu
   refine sq h (fun h=>?_) fun h=>?_
   ·refine cq 4 [2] [B false] 18 ?_
    exact aj rfl (hr _ (Option.some.inj h).symm _ (qp [B false]))
   ·refine aq 1 ?_
    refine cq 6 [3] [I (an (x2+1))] 50 ?_
    refine dC ?_
    exact rf [1,3] [1] (ih _ _ h hr hn :)
  have r5:∀r',y5=.inl r'→∀st,ER c_1 r' st→Q st:=fun r' e st hq=>hr r' (hy51 r' e) st hq
  replace h:=hy5
  refine sp 18 h rfl (fun h=>?_) fun h=>?_
  ·refine dk 11 [29,28,27,26,25,24,23,22,21,20,19] [B true,.und,.und,.und,.und,.und,.und,.und,.und,.und,.und] ?_
   refine de 386 rfl rfl ?_
   exact rf [1,3,29] [1] (j5 _ (Option.some.inj h).symm :)
  ·refine dy [1] [] (.hp 1 0 [] 2 0 0) rfl (aV rfl rfl rfl) ?_
   refine dy [1] [] (.isl false (c_1.Parties.map str)) rfl (bQ rfl rfl) ?_
   refine dk 1 [21] [I x2] ?_
   obtain⟨s6,hs6,h⟩:=bS h
   refine dy [] [] (.isl false (s6.map str)) rfl (fy rfl rfl rfl rfl (My rfl rfl (fun y=>(iC y).1) rfl rfl hs6)) ?_
   refine dy [1] [] (.hp 1 0 [] 2 0 0) rfl (aV rfl rfl rfl) ?_
   refine dy [1] [] (.isl false (c_1.Parties.map str)) rfl (bQ rfl rfl) ?_
   refine dk 1 [25] [I x2] ?_
   obtain⟨e7,he7,h⟩:=bS h
   refine dy [] [] (.iptr (str e7) 0) rfl (ao rfl rfl rfl (bh rfl rfl rfl rfl he7)) ?_
   refine dy [] [] (str e7) rfl (bQ rfl rfl) ?_
   obtain⟨r8,hr8,h⟩:=bS h
   refine dy [] [] (B r8) rfl (cP (LU hr8)) ?_ (cC rfl rfl rfl rfl (bX (cj rfl) (bX (cj rfl) cN)) (LU hr8) (.inr rfl) rfl)
   refine dk 1 [29] [B r8] ?_
   refine de 386 rfl rfl ?_
   exact rf [1,3,29] [1] (j5 _ (Option.some.inj h).symm :)
 ·refine aq 1 ?_
  exact rf [1] [1] (hn _ (Option.some.inj h).symm :) (hk:=hK)
theorem Nd (c_1:Contract)(r:Bool)(h:tD c_1=some r):bl AP Tryz.f139 [false] 0 (zu c_1) (AW r):=by
 show Run _ _ (ER c_1 r) [.code tq] _
 refine rI 34 [(0,.agg [.isl false (c_1.Parties.map str),.isl false (c_1.Clauses.map ae)])] [] 1 ?_
 unfold tD at h
 refine ck 11 [1,3] [] [1] [] [.hp 1 0 [] 2 0 0,I (0)] [some ⟨0,2,[.agg [.isl false (c_1.Parties.map str),.isl false (c_1.Clauses.map ae)]]⟩] 49 (by kernel_rfl) ?_
 obtain⟨y9,hy9,hy91,hy92⟩:=bJ h
 refine ci rfl ?_
 refine rf [1,3] [1] (GR c_1 rfl 0 _ hy9 (fun r' e st hq=>by rw[hy91 r' e] at hq;exact hq) fun u9 hu=>?_)
 replace h:=hy92 u9 hu
 refine cq 4 [31] [.isl false (c_1.Parties.map str)] 34 ?_
 refine oq 50 (I (len c_1.Parties)) rfl (bT rfl rfl rfl (ce rfl)) ?_
 obtain⟨r10,hr10,h⟩:=bS h
 refine oq 66 (B r10) rfl (cP (eb hr10)) ?_
 refine cq 2 [2] [B r10] 82 ?_
 obtain rfl:=Option.some.inj h
 exact aj rfl (qp [B r10])
theorem Mj {G:Go.Ln.Ground}[TabG Tryz.prog G]:aK Tryz.prog G 139 xk:=gT 1 0 (aJ rZ (aJ Lm (aJ fz bn))) (Checked.mixed Tryz.checked) Tryz.func139 (fun a r h=>Nd a r h)
def A4:(Contract×ac)→List V:=cA aN (oA str)
def Bc (r:Int):V×List V:=(I r,[])
noncomputable def qP:Ent:=aW [false,false] A4 Bc fun x=>qv x.1 x.2
theorem ET {c_1:Contract}{id_2:ac}{r}(h:qv c_1 id_2=some r):qP.F (A4 (c_1,id_2))=some (Bc r):=aF (bO bm (aE bp)) h
noncomputable def Mq:Code:=aD Tryz.f140
noncomputable def Gi:Env:=bW Tryz.prog []
def Kg (x:Contract×ac)(r:Int):St→Prop:=QF Gi Tryz.f140 [false,false] (A4 x) (Bc r)
theorem Hj (c_1:Contract)(id_2:ac):cI Gi 0 (Kg (c_1,id_2)) (cL (cL (cR (cL (cR Mq))))) 0 (pJ c_1 id_2) (fun u=>(sT 22 [] [] 1)) fun x3=>(sT 22 [(1,str id_2),(2,.hp 1 0 [] 2 0 0),(5,I x3)] [⟨0,2,[.agg [.isl false (c_1.Parties.map str),.isl false (c_1.Clauses.map ae)]]⟩] 2):=eC (vl c_1 id_2) fun {Q K} hK self ih x3 y h hr hn=>by
 unfold kD at h
 refine cq 6 [6,8] [I x3,.isl false (c_1.Clauses.map ae)] 50 ?_
 refine oq 66 (I (len c_1.Clauses)) rfl (bT rfl rfl rfl (ce rfl)) ?_
 refine cq 2 [10] [B (decide (x3<(len c_1.Clauses)))] 82 ?_
 refine sq h (fun h=>?_) fun h=>?_
 ·refine aq 1 ?_
  refine cq 7 [14,15] [.isl false (c_1.Clauses.map ae),I x3] 130 ?_
  obtain⟨e4,he4,h⟩:=bS h
  refine oq 146 (.iptr (.agg [str e4.Id,I e4.Kind,I e4.Party,str e4.Action,I e4.Other,I e4.Amount,I e4.When.Op,str e4.When.Name,I e4.When.Day,.isl false (e4.When.Parts.map aa),I e4.Within,str e4.Repair]) 0) rfl (ao rfl rfl rfl (bh rfl rfl rfl rfl he4)) ?_
  refine cq 5 [20] [B (e4.Id==id_2)] 210 ?_
  refine sq h (fun h=>?_) fun h=>?_
  ·refine cq 5 [4] [I x3] 242 ?_
   exact aj rfl (hr _ (Option.some.inj h).symm _ (qp [I x3]))
  ·refine aq 1 ?_
   refine cq 6 [5] [I (an (x3+1))] 258 ?_
   refine dC ?_
   exact rf [1,2,5] [1] (ih _ _ h hr hn :)
 ·refine aq 1 ?_
  exact rf [] [] (hn _ (Option.some.inj h).symm :) (hk:=hK)
theorem N9 (c_1:Contract)(id_2:ac)(r:Int)(h:qv c_1 id_2=some r):bl Gi Tryz.f140 [false,false] 0 (A4 (c_1,id_2)) (Bc r):=by
 show Run _ _ (Kg (c_1,id_2) r) [.code Mq] _
 refine rI 22 [(0,.agg [.isl false (c_1.Parties.map str),.isl false (c_1.Clauses.map ae)]),(1,str id_2)] [] 1 ?_
 unfold qv at h
 refine ck 11 [2,5] [] [1] [] [.hp 1 0 [] 2 0 0,I (0)] [some ⟨0,2,[.agg [.isl false (c_1.Parties.map str),.isl false (c_1.Clauses.map ae)]]⟩] 49 (by kernel_rfl) ?_
 obtain⟨y5,hy5,hy51,hy52⟩:=bJ h
 refine ci rfl ?_
 refine rf [1,2,5] [1] (Hj c_1 id_2 rfl 0 _ hy5 (fun r' e st hq=>by rw[hy51 r' e] at hq;exact hq) fun u5 hu=>?_)
 replace h:=hy52 u5 hu
 refine cq 4 [4] [I (-1)] 17 ?_
 obtain rfl:=Option.some.inj h
 exact aj rfl (qp [I (-1)])
theorem CC {G:Go.Ln.Ground}[TabG Tryz.prog G]:aK Tryz.prog G 140 qP:=gT 2 0 bn (Checked.mixed Tryz.checked) Tryz.func140 (fun a r h=>N9 a.1 a.2 r h)
def zS:Int→List V:=oA I
def Aw (r:Bool):V×List V:=(B r,[])
noncomputable def xc:Ent:=aW [false] zS Aw fun x=>BC x
theorem Ra {day_1:Int}{r}(h:BC day_1=some r):xc.F (zS day_1)=some (Aw r):=aF (aE bK) h
noncomputable def RL:Code:=aD Tryz.f114
noncomputable def Kj:Env:=bW Tryz.prog [(73,em)]
def Rb (x:Int)(r:Bool):St→Prop:=QF Kj Tryz.f114 [false] (zS x) (Aw r)
theorem Ov (day_1:Int)(r:Bool)(h:BC day_1=some r):bl Kj Tryz.f114 [false] 0 (zS day_1) (Aw r):=by
 show Run _ _ (Rb day_1 r) [.code RL] _
 refine rI 5 [(0,I day_1)] [] 1 ?_
 unfold BC at h
 refine cq 7 [3] [I day_1] 33 ?_
 obtain⟨r2,hr2,h⟩:=bS h
 refine oq 49 (B r2) rfl (cP (eb hr2)) ?_
 refine cq 2 [2] [B r2] 65 ?_
 obtain rfl:=Option.some.inj h
 exact aj rfl (qp [B r2])
theorem LJ {G:Go.Ln.Ground}[TabG Tryz.prog G]:aK Tryz.prog G 114 xc:=gT 1 0 (aJ fz bn) (Checked.mixed Tryz.checked) Tryz.func114 (fun a r h=>Ov a r h)
def yQ:Condition→List V:=oA aI
def zB (r:Bool):V×List V:=(B r,[])
noncomputable def wD:Ent:=aW [false] yQ zB fun x=>vW x
theorem RV {c_1:Condition}{r}(h:vW c_1=some r):wD.F (yQ c_1)=some (zB r):=aF (aE bH) h
noncomputable def kR:Code:=aD Tryz.f244
noncomputable abbrev gC:Code:=cR (cR (cR kR))
noncomputable abbrev Hy:Code:=cR (cL (cR (cR (cR (cL (cR (cL (cR (cR kR)))))))))
noncomputable abbrev HG:Code:=cR (cL (cR (cR (cR (cR (cR (cL (cR (cL (cR (cR kR)))))))))))
noncomputable abbrev HQ:Code:=cR (cL (cR (cR (cR (cR (cR (cR (cR (cL (cR (cL (cR (cR kR)))))))))))))
noncomputable abbrev Hz:Code:=cR (cL (cR (cR (cR (cR (cR (cR (cR (cR (cR (cL (cR (cL (cR (cR kR)))))))))))))))
noncomputable def gJ:Env:=bW Tryz.prog [(157,np),(114,xc)]
def ez (x:Condition)(r:Bool):St→Prop:=QF gJ Tryz.f244 [false] (yQ x) (zB r)
theorem NN (c_1:Condition)(r:Bool)(h:vW c_1=some r):bl gJ Tryz.f244 [false] 0 (yQ c_1) (zB r):=by
 show Run _ _ (ez c_1 r) [.code kR] _
 refine rI 80 [(0,.agg [I c_1.Op,str c_1.Name,I c_1.Day,.isl false (c_1.Parts.map aa)])] [] 1 ?_
 unfold vW at h
 refine ck 9 [1,5] [] [1] [] [.hp 1 0 [] 4 0 0,.isl false (c_1.Parts.map aa)] [some ⟨0,4,[.agg [I c_1.Op,str c_1.Name,I c_1.Day,.isl false (c_1.Parts.map aa)]]⟩] 65 (by kernel_rfl) ?_
 refine oq 81 (I (len c_1.Parts)) rfl (bT rfl rfl rfl (ce rfl)) ?_
 refine cq 14 [3,8,9] [I (len c_1.Parts),I c_1.Op,B (c_1.Op==1)] 161 ?_
 refine sq h (fun h=>?_) fun h=>?_
 ·refine cq 5 [13] [B ((len c_1.Parts)==0)] 209 ?_
  obtain⟨u2,hu2,h⟩:=lJ h
  have j2:Run gJ 0 (ez c_1 r) (.code (cR (cL (cR (cL (cR (cL (cR (cR kR))))))))::.blk 0::.code gC::[]) (sT 80 [(2,B u2)] [] 1):=by
   obtain rfl:=Option.some.inj h
   exact aj rfl (qp [B u2])
  replace h:=hu2
  clear hu2
  refine sp 13 h rfl (fun h=>?_) fun h=>?_
  ·refine cq 5 [18] [B (c_1.Name==([]:ac))] 289 ?_
   obtain⟨u3,hu3,h⟩:=lJ h
   have j3:Run gJ 0 (ez c_1 r) (.code (cR (cL (cR (cL (cR (cL (cR (cR kR))))))))::.blk 0::.code gC::[]) (sT 80 [(2,B u3)] [] 1):=by
    subst h
    exact rf [2] [] (j2 :)
   replace h:=hu3
   clear hu3
   refine sp 18 h rfl (fun h=>?_) fun h=>?_
   ·refine cq 6 [2] [B (c_1.Day==0)] 369 ?_
    subst h
    exact rf [2] [] (j3 :)
   ·refine cq 6 [2] [B false] 369 ?_
    subst h
    exact rf [2] [] (j3 :)
  ·refine cq 11 [2] [B false] 369 ?_
   subst h
   exact rf [2] [] (j2 :)
 ·refine cq 5 [23] [B (c_1.Op==2)] 193 ?_
  refine sq h (fun h=>?_) fun h=>?_
  ·refine cq 5 [27] [B ((len c_1.Parts)==0)] 241 ?_
   obtain⟨y4,hy4,hy41,hy42⟩:=bJ h
   have j4:∀u4,y4=.inr u4→Run gJ 0 (ez c_1 r) (.code Hy::.blk 0::.code gC::[]) (sT 80 [(2,B u4)] [] 1):=by
    intro u4 hu
    replace h:=hy42 u4 hu
    obtain rfl:=Option.some.inj h
    exact aj rfl (qp [B u4])
   have r4:∀r',y4=.inl r'→∀st,ez c_1 r' st→(ez c_1 r) st:=fun r' e st hq=>by rw[hy41 r' e] at hq;exact hq
   replace h:=hy4
   refine sp 27 h rfl (fun h=>?_) fun h=>?_
   ·refine cq 2 [29] [str c_1.Name] 273 ?_
    obtain⟨r5,hr5,h⟩:=bS h
    refine oy 289 (B r5) rfl (cP (sX hr5)) ?_
    refine cq 2 [32] [B r5] 321 ?_
    obtain⟨u6,hu6,h⟩:=lJ h
    have j6:Run gJ 0 (ez c_1 r) (.code Hy::.blk 0::.code gC::[]) (sT 80 [(2,B u6)] [] 1):=by
     exact rf [2] [] (j4 _ (Option.some.inj h).symm :)
    replace h:=hu6
    clear hu6
    refine sp 32 h rfl (fun h=>?_) fun h=>?_
    ·refine cq 6 [2] [B (c_1.Day==0)] 401 ?_
     subst h
     exact rf [2] [] (j6 :)
    ·refine cq 6 [2] [B false] 401 ?_
     subst h
     exact rf [2] [] (j6 :)
   ·refine cq 11 [2] [B false] 401 ?_
    exact rf [2] [] (j4 _ (Option.some.inj h).symm :)
  ·refine cq 5 [37] [B (c_1.Op==3)] 225 ?_
   refine sq h (fun h=>?_) fun h=>?_
   ·refine cq 5 [41] [B ((len c_1.Parts)==0)] 273 ?_
    obtain⟨y7,hy7,hy71,hy72⟩:=bJ h
    have j7:∀u7,y7=.inr u7→Run gJ 0 (ez c_1 r) (.code HG::.blk 0::.code gC::[]) (sT 80 [(2,B u7)] [] 1):=by
     intro u7 hu
     replace h:=hy72 u7 hu
     obtain rfl:=Option.some.inj h
     exact aj rfl (qp [B u7])
    have r7:∀r',y7=.inl r'→∀st,ez c_1 r' st→(ez c_1 r) st:=fun r' e st hq=>by rw[hy71 r' e] at hq;exact hq
    replace h:=hy7
    refine sp 41 h rfl (fun h=>?_) fun h=>?_
    ·refine cq 5 [46] [B (c_1.Name==([]:ac))] 353 ?_
     obtain⟨y8,hy8,hy81,hy82⟩:=bL h
     have j8:∀u8,y8=.inr u8→Run gJ 0 (ez c_1 r) (.code HG::.blk 0::.code gC::[]) (sT 80 [(2,B u8)] [] 1):=by
      intro u8 hu
      replace h:=hy82 u8 hu
      exact rf [2] [] (j7 _ (Option.some.inj h).symm :)
     have r8:∀r',y8=.inl r'→∀st,ez c_1 r' st→(ez c_1 r) st:=fun r' e st hq=>r7 r' (hy81 r' e) st hq
     replace h:=hy8
     refine sp 46 h rfl (fun h=>?_) fun h=>?_
     ·refine cq 2 [48] [I c_1.Day] 385 ?_
      obtain⟨r9,hr9,h⟩:=bS h
      refine oy 401 (B r9) rfl (cP (Ra hr9)) ?_
      refine cq 3 [2] [B r9] 433 ?_
      exact rf [2] [] (j8 _ (Option.some.inj h).symm :)
     ·refine cq 6 [2] [B false] 433 ?_
      exact rf [2] [] (j8 _ (Option.some.inj h).symm :)
    ·refine cq 11 [2] [B false] 433 ?_
     exact rf [2] [] (j7 _ (Option.some.inj h).symm :)
   ·refine cq 5 [51] [B (c_1.Op==4)] 257 ?_
    refine sq h (fun h=>?_) fun h=>?_
    ·refine cq 5 [55] [B ((len c_1.Parts)==1)] 305 ?_
     obtain⟨u10,hu10,h⟩:=lJ h
     have j10:Run gJ 0 (ez c_1 r) (.code HQ::.blk 0::.code gC::[]) (sT 80 [(2,B u10)] [] 1):=by
      obtain rfl:=Option.some.inj h
      exact aj rfl (qp [B u10])
     replace h:=hu10
     clear hu10
     refine sp 55 h rfl (fun h=>?_) fun h=>?_
     ·refine cq 5 [60] [B (c_1.Name==([]:ac))] 385 ?_
      obtain⟨u11,hu11,h⟩:=lJ h
      have j11:Run gJ 0 (ez c_1 r) (.code HQ::.blk 0::.code gC::[]) (sT 80 [(2,B u11)] [] 1):=by
       subst h
       exact rf [2] [] (j10 :)
      replace h:=hu11
      clear hu11
      refine sp 60 h rfl (fun h=>?_) fun h=>?_
      ·refine cq 6 [2] [B (c_1.Day==0)] 465 ?_
       subst h
       exact rf [2] [] (j11 :)
      ·refine cq 6 [2] [B false] 465 ?_
       subst h
       exact rf [2] [] (j11 :)
     ·refine cq 11 [2] [B false] 465 ?_
      subst h
      exact rf [2] [] (j10 :)
    ·refine cq 6 [65] [B (c_1.Op==5)] 289 ?_
     obtain⟨u12,hu12,h⟩:=lJ h
     have j12:Run gJ 0 (ez c_1 r) (.code (cR (cR (cR (cR (cR (cR (cR (cR (cR (cL (cR (cL (cR (cR kR))))))))))))))::.blk 0::.code gC::[]) (sT 80 [(1,.hp 1 0 [] 4 0 0),(3,I (len c_1.Parts)),(65,B u12)] [⟨0,4,[.agg [I c_1.Op,str c_1.Name,I c_1.Day,.isl false (c_1.Parts.map aa)]]⟩] 2):=by
      refine sq h (fun h=>?_) fun h=>?_
      ·refine cq 5 [70] [B ((len c_1.Parts)==2)] 50 ?_
       obtain⟨u13,hu13,h⟩:=lJ h
       have j13:Run gJ 0 (ez c_1 r) (.code Hz::.blk 0::.code gC::[]) (sT 80 [(2,B u13)] [] 1):=by
        obtain rfl:=Option.some.inj h
        exact aj rfl (qp [B u13])
       replace h:=hu13
       clear hu13
       refine sp 70 h rfl (fun h=>?_) fun h=>?_
       ·refine cq 5 [75] [B (c_1.Name==([]:ac))] 130 ?_
        obtain⟨u14,hu14,h⟩:=lJ h
        have j14:Run gJ 0 (ez c_1 r) (.code Hz::.blk 0::.code gC::[]) (sT 80 [(2,B u14)] [] 1):=by
         subst h
         exact rf [2] [] (j13 :)
        replace h:=hu14
        clear hu14
        refine sp 75 h rfl (fun h=>?_) fun h=>?_
        ·refine cq 6 [2] [B (c_1.Day==0)] 210 ?_
         subst h
         exact rf [2] [] (j14 :)
        ·refine cq 6 [2] [B false] 210 ?_
         subst h
         exact rf [2] [] (j14 :)
       ·refine cq 11 [2] [B false] 210 ?_
        subst h
        exact rf [2] [] (j13 :)
      ·refine aq 1 ?_
       refine cq 5 [2] [B false] 18 ?_
       obtain rfl:=Option.some.inj h
       exact aj rfl (qp [B false])
     replace h:=hu12
     clear hu12
     refine ma h rfl rfl (fun h=>?_) fun h=>?_
     ·refine aq 1 ?_
      subst h
      exact rf [1,3,65] [1] (j12 :)
     ·refine cq 4 [65] [B (c_1.Op==6)] 321 ?_
      subst h
      exact rf [1,3,65] [1] (j12 :)
theorem Mh {G:Go.Ln.Ground}[TabG Tryz.prog G]:aK Tryz.prog G 244 wD:=gT 1 0 (aJ rZ (aJ LJ bn)) (Checked.mixed Tryz.checked) Tryz.func244 (fun a r h=>NN a r h)
def sj:Condition→List V:=oA aI
def rQ (r:Bool):V×List V:=(B r,[])
noncomputable def sv (slf_Ffci:Condition→Option Bool):Ent:=aW [false] sj rQ slf_Ffci
theorem Hr (slf_Ffci:Condition→Option Bool){x}{r}(h:slf_Ffci x=some r):(sv slf_Ffci).F (sj x)=some (rQ r):=aF (aE bH) h
noncomputable def vM:Ent:=sv (ay nM)
theorem Rt {c_1:Condition}{r}(h:BS c_1=some r):vM.F (sj c_1)=some (rQ r):=Hr (ay nM) h
noncomputable def Ml:Code:=aD Tryz.f224
noncomputable def Gn (slf_Ffci:Condition→Option Bool):Env:=bW Tryz.prog [(244,wD),(224,(sv slf_Ffci))]
def JY (slf_Ffci:Condition→Option Bool)(x:Condition)(r:Bool):St→Prop:=QF (Gn slf_Ffci) Tryz.f224 [false] (sj x) (rQ r)
theorem GP (slf_Ffci:Condition→Option Bool)(c_1:Condition):cI (Gn slf_Ffci) 0 (JY slf_Ffci c_1) (cL (cL (cR (cL (cR (cR Ml)))))) 0 (nf slf_Ffci c_1) (fun u=>(sT 21 [] [] 1)) fun x3=>(sT 21 [(1,.hp 1 0 [] 4 0 0),(3,I x3)] [⟨0,4,[.agg [I c_1.Op,str c_1.Name,I c_1.Day,.isl false (c_1.Parts.map aa)]]⟩] 2):=eC (vt slf_Ffci c_1) fun {Q K} hK self ih x3 y h hr hn=>by
 unfold iD at h
 refine cq 6 [7,9] [I x3,.isl false (c_1.Parts.map aa)] 50 ?_
 refine oq 66 (I (len c_1.Parts)) rfl (bT rfl rfl rfl (ce rfl)) ?_
 refine cq 2 [11] [B (decide (x3<(len c_1.Parts)))] 82 ?_
 refine sq h (fun h=>?_) fun h=>?_
 ·refine aq 1 ?_
  refine cq 7 [15,16] [.isl false (c_1.Parts.map aa),I x3] 130 ?_
  obtain⟨e4,he4,h⟩:=bS h
  refine oq 146 (.iptr (.agg [I e4.Op,str e4.Name,I e4.Day,.isl false (e4.Parts.map aa)]) 0) rfl (ao rfl rfl rfl (bh rfl rfl (aQ e4) rfl he4)) ?_
  refine cq 1 [18] [.agg [I e4.Op,str e4.Name,I e4.Day,.isl false (e4.Parts.map aa)]] 162 ?_
  obtain⟨r5,hr5,h⟩:=bS h
  refine oq 178 (B r5) rfl (bU rfl rfl (cm rfl rfl rfl (bX (cj rfl) cN) (Hr slf_Ffci hr5) (.inr rfl) dF rfl rfl rfl)) ?_
  refine cq 2 [20] [B (!r5)] 194 ?_
  refine sq h (fun h=>?_) fun h=>?_
  ·refine cq 4 [2] [B false] 210 ?_
   exact aj rfl (hr _ (Option.some.inj h).symm _ (qp [B false]))
  ·refine aq 1 ?_
   refine cq 6 [3] [I (an (x3+1))] 242 ?_
   refine dC ?_
   exact rf [1,3] [1] (ih _ _ h hr hn :)
 ·refine aq 1 ?_
  exact rf [] [] (hn _ (Option.some.inj h).symm :) (hk:=hK)
theorem O2 (slf_Ffci:Condition→Option Bool)(c_1:Condition)(r:Bool)(h:pe slf_Ffci c_1=some r):bl (Gn slf_Ffci) Tryz.f224 [false] 0 (sj c_1) (rQ r):=by
 show Run _ _ (JY slf_Ffci c_1 r) [.code Ml] _
 refine rI 21 [(0,.agg [I c_1.Op,str c_1.Name,I c_1.Day,.isl false (c_1.Parts.map aa)])] [] 1 ?_
 unfold pe at h
 refine ck 9 [1,4] [] [1] [] [.hp 1 0 [] 4 0 0,.agg [I c_1.Op,str c_1.Name,I c_1.Day,.isl false (c_1.Parts.map aa)]] [some ⟨0,4,[.agg [I c_1.Op,str c_1.Name,I c_1.Day,.isl false (c_1.Parts.map aa)]]⟩] 49 (by kernel_rfl) ?_
 obtain⟨r2,hr2,h⟩:=bS h
 refine oq 65 (B r2) rfl (cP (RV hr2)) ?_
 refine cq 2 [6] [B (!r2)] 81 ?_
 refine sq h (fun h=>?_) fun h=>?_
 ·refine cq 4 [2] [B false] 97 ?_
  obtain rfl:=Option.some.inj h
  exact aj rfl (qp [B false])
 ·refine aq 1 ?_
  refine cq 6 [3] [I (0)] 97 ?_
  obtain⟨y6,hy6,hy61,hy62⟩:=bJ h
  refine ci rfl ?_
  refine rf [1,3] [1] (GP slf_Ffci c_1 rfl 0 _ hy6 (fun r' e st hq=>by rw[hy61 r' e] at hq;exact hq) fun u6 hu=>?_)
  replace h:=hy62 u6 hu
  refine cq 4 [2] [B true] 17 ?_
  obtain rfl:=Option.some.inj h
  exact aj rfl (qp [B true])
theorem La {G:Go.Ln.Ground}[TabG Tryz.prog G]:aK Tryz.prog G 224 vM:=fE fun slf_Ffci g_Ffci=>gT 1 0 (aJ Mh (aJ g_Ffci bn)) (Checked.mixed Tryz.checked) Tryz.func224 (fun a r h=>O2 slf_Ffci a r h)
def sx:Condition→List V:=oA aI
def sf (r:Int):V×List V:=(I r,[])
noncomputable def ss (slf_Ffcp:Condition→Option Int):Ent:=aW [false] sx sf slf_Ffcp
theorem HK (slf_Ffcp:Condition→Option Int){x}{r}(h:slf_Ffcp x=some r):(ss slf_Ffcp).F (sx x)=some (sf r):=aF (aE bH) h
noncomputable def wW:Ent:=ss (ay iX)
theorem Sp {c_1:Condition}{r}(h:FJ c_1=some r):wW.F (sx c_1)=some (sf r):=HK (ay iX) h
noncomputable def Ld:Code:=aD Tryz.f225
noncomputable def FP (slf_Ffcp:Condition→Option Int):Env:=bW Tryz.prog [(225,(ss slf_Ffcp))]
def JC (slf_Ffcp:Condition→Option Int)(x:Condition)(r:Int):St→Prop:=QF (FP slf_Ffcp) Tryz.f225 [false] (sx x) (sf r)
theorem Gz (slf_Ffcp:Condition→Option Int)(c_1:Condition):cI (FP slf_Ffcp) 0 (JC slf_Ffcp c_1) (cL (cL (cR (cL (cR (cR Ld)))))) 0 (jz slf_Ffcp c_1) (fun u=>(sT 21 [(3,I u)] [] 1)) fun x2=>(sT 21 [(1,.hp 1 0 [] 4 0 0),(3,I x2.1),(4,I x2.2)] [⟨0,4,[.agg [I c_1.Op,str c_1.Name,I c_1.Day,.isl false (c_1.Parts.map aa)]]⟩] 2):=eC (uV slf_Ffcp c_1) fun {Q K} hK self ih x2 y h hr hn=>by
 unfold gK at h
 refine cq 6 [5,7] [I x2.2,.isl false (c_1.Parts.map aa)] 50 ?_
 refine oq 66 (I (len c_1.Parts)) rfl (bT rfl rfl rfl (ce rfl)) ?_
 refine cq 2 [9] [B (decide (x2.2<(len c_1.Parts)))] 82 ?_
 refine sq h (fun h=>?_) fun h=>?_
 ·refine aq 1 ?_
  refine cq 7 [12,14,15] [I x2.1,.isl false (c_1.Parts.map aa),I x2.2] 146 ?_
  obtain⟨e3,he3,h⟩:=bS h
  refine oq 162 (.iptr (.agg [I e3.Op,str e3.Name,I e3.Day,.isl false (e3.Parts.map aa)]) 0) rfl (ao rfl rfl rfl (bh rfl rfl (aQ e3) rfl he3)) ?_
  refine cq 1 [17] [.agg [I e3.Op,str e3.Name,I e3.Day,.isl false (e3.Parts.map aa)]] 178 ?_
  obtain⟨r4,hr4,h⟩:=bS h
  refine oq 194 (I r4) rfl (bU rfl rfl (cm rfl rfl rfl (bX (cj rfl) cN) (HK slf_Ffcp hr4) (.inr rfl) dF rfl rfl rfl)) ?_
  refine cq 9 [3,4] [I (an (x2.1+r4)),I (an (x2.2+1))] 274 ?_
  refine dC ?_
  exact rf [1,3,4] [1] (ih _ _ h hr hn :)
 ·refine aq 1 ?_
  exact rf [3] [] (hn _ (Option.some.inj h).symm :) (hk:=hK)
theorem Nj (slf_Ffcp:Condition→Option Int)(c_1:Condition)(r:Int)(h:qe slf_Ffcp c_1=some r):bl (FP slf_Ffcp) Tryz.f225 [false] 0 (sx c_1) (sf r):=by
 show Run _ _ (JC slf_Ffcp c_1 r) [.code Ld] _
 refine rI 21 [(0,.agg [I c_1.Op,str c_1.Name,I c_1.Day,.isl false (c_1.Parts.map aa)])] [] 1 ?_
 unfold qe at h
 refine ck 15 [1,3,4] [] [1] [] [.hp 1 0 [] 4 0 0,I (1),I (0)] [some ⟨0,4,[.agg [I c_1.Op,str c_1.Name,I c_1.Day,.isl false (c_1.Parts.map aa)]]⟩] 65 (by kernel_rfl) ?_
 obtain⟨y5,hy5,hy51,hy52⟩:=bJ h
 refine ci rfl ?_
 refine rf [1,3,4] [1] (Gz slf_Ffcp c_1 rfl (1,0) _ hy5 (fun r' e st hq=>by rw[hy51 r' e] at hq;exact hq) fun u5 hu=>?_)
 replace h:=hy52 u5 hu
 refine cq 5 [2] [I u5] 33 ?_
 obtain rfl:=Option.some.inj h
 exact aj rfl (qp [I u5])
theorem L1 {G:Go.Ln.Ground}[TabG Tryz.prog G]:aK Tryz.prog G 225 wW:=fE fun slf_Ffcp g_Ffcp=>gT 1 0 (aJ g_Ffcp bn) (Checked.mixed Tryz.checked) Tryz.func225 (fun a r h=>Nj slf_Ffcp a r h)
def za:Condition→List V:=oA aI
def zj (r:Bool):V×List V:=(B r,[])
noncomputable def vN:Ent:=aW [false] za zj fun x=>vL x
theorem Sm {c_1:Condition}{r}(h:vL c_1=some r):vN.F (za c_1)=some (zj r):=aF (aE bH) h
noncomputable def Mr:Code:=aD Tryz.f194
noncomputable def E8:Env:=bW Tryz.prog [(224,vM),(225,wW)]
def yj (x:Condition)(r:Bool):St→Prop:=QF E8 Tryz.f194 [false] (za x) (zj r)
theorem NJ (c_1:Condition)(r:Bool)(h:vL c_1=some r):bl E8 Tryz.f194 [false] 0 (za c_1) (zj r):=by
 show Run _ _ (yj c_1 r) [.code Mr] _
 refine rI 10 [(0,.agg [I c_1.Op,str c_1.Name,I c_1.Day,.isl false (c_1.Parts.map aa)])] [] 1 ?_
 unfold vL at h
 refine ck 8 [1,3] [] [1] [] [.hp 1 0 [] 4 0 0,.agg [I c_1.Op,str c_1.Name,I c_1.Day,.isl false (c_1.Parts.map aa)]] [some ⟨0,4,[.agg [I c_1.Op,str c_1.Name,I c_1.Day,.isl false (c_1.Parts.map aa)]]⟩] 49 (by kernel_rfl) ?_
 obtain⟨r2,hr2,h⟩:=bS h
 refine oq 65 (B r2) rfl (cP (Rt hr2)) ?_
 refine cq 1 [5] [B r2] 81 ?_
 obtain⟨y3,hy3,hy31,hy32⟩:=bJ h
 have j3:∀u3,y3=.inr u3→Run E8 0 (yj c_1 r) (.code (cR (cR Mr))::[]) (sT 10 [(2,B u3)] [] 1):=by
  intro u3 hu
  replace h:=hy32 u3 hu
  obtain rfl:=Option.some.inj h
  exact aj rfl (qp [B u3])
 have r3:∀r',y3=.inl r'→∀st,yj c_1 r' st→(yj c_1 r) st:=fun r' e st hq=>by rw[hy31 r' e] at hq;exact hq
 replace h:=hy3
 refine sp 5 h rfl (fun h=>?_) fun h=>?_
 ·refine cq 1 [6] [.agg [I c_1.Op,str c_1.Name,I c_1.Day,.isl false (c_1.Parts.map aa)]] 97 ?_
  obtain⟨r4,hr4,h⟩:=bS h
  refine oy 113 (I r4) rfl (cP (Sp hr4)) ?_
  refine cq 4 [2] [B (decide (r4≤15))] 161 ?_
  exact rf [2] [] (j3 _ (Option.some.inj h).symm :)
 ·refine cq 6 [2] [B false] 161 ?_
  exact rf [2] [] (j3 _ (Option.some.inj h).symm :)
theorem Kd {G:Go.Ln.Ground}[TabG Tryz.prog G]:aK Tryz.prog G 194 vN:=gT 1 0 (aJ La (aJ L1 bn)) (Checked.mixed Tryz.checked) Tryz.func194 (fun a r h=>NJ a r h)
def xF:(Contract×Int)→List V:=cA aN (oA I)
def zJ (r:Bool):V×List V:=(B r,[])
noncomputable def xu:Ent:=aW [false,false] xF zJ fun x=>v7 x.1 x.2
theorem JW {c_1:Contract}{i_2:Int}{r}(h:v7 c_1 i_2=some r):xu.F (xF (c_1,i_2))=some (zJ r):=aF (bO bm (aE bK)) h
noncomputable def F6:Code:=aD Tryz.f141
noncomputable abbrev kh:Code:=cR (cR (cR (cR F6)))
noncomputable abbrev mW:Code:=cR (cL (cR (cR (cR F6))))
noncomputable abbrev px:Code:=cR kh
noncomputable abbrev tP:Code:=cR (cL kh)
noncomputable abbrev Cc:Code:=cR (cR (cR px))
noncomputable def fD:Env:=bW Tryz.prog [(157,np),(73,em),(140,qP),(194,vN)]
def cE (x:Contract×Int)(r:Bool):St→Prop:=QF fD Tryz.f141 [false,false] (xF x) (zJ r)
theorem MM (c_1:Contract)(i_2:Int)(r:Bool)(h:v7 c_1 i_2=some r):bl fD Tryz.f141 [false,false] 0 (xF (c_1,i_2)) (zJ r):=by
 show Run _ _ (cE (c_1,i_2) r) [.code F6] _
 refine rI 114 [(0,.agg [.isl false (c_1.Parties.map str),.isl false (c_1.Clauses.map ae)]),(1,I i_2)] [] 1 ?_
 unfold v7 at h
 refine ck 10 [2,9,10] [] [1] [] [.hp 1 0 [] 2 0 0,.isl false (c_1.Clauses.map ae),I i_2] [some ⟨0,2,[.agg [.isl false (c_1.Parties.map str),.isl false (c_1.Clauses.map ae)]]⟩] 81 (by kernel_rfl) ?_
 obtain⟨e3,he3,h⟩:=bS h
 refine oq 97 (.iptr (.agg [str e3.Id,I e3.Kind,I e3.Party,str e3.Action,I e3.Other,I e3.Amount,I e3.When.Op,str e3.When.Name,I e3.When.Day,.isl false (e3.When.Parts.map aa),I e3.Within,str e3.Repair]) 0) rfl (ao rfl rfl rfl (bh rfl rfl rfl rfl he3)) ?_
 refine ck 2 [5,12] [] [113] [] [.hp 113 0 [] 12 0 0,.agg [str e3.Id,I e3.Kind,I e3.Party,str e3.Action,I e3.Other,I e3.Amount,I e3.When.Op,str e3.When.Name,I e3.When.Day,.isl false (e3.When.Parts.map aa),I e3.Within,str e3.Repair]] [some ⟨0,12,[.agg [str ([]),I (0),I (0),str ([]),I (0),I (0),I (0),str ([]),I (0),.isl true [],I (0),str ([])]]⟩] 129 (by kernel_rfl) ?_
 refine eF 113 [.agg [str ([]),I (0),I (0),str ([]),I (0),I (0),I (0),str ([]),I (0),.usl 4 (([]).map ak),I (0),str ([])]] rfl rfl (au (fH (au (.refl _) (au (.refl _) (au (.refl _) (au (.refl _) (au (.refl _) (au (.refl _) (au (.refl _) (au (.refl _) (au (.refl _) (au (.nil _) (au (.refl _) (au (.refl _) dH))))))))))))) dH) ?_
 refine ck 6 [14] [] [113] [] [.isl false (c_1.Parties.map str)] [some ⟨2,12,[.agg [str e3.Id,I e3.Kind,I e3.Party,str e3.Action,I e3.Other,I e3.Amount,I e3.When.Op,str e3.When.Name,I e3.When.Day,.isl false (e3.When.Parts.map aa),I e3.Within,str e3.Repair]]⟩] 177 (by kernel_rfl) ?_
 refine oq 193 (I (len c_1.Parties)) rfl (bT rfl rfl rfl (ce rfl)) ?_
 refine cq 7 [6,17] [I (len c_1.Parties),str e3.Id] 241 ?_
 obtain⟨r4,hr4,h⟩:=bS h
 refine oq 257 (B r4) rfl (cP (sX hr4)) ?_
 refine cq 2 [20] [B (!r4)] 289 ?_
 obtain⟨y5,hy5,hy51,hy52⟩:=bJ h
 have j5:∀u5,y5=.inr u5→Run fD 0 (cE (c_1,i_2) r) (.code mW::.code kh::[]) (sT 114 [(1,I i_2),(2,.hp 1 0 [] 2 0 0),(5,.hp 2 0 [] 12 0 0),(60,B u5)] [⟨0,2,[.agg [.isl false (c_1.Parties.map str),.isl false (c_1.Clauses.map ae)]]⟩,⟨0,12,[.agg [str e3.Id,I e3.Kind,I e3.Party,str e3.Action,I e3.Other,I e3.Amount,I e3.When.Op,str e3.When.Name,I e3.When.Day,.isl false (e3.When.Parts.map aa),I e3.Within,str e3.Repair]]⟩] 3):=by
  intro u5 hu
  replace h:=hy52 u5 hu
  refine sq h (fun h=>?_) fun h=>?_
  ·refine cq 4 [4] [B false] 19 ?_
   obtain rfl:=Option.some.inj h
   exact aj rfl (qp [B false])
  ·refine aq 1 ?_
   refine cq 5 [62] [I e3.Amount] 35 ?_
   obtain⟨r6,hr6,h⟩:=bS h
   refine oq 51 (B r6) rfl (cP (eb hr6)) ?_
   refine cq 2 [65] [B (!r6)] 83 ?_
   obtain⟨y7,hy7,hy71,hy72⟩:=bJ h
   have j7:∀u7,y7=.inr u7→Run fD 0 (cE (c_1,i_2) r) (.code tP::.code px::[]) (sT 114 [(1,I i_2),(2,.hp 1 0 [] 2 0 0),(5,.hp 2 0 [] 12 0 0),(85,B u7)] [⟨0,2,[.agg [.isl false (c_1.Parties.map str),.isl false (c_1.Clauses.map ae)]]⟩,⟨0,12,[.agg [str e3.Id,I e3.Kind,I e3.Party,str e3.Action,I e3.Other,I e3.Amount,I e3.When.Op,str e3.When.Name,I e3.When.Day,.isl false (e3.When.Parts.map aa),I e3.Within,str e3.Repair]]⟩] 3):=by
    intro u7 hu
    replace h:=hy72 u7 hu
    refine sq h (fun h=>?_) fun h=>?_
    ·refine cq 4 [4] [B false] 19 ?_
     obtain rfl:=Option.some.inj h
     exact aj rfl (qp [B false])
    ·refine aq 1 ?_
     refine cq 7 [88] [B (e3.Repair==([]:ac))] 51 ?_
     refine sq h (fun h=>?_) fun h=>?_
     ·refine cq 4 [4] [B true] 67 ?_
      obtain rfl:=Option.some.inj h
      exact aj rfl (qp [B true])
     ·refine aq 1 ?_
      refine cq 5 [89,91] [.agg [.isl false (c_1.Parties.map str),.isl false (c_1.Clauses.map ae)],str e3.Repair] 99 ?_
      obtain⟨r8,hr8,h⟩:=bS h
      refine oq 115 (I r8) rfl (cP (ET hr8)) ?_
      refine cq 7 [7,95] [I r8,B (decide (r8≥0))] 179 ?_
      obtain⟨y9,hy9,hy91,hy92⟩:=bJ h
      have j9:∀u9,y9=.inr u9→Run fD 0 (cE (c_1,i_2) r) (.code Cc::[]) (sT 114 [(4,B u9)] [] 1):=by
       intro u9 hu
       replace h:=hy92 u9 hu
       obtain rfl:=Option.some.inj h
       exact aj rfl (qp [B u9])
      have r9:∀r',y9=.inl r'→∀st,cE (c_1,i_2) r' st→(cE (c_1,i_2) r) st:=fun r' e st hq=>by rw[hy91 r' e] at hq;exact hq
      replace h:=hy9
      refine sp 95 h rfl (fun h=>?_) fun h=>?_
      ·refine cq 5 [100] [B (r8 != i_2)] 259 ?_
       obtain⟨y10,hy10,hy101,hy102⟩:=bL h
       have j10:∀u10,y10=.inr u10→Run fD 0 (cE (c_1,i_2) r) (.code Cc::[]) (sT 114 [(4,B u10)] [] 1):=by
        intro u10 hu
        replace h:=hy102 u10 hu
        exact rf [4] [] (j9 _ (Option.some.inj h).symm :)
       have r10:∀r',y10=.inl r'→∀st,cE (c_1,i_2) r' st→(cE (c_1,i_2) r) st:=fun r' e st hq=>r9 r' (hy101 r' e) st hq
       replace h:=hy10
       refine sp 100 h rfl (fun h=>?_) fun h=>?_
       ·refine cq 3 [102,103] [.isl false (c_1.Clauses.map ae),I r8] 307 ?_
        obtain⟨e11,he11,h⟩:=bS h
        refine oy 323 (.iptr (.agg [str e11.Id,I e11.Kind,I e11.Party,str e11.Action,I e11.Other,I e11.Amount,I e11.When.Op,str e11.When.Name,I e11.When.Day,.isl false (e11.When.Parts.map aa),I e11.Within,str e11.Repair]) 0) rfl (ao rfl rfl rfl (bh rfl rfl rfl rfl he11)) ?_
        refine cq 5 [109] [B (e11.Kind==1)] 403 ?_
        obtain⟨u12,hu12,h⟩:=lJ h
        have j12:Run fD 0 (cE (c_1,i_2) r) (.code Cc::[]) (sT 114 [(4,B u12)] [] 1):=by
         exact rf [4] [] (j10 _ (Option.some.inj h).symm :)
        replace h:=hu12
        clear hu12
        refine sp 109 h rfl (fun h=>?_) fun h=>?_
        ·refine cq 6 [4] [B (e3.Kind != 3)] 483 ?_
         subst h
         exact rf [4] [] (j12 :)
        ·refine cq 6 [4] [B false] 483 ?_
         subst h
         exact rf [4] [] (j12 :)
       ·refine cq 15 [4] [B false] 483 ?_
        exact rf [4] [] (j10 _ (Option.some.inj h).symm :)
      ·refine cq 20 [4] [B false] 483 ?_
       exact rf [4] [] (j9 _ (Option.some.inj h).symm :)
   have r7:∀r',y7=.inl r'→∀st,cE (c_1,i_2) r' st→(cE (c_1,i_2) r) st:=fun r' e st hq=>by rw[hy71 r' e] at hq;exact hq
   replace h:=hy7
   refine sp 65 h rfl (fun h=>?_) fun h=>?_
   ·refine cq 21 [85] [B true] 403 ?_
    exact rf [1,2,5,85] [1,2] (j7 _ (Option.some.inj h).symm :)
   ·refine cq 2 [67] [I e3.Within] 115 ?_
    obtain⟨r13,hr13,h⟩:=bS h
    refine oy 131 (B r13) rfl (cP (eb hr13)) ?_
    refine cq 3 [71] [B (!r13)] 179 ?_
    obtain⟨u14,hu14,h⟩:=lJ h
    have j14:Run fD 0 (cE (c_1,i_2) r) (.code tP::.code px::[]) (sT 114 [(1,I i_2),(2,.hp 1 0 [] 2 0 0),(5,.hp 2 0 [] 12 0 0),(85,B u14)] [⟨0,2,[.agg [.isl false (c_1.Parties.map str),.isl false (c_1.Clauses.map ae)]]⟩,⟨0,12,[.agg [str e3.Id,I e3.Kind,I e3.Party,str e3.Action,I e3.Other,I e3.Amount,I e3.When.Op,str e3.When.Name,I e3.When.Day,.isl false (e3.When.Parts.map aa),I e3.Within,str e3.Repair]]⟩] 3):=by
     exact rf [1,2,5,85] [1,2] (j7 _ (Option.some.inj h).symm :)
    replace h:=hu14
    clear hu14
    refine sp 71 h rfl (fun h=>?_) fun h=>?_
    ·refine cq 15 [85] [B true] 403 ?_
     subst h
     exact rf [1,2,5,85] [1,2] (j14 :)
    ·refine cq 4 [75] [B (e3.Kind != 1)] 243 ?_
     obtain⟨u15,hu15,h⟩:=lJ h
     have j15:Run fD 0 (cE (c_1,i_2) r) (.code tP::.code px::[]) (sT 114 [(1,I i_2),(2,.hp 1 0 [] 2 0 0),(5,.hp 2 0 [] 12 0 0),(85,B u15)] [⟨0,2,[.agg [.isl false (c_1.Parties.map str),.isl false (c_1.Clauses.map ae)]]⟩,⟨0,12,[.agg [str e3.Id,I e3.Kind,I e3.Party,str e3.Action,I e3.Other,I e3.Amount,I e3.When.Op,str e3.When.Name,I e3.When.Day,.isl false (e3.When.Parts.map aa),I e3.Within,str e3.Repair]]⟩] 3):=by
      subst h
      exact rf [1,2,5,85] [1,2] (j14 :)
     replace h:=hu15
     clear hu15
     refine sp 75 h rfl (fun h=>?_) fun h=>?_
     ·refine cq 4 [79] [B (e3.Amount != 0)] 307 ?_
      obtain⟨u16,hu16,h⟩:=lJ h
      have j16:Run fD 0 (cE (c_1,i_2) r) (.code tP::.code px::[]) (sT 114 [(1,I i_2),(2,.hp 1 0 [] 2 0 0),(5,.hp 2 0 [] 12 0 0),(85,B u16)] [⟨0,2,[.agg [.isl false (c_1.Parties.map str),.isl false (c_1.Clauses.map ae)]]⟩,⟨0,12,[.agg [str e3.Id,I e3.Kind,I e3.Party,str e3.Action,I e3.Other,I e3.Amount,I e3.When.Op,str e3.When.Name,I e3.When.Day,.isl false (e3.When.Parts.map aa),I e3.Within,str e3.Repair]]⟩] 3):=by
       subst h
       exact rf [1,2,5,85] [1,2] (j15 :)
      replace h:=hu16
      clear hu16
      refine sp 79 h rfl (fun h=>?_) fun h=>?_
      ·refine cq 7 [85] [B true] 403 ?_
       subst h
       exact rf [1,2,5,85] [1,2] (j16 :)
      ·refine cq 7 [85] [B (e3.Within != 0)] 403 ?_
       subst h
       exact rf [1,2,5,85] [1,2] (j16 :)
     ·refine cq 11 [85] [B false] 403 ?_
      subst h
      exact rf [1,2,5,85] [1,2] (j15 :)
 have r5:∀r',y5=.inl r'→∀st,cE (c_1,i_2) r' st→(cE (c_1,i_2) r) st:=fun r' e st hq=>by rw[hy51 r' e] at hq;exact hq
 replace h:=hy5
 refine sp 20 h rfl (fun h=>?_) fun h=>?_
 ·refine cq 41 [60] [B true] 929 ?_
  exact rf [1,2,5,60] [1,113] (j5 _ (Option.some.inj h).symm :)
 ·refine cq 2 [22] [str e3.Action] 321 ?_
  obtain⟨r17,hr17,h⟩:=bS h
  refine oy 337 (B r17) rfl (cP (sX hr17)) ?_
  refine cq 3 [26] [B (!r17)] 385 ?_
  obtain⟨y18,hy18,hy181,hy182⟩:=bL h
  have j18:∀u18,y18=.inr u18→Run fD 0 (cE (c_1,i_2) r) (.code mW::.code kh::[]) (sT 114 [(1,I i_2),(2,.hp 1 0 [] 2 0 0),(5,.hp 2 0 [] 12 0 0),(60,B u18)] [⟨0,2,[.agg [.isl false (c_1.Parties.map str),.isl false (c_1.Clauses.map ae)]]⟩,⟨0,12,[.agg [str e3.Id,I e3.Kind,I e3.Party,str e3.Action,I e3.Other,I e3.Amount,I e3.When.Op,str e3.When.Name,I e3.When.Day,.isl false (e3.When.Parts.map aa),I e3.Within,str e3.Repair]]⟩] 3):=by
   intro u18 hu
   replace h:=hy182 u18 hu
   exact rf [1,2,5,60] [1,2] (j5 _ (Option.some.inj h).symm :)
  have r18:∀r',y18=.inl r'→∀st,cE (c_1,i_2) r' st→(cE (c_1,i_2) r) st:=fun r' e st hq=>r5 r' (hy181 r' e) st hq
  replace h:=hy18
  refine sp 26 h rfl (fun h=>?_) fun h=>?_
  ·refine cq 35 [60] [B true] 929 ?_
   exact rf [1,2,5,60] [1,113] (j18 _ (Option.some.inj h).symm :)
  ·refine cq 2 [28] [I e3.Kind] 417 ?_
   obtain⟨r19,hr19,h⟩:=bS h
   refine oy 433 (B r19) rfl (cP (eb hr19)) ?_
   refine cq 3 [32] [B (!r19)] 481 ?_
   obtain⟨y20,hy20,hy201,hy202⟩:=bL h
   have j20:∀u20,y20=.inr u20→Run fD 0 (cE (c_1,i_2) r) (.code mW::.code kh::[]) (sT 114 [(1,I i_2),(2,.hp 1 0 [] 2 0 0),(5,.hp 2 0 [] 12 0 0),(60,B u20)] [⟨0,2,[.agg [.isl false (c_1.Parties.map str),.isl false (c_1.Clauses.map ae)]]⟩,⟨0,12,[.agg [str e3.Id,I e3.Kind,I e3.Party,str e3.Action,I e3.Other,I e3.Amount,I e3.When.Op,str e3.When.Name,I e3.When.Day,.isl false (e3.When.Parts.map aa),I e3.Within,str e3.Repair]]⟩] 3):=by
    intro u20 hu
    replace h:=hy202 u20 hu
    exact rf [1,2,5,60] [1,2] (j18 _ (Option.some.inj h).symm :)
   have r20:∀r',y20=.inl r'→∀st,cE (c_1,i_2) r' st→(cE (c_1,i_2) r) st:=fun r' e st hq=>r18 r' (hy201 r' e) st hq
   replace h:=hy20
   refine sp 32 h rfl (fun h=>?_) fun h=>?_
   ·refine cq 29 [60] [B true] 929 ?_
    exact rf [1,2,5,60] [1,113] (j20 _ (Option.some.inj h).symm :)
   ·refine cq 4 [34,36] [I e3.Party,I (an ((len c_1.Parties) - 1))] 545 ?_
    obtain⟨r21,hr21,h⟩:=bS h
    refine oy 561 (B r21) rfl (cP (eb hr21)) ?_
    refine cq 3 [40] [B (!r21)] 609 ?_
    obtain⟨y22,hy22,hy221,hy222⟩:=bL h
    have j22:∀u22,y22=.inr u22→Run fD 0 (cE (c_1,i_2) r) (.code mW::.code kh::[]) (sT 114 [(1,I i_2),(2,.hp 1 0 [] 2 0 0),(5,.hp 2 0 [] 12 0 0),(60,B u22)] [⟨0,2,[.agg [.isl false (c_1.Parties.map str),.isl false (c_1.Clauses.map ae)]]⟩,⟨0,12,[.agg [str e3.Id,I e3.Kind,I e3.Party,str e3.Action,I e3.Other,I e3.Amount,I e3.When.Op,str e3.When.Name,I e3.When.Day,.isl false (e3.When.Parts.map aa),I e3.Within,str e3.Repair]]⟩] 3):=by
     intro u22 hu
     replace h:=hy222 u22 hu
     exact rf [1,2,5,60] [1,2] (j20 _ (Option.some.inj h).symm :)
    have r22:∀r',y22=.inl r'→∀st,cE (c_1,i_2) r' st→(cE (c_1,i_2) r) st:=fun r' e st hq=>r20 r' (hy221 r' e) st hq
    replace h:=hy22
    refine sp 40 h rfl (fun h=>?_) fun h=>?_
    ·refine cq 21 [60] [B true] 929 ?_
     exact rf [1,2,5,60] [1,113] (j22 _ (Option.some.inj h).symm :)
    ·refine cq 4 [42,44] [I e3.Other,I (an ((len c_1.Parties) - 1))] 673 ?_
     obtain⟨r23,hr23,h⟩:=bS h
     refine oy 689 (B r23) rfl (cP (eb hr23)) ?_
     refine cq 3 [48] [B (!r23)] 737 ?_
     obtain⟨y24,hy24,hy241,hy242⟩:=bL h
     have j24:∀u24,y24=.inr u24→Run fD 0 (cE (c_1,i_2) r) (.code mW::.code kh::[]) (sT 114 [(1,I i_2),(2,.hp 1 0 [] 2 0 0),(5,.hp 2 0 [] 12 0 0),(60,B u24)] [⟨0,2,[.agg [.isl false (c_1.Parties.map str),.isl false (c_1.Clauses.map ae)]]⟩,⟨0,12,[.agg [str e3.Id,I e3.Kind,I e3.Party,str e3.Action,I e3.Other,I e3.Amount,I e3.When.Op,str e3.When.Name,I e3.When.Day,.isl false (e3.When.Parts.map aa),I e3.Within,str e3.Repair]]⟩] 3):=by
      intro u24 hu
      replace h:=hy242 u24 hu
      exact rf [1,2,5,60] [1,2] (j22 _ (Option.some.inj h).symm :)
     have r24:∀r',y24=.inl r'→∀st,cE (c_1,i_2) r' st→(cE (c_1,i_2) r) st:=fun r' e st hq=>r22 r' (hy241 r' e) st hq
     replace h:=hy24
     refine sp 48 h rfl (fun h=>?_) fun h=>?_
     ·refine cq 13 [60] [B true] 929 ?_
      exact rf [1,2,5,60] [1,113] (j24 _ (Option.some.inj h).symm :)
     ·refine cq 7 [55] [B (e3.Party==e3.Other)] 849 ?_
      obtain⟨y25,hy25,hy251,hy252⟩:=bL h
      have j25:∀u25,y25=.inr u25→Run fD 0 (cE (c_1,i_2) r) (.code mW::.code kh::[]) (sT 114 [(1,I i_2),(2,.hp 1 0 [] 2 0 0),(5,.hp 2 0 [] 12 0 0),(60,B u25)] [⟨0,2,[.agg [.isl false (c_1.Parties.map str),.isl false (c_1.Clauses.map ae)]]⟩,⟨0,12,[.agg [str e3.Id,I e3.Kind,I e3.Party,str e3.Action,I e3.Other,I e3.Amount,I e3.When.Op,str e3.When.Name,I e3.When.Day,.isl false (e3.When.Parts.map aa),I e3.Within,str e3.Repair]]⟩] 3):=by
       intro u25 hu
       replace h:=hy252 u25 hu
       exact rf [1,2,5,60] [1,2] (j24 _ (Option.some.inj h).symm :)
      have r25:∀r',y25=.inl r'→∀st,cE (c_1,i_2) r' st→(cE (c_1,i_2) r) st:=fun r' e st hq=>r24 r' (hy251 r' e) st hq
      replace h:=hy25
      refine sp 55 h rfl (fun h=>?_) fun h=>?_
      ·refine cq 6 [60] [B true] 929 ?_
       exact rf [1,2,5,60] [1,113] (j25 _ (Option.some.inj h).symm :)
      ·refine cq 2 [57] [.agg [I e3.When.Op,str e3.When.Name,I e3.When.Day,.isl false (e3.When.Parts.map aa)]] 881 ?_
       obtain⟨r26,hr26,h⟩:=bS h
       refine oy 897 (B r26) rfl (cP (Sm hr26)) ?_
       refine cq 3 [60] [B (!r26)] 929 ?_
       exact rf [1,2,5,60] [1,113] (j25 _ (Option.some.inj h).symm :)
theorem Lo {G:Go.Ln.Ground}[TabG Tryz.prog G]:aK Tryz.prog G 141 xu:=gT 2 0 (aJ rZ (aJ fz (aJ CC (aJ Kd bn)))) (Checked.mixed Tryz.checked) Tryz.func141 (fun a r h=>MM a.1 a.2 r h)
def yU:((List ac)×ac)→List V:=cA (Aq 1 str) (oA str)
def yK (r:(List ac)):V×List V:=(.usl 1 (r.map str),[.dead])
noncomputable def qn:Ent:=aW [true,false] yU yK fun x=>sb x.1 x.2
theorem FK {l_8:List ac}{s_9:ac}{r}(h:sb l_8 s_9=some r):qn.F (yU (l_8,s_9))=some (yK r):=aF (bO (ng bp) (aE bp)) h
noncomputable def nu:Code:=aD Tryz.f180
noncomputable def th:Env:=bW Tryz.prog []
def pA (x:(List ac)×ac)(r:(List ac)):St→Prop:=QF th Tryz.f180 [true,false] (yU x) (yK r)
theorem G4 (l_8:List ac)(s_9:ac):cI th 1 (pA (l_8,s_9)) (cL (cL (cL (cR (cR nu))))) 0 (qf l_8 s_9) (fun u=>(sO 45 [(0,.hs 2 0 [] 1 0 (u.2.2.map str).length),(1,str u.1),(5,I u.2.1)] [none,some ⟨0,1,u.2.2.map str⟩] 3)) fun x3=>(sO 45 [(0,.hs 2 0 [] 1 0 (l_8.map str).length),(1,str s_9),(5,I x3)] [none,some ⟨0,1,l_8.map str⟩] 3):=eC (uF l_8 s_9) fun {Q K} hK self ih x3 y h hr hn=>by
 unfold iH at h
 refine cq 5 [6,7] [I x3,.hs 2 0 [] 1 0 (l_8.map str).length] 35 ?_
 refine oq 51 (I (len l_8)) rfl (bT rfl rfl rfl (uA (f:=str) (xs:=l_8) rfl rfl)) ?_
 refine cq 2 [10] [B (decide (x3<(len l_8)))] 83 ?_
 obtain⟨y4,hy4,hy41,hy42⟩:=bL h
 have j4:∀u4,y4=.inr u4→Run th 1 Q (.code (cR (cL (cL (cL (cL (cR (cR nu)))))))::.code (cR (cL (cL (cL (cR (cR nu))))))::.lp (cL (cL (cL (cR (cR nu)))))::.blk 0::K) (sO 45 [(0,.hs 2 0 [] 1 0 (l_8.map str).length),(1,str s_9),(5,I x3),(17,B u4)] [none,some ⟨0,1,l_8.map str⟩] 3):=by
  intro u4 hu
  replace h:=hy42 u4 hu
  refine sq h (fun h=>?_) fun h=>?_
  ·refine aq 1 ?_
   refine cq 7 [5] [I (an (x3+1))] 51 ?_
   refine dC ?_
   exact rg [0,1,5] [52,2] (ih _ _ h hr hn :)
  ·refine aq 1 ?_
   exact rg [0,1,5] [4,2] (hn _ (Option.some.inj h).symm :) (hk:=hK)
 have r4:∀r',y4=.inl r'→∀st,pA (l_8,s_9) r' st→Q st:=fun r' e st hq=>hr r' (hy41 r' e) st hq
 replace h:=hy4
 refine sp 10 h rfl (fun h=>?_) fun h=>?_
 ·refine cq 2 [11,12] [.hs 2 0 [] 1 0 (l_8.map str).length,I x3] 115 ?_
  obtain⟨e5,he5,h⟩:=bS h
  refine oy 131 (.hp 2 0 [] 1 (0+Int.toNat x3) 0) rfl (ao rfl rfl rfl (iY (f:=str) (xs:=l_8) rfl rfl rfl he5)) ?_
  refine oy 147 (str e5) rfl (bQ rfl (ox (path:=[]) rfl rfl rfl bM (gB (f:=str) (xs:=l_8) he5) rfl rfl rfl)) ?_
  refine cq 4 [17] [B (Op.bytesLess e5 s_9)] 195 ?_
  exact rg [0,1,5,17] [196,2] (j4 _ (Option.some.inj h).symm :)
 ·refine cq 8 [17] [B false] 195 ?_
  exact rg [0,1,5,17] [196,2] (j4 _ (Option.some.inj h).symm :)
theorem OC (l_8:List ac)(s_9:ac)(r:(List ac))(h:sb l_8 s_9=some r):bl th Tryz.f180 [true,false] 1 (yU (l_8,s_9)) (yK r):=by
 show Run _ _ (pA (l_8,s_9) r) [.code nu] _
 refine rI 45 [(0,.hs 1 0 [] 1 0 (l_8.map str).length),(1,str s_9)] [(1,some ⟨0,1,l_8.map str⟩)] 2 ?_
 unfold sb at h
 refine cq 10 [5] [I (0)] 34 ?_
 obtain⟨y6,hy6,hy61,hy62⟩:=bJ h
 refine ci rfl ?_
 refine rg [0,1,5] [35,1] (G4 l_8 s_9 rfl 0 _ hy6 (fun r' e st hq=>by rw[hy61 r' e] at hq;exact hq) fun u6 hu=>?_)
 replace h:=hy62 u6 hu
 refine cq 5 [20,21] [I u6.2.1,.hs 2 0 [] 1 0 (u6.2.2.map str).length] 35 ?_
 refine oq 51 (I (len u6.2.2)) rfl (bT rfl rfl rfl (uA (f:=str) (xs:=u6.2.2) rfl rfl)) ?_
 refine cq 2 [24] [B (decide (u6.2.1<(len u6.2.2)))] 83 ?_
 obtain⟨y7,hy7,hy71,hy72⟩:=bJ h
 have j7:∀u7,y7=.inr u7→Run th 1 (pA (l_8,s_9) r) (.code (cR (cL (cR (cR (cR nu)))))::.code (cR (cR (cR (cR nu))))::[]) (sO 45 [(0,.hs 2 0 [] 1 0 (u6.2.2.map str).length),(1,str u6.1),(5,I u6.2.1),(31,B u7)] [none,some ⟨0,1,u6.2.2.map str⟩] 3):=by
  intro u7 hu
  replace h:=hy72 u7 hu
  refine sq h (fun h=>?_) fun h=>?_
  ·refine cq 5 [4] [.hs 2 0 [] 1 0 (u6.2.2.map str).length] 35 ?_
   obtain rfl:=Option.some.inj h
   exact aj rfl ⟨_,fin (vs:=[.hs 2 0 [] 1 0 (u6.2.2.map str).length]) rfl (fK (gt rfl (dK rfl rfl)) et) rfl (qZ rfl (mM rfl) (fh fT)),qE fI⟩
  ·refine aq 1 ?_
   refine aq 1 ?_
   refine dV [0,0,0,6,15,0,32,127,0,0,768,2047,4095] rfl (by decide +kernel) ?_
   refine dq [] [] (.hs 3 0 [] 1 0 0) rfl (fO rfl (qm (f:=I) (xs:=[]) (z:=str ([])) (es:=[]) (ws:=[]) rfl rfl rfl (by decide) rfl (d8 rfl) rfl)) ?_
   refine dk 2 [35,34] [I u6.2.1,.hs 2 0 [] 1 0 (u6.2.2.map str).length] ?_
   obtain⟨s8,hs8,h⟩:=bS h
   refine dq [2] [] (.hs 2 0 [] 1 (0+Int.toNat (0)) (Int.toNat u6.2.1 - Int.toNat (0))) rfl (fy rfl rfl rfl rfl (qd (f:=str) (xs:=u6.2.2) rfl rfl rfl rfl rfl hs8)) ?_
   obtain⟨p9,hp9,h⟩:=bS h
   obtain⟨a10,ha10,h⟩:=bS h
   refine dq [3,2] [3] (.hs 67 0 [] 1 0 (a10.map str).length) rfl (nD rfl rfl rfl rfl rfl (sw (path:=[]) (es0:=[]) (f:=str) (xs:=([]:List ac)) (ys:=p9) rfl rfl (HT (path:=[]) (f:=str) (xs:=u6.2.2) rfl rfl bM hp9 jW) rfl rfl rfl rfl rfl (by decide) iC ha10 rfl xE)) ?_ (Dy rfl (Ee (path:=[]) (f:=str) (xs:=u6.2.2) rfl rfl bM jW rfl))
   refine dk 1 [38] [str u6.1] ?_
   refine dq [] [] (.hs 99 0 [] 1 0 1) rfl (fO rfl (qm (f:=I) (xs:=[]) (z:=str ([])) (es:=[str u6.1]) (ws:=[str u6.1]) rfl rfl rfl (by decide) rfl (d8 rfl) rfl)) ?_
   obtain⟨a11,ha11,h⟩:=bS h
   refine dq [67,99] [67] (.hs 115 0 [] 1 0 (a11.map str).length) rfl (nD rfl rfl rfl rfl rfl (sw (path:=[]) (f:=str) (xs:=a10) (ys:=[u6.1]) rfl rfl (BU rfl rfl rfl) rfl rfl rfl bM rfl (by decide) iC ha11 rfl xE)) ?_ (Dy rfl (Ee (path:=[]) (f:=str) (xs:=[u6.1]) rfl rfl bM jW rfl))
   refine dk 2 [42,41] [I u6.2.1,.hs 2 0 [] 1 0 (u6.2.2.map str).length] ?_
   obtain⟨s12,hs12,h⟩:=bS h
   refine dq [2] [] (.hs 2 0 [] 1 (0+Int.toNat u6.2.1) (Int.toNat (len u6.2.2) - Int.toNat u6.2.1)) rfl (fy rfl rfl rfl rfl (qd (f:=str) (xs:=u6.2.2) rfl rfl rfl rfl (M7 rfl) hs12)) ?_
   obtain⟨p13,hp13,h⟩:=bS h
   obtain⟨a14,ha14,h⟩:=bS h
   refine dq [115,2] [115] (.hs 179 0 [] 1 0 (a14.map str).length) rfl (nD rfl rfl rfl rfl rfl (sw (path:=[]) (f:=str) (xs:=a11) (ys:=p13) rfl rfl (HT (path:=[]) (f:=str) (xs:=u6.2.2) rfl rfl bM hp13 jW) rfl rfl rfl bM rfl (by decide) iC ha14 rfl xE)) ?_ (Dy rfl (Ee (path:=[]) (f:=str) (xs:=u6.2.2) rfl rfl bM jW rfl))
   refine dk 1 [4] [.hs 179 0 [] 1 0 (a14.map str).length] ?_
   refine de 211 rfl rfl ?_
   obtain rfl:=Option.some.inj h
   exact aj rfl ⟨_,fin (vs:=[.hs 179 0 [] 1 0 (a14.map str).length]) rfl (fK (gt rfl (dK rfl rfl)) et) rfl (qZ rfl (mM rfl) (fh fT)),qE fI⟩
 have r7:∀r',y7=.inl r'→∀st,pA (l_8,s_9) r' st→(pA (l_8,s_9) r) st:=fun r' e st hq=>by rw[hy71 r' e] at hq;exact hq
 replace h:=hy7
 refine sp 24 h rfl (fun h=>?_) fun h=>?_
 ·refine cq 2 [25,26] [.hs 2 0 [] 1 0 (u6.2.2.map str).length,I u6.2.1] 115 ?_
  obtain⟨e15,he15,h⟩:=bS h
  refine oy 131 (.hp 2 0 [] 1 (0+Int.toNat u6.2.1) 0) rfl (ao rfl rfl rfl (iY (f:=str) (xs:=u6.2.2) rfl rfl rfl he15)) ?_
  refine oy 147 (str e15) rfl (bQ rfl (ox (path:=[]) rfl rfl rfl bM (gB (f:=str) (xs:=u6.2.2) he15) rfl rfl rfl)) ?_
  refine cq 4 [31] [B (e15==u6.1)] 195 ?_
  exact rg [0,1,5,31] [196,2] (j7 _ (Option.some.inj h).symm :)
 ·refine cq 8 [31] [B false] 195 ?_
  exact rg [0,1,5,31] [196,2] (j7 _ (Option.some.inj h).symm :)
theorem CZ {G:Go.Ln.Ground}[TabG Tryz.prog G]:aK Tryz.prog G 180 qn:=gT 2 1 bn (Checked.mixed Tryz.checked) Tryz.func180 (fun a r h=>OC a.1 a.2 r h)
def rO:((List ac)×Condition)→List V:=cA (Aq 1 str) (oA aI)
def tG (r:(List ac)):V×List V:=(.usl 1 (r.map str),[.dead])
noncomputable def rG (slf_Ffcm:((List ac)×Condition)→Option (List ac)):Ent:=aW [true,false] rO tG slf_Ffcm
theorem HI (slf_Ffcm:((List ac)×Condition)→Option (List ac)){x}{r}(h:slf_Ffcm x=some r):(rG slf_Ffcm).F (rO x)=some (tG r):=aF (bO (ng bp) (aE bH)) h
noncomputable def xa:Ent:=rG (ay ja)
theorem KS {l_4:List ac}{c_5:Condition}{r}(h:Gm l_4 c_5=some r):xa.F (rO (l_4,c_5))=some (tG r):=HI (ay ja) h
noncomputable def K2:Code:=aD Tryz.f179
noncomputable def E3 (slf_Ffcm:((List ac)×Condition)→Option (List ac)):Env:=bW Tryz.prog [(180,qn),(179,(rG slf_Ffcm))]
def K6 (slf_Ffcm:((List ac)×Condition)→Option (List ac))(x:(List ac)×Condition)(r:(List ac)):St→Prop:=QF (E3 slf_Ffcm) Tryz.f179 [true,false] (rO x) (tG r)
theorem GD (slf_Ffcm:((List ac)×Condition)→Option (List ac))(l_4:List ac)(c_5:Condition):cI (E3 slf_Ffcm) 1 (K6 slf_Ffcm (l_4,c_5)) (cL (cL (cR (cL (cR (cR K2)))))) 0 (jm slf_Ffcm l_4 c_5) (fun u=>(sO 28 [(0,.hs 2 0 [] 1 0 (u.map str).length)] [none,some ⟨0,1,u.map str⟩] 3)) fun x4=>(sO 28 [(0,.hs 2 0 [] 1 0 (x4.2.map str).length),(3,.hp 3 0 [] 4 0 0),(5,I x4.1)] [none,some ⟨0,1,x4.2.map str⟩,some ⟨0,4,[.agg [I c_5.Op,str c_5.Name,I c_5.Day,.isl false (c_5.Parts.map aa)]]⟩] 4):=eC (ve slf_Ffcm l_4 c_5) fun {Q K} hK self ih x4 y h hr hn=>by
 unfold gQ at h
 refine cq 6 [13,15] [I x4.1,.isl false (c_5.Parts.map aa)] 52 ?_
 refine oq 68 (I (len c_5.Parts)) rfl (bT rfl rfl rfl (ce rfl)) ?_
 refine cq 2 [17] [B (decide (x4.1<(len c_5.Parts)))] 84 ?_
 refine sq h (fun h=>?_) fun h=>?_
 ·refine aq 1 ?_
  refine cq 7 [20,22,23] [.hs 2 0 [] 1 0 (x4.2.map str).length,.isl false (c_5.Parts.map aa),I x4.1] 148 ?_
  obtain⟨e5,he5,h⟩:=bS h
  refine oq 164 (.iptr (.agg [I e5.Op,str e5.Name,I e5.Day,.isl false (e5.Parts.map aa)]) 0) rfl (ao rfl rfl rfl (bh rfl rfl (aQ e5) rfl he5)) ?_
  refine cq 1 [25] [.agg [I e5.Op,str e5.Name,I e5.Day,.isl false (e5.Parts.map aa)]] 180 ?_
  obtain⟨r6,hr6,h⟩:=bS h
  refine oq 196 (.hs 180 0 [] 1 0 (r6.map str).length) rfl (bU rfl rfl (cm rfl rfl rfl (ro (oz rfl (jP (path:=[]) rfl rfl bM rfl)) (bX (cj rfl) cN)) (HI slf_Ffcm hr6) (.inr rfl) (qG rfl rfl rfl kF dF) rfl rfl rfl)) ?_
  refine cq 8 [0,5] [.hs 180 0 [] 1 0 (r6.map str).length,I (an (x4.1+1))] 260 ?_
  refine dC ?_
  exact rg [0,3,5] [261,180,3] (ih _ _ h hr hn :)
 ·refine aq 1 ?_
  exact rg [0] [85,2] (hn _ (Option.some.inj h).symm :) (hk:=hK)
theorem OT (slf_Ffcm:((List ac)×Condition)→Option (List ac))(l_4:List ac)(c_5:Condition)(r:(List ac))(h:pS slf_Ffcm l_4 c_5=some r):bl (E3 slf_Ffcm) Tryz.f179 [true,false] 1 (rO (l_4,c_5)) (tG r):=by
 show Run _ _ (K6 slf_Ffcm (l_4,c_5) r) [.code K2] _
 refine rI 28 [(0,.hs 1 0 [] 1 0 (l_4.map str).length),(1,.agg [I c_5.Op,str c_5.Name,I c_5.Day,.isl false (c_5.Parts.map aa)])] [(1,some ⟨0,1,l_4.map str⟩)] 2 ?_
 unfold pS at h
 refine ck 12 [3,8] [] [2] [] [.hp 2 0 [] 4 0 0,B (c_5.Op==2)] [some ⟨0,4,[.agg [I c_5.Op,str c_5.Name,I c_5.Day,.isl false (c_5.Parts.map aa)]]⟩] 82 (by kernel_rfl) ?_
 refine sq h (fun h=>?_) fun h=>?_
 ·refine cq 5 [9,11] [.hs 1 0 [] 1 0 (l_4.map str).length,str c_5.Name] 130 ?_
  obtain⟨r3,hr3,h⟩:=bS h
  refine oq 146 (.hs 130 0 [] 1 0 (r3.map str).length) rfl (bU rfl rfl (cm rfl rfl rfl (ro (oz rfl (jP (path:=[]) rfl rfl bM rfl)) (bX (cj rfl) cN)) (FK hr3) (.inr rfl) (qG rfl rfl rfl kF dF) rfl rfl rfl)) ?_
  refine cq 2 [4] [.hs 130 0 [] 1 0 (r3.map str).length] 162 ?_
  obtain rfl:=Option.some.inj h
  exact aj rfl ⟨_,fin (vs:=[.hs 130 0 [] 1 0 (r3.map str).length]) rfl (fK (gt rfl (dK rfl rfl)) et) rfl (qZ rfl (mM rfl) (fh fT)),qE fI⟩
 ·refine aq 1 ?_
  refine cq 6 [5] [I (0)] 98 ?_
  obtain⟨y7,hy7,hy71,hy72⟩:=bJ h
  refine ci rfl ?_
  refine rg [0,3,5] [99,1,2] (GD slf_Ffcm l_4 c_5 rfl (0,l_4) _ hy7 (fun r' e st hq=>by rw[hy71 r' e] at hq;exact hq) fun u7 hu=>?_)
  replace h:=hy72 u7 hu
  refine cq 5 [4] [.hs 2 0 [] 1 0 (u7.map str).length] 35 ?_
  obtain rfl:=Option.some.inj h
  exact aj rfl ⟨_,fin (vs:=[.hs 2 0 [] 1 0 (u7.map str).length]) rfl (fK (gt rfl (dK rfl rfl)) et) rfl (qZ rfl (mM rfl) (fh fT)),qE fI⟩
theorem JI {G:Go.Ln.Ground}[TabG Tryz.prog G]:aK Tryz.prog G 179 xa:=fE fun slf_Ffcm g_Ffcm=>gT 2 1 (aJ CZ (aJ g_Ffcm bn)) (Checked.mixed Tryz.checked) Tryz.func179 (fun a r h=>OT slf_Ffcm a.1 a.2 r h)
def zm:Contract→List V:=oA aN
def zw (r:(List ac)):V×List V:=(.usl 1 (r.map str),[])
noncomputable def xr:Ent:=aW [false] zm zw fun x=>re x
theorem SI {c_1:Contract}{r}(h:re c_1=some r):xr.F (zm c_1)=some (zw r):=aF (aE bm) h
noncomputable def KQ:Code:=aD Tryz.f116
noncomputable def EC:Env:=bW Tryz.prog [(180,qn),(179,xa)]
def Lr (x:Contract)(r:(List ac)):St→Prop:=QF EC Tryz.f116 [false] (zm x) (zw r)
theorem Hk (c_1:Contract):cI EC 0 (Lr c_1) (cL (cL (cR (cL (cR (cR KQ)))))) 0 (kj c_1) (fun u=>(sT 29 [(3,.hs 1 0 [] 1 0 (u.map str).length)] [⟨0,1,u.map str⟩] 2)) fun x2=>(sT 29 [(1,.hp 1 0 [] 2 0 0),(3,.hs 2 0 [] 1 0 (x2.2.map str).length),(4,I x2.1)] [⟨0,2,[.agg [.isl false (c_1.Parties.map str),.isl false (c_1.Clauses.map ae)]]⟩,⟨0,1,x2.2.map str⟩] 3):=eC (uN c_1) fun {Q K} hK self ih x2 y h hr hn=>by
 unfold je at h
 refine cq 6 [6,8] [I x2.1,.isl false (c_1.Clauses.map ae)] 51 ?_
 refine oq 67 (I (len c_1.Clauses)) rfl (bT rfl rfl rfl (ce rfl)) ?_
 refine cq 2 [10] [B (decide (x2.1<(len c_1.Clauses)))] 83 ?_
 refine sq h (fun h=>?_) fun h=>?_
 ·refine aq 1 ?_
  refine aq 2 ?_
  refine dV [0,0,2,0,14,30,62,127,0,256,0,1792,3840,7936,16383,32767] rfl (by decide +kernel) ?_
  refine dk 1 [13] [.hs 2 0 [] 1 0 (x2.2.map str).length] ?_
  refine dq [1] [] (.hp 1 0 [] 2 0 1) rfl (aV rfl rfl rfl) ?_
  refine dq [1] [] (.isl false (c_1.Clauses.map ae)) rfl (bQ rfl rfl) ?_
  refine dk 1 [16] [I x2.1] ?_
  obtain⟨e3,he3,h⟩:=bS h
  refine dq [] [] (.iptr (.agg [str e3.Id,I e3.Kind,I e3.Party,str e3.Action,I e3.Other,I e3.Amount,I e3.When.Op,str e3.When.Name,I e3.When.Day,.isl false (e3.When.Parts.map aa),I e3.Within,str e3.Repair]) 0) rfl (ao rfl rfl rfl (bh rfl rfl rfl rfl he3)) ?_
  refine dq [] [] (.iptr (.agg [str e3.Id,I e3.Kind,I e3.Party,str e3.Action,I e3.Other,I e3.Amount,I e3.When.Op,str e3.When.Name,I e3.When.Day,.isl false (e3.When.Parts.map aa),I e3.Within,str e3.Repair]) 3) rfl (aV rfl rfl rfl) ?_
  refine dq [] [] (str e3.Action) rfl (bQ rfl rfl) ?_
  obtain⟨r4,hr4,h⟩:=bS h
  refine dq [2] [2] (.hs 195 0 [] 1 0 (r4.map str).length) rfl (bU rfl rfl (cm rfl rfl rfl (ro (oz rfl (jP (path:=[]) rfl rfl bM rfl)) (bX (cj rfl) cN)) (FK hr4) (.inr rfl) (qG rfl rfl rfl kF dF) rfl rfl rfl)) ?_ (cC rfl rfl rfl rfl (ro (oz rfl (jP (path:=[]) rfl rfl bM rfl)) (bX (cj rfl) cN)) (FK hr4) (.inr rfl) rfl)
  refine dq [1] [] (.hp 1 0 [] 2 0 1) rfl (aV rfl rfl rfl) ?_
  refine dq [1] [] (.isl false (c_1.Clauses.map ae)) rfl (bQ rfl rfl) ?_
  refine dk 1 [23] [I x2.1] ?_
  obtain⟨e5,he5,h⟩:=bS h
  refine dq [] [] (.iptr (.agg [str e5.Id,I e5.Kind,I e5.Party,str e5.Action,I e5.Other,I e5.Amount,I e5.When.Op,str e5.When.Name,I e5.When.Day,.isl false (e5.When.Parts.map aa),I e5.Within,str e5.Repair]) 0) rfl (ao rfl rfl rfl (bh rfl rfl rfl rfl he5)) ?_
  refine dq [] [] (.iptr (.agg [str e5.Id,I e5.Kind,I e5.Party,str e5.Action,I e5.Other,I e5.Amount,I e5.When.Op,str e5.When.Name,I e5.When.Day,.isl false (e5.When.Parts.map aa),I e5.Within,str e5.Repair]) 6) rfl (aV rfl rfl rfl) ?_
  refine dq [] [] (.agg [I e5.When.Op,str e5.When.Name,I e5.When.Day,.isl false (e5.When.Parts.map aa)]) rfl (bQ rfl rfl) ?_
  obtain⟨r6,hr6,h⟩:=bS h
  refine dq [195] [195] (.hs 307 0 [] 1 0 (r6.map str).length) rfl (bU rfl rfl (cm rfl rfl rfl (ro (oz rfl (jP (path:=[]) rfl rfl bM rfl)) (bX (cj rfl) cN)) (KS hr6) (.inr rfl) (qG rfl rfl rfl kF dF) rfl rfl rfl)) ?_ (cC rfl rfl rfl rfl (ro (oz rfl (jP (path:=[]) rfl rfl bM rfl)) (bX (cj rfl) cN)) (KS hr6) (.inr rfl) rfl)
  refine dk 1 [3] [.hs 307 0 [] 1 0 (r6.map str).length] ?_
  refine de 339 rfl rfl ?_
  refine cq 6 [4] [I (an (x2.1+1))] 387 ?_
  refine dC ?_
  exact rf [1,3,4] [1,307] (ih _ _ h hr hn :)
 ·refine aq 1 ?_
  exact rf [3] [2] (hn _ (Option.some.inj h).symm :) (hk:=hK)
theorem OW (c_1:Contract)(r:(List ac))(h:re c_1=some r):bl EC Tryz.f116 [false] 0 (zm c_1) (zw r):=by
 show Run _ _ (Lr c_1 r) [.code KQ] _
 refine rI 29 [(0,.agg [.isl false (c_1.Parties.map str),.isl false (c_1.Clauses.map ae)])] [] 1 ?_
 unfold re at h
 refine ck 7 [1] [] [1] [] [.hp 1 0 [] 2 0 0] [some ⟨0,2,[.agg [.isl false (c_1.Parties.map str),.isl false (c_1.Clauses.map ae)]]⟩] 33 (by kernel_rfl) ?_
 refine oq 49 (.hs 33 0 [] 1 0 0) rfl (fO rfl (qm (f:=I) (xs:=[]) (z:=str ([])) (es:=[]) (ws:=[]) rfl rfl rfl (by decide) rfl (d8 rfl) rfl)) ?_
 refine cq 8 [3,4] [.hs 33 0 [] 1 0 0,I (0)] 81 ?_
 obtain⟨y7,hy7,hy71,hy72⟩:=bJ h
 refine ci rfl ?_
 refine rf [1,3,4] [1,33] (Hk c_1 rfl (0,[]) _ hy7 (fun r' e st hq=>by rw[hy71 r' e] at hq;exact hq) fun u7 hu=>?_)
 replace h:=hy72 u7 hu
 refine cq 5 [2] [.hs 1 0 [] 1 0 (u7.map str).length] 34 ?_
 obtain rfl:=Option.some.inj h
 exact aj rfl ⟨_,fin (vs:=[.hs 1 0 [] 1 0 (u7.map str).length]) rfl (fK (gt rfl (dK rfl rfl)) et) rfl (fh fT),fI⟩
theorem Kw {G:Go.Ln.Ground}[TabG Tryz.prog G]:aK Tryz.prog G 116 xr:=gT 1 0 (aJ CZ (aJ JI bn)) (Checked.mixed Tryz.checked) Tryz.func116 (fun a r h=>OW a r h)
def AF:Contract→List V:=oA aN
def xY (r:Bool):V×List V:=(B r,[])
noncomputable def wd:Ent:=aW [false] AF xY fun x=>ww x
theorem Sh {c_1:Contract}{r}(h:ww c_1=some r):wd.F (AF c_1)=some (xY r):=aF (aE bm) h
noncomputable def Ap:Code:=aD Tryz.f72
noncomputable abbrev tN:Code:=cL (cL (cR (cL (cR (cR Ap)))))
noncomputable def tA:Env:=bW Tryz.prog [(73,em),(140,qP),(141,xu),(116,xr),(139,xk)]
def pR (x:Contract)(r:Bool):St→Prop:=QF tA Tryz.f72 [false] (AF x) (xY r)
theorem G1 (c_1:Contract):cI tA 0 (pR c_1) tN 0 (js c_1) (fun u=>(sT 41 [(1,.hp 1 0 [] 2 0 0)] [⟨0,2,[.agg [.isl false (c_1.Parties.map str),.isl false (c_1.Clauses.map ae)]]⟩] 2)) fun x4=>(sT 41 [(1,.hp 1 0 [] 2 0 0),(3,I x4)] [⟨0,2,[.agg [.isl false (c_1.Parties.map str),.isl false (c_1.Clauses.map ae)]]⟩] 2):=eC (vf c_1) fun {Q K} hK self ih x4 y h hr hn=>by
 unfold iL at h
 refine cq 6 [14,16] [I x4,.isl false (c_1.Clauses.map ae)] 50 ?_
 refine oq 66 (I (len c_1.Clauses)) rfl (bT rfl rfl rfl (ce rfl)) ?_
 refine cq 2 [18] [B (decide (x4<(len c_1.Clauses)))] 82 ?_
 refine sq h (fun h=>?_) fun h=>?_
 ·refine aq 1 ?_
  refine aq 3 ?_
  refine dV [0,0,2,0,14,30,62,127,0,511,1023,2047,2047,8191,16383,32767] rfl (by decide +kernel) ?_
  refine dq [1] [] (.agg [.isl false (c_1.Parties.map str),.isl false (c_1.Clauses.map ae)]) rfl (bQ rfl rfl) ?_
  refine dq [1] [] (.hp 1 0 [] 2 0 1) rfl (aV rfl rfl rfl) ?_
  refine dq [1] [] (.isl false (c_1.Clauses.map ae)) rfl (bQ rfl rfl) ?_
  refine dk 1 [24] [I x4] ?_
  obtain⟨e5,he5,h⟩:=bS h
  refine dq [] [] (.iptr (.agg [str e5.Id,I e5.Kind,I e5.Party,str e5.Action,I e5.Other,I e5.Amount,I e5.When.Op,str e5.When.Name,I e5.When.Day,.isl false (e5.When.Parts.map aa),I e5.Within,str e5.Repair]) 0) rfl (ao rfl rfl rfl (bh rfl rfl rfl rfl he5)) ?_
  refine dq [] [] (.iptr (.agg [str e5.Id,I e5.Kind,I e5.Party,str e5.Action,I e5.Other,I e5.Amount,I e5.When.Op,str e5.When.Name,I e5.When.Day,.isl false (e5.When.Parts.map aa),I e5.Within,str e5.Repair]) 0) rfl (aV rfl rfl rfl) ?_
  refine dq [] [] (str e5.Id) rfl (bQ rfl rfl) ?_
  obtain⟨r6,hr6,h⟩:=bS h
  refine dq [] [] (I r6) rfl (cP (ET hr6)) ?_ (cC rfl rfl rfl rfl (bX (cj rfl) (bX (cj rfl) cN)) (ET hr6) (.inr rfl) rfl)
  refine dk 3 [31,30,29] [B (r6 != x4),B (r6 != x4),I x4] ?_
  obtain⟨y7,hy7,hy71,hy72⟩:=bL h
  have j7:∀u7,y7=.inr u7→Run tA 0 Q (.code (cR (cL (cL (cR tN))))::.blk 1::.code (cR (cR tN))::.lp tN::.blk 0::K) (sT 41 [(1,.hp 1 0 [] 2 0 0),(3,I x4),(36,B u7)] [⟨0,2,[.agg [.isl false (c_1.Parties.map str),.isl false (c_1.Clauses.map ae)]]⟩] 2):=by
   intro u7 hu
   replace h:=hy72 u7 hu
   refine sq h (fun h=>?_) fun h=>?_
   ·refine cq 4 [2] [B false] 18 ?_
    exact aj rfl (hr _ (Option.some.inj h).symm _ (qp [B false]))
   ·refine aq 1 ?_
    refine cq 6 [3] [I (an (x4+1))] 50 ?_
    refine dC ?_
    exact rf [1,3] [1] (ih _ _ h hr hn :)
  have r7:∀r',y7=.inl r'→∀st,pR c_1 r' st→Q st:=fun r' e st hq=>hr r' (hy71 r' e) st hq
  replace h:=hy7
  refine sp 31 h rfl (fun h=>?_) fun h=>?_
  ·refine dk 5 [36,35,34,33,32] [B true,.und,.und,.und,.und] ?_
   refine de 338 rfl rfl ?_
   exact rf [1,3,36] [1] (j7 _ (Option.some.inj h).symm :)
  ·refine dy [1] [] (.agg [.isl false (c_1.Parties.map str),.isl false (c_1.Clauses.map ae)]) rfl (bQ rfl rfl) ?_
   refine dk 1 [33] [I x4] ?_
   obtain⟨r8,hr8,h⟩:=bS h
   refine dy [] [] (B r8) rfl (cP (JW hr8)) ?_ (cC rfl rfl rfl rfl (bX (cj rfl) (bX (cj rfl) cN)) (JW hr8) (.inr rfl) rfl)
   refine dk 2 [36,35] [B (!r8),B (!r8)] ?_
   refine de 338 rfl rfl ?_
   exact rf [1,3,36] [1] (j7 _ (Option.some.inj h).symm :)
 ·refine aq 1 ?_
  exact rf [1] [1] (hn _ (Option.some.inj h).symm :) (hk:=hK)
theorem O1 (c_1:Contract)(r:Bool)(h:ww c_1=some r):bl tA Tryz.f72 [false] 0 (AF c_1) (xY r):=by
 show Run _ _ (pR c_1 r) [.code Ap] _
 refine rI 41 [(0,.agg [.isl false (c_1.Parties.map str),.isl false (c_1.Clauses.map ae)])] [] 1 ?_
 unfold ww at h
 refine ck 10 [1,5] [] [1] [] [.hp 1 0 [] 2 0 0,.isl false (c_1.Clauses.map ae)] [some ⟨0,2,[.agg [.isl false (c_1.Parties.map str),.isl false (c_1.Clauses.map ae)]]⟩] 65 (by kernel_rfl) ?_
 refine oq 81 (I (len c_1.Clauses)) rfl (bT rfl rfl rfl (ce rfl)) ?_
 obtain⟨r2,hr2,h⟩:=bS h
 refine oq 97 (B r2) rfl (cP (eb hr2)) ?_
 refine cq 2 [9] [B (!r2)] 129 ?_
 obtain⟨y3,hy3,hy31,hy32⟩:=bJ h
 have j3:∀u3,y3=.inr u3→Run tA 0 (pR c_1 r) (.code (cR (cL (cR Ap)))::.code (cR (cR Ap))::[]) (sT 41 [(1,.hp 1 0 [] 2 0 0),(13,B u3)] [⟨0,2,[.agg [.isl false (c_1.Parties.map str),.isl false (c_1.Clauses.map ae)]]⟩] 2):=by
  intro u3 hu
  replace h:=hy32 u3 hu
  refine sq h (fun h=>?_) fun h=>?_
  ·refine cq 4 [2] [B false] 18 ?_
   obtain rfl:=Option.some.inj h
   exact aj rfl (qp [B false])
  ·refine aq 1 ?_
   refine cq 6 [3] [I (0)] 18 ?_
   obtain⟨y9,hy9,hy91,hy92⟩:=bJ h
   refine ci rfl ?_
   refine rf [1,3] [1] (G1 c_1 rfl 0 _ hy9 (fun r' e st hq=>by rw[hy91 r' e] at hq;exact hq) fun u9 hu=>?_)
   replace h:=hy92 u9 hu
   refine cq 3 [37] [.agg [.isl false (c_1.Parties.map str),.isl false (c_1.Clauses.map ae)]] 18 ?_
   obtain⟨r10,hr10,h⟩:=bS h
   refine oq 34 (.hs 18 0 [] 1 0 (r10.map str).length) rfl (cP (SI hr10)) ?_
   refine oq 50 (I (len r10)) rfl (bT rfl rfl rfl (uA (f:=str) (xs:=r10) rfl rfl)) ?_
   refine cq 3 [2] [B (decide ((len r10)≤16))] 82 ?_
   obtain rfl:=Option.some.inj h
   exact aj rfl (qp [B (decide ((len r10)≤16))])
 have r3:∀r',y3=.inl r'→∀st,pR c_1 r' st→(pR c_1 r) st:=fun r' e st hq=>by rw[hy31 r' e] at hq;exact hq
 replace h:=hy3
 refine sp 9 h rfl (fun h=>?_) fun h=>?_
 ·refine cq 5 [13] [B true] 193 ?_
  exact rf [1,13] [1] (j3 _ (Option.some.inj h).symm :)
 ·refine cq 1 [10] [.agg [.isl false (c_1.Parties.map str),.isl false (c_1.Clauses.map ae)]] 145 ?_
  obtain⟨r11,hr11,h⟩:=bS h
  refine oy 161 (B r11) rfl (cP (RQ hr11)) ?_
  refine cq 3 [13] [B (!r11)] 193 ?_
  exact rf [1,13] [1] (j3 _ (Option.some.inj h).symm :)
theorem KY {G:Go.Ln.Ground}[TabG Tryz.prog G]:aK Tryz.prog G 72 wd:=gT 1 0 (aJ fz (aJ CC (aJ Lo (aJ Kw (aJ Mj bn))))) (Checked.mixed Tryz.checked) Tryz.func72 (fun a r h=>O1 a r h)
def sE:Int→List V:=oA I
def tp (r:ac):V×List V:=(str r,[])
noncomputable def sW (slf_Ffbz:Int→Option ac):Ent:=aW [false] sE tp slf_Ffbz
theorem ur (slf_Ffbz:Int→Option ac){x}{r}(h:slf_Ffbz x=some r):(sW slf_Ffbz).F (sE x)=some (tp r):=aF (aE bK) h
noncomputable def lE:Ent:=sW (ay nI)
theorem nA {n_1:Int}{r}(h:qy n_1=some r):lE.F (sE n_1)=some (tp r):=ur (ay nI) h
noncomputable def Rv:Code:=aD Tryz.f163
noncomputable def K9 (slf_Ffbz:Int→Option ac):Env:=bW Tryz.prog [(163,(sW slf_Ffbz))]
def Rf (slf_Ffbz:Int→Option ac)(x:Int)(r:ac):St→Prop:=QF (K9 slf_Ffbz) Tryz.f163 [false] (sE x) (tp r)
theorem Ol (slf_Ffbz:Int→Option ac)(n_1:Int)(r:ac)(h:qg slf_Ffbz n_1=some r):bl (K9 slf_Ffbz) Tryz.f163 [false] 0 (sE n_1) (tp r):=by
 show Run _ _ (Rf slf_Ffbz n_1 r) [.code Rv] _
 refine rI 25 [(0,I n_1)] [] 1 ?_
 unfold qg at h
 refine cq 10 [4] [B (decide (n_1<0))] 49 ?_
 refine sq h (fun h=>?_) fun h=>?_
 ·refine cq 4 [6] [I (an (0 - n_1))] 81 ?_
  obtain⟨r2,hr2,h⟩:=bS h
  refine oq 97 (str r2) rfl (bU rfl rfl (cm rfl rfl rfl (bX (cj rfl) cN) (ur slf_Ffbz hr2) (.inr rfl) dF rfl rfl rfl)) ?_
  obtain⟨s3,hs3,h⟩:=bS h
  refine oq 113 (str s3) rfl (aG rfl rfl (aH hs3)) ?_
  refine cq 2 [2] [str s3] 129 ?_
  obtain rfl:=Option.some.inj h
  exact aj rfl (qp [str s3])
 ·refine aq 1 ?_
  refine cq 6 [10] [B (decide (n_1<10))] 81 ?_
  refine sq h (fun h=>?_) fun h=>?_
  ·refine cq 5 [11,13] [I n_1,I (an (n_1+1))] 129 ?_
   obtain⟨s4,hs4,h⟩:=bS h
   refine oq 145 (str s4) rfl (fy rfl rfl rfl rfl (sV rfl rfl rfl hs4)) ?_
   refine cq 2 [2] [str s4] 161 ?_
   obtain rfl:=Option.some.inj h
   exact aj rfl (qp [str s4])
  ·refine aq 1 ?_
   refine aq 1 ?_
   refine dV [0,1,3,0,8,0,32,96,248,511,1023] rfl (by decide +kernel) ?_
   refine dk 2 [16,15] [I (an (n_1.tdiv 10)),I n_1] ?_
   obtain⟨r5,hr5,h⟩:=bS h
   refine dq [] [] (str r5) rfl (bU rfl rfl (cm rfl rfl rfl (bX (cj rfl) cN) (ur slf_Ffbz hr5) (.inr rfl) dF rfl rfl rfl)) ?_ (cC rfl rfl rfl rfl (bX (cj rfl) cN) (ur slf_Ffbz hr5) (.inr rfl) rfl)
   refine dk 5 [22,21,20,19,18] [I (an ((n_1.tmod 10)+1)),I (n_1.tmod 10),I n_1,I (n_1.tmod 10),I n_1] ?_
   obtain⟨s6,hs6,h⟩:=bS h
   refine dq [] [] (str s6) rfl (fy rfl rfl rfl rfl (sV rfl rfl rfl hs6)) ?_
   obtain⟨s7,hs7,h⟩:=bS h
   refine dq [] [] (str s7) rfl (aG rfl rfl (aH hs7)) ?_
   refine dk 1 [2] [str s7] ?_
   refine de 257 rfl rfl ?_
   obtain rfl:=Option.some.inj h
   exact aj rfl (qp [str s7])
theorem oc {G:Go.Ln.Ground}[TabG Tryz.prog G]:aK Tryz.prog G 163 lE:=fE fun slf_Ffbz g_Ffbz=>gT 1 0 (aJ g_Ffbz bn) (Checked.mixed Tryz.checked) Tryz.func163 (fun a r h=>Ol slf_Ffbz a r h)
def Ay:Int→List V:=oA I
def xS (r:ac):V×List V:=(str r,[])
noncomputable def wx:Ent:=aW [false] Ay xS fun x=>xD x
theorem RF {x_1:Int}{r}(h:xD x_1=some r):wx.F (Ay x_1)=some (xS r):=aF (aE bK) h
noncomputable def FV:Code:=aD Tryz.f162
noncomputable def xW:Env:=bW Tryz.prog [(163,lE)]
def te (x:Int)(r:ac):St→Prop:=QF xW Tryz.f162 [false] (Ay x) (xS r)
theorem ML (x_1:Int)(r:ac)(h:xD x_1=some r):bl xW Tryz.f162 [false] 0 (Ay x_1) (xS r):=by
 show Run _ _ (te x_1 r) [.code FV] _
 refine rI 24 [(0,I x_1)] [] 1 ?_
 unfold xD at h
 refine cq 14 [3,5] [str ([]:ac),B (decide (x_1<0))] 65 ?_
 obtain⟨u2,hu2,h⟩:=lJ h
 have j2:Run xW 0 (te x_1 r) (.code (cR (cR (cR FV)))::[]) (sT 24 [(0,I u2.1),(3,str u2.2)] [] 1):=by
  refine cq 5 [8,10] [str u2.2,I (an (u2.1.tdiv 100))] 49 ?_
  obtain⟨r3,hr3,h⟩:=bS h
  refine oq 65 (str r3) rfl (cP (nA hr3)) ?_
  obtain⟨s4,hs4,h⟩:=bS h
  refine oq 81 (str s4) rfl (aG rfl rfl (aH hs4)) ?_
  obtain⟨s5,hs5,h⟩:=bS h
  refine oq 97 (str s5) rfl (aG rfl rfl (aH hs5)) ?_
  refine cq 9 [3,16] [str s5,B (decide ((u2.1.tmod 100)<10))] 161 ?_
  obtain⟨y6,hy6,hy61,hy62⟩:=bJ h
  have j6:∀u6,y6=.inr u6→Run xW 0 (te x_1 r) (.code (cR (cR (cR (cR (cR FV)))))::[]) (sT 24 [(0,I u2.1),(3,str u6)] [] 1):=by
   intro u6 hu
   replace h:=hy62 u6 hu
   refine cq 5 [19,21] [str u6,I (u2.1.tmod 100)] 49 ?_
   obtain⟨r7,hr7,h⟩:=bS h
   refine oq 65 (str r7) rfl (cP (nA hr7)) ?_
   obtain⟨s8,hs8,h⟩:=bS h
   refine oq 81 (str s8) rfl (aG rfl rfl (aH hs8)) ?_
   refine cq 2 [2] [str s8] 97 ?_
   obtain rfl:=Option.some.inj h
   exact aj rfl (qp [str s8])
  have r6:∀r',y6=.inl r'→∀st,te x_1 r' st→(te x_1 r) st:=fun r' e st hq=>by rw[hy61 r' e] at hq;exact hq
  replace h:=hy6
  refine sq h (fun h=>?_) fun h=>?_
  ·refine cq 2 [17] [str s5] 177 ?_
   obtain⟨s9,hs9,h⟩:=bS h
   refine oq 193 (str s9) rfl (aG rfl rfl (aH hs9)) ?_
   refine cq 2 [3] [str s9] 209 ?_
   exact rf [0,3] [] (j6 _ (Option.some.inj h).symm :)
  ·refine aq 1 ?_
   exact rf [0,3] [] (j6 _ (Option.some.inj h).symm :)
 replace h:=hu2
 clear hu2
 refine ma h rfl rfl (fun h=>?_) fun h=>?_
 ·refine cq 9 [0,3] [I (an (0 - x_1)),str ([45]:ac)] 129 ?_
  subst h
  exact rf [0,3] [] (j2 :)
 ·refine aq 1 ?_
  subst h
  exact rf [0,3] [] (j2 :)
theorem Kn {G:Go.Ln.Ground}[TabG Tryz.prog G]:aK Tryz.prog G 162 wx:=gT 1 0 (aJ oc bn) (Checked.mixed Tryz.checked) Tryz.func162 (fun a r h=>ML a r h)
def AH:(Int×Int)→List V:=cA I (oA I)
def zA (r:Int):V×List V:=(I r,[])
noncomputable def wb:Ent:=aW [false,false] AH zA fun x=>wa x.1 x.2
theorem Si {year_1:Int}{month_2:Int}{r}(h:wa year_1 month_2=some r):wb.F (AH (year_1,month_2))=some (zA r):=aF (bO bK (aE bK)) h
noncomputable def nP:Code:=aD Tryz.f229
noncomputable def sM:Env:=bW Tryz.prog []
def Ah (x:Int×Int)(r:Int):St→Prop:=QF sM Tryz.f229 [false,false] (AH x) (zA r)
theorem NZ (year_1:Int)(month_2:Int)(r:Int)(h:wa year_1 month_2=some r):bl sM Tryz.f229 [false,false] 0 (AH (year_1,month_2)) (zA r):=by
 show Run _ _ (Ah (year_1,month_2) r) [.code nP] _
 refine rI 16 [(0,I year_1),(1,I month_2)] [] 1 ?_
 unfold wa at h
 refine cq 16 [5,6] [I month_2,B (month_2==4)] 65 ?_
 obtain⟨u3,hu3,h⟩:=lJ h
 have j3:Run sM 0 (Ah (year_1,month_2) r) (.code (cR (cL (cR (cL (cR nP)))))::.blk 0::.code (cR (cR nP))::[]) (sT 16 [(0,I year_1),(5,I month_2),(6,B u3)] [] 1):=by
  refine sq h (fun h=>?_) fun h=>?_
  ·refine cq 4 [4] [I (30)] 17 ?_
   obtain rfl:=Option.some.inj h
   exact aj rfl (qp [I (30)])
  ·refine cq 5 [11] [B (month_2==2)] 33 ?_
   refine sq h (fun h=>?_) fun h=>?_
   ·refine cq 7 [15] [B ((year_1.tmod 4)==0)] 81 ?_
    refine sq h (fun h=>?_) fun h=>?_
    ·refine cq 4 [4] [I (29)] 97 ?_
     obtain rfl:=Option.some.inj h
     exact aj rfl (qp [I (29)])
    ·refine aq 1 ?_
     refine cq 4 [4] [I (28)] 97 ?_
     obtain rfl:=Option.some.inj h
     exact aj rfl (qp [I (28)])
   ·refine aq 1 ?_
    refine cq 5 [4] [I (31)] 49 ?_
    obtain rfl:=Option.some.inj h
    exact aj rfl (qp [I (31)])
 replace h:=hu3
 clear hu3
 refine ma h rfl rfl (fun h=>?_) fun h=>?_
 ·refine aq 1 ?_
  subst h
  exact rf [0,5,6] [] (j3 :)
 ·refine cq 5 [6] [B (month_2==6)] 97 ?_
  obtain⟨u4,hu4,h⟩:=lJ h
  have j4:Run sM 0 (Ah (year_1,month_2) r) (.code (cR (cL (cR (cL (cR nP)))))::.blk 0::.code (cR (cR nP))::[]) (sT 16 [(0,I year_1),(5,I month_2),(6,B u4)] [] 1):=by
   subst h
   exact rf [0,5,6] [] (j3 :)
  replace h:=hu4
  clear hu4
  refine ma h rfl rfl (fun h=>?_) fun h=>?_
  ·refine aq 1 ?_
   subst h
   exact rf [0,5,6] [] (j4 :)
  ·refine cq 5 [6] [B (month_2==9)] 129 ?_
   obtain⟨u5,hu5,h⟩:=lJ h
   have j5:Run sM 0 (Ah (year_1,month_2) r) (.code (cR (cL (cR (cL (cR nP)))))::.blk 0::.code (cR (cR nP))::[]) (sT 16 [(0,I year_1),(5,I month_2),(6,B u5)] [] 1):=by
    subst h
    exact rf [0,5,6] [] (j4 :)
   replace h:=hu5
   clear hu5
   refine ma h rfl rfl (fun h=>?_) fun h=>?_
   ·refine aq 1 ?_
    subst h
    exact rf [0,5,6] [] (j5 :)
   ·refine cq 4 [6] [B (month_2==11)] 161 ?_
    subst h
    exact rf [0,5,6] [] (j5 :)
theorem MC {G:Go.Ln.Ground}[TabG Tryz.prog G]:aK Tryz.prog G 229 wb:=gT 2 0 bn (Checked.mixed Tryz.checked) Tryz.func229 (fun a r h=>NZ a.1 a.2 r h)
def yF:Date→List V:=oA eL
def yY (r:Int):V×List V:=(I r,[])
noncomputable def vQ:Ent:=aW [false] yF yY fun x=>qN x
theorem Em {d_1:Date}{r}(h:qN d_1=some r):vQ.F (yF d_1)=some (yY r):=aF (aE Fs) h
noncomputable def Ky:Code:=aD Tryz.f204
noncomputable def Fv:Env:=bW Tryz.prog [(229,wb)]
def Mf (x:Date)(r:Int):St→Prop:=QF Fv Tryz.f204 [false] (yF x) (yY r)
theorem G3 (d_1:Date):cI Fv 0 (Mf d_1) (cL (cL (cR (cL (cR (cR (cR Ky))))))) 0 (pU d_1) (fun u=>(sT 32 [(1,.hp 1 0 [] 3 0 0),(4,I u)] [⟨0,3,[eL d_1]⟩] 2)) fun x2=>(sT 32 [(1,.hp 1 0 [] 3 0 0),(4,I x2.1),(5,I x2.2)] [⟨0,3,[eL d_1]⟩] 2):=eC (vA d_1) fun {Q K} hK self ih x2 y h hr hn=>by
 unfold iO at h
 refine cq 8 [18] [B (decide (x2.2<d_1.Month))] 66 ?_
 refine sq h (fun h=>?_) fun h=>?_
 ·refine aq 1 ?_
  refine cq 7 [21,23,24] [I x2.1,I d_1.Year,I x2.2] 130 ?_
  obtain⟨r3,hr3,h⟩:=bS h
  refine oq 146 (I r3) rfl (cP (Si hr3)) ?_
  refine cq 9 [4,5] [I (an (x2.1+r3)),I (an (x2.2+1))] 226 ?_
  refine dC ?_
  exact rf [1,4,5] [1] (ih _ _ h hr hn :)
 ·refine aq 1 ?_
  exact rf [1,4] [1] (hn _ (Option.some.inj h).symm :) (hk:=hK)
theorem Ow (d_1:Date)(r:Int)(h:qN d_1=some r):bl Fv Tryz.f204 [false] 0 (yF d_1) (yY r):=by
 show Run _ _ (Mf d_1 r) [.code Ky] _
 refine rI 32 [(0,eL d_1)] [] 1 ?_
 unfold qN at h
 refine ck 28 [1,4,5] [] [1] [] [.hp 1 0 [] 3 0 0,I (an ((an (365*(an (d_1.Year - 2000))))+(an ((an ((an (d_1.Year - 2000))+3)).tdiv 4)))),I (1)] [some ⟨0,3,[eL d_1]⟩] 225 (by kernel_rfl) ?_
 obtain⟨y4,hy4,hy41,hy42⟩:=bJ h
 refine ci rfl ?_
 refine rf [1,4,5] [1] (G3 d_1 rfl ((an ((an (365*(an (d_1.Year - 2000))))+(an ((an ((an (d_1.Year - 2000))+3)).tdiv 4)))),1) _ hy4 (fun r' e st hq=>by rw[hy41 r' e] at hq;exact hq) fun u4 hu=>?_)
 replace h:=hy42 u4 hu
 refine cq 9 [2] [I (an ((an (u4+d_1.Day)) - 1))] 98 ?_
 obtain rfl:=Option.some.inj h
 exact aj rfl (qp [I (an ((an (u4+d_1.Day)) - 1))])
theorem Mx {G:Go.Ln.Ground}[TabG Tryz.prog G]:aK Tryz.prog G 204 vQ:=gT 1 0 (aJ MC bn) (Checked.mixed Tryz.checked) Tryz.func204 (fun a r h=>Ow a r h)
def zx:Int→List V:=oA I
def zO (r:Date):V×List V:=(eL r,[])
noncomputable def xC:Ent:=aW [false] zx zO fun x=>qO x
theorem Rh {day_1:Int}{r}(h:qO day_1=some r):xC.F (zx day_1)=some (zO r):=aF (aE bK) h
noncomputable def py:Code:=aD Tryz.f168
noncomputable abbrev ut:Code:=cL (cL (cL (cR (cR (cR py)))))
noncomputable def pk:Env:=bW Tryz.prog [(204,vQ)]
def tn (x:Int)(r:Date):St→Prop:=QF pk Tryz.f168 [false] (zx x) (zO r)
theorem G6 (day_1:Int):cI pk 0 (tn day_1) (cL (cL (cL (cR (cR py))))) 0 (pI day_1) (fun u=>(sT 46 [(0,I day_1),(2,.hp 1 0 [] 3 0 0),(3,.hp 2 0 [] 3 0 0)] [⟨0,3,[.agg [I (0),I (0),I (0)]]⟩,⟨0,3,[.agg [I u,I (1),I (1)]]⟩] 3)) fun x2=>(sT 46 [(0,I day_1),(2,.hp 1 0 [] 3 0 0),(3,.hp 2 0 [] 3 0 0)] [⟨0,3,[.agg [I (0),I (0),I (0)]]⟩,⟨0,3,[.agg [I x2,I (1),I (1)]]⟩] 3):=eC (vb day_1) fun {Q K} hK self ih x2 y h hr hn=>by
 unfold iE at h
 refine cq 7 [8] [B (decide (x2<2099))] 67 ?_
 obtain⟨y3,hy3,hy31,hy32⟩:=bL h
 have j3:∀u3,y3=.inr u3→Run pk 0 Q (.code (cR (cL (cL (cL (cL (cR (cR py)))))))::.code (cR (cL (cL (cL (cR (cR py))))))::.lp (cL (cL (cL (cR (cR py)))))::.blk 0::K) (sT 46 [(0,I day_1),(2,.hp 1 0 [] 3 0 0),(3,.hp 2 0 [] 3 0 0),(16,B u3)] [⟨0,3,[.agg [I (0),I (0),I (0)]]⟩,⟨0,3,[.agg [I x2,I (1),I (1)]]⟩] 3):=by
  intro u3 hu
  replace h:=hy32 u3 hu
  refine sq h (fun h=>?_) fun h=>?_
  ·refine aq 1 ?_
   refine ck 9 [] [] [2] [] [] [some ⟨0,3,[.agg [I (an (x2+1)),I (1),I (1)]]⟩] 83 (by kernel_rfl) ?_
   refine dC ?_
   exact rf [0,2,3] [1,2] (ih _ _ h hr hn :)
  ·refine aq 1 ?_
   exact rf [0,2,3] [1,2] (hn _ (Option.some.inj h).symm :) (hk:=hK)
 have r3:∀r',y3=.inl r'→∀st,tn day_1 r' st→Q st:=fun r' e st hq=>hr r' (hy31 r' e) st hq
 replace h:=hy3
 refine sp 8 h rfl (fun h=>?_) fun h=>?_
 ·refine cq 4 [12] [.agg [I (an (x2+1)),I (1),I (1)]] 131 ?_
  obtain⟨r4,hr4,h⟩:=bS h
  refine oy 147 (I r4) rfl (cP (Em hr4)) ?_
  refine cq 4 [16] [B (decide (r4≤day_1))] 195 ?_
  exact rf [0,2,3,16] [1,2] (j3 _ (Option.some.inj h).symm :)
 ·refine cq 9 [16] [B false] 195 ?_
  exact rf [0,2,3,16] [1,2] (j3 _ (Option.some.inj h).symm :)
theorem GF (day_1:Int)(u5:Int):cI pk 0 (tn day_1) ut 2 (pE day_1 u5) (fun u=>(sT 46 [(0,I day_1),(2,.hp 1 0 [] 3 0 0),(3,.hp 2 0 [] 3 0 0)] [⟨0,3,[.agg [I (0),I (0),I (0)]]⟩,⟨0,3,[.agg [I u5,I u,I (1)]]⟩] 3)) fun x6=>(sT 46 [(0,I day_1),(2,.hp 1 0 [] 3 0 0),(3,.hp 2 0 [] 3 0 0)] [⟨0,3,[.agg [I (0),I (0),I (0)]]⟩,⟨0,3,[.agg [I u5,I x6,I (1)]]⟩] 3):=eC (va day_1 u5) fun {Q K} hK self ih x6 y h hr hn=>by
 unfold iV at h
 refine cq 7 [24] [B (decide (x6<12))] 67 ?_
 obtain⟨y7,hy7,hy71,hy72⟩:=bL h
 have j7:∀u7,y7=.inr u7→Run pk 0 Q (.code (cR (cL ut))::.code (cR ut)::.lp ut::.blk 2::K) (sT 46 [(0,I day_1),(2,.hp 1 0 [] 3 0 0),(3,.hp 2 0 [] 3 0 0),(34,B u7)] [⟨0,3,[.agg [I (0),I (0),I (0)]]⟩,⟨0,3,[.agg [I u5,I x6,I (1)]]⟩] 3):=by
  intro u7 hu
  replace h:=hy72 u7 hu
  refine sq h (fun h=>?_) fun h=>?_
  ·refine aq 1 ?_
   refine ck 9 [] [] [2] [] [] [some ⟨0,3,[.agg [I u5,I (an (x6+1)),I (1)]]⟩] 83 (by kernel_rfl) ?_
   refine dC ?_
   exact rf [0,2,3] [1,2] (ih _ _ h hr hn :)
  ·refine aq 1 ?_
   exact rf [0,2,3] [1,2] (hn _ (Option.some.inj h).symm :) (hk:=hK)
 have r7:∀r',y7=.inl r'→∀st,tn day_1 r' st→Q st:=fun r' e st hq=>hr r' (hy71 r' e) st hq
 replace h:=hy7
 refine sp 24 h rfl (fun h=>?_) fun h=>?_
 ·refine cq 6 [30] [.agg [I u5,I (an (x6+1)),I (1)]] 163 ?_
  obtain⟨r8,hr8,h⟩:=bS h
  refine oy 179 (I r8) rfl (cP (Em hr8)) ?_
  refine cq 4 [34] [B (decide (r8≤day_1))] 227 ?_
  exact rf [0,2,3,34] [1,2] (j7 _ (Option.some.inj h).symm :)
 ·refine cq 11 [34] [B false] 227 ?_
  exact rf [0,2,3,34] [1,2] (j7 _ (Option.some.inj h).symm :)
theorem OE (day_1:Int)(r:Date)(h:qO day_1=some r):bl pk Tryz.f168 [false] 0 (zx day_1) (zO r):=by
 show Run _ _ (tn day_1 r) [.code py] _
 refine rI 46 [(0,I day_1)] [] 1 ?_
 unfold qO at h
 refine ck 12 [2,3] [] [1,33] [] [.hp 1 0 [] 3 0 0,.hp 33 0 [] 3 0 0] [some ⟨0,3,[.agg [I (0),I (0),I (0)]]⟩,some ⟨0,3,[.agg [I (2000),I (1),I (1)]]⟩] 65 (by kernel_rfl) ?_
 obtain⟨y5,hy5,hy51,hy52⟩:=bJ h
 refine ci rfl ?_
 refine rf [0,2,3] [1,33] (G6 day_1 rfl 2000 _ hy5 (fun r' e st hq=>by rw[hy51 r' e] at hq;exact hq) fun u5 hu=>?_)
 replace h:=hy52 u5 hu
 refine aq 2 ?_
 obtain⟨y9,hy9,hy91,hy92⟩:=bJ h
 refine ci rfl ?_
 refine rf [0,2,3] [1,2] (GF day_1 u5 rfl 1 _ hy9 (fun r' e st hq=>by rw[hy91 r' e] at hq;exact hq) fun u9 hu=>?_)
 replace h:=hy92 u9 hu
 refine cq 4 [39,40] [I day_1,.agg [I u5,I u9,I (1)]] 35 ?_
 obtain⟨r10,hr10,h⟩:=bS h
 refine oq 51 (I r10) rfl (cP (Em hr10)) ?_
 refine ck 10 [] [] [1,2] [] [] [some ⟨0,3,[.agg [I u5,I u9,I (an ((an (day_1 - r10))+1))]]⟩,some ⟨0,3,[.agg [I u5,I u9,I (an ((an (day_1 - r10))+1))]]⟩] 147 (by kernel_rfl) ?_
 obtain rfl:=Option.some.inj h
 exact aj rfl ⟨_,fin (vs:=[.agg [I u5,I u9,I (an ((an (day_1 - r10))+1))]]) (EP (pW rfl rfl rfl) EM) (fK (eR rfl) et) rfl (fh fT),fI⟩
theorem Mi {G:Go.Ln.Ground}[TabG Tryz.prog G]:aK Tryz.prog G 168 xC:=gT 1 0 (aJ Mx bn) (Checked.mixed Tryz.checked) Tryz.func168 (fun a r h=>OE a r h)
def A6:Int→List V:=oA I
def yi (r:ac):V×List V:=(str r,[])
noncomputable def vV:Ent:=aW [false] A6 yi fun x=>rF x
theorem yG {n_1:Int}{r}(h:rF n_1=some r):vV.F (A6 n_1)=some (yi r):=aF (aE bK) h
noncomputable def Rg:Code:=aD Tryz.f169
noncomputable def K0:Env:=bW Tryz.prog [(163,lE)]
def Sg (x:Int)(r:ac):St→Prop:=QF K0 Tryz.f169 [false] (A6 x) (yi r)
theorem N7 (n_1:Int)(r:ac)(h:rF n_1=some r):bl K0 Tryz.f169 [false] 0 (A6 n_1) (yi r):=by
 show Run _ _ (Sg n_1 r) [.code Rg] _
 refine rI 10 [(0,I n_1)] [] 1 ?_
 unfold rF at h
 refine cq 10 [4] [B (decide (n_1<10))] 49 ?_
 refine sq h (fun h=>?_) fun h=>?_
 ·refine cq 3 [5] [I n_1] 65 ?_
  obtain⟨r2,hr2,h⟩:=bS h
  refine oq 81 (str r2) rfl (cP (nA hr2)) ?_
  obtain⟨s3,hs3,h⟩:=bS h
  refine oq 97 (str s3) rfl (aG rfl rfl (aH hs3)) ?_
  refine cq 2 [2] [str s3] 113 ?_
  obtain rfl:=Option.some.inj h
  exact aj rfl (qp [str s3])
 ·refine aq 1 ?_
  refine cq 3 [8] [I n_1] 65 ?_
  obtain⟨r4,hr4,h⟩:=bS h
  refine oq 81 (str r4) rfl (cP (nA hr4)) ?_
  refine cq 2 [2] [str r4] 97 ?_
  obtain rfl:=Option.some.inj h
  exact aj rfl (qp [str r4])
theorem KV {G:Go.Ln.Ground}[TabG Tryz.prog G]:aK Tryz.prog G 169 vV:=gT 1 0 (aJ oc bn) (Checked.mixed Tryz.checked) Tryz.func169 (fun a r h=>N7 a r h)
def zy:Int→List V:=oA I
def xH (r:ac):V×List V:=(str r,[])
noncomputable def wJ:Ent:=aW [false] zy xH fun x=>wo x
theorem Q8 {day_1:Int}{r}(h:wo day_1=some r):wJ.F (zy day_1)=some (xH r):=aF (aE bK) h
noncomputable def SM:Code:=aD Tryz.f100
noncomputable def MI:Env:=bW Tryz.prog [(168,xC),(163,lE),(169,vV)]
def RG (x:Int)(r:ac):St→Prop:=QF MI Tryz.f100 [false] (zy x) (xH r)
theorem Ob (day_1:Int)(r:ac)(h:wo day_1=some r):bl MI Tryz.f100 [false] 0 (zy day_1) (xH r):=by
 show Run _ _ (RG day_1 r) [.code SM] _
 refine rI 19 [(0,I day_1)] [] 1 ?_
 unfold wo at h
 refine cq 7 [4] [I day_1] 33 ?_
 obtain⟨r2,hr2,h⟩:=bS h
 refine oq 49 (eL r2) rfl (cP (Rh hr2)) ?_
 refine ck 4 [3] [] [49] [] [.hp 49 0 [] 3 0 0] [some ⟨0,3,[eL r2]⟩] 81 (by kernel_rfl) ?_
 refine dV [0,1,3,7,0,16,55,127,255,0,512,1655,4095,8191] rfl (by decide +kernel) ?_
 refine dq [49] [] (.hp 49 0 [] 3 0 0) rfl (aV rfl rfl rfl) ?_
 refine dq [49] [] (I r2.Year) rfl (bQ rfl rfl) ?_
 obtain⟨r3,hr3,h⟩:=bS h
 refine dq [] [] (str r3) rfl (cP (nA hr3)) ?_ (cC rfl rfl rfl rfl (bX (cj rfl) cN) (nA hr3) (.inr rfl) rfl)
 obtain⟨s4,hs4,h⟩:=bS h
 refine dq [] [] (str s4) rfl (aG rfl rfl (aH hs4)) ?_
 refine dq [49] [] (.hp 49 0 [] 3 0 1) rfl (aV rfl rfl rfl) ?_
 refine dq [49] [] (I r2.Month) rfl (bQ rfl rfl) ?_
 obtain⟨r5,hr5,h⟩:=bS h
 refine dq [] [] (str r5) rfl (cP (yG hr5)) ?_ (cC rfl rfl rfl rfl (bX (cj rfl) cN) (yG hr5) (.inr rfl) rfl)
 obtain⟨s6,hs6,h⟩:=bS h
 refine dq [] [] (str s6) rfl (aG rfl rfl (aH hs6)) ?_
 obtain⟨s7,hs7,h⟩:=bS h
 refine dq [] [] (str s7) rfl (aG rfl rfl (aH hs7)) ?_
 refine dq [49] [] (.hp 49 0 [] 3 0 2) rfl (aV rfl rfl rfl) ?_
 refine dq [49] [] (I r2.Day) rfl (bQ rfl rfl) ?_
 obtain⟨r8,hr8,h⟩:=bS h
 refine dq [] [] (str r8) rfl (cP (yG hr8)) ?_ (cC rfl rfl rfl rfl (bX (cj rfl) cN) (yG hr8) (.inr rfl) rfl)
 obtain⟨s9,hs9,h⟩:=bS h
 refine dq [] [] (str s9) rfl (aG rfl rfl (aH hs9)) ?_
 refine dk 1 [2] [str s9] ?_
 refine de 305 rfl rfl ?_
 obtain rfl:=Option.some.inj h
 exact aj rfl (qp [str s9])
theorem L6 {G:Go.Ln.Ground}[TabG Tryz.prog G]:aK Tryz.prog G 100 wJ:=gT 1 0 (aJ Mi (aJ oc (aJ KV bn))) (Checked.mixed Tryz.checked) Tryz.func100 (fun a r h=>Ob a r h)
def rN:Condition→List V:=oA aI
def tJ (r:ac):V×List V:=(str r,[])
noncomputable def rS (slf_Ffcq:Condition→Option ac):Ent:=aW [false] rN tJ slf_Ffcq
theorem ii (slf_Ffcq:Condition→Option ac){x}{r}(h:slf_Ffcq x=some r):(rS slf_Ffcq).F (rN x)=some (tJ r):=aF (aE bH) h
noncomputable def xd:Ent:=rS (ay fp)
theorem Sd {c_1:Condition}{r}(h:FB c_1=some r):xd.F (rN c_1)=some (tJ r):=ii (ay fp) h
noncomputable def RB:Code:=aD Tryz.f164
noncomputable def Km (slf_Ffcq:Condition→Option ac):Env:=bW Tryz.prog [(100,wJ),(164,(rS slf_Ffcq))]
def Ru (slf_Ffcq:Condition→Option ac)(x:Condition)(r:ac):St→Prop:=QF (Km slf_Ffcq) Tryz.f164 [false] (rN x) (tJ r)
theorem M2 (slf_Ffcq:Condition→Option ac)(c_1:Condition)(r:ac)(h:pL slf_Ffcq c_1=some r):bl (Km slf_Ffcq) Tryz.f164 [false] 0 (rN c_1) (tJ r):=by
 show Run _ _ (Ru slf_Ffcq c_1 r) [.code RB] _
 refine rI 55 [(0,.agg [I c_1.Op,str c_1.Name,I c_1.Day,.isl false (c_1.Parts.map aa)])] [] 1 ?_
 unfold pL at h
 refine ck 17 [1,4,5] [] [1] [] [.hp 1 0 [] 4 0 0,I c_1.Op,B (c_1.Op==1)] [some ⟨0,4,[.agg [I c_1.Op,str c_1.Name,I c_1.Day,.isl false (c_1.Parts.map aa)]]⟩] 97 (by kernel_rfl) ?_
 refine sq h (fun h=>?_) fun h=>?_
 ·refine cq 4 [2] [str ([116,114,117,101]:ac)] 113 ?_
  obtain rfl:=Option.some.inj h
  exact aj rfl (qp [str ([116,114,117,101]:ac)])
 ·refine cq 5 [7] [B (c_1.Op==2)] 129 ?_
  refine sq h (fun h=>?_) fun h=>?_
  ·refine cq 6 [2] [str c_1.Name] 177 ?_
   obtain rfl:=Option.some.inj h
   exact aj rfl (qp [str c_1.Name])
  ·refine cq 5 [11] [B (c_1.Op==3)] 161 ?_
   refine sq h (fun h=>?_) fun h=>?_
   ·refine cq 4 [14] [I c_1.Day] 193 ?_
    obtain⟨r2,hr2,h⟩:=bS h
    refine oq 209 (str r2) rfl (cP (Q8 hr2)) ?_
    obtain⟨s3,hs3,h⟩:=bS h
    refine oq 225 (str s3) rfl (aG rfl rfl (aH hs3)) ?_
    refine cq 2 [2] [str s3] 241 ?_
    obtain rfl:=Option.some.inj h
    exact aj rfl (qp [str s3])
   ·refine cq 5 [17] [B (c_1.Op==4)] 193 ?_
    refine sq h (fun h=>?_) fun h=>?_
    ·refine cq 4 [20] [.isl false (c_1.Parts.map aa)] 225 ?_
     obtain⟨e4,he4,h⟩:=bS h
     refine oq 241 (.iptr (.agg [I e4.Op,str e4.Name,I e4.Day,.isl false (e4.Parts.map aa)]) 0) rfl (ao rfl rfl rfl (bh rfl rfl (aQ e4) rfl he4)) ?_
     refine cq 1 [22] [.agg [I e4.Op,str e4.Name,I e4.Day,.isl false (e4.Parts.map aa)]] 257 ?_
     obtain⟨r5,hr5,h⟩:=bS h
     refine oq 273 (str r5) rfl (bU rfl rfl (cm rfl rfl rfl (bX (cj rfl) cN) (ii slf_Ffcq hr5) (.inr rfl) dF rfl rfl rfl)) ?_
     obtain⟨s6,hs6,h⟩:=bS h
     refine oq 289 (str s6) rfl (aG rfl rfl (aH hs6)) ?_
     refine cq 2 [2] [str s6] 305 ?_
     obtain rfl:=Option.some.inj h
     exact aj rfl (qp [str s6])
    ·refine cq 5 [25] [B (c_1.Op==5)] 225 ?_
     refine sq h (fun h=>?_) fun h=>?_
     ·refine aq 1 ?_
      refine dV [0,1,3,7,15,31,63,0,128,384,896,1951,4095,8191,16383] rfl (by decide +kernel) ?_
      refine dq [1] [] (.hp 1 0 [] 4 0 3) rfl (aV rfl rfl rfl) ?_
      refine dq [1] [] (.isl false (c_1.Parts.map aa)) rfl (bQ rfl rfl) ?_
      obtain⟨e7,he7,h⟩:=bS h
      refine dq [] [] (.iptr (.agg [I e7.Op,str e7.Name,I e7.Day,.isl false (e7.Parts.map aa)]) 0) rfl (ao rfl rfl rfl (bh rfl rfl (aQ e7) rfl he7)) ?_
      refine dq [] [] (.agg [I e7.Op,str e7.Name,I e7.Day,.isl false (e7.Parts.map aa)]) rfl (bQ rfl rfl) ?_
      obtain⟨r8,hr8,h⟩:=bS h
      refine dq [] [] (str r8) rfl (bU rfl rfl (cm rfl rfl rfl (bX (cj rfl) cN) (ii slf_Ffcq hr8) (.inr rfl) dF rfl rfl rfl)) ?_ (cC rfl rfl rfl rfl (bX (cj rfl) cN) (ii slf_Ffcq hr8) (.inr rfl) rfl)
      obtain⟨s9,hs9,h⟩:=bS h
      refine dq [] [] (str s9) rfl (aG rfl rfl (aH hs9)) ?_
      obtain⟨s10,hs10,h⟩:=bS h
      refine dq [] [] (str s10) rfl (aG rfl rfl (aH hs10)) ?_
      refine dq [1] [] (.hp 1 0 [] 4 0 3) rfl (aV rfl rfl rfl) ?_
      refine dq [1] [] (.isl false (c_1.Parts.map aa)) rfl (bQ rfl rfl) ?_
      obtain⟨e11,he11,h⟩:=bS h
      refine dq [] [] (.iptr (.agg [I e11.Op,str e11.Name,I e11.Day,.isl false (e11.Parts.map aa)]) 0) rfl (ao rfl rfl rfl (bh rfl rfl (aQ e11) rfl he11)) ?_
      refine dq [] [] (.agg [I e11.Op,str e11.Name,I e11.Day,.isl false (e11.Parts.map aa)]) rfl (bQ rfl rfl) ?_
      obtain⟨r12,hr12,h⟩:=bS h
      refine dq [] [] (str r12) rfl (bU rfl rfl (cm rfl rfl rfl (bX (cj rfl) cN) (ii slf_Ffcq hr12) (.inr rfl) dF rfl rfl rfl)) ?_ (cC rfl rfl rfl rfl (bX (cj rfl) cN) (ii slf_Ffcq hr12) (.inr rfl) rfl)
      obtain⟨s13,hs13,h⟩:=bS h
      refine dq [] [] (str s13) rfl (aG rfl rfl (aH hs13)) ?_
      obtain⟨s14,hs14,h⟩:=bS h
      refine dq [] [] (str s14) rfl (aG rfl rfl (aH hs14)) ?_
      refine dk 1 [2] [str s14] ?_
      refine de 465 rfl rfl ?_
      obtain rfl:=Option.some.inj h
      exact aj rfl (qp [str s14])
     ·refine aq 1 ?_
      refine aq 2 ?_
      refine dV [0,1,3,7,15,31,63,0,128,384,896,1951,4095,8191,16383] rfl (by decide +kernel) ?_
      refine dq [1] [] (.hp 1 0 [] 4 0 3) rfl (aV rfl rfl rfl) ?_
      refine dq [1] [] (.isl false (c_1.Parts.map aa)) rfl (bQ rfl rfl) ?_
      obtain⟨e15,he15,h⟩:=bS h
      refine dq [] [] (.iptr (.agg [I e15.Op,str e15.Name,I e15.Day,.isl false (e15.Parts.map aa)]) 0) rfl (ao rfl rfl rfl (bh rfl rfl (aQ e15) rfl he15)) ?_
      refine dq [] [] (.agg [I e15.Op,str e15.Name,I e15.Day,.isl false (e15.Parts.map aa)]) rfl (bQ rfl rfl) ?_
      obtain⟨r16,hr16,h⟩:=bS h
      refine dq [] [] (str r16) rfl (bU rfl rfl (cm rfl rfl rfl (bX (cj rfl) cN) (ii slf_Ffcq hr16) (.inr rfl) dF rfl rfl rfl)) ?_ (cC rfl rfl rfl rfl (bX (cj rfl) cN) (ii slf_Ffcq hr16) (.inr rfl) rfl)
      obtain⟨s17,hs17,h⟩:=bS h
      refine dq [] [] (str s17) rfl (aG rfl rfl (aH hs17)) ?_
      obtain⟨s18,hs18,h⟩:=bS h
      refine dq [] [] (str s18) rfl (aG rfl rfl (aH hs18)) ?_
      refine dq [1] [] (.hp 1 0 [] 4 0 3) rfl (aV rfl rfl rfl) ?_
      refine dq [1] [] (.isl false (c_1.Parts.map aa)) rfl (bQ rfl rfl) ?_
      obtain⟨e19,he19,h⟩:=bS h
      refine dq [] [] (.iptr (.agg [I e19.Op,str e19.Name,I e19.Day,.isl false (e19.Parts.map aa)]) 0) rfl (ao rfl rfl rfl (bh rfl rfl (aQ e19) rfl he19)) ?_
      refine dq [] [] (.agg [I e19.Op,str e19.Name,I e19.Day,.isl false (e19.Parts.map aa)]) rfl (bQ rfl rfl) ?_
      obtain⟨r20,hr20,h⟩:=bS h
      refine dq [] [] (str r20) rfl (bU rfl rfl (cm rfl rfl rfl (bX (cj rfl) cN) (ii slf_Ffcq hr20) (.inr rfl) dF rfl rfl rfl)) ?_ (cC rfl rfl rfl rfl (bX (cj rfl) cN) (ii slf_Ffcq hr20) (.inr rfl) rfl)
      obtain⟨s21,hs21,h⟩:=bS h
      refine dq [] [] (str s21) rfl (aG rfl rfl (aH hs21)) ?_
      obtain⟨s22,hs22,h⟩:=bS h
      refine dq [] [] (str s22) rfl (aG rfl rfl (aH hs22)) ?_
      refine dk 1 [2] [str s22] ?_
      refine de 465 rfl rfl ?_
      obtain rfl:=Option.some.inj h
      exact aj rfl (qp [str s22])
theorem J2 {G:Go.Ln.Ground}[TabG Tryz.prog G]:aK Tryz.prog G 164 xd:=fE fun slf_Ffcq g_Ffcq=>gT 1 0 (aJ L6 (aJ g_Ffcq bn)) (Checked.mixed Tryz.checked) Tryz.func164 (fun a r h=>M2 slf_Ffcq a r h)
def zk:(Contract×Int)→List V:=cA aN (oA I)
def zL (r:ac):V×List V:=(str r,[])
noncomputable def wN:Ent:=aW [false,false] zk zL fun x=>xz x.1 x.2
theorem SL {c_1:Contract}{i_2:Int}{r}(h:xz c_1 i_2=some r):wN.F (zk (c_1,i_2))=some (zL r):=aF (bO bm (aE bK)) h
noncomputable def Gv:Code:=aD Tryz.f97
noncomputable abbrev um:Code:=cR (cR (cR (cR (cR Gv))))
noncomputable def qh:Env:=bW Tryz.prog [(164,xd),(163,lE),(162,wx)]
def gI (x:Contract×Int)(r:ac):St→Prop:=QF qh Tryz.f97 [false,false] (zk x) (zL r)
theorem OD (c_1:Contract)(i_2:Int)(r:ac)(h:xz c_1 i_2=some r):bl qh Tryz.f97 [false,false] 0 (zk (c_1,i_2)) (zL r):=by
 show Run _ _ (gI (c_1,i_2) r) [.code Gv] _
 refine rI 108 [(0,.agg [.isl false (c_1.Parties.map str),.isl false (c_1.Clauses.map ae)]),(1,I i_2)] [] 1 ?_
 unfold xz at h
 refine ck 10 [2,9,10] [] [1] [] [.hp 1 0 [] 2 0 0,.isl false (c_1.Clauses.map ae),I i_2] [some ⟨0,2,[.agg [.isl false (c_1.Parties.map str),.isl false (c_1.Clauses.map ae)]]⟩] 81 (by kernel_rfl) ?_
 obtain⟨e3,he3,h⟩:=bS h
 refine oq 97 (.iptr (.agg [str e3.Id,I e3.Kind,I e3.Party,str e3.Action,I e3.Other,I e3.Amount,I e3.When.Op,str e3.When.Name,I e3.When.Day,.isl false (e3.When.Parts.map aa),I e3.Within,str e3.Repair]) 0) rfl (ao rfl rfl rfl (bh rfl rfl rfl rfl he3)) ?_
 refine ck 2 [5,12] [] [113] [] [.hp 113 0 [] 12 0 0,.agg [str e3.Id,I e3.Kind,I e3.Party,str e3.Action,I e3.Other,I e3.Amount,I e3.When.Op,str e3.When.Name,I e3.When.Day,.isl false (e3.When.Parts.map aa),I e3.Within,str e3.Repair]] [some ⟨0,12,[.agg [str ([]),I (0),I (0),str ([]),I (0),I (0),I (0),str ([]),I (0),.isl true [],I (0),str ([])]]⟩] 129 (by kernel_rfl) ?_
 refine eF 113 [.agg [str ([]),I (0),I (0),str ([]),I (0),I (0),I (0),str ([]),I (0),.usl 4 (([]).map ak),I (0),str ([])]] rfl rfl (au (fH (au (.refl _) (au (.refl _) (au (.refl _) (au (.refl _) (au (.refl _) (au (.refl _) (au (.refl _) (au (.refl _) (au (.refl _) (au (.nil _) (au (.refl _) (au (.refl _) dH))))))))))))) dH) ?_
 refine ck 3 [] [] [113] [] [] [some ⟨2,12,[.agg [str e3.Id,I e3.Kind,I e3.Party,str e3.Action,I e3.Other,I e3.Amount,I e3.When.Op,str e3.When.Name,I e3.When.Day,.isl false (e3.When.Parts.map aa),I e3.Within,str e3.Repair]]⟩] 145 (by kernel_rfl) ?_
 refine dV [0,1,3,0,8,0,32,120,248,511,1023] rfl (by decide +kernel) ?_
 refine dq [113] [] (.hp 113 0 [] 12 0 0) rfl (aV rfl rfl rfl) ?_
 refine dq [113] [] (str e3.Id) rfl (bQ rfl rfl) ?_
 obtain⟨s4,hs4,h⟩:=bS h
 refine dq [] [] (str s4) rfl (aG rfl rfl (aH hs4)) ?_
 refine dq [1] [] (.hp 1 0 [] 2 0 0) rfl (aV rfl rfl rfl) ?_
 refine dq [1] [] (.isl false (c_1.Parties.map str)) rfl (bQ rfl rfl) ?_
 refine dq [113] [] (.hp 113 0 [] 12 0 2) rfl (aV rfl rfl rfl) ?_
 refine dq [113] [] (I e3.Party) rfl (bQ rfl rfl) ?_
 obtain⟨e5,he5,h⟩:=bS h
 refine dq [] [] (.iptr (str e5) 0) rfl (ao rfl rfl rfl (bh rfl rfl rfl rfl he5)) ?_
 refine dq [] [] (str e5) rfl (bQ rfl rfl) ?_
 obtain⟨s6,hs6,h⟩:=bS h
 refine dq [] [] (str s6) rfl (aG rfl rfl (aH hs6)) ?_
 refine dk 1 [6] [str s6] ?_
 refine de 321 rfl rfl ?_
 refine cq 6 [24,26] [.isl false (c_1.Parties.map str),I e3.Other] 385 ?_
 obtain⟨e7,he7,h⟩:=bS h
 refine oq 401 (.iptr (str e7) 0) rfl (ao rfl rfl rfl (bh rfl rfl rfl rfl he7)) ?_
 refine cq 15 [7,30,39] [str e7,I e3.Kind,B (e3.Kind==1)] 497 ?_
 obtain⟨y8,hy8,hy81,hy82⟩:=bJ h
 have j8:∀u8,y8=.inr u8→Run qh 0 (gI (c_1,i_2) r) (.blk 0::.code um::[]) (sT 108 [(5,.hp 1 0 [] 12 0 0),(6,str u8)] [⟨0,12,[.agg [str e3.Id,I e3.Kind,I e3.Party,str e3.Action,I e3.Other,I e3.Amount,I e3.When.Op,str e3.When.Name,I e3.When.Day,.isl false (e3.When.Parts.map aa),I e3.Within,str e3.Repair]]⟩] 2):=by
  intro u8 hu
  replace h:=hy82 u8 hu
  refine cq 4 [85] [str u8] 18 ?_
  obtain⟨s9,hs9,h⟩:=bS h
  refine oq 34 (str s9) rfl (aG rfl rfl (aH hs9)) ?_
  refine cq 2 [88] [.agg [I e3.When.Op,str e3.When.Name,I e3.When.Day,.isl false (e3.When.Parts.map aa)]] 66 ?_
  obtain⟨r10,hr10,h⟩:=bS h
  refine oq 82 (str r10) rfl (cP (Sd hr10)) ?_
  obtain⟨s11,hs11,h⟩:=bS h
  refine oq 98 (str s11) rfl (aG rfl rfl (aH hs11)) ?_
  refine cq 9 [6,93] [str s11,B (e3.Repair==([]:ac))] 162 ?_
  refine sq h (fun h=>?_) fun h=>?_
  ·refine cq 5 [4] [str s11] 194 ?_
   obtain rfl:=Option.some.inj h
   exact aj rfl (qp [str s11])
  ·refine aq 1 ?_
   refine cq 7 [97] [B (e3.Kind==4)] 210 ?_
   refine sq h (fun h=>?_) fun h=>?_
   ·refine cq 3 [98] [str s11] 226 ?_
    obtain⟨s12,hs12,h⟩:=bS h
    refine oq 242 (str s12) rfl (aG rfl rfl (aH hs12)) ?_
    refine cq 2 [101] [str e3.Repair] 274 ?_
    obtain⟨s13,hs13,h⟩:=bS h
    refine oq 290 (str s13) rfl (aG rfl rfl (aH hs13)) ?_
    refine cq 2 [4] [str s13] 306 ?_
    obtain rfl:=Option.some.inj h
    exact aj rfl (qp [str s13])
   ·refine aq 1 ?_
    refine cq 3 [103] [str s11] 226 ?_
    obtain⟨s14,hs14,h⟩:=bS h
    refine oq 242 (str s14) rfl (aG rfl rfl (aH hs14)) ?_
    refine cq 2 [106] [str e3.Repair] 274 ?_
    obtain⟨s15,hs15,h⟩:=bS h
    refine oq 290 (str s15) rfl (aG rfl rfl (aH hs15)) ?_
    refine cq 2 [4] [str s15] 306 ?_
    obtain rfl:=Option.some.inj h
    exact aj rfl (qp [str s15])
 have r8:∀r',y8=.inl r'→∀st,gI (c_1,i_2) r' st→(gI (c_1,i_2) r) st:=fun r' e st hq=>by rw[hy81 r' e] at hq;exact hq
 replace h:=hy8
 refine sq h (fun h=>?_) fun h=>?_
 ·refine cq 3 [41] [str s6] 513 ?_
  obtain⟨s16,hs16,h⟩:=bS h
  refine oq 529 (str s16) rfl (aG rfl rfl (aH hs16)) ?_
  refine cq 2 [44] [str e3.Action] 561 ?_
  obtain⟨s17,hs17,h⟩:=bS h
  refine oq 577 (str s17) rfl (aG rfl rfl (aH hs17)) ?_
  obtain⟨s18,hs18,h⟩:=bS h
  refine oq 593 (str s18) rfl (aG rfl rfl (aH hs18)) ?_
  refine cq 1 [47] [str e7] 609 ?_
  obtain⟨s19,hs19,h⟩:=bS h
  refine oq 625 (str s19) rfl (aG rfl rfl (aH hs19)) ?_
  refine cq 9 [6,51] [str s19,B (decide (e3.Amount>0))] 689 ?_
  obtain⟨y20,hy20,hy201,hy202⟩:=bL h
  have j20:∀u20,y20=.inr u20→Run qh 0 (gI (c_1,i_2) r) (.code (cR (cR (cL (cR (cL (cR (cL (cR (cR (cR (cR Gv)))))))))))::.blk 0::.code um::[]) (sT 108 [(5,.hp 1 0 [] 12 0 0),(6,str u20)] [⟨0,12,[.agg [str e3.Id,I e3.Kind,I e3.Party,str e3.Action,I e3.Other,I e3.Amount,I e3.When.Op,str e3.When.Name,I e3.When.Day,.isl false (e3.When.Parts.map aa),I e3.Within,str e3.Repair]]⟩] 2):=by
   intro u20 hu
   replace h:=hy202 u20 hu
   refine cq 2 [58] [str u20] 18 ?_
   obtain⟨s21,hs21,h⟩:=bS h
   refine oq 34 (str s21) rfl (aG rfl rfl (aH hs21)) ?_
   refine cq 2 [61] [I e3.Within] 66 ?_
   obtain⟨r22,hr22,h⟩:=bS h
   refine oq 82 (str r22) rfl (cP (nA hr22)) ?_
   obtain⟨s23,hs23,h⟩:=bS h
   refine oq 98 (str s23) rfl (aG rfl rfl (aH hs23)) ?_
   obtain⟨s24,hs24,h⟩:=bS h
   refine oq 114 (str s24) rfl (aG rfl rfl (aH hs24)) ?_
   refine cq 2 [6] [str s24] 130 ?_
   exact rf [5,6] [1] (j8 _ (Option.some.inj h).symm :)
  have r20:∀r',y20=.inl r'→∀st,gI (c_1,i_2) r' st→(gI (c_1,i_2) r) st:=fun r' e st hq=>r8 r' (hy201 r' e) st hq
  replace h:=hy20
  refine sq h (fun h=>?_) fun h=>?_
  ·refine cq 2 [52] [str s19] 705 ?_
   obtain⟨s25,hs25,h⟩:=bS h
   refine oq 721 (str s25) rfl (aG rfl rfl (aH hs25)) ?_
   refine cq 2 [55] [I e3.Amount] 753 ?_
   obtain⟨r26,hr26,h⟩:=bS h
   refine oq 769 (str r26) rfl (cP (RF hr26)) ?_
   obtain⟨s27,hs27,h⟩:=bS h
   refine oq 785 (str s27) rfl (aG rfl rfl (aH hs27)) ?_
   refine cq 2 [6] [str s27] 801 ?_
   exact rf [5,6] [113] (j20 _ (Option.some.inj h).symm :)
  ·refine aq 1 ?_
   exact rf [5,6] [113] (j20 _ (Option.some.inj h).symm :)
 ·refine cq 5 [65] [B (e3.Kind==2)] 529 ?_
  obtain⟨y28,hy28,hy281,hy282⟩:=bL h
  have j28:∀u28,y28=.inr u28→Run qh 0 (gI (c_1,i_2) r) (.blk 0::.code um::[]) (sT 108 [(5,.hp 1 0 [] 12 0 0),(6,str u28)] [⟨0,12,[.agg [str e3.Id,I e3.Kind,I e3.Party,str e3.Action,I e3.Other,I e3.Amount,I e3.When.Op,str e3.When.Name,I e3.When.Day,.isl false (e3.When.Parts.map aa),I e3.Within,str e3.Repair]]⟩] 2):=by
   intro u28 hu
   replace h:=hy282 u28 hu
   exact rf [5,6] [1] (j8 _ (Option.some.inj h).symm :)
  have r28:∀r',y28=.inl r'→∀st,gI (c_1,i_2) r' st→(gI (c_1,i_2) r) st:=fun r' e st hq=>r8 r' (hy281 r' e) st hq
  replace h:=hy28
  refine sq h (fun h=>?_) fun h=>?_
  ·refine cq 2 [67] [str s6] 545 ?_
   obtain⟨s29,hs29,h⟩:=bS h
   refine oq 561 (str s29) rfl (aG rfl rfl (aH hs29)) ?_
   refine cq 2 [70] [str e3.Action] 593 ?_
   obtain⟨s30,hs30,h⟩:=bS h
   refine oq 609 (str s30) rfl (aG rfl rfl (aH hs30)) ?_
   obtain⟨s31,hs31,h⟩:=bS h
   refine oq 625 (str s31) rfl (aG rfl rfl (aH hs31)) ?_
   refine cq 1 [73] [str e7] 641 ?_
   obtain⟨s32,hs32,h⟩:=bS h
   refine oq 657 (str s32) rfl (aG rfl rfl (aH hs32)) ?_
   refine cq 2 [6] [str s32] 673 ?_
   exact rf [5,6] [113] (j28 _ (Option.some.inj h).symm :)
  ·refine cq 5 [75] [B (e3.Kind==3)] 561 ?_
   obtain⟨y33,hy33,hy331,hy332⟩:=bL h
   have j33:∀u33,y33=.inr u33→Run qh 0 (gI (c_1,i_2) r) (.blk 0::.code um::[]) (sT 108 [(5,.hp 1 0 [] 12 0 0),(6,str u33)] [⟨0,12,[.agg [str e3.Id,I e3.Kind,I e3.Party,str e3.Action,I e3.Other,I e3.Amount,I e3.When.Op,str e3.When.Name,I e3.When.Day,.isl false (e3.When.Parts.map aa),I e3.Within,str e3.Repair]]⟩] 2):=by
    intro u33 hu
    replace h:=hy332 u33 hu
    exact rf [5,6] [1] (j28 _ (Option.some.inj h).symm :)
   have r33:∀r',y33=.inl r'→∀st,gI (c_1,i_2) r' st→(gI (c_1,i_2) r) st:=fun r' e st hq=>r28 r' (hy331 r' e) st hq
   replace h:=hy33
   refine sq h (fun h=>?_) fun h=>?_
   ·refine cq 2 [77] [str s6] 577 ?_
    obtain⟨s34,hs34,h⟩:=bS h
    refine oq 593 (str s34) rfl (aG rfl rfl (aH hs34)) ?_
    refine cq 2 [80] [str e3.Action] 625 ?_
    obtain⟨s35,hs35,h⟩:=bS h
    refine oq 641 (str s35) rfl (aG rfl rfl (aH hs35)) ?_
    obtain⟨s36,hs36,h⟩:=bS h
    refine oq 657 (str s36) rfl (aG rfl rfl (aH hs36)) ?_
    refine cq 1 [83] [str e7] 673 ?_
    obtain⟨s37,hs37,h⟩:=bS h
    refine oq 689 (str s37) rfl (aG rfl rfl (aH hs37)) ?_
    refine cq 2 [6] [str s37] 705 ?_
    exact rf [5,6] [113] (j33 _ (Option.some.inj h).symm :)
   ·refine cq 2 [31] [str s6] 577 ?_
    obtain⟨s38,hs38,h⟩:=bS h
    refine oq 593 (str s38) rfl (aG rfl rfl (aH hs38)) ?_
    refine cq 2 [34] [str e3.Action] 625 ?_
    obtain⟨s39,hs39,h⟩:=bS h
    refine oq 641 (str s39) rfl (aG rfl rfl (aH hs39)) ?_
    obtain⟨s40,hs40,h⟩:=bS h
    refine oq 657 (str s40) rfl (aG rfl rfl (aH hs40)) ?_
    refine cq 1 [37] [str e7] 673 ?_
    obtain⟨s41,hs41,h⟩:=bS h
    refine oq 689 (str s41) rfl (aG rfl rfl (aH hs41)) ?_
    refine cq 2 [6] [str s41] 705 ?_
    exact rf [5,6] [113] (j33 _ (Option.some.inj h).symm :)
theorem LW {G:Go.Ln.Ground}[TabG Tryz.prog G]:aK Tryz.prog G 97 wN:=gT 2 0 (aJ J2 (aJ oc (aJ Kn bn))) (Checked.mixed Tryz.checked) Tryz.func97 (fun a r h=>OD a.1 a.2 r h)
def Ar:(Contract×Int)→List V:=cA aN (oA I)
def yI (r:ac×Bool):V×List V:=(.tup [str r.1,B r.2],[])
noncomputable def xy:Ent:=aW [false,false] Ar yI fun x=>wY x.1 x.2
theorem R7 {c_1:Contract}{i_2:Int}{r}(h:wY c_1 i_2=some r):xy.F (Ar (c_1,i_2))=some (yI r):=aF (bO bm (aE bK)) h
noncomputable def FY:Code:=aD Tryz.f43
noncomputable def Gc:Env:=bW Tryz.prog [(72,wd),(97,wN),(73,em)]
def xP (x:Contract×Int)(r:ac×Bool):St→Prop:=QF Gc Tryz.f43 [false,false] (Ar x) (yI r)
theorem OP (c_1:Contract)(i_2:Int)(r:ac×Bool)(h:wY c_1 i_2=some r):bl Gc Tryz.f43 [false,false] 0 (Ar (c_1,i_2)) (yI r):=by
 show Run _ _ (xP (c_1,i_2) r) [.code FY] _
 refine rI 21 [(0,.agg [.isl false (c_1.Parties.map str),.isl false (c_1.Clauses.map ae)]),(1,I i_2)] [] 1 ?_
 unfold wY at h
 refine ck 10 [2,6] [] [1] [] [.hp 1 0 [] 2 0 0,.agg [.isl false (c_1.Parties.map str),.isl false (c_1.Clauses.map ae)]] [some ⟨0,2,[.agg [.isl false (c_1.Parties.map str),.isl false (c_1.Clauses.map ae)]]⟩] 65 (by kernel_rfl) ?_
 obtain⟨r3,hr3,h⟩:=bS h
 refine oq 81 (B r3) rfl (cP (Sh hr3)) ?_
 refine cq 2 [9] [B (!r3)] 113 ?_
 obtain⟨y4,hy4,hy41,hy42⟩:=bJ h
 have j4:∀u4,y4=.inr u4→Run Gc 0 (xP (c_1,i_2) r) (.code (cR (cL (cR FY)))::.code (cR (cR FY))::[]) (sT 21 [(1,I i_2),(2,.hp 1 0 [] 2 0 0),(17,B u4)] [⟨0,2,[.agg [.isl false (c_1.Parties.map str),.isl false (c_1.Clauses.map ae)]]⟩] 2):=by
  intro u4 hu
  replace h:=hy42 u4 hu
  refine sq h (fun h=>?_) fun h=>?_
  ·refine cq 5 [4,5] [str ([]:ac),B false] 34 ?_
   obtain rfl:=Option.some.inj h
   exact aj rfl (qp [str ([]:ac),B false])
  ·refine aq 1 ?_
   refine cq 4 [18,19] [.agg [.isl false (c_1.Parties.map str),.isl false (c_1.Clauses.map ae)],I i_2] 34 ?_
   obtain⟨r5,hr5,h⟩:=bS h
   refine oq 50 (str r5) rfl (cP (SL hr5)) ?_
   refine cq 3 [4,5] [str r5,B true] 82 ?_
   obtain rfl:=Option.some.inj h
   exact aj rfl (qp [str r5,B true])
 have r4:∀r',y4=.inl r'→∀st,xP (c_1,i_2) r' st→(xP (c_1,i_2) r) st:=fun r' e st hq=>by rw[hy41 r' e] at hq;exact hq
 replace h:=hy4
 refine sp 9 h rfl (fun h=>?_) fun h=>?_
 ·refine cq 9 [17] [B true] 241 ?_
  exact rf [1,2,17] [1] (j4 _ (Option.some.inj h).symm :)
 ·refine cq 3 [10,12] [I i_2,.isl false (c_1.Clauses.map ae)] 161 ?_
  refine oy 177 (I (len c_1.Clauses)) rfl (bT rfl rfl rfl (ce rfl)) ?_
  refine cq 1 [14] [I (an ((len c_1.Clauses) - 1))] 193 ?_
  obtain⟨r6,hr6,h⟩:=bS h
  refine oy 209 (B r6) rfl (cP (eb hr6)) ?_
  refine cq 3 [17] [B (!r6)] 241 ?_
  exact rf [1,2,17] [1] (j4 _ (Option.some.inj h).symm :)
theorem Ke {G:Go.Ln.Ground}[TabG Tryz.prog G]:aK Tryz.prog G 43 xy:=gT 2 0 (aJ KY (aJ LW (aJ fz bn))) (Checked.mixed Tryz.checked) Tryz.func43 (fun a r h=>OP a.1 a.2 r h)
def D1:(Int×Int×Int)→List V:=cA I (cA I (oA I))
def Dv (r:Bool):V×List V:=(B r,[])
noncomputable def jj:Ent:=aW [false,false,false] D1 Dv fun x=>lc x.1 x.2.1 x.2.2
theorem jN {n_1:Int}{low_2:Int}{high_3:Int}{r}(h:lc n_1 low_2 high_3=some r):jj.F (D1 (n_1,low_2,high_3))=some (Dv r):=aF (bO bK (bO bK (aE bK))) h
noncomputable def PA:Code:=aD Tryz.f86
noncomputable def Jo:Env:=bW Tryz.prog []
def Pi (x:Int×Int×Int)(r:Bool):St→Prop:=QF Jo Tryz.f86 [false,false,false] (D1 x) (Dv r)
theorem Q2 (n_1:Int)(low_2:Int)(high_3:Int)(r:Bool)(h:lc n_1 low_2 high_3=some r):bl Jo Tryz.f86 [false,false,false] 0 (D1 (n_1,low_2,high_3)) (Dv r):=by
 show Run _ _ (Pi (n_1,low_2,high_3) r) [.code PA] _
 refine rI 15 [(0,I n_1),(1,I low_2),(2,I high_3)] [] 1 ?_
 unfold lc at h
 refine cq 10 [10] [B (decide (n_1≥low_2))] 81 ?_
 obtain⟨u4,hu4,h⟩:=lJ h
 have j4:Run Jo 0 (Pi (n_1,low_2,high_3) r) (.code (cR (cR PA))::[]) (sT 15 [(6,B u4)] [] 1):=by
  obtain rfl:=Option.some.inj h
  exact aj rfl (qp [B u4])
 replace h:=hu4
 clear hu4
 refine sp 10 h rfl (fun h=>?_) fun h=>?_
 ·refine cq 6 [6] [B (decide (n_1≤high_3))] 161 ?_
  subst h
  exact rf [6] [] (j4 :)
 ·refine cq 6 [6] [B false] 161 ?_
  subst h
  exact rf [6] [] (j4 :)
theorem jX {G:Go.Ln.Ground}[TabG Tryz.prog G]:aK Tryz.prog G 86 jj:=gT 3 0 bn (Checked.mixed Tryz.checked) Tryz.func86 (fun a r h=>Q2 a.1 a.2.1 a.2.2 r h)
noncomputable def gU:Ent:=⟨[false,false],qw (lY str) (lY (V.int .u8)) fun s c=>some (I ((Lib.countByte s c.toNat.toUInt8:Nat):Int),[])⟩
theorem BQ {s:ac}{c r:Int}(h:si s c=some r):gU.F [str s,.int .u8 c]=some (I r,[]):=by
 cases h
 simp only[gU,qw,yh bp,yh LC,Option.bind_some]
theorem Bv:Extern.findNext Tryz.f266=none:=by kernel_rfl
theorem Ce:Extern.find Tryz.f266=some Extern.BytealgCount.count:=by kernel_rfl
theorem uB {G:Go.Ln.Ground}[TabG Tryz.prog G]:aK Tryz.prog G 266 gU:=Hv (g:=fun s c=>((Lib.countByte s c.toNat.toUInt8:Nat):Int)) Tryz.func266 rfl (by decide) Bv Ce fun s c w=>Lib.run_countString s c w
noncomputable def fq:Ent:=⟨[false,false],qw (lY str) (lY (V.int .u8)) fun s c=>some (I (Lib.indexByte s c.toNat.toUInt8),[])⟩
theorem rX {s:ac}{c r:Int}(h:nK s c=some r):fq.F [str s,.int .u8 c]=some (I r,[]):=by
 cases h
 simp only[fq,qw,yh bp,yh LC,Option.bind_some]
theorem rK:Extern.findNext Tryz.f286=none:=by kernel_rfl
theorem rU:Extern.find Tryz.f286=some Extern.BytealgIndexByte.indexByte:=by kernel_rfl
theorem qc {G:Go.Ln.Ground}[TabG Tryz.prog G]:aK Tryz.prog G 286 fq:=Hv (g:=fun s c=>Lib.indexByte s c.toNat.toUInt8) Tryz.func286 rfl (by decide) rK rU fun s c w=>Lib.run_indexByteString s c w
def DF:(ac×Int)→List V:=cA str (oA (V.int .u8))
def Ek (r:Int):V×List V:=(I r,[])
noncomputable def B9:Ent:=aW [false,false] DF Ek fun x=>JE x.1 x.2
theorem Tq {s_1:ac}{c_2:Int}{r}(h:JE s_1 c_2=some r):B9.F (DF (s_1,c_2))=some (Ek r):=aF (bO bp (aE (F9 (k:=.u8)))) h
noncomputable def Te:Code:=aD Tryz.f277
noncomputable def Pn:Env:=bW Tryz.prog [(286,fq)]
def Ta (x:ac×Int)(r:Int):St→Prop:=QF Pn Tryz.f277 [false,false] (DF x) (Ek r)
theorem QD (s_1:ac)(c_2:Int)(r:Int)(h:JE s_1 c_2=some r):bl Pn Tryz.f277 [false,false] 0 (DF (s_1,c_2)) (Ek r):=by
 show Run _ _ (Ta (s_1,c_2) r) [.code Te] _
 refine rI 8 [(0,str s_1),(1,.int .u8 c_2)] [] 1 ?_
 unfold JE at h
 refine cq 8 [5,6] [str s_1,.int .u8 c_2] 49 ?_
 obtain⟨r3,hr3,h⟩:=bS h
 refine oq 65 (I r3) rfl (cP (rX hr3)) ?_
 refine cq 2 [4] [I r3] 81 ?_
 obtain rfl:=Option.some.inj h
 exact aj rfl (qp [I r3])
theorem N2 {G:Go.Ln.Ground}[TabG Tryz.prog G]:aK Tryz.prog G 277 B9:=gT 2 0 (aJ qc bn) (Checked.mixed Tryz.checked) Tryz.func277 (fun a r h=>QD a.1 a.2 r h)
def Eb:(ac×ac)→List V:=cA str (oA str)
def Dm (r:Int):V×List V:=(I r,[])
noncomputable def Bw:Ent:=aW [false,false] Eb Dm fun x=>K7 x.1 x.2
theorem Tf {s_1:ac}{substr_2:ac}{r}(h:K7 s_1 substr_2=some r):Bw.F (Eb (s_1,substr_2))=some (Dm r):=aF (bO bp (aE bp)) h
noncomputable def I7:Code:=aD Tryz.f267
noncomputable def Ix:Env:=bW Tryz.prog [(277,B9)]
def Pq (x:ac×ac)(r:Int):St→Prop:=QF Ix Tryz.f267 [false,false] (Eb x) (Dm r)
theorem Qn (s_1:ac)(substr_2:ac)(r:Int)(h:K7 s_1 substr_2=some r):bl Ix Tryz.f267 [false,false] 0 (Eb (s_1,substr_2)) (Dm r):=by
 show Run _ _ (Pq (s_1,substr_2) r) [.code I7] _
 refine rI 143 [(0,str s_1),(1,str substr_2)] [] 1 ?_
 unfold K7 at h
 refine cq 17 [5,19] [I (len substr_2),B ((len substr_2)==0)] 113 ?_
 obtain⟨u3,hu3,h⟩:=lJ h
 have j3:Run Ix 0 (Pq (s_1,substr_2) r) (.code (cR (cL (cL (cR (cR I7)))))::.blk 0::.code (cR (cR (cR I7)))::[]) (sT 143 [(0,str s_1),(1,str substr_2),(5,I (len substr_2)),(16,B u3)] [] 1):=by
  refine sq h (fun h=>?_) fun h=>?_
  ·refine cq 4 [4] [I (0)] 17 ?_
   obtain rfl:=Option.some.inj h
   exact aj rfl (qp [I (0)])
  ·refine cq 6 [24] [B ((len substr_2)==1)] 49 ?_
   refine sq h (fun h=>?_) fun h=>?_
   ·refine cq 4 [27,28] [str s_1,str substr_2] 81 ?_
    obtain⟨c4,hc4,h⟩:=bS h
    refine oq 97 (.int .u8 (c4.toNat:Int)) rfl (kr rfl rfl (nW rfl rfl hc4)) ?_
    obtain⟨r5,hr5,h⟩:=bS h
    refine oq 113 (I r5) rfl (cP (Tq hr5)) ?_
    refine cq 2 [4] [I r5] 129 ?_
    obtain rfl:=Option.some.inj h
    exact aj rfl (qp [I r5])
   ·refine cq 8 [31] [B (decide ((len substr_2)≥(len s_1)))] 129 ?_
    refine sq h (fun h=>?_) fun h=>?_
    ·refine cq 4 [4] [I (-1)] 145 ?_
     obtain rfl:=Option.some.inj h
     exact aj rfl (qp [I (-1)])
    ·cases h
 replace h:=hu3
 clear hu3
 refine sp 19 h rfl (fun h=>?_) fun h=>?_
 ·refine cq 6 [16] [B true] 193 ?_
  subst h
  exact rf [0,1,5,16] [] (j3 :)
 ·refine cq 6 [16] [B (substr_2==s_1)] 193 ?_
  subst h
  exact rf [0,1,5,16] [] (j3 :)
theorem ND {G:Go.Ln.Ground}[TabG Tryz.prog G]:aK Tryz.prog G 267 Bw:=gT 2 0 (aJ N2 bn) (Checked.mixed Tryz.checked) Tryz.func267 (fun a r h=>Qn a.1 a.2 r h)
def AE:(ac×ac)→List V:=cA str (oA str)
def yE (r:Int):V×List V:=(I r,[])
noncomputable def qJ:Ent:=aW [false,false] AE yE fun x=>B5 x.1 x.2
theorem KP {s_1:ac}{substr_2:ac}{r}(h:B5 s_1 substr_2=some r):qJ.F (AE (s_1,substr_2))=some (yE r):=aF (bO bp (aE bp)) h
noncomputable def RX:Code:=aD Tryz.f247
noncomputable def KU:Env:=bW Tryz.prog [(267,Bw)]
def SO (x:ac×ac)(r:Int):St→Prop:=QF KU Tryz.f247 [false,false] (AE x) (yE r)
theorem Ny (s_1:ac)(substr_2:ac)(r:Int)(h:B5 s_1 substr_2=some r):bl KU Tryz.f247 [false,false] 0 (AE (s_1,substr_2)) (yE r):=by
 show Run _ _ (SO (s_1,substr_2) r) [.code RX] _
 refine rI 8 [(0,str s_1),(1,str substr_2)] [] 1 ?_
 unfold B5 at h
 refine cq 8 [5,6] [str s_1,str substr_2] 49 ?_
 obtain⟨r3,hr3,h⟩:=bS h
 refine oq 65 (I r3) rfl (cP (Tf hr3)) ?_
 refine cq 2 [4] [I r3] 81 ?_
 obtain rfl:=Option.some.inj h
 exact aj rfl (qp [I r3])
theorem CQ {G:Go.Ln.Ground}[TabG Tryz.prog G]:aK Tryz.prog G 247 qJ:=gT 2 0 (aJ ND bn) (Checked.mixed Tryz.checked) Tryz.func247 (fun a r h=>Ny a.1 a.2 r h)
def AB:(ac×ac)→List V:=cA str (oA str)
def Af (r:Int):V×List V:=(I r,[])
noncomputable def wO:Ent:=aW [false,false] AB Af fun x=>Fx x.1 x.2
theorem RT {s_1:ac}{substr_2:ac}{r}(h:Fx s_1 substr_2=some r):wO.F (AB (s_1,substr_2))=some (Af r):=aF (bO bp (aE bp)) h
noncomputable def Lf:Code:=aD Tryz.f246
noncomputable def Fe:Env:=bW Tryz.prog [(266,gU),(247,qJ)]
def KC (x:ac×ac)(r:Int):St→Prop:=QF Fe Tryz.f246 [false,false] (AB x) (Af r)
theorem GM (s_1:ac)(substr_2:ac):cI Fe 0 (KC (s_1,substr_2)) (cL (cL (cR (cR (cR (cR Lf)))))) 0 (Hp s_1 substr_2) (fun u=>(sT 34 [] [] 1)) fun x5=>(sT 34 [(0,str x5.1),(1,str substr_2),(5,I x5.2)] [] 1):=eC (GO s_1 substr_2) fun {Q K} hK self ih x5 y h hr hn=>by
 unfold om at h
 refine cq 5 [20,21] [str x5.1,str substr_2] 33 ?_
 obtain⟨r6,hr6,h⟩:=bS h
 refine oq 49 (I r6) rfl (cP (KP hr6)) ?_
 refine cq 8 [6,24] [I r6,B (r6==(-1))] 97 ?_
 refine sq h (fun h=>?_) fun h=>?_
 ·refine cq 5 [4] [I x5.2] 129 ?_
  exact aj rfl (hr _ (Option.some.inj h).symm _ (qp [I x5.2]))
 ·refine aq 1 ?_
  refine cq 12 [5,28,32] [I (an (x5.2+1)),str x5.1,I (an (r6+(len substr_2)))] 225 ?_
  obtain⟨s7,hs7,h⟩:=bS h
  refine oq 241 (str s7) rfl (fy rfl rfl rfl rfl (sV rfl rfl rfl hs7)) ?_
  refine cq 3 [0] [str s7] 257 ?_
  refine dC ?_
  exact rf [0,1,5] [] (ih _ _ h hr hn :)
theorem N0 (s_1:ac)(substr_2:ac)(r:Int)(h:Fx s_1 substr_2=some r):bl Fe Tryz.f246 [false,false] 0 (AB (s_1,substr_2)) (Af r):=by
 show Run _ _ (KC (s_1,substr_2) r) [.code Lf] _
 refine rI 34 [(0,str s_1),(1,str substr_2)] [] 1 ?_
 unfold Fx at h
 refine cq 11 [9] [B ((len substr_2)==0)] 65 ?_
 refine sq h (fun h=>?_) fun h=>?_
 ·cases h
 ·refine aq 1 ?_
  refine cq 7 [15] [B ((len substr_2)==1)] 113 ?_
  refine sq h (fun h=>?_) fun h=>?_
  ·refine cq 4 [16,17] [str s_1,str substr_2] 145 ?_
   obtain⟨c3,hc3,h⟩:=bS h
   refine oq 161 (.int .u8 (c3.toNat:Int)) rfl (kr rfl rfl (nW rfl rfl hc3)) ?_
   obtain⟨r4,hr4,h⟩:=bS h
   refine oq 177 (I r4) rfl (cP (BQ hr4)) ?_
   refine cq 2 [4] [I r4] 193 ?_
   obtain rfl:=Option.some.inj h
   exact aj rfl (qp [I r4])
  ·refine aq 1 ?_
   refine cq 5 [5] [I (0)] 129 ?_
   obtain⟨y8,hy8,hy81,hy82⟩:=bJ h
   refine ci rfl ?_
   refine rf [0,1,5] [] (GM s_1 substr_2 rfl (s_1,0) _ hy8 (fun r' e st hq=>by rw[hy81 r' e] at hq;exact hq) fun u8 hu=>?_)
   replace h:=hy82 u8 hu
   cases h
theorem LE {G:Go.Ln.Ground}[TabG Tryz.prog G]:aK Tryz.prog G 246 wO:=gT 2 0 (aJ uB (aJ CQ bn)) (Checked.mixed Tryz.checked) Tryz.func246 (fun a r h=>N0 a.1 a.2 r h)
def yo:(ac×ac×Int×Int)→List V:=cA str (cA str (cA I (oA I)))
def zb (r:(List ac)):V×List V:=(.usl 1 (r.map str),[])
noncomputable def vU:Ent:=aW [false,false,false,false] yo zb fun x=>Eu x.1 x.2.1 x.2.2.1 x.2.2.2
theorem RJ {s_1:ac}{sep_2:ac}{sepSave_3:Int}{n_4:Int}{r}(h:Eu s_1 sep_2 sepSave_3 n_4=some r):vU.F (yo (s_1,sep_2,sepSave_3,n_4))=some (zb r):=aF (bO bp (bO bp (bO bK (aE bK)))) h
noncomputable def Ge:Code:=aD Tryz.f227
noncomputable abbrev PS:Code:=cL (cL (cL (cR (cR (cR (cR (cR (cR (cR (cR Ge))))))))))
noncomputable def AD:Env:=bW Tryz.prog [(247,qJ),(246,wO)]
def rD (x:ac×ac×Int×Int)(r:(List ac)):St→Prop:=QF AD Tryz.f227 [false,false,false,false] (yo x) (zb r)
theorem Hd (s_1:ac)(sep_2:ac)(sepSave_3:Int)(n_4:Int)(u5:Int):cI AD 0 (rD (s_1,sep_2,sepSave_3,n_4)) PS 0 (uw s_1 sep_2 sepSave_3 n_4 u5) (fun u=>(sT 66 [(0,str u.1),(9,.hs 1 0 [] 1 0 (u.2.2.map str).length),(10,I u.2.1)] [⟨0,1,u.2.2.map str⟩] 2)) fun x7=>(sT 66 [(0,str x7.1),(1,str sep_2),(2,I sepSave_3),(3,I (an ((if (an ((len s_1)+1))<u5 then (an ((len s_1)+1)) else u5) - 1))),(9,.hs 1 0 [] 1 0 (x7.2.2.map str).length),(10,I x7.2.1)] [⟨0,1,x7.2.2.map str⟩] 2):=eC (uG s_1 sep_2 sepSave_3 n_4 u5) fun {Q K} hK self ih x7 y h hr hn=>by
 unfold nS at h
 refine cq 7 [36] [B (decide (x7.2.1<(an ((if (an ((len s_1)+1))<u5 then (an ((len s_1)+1)) else u5) - 1))))] 50 ?_
 refine sq h (fun h=>?_) fun h=>?_
 ·refine aq 1 ?_
  refine cq 5 [37,38] [str x7.1,str sep_2] 82 ?_
  obtain⟨r8,hr8,h⟩:=bS h
  refine oq 98 (I r8) rfl (cP (KP hr8)) ?_
  refine cq 8 [11,41] [I r8,B (decide (r8<0))] 146 ?_
  refine sq h (fun h=>?_) fun h=>?_
  ·refine aq 1 ?_
   exact rf [0,9,10] [1] (hn _ (Option.some.inj h).symm :) (hk:=hK)
  ·refine aq 1 ?_
   refine cq 8 [42,43,44,47] [.hs 1 0 [] 1 0 (x7.2.2.map str).length,I x7.2.1,str x7.1,I (an (r8+sepSave_3))] 242 ?_
   obtain⟨s9,hs9,h⟩:=bS h
   refine oq 258 (str s9) rfl (fy rfl rfl rfl rfl (sV rfl rfl rfl hs9)) ?_
   obtain⟨e10,he10,h⟩:=bS h
   refine oq 274 (.hp 1 0 [] 1 (0+Int.toNat x7.2.1) 0) rfl (ao rfl rfl rfl (iY (f:=str) (xs:=x7.2.2) rfl rfl rfl he10)) ?_
   refine o0 290 rfl rfl (li rfl rfl (iz (path:=[]) (pl:=true) (e':=str s9) (es2':=(eU x7.2.2 x7.2.1 s9).map str) rfl (eR rfl) rfl rfl rfl bM (gB (f:=str) (xs:=x7.2.2) he10) rfl rfl rfl (mY (f:=str) (xs:=x7.2.2) (y:=s9)) fU 0 rfl)) ?_
   try rw[←lQ (f:=str) (xs:=x7.2.2) (i:=x7.2.1) (z:=s9)]
   refine cq 8 [50,54] [str x7.1,I (an (r8+(len sep_2)))] 370 ?_
   obtain⟨s11,hs11,h⟩:=bS h
   refine oq 386 (str s11) rfl (fy rfl rfl rfl rfl (sV rfl rfl rfl hs11)) ?_
   refine cq 8 [0,10] [str s11,I (an (x7.2.1+1))] 450 ?_
   refine dC ?_
   exact rf [0,1,2,3,9,10] [1] (ih _ _ h hr hn :)
 ·refine aq 1 ?_
  exact rf [0,9,10] [1] (hn _ (Option.some.inj h).symm :) (hk:=hK)
theorem Nx (s_1:ac)(sep_2:ac)(sepSave_3:Int)(n_4:Int)(r:(List ac))(h:Eu s_1 sep_2 sepSave_3 n_4=some r):bl AD Tryz.f227 [false,false,false,false] 0 (yo (s_1,sep_2,sepSave_3,n_4)) (zb r):=by
 show Run _ _ (rD (s_1,sep_2,sepSave_3,n_4) r) [.code Ge] _
 refine rI 66 [(0,str s_1),(1,str sep_2),(2,I sepSave_3),(3,I n_4)] [] 1 ?_
 unfold Eu at h
 refine cq 10 [13] [B (n_4==0)] 49 ?_
 refine sq h (fun h=>?_) fun h=>?_
 ·refine cq 4 [8] [.isl true []] 65 ?_
  refine PY 8 0 1 81 (.hs 65 0 [] 1 0 0) rfl rfl rfl rfl rfl ?_
  obtain rfl:=Option.some.inj h
  exact aj rfl ⟨_,fin (vs:=[.hs 65 0 [] 1 0 0]) rfl (fK (gt rfl (dK (k:=0) (es:=[]) rfl rfl)) et) rfl (fh (fh (fh (fh fT)))),fI⟩
 ·refine aq 1 ?_
  refine cq 6 [15] [B (sep_2==([]:ac))] 81 ?_
  refine sq h (fun h=>?_) fun h=>?_
  ·cases h
  ·refine aq 1 ?_
   refine cq 6 [20] [B (decide (n_4<0))] 113 ?_
   obtain⟨y5,hy5,hy51,hy52⟩:=bJ h
   have j5:∀u5,y5=.inr u5→Run AD 0 (rD (s_1,sep_2,sepSave_3,n_4) r) (.code (cR (cR (cR (cR Ge))))::[]) (sT 66 [(0,str s_1),(1,str sep_2),(2,I sepSave_3),(3,I u5)] [] 1):=by
    intro u5 hu
    replace h:=hy52 u5 hu
    refine cq 12 [3,30] [I (if (an ((len s_1)+1))<u5 then (an ((len s_1)+1)) else u5),I (if (an ((len s_1)+1))<u5 then (an ((len s_1)+1)) else u5)] 113 ?_
    obtain⟨m6,hm6,h⟩:=bS h
    refine oq 129 (.hs 113 0 [] 1 0 (m6.map str).length) rfl (lU rfl rfl (Ll (f:=str) rfl rfl rfl (by decide) hm6 rfl)) ?_
    refine cq 14 [3,9,10] [I (an ((if (an ((len s_1)+1))<u5 then (an ((len s_1)+1)) else u5) - 1)),.hs 113 0 [] 1 0 (m6.map str).length,I (0)] 209 ?_
    obtain⟨y12,hy12,hy121,hy122⟩:=bJ h
    refine ci rfl ?_
    refine rf [0,1,2,3,9,10] [113] (Hd s_1 sep_2 sepSave_3 n_4 u5 rfl (s_1,0,m6) _ hy12 (fun r' e st hq=>by rw[hy121 r' e] at hq;exact hq) fun u12 hu=>?_)
    replace h:=hy122 u12 hu
    refine cq 5 [58,59,60] [.hs 1 0 [] 1 0 (u12.2.2.map str).length,I u12.2.1,str u12.1] 50 ?_
    obtain⟨e13,he13,h⟩:=bS h
    refine oq 66 (.hp 1 0 [] 1 (0+Int.toNat u12.2.1) 0) rfl (ao rfl rfl rfl (iY (f:=str) (xs:=u12.2.2) rfl rfl rfl he13)) ?_
    refine o0 82 rfl rfl (li rfl rfl (iz (path:=[]) (pl:=true) (e':=str u12.1) (es2':=(eU u12.2.2 u12.2.1 u12.1).map str) rfl (eR rfl) rfl rfl rfl bM (gB (f:=str) (xs:=u12.2.2) he13) rfl rfl rfl (mY (f:=str) (xs:=u12.2.2) (y:=u12.1)) fU 0 rfl)) ?_
    try rw[←lQ (f:=str) (xs:=u12.2.2) (i:=u12.2.1) (z:=u12.1)]
    refine cq 6 [62,64] [.hs 1 0 [] 1 0 ((eU u12.2.2 u12.2.1 u12.1).map str).length,I (an (u12.2.1+1))] 130 ?_
    obtain⟨s14,hs14,h⟩:=bS h
    refine oq 146 (.hs 1 0 [] 1 (0+Int.toNat (0)) (Int.toNat (an (u12.2.1+1)) - Int.toNat (0))) rfl (fy rfl rfl rfl rfl (qd (f:=str) (xs:=(eU u12.2.2 u12.2.1 u12.1)) rfl rfl rfl rfl rfl hs14)) ?_
    refine cq 2 [8] [.hs 1 0 [] 1 (0+Int.toNat (0)) (Int.toNat (an (u12.2.1+1)) - Int.toNat (0))] 162 ?_
    obtain⟨p15,hp15,h⟩:=bS h
    obtain rfl:=Option.some.inj h
    exact aj rfl ⟨_,fin (vs:=[.hs 1 0 [] 1 (0+Int.toNat (0)) (Int.toNat (an (u12.2.1+1)) - Int.toNat (0))]) rfl (fK (gt rfl (LG (path:=[]) (f:=str) (xs:=(eU u12.2.2 u12.2.1 u12.1)) rfl rfl bM hp15 rfl xE)) et) rfl (fh (fh (fh (fh fT)))),fI⟩
   have r5:∀r',y5=.inl r'→∀st,rD (s_1,sep_2,sepSave_3,n_4) r' st→(rD (s_1,sep_2,sepSave_3,n_4) r) st:=fun r' e st hq=>by rw[hy51 r' e] at hq;exact hq
   replace h:=hy5
   refine sq h (fun h=>?_) fun h=>?_
   ·refine cq 3 [21,22] [str s_1,str sep_2] 145 ?_
    obtain⟨r16,hr16,h⟩:=bS h
    refine oq 161 (I r16) rfl (cP (RT hr16)) ?_
    refine cq 3 [3] [I (an (r16+1))] 193 ?_
    exact rf [0,1,2,3] [] (j5 _ (Option.some.inj h).symm :)
   ·refine aq 1 ?_
    exact rf [0,1,2,3] [] (j5 _ (Option.some.inj h).symm :)
theorem MJ {G:Go.Ln.Ground}[TabG Tryz.prog G]:aK Tryz.prog G 227 vU:=gT 4 0 (aJ CQ (aJ LE bn)) (Checked.mixed Tryz.checked) Tryz.func227 (fun a r h=>Nx a.1 a.2.1 a.2.2.1 a.2.2.2 r h)
def zd:(ac×ac)→List V:=cA str (oA str)
def Bd (r:(List ac)):V×List V:=(.usl 1 (r.map str),[])
noncomputable def wh:Ent:=aW [false,false] zd Bd fun x=>vP x.1 x.2
theorem Su {s_1:ac}{sep_2:ac}{r}(h:vP s_1 sep_2=some r):wh.F (zd (s_1,sep_2))=some (Bd r):=aF (bO bp (aE bp)) h
noncomputable def RU:Code:=aD Tryz.f201
noncomputable def Kh:Env:=bW Tryz.prog [(227,vU)]
def Rl (x:ac×ac)(r:(List ac)):St→Prop:=QF Kh Tryz.f201 [false,false] (zd x) (Bd r)
theorem MS (s_1:ac)(sep_2:ac)(r:(List ac))(h:vP s_1 sep_2=some r):bl Kh Tryz.f201 [false,false] 0 (zd (s_1,sep_2)) (Bd r):=by
 show Run _ _ (Rl (s_1,sep_2) r) [.code RU] _
 refine rI 8 [(0,str s_1),(1,str sep_2)] [] 1 ?_
 unfold vP at h
 refine cq 8 [5,6] [str s_1,str sep_2] 49 ?_
 obtain⟨r3,hr3,h⟩:=bS h
 refine oq 65 (.hs 49 0 [] 1 0 (r3.map str).length) rfl (cP (RJ hr3)) ?_
 refine cq 2 [4] [.hs 49 0 [] 1 0 (r3.map str).length] 81 ?_
 obtain rfl:=Option.some.inj h
 exact aj rfl ⟨_,fin (vs:=[.hs 49 0 [] 1 0 (r3.map str).length]) rfl (fK (gt rfl (dK rfl rfl)) et) rfl (fh (fh fT)),fI⟩
theorem KH {G:Go.Ln.Ground}[TabG Tryz.prog G]:aK Tryz.prog G 201 wh:=gT 2 0 (aJ MJ bn) (Checked.mixed Tryz.checked) Tryz.func201 (fun a r h=>MS a.1 a.2 r h)
def zH:((List ac)×ac)→List V:=cA (mj str) (oA str)
def AY (r:Int):V×List V:=(I r,[])
noncomputable def wz:Ent:=aW [false,false] zH AY fun x=>xh x.1 x.2
theorem Rm {s_1:List ac}{v_2:ac}{r}(h:xh s_1 v_2=some r):wz.F (zH (s_1,v_2))=some (AY r):=aF (bO (dG bp) (aE bp)) h
noncomputable def KO:Code:=aD Tryz.f189
noncomputable def Ep:Env:=bW Tryz.prog []
def L5 (x:(List ac)×ac)(r:Int):St→Prop:=QF Ep Tryz.f189 [false,false] (zH x) (AY r)
theorem GK (s_1:List ac)(v_2:ac):cI Ep 0 (L5 (s_1,v_2)) (cL (cL (cR (cL (cR KO))))) 0 (na s_1 v_2) (fun u=>(sT 19 [] [] 1)) fun x3=>(sT 19 [(0,.isl false (s_1.map str)),(1,str v_2),(7,I (len s_1)),(8,I x3)] [] 1):=eC (uL s_1 v_2) fun {Q K} hK self ih x3 y h hr hn=>by
 unfold jh at h
 refine cq 5 [9] [B (decide (x3<(len s_1)))] 17 ?_
 refine sq h (fun h=>?_) fun h=>?_
 ·refine aq 1 ?_
  refine cq 12 [5,11,12,13] [I x3,str v_2,.isl false (s_1.map str),I x3] 97 ?_
  obtain⟨e4,he4,h⟩:=bS h
  refine oq 113 (.iptr (str e4) 0) rfl (ao rfl rfl rfl (bh rfl rfl rfl rfl he4)) ?_
  refine cq 3 [16] [B (v_2==e4)] 145 ?_
  refine sq h (fun h=>?_) fun h=>?_
  ·refine cq 5 [4] [I x3] 177 ?_
   exact aj rfl (hr _ (Option.some.inj h).symm _ (qp [I x3]))
  ·refine aq 1 ?_
   refine cq 5 [8] [I (an (x3+1))] 177 ?_
   refine dC ?_
   exact rf [0,1,7,8] [] (ih _ _ h hr hn :)
 ·refine aq 1 ?_
  exact rf [] [] (hn _ (Option.some.inj h).symm :) (hk:=hK)
theorem Nc (s_1:List ac)(v_2:ac)(r:Int)(h:xh s_1 v_2=some r):bl Ep Tryz.f189 [false,false] 0 (zH (s_1,v_2)) (AY r):=by
 show Run _ _ (L5 (s_1,v_2) r) [.code KO] _
 refine rI 19 [(0,.isl false (s_1.map str)),(1,str v_2)] [] 1 ?_
 unfold xh at h
 refine cq 8 [6] [.isl false (s_1.map str)] 33 ?_
 refine oq 49 (I (len s_1)) rfl (bT rfl rfl rfl (ce rfl)) ?_
 refine cq 3 [8] [I (0)] 65 ?_
 obtain⟨y5,hy5,hy51,hy52⟩:=bJ h
 refine ci rfl ?_
 refine rf [0,1,7,8] [] (GK s_1 v_2 rfl 0 _ hy5 (fun r' e st hq=>by rw[hy51 r' e] at hq;exact hq) fun u5 hu=>?_)
 replace h:=hy52 u5 hu
 refine cq 4 [4] [I (-1)] 17 ?_
 obtain rfl:=Option.some.inj h
 exact aj rfl (qp [I (-1)])
theorem Lx {G:Go.Ln.Ground}[TabG Tryz.prog G]:aK Tryz.prog G 189 wz:=gT 2 0 bn (Checked.mixed Tryz.checked) Tryz.func189 (fun a r h=>Nc a.1 a.2 r h)
def zQ:((List ac)×ac)→List V:=cA (mj str) (oA str)
def Bk (r:Bool):V×List V:=(B r,[])
noncomputable def qI:Ent:=aW [false,false] zQ Bk fun x=>oT x.1 x.2
theorem JU {s_1:List ac}{v_2:ac}{r}(h:oT s_1 v_2=some r):qI.F (zQ (s_1,v_2))=some (Bk r):=aF (bO (dG bp) (aE bp)) h
noncomputable def Q9:Code:=aD Tryz.f130
noncomputable def L8:Env:=bW Tryz.prog [(189,wz)]
def RC (x:(List ac)×ac)(r:Bool):St→Prop:=QF L8 Tryz.f130 [false,false] (zQ x) (Bk r)
theorem N5 (s_1:List ac)(v_2:ac)(r:Bool)(h:oT s_1 v_2=some r):bl L8 Tryz.f130 [false,false] 0 (zQ (s_1,v_2)) (Bk r):=by
 show Run _ _ (RC (s_1,v_2) r) [.code Q9] _
 refine rI 9 [(0,.isl false (s_1.map str)),(1,str v_2)] [] 1 ?_
 unfold oT at h
 refine cq 8 [5,6] [.isl false (s_1.map str),str v_2] 49 ?_
 obtain⟨r3,hr3,h⟩:=bS h
 refine oq 65 (I r3) rfl (cP (Rm hr3)) ?_
 refine cq 3 [4] [B (decide (r3≥0))] 97 ?_
 obtain rfl:=Option.some.inj h
 exact aj rfl (qp [B (decide (r3≥0))])
theorem CH {G:Go.Ln.Ground}[TabG Tryz.prog G]:aK Tryz.prog G 130 qI:=gT 2 0 (aJ Lx bn) (Checked.mixed Tryz.checked) Tryz.func130 (fun a r h=>N5 a.1 a.2 r h)
def Ed:ac→List V:=oA str
def DP (r:Bool):V×List V:=(B r,[])
noncomputable def pT:Ent:=aW [false] Ed DP fun x=>tk x
theorem DT {s_1:ac}{r}(h:tk s_1=some r):pT.F (Ed s_1)=some (DP r):=aF (aE bp) h
noncomputable def uh:Code:=aD Tryz.f159
noncomputable abbrev nF:Code:=cL (cL (cR (cL (cR (cR uh)))))
noncomputable abbrev Ai:Code:=cR (cR (cR nF))
noncomputable abbrev Bb:Code:=cR (cR (cR (cL (cL (cR (cR nF))))))
noncomputable def mL:Env:=bW Tryz.prog [(86,jj),(201,wh),(130,qI)]
def ov (x:ac)(r:Bool):St→Prop:=QF mL Tryz.f159 [false] (Ed x) (DP r)
theorem IX (s_1:ac):cI mL 0 (ov s_1) nF 0 (sK s_1) (fun u=>(sT 46 [(0,str s_1)] [] 1)) fun x4=>(sT 46 [(0,str s_1),(20,I (len s_1)),(21,I x4)] [] 1):=eC (AV s_1) fun {Q K} hK self ih x4 y h hr hn=>by
 unfold lN at h
 refine cq 5 [22] [B (decide (x4<(len s_1)))] 17 ?_
 refine sq h (fun h=>?_) fun h=>?_
 ·refine aq 1 ?_
  refine cq 11 [24,25] [str s_1,I x4] 81 ?_
  obtain⟨c5,hc5,h⟩:=bS h
  refine oq 97 (.int .u8 (c5.toNat:Int)) rfl (kr rfl rfl (nW rfl rfl hc5)) ?_
  refine cq 7 [4,29] [.int .u8 (c5.toNat:Int),B (decide ((c5.toNat:Int)<97))] 161 ?_
  obtain⟨u6,hu6,h⟩:=lJ h
  have j6:Run mL 0 Q (.code Bb::.blk 1::.code Ai::.lp nF::.blk 0::K) (sT 46 [(0,str s_1),(20,I (len s_1)),(21,I x4),(40,B u6)] [] 1):=by
   refine sq h (fun h=>?_) fun h=>?_
   ·refine cq 4 [2] [B false] 17 ?_
    exact aj rfl (hr _ (Option.some.inj h).symm _ (qp [B false]))
   ·refine aq 1 ?_
    refine cq 5 [21] [I (an (x4+1))] 33 ?_
    refine dC ?_
    exact rf [0,20,21] [] (ih _ _ h hr hn :)
  replace h:=hu6
  clear hu6
  refine sp 29 h rfl (fun h=>?_) fun h=>?_
  ·refine cq 7 [33,36] [B true,B (decide ((c5.toNat:Int)<48))] 273 ?_
   obtain⟨u7,hu7,h⟩:=lJ h
   have j7:Run mL 0 Q (.code Bb::.blk 1::.code Ai::.lp nF::.blk 0::K) (sT 46 [(0,str s_1),(20,I (len s_1)),(21,I x4),(40,B u7)] [] 1):=by
    subst h
    exact rf [0,20,21,40] [] (j6 :)
   replace h:=hu7
   clear hu7
   refine sp 36 h rfl (fun h=>?_) fun h=>?_
   ·refine cq 5 [40] [B true] 337 ?_
    subst h
    exact rf [0,20,21,40] [] (j7 :)
   ·refine cq 5 [40] [B (decide ((c5.toNat:Int)>57))] 337 ?_
    subst h
    exact rf [0,20,21,40] [] (j7 :)
  ·refine cq 4 [33] [B (decide ((c5.toNat:Int)>122))] 225 ?_
   obtain⟨u8,hu8,h⟩:=lJ h
   have j8:Run mL 0 Q (.code Bb::.blk 1::.code Ai::.lp nF::.blk 0::K) (sT 46 [(0,str s_1),(20,I (len s_1)),(21,I x4),(40,B u8)] [] 1):=by
    subst h
    exact rf [0,20,21,40] [] (j6 :)
   replace h:=hu8
   clear hu8
   refine sp 33 h rfl (fun h=>?_) fun h=>?_
   ·refine cq 3 [36] [B (decide ((c5.toNat:Int)<48))] 273 ?_
    obtain⟨u9,hu9,h⟩:=lJ h
    have j9:Run mL 0 Q (.code Bb::.blk 1::.code Ai::.lp nF::.blk 0::K) (sT 46 [(0,str s_1),(20,I (len s_1)),(21,I x4),(40,B u9)] [] 1):=by
     subst h
     exact rf [0,20,21,40] [] (j8 :)
    replace h:=hu9
    clear hu9
    refine sp 36 h rfl (fun h=>?_) fun h=>?_
    ·refine cq 5 [40] [B true] 337 ?_
     subst h
     exact rf [0,20,21,40] [] (j9 :)
    ·refine cq 5 [40] [B (decide ((c5.toNat:Int)>57))] 337 ?_
     subst h
     exact rf [0,20,21,40] [] (j9 :)
   ·refine cq 8 [40] [B false] 337 ?_
    subst h
    exact rf [0,20,21,40] [] (j8 :)
 ·refine aq 1 ?_
  exact rf [0] [] (hn _ (Option.some.inj h).symm :) (hk:=hK)
theorem Q3 (s_1:ac)(r:Bool)(h:tk s_1=some r):bl mL Tryz.f159 [false] 0 (Ed s_1) (DP r):=by
 show Run _ _ (ov s_1 r) [.code uh] _
 refine rI 46 [(0,str s_1)] [] 1 ?_
 unfold tk at h
 refine cq 9 [6] [I (len s_1)] 49 ?_
 obtain⟨r2,hr2,h⟩:=bS h
 refine oq 65 (B r2) rfl (cP (jN hr2)) ?_
 refine cq 2 [9] [B (!r2)] 97 ?_
 obtain⟨y3,hy3,hy31,hy32⟩:=bJ h
 have j3:∀u3,y3=.inr u3→Run mL 0 (ov s_1 r) (.code (cR (cL (cR uh)))::.code (cR (cR uh))::[]) (sT 46 [(0,str s_1),(18,B u3)] [] 1):=by
  intro u3 hu
  replace h:=hy32 u3 hu
  refine sq h (fun h=>?_) fun h=>?_
  ·refine cq 4 [2] [B false] 17 ?_
   obtain rfl:=Option.some.inj h
   exact aj rfl (qp [B false])
  ·refine aq 1 ?_
   refine cq 8 [20,21] [I (len s_1),I (0)] 49 ?_
   obtain⟨y10,hy10,hy101,hy102⟩:=bJ h
   refine ci rfl ?_
   refine rf [0,20,21] [] (IX s_1 rfl 0 _ hy10 (fun r' e st hq=>by rw[hy101 r' e] at hq;exact hq) fun u10 hu=>?_)
   replace h:=hy102 u10 hu
   refine aq 2 ?_
   obtain⟨r11,hr11,h⟩:=bS h
   refine oq 17 (.hs 1 0 [] 1 0 (r11.map str).length) rfl (cP (Su hr11)) ?_
   refine cq 1 [43] [str s_1] 33 ?_
   obtain⟨r12,hr12,h⟩:=bS h
   refine oq 49 (B r12) rfl (bU rfl rfl (cm rfl rfl rfl (bX (TZ rfl rfl (nH (f:=str) (g:=str) (xs:=r11) rfl rfl (eK lC))) (bX (cj rfl) cN)) (JU hr12) (.inl rfl) dF rfl rfl rfl)) ?_
   refine cq 3 [2] [B (!r12)] 81 ?_
   obtain rfl:=Option.some.inj h
   exact aj rfl (qp [B (!r12)])
 have r3:∀r',y3=.inl r'→∀st,ov s_1 r' st→(ov s_1 r) st:=fun r' e st hq=>by rw[hy31 r' e] at hq;exact hq
 replace h:=hy3
 refine sp 9 h rfl (fun h=>?_) fun h=>?_
 ·refine cq 10 [18] [B true] 241 ?_
  exact rf [0,18] [] (j3 _ (Option.some.inj h).symm :)
 ·refine cq 1 [10] [str s_1] 113 ?_
  obtain⟨c13,hc13,h⟩:=bS h
  refine oy 129 (.int .u8 (c13.toNat:Int)) rfl (kr rfl rfl (nW rfl rfl hc13)) ?_
  refine cq 3 [14] [B (decide ((c13.toNat:Int)<97))] 177 ?_
  obtain⟨y14,hy14,hy141,hy142⟩:=bL h
  have j14:∀u14,y14=.inr u14→Run mL 0 (ov s_1 r) (.code (cR (cL (cR uh)))::.code (cR (cR uh))::[]) (sT 46 [(0,str s_1),(18,B u14)] [] 1):=by
   intro u14 hu
   replace h:=hy142 u14 hu
   exact rf [0,18] [] (j3 _ (Option.some.inj h).symm :)
  have r14:∀r',y14=.inl r'→∀st,ov s_1 r' st→(ov s_1 r) st:=fun r' e st hq=>r3 r' (hy141 r' e) st hq
  replace h:=hy14
  refine sp 14 h rfl (fun h=>?_) fun h=>?_
  ·refine cq 5 [18] [B true] 241 ?_
   exact rf [0,18] [] (j14 _ (Option.some.inj h).symm :)
  ·refine cq 1 [15] [str s_1] 193 ?_
   obtain⟨c15,hc15,h⟩:=bS h
   refine oy 209 (.int .u8 (c15.toNat:Int)) rfl (kr rfl rfl (nW rfl rfl hc15)) ?_
   refine cq 3 [18] [B (decide ((c15.toNat:Int)>122))] 241 ?_
   exact rf [0,18] [] (j14 _ (Option.some.inj h).symm :)
theorem vK {G:Go.Ln.Ground}[TabG Tryz.prog G]:aK Tryz.prog G 159 pT:=gT 1 0 (aJ jX (aJ KH (aJ CH bn))) (Checked.mixed Tryz.checked) Tryz.func159 (fun a r h=>Q3 a r h)
def Dr:(List ac)→List V:=oA (mj str)
def Dl (r:Bool):V×List V:=(B r,[])
noncomputable def BP:Ent:=aW [false] Dr Dl fun x=>FQ x
theorem Tl {list_1:List ac}{r}(h:FQ list_1=some r):BP.F (Dr list_1)=some (Dl r):=aF (aE (dG bp)) h
noncomputable def xL:Code:=aD Tryz.f123
noncomputable def Dw:Env:=bW Tryz.prog [(159,pT),(130,qI),(86,jj)]
def H6 (x:(List ac))(r:Bool):St→Prop:=QF Dw Tryz.f123 [false] (Dr x) (Dl r)
theorem Ji (list_1:List ac):cI Dw 0 (H6 list_1) (cL (cL (cR (cL (cR xL))))) 0 (tC list_1) (fun u=>(sT 26 [(0,.isl false (list_1.map str))] [] 1)) fun x2=>(sT 26 [(0,.isl false (list_1.map str)),(5,.isl false (list_1.map str)),(6,I (len list_1)),(7,I x2)] [] 1):=eC (ye list_1) fun {Q K} hK self ih x2 y h hr hn=>by
 unfold jU at h
 refine cq 5 [8] [B (decide (x2<(len list_1)))] 17 ?_
 refine sq h (fun h=>?_) fun h=>?_
 ·refine aq 1 ?_
  refine cq 5 [9] [I x2] 33 ?_
  obtain⟨e3,he3,h⟩:=bS h
  refine oq 49 (.iptr (str e3) 0) rfl (ao rfl rfl rfl (bh rfl rfl rfl rfl he3)) ?_
  refine cq 7 [3,4,12] [I x2,str e3,str e3] 113 ?_
  obtain⟨r4,hr4,h⟩:=bS h
  refine oq 129 (B r4) rfl (cP (DT hr4)) ?_
  refine cq 2 [15] [B (!r4)] 161 ?_
  obtain⟨y5,hy5,hy51,hy52⟩:=bL h
  have j5:∀u5,y5=.inr u5→Run Dw 0 Q (.code (cR (cR (cL (cL (cR (cR (cL (cL (cR (cL (cR xL)))))))))))::.blk 1::.code (cR (cR (cR (cL (cL (cR (cL (cR xL))))))))::.lp (cL (cL (cR (cL (cR xL)))))::.blk 0::K) (sT 26 [(0,.isl false (list_1.map str)),(5,.isl false (list_1.map str)),(6,I (len list_1)),(7,I x2),(21,B u5)] [] 1):=by
   intro u5 hu
   replace h:=hy52 u5 hu
   refine sq h (fun h=>?_) fun h=>?_
   ·refine cq 4 [2] [B false] 17 ?_
    exact aj rfl (hr _ (Option.some.inj h).symm _ (qp [B false]))
   ·refine aq 1 ?_
    refine cq 5 [7] [I (an (x2+1))] 33 ?_
    refine dC ?_
    exact rf [0,5,6,7] [] (ih _ _ h hr hn :)
  have r5:∀r',y5=.inl r'→∀st,H6 list_1 r' st→Q st:=fun r' e st hq=>hr r' (hy51 r' e) st hq
  replace h:=hy5
  refine sp 15 h rfl (fun h=>?_) fun h=>?_
  ·refine cq 7 [21] [B true] 257 ?_
   exact rf [0,5,6,7,21] [] (j5 _ (Option.some.inj h).symm :)
  ·refine cq 2 [16,17] [.isl false (list_1.map str),I x2] 193 ?_
   obtain⟨s6,hs6,h⟩:=bS h
   refine oy 209 (.isl false (s6.map str)) rfl (fy rfl rfl rfl rfl (My rfl rfl (fun y=>(iC y).1) rfl rfl hs6)) ?_
   refine cq 1 [19] [str e3] 225 ?_
   obtain⟨r7,hr7,h⟩:=bS h
   refine oy 241 (B r7) rfl (cP (JU hr7)) ?_
   refine cq 2 [21] [B r7] 257 ?_
   exact rf [0,5,6,7,21] [] (j5 _ (Option.some.inj h).symm :)
 ·refine aq 1 ?_
  exact rf [0] [] (hn _ (Option.some.inj h).symm :) (hk:=hK)
theorem Q0 (list_1:List ac)(r:Bool)(h:FQ list_1=some r):bl Dw Tryz.f123 [false] 0 (Dr list_1) (Dl r):=by
 show Run _ _ (H6 list_1 r) [.code xL] _
 refine rI 26 [(0,.isl false (list_1.map str))] [] 1 ?_
 unfold FQ at h
 refine cq 8 [5] [.isl false (list_1.map str)] 33 ?_
 refine oq 49 (I (len list_1)) rfl (bT rfl rfl rfl (ce rfl)) ?_
 refine cq 3 [7] [I (0)] 65 ?_
 obtain⟨y8,hy8,hy81,hy82⟩:=bJ h
 refine ci rfl ?_
 refine rf [0,5,6,7] [] (Ji list_1 rfl 0 _ hy8 (fun r' e st hq=>by rw[hy81 r' e] at hq;exact hq) fun u8 hu=>?_)
 replace h:=hy82 u8 hu
 refine cq 3 [23] [.isl false (list_1.map str)] 17 ?_
 refine oq 33 (I (len list_1)) rfl (bT rfl rfl rfl (ce rfl)) ?_
 obtain⟨r9,hr9,h⟩:=bS h
 refine oq 49 (B r9) rfl (cP (jN hr9)) ?_
 refine cq 2 [2] [B r9] 65 ?_
 obtain rfl:=Option.some.inj h
 exact aj rfl (qp [B r9])
theorem M5 {G:Go.Ln.Ground}[TabG Tryz.prog G]:aK Tryz.prog G 123 BP:=gT 1 0 (aJ vK (aJ CH (aJ jX bn))) (Checked.mixed Tryz.checked) Tryz.func123 (fun a r h=>Q0 a r h)
def DC:(Clause×ac)→List V:=cA ae (oA (fun x:ac=>.iptr (str x) 0))
def Dz (r:Bool):V×List V:=(B r,[])
noncomputable def Bx:Ent:=aW [false,false] DC Dz fun x=>KK x.1 x.2
theorem Tj {x_1:Clause}{a_2:ac}{r}(h:KK x_1 a_2=some r):Bx.F (DC (x_1,a_2))=some (Dz r):=aF (bO cH (aE (Ok bp))) h
noncomputable def S5:Code:=aD Tryz.f217
noncomputable def Pg:Env:=bW Tryz.prog []
def S6 (x:Clause×ac)(r:Bool):St→Prop:=QF Pg Tryz.f217 [false,false] (DC x) (Dz r)
theorem Qe (x_1:Clause)(a_2:ac)(r:Bool)(h:KK x_1 a_2=some r):bl Pg Tryz.f217 [false,false] 0 (DC (x_1,a_2)) (Dz r):=by
 show Run _ _ (S6 (x_1,a_2) r) [.code S5] _
 refine rI 8 [(0,.agg [str x_1.Id,I x_1.Kind,I x_1.Party,str x_1.Action,I x_1.Other,I x_1.Amount,I x_1.When.Op,str x_1.When.Name,I x_1.When.Day,.isl false (x_1.When.Parts.map aa),I x_1.Within,str x_1.Repair]),(1,.iptr (str a_2) 0)] [] 1 ?_
 unfold KK at h
 refine cq 13 [3] [B (x_1.Id==a_2)] 113 ?_
 obtain rfl:=Option.some.inj h
 exact aj rfl (qp [B (x_1.Id==a_2)])
theorem NM {G:Go.Ln.Ground}[TabG Tryz.prog G]:aK Tryz.prog G 217 Bx:=gT 2 0 bn (Checked.mixed Tryz.checked) Tryz.func217 (fun a r h=>Qe a.1 a.2 r h)
def yC:((List Clause)×ac)→List V:=cA (mj ae) (oA (fun x:ac=>(.fn 217 [.iptr (str x) 0]:V)))
def yp (r:Int):V×List V:=(I r,[])
noncomputable def wM:Ent:=aW [false,false] yC yp fun x=>BN x.1 x.2
theorem RM {s_1:List Clause}{f_2:ac}{r}(h:BN s_1 f_2=some r):wM.F (yC (s_1,f_2))=some (yp r):=aF (bO (dG cH) (aE (PR bp))) h
noncomputable def LX:Code:=aD Tryz.f160
noncomputable def Eo:Env:=bW Tryz.prog [(217,Bx)]
def L3 (x:(List Clause)×ac)(r:Int):St→Prop:=QF Eo Tryz.f160 [false,false] (yC x) (yp r)
theorem G0 (s_1:List Clause)(f_2:ac):cI Eo 0 (L3 (s_1,f_2)) (cL (cL (cR (cL (cR LX))))) 0 (pn s_1 f_2) (fun u=>(sT 19 [] [] 1)) fun x3=>(sT 19 [(0,.isl false (s_1.map ae)),(1,.fn 217 [.iptr (str f_2) 0]),(7,I (len s_1)),(8,I x3)] [] 1):=eC (vp s_1 f_2) fun {Q K} hK self ih x3 y h hr hn=>by
 unfold kx at h
 refine cq 5 [9] [B (decide (x3<(len s_1)))] 17 ?_
 refine sq h (fun h=>?_) fun h=>?_
 ·refine aq 1 ?_
  refine cq 12 [5,11,12,13] [I x3,.fn 217 [.iptr (str f_2) 0],.isl false (s_1.map ae),I x3] 97 ?_
  obtain⟨e4,he4,h⟩:=bS h
  refine oq 113 (.iptr (.agg [str e4.Id,I e4.Kind,I e4.Party,str e4.Action,I e4.Other,I e4.Amount,I e4.When.Op,str e4.When.Name,I e4.When.Day,.isl false (e4.When.Parts.map aa),I e4.Within,str e4.Repair]) 0) rfl (ao rfl rfl rfl (bh rfl rfl rfl rfl he4)) ?_
  refine cq 1 [15] [.agg [str e4.Id,I e4.Kind,I e4.Party,str e4.Action,I e4.Other,I e4.Amount,I e4.When.Op,str e4.When.Name,I e4.When.Day,.isl false (e4.When.Parts.map aa),I e4.Within,str e4.Repair]] 129 ?_
  obtain⟨r5,hr5,h⟩:=bS h
  refine oq 145 (B r5) rfl (cP (Tj hr5)) ?_
  refine aq 1 ?_
  refine sq h (fun h=>?_) fun h=>?_
  ·refine cq 5 [4] [I x3] 177 ?_
   exact aj rfl (hr _ (Option.some.inj h).symm _ (qp [I x3]))
  ·refine aq 1 ?_
   refine cq 5 [8] [I (an (x3+1))] 177 ?_
   refine dC ?_
   exact rf [0,1,7,8] [] (ih _ _ h hr hn :)
 ·refine aq 1 ?_
  exact rf [] [] (hn _ (Option.some.inj h).symm :) (hk:=hK)
theorem Nw (s_1:List Clause)(f_2:ac)(r:Int)(h:BN s_1 f_2=some r):bl Eo Tryz.f160 [false,false] 0 (yC (s_1,f_2)) (yp r):=by
 show Run _ _ (L3 (s_1,f_2) r) [.code LX] _
 refine rI 19 [(0,.isl false (s_1.map ae)),(1,.fn 217 [.iptr (str f_2) 0])] [] 1 ?_
 unfold BN at h
 refine cq 8 [6] [.isl false (s_1.map ae)] 33 ?_
 refine oq 49 (I (len s_1)) rfl (bT rfl rfl rfl (ce rfl)) ?_
 refine cq 3 [8] [I (0)] 65 ?_
 obtain⟨y6,hy6,hy61,hy62⟩:=bJ h
 refine ci rfl ?_
 refine rf [0,1,7,8] [] (G0 s_1 f_2 rfl 0 _ hy6 (fun r' e st hq=>by rw[hy61 r' e] at hq;exact hq) fun u6 hu=>?_)
 replace h:=hy62 u6 hu
 refine cq 4 [4] [I (-1)] 17 ?_
 obtain rfl:=Option.some.inj h
 exact aj rfl (qp [I (-1)])
theorem KI {G:Go.Ln.Ground}[TabG Tryz.prog G]:aK Tryz.prog G 160 wM:=gT 2 0 (aJ NM bn) (Checked.mixed Tryz.checked) Tryz.func160 (fun a r h=>Nw a.1 a.2 r h)
def Dx:(Contract×ac)→List V:=cA aN (oA str)
def Dt (r:Int):V×List V:=(I r,[])
noncomputable def Cm:Ent:=aW [false,false] Dx Dt fun x=>xG x.1 x.2
theorem Px {c_1:Contract}{id_2:ac}{r}(h:xG c_1 id_2=some r):Cm.F (Dx (c_1,id_2))=some (Dt r):=aF (bO bm (aE bp)) h
noncomputable def SW:Code:=aD Tryz.f184
noncomputable def Pk:Env:=bW Tryz.prog [(160,wM)]
def Tu (x:Contract×ac)(r:Int):St→Prop:=QF Pk Tryz.f184 [false,false] (Dx x) (Dt r)
theorem Ql (c_1:Contract)(id_2:ac)(r:Int)(h:xG c_1 id_2=some r):bl Pk Tryz.f184 [false,false] 0 (Dx (c_1,id_2)) (Dt r):=by
 show Run _ _ (Tu (c_1,id_2) r) [.code SW] _
 refine rI 9 [(0,.agg [.isl false (c_1.Parties.map str),.isl false (c_1.Clauses.map ae)]),(1,str id_2)] [] 1 ?_
 unfold xG at h
 refine ck 11 [6,7] [] [17] [] [.isl false (c_1.Clauses.map ae),.fn 217 [.hp 17 0 [] 1 0 0]] [some ⟨0,1,[str id_2]⟩] 97 (by kernel_rfl) ?_
 obtain⟨r3,hr3,h⟩:=bS h
 refine oq 113 (I r3) rfl (bU rfl rfl (cm rfl rfl rfl (bX (cj rfl) (bX (TX (ou (Sq (path:=[]) rfl rfl bM rfl rfl) E6)) cN)) (RM hr3) (.inl rfl) dF rfl rfl rfl)) ?_
 refine cq 2 [4] [I r3] 129 ?_
 obtain rfl:=Option.some.inj h
 exact aj rfl (qp [I r3])
theorem NO {G:Go.Ln.Ground}[TabG Tryz.prog G]:aK Tryz.prog G 184 Cm:=gT 2 0 (aJ KI bn) (Checked.mixed Tryz.checked) Tryz.func184 (fun a r h=>Ql a.1 a.2 r h)
def DS:Int→List V:=oA I
def Ei (r:Bool):V×List V:=(B r,[])
noncomputable def Ci:Ent:=aW [false] DS Ei fun x=>pg x
theorem DH {day_1:Int}{r}(h:pg day_1=some r):Ci.F (DS day_1)=some (Ei r):=aF (aE bK) h
noncomputable def ST:Code:=aD Tryz.f126
noncomputable def Pc:Env:=bW Tryz.prog [(86,jj)]
def TB (x:Int)(r:Bool):St→Prop:=QF Pc Tryz.f126 [false] (DS x) (Ei r)
theorem P4 (day_1:Int)(r:Bool)(h:pg day_1=some r):bl Pc Tryz.f126 [false] 0 (DS day_1) (Ei r):=by
 show Run _ _ (TB day_1 r) [.code ST] _
 refine rI 5 [(0,I day_1)] [] 1 ?_
 unfold pg at h
 refine cq 7 [3] [I day_1] 33 ?_
 obtain⟨r2,hr2,h⟩:=bS h
 refine oq 49 (B r2) rfl (cP (jN hr2)) ?_
 refine cq 2 [2] [B r2] 65 ?_
 obtain rfl:=Option.some.inj h
 exact aj rfl (qp [B r2])
theorem NQ {G:Go.Ln.Ground}[TabG Tryz.prog G]:aK Tryz.prog G 126 Ci:=gT 1 0 (aJ jX bn) (Checked.mixed Tryz.checked) Tryz.func126 (fun a r h=>P4 a r h)
def zN:(Condition×Int)→List V:=cA aI (oA I)
def zD (r:Int):V×List V:=(I r,[])
noncomputable def wv (slf_Ffl:(Condition×Int)→Option Int):Ent:=aW [false,false] zN zD slf_Ffl
theorem Mc (slf_Ffl:(Condition×Int)→Option Int){x}{r}(h:slf_Ffl x=some r):(wv slf_Ffl).F (zN x)=some (zD r):=aF (bO bH (aE bK)) h
noncomputable def BG:Ent:=wv (ay jQ)
theorem Tm {c_1:Condition}{so_2:Int}{r}(h:JZ c_1 so_2=some r):BG.F (zN (c_1,so_2))=some (zD r):=Mc (ay jQ) h
noncomputable def qW:Code:=aD Tryz.f218
noncomputable abbrev mf:Code:=cR (cR (cR (cR (cR qW))))
noncomputable abbrev nt:Code:=cR (cL (cR (cR (cR (cR qW)))))
noncomputable def jR (slf_Ffl:(Condition×Int)→Option Int):Env:=bW Tryz.prog [(218,(wv slf_Ffl)),(159,pT),(126,Ci),(86,jj)]
def dD (slf_Ffl:(Condition×Int)→Option Int)(x:Condition×Int)(r:Int):St→Prop:=QF (jR slf_Ffl) Tryz.f218 [false,false] (zN x) (zD r)
theorem IR (slf_Ffl:(Condition×Int)→Option Int)(c_1:Condition)(so_2:Int):cI (jR slf_Ffl) 0 (dD slf_Ffl (c_1,so_2)) (cL (cL (cR (cL mf)))) 0 (jD slf_Ffl c_1 so_2) (fun u=>(sT 78 [(1,I u)] [] 1)) fun x5=>(sT 78 [(1,I x5.1),(65,.isl false (c_1.Parts.map aa)),(66,I (len c_1.Parts)),(67,I x5.2)] [] 1):=eC (yk slf_Ffl c_1 so_2) fun {Q K} hK self ih x5 y h hr hn=>by
 unfold ji at h
 refine cq 5 [68] [B (decide (x5.2<(len c_1.Parts)))] 17 ?_
 refine sq h (fun h=>?_) fun h=>?_
 ·refine aq 1 ?_
  refine aq 4 ?_
  obtain⟨e6,he6,h⟩:=bS h
  refine oq 33 (.iptr (.agg [I e6.Op,str e6.Name,I e6.Day,.isl false (e6.Parts.map aa)]) 0) rfl (ao rfl rfl rfl (bh rfl rfl (aQ e6) rfl he6)) ?_
  refine ck 2 [7,70] [] [49] [] [.hp 49 0 [] 4 0 0,.agg [I e6.Op,str e6.Name,I e6.Day,.isl false (e6.Parts.map aa)]] [some ⟨0,4,[.agg [I (0),str ([]),I (0),.isl true []]]⟩] 65 (by kernel_rfl) ?_
  refine eF 49 [.agg [I (0),str ([]),I (0),.usl 4 (([]).map ak)]] rfl rfl (au (fH (au (.refl _) (au (.refl _) (au (.refl _) (au (.nil _) dH))))) dH) ?_
  refine ck 6 [71,72] [] [49] [] [.agg [I e6.Op,str e6.Name,I e6.Day,.isl false (e6.Parts.map aa)],I x5.1] [some ⟨2,4,[.agg [I e6.Op,str e6.Name,I e6.Day,.isl false (e6.Parts.map aa)]]⟩] 113 (by kernel_rfl) ?_
  obtain⟨r7,hr7,h⟩:=bS h
  refine oq 129 (I r7) rfl (bU rfl rfl (cm rfl rfl rfl (bX (cj rfl) (bX (cj rfl) cN)) (Mc slf_Ffl hr7) (.inr rfl) dF rfl rfl rfl)) ?_
  refine cq 7 [1,75] [I r7,B (decide (r7<0))] 177 ?_
  refine sq h (fun h=>?_) fun h=>?_
  ·refine cq 4 [4] [I (-1)] 193 ?_
   exact aj rfl (hr _ (Option.some.inj h).symm _ (qp [I (-1)]))
  ·refine aq 1 ?_
   refine cq 5 [67] [I (an (x5.2+1))] 209 ?_
   refine dC ?_
   exact rf [1,65,66,67] [] (ih _ _ h hr hn :)
 ·refine aq 1 ?_
  exact rf [1] [] (hn _ (Option.some.inj h).symm :) (hk:=hK)
theorem QV (slf_Ffl:(Condition×Int)→Option Int)(c_1:Condition)(so_2:Int)(r:Int)(h:ug slf_Ffl c_1 so_2=some r):bl (jR slf_Ffl) Tryz.f218 [false,false] 0 (zN (c_1,so_2)) (zD r):=by
 show Run _ _ (dD slf_Ffl (c_1,so_2) r) [.code qW] _
 refine rI 78 [(0,.agg [I c_1.Op,str c_1.Name,I c_1.Day,.isl false (c_1.Parts.map aa)]),(1,I so_2)] [] 1 ?_
 unfold ug at h
 refine ck 13 [1,2] [] [1] [] [I (an (so_2+1)),.hp 1 0 [] 4 0 0] [some ⟨0,4,[.agg [I c_1.Op,str c_1.Name,I c_1.Day,.isl false (c_1.Parts.map aa)]]⟩] 81 (by kernel_rfl) ?_
 refine oq 97 (.hs 81 0 [] 1 0 7) rfl (fO rfl (qm (f:=I) (xs:=[]) (z:=I (0)) (es:=[I (-1),I (0),I (0),I (0),I (1),I (2),I (2)]) (ws:=[I (-1),I (0),I (0),I (0),I (1),I (2),I (2)]) rfl rfl rfl (by decide) rfl (d8 rfl) rfl)) ?_
 refine cq 4 [5] [.hs 81 0 [] 1 0 7] 113 ?_
 refine dV [0,1,3,7,15,31,63,127,255,511,1023,2047,511,511,8703,29183,61951,131071,262143] rfl (by decide +kernel) ?_
 refine dk 3 [13,12,11] [B (decide ((an (so_2+1))>15)),B (decide ((an (so_2+1))>15)),I (an (so_2+1))] ?_
 obtain⟨y3,hy3,hy31,hy32⟩:=bJ h
 have j3:∀u3,y3=.inr u3→Run (jR slf_Ffl) 0 (dD slf_Ffl (c_1,so_2) r) (.code (cR (cL (cR (cR (cR qW)))))::.code (cR (cR (cR (cR qW))))::[]) (sT 78 [(1,I (an (so_2+1))),(2,.hp 1 0 [] 4 0 0),(29,B u3)] [⟨0,4,[.agg [I c_1.Op,str c_1.Name,I c_1.Day,.isl false (c_1.Parts.map aa)]]⟩] 2):=by
  intro u3 hu
  replace h:=hy32 u3 hu
  refine sq h (fun h=>?_) fun h=>?_
  ·refine cq 4 [4] [I (-1)] 18 ?_
   obtain rfl:=Option.some.inj h
   exact aj rfl (qp [I (-1)])
  ·refine aq 1 ?_
   refine cq 11 [37] [B (!((c_1.Op==2)==(!(c_1.Name==([]:ac)))))] 130 ?_
   obtain⟨y4,hy4,hy41,hy42⟩:=bJ h
   have j4:∀u4,y4=.inr u4→Run (jR slf_Ffl) 0 (dD slf_Ffl (c_1,so_2) r) (.code nt::.code mf::[]) (sT 78 [(1,I (an (so_2+1))),(2,.hp 1 0 [] 4 0 0),(63,B u4)] [⟨0,4,[.agg [I c_1.Op,str c_1.Name,I c_1.Day,.isl false (c_1.Parts.map aa)]]⟩] 2):=by
    intro u4 hu
    replace h:=hy42 u4 hu
    refine sq h (fun h=>?_) fun h=>?_
    ·refine cq 4 [4] [I (-1)] 18 ?_
     obtain rfl:=Option.some.inj h
     exact aj rfl (qp [I (-1)])
    ·refine aq 1 ?_
     refine cq 5 [65] [.isl false (c_1.Parts.map aa)] 34 ?_
     refine oq 50 (I (len c_1.Parts)) rfl (bT rfl rfl rfl (ce rfl)) ?_
     refine cq 3 [67] [I (0)] 66 ?_
     obtain⟨y8,hy8,hy81,hy82⟩:=bJ h
     refine ci rfl ?_
     refine rf [1,65,66,67] [] (IR slf_Ffl c_1 so_2 rfl ((an (so_2+1)),0) _ hy8 (fun r' e st hq=>by rw[hy81 r' e] at hq;exact hq) fun u8 hu=>?_)
     replace h:=hy82 u8 hu
     refine cq 5 [4] [I u8] 33 ?_
     obtain rfl:=Option.some.inj h
     exact aj rfl (qp [I u8])
   have r4:∀r',y4=.inl r'→∀st,dD slf_Ffl (c_1,so_2) r' st→(dD slf_Ffl (c_1,so_2) r) st:=fun r' e st hq=>by rw[hy41 r' e] at hq;exact hq
   replace h:=hy4
   refine sp 37 h rfl (fun h=>?_) fun h=>?_
   ·refine cq 27 [63] [B true] 546 ?_
    exact rf [1,2,63] [1] (j4 _ (Option.some.inj h).symm :)
   ·refine cq 4 [41] [B (c_1.Op==2)] 194 ?_
    obtain⟨y9,hy9,hy91,hy92⟩:=bL h
    have j9:∀u9,y9=.inr u9→Run (jR slf_Ffl) 0 (dD slf_Ffl (c_1,so_2) r) (.code nt::.code mf::[]) (sT 78 [(1,I (an (so_2+1))),(2,.hp 1 0 [] 4 0 0),(63,B u9)] [⟨0,4,[.agg [I c_1.Op,str c_1.Name,I c_1.Day,.isl false (c_1.Parts.map aa)]]⟩] 2):=by
     intro u9 hu
     replace h:=hy92 u9 hu
     exact rf [1,2,63] [1] (j4 _ (Option.some.inj h).symm :)
    have r9:∀r',y9=.inl r'→∀st,dD slf_Ffl (c_1,so_2) r' st→(dD slf_Ffl (c_1,so_2) r) st:=fun r' e st hq=>r4 r' (hy91 r' e) st hq
    replace h:=hy9
    refine sp 41 h rfl (fun h=>?_) fun h=>?_
    ·refine cq 2 [43] [str c_1.Name] 226 ?_
     obtain⟨r10,hr10,h⟩:=bS h
     refine oy 242 (B r10) rfl (cP (DT hr10)) ?_
     refine cq 4 [48] [B (!r10)] 306 ?_
     obtain⟨y11,hy11,hy111,hy112⟩:=bL h
     have j11:∀u11,y11=.inr u11→Run (jR slf_Ffl) 0 (dD slf_Ffl (c_1,so_2) r) (.code nt::.code mf::[]) (sT 78 [(1,I (an (so_2+1))),(2,.hp 1 0 [] 4 0 0),(63,B u11)] [⟨0,4,[.agg [I c_1.Op,str c_1.Name,I c_1.Day,.isl false (c_1.Parts.map aa)]]⟩] 2):=by
      intro u11 hu
      replace h:=hy112 u11 hu
      exact rf [1,2,63] [1] (j9 _ (Option.some.inj h).symm :)
     have r11:∀r',y11=.inl r'→∀st,dD slf_Ffl (c_1,so_2) r' st→(dD slf_Ffl (c_1,so_2) r) st:=fun r' e st hq=>r9 r' (hy111 r' e) st hq
     replace h:=hy11
     refine sp 48 h rfl (fun h=>?_) fun h=>?_
     ·refine cq 16 [63] [B true] 546 ?_
      exact rf [1,2,63] [1] (j11 _ (Option.some.inj h).symm :)
     ·refine cq 4 [52] [B (c_1.Op != 3)] 370 ?_
      obtain⟨y12,hy12,hy121,hy122⟩:=bL h
      have j12:∀u12,y12=.inr u12→Run (jR slf_Ffl) 0 (dD slf_Ffl (c_1,so_2) r) (.code nt::.code mf::[]) (sT 78 [(1,I (an (so_2+1))),(2,.hp 1 0 [] 4 0 0),(63,B u12)] [⟨0,4,[.agg [I c_1.Op,str c_1.Name,I c_1.Day,.isl false (c_1.Parts.map aa)]]⟩] 2):=by
       intro u12 hu
       replace h:=hy122 u12 hu
       exact rf [1,2,63] [1] (j11 _ (Option.some.inj h).symm :)
      have r12:∀r',y12=.inl r'→∀st,dD slf_Ffl (c_1,so_2) r' st→(dD slf_Ffl (c_1,so_2) r) st:=fun r' e st hq=>r11 r' (hy121 r' e) st hq
      replace h:=hy12
      refine sp 52 h rfl (fun h=>?_) fun h=>?_
      ·refine cq 6 [58] [B (c_1.Day != 0)] 466 ?_
       obtain⟨y13,hy13,hy131,hy132⟩:=bL h
       have j13:∀u13,y13=.inr u13→Run (jR slf_Ffl) 0 (dD slf_Ffl (c_1,so_2) r) (.code nt::.code mf::[]) (sT 78 [(1,I (an (so_2+1))),(2,.hp 1 0 [] 4 0 0),(63,B u13)] [⟨0,4,[.agg [I c_1.Op,str c_1.Name,I c_1.Day,.isl false (c_1.Parts.map aa)]]⟩] 2):=by
        intro u13 hu
        replace h:=hy132 u13 hu
        exact rf [1,2,63] [1] (j12 _ (Option.some.inj h).symm :)
       have r13:∀r',y13=.inl r'→∀st,dD slf_Ffl (c_1,so_2) r' st→(dD slf_Ffl (c_1,so_2) r) st:=fun r' e st hq=>r12 r' (hy131 r' e) st hq
       replace h:=hy13
       refine sp 58 h rfl (fun h=>?_) fun h=>?_
       ·refine cq 6 [63] [B true] 546 ?_
        exact rf [1,2,63] [1] (j13 _ (Option.some.inj h).symm :)
       ·refine cq 2 [60] [I c_1.Day] 498 ?_
        obtain⟨r14,hr14,h⟩:=bS h
        refine oy 514 (B r14) rfl (cP (DH hr14)) ?_
        refine cq 3 [63] [B (!r14)] 546 ?_
        exact rf [1,2,63] [1] (j13 _ (Option.some.inj h).symm :)
      ·refine cq 8 [58,60] [B false,I c_1.Day] 498 ?_
       obtain⟨r15,hr15,h⟩:=bS h
       refine oy 514 (B r15) rfl (cP (DH hr15)) ?_
       refine cq 3 [63] [B (!r15)] 546 ?_
       exact rf [1,2,63] [1] (j12 _ (Option.some.inj h).symm :)
    ·refine cq 11 [48,52] [B false,B (c_1.Op != 3)] 370 ?_
     obtain⟨y16,hy16,hy161,hy162⟩:=bL h
     have j16:∀u16,y16=.inr u16→Run (jR slf_Ffl) 0 (dD slf_Ffl (c_1,so_2) r) (.code nt::.code mf::[]) (sT 78 [(1,I (an (so_2+1))),(2,.hp 1 0 [] 4 0 0),(63,B u16)] [⟨0,4,[.agg [I c_1.Op,str c_1.Name,I c_1.Day,.isl false (c_1.Parts.map aa)]]⟩] 2):=by
      intro u16 hu
      replace h:=hy162 u16 hu
      exact rf [1,2,63] [1] (j9 _ (Option.some.inj h).symm :)
     have r16:∀r',y16=.inl r'→∀st,dD slf_Ffl (c_1,so_2) r' st→(dD slf_Ffl (c_1,so_2) r) st:=fun r' e st hq=>r9 r' (hy161 r' e) st hq
     replace h:=hy16
     refine sp 52 h rfl (fun h=>?_) fun h=>?_
     ·refine cq 6 [58] [B (c_1.Day != 0)] 466 ?_
      obtain⟨y17,hy17,hy171,hy172⟩:=bL h
      have j17:∀u17,y17=.inr u17→Run (jR slf_Ffl) 0 (dD slf_Ffl (c_1,so_2) r) (.code nt::.code mf::[]) (sT 78 [(1,I (an (so_2+1))),(2,.hp 1 0 [] 4 0 0),(63,B u17)] [⟨0,4,[.agg [I c_1.Op,str c_1.Name,I c_1.Day,.isl false (c_1.Parts.map aa)]]⟩] 2):=by
       intro u17 hu
       replace h:=hy172 u17 hu
       exact rf [1,2,63] [1] (j16 _ (Option.some.inj h).symm :)
      have r17:∀r',y17=.inl r'→∀st,dD slf_Ffl (c_1,so_2) r' st→(dD slf_Ffl (c_1,so_2) r) st:=fun r' e st hq=>r16 r' (hy171 r' e) st hq
      replace h:=hy17
      refine sp 58 h rfl (fun h=>?_) fun h=>?_
      ·refine cq 6 [63] [B true] 546 ?_
       exact rf [1,2,63] [1] (j17 _ (Option.some.inj h).symm :)
      ·refine cq 2 [60] [I c_1.Day] 498 ?_
       obtain⟨r18,hr18,h⟩:=bS h
       refine oy 514 (B r18) rfl (cP (DH hr18)) ?_
       refine cq 3 [63] [B (!r18)] 546 ?_
       exact rf [1,2,63] [1] (j17 _ (Option.some.inj h).symm :)
     ·refine cq 8 [58,60] [B false,I c_1.Day] 498 ?_
      obtain⟨r19,hr19,h⟩:=bS h
      refine oy 514 (B r19) rfl (cP (DH hr19)) ?_
      refine cq 3 [63] [B (!r19)] 546 ?_
      exact rf [1,2,63] [1] (j16 _ (Option.some.inj h).symm :)
 have r3:∀r',y3=.inl r'→∀st,dD slf_Ffl (c_1,so_2) r' st→(dD slf_Ffl (c_1,so_2) r) st:=fun r' e st hq=>by rw[hy31 r' e] at hq;exact hq
 replace h:=hy3
 refine sp 13 h rfl (fun h=>?_) fun h=>?_
 ·refine dk 16 [29,28,27,26,25,24,23,22,21,20,19,18,17,16,15,14] [B true,.und,.und,.und,.und,.und,.und,.und,.und,.und,B true,B true,.und,.und,.und,.und] ?_
  refine de 417 rfl rfl ?_
  exact rf [1,2,29] [1] (j3 _ (Option.some.inj h).symm :)
 ·refine dy [1] [] (.hp 1 0 [] 4 0 0) rfl (aV rfl rfl rfl) ?_
  refine dy [1] [] (I c_1.Op) rfl (bQ rfl rfl) ?_
  obtain⟨r20,hr20,h⟩:=bS h
  refine dy [] [] (B r20) rfl (cP (jN hr20)) ?_ (cC rfl rfl rfl rfl (bX (cj rfl) (bX (cj rfl) (bX (cj rfl) cN))) (jN hr20) (.inr rfl) rfl)
  refine dk 3 [19,18,17] [B (!r20),B (!r20),B (!r20)] ?_
  obtain⟨y21,hy21,hy211,hy212⟩:=bL h
  have j21:∀u21,y21=.inr u21→Run (jR slf_Ffl) 0 (dD slf_Ffl (c_1,so_2) r) (.code (cR (cL (cR (cR (cR qW)))))::.code (cR (cR (cR (cR qW))))::[]) (sT 78 [(1,I (an (so_2+1))),(2,.hp 1 0 [] 4 0 0),(29,B u21)] [⟨0,4,[.agg [I c_1.Op,str c_1.Name,I c_1.Day,.isl false (c_1.Parts.map aa)]]⟩] 2):=by
   intro u21 hu
   replace h:=hy212 u21 hu
   exact rf [1,2,29] [1] (j3 _ (Option.some.inj h).symm :)
  have r21:∀r',y21=.inl r'→∀st,dD slf_Ffl (c_1,so_2) r' st→(dD slf_Ffl (c_1,so_2) r) st:=fun r' e st hq=>r3 r' (hy211 r' e) st hq
  replace h:=hy21
  refine sp 19 h rfl (fun h=>?_) fun h=>?_
  ·refine dk 10 [29,28,27,26,25,24,23,22,21,20] [B true,.und,.und,.und,.und,.und,.und,.und,.und,.und] ?_
   refine de 417 rfl rfl ?_
   exact rf [1,2,29] [1] (j21 _ (Option.some.inj h).symm :)
  ·refine dy [1] [] (.hp 1 0 [] 4 0 3) rfl (aV rfl rfl rfl) ?_
   refine dy [1] [] (.isl false (c_1.Parts.map aa)) rfl (bQ rfl rfl) ?_
   refine dy [] [] (I (len c_1.Parts)) rfl (bT rfl rfl rfl (ce rfl)) ?_
   refine dk 1 [23] [.hs 81 0 [] 1 0 7] ?_
   refine dy [1] [] (.hp 1 0 [] 4 0 0) rfl (aV rfl rfl rfl) ?_
   refine dy [1] [] (I c_1.Op) rfl (bQ rfl rfl) ?_
   obtain⟨e22,he22,h⟩:=bS h
   refine dy [81] [] (.hp 81 0 [] 1 (0+Int.toNat c_1.Op) 0) rfl (ao rfl rfl rfl (iY (f:=I) (xs:=[(-1),0,0,0,1,2,2]) rfl rfl rfl he22)) ?_
   refine dy [81] [] (I e22) rfl (bQ rfl (ox (path:=[]) rfl rfl rfl bM (gB (f:=I) (xs:=[(-1),0,0,0,1,2,2]) he22) rfl rfl rfl)) ?_
   refine dk 2 [29,28] [B ((len c_1.Parts) != e22),B ((len c_1.Parts) != e22)] ?_
   refine de 417 rfl rfl ?_
   exact rf [1,2,29] [1] (j21 _ (Option.some.inj h).symm :)
theorem OZ {G:Go.Ln.Ground}[TabG Tryz.prog G]:aK Tryz.prog G 218 BG:=fE fun slf_Ffl g_Ffl=>gT 2 0 (aJ g_Ffl (aJ vK (aJ NQ (aJ jX bn)))) (Checked.mixed Tryz.checked) Tryz.func218 (fun a r h=>QV slf_Ffl a.1 a.2 r h)
def D8:Condition→List V:=oA aI
def DE (r:Bool):V×List V:=(B r,[])
noncomputable def Br:Ent:=aW [false] D8 DE fun x=>Ft x
theorem Td {c_1:Condition}{r}(h:Ft c_1=some r):Br.F (D8 c_1)=some (DE r):=aF (aE bH) h
noncomputable def SQ:Code:=aD Tryz.f185
noncomputable def O6:Env:=bW Tryz.prog [(218,BG)]
def Tb (x:Condition)(r:Bool):St→Prop:=QF O6 Tryz.f185 [false] (D8 x) (DE r)
theorem QP (c_1:Condition)(r:Bool)(h:Ft c_1=some r):bl O6 Tryz.f185 [false] 0 (D8 c_1) (DE r):=by
 show Run _ _ (Tb c_1 r) [.code SQ] _
 refine rI 6 [(0,.agg [I c_1.Op,str c_1.Name,I c_1.Day,.isl false (c_1.Parts.map aa)])] [] 1 ?_
 unfold Ft at h
 refine cq 8 [3] [.agg [I c_1.Op,str c_1.Name,I c_1.Day,.isl false (c_1.Parts.map aa)]] 49 ?_
 obtain⟨r2,hr2,h⟩:=bS h
 refine oq 65 (I r2) rfl (cP (Tm hr2)) ?_
 refine cq 3 [2] [B (decide (r2>0))] 97 ?_
 obtain rfl:=Option.some.inj h
 exact aj rfl (qp [B (decide (r2>0))])
theorem OQ {G:Go.Ln.Ground}[TabG Tryz.prog G]:aK Tryz.prog G 185 Br:=gT 1 0 (aJ OZ bn) (Checked.mixed Tryz.checked) Tryz.func185 (fun a r h=>QP a r h)
def D3:(Contract×Int)→List V:=cA aN (oA I)
def DR (r:Bool):V×List V:=(B r,[])
noncomputable def B2:Ent:=aW [false,false] D3 DR fun x=>F0 x.1 x.2
theorem Tt {c_1:Contract}{i_2:Int}{r}(h:F0 c_1 i_2=some r):B2.F (D3 (c_1,i_2))=some (DR r):=aF (bO bm (aE bK)) h
noncomputable def jt:Code:=aD Tryz.f124
noncomputable abbrev F5:Code:=cR (cL (cR (cR (cR (cR jt)))))
noncomputable abbrev tf:Code:=cR (cR (cR (cR (cR (cR jt)))))
noncomputable abbrev Av:Code:=cR (cL (cR (cR (cR (cR (cR jt))))))
noncomputable abbrev EU:Code:=cR (cR (cR tf))
noncomputable def hI:Env:=bW Tryz.prog [(159,pT),(86,jj),(184,Cm),(185,Br)]
def cU (x:Contract×Int)(r:Bool):St→Prop:=QF hI Tryz.f124 [false,false] (D3 x) (DR r)
theorem Qt (c_1:Contract)(i_2:Int)(r:Bool)(h:F0 c_1 i_2=some r):bl hI Tryz.f124 [false,false] 0 (D3 (c_1,i_2)) (DR r):=by
 show Run _ _ (cU (c_1,i_2) r) [.code jt] _
 refine rI 119 [(0,.agg [.isl false (c_1.Parties.map str),.isl false (c_1.Clauses.map ae)]),(1,I i_2)] [] 1 ?_
 unfold F0 at h
 refine ck 10 [2,9,10] [] [1] [] [.hp 1 0 [] 2 0 0,.isl false (c_1.Clauses.map ae),I i_2] [some ⟨0,2,[.agg [.isl false (c_1.Parties.map str),.isl false (c_1.Clauses.map ae)]]⟩] 81 (by kernel_rfl) ?_
 obtain⟨e3,he3,h⟩:=bS h
 refine oq 97 (.iptr (.agg [str e3.Id,I e3.Kind,I e3.Party,str e3.Action,I e3.Other,I e3.Amount,I e3.When.Op,str e3.When.Name,I e3.When.Day,.isl false (e3.When.Parts.map aa),I e3.Within,str e3.Repair]) 0) rfl (ao rfl rfl rfl (bh rfl rfl rfl rfl he3)) ?_
 refine ck 2 [5,12] [] [113] [] [.hp 113 0 [] 12 0 0,.agg [str e3.Id,I e3.Kind,I e3.Party,str e3.Action,I e3.Other,I e3.Amount,I e3.When.Op,str e3.When.Name,I e3.When.Day,.isl false (e3.When.Parts.map aa),I e3.Within,str e3.Repair]] [some ⟨0,12,[.agg [str ([]),I (0),I (0),str ([]),I (0),I (0),I (0),str ([]),I (0),.isl true [],I (0),str ([])]]⟩] 129 (by kernel_rfl) ?_
 refine eF 113 [.agg [str ([]),I (0),I (0),str ([]),I (0),I (0),I (0),str ([]),I (0),.usl 4 (([]).map ak),I (0),str ([])]] rfl rfl (au (fH (au (.refl _) (au (.refl _) (au (.refl _) (au (.refl _) (au (.refl _) (au (.refl _) (au (.refl _) (au (.refl _) (au (.refl _) (au (.nil _) (au (.refl _) (au (.refl _) dH))))))))))))) dH) ?_
 refine ck 6 [14] [] [113] [] [.isl false (c_1.Parties.map str)] [some ⟨2,12,[.agg [str e3.Id,I e3.Kind,I e3.Party,str e3.Action,I e3.Other,I e3.Amount,I e3.When.Op,str e3.When.Name,I e3.When.Day,.isl false (e3.When.Parts.map aa),I e3.Within,str e3.Repair]]⟩] 177 (by kernel_rfl) ?_
 refine oq 193 (I (len c_1.Parties)) rfl (bT rfl rfl rfl (ce rfl)) ?_
 refine cq 8 [6,18] [I (an ((len c_1.Parties) - 1)),str e3.Id] 257 ?_
 obtain⟨r4,hr4,h⟩:=bS h
 refine oq 273 (B r4) rfl (cP (DT hr4)) ?_
 refine cq 2 [21] [B (!r4)] 305 ?_
 obtain⟨y5,hy5,hy51,hy52⟩:=bJ h
 have j5:∀u5,y5=.inr u5→Run hI 0 (cU (c_1,i_2) r) (.code (cR (cL (cR (cR (cR jt)))))::.code (cR (cR (cR (cR jt))))::[]) (sT 119 [(1,I i_2),(2,.hp 1 0 [] 2 0 0),(5,.hp 2 0 [] 12 0 0),(6,I (an ((len c_1.Parties) - 1))),(40,B u5)] [⟨0,2,[.agg [.isl false (c_1.Parties.map str),.isl false (c_1.Clauses.map ae)]]⟩,⟨0,12,[.agg [str e3.Id,I e3.Kind,I e3.Party,str e3.Action,I e3.Other,I e3.Amount,I e3.When.Op,str e3.When.Name,I e3.When.Day,.isl false (e3.When.Parts.map aa),I e3.Within,str e3.Repair]]⟩] 3):=by
  intro u5 hu
  replace h:=hy52 u5 hu
  refine sq h (fun h=>?_) fun h=>?_
  ·refine cq 4 [4] [B false] 19 ?_
   obtain rfl:=Option.some.inj h
   exact aj rfl (qp [B false])
  ·refine aq 1 ?_
   refine cq 6 [42,43] [I e3.Party,I (an ((len c_1.Parties) - 1))] 51 ?_
   obtain⟨r6,hr6,h⟩:=bS h
   refine oq 67 (B r6) rfl (cP (jN hr6)) ?_
   refine cq 2 [46] [B (!r6)] 99 ?_
   obtain⟨y7,hy7,hy71,hy72⟩:=bJ h
   have j7:∀u7,y7=.inr u7→Run hI 0 (cU (c_1,i_2) r) (.code F5::.code (cR (cR (cR (cR (cR jt)))))::[]) (sT 119 [(1,I i_2),(2,.hp 1 0 [] 2 0 0),(5,.hp 2 0 [] 12 0 0),(65,B u7)] [⟨0,2,[.agg [.isl false (c_1.Parties.map str),.isl false (c_1.Clauses.map ae)]]⟩,⟨0,12,[.agg [str e3.Id,I e3.Kind,I e3.Party,str e3.Action,I e3.Other,I e3.Amount,I e3.When.Op,str e3.When.Name,I e3.When.Day,.isl false (e3.When.Parts.map aa),I e3.Within,str e3.Repair]]⟩] 3):=by
    intro u7 hu
    replace h:=hy72 u7 hu
    refine sq h (fun h=>?_) fun h=>?_
    ·refine cq 4 [4] [B false] 19 ?_
     obtain rfl:=Option.some.inj h
     exact aj rfl (qp [B false])
    ·refine aq 1 ?_
     refine cq 5 [67] [I e3.Amount] 35 ?_
     obtain⟨r8,hr8,h⟩:=bS h
     refine oq 51 (B r8) rfl (cP (jN hr8)) ?_
     refine cq 2 [70] [B (!r8)] 83 ?_
     obtain⟨y9,hy9,hy91,hy92⟩:=bJ h
     have j9:∀u9,y9=.inr u9→Run hI 0 (cU (c_1,i_2) r) (.code Av::.code tf::[]) (sT 119 [(1,I i_2),(2,.hp 1 0 [] 2 0 0),(5,.hp 2 0 [] 12 0 0),(90,B u9)] [⟨0,2,[.agg [.isl false (c_1.Parties.map str),.isl false (c_1.Clauses.map ae)]]⟩,⟨0,12,[.agg [str e3.Id,I e3.Kind,I e3.Party,str e3.Action,I e3.Other,I e3.Amount,I e3.When.Op,str e3.When.Name,I e3.When.Day,.isl false (e3.When.Parts.map aa),I e3.Within,str e3.Repair]]⟩] 3):=by
      intro u9 hu
      replace h:=hy92 u9 hu
      refine sq h (fun h=>?_) fun h=>?_
      ·refine cq 4 [4] [B false] 19 ?_
       obtain rfl:=Option.some.inj h
       exact aj rfl (qp [B false])
      ·refine aq 1 ?_
       refine cq 7 [93] [B (e3.Repair==([]:ac))] 51 ?_
       refine sq h (fun h=>?_) fun h=>?_
       ·refine cq 4 [4] [B true] 67 ?_
        obtain rfl:=Option.some.inj h
        exact aj rfl (qp [B true])
       ·refine aq 1 ?_
        refine cq 5 [94,96] [.agg [.isl false (c_1.Parties.map str),.isl false (c_1.Clauses.map ae)],str e3.Repair] 99 ?_
        obtain⟨r10,hr10,h⟩:=bS h
        refine oq 115 (I r10) rfl (cP (Px hr10)) ?_
        refine cq 8 [7,101] [I r10,B (e3.Kind != 3)] 195 ?_
        obtain⟨y11,hy11,hy111,hy112⟩:=bJ h
        have j11:∀u11,y11=.inr u11→Run hI 0 (cU (c_1,i_2) r) (.code EU::[]) (sT 119 [(4,B u11)] [] 1):=by
         intro u11 hu
         replace h:=hy112 u11 hu
         obtain rfl:=Option.some.inj h
         exact aj rfl (qp [B u11])
        have r11:∀r',y11=.inl r'→∀st,cU (c_1,i_2) r' st→(cU (c_1,i_2) r) st:=fun r' e st hq=>by rw[hy111 r' e] at hq;exact hq
        replace h:=hy11
        refine sp 101 h rfl (fun h=>?_) fun h=>?_
        ·refine cq 4 [105] [B (decide (r10≥0))] 259 ?_
         obtain⟨y12,hy12,hy121,hy122⟩:=bL h
         have j12:∀u12,y12=.inr u12→Run hI 0 (cU (c_1,i_2) r) (.code EU::[]) (sT 119 [(4,B u12)] [] 1):=by
          intro u12 hu
          replace h:=hy122 u12 hu
          exact rf [4] [] (j11 _ (Option.some.inj h).symm :)
         have r12:∀r',y12=.inl r'→∀st,cU (c_1,i_2) r' st→(cU (c_1,i_2) r) st:=fun r' e st hq=>r11 r' (hy121 r' e) st hq
         replace h:=hy12
         refine sp 105 h rfl (fun h=>?_) fun h=>?_
         ·refine cq 5 [110] [B (r10 != i_2)] 339 ?_
          obtain⟨y13,hy13,hy131,hy132⟩:=bL h
          have j13:∀u13,y13=.inr u13→Run hI 0 (cU (c_1,i_2) r) (.code EU::[]) (sT 119 [(4,B u13)] [] 1):=by
           intro u13 hu
           replace h:=hy132 u13 hu
           exact rf [4] [] (j12 _ (Option.some.inj h).symm :)
          have r13:∀r',y13=.inl r'→∀st,cU (c_1,i_2) r' st→(cU (c_1,i_2) r) st:=fun r' e st hq=>r12 r' (hy131 r' e) st hq
          replace h:=hy13
          refine sp 110 h rfl (fun h=>?_) fun h=>?_
          ·refine cq 3 [112,113] [.isl false (c_1.Clauses.map ae),I r10] 387 ?_
           obtain⟨e14,he14,h⟩:=bS h
           refine oy 403 (.iptr (.agg [str e14.Id,I e14.Kind,I e14.Party,str e14.Action,I e14.Other,I e14.Amount,I e14.When.Op,str e14.When.Name,I e14.When.Day,.isl false (e14.When.Parts.map aa),I e14.Within,str e14.Repair]) 0) rfl (ao rfl rfl rfl (bh rfl rfl rfl rfl he14)) ?_
           refine cq 6 [4] [B (e14.Kind==1)] 483 ?_
           exact rf [4] [] (j13 _ (Option.some.inj h).symm :)
          ·refine cq 10 [4] [B false] 483 ?_
           exact rf [4] [] (j13 _ (Option.some.inj h).symm :)
         ·refine cq 15 [4] [B false] 483 ?_
          exact rf [4] [] (j12 _ (Option.some.inj h).symm :)
        ·refine cq 19 [4] [B false] 483 ?_
         exact rf [4] [] (j11 _ (Option.some.inj h).symm :)
     have r9:∀r',y9=.inl r'→∀st,cU (c_1,i_2) r' st→(cU (c_1,i_2) r) st:=fun r' e st hq=>by rw[hy91 r' e] at hq;exact hq
     replace h:=hy9
     refine sp 70 h rfl (fun h=>?_) fun h=>?_
     ·refine cq 21 [90] [B true] 403 ?_
      exact rf [1,2,5,90] [1,2] (j9 _ (Option.some.inj h).symm :)
     ·refine cq 2 [72] [I e3.Within] 115 ?_
      obtain⟨r15,hr15,h⟩:=bS h
      refine oy 131 (B r15) rfl (cP (jN hr15)) ?_
      refine cq 3 [76] [B (!r15)] 179 ?_
      obtain⟨u16,hu16,h⟩:=lJ h
      have j16:Run hI 0 (cU (c_1,i_2) r) (.code Av::.code tf::[]) (sT 119 [(1,I i_2),(2,.hp 1 0 [] 2 0 0),(5,.hp 2 0 [] 12 0 0),(90,B u16)] [⟨0,2,[.agg [.isl false (c_1.Parties.map str),.isl false (c_1.Clauses.map ae)]]⟩,⟨0,12,[.agg [str e3.Id,I e3.Kind,I e3.Party,str e3.Action,I e3.Other,I e3.Amount,I e3.When.Op,str e3.When.Name,I e3.When.Day,.isl false (e3.When.Parts.map aa),I e3.Within,str e3.Repair]]⟩] 3):=by
       exact rf [1,2,5,90] [1,2] (j9 _ (Option.some.inj h).symm :)
      replace h:=hu16
      clear hu16
      refine sp 76 h rfl (fun h=>?_) fun h=>?_
      ·refine cq 15 [90] [B true] 403 ?_
       subst h
       exact rf [1,2,5,90] [1,2] (j16 :)
      ·refine cq 4 [80] [B (e3.Kind != 1)] 243 ?_
       obtain⟨u17,hu17,h⟩:=lJ h
       have j17:Run hI 0 (cU (c_1,i_2) r) (.code Av::.code tf::[]) (sT 119 [(1,I i_2),(2,.hp 1 0 [] 2 0 0),(5,.hp 2 0 [] 12 0 0),(90,B u17)] [⟨0,2,[.agg [.isl false (c_1.Parties.map str),.isl false (c_1.Clauses.map ae)]]⟩,⟨0,12,[.agg [str e3.Id,I e3.Kind,I e3.Party,str e3.Action,I e3.Other,I e3.Amount,I e3.When.Op,str e3.When.Name,I e3.When.Day,.isl false (e3.When.Parts.map aa),I e3.Within,str e3.Repair]]⟩] 3):=by
        subst h
        exact rf [1,2,5,90] [1,2] (j16 :)
       replace h:=hu17
       clear hu17
       refine sp 80 h rfl (fun h=>?_) fun h=>?_
       ·refine cq 4 [84] [B (e3.Amount != 0)] 307 ?_
        obtain⟨u18,hu18,h⟩:=lJ h
        have j18:Run hI 0 (cU (c_1,i_2) r) (.code Av::.code tf::[]) (sT 119 [(1,I i_2),(2,.hp 1 0 [] 2 0 0),(5,.hp 2 0 [] 12 0 0),(90,B u18)] [⟨0,2,[.agg [.isl false (c_1.Parties.map str),.isl false (c_1.Clauses.map ae)]]⟩,⟨0,12,[.agg [str e3.Id,I e3.Kind,I e3.Party,str e3.Action,I e3.Other,I e3.Amount,I e3.When.Op,str e3.When.Name,I e3.When.Day,.isl false (e3.When.Parts.map aa),I e3.Within,str e3.Repair]]⟩] 3):=by
         subst h
         exact rf [1,2,5,90] [1,2] (j17 :)
        replace h:=hu18
        clear hu18
        refine sp 84 h rfl (fun h=>?_) fun h=>?_
        ·refine cq 7 [90] [B true] 403 ?_
         subst h
         exact rf [1,2,5,90] [1,2] (j18 :)
        ·refine cq 7 [90] [B (e3.Within != 0)] 403 ?_
         subst h
         exact rf [1,2,5,90] [1,2] (j18 :)
       ·refine cq 11 [90] [B false] 403 ?_
        subst h
        exact rf [1,2,5,90] [1,2] (j17 :)
   have r7:∀r',y7=.inl r'→∀st,cU (c_1,i_2) r' st→(cU (c_1,i_2) r) st:=fun r' e st hq=>by rw[hy71 r' e] at hq;exact hq
   replace h:=hy7
   refine sp 46 h rfl (fun h=>?_) fun h=>?_
   ·refine cq 20 [65] [B true] 403 ?_
    exact rf [1,2,5,65] [1,2] (j7 _ (Option.some.inj h).symm :)
   ·refine cq 3 [48,49] [I e3.Other,I (an ((len c_1.Parties) - 1))] 147 ?_
    obtain⟨r19,hr19,h⟩:=bS h
    refine oy 163 (B r19) rfl (cP (jN hr19)) ?_
    refine cq 3 [53] [B (!r19)] 211 ?_
    obtain⟨y20,hy20,hy201,hy202⟩:=bL h
    have j20:∀u20,y20=.inr u20→Run hI 0 (cU (c_1,i_2) r) (.code F5::.code (cR (cR (cR (cR (cR jt)))))::[]) (sT 119 [(1,I i_2),(2,.hp 1 0 [] 2 0 0),(5,.hp 2 0 [] 12 0 0),(65,B u20)] [⟨0,2,[.agg [.isl false (c_1.Parties.map str),.isl false (c_1.Clauses.map ae)]]⟩,⟨0,12,[.agg [str e3.Id,I e3.Kind,I e3.Party,str e3.Action,I e3.Other,I e3.Amount,I e3.When.Op,str e3.When.Name,I e3.When.Day,.isl false (e3.When.Parts.map aa),I e3.Within,str e3.Repair]]⟩] 3):=by
     intro u20 hu
     replace h:=hy202 u20 hu
     exact rf [1,2,5,65] [1,2] (j7 _ (Option.some.inj h).symm :)
    have r20:∀r',y20=.inl r'→∀st,cU (c_1,i_2) r' st→(cU (c_1,i_2) r) st:=fun r' e st hq=>r7 r' (hy201 r' e) st hq
    replace h:=hy20
    refine sp 53 h rfl (fun h=>?_) fun h=>?_
    ·refine cq 13 [65] [B true] 403 ?_
     exact rf [1,2,5,65] [1,2] (j20 _ (Option.some.inj h).symm :)
    ·refine cq 7 [60] [B (e3.Party==e3.Other)] 323 ?_
     obtain⟨y21,hy21,hy211,hy212⟩:=bL h
     have j21:∀u21,y21=.inr u21→Run hI 0 (cU (c_1,i_2) r) (.code F5::.code (cR (cR (cR (cR (cR jt)))))::[]) (sT 119 [(1,I i_2),(2,.hp 1 0 [] 2 0 0),(5,.hp 2 0 [] 12 0 0),(65,B u21)] [⟨0,2,[.agg [.isl false (c_1.Parties.map str),.isl false (c_1.Clauses.map ae)]]⟩,⟨0,12,[.agg [str e3.Id,I e3.Kind,I e3.Party,str e3.Action,I e3.Other,I e3.Amount,I e3.When.Op,str e3.When.Name,I e3.When.Day,.isl false (e3.When.Parts.map aa),I e3.Within,str e3.Repair]]⟩] 3):=by
      intro u21 hu
      replace h:=hy212 u21 hu
      exact rf [1,2,5,65] [1,2] (j20 _ (Option.some.inj h).symm :)
     have r21:∀r',y21=.inl r'→∀st,cU (c_1,i_2) r' st→(cU (c_1,i_2) r) st:=fun r' e st hq=>r20 r' (hy211 r' e) st hq
     replace h:=hy21
     refine sp 60 h rfl (fun h=>?_) fun h=>?_
     ·refine cq 6 [65] [B true] 403 ?_
      exact rf [1,2,5,65] [1,2] (j21 _ (Option.some.inj h).symm :)
     ·refine cq 2 [62] [.agg [I e3.When.Op,str e3.When.Name,I e3.When.Day,.isl false (e3.When.Parts.map aa)]] 355 ?_
      obtain⟨r22,hr22,h⟩:=bS h
      refine oy 371 (B r22) rfl (cP (Td hr22)) ?_
      refine cq 3 [65] [B (!r22)] 403 ?_
      exact rf [1,2,5,65] [1,2] (j21 _ (Option.some.inj h).symm :)
 have r5:∀r',y5=.inl r'→∀st,cU (c_1,i_2) r' st→(cU (c_1,i_2) r) st:=fun r' e st hq=>by rw[hy51 r' e] at hq;exact hq
 replace h:=hy5
 refine sp 21 h rfl (fun h=>?_) fun h=>?_
 ·refine cq 20 [40] [B true] 609 ?_
  exact rf [1,2,5,6,40] [1,113] (j5 _ (Option.some.inj h).symm :)
 ·refine cq 3 [22,24] [.agg [.isl false (c_1.Parties.map str),.isl false (c_1.Clauses.map ae)],str e3.Id] 353 ?_
  obtain⟨r23,hr23,h⟩:=bS h
  refine oy 369 (I r23) rfl (cP (Px hr23)) ?_
  refine cq 4 [29] [B (r23 != i_2)] 433 ?_
  obtain⟨y24,hy24,hy241,hy242⟩:=bL h
  have j24:∀u24,y24=.inr u24→Run hI 0 (cU (c_1,i_2) r) (.code (cR (cL (cR (cR (cR jt)))))::.code (cR (cR (cR (cR jt))))::[]) (sT 119 [(1,I i_2),(2,.hp 1 0 [] 2 0 0),(5,.hp 2 0 [] 12 0 0),(6,I (an ((len c_1.Parties) - 1))),(40,B u24)] [⟨0,2,[.agg [.isl false (c_1.Parties.map str),.isl false (c_1.Clauses.map ae)]]⟩,⟨0,12,[.agg [str e3.Id,I e3.Kind,I e3.Party,str e3.Action,I e3.Other,I e3.Amount,I e3.When.Op,str e3.When.Name,I e3.When.Day,.isl false (e3.When.Parts.map aa),I e3.Within,str e3.Repair]]⟩] 3):=by
   intro u24 hu
   replace h:=hy242 u24 hu
   exact rf [1,2,5,6,40] [1,2] (j5 _ (Option.some.inj h).symm :)
  have r24:∀r',y24=.inl r'→∀st,cU (c_1,i_2) r' st→(cU (c_1,i_2) r) st:=fun r' e st hq=>r5 r' (hy241 r' e) st hq
  replace h:=hy24
  refine sp 29 h rfl (fun h=>?_) fun h=>?_
  ·refine cq 12 [40] [B true] 609 ?_
   exact rf [1,2,5,6,40] [1,113] (j24 _ (Option.some.inj h).symm :)
  ·refine cq 2 [31] [str e3.Action] 465 ?_
   obtain⟨r25,hr25,h⟩:=bS h
   refine oy 481 (B r25) rfl (cP (DT hr25)) ?_
   refine cq 3 [35] [B (!r25)] 529 ?_
   obtain⟨y26,hy26,hy261,hy262⟩:=bL h
   have j26:∀u26,y26=.inr u26→Run hI 0 (cU (c_1,i_2) r) (.code (cR (cL (cR (cR (cR jt)))))::.code (cR (cR (cR (cR jt))))::[]) (sT 119 [(1,I i_2),(2,.hp 1 0 [] 2 0 0),(5,.hp 2 0 [] 12 0 0),(6,I (an ((len c_1.Parties) - 1))),(40,B u26)] [⟨0,2,[.agg [.isl false (c_1.Parties.map str),.isl false (c_1.Clauses.map ae)]]⟩,⟨0,12,[.agg [str e3.Id,I e3.Kind,I e3.Party,str e3.Action,I e3.Other,I e3.Amount,I e3.When.Op,str e3.When.Name,I e3.When.Day,.isl false (e3.When.Parts.map aa),I e3.Within,str e3.Repair]]⟩] 3):=by
    intro u26 hu
    replace h:=hy262 u26 hu
    exact rf [1,2,5,6,40] [1,2] (j24 _ (Option.some.inj h).symm :)
   have r26:∀r',y26=.inl r'→∀st,cU (c_1,i_2) r' st→(cU (c_1,i_2) r) st:=fun r' e st hq=>r24 r' (hy261 r' e) st hq
   replace h:=hy26
   refine sp 35 h rfl (fun h=>?_) fun h=>?_
   ·refine cq 6 [40] [B true] 609 ?_
    exact rf [1,2,5,6,40] [1,113] (j26 _ (Option.some.inj h).symm :)
   ·refine cq 2 [37] [I e3.Kind] 561 ?_
    obtain⟨r27,hr27,h⟩:=bS h
    refine oy 577 (B r27) rfl (cP (jN hr27)) ?_
    refine cq 3 [40] [B (!r27)] 609 ?_
    exact rf [1,2,5,6,40] [1,113] (j26 _ (Option.some.inj h).symm :)
theorem NT {G:Go.Ln.Ground}[TabG Tryz.prog G]:aK Tryz.prog G 124 B2:=gT 2 0 (aJ vK (aJ jX (aJ NO (aJ OQ bn)))) (Checked.mixed Tryz.checked) Tryz.func124 (fun a r h=>Qt a.1 a.2 r h)
def zI:(Condition×(List ac))→List V:=cA aI (oA (Aq 1 str))
def yB (r:(List ac)):V×List V:=(.usl 1 (r.map str),[.dead])
noncomputable def wI (slf_Ffe:(Condition×(List ac))→Option (List ac)):Ent:=aW [false,true] zI yB slf_Ffe
theorem Kb (slf_Ffe:(Condition×(List ac))→Option (List ac)){x}{r}(h:slf_Ffe x=some r):(wI slf_Ffe).F (zI x)=some (yB r):=aF (bO bH (aE (ng bp))) h
noncomputable def BB:Ent:=wI (ay la)
theorem O3 {c_3:Condition}{list_4:List ac}{r}(h:KF c_3 list_4=some r):BB.F (zI (c_3,list_4))=some (yB r):=Kb (ay la) h
noncomputable def Iu:Code:=aD Tryz.f186
noncomputable def DQ (slf_Ffe:(Condition×(List ac))→Option (List ac)):Env:=bW Tryz.prog [(186,(wI slf_Ffe))]
def Am (slf_Ffe:(Condition×(List ac))→Option (List ac))(x:Condition×(List ac))(r:(List ac)):St→Prop:=QF (DQ slf_Ffe) Tryz.f186 [false,true] (zI x) (yB r)
theorem Jm (slf_Ffe:(Condition×(List ac))→Option (List ac))(c_3:Condition)(list_4:List ac):cI (DQ slf_Ffe) 1 (Am slf_Ffe (c_3,list_4)) (cL (cL (cR (cL (cR (cR Iu)))))) 0 (kZ slf_Ffe c_3 list_4) (fun u=>(sO 27 [(1,.hs 2 0 [] 1 0 (u.map str).length)] [none,some ⟨0,1,u.map str⟩] 3)) fun x4=>(sO 27 [(1,.hs 2 0 [] 1 0 (x4.2.map str).length),(16,.isl false (c_3.Parts.map aa)),(17,I (len c_3.Parts)),(18,I x4.1)] [none,some ⟨0,1,x4.2.map str⟩] 3):=eC (zT slf_Ffe c_3 list_4) fun {Q K} hK self ih x4 y h hr hn=>by
 unfold iB at h
 refine cq 5 [19] [B (decide (x4.1<(len c_3.Parts)))] 19 ?_
 refine sq h (fun h=>?_) fun h=>?_
 ·refine aq 1 ?_
  refine aq 4 ?_
  obtain⟨e5,he5,h⟩:=bS h
  refine oq 35 (.iptr (.agg [I e5.Op,str e5.Name,I e5.Day,.isl false (e5.Parts.map aa)]) 0) rfl (ao rfl rfl rfl (bh rfl rfl (aQ e5) rfl he5)) ?_
  refine ck 2 [6,21] [] [51] [] [.hp 51 0 [] 4 0 0,.agg [I e5.Op,str e5.Name,I e5.Day,.isl false (e5.Parts.map aa)]] [some ⟨0,4,[.agg [I (0),str ([]),I (0),.isl true []]]⟩] 67 (by kernel_rfl) ?_
  refine eF 51 [.agg [I (0),str ([]),I (0),.usl 4 (([]).map ak)]] rfl rfl (au (fH (au (.refl _) (au (.refl _) (au (.refl _) (au (.nil _) dH))))) dH) ?_
  refine ck 5 [22,23] [] [51] [] [.agg [I e5.Op,str e5.Name,I e5.Day,.isl false (e5.Parts.map aa)],.hs 2 0 [] 1 0 (x4.2.map str).length] [some ⟨2,4,[.agg [I e5.Op,str e5.Name,I e5.Day,.isl false (e5.Parts.map aa)]]⟩] 115 (by kernel_rfl) ?_
  obtain⟨r6,hr6,h⟩:=bS h
  refine oq 131 (.hs 115 0 [] 1 0 (r6.map str).length) rfl (bU rfl rfl (cm rfl rfl rfl (bX (cj rfl) (ro (oz rfl (jP (path:=[]) rfl rfl bM rfl)) cN)) (Kb slf_Ffe hr6) (.inr rfl) (qG rfl rfl rfl kF dF) rfl rfl rfl)) ?_
  refine cq 7 [1,18] [.hs 115 0 [] 1 0 (r6.map str).length,I (an (x4.1+1))] 179 ?_
  refine dC ?_
  exact rg [1,16,17,18] [180,115] (ih _ _ h hr hn :)
 ·refine aq 1 ?_
  exact rg [1] [20,2] (hn _ (Option.some.inj h).symm :) (hk:=hK)
theorem Qw (slf_Ffe:(Condition×(List ac))→Option (List ac))(c_3:Condition)(list_4:List ac)(r:(List ac))(h:uu slf_Ffe c_3 list_4=some r):bl (DQ slf_Ffe) Tryz.f186 [false,true] 1 (zI (c_3,list_4)) (yB r):=by
 show Run _ _ (Am slf_Ffe (c_3,list_4) r) [.code Iu] _
 refine rI 27 [(0,.agg [I c_3.Op,str c_3.Name,I c_3.Day,.isl false (c_3.Parts.map aa)]),(1,.hs 1 0 [] 1 0 (list_4.map str).length)] [(1,some ⟨0,1,list_4.map str⟩)] 2 ?_
 unfold uu at h
 refine ck 12 [2,9] [] [2] [] [.hp 2 0 [] 4 0 0,B (c_3.Op==2)] [some ⟨0,4,[.agg [I c_3.Op,str c_3.Name,I c_3.Day,.isl false (c_3.Parts.map aa)]]⟩] 82 (by kernel_rfl) ?_
 obtain⟨y3,hy3,hy31,hy32⟩:=bJ h
 have j3:∀u3,y3=.inr u3→Run (DQ slf_Ffe) 1 (Am slf_Ffe (c_3,list_4) r) (.code (cR (cR Iu))::[]) (sO 27 [(1,.hs 2 0 [] 1 0 (u3.map str).length),(2,.hp 3 0 [] 4 0 0)] [none,some ⟨0,1,u3.map str⟩,some ⟨0,4,[.agg [I c_3.Op,str c_3.Name,I c_3.Day,.isl false (c_3.Parts.map aa)]]⟩] 4):=by
  intro u3 hu
  replace h:=hy32 u3 hu
  refine cq 5 [16] [.isl false (c_3.Parts.map aa)] 36 ?_
  refine oq 52 (I (len c_3.Parts)) rfl (bT rfl rfl rfl (ce rfl)) ?_
  refine cq 3 [18] [I (0)] 68 ?_
  obtain⟨y7,hy7,hy71,hy72⟩:=bJ h
  refine ci rfl ?_
  refine rg [1,16,17,18] [69,2] (Jm slf_Ffe c_3 list_4 rfl (0,u3) _ hy7 (fun r' e st hq=>by rw[hy71 r' e] at hq;exact hq) fun u7 hu=>?_)
  replace h:=hy72 u7 hu
  refine cq 5 [4] [.hs 2 0 [] 1 0 (u7.map str).length] 35 ?_
  obtain rfl:=Option.some.inj h
  exact aj rfl ⟨_,fin (vs:=[.hs 2 0 [] 1 0 (u7.map str).length]) rfl (fK (gt rfl (dK rfl rfl)) et) rfl (fh (qZ rfl (mM rfl) fT)),qE fI⟩
 have r3:∀r',y3=.inl r'→∀st,Am slf_Ffe (c_3,list_4) r' st→(Am slf_Ffe (c_3,list_4) r) st:=fun r' e st hq=>by rw[hy31 r' e] at hq;exact hq
 replace h:=hy3
 refine sq h (fun h=>?_) fun h=>?_
 ·refine cq 4 [10,12] [.hs 1 0 [] 1 0 (list_4.map str).length,str c_3.Name] 130 ?_
  refine oq 146 (.hs 130 0 [] 1 0 1) rfl (fO rfl (qm (f:=I) (xs:=[]) (z:=str ([])) (es:=[str c_3.Name]) (ws:=[str c_3.Name]) rfl rfl rfl (by decide) rfl (d8 rfl) rfl)) ?_
  obtain⟨a8,ha8,h⟩:=bS h
  refine oq 162 (.hs 146 0 [] 1 0 (a8.map str).length) rfl (nD rfl rfl rfl rfl rfl (sw (path:=[]) (f:=str) (xs:=list_4) (ys:=[c_3.Name]) rfl rfl (BU rfl rfl rfl) rfl rfl rfl bM rfl (by decide) iC ha8 rfl xE)) ?_
  refine cq 2 [1] [.hs 146 0 [] 1 0 (a8.map str).length] 178 ?_
  exact rg [1,2] [179,146,2] (j3 _ (Option.some.inj h).symm :)
 ·refine aq 1 ?_
  exact rg [1,2] [83,1,2] (j3 _ (Option.some.inj h).symm :)
theorem Oq {G:Go.Ln.Ground}[TabG Tryz.prog G]:aK Tryz.prog G 186 BB:=fE fun slf_Ffe g_Ffe=>gT 2 1 (aJ g_Ffe bn) (Checked.mixed Tryz.checked) Tryz.func186 (fun a r h=>Qw slf_Ffe a.1 a.2 r h)
def Fo:Shelf.Ren:=⟨fun | 190=>219 | 125=>211 | 258=>243 | 128=>239 | 129=>240 | 302=>255 | 303=>256 | 304=>257 | 305=>258 | 306=>259 | 307=>260 | 308=>261 | 309=>262 | 310=>263 | 333=>273 | 329=>251 | 330=>252 | 334=>274 | 335=>275 | 336=>242 | 344=>285 | n=>n,fun | 31=>22 | 9=>9 | 3=>3 | 46=>205 | 0=>0 | 51=>225 | 53=>227 | 4=>4 | 183=>219 | 182=>218 | 131=>58 | 5=>5 | 218=>232 | 222=>236 | 228=>252 | 229=>253 | n=>n,fun | n=>n⟩
theorem OM:Go.Proofs.Lays.n190 Tryz.prog Fo where
 mixed:=by kernel_rfl
 f125:=Tryz.func211.trans (congrArg some (by kernel_rfl))
 f128:=Tryz.func239.trans (congrArg some (by kernel_rfl))
 f129:=Tryz.func240.trans (congrArg some (by kernel_rfl))
 f190:=Tryz.func219.trans (congrArg some (by kernel_rfl))
 f258:=Tryz.func243.trans (congrArg some (by kernel_rfl))
 f302:=Tryz.func255.trans (congrArg some (by kernel_rfl))
 f303:=Tryz.func256.trans (congrArg some (by kernel_rfl))
 f304:=Tryz.func257.trans (congrArg some (by kernel_rfl))
 f305:=Tryz.func258.trans (congrArg some (by kernel_rfl))
 f306:=Tryz.func259.trans (congrArg some (by kernel_rfl))
 f307:=Tryz.func260.trans (congrArg some (by kernel_rfl))
 f308:=Tryz.func261.trans (congrArg some (by kernel_rfl))
 f309:=Tryz.func262.trans (congrArg some (by kernel_rfl))
 f310:=Tryz.func263.trans (congrArg some (by kernel_rfl))
 f329:=Tryz.func251.trans (congrArg some (by kernel_rfl))
 f330:=Tryz.func252.trans (congrArg some (by kernel_rfl))
 f333:=Tryz.func273.trans (congrArg some (by kernel_rfl))
 f334:=Tryz.func274.trans (congrArg some (by kernel_rfl))
 f335:=Tryz.func275.trans (congrArg some (by kernel_rfl))
 f336:=Tryz.func242.trans (congrArg some (by kernel_rfl))
 f344:=Tryz.func285.trans (congrArg some (by kernel_rfl))
 t0:=Tryz.underlying0
 a0:=Tryz.isAgg0
 z0:=Tryz.sizeOf0
 v0:=Tryz.zeroValue0
 t3:=Tryz.underlying3
 a3:=Tryz.isAgg3
 z3:=Tryz.sizeOf3
 v3:=Tryz.zeroValue3
 t4:=Tryz.underlying4
 a4:=Tryz.isAgg4
 z4:=Tryz.sizeOf4
 v4:=Tryz.zeroValue4
 t5:=Tryz.underlying5
 a5:=Tryz.isAgg5
 z5:=Tryz.sizeOf5
 v5:=Tryz.zeroValue5
 t9:=Tryz.underlying9
 a9:=Tryz.isAgg9
 z9:=Tryz.sizeOf9
 v9:=Tryz.zeroValue9
 t31:=Tryz.underlying22
 a31:=Tryz.isAgg22
 z31:=Tryz.sizeOf22
 v31:=Tryz.zeroValue22
 t46:=Tryz.underlying205
 a46:=Tryz.isAgg205
 z46:=Tryz.sizeOf205
 v46:=Tryz.zeroValue205
 t51:=Tryz.underlying225
 a51:=Tryz.isAgg225
 z51:=Tryz.sizeOf225
 v51:=Tryz.zeroValue225
 t53:=Tryz.underlying227
 a53:=Tryz.isAgg227
 z53:=Tryz.sizeOf227
 v53:=Tryz.zeroValue227
 t131:=Tryz.underlying58
 a131:=Tryz.isAgg58
 z131:=Tryz.sizeOf58
 v131:=Tryz.zeroValue58
 t182:=Tryz.underlying218
 a182:=Tryz.isAgg218
 z182:=Tryz.sizeOf218
 v182:=Tryz.zeroValue218
 t183:=Tryz.underlying219
 a183:=Tryz.isAgg219
 z183:=Tryz.sizeOf219
 v183:=Tryz.zeroValue219
 t218:=Tryz.underlying232
 a218:=Tryz.isAgg232
 z218:=Tryz.sizeOf232
 v218:=Tryz.zeroValue232
 t222:=Tryz.underlying236
 a222:=Tryz.isAgg236
 z222:=Tryz.sizeOf236
 v222:=Tryz.zeroValue236
 t228:=Tryz.underlying252
 a228:=Tryz.isAgg252
 z228:=Tryz.sizeOf252
 v228:=Tryz.zeroValue252
 t229:=Tryz.underlying253
 a229:=Tryz.isAgg253
 z229:=Tryz.sizeOf253
 v229:=Tryz.zeroValue253
noncomputable def qC:Ent:=aW [true] (oA (Aq 1 str)) (fun r=>(.tup [],[.usl 1 (r.map str)])) pf
theorem Om {l:List ac}{r}(h:pf l=some r):qC.F [.usl 1 (l.map str)]=some (.tup [],[.usl 1 (r.map str)]):=aF (ea:=oA (Aq 1 str)) (aE (ng bp)) h
theorem GS {G:Go.Ln.Ground}[TabG Tryz.prog G]:aK Tryz.prog G 219 qC:=H1 OM
def yP:(List ac)→List V:=oA (Aq 1 str)
def Be (r:(List ac)):V×List V:=(.usl 1 (r.map str),[.dead])
noncomputable def wX:Ent:=aW [true] yP Be fun x=>wr x
theorem Sv {s_2:List ac}{r}(h:wr s_2=some r):wX.F (yP s_2)=some (Be r):=aF (aE (ng bp)) h
noncomputable def Fc:Code:=aD Tryz.f220
noncomputable abbrev BI:Code:=cL (cL (cR (cL (cR (cL (cR (cL (cL (cR (cL (cL (cR (cL (cR (cR Fc)))))))))))))))
noncomputable def se:Env:=bW Tryz.prog []
def zG (x:(List ac))(r:(List ac)):St→Prop:=QF se Tryz.f220 [true] (yP x) (Be r)
theorem GH (s_2:List ac)(x2:Int):cI se 1 (zG s_2) BI 2 (iq s_2 x2) (fun u=>(sO 61 [(0,.hs 2 0 [] 1 0 (u.2.map str).length),(3,I u.1)] [none,some ⟨0,1,u.2.map str⟩] 3)) fun x6=>(sO 61 [(0,.hs 2 0 [] 1 0 (x6.2.2.map str).length),(3,I x6.1),(4,.hs 2 0 [] 1 (0+Int.toNat x2) (Int.toNat (len s_2) - Int.toNat x2)),(5,I x6.2.1)] [none,some ⟨0,1,x6.2.2.map str⟩] 3):=eC (vm s_2 x2) fun {Q K} hK self ih x6 y h hr hn=>by
 unfold iM at h
 refine cq 8 [32] [B (decide (x6.2.1<(((Int.toNat (len s_2) - Int.toNat x2):Nat):Int)))] 67 ?_
 refine sq h (fun h=>?_) fun h=>?_
 ·refine aq 1 ?_
  refine aq 3 ?_
  refine dV [0,0,3,7,0,0,32,112,240,511] rfl (by decide +kernel) ?_
  refine dk 2 [36,35] [I x6.2.1,.hs 2 0 [] 1 (0+Int.toNat x2) (Int.toNat (len s_2) - Int.toNat x2)] ?_
  obtain⟨e7,he7,h⟩:=bS h
  refine dq [2] [] (.hp 2 0 [] 1 ((0+Int.toNat x2)+Int.toNat x6.2.1) 0) rfl (ao rfl rfl rfl (Ik (xs:=x6.2.2) rfl rfl he7)) ?_
  refine dq [2] [] (str e7) rfl (bQ rfl (ox (path:=[]) rfl rfl rfl bM (F8 (f:=str) (xs:=x6.2.2) he7) rfl rfl rfl)) ?_
  refine dk 3 [41,40,39] [I (an (x6.2.1 - 1)),I x6.2.1,.hs 2 0 [] 1 (0+Int.toNat x2) (Int.toNat (len s_2) - Int.toNat x2)] ?_
  obtain⟨e8,he8,h⟩:=bS h
  refine dq [2] [] (.hp 2 0 [] 1 ((0+Int.toNat x2)+Int.toNat (an (x6.2.1 - 1))) 0) rfl (ao rfl rfl rfl (Ik (xs:=x6.2.2) rfl rfl he8)) ?_
  refine dq [2] [] (str e8) rfl (bQ rfl (ox (path:=[]) rfl rfl rfl bM (F8 (f:=str) (xs:=x6.2.2) he8) rfl rfl rfl)) ?_
  refine dk 1 [44] [B (!(e7==e8))] ?_
  refine de 227 rfl rfl ?_
  obtain⟨y9,hy9,hy91,hy92⟩:=bL h
  have j9:∀u9,y9=.inr u9→Run se 1 Q (.blk 3::.code (cR (cR BI))::.lp BI::.blk 2::K) (sO 61 [(0,.hs 2 0 [] 1 0 (u9.2.map str).length),(3,I u9.1),(4,.hs 2 0 [] 1 (0+Int.toNat x2) (Int.toNat (len s_2) - Int.toNat x2)),(5,I x6.2.1)] [none,some ⟨0,1,u9.2.map str⟩] 3):=by
   intro u9 hu
   replace h:=hy92 u9 hu
   refine cq 6 [5] [I (an (x6.2.1+1))] 51 ?_
   refine dC ?_
   exact rg [0,3,4,5] [52,2] (ih _ _ h hr hn :)
  have r9:∀r',y9=.inl r'→∀st,zG s_2 r' st→Q st:=fun r' e st hq=>hr r' (hy91 r' e) st hq
  replace h:=hy9
  refine sq h (fun h=>?_) fun h=>?_
  ·refine cq 6 [45,46,47,48] [.hs 2 0 [] 1 0 (x6.2.2.map str).length,I x6.1,.hs 2 0 [] 1 (0+Int.toNat x2) (Int.toNat (len s_2) - Int.toNat x2),I x6.2.1] 291 ?_
   obtain⟨e10,he10,h⟩:=bS h
   refine oq 307 (.hp 2 0 [] 1 ((0+Int.toNat x2)+Int.toNat x6.2.1) 0) rfl (ao rfl rfl rfl (Ik (xs:=x6.2.2) rfl rfl he10)) ?_
   refine oq 323 (str e10) rfl (bQ rfl (ox (path:=[]) rfl rfl rfl bM (F8 (f:=str) (xs:=x6.2.2) he10) rfl rfl rfl)) ?_
   obtain⟨e11,he11,h⟩:=bS h
   refine oq 339 (.hp 2 0 [] 1 (0+Int.toNat x6.1) 0) rfl (ao rfl rfl rfl (iY (f:=str) (xs:=x6.2.2) rfl rfl rfl he11)) ?_
   refine o0 355 rfl rfl (li rfl rfl (iz (path:=[]) (pl:=true) (e':=str e10) (es2':=(eU x6.2.2 x6.1 e10).map str) rfl (eR rfl) rfl rfl rfl bM (gB (f:=str) (xs:=x6.2.2) he11) rfl rfl rfl (mY (f:=str) (xs:=x6.2.2) (y:=e10)) fU 0 rfl)) ?_
   try rw[←lQ (f:=str) (xs:=x6.2.2) (i:=x6.1) (z:=e10)]
   refine cq 6 [3] [I (an (x6.1+1))] 403 ?_
   exact rg [0,3,4,5] [404,2] (j9 _ (Option.some.inj h).symm :)
  ·refine aq 1 ?_
   exact rg [0,3,4,5] [228,2] (j9 _ (Option.some.inj h).symm :)
 ·refine aq 1 ?_
  exact rg [0,3] [68,2] (hn _ (Option.some.inj h).symm :) (hk:=hK)
theorem Gx (s_2:List ac):cI se 1 (zG s_2) (cL (cL (cR (cL (cR (cR Fc)))))) 0 (mZ s_2) (fun u=>(sO 61 [(0,.hs 2 0 [] 1 0 (u.map str).length)] [none,some ⟨0,1,u.map str⟩] 3)) fun x2=>(sO 61 [(0,.hs 2 0 [] 1 0 (s_2.map str).length),(3,I x2)] [none,some ⟨0,1,s_2.map str⟩] 3):=eC (uM s_2) fun {Q K} hK self ih x2 y h hr hn=>by
 unfold i8 at h
 refine cq 5 [10,11] [I x2,.hs 2 0 [] 1 0 (s_2.map str).length] 35 ?_
 refine oq 51 (I (len s_2)) rfl (bT rfl rfl rfl (uA (f:=str) (xs:=s_2) rfl rfl)) ?_
 refine cq 2 [13] [B (decide (x2<(len s_2)))] 67 ?_
 refine sq h (fun h=>?_) fun h=>?_
 ·refine aq 1 ?_
  refine aq 3 ?_
  refine dV [0,0,3,7,0,0,32,112,240,511] rfl (by decide +kernel) ?_
  refine dk 2 [17,16] [I x2,.hs 2 0 [] 1 0 (s_2.map str).length] ?_
  obtain⟨e3,he3,h⟩:=bS h
  refine dq [2] [] (.hp 2 0 [] 1 (0+Int.toNat x2) 0) rfl (ao rfl rfl rfl (iY (f:=str) (xs:=s_2) rfl rfl rfl he3)) ?_
  refine dq [2] [] (str e3) rfl (bQ rfl (ox (path:=[]) rfl rfl rfl bM (gB (f:=str) (xs:=s_2) he3) rfl rfl rfl)) ?_
  refine dk 3 [22,21,20] [I (an (x2 - 1)),I x2,.hs 2 0 [] 1 0 (s_2.map str).length] ?_
  obtain⟨e4,he4,h⟩:=bS h
  refine dq [2] [] (.hp 2 0 [] 1 (0+Int.toNat (an (x2 - 1))) 0) rfl (ao rfl rfl rfl (iY (f:=str) (xs:=s_2) rfl rfl rfl he4)) ?_
  refine dq [2] [] (str e4) rfl (bQ rfl (ox (path:=[]) rfl rfl rfl bM (gB (f:=str) (xs:=s_2) he4) rfl rfl rfl)) ?_
  refine dk 1 [25] [B (e3==e4)] ?_
  refine de 227 rfl rfl ?_
  refine sq h (fun h=>?_) fun h=>?_
  ·refine cq 4 [26,27] [.hs 2 0 [] 1 0 (s_2.map str).length,I x2] 259 ?_
   obtain⟨s5,hs5,h⟩:=bS h
   refine oq 275 (.hs 2 0 [] 1 (0+Int.toNat x2) (Int.toNat (len s_2) - Int.toNat x2)) rfl (fy rfl rfl rfl rfl (qd (f:=str) (xs:=s_2) rfl rfl rfl rfl (M7 rfl) hs5)) ?_
   refine cq 8 [4,5] [.hs 2 0 [] 1 (0+Int.toNat x2) (Int.toNat (len s_2) - Int.toNat x2),I (1)] 307 ?_
   obtain⟨y15,hy15,hy151,hy152⟩:=bL h
   refine ci rfl ?_
   refine rg [0,3,4,5] [308,2] (GH s_2 x2 rfl (x2,1,s_2) _ hy15 (fun r' e st hq=>hr r' (hy151 r' e) st hq) fun u15 hu=>?_)
   replace h:=hy152 u15 hu
   refine cq 4 [54,55] [.hs 2 0 [] 1 0 (u15.2.map str).length,I u15.1] 35 ?_
   obtain⟨s16,hs16,h⟩:=bS h
   refine oq 51 (.hs 2 0 [] 1 (0+Int.toNat u15.1) (Int.toNat (len u15.2) - Int.toNat u15.1)) rfl (fy rfl rfl rfl rfl (qd (f:=str) (xs:=u15.2) rfl rfl rfl rfl (M7 rfl) hs16)) ?_
   obtain⟨k17,hk17,h⟩:=bS h
   refine o0 67 rfl rfl (Qz rfl rfl (SY (f:=str) (xs:=u15.2) (z0:=[]) rfl rfl rfl rfl (by decide) jW hk17)) ?_
   try rw[show (u15.2.map str).length=(k17.map str).length from QA hk17]
   refine cq 5 [57,58] [.hs 2 0 [] 1 0 (k17.map str).length,I u15.1] 99 ?_
   obtain⟨s18,hs18,h⟩:=bS h
   refine oq 115 (.hs 2 0 [] 1 (0+Int.toNat (0)) (Int.toNat u15.1 - Int.toNat (0))) rfl (fy rfl rfl rfl rfl (qd (f:=str) (xs:=k17) rfl rfl rfl rfl rfl hs18)) ?_
   refine cq 2 [2] [.hs 2 0 [] 1 (0+Int.toNat (0)) (Int.toNat u15.1 - Int.toNat (0))] 131 ?_
   obtain⟨p19,hp19,h⟩:=bS h
   exact aj rfl (hr _ (Option.some.inj h).symm _ ⟨_,fin (vs:=[.hs 2 0 [] 1 (0+Int.toNat (0)) (Int.toNat u15.1 - Int.toNat (0))]) rfl (fK (gt rfl (LG (path:=[]) (f:=str) (xs:=k17) rfl rfl bM hp19 rfl xE)) et) rfl (qZ rfl (mM rfl) fT),qE fI⟩)
  ·refine aq 1 ?_
   refine cq 6 [3] [I (an (x2+1))] 275 ?_
   refine dC ?_
   exact rg [0,3] [276,2] (ih _ _ h hr hn :)
 ·refine aq 1 ?_
  exact rg [0] [68,2] (hn _ (Option.some.inj h).symm :) (hk:=hK)
theorem Na (s_2:List ac)(r:(List ac))(h:wr s_2=some r):bl se Tryz.f220 [true] 1 (yP s_2) (Be r):=by
 show Run _ _ (zG s_2 r) [.code Fc] _
 refine rI 61 [(0,.hs 1 0 [] 1 0 (s_2.map str).length)] [(1,some ⟨0,1,s_2.map str⟩)] 2 ?_
 unfold wr at h
 refine cq 8 [6] [.hs 1 0 [] 1 0 (s_2.map str).length] 34 ?_
 refine oq 50 (I (len s_2)) rfl (bT rfl rfl rfl (uA (f:=str) (xs:=s_2) rfl rfl)) ?_
 refine cq 2 [8] [B (decide ((len s_2)<2))] 66 ?_
 refine sq h (fun h=>?_) fun h=>?_
 ·refine cq 5 [2] [.hs 1 0 [] 1 0 (s_2.map str).length] 98 ?_
  obtain rfl:=Option.some.inj h
  exact aj rfl ⟨_,fin (vs:=[.hs 1 0 [] 1 0 (s_2.map str).length]) rfl (fK (gt rfl (dK rfl rfl)) et) rfl (qZ rfl (mM rfl) fT),qE fI⟩
 ·refine aq 1 ?_
  refine cq 6 [3] [I (1)] 82 ?_
  obtain⟨y20,hy20,hy201,hy202⟩:=bJ h
  refine ci rfl ?_
  refine rg [0,3] [83,1] (Gx s_2 rfl 1 _ hy20 (fun r' e st hq=>by rw[hy201 r' e] at hq;exact hq) fun u20 hu=>?_)
  replace h:=hy202 u20 hu
  refine cq 5 [2] [.hs 2 0 [] 1 0 (u20.map str).length] 35 ?_
  obtain rfl:=Option.some.inj h
  exact aj rfl ⟨_,fin (vs:=[.hs 2 0 [] 1 0 (u20.map str).length]) rfl (fK (gt rfl (dK rfl rfl)) et) rfl (qZ rfl (mM rfl) fT),qE fI⟩
theorem Kp {G:Go.Ln.Ground}[TabG Tryz.prog G]:aK Tryz.prog G 220 wX:=gT 1 1 bn (Checked.mixed Tryz.checked) Tryz.func220 (fun a r h=>Na a r h)
def D0:(List ac)→List V:=oA (Aq 1 str)
def Ef (r:(List ac)):V×List V:=(.usl 1 (r.map str),[.dead])
noncomputable def B4:Ent:=aW [true] D0 Ef fun x=>EQ x
theorem Tw {list_5:List ac}{r}(h:EQ list_5=some r):B4.F (D0 list_5)=some (Ef r):=aF (aE (ng bp)) h
noncomputable def S7:Code:=aD Tryz.f187
noncomputable def Ps:Env:=bW Tryz.prog [(219,qC),(220,wX)]
def TE (x:(List ac))(r:(List ac)):St→Prop:=QF Ps Tryz.f187 [true] (D0 x) (Ef r)
theorem PE (list_5:List ac)(r:(List ac))(h:EQ list_5=some r):bl Ps Tryz.f187 [true] 1 (D0 list_5) (Ef r):=by
 show Run _ _ (TE list_5 r) [.code S7] _
 refine rI 7 [(0,.hs 1 0 [] 1 0 (list_5.map str).length)] [(1,some ⟨0,1,list_5.map str⟩)] 2 ?_
 unfold EQ at h
 refine cq 7 [3] [.hs 1 0 [] 1 0 (list_5.map str).length] 34 ?_
 obtain⟨r2,hr2,h⟩:=bS h
 obtain⟨g3,h⟩:=gG h
 refine oq 50 (.tup []) rfl (bU rfl rfl (cm rfl rfl rfl (ro (oz rfl (jP (path:=[]) rfl rfl bM rfl)) cN) (Om hr2) (.inr rfl) (qG rfl rfl rfl rfl dF) rfl rfl rfl)) ?_
 try rw[Qs (f:=str) (xs:=list_5) (ys:=r2) g3]
 refine cq 4 [5] [.hs 1 0 [] 1 0 (r2.map str).length] 66 ?_
 obtain⟨r4,hr4,h⟩:=bS h
 refine oq 82 (.hs 66 0 [] 1 0 (r4.map str).length) rfl (bU rfl rfl (cm rfl rfl rfl (ro (oz rfl (jP (path:=[]) rfl rfl bM rfl)) cN) (Sv hr4) (.inr rfl) (qG rfl rfl rfl kF dF) rfl rfl rfl)) ?_
 refine cq 2 [2] [.hs 66 0 [] 1 0 (r4.map str).length] 98 ?_
 obtain rfl:=Option.some.inj h
 exact aj rfl ⟨_,fin (vs:=[.hs 66 0 [] 1 0 (r4.map str).length]) rfl (fK (gt rfl (dK rfl rfl)) et) rfl (qZ rfl (mM rfl) fT),qE fI⟩
theorem NE {G:Go.Ln.Ground}[TabG Tryz.prog G]:aK Tryz.prog G 187 B4:=gT 1 1 (aJ GS (aJ Kp bn)) (Checked.mixed Tryz.checked) Tryz.func187 (fun a r h=>PE a r h)
def D5:Contract→List V:=oA aN
def Eh (r:(List ac)):V×List V:=(.usl 1 (r.map str),[])
noncomputable def B1:Ent:=aW [false] D5 Eh fun x=>EX x
theorem TA {c_1:Contract}{r}(h:EX c_1=some r):B1.F (D5 c_1)=some (Eh r):=aF (aE bm) h
noncomputable def Po:Code:=aD Tryz.f125
noncomputable def IJ:Env:=bW Tryz.prog [(186,BB),(187,B4)]
def Pu (x:Contract)(r:(List ac)):St→Prop:=QF IJ Tryz.f125 [false] (D5 x) (Eh r)
theorem I6 (c_1:Contract):cI IJ 0 (Pu c_1) (cL (cL (cR (cL (cR (cR Po)))))) 0 (mm c_1) (fun u=>(sT 25 [(3,.hs 1 0 [] 1 0 (u.map str).length)] [⟨0,1,u.map str⟩] 2)) fun x2=>(sT 25 [(3,.hs 1 0 [] 1 0 (x2.2.map str).length),(8,.isl false (c_1.Clauses.map ae)),(9,I (len c_1.Clauses)),(10,I x2.1)] [⟨0,1,x2.2.map str⟩] 2):=eC (Ak c_1) fun {Q K} hK self ih x2 y h hr hn=>by
 unfold kb at h
 refine cq 5 [11] [B (decide (x2.1<(len c_1.Clauses)))] 18 ?_
 refine sq h (fun h=>?_) fun h=>?_
 ·refine aq 1 ?_
  refine aq 4 ?_
  obtain⟨e3,he3,h⟩:=bS h
  refine oq 34 (.iptr (.agg [str e3.Id,I e3.Kind,I e3.Party,str e3.Action,I e3.Other,I e3.Amount,I e3.When.Op,str e3.When.Name,I e3.When.Day,.isl false (e3.When.Parts.map aa),I e3.Within,str e3.Repair]) 0) rfl (ao rfl rfl rfl (bh rfl rfl rfl rfl he3)) ?_
  refine ck 2 [5,13] [] [50] [] [.hp 50 0 [] 12 0 0,.agg [str e3.Id,I e3.Kind,I e3.Party,str e3.Action,I e3.Other,I e3.Amount,I e3.When.Op,str e3.When.Name,I e3.When.Day,.isl false (e3.When.Parts.map aa),I e3.Within,str e3.Repair]] [some ⟨0,12,[.agg [str ([]),I (0),I (0),str ([]),I (0),I (0),I (0),str ([]),I (0),.isl true [],I (0),str ([])]]⟩] 66 (by kernel_rfl) ?_
  refine eF 50 [.agg [str ([]),I (0),I (0),str ([]),I (0),I (0),I (0),str ([]),I (0),.usl 4 (([]).map ak),I (0),str ([])]] rfl rfl (au (fH (au (.refl _) (au (.refl _) (au (.refl _) (au (.refl _) (au (.refl _) (au (.refl _) (au (.refl _) (au (.refl _) (au (.refl _) (au (.nil _) (au (.refl _) (au (.refl _) dH))))))))))))) dH) ?_
  refine ck 2 [] [] [50] [] [] [some ⟨2,12,[.agg [str e3.Id,I e3.Kind,I e3.Party,str e3.Action,I e3.Other,I e3.Amount,I e3.When.Op,str e3.When.Name,I e3.When.Day,.isl false (e3.When.Parts.map aa),I e3.Within,str e3.Repair]]⟩] 82 (by kernel_rfl) ?_
  refine dV [0,1,0,0,8,24,60,127,255] rfl (by decide +kernel) ?_
  refine dq [50] [] (.hp 50 0 [] 12 0 6) rfl (aV rfl rfl rfl) ?_
  refine dq [50] [] (.agg [I e3.When.Op,str e3.When.Name,I e3.When.Day,.isl false (e3.When.Parts.map aa)]) rfl (bQ rfl rfl) ?_
  refine dk 1 [16] [.hs 1 0 [] 1 0 (x2.2.map str).length] ?_
  refine dq [50] [] (.hp 50 0 [] 12 0 3) rfl (aV rfl rfl rfl) ?_
  refine dq [50] [] (str e3.Action) rfl (bQ rfl rfl) ?_
  refine dq [] [] (.hs 162 0 [] 1 0 1) rfl (fO rfl (qm (f:=I) (xs:=[]) (z:=str ([])) (es:=[str e3.Action]) (ws:=[str e3.Action]) rfl rfl rfl (by decide) rfl (d8 rfl) rfl)) ?_
  obtain⟨a4,ha4,h⟩:=bS h
  refine dq [1,162] [1] (.hs 178 0 [] 1 0 (a4.map str).length) rfl (nD rfl rfl rfl rfl rfl (sw (path:=[]) (f:=str) (xs:=x2.2) (ys:=[e3.Action]) rfl rfl (BU rfl rfl rfl) rfl rfl rfl bM rfl (by decide) iC ha4 rfl xE)) ?_ (Dy rfl (Ee (path:=[]) (f:=str) (xs:=[e3.Action]) rfl rfl bM jW rfl))
  obtain⟨r5,hr5,h⟩:=bS h
  refine dq [178] [178] (.hs 194 0 [] 1 0 (r5.map str).length) rfl (bU rfl rfl (cm rfl rfl rfl (bX (cj rfl) (ro (oz rfl (jP (path:=[]) rfl rfl bM rfl)) cN)) (O3 hr5) (.inr rfl) (qG rfl rfl rfl kF dF) rfl rfl rfl)) ?_ (cC rfl rfl rfl rfl (bX (cj rfl) (ro (oz rfl (jP (path:=[]) rfl rfl bM rfl)) cN)) (O3 hr5) (.inr rfl) rfl)
  refine dk 1 [3] [.hs 194 0 [] 1 0 (r5.map str).length] ?_
  refine de 226 rfl rfl ?_
  refine cq 5 [10] [I (an (x2.1+1))] 258 ?_
  refine dC ?_
  exact rf [3,8,9,10] [194] (ih _ _ h hr hn :)
 ·refine aq 1 ?_
  exact rf [3] [1] (hn _ (Option.some.inj h).symm :) (hk:=hK)
theorem Qr (c_1:Contract)(r:(List ac))(h:EX c_1=some r):bl IJ Tryz.f125 [false] 0 (D5 c_1) (Eh r):=by
 show Run _ _ (Pu c_1 r) [.code Po] _
 refine rI 25 [(0,.agg [.isl false (c_1.Parties.map str),.isl false (c_1.Clauses.map ae)])] [] 1 ?_
 unfold EX at h
 refine ck 7 [1] [] [1] [] [.hp 1 0 [] 2 0 0] [some ⟨0,2,[.agg [.isl false (c_1.Parties.map str),.isl false (c_1.Clauses.map ae)]]⟩] 33 (by kernel_rfl) ?_
 refine oq 49 (.hs 33 0 [] 1 0 0) rfl (fO rfl (qm (f:=I) (xs:=[]) (z:=str ([])) (es:=[]) (ws:=[]) rfl rfl rfl (by decide) rfl (d8 rfl) rfl)) ?_
 refine cq 7 [3,8] [.hs 33 0 [] 1 0 0,.isl false (c_1.Clauses.map ae)] 97 ?_
 refine oq 113 (I (len c_1.Clauses)) rfl (bT rfl rfl rfl (ce rfl)) ?_
 refine cq 3 [10] [I (0)] 129 ?_
 obtain⟨y6,hy6,hy61,hy62⟩:=bJ h
 refine ci rfl ?_
 refine rf [3,8,9,10] [33] (I6 c_1 rfl (0,[]) _ hy6 (fun r' e st hq=>by rw[hy61 r' e] at hq;exact hq) fun u6 hu=>?_)
 replace h:=hy62 u6 hu
 refine cq 3 [23] [.hs 1 0 [] 1 0 (u6.map str).length] 18 ?_
 obtain⟨r7,hr7,h⟩:=bS h
 refine oq 34 (.hs 18 0 [] 1 0 (r7.map str).length) rfl (bU rfl rfl (cm rfl rfl rfl (ro (oz rfl (jP (path:=[]) rfl rfl bM rfl)) cN) (Tw hr7) (.inr rfl) (qG rfl rfl rfl kF dF) rfl rfl rfl)) ?_
 refine cq 2 [2] [.hs 18 0 [] 1 0 (r7.map str).length] 50 ?_
 obtain rfl:=Option.some.inj h
 exact aj rfl ⟨_,fin (vs:=[.hs 18 0 [] 1 0 (r7.map str).length]) rfl (fK (gt rfl (dK rfl rfl)) et) rfl (fh fT),fI⟩
theorem NB {G:Go.Ln.Ground}[TabG Tryz.prog G]:aK Tryz.prog G 125 B1:=gT 1 0 (aJ Oq (aJ NE bn)) (Checked.mixed Tryz.checked) Tryz.func125 (fun a r h=>Qr a r h)
def Dp:Contract→List V:=oA aN
def D9 (r:Bool):V×List V:=(B r,[])
noncomputable def BL:Ent:=aW [false] Dp D9 fun x=>FC x
theorem S3 {c_1:Contract}{r}(h:FC c_1=some r):BL.F (Dp c_1)=some (D9 r):=aF (aE bm) h
noncomputable def DX:Code:=aD Tryz.f65
noncomputable def DK:Env:=bW Tryz.prog [(123,BP),(124,B2),(125,B1),(86,jj)]
def zr (x:Contract)(r:Bool):St→Prop:=QF DK Tryz.f65 [false] (Dp x) (D9 r)
theorem Ig (c_1:Contract):cI DK 0 (zr c_1) (cL (cL (cR (cL (cR (cR DX)))))) 0 (kQ c_1) (fun u=>(sT 30 [(1,.hp 1 0 [] 2 0 0)] [⟨0,2,[.agg [.isl false (c_1.Parties.map str),.isl false (c_1.Clauses.map ae)]]⟩] 2)) fun x4=>(sT 30 [(1,.hp 1 0 [] 2 0 0),(17,I (len c_1.Clauses)),(18,I x4)] [⟨0,2,[.agg [.isl false (c_1.Parties.map str),.isl false (c_1.Clauses.map ae)]]⟩] 2):=eC (xN c_1) fun {Q K} hK self ih x4 y h hr hn=>by
 unfold jT at h
 refine cq 5 [19] [B (decide (x4<(len c_1.Clauses)))] 18 ?_
 refine sq h (fun h=>?_) fun h=>?_
 ·refine aq 1 ?_
  refine cq 11 [21,22] [.agg [.isl false (c_1.Parties.map str),.isl false (c_1.Clauses.map ae)],I x4] 82 ?_
  obtain⟨r5,hr5,h⟩:=bS h
  refine oq 98 (B r5) rfl (cP (Tt hr5)) ?_
  refine cq 2 [24] [B (!r5)] 114 ?_
  refine sq h (fun h=>?_) fun h=>?_
  ·refine cq 4 [2] [B false] 130 ?_
   exact aj rfl (hr _ (Option.some.inj h).symm _ (qp [B false]))
  ·refine aq 1 ?_
   refine cq 5 [18] [I (an (x4+1))] 146 ?_
   refine dC ?_
   exact rf [1,17,18] [1] (ih _ _ h hr hn :)
 ·refine aq 1 ?_
  exact rf [1] [1] (hn _ (Option.some.inj h).symm :) (hk:=hK)
theorem PI (c_1:Contract)(r:Bool)(h:FC c_1=some r):bl DK Tryz.f65 [false] 0 (Dp c_1) (D9 r):=by
 show Run _ _ (zr c_1 r) [.code DX] _
 refine rI 30 [(0,.agg [.isl false (c_1.Parties.map str),.isl false (c_1.Clauses.map ae)])] [] 1 ?_
 unfold FC at h
 refine ck 10 [1,5] [] [1] [] [.hp 1 0 [] 2 0 0,.isl false (c_1.Parties.map str)] [some ⟨0,2,[.agg [.isl false (c_1.Parties.map str),.isl false (c_1.Clauses.map ae)]]⟩] 65 (by kernel_rfl) ?_
 obtain⟨r2,hr2,h⟩:=bS h
 refine oq 81 (B r2) rfl (cP (Tl hr2)) ?_
 refine cq 2 [8] [B (!r2)] 113 ?_
 obtain⟨y3,hy3,hy31,hy32⟩:=bJ h
 have j3:∀u3,y3=.inr u3→Run DK 0 (zr c_1 r) (.code (cR (cL (cR DX)))::.code (cR (cR DX))::[]) (sT 30 [(1,.hp 1 0 [] 2 0 0),(14,B u3)] [⟨0,2,[.agg [.isl false (c_1.Parties.map str),.isl false (c_1.Clauses.map ae)]]⟩] 2):=by
  intro u3 hu
  replace h:=hy32 u3 hu
  refine sq h (fun h=>?_) fun h=>?_
  ·refine cq 4 [2] [B false] 18 ?_
   obtain rfl:=Option.some.inj h
   exact aj rfl (qp [B false])
  ·refine aq 1 ?_
   refine cq 5 [16] [.isl false (c_1.Clauses.map ae)] 34 ?_
   refine oq 50 (I (len c_1.Clauses)) rfl (bT rfl rfl rfl (ce rfl)) ?_
   refine cq 3 [18] [I (0)] 66 ?_
   obtain⟨y6,hy6,hy61,hy62⟩:=bJ h
   refine ci rfl ?_
   refine rf [1,17,18] [1] (Ig c_1 rfl 0 _ hy6 (fun r' e st hq=>by rw[hy61 r' e] at hq;exact hq) fun u6 hu=>?_)
   replace h:=hy62 u6 hu
   refine cq 3 [26] [.agg [.isl false (c_1.Parties.map str),.isl false (c_1.Clauses.map ae)]] 18 ?_
   obtain⟨r7,hr7,h⟩:=bS h
   refine oq 34 (.hs 18 0 [] 1 0 (r7.map str).length) rfl (cP (TA hr7)) ?_
   refine oq 50 (I (len r7)) rfl (bT rfl rfl rfl (uA (f:=str) (xs:=r7) rfl rfl)) ?_
   refine cq 3 [2] [B (decide ((len r7)≤16))] 82 ?_
   obtain rfl:=Option.some.inj h
   exact aj rfl (qp [B (decide ((len r7)≤16))])
 have r3:∀r',y3=.inl r'→∀st,zr c_1 r' st→(zr c_1 r) st:=fun r' e st hq=>by rw[hy31 r' e] at hq;exact hq
 replace h:=hy3
 refine sp 8 h rfl (fun h=>?_) fun h=>?_
 ·refine cq 7 [14] [B true] 209 ?_
  exact rf [1,14] [1] (j3 _ (Option.some.inj h).symm :)
 ·refine cq 2 [10] [.isl false (c_1.Clauses.map ae)] 145 ?_
  refine oy 161 (I (len c_1.Clauses)) rfl (bT rfl rfl rfl (ce rfl)) ?_
  obtain⟨r8,hr8,h⟩:=bS h
  refine oy 177 (B r8) rfl (cP (jN hr8)) ?_
  refine cq 3 [14] [B (!r8)] 209 ?_
  exact rf [1,14] [1] (j3 _ (Option.some.inj h).symm :)
theorem OJ {G:Go.Ln.Ground}[TabG Tryz.prog G]:aK Tryz.prog G 65 BL:=gT 1 0 (aJ M5 (aJ NT (aJ NB (aJ jX bn)))) (Checked.mixed Tryz.checked) Tryz.func65 (fun a r h=>PI a r h)
def lZ:Int→List V:=oA I
def l4 (r:Int):V×List V:=(I r,[])
noncomputable def mC:Ent:=aW [false] lZ l4 fun x=>iG x
theorem vk {n_1:Int}{r}(h:iG n_1=some r):mC.F (lZ n_1)=some (l4 r):=aF (aE bK) h
noncomputable def GB:Code:=aD Tryz.f203
noncomputable def vq:Env:=bW Tryz.prog []
def GV (x:Int)(r:Int):St→Prop:=QF vq Tryz.f203 [false] (lZ x) (l4 r)
theorem Dk (n_1:Int)(r:Int)(h:iG n_1=some r):bl vq Tryz.f203 [false] 0 (lZ n_1) (l4 r):=by
 show Run _ _ (GV n_1 r) [.code GB] _
 refine rI 7 [(0,I n_1)] [] 1 ?_
 unfold iG at h
 refine cq 12 [2] [I (if (an (0 - n_1))>n_1 then (an (0 - n_1)) else n_1)] 97 ?_
 obtain rfl:=Option.some.inj h
 exact aj rfl (qp [I (if (an (0 - n_1))>n_1 then (an (0 - n_1)) else n_1)])
theorem Ca {G:Go.Ln.Ground}[TabG Tryz.prog G]:aK Tryz.prog G 203 mC:=gT 1 0 bn (Checked.mixed Tryz.checked) Tryz.func203 (fun a r h=>Dk a r h)
def G5:Shelf.Ren:=⟨fun | 171=>202 | 243=>228 | 246=>248 | 283=>268 | 284=>269 | 285=>270 | 286=>271 | 129=>240 | 317=>281 | 318=>282 | 319=>283 | 320=>284 | 337=>288 | 338=>289 | n=>n,fun | 3=>3 | 9=>9 | 2=>2 | 4=>4 | 171=>248 | 0=>0 | 53=>227 | 37=>124 | 5=>5 | 173=>250 | 212=>258 | 51=>225 | 20=>20 | 213=>259 | 46=>205 | 232=>267 | 233=>268 | n=>n,fun | 17=>1 | 18=>4 | 19=>5 | n=>n⟩
theorem Qh:Go.Proofs.LaysM.n171 Tryz.prog G5 where
 mixed:=by kernel_rfl
 f129:=Tryz.func240.trans (congrArg some (by kernel_rfl))
 f171:=Tryz.func202.trans (congrArg some (by kernel_rfl))
 f243:=Tryz.func228.trans (congrArg some (by kernel_rfl))
 f246:=Tryz.func248.trans (congrArg some (by kernel_rfl))
 f283:=Tryz.func268.trans (congrArg some (by kernel_rfl))
 f284:=Tryz.func269.trans (congrArg some (by kernel_rfl))
 f285:=Tryz.func270.trans (congrArg some (by kernel_rfl))
 f286:=Tryz.func271.trans (congrArg some (by kernel_rfl))
 f317:=Tryz.func281.trans (congrArg some (by kernel_rfl))
 f318:=Tryz.func282.trans (congrArg some (by kernel_rfl))
 f319:=Tryz.func283.trans (congrArg some (by kernel_rfl))
 f320:=Tryz.func284.trans (congrArg some (by kernel_rfl))
 f337:=Tryz.func288.trans (congrArg some (by kernel_rfl))
 f338:=Tryz.func289.trans (congrArg some (by kernel_rfl))
 t0:=Tryz.underlying0
 a0:=Tryz.isAgg0
 z0:=Tryz.sizeOf0
 v0:=Tryz.zeroValue0
 t2:=Tryz.underlying2
 a2:=Tryz.isAgg2
 z2:=Tryz.sizeOf2
 v2:=Tryz.zeroValue2
 t3:=Tryz.underlying3
 a3:=Tryz.isAgg3
 z3:=Tryz.sizeOf3
 v3:=Tryz.zeroValue3
 t4:=Tryz.underlying4
 a4:=Tryz.isAgg4
 z4:=Tryz.sizeOf4
 v4:=Tryz.zeroValue4
 t5:=Tryz.underlying5
 a5:=Tryz.isAgg5
 z5:=Tryz.sizeOf5
 v5:=Tryz.zeroValue5
 t9:=Tryz.underlying9
 a9:=Tryz.isAgg9
 z9:=Tryz.sizeOf9
 v9:=Tryz.zeroValue9
 t20:=Tryz.underlying20
 a20:=Tryz.isAgg20
 z20:=Tryz.sizeOf20
 v20:=Tryz.zeroValue20
 t37:=Tryz.underlying124
 a37:=Tryz.isAgg124
 z37:=Tryz.sizeOf124
 v37:=Tryz.zeroValue124
 t46:=Tryz.underlying205
 a46:=Tryz.isAgg205
 z46:=Tryz.sizeOf205
 v46:=Tryz.zeroValue205
 t51:=Tryz.underlying225
 a51:=Tryz.isAgg225
 z51:=Tryz.sizeOf225
 v51:=Tryz.zeroValue225
 t53:=Tryz.underlying227
 a53:=Tryz.isAgg227
 z53:=Tryz.sizeOf227
 v53:=Tryz.zeroValue227
 t171:=Tryz.underlying248
 a171:=Tryz.isAgg248
 z171:=Tryz.sizeOf248
 v171:=Tryz.zeroValue248
 t173:=Tryz.underlying250
 a173:=Tryz.isAgg250
 z173:=Tryz.sizeOf250
 v173:=Tryz.zeroValue250
 t212:=Tryz.underlying258
 a212:=Tryz.isAgg258
 z212:=Tryz.sizeOf258
 v212:=Tryz.zeroValue258
 t213:=Tryz.underlying259
 a213:=Tryz.isAgg259
 z213:=Tryz.sizeOf259
 t232:=Tryz.underlying267
 a232:=Tryz.isAgg267
 z232:=Tryz.sizeOf267
 v232:=Tryz.zeroValue267
 t233:=Tryz.underlying268
 a233:=Tryz.isAgg268
 z233:=Tryz.sizeOf268
 v233:=Tryz.zeroValue268
 g17:=by kernel_rfl
 g18:=by kernel_rfl
 g19:=by kernel_rfl
 i0:=by kernel_rfl
 i2:=by kernel_rfl
 i3:=by kernel_rfl
 i4:=by kernel_rfl
 i5:=by kernel_rfl
 i9:=by kernel_rfl
 i20:=by kernel_rfl
 i37:=by kernel_rfl
 i46:=by kernel_rfl
 i51:=by kernel_rfl
 i53:=by kernel_rfl
 i171:=by kernel_rfl
 i173:=by kernel_rfl
 i212:=by kernel_rfl
 i232:=by kernel_rfl
 i233:=by kernel_rfl
 m17:=by kernel_rfl
 m18:=by kernel_rfl
 m19:=by kernel_rfl
noncomputable def mi:Ent:=aW [false] (oA I) (fun r=>(str r,[])) mJ
theorem Cj {n:Int}{r}(h:mJ n=some r):mi.F [I n]=some (str r,[]):=aF (ea:=oA I) (aE bK) h
theorem qo {G:Go.Ln.Ground}[TabG Tryz.prog G]:aK Tryz.prog G 202 mi:=KD Qh
def D2:(Int×Int)→List V:=cA I (oA I)
def Eg (r:ac):V×List V:=(str r,[])
noncomputable def tR:Ent:=aW [false,false] D2 Eg fun x=>rn x.1 x.2
theorem ql {n_1:Int}{digits_2:Int}{r}(h:rn n_1 digits_2=some r):tR.F (D2 (n_1,digits_2))=some (Eg r):=aF (bO bK (aE bK)) h
noncomputable def O5:Code:=aD Tryz.f172
noncomputable def Ja:Env:=bW Tryz.prog [(202,mi)]
def Py (x:Int×Int)(r:ac):St→Prop:=QF Ja Tryz.f172 [false,false] (D2 x) (Eg r)
theorem Jk (n_1:Int)(digits_2:Int):cI Ja 0 (Py (n_1,digits_2)) (cL (cL (cL (cR (cR O5))))) 0 (sB n_1 digits_2) (fun u=>(sT 15 [(5,str u)] [] 1)) fun x4=>(sT 15 [(1,I digits_2),(5,str x4)] [] 1):=eC (yA n_1 digits_2) fun {Q K} hK self ih x4 y h hr hn=>by
 unfold jS at h
 refine cq 8 [11] [B (decide ((len x4)<digits_2))] 65 ?_
 refine sq h (fun h=>?_) fun h=>?_
 ·refine aq 1 ?_
  refine cq 3 [12] [str x4] 81 ?_
  obtain⟨s5,hs5,h⟩:=bS h
  refine oq 97 (str s5) rfl (aG rfl rfl (aH hs5)) ?_
  refine cq 3 [5] [str s5] 113 ?_
  refine dC ?_
  exact rf [1,5] [] (ih _ _ h hr hn :)
 ·refine aq 1 ?_
  exact rf [5] [] (hn _ (Option.some.inj h).symm :) (hk:=hK)
theorem QJ (n_1:Int)(digits_2:Int)(r:ac)(h:rn n_1 digits_2=some r):bl Ja Tryz.f172 [false,false] 0 (D2 (n_1,digits_2)) (Eg r):=by
 show Run _ _ (Py (n_1,digits_2) r) [.code O5] _
 refine rI 15 [(0,I n_1),(1,I digits_2)] [] 1 ?_
 unfold rn at h
 refine cq 7 [6] [I n_1] 33 ?_
 obtain⟨r3,hr3,h⟩:=bS h
 refine oq 49 (str r3) rfl (cP (Cj hr3)) ?_
 refine cq 4 [5] [str r3] 65 ?_
 obtain⟨y6,hy6,hy61,hy62⟩:=bJ h
 refine ci rfl ?_
 refine rf [1,5] [] (Jk n_1 digits_2 rfl r3 _ hy6 (fun r' e st hq=>by rw[hy61 r' e] at hq;exact hq) fun u6 hu=>?_)
 replace h:=hy62 u6 hu
 refine cq 5 [4] [str u6] 33 ?_
 obtain rfl:=Option.some.inj h
 exact aj rfl (qp [str u6])
theorem ES {G:Go.Ln.Ground}[TabG Tryz.prog G]:aK Tryz.prog G 172 tR:=gT 2 0 (aJ qo bn) (Checked.mixed Tryz.checked) Tryz.func172 (fun a r h=>QJ a.1 a.2 r h)
def D4:Int→List V:=oA I
def D6 (r:ac):V×List V:=(str r,[])
noncomputable def Cg:Ent:=aW [false] D4 D6 fun x=>Fi x
theorem Tp {x_1:Int}{r}(h:Fi x_1=some r):Cg.F (D4 x_1)=some (D6 r):=aF (aE bK) h
noncomputable def Pb:Code:=aD Tryz.f165
noncomputable def Jh:Env:=bW Tryz.prog [(203,mC),(202,mi),(172,tR)]
def O9 (x:Int)(r:ac):St→Prop:=QF Jh Tryz.f165 [false] (D4 x) (D6 r)
theorem PG (x_1:Int)(r:ac)(h:Fi x_1=some r):bl Jh Tryz.f165 [false] 0 (D4 x_1) (D6 r):=by
 show Run _ _ (O9 x_1 r) [.code Pb] _
 refine rI 18 [(0,I x_1)] [] 1 ?_
 unfold Fi at h
 refine cq 14 [3,5] [str ([]:ac),B (decide (x_1<0))] 65 ?_
 obtain⟨u2,hu2,h⟩:=lJ h
 have j2:Run Jh 0 (O9 x_1 r) (.code (cR (cR (cR Pb)))::[]) (sT 18 [(0,I x_1),(3,str u2)] [] 1):=by
  refine cq 4 [6,7] [str u2,I x_1] 33 ?_
  obtain⟨r3,hr3,h⟩:=bS h
  refine oq 49 (I r3) rfl (cP (vk hr3)) ?_
  refine cq 1 [9] [I (an (r3.tdiv 100))] 65 ?_
  obtain⟨r4,hr4,h⟩:=bS h
  refine oq 81 (str r4) rfl (cP (Cj hr4)) ?_
  obtain⟨s5,hs5,h⟩:=bS h
  refine oq 97 (str s5) rfl (aG rfl rfl (aH hs5)) ?_
  obtain⟨s6,hs6,h⟩:=bS h
  refine oq 113 (str s6) rfl (aG rfl rfl (aH hs6)) ?_
  refine cq 1 [13] [I x_1] 129 ?_
  obtain⟨r7,hr7,h⟩:=bS h
  refine oq 145 (I r7) rfl (cP (vk hr7)) ?_
  refine cq 1 [15] [I (r7.tmod 100)] 161 ?_
  obtain⟨r8,hr8,h⟩:=bS h
  refine oq 177 (str r8) rfl (cP (ql hr8)) ?_
  obtain⟨s9,hs9,h⟩:=bS h
  refine oq 193 (str s9) rfl (aG rfl rfl (aH hs9)) ?_
  refine cq 2 [2] [str s9] 209 ?_
  obtain rfl:=Option.some.inj h
  exact aj rfl (qp [str s9])
 replace h:=hu2
 clear hu2
 refine ma h rfl rfl (fun h=>?_) fun h=>?_
 ·refine cq 3 [3] [str ([45]:ac)] 81 ?_
  subst h
  exact rf [0,3] [] (j2 :)
 ·refine aq 1 ?_
  subst h
  exact rf [0,3] [] (j2 :)
theorem MO {G:Go.Ln.Ground}[TabG Tryz.prog G]:aK Tryz.prog G 165 Cg:=gT 1 0 (aJ Ca (aJ qo (aJ ES bn))) (Checked.mixed Tryz.checked) Tryz.func165 (fun a r h=>PG a r h)
def DD:Int→List V:=oA I
def DV (r:ac):V×List V:=(str r,[])
noncomputable def B8:Ent:=aW [false] DD DV fun x=>FA x
theorem Tn {n_1:Int}{r}(h:FA n_1=some r):B8.F (DD n_1)=some (DV r):=aF (aE bK) h
noncomputable def SU:Code:=aD Tryz.f166
noncomputable def Pd:Env:=bW Tryz.prog [(202,mi)]
def Tc (x:Int)(r:ac):St→Prop:=QF Pd Tryz.f166 [false] (DD x) (DV r)
theorem PW (n_1:Int)(r:ac)(h:FA n_1=some r):bl Pd Tryz.f166 [false] 0 (DD n_1) (DV r):=by
 show Run _ _ (Tc n_1 r) [.code SU] _
 refine rI 5 [(0,I n_1)] [] 1 ?_
 unfold FA at h
 refine cq 7 [3] [I n_1] 33 ?_
 obtain⟨r2,hr2,h⟩:=bS h
 refine oq 49 (str r2) rfl (cP (Cj hr2)) ?_
 refine cq 2 [2] [str r2] 65 ?_
 obtain rfl:=Option.some.inj h
 exact aj rfl (qp [str r2])
theorem Nb {G:Go.Ln.Ground}[TabG Tryz.prog G]:aK Tryz.prog G 166 B8:=gT 1 0 (aJ qo bn) (Checked.mixed Tryz.checked) Tryz.func166 (fun a r h=>PW a r h)
def Dn:(Int×Int)→List V:=cA I (oA I)
def DZ (r:Int):V×List V:=(I r,[])
noncomputable def tX:Ent:=aW [false,false] Dn DZ fun x=>yH x.1 x.2
theorem Jv {year_1:Int}{month_2:Int}{r}(h:yH year_1 month_2=some r):tX.F (Dn (year_1,month_2))=some (DZ r):=aF (bO bK (aE bK)) h
noncomputable def yb:Code:=aD Tryz.f207
noncomputable abbrev Gs:Code:=cR (cR (cR (cL (cR (cL (cR yb))))))
noncomputable def yq:Env:=bW Tryz.prog []
def DU (x:Int×Int)(r:Int):St→Prop:=QF yq Tryz.f207 [false,false] (Dn x) (DZ r)
theorem QT (year_1:Int)(month_2:Int)(r:Int)(h:yH year_1 month_2=some r):bl yq Tryz.f207 [false,false] 0 (Dn (year_1,month_2)) (DZ r):=by
 show Run _ _ (DU (year_1,month_2) r) [.code yb] _
 refine rI 16 [(0,I year_1),(1,I month_2)] [] 1 ?_
 unfold yH at h
 refine cq 15 [5,6] [I month_2,B (month_2==2)] 65 ?_
 refine sq h (fun h=>?_) fun h=>?_
 ·refine cq 7 [10] [B ((year_1.tmod 4)==0)] 113 ?_
  refine sq h (fun h=>?_) fun h=>?_
  ·refine cq 4 [4] [I (29)] 129 ?_
   obtain rfl:=Option.some.inj h
   exact aj rfl (qp [I (29)])
  ·refine aq 1 ?_
   refine cq 4 [4] [I (28)] 129 ?_
   obtain rfl:=Option.some.inj h
   exact aj rfl (qp [I (28)])
 ·refine cq 6 [11] [B (month_2==4)] 97 ?_
  obtain⟨u3,hu3,h⟩:=lJ h
  have j3:Run yq 0 (DU (year_1,month_2) r) (.code Gs::.blk 0::.code (cR (cR yb))::[]) (sT 16 [(11,B u3)] [] 1):=by
   refine sq h (fun h=>?_) fun h=>?_
   ·refine cq 4 [4] [I (30)] 17 ?_
    obtain rfl:=Option.some.inj h
    exact aj rfl (qp [I (30)])
   ·refine aq 1 ?_
    refine cq 5 [4] [I (31)] 17 ?_
    obtain rfl:=Option.some.inj h
    exact aj rfl (qp [I (31)])
  replace h:=hu3
  clear hu3
  refine ma h rfl rfl (fun h=>?_) fun h=>?_
  ·refine aq 1 ?_
   subst h
   exact rf [11] [] (j3 :)
  ·refine cq 5 [11] [B (month_2==6)] 129 ?_
   obtain⟨u4,hu4,h⟩:=lJ h
   have j4:Run yq 0 (DU (year_1,month_2) r) (.code Gs::.blk 0::.code (cR (cR yb))::[]) (sT 16 [(11,B u4)] [] 1):=by
    subst h
    exact rf [11] [] (j3 :)
   replace h:=hu4
   clear hu4
   refine ma h rfl rfl (fun h=>?_) fun h=>?_
   ·refine aq 1 ?_
    subst h
    exact rf [11] [] (j4 :)
   ·refine cq 5 [11] [B (month_2==9)] 161 ?_
    obtain⟨u5,hu5,h⟩:=lJ h
    have j5:Run yq 0 (DU (year_1,month_2) r) (.code Gs::.blk 0::.code (cR (cR yb))::[]) (sT 16 [(11,B u5)] [] 1):=by
     subst h
     exact rf [11] [] (j4 :)
    replace h:=hu5
    clear hu5
    refine ma h rfl rfl (fun h=>?_) fun h=>?_
    ·refine aq 1 ?_
     subst h
     exact rf [11] [] (j5 :)
    ·refine cq 4 [11] [B (month_2==11)] 193 ?_
     subst h
     exact rf [11] [] (j5 :)
theorem F7 {G:Go.Ln.Ground}[TabG Tryz.prog G]:aK Tryz.prog G 207 tX:=gT 2 0 bn (Checked.mixed Tryz.checked) Tryz.func207 (fun a r h=>QT a.1 a.2 r h)
def DB:Int→List V:=oA I
def El (r:Int):V×List V:=(I r,[])
noncomputable def BX:Ent:=aW [false] DB El fun x=>CG x
theorem Pv {year_1:Int}{r}(h:CG year_1=some r):BX.F (DB year_1)=some (El r):=aF (aE bK) h
noncomputable def TG:Code:=aD Tryz.f206
noncomputable def Pz:Env:=bW Tryz.prog [(207,tX)]
def Tk (x:Int)(r:Int):St→Prop:=QF Pz Tryz.f206 [false] (DB x) (El r)
theorem PJ (year_1:Int)(r:Int)(h:CG year_1=some r):bl Pz Tryz.f206 [false] 0 (DB year_1) (El r):=by
 show Run _ _ (Tk year_1 r) [.code TG] _
 refine rI 6 [(0,I year_1)] [] 1 ?_
 unfold CG at h
 refine cq 7 [3] [I year_1] 33 ?_
 obtain⟨r2,hr2,h⟩:=bS h
 refine oq 49 (I r2) rfl (cP (Jv hr2)) ?_
 refine cq 3 [2] [I (an (337+r2))] 81 ?_
 obtain rfl:=Option.some.inj h
 exact aj rfl (qp [I (an (337+r2))])
theorem Oz {G:Go.Ln.Ground}[TabG Tryz.prog G]:aK Tryz.prog G 206 BX:=gT 1 0 (aJ F7 bn) (Checked.mixed Tryz.checked) Tryz.func206 (fun a r h=>PJ a r h)
def DW:Int→List V:=oA I
def DI (r:Date):V×List V:=(eL r,[])
noncomputable def BH:Ent:=aW [false] DW DI fun x=>CU x
theorem TD {day_1:Int}{r}(h:CU day_1=some r):BH.F (DW day_1)=some (DI r):=aF (aE bK) h
noncomputable def I5:Code:=aD Tryz.f171
noncomputable def Ea:Env:=bW Tryz.prog [(206,BX),(207,tX)]
def IU (x:Int)(r:Date):St→Prop:=QF Ea Tryz.f171 [false] (DW x) (DI r)
theorem Jz (day_1:Int):cI Ea 0 (IU day_1) (cL (cL (cL (cR (cR I5))))) 0 (tv day_1) (fun u=>(sT 41 [(0,I u.1),(2,.hp 1 0 [] 3 0 0),(3,.hp 2 0 [] 3 0 0)] [⟨0,3,[.agg [I (0),I (0),I (0)]]⟩,⟨0,3,[.agg [I u.2,I (1),I (0)]]⟩] 3)) fun x2=>(sT 41 [(0,I x2.1),(2,.hp 1 0 [] 3 0 0),(3,.hp 2 0 [] 3 0 0)] [⟨0,3,[.agg [I (0),I (0),I (0)]]⟩,⟨0,3,[.agg [I x2.2,I (1),I (0)]]⟩] 3):=eC (yM day_1) fun {Q K} hK self ih x2 y h hr hn=>by
 unfold jY at h
 refine cq 6 [5,7] [I x2.1,I x2.2] 51 ?_
 obtain⟨r3,hr3,h⟩:=bS h
 refine oq 67 (I r3) rfl (cP (Pv hr3)) ?_
 refine cq 2 [9] [B (decide (x2.1≥r3))] 83 ?_
 refine sq h (fun h=>?_) fun h=>?_
 ·refine aq 1 ?_
  refine cq 6 [14,16] [I x2.1,I x2.2] 131 ?_
  obtain⟨r4,hr4,h⟩:=bS h
  refine oq 147 (I r4) rfl (cP (Pv hr4)) ?_
  refine ck 11 [0] [] [2] [] [I (an (x2.1 - r4))] [some ⟨0,3,[.agg [I (an (x2.2+1)),I (1),I (0)]]⟩] 259 (by kernel_rfl) ?_
  refine dC ?_
  exact rf [0,2,3] [1,2] (ih _ _ h hr hn :)
 ·refine aq 1 ?_
  exact rf [0,2,3] [1,2] (hn _ (Option.some.inj h).symm :) (hk:=hK)
theorem IW (day_1:Int)(u5:Int×Int):cI Ea 0 (IU day_1) (cL (cL (cL (cR (cR (cR I5)))))) 2 (sh day_1 u5) (fun u=>(sT 41 [(0,I u.1),(2,.hp 1 0 [] 3 0 0),(3,.hp 2 0 [] 3 0 0)] [⟨0,3,[.agg [I (0),I (0),I (0)]]⟩,⟨0,3,[.agg [I u5.2,I u.2,I (0)]]⟩] 3)) fun x6=>(sT 41 [(0,I x6.1),(2,.hp 1 0 [] 3 0 0),(3,.hp 2 0 [] 3 0 0)] [⟨0,3,[.agg [I (0),I (0),I (0)]]⟩,⟨0,3,[.agg [I u5.2,I x6.2,I (0)]]⟩] 3):=eC (xK day_1 u5) fun {Q K} hK self ih x6 y h hr hn=>by
 unfold ke at h
 refine cq 8 [19,21,23] [I x6.1,I u5.2,I x6.2] 83 ?_
 obtain⟨r7,hr7,h⟩:=bS h
 refine oq 99 (I r7) rfl (cP (Jv hr7)) ?_
 refine cq 2 [25] [B (decide (x6.1≥r7))] 115 ?_
 refine sq h (fun h=>?_) fun h=>?_
 ·refine aq 1 ?_
  refine cq 8 [30,32,34] [I x6.1,I u5.2,I x6.2] 195 ?_
  obtain⟨r8,hr8,h⟩:=bS h
  refine oq 211 (I r8) rfl (cP (Jv hr8)) ?_
  refine ck 11 [0] [] [2] [] [I (an (x6.1 - r8))] [some ⟨0,3,[.agg [I u5.2,I (an (x6.2+1)),I (0)]]⟩] 323 (by kernel_rfl) ?_
  refine dC ?_
  exact rf [0,2,3] [1,2] (ih _ _ h hr hn :)
 ·refine aq 1 ?_
  exact rf [0,2,3] [1,2] (hn _ (Option.some.inj h).symm :) (hk:=hK)
theorem QM (day_1:Int)(r:Date)(h:CU day_1=some r):bl Ea Tryz.f171 [false] 0 (DW day_1) (DI r):=by
 show Run _ _ (IU day_1 r) [.code I5] _
 refine rI 41 [(0,I day_1)] [] 1 ?_
 unfold CU at h
 refine ck 12 [2,3] [] [1,33] [] [.hp 1 0 [] 3 0 0,.hp 33 0 [] 3 0 0] [some ⟨0,3,[.agg [I (0),I (0),I (0)]]⟩,some ⟨0,3,[.agg [I (2000),I (1),I (0)]]⟩] 65 (by kernel_rfl) ?_
 obtain⟨y5,hy5,hy51,hy52⟩:=bJ h
 refine ci rfl ?_
 refine rf [0,2,3] [1,33] (Jz day_1 rfl (day_1,2000) _ hy5 (fun r' e st hq=>by rw[hy51 r' e] at hq;exact hq) fun u5 hu=>?_)
 replace h:=hy52 u5 hu
 refine aq 2 ?_
 obtain⟨y9,hy9,hy91,hy92⟩:=bJ h
 refine ci rfl ?_
 refine rf [0,2,3] [1,2] (IW day_1 u5 rfl (u5.1,1) _ hy9 (fun r' e st hq=>by rw[hy91 r' e] at hq;exact hq) fun u9 hu=>?_)
 replace h:=hy92 u9 hu
 refine ck 12 [] [] [1,2] [] [] [some ⟨0,3,[.agg [I u5.2,I u9.2,I (an (u9.1+1))]]⟩,some ⟨0,3,[.agg [I u5.2,I u9.2,I (an (u9.1+1))]]⟩] 99 (by kernel_rfl) ?_
 obtain rfl:=Option.some.inj h
 exact aj rfl ⟨_,fin (vs:=[.agg [I u5.2,I u9.2,I (an (u9.1+1))]]) (EP (pW rfl rfl rfl) EM) (fK (eR rfl) et) rfl (fh fT),fI⟩
theorem Nz {G:Go.Ln.Ground}[TabG Tryz.prog G]:aK Tryz.prog G 171 BH:=gT 1 0 (aJ Oz (aJ F7 bn)) (Checked.mixed Tryz.checked) Tryz.func171 (fun a r h=>QM a r h)
def Ds:Int→List V:=oA I
def DY (r:ac):V×List V:=(str r,[])
noncomputable def B6:Ent:=aW [false] Ds DY fun x=>Ff x
theorem SR {day_1:Int}{r}(h:Ff day_1=some r):B6.F (Ds day_1)=some (DY r):=aF (aE bK) h
noncomputable def TC:Code:=aD Tryz.f104
noncomputable def Pw:Env:=bW Tryz.prog [(171,BH),(172,tR)]
def S9 (x:Int)(r:ac):St→Prop:=QF Pw Tryz.f104 [false] (Ds x) (DY r)
theorem PO (day_1:Int)(r:ac)(h:Ff day_1=some r):bl Pw Tryz.f104 [false] 0 (Ds day_1) (DY r):=by
 show Run _ _ (S9 day_1 r) [.code TC] _
 refine rI 19 [(0,I day_1)] [] 1 ?_
 unfold Ff at h
 refine cq 7 [4] [I day_1] 33 ?_
 obtain⟨r2,hr2,h⟩:=bS h
 refine oq 49 (eL r2) rfl (cP (TD hr2)) ?_
 refine ck 4 [3] [] [49] [] [.hp 49 0 [] 3 0 0] [some ⟨0,3,[eL r2]⟩] 81 (by kernel_rfl) ?_
 refine dV [0,1,3,7,0,16,55,127,255,0,512,1655,4095,8191] rfl (by decide +kernel) ?_
 refine dq [49] [] (.hp 49 0 [] 3 0 0) rfl (aV rfl rfl rfl) ?_
 refine dq [49] [] (I r2.Year) rfl (bQ rfl rfl) ?_
 obtain⟨r3,hr3,h⟩:=bS h
 refine dq [] [] (str r3) rfl (cP (ql hr3)) ?_ (cC rfl rfl rfl rfl (bX (cj rfl) (bX (cj rfl) cN)) (ql hr3) (.inr rfl) rfl)
 obtain⟨s4,hs4,h⟩:=bS h
 refine dq [] [] (str s4) rfl (aG rfl rfl (aH hs4)) ?_
 refine dq [49] [] (.hp 49 0 [] 3 0 1) rfl (aV rfl rfl rfl) ?_
 refine dq [49] [] (I r2.Month) rfl (bQ rfl rfl) ?_
 obtain⟨r5,hr5,h⟩:=bS h
 refine dq [] [] (str r5) rfl (cP (ql hr5)) ?_ (cC rfl rfl rfl rfl (bX (cj rfl) (bX (cj rfl) cN)) (ql hr5) (.inr rfl) rfl)
 obtain⟨s6,hs6,h⟩:=bS h
 refine dq [] [] (str s6) rfl (aG rfl rfl (aH hs6)) ?_
 obtain⟨s7,hs7,h⟩:=bS h
 refine dq [] [] (str s7) rfl (aG rfl rfl (aH hs7)) ?_
 refine dq [49] [] (.hp 49 0 [] 3 0 2) rfl (aV rfl rfl rfl) ?_
 refine dq [49] [] (I r2.Day) rfl (bQ rfl rfl) ?_
 obtain⟨r8,hr8,h⟩:=bS h
 refine dq [] [] (str r8) rfl (cP (ql hr8)) ?_ (cC rfl rfl rfl rfl (bX (cj rfl) (bX (cj rfl) cN)) (ql hr8) (.inr rfl) rfl)
 obtain⟨s9,hs9,h⟩:=bS h
 refine dq [] [] (str s9) rfl (aG rfl rfl (aH hs9)) ?_
 refine dk 1 [2] [str s9] ?_
 refine de 305 rfl rfl ?_
 obtain rfl:=Option.some.inj h
 exact aj rfl (qp [str s9])
theorem NR {G:Go.Ln.Ground}[TabG Tryz.prog G]:aK Tryz.prog G 104 B6:=gT 1 0 (aJ Nz (aJ ES bn)) (Checked.mixed Tryz.checked) Tryz.func104 (fun a r h=>PO a r h)
def yJ:Condition→List V:=oA aI
def Ao (r:ac):V×List V:=(str r,[])
noncomputable def wF (slf_Ffk:Condition→Option ac):Ent:=aW [false] yJ Ao slf_Ffk
theorem jG (slf_Ffk:Condition→Option ac){x}{r}(h:slf_Ffk x=some r):(wF slf_Ffk).F (yJ x)=some (Ao r):=aF (aE bH) h
noncomputable def Bo:Ent:=wF (ay gp)
theorem Tx {c_1:Condition}{r}(h:MG c_1=some r):Bo.F (yJ c_1)=some (Ao r):=jG (ay gp) h
noncomputable def S4:Code:=aD Tryz.f167
noncomputable def O4 (slf_Ffk:Condition→Option ac):Env:=bW Tryz.prog [(104,B6),(167,(wF slf_Ffk))]
def SV (slf_Ffk:Condition→Option ac)(x:Condition)(r:ac):St→Prop:=QF (O4 slf_Ffk) Tryz.f167 [false] (yJ x) (Ao r)
end Go.Ln
