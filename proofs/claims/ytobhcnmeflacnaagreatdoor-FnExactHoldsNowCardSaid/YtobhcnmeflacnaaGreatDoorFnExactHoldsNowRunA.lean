/-
  Each function of the program computes its plain function.
-/
import Derived.Test.YtobhcnmeflacnaaGreatDoorFnExactHoldsNowFun
import Derived.Test.YtobhcnmeflacnaaGreatDoorChecked
set_option maxHeartbeats 4000000
set_option linter.unusedVariables false
set_option linter.unusedSimpArgs false
set_option maxRecDepth 100000
namespace Go.Ln
open Go Go.Proofs
def Be:((List ah)×Int)→List V:=cA (eu str) (oA I)
def AJ (r:Int):V×List V:=(I r,[])
noncomputable def sF:Ent:=aO [false,false] Be AJ fun x=>tN x.1 x.2
theorem Ol {a_1:List ah}{left_2:Int}{r}(h:tN a_1 left_2=some r):sF.F (Be (a_1,left_2))=some (AJ r):=aA (aU (bi bf) (az bA)) h
noncomputable def Qr:Code:=ay Tryz.f57
noncomputable def IL:Env:=bG Tryz.prog []
def OC (x:(List ah)×Int)(r:Int):St→Prop:=QF IL Tryz.f57 [false,false] (Be x) (AJ r)
theorem JQ (a_1:List ah)(left_2:Int):cl IL 0 (OC (a_1,left_2)) (cL (cL (cR (cL (cR (cR (cR Qr))))))) 0 (rk a_1 left_2) (fun u=>(sT 28 [(1,I u)] [] 1)) fun x3=>(sT 28 [(0,.isl false (a_1.map str)),(1,I x3.1),(5,I x3.2)] [] 1):=d5 (wg a_1 left_2) fun {Q K} hK self ih x3 y h hr hn=>by
 unfold lG at h
 refine cq 5 [12,13] [I x3.2,.isl false (a_1.map str)] 33 ?_
 refine oq 49 (I (len a_1)) rfl (aZ rfl rfl rfl (bg rfl)) ?_
 refine cq 2 [15] [B (decide (x3.2<(len a_1)))] 65 ?_
 refine sq h (fun h=>?_) fun h=>?_
 ·refine aq 1 ?_
  refine cq 7 [18,19,20] [I x3.1,.isl false (a_1.map str),I x3.2] 113 ?_
  obtain⟨e4,he4,h⟩:=bS h
  refine oq 129 (.iptr (str e4) 0) rfl (al rfl rfl rfl (aM rfl rfl rfl rfl he4)) ?_
  refine cq 10 [1,26] [I (ar (x3.1 - (len e4))),B (decide ((ar (x3.1 - (len e4)))<0))] 225 ?_
  refine sq h (fun h=>?_) fun h=>?_
  ·refine cq 4 [4] [I (-1)] 241 ?_
   exact ai rfl (hr _ (Option.some.inj h).symm _ (qp [I (-1)]))
  ·refine aq 1 ?_
   refine cq 6 [5] [I (ar (x3.2+1))] 273 ?_
   refine cS ?_
   exact rf [0,1,5] [] (ih _ _ h hr hn :)
 ·refine aq 1 ?_
  exact rf [1] [] (hn _ (Option.some.inj h).symm :) (hk:=hK)
theorem Rx (a_1:List ah)(left_2:Int)(r:Int)(h:tN a_1 left_2=some r):ba IL Tryz.f57 [false,false] 0 (Be (a_1,left_2)) (AJ r):=by
 show Run _ _ (OC (a_1,left_2) r) [.code Qr] _
 refine rI 28 [(0,.isl false (a_1.map str)),(1,I left_2)] [] 1 ?_
 unfold tN at h
 refine cq 8 [6,7] [I left_2,.isl false (a_1.map str)] 49 ?_
 refine oq 65 (I (len a_1)) rfl (aZ rfl rfl rfl (bg rfl)) ?_
 refine cq 9 [1,11] [I (ar (left_2 - (len a_1))),B (decide ((ar (left_2 - (len a_1)))<0))] 129 ?_
 refine sq h (fun h=>?_) fun h=>?_
 ·refine cq 4 [4] [I (-1)] 145 ?_
  obtain rfl:=Option.some.inj h
  exact ai rfl (qp [I (-1)])
 ·refine aq 1 ?_
  refine cq 6 [5] [I (0)] 145 ?_
  obtain⟨y5,hy5,hy51,hy52⟩:=bJ h
  refine bW rfl ?_
  refine rf [0,1,5] [] (JQ a_1 left_2 rfl ((ar (left_2 - (len a_1))),0) _ hy5 (fun r' e st hq=>by rw[hy51 r' e] at hq;exact hq) fun u5 hu=>?_)
  replace h:=hy52 u5 hu
  refine cq 5 [4] [I u5] 33 ?_
  obtain rfl:=Option.some.inj h
  exact ai rfl (qp [I u5])
theorem Fq {G:Go.Ln.Ground}:aH Tryz.prog G 57 sF:=gT 2 0 bc (Checked.mixed Tryz.checked) Tryz.func57 (fun a r h=>Rx a.1 a.2 r h)
def tV:(Condition×Int)→List V:=cA aP (oA I)
def tR (r:Int):V×List V:=(I r,[])
noncomputable def pT (slf_Ffbr:(Condition×Int)→Option Int):Ent:=aO [false,false] tV tR slf_Ffbr
theorem Lb (slf_Ffbr:(Condition×Int)→Option Int){x}{r}(h:slf_Ffbr x=some r):(pT slf_Ffbr).F (tV x)=some (tR r):=aA (aU cb (az bA)) h
def Ec:((List Condition)×Int)→List V:=cA (eu aa) (oA I)
def AM (r:Int):V×List V:=(I r,[])
noncomputable def yK (slf_Ffbr:(Condition×Int)→Option Int):Ent:=aO [false,false] Ec AM fun x=>tI slf_Ffbr x.1 x.2
theorem XM (slf_Ffbr:(Condition×Int)→Option Int){a_1:List Condition}{left_2:Int}{r}(h:tI slf_Ffbr a_1 left_2=some r):(yK slf_Ffbr).F (Ec (a_1,left_2))=some (AM r):=aA (aU (bi ee) (az bA)) h
noncomputable def Pp:Code:=ay Tryz.f215
noncomputable def IA (slf_Ffbr:(Condition×Int)→Option Int):Env:=bG Tryz.prog [(178,(pT slf_Ffbr))]
def Rc (slf_Ffbr:(Condition×Int)→Option Int)(x:(List Condition)×Int)(r:Int):St→Prop:=QF (IA slf_Ffbr) Tryz.f215 [false,false] (Ec x) (AM r)
theorem Ku (slf_Ffbr:(Condition×Int)→Option Int)(a_1:List Condition)(left_2:Int):cl (IA slf_Ffbr) 0 (Rc slf_Ffbr (a_1,left_2)) (cL (cL (cR (cL (cR (cR (cR Pp))))))) 0 (oM slf_Ffbr a_1 left_2) (fun u=>(sT 27 [(1,I u)] [] 1)) fun x3=>(sT 27 [(0,.isl false (a_1.map aa)),(1,I x3.1),(5,I x3.2)] [] 1):=d5 (wj slf_Ffbr a_1 left_2) fun {Q K} hK self ih x3 y h hr hn=>by
 unfold jB at h
 refine cq 5 [12,13] [I x3.2,.isl false (a_1.map aa)] 33 ?_
 refine oq 49 (I (len a_1)) rfl (aZ rfl rfl rfl (bg rfl)) ?_
 refine cq 2 [15] [B (decide (x3.2<(len a_1)))] 65 ?_
 refine sq h (fun h=>?_) fun h=>?_
 ·refine aq 1 ?_
  refine cq 6 [18,19] [.isl false (a_1.map aa),I x3.2] 97 ?_
  obtain⟨e4,he4,h⟩:=bS h
  refine oq 113 (.iptr (aP e4) 0) rfl (al rfl rfl rfl (aM rfl rfl (bb e4) rfl he4)) ?_
  refine cq 2 [21,22] [aP e4,I x3.1] 145 ?_
  obtain⟨r5,hr5,h⟩:=bS h
  refine oq 161 (I r5) rfl (bT rfl rfl (ci rfl rfl rfl (bh (bE rfl) (bh (bE rfl) cz)) (Lb slf_Ffbr hr5) (.inr rfl) dA rfl rfl rfl)) ?_
  refine cq 7 [1,25] [I r5,B (decide (r5<0))] 209 ?_
  refine sq h (fun h=>?_) fun h=>?_
  ·refine cq 4 [4] [I (-1)] 225 ?_
   exact ai rfl (hr _ (Option.some.inj h).symm _ (qp [I (-1)]))
  ·refine aq 1 ?_
   refine cq 6 [5] [I (ar (x3.2+1))] 257 ?_
   refine cS ?_
   exact rf [0,1,5] [] (ih _ _ h hr hn :)
 ·refine aq 1 ?_
  exact rf [1] [] (hn _ (Option.some.inj h).symm :) (hk:=hK)
theorem RI (slf_Ffbr:(Condition×Int)→Option Int)(a_1:List Condition)(left_2:Int)(r:Int)(h:tI slf_Ffbr a_1 left_2=some r):ba (IA slf_Ffbr) Tryz.f215 [false,false] 0 (Ec (a_1,left_2)) (AM r):=by
 show Run _ _ (Rc slf_Ffbr (a_1,left_2) r) [.code Pp] _
 refine rI 27 [(0,.isl false (a_1.map aa)),(1,I left_2)] [] 1 ?_
 unfold tI at h
 refine cq 8 [6,7] [I left_2,.isl false (a_1.map aa)] 49 ?_
 refine oq 65 (I (len a_1)) rfl (aZ rfl rfl rfl (bg rfl)) ?_
 refine cq 9 [1,11] [I (ar (left_2 - (len a_1))),B (decide ((ar (left_2 - (len a_1)))<0))] 129 ?_
 refine sq h (fun h=>?_) fun h=>?_
 ·refine cq 4 [4] [I (-1)] 145 ?_
  obtain rfl:=Option.some.inj h
  exact ai rfl (qp [I (-1)])
 ·refine aq 1 ?_
  refine cq 6 [5] [I (0)] 145 ?_
  obtain⟨y6,hy6,hy61,hy62⟩:=bJ h
  refine bW rfl ?_
  refine rf [0,1,5] [] (Ku slf_Ffbr a_1 left_2 rfl ((ar (left_2 - (len a_1))),0) _ hy6 (fun r' e st hq=>by rw[hy61 r' e] at hq;exact hq) fun u6 hu=>?_)
  replace h:=hy62 u6 hu
  refine cq 5 [4] [I u6] 33 ?_
  obtain rfl:=Option.some.inj h
  exact ai rfl (qp [I u6])
theorem QZ {G:Go.Ln.Ground}(slf_Ffbr:(Condition×Int)→Option Int)(g_Ffbr:aH Tryz.prog G 178 (pT slf_Ffbr)):aH Tryz.prog G 215 (yK slf_Ffbr):=gT 2 0 (aB g_Ffbr bc) (Checked.mixed Tryz.checked) Tryz.func215 (fun a r h=>RI slf_Ffbr a.1 a.2 r h)
noncomputable def zm:Ent:=pT (aE nD)
theorem WU {a_1:Condition}{left_2:Int}{r}(h:uN a_1 left_2=some r):zm.F (tV (a_1,left_2))=some (tR r):=Lb (aE nD) h
noncomputable def Xj:Code:=ay Tryz.f178
noncomputable def Ql (slf_Ffbr:(Condition×Int)→Option Int):Env:=bG Tryz.prog [(215,(yK slf_Ffbr))]
def Yj (slf_Ffbr:(Condition×Int)→Option Int)(x:Condition×Int)(r:Int):St→Prop:=QF (Ql slf_Ffbr) Tryz.f178 [false,false] (tV x) (tR r)
theorem Rm (slf_Ffbr:(Condition×Int)→Option Int)(a_1:Condition)(left_2:Int)(r:Int)(h:qI slf_Ffbr a_1 left_2=some r):ba (Ql slf_Ffbr) Tryz.f178 [false,false] 0 (tV (a_1,left_2)) (tR r):=by
 show Run _ _ (Yj slf_Ffbr (a_1,left_2) r) [.code Xj] _
 refine rI 19 [(0,aP a_1),(1,I left_2)] [] 1 ?_
 unfold qI at h
 refine ck 20 [1,2,11] [] [1] [] [I (ar (left_2 - (len a_1.Name))),.hp 1 0 [] 4 0 0,B (decide ((ar (left_2 - (len a_1.Name)))<0))] [some ⟨0,4,[aP a_1]⟩] 161 (by kernel_rfl) ?_
 refine sq h (fun h=>?_) fun h=>?_
 ·refine cq 4 [4] [I (-1)] 177 ?_
  obtain rfl:=Option.some.inj h
  exact ai rfl (qp [I (-1)])
 ·refine aq 1 ?_
  refine cq 5 [13,14] [.isl false (a_1.Parts.map aa),I (ar (left_2 - (len a_1.Name)))] 209 ?_
  obtain⟨r3,hr3,h⟩:=bS h
  refine oq 225 (I r3) rfl (bT rfl rfl (ci rfl rfl rfl (bh (bE rfl) (bh (bE rfl) cz)) (XM slf_Ffbr hr3) (.inr rfl) dA rfl rfl rfl)) ?_
  refine cq 8 [1,17] [I r3,B (decide (r3<0))] 273 ?_
  refine sq h (fun h=>?_) fun h=>?_
  ·refine cq 4 [4] [I (-1)] 289 ?_
   obtain rfl:=Option.some.inj h
   exact ai rfl (qp [I (-1)])
  ·refine aq 1 ?_
   refine cq 5 [4] [I r3] 305 ?_
   obtain rfl:=Option.some.inj h
   exact ai rfl (qp [I r3])
theorem N5 {G:Go.Ln.Ground}:aH Tryz.prog G 178 zm:=gK fun slf_Ffbr g_Ffbr=>gT 2 0 (aB (QZ slf_Ffbr g_Ffbr) bc) (Checked.mixed Tryz.checked) Tryz.func178 (fun a r h=>Rm slf_Ffbr a.1 a.2 r h)
def BE:(Clause×Int)→List V:=cA ac (oA I)
def CW (r:Int):V×List V:=(I r,[])
noncomputable def yF:Ent:=aO [false,false] BE CW fun x=>sU x.1 x.2
theorem XE {a_1:Clause}{left_2:Int}{r}(h:sU a_1 left_2=some r):yF.F (BE (a_1,left_2))=some (CW r):=aA (aU cm (az bA)) h
noncomputable def Wg:Code:=ay Tryz.f113
noncomputable def P3:Env:=bG Tryz.prog [(178,zm)]
def W5 (x:Clause×Int)(r:Int):St→Prop:=QF P3 Tryz.f113 [false,false] (BE x) (CW r)
theorem TF (a_1:Clause)(left_2:Int)(r:Int)(h:sU a_1 left_2=some r):ba P3 Tryz.f113 [false,false] 0 (BE (a_1,left_2)) (CW r):=by
 show Run _ _ (W5 (a_1,left_2) r) [.code Wg] _
 refine rI 33 [(0,ac a_1),(1,I left_2)] [] 1 ?_
 unfold sU at h
 refine ck 20 [1,2,11] [] [1] [] [I (ar (left_2 - (len a_1.Id))),.hp 1 0 [] 12 0 0,B (decide ((ar (left_2 - (len a_1.Id)))<0))] [some ⟨0,12,[ac a_1]⟩] 161 (by kernel_rfl) ?_
 refine sq h (fun h=>?_) fun h=>?_
 ·refine cq 4 [4] [I (-1)] 177 ?_
  obtain rfl:=Option.some.inj h
  exact ai rfl (qp [I (-1)])
 ·refine aq 1 ?_
  refine cq 15 [1,18] [I (ar ((ar (left_2 - (len a_1.Id))) - (len a_1.Action))),B (decide ((ar ((ar (left_2 - (len a_1.Id))) - (len a_1.Action)))<0))] 289 ?_
  refine sq h (fun h=>?_) fun h=>?_
  ·refine cq 4 [4] [I (-1)] 305 ?_
   obtain rfl:=Option.some.inj h
   exact ai rfl (qp [I (-1)])
  ·refine aq 1 ?_
   refine cq 5 [20,21] [aP a_1.When,I (ar ((ar (left_2 - (len a_1.Id))) - (len a_1.Action)))] 337 ?_
   obtain⟨r3,hr3,h⟩:=bS h
   refine oq 353 (I r3) rfl (cP (WU hr3)) ?_
   refine cq 8 [1,24] [I r3,B (decide (r3<0))] 401 ?_
   refine sq h (fun h=>?_) fun h=>?_
   ·refine cq 4 [4] [I (-1)] 417 ?_
    obtain rfl:=Option.some.inj h
    exact ai rfl (qp [I (-1)])
   ·refine aq 1 ?_
    refine cq 15 [1,31] [I (ar (r3 - (len a_1.Repair))),B (decide ((ar (r3 - (len a_1.Repair)))<0))] 529 ?_
    refine sq h (fun h=>?_) fun h=>?_
    ·refine cq 4 [4] [I (-1)] 545 ?_
     obtain rfl:=Option.some.inj h
     exact ai rfl (qp [I (-1)])
    ·refine aq 1 ?_
     refine cq 5 [4] [I (ar (r3 - (len a_1.Repair)))] 561 ?_
     obtain rfl:=Option.some.inj h
     exact ai rfl (qp [I (ar (r3 - (len a_1.Repair)))])
theorem P0 {G:Go.Ln.Ground}:aH Tryz.prog G 113 yF:=gT 2 0 (aB N5 bc) (Checked.mixed Tryz.checked) Tryz.func113 (fun a r h=>TF a.1 a.2 r h)
def Cm:((List Clause)×Int)→List V:=cA (eu ac) (oA I)
def Ah (r:Int):V×List V:=(I r,[])
noncomputable def zV:Ent:=aO [false,false] Cm Ah fun x=>xY x.1 x.2
theorem Xy {a_1:List Clause}{left_2:Int}{r}(h:xY a_1 left_2=some r):zV.F (Cm (a_1,left_2))=some (Ah r):=aA (aU (bi cm) (az bA)) h
noncomputable def Ph:Code:=ay Tryz.f58
noncomputable def HN:Env:=bG Tryz.prog [(113,yF)]
def Ni (x:(List Clause)×Int)(r:Int):St→Prop:=QF HN Tryz.f58 [false,false] (Cm x) (Ah r)
theorem Km (a_1:List Clause)(left_2:Int):cl HN 0 (Ni (a_1,left_2)) (cL (cL (cR (cL (cR (cR (cR Ph))))))) 0 (qG a_1 left_2) (fun u=>(sT 27 [(1,I u)] [] 1)) fun x3=>(sT 27 [(0,.isl false (a_1.map ac)),(1,I x3.1),(5,I x3.2)] [] 1):=d5 (wF a_1 left_2) fun {Q K} hK self ih x3 y h hr hn=>by
 unfold lm at h
 refine cq 5 [12,13] [I x3.2,.isl false (a_1.map ac)] 33 ?_
 refine oq 49 (I (len a_1)) rfl (aZ rfl rfl rfl (bg rfl)) ?_
 refine cq 2 [15] [B (decide (x3.2<(len a_1)))] 65 ?_
 refine sq h (fun h=>?_) fun h=>?_
 ·refine aq 1 ?_
  refine cq 6 [18,19] [.isl false (a_1.map ac),I x3.2] 97 ?_
  obtain⟨e4,he4,h⟩:=bS h
  refine oq 113 (.iptr (ac e4) 0) rfl (al rfl rfl rfl (aM rfl rfl rfl rfl he4)) ?_
  refine cq 2 [21,22] [ac e4,I x3.1] 145 ?_
  obtain⟨r5,hr5,h⟩:=bS h
  refine oq 161 (I r5) rfl (cP (XE hr5)) ?_
  refine cq 7 [1,25] [I r5,B (decide (r5<0))] 209 ?_
  refine sq h (fun h=>?_) fun h=>?_
  ·refine cq 4 [4] [I (-1)] 225 ?_
   exact ai rfl (hr _ (Option.some.inj h).symm _ (qp [I (-1)]))
  ·refine aq 1 ?_
   refine cq 6 [5] [I (ar (x3.2+1))] 257 ?_
   refine cS ?_
   exact rf [0,1,5] [] (ih _ _ h hr hn :)
 ·refine aq 1 ?_
  exact rf [1] [] (hn _ (Option.some.inj h).symm :) (hk:=hK)
theorem SW (a_1:List Clause)(left_2:Int)(r:Int)(h:xY a_1 left_2=some r):ba HN Tryz.f58 [false,false] 0 (Cm (a_1,left_2)) (Ah r):=by
 show Run _ _ (Ni (a_1,left_2) r) [.code Ph] _
 refine rI 27 [(0,.isl false (a_1.map ac)),(1,I left_2)] [] 1 ?_
 unfold xY at h
 refine cq 8 [6,7] [I left_2,.isl false (a_1.map ac)] 49 ?_
 refine oq 65 (I (len a_1)) rfl (aZ rfl rfl rfl (bg rfl)) ?_
 refine cq 9 [1,11] [I (ar (left_2 - (len a_1))),B (decide ((ar (left_2 - (len a_1)))<0))] 129 ?_
 refine sq h (fun h=>?_) fun h=>?_
 ·refine cq 4 [4] [I (-1)] 145 ?_
  obtain rfl:=Option.some.inj h
  exact ai rfl (qp [I (-1)])
 ·refine aq 1 ?_
  refine cq 6 [5] [I (0)] 145 ?_
  obtain⟨y6,hy6,hy61,hy62⟩:=bJ h
  refine bW rfl ?_
  refine rf [0,1,5] [] (Km a_1 left_2 rfl ((ar (left_2 - (len a_1))),0) _ hy6 (fun r' e st hq=>by rw[hy61 r' e] at hq;exact hq) fun u6 hu=>?_)
  replace h:=hy62 u6 hu
  refine cq 5 [4] [I u6] 33 ?_
  obtain rfl:=Option.some.inj h
  exact ai rfl (qp [I u6])
theorem Pz {G:Go.Ln.Ground}:aH Tryz.prog G 58 zV:=gT 2 0 (aB P0 bc) (Checked.mixed Tryz.checked) Tryz.func58 (fun a r h=>SW a.1 a.2 r h)
def Cl:(Contract×Int)→List V:=cA aG (oA I)
def Dh (r:Int):V×List V:=(I r,[])
noncomputable def xp:Ent:=aO [false,false] Cl Dh fun x=>yy x.1 x.2
theorem Wf {a_1:Contract}{left_2:Int}{r}(h:yy a_1 left_2=some r):xp.F (Cl (a_1,left_2))=some (Dh r):=aA (aU aQ (az bA)) h
noncomputable def Xp:Code:=ay Tryz.f15
noncomputable def QB:Env:=bG Tryz.prog [(57,sF),(58,zV)]
def Wi (x:Contract×Int)(r:Int):St→Prop:=QF QB Tryz.f15 [false,false] (Cl x) (Dh r)
theorem Tk (a_1:Contract)(left_2:Int)(r:Int)(h:yy a_1 left_2=some r):ba QB Tryz.f15 [false,false] 0 (Cl (a_1,left_2)) (Dh r):=by
 show Run _ _ (Wi (a_1,left_2) r) [.code Xp] _
 refine rI 18 [(0,aG a_1),(1,I left_2)] [] 1 ?_
 unfold yy at h
 refine ck 10 [2,6,7] [] [1] [] [.hp 1 0 [] 2 0 0,.isl false (a_1.Parties.map str),I left_2] [some ⟨0,2,[aG a_1]⟩] 81 (by kernel_rfl) ?_
 obtain⟨r3,hr3,h⟩:=bS h
 refine oq 97 (I r3) rfl (cP (Ol hr3)) ?_
 refine cq 8 [1,10] [I r3,B (decide (r3<0))] 145 ?_
 refine sq h (fun h=>?_) fun h=>?_
 ·refine cq 4 [4] [I (-1)] 161 ?_
  obtain rfl:=Option.some.inj h
  exact ai rfl (qp [I (-1)])
 ·refine aq 1 ?_
  refine cq 5 [12,13] [.isl false (a_1.Clauses.map ac),I r3] 193 ?_
  obtain⟨r4,hr4,h⟩:=bS h
  refine oq 209 (I r4) rfl (cP (Xy hr4)) ?_
  refine cq 8 [1,16] [I r4,B (decide (r4<0))] 257 ?_
  refine sq h (fun h=>?_) fun h=>?_
  ·refine cq 4 [4] [I (-1)] 273 ?_
   obtain rfl:=Option.some.inj h
   exact ai rfl (qp [I (-1)])
  ·refine aq 1 ?_
   refine cq 5 [4] [I r4] 289 ?_
   obtain rfl:=Option.some.inj h
   exact ai rfl (qp [I r4])
theorem Nl {G:Go.Ln.Ground}:aH Tryz.prog G 15 xp:=gT 2 0 (aB Fq (aB Pz bc)) (Checked.mixed Tryz.checked) Tryz.func15 (fun a r h=>Tk a.1 a.2 r h)
def Dv:((List Duty)×Int)→List V:=cA (eu ae) (oA I)
def BZ (r:Int):V×List V:=(I r,[])
noncomputable def zI:Ent:=aO [false,false] Dv BZ fun x=>xS x.1 x.2
theorem X8 {a_1:List Duty}{left_2:Int}{r}(h:xS a_1 left_2=some r):zI.F (Dv (a_1,left_2))=some (BZ r):=aA (aU (bi cO) (az bA)) h
noncomputable def Yk:Code:=ay Tryz.f59
noncomputable def Qw:Env:=bG Tryz.prog []
def Yc (x:(List Duty)×Int)(r:Int):St→Prop:=QF Qw Tryz.f59 [false,false] (Dv x) (BZ r)
theorem SG (a_1:List Duty)(left_2:Int)(r:Int)(h:xS a_1 left_2=some r):ba Qw Tryz.f59 [false,false] 0 (Dv (a_1,left_2)) (BZ r):=by
 show Run _ _ (Yc (a_1,left_2) r) [.code Yk] _
 refine rI 12 [(0,.isl false (a_1.map ae)),(1,I left_2)] [] 1 ?_
 unfold xS at h
 refine cq 8 [5,6] [I left_2,.isl false (a_1.map ae)] 49 ?_
 refine oq 65 (I (len a_1)) rfl (aZ rfl rfl rfl (bg rfl)) ?_
 refine cq 9 [1,10] [I (ar (left_2 - (len a_1))),B (decide ((ar (left_2 - (len a_1)))<0))] 129 ?_
 refine sq h (fun h=>?_) fun h=>?_
 ·refine cq 4 [4] [I (-1)] 145 ?_
  obtain rfl:=Option.some.inj h
  exact ai rfl (qp [I (-1)])
 ·refine aq 1 ?_
  refine cq 5 [4] [I (ar (left_2 - (len a_1)))] 161 ?_
  obtain rfl:=Option.some.inj h
  exact ai rfl (qp [I (ar (left_2 - (len a_1)))])
theorem Oc {G:Go.Ln.Ground}:aH Tryz.prog G 59 zI:=gT 2 0 bc (Checked.mixed Tryz.checked) Tryz.func59 (fun a r h=>SG a.1 a.2 r h)
def DG:((List Int)×Int)→List V:=cA (eu I) (oA I)
def DL (r:Int):V×List V:=(I r,[])
noncomputable def xO:Ent:=aO [false,false] DG DL fun x=>yA x.1 x.2
theorem WN {a_1:List Int}{left_2:Int}{r}(h:yA a_1 left_2=some r):xO.F (DG (a_1,left_2))=some (DL r):=aA (aU (bi bA) (az bA)) h
noncomputable def XZ:Code:=ay Tryz.f60
noncomputable def Pf:Env:=bG Tryz.prog []
def WL (x:(List Int)×Int)(r:Int):St→Prop:=QF Pf Tryz.f60 [false,false] (DG x) (DL r)
theorem RE (a_1:List Int)(left_2:Int)(r:Int)(h:yA a_1 left_2=some r):ba Pf Tryz.f60 [false,false] 0 (DG (a_1,left_2)) (DL r):=by
 show Run _ _ (WL (a_1,left_2) r) [.code XZ] _
 refine rI 12 [(0,.isl false (a_1.map I)),(1,I left_2)] [] 1 ?_
 unfold yA at h
 refine cq 8 [5,6] [I left_2,.isl false (a_1.map I)] 49 ?_
 refine oq 65 (I (len a_1)) rfl (aZ rfl rfl rfl (bg rfl)) ?_
 refine cq 9 [1,10] [I (ar (left_2 - (len a_1))),B (decide ((ar (left_2 - (len a_1)))<0))] 129 ?_
 refine sq h (fun h=>?_) fun h=>?_
 ·refine cq 4 [4] [I (-1)] 145 ?_
  obtain rfl:=Option.some.inj h
  exact ai rfl (qp [I (-1)])
 ·refine aq 1 ?_
  refine cq 5 [4] [I (ar (left_2 - (len a_1)))] 161 ?_
  obtain rfl:=Option.some.inj h
  exact ai rfl (qp [I (ar (left_2 - (len a_1)))])
theorem NZ {G:Go.Ln.Ground}:aH Tryz.prog G 60 xO:=gT 2 0 bc (Checked.mixed Tryz.checked) Tryz.func60 (fun a r h=>RE a.1 a.2 r h)
def Ei:(State×Int)→List V:=cA bI (oA I)
def BS (r:Int):V×List V:=(I r,[])
noncomputable def zf:Ent:=aO [false,false] Ei BS fun x=>zq x.1 x.2
theorem WQ {a_1:State}{left_2:Int}{r}(h:zq a_1 left_2=some r):zf.F (Ei (a_1,left_2))=some (BS r):=aA (aU cD (az bA)) h
noncomputable def Yg:Code:=ay Tryz.f16
noncomputable def NO:Env:=bG Tryz.prog [(57,sF),(59,zI),(60,xO)]
def X4 (x:State×Int)(r:Int):St→Prop:=QF NO Tryz.f16 [false,false] (Ei x) (BS r)
theorem Si (a_1:State)(left_2:Int)(r:Int)(h:zq a_1 left_2=some r):ba NO Tryz.f16 [false,false] 0 (Ei (a_1,left_2)) (BS r):=by
 show Run _ _ (X4 (a_1,left_2) r) [.code Yg] _
 refine rI 24 [(0,bI a_1),(1,I left_2)] [] 1 ?_
 unfold zq at h
 refine ck 10 [2,6,7] [] [1] [] [.hp 1 0 [] 5 0 0,.isl false (a_1.Facts.map str),I left_2] [some ⟨0,5,[bI a_1]⟩] 81 (by kernel_rfl) ?_
 obtain⟨r3,hr3,h⟩:=bS h
 refine oq 97 (I r3) rfl (cP (Ol hr3)) ?_
 refine cq 8 [1,10] [I r3,B (decide (r3<0))] 145 ?_
 refine sq h (fun h=>?_) fun h=>?_
 ·refine cq 4 [4] [I (-1)] 161 ?_
  obtain rfl:=Option.some.inj h
  exact ai rfl (qp [I (-1)])
 ·refine aq 1 ?_
  refine cq 5 [12,13] [.isl false (a_1.Duties.map ae),I r3] 193 ?_
  obtain⟨r4,hr4,h⟩:=bS h
  refine oq 209 (I r4) rfl (cP (X8 hr4)) ?_
  refine cq 8 [1,16] [I r4,B (decide (r4<0))] 257 ?_
  refine sq h (fun h=>?_) fun h=>?_
  ·refine cq 4 [4] [I (-1)] 273 ?_
   obtain rfl:=Option.some.inj h
   exact ai rfl (qp [I (-1)])
  ·refine aq 1 ?_
   refine cq 5 [18,19] [.isl false (a_1.Balances.map I),I r4] 305 ?_
   obtain⟨r5,hr5,h⟩:=bS h
   refine oq 321 (I r5) rfl (cP (WN hr5)) ?_
   refine cq 8 [1,22] [I r5,B (decide (r5<0))] 369 ?_
   refine sq h (fun h=>?_) fun h=>?_
   ·refine cq 4 [4] [I (-1)] 385 ?_
    obtain rfl:=Option.some.inj h
    exact ai rfl (qp [I (-1)])
   ·refine aq 1 ?_
    refine cq 5 [4] [I r5] 401 ?_
    obtain rfl:=Option.some.inj h
    exact ai rfl (qp [I r5])
theorem P9 {G:Go.Ln.Ground}:aH Tryz.prog G 16 zf:=gT 2 0 (aB Fq (aB Oc (aB NZ bc))) (Checked.mixed Tryz.checked) Tryz.func16 (fun a r h=>Si a.1 a.2 r h)
def C8:(List ah)→List V:=oA (eu str)
def DF (r:(List ah)):V×List V:=(.usl 1 (r.map str),[])
noncomputable def tc:Ent:=aO [false] C8 DF fun x=>tY x
theorem Qk {a_1:List ah}{r}(h:tY a_1=some r):tc.F (C8 a_1)=some (DF r):=aA (az (bi bf)) h
noncomputable def Qy:Code:=ay Tryz.f62
noncomputable def Jk:Env:=bG Tryz.prog []
def Qt (x:(List ah))(r:(List ah)):St→Prop:=QF Jk Tryz.f62 [false] (C8 x) (DF r)
theorem J8 (a_1:List ah):cl Jk 0 (Qt a_1) (cL (cL (cR (cL (cR (cR Qy)))))) 0 (rz a_1) (fun u=>(sT 22 [(3,.hs 1 0 [] 1 0 (u.map str).length)] [⟨0,1,u.map str⟩] 2)) fun x3=>(sT 22 [(0,.isl false (a_1.map str)),(3,.hs 1 0 [] 1 0 (x3.2.map str).length),(4,I x3.1)] [⟨0,1,x3.2.map str⟩] 2):=d5 (wM a_1) fun {Q K} hK self ih x3 y h hr hn=>by
 unfold lB at h
 refine cq 5 [8,9] [I x3.1,.isl false (a_1.map str)] 34 ?_
 refine oq 50 (I (len a_1)) rfl (aZ rfl rfl rfl (bg rfl)) ?_
 refine cq 2 [11] [B (decide (x3.1<(len a_1)))] 66 ?_
 refine sq h (fun h=>?_) fun h=>?_
 ·refine aq 1 ?_
  refine cq 7 [14,15,16,17] [.hs 1 0 [] 1 0 (x3.2.map str).length,I x3.1,.isl false (a_1.map str),I x3.1] 130 ?_
  obtain⟨e4,he4,h⟩:=bS h
  refine oq 146 (.iptr (str e4) 0) rfl (al rfl rfl rfl (aM rfl rfl rfl rfl he4)) ?_
  refine cq 1 [19] [str e4] 162 ?_
  obtain⟨e5,he5,h⟩:=bS h
  refine oq 178 (.hp 1 0 [] 1 (0+Int.toNat x3.1) 0) rfl (al rfl rfl rfl (hY (f:=str) (xs:=x3.2) rfl rfl rfl he5)) ?_
  refine o0 194 rfl rfl (fD rfl rfl (eA (path:=[]) (pl:=true) (e':=str e4) (es2':=(eM x3.2 x3.1 e4).map str) rfl (eQ rfl) rfl rfl rfl aN (f9 (f:=str) (xs:=x3.2) he5) rfl rfl rfl (lO (f:=str) (xs:=x3.2) (y:=e4)) du 0 rfl)) ?_
  try rw[←jo (f:=str) (xs:=x3.2) (i:=x3.1) (z:=e4)]
  refine cq 7 [4] [I (ar (x3.1+1))] 242 ?_
  refine cS ?_
  exact rf [0,3,4] [1] (ih _ _ h hr hn :)
 ·refine aq 1 ?_
  exact rf [3] [1] (hn _ (Option.some.inj h).symm :) (hk:=hK)
theorem T0 (a_1:List ah)(r:(List ah))(h:tY a_1=some r):ba Jk Tryz.f62 [false] 0 (C8 a_1) (DF r):=by
 show Run _ _ (Qt a_1 r) [.code Qy] _
 refine rI 22 [(0,.isl false (a_1.map str))] [] 1 ?_
 unfold tY at h
 refine cq 7 [5] [.isl false (a_1.map str)] 33 ?_
 refine oq 49 (I (len a_1)) rfl (aZ rfl rfl rfl (bg rfl)) ?_
 obtain⟨m2,hm2,h⟩:=bS h
 refine oq 65 (.hs 49 0 [] 1 0 (m2.map str).length) rfl (i9 rfl rfl (Cy (f:=str) rfl rfl rfl (by decide) hm2 rfl)) ?_
 refine cq 8 [3,4] [.hs 49 0 [] 1 0 (m2.map str).length,I (0)] 97 ?_
 obtain⟨y6,hy6,hy61,hy62⟩:=bJ h
 refine bW rfl ?_
 refine rf [0,3,4] [49] (J8 a_1 rfl (0,m2) _ hy6 (fun r' e st hq=>by rw[hy61 r' e] at hq;exact hq) fun u6 hu=>?_)
 replace h:=hy62 u6 hu
 refine cq 5 [2] [.hs 1 0 [] 1 0 (u6.map str).length] 34 ?_
 obtain rfl:=Option.some.inj h
 exact ai rfl ⟨_,fin (vs:=[.hs 1 0 [] 1 0 (u6.map str).length]) rfl (ez (d7 rfl (cf rfl rfl)) dP) rfl (d8 eB),ey⟩
theorem FH {G:Go.Ln.Ground}:aH Tryz.prog G 62 tc:=gT 1 0 bc (Checked.mixed Tryz.checked) Tryz.func62 (fun a r h=>T0 a r h)
def uC:Condition→List V:=oA aP
def uW (r:Condition):V×List V:=(.agg [I r.Op,str r.Name,I r.Day,.usl 4 (r.Parts.map ap)],[])
noncomputable def pJ (slf_Ffca:Condition→Option Condition):Ent:=aO [false] uC uW slf_Ffca
theorem KZ (slf_Ffca:Condition→Option Condition){x}{r}(h:slf_Ffca x=some r):(pJ slf_Ffca).F (uC x)=some (uW r):=aA (az cb) h
def Cw:(List Condition)→List V:=oA (eu aa)
def Bl (r:(List Condition)):V×List V:=(.usl 4 (r.map ap),[])
noncomputable def xw (slf_Ffca:Condition→Option Condition):Ent:=aO [false] Cw Bl fun x=>tT slf_Ffca x
theorem XC (slf_Ffca:Condition→Option Condition){a_1:List Condition}{r}(h:tT slf_Ffca a_1=some r):(xw slf_Ffca).F (Cw a_1)=some (Bl r):=aA (az (bi ee)) h
noncomputable def QE:Code:=ay Tryz.f216
noncomputable def HY (slf_Ffca:Condition→Option Condition):Env:=bG Tryz.prog [(183,(pJ slf_Ffca))]
def N2 (slf_Ffca:Condition→Option Condition)(x:(List Condition))(r:(List Condition)):St→Prop:=QF (HY slf_Ffca) Tryz.f216 [false] (Cw x) (Bl r)
theorem Kk (slf_Ffca:Condition→Option Condition)(a_1:List Condition):cl (HY slf_Ffca) 0 (N2 slf_Ffca a_1) (cL (cL (cR (cL (cR (cR QE)))))) 0 (oG slf_Ffca a_1) (fun u=>(sT 23 [(3,.hs 1 0 [] 4 0 (u.map ap).length)] [⟨0,4,u.map ap⟩] 2)) fun x3=>(sT 23 [(0,.isl false (a_1.map aa)),(3,.hs 1 0 [] 4 0 (x3.2.map ap).length),(4,I x3.1)] [⟨0,4,x3.2.map ap⟩] 2):=d5 (xk slf_Ffca a_1) fun {Q K} hK self ih x3 y h hr hn=>by
 unfold jI at h
 refine cq 5 [8,9] [I x3.1,.isl false (a_1.map aa)] 34 ?_
 refine oq 50 (I (len a_1)) rfl (aZ rfl rfl rfl (bg rfl)) ?_
 refine cq 2 [11] [B (decide (x3.1<(len a_1)))] 66 ?_
 refine sq h (fun h=>?_) fun h=>?_
 ·refine aq 1 ?_
  refine cq 7 [14,15,16,17] [.hs 1 0 [] 4 0 (x3.2.map ap).length,I x3.1,.isl false (a_1.map aa),I x3.1] 130 ?_
  obtain⟨e4,he4,h⟩:=bS h
  refine oq 146 (.iptr (aP e4) 0) rfl (al rfl rfl rfl (aM rfl rfl (bb e4) rfl he4)) ?_
  refine cq 1 [19] [aP e4] 162 ?_
  obtain⟨r5,hr5,h⟩:=bS h
  refine oq 178 (.agg [I r5.Op,str r5.Name,I r5.Day,.hs 162 0 [] 4 0 (r5.Parts.map ap).length]) rfl (bT rfl rfl (ci rfl rfl rfl (bh (bE rfl) cz) (KZ slf_Ffca hr5) (.inr rfl) dA rfl rfl rfl)) ?_
  obtain⟨e6,he6,h⟩:=bS h
  refine oq 194 (.hp 1 0 [] 4 (0+Int.toNat x3.1) 0) rfl (al rfl rfl rfl (hY (f:=ap) (xs:=x3.2) rfl rfl rfl he6)) ?_
  refine o0 210 rfl rfl (fD rfl rfl (eA (path:=[]) (pl:=false) (e':=.agg [I r5.Op,str r5.Name,I r5.Day,.usl 4 (r5.Parts.map ap)]) (es2':=(eM x3.2 x3.1 r5).map ap) rfl (ku (bq (bQ rfl) (bq (bQ rfl) (bq (bQ rfl) (bq (cf rfl rfl) kv))))) rfl rfl rfl aN (RN (f:=ap) (xs:=x3.2) (kt e6) he6) rfl rfl rfl (TM (f:=ap) (xs:=x3.2) (kt r5)) du 1 rfl)) ?_
  try rw[←jo (f:=ap) (xs:=x3.2) (i:=x3.1) (z:=r5)]
  refine cq 7 [4] [I (ar (x3.1+1))] 258 ?_
  refine cS ?_
  exact rf [0,3,4] [1] (ih _ _ h hr hn :)
 ·refine aq 1 ?_
  exact rf [3] [1] (hn _ (Option.some.inj h).symm :) (hk:=hK)
theorem Tb (slf_Ffca:Condition→Option Condition)(a_1:List Condition)(r:(List Condition))(h:tT slf_Ffca a_1=some r):ba (HY slf_Ffca) Tryz.f216 [false] 0 (Cw a_1) (Bl r):=by
 show Run _ _ (N2 slf_Ffca a_1 r) [.code QE] _
 refine rI 23 [(0,.isl false (a_1.map aa))] [] 1 ?_
 unfold tT at h
 refine cq 7 [5] [.isl false (a_1.map aa)] 33 ?_
 refine oq 49 (I (len a_1)) rfl (aZ rfl rfl rfl (bg rfl)) ?_
 obtain⟨m2,hm2,h⟩:=bS h
 refine oq 65 (.hs 49 0 [] 4 0 (m2.map ap).length) rfl (i9 rfl rfl (Oe (g:=ap) (f:=fun _=>(.agg [I (0),str ([]),I (0),.isl true []]:V)) (z0:=(Condition.mk 0 [] 0 [])) rfl rfl rfl (by decide) hm2 rfl)) ?_
 refine eb 49 (m2.map ap) rfl rfl (HK hm2 ((kt _).symm▸eU (au (.refl _) (au (.refl _) (au (.refl _) (au (.nil _) dm)))))) ?_
 refine cq 8 [3,4] [.hs 49 0 [] 4 0 (m2.map ap).length,I (0)] 97 ?_
 obtain⟨y7,hy7,hy71,hy72⟩:=bJ h
 refine bW rfl ?_
 refine rf [0,3,4] [49] (Kk slf_Ffca a_1 rfl (0,m2) _ hy7 (fun r' e st hq=>by rw[hy71 r' e] at hq;exact hq) fun u7 hu=>?_)
 replace h:=hy72 u7 hu
 refine cq 5 [2] [.hs 1 0 [] 4 0 (u7.map ap).length] 34 ?_
 obtain rfl:=Option.some.inj h
 exact ai rfl ⟨_,fin (vs:=[.hs 1 0 [] 4 0 (u7.map ap).length]) rfl (ez (d7 rfl (cf rfl rfl)) dP) rfl (d8 eB),ey⟩
theorem Pe {G:Go.Ln.Ground}(slf_Ffca:Condition→Option Condition)(g_Ffca:aH Tryz.prog G 183 (pJ slf_Ffca)):aH Tryz.prog G 216 (xw slf_Ffca):=gT 1 0 (aB g_Ffca bc) (Checked.mixed Tryz.checked) Tryz.func216 (fun a r h=>Tb slf_Ffca a r h)
noncomputable def xF:Ent:=pJ (aE nk)
theorem WZ {a_1:Condition}{r}(h:xQ a_1=some r):xF.F (uC a_1)=some (uW r):=KZ (aE nk) h
noncomputable def WK:Code:=ay Tryz.f183
noncomputable def OE (slf_Ffca:Condition→Option Condition):Env:=bG Tryz.prog [(216,(xw slf_Ffca))]
def XI (slf_Ffca:Condition→Option Condition)(x:Condition)(r:Condition):St→Prop:=QF (OE slf_Ffca) Tryz.f183 [false] (uC x) (uW r)
theorem Th (slf_Ffca:Condition→Option Condition)(a_1:Condition)(r:Condition)(h:rh slf_Ffca a_1=some r):ba (OE slf_Ffca) Tryz.f183 [false] 0 (uC a_1) (uW r):=by
 show Run _ _ (XI slf_Ffca a_1 r) [.code WK] _
 refine rI 18 [(0,aP a_1)] [] 1 ?_
 unfold rh at h
 refine ck 4 [1,2] [] [1,17] [] [.hp 1 0 [] 4 0 0,.hp 17 0 [] 4 0 0] [some ⟨0,4,[aP a_1]⟩,some ⟨0,4,[.agg [I (0),str ([]),I (0),.isl true []]]⟩] 33 (by kernel_rfl) ?_
 refine eb 17 [.agg [I (0),str ([]),I (0),.usl 4 (([]).map ap)]] rfl rfl (au (eU (au (.refl _) (au (.refl _) (au (.refl _) (au (.nil _) dm))))) dm) ?_
 refine ck 4 [3] [] [33] [] [.hp 33 0 [] 4 0 0] [some ⟨0,4,[.agg [I (0),str ([]),I (0),.isl true []]]⟩] 49 (by kernel_rfl) ?_
 refine eb 33 [.agg [I (0),str ([]),I (0),.usl 4 (([]).map ap)]] rfl rfl (au (eU (au (.refl _) (au (.refl _) (au (.refl _) (au (.nil _) dm))))) dm) ?_
 refine ck 26 [14] [] [33] [] [.isl false (a_1.Parts.map aa)] [some ⟨1,4,[.agg [I a_1.Op,str a_1.Name,I a_1.Day,.usl 4 (([]).map ap)]]⟩] 273 (by kernel_rfl) ?_
 obtain⟨r2,hr2,h⟩:=bS h
 refine oq 289 (.hs 273 0 [] 4 0 (r2.map ap).length) rfl (bT rfl rfl (ci rfl rfl rfl (bh (bE rfl) cz) (XC slf_Ffca hr2) (.inr rfl) dA rfl rfl rfl)) ?_
 refine cq 1 [16] [.hp 33 0 [] 4 0 3] 305 ?_
 refine o0 321 rfl rfl (fD rfl rfl (eA (path:=[]) (pl:=false) (e':=.agg [I a_1.Op,str a_1.Name,I a_1.Day,.usl 4 (r2.map ap)]) (es2':=[.agg [I a_1.Op,str a_1.Name,I a_1.Day,.usl 4 (r2.map ap)]]) rfl (d7 rfl (cf rfl rfl)) rfl rfl rfl aN rfl rfl rfl rfl rfl du 2 rfl)) ?_
 refine cq 4 [17] [.agg [I a_1.Op,str a_1.Name,I a_1.Day,.hs 33 2 [(0,3)] 4 0 (r2.map ap).length]] 337 ?_
 refine o0 353 rfl rfl (fD rfl rfl (eA (path:=[]) (pl:=false) (e':=.agg [I a_1.Op,str a_1.Name,I a_1.Day,.usl 4 (r2.map ap)]) (es2':=[.agg [I a_1.Op,str a_1.Name,I a_1.Day,.usl 4 (r2.map ap)]]) rfl (ku (bq (bQ rfl) (bq (bQ rfl) (bq (bQ rfl) (bq (eD (path:=[(0,3)]) rfl rfl (ec rfl rfl aN) rfl (ij (path:=[]) (i:=0) (k:=3) (e':=.agg [I a_1.Op,str a_1.Name,I a_1.Day,.dead]) (es2':=[.agg [I a_1.Op,str a_1.Name,I a_1.Day,.dead]]) aN rfl rfl rfl du)) kv))))) rfl rfl rfl aN rfl rfl rfl rfl rfl du 2 rfl)) ?_
 refine aq 1 ?_
 obtain rfl:=Option.some.inj h
 exact ai rfl ⟨_,fin (vs:=[.agg [I a_1.Op,str a_1.Name,I a_1.Day,.hs 17 2 [(0,3)] 4 0 (r2.map ap).length]]) (EV (oC rfl rfl rfl) EC) (ez (ku (bq (bQ rfl) (bq (bQ rfl) (bq (bQ rfl) (bq (eD (path:=[(0,3)]) rfl rfl (ec rfl rfl aN) rfl (ij (path:=[]) (i:=0) (k:=3) (e':=.agg [I a_1.Op,str a_1.Name,I a_1.Day,.dead]) (es2':=[.agg [I a_1.Op,str a_1.Name,I a_1.Day,.dead]]) aN rfl rfl rfl du)) kv))))) dP) rfl (d8 eB),ey⟩
theorem PE {G:Go.Ln.Ground}:aH Tryz.prog G 183 xF:=gK fun slf_Ffca g_Ffca=>gT 1 0 (aB (Pe slf_Ffca g_Ffca) bc) (Checked.mixed Tryz.checked) Tryz.func183 (fun a r h=>Th slf_Ffca a r h)
def DI:Clause→List V:=oA ac
def Cp (r:Clause):V×List V:=(.agg [str r.Id,I r.Kind,I r.Party,str r.Action,I r.Other,I r.Amount,I r.When.Op,str r.When.Name,I r.When.Day,.usl 4 (r.When.Parts.map ap),I r.Within,str r.Repair],[])
noncomputable def yh:Ent:=aO [false] DI Cp fun x=>tP x
theorem Wn {a_1:Clause}{r}(h:tP a_1=some r):yh.F (DI a_1)=some (Cp r):=aA (az cm) h
noncomputable def XH:Code:=ay Tryz.f121
noncomputable def N8:Env:=bG Tryz.prog [(183,xF)]
def XS (x:Clause)(r:Clause):St→Prop:=QF N8 Tryz.f121 [false] (DI x) (Cp r)
theorem TP (a_1:Clause)(r:Clause)(h:tP a_1=some r):ba N8 Tryz.f121 [false] 0 (DI a_1) (Cp r):=by
 show Run _ _ (XS a_1 r) [.code XH] _
 refine rI 33 [(0,ac a_1)] [] 1 ?_
 unfold tP at h
 refine ck 4 [1,2] [] [1,17] [] [.hp 1 0 [] 12 0 0,.hp 17 0 [] 12 0 0] [some ⟨0,12,[ac a_1]⟩,some ⟨0,12,[.agg [str ([]),I (0),I (0),str ([]),I (0),I (0),I (0),str ([]),I (0),.isl true [],I (0),str ([])]]⟩] 33 (by kernel_rfl) ?_
 refine eb 17 [.agg [str ([]),I (0),I (0),str ([]),I (0),I (0),I (0),str ([]),I (0),.usl 4 (([]).map ap),I (0),str ([])]] rfl rfl (au (eU (au (.refl _) (au (.refl _) (au (.refl _) (au (.refl _) (au (.refl _) (au (.refl _) (au (.refl _) (au (.refl _) (au (.refl _) (au (.nil _) (au (.refl _) (au (.refl _) dm))))))))))))) dm) ?_
 refine ck 4 [3] [] [33] [] [.hp 33 0 [] 12 0 0] [some ⟨0,12,[.agg [str ([]),I (0),I (0),str ([]),I (0),I (0),I (0),str ([]),I (0),.isl true [],I (0),str ([])]]⟩] 49 (by kernel_rfl) ?_
 refine eb 33 [.agg [str ([]),I (0),I (0),str ([]),I (0),I (0),I (0),str ([]),I (0),.usl 4 (([]).map ap),I (0),str ([])]] rfl rfl (au (eU (au (.refl _) (au (.refl _) (au (.refl _) (au (.refl _) (au (.refl _) (au (.refl _) (au (.refl _) (au (.refl _) (au (.refl _) (au (.nil _) (au (.refl _) (au (.refl _) dm))))))))))))) dm) ?_
 refine ck 47 [23] [] [33] [] [aP a_1.When] [some ⟨1,12,[.agg [str a_1.Id,I a_1.Kind,I a_1.Party,str a_1.Action,I a_1.Other,I a_1.Amount,I (0),str ([]),I (0),.usl 4 (([]).map ap),I (0),str ([])]]⟩] 465 (by kernel_rfl) ?_
 obtain⟨r2,hr2,h⟩:=bS h
 refine oq 481 (.agg [I r2.Op,str r2.Name,I r2.Day,.hs 465 0 [] 4 0 (r2.Parts.map ap).length]) rfl (cP (WZ hr2)) ?_
 refine cq 1 [25] [.hp 33 0 [] 12 0 6] 497 ?_
 refine o0 513 rfl rfl (fD rfl rfl (eA (path:=[]) (pl:=false) (e':=.agg [str a_1.Id,I a_1.Kind,I a_1.Party,str a_1.Action,I a_1.Other,I a_1.Amount,I r2.Op,str r2.Name,I r2.Day,.usl 4 (r2.Parts.map ap),I (0),str ([])]) (es2':=[.agg [str a_1.Id,I a_1.Kind,I a_1.Party,str a_1.Action,I a_1.Other,I a_1.Amount,I r2.Op,str r2.Name,I r2.Day,.usl 4 (r2.Parts.map ap),I (0),str ([])]]) rfl (ku (bq (bQ rfl) (bq (bQ rfl) (bq (bQ rfl) (bq (cf rfl rfl) kv))))) rfl rfl rfl aN rfl rfl rfl rfl rfl du 2 rfl)) ?_
 refine ck 18 [32] [] [33] [] [.agg [str a_1.Id,I a_1.Kind,I a_1.Party,str a_1.Action,I a_1.Other,I a_1.Amount,I r2.Op,str r2.Name,I r2.Day,.hs 33 2 [(0,9)] 4 0 (r2.Parts.map ap).length,I a_1.Within,str a_1.Repair]] [some ⟨2,12,[.agg [str a_1.Id,I a_1.Kind,I a_1.Party,str a_1.Action,I a_1.Other,I a_1.Amount,I r2.Op,str r2.Name,I r2.Day,.usl 4 (r2.Parts.map ap),I a_1.Within,str a_1.Repair]]⟩] 657 (by kernel_rfl) ?_
 refine o0 673 rfl rfl (fD rfl rfl (eA (path:=[]) (pl:=false) (e':=.agg [str a_1.Id,I a_1.Kind,I a_1.Party,str a_1.Action,I a_1.Other,I a_1.Amount,I r2.Op,str r2.Name,I r2.Day,.usl 4 (r2.Parts.map ap),I a_1.Within,str a_1.Repair]) (es2':=[.agg [str a_1.Id,I a_1.Kind,I a_1.Party,str a_1.Action,I a_1.Other,I a_1.Amount,I r2.Op,str r2.Name,I r2.Day,.usl 4 (r2.Parts.map ap),I a_1.Within,str a_1.Repair]]) rfl (ku (bq (bQ rfl) (bq (bQ rfl) (bq (bQ rfl) (bq (bQ rfl) (bq (bQ rfl) (bq (bQ rfl) (bq (bQ rfl) (bq (bQ rfl) (bq (bQ rfl) (bq (eD (path:=[(0,9)]) rfl rfl (ec rfl rfl aN) rfl (ij (path:=[]) (i:=0) (k:=9) (e':=.agg [str a_1.Id,I a_1.Kind,I a_1.Party,str a_1.Action,I a_1.Other,I a_1.Amount,I r2.Op,str r2.Name,I r2.Day,.dead,I a_1.Within,str a_1.Repair]) (es2':=[.agg [str a_1.Id,I a_1.Kind,I a_1.Party,str a_1.Action,I a_1.Other,I a_1.Amount,I r2.Op,str r2.Name,I r2.Day,.dead,I a_1.Within,str a_1.Repair]]) aN rfl rfl rfl du)) (bq (bQ rfl) (bq (bQ rfl) kv))))))))))))) rfl rfl rfl aN rfl rfl rfl rfl rfl du 2 rfl)) ?_
 refine aq 1 ?_
 obtain rfl:=Option.some.inj h
 exact ai rfl ⟨_,fin (vs:=[.agg [str a_1.Id,I a_1.Kind,I a_1.Party,str a_1.Action,I a_1.Other,I a_1.Amount,I r2.Op,str r2.Name,I r2.Day,.hs 17 2 [(0,9)] 4 0 (r2.Parts.map ap).length,I a_1.Within,str a_1.Repair]]) (EV (oC rfl rfl rfl) EC) (ez (ku (bq (bQ rfl) (bq (bQ rfl) (bq (bQ rfl) (bq (bQ rfl) (bq (bQ rfl) (bq (bQ rfl) (bq (bQ rfl) (bq (bQ rfl) (bq (bQ rfl) (bq (eD (path:=[(0,9)]) rfl rfl (ec rfl rfl aN) rfl (ij (path:=[]) (i:=0) (k:=9) (e':=.agg [str a_1.Id,I a_1.Kind,I a_1.Party,str a_1.Action,I a_1.Other,I a_1.Amount,I r2.Op,str r2.Name,I r2.Day,.dead,I a_1.Within,str a_1.Repair]) (es2':=[.agg [str a_1.Id,I a_1.Kind,I a_1.Party,str a_1.Action,I a_1.Other,I a_1.Amount,I r2.Op,str r2.Name,I r2.Day,.dead,I a_1.Within,str a_1.Repair]]) aN rfl rfl rfl du)) (bq (bQ rfl) (bq (bQ rfl) kv))))))))))))) dP) rfl (d8 eB),ey⟩
theorem Rg {G:Go.Ln.Ground}:aH Tryz.prog G 121 yh:=gT 1 0 (aB PE bc) (Checked.mixed Tryz.checked) Tryz.func121 (fun a r h=>TP a r h)
def CF:(List Clause)→List V:=oA (eu ac)
def CJ (r:(List Clause)):V×List V:=(.usl 12 (r.map aI),[])
noncomputable def yj:Ent:=aO [false] CF CJ fun x=>zK x
theorem X3 {a_1:List Clause}{r}(h:zK a_1=some r):yj.F (CF a_1)=some (CJ r):=aA (az (bi cm)) h
noncomputable def PO:Code:=ay Tryz.f63
noncomputable def Hm:Env:=bG Tryz.prog [(121,yh)]
def Q8 (x:(List Clause))(r:(List Clause)):St→Prop:=QF Hm Tryz.f63 [false] (CF x) (CJ r)
theorem JH (a_1:List Clause):cl Hm 0 (Q8 a_1) (cL (cL (cR (cL (cR (cR PO)))))) 0 (rH a_1) (fun u=>(sT 23 [(3,.hs 1 0 [] 12 0 (u.map aI).length)] [⟨0,12,u.map aI⟩] 2)) fun x3=>(sT 23 [(0,.isl false (a_1.map ac)),(3,.hs 1 0 [] 12 0 (x3.2.map aI).length),(4,I x3.1)] [⟨0,12,x3.2.map aI⟩] 2):=d5 (ww a_1) fun {Q K} hK self ih x3 y h hr hn=>by
 unfold lH at h
 refine cq 5 [8,9] [I x3.1,.isl false (a_1.map ac)] 34 ?_
 refine oq 50 (I (len a_1)) rfl (aZ rfl rfl rfl (bg rfl)) ?_
 refine cq 2 [11] [B (decide (x3.1<(len a_1)))] 66 ?_
 refine sq h (fun h=>?_) fun h=>?_
 ·refine aq 1 ?_
  refine cq 7 [14,15,16,17] [.hs 1 0 [] 12 0 (x3.2.map aI).length,I x3.1,.isl false (a_1.map ac),I x3.1] 130 ?_
  obtain⟨e4,he4,h⟩:=bS h
  refine oq 146 (.iptr (ac e4) 0) rfl (al rfl rfl rfl (aM rfl rfl rfl rfl he4)) ?_
  refine cq 1 [19] [ac e4] 162 ?_
  obtain⟨r5,hr5,h⟩:=bS h
  refine oq 178 (.agg [str r5.Id,I r5.Kind,I r5.Party,str r5.Action,I r5.Other,I r5.Amount,I r5.When.Op,str r5.When.Name,I r5.When.Day,.hs 162 0 [] 4 0 (r5.When.Parts.map ap).length,I r5.Within,str r5.Repair]) rfl (cP (Wn hr5)) ?_
  obtain⟨e6,he6,h⟩:=bS h
  refine oq 194 (.hp 1 0 [] 12 (0+Int.toNat x3.1) 0) rfl (al rfl rfl rfl (hY (f:=aI) (xs:=x3.2) rfl rfl rfl he6)) ?_
  refine o0 210 rfl rfl (fD rfl rfl (eA (path:=[]) (pl:=false) (e':=.agg [str r5.Id,I r5.Kind,I r5.Party,str r5.Action,I r5.Other,I r5.Amount,I r5.When.Op,str r5.When.Name,I r5.When.Day,.usl 4 (r5.When.Parts.map ap),I r5.Within,str r5.Repair]) (es2':=(eM x3.2 x3.1 r5).map aI) rfl (ku (bq (bQ rfl) (bq (bQ rfl) (bq (bQ rfl) (bq (bQ rfl) (bq (bQ rfl) (bq (bQ rfl) (bq (bQ rfl) (bq (bQ rfl) (bq (bQ rfl) (bq (cf rfl rfl) (bq (bQ rfl) (bq (bQ rfl) kv))))))))))))) rfl rfl rfl aN (f9 (f:=aI) (xs:=x3.2) he6) rfl rfl rfl (lO (f:=aI) (xs:=x3.2) (y:=r5)) du 1 rfl)) ?_
  try rw[←jo (f:=aI) (xs:=x3.2) (i:=x3.1) (z:=r5)]
  refine cq 7 [4] [I (ar (x3.1+1))] 258 ?_
  refine cS ?_
  exact rf [0,3,4] [1] (ih _ _ h hr hn :)
 ·refine aq 1 ?_
  exact rf [3] [1] (hn _ (Option.some.inj h).symm :) (hk:=hK)
theorem RX (a_1:List Clause)(r:(List Clause))(h:zK a_1=some r):ba Hm Tryz.f63 [false] 0 (CF a_1) (CJ r):=by
 show Run _ _ (Q8 a_1 r) [.code PO] _
 refine rI 23 [(0,.isl false (a_1.map ac))] [] 1 ?_
 unfold zK at h
 refine cq 7 [5] [.isl false (a_1.map ac)] 33 ?_
 refine oq 49 (I (len a_1)) rfl (aZ rfl rfl rfl (bg rfl)) ?_
 obtain⟨m2,hm2,h⟩:=bS h
 refine oq 65 (.hs 49 0 [] 12 0 (m2.map aI).length) rfl (i9 rfl rfl (Oe (g:=aI) (f:=fun _=>(.agg [str ([]),I (0),I (0),str ([]),I (0),I (0),I (0),str ([]),I (0),.isl true [],I (0),str ([])]:V)) (z0:=(Clause.mk [] 0 0 [] 0 0 (Condition.mk 0 [] 0 []) 0 [])) rfl rfl rfl (by decide) hm2 rfl)) ?_
 refine eb 49 (m2.map aI) rfl rfl (HK hm2 (eU (au (.refl _) (au (.refl _) (au (.refl _) (au (.refl _) (au (.refl _) (au (.refl _) (au (.refl _) (au (.refl _) (au (.refl _) (au (.nil _) (au (.refl _) (au (.refl _) dm)))))))))))))) ?_
 refine cq 8 [3,4] [.hs 49 0 [] 12 0 (m2.map aI).length,I (0)] 97 ?_
 obtain⟨y7,hy7,hy71,hy72⟩:=bJ h
 refine bW rfl ?_
 refine rf [0,3,4] [49] (JH a_1 rfl (0,m2) _ hy7 (fun r' e st hq=>by rw[hy71 r' e] at hq;exact hq) fun u7 hu=>?_)
 replace h:=hy72 u7 hu
 refine cq 5 [2] [.hs 1 0 [] 12 0 (u7.map aI).length] 34 ?_
 obtain rfl:=Option.some.inj h
 exact ai rfl ⟨_,fin (vs:=[.hs 1 0 [] 12 0 (u7.map aI).length]) rfl (ez (d7 rfl (cf rfl rfl)) dP) rfl (d8 eB),ey⟩
theorem Qu {G:Go.Ln.Ground}:aH Tryz.prog G 63 yj:=gT 1 0 (aB Rg bc) (Checked.mixed Tryz.checked) Tryz.func63 (fun a r h=>RX a r h)
def D4:Contract→List V:=oA aG
def Cu (r:Contract):V×List V:=(.agg [.usl 1 (r.Parties.map str),.usl 12 (r.Clauses.map aI)],[])
noncomputable def yJ:Ent:=aO [false] D4 Cu fun x=>sk x
theorem vk {a_1:Contract}{r}(h:sk a_1=some r):yJ.F (D4 a_1)=some (Cu r):=aA (az aQ) h
noncomputable def Xf:Code:=ay Tryz.f18
noncomputable def Np:Env:=bG Tryz.prog [(62,tc),(63,yj)]
def X6 (x:Contract)(r:Contract):St→Prop:=QF Np Tryz.f18 [false] (D4 x) (Cu r)
theorem RB (a_1:Contract)(r:Contract)(h:sk a_1=some r):ba Np Tryz.f18 [false] 0 (D4 a_1) (Cu r):=by
 show Run _ _ (X6 a_1 r) [.code Xf] _
 refine rI 13 [(0,aG a_1)] [] 1 ?_
 unfold sk at h
 refine ck 4 [1,2] [] [1,17] [] [.hp 1 0 [] 2 0 0,.hp 17 0 [] 2 0 0] [some ⟨0,2,[aG a_1]⟩,some ⟨0,2,[.agg [.isl true [],.isl true []]]⟩] 33 (by kernel_rfl) ?_
 refine eb 17 [.agg [.usl 1 (([]).map str),.usl 12 (([]).map aI)]] rfl rfl (au (eU (au (.nil _) (au (.nil _) dm))) dm) ?_
 refine ck 4 [3] [] [33] [] [.hp 33 0 [] 2 0 0] [some ⟨0,2,[.agg [.isl true [],.isl true []]]⟩] 49 (by kernel_rfl) ?_
 refine eb 33 [.agg [.usl 1 (([]).map str),.usl 12 (([]).map aI)]] rfl rfl (au (eU (au (.nil _) (au (.nil _) dm))) dm) ?_
 refine cq 5 [5] [.isl false (a_1.Parties.map str)] 81 ?_
 obtain⟨r2,hr2,h⟩:=bS h
 refine oq 97 (.hs 81 0 [] 1 0 (r2.map str).length) rfl (cP (Qk hr2)) ?_
 refine cq 1 [7] [.hp 33 0 [] 2 0 0] 113 ?_
 refine o0 129 rfl rfl (fD rfl rfl (eA (path:=[]) (pl:=false) (e':=.agg [.usl 1 (r2.map str),.usl 12 (([]).map aI)]) (es2':=[.agg [.usl 1 (r2.map str),.usl 12 (([]).map aI)]]) rfl (d7 rfl (cf rfl rfl)) rfl rfl rfl aN rfl rfl rfl rfl rfl du 2 rfl)) ?_
 refine cq 5 [9] [.isl false (a_1.Clauses.map ac)] 161 ?_
 obtain⟨r3,hr3,h⟩:=bS h
 refine oq 177 (.hs 161 0 [] 12 0 (r3.map aI).length) rfl (cP (X3 hr3)) ?_
 refine cq 1 [11] [.hp 33 0 [] 2 0 1] 193 ?_
 refine o0 209 rfl rfl (fD rfl rfl (eA (path:=[]) (pl:=false) (e':=.agg [.usl 1 (r2.map str),.usl 12 (r3.map aI)]) (es2':=[.agg [.usl 1 (r2.map str),.usl 12 (r3.map aI)]]) rfl (d7 rfl (cf rfl rfl)) rfl rfl rfl aN rfl rfl rfl rfl rfl du 3 rfl)) ?_
 refine cq 4 [12] [.agg [.hs 33 3 [(0,0)] 1 0 (r2.map str).length,.hs 33 3 [(0,1)] 12 0 (r3.map aI).length]] 225 ?_
 refine o0 241 rfl rfl (fD rfl rfl (eA (path:=[]) (pl:=false) (e':=.agg [.usl 1 (r2.map str),.usl 12 (r3.map aI)]) (es2':=[.agg [.usl 1 (r2.map str),.usl 12 (r3.map aI)]]) rfl (ku (bq (eD (path:=[(0,0)]) rfl rfl (ec rfl rfl aN) rfl (ij (path:=[]) (i:=0) (k:=0) (e':=.agg [.dead,.usl 12 (r3.map aI)]) (es2':=[.agg [.dead,.usl 12 (r3.map aI)]]) aN rfl rfl rfl du)) (bq (eD (path:=[(0,1)]) rfl rfl (ec rfl rfl aN) rfl (ij (path:=[]) (i:=0) (k:=1) (e':=.agg [.dead,.dead]) (es2':=[.agg [.dead,.dead]]) aN rfl rfl rfl du)) kv))) rfl rfl rfl aN rfl rfl rfl rfl rfl du 2 rfl)) ?_
 refine aq 1 ?_
 obtain rfl:=Option.some.inj h
 exact ai rfl ⟨_,fin (vs:=[.agg [.hs 17 2 [(0,0)] 1 0 (r2.map str).length,.hs 17 2 [(0,1)] 12 0 (r3.map aI).length]]) (EV (oC rfl rfl rfl) EC) (ez (ku (bq (eD (path:=[(0,0)]) rfl rfl (ec rfl rfl aN) rfl (ij (path:=[]) (i:=0) (k:=0) (e':=.agg [.dead,.usl 12 (r3.map aI)]) (es2':=[.agg [.dead,.usl 12 (r3.map aI)]]) aN rfl rfl rfl du)) (bq (eD (path:=[(0,1)]) rfl rfl (ec rfl rfl aN) rfl (ij (path:=[]) (i:=0) (k:=1) (e':=.agg [.dead,.dead]) (es2':=[.agg [.dead,.dead]]) aN rfl rfl rfl du)) kv))) dP) rfl (d8 eB),ey⟩
theorem OJ {G:Go.Ln.Ground}:aH Tryz.prog G 18 yJ:=gT 1 0 (aB FH (aB Qu bc)) (Checked.mixed Tryz.checked) Tryz.func18 (fun a r h=>RB a r h)
def CM:Duty→List V:=oA ae
def B8 (r:Duty):V×List V:=(ae r,[])
noncomputable def zE:Ent:=aO [false] CM B8 fun x=>vx x
theorem WO {a_1:Duty}{r}(h:vx a_1=some r):zE.F (CM a_1)=some (B8 r):=aA (az cO) h
noncomputable def XB:Code:=ay Tryz.f122
noncomputable def M1:Env:=bG Tryz.prog []
def Yh (x:Duty)(r:Duty):St→Prop:=QF M1 Tryz.f122 [false] (CM x) (B8 r)
theorem T4 (a_1:Duty)(r:Duty)(h:vx a_1=some r):ba M1 Tryz.f122 [false] 0 (CM a_1) (B8 r):=by
 show Run _ _ (Yh a_1 r) [.code XB] _
 refine rI 17 [(0,ae a_1)] [] 1 ?_
 unfold vx at h
 refine ck 42 [2] [] [17] [] [.hp 17 0 [] 4 0 0] [some ⟨0,4,[ae a_1]⟩] 337 (by kernel_rfl) ?_
 obtain rfl:=Option.some.inj h
 exact ai rfl ⟨_,fin (vs:=[ae a_1]) (EV (oC rfl rfl rfl) EC) (ez (eQ rfl) dP) rfl (d8 eB),ey⟩
theorem NF {G:Go.Ln.Ground}:aH Tryz.prog G 122 zE:=gT 1 0 bc (Checked.mixed Tryz.checked) Tryz.func122 (fun a r h=>T4 a r h)
def Dp:(List Duty)→List V:=oA (eu ae)
def Cf (r:(List Duty)):V×List V:=(.usl 4 (r.map ae),[])
noncomputable def zQ:Ent:=aO [false] Dp Cf fun x=>yM x
theorem Xl {a_1:List Duty}{r}(h:yM a_1=some r):zQ.F (Dp a_1)=some (Cf r):=aA (az (bi cO)) h
noncomputable def NL:Code:=ay Tryz.f64
noncomputable def HL:Env:=bG Tryz.prog [(122,zE)]
def Oh (x:(List Duty))(r:(List Duty)):St→Prop:=QF HL Tryz.f64 [false] (Dp x) (Cf r)
theorem Kq (a_1:List Duty):cl HL 0 (Oh a_1) (cL (cL (cR (cL (cR (cR NL)))))) 0 (qL a_1) (fun u=>(sT 23 [(3,.hs 1 0 [] 4 0 (u.map ae).length)] [⟨0,4,u.map ae⟩] 2)) fun x3=>(sT 23 [(0,.isl false (a_1.map ae)),(3,.hs 1 0 [] 4 0 (x3.2.map ae).length),(4,I x3.1)] [⟨0,4,x3.2.map ae⟩] 2):=d5 (wS a_1) fun {Q K} hK self ih x3 y h hr hn=>by
 unfold lL at h
 refine cq 5 [8,9] [I x3.1,.isl false (a_1.map ae)] 34 ?_
 refine oq 50 (I (len a_1)) rfl (aZ rfl rfl rfl (bg rfl)) ?_
 refine cq 2 [11] [B (decide (x3.1<(len a_1)))] 66 ?_
 refine sq h (fun h=>?_) fun h=>?_
 ·refine aq 1 ?_
  refine cq 7 [14,15,16,17] [.hs 1 0 [] 4 0 (x3.2.map ae).length,I x3.1,.isl false (a_1.map ae),I x3.1] 130 ?_
  obtain⟨e4,he4,h⟩:=bS h
  refine oq 146 (.iptr (ae e4) 0) rfl (al rfl rfl rfl (aM rfl rfl rfl rfl he4)) ?_
  refine cq 1 [19] [ae e4] 162 ?_
  obtain⟨r5,hr5,h⟩:=bS h
  refine oq 178 (ae r5) rfl (cP (WO hr5)) ?_
  obtain⟨e6,he6,h⟩:=bS h
  refine oq 194 (.hp 1 0 [] 4 (0+Int.toNat x3.1) 0) rfl (al rfl rfl rfl (hY (f:=ae) (xs:=x3.2) rfl rfl rfl he6)) ?_
  refine o0 210 rfl rfl (fD rfl rfl (eA (path:=[]) (pl:=true) (e':=ae r5) (es2':=(eM x3.2 x3.1 r5).map ae) rfl (eQ rfl) rfl rfl rfl aN (f9 (f:=ae) (xs:=x3.2) he6) rfl rfl rfl (lO (f:=ae) (xs:=x3.2) (y:=r5)) du 0 rfl)) ?_
  try rw[←jo (f:=ae) (xs:=x3.2) (i:=x3.1) (z:=r5)]
  refine cq 7 [4] [I (ar (x3.1+1))] 258 ?_
  refine cS ?_
  exact rf [0,3,4] [1] (ih _ _ h hr hn :)
 ·refine aq 1 ?_
  exact rf [3] [1] (hn _ (Option.some.inj h).symm :) (hk:=hK)
theorem S9 (a_1:List Duty)(r:(List Duty))(h:yM a_1=some r):ba HL Tryz.f64 [false] 0 (Dp a_1) (Cf r):=by
 show Run _ _ (Oh a_1 r) [.code NL] _
 refine rI 23 [(0,.isl false (a_1.map ae))] [] 1 ?_
 unfold yM at h
 refine cq 7 [5] [.isl false (a_1.map ae)] 33 ?_
 refine oq 49 (I (len a_1)) rfl (aZ rfl rfl rfl (bg rfl)) ?_
 obtain⟨m2,hm2,h⟩:=bS h
 refine oq 65 (.hs 49 0 [] 4 0 (m2.map ae).length) rfl (i9 rfl rfl (Cy (f:=ae) rfl rfl rfl (by decide) hm2 rfl)) ?_
 refine cq 8 [3,4] [.hs 49 0 [] 4 0 (m2.map ae).length,I (0)] 97 ?_
 obtain⟨y7,hy7,hy71,hy72⟩:=bJ h
 refine bW rfl ?_
 refine rf [0,3,4] [49] (Kq a_1 rfl (0,m2) _ hy7 (fun r' e st hq=>by rw[hy71 r' e] at hq;exact hq) fun u7 hu=>?_)
 replace h:=hy72 u7 hu
 refine cq 5 [2] [.hs 1 0 [] 4 0 (u7.map ae).length] 34 ?_
 obtain rfl:=Option.some.inj h
 exact ai rfl ⟨_,fin (vs:=[.hs 1 0 [] 4 0 (u7.map ae).length]) rfl (ez (d7 rfl (cf rfl rfl)) dP) rfl (d8 eB),ey⟩
theorem Qb {G:Go.Ln.Ground}:aH Tryz.prog G 64 zQ:=gT 1 0 (aB NF bc) (Checked.mixed Tryz.checked) Tryz.func64 (fun a r h=>S9 a r h)
def Ac:(List Int)→List V:=oA (eu I)
def CX (r:(List Int)):V×List V:=(.usl 1 (r.map I),[])
noncomputable def zS:Ent:=aO [false] Ac CX fun x=>zj x
theorem Xm {a_1:List Int}{r}(h:zj a_1=some r):zS.F (Ac a_1)=some (CX r):=aA (az (bi bA)) h
noncomputable def Q4:Code:=ay Tryz.f26
noncomputable def Jn:Env:=bG Tryz.prog []
def Q1 (x:(List Int))(r:(List Int)):St→Prop:=QF Jn Tryz.f26 [false] (Ac x) (CX r)
theorem JM (a_1:List Int):cl Jn 0 (Q1 a_1) (cL (cL (cR (cL (cR (cR Q4)))))) 0 (qB a_1) (fun u=>(sT 22 [(3,.hs 1 0 [] 1 0 (u.map I).length)] [⟨0,1,u.map I⟩] 2)) fun x3=>(sT 22 [(0,.isl false (a_1.map I)),(3,.hs 1 0 [] 1 0 (x3.2.map I).length),(4,I x3.1)] [⟨0,1,x3.2.map I⟩] 2):=d5 (wZ a_1) fun {Q K} hK self ih x3 y h hr hn=>by
 unfold lx at h
 refine cq 5 [8,9] [I x3.1,.isl false (a_1.map I)] 34 ?_
 refine oq 50 (I (len a_1)) rfl (aZ rfl rfl rfl (bg rfl)) ?_
 refine cq 2 [11] [B (decide (x3.1<(len a_1)))] 66 ?_
 refine sq h (fun h=>?_) fun h=>?_
 ·refine aq 1 ?_
  refine cq 7 [14,15,16,17] [.hs 1 0 [] 1 0 (x3.2.map I).length,I x3.1,.isl false (a_1.map I),I x3.1] 130 ?_
  obtain⟨e4,he4,h⟩:=bS h
  refine oq 146 (.iptr (I e4) 0) rfl (al rfl rfl rfl (aM rfl rfl rfl rfl he4)) ?_
  refine cq 1 [19] [I e4] 162 ?_
  obtain⟨e5,he5,h⟩:=bS h
  refine oq 178 (.hp 1 0 [] 1 (0+Int.toNat x3.1) 0) rfl (al rfl rfl rfl (hY (f:=I) (xs:=x3.2) rfl rfl rfl he5)) ?_
  refine o0 194 rfl rfl (fD rfl rfl (eA (path:=[]) (pl:=true) (e':=I e4) (es2':=(eM x3.2 x3.1 e4).map I) rfl (eQ rfl) rfl rfl rfl aN (f9 (f:=I) (xs:=x3.2) he5) rfl rfl rfl (lO (f:=I) (xs:=x3.2) (y:=e4)) du 0 rfl)) ?_
  try rw[←jo (f:=I) (xs:=x3.2) (i:=x3.1) (z:=e4)]
  refine cq 7 [4] [I (ar (x3.1+1))] 242 ?_
  refine cS ?_
  exact rf [0,3,4] [1] (ih _ _ h hr hn :)
 ·refine aq 1 ?_
  exact rf [3] [1] (hn _ (Option.some.inj h).symm :) (hk:=hK)
theorem TU (a_1:List Int)(r:(List Int))(h:zj a_1=some r):ba Jn Tryz.f26 [false] 0 (Ac a_1) (CX r):=by
 show Run _ _ (Q1 a_1 r) [.code Q4] _
 refine rI 22 [(0,.isl false (a_1.map I))] [] 1 ?_
 unfold zj at h
 refine cq 7 [5] [.isl false (a_1.map I)] 33 ?_
 refine oq 49 (I (len a_1)) rfl (aZ rfl rfl rfl (bg rfl)) ?_
 obtain⟨m2,hm2,h⟩:=bS h
 refine oq 65 (.hs 49 0 [] 1 0 (m2.map I).length) rfl (i9 rfl rfl (Cy (f:=I) rfl rfl rfl (by decide) hm2 rfl)) ?_
 refine cq 8 [3,4] [.hs 49 0 [] 1 0 (m2.map I).length,I (0)] 97 ?_
 obtain⟨y6,hy6,hy61,hy62⟩:=bJ h
 refine bW rfl ?_
 refine rf [0,3,4] [49] (JM a_1 rfl (0,m2) _ hy6 (fun r' e st hq=>by rw[hy61 r' e] at hq;exact hq) fun u6 hu=>?_)
 replace h:=hy62 u6 hu
 refine cq 5 [2] [.hs 1 0 [] 1 0 (u6.map I).length] 34 ?_
 obtain rfl:=Option.some.inj h
 exact ai rfl ⟨_,fin (vs:=[.hs 1 0 [] 1 0 (u6.map I).length]) rfl (ez (d7 rfl (cf rfl rfl)) dP) rfl (d8 eB),ey⟩
theorem QG {G:Go.Ln.Ground}:aH Tryz.prog G 26 zS:=gT 1 0 bc (Checked.mixed Tryz.checked) Tryz.func26 (fun a r h=>TU a r h)
def B3:State→List V:=oA bI
def AD (r:State):V×List V:=(.agg [I r.Day,.usl 1 (r.Facts.map str),.usl 4 (r.Duties.map ae),.usl 1 (r.Balances.map I),B r.Over],[])
noncomputable def zG:Ent:=aO [false] B3 AD fun x=>sE x
theorem uw {a_1:State}{r}(h:sE a_1=some r):zG.F (B3 a_1)=some (AD r):=aA (az cD) h
noncomputable def XA:Code:=ay Tryz.f19
noncomputable def Qn:Env:=bG Tryz.prog [(62,tc),(64,zQ),(26,zS)]
def WE (x:State)(r:State):St→Prop:=QF Qn Tryz.f19 [false] (B3 x) (AD r)
theorem TX (a_1:State)(r:State)(h:sE a_1=some r):ba Qn Tryz.f19 [false] 0 (B3 a_1) (AD r):=by
 show Run _ _ (WE a_1 r) [.code XA] _
 refine rI 23 [(0,bI a_1)] [] 1 ?_
 unfold sE at h
 refine ck 4 [1,2] [] [1,17] [] [.hp 1 0 [] 5 0 0,.hp 17 0 [] 5 0 0] [some ⟨0,5,[bI a_1]⟩,some ⟨0,5,[.agg [I (0),.isl true [],.isl true [],.isl true [],B false]]⟩] 33 (by kernel_rfl) ?_
 refine eb 17 [.agg [I (0),.usl 1 (([]).map str),.usl 4 (([]).map ae),.usl 1 (([]).map I),B false]] rfl rfl (au (eU (au (.refl _) (au (.nil _) (au (.nil _) (au (.nil _) (au (.refl _) dm)))))) dm) ?_
 refine ck 4 [3] [] [33] [] [.hp 33 0 [] 5 0 0] [some ⟨0,5,[.agg [I (0),.isl true [],.isl true [],.isl true [],B false]]⟩] 49 (by kernel_rfl) ?_
 refine eb 33 [.agg [I (0),.usl 1 (([]).map str),.usl 4 (([]).map ae),.usl 1 (([]).map I),B false]] rfl rfl (au (eU (au (.refl _) (au (.nil _) (au (.nil _) (au (.nil _) (au (.refl _) dm)))))) dm) ?_
 refine ck 12 [8] [] [33] [] [.isl false (a_1.Facts.map str)] [some ⟨1,5,[.agg [I a_1.Day,.usl 1 (([]).map str),.usl 4 (([]).map ae),.usl 1 (([]).map I),B false]]⟩] 145 (by kernel_rfl) ?_
 obtain⟨r2,hr2,h⟩:=bS h
 refine oq 161 (.hs 145 0 [] 1 0 (r2.map str).length) rfl (cP (Qk hr2)) ?_
 refine cq 1 [10] [.hp 33 0 [] 5 0 1] 177 ?_
 refine o0 193 rfl rfl (fD rfl rfl (eA (path:=[]) (pl:=false) (e':=.agg [I a_1.Day,.usl 1 (r2.map str),.usl 4 (([]).map ae),.usl 1 (([]).map I),B false]) (es2':=[.agg [I a_1.Day,.usl 1 (r2.map str),.usl 4 (([]).map ae),.usl 1 (([]).map I),B false]]) rfl (d7 rfl (cf rfl rfl)) rfl rfl rfl aN rfl rfl rfl rfl rfl du 2 rfl)) ?_
 refine cq 5 [12] [.isl false (a_1.Duties.map ae)] 225 ?_
 obtain⟨r3,hr3,h⟩:=bS h
 refine oq 241 (.hs 225 0 [] 4 0 (r3.map ae).length) rfl (cP (Xl hr3)) ?_
 refine cq 1 [14] [.hp 33 0 [] 5 0 2] 257 ?_
 refine o0 273 rfl rfl (fD rfl rfl (eA (path:=[]) (pl:=false) (e':=.agg [I a_1.Day,.usl 1 (r2.map str),.usl 4 (r3.map ae),.usl 1 (([]).map I),B false]) (es2':=[.agg [I a_1.Day,.usl 1 (r2.map str),.usl 4 (r3.map ae),.usl 1 (([]).map I),B false]]) rfl (d7 rfl (cf rfl rfl)) rfl rfl rfl aN rfl rfl rfl rfl rfl du 3 rfl)) ?_
 refine cq 5 [16] [.isl false (a_1.Balances.map I)] 305 ?_
 obtain⟨r4,hr4,h⟩:=bS h
 refine oq 321 (.hs 305 0 [] 1 0 (r4.map I).length) rfl (cP (Xm hr4)) ?_
 refine cq 1 [18] [.hp 33 0 [] 5 0 3] 337 ?_
 refine o0 353 rfl rfl (fD rfl rfl (eA (path:=[]) (pl:=false) (e':=.agg [I a_1.Day,.usl 1 (r2.map str),.usl 4 (r3.map ae),.usl 1 (r4.map I),B false]) (es2':=[.agg [I a_1.Day,.usl 1 (r2.map str),.usl 4 (r3.map ae),.usl 1 (r4.map I),B false]]) rfl (d7 rfl (cf rfl rfl)) rfl rfl rfl aN rfl rfl rfl rfl rfl du 4 rfl)) ?_
 refine ck 11 [22] [] [33] [] [.agg [I a_1.Day,.hs 33 4 [(0,1)] 1 0 (r2.map str).length,.hs 33 4 [(0,2)] 4 0 (r3.map ae).length,.hs 33 4 [(0,3)] 1 0 (r4.map I).length,B a_1.Over]] [some ⟨4,5,[.agg [I a_1.Day,.usl 1 (r2.map str),.usl 4 (r3.map ae),.usl 1 (r4.map I),B a_1.Over]]⟩] 433 (by kernel_rfl) ?_
 refine o0 449 rfl rfl (fD rfl rfl (eA (path:=[]) (pl:=false) (e':=.agg [I a_1.Day,.usl 1 (r2.map str),.usl 4 (r3.map ae),.usl 1 (r4.map I),B a_1.Over]) (es2':=[.agg [I a_1.Day,.usl 1 (r2.map str),.usl 4 (r3.map ae),.usl 1 (r4.map I),B a_1.Over]]) rfl (ku (bq (bQ rfl) (bq (eD (path:=[(0,1)]) rfl rfl (ec rfl rfl aN) rfl (ij (path:=[]) (i:=0) (k:=1) (e':=.agg [I a_1.Day,.dead,.usl 4 (r3.map ae),.usl 1 (r4.map I),B a_1.Over]) (es2':=[.agg [I a_1.Day,.dead,.usl 4 (r3.map ae),.usl 1 (r4.map I),B a_1.Over]]) aN rfl rfl rfl du)) (bq (eD (path:=[(0,2)]) rfl rfl (ec rfl rfl aN) rfl (ij (path:=[]) (i:=0) (k:=2) (e':=.agg [I a_1.Day,.dead,.dead,.usl 1 (r4.map I),B a_1.Over]) (es2':=[.agg [I a_1.Day,.dead,.dead,.usl 1 (r4.map I),B a_1.Over]]) aN rfl rfl rfl du)) (bq (eD (path:=[(0,3)]) rfl rfl (ec rfl rfl aN) rfl (ij (path:=[]) (i:=0) (k:=3) (e':=.agg [I a_1.Day,.dead,.dead,.dead,B a_1.Over]) (es2':=[.agg [I a_1.Day,.dead,.dead,.dead,B a_1.Over]]) aN rfl rfl rfl du)) (bq (bQ rfl) kv)))))) rfl rfl rfl aN rfl rfl rfl rfl rfl du 2 rfl)) ?_
 refine aq 1 ?_
 obtain rfl:=Option.some.inj h
 exact ai rfl ⟨_,fin (vs:=[.agg [I a_1.Day,.hs 17 2 [(0,1)] 1 0 (r2.map str).length,.hs 17 2 [(0,2)] 4 0 (r3.map ae).length,.hs 17 2 [(0,3)] 1 0 (r4.map I).length,B a_1.Over]]) (EV (oC rfl rfl rfl) EC) (ez (ku (bq (bQ rfl) (bq (eD (path:=[(0,1)]) rfl rfl (ec rfl rfl aN) rfl (ij (path:=[]) (i:=0) (k:=1) (e':=.agg [I a_1.Day,.dead,.usl 4 (r3.map ae),.usl 1 (r4.map I),B a_1.Over]) (es2':=[.agg [I a_1.Day,.dead,.usl 4 (r3.map ae),.usl 1 (r4.map I),B a_1.Over]]) aN rfl rfl rfl du)) (bq (eD (path:=[(0,2)]) rfl rfl (ec rfl rfl aN) rfl (ij (path:=[]) (i:=0) (k:=2) (e':=.agg [I a_1.Day,.dead,.dead,.usl 1 (r4.map I),B a_1.Over]) (es2':=[.agg [I a_1.Day,.dead,.dead,.usl 1 (r4.map I),B a_1.Over]]) aN rfl rfl rfl du)) (bq (eD (path:=[(0,3)]) rfl rfl (ec rfl rfl aN) rfl (ij (path:=[]) (i:=0) (k:=3) (e':=.agg [I a_1.Day,.dead,.dead,.dead,B a_1.Over]) (es2':=[.agg [I a_1.Day,.dead,.dead,.dead,B a_1.Over]]) aN rfl rfl rfl du)) (bq (bQ rfl) kv)))))) dP) rfl (d8 eB),ey⟩
theorem Pq {G:Go.Ln.Ground}:aH Tryz.prog G 19 zG:=gT 1 0 (aB FH (aB Qb (aB QG bc))) (Checked.mixed Tryz.checked) Tryz.func19 (fun a r h=>TX a r h)
def mX:(Int×Int×Int)→List V:=cA I (cA I (oA I))
def ng (r:Bool):V×List V:=(B r,[])
noncomputable def ef:Ent:=aO [false,false,false] mX ng fun x=>cW x.1 x.2.1 x.2.2
theorem cV {x_1:Int}{a_2:Int}{b_3:Int}{r}(h:cW x_1 a_2 b_3=some r):ef.F (mX (x_1,a_2,b_3))=some (ng r):=aA (aU bA (aU bA (az bA))) h
noncomputable def xh:Code:=ay Tryz.f73
noncomputable def qm:Env:=bG Tryz.prog []
def xn (x:Int×Int×Int)(r:Bool):St→Prop:=QF qm Tryz.f73 [false,false,false] (mX x) (ng r)
theorem F8 (x_1:Int)(a_2:Int)(b_3:Int)(r:Bool)(h:cW x_1 a_2 b_3=some r):ba qm Tryz.f73 [false,false,false] 0 (mX (x_1,a_2,b_3)) (ng r):=by
 show Run _ _ (xn (x_1,a_2,b_3) r) [.code xh] _
 refine rI 15 [(0,I x_1),(1,I a_2),(2,I b_3)] [] 1 ?_
 unfold cW at h
 refine cq 10 [10] [B (decide (x_1≥a_2))] 81 ?_
 obtain⟨u4,hu4,h⟩:=lJ h
 have j4:Run qm 0 (xn (x_1,a_2,b_3) r) (.code (cR (cR xh))::[]) (sT 15 [(6,B u4)] [] 1):=by
  obtain rfl:=Option.some.inj h
  exact ai rfl (qp [B u4])
 replace h:=hu4
 clear hu4
 refine sp 10 h rfl (fun h=>?_) fun h=>?_
 ·refine cq 6 [6] [B (decide (x_1≤b_3))] 161 ?_
  subst h
  exact rf [6] [] (j4 :)
 ·refine cq 6 [6] [B false] 161 ?_
  subst h
  exact rf [6] [] (j4 :)
theorem eK {G:Go.Ln.Ground}:aH Tryz.prog G 73 ef:=gT 3 0 bc (Checked.mixed Tryz.checked) Tryz.func73 (fun a r h=>F8 a.1 a.2.1 a.2.2 r h)
def CS:Int→List V:=oA (V.int .u8)
def A3 (r:Bool):V×List V:=(B r,[])
noncomputable def yx:Ent:=aO [false] CS A3 fun x=>tM x
theorem Yy {b_1:Int}{r}(h:tM b_1=some r):yx.F (CS b_1)=some (A3 r):=aA (az (Ju (k:=.u8))) h
noncomputable def tL:Code:=ay Tryz.f200
noncomputable def rO:Env:=bG Tryz.prog []
def uS (x:Int)(r:Bool):St→Prop:=QF rO Tryz.f200 [false] (CS x) (A3 r)
theorem SM (b_1:Int)(r:Bool)(h:tM b_1=some r):ba rO Tryz.f200 [false] 0 (CS b_1) (A3 r):=by
 show Run _ _ (uS b_1 r) [.code tL] _
 refine rI 17 [(0,.int .u8 b_1)] [] 1 ?_
 unfold tM at h
 refine cq 9 [5] [B (decide (b_1≥97))] 65 ?_
 obtain⟨u2,hu2,h⟩:=lJ h
 have j2:Run rO 0 (uS b_1 r) (.code (cR (cR tL))::[]) (sT 17 [(2,B u2)] [] 1):=by
  obtain rfl:=Option.some.inj h
  exact ai rfl (qp [B u2])
 replace h:=hu2
 clear hu2
 refine sp 5 h rfl (fun h=>?_) fun h=>?_
 ·refine cq 4 [9] [B (decide (b_1≤122))] 129 ?_
  obtain⟨u3,hu3,h⟩:=lJ h
  have j3:Run rO 0 (uS b_1 r) (.code (cR (cR tL))::[]) (sT 17 [(2,B u3)] [] 1):=by
   subst h
   exact rf [2] [] (j2 :)
  replace h:=hu3
  clear hu3
  refine sp 9 h rfl (fun h=>?_) fun h=>?_
  ·refine cq 9 [2] [B true] 257 ?_
   subst h
   exact rf [2] [] (j3 :)
  ·refine cq 3 [12] [B (decide (b_1≥48))] 177 ?_
   obtain⟨u4,hu4,h⟩:=lJ h
   have j4:Run rO 0 (uS b_1 r) (.code (cR (cR tL))::[]) (sT 17 [(2,B u4)] [] 1):=by
    subst h
    exact rf [2] [] (j3 :)
   replace h:=hu4
   clear hu4
   refine sp 12 h rfl (fun h=>?_) fun h=>?_
   ·refine cq 6 [2] [B (decide (b_1≤57))] 257 ?_
    subst h
    exact rf [2] [] (j4 :)
   ·refine cq 6 [2] [B false] 257 ?_
    subst h
    exact rf [2] [] (j4 :)
 ·refine cq 7 [9,12] [B false,B (decide (b_1≥48))] 177 ?_
  obtain⟨u5,hu5,h⟩:=lJ h
  have j5:Run rO 0 (uS b_1 r) (.code (cR (cR tL))::[]) (sT 17 [(2,B u5)] [] 1):=by
   subst h
   exact rf [2] [] (j2 :)
  replace h:=hu5
  clear hu5
  refine sp 12 h rfl (fun h=>?_) fun h=>?_
  ·refine cq 6 [2] [B (decide (b_1≤57))] 257 ?_
   subst h
   exact rf [2] [] (j5 :)
  ·refine cq 6 [2] [B false] 257 ?_
   subst h
   exact rf [2] [] (j5 :)
theorem NG {G:Go.Ln.Ground}:aH Tryz.prog G 200 yx:=gT 1 0 bc (Checked.mixed Tryz.checked) Tryz.func200 (fun a r h=>SM a r h)
def Ba:ah→List V:=oA str
def AL (r:Bool):V×List V:=(B r,[])
noncomputable def mL:Ent:=aO [false] Ba AL fun x=>pb x
theorem pt {s_1:ah}{r}(h:pb s_1=some r):mL.F (Ba s_1)=some (AL r):=aA (az bf) h
noncomputable def nF:Code:=ay Tryz.f157
noncomputable abbrev lN:Code:=cR (cR (cR (cR nF)))
noncomputable abbrev ly:Code:=cR (cL (cR (cL (cR (cR (cR nF))))))
noncomputable def ib:Env:=bG Tryz.prog [(73,ef),(200,yx)]
def fU (x:ah)(r:Bool):St→Prop:=QF ib Tryz.f157 [false] (Ba x) (AL r)
theorem J0 (s_1:ah):cl ib 0 (fU s_1) (cL (cL (cR (cL (cR (cR nF)))))) 0 (ru s_1) (fun u=>(sT 40 [(0,str s_1)] [] 1)) fun x4=>(sT 40 [(0,str s_1),(3,I x4)] [] 1):=d5 (wr s_1) fun {Q K} hK self ih x4 y h hr hn=>by
 unfold la at h
 refine cq 8 [21] [B (decide (x4<(len s_1)))] 65 ?_
 refine sq h (fun h=>?_) fun h=>?_
 ·refine aq 1 ?_
  refine cq 6 [24,25] [str s_1,I x4] 97 ?_
  obtain⟨c5,hc5,h⟩:=bS h
  refine oq 113 (.int .u8 (c5.toNat:Int)) rfl (lg rfl rfl (pP rfl rfl hc5)) ?_
  obtain⟨r6,hr6,h⟩:=bS h
  refine oq 129 (B r6) rfl (cP (Yy hr6)) ?_
  refine cq 2 [28] [B (!r6)] 145 ?_
  refine sq h (fun h=>?_) fun h=>?_
  ·refine cq 4 [2] [B false] 161 ?_
   exact ai rfl (hr _ (Option.some.inj h).symm _ (qp [B false]))
  ·refine aq 1 ?_
   refine cq 6 [3] [I (ar (x4+1))] 193 ?_
   refine cS ?_
   exact rf [0,3] [] (ih _ _ h hr hn :)
 ·refine aq 1 ?_
  exact rf [0] [] (hn _ (Option.some.inj h).symm :) (hk:=hK)
theorem TQ (s_1:ah)(r:Bool)(h:pb s_1=some r):ba ib Tryz.f157 [false] 0 (Ba s_1) (AL r):=by
 show Run _ _ (fU s_1 r) [.code nF] _
 refine rI 40 [(0,str s_1)] [] 1 ?_
 unfold pb at h
 refine cq 9 [5] [I (len s_1)] 49 ?_
 obtain⟨r2,hr2,h⟩:=bS h
 refine oq 65 (B r2) rfl (cP (cV hr2)) ?_
 refine cq 2 [8] [B (!r2)] 97 ?_
 obtain⟨y3,hy3,hy31,hy32⟩:=bJ h
 have j3:∀u3,y3=.inr u3→Run ib 0 (fU s_1 r) (.code (cR (cL (cR nF)))::.code (cR (cR nF))::[]) (sT 40 [(0,str s_1),(17,B u3)] [] 1):=by
  intro u3 hu
  replace h:=hy32 u3 hu
  refine sq h (fun h=>?_) fun h=>?_
  ·refine cq 4 [2] [B false] 17 ?_
   obtain rfl:=Option.some.inj h
   exact ai rfl (qp [B false])
  ·refine aq 1 ?_
   refine cq 6 [3] [I (0)] 17 ?_
   obtain⟨y7,hy7,hy71,hy72⟩:=bJ h
   refine bW rfl ?_
   refine rf [0,3] [] (J0 s_1 rfl 0 _ hy7 (fun r' e st hq=>by rw[hy71 r' e] at hq;exact hq) fun u7 hu=>?_)
   replace h:=hy72 u7 hu
   refine cq 12 [29,30] [str s_1,B (s_1==([116,114,117,101]:ah))] 49 ?_
   obtain⟨u8,hu8,h⟩:=lJ h
   have j8:Run ib 0 (fU s_1 r) (.code ly::.blk 2::.code lN::[]) (sT 40 [(30,B u8)] [] 1):=by
    refine sq h (fun h=>?_) fun h=>?_
    ·refine cq 4 [2] [B false] 17 ?_
     obtain rfl:=Option.some.inj h
     exact ai rfl (qp [B false])
    ·refine aq 1 ?_
     refine cq 5 [2] [B true] 17 ?_
     obtain rfl:=Option.some.inj h
     exact ai rfl (qp [B true])
   replace h:=hu8
   clear hu8
   refine wX h rfl rfl (fun h=>?_) fun h=>?_
   ·refine aq 1 ?_
    subst h
    exact rf [30] [] (j8 :)
   ·refine cq 5 [30] [B (s_1==([102,114,111,109]:ah))] 81 ?_
    obtain⟨u9,hu9,h⟩:=lJ h
    have j9:Run ib 0 (fU s_1 r) (.code ly::.blk 2::.code lN::[]) (sT 40 [(30,B u9)] [] 1):=by
     subst h
     exact rf [30] [] (j8 :)
    replace h:=hu9
    clear hu9
    refine wX h rfl rfl (fun h=>?_) fun h=>?_
    ·refine aq 1 ?_
     subst h
     exact rf [30] [] (j9 :)
    ·refine cq 5 [30] [B (s_1==([110,111,116]:ah))] 113 ?_
     obtain⟨u10,hu10,h⟩:=lJ h
     have j10:Run ib 0 (fU s_1 r) (.code ly::.blk 2::.code lN::[]) (sT 40 [(30,B u10)] [] 1):=by
      subst h
      exact rf [30] [] (j9 :)
     replace h:=hu10
     clear hu10
     refine wX h rfl rfl (fun h=>?_) fun h=>?_
     ·refine aq 1 ?_
      subst h
      exact rf [30] [] (j10 :)
     ·refine cq 5 [30] [B (s_1==([97,110,100]:ah))] 145 ?_
      obtain⟨u11,hu11,h⟩:=lJ h
      have j11:Run ib 0 (fU s_1 r) (.code ly::.blk 2::.code lN::[]) (sT 40 [(30,B u11)] [] 1):=by
       subst h
       exact rf [30] [] (j10 :)
      replace h:=hu11
      clear hu11
      refine wX h rfl rfl (fun h=>?_) fun h=>?_
      ·refine aq 1 ?_
       subst h
       exact rf [30] [] (j11 :)
      ·refine cq 5 [30] [B (s_1==([111,114]:ah))] 177 ?_
       obtain⟨u12,hu12,h⟩:=lJ h
       have j12:Run ib 0 (fU s_1 r) (.code ly::.blk 2::.code lN::[]) (sT 40 [(30,B u12)] [] 1):=by
        subst h
        exact rf [30] [] (j11 :)
       replace h:=hu12
       clear hu12
       refine wX h rfl rfl (fun h=>?_) fun h=>?_
       ·refine aq 1 ?_
        subst h
        exact rf [30] [] (j12 :)
       ·refine cq 5 [30] [B (s_1==([98,111,116,104]:ah))] 209 ?_
        obtain⟨u13,hu13,h⟩:=lJ h
        have j13:Run ib 0 (fU s_1 r) (.code ly::.blk 2::.code lN::[]) (sT 40 [(30,B u13)] [] 1):=by
         subst h
         exact rf [30] [] (j12 :)
        replace h:=hu13
        clear hu13
        refine wX h rfl rfl (fun h=>?_) fun h=>?_
        ·refine aq 1 ?_
         subst h
         exact rf [30] [] (j13 :)
        ·refine cq 5 [30] [B (s_1==([101,105,116,104,101,114]:ah))] 241 ?_
         obtain⟨u14,hu14,h⟩:=lJ h
         have j14:Run ib 0 (fU s_1 r) (.code ly::.blk 2::.code lN::[]) (sT 40 [(30,B u14)] [] 1):=by
          subst h
          exact rf [30] [] (j13 :)
         replace h:=hu14
         clear hu14
         refine wX h rfl rfl (fun h=>?_) fun h=>?_
         ·refine aq 1 ?_
          subst h
          exact rf [30] [] (j14 :)
         ·refine cq 5 [30] [B (s_1==([105,116]:ah))] 273 ?_
          obtain⟨u15,hu15,h⟩:=lJ h
          have j15:Run ib 0 (fU s_1 r) (.code ly::.blk 2::.code lN::[]) (sT 40 [(30,B u15)] [] 1):=by
           subst h
           exact rf [30] [] (j14 :)
          replace h:=hu15
          clear hu15
          refine wX h rfl rfl (fun h=>?_) fun h=>?_
          ·refine aq 1 ?_
           subst h
           exact rf [30] [] (j15 :)
          ·refine cq 4 [30] [B (s_1==([105,110]:ah))] 305 ?_
           subst h
           exact rf [30] [] (j15 :)
 have r3:∀r',y3=.inl r'→∀st,fU s_1 r' st→(fU s_1 r) st:=fun r' e st hq=>by rw[hy31 r' e] at hq;exact hq
 replace h:=hy3
 refine sp 8 h rfl (fun h=>?_) fun h=>?_
 ·refine cq 10 [17] [B true] 241 ?_
  exact rf [0,17] [] (j3 _ (Option.some.inj h).symm :)
 ·refine cq 1 [9] [str s_1] 113 ?_
  obtain⟨c16,hc16,h⟩:=bS h
  refine oy 129 (.int .u8 (c16.toNat:Int)) rfl (lg rfl rfl (pP rfl rfl hc16)) ?_
  refine cq 3 [13] [B (decide ((c16.toNat:Int)<97))] 177 ?_
  obtain⟨y17,hy17,hy171,hy172⟩:=bL h
  have j17:∀u17,y17=.inr u17→Run ib 0 (fU s_1 r) (.code (cR (cL (cR nF)))::.code (cR (cR nF))::[]) (sT 40 [(0,str s_1),(17,B u17)] [] 1):=by
   intro u17 hu
   replace h:=hy172 u17 hu
   exact rf [0,17] [] (j3 _ (Option.some.inj h).symm :)
  have r17:∀r',y17=.inl r'→∀st,fU s_1 r' st→(fU s_1 r) st:=fun r' e st hq=>r3 r' (hy171 r' e) st hq
  replace h:=hy17
  refine sp 13 h rfl (fun h=>?_) fun h=>?_
  ·refine cq 5 [17] [B true] 241 ?_
   exact rf [0,17] [] (j17 _ (Option.some.inj h).symm :)
  ·refine cq 1 [14] [str s_1] 193 ?_
   obtain⟨c18,hc18,h⟩:=bS h
   refine oy 209 (.int .u8 (c18.toNat:Int)) rfl (lg rfl rfl (pP rfl rfl hc18)) ?_
   refine cq 3 [17] [B (decide ((c18.toNat:Int)>122))] 241 ?_
   exact rf [0,17] [] (j17 _ (Option.some.inj h).symm :)
theorem pI {G:Go.Ln.Ground}:aH Tryz.prog G 157 mL:=gT 1 0 (aB eK (aB NG bc)) (Checked.mixed Tryz.checked) Tryz.func157 (fun a r h=>TQ a r h)
def zZ:((List ah)×ah)→List V:=cA (eu str) (oA str)
def DS (r:Bool):V×List V:=(B r,[])
noncomputable def pq:Ent:=aO [false,false] zZ DS fun x=>nR x.1 x.2
theorem C3 {list_1:List ah}{name_2:ah}{r}(h:nR list_1 name_2=some r):pq.F (zZ (list_1,name_2))=some (DS r):=aA (aU (bi bf) (az bf)) h
noncomputable def QT:Code:=ay Tryz.f117
noncomputable def IY:Env:=bG Tryz.prog []
def QV (x:(List ah)×ah)(r:Bool):St→Prop:=QF IY Tryz.f117 [false,false] (zZ x) (DS r)
theorem JJ (list_1:List ah)(name_2:ah):cl IY 0 (QV (list_1,name_2)) (cL (cL (cR (cL (cR QT))))) 0 (oH list_1 name_2) (fun u=>(sT 18 [] [] 1)) fun x3=>(sT 18 [(0,.isl false (list_1.map str)),(1,str name_2),(5,I x3)] [] 1):=d5 (xf list_1 name_2) fun {Q K} hK self ih x3 y h hr hn=>by
 unfold jW at h
 refine cq 5 [6,7] [I x3,.isl false (list_1.map str)] 33 ?_
 refine oq 49 (I (len list_1)) rfl (aZ rfl rfl rfl (bg rfl)) ?_
 refine cq 2 [9] [B (decide (x3<(len list_1)))] 65 ?_
 refine sq h (fun h=>?_) fun h=>?_
 ·refine aq 1 ?_
  refine cq 6 [12,13] [.isl false (list_1.map str),I x3] 97 ?_
  obtain⟨e4,he4,h⟩:=bS h
  refine oq 113 (.iptr (str e4) 0) rfl (al rfl rfl rfl (aM rfl rfl rfl rfl he4)) ?_
  refine cq 4 [17] [B (e4==name_2)] 161 ?_
  refine sq h (fun h=>?_) fun h=>?_
  ·refine cq 4 [4] [B true] 177 ?_
   exact ai rfl (hr _ (Option.some.inj h).symm _ (qp [B true]))
  ·refine aq 1 ?_
   refine cq 6 [5] [I (ar (x3+1))] 209 ?_
   refine cS ?_
   exact rf [0,1,5] [] (ih _ _ h hr hn :)
 ·refine aq 1 ?_
  exact rf [] [] (hn _ (Option.some.inj h).symm :) (hk:=hK)
theorem Rs (list_1:List ah)(name_2:ah)(r:Bool)(h:nR list_1 name_2=some r):ba IY Tryz.f117 [false,false] 0 (zZ (list_1,name_2)) (DS r):=by
 show Run _ _ (QV (list_1,name_2) r) [.code QT] _
 refine rI 18 [(0,.isl false (list_1.map str)),(1,str name_2)] [] 1 ?_
 unfold nR at h
 refine cq 10 [5] [I (0)] 33 ?_
 obtain⟨y5,hy5,hy51,hy52⟩:=bJ h
 refine bW rfl ?_
 refine rf [0,1,5] [] (JJ list_1 name_2 rfl 0 _ hy5 (fun r' e st hq=>by rw[hy51 r' e] at hq;exact hq) fun u5 hu=>?_)
 replace h:=hy52 u5 hu
 refine cq 4 [4] [B false] 17 ?_
 obtain rfl:=Option.some.inj h
 exact ai rfl (qp [B false])
theorem ut {G:Go.Ln.Ground}:aH Tryz.prog G 117 pq:=gT 2 0 bc (Checked.mixed Tryz.checked) Tryz.func117 (fun a r h=>Rs a.1 a.2 r h)
def BC:Contract→List V:=oA aG
def DT (r:Bool):V×List V:=(B r,[])
noncomputable def yS:Ent:=aO [false] BC DT fun x=>uQ x
theorem Yx {c_1:Contract}{r}(h:uQ c_1=some r):yS.F (BC c_1)=some (DT r):=aA (az aQ) h
noncomputable def uk:Code:=ay Tryz.f139
noncomputable def Dl:Env:=bG Tryz.prog [(157,mL),(117,pq),(73,ef)]
def Jg (x:Contract)(r:Bool):St→Prop:=QF Dl Tryz.f139 [false] (BC x) (DT r)
theorem Kb (c_1:Contract):cl Dl 0 (Jg c_1) (cL (cL (cR (cL (cR uk))))) 0 (rD c_1) (fun u=>(sT 34 [(1,.hp 1 0 [] 2 0 0)] [⟨0,2,[.agg [.isl false (c_1.Parties.map str),.isl false (c_1.Clauses.map ac)]]⟩] 2)) fun x2=>(sT 34 [(1,.hp 1 0 [] 2 0 0),(3,I x2)] [⟨0,2,[.agg [.isl false (c_1.Parties.map str),.isl false (c_1.Clauses.map ac)]]⟩] 2):=d5 (wt c_1) fun {Q K} hK self ih x2 y h hr hn=>by
 unfold jw at h
 refine cq 6 [4,6] [I x2,.isl false (c_1.Parties.map str)] 50 ?_
 refine oq 66 (I (len c_1.Parties)) rfl (aZ rfl rfl rfl (bg rfl)) ?_
 refine cq 2 [8] [B (decide (x2<(len c_1.Parties)))] 82 ?_
 refine sq h (fun h=>?_) fun h=>?_
 ·refine aq 1 ?_
  refine aq 3 ?_
  refine dN [0,1,0,7,15,31,63,127,255,511,255,2047,255,4351,255,28927,61695,131071,262143] rfl (by decide +kernel) ?_
  refine dq [1] [] (.hp 1 0 [] 2 0 0) rfl (ak rfl rfl rfl) ?_
  refine dq [1] [] (.isl false (c_1.Parties.map str)) rfl (aL rfl rfl) ?_
  refine dk 1 [13] [I x2] ?_
  obtain⟨e3,he3,h⟩:=bS h
  refine dq [] [] (.iptr (str e3) 0) rfl (al rfl rfl rfl (aM rfl rfl rfl rfl he3)) ?_
  refine dq [] [] (str e3) rfl (aL rfl rfl) ?_
  obtain⟨r4,hr4,h⟩:=bS h
  refine dq [] [] (B r4) rfl (cP (pt hr4)) ?_ (ct rfl rfl rfl rfl (bh (bE rfl) cz) (pt hr4) (.inr rfl) rfl)
  refine dk 2 [18,17] [B (!r4),B (!r4)] ?_
  obtain⟨y5,hy5,hy51,hy52⟩:=bL h
  have j5:∀u5,y5=.inr u5→Run Dl 0 Q (.code (cR (cL (cL (cR (cL (cL (cR (cL (cR uk)))))))))::.blk 1::.code (cR (cR (cL (cL (cR (cL (cR uk)))))))::.lp (cL (cL (cR (cL (cR uk)))))::.blk 0::K) (sT 34 [(1,.hp 1 0 [] 2 0 0),(3,I x2),(29,B u5)] [⟨0,2,[.agg [.isl false (c_1.Parties.map str),.isl false (c_1.Clauses.map ac)]]⟩] 2):=by
   intro u5 hu
   replace h:=hy52 u5 hu
   refine sq h (fun h=>?_) fun h=>?_
   ·refine cq 4 [2] [B false] 18 ?_
    exact ai rfl (hr _ (Option.some.inj h).symm _ (qp [B false]))
   ·refine aq 1 ?_
    refine cq 6 [3] [I (ar (x2+1))] 50 ?_
    refine cS ?_
    exact rf [1,3] [1] (ih _ _ h hr hn :)
  have r5:∀r',y5=.inl r'→∀st,Jg c_1 r' st→Q st:=fun r' e st hq=>hr r' (hy51 r' e) st hq
  replace h:=hy5
  refine sp 18 h rfl (fun h=>?_) fun h=>?_
  ·refine dk 11 [29,28,27,26,25,24,23,22,21,20,19] [B true,.und,.und,.und,.und,.und,.und,.und,.und,.und,.und] ?_
   refine de 386 rfl rfl ?_
   exact rf [1,3,29] [1] (j5 _ (Option.some.inj h).symm :)
  ·refine dy [1] [] (.hp 1 0 [] 2 0 0) rfl (ak rfl rfl rfl) ?_
   refine dy [1] [] (.isl false (c_1.Parties.map str)) rfl (aL rfl rfl) ?_
   refine dk 1 [21] [I x2] ?_
   obtain⟨s6,hs6,h⟩:=bS h
   refine dy [] [] (.isl false (s6.map str)) rfl (gt rfl rfl rfl rfl (Jo rfl rfl (fun y=>(ix y).1) rfl rfl hs6)) ?_
   refine dy [1] [] (.hp 1 0 [] 2 0 0) rfl (ak rfl rfl rfl) ?_
   refine dy [1] [] (.isl false (c_1.Parties.map str)) rfl (aL rfl rfl) ?_
   refine dk 1 [25] [I x2] ?_
   obtain⟨e7,he7,h⟩:=bS h
   refine dy [] [] (.iptr (str e7) 0) rfl (al rfl rfl rfl (aM rfl rfl rfl rfl he7)) ?_
   refine dy [] [] (str e7) rfl (aL rfl rfl) ?_
   obtain⟨r8,hr8,h⟩:=bS h
   refine dy [] [] (B r8) rfl (cP (C3 hr8)) ?_ (ct rfl rfl rfl rfl (bh (bE rfl) (bh (bE rfl) cz)) (C3 hr8) (.inr rfl) rfl)
   refine dk 1 [29] [B r8] ?_
   refine de 386 rfl rfl ?_
   exact rf [1,3,29] [1] (j5 _ (Option.some.inj h).symm :)
 ·refine aq 1 ?_
  exact rf [1] [1] (hn _ (Option.some.inj h).symm :) (hk:=hK)
theorem RU (c_1:Contract)(r:Bool)(h:uQ c_1=some r):ba Dl Tryz.f139 [false] 0 (BC c_1) (DT r):=by
 show Run _ _ (Jg c_1 r) [.code uk] _
 refine rI 34 [(0,.agg [.isl false (c_1.Parties.map str),.isl false (c_1.Clauses.map ac)])] [] 1 ?_
 unfold uQ at h
 refine ck 11 [1,3] [] [1] [] [.hp 1 0 [] 2 0 0,I (0)] [some ⟨0,2,[.agg [.isl false (c_1.Parties.map str),.isl false (c_1.Clauses.map ac)]]⟩] 49 (by kernel_rfl) ?_
 obtain⟨y9,hy9,hy91,hy92⟩:=bJ h
 refine bW rfl ?_
 refine rf [1,3] [1] (Kb c_1 rfl 0 _ hy9 (fun r' e st hq=>by rw[hy91 r' e] at hq;exact hq) fun u9 hu=>?_)
 replace h:=hy92 u9 hu
 refine cq 4 [31] [.isl false (c_1.Parties.map str)] 34 ?_
 refine oq 50 (I (len c_1.Parties)) rfl (aZ rfl rfl rfl (bg rfl)) ?_
 obtain⟨r10,hr10,h⟩:=bS h
 refine oq 66 (B r10) rfl (cP (cV hr10)) ?_
 refine cq 2 [2] [B r10] 82 ?_
 obtain rfl:=Option.some.inj h
 exact ai rfl (qp [B r10])
theorem QN {G:Go.Ln.Ground}:aH Tryz.prog G 139 yS:=gT 1 0 (aB pI (aB ut (aB eK bc))) (Checked.mixed Tryz.checked) Tryz.func139 (fun a r h=>RU a r h)
def Cc:(Contract×ah)→List V:=cA aG (oA str)
def AY (r:Int):V×List V:=(I r,[])
noncomputable def sA:Ent:=aO [false,false] Cc AY fun x=>rX x.1 x.2
theorem Ik {c_1:Contract}{id_2:ah}{r}(h:rX c_1 id_2=some r):sA.F (Cc (c_1,id_2))=some (AY r):=aA (aU aQ (az bf)) h
noncomputable def OA:Code:=ay Tryz.f140
noncomputable def I4:Env:=bG Tryz.prog []
def PM (x:Contract×ah)(r:Int):St→Prop:=QF I4 Tryz.f140 [false,false] (Cc x) (AY r)
theorem J1 (c_1:Contract)(id_2:ah):cl I4 0 (PM (c_1,id_2)) (cL (cL (cR (cL (cR OA))))) 0 (rm c_1 id_2) (fun u=>(sT 22 [] [] 1)) fun x3=>(sT 22 [(1,str id_2),(2,.hp 1 0 [] 2 0 0),(5,I x3)] [⟨0,2,[.agg [.isl false (c_1.Parties.map str),.isl false (c_1.Clauses.map ac)]]⟩] 2):=d5 (wu c_1 id_2) fun {Q K} hK self ih x3 y h hr hn=>by
 unfold ln at h
 refine cq 6 [6,8] [I x3,.isl false (c_1.Clauses.map ac)] 50 ?_
 refine oq 66 (I (len c_1.Clauses)) rfl (aZ rfl rfl rfl (bg rfl)) ?_
 refine cq 2 [10] [B (decide (x3<(len c_1.Clauses)))] 82 ?_
 refine sq h (fun h=>?_) fun h=>?_
 ·refine aq 1 ?_
  refine cq 7 [14,15] [.isl false (c_1.Clauses.map ac),I x3] 130 ?_
  obtain⟨e4,he4,h⟩:=bS h
  refine oq 146 (.iptr (.agg [str e4.Id,I e4.Kind,I e4.Party,str e4.Action,I e4.Other,I e4.Amount,I e4.When.Op,str e4.When.Name,I e4.When.Day,.isl false (e4.When.Parts.map aa),I e4.Within,str e4.Repair]) 0) rfl (al rfl rfl rfl (aM rfl rfl rfl rfl he4)) ?_
  refine cq 5 [20] [B (e4.Id==id_2)] 210 ?_
  refine sq h (fun h=>?_) fun h=>?_
  ·refine cq 5 [4] [I x3] 242 ?_
   exact ai rfl (hr _ (Option.some.inj h).symm _ (qp [I x3]))
  ·refine aq 1 ?_
   refine cq 6 [5] [I (ar (x3+1))] 258 ?_
   refine cS ?_
   exact rf [1,2,5] [1] (ih _ _ h hr hn :)
 ·refine aq 1 ?_
  exact rf [] [] (hn _ (Option.some.inj h).symm :) (hk:=hK)
theorem R8 (c_1:Contract)(id_2:ah)(r:Int)(h:rX c_1 id_2=some r):ba I4 Tryz.f140 [false,false] 0 (Cc (c_1,id_2)) (AY r):=by
 show Run _ _ (PM (c_1,id_2) r) [.code OA] _
 refine rI 22 [(0,.agg [.isl false (c_1.Parties.map str),.isl false (c_1.Clauses.map ac)]),(1,str id_2)] [] 1 ?_
 unfold rX at h
 refine ck 11 [2,5] [] [1] [] [.hp 1 0 [] 2 0 0,I (0)] [some ⟨0,2,[.agg [.isl false (c_1.Parties.map str),.isl false (c_1.Clauses.map ac)]]⟩] 49 (by kernel_rfl) ?_
 obtain⟨y5,hy5,hy51,hy52⟩:=bJ h
 refine bW rfl ?_
 refine rf [1,2,5] [1] (J1 c_1 id_2 rfl 0 _ hy5 (fun r' e st hq=>by rw[hy51 r' e] at hq;exact hq) fun u5 hu=>?_)
 replace h:=hy52 u5 hu
 refine cq 4 [4] [I (-1)] 17 ?_
 obtain rfl:=Option.some.inj h
 exact ai rfl (qp [I (-1)])
theorem FY {G:Go.Ln.Ground}:aH Tryz.prog G 140 sA:=gT 2 0 bc (Checked.mixed Tryz.checked) Tryz.func140 (fun a r h=>R8 a.1 a.2 r h)
def Ca:Int→List V:=oA I
def Di (r:Bool):V×List V:=(B r,[])
noncomputable def po:Ent:=aO [false] Ca Di fun x=>pc x
theorem BR {day_1:Int}{r}(h:pc day_1=some r):po.F (Ca day_1)=some (Di r):=aA (az bA) h
noncomputable def W2:Code:=ay Tryz.f114
noncomputable def QA:Env:=bG Tryz.prog [(73,ef)]
def Xe (x:Int)(r:Bool):St→Prop:=QF QA Tryz.f114 [false] (Ca x) (Di r)
theorem TV (day_1:Int)(r:Bool)(h:pc day_1=some r):ba QA Tryz.f114 [false] 0 (Ca day_1) (Di r):=by
 show Run _ _ (Xe day_1 r) [.code W2] _
 refine rI 5 [(0,I day_1)] [] 1 ?_
 unfold pc at h
 refine cq 7 [3] [I day_1] 33 ?_
 obtain⟨r2,hr2,h⟩:=bS h
 refine oq 49 (B r2) rfl (cP (cV hr2)) ?_
 refine cq 2 [2] [B r2] 65 ?_
 obtain rfl:=Option.some.inj h
 exact ai rfl (qp [B r2])
theorem uB {G:Go.Ln.Ground}:aH Tryz.prog G 114 po:=gT 1 0 (aB eK bc) (Checked.mixed Tryz.checked) Tryz.func114 (fun a r h=>TV a r h)
def AC:Condition→List V:=oA aP
def Cn (r:Bool):V×List V:=(B r,[])
noncomputable def yR:Ent:=aO [false] AC Cn fun x=>xR x
theorem WV {c_1:Condition}{r}(h:xR c_1=some r):yR.F (AC c_1)=some (Cn r):=aA (az cb) h
noncomputable def mh:Code:=ay Tryz.f244
noncomputable abbrev gZ:Code:=cR (cR (cR mh))
noncomputable abbrev Lo:Code:=cR (cL (cR (cR (cR (cL (cR (cL (cR (cR mh)))))))))
noncomputable abbrev K5:Code:=cR (cL (cR (cR (cR (cR (cR (cL (cR (cL (cR (cR mh)))))))))))
noncomputable abbrev KG:Code:=cR (cL (cR (cR (cR (cR (cR (cR (cR (cL (cR (cL (cR (cR mh)))))))))))))
noncomputable abbrev K2:Code:=cR (cL (cR (cR (cR (cR (cR (cR (cR (cR (cR (cL (cR (cL (cR (cR mh)))))))))))))))
noncomputable def ii:Env:=bG Tryz.prog [(157,mL),(114,po)]
def fk (x:Condition)(r:Bool):St→Prop:=QF ii Tryz.f244 [false] (AC x) (Cn r)
theorem RV (c_1:Condition)(r:Bool)(h:xR c_1=some r):ba ii Tryz.f244 [false] 0 (AC c_1) (Cn r):=by
 show Run _ _ (fk c_1 r) [.code mh] _
 refine rI 80 [(0,.agg [I c_1.Op,str c_1.Name,I c_1.Day,.isl false (c_1.Parts.map aa)])] [] 1 ?_
 unfold xR at h
 refine ck 9 [1,5] [] [1] [] [.hp 1 0 [] 4 0 0,.isl false (c_1.Parts.map aa)] [some ⟨0,4,[.agg [I c_1.Op,str c_1.Name,I c_1.Day,.isl false (c_1.Parts.map aa)]]⟩] 65 (by kernel_rfl) ?_
 refine oq 81 (I (len c_1.Parts)) rfl (aZ rfl rfl rfl (bg rfl)) ?_
 refine cq 14 [3,8,9] [I (len c_1.Parts),I c_1.Op,B (c_1.Op==1)] 161 ?_
 refine sq h (fun h=>?_) fun h=>?_
 ·refine cq 5 [13] [B ((len c_1.Parts)==0)] 209 ?_
  obtain⟨u2,hu2,h⟩:=lJ h
  have j2:Run ii 0 (fk c_1 r) (.code (cR (cL (cR (cL (cR (cL (cR (cR mh))))))))::.blk 0::.code gZ::[]) (sT 80 [(2,B u2)] [] 1):=by
   obtain rfl:=Option.some.inj h
   exact ai rfl (qp [B u2])
  replace h:=hu2
  clear hu2
  refine sp 13 h rfl (fun h=>?_) fun h=>?_
  ·refine cq 5 [18] [B (c_1.Name==([]:ah))] 289 ?_
   obtain⟨u3,hu3,h⟩:=lJ h
   have j3:Run ii 0 (fk c_1 r) (.code (cR (cL (cR (cL (cR (cL (cR (cR mh))))))))::.blk 0::.code gZ::[]) (sT 80 [(2,B u3)] [] 1):=by
    subst h
    exact rf [2] [] (j2 :)
   replace h:=hu3
   clear hu3
   refine sp 18 h rfl (fun h=>?_) fun h=>?_
   ·refine cq 6 [2] [B (c_1.Day==0)] 369 ?_
    subst h
    exact rf [2] [] (j3 :)
   ·refine cq 6 [2] [B false] 369 ?_
    subst h
    exact rf [2] [] (j3 :)
  ·refine cq 11 [2] [B false] 369 ?_
   subst h
   exact rf [2] [] (j2 :)
 ·refine cq 5 [23] [B (c_1.Op==2)] 193 ?_
  refine sq h (fun h=>?_) fun h=>?_
  ·refine cq 5 [27] [B ((len c_1.Parts)==0)] 241 ?_
   obtain⟨y4,hy4,hy41,hy42⟩:=bJ h
   have j4:∀u4,y4=.inr u4→Run ii 0 (fk c_1 r) (.code Lo::.blk 0::.code gZ::[]) (sT 80 [(2,B u4)] [] 1):=by
    intro u4 hu
    replace h:=hy42 u4 hu
    obtain rfl:=Option.some.inj h
    exact ai rfl (qp [B u4])
   have r4:∀r',y4=.inl r'→∀st,fk c_1 r' st→(fk c_1 r) st:=fun r' e st hq=>by rw[hy41 r' e] at hq;exact hq
   replace h:=hy4
   refine sp 27 h rfl (fun h=>?_) fun h=>?_
   ·refine cq 2 [29] [str c_1.Name] 273 ?_
    obtain⟨r5,hr5,h⟩:=bS h
    refine oy 289 (B r5) rfl (cP (pt hr5)) ?_
    refine cq 2 [32] [B r5] 321 ?_
    obtain⟨u6,hu6,h⟩:=lJ h
    have j6:Run ii 0 (fk c_1 r) (.code Lo::.blk 0::.code gZ::[]) (sT 80 [(2,B u6)] [] 1):=by
     exact rf [2] [] (j4 _ (Option.some.inj h).symm :)
    replace h:=hu6
    clear hu6
    refine sp 32 h rfl (fun h=>?_) fun h=>?_
    ·refine cq 6 [2] [B (c_1.Day==0)] 401 ?_
     subst h
     exact rf [2] [] (j6 :)
    ·refine cq 6 [2] [B false] 401 ?_
     subst h
     exact rf [2] [] (j6 :)
   ·refine cq 11 [2] [B false] 401 ?_
    exact rf [2] [] (j4 _ (Option.some.inj h).symm :)
  ·refine cq 5 [37] [B (c_1.Op==3)] 225 ?_
   refine sq h (fun h=>?_) fun h=>?_
   ·refine cq 5 [41] [B ((len c_1.Parts)==0)] 273 ?_
    obtain⟨y7,hy7,hy71,hy72⟩:=bJ h
    have j7:∀u7,y7=.inr u7→Run ii 0 (fk c_1 r) (.code K5::.blk 0::.code gZ::[]) (sT 80 [(2,B u7)] [] 1):=by
     intro u7 hu
     replace h:=hy72 u7 hu
     obtain rfl:=Option.some.inj h
     exact ai rfl (qp [B u7])
    have r7:∀r',y7=.inl r'→∀st,fk c_1 r' st→(fk c_1 r) st:=fun r' e st hq=>by rw[hy71 r' e] at hq;exact hq
    replace h:=hy7
    refine sp 41 h rfl (fun h=>?_) fun h=>?_
    ·refine cq 5 [46] [B (c_1.Name==([]:ah))] 353 ?_
     obtain⟨y8,hy8,hy81,hy82⟩:=bL h
     have j8:∀u8,y8=.inr u8→Run ii 0 (fk c_1 r) (.code K5::.blk 0::.code gZ::[]) (sT 80 [(2,B u8)] [] 1):=by
      intro u8 hu
      replace h:=hy82 u8 hu
      exact rf [2] [] (j7 _ (Option.some.inj h).symm :)
     have r8:∀r',y8=.inl r'→∀st,fk c_1 r' st→(fk c_1 r) st:=fun r' e st hq=>r7 r' (hy81 r' e) st hq
     replace h:=hy8
     refine sp 46 h rfl (fun h=>?_) fun h=>?_
     ·refine cq 2 [48] [I c_1.Day] 385 ?_
      obtain⟨r9,hr9,h⟩:=bS h
      refine oy 401 (B r9) rfl (cP (BR hr9)) ?_
      refine cq 3 [2] [B r9] 433 ?_
      exact rf [2] [] (j8 _ (Option.some.inj h).symm :)
     ·refine cq 6 [2] [B false] 433 ?_
      exact rf [2] [] (j8 _ (Option.some.inj h).symm :)
    ·refine cq 11 [2] [B false] 433 ?_
     exact rf [2] [] (j7 _ (Option.some.inj h).symm :)
   ·refine cq 5 [51] [B (c_1.Op==4)] 257 ?_
    refine sq h (fun h=>?_) fun h=>?_
    ·refine cq 5 [55] [B ((len c_1.Parts)==1)] 305 ?_
     obtain⟨u10,hu10,h⟩:=lJ h
     have j10:Run ii 0 (fk c_1 r) (.code KG::.blk 0::.code gZ::[]) (sT 80 [(2,B u10)] [] 1):=by
      obtain rfl:=Option.some.inj h
      exact ai rfl (qp [B u10])
     replace h:=hu10
     clear hu10
     refine sp 55 h rfl (fun h=>?_) fun h=>?_
     ·refine cq 5 [60] [B (c_1.Name==([]:ah))] 385 ?_
      obtain⟨u11,hu11,h⟩:=lJ h
      have j11:Run ii 0 (fk c_1 r) (.code KG::.blk 0::.code gZ::[]) (sT 80 [(2,B u11)] [] 1):=by
       subst h
       exact rf [2] [] (j10 :)
      replace h:=hu11
      clear hu11
      refine sp 60 h rfl (fun h=>?_) fun h=>?_
      ·refine cq 6 [2] [B (c_1.Day==0)] 465 ?_
       subst h
       exact rf [2] [] (j11 :)
      ·refine cq 6 [2] [B false] 465 ?_
       subst h
       exact rf [2] [] (j11 :)
     ·refine cq 11 [2] [B false] 465 ?_
      subst h
      exact rf [2] [] (j10 :)
    ·refine cq 6 [65] [B (c_1.Op==5)] 289 ?_
     obtain⟨u12,hu12,h⟩:=lJ h
     have j12:Run ii 0 (fk c_1 r) (.code (cR (cR (cR (cR (cR (cR (cR (cR (cR (cL (cR (cL (cR (cR mh))))))))))))))::.blk 0::.code gZ::[]) (sT 80 [(1,.hp 1 0 [] 4 0 0),(3,I (len c_1.Parts)),(65,B u12)] [⟨0,4,[.agg [I c_1.Op,str c_1.Name,I c_1.Day,.isl false (c_1.Parts.map aa)]]⟩] 2):=by
      refine sq h (fun h=>?_) fun h=>?_
      ·refine cq 5 [70] [B ((len c_1.Parts)==2)] 50 ?_
       obtain⟨u13,hu13,h⟩:=lJ h
       have j13:Run ii 0 (fk c_1 r) (.code K2::.blk 0::.code gZ::[]) (sT 80 [(2,B u13)] [] 1):=by
        obtain rfl:=Option.some.inj h
        exact ai rfl (qp [B u13])
       replace h:=hu13
       clear hu13
       refine sp 70 h rfl (fun h=>?_) fun h=>?_
       ·refine cq 5 [75] [B (c_1.Name==([]:ah))] 130 ?_
        obtain⟨u14,hu14,h⟩:=lJ h
        have j14:Run ii 0 (fk c_1 r) (.code K2::.blk 0::.code gZ::[]) (sT 80 [(2,B u14)] [] 1):=by
         subst h
         exact rf [2] [] (j13 :)
        replace h:=hu14
        clear hu14
        refine sp 75 h rfl (fun h=>?_) fun h=>?_
        ·refine cq 6 [2] [B (c_1.Day==0)] 210 ?_
         subst h
         exact rf [2] [] (j14 :)
        ·refine cq 6 [2] [B false] 210 ?_
         subst h
         exact rf [2] [] (j14 :)
       ·refine cq 11 [2] [B false] 210 ?_
        subst h
        exact rf [2] [] (j13 :)
      ·refine aq 1 ?_
       refine cq 5 [2] [B false] 18 ?_
       obtain rfl:=Option.some.inj h
       exact ai rfl (qp [B false])
     replace h:=hu12
     clear hu12
     refine wX h rfl rfl (fun h=>?_) fun h=>?_
     ·refine aq 1 ?_
      subst h
      exact rf [1,3,65] [1] (j12 :)
     ·refine cq 4 [65] [B (c_1.Op==6)] 321 ?_
      subst h
      exact rf [1,3,65] [1] (j12 :)
theorem Qv {G:Go.Ln.Ground}:aH Tryz.prog G 244 yR:=gT 1 0 (aB pI (aB uB bc)) (Checked.mixed Tryz.checked) Tryz.func244 (fun a r h=>RV a r h)
def tX:Condition→List V:=oA aP
def uF (r:Bool):V×List V:=(B r,[])
noncomputable def uV (slf_Ffdg:Condition→Option Bool):Ent:=aO [false] tX uF slf_Ffdg
theorem Li (slf_Ffdg:Condition→Option Bool){x}{r}(h:slf_Ffdg x=some r):(uV slf_Ffdg).F (tX x)=some (uF r):=aA (az cb) h
noncomputable def yT:Ent:=uV (aE oS)
theorem WW {c_1:Condition}{r}(h:EF c_1=some r):yT.F (tX c_1)=some (uF r):=Li (aE oS) h
noncomputable def Re:Code:=ay Tryz.f224
noncomputable def JB (slf_Ffdg:Condition→Option Bool):Env:=bG Tryz.prog [(244,yR),(224,(uV slf_Ffdg))]
def Q3 (slf_Ffdg:Condition→Option Bool)(x:Condition)(r:Bool):St→Prop:=QF (JB slf_Ffdg) Tryz.f224 [false] (tX x) (uF r)
theorem JZ (slf_Ffdg:Condition→Option Bool)(c_1:Condition):cl (JB slf_Ffdg) 0 (Q3 slf_Ffdg c_1) (cL (cL (cR (cL (cR (cR Re)))))) 0 (oE slf_Ffdg c_1) (fun u=>(sT 21 [] [] 1)) fun x3=>(sT 21 [(1,.hp 1 0 [] 4 0 0),(3,I x3)] [⟨0,4,[.agg [I c_1.Op,str c_1.Name,I c_1.Day,.isl false (c_1.Parts.map aa)]]⟩] 2):=d5 (xj slf_Ffdg c_1) fun {Q K} hK self ih x3 y h hr hn=>by
 unfold jy at h
 refine cq 6 [7,9] [I x3,.isl false (c_1.Parts.map aa)] 50 ?_
 refine oq 66 (I (len c_1.Parts)) rfl (aZ rfl rfl rfl (bg rfl)) ?_
 refine cq 2 [11] [B (decide (x3<(len c_1.Parts)))] 82 ?_
 refine sq h (fun h=>?_) fun h=>?_
 ·refine aq 1 ?_
  refine cq 7 [15,16] [.isl false (c_1.Parts.map aa),I x3] 130 ?_
  obtain⟨e4,he4,h⟩:=bS h
  refine oq 146 (.iptr (.agg [I e4.Op,str e4.Name,I e4.Day,.isl false (e4.Parts.map aa)]) 0) rfl (al rfl rfl rfl (aM rfl rfl (bb e4) rfl he4)) ?_
  refine cq 1 [18] [.agg [I e4.Op,str e4.Name,I e4.Day,.isl false (e4.Parts.map aa)]] 162 ?_
  obtain⟨r5,hr5,h⟩:=bS h
  refine oq 178 (B r5) rfl (bT rfl rfl (ci rfl rfl rfl (bh (bE rfl) cz) (Li slf_Ffdg hr5) (.inr rfl) dA rfl rfl rfl)) ?_
  refine cq 2 [20] [B (!r5)] 194 ?_
  refine sq h (fun h=>?_) fun h=>?_
  ·refine cq 4 [2] [B false] 210 ?_
   exact ai rfl (hr _ (Option.some.inj h).symm _ (qp [B false]))
  ·refine aq 1 ?_
   refine cq 6 [3] [I (ar (x3+1))] 242 ?_
   refine cS ?_
   exact rf [1,3] [1] (ih _ _ h hr hn :)
 ·refine aq 1 ?_
  exact rf [] [] (hn _ (Option.some.inj h).symm :) (hk:=hK)
theorem RO (slf_Ffdg:Condition→Option Bool)(c_1:Condition)(r:Bool)(h:rA slf_Ffdg c_1=some r):ba (JB slf_Ffdg) Tryz.f224 [false] 0 (tX c_1) (uF r):=by
 show Run _ _ (Q3 slf_Ffdg c_1 r) [.code Re] _
 refine rI 21 [(0,.agg [I c_1.Op,str c_1.Name,I c_1.Day,.isl false (c_1.Parts.map aa)])] [] 1 ?_
 unfold rA at h
 refine ck 9 [1,4] [] [1] [] [.hp 1 0 [] 4 0 0,.agg [I c_1.Op,str c_1.Name,I c_1.Day,.isl false (c_1.Parts.map aa)]] [some ⟨0,4,[.agg [I c_1.Op,str c_1.Name,I c_1.Day,.isl false (c_1.Parts.map aa)]]⟩] 49 (by kernel_rfl) ?_
 obtain⟨r2,hr2,h⟩:=bS h
 refine oq 65 (B r2) rfl (cP (WV hr2)) ?_
 refine cq 2 [6] [B (!r2)] 81 ?_
 refine sq h (fun h=>?_) fun h=>?_
 ·refine cq 4 [2] [B false] 97 ?_
  obtain rfl:=Option.some.inj h
  exact ai rfl (qp [B false])
 ·refine aq 1 ?_
  refine cq 6 [3] [I (0)] 97 ?_
  obtain⟨y6,hy6,hy61,hy62⟩:=bJ h
  refine bW rfl ?_
  refine rf [1,3] [1] (JZ slf_Ffdg c_1 rfl 0 _ hy6 (fun r' e st hq=>by rw[hy61 r' e] at hq;exact hq) fun u6 hu=>?_)
  replace h:=hy62 u6 hu
  refine cq 4 [2] [B true] 17 ?_
  obtain rfl:=Option.some.inj h
  exact ai rfl (qp [B true])
theorem M8 {G:Go.Ln.Ground}:aH Tryz.prog G 224 yT:=gK fun slf_Ffdg g_Ffdg=>gT 1 0 (aB Qv (aB g_Ffdg bc)) (Checked.mixed Tryz.checked) Tryz.func224 (fun a r h=>RO slf_Ffdg a r h)
def uY:Condition→List V:=oA aP
def vv (r:Int):V×List V:=(I r,[])
noncomputable def ub (slf_Ffdo:Condition→Option Int):Ent:=aO [false] uY vv slf_Ffdo
theorem KX (slf_Ffdo:Condition→Option Int){x}{r}(h:slf_Ffdo x=some r):(ub slf_Ffdo).F (uY x)=some (vv r):=aA (az cb) h
noncomputable def yC:Ent:=ub (aE jE)
theorem Xq {c_1:Condition}{r}(h:ID c_1=some r):yC.F (uY c_1)=some (vv r):=KX (aE jE) h
noncomputable def OL:Code:=ay Tryz.f225
noncomputable def Ix (slf_Ffdo:Condition→Option Int):Env:=bG Tryz.prog [(225,(ub slf_Ffdo))]
def QQ (slf_Ffdo:Condition→Option Int)(x:Condition)(r:Int):St→Prop:=QF (Ix slf_Ffdo) Tryz.f225 [false] (uY x) (vv r)
theorem J2 (slf_Ffdo:Condition→Option Int)(c_1:Condition):cl (Ix slf_Ffdo) 0 (QQ slf_Ffdo c_1) (cL (cL (cR (cL (cR (cR OL)))))) 0 (kh slf_Ffdo c_1) (fun u=>(sT 21 [(3,I u)] [] 1)) fun x2=>(sT 21 [(1,.hp 1 0 [] 4 0 0),(3,I x2.1),(4,I x2.2)] [⟨0,4,[.agg [I c_1.Op,str c_1.Name,I c_1.Day,.isl false (c_1.Parts.map aa)]]⟩] 2):=d5 (wL slf_Ffdo c_1) fun {Q K} hK self ih x2 y h hr hn=>by
 unfold ir at h
 refine cq 6 [5,7] [I x2.2,.isl false (c_1.Parts.map aa)] 50 ?_
 refine oq 66 (I (len c_1.Parts)) rfl (aZ rfl rfl rfl (bg rfl)) ?_
 refine cq 2 [9] [B (decide (x2.2<(len c_1.Parts)))] 82 ?_
 refine sq h (fun h=>?_) fun h=>?_
 ·refine aq 1 ?_
  refine cq 7 [12,14,15] [I x2.1,.isl false (c_1.Parts.map aa),I x2.2] 146 ?_
  obtain⟨e3,he3,h⟩:=bS h
  refine oq 162 (.iptr (.agg [I e3.Op,str e3.Name,I e3.Day,.isl false (e3.Parts.map aa)]) 0) rfl (al rfl rfl rfl (aM rfl rfl (bb e3) rfl he3)) ?_
  refine cq 1 [17] [.agg [I e3.Op,str e3.Name,I e3.Day,.isl false (e3.Parts.map aa)]] 178 ?_
  obtain⟨r4,hr4,h⟩:=bS h
  refine oq 194 (I r4) rfl (bT rfl rfl (ci rfl rfl rfl (bh (bE rfl) cz) (KX slf_Ffdo hr4) (.inr rfl) dA rfl rfl rfl)) ?_
  refine cq 9 [3,4] [I (ar (x2.1+r4)),I (ar (x2.2+1))] 274 ?_
  refine cS ?_
  exact rf [1,3,4] [1] (ih _ _ h hr hn :)
 ·refine aq 1 ?_
  exact rf [3] [] (hn _ (Option.some.inj h).symm :) (hk:=hK)
theorem Tc (slf_Ffdo:Condition→Option Int)(c_1:Condition)(r:Int)(h:rj slf_Ffdo c_1=some r):ba (Ix slf_Ffdo) Tryz.f225 [false] 0 (uY c_1) (vv r):=by
 show Run _ _ (QQ slf_Ffdo c_1 r) [.code OL] _
 refine rI 21 [(0,.agg [I c_1.Op,str c_1.Name,I c_1.Day,.isl false (c_1.Parts.map aa)])] [] 1 ?_
 unfold rj at h
 refine ck 15 [1,3,4] [] [1] [] [.hp 1 0 [] 4 0 0,I (1),I (0)] [some ⟨0,4,[.agg [I c_1.Op,str c_1.Name,I c_1.Day,.isl false (c_1.Parts.map aa)]]⟩] 65 (by kernel_rfl) ?_
 obtain⟨y5,hy5,hy51,hy52⟩:=bJ h
 refine bW rfl ?_
 refine rf [1,3,4] [1] (J2 slf_Ffdo c_1 rfl (1,0) _ hy5 (fun r' e st hq=>by rw[hy51 r' e] at hq;exact hq) fun u5 hu=>?_)
 replace h:=hy52 u5 hu
 refine cq 5 [2] [I u5] 33 ?_
 obtain rfl:=Option.some.inj h
 exact ai rfl (qp [I u5])
theorem Nm {G:Go.Ln.Ground}:aH Tryz.prog G 225 yC:=gK fun slf_Ffdo g_Ffdo=>gT 1 0 (aB g_Ffdo bc) (Checked.mixed Tryz.checked) Tryz.func225 (fun a r h=>Tc slf_Ffdo a r h)
def A9:Condition→List V:=oA aP
def B1 (r:Bool):V×List V:=(B r,[])
noncomputable def xC:Ent:=aO [false] A9 B1 fun x=>xL x
theorem Xg {c_1:Condition}{r}(h:xL c_1=some r):xC.F (A9 c_1)=some (B1 r):=aA (az cb) h
noncomputable def M3:Code:=ay Tryz.f194
noncomputable def Hs:Env:=bG Tryz.prog [(224,yT),(225,yC)]
def Ej (x:Condition)(r:Bool):St→Prop:=QF Hs Tryz.f194 [false] (A9 x) (B1 r)
theorem S7 (c_1:Condition)(r:Bool)(h:xL c_1=some r):ba Hs Tryz.f194 [false] 0 (A9 c_1) (B1 r):=by
 show Run _ _ (Ej c_1 r) [.code M3] _
 refine rI 10 [(0,.agg [I c_1.Op,str c_1.Name,I c_1.Day,.isl false (c_1.Parts.map aa)])] [] 1 ?_
 unfold xL at h
 refine ck 8 [1,3] [] [1] [] [.hp 1 0 [] 4 0 0,.agg [I c_1.Op,str c_1.Name,I c_1.Day,.isl false (c_1.Parts.map aa)]] [some ⟨0,4,[.agg [I c_1.Op,str c_1.Name,I c_1.Day,.isl false (c_1.Parts.map aa)]]⟩] 49 (by kernel_rfl) ?_
 obtain⟨r2,hr2,h⟩:=bS h
 refine oq 65 (B r2) rfl (cP (WW hr2)) ?_
 refine cq 1 [5] [B r2] 81 ?_
 obtain⟨y3,hy3,hy31,hy32⟩:=bJ h
 have j3:∀u3,y3=.inr u3→Run Hs 0 (Ej c_1 r) (.code (cR (cR M3))::[]) (sT 10 [(2,B u3)] [] 1):=by
  intro u3 hu
  replace h:=hy32 u3 hu
  obtain rfl:=Option.some.inj h
  exact ai rfl (qp [B u3])
 have r3:∀r',y3=.inl r'→∀st,Ej c_1 r' st→(Ej c_1 r) st:=fun r' e st hq=>by rw[hy31 r' e] at hq;exact hq
 replace h:=hy3
 refine sp 5 h rfl (fun h=>?_) fun h=>?_
 ·refine cq 1 [6] [.agg [I c_1.Op,str c_1.Name,I c_1.Day,.isl false (c_1.Parts.map aa)]] 97 ?_
  obtain⟨r4,hr4,h⟩:=bS h
  refine oy 113 (I r4) rfl (cP (Xq hr4)) ?_
  refine cq 4 [2] [B (decide (r4≤15))] 161 ?_
  exact rf [2] [] (j3 _ (Option.some.inj h).symm :)
 ·refine cq 6 [2] [B false] 161 ?_
  exact rf [2] [] (j3 _ (Option.some.inj h).symm :)
theorem OQ {G:Go.Ln.Ground}:aH Tryz.prog G 194 xC:=gT 1 0 (aB M8 (aB Nm bc)) (Checked.mixed Tryz.checked) Tryz.func194 (fun a r h=>S7 a r h)
def Bg:(Contract×Int)→List V:=cA aG (oA I)
def B9 (r:Bool):V×List V:=(B r,[])
noncomputable def yB:Ent:=aO [false,false] Bg B9 fun x=>xJ x.1 x.2
theorem Nq {c_1:Contract}{i_2:Int}{r}(h:xJ c_1 i_2=some r):yB.F (Bg (c_1,i_2))=some (B9 r):=aA (aU aQ (az bA)) h
noncomputable def I8:Code:=ay Tryz.f141
noncomputable abbrev ld:Code:=cR (cR (cR (cR I8)))
noncomputable abbrev oL:Code:=cR (cL (cR (cR (cR I8))))
noncomputable abbrev rM:Code:=cR ld
noncomputable abbrev vO:Code:=cR (cL ld)
noncomputable abbrev E7:Code:=cR (cR (cR rM))
noncomputable def gj:Env:=bG Tryz.prog [(157,mL),(73,ef),(140,sA),(194,xC)]
def cU (x:Contract×Int)(r:Bool):St→Prop:=QF gj Tryz.f141 [false,false] (Bg x) (B9 r)
theorem Tz (c_1:Contract)(i_2:Int)(r:Bool)(h:xJ c_1 i_2=some r):ba gj Tryz.f141 [false,false] 0 (Bg (c_1,i_2)) (B9 r):=by
 show Run _ _ (cU (c_1,i_2) r) [.code I8] _
 refine rI 114 [(0,.agg [.isl false (c_1.Parties.map str),.isl false (c_1.Clauses.map ac)]),(1,I i_2)] [] 1 ?_
 unfold xJ at h
 refine ck 10 [2,9,10] [] [1] [] [.hp 1 0 [] 2 0 0,.isl false (c_1.Clauses.map ac),I i_2] [some ⟨0,2,[.agg [.isl false (c_1.Parties.map str),.isl false (c_1.Clauses.map ac)]]⟩] 81 (by kernel_rfl) ?_
 obtain⟨e3,he3,h⟩:=bS h
 refine oq 97 (.iptr (.agg [str e3.Id,I e3.Kind,I e3.Party,str e3.Action,I e3.Other,I e3.Amount,I e3.When.Op,str e3.When.Name,I e3.When.Day,.isl false (e3.When.Parts.map aa),I e3.Within,str e3.Repair]) 0) rfl (al rfl rfl rfl (aM rfl rfl rfl rfl he3)) ?_
 refine ck 2 [5,12] [] [113] [] [.hp 113 0 [] 12 0 0,.agg [str e3.Id,I e3.Kind,I e3.Party,str e3.Action,I e3.Other,I e3.Amount,I e3.When.Op,str e3.When.Name,I e3.When.Day,.isl false (e3.When.Parts.map aa),I e3.Within,str e3.Repair]] [some ⟨0,12,[.agg [str ([]),I (0),I (0),str ([]),I (0),I (0),I (0),str ([]),I (0),.isl true [],I (0),str ([])]]⟩] 129 (by kernel_rfl) ?_
 refine eb 113 [.agg [str ([]),I (0),I (0),str ([]),I (0),I (0),I (0),str ([]),I (0),.usl 4 (([]).map ap),I (0),str ([])]] rfl rfl (au (eU (au (.refl _) (au (.refl _) (au (.refl _) (au (.refl _) (au (.refl _) (au (.refl _) (au (.refl _) (au (.refl _) (au (.refl _) (au (.nil _) (au (.refl _) (au (.refl _) dm))))))))))))) dm) ?_
 refine ck 6 [14] [] [113] [] [.isl false (c_1.Parties.map str)] [some ⟨2,12,[.agg [str e3.Id,I e3.Kind,I e3.Party,str e3.Action,I e3.Other,I e3.Amount,I e3.When.Op,str e3.When.Name,I e3.When.Day,.isl false (e3.When.Parts.map aa),I e3.Within,str e3.Repair]]⟩] 177 (by kernel_rfl) ?_
 refine oq 193 (I (len c_1.Parties)) rfl (aZ rfl rfl rfl (bg rfl)) ?_
 refine cq 7 [6,17] [I (len c_1.Parties),str e3.Id] 241 ?_
 obtain⟨r4,hr4,h⟩:=bS h
 refine oq 257 (B r4) rfl (cP (pt hr4)) ?_
 refine cq 2 [20] [B (!r4)] 289 ?_
 obtain⟨y5,hy5,hy51,hy52⟩:=bJ h
 have j5:∀u5,y5=.inr u5→Run gj 0 (cU (c_1,i_2) r) (.code oL::.code ld::[]) (sT 114 [(1,I i_2),(2,.hp 1 0 [] 2 0 0),(5,.hp 2 0 [] 12 0 0),(60,B u5)] [⟨0,2,[.agg [.isl false (c_1.Parties.map str),.isl false (c_1.Clauses.map ac)]]⟩,⟨0,12,[.agg [str e3.Id,I e3.Kind,I e3.Party,str e3.Action,I e3.Other,I e3.Amount,I e3.When.Op,str e3.When.Name,I e3.When.Day,.isl false (e3.When.Parts.map aa),I e3.Within,str e3.Repair]]⟩] 3):=by
  intro u5 hu
  replace h:=hy52 u5 hu
  refine sq h (fun h=>?_) fun h=>?_
  ·refine cq 4 [4] [B false] 19 ?_
   obtain rfl:=Option.some.inj h
   exact ai rfl (qp [B false])
  ·refine aq 1 ?_
   refine cq 5 [62] [I e3.Amount] 35 ?_
   obtain⟨r6,hr6,h⟩:=bS h
   refine oq 51 (B r6) rfl (cP (cV hr6)) ?_
   refine cq 2 [65] [B (!r6)] 83 ?_
   obtain⟨y7,hy7,hy71,hy72⟩:=bJ h
   have j7:∀u7,y7=.inr u7→Run gj 0 (cU (c_1,i_2) r) (.code vO::.code rM::[]) (sT 114 [(1,I i_2),(2,.hp 1 0 [] 2 0 0),(5,.hp 2 0 [] 12 0 0),(85,B u7)] [⟨0,2,[.agg [.isl false (c_1.Parties.map str),.isl false (c_1.Clauses.map ac)]]⟩,⟨0,12,[.agg [str e3.Id,I e3.Kind,I e3.Party,str e3.Action,I e3.Other,I e3.Amount,I e3.When.Op,str e3.When.Name,I e3.When.Day,.isl false (e3.When.Parts.map aa),I e3.Within,str e3.Repair]]⟩] 3):=by
    intro u7 hu
    replace h:=hy72 u7 hu
    refine sq h (fun h=>?_) fun h=>?_
    ·refine cq 4 [4] [B false] 19 ?_
     obtain rfl:=Option.some.inj h
     exact ai rfl (qp [B false])
    ·refine aq 1 ?_
     refine cq 7 [88] [B (e3.Repair==([]:ah))] 51 ?_
     refine sq h (fun h=>?_) fun h=>?_
     ·refine cq 4 [4] [B true] 67 ?_
      obtain rfl:=Option.some.inj h
      exact ai rfl (qp [B true])
     ·refine aq 1 ?_
      refine cq 5 [89,91] [.agg [.isl false (c_1.Parties.map str),.isl false (c_1.Clauses.map ac)],str e3.Repair] 99 ?_
      obtain⟨r8,hr8,h⟩:=bS h
      refine oq 115 (I r8) rfl (cP (Ik hr8)) ?_
      refine cq 7 [7,95] [I r8,B (decide (r8≥0))] 179 ?_
      obtain⟨y9,hy9,hy91,hy92⟩:=bJ h
      have j9:∀u9,y9=.inr u9→Run gj 0 (cU (c_1,i_2) r) (.code E7::[]) (sT 114 [(4,B u9)] [] 1):=by
       intro u9 hu
       replace h:=hy92 u9 hu
       obtain rfl:=Option.some.inj h
       exact ai rfl (qp [B u9])
      have r9:∀r',y9=.inl r'→∀st,cU (c_1,i_2) r' st→(cU (c_1,i_2) r) st:=fun r' e st hq=>by rw[hy91 r' e] at hq;exact hq
      replace h:=hy9
      refine sp 95 h rfl (fun h=>?_) fun h=>?_
      ·refine cq 5 [100] [B (r8 != i_2)] 259 ?_
       obtain⟨y10,hy10,hy101,hy102⟩:=bL h
       have j10:∀u10,y10=.inr u10→Run gj 0 (cU (c_1,i_2) r) (.code E7::[]) (sT 114 [(4,B u10)] [] 1):=by
        intro u10 hu
        replace h:=hy102 u10 hu
        exact rf [4] [] (j9 _ (Option.some.inj h).symm :)
       have r10:∀r',y10=.inl r'→∀st,cU (c_1,i_2) r' st→(cU (c_1,i_2) r) st:=fun r' e st hq=>r9 r' (hy101 r' e) st hq
       replace h:=hy10
       refine sp 100 h rfl (fun h=>?_) fun h=>?_
       ·refine cq 3 [102,103] [.isl false (c_1.Clauses.map ac),I r8] 307 ?_
        obtain⟨e11,he11,h⟩:=bS h
        refine oy 323 (.iptr (.agg [str e11.Id,I e11.Kind,I e11.Party,str e11.Action,I e11.Other,I e11.Amount,I e11.When.Op,str e11.When.Name,I e11.When.Day,.isl false (e11.When.Parts.map aa),I e11.Within,str e11.Repair]) 0) rfl (al rfl rfl rfl (aM rfl rfl rfl rfl he11)) ?_
        refine cq 5 [109] [B (e11.Kind==1)] 403 ?_
        obtain⟨u12,hu12,h⟩:=lJ h
        have j12:Run gj 0 (cU (c_1,i_2) r) (.code E7::[]) (sT 114 [(4,B u12)] [] 1):=by
         exact rf [4] [] (j10 _ (Option.some.inj h).symm :)
        replace h:=hu12
        clear hu12
        refine sp 109 h rfl (fun h=>?_) fun h=>?_
        ·refine cq 6 [4] [B (e3.Kind != 3)] 483 ?_
         subst h
         exact rf [4] [] (j12 :)
        ·refine cq 6 [4] [B false] 483 ?_
         subst h
         exact rf [4] [] (j12 :)
       ·refine cq 15 [4] [B false] 483 ?_
        exact rf [4] [] (j10 _ (Option.some.inj h).symm :)
      ·refine cq 20 [4] [B false] 483 ?_
       exact rf [4] [] (j9 _ (Option.some.inj h).symm :)
   have r7:∀r',y7=.inl r'→∀st,cU (c_1,i_2) r' st→(cU (c_1,i_2) r) st:=fun r' e st hq=>by rw[hy71 r' e] at hq;exact hq
   replace h:=hy7
   refine sp 65 h rfl (fun h=>?_) fun h=>?_
   ·refine cq 21 [85] [B true] 403 ?_
    exact rf [1,2,5,85] [1,2] (j7 _ (Option.some.inj h).symm :)
   ·refine cq 2 [67] [I e3.Within] 115 ?_
    obtain⟨r13,hr13,h⟩:=bS h
    refine oy 131 (B r13) rfl (cP (cV hr13)) ?_
    refine cq 3 [71] [B (!r13)] 179 ?_
    obtain⟨u14,hu14,h⟩:=lJ h
    have j14:Run gj 0 (cU (c_1,i_2) r) (.code vO::.code rM::[]) (sT 114 [(1,I i_2),(2,.hp 1 0 [] 2 0 0),(5,.hp 2 0 [] 12 0 0),(85,B u14)] [⟨0,2,[.agg [.isl false (c_1.Parties.map str),.isl false (c_1.Clauses.map ac)]]⟩,⟨0,12,[.agg [str e3.Id,I e3.Kind,I e3.Party,str e3.Action,I e3.Other,I e3.Amount,I e3.When.Op,str e3.When.Name,I e3.When.Day,.isl false (e3.When.Parts.map aa),I e3.Within,str e3.Repair]]⟩] 3):=by
     exact rf [1,2,5,85] [1,2] (j7 _ (Option.some.inj h).symm :)
    replace h:=hu14
    clear hu14
    refine sp 71 h rfl (fun h=>?_) fun h=>?_
    ·refine cq 15 [85] [B true] 403 ?_
     subst h
     exact rf [1,2,5,85] [1,2] (j14 :)
    ·refine cq 4 [75] [B (e3.Kind != 1)] 243 ?_
     obtain⟨u15,hu15,h⟩:=lJ h
     have j15:Run gj 0 (cU (c_1,i_2) r) (.code vO::.code rM::[]) (sT 114 [(1,I i_2),(2,.hp 1 0 [] 2 0 0),(5,.hp 2 0 [] 12 0 0),(85,B u15)] [⟨0,2,[.agg [.isl false (c_1.Parties.map str),.isl false (c_1.Clauses.map ac)]]⟩,⟨0,12,[.agg [str e3.Id,I e3.Kind,I e3.Party,str e3.Action,I e3.Other,I e3.Amount,I e3.When.Op,str e3.When.Name,I e3.When.Day,.isl false (e3.When.Parts.map aa),I e3.Within,str e3.Repair]]⟩] 3):=by
      subst h
      exact rf [1,2,5,85] [1,2] (j14 :)
     replace h:=hu15
     clear hu15
     refine sp 75 h rfl (fun h=>?_) fun h=>?_
     ·refine cq 4 [79] [B (e3.Amount != 0)] 307 ?_
      obtain⟨u16,hu16,h⟩:=lJ h
      have j16:Run gj 0 (cU (c_1,i_2) r) (.code vO::.code rM::[]) (sT 114 [(1,I i_2),(2,.hp 1 0 [] 2 0 0),(5,.hp 2 0 [] 12 0 0),(85,B u16)] [⟨0,2,[.agg [.isl false (c_1.Parties.map str),.isl false (c_1.Clauses.map ac)]]⟩,⟨0,12,[.agg [str e3.Id,I e3.Kind,I e3.Party,str e3.Action,I e3.Other,I e3.Amount,I e3.When.Op,str e3.When.Name,I e3.When.Day,.isl false (e3.When.Parts.map aa),I e3.Within,str e3.Repair]]⟩] 3):=by
       subst h
       exact rf [1,2,5,85] [1,2] (j15 :)
      replace h:=hu16
      clear hu16
      refine sp 79 h rfl (fun h=>?_) fun h=>?_
      ·refine cq 7 [85] [B true] 403 ?_
       subst h
       exact rf [1,2,5,85] [1,2] (j16 :)
      ·refine cq 7 [85] [B (e3.Within != 0)] 403 ?_
       subst h
       exact rf [1,2,5,85] [1,2] (j16 :)
     ·refine cq 11 [85] [B false] 403 ?_
      subst h
      exact rf [1,2,5,85] [1,2] (j15 :)
 have r5:∀r',y5=.inl r'→∀st,cU (c_1,i_2) r' st→(cU (c_1,i_2) r) st:=fun r' e st hq=>by rw[hy51 r' e] at hq;exact hq
 replace h:=hy5
 refine sp 20 h rfl (fun h=>?_) fun h=>?_
 ·refine cq 41 [60] [B true] 929 ?_
  exact rf [1,2,5,60] [1,113] (j5 _ (Option.some.inj h).symm :)
 ·refine cq 2 [22] [str e3.Action] 321 ?_
  obtain⟨r17,hr17,h⟩:=bS h
  refine oy 337 (B r17) rfl (cP (pt hr17)) ?_
  refine cq 3 [26] [B (!r17)] 385 ?_
  obtain⟨y18,hy18,hy181,hy182⟩:=bL h
  have j18:∀u18,y18=.inr u18→Run gj 0 (cU (c_1,i_2) r) (.code oL::.code ld::[]) (sT 114 [(1,I i_2),(2,.hp 1 0 [] 2 0 0),(5,.hp 2 0 [] 12 0 0),(60,B u18)] [⟨0,2,[.agg [.isl false (c_1.Parties.map str),.isl false (c_1.Clauses.map ac)]]⟩,⟨0,12,[.agg [str e3.Id,I e3.Kind,I e3.Party,str e3.Action,I e3.Other,I e3.Amount,I e3.When.Op,str e3.When.Name,I e3.When.Day,.isl false (e3.When.Parts.map aa),I e3.Within,str e3.Repair]]⟩] 3):=by
   intro u18 hu
   replace h:=hy182 u18 hu
   exact rf [1,2,5,60] [1,2] (j5 _ (Option.some.inj h).symm :)
  have r18:∀r',y18=.inl r'→∀st,cU (c_1,i_2) r' st→(cU (c_1,i_2) r) st:=fun r' e st hq=>r5 r' (hy181 r' e) st hq
  replace h:=hy18
  refine sp 26 h rfl (fun h=>?_) fun h=>?_
  ·refine cq 35 [60] [B true] 929 ?_
   exact rf [1,2,5,60] [1,113] (j18 _ (Option.some.inj h).symm :)
  ·refine cq 2 [28] [I e3.Kind] 417 ?_
   obtain⟨r19,hr19,h⟩:=bS h
   refine oy 433 (B r19) rfl (cP (cV hr19)) ?_
   refine cq 3 [32] [B (!r19)] 481 ?_
   obtain⟨y20,hy20,hy201,hy202⟩:=bL h
   have j20:∀u20,y20=.inr u20→Run gj 0 (cU (c_1,i_2) r) (.code oL::.code ld::[]) (sT 114 [(1,I i_2),(2,.hp 1 0 [] 2 0 0),(5,.hp 2 0 [] 12 0 0),(60,B u20)] [⟨0,2,[.agg [.isl false (c_1.Parties.map str),.isl false (c_1.Clauses.map ac)]]⟩,⟨0,12,[.agg [str e3.Id,I e3.Kind,I e3.Party,str e3.Action,I e3.Other,I e3.Amount,I e3.When.Op,str e3.When.Name,I e3.When.Day,.isl false (e3.When.Parts.map aa),I e3.Within,str e3.Repair]]⟩] 3):=by
    intro u20 hu
    replace h:=hy202 u20 hu
    exact rf [1,2,5,60] [1,2] (j18 _ (Option.some.inj h).symm :)
   have r20:∀r',y20=.inl r'→∀st,cU (c_1,i_2) r' st→(cU (c_1,i_2) r) st:=fun r' e st hq=>r18 r' (hy201 r' e) st hq
   replace h:=hy20
   refine sp 32 h rfl (fun h=>?_) fun h=>?_
   ·refine cq 29 [60] [B true] 929 ?_
    exact rf [1,2,5,60] [1,113] (j20 _ (Option.some.inj h).symm :)
   ·refine cq 4 [34,36] [I e3.Party,I (ar ((len c_1.Parties) - 1))] 545 ?_
    obtain⟨r21,hr21,h⟩:=bS h
    refine oy 561 (B r21) rfl (cP (cV hr21)) ?_
    refine cq 3 [40] [B (!r21)] 609 ?_
    obtain⟨y22,hy22,hy221,hy222⟩:=bL h
    have j22:∀u22,y22=.inr u22→Run gj 0 (cU (c_1,i_2) r) (.code oL::.code ld::[]) (sT 114 [(1,I i_2),(2,.hp 1 0 [] 2 0 0),(5,.hp 2 0 [] 12 0 0),(60,B u22)] [⟨0,2,[.agg [.isl false (c_1.Parties.map str),.isl false (c_1.Clauses.map ac)]]⟩,⟨0,12,[.agg [str e3.Id,I e3.Kind,I e3.Party,str e3.Action,I e3.Other,I e3.Amount,I e3.When.Op,str e3.When.Name,I e3.When.Day,.isl false (e3.When.Parts.map aa),I e3.Within,str e3.Repair]]⟩] 3):=by
     intro u22 hu
     replace h:=hy222 u22 hu
     exact rf [1,2,5,60] [1,2] (j20 _ (Option.some.inj h).symm :)
    have r22:∀r',y22=.inl r'→∀st,cU (c_1,i_2) r' st→(cU (c_1,i_2) r) st:=fun r' e st hq=>r20 r' (hy221 r' e) st hq
    replace h:=hy22
    refine sp 40 h rfl (fun h=>?_) fun h=>?_
    ·refine cq 21 [60] [B true] 929 ?_
     exact rf [1,2,5,60] [1,113] (j22 _ (Option.some.inj h).symm :)
    ·refine cq 4 [42,44] [I e3.Other,I (ar ((len c_1.Parties) - 1))] 673 ?_
     obtain⟨r23,hr23,h⟩:=bS h
     refine oy 689 (B r23) rfl (cP (cV hr23)) ?_
     refine cq 3 [48] [B (!r23)] 737 ?_
     obtain⟨y24,hy24,hy241,hy242⟩:=bL h
     have j24:∀u24,y24=.inr u24→Run gj 0 (cU (c_1,i_2) r) (.code oL::.code ld::[]) (sT 114 [(1,I i_2),(2,.hp 1 0 [] 2 0 0),(5,.hp 2 0 [] 12 0 0),(60,B u24)] [⟨0,2,[.agg [.isl false (c_1.Parties.map str),.isl false (c_1.Clauses.map ac)]]⟩,⟨0,12,[.agg [str e3.Id,I e3.Kind,I e3.Party,str e3.Action,I e3.Other,I e3.Amount,I e3.When.Op,str e3.When.Name,I e3.When.Day,.isl false (e3.When.Parts.map aa),I e3.Within,str e3.Repair]]⟩] 3):=by
      intro u24 hu
      replace h:=hy242 u24 hu
      exact rf [1,2,5,60] [1,2] (j22 _ (Option.some.inj h).symm :)
     have r24:∀r',y24=.inl r'→∀st,cU (c_1,i_2) r' st→(cU (c_1,i_2) r) st:=fun r' e st hq=>r22 r' (hy241 r' e) st hq
     replace h:=hy24
     refine sp 48 h rfl (fun h=>?_) fun h=>?_
     ·refine cq 13 [60] [B true] 929 ?_
      exact rf [1,2,5,60] [1,113] (j24 _ (Option.some.inj h).symm :)
     ·refine cq 7 [55] [B (e3.Party==e3.Other)] 849 ?_
      obtain⟨y25,hy25,hy251,hy252⟩:=bL h
      have j25:∀u25,y25=.inr u25→Run gj 0 (cU (c_1,i_2) r) (.code oL::.code ld::[]) (sT 114 [(1,I i_2),(2,.hp 1 0 [] 2 0 0),(5,.hp 2 0 [] 12 0 0),(60,B u25)] [⟨0,2,[.agg [.isl false (c_1.Parties.map str),.isl false (c_1.Clauses.map ac)]]⟩,⟨0,12,[.agg [str e3.Id,I e3.Kind,I e3.Party,str e3.Action,I e3.Other,I e3.Amount,I e3.When.Op,str e3.When.Name,I e3.When.Day,.isl false (e3.When.Parts.map aa),I e3.Within,str e3.Repair]]⟩] 3):=by
       intro u25 hu
       replace h:=hy252 u25 hu
       exact rf [1,2,5,60] [1,2] (j24 _ (Option.some.inj h).symm :)
      have r25:∀r',y25=.inl r'→∀st,cU (c_1,i_2) r' st→(cU (c_1,i_2) r) st:=fun r' e st hq=>r24 r' (hy251 r' e) st hq
      replace h:=hy25
      refine sp 55 h rfl (fun h=>?_) fun h=>?_
      ·refine cq 6 [60] [B true] 929 ?_
       exact rf [1,2,5,60] [1,113] (j25 _ (Option.some.inj h).symm :)
      ·refine cq 2 [57] [.agg [I e3.When.Op,str e3.When.Name,I e3.When.Day,.isl false (e3.When.Parts.map aa)]] 881 ?_
       obtain⟨r26,hr26,h⟩:=bS h
       refine oy 897 (B r26) rfl (cP (Xg hr26)) ?_
       refine cq 3 [60] [B (!r26)] 929 ?_
       exact rf [1,2,5,60] [1,113] (j25 _ (Option.some.inj h).symm :)
theorem Pc {G:Go.Ln.Ground}:aH Tryz.prog G 141 yB:=gT 2 0 (aB pI (aB eK (aB FY (aB OQ bc)))) (Checked.mixed Tryz.checked) Tryz.func141 (fun a r h=>Tz a.1 a.2 r h)
def BG:((List ah)×ah)→List V:=cA (Ck 1 str) (oA str)
def DC (r:(List ah)):V×List V:=(.usl 1 (r.map str),[.dead])
noncomputable def sR:Ent:=aO [true,false] BG DC fun x=>uz x.1 x.2
theorem I9 {l_8:List ah}{s_9:ah}{r}(h:uz l_8 s_9=some r):sR.F (BG (l_8,s_9))=some (DC r):=aA (aU (oD bf) (az bf)) h
noncomputable def pi:Code:=ay Tryz.f180
noncomputable def uJ:Env:=bG Tryz.prog []
def qS (x:(List ah)×ah)(r:(List ah)):St→Prop:=QF uJ Tryz.f180 [true,false] (BG x) (DC r)
theorem Kj (l_8:List ah)(s_9:ah):cl uJ 1 (qS (l_8,s_9)) (cL (cL (cL (cR (cR pi))))) 0 (rB l_8 s_9) (fun u=>(sO 45 [(0,.hs 2 0 [] 1 0 (u.2.2.map str).length),(1,str u.1),(5,I u.2.1)] [none,some ⟨0,1,u.2.2.map str⟩] 3)) fun x3=>(sO 45 [(0,.hs 2 0 [] 1 0 (l_8.map str).length),(1,str s_9),(5,I x3)] [none,some ⟨0,1,l_8.map str⟩] 3):=d5 (xe l_8 s_9) fun {Q K} hK self ih x3 y h hr hn=>by
 unfold jp at h
 refine cq 5 [6,7] [I x3,.hs 2 0 [] 1 0 (l_8.map str).length] 35 ?_
 refine oq 51 (I (len l_8)) rfl (aZ rfl rfl rfl (vF (f:=str) (xs:=l_8) rfl rfl)) ?_
 refine cq 2 [10] [B (decide (x3<(len l_8)))] 83 ?_
 obtain⟨y4,hy4,hy41,hy42⟩:=bL h
 have j4:∀u4,y4=.inr u4→Run uJ 1 Q (.code (cR (cL (cL (cL (cL (cR (cR pi)))))))::.code (cR (cL (cL (cL (cR (cR pi))))))::.lp (cL (cL (cL (cR (cR pi)))))::.blk 0::K) (sO 45 [(0,.hs 2 0 [] 1 0 (l_8.map str).length),(1,str s_9),(5,I x3),(17,B u4)] [none,some ⟨0,1,l_8.map str⟩] 3):=by
  intro u4 hu
  replace h:=hy42 u4 hu
  refine sq h (fun h=>?_) fun h=>?_
  ·refine aq 1 ?_
   refine cq 7 [5] [I (ar (x3+1))] 51 ?_
   refine cS ?_
   exact rg [0,1,5] [52,2] (ih _ _ h hr hn :)
  ·refine aq 1 ?_
   exact rg [0,1,5] [4,2] (hn _ (Option.some.inj h).symm :) (hk:=hK)
 have r4:∀r',y4=.inl r'→∀st,qS (l_8,s_9) r' st→Q st:=fun r' e st hq=>hr r' (hy41 r' e) st hq
 replace h:=hy4
 refine sp 10 h rfl (fun h=>?_) fun h=>?_
 ·refine cq 2 [11,12] [.hs 2 0 [] 1 0 (l_8.map str).length,I x3] 115 ?_
  obtain⟨e5,he5,h⟩:=bS h
  refine oy 131 (.hp 2 0 [] 1 (0+Int.toNat x3) 0) rfl (al rfl rfl rfl (hY (f:=str) (xs:=l_8) rfl rfl rfl he5)) ?_
  refine oy 147 (str e5) rfl (aL rfl (pG (path:=[]) rfl rfl rfl aN (f9 (f:=str) (xs:=l_8) he5) rfl rfl rfl)) ?_
  refine cq 4 [17] [B (Op.bytesLess e5 s_9)] 195 ?_
  exact rg [0,1,5,17] [196,2] (j4 _ (Option.some.inj h).symm :)
 ·refine cq 8 [17] [B false] 195 ?_
  exact rg [0,1,5,17] [196,2] (j4 _ (Option.some.inj h).symm :)
theorem T5 (l_8:List ah)(s_9:ah)(r:(List ah))(h:uz l_8 s_9=some r):ba uJ Tryz.f180 [true,false] 1 (BG (l_8,s_9)) (DC r):=by
 show Run _ _ (qS (l_8,s_9) r) [.code pi] _
 refine rI 45 [(0,.hs 1 0 [] 1 0 (l_8.map str).length),(1,str s_9)] [(1,some ⟨0,1,l_8.map str⟩)] 2 ?_
 unfold uz at h
 refine cq 10 [5] [I (0)] 34 ?_
 obtain⟨y6,hy6,hy61,hy62⟩:=bJ h
 refine bW rfl ?_
 refine rg [0,1,5] [35,1] (Kj l_8 s_9 rfl 0 _ hy6 (fun r' e st hq=>by rw[hy61 r' e] at hq;exact hq) fun u6 hu=>?_)
 replace h:=hy62 u6 hu
 refine cq 5 [20,21] [I u6.2.1,.hs 2 0 [] 1 0 (u6.2.2.map str).length] 35 ?_
 refine oq 51 (I (len u6.2.2)) rfl (aZ rfl rfl rfl (vF (f:=str) (xs:=u6.2.2) rfl rfl)) ?_
 refine cq 2 [24] [B (decide (u6.2.1<(len u6.2.2)))] 83 ?_
 obtain⟨y7,hy7,hy71,hy72⟩:=bJ h
 have j7:∀u7,y7=.inr u7→Run uJ 1 (qS (l_8,s_9) r) (.code (cR (cL (cR (cR (cR pi)))))::.code (cR (cR (cR (cR pi))))::[]) (sO 45 [(0,.hs 2 0 [] 1 0 (u6.2.2.map str).length),(1,str u6.1),(5,I u6.2.1),(31,B u7)] [none,some ⟨0,1,u6.2.2.map str⟩] 3):=by
  intro u7 hu
  replace h:=hy72 u7 hu
  refine sq h (fun h=>?_) fun h=>?_
  ·refine cq 5 [4] [.hs 2 0 [] 1 0 (u6.2.2.map str).length] 35 ?_
   obtain rfl:=Option.some.inj h
   exact ai rfl ⟨_,fin (vs:=[.hs 2 0 [] 1 0 (u6.2.2.map str).length]) rfl (ez (d7 rfl (cf rfl rfl)) dP) rfl (sV rfl (oh rfl) (d8 eB)),te ey⟩
  ·refine aq 1 ?_
   refine aq 1 ?_
   refine dN [0,0,0,6,15,0,32,127,0,0,768,2047,4095] rfl (by decide +kernel) ?_
   refine dq [] [] (.hs 3 0 [] 1 0 0) rfl (eC rfl (na (f:=I) (xs:=[]) (z:=str ([])) (es:=[]) (ws:=[]) rfl rfl rfl (by decide) rfl (dK rfl) rfl)) ?_
   refine dk 2 [35,34] [I u6.2.1,.hs 2 0 [] 1 0 (u6.2.2.map str).length] ?_
   obtain⟨s8,hs8,h⟩:=bS h
   refine dq [2] [] (.hs 2 0 [] 1 (0+Int.toNat (0)) (Int.toNat u6.2.1 - Int.toNat (0))) rfl (gt rfl rfl rfl rfl (qW (f:=str) (xs:=u6.2.2) rfl rfl rfl rfl rfl hs8)) ?_
   obtain⟨p9,hp9,h⟩:=bS h
   obtain⟨a10,ha10,h⟩:=bS h
   refine dq [3,2] [3] (.hs 67 0 [] 1 0 (a10.map str).length) rfl (js rfl rfl rfl rfl rfl (nH (path:=[]) (es0:=[]) (f:=str) (xs:=([]:List ah)) (ys:=p9) rfl rfl (Lc (path:=[]) (f:=str) (xs:=u6.2.2) rfl rfl aN hp9 kO) rfl rfl rfl rfl rfl (by decide) ix ha10 rfl oV)) ?_ (Gm rfl (G9 (path:=[]) (f:=str) (xs:=u6.2.2) rfl rfl aN kO rfl))
   refine dk 1 [38] [str u6.1] ?_
   refine dq [] [] (.hs 99 0 [] 1 0 1) rfl (eC rfl (na (f:=I) (xs:=[]) (z:=str ([])) (es:=[str u6.1]) (ws:=[str u6.1]) rfl rfl rfl (by decide) rfl (dK rfl) rfl)) ?_
   obtain⟨a11,ha11,h⟩:=bS h
   refine dq [67,99] [67] (.hs 115 0 [] 1 0 (a11.map str).length) rfl (js rfl rfl rfl rfl rfl (nH (path:=[]) (f:=str) (xs:=a10) (ys:=[u6.1]) rfl rfl (EX rfl rfl rfl) rfl rfl rfl aN rfl (by decide) ix ha11 rfl oV)) ?_ (Gm rfl (G9 (path:=[]) (f:=str) (xs:=[u6.1]) rfl rfl aN kO rfl))
   refine dk 2 [42,41] [I u6.2.1,.hs 2 0 [] 1 0 (u6.2.2.map str).length] ?_
   obtain⟨s12,hs12,h⟩:=bS h
   refine dq [2] [] (.hs 2 0 [] 1 (0+Int.toNat u6.2.1) (Int.toNat (len u6.2.2) - Int.toNat u6.2.1)) rfl (gt rfl rfl rfl rfl (qW (f:=str) (xs:=u6.2.2) rfl rfl rfl rfl (SV rfl) hs12)) ?_
   obtain⟨p13,hp13,h⟩:=bS h
   obtain⟨a14,ha14,h⟩:=bS h
   refine dq [115,2] [115] (.hs 179 0 [] 1 0 (a14.map str).length) rfl (js rfl rfl rfl rfl rfl (nH (path:=[]) (f:=str) (xs:=a11) (ys:=p13) rfl rfl (Lc (path:=[]) (f:=str) (xs:=u6.2.2) rfl rfl aN hp13 kO) rfl rfl rfl aN rfl (by decide) ix ha14 rfl oV)) ?_ (Gm rfl (G9 (path:=[]) (f:=str) (xs:=u6.2.2) rfl rfl aN kO rfl))
   refine dk 1 [4] [.hs 179 0 [] 1 0 (a14.map str).length] ?_
   refine de 211 rfl rfl ?_
   obtain rfl:=Option.some.inj h
   exact ai rfl ⟨_,fin (vs:=[.hs 179 0 [] 1 0 (a14.map str).length]) rfl (ez (d7 rfl (cf rfl rfl)) dP) rfl (sV rfl (oh rfl) (d8 eB)),te ey⟩
 have r7:∀r',y7=.inl r'→∀st,qS (l_8,s_9) r' st→(qS (l_8,s_9) r) st:=fun r' e st hq=>by rw[hy71 r' e] at hq;exact hq
 replace h:=hy7
 refine sp 24 h rfl (fun h=>?_) fun h=>?_
 ·refine cq 2 [25,26] [.hs 2 0 [] 1 0 (u6.2.2.map str).length,I u6.2.1] 115 ?_
  obtain⟨e15,he15,h⟩:=bS h
  refine oy 131 (.hp 2 0 [] 1 (0+Int.toNat u6.2.1) 0) rfl (al rfl rfl rfl (hY (f:=str) (xs:=u6.2.2) rfl rfl rfl he15)) ?_
  refine oy 147 (str e15) rfl (aL rfl (pG (path:=[]) rfl rfl rfl aN (f9 (f:=str) (xs:=u6.2.2) he15) rfl rfl rfl)) ?_
  refine cq 4 [31] [B (e15==u6.1)] 195 ?_
  exact rg [0,1,5,31] [196,2] (j7 _ (Option.some.inj h).symm :)
 ·refine cq 8 [31] [B false] 195 ?_
  exact rg [0,1,5,31] [196,2] (j7 _ (Option.some.inj h).symm :)
theorem FD {G:Go.Ln.Ground}:aH Tryz.prog G 180 sR:=gT 2 1 bc (Checked.mixed Tryz.checked) Tryz.func180 (fun a r h=>T5 a.1 a.2 r h)
def va:((List ah)×Condition)→List V:=cA (Ck 1 str) (oA aP)
def tJ (r:(List ah)):V×List V:=(.usl 1 (r.map str),[.dead])
noncomputable def tG (slf_Ffdl:((List ah)×Condition)→Option (List ah)):Ent:=aO [true,false] va tJ slf_Ffdl
theorem Lj (slf_Ffdl:((List ah)×Condition)→Option (List ah)){x}{r}(h:slf_Ffdl x=some r):(tG slf_Ffdl).F (va x)=some (tJ r):=aA (aU (oD bf) (az cb)) h
noncomputable def zJ:Ent:=tG (aE jG)
theorem NB {l_4:List ah}{c_5:Condition}{r}(h:H7 l_4 c_5=some r):zJ.F (va (l_4,c_5))=some (tJ r):=Lj (aE jG) h
noncomputable def Nx:Code:=ay Tryz.f179
noncomputable def Jb (slf_Ffdl:((List ah)×Condition)→Option (List ah)):Env:=bG Tryz.prog [(180,sR),(179,(tG slf_Ffdl))]
def QJ (slf_Ffdl:((List ah)×Condition)→Option (List ah))(x:(List ah)×Condition)(r:(List ah)):St→Prop:=QF (Jb slf_Ffdl) Tryz.f179 [true,false] (va x) (tJ r)
theorem JN (slf_Ffdl:((List ah)×Condition)→Option (List ah))(l_4:List ah)(c_5:Condition):cl (Jb slf_Ffdl) 1 (QJ slf_Ffdl (l_4,c_5)) (cL (cL (cR (cL (cR (cR Nx)))))) 0 (kj slf_Ffdl l_4 c_5) (fun u=>(sO 28 [(0,.hs 2 0 [] 1 0 (u.map str).length)] [none,some ⟨0,1,u.map str⟩] 3)) fun x4=>(sO 28 [(0,.hs 2 0 [] 1 0 (x4.2.map str).length),(3,.hp 3 0 [] 4 0 0),(5,I x4.1)] [none,some ⟨0,1,x4.2.map str⟩,some ⟨0,4,[.agg [I c_5.Op,str c_5.Name,I c_5.Day,.isl false (c_5.Parts.map aa)]]⟩] 4):=d5 (wh slf_Ffdl l_4 c_5) fun {Q K} hK self ih x4 y h hr hn=>by
 unfold ip at h
 refine cq 6 [13,15] [I x4.1,.isl false (c_5.Parts.map aa)] 52 ?_
 refine oq 68 (I (len c_5.Parts)) rfl (aZ rfl rfl rfl (bg rfl)) ?_
 refine cq 2 [17] [B (decide (x4.1<(len c_5.Parts)))] 84 ?_
 refine sq h (fun h=>?_) fun h=>?_
 ·refine aq 1 ?_
  refine cq 7 [20,22,23] [.hs 2 0 [] 1 0 (x4.2.map str).length,.isl false (c_5.Parts.map aa),I x4.1] 148 ?_
  obtain⟨e5,he5,h⟩:=bS h
  refine oq 164 (.iptr (.agg [I e5.Op,str e5.Name,I e5.Day,.isl false (e5.Parts.map aa)]) 0) rfl (al rfl rfl rfl (aM rfl rfl (bb e5) rfl he5)) ?_
  refine cq 1 [25] [.agg [I e5.Op,str e5.Name,I e5.Day,.isl false (e5.Parts.map aa)]] 180 ?_
  obtain⟨r6,hr6,h⟩:=bS h
  refine oq 196 (.hs 180 0 [] 1 0 (r6.map str).length) rfl (bT rfl rfl (ci rfl rfl rfl (tx (pC rfl (kF (path:=[]) rfl rfl aN rfl)) (bh (bE rfl) cz)) (Lj slf_Ffdl hr6) (.inr rfl) (sP rfl rfl rfl ls dA) rfl rfl rfl)) ?_
  refine cq 8 [0,5] [.hs 180 0 [] 1 0 (r6.map str).length,I (ar (x4.1+1))] 260 ?_
  refine cS ?_
  exact rg [0,3,5] [261,180,3] (ih _ _ h hr hn :)
 ·refine aq 1 ?_
  exact rg [0] [85,2] (hn _ (Option.some.inj h).symm :) (hk:=hK)
theorem Rk (slf_Ffdl:((List ah)×Condition)→Option (List ah))(l_4:List ah)(c_5:Condition)(r:(List ah))(h:rc slf_Ffdl l_4 c_5=some r):ba (Jb slf_Ffdl) Tryz.f179 [true,false] 1 (va (l_4,c_5)) (tJ r):=by
 show Run _ _ (QJ slf_Ffdl (l_4,c_5) r) [.code Nx] _
 refine rI 28 [(0,.hs 1 0 [] 1 0 (l_4.map str).length),(1,.agg [I c_5.Op,str c_5.Name,I c_5.Day,.isl false (c_5.Parts.map aa)])] [(1,some ⟨0,1,l_4.map str⟩)] 2 ?_
 unfold rc at h
 refine ck 12 [3,8] [] [2] [] [.hp 2 0 [] 4 0 0,B (c_5.Op==2)] [some ⟨0,4,[.agg [I c_5.Op,str c_5.Name,I c_5.Day,.isl false (c_5.Parts.map aa)]]⟩] 82 (by kernel_rfl) ?_
 refine sq h (fun h=>?_) fun h=>?_
 ·refine cq 5 [9,11] [.hs 1 0 [] 1 0 (l_4.map str).length,str c_5.Name] 130 ?_
  obtain⟨r3,hr3,h⟩:=bS h
  refine oq 146 (.hs 130 0 [] 1 0 (r3.map str).length) rfl (bT rfl rfl (ci rfl rfl rfl (tx (pC rfl (kF (path:=[]) rfl rfl aN rfl)) (bh (bE rfl) cz)) (I9 hr3) (.inr rfl) (sP rfl rfl rfl ls dA) rfl rfl rfl)) ?_
  refine cq 2 [4] [.hs 130 0 [] 1 0 (r3.map str).length] 162 ?_
  obtain rfl:=Option.some.inj h
  exact ai rfl ⟨_,fin (vs:=[.hs 130 0 [] 1 0 (r3.map str).length]) rfl (ez (d7 rfl (cf rfl rfl)) dP) rfl (sV rfl (oh rfl) (d8 eB)),te ey⟩
 ·refine aq 1 ?_
  refine cq 6 [5] [I (0)] 98 ?_
  obtain⟨y7,hy7,hy71,hy72⟩:=bJ h
  refine bW rfl ?_
  refine rg [0,3,5] [99,1,2] (JN slf_Ffdl l_4 c_5 rfl (0,l_4) _ hy7 (fun r' e st hq=>by rw[hy71 r' e] at hq;exact hq) fun u7 hu=>?_)
  replace h:=hy72 u7 hu
  refine cq 5 [4] [.hs 2 0 [] 1 0 (u7.map str).length] 35 ?_
  obtain rfl:=Option.some.inj h
  exact ai rfl ⟨_,fin (vs:=[.hs 2 0 [] 1 0 (u7.map str).length]) rfl (ez (d7 rfl (cf rfl rfl)) dP) rfl (sV rfl (oh rfl) (d8 eB)),te ey⟩
theorem M9 {G:Go.Ln.Ground}:aH Tryz.prog G 179 zJ:=gK fun slf_Ffdl g_Ffdl=>gT 2 1 (aB FD (aB g_Ffdl bc)) (Checked.mixed Tryz.checked) Tryz.func179 (fun a r h=>Rk slf_Ffdl a.1 a.2 r h)
def AH:Contract→List V:=oA aG
def DV (r:(List ah)):V×List V:=(.usl 1 (r.map str),[])
noncomputable def sC:Ent:=aO [false] AH DV fun x=>nL x
theorem Qj {c_1:Contract}{r}(h:nL c_1=some r):sC.F (AH c_1)=some (DV r):=aA (az aQ) h
noncomputable def Q6:Code:=ay Tryz.f116
noncomputable def I3:Env:=bG Tryz.prog [(180,sR),(179,zJ)]
def Pr (x:Contract)(r:(List ah)):St→Prop:=QF I3 Tryz.f116 [false] (AH x) (DV r)
theorem JK (c_1:Contract):cl I3 0 (Pr c_1) (cL (cL (cR (cL (cR (cR Q6)))))) 0 (lC c_1) (fun u=>(sT 29 [(3,.hs 1 0 [] 1 0 (u.map str).length)] [⟨0,1,u.map str⟩] 2)) fun x2=>(sT 29 [(1,.hp 1 0 [] 2 0 0),(3,.hs 2 0 [] 1 0 (x2.2.map str).length),(4,I x2.1)] [⟨0,2,[.agg [.isl false (c_1.Parties.map str),.isl false (c_1.Clauses.map ac)]]⟩,⟨0,1,x2.2.map str⟩] 3):=d5 (xm c_1) fun {Q K} hK self ih x2 y h hr hn=>by
 unfold jD at h
 refine cq 6 [6,8] [I x2.1,.isl false (c_1.Clauses.map ac)] 51 ?_
 refine oq 67 (I (len c_1.Clauses)) rfl (aZ rfl rfl rfl (bg rfl)) ?_
 refine cq 2 [10] [B (decide (x2.1<(len c_1.Clauses)))] 83 ?_
 refine sq h (fun h=>?_) fun h=>?_
 ·refine aq 1 ?_
  refine aq 2 ?_
  refine dN [0,0,2,0,14,30,62,127,0,256,0,1792,3840,7936,16383,32767] rfl (by decide +kernel) ?_
  refine dk 1 [13] [.hs 2 0 [] 1 0 (x2.2.map str).length] ?_
  refine dq [1] [] (.hp 1 0 [] 2 0 1) rfl (ak rfl rfl rfl) ?_
  refine dq [1] [] (.isl false (c_1.Clauses.map ac)) rfl (aL rfl rfl) ?_
  refine dk 1 [16] [I x2.1] ?_
  obtain⟨e3,he3,h⟩:=bS h
  refine dq [] [] (.iptr (.agg [str e3.Id,I e3.Kind,I e3.Party,str e3.Action,I e3.Other,I e3.Amount,I e3.When.Op,str e3.When.Name,I e3.When.Day,.isl false (e3.When.Parts.map aa),I e3.Within,str e3.Repair]) 0) rfl (al rfl rfl rfl (aM rfl rfl rfl rfl he3)) ?_
  refine dq [] [] (.iptr (.agg [str e3.Id,I e3.Kind,I e3.Party,str e3.Action,I e3.Other,I e3.Amount,I e3.When.Op,str e3.When.Name,I e3.When.Day,.isl false (e3.When.Parts.map aa),I e3.Within,str e3.Repair]) 3) rfl (ak rfl rfl rfl) ?_
  refine dq [] [] (str e3.Action) rfl (aL rfl rfl) ?_
  obtain⟨r4,hr4,h⟩:=bS h
  refine dq [2] [2] (.hs 195 0 [] 1 0 (r4.map str).length) rfl (bT rfl rfl (ci rfl rfl rfl (tx (pC rfl (kF (path:=[]) rfl rfl aN rfl)) (bh (bE rfl) cz)) (I9 hr4) (.inr rfl) (sP rfl rfl rfl ls dA) rfl rfl rfl)) ?_ (ct rfl rfl rfl rfl (tx (pC rfl (kF (path:=[]) rfl rfl aN rfl)) (bh (bE rfl) cz)) (I9 hr4) (.inr rfl) rfl)
  refine dq [1] [] (.hp 1 0 [] 2 0 1) rfl (ak rfl rfl rfl) ?_
  refine dq [1] [] (.isl false (c_1.Clauses.map ac)) rfl (aL rfl rfl) ?_
  refine dk 1 [23] [I x2.1] ?_
  obtain⟨e5,he5,h⟩:=bS h
  refine dq [] [] (.iptr (.agg [str e5.Id,I e5.Kind,I e5.Party,str e5.Action,I e5.Other,I e5.Amount,I e5.When.Op,str e5.When.Name,I e5.When.Day,.isl false (e5.When.Parts.map aa),I e5.Within,str e5.Repair]) 0) rfl (al rfl rfl rfl (aM rfl rfl rfl rfl he5)) ?_
  refine dq [] [] (.iptr (.agg [str e5.Id,I e5.Kind,I e5.Party,str e5.Action,I e5.Other,I e5.Amount,I e5.When.Op,str e5.When.Name,I e5.When.Day,.isl false (e5.When.Parts.map aa),I e5.Within,str e5.Repair]) 6) rfl (ak rfl rfl rfl) ?_
  refine dq [] [] (.agg [I e5.When.Op,str e5.When.Name,I e5.When.Day,.isl false (e5.When.Parts.map aa)]) rfl (aL rfl rfl) ?_
  obtain⟨r6,hr6,h⟩:=bS h
  refine dq [195] [195] (.hs 307 0 [] 1 0 (r6.map str).length) rfl (bT rfl rfl (ci rfl rfl rfl (tx (pC rfl (kF (path:=[]) rfl rfl aN rfl)) (bh (bE rfl) cz)) (NB hr6) (.inr rfl) (sP rfl rfl rfl ls dA) rfl rfl rfl)) ?_ (ct rfl rfl rfl rfl (tx (pC rfl (kF (path:=[]) rfl rfl aN rfl)) (bh (bE rfl) cz)) (NB hr6) (.inr rfl) rfl)
  refine dk 1 [3] [.hs 307 0 [] 1 0 (r6.map str).length] ?_
  refine de 339 rfl rfl ?_
  refine cq 6 [4] [I (ar (x2.1+1))] 387 ?_
  refine cS ?_
  exact rf [1,3,4] [1,307] (ih _ _ h hr hn :)
 ·refine aq 1 ?_
  exact rf [3] [2] (hn _ (Option.some.inj h).symm :) (hk:=hK)
theorem Tt (c_1:Contract)(r:(List ah))(h:nL c_1=some r):ba I3 Tryz.f116 [false] 0 (AH c_1) (DV r):=by
 show Run _ _ (Pr c_1 r) [.code Q6] _
 refine rI 29 [(0,.agg [.isl false (c_1.Parties.map str),.isl false (c_1.Clauses.map ac)])] [] 1 ?_
 unfold nL at h
 refine ck 7 [1] [] [1] [] [.hp 1 0 [] 2 0 0] [some ⟨0,2,[.agg [.isl false (c_1.Parties.map str),.isl false (c_1.Clauses.map ac)]]⟩] 33 (by kernel_rfl) ?_
 refine oq 49 (.hs 33 0 [] 1 0 0) rfl (eC rfl (na (f:=I) (xs:=[]) (z:=str ([])) (es:=[]) (ws:=[]) rfl rfl rfl (by decide) rfl (dK rfl) rfl)) ?_
 refine cq 8 [3,4] [.hs 33 0 [] 1 0 0,I (0)] 81 ?_
 obtain⟨y7,hy7,hy71,hy72⟩:=bJ h
 refine bW rfl ?_
 refine rf [1,3,4] [1,33] (JK c_1 rfl (0,[]) _ hy7 (fun r' e st hq=>by rw[hy71 r' e] at hq;exact hq) fun u7 hu=>?_)
 replace h:=hy72 u7 hu
 refine cq 5 [2] [.hs 1 0 [] 1 0 (u7.map str).length] 34 ?_
 obtain rfl:=Option.some.inj h
 exact ai rfl ⟨_,fin (vs:=[.hs 1 0 [] 1 0 (u7.map str).length]) rfl (ez (d7 rfl (cf rfl rfl)) dP) rfl (d8 eB),ey⟩
theorem Fw {G:Go.Ln.Ground}:aH Tryz.prog G 116 sC:=gT 1 0 (aB FD (aB M9 bc)) (Checked.mixed Tryz.checked) Tryz.func116 (fun a r h=>Tt a r h)
def Df:Contract→List V:=oA aG
def CR (r:Bool):V×List V:=(B r,[])
noncomputable def xM:Ent:=aO [false] Df CR fun x=>zw x
theorem Ws {c_1:Contract}{r}(h:zw c_1=some r):xM.F (Df c_1)=some (CR r):=aA (az aQ) h
noncomputable def CH:Code:=ay Tryz.f72
noncomputable abbrev vR:Code:=cL (cL (cR (cL (cR (cR CH)))))
noncomputable def uu:Env:=bG Tryz.prog [(73,ef),(140,sA),(141,yB),(116,sC),(139,yS)]
def qx (x:Contract)(r:Bool):St→Prop:=QF uu Tryz.f72 [false] (Df x) (CR r)
theorem Kl (c_1:Contract):cl uu 0 (qx c_1) vR 0 (ke c_1) (fun u=>(sT 41 [(1,.hp 1 0 [] 2 0 0)] [⟨0,2,[.agg [.isl false (c_1.Parties.map str),.isl false (c_1.Clauses.map ac)]]⟩] 2)) fun x4=>(sT 41 [(1,.hp 1 0 [] 2 0 0),(3,I x4)] [⟨0,2,[.agg [.isl false (c_1.Parties.map str),.isl false (c_1.Clauses.map ac)]]⟩] 2):=d5 (wv c_1) fun {Q K} hK self ih x4 y h hr hn=>by
 unfold jJ at h
 refine cq 6 [14,16] [I x4,.isl false (c_1.Clauses.map ac)] 50 ?_
 refine oq 66 (I (len c_1.Clauses)) rfl (aZ rfl rfl rfl (bg rfl)) ?_
 refine cq 2 [18] [B (decide (x4<(len c_1.Clauses)))] 82 ?_
 refine sq h (fun h=>?_) fun h=>?_
 ·refine aq 1 ?_
  refine aq 3 ?_
  refine dN [0,0,2,0,14,30,62,127,0,511,1023,2047,2047,8191,16383,32767] rfl (by decide +kernel) ?_
  refine dq [1] [] (.agg [.isl false (c_1.Parties.map str),.isl false (c_1.Clauses.map ac)]) rfl (aL rfl rfl) ?_
  refine dq [1] [] (.hp 1 0 [] 2 0 1) rfl (ak rfl rfl rfl) ?_
  refine dq [1] [] (.isl false (c_1.Clauses.map ac)) rfl (aL rfl rfl) ?_
  refine dk 1 [24] [I x4] ?_
  obtain⟨e5,he5,h⟩:=bS h
  refine dq [] [] (.iptr (.agg [str e5.Id,I e5.Kind,I e5.Party,str e5.Action,I e5.Other,I e5.Amount,I e5.When.Op,str e5.When.Name,I e5.When.Day,.isl false (e5.When.Parts.map aa),I e5.Within,str e5.Repair]) 0) rfl (al rfl rfl rfl (aM rfl rfl rfl rfl he5)) ?_
  refine dq [] [] (.iptr (.agg [str e5.Id,I e5.Kind,I e5.Party,str e5.Action,I e5.Other,I e5.Amount,I e5.When.Op,str e5.When.Name,I e5.When.Day,.isl false (e5.When.Parts.map aa),I e5.Within,str e5.Repair]) 0) rfl (ak rfl rfl rfl) ?_
  refine dq [] [] (str e5.Id) rfl (aL rfl rfl) ?_
  obtain⟨r6,hr6,h⟩:=bS h
  refine dq [] [] (I r6) rfl (cP (Ik hr6)) ?_ (ct rfl rfl rfl rfl (bh (bE rfl) (bh (bE rfl) cz)) (Ik hr6) (.inr rfl) rfl)
  refine dk 3 [31,30,29] [B (r6 != x4),B (r6 != x4),I x4] ?_
  obtain⟨y7,hy7,hy71,hy72⟩:=bL h
  have j7:∀u7,y7=.inr u7→Run uu 0 Q (.code (cR (cL (cL (cR vR))))::.blk 1::.code (cR (cR vR))::.lp vR::.blk 0::K) (sT 41 [(1,.hp 1 0 [] 2 0 0),(3,I x4),(36,B u7)] [⟨0,2,[.agg [.isl false (c_1.Parties.map str),.isl false (c_1.Clauses.map ac)]]⟩] 2):=by
   intro u7 hu
   replace h:=hy72 u7 hu
   refine sq h (fun h=>?_) fun h=>?_
   ·refine cq 4 [2] [B false] 18 ?_
    exact ai rfl (hr _ (Option.some.inj h).symm _ (qp [B false]))
   ·refine aq 1 ?_
    refine cq 6 [3] [I (ar (x4+1))] 50 ?_
    refine cS ?_
    exact rf [1,3] [1] (ih _ _ h hr hn :)
  have r7:∀r',y7=.inl r'→∀st,qx c_1 r' st→Q st:=fun r' e st hq=>hr r' (hy71 r' e) st hq
  replace h:=hy7
  refine sp 31 h rfl (fun h=>?_) fun h=>?_
  ·refine dk 5 [36,35,34,33,32] [B true,.und,.und,.und,.und] ?_
   refine de 338 rfl rfl ?_
   exact rf [1,3,36] [1] (j7 _ (Option.some.inj h).symm :)
  ·refine dy [1] [] (.agg [.isl false (c_1.Parties.map str),.isl false (c_1.Clauses.map ac)]) rfl (aL rfl rfl) ?_
   refine dk 1 [33] [I x4] ?_
   obtain⟨r8,hr8,h⟩:=bS h
   refine dy [] [] (B r8) rfl (cP (Nq hr8)) ?_ (ct rfl rfl rfl rfl (bh (bE rfl) (bh (bE rfl) cz)) (Nq hr8) (.inr rfl) rfl)
   refine dk 2 [36,35] [B (!r8),B (!r8)] ?_
   refine de 338 rfl rfl ?_
   exact rf [1,3,36] [1] (j7 _ (Option.some.inj h).symm :)
 ·refine aq 1 ?_
  exact rf [1] [1] (hn _ (Option.some.inj h).symm :) (hk:=hK)
theorem Tl (c_1:Contract)(r:Bool)(h:zw c_1=some r):ba uu Tryz.f72 [false] 0 (Df c_1) (CR r):=by
 show Run _ _ (qx c_1 r) [.code CH] _
 refine rI 41 [(0,.agg [.isl false (c_1.Parties.map str),.isl false (c_1.Clauses.map ac)])] [] 1 ?_
 unfold zw at h
 refine ck 10 [1,5] [] [1] [] [.hp 1 0 [] 2 0 0,.isl false (c_1.Clauses.map ac)] [some ⟨0,2,[.agg [.isl false (c_1.Parties.map str),.isl false (c_1.Clauses.map ac)]]⟩] 65 (by kernel_rfl) ?_
 refine oq 81 (I (len c_1.Clauses)) rfl (aZ rfl rfl rfl (bg rfl)) ?_
 obtain⟨r2,hr2,h⟩:=bS h
 refine oq 97 (B r2) rfl (cP (cV hr2)) ?_
 refine cq 2 [9] [B (!r2)] 129 ?_
 obtain⟨y3,hy3,hy31,hy32⟩:=bJ h
 have j3:∀u3,y3=.inr u3→Run uu 0 (qx c_1 r) (.code (cR (cL (cR CH)))::.code (cR (cR CH))::[]) (sT 41 [(1,.hp 1 0 [] 2 0 0),(13,B u3)] [⟨0,2,[.agg [.isl false (c_1.Parties.map str),.isl false (c_1.Clauses.map ac)]]⟩] 2):=by
  intro u3 hu
  replace h:=hy32 u3 hu
  refine sq h (fun h=>?_) fun h=>?_
  ·refine cq 4 [2] [B false] 18 ?_
   obtain rfl:=Option.some.inj h
   exact ai rfl (qp [B false])
  ·refine aq 1 ?_
   refine cq 6 [3] [I (0)] 18 ?_
   obtain⟨y9,hy9,hy91,hy92⟩:=bJ h
   refine bW rfl ?_
   refine rf [1,3] [1] (Kl c_1 rfl 0 _ hy9 (fun r' e st hq=>by rw[hy91 r' e] at hq;exact hq) fun u9 hu=>?_)
   replace h:=hy92 u9 hu
   refine cq 3 [37] [.agg [.isl false (c_1.Parties.map str),.isl false (c_1.Clauses.map ac)]] 18 ?_
   obtain⟨r10,hr10,h⟩:=bS h
   refine oq 34 (.hs 18 0 [] 1 0 (r10.map str).length) rfl (cP (Qj hr10)) ?_
   refine oq 50 (I (len r10)) rfl (aZ rfl rfl rfl (vF (f:=str) (xs:=r10) rfl rfl)) ?_
   refine cq 3 [2] [B (decide ((len r10)≤16))] 82 ?_
   obtain rfl:=Option.some.inj h
   exact ai rfl (qp [B (decide ((len r10)≤16))])
 have r3:∀r',y3=.inl r'→∀st,qx c_1 r' st→(qx c_1 r) st:=fun r' e st hq=>by rw[hy31 r' e] at hq;exact hq
 replace h:=hy3
 refine sp 9 h rfl (fun h=>?_) fun h=>?_
 ·refine cq 5 [13] [B true] 193 ?_
  exact rf [1,13] [1] (j3 _ (Option.some.inj h).symm :)
 ·refine cq 1 [10] [.agg [.isl false (c_1.Parties.map str),.isl false (c_1.Clauses.map ac)]] 145 ?_
  obtain⟨r11,hr11,h⟩:=bS h
  refine oy 161 (B r11) rfl (cP (Yx hr11)) ?_
  refine cq 3 [13] [B (!r11)] 193 ?_
  exact rf [1,13] [1] (j3 _ (Option.some.inj h).symm :)
theorem NU {G:Go.Ln.Ground}:aH Tryz.prog G 72 xM:=gT 1 0 (aB eK (aB FY (aB Pc (aB Fw (aB QN bc))))) (Checked.mixed Tryz.checked) Tryz.func72 (fun a r h=>Tl a r h)
def A5:(List ah)→List V:=oA (eu str)
def AE (r:Bool):V×List V:=(B r,[])
noncomputable def zp:Ent:=aO [false] A5 AE fun x=>zr x
theorem Ya {list_1:List ah}{r}(h:zr list_1=some r):zp.F (A5 list_1)=some (AE r):=aA (az (bi bf)) h
noncomputable def Pd:Code:=ay Tryz.f115
noncomputable abbrev i8:Code:=cL (cL (cR (cL (cR Pd))))
noncomputable def ry:Env:=bG Tryz.prog [(157,mL)]
def Bq (x:(List ah))(r:Bool):St→Prop:=QF ry Tryz.f115 [false] (A5 x) (AE r)
theorem Kt (list_1:List ah):cl ry 0 (Bq list_1) i8 0 (gv list_1) (fun u=>(sT 39 [(0,.isl false (list_1.map str))] [] 1)) fun x2=>(sT 39 [(0,.isl false (list_1.map str)),(3,I x2)] [] 1):=d5 (wC list_1) fun {Q K} hK self ih x2 y h hr hn=>by
 unfold io at h
 refine cq 5 [4,5] [I x2,.isl false (list_1.map str)] 33 ?_
 refine oq 49 (I (len list_1)) rfl (aZ rfl rfl rfl (bg rfl)) ?_
 refine cq 2 [8] [B (decide (x2<(len list_1)))] 81 ?_
 obtain⟨u3,hu3,h⟩:=lJ h
 have j3:Run ry 0 Q (.code (cR (cL i8))::.code (cR i8)::.lp i8::.blk 0::K) (sT 39 [(0,.isl false (list_1.map str)),(3,I x2),(11,B u3)] [] 1):=by
  refine sq h (fun h=>?_) fun h=>?_
  ·refine aq 1 ?_
   refine aq 3 ?_
   refine dN [0,0,3,7,15,31,63,127,255,511,1023,1023,3071,8191,16383,1023,1023,99327,230399,524287,1048575,2097151] rfl (by decide +kernel) ?_
   refine dk 2 [15,14] [I x2,.isl false (list_1.map str)] ?_
   obtain⟨e4,he4,h⟩:=bS h
   refine dq [] [] (.iptr (str e4) 0) rfl (al rfl rfl rfl (aM rfl rfl rfl rfl he4)) ?_
   refine dq [] [] (str e4) rfl (aL rfl rfl) ?_
   obtain⟨r5,hr5,h⟩:=bS h
   refine dq [] [] (B r5) rfl (cP (pt hr5)) ?_ (ct rfl rfl rfl rfl (bh (bE rfl) cz) (pt hr5) (.inr rfl) rfl)
   refine dk 2 [20,19] [B (!r5),B (!r5)] ?_
   obtain⟨y6,hy6,hy61,hy62⟩:=bL h
   have j6:∀u6,y6=.inr u6→Run ry 0 Q (.code (cR (cL (cL (cR i8))))::.blk 1::.code (cR (cR i8))::.lp i8::.blk 0::K) (sT 39 [(0,.isl false (list_1.map str)),(3,I x2),(35,B u6)] [] 1):=by
    intro u6 hu
    replace h:=hy62 u6 hu
    refine sq h (fun h=>?_) fun h=>?_
    ·refine cq 4 [2] [B false] 17 ?_
     exact ai rfl (hr _ (Option.some.inj h).symm _ (qp [B false]))
    ·refine aq 1 ?_
     refine cq 6 [3] [I (ar (x2+1))] 49 ?_
     refine cS ?_
     exact rf [0,3] [] (ih _ _ h hr hn :)
   have r6:∀r',y6=.inl r'→∀st,Bq list_1 r' st→Q st:=fun r' e st hq=>hr r' (hy61 r' e) st hq
   replace h:=hy6
   refine sp 20 h rfl (fun h=>?_) fun h=>?_
   ·refine dk 15 [35,34,33,32,31,30,29,28,27,26,25,24,23,22,21] [B true,.und,.und,.und,.und,.und,.und,.und,.und,.und,.und,.und,.und,.und,.und] ?_
    refine de 353 rfl rfl ?_
    exact rf [0,3,35] [] (j6 _ (Option.some.inj h).symm :)
   ·refine dk 3 [23,22,21] [B (decide (x2>0)),B (decide (x2>0)),I x2] ?_
    obtain⟨y7,hy7,hy71,hy72⟩:=bL h
    have j7:∀u7,y7=.inr u7→Run ry 0 Q (.code (cR (cL (cL (cR i8))))::.blk 1::.code (cR (cR i8))::.lp i8::.blk 0::K) (sT 39 [(0,.isl false (list_1.map str)),(3,I x2),(35,B u7)] [] 1):=by
     intro u7 hu
     replace h:=hy72 u7 hu
     exact rf [0,3,35] [] (j6 _ (Option.some.inj h).symm :)
    have r7:∀r',y7=.inl r'→∀st,Bq list_1 r' st→Q st:=fun r' e st hq=>r6 r' (hy71 r' e) st hq
    replace h:=hy7
    refine sp 23 h rfl (fun h=>?_) fun h=>?_
    ·refine dk 3 [26,25,24] [I (ar (x2 - 1)),I x2,.isl false (list_1.map str)] ?_
     obtain⟨e8,he8,h⟩:=bS h
     refine dy [] [] (.iptr (str e8) 0) rfl (al rfl rfl rfl (aM rfl rfl rfl rfl he8)) ?_
     refine dy [] [] (str e8) rfl (aL rfl rfl) ?_
     refine dk 2 [30,29] [I x2,.isl false (list_1.map str)] ?_
     obtain⟨e9,he9,h⟩:=bS h
     refine dy [] [] (.iptr (str e9) 0) rfl (al rfl rfl rfl (aM rfl rfl rfl rfl he9)) ?_
     refine dy [] [] (str e9) rfl (aL rfl rfl) ?_
     refine dk 3 [35,34,33] [B (!(Op.bytesLess e8 e9)),B (!(Op.bytesLess e8 e9)),B (!(Op.bytesLess e8 e9))] ?_
     refine de 353 rfl rfl ?_
     exact rf [0,3,35] [] (j7 _ (Option.some.inj h).symm :)
    ·refine dk 12 [35,34,33,32,31,30,29,28,27,26,25,24] [B false,B false,.und,.und,.und,.und,.und,.und,.und,.und,.und,.und] ?_
     refine de 353 rfl rfl ?_
     exact rf [0,3,35] [] (j7 _ (Option.some.inj h).symm :)
  ·refine aq 1 ?_
   exact rf [0] [] (hn _ (Option.some.inj h).symm :) (hk:=hK)
 replace h:=hu3
 clear hu3
 refine sp 8 h rfl (fun h=>?_) fun h=>?_
 ·refine cq 4 [11] [B (decide (x2≤16))] 129 ?_
  subst h
  exact rf [0,3,11] [] (j3 :)
 ·refine cq 4 [11] [B false] 129 ?_
  subst h
  exact rf [0,3,11] [] (j3 :)
theorem Tm (list_1:List ah)(r:Bool)(h:zr list_1=some r):ba ry Tryz.f115 [false] 0 (A5 list_1) (AE r):=by
 show Run _ _ (Bq list_1 r) [.code Pd] _
 refine rI 39 [(0,.isl false (list_1.map str))] [] 1 ?_
 unfold zr at h
 refine cq 10 [3] [I (0)] 33 ?_
 obtain⟨y10,hy10,hy101,hy102⟩:=bJ h
 refine bW rfl ?_
 refine rf [0,3] [] (Kt list_1 rfl 0 _ hy10 (fun r' e st hq=>by rw[hy101 r' e] at hq;exact hq) fun u10 hu=>?_)
 replace h:=hy102 u10 hu
 refine cq 3 [36] [.isl false (list_1.map str)] 17 ?_
 refine oq 33 (I (len list_1)) rfl (aZ rfl rfl rfl (bg rfl)) ?_
 refine cq 3 [2] [B (decide ((len list_1)≤16))] 65 ?_
 obtain rfl:=Option.some.inj h
 exact ai rfl (qp [B (decide ((len list_1)≤16))])
theorem PR {G:Go.Ln.Ground}:aH Tryz.prog G 115 zp:=gT 1 0 (aB pI bc) (Checked.mixed Tryz.checked) Tryz.func115 (fun a r h=>Tm a r h)
def Bx:(Contract×Int)→List V:=cA aG (oA I)
def AO (r:Bool):V×List V:=(B r,[])
noncomputable def yd:Ent:=aO [false,false] Bx AO fun x=>zA x.1 x.2
theorem XK {c_1:Contract}{i_2:Int}{r}(h:zA c_1 i_2=some r):yd.F (Bx (c_1,i_2))=some (AO r):=aA (aU aQ (az bA)) h
noncomputable def N1:Code:=ay Tryz.f181
noncomputable def I6:Env:=bG Tryz.prog []
def PI (x:Contract×Int)(r:Bool):St→Prop:=QF I6 Tryz.f181 [false,false] (Bx x) (AO r)
theorem J4 (c_1:Contract)(i_2:Int):cl I6 0 (PI (c_1,i_2)) (cL (cL (cR (cL (cR N1))))) 0 (qZ c_1 i_2) (fun u=>(sT 26 [] [] 1)) fun x3=>(sT 26 [(1,I i_2),(2,.hp 1 0 [] 2 0 0),(5,I x3)] [⟨0,2,[.agg [.isl false (c_1.Parties.map str),.isl false (c_1.Clauses.map ac)]]⟩] 2):=d5 (wq c_1 i_2) fun {Q K} hK self ih x3 y h hr hn=>by
 unfold lb at h
 refine cq 6 [6,8] [I x3,.isl false (c_1.Clauses.map ac)] 50 ?_
 refine oq 66 (I (len c_1.Clauses)) rfl (aZ rfl rfl rfl (bg rfl)) ?_
 refine cq 2 [10] [B (decide (x3<(len c_1.Clauses)))] 82 ?_
 refine sq h (fun h=>?_) fun h=>?_
 ·refine aq 1 ?_
  refine aq 3 ?_
  refine dN [0,1,0,7,15,31,0,64,0,448,960,1984,4095] rfl (by decide +kernel) ?_
  refine dq [1] [] (.hp 1 0 [] 2 0 1) rfl (ak rfl rfl rfl) ?_
  refine dq [1] [] (.isl false (c_1.Clauses.map ac)) rfl (aL rfl rfl) ?_
  refine dk 1 [15] [I x3] ?_
  obtain⟨e4,he4,h⟩:=bS h
  refine dq [] [] (.iptr (.agg [str e4.Id,I e4.Kind,I e4.Party,str e4.Action,I e4.Other,I e4.Amount,I e4.When.Op,str e4.When.Name,I e4.When.Day,.isl false (e4.When.Parts.map aa),I e4.Within,str e4.Repair]) 0) rfl (al rfl rfl rfl (aM rfl rfl rfl rfl he4)) ?_
  refine dq [] [] (.iptr (.agg [str e4.Id,I e4.Kind,I e4.Party,str e4.Action,I e4.Other,I e4.Amount,I e4.When.Op,str e4.When.Name,I e4.When.Day,.isl false (e4.When.Parts.map aa),I e4.Within,str e4.Repair]) 11) rfl (ak rfl rfl rfl) ?_
  refine dq [] [] (str e4.Repair) rfl (aL rfl rfl) ?_
  refine dq [1] [] (.hp 1 0 [] 2 0 1) rfl (ak rfl rfl rfl) ?_
  refine dq [1] [] (.isl false (c_1.Clauses.map ac)) rfl (aL rfl rfl) ?_
  refine dk 1 [21] [I i_2] ?_
  obtain⟨e5,he5,h⟩:=bS h
  refine dq [] [] (.iptr (.agg [str e5.Id,I e5.Kind,I e5.Party,str e5.Action,I e5.Other,I e5.Amount,I e5.When.Op,str e5.When.Name,I e5.When.Day,.isl false (e5.When.Parts.map aa),I e5.Within,str e5.Repair]) 0) rfl (al rfl rfl rfl (aM rfl rfl rfl rfl he5)) ?_
  refine dq [] [] (.iptr (.agg [str e5.Id,I e5.Kind,I e5.Party,str e5.Action,I e5.Other,I e5.Amount,I e5.When.Op,str e5.When.Name,I e5.When.Day,.isl false (e5.When.Parts.map aa),I e5.Within,str e5.Repair]) 0) rfl (ak rfl rfl rfl) ?_
  refine dq [] [] (str e5.Id) rfl (aL rfl rfl) ?_
  refine dk 1 [25] [B (e4.Repair==e5.Id)] ?_
  refine de 290 rfl rfl ?_
  refine sq h (fun h=>?_) fun h=>?_
  ·refine cq 4 [4] [B true] 306 ?_
   exact ai rfl (hr _ (Option.some.inj h).symm _ (qp [B true]))
  ·refine aq 1 ?_
   refine cq 6 [5] [I (ar (x3+1))] 338 ?_
   refine cS ?_
   exact rf [1,2,5] [1] (ih _ _ h hr hn :)
 ·refine aq 1 ?_
  exact rf [] [] (hn _ (Option.some.inj h).symm :) (hk:=hK)
theorem TK (c_1:Contract)(i_2:Int)(r:Bool)(h:zA c_1 i_2=some r):ba I6 Tryz.f181 [false,false] 0 (Bx (c_1,i_2)) (AO r):=by
 show Run _ _ (PI (c_1,i_2) r) [.code N1] _
 refine rI 26 [(0,.agg [.isl false (c_1.Parties.map str),.isl false (c_1.Clauses.map ac)]),(1,I i_2)] [] 1 ?_
 unfold zA at h
 refine ck 11 [2,5] [] [1] [] [.hp 1 0 [] 2 0 0,I (0)] [some ⟨0,2,[.agg [.isl false (c_1.Parties.map str),.isl false (c_1.Clauses.map ac)]]⟩] 49 (by kernel_rfl) ?_
 obtain⟨y6,hy6,hy61,hy62⟩:=bJ h
 refine bW rfl ?_
 refine rf [1,2,5] [1] (J4 c_1 i_2 rfl 0 _ hy6 (fun r' e st hq=>by rw[hy61 r' e] at hq;exact hq) fun u6 hu=>?_)
 replace h:=hy62 u6 hu
 refine cq 4 [4] [B false] 17 ?_
 obtain rfl:=Option.some.inj h
 exact ai rfl (qp [B false])
theorem Ra {G:Go.Ln.Ground}:aH Tryz.prog G 181 yd:=gT 2 0 bc (Checked.mixed Tryz.checked) Tryz.func181 (fun a r h=>TK a.1 a.2 r h)
def BL:(State×Int)→List V:=cA bI (oA I)
def AR (r:Int):V×List V:=(I r,[])
noncomputable def zh:Ent:=aO [false,false] BL AR fun x=>yD x.1 x.2
theorem Wp {s_1:State}{i_2:Int}{r}(h:yD s_1 i_2=some r):zh.F (BL (s_1,i_2))=some (AR r):=aA (aU cD (az bA)) h
noncomputable def PU:Code:=ay Tryz.f182
noncomputable abbrev Fi:Code:=cL (cL (cR (cL (cR (cR PU)))))
noncomputable def Cx:Env:=bG Tryz.prog []
def Nk (x:State×Int)(r:Int):St→Prop:=QF Cx Tryz.f182 [false,false] (BL x) (AR r)
theorem Kr (s_1:State)(i_2:Int):cl Cx 0 (Nk (s_1,i_2)) Fi 0 (kg s_1 i_2) (fun u=>(sT 25 [(5,I u)] [] 1)) fun x3=>(sT 25 [(1,I i_2),(2,.hp 1 0 [] 5 0 0),(5,I x3.1),(6,I x3.2)] [⟨0,5,[.agg [I s_1.Day,.isl false (s_1.Facts.map str),.isl false (s_1.Duties.map ae),.isl false (s_1.Balances.map I),B s_1.Over]]⟩] 2):=d5 (wQ s_1 i_2) fun {Q K} hK self ih x3 y h hr hn=>by
 unfold jV at h
 refine cq 6 [7,9] [I x3.2,.isl false (s_1.Duties.map ae)] 50 ?_
 refine oq 66 (I (len s_1.Duties)) rfl (aZ rfl rfl rfl (bg rfl)) ?_
 refine cq 2 [11] [B (decide (x3.2<(len s_1.Duties)))] 82 ?_
 refine sq h (fun h=>?_) fun h=>?_
 ·refine aq 1 ?_
  refine cq 7 [15,16] [.isl false (s_1.Duties.map ae),I x3.2] 130 ?_
  obtain⟨e4,he4,h⟩:=bS h
  refine oq 146 (.iptr (ae e4) 0) rfl (al rfl rfl rfl (aM rfl rfl rfl rfl he4)) ?_
  refine cq 5 [21] [B (e4.Clause==i_2)] 210 ?_
  obtain⟨u5,hu5,h⟩:=lJ h
  have j5:Run Cx 0 Q (.blk 1::.code (cR (cR Fi))::.lp Fi::.blk 0::K) (sT 25 [(1,I i_2),(2,.hp 1 0 [] 5 0 0),(5,I u5),(6,I x3.2)] [⟨0,5,[.agg [I s_1.Day,.isl false (s_1.Facts.map str),.isl false (s_1.Duties.map ae),.isl false (s_1.Balances.map I),B s_1.Over]]⟩] 2):=by
   refine cq 6 [6] [I (ar (x3.2+1))] 50 ?_
   refine cS ?_
   exact rf [1,2,5,6] [1] (ih _ _ h hr hn :)
  replace h:=hu5
  clear hu5
  refine wX h rfl rfl (fun h=>?_) fun h=>?_
  ·refine cq 5 [5] [I (ar (x3.1+1))] 258 ?_
   subst h
   exact rf [1,2,5,6] [1] (j5 :)
  ·refine aq 1 ?_
   subst h
   exact rf [1,2,5,6] [1] (j5 :)
 ·refine aq 1 ?_
  exact rf [5] [] (hn _ (Option.some.inj h).symm :) (hk:=hK)
theorem Tx (s_1:State)(i_2:Int)(r:Int)(h:yD s_1 i_2=some r):ba Cx Tryz.f182 [false,false] 0 (BL (s_1,i_2)) (AR r):=by
 show Run _ _ (Nk (s_1,i_2) r) [.code PU] _
 refine rI 25 [(0,.agg [I s_1.Day,.isl false (s_1.Facts.map str),.isl false (s_1.Duties.map ae),.isl false (s_1.Balances.map I),B s_1.Over]),(1,I i_2)] [] 1 ?_
 unfold yD at h
 refine ck 15 [2,5,6] [] [1] [] [.hp 1 0 [] 5 0 0,I (0),I (0)] [some ⟨0,5,[.agg [I s_1.Day,.isl false (s_1.Facts.map str),.isl false (s_1.Duties.map ae),.isl false (s_1.Balances.map I),B s_1.Over]]⟩] 65 (by kernel_rfl) ?_
 obtain⟨y6,hy6,hy61,hy62⟩:=bJ h
 refine bW rfl ?_
 refine rf [1,2,5,6] [1] (Kr s_1 i_2 rfl (0,0) _ hy6 (fun r' e st hq=>by rw[hy61 r' e] at hq;exact hq) fun u6 hu=>?_)
 replace h:=hy62 u6 hu
 refine cq 5 [4] [I u6] 33 ?_
 obtain rfl:=Option.some.inj h
 exact ai rfl (qp [I u6])
theorem Qs {G:Go.Ln.Ground}:aH Tryz.prog G 182 zh:=gT 2 0 bc (Checked.mixed Tryz.checked) Tryz.func182 (fun a r h=>Tx a.1 a.2 r h)
def Bo:(Contract×State×Int)→List V:=cA aG (cA bI (oA I))
def DR (r:Bool):V×List V:=(B r,[])
noncomputable def xz:Ent:=aO [false,false,false] Bo DR fun x=>ye x.1 x.2.1 x.2.2
theorem Yw {c_1:Contract}{s_2:State}{k_3:Int}{r}(h:ye c_1 s_2 k_3=some r):xz.F (Bo (c_1,s_2,k_3))=some (DR r):=aA (aU aQ (aU cD (az bA))) h
noncomputable def H3:Code:=ay Tryz.f118
noncomputable abbrev mI:Code:=cR (cR (cR H3))
noncomputable abbrev qY:Code:=cR (cL (cR (cR H3)))
noncomputable abbrev dw:Code:=cR mI
noncomputable abbrev dB:Code:=cR (cL mI)
noncomputable def cX:Env:=bG Tryz.prog [(73,ef),(181,yd),(182,zh),(114,po)]
def ce (x:Contract×State×Int)(r:Bool):St→Prop:=QF cX Tryz.f118 [false,false,false] (Bo x) (DR r)
theorem Sd (c_1:Contract)(s_2:State)(k_3:Int)(r:Bool)(h:ye c_1 s_2 k_3=some r):ba cX Tryz.f118 [false,false,false] 0 (Bo (c_1,s_2,k_3)) (DR r):=by
 show Run _ _ (ce (c_1,s_2,k_3) r) [.code H3] _
 refine rI 129 [(0,.agg [.isl false (c_1.Parties.map str),.isl false (c_1.Clauses.map ac)]),(1,.agg [I s_2.Day,.isl false (s_2.Facts.map str),.isl false (s_2.Duties.map ae),.isl false (s_2.Balances.map I),B s_2.Over]),(2,I k_3)] [] 1 ?_
 unfold ye at h
 refine ck 11 [3,4,9,10] [] [1,17] [] [.hp 1 0 [] 2 0 0,.hp 17 0 [] 5 0 0,.isl false (s_2.Duties.map ae),I k_3] [some ⟨0,2,[.agg [.isl false (c_1.Parties.map str),.isl false (c_1.Clauses.map ac)]]⟩,some ⟨0,5,[.agg [I s_2.Day,.isl false (s_2.Facts.map str),.isl false (s_2.Duties.map ae),.isl false (s_2.Balances.map I),B s_2.Over]]⟩] 97 (by kernel_rfl) ?_
 obtain⟨e4,he4,h⟩:=bS h
 refine oq 113 (.iptr (ae e4) 0) rfl (al rfl rfl rfl (aM rfl rfl rfl rfl he4)) ?_
 refine ck 6 [7] [] [129] [] [.hp 129 0 [] 4 0 0] [some ⟨0,4,[ae e4]⟩] 161 (by kernel_rfl) ?_
 refine dN [0,1,0,4,12,28,63,127,255,511,1023,511,2559,8191,16383,32767,65535,131071,262143,524287,1048575,524287,2621439,8388607,16777215,33554431,67108863,134217727,268435455,134217727,671088639,134217727,2281701375,134217727,8724152319,32346472447,66706210815,135425687551,274475253759,549755813887,1099511627775,2199023255551,4398046511103,8796093022207,17592186044415,35184372088831,70368744177663,140737488355327,281474976710655,562949953421311,1125899906842623,2251799813685247,4503599627370495] rfl (by decide +kernel) ?_
 refine dq [129] [] (.hp 129 0 [] 4 0 0) rfl (ak rfl rfl rfl) ?_
 refine dq [129] [] (I e4.Clause) rfl (aL rfl rfl) ?_
 refine dq [1] [] (.hp 1 0 [] 2 0 1) rfl (ak rfl rfl rfl) ?_
 refine dq [1] [] (.isl false (c_1.Clauses.map ac)) rfl (aL rfl rfl) ?_
 refine dq [] [] (I (len c_1.Clauses)) rfl (aZ rfl rfl rfl (bg rfl)) ?_
 refine dk 1 [18] [I (ar ((len c_1.Clauses) - 1))] ?_
 obtain⟨r5,hr5,h⟩:=bS h
 refine dq [] [] (B r5) rfl (cP (cV hr5)) ?_ (ct rfl rfl rfl rfl (bh (bE rfl) (bh (bE rfl) (bh (bE rfl) cz))) (cV hr5) (.inr rfl) rfl)
 refine dk 2 [21,20] [B (!r5),B (!r5)] ?_
 obtain⟨y6,hy6,hy61,hy62⟩:=bJ h
 have j6:∀u6,y6=.inr u6→Run cX 0 (ce (c_1,s_2,k_3) r) (.code qY::.code mI::[]) (sT 129 [(2,I k_3),(3,.hp 1 0 [] 2 0 0),(4,.hp 2 0 [] 5 0 0),(7,.hp 3 0 [] 4 0 0),(65,B u6)] [⟨0,2,[.agg [.isl false (c_1.Parties.map str),.isl false (c_1.Clauses.map ac)]]⟩,⟨0,5,[.agg [I s_2.Day,.isl false (s_2.Facts.map str),.isl false (s_2.Duties.map ae),.isl false (s_2.Balances.map I),B s_2.Over]]⟩,⟨0,4,[ae e4]⟩] 4):=by
  intro u6 hu
  replace h:=hy62 u6 hu
  refine sq h (fun h=>?_) fun h=>?_
  ·refine cq 4 [6] [B false] 20 ?_
   obtain rfl:=Option.some.inj h
   exact ai rfl (qp [B false])
  ·refine aq 1 ?_
   refine aq 2 ?_
   refine dN [0,1,3,7,15,7,39,127,255,511,7,1031,4095,8191,16383,32767,65535,131071,262143,524287,1048575,524287,2621439,8388607,16777215,33554431,67108863,134217727,268435455,536870911,1073741823,2147483647,4294967295,8589934591,17179869183,34359738367,68719476735,34359738367,171798691839,549755813887,1099511627775,2199023255551,4398046511103,8796093022207,17592186044415,35184372088831,70368744177663,140737488355327,281474976710655,562949953421311,1125899906842623,2251799813685247] rfl (by decide +kernel) ?_
   refine dk 3 [68,67,66] [B (decide (k_3>0)),B (decide (k_3>0)),I k_3] ?_
   obtain⟨y7,hy7,hy71,hy72⟩:=bJ h
   have j7:∀u7,y7=.inr u7→Run cX 0 (ce (c_1,s_2,k_3) r) (.code dB::.code dw::[]) (sT 129 [(3,.hp 1 0 [] 2 0 0),(4,.hp 2 0 [] 5 0 0),(7,.hp 3 0 [] 4 0 0),(117,B u7)] [⟨0,2,[.agg [.isl false (c_1.Parties.map str),.isl false (c_1.Clauses.map ac)]]⟩,⟨0,5,[.agg [I s_2.Day,.isl false (s_2.Facts.map str),.isl false (s_2.Duties.map ae),.isl false (s_2.Balances.map I),B s_2.Over]]⟩,⟨0,4,[ae e4]⟩] 4):=by
    intro u7 hu
    replace h:=hy72 u7 hu
    refine sq h (fun h=>?_) fun h=>?_
    ·refine cq 4 [6] [B false] 20 ?_
     obtain rfl:=Option.some.inj h
     exact ai rfl (qp [B false])
    ·refine aq 1 ?_
     refine cq 5 [118,120] [.agg [.isl false (c_1.Parties.map str),.isl false (c_1.Clauses.map ac)],I e4.Clause] 52 ?_
     obtain⟨r8,hr8,h⟩:=bS h
     refine oq 68 (B r8) rfl (cP (XK hr8)) ?_
     refine cq 1 [122] [B r8] 84 ?_
     obtain⟨y9,hy9,hy91,hy92⟩:=bJ h
     have j9:∀u9,y9=.inr u9→Run cX 0 (ce (c_1,s_2,k_3) r) (.code (cR dw)::[]) (sT 129 [(6,B u9)] [] 1):=by
      intro u9 hu
      replace h:=hy92 u9 hu
      obtain rfl:=Option.some.inj h
      exact ai rfl (qp [B u9])
     have r9:∀r',y9=.inl r'→∀st,ce (c_1,s_2,k_3) r' st→(ce (c_1,s_2,k_3) r) st:=fun r' e st hq=>by rw[hy91 r' e] at hq;exact hq
     replace h:=hy9
     refine sp 122 h rfl (fun h=>?_) fun h=>?_
     ·refine cq 8 [6] [B true] 196 ?_
      exact rf [6] [] (j9 _ (Option.some.inj h).symm :)
     ·refine cq 3 [123,125] [.agg [I s_2.Day,.isl false (s_2.Facts.map str),.isl false (s_2.Duties.map ae),.isl false (s_2.Balances.map I),B s_2.Over],I e4.Clause] 132 ?_
      obtain⟨r10,hr10,h⟩:=bS h
      refine oy 148 (I r10) rfl (cP (Wp hr10)) ?_
      refine cq 4 [6] [B (r10==1)] 196 ?_
      exact rf [6] [] (j9 _ (Option.some.inj h).symm :)
   have r7:∀r',y7=.inl r'→∀st,ce (c_1,s_2,k_3) r' st→(ce (c_1,s_2,k_3) r) st:=fun r' e st hq=>by rw[hy71 r' e] at hq;exact hq
   replace h:=hy7
   refine sp 68 h rfl (fun h=>?_) fun h=>?_
   ·refine dy [2] [] (.hp 2 0 [] 5 0 2) rfl (ak rfl rfl rfl) ?_
    refine dy [2] [] (.isl false (s_2.Duties.map ae)) rfl (aL rfl rfl) ?_
    refine dk 2 [72,71] [I (ar (k_3 - 1)),I k_3] ?_
    obtain⟨e11,he11,h⟩:=bS h
    refine dy [] [] (.iptr (ae e11) 0) rfl (al rfl rfl rfl (aM rfl rfl rfl rfl he11)) ?_
    refine dy [] [] (.iptr (ae e11) 1) rfl (ak rfl rfl rfl) ?_
    refine dy [] [] (I e11.Since) rfl (aL rfl rfl) ?_
    refine dy [3] [] (.hp 3 0 [] 4 0 1) rfl (ak rfl rfl rfl) ?_
    refine dy [3] [] (I e4.Since) rfl (aL rfl rfl) ?_
    refine dk 3 [80,79,78] [B (decide (e11.Since>e4.Since)),B (decide (e11.Since>e4.Since)),B (decide (e11.Since>e4.Since))] ?_
    obtain⟨u12,hu12,h⟩:=lJ h
    have j12:Run cX 0 (ce (c_1,s_2,k_3) r) (.code dB::.code dw::[]) (sT 129 [(3,.hp 1 0 [] 2 0 0),(4,.hp 2 0 [] 5 0 0),(7,.hp 3 0 [] 4 0 0),(117,B u12)] [⟨0,2,[.agg [.isl false (c_1.Parties.map str),.isl false (c_1.Clauses.map ac)]]⟩,⟨0,5,[.agg [I s_2.Day,.isl false (s_2.Facts.map str),.isl false (s_2.Duties.map ae),.isl false (s_2.Balances.map I),B s_2.Over]]⟩,⟨0,4,[ae e4]⟩] 4):=by
     exact rf [3,4,7,117] [1,2,3] (j7 _ (Option.some.inj h).symm :)
    replace h:=hu12
    clear hu12
    refine sp 80 h rfl (fun h=>?_) fun h=>?_
    ·refine dk 37 [117,116,115,114,113,112,111,110,109,108,107,106,105,104,103,102,101,100,99,98,97,96,95,94,93,92,91,90,89,88,87,86,85,84,83,82,81] [B true,.und,.und,.und,.und,.und,.und,.und,.und,B true,B true,.und,.und,.und,.und,.und,.und,.und,.und,.und,.und,B true,B true,.und,.und,.und,.und,.und,.und,.und,.und,.und,.und,.und,.und,.und,.und] ?_
     refine de 836 rfl rfl ?_
     subst h
     exact rf [3,4,7,117] [1,2,3] (j12 :)
    ·refine dy [3] [] (.hp 3 0 [] 4 0 3) rfl (ak rfl rfl rfl) ?_
     refine dy [3] [] (I e4.Status) rfl (aL rfl rfl) ?_
     refine dk 2 [84,83] [B (e4.Status==1),B (e4.Status==1)] ?_
     obtain⟨u13,hu13,h⟩:=lJ h
     have j13:Run cX 0 (ce (c_1,s_2,k_3) r) (.code dB::.code dw::[]) (sT 129 [(3,.hp 1 0 [] 2 0 0),(4,.hp 2 0 [] 5 0 0),(7,.hp 3 0 [] 4 0 0),(117,B u13)] [⟨0,2,[.agg [.isl false (c_1.Parties.map str),.isl false (c_1.Clauses.map ac)]]⟩,⟨0,5,[.agg [I s_2.Day,.isl false (s_2.Facts.map str),.isl false (s_2.Duties.map ae),.isl false (s_2.Balances.map I),B s_2.Over]]⟩,⟨0,4,[ae e4]⟩] 4):=by
      subst h
      exact rf [3,4,7,117] [1,2,3] (j12 :)
     replace h:=hu13
     clear hu13
     refine sp 84 h rfl (fun h=>?_) fun h=>?_
     ·refine dy [3] [] (.hp 3 0 [] 4 0 2) rfl (ak rfl rfl rfl) ?_
      refine dy [3] [] (I e4.Due) rfl (aL rfl rfl) ?_
      refine dy [2] [] (.hp 2 0 [] 5 0 0) rfl (ak rfl rfl rfl) ?_
      refine dy [2] [] (I s_2.Day) rfl (aL rfl rfl) ?_
      refine dk 2 [90,89] [B (decide (e4.Due<s_2.Day)),B (decide (e4.Due<s_2.Day))] ?_
      obtain⟨u14,hu14,h⟩:=lJ h
      have j14:Run cX 0 (ce (c_1,s_2,k_3) r) (.code dB::.code dw::[]) (sT 129 [(3,.hp 1 0 [] 2 0 0),(4,.hp 2 0 [] 5 0 0),(7,.hp 3 0 [] 4 0 0),(117,B u14)] [⟨0,2,[.agg [.isl false (c_1.Parties.map str),.isl false (c_1.Clauses.map ac)]]⟩,⟨0,5,[.agg [I s_2.Day,.isl false (s_2.Facts.map str),.isl false (s_2.Duties.map ae),.isl false (s_2.Balances.map I),B s_2.Over]]⟩,⟨0,4,[ae e4]⟩] 4):=by
       subst h
       exact rf [3,4,7,117] [1,2,3] (j13 :)
      replace h:=hu14
      clear hu14
      refine sp 90 h rfl (fun h=>?_) fun h=>?_
      ·refine dk 27 [117,116,115,114,113,112,111,110,109,108,107,106,105,104,103,102,101,100,99,98,97,96,95,94,93,92,91] [B true,.und,.und,.und,.und,.und,.und,.und,.und,B true,B true,.und,.und,.und,.und,.und,.und,.und,.und,.und,.und,B true,B true,B true,B true,.und,.und] ?_
       refine de 836 rfl rfl ?_
       subst h
       exact rf [3,4,7,117] [1,2,3] (j14 :)
      ·refine dy [2] [] (.hp 2 0 [] 5 0 4) rfl (ak rfl rfl rfl) ?_
       refine dy [2] [] (B s_2.Over) rfl (aL rfl rfl) ?_
       refine dk 4 [96,95,94,93] [B s_2.Over,B s_2.Over,B s_2.Over,B s_2.Over] ?_
       obtain⟨u15,hu15,h⟩:=lJ h
       have j15:Run cX 0 (ce (c_1,s_2,k_3) r) (.code dB::.code dw::[]) (sT 129 [(3,.hp 1 0 [] 2 0 0),(4,.hp 2 0 [] 5 0 0),(7,.hp 3 0 [] 4 0 0),(117,B u15)] [⟨0,2,[.agg [.isl false (c_1.Parties.map str),.isl false (c_1.Clauses.map ac)]]⟩,⟨0,5,[.agg [I s_2.Day,.isl false (s_2.Facts.map str),.isl false (s_2.Duties.map ae),.isl false (s_2.Balances.map I),B s_2.Over]]⟩,⟨0,4,[ae e4]⟩] 4):=by
        subst h
        exact rf [3,4,7,117] [1,2,3] (j14 :)
       replace h:=hu15
       clear hu15
       refine sp 96 h rfl (fun h=>?_) fun h=>?_
       ·refine dk 21 [117,116,115,114,113,112,111,110,109,108,107,106,105,104,103,102,101,100,99,98,97] [B true,.und,.und,.und,.und,.und,.und,.und,.und,B true,B true,.und,.und,.und,.und,.und,.und,.und,.und,.und,.und] ?_
        refine de 836 rfl rfl ?_
        subst h
        exact rf [3,4,7,117] [1,2,3] (j15 :)
       ·refine dy [3] [] (.hp 3 0 [] 4 0 3) rfl (ak rfl rfl rfl) ?_
        refine dy [3] [] (I e4.Status) rfl (aL rfl rfl) ?_
        refine dk 2 [100,99] [B (e4.Status==3),B (e4.Status==3)] ?_
        obtain⟨u16,hu16,h⟩:=lJ h
        have j16:Run cX 0 (ce (c_1,s_2,k_3) r) (.code dB::.code dw::[]) (sT 129 [(3,.hp 1 0 [] 2 0 0),(4,.hp 2 0 [] 5 0 0),(7,.hp 3 0 [] 4 0 0),(117,B u16)] [⟨0,2,[.agg [.isl false (c_1.Parties.map str),.isl false (c_1.Clauses.map ac)]]⟩,⟨0,5,[.agg [I s_2.Day,.isl false (s_2.Facts.map str),.isl false (s_2.Duties.map ae),.isl false (s_2.Balances.map I),B s_2.Over]]⟩,⟨0,4,[ae e4]⟩] 4):=by
         subst h
         exact rf [3,4,7,117] [1,2,3] (j15 :)
        replace h:=hu16
        clear hu16
        refine sp 100 h rfl (fun h=>?_) fun h=>?_
        ·refine dy [3] [] (.hp 3 0 [] 4 0 2) rfl (ak rfl rfl rfl) ?_
         refine dy [3] [] (I e4.Due) rfl (aL rfl rfl) ?_
         refine dy [2] [] (.hp 2 0 [] 5 0 0) rfl (ak rfl rfl rfl) ?_
         refine dy [2] [] (I s_2.Day) rfl (aL rfl rfl) ?_
         refine dk 4 [108,107,106,105] [B (decide (e4.Due≥s_2.Day)),B (decide (e4.Due≥s_2.Day)),B (decide (e4.Due≥s_2.Day)),B (decide (e4.Due≥s_2.Day))] ?_
         obtain⟨u17,hu17,h⟩:=lJ h
         have j17:Run cX 0 (ce (c_1,s_2,k_3) r) (.code dB::.code dw::[]) (sT 129 [(3,.hp 1 0 [] 2 0 0),(4,.hp 2 0 [] 5 0 0),(7,.hp 3 0 [] 4 0 0),(117,B u17)] [⟨0,2,[.agg [.isl false (c_1.Parties.map str),.isl false (c_1.Clauses.map ac)]]⟩,⟨0,5,[.agg [I s_2.Day,.isl false (s_2.Facts.map str),.isl false (s_2.Duties.map ae),.isl false (s_2.Balances.map I),B s_2.Over]]⟩,⟨0,4,[ae e4]⟩] 4):=by
          subst h
          exact rf [3,4,7,117] [1,2,3] (j16 :)
         replace h:=hu17
         clear hu17
         refine sp 108 h rfl (fun h=>?_) fun h=>?_
         ·refine dk 9 [117,116,115,114,113,112,111,110,109] [B true,.und,.und,.und,.und,.und,.und,.und,.und] ?_
          refine de 836 rfl rfl ?_
          subst h
          exact rf [3,4,7,117] [1,2,3] (j17 :)
         ·refine dy [3] [] (.hp 3 0 [] 4 0 3) rfl (ak rfl rfl rfl) ?_
          refine dy [3] [] (I e4.Status) rfl (aL rfl rfl) ?_
          refine dk 2 [112,111] [B (e4.Status==4),B (e4.Status==4)] ?_
          obtain⟨u18,hu18,h⟩:=lJ h
          have j18:Run cX 0 (ce (c_1,s_2,k_3) r) (.code dB::.code dw::[]) (sT 129 [(3,.hp 1 0 [] 2 0 0),(4,.hp 2 0 [] 5 0 0),(7,.hp 3 0 [] 4 0 0),(117,B u18)] [⟨0,2,[.agg [.isl false (c_1.Parties.map str),.isl false (c_1.Clauses.map ac)]]⟩,⟨0,5,[.agg [I s_2.Day,.isl false (s_2.Facts.map str),.isl false (s_2.Duties.map ae),.isl false (s_2.Balances.map I),B s_2.Over]]⟩,⟨0,4,[ae e4]⟩] 4):=by
           subst h
           exact rf [3,4,7,117] [1,2,3] (j17 :)
          replace h:=hu18
          clear hu18
          refine sp 112 h rfl (fun h=>?_) fun h=>?_
          ·refine dy [2] [] (.hp 2 0 [] 5 0 4) rfl (ak rfl rfl rfl) ?_
           refine dy [2] [] (B s_2.Over) rfl (aL rfl rfl) ?_
           refine dk 3 [117,116,115] [B (!s_2.Over),B (!s_2.Over),B (!s_2.Over)] ?_
           refine de 836 rfl rfl ?_
           subst h
           exact rf [3,4,7,117] [1,2,3] (j18 :)
          ·refine dk 5 [117,116,115,114,113] [B false,B false,.und,.und,.und] ?_
           refine de 836 rfl rfl ?_
           subst h
           exact rf [3,4,7,117] [1,2,3] (j18 :)
        ·refine dk 8 [108,107,106,105,104,103,102,101] [B false,B false,B false,.und,.und,.und,.und,.und] ?_
         refine dy [3] [] (.hp 3 0 [] 4 0 3) rfl (ak rfl rfl rfl) ?_
         refine dy [3] [] (I e4.Status) rfl (aL rfl rfl) ?_
         refine dk 2 [112,111] [B (e4.Status==4),B (e4.Status==4)] ?_
         obtain⟨u19,hu19,h⟩:=lJ h
         have j19:Run cX 0 (ce (c_1,s_2,k_3) r) (.code dB::.code dw::[]) (sT 129 [(3,.hp 1 0 [] 2 0 0),(4,.hp 2 0 [] 5 0 0),(7,.hp 3 0 [] 4 0 0),(117,B u19)] [⟨0,2,[.agg [.isl false (c_1.Parties.map str),.isl false (c_1.Clauses.map ac)]]⟩,⟨0,5,[.agg [I s_2.Day,.isl false (s_2.Facts.map str),.isl false (s_2.Duties.map ae),.isl false (s_2.Balances.map I),B s_2.Over]]⟩,⟨0,4,[ae e4]⟩] 4):=by
          subst h
          exact rf [3,4,7,117] [1,2,3] (j16 :)
         replace h:=hu19
         clear hu19
         refine sp 112 h rfl (fun h=>?_) fun h=>?_
         ·refine dy [2] [] (.hp 2 0 [] 5 0 4) rfl (ak rfl rfl rfl) ?_
          refine dy [2] [] (B s_2.Over) rfl (aL rfl rfl) ?_
          refine dk 3 [117,116,115] [B (!s_2.Over),B (!s_2.Over),B (!s_2.Over)] ?_
          refine de 836 rfl rfl ?_
          subst h
          exact rf [3,4,7,117] [1,2,3] (j19 :)
         ·refine dk 5 [117,116,115,114,113] [B false,B false,.und,.und,.und] ?_
          refine de 836 rfl rfl ?_
          subst h
          exact rf [3,4,7,117] [1,2,3] (j19 :)
     ·refine dk 12 [96,95,94,93,92,91,90,89,88,87,86,85] [B false,B false,B false,.und,.und,.und,.und,.und,.und,.und,.und,.und] ?_
      refine dy [3] [] (.hp 3 0 [] 4 0 3) rfl (ak rfl rfl rfl) ?_
      refine dy [3] [] (I e4.Status) rfl (aL rfl rfl) ?_
      refine dk 2 [100,99] [B (e4.Status==3),B (e4.Status==3)] ?_
      obtain⟨u20,hu20,h⟩:=lJ h
      have j20:Run cX 0 (ce (c_1,s_2,k_3) r) (.code dB::.code dw::[]) (sT 129 [(3,.hp 1 0 [] 2 0 0),(4,.hp 2 0 [] 5 0 0),(7,.hp 3 0 [] 4 0 0),(117,B u20)] [⟨0,2,[.agg [.isl false (c_1.Parties.map str),.isl false (c_1.Clauses.map ac)]]⟩,⟨0,5,[.agg [I s_2.Day,.isl false (s_2.Facts.map str),.isl false (s_2.Duties.map ae),.isl false (s_2.Balances.map I),B s_2.Over]]⟩,⟨0,4,[ae e4]⟩] 4):=by
       subst h
       exact rf [3,4,7,117] [1,2,3] (j13 :)
      replace h:=hu20
      clear hu20
      refine sp 100 h rfl (fun h=>?_) fun h=>?_
      ·refine dy [3] [] (.hp 3 0 [] 4 0 2) rfl (ak rfl rfl rfl) ?_
       refine dy [3] [] (I e4.Due) rfl (aL rfl rfl) ?_
       refine dy [2] [] (.hp 2 0 [] 5 0 0) rfl (ak rfl rfl rfl) ?_
       refine dy [2] [] (I s_2.Day) rfl (aL rfl rfl) ?_
       refine dk 4 [108,107,106,105] [B (decide (e4.Due≥s_2.Day)),B (decide (e4.Due≥s_2.Day)),B (decide (e4.Due≥s_2.Day)),B (decide (e4.Due≥s_2.Day))] ?_
       obtain⟨u21,hu21,h⟩:=lJ h
       have j21:Run cX 0 (ce (c_1,s_2,k_3) r) (.code dB::.code dw::[]) (sT 129 [(3,.hp 1 0 [] 2 0 0),(4,.hp 2 0 [] 5 0 0),(7,.hp 3 0 [] 4 0 0),(117,B u21)] [⟨0,2,[.agg [.isl false (c_1.Parties.map str),.isl false (c_1.Clauses.map ac)]]⟩,⟨0,5,[.agg [I s_2.Day,.isl false (s_2.Facts.map str),.isl false (s_2.Duties.map ae),.isl false (s_2.Balances.map I),B s_2.Over]]⟩,⟨0,4,[ae e4]⟩] 4):=by
        subst h
        exact rf [3,4,7,117] [1,2,3] (j20 :)
       replace h:=hu21
       clear hu21
       refine sp 108 h rfl (fun h=>?_) fun h=>?_
       ·refine dk 9 [117,116,115,114,113,112,111,110,109] [B true,.und,.und,.und,.und,.und,.und,.und,.und] ?_
        refine de 836 rfl rfl ?_
        subst h
        exact rf [3,4,7,117] [1,2,3] (j21 :)
       ·refine dy [3] [] (.hp 3 0 [] 4 0 3) rfl (ak rfl rfl rfl) ?_
        refine dy [3] [] (I e4.Status) rfl (aL rfl rfl) ?_
        refine dk 2 [112,111] [B (e4.Status==4),B (e4.Status==4)] ?_
        obtain⟨u22,hu22,h⟩:=lJ h
        have j22:Run cX 0 (ce (c_1,s_2,k_3) r) (.code dB::.code dw::[]) (sT 129 [(3,.hp 1 0 [] 2 0 0),(4,.hp 2 0 [] 5 0 0),(7,.hp 3 0 [] 4 0 0),(117,B u22)] [⟨0,2,[.agg [.isl false (c_1.Parties.map str),.isl false (c_1.Clauses.map ac)]]⟩,⟨0,5,[.agg [I s_2.Day,.isl false (s_2.Facts.map str),.isl false (s_2.Duties.map ae),.isl false (s_2.Balances.map I),B s_2.Over]]⟩,⟨0,4,[ae e4]⟩] 4):=by
         subst h
         exact rf [3,4,7,117] [1,2,3] (j21 :)
        replace h:=hu22
        clear hu22
        refine sp 112 h rfl (fun h=>?_) fun h=>?_
        ·refine dy [2] [] (.hp 2 0 [] 5 0 4) rfl (ak rfl rfl rfl) ?_
         refine dy [2] [] (B s_2.Over) rfl (aL rfl rfl) ?_
         refine dk 3 [117,116,115] [B (!s_2.Over),B (!s_2.Over),B (!s_2.Over)] ?_
         refine de 836 rfl rfl ?_
         subst h
         exact rf [3,4,7,117] [1,2,3] (j22 :)
        ·refine dk 5 [117,116,115,114,113] [B false,B false,.und,.und,.und] ?_
         refine de 836 rfl rfl ?_
         subst h
         exact rf [3,4,7,117] [1,2,3] (j22 :)
      ·refine dk 8 [108,107,106,105,104,103,102,101] [B false,B false,B false,.und,.und,.und,.und,.und] ?_
       refine dy [3] [] (.hp 3 0 [] 4 0 3) rfl (ak rfl rfl rfl) ?_
       refine dy [3] [] (I e4.Status) rfl (aL rfl rfl) ?_
       refine dk 2 [112,111] [B (e4.Status==4),B (e4.Status==4)] ?_
       obtain⟨u23,hu23,h⟩:=lJ h
       have j23:Run cX 0 (ce (c_1,s_2,k_3) r) (.code dB::.code dw::[]) (sT 129 [(3,.hp 1 0 [] 2 0 0),(4,.hp 2 0 [] 5 0 0),(7,.hp 3 0 [] 4 0 0),(117,B u23)] [⟨0,2,[.agg [.isl false (c_1.Parties.map str),.isl false (c_1.Clauses.map ac)]]⟩,⟨0,5,[.agg [I s_2.Day,.isl false (s_2.Facts.map str),.isl false (s_2.Duties.map ae),.isl false (s_2.Balances.map I),B s_2.Over]]⟩,⟨0,4,[ae e4]⟩] 4):=by
        subst h
        exact rf [3,4,7,117] [1,2,3] (j20 :)
       replace h:=hu23
       clear hu23
       refine sp 112 h rfl (fun h=>?_) fun h=>?_
       ·refine dy [2] [] (.hp 2 0 [] 5 0 4) rfl (ak rfl rfl rfl) ?_
        refine dy [2] [] (B s_2.Over) rfl (aL rfl rfl) ?_
        refine dk 3 [117,116,115] [B (!s_2.Over),B (!s_2.Over),B (!s_2.Over)] ?_
        refine de 836 rfl rfl ?_
        subst h
        exact rf [3,4,7,117] [1,2,3] (j23 :)
       ·refine dk 5 [117,116,115,114,113] [B false,B false,.und,.und,.und] ?_
        refine de 836 rfl rfl ?_
        subst h
        exact rf [3,4,7,117] [1,2,3] (j23 :)
   ·refine dk 12 [80,79,78,77,76,75,74,73,72,71,70,69] [B false,B false,.und,.und,.und,.und,.und,.und,.und,.und,.und,.und] ?_
    refine dy [3] [] (.hp 3 0 [] 4 0 3) rfl (ak rfl rfl rfl) ?_
    refine dy [3] [] (I e4.Status) rfl (aL rfl rfl) ?_
    refine dk 2 [84,83] [B (e4.Status==1),B (e4.Status==1)] ?_
    obtain⟨u24,hu24,h⟩:=lJ h
    have j24:Run cX 0 (ce (c_1,s_2,k_3) r) (.code dB::.code dw::[]) (sT 129 [(3,.hp 1 0 [] 2 0 0),(4,.hp 2 0 [] 5 0 0),(7,.hp 3 0 [] 4 0 0),(117,B u24)] [⟨0,2,[.agg [.isl false (c_1.Parties.map str),.isl false (c_1.Clauses.map ac)]]⟩,⟨0,5,[.agg [I s_2.Day,.isl false (s_2.Facts.map str),.isl false (s_2.Duties.map ae),.isl false (s_2.Balances.map I),B s_2.Over]]⟩,⟨0,4,[ae e4]⟩] 4):=by
     exact rf [3,4,7,117] [1,2,3] (j7 _ (Option.some.inj h).symm :)
    replace h:=hu24
    clear hu24
    refine sp 84 h rfl (fun h=>?_) fun h=>?_
    ·refine dy [3] [] (.hp 3 0 [] 4 0 2) rfl (ak rfl rfl rfl) ?_
     refine dy [3] [] (I e4.Due) rfl (aL rfl rfl) ?_
     refine dy [2] [] (.hp 2 0 [] 5 0 0) rfl (ak rfl rfl rfl) ?_
     refine dy [2] [] (I s_2.Day) rfl (aL rfl rfl) ?_
     refine dk 2 [90,89] [B (decide (e4.Due<s_2.Day)),B (decide (e4.Due<s_2.Day))] ?_
     obtain⟨u25,hu25,h⟩:=lJ h
     have j25:Run cX 0 (ce (c_1,s_2,k_3) r) (.code dB::.code dw::[]) (sT 129 [(3,.hp 1 0 [] 2 0 0),(4,.hp 2 0 [] 5 0 0),(7,.hp 3 0 [] 4 0 0),(117,B u25)] [⟨0,2,[.agg [.isl false (c_1.Parties.map str),.isl false (c_1.Clauses.map ac)]]⟩,⟨0,5,[.agg [I s_2.Day,.isl false (s_2.Facts.map str),.isl false (s_2.Duties.map ae),.isl false (s_2.Balances.map I),B s_2.Over]]⟩,⟨0,4,[ae e4]⟩] 4):=by
      subst h
      exact rf [3,4,7,117] [1,2,3] (j24 :)
     replace h:=hu25
     clear hu25
     refine sp 90 h rfl (fun h=>?_) fun h=>?_
     ·refine dk 27 [117,116,115,114,113,112,111,110,109,108,107,106,105,104,103,102,101,100,99,98,97,96,95,94,93,92,91] [B true,.und,.und,.und,.und,.und,.und,.und,.und,B true,B true,.und,.und,.und,.und,.und,.und,.und,.und,.und,.und,B true,B true,B true,B true,.und,.und] ?_
      refine de 836 rfl rfl ?_
      subst h
      exact rf [3,4,7,117] [1,2,3] (j25 :)
     ·refine dy [2] [] (.hp 2 0 [] 5 0 4) rfl (ak rfl rfl rfl) ?_
      refine dy [2] [] (B s_2.Over) rfl (aL rfl rfl) ?_
      refine dk 4 [96,95,94,93] [B s_2.Over,B s_2.Over,B s_2.Over,B s_2.Over] ?_
      obtain⟨u26,hu26,h⟩:=lJ h
      have j26:Run cX 0 (ce (c_1,s_2,k_3) r) (.code dB::.code dw::[]) (sT 129 [(3,.hp 1 0 [] 2 0 0),(4,.hp 2 0 [] 5 0 0),(7,.hp 3 0 [] 4 0 0),(117,B u26)] [⟨0,2,[.agg [.isl false (c_1.Parties.map str),.isl false (c_1.Clauses.map ac)]]⟩,⟨0,5,[.agg [I s_2.Day,.isl false (s_2.Facts.map str),.isl false (s_2.Duties.map ae),.isl false (s_2.Balances.map I),B s_2.Over]]⟩,⟨0,4,[ae e4]⟩] 4):=by
       subst h
       exact rf [3,4,7,117] [1,2,3] (j25 :)
      replace h:=hu26
      clear hu26
      refine sp 96 h rfl (fun h=>?_) fun h=>?_
      ·refine dk 21 [117,116,115,114,113,112,111,110,109,108,107,106,105,104,103,102,101,100,99,98,97] [B true,.und,.und,.und,.und,.und,.und,.und,.und,B true,B true,.und,.und,.und,.und,.und,.und,.und,.und,.und,.und] ?_
       refine de 836 rfl rfl ?_
       subst h
       exact rf [3,4,7,117] [1,2,3] (j26 :)
      ·refine dy [3] [] (.hp 3 0 [] 4 0 3) rfl (ak rfl rfl rfl) ?_
       refine dy [3] [] (I e4.Status) rfl (aL rfl rfl) ?_
       refine dk 2 [100,99] [B (e4.Status==3),B (e4.Status==3)] ?_
       obtain⟨u27,hu27,h⟩:=lJ h
       have j27:Run cX 0 (ce (c_1,s_2,k_3) r) (.code dB::.code dw::[]) (sT 129 [(3,.hp 1 0 [] 2 0 0),(4,.hp 2 0 [] 5 0 0),(7,.hp 3 0 [] 4 0 0),(117,B u27)] [⟨0,2,[.agg [.isl false (c_1.Parties.map str),.isl false (c_1.Clauses.map ac)]]⟩,⟨0,5,[.agg [I s_2.Day,.isl false (s_2.Facts.map str),.isl false (s_2.Duties.map ae),.isl false (s_2.Balances.map I),B s_2.Over]]⟩,⟨0,4,[ae e4]⟩] 4):=by
        subst h
        exact rf [3,4,7,117] [1,2,3] (j26 :)
       replace h:=hu27
       clear hu27
       refine sp 100 h rfl (fun h=>?_) fun h=>?_
       ·refine dy [3] [] (.hp 3 0 [] 4 0 2) rfl (ak rfl rfl rfl) ?_
        refine dy [3] [] (I e4.Due) rfl (aL rfl rfl) ?_
        refine dy [2] [] (.hp 2 0 [] 5 0 0) rfl (ak rfl rfl rfl) ?_
        refine dy [2] [] (I s_2.Day) rfl (aL rfl rfl) ?_
        refine dk 4 [108,107,106,105] [B (decide (e4.Due≥s_2.Day)),B (decide (e4.Due≥s_2.Day)),B (decide (e4.Due≥s_2.Day)),B (decide (e4.Due≥s_2.Day))] ?_
        obtain⟨u28,hu28,h⟩:=lJ h
        have j28:Run cX 0 (ce (c_1,s_2,k_3) r) (.code dB::.code dw::[]) (sT 129 [(3,.hp 1 0 [] 2 0 0),(4,.hp 2 0 [] 5 0 0),(7,.hp 3 0 [] 4 0 0),(117,B u28)] [⟨0,2,[.agg [.isl false (c_1.Parties.map str),.isl false (c_1.Clauses.map ac)]]⟩,⟨0,5,[.agg [I s_2.Day,.isl false (s_2.Facts.map str),.isl false (s_2.Duties.map ae),.isl false (s_2.Balances.map I),B s_2.Over]]⟩,⟨0,4,[ae e4]⟩] 4):=by
         subst h
         exact rf [3,4,7,117] [1,2,3] (j27 :)
        replace h:=hu28
        clear hu28
        refine sp 108 h rfl (fun h=>?_) fun h=>?_
        ·refine dk 9 [117,116,115,114,113,112,111,110,109] [B true,.und,.und,.und,.und,.und,.und,.und,.und] ?_
         refine de 836 rfl rfl ?_
         subst h
         exact rf [3,4,7,117] [1,2,3] (j28 :)
        ·refine dy [3] [] (.hp 3 0 [] 4 0 3) rfl (ak rfl rfl rfl) ?_
         refine dy [3] [] (I e4.Status) rfl (aL rfl rfl) ?_
         refine dk 2 [112,111] [B (e4.Status==4),B (e4.Status==4)] ?_
         obtain⟨u29,hu29,h⟩:=lJ h
         have j29:Run cX 0 (ce (c_1,s_2,k_3) r) (.code dB::.code dw::[]) (sT 129 [(3,.hp 1 0 [] 2 0 0),(4,.hp 2 0 [] 5 0 0),(7,.hp 3 0 [] 4 0 0),(117,B u29)] [⟨0,2,[.agg [.isl false (c_1.Parties.map str),.isl false (c_1.Clauses.map ac)]]⟩,⟨0,5,[.agg [I s_2.Day,.isl false (s_2.Facts.map str),.isl false (s_2.Duties.map ae),.isl false (s_2.Balances.map I),B s_2.Over]]⟩,⟨0,4,[ae e4]⟩] 4):=by
          subst h
          exact rf [3,4,7,117] [1,2,3] (j28 :)
         replace h:=hu29
         clear hu29
         refine sp 112 h rfl (fun h=>?_) fun h=>?_
         ·refine dy [2] [] (.hp 2 0 [] 5 0 4) rfl (ak rfl rfl rfl) ?_
          refine dy [2] [] (B s_2.Over) rfl (aL rfl rfl) ?_
          refine dk 3 [117,116,115] [B (!s_2.Over),B (!s_2.Over),B (!s_2.Over)] ?_
          refine de 836 rfl rfl ?_
          subst h
          exact rf [3,4,7,117] [1,2,3] (j29 :)
         ·refine dk 5 [117,116,115,114,113] [B false,B false,.und,.und,.und] ?_
          refine de 836 rfl rfl ?_
          subst h
          exact rf [3,4,7,117] [1,2,3] (j29 :)
       ·refine dk 8 [108,107,106,105,104,103,102,101] [B false,B false,B false,.und,.und,.und,.und,.und] ?_
        refine dy [3] [] (.hp 3 0 [] 4 0 3) rfl (ak rfl rfl rfl) ?_
        refine dy [3] [] (I e4.Status) rfl (aL rfl rfl) ?_
        refine dk 2 [112,111] [B (e4.Status==4),B (e4.Status==4)] ?_
        obtain⟨u30,hu30,h⟩:=lJ h
        have j30:Run cX 0 (ce (c_1,s_2,k_3) r) (.code dB::.code dw::[]) (sT 129 [(3,.hp 1 0 [] 2 0 0),(4,.hp 2 0 [] 5 0 0),(7,.hp 3 0 [] 4 0 0),(117,B u30)] [⟨0,2,[.agg [.isl false (c_1.Parties.map str),.isl false (c_1.Clauses.map ac)]]⟩,⟨0,5,[.agg [I s_2.Day,.isl false (s_2.Facts.map str),.isl false (s_2.Duties.map ae),.isl false (s_2.Balances.map I),B s_2.Over]]⟩,⟨0,4,[ae e4]⟩] 4):=by
         subst h
         exact rf [3,4,7,117] [1,2,3] (j27 :)
        replace h:=hu30
        clear hu30
        refine sp 112 h rfl (fun h=>?_) fun h=>?_
        ·refine dy [2] [] (.hp 2 0 [] 5 0 4) rfl (ak rfl rfl rfl) ?_
         refine dy [2] [] (B s_2.Over) rfl (aL rfl rfl) ?_
         refine dk 3 [117,116,115] [B (!s_2.Over),B (!s_2.Over),B (!s_2.Over)] ?_
         refine de 836 rfl rfl ?_
         subst h
         exact rf [3,4,7,117] [1,2,3] (j30 :)
        ·refine dk 5 [117,116,115,114,113] [B false,B false,.und,.und,.und] ?_
         refine de 836 rfl rfl ?_
         subst h
         exact rf [3,4,7,117] [1,2,3] (j30 :)
    ·refine dk 12 [96,95,94,93,92,91,90,89,88,87,86,85] [B false,B false,B false,.und,.und,.und,.und,.und,.und,.und,.und,.und] ?_
     refine dy [3] [] (.hp 3 0 [] 4 0 3) rfl (ak rfl rfl rfl) ?_
     refine dy [3] [] (I e4.Status) rfl (aL rfl rfl) ?_
     refine dk 2 [100,99] [B (e4.Status==3),B (e4.Status==3)] ?_
     obtain⟨u31,hu31,h⟩:=lJ h
     have j31:Run cX 0 (ce (c_1,s_2,k_3) r) (.code dB::.code dw::[]) (sT 129 [(3,.hp 1 0 [] 2 0 0),(4,.hp 2 0 [] 5 0 0),(7,.hp 3 0 [] 4 0 0),(117,B u31)] [⟨0,2,[.agg [.isl false (c_1.Parties.map str),.isl false (c_1.Clauses.map ac)]]⟩,⟨0,5,[.agg [I s_2.Day,.isl false (s_2.Facts.map str),.isl false (s_2.Duties.map ae),.isl false (s_2.Balances.map I),B s_2.Over]]⟩,⟨0,4,[ae e4]⟩] 4):=by
      subst h
      exact rf [3,4,7,117] [1,2,3] (j24 :)
     replace h:=hu31
     clear hu31
     refine sp 100 h rfl (fun h=>?_) fun h=>?_
     ·refine dy [3] [] (.hp 3 0 [] 4 0 2) rfl (ak rfl rfl rfl) ?_
      refine dy [3] [] (I e4.Due) rfl (aL rfl rfl) ?_
      refine dy [2] [] (.hp 2 0 [] 5 0 0) rfl (ak rfl rfl rfl) ?_
      refine dy [2] [] (I s_2.Day) rfl (aL rfl rfl) ?_
      refine dk 4 [108,107,106,105] [B (decide (e4.Due≥s_2.Day)),B (decide (e4.Due≥s_2.Day)),B (decide (e4.Due≥s_2.Day)),B (decide (e4.Due≥s_2.Day))] ?_
      obtain⟨u32,hu32,h⟩:=lJ h
      have j32:Run cX 0 (ce (c_1,s_2,k_3) r) (.code dB::.code dw::[]) (sT 129 [(3,.hp 1 0 [] 2 0 0),(4,.hp 2 0 [] 5 0 0),(7,.hp 3 0 [] 4 0 0),(117,B u32)] [⟨0,2,[.agg [.isl false (c_1.Parties.map str),.isl false (c_1.Clauses.map ac)]]⟩,⟨0,5,[.agg [I s_2.Day,.isl false (s_2.Facts.map str),.isl false (s_2.Duties.map ae),.isl false (s_2.Balances.map I),B s_2.Over]]⟩,⟨0,4,[ae e4]⟩] 4):=by
       subst h
       exact rf [3,4,7,117] [1,2,3] (j31 :)
      replace h:=hu32
      clear hu32
      refine sp 108 h rfl (fun h=>?_) fun h=>?_
      ·refine dk 9 [117,116,115,114,113,112,111,110,109] [B true,.und,.und,.und,.und,.und,.und,.und,.und] ?_
       refine de 836 rfl rfl ?_
       subst h
       exact rf [3,4,7,117] [1,2,3] (j32 :)
      ·refine dy [3] [] (.hp 3 0 [] 4 0 3) rfl (ak rfl rfl rfl) ?_
       refine dy [3] [] (I e4.Status) rfl (aL rfl rfl) ?_
       refine dk 2 [112,111] [B (e4.Status==4),B (e4.Status==4)] ?_
       obtain⟨u33,hu33,h⟩:=lJ h
       have j33:Run cX 0 (ce (c_1,s_2,k_3) r) (.code dB::.code dw::[]) (sT 129 [(3,.hp 1 0 [] 2 0 0),(4,.hp 2 0 [] 5 0 0),(7,.hp 3 0 [] 4 0 0),(117,B u33)] [⟨0,2,[.agg [.isl false (c_1.Parties.map str),.isl false (c_1.Clauses.map ac)]]⟩,⟨0,5,[.agg [I s_2.Day,.isl false (s_2.Facts.map str),.isl false (s_2.Duties.map ae),.isl false (s_2.Balances.map I),B s_2.Over]]⟩,⟨0,4,[ae e4]⟩] 4):=by
        subst h
        exact rf [3,4,7,117] [1,2,3] (j32 :)
       replace h:=hu33
       clear hu33
       refine sp 112 h rfl (fun h=>?_) fun h=>?_
       ·refine dy [2] [] (.hp 2 0 [] 5 0 4) rfl (ak rfl rfl rfl) ?_
        refine dy [2] [] (B s_2.Over) rfl (aL rfl rfl) ?_
        refine dk 3 [117,116,115] [B (!s_2.Over),B (!s_2.Over),B (!s_2.Over)] ?_
        refine de 836 rfl rfl ?_
        subst h
        exact rf [3,4,7,117] [1,2,3] (j33 :)
       ·refine dk 5 [117,116,115,114,113] [B false,B false,.und,.und,.und] ?_
        refine de 836 rfl rfl ?_
        subst h
        exact rf [3,4,7,117] [1,2,3] (j33 :)
     ·refine dk 8 [108,107,106,105,104,103,102,101] [B false,B false,B false,.und,.und,.und,.und,.und] ?_
      refine dy [3] [] (.hp 3 0 [] 4 0 3) rfl (ak rfl rfl rfl) ?_
      refine dy [3] [] (I e4.Status) rfl (aL rfl rfl) ?_
      refine dk 2 [112,111] [B (e4.Status==4),B (e4.Status==4)] ?_
      obtain⟨u34,hu34,h⟩:=lJ h
      have j34:Run cX 0 (ce (c_1,s_2,k_3) r) (.code dB::.code dw::[]) (sT 129 [(3,.hp 1 0 [] 2 0 0),(4,.hp 2 0 [] 5 0 0),(7,.hp 3 0 [] 4 0 0),(117,B u34)] [⟨0,2,[.agg [.isl false (c_1.Parties.map str),.isl false (c_1.Clauses.map ac)]]⟩,⟨0,5,[.agg [I s_2.Day,.isl false (s_2.Facts.map str),.isl false (s_2.Duties.map ae),.isl false (s_2.Balances.map I),B s_2.Over]]⟩,⟨0,4,[ae e4]⟩] 4):=by
       subst h
       exact rf [3,4,7,117] [1,2,3] (j31 :)
      replace h:=hu34
      clear hu34
      refine sp 112 h rfl (fun h=>?_) fun h=>?_
      ·refine dy [2] [] (.hp 2 0 [] 5 0 4) rfl (ak rfl rfl rfl) ?_
       refine dy [2] [] (B s_2.Over) rfl (aL rfl rfl) ?_
       refine dk 3 [117,116,115] [B (!s_2.Over),B (!s_2.Over),B (!s_2.Over)] ?_
       refine de 836 rfl rfl ?_
       subst h
       exact rf [3,4,7,117] [1,2,3] (j34 :)
      ·refine dk 5 [117,116,115,114,113] [B false,B false,.und,.und,.und] ?_
       refine de 836 rfl rfl ?_
       subst h
       exact rf [3,4,7,117] [1,2,3] (j34 :)
 have r6:∀r',y6=.inl r'→∀st,ce (c_1,s_2,k_3) r' st→(ce (c_1,s_2,k_3) r) st:=fun r' e st hq=>by rw[hy61 r' e] at hq;exact hq
 replace h:=hy6
 refine sp 21 h rfl (fun h=>?_) fun h=>?_
 ·refine dk 44 [65,64,63,62,61,60,59,58,57,56,55,54,53,52,51,50,49,48,47,46,45,44,43,42,41,40,39,38,37,36,35,34,33,32,31,30,29,28,27,26,25,24,23,22] [B true,.und,.und,.und,.und,B true,B true,.und,.und,.und,.und,B true,B true,.und,.und,.und,.und,.und,.und,.und,.und,.und,.und,.und,.und,.und,B true,B true,.und,.und,.und,.und,.und,.und,B true,B true,.und,.und,.und,.und,.und,.und,.und,.und] ?_
  refine de 1009 rfl rfl ?_
  exact rf [2,3,4,7,65] [1,17,129] (j6 _ (Option.some.inj h).symm :)
 ·refine dy [1] [] (.hp 1 0 [] 2 0 1) rfl (ak rfl rfl rfl) ?_
  refine dy [1] [] (.isl false (c_1.Clauses.map ac)) rfl (aL rfl rfl) ?_
  refine dy [129] [] (.hp 129 0 [] 4 0 0) rfl (ak rfl rfl rfl) ?_
  refine dy [129] [] (I e4.Clause) rfl (aL rfl rfl) ?_
  obtain⟨e35,he35,h⟩:=bS h
  refine dy [] [] (.iptr (.agg [str e35.Id,I e35.Kind,I e35.Party,str e35.Action,I e35.Other,I e35.Amount,I e35.When.Op,str e35.When.Name,I e35.When.Day,.isl false (e35.When.Parts.map aa),I e35.Within,str e35.Repair]) 0) rfl (al rfl rfl rfl (aM rfl rfl rfl rfl he35)) ?_
  refine dy [] [] (.iptr (.agg [str e35.Id,I e35.Kind,I e35.Party,str e35.Action,I e35.Other,I e35.Amount,I e35.When.Op,str e35.When.Name,I e35.When.Day,.isl false (e35.When.Parts.map aa),I e35.Within,str e35.Repair]) 1) rfl (ak rfl rfl rfl) ?_
  refine dy [] [] (I e35.Kind) rfl (aL rfl rfl) ?_
  refine dk 3 [31,30,29] [B (e35.Kind != 1),B (e35.Kind != 1),B (e35.Kind != 1)] ?_
  obtain⟨y36,hy36,hy361,hy362⟩:=bL h
  have j36:∀u36,y36=.inr u36→Run cX 0 (ce (c_1,s_2,k_3) r) (.code qY::.code mI::[]) (sT 129 [(2,I k_3),(3,.hp 1 0 [] 2 0 0),(4,.hp 2 0 [] 5 0 0),(7,.hp 3 0 [] 4 0 0),(65,B u36)] [⟨0,2,[.agg [.isl false (c_1.Parties.map str),.isl false (c_1.Clauses.map ac)]]⟩,⟨0,5,[.agg [I s_2.Day,.isl false (s_2.Facts.map str),.isl false (s_2.Duties.map ae),.isl false (s_2.Balances.map I),B s_2.Over]]⟩,⟨0,4,[ae e4]⟩] 4):=by
   intro u36 hu
   replace h:=hy362 u36 hu
   exact rf [2,3,4,7,65] [1,2,3] (j6 _ (Option.some.inj h).symm :)
  have r36:∀r',y36=.inl r'→∀st,ce (c_1,s_2,k_3) r' st→(ce (c_1,s_2,k_3) r) st:=fun r' e st hq=>r6 r' (hy361 r' e) st hq
  replace h:=hy36
  refine sp 31 h rfl (fun h=>?_) fun h=>?_
  ·refine dk 34 [65,64,63,62,61,60,59,58,57,56,55,54,53,52,51,50,49,48,47,46,45,44,43,42,41,40,39,38,37,36,35,34,33,32] [B true,.und,.und,.und,.und,B true,B true,.und,.und,.und,.und,B true,B true,.und,.und,.und,.und,.und,.und,.und,.und,.und,.und,.und,.und,.und,B true,B true,.und,.und,.und,.und,.und,.und] ?_
   refine de 1009 rfl rfl ?_
   exact rf [2,3,4,7,65] [1,17,129] (j36 _ (Option.some.inj h).symm :)
  ·refine dy [129] [] (.hp 129 0 [] 4 0 1) rfl (ak rfl rfl rfl) ?_
   refine dy [129] [] (I e4.Since) rfl (aL rfl rfl) ?_
   refine dy [17] [] (.hp 17 0 [] 5 0 0) rfl (ak rfl rfl rfl) ?_
   refine dy [17] [] (I s_2.Day) rfl (aL rfl rfl) ?_
   obtain⟨r37,hr37,h⟩:=bS h
   refine dy [] [] (B r37) rfl (cP (cV hr37)) ?_ (ct rfl rfl rfl rfl (bh (bE rfl) (bh (bE rfl) (bh (bE rfl) cz))) (cV hr37) (.inr rfl) rfl)
   refine dk 3 [39,38,37] [B (!r37),B (!r37),B (!r37)] ?_
   obtain⟨y38,hy38,hy381,hy382⟩:=bL h
   have j38:∀u38,y38=.inr u38→Run cX 0 (ce (c_1,s_2,k_3) r) (.code qY::.code mI::[]) (sT 129 [(2,I k_3),(3,.hp 1 0 [] 2 0 0),(4,.hp 2 0 [] 5 0 0),(7,.hp 3 0 [] 4 0 0),(65,B u38)] [⟨0,2,[.agg [.isl false (c_1.Parties.map str),.isl false (c_1.Clauses.map ac)]]⟩,⟨0,5,[.agg [I s_2.Day,.isl false (s_2.Facts.map str),.isl false (s_2.Duties.map ae),.isl false (s_2.Balances.map I),B s_2.Over]]⟩,⟨0,4,[ae e4]⟩] 4):=by
    intro u38 hu
    replace h:=hy382 u38 hu
    exact rf [2,3,4,7,65] [1,2,3] (j36 _ (Option.some.inj h).symm :)
   have r38:∀r',y38=.inl r'→∀st,ce (c_1,s_2,k_3) r' st→(ce (c_1,s_2,k_3) r) st:=fun r' e st hq=>r36 r' (hy381 r' e) st hq
   replace h:=hy38
   refine sp 39 h rfl (fun h=>?_) fun h=>?_
   ·refine dk 26 [65,64,63,62,61,60,59,58,57,56,55,54,53,52,51,50,49,48,47,46,45,44,43,42,41,40] [B true,.und,.und,.und,.und,B true,B true,.und,.und,.und,.und,B true,B true,.und,.und,.und,.und,.und,.und,.und,.und,.und,.und,.und,.und,.und] ?_
    refine de 1009 rfl rfl ?_
    exact rf [2,3,4,7,65] [1,17,129] (j38 _ (Option.some.inj h).symm :)
   ·refine dy [129] [] (.hp 129 0 [] 4 0 2) rfl (ak rfl rfl rfl) ?_
    refine dy [129] [] (I e4.Due) rfl (aL rfl rfl) ?_
    refine dy [129] [] (.hp 129 0 [] 4 0 1) rfl (ak rfl rfl rfl) ?_
    refine dy [129] [] (I e4.Since) rfl (aL rfl rfl) ?_
    refine dy [1] [] (.hp 1 0 [] 2 0 1) rfl (ak rfl rfl rfl) ?_
    refine dy [1] [] (.isl false (c_1.Clauses.map ac)) rfl (aL rfl rfl) ?_
    refine dy [129] [] (.hp 129 0 [] 4 0 0) rfl (ak rfl rfl rfl) ?_
    refine dy [129] [] (I e4.Clause) rfl (aL rfl rfl) ?_
    obtain⟨e39,he39,h⟩:=bS h
    refine dy [] [] (.iptr (.agg [str e39.Id,I e39.Kind,I e39.Party,str e39.Action,I e39.Other,I e39.Amount,I e39.When.Op,str e39.When.Name,I e39.When.Day,.isl false (e39.When.Parts.map aa),I e39.Within,str e39.Repair]) 0) rfl (al rfl rfl rfl (aM rfl rfl rfl rfl he39)) ?_
    refine dy [] [] (.iptr (.agg [str e39.Id,I e39.Kind,I e39.Party,str e39.Action,I e39.Other,I e39.Amount,I e39.When.Op,str e39.When.Name,I e39.When.Day,.isl false (e39.When.Parts.map aa),I e39.Within,str e39.Repair]) 10) rfl (ak rfl rfl rfl) ?_
    refine dy [] [] (I e39.Within) rfl (aL rfl rfl) ?_
    refine dk 4 [54,53,52,51] [B (e4.Due != (ar (e4.Since+e39.Within))),B (e4.Due != (ar (e4.Since+e39.Within))),B (e4.Due != (ar (e4.Since+e39.Within))),I (ar (e4.Since+e39.Within))] ?_
    obtain⟨y40,hy40,hy401,hy402⟩:=bL h
    have j40:∀u40,y40=.inr u40→Run cX 0 (ce (c_1,s_2,k_3) r) (.code qY::.code mI::[]) (sT 129 [(2,I k_3),(3,.hp 1 0 [] 2 0 0),(4,.hp 2 0 [] 5 0 0),(7,.hp 3 0 [] 4 0 0),(65,B u40)] [⟨0,2,[.agg [.isl false (c_1.Parties.map str),.isl false (c_1.Clauses.map ac)]]⟩,⟨0,5,[.agg [I s_2.Day,.isl false (s_2.Facts.map str),.isl false (s_2.Duties.map ae),.isl false (s_2.Balances.map I),B s_2.Over]]⟩,⟨0,4,[ae e4]⟩] 4):=by
     intro u40 hu
     replace h:=hy402 u40 hu
     exact rf [2,3,4,7,65] [1,2,3] (j38 _ (Option.some.inj h).symm :)
    have r40:∀r',y40=.inl r'→∀st,ce (c_1,s_2,k_3) r' st→(ce (c_1,s_2,k_3) r) st:=fun r' e st hq=>r38 r' (hy401 r' e) st hq
    replace h:=hy40
    refine sp 54 h rfl (fun h=>?_) fun h=>?_
    ·refine dk 11 [65,64,63,62,61,60,59,58,57,56,55] [B true,.und,.und,.und,.und,B true,B true,.und,.und,.und,.und] ?_
     refine de 1009 rfl rfl ?_
     exact rf [2,3,4,7,65] [1,17,129] (j40 _ (Option.some.inj h).symm :)
    ·refine dy [129] [] (.hp 129 0 [] 4 0 2) rfl (ak rfl rfl rfl) ?_
     refine dy [129] [] (I e4.Due) rfl (aL rfl rfl) ?_
     obtain⟨r41,hr41,h⟩:=bS h
     refine dy [] [] (B r41) rfl (cP (BR hr41)) ?_ (ct rfl rfl rfl rfl (bh (bE rfl) cz) (BR hr41) (.inr rfl) rfl)
     refine dk 3 [60,59,58] [B (!r41),B (!r41),B (!r41)] ?_
     obtain⟨y42,hy42,hy421,hy422⟩:=bL h
     have j42:∀u42,y42=.inr u42→Run cX 0 (ce (c_1,s_2,k_3) r) (.code qY::.code mI::[]) (sT 129 [(2,I k_3),(3,.hp 1 0 [] 2 0 0),(4,.hp 2 0 [] 5 0 0),(7,.hp 3 0 [] 4 0 0),(65,B u42)] [⟨0,2,[.agg [.isl false (c_1.Parties.map str),.isl false (c_1.Clauses.map ac)]]⟩,⟨0,5,[.agg [I s_2.Day,.isl false (s_2.Facts.map str),.isl false (s_2.Duties.map ae),.isl false (s_2.Balances.map I),B s_2.Over]]⟩,⟨0,4,[ae e4]⟩] 4):=by
      intro u42 hu
      replace h:=hy422 u42 hu
      exact rf [2,3,4,7,65] [1,2,3] (j40 _ (Option.some.inj h).symm :)
     have r42:∀r',y42=.inl r'→∀st,ce (c_1,s_2,k_3) r' st→(ce (c_1,s_2,k_3) r) st:=fun r' e st hq=>r40 r' (hy421 r' e) st hq
     replace h:=hy42
     refine sp 60 h rfl (fun h=>?_) fun h=>?_
     ·refine dk 5 [65,64,63,62,61] [B true,.und,.und,.und,.und] ?_
      refine de 1009 rfl rfl ?_
      exact rf [2,3,4,7,65] [1,17,129] (j42 _ (Option.some.inj h).symm :)
     ·refine dy [129] [] (.hp 129 0 [] 4 0 3) rfl (ak rfl rfl rfl) ?_
      refine dy [129] [] (I e4.Status) rfl (aL rfl rfl) ?_
      obtain⟨r43,hr43,h⟩:=bS h
      refine dy [] [] (B r43) rfl (cP (cV hr43)) ?_ (ct rfl rfl rfl rfl (bh (bE rfl) (bh (bE rfl) (bh (bE rfl) cz))) (cV hr43) (.inr rfl) rfl)
      refine dk 2 [65,64] [B (!r43),B (!r43)] ?_
      refine de 1009 rfl rfl ?_
      exact rf [2,3,4,7,65] [1,17,129] (j42 _ (Option.some.inj h).symm :)
theorem PN {G:Go.Ln.Ground}:aH Tryz.prog G 118 xz:=gT 3 0 (aB eK (aB Ra (aB Qs (aB uB bc)))) (Checked.mixed Tryz.checked) Tryz.func118 (fun a r h=>Sd a.1 a.2.1 a.2.2 r h)
def Ea:Int→List V:=oA I
def An (r:Bool):V×List V:=(B r,[])
noncomputable def xU:Ent:=aO [false] Ea An fun x=>yZ x
theorem WJ {x_1:Int}{r}(h:yZ x_1=some r):xU.F (Ea x_1)=some (An r):=aA (az bA) h
noncomputable def Xo:Code:=ay Tryz.f119
noncomputable def M6:Env:=bG Tryz.prog [(73,ef)]
def Xw (x:Int)(r:Bool):St→Prop:=QF M6 Tryz.f119 [false] (Ea x) (An r)
theorem SU (x_1:Int)(r:Bool)(h:yZ x_1=some r):ba M6 Tryz.f119 [false] 0 (Ea x_1) (An r):=by
 show Run _ _ (Xw x_1 r) [.code Xo] _
 refine rI 5 [(0,I x_1)] [] 1 ?_
 unfold yZ at h
 refine cq 7 [3] [I x_1] 33 ?_
 obtain⟨r2,hr2,h⟩:=bS h
 refine oq 49 (B r2) rfl (cP (cV hr2)) ?_
 refine cq 2 [2] [B r2] 65 ?_
 obtain rfl:=Option.some.inj h
 exact ai rfl (qp [B r2])
theorem PF {G:Go.Ln.Ground}:aH Tryz.prog G 119 xU:=gT 1 0 (aB eK bc) (Checked.mixed Tryz.checked) Tryz.func119 (fun a r h=>SU a r h)
def Az:(List Int)→List V:=oA (eu I)
def CD (r:Int):V×List V:=(I r,[])
noncomputable def yI:Ent:=aO [false] Az CD fun x=>si x
theorem X9 {list_1:List Int}{r}(h:si list_1=some r):yI.F (Az list_1)=some (CD r):=aA (az (bi bA)) h
noncomputable def M7:Code:=ay Tryz.f120
noncomputable def HS:Env:=bG Tryz.prog []
def Pg (x:(List Int))(r:Int):St→Prop:=QF HS Tryz.f120 [false] (Az x) (CD r)
theorem JR (list_1:List Int):cl HS 0 (Pg list_1) (cL (cL (cR (cL (cR (cR M7)))))) 0 (jb list_1) (fun u=>(sT 18 [(3,I u)] [] 1)) fun x2=>(sT 18 [(0,.isl false (list_1.map I)),(3,I x2.1),(4,I x2.2)] [] 1):=d5 (v6 list_1) fun {Q K} hK self ih x2 y h hr hn=>by
 unfold jr at h
 refine cq 5 [5,6] [I x2.2,.isl false (list_1.map I)] 33 ?_
 refine oq 49 (I (len list_1)) rfl (aZ rfl rfl rfl (bg rfl)) ?_
 refine cq 2 [8] [B (decide (x2.2<(len list_1)))] 65 ?_
 refine sq h (fun h=>?_) fun h=>?_
 ·refine aq 1 ?_
  refine cq 6 [11,12,13] [I x2.1,.isl false (list_1.map I),I x2.2] 113 ?_
  obtain⟨e3,he3,h⟩:=bS h
  refine oq 129 (.iptr (I e3) 0) rfl (al rfl rfl rfl (aM rfl rfl rfl rfl he3)) ?_
  refine cq 10 [3,4] [I (ar (x2.1+e3)),I (ar (x2.2+1))] 225 ?_
  refine cS ?_
  exact rf [0,3,4] [] (ih _ _ h hr hn :)
 ·refine aq 1 ?_
  exact rf [3] [] (hn _ (Option.some.inj h).symm :) (hk:=hK)
theorem RH (list_1:List Int)(r:Int)(h:si list_1=some r):ba HS Tryz.f120 [false] 0 (Az list_1) (CD r):=by
 show Run _ _ (Pg list_1 r) [.code M7] _
 refine rI 18 [(0,.isl false (list_1.map I))] [] 1 ?_
 unfold si at h
 refine cq 14 [3,4] [I (0),I (0)] 49 ?_
 obtain⟨y4,hy4,hy41,hy42⟩:=bJ h
 refine bW rfl ?_
 refine rf [0,3,4] [] (JR list_1 rfl (0,0) _ hy4 (fun r' e st hq=>by rw[hy41 r' e] at hq;exact hq) fun u4 hu=>?_)
 replace h:=hy42 u4 hu
 refine cq 5 [2] [I u4] 33 ?_
 obtain rfl:=Option.some.inj h
 exact ai rfl (qp [I u4])
theorem Pk {G:Go.Ln.Ground}:aH Tryz.prog G 120 yI:=gT 1 0 bc (Checked.mixed Tryz.checked) Tryz.func120 (fun a r h=>RH a r h)
def Bs:(Contract×State)→List V:=cA aG (oA bI)
def B5 (r:Bool):V×List V:=(B r,[])
noncomputable def zU:Ent:=aO [false,false] Bs B5 fun x=>sD x.1 x.2
theorem Wu {c_1:Contract}{s_2:State}{r}(h:sD c_1 s_2=some r):zU.F (Bs (c_1,s_2))=some (B5 r):=aA (aU aQ (az cD)) h
noncomputable def iM:Code:=ay Tryz.f61
noncomputable def me:Env:=bG Tryz.prog [(72,xM),(116,sC),(117,pq),(118,xz),(119,xU),(120,yI),(114,po),(115,zp)]
def iU (x:Contract×State)(r:Bool):St→Prop:=QF me Tryz.f61 [false,false] (Bs x) (B5 r)
theorem Kp (c_1:Contract)(s_2:State)(r5:(List ah)):cl me 0 (iU (c_1,s_2)) (cL (cL (cR (cL (cR (cR (cR iM))))))) 0 (rq c_1 s_2 r5) (fun u=>(sT 86 [(2,.hp 1 0 [] 2 0 0),(3,.hp 2 0 [] 5 0 0)] [⟨0,2,[.agg [.isl false (c_1.Parties.map str),.isl false (c_1.Clauses.map ac)]]⟩,⟨0,5,[.agg [I s_2.Day,.isl false (s_2.Facts.map str),.isl false (s_2.Duties.map ae),.isl false (s_2.Balances.map I),B s_2.Over]]⟩] 3)) fun x6=>(sT 86 [(2,.hp 1 0 [] 2 0 0),(3,.hp 2 0 [] 5 0 0),(5,.hs 3 0 [] 1 0 (r5.map str).length),(6,I x6)] [⟨0,2,[.agg [.isl false (c_1.Parties.map str),.isl false (c_1.Clauses.map ac)]]⟩,⟨0,5,[.agg [I s_2.Day,.isl false (s_2.Facts.map str),.isl false (s_2.Duties.map ae),.isl false (s_2.Balances.map I),B s_2.Over]]⟩,⟨0,1,r5.map str⟩] 4):=d5 (wE c_1 s_2 r5) fun {Q K} hK self ih x6 y h hr hn=>by
 unfold lP at h
 refine cq 6 [41,43] [I x6,.isl false (s_2.Facts.map str)] 52 ?_
 refine oq 68 (I (len s_2.Facts)) rfl (aZ rfl rfl rfl (bg rfl)) ?_
 refine cq 2 [45] [B (decide (x6<(len s_2.Facts)))] 84 ?_
 refine sq h (fun h=>?_) fun h=>?_
 ·refine aq 1 ?_
  refine cq 8 [48,50,51] [.hs 3 0 [] 1 0 (r5.map str).length,.isl false (s_2.Facts.map str),I x6] 148 ?_
  obtain⟨e7,he7,h⟩:=bS h
  refine oq 164 (.iptr (str e7) 0) rfl (al rfl rfl rfl (aM rfl rfl rfl rfl he7)) ?_
  refine cq 1 [53] [str e7] 180 ?_
  obtain⟨r8,hr8,h⟩:=bS h
  refine oq 196 (B r8) rfl (bT rfl rfl (ci rfl rfl rfl (bh (Uj rfl rfl (ew (f:=str) (g:=str) (xs:=r5) rfl rfl (bz dZ))) (bh (bE rfl) cz)) (C3 hr8) (.inl rfl) dA rfl rfl rfl)) ?_
  refine cq 2 [55] [B (!r8)] 212 ?_
  refine sq h (fun h=>?_) fun h=>?_
  ·refine cq 4 [4] [B false] 228 ?_
   exact ai rfl (hr _ (Option.some.inj h).symm _ (qp [B false]))
  ·refine aq 1 ?_
   refine cq 6 [6] [I (ar (x6+1))] 260 ?_
   refine cS ?_
   exact rf [2,3,5,6] [1,2,3] (ih _ _ h hr hn :)
 ·refine aq 1 ?_
  exact rf [2,3] [1,2] (hn _ (Option.some.inj h).symm :) (hk:=hK)
theorem J6 (c_1:Contract)(s_2:State):cl me 0 (iU (c_1,s_2)) (cL (cL (cR (cL (cR (cR (cR (cR iM)))))))) 2 (lu c_1 s_2) (fun u=>(sT 86 [(3,.hp 1 0 [] 5 0 0)] [⟨0,5,[.agg [I s_2.Day,.isl false (s_2.Facts.map str),.isl false (s_2.Duties.map ae),.isl false (s_2.Balances.map I),B s_2.Over]]⟩] 2)) fun x10=>(sT 86 [(2,.hp 1 0 [] 2 0 0),(3,.hp 2 0 [] 5 0 0),(7,I x10)] [⟨0,2,[.agg [.isl false (c_1.Parties.map str),.isl false (c_1.Clauses.map ac)]]⟩,⟨0,5,[.agg [I s_2.Day,.isl false (s_2.Facts.map str),.isl false (s_2.Duties.map ae),.isl false (s_2.Balances.map I),B s_2.Over]]⟩] 3):=d5 (xb c_1 s_2) fun {Q K} hK self ih x10 y h hr hn=>by
 unfold jS at h
 refine cq 6 [56,58] [I x10,.isl false (s_2.Duties.map ae)] 51 ?_
 refine oq 67 (I (len s_2.Duties)) rfl (aZ rfl rfl rfl (bg rfl)) ?_
 refine cq 2 [60] [B (decide (x10<(len s_2.Duties)))] 83 ?_
 refine sq h (fun h=>?_) fun h=>?_
 ·refine aq 1 ?_
  refine cq 7 [63,64,65] [.agg [.isl false (c_1.Parties.map str),.isl false (c_1.Clauses.map ac)],.agg [I s_2.Day,.isl false (s_2.Facts.map str),.isl false (s_2.Duties.map ae),.isl false (s_2.Balances.map I),B s_2.Over],I x10] 131 ?_
  obtain⟨r11,hr11,h⟩:=bS h
  refine oq 147 (B r11) rfl (cP (Yw hr11)) ?_
  refine cq 2 [67] [B (!r11)] 163 ?_
  refine sq h (fun h=>?_) fun h=>?_
  ·refine cq 4 [4] [B false] 179 ?_
   exact ai rfl (hr _ (Option.some.inj h).symm _ (qp [B false]))
  ·refine aq 1 ?_
   refine cq 6 [7] [I (ar (x10+1))] 211 ?_
   refine cS ?_
   exact rf [2,3,7] [1,2] (ih _ _ h hr hn :)
 ·refine aq 1 ?_
  exact rf [3] [2] (hn _ (Option.some.inj h).symm :) (hk:=hK)
theorem Kn (c_1:Contract)(s_2:State):cl me 0 (iU (c_1,s_2)) (cL (cL (cR (cL (cR (cR (cR (cR (cR iM))))))))) 4 (qT c_1 s_2) (fun u=>(sT 86 [(3,.hp 1 0 [] 5 0 0)] [⟨0,5,[.agg [I s_2.Day,.isl false (s_2.Facts.map str),.isl false (s_2.Duties.map ae),.isl false (s_2.Balances.map I),B s_2.Over]]⟩] 2)) fun x13=>(sT 86 [(3,.hp 1 0 [] 5 0 0),(8,I x13)] [⟨0,5,[.agg [I s_2.Day,.isl false (s_2.Facts.map str),.isl false (s_2.Duties.map ae),.isl false (s_2.Balances.map I),B s_2.Over]]⟩] 2):=d5 (wA c_1 s_2) fun {Q K} hK self ih x13 y h hr hn=>by
 unfold lD at h
 refine cq 6 [68,70] [I x13,.isl false (s_2.Balances.map I)] 50 ?_
 refine oq 66 (I (len s_2.Balances)) rfl (aZ rfl rfl rfl (bg rfl)) ?_
 refine cq 2 [72] [B (decide (x13<(len s_2.Balances)))] 82 ?_
 refine sq h (fun h=>?_) fun h=>?_
 ·refine aq 1 ?_
  refine cq 7 [76,77] [.isl false (s_2.Balances.map I),I x13] 130 ?_
  obtain⟨e14,he14,h⟩:=bS h
  refine oq 146 (.iptr (I e14) 0) rfl (al rfl rfl rfl (aM rfl rfl rfl rfl he14)) ?_
  refine cq 1 [79] [I e14] 162 ?_
  obtain⟨r15,hr15,h⟩:=bS h
  refine oq 178 (B r15) rfl (cP (WJ hr15)) ?_
  refine cq 2 [81] [B (!r15)] 194 ?_
  refine sq h (fun h=>?_) fun h=>?_
  ·refine cq 4 [4] [B false] 210 ?_
   exact ai rfl (hr _ (Option.some.inj h).symm _ (qp [B false]))
  ·refine aq 1 ?_
   refine cq 6 [8] [I (ar (x13+1))] 242 ?_
   refine cS ?_
   exact rf [3,8] [1] (ih _ _ h hr hn :)
 ·refine aq 1 ?_
  exact rf [3] [1] (hn _ (Option.some.inj h).symm :) (hk:=hK)
theorem RL (c_1:Contract)(s_2:State)(r:Bool)(h:sD c_1 s_2=some r):ba me Tryz.f61 [false,false] 0 (Bs (c_1,s_2)) (B5 r):=by
 show Run _ _ (iU (c_1,s_2) r) [.code iM] _
 refine rI 86 [(0,.agg [.isl false (c_1.Parties.map str),.isl false (c_1.Clauses.map ac)]),(1,.agg [I s_2.Day,.isl false (s_2.Facts.map str),.isl false (s_2.Duties.map ae),.isl false (s_2.Balances.map I),B s_2.Over])] [] 1 ?_
 unfold sD at h
 refine ck 10 [2,3,9] [] [1,17] [] [.hp 1 0 [] 2 0 0,.hp 17 0 [] 5 0 0,.agg [.isl false (c_1.Parties.map str),.isl false (c_1.Clauses.map ac)]] [some ⟨0,2,[.agg [.isl false (c_1.Parties.map str),.isl false (c_1.Clauses.map ac)]]⟩,some ⟨0,5,[.agg [I s_2.Day,.isl false (s_2.Facts.map str),.isl false (s_2.Duties.map ae),.isl false (s_2.Balances.map I),B s_2.Over]]⟩] 65 (by kernel_rfl) ?_
 obtain⟨r3,hr3,h⟩:=bS h
 refine oq 81 (B r3) rfl (cP (Ws hr3)) ?_
 refine cq 2 [12] [B (!r3)] 113 ?_
 obtain⟨y4,hy4,hy41,hy42⟩:=bJ h
 have j4:∀u4,y4=.inr u4→Run me 0 (iU (c_1,s_2) r) (.code (cR (cL (cR iM)))::.code (cR (cR iM))::[]) (sT 86 [(2,.hp 1 0 [] 2 0 0),(3,.hp 2 0 [] 5 0 0),(38,B u4)] [⟨0,2,[.agg [.isl false (c_1.Parties.map str),.isl false (c_1.Clauses.map ac)]]⟩,⟨0,5,[.agg [I s_2.Day,.isl false (s_2.Facts.map str),.isl false (s_2.Duties.map ae),.isl false (s_2.Balances.map I),B s_2.Over]]⟩] 3):=by
  intro u4 hu
  replace h:=hy42 u4 hu
  refine sq h (fun h=>?_) fun h=>?_
  ·refine cq 4 [4] [B false] 19 ?_
   obtain rfl:=Option.some.inj h
   exact ai rfl (qp [B false])
  ·refine aq 1 ?_
   refine cq 3 [39] [.agg [.isl false (c_1.Parties.map str),.isl false (c_1.Clauses.map ac)]] 19 ?_
   obtain⟨r5,hr5,h⟩:=bS h
   refine oq 35 (.hs 19 0 [] 1 0 (r5.map str).length) rfl (cP (Qj hr5)) ?_
   refine cq 8 [5,6] [.hs 19 0 [] 1 0 (r5.map str).length,I (0)] 67 ?_
   obtain⟨y9,hy9,hy91,hy92⟩:=bJ h
   refine bW rfl ?_
   refine rf [2,3,5,6] [1,2,19] (Kp c_1 s_2 r5 rfl 0 _ hy9 (fun r' e st hq=>by rw[hy91 r' e] at hq;exact hq) fun u9 hu=>?_)
   replace h:=hy92 u9 hu
   refine cq 6 [7] [I (0)] 19 ?_
   obtain⟨y12,hy12,hy121,hy122⟩:=bJ h
   refine bW rfl ?_
   refine rf [2,3,7] [1,2] (J6 c_1 s_2 rfl 0 _ hy12 (fun r' e st hq=>by rw[hy121 r' e] at hq;exact hq) fun u12 hu=>?_)
   replace h:=hy122 u12 hu
   refine cq 6 [8] [I (0)] 18 ?_
   obtain⟨y16,hy16,hy161,hy162⟩:=bJ h
   refine bW rfl ?_
   refine rf [3,8] [1] (Kn c_1 s_2 rfl 0 _ hy16 (fun r' e st hq=>by rw[hy161 r' e] at hq;exact hq) fun u16 hu=>?_)
   replace h:=hy162 u16 hu
   refine cq 4 [83] [.isl false (s_2.Balances.map I)] 34 ?_
   obtain⟨r17,hr17,h⟩:=bS h
   refine oq 50 (I r17) rfl (cP (X9 hr17)) ?_
   refine cq 3 [4] [B (r17==0)] 82 ?_
   obtain rfl:=Option.some.inj h
   exact ai rfl (qp [B (r17==0)])
 have r4:∀r',y4=.inl r'→∀st,iU (c_1,s_2) r' st→(iU (c_1,s_2) r) st:=fun r' e st hq=>by rw[hy41 r' e] at hq;exact hq
 replace h:=hy4
 refine sp 12 h rfl (fun h=>?_) fun h=>?_
 ·refine cq 27 [38] [B true] 529 ?_
  exact rf [2,3,38] [1,17] (j4 _ (Option.some.inj h).symm :)
 ·refine cq 2 [14] [I s_2.Day] 145 ?_
  obtain⟨r18,hr18,h⟩:=bS h
  refine oy 161 (B r18) rfl (cP (BR hr18)) ?_
  refine cq 3 [18] [B (!r18)] 209 ?_
  obtain⟨y19,hy19,hy191,hy192⟩:=bL h
  have j19:∀u19,y19=.inr u19→Run me 0 (iU (c_1,s_2) r) (.code (cR (cL (cR iM)))::.code (cR (cR iM))::[]) (sT 86 [(2,.hp 1 0 [] 2 0 0),(3,.hp 2 0 [] 5 0 0),(38,B u19)] [⟨0,2,[.agg [.isl false (c_1.Parties.map str),.isl false (c_1.Clauses.map ac)]]⟩,⟨0,5,[.agg [I s_2.Day,.isl false (s_2.Facts.map str),.isl false (s_2.Duties.map ae),.isl false (s_2.Balances.map I),B s_2.Over]]⟩] 3):=by
   intro u19 hu
   replace h:=hy192 u19 hu
   exact rf [2,3,38] [1,2] (j4 _ (Option.some.inj h).symm :)
  have r19:∀r',y19=.inl r'→∀st,iU (c_1,s_2) r' st→(iU (c_1,s_2) r) st:=fun r' e st hq=>r4 r' (hy191 r' e) st hq
  replace h:=hy19
  refine sp 18 h rfl (fun h=>?_) fun h=>?_
  ·refine cq 21 [38] [B true] 529 ?_
   exact rf [2,3,38] [1,17] (j19 _ (Option.some.inj h).symm :)
  ·refine cq 2 [20] [.isl false (s_2.Facts.map str)] 241 ?_
   obtain⟨r20,hr20,h⟩:=bS h
   refine oy 257 (B r20) rfl (cP (Ya hr20)) ?_
   refine cq 3 [24] [B (!r20)] 305 ?_
   obtain⟨u21,hu21,h⟩:=lJ h
   have j21:Run me 0 (iU (c_1,s_2) r) (.code (cR (cL (cR iM)))::.code (cR (cR iM))::[]) (sT 86 [(2,.hp 1 0 [] 2 0 0),(3,.hp 2 0 [] 5 0 0),(38,B u21)] [⟨0,2,[.agg [.isl false (c_1.Parties.map str),.isl false (c_1.Clauses.map ac)]]⟩,⟨0,5,[.agg [I s_2.Day,.isl false (s_2.Facts.map str),.isl false (s_2.Duties.map ae),.isl false (s_2.Balances.map I),B s_2.Over]]⟩] 3):=by
    exact rf [2,3,38] [1,2] (j19 _ (Option.some.inj h).symm :)
   replace h:=hu21
   clear hu21
   refine sp 24 h rfl (fun h=>?_) fun h=>?_
   ·refine cq 15 [38] [B true] 529 ?_
    subst h
    exact rf [2,3,38] [1,17] (j21 :)
   ·refine cq 2 [26] [.isl false (s_2.Duties.map ae)] 337 ?_
    refine oy 353 (I (len s_2.Duties)) rfl (aZ rfl rfl rfl (bg rfl)) ?_
    refine cq 3 [30] [B (decide ((len s_2.Duties)>24))] 401 ?_
    obtain⟨u22,hu22,h⟩:=lJ h
    have j22:Run me 0 (iU (c_1,s_2) r) (.code (cR (cL (cR iM)))::.code (cR (cR iM))::[]) (sT 86 [(2,.hp 1 0 [] 2 0 0),(3,.hp 2 0 [] 5 0 0),(38,B u22)] [⟨0,2,[.agg [.isl false (c_1.Parties.map str),.isl false (c_1.Clauses.map ac)]]⟩,⟨0,5,[.agg [I s_2.Day,.isl false (s_2.Facts.map str),.isl false (s_2.Duties.map ae),.isl false (s_2.Balances.map I),B s_2.Over]]⟩] 3):=by
     subst h
     exact rf [2,3,38] [1,2] (j21 :)
    replace h:=hu22
    clear hu22
    refine sp 30 h rfl (fun h=>?_) fun h=>?_
    ·refine cq 9 [38] [B true] 529 ?_
     subst h
     exact rf [2,3,38] [1,17] (j22 :)
    ·refine cq 2 [32] [.isl false (s_2.Balances.map I)] 433 ?_
     refine oy 449 (I (len s_2.Balances)) rfl (aZ rfl rfl rfl (bg rfl)) ?_
     refine cq 2 [35] [.isl false (c_1.Parties.map str)] 481 ?_
     refine oy 497 (I (len c_1.Parties)) rfl (aZ rfl rfl rfl (bg rfl)) ?_
     refine cq 3 [38] [B ((len s_2.Balances) != (len c_1.Parties))] 529 ?_
     subst h
     exact rf [2,3,38] [1,17] (j22 :)
theorem OI {G:Go.Ln.Ground}:aH Tryz.prog G 61 zU:=gT 2 0 (aB NU (aB Fw (aB ut (aB PN (aB PF (aB Pk (aB uB (aB PR bc)))))))) (Checked.mixed Tryz.checked) Tryz.func61 (fun a r h=>RL a.1 a.2 r h)
def un:(Condition×(List ah)×Int)→List V:=cA aP (cA (eu str) (oA I))
def ue (r:Bool):V×List V:=(B r,[])
noncomputable def uU (slf_Ffdj:(Condition×(List ah)×Int)→Option Bool):Ent:=aO [false,false,false] un ue slf_Ffdj
theorem oI (slf_Ffdj:(Condition×(List ah)×Int)→Option Bool){x}{r}(h:slf_Ffdj x=some r):(uU slf_Ffdj).F (un x)=some (ue r):=aA (aU cb (aU (bi bf) (az bA))) h
noncomputable def xP:Ent:=uU (aE jQ)
theorem PT {c_1:Condition}{facts_2:List ah}{day_3:Int}{r}(h:ER c_1 facts_2 day_3=some r):xP.F (un (c_1,facts_2,day_3))=some (ue r):=oI (aE jQ) h
noncomputable def Af:Code:=ay Tryz.f85
noncomputable def DN (slf_Ffdj:(Condition×(List ah)×Int)→Option Bool):Env:=bG Tryz.prog [(117,pq),(85,(uU slf_Ffdj))]
def o8 (slf_Ffdj:(Condition×(List ah)×Int)→Option Bool)(x:Condition×(List ah)×Int)(r:Bool):St→Prop:=QF (DN slf_Ffdj) Tryz.f85 [false,false,false] (un x) (ue r)
theorem Sb (slf_Ffdj:(Condition×(List ah)×Int)→Option Bool)(c_1:Condition)(facts_2:List ah)(day_3:Int)(r:Bool)(h:rJ slf_Ffdj c_1 facts_2 day_3=some r):ba (DN slf_Ffdj) Tryz.f85 [false,false,false] 0 (un (c_1,facts_2,day_3)) (ue r):=by
 show Run _ _ (o8 slf_Ffdj (c_1,facts_2,day_3) r) [.code Af] _
 refine rI 67 [(0,.agg [I c_1.Op,str c_1.Name,I c_1.Day,.isl false (c_1.Parts.map aa)]),(1,.isl false (facts_2.map str)),(2,I day_3)] [] 1 ?_
 unfold rJ at h
 refine ck 17 [3,8,9] [] [1] [] [.hp 1 0 [] 4 0 0,I c_1.Op,B (c_1.Op==1)] [some ⟨0,4,[.agg [I c_1.Op,str c_1.Name,I c_1.Day,.isl false (c_1.Parts.map aa)]]⟩] 97 (by kernel_rfl) ?_
 refine sq h (fun h=>?_) fun h=>?_
 ·refine cq 4 [6] [B true] 113 ?_
  obtain rfl:=Option.some.inj h
  exact ai rfl (qp [B true])
 ·refine cq 5 [11] [B (c_1.Op==2)] 129 ?_
  refine sq h (fun h=>?_) fun h=>?_
  ·refine cq 5 [13,15] [.isl false (facts_2.map str),str c_1.Name] 177 ?_
   obtain⟨r4,hr4,h⟩:=bS h
   refine oq 193 (B r4) rfl (cP (C3 hr4)) ?_
   refine cq 2 [6] [B r4] 209 ?_
   obtain rfl:=Option.some.inj h
   exact ai rfl (qp [B r4])
  ·refine cq 5 [17] [B (c_1.Op==3)] 161 ?_
   refine sq h (fun h=>?_) fun h=>?_
   ·refine cq 8 [6] [B (decide (day_3≥c_1.Day))] 241 ?_
    obtain rfl:=Option.some.inj h
    exact ai rfl (qp [B (decide (day_3≥c_1.Day))])
   ·refine cq 5 [23] [B (c_1.Op==4)] 193 ?_
    refine sq h (fun h=>?_) fun h=>?_
    ·refine cq 4 [26] [.isl false (c_1.Parts.map aa)] 225 ?_
     obtain⟨e5,he5,h⟩:=bS h
     refine oq 241 (.iptr (.agg [I e5.Op,str e5.Name,I e5.Day,.isl false (e5.Parts.map aa)]) 0) rfl (al rfl rfl rfl (aM rfl rfl (bb e5) rfl he5)) ?_
     refine cq 3 [28,29,30] [.agg [I e5.Op,str e5.Name,I e5.Day,.isl false (e5.Parts.map aa)],.isl false (facts_2.map str),I day_3] 289 ?_
     obtain⟨r6,hr6,h⟩:=bS h
     refine oq 305 (B r6) rfl (bT rfl rfl (ci rfl rfl rfl (bh (bE rfl) (bh (bE rfl) (bh (bE rfl) cz))) (oI slf_Ffdj hr6) (.inr rfl) dA rfl rfl rfl)) ?_
     refine cq 3 [6] [B (!r6)] 337 ?_
     obtain rfl:=Option.some.inj h
     exact ai rfl (qp [B (!r6)])
    ·refine cq 5 [33] [B (c_1.Op==5)] 225 ?_
     refine sq h (fun h=>?_) fun h=>?_
     ·refine cq 4 [36] [.isl false (c_1.Parts.map aa)] 257 ?_
      obtain⟨e7,he7,h⟩:=bS h
      refine oq 273 (.iptr (.agg [I e7.Op,str e7.Name,I e7.Day,.isl false (e7.Parts.map aa)]) 0) rfl (al rfl rfl rfl (aM rfl rfl (bb e7) rfl he7)) ?_
      refine cq 3 [38,39,40] [.agg [I e7.Op,str e7.Name,I e7.Day,.isl false (e7.Parts.map aa)],.isl false (facts_2.map str),I day_3] 321 ?_
      obtain⟨r8,hr8,h⟩:=bS h
      refine oq 337 (B r8) rfl (bT rfl rfl (ci rfl rfl rfl (bh (bE rfl) (bh (bE rfl) (bh (bE rfl) cz))) (oI slf_Ffdj hr8) (.inr rfl) dA rfl rfl rfl)) ?_
      refine cq 1 [42] [B r8] 353 ?_
      obtain⟨y9,hy9,hy91,hy92⟩:=bJ h
      have j9:∀u9,y9=.inr u9→Run (DN slf_Ffdj) 0 (o8 slf_Ffdj (c_1,facts_2,day_3) r) (.code (cR (cL (cR (cR (cR (cR (cR (cR (cR (cR (cR (cL (cR (cL (cR Af)))))))))))))))::.blk 0::.code (cR (cR Af))::[]) (sT 67 [(6,B u9)] [] 1):=by
       intro u9 hu
       replace h:=hy92 u9 hu
       obtain rfl:=Option.some.inj h
       exact ai rfl (qp [B u9])
      have r9:∀r',y9=.inl r'→∀st,o8 slf_Ffdj (c_1,facts_2,day_3) r' st→(o8 slf_Ffdj (c_1,facts_2,day_3) r) st:=fun r' e st hq=>by rw[hy91 r' e] at hq;exact hq
      replace h:=hy9
      refine sp 42 h rfl (fun h=>?_) fun h=>?_
      ·refine cq 2 [44] [.isl false (c_1.Parts.map aa)] 385 ?_
       obtain⟨e10,he10,h⟩:=bS h
       refine oy 401 (.iptr (.agg [I e10.Op,str e10.Name,I e10.Day,.isl false (e10.Parts.map aa)]) 0) rfl (al rfl rfl rfl (aM rfl rfl (bb e10) rfl he10)) ?_
       refine cq 3 [46,47,48] [.agg [I e10.Op,str e10.Name,I e10.Day,.isl false (e10.Parts.map aa)],.isl false (facts_2.map str),I day_3] 449 ?_
       obtain⟨r11,hr11,h⟩:=bS h
       refine oy 465 (B r11) rfl (bT rfl rfl (ci rfl rfl rfl (bh (bE rfl) (bh (bE rfl) (bh (bE rfl) cz))) (oI slf_Ffdj hr11) (.inr rfl) dA rfl rfl rfl)) ?_
       refine cq 3 [6] [B r11] 497 ?_
       exact rf [6] [] (j9 _ (Option.some.inj h).symm :)
      ·refine cq 10 [6] [B false] 497 ?_
       exact rf [6] [] (j9 _ (Option.some.inj h).symm :)
     ·refine aq 1 ?_
      refine cq 5 [52] [.isl false (c_1.Parts.map aa)] 257 ?_
      obtain⟨e12,he12,h⟩:=bS h
      refine oq 273 (.iptr (.agg [I e12.Op,str e12.Name,I e12.Day,.isl false (e12.Parts.map aa)]) 0) rfl (al rfl rfl rfl (aM rfl rfl (bb e12) rfl he12)) ?_
      refine cq 3 [54,55,56] [.agg [I e12.Op,str e12.Name,I e12.Day,.isl false (e12.Parts.map aa)],.isl false (facts_2.map str),I day_3] 321 ?_
      obtain⟨r13,hr13,h⟩:=bS h
      refine oq 337 (B r13) rfl (bT rfl rfl (ci rfl rfl rfl (bh (bE rfl) (bh (bE rfl) (bh (bE rfl) cz))) (oI slf_Ffdj hr13) (.inr rfl) dA rfl rfl rfl)) ?_
      refine cq 1 [58] [B r13] 353 ?_
      obtain⟨y14,hy14,hy141,hy142⟩:=bJ h
      have j14:∀u14,y14=.inr u14→Run (DN slf_Ffdj) 0 (o8 slf_Ffdj (c_1,facts_2,day_3) r) (.code (cR (cR (cR Af)))::[]) (sT 67 [(6,B u14)] [] 1):=by
       intro u14 hu
       replace h:=hy142 u14 hu
       obtain rfl:=Option.some.inj h
       exact ai rfl (qp [B u14])
      have r14:∀r',y14=.inl r'→∀st,o8 slf_Ffdj (c_1,facts_2,day_3) r' st→(o8 slf_Ffdj (c_1,facts_2,day_3) r) st:=fun r' e st hq=>by rw[hy141 r' e] at hq;exact hq
      replace h:=hy14
      refine sp 58 h rfl (fun h=>?_) fun h=>?_
      ·refine cq 10 [6] [B true] 497 ?_
       exact rf [6] [] (j14 _ (Option.some.inj h).symm :)
      ·refine cq 2 [60] [.isl false (c_1.Parts.map aa)] 385 ?_
       obtain⟨e15,he15,h⟩:=bS h
       refine oy 401 (.iptr (.agg [I e15.Op,str e15.Name,I e15.Day,.isl false (e15.Parts.map aa)]) 0) rfl (al rfl rfl rfl (aM rfl rfl (bb e15) rfl he15)) ?_
       refine cq 3 [62,63,64] [.agg [I e15.Op,str e15.Name,I e15.Day,.isl false (e15.Parts.map aa)],.isl false (facts_2.map str),I day_3] 449 ?_
       obtain⟨r16,hr16,h⟩:=bS h
       refine oy 465 (B r16) rfl (bT rfl rfl (ci rfl rfl rfl (bh (bE rfl) (bh (bE rfl) (bh (bE rfl) cz))) (oI slf_Ffdj hr16) (.inr rfl) dA rfl rfl rfl)) ?_
       refine cq 3 [6] [B r16] 497 ?_
       exact rf [6] [] (j14 _ (Option.some.inj h).symm :)
theorem Ox {G:Go.Ln.Ground}:aH Tryz.prog G 85 xP:=gK fun slf_Ffdj g_Ffdj=>gT 3 0 (aB ut (aB g_Ffdj bc)) (Checked.mixed Tryz.checked) Tryz.func85 (fun a r h=>Sb slf_Ffdj a.1 a.2.1 a.2.2 r h)
def Ee:(Contract×State×Int)→List V:=cA aG (cA bI (oA I))
def CA (r:Bool×Bool):V×List V:=(.tup [B r.1,B r.2],[])
noncomputable def yf:Ent:=aO [false,false,false] Ee CA fun x=>yz x.1 x.2.1 x.2.2
theorem Ow {c_1:Contract}{s_2:State}{i_3:Int}{r}(h:yz c_1 s_2 i_3=some r):yf.F (Ee (c_1,s_2,i_3))=some (CA r):=aA (aU aQ (aU cD (az bA))) h
noncomputable def I1:Code:=ay Tryz.f35
noncomputable def Ia:Env:=bG Tryz.prog [(61,zU),(85,xP),(73,ef)]
def Da (x:Contract×State×Int)(r:Bool×Bool):St→Prop:=QF Ia Tryz.f35 [false,false,false] (Ee x) (CA r)
theorem S0 (c_1:Contract)(s_2:State)(i_3:Int)(r:Bool×Bool)(h:yz c_1 s_2 i_3=some r):ba Ia Tryz.f35 [false,false,false] 0 (Ee (c_1,s_2,i_3)) (CA r):=by
 show Run _ _ (Da (c_1,s_2,i_3) r) [.code I1] _
 refine rI 32 [(0,.agg [.isl false (c_1.Parties.map str),.isl false (c_1.Clauses.map ac)]),(1,.agg [I s_2.Day,.isl false (s_2.Facts.map str),.isl false (s_2.Duties.map ae),.isl false (s_2.Balances.map I),B s_2.Over]),(2,I i_3)] [] 1 ?_
 unfold yz at h
 refine ck 12 [3,4,8,9] [] [1,17] [] [.hp 1 0 [] 2 0 0,.hp 17 0 [] 5 0 0,.agg [.isl false (c_1.Parties.map str),.isl false (c_1.Clauses.map ac)],.agg [I s_2.Day,.isl false (s_2.Facts.map str),.isl false (s_2.Duties.map ae),.isl false (s_2.Balances.map I),B s_2.Over]] [some ⟨0,2,[.agg [.isl false (c_1.Parties.map str),.isl false (c_1.Clauses.map ac)]]⟩,some ⟨0,5,[.agg [I s_2.Day,.isl false (s_2.Facts.map str),.isl false (s_2.Duties.map ae),.isl false (s_2.Balances.map I),B s_2.Over]]⟩] 97 (by kernel_rfl) ?_
 obtain⟨r4,hr4,h⟩:=bS h
 refine oq 113 (B r4) rfl (cP (Wu hr4)) ?_
 refine cq 2 [12] [B (!r4)] 145 ?_
 obtain⟨y5,hy5,hy51,hy52⟩:=bJ h
 have j5:∀u5,y5=.inr u5→Run Ia 0 (Da (c_1,s_2,i_3) r) (.code (cR (cL (cR I1)))::.code (cR (cR I1))::[]) (sT 32 [(2,I i_3),(3,.hp 1 0 [] 2 0 0),(4,.hp 2 0 [] 5 0 0),(20,B u5)] [⟨0,2,[.agg [.isl false (c_1.Parties.map str),.isl false (c_1.Clauses.map ac)]]⟩,⟨0,5,[.agg [I s_2.Day,.isl false (s_2.Facts.map str),.isl false (s_2.Duties.map ae),.isl false (s_2.Balances.map I),B s_2.Over]]⟩] 3):=by
  intro u5 hu
  replace h:=hy52 u5 hu
  refine sq h (fun h=>?_) fun h=>?_
  ·refine cq 5 [6,7] [B false,B false] 35 ?_
   obtain rfl:=Option.some.inj h
   exact ai rfl (qp [B false,B false])
  ·refine aq 1 ?_
   refine aq 1 ?_
   refine dN [0,1,0,7,15,31,0,64,0,256,1023,2047,4095] rfl (by decide +kernel) ?_
   refine dq [1] [] (.hp 1 0 [] 2 0 1) rfl (ak rfl rfl rfl) ?_
   refine dq [1] [] (.isl false (c_1.Clauses.map ac)) rfl (aL rfl rfl) ?_
   refine dk 1 [23] [I i_3] ?_
   obtain⟨e6,he6,h⟩:=bS h
   refine dq [] [] (.iptr (.agg [str e6.Id,I e6.Kind,I e6.Party,str e6.Action,I e6.Other,I e6.Amount,I e6.When.Op,str e6.When.Name,I e6.When.Day,.isl false (e6.When.Parts.map aa),I e6.Within,str e6.Repair]) 0) rfl (al rfl rfl rfl (aM rfl rfl rfl rfl he6)) ?_
   refine dq [] [] (.iptr (.agg [str e6.Id,I e6.Kind,I e6.Party,str e6.Action,I e6.Other,I e6.Amount,I e6.When.Op,str e6.When.Name,I e6.When.Day,.isl false (e6.When.Parts.map aa),I e6.Within,str e6.Repair]) 6) rfl (ak rfl rfl rfl) ?_
   refine dq [] [] (.agg [I e6.When.Op,str e6.When.Name,I e6.When.Day,.isl false (e6.When.Parts.map aa)]) rfl (aL rfl rfl) ?_
   refine dq [2] [] (.hp 2 0 [] 5 0 1) rfl (ak rfl rfl rfl) ?_
   refine dq [2] [] (.isl false (s_2.Facts.map str)) rfl (aL rfl rfl) ?_
   refine dq [2] [] (.hp 2 0 [] 5 0 0) rfl (ak rfl rfl rfl) ?_
   refine dq [2] [] (I s_2.Day) rfl (aL rfl rfl) ?_
   obtain⟨r7,hr7,h⟩:=bS h
   refine dq [] [] (B r7) rfl (cP (PT hr7)) ?_ (ct rfl rfl rfl rfl (bh (bE rfl) (bh (bE rfl) (bh (bE rfl) cz))) (PT hr7) (.inr rfl) rfl)
   refine dk 2 [7,6] [B true,B r7] ?_
   refine de 211 rfl rfl ?_
   obtain rfl:=Option.some.inj h
   exact ai rfl (qp [B r7,B true])
 have r5:∀r',y5=.inl r'→∀st,Da (c_1,s_2,i_3) r' st→(Da (c_1,s_2,i_3) r) st:=fun r' e st hq=>by rw[hy51 r' e] at hq;exact hq
 replace h:=hy5
 refine sp 12 h rfl (fun h=>?_) fun h=>?_
 ·refine cq 9 [20] [B true] 273 ?_
  exact rf [2,3,4,20] [1,17] (j5 _ (Option.some.inj h).symm :)
 ·refine cq 3 [13,15] [I i_3,.isl false (c_1.Clauses.map ac)] 193 ?_
  refine oy 209 (I (len c_1.Clauses)) rfl (aZ rfl rfl rfl (bg rfl)) ?_
  refine cq 1 [17] [I (ar ((len c_1.Clauses) - 1))] 225 ?_
  obtain⟨r8,hr8,h⟩:=bS h
  refine oy 241 (B r8) rfl (cP (cV hr8)) ?_
  refine cq 3 [20] [B (!r8)] 273 ?_
  exact rf [2,3,4,20] [1,17] (j5 _ (Option.some.inj h).symm :)
theorem QP {G:Go.Ln.Ground}:aH Tryz.prog G 35 yf:=gT 3 0 (aB OI (aB Ox (aB eK bc))) (Checked.mixed Tryz.checked) Tryz.func35 (fun a r h=>S0 a.1 a.2.1 a.2.2 r h)
def BD:(Int×Int×Int)→List V:=cA I (cA I (oA I))
def Eh (r:Bool):V×List V:=(B r,[])
noncomputable def gm:Ent:=aO [false,false,false] BD Eh fun x=>gq x.1 x.2.1 x.2.2
theorem gb {n_1:Int}{low_2:Int}{high_3:Int}{r}(h:gq n_1 low_2 high_3=some r):gm.F (BD (n_1,low_2,high_3))=some (Eh r):=aA (aU bA (aU bA (az bA))) h
noncomputable def QC:Code:=ay Tryz.f86
noncomputable def HM:Env:=bG Tryz.prog []
def Pt (x:Int×Int×Int)(r:Bool):St→Prop:=QF HM Tryz.f86 [false,false,false] (BD x) (Eh r)
theorem Td (n_1:Int)(low_2:Int)(high_3:Int)(r:Bool)(h:gq n_1 low_2 high_3=some r):ba HM Tryz.f86 [false,false,false] 0 (BD (n_1,low_2,high_3)) (Eh r):=by
 show Run _ _ (Pt (n_1,low_2,high_3) r) [.code QC] _
 refine rI 15 [(0,I n_1),(1,I low_2),(2,I high_3)] [] 1 ?_
 unfold gq at h
 refine cq 10 [10] [B (decide (n_1≥low_2))] 81 ?_
 obtain⟨u4,hu4,h⟩:=lJ h
 have j4:Run HM 0 (Pt (n_1,low_2,high_3) r) (.code (cR (cR QC))::[]) (sT 15 [(6,B u4)] [] 1):=by
  obtain rfl:=Option.some.inj h
  exact ai rfl (qp [B u4])
 replace h:=hu4
 clear hu4
 refine sp 10 h rfl (fun h=>?_) fun h=>?_
 ·refine cq 6 [6] [B (decide (n_1≤high_3))] 161 ?_
  subst h
  exact rf [6] [] (j4 :)
 ·refine cq 6 [6] [B false] 161 ?_
  subst h
  exact rf [6] [] (j4 :)
theorem gx {G:Go.Ln.Ground}:aH Tryz.prog G 86 gm:=gT 3 0 bc (Checked.mixed Tryz.checked) Tryz.func86 (fun a r h=>Td a.1 a.2.1 a.2.2 r h)
noncomputable def iJ:Ent:=⟨[false,false],sX (nf str) (nf (V.int .u8)) fun s c=>some (I ((Lib.countByte s c.toNat.toUInt8:Nat):Int),[])⟩
theorem Er {s:ah}{c r:Int}(h:uI s c=some r):iJ.F [str s,.int .u8 c]=some (I r,[]):=by
 cases h
 simp only[iJ,sX,CC bf,CC QW,Option.bind_some]
theorem E3:Extern.findNext Tryz.f266=none:=by kernel_rfl
theorem Eo:Extern.find Tryz.f266=some Extern.BytealgCount.count:=by kernel_rfl
theorem vY {G:Go.Ln.Ground}:aH Tryz.prog G 266 iJ:=KS (g:=fun s c=>((Lib.countByte s c.toNat.toUInt8:Nat):Int)) Tryz.func266 rfl (by decide) E3 Eo fun s c w=>Lib.run_countString s c w
noncomputable def f6:Ent:=⟨[false,false],sX (nf str) (nf (V.int .u8)) fun s c=>some (I (Lib.indexByte s c.toNat.toUInt8),[])⟩
theorem ur {s:ah}{c r:Int}(h:oX s c=some r):f6.F [str s,.int .u8 c]=some (I r,[]):=by
 cases h
 simp only[f6,sX,CC bf,CC QW,Option.bind_some]
theorem ua:Extern.findNext Tryz.f286=none:=by kernel_rfl
theorem tD:Extern.find Tryz.f286=some Extern.BytealgIndexByte.indexByte:=by kernel_rfl
theorem qQ {G:Go.Ln.Ground}:aH Tryz.prog G 286 f6:=KS (g:=fun s c=>Lib.indexByte s c.toNat.toUInt8) Tryz.func286 rfl (by decide) ua tD fun s c w=>Lib.run_indexByteString s c w
def El:(ah×Int)→List V:=cA str (oA (V.int .u8))
def Bb (r:Int):V×List V:=(I r,[])
noncomputable def zb:Ent:=aO [false,false] El Bb fun x=>HP x.1 x.2
theorem Yf {s_1:ah}{c_2:Int}{r}(h:HP s_1 c_2=some r):zb.F (El (s_1,c_2))=some (Bb r):=aA (aU bf (az (Ju (k:=.u8)))) h
noncomputable def WT:Code:=ay Tryz.f277
noncomputable def Qp:Env:=bG Tryz.prog [(286,f6)]
def Xh (x:ah×Int)(r:Int):St→Prop:=QF Qp Tryz.f277 [false,false] (El x) (Bb r)
theorem Se (s_1:ah)(c_2:Int)(r:Int)(h:HP s_1 c_2=some r):ba Qp Tryz.f277 [false,false] 0 (El (s_1,c_2)) (Bb r):=by
 show Run _ _ (Xh (s_1,c_2) r) [.code WT] _
 refine rI 8 [(0,str s_1),(1,.int .u8 c_2)] [] 1 ?_
 unfold HP at h
 refine cq 8 [5,6] [str s_1,.int .u8 c_2] 49 ?_
 obtain⟨r3,hr3,h⟩:=bS h
 refine oq 65 (I r3) rfl (cP (ur hr3)) ?_
 refine cq 2 [4] [I r3] 81 ?_
 obtain rfl:=Option.some.inj h
 exact ai rfl (qp [I r3])
theorem PX {G:Go.Ln.Ground}:aH Tryz.prog G 277 zb:=gT 2 0 (aB qQ bc) (Checked.mixed Tryz.checked) Tryz.func277 (fun a r h=>Se a.1 a.2 r h)
def B0:(ah×ah)→List V:=cA str (oA str)
def DU (r:Int):V×List V:=(I r,[])
noncomputable def yY:Ent:=aO [false,false] B0 DU fun x=>Jf x.1 x.2
theorem Yn {s_1:ah}{substr_2:ah}{r}(h:Jf s_1 substr_2=some r):yY.F (B0 (s_1,substr_2))=some (DU r):=aA (aU bf (az bf)) h
noncomputable def IM:Code:=ay Tryz.f267
noncomputable def Ho:Env:=bG Tryz.prog [(277,zb)]
def PC (x:ah×ah)(r:Int):St→Prop:=QF Ho Tryz.f267 [false,false] (B0 x) (DU r)
theorem Ua (s_1:ah)(substr_2:ah)(r:Int)(h:Jf s_1 substr_2=some r):ba Ho Tryz.f267 [false,false] 0 (B0 (s_1,substr_2)) (DU r):=by
 show Run _ _ (PC (s_1,substr_2) r) [.code IM] _
 refine rI 143 [(0,str s_1),(1,str substr_2)] [] 1 ?_
 unfold Jf at h
 refine cq 17 [5,19] [I (len substr_2),B ((len substr_2)==0)] 113 ?_
 obtain⟨u3,hu3,h⟩:=lJ h
 have j3:Run Ho 0 (PC (s_1,substr_2) r) (.code (cR (cL (cL (cR (cR IM)))))::.blk 0::.code (cR (cR (cR IM)))::[]) (sT 143 [(0,str s_1),(1,str substr_2),(5,I (len substr_2)),(16,B u3)] [] 1):=by
  refine sq h (fun h=>?_) fun h=>?_
  ·refine cq 4 [4] [I (0)] 17 ?_
   obtain rfl:=Option.some.inj h
   exact ai rfl (qp [I (0)])
  ·refine cq 6 [24] [B ((len substr_2)==1)] 49 ?_
   refine sq h (fun h=>?_) fun h=>?_
   ·refine cq 4 [27,28] [str s_1,str substr_2] 81 ?_
    obtain⟨c4,hc4,h⟩:=bS h
    refine oq 97 (.int .u8 (c4.toNat:Int)) rfl (lg rfl rfl (pP rfl rfl hc4)) ?_
    obtain⟨r5,hr5,h⟩:=bS h
    refine oq 113 (I r5) rfl (cP (Yf hr5)) ?_
    refine cq 2 [4] [I r5] 129 ?_
    obtain rfl:=Option.some.inj h
    exact ai rfl (qp [I r5])
   ·refine cq 8 [31] [B (decide ((len substr_2)≥(len s_1)))] 129 ?_
    refine sq h (fun h=>?_) fun h=>?_
    ·refine cq 4 [4] [I (-1)] 145 ?_
     obtain rfl:=Option.some.inj h
     exact ai rfl (qp [I (-1)])
    ·cases h
 replace h:=hu3
 clear hu3
 refine sp 19 h rfl (fun h=>?_) fun h=>?_
 ·refine cq 6 [16] [B true] 193 ?_
  subst h
  exact rf [0,1,5,16] [] (j3 :)
 ·refine cq 6 [16] [B (substr_2==s_1)] 193 ?_
  subst h
  exact rf [0,1,5,16] [] (j3 :)
theorem QK {G:Go.Ln.Ground}:aH Tryz.prog G 267 yY:=gT 2 0 (aB PX bc) (Checked.mixed Tryz.checked) Tryz.func267 (fun a r h=>Ua a.1 a.2 r h)
def Aa:(ah×ah)→List V:=cA str (oA str)
def Bc (r:Int):V×List V:=(I r,[])
noncomputable def sI:Ent:=aO [false,false] Aa Bc fun x=>EH x.1 x.2
theorem OB {s_1:ah}{substr_2:ah}{r}(h:EH s_1 substr_2=some r):sI.F (Aa (s_1,substr_2))=some (Bc r):=aA (aU bf (az bf)) h
noncomputable def WB:Code:=ay Tryz.f247
noncomputable def OW:Env:=bG Tryz.prog [(267,yY)]
def WA (x:ah×ah)(r:Int):St→Prop:=QF OW Tryz.f247 [false,false] (Aa x) (Bc r)
theorem RD (s_1:ah)(substr_2:ah)(r:Int)(h:EH s_1 substr_2=some r):ba OW Tryz.f247 [false,false] 0 (Aa (s_1,substr_2)) (Bc r):=by
 show Run _ _ (WA (s_1,substr_2) r) [.code WB] _
 refine rI 8 [(0,str s_1),(1,str substr_2)] [] 1 ?_
 unfold EH at h
 refine cq 8 [5,6] [str s_1,str substr_2] 49 ?_
 obtain⟨r3,hr3,h⟩:=bS h
 refine oq 65 (I r3) rfl (cP (Yn hr3)) ?_
 refine cq 2 [4] [I r3] 81 ?_
 obtain rfl:=Option.some.inj h
 exact ai rfl (qp [I r3])
theorem Fn {G:Go.Ln.Ground}:aH Tryz.prog G 247 sI:=gT 2 0 (aB QK bc) (Checked.mixed Tryz.checked) Tryz.func247 (fun a r h=>RD a.1 a.2 r h)
def A8:(ah×ah)→List V:=cA str (oA str)
def Bp (r:Int):V×List V:=(I r,[])
noncomputable def yG:Ent:=aO [false,false] A8 Bp fun x=>HO x.1 x.2
theorem XU {s_1:ah}{substr_2:ah}{r}(h:HO s_1 substr_2=some r):yG.F (A8 (s_1,substr_2))=some (Bp r):=aA (aU bf (az bf)) h
noncomputable def NV:Code:=ay Tryz.f246
noncomputable def HD:Env:=bG Tryz.prog [(266,iJ),(247,sI)]
def O3 (x:ah×ah)(r:Int):St→Prop:=QF HD Tryz.f246 [false,false] (A8 x) (Bp r)
theorem KC (s_1:ah)(substr_2:ah):cl HD 0 (O3 (s_1,substr_2)) (cL (cL (cR (cR (cR (cR NV)))))) 0 (Lq s_1 substr_2) (fun u=>(sT 34 [] [] 1)) fun x5=>(sT 34 [(0,str x5.1),(1,str substr_2),(5,I x5.2)] [] 1):=d5 (JG s_1 substr_2) fun {Q K} hK self ih x5 y h hr hn=>by
 unfold pM at h
 refine cq 5 [20,21] [str x5.1,str substr_2] 33 ?_
 obtain⟨r6,hr6,h⟩:=bS h
 refine oq 49 (I r6) rfl (cP (OB hr6)) ?_
 refine cq 8 [6,24] [I r6,B (r6==(-1))] 97 ?_
 refine sq h (fun h=>?_) fun h=>?_
 ·refine cq 5 [4] [I x5.2] 129 ?_
  exact ai rfl (hr _ (Option.some.inj h).symm _ (qp [I x5.2]))
 ·refine aq 1 ?_
  refine cq 12 [5,28,32] [I (ar (x5.2+1)),str x5.1,I (ar (r6+(len substr_2)))] 225 ?_
  obtain⟨s7,hs7,h⟩:=bS h
  refine oq 241 (str s7) rfl (gt rfl rfl rfl rfl (Jj rfl rfl rfl hs7)) ?_
  refine cq 3 [0] [str s7] 257 ?_
  refine cS ?_
  exact rf [0,1,5] [] (ih _ _ h hr hn :)
theorem RK (s_1:ah)(substr_2:ah)(r:Int)(h:HO s_1 substr_2=some r):ba HD Tryz.f246 [false,false] 0 (A8 (s_1,substr_2)) (Bp r):=by
 show Run _ _ (O3 (s_1,substr_2) r) [.code NV] _
 refine rI 34 [(0,str s_1),(1,str substr_2)] [] 1 ?_
 unfold HO at h
 refine cq 11 [9] [B ((len substr_2)==0)] 65 ?_
 refine sq h (fun h=>?_) fun h=>?_
 ·cases h
 ·refine aq 1 ?_
  refine cq 7 [15] [B ((len substr_2)==1)] 113 ?_
  refine sq h (fun h=>?_) fun h=>?_
  ·refine cq 4 [16,17] [str s_1,str substr_2] 145 ?_
   obtain⟨c3,hc3,h⟩:=bS h
   refine oq 161 (.int .u8 (c3.toNat:Int)) rfl (lg rfl rfl (pP rfl rfl hc3)) ?_
   obtain⟨r4,hr4,h⟩:=bS h
   refine oq 177 (I r4) rfl (cP (Er hr4)) ?_
   refine cq 2 [4] [I r4] 193 ?_
   obtain rfl:=Option.some.inj h
   exact ai rfl (qp [I r4])
  ·refine aq 1 ?_
   refine cq 5 [5] [I (0)] 129 ?_
   obtain⟨y8,hy8,hy81,hy82⟩:=bJ h
   refine bW rfl ?_
   refine rf [0,1,5] [] (KC s_1 substr_2 rfl (s_1,0) _ hy8 (fun r' e st hq=>by rw[hy81 r' e] at hq;exact hq) fun u8 hu=>?_)
   replace h:=hy82 u8 hu
   cases h
theorem P8 {G:Go.Ln.Ground}:aH Tryz.prog G 246 yG:=gT 2 0 (aB vY (aB Fn bc)) (Checked.mixed Tryz.checked) Tryz.func246 (fun a r h=>RK a.1 a.2 r h)
def C7:(ah×ah×Int×Int)→List V:=cA str (cA str (cA I (oA I)))
def Bh (r:(List ah)):V×List V:=(.usl 1 (r.map str),[])
noncomputable def yX:Ent:=aO [false,false,false,false] C7 Bh fun x=>Hy x.1 x.2.1 x.2.2.1 x.2.2.2
theorem Yr {s_1:ah}{sep_2:ah}{sepSave_3:Int}{n_4:Int}{r}(h:Hy s_1 sep_2 sepSave_3 n_4=some r):yX.F (C7 (s_1,sep_2,sepSave_3,n_4))=some (Bh r):=aA (aU bf (aU bf (aU bA (az bA)))) h
noncomputable def Ie:Code:=ay Tryz.f227
noncomputable abbrev U7:Code:=cL (cL (cL (cR (cR (cR (cR (cR (cR (cR (cR Ie))))))))))
noncomputable def Dn:Env:=bG Tryz.prog [(247,sI),(246,yG)]
def uM (x:ah×ah×Int×Int)(r:(List ah)):St→Prop:=QF Dn Tryz.f227 [false,false,false,false] (C7 x) (Bh r)
theorem Kh (s_1:ah)(sep_2:ah)(sepSave_3:Int)(n_4:Int)(u5:Int):cl Dn 0 (uM (s_1,sep_2,sepSave_3,n_4)) U7 0 (vy s_1 sep_2 sepSave_3 n_4 u5) (fun u=>(sT 66 [(0,str u.1),(9,.hs 1 0 [] 1 0 (u.2.2.map str).length),(10,I u.2.1)] [⟨0,1,u.2.2.map str⟩] 2)) fun x7=>(sT 66 [(0,str x7.1),(1,str sep_2),(2,I sepSave_3),(3,I (ar ((if (ar ((len s_1)+1))<u5 then (ar ((len s_1)+1)) else u5) - 1))),(9,.hs 1 0 [] 1 0 (x7.2.2.map str).length),(10,I x7.2.1)] [⟨0,1,x7.2.2.map str⟩] 2):=d5 (xc s_1 sep_2 sepSave_3 n_4 u5) fun {Q K} hK self ih x7 y h hr hn=>by
 unfold pW at h
 refine cq 7 [36] [B (decide (x7.2.1<(ar ((if (ar ((len s_1)+1))<u5 then (ar ((len s_1)+1)) else u5) - 1))))] 50 ?_
 refine sq h (fun h=>?_) fun h=>?_
 ·refine aq 1 ?_
  refine cq 5 [37,38] [str x7.1,str sep_2] 82 ?_
  obtain⟨r8,hr8,h⟩:=bS h
  refine oq 98 (I r8) rfl (cP (OB hr8)) ?_
  refine cq 8 [11,41] [I r8,B (decide (r8<0))] 146 ?_
  refine sq h (fun h=>?_) fun h=>?_
  ·refine aq 1 ?_
   exact rf [0,9,10] [1] (hn _ (Option.some.inj h).symm :) (hk:=hK)
  ·refine aq 1 ?_
   refine cq 8 [42,43,44,47] [.hs 1 0 [] 1 0 (x7.2.2.map str).length,I x7.2.1,str x7.1,I (ar (r8+sepSave_3))] 242 ?_
   obtain⟨s9,hs9,h⟩:=bS h
   refine oq 258 (str s9) rfl (gt rfl rfl rfl rfl (Jj rfl rfl rfl hs9)) ?_
   obtain⟨e10,he10,h⟩:=bS h
   refine oq 274 (.hp 1 0 [] 1 (0+Int.toNat x7.2.1) 0) rfl (al rfl rfl rfl (hY (f:=str) (xs:=x7.2.2) rfl rfl rfl he10)) ?_
   refine o0 290 rfl rfl (fD rfl rfl (eA (path:=[]) (pl:=true) (e':=str s9) (es2':=(eM x7.2.2 x7.2.1 s9).map str) rfl (eQ rfl) rfl rfl rfl aN (f9 (f:=str) (xs:=x7.2.2) he10) rfl rfl rfl (lO (f:=str) (xs:=x7.2.2) (y:=s9)) du 0 rfl)) ?_
   try rw[←jo (f:=str) (xs:=x7.2.2) (i:=x7.2.1) (z:=s9)]
   refine cq 8 [50,54] [str x7.1,I (ar (r8+(len sep_2)))] 370 ?_
   obtain⟨s11,hs11,h⟩:=bS h
   refine oq 386 (str s11) rfl (gt rfl rfl rfl rfl (Jj rfl rfl rfl hs11)) ?_
   refine cq 8 [0,10] [str s11,I (ar (x7.2.1+1))] 450 ?_
   refine cS ?_
   exact rf [0,1,2,3,9,10] [1] (ih _ _ h hr hn :)
 ·refine aq 1 ?_
  exact rf [0,9,10] [1] (hn _ (Option.some.inj h).symm :) (hk:=hK)
theorem SE (s_1:ah)(sep_2:ah)(sepSave_3:Int)(n_4:Int)(r:(List ah))(h:Hy s_1 sep_2 sepSave_3 n_4=some r):ba Dn Tryz.f227 [false,false,false,false] 0 (C7 (s_1,sep_2,sepSave_3,n_4)) (Bh r):=by
 show Run _ _ (uM (s_1,sep_2,sepSave_3,n_4) r) [.code Ie] _
 refine rI 66 [(0,str s_1),(1,str sep_2),(2,I sepSave_3),(3,I n_4)] [] 1 ?_
 unfold Hy at h
 refine cq 10 [13] [B (n_4==0)] 49 ?_
 refine sq h (fun h=>?_) fun h=>?_
 ·refine cq 4 [8] [.isl true []] 65 ?_
  refine vH 8 0 1 81 (.hs 65 0 [] 1 0 0) rfl rfl rfl rfl rfl ?_
  obtain rfl:=Option.some.inj h
  exact ai rfl ⟨_,fin (vs:=[.hs 65 0 [] 1 0 0]) rfl (ez (d7 rfl (cf (k:=0) (es:=[]) rfl rfl)) dP) rfl (d8 (d8 (d8 (d8 eB)))),ey⟩
 ·refine aq 1 ?_
  refine cq 6 [15] [B (sep_2==([]:ah))] 81 ?_
  refine sq h (fun h=>?_) fun h=>?_
  ·cases h
  ·refine aq 1 ?_
   refine cq 6 [20] [B (decide (n_4<0))] 113 ?_
   obtain⟨y5,hy5,hy51,hy52⟩:=bJ h
   have j5:∀u5,y5=.inr u5→Run Dn 0 (uM (s_1,sep_2,sepSave_3,n_4) r) (.code (cR (cR (cR (cR Ie))))::[]) (sT 66 [(0,str s_1),(1,str sep_2),(2,I sepSave_3),(3,I u5)] [] 1):=by
    intro u5 hu
    replace h:=hy52 u5 hu
    refine cq 12 [3,30] [I (if (ar ((len s_1)+1))<u5 then (ar ((len s_1)+1)) else u5),I (if (ar ((len s_1)+1))<u5 then (ar ((len s_1)+1)) else u5)] 113 ?_
    obtain⟨m6,hm6,h⟩:=bS h
    refine oq 129 (.hs 113 0 [] 1 0 (m6.map str).length) rfl (i9 rfl rfl (Cy (f:=str) rfl rfl rfl (by decide) hm6 rfl)) ?_
    refine cq 14 [3,9,10] [I (ar ((if (ar ((len s_1)+1))<u5 then (ar ((len s_1)+1)) else u5) - 1)),.hs 113 0 [] 1 0 (m6.map str).length,I (0)] 209 ?_
    obtain⟨y12,hy12,hy121,hy122⟩:=bJ h
    refine bW rfl ?_
    refine rf [0,1,2,3,9,10] [113] (Kh s_1 sep_2 sepSave_3 n_4 u5 rfl (s_1,0,m6) _ hy12 (fun r' e st hq=>by rw[hy121 r' e] at hq;exact hq) fun u12 hu=>?_)
    replace h:=hy122 u12 hu
    refine cq 5 [58,59,60] [.hs 1 0 [] 1 0 (u12.2.2.map str).length,I u12.2.1,str u12.1] 50 ?_
    obtain⟨e13,he13,h⟩:=bS h
    refine oq 66 (.hp 1 0 [] 1 (0+Int.toNat u12.2.1) 0) rfl (al rfl rfl rfl (hY (f:=str) (xs:=u12.2.2) rfl rfl rfl he13)) ?_
    refine o0 82 rfl rfl (fD rfl rfl (eA (path:=[]) (pl:=true) (e':=str u12.1) (es2':=(eM u12.2.2 u12.2.1 u12.1).map str) rfl (eQ rfl) rfl rfl rfl aN (f9 (f:=str) (xs:=u12.2.2) he13) rfl rfl rfl (lO (f:=str) (xs:=u12.2.2) (y:=u12.1)) du 0 rfl)) ?_
    try rw[←jo (f:=str) (xs:=u12.2.2) (i:=u12.2.1) (z:=u12.1)]
    refine cq 6 [62,64] [.hs 1 0 [] 1 0 ((eM u12.2.2 u12.2.1 u12.1).map str).length,I (ar (u12.2.1+1))] 130 ?_
    obtain⟨s14,hs14,h⟩:=bS h
    refine oq 146 (.hs 1 0 [] 1 (0+Int.toNat (0)) (Int.toNat (ar (u12.2.1+1)) - Int.toNat (0))) rfl (gt rfl rfl rfl rfl (qW (f:=str) (xs:=(eM u12.2.2 u12.2.1 u12.1)) rfl rfl rfl rfl rfl hs14)) ?_
    refine cq 2 [8] [.hs 1 0 [] 1 (0+Int.toNat (0)) (Int.toNat (ar (u12.2.1+1)) - Int.toNat (0))] 162 ?_
    obtain⟨p15,hp15,h⟩:=bS h
    obtain rfl:=Option.some.inj h
    exact ai rfl ⟨_,fin (vs:=[.hs 1 0 [] 1 (0+Int.toNat (0)) (Int.toNat (ar (u12.2.1+1)) - Int.toNat (0))]) rfl (ez (d7 rfl (N6 (path:=[]) (f:=str) (xs:=(eM u12.2.2 u12.2.1 u12.1)) rfl rfl aN hp15 rfl oV)) dP) rfl (d8 (d8 (d8 (d8 eB)))),ey⟩
   have r5:∀r',y5=.inl r'→∀st,uM (s_1,sep_2,sepSave_3,n_4) r' st→(uM (s_1,sep_2,sepSave_3,n_4) r) st:=fun r' e st hq=>by rw[hy51 r' e] at hq;exact hq
   replace h:=hy5
   refine sq h (fun h=>?_) fun h=>?_
   ·refine cq 3 [21,22] [str s_1,str sep_2] 145 ?_
    obtain⟨r16,hr16,h⟩:=bS h
    refine oq 161 (I r16) rfl (cP (XU hr16)) ?_
    refine cq 3 [3] [I (ar (r16+1))] 193 ?_
    exact rf [0,1,2,3] [] (j5 _ (Option.some.inj h).symm :)
   ·refine aq 1 ?_
    exact rf [0,1,2,3] [] (j5 _ (Option.some.inj h).symm :)
theorem OT {G:Go.Ln.Ground}:aH Tryz.prog G 227 yX:=gT 4 0 (aB Fn (aB P8 bc)) (Checked.mixed Tryz.checked) Tryz.func227 (fun a r h=>SE a.1 a.2.1 a.2.2.1 a.2.2.2 r h)
def AU:(ah×ah)→List V:=cA str (oA str)
def AW (r:(List ah)):V×List V:=(.usl 1 (r.map str),[])
noncomputable def xV:Ent:=aO [false,false] AU AW fun x=>za x.1 x.2
theorem Wz {s_1:ah}{sep_2:ah}{r}(h:za s_1 sep_2=some r):xV.F (AU (s_1,sep_2))=some (AW r):=aA (aU bf (az bf)) h
noncomputable def XX:Code:=ay Tryz.f201
noncomputable def Qq:Env:=bG Tryz.prog [(227,yX)]
def Yp (x:ah×ah)(r:(List ah)):St→Prop:=QF Qq Tryz.f201 [false,false] (AU x) (AW r)
theorem RF (s_1:ah)(sep_2:ah)(r:(List ah))(h:za s_1 sep_2=some r):ba Qq Tryz.f201 [false,false] 0 (AU (s_1,sep_2)) (AW r):=by
 show Run _ _ (Yp (s_1,sep_2) r) [.code XX] _
 refine rI 8 [(0,str s_1),(1,str sep_2)] [] 1 ?_
 unfold za at h
 refine cq 8 [5,6] [str s_1,str sep_2] 49 ?_
 obtain⟨r3,hr3,h⟩:=bS h
 refine oq 65 (.hs 49 0 [] 1 0 (r3.map str).length) rfl (cP (Yr hr3)) ?_
 refine cq 2 [4] [.hs 49 0 [] 1 0 (r3.map str).length] 81 ?_
 obtain rfl:=Option.some.inj h
 exact ai rfl ⟨_,fin (vs:=[.hs 49 0 [] 1 0 (r3.map str).length]) rfl (ez (d7 rfl (cf rfl rfl)) dP) rfl (d8 (d8 eB)),ey⟩
theorem Pa {G:Go.Ln.Ground}:aH Tryz.prog G 201 xV:=gT 2 0 (aB OT bc) (Checked.mixed Tryz.checked) Tryz.func201 (fun a r h=>RF a.1 a.2 r h)
def D0:((List ah)×ah)→List V:=cA (eu str) (oA str)
def CY (r:Int):V×List V:=(I r,[])
noncomputable def xA:Ent:=aO [false,false] D0 CY fun x=>vr x.1 x.2
theorem Wt {s_1:List ah}{v_2:ah}{r}(h:vr s_1 v_2=some r):xA.F (D0 (s_1,v_2))=some (CY r):=aA (aU (bi bf) (az bf)) h
noncomputable def Pn:Code:=ay Tryz.f189
noncomputable def HQ:Env:=bG Tryz.prog []
def Oo (x:(List ah)×ah)(r:Int):St→Prop:=QF HQ Tryz.f189 [false,false] (D0 x) (CY r)
theorem JI (s_1:List ah)(v_2:ah):cl HQ 0 (Oo (s_1,v_2)) (cL (cL (cR (cL (cR Pn))))) 0 (mM s_1 v_2) (fun u=>(sT 19 [] [] 1)) fun x3=>(sT 19 [(0,.isl false (s_1.map str)),(1,str v_2),(7,I (len s_1)),(8,I x3)] [] 1):=d5 (wU s_1 v_2) fun {Q K} hK self ih x3 y h hr hn=>by
 unfold il at h
 refine cq 5 [9] [B (decide (x3<(len s_1)))] 17 ?_
 refine sq h (fun h=>?_) fun h=>?_
 ·refine aq 1 ?_
  refine cq 12 [5,11,12,13] [I x3,str v_2,.isl false (s_1.map str),I x3] 97 ?_
  obtain⟨e4,he4,h⟩:=bS h
  refine oq 113 (.iptr (str e4) 0) rfl (al rfl rfl rfl (aM rfl rfl rfl rfl he4)) ?_
  refine cq 3 [16] [B (v_2==e4)] 145 ?_
  refine sq h (fun h=>?_) fun h=>?_
  ·refine cq 5 [4] [I x3] 177 ?_
   exact ai rfl (hr _ (Option.some.inj h).symm _ (qp [I x3]))
  ·refine aq 1 ?_
   refine cq 5 [8] [I (ar (x3+1))] 177 ?_
   refine cS ?_
   exact rf [0,1,7,8] [] (ih _ _ h hr hn :)
 ·refine aq 1 ?_
  exact rf [] [] (hn _ (Option.some.inj h).symm :) (hk:=hK)
theorem T6 (s_1:List ah)(v_2:ah)(r:Int)(h:vr s_1 v_2=some r):ba HQ Tryz.f189 [false,false] 0 (D0 (s_1,v_2)) (CY r):=by
 show Run _ _ (Oo (s_1,v_2) r) [.code Pn] _
 refine rI 19 [(0,.isl false (s_1.map str)),(1,str v_2)] [] 1 ?_
 unfold vr at h
 refine cq 8 [6] [.isl false (s_1.map str)] 33 ?_
 refine oq 49 (I (len s_1)) rfl (aZ rfl rfl rfl (bg rfl)) ?_
 refine cq 3 [8] [I (0)] 65 ?_
 obtain⟨y5,hy5,hy51,hy52⟩:=bJ h
 refine bW rfl ?_
 refine rf [0,1,7,8] [] (JI s_1 v_2 rfl 0 _ hy5 (fun r' e st hq=>by rw[hy51 r' e] at hq;exact hq) fun u5 hu=>?_)
 replace h:=hy52 u5 hu
 refine cq 4 [4] [I (-1)] 17 ?_
 obtain rfl:=Option.some.inj h
 exact ai rfl (qp [I (-1)])
theorem Nr {G:Go.Ln.Ground}:aH Tryz.prog G 189 xA:=gT 2 0 bc (Checked.mixed Tryz.checked) Tryz.func189 (fun a r h=>T6 a.1 a.2 r h)
def CI:((List ah)×ah)→List V:=cA (eu str) (oA str)
def Bj (r:Bool):V×List V:=(B r,[])
noncomputable def mH:Ent:=aO [false,false] CI Bj fun x=>l6 x.1 x.2
theorem BU {s_1:List ah}{v_2:ah}{r}(h:l6 s_1 v_2=some r):mH.F (CI (s_1,v_2))=some (Bj r):=aA (aU (bi bf) (az bf)) h
noncomputable def Wq:Code:=ay Tryz.f130
noncomputable def Qc:Env:=bG Tryz.prog [(189,xA)]
def Wl (x:(List ah)×ah)(r:Bool):St→Prop:=QF Qc Tryz.f130 [false,false] (CI x) (Bj r)
theorem S5 (s_1:List ah)(v_2:ah)(r:Bool)(h:l6 s_1 v_2=some r):ba Qc Tryz.f130 [false,false] 0 (CI (s_1,v_2)) (Bj r):=by
 show Run _ _ (Wl (s_1,v_2) r) [.code Wq] _
 refine rI 9 [(0,.isl false (s_1.map str)),(1,str v_2)] [] 1 ?_
 unfold l6 at h
 refine cq 8 [5,6] [.isl false (s_1.map str),str v_2] 49 ?_
 obtain⟨r3,hr3,h⟩:=bS h
 refine oq 65 (I r3) rfl (cP (Wt hr3)) ?_
 refine cq 3 [4] [B (decide (r3≥0))] 97 ?_
 obtain rfl:=Option.some.inj h
 exact ai rfl (qp [B (decide (r3≥0))])
theorem pE {G:Go.Ln.Ground}:aH Tryz.prog G 130 mH:=gT 2 0 (aB Nr bc) (Checked.mixed Tryz.checked) Tryz.func130 (fun a r h=>S5 a.1 a.2 r h)
def Hd:ah→List V:=oA str
def GX (r:Bool):V×List V:=(B r,[])
noncomputable def oO:Ent:=aO [false] Hd GX fun x=>tj x
theorem Dg {s_1:ah}{r}(h:tj s_1=some r):oO.F (Hd s_1)=some (GX r):=aA (az bf) h
noncomputable def vB:Code:=ay Tryz.f159
noncomputable abbrev oW:Code:=cL (cL (cR (cL (cR (cR vB)))))
noncomputable abbrev Ar:Code:=cR (cR (cR oW))
noncomputable abbrev Am:Code:=cR (cR (cR (cL (cL (cR (cR oW))))))
noncomputable def ow:Env:=bG Tryz.prog [(86,gm),(201,xV),(130,mH)]
def qa (x:ah)(r:Bool):St→Prop:=QF ow Tryz.f159 [false] (Hd x) (GX r)
theorem Mt (s_1:ah):cl ow 0 (qa s_1) oW 0 (ug s_1) (fun u=>(sT 46 [(0,str s_1)] [] 1)) fun x4=>(sT 46 [(0,str s_1),(20,I (len s_1)),(21,I x4)] [] 1):=d5 (BM s_1) fun {Q K} hK self ih x4 y h hr hn=>by
 unfold mP at h
 refine cq 5 [22] [B (decide (x4<(len s_1)))] 17 ?_
 refine sq h (fun h=>?_) fun h=>?_
 ·refine aq 1 ?_
  refine cq 11 [24,25] [str s_1,I x4] 81 ?_
  obtain⟨c5,hc5,h⟩:=bS h
  refine oq 97 (.int .u8 (c5.toNat:Int)) rfl (lg rfl rfl (pP rfl rfl hc5)) ?_
  refine cq 7 [4,29] [.int .u8 (c5.toNat:Int),B (decide ((c5.toNat:Int)<97))] 161 ?_
  obtain⟨u6,hu6,h⟩:=lJ h
  have j6:Run ow 0 Q (.code Am::.blk 1::.code Ar::.lp oW::.blk 0::K) (sT 46 [(0,str s_1),(20,I (len s_1)),(21,I x4),(40,B u6)] [] 1):=by
   refine sq h (fun h=>?_) fun h=>?_
   ·refine cq 4 [2] [B false] 17 ?_
    exact ai rfl (hr _ (Option.some.inj h).symm _ (qp [B false]))
   ·refine aq 1 ?_
    refine cq 5 [21] [I (ar (x4+1))] 33 ?_
    refine cS ?_
    exact rf [0,20,21] [] (ih _ _ h hr hn :)
  replace h:=hu6
  clear hu6
  refine sp 29 h rfl (fun h=>?_) fun h=>?_
  ·refine cq 7 [33,36] [B true,B (decide ((c5.toNat:Int)<48))] 273 ?_
   obtain⟨u7,hu7,h⟩:=lJ h
   have j7:Run ow 0 Q (.code Am::.blk 1::.code Ar::.lp oW::.blk 0::K) (sT 46 [(0,str s_1),(20,I (len s_1)),(21,I x4),(40,B u7)] [] 1):=by
    subst h
    exact rf [0,20,21,40] [] (j6 :)
   replace h:=hu7
   clear hu7
   refine sp 36 h rfl (fun h=>?_) fun h=>?_
   ·refine cq 5 [40] [B true] 337 ?_
    subst h
    exact rf [0,20,21,40] [] (j7 :)
   ·refine cq 5 [40] [B (decide ((c5.toNat:Int)>57))] 337 ?_
    subst h
    exact rf [0,20,21,40] [] (j7 :)
  ·refine cq 4 [33] [B (decide ((c5.toNat:Int)>122))] 225 ?_
   obtain⟨u8,hu8,h⟩:=lJ h
   have j8:Run ow 0 Q (.code Am::.blk 1::.code Ar::.lp oW::.blk 0::K) (sT 46 [(0,str s_1),(20,I (len s_1)),(21,I x4),(40,B u8)] [] 1):=by
    subst h
    exact rf [0,20,21,40] [] (j6 :)
   replace h:=hu8
   clear hu8
   refine sp 33 h rfl (fun h=>?_) fun h=>?_
   ·refine cq 3 [36] [B (decide ((c5.toNat:Int)<48))] 273 ?_
    obtain⟨u9,hu9,h⟩:=lJ h
    have j9:Run ow 0 Q (.code Am::.blk 1::.code Ar::.lp oW::.blk 0::K) (sT 46 [(0,str s_1),(20,I (len s_1)),(21,I x4),(40,B u9)] [] 1):=by
     subst h
     exact rf [0,20,21,40] [] (j8 :)
    replace h:=hu9
    clear hu9
    refine sp 36 h rfl (fun h=>?_) fun h=>?_
    ·refine cq 5 [40] [B true] 337 ?_
     subst h
     exact rf [0,20,21,40] [] (j9 :)
    ·refine cq 5 [40] [B (decide ((c5.toNat:Int)>57))] 337 ?_
     subst h
     exact rf [0,20,21,40] [] (j9 :)
   ·refine cq 8 [40] [B false] 337 ?_
    subst h
    exact rf [0,20,21,40] [] (j8 :)
 ·refine aq 1 ?_
  exact rf [0] [] (hn _ (Option.some.inj h).symm :) (hk:=hK)
theorem V6 (s_1:ah)(r:Bool)(h:tj s_1=some r):ba ow Tryz.f159 [false] 0 (Hd s_1) (GX r):=by
 show Run _ _ (qa s_1 r) [.code vB] _
 refine rI 46 [(0,str s_1)] [] 1 ?_
 unfold tj at h
 refine cq 9 [6] [I (len s_1)] 49 ?_
 obtain⟨r2,hr2,h⟩:=bS h
 refine oq 65 (B r2) rfl (cP (gb hr2)) ?_
 refine cq 2 [9] [B (!r2)] 97 ?_
 obtain⟨y3,hy3,hy31,hy32⟩:=bJ h
 have j3:∀u3,y3=.inr u3→Run ow 0 (qa s_1 r) (.code (cR (cL (cR vB)))::.code (cR (cR vB))::[]) (sT 46 [(0,str s_1),(18,B u3)] [] 1):=by
  intro u3 hu
  replace h:=hy32 u3 hu
  refine sq h (fun h=>?_) fun h=>?_
  ·refine cq 4 [2] [B false] 17 ?_
   obtain rfl:=Option.some.inj h
   exact ai rfl (qp [B false])
  ·refine aq 1 ?_
   refine cq 8 [20,21] [I (len s_1),I (0)] 49 ?_
   obtain⟨y10,hy10,hy101,hy102⟩:=bJ h
   refine bW rfl ?_
   refine rf [0,20,21] [] (Mt s_1 rfl 0 _ hy10 (fun r' e st hq=>by rw[hy101 r' e] at hq;exact hq) fun u10 hu=>?_)
   replace h:=hy102 u10 hu
   refine aq 2 ?_
   obtain⟨r11,hr11,h⟩:=bS h
   refine oq 17 (.hs 1 0 [] 1 0 (r11.map str).length) rfl (cP (Wz hr11)) ?_
   refine cq 1 [43] [str s_1] 33 ?_
   obtain⟨r12,hr12,h⟩:=bS h
   refine oq 49 (B r12) rfl (bT rfl rfl (ci rfl rfl rfl (bh (Uj rfl rfl (ew (f:=str) (g:=str) (xs:=r11) rfl rfl (bz dZ))) (bh (bE rfl) cz)) (BU hr12) (.inl rfl) dA rfl rfl rfl)) ?_
   refine cq 3 [2] [B (!r12)] 81 ?_
   obtain rfl:=Option.some.inj h
   exact ai rfl (qp [B (!r12)])
 have r3:∀r',y3=.inl r'→∀st,qa s_1 r' st→(qa s_1 r) st:=fun r' e st hq=>by rw[hy31 r' e] at hq;exact hq
 replace h:=hy3
 refine sp 9 h rfl (fun h=>?_) fun h=>?_
 ·refine cq 10 [18] [B true] 241 ?_
  exact rf [0,18] [] (j3 _ (Option.some.inj h).symm :)
 ·refine cq 1 [10] [str s_1] 113 ?_
  obtain⟨c13,hc13,h⟩:=bS h
  refine oy 129 (.int .u8 (c13.toNat:Int)) rfl (lg rfl rfl (pP rfl rfl hc13)) ?_
  refine cq 3 [14] [B (decide ((c13.toNat:Int)<97))] 177 ?_
  obtain⟨y14,hy14,hy141,hy142⟩:=bL h
  have j14:∀u14,y14=.inr u14→Run ow 0 (qa s_1 r) (.code (cR (cL (cR vB)))::.code (cR (cR vB))::[]) (sT 46 [(0,str s_1),(18,B u14)] [] 1):=by
   intro u14 hu
   replace h:=hy142 u14 hu
   exact rf [0,18] [] (j3 _ (Option.some.inj h).symm :)
  have r14:∀r',y14=.inl r'→∀st,qa s_1 r' st→(qa s_1 r) st:=fun r' e st hq=>r3 r' (hy141 r' e) st hq
  replace h:=hy14
  refine sp 14 h rfl (fun h=>?_) fun h=>?_
  ·refine cq 5 [18] [B true] 241 ?_
   exact rf [0,18] [] (j14 _ (Option.some.inj h).symm :)
  ·refine cq 1 [15] [str s_1] 193 ?_
   obtain⟨c15,hc15,h⟩:=bS h
   refine oy 209 (.int .u8 (c15.toNat:Int)) rfl (lg rfl rfl (pP rfl rfl hc15)) ?_
   refine cq 3 [18] [B (decide ((c15.toNat:Int)>122))] 241 ?_
   exact rf [0,18] [] (j14 _ (Option.some.inj h).symm :)
theorem rV {G:Go.Ln.Ground}:aH Tryz.prog G 159 oO:=gT 1 0 (aB gx (aB Pa (aB pE bc))) (Checked.mixed Tryz.checked) Tryz.func159 (fun a r h=>V6 a r h)
def Hf:(List ah)→List V:=oA (eu str)
def GH (r:Bool):V×List V:=(B r,[])
noncomputable def EA:Ent:=aO [false] Hf GH fun x=>Hu x
theorem YE {list_1:List ah}{r}(h:Hu list_1=some r):EA.F (Hf list_1)=some (GH r):=aA (az (bi bf)) h
noncomputable def Bu:Code:=ay Tryz.f123
noncomputable def G1:Env:=bG Tryz.prog [(159,oO),(130,mH),(86,gm)]
def MJ (x:(List ah))(r:Bool):St→Prop:=QF G1 Tryz.f123 [false] (Hf x) (GH r)
theorem L4 (list_1:List ah):cl G1 0 (MJ list_1) (cL (cL (cR (cL (cR Bu))))) 0 (uG list_1) (fun u=>(sT 26 [(0,.isl false (list_1.map str))] [] 1)) fun x2=>(sT 26 [(0,.isl false (list_1.map str)),(5,.isl false (list_1.map str)),(6,I (len list_1)),(7,I x2)] [] 1):=d5 (B2 list_1) fun {Q K} hK self ih x2 y h hr hn=>by
 unfold kS at h
 refine cq 5 [8] [B (decide (x2<(len list_1)))] 17 ?_
 refine sq h (fun h=>?_) fun h=>?_
 ·refine aq 1 ?_
  refine cq 5 [9] [I x2] 33 ?_
  obtain⟨e3,he3,h⟩:=bS h
  refine oq 49 (.iptr (str e3) 0) rfl (al rfl rfl rfl (aM rfl rfl rfl rfl he3)) ?_
  refine cq 7 [3,4,12] [I x2,str e3,str e3] 113 ?_
  obtain⟨r4,hr4,h⟩:=bS h
  refine oq 129 (B r4) rfl (cP (Dg hr4)) ?_
  refine cq 2 [15] [B (!r4)] 161 ?_
  obtain⟨y5,hy5,hy51,hy52⟩:=bL h
  have j5:∀u5,y5=.inr u5→Run G1 0 Q (.code (cR (cR (cL (cL (cR (cR (cL (cL (cR (cL (cR Bu)))))))))))::.blk 1::.code (cR (cR (cR (cL (cL (cR (cL (cR Bu))))))))::.lp (cL (cL (cR (cL (cR Bu)))))::.blk 0::K) (sT 26 [(0,.isl false (list_1.map str)),(5,.isl false (list_1.map str)),(6,I (len list_1)),(7,I x2),(21,B u5)] [] 1):=by
   intro u5 hu
   replace h:=hy52 u5 hu
   refine sq h (fun h=>?_) fun h=>?_
   ·refine cq 4 [2] [B false] 17 ?_
    exact ai rfl (hr _ (Option.some.inj h).symm _ (qp [B false]))
   ·refine aq 1 ?_
    refine cq 5 [7] [I (ar (x2+1))] 33 ?_
    refine cS ?_
    exact rf [0,5,6,7] [] (ih _ _ h hr hn :)
  have r5:∀r',y5=.inl r'→∀st,MJ list_1 r' st→Q st:=fun r' e st hq=>hr r' (hy51 r' e) st hq
  replace h:=hy5
  refine sp 15 h rfl (fun h=>?_) fun h=>?_
  ·refine cq 7 [21] [B true] 257 ?_
   exact rf [0,5,6,7,21] [] (j5 _ (Option.some.inj h).symm :)
  ·refine cq 2 [16,17] [.isl false (list_1.map str),I x2] 193 ?_
   obtain⟨s6,hs6,h⟩:=bS h
   refine oy 209 (.isl false (s6.map str)) rfl (gt rfl rfl rfl rfl (Jo rfl rfl (fun y=>(ix y).1) rfl rfl hs6)) ?_
   refine cq 1 [19] [str e3] 225 ?_
   obtain⟨r7,hr7,h⟩:=bS h
   refine oy 241 (B r7) rfl (cP (BU hr7)) ?_
   refine cq 2 [21] [B r7] 257 ?_
   exact rf [0,5,6,7,21] [] (j5 _ (Option.some.inj h).symm :)
 ·refine aq 1 ?_
  exact rf [0] [] (hn _ (Option.some.inj h).symm :) (hk:=hK)
theorem VM (list_1:List ah)(r:Bool)(h:Hu list_1=some r):ba G1 Tryz.f123 [false] 0 (Hf list_1) (GH r):=by
 show Run _ _ (MJ list_1 r) [.code Bu] _
 refine rI 26 [(0,.isl false (list_1.map str))] [] 1 ?_
 unfold Hu at h
 refine cq 8 [5] [.isl false (list_1.map str)] 33 ?_
 refine oq 49 (I (len list_1)) rfl (aZ rfl rfl rfl (bg rfl)) ?_
 refine cq 3 [7] [I (0)] 65 ?_
 obtain⟨y8,hy8,hy81,hy82⟩:=bJ h
 refine bW rfl ?_
 refine rf [0,5,6,7] [] (L4 list_1 rfl 0 _ hy8 (fun r' e st hq=>by rw[hy81 r' e] at hq;exact hq) fun u8 hu=>?_)
 replace h:=hy82 u8 hu
 refine cq 3 [23] [.isl false (list_1.map str)] 17 ?_
 refine oq 33 (I (len list_1)) rfl (aZ rfl rfl rfl (bg rfl)) ?_
 obtain⟨r9,hr9,h⟩:=bS h
 refine oq 49 (B r9) rfl (cP (gb hr9)) ?_
 refine cq 2 [2] [B r9] 65 ?_
 obtain rfl:=Option.some.inj h
 exact ai rfl (qp [B r9])
theorem TS {G:Go.Ln.Ground}:aH Tryz.prog G 123 EA:=gT 1 0 (aB rV (aB pE (aB gx bc))) (Checked.mixed Tryz.checked) Tryz.func123 (fun a r h=>VM a r h)
def Gr:(Clause×ah)→List V:=cA ac (oA (fun x:ah=>.iptr (str x) 0))
def GD (r:Bool):V×List V:=(B r,[])
noncomputable def E2:Ent:=aO [false,false] Gr GD fun x=>PL x.1 x.2
theorem YG {x_1:Clause}{a_2:ah}{r}(h:PL x_1 a_2=some r):E2.F (Gr (x_1,a_2))=some (GD r):=aA (aU cm (az (mO bf))) h
noncomputable def YI:Code:=ay Tryz.f217
noncomputable def Ue:Env:=bG Tryz.prog []
def YY (x:Clause×ah)(r:Bool):St→Prop:=QF Ue Tryz.f217 [false,false] (Gr x) (GD r)
theorem VB (x_1:Clause)(a_2:ah)(r:Bool)(h:PL x_1 a_2=some r):ba Ue Tryz.f217 [false,false] 0 (Gr (x_1,a_2)) (GD r):=by
 show Run _ _ (YY (x_1,a_2) r) [.code YI] _
 refine rI 8 [(0,.agg [str x_1.Id,I x_1.Kind,I x_1.Party,str x_1.Action,I x_1.Other,I x_1.Amount,I x_1.When.Op,str x_1.When.Name,I x_1.When.Day,.isl false (x_1.When.Parts.map aa),I x_1.Within,str x_1.Repair]),(1,.iptr (str a_2) 0)] [] 1 ?_
 unfold PL at h
 refine cq 13 [3] [B (x_1.Id==a_2)] 113 ?_
 obtain rfl:=Option.some.inj h
 exact ai rfl (qp [B (x_1.Id==a_2)])
theorem Sl {G:Go.Ln.Ground}:aH Tryz.prog G 217 E2:=gT 2 0 bc (Checked.mixed Tryz.checked) Tryz.func217 (fun a r h=>VB a.1 a.2 r h)
def Ak:((List Clause)×ah)→List V:=cA (eu ac) (oA (fun x:ah=>(.fn 217 [.iptr (str x) 0]:V)))
def D7 (r:Int):V×List V:=(I r,[])
noncomputable def yQ:Ent:=aO [false,false] Ak D7 fun x=>EQ x.1 x.2
theorem Yq {s_1:List Clause}{f_2:ah}{r}(h:EQ s_1 f_2=some r):yQ.F (Ak (s_1,f_2))=some (D7 r):=aA (aU (bi cm) (az (rG bf))) h
noncomputable def Ov:Code:=ay Tryz.f160
noncomputable def Jm:Env:=bG Tryz.prog [(217,E2)]
def Qz (x:(List Clause)×ah)(r:Int):St→Prop:=QF Jm Tryz.f160 [false,false] (Ak x) (D7 r)
theorem J7 (s_1:List Clause)(f_2:ah):cl Jm 0 (Qz (s_1,f_2)) (cL (cL (cR (cL (cR Ov))))) 0 (rp s_1 f_2) (fun u=>(sT 19 [] [] 1)) fun x3=>(sT 19 [(0,.isl false (s_1.map ac)),(1,.fn 217 [.iptr (str f_2) 0]),(7,I (len s_1)),(8,I x3)] [] 1):=d5 (xi s_1 f_2) fun {Q K} hK self ih x3 y h hr hn=>by
 unfold li at h
 refine cq 5 [9] [B (decide (x3<(len s_1)))] 17 ?_
 refine sq h (fun h=>?_) fun h=>?_
 ·refine aq 1 ?_
  refine cq 12 [5,11,12,13] [I x3,.fn 217 [.iptr (str f_2) 0],.isl false (s_1.map ac),I x3] 97 ?_
  obtain⟨e4,he4,h⟩:=bS h
  refine oq 113 (.iptr (.agg [str e4.Id,I e4.Kind,I e4.Party,str e4.Action,I e4.Other,I e4.Amount,I e4.When.Op,str e4.When.Name,I e4.When.Day,.isl false (e4.When.Parts.map aa),I e4.Within,str e4.Repair]) 0) rfl (al rfl rfl rfl (aM rfl rfl rfl rfl he4)) ?_
  refine cq 1 [15] [.agg [str e4.Id,I e4.Kind,I e4.Party,str e4.Action,I e4.Other,I e4.Amount,I e4.When.Op,str e4.When.Name,I e4.When.Day,.isl false (e4.When.Parts.map aa),I e4.Within,str e4.Repair]] 129 ?_
  obtain⟨r5,hr5,h⟩:=bS h
  refine oq 145 (B r5) rfl (cP (YG hr5)) ?_
  refine aq 1 ?_
  refine sq h (fun h=>?_) fun h=>?_
  ·refine cq 5 [4] [I x3] 177 ?_
   exact ai rfl (hr _ (Option.some.inj h).symm _ (qp [I x3]))
  ·refine aq 1 ?_
   refine cq 5 [8] [I (ar (x3+1))] 177 ?_
   refine cS ?_
   exact rf [0,1,7,8] [] (ih _ _ h hr hn :)
 ·refine aq 1 ?_
  exact rf [] [] (hn _ (Option.some.inj h).symm :) (hk:=hK)
theorem Te (s_1:List Clause)(f_2:ah)(r:Int)(h:EQ s_1 f_2=some r):ba Jm Tryz.f160 [false,false] 0 (Ak (s_1,f_2)) (D7 r):=by
 show Run _ _ (Qz (s_1,f_2) r) [.code Ov] _
 refine rI 19 [(0,.isl false (s_1.map ac)),(1,.fn 217 [.iptr (str f_2) 0])] [] 1 ?_
 unfold EQ at h
 refine cq 8 [6] [.isl false (s_1.map ac)] 33 ?_
 refine oq 49 (I (len s_1)) rfl (aZ rfl rfl rfl (bg rfl)) ?_
 refine cq 3 [8] [I (0)] 65 ?_
 obtain⟨y6,hy6,hy61,hy62⟩:=bJ h
 refine bW rfl ?_
 refine rf [0,1,7,8] [] (J7 s_1 f_2 rfl 0 _ hy6 (fun r' e st hq=>by rw[hy61 r' e] at hq;exact hq) fun u6 hu=>?_)
 replace h:=hy62 u6 hu
 refine cq 4 [4] [I (-1)] 17 ?_
 obtain rfl:=Option.some.inj h
 exact ai rfl (qp [I (-1)])
theorem Qe {G:Go.Ln.Ground}:aH Tryz.prog G 160 yQ:=gT 2 0 (aB Sl bc) (Checked.mixed Tryz.checked) Tryz.func160 (fun a r h=>Te a.1 a.2 r h)
def Gx:(Contract×ah)→List V:=cA aG (oA str)
def Gk (r:Int):V×List V:=(I r,[])
noncomputable def Ex:Ent:=aO [false,false] Gx Gk fun x=>BB x.1 x.2
theorem UG {c_1:Contract}{id_2:ah}{r}(h:BB c_1 id_2=some r):Ex.F (Gx (c_1,id_2))=some (Gk r):=aA (aU aQ (az bf)) h
noncomputable def YR:Code:=ay Tryz.f184
noncomputable def Us:Env:=bG Tryz.prog [(160,yQ)]
def Zp (x:Contract×ah)(r:Int):St→Prop:=QF Us Tryz.f184 [false,false] (Gx x) (Gk r)
theorem VL (c_1:Contract)(id_2:ah)(r:Int)(h:BB c_1 id_2=some r):ba Us Tryz.f184 [false,false] 0 (Gx (c_1,id_2)) (Gk r):=by
 show Run _ _ (Zp (c_1,id_2) r) [.code YR] _
 refine rI 9 [(0,.agg [.isl false (c_1.Parties.map str),.isl false (c_1.Clauses.map ac)]),(1,str id_2)] [] 1 ?_
 unfold BB at h
 refine ck 11 [6,7] [] [17] [] [.isl false (c_1.Clauses.map ac),.fn 217 [.hp 17 0 [] 1 0 0]] [some ⟨0,1,[str id_2]⟩] 97 (by kernel_rfl) ?_
 obtain⟨r3,hr3,h⟩:=bS h
 refine oq 113 (I r3) rfl (bT rfl rfl (ci rfl rfl rfl (bh (bE rfl) (bh (H1 (dx (pj (path:=[]) rfl rfl aN rfl rfl) kC)) cz)) (Yq hr3) (.inl rfl) dA rfl rfl rfl)) ?_
 refine cq 2 [4] [I r3] 129 ?_
 obtain rfl:=Option.some.inj h
 exact ai rfl (qp [I r3])
theorem R6 {G:Go.Ln.Ground}:aH Tryz.prog G 184 Ex:=gT 2 0 (aB Qe bc) (Checked.mixed Tryz.checked) Tryz.func184 (fun a r h=>VL a.1 a.2 r h)
def GR:Int→List V:=oA I
def Gs (r:Bool):V×List V:=(B r,[])
noncomputable def qV:Ent:=aO [false] GR Gs fun x=>mz x
theorem sY {day_1:Int}{r}(h:mz day_1=some r):qV.F (GR day_1)=some (Gs r):=aA (az bA) h
noncomputable def YS:Code:=ay Tryz.f126
noncomputable def Uw:Env:=bG Tryz.prog [(86,gm)]
def Y6 (x:Int)(r:Bool):St→Prop:=QF Uw Tryz.f126 [false] (GR x) (Gs r)
theorem Vc (day_1:Int)(r:Bool)(h:mz day_1=some r):ba Uw Tryz.f126 [false] 0 (GR day_1) (Gs r):=by
 show Run _ _ (Y6 day_1 r) [.code YS] _
 refine rI 5 [(0,I day_1)] [] 1 ?_
 unfold mz at h
 refine cq 7 [3] [I day_1] 33 ?_
 obtain⟨r2,hr2,h⟩:=bS h
 refine oq 49 (B r2) rfl (cP (gb hr2)) ?_
 refine cq 2 [2] [B r2] 65 ?_
 obtain rfl:=Option.some.inj h
 exact ai rfl (qp [B r2])
theorem zc {G:Go.Ln.Ground}:aH Tryz.prog G 126 qV:=gT 1 0 (aB gx bc) (Checked.mixed Tryz.checked) Tryz.func126 (fun a r h=>Vc a r h)
def DM:(Condition×Int)→List V:=cA aP (oA I)
def AK (r:Int):V×List V:=(I r,[])
noncomputable def zk (slf_Ffj:(Condition×Int)→Option Int):Ent:=aO [false,false] DM AK slf_Ffj
theorem N0 (slf_Ffj:(Condition×Int)→Option Int){x}{r}(h:slf_Ffj x=some r):(zk slf_Ffj).F (DM x)=some (AK r):=aA (aU cb (az bA)) h
noncomputable def E4:Ent:=zk (aE kL)
theorem Y1 {c_1:Condition}{so_2:Int}{r}(h:NC c_1 so_2=some r):E4.F (DM (c_1,so_2))=some (AK r):=N0 (aE kL) h
noncomputable def sM:Code:=ay Tryz.f218
noncomputable abbrev nj:Code:=cR (cR (cR (cR (cR sM))))
noncomputable abbrev pf:Code:=cR (cL (cR (cR (cR (cR sM)))))
noncomputable def kD (slf_Ffj:(Condition×Int)→Option Int):Env:=bG Tryz.prog [(218,(zk slf_Ffj)),(159,oO),(126,qV),(86,gm)]
def d6 (slf_Ffj:(Condition×Int)→Option Int)(x:Condition×Int)(r:Int):St→Prop:=QF (kD slf_Ffj) Tryz.f218 [false,false] (DM x) (AK r)
theorem L6 (slf_Ffj:(Condition×Int)→Option Int)(c_1:Condition)(so_2:Int):cl (kD slf_Ffj) 0 (d6 slf_Ffj (c_1,so_2)) (cL (cL (cR (cL nj)))) 0 (kx slf_Ffj c_1 so_2) (fun u=>(sT 78 [(1,I u)] [] 1)) fun x5=>(sT 78 [(1,I x5.1),(65,.isl false (c_1.Parts.map aa)),(66,I (len c_1.Parts)),(67,I x5.2)] [] 1):=d5 (D9 slf_Ffj c_1 so_2) fun {Q K} hK self ih x5 y h hr hn=>by
 unfold jt at h
 refine cq 5 [68] [B (decide (x5.2<(len c_1.Parts)))] 17 ?_
 refine sq h (fun h=>?_) fun h=>?_
 ·refine aq 1 ?_
  refine aq 4 ?_
  obtain⟨e6,he6,h⟩:=bS h
  refine oq 33 (.iptr (.agg [I e6.Op,str e6.Name,I e6.Day,.isl false (e6.Parts.map aa)]) 0) rfl (al rfl rfl rfl (aM rfl rfl (bb e6) rfl he6)) ?_
  refine ck 2 [7,70] [] [49] [] [.hp 49 0 [] 4 0 0,.agg [I e6.Op,str e6.Name,I e6.Day,.isl false (e6.Parts.map aa)]] [some ⟨0,4,[.agg [I (0),str ([]),I (0),.isl true []]]⟩] 65 (by kernel_rfl) ?_
  refine eb 49 [.agg [I (0),str ([]),I (0),.usl 4 (([]).map ap)]] rfl rfl (au (eU (au (.refl _) (au (.refl _) (au (.refl _) (au (.nil _) dm))))) dm) ?_
  refine ck 6 [71,72] [] [49] [] [.agg [I e6.Op,str e6.Name,I e6.Day,.isl false (e6.Parts.map aa)],I x5.1] [some ⟨2,4,[.agg [I e6.Op,str e6.Name,I e6.Day,.isl false (e6.Parts.map aa)]]⟩] 113 (by kernel_rfl) ?_
  obtain⟨r7,hr7,h⟩:=bS h
  refine oq 129 (I r7) rfl (bT rfl rfl (ci rfl rfl rfl (bh (bE rfl) (bh (bE rfl) cz)) (N0 slf_Ffj hr7) (.inr rfl) dA rfl rfl rfl)) ?_
  refine cq 7 [1,75] [I r7,B (decide (r7<0))] 177 ?_
  refine sq h (fun h=>?_) fun h=>?_
  ·refine cq 4 [4] [I (-1)] 193 ?_
   exact ai rfl (hr _ (Option.some.inj h).symm _ (qp [I (-1)]))
  ·refine aq 1 ?_
   refine cq 5 [67] [I (ar (x5.2+1))] 209 ?_
   refine cS ?_
   exact rf [1,65,66,67] [] (ih _ _ h hr hn :)
 ·refine aq 1 ?_
  exact rf [1] [] (hn _ (Option.some.inj h).symm :) (hk:=hK)
theorem UL (slf_Ffj:(Condition×Int)→Option Int)(c_1:Condition)(so_2:Int)(r:Int)(h:vz slf_Ffj c_1 so_2=some r):ba (kD slf_Ffj) Tryz.f218 [false,false] 0 (DM (c_1,so_2)) (AK r):=by
 show Run _ _ (d6 slf_Ffj (c_1,so_2) r) [.code sM] _
 refine rI 78 [(0,.agg [I c_1.Op,str c_1.Name,I c_1.Day,.isl false (c_1.Parts.map aa)]),(1,I so_2)] [] 1 ?_
 unfold vz at h
 refine ck 13 [1,2] [] [1] [] [I (ar (so_2+1)),.hp 1 0 [] 4 0 0] [some ⟨0,4,[.agg [I c_1.Op,str c_1.Name,I c_1.Day,.isl false (c_1.Parts.map aa)]]⟩] 81 (by kernel_rfl) ?_
 refine oq 97 (.hs 81 0 [] 1 0 7) rfl (eC rfl (na (f:=I) (xs:=[]) (z:=I (0)) (es:=[I (-1),I (0),I (0),I (0),I (1),I (2),I (2)]) (ws:=[I (-1),I (0),I (0),I (0),I (1),I (2),I (2)]) rfl rfl rfl (by decide) rfl (dK rfl) rfl)) ?_
 refine cq 4 [5] [.hs 81 0 [] 1 0 7] 113 ?_
 refine dN [0,1,3,7,15,31,63,127,255,511,1023,2047,511,511,8703,29183,61951,131071,262143] rfl (by decide +kernel) ?_
 refine dk 3 [13,12,11] [B (decide ((ar (so_2+1))>15)),B (decide ((ar (so_2+1))>15)),I (ar (so_2+1))] ?_
 obtain⟨y3,hy3,hy31,hy32⟩:=bJ h
 have j3:∀u3,y3=.inr u3→Run (kD slf_Ffj) 0 (d6 slf_Ffj (c_1,so_2) r) (.code (cR (cL (cR (cR (cR sM)))))::.code (cR (cR (cR (cR sM))))::[]) (sT 78 [(1,I (ar (so_2+1))),(2,.hp 1 0 [] 4 0 0),(29,B u3)] [⟨0,4,[.agg [I c_1.Op,str c_1.Name,I c_1.Day,.isl false (c_1.Parts.map aa)]]⟩] 2):=by
  intro u3 hu
  replace h:=hy32 u3 hu
  refine sq h (fun h=>?_) fun h=>?_
  ·refine cq 4 [4] [I (-1)] 18 ?_
   obtain rfl:=Option.some.inj h
   exact ai rfl (qp [I (-1)])
  ·refine aq 1 ?_
   refine cq 11 [37] [B (!((c_1.Op==2)==(!(c_1.Name==([]:ah)))))] 130 ?_
   obtain⟨y4,hy4,hy41,hy42⟩:=bJ h
   have j4:∀u4,y4=.inr u4→Run (kD slf_Ffj) 0 (d6 slf_Ffj (c_1,so_2) r) (.code pf::.code nj::[]) (sT 78 [(1,I (ar (so_2+1))),(2,.hp 1 0 [] 4 0 0),(63,B u4)] [⟨0,4,[.agg [I c_1.Op,str c_1.Name,I c_1.Day,.isl false (c_1.Parts.map aa)]]⟩] 2):=by
    intro u4 hu
    replace h:=hy42 u4 hu
    refine sq h (fun h=>?_) fun h=>?_
    ·refine cq 4 [4] [I (-1)] 18 ?_
     obtain rfl:=Option.some.inj h
     exact ai rfl (qp [I (-1)])
    ·refine aq 1 ?_
     refine cq 5 [65] [.isl false (c_1.Parts.map aa)] 34 ?_
     refine oq 50 (I (len c_1.Parts)) rfl (aZ rfl rfl rfl (bg rfl)) ?_
     refine cq 3 [67] [I (0)] 66 ?_
     obtain⟨y8,hy8,hy81,hy82⟩:=bJ h
     refine bW rfl ?_
     refine rf [1,65,66,67] [] (L6 slf_Ffj c_1 so_2 rfl ((ar (so_2+1)),0) _ hy8 (fun r' e st hq=>by rw[hy81 r' e] at hq;exact hq) fun u8 hu=>?_)
     replace h:=hy82 u8 hu
     refine cq 5 [4] [I u8] 33 ?_
     obtain rfl:=Option.some.inj h
     exact ai rfl (qp [I u8])
   have r4:∀r',y4=.inl r'→∀st,d6 slf_Ffj (c_1,so_2) r' st→(d6 slf_Ffj (c_1,so_2) r) st:=fun r' e st hq=>by rw[hy41 r' e] at hq;exact hq
   replace h:=hy4
   refine sp 37 h rfl (fun h=>?_) fun h=>?_
   ·refine cq 27 [63] [B true] 546 ?_
    exact rf [1,2,63] [1] (j4 _ (Option.some.inj h).symm :)
   ·refine cq 4 [41] [B (c_1.Op==2)] 194 ?_
    obtain⟨y9,hy9,hy91,hy92⟩:=bL h
    have j9:∀u9,y9=.inr u9→Run (kD slf_Ffj) 0 (d6 slf_Ffj (c_1,so_2) r) (.code pf::.code nj::[]) (sT 78 [(1,I (ar (so_2+1))),(2,.hp 1 0 [] 4 0 0),(63,B u9)] [⟨0,4,[.agg [I c_1.Op,str c_1.Name,I c_1.Day,.isl false (c_1.Parts.map aa)]]⟩] 2):=by
     intro u9 hu
     replace h:=hy92 u9 hu
     exact rf [1,2,63] [1] (j4 _ (Option.some.inj h).symm :)
    have r9:∀r',y9=.inl r'→∀st,d6 slf_Ffj (c_1,so_2) r' st→(d6 slf_Ffj (c_1,so_2) r) st:=fun r' e st hq=>r4 r' (hy91 r' e) st hq
    replace h:=hy9
    refine sp 41 h rfl (fun h=>?_) fun h=>?_
    ·refine cq 2 [43] [str c_1.Name] 226 ?_
     obtain⟨r10,hr10,h⟩:=bS h
     refine oy 242 (B r10) rfl (cP (Dg hr10)) ?_
     refine cq 4 [48] [B (!r10)] 306 ?_
     obtain⟨y11,hy11,hy111,hy112⟩:=bL h
     have j11:∀u11,y11=.inr u11→Run (kD slf_Ffj) 0 (d6 slf_Ffj (c_1,so_2) r) (.code pf::.code nj::[]) (sT 78 [(1,I (ar (so_2+1))),(2,.hp 1 0 [] 4 0 0),(63,B u11)] [⟨0,4,[.agg [I c_1.Op,str c_1.Name,I c_1.Day,.isl false (c_1.Parts.map aa)]]⟩] 2):=by
      intro u11 hu
      replace h:=hy112 u11 hu
      exact rf [1,2,63] [1] (j9 _ (Option.some.inj h).symm :)
     have r11:∀r',y11=.inl r'→∀st,d6 slf_Ffj (c_1,so_2) r' st→(d6 slf_Ffj (c_1,so_2) r) st:=fun r' e st hq=>r9 r' (hy111 r' e) st hq
     replace h:=hy11
     refine sp 48 h rfl (fun h=>?_) fun h=>?_
     ·refine cq 16 [63] [B true] 546 ?_
      exact rf [1,2,63] [1] (j11 _ (Option.some.inj h).symm :)
     ·refine cq 4 [52] [B (c_1.Op != 3)] 370 ?_
      obtain⟨y12,hy12,hy121,hy122⟩:=bL h
      have j12:∀u12,y12=.inr u12→Run (kD slf_Ffj) 0 (d6 slf_Ffj (c_1,so_2) r) (.code pf::.code nj::[]) (sT 78 [(1,I (ar (so_2+1))),(2,.hp 1 0 [] 4 0 0),(63,B u12)] [⟨0,4,[.agg [I c_1.Op,str c_1.Name,I c_1.Day,.isl false (c_1.Parts.map aa)]]⟩] 2):=by
       intro u12 hu
       replace h:=hy122 u12 hu
       exact rf [1,2,63] [1] (j11 _ (Option.some.inj h).symm :)
      have r12:∀r',y12=.inl r'→∀st,d6 slf_Ffj (c_1,so_2) r' st→(d6 slf_Ffj (c_1,so_2) r) st:=fun r' e st hq=>r11 r' (hy121 r' e) st hq
      replace h:=hy12
      refine sp 52 h rfl (fun h=>?_) fun h=>?_
      ·refine cq 6 [58] [B (c_1.Day != 0)] 466 ?_
       obtain⟨y13,hy13,hy131,hy132⟩:=bL h
       have j13:∀u13,y13=.inr u13→Run (kD slf_Ffj) 0 (d6 slf_Ffj (c_1,so_2) r) (.code pf::.code nj::[]) (sT 78 [(1,I (ar (so_2+1))),(2,.hp 1 0 [] 4 0 0),(63,B u13)] [⟨0,4,[.agg [I c_1.Op,str c_1.Name,I c_1.Day,.isl false (c_1.Parts.map aa)]]⟩] 2):=by
        intro u13 hu
        replace h:=hy132 u13 hu
        exact rf [1,2,63] [1] (j12 _ (Option.some.inj h).symm :)
       have r13:∀r',y13=.inl r'→∀st,d6 slf_Ffj (c_1,so_2) r' st→(d6 slf_Ffj (c_1,so_2) r) st:=fun r' e st hq=>r12 r' (hy131 r' e) st hq
       replace h:=hy13
       refine sp 58 h rfl (fun h=>?_) fun h=>?_
       ·refine cq 6 [63] [B true] 546 ?_
        exact rf [1,2,63] [1] (j13 _ (Option.some.inj h).symm :)
       ·refine cq 2 [60] [I c_1.Day] 498 ?_
        obtain⟨r14,hr14,h⟩:=bS h
        refine oy 514 (B r14) rfl (cP (sY hr14)) ?_
        refine cq 3 [63] [B (!r14)] 546 ?_
        exact rf [1,2,63] [1] (j13 _ (Option.some.inj h).symm :)
      ·refine cq 8 [58,60] [B false,I c_1.Day] 498 ?_
       obtain⟨r15,hr15,h⟩:=bS h
       refine oy 514 (B r15) rfl (cP (sY hr15)) ?_
       refine cq 3 [63] [B (!r15)] 546 ?_
       exact rf [1,2,63] [1] (j12 _ (Option.some.inj h).symm :)
    ·refine cq 11 [48,52] [B false,B (c_1.Op != 3)] 370 ?_
     obtain⟨y16,hy16,hy161,hy162⟩:=bL h
     have j16:∀u16,y16=.inr u16→Run (kD slf_Ffj) 0 (d6 slf_Ffj (c_1,so_2) r) (.code pf::.code nj::[]) (sT 78 [(1,I (ar (so_2+1))),(2,.hp 1 0 [] 4 0 0),(63,B u16)] [⟨0,4,[.agg [I c_1.Op,str c_1.Name,I c_1.Day,.isl false (c_1.Parts.map aa)]]⟩] 2):=by
      intro u16 hu
      replace h:=hy162 u16 hu
      exact rf [1,2,63] [1] (j9 _ (Option.some.inj h).symm :)
     have r16:∀r',y16=.inl r'→∀st,d6 slf_Ffj (c_1,so_2) r' st→(d6 slf_Ffj (c_1,so_2) r) st:=fun r' e st hq=>r9 r' (hy161 r' e) st hq
     replace h:=hy16
     refine sp 52 h rfl (fun h=>?_) fun h=>?_
     ·refine cq 6 [58] [B (c_1.Day != 0)] 466 ?_
      obtain⟨y17,hy17,hy171,hy172⟩:=bL h
      have j17:∀u17,y17=.inr u17→Run (kD slf_Ffj) 0 (d6 slf_Ffj (c_1,so_2) r) (.code pf::.code nj::[]) (sT 78 [(1,I (ar (so_2+1))),(2,.hp 1 0 [] 4 0 0),(63,B u17)] [⟨0,4,[.agg [I c_1.Op,str c_1.Name,I c_1.Day,.isl false (c_1.Parts.map aa)]]⟩] 2):=by
       intro u17 hu
       replace h:=hy172 u17 hu
       exact rf [1,2,63] [1] (j16 _ (Option.some.inj h).symm :)
      have r17:∀r',y17=.inl r'→∀st,d6 slf_Ffj (c_1,so_2) r' st→(d6 slf_Ffj (c_1,so_2) r) st:=fun r' e st hq=>r16 r' (hy171 r' e) st hq
      replace h:=hy17
      refine sp 58 h rfl (fun h=>?_) fun h=>?_
      ·refine cq 6 [63] [B true] 546 ?_
       exact rf [1,2,63] [1] (j17 _ (Option.some.inj h).symm :)
      ·refine cq 2 [60] [I c_1.Day] 498 ?_
       obtain⟨r18,hr18,h⟩:=bS h
       refine oy 514 (B r18) rfl (cP (sY hr18)) ?_
       refine cq 3 [63] [B (!r18)] 546 ?_
       exact rf [1,2,63] [1] (j17 _ (Option.some.inj h).symm :)
     ·refine cq 8 [58,60] [B false,I c_1.Day] 498 ?_
      obtain⟨r19,hr19,h⟩:=bS h
      refine oy 514 (B r19) rfl (cP (sY hr19)) ?_
      refine cq 3 [63] [B (!r19)] 546 ?_
      exact rf [1,2,63] [1] (j16 _ (Option.some.inj h).symm :)
 have r3:∀r',y3=.inl r'→∀st,d6 slf_Ffj (c_1,so_2) r' st→(d6 slf_Ffj (c_1,so_2) r) st:=fun r' e st hq=>by rw[hy31 r' e] at hq;exact hq
 replace h:=hy3
 refine sp 13 h rfl (fun h=>?_) fun h=>?_
 ·refine dk 16 [29,28,27,26,25,24,23,22,21,20,19,18,17,16,15,14] [B true,.und,.und,.und,.und,.und,.und,.und,.und,.und,B true,B true,.und,.und,.und,.und] ?_
  refine de 417 rfl rfl ?_
  exact rf [1,2,29] [1] (j3 _ (Option.some.inj h).symm :)
 ·refine dy [1] [] (.hp 1 0 [] 4 0 0) rfl (ak rfl rfl rfl) ?_
  refine dy [1] [] (I c_1.Op) rfl (aL rfl rfl) ?_
  obtain⟨r20,hr20,h⟩:=bS h
  refine dy [] [] (B r20) rfl (cP (gb hr20)) ?_ (ct rfl rfl rfl rfl (bh (bE rfl) (bh (bE rfl) (bh (bE rfl) cz))) (gb hr20) (.inr rfl) rfl)
  refine dk 3 [19,18,17] [B (!r20),B (!r20),B (!r20)] ?_
  obtain⟨y21,hy21,hy211,hy212⟩:=bL h
  have j21:∀u21,y21=.inr u21→Run (kD slf_Ffj) 0 (d6 slf_Ffj (c_1,so_2) r) (.code (cR (cL (cR (cR (cR sM)))))::.code (cR (cR (cR (cR sM))))::[]) (sT 78 [(1,I (ar (so_2+1))),(2,.hp 1 0 [] 4 0 0),(29,B u21)] [⟨0,4,[.agg [I c_1.Op,str c_1.Name,I c_1.Day,.isl false (c_1.Parts.map aa)]]⟩] 2):=by
   intro u21 hu
   replace h:=hy212 u21 hu
   exact rf [1,2,29] [1] (j3 _ (Option.some.inj h).symm :)
  have r21:∀r',y21=.inl r'→∀st,d6 slf_Ffj (c_1,so_2) r' st→(d6 slf_Ffj (c_1,so_2) r) st:=fun r' e st hq=>r3 r' (hy211 r' e) st hq
  replace h:=hy21
  refine sp 19 h rfl (fun h=>?_) fun h=>?_
  ·refine dk 10 [29,28,27,26,25,24,23,22,21,20] [B true,.und,.und,.und,.und,.und,.und,.und,.und,.und] ?_
   refine de 417 rfl rfl ?_
   exact rf [1,2,29] [1] (j21 _ (Option.some.inj h).symm :)
  ·refine dy [1] [] (.hp 1 0 [] 4 0 3) rfl (ak rfl rfl rfl) ?_
   refine dy [1] [] (.isl false (c_1.Parts.map aa)) rfl (aL rfl rfl) ?_
   refine dy [] [] (I (len c_1.Parts)) rfl (aZ rfl rfl rfl (bg rfl)) ?_
   refine dk 1 [23] [.hs 81 0 [] 1 0 7] ?_
   refine dy [1] [] (.hp 1 0 [] 4 0 0) rfl (ak rfl rfl rfl) ?_
   refine dy [1] [] (I c_1.Op) rfl (aL rfl rfl) ?_
   obtain⟨e22,he22,h⟩:=bS h
   refine dy [81] [] (.hp 81 0 [] 1 (0+Int.toNat c_1.Op) 0) rfl (al rfl rfl rfl (hY (f:=I) (xs:=[(-1),0,0,0,1,2,2]) rfl rfl rfl he22)) ?_
   refine dy [81] [] (I e22) rfl (aL rfl (pG (path:=[]) rfl rfl rfl aN (f9 (f:=I) (xs:=[(-1),0,0,0,1,2,2]) he22) rfl rfl rfl)) ?_
   refine dk 2 [29,28] [B ((len c_1.Parts) != e22),B ((len c_1.Parts) != e22)] ?_
   refine de 417 rfl rfl ?_
   exact rf [1,2,29] [1] (j21 _ (Option.some.inj h).symm :)
theorem Sf {G:Go.Ln.Ground}:aH Tryz.prog G 218 E4:=gK fun slf_Ffj g_Ffj=>gT 2 0 (aB g_Ffj (aB rV (aB zc (aB gx bc)))) (Checked.mixed Tryz.checked) Tryz.func218 (fun a r h=>UL slf_Ffj a.1 a.2 r h)
def Gd:Condition→List V:=oA aP
def GU (r:Bool):V×List V:=(B r,[])
noncomputable def EZ:Ent:=aO [false] Gd GU fun x=>Hz x
theorem Zb {c_1:Condition}{r}(h:Hz c_1=some r):EZ.F (Gd c_1)=some (GU r):=aA (az cb) h
noncomputable def YH:Code:=ay Tryz.f185
noncomputable def Uz:Env:=bG Tryz.prog [(218,E4)]
def YA (x:Condition)(r:Bool):St→Prop:=QF Uz Tryz.f185 [false] (Gd x) (GU r)
theorem UQ (c_1:Condition)(r:Bool)(h:Hz c_1=some r):ba Uz Tryz.f185 [false] 0 (Gd c_1) (GU r):=by
 show Run _ _ (YA c_1 r) [.code YH] _
 refine rI 6 [(0,.agg [I c_1.Op,str c_1.Name,I c_1.Day,.isl false (c_1.Parts.map aa)])] [] 1 ?_
 unfold Hz at h
 refine cq 8 [3] [.agg [I c_1.Op,str c_1.Name,I c_1.Day,.isl false (c_1.Parts.map aa)]] 49 ?_
 obtain⟨r2,hr2,h⟩:=bS h
 refine oq 65 (I r2) rfl (cP (Y1 hr2)) ?_
 refine cq 3 [2] [B (decide (r2>0))] 97 ?_
 obtain rfl:=Option.some.inj h
 exact ai rfl (qp [B (decide (r2>0))])
theorem TZ {G:Go.Ln.Ground}:aH Tryz.prog G 185 EZ:=gT 1 0 (aB Sf bc) (Checked.mixed Tryz.checked) Tryz.func185 (fun a r h=>UQ a r h)
def GE:(Contract×Int)→List V:=cA aG (oA I)
def Gz (r:Bool):V×List V:=(B r,[])
noncomputable def EG:Ent:=aO [false,false] GE Gz fun x=>Ii x.1 x.2
theorem Y4 {c_1:Contract}{i_2:Int}{r}(h:Ii c_1 i_2=some r):EG.F (GE (c_1,i_2))=some (Gz r):=aA (aU aQ (az bA)) h
noncomputable def ks:Code:=ay Tryz.f124
noncomputable abbrev H5:Code:=cR (cL (cR (cR (cR (cR ks)))))
noncomputable abbrev vn:Code:=cR (cR (cR (cR (cR (cR ks)))))
noncomputable abbrev Cg:Code:=cR (cL (cR (cR (cR (cR (cR ks))))))
noncomputable abbrev Jv:Code:=cR (cR (cR vn))
noncomputable def iD:Env:=bG Tryz.prog [(159,oO),(86,gm),(184,Ex),(185,EZ)]
def dC (x:Contract×Int)(r:Bool):St→Prop:=QF iD Tryz.f124 [false,false] (GE x) (Gz r)
end Go.Ln
