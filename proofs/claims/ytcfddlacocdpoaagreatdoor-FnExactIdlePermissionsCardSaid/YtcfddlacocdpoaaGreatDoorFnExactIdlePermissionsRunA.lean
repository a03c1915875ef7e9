/-
  The walks.
-/
import Derived.Test.YtcfddlacocdpoaaGreatDoorFnExactIdlePermissionsFun
import Derived.Test.YtcfddlacocdpoaaGreatDoorChecked
set_option maxHeartbeats 4000000
set_option linter.unusedVariables false
set_option linter.unusedSimpArgs false
set_option maxRecDepth 100000
namespace Go.Ln
open Go Go.Proofs
noncomputable abbrev cW:=Checked.mixed Tryz.checked
abbrev cM:=Go.Ln.Ground
abbrev cH (G:cM):=fq Tryz.prog G
noncomputable abbrev cV:=P7 Tryz.prog
def Bm:((List ac)×Int)→List V:=cA (lc str) (oA I)
def Bn (r:Int):V×List V:=(I r,[])
noncomputable def zd :=bx [false,false] Bm Bn fun x=>zc x.1 x.2
theorem VC {a_1:List ac}{ay:Int}{r}(h:zc a_1 ay=some r):zd.F (Bm (a_1,ay))=some (Bn r):=aP (bp (d6 bH) (aQ cf)) h
noncomputable def NY :=aJ Tryz.f41
noncomputable def HG :=cV []
def NX (x:(List ac)×Int)(r:Int):St→Prop:=QF HG Tryz.f41 [false,false] (Bm x) (Bn r)
theorem J6 (a_1:List ac)(ay:Int):cJ HG 0 (NX (a_1,ay)) (cL (cL (cR (cL (cR (cR (cR NY))))))) 0 (sa a_1 ay) (fun u=>(sT 28 [(1,I u)] [] 1)) fun x3=>(sT 28 [(0,.isl false (a_1.map str)),(1,I x3.1),(5,I x3.2)] [] 1):=eF (xu a_1 ay) fun {Q K} hK self ih x3 y h hr hn=>by
 unfold mm at h
 refine cq 5 [12,13] [I x3.2,.isl false (a_1.map str)] 33 ?_
 refine oq 49 (I (len a_1)) rfl (bG rfl rfl rfl (cF rfl)) ?_
 refine cq 2 [15] [B (decide (x3.2<(len a_1)))] 65 ?_
 refine sq h ?_ ?_<;>intro h
 ·refine aq 1 ?_
  refine cq 7 [18,19,20] [I x3.1,.isl false (a_1.map str),I x3.2] 113 ?_
  obtain⟨e4,he4,h⟩:=bS h
  refine oq 129 (.iptr (str e4) 0) rfl (an rfl rfl rfl (bC rfl rfl rfl rfl he4)) ?_
  refine cq 10 [1,26] [I (aj (x3.1 - (len e4))),B (decide ((aj (x3.1 - (len e4)))<0))] 225 ?_
  refine sq h ?_ ?_<;>intro h
  ·refine cq 4 [4] [I (-1)] 241 ?_
   exact bX rfl (hr _ (ap h) _ (qp [I (-1)]))
  ·refine aq 1 ?_
   refine cq 6 [5] [I (aj (x3.2+1))] 273 ?_
   refine dF ?_
   exact rf [0,1,5] [] (ih _ _ h hr hn :)
 ·refine aq 1 ?_
  exact rf [1] [] (hn _ (ap h) :) (hk:=hK)
theorem Q1 (a_1:List ac)(ay:Int)(r:Int)(h:zc a_1 ay=some r):bP HG Tryz.f41 [false,false] 0 (Bm (a_1,ay)) (Bn r):=by
 show Run _ _ (NX (a_1,ay) r) [.code NY] _
 refine rI 28 [(0,.isl false (a_1.map str)),(1,I ay)] [] 1 ?_
 unfold zc at h
 refine cq 8 [6,7] [I ay,.isl false (a_1.map str)] 49 ?_
 refine oq 65 (I (len a_1)) rfl (bG rfl rfl rfl (cF rfl)) ?_
 refine cq 9 [1,11] [I (aj (ay - (len a_1))),B (decide ((aj (ay - (len a_1)))<0))] 129 ?_
 refine sq h ?_ ?_<;>intro h
 ·refine cq 4 [4] [I (-1)] 145 ?_
  obtain rfl:=sI h
  exact rP [I (-1)]
 ·refine aq 1 ?_
  refine cq 6 [5] [I (0)] 145 ?_
  obtain⟨y5,hy5,hy51,hy52⟩:=bJ h
  refine b7 rfl ?_
  refine rf [0,1,5] [] (J6 a_1 ay rfl ((aj (ay - (len a_1))),0) _ hy5 (fun r' e st hq=>by rw[hy51 r' e] at hq;exact hq) fun u5 hu=>?_)
  replace h:=hy52 u5 hu
  refine cq 5 [4] [I u5] 33 ?_
  obtain rfl:=sI h
  exact rP [I u5]
theorem NZ {G:cM}:cH G 41 zd:=gT 2 0 bU cW Tryz.func41 (fun a r h=>Q1 a.1 a.2 r h)
def uG:(Condition×Int)→List V:=cA aD (oA I)
def uH (r:Int):V×List V:=(I r,[])
noncomputable def qF (aW:(Condition×Int)→Option Int):Ent:=bx [false,false] uG uH aW
theorem KQ (aW:(Condition×Int)→Option Int){x}{r}(h:aW x=some r):(qF aW).F (uG x)=some (uH r):=aP (bp ba (aQ cf)) h
def Bi:((List Condition)×Int)→List V:=cA (lc ar) (oA I)
def Bj (r:Int):V×List V:=(I r,[])
noncomputable def yZ (aW:(Condition×Int)→Option Int):Ent:=bx [false,false] Bi Bj fun x=>uI aW x.1 x.2
theorem Vy (aW:(Condition×Int)→Option Int){a_1:List Condition}{ay:Int}{r}(h:uI aW a_1 ay=some r):(yZ aW).F (Bi (a_1,ay))=some (Bj r):=aP (bp (d6 eU) (aQ cf)) h
noncomputable def NT :=aJ Tryz.f168
noncomputable def HF (aW:(Condition×Int)→Option Int):Env:=cV [(134,(qF aW))]
def NS (aW:(Condition×Int)→Option Int)(x:(List Condition)×Int)(r:Int):St→Prop:=QF (HF aW) Tryz.f168 [false,false] (Bi x) (Bj r)
theorem J5 (aW:(Condition×Int)→Option Int)(a_1:List Condition)(ay:Int):cJ (HF aW) 0 (NS aW (a_1,ay)) (cL (cL (cR (cL (cR (cR (cR NT))))))) 0 (pK aW a_1 ay) (fun u=>(sT 27 [(1,I u)] [] 1)) fun x3=>(sT 27 [(0,.isl false (a_1.map ar)),(1,I x3.1),(5,I x3.2)] [] 1):=eF (xt aW a_1 ay) fun {Q K} hK self ih x3 y h hr hn=>by
 unfold ku at h
 refine cq 5 [12,13] [I x3.2,.isl false (a_1.map ar)] 33 ?_
 refine oq 49 (I (len a_1)) rfl (bG rfl rfl rfl (cF rfl)) ?_
 refine cq 2 [15] [B (decide (x3.2<(len a_1)))] 65 ?_
 refine sq h ?_ ?_<;>intro h
 ·refine aq 1 ?_
  refine cq 6 [18,19] [.isl false (a_1.map ar),I x3.2] 97 ?_
  obtain⟨e4,he4,h⟩:=bS h
  refine oq 113 (.iptr (aD e4) 0) rfl (an rfl rfl rfl (bC rfl rfl (aY e4) rfl he4)) ?_
  refine cq 2 [21,22] [aD e4,I x3.1] 145 ?_
  obtain⟨r5,hr5,h⟩:=bS h
  refine oq 161 (I r5) rfl (aV rfl rfl (bq rfl rfl rfl (bi (bI rfl) (bi (bI rfl) cu)) (KQ aW hr5) (.inr rfl) cG rfl rfl rfl)) ?_
  refine cq 7 [1,25] [I r5,B (decide (r5<0))] 209 ?_
  refine sq h ?_ ?_<;>intro h
  ·refine cq 4 [4] [I (-1)] 225 ?_
   exact bX rfl (hr _ (ap h) _ (qp [I (-1)]))
  ·refine aq 1 ?_
   refine cq 6 [5] [I (aj (x3.2+1))] 257 ?_
   refine dF ?_
   exact rf [0,1,5] [] (ih _ _ h hr hn :)
 ·refine aq 1 ?_
  exact rf [1] [] (hn _ (ap h) :) (hk:=hK)
theorem QZ (aW:(Condition×Int)→Option Int)(a_1:List Condition)(ay:Int)(r:Int)(h:uI aW a_1 ay=some r):bP (HF aW) Tryz.f168 [false,false] 0 (Bi (a_1,ay)) (Bj r):=by
 show Run _ _ (NS aW (a_1,ay) r) [.code NT] _
 refine rI 27 [(0,.isl false (a_1.map ar)),(1,I ay)] [] 1 ?_
 unfold uI at h
 refine cq 8 [6,7] [I ay,.isl false (a_1.map ar)] 49 ?_
 refine oq 65 (I (len a_1)) rfl (bG rfl rfl rfl (cF rfl)) ?_
 refine cq 9 [1,11] [I (aj (ay - (len a_1))),B (decide ((aj (ay - (len a_1)))<0))] 129 ?_
 refine sq h ?_ ?_<;>intro h
 ·refine cq 4 [4] [I (-1)] 145 ?_
  obtain rfl:=sI h
  exact rP [I (-1)]
 ·refine aq 1 ?_
  refine cq 6 [5] [I (0)] 145 ?_
  obtain⟨y6,hy6,hy61,hy62⟩:=bJ h
  refine b7 rfl ?_
  refine rf [0,1,5] [] (J5 aW a_1 ay rfl ((aj (ay - (len a_1))),0) _ hy6 (fun r' e st hq=>by rw[hy61 r' e] at hq;exact hq) fun u6 hu=>?_)
  replace h:=hy62 u6 hu
  refine cq 5 [4] [I u6] 33 ?_
  obtain rfl:=sI h
  exact rP [I u6]
theorem NU {G:cM}(aW:(Condition×Int)→Option Int)(I4:cH G 134 (qF aW)):cH G 168 (yZ aW):=gT 2 0 (aR I4 bU) cW Tryz.func168 (fun a r h=>QZ aW a.1 a.2 r h)
noncomputable def yY :=qF (aA oK)
theorem Vv {a_1:Condition}{ay:Int}{r}(h:uF a_1 ay=some r):yY.F (uG (a_1,ay))=some (uH r):=KQ (aA oK) h
noncomputable def Vx :=aJ Tryz.f134
noncomputable def NQ (aW:(Condition×Int)→Option Int):Env:=cV [(168,(yZ aW))]
def Vw (aW:(Condition×Int)→Option Int)(x:Condition×Int)(r:Int):St→Prop:=QF (NQ aW) Tryz.f134 [false,false] (uG x) (uH r)
theorem QY (aW:(Condition×Int)→Option Int)(a_1:Condition)(ay:Int)(r:Int)(h:rZ aW a_1 ay=some r):bP (NQ aW) Tryz.f134 [false,false] 0 (uG (a_1,ay)) (uH r):=by
 show Run _ _ (Vw aW (a_1,ay) r) [.code Vx] _
 refine rI 19 [(0,aD a_1),(1,I ay)] [] 1 ?_
 unfold rZ at h
 refine ck 20 [1,2,11] [] [1] [] [I (aj (ay - (len a_1.Name))),.hp 1 0 [] 4 0 0,B (decide ((aj (ay - (len a_1.Name)))<0))] [some ⟨0,4,[aD a_1]⟩] 161 (by kernel_rfl) ?_
 refine sq h ?_ ?_<;>intro h
 ·refine cq 4 [4] [I (-1)] 177 ?_
  obtain rfl:=sI h
  exact rP [I (-1)]
 ·refine aq 1 ?_
  refine cq 5 [13,14] [.isl false (a_1.Parts.map ar),I (aj (ay - (len a_1.Name)))] 209 ?_
  obtain⟨r3,hr3,h⟩:=bS h
  refine oq 225 (I r3) rfl (aV rfl rfl (bq rfl rfl rfl (bi (bI rfl) (bi (bI rfl) cu)) (Vy aW hr3) (.inr rfl) cG rfl rfl rfl)) ?_
  refine cq 8 [1,17] [I r3,B (decide (r3<0))] 273 ?_
  refine sq h ?_ ?_<;>intro h
  ·refine cq 4 [4] [I (-1)] 289 ?_
   obtain rfl:=sI h
   exact rP [I (-1)]
  ·refine aq 1 ?_
   refine cq 5 [4] [I r3] 305 ?_
   obtain rfl:=sI h
   exact rP [I r3]
theorem NR {G:cM}:cH G 134 yY:=gp fun aW I4=>gT 2 0 (aR (NU aW I4) bU) cW Tryz.func134 (fun a r h=>QY aW a.1 a.2 r h)
def Be:(Clause×Int)→List V:=cA ao (oA I)
def Bf (r:Int):V×List V:=(I r,[])
noncomputable def yV :=bx [false,false] Be Bf fun x=>tc x.1 x.2
theorem Vr {a_1:Clause}{ay:Int}{r}(h:tc a_1 ay=some r):yV.F (Be (a_1,ay))=some (Bf r):=aP (bp cC (aQ cf)) h
noncomputable def Vt :=aJ Tryz.f88
noncomputable def NL :=cV [(134,yY)]
def Vs (x:Clause×Int)(r:Int):St→Prop:=QF NL Tryz.f88 [false,false] (Be x) (Bf r)
theorem QV (a_1:Clause)(ay:Int)(r:Int)(h:tc a_1 ay=some r):bP NL Tryz.f88 [false,false] 0 (Be (a_1,ay)) (Bf r):=by
 show Run _ _ (Vs (a_1,ay) r) [.code Vt] _
 refine rI 33 [(0,ao a_1),(1,I ay)] [] 1 ?_
 unfold tc at h
 refine ck 20 [1,2,11] [] [1] [] [I (aj (ay - (len a_1.Id))),.hp 1 0 [] 12 0 0,B (decide ((aj (ay - (len a_1.Id)))<0))] [some ⟨0,12,[ao a_1]⟩] 161 (by kernel_rfl) ?_
 refine sq h ?_ ?_<;>intro h
 ·refine cq 4 [4] [I (-1)] 177 ?_
  obtain rfl:=sI h
  exact rP [I (-1)]
 ·refine aq 1 ?_
  refine cq 15 [1,18] [I (aj ((aj (ay - (len a_1.Id))) - (len a_1.Action))),B (decide ((aj ((aj (ay - (len a_1.Id))) - (len a_1.Action)))<0))] 289 ?_
  refine sq h ?_ ?_<;>intro h
  ·refine cq 4 [4] [I (-1)] 305 ?_
   obtain rfl:=sI h
   exact rP [I (-1)]
  ·refine aq 1 ?_
   refine cq 5 [20,21] [aD a_1.When,I (aj ((aj (ay - (len a_1.Id))) - (len a_1.Action)))] 337 ?_
   obtain⟨r3,hr3,h⟩:=bS h
   refine oq 353 (I r3) rfl (cP (Vv hr3)) ?_
   refine cq 8 [1,24] [I r3,B (decide (r3<0))] 401 ?_
   refine sq h ?_ ?_<;>intro h
   ·refine cq 4 [4] [I (-1)] 417 ?_
    obtain rfl:=sI h
    exact rP [I (-1)]
   ·refine aq 1 ?_
    refine cq 15 [1,31] [I (aj (r3 - (len a_1.Repair))),B (decide ((aj (r3 - (len a_1.Repair)))<0))] 529 ?_
    refine sq h ?_ ?_<;>intro h
    ·refine cq 4 [4] [I (-1)] 545 ?_
     obtain rfl:=sI h
     exact rP [I (-1)]
    ·refine aq 1 ?_
     refine cq 5 [4] [I (aj (r3 - (len a_1.Repair)))] 561 ?_
     obtain rfl:=sI h
     exact rP [I (aj (r3 - (len a_1.Repair)))]
theorem NM {G:cM}:cH G 88 yV:=gT 2 0 (aR NR bU) cW Tryz.func88 (fun a r h=>QV a.1 a.2 r h)
def Bg:((List Clause)×Int)→List V:=cA (lc ao) (oA I)
def Bh (r:Int):V×List V:=(I r,[])
noncomputable def yX :=bx [false,false] Bg Bh fun x=>yW x.1 x.2
theorem Vu {a_1:List Clause}{ay:Int}{r}(h:yW a_1 ay=some r):yX.F (Bg (a_1,ay))=some (Bh r):=aP (bp (d6 cC) (aQ cf)) h
noncomputable def NO :=aJ Tryz.f42
noncomputable def HE :=cV [(88,yV)]
def NN (x:(List Clause)×Int)(r:Int):St→Prop:=QF HE Tryz.f42 [false,false] (Bg x) (Bh r)
theorem J4 (a_1:List Clause)(ay:Int):cJ HE 0 (NN (a_1,ay)) (cL (cL (cR (cL (cR (cR (cR NO))))))) 0 (rY a_1 ay) (fun u=>(sT 27 [(1,I u)] [] 1)) fun x3=>(sT 27 [(0,.isl false (a_1.map ao)),(1,I x3.1),(5,I x3.2)] [] 1):=eF (xr a_1 ay) fun {Q K} hK self ih x3 y h hr hn=>by
 unfold ml at h
 refine cq 5 [12,13] [I x3.2,.isl false (a_1.map ao)] 33 ?_
 refine oq 49 (I (len a_1)) rfl (bG rfl rfl rfl (cF rfl)) ?_
 refine cq 2 [15] [B (decide (x3.2<(len a_1)))] 65 ?_
 refine sq h ?_ ?_<;>intro h
 ·refine aq 1 ?_
  refine cq 6 [18,19] [.isl false (a_1.map ao),I x3.2] 97 ?_
  obtain⟨e4,he4,h⟩:=bS h
  refine oq 113 (.iptr (ao e4) 0) rfl (an rfl rfl rfl (bC rfl rfl rfl rfl he4)) ?_
  refine cq 2 [21,22] [ao e4,I x3.1] 145 ?_
  obtain⟨r5,hr5,h⟩:=bS h
  refine oq 161 (I r5) rfl (cP (Vr hr5)) ?_
  refine cq 7 [1,25] [I r5,B (decide (r5<0))] 209 ?_
  refine sq h ?_ ?_<;>intro h
  ·refine cq 4 [4] [I (-1)] 225 ?_
   exact bX rfl (hr _ (ap h) _ (qp [I (-1)]))
  ·refine aq 1 ?_
   refine cq 6 [5] [I (aj (x3.2+1))] 257 ?_
   refine dF ?_
   exact rf [0,1,5] [] (ih _ _ h hr hn :)
 ·refine aq 1 ?_
  exact rf [1] [] (hn _ (ap h) :) (hk:=hK)
theorem QW (a_1:List Clause)(ay:Int)(r:Int)(h:yW a_1 ay=some r):bP HE Tryz.f42 [false,false] 0 (Bg (a_1,ay)) (Bh r):=by
 show Run _ _ (NN (a_1,ay) r) [.code NO] _
 refine rI 27 [(0,.isl false (a_1.map ao)),(1,I ay)] [] 1 ?_
 unfold yW at h
 refine cq 8 [6,7] [I ay,.isl false (a_1.map ao)] 49 ?_
 refine oq 65 (I (len a_1)) rfl (bG rfl rfl rfl (cF rfl)) ?_
 refine cq 9 [1,11] [I (aj (ay - (len a_1))),B (decide ((aj (ay - (len a_1)))<0))] 129 ?_
 refine sq h ?_ ?_<;>intro h
 ·refine cq 4 [4] [I (-1)] 145 ?_
  obtain rfl:=sI h
  exact rP [I (-1)]
 ·refine aq 1 ?_
  refine cq 6 [5] [I (0)] 145 ?_
  obtain⟨y6,hy6,hy61,hy62⟩:=bJ h
  refine b7 rfl ?_
  refine rf [0,1,5] [] (J4 a_1 ay rfl ((aj (ay - (len a_1))),0) _ hy6 (fun r' e st hq=>by rw[hy61 r' e] at hq;exact hq) fun u6 hu=>?_)
  replace h:=hy62 u6 hu
  refine cq 5 [4] [I u6] 33 ?_
  obtain rfl:=sI h
  exact rP [I u6]
theorem NP {G:cM}:cH G 42 yX:=gT 2 0 (aR NM bU) cW Tryz.func42 (fun a r h=>QW a.1 a.2 r h)
def Bk:(Contract×Int)→List V:=cA aI (oA I)
def Bl (r:Int):V×List V:=(I r,[])
noncomputable def zb :=bx [false,false] Bk Bl fun x=>za x.1 x.2
theorem Vz {a_1:Contract}{ay:Int}{r}(h:za a_1 ay=some r):zb.F (Bk (a_1,ay))=some (Bl r):=aP (bp bB (aQ cf)) h
noncomputable def VB :=aJ Tryz.f12
noncomputable def NV :=cV [(41,zd),(42,yX)]
def VA (x:Contract×Int)(r:Int):St→Prop:=QF NV Tryz.f12 [false,false] (Bk x) (Bl r)
theorem Q0 (a_1:Contract)(ay:Int)(r:Int)(h:za a_1 ay=some r):bP NV Tryz.f12 [false,false] 0 (Bk (a_1,ay)) (Bl r):=by
 show Run _ _ (VA (a_1,ay) r) [.code VB] _
 refine rI 18 [(0,aI a_1),(1,I ay)] [] 1 ?_
 unfold za at h
 refine ck 10 [2,6,7] [] [1] [] [.hp 1 0 [] 2 0 0,.isl false (a_1.Parties.map str),I ay] [some ⟨0,2,[aI a_1]⟩] 81 (by kernel_rfl) ?_
 obtain⟨r3,hr3,h⟩:=bS h
 refine oq 97 (I r3) rfl (cP (VC hr3)) ?_
 refine cq 8 [1,10] [I r3,B (decide (r3<0))] 145 ?_
 refine sq h ?_ ?_<;>intro h
 ·refine cq 4 [4] [I (-1)] 161 ?_
  obtain rfl:=sI h
  exact rP [I (-1)]
 ·refine aq 1 ?_
  refine cq 5 [12,13] [.isl false (a_1.Clauses.map ao),I r3] 193 ?_
  obtain⟨r4,hr4,h⟩:=bS h
  refine oq 209 (I r4) rfl (cP (Vu hr4)) ?_
  refine cq 8 [1,16] [I r4,B (decide (r4<0))] 257 ?_
  refine sq h ?_ ?_<;>intro h
  ·refine cq 4 [4] [I (-1)] 273 ?_
   obtain rfl:=sI h
   exact rP [I (-1)]
  ·refine aq 1 ?_
   refine cq 5 [4] [I r4] 289 ?_
   obtain rfl:=sI h
   exact rP [I r4]
theorem NW {G:cM}:cH G 12 zb:=gT 2 0 (aR NZ (aR NP bU)) cW Tryz.func12 (fun a r h=>Q0 a.1 a.2 r h)
def Bw:(List ac)→List V:=oA (lc str)
def Bx (r:(List ac)):V×List V:=(.usl 1 (r.map str),[])
noncomputable def zm :=bx [false] Bw Bx fun x=>zl x
theorem VN {a_1:List ac}{r}(h:zl a_1=some r):zm.F (Bw a_1)=some (Bx r):=aP (aQ (d6 bH)) h
noncomputable def Od :=aJ Tryz.f45
noncomputable def HJ :=cV []
def Oc (x:(List ac))(r:(List ac)):St→Prop:=QF HJ Tryz.f45 [false] (Bw x) (Bx r)
theorem J9 (a_1:List ac):cJ HJ 0 (Oc a_1) (cL (cL (cR (cL (cR (cR Od)))))) 0 (se a_1) (fun u=>(sT 22 [(3,.hs 1 0 [] 1 0 (u.map str).length)] [⟨0,1,u.map str⟩] 2)) fun x3=>(sT 22 [(0,.isl false (a_1.map str)),(3,.hs 1 0 [] 1 0 (x3.2.map str).length),(4,I x3.1)] [⟨0,1,x3.2.map str⟩] 2):=eF (xz a_1) fun {Q K} hK self ih x3 y h hr hn=>by
 unfold mp at h
 refine cq 5 [8,9] [I x3.1,.isl false (a_1.map str)] 34 ?_
 refine oq 50 (I (len a_1)) rfl (bG rfl rfl rfl (cF rfl)) ?_
 refine cq 2 [11] [B (decide (x3.1<(len a_1)))] 66 ?_
 refine sq h ?_ ?_<;>intro h
 ·refine aq 1 ?_
  refine cq 7 [14,15,16,17] [.hs 1 0 [] 1 0 (x3.2.map str).length,I x3.1,.isl false (a_1.map str),I x3.1] 130 ?_
  obtain⟨e4,he4,h⟩:=bS h
  refine oq 146 (.iptr (str e4) 0) rfl (an rfl rfl rfl (bC rfl rfl rfl rfl he4)) ?_
  refine cq 1 [19] [str e4] 162 ?_
  obtain⟨e5,he5,h⟩:=bS h
  refine oq 178 (.hp 1 0 [] 1 (0+Int.toNat x3.1) 0) rfl (an rfl rfl rfl (dG (f:=str) (xs:=x3.2) rfl rfl rfl he5)) ?_
  refine o0 194 rfl rfl (fJ rfl rfl (eJ (path:=[]) (pl:=true) (e':=str e4) (es2':=(cT x3.2 x3.1 e4).map str) rfl (bu rfl) rfl rfl rfl aG (cX (f:=str) (xs:=x3.2) he5) rfl rfl rfl (jY (f:=str) (xs:=x3.2) (y:=e4)) ee 0 rfl)) ?_
  try rw[←ij (f:=str) (xs:=x3.2) (i:=x3.1) (z:=e4)]
  refine cq 7 [4] [I (aj (x3.1+1))] 242 ?_
  refine dF ?_
  exact rf [0,3,4] [1] (ih _ _ h hr hn :)
 ·refine aq 1 ?_
  exact rf [3] [1] (hn _ (ap h) :) (hk:=hK)
theorem Q8 (a_1:List ac)(r:(List ac))(h:zl a_1=some r):bP HJ Tryz.f45 [false] 0 (Bw a_1) (Bx r):=by
 show Run _ _ (Oc a_1 r) [.code Od] _
 refine rI 22 [(0,.isl false (a_1.map str))] [] 1 ?_
 unfold zl at h
 refine cq 7 [5] [.isl false (a_1.map str)] 33 ?_
 refine oq 49 (I (len a_1)) rfl (bG rfl rfl rfl (cF rfl)) ?_
 obtain⟨m2,hm2,h⟩:=bS h
 refine oq 65 (.hs 49 0 [] 1 0 (m2.map str).length) rfl (oC rfl rfl (P9 (f:=str) rfl rfl rfl (by decide) hm2 rfl)) ?_
 refine cq 8 [3,4] [.hs 49 0 [] 1 0 (m2.map str).length,I (0)] 97 ?_
 obtain⟨y6,hy6,hy61,hy62⟩:=bJ h
 refine b7 rfl ?_
 refine rf [0,3,4] [49] (J9 a_1 rfl (0,m2) _ hy6 (fun r' e st hq=>by rw[hy61 r' e] at hq;exact hq) fun u6 hu=>?_)
 replace h:=hy62 u6 hu
 refine cq 5 [2] [.hs 1 0 [] 1 0 (u6.map str).length] 34 ?_
 obtain rfl:=sI h
 exact bX rfl ⟨_,fin (vs:=[.hs 1 0 [] 1 0 (u6.map str).length]) rfl (d8 (eZ rfl (dm rfl rfl)) dX) rfl (d9 eC),ez⟩
theorem Oe {G:cM}:cH G 45 zm:=gT 1 0 bU cW Tryz.func45 (fun a r h=>Q8 a r h)
def uK:Condition→List V:=oA aD
def uL (r:Condition):V×List V:=(pe r,[])
noncomputable def qG (aX:Condition→Option Condition):Ent:=bx [false] uK uL aX
theorem KR (aX:Condition→Option Condition){x}{r}(h:aX x=some r):(qG aX).F (uK x)=some (uL r):=aP (aQ ba) h
def Bs:(List Condition)→List V:=oA (lc ar)
def Bt (r:(List Condition)):V×List V:=(.usl 4 (r.map ae),[])
noncomputable def zj (aX:Condition→Option Condition):Ent:=bx [false] Bs Bt fun x=>uM aX x
theorem VK (aX:Condition→Option Condition){a_1:List Condition}{r}(h:uM aX a_1=some r):(zj aX).F (Bs a_1)=some (Bt r):=aP (aQ (d6 eU)) h
noncomputable def N8 :=aJ Tryz.f174
noncomputable def HI (aX:Condition→Option Condition):Env:=cV [(139,(qG aX))]
def N7 (aX:Condition→Option Condition)(x:(List Condition))(r:(List Condition)):St→Prop:=QF (HI aX) Tryz.f174 [false] (Bs x) (Bt r)
theorem J8 (aX:Condition→Option Condition)(a_1:List Condition):cJ (HI aX) 0 (N7 aX a_1) (cL (cL (cR (cL (cR (cR N8)))))) 0 (pL aX a_1) (fun u=>(sT 23 [(3,.hs 1 0 [] 4 0 (u.map ae).length)] [⟨0,4,u.map ae⟩] 2)) fun x3=>(sT 23 [(0,.isl false (a_1.map ar)),(3,.hs 1 0 [] 4 0 (x3.2.map ae).length),(4,I x3.1)] [⟨0,4,x3.2.map ae⟩] 2):=eF (xy aX a_1) fun {Q K} hK self ih x3 y h hr hn=>by
 unfold kv at h
 refine cq 5 [8,9] [I x3.1,.isl false (a_1.map ar)] 34 ?_
 refine oq 50 (I (len a_1)) rfl (bG rfl rfl rfl (cF rfl)) ?_
 refine cq 2 [11] [B (decide (x3.1<(len a_1)))] 66 ?_
 refine sq h ?_ ?_<;>intro h
 ·refine aq 1 ?_
  refine cq 7 [14,15,16,17] [.hs 1 0 [] 4 0 (x3.2.map ae).length,I x3.1,.isl false (a_1.map ar),I x3.1] 130 ?_
  obtain⟨e4,he4,h⟩:=bS h
  refine oq 146 (.iptr (aD e4) 0) rfl (an rfl rfl rfl (bC rfl rfl (aY e4) rfl he4)) ?_
  refine cq 1 [19] [aD e4] 162 ?_
  obtain⟨r5,hr5,h⟩:=bS h
  refine oq 178 (.agg [I r5.Op,str r5.Name,I r5.Day,.hs 162 0 [] 4 0 (r5.Parts.map ae).length]) rfl (aV rfl rfl (bq rfl rfl rfl (bi (bI rfl) cu) (KR aX hr5) (.inr rfl) cG rfl rfl rfl)) ?_
  obtain⟨e6,he6,h⟩:=bS h
  refine oq 194 (.hp 1 0 [] 4 (0+Int.toNat x3.1) 0) rfl (an rfl rfl rfl (dG (f:=ae) (xs:=x3.2) rfl rfl rfl he6)) ?_
  refine o0 210 rfl rfl (fJ rfl rfl (eJ (path:=[]) (pl:=false) (e':=pe r5) (es2':=(cT x3.2 x3.1 r5).map ae) rfl (qj (dh (dC rfl) (dh (dC rfl) (dh (dC rfl) (dh (dm rfl rfl) qk))))) rfl rfl rfl aG (kT (f:=ae) (xs:=x3.2) (cU e6) he6) rfl rfl rfl (AD (f:=ae) (xs:=x3.2) (cU r5)) ee 1 rfl)) ?_
  try rw[←ij (f:=ae) (xs:=x3.2) (i:=x3.1) (z:=r5)]
  refine cq 7 [4] [I (aj (x3.1+1))] 258 ?_
  refine dF ?_
  exact rf [0,3,4] [1] (ih _ _ h hr hn :)
 ·refine aq 1 ?_
  exact rf [3] [1] (hn _ (ap h) :) (hk:=hK)
theorem Q6 (aX:Condition→Option Condition)(a_1:List Condition)(r:(List Condition))(h:uM aX a_1=some r):bP (HI aX) Tryz.f174 [false] 0 (Bs a_1) (Bt r):=by
 show Run _ _ (N7 aX a_1 r) [.code N8] _
 refine rI 23 [(0,.isl false (a_1.map ar))] [] 1 ?_
 unfold uM at h
 refine cq 7 [5] [.isl false (a_1.map ar)] 33 ?_
 refine oq 49 (I (len a_1)) rfl (bG rfl rfl rfl (cF rfl)) ?_
 obtain⟨m2,hm2,h⟩:=bS h
 refine oq 65 (.hs 49 0 [] 4 0 (m2.map ae).length) rfl (oC rfl rfl (P8 (g:=ae) (f:=fun _=>(.agg [I (0),str ([]),I (0),.isl true []]:V)) (z0:=(Condition.mk 0 [] 0 [])) rfl rfl rfl (by decide) hm2 rfl)) ?_
 refine fx 49 (m2.map ae) rfl rfl (IU hm2 ((cU _).symm▸gf (az (.refl _) (az (.refl _) (az (.refl _) (az (.nil _) eh)))))) ?_
 refine cq 8 [3,4] [.hs 49 0 [] 4 0 (m2.map ae).length,I (0)] 97 ?_
 obtain⟨y7,hy7,hy71,hy72⟩:=bJ h
 refine b7 rfl ?_
 refine rf [0,3,4] [49] (J8 aX a_1 rfl (0,m2) _ hy7 (fun r' e st hq=>by rw[hy71 r' e] at hq;exact hq) fun u7 hu=>?_)
 replace h:=hy72 u7 hu
 refine cq 5 [2] [.hs 1 0 [] 4 0 (u7.map ae).length] 34 ?_
 obtain rfl:=sI h
 exact bX rfl ⟨_,fin (vs:=[.hs 1 0 [] 4 0 (u7.map ae).length]) rfl (d8 (eZ rfl (dm rfl rfl)) dX) rfl (d9 eC),ez⟩
theorem N9 {G:cM}(aX:Condition→Option Condition)(I5:cH G 139 (qG aX)):cH G 174 (zj aX):=gT 1 0 (aR I5 bU) cW Tryz.func174 (fun a r h=>Q6 aX a r h)
noncomputable def zi :=qG (aA oL)
theorem VH {a_1:Condition}{r}(h:zh a_1=some r):zi.F (uK a_1)=some (uL r):=KR (aA oL) h
noncomputable def VJ :=aJ Tryz.f139
noncomputable def N5 (aX:Condition→Option Condition):Env:=cV [(174,(zj aX))]
def VI (aX:Condition→Option Condition)(x:Condition)(r:Condition):St→Prop:=QF (N5 aX) Tryz.f139 [false] (uK x) (uL r)
theorem Q5 (aX:Condition→Option Condition)(a_1:Condition)(r:Condition)(h:sd aX a_1=some r):bP (N5 aX) Tryz.f139 [false] 0 (uK a_1) (uL r):=by
 show Run _ _ (VI aX a_1 r) [.code VJ] _
 refine rI 18 [(0,aD a_1)] [] 1 ?_
 unfold sd at h
 refine ck 4 [1,2] [] [1,17] [] [.hp 1 0 [] 4 0 0,.hp 17 0 [] 4 0 0] [some ⟨0,4,[aD a_1]⟩,some ⟨0,4,[.agg [I (0),str ([]),I (0),.isl true []]]⟩] 33 (by kernel_rfl) ?_
 refine fx 17 [.agg [I (0),str ([]),I (0),.usl 4 (([]).map ae)]] rfl rfl (az (gf (az (.refl _) (az (.refl _) (az (.refl _) (az (.nil _) eh))))) eh) ?_
 refine ck 4 [3] [] [33] [] [.hp 33 0 [] 4 0 0] [some ⟨0,4,[.agg [I (0),str ([]),I (0),.isl true []]]⟩] 49 (by kernel_rfl) ?_
 refine fx 33 [.agg [I (0),str ([]),I (0),.usl 4 (([]).map ae)]] rfl rfl (az (gf (az (.refl _) (az (.refl _) (az (.refl _) (az (.nil _) eh))))) eh) ?_
 refine ck 26 [14] [] [33] [] [.isl false (a_1.Parts.map ar)] [some ⟨1,4,[.agg [I a_1.Op,str a_1.Name,I a_1.Day,.usl 4 (([]).map ae)]]⟩] 273 (by kernel_rfl) ?_
 obtain⟨r2,hr2,h⟩:=bS h
 refine oq 289 (.hs 273 0 [] 4 0 (r2.map ae).length) rfl (aV rfl rfl (bq rfl rfl rfl (bi (bI rfl) cu) (VK aX hr2) (.inr rfl) cG rfl rfl rfl)) ?_
 refine cq 1 [16] [.hp 33 0 [] 4 0 3] 305 ?_
 refine o0 321 rfl rfl (fJ rfl rfl (eJ (path:=[]) (pl:=false) (e':=.agg [I a_1.Op,str a_1.Name,I a_1.Day,.usl 4 (r2.map ae)]) (es2':=[.agg [I a_1.Op,str a_1.Name,I a_1.Day,.usl 4 (r2.map ae)]]) rfl (eZ rfl (dm rfl rfl)) rfl rfl rfl aG rfl rfl rfl rfl rfl ee 2 rfl)) ?_
 refine cq 4 [17] [.agg [I a_1.Op,str a_1.Name,I a_1.Day,.hs 33 2 [(0,3)] 4 0 (r2.map ae).length]] 337 ?_
 refine o0 353 rfl rfl (fJ rfl rfl (eJ (path:=[]) (pl:=false) (e':=.agg [I a_1.Op,str a_1.Name,I a_1.Day,.usl 4 (r2.map ae)]) (es2':=[.agg [I a_1.Op,str a_1.Name,I a_1.Day,.usl 4 (r2.map ae)]]) rfl (qj (dh (dC rfl) (dh (dC rfl) (dh (dC rfl) (dh (nc (path:=[(0,3)]) rfl rfl (gZ rfl rfl aG) rfl (rL (path:=[]) (i:=0) (k:=3) (e':=.agg [I a_1.Op,str a_1.Name,I a_1.Day,.dead]) (es2':=[.agg [I a_1.Op,str a_1.Name,I a_1.Day,.dead]]) aG rfl rfl rfl ee)) qk))))) rfl rfl rfl aG rfl rfl rfl rfl rfl ee 2 rfl)) ?_
 refine aq 1 ?_
 obtain rfl:=sI h
 exact bX rfl ⟨_,fin (vs:=[.agg [I a_1.Op,str a_1.Name,I a_1.Day,.hs 17 2 [(0,3)] 4 0 (r2.map ae).length]]) (ST (E7 rfl rfl rfl) SU) (d8 (qj (dh (dC rfl) (dh (dC rfl) (dh (dC rfl) (dh (nc (path:=[(0,3)]) rfl rfl (gZ rfl rfl aG) rfl (rL (path:=[]) (i:=0) (k:=3) (e':=.agg [I a_1.Op,str a_1.Name,I a_1.Day,.dead]) (es2':=[.agg [I a_1.Op,str a_1.Name,I a_1.Day,.dead]]) aG rfl rfl rfl ee)) qk))))) dX) rfl (d9 eC),ez⟩
theorem N6 {G:cM}:cH G 139 zi:=gp fun aX I5=>gT 1 0 (aR (N9 aX I5) bU) cW Tryz.func139 (fun a r h=>Q5 aX a r h)
def Bo:Clause→List V:=oA ao
def Bp (r:Clause):V×List V:=(sX r,[])
noncomputable def ze :=bx [false] Bo Bp fun x=>uJ x
theorem VD {a_1:Clause}{r}(h:uJ a_1=some r):ze.F (Bo a_1)=some (Bp r):=aP (aQ cC) h
noncomputable def VF :=aJ Tryz.f97
noncomputable def N0 :=cV [(139,zi)]
def VE (x:Clause)(r:Clause):St→Prop:=QF N0 Tryz.f97 [false] (Bo x) (Bp r)
theorem Q2 (a_1:Clause)(r:Clause)(h:uJ a_1=some r):bP N0 Tryz.f97 [false] 0 (Bo a_1) (Bp r):=by
 show Run _ _ (VE a_1 r) [.code VF] _
 refine rI 33 [(0,ao a_1)] [] 1 ?_
 unfold uJ at h
 refine ck 4 [1,2] [] [1,17] [] [.hp 1 0 [] 12 0 0,.hp 17 0 [] 12 0 0] [some ⟨0,12,[ao a_1]⟩,some ⟨0,12,[.agg [str ([]),I (0),I (0),str ([]),I (0),I (0),I (0),str ([]),I (0),.isl true [],I (0),str ([])]]⟩] 33 (by kernel_rfl) ?_
 refine fx 17 [.agg [str ([]),I (0),I (0),str ([]),I (0),I (0),I (0),str ([]),I (0),.usl 4 (([]).map ae),I (0),str ([])]] rfl rfl (az (gf (az (.refl _) (az (.refl _) (az (.refl _) (az (.refl _) (az (.refl _) (az (.refl _) (az (.refl _) (az (.refl _) (az (.refl _) (az (.nil _) (az (.refl _) (az (.refl _) eh))))))))))))) eh) ?_
 refine ck 4 [3] [] [33] [] [.hp 33 0 [] 12 0 0] [some ⟨0,12,[.agg [str ([]),I (0),I (0),str ([]),I (0),I (0),I (0),str ([]),I (0),.isl true [],I (0),str ([])]]⟩] 49 (by kernel_rfl) ?_
 refine fx 33 [.agg [str ([]),I (0),I (0),str ([]),I (0),I (0),I (0),str ([]),I (0),.usl 4 (([]).map ae),I (0),str ([])]] rfl rfl (az (gf (az (.refl _) (az (.refl _) (az (.refl _) (az (.refl _) (az (.refl _) (az (.refl _) (az (.refl _) (az (.refl _) (az (.refl _) (az (.nil _) (az (.refl _) (az (.refl _) eh))))))))))))) eh) ?_
 refine ck 47 [23] [] [33] [] [aD a_1.When] [some ⟨1,12,[.agg [str a_1.Id,I a_1.Kind,I a_1.Party,str a_1.Action,I a_1.Other,I a_1.Amount,I (0),str ([]),I (0),.usl 4 (([]).map ae),I (0),str ([])]]⟩] 465 (by kernel_rfl) ?_
 obtain⟨r2,hr2,h⟩:=bS h
 refine oq 481 (.agg [I r2.Op,str r2.Name,I r2.Day,.hs 465 0 [] 4 0 (r2.Parts.map ae).length]) rfl (cP (VH hr2)) ?_
 refine cq 1 [25] [.hp 33 0 [] 12 0 6] 497 ?_
 refine o0 513 rfl rfl (fJ rfl rfl (eJ (path:=[]) (pl:=false) (e':=.agg [str a_1.Id,I a_1.Kind,I a_1.Party,str a_1.Action,I a_1.Other,I a_1.Amount,I r2.Op,str r2.Name,I r2.Day,.usl 4 (r2.Parts.map ae),I (0),str ([])]) (es2':=[.agg [str a_1.Id,I a_1.Kind,I a_1.Party,str a_1.Action,I a_1.Other,I a_1.Amount,I r2.Op,str r2.Name,I r2.Day,.usl 4 (r2.Parts.map ae),I (0),str ([])]]) rfl (qj (dh (dC rfl) (dh (dC rfl) (dh (dC rfl) (dh (dm rfl rfl) qk))))) rfl rfl rfl aG rfl rfl rfl rfl rfl ee 2 rfl)) ?_
 refine ck 18 [32] [] [33] [] [.agg [str a_1.Id,I a_1.Kind,I a_1.Party,str a_1.Action,I a_1.Other,I a_1.Amount,I r2.Op,str r2.Name,I r2.Day,.hs 33 2 [(0,9)] 4 0 (r2.Parts.map ae).length,I a_1.Within,str a_1.Repair]] [some ⟨2,12,[.agg [str a_1.Id,I a_1.Kind,I a_1.Party,str a_1.Action,I a_1.Other,I a_1.Amount,I r2.Op,str r2.Name,I r2.Day,.usl 4 (r2.Parts.map ae),I a_1.Within,str a_1.Repair]]⟩] 657 (by kernel_rfl) ?_
 refine o0 673 rfl rfl (fJ rfl rfl (eJ (path:=[]) (pl:=false) (e':=.agg [str a_1.Id,I a_1.Kind,I a_1.Party,str a_1.Action,I a_1.Other,I a_1.Amount,I r2.Op,str r2.Name,I r2.Day,.usl 4 (r2.Parts.map ae),I a_1.Within,str a_1.Repair]) (es2':=[.agg [str a_1.Id,I a_1.Kind,I a_1.Party,str a_1.Action,I a_1.Other,I a_1.Amount,I r2.Op,str r2.Name,I r2.Day,.usl 4 (r2.Parts.map ae),I a_1.Within,str a_1.Repair]]) rfl (qj (dh (dC rfl) (dh (dC rfl) (dh (dC rfl) (dh (dC rfl) (dh (dC rfl) (dh (dC rfl) (dh (dC rfl) (dh (dC rfl) (dh (dC rfl) (dh (nc (path:=[(0,9)]) rfl rfl (gZ rfl rfl aG) rfl (rL (path:=[]) (i:=0) (k:=9) (e':=.agg [str a_1.Id,I a_1.Kind,I a_1.Party,str a_1.Action,I a_1.Other,I a_1.Amount,I r2.Op,str r2.Name,I r2.Day,.dead,I a_1.Within,str a_1.Repair]) (es2':=[.agg [str a_1.Id,I a_1.Kind,I a_1.Party,str a_1.Action,I a_1.Other,I a_1.Amount,I r2.Op,str r2.Name,I r2.Day,.dead,I a_1.Within,str a_1.Repair]]) aG rfl rfl rfl ee)) (dh (dC rfl) (dh (dC rfl) qk))))))))))))) rfl rfl rfl aG rfl rfl rfl rfl rfl ee 2 rfl)) ?_
 refine aq 1 ?_
 obtain rfl:=sI h
 exact bX rfl ⟨_,fin (vs:=[.agg [str a_1.Id,I a_1.Kind,I a_1.Party,str a_1.Action,I a_1.Other,I a_1.Amount,I r2.Op,str r2.Name,I r2.Day,.hs 17 2 [(0,9)] 4 0 (r2.Parts.map ae).length,I a_1.Within,str a_1.Repair]]) (ST (E7 rfl rfl rfl) SU) (d8 (qj (dh (dC rfl) (dh (dC rfl) (dh (dC rfl) (dh (dC rfl) (dh (dC rfl) (dh (dC rfl) (dh (dC rfl) (dh (dC rfl) (dh (dC rfl) (dh (nc (path:=[(0,9)]) rfl rfl (gZ rfl rfl aG) rfl (rL (path:=[]) (i:=0) (k:=9) (e':=.agg [str a_1.Id,I a_1.Kind,I a_1.Party,str a_1.Action,I a_1.Other,I a_1.Amount,I r2.Op,str r2.Name,I r2.Day,.dead,I a_1.Within,str a_1.Repair]) (es2':=[.agg [str a_1.Id,I a_1.Kind,I a_1.Party,str a_1.Action,I a_1.Other,I a_1.Amount,I r2.Op,str r2.Name,I r2.Day,.dead,I a_1.Within,str a_1.Repair]]) aG rfl rfl rfl ee)) (dh (dC rfl) (dh (dC rfl) qk))))))))))))) dX) rfl (d9 eC),ez⟩
theorem N1 {G:cM}:cH G 97 ze:=gT 1 0 (aR N6 bU) cW Tryz.func97 (fun a r h=>Q2 a r h)
def Bq:(List Clause)→List V:=oA (lc ao)
def Br (r:(List Clause)):V×List V:=(.usl 12 (r.map ah),[])
noncomputable def zg :=bx [false] Bq Br fun x=>zf x
theorem VG {a_1:List Clause}{r}(h:zf a_1=some r):zg.F (Bq a_1)=some (Br r):=aP (aQ (d6 cC)) h
noncomputable def N3 :=aJ Tryz.f46
noncomputable def HH :=cV [(97,ze)]
def N2 (x:(List Clause))(r:(List Clause)):St→Prop:=QF HH Tryz.f46 [false] (Bq x) (Br r)
theorem J7 (a_1:List Clause):cJ HH 0 (N2 a_1) (cL (cL (cR (cL (cR (cR N3)))))) 0 (sb a_1) (fun u=>(sT 23 [(3,.hs 1 0 [] 12 0 (u.map ah).length)] [⟨0,12,u.map ah⟩] 2)) fun x3=>(sT 23 [(0,.isl false (a_1.map ao)),(3,.hs 1 0 [] 12 0 (x3.2.map ah).length),(4,I x3.1)] [⟨0,12,x3.2.map ah⟩] 2):=eF (xw a_1) fun {Q K} hK self ih x3 y h hr hn=>by
 unfold mo at h
 refine cq 5 [8,9] [I x3.1,.isl false (a_1.map ao)] 34 ?_
 refine oq 50 (I (len a_1)) rfl (bG rfl rfl rfl (cF rfl)) ?_
 refine cq 2 [11] [B (decide (x3.1<(len a_1)))] 66 ?_
 refine sq h ?_ ?_<;>intro h
 ·refine aq 1 ?_
  refine cq 7 [14,15,16,17] [.hs 1 0 [] 12 0 (x3.2.map ah).length,I x3.1,.isl false (a_1.map ao),I x3.1] 130 ?_
  obtain⟨e4,he4,h⟩:=bS h
  refine oq 146 (.iptr (ao e4) 0) rfl (an rfl rfl rfl (bC rfl rfl rfl rfl he4)) ?_
  refine cq 1 [19] [ao e4] 162 ?_
  obtain⟨r5,hr5,h⟩:=bS h
  refine oq 178 (.agg [str r5.Id,I r5.Kind,I r5.Party,str r5.Action,I r5.Other,I r5.Amount,I r5.When.Op,str r5.When.Name,I r5.When.Day,.hs 162 0 [] 4 0 (r5.When.Parts.map ae).length,I r5.Within,str r5.Repair]) rfl (cP (VD hr5)) ?_
  obtain⟨e6,he6,h⟩:=bS h
  refine oq 194 (.hp 1 0 [] 12 (0+Int.toNat x3.1) 0) rfl (an rfl rfl rfl (dG (f:=ah) (xs:=x3.2) rfl rfl rfl he6)) ?_
  refine o0 210 rfl rfl (fJ rfl rfl (eJ (path:=[]) (pl:=false) (e':=sX r5) (es2':=(cT x3.2 x3.1 r5).map ah) rfl (qj (dh (dC rfl) (dh (dC rfl) (dh (dC rfl) (dh (dC rfl) (dh (dC rfl) (dh (dC rfl) (dh (dC rfl) (dh (dC rfl) (dh (dC rfl) (dh (dm rfl rfl) (dh (dC rfl) (dh (dC rfl) qk))))))))))))) rfl rfl rfl aG (cX (f:=ah) (xs:=x3.2) he6) rfl rfl rfl (jY (f:=ah) (xs:=x3.2) (y:=r5)) ee 1 rfl)) ?_
  try rw[←ij (f:=ah) (xs:=x3.2) (i:=x3.1) (z:=r5)]
  refine cq 7 [4] [I (aj (x3.1+1))] 258 ?_
  refine dF ?_
  exact rf [0,3,4] [1] (ih _ _ h hr hn :)
 ·refine aq 1 ?_
  exact rf [3] [1] (hn _ (ap h) :) (hk:=hK)
theorem Q3 (a_1:List Clause)(r:(List Clause))(h:zf a_1=some r):bP HH Tryz.f46 [false] 0 (Bq a_1) (Br r):=by
 show Run _ _ (N2 a_1 r) [.code N3] _
 refine rI 23 [(0,.isl false (a_1.map ao))] [] 1 ?_
 unfold zf at h
 refine cq 7 [5] [.isl false (a_1.map ao)] 33 ?_
 refine oq 49 (I (len a_1)) rfl (bG rfl rfl rfl (cF rfl)) ?_
 obtain⟨m2,hm2,h⟩:=bS h
 refine oq 65 (.hs 49 0 [] 12 0 (m2.map ah).length) rfl (oC rfl rfl (P8 (g:=ah) (f:=fun _=>(.agg [str ([]),I (0),I (0),str ([]),I (0),I (0),I (0),str ([]),I (0),.isl true [],I (0),str ([])]:V)) (z0:=(Clause.mk [] 0 0 [] 0 0 (Condition.mk 0 [] 0 []) 0 [])) rfl rfl rfl (by decide) hm2 rfl)) ?_
 refine fx 49 (m2.map ah) rfl rfl (IU hm2 (gf (az (.refl _) (az (.refl _) (az (.refl _) (az (.refl _) (az (.refl _) (az (.refl _) (az (.refl _) (az (.refl _) (az (.refl _) (az (.nil _) (az (.refl _) (az (.refl _) eh)))))))))))))) ?_
 refine cq 8 [3,4] [.hs 49 0 [] 12 0 (m2.map ah).length,I (0)] 97 ?_
 obtain⟨y7,hy7,hy71,hy72⟩:=bJ h
 refine b7 rfl ?_
 refine rf [0,3,4] [49] (J7 a_1 rfl (0,m2) _ hy7 (fun r' e st hq=>by rw[hy71 r' e] at hq;exact hq) fun u7 hu=>?_)
 replace h:=hy72 u7 hu
 refine cq 5 [2] [.hs 1 0 [] 12 0 (u7.map ah).length] 34 ?_
 obtain rfl:=sI h
 exact bX rfl ⟨_,fin (vs:=[.hs 1 0 [] 12 0 (u7.map ah).length]) rfl (d8 (eZ rfl (dm rfl rfl)) dX) rfl (d9 eC),ez⟩
theorem N4 {G:cM}:cH G 46 zg:=gT 1 0 (aR N1 bU) cW Tryz.func46 (fun a r h=>Q3 a r h)
def Bu:Contract→List V:=oA aI
def Bv (r:Contract):V×List V:=(jH r,[])
noncomputable def zk :=bx [false] Bu Bv fun x=>rh x
theorem uN {a_1:Contract}{r}(h:rh a_1=some r):zk.F (Bu a_1)=some (Bv r):=aP (aQ bB) h
noncomputable def VM :=aJ Tryz.f14
noncomputable def Oa :=cV [(45,zm),(46,zg)]
def VL (x:Contract)(r:Contract):St→Prop:=QF Oa Tryz.f14 [false] (Bu x) (Bv r)
theorem Q7 (a_1:Contract)(r:Contract)(h:rh a_1=some r):bP Oa Tryz.f14 [false] 0 (Bu a_1) (Bv r):=by
 show Run _ _ (VL a_1 r) [.code VM] _
 refine rI 13 [(0,aI a_1)] [] 1 ?_
 unfold rh at h
 refine ck 4 [1,2] [] [1,17] [] [.hp 1 0 [] 2 0 0,.hp 17 0 [] 2 0 0] [some ⟨0,2,[aI a_1]⟩,some ⟨0,2,[.agg [.isl true [],.isl true []]]⟩] 33 (by kernel_rfl) ?_
 refine fx 17 [.agg [.usl 1 (([]).map str),.usl 12 (([]).map ah)]] rfl rfl (az (gf (az (.nil _) (az (.nil _) eh))) eh) ?_
 refine ck 4 [3] [] [33] [] [.hp 33 0 [] 2 0 0] [some ⟨0,2,[.agg [.isl true [],.isl true []]]⟩] 49 (by kernel_rfl) ?_
 refine fx 33 [.agg [.usl 1 (([]).map str),.usl 12 (([]).map ah)]] rfl rfl (az (gf (az (.nil _) (az (.nil _) eh))) eh) ?_
 refine cq 5 [5] [.isl false (a_1.Parties.map str)] 81 ?_
 obtain⟨r2,hr2,h⟩:=bS h
 refine oq 97 (.hs 81 0 [] 1 0 (r2.map str).length) rfl (cP (VN hr2)) ?_
 refine cq 1 [7] [.hp 33 0 [] 2 0 0] 113 ?_
 refine o0 129 rfl rfl (fJ rfl rfl (eJ (path:=[]) (pl:=false) (e':=.agg [.usl 1 (r2.map str),.usl 12 (([]).map ah)]) (es2':=[.agg [.usl 1 (r2.map str),.usl 12 (([]).map ah)]]) rfl (eZ rfl (dm rfl rfl)) rfl rfl rfl aG rfl rfl rfl rfl rfl ee 2 rfl)) ?_
 refine cq 5 [9] [.isl false (a_1.Clauses.map ao)] 161 ?_
 obtain⟨r3,hr3,h⟩:=bS h
 refine oq 177 (.hs 161 0 [] 12 0 (r3.map ah).length) rfl (cP (VG hr3)) ?_
 refine cq 1 [11] [.hp 33 0 [] 2 0 1] 193 ?_
 refine o0 209 rfl rfl (fJ rfl rfl (eJ (path:=[]) (pl:=false) (e':=.agg [.usl 1 (r2.map str),.usl 12 (r3.map ah)]) (es2':=[.agg [.usl 1 (r2.map str),.usl 12 (r3.map ah)]]) rfl (eZ rfl (dm rfl rfl)) rfl rfl rfl aG rfl rfl rfl rfl rfl ee 3 rfl)) ?_
 refine cq 4 [12] [.agg [.hs 33 3 [(0,0)] 1 0 (r2.map str).length,.hs 33 3 [(0,1)] 12 0 (r3.map ah).length]] 225 ?_
 refine o0 241 rfl rfl (fJ rfl rfl (eJ (path:=[]) (pl:=false) (e':=.agg [.usl 1 (r2.map str),.usl 12 (r3.map ah)]) (es2':=[.agg [.usl 1 (r2.map str),.usl 12 (r3.map ah)]]) rfl (qj (dh (nc (path:=[(0,0)]) rfl rfl (gZ rfl rfl aG) rfl (rL (path:=[]) (i:=0) (k:=0) (e':=.agg [.dead,.usl 12 (r3.map ah)]) (es2':=[.agg [.dead,.usl 12 (r3.map ah)]]) aG rfl rfl rfl ee)) (dh (nc (path:=[(0,1)]) rfl rfl (gZ rfl rfl aG) rfl (rL (path:=[]) (i:=0) (k:=1) (e':=.agg [.dead,.dead]) (es2':=[.agg [.dead,.dead]]) aG rfl rfl rfl ee)) qk))) rfl rfl rfl aG rfl rfl rfl rfl rfl ee 2 rfl)) ?_
 refine aq 1 ?_
 obtain rfl:=sI h
 exact bX rfl ⟨_,fin (vs:=[.agg [.hs 17 2 [(0,0)] 1 0 (r2.map str).length,.hs 17 2 [(0,1)] 12 0 (r3.map ah).length]]) (ST (E7 rfl rfl rfl) SU) (d8 (qj (dh (nc (path:=[(0,0)]) rfl rfl (gZ rfl rfl aG) rfl (rL (path:=[]) (i:=0) (k:=0) (e':=.agg [.dead,.usl 12 (r3.map ah)]) (es2':=[.agg [.dead,.usl 12 (r3.map ah)]]) aG rfl rfl rfl ee)) (dh (nc (path:=[(0,1)]) rfl rfl (gZ rfl rfl aG) rfl (rL (path:=[]) (i:=0) (k:=1) (e':=.agg [.dead,.dead]) (es2':=[.agg [.dead,.dead]]) aG rfl rfl rfl ee)) qk))) dX) rfl (d9 eC),ez⟩
theorem Ob {G:cM}:cH G 14 zk:=gT 1 0 (aR Oe (aR N4 bU)) cW Tryz.func14 (fun a r h=>Q7 a r h)
def oI:(Int×Int×Int)→List V:=cA I (cA I (oA I))
def oJ (r:Bool):V×List V:=(B r,[])
noncomputable def gR :=bx [false,false,false] oI oJ fun x=>eN x.1 x.2.1 x.2.2
theorem gA {x_1:Int}{a_2:Int}{b_3:Int}{r}(h:eN x_1 a_2 b_3=some r):gR.F (oI (x_1,a_2,b_3))=some (oJ r):=aP (bp cf (bp cf (aQ cf))) h
noncomputable def yA :=aJ Tryz.f89
noncomputable def rK :=cV []
def yz (x:Int×Int×Int)(r:Bool):St→Prop:=QF rK Tryz.f89 [false,false,false] (oI x) (oJ r)
theorem Gn (x_1:Int)(a_2:Int)(b_3:Int)(r:Bool)(h:eN x_1 a_2 b_3=some r):bP rK Tryz.f89 [false,false,false] 0 (oI (x_1,a_2,b_3)) (oJ r):=by
 show Run _ _ (yz (x_1,a_2,b_3) r) [.code yA] _
 refine rI 15 [(0,I x_1),(1,I a_2),(2,I b_3)] [] 1 ?_
 unfold eN at h
 refine cq 10 [10] [B (decide (x_1≥a_2))] 81 ?_
 obtain⟨u4,hu4,h⟩:=lJ h
 have j4:Run rK 0 (yz (x_1,a_2,b_3) r) (.code (cR (cR yA))::[]) (sT 15 [(6,B u4)] [] 1):=by
  obtain rfl:=sI h
  exact rP [B u4]
 replace h:=hu4
 clear hu4
 refine sp 10 h rfl ?_ ?_<;>intro h
 ·refine cq 6 [6] [B (decide (x_1≤b_3))] 161 ?_
  subst h
  exact rf [6] [] (j4 :)
 ·refine cq 6 [6] [B false] 161 ?_
  subst h
  exact rf [6] [] (j4 :)
theorem jq {G:cM}:cH G 89 gR:=gT 3 0 bU cW Tryz.func89 (fun a r h=>Gn a.1 a.2.1 a.2.2 r h)
def Cu:Int→List V:=oA (V.int .u8)
def Cw (r:Bool):V×List V:=(B r,[])
noncomputable def zK :=bx [false] Cu Cw fun x=>vo x
theorem V8 {b_1:Int}{r}(h:vo b_1=some r):zK.F (Cu b_1)=some (Cw r):=aP (aQ (JS (k:=.u8))) h
noncomputable def vq :=aJ Tryz.f128
noncomputable def sw :=cV []
def vp (x:Int)(r:Bool):St→Prop:=QF sw Tryz.f128 [false] (Cu x) (Cw r)
theorem RC (b_1:Int)(r:Bool)(h:vo b_1=some r):bP sw Tryz.f128 [false] 0 (Cu b_1) (Cw r):=by
 show Run _ _ (vp b_1 r) [.code vq] _
 refine rI 17 [(0,.int .u8 b_1)] [] 1 ?_
 unfold vo at h
 refine cq 9 [5] [B (decide (b_1≥97))] 65 ?_
 obtain⟨u2,hu2,h⟩:=lJ h
 have j2:Run sw 0 (vp b_1 r) (.code (cR (cR vq))::[]) (sT 17 [(2,B u2)] [] 1):=by
  obtain rfl:=sI h
  exact rP [B u2]
 replace h:=hu2
 clear hu2
 refine sp 5 h rfl ?_ ?_<;>intro h
 ·refine cq 4 [9] [B (decide (b_1≤122))] 129 ?_
  obtain⟨u3,hu3,h⟩:=lJ h
  have j3:Run sw 0 (vp b_1 r) (.code (cR (cR vq))::[]) (sT 17 [(2,B u3)] [] 1):=by
   subst h
   exact rf [2] [] (j2 :)
  replace h:=hu3
  clear hu3
  refine sp 9 h rfl ?_ ?_<;>intro h
  ·refine cq 9 [2] [B true] 257 ?_
   subst h
   exact rf [2] [] (j3 :)
  ·refine cq 3 [12] [B (decide (b_1≥48))] 177 ?_
   obtain⟨u4,hu4,h⟩:=lJ h
   have j4:Run sw 0 (vp b_1 r) (.code (cR (cR vq))::[]) (sT 17 [(2,B u4)] [] 1):=by
    subst h
    exact rf [2] [] (j3 :)
   replace h:=hu4
   clear hu4
   refine sp 12 h rfl ?_ ?_<;>intro h
   ·refine cq 6 [2] [B (decide (b_1≤57))] 257 ?_
    subst h
    exact rf [2] [] (j4 :)
   ·refine cq 6 [2] [B false] 257 ?_
    subst h
    exact rf [2] [] (j4 :)
 ·refine cq 7 [9,12] [B false,B (decide (b_1≥48))] 177 ?_
  obtain⟨u5,hu5,h⟩:=lJ h
  have j5:Run sw 0 (vp b_1 r) (.code (cR (cR vq))::[]) (sT 17 [(2,B u5)] [] 1):=by
   subst h
   exact rf [2] [] (j2 :)
  replace h:=hu5
  clear hu5
  refine sp 12 h rfl ?_ ?_<;>intro h
  ·refine cq 6 [2] [B (decide (b_1≤57))] 257 ?_
   subst h
   exact rf [2] [] (j5 :)
  ·refine cq 6 [2] [B false] 257 ?_
   subst h
   exact rf [2] [] (j5 :)
theorem OY {G:cM}:cH G 128 zK:=gT 1 0 bU cW Tryz.func128 (fun a r h=>RC a r h)
def Co:ac→List V:=oA str
def Cp (r:Bool):V×List V:=(B r,[])
noncomputable def qb :=bx [false] Co Cp fun x=>rk x
theorem vg {s_1:ac}{r}(h:rk s_1=some r):qb.F (Co s_1)=some (Cp r):=aP (aQ bH) h
noncomputable def oM :=aJ Tryz.f80
noncomputable abbrev mu :=cR (cR (cR (cR oM)))
noncomputable abbrev mw :=cR (cL (cR (cL (cR (cR (cR oM))))))
noncomputable def i8 :=cV [(89,gR),(128,zK)]
def gS (x:ac)(r:Bool):St→Prop:=QF i8 Tryz.f80 [false] (Co x) (Cp r)
theorem Km (s_1:ac):cJ i8 0 (gS s_1) (cL (cL (cR (cL (cR (cR oM)))))) 0 (sr s_1) (fun u=>(sT 40 [(0,str s_1)] [] 1)) fun x4=>(sT 40 [(0,str s_1),(3,I x4)] [] 1):=eF (xM s_1) fun {Q K} hK self ih x4 y h hr hn=>by
 unfold my at h
 refine cq 8 [21] [B (decide (x4<(len s_1)))] 65 ?_
 refine sq h ?_ ?_<;>intro h
 ·refine aq 1 ?_
  refine cq 6 [24,25] [str s_1,I x4] 97 ?_
  obtain⟨c5,hc5,h⟩:=bS h
  refine oq 113 (.int .u8 (c5.toNat:Int)) rfl (mF rfl rfl (qR rfl rfl hc5)) ?_
  obtain⟨r6,hr6,h⟩:=bS h
  refine oq 129 (B r6) rfl (cP (V8 hr6)) ?_
  refine cq 2 [28] [B (!r6)] 145 ?_
  refine sq h ?_ ?_<;>intro h
  ·refine cq 4 [2] [B false] 161 ?_
   exact bX rfl (hr _ (ap h) _ (qp [B false]))
  ·refine aq 1 ?_
   refine cq 6 [3] [I (aj (x4+1))] 193 ?_
   refine dF ?_
   exact rf [0,3] [] (ih _ _ h hr hn :)
 ·refine aq 1 ?_
  exact rf [0] [] (hn _ (ap h) :) (hk:=hK)
theorem Ry (s_1:ac)(r:Bool)(h:rk s_1=some r):bP i8 Tryz.f80 [false] 0 (Co s_1) (Cp r):=by
 show Run _ _ (gS s_1 r) [.code oM] _
 refine rI 40 [(0,str s_1)] [] 1 ?_
 unfold rk at h
 refine cq 9 [5] [I (len s_1)] 49 ?_
 obtain⟨r2,hr2,h⟩:=bS h
 refine oq 65 (B r2) rfl (cP (gA hr2)) ?_
 refine cq 2 [8] [B (!r2)] 97 ?_
 obtain⟨y3,hy3,hy31,hy32⟩:=bJ h
 have j3:∀u3,y3=.inr u3→Run i8 0 (gS s_1 r) (.code (cR (cL (cR oM)))::.code (cR (cR oM))::[]) (sT 40 [(0,str s_1),(17,B u3)] [] 1):=by
  intro u3 hu
  replace h:=hy32 u3 hu
  refine sq h ?_ ?_<;>intro h
  ·refine cq 4 [2] [B false] 17 ?_
   obtain rfl:=sI h
   exact rP [B false]
  ·refine aq 1 ?_
   refine cq 6 [3] [I (0)] 17 ?_
   obtain⟨y7,hy7,hy71,hy72⟩:=bJ h
   refine b7 rfl ?_
   refine rf [0,3] [] (Km s_1 rfl 0 _ hy7 (fun r' e st hq=>by rw[hy71 r' e] at hq;exact hq) fun u7 hu=>?_)
   replace h:=hy72 u7 hu
   refine cq 12 [29,30] [str s_1,B (s_1==([116,114,117,101]:ac))] 49 ?_
   obtain⟨u8,hu8,h⟩:=lJ h
   have j8:Run i8 0 (gS s_1 r) (.code mw::.blk 2::.code mu::[]) (sT 40 [(30,B u8)] [] 1):=by
    refine sq h ?_ ?_<;>intro h
    ·refine cq 4 [2] [B false] 17 ?_
     obtain rfl:=sI h
     exact rP [B false]
    ·refine aq 1 ?_
     refine cq 5 [2] [B true] 17 ?_
     obtain rfl:=sI h
     exact rP [B true]
   replace h:=hu8
   clear hu8
   refine yw h rfl rfl ?_ ?_<;>intro h
   ·refine aq 1 ?_
    subst h
    exact rf [30] [] (j8 :)
   ·refine cq 5 [30] [B (s_1==([102,114,111,109]:ac))] 81 ?_
    obtain⟨u9,hu9,h⟩:=lJ h
    have j9:Run i8 0 (gS s_1 r) (.code mw::.blk 2::.code mu::[]) (sT 40 [(30,B u9)] [] 1):=by
     subst h
     exact rf [30] [] (j8 :)
    replace h:=hu9
    clear hu9
    refine yw h rfl rfl ?_ ?_<;>intro h
    ·refine aq 1 ?_
     subst h
     exact rf [30] [] (j9 :)
    ·refine cq 5 [30] [B (s_1==([110,111,116]:ac))] 113 ?_
     obtain⟨u10,hu10,h⟩:=lJ h
     have j10:Run i8 0 (gS s_1 r) (.code mw::.blk 2::.code mu::[]) (sT 40 [(30,B u10)] [] 1):=by
      subst h
      exact rf [30] [] (j9 :)
     replace h:=hu10
     clear hu10
     refine yw h rfl rfl ?_ ?_<;>intro h
     ·refine aq 1 ?_
      subst h
      exact rf [30] [] (j10 :)
     ·refine cq 5 [30] [B (s_1==([97,110,100]:ac))] 145 ?_
      obtain⟨u11,hu11,h⟩:=lJ h
      have j11:Run i8 0 (gS s_1 r) (.code mw::.blk 2::.code mu::[]) (sT 40 [(30,B u11)] [] 1):=by
       subst h
       exact rf [30] [] (j10 :)
      replace h:=hu11
      clear hu11
      refine yw h rfl rfl ?_ ?_<;>intro h
      ·refine aq 1 ?_
       subst h
       exact rf [30] [] (j11 :)
      ·refine cq 5 [30] [B (s_1==([111,114]:ac))] 177 ?_
       obtain⟨u12,hu12,h⟩:=lJ h
       have j12:Run i8 0 (gS s_1 r) (.code mw::.blk 2::.code mu::[]) (sT 40 [(30,B u12)] [] 1):=by
        subst h
        exact rf [30] [] (j11 :)
       replace h:=hu12
       clear hu12
       refine yw h rfl rfl ?_ ?_<;>intro h
       ·refine aq 1 ?_
        subst h
        exact rf [30] [] (j12 :)
       ·refine cq 5 [30] [B (s_1==([98,111,116,104]:ac))] 209 ?_
        obtain⟨u13,hu13,h⟩:=lJ h
        have j13:Run i8 0 (gS s_1 r) (.code mw::.blk 2::.code mu::[]) (sT 40 [(30,B u13)] [] 1):=by
         subst h
         exact rf [30] [] (j12 :)
        replace h:=hu13
        clear hu13
        refine yw h rfl rfl ?_ ?_<;>intro h
        ·refine aq 1 ?_
         subst h
         exact rf [30] [] (j13 :)
        ·refine cq 5 [30] [B (s_1==([101,105,116,104,101,114]:ac))] 241 ?_
         obtain⟨u14,hu14,h⟩:=lJ h
         have j14:Run i8 0 (gS s_1 r) (.code mw::.blk 2::.code mu::[]) (sT 40 [(30,B u14)] [] 1):=by
          subst h
          exact rf [30] [] (j13 :)
         replace h:=hu14
         clear hu14
         refine yw h rfl rfl ?_ ?_<;>intro h
         ·refine aq 1 ?_
          subst h
          exact rf [30] [] (j14 :)
         ·refine cq 5 [30] [B (s_1==([105,116]:ac))] 273 ?_
          obtain⟨u15,hu15,h⟩:=lJ h
          have j15:Run i8 0 (gS s_1 r) (.code mw::.blk 2::.code mu::[]) (sT 40 [(30,B u15)] [] 1):=by
           subst h
           exact rf [30] [] (j14 :)
          replace h:=hu15
          clear hu15
          refine yw h rfl rfl ?_ ?_<;>intro h
          ·refine aq 1 ?_
           subst h
           exact rf [30] [] (j15 :)
          ·refine cq 4 [30] [B (s_1==([105,110]:ac))] 305 ?_
           subst h
           exact rf [30] [] (j15 :)
 have r3:∀r',y3=.inl r'→∀st,gS s_1 r' st→(gS s_1 r) st:=fun r' e st hq=>by rw[hy31 r' e] at hq;exact hq
 replace h:=hy3
 refine sp 8 h rfl ?_ ?_<;>intro h
 ·refine cq 10 [17] [B true] 241 ?_
  exact rf [0,17] [] (j3 _ (ap h) :)
 ·refine cq 1 [9] [str s_1] 113 ?_
  obtain⟨c16,hc16,h⟩:=bS h
  refine oy 129 (.int .u8 (c16.toNat:Int)) rfl (mF rfl rfl (qR rfl rfl hc16)) ?_
  refine cq 3 [13] [B (decide ((c16.toNat:Int)<97))] 177 ?_
  obtain⟨y17,hy17,hy171,hy172⟩:=bL h
  have j17:∀u17,y17=.inr u17→Run i8 0 (gS s_1 r) (.code (cR (cL (cR oM)))::.code (cR (cR oM))::[]) (sT 40 [(0,str s_1),(17,B u17)] [] 1):=by
   intro u17 hu
   replace h:=hy172 u17 hu
   exact rf [0,17] [] (j3 _ (ap h) :)
  have r17:∀r',y17=.inl r'→∀st,gS s_1 r' st→(gS s_1 r) st:=fun r' e st hq=>r3 r' (hy171 r' e) st hq
  replace h:=hy17
  refine sp 13 h rfl ?_ ?_<;>intro h
  ·refine cq 5 [17] [B true] 241 ?_
   exact rf [0,17] [] (j17 _ (ap h) :)
  ·refine cq 1 [14] [str s_1] 193 ?_
   obtain⟨c18,hc18,h⟩:=bS h
   refine oy 209 (.int .u8 (c18.toNat:Int)) rfl (mF rfl rfl (qR rfl rfl hc18)) ?_
   refine cq 3 [17] [B (decide ((c18.toNat:Int)>122))] 241 ?_
   exact rf [0,17] [] (j17 _ (ap h) :)
theorem vh {G:cM}:cH G 80 qb:=gT 1 0 (aR jq (aR OY bU)) cW Tryz.func80 (fun a r h=>Ry a r h)
def Cc:((List ac)×ac)→List V:=cA (lc str) (oA str)
def Cd (r:Bool):V×List V:=(B r,[])
noncomputable def th :=bx [false,false] Cc Cd fun x=>rj x.1 x.2
theorem H0 {bl:List ac}{ew:ac}{r}(h:rj bl ew=some r):th.F (Cc (bl,ew))=some (Cd r):=aP (bp (d6 bH) (aQ bH)) h
noncomputable def OT :=aJ Tryz.f123
noncomputable def HZ :=cV []
def OS (x:(List ac)×ac)(r:Bool):St→Prop:=QF HZ Tryz.f123 [false,false] (Cc x) (Cd r)
theorem Kj (bl:List ac)(ew:ac):cJ HZ 0 (OS (bl,ew)) (cL (cL (cR (cL (cR OT))))) 0 (pP bl ew) (fun u=>(sT 18 [] [] 1)) fun x3=>(sT 18 [(0,.isl false (bl.map str)),(1,str ew),(5,I x3)] [] 1):=eF (xJ bl ew) fun {Q K} hK self ih x3 y h hr hn=>by
 unfold kC at h
 refine cq 5 [6,7] [I x3,.isl false (bl.map str)] 33 ?_
 refine oq 49 (I (len bl)) rfl (bG rfl rfl rfl (cF rfl)) ?_
 refine cq 2 [9] [B (decide (x3<(len bl)))] 65 ?_
 refine sq h ?_ ?_<;>intro h
 ·refine aq 1 ?_
  refine cq 6 [12,13] [.isl false (bl.map str),I x3] 97 ?_
  obtain⟨e4,he4,h⟩:=bS h
  refine oq 113 (.iptr (str e4) 0) rfl (an rfl rfl rfl (bC rfl rfl rfl rfl he4)) ?_
  refine cq 4 [17] [B (e4==ew)] 161 ?_
  refine sq h ?_ ?_<;>intro h
  ·refine cq 4 [4] [B true] 177 ?_
   exact bX rfl (hr _ (ap h) _ (qp [B true]))
  ·refine aq 1 ?_
   refine cq 6 [5] [I (aj (x3+1))] 209 ?_
   refine dF ?_
   exact rf [0,1,5] [] (ih _ _ h hr hn :)
 ·refine aq 1 ?_
  exact rf [] [] (hn _ (ap h) :) (hk:=hK)
theorem Rt (bl:List ac)(ew:ac)(r:Bool)(h:rj bl ew=some r):bP HZ Tryz.f123 [false,false] 0 (Cc (bl,ew)) (Cd r):=by
 show Run _ _ (OS (bl,ew) r) [.code OT] _
 refine rI 18 [(0,.isl false (bl.map str)),(1,str ew)] [] 1 ?_
 unfold rj at h
 refine cq 10 [5] [I (0)] 33 ?_
 obtain⟨y5,hy5,hy51,hy52⟩:=bJ h
 refine b7 rfl ?_
 refine rf [0,1,5] [] (Kj bl ew rfl 0 _ hy5 (fun r' e st hq=>by rw[hy51 r' e] at hq;exact hq) fun u5 hu=>?_)
 replace h:=hy52 u5 hu
 refine cq 4 [4] [B false] 17 ?_
 obtain rfl:=sI h
 exact rP [B false]
theorem Fo {G:cM}:cH G 123 th:=gT 2 0 bU cW Tryz.func123 (fun a r h=>Rt a.1 a.2 r h)
def CQ:Contract→List V:=oA aI
def CS (r:Bool):V×List V:=(B r,[])
noncomputable def zT :=bx [false] CQ CS fun x=>vy x
theorem We {c_1:Contract}{r}(h:vy c_1=some r):zT.F (CQ c_1)=some (CS r):=aP (aQ bB) h
noncomputable def vz :=aJ Tryz.f90
noncomputable def CR :=cV [(80,qb),(123,th),(89,gR)]
def Ib (x:Contract)(r:Bool):St→Prop:=QF CR Tryz.f90 [false] (CQ x) (CS r)
theorem Ku (c_1:Contract):cJ CR 0 (Ib c_1) (cL (cL (cR (cL (cR vz))))) 0 (sE c_1) (fun u=>(sT 34 [(1,.hp 1 0 [] 2 0 0)] [⟨0,2,[ai c_1]⟩] 2)) fun x2=>(sT 34 [(1,.hp 1 0 [] 2 0 0),(3,I x2)] [⟨0,2,[ai c_1]⟩] 2):=eF (xU c_1) fun {Q K} hK self ih x2 y h hr hn=>by
 unfold kK at h
 refine cq 6 [4,6] [I x2,.isl false (c_1.Parties.map str)] 50 ?_
 refine oq 66 (I (len c_1.Parties)) rfl (bG rfl rfl rfl (cF rfl)) ?_
 refine cq 2 [8] [B (decide (x2<(len c_1.Parties)))] 82 ?_
 refine sq h ?_ ?_<;>intro h
 ·refine aq 1 ?_
  refine aq 3 ?_
  refine fp [0,1,0,7,15,31,63,127,255,511,255,2047,255,4351,255,28927,61695,131071,262143] rfl (by decide +kernel) ?_
  refine dq [1] [] (.hp 1 0 [] 2 0 0) rfl (dQ rfl rfl rfl) ?_
  refine dq [1] [] (.isl false (c_1.Parties.map str)) rfl (cQ rfl rfl) ?_
  refine dk 1 [13] [I x2] ?_
  obtain⟨e3,he3,h⟩:=bS h
  refine dq [] [] (.iptr (str e3) 0) rfl (an rfl rfl rfl (bC rfl rfl rfl rfl he3)) ?_
  refine dq [] [] (str e3) rfl (cQ rfl rfl) ?_
  obtain⟨r4,hr4,h⟩:=bS h
  refine dq [] [] (B r4) rfl (cP (vg hr4)) ?_ (dW rfl rfl rfl rfl (bi (bI rfl) cu) (vg hr4) (.inr rfl) rfl)
  refine dk 2 [18,17] [B (!r4),B (!r4)] ?_
  obtain⟨y5,hy5,hy51,hy52⟩:=bL h
  have j5:∀u5,y5=.inr u5→Run CR 0 Q (.code (cR (cL (cL (cR (cL (cL (cR (cL (cR vz)))))))))::.blk 1::.code (cR (cR (cL (cL (cR (cL (cR vz)))))))::.lp (cL (cL (cR (cL (cR vz)))))::.blk 0::K) (sT 34 [(1,.hp 1 0 [] 2 0 0),(3,I x2),(29,B u5)] [⟨0,2,[ai c_1]⟩] 2):=by
   intro u5 hu
   replace h:=hy52 u5 hu
   refine sq h ?_ ?_<;>intro h
   ·refine cq 4 [2] [B false] 18 ?_
    exact bX rfl (hr _ (ap h) _ (qp [B false]))
   ·refine aq 1 ?_
    refine cq 6 [3] [I (aj (x2+1))] 50 ?_
    refine dF ?_
    exact rf [1,3] [1] (ih _ _ h hr hn :)
  have r5:∀r',y5=.inl r'→∀st,Ib c_1 r' st→Q st:=fun r' e st hq=>hr r' (hy51 r' e) st hq
  replace h:=hy5
  refine sp 18 h rfl ?_ ?_<;>intro h
  ·refine dk 11 [29,28,27,26,25,24,23,22,21,20,19] [B true,.und,.und,.und,.und,.und,.und,.und,.und,.und,.und] ?_
   refine de 386 rfl rfl ?_
   exact rf [1,3,29] [1] (j5 _ (ap h) :)
  ·refine dy [1] [] (.hp 1 0 [] 2 0 0) rfl (dQ rfl rfl rfl) ?_
   refine dy [1] [] (.isl false (c_1.Parties.map str)) rfl (cQ rfl rfl) ?_
   refine dk 1 [21] [I x2] ?_
   obtain⟨s6,hs6,h⟩:=bS h
   refine dy [] [] (.isl false (s6.map str)) rfl (hY rfl rfl rfl rfl (Qp rfl rfl (fun y=>(iL y).1) rfl rfl hs6)) ?_
   refine dy [1] [] (.hp 1 0 [] 2 0 0) rfl (dQ rfl rfl rfl) ?_
   refine dy [1] [] (.isl false (c_1.Parties.map str)) rfl (cQ rfl rfl) ?_
   refine dk 1 [25] [I x2] ?_
   obtain⟨e7,he7,h⟩:=bS h
   refine dy [] [] (.iptr (str e7) 0) rfl (an rfl rfl rfl (bC rfl rfl rfl rfl he7)) ?_
   refine dy [] [] (str e7) rfl (cQ rfl rfl) ?_
   obtain⟨r8,hr8,h⟩:=bS h
   refine dy [] [] (B r8) rfl (cP (H0 hr8)) ?_ (dW rfl rfl rfl rfl (bi (bI rfl) (bi (bI rfl) cu)) (H0 hr8) (.inr rfl) rfl)
   refine dk 1 [29] [B r8] ?_
   refine de 386 rfl rfl ?_
   exact rf [1,3,29] [1] (j5 _ (ap h) :)
 ·refine aq 1 ?_
  exact rf [1] [1] (hn _ (ap h) :) (hk:=hK)
theorem RK (c_1:Contract)(r:Bool)(h:vy c_1=some r):bP CR Tryz.f90 [false] 0 (CQ c_1) (CS r):=by
 show Run _ _ (Ib c_1 r) [.code vz] _
 refine rI 34 [(0,ai c_1)] [] 1 ?_
 unfold vy at h
 refine ck 11 [1,3] [] [1] [] [.hp 1 0 [] 2 0 0,I (0)] [some ⟨0,2,[ai c_1]⟩] 49 (by kernel_rfl) ?_
 obtain⟨y9,hy9,hy91,hy92⟩:=bJ h
 refine b7 rfl ?_
 refine rf [1,3] [1] (Ku c_1 rfl 0 _ hy9 (fun r' e st hq=>by rw[hy91 r' e] at hq;exact hq) fun u9 hu=>?_)
 replace h:=hy92 u9 hu
 refine cq 4 [31] [.isl false (c_1.Parties.map str)] 34 ?_
 refine oq 50 (I (len c_1.Parties)) rfl (bG rfl rfl rfl (cF rfl)) ?_
 obtain⟨r10,hr10,h⟩:=bS h
 refine oq 66 (B r10) rfl (cP (gA hr10)) ?_
 refine cq 2 [2] [B r10] 82 ?_
 obtain rfl:=sI h
 exact rP [B r10]
theorem Pd {G:cM}:cH G 90 zT:=gT 1 0 (aR vh (aR Fo (aR jq bU))) cW Tryz.func90 (fun a r h=>RK a r h)
def CE:(Contract×ac)→List V:=cA aI (oA str)
def CF (r:Int):V×List V:=(I r,[])
noncomputable def tp :=bx [false,false] CE CF fun x=>tn x.1 x.2
theorem H9 {c_1:Contract}{eG:ac}{r}(h:tn c_1 eG=some r):tp.F (CE (c_1,eG))=some (CF r):=aP (bp bB (aQ bH)) h
noncomputable def O7 :=aJ Tryz.f91
noncomputable def H8 :=cV []
def O6 (x:Contract×ac)(r:Int):St→Prop:=QF H8 Tryz.f91 [false,false] (CE x) (CF r)
theorem Kr (c_1:Contract)(eG:ac):cJ H8 0 (O6 (c_1,eG)) (cL (cL (cR (cL (cR O7))))) 0 (sB c_1 eG) (fun u=>(sT 22 [] [] 1)) fun x3=>(sT 22 [(1,str eG),(2,.hp 1 0 [] 2 0 0),(5,I x3)] [⟨0,2,[ai c_1]⟩] 2):=eF (xR c_1 eG) fun {Q K} hK self ih x3 y h hr hn=>by
 unfold mA at h
 refine cq 6 [6,8] [I x3,.isl false (c_1.Clauses.map ao)] 50 ?_
 refine oq 66 (I (len c_1.Clauses)) rfl (bG rfl rfl rfl (cF rfl)) ?_
 refine cq 2 [10] [B (decide (x3<(len c_1.Clauses)))] 82 ?_
 refine sq h ?_ ?_<;>intro h
 ·refine aq 1 ?_
  refine cq 7 [14,15] [.isl false (c_1.Clauses.map ao),I x3] 130 ?_
  obtain⟨e4,he4,h⟩:=bS h
  refine oq 146 (.iptr (ak e4) 0) rfl (an rfl rfl rfl (bC rfl rfl rfl rfl he4)) ?_
  refine cq 5 [20] [B (e4.Id==eG)] 210 ?_
  refine sq h ?_ ?_<;>intro h
  ·refine cq 5 [4] [I x3] 242 ?_
   exact bX rfl (hr _ (ap h) _ (qp [I x3]))
  ·refine aq 1 ?_
   refine cq 6 [5] [I (aj (x3+1))] 258 ?_
   refine dF ?_
   exact rf [1,2,5] [1] (ih _ _ h hr hn :)
 ·refine aq 1 ?_
  exact rf [] [] (hn _ (ap h) :) (hk:=hK)
theorem RH (c_1:Contract)(eG:ac)(r:Int)(h:tn c_1 eG=some r):bP H8 Tryz.f91 [false,false] 0 (CE (c_1,eG)) (CF r):=by
 show Run _ _ (O6 (c_1,eG) r) [.code O7] _
 refine rI 22 [(0,ai c_1),(1,str eG)] [] 1 ?_
 unfold tn at h
 refine ck 11 [2,5] [] [1] [] [.hp 1 0 [] 2 0 0,I (0)] [some ⟨0,2,[ai c_1]⟩] 49 (by kernel_rfl) ?_
 obtain⟨y5,hy5,hy51,hy52⟩:=bJ h
 refine b7 rfl ?_
 refine rf [1,2,5] [1] (Kr c_1 eG rfl 0 _ hy5 (fun r' e st hq=>by rw[hy51 r' e] at hq;exact hq) fun u5 hu=>?_)
 replace h:=hy52 u5 hu
 refine cq 4 [4] [I (-1)] 17 ?_
 obtain rfl:=sI h
 exact rP [I (-1)]
theorem Fq {G:cM}:cH G 91 tp:=gT 2 0 bU cW Tryz.func91 (fun a r h=>RH a.1 a.2 r h)
def B4:Int→List V:=oA I
def B5 (r:Bool):V×List V:=(B r,[])
noncomputable def zB :=bx [false] B4 B5 fun x=>Ew x
theorem V1 {gy:Int}{r}(h:Ew gy=some r):zB.F (B4 gy)=some (B5 r):=aP (aQ cf) h
noncomputable def V3 :=aJ Tryz.f76
noncomputable def OE :=cV [(89,gR)]
def V2 (x:Int)(r:Bool):St→Prop:=QF OE Tryz.f76 [false] (B4 x) (B5 r)
theorem Rm (gy:Int)(r:Bool)(h:Ew gy=some r):bP OE Tryz.f76 [false] 0 (B4 gy) (B5 r):=by
 show Run _ _ (V2 gy r) [.code V3] _
 refine rI 5 [(0,I gy)] [] 1 ?_
 unfold Ew at h
 refine cq 7 [3] [I gy] 33 ?_
 obtain⟨r2,hr2,h⟩:=bS h
 refine oq 49 (B r2) rfl (cP (gA hr2)) ?_
 refine cq 2 [2] [B r2] 65 ?_
 obtain rfl:=sI h
 exact rP [B r2]
theorem OG {G:cM}:cH G 76 zB:=gT 1 0 (aR jq bU) cW Tryz.func76 (fun a r h=>Rm a r h)
def B7:Condition→List V:=oA aD
def B8 (r:Bool):V×List V:=(B r,[])
noncomputable def zE :=bx [false] B7 B8 fun x=>zD x
theorem V4 {c_1:Condition}{r}(h:zD c_1=some r):zE.F (B7 c_1)=some (B8 r):=aP (aQ ba) h
noncomputable def mR :=aJ Tryz.f190
noncomputable abbrev i6 :=cR (cR (cR mR))
noncomputable abbrev KU :=cR (cL (cR (cR (cR (cL (cR (cL (cR (cR mR)))))))))
noncomputable abbrev KV :=cR (cL (cR (cR (cR (cR (cR (cL (cR (cL (cR (cR mR)))))))))))
noncomputable abbrev KW :=cR (cL (cR (cR (cR (cR (cR (cR (cR (cL (cR (cL (cR (cR mR)))))))))))))
noncomputable abbrev KX :=cR (cL (cR (cR (cR (cR (cR (cR (cR (cR (cR (cL (cR (cL (cR (cR mR)))))))))))))))
noncomputable def iZ :=cV [(80,qb),(76,zB)]
def ge (x:Condition)(r:Bool):St→Prop:=QF iZ Tryz.f190 [false] (B7 x) (B8 r)
theorem Rp (c_1:Condition)(r:Bool)(h:zD c_1=some r):bP iZ Tryz.f190 [false] 0 (B7 c_1) (B8 r):=by
 show Run _ _ (ge c_1 r) [.code mR] _
 refine rI 80 [(0,aa c_1)] [] 1 ?_
 unfold zD at h
 refine ck 9 [1,5] [] [1] [] [.hp 1 0 [] 4 0 0,.isl false (c_1.Parts.map ar)] [some ⟨0,4,[aa c_1]⟩] 65 (by kernel_rfl) ?_
 refine oq 81 (I (len c_1.Parts)) rfl (bG rfl rfl rfl (cF rfl)) ?_
 refine cq 14 [3,8,9] [I (len c_1.Parts),I c_1.Op,B (c_1.Op==1)] 161 ?_
 refine sq h ?_ ?_<;>intro h
 ·refine cq 5 [13] [B ((len c_1.Parts)==0)] 209 ?_
  obtain⟨u2,hu2,h⟩:=lJ h
  have j2:Run iZ 0 (ge c_1 r) (.code (cR (cL (cR (cL (cR (cL (cR (cR mR))))))))::.blk 0::.code i6::[]) (sT 80 [(2,B u2)] [] 1):=by
   obtain rfl:=sI h
   exact rP [B u2]
  replace h:=hu2
  clear hu2
  refine sp 13 h rfl ?_ ?_<;>intro h
  ·refine cq 5 [18] [B (c_1.Name==([]:ac))] 289 ?_
   obtain⟨u3,hu3,h⟩:=lJ h
   have j3:Run iZ 0 (ge c_1 r) (.code (cR (cL (cR (cL (cR (cL (cR (cR mR))))))))::.blk 0::.code i6::[]) (sT 80 [(2,B u3)] [] 1):=by
    subst h
    exact rf [2] [] (j2 :)
   replace h:=hu3
   clear hu3
   refine sp 18 h rfl ?_ ?_<;>intro h
   ·refine cq 6 [2] [B (c_1.Day==0)] 369 ?_
    subst h
    exact rf [2] [] (j3 :)
   ·refine cq 6 [2] [B false] 369 ?_
    subst h
    exact rf [2] [] (j3 :)
  ·refine cq 11 [2] [B false] 369 ?_
   subst h
   exact rf [2] [] (j2 :)
 ·refine cq 5 [23] [B (c_1.Op==2)] 193 ?_
  refine sq h ?_ ?_<;>intro h
  ·refine cq 5 [27] [B ((len c_1.Parts)==0)] 241 ?_
   obtain⟨y4,hy4,hy41,hy42⟩:=bJ h
   have j4:∀u4,y4=.inr u4→Run iZ 0 (ge c_1 r) (.code KU::.blk 0::.code i6::[]) (sT 80 [(2,B u4)] [] 1):=by
    intro u4 hu
    replace h:=hy42 u4 hu
    obtain rfl:=sI h
    exact rP [B u4]
   have r4:∀r',y4=.inl r'→∀st,ge c_1 r' st→(ge c_1 r) st:=fun r' e st hq=>by rw[hy41 r' e] at hq;exact hq
   replace h:=hy4
   refine sp 27 h rfl ?_ ?_<;>intro h
   ·refine cq 2 [29] [str c_1.Name] 273 ?_
    obtain⟨r5,hr5,h⟩:=bS h
    refine oy 289 (B r5) rfl (cP (vg hr5)) ?_
    refine cq 2 [32] [B r5] 321 ?_
    obtain⟨u6,hu6,h⟩:=lJ h
    have j6:Run iZ 0 (ge c_1 r) (.code KU::.blk 0::.code i6::[]) (sT 80 [(2,B u6)] [] 1):=by
     exact rf [2] [] (j4 _ (ap h) :)
    replace h:=hu6
    clear hu6
    refine sp 32 h rfl ?_ ?_<;>intro h
    ·refine cq 6 [2] [B (c_1.Day==0)] 401 ?_
     subst h
     exact rf [2] [] (j6 :)
    ·refine cq 6 [2] [B false] 401 ?_
     subst h
     exact rf [2] [] (j6 :)
   ·refine cq 11 [2] [B false] 401 ?_
    exact rf [2] [] (j4 _ (ap h) :)
  ·refine cq 5 [37] [B (c_1.Op==3)] 225 ?_
   refine sq h ?_ ?_<;>intro h
   ·refine cq 5 [41] [B ((len c_1.Parts)==0)] 273 ?_
    obtain⟨y7,hy7,hy71,hy72⟩:=bJ h
    have j7:∀u7,y7=.inr u7→Run iZ 0 (ge c_1 r) (.code KV::.blk 0::.code i6::[]) (sT 80 [(2,B u7)] [] 1):=by
     intro u7 hu
     replace h:=hy72 u7 hu
     obtain rfl:=sI h
     exact rP [B u7]
    have r7:∀r',y7=.inl r'→∀st,ge c_1 r' st→(ge c_1 r) st:=fun r' e st hq=>by rw[hy71 r' e] at hq;exact hq
    replace h:=hy7
    refine sp 41 h rfl ?_ ?_<;>intro h
    ·refine cq 5 [46] [B (c_1.Name==([]:ac))] 353 ?_
     obtain⟨y8,hy8,hy81,hy82⟩:=bL h
     have j8:∀u8,y8=.inr u8→Run iZ 0 (ge c_1 r) (.code KV::.blk 0::.code i6::[]) (sT 80 [(2,B u8)] [] 1):=by
      intro u8 hu
      replace h:=hy82 u8 hu
      exact rf [2] [] (j7 _ (ap h) :)
     have r8:∀r',y8=.inl r'→∀st,ge c_1 r' st→(ge c_1 r) st:=fun r' e st hq=>r7 r' (hy81 r' e) st hq
     replace h:=hy8
     refine sp 46 h rfl ?_ ?_<;>intro h
     ·refine cq 2 [48] [I c_1.Day] 385 ?_
      obtain⟨r9,hr9,h⟩:=bS h
      refine oy 401 (B r9) rfl (cP (V1 hr9)) ?_
      refine cq 3 [2] [B r9] 433 ?_
      exact rf [2] [] (j8 _ (ap h) :)
     ·refine cq 6 [2] [B false] 433 ?_
      exact rf [2] [] (j8 _ (ap h) :)
    ·refine cq 11 [2] [B false] 433 ?_
     exact rf [2] [] (j7 _ (ap h) :)
   ·refine cq 5 [51] [B (c_1.Op==4)] 257 ?_
    refine sq h ?_ ?_<;>intro h
    ·refine cq 5 [55] [B ((len c_1.Parts)==1)] 305 ?_
     obtain⟨u10,hu10,h⟩:=lJ h
     have j10:Run iZ 0 (ge c_1 r) (.code KW::.blk 0::.code i6::[]) (sT 80 [(2,B u10)] [] 1):=by
      obtain rfl:=sI h
      exact rP [B u10]
     replace h:=hu10
     clear hu10
     refine sp 55 h rfl ?_ ?_<;>intro h
     ·refine cq 5 [60] [B (c_1.Name==([]:ac))] 385 ?_
      obtain⟨u11,hu11,h⟩:=lJ h
      have j11:Run iZ 0 (ge c_1 r) (.code KW::.blk 0::.code i6::[]) (sT 80 [(2,B u11)] [] 1):=by
       subst h
       exact rf [2] [] (j10 :)
      replace h:=hu11
      clear hu11
      refine sp 60 h rfl ?_ ?_<;>intro h
      ·refine cq 6 [2] [B (c_1.Day==0)] 465 ?_
       subst h
       exact rf [2] [] (j11 :)
      ·refine cq 6 [2] [B false] 465 ?_
       subst h
       exact rf [2] [] (j11 :)
     ·refine cq 11 [2] [B false] 465 ?_
      subst h
      exact rf [2] [] (j10 :)
    ·refine cq 6 [65] [B (c_1.Op==5)] 289 ?_
     obtain⟨u12,hu12,h⟩:=lJ h
     have j12:Run iZ 0 (ge c_1 r) (.code (cR (cR (cR (cR (cR (cR (cR (cR (cR (cL (cR (cL (cR (cR mR))))))))))))))::.blk 0::.code i6::[]) (sT 80 [(1,.hp 1 0 [] 4 0 0),(3,I (len c_1.Parts)),(65,B u12)] [⟨0,4,[aa c_1]⟩] 2):=by
      refine sq h ?_ ?_<;>intro h
      ·refine cq 5 [70] [B ((len c_1.Parts)==2)] 50 ?_
       obtain⟨u13,hu13,h⟩:=lJ h
       have j13:Run iZ 0 (ge c_1 r) (.code KX::.blk 0::.code i6::[]) (sT 80 [(2,B u13)] [] 1):=by
        obtain rfl:=sI h
        exact rP [B u13]
       replace h:=hu13
       clear hu13
       refine sp 70 h rfl ?_ ?_<;>intro h
       ·refine cq 5 [75] [B (c_1.Name==([]:ac))] 130 ?_
        obtain⟨u14,hu14,h⟩:=lJ h
        have j14:Run iZ 0 (ge c_1 r) (.code KX::.blk 0::.code i6::[]) (sT 80 [(2,B u14)] [] 1):=by
         subst h
         exact rf [2] [] (j13 :)
        replace h:=hu14
        clear hu14
        refine sp 75 h rfl ?_ ?_<;>intro h
        ·refine cq 6 [2] [B (c_1.Day==0)] 210 ?_
         subst h
         exact rf [2] [] (j14 :)
        ·refine cq 6 [2] [B false] 210 ?_
         subst h
         exact rf [2] [] (j14 :)
       ·refine cq 11 [2] [B false] 210 ?_
        subst h
        exact rf [2] [] (j13 :)
      ·refine aq 1 ?_
       refine cq 5 [2] [B false] 18 ?_
       obtain rfl:=sI h
       exact rP [B false]
     replace h:=hu12
     clear hu12
     refine yw h rfl rfl ?_ ?_<;>intro h
     ·refine aq 1 ?_
      subst h
      exact rf [1,3,65] [1] (j12 :)
     ·refine cq 4 [65] [B (c_1.Op==6)] 321 ?_
      subst h
      exact rf [1,3,65] [1] (j12 :)
theorem OK {G:cM}:cH G 190 zE:=gT 1 0 (aR vh (aR OG bU)) cW Tryz.func190 (fun a r h=>Rp a r h)
def uZ:Condition→List V:=oA aD
def va (r:Bool):V×List V:=(B r,[])
noncomputable def vb (ca:Condition→Option Bool):Ent:=bx [false] uZ va ca
theorem KY (ca:Condition→Option Bool){x}{r}(h:ca x=some r):(vb ca).F (uZ x)=some (va r):=aP (aQ ba) h
noncomputable def zF :=vb (aA pZ)
theorem V5 {c_1:Condition}{r}(h:Ex c_1=some r):zF.F (uZ c_1)=some (va r):=KY (aA pZ) h
noncomputable def OM :=aJ Tryz.f169
noncomputable def HX (ca:Condition→Option Bool):Env:=cV [(190,zE),(169,(vb ca))]
def OL (ca:Condition→Option Bool)(x:Condition)(r:Bool):St→Prop:=QF (HX ca) Tryz.f169 [false] (uZ x) (va r)
theorem Ki (ca:Condition→Option Bool)(c_1:Condition):cJ (HX ca) 0 (OL ca c_1) (cL (cL (cR (cL (cR (cR OM)))))) 0 (pO ca c_1) (fun u=>(sT 21 [] [] 1)) fun x3=>(sT 21 [(1,.hp 1 0 [] 4 0 0),(3,I x3)] [⟨0,4,[aa c_1]⟩] 2):=eF (xI ca c_1) fun {Q K} hK self ih x3 y h hr hn=>by
 unfold kB at h
 refine cq 6 [7,9] [I x3,.isl false (c_1.Parts.map ar)] 50 ?_
 refine oq 66 (I (len c_1.Parts)) rfl (bG rfl rfl rfl (cF rfl)) ?_
 refine cq 2 [11] [B (decide (x3<(len c_1.Parts)))] 82 ?_
 refine sq h ?_ ?_<;>intro h
 ·refine aq 1 ?_
  refine cq 7 [15,16] [.isl false (c_1.Parts.map ar),I x3] 130 ?_
  obtain⟨e4,he4,h⟩:=bS h
  refine oq 146 (.iptr (aa e4) 0) rfl (an rfl rfl rfl (bC rfl rfl (aY e4) rfl he4)) ?_
  refine cq 1 [18] [aa e4] 162 ?_
  obtain⟨r5,hr5,h⟩:=bS h
  refine oq 178 (B r5) rfl (aV rfl rfl (bq rfl rfl rfl (bi (bI rfl) cu) (KY ca hr5) (.inr rfl) cG rfl rfl rfl)) ?_
  refine cq 2 [20] [B (!r5)] 194 ?_
  refine sq h ?_ ?_<;>intro h
  ·refine cq 4 [2] [B false] 210 ?_
   exact bX rfl (hr _ (ap h) _ (qp [B false]))
  ·refine aq 1 ?_
   refine cq 6 [3] [I (aj (x3+1))] 242 ?_
   refine dF ?_
   exact rf [1,3] [1] (ih _ _ h hr hn :)
 ·refine aq 1 ?_
  exact rf [] [] (hn _ (ap h) :) (hk:=hK)
theorem Rr (ca:Condition→Option Bool)(c_1:Condition)(r:Bool)(h:sk ca c_1=some r):bP (HX ca) Tryz.f169 [false] 0 (uZ c_1) (va r):=by
 show Run _ _ (OL ca c_1 r) [.code OM] _
 refine rI 21 [(0,aa c_1)] [] 1 ?_
 unfold sk at h
 refine ck 9 [1,4] [] [1] [] [.hp 1 0 [] 4 0 0,aa c_1] [some ⟨0,4,[aa c_1]⟩] 49 (by kernel_rfl) ?_
 obtain⟨r2,hr2,h⟩:=bS h
 refine oq 65 (B r2) rfl (cP (V4 hr2)) ?_
 refine cq 2 [6] [B (!r2)] 81 ?_
 refine sq h ?_ ?_<;>intro h
 ·refine cq 4 [2] [B false] 97 ?_
  obtain rfl:=sI h
  exact rP [B false]
 ·refine aq 1 ?_
  refine cq 6 [3] [I (0)] 97 ?_
  obtain⟨y6,hy6,hy61,hy62⟩:=bJ h
  refine b7 rfl ?_
  refine rf [1,3] [1] (Ki ca c_1 rfl 0 _ hy6 (fun r' e st hq=>by rw[hy61 r' e] at hq;exact hq) fun u6 hu=>?_)
  replace h:=hy62 u6 hu
  refine cq 4 [2] [B true] 17 ?_
  obtain rfl:=sI h
  exact rP [B true]
theorem OO {G:cM}:cH G 169 zF:=gp fun ca g_Ffcn=>gT 1 0 (aR OK (aR g_Ffcn bU)) cW Tryz.func169 (fun a r h=>Rr ca a r h)
def vr:Condition→List V:=oA aD
def vt (r:Int):V×List V:=(I r,[])
noncomputable def vu (cd:Condition→Option Int):Ent:=bx [false] vr vt cd
theorem K2 (cd:Condition→Option Int){x}{r}(h:cd x=some r):(vu cd).F (vr x)=some (vt r):=aP (aQ ba) h
noncomputable def zL :=vu (aA kG)
theorem V9 {c_1:Condition}{r}(h:H4 c_1=some r):zL.F (vr c_1)=some (vt r):=K2 (aA kG) h
noncomputable def O0 :=aJ Tryz.f170
noncomputable def H5 (cd:Condition→Option Int):Env:=cV [(170,(vu cd))]
def OZ (cd:Condition→Option Int)(x:Condition)(r:Int):St→Prop:=QF (H5 cd) Tryz.f170 [false] (vr x) (vt r)
theorem Kp (cd:Condition→Option Int)(c_1:Condition):cJ (H5 cd) 0 (OZ cd c_1) (cL (cL (cR (cL (cR (cR O0)))))) 0 (lh cd c_1) (fun u=>(sT 21 [(3,I u)] [] 1)) fun x2=>(sT 21 [(1,.hp 1 0 [] 4 0 0),(3,I x2.1),(4,I x2.2)] [⟨0,4,[aa c_1]⟩] 2):=eF (xP cd c_1) fun {Q K} hK self ih x2 y h hr hn=>by
 unfold jt at h
 refine cq 6 [5,7] [I x2.2,.isl false (c_1.Parts.map ar)] 50 ?_
 refine oq 66 (I (len c_1.Parts)) rfl (bG rfl rfl rfl (cF rfl)) ?_
 refine cq 2 [9] [B (decide (x2.2<(len c_1.Parts)))] 82 ?_
 refine sq h ?_ ?_<;>intro h
 ·refine aq 1 ?_
  refine cq 7 [12,14,15] [I x2.1,.isl false (c_1.Parts.map ar),I x2.2] 146 ?_
  obtain⟨e3,he3,h⟩:=bS h
  refine oq 162 (.iptr (aa e3) 0) rfl (an rfl rfl rfl (bC rfl rfl (aY e3) rfl he3)) ?_
  refine cq 1 [17] [aa e3] 178 ?_
  obtain⟨r4,hr4,h⟩:=bS h
  refine oq 194 (I r4) rfl (aV rfl rfl (bq rfl rfl rfl (bi (bI rfl) cu) (K2 cd hr4) (.inr rfl) cG rfl rfl rfl)) ?_
  refine cq 9 [3,4] [I (aj (x2.1+r4)),I (aj (x2.2+1))] 274 ?_
  refine dF ?_
  exact rf [1,3,4] [1] (ih _ _ h hr hn :)
 ·refine aq 1 ?_
  exact rf [3] [] (hn _ (ap h) :) (hk:=hK)
theorem RE (cd:Condition→Option Int)(c_1:Condition)(r:Int)(h:sx cd c_1=some r):bP (H5 cd) Tryz.f170 [false] 0 (vr c_1) (vt r):=by
 show Run _ _ (OZ cd c_1 r) [.code O0] _
 refine rI 21 [(0,aa c_1)] [] 1 ?_
 unfold sx at h
 refine ck 15 [1,3,4] [] [1] [] [.hp 1 0 [] 4 0 0,I (1),I (0)] [some ⟨0,4,[aa c_1]⟩] 65 (by kernel_rfl) ?_
 obtain⟨y5,hy5,hy51,hy52⟩:=bJ h
 refine b7 rfl ?_
 refine rf [1,3,4] [1] (Kp cd c_1 rfl (1,0) _ hy5 (fun r' e st hq=>by rw[hy51 r' e] at hq;exact hq) fun u5 hu=>?_)
 replace h:=hy52 u5 hu
 refine cq 5 [2] [I u5] 33 ?_
 obtain rfl:=sI h
 exact rP [I u5]
theorem O1 {G:cM}:cH G 170 zL:=gp fun cd g_Ffcw=>gT 1 0 (aR g_Ffcw bU) cW Tryz.func170 (fun a r h=>RE cd a r h)
def B9:Condition→List V:=oA aD
def Cb (r:Bool):V×List V:=(B r,[])
noncomputable def zH :=bx [false] B9 Cb fun x=>zG x
theorem V6 {c_1:Condition}{r}(h:zG c_1=some r):zH.F (B9 c_1)=some (Cb r):=aP (aQ ba) h
noncomputable def OP :=aJ Tryz.f135
noncomputable def HY :=cV [(169,zF),(170,zL)]
def Ca (x:Condition)(r:Bool):St→Prop:=QF HY Tryz.f135 [false] (B9 x) (Cb r)
theorem Rs (c_1:Condition)(r:Bool)(h:zG c_1=some r):bP HY Tryz.f135 [false] 0 (B9 c_1) (Cb r):=by
 show Run _ _ (Ca c_1 r) [.code OP] _
 refine rI 10 [(0,aa c_1)] [] 1 ?_
 unfold zG at h
 refine ck 8 [1,3] [] [1] [] [.hp 1 0 [] 4 0 0,aa c_1] [some ⟨0,4,[aa c_1]⟩] 49 (by kernel_rfl) ?_
 obtain⟨r2,hr2,h⟩:=bS h
 refine oq 65 (B r2) rfl (cP (V5 hr2)) ?_
 refine cq 1 [5] [B r2] 81 ?_
 obtain⟨y3,hy3,hy31,hy32⟩:=bJ h
 have j3:∀u3,y3=.inr u3→Run HY 0 (Ca c_1 r) (.code (cR (cR OP))::[]) (sT 10 [(2,B u3)] [] 1):=by
  intro u3 hu
  replace h:=hy32 u3 hu
  obtain rfl:=sI h
  exact rP [B u3]
 have r3:∀r',y3=.inl r'→∀st,Ca c_1 r' st→(Ca c_1 r) st:=fun r' e st hq=>by rw[hy31 r' e] at hq;exact hq
 replace h:=hy3
 refine sp 5 h rfl ?_ ?_<;>intro h
 ·refine cq 1 [6] [aa c_1] 97 ?_
  obtain⟨r4,hr4,h⟩:=bS h
  refine oy 113 (I r4) rfl (cP (V9 hr4)) ?_
  refine cq 4 [2] [B (decide (r4≤15))] 161 ?_
  exact rf [2] [] (j3 _ (ap h) :)
 ·refine cq 6 [2] [B false] 161 ?_
  exact rf [2] [] (j3 _ (ap h) :)
theorem OQ {G:cM}:cH G 135 zH:=gT 1 0 (aR OO (aR O1 bU)) cW Tryz.func135 (fun a r h=>Rs a r h)
def CC:(Contract×Int)→List V:=cA aI (oA I)
def CD (r:Bool):V×List V:=(B r,[])
noncomputable def zO :=bx [false,false] CC CD fun x=>zN x.1 x.2
theorem O4 {c_1:Contract}{i_2:Int}{r}(h:zN c_1 i_2=some r):zO.F (CC (c_1,i_2))=some (CD r):=aP (bp bB (aQ cf)) h
noncomputable def H7 :=aJ Tryz.f92
noncomputable abbrev mz :=cR (cR (cR (cR H7)))
noncomputable abbrev pS :=cR (cL (cR (cR (cR H7))))
noncomputable abbrev sA :=cR mz
noncomputable abbrev wv :=cR (cL mz)
noncomputable abbrev EA :=cR (cR (cR sA))
noncomputable def ic :=cV [(80,qb),(89,gR),(91,tp),(135,zH)]
def dZ (x:Contract×Int)(r:Bool):St→Prop:=QF ic Tryz.f92 [false,false] (CC x) (CD r)
theorem RG (c_1:Contract)(i_2:Int)(r:Bool)(h:zN c_1 i_2=some r):bP ic Tryz.f92 [false,false] 0 (CC (c_1,i_2)) (CD r):=by
 show Run _ _ (dZ (c_1,i_2) r) [.code H7] _
 refine rI 114 [(0,ai c_1),(1,I i_2)] [] 1 ?_
 unfold zN at h
 refine ck 10 [2,9,10] [] [1] [] [.hp 1 0 [] 2 0 0,.isl false (c_1.Clauses.map ao),I i_2] [some ⟨0,2,[ai c_1]⟩] 81 (by kernel_rfl) ?_
 obtain⟨e3,he3,h⟩:=bS h
 refine oq 97 (.iptr (ak e3) 0) rfl (an rfl rfl rfl (bC rfl rfl rfl rfl he3)) ?_
 refine ck 2 [5,12] [] [113] [] [.hp 113 0 [] 12 0 0,ak e3] [some ⟨0,12,[.agg [str ([]),I (0),I (0),str ([]),I (0),I (0),I (0),str ([]),I (0),.isl true [],I (0),str ([])]]⟩] 129 (by kernel_rfl) ?_
 refine fx 113 [.agg [str ([]),I (0),I (0),str ([]),I (0),I (0),I (0),str ([]),I (0),.usl 4 (([]).map ae),I (0),str ([])]] rfl rfl (az (gf (az (.refl _) (az (.refl _) (az (.refl _) (az (.refl _) (az (.refl _) (az (.refl _) (az (.refl _) (az (.refl _) (az (.refl _) (az (.nil _) (az (.refl _) (az (.refl _) eh))))))))))))) eh) ?_
 refine ck 6 [14] [] [113] [] [.isl false (c_1.Parties.map str)] [some ⟨2,12,[ak e3]⟩] 177 (by kernel_rfl) ?_
 refine oq 193 (I (len c_1.Parties)) rfl (bG rfl rfl rfl (cF rfl)) ?_
 refine cq 7 [6,17] [I (len c_1.Parties),str e3.Id] 241 ?_
 obtain⟨r4,hr4,h⟩:=bS h
 refine oq 257 (B r4) rfl (cP (vg hr4)) ?_
 refine cq 2 [20] [B (!r4)] 289 ?_
 obtain⟨y5,hy5,hy51,hy52⟩:=bJ h
 have j5:∀u5,y5=.inr u5→Run ic 0 (dZ (c_1,i_2) r) (.code pS::.code mz::[]) (sT 114 [(1,I i_2),(2,.hp 1 0 [] 2 0 0),(5,.hp 2 0 [] 12 0 0),(60,B u5)] [⟨0,2,[ai c_1]⟩,⟨0,12,[ak e3]⟩] 3):=by
  intro u5 hu
  replace h:=hy52 u5 hu
  refine sq h ?_ ?_<;>intro h
  ·refine cq 4 [4] [B false] 19 ?_
   obtain rfl:=sI h
   exact rP [B false]
  ·refine aq 1 ?_
   refine cq 5 [62] [I e3.Amount] 35 ?_
   obtain⟨r6,hr6,h⟩:=bS h
   refine oq 51 (B r6) rfl (cP (gA hr6)) ?_
   refine cq 2 [65] [B (!r6)] 83 ?_
   obtain⟨y7,hy7,hy71,hy72⟩:=bJ h
   have j7:∀u7,y7=.inr u7→Run ic 0 (dZ (c_1,i_2) r) (.code wv::.code sA::[]) (sT 114 [(1,I i_2),(2,.hp 1 0 [] 2 0 0),(5,.hp 2 0 [] 12 0 0),(85,B u7)] [⟨0,2,[ai c_1]⟩,⟨0,12,[ak e3]⟩] 3):=by
    intro u7 hu
    replace h:=hy72 u7 hu
    refine sq h ?_ ?_<;>intro h
    ·refine cq 4 [4] [B false] 19 ?_
     obtain rfl:=sI h
     exact rP [B false]
    ·refine aq 1 ?_
     refine cq 7 [88] [B (e3.Repair==([]:ac))] 51 ?_
     refine sq h ?_ ?_<;>intro h
     ·refine cq 4 [4] [B true] 67 ?_
      obtain rfl:=sI h
      exact rP [B true]
     ·refine aq 1 ?_
      refine cq 5 [89,91] [ai c_1,str e3.Repair] 99 ?_
      obtain⟨r8,hr8,h⟩:=bS h
      refine oq 115 (I r8) rfl (cP (H9 hr8)) ?_
      refine cq 7 [7,95] [I r8,B (decide (r8≥0))] 179 ?_
      obtain⟨y9,hy9,hy91,hy92⟩:=bJ h
      have j9:∀u9,y9=.inr u9→Run ic 0 (dZ (c_1,i_2) r) (.code EA::[]) (sT 114 [(4,B u9)] [] 1):=by
       intro u9 hu
       replace h:=hy92 u9 hu
       obtain rfl:=sI h
       exact rP [B u9]
      have r9:∀r',y9=.inl r'→∀st,dZ (c_1,i_2) r' st→(dZ (c_1,i_2) r) st:=fun r' e st hq=>by rw[hy91 r' e] at hq;exact hq
      replace h:=hy9
      refine sp 95 h rfl ?_ ?_<;>intro h
      ·refine cq 5 [100] [B (r8 != i_2)] 259 ?_
       obtain⟨y10,hy10,hy101,hy102⟩:=bL h
       have j10:∀u10,y10=.inr u10→Run ic 0 (dZ (c_1,i_2) r) (.code EA::[]) (sT 114 [(4,B u10)] [] 1):=by
        intro u10 hu
        replace h:=hy102 u10 hu
        exact rf [4] [] (j9 _ (ap h) :)
       have r10:∀r',y10=.inl r'→∀st,dZ (c_1,i_2) r' st→(dZ (c_1,i_2) r) st:=fun r' e st hq=>r9 r' (hy101 r' e) st hq
       replace h:=hy10
       refine sp 100 h rfl ?_ ?_<;>intro h
       ·refine cq 3 [102,103] [.isl false (c_1.Clauses.map ao),I r8] 307 ?_
        obtain⟨e11,he11,h⟩:=bS h
        refine oy 323 (.iptr (ak e11) 0) rfl (an rfl rfl rfl (bC rfl rfl rfl rfl he11)) ?_
        refine cq 5 [109] [B (e11.Kind==1)] 403 ?_
        obtain⟨u12,hu12,h⟩:=lJ h
        have j12:Run ic 0 (dZ (c_1,i_2) r) (.code EA::[]) (sT 114 [(4,B u12)] [] 1):=by
         exact rf [4] [] (j10 _ (ap h) :)
        replace h:=hu12
        clear hu12
        refine sp 109 h rfl ?_ ?_<;>intro h
        ·refine cq 6 [4] [B (e3.Kind != 3)] 483 ?_
         subst h
         exact rf [4] [] (j12 :)
        ·refine cq 6 [4] [B false] 483 ?_
         subst h
         exact rf [4] [] (j12 :)
       ·refine cq 15 [4] [B false] 483 ?_
        exact rf [4] [] (j10 _ (ap h) :)
      ·refine cq 20 [4] [B false] 483 ?_
       exact rf [4] [] (j9 _ (ap h) :)
   have r7:∀r',y7=.inl r'→∀st,dZ (c_1,i_2) r' st→(dZ (c_1,i_2) r) st:=fun r' e st hq=>by rw[hy71 r' e] at hq;exact hq
   replace h:=hy7
   refine sp 65 h rfl ?_ ?_<;>intro h
   ·refine cq 21 [85] [B true] 403 ?_
    exact rf [1,2,5,85] [1,2] (j7 _ (ap h) :)
   ·refine cq 2 [67] [I e3.Within] 115 ?_
    obtain⟨r13,hr13,h⟩:=bS h
    refine oy 131 (B r13) rfl (cP (gA hr13)) ?_
    refine cq 3 [71] [B (!r13)] 179 ?_
    obtain⟨u14,hu14,h⟩:=lJ h
    have j14:Run ic 0 (dZ (c_1,i_2) r) (.code wv::.code sA::[]) (sT 114 [(1,I i_2),(2,.hp 1 0 [] 2 0 0),(5,.hp 2 0 [] 12 0 0),(85,B u14)] [⟨0,2,[ai c_1]⟩,⟨0,12,[ak e3]⟩] 3):=by
     exact rf [1,2,5,85] [1,2] (j7 _ (ap h) :)
    replace h:=hu14
    clear hu14
    refine sp 71 h rfl ?_ ?_<;>intro h
    ·refine cq 15 [85] [B true] 403 ?_
     subst h
     exact rf [1,2,5,85] [1,2] (j14 :)
    ·refine cq 4 [75] [B (e3.Kind != 1)] 243 ?_
     obtain⟨u15,hu15,h⟩:=lJ h
     have j15:Run ic 0 (dZ (c_1,i_2) r) (.code wv::.code sA::[]) (sT 114 [(1,I i_2),(2,.hp 1 0 [] 2 0 0),(5,.hp 2 0 [] 12 0 0),(85,B u15)] [⟨0,2,[ai c_1]⟩,⟨0,12,[ak e3]⟩] 3):=by
      subst h
      exact rf [1,2,5,85] [1,2] (j14 :)
     replace h:=hu15
     clear hu15
     refine sp 75 h rfl ?_ ?_<;>intro h
     ·refine cq 4 [79] [B (e3.Amount != 0)] 307 ?_
      obtain⟨u16,hu16,h⟩:=lJ h
      have j16:Run ic 0 (dZ (c_1,i_2) r) (.code wv::.code sA::[]) (sT 114 [(1,I i_2),(2,.hp 1 0 [] 2 0 0),(5,.hp 2 0 [] 12 0 0),(85,B u16)] [⟨0,2,[ai c_1]⟩,⟨0,12,[ak e3]⟩] 3):=by
       subst h
       exact rf [1,2,5,85] [1,2] (j15 :)
      replace h:=hu16
      clear hu16
      refine sp 79 h rfl ?_ ?_<;>intro h
      ·refine cq 7 [85] [B true] 403 ?_
       subst h
       exact rf [1,2,5,85] [1,2] (j16 :)
      ·refine cq 7 [85] [B (e3.Within != 0)] 403 ?_
       subst h
       exact rf [1,2,5,85] [1,2] (j16 :)
     ·refine cq 11 [85] [B false] 403 ?_
      subst h
      exact rf [1,2,5,85] [1,2] (j15 :)
 have r5:∀r',y5=.inl r'→∀st,dZ (c_1,i_2) r' st→(dZ (c_1,i_2) r) st:=fun r' e st hq=>by rw[hy51 r' e] at hq;exact hq
 replace h:=hy5
 refine sp 20 h rfl ?_ ?_<;>intro h
 ·refine cq 41 [60] [B true] 929 ?_
  exact rf [1,2,5,60] [1,113] (j5 _ (ap h) :)
 ·refine cq 2 [22] [str e3.Action] 321 ?_
  obtain⟨r17,hr17,h⟩:=bS h
  refine oy 337 (B r17) rfl (cP (vg hr17)) ?_
  refine cq 3 [26] [B (!r17)] 385 ?_
  obtain⟨y18,hy18,hy181,hy182⟩:=bL h
  have j18:∀u18,y18=.inr u18→Run ic 0 (dZ (c_1,i_2) r) (.code pS::.code mz::[]) (sT 114 [(1,I i_2),(2,.hp 1 0 [] 2 0 0),(5,.hp 2 0 [] 12 0 0),(60,B u18)] [⟨0,2,[ai c_1]⟩,⟨0,12,[ak e3]⟩] 3):=by
   intro u18 hu
   replace h:=hy182 u18 hu
   exact rf [1,2,5,60] [1,2] (j5 _ (ap h) :)
  have r18:∀r',y18=.inl r'→∀st,dZ (c_1,i_2) r' st→(dZ (c_1,i_2) r) st:=fun r' e st hq=>r5 r' (hy181 r' e) st hq
  replace h:=hy18
  refine sp 26 h rfl ?_ ?_<;>intro h
  ·refine cq 35 [60] [B true] 929 ?_
   exact rf [1,2,5,60] [1,113] (j18 _ (ap h) :)
  ·refine cq 2 [28] [I e3.Kind] 417 ?_
   obtain⟨r19,hr19,h⟩:=bS h
   refine oy 433 (B r19) rfl (cP (gA hr19)) ?_
   refine cq 3 [32] [B (!r19)] 481 ?_
   obtain⟨y20,hy20,hy201,hy202⟩:=bL h
   have j20:∀u20,y20=.inr u20→Run ic 0 (dZ (c_1,i_2) r) (.code pS::.code mz::[]) (sT 114 [(1,I i_2),(2,.hp 1 0 [] 2 0 0),(5,.hp 2 0 [] 12 0 0),(60,B u20)] [⟨0,2,[ai c_1]⟩,⟨0,12,[ak e3]⟩] 3):=by
    intro u20 hu
    replace h:=hy202 u20 hu
    exact rf [1,2,5,60] [1,2] (j18 _ (ap h) :)
   have r20:∀r',y20=.inl r'→∀st,dZ (c_1,i_2) r' st→(dZ (c_1,i_2) r) st:=fun r' e st hq=>r18 r' (hy201 r' e) st hq
   replace h:=hy20
   refine sp 32 h rfl ?_ ?_<;>intro h
   ·refine cq 29 [60] [B true] 929 ?_
    exact rf [1,2,5,60] [1,113] (j20 _ (ap h) :)
   ·refine cq 4 [34,36] [I e3.Party,I (aj ((len c_1.Parties) - 1))] 545 ?_
    obtain⟨r21,hr21,h⟩:=bS h
    refine oy 561 (B r21) rfl (cP (gA hr21)) ?_
    refine cq 3 [40] [B (!r21)] 609 ?_
    obtain⟨y22,hy22,hy221,hy222⟩:=bL h
    have j22:∀u22,y22=.inr u22→Run ic 0 (dZ (c_1,i_2) r) (.code pS::.code mz::[]) (sT 114 [(1,I i_2),(2,.hp 1 0 [] 2 0 0),(5,.hp 2 0 [] 12 0 0),(60,B u22)] [⟨0,2,[ai c_1]⟩,⟨0,12,[ak e3]⟩] 3):=by
     intro u22 hu
     replace h:=hy222 u22 hu
     exact rf [1,2,5,60] [1,2] (j20 _ (ap h) :)
    have r22:∀r',y22=.inl r'→∀st,dZ (c_1,i_2) r' st→(dZ (c_1,i_2) r) st:=fun r' e st hq=>r20 r' (hy221 r' e) st hq
    replace h:=hy22
    refine sp 40 h rfl ?_ ?_<;>intro h
    ·refine cq 21 [60] [B true] 929 ?_
     exact rf [1,2,5,60] [1,113] (j22 _ (ap h) :)
    ·refine cq 4 [42,44] [I e3.Other,I (aj ((len c_1.Parties) - 1))] 673 ?_
     obtain⟨r23,hr23,h⟩:=bS h
     refine oy 689 (B r23) rfl (cP (gA hr23)) ?_
     refine cq 3 [48] [B (!r23)] 737 ?_
     obtain⟨y24,hy24,hy241,hy242⟩:=bL h
     have j24:∀u24,y24=.inr u24→Run ic 0 (dZ (c_1,i_2) r) (.code pS::.code mz::[]) (sT 114 [(1,I i_2),(2,.hp 1 0 [] 2 0 0),(5,.hp 2 0 [] 12 0 0),(60,B u24)] [⟨0,2,[ai c_1]⟩,⟨0,12,[ak e3]⟩] 3):=by
      intro u24 hu
      replace h:=hy242 u24 hu
      exact rf [1,2,5,60] [1,2] (j22 _ (ap h) :)
     have r24:∀r',y24=.inl r'→∀st,dZ (c_1,i_2) r' st→(dZ (c_1,i_2) r) st:=fun r' e st hq=>r22 r' (hy241 r' e) st hq
     replace h:=hy24
     refine sp 48 h rfl ?_ ?_<;>intro h
     ·refine cq 13 [60] [B true] 929 ?_
      exact rf [1,2,5,60] [1,113] (j24 _ (ap h) :)
     ·refine cq 7 [55] [B (e3.Party==e3.Other)] 849 ?_
      obtain⟨y25,hy25,hy251,hy252⟩:=bL h
      have j25:∀u25,y25=.inr u25→Run ic 0 (dZ (c_1,i_2) r) (.code pS::.code mz::[]) (sT 114 [(1,I i_2),(2,.hp 1 0 [] 2 0 0),(5,.hp 2 0 [] 12 0 0),(60,B u25)] [⟨0,2,[ai c_1]⟩,⟨0,12,[ak e3]⟩] 3):=by
       intro u25 hu
       replace h:=hy252 u25 hu
       exact rf [1,2,5,60] [1,2] (j24 _ (ap h) :)
      have r25:∀r',y25=.inl r'→∀st,dZ (c_1,i_2) r' st→(dZ (c_1,i_2) r) st:=fun r' e st hq=>r24 r' (hy251 r' e) st hq
      replace h:=hy25
      refine sp 55 h rfl ?_ ?_<;>intro h
      ·refine cq 6 [60] [B true] 929 ?_
       exact rf [1,2,5,60] [1,113] (j25 _ (ap h) :)
      ·refine cq 2 [57] [aa e3.When] 881 ?_
       obtain⟨r26,hr26,h⟩:=bS h
       refine oy 897 (B r26) rfl (cP (V6 hr26)) ?_
       refine cq 3 [60] [B (!r26)] 929 ?_
       exact rf [1,2,5,60] [1,113] (j25 _ (ap h) :)
theorem O5 {G:cM}:cH G 92 zO:=gT 2 0 (aR vh (aR jq (aR Fq (aR OQ bU)))) cW Tryz.func92 (fun a r h=>RG a.1 a.2 r h)
def Cq:((List ac)×ac)→List V:=cA (po 1 str) (oA str)
def Cr (r:(List ac)):V×List V:=(.usl 1 (r.map str),[.dead])
noncomputable def tk :=bx [true,false] Cq Cr fun x=>vm x.1 x.2
theorem H3 {l_8:List ac}{s_9:ac}{r}(h:vm l_8 s_9=some r):tk.F (Cq (l_8,s_9))=some (Cr r):=aP (bp (fW bH) (aQ bH)) h
noncomputable def qe :=aJ Tryz.f137
noncomputable def vn :=cV []
def su (x:(List ac)×ac)(r:(List ac)):St→Prop:=QF vn Tryz.f137 [true,false] (Cq x) (Cr r)
theorem Ko (l_8:List ac)(s_9:ac):cJ vn 1 (su (l_8,s_9)) (cL (cL (cL (cR (cR qe))))) 0 (sv l_8 s_9) (fun u=>(sO 45 [(0,.hs 2 0 [] 1 0 (u.2.2.map str).length),(1,str u.1),(5,I u.2.1)] [none,some ⟨0,1,u.2.2.map str⟩] 3)) fun x3=>(sO 45 [(0,.hs 2 0 [] 1 0 (l_8.map str).length),(1,str s_9),(5,I x3)] [none,some ⟨0,1,l_8.map str⟩] 3):=eF (xO l_8 s_9) fun {Q K} hK self ih x3 y h hr hn=>by
 unfold kF at h
 refine cq 5 [6,7] [I x3,.hs 2 0 [] 1 0 (l_8.map str).length] 35 ?_
 refine oq 51 (I (len l_8)) rfl (bG rfl rfl rfl (gL (f:=str) (xs:=l_8) rfl rfl)) ?_
 refine cq 2 [10] [B (decide (x3<(len l_8)))] 83 ?_
 obtain⟨y4,hy4,hy41,hy42⟩:=bL h
 have j4:∀u4,y4=.inr u4→Run vn 1 Q (.code (cR (cL (cL (cL (cL (cR (cR qe)))))))::.code (cR (cL (cL (cL (cR (cR qe))))))::.lp (cL (cL (cL (cR (cR qe)))))::.blk 0::K) (sO 45 [(0,.hs 2 0 [] 1 0 (l_8.map str).length),(1,str s_9),(5,I x3),(17,B u4)] [none,some ⟨0,1,l_8.map str⟩] 3):=by
  intro u4 hu
  replace h:=hy42 u4 hu
  refine sq h ?_ ?_<;>intro h
  ·refine aq 1 ?_
   refine cq 7 [5] [I (aj (x3+1))] 51 ?_
   refine dF ?_
   exact rg [0,1,5] [52,2] (ih _ _ h hr hn :)
  ·refine aq 1 ?_
   exact rg [0,1,5] [4,2] (hn _ (ap h) :) (hk:=hK)
 have r4:∀r',y4=.inl r'→∀st,su (l_8,s_9) r' st→Q st:=fun r' e st hq=>hr r' (hy41 r' e) st hq
 replace h:=hy4
 refine sp 10 h rfl ?_ ?_<;>intro h
 ·refine cq 2 [11,12] [.hs 2 0 [] 1 0 (l_8.map str).length,I x3] 115 ?_
  obtain⟨e5,he5,h⟩:=bS h
  refine oy 131 (.hp 2 0 [] 1 (0+Int.toNat x3) 0) rfl (an rfl rfl rfl (dG (f:=str) (xs:=l_8) rfl rfl rfl he5)) ?_
  refine oy 147 (str e5) rfl (cQ rfl (iH (path:=[]) rfl rfl rfl aG (cX (f:=str) (xs:=l_8) he5) rfl rfl rfl)) ?_
  refine cq 4 [17] [B (Op.bytesLess e5 s_9)] 195 ?_
  exact rg [0,1,5,17] [196,2] (j4 _ (ap h) :)
 ·refine cq 8 [17] [B false] 195 ?_
  exact rg [0,1,5,17] [196,2] (j4 _ (ap h) :)
theorem RB (l_8:List ac)(s_9:ac)(r:(List ac))(h:vm l_8 s_9=some r):bP vn Tryz.f137 [true,false] 1 (Cq (l_8,s_9)) (Cr r):=by
 show Run _ _ (su (l_8,s_9) r) [.code qe] _
 refine rI 45 [(0,.hs 1 0 [] 1 0 (l_8.map str).length),(1,str s_9)] [(1,some ⟨0,1,l_8.map str⟩)] 2 ?_
 unfold vm at h
 refine cq 10 [5] [I (0)] 34 ?_
 obtain⟨y6,hy6,hy61,hy62⟩:=bJ h
 refine b7 rfl ?_
 refine rg [0,1,5] [35,1] (Ko l_8 s_9 rfl 0 _ hy6 (fun r' e st hq=>by rw[hy61 r' e] at hq;exact hq) fun u6 hu=>?_)
 replace h:=hy62 u6 hu
 refine cq 5 [20,21] [I u6.2.1,.hs 2 0 [] 1 0 (u6.2.2.map str).length] 35 ?_
 refine oq 51 (I (len u6.2.2)) rfl (bG rfl rfl rfl (gL (f:=str) (xs:=u6.2.2) rfl rfl)) ?_
 refine cq 2 [24] [B (decide (u6.2.1<(len u6.2.2)))] 83 ?_
 obtain⟨y7,hy7,hy71,hy72⟩:=bJ h
 have j7:∀u7,y7=.inr u7→Run vn 1 (su (l_8,s_9) r) (.code (cR (cL (cR (cR (cR qe)))))::.code (cR (cR (cR (cR qe))))::[]) (sO 45 [(0,.hs 2 0 [] 1 0 (u6.2.2.map str).length),(1,str u6.1),(5,I u6.2.1),(31,B u7)] [none,some ⟨0,1,u6.2.2.map str⟩] 3):=by
  intro u7 hu
  replace h:=hy72 u7 hu
  refine sq h ?_ ?_<;>intro h
  ·refine cq 5 [4] [.hs 2 0 [] 1 0 (u6.2.2.map str).length] 35 ?_
   obtain rfl:=sI h
   exact bX rfl ⟨_,fin (vs:=[.hs 2 0 [] 1 0 (u6.2.2.map str).length]) rfl (d8 (eZ rfl (dm rfl rfl)) dX) rfl (kb rfl (iW rfl) (d9 eC)),mb ez⟩
  ·refine aq 1 ?_
   refine aq 1 ?_
   refine fp [0,0,0,6,15,0,32,127,0,0,768,2047,4095] rfl (by decide +kernel) ?_
   refine dq [] [] (.hs 3 0 [] 1 0 0) rfl (bV rfl (fb (f:=I) (xs:=[]) (z:=str ([])) (es:=[]) (ws:=[]) rfl rfl rfl (by decide) rfl (bw rfl) rfl)) ?_
   refine dk 2 [35,34] [I u6.2.1,.hs 2 0 [] 1 0 (u6.2.2.map str).length] ?_
   obtain⟨s8,hs8,h⟩:=bS h
   refine dq [2] [] (.hs 2 0 [] 1 (0+Int.toNat (0)) (Int.toNat u6.2.1 - Int.toNat (0))) rfl (hY rfl rfl rfl rfl (pc (f:=str) (xs:=u6.2.2) rfl rfl rfl rfl rfl hs8)) ?_
   obtain⟨p9,hp9,h⟩:=bS h
   obtain⟨a10,ha10,h⟩:=bS h
   refine dq [3,2] [3] (.hs 67 0 [] 1 0 (a10.map str).length) rfl (fQ rfl rfl rfl rfl rfl (iA (path:=[]) (es0:=[]) (f:=str) (xs:=([]:List ac)) (ys:=p9) rfl rfl (xd (path:=[]) (f:=str) (xs:=u6.2.2) rfl rfl aG hp9 me) rfl rfl rfl rfl rfl (by decide) iL ha10 rfl lF)) ?_ (ui rfl (tA (path:=[]) (f:=str) (xs:=u6.2.2) rfl rfl aG me rfl))
   refine dk 1 [38] [str u6.1] ?_
   refine dq [] [] (.hs 99 0 [] 1 0 1) rfl (bV rfl (fb (f:=I) (xs:=[]) (z:=str ([])) (es:=[str u6.1]) (ws:=[str u6.1]) rfl rfl rfl (by decide) rfl (bw rfl) rfl)) ?_
   obtain⟨a11,ha11,h⟩:=bS h
   refine dq [67,99] [67] (.hs 115 0 [] 1 0 (a11.map str).length) rfl (fQ rfl rfl rfl rfl rfl (iA (path:=[]) (f:=str) (xs:=a10) (ys:=[u6.1]) rfl rfl (jZ rfl rfl rfl) rfl rfl rfl aG rfl (by decide) iL ha11 rfl lF)) ?_ (ui rfl (tA (path:=[]) (f:=str) (xs:=[u6.1]) rfl rfl aG me rfl))
   refine dk 2 [42,41] [I u6.2.1,.hs 2 0 [] 1 0 (u6.2.2.map str).length] ?_
   obtain⟨s12,hs12,h⟩:=bS h
   refine dq [2] [] (.hs 2 0 [] 1 (0+Int.toNat u6.2.1) (Int.toNat (len u6.2.2) - Int.toNat u6.2.1)) rfl (hY rfl rfl rfl rfl (pc (f:=str) (xs:=u6.2.2) rfl rfl rfl rfl (Ms rfl) hs12)) ?_
   obtain⟨p13,hp13,h⟩:=bS h
   obtain⟨a14,ha14,h⟩:=bS h
   refine dq [115,2] [115] (.hs 179 0 [] 1 0 (a14.map str).length) rfl (fQ rfl rfl rfl rfl rfl (iA (path:=[]) (f:=str) (xs:=a11) (ys:=p13) rfl rfl (xd (path:=[]) (f:=str) (xs:=u6.2.2) rfl rfl aG hp13 me) rfl rfl rfl aG rfl (by decide) iL ha14 rfl lF)) ?_ (ui rfl (tA (path:=[]) (f:=str) (xs:=u6.2.2) rfl rfl aG me rfl))
   refine dk 1 [4] [.hs 179 0 [] 1 0 (a14.map str).length] ?_
   refine de 211 rfl rfl ?_
   obtain rfl:=sI h
   exact bX rfl ⟨_,fin (vs:=[.hs 179 0 [] 1 0 (a14.map str).length]) rfl (d8 (eZ rfl (dm rfl rfl)) dX) rfl (kb rfl (iW rfl) (d9 eC)),mb ez⟩
 have r7:∀r',y7=.inl r'→∀st,su (l_8,s_9) r' st→(su (l_8,s_9) r) st:=fun r' e st hq=>by rw[hy71 r' e] at hq;exact hq
 replace h:=hy7
 refine sp 24 h rfl ?_ ?_<;>intro h
 ·refine cq 2 [25,26] [.hs 2 0 [] 1 0 (u6.2.2.map str).length,I u6.2.1] 115 ?_
  obtain⟨e15,he15,h⟩:=bS h
  refine oy 131 (.hp 2 0 [] 1 (0+Int.toNat u6.2.1) 0) rfl (an rfl rfl rfl (dG (f:=str) (xs:=u6.2.2) rfl rfl rfl he15)) ?_
  refine oy 147 (str e15) rfl (cQ rfl (iH (path:=[]) rfl rfl rfl aG (cX (f:=str) (xs:=u6.2.2) he15) rfl rfl rfl)) ?_
  refine cq 4 [31] [B (e15==u6.1)] 195 ?_
  exact rg [0,1,5,31] [196,2] (j7 _ (ap h) :)
 ·refine cq 8 [31] [B false] 195 ?_
  exact rg [0,1,5,31] [196,2] (j7 _ (ap h) :)
theorem Fp {G:cM}:cH G 137 tk:=gT 2 1 bU cW Tryz.func137 (fun a r h=>RB a.1 a.2 r h)
def vi:((List ac)×Condition)→List V:=cA (po 1 str) (oA aD)
def vj (r:(List ac)):V×List V:=(.usl 1 (r.map str),[.dead])
noncomputable def vk (cb:((List ac)×Condition)→Option (List ac)):Ent:=bx [true,false] vi vj cb
theorem K0 (cb:((List ac)×Condition)→Option (List ac)){x}{r}(h:cb x=some r):(vk cb).F (vi x)=some (vj r):=aP (bp (fW bH) (aQ ba)) h
noncomputable def qd :=vk (aA ib)
theorem lH {l_4:List ac}{c_5:Condition}{r}(h:qc l_4 c_5=some r):qd.F (vi (l_4,c_5))=some (vj r):=K0 (aA ib) h
noncomputable def OX :=aJ Tryz.f136
noncomputable def H2 (cb:((List ac)×Condition)→Option (List ac)):Env:=cV [(137,tk),(136,(vk cb))]
def OW (cb:((List ac)×Condition)→Option (List ac))(x:(List ac)×Condition)(r:(List ac)):St→Prop:=QF (H2 cb) Tryz.f136 [true,false] (vi x) (vj r)
theorem Kn (cb:((List ac)×Condition)→Option (List ac))(l_4:List ac)(c_5:Condition):cJ (H2 cb) 1 (OW cb (l_4,c_5)) (cL (cL (cR (cL (cR (cR OX)))))) 0 (i9 cb l_4 c_5) (fun u=>(sO 28 [(0,.hs 2 0 [] 1 0 (u.map str).length)] [none,some ⟨0,1,u.map str⟩] 3)) fun x4=>(sO 28 [(0,.hs 2 0 [] 1 0 (x4.2.map str).length),(3,.hp 3 0 [] 4 0 0),(5,I x4.1)] [none,some ⟨0,1,x4.2.map str⟩,some ⟨0,4,[aa c_5]⟩] 4):=eF (xN cb l_4 c_5) fun {Q K} hK self ih x4 y h hr hn=>by
 unfold iz at h
 refine cq 6 [13,15] [I x4.1,.isl false (c_5.Parts.map ar)] 52 ?_
 refine oq 68 (I (len c_5.Parts)) rfl (bG rfl rfl rfl (cF rfl)) ?_
 refine cq 2 [17] [B (decide (x4.1<(len c_5.Parts)))] 84 ?_
 refine sq h ?_ ?_<;>intro h
 ·refine aq 1 ?_
  refine cq 7 [20,22,23] [.hs 2 0 [] 1 0 (x4.2.map str).length,.isl false (c_5.Parts.map ar),I x4.1] 148 ?_
  obtain⟨e5,he5,h⟩:=bS h
  refine oq 164 (.iptr (aa e5) 0) rfl (an rfl rfl rfl (bC rfl rfl (aY e5) rfl he5)) ?_
  refine cq 1 [25] [aa e5] 180 ?_
  obtain⟨r6,hr6,h⟩:=bS h
  refine oq 196 (.hs 180 0 [] 1 0 (r6.map str).length) rfl (aV rfl rfl (bq rfl rfl rfl (fk (eY rfl (dD (path:=[]) rfl rfl aG rfl)) (bi (bI rfl) cu)) (K0 cb hr6) (.inr rfl) (fP rfl rfl rfl eq cG) rfl rfl rfl)) ?_
  refine cq 8 [0,5] [.hs 180 0 [] 1 0 (r6.map str).length,I (aj (x4.1+1))] 260 ?_
  refine dF ?_
  exact rg [0,3,5] [261,180,3] (ih _ _ h hr hn :)
 ·refine aq 1 ?_
  exact rg [0] [85,2] (hn _ (ap h) :) (hk:=hK)
theorem RA (cb:((List ac)×Condition)→Option (List ac))(l_4:List ac)(c_5:Condition)(r:(List ac))(h:ss cb l_4 c_5=some r):bP (H2 cb) Tryz.f136 [true,false] 1 (vi (l_4,c_5)) (vj r):=by
 show Run _ _ (OW cb (l_4,c_5) r) [.code OX] _
 refine rI 28 [(0,.hs 1 0 [] 1 0 (l_4.map str).length),(1,aa c_5)] [(1,some ⟨0,1,l_4.map str⟩)] 2 ?_
 unfold ss at h
 refine ck 12 [3,8] [] [2] [] [.hp 2 0 [] 4 0 0,B (c_5.Op==2)] [some ⟨0,4,[aa c_5]⟩] 82 (by kernel_rfl) ?_
 refine sq h ?_ ?_<;>intro h
 ·refine cq 5 [9,11] [.hs 1 0 [] 1 0 (l_4.map str).length,str c_5.Name] 130 ?_
  obtain⟨r3,hr3,h⟩:=bS h
  refine oq 146 (.hs 130 0 [] 1 0 (r3.map str).length) rfl (aV rfl rfl (bq rfl rfl rfl (fk (eY rfl (dD (path:=[]) rfl rfl aG rfl)) (bi (bI rfl) cu)) (H3 hr3) (.inr rfl) (fP rfl rfl rfl eq cG) rfl rfl rfl)) ?_
  refine cq 2 [4] [.hs 130 0 [] 1 0 (r3.map str).length] 162 ?_
  obtain rfl:=sI h
  exact bX rfl ⟨_,fin (vs:=[.hs 130 0 [] 1 0 (r3.map str).length]) rfl (d8 (eZ rfl (dm rfl rfl)) dX) rfl (kb rfl (iW rfl) (d9 eC)),mb ez⟩
 ·refine aq 1 ?_
  refine cq 6 [5] [I (0)] 98 ?_
  obtain⟨y7,hy7,hy71,hy72⟩:=bJ h
  refine b7 rfl ?_
  refine rg [0,3,5] [99,1,2] (Kn cb l_4 c_5 rfl (0,l_4) _ hy7 (fun r' e st hq=>by rw[hy71 r' e] at hq;exact hq) fun u7 hu=>?_)
  replace h:=hy72 u7 hu
  refine cq 5 [4] [.hs 2 0 [] 1 0 (u7.map str).length] 35 ?_
  obtain rfl:=sI h
  exact bX rfl ⟨_,fin (vs:=[.hs 2 0 [] 1 0 (u7.map str).length]) rfl (d8 (eZ rfl (dm rfl rfl)) dX) rfl (kb rfl (iW rfl) (d9 eC)),mb ez⟩
theorem vl {G:cM}:cH G 136 qd:=gp fun cb g_Ffct=>gT 2 1 (aR Fp (aR g_Ffct bU)) cW Tryz.func136 (fun a r h=>RA cb a.1 a.2 r h)
def CN:Contract→List V:=oA aI
def CO (r:(List ac)):V×List V:=(.usl 1 (r.map str),[])
noncomputable def zS :=bx [false] CN CO fun x=>tq x
theorem Wc {c_1:Contract}{r}(h:tq c_1=some r):zS.F (CN c_1)=some (CO r):=aP (aQ bB) h
noncomputable def Pb :=aJ Tryz.f93
noncomputable def Ia :=cV [(137,tk),(136,qd)]
def Pa (x:Contract)(r:(List ac)):St→Prop:=QF Ia Tryz.f93 [false] (CN x) (CO r)
theorem Kt (c_1:Contract):cJ Ia 0 (Pa c_1) (cL (cL (cR (cL (cR (cR Pb)))))) 0 (mB c_1) (fun u=>(sT 29 [(3,.hs 1 0 [] 1 0 (u.map str).length)] [⟨0,1,u.map str⟩] 2)) fun x2=>(sT 29 [(1,.hp 1 0 [] 2 0 0),(3,.hs 2 0 [] 1 0 (x2.2.map str).length),(4,I x2.1)] [⟨0,2,[ai c_1]⟩,⟨0,1,x2.2.map str⟩] 3):=eF (xT c_1) fun {Q K} hK self ih x2 y h hr hn=>by
 unfold kJ at h
 refine cq 6 [6,8] [I x2.1,.isl false (c_1.Clauses.map ao)] 51 ?_
 refine oq 67 (I (len c_1.Clauses)) rfl (bG rfl rfl rfl (cF rfl)) ?_
 refine cq 2 [10] [B (decide (x2.1<(len c_1.Clauses)))] 83 ?_
 refine sq h ?_ ?_<;>intro h
 ·refine aq 1 ?_
  refine aq 2 ?_
  refine fp [0,0,2,0,14,30,62,127,0,256,0,1792,3840,7936,16383,32767] rfl (by decide +kernel) ?_
  refine dk 1 [13] [.hs 2 0 [] 1 0 (x2.2.map str).length] ?_
  refine dq [1] [] (.hp 1 0 [] 2 0 1) rfl (dQ rfl rfl rfl) ?_
  refine dq [1] [] (.isl false (c_1.Clauses.map ao)) rfl (cQ rfl rfl) ?_
  refine dk 1 [16] [I x2.1] ?_
  obtain⟨e3,he3,h⟩:=bS h
  refine dq [] [] (.iptr (ak e3) 0) rfl (an rfl rfl rfl (bC rfl rfl rfl rfl he3)) ?_
  refine dq [] [] (.iptr (ak e3) 3) rfl (dQ rfl rfl rfl) ?_
  refine dq [] [] (str e3.Action) rfl (cQ rfl rfl) ?_
  obtain⟨r4,hr4,h⟩:=bS h
  refine dq [2] [2] (.hs 195 0 [] 1 0 (r4.map str).length) rfl (aV rfl rfl (bq rfl rfl rfl (fk (eY rfl (dD (path:=[]) rfl rfl aG rfl)) (bi (bI rfl) cu)) (H3 hr4) (.inr rfl) (fP rfl rfl rfl eq cG) rfl rfl rfl)) ?_ (dW rfl rfl rfl rfl (fk (eY rfl (dD (path:=[]) rfl rfl aG rfl)) (bi (bI rfl) cu)) (H3 hr4) (.inr rfl) rfl)
  refine dq [1] [] (.hp 1 0 [] 2 0 1) rfl (dQ rfl rfl rfl) ?_
  refine dq [1] [] (.isl false (c_1.Clauses.map ao)) rfl (cQ rfl rfl) ?_
  refine dk 1 [23] [I x2.1] ?_
  obtain⟨e5,he5,h⟩:=bS h
  refine dq [] [] (.iptr (ak e5) 0) rfl (an rfl rfl rfl (bC rfl rfl rfl rfl he5)) ?_
  refine dq [] [] (.iptr (ak e5) 6) rfl (dQ rfl rfl rfl) ?_
  refine dq [] [] (aa e5.When) rfl (cQ rfl rfl) ?_
  obtain⟨r6,hr6,h⟩:=bS h
  refine dq [195] [195] (.hs 307 0 [] 1 0 (r6.map str).length) rfl (aV rfl rfl (bq rfl rfl rfl (fk (eY rfl (dD (path:=[]) rfl rfl aG rfl)) (bi (bI rfl) cu)) (lH hr6) (.inr rfl) (fP rfl rfl rfl eq cG) rfl rfl rfl)) ?_ (dW rfl rfl rfl rfl (fk (eY rfl (dD (path:=[]) rfl rfl aG rfl)) (bi (bI rfl) cu)) (lH hr6) (.inr rfl) rfl)
  refine dk 1 [3] [.hs 307 0 [] 1 0 (r6.map str).length] ?_
  refine de 339 rfl rfl ?_
  refine cq 6 [4] [I (aj (x2.1+1))] 387 ?_
  refine dF ?_
  exact rf [1,3,4] [1,307] (ih _ _ h hr hn :)
 ·refine aq 1 ?_
  exact rf [3] [2] (hn _ (ap h) :) (hk:=hK)
theorem RJ (c_1:Contract)(r:(List ac))(h:tq c_1=some r):bP Ia Tryz.f93 [false] 0 (CN c_1) (CO r):=by
 show Run _ _ (Pa c_1 r) [.code Pb] _
 refine rI 29 [(0,ai c_1)] [] 1 ?_
 unfold tq at h
 refine ck 7 [1] [] [1] [] [.hp 1 0 [] 2 0 0] [some ⟨0,2,[ai c_1]⟩] 33 (by kernel_rfl) ?_
 refine oq 49 (.hs 33 0 [] 1 0 0) rfl (bV rfl (fb (f:=I) (xs:=[]) (z:=str ([])) (es:=[]) (ws:=[]) rfl rfl rfl (by decide) rfl (bw rfl) rfl)) ?_
 refine cq 8 [3,4] [.hs 33 0 [] 1 0 0,I (0)] 81 ?_
 obtain⟨y7,hy7,hy71,hy72⟩:=bJ h
 refine b7 rfl ?_
 refine rf [1,3,4] [1,33] (Kt c_1 rfl (0,[]) _ hy7 (fun r' e st hq=>by rw[hy71 r' e] at hq;exact hq) fun u7 hu=>?_)
 replace h:=hy72 u7 hu
 refine cq 5 [2] [.hs 1 0 [] 1 0 (u7.map str).length] 34 ?_
 obtain rfl:=sI h
 exact bX rfl ⟨_,fin (vs:=[.hs 1 0 [] 1 0 (u7.map str).length]) rfl (d8 (eZ rfl (dm rfl rfl)) dX) rfl (d9 eC),ez⟩
theorem Pc {G:cM}:cH G 93 zS:=gT 1 0 (aR Fp (aR vl bU)) cW Tryz.func93 (fun a r h=>RJ a r h)
def CJ:Contract→List V:=oA aI
def CK (r:Bool):V×List V:=(B r,[])
noncomputable def zR :=bx [false] CJ CK fun x=>zQ x
theorem Wb {c_1:Contract}{r}(h:zQ c_1=some r):zR.F (CJ c_1)=some (CK r):=aP (aQ bB) h
noncomputable def CL :=aJ Tryz.f43
noncomputable abbrev wx :=cL (cL (cR (cL (cR (cR CL)))))
noncomputable def vx :=cV [(89,gR),(91,tp),(92,zO),(93,zS),(90,zT)]
def sD (x:Contract)(r:Bool):St→Prop:=QF vx Tryz.f43 [false] (CJ x) (CK r)
theorem Ks (c_1:Contract):cJ vx 0 (sD c_1) wx 0 (li c_1) (fun u=>(sT 41 [(1,.hp 1 0 [] 2 0 0)] [⟨0,2,[ai c_1]⟩] 2)) fun x4=>(sT 41 [(1,.hp 1 0 [] 2 0 0),(3,I x4)] [⟨0,2,[ai c_1]⟩] 2):=eF (xS c_1) fun {Q K} hK self ih x4 y h hr hn=>by
 unfold kI at h
 refine cq 6 [14,16] [I x4,.isl false (c_1.Clauses.map ao)] 50 ?_
 refine oq 66 (I (len c_1.Clauses)) rfl (bG rfl rfl rfl (cF rfl)) ?_
 refine cq 2 [18] [B (decide (x4<(len c_1.Clauses)))] 82 ?_
 refine sq h ?_ ?_<;>intro h
 ·refine aq 1 ?_
  refine aq 3 ?_
  refine fp [0,0,2,0,14,30,62,127,0,511,1023,2047,2047,8191,16383,32767] rfl (by decide +kernel) ?_
  refine dq [1] [] (ai c_1) rfl (cQ rfl rfl) ?_
  refine dq [1] [] (.hp 1 0 [] 2 0 1) rfl (dQ rfl rfl rfl) ?_
  refine dq [1] [] (.isl false (c_1.Clauses.map ao)) rfl (cQ rfl rfl) ?_
  refine dk 1 [24] [I x4] ?_
  obtain⟨e5,he5,h⟩:=bS h
  refine dq [] [] (.iptr (ak e5) 0) rfl (an rfl rfl rfl (bC rfl rfl rfl rfl he5)) ?_
  refine dq [] [] (.iptr (ak e5) 0) rfl (dQ rfl rfl rfl) ?_
  refine dq [] [] (str e5.Id) rfl (cQ rfl rfl) ?_
  obtain⟨r6,hr6,h⟩:=bS h
  refine dq [] [] (I r6) rfl (cP (H9 hr6)) ?_ (dW rfl rfl rfl rfl (bi (bI rfl) (bi (bI rfl) cu)) (H9 hr6) (.inr rfl) rfl)
  refine dk 3 [31,30,29] [B (r6 != x4),B (r6 != x4),I x4] ?_
  obtain⟨y7,hy7,hy71,hy72⟩:=bL h
  have j7:∀u7,y7=.inr u7→Run vx 0 Q (.code (cR (cL (cL (cR wx))))::.blk 1::.code (cR (cR wx))::.lp wx::.blk 0::K) (sT 41 [(1,.hp 1 0 [] 2 0 0),(3,I x4),(36,B u7)] [⟨0,2,[ai c_1]⟩] 2):=by
   intro u7 hu
   replace h:=hy72 u7 hu
   refine sq h ?_ ?_<;>intro h
   ·refine cq 4 [2] [B false] 18 ?_
    exact bX rfl (hr _ (ap h) _ (qp [B false]))
   ·refine aq 1 ?_
    refine cq 6 [3] [I (aj (x4+1))] 50 ?_
    refine dF ?_
    exact rf [1,3] [1] (ih _ _ h hr hn :)
  have r7:∀r',y7=.inl r'→∀st,sD c_1 r' st→Q st:=fun r' e st hq=>hr r' (hy71 r' e) st hq
  replace h:=hy7
  refine sp 31 h rfl ?_ ?_<;>intro h
  ·refine dk 5 [36,35,34,33,32] [B true,.und,.und,.und,.und] ?_
   refine de 338 rfl rfl ?_
   exact rf [1,3,36] [1] (j7 _ (ap h) :)
  ·refine dy [1] [] (ai c_1) rfl (cQ rfl rfl) ?_
   refine dk 1 [33] [I x4] ?_
   obtain⟨r8,hr8,h⟩:=bS h
   refine dy [] [] (B r8) rfl (cP (O4 hr8)) ?_ (dW rfl rfl rfl rfl (bi (bI rfl) (bi (bI rfl) cu)) (O4 hr8) (.inr rfl) rfl)
   refine dk 2 [36,35] [B (!r8),B (!r8)] ?_
   refine de 338 rfl rfl ?_
   exact rf [1,3,36] [1] (j7 _ (ap h) :)
 ·refine aq 1 ?_
  exact rf [1] [1] (hn _ (ap h) :) (hk:=hK)
theorem RI (c_1:Contract)(r:Bool)(h:zQ c_1=some r):bP vx Tryz.f43 [false] 0 (CJ c_1) (CK r):=by
 show Run _ _ (sD c_1 r) [.code CL] _
 refine rI 41 [(0,ai c_1)] [] 1 ?_
 unfold zQ at h
 refine ck 10 [1,5] [] [1] [] [.hp 1 0 [] 2 0 0,.isl false (c_1.Clauses.map ao)] [some ⟨0,2,[ai c_1]⟩] 65 (by kernel_rfl) ?_
 refine oq 81 (I (len c_1.Clauses)) rfl (bG rfl rfl rfl (cF rfl)) ?_
 obtain⟨r2,hr2,h⟩:=bS h
 refine oq 97 (B r2) rfl (cP (gA hr2)) ?_
 refine cq 2 [9] [B (!r2)] 129 ?_
 obtain⟨y3,hy3,hy31,hy32⟩:=bJ h
 have j3:∀u3,y3=.inr u3→Run vx 0 (sD c_1 r) (.code (cR (cL (cR CL)))::.code (cR (cR CL))::[]) (sT 41 [(1,.hp 1 0 [] 2 0 0),(13,B u3)] [⟨0,2,[ai c_1]⟩] 2):=by
  intro u3 hu
  replace h:=hy32 u3 hu
  refine sq h ?_ ?_<;>intro h
  ·refine cq 4 [2] [B false] 18 ?_
   obtain rfl:=sI h
   exact rP [B false]
  ·refine aq 1 ?_
   refine cq 6 [3] [I (0)] 18 ?_
   obtain⟨y9,hy9,hy91,hy92⟩:=bJ h
   refine b7 rfl ?_
   refine rf [1,3] [1] (Ks c_1 rfl 0 _ hy9 (fun r' e st hq=>by rw[hy91 r' e] at hq;exact hq) fun u9 hu=>?_)
   replace h:=hy92 u9 hu
   refine cq 3 [37] [ai c_1] 18 ?_
   obtain⟨r10,hr10,h⟩:=bS h
   refine oq 34 (.hs 18 0 [] 1 0 (r10.map str).length) rfl (cP (Wc hr10)) ?_
   refine oq 50 (I (len r10)) rfl (bG rfl rfl rfl (gL (f:=str) (xs:=r10) rfl rfl)) ?_
   refine cq 3 [2] [B (decide ((len r10)≤16))] 82 ?_
   obtain rfl:=sI h
   exact rP [B (decide ((len r10)≤16))]
 have r3:∀r',y3=.inl r'→∀st,sD c_1 r' st→(sD c_1 r) st:=fun r' e st hq=>by rw[hy31 r' e] at hq;exact hq
 replace h:=hy3
 refine sp 9 h rfl ?_ ?_<;>intro h
 ·refine cq 5 [13] [B true] 193 ?_
  exact rf [1,13] [1] (j3 _ (ap h) :)
 ·refine cq 1 [10] [ai c_1] 145 ?_
  obtain⟨r11,hr11,h⟩:=bS h
  refine oy 161 (B r11) rfl (cP (We hr11)) ?_
  refine cq 3 [13] [B (!r11)] 193 ?_
  exact rf [1,13] [1] (j3 _ (ap h) :)
theorem O9 {G:cM}:cH G 43 zR:=gT 1 0 (aR jq (aR Fq (aR O5 (aR Pc (aR Pd bU))))) cW Tryz.func43 (fun a r h=>RI a r h)
def BR:(Clause×Clause)→List V:=cA ao (oA ao)
def BS (r:Bool):V×List V:=(B r,[])
noncomputable def zu :=bx [false,false] BR BS fun x=>Ev x.1 x.2
theorem VU {a_1:Clause}{b_2:Clause}{r}(h:Ev a_1 b_2=some r):zu.F (BR (a_1,b_2))=some (BS r):=aP (bp cC (aQ cC)) h
noncomputable def Ov :=aJ Tryz.f94
noncomputable def HT :=cV []
def Ou (x:Clause×Clause)(r:Bool):St→Prop:=QF HT Tryz.f94 [false,false] (BR x) (BS r)
theorem Rh (a_1:Clause)(b_2:Clause)(r:Bool)(h:Ev a_1 b_2=some r):bP HT Tryz.f94 [false,false] 0 (BR (a_1,b_2)) (BS r):=by
 show Run _ _ (Ou (a_1,b_2) r) [.code Ov] _
 refine rI 17 [(0,ak a_1),(1,ak b_2)] [] 1 ?_
 unfold Ev at h
 refine ck 14 [2,3,10] [] [1,17] [] [.hp 1 0 [] 12 0 0,.hp 17 0 [] 12 0 0,B (a_1.Party==b_2.Party)] [some ⟨0,12,[ak a_1]⟩,some ⟨0,12,[ak b_2]⟩] 145 (by kernel_rfl) ?_
 obtain⟨u3,hu3,h⟩:=lJ h
 have j3:Run HT 0 (Ou (a_1,b_2) r) (.code (cR (cR Ov))::[]) (sT 17 [(4,B u3)] [] 1):=by
  obtain rfl:=sI h
  exact rP [B u3]
 replace h:=hu3
 clear hu3
 refine sp 10 h rfl ?_ ?_<;>intro h
 ·refine cq 8 [4] [B (a_1.Action==b_2.Action)] 257 ?_
  subst h
  exact rf [4] [] (j3 :)
 ·refine cq 8 [4] [B false] 257 ?_
  subst h
  exact rf [4] [] (j3 :)
theorem Ow {G:cM}:cH G 94 zu:=gT 2 0 bU cW Tryz.func94 (fun a r h=>Rh a.1 a.2 r h)
def BT:(Condition×Condition)→List V:=cA aD (oA aD)
def BU (r:Bool):V×List V:=(B r,[])
noncomputable def zw :=bx [false,false] BT BU fun x=>ri x.1 x.2
theorem VV {a_1:Condition}{b_2:Condition}{r}(h:ri a_1 b_2=some r):zw.F (BT (a_1,b_2))=some (BU r):=aP (bp ba (aQ ba)) h
noncomputable def VX :=aJ Tryz.f95
noncomputable def Ox :=cV [(136,qd)]
def VW (x:Condition×Condition)(r:Bool):St→Prop:=QF Ox Tryz.f95 [false,false] (BT x) (BU r)
theorem Ri (a_1:Condition)(b_2:Condition)(r:Bool)(h:ri a_1 b_2=some r):bP Ox Tryz.f95 [false,false] 0 (BT (a_1,b_2)) (BU r):=by
 show Run _ _ (VW (a_1,b_2) r) [.code VX] _
 refine rI 12 [(0,aa a_1),(1,aa b_2)] [] 1 ?_
 unfold ri at h
 refine ck 7 [2,3] [] [1,17] [] [.hp 1 0 [] 4 0 0,.hp 17 0 [] 4 0 0] [some ⟨0,4,[aa a_1]⟩,some ⟨0,4,[aa b_2]⟩] 49 (by kernel_rfl) ?_
 refine fp [0,0,3,0,15,31,63,127] rfl (by decide +kernel) ?_
 refine dq [] [] (.hs 49 0 [] 1 0 0) rfl (bV rfl (fb (f:=I) (xs:=[]) (z:=str ([])) (es:=[]) (ws:=[]) rfl rfl rfl (by decide) rfl (bw rfl) rfl)) ?_
 refine dq [1] [] (aa a_1) rfl (cQ rfl rfl) ?_
 obtain⟨r3,hr3,h⟩:=bS h
 refine dq [49] [49] (.hs 81 0 [] 1 0 (r3.map str).length) rfl (aV rfl rfl (bq rfl rfl rfl (fk (eY rfl (dD (path:=[]) (m:=0) (es2:=[]) rfl rfl aG rfl)) (bi (bI rfl) cu)) (lH hr3) (.inr rfl) (fP rfl rfl rfl eq cG) rfl rfl rfl)) ?_ (dW rfl rfl rfl rfl (fk (eY rfl (dD (path:=[]) (m:=0) (es2:=[]) rfl rfl aG rfl)) (bi (bI rfl) cu)) (lH hr3) (.inr rfl) rfl)
 refine dq [17] [] (aa b_2) rfl (cQ rfl rfl) ?_
 obtain⟨r4,hr4,h⟩:=bS h
 refine dq [81] [81] (.hs 113 0 [] 1 0 (r4.map str).length) rfl (aV rfl rfl (bq rfl rfl rfl (fk (eY rfl (dD (path:=[]) rfl rfl aG rfl)) (bi (bI rfl) cu)) (lH hr4) (.inr rfl) (fP rfl rfl rfl eq cG) rfl rfl rfl)) ?_ (dW rfl rfl rfl rfl (fk (eY rfl (dD (path:=[]) rfl rfl aG rfl)) (bi (bI rfl) cu)) (lH hr4) (.inr rfl) rfl)
 refine dq [113] [] (I (len r4)) rfl (bG rfl rfl rfl (gL (f:=str) (xs:=r4) rfl rfl)) ?_
 refine dk 2 [4,11] [B (decide ((len r4)≤10)),B (decide ((len r4)≤10))] ?_
 refine de 177 rfl rfl ?_
 obtain rfl:=sI h
 exact rP [B (decide ((len r4)≤10))]
theorem Oy {G:cM}:cH G 95 zw:=gT 2 0 (aR vl bU) cW Tryz.func95 (fun a r h=>Ri a.1 a.2 r h)
def B1:((List Int)×Int)→List V:=cA (po 1 I) (oA I)
def B2 (r:(List Int)):V×List V:=(.usl 1 (r.map I),[.dead])
noncomputable def tg :=bx [true,false] B1 B2 fun x=>uT x.1 x.2
theorem HV {l_8:List Int}{n_9:Int}{r}(h:uT l_8 n_9=some r):tg.F (B1 (l_8,n_9))=some (B2 r):=aP (bp (fW cf) (aQ cf)) h
noncomputable def pY :=aJ Tryz.f171
noncomputable def uU :=cV []
def sh (x:(List Int)×Int)(r:(List Int)):St→Prop:=QF uU Tryz.f171 [true,false] (B1 x) (B2 r)
theorem Kg (l_8:List Int)(n_9:Int):cJ uU 1 (sh (l_8,n_9)) (cL (cL (cL (cR (cR pY))))) 0 (si l_8 n_9) (fun u=>(sO 45 [(0,.hs 2 0 [] 1 0 (u.2.2.map I).length),(1,I u.1),(5,I u.2.1)] [none,some ⟨0,1,u.2.2.map I⟩] 3)) fun x3=>(sO 45 [(0,.hs 2 0 [] 1 0 (l_8.map I).length),(1,I n_9),(5,I x3)] [none,some ⟨0,1,l_8.map I⟩] 3):=eF (xG l_8 n_9) fun {Q K} hK self ih x3 y h hr hn=>by
 unfold kA at h
 refine cq 5 [6,7] [I x3,.hs 2 0 [] 1 0 (l_8.map I).length] 35 ?_
 refine oq 51 (I (len l_8)) rfl (bG rfl rfl rfl (gL (f:=I) (xs:=l_8) rfl rfl)) ?_
 refine cq 2 [10] [B (decide (x3<(len l_8)))] 83 ?_
 obtain⟨y4,hy4,hy41,hy42⟩:=bL h
 have j4:∀u4,y4=.inr u4→Run uU 1 Q (.code (cR (cL (cL (cL (cL (cR (cR pY)))))))::.code (cR (cL (cL (cL (cR (cR pY))))))::.lp (cL (cL (cL (cR (cR pY)))))::.blk 0::K) (sO 45 [(0,.hs 2 0 [] 1 0 (l_8.map I).length),(1,I n_9),(5,I x3),(17,B u4)] [none,some ⟨0,1,l_8.map I⟩] 3):=by
  intro u4 hu
  replace h:=hy42 u4 hu
  refine sq h ?_ ?_<;>intro h
  ·refine aq 1 ?_
   refine cq 7 [5] [I (aj (x3+1))] 51 ?_
   refine dF ?_
   exact rg [0,1,5] [52,2] (ih _ _ h hr hn :)
  ·refine aq 1 ?_
   exact rg [0,1,5] [4,2] (hn _ (ap h) :) (hk:=hK)
 have r4:∀r',y4=.inl r'→∀st,sh (l_8,n_9) r' st→Q st:=fun r' e st hq=>hr r' (hy41 r' e) st hq
 replace h:=hy4
 refine sp 10 h rfl ?_ ?_<;>intro h
 ·refine cq 2 [11,12] [.hs 2 0 [] 1 0 (l_8.map I).length,I x3] 115 ?_
  obtain⟨e5,he5,h⟩:=bS h
  refine oy 131 (.hp 2 0 [] 1 (0+Int.toNat x3) 0) rfl (an rfl rfl rfl (dG (f:=I) (xs:=l_8) rfl rfl rfl he5)) ?_
  refine oy 147 (I e5) rfl (cQ rfl (iH (path:=[]) rfl rfl rfl aG (cX (f:=I) (xs:=l_8) he5) rfl rfl rfl)) ?_
  refine cq 4 [17] [B (decide (e5<n_9))] 195 ?_
  exact rg [0,1,5,17] [196,2] (j4 _ (ap h) :)
 ·refine cq 8 [17] [B false] 195 ?_
  exact rg [0,1,5,17] [196,2] (j4 _ (ap h) :)
theorem Rl (l_8:List Int)(n_9:Int)(r:(List Int))(h:uT l_8 n_9=some r):bP uU Tryz.f171 [true,false] 1 (B1 (l_8,n_9)) (B2 r):=by
 show Run _ _ (sh (l_8,n_9) r) [.code pY] _
 refine rI 45 [(0,.hs 1 0 [] 1 0 (l_8.map I).length),(1,I n_9)] [(1,some ⟨0,1,l_8.map I⟩)] 2 ?_
 unfold uT at h
 refine cq 10 [5] [I (0)] 34 ?_
 obtain⟨y6,hy6,hy61,hy62⟩:=bJ h
 refine b7 rfl ?_
 refine rg [0,1,5] [35,1] (Kg l_8 n_9 rfl 0 _ hy6 (fun r' e st hq=>by rw[hy61 r' e] at hq;exact hq) fun u6 hu=>?_)
 replace h:=hy62 u6 hu
 refine cq 5 [20,21] [I u6.2.1,.hs 2 0 [] 1 0 (u6.2.2.map I).length] 35 ?_
 refine oq 51 (I (len u6.2.2)) rfl (bG rfl rfl rfl (gL (f:=I) (xs:=u6.2.2) rfl rfl)) ?_
 refine cq 2 [24] [B (decide (u6.2.1<(len u6.2.2)))] 83 ?_
 obtain⟨y7,hy7,hy71,hy72⟩:=bJ h
 have j7:∀u7,y7=.inr u7→Run uU 1 (sh (l_8,n_9) r) (.code (cR (cL (cR (cR (cR pY)))))::.code (cR (cR (cR (cR pY))))::[]) (sO 45 [(0,.hs 2 0 [] 1 0 (u6.2.2.map I).length),(1,I u6.1),(5,I u6.2.1),(31,B u7)] [none,some ⟨0,1,u6.2.2.map I⟩] 3):=by
  intro u7 hu
  replace h:=hy72 u7 hu
  refine sq h ?_ ?_<;>intro h
  ·refine cq 5 [4] [.hs 2 0 [] 1 0 (u6.2.2.map I).length] 35 ?_
   obtain rfl:=sI h
   exact bX rfl ⟨_,fin (vs:=[.hs 2 0 [] 1 0 (u6.2.2.map I).length]) rfl (d8 (eZ rfl (dm rfl rfl)) dX) rfl (kb rfl (iW rfl) (d9 eC)),mb ez⟩
  ·refine aq 1 ?_
   refine aq 1 ?_
   refine fp [0,0,0,6,15,0,32,127,0,0,768,2047,4095] rfl (by decide +kernel) ?_
   refine dq [] [] (.hs 3 0 [] 1 0 0) rfl (bV rfl (fb (f:=I) (xs:=[]) (z:=I (0)) (es:=[]) (ws:=[]) rfl rfl rfl (by decide) rfl (bw rfl) rfl)) ?_
   refine dk 2 [35,34] [I u6.2.1,.hs 2 0 [] 1 0 (u6.2.2.map I).length] ?_
   obtain⟨s8,hs8,h⟩:=bS h
   refine dq [2] [] (.hs 2 0 [] 1 (0+Int.toNat (0)) (Int.toNat u6.2.1 - Int.toNat (0))) rfl (hY rfl rfl rfl rfl (pc (f:=I) (xs:=u6.2.2) rfl rfl rfl rfl rfl hs8)) ?_
   obtain⟨p9,hp9,h⟩:=bS h
   obtain⟨a10,ha10,h⟩:=bS h
   refine dq [3,2] [3] (.hs 67 0 [] 1 0 (a10.map I).length) rfl (fQ rfl rfl rfl rfl rfl (iA (path:=[]) (es0:=[]) (f:=I) (xs:=([]:List Int)) (ys:=p9) rfl rfl (xd (path:=[]) (f:=I) (xs:=u6.2.2) rfl rfl aG hp9 vE) rfl rfl rfl rfl rfl (by decide) nY ha10 rfl lF)) ?_ (ui rfl (tA (path:=[]) (f:=I) (xs:=u6.2.2) rfl rfl aG vE rfl))
   refine dk 1 [38] [I u6.1] ?_
   refine dq [] [] (.hs 99 0 [] 1 0 1) rfl (bV rfl (fb (f:=I) (xs:=[]) (z:=I (0)) (es:=[I u6.1]) (ws:=[I u6.1]) rfl rfl rfl (by decide) rfl (bw rfl) rfl)) ?_
   obtain⟨a11,ha11,h⟩:=bS h
   refine dq [67,99] [67] (.hs 115 0 [] 1 0 (a11.map I).length) rfl (fQ rfl rfl rfl rfl rfl (iA (path:=[]) (f:=I) (xs:=a10) (ys:=[u6.1]) rfl rfl (jZ rfl rfl rfl) rfl rfl rfl aG rfl (by decide) nY ha11 rfl lF)) ?_ (ui rfl (tA (path:=[]) (f:=I) (xs:=[u6.1]) rfl rfl aG vE rfl))
   refine dk 2 [42,41] [I u6.2.1,.hs 2 0 [] 1 0 (u6.2.2.map I).length] ?_
   obtain⟨s12,hs12,h⟩:=bS h
   refine dq [2] [] (.hs 2 0 [] 1 (0+Int.toNat u6.2.1) (Int.toNat (len u6.2.2) - Int.toNat u6.2.1)) rfl (hY rfl rfl rfl rfl (pc (f:=I) (xs:=u6.2.2) rfl rfl rfl rfl (Ms rfl) hs12)) ?_
   obtain⟨p13,hp13,h⟩:=bS h
   obtain⟨a14,ha14,h⟩:=bS h
   refine dq [115,2] [115] (.hs 179 0 [] 1 0 (a14.map I).length) rfl (fQ rfl rfl rfl rfl rfl (iA (path:=[]) (f:=I) (xs:=a11) (ys:=p13) rfl rfl (xd (path:=[]) (f:=I) (xs:=u6.2.2) rfl rfl aG hp13 vE) rfl rfl rfl aG rfl (by decide) nY ha14 rfl lF)) ?_ (ui rfl (tA (path:=[]) (f:=I) (xs:=u6.2.2) rfl rfl aG vE rfl))
   refine dk 1 [4] [.hs 179 0 [] 1 0 (a14.map I).length] ?_
   refine de 211 rfl rfl ?_
   obtain rfl:=sI h
   exact bX rfl ⟨_,fin (vs:=[.hs 179 0 [] 1 0 (a14.map I).length]) rfl (d8 (eZ rfl (dm rfl rfl)) dX) rfl (kb rfl (iW rfl) (d9 eC)),mb ez⟩
 have r7:∀r',y7=.inl r'→∀st,sh (l_8,n_9) r' st→(sh (l_8,n_9) r) st:=fun r' e st hq=>by rw[hy71 r' e] at hq;exact hq
 replace h:=hy7
 refine sp 24 h rfl ?_ ?_<;>intro h
 ·refine cq 2 [25,26] [.hs 2 0 [] 1 0 (u6.2.2.map I).length,I u6.2.1] 115 ?_
  obtain⟨e15,he15,h⟩:=bS h
  refine oy 131 (.hp 2 0 [] 1 (0+Int.toNat u6.2.1) 0) rfl (an rfl rfl rfl (dG (f:=I) (xs:=u6.2.2) rfl rfl rfl he15)) ?_
  refine oy 147 (I e15) rfl (cQ rfl (iH (path:=[]) rfl rfl rfl aG (cX (f:=I) (xs:=u6.2.2) he15) rfl rfl rfl)) ?_
  refine cq 4 [31] [B (e15==u6.1)] 195 ?_
  exact rg [0,1,5,31] [196,2] (j7 _ (ap h) :)
 ·refine cq 8 [31] [B false] 195 ?_
  exact rg [0,1,5,31] [196,2] (j7 _ (ap h) :)
theorem Fn {G:cM}:cH G 171 tg:=gT 2 1 bU cW Tryz.func171 (fun a r h=>Rl a.1 a.2 r h)
def uW:((List Int)×Condition)→List V:=cA (po 1 I) (oA aD)
def uX (r:(List Int)):V×List V:=(.usl 1 (r.map I),[.dead])
noncomputable def uY (b9:((List Int)×Condition)→Option (List Int)):Ent:=bx [true,false] uW uX b9
theorem KS (b9:((List Int)×Condition)→Option (List Int)){x}{r}(h:b9 x=some r):(uY b9).F (uW x)=some (uX r):=aP (bp (fW cf) (aQ ba)) h
noncomputable def zC :=uY (aA ia)
theorem B6 {l_4:List Int}{c_5:Condition}{r}(h:uV l_4 c_5=some r):zC.F (uW (l_4,c_5))=some (uX r):=KS (aA ia) h
noncomputable def OI :=aJ Tryz.f172
noncomputable def HW (b9:((List Int)×Condition)→Option (List Int)):Env:=cV [(171,tg),(172,(uY b9))]
def OH (b9:((List Int)×Condition)→Option (List Int))(x:(List Int)×Condition)(r:(List Int)):St→Prop:=QF (HW b9) Tryz.f172 [true,false] (uW x) (uX r)
theorem Kh (b9:((List Int)×Condition)→Option (List Int))(l_4:List Int)(c_5:Condition):cJ (HW b9) 1 (OH b9 (l_4,c_5)) (cL (cL (cR (cL (cR (cR OI)))))) 0 (iY b9 l_4 c_5) (fun u=>(sO 28 [(0,.hs 2 0 [] 1 0 (u.map I).length)] [none,some ⟨0,1,u.map I⟩] 3)) fun x4=>(sO 28 [(0,.hs 2 0 [] 1 0 (x4.2.map I).length),(3,.hp 3 0 [] 4 0 0),(5,I x4.1)] [none,some ⟨0,1,x4.2.map I⟩,some ⟨0,4,[aa c_5]⟩] 4):=eF (xH b9 l_4 c_5) fun {Q K} hK self ih x4 y h hr hn=>by
 unfold iy at h
 refine cq 6 [13,15] [I x4.1,.isl false (c_5.Parts.map ar)] 52 ?_
 refine oq 68 (I (len c_5.Parts)) rfl (bG rfl rfl rfl (cF rfl)) ?_
 refine cq 2 [17] [B (decide (x4.1<(len c_5.Parts)))] 84 ?_
 refine sq h ?_ ?_<;>intro h
 ·refine aq 1 ?_
  refine cq 7 [20,22,23] [.hs 2 0 [] 1 0 (x4.2.map I).length,.isl false (c_5.Parts.map ar),I x4.1] 148 ?_
  obtain⟨e5,he5,h⟩:=bS h
  refine oq 164 (.iptr (aa e5) 0) rfl (an rfl rfl rfl (bC rfl rfl (aY e5) rfl he5)) ?_
  refine cq 1 [25] [aa e5] 180 ?_
  obtain⟨r6,hr6,h⟩:=bS h
  refine oq 196 (.hs 180 0 [] 1 0 (r6.map I).length) rfl (aV rfl rfl (bq rfl rfl rfl (fk (eY rfl (dD (path:=[]) rfl rfl aG rfl)) (bi (bI rfl) cu)) (KS b9 hr6) (.inr rfl) (fP rfl rfl rfl eq cG) rfl rfl rfl)) ?_
  refine cq 8 [0,5] [.hs 180 0 [] 1 0 (r6.map I).length,I (aj (x4.1+1))] 260 ?_
  refine dF ?_
  exact rg [0,3,5] [261,180,3] (ih _ _ h hr hn :)
 ·refine aq 1 ?_
  exact rg [0] [85,2] (hn _ (ap h) :) (hk:=hK)
theorem Ro (b9:((List Int)×Condition)→Option (List Int))(l_4:List Int)(c_5:Condition)(r:(List Int))(h:sj b9 l_4 c_5=some r):bP (HW b9) Tryz.f172 [true,false] 1 (uW (l_4,c_5)) (uX r):=by
 show Run _ _ (OH b9 (l_4,c_5) r) [.code OI] _
 refine rI 28 [(0,.hs 1 0 [] 1 0 (l_4.map I).length),(1,aa c_5)] [(1,some ⟨0,1,l_4.map I⟩)] 2 ?_
 unfold sj at h
 refine ck 12 [3,8] [] [2] [] [.hp 2 0 [] 4 0 0,B (c_5.Op==3)] [some ⟨0,4,[aa c_5]⟩] 82 (by kernel_rfl) ?_
 refine sq h ?_ ?_<;>intro h
 ·refine cq 5 [9,11] [.hs 1 0 [] 1 0 (l_4.map I).length,I c_5.Day] 130 ?_
  obtain⟨r3,hr3,h⟩:=bS h
  refine oq 146 (.hs 130 0 [] 1 0 (r3.map I).length) rfl (aV rfl rfl (bq rfl rfl rfl (fk (eY rfl (dD (path:=[]) rfl rfl aG rfl)) (bi (bI rfl) cu)) (HV hr3) (.inr rfl) (fP rfl rfl rfl eq cG) rfl rfl rfl)) ?_
  refine cq 2 [4] [.hs 130 0 [] 1 0 (r3.map I).length] 162 ?_
  obtain rfl:=sI h
  exact bX rfl ⟨_,fin (vs:=[.hs 130 0 [] 1 0 (r3.map I).length]) rfl (d8 (eZ rfl (dm rfl rfl)) dX) rfl (kb rfl (iW rfl) (d9 eC)),mb ez⟩
 ·refine aq 1 ?_
  refine cq 6 [5] [I (0)] 98 ?_
  obtain⟨y7,hy7,hy71,hy72⟩:=bJ h
  refine b7 rfl ?_
  refine rg [0,3,5] [99,1,2] (Kh b9 l_4 c_5 rfl (0,l_4) _ hy7 (fun r' e st hq=>by rw[hy71 r' e] at hq;exact hq) fun u7 hu=>?_)
  replace h:=hy72 u7 hu
  refine cq 5 [4] [.hs 2 0 [] 1 0 (u7.map I).length] 35 ?_
  obtain rfl:=sI h
  exact bX rfl ⟨_,fin (vs:=[.hs 2 0 [] 1 0 (u7.map I).length]) rfl (d8 (eZ rfl (dm rfl rfl)) dX) rfl (kb rfl (iW rfl) (d9 eC)),mb ez⟩
theorem OJ {G:cM}:cH G 172 zC:=gp fun b9 g_Ffcl=>gT 2 1 (aR Fn (aR g_Ffcl bU)) cW Tryz.func172 (fun a r h=>Ro b9 a.1 a.2 r h)
def Cy:((List ac)×Int)→List V:=cA (lc str) (oA I)
def CA (r:(List ac)):V×List V:=(.usl 1 (r.map str),[])
noncomputable def zM :=bx [false,false] Cy CA fun x=>rm x.1 x.2
theorem Wa {du:List ac}{ec:Int}{r}(h:rm du ec=some r):zM.F (Cy (du,ec))=some (CA r):=aP (bp (d6 bH) (aQ cf)) h
noncomputable def O2 :=aJ Tryz.f173
noncomputable abbrev Ez :=cL (cL (cR (cL (cR (cR O2)))))
noncomputable def Cz :=cV []
def H6 (x:(List ac)×Int)(r:(List ac)):St→Prop:=QF Cz Tryz.f173 [false,false] (Cy x) (CA r)
theorem Kq (du:List ac)(ec:Int):cJ Cz 0 (H6 (du,ec)) Ez 0 (pR du ec) (fun u=>(sT 28 [(5,.hs 1 0 [] 1 0 (u.map str).length)] [⟨0,1,u.map str⟩] 2)) fun x3=>(sT 28 [(0,.isl false (du.map str)),(1,I ec),(5,.hs 1 0 [] 1 0 (x3.2.map str).length),(6,I x3.1)] [⟨0,1,x3.2.map str⟩] 2):=eF (xQ du ec) fun {Q K} hK self ih x3 y h hr hn=>by
 unfold kH at h
 refine cq 5 [8,9] [I x3.1,.isl false (du.map str)] 34 ?_
 refine oq 50 (I (len du)) rfl (bG rfl rfl rfl (cF rfl)) ?_
 refine cq 2 [11] [B (decide (x3.1<(len du)))] 66 ?_
 refine sq h ?_ ?_<;>intro h
 ·refine aq 1 ?_
  refine cq 7 [14,16] [I ec,.int .u64 (IntKind.u64.wrap x3.1)] 114 ?_
  obtain⟨q4,hq4,h⟩:=bS h
  refine oq 130 (I q4) rfl (wK rfl rfl (TC hq4)) ?_
  refine cq 3 [19] [B ((II .i64 q4 1)==1)] 162 ?_
  obtain⟨y5,hy5,hy51,hy52⟩:=bL h
  have j5:∀u5,y5=.inr u5→Run Cz 0 Q (.blk 1::.code (cR (cR Ez))::.lp Ez::.blk 0::K) (sT 28 [(0,.isl false (du.map str)),(1,I ec),(5,.hs 1 0 [] 1 0 (u5.map str).length),(6,I x3.1)] [⟨0,1,u5.map str⟩] 2):=by
   intro u5 hu
   replace h:=hy52 u5 hu
   refine cq 6 [6] [I (aj (x3.1+1))] 50 ?_
   refine dF ?_
   exact rf [0,1,5,6] [1] (ih _ _ h hr hn :)
  have r5:∀r',y5=.inl r'→∀st,H6 (du,ec) r' st→Q st:=fun r' e st hq=>hr r' (hy51 r' e) st hq
  replace h:=hy5
  refine sq h ?_ ?_<;>intro h
  ·refine cq 4 [20,21,22] [.hs 1 0 [] 1 0 (x3.2.map str).length,.isl false (du.map str),I x3.1] 210 ?_
   obtain⟨e6,he6,h⟩:=bS h
   refine oq 226 (.iptr (str e6) 0) rfl (an rfl rfl rfl (bC rfl rfl rfl rfl he6)) ?_
   refine cq 1 [24] [str e6] 242 ?_
   refine oq 258 (.hs 242 0 [] 1 0 1) rfl (bV rfl (fb (f:=I) (xs:=[]) (z:=str ([])) (es:=[str e6]) (ws:=[str e6]) rfl rfl rfl (by decide) rfl (bw rfl) rfl)) ?_
   obtain⟨a7,ha7,h⟩:=bS h
   refine oq 274 (.hs 258 0 [] 1 0 (a7.map str).length) rfl (fQ rfl rfl rfl rfl rfl (iA (path:=[]) (f:=str) (xs:=x3.2) (ys:=[e6]) rfl rfl (jZ rfl rfl rfl) rfl rfl rfl aG rfl (by decide) iL ha7 rfl lF)) ?_
   refine cq 2 [5] [.hs 258 0 [] 1 0 (a7.map str).length] 290 ?_
   exact rf [0,1,5,6] [258] (j5 _ (ap h) :)
  ·refine aq 1 ?_
   exact rf [0,1,5,6] [1] (j5 _ (ap h) :)
 ·refine aq 1 ?_
  exact rf [5] [1] (hn _ (ap h) :) (hk:=hK)
theorem RF (du:List ac)(ec:Int)(r:(List ac))(h:rm du ec=some r):bP Cz Tryz.f173 [false,false] 0 (Cy (du,ec)) (CA r):=by
 show Run _ _ (H6 (du,ec) r) [.code O2] _
 refine rI 28 [(0,.isl false (du.map str)),(1,I ec)] [] 1 ?_
 unfold rm at h
 refine cq 6 [] [] 17 ?_
 refine oq 33 (.hs 17 0 [] 1 0 0) rfl (bV rfl (fb (f:=I) (xs:=[]) (z:=str ([])) (es:=[]) (ws:=[]) rfl rfl rfl (by decide) rfl (bw rfl) rfl)) ?_
 refine cq 8 [5,6] [.hs 17 0 [] 1 0 0,I (0)] 65 ?_
 obtain⟨y8,hy8,hy81,hy82⟩:=bJ h
 refine b7 rfl ?_
 refine rf [0,1,5,6] [17] (Kq du ec rfl (0,[]) _ hy8 (fun r' e st hq=>by rw[hy81 r' e] at hq;exact hq) fun u8 hu=>?_)
 replace h:=hy82 u8 hu
 refine cq 5 [4] [.hs 1 0 [] 1 0 (u8.map str).length] 34 ?_
 obtain rfl:=sI h
 exact bX rfl ⟨_,fin (vs:=[.hs 1 0 [] 1 0 (u8.map str).length]) rfl (d8 (eZ rfl (dm rfl rfl)) dX) rfl (d9 (d9 eC)),ez⟩
theorem O3 {G:cM}:cH G 173 zM:=gT 2 0 bU cW Tryz.func173 (fun a r h=>RF a.1 a.2 r h)
def vc:(Condition×(List ac)×Int)→List V:=cA aD (cA (lc str) (oA I))
def vd (r:Bool):V×List V:=(B r,[])
noncomputable def ve (cj:(Condition×(List ac)×Int)→Option Bool):Ent:=bx [false,false,false] vc vd cj
theorem pQ (cj:(Condition×(List ac)×Int)→Option Bool){x}{r}(h:cj x=some r):(ve cj).F (vc x)=some (vd r):=aP (bp ba (bp (d6 bH) (aQ cf))) h
noncomputable def zI :=ve (aA i7)
theorem Cg {c_1:Condition}{bf:List ac}{bT:Int}{r}(h:tj c_1 bf bT=some r):zI.F (vc (c_1,bf,bT))=some (vd r):=pQ (aA i7) h
noncomputable def Ci :=aJ Tryz.f149
noncomputable def Cf (cj:(Condition×(List ac)×Int)→Option Bool):Env:=cV [(123,th),(149,(ve cj))]
def qa (cj:(Condition×(List ac)×Int)→Option Bool)(x:Condition×(List ac)×Int)(r:Bool):St→Prop:=QF (Cf cj) Tryz.f149 [false,false,false] (vc x) (vd r)
theorem Rv (cj:(Condition×(List ac)×Int)→Option Bool)(c_1:Condition)(bf:List ac)(bT:Int)(r:Bool)(h:sn cj c_1 bf bT=some r):bP (Cf cj) Tryz.f149 [false,false,false] 0 (vc (c_1,bf,bT)) (vd r):=by
 show Run _ _ (qa cj (c_1,bf,bT) r) [.code Ci] _
 refine rI 67 [(0,aa c_1),(1,.isl false (bf.map str)),(2,I bT)] [] 1 ?_
 unfold sn at h
 refine ck 17 [3,8,9] [] [1] [] [.hp 1 0 [] 4 0 0,I c_1.Op,B (c_1.Op==1)] [some ⟨0,4,[aa c_1]⟩] 97 (by kernel_rfl) ?_
 refine sq h ?_ ?_<;>intro h
 ·refine cq 4 [6] [B true] 113 ?_
  obtain rfl:=sI h
  exact rP [B true]
 ·refine cq 5 [11] [B (c_1.Op==2)] 129 ?_
  refine sq h ?_ ?_<;>intro h
  ·refine cq 5 [13,15] [.isl false (bf.map str),str c_1.Name] 177 ?_
   obtain⟨r4,hr4,h⟩:=bS h
   refine oq 193 (B r4) rfl (cP (H0 hr4)) ?_
   refine cq 2 [6] [B r4] 209 ?_
   obtain rfl:=sI h
   exact rP [B r4]
  ·refine cq 5 [17] [B (c_1.Op==3)] 161 ?_
   refine sq h ?_ ?_<;>intro h
   ·refine cq 8 [6] [B (decide (bT≥c_1.Day))] 241 ?_
    obtain rfl:=sI h
    exact rP [B (decide (bT≥c_1.Day))]
   ·refine cq 5 [23] [B (c_1.Op==4)] 193 ?_
    refine sq h ?_ ?_<;>intro h
    ·refine cq 4 [26] [.isl false (c_1.Parts.map ar)] 225 ?_
     obtain⟨e5,he5,h⟩:=bS h
     refine oq 241 (.iptr (aa e5) 0) rfl (an rfl rfl rfl (bC rfl rfl (aY e5) rfl he5)) ?_
     refine cq 3 [28,29,30] [aa e5,.isl false (bf.map str),I bT] 289 ?_
     obtain⟨r6,hr6,h⟩:=bS h
     refine oq 305 (B r6) rfl (aV rfl rfl (bq rfl rfl rfl (bi (bI rfl) (bi (bI rfl) (bi (bI rfl) cu))) (pQ cj hr6) (.inr rfl) cG rfl rfl rfl)) ?_
     refine cq 3 [6] [B (!r6)] 337 ?_
     obtain rfl:=sI h
     exact rP [B (!r6)]
    ·refine cq 5 [33] [B (c_1.Op==5)] 225 ?_
     refine sq h ?_ ?_<;>intro h
     ·refine cq 4 [36] [.isl false (c_1.Parts.map ar)] 257 ?_
      obtain⟨e7,he7,h⟩:=bS h
      refine oq 273 (.iptr (aa e7) 0) rfl (an rfl rfl rfl (bC rfl rfl (aY e7) rfl he7)) ?_
      refine cq 3 [38,39,40] [aa e7,.isl false (bf.map str),I bT] 321 ?_
      obtain⟨r8,hr8,h⟩:=bS h
      refine oq 337 (B r8) rfl (aV rfl rfl (bq rfl rfl rfl (bi (bI rfl) (bi (bI rfl) (bi (bI rfl) cu))) (pQ cj hr8) (.inr rfl) cG rfl rfl rfl)) ?_
      refine cq 1 [42] [B r8] 353 ?_
      obtain⟨y9,hy9,hy91,hy92⟩:=bJ h
      have j9:∀u9,y9=.inr u9→Run (Cf cj) 0 (qa cj (c_1,bf,bT) r) (.code (cR (cL (cR (cR (cR (cR (cR (cR (cR (cR (cR (cL (cR (cL (cR Ci)))))))))))))))::.blk 0::.code (cR (cR Ci))::[]) (sT 67 [(6,B u9)] [] 1):=by
       intro u9 hu
       replace h:=hy92 u9 hu
       obtain rfl:=sI h
       exact rP [B u9]
      have r9:∀r',y9=.inl r'→∀st,qa cj (c_1,bf,bT) r' st→(qa cj (c_1,bf,bT) r) st:=fun r' e st hq=>by rw[hy91 r' e] at hq;exact hq
      replace h:=hy9
      refine sp 42 h rfl ?_ ?_<;>intro h
      ·refine cq 2 [44] [.isl false (c_1.Parts.map ar)] 385 ?_
       obtain⟨e10,he10,h⟩:=bS h
       refine oy 401 (.iptr (aa e10) 0) rfl (an rfl rfl rfl (bC rfl rfl (aY e10) rfl he10)) ?_
       refine cq 3 [46,47,48] [aa e10,.isl false (bf.map str),I bT] 449 ?_
       obtain⟨r11,hr11,h⟩:=bS h
       refine oy 465 (B r11) rfl (aV rfl rfl (bq rfl rfl rfl (bi (bI rfl) (bi (bI rfl) (bi (bI rfl) cu))) (pQ cj hr11) (.inr rfl) cG rfl rfl rfl)) ?_
       refine cq 3 [6] [B r11] 497 ?_
       exact rf [6] [] (j9 _ (ap h) :)
      ·refine cq 10 [6] [B false] 497 ?_
       exact rf [6] [] (j9 _ (ap h) :)
     ·refine aq 1 ?_
      refine cq 5 [52] [.isl false (c_1.Parts.map ar)] 257 ?_
      obtain⟨e12,he12,h⟩:=bS h
      refine oq 273 (.iptr (aa e12) 0) rfl (an rfl rfl rfl (bC rfl rfl (aY e12) rfl he12)) ?_
      refine cq 3 [54,55,56] [aa e12,.isl false (bf.map str),I bT] 321 ?_
      obtain⟨r13,hr13,h⟩:=bS h
      refine oq 337 (B r13) rfl (aV rfl rfl (bq rfl rfl rfl (bi (bI rfl) (bi (bI rfl) (bi (bI rfl) cu))) (pQ cj hr13) (.inr rfl) cG rfl rfl rfl)) ?_
      refine cq 1 [58] [B r13] 353 ?_
      obtain⟨y14,hy14,hy141,hy142⟩:=bJ h
      have j14:∀u14,y14=.inr u14→Run (Cf cj) 0 (qa cj (c_1,bf,bT) r) (.code (cR (cR (cR Ci)))::[]) (sT 67 [(6,B u14)] [] 1):=by
       intro u14 hu
       replace h:=hy142 u14 hu
       obtain rfl:=sI h
       exact rP [B u14]
      have r14:∀r',y14=.inl r'→∀st,qa cj (c_1,bf,bT) r' st→(qa cj (c_1,bf,bT) r) st:=fun r' e st hq=>by rw[hy141 r' e] at hq;exact hq
      replace h:=hy14
      refine sp 58 h rfl ?_ ?_<;>intro h
      ·refine cq 10 [6] [B true] 497 ?_
       exact rf [6] [] (j14 _ (ap h) :)
      ·refine cq 2 [60] [.isl false (c_1.Parts.map ar)] 385 ?_
       obtain⟨e15,he15,h⟩:=bS h
       refine oy 401 (.iptr (aa e15) 0) rfl (an rfl rfl rfl (bC rfl rfl (aY e15) rfl he15)) ?_
       refine cq 3 [62,63,64] [aa e15,.isl false (bf.map str),I bT] 449 ?_
       obtain⟨r16,hr16,h⟩:=bS h
       refine oy 465 (B r16) rfl (aV rfl rfl (bq rfl rfl rfl (bi (bI rfl) (bi (bI rfl) (bi (bI rfl) cu))) (pQ cj hr16) (.inr rfl) cG rfl rfl rfl)) ?_
       refine cq 3 [6] [B r16] 497 ?_
       exact rf [6] [] (j14 _ (ap h) :)
theorem OU {G:cM}:cH G 149 zI:=gp fun cj g_Ffcq=>gT 3 0 (aR Fo (aR g_Ffcq bU)) cW Tryz.func149 (fun a r h=>Rv cj a.1 a.2.1 a.2.2 r h)
def Cj:(Condition×Condition)→List V:=cA aD (oA aD)
def Cl (r:Bool):V×List V:=(B r,[])
noncomputable def zJ :=bx [false,false] Cj Cl fun x=>Ey x.1 x.2
theorem V7 {a_1:Condition}{b_2:Condition}{r}(h:Ey a_1 b_2=some r):zJ.F (Cj (a_1,b_2))=some (Cl r):=aP (bp ba (aQ ba)) h
noncomputable def H1 :=aJ Tryz.f138
noncomputable abbrev wu :=cL (cL (cR (cR (cL (cL (cR (cL (cL (cR (cL (cR (cR (cR H1)))))))))))))
noncomputable def vf :=cV [(136,qd),(172,zC),(171,tg),(173,zM),(149,zI)]
def Ck (x:Condition×Condition)(r:Bool):St→Prop:=QF vf Tryz.f138 [false,false] (Cj x) (Cl r)
theorem Kl (a_1:Condition)(b_2:Condition)(r7:(List Int))(r10:(List ac))(r4:(List ac))(x8:Int):cJ vf 0 (Ck (a_1,b_2)) wu 2 (mt a_1 b_2 r7 r10 r4 x8) (fun u=>(sT 55 [(2,.hp 1 0 [] 4 0 0),(3,.hp 2 0 [] 4 0 0),(5,.hs 3 0 [] 1 0 (r4.map str).length),(6,.hs 4 0 [] 1 0 (r7.map I).length),(7,I x8)] [⟨0,4,[aa a_1]⟩,⟨0,4,[aa b_2]⟩,⟨0,1,r4.map str⟩,⟨0,1,r7.map I⟩] 5)) fun x11=>(sT 55 [(2,.hp 1 0 [] 4 0 0),(3,.hp 2 0 [] 4 0 0),(5,.hs 3 0 [] 1 0 (r4.map str).length),(6,.hs 4 0 [] 1 0 (r7.map I).length),(7,I x8),(8,.hs 5 0 [] 1 0 (r10.map str).length),(9,I x11)] [⟨0,4,[aa a_1]⟩,⟨0,4,[aa b_2]⟩,⟨0,1,r4.map str⟩,⟨0,1,r7.map I⟩,⟨0,1,r10.map str⟩] 6):=eF (xL a_1 b_2 r7 r10 r4 x8) fun {Q K} hK self ih x11 y h hr hn=>by
 unfold kE at h
 refine cq 5 [32,33] [I x11,.hs 4 0 [] 1 0 (r7.map I).length] 38 ?_
 refine oq 54 (I (len r7)) rfl (bG rfl rfl rfl (gL (f:=I) (xs:=r7) rfl rfl)) ?_
 refine cq 2 [35] [B (decide (x11<(len r7)))] 70 ?_
 refine sq h ?_ ?_<;>intro h
 ·refine aq 1 ?_
  refine aq 3 ?_
  refine fp [0,0,0,0,12,28,63,127,255,255,255,255,3327,7423,16383,32767,65535] rfl (by decide +kernel) ?_
  refine dq [1] [] (aa a_1) rfl (cQ rfl rfl) ?_
  refine dk 3 [41,40,39] [I x11,.hs 4 0 [] 1 0 (r7.map I).length,.hs 5 0 [] 1 0 (r10.map str).length] ?_
  obtain⟨e12,he12,h⟩:=bS h
  refine dq [4] [] (.hp 4 0 [] 1 (0+Int.toNat x11) 0) rfl (an rfl rfl rfl (dG (f:=I) (xs:=r7) rfl rfl rfl he12)) ?_
  refine dq [4] [] (I e12) rfl (cQ rfl (iH (path:=[]) rfl rfl rfl aG (cX (f:=I) (xs:=r7) he12) rfl rfl rfl)) ?_
  obtain⟨r13,hr13,h⟩:=bS h
  refine dq [5] [] (B r13) rfl (aV rfl rfl (bq rfl rfl rfl (bi (bI rfl) (bi (pm rfl rfl (eR (f:=str) (g:=str) (xs:=r10) rfl rfl (dB gw))) (bi (bI rfl) cu))) (Cg hr13) (.inl rfl) cG rfl rfl rfl)) ?_ (dW rfl rfl rfl rfl (bi (bI rfl) (bi (pm rfl rfl (eR (f:=str) (g:=str) (xs:=r10) rfl rfl (dB gw))) (bi (bI rfl) cu))) (Cg hr13) (.inl rfl) rfl)
  refine dk 1 [45] [B r13] ?_
  obtain⟨y14,hy14,hy141,hy142⟩:=bL h
  have j14:∀u14,y14=.inr u14→Run vf 0 Q (.code (cR (cL (cL (cR wu))))::.blk 3::.code (cR (cR wu))::.lp wu::.blk 2::K) (sT 55 [(2,.hp 1 0 [] 4 0 0),(3,.hp 2 0 [] 4 0 0),(5,.hs 3 0 [] 1 0 (r4.map str).length),(6,.hs 4 0 [] 1 0 (r7.map I).length),(7,I x8),(8,.hs 5 0 [] 1 0 (r10.map str).length),(9,I x11),(54,B u14)] [⟨0,4,[aa a_1]⟩,⟨0,4,[aa b_2]⟩,⟨0,1,r4.map str⟩,⟨0,1,r7.map I⟩,⟨0,1,r10.map str⟩] 6):=by
   intro u14 hu
   replace h:=hy142 u14 hu
   refine sq h ?_ ?_<;>intro h
   ·refine cq 4 [4] [B false] 22 ?_
    exact bX rfl (hr _ (ap h) _ (qp [B false]))
   ·refine aq 1 ?_
    refine cq 6 [9] [I (aj (x11+1))] 54 ?_
    refine dF ?_
    exact rf [2,3,5,6,7,8,9] [1,2,3,4,5] (ih _ _ h hr hn :)
  have r14:∀r',y14=.inl r'→∀st,Ck (a_1,b_2) r' st→Q st:=fun r' e st hq=>hr r' (hy141 r' e) st hq
  replace h:=hy14
  refine sp 45 h rfl ?_ ?_<;>intro h
  ·refine dy [2] [] (aa b_2) rfl (cQ rfl rfl) ?_
   refine dk 3 [49,48,47] [I x11,.hs 4 0 [] 1 0 (r7.map I).length,.hs 5 0 [] 1 0 (r10.map str).length] ?_
   obtain⟨e15,he15,h⟩:=bS h
   refine dy [4] [] (.hp 4 0 [] 1 (0+Int.toNat x11) 0) rfl (an rfl rfl rfl (dG (f:=I) (xs:=r7) rfl rfl rfl he15)) ?_
   refine dy [4] [] (I e15) rfl (cQ rfl (iH (path:=[]) rfl rfl rfl aG (cX (f:=I) (xs:=r7) he15) rfl rfl rfl)) ?_
   obtain⟨r16,hr16,h⟩:=bS h
   refine dy [5] [] (B r16) rfl (aV rfl rfl (bq rfl rfl rfl (bi (bI rfl) (bi (pm rfl rfl (eR (f:=str) (g:=str) (xs:=r10) rfl rfl (dB gw))) (bi (bI rfl) cu))) (Cg hr16) (.inl rfl) cG rfl rfl rfl)) ?_ (dW rfl rfl rfl rfl (bi (bI rfl) (bi (pm rfl rfl (eR (f:=str) (g:=str) (xs:=r10) rfl rfl (dB gw))) (bi (bI rfl) cu))) (Cg hr16) (.inl rfl) rfl)
   refine dk 2 [54,53] [B (!r16),B (!r16)] ?_
   refine de 342 rfl rfl ?_
   exact rf [2,3,5,6,7,8,9,54] [1,2,3,4,5] (j14 _ (ap h) :)
  ·refine dk 9 [54,53,52,51,50,49,48,47,46] [B false,.und,.und,.und,.und,.und,.und,.und,.und] ?_
   refine de 342 rfl rfl ?_
   exact rf [2,3,5,6,7,8,9,54] [1,2,3,4,5] (j14 _ (ap h) :)
 ·refine aq 1 ?_
  exact rf [2,3,5,6,7] [1,2,3,4] (hn _ (ap h) :) (hk:=hK)
theorem Kk (a_1:Condition)(b_2:Condition)(r4:(List ac))(r7:(List Int)):cJ vf 0 (Ck (a_1,b_2)) (cL (cL (cR (cL (cR (cR (cR H1))))))) 0 (mr a_1 b_2 r4 r7) (fun u=>(sT 55 [] [] 1)) fun x8=>(sT 55 [(2,.hp 1 0 [] 4 0 0),(3,.hp 2 0 [] 4 0 0),(5,.hs 3 0 [] 1 0 (r4.map str).length),(6,.hs 4 0 [] 1 0 (r7.map I).length),(7,I x8)] [⟨0,4,[aa a_1]⟩,⟨0,4,[aa b_2]⟩,⟨0,1,r4.map str⟩,⟨0,1,r7.map I⟩] 5):=eF (xK a_1 b_2 r4 r7) fun {Q K} hK self ih x8 y h hr hn=>by
 unfold kD at h
 refine cq 5 [21,22] [I x8,.hs 3 0 [] 1 0 (r4.map str).length] 37 ?_
 refine oq 53 (I (len r4)) rfl (bG rfl rfl rfl (gL (f:=str) (xs:=r4) rfl rfl)) ?_
 refine cq 1 [24] [.int .u64 (IntKind.u64.wrap (len r4))] 69 ?_
 obtain⟨q9,hq9,h⟩:=bS h
 refine oq 85 (I q9) rfl (wK rfl rfl (TB hq9)) ?_
 refine cq 2 [26] [B (decide (x8<q9))] 101 ?_
 refine sq h ?_ ?_<;>intro h
 ·refine aq 1 ?_
  refine cq 6 [29,30] [.hs 3 0 [] 1 0 (r4.map str).length,I x8] 133 ?_
  obtain⟨r10,hr10,h⟩:=bS h
  refine oq 149 (.hs 133 0 [] 1 0 (r10.map str).length) rfl (aV rfl rfl (bq rfl rfl rfl (bi (pm rfl rfl (eR (f:=str) (g:=str) (xs:=r4) rfl rfl (dB gw))) (bi (bI rfl) cu)) (Wa hr10) (.inl (by simp[cy,cZ,str,oe (f:=str) S0])) cG rfl rfl rfl)) ?_
  refine cq 7 [8,9] [.hs 133 0 [] 1 0 (r10.map str).length,I (0)] 181 ?_
  obtain⟨y17,hy17,hy171,hy172⟩:=bL h
  refine b7 rfl ?_
  refine rf [2,3,5,6,7,8,9] [1,2,3,4,133] (Kl a_1 b_2 r7 r10 r4 x8 rfl 0 _ hy17 (fun r' e st hq=>hr r' (hy171 r' e) st hq) fun u17 hu=>?_)
  replace h:=hy172 u17 hu
  refine cq 6 [7] [I (aj (x8+1))] 53 ?_
  refine dF ?_
  exact rf [2,3,5,6,7] [1,2,3,4] (ih _ _ h hr hn :)
 ·refine aq 1 ?_
  exact rf [] [] (hn _ (ap h) :) (hk:=hK)
theorem Rx (a_1:Condition)(b_2:Condition)(r:Bool)(h:Ey a_1 b_2=some r):bP vf Tryz.f138 [false,false] 0 (Cj (a_1,b_2)) (Cl r):=by
 show Run _ _ (Ck (a_1,b_2) r) [.code H1] _
 refine rI 55 [(0,aa a_1),(1,aa b_2)] [] 1 ?_
 unfold Ey at h
 refine ck 7 [2,3] [] [1,17] [] [.hp 1 0 [] 4 0 0,.hp 17 0 [] 4 0 0] [some ⟨0,4,[aa a_1]⟩,some ⟨0,4,[aa b_2]⟩] 49 (by kernel_rfl) ?_
 refine fp [0,0,3,0,15,31] rfl (by decide +kernel) ?_
 refine dq [] [] (.hs 49 0 [] 1 0 0) rfl (bV rfl (fb (f:=I) (xs:=[]) (z:=str ([])) (es:=[]) (ws:=[]) rfl rfl rfl (by decide) rfl (bw rfl) rfl)) ?_
 refine dq [1] [] (aa a_1) rfl (cQ rfl rfl) ?_
 obtain⟨r3,hr3,h⟩:=bS h
 refine dq [49] [49] (.hs 81 0 [] 1 0 (r3.map str).length) rfl (aV rfl rfl (bq rfl rfl rfl (fk (eY rfl (dD (path:=[]) (m:=0) (es2:=[]) rfl rfl aG rfl)) (bi (bI rfl) cu)) (lH hr3) (.inr rfl) (fP rfl rfl rfl eq cG) rfl rfl rfl)) ?_ (dW rfl rfl rfl rfl (fk (eY rfl (dD (path:=[]) (m:=0) (es2:=[]) rfl rfl aG rfl)) (bi (bI rfl) cu)) (lH hr3) (.inr rfl) rfl)
 refine dq [17] [] (aa b_2) rfl (cQ rfl rfl) ?_
 obtain⟨r4,hr4,h⟩:=bS h
 refine dq [81] [81] (.hs 113 0 [] 1 0 (r4.map str).length) rfl (aV rfl rfl (bq rfl rfl rfl (fk (eY rfl (dD (path:=[]) rfl rfl aG rfl)) (bi (bI rfl) cu)) (lH hr4) (.inr rfl) (fP rfl rfl rfl eq cG) rfl rfl rfl)) ?_ (dW rfl rfl rfl rfl (fk (eY rfl (dD (path:=[]) rfl rfl aG rfl)) (bi (bI rfl) cu)) (lH hr4) (.inr rfl) rfl)
 refine dk 1 [5] [.hs 113 0 [] 1 0 (r4.map str).length] ?_
 refine de 145 rfl rfl ?_
 refine aq 1 ?_
 refine fp [0,0,3,0,15,31,63] rfl (by decide +kernel) ?_
 refine dq [] [] (.hs 145 0 [] 1 0 0) rfl (bV rfl (fb (f:=I) (xs:=[]) (z:=I (0)) (es:=[]) (ws:=[]) rfl rfl rfl (by decide) rfl (bw rfl) rfl)) ?_
 refine dq [1] [] (aa a_1) rfl (cQ rfl rfl) ?_
 obtain⟨r5,hr5,h⟩:=bS h
 refine dq [145] [145] (.hs 177 0 [] 1 0 (r5.map I).length) rfl (aV rfl rfl (bq rfl rfl rfl (fk (eY rfl (dD (path:=[]) (m:=0) (es2:=[]) rfl rfl aG rfl)) (bi (bI rfl) cu)) (B6 hr5) (.inr rfl) (fP rfl rfl rfl eq cG) rfl rfl rfl)) ?_ (dW rfl rfl rfl rfl (fk (eY rfl (dD (path:=[]) (m:=0) (es2:=[]) rfl rfl aG rfl)) (bi (bI rfl) cu)) (B6 hr5) (.inr rfl) rfl)
 refine dq [17] [] (aa b_2) rfl (cQ rfl rfl) ?_
 obtain⟨r6,hr6,h⟩:=bS h
 refine dq [177] [177] (.hs 209 0 [] 1 0 (r6.map I).length) rfl (aV rfl rfl (bq rfl rfl rfl (fk (eY rfl (dD (path:=[]) rfl rfl aG rfl)) (bi (bI rfl) cu)) (B6 hr6) (.inr rfl) (fP rfl rfl rfl eq cG) rfl rfl rfl)) ?_ (dW rfl rfl rfl rfl (fk (eY rfl (dD (path:=[]) rfl rfl aG rfl)) (bi (bI rfl) cu)) (B6 hr6) (.inr rfl) rfl)
 obtain⟨r7,hr7,h⟩:=bS h
 refine dq [209] [209] (.hs 225 0 [] 1 0 (r7.map I).length) rfl (aV rfl rfl (bq rfl rfl rfl (fk (eY rfl (dD (path:=[]) rfl rfl aG rfl)) (bi (bI rfl) cu)) (HV hr7) (.inr rfl) (fP rfl rfl rfl eq cG) rfl rfl rfl)) ?_ (dW rfl rfl rfl rfl (fk (eY rfl (dD (path:=[]) rfl rfl aG rfl)) (bi (bI rfl) cu)) (HV hr7) (.inr rfl) rfl)
 refine dk 1 [6] [.hs 225 0 [] 1 0 (r7.map I).length] ?_
 refine de 257 rfl rfl ?_
 refine cq 6 [7] [I (0)] 273 ?_
 obtain⟨y18,hy18,hy181,hy182⟩:=bJ h
 refine b7 rfl ?_
 refine rf [2,3,5,6,7] [1,17,113,225] (Kk a_1 b_2 r4 r7 rfl 0 _ hy18 (fun r' e st hq=>by rw[hy181 r' e] at hq;exact hq) fun u18 hu=>?_)
 replace h:=hy182 u18 hu
 refine cq 4 [4] [B true] 17 ?_
 obtain rfl:=sI h
 exact rP [B true]
theorem OV {G:cM}:cH G 138 zJ:=gT 2 0 (aR vl (aR OJ (aR Fn (aR O3 (aR OU bU))))) cW Tryz.func138 (fun a r h=>Rx a.1 a.2 r h)
def BV:(Condition×Condition)→List V:=cA aD (oA aD)
def BW (r:Bool):V×List V:=(B r,[])
noncomputable def zx :=bx [false,false] BV BW fun x=>tf x.1 x.2
theorem VY {a_1:Condition}{b_2:Condition}{r}(h:tf a_1 b_2=some r):zx.F (BV (a_1,b_2))=some (BW r):=aP (bp ba (aQ ba)) h
noncomputable def V0 :=aJ Tryz.f96
noncomputable def Oz :=cV [(138,zJ)]
def VZ (x:Condition×Condition)(r:Bool):St→Prop:=QF Oz Tryz.f96 [false,false] (BV x) (BW r)
theorem Rj (a_1:Condition)(b_2:Condition)(r:Bool)(h:tf a_1 b_2=some r):bP Oz Tryz.f96 [false,false] 0 (BV (a_1,b_2)) (BW r):=by
 show Run _ _ (VZ (a_1,b_2) r) [.code V0] _
 refine rI 11 [(0,aa a_1),(1,aa b_2)] [] 1 ?_
 unfold tf at h
 refine cq 10 [5,6] [aa a_1,aa b_2] 81 ?_
 refine oq 97 (.hs 81 0 [] 4 0 1) rfl (bV rfl (fb (f:=I) (xs:=[]) (z:=.agg [I (0),str ([]),I (0),.isl true []]) (es:=[aa b_2]) (ws:=[aa b_2]) rfl rfl rfl (by decide) rfl (bw rfl) rfl)) ?_
 refine cq 1 [8] [.agg [I (4),str ([]),I (0),.hs 81 0 [] 4 0 1]] 113 ?_
 obtain⟨r3,hr3,h⟩:=bS h
 refine oq 129 (B r3) rfl (aV rfl rfl (bq rfl rfl rfl (bi (bI rfl) (bi (Ei (la (JG rfl) (la (JG rfl) (la (JG rfl) (la (WU (g:=ar) (xs:=[b_2]) (es:=[aa b_2]) rfl rfl (jj ((aY b_2).symm) rfl)) yx))))) cu)) (V7 hr3) (.inl rfl) cG rfl rfl rfl)) ?_
 refine cq 3 [4] [B (!r3)] 161 ?_
 obtain rfl:=sI h
 exact rP [B (!r3)]
theorem OA {G:cM}:cH G 96 zx:=gT 2 0 (aR OV bU) cW Tryz.func96 (fun a r h=>Rj a.1 a.2 r h)
def BX:(Contract×Clause×Int)→List V:=cA aI (cA ao (oA I))
def BZ (r:Int):V×List V:=(I r,[])
noncomputable def zA :=bx [false,false,false] BX BZ fun x=>zy x.1 x.2.1 x.2.2
theorem OB {c_1:Contract}{x_2:Clause}{br:Int}{r}(h:zy c_1 x_2 br=some r):zA.F (BX (c_1,x_2,br))=some (BZ r):=aP (bp bB (bp cC (aQ cf))) h
noncomputable def OC :=aJ Tryz.f44
noncomputable abbrev nU :=cL (cL (cR (cL (cR (cR OC)))))
noncomputable def uS :=cV [(95,zw),(96,zx),(94,zu)]
def HU (x:Contract×Clause×Int)(r:Int):St→Prop:=QF uS Tryz.f44 [false,false,false] (BX x) (BZ r)
theorem Kf (c_1:Contract)(x_2:Clause)(br:Int):cJ uS 0 (HU (c_1,x_2,br)) nU 0 (jQ c_1 x_2 br) (fun u=>(sT 44 [(7,I u)] [] 1)) fun x4=>(sT 44 [(2,I br),(3,.hp 1 0 [] 2 0 0),(4,.hp 2 0 [] 12 0 0),(7,I x4.1),(8,I x4.2)] [⟨0,2,[ai c_1]⟩,⟨0,12,[ak x_2]⟩] 3):=eF (xF c_1 x_2 br) fun {Q K} hK self ih x4 y h hr hn=>by
 unfold kz at h
 refine cq 6 [10,12] [I x4.2,.isl false (c_1.Clauses.map ao)] 51 ?_
 refine oq 67 (I (len c_1.Clauses)) rfl (bG rfl rfl rfl (cF rfl)) ?_
 refine cq 2 [14] [B (decide (x4.2<(len c_1.Clauses)))] 83 ?_
 refine sq h ?_ ?_<;>intro h
 ·refine aq 1 ?_
  refine cq 7 [18,19] [.isl false (c_1.Clauses.map ao),I x4.2] 131 ?_
  obtain⟨e5,he5,h⟩:=bS h
  refine oq 147 (.iptr (ak e5) 0) rfl (an rfl rfl rfl (bC rfl rfl rfl rfl he5)) ?_
  refine ck 2 [9,21] [] [163] [] [.hp 163 0 [] 12 0 0,ak e5] [some ⟨0,12,[.agg [str ([]),I (0),I (0),str ([]),I (0),I (0),I (0),str ([]),I (0),.isl true [],I (0),str ([])]]⟩] 179 (by kernel_rfl) ?_
  refine fx 163 [.agg [str ([]),I (0),I (0),str ([]),I (0),I (0),I (0),str ([]),I (0),.usl 4 (([]).map ae),I (0),str ([])]] rfl rfl (az (gf (az (.refl _) (az (.refl _) (az (.refl _) (az (.refl _) (az (.refl _) (az (.refl _) (az (.refl _) (az (.refl _) (az (.refl _) (az (.nil _) (az (.refl _) (az (.refl _) eh))))))))))))) eh) ?_
  refine ck 10 [26] [] [163] [] [B (e5.Kind != br)] [some ⟨2,12,[ak e5]⟩] 275 (by kernel_rfl) ?_
  obtain⟨y6,hy6,hy61,hy62⟩:=bL h
  have j6:∀u6,y6=.inr u6→Run uS 0 Q (.code (cR (cL (cR (cL (cL (cR nU))))))::.code (cR (cR (cL (cL (cR nU)))))::.blk 1::.code (cR (cR nU))::.lp nU::.blk 0::K) (sT 44 [(2,I br),(3,.hp 1 0 [] 2 0 0),(4,.hp 2 0 [] 12 0 0),(7,I x4.1),(8,I x4.2),(9,.hp 3 0 [] 12 0 0),(31,B u6)] [⟨0,2,[ai c_1]⟩,⟨0,12,[ak x_2]⟩,⟨0,12,[ak e5]⟩] 4):=by
   intro u6 hu
   replace h:=hy62 u6 hu
   refine sq h ?_ ?_<;>intro h
   ·refine cq 6 [8] [I (aj (x4.2+1))] 52 ?_
    refine dF ?_
    exact rf [2,3,4,7,8] [1,2] (ih _ _ h hr hn :)
   ·refine aq 1 ?_
    refine cq 7 [33,35] [aa x_2.When,aa e5.When] 68 ?_
    obtain⟨r7,hr7,h⟩:=bS h
    refine oq 84 (B r7) rfl (cP (VV hr7)) ?_
    refine cq 2 [37] [B (!r7)] 100 ?_
    refine sq h ?_ ?_<;>intro h
    ·refine cq 4 [6] [I (-1)] 116 ?_
     exact bX rfl (hr _ (ap h) _ (qp [I (-1)]))
    ·refine aq 1 ?_
     refine cq 6 [39,41] [aa x_2.When,aa e5.When] 164 ?_
     obtain⟨r8,hr8,h⟩:=bS h
     refine oq 180 (B r8) rfl (cP (VY hr8)) ?_
     refine aq 1 ?_
     obtain⟨u9,hu9,h⟩:=lJ h
     have j9:Run uS 0 Q (.blk 1::.code (cR (cR nU))::.lp nU::.blk 0::K) (sT 44 [(2,I br),(3,.hp 1 0 [] 2 0 0),(4,.hp 2 0 [] 12 0 0),(7,I u9),(8,I x4.2)] [⟨0,2,[ai c_1]⟩,⟨0,12,[ak x_2]⟩] 3):=by
      refine cq 6 [8] [I (aj (x4.2+1))] 51 ?_
      refine dF ?_
      exact rf [2,3,4,7,8] [1,2] (ih _ _ h hr hn :)
     replace h:=hu9
     clear hu9
     refine yw h rfl rfl ?_ ?_<;>intro h
     ·refine cq 3 [7] [I (1)] 196 ?_
      subst h
      exact rf [2,3,4,7,8] [1,2] (j9 :)
     ·refine aq 1 ?_
      subst h
      exact rf [2,3,4,7,8] [1,2] (j9 :)
  have r6:∀r',y6=.inl r'→∀st,HU (c_1,x_2,br) r' st→Q st:=fun r' e st hq=>hr r' (hy61 r' e) st hq
  replace h:=hy6
  refine sp 26 h rfl ?_ ?_<;>intro h
  ·refine cq 6 [31] [B true] 355 ?_
   exact rf [2,3,4,7,8,9,31] [1,2,163] (j6 _ (ap h) :)
  ·refine cq 2 [27,28] [ak x_2,ak e5] 307 ?_
   obtain⟨r10,hr10,h⟩:=bS h
   refine oy 323 (B r10) rfl (cP (VU hr10)) ?_
   refine cq 3 [31] [B (!r10)] 355 ?_
   exact rf [2,3,4,7,8,9,31] [1,2,163] (j6 _ (ap h) :)
 ·refine aq 1 ?_
  exact rf [7] [] (hn _ (ap h) :) (hk:=hK)
theorem Rk (c_1:Contract)(x_2:Clause)(br:Int)(r:Int)(h:zy c_1 x_2 br=some r):bP uS Tryz.f44 [false,false,false] 0 (BX (c_1,x_2,br)) (BZ r):=by
 show Run _ _ (HU (c_1,x_2,br) r) [.code OC] _
 refine rI 44 [(0,ai c_1),(1,ak x_2),(2,I br)] [] 1 ?_
 unfold zy at h
 refine ck 16 [3,4,7,8] [] [1,17] [] [.hp 1 0 [] 2 0 0,.hp 17 0 [] 12 0 0,I (0),I (0)] [some ⟨0,2,[ai c_1]⟩,some ⟨0,12,[ak x_2]⟩] 81 (by kernel_rfl) ?_
 obtain⟨y11,hy11,hy111,hy112⟩:=bJ h
 refine b7 rfl ?_
 refine rf [2,3,4,7,8] [1,17] (Kf c_1 x_2 br rfl (0,0) _ hy11 (fun r' e st hq=>by rw[hy111 r' e] at hq;exact hq) fun u11 hu=>?_)
 replace h:=hy112 u11 hu
 refine cq 5 [6] [I u11] 33 ?_
 obtain rfl:=sI h
 exact rP [I u11]
theorem OD {G:cM}:cH G 44 zA:=gT 3 0 (aR Oy (aR OA (aR Ow bU))) cW Tryz.func44 (fun a r h=>Rk a.1 a.2.1 a.2.2 r h)
def BN:Contract→List V:=oA aI
def BP (r:(List Int)×Bool):V×List V:=(.tup [.usl 1 (r.1.map I),B r.2],[])
noncomputable def zt :=bx [false] BN BP fun x=>zr x
theorem VT {c_1:Contract}{r}(h:zr c_1=some r):zt.F (BN c_1)=some (BP r):=aP (aQ bB) h
noncomputable def Oq :=aJ Tryz.f13
noncomputable abbrev Eu :=cL (cL (cR (cL (cR (cR (cR Oq))))))
noncomputable def BO :=cV [(43,zR),(44,zA)]
def HS (x:Contract)(r:(List Int)×Bool):St→Prop:=QF BO Tryz.f13 [false] (BN x) (BP r)
theorem Ke (c_1:Contract):cJ BO 0 (HS c_1) Eu 0 (pN c_1) (fun u=>(sT 42 [(4,.hs 1 0 [] 1 0 (u.map I).length)] [⟨0,1,u.map I⟩] 2)) fun x3=>(sT 42 [(1,.hp 1 0 [] 2 0 0),(4,.hs 2 0 [] 1 0 (x3.2.map I).length),(5,I x3.1)] [⟨0,2,[ai c_1]⟩,⟨0,1,x3.2.map I⟩] 3):=eF (xE c_1) fun {Q K} hK self ih x3 y h hr hn=>by
 unfold ky at h
 refine cq 6 [11,13] [I x3.1,.isl false (c_1.Clauses.map ao)] 51 ?_
 refine oq 67 (I (len c_1.Clauses)) rfl (bG rfl rfl rfl (cF rfl)) ?_
 refine cq 2 [15] [B (decide (x3.1<(len c_1.Clauses)))] 83 ?_
 refine sq h ?_ ?_<;>intro h
 ·refine aq 1 ?_
  refine cq 8 [19,20] [.isl false (c_1.Clauses.map ao),I x3.1] 131 ?_
  obtain⟨e4,he4,h⟩:=bS h
  refine oq 147 (.iptr (ak e4) 0) rfl (an rfl rfl rfl (bC rfl rfl rfl rfl he4)) ?_
  refine cq 4 [24] [B (e4.Kind != 3)] 195 ?_
  refine sq h ?_ ?_<;>intro h
  ·refine cq 6 [5] [I (aj (x3.1+1))] 243 ?_
   refine dF ?_
   exact rf [1,4,5] [1,2] (ih _ _ h hr hn :)
  ·refine aq 1 ?_
   refine aq 1 ?_
   refine fp [0,0,2,0,14,30,63] rfl (by decide +kernel) ?_
   refine dq [1] [] (ai c_1) rfl (cQ rfl rfl) ?_
   refine dq [1] [] (.hp 1 0 [] 2 0 1) rfl (dQ rfl rfl rfl) ?_
   refine dq [1] [] (.isl false (c_1.Clauses.map ao)) rfl (cQ rfl rfl) ?_
   refine dk 1 [28] [I x3.1] ?_
   obtain⟨e5,he5,h⟩:=bS h
   refine dq [] [] (.iptr (ak e5) 0) rfl (an rfl rfl rfl (bC rfl rfl rfl rfl he5)) ?_
   refine dq [] [] (ak e5) rfl (cQ rfl rfl) ?_
   obtain⟨r6,hr6,h⟩:=bS h
   refine dq [] [] (I r6) rfl (cP (OB hr6)) ?_ (dW rfl rfl rfl rfl (bi (bI rfl) (bi (bI rfl) (bi (bI rfl) cu))) (OB hr6) (.inr rfl) rfl)
   refine de 307 rfl rfl ?_
   refine cq 6 [32] [B (r6==(-1))] 339 ?_
   refine sq h ?_ ?_<;>intro h
   ·refine aq 2 ?_
    refine oq 355 (.hs 339 0 [] 1 0 0) rfl (bV rfl (fb (f:=I) (xs:=[]) (z:=I (0)) (es:=[]) (ws:=[]) rfl rfl rfl (by decide) rfl (bw rfl) rfl)) ?_
    refine cq 3 [2,3] [.hs 339 0 [] 1 0 0,B false] 387 ?_
    exact bX rfl (hr _ (ap h) _ ⟨_,fin (vs:=[.hs 339 0 [] 1 0 0,B false]) rfl (d8 (eZ rfl (dm (k:=0) (es:=[]) rfl rfl)) (d8 (bu rfl) dX)) rfl (d9 eC),ez⟩)
   ·refine cq 5 [35] [B (r6==0)] 371 ?_
    obtain⟨y7,hy7,hy71,hy72⟩:=bL h
    have j7:∀u7,y7=.inr u7→Run BO 0 Q (.blk 2::.blk 1::.code (cR (cR Eu))::.lp Eu::.blk 0::K) (sT 42 [(1,.hp 1 0 [] 2 0 0),(4,.hs 2 0 [] 1 0 (u7.map I).length),(5,I x3.1)] [⟨0,2,[ai c_1]⟩,⟨0,1,u7.map I⟩] 3):=by
     intro u7 hu
     replace h:=hy72 u7 hu
     refine cq 7 [5] [I (aj (x3.1+1))] 51 ?_
     refine dF ?_
     exact rf [1,4,5] [1,2] (ih _ _ h hr hn :)
    have r7:∀r',y7=.inl r'→∀st,HS c_1 r' st→Q st:=fun r' e st hq=>hr r' (hy71 r' e) st hq
    replace h:=hy7
    refine sq h ?_ ?_<;>intro h
    ·refine cq 3 [37,38] [.hs 2 0 [] 1 0 (x3.2.map I).length,I x3.1] 403 ?_
     refine oq 419 (.hs 403 0 [] 1 0 1) rfl (bV rfl (fb (f:=I) (xs:=[]) (z:=I (0)) (es:=[I x3.1]) (ws:=[I x3.1]) rfl rfl rfl (by decide) rfl (bw rfl) rfl)) ?_
     obtain⟨a8,ha8,h⟩:=bS h
     refine oq 435 (.hs 419 0 [] 1 0 (a8.map I).length) rfl (fQ rfl rfl rfl rfl rfl (iA (path:=[]) (f:=I) (xs:=x3.2) (ys:=[x3.1]) rfl rfl (jZ rfl rfl rfl) rfl rfl rfl aG rfl (by decide) nY ha8 rfl lF)) ?_
     refine cq 2 [4] [.hs 419 0 [] 1 0 (a8.map I).length] 451 ?_
     exact rf [1,4,5] [1,419] (j7 _ (ap h) :)
    ·refine aq 1 ?_
     exact rf [1,4,5] [1,2] (j7 _ (ap h) :)
 ·refine aq 1 ?_
  exact rf [4] [2] (hn _ (ap h) :) (hk:=hK)
theorem Rg (c_1:Contract)(r:(List Int)×Bool)(h:zr c_1=some r):bP BO Tryz.f13 [false] 0 (BN c_1) (BP r):=by
 show Run _ _ (HS c_1 r) [.code Oq] _
 refine rI 42 [(0,ai c_1)] [] 1 ?_
 unfold zr at h
 refine ck 8 [1] [] [1] [] [.hp 1 0 [] 2 0 0] [some ⟨0,2,[ai c_1]⟩] 49 (by kernel_rfl) ?_
 refine oq 65 (.hs 49 0 [] 1 0 0) rfl (bV rfl (fb (f:=I) (xs:=[]) (z:=I (0)) (es:=[]) (ws:=[]) rfl rfl rfl (by decide) rfl (bw rfl) rfl)) ?_
 refine cq 6 [4,7] [.hs 49 0 [] 1 0 0,ai c_1] 97 ?_
 obtain⟨r2,hr2,h⟩:=bS h
 refine oq 113 (B r2) rfl (cP (Wb hr2)) ?_
 refine cq 2 [9] [B (!r2)] 129 ?_
 refine sq h ?_ ?_<;>intro h
 ·refine cq 6 [2,3] [.hs 49 0 [] 1 0 0,B false] 177 ?_
  obtain rfl:=sI h
  exact bX rfl ⟨_,fin (vs:=[.hs 49 0 [] 1 0 0,B false]) rfl (d8 (eZ rfl (dm (k:=0) (es:=[]) rfl rfl)) (d8 (bu rfl) dX)) rfl (d9 eC),ez⟩
 ·refine aq 1 ?_
  refine cq 6 [5] [I (0)] 145 ?_
  obtain⟨y9,hy9,hy91,hy92⟩:=bJ h
  refine b7 rfl ?_
  refine rf [1,4,5] [1,49] (Ke c_1 rfl (0,[]) _ hy9 (fun r' e st hq=>by rw[hy91 r' e] at hq;exact hq) fun u9 hu=>?_)
  replace h:=hy92 u9 hu
  refine cq 6 [2,3] [.hs 1 0 [] 1 0 (u9.map I).length,B true] 50 ?_
  obtain rfl:=sI h
  exact bX rfl ⟨_,fin (vs:=[.hs 1 0 [] 1 0 (u9.map I).length,B true]) rfl (d8 (eZ rfl (dm rfl rfl)) (d8 (bu rfl) dX)) rfl (d9 eC),ez⟩
theorem Ot {G:cM}:cH G 13 zt:=gT 1 0 (aR O9 (aR OD bU)) cW Tryz.func13 (fun a r h=>Rg a r h)
def Hb:(Int×Int×Int)→List V:=cA I (cA I (oA I))
def Hc (r:Bool):V×List V:=(B r,[])
noncomputable def mC :=bx [false,false,false] Hb Hc fun x=>nI x.1 x.2.1 x.2.2
theorem mY {n_1:Int}{nr:Int}{kU:Int}{r}(h:nI n_1 nr kU=some r):mC.F (Hb (n_1,nr,kU))=some (Hc r):=aP (bp cf (bp cf (aQ cf))) h
noncomputable def Tr :=aJ Tryz.f99
noncomputable def Mg :=cV []
def Tq (x:Int×Int×Int)(r:Bool):St→Prop:=QF Mg Tryz.f99 [false,false,false] (Hb x) (Hc r)
theorem Uj (n_1:Int)(nr:Int)(kU:Int)(r:Bool)(h:nI n_1 nr kU=some r):bP Mg Tryz.f99 [false,false,false] 0 (Hb (n_1,nr,kU)) (Hc r):=by
 show Run _ _ (Tq (n_1,nr,kU) r) [.code Tr] _
 refine rI 15 [(0,I n_1),(1,I nr),(2,I kU)] [] 1 ?_
 unfold nI at h
 refine cq 10 [10] [B (decide (n_1≥nr))] 81 ?_
 obtain⟨u4,hu4,h⟩:=lJ h
 have j4:Run Mg 0 (Tq (n_1,nr,kU) r) (.code (cR (cR Tr))::[]) (sT 15 [(6,B u4)] [] 1):=by
  obtain rfl:=sI h
  exact rP [B u4]
 replace h:=hu4
 clear hu4
 refine sp 10 h rfl ?_ ?_<;>intro h
 ·refine cq 6 [6] [B (decide (n_1≤kU))] 161 ?_
  subst h
  exact rf [6] [] (j4 :)
 ·refine cq 6 [6] [B false] 161 ?_
  subst h
  exact rf [6] [] (j4 :)
theorem nW {G:cM}:cH G 99 mC:=gT 3 0 bU cW Tryz.func99 (fun a r h=>Uj a.1 a.2.1 a.2.2 r h)
noncomputable def jI:Ent:=⟨[false,false],tD (oB str) (oB (V.int .u8)) fun s c=>some (I ((Lib.countByte s c.toNat.toUInt8:Nat):Int),[])⟩
theorem Fh {s:ac}{c r:Int}(h:wo s c=some r):jI.F [str s,.int .u8 c]=some (I r,[]):=by
 cases h
 simp only[jI,tD,DI bH,DI QE,Option.bind_some]
theorem Fi:Extern.findNext Tryz.f199=none:=by kernel_rfl
theorem Fj:Extern.find Tryz.f199=some Extern.BytealgCount.count:=by kernel_rfl
theorem xh {G:cM}:cH G 199 jI:=Li (g:=fun s c=>((Lib.countByte s c.toNat.toUInt8:Nat):Int)) Tryz.func199 rfl (by decide) Fi Fj fun s c w=>Lib.run_countString s c w
noncomputable def hC:Ent:=⟨[false,false],tD (oB str) (oB (V.int .u8)) fun s c=>some (I (Lib.indexByte s c.toNat.toUInt8),[])⟩
theorem wq {s:ac}{c r:Int}(h:qD s c=some r):hC.F [str s,.int .u8 c]=some (I r,[]):=by
 cases h
 simp only[hC,tD,DI bH,DI QE,Option.bind_some]
theorem wr:Extern.findNext Tryz.f232=none:=by kernel_rfl
theorem wt:Extern.find Tryz.f232=some Extern.BytealgIndexByte.indexByte:=by kernel_rfl
theorem sY {G:cM}:cH G 232 hC:=Li (g:=fun s c=>Lib.indexByte s c.toNat.toUInt8) Tryz.func232 rfl (by decide) wr wt fun s c w=>Lib.run_indexByteString s c w
def Hf:(ac×Int)→List V:=cA str (oA (V.int .u8))
def Hg (r:Int):V×List V:=(I r,[])
noncomputable def ER :=bx [false,false] Hf Hg fun x=>Pt x.1 x.2
theorem Xn {s_1:ac}{c_2:Int}{r}(h:Pt s_1 c_2=some r):ER.F (Hf (s_1,c_2))=some (Hg r):=aP (bp bH (aQ (JS (k:=.u8)))) h
noncomputable def Xp :=aJ Tryz.f218
noncomputable def Tt :=cV [(232,hC)]
def Xo (x:ac×Int)(r:Int):St→Prop:=QF Tt Tryz.f218 [false,false] (Hf x) (Hg r)
theorem Ul (s_1:ac)(c_2:Int)(r:Int)(h:Pt s_1 c_2=some r):bP Tt Tryz.f218 [false,false] 0 (Hf (s_1,c_2)) (Hg r):=by
 show Run _ _ (Xo (s_1,c_2) r) [.code Xp] _
 refine rI 8 [(0,str s_1),(1,.int .u8 c_2)] [] 1 ?_
 unfold Pt at h
 refine cq 8 [5,6] [str s_1,.int .u8 c_2] 49 ?_
 obtain⟨r3,hr3,h⟩:=bS h
 refine oq 65 (I r3) rfl (cP (wq hr3)) ?_
 refine cq 2 [4] [I r3] 81 ?_
 obtain rfl:=sI h
 exact rP [I r3]
theorem R7 {G:cM}:cH G 218 ER:=gT 2 0 (aR sY bU) cW Tryz.func218 (fun a r h=>Ul a.1 a.2 r h)
def Hd:(ac×ac)→List V:=cA str (oA str)
def He (r:Int):V×List V:=(I r,[])
noncomputable def EQ :=bx [false,false] Hd He fun x=>Ps x.1 x.2
theorem Xm {s_1:ac}{aN:ac}{r}(h:Ps s_1 aN=some r):EQ.F (Hd (s_1,aN))=some (He r):=aP (bp bH (aQ bH)) h
noncomputable def Mi :=aJ Tryz.f200
noncomputable def Mh :=cV [(218,ER)]
def Ts (x:ac×ac)(r:Int):St→Prop:=QF Mh Tryz.f200 [false,false] (Hd x) (He r)
theorem Uk (s_1:ac)(aN:ac)(r:Int)(h:Ps s_1 aN=some r):bP Mh Tryz.f200 [false,false] 0 (Hd (s_1,aN)) (He r):=by
 show Run _ _ (Ts (s_1,aN) r) [.code Mi] _
 refine rI 143 [(0,str s_1),(1,str aN)] [] 1 ?_
 unfold Ps at h
 refine cq 17 [5,19] [I (len aN),B ((len aN)==0)] 113 ?_
 obtain⟨u3,hu3,h⟩:=lJ h
 have j3:Run Mh 0 (Ts (s_1,aN) r) (.code (cR (cL (cL (cR (cR Mi)))))::.blk 0::.code (cR (cR (cR Mi)))::[]) (sT 143 [(0,str s_1),(1,str aN),(5,I (len aN)),(16,B u3)] [] 1):=by
  refine sq h ?_ ?_<;>intro h
  ·refine cq 4 [4] [I (0)] 17 ?_
   obtain rfl:=sI h
   exact rP [I (0)]
  ·refine cq 6 [24] [B ((len aN)==1)] 49 ?_
   refine sq h ?_ ?_<;>intro h
   ·refine cq 4 [27,28] [str s_1,str aN] 81 ?_
    obtain⟨c4,hc4,h⟩:=bS h
    refine oq 97 (.int .u8 (c4.toNat:Int)) rfl (mF rfl rfl (qR rfl rfl hc4)) ?_
    obtain⟨r5,hr5,h⟩:=bS h
    refine oq 113 (I r5) rfl (cP (Xn hr5)) ?_
    refine cq 2 [4] [I r5] 129 ?_
    obtain rfl:=sI h
    exact rP [I r5]
   ·refine cq 8 [31] [B (decide ((len aN)≥(len s_1)))] 129 ?_
    refine sq h ?_ ?_<;>intro h
    ·refine cq 4 [4] [I (-1)] 145 ?_
     obtain rfl:=sI h
     exact rP [I (-1)]
    ·cases h
 replace h:=hu3
 clear hu3
 refine sp 19 h rfl ?_ ?_<;>intro h
 ·refine cq 6 [16] [B true] 193 ?_
  subst h
  exact rf [0,1,5,16] [] (j3 :)
 ·refine cq 6 [16] [B (aN==s_1)] 193 ?_
  subst h
  exact rf [0,1,5,16] [] (j3 :)
theorem R6 {G:cM}:cH G 200 EQ:=gT 2 0 (aR R7 bU) cW Tryz.func200 (fun a r h=>Uk a.1 a.2 r h)
def CW:(ac×ac)→List V:=cA str (oA str)
def CX (r:Int):V×List V:=(I r,[])
noncomputable def tt :=bx [false,false] CW CX fun x=>EB x.1 x.2
theorem Pi {s_1:ac}{aN:ac}{r}(h:EB s_1 aN=some r):tt.F (CW (s_1,aN))=some (CX r):=aP (bp bH (aQ bH)) h
noncomputable def Wh :=aJ Tryz.f188
noncomputable def Ph :=cV [(200,EQ)]
def Wg (x:ac×ac)(r:Int):St→Prop:=QF Ph Tryz.f188 [false,false] (CW x) (CX r)
theorem RM (s_1:ac)(aN:ac)(r:Int)(h:EB s_1 aN=some r):bP Ph Tryz.f188 [false,false] 0 (CW (s_1,aN)) (CX r):=by
 show Run _ _ (Wg (s_1,aN) r) [.code Wh] _
 refine rI 8 [(0,str s_1),(1,str aN)] [] 1 ?_
 unfold EB at h
 refine cq 8 [5,6] [str s_1,str aN] 49 ?_
 obtain⟨r3,hr3,h⟩:=bS h
 refine oq 65 (I r3) rfl (cP (Xm hr3)) ?_
 refine cq 2 [4] [I r3] 81 ?_
 obtain rfl:=sI h
 exact rP [I r3]
theorem Fr {G:cM}:cH G 188 tt:=gT 2 0 (aR R6 bU) cW Tryz.func188 (fun a r h=>RM a.1 a.2 r h)
def CU:(ac×ac)→List V:=cA str (oA str)
def CV (r:Int):V×List V:=(I r,[])
noncomputable def zU :=bx [false,false] CU CV fun x=>Ic x.1 x.2
theorem Wf {s_1:ac}{aN:ac}{r}(h:Ic s_1 aN=some r):zU.F (CU (s_1,aN))=some (CV r):=aP (bp bH (aQ bH)) h
noncomputable def Pf :=aJ Tryz.f187
noncomputable def Ie :=cV [(199,jI),(188,tt)]
def Pe (x:ac×ac)(r:Int):St→Prop:=QF Ie Tryz.f187 [false,false] (CU x) (CV r)
theorem Kw (s_1:ac)(aN:ac):cJ Ie 0 (Pe (s_1,aN)) (cL (cL (cR (cR (cR (cR Pf)))))) 0 (K4 s_1 aN) (fun u=>(sT 34 [] [] 1)) fun x5=>(sT 34 [(0,str x5.1),(1,str aN),(5,I x5.2)] [] 1):=eF (Kv s_1 aN) fun {Q K} hK self ih x5 y h hr hn=>by
 unfold qI at h
 refine cq 5 [20,21] [str x5.1,str aN] 33 ?_
 obtain⟨r6,hr6,h⟩:=bS h
 refine oq 49 (I r6) rfl (cP (Pi hr6)) ?_
 refine cq 8 [6,24] [I r6,B (r6==(-1))] 97 ?_
 refine sq h ?_ ?_<;>intro h
 ·refine cq 5 [4] [I x5.2] 129 ?_
  exact bX rfl (hr _ (ap h) _ (qp [I x5.2]))
 ·refine aq 1 ?_
  refine cq 12 [5,28,32] [I (aj (x5.2+1)),str x5.1,I (aj (r6+(len aN)))] 225 ?_
  obtain⟨s7,hs7,h⟩:=bS h
  refine oq 241 (str s7) rfl (hY rfl rfl rfl rfl (JJ rfl rfl rfl hs7)) ?_
  refine cq 3 [0] [str s7] 257 ?_
  refine dF ?_
  exact rf [0,1,5] [] (ih _ _ h hr hn :)
theorem RL (s_1:ac)(aN:ac)(r:Int)(h:Ic s_1 aN=some r):bP Ie Tryz.f187 [false,false] 0 (CU (s_1,aN)) (CV r):=by
 show Run _ _ (Pe (s_1,aN) r) [.code Pf] _
 refine rI 34 [(0,str s_1),(1,str aN)] [] 1 ?_
 unfold Ic at h
 refine cq 11 [9] [B ((len aN)==0)] 65 ?_
 refine sq h ?_ ?_<;>intro h
 ·cases h
 ·refine aq 1 ?_
  refine cq 7 [15] [B ((len aN)==1)] 113 ?_
  refine sq h ?_ ?_<;>intro h
  ·refine cq 4 [16,17] [str s_1,str aN] 145 ?_
   obtain⟨c3,hc3,h⟩:=bS h
   refine oq 161 (.int .u8 (c3.toNat:Int)) rfl (mF rfl rfl (qR rfl rfl hc3)) ?_
   obtain⟨r4,hr4,h⟩:=bS h
   refine oq 177 (I r4) rfl (cP (Fh hr4)) ?_
   refine cq 2 [4] [I r4] 193 ?_
   obtain rfl:=sI h
   exact rP [I r4]
  ·refine aq 1 ?_
   refine cq 5 [5] [I (0)] 129 ?_
   obtain⟨y8,hy8,hy81,hy82⟩:=bJ h
   refine b7 rfl ?_
   refine rf [0,1,5] [] (Kw s_1 aN rfl (s_1,0) _ hy8 (fun r' e st hq=>by rw[hy81 r' e] at hq;exact hq) fun u8 hu=>?_)
   replace h:=hy82 u8 hu
   cases h
theorem Pg {G:cM}:cH G 187 zU:=gT 2 0 (aR xh (aR Fr bU)) cW Tryz.func187 (fun a r h=>RL a.1 a.2 r h)
def C0:(ac×ac×Int×Int)→List V:=cA str (cA str (cA I (oA I)))
def C2 (r:(List ac)):V×List V:=(.usl 1 (r.map str),[])
noncomputable def zX :=bx [false,false,false,false] C0 C2 fun x=>Ig x.1 x.2.1 x.2.2.1 x.2.2.2
theorem Wm {s_1:ac}{dJ:ac}{dl:Int}{n_4:Int}{r}(h:Ig s_1 dJ dl n_4=some r):zX.F (C0 (s_1,dJ,dl,n_4))=some (C2 r):=aP (bp bH (bp bH (bp cf (aQ cf)))) h
noncomputable def Ih :=aJ Tryz.f166
noncomputable abbrev TX :=cL (cL (cL (cR (cR (cR (cR (cR (cR (cR (cR Ih))))))))))
noncomputable def C1 :=cV [(188,tt),(187,zU)]
def vA (x:ac×ac×Int×Int)(r:(List ac)):St→Prop:=QF C1 Tryz.f166 [false,false,false,false] (C0 x) (C2 r)
theorem Kx (s_1:ac)(dJ:ac)(dl:Int)(n_4:Int)(u5:Int):cJ C1 0 (vA (s_1,dJ,dl,n_4)) TX 0 (wy s_1 dJ dl n_4 u5) (fun u=>(sT 66 [(0,str u.1),(9,.hs 1 0 [] 1 0 (u.2.2.map str).length),(10,I u.2.1)] [⟨0,1,u.2.2.map str⟩] 2)) fun x7=>(sT 66 [(0,str x7.1),(1,str dJ),(2,I dl),(3,I (aj ((if (aj ((len s_1)+1))<u5 then (aj ((len s_1)+1)) else u5) - 1))),(9,.hs 1 0 [] 1 0 (x7.2.2.map str).length),(10,I x7.2.1)] [⟨0,1,x7.2.2.map str⟩] 2):=eF (xV s_1 dJ dl n_4 u5) fun {Q K} hK self ih x7 y h hr hn=>by
 unfold qJ at h
 refine cq 7 [36] [B (decide (x7.2.1<(aj ((if (aj ((len s_1)+1))<u5 then (aj ((len s_1)+1)) else u5) - 1))))] 50 ?_
 refine sq h ?_ ?_<;>intro h
 ·refine aq 1 ?_
  refine cq 5 [37,38] [str x7.1,str dJ] 82 ?_
  obtain⟨r8,hr8,h⟩:=bS h
  refine oq 98 (I r8) rfl (cP (Pi hr8)) ?_
  refine cq 8 [11,41] [I r8,B (decide (r8<0))] 146 ?_
  refine sq h ?_ ?_<;>intro h
  ·refine aq 1 ?_
   exact rf [0,9,10] [1] (hn _ (ap h) :) (hk:=hK)
  ·refine aq 1 ?_
   refine cq 8 [42,43,44,47] [.hs 1 0 [] 1 0 (x7.2.2.map str).length,I x7.2.1,str x7.1,I (aj (r8+dl))] 242 ?_
   obtain⟨s9,hs9,h⟩:=bS h
   refine oq 258 (str s9) rfl (hY rfl rfl rfl rfl (JJ rfl rfl rfl hs9)) ?_
   obtain⟨e10,he10,h⟩:=bS h
   refine oq 274 (.hp 1 0 [] 1 (0+Int.toNat x7.2.1) 0) rfl (an rfl rfl rfl (dG (f:=str) (xs:=x7.2.2) rfl rfl rfl he10)) ?_
   refine o0 290 rfl rfl (fJ rfl rfl (eJ (path:=[]) (pl:=true) (e':=str s9) (es2':=(cT x7.2.2 x7.2.1 s9).map str) rfl (bu rfl) rfl rfl rfl aG (cX (f:=str) (xs:=x7.2.2) he10) rfl rfl rfl (jY (f:=str) (xs:=x7.2.2) (y:=s9)) ee 0 rfl)) ?_
   try rw[←ij (f:=str) (xs:=x7.2.2) (i:=x7.2.1) (z:=s9)]
   refine cq 8 [50,54] [str x7.1,I (aj (r8+(len dJ)))] 370 ?_
   obtain⟨s11,hs11,h⟩:=bS h
   refine oq 386 (str s11) rfl (hY rfl rfl rfl rfl (JJ rfl rfl rfl hs11)) ?_
   refine cq 8 [0,10] [str s11,I (aj (x7.2.1+1))] 450 ?_
   refine dF ?_
   exact rf [0,1,2,3,9,10] [1] (ih _ _ h hr hn :)
 ·refine aq 1 ?_
  exact rf [0,9,10] [1] (hn _ (ap h) :) (hk:=hK)
theorem RO (s_1:ac)(dJ:ac)(dl:Int)(n_4:Int)(r:(List ac))(h:Ig s_1 dJ dl n_4=some r):bP C1 Tryz.f166 [false,false,false,false] 0 (C0 (s_1,dJ,dl,n_4)) (C2 r):=by
 show Run _ _ (vA (s_1,dJ,dl,n_4) r) [.code Ih] _
 refine rI 66 [(0,str s_1),(1,str dJ),(2,I dl),(3,I n_4)] [] 1 ?_
 unfold Ig at h
 refine cq 10 [13] [B (n_4==0)] 49 ?_
 refine sq h ?_ ?_<;>intro h
 ·refine cq 4 [8] [.isl true []] 65 ?_
  refine E9 8 0 1 81 (.hs 65 0 [] 1 0 0) rfl rfl rfl rfl rfl ?_
  obtain rfl:=sI h
  exact bX rfl ⟨_,fin (vs:=[.hs 65 0 [] 1 0 0]) rfl (d8 (eZ rfl (dm (k:=0) (es:=[]) rfl rfl)) dX) rfl (d9 (d9 (d9 (d9 eC)))),ez⟩
 ·refine aq 1 ?_
  refine cq 6 [15] [B (dJ==([]:ac))] 81 ?_
  refine sq h ?_ ?_<;>intro h
  ·cases h
  ·refine aq 1 ?_
   refine cq 6 [20] [B (decide (n_4<0))] 113 ?_
   obtain⟨y5,hy5,hy51,hy52⟩:=bJ h
   have j5:∀u5,y5=.inr u5→Run C1 0 (vA (s_1,dJ,dl,n_4) r) (.code (cR (cR (cR (cR Ih))))::[]) (sT 66 [(0,str s_1),(1,str dJ),(2,I dl),(3,I u5)] [] 1):=by
    intro u5 hu
    replace h:=hy52 u5 hu
    refine cq 12 [3,30] [I (if (aj ((len s_1)+1))<u5 then (aj ((len s_1)+1)) else u5),I (if (aj ((len s_1)+1))<u5 then (aj ((len s_1)+1)) else u5)] 113 ?_
    obtain⟨m6,hm6,h⟩:=bS h
    refine oq 129 (.hs 113 0 [] 1 0 (m6.map str).length) rfl (oC rfl rfl (P9 (f:=str) rfl rfl rfl (by decide) hm6 rfl)) ?_
    refine cq 14 [3,9,10] [I (aj ((if (aj ((len s_1)+1))<u5 then (aj ((len s_1)+1)) else u5) - 1)),.hs 113 0 [] 1 0 (m6.map str).length,I (0)] 209 ?_
    obtain⟨y12,hy12,hy121,hy122⟩:=bJ h
    refine b7 rfl ?_
    refine rf [0,1,2,3,9,10] [113] (Kx s_1 dJ dl n_4 u5 rfl (s_1,0,m6) _ hy12 (fun r' e st hq=>by rw[hy121 r' e] at hq;exact hq) fun u12 hu=>?_)
    replace h:=hy122 u12 hu
    refine cq 5 [58,59,60] [.hs 1 0 [] 1 0 (u12.2.2.map str).length,I u12.2.1,str u12.1] 50 ?_
    obtain⟨e13,he13,h⟩:=bS h
    refine oq 66 (.hp 1 0 [] 1 (0+Int.toNat u12.2.1) 0) rfl (an rfl rfl rfl (dG (f:=str) (xs:=u12.2.2) rfl rfl rfl he13)) ?_
    refine o0 82 rfl rfl (fJ rfl rfl (eJ (path:=[]) (pl:=true) (e':=str u12.1) (es2':=(cT u12.2.2 u12.2.1 u12.1).map str) rfl (bu rfl) rfl rfl rfl aG (cX (f:=str) (xs:=u12.2.2) he13) rfl rfl rfl (jY (f:=str) (xs:=u12.2.2) (y:=u12.1)) ee 0 rfl)) ?_
    try rw[←ij (f:=str) (xs:=u12.2.2) (i:=u12.2.1) (z:=u12.1)]
    refine cq 6 [62,64] [.hs 1 0 [] 1 0 ((cT u12.2.2 u12.2.1 u12.1).map str).length,I (aj (u12.2.1+1))] 130 ?_
    obtain⟨s14,hs14,h⟩:=bS h
    refine oq 146 (.hs 1 0 [] 1 (0+Int.toNat (0)) (Int.toNat (aj (u12.2.1+1)) - Int.toNat (0))) rfl (hY rfl rfl rfl rfl (pc (f:=str) (xs:=(cT u12.2.2 u12.2.1 u12.1)) rfl rfl rfl rfl rfl hs14)) ?_
    refine cq 2 [8] [.hs 1 0 [] 1 (0+Int.toNat (0)) (Int.toNat (aj (u12.2.1+1)) - Int.toNat (0))] 162 ?_
    obtain⟨p15,hp15,h⟩:=bS h
    obtain rfl:=sI h
    exact bX rfl ⟨_,fin (vs:=[.hs 1 0 [] 1 (0+Int.toNat (0)) (Int.toNat (aj (u12.2.1+1)) - Int.toNat (0))]) rfl (d8 (eZ rfl (Px (path:=[]) (f:=str) (xs:=(cT u12.2.2 u12.2.1 u12.1)) rfl rfl aG hp15 rfl lF)) dX) rfl (d9 (d9 (d9 (d9 eC)))),ez⟩
   have r5:∀r',y5=.inl r'→∀st,vA (s_1,dJ,dl,n_4) r' st→(vA (s_1,dJ,dl,n_4) r) st:=fun r' e st hq=>by rw[hy51 r' e] at hq;exact hq
   replace h:=hy5
   refine sq h ?_ ?_<;>intro h
   ·refine cq 3 [21,22] [str s_1,str dJ] 145 ?_
    obtain⟨r16,hr16,h⟩:=bS h
    refine oq 161 (I r16) rfl (cP (Wf hr16)) ?_
    refine cq 3 [3] [I (aj (r16+1))] 193 ?_
    exact rf [0,1,2,3] [] (j5 _ (ap h) :)
   ·refine aq 1 ?_
    exact rf [0,1,2,3] [] (j5 _ (ap h) :)
theorem Pm {G:cM}:cH G 166 zX:=gT 4 0 (aR Fr (aR Pg bU)) cW Tryz.func166 (fun a r h=>RO a.1 a.2.1 a.2.2.1 a.2.2.2 r h)
def CY:(ac×ac)→List V:=cA str (oA str)
def CZ (r:(List ac)):V×List V:=(.usl 1 (r.map str),[])
noncomputable def zW :=bx [false,false] CY CZ fun x=>zV x.1 x.2
theorem Wi {s_1:ac}{dJ:ac}{r}(h:zV s_1 dJ=some r):zW.F (CY (s_1,dJ))=some (CZ r):=aP (bp bH (aQ bH)) h
noncomputable def Wl :=aJ Tryz.f130
noncomputable def Pj :=cV [(166,zX)]
def Wj (x:ac×ac)(r:(List ac)):St→Prop:=QF Pj Tryz.f130 [false,false] (CY x) (CZ r)
theorem RN (s_1:ac)(dJ:ac)(r:(List ac))(h:zV s_1 dJ=some r):bP Pj Tryz.f130 [false,false] 0 (CY (s_1,dJ)) (CZ r):=by
 show Run _ _ (Wj (s_1,dJ) r) [.code Wl] _
 refine rI 8 [(0,str s_1),(1,str dJ)] [] 1 ?_
 unfold zV at h
 refine cq 8 [5,6] [str s_1,str dJ] 49 ?_
 obtain⟨r3,hr3,h⟩:=bS h
 refine oq 65 (.hs 49 0 [] 1 0 (r3.map str).length) rfl (cP (Wm hr3)) ?_
 refine cq 2 [4] [.hs 49 0 [] 1 0 (r3.map str).length] 81 ?_
 obtain rfl:=sI h
 exact bX rfl ⟨_,fin (vs:=[.hs 49 0 [] 1 0 (r3.map str).length]) rfl (d8 (eZ rfl (dm rfl rfl)) dX) rfl (d9 (d9 eC)),ez⟩
theorem Pk {G:cM}:cH G 130 zW:=gT 2 0 (aR Pm bU) cW Tryz.func130 (fun a r h=>RN a.1 a.2 r h)
def BL:((List ac)×ac)→List V:=cA (lc str) (oA str)
def BM (r:Int):V×List V:=(I r,[])
noncomputable def zq :=bx [false,false] BL BM fun x=>uR x.1 x.2
theorem VS {s_1:List ac}{v_2:ac}{r}(h:uR s_1 v_2=some r):zq.F (BL (s_1,v_2))=some (BM r):=aP (bp (d6 bH) (aQ bH)) h
noncomputable def Om :=aJ Tryz.f165
noncomputable def HR :=cV []
def Ol (x:(List ac)×ac)(r:Int):St→Prop:=QF HR Tryz.f165 [false,false] (BL x) (BM r)
theorem Kd (s_1:List ac)(v_2:ac):cJ HR 0 (Ol (s_1,v_2)) (cL (cL (cR (cL (cR Om))))) 0 (nT s_1 v_2) (fun u=>(sT 19 [] [] 1)) fun x3=>(sT 19 [(0,.isl false (s_1.map str)),(1,str v_2),(7,I (len s_1)),(8,I x3)] [] 1):=eF (xD s_1 v_2) fun {Q K} hK self ih x3 y h hr hn=>by
 unfold js at h
 refine cq 5 [9] [B (decide (x3<(len s_1)))] 17 ?_
 refine sq h ?_ ?_<;>intro h
 ·refine aq 1 ?_
  refine cq 12 [5,11,12,13] [I x3,str v_2,.isl false (s_1.map str),I x3] 97 ?_
  obtain⟨e4,he4,h⟩:=bS h
  refine oq 113 (.iptr (str e4) 0) rfl (an rfl rfl rfl (bC rfl rfl rfl rfl he4)) ?_
  refine cq 3 [16] [B (v_2==e4)] 145 ?_
  refine sq h ?_ ?_<;>intro h
  ·refine cq 5 [4] [I x3] 177 ?_
   exact bX rfl (hr _ (ap h) _ (qp [I x3]))
  ·refine aq 1 ?_
   refine cq 5 [8] [I (aj (x3+1))] 177 ?_
   refine dF ?_
   exact rf [0,1,7,8] [] (ih _ _ h hr hn :)
 ·refine aq 1 ?_
  exact rf [] [] (hn _ (ap h) :) (hk:=hK)
theorem Rf (s_1:List ac)(v_2:ac)(r:Int)(h:uR s_1 v_2=some r):bP HR Tryz.f165 [false,false] 0 (BL (s_1,v_2)) (BM r):=by
 show Run _ _ (Ol (s_1,v_2) r) [.code Om] _
 refine rI 19 [(0,.isl false (s_1.map str)),(1,str v_2)] [] 1 ?_
 unfold uR at h
 refine cq 8 [6] [.isl false (s_1.map str)] 33 ?_
 refine oq 49 (I (len s_1)) rfl (bG rfl rfl rfl (cF rfl)) ?_
 refine cq 3 [8] [I (0)] 65 ?_
 obtain⟨y5,hy5,hy51,hy52⟩:=bJ h
 refine b7 rfl ?_
 refine rf [0,1,7,8] [] (Kd s_1 v_2 rfl 0 _ hy5 (fun r' e st hq=>by rw[hy51 r' e] at hq;exact hq) fun u5 hu=>?_)
 replace h:=hy52 u5 hu
 refine cq 4 [4] [I (-1)] 17 ?_
 obtain rfl:=sI h
 exact rP [I (-1)]
theorem Oo {G:cM}:cH G 165 zq:=gT 2 0 bU cW Tryz.func165 (fun a r h=>Rf a.1 a.2 r h)
def BG:((List ac)×ac)→List V:=cA (lc str) (oA str)
def BH (r:Bool):V×List V:=(B r,[])
noncomputable def pX :=bx [false,false] BG BH fun x=>nS x.1 x.2
theorem HP {s_1:List ac}{v_2:ac}{r}(h:nS s_1 v_2=some r):pX.F (BG (s_1,v_2))=some (BH r):=aP (bp (d6 bH) (aQ bH)) h
noncomputable def VQ :=aJ Tryz.f129
noncomputable def Oh :=cV [(165,zq)]
def VP (x:(List ac)×ac)(r:Bool):St→Prop:=QF Oh Tryz.f129 [false,false] (BG x) (BH r)
theorem Rc (s_1:List ac)(v_2:ac)(r:Bool)(h:nS s_1 v_2=some r):bP Oh Tryz.f129 [false,false] 0 (BG (s_1,v_2)) (BH r):=by
 show Run _ _ (VP (s_1,v_2) r) [.code VQ] _
 refine rI 9 [(0,.isl false (s_1.map str)),(1,str v_2)] [] 1 ?_
 unfold nS at h
 refine cq 8 [5,6] [.isl false (s_1.map str),str v_2] 49 ?_
 obtain⟨r3,hr3,h⟩:=bS h
 refine oq 65 (I r3) rfl (cP (VS hr3)) ?_
 refine cq 3 [4] [B (decide (r3≥0))] 97 ?_
 obtain rfl:=sI h
 exact rP [B (decide (r3≥0))]
theorem uQ {G:cM}:cH G 129 pX:=gT 2 0 (aR Oo bU) cW Tryz.func129 (fun a r h=>Rc a.1 a.2 r h)
def Gz:ac→List V:=oA str
def GB (r:Bool):V×List V:=(B r,[])
noncomputable def sC :=bx [false] Gz GB fun x=>vv x
theorem GA {s_1:ac}{r}(h:vv s_1=some r):sC.F (Gz s_1)=some (GB r):=aP (aQ bH) h
noncomputable def ww :=aJ Tryz.f81
noncomputable abbrev qf :=cL (cL (cR (cL (cR (cR ww)))))
noncomputable abbrev CG :=cR (cR (cR qf))
noncomputable abbrev CH :=cR (cR (cR (cL (cL (cR (cR qf))))))
noncomputable def pt :=cV [(99,mC),(130,zW),(129,pX)]
def qH (x:ac)(r:Bool):St→Prop:=QF pt Tryz.f81 [false] (Gz x) (GB r)
theorem LW (s_1:ac):cJ pt 0 (qH s_1) qf 0 (vw s_1) (fun u=>(sT 46 [(0,str s_1)] [] 1)) fun x4=>(sT 46 [(0,str s_1),(20,I (len s_1)),(21,I x4)] [] 1):=eF (CI s_1) fun {Q K} hK self ih x4 y h hr hn=>by
 unfold nV at h
 refine cq 5 [22] [B (decide (x4<(len s_1)))] 17 ?_
 refine sq h ?_ ?_<;>intro h
 ·refine aq 1 ?_
  refine cq 11 [24,25] [str s_1,I x4] 81 ?_
  obtain⟨c5,hc5,h⟩:=bS h
  refine oq 97 (.int .u8 (c5.toNat:Int)) rfl (mF rfl rfl (qR rfl rfl hc5)) ?_
  refine cq 7 [4,29] [.int .u8 (c5.toNat:Int),B (decide ((c5.toNat:Int)<97))] 161 ?_
  obtain⟨u6,hu6,h⟩:=lJ h
  have j6:Run pt 0 Q (.code CH::.blk 1::.code CG::.lp qf::.blk 0::K) (sT 46 [(0,str s_1),(20,I (len s_1)),(21,I x4),(40,B u6)] [] 1):=by
   refine sq h ?_ ?_<;>intro h
   ·refine cq 4 [2] [B false] 17 ?_
    exact bX rfl (hr _ (ap h) _ (qp [B false]))
   ·refine aq 1 ?_
    refine cq 5 [21] [I (aj (x4+1))] 33 ?_
    refine dF ?_
    exact rf [0,20,21] [] (ih _ _ h hr hn :)
  replace h:=hu6
  clear hu6
  refine sp 29 h rfl ?_ ?_<;>intro h
  ·refine cq 7 [33,36] [B true,B (decide ((c5.toNat:Int)<48))] 273 ?_
   obtain⟨u7,hu7,h⟩:=lJ h
   have j7:Run pt 0 Q (.code CH::.blk 1::.code CG::.lp qf::.blk 0::K) (sT 46 [(0,str s_1),(20,I (len s_1)),(21,I x4),(40,B u7)] [] 1):=by
    subst h
    exact rf [0,20,21,40] [] (j6 :)
   replace h:=hu7
   clear hu7
   refine sp 36 h rfl ?_ ?_<;>intro h
   ·refine cq 5 [40] [B true] 337 ?_
    subst h
    exact rf [0,20,21,40] [] (j7 :)
   ·refine cq 5 [40] [B (decide ((c5.toNat:Int)>57))] 337 ?_
    subst h
    exact rf [0,20,21,40] [] (j7 :)
  ·refine cq 4 [33] [B (decide ((c5.toNat:Int)>122))] 225 ?_
   obtain⟨u8,hu8,h⟩:=lJ h
   have j8:Run pt 0 Q (.code CH::.blk 1::.code CG::.lp qf::.blk 0::K) (sT 46 [(0,str s_1),(20,I (len s_1)),(21,I x4),(40,B u8)] [] 1):=by
    subst h
    exact rf [0,20,21,40] [] (j6 :)
   replace h:=hu8
   clear hu8
   refine sp 33 h rfl ?_ ?_<;>intro h
   ·refine cq 3 [36] [B (decide ((c5.toNat:Int)<48))] 273 ?_
    obtain⟨u9,hu9,h⟩:=lJ h
    have j9:Run pt 0 Q (.code CH::.blk 1::.code CG::.lp qf::.blk 0::K) (sT 46 [(0,str s_1),(20,I (len s_1)),(21,I x4),(40,B u9)] [] 1):=by
     subst h
     exact rf [0,20,21,40] [] (j8 :)
    replace h:=hu9
    clear hu9
    refine sp 36 h rfl ?_ ?_<;>intro h
    ·refine cq 5 [40] [B true] 337 ?_
     subst h
     exact rf [0,20,21,40] [] (j9 :)
    ·refine cq 5 [40] [B (decide ((c5.toNat:Int)>57))] 337 ?_
     subst h
     exact rf [0,20,21,40] [] (j9 :)
   ·refine cq 8 [40] [B false] 337 ?_
    subst h
    exact rf [0,20,21,40] [] (j8 :)
 ·refine aq 1 ?_
  exact rf [0] [] (hn _ (ap h) :) (hk:=hK)
theorem TW (s_1:ac)(r:Bool)(h:vv s_1=some r):bP pt Tryz.f81 [false] 0 (Gz s_1) (GB r):=by
 show Run _ _ (qH s_1 r) [.code ww] _
 refine rI 46 [(0,str s_1)] [] 1 ?_
 unfold vv at h
 refine cq 9 [6] [I (len s_1)] 49 ?_
 obtain⟨r2,hr2,h⟩:=bS h
 refine oq 65 (B r2) rfl (cP (mY hr2)) ?_
 refine cq 2 [9] [B (!r2)] 97 ?_
 obtain⟨y3,hy3,hy31,hy32⟩:=bJ h
 have j3:∀u3,y3=.inr u3→Run pt 0 (qH s_1 r) (.code (cR (cL (cR ww)))::.code (cR (cR ww))::[]) (sT 46 [(0,str s_1),(18,B u3)] [] 1):=by
  intro u3 hu
  replace h:=hy32 u3 hu
  refine sq h ?_ ?_<;>intro h
  ·refine cq 4 [2] [B false] 17 ?_
   obtain rfl:=sI h
   exact rP [B false]
  ·refine aq 1 ?_
   refine cq 8 [20,21] [I (len s_1),I (0)] 49 ?_
   obtain⟨y10,hy10,hy101,hy102⟩:=bJ h
   refine b7 rfl ?_
   refine rf [0,20,21] [] (LW s_1 rfl 0 _ hy10 (fun r' e st hq=>by rw[hy101 r' e] at hq;exact hq) fun u10 hu=>?_)
   replace h:=hy102 u10 hu
   refine aq 2 ?_
   obtain⟨r11,hr11,h⟩:=bS h
   refine oq 17 (.hs 1 0 [] 1 0 (r11.map str).length) rfl (cP (Wi hr11)) ?_
   refine cq 1 [43] [str s_1] 33 ?_
   obtain⟨r12,hr12,h⟩:=bS h
   refine oq 49 (B r12) rfl (aV rfl rfl (bq rfl rfl rfl (bi (pm rfl rfl (eR (f:=str) (g:=str) (xs:=r11) rfl rfl (dB gw))) (bi (bI rfl) cu)) (HP hr12) (.inl rfl) cG rfl rfl rfl)) ?_
   refine cq 3 [2] [B (!r12)] 81 ?_
   obtain rfl:=sI h
   exact rP [B (!r12)]
 have r3:∀r',y3=.inl r'→∀st,qH s_1 r' st→(qH s_1 r) st:=fun r' e st hq=>by rw[hy31 r' e] at hq;exact hq
 replace h:=hy3
 refine sp 9 h rfl ?_ ?_<;>intro h
 ·refine cq 10 [18] [B true] 241 ?_
  exact rf [0,18] [] (j3 _ (ap h) :)
 ·refine cq 1 [10] [str s_1] 113 ?_
  obtain⟨c13,hc13,h⟩:=bS h
  refine oy 129 (.int .u8 (c13.toNat:Int)) rfl (mF rfl rfl (qR rfl rfl hc13)) ?_
  refine cq 3 [14] [B (decide ((c13.toNat:Int)<97))] 177 ?_
  obtain⟨y14,hy14,hy141,hy142⟩:=bL h
  have j14:∀u14,y14=.inr u14→Run pt 0 (qH s_1 r) (.code (cR (cL (cR ww)))::.code (cR (cR ww))::[]) (sT 46 [(0,str s_1),(18,B u14)] [] 1):=by
   intro u14 hu
   replace h:=hy142 u14 hu
   exact rf [0,18] [] (j3 _ (ap h) :)
  have r14:∀r',y14=.inl r'→∀st,qH s_1 r' st→(qH s_1 r) st:=fun r' e st hq=>r3 r' (hy141 r' e) st hq
  replace h:=hy14
  refine sp 14 h rfl ?_ ?_<;>intro h
  ·refine cq 5 [18] [B true] 241 ?_
   exact rf [0,18] [] (j14 _ (ap h) :)
  ·refine cq 1 [15] [str s_1] 193 ?_
   obtain⟨c15,hc15,h⟩:=bS h
   refine oy 209 (.int .u8 (c15.toNat:Int)) rfl (mF rfl rfl (qR rfl rfl hc15)) ?_
   refine cq 3 [18] [B (decide ((c15.toNat:Int)>122))] 241 ?_
   exact rf [0,18] [] (j14 _ (ap h) :)
theorem zP {G:cM}:cH G 81 sC:=gT 1 0 (aR nW (aR Pk (aR uQ bU))) cW Tryz.func81 (fun a r h=>TW a r h)
def GI:(List ac)→List V:=oA (lc str)
def GK (r:Bool):V×List V:=(B r,[])
noncomputable def EE :=bx [false] GI GK fun x=>Im x
theorem W4 {bl:List ac}{r}(h:Im bl=some r):EE.F (GI bl)=some (GK r):=aP (aQ (d6 bH)) h
noncomputable def Dc :=aJ Tryz.f98
noncomputable def GJ :=cV [(81,sC),(129,pX),(99,mC)]
def L3 (x:(List ac))(r:Bool):St→Prop:=QF GJ Tryz.f98 [false] (GI x) (GK r)
theorem L4 (bl:List ac):cJ GJ 0 (L3 bl) (cL (cL (cR (cL (cR Dc))))) 0 (vB bl) (fun u=>(sT 26 [(0,.isl false (bl.map str))] [] 1)) fun x2=>(sT 26 [(0,.isl false (bl.map str)),(5,.isl false (bl.map str)),(6,I (len bl)),(7,I x2)] [] 1):=eF (Dd bl) fun {Q K} hK self ih x2 y h hr hn=>by
 unfold lZ at h
 refine cq 5 [8] [B (decide (x2<(len bl)))] 17 ?_
 refine sq h ?_ ?_<;>intro h
 ·refine aq 1 ?_
  refine cq 5 [9] [I x2] 33 ?_
  obtain⟨e3,he3,h⟩:=bS h
  refine oq 49 (.iptr (str e3) 0) rfl (an rfl rfl rfl (bC rfl rfl rfl rfl he3)) ?_
  refine cq 7 [3,4,12] [I x2,str e3,str e3] 113 ?_
  obtain⟨r4,hr4,h⟩:=bS h
  refine oq 129 (B r4) rfl (cP (GA hr4)) ?_
  refine cq 2 [15] [B (!r4)] 161 ?_
  obtain⟨y5,hy5,hy51,hy52⟩:=bL h
  have j5:∀u5,y5=.inr u5→Run GJ 0 Q (.code (cR (cR (cL (cL (cR (cR (cL (cL (cR (cL (cR Dc)))))))))))::.blk 1::.code (cR (cR (cR (cL (cL (cR (cL (cR Dc))))))))::.lp (cL (cL (cR (cL (cR Dc)))))::.blk 0::K) (sT 26 [(0,.isl false (bl.map str)),(5,.isl false (bl.map str)),(6,I (len bl)),(7,I x2),(21,B u5)] [] 1):=by
   intro u5 hu
   replace h:=hy52 u5 hu
   refine sq h ?_ ?_<;>intro h
   ·refine cq 4 [2] [B false] 17 ?_
    exact bX rfl (hr _ (ap h) _ (qp [B false]))
   ·refine aq 1 ?_
    refine cq 5 [7] [I (aj (x2+1))] 33 ?_
    refine dF ?_
    exact rf [0,5,6,7] [] (ih _ _ h hr hn :)
  have r5:∀r',y5=.inl r'→∀st,L3 bl r' st→Q st:=fun r' e st hq=>hr r' (hy51 r' e) st hq
  replace h:=hy5
  refine sp 15 h rfl ?_ ?_<;>intro h
  ·refine cq 7 [21] [B true] 257 ?_
   exact rf [0,5,6,7,21] [] (j5 _ (ap h) :)
  ·refine cq 2 [16,17] [.isl false (bl.map str),I x2] 193 ?_
   obtain⟨s6,hs6,h⟩:=bS h
   refine oy 209 (.isl false (s6.map str)) rfl (hY rfl rfl rfl rfl (Qp rfl rfl (fun y=>(iL y).1) rfl rfl hs6)) ?_
   refine cq 1 [19] [str e3] 225 ?_
   obtain⟨r7,hr7,h⟩:=bS h
   refine oy 241 (B r7) rfl (cP (HP hr7)) ?_
   refine cq 2 [21] [B r7] 257 ?_
   exact rf [0,5,6,7,21] [] (j5 _ (ap h) :)
 ·refine aq 1 ?_
  exact rf [0] [] (hn _ (ap h) :) (hk:=hK)
theorem T4 (bl:List ac)(r:Bool)(h:Im bl=some r):bP GJ Tryz.f98 [false] 0 (GI bl) (GK r):=by
 show Run _ _ (L3 bl r) [.code Dc] _
 refine rI 26 [(0,.isl false (bl.map str))] [] 1 ?_
 unfold Im at h
 refine cq 8 [5] [.isl false (bl.map str)] 33 ?_
 refine oq 49 (I (len bl)) rfl (bG rfl rfl rfl (cF rfl)) ?_
 refine cq 3 [7] [I (0)] 65 ?_
 obtain⟨y8,hy8,hy81,hy82⟩:=bJ h
 refine b7 rfl ?_
 refine rf [0,5,6,7] [] (L4 bl rfl 0 _ hy8 (fun r' e st hq=>by rw[hy81 r' e] at hq;exact hq) fun u8 hu=>?_)
 replace h:=hy82 u8 hu
 refine cq 3 [23] [.isl false (bl.map str)] 17 ?_
 refine oq 33 (I (len bl)) rfl (bG rfl rfl rfl (cF rfl)) ?_
 obtain⟨r9,hr9,h⟩:=bS h
 refine oq 49 (B r9) rfl (cP (mY hr9)) ?_
 refine cq 2 [2] [B r9] 65 ?_
 obtain rfl:=sI h
 exact rP [B r9]
theorem RR {G:cM}:cH G 98 EE:=gT 1 0 (aR zP (aR uQ (aR nW bU))) cW Tryz.func98 (fun a r h=>T4 a r h)
def GN:(Clause×ac)→List V:=cA ao (oA (fun x:ac=>.iptr (str x) 0))
def GO (r:Bool):V×List V:=(B r,[])
noncomputable def EG :=bx [false,false] GN GO fun x=>Pp x.1 x.2
theorem W7 {x_1:Clause}{a_2:ac}{r}(h:Pp x_1 a_2=some r):EG.F (GN (x_1,a_2))=some (GO r):=aP (bp cC (aQ (tM bH))) h
noncomputable def W9 :=aJ Tryz.f175
noncomputable def Tg :=cV []
def W8 (x:Clause×ac)(r:Bool):St→Prop:=QF Tg Tryz.f175 [false,false] (GN x) (GO r)
theorem T6 (x_1:Clause)(a_2:ac)(r:Bool)(h:Pp x_1 a_2=some r):bP Tg Tryz.f175 [false,false] 0 (GN (x_1,a_2)) (GO r):=by
 show Run _ _ (W8 (x_1,a_2) r) [.code W9] _
 refine rI 8 [(0,ak x_1),(1,.iptr (str a_2) 0)] [] 1 ?_
 unfold Pp at h
 refine cq 13 [3] [B (x_1.Id==a_2)] 113 ?_
 obtain rfl:=sI h
 exact rP [B (x_1.Id==a_2)]
theorem RT {G:cM}:cH G 175 EG:=gT 2 0 bU cW Tryz.func175 (fun a r h=>T6 a.1 a.2 r h)
def BI:((List Clause)×ac)→List V:=cA (lc ao) (oA (fun x:ac=>(.fn 175 [.iptr (str x) 0]:V)))
def BK (r:Int):V×List V:=(I r,[])
noncomputable def zp :=bx [false,false] BI BK fun x=>Et x.1 x.2
theorem VR {s_1:List Clause}{f_2:ac}{r}(h:Et s_1 f_2=some r):zp.F (BI (s_1,f_2))=some (BK r):=aP (bp (d6 cC) (aQ (UM bH))) h
noncomputable def Oj :=aJ Tryz.f110
noncomputable def HQ :=cV [(175,EG)]
def Oi (x:(List Clause)×ac)(r:Int):St→Prop:=QF HQ Tryz.f110 [false,false] (BI x) (BK r)
theorem Kc (s_1:List Clause)(f_2:ac):cJ HQ 0 (Oi (s_1,f_2)) (cL (cL (cR (cL (cR Oj))))) 0 (sf s_1 f_2) (fun u=>(sT 19 [] [] 1)) fun x3=>(sT 19 [(0,.isl false (s_1.map ao)),(1,.fn 175 [.iptr (str f_2) 0]),(7,I (len s_1)),(8,I x3)] [] 1):=eF (xC s_1 f_2) fun {Q K} hK self ih x3 y h hr hn=>by
 unfold mq at h
 refine cq 5 [9] [B (decide (x3<(len s_1)))] 17 ?_
 refine sq h ?_ ?_<;>intro h
 ·refine aq 1 ?_
  refine cq 12 [5,11,12,13] [I x3,.fn 175 [.iptr (str f_2) 0],.isl false (s_1.map ao),I x3] 97 ?_
  obtain⟨e4,he4,h⟩:=bS h
  refine oq 113 (.iptr (ak e4) 0) rfl (an rfl rfl rfl (bC rfl rfl rfl rfl he4)) ?_
  refine cq 1 [15] [ak e4] 129 ?_
  obtain⟨r5,hr5,h⟩:=bS h
  refine oq 145 (B r5) rfl (cP (W7 hr5)) ?_
  refine aq 1 ?_
  refine sq h ?_ ?_<;>intro h
  ·refine cq 5 [4] [I x3] 177 ?_
   exact bX rfl (hr _ (ap h) _ (qp [I x3]))
  ·refine aq 1 ?_
   refine cq 5 [8] [I (aj (x3+1))] 177 ?_
   refine dF ?_
   exact rf [0,1,7,8] [] (ih _ _ h hr hn :)
 ·refine aq 1 ?_
  exact rf [] [] (hn _ (ap h) :) (hk:=hK)
theorem Re (s_1:List Clause)(f_2:ac)(r:Int)(h:Et s_1 f_2=some r):bP HQ Tryz.f110 [false,false] 0 (BI (s_1,f_2)) (BK r):=by
 show Run _ _ (Oi (s_1,f_2) r) [.code Oj] _
 refine rI 19 [(0,.isl false (s_1.map ao)),(1,.fn 175 [.iptr (str f_2) 0])] [] 1 ?_
 unfold Et at h
 refine cq 8 [6] [.isl false (s_1.map ao)] 33 ?_
 refine oq 49 (I (len s_1)) rfl (bG rfl rfl rfl (cF rfl)) ?_
 refine cq 3 [8] [I (0)] 65 ?_
 obtain⟨y6,hy6,hy61,hy62⟩:=bJ h
 refine b7 rfl ?_
 refine rf [0,1,7,8] [] (Kc s_1 f_2 rfl 0 _ hy6 (fun r' e st hq=>by rw[hy61 r' e] at hq;exact hq) fun u6 hu=>?_)
 replace h:=hy62 u6 hu
 refine cq 4 [4] [I (-1)] 17 ?_
 obtain rfl:=sI h
 exact rP [I (-1)]
theorem Ok {G:cM}:cH G 110 zp:=gT 2 0 (aR RT bU) cW Tryz.func110 (fun a r h=>Re a.1 a.2 r h)
def GL:(Contract×ac)→List V:=cA aI (oA str)
def GM (r:Int):V×List V:=(I r,[])
noncomputable def EF :=bx [false,false] GL GM fun x=>De x.1 x.2
theorem Tf {c_1:Contract}{eG:ac}{r}(h:De c_1 eG=some r):EF.F (GL (c_1,eG))=some (GM r):=aP (bp bB (aQ bH)) h
noncomputable def W6 :=aJ Tryz.f140
noncomputable def Te :=cV [(110,zp)]
def W5 (x:Contract×ac)(r:Int):St→Prop:=QF Te Tryz.f140 [false,false] (GL x) (GM r)
theorem T5 (c_1:Contract)(eG:ac)(r:Int)(h:De c_1 eG=some r):bP Te Tryz.f140 [false,false] 0 (GL (c_1,eG)) (GM r):=by
 show Run _ _ (W5 (c_1,eG) r) [.code W6] _
 refine rI 9 [(0,ai c_1),(1,str eG)] [] 1 ?_
 unfold De at h
 refine ck 11 [6,7] [] [17] [] [.isl false (c_1.Clauses.map ao),.fn 175 [.hp 17 0 [] 1 0 0]] [some ⟨0,1,[str eG]⟩] 97 (by kernel_rfl) ?_
 obtain⟨r3,hr3,h⟩:=bS h
 refine oq 113 (I r3) rfl (aV rfl rfl (bq rfl rfl rfl (bi (bI rfl) (bi (XS (la (Ek (path:=[]) rfl rfl aG rfl rfl) yx)) cu)) (VR hr3) (.inl rfl) cG rfl rfl rfl)) ?_
 refine cq 2 [4] [I r3] 129 ?_
 obtain rfl:=sI h
 exact rP [I r3]
theorem RS {G:cM}:cH G 140 EF:=gT 2 0 (aR Ok bU) cW Tryz.func140 (fun a r h=>T5 a.1 a.2 r h)
def GX:Int→List V:=oA I
def GZ (r:Bool):V×List V:=(B r,[])
noncomputable def EM :=bx [false] GX GZ fun x=>sG x
theorem GY {gy:Int}{r}(h:sG gy=some r):EM.F (GX gy)=some (GZ r):=aP (aQ cf) h
noncomputable def Xf :=aJ Tryz.f78
noncomputable def Tl :=cV [(99,mC)]
def Xe (x:Int)(r:Bool):St→Prop:=QF Tl Tryz.f78 [false] (GX x) (GZ r)
theorem Ue (gy:Int)(r:Bool)(h:sG gy=some r):bP Tl Tryz.f78 [false] 0 (GX gy) (GZ r):=by
 show Run _ _ (Xe gy r) [.code Xf] _
 refine rI 5 [(0,I gy)] [] 1 ?_
 unfold sG at h
 refine cq 7 [3] [I gy] 33 ?_
 obtain⟨r2,hr2,h⟩:=bS h
 refine oq 49 (B r2) rfl (cP (mY hr2)) ?_
 refine cq 2 [2] [B r2] 65 ?_
 obtain rfl:=sI h
 exact rP [B r2]
theorem R1 {G:cM}:cH G 78 EM:=gT 1 0 (aR nW bU) cW Tryz.func78 (fun a r h=>Ue a r h)
def Dg:(Condition×Int)→List V:=cA aD (oA I)
def Dh (r:Int):V×List V:=(I r,[])
noncomputable def Aa (aM:(Condition×Int)→Option Int):Ent:=bx [false,false] Dg Dh aM
theorem Pr (aM:(Condition×Int)→Option Int){x}{r}(h:aM x=some r):(Aa aM).F (Dg x)=some (Dh r):=aP (bp ba (aQ cf)) h
noncomputable def EI :=Aa (aA lP)
theorem Xb {c_1:Condition}{cn:Int}{r}(h:Pq c_1 cn=some r):EI.F (Dg (c_1,cn))=some (Dh r):=Pr (aA lP) h
noncomputable def tu :=aJ Tryz.f176
noncomputable abbrev oP :=cR (cR (cR (cR (cR tu))))
noncomputable abbrev qg :=cR (cL (cR (cR (cR (cR tu)))))
noncomputable def lO (aM:(Condition×Int)→Option Int):Env:=cV [(176,(Aa aM)),(81,sC),(78,EM),(99,mC)]
def eO (aM:(Condition×Int)→Option Int)(x:Condition×Int)(r:Int):St→Prop:=QF (lO aM) Tryz.f176 [false,false] (Dg x) (Dh r)
theorem L7 (aM:(Condition×Int)→Option Int)(c_1:Condition)(cn:Int):cJ (lO aM) 0 (eO aM (c_1,cn)) (cL (cL (cR (cL oP)))) 0 (lI aM c_1 cn) (fun u=>(sT 78 [(1,I u)] [] 1)) fun x5=>(sT 78 [(1,I x5.1),(65,.isl false (c_1.Parts.map ar)),(66,I (len c_1.Parts)),(67,I x5.2)] [] 1):=eF (Di aM c_1 cn) fun {Q K} hK self ih x5 y h hr hn=>by
 unfold kN at h
 refine cq 5 [68] [B (decide (x5.2<(len c_1.Parts)))] 17 ?_
 refine sq h ?_ ?_<;>intro h
 ·refine aq 1 ?_
  refine aq 4 ?_
  obtain⟨e6,he6,h⟩:=bS h
  refine oq 33 (.iptr (aa e6) 0) rfl (an rfl rfl rfl (bC rfl rfl (aY e6) rfl he6)) ?_
  refine ck 2 [7,70] [] [49] [] [.hp 49 0 [] 4 0 0,aa e6] [some ⟨0,4,[.agg [I (0),str ([]),I (0),.isl true []]]⟩] 65 (by kernel_rfl) ?_
  refine fx 49 [.agg [I (0),str ([]),I (0),.usl 4 (([]).map ae)]] rfl rfl (az (gf (az (.refl _) (az (.refl _) (az (.refl _) (az (.nil _) eh))))) eh) ?_
  refine ck 6 [71,72] [] [49] [] [aa e6,I x5.1] [some ⟨2,4,[aa e6]⟩] 113 (by kernel_rfl) ?_
  obtain⟨r7,hr7,h⟩:=bS h
  refine oq 129 (I r7) rfl (aV rfl rfl (bq rfl rfl rfl (bi (bI rfl) (bi (bI rfl) cu)) (Pr aM hr7) (.inr rfl) cG rfl rfl rfl)) ?_
  refine cq 7 [1,75] [I r7,B (decide (r7<0))] 177 ?_
  refine sq h ?_ ?_<;>intro h
  ·refine cq 4 [4] [I (-1)] 193 ?_
   exact bX rfl (hr _ (ap h) _ (qp [I (-1)]))
  ·refine aq 1 ?_
   refine cq 5 [67] [I (aj (x5.2+1))] 209 ?_
   refine dF ?_
   exact rf [1,65,66,67] [] (ih _ _ h hr hn :)
 ·refine aq 1 ?_
  exact rf [1] [] (hn _ (ap h) :) (hk:=hK)
theorem T9 (aM:(Condition×Int)→Option Int)(c_1:Condition)(cn:Int)(r:Int)(h:wC aM c_1 cn=some r):bP (lO aM) Tryz.f176 [false,false] 0 (Dg (c_1,cn)) (Dh r):=by
 show Run _ _ (eO aM (c_1,cn) r) [.code tu] _
 refine rI 78 [(0,aa c_1),(1,I cn)] [] 1 ?_
 unfold wC at h
 refine ck 13 [1,2] [] [1] [] [I (aj (cn+1)),.hp 1 0 [] 4 0 0] [some ⟨0,4,[aa c_1]⟩] 81 (by kernel_rfl) ?_
 refine oq 97 (.hs 81 0 [] 1 0 7) rfl (bV rfl (fb (f:=I) (xs:=[]) (z:=I (0)) (es:=[I (-1),I (0),I (0),I (0),I (1),I (2),I (2)]) (ws:=[I (-1),I (0),I (0),I (0),I (1),I (2),I (2)]) rfl rfl rfl (by decide) rfl (bw rfl) rfl)) ?_
 refine cq 4 [5] [.hs 81 0 [] 1 0 7] 113 ?_
 refine fp [0,1,3,7,15,31,63,127,255,511,1023,2047,511,511,8703,29183,61951,131071,262143] rfl (by decide +kernel) ?_
 refine dk 3 [13,12,11] [B (decide ((aj (cn+1))>15)),B (decide ((aj (cn+1))>15)),I (aj (cn+1))] ?_
 obtain⟨y3,hy3,hy31,hy32⟩:=bJ h
 have j3:∀u3,y3=.inr u3→Run (lO aM) 0 (eO aM (c_1,cn) r) (.code (cR (cL (cR (cR (cR tu)))))::.code (cR (cR (cR (cR tu))))::[]) (sT 78 [(1,I (aj (cn+1))),(2,.hp 1 0 [] 4 0 0),(29,B u3)] [⟨0,4,[aa c_1]⟩] 2):=by
  intro u3 hu
  replace h:=hy32 u3 hu
  refine sq h ?_ ?_<;>intro h
  ·refine cq 4 [4] [I (-1)] 18 ?_
   obtain rfl:=sI h
   exact rP [I (-1)]
  ·refine aq 1 ?_
   refine cq 11 [37] [B (!((c_1.Op==2)==(!(c_1.Name==([]:ac)))))] 130 ?_
   obtain⟨y4,hy4,hy41,hy42⟩:=bJ h
   have j4:∀u4,y4=.inr u4→Run (lO aM) 0 (eO aM (c_1,cn) r) (.code qg::.code oP::[]) (sT 78 [(1,I (aj (cn+1))),(2,.hp 1 0 [] 4 0 0),(63,B u4)] [⟨0,4,[aa c_1]⟩] 2):=by
    intro u4 hu
    replace h:=hy42 u4 hu
    refine sq h ?_ ?_<;>intro h
    ·refine cq 4 [4] [I (-1)] 18 ?_
     obtain rfl:=sI h
     exact rP [I (-1)]
    ·refine aq 1 ?_
     refine cq 5 [65] [.isl false (c_1.Parts.map ar)] 34 ?_
     refine oq 50 (I (len c_1.Parts)) rfl (bG rfl rfl rfl (cF rfl)) ?_
     refine cq 3 [67] [I (0)] 66 ?_
     obtain⟨y8,hy8,hy81,hy82⟩:=bJ h
     refine b7 rfl ?_
     refine rf [1,65,66,67] [] (L7 aM c_1 cn rfl ((aj (cn+1)),0) _ hy8 (fun r' e st hq=>by rw[hy81 r' e] at hq;exact hq) fun u8 hu=>?_)
     replace h:=hy82 u8 hu
     refine cq 5 [4] [I u8] 33 ?_
     obtain rfl:=sI h
     exact rP [I u8]
   have r4:∀r',y4=.inl r'→∀st,eO aM (c_1,cn) r' st→(eO aM (c_1,cn) r) st:=fun r' e st hq=>by rw[hy41 r' e] at hq;exact hq
   replace h:=hy4
   refine sp 37 h rfl ?_ ?_<;>intro h
   ·refine cq 27 [63] [B true] 546 ?_
    exact rf [1,2,63] [1] (j4 _ (ap h) :)
   ·refine cq 4 [41] [B (c_1.Op==2)] 194 ?_
    obtain⟨y9,hy9,hy91,hy92⟩:=bL h
    have j9:∀u9,y9=.inr u9→Run (lO aM) 0 (eO aM (c_1,cn) r) (.code qg::.code oP::[]) (sT 78 [(1,I (aj (cn+1))),(2,.hp 1 0 [] 4 0 0),(63,B u9)] [⟨0,4,[aa c_1]⟩] 2):=by
     intro u9 hu
     replace h:=hy92 u9 hu
     exact rf [1,2,63] [1] (j4 _ (ap h) :)
    have r9:∀r',y9=.inl r'→∀st,eO aM (c_1,cn) r' st→(eO aM (c_1,cn) r) st:=fun r' e st hq=>r4 r' (hy91 r' e) st hq
    replace h:=hy9
    refine sp 41 h rfl ?_ ?_<;>intro h
    ·refine cq 2 [43] [str c_1.Name] 226 ?_
     obtain⟨r10,hr10,h⟩:=bS h
     refine oy 242 (B r10) rfl (cP (GA hr10)) ?_
     refine cq 4 [48] [B (!r10)] 306 ?_
     obtain⟨y11,hy11,hy111,hy112⟩:=bL h
     have j11:∀u11,y11=.inr u11→Run (lO aM) 0 (eO aM (c_1,cn) r) (.code qg::.code oP::[]) (sT 78 [(1,I (aj (cn+1))),(2,.hp 1 0 [] 4 0 0),(63,B u11)] [⟨0,4,[aa c_1]⟩] 2):=by
      intro u11 hu
      replace h:=hy112 u11 hu
      exact rf [1,2,63] [1] (j9 _ (ap h) :)
     have r11:∀r',y11=.inl r'→∀st,eO aM (c_1,cn) r' st→(eO aM (c_1,cn) r) st:=fun r' e st hq=>r9 r' (hy111 r' e) st hq
     replace h:=hy11
     refine sp 48 h rfl ?_ ?_<;>intro h
     ·refine cq 16 [63] [B true] 546 ?_
      exact rf [1,2,63] [1] (j11 _ (ap h) :)
     ·refine cq 4 [52] [B (c_1.Op != 3)] 370 ?_
      obtain⟨y12,hy12,hy121,hy122⟩:=bL h
      have j12:∀u12,y12=.inr u12→Run (lO aM) 0 (eO aM (c_1,cn) r) (.code qg::.code oP::[]) (sT 78 [(1,I (aj (cn+1))),(2,.hp 1 0 [] 4 0 0),(63,B u12)] [⟨0,4,[aa c_1]⟩] 2):=by
       intro u12 hu
       replace h:=hy122 u12 hu
       exact rf [1,2,63] [1] (j11 _ (ap h) :)
      have r12:∀r',y12=.inl r'→∀st,eO aM (c_1,cn) r' st→(eO aM (c_1,cn) r) st:=fun r' e st hq=>r11 r' (hy121 r' e) st hq
      replace h:=hy12
      refine sp 52 h rfl ?_ ?_<;>intro h
      ·refine cq 6 [58] [B (c_1.Day != 0)] 466 ?_
       obtain⟨y13,hy13,hy131,hy132⟩:=bL h
       have j13:∀u13,y13=.inr u13→Run (lO aM) 0 (eO aM (c_1,cn) r) (.code qg::.code oP::[]) (sT 78 [(1,I (aj (cn+1))),(2,.hp 1 0 [] 4 0 0),(63,B u13)] [⟨0,4,[aa c_1]⟩] 2):=by
        intro u13 hu
        replace h:=hy132 u13 hu
        exact rf [1,2,63] [1] (j12 _ (ap h) :)
       have r13:∀r',y13=.inl r'→∀st,eO aM (c_1,cn) r' st→(eO aM (c_1,cn) r) st:=fun r' e st hq=>r12 r' (hy131 r' e) st hq
       replace h:=hy13
       refine sp 58 h rfl ?_ ?_<;>intro h
       ·refine cq 6 [63] [B true] 546 ?_
        exact rf [1,2,63] [1] (j13 _ (ap h) :)
       ·refine cq 2 [60] [I c_1.Day] 498 ?_
        obtain⟨r14,hr14,h⟩:=bS h
        refine oy 514 (B r14) rfl (cP (GY hr14)) ?_
        refine cq 3 [63] [B (!r14)] 546 ?_
        exact rf [1,2,63] [1] (j13 _ (ap h) :)
      ·refine cq 8 [58,60] [B false,I c_1.Day] 498 ?_
       obtain⟨r15,hr15,h⟩:=bS h
       refine oy 514 (B r15) rfl (cP (GY hr15)) ?_
       refine cq 3 [63] [B (!r15)] 546 ?_
       exact rf [1,2,63] [1] (j12 _ (ap h) :)
    ·refine cq 11 [48,52] [B false,B (c_1.Op != 3)] 370 ?_
     obtain⟨y16,hy16,hy161,hy162⟩:=bL h
     have j16:∀u16,y16=.inr u16→Run (lO aM) 0 (eO aM (c_1,cn) r) (.code qg::.code oP::[]) (sT 78 [(1,I (aj (cn+1))),(2,.hp 1 0 [] 4 0 0),(63,B u16)] [⟨0,4,[aa c_1]⟩] 2):=by
      intro u16 hu
      replace h:=hy162 u16 hu
      exact rf [1,2,63] [1] (j9 _ (ap h) :)
     have r16:∀r',y16=.inl r'→∀st,eO aM (c_1,cn) r' st→(eO aM (c_1,cn) r) st:=fun r' e st hq=>r9 r' (hy161 r' e) st hq
     replace h:=hy16
     refine sp 52 h rfl ?_ ?_<;>intro h
     ·refine cq 6 [58] [B (c_1.Day != 0)] 466 ?_
      obtain⟨y17,hy17,hy171,hy172⟩:=bL h
      have j17:∀u17,y17=.inr u17→Run (lO aM) 0 (eO aM (c_1,cn) r) (.code qg::.code oP::[]) (sT 78 [(1,I (aj (cn+1))),(2,.hp 1 0 [] 4 0 0),(63,B u17)] [⟨0,4,[aa c_1]⟩] 2):=by
       intro u17 hu
       replace h:=hy172 u17 hu
       exact rf [1,2,63] [1] (j16 _ (ap h) :)
      have r17:∀r',y17=.inl r'→∀st,eO aM (c_1,cn) r' st→(eO aM (c_1,cn) r) st:=fun r' e st hq=>r16 r' (hy171 r' e) st hq
      replace h:=hy17
      refine sp 58 h rfl ?_ ?_<;>intro h
      ·refine cq 6 [63] [B true] 546 ?_
       exact rf [1,2,63] [1] (j17 _ (ap h) :)
      ·refine cq 2 [60] [I c_1.Day] 498 ?_
       obtain⟨r18,hr18,h⟩:=bS h
       refine oy 514 (B r18) rfl (cP (GY hr18)) ?_
       refine cq 3 [63] [B (!r18)] 546 ?_
       exact rf [1,2,63] [1] (j17 _ (ap h) :)
     ·refine cq 8 [58,60] [B false,I c_1.Day] 498 ?_
      obtain⟨r19,hr19,h⟩:=bS h
      refine oy 514 (B r19) rfl (cP (GY hr19)) ?_
      refine cq 3 [63] [B (!r19)] 546 ?_
      exact rf [1,2,63] [1] (j16 _ (ap h) :)
 have r3:∀r',y3=.inl r'→∀st,eO aM (c_1,cn) r' st→(eO aM (c_1,cn) r) st:=fun r' e st hq=>by rw[hy31 r' e] at hq;exact hq
 replace h:=hy3
 refine sp 13 h rfl ?_ ?_<;>intro h
 ·refine dk 16 [29,28,27,26,25,24,23,22,21,20,19,18,17,16,15,14] [B true,.und,.und,.und,.und,.und,.und,.und,.und,.und,B true,B true,.und,.und,.und,.und] ?_
  refine de 417 rfl rfl ?_
  exact rf [1,2,29] [1] (j3 _ (ap h) :)
 ·refine dy [1] [] (.hp 1 0 [] 4 0 0) rfl (dQ rfl rfl rfl) ?_
  refine dy [1] [] (I c_1.Op) rfl (cQ rfl rfl) ?_
  obtain⟨r20,hr20,h⟩:=bS h
  refine dy [] [] (B r20) rfl (cP (mY hr20)) ?_ (dW rfl rfl rfl rfl (bi (bI rfl) (bi (bI rfl) (bi (bI rfl) cu))) (mY hr20) (.inr rfl) rfl)
  refine dk 3 [19,18,17] [B (!r20),B (!r20),B (!r20)] ?_
  obtain⟨y21,hy21,hy211,hy212⟩:=bL h
  have j21:∀u21,y21=.inr u21→Run (lO aM) 0 (eO aM (c_1,cn) r) (.code (cR (cL (cR (cR (cR tu)))))::.code (cR (cR (cR (cR tu))))::[]) (sT 78 [(1,I (aj (cn+1))),(2,.hp 1 0 [] 4 0 0),(29,B u21)] [⟨0,4,[aa c_1]⟩] 2):=by
   intro u21 hu
   replace h:=hy212 u21 hu
   exact rf [1,2,29] [1] (j3 _ (ap h) :)
  have r21:∀r',y21=.inl r'→∀st,eO aM (c_1,cn) r' st→(eO aM (c_1,cn) r) st:=fun r' e st hq=>r3 r' (hy211 r' e) st hq
  replace h:=hy21
  refine sp 19 h rfl ?_ ?_<;>intro h
  ·refine dk 10 [29,28,27,26,25,24,23,22,21,20] [B true,.und,.und,.und,.und,.und,.und,.und,.und,.und] ?_
   refine de 417 rfl rfl ?_
   exact rf [1,2,29] [1] (j21 _ (ap h) :)
  ·refine dy [1] [] (.hp 1 0 [] 4 0 3) rfl (dQ rfl rfl rfl) ?_
   refine dy [1] [] (.isl false (c_1.Parts.map ar)) rfl (cQ rfl rfl) ?_
   refine dy [] [] (I (len c_1.Parts)) rfl (bG rfl rfl rfl (cF rfl)) ?_
   refine dk 1 [23] [.hs 81 0 [] 1 0 7] ?_
   refine dy [1] [] (.hp 1 0 [] 4 0 0) rfl (dQ rfl rfl rfl) ?_
   refine dy [1] [] (I c_1.Op) rfl (cQ rfl rfl) ?_
   obtain⟨e22,he22,h⟩:=bS h
   refine dy [81] [] (.hp 81 0 [] 1 (0+Int.toNat c_1.Op) 0) rfl (an rfl rfl rfl (dG (f:=I) (xs:=[(-1),0,0,0,1,2,2]) rfl rfl rfl he22)) ?_
   refine dy [81] [] (I e22) rfl (cQ rfl (iH (path:=[]) rfl rfl rfl aG (cX (f:=I) (xs:=[(-1),0,0,0,1,2,2]) he22) rfl rfl rfl)) ?_
   refine dk 2 [29,28] [B ((len c_1.Parts) != e22),B ((len c_1.Parts) != e22)] ?_
   refine de 417 rfl rfl ?_
   exact rf [1,2,29] [1] (j21 _ (ap h) :)
theorem RV {G:cM}:cH G 176 EI:=gp fun aM g_Ffl=>gT 2 0 (aR g_Ffl (aR zP (aR R1 (aR nW bU)))) cW Tryz.func176 (fun a r h=>T9 aM a.1 a.2 r h)
def Gt:Condition→List V:=oA aD
def Gu (r:Bool):V×List V:=(B r,[])
noncomputable def Eq :=bx [false] Gt Gu fun x=>Ht x
theorem WY {c_1:Condition}{r}(h:Ht c_1=some r):Eq.F (Gt c_1)=some (Gu r):=aP (aQ ba) h
noncomputable def W1 :=aJ Tryz.f141
noncomputable def Tb :=cV [(176,EI)]
def WZ (x:Condition)(r:Bool):St→Prop:=QF Tb Tryz.f141 [false] (Gt x) (Gu r)
theorem TN (c_1:Condition)(r:Bool)(h:Ht c_1=some r):bP Tb Tryz.f141 [false] 0 (Gt c_1) (Gu r):=by
 show Run _ _ (WZ c_1 r) [.code W1] _
 refine rI 6 [(0,aa c_1)] [] 1 ?_
 unfold Ht at h
 refine cq 8 [3] [aa c_1] 49 ?_
 obtain⟨r2,hr2,h⟩:=bS h
 refine oq 65 (I r2) rfl (cP (Xb hr2)) ?_
 refine cq 3 [2] [B (decide (r2>0))] 97 ?_
 obtain rfl:=sI h
 exact rP [B (decide (r2>0))]
theorem QI {G:cM}:cH G 141 Eq:=gT 1 0 (aR RV bU) cW Tryz.func141 (fun a r h=>TN a r h)
def GV:(Contract×Int)→List V:=cA aI (oA I)
def GW (r:Bool):V×List V:=(B r,[])
noncomputable def EL :=bx [false,false] GV GW fun x=>Iq x.1 x.2
theorem Xd {c_1:Contract}{i_2:Int}{r}(h:Iq c_1 i_2=some r):EL.F (GV (c_1,i_2))=some (GW r):=aP (bp bB (aQ cf)) h
noncomputable def lj :=aJ Tryz.f100
noncomputable abbrev Ir :=cR (cL (cR (cR (cR (cR lj)))))
noncomputable abbrev vC :=cR (cR (cR (cR (cR (cR lj)))))
noncomputable abbrev Dn :=cR (cL (cR (cR (cR (cR (cR lj))))))
noncomputable abbrev Iu :=cR (cR (cR vC))
noncomputable def jx :=cV [(81,sC),(99,mC),(140,EF),(141,Eq)]
def ef (x:Contract×Int)(r:Bool):St→Prop:=QF jx Tryz.f100 [false,false] (GV x) (GW r)
theorem Ud (c_1:Contract)(i_2:Int)(r:Bool)(h:Iq c_1 i_2=some r):bP jx Tryz.f100 [false,false] 0 (GV (c_1,i_2)) (GW r):=by
 show Run _ _ (ef (c_1,i_2) r) [.code lj] _
 refine rI 119 [(0,ai c_1),(1,I i_2)] [] 1 ?_
 unfold Iq at h
 refine ck 10 [2,9,10] [] [1] [] [.hp 1 0 [] 2 0 0,.isl false (c_1.Clauses.map ao),I i_2] [some ⟨0,2,[ai c_1]⟩] 81 (by kernel_rfl) ?_
 obtain⟨e3,he3,h⟩:=bS h
 refine oq 97 (.iptr (ak e3) 0) rfl (an rfl rfl rfl (bC rfl rfl rfl rfl he3)) ?_
 refine ck 2 [5,12] [] [113] [] [.hp 113 0 [] 12 0 0,ak e3] [some ⟨0,12,[.agg [str ([]),I (0),I (0),str ([]),I (0),I (0),I (0),str ([]),I (0),.isl true [],I (0),str ([])]]⟩] 129 (by kernel_rfl) ?_
 refine fx 113 [.agg [str ([]),I (0),I (0),str ([]),I (0),I (0),I (0),str ([]),I (0),.usl 4 (([]).map ae),I (0),str ([])]] rfl rfl (az (gf (az (.refl _) (az (.refl _) (az (.refl _) (az (.refl _) (az (.refl _) (az (.refl _) (az (.refl _) (az (.refl _) (az (.refl _) (az (.nil _) (az (.refl _) (az (.refl _) eh))))))))))))) eh) ?_
 refine ck 6 [14] [] [113] [] [.isl false (c_1.Parties.map str)] [some ⟨2,12,[ak e3]⟩] 177 (by kernel_rfl) ?_
 refine oq 193 (I (len c_1.Parties)) rfl (bG rfl rfl rfl (cF rfl)) ?_
 refine cq 8 [6,18] [I (aj ((len c_1.Parties) - 1)),str e3.Id] 257 ?_
 obtain⟨r4,hr4,h⟩:=bS h
 refine oq 273 (B r4) rfl (cP (GA hr4)) ?_
 refine cq 2 [21] [B (!r4)] 305 ?_
 obtain⟨y5,hy5,hy51,hy52⟩:=bJ h
 have j5:∀u5,y5=.inr u5→Run jx 0 (ef (c_1,i_2) r) (.code (cR (cL (cR (cR (cR lj)))))::.code (cR (cR (cR (cR lj))))::[]) (sT 119 [(1,I i_2),(2,.hp 1 0 [] 2 0 0),(5,.hp 2 0 [] 12 0 0),(6,I (aj ((len c_1.Parties) - 1))),(40,B u5)] [⟨0,2,[ai c_1]⟩,⟨0,12,[ak e3]⟩] 3):=by
  intro u5 hu
  replace h:=hy52 u5 hu
  refine sq h ?_ ?_<;>intro h
  ·refine cq 4 [4] [B false] 19 ?_
   obtain rfl:=sI h
   exact rP [B false]
  ·refine aq 1 ?_
   refine cq 6 [42,43] [I e3.Party,I (aj ((len c_1.Parties) - 1))] 51 ?_
   obtain⟨r6,hr6,h⟩:=bS h
   refine oq 67 (B r6) rfl (cP (mY hr6)) ?_
   refine cq 2 [46] [B (!r6)] 99 ?_
   obtain⟨y7,hy7,hy71,hy72⟩:=bJ h
   have j7:∀u7,y7=.inr u7→Run jx 0 (ef (c_1,i_2) r) (.code Ir::.code (cR (cR (cR (cR (cR lj)))))::[]) (sT 119 [(1,I i_2),(2,.hp 1 0 [] 2 0 0),(5,.hp 2 0 [] 12 0 0),(65,B u7)] [⟨0,2,[ai c_1]⟩,⟨0,12,[ak e3]⟩] 3):=by
    intro u7 hu
    replace h:=hy72 u7 hu
    refine sq h ?_ ?_<;>intro h
    ·refine cq 4 [4] [B false] 19 ?_
     obtain rfl:=sI h
     exact rP [B false]
    ·refine aq 1 ?_
     refine cq 5 [67] [I e3.Amount] 35 ?_
     obtain⟨r8,hr8,h⟩:=bS h
     refine oq 51 (B r8) rfl (cP (mY hr8)) ?_
     refine cq 2 [70] [B (!r8)] 83 ?_
     obtain⟨y9,hy9,hy91,hy92⟩:=bJ h
     have j9:∀u9,y9=.inr u9→Run jx 0 (ef (c_1,i_2) r) (.code Dn::.code vC::[]) (sT 119 [(1,I i_2),(2,.hp 1 0 [] 2 0 0),(5,.hp 2 0 [] 12 0 0),(90,B u9)] [⟨0,2,[ai c_1]⟩,⟨0,12,[ak e3]⟩] 3):=by
      intro u9 hu
      replace h:=hy92 u9 hu
      refine sq h ?_ ?_<;>intro h
      ·refine cq 4 [4] [B false] 19 ?_
       obtain rfl:=sI h
       exact rP [B false]
      ·refine aq 1 ?_
       refine cq 7 [93] [B (e3.Repair==([]:ac))] 51 ?_
       refine sq h ?_ ?_<;>intro h
       ·refine cq 4 [4] [B true] 67 ?_
        obtain rfl:=sI h
        exact rP [B true]
       ·refine aq 1 ?_
        refine cq 5 [94,96] [ai c_1,str e3.Repair] 99 ?_
        obtain⟨r10,hr10,h⟩:=bS h
        refine oq 115 (I r10) rfl (cP (Tf hr10)) ?_
        refine cq 8 [7,101] [I r10,B (e3.Kind != 3)] 195 ?_
        obtain⟨y11,hy11,hy111,hy112⟩:=bJ h
        have j11:∀u11,y11=.inr u11→Run jx 0 (ef (c_1,i_2) r) (.code Iu::[]) (sT 119 [(4,B u11)] [] 1):=by
         intro u11 hu
         replace h:=hy112 u11 hu
         obtain rfl:=sI h
         exact rP [B u11]
        have r11:∀r',y11=.inl r'→∀st,ef (c_1,i_2) r' st→(ef (c_1,i_2) r) st:=fun r' e st hq=>by rw[hy111 r' e] at hq;exact hq
        replace h:=hy11
        refine sp 101 h rfl ?_ ?_<;>intro h
        ·refine cq 4 [105] [B (decide (r10≥0))] 259 ?_
         obtain⟨y12,hy12,hy121,hy122⟩:=bL h
         have j12:∀u12,y12=.inr u12→Run jx 0 (ef (c_1,i_2) r) (.code Iu::[]) (sT 119 [(4,B u12)] [] 1):=by
          intro u12 hu
          replace h:=hy122 u12 hu
          exact rf [4] [] (j11 _ (ap h) :)
         have r12:∀r',y12=.inl r'→∀st,ef (c_1,i_2) r' st→(ef (c_1,i_2) r) st:=fun r' e st hq=>r11 r' (hy121 r' e) st hq
         replace h:=hy12
         refine sp 105 h rfl ?_ ?_<;>intro h
         ·refine cq 5 [110] [B (r10 != i_2)] 339 ?_
          obtain⟨y13,hy13,hy131,hy132⟩:=bL h
          have j13:∀u13,y13=.inr u13→Run jx 0 (ef (c_1,i_2) r) (.code Iu::[]) (sT 119 [(4,B u13)] [] 1):=by
           intro u13 hu
           replace h:=hy132 u13 hu
           exact rf [4] [] (j12 _ (ap h) :)
          have r13:∀r',y13=.inl r'→∀st,ef (c_1,i_2) r' st→(ef (c_1,i_2) r) st:=fun r' e st hq=>r12 r' (hy131 r' e) st hq
          replace h:=hy13
          refine sp 110 h rfl ?_ ?_<;>intro h
          ·refine cq 3 [112,113] [.isl false (c_1.Clauses.map ao),I r10] 387 ?_
           obtain⟨e14,he14,h⟩:=bS h
           refine oy 403 (.iptr (ak e14) 0) rfl (an rfl rfl rfl (bC rfl rfl rfl rfl he14)) ?_
           refine cq 6 [4] [B (e14.Kind==1)] 483 ?_
           exact rf [4] [] (j13 _ (ap h) :)
          ·refine cq 10 [4] [B false] 483 ?_
           exact rf [4] [] (j13 _ (ap h) :)
         ·refine cq 15 [4] [B false] 483 ?_
          exact rf [4] [] (j12 _ (ap h) :)
        ·refine cq 19 [4] [B false] 483 ?_
         exact rf [4] [] (j11 _ (ap h) :)
     have r9:∀r',y9=.inl r'→∀st,ef (c_1,i_2) r' st→(ef (c_1,i_2) r) st:=fun r' e st hq=>by rw[hy91 r' e] at hq;exact hq
     replace h:=hy9
     refine sp 70 h rfl ?_ ?_<;>intro h
     ·refine cq 21 [90] [B true] 403 ?_
      exact rf [1,2,5,90] [1,2] (j9 _ (ap h) :)
     ·refine cq 2 [72] [I e3.Within] 115 ?_
      obtain⟨r15,hr15,h⟩:=bS h
      refine oy 131 (B r15) rfl (cP (mY hr15)) ?_
      refine cq 3 [76] [B (!r15)] 179 ?_
      obtain⟨u16,hu16,h⟩:=lJ h
      have j16:Run jx 0 (ef (c_1,i_2) r) (.code Dn::.code vC::[]) (sT 119 [(1,I i_2),(2,.hp 1 0 [] 2 0 0),(5,.hp 2 0 [] 12 0 0),(90,B u16)] [⟨0,2,[ai c_1]⟩,⟨0,12,[ak e3]⟩] 3):=by
       exact rf [1,2,5,90] [1,2] (j9 _ (ap h) :)
      replace h:=hu16
      clear hu16
      refine sp 76 h rfl ?_ ?_<;>intro h
      ·refine cq 15 [90] [B true] 403 ?_
       subst h
       exact rf [1,2,5,90] [1,2] (j16 :)
      ·refine cq 4 [80] [B (e3.Kind != 1)] 243 ?_
       obtain⟨u17,hu17,h⟩:=lJ h
       have j17:Run jx 0 (ef (c_1,i_2) r) (.code Dn::.code vC::[]) (sT 119 [(1,I i_2),(2,.hp 1 0 [] 2 0 0),(5,.hp 2 0 [] 12 0 0),(90,B u17)] [⟨0,2,[ai c_1]⟩,⟨0,12,[ak e3]⟩] 3):=by
        subst h
        exact rf [1,2,5,90] [1,2] (j16 :)
       replace h:=hu17
       clear hu17
       refine sp 80 h rfl ?_ ?_<;>intro h
       ·refine cq 4 [84] [B (e3.Amount != 0)] 307 ?_
        obtain⟨u18,hu18,h⟩:=lJ h
        have j18:Run jx 0 (ef (c_1,i_2) r) (.code Dn::.code vC::[]) (sT 119 [(1,I i_2),(2,.hp 1 0 [] 2 0 0),(5,.hp 2 0 [] 12 0 0),(90,B u18)] [⟨0,2,[ai c_1]⟩,⟨0,12,[ak e3]⟩] 3):=by
         subst h
         exact rf [1,2,5,90] [1,2] (j17 :)
        replace h:=hu18
        clear hu18
        refine sp 84 h rfl ?_ ?_<;>intro h
        ·refine cq 7 [90] [B true] 403 ?_
         subst h
         exact rf [1,2,5,90] [1,2] (j18 :)
        ·refine cq 7 [90] [B (e3.Within != 0)] 403 ?_
         subst h
         exact rf [1,2,5,90] [1,2] (j18 :)
       ·refine cq 11 [90] [B false] 403 ?_
        subst h
        exact rf [1,2,5,90] [1,2] (j17 :)
   have r7:∀r',y7=.inl r'→∀st,ef (c_1,i_2) r' st→(ef (c_1,i_2) r) st:=fun r' e st hq=>by rw[hy71 r' e] at hq;exact hq
   replace h:=hy7
   refine sp 46 h rfl ?_ ?_<;>intro h
   ·refine cq 20 [65] [B true] 403 ?_
    exact rf [1,2,5,65] [1,2] (j7 _ (ap h) :)
   ·refine cq 3 [48,49] [I e3.Other,I (aj ((len c_1.Parties) - 1))] 147 ?_
    obtain⟨r19,hr19,h⟩:=bS h
    refine oy 163 (B r19) rfl (cP (mY hr19)) ?_
    refine cq 3 [53] [B (!r19)] 211 ?_
    obtain⟨y20,hy20,hy201,hy202⟩:=bL h
    have j20:∀u20,y20=.inr u20→Run jx 0 (ef (c_1,i_2) r) (.code Ir::.code (cR (cR (cR (cR (cR lj)))))::[]) (sT 119 [(1,I i_2),(2,.hp 1 0 [] 2 0 0),(5,.hp 2 0 [] 12 0 0),(65,B u20)] [⟨0,2,[ai c_1]⟩,⟨0,12,[ak e3]⟩] 3):=by
     intro u20 hu
     replace h:=hy202 u20 hu
     exact rf [1,2,5,65] [1,2] (j7 _ (ap h) :)
    have r20:∀r',y20=.inl r'→∀st,ef (c_1,i_2) r' st→(ef (c_1,i_2) r) st:=fun r' e st hq=>r7 r' (hy201 r' e) st hq
    replace h:=hy20
    refine sp 53 h rfl ?_ ?_<;>intro h
    ·refine cq 13 [65] [B true] 403 ?_
     exact rf [1,2,5,65] [1,2] (j20 _ (ap h) :)
    ·refine cq 7 [60] [B (e3.Party==e3.Other)] 323 ?_
     obtain⟨y21,hy21,hy211,hy212⟩:=bL h
     have j21:∀u21,y21=.inr u21→Run jx 0 (ef (c_1,i_2) r) (.code Ir::.code (cR (cR (cR (cR (cR lj)))))::[]) (sT 119 [(1,I i_2),(2,.hp 1 0 [] 2 0 0),(5,.hp 2 0 [] 12 0 0),(65,B u21)] [⟨0,2,[ai c_1]⟩,⟨0,12,[ak e3]⟩] 3):=by
      intro u21 hu
      replace h:=hy212 u21 hu
      exact rf [1,2,5,65] [1,2] (j20 _ (ap h) :)
     have r21:∀r',y21=.inl r'→∀st,ef (c_1,i_2) r' st→(ef (c_1,i_2) r) st:=fun r' e st hq=>r20 r' (hy211 r' e) st hq
     replace h:=hy21
     refine sp 60 h rfl ?_ ?_<;>intro h
     ·refine cq 6 [65] [B true] 403 ?_
      exact rf [1,2,5,65] [1,2] (j21 _ (ap h) :)
     ·refine cq 2 [62] [aa e3.When] 355 ?_
      obtain⟨r22,hr22,h⟩:=bS h
      refine oy 371 (B r22) rfl (cP (WY hr22)) ?_
      refine cq 3 [65] [B (!r22)] 403 ?_
      exact rf [1,2,5,65] [1,2] (j21 _ (ap h) :)
 have r5:∀r',y5=.inl r'→∀st,ef (c_1,i_2) r' st→(ef (c_1,i_2) r) st:=fun r' e st hq=>by rw[hy51 r' e] at hq;exact hq
 replace h:=hy5
 refine sp 21 h rfl ?_ ?_<;>intro h
 ·refine cq 20 [40] [B true] 609 ?_
  exact rf [1,2,5,6,40] [1,113] (j5 _ (ap h) :)
 ·refine cq 3 [22,24] [ai c_1,str e3.Id] 353 ?_
  obtain⟨r23,hr23,h⟩:=bS h
  refine oy 369 (I r23) rfl (cP (Tf hr23)) ?_
  refine cq 4 [29] [B (r23 != i_2)] 433 ?_
  obtain⟨y24,hy24,hy241,hy242⟩:=bL h
  have j24:∀u24,y24=.inr u24→Run jx 0 (ef (c_1,i_2) r) (.code (cR (cL (cR (cR (cR lj)))))::.code (cR (cR (cR (cR lj))))::[]) (sT 119 [(1,I i_2),(2,.hp 1 0 [] 2 0 0),(5,.hp 2 0 [] 12 0 0),(6,I (aj ((len c_1.Parties) - 1))),(40,B u24)] [⟨0,2,[ai c_1]⟩,⟨0,12,[ak e3]⟩] 3):=by
   intro u24 hu
   replace h:=hy242 u24 hu
   exact rf [1,2,5,6,40] [1,2] (j5 _ (ap h) :)
  have r24:∀r',y24=.inl r'→∀st,ef (c_1,i_2) r' st→(ef (c_1,i_2) r) st:=fun r' e st hq=>r5 r' (hy241 r' e) st hq
  replace h:=hy24
  refine sp 29 h rfl ?_ ?_<;>intro h
  ·refine cq 12 [40] [B true] 609 ?_
   exact rf [1,2,5,6,40] [1,113] (j24 _ (ap h) :)
  ·refine cq 2 [31] [str e3.Action] 465 ?_
   obtain⟨r25,hr25,h⟩:=bS h
   refine oy 481 (B r25) rfl (cP (GA hr25)) ?_
   refine cq 3 [35] [B (!r25)] 529 ?_
   obtain⟨y26,hy26,hy261,hy262⟩:=bL h
   have j26:∀u26,y26=.inr u26→Run jx 0 (ef (c_1,i_2) r) (.code (cR (cL (cR (cR (cR lj)))))::.code (cR (cR (cR (cR lj))))::[]) (sT 119 [(1,I i_2),(2,.hp 1 0 [] 2 0 0),(5,.hp 2 0 [] 12 0 0),(6,I (aj ((len c_1.Parties) - 1))),(40,B u26)] [⟨0,2,[ai c_1]⟩,⟨0,12,[ak e3]⟩] 3):=by
    intro u26 hu
    replace h:=hy262 u26 hu
    exact rf [1,2,5,6,40] [1,2] (j24 _ (ap h) :)
   have r26:∀r',y26=.inl r'→∀st,ef (c_1,i_2) r' st→(ef (c_1,i_2) r) st:=fun r' e st hq=>r24 r' (hy261 r' e) st hq
   replace h:=hy26
   refine sp 35 h rfl ?_ ?_<;>intro h
   ·refine cq 6 [40] [B true] 609 ?_
    exact rf [1,2,5,6,40] [1,113] (j26 _ (ap h) :)
   ·refine cq 2 [37] [I e3.Kind] 561 ?_
    obtain⟨r27,hr27,h⟩:=bS h
    refine oy 577 (B r27) rfl (cP (mY hr27)) ?_
    refine cq 3 [40] [B (!r27)] 609 ?_
    exact rf [1,2,5,6,40] [1,113] (j26 _ (ap h) :)
theorem RZ {G:cM}:cH G 100 EL:=gT 2 0 (aR zP (aR nW (aR RS (aR QI bU)))) cW Tryz.func100 (fun a r h=>Ud a.1 a.2 r h)
def C7:(Condition×(List ac))→List V:=cA aD (oA (po 1 str))
def C9 (r:(List ac)):V×List V:=(.usl 1 (r.map str),[.dead])
noncomputable def zZ (cm:(Condition×(List ac))→Option (List ac)):Ent:=bx [false,true] C7 C9 cm
theorem Po (cm:(Condition×(List ac))→Option (List ac)){x}{r}(h:cm x=some r):(zZ cm).F (C7 x)=some (C9 r):=aP (bp ba (aQ (fW bH))) h
noncomputable def pT :=WC [none,some 1] (zZ (aA mU))
theorem wB {c_3:Condition}{bb:List ac}{r}(h:Ii c_3 bb=some r):pT.F (C7 (c_3,bb))=some (C9 r):=Po (aA mU) h
noncomputable def LZ :=aJ Tryz.f142
noncomputable def GE (cm:(Condition×(List ac))→Option (List ac)):Env:=cV [(142,(zZ cm))]
def C8 (cm:(Condition×(List ac))→Option (List ac))(x:Condition×(List ac))(r:(List ac)):St→Prop:=QF (GE cm) Tryz.f142 [false,true] (C7 x) (C9 r)
theorem L0 (cm:(Condition×(List ac))→Option (List ac))(c_3:Condition)(bb:List ac):cJ (GE cm) 1 (C8 cm (c_3,bb)) (cL (cL (cR (cL (cR (cR LZ)))))) 0 (mV cm c_3 bb) (fun u=>(sO 27 [(1,.hs 2 0 [] 1 0 (u.map str).length)] [none,some ⟨0,1,u.map str⟩] 3)) fun x4=>(sO 27 [(1,.hs 2 0 [] 1 0 (x4.2.map str).length),(16,.isl false (c_3.Parts.map ar)),(17,I (len c_3.Parts)),(18,I x4.1)] [none,some ⟨0,1,x4.2.map str⟩] 3):=eF (Da cm c_3 bb) fun {Q K} hK self ih x4 y h hr hn=>by
 unfold kM at h
 refine cq 5 [19] [B (decide (x4.1<(len c_3.Parts)))] 19 ?_
 refine sq h ?_ ?_<;>intro h
 ·refine aq 1 ?_
  refine aq 4 ?_
  obtain⟨e5,he5,h⟩:=bS h
  refine oq 35 (.iptr (aa e5) 0) rfl (an rfl rfl rfl (bC rfl rfl (aY e5) rfl he5)) ?_
  refine ck 2 [6,21] [] [51] [] [.hp 51 0 [] 4 0 0,aa e5] [some ⟨0,4,[.agg [I (0),str ([]),I (0),.isl true []]]⟩] 67 (by kernel_rfl) ?_
  refine fx 51 [.agg [I (0),str ([]),I (0),.usl 4 (([]).map ae)]] rfl rfl (az (gf (az (.refl _) (az (.refl _) (az (.refl _) (az (.nil _) eh))))) eh) ?_
  refine ck 5 [22,23] [] [51] [] [aa e5,.hs 2 0 [] 1 0 (x4.2.map str).length] [some ⟨2,4,[aa e5]⟩] 115 (by kernel_rfl) ?_
  obtain⟨r6,hr6,h⟩:=bS h
  refine oq 131 (.hs 115 0 [] 1 0 (r6.map str).length) rfl (aV rfl rfl (bq rfl rfl rfl (bi (bI rfl) (fk (eY rfl (dD (path:=[]) rfl rfl aG rfl)) cu)) (Po cm hr6) (.inr rfl) (fP rfl rfl rfl eq cG) rfl rfl rfl)) ?_
  refine cq 7 [1,18] [.hs 115 0 [] 1 0 (r6.map str).length,I (aj (x4.1+1))] 179 ?_
  refine dF ?_
  exact rg [1,16,17,18] [180,115] (ih _ _ h hr hn :)
 ·refine aq 1 ?_
  exact rg [1] [20,2] (hn _ (ap h) :) (hk:=hK)
theorem T1 (cm:(Condition×(List ac))→Option (List ac))(c_3:Condition)(bb:List ac)(r:(List ac))(h:wA cm c_3 bb=some r):bP (GE cm) Tryz.f142 [false,true] 1 (C7 (c_3,bb)) (C9 r):=by
 show Run _ _ (C8 cm (c_3,bb) r) [.code LZ] _
 refine rI 27 [(0,aa c_3),(1,.hs 1 0 [] 1 0 (bb.map str).length)] [(1,some ⟨0,1,bb.map str⟩)] 2 ?_
 unfold wA at h
 refine ck 12 [2,9] [] [2] [] [.hp 2 0 [] 4 0 0,B (c_3.Op==2)] [some ⟨0,4,[aa c_3]⟩] 82 (by kernel_rfl) ?_
 obtain⟨y3,hy3,hy31,hy32⟩:=bJ h
 have j3:∀u3,y3=.inr u3→Run (GE cm) 1 (C8 cm (c_3,bb) r) (.code (cR (cR LZ))::[]) (sO 27 [(1,.hs 2 0 [] 1 0 (u3.map str).length),(2,.hp 3 0 [] 4 0 0)] [none,some ⟨0,1,u3.map str⟩,some ⟨0,4,[aa c_3]⟩] 4):=by
  intro u3 hu
  replace h:=hy32 u3 hu
  refine cq 5 [16] [.isl false (c_3.Parts.map ar)] 36 ?_
  refine oq 52 (I (len c_3.Parts)) rfl (bG rfl rfl rfl (cF rfl)) ?_
  refine cq 3 [18] [I (0)] 68 ?_
  obtain⟨y7,hy7,hy71,hy72⟩:=bJ h
  refine b7 rfl ?_
  refine rg [1,16,17,18] [69,2] (L0 cm c_3 bb rfl (0,u3) _ hy7 (fun r' e st hq=>by rw[hy71 r' e] at hq;exact hq) fun u7 hu=>?_)
  replace h:=hy72 u7 hu
  refine cq 5 [4] [.hs 2 0 [] 1 0 (u7.map str).length] 35 ?_
  obtain rfl:=sI h
  exact bX rfl ⟨_,fin (vs:=[.hs 2 0 [] 1 0 (u7.map str).length]) rfl (d8 (eZ rfl (dm rfl rfl)) dX) rfl (d9 (kb rfl (iW rfl) eC)),mb ez⟩
 have r3:∀r',y3=.inl r'→∀st,C8 cm (c_3,bb) r' st→(C8 cm (c_3,bb) r) st:=fun r' e st hq=>by rw[hy31 r' e] at hq;exact hq
 replace h:=hy3
 refine sq h ?_ ?_<;>intro h
 ·refine cq 4 [10,12] [.hs 1 0 [] 1 0 (bb.map str).length,str c_3.Name] 130 ?_
  refine oq 146 (.hs 130 0 [] 1 0 1) rfl (bV rfl (fb (f:=I) (xs:=[]) (z:=str ([])) (es:=[str c_3.Name]) (ws:=[str c_3.Name]) rfl rfl rfl (by decide) rfl (bw rfl) rfl)) ?_
  obtain⟨a8,ha8,h⟩:=bS h
  refine oq 162 (.hs 146 0 [] 1 0 (a8.map str).length) rfl (fQ rfl rfl rfl rfl rfl (iA (path:=[]) (f:=str) (xs:=bb) (ys:=[c_3.Name]) rfl rfl (jZ rfl rfl rfl) rfl rfl rfl aG rfl (by decide) iL ha8 rfl lF)) ?_
  refine cq 2 [1] [.hs 146 0 [] 1 0 (a8.map str).length] 178 ?_
  exact rg [1,2] [179,146,2] (j3 _ (ap h) :)
 ·refine aq 1 ?_
  exact rg [1,2] [83,1,2] (j3 _ (ap h) :)
theorem Ij {G:cM}:cH G 142 pT:=WG [none,some 1] (gp fun cm g_Fff=>gT 2 1 (aR g_Fff bU) cW Tryz.func142 (fun a r h=>T1 cm a.1 a.2 r h))
def JT:Shelf.Ren:=⟨fun | 190=>177 | 125=>192 | 258=>191 | 128=>214 | 129=>215 | 302=>205 | 303=>206 | 304=>207 | 305=>208 | 306=>209 | 307=>210 | 308=>211 | 309=>212 | 310=>213 | 333=>226 | 329=>227 | 330=>228 | 334=>229 | 335=>230 | 336=>231 | 344=>236 | n=>n,fun | 31=>22 | 9=>9 | 3=>3 | 46=>158 | 0=>0 | 51=>195 | 53=>181 | 4=>4 | 183=>188 | 182=>187 | 131=>43 | 5=>5 | 218=>199 | 222=>203 | 228=>211 | 229=>212 | n=>n,fun | n=>n⟩
theorem S6:Go.Proofs.Lays.n190 Tryz.prog JT where
 mixed:=by kernel_rfl
 f125:=Tryz.func192.trans (congrArg some (by kernel_rfl))
 f128:=Tryz.func214.trans (congrArg some (by kernel_rfl))
 f129:=Tryz.func215.trans (congrArg some (by kernel_rfl))
 f190:=Tryz.func177.trans (congrArg some (by kernel_rfl))
 f258:=Tryz.func191.trans (congrArg some (by kernel_rfl))
 f302:=Tryz.func205.trans (congrArg some (by kernel_rfl))
 f303:=Tryz.func206.trans (congrArg some (by kernel_rfl))
 f304:=Tryz.func207.trans (congrArg some (by kernel_rfl))
 f305:=Tryz.func208.trans (congrArg some (by kernel_rfl))
 f306:=Tryz.func209.trans (congrArg some (by kernel_rfl))
 f307:=Tryz.func210.trans (congrArg some (by kernel_rfl))
 f308:=Tryz.func211.trans (congrArg some (by kernel_rfl))
 f309:=Tryz.func212.trans (congrArg some (by kernel_rfl))
 f310:=Tryz.func213.trans (congrArg some (by kernel_rfl))
 f329:=Tryz.func227.trans (congrArg some (by kernel_rfl))
 f330:=Tryz.func228.trans (congrArg some (by kernel_rfl))
 f333:=Tryz.func226.trans (congrArg some (by kernel_rfl))
 f334:=Tryz.func229.trans (congrArg some (by kernel_rfl))
 f335:=Tryz.func230.trans (congrArg some (by kernel_rfl))
 f336:=Tryz.func231.trans (congrArg some (by kernel_rfl))
 f344:=Tryz.func236.trans (congrArg some (by kernel_rfl))
 t0:=Tryz.underlying0
 a0:=Tryz.isAgg0
 z0:=Tryz.sizeOf0
 v0:=Tryz.zeroValue0
 t3:=Tryz.underlying3
 a3:=Tryz.isAgg3
 z3:=Tryz.sizeOf3
 v3:=Tryz.zeroValue3
 t4:=Tryz.underlying4
 a4:=Tryz.isAgg4
 z4:=Tryz.sizeOf4
 v4:=Tryz.zeroValue4
 t5:=Tryz.underlying5
 a5:=Tryz.isAgg5
 z5:=Tryz.sizeOf5
 v5:=Tryz.zeroValue5
 t9:=Tryz.underlying9
 a9:=Tryz.isAgg9
 z9:=Tryz.sizeOf9
 v9:=Tryz.zeroValue9
 t31:=Tryz.underlying22
 a31:=Tryz.isAgg22
 z31:=Tryz.sizeOf22
 v31:=Tryz.zeroValue22
 t46:=Tryz.underlying158
 a46:=Tryz.isAgg158
 z46:=Tryz.sizeOf158
 v46:=Tryz.zeroValue158
 t51:=Tryz.underlying195
 a51:=Tryz.isAgg195
 z51:=Tryz.sizeOf195
 v51:=Tryz.zeroValue195
 t53:=Tryz.underlying181
 a53:=Tryz.isAgg181
 z53:=Tryz.sizeOf181
 v53:=Tryz.zeroValue181
 t131:=Tryz.underlying43
 a131:=Tryz.isAgg43
 z131:=Tryz.sizeOf43
 v131:=Tryz.zeroValue43
 t182:=Tryz.underlying187
 a182:=Tryz.isAgg187
 z182:=Tryz.sizeOf187
 v182:=Tryz.zeroValue187
 t183:=Tryz.underlying188
 a183:=Tryz.isAgg188
 z183:=Tryz.sizeOf188
 v183:=Tryz.zeroValue188
 t218:=Tryz.underlying199
 a218:=Tryz.isAgg199
 z218:=Tryz.sizeOf199
 v218:=Tryz.zeroValue199
 t222:=Tryz.underlying203
 a222:=Tryz.isAgg203
 z222:=Tryz.sizeOf203
 v222:=Tryz.zeroValue203
 t228:=Tryz.underlying211
 a228:=Tryz.isAgg211
 z228:=Tryz.sizeOf211
 v228:=Tryz.zeroValue211
 t229:=Tryz.underlying212
 a229:=Tryz.isAgg212
 z229:=Tryz.sizeOf212
 v229:=Tryz.zeroValue212
noncomputable def uj :=bx [true] (oA (po 1 str)) (fun r=>(.tup [],[.usl 1 (r.map str)])) sZ
theorem S5 {l:List ac}{r}(h:sZ l=some r):uj.F [.usl 1 (l.map str)]=some (.tup [],[.usl 1 (r.map str)]):=aP (ea:=oA (po 1 str)) (aQ (fW bH)) h
theorem KO {G:cM}:cH G 177 uj:=MH S6
def BB:(List ac)→List V:=oA (po 1 str)
def BD (r:(List ac)):V×List V:=(.usl 1 (r.map str),[.dead])
noncomputable def zo :=bx [true] BB BD fun x=>zn x
theorem VO {s_2:List ac}{r}(h:zn s_2=some r):zo.F (BB s_2)=some (BD r):=aP (aQ (fW bH)) h
noncomputable def HO :=aJ Tryz.f178
noncomputable abbrev Es :=cL (cL (cR (cL (cR (cL (cR (cL (cL (cR (cL (cL (cR (cL (cR (cR HO)))))))))))))))
noncomputable def uO :=cV []
def BC (x:(List ac))(r:(List ac)):St→Prop:=QF uO Tryz.f178 [true] (BB x) (BD r)
theorem Kb (s_2:List ac)(x2:Int):cJ uO 1 (BC s_2) Es 2 (jP s_2 x2) (fun u=>(sO 61 [(0,.hs 2 0 [] 1 0 (u.2.map str).length),(3,I u.1)] [none,some ⟨0,1,u.2.map str⟩] 3)) fun x6=>(sO 61 [(0,.hs 2 0 [] 1 0 (x6.2.2.map str).length),(3,I x6.1),(4,.hs 2 0 [] 1 (0+Int.toNat x2) (Int.toNat (len s_2) - Int.toNat x2)),(5,I x6.2.1)] [none,some ⟨0,1,x6.2.2.map str⟩] 3):=eF (xB s_2 x2) fun {Q K} hK self ih x6 y h hr hn=>by
 unfold kx at h
 refine cq 8 [32] [B (decide (x6.2.1<(((Int.toNat (len s_2) - Int.toNat x2):Nat):Int)))] 67 ?_
 refine sq h ?_ ?_<;>intro h
 ·refine aq 1 ?_
  refine aq 3 ?_
  refine fp [0,0,3,7,0,0,32,112,240,511] rfl (by decide +kernel) ?_
  refine dk 2 [36,35] [I x6.2.1,.hs 2 0 [] 1 (0+Int.toNat x2) (Int.toNat (len s_2) - Int.toNat x2)] ?_
  obtain⟨e7,he7,h⟩:=bS h
  refine dq [2] [] (.hp 2 0 [] 1 ((0+Int.toNat x2)+Int.toNat x6.2.1) 0) rfl (an rfl rfl rfl (MO (xs:=x6.2.2) rfl rfl he7)) ?_
  refine dq [2] [] (str e7) rfl (cQ rfl (iH (path:=[]) rfl rfl rfl aG (I8 (f:=str) (xs:=x6.2.2) he7) rfl rfl rfl)) ?_
  refine dk 3 [41,40,39] [I (aj (x6.2.1 - 1)),I x6.2.1,.hs 2 0 [] 1 (0+Int.toNat x2) (Int.toNat (len s_2) - Int.toNat x2)] ?_
  obtain⟨e8,he8,h⟩:=bS h
  refine dq [2] [] (.hp 2 0 [] 1 ((0+Int.toNat x2)+Int.toNat (aj (x6.2.1 - 1))) 0) rfl (an rfl rfl rfl (MO (xs:=x6.2.2) rfl rfl he8)) ?_
  refine dq [2] [] (str e8) rfl (cQ rfl (iH (path:=[]) rfl rfl rfl aG (I8 (f:=str) (xs:=x6.2.2) he8) rfl rfl rfl)) ?_
  refine dk 1 [44] [B (!(e7==e8))] ?_
  refine de 227 rfl rfl ?_
  obtain⟨y9,hy9,hy91,hy92⟩:=bL h
  have j9:∀u9,y9=.inr u9→Run uO 1 Q (.blk 3::.code (cR (cR Es))::.lp Es::.blk 2::K) (sO 61 [(0,.hs 2 0 [] 1 0 (u9.2.map str).length),(3,I u9.1),(4,.hs 2 0 [] 1 (0+Int.toNat x2) (Int.toNat (len s_2) - Int.toNat x2)),(5,I x6.2.1)] [none,some ⟨0,1,u9.2.map str⟩] 3):=by
   intro u9 hu
   replace h:=hy92 u9 hu
   refine cq 6 [5] [I (aj (x6.2.1+1))] 51 ?_
   refine dF ?_
   exact rg [0,3,4,5] [52,2] (ih _ _ h hr hn :)
  have r9:∀r',y9=.inl r'→∀st,BC s_2 r' st→Q st:=fun r' e st hq=>hr r' (hy91 r' e) st hq
  replace h:=hy9
  refine sq h ?_ ?_<;>intro h
  ·refine cq 6 [45,46,47,48] [.hs 2 0 [] 1 0 (x6.2.2.map str).length,I x6.1,.hs 2 0 [] 1 (0+Int.toNat x2) (Int.toNat (len s_2) - Int.toNat x2),I x6.2.1] 291 ?_
   obtain⟨e10,he10,h⟩:=bS h
   refine oq 307 (.hp 2 0 [] 1 ((0+Int.toNat x2)+Int.toNat x6.2.1) 0) rfl (an rfl rfl rfl (MO (xs:=x6.2.2) rfl rfl he10)) ?_
   refine oq 323 (str e10) rfl (cQ rfl (iH (path:=[]) rfl rfl rfl aG (I8 (f:=str) (xs:=x6.2.2) he10) rfl rfl rfl)) ?_
   obtain⟨e11,he11,h⟩:=bS h
   refine oq 339 (.hp 2 0 [] 1 (0+Int.toNat x6.1) 0) rfl (an rfl rfl rfl (dG (f:=str) (xs:=x6.2.2) rfl rfl rfl he11)) ?_
   refine o0 355 rfl rfl (fJ rfl rfl (eJ (path:=[]) (pl:=true) (e':=str e10) (es2':=(cT x6.2.2 x6.1 e10).map str) rfl (bu rfl) rfl rfl rfl aG (cX (f:=str) (xs:=x6.2.2) he11) rfl rfl rfl (jY (f:=str) (xs:=x6.2.2) (y:=e10)) ee 0 rfl)) ?_
   try rw[←ij (f:=str) (xs:=x6.2.2) (i:=x6.1) (z:=e10)]
   refine cq 6 [3] [I (aj (x6.1+1))] 403 ?_
   exact rg [0,3,4,5] [404,2] (j9 _ (ap h) :)
  ·refine aq 1 ?_
   exact rg [0,3,4,5] [228,2] (j9 _ (ap h) :)
 ·refine aq 1 ?_
  exact rg [0,3] [68,2] (hn _ (ap h) :) (hk:=hK)
theorem Ka (s_2:List ac):cJ uO 1 (BC s_2) (cL (cL (cR (cL (cR (cR HO)))))) 0 (pM s_2) (fun u=>(sO 61 [(0,.hs 2 0 [] 1 0 (u.map str).length)] [none,some ⟨0,1,u.map str⟩] 3)) fun x2=>(sO 61 [(0,.hs 2 0 [] 1 0 (s_2.map str).length),(3,I x2)] [none,some ⟨0,1,s_2.map str⟩] 3):=eF (xA s_2) fun {Q K} hK self ih x2 y h hr hn=>by
 unfold kw at h
 refine cq 5 [10,11] [I x2,.hs 2 0 [] 1 0 (s_2.map str).length] 35 ?_
 refine oq 51 (I (len s_2)) rfl (bG rfl rfl rfl (gL (f:=str) (xs:=s_2) rfl rfl)) ?_
 refine cq 2 [13] [B (decide (x2<(len s_2)))] 67 ?_
 refine sq h ?_ ?_<;>intro h
 ·refine aq 1 ?_
  refine aq 3 ?_
  refine fp [0,0,3,7,0,0,32,112,240,511] rfl (by decide +kernel) ?_
  refine dk 2 [17,16] [I x2,.hs 2 0 [] 1 0 (s_2.map str).length] ?_
  obtain⟨e3,he3,h⟩:=bS h
  refine dq [2] [] (.hp 2 0 [] 1 (0+Int.toNat x2) 0) rfl (an rfl rfl rfl (dG (f:=str) (xs:=s_2) rfl rfl rfl he3)) ?_
  refine dq [2] [] (str e3) rfl (cQ rfl (iH (path:=[]) rfl rfl rfl aG (cX (f:=str) (xs:=s_2) he3) rfl rfl rfl)) ?_
  refine dk 3 [22,21,20] [I (aj (x2 - 1)),I x2,.hs 2 0 [] 1 0 (s_2.map str).length] ?_
  obtain⟨e4,he4,h⟩:=bS h
  refine dq [2] [] (.hp 2 0 [] 1 (0+Int.toNat (aj (x2 - 1))) 0) rfl (an rfl rfl rfl (dG (f:=str) (xs:=s_2) rfl rfl rfl he4)) ?_
  refine dq [2] [] (str e4) rfl (cQ rfl (iH (path:=[]) rfl rfl rfl aG (cX (f:=str) (xs:=s_2) he4) rfl rfl rfl)) ?_
  refine dk 1 [25] [B (e3==e4)] ?_
  refine de 227 rfl rfl ?_
  refine sq h ?_ ?_<;>intro h
  ·refine cq 4 [26,27] [.hs 2 0 [] 1 0 (s_2.map str).length,I x2] 259 ?_
   obtain⟨s5,hs5,h⟩:=bS h
   refine oq 275 (.hs 2 0 [] 1 (0+Int.toNat x2) (Int.toNat (len s_2) - Int.toNat x2)) rfl (hY rfl rfl rfl rfl (pc (f:=str) (xs:=s_2) rfl rfl rfl rfl (Ms rfl) hs5)) ?_
   refine cq 8 [4,5] [.hs 2 0 [] 1 (0+Int.toNat x2) (Int.toNat (len s_2) - Int.toNat x2),I (1)] 307 ?_
   obtain⟨y15,hy15,hy151,hy152⟩:=bL h
   refine b7 rfl ?_
   refine rg [0,3,4,5] [308,2] (Kb s_2 x2 rfl (x2,1,s_2) _ hy15 (fun r' e st hq=>hr r' (hy151 r' e) st hq) fun u15 hu=>?_)
   replace h:=hy152 u15 hu
   refine cq 4 [54,55] [.hs 2 0 [] 1 0 (u15.2.map str).length,I u15.1] 35 ?_
   obtain⟨s16,hs16,h⟩:=bS h
   refine oq 51 (.hs 2 0 [] 1 (0+Int.toNat u15.1) (Int.toNat (len u15.2) - Int.toNat u15.1)) rfl (hY rfl rfl rfl rfl (pc (f:=str) (xs:=u15.2) rfl rfl rfl rfl (Ms rfl) hs16)) ?_
   obtain⟨k17,hk17,h⟩:=bS h
   refine o0 67 rfl rfl (UH rfl rfl (Xw (f:=str) (xs:=u15.2) (z0:=[]) rfl rfl rfl rfl (by decide) me hk17)) ?_
   try rw[show (u15.2.map str).length=(k17.map str).length from UE hk17]
   refine cq 5 [57,58] [.hs 2 0 [] 1 0 (k17.map str).length,I u15.1] 99 ?_
   obtain⟨s18,hs18,h⟩:=bS h
   refine oq 115 (.hs 2 0 [] 1 (0+Int.toNat (0)) (Int.toNat u15.1 - Int.toNat (0))) rfl (hY rfl rfl rfl rfl (pc (f:=str) (xs:=k17) rfl rfl rfl rfl rfl hs18)) ?_
   refine cq 2 [2] [.hs 2 0 [] 1 (0+Int.toNat (0)) (Int.toNat u15.1 - Int.toNat (0))] 131 ?_
   obtain⟨p19,hp19,h⟩:=bS h
   exact bX rfl (hr _ (ap h) _ ⟨_,fin (vs:=[.hs 2 0 [] 1 (0+Int.toNat (0)) (Int.toNat u15.1 - Int.toNat (0))]) rfl (d8 (eZ rfl (Px (path:=[]) (f:=str) (xs:=k17) rfl rfl aG hp19 rfl lF)) dX) rfl (kb rfl (iW rfl) eC),mb ez⟩)
  ·refine aq 1 ?_
   refine cq 6 [3] [I (aj (x2+1))] 275 ?_
   refine dF ?_
   exact rg [0,3] [276,2] (ih _ _ h hr hn :)
 ·refine aq 1 ?_
  exact rg [0] [68,2] (hn _ (ap h) :) (hk:=hK)
theorem Rb (s_2:List ac)(r:(List ac))(h:zn s_2=some r):bP uO Tryz.f178 [true] 1 (BB s_2) (BD r):=by
 show Run _ _ (BC s_2 r) [.code HO] _
 refine rI 61 [(0,.hs 1 0 [] 1 0 (s_2.map str).length)] [(1,some ⟨0,1,s_2.map str⟩)] 2 ?_
 unfold zn at h
 refine cq 8 [6] [.hs 1 0 [] 1 0 (s_2.map str).length] 34 ?_
 refine oq 50 (I (len s_2)) rfl (bG rfl rfl rfl (gL (f:=str) (xs:=s_2) rfl rfl)) ?_
 refine cq 2 [8] [B (decide ((len s_2)<2))] 66 ?_
 refine sq h ?_ ?_<;>intro h
 ·refine cq 5 [2] [.hs 1 0 [] 1 0 (s_2.map str).length] 98 ?_
  obtain rfl:=sI h
  exact bX rfl ⟨_,fin (vs:=[.hs 1 0 [] 1 0 (s_2.map str).length]) rfl (d8 (eZ rfl (dm rfl rfl)) dX) rfl (kb rfl (iW rfl) eC),mb ez⟩
 ·refine aq 1 ?_
  refine cq 6 [3] [I (1)] 82 ?_
  obtain⟨y20,hy20,hy201,hy202⟩:=bJ h
  refine b7 rfl ?_
  refine rg [0,3] [83,1] (Ka s_2 rfl 1 _ hy20 (fun r' e st hq=>by rw[hy201 r' e] at hq;exact hq) fun u20 hu=>?_)
  replace h:=hy202 u20 hu
  refine cq 5 [2] [.hs 2 0 [] 1 0 (u20.map str).length] 35 ?_
  obtain rfl:=sI h
  exact bX rfl ⟨_,fin (vs:=[.hs 2 0 [] 1 0 (u20.map str).length]) rfl (d8 (eZ rfl (dm rfl rfl)) dX) rfl (kb rfl (iW rfl) eC),mb ez⟩
theorem Og {G:cM}:cH G 178 zo:=gT 1 1 bU cW Tryz.func178 (fun a r h=>Rb a r h)
def G6:(List ac)→List V:=oA (po 1 str)
def G7 (r:(List ac)):V×List V:=(.usl 1 (r.map str),[.dead])
noncomputable def wE :=bx [true] G6 G7 fun x=>Dp x
theorem Mc {jk:List ac}{r}(h:Dp jk=some r):wE.F (G6 jk)=some (G7 r):=aP (aQ (fW bH)) h
noncomputable def Xl :=aJ Tryz.f143
noncomputable def Tn :=cV [(177,uj),(178,zo)]
def Xk (x:(List ac))(r:(List ac)):St→Prop:=QF Tn Tryz.f143 [true] (G6 x) (G7 r)
theorem Uh (jk:List ac)(r:(List ac))(h:Dp jk=some r):bP Tn Tryz.f143 [true] 1 (G6 jk) (G7 r):=by
 show Run _ _ (Xk jk r) [.code Xl] _
 refine rI 7 [(0,.hs 1 0 [] 1 0 (jk.map str).length)] [(1,some ⟨0,1,jk.map str⟩)] 2 ?_
 unfold Dp at h
 refine cq 7 [3] [.hs 1 0 [] 1 0 (jk.map str).length] 34 ?_
 obtain⟨r2,hr2,h⟩:=bS h
 obtain⟨g3,h⟩:=gG h
 refine oq 50 (.tup []) rfl (aV rfl rfl (bq rfl rfl rfl (fk (eY rfl (dD (path:=[]) rfl rfl aG rfl)) cu) (S5 hr2) (.inr rfl) (fP rfl rfl rfl rfl cG) rfl rfl rfl)) ?_
 try rw[jV (f:=str) (xs:=jk) (ys:=r2) g3]
 refine cq 4 [5] [.hs 1 0 [] 1 0 (r2.map str).length] 66 ?_
 obtain⟨r4,hr4,h⟩:=bS h
 refine oq 82 (.hs 66 0 [] 1 0 (r4.map str).length) rfl (aV rfl rfl (bq rfl rfl rfl (fk (eY rfl (dD (path:=[]) rfl rfl aG rfl)) cu) (VO hr4) (.inr rfl) (fP rfl rfl rfl eq cG) rfl rfl rfl)) ?_
 refine cq 2 [2] [.hs 66 0 [] 1 0 (r4.map str).length] 98 ?_
 obtain rfl:=sI h
 exact bX rfl ⟨_,fin (vs:=[.hs 66 0 [] 1 0 (r4.map str).length]) rfl (d8 (eZ rfl (dm rfl rfl)) dX) rfl (kb rfl (iW rfl) eC),mb ez⟩
theorem Iw {G:cM}:cH G 143 wE:=gT 1 1 (aR KO (aR Og bU)) cW Tryz.func143 (fun a r h=>Uh a r h)
def GT:Contract→List V:=oA aI
def GU (r:(List ac)):V×List V:=(.usl 1 (r.map str),[])
noncomputable def EK :=bx [false] GT GU fun x=>Ip x
theorem Xc {c_1:Contract}{r}(h:Ip c_1=some r):EK.F (GT c_1)=some (GU r):=aP (aQ bB) h
noncomputable def Tk :=aJ Tryz.f101
noncomputable def L8 :=cV [(142,pT),(143,wE)]
def Tj (x:Contract)(r:(List ac)):St→Prop:=QF L8 Tryz.f101 [false] (GT x) (GU r)
theorem L9 (c_1:Contract):cJ L8 0 (Tj c_1) (cL (cL (cR (cL (cR (cR Tk)))))) 0 (oQ c_1) (fun u=>(sT 25 [(3,.hs 1 0 [] 1 0 (u.map str).length)] [⟨0,1,u.map str⟩] 2)) fun x2=>(sT 25 [(3,.hs 1 0 [] 1 0 (x2.2.map str).length),(8,.isl false (c_1.Clauses.map ao)),(9,I (len c_1.Clauses)),(10,I x2.1)] [⟨0,1,x2.2.map str⟩] 2):=eF (Dm c_1) fun {Q K} hK self ih x2 y h hr hn=>by
 unfold l4 at h
 refine cq 5 [11] [B (decide (x2.1<(len c_1.Clauses)))] 18 ?_
 refine sq h ?_ ?_<;>intro h
 ·refine aq 1 ?_
  refine aq 4 ?_
  obtain⟨e3,he3,h⟩:=bS h
  refine oq 34 (.iptr (ak e3) 0) rfl (an rfl rfl rfl (bC rfl rfl rfl rfl he3)) ?_
  refine ck 2 [5,13] [] [50] [] [.hp 50 0 [] 12 0 0,ak e3] [some ⟨0,12,[.agg [str ([]),I (0),I (0),str ([]),I (0),I (0),I (0),str ([]),I (0),.isl true [],I (0),str ([])]]⟩] 66 (by kernel_rfl) ?_
  refine fx 50 [.agg [str ([]),I (0),I (0),str ([]),I (0),I (0),I (0),str ([]),I (0),.usl 4 (([]).map ae),I (0),str ([])]] rfl rfl (az (gf (az (.refl _) (az (.refl _) (az (.refl _) (az (.refl _) (az (.refl _) (az (.refl _) (az (.refl _) (az (.refl _) (az (.refl _) (az (.nil _) (az (.refl _) (az (.refl _) eh))))))))))))) eh) ?_
  refine ck 2 [] [] [50] [] [] [some ⟨2,12,[ak e3]⟩] 82 (by kernel_rfl) ?_
  refine fp [0,1,0,0,8,24,60,127,255] rfl (by decide +kernel) ?_
  refine dq [50] [] (.hp 50 0 [] 12 0 6) rfl (dQ rfl rfl rfl) ?_
  refine dq [50] [] (aa e3.When) rfl (cQ rfl rfl) ?_
  refine dk 1 [16] [.hs 1 0 [] 1 0 (x2.2.map str).length] ?_
  refine dq [50] [] (.hp 50 0 [] 12 0 3) rfl (dQ rfl rfl rfl) ?_
  refine dq [50] [] (str e3.Action) rfl (cQ rfl rfl) ?_
  refine dq [] [] (.hs 162 0 [] 1 0 1) rfl (bV rfl (fb (f:=I) (xs:=[]) (z:=str ([])) (es:=[str e3.Action]) (ws:=[str e3.Action]) rfl rfl rfl (by decide) rfl (bw rfl) rfl)) ?_
  obtain⟨a4,ha4,h⟩:=bS h
  refine dq [1,162] [1] (.hs 178 0 [] 1 0 (a4.map str).length) rfl (fQ rfl rfl rfl rfl rfl (iA (path:=[]) (f:=str) (xs:=x2.2) (ys:=[e3.Action]) rfl rfl (jZ rfl rfl rfl) rfl rfl rfl aG rfl (by decide) iL ha4 rfl lF)) ?_ (ui rfl (tA (path:=[]) (f:=str) (xs:=[e3.Action]) rfl rfl aG me rfl))
  obtain⟨r5,hr5,h⟩:=bS h
  refine dq [178] [178] (.hs 194 0 [] 1 0 (r5.map str).length) rfl (aV rfl rfl (bq rfl rfl rfl (bi (bI rfl) (fk (eY rfl (dD (path:=[]) rfl rfl aG rfl)) cu)) (wB hr5) (.inr rfl) (fP rfl rfl rfl eq cG) rfl rfl rfl)) ?_ (dW rfl rfl rfl rfl (bi (bI rfl) (fk (eY rfl (dD (path:=[]) rfl rfl aG rfl)) cu)) (wB hr5) (.inr rfl) rfl)
  refine dk 1 [3] [.hs 194 0 [] 1 0 (r5.map str).length] ?_
  refine de 226 rfl rfl ?_
  refine cq 5 [10] [I (aj (x2.1+1))] 258 ?_
  refine dF ?_
  exact rf [3,8,9,10] [194] (ih _ _ h hr hn :)
 ·refine aq 1 ?_
  exact rf [3] [1] (hn _ (ap h) :) (hk:=hK)
theorem Uc (c_1:Contract)(r:(List ac))(h:Ip c_1=some r):bP L8 Tryz.f101 [false] 0 (GT c_1) (GU r):=by
 show Run _ _ (Tj c_1 r) [.code Tk] _
 refine rI 25 [(0,ai c_1)] [] 1 ?_
 unfold Ip at h
 refine ck 7 [1] [] [1] [] [.hp 1 0 [] 2 0 0] [some ⟨0,2,[ai c_1]⟩] 33 (by kernel_rfl) ?_
 refine oq 49 (.hs 33 0 [] 1 0 0) rfl (bV rfl (fb (f:=I) (xs:=[]) (z:=str ([])) (es:=[]) (ws:=[]) rfl rfl rfl (by decide) rfl (bw rfl) rfl)) ?_
 refine cq 7 [3,8] [.hs 33 0 [] 1 0 0,.isl false (c_1.Clauses.map ao)] 97 ?_
 refine oq 113 (I (len c_1.Clauses)) rfl (bG rfl rfl rfl (cF rfl)) ?_
 refine cq 3 [10] [I (0)] 129 ?_
 obtain⟨y6,hy6,hy61,hy62⟩:=bJ h
 refine b7 rfl ?_
 refine rf [3,8,9,10] [33] (L9 c_1 rfl (0,[]) _ hy6 (fun r' e st hq=>by rw[hy61 r' e] at hq;exact hq) fun u6 hu=>?_)
 replace h:=hy62 u6 hu
 refine cq 3 [23] [.hs 1 0 [] 1 0 (u6.map str).length] 18 ?_
 obtain⟨r7,hr7,h⟩:=bS h
 refine oq 34 (.hs 18 0 [] 1 0 (r7.map str).length) rfl (aV rfl rfl (bq rfl rfl rfl (fk (eY rfl (dD (path:=[]) rfl rfl aG rfl)) cu) (Mc hr7) (.inr rfl) (fP rfl rfl rfl eq cG) rfl rfl rfl)) ?_
 refine cq 2 [2] [.hs 18 0 [] 1 0 (r7.map str).length] 50 ?_
 obtain rfl:=sI h
 exact bX rfl ⟨_,fin (vs:=[.hs 18 0 [] 1 0 (r7.map str).length]) rfl (d8 (eZ rfl (dm rfl rfl)) dX) rfl (d9 eC),ez⟩
theorem RY {G:cM}:cH G 101 EK:=gT 1 0 (aR Ij (aR Iw bU)) cW Tryz.func101 (fun a r h=>Uc a r h)
def Gv:Contract→List V:=oA aI
def Gx (r:Bool):V×List V:=(B r,[])
noncomputable def Er :=bx [false] Gv Gx fun x=>HN x
theorem W2 {c_1:Contract}{r}(h:HN c_1=some r):Er.F (Gv c_1)=some (Gx r):=aP (aQ bB) h
noncomputable def Gy :=aJ Tryz.f47
noncomputable def Gw :=cV [(98,EE),(100,EL),(101,EK),(99,mC)]
def Bz (x:Contract)(r:Bool):St→Prop:=QF Gw Tryz.f47 [false] (Gv x) (Gx r)
theorem LR (c_1:Contract):cJ Gw 0 (Bz c_1) (cL (cL (cR (cL (cR (cR Gy)))))) 0 (mQ c_1) (fun u=>(sT 30 [(1,.hp 1 0 [] 2 0 0)] [⟨0,2,[ai c_1]⟩] 2)) fun x4=>(sT 30 [(1,.hp 1 0 [] 2 0 0),(17,I (len c_1.Clauses)),(18,I x4)] [⟨0,2,[ai c_1]⟩] 2):=eF (BA c_1) fun {Q K} hK self ih x4 y h hr hn=>by
 unfold lX at h
 refine cq 5 [19] [B (decide (x4<(len c_1.Clauses)))] 18 ?_
 refine sq h ?_ ?_<;>intro h
 ·refine aq 1 ?_
  refine cq 11 [21,22] [ai c_1,I x4] 82 ?_
  obtain⟨r5,hr5,h⟩:=bS h
  refine oq 98 (B r5) rfl (cP (Xd hr5)) ?_
  refine cq 2 [24] [B (!r5)] 114 ?_
  refine sq h ?_ ?_<;>intro h
  ·refine cq 4 [2] [B false] 130 ?_
   exact bX rfl (hr _ (ap h) _ (qp [B false]))
  ·refine aq 1 ?_
   refine cq 5 [18] [I (aj (x4+1))] 146 ?_
   refine dF ?_
   exact rf [1,17,18] [1] (ih _ _ h hr hn :)
 ·refine aq 1 ?_
  exact rf [1] [1] (hn _ (ap h) :) (hk:=hK)
theorem TS (c_1:Contract)(r:Bool)(h:HN c_1=some r):bP Gw Tryz.f47 [false] 0 (Gv c_1) (Gx r):=by
 show Run _ _ (Bz c_1 r) [.code Gy] _
 refine rI 30 [(0,ai c_1)] [] 1 ?_
 unfold HN at h
 refine ck 10 [1,5] [] [1] [] [.hp 1 0 [] 2 0 0,.isl false (c_1.Parties.map str)] [some ⟨0,2,[ai c_1]⟩] 65 (by kernel_rfl) ?_
 obtain⟨r2,hr2,h⟩:=bS h
 refine oq 81 (B r2) rfl (cP (W4 hr2)) ?_
 refine cq 2 [8] [B (!r2)] 113 ?_
 obtain⟨y3,hy3,hy31,hy32⟩:=bJ h
 have j3:∀u3,y3=.inr u3→Run Gw 0 (Bz c_1 r) (.code (cR (cL (cR Gy)))::.code (cR (cR Gy))::[]) (sT 30 [(1,.hp 1 0 [] 2 0 0),(14,B u3)] [⟨0,2,[ai c_1]⟩] 2):=by
  intro u3 hu
  replace h:=hy32 u3 hu
  refine sq h ?_ ?_<;>intro h
  ·refine cq 4 [2] [B false] 18 ?_
   obtain rfl:=sI h
   exact rP [B false]
  ·refine aq 1 ?_
   refine cq 5 [16] [.isl false (c_1.Clauses.map ao)] 34 ?_
   refine oq 50 (I (len c_1.Clauses)) rfl (bG rfl rfl rfl (cF rfl)) ?_
   refine cq 3 [18] [I (0)] 66 ?_
   obtain⟨y6,hy6,hy61,hy62⟩:=bJ h
   refine b7 rfl ?_
   refine rf [1,17,18] [1] (LR c_1 rfl 0 _ hy6 (fun r' e st hq=>by rw[hy61 r' e] at hq;exact hq) fun u6 hu=>?_)
   replace h:=hy62 u6 hu
   refine cq 3 [26] [ai c_1] 18 ?_
   obtain⟨r7,hr7,h⟩:=bS h
   refine oq 34 (.hs 18 0 [] 1 0 (r7.map str).length) rfl (cP (Xc hr7)) ?_
   refine oq 50 (I (len r7)) rfl (bG rfl rfl rfl (gL (f:=str) (xs:=r7) rfl rfl)) ?_
   refine cq 3 [2] [B (decide ((len r7)≤16))] 82 ?_
   obtain rfl:=sI h
   exact rP [B (decide ((len r7)≤16))]
 have r3:∀r',y3=.inl r'→∀st,Bz c_1 r' st→(Bz c_1 r) st:=fun r' e st hq=>by rw[hy31 r' e] at hq;exact hq
 replace h:=hy3
 refine sp 8 h rfl ?_ ?_<;>intro h
 ·refine cq 7 [14] [B true] 209 ?_
  exact rf [1,14] [1] (j3 _ (ap h) :)
 ·refine cq 2 [10] [.isl false (c_1.Clauses.map ao)] 145 ?_
  refine oy 161 (I (len c_1.Clauses)) rfl (bG rfl rfl rfl (cF rfl)) ?_
  obtain⟨r8,hr8,h⟩:=bS h
  refine oy 177 (B r8) rfl (cP (mY hr8)) ?_
  refine cq 3 [14] [B (!r8)] 209 ?_
  exact rf [1,14] [1] (j3 _ (ap h) :)
theorem Ra {G:cM}:cH G 47 Er:=gT 1 0 (aR RR (aR RZ (aR RY (aR nW bU)))) cW Tryz.func47 (fun a r h=>TS a r h)
def G3:(Int×Contract×Int×Clause)→List V:=cA I (cA (fun x:Contract=>.iptr (aI x) 0) (cA (fun x:Int=>.iptr (I x) 0) (oA (fun x:Clause=>.iptr (ao x) 0))))
def G5 (r:Bool):V×List V:=(B r,[])
noncomputable def EO :=bx [false,false,false,false] G3 G5 fun x=>K7 x.1 x.2.1 x.2.2.1 x.2.2.2
theorem Xj {i_1:Int}{a_2:Contract}{a_3:Int}{a_4:Clause}{r}(h:K7 i_1 a_2 a_3 a_4=some r):EO.F (G3 (i_1,a_2,a_3,a_4))=some (G5 r):=aP (bp cf (bp (tM bB) (bp (tM cf) (aQ (tM cC))))) h
noncomputable def Mb :=aJ Tryz.f145
noncomputable def G4 :=cV []
def Ma (x:Int×Contract×Int×Clause)(r:Bool):St→Prop:=QF G4 Tryz.f145 [false,false,false,false] (G3 x) (G5 r)
theorem Ug (i_1:Int)(a_2:Contract)(a_3:Int)(a_4:Clause)(r:Bool)(h:K7 i_1 a_2 a_3 a_4=some r):bP G4 Tryz.f145 [false,false,false,false] 0 (G3 (i_1,a_2,a_3,a_4)) (G5 r):=by
 show Run _ _ (Ma (i_1,a_2,a_3,a_4) r) [.code Mb] _
 refine rI 30 [(0,I i_1),(1,.iptr (ai a_2) 0),(2,.iptr (I a_3) 0),(3,.iptr (ak a_4) 0)] [] 1 ?_
 unfold K7 at h
 refine cq 9 [8,9] [.isl false (a_2.Clauses.map ao),I i_1] 65 ?_
 obtain⟨e5,he5,h⟩:=bS h
 refine oq 81 (.iptr (ak e5) 0) rfl (an rfl rfl rfl (bC rfl rfl rfl rfl he5)) ?_
 refine ck 2 [6,11] [] [97] [] [.hp 97 0 [] 12 0 0,ak e5] [some ⟨0,12,[.agg [str ([]),I (0),I (0),str ([]),I (0),I (0),I (0),str ([]),I (0),.isl true [],I (0),str ([])]]⟩] 113 (by kernel_rfl) ?_
 refine fx 97 [.agg [str ([]),I (0),I (0),str ([]),I (0),I (0),I (0),str ([]),I (0),.usl 4 (([]).map ae),I (0),str ([])]] rfl rfl (az (gf (az (.refl _) (az (.refl _) (az (.refl _) (az (.refl _) (az (.refl _) (az (.refl _) (az (.refl _) (az (.refl _) (az (.refl _) (az (.nil _) (az (.refl _) (az (.refl _) eh))))))))))))) eh) ?_
 refine ck 9 [16] [] [97] [] [B (e5.Kind==a_3)] [some ⟨2,12,[ak e5]⟩] 209 (by kernel_rfl) ?_
 obtain⟨u6,hu6,h⟩:=lJ h
 have j6:Run G4 0 (Ma (i_1,a_2,a_3,a_4) r) (.code (cR (cR (cR Mb)))::[]) (sT 30 [(5,B u6)] [] 1):=by
  obtain rfl:=sI h
  exact rP [B u6]
 replace h:=hu6
 clear hu6
 refine sp 16 h rfl ?_ ?_<;>intro h
 ·refine cq 7 [23] [B (e5.Party==a_4.Party)] 321 ?_
  obtain⟨u7,hu7,h⟩:=lJ h
  have j7:Run G4 0 (Ma (i_1,a_2,a_3,a_4) r) (.code (cR (cR (cR Mb)))::[]) (sT 30 [(5,B u7)] [] 1):=by
   subst h
   exact rf [5] [] (j6 :)
  replace h:=hu7
  clear hu7
  refine sp 23 h rfl ?_ ?_<;>intro h
  ·refine cq 8 [5] [B (e5.Action==a_4.Action)] 433 ?_
   subst h
   exact rf [5] [] (j7 :)
  ·refine cq 8 [5] [B false] 433 ?_
   subst h
   exact rf [5] [] (j7 :)
 ·refine cq 15 [5] [B false] 433 ?_
  subst h
  exact rf [5] [] (j6 :)
theorem R4 {G:cM}:cH G 145 EO:=gT 4 0 bU cW Tryz.func145 (fun a r h=>Ug a.1 a.2.1 a.2.2.1 a.2.2.2 r h)
def GP:(Contract×(Contract×Int×Clause))→List V:=cA aI (oA (fun x:Contract×Int×Clause=>(.fn 145 [.iptr (aI x.1) 0,.iptr (I x.2.1) 0,.iptr (ao x.2.2) 0]:V)))
def GR (r:(List Int)):V×List V:=(.usl 1 (r.map I),[])
noncomputable def EH :=bx [false,false] GP GR fun x=>K6 x.1 x.2
theorem Xa {c_1:Contract}{cE:Contract×Int×Clause}{r}(h:K6 c_1 cE=some r):EH.F (GP (c_1,cE))=some (GR r):=aP (bp bB (aQ (UN bB cf cC))) h
noncomputable def Th :=aJ Tryz.f144
noncomputable abbrev Io :=cL (cL (cR (cL (cR (cR Th)))))
noncomputable def GQ :=cV [(145,EO)]
def L5 (x:Contract×(Contract×Int×Clause))(r:(List Int)):St→Prop:=QF GQ Tryz.f144 [false,false] (GP x) (GR r)
theorem L6 (c_1:Contract)(cE:Contract×Int×Clause):cJ GQ 0 (L5 (c_1,cE)) Io 0 (oO c_1 cE) (fun u=>(sT 23 [(5,.hs 1 0 [] 1 0 (u.map I).length)] [⟨0,1,u.map I⟩] 2)) fun x3=>(sT 23 [(1,.fn 145 [.iptr (ai cE.1) 0,.iptr (I cE.2.1) 0,.iptr (ak cE.2.2) 0]),(5,.hs 1 0 [] 1 0 (x3.2.map I).length),(10,I (len c_1.Clauses)),(11,I x3.1)] [⟨0,1,x3.2.map I⟩] 2):=eF (Df c_1 cE) fun {Q K} hK self ih x3 y h hr hn=>by
 unfold l3 at h
 refine cq 5 [12] [B (decide (x3.1<(len c_1.Clauses)))] 18 ?_
 refine sq h ?_ ?_<;>intro h
 ·refine aq 1 ?_
  refine cq 11 [6,14,15] [I x3.1,.fn 145 [.iptr (ai cE.1) 0,.iptr (I cE.2.1) 0,.iptr (ak cE.2.2) 0],I x3.1] 82 ?_
  obtain⟨r4,hr4,h⟩:=bS h
  refine oq 98 (B r4) rfl (cP (Xj hr4)) ?_
  refine aq 1 ?_
  obtain⟨y5,hy5,hy51,hy52⟩:=bL h
  have j5:∀u5,y5=.inr u5→Run GQ 0 Q (.blk 1::.code (cR (cR (cR Io)))::.lp Io::.blk 0::K) (sT 23 [(1,.fn 145 [.iptr (ai cE.1) 0,.iptr (I cE.2.1) 0,.iptr (ak cE.2.2) 0]),(5,.hs 1 0 [] 1 0 (u5.map I).length),(10,I (len c_1.Clauses)),(11,I x3.1)] [⟨0,1,u5.map I⟩] 2):=by
   intro u5 hu
   replace h:=hy52 u5 hu
   refine cq 5 [11] [I (aj (x3.1+1))] 34 ?_
   refine dF ?_
   exact rf [1,5,10,11] [1] (ih _ _ h hr hn :)
  have r5:∀r',y5=.inl r'→∀st,L5 (c_1,cE) r' st→Q st:=fun r' e st hq=>hr r' (hy51 r' e) st hq
  replace h:=hy5
  refine sq h ?_ ?_<;>intro h
  ·refine cq 3 [17,18] [.hs 1 0 [] 1 0 (x3.2.map I).length,I x3.1] 130 ?_
   refine oq 146 (.hs 130 0 [] 1 0 1) rfl (bV rfl (fb (f:=I) (xs:=[]) (z:=I (0)) (es:=[I x3.1]) (ws:=[I x3.1]) rfl rfl rfl (by decide) rfl (bw rfl) rfl)) ?_
   obtain⟨a6,ha6,h⟩:=bS h
   refine oq 162 (.hs 146 0 [] 1 0 (a6.map I).length) rfl (fQ rfl rfl rfl rfl rfl (iA (path:=[]) (f:=I) (xs:=x3.2) (ys:=[x3.1]) rfl rfl (jZ rfl rfl rfl) rfl rfl rfl aG rfl (by decide) nY ha6 rfl lF)) ?_
   refine cq 2 [5] [.hs 146 0 [] 1 0 (a6.map I).length] 178 ?_
   exact rf [1,5,10,11] [146] (j5 _ (ap h) :)
  ·refine aq 1 ?_
   exact rf [1,5,10,11] [1] (j5 _ (ap h) :)
 ·refine aq 1 ?_
  exact rf [5] [1] (hn _ (ap h) :) (hk:=hK)
theorem T7 (c_1:Contract)(cE:Contract×Int×Clause)(r:(List Int))(h:K6 c_1 cE=some r):bP GQ Tryz.f144 [false,false] 0 (GP (c_1,cE)) (GR r):=by
 show Run _ _ (L5 (c_1,cE) r) [.code Th] _
 refine rI 23 [(0,ai c_1),(1,.fn 145 [.iptr (ai cE.1) 0,.iptr (I cE.2.1) 0,.iptr (ak cE.2.2) 0])] [] 1 ?_
 unfold K6 at h
 refine ck 7 [2] [] [1] [] [.hp 1 0 [] 2 0 0] [some ⟨0,2,[ai c_1]⟩] 33 (by kernel_rfl) ?_
 refine oq 49 (.hs 33 0 [] 1 0 0) rfl (bV rfl (fb (f:=I) (xs:=[]) (z:=I (0)) (es:=[]) (ws:=[]) rfl rfl rfl (by decide) rfl (bw rfl) rfl)) ?_
 refine cq 7 [5,9] [.hs 33 0 [] 1 0 0,.isl false (c_1.Clauses.map ao)] 97 ?_
 refine oq 113 (I (len c_1.Clauses)) rfl (bG rfl rfl rfl (cF rfl)) ?_
 refine cq 3 [11] [I (0)] 129 ?_
 obtain⟨y7,hy7,hy71,hy72⟩:=bJ h
 refine b7 rfl ?_
 refine rf [1,5,10,11] [33] (L6 c_1 cE rfl (0,[]) _ hy7 (fun r' e st hq=>by rw[hy71 r' e] at hq;exact hq) fun u7 hu=>?_)
 replace h:=hy72 u7 hu
 refine cq 5 [4] [.hs 1 0 [] 1 0 (u7.map I).length] 34 ?_
 obtain rfl:=sI h
 exact bX rfl ⟨_,fin (vs:=[.hs 1 0 [] 1 0 (u7.map I).length]) rfl (d8 (eZ rfl (dm rfl rfl)) dX) rfl (d9 (d9 eC)),ez⟩
theorem RU {G:cM}:cH G 144 EH:=gT 2 0 (aR R4 bU) cW Tryz.func144 (fun a r h=>T7 a.1 a.2 r h)
def G1:(Contract×Clause×Int)→List V:=cA aI (cA ao (oA I))
def G2 (r:(List Int)):V×List V:=(.usl 1 (r.map I),[])
noncomputable def EN :=bx [false,false,false] G1 G2 fun x=>Iv x.1 x.2.1 x.2.2
theorem Xg {c_1:Contract}{x_2:Clause}{br:Int}{r}(h:Iv c_1 x_2 br=some r):EN.F (G1 (c_1,x_2,br))=some (G2 r):=aP (bp bB (bp cC (aQ cf))) h
noncomputable def Xi :=aJ Tryz.f102
noncomputable def Tm :=cV [(144,EH)]
def Xh (x:Contract×Clause×Int)(r:(List Int)):St→Prop:=QF Tm Tryz.f102 [false,false,false] (G1 x) (G2 r)
theorem Uf (c_1:Contract)(x_2:Clause)(br:Int)(r:(List Int))(h:Iv c_1 x_2 br=some r):bP Tm Tryz.f102 [false,false,false] 0 (G1 (c_1,x_2,br)) (G2 r):=by
 show Run _ _ (Xh (c_1,x_2,br) r) [.code Xi] _
 refine rI 10 [(0,ai c_1),(1,ak x_2),(2,I br)] [] 1 ?_
 unfold Iv at h
 refine ck 11 [7,8] [] [1,17,33] [] [ai c_1,.fn 145 [.hp 1 0 [] 2 0 0,.hp 33 0 [] 1 0 0,.hp 17 0 [] 12 0 0]] [some ⟨0,2,[ai c_1]⟩,some ⟨0,12,[ak x_2]⟩,some ⟨0,1,[I br]⟩] 97 (by kernel_rfl) ?_
 obtain⟨r4,hr4,h⟩:=bS h
 refine oq 113 (.hs 97 0 [] 1 0 (r4.map I).length) rfl (aV rfl rfl (bq rfl rfl rfl (bi (bI rfl) (bi (XS (la (Ek (path:=[]) rfl rfl aG rfl rfl) (la (Ek (path:=[]) rfl rfl aG rfl rfl) (la (Ek (path:=[]) rfl rfl aG rfl rfl) yx)))) cu)) (Xa hr4) (.inl (by simp[cy,cZ,str,oe (f:=I) Dy])) cG rfl rfl rfl)) ?_
 refine cq 2 [6] [.hs 97 0 [] 1 0 (r4.map I).length] 129 ?_
 obtain rfl:=sI h
 exact bX rfl ⟨_,fin (vs:=[.hs 97 0 [] 1 0 (r4.map I).length]) rfl (d8 (eZ rfl (dm rfl rfl)) dX) rfl (d9 (d9 (d9 eC))),ez⟩
theorem R3 {G:cM}:cH G 102 EN:=gT 3 0 (aR RU bU) cW Tryz.func102 (fun a r h=>Uf a.1 a.2.1 a.2.2 r h)
def C3:(Condition×(List Int))→List V:=cA aD (oA (po 1 I))
def C5 (r:(List Int)):V×List V:=(.usl 1 (r.map I),[.dead])
noncomputable def zY (cl:(Condition×(List Int))→Option (List Int)):Ent:=bx [false,true] C3 C5 cl
theorem Pn (cl:(Condition×(List Int))→Option (List Int)){x}{r}(h:cl x=some r):(zY cl).F (C3 x)=some (C5 r):=aP (bp ba (aQ (fW cf))) h
noncomputable def EC :=zY (aA mS)
theorem GD {c_3:Condition}{bb:List Int}{r}(h:K5 c_3 bb=some r):EC.F (C3 (c_3,bb))=some (C5 r):=Pn (aA mS) h
noncomputable def LX :=aJ Tryz.f146
noncomputable def GC (cl:(Condition×(List Int))→Option (List Int)):Env:=cV [(146,(zY cl))]
def C4 (cl:(Condition×(List Int))→Option (List Int))(x:Condition×(List Int))(r:(List Int)):St→Prop:=QF (GC cl) Tryz.f146 [false,true] (C3 x) (C5 r)
theorem LY (cl:(Condition×(List Int))→Option (List Int))(c_3:Condition)(bb:List Int):cJ (GC cl) 1 (C4 cl (c_3,bb)) (cL (cL (cR (cL (cR (cR LX)))))) 0 (mT cl c_3 bb) (fun u=>(sO 27 [(1,.hs 2 0 [] 1 0 (u.map I).length)] [none,some ⟨0,1,u.map I⟩] 3)) fun x4=>(sO 27 [(1,.hs 2 0 [] 1 0 (x4.2.map I).length),(16,.isl false (c_3.Parts.map ar)),(17,I (len c_3.Parts)),(18,I x4.1)] [none,some ⟨0,1,x4.2.map I⟩] 3):=eF (C6 cl c_3 bb) fun {Q K} hK self ih x4 y h hr hn=>by
 unfold kL at h
 refine cq 5 [19] [B (decide (x4.1<(len c_3.Parts)))] 19 ?_
 refine sq h ?_ ?_<;>intro h
 ·refine aq 1 ?_
  refine aq 4 ?_
  obtain⟨e5,he5,h⟩:=bS h
  refine oq 35 (.iptr (aa e5) 0) rfl (an rfl rfl rfl (bC rfl rfl (aY e5) rfl he5)) ?_
  refine ck 2 [6,21] [] [51] [] [.hp 51 0 [] 4 0 0,aa e5] [some ⟨0,4,[.agg [I (0),str ([]),I (0),.isl true []]]⟩] 67 (by kernel_rfl) ?_
  refine fx 51 [.agg [I (0),str ([]),I (0),.usl 4 (([]).map ae)]] rfl rfl (az (gf (az (.refl _) (az (.refl _) (az (.refl _) (az (.nil _) eh))))) eh) ?_
  refine ck 5 [22,23] [] [51] [] [aa e5,.hs 2 0 [] 1 0 (x4.2.map I).length] [some ⟨2,4,[aa e5]⟩] 115 (by kernel_rfl) ?_
  obtain⟨r6,hr6,h⟩:=bS h
  refine oq 131 (.hs 115 0 [] 1 0 (r6.map I).length) rfl (aV rfl rfl (bq rfl rfl rfl (bi (bI rfl) (fk (eY rfl (dD (path:=[]) rfl rfl aG rfl)) cu)) (Pn cl hr6) (.inr rfl) (fP rfl rfl rfl eq cG) rfl rfl rfl)) ?_
  refine cq 7 [1,18] [.hs 115 0 [] 1 0 (r6.map I).length,I (aj (x4.1+1))] 179 ?_
  refine dF ?_
  exact rg [1,16,17,18] [180,115] (ih _ _ h hr hn :)
 ·refine aq 1 ?_
  exact rg [1] [20,2] (hn _ (ap h) :) (hk:=hK)
theorem TZ (cl:(Condition×(List Int))→Option (List Int))(c_3:Condition)(bb:List Int)(r:(List Int))(h:wz cl c_3 bb=some r):bP (GC cl) Tryz.f146 [false,true] 1 (C3 (c_3,bb)) (C5 r):=by
 show Run _ _ (C4 cl (c_3,bb) r) [.code LX] _
 refine rI 27 [(0,aa c_3),(1,.hs 1 0 [] 1 0 (bb.map I).length)] [(1,some ⟨0,1,bb.map I⟩)] 2 ?_
 unfold wz at h
 refine ck 12 [2,9] [] [2] [] [.hp 2 0 [] 4 0 0,B (c_3.Op==3)] [some ⟨0,4,[aa c_3]⟩] 82 (by kernel_rfl) ?_
 obtain⟨y3,hy3,hy31,hy32⟩:=bJ h
 have j3:∀u3,y3=.inr u3→Run (GC cl) 1 (C4 cl (c_3,bb) r) (.code (cR (cR LX))::[]) (sO 27 [(1,.hs 2 0 [] 1 0 (u3.map I).length),(2,.hp 3 0 [] 4 0 0)] [none,some ⟨0,1,u3.map I⟩,some ⟨0,4,[aa c_3]⟩] 4):=by
  intro u3 hu
  replace h:=hy32 u3 hu
  refine cq 5 [16] [.isl false (c_3.Parts.map ar)] 36 ?_
  refine oq 52 (I (len c_3.Parts)) rfl (bG rfl rfl rfl (cF rfl)) ?_
  refine cq 3 [18] [I (0)] 68 ?_
  obtain⟨y7,hy7,hy71,hy72⟩:=bJ h
  refine b7 rfl ?_
  refine rg [1,16,17,18] [69,2] (LY cl c_3 bb rfl (0,u3) _ hy7 (fun r' e st hq=>by rw[hy71 r' e] at hq;exact hq) fun u7 hu=>?_)
  replace h:=hy72 u7 hu
  refine cq 5 [4] [.hs 2 0 [] 1 0 (u7.map I).length] 35 ?_
  obtain rfl:=sI h
  exact bX rfl ⟨_,fin (vs:=[.hs 2 0 [] 1 0 (u7.map I).length]) rfl (d8 (eZ rfl (dm rfl rfl)) dX) rfl (d9 (kb rfl (iW rfl) eC)),mb ez⟩
 have r3:∀r',y3=.inl r'→∀st,C4 cl (c_3,bb) r' st→(C4 cl (c_3,bb) r) st:=fun r' e st hq=>by rw[hy31 r' e] at hq;exact hq
 replace h:=hy3
 refine sq h ?_ ?_<;>intro h
 ·refine cq 4 [10,12] [.hs 1 0 [] 1 0 (bb.map I).length,I c_3.Day] 130 ?_
  refine oq 146 (.hs 130 0 [] 1 0 1) rfl (bV rfl (fb (f:=I) (xs:=[]) (z:=I (0)) (es:=[I c_3.Day]) (ws:=[I c_3.Day]) rfl rfl rfl (by decide) rfl (bw rfl) rfl)) ?_
  obtain⟨a8,ha8,h⟩:=bS h
  refine oq 162 (.hs 146 0 [] 1 0 (a8.map I).length) rfl (fQ rfl rfl rfl rfl rfl (iA (path:=[]) (f:=I) (xs:=bb) (ys:=[c_3.Day]) rfl rfl (jZ rfl rfl rfl) rfl rfl rfl aG rfl (by decide) nY ha8 rfl lF)) ?_
  refine cq 2 [1] [.hs 146 0 [] 1 0 (a8.map I).length] 178 ?_
  exact rg [1,2] [179,146,2] (j3 _ (ap h) :)
 ·refine aq 1 ?_
  exact rg [1,2] [83,1,2] (j3 _ (ap h) :)
theorem RP {G:cM}:cH G 146 EC:=gp fun cl g_Ffe=>gT 2 1 (aR g_Ffe bU) cW Tryz.func146 (fun a r h=>TZ cl a.1 a.2 r h)
def Dj:(Condition×(List ac)×Int)→List V:=cA aD (cA (lc str) (oA I))
def Dk (r:Bool):V×List V:=(B r,[])
noncomputable def Ab (cN:(Condition×(List ac)×Int)→Option Bool):Ent:=bx [false,false,false] Dj Dk cN
theorem sF (cN:(Condition×(List ac)×Int)→Option Bool){x}{r}(h:cN x=some r):(Ab cN).F (Dj x)=some (Dk r):=aP (bp ba (bp (d6 bH) (aQ cf))) h
noncomputable def EJ :=Ab (aA mX)
theorem Ti {c_1:Condition}{bf:List ac}{bT:Int}{r}(h:Fy c_1 bf bT=some r):EJ.F (Dj (c_1,bf,bT))=some (Dk r):=sF (aA mX) h
noncomputable def Dl :=aJ Tryz.f147
noncomputable def GS (cN:(Condition×(List ac)×Int)→Option Bool):Env:=cV [(129,pX),(147,(Ab cN))]
def tv (cN:(Condition×(List ac)×Int)→Option Bool)(x:Condition×(List ac)×Int)(r:Bool):St→Prop:=QF (GS cN) Tryz.f147 [false,false,false] (Dj x) (Dk r)
theorem Ub (cN:(Condition×(List ac)×Int)→Option Bool)(c_1:Condition)(bf:List ac)(bT:Int)(r:Bool)(h:wD cN c_1 bf bT=some r):bP (GS cN) Tryz.f147 [false,false,false] 0 (Dj (c_1,bf,bT)) (Dk r):=by
 show Run _ _ (tv cN (c_1,bf,bT) r) [.code Dl] _
 refine rI 67 [(0,aa c_1),(1,.isl false (bf.map str)),(2,I bT)] [] 1 ?_
 unfold wD at h
 refine ck 17 [3,8,9] [] [1] [] [.hp 1 0 [] 4 0 0,I c_1.Op,B (c_1.Op==2)] [some ⟨0,4,[aa c_1]⟩] 97 (by kernel_rfl) ?_
 refine sq h ?_ ?_<;>intro h
 ·refine cq 5 [11,13] [.isl false (bf.map str),str c_1.Name] 145 ?_
  obtain⟨r4,hr4,h⟩:=bS h
  refine oq 161 (B r4) rfl (cP (HP hr4)) ?_
  refine cq 2 [6] [B r4] 177 ?_
  obtain rfl:=sI h
  exact rP [B r4]
 ·refine cq 5 [15] [B (c_1.Op==3)] 129 ?_
  refine sq h ?_ ?_<;>intro h
  ·refine cq 8 [6] [B (decide (bT≥c_1.Day))] 209 ?_
   obtain rfl:=sI h
   exact rP [B (decide (bT≥c_1.Day))]
  ·refine cq 5 [21] [B (c_1.Op==4)] 161 ?_
   refine sq h ?_ ?_<;>intro h
   ·refine cq 4 [24] [.isl false (c_1.Parts.map ar)] 193 ?_
    obtain⟨e5,he5,h⟩:=bS h
    refine oq 209 (.iptr (aa e5) 0) rfl (an rfl rfl rfl (bC rfl rfl (aY e5) rfl he5)) ?_
    refine cq 3 [26,27,28] [aa e5,.isl false (bf.map str),I bT] 257 ?_
    obtain⟨r6,hr6,h⟩:=bS h
    refine oq 273 (B r6) rfl (aV rfl rfl (bq rfl rfl rfl (bi (bI rfl) (bi (bI rfl) (bi (bI rfl) cu))) (sF cN hr6) (.inr rfl) cG rfl rfl rfl)) ?_
    refine cq 3 [6] [B (!r6)] 305 ?_
    obtain rfl:=sI h
    exact rP [B (!r6)]
   ·refine cq 5 [31] [B (c_1.Op==5)] 193 ?_
    refine sq h ?_ ?_<;>intro h
    ·refine cq 4 [34] [.isl false (c_1.Parts.map ar)] 225 ?_
     obtain⟨e7,he7,h⟩:=bS h
     refine oq 241 (.iptr (aa e7) 0) rfl (an rfl rfl rfl (bC rfl rfl (aY e7) rfl he7)) ?_
     refine cq 3 [36,37,38] [aa e7,.isl false (bf.map str),I bT] 289 ?_
     obtain⟨r8,hr8,h⟩:=bS h
     refine oq 305 (B r8) rfl (aV rfl rfl (bq rfl rfl rfl (bi (bI rfl) (bi (bI rfl) (bi (bI rfl) cu))) (sF cN hr8) (.inr rfl) cG rfl rfl rfl)) ?_
     refine cq 1 [40] [B r8] 321 ?_
     obtain⟨y9,hy9,hy91,hy92⟩:=bJ h
     have j9:∀u9,y9=.inr u9→Run (GS cN) 0 (tv cN (c_1,bf,bT) r) (.code (cR (cL (cR (cR (cR (cR (cR (cR (cR (cL (cR (cL (cR Dl)))))))))))))::.blk 0::.code (cR (cR Dl))::[]) (sT 67 [(6,B u9)] [] 1):=by
      intro u9 hu
      replace h:=hy92 u9 hu
      obtain rfl:=sI h
      exact rP [B u9]
     have r9:∀r',y9=.inl r'→∀st,tv cN (c_1,bf,bT) r' st→(tv cN (c_1,bf,bT) r) st:=fun r' e st hq=>by rw[hy91 r' e] at hq;exact hq
     replace h:=hy9
     refine sp 40 h rfl ?_ ?_<;>intro h
     ·refine cq 2 [42] [.isl false (c_1.Parts.map ar)] 353 ?_
      obtain⟨e10,he10,h⟩:=bS h
      refine oy 369 (.iptr (aa e10) 0) rfl (an rfl rfl rfl (bC rfl rfl (aY e10) rfl he10)) ?_
      refine cq 3 [44,45,46] [aa e10,.isl false (bf.map str),I bT] 417 ?_
      obtain⟨r11,hr11,h⟩:=bS h
      refine oy 433 (B r11) rfl (aV rfl rfl (bq rfl rfl rfl (bi (bI rfl) (bi (bI rfl) (bi (bI rfl) cu))) (sF cN hr11) (.inr rfl) cG rfl rfl rfl)) ?_
      refine cq 3 [6] [B r11] 465 ?_
      exact rf [6] [] (j9 _ (ap h) :)
     ·refine cq 10 [6] [B false] 465 ?_
      exact rf [6] [] (j9 _ (ap h) :)
    ·refine cq 5 [49] [B (c_1.Op==6)] 225 ?_
     refine sq h ?_ ?_<;>intro h
     ·refine cq 4 [52] [.isl false (c_1.Parts.map ar)] 257 ?_
      obtain⟨e12,he12,h⟩:=bS h
      refine oq 273 (.iptr (aa e12) 0) rfl (an rfl rfl rfl (bC rfl rfl (aY e12) rfl he12)) ?_
      refine cq 3 [54,55,56] [aa e12,.isl false (bf.map str),I bT] 321 ?_
      obtain⟨r13,hr13,h⟩:=bS h
      refine oq 337 (B r13) rfl (aV rfl rfl (bq rfl rfl rfl (bi (bI rfl) (bi (bI rfl) (bi (bI rfl) cu))) (sF cN hr13) (.inr rfl) cG rfl rfl rfl)) ?_
      refine cq 1 [58] [B r13] 353 ?_
      obtain⟨y14,hy14,hy141,hy142⟩:=bJ h
      have j14:∀u14,y14=.inr u14→Run (GS cN) 0 (tv cN (c_1,bf,bT) r) (.code (cR (cL (cR (cR (cR (cR (cR (cR (cR (cR (cR (cL (cR (cL (cR Dl)))))))))))))))::.blk 0::.code (cR (cR Dl))::[]) (sT 67 [(6,B u14)] [] 1):=by
       intro u14 hu
       replace h:=hy142 u14 hu
       obtain rfl:=sI h
       exact rP [B u14]
      have r14:∀r',y14=.inl r'→∀st,tv cN (c_1,bf,bT) r' st→(tv cN (c_1,bf,bT) r) st:=fun r' e st hq=>by rw[hy141 r' e] at hq;exact hq
      replace h:=hy14
      refine sp 58 h rfl ?_ ?_<;>intro h
      ·refine cq 10 [6] [B true] 497 ?_
       exact rf [6] [] (j14 _ (ap h) :)
      ·refine cq 2 [60] [.isl false (c_1.Parts.map ar)] 385 ?_
       obtain⟨e15,he15,h⟩:=bS h
       refine oy 401 (.iptr (aa e15) 0) rfl (an rfl rfl rfl (bC rfl rfl (aY e15) rfl he15)) ?_
       refine cq 3 [62,63,64] [aa e15,.isl false (bf.map str),I bT] 449 ?_
       obtain⟨r16,hr16,h⟩:=bS h
       refine oy 465 (B r16) rfl (aV rfl rfl (bq rfl rfl rfl (bi (bI rfl) (bi (bI rfl) (bi (bI rfl) cu))) (sF cN hr16) (.inr rfl) cG rfl rfl rfl)) ?_
       refine cq 3 [6] [B r16] 497 ?_
       exact rf [6] [] (j14 _ (ap h) :)
     ·refine aq 1 ?_
      refine cq 5 [6] [B true] 241 ?_
      obtain rfl:=sI h
      exact rP [B true]
theorem RX {G:cM}:cH G 147 EJ:=gp fun cN g_Ffm=>gT 3 0 (aR uQ (aR g_Ffm bU)) cW Tryz.func147 (fun a r h=>Ub cN a.1 a.2.1 a.2.2 r h)
def G8:(Condition×Condition×Bool)→List V:=cA aD (cA aD (oA B))
def G9 (r:Bool×Bool):V×List V:=(.tup [B r.1,B r.2],[])
noncomputable def EP :=bx [false,false,false] G8 G9 fun x=>Dq x.1 x.2.1 x.2.2
theorem Tp {a_1:Condition}{b_2:Condition}{aZ:Bool}{r}(h:Dq a_1 b_2 aZ=some r):EP.F (G8 (a_1,b_2,aZ))=some (G9 r):=aP (bp ba (bp ba (aQ WX))) h
noncomputable def Ha :=aJ Tryz.f103
noncomputable abbrev Ix :=cL (cL (cR (cL (cR (cR (cL (cL (cR (cR (cL (cL (cR (cL (cR (cR (cR (cR Ha)))))))))))))))))
noncomputable abbrev Dr :=cL (cL (cR (cR (cR (cR (cL (cL (cR (cR (cL (cL (cR (cL (cR (cR (cR (cR Ha)))))))))))))))))
noncomputable def tw :=cV [(142,pT),(143,wE),(146,EC),(147,EJ)]
def wF (x:Condition×Condition×Bool)(r:Bool×Bool):St→Prop:=QF tw Tryz.f103 [false,false,false] (G8 x) (G9 r)
theorem Me (a_1:Condition)(b_2:Condition)(aZ:Bool)(r6:(List ac))(x10:Int)(r8:(List Int))(q9:Int):cJ tw 0 (wF (a_1,b_2,aZ)) Ix 2 (qh a_1 b_2 aZ r6 x10 r8 q9) (fun u=>(sT 73 [(2,B aZ),(3,.hp 1 0 [] 4 0 0),(4,.hp 2 0 [] 4 0 0),(8,.hs 3 0 [] 1 0 (r6.map str).length),(9,.hs 4 0 [] 1 0 (r8.map I).length),(11,.hs 5 0 [] 1 0 (u.map str).length),(31,I q9),(32,I x10)] [⟨0,4,[aa a_1]⟩,⟨0,4,[aa b_2]⟩,⟨0,1,r6.map str⟩,⟨0,1,r8.map I⟩,⟨0,1,u.map str⟩] 6)) fun x11=>(sT 73 [(2,B aZ),(3,.hp 1 0 [] 4 0 0),(4,.hp 2 0 [] 4 0 0),(8,.hs 3 0 [] 1 0 (r6.map str).length),(9,.hs 4 0 [] 1 0 (r8.map I).length),(10,I x10),(11,.hs 5 0 [] 1 0 (x11.2.map str).length),(31,I q9),(32,I x10),(36,.hs 3 0 [] 1 0 (r6.map str).length),(37,I (len r6)),(38,I x11.1)] [⟨0,4,[aa a_1]⟩,⟨0,4,[aa b_2]⟩,⟨0,1,r6.map str⟩,⟨0,1,r8.map I⟩,⟨0,1,x11.2.map str⟩] 6):=eF (Dt a_1 b_2 aZ r6 x10 r8 q9) fun {Q K} hK self ih x11 y h hr hn=>by
 unfold l6 at h
 refine cq 5 [39] [B (decide (x11.1<(len r6)))] 22 ?_
 refine sq h ?_ ?_<;>intro h
 ·refine aq 1 ?_
  refine cq 5 [40] [I x11.1] 38 ?_
  obtain⟨e12,he12,h⟩:=bS h
  refine oq 54 (.hp 3 0 [] 1 (0+Int.toNat x11.1) 0) rfl (an rfl rfl rfl (dG (f:=str) (xs:=r6) rfl rfl rfl he12)) ?_
  refine oq 70 (str e12) rfl (cQ rfl (iH (path:=[]) rfl rfl rfl aG (cX (f:=str) (xs:=r6) he12) rfl rfl rfl)) ?_
  refine cq 7 [13,43,44] [str e12,I x10,I x11.1] 134 ?_
  obtain⟨q13,hq13,h⟩:=bS h
  refine oq 150 (I q13) rfl (wK rfl rfl (TC hq13)) ?_
  refine cq 3 [47] [B ((II .i64 q13 1)==1)] 182 ?_
  obtain⟨y14,hy14,hy141,hy142⟩:=bL h
  have j14:∀u14,y14=.inr u14→Run tw 0 Q (.blk 3::.code (cR (cR (cR Ix)))::.lp Ix::.blk 2::K) (sT 73 [(2,B aZ),(3,.hp 1 0 [] 4 0 0),(4,.hp 2 0 [] 4 0 0),(8,.hs 3 0 [] 1 0 (r6.map str).length),(9,.hs 4 0 [] 1 0 (r8.map I).length),(10,I x10),(11,.hs 5 0 [] 1 0 (u14.map str).length),(31,I q9),(32,I x10),(36,.hs 3 0 [] 1 0 (r6.map str).length),(37,I (len r6)),(38,I x11.1)] [⟨0,4,[aa a_1]⟩,⟨0,4,[aa b_2]⟩,⟨0,1,r6.map str⟩,⟨0,1,r8.map I⟩,⟨0,1,u14.map str⟩] 6):=by
   intro u14 hu
   replace h:=hy142 u14 hu
   refine cq 5 [38] [I (aj (x11.1+1))] 38 ?_
   refine dF ?_
   exact rf [2,3,4,8,9,10,11,31,32,36,37,38] [1,2,3,4,5] (ih _ _ h hr hn :)
  have r14:∀r',y14=.inl r'→∀st,wF (a_1,b_2,aZ) r' st→Q st:=fun r' e st hq=>hr r' (hy141 r' e) st hq
  replace h:=hy14
  refine sq h ?_ ?_<;>intro h
  ·refine cq 3 [48,49] [.hs 5 0 [] 1 0 (x11.2.map str).length,str e12] 214 ?_
   refine oq 230 (.hs 214 0 [] 1 0 1) rfl (bV rfl (fb (f:=I) (xs:=[]) (z:=str ([])) (es:=[str e12]) (ws:=[str e12]) rfl rfl rfl (by decide) rfl (bw rfl) rfl)) ?_
   obtain⟨a15,ha15,h⟩:=bS h
   refine oq 246 (.hs 230 0 [] 1 0 (a15.map str).length) rfl (fQ rfl rfl rfl rfl rfl (iA (path:=[]) (f:=str) (xs:=x11.2) (ys:=[e12]) rfl rfl (jZ rfl rfl rfl) rfl rfl rfl aG rfl (by decide) iL ha15 rfl lF)) ?_
   refine cq 2 [11] [.hs 230 0 [] 1 0 (a15.map str).length] 262 ?_
   exact rf [2,3,4,8,9,10,11,31,32,36,37,38] [1,2,3,4,230] (j14 _ (ap h) :)
  ·refine aq 1 ?_
   exact rf [2,3,4,8,9,10,11,31,32,36,37,38] [1,2,3,4,5] (j14 _ (ap h) :)
 ·refine aq 1 ?_
  exact rf [2,3,4,8,9,11,31,32] [1,2,3,4,5] (hn _ (ap h) :) (hk:=hK)
theorem Mf (a_1:Condition)(b_2:Condition)(aZ:Bool)(r8:(List Int))(u16:(List ac))(r6:(List ac))(q9:Int)(x10:Int):cJ tw 0 (wF (a_1,b_2,aZ)) Dr 4 (oT a_1 b_2 aZ r8 u16 r6 q9 x10) (fun u=>(sT 73 [(2,B aZ),(3,.hp 1 0 [] 4 0 0),(4,.hp 2 0 [] 4 0 0),(8,.hs 3 0 [] 1 0 (r6.map str).length),(9,.hs 4 0 [] 1 0 (r8.map I).length),(31,I q9),(32,I x10)] [⟨0,4,[aa a_1]⟩,⟨0,4,[aa b_2]⟩,⟨0,1,r6.map str⟩,⟨0,1,r8.map I⟩] 5)) fun x17=>(sT 73 [(2,B aZ),(3,.hp 1 0 [] 4 0 0),(4,.hp 2 0 [] 4 0 0),(8,.hs 3 0 [] 1 0 (r6.map str).length),(9,.hs 4 0 [] 1 0 (r8.map I).length),(11,.hs 5 0 [] 1 0 (u16.map str).length),(31,I q9),(32,I x10),(53,.hs 4 0 [] 1 0 (r8.map I).length),(54,I (len r8)),(55,I x17)] [⟨0,4,[aa a_1]⟩,⟨0,4,[aa b_2]⟩,⟨0,1,r6.map str⟩,⟨0,1,r8.map I⟩,⟨0,1,u16.map str⟩] 6):=eF (Du a_1 b_2 aZ r8 u16 r6 q9 x10) fun {Q K} hK self ih x17 y h hr hn=>by
 unfold l7 at h
 refine cq 5 [56] [B (decide (x17<(len r8)))] 22 ?_
 refine sq h ?_ ?_<;>intro h
 ·refine aq 1 ?_
  refine aq 4 ?_
  obtain⟨e18,he18,h⟩:=bS h
  refine oq 38 (.hp 4 0 [] 1 (0+Int.toNat x17) 0) rfl (an rfl rfl rfl (dG (f:=I) (xs:=r8) rfl rfl rfl he18)) ?_
  refine oq 54 (I e18) rfl (cQ rfl (iH (path:=[]) rfl rfl rfl aG (cX (f:=I) (xs:=r8) he18) rfl rfl rfl)) ?_
  refine cq 7 [15,59,60,61] [I e18,aa a_1,.hs 5 0 [] 1 0 (u16.map str).length,I e18] 118 ?_
  obtain⟨r19,hr19,h⟩:=bS h
  refine oq 134 (B r19) rfl (aV rfl rfl (bq rfl rfl rfl (bi (bI rfl) (bi (pm rfl rfl (eR (f:=str) (g:=str) (xs:=u16) rfl rfl (dB gw))) (bi (bI rfl) cu))) (Ti hr19) (.inl rfl) cG rfl rfl rfl)) ?_
  refine cq 1 [63] [B r19] 150 ?_
  obtain⟨y20,hy20,hy201,hy202⟩:=bL h
  have j20:∀u20,y20=.inr u20→Run tw 0 Q (.code (cR (cR (cL (cL (cR (cR Dr))))))::.blk 5::.code (cR (cR (cR Dr)))::.lp Dr::.blk 4::K) (sT 73 [(2,B aZ),(3,.hp 1 0 [] 4 0 0),(4,.hp 2 0 [] 4 0 0),(8,.hs 3 0 [] 1 0 (r6.map str).length),(9,.hs 4 0 [] 1 0 (r8.map I).length),(11,.hs 5 0 [] 1 0 (u16.map str).length),(31,I q9),(32,I x10),(53,.hs 4 0 [] 1 0 (r8.map I).length),(54,I (len r8)),(55,I x17),(70,B u20)] [⟨0,4,[aa a_1]⟩,⟨0,4,[aa b_2]⟩,⟨0,1,r6.map str⟩,⟨0,1,r8.map I⟩,⟨0,1,u16.map str⟩] 6):=by
   intro u20 hu
   replace h:=hy202 u20 hu
   refine sq h ?_ ?_<;>intro h
   ·refine cq 5 [6,7] [B true,B true] 38 ?_
    exact bX rfl (hr _ (ap h) _ (qp [B true,B true]))
   ·refine aq 1 ?_
    refine cq 5 [55] [I (aj (x17+1))] 38 ?_
    refine dF ?_
    exact rf [2,3,4,8,9,11,31,32,53,54,55] [1,2,3,4,5] (ih _ _ h hr hn :)
  have r20:∀r',y20=.inl r'→∀st,wF (a_1,b_2,aZ) r' st→Q st:=fun r' e st hq=>hr r' (hy201 r' e) st hq
  replace h:=hy20
  refine sp 63 h rfl ?_ ?_<;>intro h
  ·refine cq 3 [64,65,66] [aa b_2,.hs 5 0 [] 1 0 (u16.map str).length,I e18] 198 ?_
   obtain⟨r21,hr21,h⟩:=bS h
   refine oy 214 (B r21) rfl (aV rfl rfl (bq rfl rfl rfl (bi (bI rfl) (bi (pm rfl rfl (eR (f:=str) (g:=str) (xs:=u16) rfl rfl (dB gw))) (bi (bI rfl) cu))) (Ti hr21) (.inl rfl) cG rfl rfl rfl)) ?_
   refine cq 4 [70] [B (r21==aZ)] 262 ?_
   exact rf [2,3,4,8,9,11,31,32,53,54,55,70] [1,2,3,4,5] (j20 _ (ap h) :)
  ·refine cq 8 [70] [B false] 262 ?_
   exact rf [2,3,4,8,9,11,31,32,53,54,55,70] [1,2,3,4,5] (j20 _ (ap h) :)
 ·refine aq 1 ?_
  exact rf [2,3,4,8,9,31,32] [1,2,3,4] (hn _ (ap h) :) (hk:=hK)
theorem Md (a_1:Condition)(b_2:Condition)(aZ:Bool)(q9:Int)(r6:(List ac))(r8:(List Int)):cJ tw 0 (wF (a_1,b_2,aZ)) (cL (cL (cR (cL (cR (cR (cR (cR Ha)))))))) 0 (oS a_1 b_2 aZ q9 r6 r8) (fun u=>(sT 73 [] [] 1)) fun x10=>(sT 73 [(2,B aZ),(3,.hp 1 0 [] 4 0 0),(4,.hp 2 0 [] 4 0 0),(8,.hs 3 0 [] 1 0 (r6.map str).length),(9,.hs 4 0 [] 1 0 (r8.map I).length),(31,I q9),(32,I x10)] [⟨0,4,[aa a_1]⟩,⟨0,4,[aa b_2]⟩,⟨0,1,r6.map str⟩,⟨0,1,r8.map I⟩] 5):=eF (Ds a_1 b_2 aZ q9 r6 r8) fun {Q K} hK self ih x10 y h hr hn=>by
 unfold l5 at h
 refine cq 5 [33] [B (decide (x10<q9))] 21 ?_
 refine sq h ?_ ?_<;>intro h
 ·refine aq 1 ?_
  refine cq 9 [10] [I x10] 53 ?_
  refine oq 69 (.hs 53 0 [] 1 0 0) rfl (bV rfl (fb (f:=I) (xs:=[]) (z:=str ([])) (es:=[]) (ws:=[]) rfl rfl rfl (by decide) rfl (bw rfl) rfl)) ?_
  refine cq 6 [11,36] [.hs 53 0 [] 1 0 0,.hs 3 0 [] 1 0 (r6.map str).length] 101 ?_
  refine oq 117 (I (len r6)) rfl (bG rfl rfl rfl (gL (f:=str) (xs:=r6) rfl rfl)) ?_
  refine cq 3 [38] [I (0)] 133 ?_
  obtain⟨y16,hy16,hy161,hy162⟩:=bL h
  refine b7 rfl ?_
  refine rf [2,3,4,8,9,10,11,31,32,36,37,38] [1,2,3,4,53] (Me a_1 b_2 aZ r6 x10 r8 q9 rfl (0,[]) _ hy16 (fun r' e st hq=>hr r' (hy161 r' e) st hq) fun u16 hu=>?_)
  replace h:=hy162 u16 hu
  refine cq 3 [53] [.hs 4 0 [] 1 0 (r8.map I).length] 22 ?_
  refine oq 38 (I (len r8)) rfl (bG rfl rfl rfl (gL (f:=I) (xs:=r8) rfl rfl)) ?_
  refine cq 3 [55] [I (0)] 54 ?_
  obtain⟨y22,hy22,hy221,hy222⟩:=bL h
  refine b7 rfl ?_
  refine rf [2,3,4,8,9,11,31,32,53,54,55] [1,2,3,4,5] (Mf a_1 b_2 aZ r8 u16 r6 q9 x10 rfl 0 _ hy22 (fun r' e st hq=>hr r' (hy221 r' e) st hq) fun u22 hu=>?_)
  replace h:=hy222 u22 hu
  refine cq 5 [32] [I (aj (x10+1))] 37 ?_
  refine dF ?_
  exact rf [2,3,4,8,9,31,32] [1,2,3,4] (ih _ _ h hr hn :)
 ·refine aq 1 ?_
  exact rf [] [] (hn _ (ap h) :) (hk:=hK)
theorem Ui (a_1:Condition)(b_2:Condition)(aZ:Bool)(r:Bool×Bool)(h:Dq a_1 b_2 aZ=some r):bP tw Tryz.f103 [false,false,false] 0 (G8 (a_1,b_2,aZ)) (G9 r):=by
 show Run _ _ (wF (a_1,b_2,aZ) r) [.code Ha] _
 refine rI 73 [(0,aa a_1),(1,aa b_2),(2,B aZ)] [] 1 ?_
 unfold Dq at h
 refine ck 8 [3,4] [] [1,17] [] [.hp 1 0 [] 4 0 0,.hp 17 0 [] 4 0 0] [some ⟨0,4,[aa a_1]⟩,some ⟨0,4,[aa b_2]⟩] 65 (by kernel_rfl) ?_
 refine fp [0,0,2,7,15,31] rfl (by decide +kernel) ?_
 refine dq [17] [] (aa b_2) rfl (cQ rfl rfl) ?_
 refine dq [1] [] (aa a_1) rfl (cQ rfl rfl) ?_
 obtain⟨r4,hr4,h⟩:=bS h
 refine dq [] [] (.hs 97 0 [] 1 0 (r4.map str).length) rfl (aV rfl rfl (bq rfl rfl rfl (bi (bI rfl) (fk (eY rfl (WI rfl)) cu)) (show pT.F [aa a_1,.isl true []]=some _ from wB hr4) (.inr rfl) cG rfl rfl rfl)) ?_ (dW rfl rfl rfl rfl (bi (bI rfl) (fk (eY rfl (WI rfl)) cu)) (show pT.F [aa a_1,.isl true []]=some _ from wB hr4) (.inr rfl) rfl)
 obtain⟨r5,hr5,h⟩:=bS h
 refine dq [97] [97] (.hs 113 0 [] 1 0 (r5.map str).length) rfl (aV rfl rfl (bq rfl rfl rfl (bi (bI rfl) (fk (eY rfl (dD (path:=[]) rfl rfl aG rfl)) cu)) (wB hr5) (.inr rfl) (fP rfl rfl rfl eq cG) rfl rfl rfl)) ?_ (dW rfl rfl rfl rfl (bi (bI rfl) (fk (eY rfl (dD (path:=[]) rfl rfl aG rfl)) cu)) (wB hr5) (.inr rfl) rfl)
 obtain⟨r6,hr6,h⟩:=bS h
 refine dq [113] [113] (.hs 129 0 [] 1 0 (r6.map str).length) rfl (aV rfl rfl (bq rfl rfl rfl (fk (eY rfl (dD (path:=[]) rfl rfl aG rfl)) cu) (Mc hr6) (.inr rfl) (fP rfl rfl rfl eq cG) rfl rfl rfl)) ?_ (dW rfl rfl rfl rfl (fk (eY rfl (dD (path:=[]) rfl rfl aG rfl)) cu) (Mc hr6) (.inr rfl) rfl)
 refine dk 1 [8] [.hs 129 0 [] 1 0 (r6.map str).length] ?_
 refine de 161 rfl rfl ?_
 refine cq 4 [21] [.hs 129 0 [] 1 0 (r6.map str).length] 177 ?_
 refine oq 193 (I (len r6)) rfl (bG rfl rfl rfl (gL (f:=str) (xs:=r6) rfl rfl)) ?_
 refine cq 2 [23] [B (decide ((len r6)>10))] 209 ?_
 refine sq h ?_ ?_<;>intro h
 ·refine cq 5 [6,7] [B false,B false] 241 ?_
  obtain rfl:=sI h
  exact rP [B false,B false]
 ·refine aq 1 ?_
  refine aq 1 ?_
  refine fp [0,0,0,6,15,31] rfl (by decide +kernel) ?_
  refine dq [17] [] (aa b_2) rfl (cQ rfl rfl) ?_
  refine dq [1] [] (aa a_1) rfl (cQ rfl rfl) ?_
  refine dq [] [] (.hs 241 0 [] 1 0 1) rfl (bV rfl (fb (f:=I) (xs:=[]) (z:=I (0)) (es:=[I (0)]) (ws:=[I (0)]) rfl rfl rfl (by decide) rfl (bw rfl) rfl)) ?_
  obtain⟨r7,hr7,h⟩:=bS h
  refine dq [241] [241] (.hs 257 0 [] 1 0 (r7.map I).length) rfl (aV rfl rfl (bq rfl rfl rfl (bi (bI rfl) (fk (eY rfl (dD (path:=[]) (m:=1) (es2:=[I (0)]) rfl rfl aG rfl)) cu)) (GD hr7) (.inr rfl) (fP rfl rfl rfl eq cG) rfl rfl rfl)) ?_ (dW rfl rfl rfl rfl (bi (bI rfl) (fk (eY rfl (dD (path:=[]) (m:=1) (es2:=[I (0)]) rfl rfl aG rfl)) cu)) (GD hr7) (.inr rfl) rfl)
  obtain⟨r8,hr8,h⟩:=bS h
  refine dq [257] [257] (.hs 273 0 [] 1 0 (r8.map I).length) rfl (aV rfl rfl (bq rfl rfl rfl (bi (bI rfl) (fk (eY rfl (dD (path:=[]) rfl rfl aG rfl)) cu)) (GD hr8) (.inr rfl) (fP rfl rfl rfl eq cG) rfl rfl rfl)) ?_ (dW rfl rfl rfl rfl (bi (bI rfl) (fk (eY rfl (dD (path:=[]) rfl rfl aG rfl)) cu)) (GD hr8) (.inr rfl) rfl)
  refine dk 1 [9] [.hs 273 0 [] 1 0 (r8.map I).length] ?_
  refine de 305 rfl rfl ?_
  refine cq 4 [29] [.hs 129 0 [] 1 0 (r6.map str).length] 321 ?_
  refine oq 337 (I (len r6)) rfl (bG rfl rfl rfl (gL (f:=str) (xs:=r6) rfl rfl)) ?_
  obtain⟨q9,hq9,h⟩:=bS h
  refine oq 353 (I q9) rfl (wK rfl rfl (TB hq9)) ?_
  refine cq 3 [32] [I (0)] 369 ?_
  obtain⟨y23,hy23,hy231,hy232⟩:=bJ h
  refine b7 rfl ?_
  refine rf [2,3,4,8,9,31,32] [1,17,129,273] (Md a_1 b_2 aZ q9 r6 r8 rfl 0 _ hy23 (fun r' e st hq=>by rw[hy231 r' e] at hq;exact hq) fun u23 hu=>?_)
  replace h:=hy232 u23 hu
  refine cq 5 [6,7] [B false,B true] 33 ?_
  obtain rfl:=sI h
  exact rP [B false,B true]
theorem R5 {G:cM}:cH G 103 EP:=gT 3 0 (aR Ij (aR Iw (aR RP (aR RX bU)))) cW Tryz.func103 (fun a r h=>Ui a.1 a.2.1 a.2.2 r h)
def GF:(Contract×Clause×Int)→List V:=cA aI (cA ao (oA I))
def GH (r:Bool×Bool):V×List V:=(.tup [B r.1,B r.2],[])
noncomputable def ED :=bx [false,false,false] GF GH fun x=>Ik x.1 x.2.1 x.2.2
theorem W3 {c_1:Contract}{x_2:Clause}{br:Int}{r}(h:Ik c_1 x_2 br=some r):ED.F (GF (c_1,x_2,br))=some (GH r):=aP (bp bB (bp cC (aQ cf))) h
noncomputable def Td :=aJ Tryz.f48
noncomputable abbrev Il :=cL (cL (cR (cL (cR (cR Td)))))
noncomputable def GG :=cV [(102,EN),(103,EP)]
def Tc (x:Contract×Clause×Int)(r:Bool×Bool):St→Prop:=QF GG Tryz.f48 [false,false,false] (GF x) (GH r)
theorem L1 (c_1:Contract)(x_2:Clause)(br:Int)(r4:(List Int)):cJ GG 0 (Tc (c_1,x_2,br)) Il 0 (mW c_1 x_2 br r4) (fun u=>(sT 42 [(8,B u)] [] 1)) fun x5=>(sT 42 [(3,.hp 1 0 [] 2 0 0),(4,.hp 2 0 [] 12 0 0),(8,B x5.1),(16,.hs 3 0 [] 1 0 (r4.map I).length),(17,I (len r4)),(18,I x5.2)] [⟨0,2,[ai c_1]⟩,⟨0,12,[ak x_2]⟩,⟨0,1,r4.map I⟩] 4):=eF (Db c_1 x_2 br r4) fun {Q K} hK self ih x5 y h hr hn=>by
 unfold lY at h
 refine cq 5 [19] [B (decide (x5.2<(len r4)))] 20 ?_
 refine sq h ?_ ?_<;>intro h
 ·refine aq 1 ?_
  refine aq 4 ?_
  obtain⟨e6,he6,h⟩:=bS h
  refine oq 36 (.hp 3 0 [] 1 (0+Int.toNat x5.2) 0) rfl (an rfl rfl rfl (dG (f:=I) (xs:=r4) rfl rfl rfl he6)) ?_
  refine oq 52 (I e6) rfl (cQ rfl (iH (path:=[]) rfl rfl rfl aG (cX (f:=I) (xs:=r4) he6) rfl rfl rfl)) ?_
  refine cq 3 [10] [I e6] 68 ?_
  refine fp [0,1,0,4,0,28,60,124,255,511,1023,1023,2047,8191] rfl (by decide +kernel) ?_
  refine dq [2] [] (.hp 2 0 [] 12 0 6) rfl (dQ rfl rfl rfl) ?_
  refine dq [2] [] (aa x_2.When) rfl (cQ rfl rfl) ?_
  refine dq [1] [] (.hp 1 0 [] 2 0 1) rfl (dQ rfl rfl rfl) ?_
  refine dq [1] [] (.isl false (c_1.Clauses.map ao)) rfl (cQ rfl rfl) ?_
  refine dk 1 [27] [I e6] ?_
  obtain⟨e7,he7,h⟩:=bS h
  refine dq [] [] (.iptr (ak e7) 0) rfl (an rfl rfl rfl (bC rfl rfl rfl rfl he7)) ?_
  refine dq [] [] (.iptr (ak e7) 6) rfl (dQ rfl rfl rfl) ?_
  refine dq [] [] (aa e7.When) rfl (cQ rfl rfl) ?_
  obtain⟨r8,hr8,h⟩:=bS h
  refine dq [] [] (.tup [B r8.1,B r8.2]) rfl (cP (Tp hr8)) ?_ (dW rfl rfl rfl rfl (bi (bI rfl) (bi (bI rfl) (bi (bI rfl) cu))) (Tp hr8) (.inr rfl) rfl)
  refine dk 5 [12,11,33,32,22] [B r8.2,B r8.1,B r8.2,B r8.1,.tup [B r8.1,B r8.2]] ?_
  refine de 292 rfl rfl ?_
  refine cq 6 [35] [B (!r8.2)] 324 ?_
  refine sq h ?_ ?_<;>intro h
  ·refine cq 5 [6,7] [B false,B false] 356 ?_
   exact bX rfl (hr _ (ap h) _ (qp [B false,B false]))
  ·refine aq 1 ?_
   refine cq 3 [37] [B x5.1] 356 ?_
   obtain⟨u9,hu9,h⟩:=lJ h
   have j9:Run GG 0 Q (.blk 1::.code (cR (cR (cR Il)))::.lp Il::.blk 0::K) (sT 42 [(3,.hp 1 0 [] 2 0 0),(4,.hp 2 0 [] 12 0 0),(8,B u9),(16,.hs 3 0 [] 1 0 (r4.map I).length),(17,I (len r4)),(18,I x5.2)] [⟨0,2,[ai c_1]⟩,⟨0,12,[ak x_2]⟩,⟨0,1,r4.map I⟩] 4):=by
    refine cq 5 [18] [I (aj (x5.2+1))] 36 ?_
    refine dF ?_
    exact rf [3,4,8,16,17,18] [1,2,3] (ih _ _ h hr hn :)
   replace h:=hu9
   clear hu9
   refine sp 37 h rfl ?_ ?_<;>intro h
   ·refine cq 4 [8] [B true] 404 ?_
    subst h
    exact rf [3,4,8,16,17,18] [1,2,3] (j9 :)
   ·refine cq 4 [8] [B r8.1] 404 ?_
    subst h
    exact rf [3,4,8,16,17,18] [1,2,3] (j9 :)
 ·refine aq 1 ?_
  exact rf [8] [] (hn _ (ap h) :) (hk:=hK)
theorem T3 (c_1:Contract)(x_2:Clause)(br:Int)(r:Bool×Bool)(h:Ik c_1 x_2 br=some r):bP GG Tryz.f48 [false,false,false] 0 (GF (c_1,x_2,br)) (GH r):=by
 show Run _ _ (Tc (c_1,x_2,br) r) [.code Td] _
 refine rI 42 [(0,ai c_1),(1,ak x_2),(2,I br)] [] 1 ?_
 unfold Ik at h
 refine ck 17 [3,4,8,13,14,15] [] [1,17] [] [.hp 1 0 [] 2 0 0,.hp 17 0 [] 12 0 0,B false,ai c_1,ak x_2,I br] [some ⟨0,2,[ai c_1]⟩,some ⟨0,12,[ak x_2]⟩] 129 (by kernel_rfl) ?_
 obtain⟨r4,hr4,h⟩:=bS h
 refine oq 145 (.hs 129 0 [] 1 0 (r4.map I).length) rfl (cP (Xg hr4)) ?_
 refine oq 161 (I (len r4)) rfl (bG rfl rfl rfl (gL (f:=I) (xs:=r4) rfl rfl)) ?_
 refine cq 3 [18] [I (0)] 177 ?_
 obtain⟨y10,hy10,hy101,hy102⟩:=bJ h
 refine b7 rfl ?_
 refine rf [3,4,8,16,17,18] [1,17,129] (L1 c_1 x_2 br r4 rfl (false,0) _ hy10 (fun r' e st hq=>by rw[hy101 r' e] at hq;exact hq) fun u10 hu=>?_)
 replace h:=hy102 u10 hu
 refine cq 6 [6,7] [B u10,B true] 49 ?_
 obtain rfl:=sI h
 exact rP [B u10,B true]
theorem RQ {G:cM}:cH G 48 ED:=gT 3 0 (aR R3 (aR R5 bU)) cW Tryz.func48 (fun a r h=>T3 a.1 a.2.1 a.2.2 r h)
def Gq:Contract→List V:=oA aI
def Gs (r:(List Int)×Bool):V×List V:=(.tup [.usl 1 (r.1.map I),B r.2],[])
noncomputable def Ep :=bx [false] Gq Gs fun x=>Fk x
theorem S9 {c_1:Contract}{r}(h:Fk c_1=some r):Ep.F (Gq c_1)=some (Gs r):=aP (aQ bB) h
noncomputable def Ta :=aJ Tryz.f15
noncomputable abbrev Hs :=cL (cL (cR (cL (cR (cR (cR Ta))))))
noncomputable def Gr :=cV [(47,Er),(48,ED)]
def LF (x:Contract)(r:(List Int)×Bool):St→Prop:=QF Gr Tryz.f15 [false] (Gq x) (Gs r)
theorem LG (c_1:Contract):cJ Gr 0 (LF c_1) Hs 0 (rN c_1) (fun u=>(sT 40 [(4,.hs 1 0 [] 1 0 (u.map I).length)] [⟨0,1,u.map I⟩] 2)) fun x3=>(sT 40 [(1,.hp 1 0 [] 2 0 0),(4,.hs 2 0 [] 1 0 (x3.2.map I).length),(14,.isl false (c_1.Clauses.map ao)),(15,I (len c_1.Clauses)),(16,I x3.1)] [⟨0,2,[ai c_1]⟩,⟨0,1,x3.2.map I⟩] 3):=eF (AI c_1) fun {Q K} hK self ih x3 y h hr hn=>by
 unfold lW at h
 refine cq 5 [17] [B (decide (x3.1<(len c_1.Clauses)))] 19 ?_
 refine sq h ?_ ?_<;>intro h
 ·refine aq 1 ?_
  refine cq 5 [18] [I x3.1] 35 ?_
  obtain⟨e4,he4,h⟩:=bS h
  refine oq 51 (.iptr (ak e4) 0) rfl (an rfl rfl rfl (bC rfl rfl rfl rfl he4)) ?_
  refine ck 2 [6,20] [] [67] [] [.hp 67 0 [] 12 0 0,ak e4] [some ⟨0,12,[.agg [str ([]),I (0),I (0),str ([]),I (0),I (0),I (0),str ([]),I (0),.isl true [],I (0),str ([])]]⟩] 83 (by kernel_rfl) ?_
  refine fx 67 [.agg [str ([]),I (0),I (0),str ([]),I (0),I (0),I (0),str ([]),I (0),.usl 4 (([]).map ae),I (0),str ([])]] rfl rfl (az (gf (az (.refl _) (az (.refl _) (az (.refl _) (az (.refl _) (az (.refl _) (az (.refl _) (az (.refl _) (az (.refl _) (az (.refl _) (az (.nil _) (az (.refl _) (az (.refl _) eh))))))))))))) eh) ?_
  refine ck 10 [5,23] [] [67] [] [I x3.1,B (e4.Kind != 3)] [some ⟨2,12,[ak e4]⟩] 163 (by kernel_rfl) ?_
  refine sq h ?_ ?_<;>intro h
  ·refine cq 5 [16] [I (aj (x3.1+1))] 195 ?_
   refine dF ?_
   exact rf [1,4,14,15,16] [1,2] (ih _ _ h hr hn :)
  ·refine aq 1 ?_
   refine cq 4 [25,26] [ai c_1,ak e4] 195 ?_
   obtain⟨r5,hr5,h⟩:=bS h
   refine oq 211 (.tup [B r5.1,B r5.2]) rfl (cP (W3 hr5)) ?_
   refine cq 12 [7,31] [B r5.1,B (!r5.2)] 323 ?_
   refine sq h ?_ ?_<;>intro h
   ·refine cq 5 [2,3] [.isl true [],B false] 355 ?_
    refine E9 2 0 1 371 (.hs 355 0 [] 1 0 0) rfl rfl rfl rfl rfl ?_
    exact bX rfl (hr _ (ap h) _ ⟨_,fin (vs:=[.hs 355 0 [] 1 0 0,B false]) rfl (d8 (eZ rfl (dm (k:=0) (es:=[]) rfl rfl)) (d8 (bu rfl) dX)) rfl (d9 eC),ez⟩)
   ·refine aq 1 ?_
    refine cq 5 [33] [B (!r5.1)] 355 ?_
    obtain⟨y6,hy6,hy61,hy62⟩:=bL h
    have j6:∀u6,y6=.inr u6→Run Gr 0 Q (.blk 1::.code (cR (cR (cR Hs)))::.lp Hs::.blk 0::K) (sT 40 [(1,.hp 1 0 [] 2 0 0),(4,.hs 2 0 [] 1 0 (u6.map I).length),(14,.isl false (c_1.Clauses.map ao)),(15,I (len c_1.Clauses)),(16,I x3.1)] [⟨0,2,[ai c_1]⟩,⟨0,1,u6.map I⟩] 3):=by
     intro u6 hu
     replace h:=hy62 u6 hu
     refine cq 5 [16] [I (aj (x3.1+1))] 35 ?_
     refine dF ?_
     exact rf [1,4,14,15,16] [1,2] (ih _ _ h hr hn :)
    have r6:∀r',y6=.inl r'→∀st,LF c_1 r' st→Q st:=fun r' e st hq=>hr r' (hy61 r' e) st hq
    replace h:=hy6
    refine sq h ?_ ?_<;>intro h
    ·refine cq 3 [34,35] [.hs 2 0 [] 1 0 (x3.2.map I).length,I x3.1] 387 ?_
     refine oq 403 (.hs 387 0 [] 1 0 1) rfl (bV rfl (fb (f:=I) (xs:=[]) (z:=I (0)) (es:=[I x3.1]) (ws:=[I x3.1]) rfl rfl rfl (by decide) rfl (bw rfl) rfl)) ?_
     obtain⟨a7,ha7,h⟩:=bS h
     refine oq 419 (.hs 403 0 [] 1 0 (a7.map I).length) rfl (fQ rfl rfl rfl rfl rfl (iA (path:=[]) (f:=I) (xs:=x3.2) (ys:=[x3.1]) rfl rfl (jZ rfl rfl rfl) rfl rfl rfl aG rfl (by decide) nY ha7 rfl lF)) ?_
     refine cq 2 [4] [.hs 403 0 [] 1 0 (a7.map I).length] 435 ?_
     exact rf [1,4,14,15,16] [1,403] (j6 _ (ap h) :)
    ·refine aq 1 ?_
     exact rf [1,4,14,15,16] [1,2] (j6 _ (ap h) :)
 ·refine aq 1 ?_
  exact rf [4] [2] (hn _ (ap h) :) (hk:=hK)
theorem TM (c_1:Contract)(r:(List Int)×Bool)(h:Fk c_1=some r):bP Gr Tryz.f15 [false] 0 (Gq c_1) (Gs r):=by
 show Run _ _ (LF c_1 r) [.code Ta] _
 refine rI 40 [(0,ai c_1)] [] 1 ?_
 unfold Fk at h
 refine ck 10 [1,9] [] [1] [] [.hp 1 0 [] 2 0 0,ai c_1] [some ⟨0,2,[ai c_1]⟩] 65 (by kernel_rfl) ?_
 obtain⟨r2,hr2,h⟩:=bS h
 refine oq 81 (B r2) rfl (cP (W2 hr2)) ?_
 refine cq 2 [11] [B (!r2)] 97 ?_
 refine sq h ?_ ?_<;>intro h
 ·refine cq 5 [2,3] [.isl true [],B false] 129 ?_
  refine E9 2 0 1 145 (.hs 129 0 [] 1 0 0) rfl rfl rfl rfl rfl ?_
  obtain rfl:=sI h
  exact bX rfl ⟨_,fin (vs:=[.hs 129 0 [] 1 0 0,B false]) rfl (d8 (eZ rfl (dm (k:=0) (es:=[]) rfl rfl)) (d8 (bu rfl) dX)) rfl (d9 eC),ez⟩
 ·refine aq 1 ?_
  refine aq 2 ?_
  refine oq 113 (.hs 97 0 [] 1 0 0) rfl (bV rfl (fb (f:=I) (xs:=[]) (z:=I (0)) (es:=[]) (ws:=[]) rfl rfl rfl (by decide) rfl (bw rfl) rfl)) ?_
  refine cq 7 [4,14] [.hs 97 0 [] 1 0 0,.isl false (c_1.Clauses.map ao)] 161 ?_
  refine oq 177 (I (len c_1.Clauses)) rfl (bG rfl rfl rfl (cF rfl)) ?_
  refine cq 3 [16] [I (0)] 193 ?_
  obtain⟨y8,hy8,hy81,hy82⟩:=bJ h
  refine b7 rfl ?_
  refine rf [1,4,14,15,16] [1,97] (LG c_1 rfl (0,[]) _ hy8 (fun r' e st hq=>by rw[hy81 r' e] at hq;exact hq) fun u8 hu=>?_)
  replace h:=hy82 u8 hu
  refine cq 6 [2,3] [.hs 1 0 [] 1 0 (u8.map I).length,B true] 50 ?_
  obtain rfl:=sI h
  exact bX rfl ⟨_,fin (vs:=[.hs 1 0 [] 1 0 (u8.map I).length,B true]) rfl (d8 (eZ rfl (dm rfl rfl)) (d8 (bu rfl) dX)) rfl (d9 eC),ez⟩
theorem QH {G:cM}:cH G 15 Ep:=gT 1 0 (aR Ra (aR RQ bU)) cW Tryz.func15 (fun a r h=>TM a r h)
def AN:((List Int)×(List Int))→List V:=cA (lc I) (oA (lc I))
end Go.Ln
