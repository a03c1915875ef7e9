/-
  The walks.
-/
import Derived.Test.YtobhcnmeflacnaaGreatDoorFnExactNextMomentFun
import Derived.Test.YtobhcnmeflacnaaGreatDoorChecked
set_option maxHeartbeats 4000000
set_option linter.unusedVariables false
set_option linter.unusedSimpArgs false
set_option maxRecDepth 100000
namespace Go.Ln
open Go Go.Proofs
section
noncomputable abbrev cd:=Checked.mixed Tryz.checked
noncomputable def BR:((List ac)×Int)→List V:=cA (fj str) (oA I)
noncomputable def BS (r:Int):V×List V:=(I r,[])
noncomputable def tw:Ent:=bm [false,false] BR BS fun x=>vi x.1 x.2
theorem Pa {a_1:List ac}{al:Int}{r}(h:vi a_1 al=some r):tw.F (BR (a_1,al))=some (BS r):=aG (br (bR bH) (aH bZ)) h
noncomputable def Pc:Code:=aD Tryz.f57
noncomputable def Iy:Env:=bT Tryz.prog []
noncomputable def Pb (x:(List ac)×Int)(r:Int):St→Prop:=QF Iy Tryz.f57 [false,false] (BR x) (BS r)
theorem KM (a_1:List ac)(al:Int):ci Iy 0 (Pb (a_1,al)) (cL (cL (cR (cL (cR (cR (cR Pc))))))) 0 (rS a_1 al) (fun u=>(sT 28 [(1,I u)] [] 1)) fun x3=>(sT 28 [(0,.isl false (a_1.map str)),(1,I x3.1),(5,I x3.2)] [] 1):=dY (xy a_1 al) fun {Q K} hK self ih x3 y h hr hn=>by
 unfold l8 at h
 refine cq 5 [12,13] [I x3.2,.isl false (a_1.map str)] 33 ?_
 refine oq 49 (I (len a_1)) rfl (bd rfl rfl rfl (bw rfl)) ?_
 refine cq 2 [15] [B (decide (x3.2<(len a_1)))] 65 ?_
 refine sq h ?_ ?_<;>intro h
 ·refine aq 1 ?_
  refine cq 7 [18,19,20] [I x3.1,.isl false (a_1.map str),I x3.2] 113 ?_
  obtain⟨e4,he4,h⟩:=bS h
  refine oq 129 (.iptr (str e4) 0) rfl (ap rfl rfl rfl (aY rfl rfl rfl rfl he4)) ?_
  refine cq 10 [1,26] [I (au (x3.1 - (len e4))),B (decide ((au (x3.1 - (len e4)))<0))] 225 ?_
  refine sq h ?_ ?_<;>intro h
  ·refine cq 4 [4] [I (-1)] 241 ?_
   exact bW rfl (hr _ (aj h) _ (qp [I (-1)]))
  ·refine aq 1 ?_
   refine cq 6 [5] [I (au (x3.2+1))] 273 ?_
   refine cW ?_
   exact rf [0,1,5] [] (ih _ _ h hr hn :)
 ·refine aq 1 ?_
  exact rf [1] [] (hn _ (aj h) :) (hk:=hK)
theorem SN (a_1:List ac)(al:Int)(r:Int)(h:vi a_1 al=some r):bz Iy Tryz.f57 [false,false] 0 (BR (a_1,al)) (BS r):=by
 show Run _ _ (Pb (a_1,al) r) [.code Pc] _
 refine rI 28 [(0,.isl false (a_1.map str)),(1,I al)] [] 1 ?_
 unfold vi at h
 refine cq 8 [6,7] [I al,.isl false (a_1.map str)] 49 ?_
 refine oq 65 (I (len a_1)) rfl (bd rfl rfl rfl (bw rfl)) ?_
 refine cq 9 [1,11] [I (au (al - (len a_1))),B (decide ((au (al - (len a_1)))<0))] 129 ?_
 refine sq h ?_ ?_<;>intro h
 ·refine cq 4 [4] [I (-1)] 145 ?_
  obtain rfl:=Option.some.inj h
  exact rP [I (-1)]
 ·refine aq 1 ?_
  refine cq 6 [5] [I (0)] 145 ?_
  obtain⟨y5,hy5,hy51,hy52⟩:=bJ h
  refine bM rfl ?_
  refine rf [0,1,5] [] (KM a_1 al rfl ((au (al - (len a_1))),0) _ hy5 (fun r' e st hq=>by rw[hy51 r' e] at hq;exact hq) fun u5 hu=>?_)
  replace h:=hy52 u5 hu
  refine cq 5 [4] [I u5] 33 ?_
  obtain rfl:=Option.some.inj h
  exact rP [I u5]
theorem Gg {G:Go.Ln.Ground}:aP Tryz.prog G 57 tw:=gT 2 0 bC cd Tryz.func57 (fun a r h=>SN a.1 a.2 r h)
noncomputable def vf:(Condition×Int)→List V:=cA bg (oA I)
noncomputable def vg (r:Int):V×List V:=(I r,[])
noncomputable def qF (bh:(Condition×Int)→Option Int):Ent:=bm [false,false] vf vg bh
theorem LN (bh:(Condition×Int)→Option Int){x}{r}(h:bh x=some r):(qF bh).F (vf x)=some (vg r):=aG (br cz (aH bZ)) h
noncomputable def BG:((List Condition)×Int)→List V:=cA (fj aB) (oA I)
noncomputable def BH (r:Int):V×List V:=(I r,[])
noncomputable def zk (bh:(Condition×Int)→Option Int):Ent:=bm [false,false] BG BH fun x=>vh bh x.1 x.2
theorem Xw (bh:(Condition×Int)→Option Int){a_1:List Condition}{al:Int}{r}(h:vh bh a_1 al=some r):(zk bh).F (BG (a_1,al))=some (BH r):=aG (br (bR eE) (aH bZ)) h
noncomputable def O0:Code:=aD Tryz.f215
noncomputable def Ix (bh:(Condition×Int)→Option Int):Env:=bT Tryz.prog [(178,(qF bh))]
noncomputable def OZ (bh:(Condition×Int)→Option Int)(x:(List Condition)×Int)(r:Int):St→Prop:=QF (Ix bh) Tryz.f215 [false,false] (BG x) (BH r)
theorem KL (bh:(Condition×Int)→Option Int)(a_1:List Condition)(al:Int):ci (Ix bh) 0 (OZ bh (a_1,al)) (cL (cL (cR (cL (cR (cR (cR O0))))))) 0 (pK bh a_1 al) (fun u=>(sT 27 [(1,I u)] [] 1)) fun x3=>(sT 27 [(0,.isl false (a_1.map aB)),(1,I x3.1),(5,I x3.2)] [] 1):=dY (xw bh a_1 al) fun {Q K} hK self ih x3 y h hr hn=>by
 unfold jY at h
 refine cq 5 [12,13] [I x3.2,.isl false (a_1.map aB)] 33 ?_
 refine oq 49 (I (len a_1)) rfl (bd rfl rfl rfl (bw rfl)) ?_
 refine cq 2 [15] [B (decide (x3.2<(len a_1)))] 65 ?_
 refine sq h ?_ ?_<;>intro h
 ·refine aq 1 ?_
  refine cq 6 [18,19] [.isl false (a_1.map aB),I x3.2] 97 ?_
  obtain⟨e4,he4,h⟩:=bS h
  refine oq 113 (.iptr (bg e4) 0) rfl (ap rfl rfl rfl (aY rfl rfl (cr e4) rfl he4)) ?_
  refine cq 2 [21,22] [bg e4,I x3.1] 145 ?_
  obtain⟨r5,hr5,h⟩:=bS h
  refine oq 161 (I r5) rfl (cG rfl rfl (cY rfl rfl rfl (cy (dw rfl) (cy (dw rfl) dP)) (LN bh hr5) (.inr rfl) eh rfl rfl rfl)) ?_
  refine cq 7 [1,25] [I r5,B (decide (r5<0))] 209 ?_
  refine sq h ?_ ?_<;>intro h
  ·refine cq 4 [4] [I (-1)] 225 ?_
   exact bW rfl (hr _ (aj h) _ (qp [I (-1)]))
  ·refine aq 1 ?_
   refine cq 6 [5] [I (au (x3.2+1))] 257 ?_
   refine cW ?_
   exact rf [0,1,5] [] (ih _ _ h hr hn :)
 ·refine aq 1 ?_
  exact rf [1] [] (hn _ (aj h) :) (hk:=hK)
theorem SI (bh:(Condition×Int)→Option Int)(a_1:List Condition)(al:Int)(r:Int)(h:vh bh a_1 al=some r):bz (Ix bh) Tryz.f215 [false,false] 0 (BG (a_1,al)) (BH r):=by
 show Run _ _ (OZ bh (a_1,al) r) [.code O0] _
 refine rI 27 [(0,.isl false (a_1.map aB)),(1,I al)] [] 1 ?_
 unfold vh at h
 refine cq 8 [6,7] [I al,.isl false (a_1.map aB)] 49 ?_
 refine oq 65 (I (len a_1)) rfl (bd rfl rfl rfl (bw rfl)) ?_
 refine cq 9 [1,11] [I (au (al - (len a_1))),B (decide ((au (al - (len a_1)))<0))] 129 ?_
 refine sq h ?_ ?_<;>intro h
 ·refine cq 4 [4] [I (-1)] 145 ?_
  obtain rfl:=Option.some.inj h
  exact rP [I (-1)]
 ·refine aq 1 ?_
  refine cq 6 [5] [I (0)] 145 ?_
  obtain⟨y6,hy6,hy61,hy62⟩:=bJ h
  refine bM rfl ?_
  refine rf [0,1,5] [] (KL bh a_1 al rfl ((au (al - (len a_1))),0) _ hy6 (fun r' e st hq=>by rw[hy61 r' e] at hq;exact hq) fun u6 hu=>?_)
  replace h:=hy62 u6 hu
  refine cq 5 [4] [I u6] 33 ?_
  obtain rfl:=Option.some.inj h
  exact rP [I u6]
theorem O1 {G:Go.Ln.Ground}(bh:(Condition×Int)→Option Int)(JT:aP Tryz.prog G 178 (qF bh)):aP Tryz.prog G 215 (zk bh):=gT 2 0 (aL JT bC) cd Tryz.func215 (fun a r h=>SI bh a.1 a.2 r h)
noncomputable def zj:Ent:=qF (aF oK)
theorem Xt {a_1:Condition}{al:Int}{r}(h:ve a_1 al=some r):zj.F (vf (a_1,al))=some (vg r):=LN (aF oK) h
noncomputable def Xv:Code:=aD Tryz.f178
noncomputable def OX (bh:(Condition×Int)→Option Int):Env:=bT Tryz.prog [(215,(zk bh))]
noncomputable def Xu (bh:(Condition×Int)→Option Int)(x:Condition×Int)(r:Int):St→Prop:=QF (OX bh) Tryz.f178 [false,false] (vf x) (vg r)
theorem SH (bh:(Condition×Int)→Option Int)(a_1:Condition)(al:Int)(r:Int)(h:rR bh a_1 al=some r):bz (OX bh) Tryz.f178 [false,false] 0 (vf (a_1,al)) (vg r):=by
 show Run _ _ (Xu bh (a_1,al) r) [.code Xv] _
 refine rI 19 [(0,bg a_1),(1,I al)] [] 1 ?_
 unfold rR at h
 refine ck 20 [1,2,11] [] [1] [] [I (au (al - (len a_1.Name))),.hp 1 0 [] 4 0 0,B (decide ((au (al - (len a_1.Name)))<0))] [some ⟨0,4,[bg a_1]⟩] 161 (by kernel_rfl) ?_
 refine sq h ?_ ?_<;>intro h
 ·refine cq 4 [4] [I (-1)] 177 ?_
  obtain rfl:=Option.some.inj h
  exact rP [I (-1)]
 ·refine aq 1 ?_
  refine cq 5 [13,14] [.isl false (a_1.Parts.map aB),I (au (al - (len a_1.Name)))] 209 ?_
  obtain⟨r3,hr3,h⟩:=bS h
  refine oq 225 (I r3) rfl (cG rfl rfl (cY rfl rfl rfl (cy (dw rfl) (cy (dw rfl) dP)) (Xw bh hr3) (.inr rfl) eh rfl rfl rfl)) ?_
  refine cq 8 [1,17] [I r3,B (decide (r3<0))] 273 ?_
  refine sq h ?_ ?_<;>intro h
  ·refine cq 4 [4] [I (-1)] 289 ?_
   obtain rfl:=Option.some.inj h
   exact rP [I (-1)]
  ·refine aq 1 ?_
   refine cq 5 [4] [I r3] 305 ?_
   obtain rfl:=Option.some.inj h
   exact rP [I r3]
theorem OY {G:Go.Ln.Ground}:aP Tryz.prog G 178 zj:=iq fun bh JT=>gT 2 0 (aL (O1 bh JT) bC) cd Tryz.func178 (fun a r h=>SH bh a.1 a.2 r h)
noncomputable def BC:(Clause×Int)→List V:=cA an (oA I)
noncomputable def BD (r:Int):V×List V:=(I r,[])
noncomputable def zg:Ent:=bm [false,false] BC BD fun x=>tv x.1 x.2
theorem Xp {a_1:Clause}{al:Int}{r}(h:tv a_1 al=some r):zg.F (BC (a_1,al))=some (BD r):=aG (br dh (aH bZ)) h
noncomputable def Xr:Code:=aD Tryz.f113
noncomputable def OS:Env:=bT Tryz.prog [(178,zj)]
noncomputable def Xq (x:Clause×Int)(r:Int):St→Prop:=QF OS Tryz.f113 [false,false] (BC x) (BD r)
theorem SE (a_1:Clause)(al:Int)(r:Int)(h:tv a_1 al=some r):bz OS Tryz.f113 [false,false] 0 (BC (a_1,al)) (BD r):=by
 show Run _ _ (Xq (a_1,al) r) [.code Xr] _
 refine rI 33 [(0,an a_1),(1,I al)] [] 1 ?_
 unfold tv at h
 refine ck 20 [1,2,11] [] [1] [] [I (au (al - (len a_1.Id))),.hp 1 0 [] 12 0 0,B (decide ((au (al - (len a_1.Id)))<0))] [some ⟨0,12,[an a_1]⟩] 161 (by kernel_rfl) ?_
 refine sq h ?_ ?_<;>intro h
 ·refine cq 4 [4] [I (-1)] 177 ?_
  obtain rfl:=Option.some.inj h
  exact rP [I (-1)]
 ·refine aq 1 ?_
  refine cq 15 [1,18] [I (au ((au (al - (len a_1.Id))) - (len a_1.Action))),B (decide ((au ((au (al - (len a_1.Id))) - (len a_1.Action)))<0))] 289 ?_
  refine sq h ?_ ?_<;>intro h
  ·refine cq 4 [4] [I (-1)] 305 ?_
   obtain rfl:=Option.some.inj h
   exact rP [I (-1)]
  ·refine aq 1 ?_
   refine cq 5 [20,21] [bg a_1.When,I (au ((au (al - (len a_1.Id))) - (len a_1.Action)))] 337 ?_
   obtain⟨r3,hr3,h⟩:=bS h
   refine oq 353 (I r3) rfl (cP (Xt hr3)) ?_
   refine cq 8 [1,24] [I r3,B (decide (r3<0))] 401 ?_
   refine sq h ?_ ?_<;>intro h
   ·refine cq 4 [4] [I (-1)] 417 ?_
    obtain rfl:=Option.some.inj h
    exact rP [I (-1)]
   ·refine aq 1 ?_
    refine cq 15 [1,31] [I (au (r3 - (len a_1.Repair))),B (decide ((au (r3 - (len a_1.Repair)))<0))] 529 ?_
    refine sq h ?_ ?_<;>intro h
    ·refine cq 4 [4] [I (-1)] 545 ?_
     obtain rfl:=Option.some.inj h
     exact rP [I (-1)]
    ·refine aq 1 ?_
     refine cq 5 [4] [I (au (r3 - (len a_1.Repair)))] 561 ?_
     obtain rfl:=Option.some.inj h
     exact rP [I (au (r3 - (len a_1.Repair)))]
theorem OT {G:Go.Ln.Ground}:aP Tryz.prog G 113 zg:=gT 2 0 (aL OY bC) cd Tryz.func113 (fun a r h=>SE a.1 a.2 r h)
noncomputable def BE:((List Clause)×Int)→List V:=cA (fj an) (oA I)
noncomputable def BF (r:Int):V×List V:=(I r,[])
noncomputable def zi:Ent:=bm [false,false] BE BF fun x=>zh x.1 x.2
theorem Xs {a_1:List Clause}{al:Int}{r}(h:zh a_1 al=some r):zi.F (BE (a_1,al))=some (BF r):=aG (br (bR dh) (aH bZ)) h
noncomputable def OV:Code:=aD Tryz.f58
noncomputable def Iw:Env:=bT Tryz.prog [(113,zg)]
noncomputable def OU (x:(List Clause)×Int)(r:Int):St→Prop:=QF Iw Tryz.f58 [false,false] (BE x) (BF r)
theorem KK (a_1:List Clause)(al:Int):ci Iw 0 (OU (a_1,al)) (cL (cL (cR (cL (cR (cR (cR OV))))))) 0 (rQ a_1 al) (fun u=>(sT 27 [(1,I u)] [] 1)) fun x3=>(sT 27 [(0,.isl false (a_1.map an)),(1,I x3.1),(5,I x3.2)] [] 1):=dY (xu a_1 al) fun {Q K} hK self ih x3 y h hr hn=>by
 unfold l7 at h
 refine cq 5 [12,13] [I x3.2,.isl false (a_1.map an)] 33 ?_
 refine oq 49 (I (len a_1)) rfl (bd rfl rfl rfl (bw rfl)) ?_
 refine cq 2 [15] [B (decide (x3.2<(len a_1)))] 65 ?_
 refine sq h ?_ ?_<;>intro h
 ·refine aq 1 ?_
  refine cq 6 [18,19] [.isl false (a_1.map an),I x3.2] 97 ?_
  obtain⟨e4,he4,h⟩:=bS h
  refine oq 113 (.iptr (an e4) 0) rfl (ap rfl rfl rfl (aY rfl rfl rfl rfl he4)) ?_
  refine cq 2 [21,22] [an e4,I x3.1] 145 ?_
  obtain⟨r5,hr5,h⟩:=bS h
  refine oq 161 (I r5) rfl (cP (Xp hr5)) ?_
  refine cq 7 [1,25] [I r5,B (decide (r5<0))] 209 ?_
  refine sq h ?_ ?_<;>intro h
  ·refine cq 4 [4] [I (-1)] 225 ?_
   exact bW rfl (hr _ (aj h) _ (qp [I (-1)]))
  ·refine aq 1 ?_
   refine cq 6 [5] [I (au (x3.2+1))] 257 ?_
   refine cW ?_
   exact rf [0,1,5] [] (ih _ _ h hr hn :)
 ·refine aq 1 ?_
  exact rf [1] [] (hn _ (aj h) :) (hk:=hK)
theorem SF (a_1:List Clause)(al:Int)(r:Int)(h:zh a_1 al=some r):bz Iw Tryz.f58 [false,false] 0 (BE (a_1,al)) (BF r):=by
 show Run _ _ (OU (a_1,al) r) [.code OV] _
 refine rI 27 [(0,.isl false (a_1.map an)),(1,I al)] [] 1 ?_
 unfold zh at h
 refine cq 8 [6,7] [I al,.isl false (a_1.map an)] 49 ?_
 refine oq 65 (I (len a_1)) rfl (bd rfl rfl rfl (bw rfl)) ?_
 refine cq 9 [1,11] [I (au (al - (len a_1))),B (decide ((au (al - (len a_1)))<0))] 129 ?_
 refine sq h ?_ ?_<;>intro h
 ·refine cq 4 [4] [I (-1)] 145 ?_
  obtain rfl:=Option.some.inj h
  exact rP [I (-1)]
 ·refine aq 1 ?_
  refine cq 6 [5] [I (0)] 145 ?_
  obtain⟨y6,hy6,hy61,hy62⟩:=bJ h
  refine bM rfl ?_
  refine rf [0,1,5] [] (KK a_1 al rfl ((au (al - (len a_1))),0) _ hy6 (fun r' e st hq=>by rw[hy61 r' e] at hq;exact hq) fun u6 hu=>?_)
  replace h:=hy62 u6 hu
  refine cq 5 [4] [I u6] 33 ?_
  obtain rfl:=Option.some.inj h
  exact rP [I u6]
theorem OW {G:Go.Ln.Ground}:aP Tryz.prog G 58 zi:=gT 2 0 (aL OT bC) cd Tryz.func58 (fun a r h=>SF a.1 a.2 r h)
noncomputable def BI:(Contract×Int)→List V:=cA aM (oA I)
noncomputable def BK (r:Int):V×List V:=(I r,[])
noncomputable def zm:Ent:=bm [false,false] BI BK fun x=>zl x.1 x.2
theorem Xx {a_1:Contract}{al:Int}{r}(h:zl a_1 al=some r):zm.F (BI (a_1,al))=some (BK r):=aG (br ba (aH bZ)) h
noncomputable def Xz:Code:=aD Tryz.f15
noncomputable def O2:Env:=bT Tryz.prog [(57,tw),(58,zi)]
noncomputable def Xy (x:Contract×Int)(r:Int):St→Prop:=QF O2 Tryz.f15 [false,false] (BI x) (BK r)
theorem SJ (a_1:Contract)(al:Int)(r:Int)(h:zl a_1 al=some r):bz O2 Tryz.f15 [false,false] 0 (BI (a_1,al)) (BK r):=by
 show Run _ _ (Xy (a_1,al) r) [.code Xz] _
 refine rI 18 [(0,aM a_1),(1,I al)] [] 1 ?_
 unfold zl at h
 refine ck 10 [2,6,7] [] [1] [] [.hp 1 0 [] 2 0 0,.isl false (a_1.Parties.map str),I al] [some ⟨0,2,[aM a_1]⟩] 81 (by kernel_rfl) ?_
 obtain⟨r3,hr3,h⟩:=bS h
 refine oq 97 (I r3) rfl (cP (Pa hr3)) ?_
 refine cq 8 [1,10] [I r3,B (decide (r3<0))] 145 ?_
 refine sq h ?_ ?_<;>intro h
 ·refine cq 4 [4] [I (-1)] 161 ?_
  obtain rfl:=Option.some.inj h
  exact rP [I (-1)]
 ·refine aq 1 ?_
  refine cq 5 [12,13] [.isl false (a_1.Clauses.map an),I r3] 193 ?_
  obtain⟨r4,hr4,h⟩:=bS h
  refine oq 209 (I r4) rfl (cP (Xs hr4)) ?_
  refine cq 8 [1,16] [I r4,B (decide (r4<0))] 257 ?_
  refine sq h ?_ ?_<;>intro h
  ·refine cq 4 [4] [I (-1)] 273 ?_
   obtain rfl:=Option.some.inj h
   exact rP [I (-1)]
  ·refine aq 1 ?_
   refine cq 5 [4] [I r4] 289 ?_
   obtain rfl:=Option.some.inj h
   exact rP [I r4]
theorem O3 {G:Go.Ln.Ground}:aP Tryz.prog G 15 zm:=gT 2 0 (aL Gg (aL OW bC)) cd Tryz.func15 (fun a r h=>SJ a.1 a.2 r h)
noncomputable def BL:((List Duty)×Int)→List V:=cA (fj ae) (oA I)
noncomputable def BM (r:Int):V×List V:=(I r,[])
noncomputable def zo:Ent:=bm [false,false] BL BM fun x=>zn x.1 x.2
theorem XA {a_1:List Duty}{al:Int}{r}(h:zn a_1 al=some r):zo.F (BL (a_1,al))=some (BM r):=aG (br (bR dW) (aH bZ)) h
noncomputable def XC:Code:=aD Tryz.f59
noncomputable def O4:Env:=bT Tryz.prog []
noncomputable def XB (x:(List Duty)×Int)(r:Int):St→Prop:=QF O4 Tryz.f59 [false,false] (BL x) (BM r)
theorem SK (a_1:List Duty)(al:Int)(r:Int)(h:zn a_1 al=some r):bz O4 Tryz.f59 [false,false] 0 (BL (a_1,al)) (BM r):=by
 show Run _ _ (XB (a_1,al) r) [.code XC] _
 refine rI 12 [(0,.isl false (a_1.map ae)),(1,I al)] [] 1 ?_
 unfold zn at h
 refine cq 8 [5,6] [I al,.isl false (a_1.map ae)] 49 ?_
 refine oq 65 (I (len a_1)) rfl (bd rfl rfl rfl (bw rfl)) ?_
 refine cq 9 [1,10] [I (au (al - (len a_1))),B (decide ((au (al - (len a_1)))<0))] 129 ?_
 refine sq h ?_ ?_<;>intro h
 ·refine cq 4 [4] [I (-1)] 145 ?_
  obtain rfl:=Option.some.inj h
  exact rP [I (-1)]
 ·refine aq 1 ?_
  refine cq 5 [4] [I (au (al - (len a_1)))] 161 ?_
  obtain rfl:=Option.some.inj h
  exact rP [I (au (al - (len a_1)))]
theorem O5 {G:Go.Ln.Ground}:aP Tryz.prog G 59 zo:=gT 2 0 bC cd Tryz.func59 (fun a r h=>SK a.1 a.2 r h)
noncomputable def BN:((List Int)×Int)→List V:=cA (fj I) (oA I)
noncomputable def BO (r:Int):V×List V:=(I r,[])
noncomputable def zq:Ent:=bm [false,false] BN BO fun x=>zp x.1 x.2
theorem XD {a_1:List Int}{al:Int}{r}(h:zp a_1 al=some r):zq.F (BN (a_1,al))=some (BO r):=aG (br (bR bZ) (aH bZ)) h
noncomputable def XF:Code:=aD Tryz.f60
noncomputable def O6:Env:=bT Tryz.prog []
noncomputable def XE (x:(List Int)×Int)(r:Int):St→Prop:=QF O6 Tryz.f60 [false,false] (BN x) (BO r)
theorem SL (a_1:List Int)(al:Int)(r:Int)(h:zp a_1 al=some r):bz O6 Tryz.f60 [false,false] 0 (BN (a_1,al)) (BO r):=by
 show Run _ _ (XE (a_1,al) r) [.code XF] _
 refine rI 12 [(0,.isl false (a_1.map I)),(1,I al)] [] 1 ?_
 unfold zp at h
 refine cq 8 [5,6] [I al,.isl false (a_1.map I)] 49 ?_
 refine oq 65 (I (len a_1)) rfl (bd rfl rfl rfl (bw rfl)) ?_
 refine cq 9 [1,10] [I (au (al - (len a_1))),B (decide ((au (al - (len a_1)))<0))] 129 ?_
 refine sq h ?_ ?_<;>intro h
 ·refine cq 4 [4] [I (-1)] 145 ?_
  obtain rfl:=Option.some.inj h
  exact rP [I (-1)]
 ·refine aq 1 ?_
  refine cq 5 [4] [I (au (al - (len a_1)))] 161 ?_
  obtain rfl:=Option.some.inj h
  exact rP [I (au (al - (len a_1)))]
theorem O7 {G:Go.Ln.Ground}:aP Tryz.prog G 60 zq:=gT 2 0 bC cd Tryz.func60 (fun a r h=>SL a.1 a.2 r h)
noncomputable def BP:(State×Int)→List V:=cA bV (oA I)
noncomputable def BQ (r:Int):V×List V:=(I r,[])
noncomputable def zt:Ent:=bm [false,false] BP BQ fun x=>zr x.1 x.2
theorem XG {a_1:State}{al:Int}{r}(h:zr a_1 al=some r):zt.F (BP (a_1,al))=some (BQ r):=aG (br dj (aH bZ)) h
noncomputable def XI:Code:=aD Tryz.f16
noncomputable def O8:Env:=bT Tryz.prog [(57,tw),(59,zo),(60,zq)]
noncomputable def XH (x:State×Int)(r:Int):St→Prop:=QF O8 Tryz.f16 [false,false] (BP x) (BQ r)
theorem SM (a_1:State)(al:Int)(r:Int)(h:zr a_1 al=some r):bz O8 Tryz.f16 [false,false] 0 (BP (a_1,al)) (BQ r):=by
 show Run _ _ (XH (a_1,al) r) [.code XI] _
 refine rI 24 [(0,bV a_1),(1,I al)] [] 1 ?_
 unfold zr at h
 refine ck 10 [2,6,7] [] [1] [] [.hp 1 0 [] 5 0 0,.isl false (a_1.Facts.map str),I al] [some ⟨0,5,[bV a_1]⟩] 81 (by kernel_rfl) ?_
 obtain⟨r3,hr3,h⟩:=bS h
 refine oq 97 (I r3) rfl (cP (Pa hr3)) ?_
 refine cq 8 [1,10] [I r3,B (decide (r3<0))] 145 ?_
 refine sq h ?_ ?_<;>intro h
 ·refine cq 4 [4] [I (-1)] 161 ?_
  obtain rfl:=Option.some.inj h
  exact rP [I (-1)]
 ·refine aq 1 ?_
  refine cq 5 [12,13] [.isl false (a_1.Duties.map ae),I r3] 193 ?_
  obtain⟨r4,hr4,h⟩:=bS h
  refine oq 209 (I r4) rfl (cP (XA hr4)) ?_
  refine cq 8 [1,16] [I r4,B (decide (r4<0))] 257 ?_
  refine sq h ?_ ?_<;>intro h
  ·refine cq 4 [4] [I (-1)] 273 ?_
   obtain rfl:=Option.some.inj h
   exact rP [I (-1)]
  ·refine aq 1 ?_
   refine cq 5 [18,19] [.isl false (a_1.Balances.map I),I r4] 305 ?_
   obtain⟨r5,hr5,h⟩:=bS h
   refine oq 321 (I r5) rfl (cP (XD hr5)) ?_
   refine cq 8 [1,22] [I r5,B (decide (r5<0))] 369 ?_
   refine sq h ?_ ?_<;>intro h
   ·refine cq 4 [4] [I (-1)] 385 ?_
    obtain rfl:=Option.some.inj h
    exact rP [I (-1)]
   ·refine aq 1 ?_
    refine cq 5 [4] [I r5] 401 ?_
    obtain rfl:=Option.some.inj h
    exact rP [I r5]
theorem O9 {G:Go.Ln.Ground}:aP Tryz.prog G 16 zt:=gT 2 0 (aL Gg (aL O5 (aL O7 bC))) cd Tryz.func16 (fun a r h=>SM a.1 a.2 r h)
noncomputable def Ce:(List ac)→List V:=oA (fj str)
noncomputable def Cf (r:(List ac)):V×List V:=(.usl 1 (r.map str),[])
noncomputable def tB:Ent:=bm [false] Ce Cf fun x=>vr x
theorem PB {a_1:List ac}{r}(h:vr a_1=some r):tB.F (Ce a_1)=some (Cf r):=aG (aH (bR bH)) h
noncomputable def PD:Code:=aD Tryz.f62
noncomputable def ID:Env:=bT Tryz.prog []
noncomputable def PC (x:(List ac))(r:(List ac)):St→Prop:=QF ID Tryz.f62 [false] (Ce x) (Cf r)
theorem KR (a_1:List ac):ci ID 0 (PC a_1) (cL (cL (cR (cL (cR (cR PD)))))) 0 (rY a_1) (fun u=>(sT 22 [(3,.hs 1 0 [] 1 0 (u.map str).length)] [⟨0,1,u.map str⟩] 2)) fun x3=>(sT 22 [(0,.isl false (a_1.map str)),(3,.hs 1 0 [] 1 0 (x3.2.map str).length),(4,I x3.1)] [⟨0,1,x3.2.map str⟩] 2):=dY (xD a_1) fun {Q K} hK self ih x3 y h hr hn=>by
 unfold mc at h
 refine cq 5 [8,9] [I x3.1,.isl false (a_1.map str)] 34 ?_
 refine oq 50 (I (len a_1)) rfl (bd rfl rfl rfl (bw rfl)) ?_
 refine cq 2 [11] [B (decide (x3.1<(len a_1)))] 66 ?_
 refine sq h ?_ ?_<;>intro h
 ·refine aq 1 ?_
  refine cq 7 [14,15,16,17] [.hs 1 0 [] 1 0 (x3.2.map str).length,I x3.1,.isl false (a_1.map str),I x3.1] 130 ?_
  obtain⟨e4,he4,h⟩:=bS h
  refine oq 146 (.iptr (str e4) 0) rfl (ap rfl rfl rfl (aY rfl rfl rfl rfl he4)) ?_
  refine cq 1 [19] [str e4] 162 ?_
  obtain⟨e5,he5,h⟩:=bS h
  refine oq 178 (.hp 1 0 [] 1 (0+Int.toNat x3.1) 0) rfl (ap rfl rfl rfl (ft (f:=str) (xs:=x3.2) rfl rfl rfl he5)) ?_
  refine o0 194 rfl rfl (hI rfl rfl (fN (path:=[]) (pl:=true) (e':=str e4) (es2':=(fi x3.2 x3.1 e4).map str) rfl (fm rfl) rfl rfl rfl aZ (eL (f:=str) (xs:=x3.2) he5) rfl rfl rfl (mJ (f:=str) (xs:=x3.2) (y:=e4)) eC 0 rfl)) ?_
  try rw[←kF (f:=str) (xs:=x3.2) (i:=x3.1) (z:=e4)]
  refine cq 7 [4] [I (au (x3.1+1))] 242 ?_
  refine cW ?_
  exact rf [0,3,4] [1] (ih _ _ h hr hn :)
 ·refine aq 1 ?_
  exact rf [3] [1] (hn _ (aj h) :) (hk:=hK)
theorem SY (a_1:List ac)(r:(List ac))(h:vr a_1=some r):bz ID Tryz.f62 [false] 0 (Ce a_1) (Cf r):=by
 show Run _ _ (PC a_1 r) [.code PD] _
 refine rI 22 [(0,.isl false (a_1.map str))] [] 1 ?_
 unfold vr at h
 refine cq 7 [5] [.isl false (a_1.map str)] 33 ?_
 refine oq 49 (I (len a_1)) rfl (bd rfl rfl rfl (bw rfl)) ?_
 obtain⟨m2,hm2,h⟩:=bS h
 refine oq 65 (.hs 49 0 [] 1 0 (m2.map str).length) rfl (jI rfl rfl (EI (f:=str) rfl rfl rfl (by decide) hm2 rfl)) ?_
 refine cq 8 [3,4] [.hs 49 0 [] 1 0 (m2.map str).length,I (0)] 97 ?_
 obtain⟨y6,hy6,hy61,hy62⟩:=bJ h
 refine bM rfl ?_
 refine rf [0,3,4] [49] (KR a_1 rfl (0,m2) _ hy6 (fun r' e st hq=>by rw[hy61 r' e] at hq;exact hq) fun u6 hu=>?_)
 replace h:=hy62 u6 hu
 refine cq 5 [2] [.hs 1 0 [] 1 0 (u6.map str).length] 34 ?_
 obtain rfl:=Option.some.inj h
 exact bW rfl ⟨_,fin (vs:=[.hs 1 0 [] 1 0 (u6.map str).length]) rfl (fg (eV rfl (cZ rfl rfl)) ey) rfl (eT fB),fh⟩
theorem Gh {G:Go.Ln.Ground}:aP Tryz.prog G 62 tB:=gT 1 0 bC cd Tryz.func62 (fun a r h=>SY a r h)
noncomputable def vk:Condition→List V:=oA bg
noncomputable def vl (r:Condition):V×List V:=(pf r,[])
noncomputable def qG (bi:Condition→Option Condition):Ent:=bm [false] vk vl bi
theorem LO (bi:Condition→Option Condition){x}{r}(h:bi x=some r):(qG bi).F (vk x)=some (vl r):=aG (aH cz) h
noncomputable def BX:(List Condition)→List V:=oA (fj aB)
noncomputable def BZ (r:(List Condition)):V×List V:=(.usl 4 (r.map aA),[])
noncomputable def zA (bi:Condition→Option Condition):Ent:=bm [false] BX BZ fun x=>vm bi x
theorem XQ (bi:Condition→Option Condition){a_1:List Condition}{r}(h:vm bi a_1=some r):(zA bi).F (BX a_1)=some (BZ r):=aG (aH (bR eE)) h
noncomputable def Pm:Code:=aD Tryz.f216
noncomputable def IA (bi:Condition→Option Condition):Env:=bT Tryz.prog [(183,(qG bi))]
noncomputable def Pk (bi:Condition→Option Condition)(x:(List Condition))(r:(List Condition)):St→Prop:=QF (IA bi) Tryz.f216 [false] (BX x) (BZ r)
theorem KO (bi:Condition→Option Condition)(a_1:List Condition):ci (IA bi) 0 (Pk bi a_1) (cL (cL (cR (cL (cR (cR Pm)))))) 0 (pL bi a_1) (fun u=>(sT 23 [(3,.hs 1 0 [] 4 0 (u.map aA).length)] [⟨0,4,u.map aA⟩] 2)) fun x3=>(sT 23 [(0,.isl false (a_1.map aB)),(3,.hs 1 0 [] 4 0 (x3.2.map aA).length),(4,I x3.1)] [⟨0,4,x3.2.map aA⟩] 2):=dY (xA bi a_1) fun {Q K} hK self ih x3 y h hr hn=>by
 unfold jZ at h
 refine cq 5 [8,9] [I x3.1,.isl false (a_1.map aB)] 34 ?_
 refine oq 50 (I (len a_1)) rfl (bd rfl rfl rfl (bw rfl)) ?_
 refine cq 2 [11] [B (decide (x3.1<(len a_1)))] 66 ?_
 refine sq h ?_ ?_<;>intro h
 ·refine aq 1 ?_
  refine cq 7 [14,15,16,17] [.hs 1 0 [] 4 0 (x3.2.map aA).length,I x3.1,.isl false (a_1.map aB),I x3.1] 130 ?_
  obtain⟨e4,he4,h⟩:=bS h
  refine oq 146 (.iptr (bg e4) 0) rfl (ap rfl rfl rfl (aY rfl rfl (cr e4) rfl he4)) ?_
  refine cq 1 [19] [bg e4] 162 ?_
  obtain⟨r5,hr5,h⟩:=bS h
  refine oq 178 (.agg [I r5.Op,str r5.Name,I r5.Day,.hs 162 0 [] 4 0 (r5.Parts.map aA).length]) rfl (cG rfl rfl (cY rfl rfl rfl (cy (dw rfl) dP) (LO bi hr5) (.inr rfl) eh rfl rfl rfl)) ?_
  obtain⟨e6,he6,h⟩:=bS h
  refine oq 194 (.hp 1 0 [] 4 (0+Int.toNat x3.1) 0) rfl (ap rfl rfl rfl (ft (f:=aA) (xs:=x3.2) rfl rfl rfl he6)) ?_
  refine o0 210 rfl rfl (hI rfl rfl (fN (path:=[]) (pl:=false) (e':=pf r5) (es2':=(fi x3.2 x3.1 r5).map aA) rfl (nU (cl (cI rfl) (cl (cI rfl) (cl (cI rfl) (cl (cZ rfl rfl) nV))))) rfl rfl rfl aZ (Uw (f:=aA) (xs:=x3.2) (lr e6) he6) rfl rfl rfl (UR (f:=aA) (xs:=x3.2) (lr r5)) eC 1 rfl)) ?_
  try rw[←kF (f:=aA) (xs:=x3.2) (i:=x3.1) (z:=r5)]
  refine cq 7 [4] [I (au (x3.1+1))] 258 ?_
  refine cW ?_
  exact rf [0,3,4] [1] (ih _ _ h hr hn :)
 ·refine aq 1 ?_
  exact rf [3] [1] (hn _ (aj h) :) (hk:=hK)
theorem SS (bi:Condition→Option Condition)(a_1:List Condition)(r:(List Condition))(h:vm bi a_1=some r):bz (IA bi) Tryz.f216 [false] 0 (BX a_1) (BZ r):=by
 show Run _ _ (Pk bi a_1 r) [.code Pm] _
 refine rI 23 [(0,.isl false (a_1.map aB))] [] 1 ?_
 unfold vm at h
 refine cq 7 [5] [.isl false (a_1.map aB)] 33 ?_
 refine oq 49 (I (len a_1)) rfl (bd rfl rfl rfl (bw rfl)) ?_
 obtain⟨m2,hm2,h⟩:=bS h
 refine oq 65 (.hs 49 0 [] 4 0 (m2.map aA).length) rfl (jI rfl rfl (RO (g:=aA) (f:=fun _=>(.agg [I (0),str ([]),I (0),.isl true []]:V)) (z0:=(Condition.mk 0 [] 0 [])) rfl rfl rfl (by decide) hm2 rfl)) ?_
 refine eD 49 (m2.map aA) rfl rfl (JI hm2 ((lr _).symm▸fp (aC (.refl _) (aC (.refl _) (aC (.refl _) (aC (.nil _) dM)))))) ?_
 refine cq 8 [3,4] [.hs 49 0 [] 4 0 (m2.map aA).length,I (0)] 97 ?_
 obtain⟨y7,hy7,hy71,hy72⟩:=bJ h
 refine bM rfl ?_
 refine rf [0,3,4] [49] (KO bi a_1 rfl (0,m2) _ hy7 (fun r' e st hq=>by rw[hy71 r' e] at hq;exact hq) fun u7 hu=>?_)
 replace h:=hy72 u7 hu
 refine cq 5 [2] [.hs 1 0 [] 4 0 (u7.map aA).length] 34 ?_
 obtain rfl:=Option.some.inj h
 exact bW rfl ⟨_,fin (vs:=[.hs 1 0 [] 4 0 (u7.map aA).length]) rfl (fg (eV rfl (cZ rfl rfl)) ey) rfl (eT fB),fh⟩
theorem Pn {G:Go.Ln.Ground}(bi:Condition→Option Condition)(JU:aP Tryz.prog G 183 (qG bi)):aP Tryz.prog G 216 (zA bi):=gT 1 0 (aL JU bC) cd Tryz.func216 (fun a r h=>SS bi a r h)
noncomputable def zz:Ent:=qG (aF oL)
theorem XN {a_1:Condition}{r}(h:zy a_1=some r):zz.F (vk a_1)=some (vl r):=LO (aF oL) h
noncomputable def XP:Code:=aD Tryz.f183
noncomputable def Pi (bi:Condition→Option Condition):Env:=bT Tryz.prog [(216,(zA bi))]
noncomputable def XO (bi:Condition→Option Condition)(x:Condition)(r:Condition):St→Prop:=QF (Pi bi) Tryz.f183 [false] (vk x) (vl r)
theorem SR (bi:Condition→Option Condition)(a_1:Condition)(r:Condition)(h:rU bi a_1=some r):bz (Pi bi) Tryz.f183 [false] 0 (vk a_1) (vl r):=by
 show Run _ _ (XO bi a_1 r) [.code XP] _
 refine rI 18 [(0,bg a_1)] [] 1 ?_
 unfold rU at h
 refine ck 4 [1,2] [] [1,17] [] [.hp 1 0 [] 4 0 0,.hp 17 0 [] 4 0 0] [some ⟨0,4,[bg a_1]⟩,some ⟨0,4,[.agg [I (0),str ([]),I (0),.isl true []]]⟩] 33 (by kernel_rfl) ?_
 refine eD 17 [.agg [I (0),str ([]),I (0),.usl 4 (([]).map aA)]] rfl rfl (aC (fp (aC (.refl _) (aC (.refl _) (aC (.refl _) (aC (.nil _) dM))))) dM) ?_
 refine ck 4 [3] [] [33] [] [.hp 33 0 [] 4 0 0] [some ⟨0,4,[.agg [I (0),str ([]),I (0),.isl true []]]⟩] 49 (by kernel_rfl) ?_
 refine eD 33 [.agg [I (0),str ([]),I (0),.usl 4 (([]).map aA)]] rfl rfl (aC (fp (aC (.refl _) (aC (.refl _) (aC (.refl _) (aC (.nil _) dM))))) dM) ?_
 refine ck 26 [14] [] [33] [] [.isl false (a_1.Parts.map aB)] [some ⟨1,4,[.agg [I a_1.Op,str a_1.Name,I a_1.Day,.usl 4 (([]).map aA)]]⟩] 273 (by kernel_rfl) ?_
 obtain⟨r2,hr2,h⟩:=bS h
 refine oq 289 (.hs 273 0 [] 4 0 (r2.map aA).length) rfl (cG rfl rfl (cY rfl rfl rfl (cy (dw rfl) dP) (XQ bi hr2) (.inr rfl) eh rfl rfl rfl)) ?_
 refine cq 1 [16] [.hp 33 0 [] 4 0 3] 305 ?_
 refine o0 321 rfl rfl (hI rfl rfl (fN (path:=[]) (pl:=false) (e':=.agg [I a_1.Op,str a_1.Name,I a_1.Day,.usl 4 (r2.map aA)]) (es2':=[.agg [I a_1.Op,str a_1.Name,I a_1.Day,.usl 4 (r2.map aA)]]) rfl (eV rfl (cZ rfl rfl)) rfl rfl rfl aZ rfl rfl rfl rfl rfl eC 2 rfl)) ?_
 refine cq 4 [17] [.agg [I a_1.Op,str a_1.Name,I a_1.Day,.hs 33 2 [(0,3)] 4 0 (r2.map aA).length]] 337 ?_
 refine o0 353 rfl rfl (hI rfl rfl (fN (path:=[]) (pl:=false) (e':=.agg [I a_1.Op,str a_1.Name,I a_1.Day,.usl 4 (r2.map aA)]) (es2':=[.agg [I a_1.Op,str a_1.Name,I a_1.Day,.usl 4 (r2.map aA)]]) rfl (nU (cl (cI rfl) (cl (cI rfl) (cl (cI rfl) (cl (gM (path:=[(0,3)]) rfl rfl (fC rfl rfl aZ) rfl (nB (path:=[]) (i:=0) (k:=3) (e':=.agg [I a_1.Op,str a_1.Name,I a_1.Day,.dead]) (es2':=[.agg [I a_1.Op,str a_1.Name,I a_1.Day,.dead]]) aZ rfl rfl rfl eC)) nV))))) rfl rfl rfl aZ rfl rfl rfl rfl rfl eC 2 rfl)) ?_
 refine aq 1 ?_
 obtain rfl:=Option.some.inj h
 exact bW rfl ⟨_,fin (vs:=[.agg [I a_1.Op,str a_1.Name,I a_1.Day,.hs 17 2 [(0,3)] 4 0 (r2.map aA).length]]) (Kp (tk rfl rfl rfl) Kq) (fg (nU (cl (cI rfl) (cl (cI rfl) (cl (cI rfl) (cl (gM (path:=[(0,3)]) rfl rfl (fC rfl rfl aZ) rfl (nB (path:=[]) (i:=0) (k:=3) (e':=.agg [I a_1.Op,str a_1.Name,I a_1.Day,.dead]) (es2':=[.agg [I a_1.Op,str a_1.Name,I a_1.Day,.dead]]) aZ rfl rfl rfl eC)) nV))))) ey) rfl (eT fB),fh⟩
theorem Pj {G:Go.Ln.Ground}:aP Tryz.prog G 183 zz:=iq fun bi JU=>gT 1 0 (aL (Pn bi JU) bC) cd Tryz.func183 (fun a r h=>SR bi a r h)
noncomputable def BT:Clause→List V:=oA an
noncomputable def BU (r:Clause):V×List V:=(tp r,[])
noncomputable def zu:Ent:=bm [false] BT BU fun x=>vj x
theorem XJ {a_1:Clause}{r}(h:vj a_1=some r):zu.F (BT a_1)=some (BU r):=aG (aH dh) h
noncomputable def XL:Code:=aD Tryz.f121
noncomputable def Pd:Env:=bT Tryz.prog [(183,zz)]
noncomputable def XK (x:Clause)(r:Clause):St→Prop:=QF Pd Tryz.f121 [false] (BT x) (BU r)
theorem SO (a_1:Clause)(r:Clause)(h:vj a_1=some r):bz Pd Tryz.f121 [false] 0 (BT a_1) (BU r):=by
 show Run _ _ (XK a_1 r) [.code XL] _
 refine rI 33 [(0,an a_1)] [] 1 ?_
 unfold vj at h
 refine ck 4 [1,2] [] [1,17] [] [.hp 1 0 [] 12 0 0,.hp 17 0 [] 12 0 0] [some ⟨0,12,[an a_1]⟩,some ⟨0,12,[.agg [str ([]),I (0),I (0),str ([]),I (0),I (0),I (0),str ([]),I (0),.isl true [],I (0),str ([])]]⟩] 33 (by kernel_rfl) ?_
 refine eD 17 [.agg [str ([]),I (0),I (0),str ([]),I (0),I (0),I (0),str ([]),I (0),.usl 4 (([]).map aA),I (0),str ([])]] rfl rfl (aC (fp (aC (.refl _) (aC (.refl _) (aC (.refl _) (aC (.refl _) (aC (.refl _) (aC (.refl _) (aC (.refl _) (aC (.refl _) (aC (.refl _) (aC (.nil _) (aC (.refl _) (aC (.refl _) dM))))))))))))) dM) ?_
 refine ck 4 [3] [] [33] [] [.hp 33 0 [] 12 0 0] [some ⟨0,12,[.agg [str ([]),I (0),I (0),str ([]),I (0),I (0),I (0),str ([]),I (0),.isl true [],I (0),str ([])]]⟩] 49 (by kernel_rfl) ?_
 refine eD 33 [.agg [str ([]),I (0),I (0),str ([]),I (0),I (0),I (0),str ([]),I (0),.usl 4 (([]).map aA),I (0),str ([])]] rfl rfl (aC (fp (aC (.refl _) (aC (.refl _) (aC (.refl _) (aC (.refl _) (aC (.refl _) (aC (.refl _) (aC (.refl _) (aC (.refl _) (aC (.refl _) (aC (.nil _) (aC (.refl _) (aC (.refl _) dM))))))))))))) dM) ?_
 refine ck 47 [23] [] [33] [] [bg a_1.When] [some ⟨1,12,[.agg [str a_1.Id,I a_1.Kind,I a_1.Party,str a_1.Action,I a_1.Other,I a_1.Amount,I (0),str ([]),I (0),.usl 4 (([]).map aA),I (0),str ([])]]⟩] 465 (by kernel_rfl) ?_
 obtain⟨r2,hr2,h⟩:=bS h
 refine oq 481 (.agg [I r2.Op,str r2.Name,I r2.Day,.hs 465 0 [] 4 0 (r2.Parts.map aA).length]) rfl (cP (XN hr2)) ?_
 refine cq 1 [25] [.hp 33 0 [] 12 0 6] 497 ?_
 refine o0 513 rfl rfl (hI rfl rfl (fN (path:=[]) (pl:=false) (e':=.agg [str a_1.Id,I a_1.Kind,I a_1.Party,str a_1.Action,I a_1.Other,I a_1.Amount,I r2.Op,str r2.Name,I r2.Day,.usl 4 (r2.Parts.map aA),I (0),str ([])]) (es2':=[.agg [str a_1.Id,I a_1.Kind,I a_1.Party,str a_1.Action,I a_1.Other,I a_1.Amount,I r2.Op,str r2.Name,I r2.Day,.usl 4 (r2.Parts.map aA),I (0),str ([])]]) rfl (nU (cl (cI rfl) (cl (cI rfl) (cl (cI rfl) (cl (cZ rfl rfl) nV))))) rfl rfl rfl aZ rfl rfl rfl rfl rfl eC 2 rfl)) ?_
 refine ck 18 [32] [] [33] [] [.agg [str a_1.Id,I a_1.Kind,I a_1.Party,str a_1.Action,I a_1.Other,I a_1.Amount,I r2.Op,str r2.Name,I r2.Day,.hs 33 2 [(0,9)] 4 0 (r2.Parts.map aA).length,I a_1.Within,str a_1.Repair]] [some ⟨2,12,[.agg [str a_1.Id,I a_1.Kind,I a_1.Party,str a_1.Action,I a_1.Other,I a_1.Amount,I r2.Op,str r2.Name,I r2.Day,.usl 4 (r2.Parts.map aA),I a_1.Within,str a_1.Repair]]⟩] 657 (by kernel_rfl) ?_
 refine o0 673 rfl rfl (hI rfl rfl (fN (path:=[]) (pl:=false) (e':=.agg [str a_1.Id,I a_1.Kind,I a_1.Party,str a_1.Action,I a_1.Other,I a_1.Amount,I r2.Op,str r2.Name,I r2.Day,.usl 4 (r2.Parts.map aA),I a_1.Within,str a_1.Repair]) (es2':=[.agg [str a_1.Id,I a_1.Kind,I a_1.Party,str a_1.Action,I a_1.Other,I a_1.Amount,I r2.Op,str r2.Name,I r2.Day,.usl 4 (r2.Parts.map aA),I a_1.Within,str a_1.Repair]]) rfl (nU (cl (cI rfl) (cl (cI rfl) (cl (cI rfl) (cl (cI rfl) (cl (cI rfl) (cl (cI rfl) (cl (cI rfl) (cl (cI rfl) (cl (cI rfl) (cl (gM (path:=[(0,9)]) rfl rfl (fC rfl rfl aZ) rfl (nB (path:=[]) (i:=0) (k:=9) (e':=.agg [str a_1.Id,I a_1.Kind,I a_1.Party,str a_1.Action,I a_1.Other,I a_1.Amount,I r2.Op,str r2.Name,I r2.Day,.dead,I a_1.Within,str a_1.Repair]) (es2':=[.agg [str a_1.Id,I a_1.Kind,I a_1.Party,str a_1.Action,I a_1.Other,I a_1.Amount,I r2.Op,str r2.Name,I r2.Day,.dead,I a_1.Within,str a_1.Repair]]) aZ rfl rfl rfl eC)) (cl (cI rfl) (cl (cI rfl) nV))))))))))))) rfl rfl rfl aZ rfl rfl rfl rfl rfl eC 2 rfl)) ?_
 refine aq 1 ?_
 obtain rfl:=Option.some.inj h
 exact bW rfl ⟨_,fin (vs:=[.agg [str a_1.Id,I a_1.Kind,I a_1.Party,str a_1.Action,I a_1.Other,I a_1.Amount,I r2.Op,str r2.Name,I r2.Day,.hs 17 2 [(0,9)] 4 0 (r2.Parts.map aA).length,I a_1.Within,str a_1.Repair]]) (Kp (tk rfl rfl rfl) Kq) (fg (nU (cl (cI rfl) (cl (cI rfl) (cl (cI rfl) (cl (cI rfl) (cl (cI rfl) (cl (cI rfl) (cl (cI rfl) (cl (cI rfl) (cl (cI rfl) (cl (gM (path:=[(0,9)]) rfl rfl (fC rfl rfl aZ) rfl (nB (path:=[]) (i:=0) (k:=9) (e':=.agg [str a_1.Id,I a_1.Kind,I a_1.Party,str a_1.Action,I a_1.Other,I a_1.Amount,I r2.Op,str r2.Name,I r2.Day,.dead,I a_1.Within,str a_1.Repair]) (es2':=[.agg [str a_1.Id,I a_1.Kind,I a_1.Party,str a_1.Action,I a_1.Other,I a_1.Amount,I r2.Op,str r2.Name,I r2.Day,.dead,I a_1.Within,str a_1.Repair]]) aZ rfl rfl rfl eC)) (cl (cI rfl) (cl (cI rfl) nV))))))))))))) ey) rfl (eT fB),fh⟩
theorem Pe {G:Go.Ln.Ground}:aP Tryz.prog G 121 zu:=gT 1 0 (aL Pj bC) cd Tryz.func121 (fun a r h=>SO a r h)
noncomputable def BV:(List Clause)→List V:=oA (fj an)
noncomputable def BW (r:(List Clause)):V×List V:=(.usl 12 (r.map aO),[])
noncomputable def zx:Ent:=bm [false] BV BW fun x=>zw x
theorem XM {a_1:List Clause}{r}(h:zw a_1=some r):zx.F (BV a_1)=some (BW r):=aG (aH (bR dh)) h
noncomputable def Pg:Code:=aD Tryz.f63
noncomputable def Iz:Env:=bT Tryz.prog [(121,zu)]
noncomputable def Pf (x:(List Clause))(r:(List Clause)):St→Prop:=QF Iz Tryz.f63 [false] (BV x) (BW r)
theorem KN (a_1:List Clause):ci Iz 0 (Pf a_1) (cL (cL (cR (cL (cR (cR Pg)))))) 0 (rT a_1) (fun u=>(sT 23 [(3,.hs 1 0 [] 12 0 (u.map aO).length)] [⟨0,12,u.map aO⟩] 2)) fun x3=>(sT 23 [(0,.isl false (a_1.map an)),(3,.hs 1 0 [] 12 0 (x3.2.map aO).length),(4,I x3.1)] [⟨0,12,x3.2.map aO⟩] 2):=dY (xz a_1) fun {Q K} hK self ih x3 y h hr hn=>by
 unfold l9 at h
 refine cq 5 [8,9] [I x3.1,.isl false (a_1.map an)] 34 ?_
 refine oq 50 (I (len a_1)) rfl (bd rfl rfl rfl (bw rfl)) ?_
 refine cq 2 [11] [B (decide (x3.1<(len a_1)))] 66 ?_
 refine sq h ?_ ?_<;>intro h
 ·refine aq 1 ?_
  refine cq 7 [14,15,16,17] [.hs 1 0 [] 12 0 (x3.2.map aO).length,I x3.1,.isl false (a_1.map an),I x3.1] 130 ?_
  obtain⟨e4,he4,h⟩:=bS h
  refine oq 146 (.iptr (an e4) 0) rfl (ap rfl rfl rfl (aY rfl rfl rfl rfl he4)) ?_
  refine cq 1 [19] [an e4] 162 ?_
  obtain⟨r5,hr5,h⟩:=bS h
  refine oq 178 (.agg [str r5.Id,I r5.Kind,I r5.Party,str r5.Action,I r5.Other,I r5.Amount,I r5.When.Op,str r5.When.Name,I r5.When.Day,.hs 162 0 [] 4 0 (r5.When.Parts.map aA).length,I r5.Within,str r5.Repair]) rfl (cP (XJ hr5)) ?_
  obtain⟨e6,he6,h⟩:=bS h
  refine oq 194 (.hp 1 0 [] 12 (0+Int.toNat x3.1) 0) rfl (ap rfl rfl rfl (ft (f:=aO) (xs:=x3.2) rfl rfl rfl he6)) ?_
  refine o0 210 rfl rfl (hI rfl rfl (fN (path:=[]) (pl:=false) (e':=tp r5) (es2':=(fi x3.2 x3.1 r5).map aO) rfl (nU (cl (cI rfl) (cl (cI rfl) (cl (cI rfl) (cl (cI rfl) (cl (cI rfl) (cl (cI rfl) (cl (cI rfl) (cl (cI rfl) (cl (cI rfl) (cl (cZ rfl rfl) (cl (cI rfl) (cl (cI rfl) nV))))))))))))) rfl rfl rfl aZ (eL (f:=aO) (xs:=x3.2) he6) rfl rfl rfl (mJ (f:=aO) (xs:=x3.2) (y:=r5)) eC 1 rfl)) ?_
  try rw[←kF (f:=aO) (xs:=x3.2) (i:=x3.1) (z:=r5)]
  refine cq 7 [4] [I (au (x3.1+1))] 258 ?_
  refine cW ?_
  exact rf [0,3,4] [1] (ih _ _ h hr hn :)
 ·refine aq 1 ?_
  exact rf [3] [1] (hn _ (aj h) :) (hk:=hK)
theorem SP (a_1:List Clause)(r:(List Clause))(h:zw a_1=some r):bz Iz Tryz.f63 [false] 0 (BV a_1) (BW r):=by
 show Run _ _ (Pf a_1 r) [.code Pg] _
 refine rI 23 [(0,.isl false (a_1.map an))] [] 1 ?_
 unfold zw at h
 refine cq 7 [5] [.isl false (a_1.map an)] 33 ?_
 refine oq 49 (I (len a_1)) rfl (bd rfl rfl rfl (bw rfl)) ?_
 obtain⟨m2,hm2,h⟩:=bS h
 refine oq 65 (.hs 49 0 [] 12 0 (m2.map aO).length) rfl (jI rfl rfl (RO (g:=aO) (f:=fun _=>(.agg [str ([]),I (0),I (0),str ([]),I (0),I (0),I (0),str ([]),I (0),.isl true [],I (0),str ([])]:V)) (z0:=(Clause.mk [] 0 0 [] 0 0 (Condition.mk 0 [] 0 []) 0 [])) rfl rfl rfl (by decide) hm2 rfl)) ?_
 refine eD 49 (m2.map aO) rfl rfl (JI hm2 (fp (aC (.refl _) (aC (.refl _) (aC (.refl _) (aC (.refl _) (aC (.refl _) (aC (.refl _) (aC (.refl _) (aC (.refl _) (aC (.refl _) (aC (.nil _) (aC (.refl _) (aC (.refl _) dM)))))))))))))) ?_
 refine cq 8 [3,4] [.hs 49 0 [] 12 0 (m2.map aO).length,I (0)] 97 ?_
 obtain⟨y7,hy7,hy71,hy72⟩:=bJ h
 refine bM rfl ?_
 refine rf [0,3,4] [49] (KN a_1 rfl (0,m2) _ hy7 (fun r' e st hq=>by rw[hy71 r' e] at hq;exact hq) fun u7 hu=>?_)
 replace h:=hy72 u7 hu
 refine cq 5 [2] [.hs 1 0 [] 12 0 (u7.map aO).length] 34 ?_
 obtain rfl:=Option.some.inj h
 exact bW rfl ⟨_,fin (vs:=[.hs 1 0 [] 12 0 (u7.map aO).length]) rfl (fg (eV rfl (cZ rfl rfl)) ey) rfl (eT fB),fh⟩
theorem Ph {G:Go.Ln.Ground}:aP Tryz.prog G 63 zx:=gT 1 0 (aL Pe bC) cd Tryz.func63 (fun a r h=>SP a r h)
noncomputable def B4:Contract→List V:=oA aM
noncomputable def B5 (r:Contract):V×List V:=(.agg [.usl 1 (r.Parties.map str),.usl 12 (r.Clauses.map aO)],[])
noncomputable def zB:Ent:=bm [false] B4 B5 fun x=>tz x
theorem vo {a_1:Contract}{r}(h:tz a_1=some r):zB.F (B4 a_1)=some (B5 r):=aG (aH ba) h
noncomputable def XS:Code:=aD Tryz.f18
noncomputable def Pp:Env:=bT Tryz.prog [(62,tB),(63,zx)]
noncomputable def XR (x:Contract)(r:Contract):St→Prop:=QF Pp Tryz.f18 [false] (B4 x) (B5 r)
theorem ST (a_1:Contract)(r:Contract)(h:tz a_1=some r):bz Pp Tryz.f18 [false] 0 (B4 a_1) (B5 r):=by
 show Run _ _ (XR a_1 r) [.code XS] _
 refine rI 13 [(0,aM a_1)] [] 1 ?_
 unfold tz at h
 refine ck 4 [1,2] [] [1,17] [] [.hp 1 0 [] 2 0 0,.hp 17 0 [] 2 0 0] [some ⟨0,2,[aM a_1]⟩,some ⟨0,2,[.agg [.isl true [],.isl true []]]⟩] 33 (by kernel_rfl) ?_
 refine eD 17 [.agg [.usl 1 (([]).map str),.usl 12 (([]).map aO)]] rfl rfl (aC (fp (aC (.nil _) (aC (.nil _) dM))) dM) ?_
 refine ck 4 [3] [] [33] [] [.hp 33 0 [] 2 0 0] [some ⟨0,2,[.agg [.isl true [],.isl true []]]⟩] 49 (by kernel_rfl) ?_
 refine eD 33 [.agg [.usl 1 (([]).map str),.usl 12 (([]).map aO)]] rfl rfl (aC (fp (aC (.nil _) (aC (.nil _) dM))) dM) ?_
 refine cq 5 [5] [.isl false (a_1.Parties.map str)] 81 ?_
 obtain⟨r2,hr2,h⟩:=bS h
 refine oq 97 (.hs 81 0 [] 1 0 (r2.map str).length) rfl (cP (PB hr2)) ?_
 refine cq 1 [7] [.hp 33 0 [] 2 0 0] 113 ?_
 refine o0 129 rfl rfl (hI rfl rfl (fN (path:=[]) (pl:=false) (e':=.agg [.usl 1 (r2.map str),.usl 12 (([]).map aO)]) (es2':=[.agg [.usl 1 (r2.map str),.usl 12 (([]).map aO)]]) rfl (eV rfl (cZ rfl rfl)) rfl rfl rfl aZ rfl rfl rfl rfl rfl eC 2 rfl)) ?_
 refine cq 5 [9] [.isl false (a_1.Clauses.map an)] 161 ?_
 obtain⟨r3,hr3,h⟩:=bS h
 refine oq 177 (.hs 161 0 [] 12 0 (r3.map aO).length) rfl (cP (XM hr3)) ?_
 refine cq 1 [11] [.hp 33 0 [] 2 0 1] 193 ?_
 refine o0 209 rfl rfl (hI rfl rfl (fN (path:=[]) (pl:=false) (e':=.agg [.usl 1 (r2.map str),.usl 12 (r3.map aO)]) (es2':=[.agg [.usl 1 (r2.map str),.usl 12 (r3.map aO)]]) rfl (eV rfl (cZ rfl rfl)) rfl rfl rfl aZ rfl rfl rfl rfl rfl eC 3 rfl)) ?_
 refine cq 4 [12] [.agg [.hs 33 3 [(0,0)] 1 0 (r2.map str).length,.hs 33 3 [(0,1)] 12 0 (r3.map aO).length]] 225 ?_
 refine o0 241 rfl rfl (hI rfl rfl (fN (path:=[]) (pl:=false) (e':=.agg [.usl 1 (r2.map str),.usl 12 (r3.map aO)]) (es2':=[.agg [.usl 1 (r2.map str),.usl 12 (r3.map aO)]]) rfl (nU (cl (gM (path:=[(0,0)]) rfl rfl (fC rfl rfl aZ) rfl (nB (path:=[]) (i:=0) (k:=0) (e':=.agg [.dead,.usl 12 (r3.map aO)]) (es2':=[.agg [.dead,.usl 12 (r3.map aO)]]) aZ rfl rfl rfl eC)) (cl (gM (path:=[(0,1)]) rfl rfl (fC rfl rfl aZ) rfl (nB (path:=[]) (i:=0) (k:=1) (e':=.agg [.dead,.dead]) (es2':=[.agg [.dead,.dead]]) aZ rfl rfl rfl eC)) nV))) rfl rfl rfl aZ rfl rfl rfl rfl rfl eC 2 rfl)) ?_
 refine aq 1 ?_
 obtain rfl:=Option.some.inj h
 exact bW rfl ⟨_,fin (vs:=[.agg [.hs 17 2 [(0,0)] 1 0 (r2.map str).length,.hs 17 2 [(0,1)] 12 0 (r3.map aO).length]]) (Kp (tk rfl rfl rfl) Kq) (fg (nU (cl (gM (path:=[(0,0)]) rfl rfl (fC rfl rfl aZ) rfl (nB (path:=[]) (i:=0) (k:=0) (e':=.agg [.dead,.usl 12 (r3.map aO)]) (es2':=[.agg [.dead,.usl 12 (r3.map aO)]]) aZ rfl rfl rfl eC)) (cl (gM (path:=[(0,1)]) rfl rfl (fC rfl rfl aZ) rfl (nB (path:=[]) (i:=0) (k:=1) (e':=.agg [.dead,.dead]) (es2':=[.agg [.dead,.dead]]) aZ rfl rfl rfl eC)) nV))) ey) rfl (eT fB),fh⟩
theorem Pq {G:Go.Ln.Ground}:aP Tryz.prog G 18 zB:=gT 1 0 (aL Gh (aL Ph bC)) cd Tryz.func18 (fun a r h=>ST a r h)
noncomputable def B6:Duty→List V:=oA ae
noncomputable def B7 (r:Duty):V×List V:=(ae r,[])
noncomputable def zC:Ent:=bm [false] B6 B7 fun x=>vp x
theorem XT {a_1:Duty}{r}(h:vp a_1=some r):zC.F (B6 a_1)=some (B7 r):=aG (aH dW) h
noncomputable def XV:Code:=aD Tryz.f122
noncomputable def Pr:Env:=bT Tryz.prog []
noncomputable def XU (x:Duty)(r:Duty):St→Prop:=QF Pr Tryz.f122 [false] (B6 x) (B7 r)
theorem SU (a_1:Duty)(r:Duty)(h:vp a_1=some r):bz Pr Tryz.f122 [false] 0 (B6 a_1) (B7 r):=by
 show Run _ _ (XU a_1 r) [.code XV] _
 refine rI 17 [(0,ae a_1)] [] 1 ?_
 unfold vp at h
 refine ck 42 [2] [] [17] [] [.hp 17 0 [] 4 0 0] [some ⟨0,4,[ae a_1]⟩] 337 (by kernel_rfl) ?_
 obtain rfl:=Option.some.inj h
 exact bW rfl ⟨_,fin (vs:=[ae a_1]) (Kp (tk rfl rfl rfl) Kq) (fg (fm rfl) ey) rfl (eT fB),fh⟩
theorem Ps {G:Go.Ln.Ground}:aP Tryz.prog G 122 zC:=gT 1 0 bC cd Tryz.func122 (fun a r h=>SU a r h)
noncomputable def B8:(List Duty)→List V:=oA (fj ae)
noncomputable def B9 (r:(List Duty)):V×List V:=(.usl 4 (r.map ae),[])
noncomputable def zE:Ent:=bm [false] B8 B9 fun x=>zD x
theorem XW {a_1:List Duty}{r}(h:zD a_1=some r):zE.F (B8 a_1)=some (B9 r):=aG (aH (bR dW)) h
noncomputable def Pu:Code:=aD Tryz.f64
noncomputable def IB:Env:=bT Tryz.prog [(122,zC)]
noncomputable def Pt (x:(List Duty))(r:(List Duty)):St→Prop:=QF IB Tryz.f64 [false] (B8 x) (B9 r)
theorem KP (a_1:List Duty):ci IB 0 (Pt a_1) (cL (cL (cR (cL (cR (cR Pu)))))) 0 (rV a_1) (fun u=>(sT 23 [(3,.hs 1 0 [] 4 0 (u.map ae).length)] [⟨0,4,u.map ae⟩] 2)) fun x3=>(sT 23 [(0,.isl false (a_1.map ae)),(3,.hs 1 0 [] 4 0 (x3.2.map ae).length),(4,I x3.1)] [⟨0,4,x3.2.map ae⟩] 2):=dY (xB a_1) fun {Q K} hK self ih x3 y h hr hn=>by
 unfold ma at h
 refine cq 5 [8,9] [I x3.1,.isl false (a_1.map ae)] 34 ?_
 refine oq 50 (I (len a_1)) rfl (bd rfl rfl rfl (bw rfl)) ?_
 refine cq 2 [11] [B (decide (x3.1<(len a_1)))] 66 ?_
 refine sq h ?_ ?_<;>intro h
 ·refine aq 1 ?_
  refine cq 7 [14,15,16,17] [.hs 1 0 [] 4 0 (x3.2.map ae).length,I x3.1,.isl false (a_1.map ae),I x3.1] 130 ?_
  obtain⟨e4,he4,h⟩:=bS h
  refine oq 146 (.iptr (ae e4) 0) rfl (ap rfl rfl rfl (aY rfl rfl rfl rfl he4)) ?_
  refine cq 1 [19] [ae e4] 162 ?_
  obtain⟨r5,hr5,h⟩:=bS h
  refine oq 178 (ae r5) rfl (cP (XT hr5)) ?_
  obtain⟨e6,he6,h⟩:=bS h
  refine oq 194 (.hp 1 0 [] 4 (0+Int.toNat x3.1) 0) rfl (ap rfl rfl rfl (ft (f:=ae) (xs:=x3.2) rfl rfl rfl he6)) ?_
  refine o0 210 rfl rfl (hI rfl rfl (fN (path:=[]) (pl:=true) (e':=ae r5) (es2':=(fi x3.2 x3.1 r5).map ae) rfl (fm rfl) rfl rfl rfl aZ (eL (f:=ae) (xs:=x3.2) he6) rfl rfl rfl (mJ (f:=ae) (xs:=x3.2) (y:=r5)) eC 0 rfl)) ?_
  try rw[←kF (f:=ae) (xs:=x3.2) (i:=x3.1) (z:=r5)]
  refine cq 7 [4] [I (au (x3.1+1))] 258 ?_
  refine cW ?_
  exact rf [0,3,4] [1] (ih _ _ h hr hn :)
 ·refine aq 1 ?_
  exact rf [3] [1] (hn _ (aj h) :) (hk:=hK)
theorem SV (a_1:List Duty)(r:(List Duty))(h:zD a_1=some r):bz IB Tryz.f64 [false] 0 (B8 a_1) (B9 r):=by
 show Run _ _ (Pt a_1 r) [.code Pu] _
 refine rI 23 [(0,.isl false (a_1.map ae))] [] 1 ?_
 unfold zD at h
 refine cq 7 [5] [.isl false (a_1.map ae)] 33 ?_
 refine oq 49 (I (len a_1)) rfl (bd rfl rfl rfl (bw rfl)) ?_
 obtain⟨m2,hm2,h⟩:=bS h
 refine oq 65 (.hs 49 0 [] 4 0 (m2.map ae).length) rfl (jI rfl rfl (EI (f:=ae) rfl rfl rfl (by decide) hm2 rfl)) ?_
 refine cq 8 [3,4] [.hs 49 0 [] 4 0 (m2.map ae).length,I (0)] 97 ?_
 obtain⟨y7,hy7,hy71,hy72⟩:=bJ h
 refine bM rfl ?_
 refine rf [0,3,4] [49] (KP a_1 rfl (0,m2) _ hy7 (fun r' e st hq=>by rw[hy71 r' e] at hq;exact hq) fun u7 hu=>?_)
 replace h:=hy72 u7 hu
 refine cq 5 [2] [.hs 1 0 [] 4 0 (u7.map ae).length] 34 ?_
 obtain rfl:=Option.some.inj h
 exact bW rfl ⟨_,fin (vs:=[.hs 1 0 [] 4 0 (u7.map ae).length]) rfl (fg (eV rfl (cZ rfl rfl)) ey) rfl (eT fB),fh⟩
theorem Pv {G:Go.Ln.Ground}:aP Tryz.prog G 64 zE:=gT 1 0 (aL Ps bC) cd Tryz.func64 (fun a r h=>SV a r h)
noncomputable def Ca:(List Int)→List V:=oA (fj I)
noncomputable def Cb (r:(List Int)):V×List V:=(.usl 1 (r.map I),[])
noncomputable def zG:Ent:=bm [false] Ca Cb fun x=>zF x
theorem XX {a_1:List Int}{r}(h:zF a_1=some r):zG.F (Ca a_1)=some (Cb r):=aG (aH (bR bZ)) h
noncomputable def Px:Code:=aD Tryz.f26
noncomputable def IC:Env:=bT Tryz.prog []
noncomputable def Pw (x:(List Int))(r:(List Int)):St→Prop:=QF IC Tryz.f26 [false] (Ca x) (Cb r)
theorem KQ (a_1:List Int):ci IC 0 (Pw a_1) (cL (cL (cR (cL (cR (cR Px)))))) 0 (rX a_1) (fun u=>(sT 22 [(3,.hs 1 0 [] 1 0 (u.map I).length)] [⟨0,1,u.map I⟩] 2)) fun x3=>(sT 22 [(0,.isl false (a_1.map I)),(3,.hs 1 0 [] 1 0 (x3.2.map I).length),(4,I x3.1)] [⟨0,1,x3.2.map I⟩] 2):=dY (xC a_1) fun {Q K} hK self ih x3 y h hr hn=>by
 unfold mb at h
 refine cq 5 [8,9] [I x3.1,.isl false (a_1.map I)] 34 ?_
 refine oq 50 (I (len a_1)) rfl (bd rfl rfl rfl (bw rfl)) ?_
 refine cq 2 [11] [B (decide (x3.1<(len a_1)))] 66 ?_
 refine sq h ?_ ?_<;>intro h
 ·refine aq 1 ?_
  refine cq 7 [14,15,16,17] [.hs 1 0 [] 1 0 (x3.2.map I).length,I x3.1,.isl false (a_1.map I),I x3.1] 130 ?_
  obtain⟨e4,he4,h⟩:=bS h
  refine oq 146 (.iptr (I e4) 0) rfl (ap rfl rfl rfl (aY rfl rfl rfl rfl he4)) ?_
  refine cq 1 [19] [I e4] 162 ?_
  obtain⟨e5,he5,h⟩:=bS h
  refine oq 178 (.hp 1 0 [] 1 (0+Int.toNat x3.1) 0) rfl (ap rfl rfl rfl (ft (f:=I) (xs:=x3.2) rfl rfl rfl he5)) ?_
  refine o0 194 rfl rfl (hI rfl rfl (fN (path:=[]) (pl:=true) (e':=I e4) (es2':=(fi x3.2 x3.1 e4).map I) rfl (fm rfl) rfl rfl rfl aZ (eL (f:=I) (xs:=x3.2) he5) rfl rfl rfl (mJ (f:=I) (xs:=x3.2) (y:=e4)) eC 0 rfl)) ?_
  try rw[←kF (f:=I) (xs:=x3.2) (i:=x3.1) (z:=e4)]
  refine cq 7 [4] [I (au (x3.1+1))] 242 ?_
  refine cW ?_
  exact rf [0,3,4] [1] (ih _ _ h hr hn :)
 ·refine aq 1 ?_
  exact rf [3] [1] (hn _ (aj h) :) (hk:=hK)
theorem SW (a_1:List Int)(r:(List Int))(h:zF a_1=some r):bz IC Tryz.f26 [false] 0 (Ca a_1) (Cb r):=by
 show Run _ _ (Pw a_1 r) [.code Px] _
 refine rI 22 [(0,.isl false (a_1.map I))] [] 1 ?_
 unfold zF at h
 refine cq 7 [5] [.isl false (a_1.map I)] 33 ?_
 refine oq 49 (I (len a_1)) rfl (bd rfl rfl rfl (bw rfl)) ?_
 obtain⟨m2,hm2,h⟩:=bS h
 refine oq 65 (.hs 49 0 [] 1 0 (m2.map I).length) rfl (jI rfl rfl (EI (f:=I) rfl rfl rfl (by decide) hm2 rfl)) ?_
 refine cq 8 [3,4] [.hs 49 0 [] 1 0 (m2.map I).length,I (0)] 97 ?_
 obtain⟨y6,hy6,hy61,hy62⟩:=bJ h
 refine bM rfl ?_
 refine rf [0,3,4] [49] (KQ a_1 rfl (0,m2) _ hy6 (fun r' e st hq=>by rw[hy61 r' e] at hq;exact hq) fun u6 hu=>?_)
 replace h:=hy62 u6 hu
 refine cq 5 [2] [.hs 1 0 [] 1 0 (u6.map I).length] 34 ?_
 obtain rfl:=Option.some.inj h
 exact bW rfl ⟨_,fin (vs:=[.hs 1 0 [] 1 0 (u6.map I).length]) rfl (fg (eV rfl (cZ rfl rfl)) ey) rfl (eT fB),fh⟩
theorem Py {G:Go.Ln.Ground}:aP Tryz.prog G 26 zG:=gT 1 0 bC cd Tryz.func26 (fun a r h=>SW a r h)
noncomputable def Cc:State→List V:=oA bV
noncomputable def Cd (r:State):V×List V:=(.agg [I r.Day,.usl 1 (r.Facts.map str),.usl 4 (r.Duties.map ae),.usl 1 (r.Balances.map I),B r.Over],[])
noncomputable def zH:Ent:=bm [false] Cc Cd fun x=>tA x
theorem vq {a_1:State}{r}(h:tA a_1=some r):zH.F (Cc a_1)=some (Cd r):=aG (aH dj) h
noncomputable def XZ:Code:=aD Tryz.f19
noncomputable def Pz:Env:=bT Tryz.prog [(62,tB),(64,zE),(26,zG)]
noncomputable def XY (x:State)(r:State):St→Prop:=QF Pz Tryz.f19 [false] (Cc x) (Cd r)
theorem SX (a_1:State)(r:State)(h:tA a_1=some r):bz Pz Tryz.f19 [false] 0 (Cc a_1) (Cd r):=by
 show Run _ _ (XY a_1 r) [.code XZ] _
 refine rI 23 [(0,bV a_1)] [] 1 ?_
 unfold tA at h
 refine ck 4 [1,2] [] [1,17] [] [.hp 1 0 [] 5 0 0,.hp 17 0 [] 5 0 0] [some ⟨0,5,[bV a_1]⟩,some ⟨0,5,[.agg [I (0),.isl true [],.isl true [],.isl true [],B false]]⟩] 33 (by kernel_rfl) ?_
 refine eD 17 [.agg [I (0),.usl 1 (([]).map str),.usl 4 (([]).map ae),.usl 1 (([]).map I),B false]] rfl rfl (aC (fp (aC (.refl _) (aC (.nil _) (aC (.nil _) (aC (.nil _) (aC (.refl _) dM)))))) dM) ?_
 refine ck 4 [3] [] [33] [] [.hp 33 0 [] 5 0 0] [some ⟨0,5,[.agg [I (0),.isl true [],.isl true [],.isl true [],B false]]⟩] 49 (by kernel_rfl) ?_
 refine eD 33 [.agg [I (0),.usl 1 (([]).map str),.usl 4 (([]).map ae),.usl 1 (([]).map I),B false]] rfl rfl (aC (fp (aC (.refl _) (aC (.nil _) (aC (.nil _) (aC (.nil _) (aC (.refl _) dM)))))) dM) ?_
 refine ck 12 [8] [] [33] [] [.isl false (a_1.Facts.map str)] [some ⟨1,5,[.agg [I a_1.Day,.usl 1 (([]).map str),.usl 4 (([]).map ae),.usl 1 (([]).map I),B false]]⟩] 145 (by kernel_rfl) ?_
 obtain⟨r2,hr2,h⟩:=bS h
 refine oq 161 (.hs 145 0 [] 1 0 (r2.map str).length) rfl (cP (PB hr2)) ?_
 refine cq 1 [10] [.hp 33 0 [] 5 0 1] 177 ?_
 refine o0 193 rfl rfl (hI rfl rfl (fN (path:=[]) (pl:=false) (e':=.agg [I a_1.Day,.usl 1 (r2.map str),.usl 4 (([]).map ae),.usl 1 (([]).map I),B false]) (es2':=[.agg [I a_1.Day,.usl 1 (r2.map str),.usl 4 (([]).map ae),.usl 1 (([]).map I),B false]]) rfl (eV rfl (cZ rfl rfl)) rfl rfl rfl aZ rfl rfl rfl rfl rfl eC 2 rfl)) ?_
 refine cq 5 [12] [.isl false (a_1.Duties.map ae)] 225 ?_
 obtain⟨r3,hr3,h⟩:=bS h
 refine oq 241 (.hs 225 0 [] 4 0 (r3.map ae).length) rfl (cP (XW hr3)) ?_
 refine cq 1 [14] [.hp 33 0 [] 5 0 2] 257 ?_
 refine o0 273 rfl rfl (hI rfl rfl (fN (path:=[]) (pl:=false) (e':=.agg [I a_1.Day,.usl 1 (r2.map str),.usl 4 (r3.map ae),.usl 1 (([]).map I),B false]) (es2':=[.agg [I a_1.Day,.usl 1 (r2.map str),.usl 4 (r3.map ae),.usl 1 (([]).map I),B false]]) rfl (eV rfl (cZ rfl rfl)) rfl rfl rfl aZ rfl rfl rfl rfl rfl eC 3 rfl)) ?_
 refine cq 5 [16] [.isl false (a_1.Balances.map I)] 305 ?_
 obtain⟨r4,hr4,h⟩:=bS h
 refine oq 321 (.hs 305 0 [] 1 0 (r4.map I).length) rfl (cP (XX hr4)) ?_
 refine cq 1 [18] [.hp 33 0 [] 5 0 3] 337 ?_
 refine o0 353 rfl rfl (hI rfl rfl (fN (path:=[]) (pl:=false) (e':=.agg [I a_1.Day,.usl 1 (r2.map str),.usl 4 (r3.map ae),.usl 1 (r4.map I),B false]) (es2':=[.agg [I a_1.Day,.usl 1 (r2.map str),.usl 4 (r3.map ae),.usl 1 (r4.map I),B false]]) rfl (eV rfl (cZ rfl rfl)) rfl rfl rfl aZ rfl rfl rfl rfl rfl eC 4 rfl)) ?_
 refine ck 11 [22] [] [33] [] [.agg [I a_1.Day,.hs 33 4 [(0,1)] 1 0 (r2.map str).length,.hs 33 4 [(0,2)] 4 0 (r3.map ae).length,.hs 33 4 [(0,3)] 1 0 (r4.map I).length,B a_1.Over]] [some ⟨4,5,[.agg [I a_1.Day,.usl 1 (r2.map str),.usl 4 (r3.map ae),.usl 1 (r4.map I),B a_1.Over]]⟩] 433 (by kernel_rfl) ?_
 refine o0 449 rfl rfl (hI rfl rfl (fN (path:=[]) (pl:=false) (e':=.agg [I a_1.Day,.usl 1 (r2.map str),.usl 4 (r3.map ae),.usl 1 (r4.map I),B a_1.Over]) (es2':=[.agg [I a_1.Day,.usl 1 (r2.map str),.usl 4 (r3.map ae),.usl 1 (r4.map I),B a_1.Over]]) rfl (nU (cl (cI rfl) (cl (gM (path:=[(0,1)]) rfl rfl (fC rfl rfl aZ) rfl (nB (path:=[]) (i:=0) (k:=1) (e':=.agg [I a_1.Day,.dead,.usl 4 (r3.map ae),.usl 1 (r4.map I),B a_1.Over]) (es2':=[.agg [I a_1.Day,.dead,.usl 4 (r3.map ae),.usl 1 (r4.map I),B a_1.Over]]) aZ rfl rfl rfl eC)) (cl (gM (path:=[(0,2)]) rfl rfl (fC rfl rfl aZ) rfl (nB (path:=[]) (i:=0) (k:=2) (e':=.agg [I a_1.Day,.dead,.dead,.usl 1 (r4.map I),B a_1.Over]) (es2':=[.agg [I a_1.Day,.dead,.dead,.usl 1 (r4.map I),B a_1.Over]]) aZ rfl rfl rfl eC)) (cl (gM (path:=[(0,3)]) rfl rfl (fC rfl rfl aZ) rfl (nB (path:=[]) (i:=0) (k:=3) (e':=.agg [I a_1.Day,.dead,.dead,.dead,B a_1.Over]) (es2':=[.agg [I a_1.Day,.dead,.dead,.dead,B a_1.Over]]) aZ rfl rfl rfl eC)) (cl (cI rfl) nV)))))) rfl rfl rfl aZ rfl rfl rfl rfl rfl eC 2 rfl)) ?_
 refine aq 1 ?_
 obtain rfl:=Option.some.inj h
 exact bW rfl ⟨_,fin (vs:=[.agg [I a_1.Day,.hs 17 2 [(0,1)] 1 0 (r2.map str).length,.hs 17 2 [(0,2)] 4 0 (r3.map ae).length,.hs 17 2 [(0,3)] 1 0 (r4.map I).length,B a_1.Over]]) (Kp (tk rfl rfl rfl) Kq) (fg (nU (cl (cI rfl) (cl (gM (path:=[(0,1)]) rfl rfl (fC rfl rfl aZ) rfl (nB (path:=[]) (i:=0) (k:=1) (e':=.agg [I a_1.Day,.dead,.usl 4 (r3.map ae),.usl 1 (r4.map I),B a_1.Over]) (es2':=[.agg [I a_1.Day,.dead,.usl 4 (r3.map ae),.usl 1 (r4.map I),B a_1.Over]]) aZ rfl rfl rfl eC)) (cl (gM (path:=[(0,2)]) rfl rfl (fC rfl rfl aZ) rfl (nB (path:=[]) (i:=0) (k:=2) (e':=.agg [I a_1.Day,.dead,.dead,.usl 1 (r4.map I),B a_1.Over]) (es2':=[.agg [I a_1.Day,.dead,.dead,.usl 1 (r4.map I),B a_1.Over]]) aZ rfl rfl rfl eC)) (cl (gM (path:=[(0,3)]) rfl rfl (fC rfl rfl aZ) rfl (nB (path:=[]) (i:=0) (k:=3) (e':=.agg [I a_1.Day,.dead,.dead,.dead,B a_1.Over]) (es2':=[.agg [I a_1.Day,.dead,.dead,.dead,B a_1.Over]]) aZ rfl rfl rfl eC)) (cl (cI rfl) nV)))))) ey) rfl (eT fB),fh⟩
theorem PA {G:Go.Ln.Ground}:aP Tryz.prog G 19 zH:=gT 1 0 (aL Gh (aL Pv (aL Py bC))) cd Tryz.func19 (fun a r h=>SX a r h)
noncomputable def oG:(Int×Int×Int)→List V:=cA I (cA I (oA I))
noncomputable def oH (r:Bool):V×List V:=(B r,[])
noncomputable def eU:Ent:=bm [false,false,false] oG oH fun x=>dS x.1 x.2.1 x.2.2
theorem dT {x_1:Int}{a_2:Int}{b_3:Int}{r}(h:dS x_1 a_2 b_3=some r):eU.F (oG (x_1,a_2,b_3))=some (oH r):=aG (br bZ (br bZ (aH bZ))) h
noncomputable def yK:Code:=aD Tryz.f73
noncomputable def rH:Env:=bT Tryz.prog []
noncomputable def yJ (x:Int×Int×Int)(r:Bool):St→Prop:=QF rH Tryz.f73 [false,false,false] (oG x) (oH r)
theorem Hc (x_1:Int)(a_2:Int)(b_3:Int)(r:Bool)(h:dS x_1 a_2 b_3=some r):bz rH Tryz.f73 [false,false,false] 0 (oG (x_1,a_2,b_3)) (oH r):=by
 show Run _ _ (yJ (x_1,a_2,b_3) r) [.code yK] _
 refine rI 15 [(0,I x_1),(1,I a_2),(2,I b_3)] [] 1 ?_
 unfold dS at h
 refine cq 10 [10] [B (decide (x_1≥a_2))] 81 ?_
 obtain⟨u4,hu4,h⟩:=lJ h
 have j4:Run rH 0 (yJ (x_1,a_2,b_3) r) (.code (cR (cR yK))::[]) (sT 15 [(6,B u4)] [] 1):=by
  obtain rfl:=Option.some.inj h
  exact rP [B u4]
 replace h:=hu4
 clear hu4
 refine sp 10 h rfl ?_ ?_<;>intro h
 ·refine cq 6 [6] [B (decide (x_1≤b_3))] 161 ?_
  subst h
  exact rf [6] [] (j4 :)
 ·refine cq 6 [6] [B false] 161 ?_
  subst h
  exact rf [6] [] (j4 :)
theorem f7 {G:Go.Ln.Ground}:aP Tryz.prog G 73 eU:=gT 3 0 bC cd Tryz.func73 (fun a r h=>Hc a.1 a.2.1 a.2.2 r h)
noncomputable def Dj:Int→List V:=oA (V.int .u8)
noncomputable def Dk (r:Bool):V×List V:=(B r,[])
noncomputable def Am:Ent:=bm [false] Dj Dk fun x=>vI x
theorem Yz {b_1:Int}{r}(h:vI b_1=some r):Am.F (Dj b_1)=some (Dk r):=aG (aH (KD (k:=.u8))) h
noncomputable def vK:Code:=aD Tryz.f200
noncomputable def sA:Env:=bT Tryz.prog []
noncomputable def vJ (x:Int)(r:Bool):St→Prop:=QF sA Tryz.f200 [false] (Dj x) (Dk r)
theorem Tw (b_1:Int)(r:Bool)(h:vI b_1=some r):bz sA Tryz.f200 [false] 0 (Dj b_1) (Dk r):=by
 show Run _ _ (vJ b_1 r) [.code vK] _
 refine rI 17 [(0,.int .u8 b_1)] [] 1 ?_
 unfold vI at h
 refine cq 9 [5] [B (decide (b_1≥97))] 65 ?_
 obtain⟨u2,hu2,h⟩:=lJ h
 have j2:Run sA 0 (vJ b_1 r) (.code (cR (cR vK))::[]) (sT 17 [(2,B u2)] [] 1):=by
  obtain rfl:=Option.some.inj h
  exact rP [B u2]
 replace h:=hu2
 clear hu2
 refine sp 5 h rfl ?_ ?_<;>intro h
 ·refine cq 4 [9] [B (decide (b_1≤122))] 129 ?_
  obtain⟨u3,hu3,h⟩:=lJ h
  have j3:Run sA 0 (vJ b_1 r) (.code (cR (cR vK))::[]) (sT 17 [(2,B u3)] [] 1):=by
   subst h
   exact rf [2] [] (j2 :)
  replace h:=hu3
  clear hu3
  refine sp 9 h rfl ?_ ?_<;>intro h
  ·refine cq 9 [2] [B true] 257 ?_
   subst h
   exact rf [2] [] (j3 :)
  ·refine cq 3 [12] [B (decide (b_1≥48))] 177 ?_
   obtain⟨u4,hu4,h⟩:=lJ h
   have j4:Run sA 0 (vJ b_1 r) (.code (cR (cR vK))::[]) (sT 17 [(2,B u4)] [] 1):=by
    subst h
    exact rf [2] [] (j3 :)
   replace h:=hu4
   clear hu4
   refine sp 12 h rfl ?_ ?_<;>intro h
   ·refine cq 6 [2] [B (decide (b_1≤57))] 257 ?_
    subst h
    exact rf [2] [] (j4 :)
   ·refine cq 6 [2] [B false] 257 ?_
    subst h
    exact rf [2] [] (j4 :)
 ·refine cq 7 [9,12] [B false,B (decide (b_1≥48))] 177 ?_
  obtain⟨u5,hu5,h⟩:=lJ h
  have j5:Run sA 0 (vJ b_1 r) (.code (cR (cR vK))::[]) (sT 17 [(2,B u5)] [] 1):=by
   subst h
   exact rf [2] [] (j2 :)
  replace h:=hu5
  clear hu5
  refine sp 12 h rfl ?_ ?_<;>intro h
  ·refine cq 6 [2] [B (decide (b_1≤57))] 257 ?_
   subst h
   exact rf [2] [] (j5 :)
  ·refine cq 6 [2] [B false] 257 ?_
   subst h
   exact rf [2] [] (j5 :)
theorem Qy {G:Go.Ln.Ground}:aP Tryz.prog G 200 Am:=gT 1 0 bC cd Tryz.func200 (fun a r h=>Tw a r h)
noncomputable def Dd:ac→List V:=oA str
noncomputable def De (r:Bool):V×List V:=(B r,[])
noncomputable def nR:Ent:=bm [false] Dd De fun x=>qa x
theorem qb {s_1:ac}{r}(h:qa s_1=some r):nR.F (Dd s_1)=some (De r):=aG (aH bH) h
noncomputable def oM:Code:=aD Tryz.f157
noncomputable abbrev ml:Code:=cR (cR (cR (cR oM)))
noncomputable abbrev mm:Code:=cR (cL (cR (cL (cR (cR (cR oM))))))
noncomputable def iH:Env:=bT Tryz.prog [(73,eU),(200,Am)]
noncomputable def gB (x:ac)(r:Bool):St→Prop:=QF iH Tryz.f157 [false] (Dd x) (De r)
theorem La (s_1:ac):ci iH 0 (gB s_1) (cL (cL (cR (cL (cR (cR oM)))))) 0 (su s_1) (fun u=>(sT 40 [(0,str s_1)] [] 1)) fun x4=>(sT 40 [(0,str s_1),(3,I x4)] [] 1):=dY (xV s_1) fun {Q K} hK self ih x4 y h hr hn=>by
 unfold mn at h
 refine cq 8 [21] [B (decide (x4<(len s_1)))] 65 ?_
 refine sq h ?_ ?_<;>intro h
 ·refine aq 1 ?_
  refine cq 6 [24,25] [str s_1,I x4] 97 ?_
  obtain⟨c5,hc5,h⟩:=bS h
  refine oq 113 (.int .u8 (c5.toNat:Int)) rfl (mB rfl rfl (qU rfl rfl hc5)) ?_
  obtain⟨r6,hr6,h⟩:=bS h
  refine oq 129 (B r6) rfl (cP (Yz hr6)) ?_
  refine cq 2 [28] [B (!r6)] 145 ?_
  refine sq h ?_ ?_<;>intro h
  ·refine cq 4 [2] [B false] 161 ?_
   exact bW rfl (hr _ (aj h) _ (qp [B false]))
  ·refine aq 1 ?_
   refine cq 6 [3] [I (au (x4+1))] 193 ?_
   refine cW ?_
   exact rf [0,3] [] (ih _ _ h hr hn :)
 ·refine aq 1 ?_
  exact rf [0] [] (hn _ (aj h) :) (hk:=hK)
theorem Ts (s_1:ac)(r:Bool)(h:qa s_1=some r):bz iH Tryz.f157 [false] 0 (Dd s_1) (De r):=by
 show Run _ _ (gB s_1 r) [.code oM] _
 refine rI 40 [(0,str s_1)] [] 1 ?_
 unfold qa at h
 refine cq 9 [5] [I (len s_1)] 49 ?_
 obtain⟨r2,hr2,h⟩:=bS h
 refine oq 65 (B r2) rfl (cP (dT hr2)) ?_
 refine cq 2 [8] [B (!r2)] 97 ?_
 obtain⟨y3,hy3,hy31,hy32⟩:=bJ h
 have j3:∀u3,y3=.inr u3→Run iH 0 (gB s_1 r) (.code (cR (cL (cR oM)))::.code (cR (cR oM))::[]) (sT 40 [(0,str s_1),(17,B u3)] [] 1):=by
  intro u3 hu
  replace h:=hy32 u3 hu
  refine sq h ?_ ?_<;>intro h
  ·refine cq 4 [2] [B false] 17 ?_
   obtain rfl:=Option.some.inj h
   exact rP [B false]
  ·refine aq 1 ?_
   refine cq 6 [3] [I (0)] 17 ?_
   obtain⟨y7,hy7,hy71,hy72⟩:=bJ h
   refine bM rfl ?_
   refine rf [0,3] [] (La s_1 rfl 0 _ hy7 (fun r' e st hq=>by rw[hy71 r' e] at hq;exact hq) fun u7 hu=>?_)
   replace h:=hy72 u7 hu
   refine cq 12 [29,30] [str s_1,B (s_1==([116,114,117,101]:ac))] 49 ?_
   obtain⟨u8,hu8,h⟩:=lJ h
   have j8:Run iH 0 (gB s_1 r) (.code mm::.blk 2::.code ml::[]) (sT 40 [(30,B u8)] [] 1):=by
    refine sq h ?_ ?_<;>intro h
    ·refine cq 4 [2] [B false] 17 ?_
     obtain rfl:=Option.some.inj h
     exact rP [B false]
    ·refine aq 1 ?_
     refine cq 5 [2] [B true] 17 ?_
     obtain rfl:=Option.some.inj h
     exact rP [B true]
   replace h:=hu8
   clear hu8
   refine wC h rfl rfl ?_ ?_<;>intro h
   ·refine aq 1 ?_
    subst h
    exact rf [30] [] (j8 :)
   ·refine cq 5 [30] [B (s_1==([102,114,111,109]:ac))] 81 ?_
    obtain⟨u9,hu9,h⟩:=lJ h
    have j9:Run iH 0 (gB s_1 r) (.code mm::.blk 2::.code ml::[]) (sT 40 [(30,B u9)] [] 1):=by
     subst h
     exact rf [30] [] (j8 :)
    replace h:=hu9
    clear hu9
    refine wC h rfl rfl ?_ ?_<;>intro h
    ·refine aq 1 ?_
     subst h
     exact rf [30] [] (j9 :)
    ·refine cq 5 [30] [B (s_1==([110,111,116]:ac))] 113 ?_
     obtain⟨u10,hu10,h⟩:=lJ h
     have j10:Run iH 0 (gB s_1 r) (.code mm::.blk 2::.code ml::[]) (sT 40 [(30,B u10)] [] 1):=by
      subst h
      exact rf [30] [] (j9 :)
     replace h:=hu10
     clear hu10
     refine wC h rfl rfl ?_ ?_<;>intro h
     ·refine aq 1 ?_
      subst h
      exact rf [30] [] (j10 :)
     ·refine cq 5 [30] [B (s_1==([97,110,100]:ac))] 145 ?_
      obtain⟨u11,hu11,h⟩:=lJ h
      have j11:Run iH 0 (gB s_1 r) (.code mm::.blk 2::.code ml::[]) (sT 40 [(30,B u11)] [] 1):=by
       subst h
       exact rf [30] [] (j10 :)
      replace h:=hu11
      clear hu11
      refine wC h rfl rfl ?_ ?_<;>intro h
      ·refine aq 1 ?_
       subst h
       exact rf [30] [] (j11 :)
      ·refine cq 5 [30] [B (s_1==([111,114]:ac))] 177 ?_
       obtain⟨u12,hu12,h⟩:=lJ h
       have j12:Run iH 0 (gB s_1 r) (.code mm::.blk 2::.code ml::[]) (sT 40 [(30,B u12)] [] 1):=by
        subst h
        exact rf [30] [] (j11 :)
       replace h:=hu12
       clear hu12
       refine wC h rfl rfl ?_ ?_<;>intro h
       ·refine aq 1 ?_
        subst h
        exact rf [30] [] (j12 :)
       ·refine cq 5 [30] [B (s_1==([98,111,116,104]:ac))] 209 ?_
        obtain⟨u13,hu13,h⟩:=lJ h
        have j13:Run iH 0 (gB s_1 r) (.code mm::.blk 2::.code ml::[]) (sT 40 [(30,B u13)] [] 1):=by
         subst h
         exact rf [30] [] (j12 :)
        replace h:=hu13
        clear hu13
        refine wC h rfl rfl ?_ ?_<;>intro h
        ·refine aq 1 ?_
         subst h
         exact rf [30] [] (j13 :)
        ·refine cq 5 [30] [B (s_1==([101,105,116,104,101,114]:ac))] 241 ?_
         obtain⟨u14,hu14,h⟩:=lJ h
         have j14:Run iH 0 (gB s_1 r) (.code mm::.blk 2::.code ml::[]) (sT 40 [(30,B u14)] [] 1):=by
          subst h
          exact rf [30] [] (j13 :)
         replace h:=hu14
         clear hu14
         refine wC h rfl rfl ?_ ?_<;>intro h
         ·refine aq 1 ?_
          subst h
          exact rf [30] [] (j14 :)
         ·refine cq 5 [30] [B (s_1==([105,116]:ac))] 273 ?_
          obtain⟨u15,hu15,h⟩:=lJ h
          have j15:Run iH 0 (gB s_1 r) (.code mm::.blk 2::.code ml::[]) (sT 40 [(30,B u15)] [] 1):=by
           subst h
           exact rf [30] [] (j14 :)
          replace h:=hu15
          clear hu15
          refine wC h rfl rfl ?_ ?_<;>intro h
          ·refine aq 1 ?_
           subst h
           exact rf [30] [] (j15 :)
          ·refine cq 4 [30] [B (s_1==([105,110]:ac))] 305 ?_
           subst h
           exact rf [30] [] (j15 :)
 have r3:∀r',y3=.inl r'→∀st,gB s_1 r' st→(gB s_1 r) st:=fun r' e st hq=>by rw[hy31 r' e] at hq;exact hq
 replace h:=hy3
 refine sp 8 h rfl ?_ ?_<;>intro h
 ·refine cq 10 [17] [B true] 241 ?_
  exact rf [0,17] [] (j3 _ (aj h) :)
 ·refine cq 1 [9] [str s_1] 113 ?_
  obtain⟨c16,hc16,h⟩:=bS h
  refine oy 129 (.int .u8 (c16.toNat:Int)) rfl (mB rfl rfl (qU rfl rfl hc16)) ?_
  refine cq 3 [13] [B (decide ((c16.toNat:Int)<97))] 177 ?_
  obtain⟨y17,hy17,hy171,hy172⟩:=bL h
  have j17:∀u17,y17=.inr u17→Run iH 0 (gB s_1 r) (.code (cR (cL (cR oM)))::.code (cR (cR oM))::[]) (sT 40 [(0,str s_1),(17,B u17)] [] 1):=by
   intro u17 hu
   replace h:=hy172 u17 hu
   exact rf [0,17] [] (j3 _ (aj h) :)
  have r17:∀r',y17=.inl r'→∀st,gB s_1 r' st→(gB s_1 r) st:=fun r' e st hq=>r3 r' (hy171 r' e) st hq
  replace h:=hy17
  refine sp 13 h rfl ?_ ?_<;>intro h
  ·refine cq 5 [17] [B true] 241 ?_
   exact rf [0,17] [] (j17 _ (aj h) :)
  ·refine cq 1 [14] [str s_1] 193 ?_
   obtain⟨c18,hc18,h⟩:=bS h
   refine oy 209 (.int .u8 (c18.toNat:Int)) rfl (mB rfl rfl (qU rfl rfl hc18)) ?_
   refine cq 3 [17] [B (decide ((c18.toNat:Int)>122))] 241 ?_
   exact rf [0,17] [] (j17 _ (aj h) :)
theorem qJ {G:Go.Ln.Ground}:aP Tryz.prog G 157 nR:=gT 1 0 (aL f7 (aL Qy bC)) cd Tryz.func157 (fun a r h=>Ts a r h)
noncomputable def Db:((List ac)×ac)→List V:=cA (fj str) (oA str)
noncomputable def Dc (r:Bool):V×List V:=(B r,[])
noncomputable def tH:Ent:=bm [false,false] Db Dc fun x=>tG x.1 x.2
theorem IY {ao:List ac}{eb:ac}{r}(h:tG ao eb=some r):tH.F (Db (ao,eb))=some (Dc r):=aG (br (bR bH) (aH bH)) h
noncomputable def Qt:Code:=aD Tryz.f117
noncomputable def IX:Env:=bT Tryz.prog []
noncomputable def Qs (x:(List ac)×ac)(r:Bool):St→Prop:=QF IX Tryz.f117 [false,false] (Db x) (Dc r)
theorem K9 (ao:List ac)(eb:ac):ci IX 0 (Qs (ao,eb)) (cL (cL (cR (cL (cR Qt))))) 0 (ss ao eb) (fun u=>(sT 18 [] [] 1)) fun x3=>(sT 18 [(0,.isl false (ao.map str)),(1,str eb),(5,I x3)] [] 1):=dY (xU ao eb) fun {Q K} hK self ih x3 y h hr hn=>by
 unfold mj at h
 refine cq 5 [6,7] [I x3,.isl false (ao.map str)] 33 ?_
 refine oq 49 (I (len ao)) rfl (bd rfl rfl rfl (bw rfl)) ?_
 refine cq 2 [9] [B (decide (x3<(len ao)))] 65 ?_
 refine sq h ?_ ?_<;>intro h
 ·refine aq 1 ?_
  refine cq 6 [12,13] [.isl false (ao.map str),I x3] 97 ?_
  obtain⟨e4,he4,h⟩:=bS h
  refine oq 113 (.iptr (str e4) 0) rfl (ap rfl rfl rfl (aY rfl rfl rfl rfl he4)) ?_
  refine cq 4 [17] [B (e4==eb)] 161 ?_
  refine sq h ?_ ?_<;>intro h
  ·refine cq 4 [4] [B true] 177 ?_
   exact bW rfl (hr _ (aj h) _ (qp [B true]))
  ·refine aq 1 ?_
   refine cq 6 [5] [I (au (x3+1))] 209 ?_
   refine cW ?_
   exact rf [0,1,5] [] (ih _ _ h hr hn :)
 ·refine aq 1 ?_
  exact rf [] [] (hn _ (aj h) :) (hk:=hK)
theorem Tr (ao:List ac)(eb:ac)(r:Bool)(h:tG ao eb=some r):bz IX Tryz.f117 [false,false] 0 (Db (ao,eb)) (Dc r):=by
 show Run _ _ (Qs (ao,eb) r) [.code Qt] _
 refine rI 18 [(0,.isl false (ao.map str)),(1,str eb)] [] 1 ?_
 unfold tG at h
 refine cq 10 [5] [I (0)] 33 ?_
 obtain⟨y5,hy5,hy51,hy52⟩:=bJ h
 refine bM rfl ?_
 refine rf [0,1,5] [] (K9 ao eb rfl 0 _ hy5 (fun r' e st hq=>by rw[hy51 r' e] at hq;exact hq) fun u5 hu=>?_)
 replace h:=hy52 u5 hu
 refine cq 4 [4] [B false] 17 ?_
 obtain rfl:=Option.some.inj h
 exact rP [B false]
theorem Gk {G:Go.Ln.Ground}:aP Tryz.prog G 117 tH:=gT 2 0 bC cd Tryz.func117 (fun a r h=>Tr a.1 a.2 r h)
noncomputable def DA:Contract→List V:=oA aM
noncomputable def DC (r:Bool):V×List V:=(B r,[])
noncomputable def Aw:Ent:=bm [false] DA DC fun x=>vP x
theorem YD {c_1:Contract}{r}(h:vP c_1=some r):Aw.F (DA c_1)=some (DC r):=aG (aH ba) h
noncomputable def vQ:Code:=aD Tryz.f139
noncomputable def DB:Env:=bT Tryz.prog [(157,nR),(117,tH),(73,eU)]
noncomputable def I9 (x:Contract)(r:Bool):St→Prop:=QF DB Tryz.f139 [false] (DA x) (DC r)
theorem Lj (c_1:Contract):ci DB 0 (I9 c_1) (cL (cL (cR (cL (cR vQ))))) 0 (sG c_1) (fun u=>(sT 34 [(1,.hp 1 0 [] 2 0 0)] [⟨0,2,[aa c_1]⟩] 2)) fun x2=>(sT 34 [(1,.hp 1 0 [] 2 0 0),(3,I x2)] [⟨0,2,[aa c_1]⟩] 2):=dY (yf c_1) fun {Q K} hK self ih x2 y h hr hn=>by
 unfold kr at h
 refine cq 6 [4,6] [I x2,.isl false (c_1.Parties.map str)] 50 ?_
 refine oq 66 (I (len c_1.Parties)) rfl (bd rfl rfl rfl (bw rfl)) ?_
 refine cq 2 [8] [B (decide (x2<(len c_1.Parties)))] 82 ?_
 refine sq h ?_ ?_<;>intro h
 ·refine aq 1 ?_
  refine aq 3 ?_
  refine eB [0,1,0,7,15,31,63,127,255,511,255,2047,255,4351,255,28927,61695,131071,262143] rfl (by decide +kernel) ?_
  refine dq [1] [] (.hp 1 0 [] 2 0 0) rfl (ay rfl rfl rfl) ?_
  refine dq [1] [] (.isl false (c_1.Parties.map str)) rfl (bb rfl rfl) ?_
  refine dk 1 [13] [I x2] ?_
  obtain⟨e3,he3,h⟩:=bS h
  refine dq [] [] (.iptr (str e3) 0) rfl (ap rfl rfl rfl (aY rfl rfl rfl rfl he3)) ?_
  refine dq [] [] (str e3) rfl (bb rfl rfl) ?_
  obtain⟨r4,hr4,h⟩:=bS h
  refine dq [] [] (B r4) rfl (cP (qb hr4)) ?_ (dV rfl rfl rfl rfl (cy (dw rfl) dP) (qb hr4) (.inr rfl) rfl)
  refine dk 2 [18,17] [B (!r4),B (!r4)] ?_
  obtain⟨y5,hy5,hy51,hy52⟩:=bL h
  have j5:∀u5,y5=.inr u5→Run DB 0 Q (.code (cR (cL (cL (cR (cL (cL (cR (cL (cR vQ)))))))))::.blk 1::.code (cR (cR (cL (cL (cR (cL (cR vQ)))))))::.lp (cL (cL (cR (cL (cR vQ)))))::.blk 0::K) (sT 34 [(1,.hp 1 0 [] 2 0 0),(3,I x2),(29,B u5)] [⟨0,2,[aa c_1]⟩] 2):=by
   intro u5 hu
   replace h:=hy52 u5 hu
   refine sq h ?_ ?_<;>intro h
   ·refine cq 4 [2] [B false] 18 ?_
    exact bW rfl (hr _ (aj h) _ (qp [B false]))
   ·refine aq 1 ?_
    refine cq 6 [3] [I (au (x2+1))] 50 ?_
    refine cW ?_
    exact rf [1,3] [1] (ih _ _ h hr hn :)
  have r5:∀r',y5=.inl r'→∀st,I9 c_1 r' st→Q st:=fun r' e st hq=>hr r' (hy51 r' e) st hq
  replace h:=hy5
  refine sp 18 h rfl ?_ ?_<;>intro h
  ·refine dk 11 [29,28,27,26,25,24,23,22,21,20,19] [B true,.und,.und,.und,.und,.und,.und,.und,.und,.und,.und] ?_
   refine de 386 rfl rfl ?_
   exact rf [1,3,29] [1] (j5 _ (aj h) :)
  ·refine dy [1] [] (.hp 1 0 [] 2 0 0) rfl (ay rfl rfl rfl) ?_
   refine dy [1] [] (.isl false (c_1.Parties.map str)) rfl (bb rfl rfl) ?_
   refine dk 1 [21] [I x2] ?_
   obtain⟨s6,hs6,h⟩:=bS h
   refine dy [] [] (.isl false (s6.map str)) rfl (gq rfl rfl rfl rfl (Kv rfl rfl (fun y=>(kM y).1) rfl rfl hs6)) ?_
   refine dy [1] [] (.hp 1 0 [] 2 0 0) rfl (ay rfl rfl rfl) ?_
   refine dy [1] [] (.isl false (c_1.Parties.map str)) rfl (bb rfl rfl) ?_
   refine dk 1 [25] [I x2] ?_
   obtain⟨e7,he7,h⟩:=bS h
   refine dy [] [] (.iptr (str e7) 0) rfl (ap rfl rfl rfl (aY rfl rfl rfl rfl he7)) ?_
   refine dy [] [] (str e7) rfl (bb rfl rfl) ?_
   obtain⟨r8,hr8,h⟩:=bS h
   refine dy [] [] (B r8) rfl (cP (IY hr8)) ?_ (dV rfl rfl rfl rfl (cy (dw rfl) (cy (dw rfl) dP)) (IY hr8) (.inr rfl) rfl)
   refine dk 1 [29] [B r8] ?_
   refine de 386 rfl rfl ?_
   exact rf [1,3,29] [1] (j5 _ (aj h) :)
 ·refine aq 1 ?_
  exact rf [1] [1] (hn _ (aj h) :) (hk:=hK)
theorem TE (c_1:Contract)(r:Bool)(h:vP c_1=some r):bz DB Tryz.f139 [false] 0 (DA c_1) (DC r):=by
 show Run _ _ (I9 c_1 r) [.code vQ] _
 refine rI 34 [(0,aa c_1)] [] 1 ?_
 unfold vP at h
 refine ck 11 [1,3] [] [1] [] [.hp 1 0 [] 2 0 0,I (0)] [some ⟨0,2,[aa c_1]⟩] 49 (by kernel_rfl) ?_
 obtain⟨y9,hy9,hy91,hy92⟩:=bJ h
 refine bM rfl ?_
 refine rf [1,3] [1] (Lj c_1 rfl 0 _ hy9 (fun r' e st hq=>by rw[hy91 r' e] at hq;exact hq) fun u9 hu=>?_)
 replace h:=hy92 u9 hu
 refine cq 4 [31] [.isl false (c_1.Parties.map str)] 34 ?_
 refine oq 50 (I (len c_1.Parties)) rfl (bd rfl rfl rfl (bw rfl)) ?_
 obtain⟨r10,hr10,h⟩:=bS h
 refine oq 66 (B r10) rfl (cP (dT hr10)) ?_
 refine cq 2 [2] [B r10] 82 ?_
 obtain rfl:=Option.some.inj h
 exact rP [B r10]
theorem QO {G:Go.Ln.Ground}:aP Tryz.prog G 139 Aw:=gT 1 0 (aL qJ (aL Gk (aL f7 bC))) cd Tryz.func139 (fun a r h=>TE a r h)
noncomputable def Dr:(Contract×ac)→List V:=cA aM (oA str)
noncomputable def Ds (r:Int):V×List V:=(I r,[])
noncomputable def tK:Ent:=bm [false,false] Dr Ds fun x=>tJ x.1 x.2
theorem I7 {c_1:Contract}{ek:ac}{r}(h:tJ c_1 ek=some r):tK.F (Dr (c_1,ek))=some (Ds r):=aG (br ba (aH bH)) h
noncomputable def QJ:Code:=aD Tryz.f140
noncomputable def I6:Env:=bT Tryz.prog []
noncomputable def QI (x:Contract×ac)(r:Int):St→Prop:=QF I6 Tryz.f140 [false,false] (Dr x) (Ds r)
theorem Lg (c_1:Contract)(ek:ac):ci I6 0 (QI (c_1,ek)) (cL (cL (cR (cL (cR QJ))))) 0 (sE c_1 ek) (fun u=>(sT 22 [] [] 1)) fun x3=>(sT 22 [(1,str ek),(2,.hp 1 0 [] 2 0 0),(5,I x3)] [⟨0,2,[aa c_1]⟩] 2):=dY (yb c_1 ek) fun {Q K} hK self ih x3 y h hr hn=>by
 unfold mq at h
 refine cq 6 [6,8] [I x3,.isl false (c_1.Clauses.map an)] 50 ?_
 refine oq 66 (I (len c_1.Clauses)) rfl (bd rfl rfl rfl (bw rfl)) ?_
 refine cq 2 [10] [B (decide (x3<(len c_1.Clauses)))] 82 ?_
 refine sq h ?_ ?_<;>intro h
 ·refine aq 1 ?_
  refine cq 7 [14,15] [.isl false (c_1.Clauses.map an),I x3] 130 ?_
  obtain⟨e4,he4,h⟩:=bS h
  refine oq 146 (.iptr (ar e4) 0) rfl (ap rfl rfl rfl (aY rfl rfl rfl rfl he4)) ?_
  refine cq 5 [20] [B (e4.Id==ek)] 210 ?_
  refine sq h ?_ ?_<;>intro h
  ·refine cq 5 [4] [I x3] 242 ?_
   exact bW rfl (hr _ (aj h) _ (qp [I x3]))
  ·refine aq 1 ?_
   refine cq 6 [5] [I (au (x3+1))] 258 ?_
   refine cW ?_
   exact rf [1,2,5] [1] (ih _ _ h hr hn :)
 ·refine aq 1 ?_
  exact rf [] [] (hn _ (aj h) :) (hk:=hK)
theorem TB (c_1:Contract)(ek:ac)(r:Int)(h:tJ c_1 ek=some r):bz I6 Tryz.f140 [false,false] 0 (Dr (c_1,ek)) (Ds r):=by
 show Run _ _ (QI (c_1,ek) r) [.code QJ] _
 refine rI 22 [(0,aa c_1),(1,str ek)] [] 1 ?_
 unfold tJ at h
 refine ck 11 [2,5] [] [1] [] [.hp 1 0 [] 2 0 0,I (0)] [some ⟨0,2,[aa c_1]⟩] 49 (by kernel_rfl) ?_
 obtain⟨y5,hy5,hy51,hy52⟩:=bJ h
 refine bM rfl ?_
 refine rf [1,2,5] [1] (Lg c_1 ek rfl 0 _ hy5 (fun r' e st hq=>by rw[hy51 r' e] at hq;exact hq) fun u5 hu=>?_)
 replace h:=hy52 u5 hu
 refine cq 4 [4] [I (-1)] 17 ?_
 obtain rfl:=Option.some.inj h
 exact rP [I (-1)]
theorem Gm {G:Go.Ln.Ground}:aP Tryz.prog G 140 tK:=gT 2 0 bC cd Tryz.func140 (fun a r h=>TB a.1 a.2 r h)
noncomputable def C0:Int→List V:=oA I
noncomputable def C1 (r:Bool):V×List V:=(B r,[])
noncomputable def nQ:Ent:=bm [false] C0 C1 fun x=>nP x
theorem sj {ga:Int}{r}(h:nP ga=some r):nQ.F (C0 ga)=some (C1 r):=aG (aH bZ) h
noncomputable def Yt:Code:=aD Tryz.f114
noncomputable def Qg:Env:=bT Tryz.prog [(73,eU)]
noncomputable def Ys (x:Int)(r:Bool):St→Prop:=QF Qg Tryz.f114 [false] (C0 x) (C1 r)
theorem Ti (ga:Int)(r:Bool)(h:nP ga=some r):bz Qg Tryz.f114 [false] 0 (C0 ga) (C1 r):=by
 show Run _ _ (Ys ga r) [.code Yt] _
 refine rI 5 [(0,I ga)] [] 1 ?_
 unfold nP at h
 refine cq 7 [3] [I ga] 33 ?_
 obtain⟨r2,hr2,h⟩:=bS h
 refine oq 49 (B r2) rfl (cP (dT hr2)) ?_
 refine cq 2 [2] [B r2] 65 ?_
 obtain rfl:=Option.some.inj h
 exact rP [B r2]
theorem qI {G:Go.Ln.Ground}:aP Tryz.prog G 114 nQ:=gT 1 0 (aL f7 bC) cd Tryz.func114 (fun a r h=>Ti a r h)
noncomputable def C6:Condition→List V:=oA bg
noncomputable def C7 (r:Bool):V×List V:=(B r,[])
noncomputable def Ah:Ent:=bm [false] C6 C7 fun x=>Af x
theorem Yw {c_1:Condition}{r}(h:Af c_1=some r):Ah.F (C6 c_1)=some (C7 r):=aG (aH cz) h
noncomputable def mN:Code:=aD Tryz.f244
noncomputable abbrev iG:Code:=cR (cR (cR mN))
noncomputable abbrev LQ:Code:=cR (cL (cR (cR (cR (cL (cR (cL (cR (cR mN)))))))))
noncomputable abbrev LR:Code:=cR (cL (cR (cR (cR (cR (cR (cL (cR (cL (cR (cR mN)))))))))))
noncomputable abbrev LS:Code:=cR (cL (cR (cR (cR (cR (cR (cR (cR (cL (cR (cL (cR (cR mN)))))))))))))
noncomputable abbrev LT:Code:=cR (cL (cR (cR (cR (cR (cR (cR (cR (cR (cR (cL (cR (cL (cR (cR mN)))))))))))))))
noncomputable def iE:Env:=bT Tryz.prog [(157,nR),(114,nQ)]
noncomputable def fP (x:Condition)(r:Bool):St→Prop:=QF iE Tryz.f244 [false] (C6 x) (C7 r)
theorem Tm (c_1:Condition)(r:Bool)(h:Af c_1=some r):bz iE Tryz.f244 [false] 0 (C6 c_1) (C7 r):=by
 show Run _ _ (fP c_1 r) [.code mN] _
 refine rI 80 [(0,ah c_1)] [] 1 ?_
 unfold Af at h
 refine ck 9 [1,5] [] [1] [] [.hp 1 0 [] 4 0 0,.isl false (c_1.Parts.map aB)] [some ⟨0,4,[ah c_1]⟩] 65 (by kernel_rfl) ?_
 refine oq 81 (I (len c_1.Parts)) rfl (bd rfl rfl rfl (bw rfl)) ?_
 refine cq 14 [3,8,9] [I (len c_1.Parts),I c_1.Op,B (c_1.Op==1)] 161 ?_
 refine sq h ?_ ?_<;>intro h
 ·refine cq 5 [13] [B ((len c_1.Parts)==0)] 209 ?_
  obtain⟨u2,hu2,h⟩:=lJ h
  have j2:Run iE 0 (fP c_1 r) (.code (cR (cL (cR (cL (cR (cL (cR (cR mN))))))))::.blk 0::.code iG::[]) (sT 80 [(2,B u2)] [] 1):=by
   obtain rfl:=Option.some.inj h
   exact rP [B u2]
  replace h:=hu2
  clear hu2
  refine sp 13 h rfl ?_ ?_<;>intro h
  ·refine cq 5 [18] [B (c_1.Name==([]:ac))] 289 ?_
   obtain⟨u3,hu3,h⟩:=lJ h
   have j3:Run iE 0 (fP c_1 r) (.code (cR (cL (cR (cL (cR (cL (cR (cR mN))))))))::.blk 0::.code iG::[]) (sT 80 [(2,B u3)] [] 1):=by
    subst h
    exact rf [2] [] (j2 :)
   replace h:=hu3
   clear hu3
   refine sp 18 h rfl ?_ ?_<;>intro h
   ·refine cq 6 [2] [B (c_1.Day==0)] 369 ?_
    subst h
    exact rf [2] [] (j3 :)
   ·refine cq 6 [2] [B false] 369 ?_
    subst h
    exact rf [2] [] (j3 :)
  ·refine cq 11 [2] [B false] 369 ?_
   subst h
   exact rf [2] [] (j2 :)
 ·refine cq 5 [23] [B (c_1.Op==2)] 193 ?_
  refine sq h ?_ ?_<;>intro h
  ·refine cq 5 [27] [B ((len c_1.Parts)==0)] 241 ?_
   obtain⟨y4,hy4,hy41,hy42⟩:=bJ h
   have j4:∀u4,y4=.inr u4→Run iE 0 (fP c_1 r) (.code LQ::.blk 0::.code iG::[]) (sT 80 [(2,B u4)] [] 1):=by
    intro u4 hu
    replace h:=hy42 u4 hu
    obtain rfl:=Option.some.inj h
    exact rP [B u4]
   have r4:∀r',y4=.inl r'→∀st,fP c_1 r' st→(fP c_1 r) st:=fun r' e st hq=>by rw[hy41 r' e] at hq;exact hq
   replace h:=hy4
   refine sp 27 h rfl ?_ ?_<;>intro h
   ·refine cq 2 [29] [str c_1.Name] 273 ?_
    obtain⟨r5,hr5,h⟩:=bS h
    refine oy 289 (B r5) rfl (cP (qb hr5)) ?_
    refine cq 2 [32] [B r5] 321 ?_
    obtain⟨u6,hu6,h⟩:=lJ h
    have j6:Run iE 0 (fP c_1 r) (.code LQ::.blk 0::.code iG::[]) (sT 80 [(2,B u6)] [] 1):=by
     exact rf [2] [] (j4 _ (aj h) :)
    replace h:=hu6
    clear hu6
    refine sp 32 h rfl ?_ ?_<;>intro h
    ·refine cq 6 [2] [B (c_1.Day==0)] 401 ?_
     subst h
     exact rf [2] [] (j6 :)
    ·refine cq 6 [2] [B false] 401 ?_
     subst h
     exact rf [2] [] (j6 :)
   ·refine cq 11 [2] [B false] 401 ?_
    exact rf [2] [] (j4 _ (aj h) :)
  ·refine cq 5 [37] [B (c_1.Op==3)] 225 ?_
   refine sq h ?_ ?_<;>intro h
   ·refine cq 5 [41] [B ((len c_1.Parts)==0)] 273 ?_
    obtain⟨y7,hy7,hy71,hy72⟩:=bJ h
    have j7:∀u7,y7=.inr u7→Run iE 0 (fP c_1 r) (.code LR::.blk 0::.code iG::[]) (sT 80 [(2,B u7)] [] 1):=by
     intro u7 hu
     replace h:=hy72 u7 hu
     obtain rfl:=Option.some.inj h
     exact rP [B u7]
    have r7:∀r',y7=.inl r'→∀st,fP c_1 r' st→(fP c_1 r) st:=fun r' e st hq=>by rw[hy71 r' e] at hq;exact hq
    replace h:=hy7
    refine sp 41 h rfl ?_ ?_<;>intro h
    ·refine cq 5 [46] [B (c_1.Name==([]:ac))] 353 ?_
     obtain⟨y8,hy8,hy81,hy82⟩:=bL h
     have j8:∀u8,y8=.inr u8→Run iE 0 (fP c_1 r) (.code LR::.blk 0::.code iG::[]) (sT 80 [(2,B u8)] [] 1):=by
      intro u8 hu
      replace h:=hy82 u8 hu
      exact rf [2] [] (j7 _ (aj h) :)
     have r8:∀r',y8=.inl r'→∀st,fP c_1 r' st→(fP c_1 r) st:=fun r' e st hq=>r7 r' (hy81 r' e) st hq
     replace h:=hy8
     refine sp 46 h rfl ?_ ?_<;>intro h
     ·refine cq 2 [48] [I c_1.Day] 385 ?_
      obtain⟨r9,hr9,h⟩:=bS h
      refine oy 401 (B r9) rfl (cP (sj hr9)) ?_
      refine cq 3 [2] [B r9] 433 ?_
      exact rf [2] [] (j8 _ (aj h) :)
     ·refine cq 6 [2] [B false] 433 ?_
      exact rf [2] [] (j8 _ (aj h) :)
    ·refine cq 11 [2] [B false] 433 ?_
     exact rf [2] [] (j7 _ (aj h) :)
   ·refine cq 5 [51] [B (c_1.Op==4)] 257 ?_
    refine sq h ?_ ?_<;>intro h
    ·refine cq 5 [55] [B ((len c_1.Parts)==1)] 305 ?_
     obtain⟨u10,hu10,h⟩:=lJ h
     have j10:Run iE 0 (fP c_1 r) (.code LS::.blk 0::.code iG::[]) (sT 80 [(2,B u10)] [] 1):=by
      obtain rfl:=Option.some.inj h
      exact rP [B u10]
     replace h:=hu10
     clear hu10
     refine sp 55 h rfl ?_ ?_<;>intro h
     ·refine cq 5 [60] [B (c_1.Name==([]:ac))] 385 ?_
      obtain⟨u11,hu11,h⟩:=lJ h
      have j11:Run iE 0 (fP c_1 r) (.code LS::.blk 0::.code iG::[]) (sT 80 [(2,B u11)] [] 1):=by
       subst h
       exact rf [2] [] (j10 :)
      replace h:=hu11
      clear hu11
      refine sp 60 h rfl ?_ ?_<;>intro h
      ·refine cq 6 [2] [B (c_1.Day==0)] 465 ?_
       subst h
       exact rf [2] [] (j11 :)
      ·refine cq 6 [2] [B false] 465 ?_
       subst h
       exact rf [2] [] (j11 :)
     ·refine cq 11 [2] [B false] 465 ?_
      subst h
      exact rf [2] [] (j10 :)
    ·refine cq 6 [65] [B (c_1.Op==5)] 289 ?_
     obtain⟨u12,hu12,h⟩:=lJ h
     have j12:Run iE 0 (fP c_1 r) (.code (cR (cR (cR (cR (cR (cR (cR (cR (cR (cL (cR (cL (cR (cR mN))))))))))))))::.blk 0::.code iG::[]) (sT 80 [(1,.hp 1 0 [] 4 0 0),(3,I (len c_1.Parts)),(65,B u12)] [⟨0,4,[ah c_1]⟩] 2):=by
      refine sq h ?_ ?_<;>intro h
      ·refine cq 5 [70] [B ((len c_1.Parts)==2)] 50 ?_
       obtain⟨u13,hu13,h⟩:=lJ h
       have j13:Run iE 0 (fP c_1 r) (.code LT::.blk 0::.code iG::[]) (sT 80 [(2,B u13)] [] 1):=by
        obtain rfl:=Option.some.inj h
        exact rP [B u13]
       replace h:=hu13
       clear hu13
       refine sp 70 h rfl ?_ ?_<;>intro h
       ·refine cq 5 [75] [B (c_1.Name==([]:ac))] 130 ?_
        obtain⟨u14,hu14,h⟩:=lJ h
        have j14:Run iE 0 (fP c_1 r) (.code LT::.blk 0::.code iG::[]) (sT 80 [(2,B u14)] [] 1):=by
         subst h
         exact rf [2] [] (j13 :)
        replace h:=hu14
        clear hu14
        refine sp 75 h rfl ?_ ?_<;>intro h
        ·refine cq 6 [2] [B (c_1.Day==0)] 210 ?_
         subst h
         exact rf [2] [] (j14 :)
        ·refine cq 6 [2] [B false] 210 ?_
         subst h
         exact rf [2] [] (j14 :)
       ·refine cq 11 [2] [B false] 210 ?_
        subst h
        exact rf [2] [] (j13 :)
      ·refine aq 1 ?_
       refine cq 5 [2] [B false] 18 ?_
       obtain rfl:=Option.some.inj h
       exact rP [B false]
     replace h:=hu12
     clear hu12
     refine wC h rfl rfl ?_ ?_<;>intro h
     ·refine aq 1 ?_
      subst h
      exact rf [1,3,65] [1] (j12 :)
     ·refine cq 4 [65] [B (c_1.Op==6)] 321 ?_
      subst h
      exact rf [1,3,65] [1] (j12 :)
theorem Qm {G:Go.Ln.Ground}:aP Tryz.prog G 244 Ah:=gT 1 0 (aL qJ (aL qI bC)) cd Tryz.func244 (fun a r h=>Tm a r h)
noncomputable def vA:Condition→List V:=oA bg
noncomputable def vB (r:Bool):V×List V:=(B r,[])
noncomputable def vC (b7:Condition→Option Bool):Ent:=bm [false] vA vB b7
theorem LU (b7:Condition→Option Bool){x}{r}(h:b7 x=some r):(vC b7).F (vA x)=some (vB r):=aG (aH cz) h
noncomputable def Ai:Ent:=vC (aF pZ)
theorem Yx {c_1:Condition}{r}(h:Fu c_1=some r):Ai.F (vA c_1)=some (vB r):=LU (aF pZ) h
noncomputable def Qo:Code:=aD Tryz.f224
noncomputable def IV (b7:Condition→Option Bool):Env:=bT Tryz.prog [(244,Ah),(224,(vC b7))]
noncomputable def Qn (b7:Condition→Option Bool)(x:Condition)(r:Bool):St→Prop:=QF (IV b7) Tryz.f224 [false] (vA x) (vB r)
theorem K8 (b7:Condition→Option Bool)(c_1:Condition):ci (IV b7) 0 (Qn b7 c_1) (cL (cL (cR (cL (cR (cR Qo)))))) 0 (pP b7 c_1) (fun u=>(sT 21 [] [] 1)) fun x3=>(sT 21 [(1,.hp 1 0 [] 4 0 0),(3,I x3)] [⟨0,4,[ah c_1]⟩] 2):=dY (xT b7 c_1) fun {Q K} hK self ih x3 y h hr hn=>by
 unfold ki at h
 refine cq 6 [7,9] [I x3,.isl false (c_1.Parts.map aB)] 50 ?_
 refine oq 66 (I (len c_1.Parts)) rfl (bd rfl rfl rfl (bw rfl)) ?_
 refine cq 2 [11] [B (decide (x3<(len c_1.Parts)))] 82 ?_
 refine sq h ?_ ?_<;>intro h
 ·refine aq 1 ?_
  refine cq 7 [15,16] [.isl false (c_1.Parts.map aB),I x3] 130 ?_
  obtain⟨e4,he4,h⟩:=bS h
  refine oq 146 (.iptr (ah e4) 0) rfl (ap rfl rfl rfl (aY rfl rfl (cr e4) rfl he4)) ?_
  refine cq 1 [18] [ah e4] 162 ?_
  obtain⟨r5,hr5,h⟩:=bS h
  refine oq 178 (B r5) rfl (cG rfl rfl (cY rfl rfl rfl (cy (dw rfl) dP) (LU b7 hr5) (.inr rfl) eh rfl rfl rfl)) ?_
  refine cq 2 [20] [B (!r5)] 194 ?_
  refine sq h ?_ ?_<;>intro h
  ·refine cq 4 [2] [B false] 210 ?_
   exact bW rfl (hr _ (aj h) _ (qp [B false]))
  ·refine aq 1 ?_
   refine cq 6 [3] [I (au (x3+1))] 242 ?_
   refine cW ?_
   exact rf [1,3] [1] (ih _ _ h hr hn :)
 ·refine aq 1 ?_
  exact rf [] [] (hn _ (aj h) :) (hk:=hK)
theorem Tp (b7:Condition→Option Bool)(c_1:Condition)(r:Bool)(h:sr b7 c_1=some r):bz (IV b7) Tryz.f224 [false] 0 (vA c_1) (vB r):=by
 show Run _ _ (Qn b7 c_1 r) [.code Qo] _
 refine rI 21 [(0,ah c_1)] [] 1 ?_
 unfold sr at h
 refine ck 9 [1,4] [] [1] [] [.hp 1 0 [] 4 0 0,ah c_1] [some ⟨0,4,[ah c_1]⟩] 49 (by kernel_rfl) ?_
 obtain⟨r2,hr2,h⟩:=bS h
 refine oq 65 (B r2) rfl (cP (Yw hr2)) ?_
 refine cq 2 [6] [B (!r2)] 81 ?_
 refine sq h ?_ ?_<;>intro h
 ·refine cq 4 [2] [B false] 97 ?_
  obtain rfl:=Option.some.inj h
  exact rP [B false]
 ·refine aq 1 ?_
  refine cq 6 [3] [I (0)] 97 ?_
  obtain⟨y6,hy6,hy61,hy62⟩:=bJ h
  refine bM rfl ?_
  refine rf [1,3] [1] (K8 b7 c_1 rfl 0 _ hy6 (fun r' e st hq=>by rw[hy61 r' e] at hq;exact hq) fun u6 hu=>?_)
  replace h:=hy62 u6 hu
  refine cq 4 [2] [B true] 17 ?_
  obtain rfl:=Option.some.inj h
  exact rP [B true]
theorem Qp {G:Go.Ln.Ground}:aP Tryz.prog G 224 Ai:=iq fun b7 g_Ffde=>gT 1 0 (aL Qm (aL g_Ffde bC)) cd Tryz.func224 (fun a r h=>Tp b7 a r h)
noncomputable def vL:Condition→List V:=oA bg
noncomputable def vM (r:Int):V×List V:=(I r,[])
noncomputable def vN (b9:Condition→Option Int):Ent:=bm [false] vL vM b9
theorem LW (b9:Condition→Option Int){x}{r}(h:b9 x=some r):(vN b9).F (vL x)=some (vM r):=aG (aH cz) h
noncomputable def An:Ent:=vN (aF kn)
theorem YA {c_1:Condition}{r}(h:I2 c_1=some r):An.F (vL c_1)=some (vM r):=LW (aF kn) h
noncomputable def QA:Code:=aD Tryz.f225
noncomputable def I3 (b9:Condition→Option Int):Env:=bT Tryz.prog [(225,(vN b9))]
noncomputable def Qz (b9:Condition→Option Int)(x:Condition)(r:Int):St→Prop:=QF (I3 b9) Tryz.f225 [false] (vL x) (vM r)
theorem Ld (b9:Condition→Option Int)(c_1:Condition):ci (I3 b9) 0 (Qz b9 c_1) (cL (cL (cR (cL (cR (cR QA)))))) 0 (kR b9 c_1) (fun u=>(sT 21 [(3,I u)] [] 1)) fun x2=>(sT 21 [(1,.hp 1 0 [] 4 0 0),(3,I x2.1),(4,I x2.2)] [⟨0,4,[ah c_1]⟩] 2):=dY (xY b9 c_1) fun {Q K} hK self ih x2 y h hr hn=>by
 unfold i9 at h
 refine cq 6 [5,7] [I x2.2,.isl false (c_1.Parts.map aB)] 50 ?_
 refine oq 66 (I (len c_1.Parts)) rfl (bd rfl rfl rfl (bw rfl)) ?_
 refine cq 2 [9] [B (decide (x2.2<(len c_1.Parts)))] 82 ?_
 refine sq h ?_ ?_<;>intro h
 ·refine aq 1 ?_
  refine cq 7 [12,14,15] [I x2.1,.isl false (c_1.Parts.map aB),I x2.2] 146 ?_
  obtain⟨e3,he3,h⟩:=bS h
  refine oq 162 (.iptr (ah e3) 0) rfl (ap rfl rfl rfl (aY rfl rfl (cr e3) rfl he3)) ?_
  refine cq 1 [17] [ah e3] 178 ?_
  obtain⟨r4,hr4,h⟩:=bS h
  refine oq 194 (I r4) rfl (cG rfl rfl (cY rfl rfl rfl (cy (dw rfl) dP) (LW b9 hr4) (.inr rfl) eh rfl rfl rfl)) ?_
  refine cq 9 [3,4] [I (au (x2.1+r4)),I (au (x2.2+1))] 274 ?_
  refine cW ?_
  exact rf [1,3,4] [1] (ih _ _ h hr hn :)
 ·refine aq 1 ?_
  exact rf [3] [] (hn _ (aj h) :) (hk:=hK)
theorem Ty (b9:Condition→Option Int)(c_1:Condition)(r:Int)(h:sB b9 c_1=some r):bz (I3 b9) Tryz.f225 [false] 0 (vL c_1) (vM r):=by
 show Run _ _ (Qz b9 c_1 r) [.code QA] _
 refine rI 21 [(0,ah c_1)] [] 1 ?_
 unfold sB at h
 refine ck 15 [1,3,4] [] [1] [] [.hp 1 0 [] 4 0 0,I (1),I (0)] [some ⟨0,4,[ah c_1]⟩] 65 (by kernel_rfl) ?_
 obtain⟨y5,hy5,hy51,hy52⟩:=bJ h
 refine bM rfl ?_
 refine rf [1,3,4] [1] (Ld b9 c_1 rfl (1,0) _ hy5 (fun r' e st hq=>by rw[hy51 r' e] at hq;exact hq) fun u5 hu=>?_)
 replace h:=hy52 u5 hu
 refine cq 5 [2] [I u5] 33 ?_
 obtain rfl:=Option.some.inj h
 exact rP [I u5]
theorem QB {G:Go.Ln.Ground}:aP Tryz.prog G 225 An:=iq fun b9 g_Ffdl=>gT 1 0 (aL g_Ffdl bC) cd Tryz.func225 (fun a r h=>Ty b9 a r h)
noncomputable def C8:Condition→List V:=oA bg
noncomputable def Da (r:Bool):V×List V:=(B r,[])
noncomputable def Ak:Ent:=bm [false] C8 Da fun x=>Aj x
theorem Yy {c_1:Condition}{r}(h:Aj c_1=some r):Ak.F (C8 c_1)=some (Da r):=aG (aH cz) h
noncomputable def Qq:Code:=aD Tryz.f194
noncomputable def IW:Env:=bT Tryz.prog [(224,Ai),(225,An)]
noncomputable def C9 (x:Condition)(r:Bool):St→Prop:=QF IW Tryz.f194 [false] (C8 x) (Da r)
theorem Tq (c_1:Condition)(r:Bool)(h:Aj c_1=some r):bz IW Tryz.f194 [false] 0 (C8 c_1) (Da r):=by
 show Run _ _ (C9 c_1 r) [.code Qq] _
 refine rI 10 [(0,ah c_1)] [] 1 ?_
 unfold Aj at h
 refine ck 8 [1,3] [] [1] [] [.hp 1 0 [] 4 0 0,ah c_1] [some ⟨0,4,[ah c_1]⟩] 49 (by kernel_rfl) ?_
 obtain⟨r2,hr2,h⟩:=bS h
 refine oq 65 (B r2) rfl (cP (Yx hr2)) ?_
 refine cq 1 [5] [B r2] 81 ?_
 obtain⟨y3,hy3,hy31,hy32⟩:=bJ h
 have j3:∀u3,y3=.inr u3→Run IW 0 (C9 c_1 r) (.code (cR (cR Qq))::[]) (sT 10 [(2,B u3)] [] 1):=by
  intro u3 hu
  replace h:=hy32 u3 hu
  obtain rfl:=Option.some.inj h
  exact rP [B u3]
 have r3:∀r',y3=.inl r'→∀st,C9 c_1 r' st→(C9 c_1 r) st:=fun r' e st hq=>by rw[hy31 r' e] at hq;exact hq
 replace h:=hy3
 refine sp 5 h rfl ?_ ?_<;>intro h
 ·refine cq 1 [6] [ah c_1] 97 ?_
  obtain⟨r4,hr4,h⟩:=bS h
  refine oy 113 (I r4) rfl (cP (YA hr4)) ?_
  refine cq 4 [2] [B (decide (r4≤15))] 161 ?_
  exact rf [2] [] (j3 _ (aj h) :)
 ·refine cq 6 [2] [B false] 161 ?_
  exact rf [2] [] (j3 _ (aj h) :)
theorem Qr {G:Go.Ln.Ground}:aP Tryz.prog G 194 Ak:=gT 1 0 (aL Qp (aL QB bC)) cd Tryz.func194 (fun a r h=>Tq a r h)
noncomputable def Dm:(Contract×Int)→List V:=cA aM (oA I)
noncomputable def Dn (r:Bool):V×List V:=(B r,[])
noncomputable def Ap:Ent:=bm [false,false] Dm Dn fun x=>Ao x.1 x.2
theorem QC {c_1:Contract}{i_2:Int}{r}(h:Ao c_1 i_2=some r):Ap.F (Dm (c_1,i_2))=some (Dn r):=aG (br ba (aH bZ)) h
noncomputable def I4:Code:=aD Tryz.f141
noncomputable abbrev mo:Code:=cR (cR (cR (cR I4)))
noncomputable abbrev pQ:Code:=cR (cL (cR (cR (cR I4))))
noncomputable abbrev sC:Code:=cR mo
noncomputable abbrev wN:Code:=cR (cL mo)
noncomputable abbrev Fv:Code:=cR (cR (cR sC))
noncomputable def gL:Env:=bT Tryz.prog [(157,nR),(73,eU),(140,tK),(194,Ak)]
noncomputable def dH (x:Contract×Int)(r:Bool):St→Prop:=QF gL Tryz.f141 [false,false] (Dm x) (Dn r)
theorem Tz (c_1:Contract)(i_2:Int)(r:Bool)(h:Ao c_1 i_2=some r):bz gL Tryz.f141 [false,false] 0 (Dm (c_1,i_2)) (Dn r):=by
 show Run _ _ (dH (c_1,i_2) r) [.code I4] _
 refine rI 114 [(0,aa c_1),(1,I i_2)] [] 1 ?_
 unfold Ao at h
 refine ck 10 [2,9,10] [] [1] [] [.hp 1 0 [] 2 0 0,.isl false (c_1.Clauses.map an),I i_2] [some ⟨0,2,[aa c_1]⟩] 81 (by kernel_rfl) ?_
 obtain⟨e3,he3,h⟩:=bS h
 refine oq 97 (.iptr (ar e3) 0) rfl (ap rfl rfl rfl (aY rfl rfl rfl rfl he3)) ?_
 refine ck 2 [5,12] [] [113] [] [.hp 113 0 [] 12 0 0,ar e3] [some ⟨0,12,[.agg [str ([]),I (0),I (0),str ([]),I (0),I (0),I (0),str ([]),I (0),.isl true [],I (0),str ([])]]⟩] 129 (by kernel_rfl) ?_
 refine eD 113 [.agg [str ([]),I (0),I (0),str ([]),I (0),I (0),I (0),str ([]),I (0),.usl 4 (([]).map aA),I (0),str ([])]] rfl rfl (aC (fp (aC (.refl _) (aC (.refl _) (aC (.refl _) (aC (.refl _) (aC (.refl _) (aC (.refl _) (aC (.refl _) (aC (.refl _) (aC (.refl _) (aC (.nil _) (aC (.refl _) (aC (.refl _) dM))))))))))))) dM) ?_
 refine ck 6 [14] [] [113] [] [.isl false (c_1.Parties.map str)] [some ⟨2,12,[ar e3]⟩] 177 (by kernel_rfl) ?_
 refine oq 193 (I (len c_1.Parties)) rfl (bd rfl rfl rfl (bw rfl)) ?_
 refine cq 7 [6,17] [I (len c_1.Parties),str e3.Id] 241 ?_
 obtain⟨r4,hr4,h⟩:=bS h
 refine oq 257 (B r4) rfl (cP (qb hr4)) ?_
 refine cq 2 [20] [B (!r4)] 289 ?_
 obtain⟨y5,hy5,hy51,hy52⟩:=bJ h
 have j5:∀u5,y5=.inr u5→Run gL 0 (dH (c_1,i_2) r) (.code pQ::.code mo::[]) (sT 114 [(1,I i_2),(2,.hp 1 0 [] 2 0 0),(5,.hp 2 0 [] 12 0 0),(60,B u5)] [⟨0,2,[aa c_1]⟩,⟨0,12,[ar e3]⟩] 3):=by
  intro u5 hu
  replace h:=hy52 u5 hu
  refine sq h ?_ ?_<;>intro h
  ·refine cq 4 [4] [B false] 19 ?_
   obtain rfl:=Option.some.inj h
   exact rP [B false]
  ·refine aq 1 ?_
   refine cq 5 [62] [I e3.Amount] 35 ?_
   obtain⟨r6,hr6,h⟩:=bS h
   refine oq 51 (B r6) rfl (cP (dT hr6)) ?_
   refine cq 2 [65] [B (!r6)] 83 ?_
   obtain⟨y7,hy7,hy71,hy72⟩:=bJ h
   have j7:∀u7,y7=.inr u7→Run gL 0 (dH (c_1,i_2) r) (.code wN::.code sC::[]) (sT 114 [(1,I i_2),(2,.hp 1 0 [] 2 0 0),(5,.hp 2 0 [] 12 0 0),(85,B u7)] [⟨0,2,[aa c_1]⟩,⟨0,12,[ar e3]⟩] 3):=by
    intro u7 hu
    replace h:=hy72 u7 hu
    refine sq h ?_ ?_<;>intro h
    ·refine cq 4 [4] [B false] 19 ?_
     obtain rfl:=Option.some.inj h
     exact rP [B false]
    ·refine aq 1 ?_
     refine cq 7 [88] [B (e3.Repair==([]:ac))] 51 ?_
     refine sq h ?_ ?_<;>intro h
     ·refine cq 4 [4] [B true] 67 ?_
      obtain rfl:=Option.some.inj h
      exact rP [B true]
     ·refine aq 1 ?_
      refine cq 5 [89,91] [aa c_1,str e3.Repair] 99 ?_
      obtain⟨r8,hr8,h⟩:=bS h
      refine oq 115 (I r8) rfl (cP (I7 hr8)) ?_
      refine cq 7 [7,95] [I r8,B (decide (r8≥0))] 179 ?_
      obtain⟨y9,hy9,hy91,hy92⟩:=bJ h
      have j9:∀u9,y9=.inr u9→Run gL 0 (dH (c_1,i_2) r) (.code Fv::[]) (sT 114 [(4,B u9)] [] 1):=by
       intro u9 hu
       replace h:=hy92 u9 hu
       obtain rfl:=Option.some.inj h
       exact rP [B u9]
      have r9:∀r',y9=.inl r'→∀st,dH (c_1,i_2) r' st→(dH (c_1,i_2) r) st:=fun r' e st hq=>by rw[hy91 r' e] at hq;exact hq
      replace h:=hy9
      refine sp 95 h rfl ?_ ?_<;>intro h
      ·refine cq 5 [100] [B (r8 != i_2)] 259 ?_
       obtain⟨y10,hy10,hy101,hy102⟩:=bL h
       have j10:∀u10,y10=.inr u10→Run gL 0 (dH (c_1,i_2) r) (.code Fv::[]) (sT 114 [(4,B u10)] [] 1):=by
        intro u10 hu
        replace h:=hy102 u10 hu
        exact rf [4] [] (j9 _ (aj h) :)
       have r10:∀r',y10=.inl r'→∀st,dH (c_1,i_2) r' st→(dH (c_1,i_2) r) st:=fun r' e st hq=>r9 r' (hy101 r' e) st hq
       replace h:=hy10
       refine sp 100 h rfl ?_ ?_<;>intro h
       ·refine cq 3 [102,103] [.isl false (c_1.Clauses.map an),I r8] 307 ?_
        obtain⟨e11,he11,h⟩:=bS h
        refine oy 323 (.iptr (ar e11) 0) rfl (ap rfl rfl rfl (aY rfl rfl rfl rfl he11)) ?_
        refine cq 5 [109] [B (e11.Kind==1)] 403 ?_
        obtain⟨u12,hu12,h⟩:=lJ h
        have j12:Run gL 0 (dH (c_1,i_2) r) (.code Fv::[]) (sT 114 [(4,B u12)] [] 1):=by
         exact rf [4] [] (j10 _ (aj h) :)
        replace h:=hu12
        clear hu12
        refine sp 109 h rfl ?_ ?_<;>intro h
        ·refine cq 6 [4] [B (e3.Kind != 3)] 483 ?_
         subst h
         exact rf [4] [] (j12 :)
        ·refine cq 6 [4] [B false] 483 ?_
         subst h
         exact rf [4] [] (j12 :)
       ·refine cq 15 [4] [B false] 483 ?_
        exact rf [4] [] (j10 _ (aj h) :)
      ·refine cq 20 [4] [B false] 483 ?_
       exact rf [4] [] (j9 _ (aj h) :)
   have r7:∀r',y7=.inl r'→∀st,dH (c_1,i_2) r' st→(dH (c_1,i_2) r) st:=fun r' e st hq=>by rw[hy71 r' e] at hq;exact hq
   replace h:=hy7
   refine sp 65 h rfl ?_ ?_<;>intro h
   ·refine cq 21 [85] [B true] 403 ?_
    exact rf [1,2,5,85] [1,2] (j7 _ (aj h) :)
   ·refine cq 2 [67] [I e3.Within] 115 ?_
    obtain⟨r13,hr13,h⟩:=bS h
    refine oy 131 (B r13) rfl (cP (dT hr13)) ?_
    refine cq 3 [71] [B (!r13)] 179 ?_
    obtain⟨u14,hu14,h⟩:=lJ h
    have j14:Run gL 0 (dH (c_1,i_2) r) (.code wN::.code sC::[]) (sT 114 [(1,I i_2),(2,.hp 1 0 [] 2 0 0),(5,.hp 2 0 [] 12 0 0),(85,B u14)] [⟨0,2,[aa c_1]⟩,⟨0,12,[ar e3]⟩] 3):=by
     exact rf [1,2,5,85] [1,2] (j7 _ (aj h) :)
    replace h:=hu14
    clear hu14
    refine sp 71 h rfl ?_ ?_<;>intro h
    ·refine cq 15 [85] [B true] 403 ?_
     subst h
     exact rf [1,2,5,85] [1,2] (j14 :)
    ·refine cq 4 [75] [B (e3.Kind != 1)] 243 ?_
     obtain⟨u15,hu15,h⟩:=lJ h
     have j15:Run gL 0 (dH (c_1,i_2) r) (.code wN::.code sC::[]) (sT 114 [(1,I i_2),(2,.hp 1 0 [] 2 0 0),(5,.hp 2 0 [] 12 0 0),(85,B u15)] [⟨0,2,[aa c_1]⟩,⟨0,12,[ar e3]⟩] 3):=by
      subst h
      exact rf [1,2,5,85] [1,2] (j14 :)
     replace h:=hu15
     clear hu15
     refine sp 75 h rfl ?_ ?_<;>intro h
     ·refine cq 4 [79] [B (e3.Amount != 0)] 307 ?_
      obtain⟨u16,hu16,h⟩:=lJ h
      have j16:Run gL 0 (dH (c_1,i_2) r) (.code wN::.code sC::[]) (sT 114 [(1,I i_2),(2,.hp 1 0 [] 2 0 0),(5,.hp 2 0 [] 12 0 0),(85,B u16)] [⟨0,2,[aa c_1]⟩,⟨0,12,[ar e3]⟩] 3):=by
       subst h
       exact rf [1,2,5,85] [1,2] (j15 :)
      replace h:=hu16
      clear hu16
      refine sp 79 h rfl ?_ ?_<;>intro h
      ·refine cq 7 [85] [B true] 403 ?_
       subst h
       exact rf [1,2,5,85] [1,2] (j16 :)
      ·refine cq 7 [85] [B (e3.Within != 0)] 403 ?_
       subst h
       exact rf [1,2,5,85] [1,2] (j16 :)
     ·refine cq 11 [85] [B false] 403 ?_
      subst h
      exact rf [1,2,5,85] [1,2] (j15 :)
 have r5:∀r',y5=.inl r'→∀st,dH (c_1,i_2) r' st→(dH (c_1,i_2) r) st:=fun r' e st hq=>by rw[hy51 r' e] at hq;exact hq
 replace h:=hy5
 refine sp 20 h rfl ?_ ?_<;>intro h
 ·refine cq 41 [60] [B true] 929 ?_
  exact rf [1,2,5,60] [1,113] (j5 _ (aj h) :)
 ·refine cq 2 [22] [str e3.Action] 321 ?_
  obtain⟨r17,hr17,h⟩:=bS h
  refine oy 337 (B r17) rfl (cP (qb hr17)) ?_
  refine cq 3 [26] [B (!r17)] 385 ?_
  obtain⟨y18,hy18,hy181,hy182⟩:=bL h
  have j18:∀u18,y18=.inr u18→Run gL 0 (dH (c_1,i_2) r) (.code pQ::.code mo::[]) (sT 114 [(1,I i_2),(2,.hp 1 0 [] 2 0 0),(5,.hp 2 0 [] 12 0 0),(60,B u18)] [⟨0,2,[aa c_1]⟩,⟨0,12,[ar e3]⟩] 3):=by
   intro u18 hu
   replace h:=hy182 u18 hu
   exact rf [1,2,5,60] [1,2] (j5 _ (aj h) :)
  have r18:∀r',y18=.inl r'→∀st,dH (c_1,i_2) r' st→(dH (c_1,i_2) r) st:=fun r' e st hq=>r5 r' (hy181 r' e) st hq
  replace h:=hy18
  refine sp 26 h rfl ?_ ?_<;>intro h
  ·refine cq 35 [60] [B true] 929 ?_
   exact rf [1,2,5,60] [1,113] (j18 _ (aj h) :)
  ·refine cq 2 [28] [I e3.Kind] 417 ?_
   obtain⟨r19,hr19,h⟩:=bS h
   refine oy 433 (B r19) rfl (cP (dT hr19)) ?_
   refine cq 3 [32] [B (!r19)] 481 ?_
   obtain⟨y20,hy20,hy201,hy202⟩:=bL h
   have j20:∀u20,y20=.inr u20→Run gL 0 (dH (c_1,i_2) r) (.code pQ::.code mo::[]) (sT 114 [(1,I i_2),(2,.hp 1 0 [] 2 0 0),(5,.hp 2 0 [] 12 0 0),(60,B u20)] [⟨0,2,[aa c_1]⟩,⟨0,12,[ar e3]⟩] 3):=by
    intro u20 hu
    replace h:=hy202 u20 hu
    exact rf [1,2,5,60] [1,2] (j18 _ (aj h) :)
   have r20:∀r',y20=.inl r'→∀st,dH (c_1,i_2) r' st→(dH (c_1,i_2) r) st:=fun r' e st hq=>r18 r' (hy201 r' e) st hq
   replace h:=hy20
   refine sp 32 h rfl ?_ ?_<;>intro h
   ·refine cq 29 [60] [B true] 929 ?_
    exact rf [1,2,5,60] [1,113] (j20 _ (aj h) :)
   ·refine cq 4 [34,36] [I e3.Party,I (au ((len c_1.Parties) - 1))] 545 ?_
    obtain⟨r21,hr21,h⟩:=bS h
    refine oy 561 (B r21) rfl (cP (dT hr21)) ?_
    refine cq 3 [40] [B (!r21)] 609 ?_
    obtain⟨y22,hy22,hy221,hy222⟩:=bL h
    have j22:∀u22,y22=.inr u22→Run gL 0 (dH (c_1,i_2) r) (.code pQ::.code mo::[]) (sT 114 [(1,I i_2),(2,.hp 1 0 [] 2 0 0),(5,.hp 2 0 [] 12 0 0),(60,B u22)] [⟨0,2,[aa c_1]⟩,⟨0,12,[ar e3]⟩] 3):=by
     intro u22 hu
     replace h:=hy222 u22 hu
     exact rf [1,2,5,60] [1,2] (j20 _ (aj h) :)
    have r22:∀r',y22=.inl r'→∀st,dH (c_1,i_2) r' st→(dH (c_1,i_2) r) st:=fun r' e st hq=>r20 r' (hy221 r' e) st hq
    replace h:=hy22
    refine sp 40 h rfl ?_ ?_<;>intro h
    ·refine cq 21 [60] [B true] 929 ?_
     exact rf [1,2,5,60] [1,113] (j22 _ (aj h) :)
    ·refine cq 4 [42,44] [I e3.Other,I (au ((len c_1.Parties) - 1))] 673 ?_
     obtain⟨r23,hr23,h⟩:=bS h
     refine oy 689 (B r23) rfl (cP (dT hr23)) ?_
     refine cq 3 [48] [B (!r23)] 737 ?_
     obtain⟨y24,hy24,hy241,hy242⟩:=bL h
     have j24:∀u24,y24=.inr u24→Run gL 0 (dH (c_1,i_2) r) (.code pQ::.code mo::[]) (sT 114 [(1,I i_2),(2,.hp 1 0 [] 2 0 0),(5,.hp 2 0 [] 12 0 0),(60,B u24)] [⟨0,2,[aa c_1]⟩,⟨0,12,[ar e3]⟩] 3):=by
      intro u24 hu
      replace h:=hy242 u24 hu
      exact rf [1,2,5,60] [1,2] (j22 _ (aj h) :)
     have r24:∀r',y24=.inl r'→∀st,dH (c_1,i_2) r' st→(dH (c_1,i_2) r) st:=fun r' e st hq=>r22 r' (hy241 r' e) st hq
     replace h:=hy24
     refine sp 48 h rfl ?_ ?_<;>intro h
     ·refine cq 13 [60] [B true] 929 ?_
      exact rf [1,2,5,60] [1,113] (j24 _ (aj h) :)
     ·refine cq 7 [55] [B (e3.Party==e3.Other)] 849 ?_
      obtain⟨y25,hy25,hy251,hy252⟩:=bL h
      have j25:∀u25,y25=.inr u25→Run gL 0 (dH (c_1,i_2) r) (.code pQ::.code mo::[]) (sT 114 [(1,I i_2),(2,.hp 1 0 [] 2 0 0),(5,.hp 2 0 [] 12 0 0),(60,B u25)] [⟨0,2,[aa c_1]⟩,⟨0,12,[ar e3]⟩] 3):=by
       intro u25 hu
       replace h:=hy252 u25 hu
       exact rf [1,2,5,60] [1,2] (j24 _ (aj h) :)
      have r25:∀r',y25=.inl r'→∀st,dH (c_1,i_2) r' st→(dH (c_1,i_2) r) st:=fun r' e st hq=>r24 r' (hy251 r' e) st hq
      replace h:=hy25
      refine sp 55 h rfl ?_ ?_<;>intro h
      ·refine cq 6 [60] [B true] 929 ?_
       exact rf [1,2,5,60] [1,113] (j25 _ (aj h) :)
      ·refine cq 2 [57] [ah e3.When] 881 ?_
       obtain⟨r26,hr26,h⟩:=bS h
       refine oy 897 (B r26) rfl (cP (Yy hr26)) ?_
       refine cq 3 [60] [B (!r26)] 929 ?_
       exact rf [1,2,5,60] [1,113] (j25 _ (aj h) :)
theorem QD {G:Go.Ln.Ground}:aP Tryz.prog G 141 Ap:=gT 2 0 (aL qJ (aL f7 (aL Gm (aL Qr bC)))) cd Tryz.func141 (fun a r h=>Tz a.1 a.2 r h)
noncomputable def Dg:((List ac)×ac)→List V:=cA (uW 1 str) (oA str)
noncomputable def Dh (r:(List ac)):V×List V:=(.usl 1 (r.map str),[.dead])
noncomputable def tI:Ent:=bm [true,false] Dg Dh fun x=>vG x.1 x.2
theorem I1 {l_8:List ac}{s_9:ac}{r}(h:vG l_8 s_9=some r):tI.F (Dg (l_8,s_9))=some (Dh r):=aG (br (lm bH) (aH bH)) h
noncomputable def qc:Code:=aD Tryz.f180
noncomputable def vH:Env:=bT Tryz.prog []
noncomputable def sw (x:(List ac)×ac)(r:(List ac)):St→Prop:=QF vH Tryz.f180 [true,false] (Dg x) (Dh r)
theorem Lc (l_8:List ac)(s_9:ac):ci vH 1 (sw (l_8,s_9)) (cL (cL (cL (cR (cR qc))))) 0 (sx l_8 s_9) (fun u=>(sO 45 [(0,.hs 2 0 [] 1 0 (u.2.2.map str).length),(1,str u.1),(5,I u.2.1)] [none,some ⟨0,1,u.2.2.map str⟩] 3)) fun x3=>(sO 45 [(0,.hs 2 0 [] 1 0 (l_8.map str).length),(1,str s_9),(5,I x3)] [none,some ⟨0,1,l_8.map str⟩] 3):=dY (xX l_8 s_9) fun {Q K} hK self ih x3 y h hr hn=>by
 unfold km at h
 refine cq 5 [6,7] [I x3,.hs 2 0 [] 1 0 (l_8.map str).length] 35 ?_
 refine oq 51 (I (len l_8)) rfl (bd rfl rfl rfl (oC (f:=str) (xs:=l_8) rfl rfl)) ?_
 refine cq 2 [10] [B (decide (x3<(len l_8)))] 83 ?_
 obtain⟨y4,hy4,hy41,hy42⟩:=bL h
 have j4:∀u4,y4=.inr u4→Run vH 1 Q (.code (cR (cL (cL (cL (cL (cR (cR qc)))))))::.code (cR (cL (cL (cL (cR (cR qc))))))::.lp (cL (cL (cL (cR (cR qc)))))::.blk 0::K) (sO 45 [(0,.hs 2 0 [] 1 0 (l_8.map str).length),(1,str s_9),(5,I x3),(17,B u4)] [none,some ⟨0,1,l_8.map str⟩] 3):=by
  intro u4 hu
  replace h:=hy42 u4 hu
  refine sq h ?_ ?_<;>intro h
  ·refine aq 1 ?_
   refine cq 7 [5] [I (au (x3+1))] 51 ?_
   refine cW ?_
   exact rg [0,1,5] [52,2] (ih _ _ h hr hn :)
  ·refine aq 1 ?_
   exact rg [0,1,5] [4,2] (hn _ (aj h) :) (hk:=hK)
 have r4:∀r',y4=.inl r'→∀st,sw (l_8,s_9) r' st→Q st:=fun r' e st hq=>hr r' (hy41 r' e) st hq
 replace h:=hy4
 refine sp 10 h rfl ?_ ?_<;>intro h
 ·refine cq 2 [11,12] [.hs 2 0 [] 1 0 (l_8.map str).length,I x3] 115 ?_
  obtain⟨e5,he5,h⟩:=bS h
  refine oy 131 (.hp 2 0 [] 1 (0+Int.toNat x3) 0) rfl (ap rfl rfl rfl (ft (f:=str) (xs:=l_8) rfl rfl rfl he5)) ?_
  refine oy 147 (str e5) rfl (bb rfl (jS (path:=[]) rfl rfl rfl aZ (eL (f:=str) (xs:=l_8) he5) rfl rfl rfl)) ?_
  refine cq 4 [17] [B (Op.bytesLess e5 s_9)] 195 ?_
  exact rg [0,1,5,17] [196,2] (j4 _ (aj h) :)
 ·refine cq 8 [17] [B false] 195 ?_
  exact rg [0,1,5,17] [196,2] (j4 _ (aj h) :)
theorem Tv (l_8:List ac)(s_9:ac)(r:(List ac))(h:vG l_8 s_9=some r):bz vH Tryz.f180 [true,false] 1 (Dg (l_8,s_9)) (Dh r):=by
 show Run _ _ (sw (l_8,s_9) r) [.code qc] _
 refine rI 45 [(0,.hs 1 0 [] 1 0 (l_8.map str).length),(1,str s_9)] [(1,some ⟨0,1,l_8.map str⟩)] 2 ?_
 unfold vG at h
 refine cq 10 [5] [I (0)] 34 ?_
 obtain⟨y6,hy6,hy61,hy62⟩:=bJ h
 refine bM rfl ?_
 refine rg [0,1,5] [35,1] (Lc l_8 s_9 rfl 0 _ hy6 (fun r' e st hq=>by rw[hy61 r' e] at hq;exact hq) fun u6 hu=>?_)
 replace h:=hy62 u6 hu
 refine cq 5 [20,21] [I u6.2.1,.hs 2 0 [] 1 0 (u6.2.2.map str).length] 35 ?_
 refine oq 51 (I (len u6.2.2)) rfl (bd rfl rfl rfl (oC (f:=str) (xs:=u6.2.2) rfl rfl)) ?_
 refine cq 2 [24] [B (decide (u6.2.1<(len u6.2.2)))] 83 ?_
 obtain⟨y7,hy7,hy71,hy72⟩:=bJ h
 have j7:∀u7,y7=.inr u7→Run vH 1 (sw (l_8,s_9) r) (.code (cR (cL (cR (cR (cR qc)))))::.code (cR (cR (cR (cR qc))))::[]) (sO 45 [(0,.hs 2 0 [] 1 0 (u6.2.2.map str).length),(1,str u6.1),(5,I u6.2.1),(31,B u7)] [none,some ⟨0,1,u6.2.2.map str⟩] 3):=by
  intro u7 hu
  replace h:=hy72 u7 hu
  refine sq h ?_ ?_<;>intro h
  ·refine cq 5 [4] [.hs 2 0 [] 1 0 (u6.2.2.map str).length] 35 ?_
   obtain rfl:=Option.some.inj h
   exact bW rfl ⟨_,fin (vs:=[.hs 2 0 [] 1 0 (u6.2.2.map str).length]) rfl (fg (eV rfl (cZ rfl rfl)) ey) rfl (nt rfl (jT rfl) (eT fB)),ni fh⟩
  ·refine aq 1 ?_
   refine aq 1 ?_
   refine eB [0,0,0,6,15,0,32,127,0,0,768,2047,4095] rfl (by decide +kernel) ?_
   refine dq [] [] (.hs 3 0 [] 1 0 0) rfl (d7 rfl (kW (f:=I) (xs:=[]) (z:=str ([])) (es:=[]) (ws:=[]) rfl rfl rfl (by decide) rfl (dB rfl) rfl)) ?_
   refine dk 2 [35,34] [I u6.2.1,.hs 2 0 [] 1 0 (u6.2.2.map str).length] ?_
   obtain⟨s8,hs8,h⟩:=bS h
   refine dq [2] [] (.hs 2 0 [] 1 (0+Int.toNat (0)) (Int.toNat u6.2.1 - Int.toNat (0))) rfl (gq rfl rfl rfl rfl (pc (f:=str) (xs:=u6.2.2) rfl rfl rfl rfl rfl hs8)) ?_
   obtain⟨p9,hp9,h⟩:=bS h
   obtain⟨a10,ha10,h⟩:=bS h
   refine dq [3,2] [3] (.hs 67 0 [] 1 0 (a10.map str).length) rfl (im rfl rfl rfl rfl rfl (lw (path:=[]) (es0:=[]) (f:=str) (xs:=([]:List ac)) (ys:=p9) rfl rfl (xl (path:=[]) (f:=str) (xs:=u6.2.2) rfl rfl aZ hp9 lY) rfl rfl rfl rfl rfl (by decide) kM ha10 rfl po)) ?_ (uI rfl (tY (path:=[]) (f:=str) (xs:=u6.2.2) rfl rfl aZ lY rfl))
   refine dk 1 [38] [str u6.1] ?_
   refine dq [] [] (.hs 99 0 [] 1 0 1) rfl (d7 rfl (kW (f:=I) (xs:=[]) (z:=str ([])) (es:=[str u6.1]) (ws:=[str u6.1]) rfl rfl rfl (by decide) rfl (dB rfl) rfl)) ?_
   obtain⟨a11,ha11,h⟩:=bS h
   refine dq [67,99] [67] (.hs 115 0 [] 1 0 (a11.map str).length) rfl (im rfl rfl rfl rfl rfl (lw (path:=[]) (f:=str) (xs:=a10) (ys:=[u6.1]) rfl rfl (pT rfl rfl rfl) rfl rfl rfl aZ rfl (by decide) kM ha11 rfl po)) ?_ (uI rfl (tY (path:=[]) (f:=str) (xs:=[u6.1]) rfl rfl aZ lY rfl))
   refine dk 2 [42,41] [I u6.2.1,.hs 2 0 [] 1 0 (u6.2.2.map str).length] ?_
   obtain⟨s12,hs12,h⟩:=bS h
   refine dq [2] [] (.hs 2 0 [] 1 (0+Int.toNat u6.2.1) (Int.toNat (len u6.2.2) - Int.toNat u6.2.1)) rfl (gq rfl rfl rfl rfl (pc (f:=str) (xs:=u6.2.2) rfl rfl rfl rfl (Nn rfl) hs12)) ?_
   obtain⟨p13,hp13,h⟩:=bS h
   obtain⟨a14,ha14,h⟩:=bS h
   refine dq [115,2] [115] (.hs 179 0 [] 1 0 (a14.map str).length) rfl (im rfl rfl rfl rfl rfl (lw (path:=[]) (f:=str) (xs:=a11) (ys:=p13) rfl rfl (xl (path:=[]) (f:=str) (xs:=u6.2.2) rfl rfl aZ hp13 lY) rfl rfl rfl aZ rfl (by decide) kM ha14 rfl po)) ?_ (uI rfl (tY (path:=[]) (f:=str) (xs:=u6.2.2) rfl rfl aZ lY rfl))
   refine dk 1 [4] [.hs 179 0 [] 1 0 (a14.map str).length] ?_
   refine de 211 rfl rfl ?_
   obtain rfl:=Option.some.inj h
   exact bW rfl ⟨_,fin (vs:=[.hs 179 0 [] 1 0 (a14.map str).length]) rfl (fg (eV rfl (cZ rfl rfl)) ey) rfl (nt rfl (jT rfl) (eT fB)),ni fh⟩
 have r7:∀r',y7=.inl r'→∀st,sw (l_8,s_9) r' st→(sw (l_8,s_9) r) st:=fun r' e st hq=>by rw[hy71 r' e] at hq;exact hq
 replace h:=hy7
 refine sp 24 h rfl ?_ ?_<;>intro h
 ·refine cq 2 [25,26] [.hs 2 0 [] 1 0 (u6.2.2.map str).length,I u6.2.1] 115 ?_
  obtain⟨e15,he15,h⟩:=bS h
  refine oy 131 (.hp 2 0 [] 1 (0+Int.toNat u6.2.1) 0) rfl (ap rfl rfl rfl (ft (f:=str) (xs:=u6.2.2) rfl rfl rfl he15)) ?_
  refine oy 147 (str e15) rfl (bb rfl (jS (path:=[]) rfl rfl rfl aZ (eL (f:=str) (xs:=u6.2.2) he15) rfl rfl rfl)) ?_
  refine cq 4 [31] [B (e15==u6.1)] 195 ?_
  exact rg [0,1,5,31] [196,2] (j7 _ (aj h) :)
 ·refine cq 8 [31] [B false] 195 ?_
  exact rg [0,1,5,31] [196,2] (j7 _ (aj h) :)
theorem Gl {G:Go.Ln.Ground}:aP Tryz.prog G 180 tI:=gT 2 1 bC cd Tryz.func180 (fun a r h=>Tv a.1 a.2 r h)
noncomputable def vD:((List ac)×Condition)→List V:=cA (uW 1 str) (oA bg)
noncomputable def vE (r:(List ac)):V×List V:=(.usl 1 (r.map str),[.dead])
noncomputable def vF (b8:((List ac)×Condition)→Option (List ac)):Ent:=bm [true,false] vD vE b8
theorem LV (b8:((List ac)×Condition)→Option (List ac)){x}{r}(h:b8 x=some r):(vF b8).F (vD x)=some (vE r):=aG (br (lm bH) (aH cz)) h
noncomputable def Al:Ent:=vF (aF kj)
theorem Qu {l_4:List ac}{c_5:Condition}{r}(h:IZ l_4 c_5=some r):Al.F (vD (l_4,c_5))=some (vE r):=LV (aF kj) h
noncomputable def Qw:Code:=aD Tryz.f179
noncomputable def I0 (b8:((List ac)×Condition)→Option (List ac)):Env:=bT Tryz.prog [(180,tI),(179,(vF b8))]
noncomputable def Qv (b8:((List ac)×Condition)→Option (List ac))(x:(List ac)×Condition)(r:(List ac)):St→Prop:=QF (I0 b8) Tryz.f179 [true,false] (vD x) (vE r)
theorem Lb (b8:((List ac)×Condition)→Option (List ac))(l_4:List ac)(c_5:Condition):ci (I0 b8) 1 (Qv b8 (l_4,c_5)) (cL (cL (cR (cL (cR (cR Qw)))))) 0 (kQ b8 l_4 c_5) (fun u=>(sO 28 [(0,.hs 2 0 [] 1 0 (u.map str).length)] [none,some ⟨0,1,u.map str⟩] 3)) fun x4=>(sO 28 [(0,.hs 2 0 [] 1 0 (x4.2.map str).length),(3,.hp 3 0 [] 4 0 0),(5,I x4.1)] [none,some ⟨0,1,x4.2.map str⟩,some ⟨0,4,[ah c_5]⟩] 4):=dY (xW b8 l_4 c_5) fun {Q K} hK self ih x4 y h hr hn=>by
 unfold i8 at h
 refine cq 6 [13,15] [I x4.1,.isl false (c_5.Parts.map aB)] 52 ?_
 refine oq 68 (I (len c_5.Parts)) rfl (bd rfl rfl rfl (bw rfl)) ?_
 refine cq 2 [17] [B (decide (x4.1<(len c_5.Parts)))] 84 ?_
 refine sq h ?_ ?_<;>intro h
 ·refine aq 1 ?_
  refine cq 7 [20,22,23] [.hs 2 0 [] 1 0 (x4.2.map str).length,.isl false (c_5.Parts.map aB),I x4.1] 148 ?_
  obtain⟨e5,he5,h⟩:=bS h
  refine oq 164 (.iptr (ah e5) 0) rfl (ap rfl rfl rfl (aY rfl rfl (cr e5) rfl he5)) ?_
  refine cq 1 [25] [ah e5] 180 ?_
  obtain⟨r6,hr6,h⟩:=bS h
  refine oq 196 (.hs 180 0 [] 1 0 (r6.map str).length) rfl (cG rfl rfl (cY rfl rfl rfl (nF (mD rfl (gZ (path:=[]) rfl rfl aZ rfl)) (cy (dw rfl) dP)) (LV b8 hr6) (.inr rfl) (lT rfl rfl rfl gp eh) rfl rfl rfl)) ?_
  refine cq 8 [0,5] [.hs 180 0 [] 1 0 (r6.map str).length,I (au (x4.1+1))] 260 ?_
  refine cW ?_
  exact rg [0,3,5] [261,180,3] (ih _ _ h hr hn :)
 ·refine aq 1 ?_
  exact rg [0] [85,2] (hn _ (aj h) :) (hk:=hK)
theorem Tu (b8:((List ac)×Condition)→Option (List ac))(l_4:List ac)(c_5:Condition)(r:(List ac))(h:sv b8 l_4 c_5=some r):bz (I0 b8) Tryz.f179 [true,false] 1 (vD (l_4,c_5)) (vE r):=by
 show Run _ _ (Qv b8 (l_4,c_5) r) [.code Qw] _
 refine rI 28 [(0,.hs 1 0 [] 1 0 (l_4.map str).length),(1,ah c_5)] [(1,some ⟨0,1,l_4.map str⟩)] 2 ?_
 unfold sv at h
 refine ck 12 [3,8] [] [2] [] [.hp 2 0 [] 4 0 0,B (c_5.Op==2)] [some ⟨0,4,[ah c_5]⟩] 82 (by kernel_rfl) ?_
 refine sq h ?_ ?_<;>intro h
 ·refine cq 5 [9,11] [.hs 1 0 [] 1 0 (l_4.map str).length,str c_5.Name] 130 ?_
  obtain⟨r3,hr3,h⟩:=bS h
  refine oq 146 (.hs 130 0 [] 1 0 (r3.map str).length) rfl (cG rfl rfl (cY rfl rfl rfl (nF (mD rfl (gZ (path:=[]) rfl rfl aZ rfl)) (cy (dw rfl) dP)) (I1 hr3) (.inr rfl) (lT rfl rfl rfl gp eh) rfl rfl rfl)) ?_
  refine cq 2 [4] [.hs 130 0 [] 1 0 (r3.map str).length] 162 ?_
  obtain rfl:=Option.some.inj h
  exact bW rfl ⟨_,fin (vs:=[.hs 130 0 [] 1 0 (r3.map str).length]) rfl (fg (eV rfl (cZ rfl rfl)) ey) rfl (nt rfl (jT rfl) (eT fB)),ni fh⟩
 ·refine aq 1 ?_
  refine cq 6 [5] [I (0)] 98 ?_
  obtain⟨y7,hy7,hy71,hy72⟩:=bJ h
  refine bM rfl ?_
  refine rg [0,3,5] [99,1,2] (Lb b8 l_4 c_5 rfl (0,l_4) _ hy7 (fun r' e st hq=>by rw[hy71 r' e] at hq;exact hq) fun u7 hu=>?_)
  replace h:=hy72 u7 hu
  refine cq 5 [4] [.hs 2 0 [] 1 0 (u7.map str).length] 35 ?_
  obtain rfl:=Option.some.inj h
  exact bW rfl ⟨_,fin (vs:=[.hs 2 0 [] 1 0 (u7.map str).length]) rfl (fg (eV rfl (cZ rfl rfl)) ey) rfl (nt rfl (jT rfl) (eT fB)),ni fh⟩
theorem Qx {G:Go.Ln.Ground}:aP Tryz.prog G 179 Al:=iq fun b8 g_Ffdi=>gT 2 1 (aL Gl (aL g_Ffdi bC)) cd Tryz.func179 (fun a r h=>Tu b8 a.1 a.2 r h)
noncomputable def Dx:Contract→List V:=oA aM
noncomputable def Dy (r:(List ac)):V×List V:=(.usl 1 (r.map str),[])
noncomputable def tL:Ent:=bm [false] Dx Dy fun x=>pg x
theorem QL {c_1:Contract}{r}(h:pg c_1=some r):tL.F (Dx c_1)=some (Dy r):=aG (aH ba) h
noncomputable def QN:Code:=aD Tryz.f116
noncomputable def I8:Env:=bT Tryz.prog [(180,tI),(179,Al)]
noncomputable def QM (x:Contract)(r:(List ac)):St→Prop:=QF I8 Tryz.f116 [false] (Dx x) (Dy r)
theorem Li (c_1:Contract):ci I8 0 (QM c_1) (cL (cL (cR (cL (cR (cR QN)))))) 0 (mr c_1) (fun u=>(sT 29 [(3,.hs 1 0 [] 1 0 (u.map str).length)] [⟨0,1,u.map str⟩] 2)) fun x2=>(sT 29 [(1,.hp 1 0 [] 2 0 0),(3,.hs 2 0 [] 1 0 (x2.2.map str).length),(4,I x2.1)] [⟨0,2,[aa c_1]⟩,⟨0,1,x2.2.map str⟩] 3):=dY (ye c_1) fun {Q K} hK self ih x2 y h hr hn=>by
 unfold kq at h
 refine cq 6 [6,8] [I x2.1,.isl false (c_1.Clauses.map an)] 51 ?_
 refine oq 67 (I (len c_1.Clauses)) rfl (bd rfl rfl rfl (bw rfl)) ?_
 refine cq 2 [10] [B (decide (x2.1<(len c_1.Clauses)))] 83 ?_
 refine sq h ?_ ?_<;>intro h
 ·refine aq 1 ?_
  refine aq 2 ?_
  refine eB [0,0,2,0,14,30,62,127,0,256,0,1792,3840,7936,16383,32767] rfl (by decide +kernel) ?_
  refine dk 1 [13] [.hs 2 0 [] 1 0 (x2.2.map str).length] ?_
  refine dq [1] [] (.hp 1 0 [] 2 0 1) rfl (ay rfl rfl rfl) ?_
  refine dq [1] [] (.isl false (c_1.Clauses.map an)) rfl (bb rfl rfl) ?_
  refine dk 1 [16] [I x2.1] ?_
  obtain⟨e3,he3,h⟩:=bS h
  refine dq [] [] (.iptr (ar e3) 0) rfl (ap rfl rfl rfl (aY rfl rfl rfl rfl he3)) ?_
  refine dq [] [] (.iptr (ar e3) 3) rfl (ay rfl rfl rfl) ?_
  refine dq [] [] (str e3.Action) rfl (bb rfl rfl) ?_
  obtain⟨r4,hr4,h⟩:=bS h
  refine dq [2] [2] (.hs 195 0 [] 1 0 (r4.map str).length) rfl (cG rfl rfl (cY rfl rfl rfl (nF (mD rfl (gZ (path:=[]) rfl rfl aZ rfl)) (cy (dw rfl) dP)) (I1 hr4) (.inr rfl) (lT rfl rfl rfl gp eh) rfl rfl rfl)) ?_ (dV rfl rfl rfl rfl (nF (mD rfl (gZ (path:=[]) rfl rfl aZ rfl)) (cy (dw rfl) dP)) (I1 hr4) (.inr rfl) rfl)
  refine dq [1] [] (.hp 1 0 [] 2 0 1) rfl (ay rfl rfl rfl) ?_
  refine dq [1] [] (.isl false (c_1.Clauses.map an)) rfl (bb rfl rfl) ?_
  refine dk 1 [23] [I x2.1] ?_
  obtain⟨e5,he5,h⟩:=bS h
  refine dq [] [] (.iptr (ar e5) 0) rfl (ap rfl rfl rfl (aY rfl rfl rfl rfl he5)) ?_
  refine dq [] [] (.iptr (ar e5) 6) rfl (ay rfl rfl rfl) ?_
  refine dq [] [] (ah e5.When) rfl (bb rfl rfl) ?_
  obtain⟨r6,hr6,h⟩:=bS h
  refine dq [195] [195] (.hs 307 0 [] 1 0 (r6.map str).length) rfl (cG rfl rfl (cY rfl rfl rfl (nF (mD rfl (gZ (path:=[]) rfl rfl aZ rfl)) (cy (dw rfl) dP)) (Qu hr6) (.inr rfl) (lT rfl rfl rfl gp eh) rfl rfl rfl)) ?_ (dV rfl rfl rfl rfl (nF (mD rfl (gZ (path:=[]) rfl rfl aZ rfl)) (cy (dw rfl) dP)) (Qu hr6) (.inr rfl) rfl)
  refine dk 1 [3] [.hs 307 0 [] 1 0 (r6.map str).length] ?_
  refine de 339 rfl rfl ?_
  refine cq 6 [4] [I (au (x2.1+1))] 387 ?_
  refine cW ?_
  exact rf [1,3,4] [1,307] (ih _ _ h hr hn :)
 ·refine aq 1 ?_
  exact rf [3] [2] (hn _ (aj h) :) (hk:=hK)
theorem TD (c_1:Contract)(r:(List ac))(h:pg c_1=some r):bz I8 Tryz.f116 [false] 0 (Dx c_1) (Dy r):=by
 show Run _ _ (QM c_1 r) [.code QN] _
 refine rI 29 [(0,aa c_1)] [] 1 ?_
 unfold pg at h
 refine ck 7 [1] [] [1] [] [.hp 1 0 [] 2 0 0] [some ⟨0,2,[aa c_1]⟩] 33 (by kernel_rfl) ?_
 refine oq 49 (.hs 33 0 [] 1 0 0) rfl (d7 rfl (kW (f:=I) (xs:=[]) (z:=str ([])) (es:=[]) (ws:=[]) rfl rfl rfl (by decide) rfl (dB rfl) rfl)) ?_
 refine cq 8 [3,4] [.hs 33 0 [] 1 0 0,I (0)] 81 ?_
 obtain⟨y7,hy7,hy71,hy72⟩:=bJ h
 refine bM rfl ?_
 refine rf [1,3,4] [1,33] (Li c_1 rfl (0,[]) _ hy7 (fun r' e st hq=>by rw[hy71 r' e] at hq;exact hq) fun u7 hu=>?_)
 replace h:=hy72 u7 hu
 refine cq 5 [2] [.hs 1 0 [] 1 0 (u7.map str).length] 34 ?_
 obtain rfl:=Option.some.inj h
 exact bW rfl ⟨_,fin (vs:=[.hs 1 0 [] 1 0 (u7.map str).length]) rfl (fg (eV rfl (cZ rfl rfl)) ey) rfl (eT fB),fh⟩
theorem Gn {G:Go.Ln.Ground}:aP Tryz.prog G 116 tL:=gT 1 0 (aL Gl (aL Qx bC)) cd Tryz.func116 (fun a r h=>TD a r h)
noncomputable def Dt:Contract→List V:=oA aM
noncomputable def Du (r:Bool):V×List V:=(B r,[])
noncomputable def Av:Ent:=bm [false] Dt Du fun x=>Au x
theorem YC {c_1:Contract}{r}(h:Au c_1=some r):Av.F (Dt c_1)=some (Du r):=aG (aH ba) h
noncomputable def Dv:Code:=aD Tryz.f72
noncomputable abbrev wO:Code:=cL (cL (cR (cL (cR (cR Dv)))))
noncomputable def vO:Env:=bT Tryz.prog [(73,eU),(140,tK),(141,Ap),(116,tL),(139,Aw)]
noncomputable def sF (x:Contract)(r:Bool):St→Prop:=QF vO Tryz.f72 [false] (Dt x) (Du r)
theorem Lh (c_1:Contract):ci vO 0 (sF c_1) wO 0 (kS c_1) (fun u=>(sT 41 [(1,.hp 1 0 [] 2 0 0)] [⟨0,2,[aa c_1]⟩] 2)) fun x4=>(sT 41 [(1,.hp 1 0 [] 2 0 0),(3,I x4)] [⟨0,2,[aa c_1]⟩] 2):=dY (yd c_1) fun {Q K} hK self ih x4 y h hr hn=>by
 unfold ko at h
 refine cq 6 [14,16] [I x4,.isl false (c_1.Clauses.map an)] 50 ?_
 refine oq 66 (I (len c_1.Clauses)) rfl (bd rfl rfl rfl (bw rfl)) ?_
 refine cq 2 [18] [B (decide (x4<(len c_1.Clauses)))] 82 ?_
 refine sq h ?_ ?_<;>intro h
 ·refine aq 1 ?_
  refine aq 3 ?_
  refine eB [0,0,2,0,14,30,62,127,0,511,1023,2047,2047,8191,16383,32767] rfl (by decide +kernel) ?_
  refine dq [1] [] (aa c_1) rfl (bb rfl rfl) ?_
  refine dq [1] [] (.hp 1 0 [] 2 0 1) rfl (ay rfl rfl rfl) ?_
  refine dq [1] [] (.isl false (c_1.Clauses.map an)) rfl (bb rfl rfl) ?_
  refine dk 1 [24] [I x4] ?_
  obtain⟨e5,he5,h⟩:=bS h
  refine dq [] [] (.iptr (ar e5) 0) rfl (ap rfl rfl rfl (aY rfl rfl rfl rfl he5)) ?_
  refine dq [] [] (.iptr (ar e5) 0) rfl (ay rfl rfl rfl) ?_
  refine dq [] [] (str e5.Id) rfl (bb rfl rfl) ?_
  obtain⟨r6,hr6,h⟩:=bS h
  refine dq [] [] (I r6) rfl (cP (I7 hr6)) ?_ (dV rfl rfl rfl rfl (cy (dw rfl) (cy (dw rfl) dP)) (I7 hr6) (.inr rfl) rfl)
  refine dk 3 [31,30,29] [B (r6 != x4),B (r6 != x4),I x4] ?_
  obtain⟨y7,hy7,hy71,hy72⟩:=bL h
  have j7:∀u7,y7=.inr u7→Run vO 0 Q (.code (cR (cL (cL (cR wO))))::.blk 1::.code (cR (cR wO))::.lp wO::.blk 0::K) (sT 41 [(1,.hp 1 0 [] 2 0 0),(3,I x4),(36,B u7)] [⟨0,2,[aa c_1]⟩] 2):=by
   intro u7 hu
   replace h:=hy72 u7 hu
   refine sq h ?_ ?_<;>intro h
   ·refine cq 4 [2] [B false] 18 ?_
    exact bW rfl (hr _ (aj h) _ (qp [B false]))
   ·refine aq 1 ?_
    refine cq 6 [3] [I (au (x4+1))] 50 ?_
    refine cW ?_
    exact rf [1,3] [1] (ih _ _ h hr hn :)
  have r7:∀r',y7=.inl r'→∀st,sF c_1 r' st→Q st:=fun r' e st hq=>hr r' (hy71 r' e) st hq
  replace h:=hy7
  refine sp 31 h rfl ?_ ?_<;>intro h
  ·refine dk 5 [36,35,34,33,32] [B true,.und,.und,.und,.und] ?_
   refine de 338 rfl rfl ?_
   exact rf [1,3,36] [1] (j7 _ (aj h) :)
  ·refine dy [1] [] (aa c_1) rfl (bb rfl rfl) ?_
   refine dk 1 [33] [I x4] ?_
   obtain⟨r8,hr8,h⟩:=bS h
   refine dy [] [] (B r8) rfl (cP (QC hr8)) ?_ (dV rfl rfl rfl rfl (cy (dw rfl) (cy (dw rfl) dP)) (QC hr8) (.inr rfl) rfl)
   refine dk 2 [36,35] [B (!r8),B (!r8)] ?_
   refine de 338 rfl rfl ?_
   exact rf [1,3,36] [1] (j7 _ (aj h) :)
 ·refine aq 1 ?_
  exact rf [1] [1] (hn _ (aj h) :) (hk:=hK)
theorem TC (c_1:Contract)(r:Bool)(h:Au c_1=some r):bz vO Tryz.f72 [false] 0 (Dt c_1) (Du r):=by
 show Run _ _ (sF c_1 r) [.code Dv] _
 refine rI 41 [(0,aa c_1)] [] 1 ?_
 unfold Au at h
 refine ck 10 [1,5] [] [1] [] [.hp 1 0 [] 2 0 0,.isl false (c_1.Clauses.map an)] [some ⟨0,2,[aa c_1]⟩] 65 (by kernel_rfl) ?_
 refine oq 81 (I (len c_1.Clauses)) rfl (bd rfl rfl rfl (bw rfl)) ?_
 obtain⟨r2,hr2,h⟩:=bS h
 refine oq 97 (B r2) rfl (cP (dT hr2)) ?_
 refine cq 2 [9] [B (!r2)] 129 ?_
 obtain⟨y3,hy3,hy31,hy32⟩:=bJ h
 have j3:∀u3,y3=.inr u3→Run vO 0 (sF c_1 r) (.code (cR (cL (cR Dv)))::.code (cR (cR Dv))::[]) (sT 41 [(1,.hp 1 0 [] 2 0 0),(13,B u3)] [⟨0,2,[aa c_1]⟩] 2):=by
  intro u3 hu
  replace h:=hy32 u3 hu
  refine sq h ?_ ?_<;>intro h
  ·refine cq 4 [2] [B false] 18 ?_
   obtain rfl:=Option.some.inj h
   exact rP [B false]
  ·refine aq 1 ?_
   refine cq 6 [3] [I (0)] 18 ?_
   obtain⟨y9,hy9,hy91,hy92⟩:=bJ h
   refine bM rfl ?_
   refine rf [1,3] [1] (Lh c_1 rfl 0 _ hy9 (fun r' e st hq=>by rw[hy91 r' e] at hq;exact hq) fun u9 hu=>?_)
   replace h:=hy92 u9 hu
   refine cq 3 [37] [aa c_1] 18 ?_
   obtain⟨r10,hr10,h⟩:=bS h
   refine oq 34 (.hs 18 0 [] 1 0 (r10.map str).length) rfl (cP (QL hr10)) ?_
   refine oq 50 (I (len r10)) rfl (bd rfl rfl rfl (oC (f:=str) (xs:=r10) rfl rfl)) ?_
   refine cq 3 [2] [B (decide ((len r10)≤16))] 82 ?_
   obtain rfl:=Option.some.inj h
   exact rP [B (decide ((len r10)≤16))]
 have r3:∀r',y3=.inl r'→∀st,sF c_1 r' st→(sF c_1 r) st:=fun r' e st hq=>by rw[hy31 r' e] at hq;exact hq
 replace h:=hy3
 refine sp 9 h rfl ?_ ?_<;>intro h
 ·refine cq 5 [13] [B true] 193 ?_
  exact rf [1,13] [1] (j3 _ (aj h) :)
 ·refine cq 1 [10] [aa c_1] 145 ?_
  obtain⟨r11,hr11,h⟩:=bS h
  refine oy 161 (B r11) rfl (cP (YD hr11)) ?_
  refine cq 3 [13] [B (!r11)] 193 ?_
  exact rf [1,13] [1] (j3 _ (aj h) :)
theorem QK {G:Go.Ln.Ground}:aP Tryz.prog G 72 Av:=gT 1 0 (aL f7 (aL Gm (aL QD (aL Gn (aL QO bC))))) cd Tryz.func72 (fun a r h=>TC a r h)
noncomputable def C3:(List ac)→List V:=oA (fj str)
noncomputable def C5 (r:Bool):V×List V:=(B r,[])
noncomputable def Ae:Ent:=bm [false] C3 C5 fun x=>Ac x
theorem Yv {ao:List ac}{r}(h:Ac ao=some r):Ae.F (C3 ao)=some (C5 r):=aG (aH (bR bH)) h
noncomputable def Qk:Code:=aD Tryz.f115
noncomputable abbrev jF:Code:=cL (cL (cR (cL (cR Qk))))
noncomputable def sn:Env:=bT Tryz.prog [(157,nR)]
noncomputable def C4 (x:(List ac))(r:Bool):St→Prop:=QF sn Tryz.f115 [false] (C3 x) (C5 r)
theorem K7 (ao:List ac):ci sn 0 (C4 ao) jF 0 (hJ ao) (fun u=>(sT 39 [(0,.isl false (ao.map str))] [] 1)) fun x2=>(sT 39 [(0,.isl false (ao.map str)),(3,I x2)] [] 1):=dY (xS ao) fun {Q K} hK self ih x2 y h hr hn=>by
 unfold i7 at h
 refine cq 5 [4,5] [I x2,.isl false (ao.map str)] 33 ?_
 refine oq 49 (I (len ao)) rfl (bd rfl rfl rfl (bw rfl)) ?_
 refine cq 2 [8] [B (decide (x2<(len ao)))] 81 ?_
 obtain⟨u3,hu3,h⟩:=lJ h
 have j3:Run sn 0 Q (.code (cR (cL jF))::.code (cR jF)::.lp jF::.blk 0::K) (sT 39 [(0,.isl false (ao.map str)),(3,I x2),(11,B u3)] [] 1):=by
  refine sq h ?_ ?_<;>intro h
  ·refine aq 1 ?_
   refine aq 3 ?_
   refine eB [0,0,3,7,15,31,63,127,255,511,1023,1023,3071,8191,16383,1023,1023,99327,230399,524287,1048575,2097151] rfl (by decide +kernel) ?_
   refine dk 2 [15,14] [I x2,.isl false (ao.map str)] ?_
   obtain⟨e4,he4,h⟩:=bS h
   refine dq [] [] (.iptr (str e4) 0) rfl (ap rfl rfl rfl (aY rfl rfl rfl rfl he4)) ?_
   refine dq [] [] (str e4) rfl (bb rfl rfl) ?_
   obtain⟨r5,hr5,h⟩:=bS h
   refine dq [] [] (B r5) rfl (cP (qb hr5)) ?_ (dV rfl rfl rfl rfl (cy (dw rfl) dP) (qb hr5) (.inr rfl) rfl)
   refine dk 2 [20,19] [B (!r5),B (!r5)] ?_
   obtain⟨y6,hy6,hy61,hy62⟩:=bL h
   have j6:∀u6,y6=.inr u6→Run sn 0 Q (.code (cR (cL (cL (cR jF))))::.blk 1::.code (cR (cR jF))::.lp jF::.blk 0::K) (sT 39 [(0,.isl false (ao.map str)),(3,I x2),(35,B u6)] [] 1):=by
    intro u6 hu
    replace h:=hy62 u6 hu
    refine sq h ?_ ?_<;>intro h
    ·refine cq 4 [2] [B false] 17 ?_
     exact bW rfl (hr _ (aj h) _ (qp [B false]))
    ·refine aq 1 ?_
     refine cq 6 [3] [I (au (x2+1))] 49 ?_
     refine cW ?_
     exact rf [0,3] [] (ih _ _ h hr hn :)
   have r6:∀r',y6=.inl r'→∀st,C4 ao r' st→Q st:=fun r' e st hq=>hr r' (hy61 r' e) st hq
   replace h:=hy6
   refine sp 20 h rfl ?_ ?_<;>intro h
   ·refine dk 15 [35,34,33,32,31,30,29,28,27,26,25,24,23,22,21] [B true,.und,.und,.und,.und,.und,.und,.und,.und,.und,.und,.und,.und,.und,.und] ?_
    refine de 353 rfl rfl ?_
    exact rf [0,3,35] [] (j6 _ (aj h) :)
   ·refine dk 3 [23,22,21] [B (decide (x2>0)),B (decide (x2>0)),I x2] ?_
    obtain⟨y7,hy7,hy71,hy72⟩:=bL h
    have j7:∀u7,y7=.inr u7→Run sn 0 Q (.code (cR (cL (cL (cR jF))))::.blk 1::.code (cR (cR jF))::.lp jF::.blk 0::K) (sT 39 [(0,.isl false (ao.map str)),(3,I x2),(35,B u7)] [] 1):=by
     intro u7 hu
     replace h:=hy72 u7 hu
     exact rf [0,3,35] [] (j6 _ (aj h) :)
    have r7:∀r',y7=.inl r'→∀st,C4 ao r' st→Q st:=fun r' e st hq=>r6 r' (hy71 r' e) st hq
    replace h:=hy7
    refine sp 23 h rfl ?_ ?_<;>intro h
    ·refine dk 3 [26,25,24] [I (au (x2 - 1)),I x2,.isl false (ao.map str)] ?_
     obtain⟨e8,he8,h⟩:=bS h
     refine dy [] [] (.iptr (str e8) 0) rfl (ap rfl rfl rfl (aY rfl rfl rfl rfl he8)) ?_
     refine dy [] [] (str e8) rfl (bb rfl rfl) ?_
     refine dk 2 [30,29] [I x2,.isl false (ao.map str)] ?_
     obtain⟨e9,he9,h⟩:=bS h
     refine dy [] [] (.iptr (str e9) 0) rfl (ap rfl rfl rfl (aY rfl rfl rfl rfl he9)) ?_
     refine dy [] [] (str e9) rfl (bb rfl rfl) ?_
     refine dk 3 [35,34,33] [B (!(Op.bytesLess e8 e9)),B (!(Op.bytesLess e8 e9)),B (!(Op.bytesLess e8 e9))] ?_
     refine de 353 rfl rfl ?_
     exact rf [0,3,35] [] (j7 _ (aj h) :)
    ·refine dk 12 [35,34,33,32,31,30,29,28,27,26,25,24] [B false,B false,.und,.und,.und,.und,.und,.und,.und,.und,.und,.und] ?_
     refine de 353 rfl rfl ?_
     exact rf [0,3,35] [] (j7 _ (aj h) :)
  ·refine aq 1 ?_
   exact rf [0] [] (hn _ (aj h) :) (hk:=hK)
 replace h:=hu3
 clear hu3
 refine sp 8 h rfl ?_ ?_<;>intro h
 ·refine cq 4 [11] [B (decide (x2≤16))] 129 ?_
  subst h
  exact rf [0,3,11] [] (j3 :)
 ·refine cq 4 [11] [B false] 129 ?_
  subst h
  exact rf [0,3,11] [] (j3 :)
theorem Tl (ao:List ac)(r:Bool)(h:Ac ao=some r):bz sn Tryz.f115 [false] 0 (C3 ao) (C5 r):=by
 show Run _ _ (C4 ao r) [.code Qk] _
 refine rI 39 [(0,.isl false (ao.map str))] [] 1 ?_
 unfold Ac at h
 refine cq 10 [3] [I (0)] 33 ?_
 obtain⟨y10,hy10,hy101,hy102⟩:=bJ h
 refine bM rfl ?_
 refine rf [0,3] [] (K7 ao rfl 0 _ hy10 (fun r' e st hq=>by rw[hy101 r' e] at hq;exact hq) fun u10 hu=>?_)
 replace h:=hy102 u10 hu
 refine cq 3 [36] [.isl false (ao.map str)] 17 ?_
 refine oq 33 (I (len ao)) rfl (bd rfl rfl rfl (bw rfl)) ?_
 refine cq 3 [2] [B (decide ((len ao)≤16))] 65 ?_
 obtain rfl:=Option.some.inj h
 exact rP [B (decide ((len ao)≤16))]
theorem Ql {G:Go.Ln.Ground}:aP Tryz.prog G 115 Ae:=gT 1 0 (aL qJ bC) cd Tryz.func115 (fun a r h=>Tl a r h)
noncomputable def Dp:(Contract×Int)→List V:=cA aM (oA I)
noncomputable def Dq (r:Bool):V×List V:=(B r,[])
noncomputable def Ar:Ent:=bm [false,false] Dp Dq fun x=>Aq x.1 x.2
theorem YB {c_1:Contract}{i_2:Int}{r}(h:Aq c_1 i_2=some r):Ar.F (Dp (c_1,i_2))=some (Dq r):=aG (br ba (aH bZ)) h
noncomputable def QG:Code:=aD Tryz.f181
noncomputable def I5:Env:=bT Tryz.prog []
noncomputable def QE (x:Contract×Int)(r:Bool):St→Prop:=QF I5 Tryz.f181 [false,false] (Dp x) (Dq r)
theorem Lf (c_1:Contract)(i_2:Int):ci I5 0 (QE (c_1,i_2)) (cL (cL (cR (cL (cR QG))))) 0 (sD c_1 i_2) (fun u=>(sT 26 [] [] 1)) fun x3=>(sT 26 [(1,I i_2),(2,.hp 1 0 [] 2 0 0),(5,I x3)] [⟨0,2,[aa c_1]⟩] 2):=dY (xZ c_1 i_2) fun {Q K} hK self ih x3 y h hr hn=>by
 unfold mp at h
 refine cq 6 [6,8] [I x3,.isl false (c_1.Clauses.map an)] 50 ?_
 refine oq 66 (I (len c_1.Clauses)) rfl (bd rfl rfl rfl (bw rfl)) ?_
 refine cq 2 [10] [B (decide (x3<(len c_1.Clauses)))] 82 ?_
 refine sq h ?_ ?_<;>intro h
 ·refine aq 1 ?_
  refine aq 3 ?_
  refine eB [0,1,0,7,15,31,0,64,0,448,960,1984,4095] rfl (by decide +kernel) ?_
  refine dq [1] [] (.hp 1 0 [] 2 0 1) rfl (ay rfl rfl rfl) ?_
  refine dq [1] [] (.isl false (c_1.Clauses.map an)) rfl (bb rfl rfl) ?_
  refine dk 1 [15] [I x3] ?_
  obtain⟨e4,he4,h⟩:=bS h
  refine dq [] [] (.iptr (ar e4) 0) rfl (ap rfl rfl rfl (aY rfl rfl rfl rfl he4)) ?_
  refine dq [] [] (.iptr (ar e4) 11) rfl (ay rfl rfl rfl) ?_
  refine dq [] [] (str e4.Repair) rfl (bb rfl rfl) ?_
  refine dq [1] [] (.hp 1 0 [] 2 0 1) rfl (ay rfl rfl rfl) ?_
  refine dq [1] [] (.isl false (c_1.Clauses.map an)) rfl (bb rfl rfl) ?_
  refine dk 1 [21] [I i_2] ?_
  obtain⟨e5,he5,h⟩:=bS h
  refine dq [] [] (.iptr (ar e5) 0) rfl (ap rfl rfl rfl (aY rfl rfl rfl rfl he5)) ?_
  refine dq [] [] (.iptr (ar e5) 0) rfl (ay rfl rfl rfl) ?_
  refine dq [] [] (str e5.Id) rfl (bb rfl rfl) ?_
  refine dk 1 [25] [B (e4.Repair==e5.Id)] ?_
  refine de 290 rfl rfl ?_
  refine sq h ?_ ?_<;>intro h
  ·refine cq 4 [4] [B true] 306 ?_
   exact bW rfl (hr _ (aj h) _ (qp [B true]))
  ·refine aq 1 ?_
   refine cq 6 [5] [I (au (x3+1))] 338 ?_
   refine cW ?_
   exact rf [1,2,5] [1] (ih _ _ h hr hn :)
 ·refine aq 1 ?_
  exact rf [] [] (hn _ (aj h) :) (hk:=hK)
theorem TA (c_1:Contract)(i_2:Int)(r:Bool)(h:Aq c_1 i_2=some r):bz I5 Tryz.f181 [false,false] 0 (Dp (c_1,i_2)) (Dq r):=by
 show Run _ _ (QE (c_1,i_2) r) [.code QG] _
 refine rI 26 [(0,aa c_1),(1,I i_2)] [] 1 ?_
 unfold Aq at h
 refine ck 11 [2,5] [] [1] [] [.hp 1 0 [] 2 0 0,I (0)] [some ⟨0,2,[aa c_1]⟩] 49 (by kernel_rfl) ?_
 obtain⟨y6,hy6,hy61,hy62⟩:=bJ h
 refine bM rfl ?_
 refine rf [1,2,5] [1] (Lf c_1 i_2 rfl 0 _ hy6 (fun r' e st hq=>by rw[hy61 r' e] at hq;exact hq) fun u6 hu=>?_)
 replace h:=hy62 u6 hu
 refine cq 4 [4] [B false] 17 ?_
 obtain rfl:=Option.some.inj h
 exact rP [B false]
theorem QH {G:Go.Ln.Ground}:aP Tryz.prog G 181 Ar:=gT 2 0 bC cd Tryz.func181 (fun a r h=>TA a.1 a.2 r h)
noncomputable def DE:(State×Int)→List V:=cA bV (oA I)
noncomputable def DG (r:Int):V×List V:=(I r,[])
noncomputable def Az:Ent:=bm [false,false] DE DG fun x=>Ay x.1 x.2
theorem YE {s_1:State}{i_2:Int}{r}(h:Ay s_1 i_2=some r):Az.F (DE (s_1,i_2))=some (DG r):=aG (br dj (aH bZ)) h
noncomputable def QQ:Code:=aD Tryz.f182
noncomputable abbrev Fw:Code:=cL (cL (cR (cL (cR (cR QQ)))))
noncomputable def DF:Env:=bT Tryz.prog []
noncomputable def QP (x:State×Int)(r:Int):St→Prop:=QF DF Tryz.f182 [false,false] (DE x) (DG r)
theorem Ll (s_1:State)(i_2:Int):ci DF 0 (QP (s_1,i_2)) Fw 0 (kT s_1 i_2) (fun u=>(sT 25 [(5,I u)] [] 1)) fun x3=>(sT 25 [(1,I i_2),(2,.hp 1 0 [] 5 0 0),(5,I x3.1),(6,I x3.2)] [⟨0,5,[ai s_1]⟩] 2):=dY (yg s_1 i_2) fun {Q K} hK self ih x3 y h hr hn=>by
 unfold ks at h
 refine cq 6 [7,9] [I x3.2,.isl false (s_1.Duties.map ae)] 50 ?_
 refine oq 66 (I (len s_1.Duties)) rfl (bd rfl rfl rfl (bw rfl)) ?_
 refine cq 2 [11] [B (decide (x3.2<(len s_1.Duties)))] 82 ?_
 refine sq h ?_ ?_<;>intro h
 ·refine aq 1 ?_
  refine cq 7 [15,16] [.isl false (s_1.Duties.map ae),I x3.2] 130 ?_
  obtain⟨e4,he4,h⟩:=bS h
  refine oq 146 (.iptr (ae e4) 0) rfl (ap rfl rfl rfl (aY rfl rfl rfl rfl he4)) ?_
  refine cq 5 [21] [B (e4.Clause==i_2)] 210 ?_
  obtain⟨u5,hu5,h⟩:=lJ h
  have j5:Run DF 0 Q (.blk 1::.code (cR (cR Fw))::.lp Fw::.blk 0::K) (sT 25 [(1,I i_2),(2,.hp 1 0 [] 5 0 0),(5,I u5),(6,I x3.2)] [⟨0,5,[ai s_1]⟩] 2):=by
   refine cq 6 [6] [I (au (x3.2+1))] 50 ?_
   refine cW ?_
   exact rf [1,2,5,6] [1] (ih _ _ h hr hn :)
  replace h:=hu5
  clear hu5
  refine wC h rfl rfl ?_ ?_<;>intro h
  ·refine cq 5 [5] [I (au (x3.1+1))] 258 ?_
   subst h
   exact rf [1,2,5,6] [1] (j5 :)
  ·refine aq 1 ?_
   subst h
   exact rf [1,2,5,6] [1] (j5 :)
 ·refine aq 1 ?_
  exact rf [5] [] (hn _ (aj h) :) (hk:=hK)
theorem TF (s_1:State)(i_2:Int)(r:Int)(h:Ay s_1 i_2=some r):bz DF Tryz.f182 [false,false] 0 (DE (s_1,i_2)) (DG r):=by
 show Run _ _ (QP (s_1,i_2) r) [.code QQ] _
 refine rI 25 [(0,ai s_1),(1,I i_2)] [] 1 ?_
 unfold Ay at h
 refine ck 15 [2,5,6] [] [1] [] [.hp 1 0 [] 5 0 0,I (0),I (0)] [some ⟨0,5,[ai s_1]⟩] 65 (by kernel_rfl) ?_
 obtain⟨y6,hy6,hy61,hy62⟩:=bJ h
 refine bM rfl ?_
 refine rf [1,2,5,6] [1] (Ll s_1 i_2 rfl (0,0) _ hy6 (fun r' e st hq=>by rw[hy61 r' e] at hq;exact hq) fun u6 hu=>?_)
 replace h:=hy62 u6 hu
 refine cq 5 [4] [I u6] 33 ?_
 obtain rfl:=Option.some.inj h
 exact rP [I u6]
theorem QR {G:Go.Ln.Ground}:aP Tryz.prog G 182 Az:=gT 2 0 bC cd Tryz.func182 (fun a r h=>TF a.1 a.2 r h)
noncomputable def DI:(Contract×State×Int)→List V:=cA aM (cA bV (oA I))
noncomputable def DJ (r:Bool):V×List V:=(B r,[])
noncomputable def AC:Ent:=bm [false,false,false] DI DJ fun x=>AB x.1 x.2.1 x.2.2
theorem YF {c_1:Contract}{s_2:State}{k_3:Int}{r}(h:AB c_1 s_2 k_3=some r):AC.F (DI (c_1,s_2,k_3))=some (DJ r):=aG (br ba (br dj (aH bZ))) h
noncomputable def Ja:Code:=aD Tryz.f118
noncomputable abbrev nS:Code:=cR (cR (cR Ja))
noncomputable abbrev sH:Code:=cR (cL (cR (cR Ja)))
noncomputable abbrev dU:Code:=cR nS
noncomputable abbrev dZ:Code:=cR (cL nS)
noncomputable def dI:Env:=bT Tryz.prog [(73,eU),(181,Ar),(182,Az),(114,nQ)]
noncomputable def cF (x:Contract×State×Int)(r:Bool):St→Prop:=QF dI Tryz.f118 [false,false,false] (DI x) (DJ r)
theorem TG (c_1:Contract)(s_2:State)(k_3:Int)(r:Bool)(h:AB c_1 s_2 k_3=some r):bz dI Tryz.f118 [false,false,false] 0 (DI (c_1,s_2,k_3)) (DJ r):=by
 show Run _ _ (cF (c_1,s_2,k_3) r) [.code Ja] _
 refine rI 129 [(0,aa c_1),(1,ai s_2),(2,I k_3)] [] 1 ?_
 unfold AB at h
 refine ck 11 [3,4,9,10] [] [1,17] [] [.hp 1 0 [] 2 0 0,.hp 17 0 [] 5 0 0,.isl false (s_2.Duties.map ae),I k_3] [some ⟨0,2,[aa c_1]⟩,some ⟨0,5,[ai s_2]⟩] 97 (by kernel_rfl) ?_
 obtain⟨e4,he4,h⟩:=bS h
 refine oq 113 (.iptr (ae e4) 0) rfl (ap rfl rfl rfl (aY rfl rfl rfl rfl he4)) ?_
 refine ck 6 [7] [] [129] [] [.hp 129 0 [] 4 0 0] [some ⟨0,4,[ae e4]⟩] 161 (by kernel_rfl) ?_
 refine eB [0,1,0,4,12,28,63,127,255,511,1023,511,2559,8191,16383,32767,65535,131071,262143,524287,1048575,524287,2621439,8388607,16777215,33554431,67108863,134217727,268435455,134217727,671088639,134217727,2281701375,134217727,8724152319,32346472447,66706210815,135425687551,274475253759,549755813887,1099511627775,2199023255551,4398046511103,8796093022207,17592186044415,35184372088831,70368744177663,140737488355327,281474976710655,562949953421311,1125899906842623,2251799813685247,4503599627370495] rfl (by decide +kernel) ?_
 refine dq [129] [] (.hp 129 0 [] 4 0 0) rfl (ay rfl rfl rfl) ?_
 refine dq [129] [] (I e4.Clause) rfl (bb rfl rfl) ?_
 refine dq [1] [] (.hp 1 0 [] 2 0 1) rfl (ay rfl rfl rfl) ?_
 refine dq [1] [] (.isl false (c_1.Clauses.map an)) rfl (bb rfl rfl) ?_
 refine dq [] [] (I (len c_1.Clauses)) rfl (bd rfl rfl rfl (bw rfl)) ?_
 refine dk 1 [18] [I (au ((len c_1.Clauses) - 1))] ?_
 obtain⟨r5,hr5,h⟩:=bS h
 refine dq [] [] (B r5) rfl (cP (dT hr5)) ?_ (dV rfl rfl rfl rfl (cy (dw rfl) (cy (dw rfl) (cy (dw rfl) dP))) (dT hr5) (.inr rfl) rfl)
 refine dk 2 [21,20] [B (!r5),B (!r5)] ?_
 obtain⟨y6,hy6,hy61,hy62⟩:=bJ h
 have j6:∀u6,y6=.inr u6→Run dI 0 (cF (c_1,s_2,k_3) r) (.code sH::.code nS::[]) (sT 129 [(2,I k_3),(3,.hp 1 0 [] 2 0 0),(4,.hp 2 0 [] 5 0 0),(7,.hp 3 0 [] 4 0 0),(65,B u6)] [⟨0,2,[aa c_1]⟩,⟨0,5,[ai s_2]⟩,⟨0,4,[ae e4]⟩] 4):=by
  intro u6 hu
  replace h:=hy62 u6 hu
  refine sq h ?_ ?_<;>intro h
  ·refine cq 4 [6] [B false] 20 ?_
   obtain rfl:=Option.some.inj h
   exact rP [B false]
  ·refine aq 1 ?_
   refine aq 2 ?_
   refine eB [0,1,3,7,15,7,39,127,255,511,7,1031,4095,8191,16383,32767,65535,131071,262143,524287,1048575,524287,2621439,8388607,16777215,33554431,67108863,134217727,268435455,536870911,1073741823,2147483647,4294967295,8589934591,17179869183,34359738367,68719476735,34359738367,171798691839,549755813887,1099511627775,2199023255551,4398046511103,8796093022207,17592186044415,35184372088831,70368744177663,140737488355327,281474976710655,562949953421311,1125899906842623,2251799813685247] rfl (by decide +kernel) ?_
   refine dk 3 [68,67,66] [B (decide (k_3>0)),B (decide (k_3>0)),I k_3] ?_
   obtain⟨y7,hy7,hy71,hy72⟩:=bJ h
   have j7:∀u7,y7=.inr u7→Run dI 0 (cF (c_1,s_2,k_3) r) (.code dZ::.code dU::[]) (sT 129 [(3,.hp 1 0 [] 2 0 0),(4,.hp 2 0 [] 5 0 0),(7,.hp 3 0 [] 4 0 0),(117,B u7)] [⟨0,2,[aa c_1]⟩,⟨0,5,[ai s_2]⟩,⟨0,4,[ae e4]⟩] 4):=by
    intro u7 hu
    replace h:=hy72 u7 hu
    refine sq h ?_ ?_<;>intro h
    ·refine cq 4 [6] [B false] 20 ?_
     obtain rfl:=Option.some.inj h
     exact rP [B false]
    ·refine aq 1 ?_
     refine cq 5 [118,120] [aa c_1,I e4.Clause] 52 ?_
     obtain⟨r8,hr8,h⟩:=bS h
     refine oq 68 (B r8) rfl (cP (YB hr8)) ?_
     refine cq 1 [122] [B r8] 84 ?_
     obtain⟨y9,hy9,hy91,hy92⟩:=bJ h
     have j9:∀u9,y9=.inr u9→Run dI 0 (cF (c_1,s_2,k_3) r) (.code (cR dU)::[]) (sT 129 [(6,B u9)] [] 1):=by
      intro u9 hu
      replace h:=hy92 u9 hu
      obtain rfl:=Option.some.inj h
      exact rP [B u9]
     have r9:∀r',y9=.inl r'→∀st,cF (c_1,s_2,k_3) r' st→(cF (c_1,s_2,k_3) r) st:=fun r' e st hq=>by rw[hy91 r' e] at hq;exact hq
     replace h:=hy9
     refine sp 122 h rfl ?_ ?_<;>intro h
     ·refine cq 8 [6] [B true] 196 ?_
      exact rf [6] [] (j9 _ (aj h) :)
     ·refine cq 3 [123,125] [ai s_2,I e4.Clause] 132 ?_
      obtain⟨r10,hr10,h⟩:=bS h
      refine oy 148 (I r10) rfl (cP (YE hr10)) ?_
      refine cq 4 [6] [B (r10==1)] 196 ?_
      exact rf [6] [] (j9 _ (aj h) :)
   have r7:∀r',y7=.inl r'→∀st,cF (c_1,s_2,k_3) r' st→(cF (c_1,s_2,k_3) r) st:=fun r' e st hq=>by rw[hy71 r' e] at hq;exact hq
   replace h:=hy7
   refine sp 68 h rfl ?_ ?_<;>intro h
   ·refine dy [2] [] (.hp 2 0 [] 5 0 2) rfl (ay rfl rfl rfl) ?_
    refine dy [2] [] (.isl false (s_2.Duties.map ae)) rfl (bb rfl rfl) ?_
    refine dk 2 [72,71] [I (au (k_3 - 1)),I k_3] ?_
    obtain⟨e11,he11,h⟩:=bS h
    refine dy [] [] (.iptr (ae e11) 0) rfl (ap rfl rfl rfl (aY rfl rfl rfl rfl he11)) ?_
    refine dy [] [] (.iptr (ae e11) 1) rfl (ay rfl rfl rfl) ?_
    refine dy [] [] (I e11.Since) rfl (bb rfl rfl) ?_
    refine dy [3] [] (.hp 3 0 [] 4 0 1) rfl (ay rfl rfl rfl) ?_
    refine dy [3] [] (I e4.Since) rfl (bb rfl rfl) ?_
    refine dk 3 [80,79,78] [B (decide (e11.Since>e4.Since)),B (decide (e11.Since>e4.Since)),B (decide (e11.Since>e4.Since))] ?_
    obtain⟨u12,hu12,h⟩:=lJ h
    have j12:Run dI 0 (cF (c_1,s_2,k_3) r) (.code dZ::.code dU::[]) (sT 129 [(3,.hp 1 0 [] 2 0 0),(4,.hp 2 0 [] 5 0 0),(7,.hp 3 0 [] 4 0 0),(117,B u12)] [⟨0,2,[aa c_1]⟩,⟨0,5,[ai s_2]⟩,⟨0,4,[ae e4]⟩] 4):=by
     exact rf [3,4,7,117] [1,2,3] (j7 _ (aj h) :)
    replace h:=hu12
    clear hu12
    refine sp 80 h rfl ?_ ?_<;>intro h
    ·refine dk 37 [117,116,115,114,113,112,111,110,109,108,107,106,105,104,103,102,101,100,99,98,97,96,95,94,93,92,91,90,89,88,87,86,85,84,83,82,81] [B true,.und,.und,.und,.und,.und,.und,.und,.und,B true,B true,.und,.und,.und,.und,.und,.und,.und,.und,.und,.und,B true,B true,.und,.und,.und,.und,.und,.und,.und,.und,.und,.und,.und,.und,.und,.und] ?_
     refine de 836 rfl rfl ?_
     subst h
     exact rf [3,4,7,117] [1,2,3] (j12 :)
    ·refine dy [3] [] (.hp 3 0 [] 4 0 3) rfl (ay rfl rfl rfl) ?_
     refine dy [3] [] (I e4.Status) rfl (bb rfl rfl) ?_
     refine dk 2 [84,83] [B (e4.Status==1),B (e4.Status==1)] ?_
     obtain⟨u13,hu13,h⟩:=lJ h
     have j13:Run dI 0 (cF (c_1,s_2,k_3) r) (.code dZ::.code dU::[]) (sT 129 [(3,.hp 1 0 [] 2 0 0),(4,.hp 2 0 [] 5 0 0),(7,.hp 3 0 [] 4 0 0),(117,B u13)] [⟨0,2,[aa c_1]⟩,⟨0,5,[ai s_2]⟩,⟨0,4,[ae e4]⟩] 4):=by
      subst h
      exact rf [3,4,7,117] [1,2,3] (j12 :)
     replace h:=hu13
     clear hu13
     refine sp 84 h rfl ?_ ?_<;>intro h
     ·refine dy [3] [] (.hp 3 0 [] 4 0 2) rfl (ay rfl rfl rfl) ?_
      refine dy [3] [] (I e4.Due) rfl (bb rfl rfl) ?_
      refine dy [2] [] (.hp 2 0 [] 5 0 0) rfl (ay rfl rfl rfl) ?_
      refine dy [2] [] (I s_2.Day) rfl (bb rfl rfl) ?_
      refine dk 2 [90,89] [B (decide (e4.Due<s_2.Day)),B (decide (e4.Due<s_2.Day))] ?_
      obtain⟨u14,hu14,h⟩:=lJ h
      have j14:Run dI 0 (cF (c_1,s_2,k_3) r) (.code dZ::.code dU::[]) (sT 129 [(3,.hp 1 0 [] 2 0 0),(4,.hp 2 0 [] 5 0 0),(7,.hp 3 0 [] 4 0 0),(117,B u14)] [⟨0,2,[aa c_1]⟩,⟨0,5,[ai s_2]⟩,⟨0,4,[ae e4]⟩] 4):=by
       subst h
       exact rf [3,4,7,117] [1,2,3] (j13 :)
      replace h:=hu14
      clear hu14
      refine sp 90 h rfl ?_ ?_<;>intro h
      ·refine dk 27 [117,116,115,114,113,112,111,110,109,108,107,106,105,104,103,102,101,100,99,98,97,96,95,94,93,92,91] [B true,.und,.und,.und,.und,.und,.und,.und,.und,B true,B true,.und,.und,.und,.und,.und,.und,.und,.und,.und,.und,B true,B true,B true,B true,.und,.und] ?_
       refine de 836 rfl rfl ?_
       subst h
       exact rf [3,4,7,117] [1,2,3] (j14 :)
      ·refine dy [2] [] (.hp 2 0 [] 5 0 4) rfl (ay rfl rfl rfl) ?_
       refine dy [2] [] (B s_2.Over) rfl (bb rfl rfl) ?_
       refine dk 4 [96,95,94,93] [B s_2.Over,B s_2.Over,B s_2.Over,B s_2.Over] ?_
       obtain⟨u15,hu15,h⟩:=lJ h
       have j15:Run dI 0 (cF (c_1,s_2,k_3) r) (.code dZ::.code dU::[]) (sT 129 [(3,.hp 1 0 [] 2 0 0),(4,.hp 2 0 [] 5 0 0),(7,.hp 3 0 [] 4 0 0),(117,B u15)] [⟨0,2,[aa c_1]⟩,⟨0,5,[ai s_2]⟩,⟨0,4,[ae e4]⟩] 4):=by
        subst h
        exact rf [3,4,7,117] [1,2,3] (j14 :)
       replace h:=hu15
       clear hu15
       refine sp 96 h rfl ?_ ?_<;>intro h
       ·refine dk 21 [117,116,115,114,113,112,111,110,109,108,107,106,105,104,103,102,101,100,99,98,97] [B true,.und,.und,.und,.und,.und,.und,.und,.und,B true,B true,.und,.und,.und,.und,.und,.und,.und,.und,.und,.und] ?_
        refine de 836 rfl rfl ?_
        subst h
        exact rf [3,4,7,117] [1,2,3] (j15 :)
       ·refine dy [3] [] (.hp 3 0 [] 4 0 3) rfl (ay rfl rfl rfl) ?_
        refine dy [3] [] (I e4.Status) rfl (bb rfl rfl) ?_
        refine dk 2 [100,99] [B (e4.Status==3),B (e4.Status==3)] ?_
        obtain⟨u16,hu16,h⟩:=lJ h
        have j16:Run dI 0 (cF (c_1,s_2,k_3) r) (.code dZ::.code dU::[]) (sT 129 [(3,.hp 1 0 [] 2 0 0),(4,.hp 2 0 [] 5 0 0),(7,.hp 3 0 [] 4 0 0),(117,B u16)] [⟨0,2,[aa c_1]⟩,⟨0,5,[ai s_2]⟩,⟨0,4,[ae e4]⟩] 4):=by
         subst h
         exact rf [3,4,7,117] [1,2,3] (j15 :)
        replace h:=hu16
        clear hu16
        refine sp 100 h rfl ?_ ?_<;>intro h
        ·refine dy [3] [] (.hp 3 0 [] 4 0 2) rfl (ay rfl rfl rfl) ?_
         refine dy [3] [] (I e4.Due) rfl (bb rfl rfl) ?_
         refine dy [2] [] (.hp 2 0 [] 5 0 0) rfl (ay rfl rfl rfl) ?_
         refine dy [2] [] (I s_2.Day) rfl (bb rfl rfl) ?_
         refine dk 4 [108,107,106,105] [B (decide (e4.Due≥s_2.Day)),B (decide (e4.Due≥s_2.Day)),B (decide (e4.Due≥s_2.Day)),B (decide (e4.Due≥s_2.Day))] ?_
         obtain⟨u17,hu17,h⟩:=lJ h
         have j17:Run dI 0 (cF (c_1,s_2,k_3) r) (.code dZ::.code dU::[]) (sT 129 [(3,.hp 1 0 [] 2 0 0),(4,.hp 2 0 [] 5 0 0),(7,.hp 3 0 [] 4 0 0),(117,B u17)] [⟨0,2,[aa c_1]⟩,⟨0,5,[ai s_2]⟩,⟨0,4,[ae e4]⟩] 4):=by
          subst h
          exact rf [3,4,7,117] [1,2,3] (j16 :)
         replace h:=hu17
         clear hu17
         refine sp 108 h rfl ?_ ?_<;>intro h
         ·refine dk 9 [117,116,115,114,113,112,111,110,109] [B true,.und,.und,.und,.und,.und,.und,.und,.und] ?_
          refine de 836 rfl rfl ?_
          subst h
          exact rf [3,4,7,117] [1,2,3] (j17 :)
         ·refine dy [3] [] (.hp 3 0 [] 4 0 3) rfl (ay rfl rfl rfl) ?_
          refine dy [3] [] (I e4.Status) rfl (bb rfl rfl) ?_
          refine dk 2 [112,111] [B (e4.Status==4),B (e4.Status==4)] ?_
          obtain⟨u18,hu18,h⟩:=lJ h
          have j18:Run dI 0 (cF (c_1,s_2,k_3) r) (.code dZ::.code dU::[]) (sT 129 [(3,.hp 1 0 [] 2 0 0),(4,.hp 2 0 [] 5 0 0),(7,.hp 3 0 [] 4 0 0),(117,B u18)] [⟨0,2,[aa c_1]⟩,⟨0,5,[ai s_2]⟩,⟨0,4,[ae e4]⟩] 4):=by
           subst h
           exact rf [3,4,7,117] [1,2,3] (j17 :)
          replace h:=hu18
          clear hu18
          refine sp 112 h rfl ?_ ?_<;>intro h
          ·refine dy [2] [] (.hp 2 0 [] 5 0 4) rfl (ay rfl rfl rfl) ?_
           refine dy [2] [] (B s_2.Over) rfl (bb rfl rfl) ?_
           refine dk 3 [117,116,115] [B (!s_2.Over),B (!s_2.Over),B (!s_2.Over)] ?_
           refine de 836 rfl rfl ?_
           subst h
           exact rf [3,4,7,117] [1,2,3] (j18 :)
          ·refine dk 5 [117,116,115,114,113] [B false,B false,.und,.und,.und] ?_
           refine de 836 rfl rfl ?_
           subst h
           exact rf [3,4,7,117] [1,2,3] (j18 :)
        ·refine dk 8 [108,107,106,105,104,103,102,101] [B false,B false,B false,.und,.und,.und,.und,.und] ?_
         refine dy [3] [] (.hp 3 0 [] 4 0 3) rfl (ay rfl rfl rfl) ?_
         refine dy [3] [] (I e4.Status) rfl (bb rfl rfl) ?_
         refine dk 2 [112,111] [B (e4.Status==4),B (e4.Status==4)] ?_
         obtain⟨u19,hu19,h⟩:=lJ h
         have j19:Run dI 0 (cF (c_1,s_2,k_3) r) (.code dZ::.code dU::[]) (sT 129 [(3,.hp 1 0 [] 2 0 0),(4,.hp 2 0 [] 5 0 0),(7,.hp 3 0 [] 4 0 0),(117,B u19)] [⟨0,2,[aa c_1]⟩,⟨0,5,[ai s_2]⟩,⟨0,4,[ae e4]⟩] 4):=by
          subst h
          exact rf [3,4,7,117] [1,2,3] (j16 :)
         replace h:=hu19
         clear hu19
         refine sp 112 h rfl ?_ ?_<;>intro h
         ·refine dy [2] [] (.hp 2 0 [] 5 0 4) rfl (ay rfl rfl rfl) ?_
          refine dy [2] [] (B s_2.Over) rfl (bb rfl rfl) ?_
          refine dk 3 [117,116,115] [B (!s_2.Over),B (!s_2.Over),B (!s_2.Over)] ?_
          refine de 836 rfl rfl ?_
          subst h
          exact rf [3,4,7,117] [1,2,3] (j19 :)
         ·refine dk 5 [117,116,115,114,113] [B false,B false,.und,.und,.und] ?_
          refine de 836 rfl rfl ?_
          subst h
          exact rf [3,4,7,117] [1,2,3] (j19 :)
     ·refine dk 12 [96,95,94,93,92,91,90,89,88,87,86,85] [B false,B false,B false,.und,.und,.und,.und,.und,.und,.und,.und,.und] ?_
      refine dy [3] [] (.hp 3 0 [] 4 0 3) rfl (ay rfl rfl rfl) ?_
      refine dy [3] [] (I e4.Status) rfl (bb rfl rfl) ?_
      refine dk 2 [100,99] [B (e4.Status==3),B (e4.Status==3)] ?_
      obtain⟨u20,hu20,h⟩:=lJ h
      have j20:Run dI 0 (cF (c_1,s_2,k_3) r) (.code dZ::.code dU::[]) (sT 129 [(3,.hp 1 0 [] 2 0 0),(4,.hp 2 0 [] 5 0 0),(7,.hp 3 0 [] 4 0 0),(117,B u20)] [⟨0,2,[aa c_1]⟩,⟨0,5,[ai s_2]⟩,⟨0,4,[ae e4]⟩] 4):=by
       subst h
       exact rf [3,4,7,117] [1,2,3] (j13 :)
      replace h:=hu20
      clear hu20
      refine sp 100 h rfl ?_ ?_<;>intro h
      ·refine dy [3] [] (.hp 3 0 [] 4 0 2) rfl (ay rfl rfl rfl) ?_
       refine dy [3] [] (I e4.Due) rfl (bb rfl rfl) ?_
       refine dy [2] [] (.hp 2 0 [] 5 0 0) rfl (ay rfl rfl rfl) ?_
       refine dy [2] [] (I s_2.Day) rfl (bb rfl rfl) ?_
       refine dk 4 [108,107,106,105] [B (decide (e4.Due≥s_2.Day)),B (decide (e4.Due≥s_2.Day)),B (decide (e4.Due≥s_2.Day)),B (decide (e4.Due≥s_2.Day))] ?_
       obtain⟨u21,hu21,h⟩:=lJ h
       have j21:Run dI 0 (cF (c_1,s_2,k_3) r) (.code dZ::.code dU::[]) (sT 129 [(3,.hp 1 0 [] 2 0 0),(4,.hp 2 0 [] 5 0 0),(7,.hp 3 0 [] 4 0 0),(117,B u21)] [⟨0,2,[aa c_1]⟩,⟨0,5,[ai s_2]⟩,⟨0,4,[ae e4]⟩] 4):=by
        subst h
        exact rf [3,4,7,117] [1,2,3] (j20 :)
       replace h:=hu21
       clear hu21
       refine sp 108 h rfl ?_ ?_<;>intro h
       ·refine dk 9 [117,116,115,114,113,112,111,110,109] [B true,.und,.und,.und,.und,.und,.und,.und,.und] ?_
        refine de 836 rfl rfl ?_
        subst h
        exact rf [3,4,7,117] [1,2,3] (j21 :)
       ·refine dy [3] [] (.hp 3 0 [] 4 0 3) rfl (ay rfl rfl rfl) ?_
        refine dy [3] [] (I e4.Status) rfl (bb rfl rfl) ?_
        refine dk 2 [112,111] [B (e4.Status==4),B (e4.Status==4)] ?_
        obtain⟨u22,hu22,h⟩:=lJ h
        have j22:Run dI 0 (cF (c_1,s_2,k_3) r) (.code dZ::.code dU::[]) (sT 129 [(3,.hp 1 0 [] 2 0 0),(4,.hp 2 0 [] 5 0 0),(7,.hp 3 0 [] 4 0 0),(117,B u22)] [⟨0,2,[aa c_1]⟩,⟨0,5,[ai s_2]⟩,⟨0,4,[ae e4]⟩] 4):=by
         subst h
         exact rf [3,4,7,117] [1,2,3] (j21 :)
        replace h:=hu22
        clear hu22
        refine sp 112 h rfl ?_ ?_<;>intro h
        ·refine dy [2] [] (.hp 2 0 [] 5 0 4) rfl (ay rfl rfl rfl) ?_
         refine dy [2] [] (B s_2.Over) rfl (bb rfl rfl) ?_
         refine dk 3 [117,116,115] [B (!s_2.Over),B (!s_2.Over),B (!s_2.Over)] ?_
         refine de 836 rfl rfl ?_
         subst h
         exact rf [3,4,7,117] [1,2,3] (j22 :)
        ·refine dk 5 [117,116,115,114,113] [B false,B false,.und,.und,.und] ?_
         refine de 836 rfl rfl ?_
         subst h
         exact rf [3,4,7,117] [1,2,3] (j22 :)
      ·refine dk 8 [108,107,106,105,104,103,102,101] [B false,B false,B false,.und,.und,.und,.und,.und] ?_
       refine dy [3] [] (.hp 3 0 [] 4 0 3) rfl (ay rfl rfl rfl) ?_
       refine dy [3] [] (I e4.Status) rfl (bb rfl rfl) ?_
       refine dk 2 [112,111] [B (e4.Status==4),B (e4.Status==4)] ?_
       obtain⟨u23,hu23,h⟩:=lJ h
       have j23:Run dI 0 (cF (c_1,s_2,k_3) r) (.code dZ::.code dU::[]) (sT 129 [(3,.hp 1 0 [] 2 0 0),(4,.hp 2 0 [] 5 0 0),(7,.hp 3 0 [] 4 0 0),(117,B u23)] [⟨0,2,[aa c_1]⟩,⟨0,5,[ai s_2]⟩,⟨0,4,[ae e4]⟩] 4):=by
        subst h
        exact rf [3,4,7,117] [1,2,3] (j20 :)
       replace h:=hu23
       clear hu23
       refine sp 112 h rfl ?_ ?_<;>intro h
       ·refine dy [2] [] (.hp 2 0 [] 5 0 4) rfl (ay rfl rfl rfl) ?_
        refine dy [2] [] (B s_2.Over) rfl (bb rfl rfl) ?_
        refine dk 3 [117,116,115] [B (!s_2.Over),B (!s_2.Over),B (!s_2.Over)] ?_
        refine de 836 rfl rfl ?_
        subst h
        exact rf [3,4,7,117] [1,2,3] (j23 :)
       ·refine dk 5 [117,116,115,114,113] [B false,B false,.und,.und,.und] ?_
        refine de 836 rfl rfl ?_
        subst h
        exact rf [3,4,7,117] [1,2,3] (j23 :)
   ·refine dk 12 [80,79,78,77,76,75,74,73,72,71,70,69] [B false,B false,.und,.und,.und,.und,.und,.und,.und,.und,.und,.und] ?_
    refine dy [3] [] (.hp 3 0 [] 4 0 3) rfl (ay rfl rfl rfl) ?_
    refine dy [3] [] (I e4.Status) rfl (bb rfl rfl) ?_
    refine dk 2 [84,83] [B (e4.Status==1),B (e4.Status==1)] ?_
    obtain⟨u24,hu24,h⟩:=lJ h
    have j24:Run dI 0 (cF (c_1,s_2,k_3) r) (.code dZ::.code dU::[]) (sT 129 [(3,.hp 1 0 [] 2 0 0),(4,.hp 2 0 [] 5 0 0),(7,.hp 3 0 [] 4 0 0),(117,B u24)] [⟨0,2,[aa c_1]⟩,⟨0,5,[ai s_2]⟩,⟨0,4,[ae e4]⟩] 4):=by
     exact rf [3,4,7,117] [1,2,3] (j7 _ (aj h) :)
    replace h:=hu24
    clear hu24
    refine sp 84 h rfl ?_ ?_<;>intro h
    ·refine dy [3] [] (.hp 3 0 [] 4 0 2) rfl (ay rfl rfl rfl) ?_
     refine dy [3] [] (I e4.Due) rfl (bb rfl rfl) ?_
     refine dy [2] [] (.hp 2 0 [] 5 0 0) rfl (ay rfl rfl rfl) ?_
     refine dy [2] [] (I s_2.Day) rfl (bb rfl rfl) ?_
     refine dk 2 [90,89] [B (decide (e4.Due<s_2.Day)),B (decide (e4.Due<s_2.Day))] ?_
     obtain⟨u25,hu25,h⟩:=lJ h
     have j25:Run dI 0 (cF (c_1,s_2,k_3) r) (.code dZ::.code dU::[]) (sT 129 [(3,.hp 1 0 [] 2 0 0),(4,.hp 2 0 [] 5 0 0),(7,.hp 3 0 [] 4 0 0),(117,B u25)] [⟨0,2,[aa c_1]⟩,⟨0,5,[ai s_2]⟩,⟨0,4,[ae e4]⟩] 4):=by
      subst h
      exact rf [3,4,7,117] [1,2,3] (j24 :)
     replace h:=hu25
     clear hu25
     refine sp 90 h rfl ?_ ?_<;>intro h
     ·refine dk 27 [117,116,115,114,113,112,111,110,109,108,107,106,105,104,103,102,101,100,99,98,97,96,95,94,93,92,91] [B true,.und,.und,.und,.und,.und,.und,.und,.und,B true,B true,.und,.und,.und,.und,.und,.und,.und,.und,.und,.und,B true,B true,B true,B true,.und,.und] ?_
      refine de 836 rfl rfl ?_
      subst h
      exact rf [3,4,7,117] [1,2,3] (j25 :)
     ·refine dy [2] [] (.hp 2 0 [] 5 0 4) rfl (ay rfl rfl rfl) ?_
      refine dy [2] [] (B s_2.Over) rfl (bb rfl rfl) ?_
      refine dk 4 [96,95,94,93] [B s_2.Over,B s_2.Over,B s_2.Over,B s_2.Over] ?_
      obtain⟨u26,hu26,h⟩:=lJ h
      have j26:Run dI 0 (cF (c_1,s_2,k_3) r) (.code dZ::.code dU::[]) (sT 129 [(3,.hp 1 0 [] 2 0 0),(4,.hp 2 0 [] 5 0 0),(7,.hp 3 0 [] 4 0 0),(117,B u26)] [⟨0,2,[aa c_1]⟩,⟨0,5,[ai s_2]⟩,⟨0,4,[ae e4]⟩] 4):=by
       subst h
       exact rf [3,4,7,117] [1,2,3] (j25 :)
      replace h:=hu26
      clear hu26
      refine sp 96 h rfl ?_ ?_<;>intro h
      ·refine dk 21 [117,116,115,114,113,112,111,110,109,108,107,106,105,104,103,102,101,100,99,98,97] [B true,.und,.und,.und,.und,.und,.und,.und,.und,B true,B true,.und,.und,.und,.und,.und,.und,.und,.und,.und,.und] ?_
       refine de 836 rfl rfl ?_
       subst h
       exact rf [3,4,7,117] [1,2,3] (j26 :)
      ·refine dy [3] [] (.hp 3 0 [] 4 0 3) rfl (ay rfl rfl rfl) ?_
       refine dy [3] [] (I e4.Status) rfl (bb rfl rfl) ?_
       refine dk 2 [100,99] [B (e4.Status==3),B (e4.Status==3)] ?_
       obtain⟨u27,hu27,h⟩:=lJ h
       have j27:Run dI 0 (cF (c_1,s_2,k_3) r) (.code dZ::.code dU::[]) (sT 129 [(3,.hp 1 0 [] 2 0 0),(4,.hp 2 0 [] 5 0 0),(7,.hp 3 0 [] 4 0 0),(117,B u27)] [⟨0,2,[aa c_1]⟩,⟨0,5,[ai s_2]⟩,⟨0,4,[ae e4]⟩] 4):=by
        subst h
        exact rf [3,4,7,117] [1,2,3] (j26 :)
       replace h:=hu27
       clear hu27
       refine sp 100 h rfl ?_ ?_<;>intro h
       ·refine dy [3] [] (.hp 3 0 [] 4 0 2) rfl (ay rfl rfl rfl) ?_
        refine dy [3] [] (I e4.Due) rfl (bb rfl rfl) ?_
        refine dy [2] [] (.hp 2 0 [] 5 0 0) rfl (ay rfl rfl rfl) ?_
        refine dy [2] [] (I s_2.Day) rfl (bb rfl rfl) ?_
        refine dk 4 [108,107,106,105] [B (decide (e4.Due≥s_2.Day)),B (decide (e4.Due≥s_2.Day)),B (decide (e4.Due≥s_2.Day)),B (decide (e4.Due≥s_2.Day))] ?_
        obtain⟨u28,hu28,h⟩:=lJ h
        have j28:Run dI 0 (cF (c_1,s_2,k_3) r) (.code dZ::.code dU::[]) (sT 129 [(3,.hp 1 0 [] 2 0 0),(4,.hp 2 0 [] 5 0 0),(7,.hp 3 0 [] 4 0 0),(117,B u28)] [⟨0,2,[aa c_1]⟩,⟨0,5,[ai s_2]⟩,⟨0,4,[ae e4]⟩] 4):=by
         subst h
         exact rf [3,4,7,117] [1,2,3] (j27 :)
        replace h:=hu28
        clear hu28
        refine sp 108 h rfl ?_ ?_<;>intro h
        ·refine dk 9 [117,116,115,114,113,112,111,110,109] [B true,.und,.und,.und,.und,.und,.und,.und,.und] ?_
         refine de 836 rfl rfl ?_
         subst h
         exact rf [3,4,7,117] [1,2,3] (j28 :)
        ·refine dy [3] [] (.hp 3 0 [] 4 0 3) rfl (ay rfl rfl rfl) ?_
         refine dy [3] [] (I e4.Status) rfl (bb rfl rfl) ?_
         refine dk 2 [112,111] [B (e4.Status==4),B (e4.Status==4)] ?_
         obtain⟨u29,hu29,h⟩:=lJ h
         have j29:Run dI 0 (cF (c_1,s_2,k_3) r) (.code dZ::.code dU::[]) (sT 129 [(3,.hp 1 0 [] 2 0 0),(4,.hp 2 0 [] 5 0 0),(7,.hp 3 0 [] 4 0 0),(117,B u29)] [⟨0,2,[aa c_1]⟩,⟨0,5,[ai s_2]⟩,⟨0,4,[ae e4]⟩] 4):=by
          subst h
          exact rf [3,4,7,117] [1,2,3] (j28 :)
         replace h:=hu29
         clear hu29
         refine sp 112 h rfl ?_ ?_<;>intro h
         ·refine dy [2] [] (.hp 2 0 [] 5 0 4) rfl (ay rfl rfl rfl) ?_
          refine dy [2] [] (B s_2.Over) rfl (bb rfl rfl) ?_
          refine dk 3 [117,116,115] [B (!s_2.Over),B (!s_2.Over),B (!s_2.Over)] ?_
          refine de 836 rfl rfl ?_
          subst h
          exact rf [3,4,7,117] [1,2,3] (j29 :)
         ·refine dk 5 [117,116,115,114,113] [B false,B false,.und,.und,.und] ?_
          refine de 836 rfl rfl ?_
          subst h
          exact rf [3,4,7,117] [1,2,3] (j29 :)
       ·refine dk 8 [108,107,106,105,104,103,102,101] [B false,B false,B false,.und,.und,.und,.und,.und] ?_
        refine dy [3] [] (.hp 3 0 [] 4 0 3) rfl (ay rfl rfl rfl) ?_
        refine dy [3] [] (I e4.Status) rfl (bb rfl rfl) ?_
        refine dk 2 [112,111] [B (e4.Status==4),B (e4.Status==4)] ?_
        obtain⟨u30,hu30,h⟩:=lJ h
        have j30:Run dI 0 (cF (c_1,s_2,k_3) r) (.code dZ::.code dU::[]) (sT 129 [(3,.hp 1 0 [] 2 0 0),(4,.hp 2 0 [] 5 0 0),(7,.hp 3 0 [] 4 0 0),(117,B u30)] [⟨0,2,[aa c_1]⟩,⟨0,5,[ai s_2]⟩,⟨0,4,[ae e4]⟩] 4):=by
         subst h
         exact rf [3,4,7,117] [1,2,3] (j27 :)
        replace h:=hu30
        clear hu30
        refine sp 112 h rfl ?_ ?_<;>intro h
        ·refine dy [2] [] (.hp 2 0 [] 5 0 4) rfl (ay rfl rfl rfl) ?_
         refine dy [2] [] (B s_2.Over) rfl (bb rfl rfl) ?_
         refine dk 3 [117,116,115] [B (!s_2.Over),B (!s_2.Over),B (!s_2.Over)] ?_
         refine de 836 rfl rfl ?_
         subst h
         exact rf [3,4,7,117] [1,2,3] (j30 :)
        ·refine dk 5 [117,116,115,114,113] [B false,B false,.und,.und,.und] ?_
         refine de 836 rfl rfl ?_
         subst h
         exact rf [3,4,7,117] [1,2,3] (j30 :)
    ·refine dk 12 [96,95,94,93,92,91,90,89,88,87,86,85] [B false,B false,B false,.und,.und,.und,.und,.und,.und,.und,.und,.und] ?_
     refine dy [3] [] (.hp 3 0 [] 4 0 3) rfl (ay rfl rfl rfl) ?_
     refine dy [3] [] (I e4.Status) rfl (bb rfl rfl) ?_
     refine dk 2 [100,99] [B (e4.Status==3),B (e4.Status==3)] ?_
     obtain⟨u31,hu31,h⟩:=lJ h
     have j31:Run dI 0 (cF (c_1,s_2,k_3) r) (.code dZ::.code dU::[]) (sT 129 [(3,.hp 1 0 [] 2 0 0),(4,.hp 2 0 [] 5 0 0),(7,.hp 3 0 [] 4 0 0),(117,B u31)] [⟨0,2,[aa c_1]⟩,⟨0,5,[ai s_2]⟩,⟨0,4,[ae e4]⟩] 4):=by
      subst h
      exact rf [3,4,7,117] [1,2,3] (j24 :)
     replace h:=hu31
     clear hu31
     refine sp 100 h rfl ?_ ?_<;>intro h
     ·refine dy [3] [] (.hp 3 0 [] 4 0 2) rfl (ay rfl rfl rfl) ?_
      refine dy [3] [] (I e4.Due) rfl (bb rfl rfl) ?_
      refine dy [2] [] (.hp 2 0 [] 5 0 0) rfl (ay rfl rfl rfl) ?_
      refine dy [2] [] (I s_2.Day) rfl (bb rfl rfl) ?_
      refine dk 4 [108,107,106,105] [B (decide (e4.Due≥s_2.Day)),B (decide (e4.Due≥s_2.Day)),B (decide (e4.Due≥s_2.Day)),B (decide (e4.Due≥s_2.Day))] ?_
      obtain⟨u32,hu32,h⟩:=lJ h
      have j32:Run dI 0 (cF (c_1,s_2,k_3) r) (.code dZ::.code dU::[]) (sT 129 [(3,.hp 1 0 [] 2 0 0),(4,.hp 2 0 [] 5 0 0),(7,.hp 3 0 [] 4 0 0),(117,B u32)] [⟨0,2,[aa c_1]⟩,⟨0,5,[ai s_2]⟩,⟨0,4,[ae e4]⟩] 4):=by
       subst h
       exact rf [3,4,7,117] [1,2,3] (j31 :)
      replace h:=hu32
      clear hu32
      refine sp 108 h rfl ?_ ?_<;>intro h
      ·refine dk 9 [117,116,115,114,113,112,111,110,109] [B true,.und,.und,.und,.und,.und,.und,.und,.und] ?_
       refine de 836 rfl rfl ?_
       subst h
       exact rf [3,4,7,117] [1,2,3] (j32 :)
      ·refine dy [3] [] (.hp 3 0 [] 4 0 3) rfl (ay rfl rfl rfl) ?_
       refine dy [3] [] (I e4.Status) rfl (bb rfl rfl) ?_
       refine dk 2 [112,111] [B (e4.Status==4),B (e4.Status==4)] ?_
       obtain⟨u33,hu33,h⟩:=lJ h
       have j33:Run dI 0 (cF (c_1,s_2,k_3) r) (.code dZ::.code dU::[]) (sT 129 [(3,.hp 1 0 [] 2 0 0),(4,.hp 2 0 [] 5 0 0),(7,.hp 3 0 [] 4 0 0),(117,B u33)] [⟨0,2,[aa c_1]⟩,⟨0,5,[ai s_2]⟩,⟨0,4,[ae e4]⟩] 4):=by
        subst h
        exact rf [3,4,7,117] [1,2,3] (j32 :)
       replace h:=hu33
       clear hu33
       refine sp 112 h rfl ?_ ?_<;>intro h
       ·refine dy [2] [] (.hp 2 0 [] 5 0 4) rfl (ay rfl rfl rfl) ?_
        refine dy [2] [] (B s_2.Over) rfl (bb rfl rfl) ?_
        refine dk 3 [117,116,115] [B (!s_2.Over),B (!s_2.Over),B (!s_2.Over)] ?_
        refine de 836 rfl rfl ?_
        subst h
        exact rf [3,4,7,117] [1,2,3] (j33 :)
       ·refine dk 5 [117,116,115,114,113] [B false,B false,.und,.und,.und] ?_
        refine de 836 rfl rfl ?_
        subst h
        exact rf [3,4,7,117] [1,2,3] (j33 :)
     ·refine dk 8 [108,107,106,105,104,103,102,101] [B false,B false,B false,.und,.und,.und,.und,.und] ?_
      refine dy [3] [] (.hp 3 0 [] 4 0 3) rfl (ay rfl rfl rfl) ?_
      refine dy [3] [] (I e4.Status) rfl (bb rfl rfl) ?_
      refine dk 2 [112,111] [B (e4.Status==4),B (e4.Status==4)] ?_
      obtain⟨u34,hu34,h⟩:=lJ h
      have j34:Run dI 0 (cF (c_1,s_2,k_3) r) (.code dZ::.code dU::[]) (sT 129 [(3,.hp 1 0 [] 2 0 0),(4,.hp 2 0 [] 5 0 0),(7,.hp 3 0 [] 4 0 0),(117,B u34)] [⟨0,2,[aa c_1]⟩,⟨0,5,[ai s_2]⟩,⟨0,4,[ae e4]⟩] 4):=by
       subst h
       exact rf [3,4,7,117] [1,2,3] (j31 :)
      replace h:=hu34
      clear hu34
      refine sp 112 h rfl ?_ ?_<;>intro h
      ·refine dy [2] [] (.hp 2 0 [] 5 0 4) rfl (ay rfl rfl rfl) ?_
       refine dy [2] [] (B s_2.Over) rfl (bb rfl rfl) ?_
       refine dk 3 [117,116,115] [B (!s_2.Over),B (!s_2.Over),B (!s_2.Over)] ?_
       refine de 836 rfl rfl ?_
       subst h
       exact rf [3,4,7,117] [1,2,3] (j34 :)
      ·refine dk 5 [117,116,115,114,113] [B false,B false,.und,.und,.und] ?_
       refine de 836 rfl rfl ?_
       subst h
       exact rf [3,4,7,117] [1,2,3] (j34 :)
 have r6:∀r',y6=.inl r'→∀st,cF (c_1,s_2,k_3) r' st→(cF (c_1,s_2,k_3) r) st:=fun r' e st hq=>by rw[hy61 r' e] at hq;exact hq
 replace h:=hy6
 refine sp 21 h rfl ?_ ?_<;>intro h
 ·refine dk 44 [65,64,63,62,61,60,59,58,57,56,55,54,53,52,51,50,49,48,47,46,45,44,43,42,41,40,39,38,37,36,35,34,33,32,31,30,29,28,27,26,25,24,23,22] [B true,.und,.und,.und,.und,B true,B true,.und,.und,.und,.und,B true,B true,.und,.und,.und,.und,.und,.und,.und,.und,.und,.und,.und,.und,.und,B true,B true,.und,.und,.und,.und,.und,.und,B true,B true,.und,.und,.und,.und,.und,.und,.und,.und] ?_
  refine de 1009 rfl rfl ?_
  exact rf [2,3,4,7,65] [1,17,129] (j6 _ (aj h) :)
 ·refine dy [1] [] (.hp 1 0 [] 2 0 1) rfl (ay rfl rfl rfl) ?_
  refine dy [1] [] (.isl false (c_1.Clauses.map an)) rfl (bb rfl rfl) ?_
  refine dy [129] [] (.hp 129 0 [] 4 0 0) rfl (ay rfl rfl rfl) ?_
  refine dy [129] [] (I e4.Clause) rfl (bb rfl rfl) ?_
  obtain⟨e35,he35,h⟩:=bS h
  refine dy [] [] (.iptr (ar e35) 0) rfl (ap rfl rfl rfl (aY rfl rfl rfl rfl he35)) ?_
  refine dy [] [] (.iptr (ar e35) 1) rfl (ay rfl rfl rfl) ?_
  refine dy [] [] (I e35.Kind) rfl (bb rfl rfl) ?_
  refine dk 3 [31,30,29] [B (e35.Kind != 1),B (e35.Kind != 1),B (e35.Kind != 1)] ?_
  obtain⟨y36,hy36,hy361,hy362⟩:=bL h
  have j36:∀u36,y36=.inr u36→Run dI 0 (cF (c_1,s_2,k_3) r) (.code sH::.code nS::[]) (sT 129 [(2,I k_3),(3,.hp 1 0 [] 2 0 0),(4,.hp 2 0 [] 5 0 0),(7,.hp 3 0 [] 4 0 0),(65,B u36)] [⟨0,2,[aa c_1]⟩,⟨0,5,[ai s_2]⟩,⟨0,4,[ae e4]⟩] 4):=by
   intro u36 hu
   replace h:=hy362 u36 hu
   exact rf [2,3,4,7,65] [1,2,3] (j6 _ (aj h) :)
  have r36:∀r',y36=.inl r'→∀st,cF (c_1,s_2,k_3) r' st→(cF (c_1,s_2,k_3) r) st:=fun r' e st hq=>r6 r' (hy361 r' e) st hq
  replace h:=hy36
  refine sp 31 h rfl ?_ ?_<;>intro h
  ·refine dk 34 [65,64,63,62,61,60,59,58,57,56,55,54,53,52,51,50,49,48,47,46,45,44,43,42,41,40,39,38,37,36,35,34,33,32] [B true,.und,.und,.und,.und,B true,B true,.und,.und,.und,.und,B true,B true,.und,.und,.und,.und,.und,.und,.und,.und,.und,.und,.und,.und,.und,B true,B true,.und,.und,.und,.und,.und,.und] ?_
   refine de 1009 rfl rfl ?_
   exact rf [2,3,4,7,65] [1,17,129] (j36 _ (aj h) :)
  ·refine dy [129] [] (.hp 129 0 [] 4 0 1) rfl (ay rfl rfl rfl) ?_
   refine dy [129] [] (I e4.Since) rfl (bb rfl rfl) ?_
   refine dy [17] [] (.hp 17 0 [] 5 0 0) rfl (ay rfl rfl rfl) ?_
   refine dy [17] [] (I s_2.Day) rfl (bb rfl rfl) ?_
   obtain⟨r37,hr37,h⟩:=bS h
   refine dy [] [] (B r37) rfl (cP (dT hr37)) ?_ (dV rfl rfl rfl rfl (cy (dw rfl) (cy (dw rfl) (cy (dw rfl) dP))) (dT hr37) (.inr rfl) rfl)
   refine dk 3 [39,38,37] [B (!r37),B (!r37),B (!r37)] ?_
   obtain⟨y38,hy38,hy381,hy382⟩:=bL h
   have j38:∀u38,y38=.inr u38→Run dI 0 (cF (c_1,s_2,k_3) r) (.code sH::.code nS::[]) (sT 129 [(2,I k_3),(3,.hp 1 0 [] 2 0 0),(4,.hp 2 0 [] 5 0 0),(7,.hp 3 0 [] 4 0 0),(65,B u38)] [⟨0,2,[aa c_1]⟩,⟨0,5,[ai s_2]⟩,⟨0,4,[ae e4]⟩] 4):=by
    intro u38 hu
    replace h:=hy382 u38 hu
    exact rf [2,3,4,7,65] [1,2,3] (j36 _ (aj h) :)
   have r38:∀r',y38=.inl r'→∀st,cF (c_1,s_2,k_3) r' st→(cF (c_1,s_2,k_3) r) st:=fun r' e st hq=>r36 r' (hy381 r' e) st hq
   replace h:=hy38
   refine sp 39 h rfl ?_ ?_<;>intro h
   ·refine dk 26 [65,64,63,62,61,60,59,58,57,56,55,54,53,52,51,50,49,48,47,46,45,44,43,42,41,40] [B true,.und,.und,.und,.und,B true,B true,.und,.und,.und,.und,B true,B true,.und,.und,.und,.und,.und,.und,.und,.und,.und,.und,.und,.und,.und] ?_
    refine de 1009 rfl rfl ?_
    exact rf [2,3,4,7,65] [1,17,129] (j38 _ (aj h) :)
   ·refine dy [129] [] (.hp 129 0 [] 4 0 2) rfl (ay rfl rfl rfl) ?_
    refine dy [129] [] (I e4.Due) rfl (bb rfl rfl) ?_
    refine dy [129] [] (.hp 129 0 [] 4 0 1) rfl (ay rfl rfl rfl) ?_
    refine dy [129] [] (I e4.Since) rfl (bb rfl rfl) ?_
    refine dy [1] [] (.hp 1 0 [] 2 0 1) rfl (ay rfl rfl rfl) ?_
    refine dy [1] [] (.isl false (c_1.Clauses.map an)) rfl (bb rfl rfl) ?_
    refine dy [129] [] (.hp 129 0 [] 4 0 0) rfl (ay rfl rfl rfl) ?_
    refine dy [129] [] (I e4.Clause) rfl (bb rfl rfl) ?_
    obtain⟨e39,he39,h⟩:=bS h
    refine dy [] [] (.iptr (ar e39) 0) rfl (ap rfl rfl rfl (aY rfl rfl rfl rfl he39)) ?_
    refine dy [] [] (.iptr (ar e39) 10) rfl (ay rfl rfl rfl) ?_
    refine dy [] [] (I e39.Within) rfl (bb rfl rfl) ?_
    refine dk 4 [54,53,52,51] [B (e4.Due != (au (e4.Since+e39.Within))),B (e4.Due != (au (e4.Since+e39.Within))),B (e4.Due != (au (e4.Since+e39.Within))),I (au (e4.Since+e39.Within))] ?_
    obtain⟨y40,hy40,hy401,hy402⟩:=bL h
    have j40:∀u40,y40=.inr u40→Run dI 0 (cF (c_1,s_2,k_3) r) (.code sH::.code nS::[]) (sT 129 [(2,I k_3),(3,.hp 1 0 [] 2 0 0),(4,.hp 2 0 [] 5 0 0),(7,.hp 3 0 [] 4 0 0),(65,B u40)] [⟨0,2,[aa c_1]⟩,⟨0,5,[ai s_2]⟩,⟨0,4,[ae e4]⟩] 4):=by
     intro u40 hu
     replace h:=hy402 u40 hu
     exact rf [2,3,4,7,65] [1,2,3] (j38 _ (aj h) :)
    have r40:∀r',y40=.inl r'→∀st,cF (c_1,s_2,k_3) r' st→(cF (c_1,s_2,k_3) r) st:=fun r' e st hq=>r38 r' (hy401 r' e) st hq
    replace h:=hy40
    refine sp 54 h rfl ?_ ?_<;>intro h
    ·refine dk 11 [65,64,63,62,61,60,59,58,57,56,55] [B true,.und,.und,.und,.und,B true,B true,.und,.und,.und,.und] ?_
     refine de 1009 rfl rfl ?_
     exact rf [2,3,4,7,65] [1,17,129] (j40 _ (aj h) :)
    ·refine dy [129] [] (.hp 129 0 [] 4 0 2) rfl (ay rfl rfl rfl) ?_
     refine dy [129] [] (I e4.Due) rfl (bb rfl rfl) ?_
     obtain⟨r41,hr41,h⟩:=bS h
     refine dy [] [] (B r41) rfl (cP (sj hr41)) ?_ (dV rfl rfl rfl rfl (cy (dw rfl) dP) (sj hr41) (.inr rfl) rfl)
     refine dk 3 [60,59,58] [B (!r41),B (!r41),B (!r41)] ?_
     obtain⟨y42,hy42,hy421,hy422⟩:=bL h
     have j42:∀u42,y42=.inr u42→Run dI 0 (cF (c_1,s_2,k_3) r) (.code sH::.code nS::[]) (sT 129 [(2,I k_3),(3,.hp 1 0 [] 2 0 0),(4,.hp 2 0 [] 5 0 0),(7,.hp 3 0 [] 4 0 0),(65,B u42)] [⟨0,2,[aa c_1]⟩,⟨0,5,[ai s_2]⟩,⟨0,4,[ae e4]⟩] 4):=by
      intro u42 hu
      replace h:=hy422 u42 hu
      exact rf [2,3,4,7,65] [1,2,3] (j40 _ (aj h) :)
     have r42:∀r',y42=.inl r'→∀st,cF (c_1,s_2,k_3) r' st→(cF (c_1,s_2,k_3) r) st:=fun r' e st hq=>r40 r' (hy421 r' e) st hq
     replace h:=hy42
     refine sp 60 h rfl ?_ ?_<;>intro h
     ·refine dk 5 [65,64,63,62,61] [B true,.und,.und,.und,.und] ?_
      refine de 1009 rfl rfl ?_
      exact rf [2,3,4,7,65] [1,17,129] (j42 _ (aj h) :)
     ·refine dy [129] [] (.hp 129 0 [] 4 0 3) rfl (ay rfl rfl rfl) ?_
      refine dy [129] [] (I e4.Status) rfl (bb rfl rfl) ?_
      obtain⟨r43,hr43,h⟩:=bS h
      refine dy [] [] (B r43) rfl (cP (dT hr43)) ?_ (dV rfl rfl rfl rfl (cy (dw rfl) (cy (dw rfl) (cy (dw rfl) dP))) (dT hr43) (.inr rfl) rfl)
      refine dk 2 [65,64] [B (!r43),B (!r43)] ?_
      refine de 1009 rfl rfl ?_
      exact rf [2,3,4,7,65] [1,17,129] (j42 _ (aj h) :)
theorem QS {G:Go.Ln.Ground}:aP Tryz.prog G 118 AC:=gT 3 0 (aL f7 (aL QH (aL QR (aL qI bC)))) cd Tryz.func118 (fun a r h=>TG a.1 a.2.1 a.2.2 r h)
noncomputable def CV:Int→List V:=oA I
noncomputable def CW (r:Bool):V×List V:=(B r,[])
noncomputable def zZ:Ent:=bm [false] CV CW fun x=>zY x
theorem Yo {x_1:Int}{r}(h:zY x_1=some r):zZ.F (CV x_1)=some (CW r):=aG (aH bZ) h
noncomputable def Yq:Code:=aD Tryz.f119
noncomputable def Qb:Env:=bT Tryz.prog [(73,eU)]
noncomputable def Yp (x:Int)(r:Bool):St→Prop:=QF Qb Tryz.f119 [false] (CV x) (CW r)
theorem Tf (x_1:Int)(r:Bool)(h:zY x_1=some r):bz Qb Tryz.f119 [false] 0 (CV x_1) (CW r):=by
 show Run _ _ (Yp x_1 r) [.code Yq] _
 refine rI 5 [(0,I x_1)] [] 1 ?_
 unfold zY at h
 refine cq 7 [3] [I x_1] 33 ?_
 obtain⟨r2,hr2,h⟩:=bS h
 refine oq 49 (B r2) rfl (cP (dT hr2)) ?_
 refine cq 2 [2] [B r2] 65 ?_
 obtain rfl:=Option.some.inj h
 exact rP [B r2]
theorem Qc {G:Go.Ln.Ground}:aP Tryz.prog G 119 zZ:=gT 1 0 (aL f7 bC) cd Tryz.func119 (fun a r h=>Tf a r h)
noncomputable def CX:(List Int)→List V:=oA (fj I)
noncomputable def CY (r:Int):V×List V:=(I r,[])
noncomputable def Aa:Ent:=bm [false] CX CY fun x=>tE x
theorem Yr {ao:List Int}{r}(h:tE ao=some r):Aa.F (CX ao)=some (CY r):=aG (aH (bR bZ)) h
noncomputable def Qe:Code:=aD Tryz.f120
noncomputable def IR:Env:=bT Tryz.prog []
noncomputable def Qd (x:(List Int))(r:Int):St→Prop:=QF IR Tryz.f120 [false] (CX x) (CY r)
theorem K5 (ao:List Int):ci IR 0 (Qd ao) (cL (cL (cR (cL (cR (cR Qe)))))) 0 (jE ao) (fun u=>(sT 18 [(3,I u)] [] 1)) fun x2=>(sT 18 [(0,.isl false (ao.map I)),(3,I x2.1),(4,I x2.2)] [] 1):=dY (xQ ao) fun {Q K} hK self ih x2 y h hr hn=>by
 unfold kg at h
 refine cq 5 [5,6] [I x2.2,.isl false (ao.map I)] 33 ?_
 refine oq 49 (I (len ao)) rfl (bd rfl rfl rfl (bw rfl)) ?_
 refine cq 2 [8] [B (decide (x2.2<(len ao)))] 65 ?_
 refine sq h ?_ ?_<;>intro h
 ·refine aq 1 ?_
  refine cq 6 [11,12,13] [I x2.1,.isl false (ao.map I),I x2.2] 113 ?_
  obtain⟨e3,he3,h⟩:=bS h
  refine oq 129 (.iptr (I e3) 0) rfl (ap rfl rfl rfl (aY rfl rfl rfl rfl he3)) ?_
  refine cq 10 [3,4] [I (au (x2.1+e3)),I (au (x2.2+1))] 225 ?_
  refine cW ?_
  exact rf [0,3,4] [] (ih _ _ h hr hn :)
 ·refine aq 1 ?_
  exact rf [3] [] (hn _ (aj h) :) (hk:=hK)
theorem Tg (ao:List Int)(r:Int)(h:tE ao=some r):bz IR Tryz.f120 [false] 0 (CX ao) (CY r):=by
 show Run _ _ (Qd ao r) [.code Qe] _
 refine rI 18 [(0,.isl false (ao.map I))] [] 1 ?_
 unfold tE at h
 refine cq 14 [3,4] [I (0),I (0)] 49 ?_
 obtain⟨y4,hy4,hy41,hy42⟩:=bJ h
 refine bM rfl ?_
 refine rf [0,3,4] [] (K5 ao rfl (0,0) _ hy4 (fun r' e st hq=>by rw[hy41 r' e] at hq;exact hq) fun u4 hu=>?_)
 replace h:=hy42 u4 hu
 refine cq 5 [2] [I u4] 33 ?_
 obtain rfl:=Option.some.inj h
 exact rP [I u4]
theorem Qf {G:Go.Ln.Ground}:aP Tryz.prog G 120 Aa:=gT 1 0 bC cd Tryz.func120 (fun a r h=>Tg a r h)
noncomputable def DK:(Contract×State)→List V:=cA aM (oA bV)
noncomputable def DL (r:Bool):V×List V:=(B r,[])
noncomputable def AD:Ent:=bm [false,false] DK DL fun x=>tM x.1 x.2
theorem YG {c_1:Contract}{s_2:State}{r}(h:tM c_1 s_2=some r):AD.F (DK (c_1,s_2))=some (DL r):=aG (br ba (aH dj)) h
noncomputable def ju:Code:=aD Tryz.f61
noncomputable def mO:Env:=bT Tryz.prog [(72,Av),(116,tL),(117,tH),(118,AC),(119,zZ),(120,Aa),(114,nQ),(115,Ae)]
noncomputable def jt (x:Contract×State)(r:Bool):St→Prop:=QF mO Tryz.f61 [false,false] (DK x) (DL r)
theorem Lm (c_1:Contract)(s_2:State)(r5:(List ac)):ci mO 0 (jt (c_1,s_2)) (cL (cL (cR (cL (cR (cR (cR ju))))))) 0 (sI c_1 s_2 r5) (fun u=>(sT 86 [(2,.hp 1 0 [] 2 0 0),(3,.hp 2 0 [] 5 0 0)] [⟨0,2,[aa c_1]⟩,⟨0,5,[ai s_2]⟩] 3)) fun x6=>(sT 86 [(2,.hp 1 0 [] 2 0 0),(3,.hp 2 0 [] 5 0 0),(5,.hs 3 0 [] 1 0 (r5.map str).length),(6,I x6)] [⟨0,2,[aa c_1]⟩,⟨0,5,[ai s_2]⟩,⟨0,1,r5.map str⟩] 4):=dY (yh c_1 s_2 r5) fun {Q K} hK self ih x6 y h hr hn=>by
 unfold mt at h
 refine cq 6 [41,43] [I x6,.isl false (s_2.Facts.map str)] 52 ?_
 refine oq 68 (I (len s_2.Facts)) rfl (bd rfl rfl rfl (bw rfl)) ?_
 refine cq 2 [45] [B (decide (x6<(len s_2.Facts)))] 84 ?_
 refine sq h ?_ ?_<;>intro h
 ·refine aq 1 ?_
  refine cq 8 [48,50,51] [.hs 3 0 [] 1 0 (r5.map str).length,.isl false (s_2.Facts.map str),I x6] 148 ?_
  obtain⟨e7,he7,h⟩:=bS h
  refine oq 164 (.iptr (str e7) 0) rfl (ap rfl rfl rfl (aY rfl rfl rfl rfl he7)) ?_
  refine cq 1 [53] [str e7] 180 ?_
  obtain⟨r8,hr8,h⟩:=bS h
  refine oq 196 (B r8) rfl (cG rfl rfl (cY rfl rfl rfl (cy (sh1 rfl rfl (eQ (f:=str) (g:=str) (xs:=r5) rfl rfl (cw fb))) (cy (dw rfl) dP)) (IY hr8) (.inl rfl) eh rfl rfl rfl)) ?_
  refine cq 2 [55] [B (!r8)] 212 ?_
  refine sq h ?_ ?_<;>intro h
  ·refine cq 4 [4] [B false] 228 ?_
   exact bW rfl (hr _ (aj h) _ (qp [B false]))
  ·refine aq 1 ?_
   refine cq 6 [6] [I (au (x6+1))] 260 ?_
   refine cW ?_
   exact rf [2,3,5,6] [1,2,3] (ih _ _ h hr hn :)
 ·refine aq 1 ?_
  exact rf [2,3] [1,2] (hn _ (aj h) :) (hk:=hK)
theorem Lo (c_1:Contract)(s_2:State):ci mO 0 (jt (c_1,s_2)) (cL (cL (cR (cL (cR (cR (cR (cR ju)))))))) 2 (mu c_1 s_2) (fun u=>(sT 86 [(3,.hp 1 0 [] 5 0 0)] [⟨0,5,[ai s_2]⟩] 2)) fun x10=>(sT 86 [(2,.hp 1 0 [] 2 0 0),(3,.hp 2 0 [] 5 0 0),(7,I x10)] [⟨0,2,[aa c_1]⟩,⟨0,5,[ai s_2]⟩] 3):=dY (yi c_1 s_2) fun {Q K} hK self ih x10 y h hr hn=>by
 unfold kt at h
 refine cq 6 [56,58] [I x10,.isl false (s_2.Duties.map ae)] 51 ?_
 refine oq 67 (I (len s_2.Duties)) rfl (bd rfl rfl rfl (bw rfl)) ?_
 refine cq 2 [60] [B (decide (x10<(len s_2.Duties)))] 83 ?_
 refine sq h ?_ ?_<;>intro h
 ·refine aq 1 ?_
  refine cq 7 [63,64,65] [aa c_1,ai s_2,I x10] 131 ?_
  obtain⟨r11,hr11,h⟩:=bS h
  refine oq 147 (B r11) rfl (cP (YF hr11)) ?_
  refine cq 2 [67] [B (!r11)] 163 ?_
  refine sq h ?_ ?_<;>intro h
  ·refine cq 4 [4] [B false] 179 ?_
   exact bW rfl (hr _ (aj h) _ (qp [B false]))
  ·refine aq 1 ?_
   refine cq 6 [7] [I (au (x10+1))] 211 ?_
   refine cW ?_
   exact rf [2,3,7] [1,2] (ih _ _ h hr hn :)
 ·refine aq 1 ?_
  exact rf [3] [2] (hn _ (aj h) :) (hk:=hK)
theorem Lp (c_1:Contract)(s_2:State):ci mO 0 (jt (c_1,s_2)) (cL (cL (cR (cL (cR (cR (cR (cR (cR ju))))))))) 4 (sJ c_1 s_2) (fun u=>(sT 86 [(3,.hp 1 0 [] 5 0 0)] [⟨0,5,[ai s_2]⟩] 2)) fun x13=>(sT 86 [(3,.hp 1 0 [] 5 0 0),(8,I x13)] [⟨0,5,[ai s_2]⟩] 2):=dY (yj c_1 s_2) fun {Q K} hK self ih x13 y h hr hn=>by
 unfold mw at h
 refine cq 6 [68,70] [I x13,.isl false (s_2.Balances.map I)] 50 ?_
 refine oq 66 (I (len s_2.Balances)) rfl (bd rfl rfl rfl (bw rfl)) ?_
 refine cq 2 [72] [B (decide (x13<(len s_2.Balances)))] 82 ?_
 refine sq h ?_ ?_<;>intro h
 ·refine aq 1 ?_
  refine cq 7 [76,77] [.isl false (s_2.Balances.map I),I x13] 130 ?_
  obtain⟨e14,he14,h⟩:=bS h
  refine oq 146 (.iptr (I e14) 0) rfl (ap rfl rfl rfl (aY rfl rfl rfl rfl he14)) ?_
  refine cq 1 [79] [I e14] 162 ?_
  obtain⟨r15,hr15,h⟩:=bS h
  refine oq 178 (B r15) rfl (cP (Yo hr15)) ?_
  refine cq 2 [81] [B (!r15)] 194 ?_
  refine sq h ?_ ?_<;>intro h
  ·refine cq 4 [4] [B false] 210 ?_
   exact bW rfl (hr _ (aj h) _ (qp [B false]))
  ·refine aq 1 ?_
   refine cq 6 [8] [I (au (x13+1))] 242 ?_
   refine cW ?_
   exact rf [3,8] [1] (ih _ _ h hr hn :)
 ·refine aq 1 ?_
  exact rf [3] [1] (hn _ (aj h) :) (hk:=hK)
theorem TH (c_1:Contract)(s_2:State)(r:Bool)(h:tM c_1 s_2=some r):bz mO Tryz.f61 [false,false] 0 (DK (c_1,s_2)) (DL r):=by
 show Run _ _ (jt (c_1,s_2) r) [.code ju] _
 refine rI 86 [(0,aa c_1),(1,ai s_2)] [] 1 ?_
 unfold tM at h
 refine ck 10 [2,3,9] [] [1,17] [] [.hp 1 0 [] 2 0 0,.hp 17 0 [] 5 0 0,aa c_1] [some ⟨0,2,[aa c_1]⟩,some ⟨0,5,[ai s_2]⟩] 65 (by kernel_rfl) ?_
 obtain⟨r3,hr3,h⟩:=bS h
 refine oq 81 (B r3) rfl (cP (YC hr3)) ?_
 refine cq 2 [12] [B (!r3)] 113 ?_
 obtain⟨y4,hy4,hy41,hy42⟩:=bJ h
 have j4:∀u4,y4=.inr u4→Run mO 0 (jt (c_1,s_2) r) (.code (cR (cL (cR ju)))::.code (cR (cR ju))::[]) (sT 86 [(2,.hp 1 0 [] 2 0 0),(3,.hp 2 0 [] 5 0 0),(38,B u4)] [⟨0,2,[aa c_1]⟩,⟨0,5,[ai s_2]⟩] 3):=by
  intro u4 hu
  replace h:=hy42 u4 hu
  refine sq h ?_ ?_<;>intro h
  ·refine cq 4 [4] [B false] 19 ?_
   obtain rfl:=Option.some.inj h
   exact rP [B false]
  ·refine aq 1 ?_
   refine cq 3 [39] [aa c_1] 19 ?_
   obtain⟨r5,hr5,h⟩:=bS h
   refine oq 35 (.hs 19 0 [] 1 0 (r5.map str).length) rfl (cP (QL hr5)) ?_
   refine cq 8 [5,6] [.hs 19 0 [] 1 0 (r5.map str).length,I (0)] 67 ?_
   obtain⟨y9,hy9,hy91,hy92⟩:=bJ h
   refine bM rfl ?_
   refine rf [2,3,5,6] [1,2,19] (Lm c_1 s_2 r5 rfl 0 _ hy9 (fun r' e st hq=>by rw[hy91 r' e] at hq;exact hq) fun u9 hu=>?_)
   replace h:=hy92 u9 hu
   refine cq 6 [7] [I (0)] 19 ?_
   obtain⟨y12,hy12,hy121,hy122⟩:=bJ h
   refine bM rfl ?_
   refine rf [2,3,7] [1,2] (Lo c_1 s_2 rfl 0 _ hy12 (fun r' e st hq=>by rw[hy121 r' e] at hq;exact hq) fun u12 hu=>?_)
   replace h:=hy122 u12 hu
   refine cq 6 [8] [I (0)] 18 ?_
   obtain⟨y16,hy16,hy161,hy162⟩:=bJ h
   refine bM rfl ?_
   refine rf [3,8] [1] (Lp c_1 s_2 rfl 0 _ hy16 (fun r' e st hq=>by rw[hy161 r' e] at hq;exact hq) fun u16 hu=>?_)
   replace h:=hy162 u16 hu
   refine cq 4 [83] [.isl false (s_2.Balances.map I)] 34 ?_
   obtain⟨r17,hr17,h⟩:=bS h
   refine oq 50 (I r17) rfl (cP (Yr hr17)) ?_
   refine cq 3 [4] [B (r17==0)] 82 ?_
   obtain rfl:=Option.some.inj h
   exact rP [B (r17==0)]
 have r4:∀r',y4=.inl r'→∀st,jt (c_1,s_2) r' st→(jt (c_1,s_2) r) st:=fun r' e st hq=>by rw[hy41 r' e] at hq;exact hq
 replace h:=hy4
 refine sp 12 h rfl ?_ ?_<;>intro h
 ·refine cq 27 [38] [B true] 529 ?_
  exact rf [2,3,38] [1,17] (j4 _ (aj h) :)
 ·refine cq 2 [14] [I s_2.Day] 145 ?_
  obtain⟨r18,hr18,h⟩:=bS h
  refine oy 161 (B r18) rfl (cP (sj hr18)) ?_
  refine cq 3 [18] [B (!r18)] 209 ?_
  obtain⟨y19,hy19,hy191,hy192⟩:=bL h
  have j19:∀u19,y19=.inr u19→Run mO 0 (jt (c_1,s_2) r) (.code (cR (cL (cR ju)))::.code (cR (cR ju))::[]) (sT 86 [(2,.hp 1 0 [] 2 0 0),(3,.hp 2 0 [] 5 0 0),(38,B u19)] [⟨0,2,[aa c_1]⟩,⟨0,5,[ai s_2]⟩] 3):=by
   intro u19 hu
   replace h:=hy192 u19 hu
   exact rf [2,3,38] [1,2] (j4 _ (aj h) :)
  have r19:∀r',y19=.inl r'→∀st,jt (c_1,s_2) r' st→(jt (c_1,s_2) r) st:=fun r' e st hq=>r4 r' (hy191 r' e) st hq
  replace h:=hy19
  refine sp 18 h rfl ?_ ?_<;>intro h
  ·refine cq 21 [38] [B true] 529 ?_
   exact rf [2,3,38] [1,17] (j19 _ (aj h) :)
  ·refine cq 2 [20] [.isl false (s_2.Facts.map str)] 241 ?_
   obtain⟨r20,hr20,h⟩:=bS h
   refine oy 257 (B r20) rfl (cP (Yv hr20)) ?_
   refine cq 3 [24] [B (!r20)] 305 ?_
   obtain⟨u21,hu21,h⟩:=lJ h
   have j21:Run mO 0 (jt (c_1,s_2) r) (.code (cR (cL (cR ju)))::.code (cR (cR ju))::[]) (sT 86 [(2,.hp 1 0 [] 2 0 0),(3,.hp 2 0 [] 5 0 0),(38,B u21)] [⟨0,2,[aa c_1]⟩,⟨0,5,[ai s_2]⟩] 3):=by
    exact rf [2,3,38] [1,2] (j19 _ (aj h) :)
   replace h:=hu21
   clear hu21
   refine sp 24 h rfl ?_ ?_<;>intro h
   ·refine cq 15 [38] [B true] 529 ?_
    subst h
    exact rf [2,3,38] [1,17] (j21 :)
   ·refine cq 2 [26] [.isl false (s_2.Duties.map ae)] 337 ?_
    refine oy 353 (I (len s_2.Duties)) rfl (bd rfl rfl rfl (bw rfl)) ?_
    refine cq 3 [30] [B (decide ((len s_2.Duties)>24))] 401 ?_
    obtain⟨u22,hu22,h⟩:=lJ h
    have j22:Run mO 0 (jt (c_1,s_2) r) (.code (cR (cL (cR ju)))::.code (cR (cR ju))::[]) (sT 86 [(2,.hp 1 0 [] 2 0 0),(3,.hp 2 0 [] 5 0 0),(38,B u22)] [⟨0,2,[aa c_1]⟩,⟨0,5,[ai s_2]⟩] 3):=by
     subst h
     exact rf [2,3,38] [1,2] (j21 :)
    replace h:=hu22
    clear hu22
    refine sp 30 h rfl ?_ ?_<;>intro h
    ·refine cq 9 [38] [B true] 529 ?_
     subst h
     exact rf [2,3,38] [1,17] (j22 :)
    ·refine cq 2 [32] [.isl false (s_2.Balances.map I)] 433 ?_
     refine oy 449 (I (len s_2.Balances)) rfl (bd rfl rfl rfl (bw rfl)) ?_
     refine cq 2 [35] [.isl false (c_1.Parties.map str)] 481 ?_
     refine oy 497 (I (len c_1.Parties)) rfl (bd rfl rfl rfl (bw rfl)) ?_
     refine cq 3 [38] [B ((len s_2.Balances) != (len c_1.Parties))] 529 ?_
     subst h
     exact rf [2,3,38] [1,17] (j22 :)
theorem QT {G:Go.Ln.Ground}:aP Tryz.prog G 61 AD:=gT 2 0 (aL QK (aL Gn (aL Gk (aL QS (aL Qc (aL Qf (aL qI (aL Ql bC)))))))) cd Tryz.func61 (fun a r h=>TH a.1 a.2 r h)
noncomputable def CS:((List Int)×Int)→List V:=cA (uW 1 I) (oA I)
noncomputable def CT (r:(List Int)):V×List V:=(.usl 1 (r.map I),[.dead])
noncomputable def tD:Ent:=bm [true,false] CS CT fun x=>vv x.1 x.2
theorem Qa {l_8:List Int}{n_9:Int}{r}(h:vv l_8 n_9=some r):tD.F (CS (l_8,n_9))=some (CT r):=aG (br (lm bZ) (aH bZ)) h
noncomputable def pY:Code:=aD Tryz.f154
noncomputable def vw:Env:=bT Tryz.prog []
noncomputable def sh (x:(List Int)×Int)(r:(List Int)):St→Prop:=QF vw Tryz.f154 [true,false] (CS x) (CT r)
theorem K4 (l_8:List Int)(n_9:Int):ci vw 1 (sh (l_8,n_9)) (cL (cL (cL (cR (cR pY))))) 0 (si l_8 n_9) (fun u=>(sO 45 [(0,.hs 2 0 [] 1 0 (u.2.2.map I).length),(1,I u.1),(5,I u.2.1)] [none,some ⟨0,1,u.2.2.map I⟩] 3)) fun x3=>(sO 45 [(0,.hs 2 0 [] 1 0 (l_8.map I).length),(1,I n_9),(5,I x3)] [none,some ⟨0,1,l_8.map I⟩] 3):=dY (xP l_8 n_9) fun {Q K} hK self ih x3 y h hr hn=>by
 unfold kf at h
 refine cq 5 [6,7] [I x3,.hs 2 0 [] 1 0 (l_8.map I).length] 35 ?_
 refine oq 51 (I (len l_8)) rfl (bd rfl rfl rfl (oC (f:=I) (xs:=l_8) rfl rfl)) ?_
 refine cq 2 [10] [B (decide (x3<(len l_8)))] 83 ?_
 obtain⟨y4,hy4,hy41,hy42⟩:=bL h
 have j4:∀u4,y4=.inr u4→Run vw 1 Q (.code (cR (cL (cL (cL (cL (cR (cR pY)))))))::.code (cR (cL (cL (cL (cR (cR pY))))))::.lp (cL (cL (cL (cR (cR pY)))))::.blk 0::K) (sO 45 [(0,.hs 2 0 [] 1 0 (l_8.map I).length),(1,I n_9),(5,I x3),(17,B u4)] [none,some ⟨0,1,l_8.map I⟩] 3):=by
  intro u4 hu
  replace h:=hy42 u4 hu
  refine sq h ?_ ?_<;>intro h
  ·refine aq 1 ?_
   refine cq 7 [5] [I (au (x3+1))] 51 ?_
   refine cW ?_
   exact rg [0,1,5] [52,2] (ih _ _ h hr hn :)
  ·refine aq 1 ?_
   exact rg [0,1,5] [4,2] (hn _ (aj h) :) (hk:=hK)
 have r4:∀r',y4=.inl r'→∀st,sh (l_8,n_9) r' st→Q st:=fun r' e st hq=>hr r' (hy41 r' e) st hq
 replace h:=hy4
 refine sp 10 h rfl ?_ ?_<;>intro h
 ·refine cq 2 [11,12] [.hs 2 0 [] 1 0 (l_8.map I).length,I x3] 115 ?_
  obtain⟨e5,he5,h⟩:=bS h
  refine oy 131 (.hp 2 0 [] 1 (0+Int.toNat x3) 0) rfl (ap rfl rfl rfl (ft (f:=I) (xs:=l_8) rfl rfl rfl he5)) ?_
  refine oy 147 (I e5) rfl (bb rfl (jS (path:=[]) rfl rfl rfl aZ (eL (f:=I) (xs:=l_8) he5) rfl rfl rfl)) ?_
  refine cq 4 [17] [B (decide (e5<n_9))] 195 ?_
  exact rg [0,1,5,17] [196,2] (j4 _ (aj h) :)
 ·refine cq 8 [17] [B false] 195 ?_
  exact rg [0,1,5,17] [196,2] (j4 _ (aj h) :)
theorem Te (l_8:List Int)(n_9:Int)(r:(List Int))(h:vv l_8 n_9=some r):bz vw Tryz.f154 [true,false] 1 (CS (l_8,n_9)) (CT r):=by
 show Run _ _ (sh (l_8,n_9) r) [.code pY] _
 refine rI 45 [(0,.hs 1 0 [] 1 0 (l_8.map I).length),(1,I n_9)] [(1,some ⟨0,1,l_8.map I⟩)] 2 ?_
 unfold vv at h
 refine cq 10 [5] [I (0)] 34 ?_
 obtain⟨y6,hy6,hy61,hy62⟩:=bJ h
 refine bM rfl ?_
 refine rg [0,1,5] [35,1] (K4 l_8 n_9 rfl 0 _ hy6 (fun r' e st hq=>by rw[hy61 r' e] at hq;exact hq) fun u6 hu=>?_)
 replace h:=hy62 u6 hu
 refine cq 5 [20,21] [I u6.2.1,.hs 2 0 [] 1 0 (u6.2.2.map I).length] 35 ?_
 refine oq 51 (I (len u6.2.2)) rfl (bd rfl rfl rfl (oC (f:=I) (xs:=u6.2.2) rfl rfl)) ?_
 refine cq 2 [24] [B (decide (u6.2.1<(len u6.2.2)))] 83 ?_
 obtain⟨y7,hy7,hy71,hy72⟩:=bJ h
 have j7:∀u7,y7=.inr u7→Run vw 1 (sh (l_8,n_9) r) (.code (cR (cL (cR (cR (cR pY)))))::.code (cR (cR (cR (cR pY))))::[]) (sO 45 [(0,.hs 2 0 [] 1 0 (u6.2.2.map I).length),(1,I u6.1),(5,I u6.2.1),(31,B u7)] [none,some ⟨0,1,u6.2.2.map I⟩] 3):=by
  intro u7 hu
  replace h:=hy72 u7 hu
  refine sq h ?_ ?_<;>intro h
  ·refine cq 5 [4] [.hs 2 0 [] 1 0 (u6.2.2.map I).length] 35 ?_
   obtain rfl:=Option.some.inj h
   exact bW rfl ⟨_,fin (vs:=[.hs 2 0 [] 1 0 (u6.2.2.map I).length]) rfl (fg (eV rfl (cZ rfl rfl)) ey) rfl (nt rfl (jT rfl) (eT fB)),ni fh⟩
  ·refine aq 1 ?_
   refine aq 1 ?_
   refine eB [0,0,0,6,15,0,32,127,0,0,768,2047,4095] rfl (by decide +kernel) ?_
   refine dq [] [] (.hs 3 0 [] 1 0 0) rfl (d7 rfl (kW (f:=I) (xs:=[]) (z:=I (0)) (es:=[]) (ws:=[]) rfl rfl rfl (by decide) rfl (dB rfl) rfl)) ?_
   refine dk 2 [35,34] [I u6.2.1,.hs 2 0 [] 1 0 (u6.2.2.map I).length] ?_
   obtain⟨s8,hs8,h⟩:=bS h
   refine dq [2] [] (.hs 2 0 [] 1 (0+Int.toNat (0)) (Int.toNat u6.2.1 - Int.toNat (0))) rfl (gq rfl rfl rfl rfl (pc (f:=I) (xs:=u6.2.2) rfl rfl rfl rfl rfl hs8)) ?_
   obtain⟨p9,hp9,h⟩:=bS h
   obtain⟨a10,ha10,h⟩:=bS h
   refine dq [3,2] [3] (.hs 67 0 [] 1 0 (a10.map I).length) rfl (im rfl rfl rfl rfl rfl (lw (path:=[]) (es0:=[]) (f:=I) (xs:=([]:List Int)) (ys:=p9) rfl rfl (xl (path:=[]) (f:=I) (xs:=u6.2.2) rfl rfl aZ hp9 vV) rfl rfl rfl rfl rfl (by decide) sL ha10 rfl po)) ?_ (uI rfl (tY (path:=[]) (f:=I) (xs:=u6.2.2) rfl rfl aZ vV rfl))
   refine dk 1 [38] [I u6.1] ?_
   refine dq [] [] (.hs 99 0 [] 1 0 1) rfl (d7 rfl (kW (f:=I) (xs:=[]) (z:=I (0)) (es:=[I u6.1]) (ws:=[I u6.1]) rfl rfl rfl (by decide) rfl (dB rfl) rfl)) ?_
   obtain⟨a11,ha11,h⟩:=bS h
   refine dq [67,99] [67] (.hs 115 0 [] 1 0 (a11.map I).length) rfl (im rfl rfl rfl rfl rfl (lw (path:=[]) (f:=I) (xs:=a10) (ys:=[u6.1]) rfl rfl (pT rfl rfl rfl) rfl rfl rfl aZ rfl (by decide) sL ha11 rfl po)) ?_ (uI rfl (tY (path:=[]) (f:=I) (xs:=[u6.1]) rfl rfl aZ vV rfl))
   refine dk 2 [42,41] [I u6.2.1,.hs 2 0 [] 1 0 (u6.2.2.map I).length] ?_
   obtain⟨s12,hs12,h⟩:=bS h
   refine dq [2] [] (.hs 2 0 [] 1 (0+Int.toNat u6.2.1) (Int.toNat (len u6.2.2) - Int.toNat u6.2.1)) rfl (gq rfl rfl rfl rfl (pc (f:=I) (xs:=u6.2.2) rfl rfl rfl rfl (Nn rfl) hs12)) ?_
   obtain⟨p13,hp13,h⟩:=bS h
   obtain⟨a14,ha14,h⟩:=bS h
   refine dq [115,2] [115] (.hs 179 0 [] 1 0 (a14.map I).length) rfl (im rfl rfl rfl rfl rfl (lw (path:=[]) (f:=I) (xs:=a11) (ys:=p13) rfl rfl (xl (path:=[]) (f:=I) (xs:=u6.2.2) rfl rfl aZ hp13 vV) rfl rfl rfl aZ rfl (by decide) sL ha14 rfl po)) ?_ (uI rfl (tY (path:=[]) (f:=I) (xs:=u6.2.2) rfl rfl aZ vV rfl))
   refine dk 1 [4] [.hs 179 0 [] 1 0 (a14.map I).length] ?_
   refine de 211 rfl rfl ?_
   obtain rfl:=Option.some.inj h
   exact bW rfl ⟨_,fin (vs:=[.hs 179 0 [] 1 0 (a14.map I).length]) rfl (fg (eV rfl (cZ rfl rfl)) ey) rfl (nt rfl (jT rfl) (eT fB)),ni fh⟩
 have r7:∀r',y7=.inl r'→∀st,sh (l_8,n_9) r' st→(sh (l_8,n_9) r) st:=fun r' e st hq=>by rw[hy71 r' e] at hq;exact hq
 replace h:=hy7
 refine sp 24 h rfl ?_ ?_<;>intro h
 ·refine cq 2 [25,26] [.hs 2 0 [] 1 0 (u6.2.2.map I).length,I u6.2.1] 115 ?_
  obtain⟨e15,he15,h⟩:=bS h
  refine oy 131 (.hp 2 0 [] 1 (0+Int.toNat u6.2.1) 0) rfl (ap rfl rfl rfl (ft (f:=I) (xs:=u6.2.2) rfl rfl rfl he15)) ?_
  refine oy 147 (I e15) rfl (bb rfl (jS (path:=[]) rfl rfl rfl aZ (eL (f:=I) (xs:=u6.2.2) he15) rfl rfl rfl)) ?_
  refine cq 4 [31] [B (e15==u6.1)] 195 ?_
  exact rg [0,1,5,31] [196,2] (j7 _ (aj h) :)
 ·refine cq 8 [31] [B false] 195 ?_
  exact rg [0,1,5,31] [196,2] (j7 _ (aj h) :)
theorem Gi {G:Go.Ln.Ground}:aP Tryz.prog G 154 tD:=gT 2 1 bC cd Tryz.func154 (fun a r h=>Te a.1 a.2 r h)
noncomputable def vx:((List Int)×Condition)→List V:=cA (uW 1 I) (oA bg)
noncomputable def vy (r:(List Int)):V×List V:=(.usl 1 (r.map I),[.dead])
noncomputable def vz (b6:((List Int)×Condition)→Option (List Int)):Ent:=bm [true,false] vx vy b6
theorem LP (b6:((List Int)×Condition)→Option (List Int)){x}{r}(h:b6 x=some r):(vz b6).F (vx x)=some (vy r):=aG (br (lm bZ) (aH cz)) h
noncomputable def Ab:Ent:=vz (aF kh)
theorem Yu {l_4:List Int}{c_5:Condition}{r}(h:IT l_4 c_5=some r):Ab.F (vx (l_4,c_5))=some (vy r):=LP (aF kh) h
noncomputable def Qi:Code:=aD Tryz.f155
noncomputable def IU (b6:((List Int)×Condition)→Option (List Int)):Env:=bT Tryz.prog [(154,tD),(155,(vz b6))]
noncomputable def Qh (b6:((List Int)×Condition)→Option (List Int))(x:(List Int)×Condition)(r:(List Int)):St→Prop:=QF (IU b6) Tryz.f155 [true,false] (vx x) (vy r)
theorem K6 (b6:((List Int)×Condition)→Option (List Int))(l_4:List Int)(c_5:Condition):ci (IU b6) 1 (Qh b6 (l_4,c_5)) (cL (cL (cR (cL (cR (cR Qi)))))) 0 (kP b6 l_4 c_5) (fun u=>(sO 28 [(0,.hs 2 0 [] 1 0 (u.map I).length)] [none,some ⟨0,1,u.map I⟩] 3)) fun x4=>(sO 28 [(0,.hs 2 0 [] 1 0 (x4.2.map I).length),(3,.hp 3 0 [] 4 0 0),(5,I x4.1)] [none,some ⟨0,1,x4.2.map I⟩,some ⟨0,4,[ah c_5]⟩] 4):=dY (xR b6 l_4 c_5) fun {Q K} hK self ih x4 y h hr hn=>by
 unfold i6 at h
 refine cq 6 [13,15] [I x4.1,.isl false (c_5.Parts.map aB)] 52 ?_
 refine oq 68 (I (len c_5.Parts)) rfl (bd rfl rfl rfl (bw rfl)) ?_
 refine cq 2 [17] [B (decide (x4.1<(len c_5.Parts)))] 84 ?_
 refine sq h ?_ ?_<;>intro h
 ·refine aq 1 ?_
  refine cq 7 [20,22,23] [.hs 2 0 [] 1 0 (x4.2.map I).length,.isl false (c_5.Parts.map aB),I x4.1] 148 ?_
  obtain⟨e5,he5,h⟩:=bS h
  refine oq 164 (.iptr (ah e5) 0) rfl (ap rfl rfl rfl (aY rfl rfl (cr e5) rfl he5)) ?_
  refine cq 1 [25] [ah e5] 180 ?_
  obtain⟨r6,hr6,h⟩:=bS h
  refine oq 196 (.hs 180 0 [] 1 0 (r6.map I).length) rfl (cG rfl rfl (cY rfl rfl rfl (nF (mD rfl (gZ (path:=[]) rfl rfl aZ rfl)) (cy (dw rfl) dP)) (LP b6 hr6) (.inr rfl) (lT rfl rfl rfl gp eh) rfl rfl rfl)) ?_
  refine cq 8 [0,5] [.hs 180 0 [] 1 0 (r6.map I).length,I (au (x4.1+1))] 260 ?_
  refine cW ?_
  exact rg [0,3,5] [261,180,3] (ih _ _ h hr hn :)
 ·refine aq 1 ?_
  exact rg [0] [85,2] (hn _ (aj h) :) (hk:=hK)
theorem Tk (b6:((List Int)×Condition)→Option (List Int))(l_4:List Int)(c_5:Condition)(r:(List Int))(h:sk b6 l_4 c_5=some r):bz (IU b6) Tryz.f155 [true,false] 1 (vx (l_4,c_5)) (vy r):=by
 show Run _ _ (Qh b6 (l_4,c_5) r) [.code Qi] _
 refine rI 28 [(0,.hs 1 0 [] 1 0 (l_4.map I).length),(1,ah c_5)] [(1,some ⟨0,1,l_4.map I⟩)] 2 ?_
 unfold sk at h
 refine ck 12 [3,8] [] [2] [] [.hp 2 0 [] 4 0 0,B (c_5.Op==3)] [some ⟨0,4,[ah c_5]⟩] 82 (by kernel_rfl) ?_
 refine sq h ?_ ?_<;>intro h
 ·refine cq 5 [9,11] [.hs 1 0 [] 1 0 (l_4.map I).length,I c_5.Day] 130 ?_
  obtain⟨r3,hr3,h⟩:=bS h
  refine oq 146 (.hs 130 0 [] 1 0 (r3.map I).length) rfl (cG rfl rfl (cY rfl rfl rfl (nF (mD rfl (gZ (path:=[]) rfl rfl aZ rfl)) (cy (dw rfl) dP)) (Qa hr3) (.inr rfl) (lT rfl rfl rfl gp eh) rfl rfl rfl)) ?_
  refine cq 2 [4] [.hs 130 0 [] 1 0 (r3.map I).length] 162 ?_
  obtain rfl:=Option.some.inj h
  exact bW rfl ⟨_,fin (vs:=[.hs 130 0 [] 1 0 (r3.map I).length]) rfl (fg (eV rfl (cZ rfl rfl)) ey) rfl (nt rfl (jT rfl) (eT fB)),ni fh⟩
 ·refine aq 1 ?_
  refine cq 6 [5] [I (0)] 98 ?_
  obtain⟨y7,hy7,hy71,hy72⟩:=bJ h
  refine bM rfl ?_
  refine rg [0,3,5] [99,1,2] (K6 b6 l_4 c_5 rfl (0,l_4) _ hy7 (fun r' e st hq=>by rw[hy71 r' e] at hq;exact hq) fun u7 hu=>?_)
  replace h:=hy72 u7 hu
  refine cq 5 [4] [.hs 2 0 [] 1 0 (u7.map I).length] 35 ?_
  obtain rfl:=Option.some.inj h
  exact bW rfl ⟨_,fin (vs:=[.hs 2 0 [] 1 0 (u7.map I).length]) rfl (fg (eV rfl (cZ rfl rfl)) ey) rfl (nt rfl (jT rfl) (eT fB)),ni fh⟩
theorem Qj {G:Go.Ln.Ground}:aP Tryz.prog G 155 Ab:=iq fun b6 g_Ffdb=>gT 2 1 (aL Gi (aL g_Ffdb bC)) cd Tryz.func155 (fun a r h=>Tk b6 a.1 a.2 r h)
noncomputable def CN:(Contract×State)→List V:=cA aM (oA bV)
noncomputable def CO (r:Int):V×List V:=(I r,[])
noncomputable def zX:Ent:=bm [false,false] CN CO fun x=>Fr x.1 x.2
theorem Yn {c_1:Contract}{s_2:State}{r}(h:Fr c_1 s_2=some r):zX.F (CN (c_1,s_2))=some (CO r):=aG (br ba (aH dj)) h
noncomputable def CP:Code:=aD Tryz.f89
noncomputable abbrev Fs:Code:=cL (cL (cR (cL (cR (cR (cR CP))))))
noncomputable abbrev wM:Code:=cL (cL (cR (cL (cR (cR (cR (cR (cR CP))))))))
noncomputable def pX:Env:=bT Tryz.prog [(154,tD),(155,Ab),(114,nQ)]
noncomputable def sf (x:Contract×State)(r:Int):St→Prop:=QF pX Tryz.f89 [false,false] (CN x) (CO r)
theorem K0 (c_1:Contract)(s_2:State):ci pX 0 (sf (c_1,s_2)) Fs 0 (kO c_1 s_2) (fun u=>(sT 74 [(2,.hp 1 0 [] 2 0 0),(3,.hp 2 0 [] 5 0 0),(5,.hs 3 0 [] 1 0 (u.map I).length)] [⟨0,2,[aa c_1]⟩,⟨0,5,[ai s_2]⟩,⟨0,1,u.map I⟩] 4)) fun x3=>(sT 74 [(2,.hp 1 0 [] 2 0 0),(3,.hp 2 0 [] 5 0 0),(5,.hs 3 0 [] 1 0 (x3.2.map I).length),(6,I x3.1)] [⟨0,2,[aa c_1]⟩,⟨0,5,[ai s_2]⟩,⟨0,1,x3.2.map I⟩] 4):=dY (xM c_1 s_2) fun {Q K} hK self ih x3 y h hr hn=>by
 unfold iZ at h
 refine cq 6 [12,14] [I x3.1,.isl false (s_2.Duties.map ae)] 52 ?_
 refine oq 68 (I (len s_2.Duties)) rfl (bd rfl rfl rfl (bw rfl)) ?_
 refine cq 2 [16] [B (decide (x3.1<(len s_2.Duties)))] 84 ?_
 refine sq h ?_ ?_<;>intro h
 ·refine aq 1 ?_
  refine cq 7 [20,21] [.isl false (s_2.Duties.map ae),I x3.1] 132 ?_
  obtain⟨e4,he4,h⟩:=bS h
  refine oq 148 (.iptr (ae e4) 0) rfl (ap rfl rfl rfl (aY rfl rfl rfl rfl he4)) ?_
  refine cq 4 [25] [B (e4.Status==1)] 196 ?_
  obtain⟨y5,hy5,hy51,hy52⟩:=bL h
  have j5:∀u5,y5=.inr u5→Run pX 0 Q (.blk 1::.code (cR (cR Fs))::.lp Fs::.blk 0::K) (sT 74 [(2,.hp 1 0 [] 2 0 0),(3,.hp 2 0 [] 5 0 0),(5,.hs 3 0 [] 1 0 (u5.map I).length),(6,I x3.1)] [⟨0,2,[aa c_1]⟩,⟨0,5,[ai s_2]⟩,⟨0,1,u5.map I⟩] 4):=by
   intro u5 hu
   replace h:=hy52 u5 hu
   refine cq 6 [6] [I (au (x3.1+1))] 52 ?_
   refine cW ?_
   exact rf [2,3,5,6] [1,2,3] (ih _ _ h hr hn :)
  have r5:∀r',y5=.inl r'→∀st,sf (c_1,s_2) r' st→Q st:=fun r' e st hq=>hr r' (hy51 r' e) st hq
  replace h:=hy5
  refine sq h ?_ ?_<;>intro h
  ·refine cq 5 [26,28,29] [.hs 3 0 [] 1 0 (x3.2.map I).length,.isl false (s_2.Duties.map ae),I x3.1] 260 ?_
   obtain⟨e6,he6,h⟩:=bS h
   refine oq 276 (.iptr (ae e6) 0) rfl (ap rfl rfl rfl (aY rfl rfl rfl rfl he6)) ?_
   refine cq 3 [33] [I (au (e6.Due+1))] 324 ?_
   obtain⟨r7,hr7,h⟩:=bS h
   refine oq 340 (.hs 324 0 [] 1 0 (r7.map I).length) rfl (cG rfl rfl (cY rfl rfl rfl (nF (mD rfl (gZ (path:=[]) rfl rfl aZ rfl)) (cy (dw rfl) dP)) (Qa hr7) (.inr rfl) (lT rfl rfl rfl gp eh) rfl rfl rfl)) ?_
   refine cq 2 [5] [.hs 324 0 [] 1 0 (r7.map I).length] 356 ?_
   exact rf [2,3,5,6] [1,2,324] (j5 _ (aj h) :)
  ·refine aq 1 ?_
   exact rf [2,3,5,6] [1,2,3] (j5 _ (aj h) :)
 ·refine aq 1 ?_
  exact rf [2,3,5] [1,2,3] (hn _ (aj h) :) (hk:=hK)
theorem K1 (c_1:Contract)(s_2:State):ci pX 0 (sf (c_1,s_2)) (cL (cL (cR (cL (cR (cR (cR (cR CP)))))))) 2 (mi c_1 s_2) (fun u=>(sT 74 [(3,.hp 1 0 [] 5 0 0),(5,.hs 2 0 [] 1 0 (u.map I).length)] [⟨0,5,[ai s_2]⟩,⟨0,1,u.map I⟩] 3)) fun x9=>(sT 74 [(2,.hp 1 0 [] 2 0 0),(3,.hp 2 0 [] 5 0 0),(5,.hs 3 0 [] 1 0 (x9.2.map I).length),(7,I x9.1)] [⟨0,2,[aa c_1]⟩,⟨0,5,[ai s_2]⟩,⟨0,1,x9.2.map I⟩] 4):=dY (xN c_1 s_2) fun {Q K} hK self ih x9 y h hr hn=>by
 unfold kd at h
 refine cq 6 [35,37] [I x9.1,.isl false (c_1.Clauses.map an)] 52 ?_
 refine oq 68 (I (len c_1.Clauses)) rfl (bd rfl rfl rfl (bw rfl)) ?_
 refine cq 2 [39] [B (decide (x9.1<(len c_1.Clauses)))] 84 ?_
 refine sq h ?_ ?_<;>intro h
 ·refine aq 1 ?_
  refine cq 7 [42,44,45] [.hs 3 0 [] 1 0 (x9.2.map I).length,.isl false (c_1.Clauses.map an),I x9.1] 148 ?_
  obtain⟨e10,he10,h⟩:=bS h
  refine oq 164 (.iptr (ar e10) 0) rfl (ap rfl rfl rfl (aY rfl rfl rfl rfl he10)) ?_
  refine cq 2 [48] [ah e10.When] 196 ?_
  obtain⟨r11,hr11,h⟩:=bS h
  refine oq 212 (.hs 196 0 [] 1 0 (r11.map I).length) rfl (cG rfl rfl (cY rfl rfl rfl (nF (mD rfl (gZ (path:=[]) rfl rfl aZ rfl)) (cy (dw rfl) dP)) (Yu hr11) (.inr rfl) (lT rfl rfl rfl gp eh) rfl rfl rfl)) ?_
  refine cq 8 [5,7] [.hs 196 0 [] 1 0 (r11.map I).length,I (au (x9.1+1))] 276 ?_
  refine cW ?_
  exact rf [2,3,5,7] [1,2,196] (ih _ _ h hr hn :)
 ·refine aq 1 ?_
  exact rf [3,5] [2,3] (hn _ (aj h) :) (hk:=hK)
theorem K2 (c_1:Contract)(s_2:State)(u12:(List Int)):ci pX 0 (sf (c_1,s_2)) wM 4 (iD c_1 s_2 u12) (fun u=>(sT 74 [] [] 1)) fun x13=>(sT 74 [(3,.hp 1 0 [] 5 0 0),(5,.hs 2 0 [] 1 0 (u12.map I).length),(8,I x13)] [⟨0,5,[ai s_2]⟩,⟨0,1,u12.map I⟩] 3):=dY (xO c_1 s_2 u12) fun {Q K} hK self ih x13 y h hr hn=>by
 unfold ke at h
 refine cq 5 [50,51] [I x13,.hs 2 0 [] 1 0 (u12.map I).length] 35 ?_
 refine oq 51 (I (len u12)) rfl (bd rfl rfl rfl (oC (f:=I) (xs:=u12) rfl rfl)) ?_
 refine cq 2 [53] [B (decide (x13<(len u12)))] 67 ?_
 refine sq h ?_ ?_<;>intro h
 ·refine aq 1 ?_
  refine aq 3 ?_
  refine eB [0,0,3,7,0,16,63,127,255,255,1023,2047,4095,8191] rfl (by decide +kernel) ?_
  refine dk 2 [57,56] [I x13,.hs 2 0 [] 1 0 (u12.map I).length] ?_
  obtain⟨e14,he14,h⟩:=bS h
  refine dq [2] [] (.hp 2 0 [] 1 (0+Int.toNat x13) 0) rfl (ap rfl rfl rfl (ft (f:=I) (xs:=u12) rfl rfl rfl he14)) ?_
  refine dq [2] [] (I e14) rfl (bb rfl (jS (path:=[]) rfl rfl rfl aZ (eL (f:=I) (xs:=u12) he14) rfl rfl rfl)) ?_
  refine dq [1] [] (.hp 1 0 [] 5 0 0) rfl (ay rfl rfl rfl) ?_
  refine dq [1] [] (I s_2.Day) rfl (bb rfl rfl) ?_
  refine dk 2 [63,62] [B (decide (e14>s_2.Day)),B (decide (e14>s_2.Day))] ?_
  obtain⟨y15,hy15,hy151,hy152⟩:=bL h
  have j15:∀u15,y15=.inr u15→Run pX 0 Q (.code (cR (cL (cL (cR wM))))::.blk 5::.code (cR (cR wM))::.lp wM::.blk 4::K) (sT 74 [(3,.hp 1 0 [] 5 0 0),(5,.hs 2 0 [] 1 0 (u12.map I).length),(8,I x13),(69,B u15)] [⟨0,5,[ai s_2]⟩,⟨0,1,u12.map I⟩] 3):=by
   intro u15 hu
   replace h:=hy152 u15 hu
   refine sq h ?_ ?_<;>intro h
   ·refine cq 4 [70,71] [.hs 2 0 [] 1 0 (u12.map I).length,I x13] 35 ?_
    obtain⟨e16,he16,h⟩:=bS h
    refine oq 51 (.hp 2 0 [] 1 (0+Int.toNat x13) 0) rfl (ap rfl rfl rfl (ft (f:=I) (xs:=u12) rfl rfl rfl he16)) ?_
    refine oq 67 (I e16) rfl (bb rfl (jS (path:=[]) rfl rfl rfl aZ (eL (f:=I) (xs:=u12) he16) rfl rfl rfl)) ?_
    refine cq 2 [4] [I e16] 83 ?_
    exact bW rfl (hr _ (aj h) _ (qp [I e16]))
   ·refine aq 1 ?_
    refine cq 6 [8] [I (au (x13+1))] 51 ?_
    refine cW ?_
    exact rf [3,5,8] [1,2] (ih _ _ h hr hn :)
  have r15:∀r',y15=.inl r'→∀st,sf (c_1,s_2) r' st→Q st:=fun r' e st hq=>hr r' (hy151 r' e) st hq
  replace h:=hy15
  refine sp 63 h rfl ?_ ?_<;>intro h
  ·refine dk 2 [65,64] [I x13,.hs 2 0 [] 1 0 (u12.map I).length] ?_
   obtain⟨e17,he17,h⟩:=bS h
   refine dy [2] [] (.hp 2 0 [] 1 (0+Int.toNat x13) 0) rfl (ap rfl rfl rfl (ft (f:=I) (xs:=u12) rfl rfl rfl he17)) ?_
   refine dy [2] [] (I e17) rfl (bb rfl (jS (path:=[]) rfl rfl rfl aZ (eL (f:=I) (xs:=u12) he17) rfl rfl rfl)) ?_
   obtain⟨r18,hr18,h⟩:=bS h
   refine dy [] [] (B r18) rfl (cP (sj hr18)) ?_ (dV rfl rfl rfl rfl (cy (dw rfl) dP) (sj hr18) (.inr rfl) rfl)
   refine dk 1 [69] [B r18] ?_
   refine de 291 rfl rfl ?_
   exact rf [3,5,8,69] [1,2] (j15 _ (aj h) :)
  ·refine dk 6 [69,68,67,66,65,64] [B false,.und,.und,.und,.und,.und] ?_
   refine de 291 rfl rfl ?_
   exact rf [3,5,8,69] [1,2] (j15 _ (aj h) :)
 ·refine aq 1 ?_
  exact rf [] [] (hn _ (aj h) :) (hk:=hK)
theorem Td (c_1:Contract)(s_2:State)(r:Int)(h:Fr c_1 s_2=some r):bz pX Tryz.f89 [false,false] 0 (CN (c_1,s_2)) (CO r):=by
 show Run _ _ (sf (c_1,s_2) r) [.code CP] _
 refine rI 74 [(0,aa c_1),(1,ai s_2)] [] 1 ?_
 unfold Fr at h
 refine ck 12 [2,3,10] [] [1,17] [] [.hp 1 0 [] 2 0 0,.hp 17 0 [] 5 0 0,B s_2.Over] [some ⟨0,2,[aa c_1]⟩,some ⟨0,5,[ai s_2]⟩] 81 (by kernel_rfl) ?_
 refine sq h ?_ ?_<;>intro h
 ·refine cq 4 [4] [I (-1)] 97 ?_
  obtain rfl:=Option.some.inj h
  exact rP [I (-1)]
 ·refine aq 1 ?_
  refine aq 2 ?_
  refine oq 97 (.hs 81 0 [] 1 0 0) rfl (d7 rfl (kW (f:=I) (xs:=[]) (z:=I (0)) (es:=[]) (ws:=[]) rfl rfl rfl (by decide) rfl (dB rfl) rfl)) ?_
  refine cq 8 [5,6] [.hs 81 0 [] 1 0 0,I (0)] 129 ?_
  obtain⟨y8,hy8,hy81,hy82⟩:=bJ h
  refine bM rfl ?_
  refine rf [2,3,5,6] [1,17,81] (K0 c_1 s_2 rfl (0,[]) _ hy8 (fun r' e st hq=>by rw[hy81 r' e] at hq;exact hq) fun u8 hu=>?_)
  replace h:=hy82 u8 hu
  refine cq 6 [7] [I (0)] 20 ?_
  obtain⟨y12,hy12,hy121,hy122⟩:=bJ h
  refine bM rfl ?_
  refine rf [2,3,5,7] [1,2,3] (K1 c_1 s_2 rfl (0,u8) _ hy12 (fun r' e st hq=>by rw[hy121 r' e] at hq;exact hq) fun u12 hu=>?_)
  replace h:=hy122 u12 hu
  refine cq 6 [8] [I (0)] 19 ?_
  obtain⟨y19,hy19,hy191,hy192⟩:=bJ h
  refine bM rfl ?_
  refine rf [3,5,8] [1,2] (K2 c_1 s_2 u12 rfl 0 _ hy19 (fun r' e st hq=>by rw[hy191 r' e] at hq;exact hq) fun u19 hu=>?_)
  replace h:=hy192 u19 hu
  refine cq 4 [4] [I (-1)] 17 ?_
  obtain rfl:=Option.some.inj h
  exact rP [I (-1)]
theorem P9 {G:Go.Ln.Ground}:aP Tryz.prog G 89 zX:=gT 2 0 (aL Gi (aL Qj (aL qI bC))) cd Tryz.func89 (fun a r h=>Td a.1 a.2 r h)
noncomputable def CL:(Contract×State)→List V:=cA aM (oA bV)
noncomputable def CM (r:Int×Bool):V×List V:=(.tup [I r.1,B r.2],[])
noncomputable def zW:Ent:=bm [false,false] CL CM fun x=>zV x.1 x.2
theorem P7 {c_1:Contract}{s_2:State}{r}(h:zV c_1 s_2=some r):zW.F (CL (c_1,s_2))=some (CM r):=aG (br ba (aH dj)) h
noncomputable def Ym:Code:=aD Tryz.f37
noncomputable def P6:Env:=bT Tryz.prog [(61,AD),(89,zX)]
noncomputable def Yl (x:Contract×State)(r:Int×Bool):St→Prop:=QF P6 Tryz.f37 [false,false] (CL x) (CM r)
theorem Tc (c_1:Contract)(s_2:State)(r:Int×Bool)(h:zV c_1 s_2=some r):bz P6 Tryz.f37 [false,false] 0 (CL (c_1,s_2)) (CM r):=by
 show Run _ _ (Yl (c_1,s_2) r) [.code Ym] _
 refine rI 13 [(0,aa c_1),(1,ai s_2)] [] 1 ?_
 unfold zV at h
 refine ck 12 [2,3,6,7] [] [1,17] [] [.hp 1 0 [] 2 0 0,.hp 17 0 [] 5 0 0,aa c_1,ai s_2] [some ⟨0,2,[aa c_1]⟩,some ⟨0,5,[ai s_2]⟩] 97 (by kernel_rfl) ?_
 obtain⟨r3,hr3,h⟩:=bS h
 refine oq 113 (B r3) rfl (cP (YG hr3)) ?_
 refine cq 2 [9] [B (!r3)] 129 ?_
 refine sq h ?_ ?_<;>intro h
 ·refine cq 5 [4,5] [I (0),B false] 161 ?_
  obtain rfl:=Option.some.inj h
  exact rP [I (0),B false]
 ·refine aq 1 ?_
  refine cq 4 [10,11] [aa c_1,ai s_2] 161 ?_
  obtain⟨r4,hr4,h⟩:=bS h
  refine oq 177 (I r4) rfl (cP (Yn hr4)) ?_
  refine cq 3 [4,5] [I r4,B true] 209 ?_
  obtain rfl:=Option.some.inj h
  exact rP [I r4,B true]
theorem P8 {G:Go.Ln.Ground}:aP Tryz.prog G 37 zW:=gT 2 0 (aL QT (aL P9 bC)) cd Tryz.func37 (fun a r h=>Tc a.1 a.2 r h)
noncomputable def Bd:(Int×Int×Int)→List V:=cA I (cA I (oA I))
noncomputable def Be (r:Bool):V×List V:=(B r,[])
noncomputable def ij:Ent:=bm [false,false,false] Bd Be fun x=>ii x.1 x.2.1 x.2.2
theorem hZ {n_1:Int}{nm:Int}{kC:Int}{r}(h:ii n_1 nm kC=some r):ij.F (Bd (n_1,nm,kC))=some (Be r):=aG (br bZ (br bZ (aH bZ))) h
noncomputable def Oc:Code:=aD Tryz.f86
noncomputable def Ij:Env:=bT Tryz.prog []
noncomputable def Ob (x:Int×Int×Int)(r:Bool):St→Prop:=QF Ij Tryz.f86 [false,false,false] (Bd x) (Be r)
theorem Sp (n_1:Int)(nm:Int)(kC:Int)(r:Bool)(h:ii n_1 nm kC=some r):bz Ij Tryz.f86 [false,false,false] 0 (Bd (n_1,nm,kC)) (Be r):=by
 show Run _ _ (Ob (n_1,nm,kC) r) [.code Oc] _
 refine rI 15 [(0,I n_1),(1,I nm),(2,I kC)] [] 1 ?_
 unfold ii at h
 refine cq 10 [10] [B (decide (n_1≥nm))] 81 ?_
 obtain⟨u4,hu4,h⟩:=lJ h
 have j4:Run Ij 0 (Ob (n_1,nm,kC) r) (.code (cR (cR Oc))::[]) (sT 15 [(6,B u4)] [] 1):=by
  obtain rfl:=Option.some.inj h
  exact rP [B u4]
 replace h:=hu4
 clear hu4
 refine sp 10 h rfl ?_ ?_<;>intro h
 ·refine cq 6 [6] [B (decide (n_1≤kC))] 161 ?_
  subst h
  exact rf [6] [] (j4 :)
 ·refine cq 6 [6] [B false] 161 ?_
  subst h
  exact rf [6] [] (j4 :)
theorem iY {G:Go.Ln.Ground}:aP Tryz.prog G 86 ij:=gT 3 0 bC cd Tryz.func86 (fun a r h=>Sp a.1 a.2.1 a.2.2 r h)
noncomputable def js:Ent:=⟨[false,false],ue (ox str) (ox (V.int .u8)) fun s c=>some (I ((Lib.countByte s c.toNat.toUInt8:Nat):Int),[])⟩
theorem Gb {s:ac}{c r:Int}(h:wG s c=some r):js.F [str s,.int .u8 c]=some (I r,[]):=by
 cases h
 simp only[js,ue,Eu bH,Eu Sl,Option.bind_some]
theorem Gc:Extern.findNext Tryz.f266=none:=by kernel_rfl
theorem Gd:Extern.find Tryz.f266=some Extern.BytealgCount.count:=by kernel_rfl
theorem xn {G:Go.Ln.Ground}:aP Tryz.prog G 266 js:=Md (g:=fun s c=>((Lib.countByte s c.toNat.toUInt8:Nat):Int)) Tryz.func266 rfl (by decide) Gc Gd fun s c w=>Lib.run_countString s c w
noncomputable def gE:Ent:=⟨[false,false],ue (ox str) (ox (V.int .u8)) fun s c=>some (I (Lib.indexByte s c.toNat.toUInt8),[])⟩
theorem wI {s:ac}{c r:Int}(h:qC s c=some r):gE.F [str s,.int .u8 c]=some (I r,[]):=by
 cases h
 simp only[gE,ue,Eu bH,Eu Sl,Option.bind_some]
theorem wJ:Extern.findNext Tryz.f286=none:=by kernel_rfl
theorem wK:Extern.find Tryz.f286=some Extern.BytealgIndexByte.indexByte:=by kernel_rfl
theorem tq {G:Go.Ln.Ground}:aP Tryz.prog G 286 gE:=Md (g:=fun s c=>Lib.indexByte s c.toNat.toUInt8) Tryz.func286 rfl (by decide) wJ wK fun s c w=>Lib.run_indexByteString s c w
noncomputable def Bh:(ac×Int)→List V:=cA str (oA (V.int .u8))
noncomputable def Bi (r:Int):V×List V:=(I r,[])
noncomputable def yQ:Ent:=bm [false,false] Bh Bi fun x=>Io x.1 x.2
theorem W7 {s_1:ac}{c_2:Int}{r}(h:Io s_1 c_2=some r):yQ.F (Bh (s_1,c_2))=some (Bi r):=aG (br bH (aH (KD (k:=.u8)))) h
noncomputable def W9:Code:=aD Tryz.f277
noncomputable def Og:Env:=bT Tryz.prog [(286,gE)]
noncomputable def W8 (x:ac×Int)(r:Int):St→Prop:=QF Og Tryz.f277 [false,false] (Bh x) (Bi r)
theorem Sr (s_1:ac)(c_2:Int)(r:Int)(h:Io s_1 c_2=some r):bz Og Tryz.f277 [false,false] 0 (Bh (s_1,c_2)) (Bi r):=by
 show Run _ _ (W8 (s_1,c_2) r) [.code W9] _
 refine rI 8 [(0,str s_1),(1,.int .u8 c_2)] [] 1 ?_
 unfold Io at h
 refine cq 8 [5,6] [str s_1,.int .u8 c_2] 49 ?_
 obtain⟨r3,hr3,h⟩:=bS h
 refine oq 65 (I r3) rfl (cP (wI hr3)) ?_
 refine cq 2 [4] [I r3] 81 ?_
 obtain rfl:=Option.some.inj h
 exact rP [I r3]
theorem Oh {G:Go.Ln.Ground}:aP Tryz.prog G 277 yQ:=gT 2 0 (aL tq bC) cd Tryz.func277 (fun a r h=>Sr a.1 a.2 r h)
noncomputable def Bf:(ac×ac)→List V:=cA str (oA str)
noncomputable def Bg (r:Int):V×List V:=(I r,[])
noncomputable def yP:Ent:=bm [false,false] Bf Bg fun x=>Ik x.1 x.2
theorem W6 {s_1:ac}{aV:ac}{r}(h:Ik s_1 aV=some r):yP.F (Bf (s_1,aV))=some (Bg r):=aG (br bH (aH bH)) h
noncomputable def Im:Code:=aD Tryz.f267
noncomputable def Il:Env:=bT Tryz.prog [(277,yQ)]
noncomputable def Od (x:ac×ac)(r:Int):St→Prop:=QF Il Tryz.f267 [false,false] (Bf x) (Bg r)
theorem Sq (s_1:ac)(aV:ac)(r:Int)(h:Ik s_1 aV=some r):bz Il Tryz.f267 [false,false] 0 (Bf (s_1,aV)) (Bg r):=by
 show Run _ _ (Od (s_1,aV) r) [.code Im] _
 refine rI 143 [(0,str s_1),(1,str aV)] [] 1 ?_
 unfold Ik at h
 refine cq 17 [5,19] [I (len aV),B ((len aV)==0)] 113 ?_
 obtain⟨u3,hu3,h⟩:=lJ h
 have j3:Run Il 0 (Od (s_1,aV) r) (.code (cR (cL (cL (cR (cR Im)))))::.blk 0::.code (cR (cR (cR Im)))::[]) (sT 143 [(0,str s_1),(1,str aV),(5,I (len aV)),(16,B u3)] [] 1):=by
  refine sq h ?_ ?_<;>intro h
  ·refine cq 4 [4] [I (0)] 17 ?_
   obtain rfl:=Option.some.inj h
   exact rP [I (0)]
  ·refine cq 6 [24] [B ((len aV)==1)] 49 ?_
   refine sq h ?_ ?_<;>intro h
   ·refine cq 4 [27,28] [str s_1,str aV] 81 ?_
    obtain⟨c4,hc4,h⟩:=bS h
    refine oq 97 (.int .u8 (c4.toNat:Int)) rfl (mB rfl rfl (qU rfl rfl hc4)) ?_
    obtain⟨r5,hr5,h⟩:=bS h
    refine oq 113 (I r5) rfl (cP (W7 hr5)) ?_
    refine cq 2 [4] [I r5] 129 ?_
    obtain rfl:=Option.some.inj h
    exact rP [I r5]
   ·refine cq 8 [31] [B (decide ((len aV)≥(len s_1)))] 129 ?_
    refine sq h ?_ ?_<;>intro h
    ·refine cq 4 [4] [I (-1)] 145 ?_
     obtain rfl:=Option.some.inj h
     exact rP [I (-1)]
    ·cases h
 replace h:=hu3
 clear hu3
 refine sp 19 h rfl ?_ ?_<;>intro h
 ·refine cq 6 [16] [B true] 193 ?_
  subst h
  exact rf [0,1,5,16] [] (j3 :)
 ·refine cq 6 [16] [B (aV==s_1)] 193 ?_
  subst h
  exact rf [0,1,5,16] [] (j3 :)
theorem Oe {G:Go.Ln.Ground}:aP Tryz.prog G 267 yP:=gT 2 0 (aL Oh bC) cd Tryz.func267 (fun a r h=>Sq a.1 a.2 r h)
noncomputable def DQ:(ac×ac)→List V:=cA str (oA str)
noncomputable def DR (r:Int):V×List V:=(I r,[])
noncomputable def tN:Ent:=bm [false,false] DQ DR fun x=>Fx x.1 x.2
theorem QY {s_1:ac}{aV:ac}{r}(h:Fx s_1 aV=some r):tN.F (DQ (s_1,aV))=some (DR r):=aG (br bH (aH bH)) h
noncomputable def YJ:Code:=aD Tryz.f247
noncomputable def QX:Env:=bT Tryz.prog [(267,yP)]
noncomputable def YI (x:ac×ac)(r:Int):St→Prop:=QF QX Tryz.f247 [false,false] (DQ x) (DR r)
theorem TK (s_1:ac)(aV:ac)(r:Int)(h:Fx s_1 aV=some r):bz QX Tryz.f247 [false,false] 0 (DQ (s_1,aV)) (DR r):=by
 show Run _ _ (YI (s_1,aV) r) [.code YJ] _
 refine rI 8 [(0,str s_1),(1,str aV)] [] 1 ?_
 unfold Fx at h
 refine cq 8 [5,6] [str s_1,str aV] 49 ?_
 obtain⟨r3,hr3,h⟩:=bS h
 refine oq 65 (I r3) rfl (cP (W6 hr3)) ?_
 refine cq 2 [4] [I r3] 81 ?_
 obtain rfl:=Option.some.inj h
 exact rP [I r3]
theorem Gp {G:Go.Ln.Ground}:aP Tryz.prog G 247 tN:=gT 2 0 (aL Oe bC) cd Tryz.func247 (fun a r h=>TK a.1 a.2 r h)
noncomputable def DN:(ac×ac)→List V:=cA str (oA str)
noncomputable def DP (r:Int):V×List V:=(I r,[])
noncomputable def AE:Ent:=bm [false,false] DN DP fun x=>Jb x.1 x.2
theorem YH {s_1:ac}{aV:ac}{r}(h:Jb s_1 aV=some r):AE.F (DN (s_1,aV))=some (DP r):=aG (br bH (aH bH)) h
noncomputable def QV:Code:=aD Tryz.f246
noncomputable def Jc:Env:=bT Tryz.prog [(266,js),(247,tN)]
noncomputable def QU (x:ac×ac)(r:Int):St→Prop:=QF Jc Tryz.f246 [false,false] (DN x) (DP r)
theorem Lr (s_1:ac)(aV:ac):ci Jc 0 (QU (s_1,aV)) (cL (cL (cR (cR (cR (cR QV)))))) 0 (LX s_1 aV) (fun u=>(sT 34 [] [] 1)) fun x5=>(sT 34 [(0,str x5.1),(1,str aV),(5,I x5.2)] [] 1):=dY (Lq s_1 aV) fun {Q K} hK self ih x5 y h hr hn=>by
 unfold qK at h
 refine cq 5 [20,21] [str x5.1,str aV] 33 ?_
 obtain⟨r6,hr6,h⟩:=bS h
 refine oq 49 (I r6) rfl (cP (QY hr6)) ?_
 refine cq 8 [6,24] [I r6,B (r6==(-1))] 97 ?_
 refine sq h ?_ ?_<;>intro h
 ·refine cq 5 [4] [I x5.2] 129 ?_
  exact bW rfl (hr _ (aj h) _ (qp [I x5.2]))
 ·refine aq 1 ?_
  refine cq 12 [5,28,32] [I (au (x5.2+1)),str x5.1,I (au (r6+(len aV)))] 225 ?_
  obtain⟨s7,hs7,h⟩:=bS h
  refine oq 241 (str s7) rfl (gq rfl rfl rfl rfl (Kw rfl rfl rfl hs7)) ?_
  refine cq 3 [0] [str s7] 257 ?_
  refine cW ?_
  exact rf [0,1,5] [] (ih _ _ h hr hn :)
theorem TJ (s_1:ac)(aV:ac)(r:Int)(h:Jb s_1 aV=some r):bz Jc Tryz.f246 [false,false] 0 (DN (s_1,aV)) (DP r):=by
 show Run _ _ (QU (s_1,aV) r) [.code QV] _
 refine rI 34 [(0,str s_1),(1,str aV)] [] 1 ?_
 unfold Jb at h
 refine cq 11 [9] [B ((len aV)==0)] 65 ?_
 refine sq h ?_ ?_<;>intro h
 ·cases h
 ·refine aq 1 ?_
  refine cq 7 [15] [B ((len aV)==1)] 113 ?_
  refine sq h ?_ ?_<;>intro h
  ·refine cq 4 [16,17] [str s_1,str aV] 145 ?_
   obtain⟨c3,hc3,h⟩:=bS h
   refine oq 161 (.int .u8 (c3.toNat:Int)) rfl (mB rfl rfl (qU rfl rfl hc3)) ?_
   obtain⟨r4,hr4,h⟩:=bS h
   refine oq 177 (I r4) rfl (cP (Gb hr4)) ?_
   refine cq 2 [4] [I r4] 193 ?_
   obtain rfl:=Option.some.inj h
   exact rP [I r4]
  ·refine aq 1 ?_
   refine cq 5 [5] [I (0)] 129 ?_
   obtain⟨y8,hy8,hy81,hy82⟩:=bJ h
   refine bM rfl ?_
   refine rf [0,1,5] [] (Lr s_1 aV rfl (s_1,0) _ hy8 (fun r' e st hq=>by rw[hy81 r' e] at hq;exact hq) fun u8 hu=>?_)
   replace h:=hy82 u8 hu
   cases h
theorem QW {G:Go.Ln.Ground}:aP Tryz.prog G 246 AE:=gT 2 0 (aL xn (aL Gp bC)) cd Tryz.func246 (fun a r h=>TJ a.1 a.2 r h)
noncomputable def DU:(ac×ac×Int×Int)→List V:=cA str (cA str (cA I (oA I)))
noncomputable def DW (r:(List ac)):V×List V:=(.usl 1 (r.map str),[])
noncomputable def AH:Ent:=bm [false,false,false,false] DU DW fun x=>Jd x.1 x.2.1 x.2.2.1 x.2.2.2
theorem YN {s_1:ac}{dt:ac}{cO:Int}{n_4:Int}{r}(h:Jd s_1 dt cO n_4=some r):AH.F (DU (s_1,dt,cO,n_4))=some (DW r):=aG (br bH (br bH (br bZ (aH bZ)))) h
noncomputable def Je:Code:=aD Tryz.f227
noncomputable abbrev VP:Code:=cL (cL (cL (cR (cR (cR (cR (cR (cR (cR (cR Je))))))))))
noncomputable def DV:Env:=bT Tryz.prog [(247,tN),(246,AE)]
noncomputable def vR (x:ac×ac×Int×Int)(r:(List ac)):St→Prop:=QF DV Tryz.f227 [false,false,false,false] (DU x) (DW r)
theorem Ls (s_1:ac)(dt:ac)(cO:Int)(n_4:Int)(u5:Int):ci DV 0 (vR (s_1,dt,cO,n_4)) VP 0 (wP s_1 dt cO n_4 u5) (fun u=>(sT 66 [(0,str u.1),(9,.hs 1 0 [] 1 0 (u.2.2.map str).length),(10,I u.2.1)] [⟨0,1,u.2.2.map str⟩] 2)) fun x7=>(sT 66 [(0,str x7.1),(1,str dt),(2,I cO),(3,I (au ((if (au ((len s_1)+1))<u5 then (au ((len s_1)+1)) else u5) - 1))),(9,.hs 1 0 [] 1 0 (x7.2.2.map str).length),(10,I x7.2.1)] [⟨0,1,x7.2.2.map str⟩] 2):=dY (yk s_1 dt cO n_4 u5) fun {Q K} hK self ih x7 y h hr hn=>by
 unfold qL at h
 refine cq 7 [36] [B (decide (x7.2.1<(au ((if (au ((len s_1)+1))<u5 then (au ((len s_1)+1)) else u5) - 1))))] 50 ?_
 refine sq h ?_ ?_<;>intro h
 ·refine aq 1 ?_
  refine cq 5 [37,38] [str x7.1,str dt] 82 ?_
  obtain⟨r8,hr8,h⟩:=bS h
  refine oq 98 (I r8) rfl (cP (QY hr8)) ?_
  refine cq 8 [11,41] [I r8,B (decide (r8<0))] 146 ?_
  refine sq h ?_ ?_<;>intro h
  ·refine aq 1 ?_
   exact rf [0,9,10] [1] (hn _ (aj h) :) (hk:=hK)
  ·refine aq 1 ?_
   refine cq 8 [42,43,44,47] [.hs 1 0 [] 1 0 (x7.2.2.map str).length,I x7.2.1,str x7.1,I (au (r8+cO))] 242 ?_
   obtain⟨s9,hs9,h⟩:=bS h
   refine oq 258 (str s9) rfl (gq rfl rfl rfl rfl (Kw rfl rfl rfl hs9)) ?_
   obtain⟨e10,he10,h⟩:=bS h
   refine oq 274 (.hp 1 0 [] 1 (0+Int.toNat x7.2.1) 0) rfl (ap rfl rfl rfl (ft (f:=str) (xs:=x7.2.2) rfl rfl rfl he10)) ?_
   refine o0 290 rfl rfl (hI rfl rfl (fN (path:=[]) (pl:=true) (e':=str s9) (es2':=(fi x7.2.2 x7.2.1 s9).map str) rfl (fm rfl) rfl rfl rfl aZ (eL (f:=str) (xs:=x7.2.2) he10) rfl rfl rfl (mJ (f:=str) (xs:=x7.2.2) (y:=s9)) eC 0 rfl)) ?_
   try rw[←kF (f:=str) (xs:=x7.2.2) (i:=x7.2.1) (z:=s9)]
   refine cq 8 [50,54] [str x7.1,I (au (r8+(len dt)))] 370 ?_
   obtain⟨s11,hs11,h⟩:=bS h
   refine oq 386 (str s11) rfl (gq rfl rfl rfl rfl (Kw rfl rfl rfl hs11)) ?_
   refine cq 8 [0,10] [str s11,I (au (x7.2.1+1))] 450 ?_
   refine cW ?_
   exact rf [0,1,2,3,9,10] [1] (ih _ _ h hr hn :)
 ·refine aq 1 ?_
  exact rf [0,9,10] [1] (hn _ (aj h) :) (hk:=hK)
theorem TM (s_1:ac)(dt:ac)(cO:Int)(n_4:Int)(r:(List ac))(h:Jd s_1 dt cO n_4=some r):bz DV Tryz.f227 [false,false,false,false] 0 (DU (s_1,dt,cO,n_4)) (DW r):=by
 show Run _ _ (vR (s_1,dt,cO,n_4) r) [.code Je] _
 refine rI 66 [(0,str s_1),(1,str dt),(2,I cO),(3,I n_4)] [] 1 ?_
 unfold Jd at h
 refine cq 10 [13] [B (n_4==0)] 49 ?_
 refine sq h ?_ ?_<;>intro h
 ·refine cq 4 [8] [.isl true []] 65 ?_
  refine WV 8 0 1 81 (.hs 65 0 [] 1 0 0) rfl rfl rfl rfl rfl ?_
  obtain rfl:=Option.some.inj h
  exact bW rfl ⟨_,fin (vs:=[.hs 65 0 [] 1 0 0]) rfl (fg (eV rfl (cZ (k:=0) (es:=[]) rfl rfl)) ey) rfl (eT (eT (eT (eT fB)))),fh⟩
 ·refine aq 1 ?_
  refine cq 6 [15] [B (dt==([]:ac))] 81 ?_
  refine sq h ?_ ?_<;>intro h
  ·cases h
  ·refine aq 1 ?_
   refine cq 6 [20] [B (decide (n_4<0))] 113 ?_
   obtain⟨y5,hy5,hy51,hy52⟩:=bJ h
   have j5:∀u5,y5=.inr u5→Run DV 0 (vR (s_1,dt,cO,n_4) r) (.code (cR (cR (cR (cR Je))))::[]) (sT 66 [(0,str s_1),(1,str dt),(2,I cO),(3,I u5)] [] 1):=by
    intro u5 hu
    replace h:=hy52 u5 hu
    refine cq 12 [3,30] [I (if (au ((len s_1)+1))<u5 then (au ((len s_1)+1)) else u5),I (if (au ((len s_1)+1))<u5 then (au ((len s_1)+1)) else u5)] 113 ?_
    obtain⟨m6,hm6,h⟩:=bS h
    refine oq 129 (.hs 113 0 [] 1 0 (m6.map str).length) rfl (jI rfl rfl (EI (f:=str) rfl rfl rfl (by decide) hm6 rfl)) ?_
    refine cq 14 [3,9,10] [I (au ((if (au ((len s_1)+1))<u5 then (au ((len s_1)+1)) else u5) - 1)),.hs 113 0 [] 1 0 (m6.map str).length,I (0)] 209 ?_
    obtain⟨y12,hy12,hy121,hy122⟩:=bJ h
    refine bM rfl ?_
    refine rf [0,1,2,3,9,10] [113] (Ls s_1 dt cO n_4 u5 rfl (s_1,0,m6) _ hy12 (fun r' e st hq=>by rw[hy121 r' e] at hq;exact hq) fun u12 hu=>?_)
    replace h:=hy122 u12 hu
    refine cq 5 [58,59,60] [.hs 1 0 [] 1 0 (u12.2.2.map str).length,I u12.2.1,str u12.1] 50 ?_
    obtain⟨e13,he13,h⟩:=bS h
    refine oq 66 (.hp 1 0 [] 1 (0+Int.toNat u12.2.1) 0) rfl (ap rfl rfl rfl (ft (f:=str) (xs:=u12.2.2) rfl rfl rfl he13)) ?_
    refine o0 82 rfl rfl (hI rfl rfl (fN (path:=[]) (pl:=true) (e':=str u12.1) (es2':=(fi u12.2.2 u12.2.1 u12.1).map str) rfl (fm rfl) rfl rfl rfl aZ (eL (f:=str) (xs:=u12.2.2) he13) rfl rfl rfl (mJ (f:=str) (xs:=u12.2.2) (y:=u12.1)) eC 0 rfl)) ?_
    try rw[←kF (f:=str) (xs:=u12.2.2) (i:=u12.2.1) (z:=u12.1)]
    refine cq 6 [62,64] [.hs 1 0 [] 1 0 ((fi u12.2.2 u12.2.1 u12.1).map str).length,I (au (u12.2.1+1))] 130 ?_
    obtain⟨s14,hs14,h⟩:=bS h
    refine oq 146 (.hs 1 0 [] 1 (0+Int.toNat (0)) (Int.toNat (au (u12.2.1+1)) - Int.toNat (0))) rfl (gq rfl rfl rfl rfl (pc (f:=str) (xs:=(fi u12.2.2 u12.2.1 u12.1)) rfl rfl rfl rfl rfl hs14)) ?_
    refine cq 2 [8] [.hs 1 0 [] 1 (0+Int.toNat (0)) (Int.toNat (au (u12.2.1+1)) - Int.toNat (0))] 162 ?_
    obtain⟨p15,hp15,h⟩:=bS h
    obtain rfl:=Option.some.inj h
    exact bW rfl ⟨_,fin (vs:=[.hs 1 0 [] 1 (0+Int.toNat (0)) (Int.toNat (au (u12.2.1+1)) - Int.toNat (0))]) rfl (fg (eV rfl (Rc (path:=[]) (f:=str) (xs:=(fi u12.2.2 u12.2.1 u12.1)) rfl rfl aZ hp15 rfl po)) ey) rfl (eT (eT (eT (eT fB)))),fh⟩
   have r5:∀r',y5=.inl r'→∀st,vR (s_1,dt,cO,n_4) r' st→(vR (s_1,dt,cO,n_4) r) st:=fun r' e st hq=>by rw[hy51 r' e] at hq;exact hq
   replace h:=hy5
   refine sq h ?_ ?_<;>intro h
   ·refine cq 3 [21,22] [str s_1,str dt] 145 ?_
    obtain⟨r16,hr16,h⟩:=bS h
    refine oq 161 (I r16) rfl (cP (YH hr16)) ?_
    refine cq 3 [3] [I (au (r16+1))] 193 ?_
    exact rf [0,1,2,3] [] (j5 _ (aj h) :)
   ·refine aq 1 ?_
    exact rf [0,1,2,3] [] (j5 _ (aj h) :)
theorem Q1 {G:Go.Ln.Ground}:aP Tryz.prog G 227 AH:=gT 4 0 (aL Gp (aL QW bC)) cd Tryz.func227 (fun a r h=>TM a.1 a.2.1 a.2.2.1 a.2.2.2 r h)
noncomputable def DS:(ac×ac)→List V:=cA str (oA str)
noncomputable def DT (r:(List ac)):V×List V:=(.usl 1 (r.map str),[])
noncomputable def AG:Ent:=bm [false,false] DS DT fun x=>AF x.1 x.2
theorem YK {s_1:ac}{dt:ac}{r}(h:AF s_1 dt=some r):AG.F (DS (s_1,dt))=some (DT r):=aG (br bH (aH bH)) h
noncomputable def YM:Code:=aD Tryz.f201
noncomputable def QZ:Env:=bT Tryz.prog [(227,AH)]
noncomputable def YL (x:ac×ac)(r:(List ac)):St→Prop:=QF QZ Tryz.f201 [false,false] (DS x) (DT r)
theorem TL (s_1:ac)(dt:ac)(r:(List ac))(h:AF s_1 dt=some r):bz QZ Tryz.f201 [false,false] 0 (DS (s_1,dt)) (DT r):=by
 show Run _ _ (YL (s_1,dt) r) [.code YM] _
 refine rI 8 [(0,str s_1),(1,str dt)] [] 1 ?_
 unfold AF at h
 refine cq 8 [5,6] [str s_1,str dt] 49 ?_
 obtain⟨r3,hr3,h⟩:=bS h
 refine oq 65 (.hs 49 0 [] 1 0 (r3.map str).length) rfl (cP (YN hr3)) ?_
 refine cq 2 [4] [.hs 49 0 [] 1 0 (r3.map str).length] 81 ?_
 obtain rfl:=Option.some.inj h
 exact bW rfl ⟨_,fin (vs:=[.hs 49 0 [] 1 0 (r3.map str).length]) rfl (fg (eV rfl (cZ rfl rfl)) ey) rfl (eT (eT fB)),fh⟩
theorem Q0 {G:Go.Ln.Ground}:aP Tryz.prog G 201 AG:=gT 2 0 (aL Q1 bC) cd Tryz.func201 (fun a r h=>TL a.1 a.2 r h)
noncomputable def CI:((List ac)×ac)→List V:=cA (fj str) (oA str)
noncomputable def CJ (r:Int):V×List V:=(I r,[])
noncomputable def zU:Ent:=bm [false,false] CI CJ fun x=>zT x.1 x.2
theorem Yk {s_1:List ac}{v_2:ac}{r}(h:zT s_1 v_2=some r):zU.F (CI (s_1,v_2))=some (CJ r):=aG (br (bR bH) (aH bH)) h
noncomputable def P4:Code:=aD Tryz.f189
noncomputable def IQ:Env:=bT Tryz.prog []
noncomputable def P3 (x:(List ac)×ac)(r:Int):St→Prop:=QF IQ Tryz.f189 [false,false] (CI x) (CJ r)
theorem KZ (s_1:List ac)(v_2:ac):ci IQ 0 (P3 (s_1,v_2)) (cL (cL (cR (cL (cR P4))))) 0 (pO s_1 v_2) (fun u=>(sT 19 [] [] 1)) fun x3=>(sT 19 [(0,.isl false (s_1.map str)),(1,str v_2),(7,I (len s_1)),(8,I x3)] [] 1):=dY (xL s_1 v_2) fun {Q K} hK self ih x3 y h hr hn=>by
 unfold kc at h
 refine cq 5 [9] [B (decide (x3<(len s_1)))] 17 ?_
 refine sq h ?_ ?_<;>intro h
 ·refine aq 1 ?_
  refine cq 12 [5,11,12,13] [I x3,str v_2,.isl false (s_1.map str),I x3] 97 ?_
  obtain⟨e4,he4,h⟩:=bS h
  refine oq 113 (.iptr (str e4) 0) rfl (ap rfl rfl rfl (aY rfl rfl rfl rfl he4)) ?_
  refine cq 3 [16] [B (v_2==e4)] 145 ?_
  refine sq h ?_ ?_<;>intro h
  ·refine cq 5 [4] [I x3] 177 ?_
   exact bW rfl (hr _ (aj h) _ (qp [I x3]))
  ·refine aq 1 ?_
   refine cq 5 [8] [I (au (x3+1))] 177 ?_
   refine cW ?_
   exact rf [0,1,7,8] [] (ih _ _ h hr hn :)
 ·refine aq 1 ?_
  exact rf [] [] (hn _ (aj h) :) (hk:=hK)
theorem Tb (s_1:List ac)(v_2:ac)(r:Int)(h:zT s_1 v_2=some r):bz IQ Tryz.f189 [false,false] 0 (CI (s_1,v_2)) (CJ r):=by
 show Run _ _ (P3 (s_1,v_2) r) [.code P4] _
 refine rI 19 [(0,.isl false (s_1.map str)),(1,str v_2)] [] 1 ?_
 unfold zT at h
 refine cq 8 [6] [.isl false (s_1.map str)] 33 ?_
 refine oq 49 (I (len s_1)) rfl (bd rfl rfl rfl (bw rfl)) ?_
 refine cq 3 [8] [I (0)] 65 ?_
 obtain⟨y5,hy5,hy51,hy52⟩:=bJ h
 refine bM rfl ?_
 refine rf [0,1,7,8] [] (KZ s_1 v_2 rfl 0 _ hy5 (fun r' e st hq=>by rw[hy51 r' e] at hq;exact hq) fun u5 hu=>?_)
 replace h:=hy52 u5 hu
 refine cq 4 [4] [I (-1)] 17 ?_
 obtain rfl:=Option.some.inj h
 exact rP [I (-1)]
theorem P5 {G:Go.Ln.Ground}:aP Tryz.prog G 189 zU:=gT 2 0 bC cd Tryz.func189 (fun a r h=>Tb a.1 a.2 r h)
noncomputable def Cw:((List ac)×ac)→List V:=cA (fj str) (oA str)
noncomputable def Cx (r:Bool):V×List V:=(B r,[])
noncomputable def pW:Ent:=bm [false,false] Cw Cx fun x=>pV x.1 x.2
theorem IJ {s_1:List ac}{v_2:ac}{r}(h:pV s_1 v_2=some r):pW.F (Cw (s_1,v_2))=some (Cx r):=aG (br (bR bH) (aH bH)) h
noncomputable def Ye:Code:=aD Tryz.f130
noncomputable def PN:Env:=bT Tryz.prog [(189,zU)]
noncomputable def Yd (x:(List ac)×ac)(r:Bool):St→Prop:=QF PN Tryz.f130 [false,false] (Cw x) (Cx r)
theorem S5 (s_1:List ac)(v_2:ac)(r:Bool)(h:pV s_1 v_2=some r):bz PN Tryz.f130 [false,false] 0 (Cw (s_1,v_2)) (Cx r):=by
 show Run _ _ (Yd (s_1,v_2) r) [.code Ye] _
 refine rI 9 [(0,.isl false (s_1.map str)),(1,str v_2)] [] 1 ?_
 unfold pV at h
 refine cq 8 [5,6] [.isl false (s_1.map str),str v_2] 49 ?_
 obtain⟨r3,hr3,h⟩:=bS h
 refine oq 65 (I r3) rfl (cP (Yk hr3)) ?_
 refine cq 3 [4] [B (decide (r3≥0))] 97 ?_
 obtain rfl:=Option.some.inj h
 exact rP [B (decide (r3≥0))]
theorem vu {G:Go.Ln.Ground}:aP Tryz.prog G 130 pW:=gT 2 0 (aL P5 bC) cd Tryz.func130 (fun a r h=>S5 a.1 a.2 r h)
noncomputable def Hk:ac→List V:=oA str
noncomputable def Hl (r:Bool):V×List V:=(B r,[])
noncomputable def pM:Ent:=bm [false] Hk Hl fun x=>uL x
theorem B0 {s_1:ac}{r}(h:uL s_1=some r):pM.F (Hk s_1)=some (Hl r):=aG (aH bH) h
noncomputable def wL:Code:=aD Tryz.f159
noncomputable abbrev pU:Code:=cL (cL (cR (cL (cR (cR wL)))))
noncomputable abbrev B1:Code:=cR (cR (cR pU))
noncomputable abbrev B2:Code:=cR (cR (cR (cL (cL (cR (cR pU))))))
noncomputable def pr:Env:=bT Tryz.prog [(86,ij),(201,AG),(130,pW)]
noncomputable def qH (x:ac)(r:Bool):St→Prop:=QF pr Tryz.f159 [false] (Hk x) (Hl r)
theorem MJ (s_1:ac):ci pr 0 (qH s_1) pU 0 (vn s_1) (fun u=>(sT 46 [(0,str s_1)] [] 1)) fun x4=>(sT 46 [(0,str s_1),(20,I (len s_1)),(21,I x4)] [] 1):=dY (B3 s_1) fun {Q K} hK self ih x4 y h hr hn=>by
 unfold nN at h
 refine cq 5 [22] [B (decide (x4<(len s_1)))] 17 ?_
 refine sq h ?_ ?_<;>intro h
 ·refine aq 1 ?_
  refine cq 11 [24,25] [str s_1,I x4] 81 ?_
  obtain⟨c5,hc5,h⟩:=bS h
  refine oq 97 (.int .u8 (c5.toNat:Int)) rfl (mB rfl rfl (qU rfl rfl hc5)) ?_
  refine cq 7 [4,29] [.int .u8 (c5.toNat:Int),B (decide ((c5.toNat:Int)<97))] 161 ?_
  obtain⟨u6,hu6,h⟩:=lJ h
  have j6:Run pr 0 Q (.code B2::.blk 1::.code B1::.lp pU::.blk 0::K) (sT 46 [(0,str s_1),(20,I (len s_1)),(21,I x4),(40,B u6)] [] 1):=by
   refine sq h ?_ ?_<;>intro h
   ·refine cq 4 [2] [B false] 17 ?_
    exact bW rfl (hr _ (aj h) _ (qp [B false]))
   ·refine aq 1 ?_
    refine cq 5 [21] [I (au (x4+1))] 33 ?_
    refine cW ?_
    exact rf [0,20,21] [] (ih _ _ h hr hn :)
  replace h:=hu6
  clear hu6
  refine sp 29 h rfl ?_ ?_<;>intro h
  ·refine cq 7 [33,36] [B true,B (decide ((c5.toNat:Int)<48))] 273 ?_
   obtain⟨u7,hu7,h⟩:=lJ h
   have j7:Run pr 0 Q (.code B2::.blk 1::.code B1::.lp pU::.blk 0::K) (sT 46 [(0,str s_1),(20,I (len s_1)),(21,I x4),(40,B u7)] [] 1):=by
    subst h
    exact rf [0,20,21,40] [] (j6 :)
   replace h:=hu7
   clear hu7
   refine sp 36 h rfl ?_ ?_<;>intro h
   ·refine cq 5 [40] [B true] 337 ?_
    subst h
    exact rf [0,20,21,40] [] (j7 :)
   ·refine cq 5 [40] [B (decide ((c5.toNat:Int)>57))] 337 ?_
    subst h
    exact rf [0,20,21,40] [] (j7 :)
  ·refine cq 4 [33] [B (decide ((c5.toNat:Int)>122))] 225 ?_
   obtain⟨u8,hu8,h⟩:=lJ h
   have j8:Run pr 0 Q (.code B2::.blk 1::.code B1::.lp pU::.blk 0::K) (sT 46 [(0,str s_1),(20,I (len s_1)),(21,I x4),(40,B u8)] [] 1):=by
    subst h
    exact rf [0,20,21,40] [] (j6 :)
   replace h:=hu8
   clear hu8
   refine sp 33 h rfl ?_ ?_<;>intro h
   ·refine cq 3 [36] [B (decide ((c5.toNat:Int)<48))] 273 ?_
    obtain⟨u9,hu9,h⟩:=lJ h
    have j9:Run pr 0 Q (.code B2::.blk 1::.code B1::.lp pU::.blk 0::K) (sT 46 [(0,str s_1),(20,I (len s_1)),(21,I x4),(40,B u9)] [] 1):=by
     subst h
     exact rf [0,20,21,40] [] (j8 :)
    replace h:=hu9
    clear hu9
    refine sp 36 h rfl ?_ ?_<;>intro h
    ·refine cq 5 [40] [B true] 337 ?_
     subst h
     exact rf [0,20,21,40] [] (j9 :)
    ·refine cq 5 [40] [B (decide ((c5.toNat:Int)>57))] 337 ?_
     subst h
     exact rf [0,20,21,40] [] (j9 :)
   ·refine cq 8 [40] [B false] 337 ?_
    subst h
    exact rf [0,20,21,40] [] (j8 :)
 ·refine aq 1 ?_
  exact rf [0] [] (hn _ (aj h) :) (hk:=hK)
theorem VJ (s_1:ac)(r:Bool)(h:uL s_1=some r):bz pr Tryz.f159 [false] 0 (Hk s_1) (Hl r):=by
 show Run _ _ (qH s_1 r) [.code wL] _
 refine rI 46 [(0,str s_1)] [] 1 ?_
 unfold uL at h
 refine cq 9 [6] [I (len s_1)] 49 ?_
 obtain⟨r2,hr2,h⟩:=bS h
 refine oq 65 (B r2) rfl (cP (hZ hr2)) ?_
 refine cq 2 [9] [B (!r2)] 97 ?_
 obtain⟨y3,hy3,hy31,hy32⟩:=bJ h
 have j3:∀u3,y3=.inr u3→Run pr 0 (qH s_1 r) (.code (cR (cL (cR wL)))::.code (cR (cR wL))::[]) (sT 46 [(0,str s_1),(18,B u3)] [] 1):=by
  intro u3 hu
  replace h:=hy32 u3 hu
  refine sq h ?_ ?_<;>intro h
  ·refine cq 4 [2] [B false] 17 ?_
   obtain rfl:=Option.some.inj h
   exact rP [B false]
  ·refine aq 1 ?_
   refine cq 8 [20,21] [I (len s_1),I (0)] 49 ?_
   obtain⟨y10,hy10,hy101,hy102⟩:=bJ h
   refine bM rfl ?_
   refine rf [0,20,21] [] (MJ s_1 rfl 0 _ hy10 (fun r' e st hq=>by rw[hy101 r' e] at hq;exact hq) fun u10 hu=>?_)
   replace h:=hy102 u10 hu
   refine aq 2 ?_
   obtain⟨r11,hr11,h⟩:=bS h
   refine oq 17 (.hs 1 0 [] 1 0 (r11.map str).length) rfl (cP (YK hr11)) ?_
   refine cq 1 [43] [str s_1] 33 ?_
   obtain⟨r12,hr12,h⟩:=bS h
   refine oq 49 (B r12) rfl (cG rfl rfl (cY rfl rfl rfl (cy (sh1 rfl rfl (eQ (f:=str) (g:=str) (xs:=r11) rfl rfl (cw fb))) (cy (dw rfl) dP)) (IJ hr12) (.inl rfl) eh rfl rfl rfl)) ?_
   refine cq 3 [2] [B (!r12)] 81 ?_
   obtain rfl:=Option.some.inj h
   exact rP [B (!r12)]
 have r3:∀r',y3=.inl r'→∀st,qH s_1 r' st→(qH s_1 r) st:=fun r' e st hq=>by rw[hy31 r' e] at hq;exact hq
 replace h:=hy3
 refine sp 9 h rfl ?_ ?_<;>intro h
 ·refine cq 10 [18] [B true] 241 ?_
  exact rf [0,18] [] (j3 _ (aj h) :)
 ·refine cq 1 [10] [str s_1] 113 ?_
  obtain⟨c13,hc13,h⟩:=bS h
  refine oy 129 (.int .u8 (c13.toNat:Int)) rfl (mB rfl rfl (qU rfl rfl hc13)) ?_
  refine cq 3 [14] [B (decide ((c13.toNat:Int)<97))] 177 ?_
  obtain⟨y14,hy14,hy141,hy142⟩:=bL h
  have j14:∀u14,y14=.inr u14→Run pr 0 (qH s_1 r) (.code (cR (cL (cR wL)))::.code (cR (cR wL))::[]) (sT 46 [(0,str s_1),(18,B u14)] [] 1):=by
   intro u14 hu
   replace h:=hy142 u14 hu
   exact rf [0,18] [] (j3 _ (aj h) :)
  have r14:∀r',y14=.inl r'→∀st,qH s_1 r' st→(qH s_1 r) st:=fun r' e st hq=>r3 r' (hy141 r' e) st hq
  replace h:=hy14
  refine sp 14 h rfl ?_ ?_<;>intro h
  ·refine cq 5 [18] [B true] 241 ?_
   exact rf [0,18] [] (j14 _ (aj h) :)
  ·refine cq 1 [15] [str s_1] 193 ?_
   obtain⟨c15,hc15,h⟩:=bS h
   refine oy 209 (.int .u8 (c15.toNat:Int)) rfl (mB rfl rfl (qU rfl rfl hc15)) ?_
   refine cq 3 [18] [B (decide ((c15.toNat:Int)>122))] 241 ?_
   exact rf [0,18] [] (j14 _ (aj h) :)
theorem tx {G:Go.Ln.Ground}:aP Tryz.prog G 159 pM:=gT 1 0 (aL iY (aL Q0 (aL vu bC))) cd Tryz.func159 (fun a r h=>VJ a r h)
noncomputable def Ht:(List ac)→List V:=oA (fj str)
noncomputable def Hv (r:Bool):V×List V:=(B r,[])
noncomputable def FB:Ent:=bm [false] Ht Hv fun x=>Jg x
theorem Zu {ao:List ac}{r}(h:Jg ao=some r):FB.F (Ht ao)=some (Hv r):=aG (aH (bR bH)) h
noncomputable def D5:Code:=aD Tryz.f123
noncomputable def Hu:Env:=bT Tryz.prog [(159,pM),(130,pW),(86,ij)]
noncomputable def M4 (x:(List ac))(r:Bool):St→Prop:=QF Hu Tryz.f123 [false] (Ht x) (Hv r)
theorem M5 (ao:List ac):ci Hu 0 (M4 ao) (cL (cL (cR (cL (cR D5))))) 0 (vS ao) (fun u=>(sT 26 [(0,.isl false (ao.map str))] [] 1)) fun x2=>(sT 26 [(0,.isl false (ao.map str)),(5,.isl false (ao.map str)),(6,I (len ao)),(7,I x2)] [] 1):=dY (D6 ao) fun {Q K} hK self ih x2 y h hr hn=>by
 unfold lN at h
 refine cq 5 [8] [B (decide (x2<(len ao)))] 17 ?_
 refine sq h ?_ ?_<;>intro h
 ·refine aq 1 ?_
  refine cq 5 [9] [I x2] 33 ?_
  obtain⟨e3,he3,h⟩:=bS h
  refine oq 49 (.iptr (str e3) 0) rfl (ap rfl rfl rfl (aY rfl rfl rfl rfl he3)) ?_
  refine cq 7 [3,4,12] [I x2,str e3,str e3] 113 ?_
  obtain⟨r4,hr4,h⟩:=bS h
  refine oq 129 (B r4) rfl (cP (B0 hr4)) ?_
  refine cq 2 [15] [B (!r4)] 161 ?_
  obtain⟨y5,hy5,hy51,hy52⟩:=bL h
  have j5:∀u5,y5=.inr u5→Run Hu 0 Q (.code (cR (cR (cL (cL (cR (cR (cL (cL (cR (cL (cR D5)))))))))))::.blk 1::.code (cR (cR (cR (cL (cL (cR (cL (cR D5))))))))::.lp (cL (cL (cR (cL (cR D5)))))::.blk 0::K) (sT 26 [(0,.isl false (ao.map str)),(5,.isl false (ao.map str)),(6,I (len ao)),(7,I x2),(21,B u5)] [] 1):=by
   intro u5 hu
   replace h:=hy52 u5 hu
   refine sq h ?_ ?_<;>intro h
   ·refine cq 4 [2] [B false] 17 ?_
    exact bW rfl (hr _ (aj h) _ (qp [B false]))
   ·refine aq 1 ?_
    refine cq 5 [7] [I (au (x2+1))] 33 ?_
    refine cW ?_
    exact rf [0,5,6,7] [] (ih _ _ h hr hn :)
  have r5:∀r',y5=.inl r'→∀st,M4 ao r' st→Q st:=fun r' e st hq=>hr r' (hy51 r' e) st hq
  replace h:=hy5
  refine sp 15 h rfl ?_ ?_<;>intro h
  ·refine cq 7 [21] [B true] 257 ?_
   exact rf [0,5,6,7,21] [] (j5 _ (aj h) :)
  ·refine cq 2 [16,17] [.isl false (ao.map str),I x2] 193 ?_
   obtain⟨s6,hs6,h⟩:=bS h
   refine oy 209 (.isl false (s6.map str)) rfl (gq rfl rfl rfl rfl (Kv rfl rfl (fun y=>(kM y).1) rfl rfl hs6)) ?_
   refine cq 1 [19] [str e3] 225 ?_
   obtain⟨r7,hr7,h⟩:=bS h
   refine oy 241 (B r7) rfl (cP (IJ hr7)) ?_
   refine cq 2 [21] [B r7] 257 ?_
   exact rf [0,5,6,7,21] [] (j5 _ (aj h) :)
 ·refine aq 1 ?_
  exact rf [0] [] (hn _ (aj h) :) (hk:=hK)
theorem VV (ao:List ac)(r:Bool)(h:Jg ao=some r):bz Hu Tryz.f123 [false] 0 (Ht ao) (Hv r):=by
 show Run _ _ (M4 ao r) [.code D5] _
 refine rI 26 [(0,.isl false (ao.map str))] [] 1 ?_
 unfold Jg at h
 refine cq 8 [5] [.isl false (ao.map str)] 33 ?_
 refine oq 49 (I (len ao)) rfl (bd rfl rfl rfl (bw rfl)) ?_
 refine cq 3 [7] [I (0)] 65 ?_
 obtain⟨y8,hy8,hy81,hy82⟩:=bJ h
 refine bM rfl ?_
 refine rf [0,5,6,7] [] (M5 ao rfl 0 _ hy8 (fun r' e st hq=>by rw[hy81 r' e] at hq;exact hq) fun u8 hu=>?_)
 replace h:=hy82 u8 hu
 refine cq 3 [23] [.isl false (ao.map str)] 17 ?_
 refine oq 33 (I (len ao)) rfl (bd rfl rfl rfl (bw rfl)) ?_
 obtain⟨r9,hr9,h⟩:=bS h
 refine oq 49 (B r9) rfl (cP (hZ hr9)) ?_
 refine cq 2 [2] [B r9] 65 ?_
 obtain rfl:=Option.some.inj h
 exact rP [B r9]
theorem TR {G:Go.Ln.Ground}:aP Tryz.prog G 123 FB:=gT 1 0 (aL tx (aL vu (aL iY bC))) cd Tryz.func123 (fun a r h=>VV a r h)
noncomputable def Hy:(Clause×ac)→List V:=cA an (oA (fun x:ac=>.iptr (str x) 0))
noncomputable def Hz (r:Bool):V×List V:=(B r,[])
noncomputable def FD:Ent:=bm [false,false] Hy Hz fun x=>Q6 x.1 x.2
theorem Zx {x_1:Clause}{a_2:ac}{r}(h:Q6 x_1 a_2=some r):FD.F (Hy (x_1,a_2))=some (Hz r):=aG (br dh (aH (qt bH))) h
noncomputable def Zz:Code:=aD Tryz.f217
noncomputable def Vf:Env:=bT Tryz.prog []
noncomputable def Zy (x:Clause×ac)(r:Bool):St→Prop:=QF Vf Tryz.f217 [false,false] (Hy x) (Hz r)
theorem VX (x_1:Clause)(a_2:ac)(r:Bool)(h:Q6 x_1 a_2=some r):bz Vf Tryz.f217 [false,false] 0 (Hy (x_1,a_2)) (Hz r):=by
 show Run _ _ (Zy (x_1,a_2) r) [.code Zz] _
 refine rI 8 [(0,ar x_1),(1,.iptr (str a_2) 0)] [] 1 ?_
 unfold Q6 at h
 refine cq 13 [3] [B (x_1.Id==a_2)] 113 ?_
 obtain rfl:=Option.some.inj h
 exact rP [B (x_1.Id==a_2)]
theorem TU {G:Go.Ln.Ground}:aP Tryz.prog G 217 FD:=gT 2 0 bC cd Tryz.func217 (fun a r h=>VX a.1 a.2 r h)
noncomputable def Cy:((List Clause)×ac)→List V:=cA (fj an) (oA (fun x:ac=>(.fn 217 [.iptr (str x) 0]:V)))
noncomputable def Cz (r:Int):V×List V:=(I r,[])
noncomputable def zO:Ent:=bm [false,false] Cy Cz fun x=>Fm x.1 x.2
theorem Yf {s_1:List Clause}{f_2:ac}{r}(h:Fm s_1 f_2=some r):zO.F (Cy (s_1,f_2))=some (Cz r):=aG (br (bR dh) (aH (sU bH))) h
noncomputable def PP:Code:=aD Tryz.f160
noncomputable def IK:Env:=bT Tryz.prog [(217,FD)]
noncomputable def PO (x:(List Clause)×ac)(r:Int):St→Prop:=QF IK Tryz.f160 [false,false] (Cy x) (Cz r)
theorem KU (s_1:List Clause)(f_2:ac):ci IK 0 (PO (s_1,f_2)) (cL (cL (cR (cL (cR PP))))) 0 (rZ s_1 f_2) (fun u=>(sT 19 [] [] 1)) fun x3=>(sT 19 [(0,.isl false (s_1.map an)),(1,.fn 217 [.iptr (str f_2) 0]),(7,I (len s_1)),(8,I x3)] [] 1):=dY (xG s_1 f_2) fun {Q K} hK self ih x3 y h hr hn=>by
 unfold md at h
 refine cq 5 [9] [B (decide (x3<(len s_1)))] 17 ?_
 refine sq h ?_ ?_<;>intro h
 ·refine aq 1 ?_
  refine cq 12 [5,11,12,13] [I x3,.fn 217 [.iptr (str f_2) 0],.isl false (s_1.map an),I x3] 97 ?_
  obtain⟨e4,he4,h⟩:=bS h
  refine oq 113 (.iptr (ar e4) 0) rfl (ap rfl rfl rfl (aY rfl rfl rfl rfl he4)) ?_
  refine cq 1 [15] [ar e4] 129 ?_
  obtain⟨r5,hr5,h⟩:=bS h
  refine oq 145 (B r5) rfl (cP (Zx hr5)) ?_
  refine aq 1 ?_
  refine sq h ?_ ?_<;>intro h
  ·refine cq 5 [4] [I x3] 177 ?_
   exact bW rfl (hr _ (aj h) _ (qp [I x3]))
  ·refine aq 1 ?_
   refine cq 5 [8] [I (au (x3+1))] 177 ?_
   refine cW ?_
   exact rf [0,1,7,8] [] (ih _ _ h hr hn :)
 ·refine aq 1 ?_
  exact rf [] [] (hn _ (aj h) :) (hk:=hK)
theorem S6 (s_1:List Clause)(f_2:ac)(r:Int)(h:Fm s_1 f_2=some r):bz IK Tryz.f160 [false,false] 0 (Cy (s_1,f_2)) (Cz r):=by
 show Run _ _ (PO (s_1,f_2) r) [.code PP] _
 refine rI 19 [(0,.isl false (s_1.map an)),(1,.fn 217 [.iptr (str f_2) 0])] [] 1 ?_
 unfold Fm at h
 refine cq 8 [6] [.isl false (s_1.map an)] 33 ?_
 refine oq 49 (I (len s_1)) rfl (bd rfl rfl rfl (bw rfl)) ?_
 refine cq 3 [8] [I (0)] 65 ?_
 obtain⟨y6,hy6,hy61,hy62⟩:=bJ h
 refine bM rfl ?_
 refine rf [0,1,7,8] [] (KU s_1 f_2 rfl 0 _ hy6 (fun r' e st hq=>by rw[hy61 r' e] at hq;exact hq) fun u6 hu=>?_)
 replace h:=hy62 u6 hu
 refine cq 4 [4] [I (-1)] 17 ?_
 obtain rfl:=Option.some.inj h
 exact rP [I (-1)]
theorem PQ {G:Go.Ln.Ground}:aP Tryz.prog G 160 zO:=gT 2 0 (aL TU bC) cd Tryz.func160 (fun a r h=>S6 a.1 a.2 r h)
noncomputable def Hw:(Contract×ac)→List V:=cA aM (oA str)
noncomputable def Hx (r:Int):V×List V:=(I r,[])
noncomputable def FC:Ent:=bm [false,false] Hw Hx fun x=>D7 x.1 x.2
theorem Ve {c_1:Contract}{ek:ac}{r}(h:D7 c_1 ek=some r):FC.F (Hw (c_1,ek))=some (Hx r):=aG (br ba (aH bH)) h
noncomputable def Zw:Code:=aD Tryz.f184
noncomputable def Vd:Env:=bT Tryz.prog [(160,zO)]
noncomputable def Zv (x:Contract×ac)(r:Int):St→Prop:=QF Vd Tryz.f184 [false,false] (Hw x) (Hx r)
theorem VW (c_1:Contract)(ek:ac)(r:Int)(h:D7 c_1 ek=some r):bz Vd Tryz.f184 [false,false] 0 (Hw (c_1,ek)) (Hx r):=by
 show Run _ _ (Zv (c_1,ek) r) [.code Zw] _
 refine rI 9 [(0,aa c_1),(1,str ek)] [] 1 ?_
 unfold D7 at h
 refine ck 11 [6,7] [] [17] [] [.isl false (c_1.Clauses.map an),.fn 217 [.hp 17 0 [] 1 0 0]] [some ⟨0,1,[str ek]⟩] 97 (by kernel_rfl) ?_
 obtain⟨r3,hr3,h⟩:=bS h
 refine oq 113 (I r3) rfl (cG rfl rfl (cY rfl rfl rfl (cy (dw rfl) (cy (Ks (dX (wD (path:=[]) rfl rfl aZ rfl rfl) ly)) dP)) (Yf hr3) (.inl rfl) eh rfl rfl rfl)) ?_
 refine cq 2 [4] [I r3] 129 ?_
 obtain rfl:=Option.some.inj h
 exact rP [I r3]
theorem TS {G:Go.Ln.Ground}:aP Tryz.prog G 184 FC:=gT 2 0 (aL PQ bC) cd Tryz.func184 (fun a r h=>VW a.1 a.2 r h)
noncomputable def HG:Int→List V:=oA I
noncomputable def HH (r:Bool):V×List V:=(B r,[])
noncomputable def pR:Ent:=bm [false] HG HH fun x=>my x
theorem qM {ga:Int}{r}(h:my ga=some r):pR.F (HG ga)=some (HH r):=aG (aH bZ) h
noncomputable def ZG:Code:=aD Tryz.f126
noncomputable def Vk:Env:=bT Tryz.prog [(86,ij)]
noncomputable def ZF (x:Int)(r:Bool):St→Prop:=QF Vk Tryz.f126 [false] (HG x) (HH r)
theorem V3 (ga:Int)(r:Bool)(h:my ga=some r):bz Vk Tryz.f126 [false] 0 (HG ga) (HH r):=by
 show Run _ _ (ZF ga r) [.code ZG] _
 refine rI 5 [(0,I ga)] [] 1 ?_
 unfold my at h
 refine cq 7 [3] [I ga] 33 ?_
 obtain⟨r2,hr2,h⟩:=bS h
 refine oq 49 (B r2) rfl (cP (hZ hr2)) ?_
 refine cq 2 [2] [B r2] 65 ?_
 obtain rfl:=Option.some.inj h
 exact rP [B r2]
theorem tQ {G:Go.Ln.Ground}:aP Tryz.prog G 126 pR:=gT 1 0 (aL iY bC) cd Tryz.func126 (fun a r h=>V3 a r h)
noncomputable def D8:(Condition×Int)→List V:=cA bg (oA I)
noncomputable def D9 (r:Int):V×List V:=(I r,[])
noncomputable def AK (aU:(Condition×Int)→Option Int):Ent:=bm [false,false] D8 D9 aU
theorem Q8 (aU:(Condition×Int)→Option Int){x}{r}(h:aU x=some r):(AK aU).F (D8 x)=some (D9 r):=aG (br cz (aH bZ)) h
noncomputable def FE:Ent:=AK (aF lD)
theorem ZA {c_1:Condition}{cm:Int}{r}(h:Q7 c_1 cm=some r):FE.F (D8 (c_1,cm))=some (D9 r):=Q8 (aF lD) h
noncomputable def tP:Code:=aD Tryz.f218
noncomputable abbrev oO:Code:=cR (cR (cR (cR (cR tP))))
noncomputable abbrev qd:Code:=cR (cL (cR (cR (cR (cR tP)))))
noncomputable def lC (aU:(Condition×Int)→Option Int):Env:=bT Tryz.prog [(218,(AK aU)),(159,pM),(126,pR),(86,ij)]
noncomputable def ew (aU:(Condition×Int)→Option Int)(x:Condition×Int)(r:Int):St→Prop:=QF (lC aU) Tryz.f218 [false,false] (D8 x) (D9 r)
theorem M6 (aU:(Condition×Int)→Option Int)(c_1:Condition)(cm:Int):ci (lC aU) 0 (ew aU (c_1,cm)) (cL (cL (cR (cL oO)))) 0 (ls aU c_1 cm) (fun u=>(sT 78 [(1,I u)] [] 1)) fun x5=>(sT 78 [(1,I x5.1),(65,.isl false (c_1.Parts.map aB)),(66,I (len c_1.Parts)),(67,I x5.2)] [] 1):=dY (Ea aU c_1 cm) fun {Q K} hK self ih x5 y h hr hn=>by
 unfold kw at h
 refine cq 5 [68] [B (decide (x5.2<(len c_1.Parts)))] 17 ?_
 refine sq h ?_ ?_<;>intro h
 ·refine aq 1 ?_
  refine aq 4 ?_
  obtain⟨e6,he6,h⟩:=bS h
  refine oq 33 (.iptr (ah e6) 0) rfl (ap rfl rfl rfl (aY rfl rfl (cr e6) rfl he6)) ?_
  refine ck 2 [7,70] [] [49] [] [.hp 49 0 [] 4 0 0,ah e6] [some ⟨0,4,[.agg [I (0),str ([]),I (0),.isl true []]]⟩] 65 (by kernel_rfl) ?_
  refine eD 49 [.agg [I (0),str ([]),I (0),.usl 4 (([]).map aA)]] rfl rfl (aC (fp (aC (.refl _) (aC (.refl _) (aC (.refl _) (aC (.nil _) dM))))) dM) ?_
  refine ck 6 [71,72] [] [49] [] [ah e6,I x5.1] [some ⟨2,4,[ah e6]⟩] 113 (by kernel_rfl) ?_
  obtain⟨r7,hr7,h⟩:=bS h
  refine oq 129 (I r7) rfl (cG rfl rfl (cY rfl rfl rfl (cy (dw rfl) (cy (dw rfl) dP)) (Q8 aU hr7) (.inr rfl) eh rfl rfl rfl)) ?_
  refine cq 7 [1,75] [I r7,B (decide (r7<0))] 177 ?_
  refine sq h ?_ ?_<;>intro h
  ·refine cq 4 [4] [I (-1)] 193 ?_
   exact bW rfl (hr _ (aj h) _ (qp [I (-1)]))
  ·refine aq 1 ?_
   refine cq 5 [67] [I (au (x5.2+1))] 209 ?_
   refine cW ?_
   exact rf [1,65,66,67] [] (ih _ _ h hr hn :)
 ·refine aq 1 ?_
  exact rf [1] [] (hn _ (aj h) :) (hk:=hK)
theorem VZ (aU:(Condition×Int)→Option Int)(c_1:Condition)(cm:Int)(r:Int)(h:wU aU c_1 cm=some r):bz (lC aU) Tryz.f218 [false,false] 0 (D8 (c_1,cm)) (D9 r):=by
 show Run _ _ (ew aU (c_1,cm) r) [.code tP] _
 refine rI 78 [(0,ah c_1),(1,I cm)] [] 1 ?_
 unfold wU at h
 refine ck 13 [1,2] [] [1] [] [I (au (cm+1)),.hp 1 0 [] 4 0 0] [some ⟨0,4,[ah c_1]⟩] 81 (by kernel_rfl) ?_
 refine oq 97 (.hs 81 0 [] 1 0 7) rfl (d7 rfl (kW (f:=I) (xs:=[]) (z:=I (0)) (es:=[I (-1),I (0),I (0),I (0),I (1),I (2),I (2)]) (ws:=[I (-1),I (0),I (0),I (0),I (1),I (2),I (2)]) rfl rfl rfl (by decide) rfl (dB rfl) rfl)) ?_
 refine cq 4 [5] [.hs 81 0 [] 1 0 7] 113 ?_
 refine eB [0,1,3,7,15,31,63,127,255,511,1023,2047,511,511,8703,29183,61951,131071,262143] rfl (by decide +kernel) ?_
 refine dk 3 [13,12,11] [B (decide ((au (cm+1))>15)),B (decide ((au (cm+1))>15)),I (au (cm+1))] ?_
 obtain⟨y3,hy3,hy31,hy32⟩:=bJ h
 have j3:∀u3,y3=.inr u3→Run (lC aU) 0 (ew aU (c_1,cm) r) (.code (cR (cL (cR (cR (cR tP)))))::.code (cR (cR (cR (cR tP))))::[]) (sT 78 [(1,I (au (cm+1))),(2,.hp 1 0 [] 4 0 0),(29,B u3)] [⟨0,4,[ah c_1]⟩] 2):=by
  intro u3 hu
  replace h:=hy32 u3 hu
  refine sq h ?_ ?_<;>intro h
  ·refine cq 4 [4] [I (-1)] 18 ?_
   obtain rfl:=Option.some.inj h
   exact rP [I (-1)]
  ·refine aq 1 ?_
   refine cq 11 [37] [B (!((c_1.Op==2)==(!(c_1.Name==([]:ac)))))] 130 ?_
   obtain⟨y4,hy4,hy41,hy42⟩:=bJ h
   have j4:∀u4,y4=.inr u4→Run (lC aU) 0 (ew aU (c_1,cm) r) (.code qd::.code oO::[]) (sT 78 [(1,I (au (cm+1))),(2,.hp 1 0 [] 4 0 0),(63,B u4)] [⟨0,4,[ah c_1]⟩] 2):=by
    intro u4 hu
    replace h:=hy42 u4 hu
    refine sq h ?_ ?_<;>intro h
    ·refine cq 4 [4] [I (-1)] 18 ?_
     obtain rfl:=Option.some.inj h
     exact rP [I (-1)]
    ·refine aq 1 ?_
     refine cq 5 [65] [.isl false (c_1.Parts.map aB)] 34 ?_
     refine oq 50 (I (len c_1.Parts)) rfl (bd rfl rfl rfl (bw rfl)) ?_
     refine cq 3 [67] [I (0)] 66 ?_
     obtain⟨y8,hy8,hy81,hy82⟩:=bJ h
     refine bM rfl ?_
     refine rf [1,65,66,67] [] (M6 aU c_1 cm rfl ((au (cm+1)),0) _ hy8 (fun r' e st hq=>by rw[hy81 r' e] at hq;exact hq) fun u8 hu=>?_)
     replace h:=hy82 u8 hu
     refine cq 5 [4] [I u8] 33 ?_
     obtain rfl:=Option.some.inj h
     exact rP [I u8]
   have r4:∀r',y4=.inl r'→∀st,ew aU (c_1,cm) r' st→(ew aU (c_1,cm) r) st:=fun r' e st hq=>by rw[hy41 r' e] at hq;exact hq
   replace h:=hy4
   refine sp 37 h rfl ?_ ?_<;>intro h
   ·refine cq 27 [63] [B true] 546 ?_
    exact rf [1,2,63] [1] (j4 _ (aj h) :)
   ·refine cq 4 [41] [B (c_1.Op==2)] 194 ?_
    obtain⟨y9,hy9,hy91,hy92⟩:=bL h
    have j9:∀u9,y9=.inr u9→Run (lC aU) 0 (ew aU (c_1,cm) r) (.code qd::.code oO::[]) (sT 78 [(1,I (au (cm+1))),(2,.hp 1 0 [] 4 0 0),(63,B u9)] [⟨0,4,[ah c_1]⟩] 2):=by
     intro u9 hu
     replace h:=hy92 u9 hu
     exact rf [1,2,63] [1] (j4 _ (aj h) :)
    have r9:∀r',y9=.inl r'→∀st,ew aU (c_1,cm) r' st→(ew aU (c_1,cm) r) st:=fun r' e st hq=>r4 r' (hy91 r' e) st hq
    replace h:=hy9
    refine sp 41 h rfl ?_ ?_<;>intro h
    ·refine cq 2 [43] [str c_1.Name] 226 ?_
     obtain⟨r10,hr10,h⟩:=bS h
     refine oy 242 (B r10) rfl (cP (B0 hr10)) ?_
     refine cq 4 [48] [B (!r10)] 306 ?_
     obtain⟨y11,hy11,hy111,hy112⟩:=bL h
     have j11:∀u11,y11=.inr u11→Run (lC aU) 0 (ew aU (c_1,cm) r) (.code qd::.code oO::[]) (sT 78 [(1,I (au (cm+1))),(2,.hp 1 0 [] 4 0 0),(63,B u11)] [⟨0,4,[ah c_1]⟩] 2):=by
      intro u11 hu
      replace h:=hy112 u11 hu
      exact rf [1,2,63] [1] (j9 _ (aj h) :)
     have r11:∀r',y11=.inl r'→∀st,ew aU (c_1,cm) r' st→(ew aU (c_1,cm) r) st:=fun r' e st hq=>r9 r' (hy111 r' e) st hq
     replace h:=hy11
     refine sp 48 h rfl ?_ ?_<;>intro h
     ·refine cq 16 [63] [B true] 546 ?_
      exact rf [1,2,63] [1] (j11 _ (aj h) :)
     ·refine cq 4 [52] [B (c_1.Op != 3)] 370 ?_
      obtain⟨y12,hy12,hy121,hy122⟩:=bL h
      have j12:∀u12,y12=.inr u12→Run (lC aU) 0 (ew aU (c_1,cm) r) (.code qd::.code oO::[]) (sT 78 [(1,I (au (cm+1))),(2,.hp 1 0 [] 4 0 0),(63,B u12)] [⟨0,4,[ah c_1]⟩] 2):=by
       intro u12 hu
       replace h:=hy122 u12 hu
       exact rf [1,2,63] [1] (j11 _ (aj h) :)
      have r12:∀r',y12=.inl r'→∀st,ew aU (c_1,cm) r' st→(ew aU (c_1,cm) r) st:=fun r' e st hq=>r11 r' (hy121 r' e) st hq
      replace h:=hy12
      refine sp 52 h rfl ?_ ?_<;>intro h
      ·refine cq 6 [58] [B (c_1.Day != 0)] 466 ?_
       obtain⟨y13,hy13,hy131,hy132⟩:=bL h
       have j13:∀u13,y13=.inr u13→Run (lC aU) 0 (ew aU (c_1,cm) r) (.code qd::.code oO::[]) (sT 78 [(1,I (au (cm+1))),(2,.hp 1 0 [] 4 0 0),(63,B u13)] [⟨0,4,[ah c_1]⟩] 2):=by
        intro u13 hu
        replace h:=hy132 u13 hu
        exact rf [1,2,63] [1] (j12 _ (aj h) :)
       have r13:∀r',y13=.inl r'→∀st,ew aU (c_1,cm) r' st→(ew aU (c_1,cm) r) st:=fun r' e st hq=>r12 r' (hy131 r' e) st hq
       replace h:=hy13
       refine sp 58 h rfl ?_ ?_<;>intro h
       ·refine cq 6 [63] [B true] 546 ?_
        exact rf [1,2,63] [1] (j13 _ (aj h) :)
       ·refine cq 2 [60] [I c_1.Day] 498 ?_
        obtain⟨r14,hr14,h⟩:=bS h
        refine oy 514 (B r14) rfl (cP (qM hr14)) ?_
        refine cq 3 [63] [B (!r14)] 546 ?_
        exact rf [1,2,63] [1] (j13 _ (aj h) :)
      ·refine cq 8 [58,60] [B false,I c_1.Day] 498 ?_
       obtain⟨r15,hr15,h⟩:=bS h
       refine oy 514 (B r15) rfl (cP (qM hr15)) ?_
       refine cq 3 [63] [B (!r15)] 546 ?_
       exact rf [1,2,63] [1] (j12 _ (aj h) :)
    ·refine cq 11 [48,52] [B false,B (c_1.Op != 3)] 370 ?_
     obtain⟨y16,hy16,hy161,hy162⟩:=bL h
     have j16:∀u16,y16=.inr u16→Run (lC aU) 0 (ew aU (c_1,cm) r) (.code qd::.code oO::[]) (sT 78 [(1,I (au (cm+1))),(2,.hp 1 0 [] 4 0 0),(63,B u16)] [⟨0,4,[ah c_1]⟩] 2):=by
      intro u16 hu
      replace h:=hy162 u16 hu
      exact rf [1,2,63] [1] (j9 _ (aj h) :)
     have r16:∀r',y16=.inl r'→∀st,ew aU (c_1,cm) r' st→(ew aU (c_1,cm) r) st:=fun r' e st hq=>r9 r' (hy161 r' e) st hq
     replace h:=hy16
     refine sp 52 h rfl ?_ ?_<;>intro h
     ·refine cq 6 [58] [B (c_1.Day != 0)] 466 ?_
      obtain⟨y17,hy17,hy171,hy172⟩:=bL h
      have j17:∀u17,y17=.inr u17→Run (lC aU) 0 (ew aU (c_1,cm) r) (.code qd::.code oO::[]) (sT 78 [(1,I (au (cm+1))),(2,.hp 1 0 [] 4 0 0),(63,B u17)] [⟨0,4,[ah c_1]⟩] 2):=by
       intro u17 hu
       replace h:=hy172 u17 hu
       exact rf [1,2,63] [1] (j16 _ (aj h) :)
      have r17:∀r',y17=.inl r'→∀st,ew aU (c_1,cm) r' st→(ew aU (c_1,cm) r) st:=fun r' e st hq=>r16 r' (hy171 r' e) st hq
      replace h:=hy17
      refine sp 58 h rfl ?_ ?_<;>intro h
      ·refine cq 6 [63] [B true] 546 ?_
       exact rf [1,2,63] [1] (j17 _ (aj h) :)
      ·refine cq 2 [60] [I c_1.Day] 498 ?_
       obtain⟨r18,hr18,h⟩:=bS h
       refine oy 514 (B r18) rfl (cP (qM hr18)) ?_
       refine cq 3 [63] [B (!r18)] 546 ?_
       exact rf [1,2,63] [1] (j17 _ (aj h) :)
     ·refine cq 8 [58,60] [B false,I c_1.Day] 498 ?_
      obtain⟨r19,hr19,h⟩:=bS h
      refine oy 514 (B r19) rfl (cP (qM hr19)) ?_
      refine cq 3 [63] [B (!r19)] 546 ?_
      exact rf [1,2,63] [1] (j16 _ (aj h) :)
 have r3:∀r',y3=.inl r'→∀st,ew aU (c_1,cm) r' st→(ew aU (c_1,cm) r) st:=fun r' e st hq=>by rw[hy31 r' e] at hq;exact hq
 replace h:=hy3
 refine sp 13 h rfl ?_ ?_<;>intro h
 ·refine dk 16 [29,28,27,26,25,24,23,22,21,20,19,18,17,16,15,14] [B true,.und,.und,.und,.und,.und,.und,.und,.und,.und,B true,B true,.und,.und,.und,.und] ?_
  refine de 417 rfl rfl ?_
  exact rf [1,2,29] [1] (j3 _ (aj h) :)
 ·refine dy [1] [] (.hp 1 0 [] 4 0 0) rfl (ay rfl rfl rfl) ?_
  refine dy [1] [] (I c_1.Op) rfl (bb rfl rfl) ?_
  obtain⟨r20,hr20,h⟩:=bS h
  refine dy [] [] (B r20) rfl (cP (hZ hr20)) ?_ (dV rfl rfl rfl rfl (cy (dw rfl) (cy (dw rfl) (cy (dw rfl) dP))) (hZ hr20) (.inr rfl) rfl)
  refine dk 3 [19,18,17] [B (!r20),B (!r20),B (!r20)] ?_
  obtain⟨y21,hy21,hy211,hy212⟩:=bL h
  have j21:∀u21,y21=.inr u21→Run (lC aU) 0 (ew aU (c_1,cm) r) (.code (cR (cL (cR (cR (cR tP)))))::.code (cR (cR (cR (cR tP))))::[]) (sT 78 [(1,I (au (cm+1))),(2,.hp 1 0 [] 4 0 0),(29,B u21)] [⟨0,4,[ah c_1]⟩] 2):=by
   intro u21 hu
   replace h:=hy212 u21 hu
   exact rf [1,2,29] [1] (j3 _ (aj h) :)
  have r21:∀r',y21=.inl r'→∀st,ew aU (c_1,cm) r' st→(ew aU (c_1,cm) r) st:=fun r' e st hq=>r3 r' (hy211 r' e) st hq
  replace h:=hy21
  refine sp 19 h rfl ?_ ?_<;>intro h
  ·refine dk 10 [29,28,27,26,25,24,23,22,21,20] [B true,.und,.und,.und,.und,.und,.und,.und,.und,.und] ?_
   refine de 417 rfl rfl ?_
   exact rf [1,2,29] [1] (j21 _ (aj h) :)
  ·refine dy [1] [] (.hp 1 0 [] 4 0 3) rfl (ay rfl rfl rfl) ?_
   refine dy [1] [] (.isl false (c_1.Parts.map aB)) rfl (bb rfl rfl) ?_
   refine dy [] [] (I (len c_1.Parts)) rfl (bd rfl rfl rfl (bw rfl)) ?_
   refine dk 1 [23] [.hs 81 0 [] 1 0 7] ?_
   refine dy [1] [] (.hp 1 0 [] 4 0 0) rfl (ay rfl rfl rfl) ?_
   refine dy [1] [] (I c_1.Op) rfl (bb rfl rfl) ?_
   obtain⟨e22,he22,h⟩:=bS h
   refine dy [81] [] (.hp 81 0 [] 1 (0+Int.toNat c_1.Op) 0) rfl (ap rfl rfl rfl (ft (f:=I) (xs:=[(-1),0,0,0,1,2,2]) rfl rfl rfl he22)) ?_
   refine dy [81] [] (I e22) rfl (bb rfl (jS (path:=[]) rfl rfl rfl aZ (eL (f:=I) (xs:=[(-1),0,0,0,1,2,2]) he22) rfl rfl rfl)) ?_
   refine dk 2 [29,28] [B ((len c_1.Parts) != e22),B ((len c_1.Parts) != e22)] ?_
   refine de 417 rfl rfl ?_
   exact rf [1,2,29] [1] (j21 _ (aj h) :)
theorem TV {G:Go.Ln.Ground}:aP Tryz.prog G 218 FE:=iq fun aU g_Ffk=>gT 2 0 (aL g_Ffk (aL tx (aL tQ (aL iY bC)))) cd Tryz.func218 (fun a r h=>VZ aU a.1 a.2 r h)
noncomputable def He:Condition→List V:=oA bg
noncomputable def Hf (r:Bool):V×List V:=(B r,[])
noncomputable def Fe:Ent:=bm [false] He Hf fun x=>Ih x
theorem Zl {c_1:Condition}{r}(h:Ih c_1=some r):Fe.F (He c_1)=some (Hf r):=aG (aH cz) h
noncomputable def Zn:Code:=aD Tryz.f185
noncomputable def U9:Env:=bT Tryz.prog [(218,FE)]
noncomputable def Zm (x:Condition)(r:Bool):St→Prop:=QF U9 Tryz.f185 [false] (He x) (Hf r)
theorem VE (c_1:Condition)(r:Bool)(h:Ih c_1=some r):bz U9 Tryz.f185 [false] 0 (He c_1) (Hf r):=by
 show Run _ _ (Zm c_1 r) [.code Zn] _
 refine rI 6 [(0,ah c_1)] [] 1 ?_
 unfold Ih at h
 refine cq 8 [3] [ah c_1] 49 ?_
 obtain⟨r2,hr2,h⟩:=bS h
 refine oq 65 (I r2) rfl (cP (ZA hr2)) ?_
 refine cq 3 [2] [B (decide (r2>0))] 97 ?_
 obtain rfl:=Option.some.inj h
 exact rP [B (decide (r2>0))]
theorem Sn {G:Go.Ln.Ground}:aP Tryz.prog G 185 Fe:=gT 1 0 (aL TV bC) cd Tryz.func185 (fun a r h=>VE a r h)
noncomputable def HE:(Contract×Int)→List V:=cA aM (oA I)
noncomputable def HF (r:Bool):V×List V:=(B r,[])
noncomputable def FG:Ent:=bm [false,false] HE HF fun x=>Ji x.1 x.2
theorem ZE {c_1:Contract}{i_2:Int}{r}(h:Ji c_1 i_2=some r):FG.F (HE (c_1,i_2))=some (HF r):=aG (br ba (aH bZ)) h
noncomputable def kU:Code:=aD Tryz.f124
noncomputable abbrev Jj:Code:=cR (cL (cR (cR (cR (cR kU)))))
noncomputable abbrev vT:Code:=cR (cR (cR (cR (cR (cR kU)))))
noncomputable abbrev Ec:Code:=cR (cL (cR (cR (cR (cR (cR kU))))))
noncomputable abbrev Jk:Code:=cR (cR (cR vT))
noncomputable def jd:Env:=bT Tryz.prog [(159,pM),(86,ij),(184,FC),(185,Fe)]
noncomputable def d2 (x:Contract×Int)(r:Bool):St→Prop:=QF jd Tryz.f124 [false,false] (HE x) (HF r)
theorem V2 (c_1:Contract)(i_2:Int)(r:Bool)(h:Ji c_1 i_2=some r):bz jd Tryz.f124 [false,false] 0 (HE (c_1,i_2)) (HF r):=by
 show Run _ _ (d2 (c_1,i_2) r) [.code kU] _
 refine rI 119 [(0,aa c_1),(1,I i_2)] [] 1 ?_
 unfold Ji at h
 refine ck 10 [2,9,10] [] [1] [] [.hp 1 0 [] 2 0 0,.isl false (c_1.Clauses.map an),I i_2] [some ⟨0,2,[aa c_1]⟩] 81 (by kernel_rfl) ?_
 obtain⟨e3,he3,h⟩:=bS h
 refine oq 97 (.iptr (ar e3) 0) rfl (ap rfl rfl rfl (aY rfl rfl rfl rfl he3)) ?_
 refine ck 2 [5,12] [] [113] [] [.hp 113 0 [] 12 0 0,ar e3] [some ⟨0,12,[.agg [str ([]),I (0),I (0),str ([]),I (0),I (0),I (0),str ([]),I (0),.isl true [],I (0),str ([])]]⟩] 129 (by kernel_rfl) ?_
 refine eD 113 [.agg [str ([]),I (0),I (0),str ([]),I (0),I (0),I (0),str ([]),I (0),.usl 4 (([]).map aA),I (0),str ([])]] rfl rfl (aC (fp (aC (.refl _) (aC (.refl _) (aC (.refl _) (aC (.refl _) (aC (.refl _) (aC (.refl _) (aC (.refl _) (aC (.refl _) (aC (.refl _) (aC (.nil _) (aC (.refl _) (aC (.refl _) dM))))))))))))) dM) ?_
 refine ck 6 [14] [] [113] [] [.isl false (c_1.Parties.map str)] [some ⟨2,12,[ar e3]⟩] 177 (by kernel_rfl) ?_
 refine oq 193 (I (len c_1.Parties)) rfl (bd rfl rfl rfl (bw rfl)) ?_
 refine cq 8 [6,18] [I (au ((len c_1.Parties) - 1)),str e3.Id] 257 ?_
 obtain⟨r4,hr4,h⟩:=bS h
 refine oq 273 (B r4) rfl (cP (B0 hr4)) ?_
 refine cq 2 [21] [B (!r4)] 305 ?_
 obtain⟨y5,hy5,hy51,hy52⟩:=bJ h
 have j5:∀u5,y5=.inr u5→Run jd 0 (d2 (c_1,i_2) r) (.code (cR (cL (cR (cR (cR kU)))))::.code (cR (cR (cR (cR kU))))::[]) (sT 119 [(1,I i_2),(2,.hp 1 0 [] 2 0 0),(5,.hp 2 0 [] 12 0 0),(6,I (au ((len c_1.Parties) - 1))),(40,B u5)] [⟨0,2,[aa c_1]⟩,⟨0,12,[ar e3]⟩] 3):=by
  intro u5 hu
  replace h:=hy52 u5 hu
  refine sq h ?_ ?_<;>intro h
  ·refine cq 4 [4] [B false] 19 ?_
   obtain rfl:=Option.some.inj h
   exact rP [B false]
  ·refine aq 1 ?_
   refine cq 6 [42,43] [I e3.Party,I (au ((len c_1.Parties) - 1))] 51 ?_
   obtain⟨r6,hr6,h⟩:=bS h
   refine oq 67 (B r6) rfl (cP (hZ hr6)) ?_
   refine cq 2 [46] [B (!r6)] 99 ?_
   obtain⟨y7,hy7,hy71,hy72⟩:=bJ h
   have j7:∀u7,y7=.inr u7→Run jd 0 (d2 (c_1,i_2) r) (.code Jj::.code (cR (cR (cR (cR (cR kU)))))::[]) (sT 119 [(1,I i_2),(2,.hp 1 0 [] 2 0 0),(5,.hp 2 0 [] 12 0 0),(65,B u7)] [⟨0,2,[aa c_1]⟩,⟨0,12,[ar e3]⟩] 3):=by
    intro u7 hu
    replace h:=hy72 u7 hu
    refine sq h ?_ ?_<;>intro h
    ·refine cq 4 [4] [B false] 19 ?_
     obtain rfl:=Option.some.inj h
     exact rP [B false]
    ·refine aq 1 ?_
     refine cq 5 [67] [I e3.Amount] 35 ?_
     obtain⟨r8,hr8,h⟩:=bS h
     refine oq 51 (B r8) rfl (cP (hZ hr8)) ?_
     refine cq 2 [70] [B (!r8)] 83 ?_
     obtain⟨y9,hy9,hy91,hy92⟩:=bJ h
     have j9:∀u9,y9=.inr u9→Run jd 0 (d2 (c_1,i_2) r) (.code Ec::.code vT::[]) (sT 119 [(1,I i_2),(2,.hp 1 0 [] 2 0 0),(5,.hp 2 0 [] 12 0 0),(90,B u9)] [⟨0,2,[aa c_1]⟩,⟨0,12,[ar e3]⟩] 3):=by
      intro u9 hu
      replace h:=hy92 u9 hu
      refine sq h ?_ ?_<;>intro h
      ·refine cq 4 [4] [B false] 19 ?_
       obtain rfl:=Option.some.inj h
       exact rP [B false]
      ·refine aq 1 ?_
       refine cq 7 [93] [B (e3.Repair==([]:ac))] 51 ?_
       refine sq h ?_ ?_<;>intro h
       ·refine cq 4 [4] [B true] 67 ?_
        obtain rfl:=Option.some.inj h
        exact rP [B true]
       ·refine aq 1 ?_
        refine cq 5 [94,96] [aa c_1,str e3.Repair] 99 ?_
        obtain⟨r10,hr10,h⟩:=bS h
        refine oq 115 (I r10) rfl (cP (Ve hr10)) ?_
        refine cq 8 [7,101] [I r10,B (e3.Kind != 3)] 195 ?_
        obtain⟨y11,hy11,hy111,hy112⟩:=bJ h
        have j11:∀u11,y11=.inr u11→Run jd 0 (d2 (c_1,i_2) r) (.code Jk::[]) (sT 119 [(4,B u11)] [] 1):=by
         intro u11 hu
         replace h:=hy112 u11 hu
         obtain rfl:=Option.some.inj h
         exact rP [B u11]
        have r11:∀r',y11=.inl r'→∀st,d2 (c_1,i_2) r' st→(d2 (c_1,i_2) r) st:=fun r' e st hq=>by rw[hy111 r' e] at hq;exact hq
        replace h:=hy11
        refine sp 101 h rfl ?_ ?_<;>intro h
        ·refine cq 4 [105] [B (decide (r10≥0))] 259 ?_
         obtain⟨y12,hy12,hy121,hy122⟩:=bL h
         have j12:∀u12,y12=.inr u12→Run jd 0 (d2 (c_1,i_2) r) (.code Jk::[]) (sT 119 [(4,B u12)] [] 1):=by
          intro u12 hu
          replace h:=hy122 u12 hu
          exact rf [4] [] (j11 _ (aj h) :)
         have r12:∀r',y12=.inl r'→∀st,d2 (c_1,i_2) r' st→(d2 (c_1,i_2) r) st:=fun r' e st hq=>r11 r' (hy121 r' e) st hq
         replace h:=hy12
         refine sp 105 h rfl ?_ ?_<;>intro h
         ·refine cq 5 [110] [B (r10 != i_2)] 339 ?_
          obtain⟨y13,hy13,hy131,hy132⟩:=bL h
          have j13:∀u13,y13=.inr u13→Run jd 0 (d2 (c_1,i_2) r) (.code Jk::[]) (sT 119 [(4,B u13)] [] 1):=by
           intro u13 hu
           replace h:=hy132 u13 hu
           exact rf [4] [] (j12 _ (aj h) :)
          have r13:∀r',y13=.inl r'→∀st,d2 (c_1,i_2) r' st→(d2 (c_1,i_2) r) st:=fun r' e st hq=>r12 r' (hy131 r' e) st hq
          replace h:=hy13
          refine sp 110 h rfl ?_ ?_<;>intro h
          ·refine cq 3 [112,113] [.isl false (c_1.Clauses.map an),I r10] 387 ?_
           obtain⟨e14,he14,h⟩:=bS h
           refine oy 403 (.iptr (ar e14) 0) rfl (ap rfl rfl rfl (aY rfl rfl rfl rfl he14)) ?_
           refine cq 6 [4] [B (e14.Kind==1)] 483 ?_
           exact rf [4] [] (j13 _ (aj h) :)
          ·refine cq 10 [4] [B false] 483 ?_
           exact rf [4] [] (j13 _ (aj h) :)
         ·refine cq 15 [4] [B false] 483 ?_
          exact rf [4] [] (j12 _ (aj h) :)
        ·refine cq 19 [4] [B false] 483 ?_
         exact rf [4] [] (j11 _ (aj h) :)
     have r9:∀r',y9=.inl r'→∀st,d2 (c_1,i_2) r' st→(d2 (c_1,i_2) r) st:=fun r' e st hq=>by rw[hy91 r' e] at hq;exact hq
     replace h:=hy9
     refine sp 70 h rfl ?_ ?_<;>intro h
     ·refine cq 21 [90] [B true] 403 ?_
      exact rf [1,2,5,90] [1,2] (j9 _ (aj h) :)
     ·refine cq 2 [72] [I e3.Within] 115 ?_
      obtain⟨r15,hr15,h⟩:=bS h
      refine oy 131 (B r15) rfl (cP (hZ hr15)) ?_
      refine cq 3 [76] [B (!r15)] 179 ?_
      obtain⟨u16,hu16,h⟩:=lJ h
      have j16:Run jd 0 (d2 (c_1,i_2) r) (.code Ec::.code vT::[]) (sT 119 [(1,I i_2),(2,.hp 1 0 [] 2 0 0),(5,.hp 2 0 [] 12 0 0),(90,B u16)] [⟨0,2,[aa c_1]⟩,⟨0,12,[ar e3]⟩] 3):=by
       exact rf [1,2,5,90] [1,2] (j9 _ (aj h) :)
      replace h:=hu16
      clear hu16
      refine sp 76 h rfl ?_ ?_<;>intro h
      ·refine cq 15 [90] [B true] 403 ?_
       subst h
       exact rf [1,2,5,90] [1,2] (j16 :)
      ·refine cq 4 [80] [B (e3.Kind != 1)] 243 ?_
       obtain⟨u17,hu17,h⟩:=lJ h
       have j17:Run jd 0 (d2 (c_1,i_2) r) (.code Ec::.code vT::[]) (sT 119 [(1,I i_2),(2,.hp 1 0 [] 2 0 0),(5,.hp 2 0 [] 12 0 0),(90,B u17)] [⟨0,2,[aa c_1]⟩,⟨0,12,[ar e3]⟩] 3):=by
        subst h
        exact rf [1,2,5,90] [1,2] (j16 :)
       replace h:=hu17
       clear hu17
       refine sp 80 h rfl ?_ ?_<;>intro h
       ·refine cq 4 [84] [B (e3.Amount != 0)] 307 ?_
        obtain⟨u18,hu18,h⟩:=lJ h
        have j18:Run jd 0 (d2 (c_1,i_2) r) (.code Ec::.code vT::[]) (sT 119 [(1,I i_2),(2,.hp 1 0 [] 2 0 0),(5,.hp 2 0 [] 12 0 0),(90,B u18)] [⟨0,2,[aa c_1]⟩,⟨0,12,[ar e3]⟩] 3):=by
         subst h
         exact rf [1,2,5,90] [1,2] (j17 :)
        replace h:=hu18
        clear hu18
        refine sp 84 h rfl ?_ ?_<;>intro h
        ·refine cq 7 [90] [B true] 403 ?_
         subst h
         exact rf [1,2,5,90] [1,2] (j18 :)
        ·refine cq 7 [90] [B (e3.Within != 0)] 403 ?_
         subst h
         exact rf [1,2,5,90] [1,2] (j18 :)
       ·refine cq 11 [90] [B false] 403 ?_
        subst h
        exact rf [1,2,5,90] [1,2] (j17 :)
   have r7:∀r',y7=.inl r'→∀st,d2 (c_1,i_2) r' st→(d2 (c_1,i_2) r) st:=fun r' e st hq=>by rw[hy71 r' e] at hq;exact hq
   replace h:=hy7
   refine sp 46 h rfl ?_ ?_<;>intro h
   ·refine cq 20 [65] [B true] 403 ?_
    exact rf [1,2,5,65] [1,2] (j7 _ (aj h) :)
   ·refine cq 3 [48,49] [I e3.Other,I (au ((len c_1.Parties) - 1))] 147 ?_
    obtain⟨r19,hr19,h⟩:=bS h
    refine oy 163 (B r19) rfl (cP (hZ hr19)) ?_
    refine cq 3 [53] [B (!r19)] 211 ?_
    obtain⟨y20,hy20,hy201,hy202⟩:=bL h
    have j20:∀u20,y20=.inr u20→Run jd 0 (d2 (c_1,i_2) r) (.code Jj::.code (cR (cR (cR (cR (cR kU)))))::[]) (sT 119 [(1,I i_2),(2,.hp 1 0 [] 2 0 0),(5,.hp 2 0 [] 12 0 0),(65,B u20)] [⟨0,2,[aa c_1]⟩,⟨0,12,[ar e3]⟩] 3):=by
     intro u20 hu
     replace h:=hy202 u20 hu
     exact rf [1,2,5,65] [1,2] (j7 _ (aj h) :)
    have r20:∀r',y20=.inl r'→∀st,d2 (c_1,i_2) r' st→(d2 (c_1,i_2) r) st:=fun r' e st hq=>r7 r' (hy201 r' e) st hq
    replace h:=hy20
    refine sp 53 h rfl ?_ ?_<;>intro h
    ·refine cq 13 [65] [B true] 403 ?_
     exact rf [1,2,5,65] [1,2] (j20 _ (aj h) :)
    ·refine cq 7 [60] [B (e3.Party==e3.Other)] 323 ?_
     obtain⟨y21,hy21,hy211,hy212⟩:=bL h
     have j21:∀u21,y21=.inr u21→Run jd 0 (d2 (c_1,i_2) r) (.code Jj::.code (cR (cR (cR (cR (cR kU)))))::[]) (sT 119 [(1,I i_2),(2,.hp 1 0 [] 2 0 0),(5,.hp 2 0 [] 12 0 0),(65,B u21)] [⟨0,2,[aa c_1]⟩,⟨0,12,[ar e3]⟩] 3):=by
      intro u21 hu
      replace h:=hy212 u21 hu
      exact rf [1,2,5,65] [1,2] (j20 _ (aj h) :)
     have r21:∀r',y21=.inl r'→∀st,d2 (c_1,i_2) r' st→(d2 (c_1,i_2) r) st:=fun r' e st hq=>r20 r' (hy211 r' e) st hq
     replace h:=hy21
     refine sp 60 h rfl ?_ ?_<;>intro h
     ·refine cq 6 [65] [B true] 403 ?_
      exact rf [1,2,5,65] [1,2] (j21 _ (aj h) :)
     ·refine cq 2 [62] [ah e3.When] 355 ?_
      obtain⟨r22,hr22,h⟩:=bS h
      refine oy 371 (B r22) rfl (cP (Zl hr22)) ?_
      refine cq 3 [65] [B (!r22)] 403 ?_
      exact rf [1,2,5,65] [1,2] (j21 _ (aj h) :)
 have r5:∀r',y5=.inl r'→∀st,d2 (c_1,i_2) r' st→(d2 (c_1,i_2) r) st:=fun r' e st hq=>by rw[hy51 r' e] at hq;exact hq
 replace h:=hy5
 refine sp 21 h rfl ?_ ?_<;>intro h
 ·refine cq 20 [40] [B true] 609 ?_
  exact rf [1,2,5,6,40] [1,113] (j5 _ (aj h) :)
 ·refine cq 3 [22,24] [aa c_1,str e3.Id] 353 ?_
  obtain⟨r23,hr23,h⟩:=bS h
  refine oy 369 (I r23) rfl (cP (Ve hr23)) ?_
  refine cq 4 [29] [B (r23 != i_2)] 433 ?_
  obtain⟨y24,hy24,hy241,hy242⟩:=bL h
  have j24:∀u24,y24=.inr u24→Run jd 0 (d2 (c_1,i_2) r) (.code (cR (cL (cR (cR (cR kU)))))::.code (cR (cR (cR (cR kU))))::[]) (sT 119 [(1,I i_2),(2,.hp 1 0 [] 2 0 0),(5,.hp 2 0 [] 12 0 0),(6,I (au ((len c_1.Parties) - 1))),(40,B u24)] [⟨0,2,[aa c_1]⟩,⟨0,12,[ar e3]⟩] 3):=by
   intro u24 hu
   replace h:=hy242 u24 hu
   exact rf [1,2,5,6,40] [1,2] (j5 _ (aj h) :)
  have r24:∀r',y24=.inl r'→∀st,d2 (c_1,i_2) r' st→(d2 (c_1,i_2) r) st:=fun r' e st hq=>r5 r' (hy241 r' e) st hq
  replace h:=hy24
  refine sp 29 h rfl ?_ ?_<;>intro h
  ·refine cq 12 [40] [B true] 609 ?_
   exact rf [1,2,5,6,40] [1,113] (j24 _ (aj h) :)
  ·refine cq 2 [31] [str e3.Action] 465 ?_
   obtain⟨r25,hr25,h⟩:=bS h
   refine oy 481 (B r25) rfl (cP (B0 hr25)) ?_
   refine cq 3 [35] [B (!r25)] 529 ?_
   obtain⟨y26,hy26,hy261,hy262⟩:=bL h
   have j26:∀u26,y26=.inr u26→Run jd 0 (d2 (c_1,i_2) r) (.code (cR (cL (cR (cR (cR kU)))))::.code (cR (cR (cR (cR kU))))::[]) (sT 119 [(1,I i_2),(2,.hp 1 0 [] 2 0 0),(5,.hp 2 0 [] 12 0 0),(6,I (au ((len c_1.Parties) - 1))),(40,B u26)] [⟨0,2,[aa c_1]⟩,⟨0,12,[ar e3]⟩] 3):=by
    intro u26 hu
    replace h:=hy262 u26 hu
    exact rf [1,2,5,6,40] [1,2] (j24 _ (aj h) :)
   have r26:∀r',y26=.inl r'→∀st,d2 (c_1,i_2) r' st→(d2 (c_1,i_2) r) st:=fun r' e st hq=>r24 r' (hy261 r' e) st hq
   replace h:=hy26
   refine sp 35 h rfl ?_ ?_<;>intro h
   ·refine cq 6 [40] [B true] 609 ?_
    exact rf [1,2,5,6,40] [1,113] (j26 _ (aj h) :)
   ·refine cq 2 [37] [I e3.Kind] 561 ?_
    obtain⟨r27,hr27,h⟩:=bS h
    refine oy 577 (B r27) rfl (cP (hZ hr27)) ?_
    refine cq 3 [40] [B (!r27)] 609 ?_
    exact rf [1,2,5,6,40] [1,113] (j26 _ (aj h) :)
theorem TX {G:Go.Ln.Ground}:aP Tryz.prog G 124 FG:=gT 2 0 (aL tx (aL iY (aL TS (aL Sn bC)))) cd Tryz.func124 (fun a r h=>V2 a.1 a.2 r h)
noncomputable def D1:(Condition×(List ac))→List V:=cA bg (oA (uW 1 str))
noncomputable def D3 (r:(List ac)):V×List V:=(.usl 1 (r.map str),[.dead])
noncomputable def AJ (ch:(Condition×(List ac))→Option (List ac)):Ent:=bm [false,true] D1 D3 ch
theorem Q5 (ch:(Condition×(List ac))→Option (List ac)){x}{r}(h:ch x=some r):(AJ ch).F (D1 x)=some (D3 r):=aG (br cz (aH (lm bH))) h
noncomputable def FA:Ent:=AJ (aF mR)
theorem Vc {c_3:Condition}{bn:List ac}{r}(h:Q4 c_3 bn=some r):FA.F (D1 (c_3,bn))=some (D3 r):=Q5 (aF mR) h
noncomputable def M2:Code:=aD Tryz.f186
noncomputable def Hs (ch:(Condition×(List ac))→Option (List ac)):Env:=bT Tryz.prog [(186,(AJ ch))]
noncomputable def D2 (ch:(Condition×(List ac))→Option (List ac))(x:Condition×(List ac))(r:(List ac)):St→Prop:=QF (Hs ch) Tryz.f186 [false,true] (D1 x) (D3 r)
theorem M3 (ch:(Condition×(List ac))→Option (List ac))(c_3:Condition)(bn:List ac):ci (Hs ch) 1 (D2 ch (c_3,bn)) (cL (cL (cR (cL (cR (cR M2)))))) 0 (mS ch c_3 bn) (fun u=>(sO 27 [(1,.hs 2 0 [] 1 0 (u.map str).length)] [none,some ⟨0,1,u.map str⟩] 3)) fun x4=>(sO 27 [(1,.hs 2 0 [] 1 0 (x4.2.map str).length),(16,.isl false (c_3.Parts.map aB)),(17,I (len c_3.Parts)),(18,I x4.1)] [none,some ⟨0,1,x4.2.map str⟩] 3):=dY (D4 ch c_3 bn) fun {Q K} hK self ih x4 y h hr hn=>by
 unfold kv at h
 refine cq 5 [19] [B (decide (x4.1<(len c_3.Parts)))] 19 ?_
 refine sq h ?_ ?_<;>intro h
 ·refine aq 1 ?_
  refine aq 4 ?_
  obtain⟨e5,he5,h⟩:=bS h
  refine oq 35 (.iptr (ah e5) 0) rfl (ap rfl rfl rfl (aY rfl rfl (cr e5) rfl he5)) ?_
  refine ck 2 [6,21] [] [51] [] [.hp 51 0 [] 4 0 0,ah e5] [some ⟨0,4,[.agg [I (0),str ([]),I (0),.isl true []]]⟩] 67 (by kernel_rfl) ?_
  refine eD 51 [.agg [I (0),str ([]),I (0),.usl 4 (([]).map aA)]] rfl rfl (aC (fp (aC (.refl _) (aC (.refl _) (aC (.refl _) (aC (.nil _) dM))))) dM) ?_
  refine ck 5 [22,23] [] [51] [] [ah e5,.hs 2 0 [] 1 0 (x4.2.map str).length] [some ⟨2,4,[ah e5]⟩] 115 (by kernel_rfl) ?_
  obtain⟨r6,hr6,h⟩:=bS h
  refine oq 131 (.hs 115 0 [] 1 0 (r6.map str).length) rfl (cG rfl rfl (cY rfl rfl rfl (cy (dw rfl) (nF (mD rfl (gZ (path:=[]) rfl rfl aZ rfl)) dP)) (Q5 ch hr6) (.inr rfl) (lT rfl rfl rfl gp eh) rfl rfl rfl)) ?_
  refine cq 7 [1,18] [.hs 115 0 [] 1 0 (r6.map str).length,I (au (x4.1+1))] 179 ?_
  refine cW ?_
  exact rg [1,16,17,18] [180,115] (ih _ _ h hr hn :)
 ·refine aq 1 ?_
  exact rg [1] [20,2] (hn _ (aj h) :) (hk:=hK)
theorem VU (ch:(Condition×(List ac))→Option (List ac))(c_3:Condition)(bn:List ac)(r:(List ac))(h:wS ch c_3 bn=some r):bz (Hs ch) Tryz.f186 [false,true] 1 (D1 (c_3,bn)) (D3 r):=by
 show Run _ _ (D2 ch (c_3,bn) r) [.code M2] _
 refine rI 27 [(0,ah c_3),(1,.hs 1 0 [] 1 0 (bn.map str).length)] [(1,some ⟨0,1,bn.map str⟩)] 2 ?_
 unfold wS at h
 refine ck 12 [2,9] [] [2] [] [.hp 2 0 [] 4 0 0,B (c_3.Op==2)] [some ⟨0,4,[ah c_3]⟩] 82 (by kernel_rfl) ?_
 obtain⟨y3,hy3,hy31,hy32⟩:=bJ h
 have j3:∀u3,y3=.inr u3→Run (Hs ch) 1 (D2 ch (c_3,bn) r) (.code (cR (cR M2))::[]) (sO 27 [(1,.hs 2 0 [] 1 0 (u3.map str).length),(2,.hp 3 0 [] 4 0 0)] [none,some ⟨0,1,u3.map str⟩,some ⟨0,4,[ah c_3]⟩] 4):=by
  intro u3 hu
  replace h:=hy32 u3 hu
  refine cq 5 [16] [.isl false (c_3.Parts.map aB)] 36 ?_
  refine oq 52 (I (len c_3.Parts)) rfl (bd rfl rfl rfl (bw rfl)) ?_
  refine cq 3 [18] [I (0)] 68 ?_
  obtain⟨y7,hy7,hy71,hy72⟩:=bJ h
  refine bM rfl ?_
  refine rg [1,16,17,18] [69,2] (M3 ch c_3 bn rfl (0,u3) _ hy7 (fun r' e st hq=>by rw[hy71 r' e] at hq;exact hq) fun u7 hu=>?_)
  replace h:=hy72 u7 hu
  refine cq 5 [4] [.hs 2 0 [] 1 0 (u7.map str).length] 35 ?_
  obtain rfl:=Option.some.inj h
  exact bW rfl ⟨_,fin (vs:=[.hs 2 0 [] 1 0 (u7.map str).length]) rfl (fg (eV rfl (cZ rfl rfl)) ey) rfl (eT (nt rfl (jT rfl) fB)),ni fh⟩
 have r3:∀r',y3=.inl r'→∀st,D2 ch (c_3,bn) r' st→(D2 ch (c_3,bn) r) st:=fun r' e st hq=>by rw[hy31 r' e] at hq;exact hq
 replace h:=hy3
 refine sq h ?_ ?_<;>intro h
 ·refine cq 4 [10,12] [.hs 1 0 [] 1 0 (bn.map str).length,str c_3.Name] 130 ?_
  refine oq 146 (.hs 130 0 [] 1 0 1) rfl (d7 rfl (kW (f:=I) (xs:=[]) (z:=str ([])) (es:=[str c_3.Name]) (ws:=[str c_3.Name]) rfl rfl rfl (by decide) rfl (dB rfl) rfl)) ?_
  obtain⟨a8,ha8,h⟩:=bS h
  refine oq 162 (.hs 146 0 [] 1 0 (a8.map str).length) rfl (im rfl rfl rfl rfl rfl (lw (path:=[]) (f:=str) (xs:=bn) (ys:=[c_3.Name]) rfl rfl (pT rfl rfl rfl) rfl rfl rfl aZ rfl (by decide) kM ha8 rfl po)) ?_
  refine cq 2 [1] [.hs 146 0 [] 1 0 (a8.map str).length] 178 ?_
  exact rg [1,2] [179,146,2] (j3 _ (aj h) :)
 ·refine aq 1 ?_
  exact rg [1,2] [83,1,2] (j3 _ (aj h) :)
theorem TQ {G:Go.Ln.Ground}:aP Tryz.prog G 186 FA:=iq fun ch g_Ffg=>gT 2 1 (aL g_Ffg bC) cd Tryz.func186 (fun a r h=>VU ch a.1 a.2 r h)
noncomputable def KE:Shelf.Ren:=⟨fun | 190=>219 | 125=>211 | 258=>243 | 128=>239 | 129=>240 | 302=>255 | 303=>256 | 304=>257 | 305=>258 | 306=>259 | 307=>260 | 308=>261 | 309=>262 | 310=>263 | 333=>273 | 329=>251 | 330=>252 | 334=>274 | 335=>275 | 336=>242 | 344=>285 | n=>n,fun | 31=>22 | 9=>9 | 3=>3 | 46=>205 | 0=>0 | 51=>225 | 53=>227 | 4=>4 | 183=>219 | 182=>218 | 131=>58 | 5=>5 | 218=>232 | 222=>236 | 228=>252 | 229=>253 | n=>n,fun | n=>n⟩
theorem U6:Go.Proofs.Lays.n190 Tryz.prog KE where
 mixed:=by kernel_rfl
 f125:=Tryz.func211.trans (congrArg some (by kernel_rfl))
 f128:=Tryz.func239.trans (congrArg some (by kernel_rfl))
 f129:=Tryz.func240.trans (congrArg some (by kernel_rfl))
 f190:=Tryz.func219.trans (congrArg some (by kernel_rfl))
 f258:=Tryz.func243.trans (congrArg some (by kernel_rfl))
 f302:=Tryz.func255.trans (congrArg some (by kernel_rfl))
 f303:=Tryz.func256.trans (congrArg some (by kernel_rfl))
 f304:=Tryz.func257.trans (congrArg some (by kernel_rfl))
 f305:=Tryz.func258.trans (congrArg some (by kernel_rfl))
 f306:=Tryz.func259.trans (congrArg some (by kernel_rfl))
 f307:=Tryz.func260.trans (congrArg some (by kernel_rfl))
 f308:=Tryz.func261.trans (congrArg some (by kernel_rfl))
 f309:=Tryz.func262.trans (congrArg some (by kernel_rfl))
 f310:=Tryz.func263.trans (congrArg some (by kernel_rfl))
 f329:=Tryz.func251.trans (congrArg some (by kernel_rfl))
 f330:=Tryz.func252.trans (congrArg some (by kernel_rfl))
 f333:=Tryz.func273.trans (congrArg some (by kernel_rfl))
 f334:=Tryz.func274.trans (congrArg some (by kernel_rfl))
 f335:=Tryz.func275.trans (congrArg some (by kernel_rfl))
 f336:=Tryz.func242.trans (congrArg some (by kernel_rfl))
 f344:=Tryz.func285.trans (congrArg some (by kernel_rfl))
 t0:=Tryz.underlying0
 a0:=Tryz.isAgg0
 z0:=Tryz.sizeOf0
 v0:=Tryz.zeroValue0
 t3:=Tryz.underlying3
 a3:=Tryz.isAgg3
 z3:=Tryz.sizeOf3
 v3:=Tryz.zeroValue3
 t4:=Tryz.underlying4
 a4:=Tryz.isAgg4
 z4:=Tryz.sizeOf4
 v4:=Tryz.zeroValue4
 t5:=Tryz.underlying5
 a5:=Tryz.isAgg5
 z5:=Tryz.sizeOf5
 v5:=Tryz.zeroValue5
 t9:=Tryz.underlying9
 a9:=Tryz.isAgg9
 z9:=Tryz.sizeOf9
 v9:=Tryz.zeroValue9
 t31:=Tryz.underlying22
 a31:=Tryz.isAgg22
 z31:=Tryz.sizeOf22
 v31:=Tryz.zeroValue22
 t46:=Tryz.underlying205
 a46:=Tryz.isAgg205
 z46:=Tryz.sizeOf205
 v46:=Tryz.zeroValue205
 t51:=Tryz.underlying225
 a51:=Tryz.isAgg225
 z51:=Tryz.sizeOf225
 v51:=Tryz.zeroValue225
 t53:=Tryz.underlying227
 a53:=Tryz.isAgg227
 z53:=Tryz.sizeOf227
 v53:=Tryz.zeroValue227
 t131:=Tryz.underlying58
 a131:=Tryz.isAgg58
 z131:=Tryz.sizeOf58
 v131:=Tryz.zeroValue58
 t182:=Tryz.underlying218
 a182:=Tryz.isAgg218
 z182:=Tryz.sizeOf218
 v182:=Tryz.zeroValue218
 t183:=Tryz.underlying219
 a183:=Tryz.isAgg219
 z183:=Tryz.sizeOf219
 v183:=Tryz.zeroValue219
 t218:=Tryz.underlying232
 a218:=Tryz.isAgg232
 z218:=Tryz.sizeOf232
 v218:=Tryz.zeroValue232
 t222:=Tryz.underlying236
 a222:=Tryz.isAgg236
 z222:=Tryz.sizeOf236
 v222:=Tryz.zeroValue236
 t228:=Tryz.underlying252
 a228:=Tryz.isAgg252
 z228:=Tryz.sizeOf252
 v228:=Tryz.zeroValue252
 t229:=Tryz.underlying253
 a229:=Tryz.isAgg253
 z229:=Tryz.sizeOf253
 v229:=Tryz.zeroValue253
noncomputable def uJ:Ent:=bm [true] (oA (uW 1 str)) (fun r=>(.tup [],[.usl 1 (r.map str)])) tt
theorem U5 {l:List ac}{r}(h:tt l=some r):uJ.F [.usl 1 (l.map str)]=some (.tup [],[.usl 1 (r.map str)]):=aG (ea:=oA (uW 1 str)) (aH (lm bH)) h
theorem LM {G:Go.Ln.Ground}:aP Tryz.prog G 219 uJ:=Nz U6
noncomputable def Cg:(List ac)→List V:=oA (uW 1 str)
noncomputable def Cj (r:(List ac)):V×List V:=(.usl 1 (r.map str),[.dead])
noncomputable def zJ:Ent:=bm [true] Cg Cj fun x=>zI x
theorem X0 {s_2:List ac}{r}(h:zI s_2=some r):zJ.F (Cg s_2)=some (Cj r):=aG (aH (lm bH)) h
noncomputable def II:Code:=aD Tryz.f220
noncomputable abbrev Fh:Code:=cL (cL (cR (cL (cR (cL (cR (cL (cL (cR (cL (cL (cR (cL (cR (cR II)))))))))))))))
noncomputable def vt:Env:=bT Tryz.prog []
noncomputable def Ci (x:(List ac))(r:(List ac)):St→Prop:=QF vt Tryz.f220 [true] (Cg x) (Cj r)
theorem KT (s_2:List ac)(x2:Int):ci vt 1 (Ci s_2) Fh 2 (jD s_2 x2) (fun u=>(sO 61 [(0,.hs 2 0 [] 1 0 (u.2.map str).length),(3,I u.1)] [none,some ⟨0,1,u.2.map str⟩] 3)) fun x6=>(sO 61 [(0,.hs 2 0 [] 1 0 (x6.2.2.map str).length),(3,I x6.1),(4,.hs 2 0 [] 1 (0+Int.toNat x2) (Int.toNat (len s_2) - Int.toNat x2)),(5,I x6.2.1)] [none,some ⟨0,1,x6.2.2.map str⟩] 3):=dY (xF s_2 x2) fun {Q K} hK self ih x6 y h hr hn=>by
 unfold kb at h
 refine cq 8 [32] [B (decide (x6.2.1<(((Int.toNat (len s_2) - Int.toNat x2):Nat):Int)))] 67 ?_
 refine sq h ?_ ?_<;>intro h
 ·refine aq 1 ?_
  refine aq 3 ?_
  refine eB [0,0,3,7,0,0,32,112,240,511] rfl (by decide +kernel) ?_
  refine dk 2 [36,35] [I x6.2.1,.hs 2 0 [] 1 (0+Int.toNat x2) (Int.toNat (len s_2) - Int.toNat x2)] ?_
  obtain⟨e7,he7,h⟩:=bS h
  refine dq [2] [] (.hp 2 0 [] 1 ((0+Int.toNat x2)+Int.toNat x6.2.1) 0) rfl (ap rfl rfl rfl (NJ (xs:=x6.2.2) rfl rfl he7)) ?_
  refine dq [2] [] (str e7) rfl (bb rfl (jS (path:=[]) rfl rfl rfl aZ (JX (f:=str) (xs:=x6.2.2) he7) rfl rfl rfl)) ?_
  refine dk 3 [41,40,39] [I (au (x6.2.1 - 1)),I x6.2.1,.hs 2 0 [] 1 (0+Int.toNat x2) (Int.toNat (len s_2) - Int.toNat x2)] ?_
  obtain⟨e8,he8,h⟩:=bS h
  refine dq [2] [] (.hp 2 0 [] 1 ((0+Int.toNat x2)+Int.toNat (au (x6.2.1 - 1))) 0) rfl (ap rfl rfl rfl (NJ (xs:=x6.2.2) rfl rfl he8)) ?_
  refine dq [2] [] (str e8) rfl (bb rfl (jS (path:=[]) rfl rfl rfl aZ (JX (f:=str) (xs:=x6.2.2) he8) rfl rfl rfl)) ?_
  refine dk 1 [44] [B (!(e7==e8))] ?_
  refine de 227 rfl rfl ?_
  obtain⟨y9,hy9,hy91,hy92⟩:=bL h
  have j9:∀u9,y9=.inr u9→Run vt 1 Q (.blk 3::.code (cR (cR Fh))::.lp Fh::.blk 2::K) (sO 61 [(0,.hs 2 0 [] 1 0 (u9.2.map str).length),(3,I u9.1),(4,.hs 2 0 [] 1 (0+Int.toNat x2) (Int.toNat (len s_2) - Int.toNat x2)),(5,I x6.2.1)] [none,some ⟨0,1,u9.2.map str⟩] 3):=by
   intro u9 hu
   replace h:=hy92 u9 hu
   refine cq 6 [5] [I (au (x6.2.1+1))] 51 ?_
   refine cW ?_
   exact rg [0,3,4,5] [52,2] (ih _ _ h hr hn :)
  have r9:∀r',y9=.inl r'→∀st,Ci s_2 r' st→Q st:=fun r' e st hq=>hr r' (hy91 r' e) st hq
  replace h:=hy9
  refine sq h ?_ ?_<;>intro h
  ·refine cq 6 [45,46,47,48] [.hs 2 0 [] 1 0 (x6.2.2.map str).length,I x6.1,.hs 2 0 [] 1 (0+Int.toNat x2) (Int.toNat (len s_2) - Int.toNat x2),I x6.2.1] 291 ?_
   obtain⟨e10,he10,h⟩:=bS h
   refine oq 307 (.hp 2 0 [] 1 ((0+Int.toNat x2)+Int.toNat x6.2.1) 0) rfl (ap rfl rfl rfl (NJ (xs:=x6.2.2) rfl rfl he10)) ?_
   refine oq 323 (str e10) rfl (bb rfl (jS (path:=[]) rfl rfl rfl aZ (JX (f:=str) (xs:=x6.2.2) he10) rfl rfl rfl)) ?_
   obtain⟨e11,he11,h⟩:=bS h
   refine oq 339 (.hp 2 0 [] 1 (0+Int.toNat x6.1) 0) rfl (ap rfl rfl rfl (ft (f:=str) (xs:=x6.2.2) rfl rfl rfl he11)) ?_
   refine o0 355 rfl rfl (hI rfl rfl (fN (path:=[]) (pl:=true) (e':=str e10) (es2':=(fi x6.2.2 x6.1 e10).map str) rfl (fm rfl) rfl rfl rfl aZ (eL (f:=str) (xs:=x6.2.2) he11) rfl rfl rfl (mJ (f:=str) (xs:=x6.2.2) (y:=e10)) eC 0 rfl)) ?_
   try rw[←kF (f:=str) (xs:=x6.2.2) (i:=x6.1) (z:=e10)]
   refine cq 6 [3] [I (au (x6.1+1))] 403 ?_
   exact rg [0,3,4,5] [404,2] (j9 _ (aj h) :)
  ·refine aq 1 ?_
   exact rg [0,3,4,5] [228,2] (j9 _ (aj h) :)
 ·refine aq 1 ?_
  exact rg [0,3] [68,2] (hn _ (aj h) :) (hk:=hK)
theorem KS (s_2:List ac):ci vt 1 (Ci s_2) (cL (cL (cR (cL (cR (cR II)))))) 0 (pN s_2) (fun u=>(sO 61 [(0,.hs 2 0 [] 1 0 (u.map str).length)] [none,some ⟨0,1,u.map str⟩] 3)) fun x2=>(sO 61 [(0,.hs 2 0 [] 1 0 (s_2.map str).length),(3,I x2)] [none,some ⟨0,1,s_2.map str⟩] 3):=dY (xE s_2) fun {Q K} hK self ih x2 y h hr hn=>by
 unfold ka at h
 refine cq 5 [10,11] [I x2,.hs 2 0 [] 1 0 (s_2.map str).length] 35 ?_
 refine oq 51 (I (len s_2)) rfl (bd rfl rfl rfl (oC (f:=str) (xs:=s_2) rfl rfl)) ?_
 refine cq 2 [13] [B (decide (x2<(len s_2)))] 67 ?_
 refine sq h ?_ ?_<;>intro h
 ·refine aq 1 ?_
  refine aq 3 ?_
  refine eB [0,0,3,7,0,0,32,112,240,511] rfl (by decide +kernel) ?_
  refine dk 2 [17,16] [I x2,.hs 2 0 [] 1 0 (s_2.map str).length] ?_
  obtain⟨e3,he3,h⟩:=bS h
  refine dq [2] [] (.hp 2 0 [] 1 (0+Int.toNat x2) 0) rfl (ap rfl rfl rfl (ft (f:=str) (xs:=s_2) rfl rfl rfl he3)) ?_
  refine dq [2] [] (str e3) rfl (bb rfl (jS (path:=[]) rfl rfl rfl aZ (eL (f:=str) (xs:=s_2) he3) rfl rfl rfl)) ?_
  refine dk 3 [22,21,20] [I (au (x2 - 1)),I x2,.hs 2 0 [] 1 0 (s_2.map str).length] ?_
  obtain⟨e4,he4,h⟩:=bS h
  refine dq [2] [] (.hp 2 0 [] 1 (0+Int.toNat (au (x2 - 1))) 0) rfl (ap rfl rfl rfl (ft (f:=str) (xs:=s_2) rfl rfl rfl he4)) ?_
  refine dq [2] [] (str e4) rfl (bb rfl (jS (path:=[]) rfl rfl rfl aZ (eL (f:=str) (xs:=s_2) he4) rfl rfl rfl)) ?_
  refine dk 1 [25] [B (e3==e4)] ?_
  refine de 227 rfl rfl ?_
  refine sq h ?_ ?_<;>intro h
  ·refine cq 4 [26,27] [.hs 2 0 [] 1 0 (s_2.map str).length,I x2] 259 ?_
   obtain⟨s5,hs5,h⟩:=bS h
   refine oq 275 (.hs 2 0 [] 1 (0+Int.toNat x2) (Int.toNat (len s_2) - Int.toNat x2)) rfl (gq rfl rfl rfl rfl (pc (f:=str) (xs:=s_2) rfl rfl rfl rfl (Nn rfl) hs5)) ?_
   refine cq 8 [4,5] [.hs 2 0 [] 1 (0+Int.toNat x2) (Int.toNat (len s_2) - Int.toNat x2),I (1)] 307 ?_
   obtain⟨y15,hy15,hy151,hy152⟩:=bL h
   refine bM rfl ?_
   refine rg [0,3,4,5] [308,2] (KT s_2 x2 rfl (x2,1,s_2) _ hy15 (fun r' e st hq=>hr r' (hy151 r' e) st hq) fun u15 hu=>?_)
   replace h:=hy152 u15 hu
   refine cq 4 [54,55] [.hs 2 0 [] 1 0 (u15.2.map str).length,I u15.1] 35 ?_
   obtain⟨s16,hs16,h⟩:=bS h
   refine oq 51 (.hs 2 0 [] 1 (0+Int.toNat u15.1) (Int.toNat (len u15.2) - Int.toNat u15.1)) rfl (gq rfl rfl rfl rfl (pc (f:=str) (xs:=u15.2) rfl rfl rfl rfl (Nn rfl) hs16)) ?_
   obtain⟨k17,hk17,h⟩:=bS h
   refine o0 67 rfl rfl (Wu rfl rfl (Z4 (f:=str) (xs:=u15.2) (z0:=[]) rfl rfl rfl rfl (by decide) lY hk17)) ?_
   try rw[show (u15.2.map str).length=(k17.map str).length from Wr hk17]
   refine cq 5 [57,58] [.hs 2 0 [] 1 0 (k17.map str).length,I u15.1] 99 ?_
   obtain⟨s18,hs18,h⟩:=bS h
   refine oq 115 (.hs 2 0 [] 1 (0+Int.toNat (0)) (Int.toNat u15.1 - Int.toNat (0))) rfl (gq rfl rfl rfl rfl (pc (f:=str) (xs:=k17) rfl rfl rfl rfl rfl hs18)) ?_
   refine cq 2 [2] [.hs 2 0 [] 1 (0+Int.toNat (0)) (Int.toNat u15.1 - Int.toNat (0))] 131 ?_
   obtain⟨p19,hp19,h⟩:=bS h
   exact bW rfl (hr _ (aj h) _ ⟨_,fin (vs:=[.hs 2 0 [] 1 (0+Int.toNat (0)) (Int.toNat u15.1 - Int.toNat (0))]) rfl (fg (eV rfl (Rc (path:=[]) (f:=str) (xs:=k17) rfl rfl aZ hp19 rfl po)) ey) rfl (nt rfl (jT rfl) fB),ni fh⟩)
  ·refine aq 1 ?_
   refine cq 6 [3] [I (au (x2+1))] 275 ?_
   refine cW ?_
   exact rg [0,3] [276,2] (ih _ _ h hr hn :)
 ·refine aq 1 ?_
  exact rg [0] [68,2] (hn _ (aj h) :) (hk:=hK)
theorem S0 (s_2:List ac)(r:(List ac))(h:zI s_2=some r):bz vt Tryz.f220 [true] 1 (Cg s_2) (Cj r):=by
 show Run _ _ (Ci s_2 r) [.code II] _
 refine rI 61 [(0,.hs 1 0 [] 1 0 (s_2.map str).length)] [(1,some ⟨0,1,s_2.map str⟩)] 2 ?_
 unfold zI at h
 refine cq 8 [6] [.hs 1 0 [] 1 0 (s_2.map str).length] 34 ?_
 refine oq 50 (I (len s_2)) rfl (bd rfl rfl rfl (oC (f:=str) (xs:=s_2) rfl rfl)) ?_
 refine cq 2 [8] [B (decide ((len s_2)<2))] 66 ?_
 refine sq h ?_ ?_<;>intro h
 ·refine cq 5 [2] [.hs 1 0 [] 1 0 (s_2.map str).length] 98 ?_
  obtain rfl:=Option.some.inj h
  exact bW rfl ⟨_,fin (vs:=[.hs 1 0 [] 1 0 (s_2.map str).length]) rfl (fg (eV rfl (cZ rfl rfl)) ey) rfl (nt rfl (jT rfl) fB),ni fh⟩
 ·refine aq 1 ?_
  refine cq 6 [3] [I (1)] 82 ?_
  obtain⟨y20,hy20,hy201,hy202⟩:=bJ h
  refine bM rfl ?_
  refine rg [0,3] [83,1] (KS s_2 rfl 1 _ hy20 (fun r' e st hq=>by rw[hy201 r' e] at hq;exact hq) fun u20 hu=>?_)
  replace h:=hy202 u20 hu
  refine cq 5 [2] [.hs 2 0 [] 1 0 (u20.map str).length] 35 ?_
  obtain rfl:=Option.some.inj h
  exact bW rfl ⟨_,fin (vs:=[.hs 2 0 [] 1 0 (u20.map str).length]) rfl (fg (eV rfl (cZ rfl rfl)) ey) rfl (nt rfl (jT rfl) fB),ni fh⟩
theorem PE {G:Go.Ln.Ground}:aP Tryz.prog G 220 zJ:=gT 1 1 bC cd Tryz.func220 (fun a r h=>S0 a r h)
noncomputable def H2:(List ac)→List V:=oA (uW 1 str)
noncomputable def H3 (r:(List ac)):V×List V:=(.usl 1 (r.map str),[.dead])
noncomputable def FQ:Ent:=bm [true] H2 H3 fun x=>Ju x
theorem Z0 {iP:List ac}{r}(h:Ju iP=some r):FQ.F (H2 iP)=some (H3 r):=aG (aH (lm bH)) h
noncomputable def Z2:Code:=aD Tryz.f187
noncomputable def Vr:Env:=bT Tryz.prog [(219,uJ),(220,zJ)]
noncomputable def Z1 (x:(List ac))(r:(List ac)):St→Prop:=QF Vr Tryz.f187 [true] (H2 x) (H3 r)
theorem We (iP:List ac)(r:(List ac))(h:Ju iP=some r):bz Vr Tryz.f187 [true] 1 (H2 iP) (H3 r):=by
 show Run _ _ (Z1 iP r) [.code Z2] _
 refine rI 7 [(0,.hs 1 0 [] 1 0 (iP.map str).length)] [(1,some ⟨0,1,iP.map str⟩)] 2 ?_
 unfold Ju at h
 refine cq 7 [3] [.hs 1 0 [] 1 0 (iP.map str).length] 34 ?_
 obtain⟨r2,hr2,h⟩:=bS h
 obtain⟨g3,h⟩:=gG h
 refine oq 50 (.tup []) rfl (cG rfl rfl (cY rfl rfl rfl (nF (mD rfl (gZ (path:=[]) rfl rfl aZ rfl)) dP) (U5 hr2) (.inr rfl) (lT rfl rfl rfl rfl eh) rfl rfl rfl)) ?_
 try rw[WI (f:=str) (xs:=iP) (ys:=r2) g3]
 refine cq 4 [5] [.hs 1 0 [] 1 0 (r2.map str).length] 66 ?_
 obtain⟨r4,hr4,h⟩:=bS h
 refine oq 82 (.hs 66 0 [] 1 0 (r4.map str).length) rfl (cG rfl rfl (cY rfl rfl rfl (nF (mD rfl (gZ (path:=[]) rfl rfl aZ rfl)) dP) (X0 hr4) (.inr rfl) (lT rfl rfl rfl gp eh) rfl rfl rfl)) ?_
 refine cq 2 [2] [.hs 66 0 [] 1 0 (r4.map str).length] 98 ?_
 obtain rfl:=Option.some.inj h
 exact bW rfl ⟨_,fin (vs:=[.hs 66 0 [] 1 0 (r4.map str).length]) rfl (fg (eV rfl (cZ rfl rfl)) ey) rfl (nt rfl (jT rfl) fB),ni fh⟩
theorem T8 {G:Go.Ln.Ground}:aP Tryz.prog G 187 FQ:=gT 1 1 (aL LM (aL PE bC)) cd Tryz.func187 (fun a r h=>We a r h)
noncomputable def HA:Contract→List V:=oA aM
noncomputable def HB (r:(List ac)):V×List V:=(.usl 1 (r.map str),[])
noncomputable def wV:Ent:=bm [false] HA HB fun x=>ym x
theorem Vg {c_1:Contract}{r}(h:ym c_1=some r):wV.F (HA c_1)=some (HB r):=aG (aH ba) h
noncomputable def Vi:Code:=aD Tryz.f125
noncomputable def M7:Env:=bT Tryz.prog [(186,FA),(187,FQ)]
noncomputable def Vh (x:Contract)(r:(List ac)):St→Prop:=QF M7 Tryz.f125 [false] (HA x) (HB r)
end
end Go.Ln
