/-
  The walks.
-/
import Derived.Test.YtcfddlacocdpoaaGreatDoorFnExactPartyReportFun
import Derived.Test.YtcfddlacocdpoaaGreatDoorChecked
set_option maxHeartbeats 4000000
set_option linter.unusedVariables false
set_option linter.unusedSimpArgs false
set_option maxRecDepth 100000
namespace Go.Ln
open Go Go.Proofs
noncomputable abbrev bW:=Checked.mixed Tryz.checked
abbrev bT:=Go.Ln.Ground
abbrev bQ (G:bT):=fW Tryz.prog G
noncomputable abbrev bV:=Xy Tryz.prog
def Fp:((List ac)×Int)→List V:=cA (fM str) (oA I)
def Fq (r:Int):V×List V:=(I r,[])
noncomputable def vA :=bb [false,false] Fp Fq fun x=>xk x.1 x.2
theorem Ux {a_1:List ac}{ay:Int}{r}(h:xk a_1 ay=some r):vA.F (Fp (a_1,ay))=some (Fq r):=aF (aJ (b7 b8) (aG bi)) h
noncomputable def Uz :=aD Tryz.f41
noncomputable def MS :=bV []
def Uy (x:(List ac)×Int)(r:Int):St→Prop:=QF MS Tryz.f41 [false,false] (Fp x) (Fq r)
theorem Pp (a_1:List ac)(ay:Int):cj MS 0 (Uy (a_1,ay)) (cL (cL (cR (cL (cR (cR (cR Uz))))))) 0 (ub a_1 ay) (fun u=>(sT 28 [(1,I u)] [] 1)) fun x3=>(sT 28 [(0,.isl false (a_1.map str)),(1,I x3.1),(5,I x3.2)] [] 1):=ee (Ah a_1 ay) fun {Q K} hK self ih x3 y h hr hn=>by
 unfold nK at h
 refine cq 5 [12,13] [I x3.2,.isl false (a_1.map str)] 33 ?_
 refine oq 49 (I (len a_1)) rfl (bv rfl rfl rfl (bK rfl)) ?_
 refine cq 2 [15] [B (decide (x3.2<(len a_1)))] 65 ?_
 refine sq h ?_ ?_<;>intro h
 ·refine aq 1 ?_
  refine cq 7 [18,19,20] [I x3.1,.isl false (a_1.map str),I x3.2] 113 ?_
  obtain⟨e4,he4,h⟩:=bS h
  refine oq 129 (.iptr (str e4) 0) rfl (aj rfl rfl rfl (aZ rfl rfl rfl rfl he4)) ?_
  refine cq 10 [1,26] [I (ai (x3.1 - (len e4))),B (decide ((ai (x3.1 - (len e4)))<0))] 225 ?_
  refine sq h ?_ ?_<;>intro h
  ·refine cq 4 [4] [I (-1)] 241 ?_
   exact cu rfl (hr _ (ak h) _ (qp [I (-1)]))
  ·refine aq 1 ?_
   refine cq 6 [5] [I (ai (x3.2+1))] 273 ?_
   refine dh ?_
   exact rf [0,1,5] [] (ih _ _ h hr hn :)
 ·refine aq 1 ?_
  exact rf [1] [] (hn _ (ak h) :) (hk:=hK)
theorem YM (a_1:List ac)(ay:Int)(r:Int)(h:xk a_1 ay=some r):bq MS Tryz.f41 [false,false] 0 (Fp (a_1,ay)) (Fq r):=by
 show Run _ _ (Uy (a_1,ay) r) [.code Uz] _
 refine rI 28 [(0,.isl false (a_1.map str)),(1,I ay)] [] 1 ?_
 unfold xk at h
 refine cq 8 [6,7] [I ay,.isl false (a_1.map str)] 49 ?_
 refine oq 65 (I (len a_1)) rfl (bv rfl rfl rfl (bK rfl)) ?_
 refine cq 9 [1,11] [I (ai (ay - (len a_1))),B (decide ((ai (ay - (len a_1)))<0))] 129 ?_
 refine sq h ?_ ?_<;>intro h
 ·refine cq 4 [4] [I (-1)] 145 ?_
  obtain rfl:=sI h
  exact rP [I (-1)]
 ·refine aq 1 ?_
  refine cq 6 [5] [I (0)] 145 ?_
  obtain⟨y5,hy5,hy51,hy52⟩:=bJ h
  refine bP rfl ?_
  refine rf [0,1,5] [] (Pp a_1 ay rfl ((ai (ay - (len a_1))),0) _ hy5 (fun r' e st hq=>by rw[hy51 r' e] at hq;exact hq) fun u5 hu=>?_)
  replace h:=hy52 u5 hu
  refine cq 5 [4] [I u5] 33 ?_
  obtain rfl:=sI h
  exact rP [I u5]
theorem Kt {G:bT}[TabG Tryz.prog G]:bQ G 41 vA:=gT 2 0 bu bW Tryz.func41 (fun a r h=>YM a.1 a.2 r h)
def xh:(Condition×Int)→List V:=cA bM (oA I)
def xi (r:Int):V×List V:=(I r,[])
noncomputable def sM (bD:(Condition×Int)→Option Int):Ent:=bb [false,false] xh xi bD
theorem Qz (bD:(Condition×Int)→Option Int){x}{r}(h:bD x=some r):(sM bD).F (xh x)=some (xi r):=aF (aJ dE (aG bi)) h
def Ff:((List Condition)×Int)→List V:=cA (fM aH) (oA I)
def Fg (r:Int):V×List V:=(I r,[])
noncomputable def Cr (bD:(Condition×Int)→Option Int):Ent:=bb [false,false] Ff Fg fun x=>xj bD x.1 x.2
theorem aex (bD:(Condition×Int)→Option Int){a_1:List Condition}{ay:Int}{r}(h:xj bD a_1 ay=some r):(Cr bD).F (Ff (a_1,ay))=some (Fg r):=aF (aJ (b7 fJ) (aG bi)) h
noncomputable def Ul :=aD Tryz.f168
noncomputable def MR (bD:(Condition×Int)→Option Int):Env:=bV [(134,(sM bD))]
def Uk (bD:(Condition×Int)→Option Int)(x:(List Condition)×Int)(r:Int):St→Prop:=QF (MR bD) Tryz.f168 [false,false] (Ff x) (Fg r)
theorem Po (bD:(Condition×Int)→Option Int)(a_1:List Condition)(ay:Int):cj (MR bD) 0 (Uk bD (a_1,ay)) (cL (cL (cR (cL (cR (cR (cR Ul))))))) 0 (rD bD a_1 ay) (fun u=>(sT 27 [(1,I u)] [] 1)) fun x3=>(sT 27 [(0,.isl false (a_1.map aH)),(1,I x3.1),(5,I x3.2)] [] 1):=ee (Af bD a_1 ay) fun {Q K} hK self ih x3 y h hr hn=>by
 unfold lN at h
 refine cq 5 [12,13] [I x3.2,.isl false (a_1.map aH)] 33 ?_
 refine oq 49 (I (len a_1)) rfl (bv rfl rfl rfl (bK rfl)) ?_
 refine cq 2 [15] [B (decide (x3.2<(len a_1)))] 65 ?_
 refine sq h ?_ ?_<;>intro h
 ·refine aq 1 ?_
  refine cq 6 [18,19] [.isl false (a_1.map aH),I x3.2] 97 ?_
  obtain⟨e4,he4,h⟩:=bS h
  refine oq 113 (.iptr (bM e4) 0) rfl (aj rfl rfl rfl (aZ rfl rfl (dD e4) rfl he4)) ?_
  refine cq 2 [21,22] [bM e4,I x3.1] 145 ?_
  obtain⟨r5,hr5,h⟩:=bS h
  refine oq 161 (I r5) rfl (bR rfl rfl (cn rfl rfl rfl (aQ (bx rfl) (aQ (bx rfl) cz)) (Qz bD hr5) (.inr rfl) dT rfl rfl rfl)) ?_
  refine cq 7 [1,25] [I r5,B (decide (r5<0))] 209 ?_
  refine sq h ?_ ?_<;>intro h
  ·refine cq 4 [4] [I (-1)] 225 ?_
   exact cu rfl (hr _ (ak h) _ (qp [I (-1)]))
  ·refine aq 1 ?_
   refine cq 6 [5] [I (ai (x3.2+1))] 257 ?_
   refine dh ?_
   exact rf [0,1,5] [] (ih _ _ h hr hn :)
 ·refine aq 1 ?_
  exact rf [1] [] (hn _ (ak h) :) (hk:=hK)
theorem YH (bD:(Condition×Int)→Option Int)(a_1:List Condition)(ay:Int)(r:Int)(h:xj bD a_1 ay=some r):bq (MR bD) Tryz.f168 [false,false] 0 (Ff (a_1,ay)) (Fg r):=by
 show Run _ _ (Uk bD (a_1,ay) r) [.code Ul] _
 refine rI 27 [(0,.isl false (a_1.map aH)),(1,I ay)] [] 1 ?_
 unfold xj at h
 refine cq 8 [6,7] [I ay,.isl false (a_1.map aH)] 49 ?_
 refine oq 65 (I (len a_1)) rfl (bv rfl rfl rfl (bK rfl)) ?_
 refine cq 9 [1,11] [I (ai (ay - (len a_1))),B (decide ((ai (ay - (len a_1)))<0))] 129 ?_
 refine sq h ?_ ?_<;>intro h
 ·refine cq 4 [4] [I (-1)] 145 ?_
  obtain rfl:=sI h
  exact rP [I (-1)]
 ·refine aq 1 ?_
  refine cq 6 [5] [I (0)] 145 ?_
  obtain⟨y6,hy6,hy61,hy62⟩:=bJ h
  refine bP rfl ?_
  refine rf [0,1,5] [] (Po bD a_1 ay rfl ((ai (ay - (len a_1))),0) _ hy6 (fun r' e st hq=>by rw[hy61 r' e] at hq;exact hq) fun u6 hu=>?_)
  replace h:=hy62 u6 hu
  refine cq 5 [4] [I u6] 33 ?_
  obtain rfl:=sI h
  exact rP [I u6]
theorem Um {G:bT}[TabG Tryz.prog G](bD:(Condition×Int)→Option Int)(Oh:bQ G 134 (sM bD)):bQ G 168 (Cr bD):=gT 2 0 (aL Oh bu) bW Tryz.func168 (fun a r h=>YH bD a.1 a.2 r h)
noncomputable def Cq :=sM (aN qn)
theorem aeu {a_1:Condition}{ay:Int}{r}(h:xg a_1 ay=some r):Cq.F (xh (a_1,ay))=some (xi r):=Qz (aN qn) h
noncomputable def aew :=aD Tryz.f134
noncomputable def Ui (bD:(Condition×Int)→Option Int):Env:=bV [(168,(Cr bD))]
def aev (bD:(Condition×Int)→Option Int)(x:Condition×Int)(r:Int):St→Prop:=QF (Ui bD) Tryz.f134 [false,false] (xh x) (xi r)
theorem YG (bD:(Condition×Int)→Option Int)(a_1:Condition)(ay:Int)(r:Int)(h:ua bD a_1 ay=some r):bq (Ui bD) Tryz.f134 [false,false] 0 (xh (a_1,ay)) (xi r):=by
 show Run _ _ (aev bD (a_1,ay) r) [.code aew] _
 refine rI 19 [(0,bM a_1),(1,I ay)] [] 1 ?_
 unfold ua at h
 refine ck 20 [1,2,11] [] [1] [] [I (ai (ay - (len a_1.Name))),.hp 1 0 [] 4 0 0,B (decide ((ai (ay - (len a_1.Name)))<0))] [some ⟨0,4,[bM a_1]⟩] 161 (by kernel_rfl) ?_
 refine sq h ?_ ?_<;>intro h
 ·refine cq 4 [4] [I (-1)] 177 ?_
  obtain rfl:=sI h
  exact rP [I (-1)]
 ·refine aq 1 ?_
  refine cq 5 [13,14] [.isl false (a_1.Parts.map aH),I (ai (ay - (len a_1.Name)))] 209 ?_
  obtain⟨r3,hr3,h⟩:=bS h
  refine oq 225 (I r3) rfl (bR rfl rfl (cn rfl rfl rfl (aQ (bx rfl) (aQ (bx rfl) cz)) (aex bD hr3) (.inr rfl) dT rfl rfl rfl)) ?_
  refine cq 8 [1,17] [I r3,B (decide (r3<0))] 273 ?_
  refine sq h ?_ ?_<;>intro h
  ·refine cq 4 [4] [I (-1)] 289 ?_
   obtain rfl:=sI h
   exact rP [I (-1)]
  ·refine aq 1 ?_
   refine cq 5 [4] [I r3] 305 ?_
   obtain rfl:=sI h
   exact rP [I r3]
theorem Uj {G:bT}[TabG Tryz.prog G]:bQ G 134 Cq:=jL fun bD Oh=>gT 2 0 (aL (Um bD Oh) bu) bW Tryz.func134 (fun a r h=>YG bD a.1 a.2 r h)
def Fb:(Clause×Int)→List V:=cA ap (oA I)
def Fc (r:Int):V×List V:=(I r,[])
noncomputable def Cn :=bb [false,false] Fb Fc fun x=>vz x.1 x.2
theorem aeq {a_1:Clause}{ay:Int}{r}(h:vz a_1 ay=some r):Cn.F (Fb (a_1,ay))=some (Fc r):=aF (aJ dC (aG bi)) h
noncomputable def aes :=aD Tryz.f88
noncomputable def Ud :=bV [(134,Cq)]
def aer (x:Clause×Int)(r:Int):St→Prop:=QF Ud Tryz.f88 [false,false] (Fb x) (Fc r)
theorem YD (a_1:Clause)(ay:Int)(r:Int)(h:vz a_1 ay=some r):bq Ud Tryz.f88 [false,false] 0 (Fb (a_1,ay)) (Fc r):=by
 show Run _ _ (aer (a_1,ay) r) [.code aes] _
 refine rI 33 [(0,ap a_1),(1,I ay)] [] 1 ?_
 unfold vz at h
 refine ck 20 [1,2,11] [] [1] [] [I (ai (ay - (len a_1.Id))),.hp 1 0 [] 12 0 0,B (decide ((ai (ay - (len a_1.Id)))<0))] [some ⟨0,12,[ap a_1]⟩] 161 (by kernel_rfl) ?_
 refine sq h ?_ ?_<;>intro h
 ·refine cq 4 [4] [I (-1)] 177 ?_
  obtain rfl:=sI h
  exact rP [I (-1)]
 ·refine aq 1 ?_
  refine cq 15 [1,18] [I (ai ((ai (ay - (len a_1.Id))) - (len a_1.Action))),B (decide ((ai ((ai (ay - (len a_1.Id))) - (len a_1.Action)))<0))] 289 ?_
  refine sq h ?_ ?_<;>intro h
  ·refine cq 4 [4] [I (-1)] 305 ?_
   obtain rfl:=sI h
   exact rP [I (-1)]
  ·refine aq 1 ?_
   refine cq 5 [20,21] [bM a_1.When,I (ai ((ai (ay - (len a_1.Id))) - (len a_1.Action)))] 337 ?_
   obtain⟨r3,hr3,h⟩:=bS h
   refine oq 353 (I r3) rfl (cP (aeu hr3)) ?_
   refine cq 8 [1,24] [I r3,B (decide (r3<0))] 401 ?_
   refine sq h ?_ ?_<;>intro h
   ·refine cq 4 [4] [I (-1)] 417 ?_
    obtain rfl:=sI h
    exact rP [I (-1)]
   ·refine aq 1 ?_
    refine cq 15 [1,31] [I (ai (r3 - (len a_1.Repair))),B (decide ((ai (r3 - (len a_1.Repair)))<0))] 529 ?_
    refine sq h ?_ ?_<;>intro h
    ·refine cq 4 [4] [I (-1)] 545 ?_
     obtain rfl:=sI h
     exact rP [I (-1)]
    ·refine aq 1 ?_
     refine cq 5 [4] [I (ai (r3 - (len a_1.Repair)))] 561 ?_
     obtain rfl:=sI h
     exact rP [I (ai (r3 - (len a_1.Repair)))]
theorem Ue {G:bT}[TabG Tryz.prog G]:bQ G 88 Cn:=gT 2 0 (aL Uj bu) bW Tryz.func88 (fun a r h=>YD a.1 a.2 r h)
def Fd:((List Clause)×Int)→List V:=cA (fM ap) (oA I)
def Fe (r:Int):V×List V:=(I r,[])
noncomputable def Cp :=bb [false,false] Fd Fe fun x=>Co x.1 x.2
theorem aet {a_1:List Clause}{ay:Int}{r}(h:Co a_1 ay=some r):Cp.F (Fd (a_1,ay))=some (Fe r):=aF (aJ (b7 dC) (aG bi)) h
noncomputable def Ug :=aD Tryz.f42
noncomputable def MQ :=bV [(88,Cn)]
def Uf (x:(List Clause)×Int)(r:Int):St→Prop:=QF MQ Tryz.f42 [false,false] (Fd x) (Fe r)
theorem Pn (a_1:List Clause)(ay:Int):cj MQ 0 (Uf (a_1,ay)) (cL (cL (cR (cL (cR (cR (cR Ug))))))) 0 (tZ a_1 ay) (fun u=>(sT 27 [(1,I u)] [] 1)) fun x3=>(sT 27 [(0,.isl false (a_1.map ap)),(1,I x3.1),(5,I x3.2)] [] 1):=ee (Ae a_1 ay) fun {Q K} hK self ih x3 y h hr hn=>by
 unfold nJ at h
 refine cq 5 [12,13] [I x3.2,.isl false (a_1.map ap)] 33 ?_
 refine oq 49 (I (len a_1)) rfl (bv rfl rfl rfl (bK rfl)) ?_
 refine cq 2 [15] [B (decide (x3.2<(len a_1)))] 65 ?_
 refine sq h ?_ ?_<;>intro h
 ·refine aq 1 ?_
  refine cq 6 [18,19] [.isl false (a_1.map ap),I x3.2] 97 ?_
  obtain⟨e4,he4,h⟩:=bS h
  refine oq 113 (.iptr (ap e4) 0) rfl (aj rfl rfl rfl (aZ rfl rfl rfl rfl he4)) ?_
  refine cq 2 [21,22] [ap e4,I x3.1] 145 ?_
  obtain⟨r5,hr5,h⟩:=bS h
  refine oq 161 (I r5) rfl (cP (aeq hr5)) ?_
  refine cq 7 [1,25] [I r5,B (decide (r5<0))] 209 ?_
  refine sq h ?_ ?_<;>intro h
  ·refine cq 4 [4] [I (-1)] 225 ?_
   exact cu rfl (hr _ (ak h) _ (qp [I (-1)]))
  ·refine aq 1 ?_
   refine cq 6 [5] [I (ai (x3.2+1))] 257 ?_
   refine dh ?_
   exact rf [0,1,5] [] (ih _ _ h hr hn :)
 ·refine aq 1 ?_
  exact rf [1] [] (hn _ (ak h) :) (hk:=hK)
theorem YE (a_1:List Clause)(ay:Int)(r:Int)(h:Co a_1 ay=some r):bq MQ Tryz.f42 [false,false] 0 (Fd (a_1,ay)) (Fe r):=by
 show Run _ _ (Uf (a_1,ay) r) [.code Ug] _
 refine rI 27 [(0,.isl false (a_1.map ap)),(1,I ay)] [] 1 ?_
 unfold Co at h
 refine cq 8 [6,7] [I ay,.isl false (a_1.map ap)] 49 ?_
 refine oq 65 (I (len a_1)) rfl (bv rfl rfl rfl (bK rfl)) ?_
 refine cq 9 [1,11] [I (ai (ay - (len a_1))),B (decide ((ai (ay - (len a_1)))<0))] 129 ?_
 refine sq h ?_ ?_<;>intro h
 ·refine cq 4 [4] [I (-1)] 145 ?_
  obtain rfl:=sI h
  exact rP [I (-1)]
 ·refine aq 1 ?_
  refine cq 6 [5] [I (0)] 145 ?_
  obtain⟨y6,hy6,hy61,hy62⟩:=bJ h
  refine bP rfl ?_
  refine rf [0,1,5] [] (Pn a_1 ay rfl ((ai (ay - (len a_1))),0) _ hy6 (fun r' e st hq=>by rw[hy61 r' e] at hq;exact hq) fun u6 hu=>?_)
  replace h:=hy62 u6 hu
  refine cq 5 [4] [I u6] 33 ?_
  obtain rfl:=sI h
  exact rP [I u6]
theorem Uh {G:bT}[TabG Tryz.prog G]:bQ G 42 Cp:=gT 2 0 (aL Ue bu) bW Tryz.func42 (fun a r h=>YE a.1 a.2 r h)
def Fh:(Contract×Int)→List V:=cA aM (oA I)
def Fi (r:Int):V×List V:=(I r,[])
noncomputable def Cu :=bb [false,false] Fh Fi fun x=>Ct x.1 x.2
theorem aey {a_1:Contract}{ay:Int}{r}(h:Ct a_1 ay=some r):Cu.F (Fh (a_1,ay))=some (Fi r):=aF (aJ aP (aG bi)) h
noncomputable def aeA :=aD Tryz.f12
noncomputable def Uo :=bV [(41,vA),(42,Cp)]
def aez (x:Contract×Int)(r:Int):St→Prop:=QF Uo Tryz.f12 [false,false] (Fh x) (Fi r)
theorem YI (a_1:Contract)(ay:Int)(r:Int)(h:Ct a_1 ay=some r):bq Uo Tryz.f12 [false,false] 0 (Fh (a_1,ay)) (Fi r):=by
 show Run _ _ (aez (a_1,ay) r) [.code aeA] _
 refine rI 18 [(0,aM a_1),(1,I ay)] [] 1 ?_
 unfold Ct at h
 refine ck 10 [2,6,7] [] [1] [] [.hp 1 0 [] 2 0 0,.isl false (a_1.Parties.map str),I ay] [some ⟨0,2,[aM a_1]⟩] 81 (by kernel_rfl) ?_
 obtain⟨r3,hr3,h⟩:=bS h
 refine oq 97 (I r3) rfl (cP (Ux hr3)) ?_
 refine cq 8 [1,10] [I r3,B (decide (r3<0))] 145 ?_
 refine sq h ?_ ?_<;>intro h
 ·refine cq 4 [4] [I (-1)] 161 ?_
  obtain rfl:=sI h
  exact rP [I (-1)]
 ·refine aq 1 ?_
  refine cq 5 [12,13] [.isl false (a_1.Clauses.map ap),I r3] 193 ?_
  obtain⟨r4,hr4,h⟩:=bS h
  refine oq 209 (I r4) rfl (cP (aet hr4)) ?_
  refine cq 8 [1,16] [I r4,B (decide (r4<0))] 257 ?_
  refine sq h ?_ ?_<;>intro h
  ·refine cq 4 [4] [I (-1)] 273 ?_
   obtain rfl:=sI h
   exact rP [I (-1)]
  ·refine aq 1 ?_
   refine cq 5 [4] [I r4] 289 ?_
   obtain rfl:=sI h
   exact rP [I r4]
theorem Uq {G:bT}[TabG Tryz.prog G]:bQ G 12 Cu:=gT 2 0 (aL Kt (aL Uh bu)) bW Tryz.func12 (fun a r h=>YI a.1 a.2 r h)
def Fj:((List Duty)×Int)→List V:=cA (fM ah) (oA I)
def Fk (r:Int):V×List V:=(I r,[])
noncomputable def Cx :=bb [false,false] Fj Fk fun x=>Cw x.1 x.2
theorem aeB {a_1:List Duty}{ay:Int}{r}(h:Cw a_1 ay=some r):Cx.F (Fj (a_1,ay))=some (Fk r):=aF (aJ (b7 eh) (aG bi)) h
noncomputable def aeD :=aD Tryz.f53
noncomputable def Ur :=bV []
def aeC (x:(List Duty)×Int)(r:Int):St→Prop:=QF Ur Tryz.f53 [false,false] (Fj x) (Fk r)
theorem YJ (a_1:List Duty)(ay:Int)(r:Int)(h:Cw a_1 ay=some r):bq Ur Tryz.f53 [false,false] 0 (Fj (a_1,ay)) (Fk r):=by
 show Run _ _ (aeC (a_1,ay) r) [.code aeD] _
 refine rI 12 [(0,.isl false (a_1.map ah)),(1,I ay)] [] 1 ?_
 unfold Cw at h
 refine cq 8 [5,6] [I ay,.isl false (a_1.map ah)] 49 ?_
 refine oq 65 (I (len a_1)) rfl (bv rfl rfl rfl (bK rfl)) ?_
 refine cq 9 [1,10] [I (ai (ay - (len a_1))),B (decide ((ai (ay - (len a_1)))<0))] 129 ?_
 refine sq h ?_ ?_<;>intro h
 ·refine cq 4 [4] [I (-1)] 145 ?_
  obtain rfl:=sI h
  exact rP [I (-1)]
 ·refine aq 1 ?_
  refine cq 5 [4] [I (ai (ay - (len a_1)))] 161 ?_
  obtain rfl:=sI h
  exact rP [I (ai (ay - (len a_1)))]
theorem Us {G:bT}[TabG Tryz.prog G]:bQ G 53 Cx:=gT 2 0 bu bW Tryz.func53 (fun a r h=>YJ a.1 a.2 r h)
def Fl:((List Int)×Int)→List V:=cA (fM I) (oA I)
def Fm (r:Int):V×List V:=(I r,[])
noncomputable def Cz :=bb [false,false] Fl Fm fun x=>Cy x.1 x.2
theorem aeE {a_1:List Int}{ay:Int}{r}(h:Cy a_1 ay=some r):Cz.F (Fl (a_1,ay))=some (Fm r):=aF (aJ (b7 bi) (aG bi)) h
noncomputable def aeG :=aD Tryz.f54
noncomputable def Ut :=bV []
def aeF (x:(List Int)×Int)(r:Int):St→Prop:=QF Ut Tryz.f54 [false,false] (Fl x) (Fm r)
theorem YK (a_1:List Int)(ay:Int)(r:Int)(h:Cy a_1 ay=some r):bq Ut Tryz.f54 [false,false] 0 (Fl (a_1,ay)) (Fm r):=by
 show Run _ _ (aeF (a_1,ay) r) [.code aeG] _
 refine rI 12 [(0,.isl false (a_1.map I)),(1,I ay)] [] 1 ?_
 unfold Cy at h
 refine cq 8 [5,6] [I ay,.isl false (a_1.map I)] 49 ?_
 refine oq 65 (I (len a_1)) rfl (bv rfl rfl rfl (bK rfl)) ?_
 refine cq 9 [1,10] [I (ai (ay - (len a_1))),B (decide ((ai (ay - (len a_1)))<0))] 129 ?_
 refine sq h ?_ ?_<;>intro h
 ·refine cq 4 [4] [I (-1)] 145 ?_
  obtain rfl:=sI h
  exact rP [I (-1)]
 ·refine aq 1 ?_
  refine cq 5 [4] [I (ai (ay - (len a_1)))] 161 ?_
  obtain rfl:=sI h
  exact rP [I (ai (ay - (len a_1)))]
theorem Uu {G:bT}[TabG Tryz.prog G]:bQ G 54 Cz:=gT 2 0 bu bW Tryz.func54 (fun a r h=>YK a.1 a.2 r h)
def Fn:(State×Int)→List V:=cA bA (oA I)
def Fo (r:Int):V×List V:=(I r,[])
noncomputable def CB :=bb [false,false] Fn Fo fun x=>CA x.1 x.2
theorem aeH {a_1:State}{ay:Int}{r}(h:CA a_1 ay=some r):CB.F (Fn (a_1,ay))=some (Fo r):=aF (aJ bN (aG bi)) h
noncomputable def aeJ :=aD Tryz.f21
noncomputable def Uv :=bV [(41,vA),(53,Cx),(54,Cz)]
def aeI (x:State×Int)(r:Int):St→Prop:=QF Uv Tryz.f21 [false,false] (Fn x) (Fo r)
theorem YL (a_1:State)(ay:Int)(r:Int)(h:CA a_1 ay=some r):bq Uv Tryz.f21 [false,false] 0 (Fn (a_1,ay)) (Fo r):=by
 show Run _ _ (aeI (a_1,ay) r) [.code aeJ] _
 refine rI 24 [(0,bA a_1),(1,I ay)] [] 1 ?_
 unfold CA at h
 refine ck 10 [2,6,7] [] [1] [] [.hp 1 0 [] 5 0 0,.isl false (a_1.Facts.map str),I ay] [some ⟨0,5,[bA a_1]⟩] 81 (by kernel_rfl) ?_
 obtain⟨r3,hr3,h⟩:=bS h
 refine oq 97 (I r3) rfl (cP (Ux hr3)) ?_
 refine cq 8 [1,10] [I r3,B (decide (r3<0))] 145 ?_
 refine sq h ?_ ?_<;>intro h
 ·refine cq 4 [4] [I (-1)] 161 ?_
  obtain rfl:=sI h
  exact rP [I (-1)]
 ·refine aq 1 ?_
  refine cq 5 [12,13] [.isl false (a_1.Duties.map ah),I r3] 193 ?_
  obtain⟨r4,hr4,h⟩:=bS h
  refine oq 209 (I r4) rfl (cP (aeB hr4)) ?_
  refine cq 8 [1,16] [I r4,B (decide (r4<0))] 257 ?_
  refine sq h ?_ ?_<;>intro h
  ·refine cq 4 [4] [I (-1)] 273 ?_
   obtain rfl:=sI h
   exact rP [I (-1)]
  ·refine aq 1 ?_
   refine cq 5 [18,19] [.isl false (a_1.Balances.map I),I r4] 305 ?_
   obtain⟨r5,hr5,h⟩:=bS h
   refine oq 321 (I r5) rfl (cP (aeE hr5)) ?_
   refine cq 8 [1,22] [I r5,B (decide (r5<0))] 369 ?_
   refine sq h ?_ ?_<;>intro h
   ·refine cq 4 [4] [I (-1)] 385 ?_
    obtain rfl:=sI h
    exact rP [I (-1)]
   ·refine aq 1 ?_
    refine cq 5 [4] [I r5] 401 ?_
    obtain rfl:=sI h
    exact rP [I r5]
theorem Uw {G:bT}[TabG Tryz.prog G]:bQ G 21 CB:=gT 2 0 (aL Kt (aL Us (aL Uu bu))) bW Tryz.func21 (fun a r h=>YL a.1 a.2 r h)
def FH:(List ac)→List V:=oA (fM str)
def FI (r:(List ac)):V×List V:=(.usl 1 (r.map str),[])
noncomputable def vD :=bb [false] FH FI fun x=>xt x
theorem UX {a_1:List ac}{r}(h:xt a_1=some r):vD.F (FH a_1)=some (FI r):=aF (aG (b7 b8)) h
noncomputable def UZ :=aD Tryz.f45
noncomputable def MX :=bV []
def UY (x:(List ac))(r:(List ac)):St→Prop:=QF MX Tryz.f45 [false] (FH x) (FI r)
theorem Pu (a_1:List ac):cj MX 0 (UY a_1) (cL (cL (cR (cL (cR (cR UZ)))))) 0 (ui a_1) (fun u=>(sT 22 [(3,.hs 1 0 [] 1 0 (u.map str).length)] [⟨0,1,u.map str⟩] 2)) fun x3=>(sT 22 [(0,.isl false (a_1.map str)),(3,.hs 1 0 [] 1 0 (x3.2.map str).length),(4,I x3.1)] [⟨0,1,x3.2.map str⟩] 2):=ee (Am a_1) fun {Q K} hK self ih x3 y h hr hn=>by
 unfold nO at h
 refine cq 5 [8,9] [I x3.1,.isl false (a_1.map str)] 34 ?_
 refine oq 50 (I (len a_1)) rfl (bv rfl rfl rfl (bK rfl)) ?_
 refine cq 2 [11] [B (decide (x3.1<(len a_1)))] 66 ?_
 refine sq h ?_ ?_<;>intro h
 ·refine aq 1 ?_
  refine cq 7 [14,15,16,17] [.hs 1 0 [] 1 0 (x3.2.map str).length,I x3.1,.isl false (a_1.map str),I x3.1] 130 ?_
  obtain⟨e4,he4,h⟩:=bS h
  refine oq 146 (.iptr (str e4) 0) rfl (aj rfl rfl rfl (aZ rfl rfl rfl rfl he4)) ?_
  refine cq 1 [19] [str e4] 162 ?_
  obtain⟨e5,he5,h⟩:=bS h
  refine oq 178 (.hp 1 0 [] 1 (0+Int.toNat x3.1) 0) rfl (aj rfl rfl rfl (dW (f:=str) (xs:=x3.2) rfl rfl rfl he5)) ?_
  refine o0 194 rfl rfl (gb rfl rfl (fm (path:=[]) (pl:=true) (e':=str e4) (es2':=(dw x3.2 x3.1 e4).map str) rfl (dV rfl) rfl rfl rfl aU (du (f:=str) (xs:=x3.2) he5) rfl rfl rfl (iP (f:=str) (xs:=x3.2) (y:=e4)) eK 0 rfl)) ?_
  try rw[←hY (f:=str) (xs:=x3.2) (i:=x3.1) (z:=e4)]
  refine cq 7 [4] [I (ai (x3.1+1))] 242 ?_
  refine dh ?_
  exact rf [0,3,4] [1] (ih _ _ h hr hn :)
 ·refine aq 1 ?_
  exact rf [3] [1] (hn _ (ak h) :) (hk:=hK)
theorem YX (a_1:List ac)(r:(List ac))(h:xt a_1=some r):bq MX Tryz.f45 [false] 0 (FH a_1) (FI r):=by
 show Run _ _ (UY a_1 r) [.code UZ] _
 refine rI 22 [(0,.isl false (a_1.map str))] [] 1 ?_
 unfold xt at h
 refine cq 7 [5] [.isl false (a_1.map str)] 33 ?_
 refine oq 49 (I (len a_1)) rfl (bv rfl rfl rfl (bK rfl)) ?_
 obtain⟨m2,hm2,h⟩:=bS h
 refine oq 65 (.hs 49 0 [] 1 0 (m2.map str).length) rfl (lr rfl rfl (IL (f:=str) rfl rfl rfl (by decide) hm2 rfl)) ?_
 refine cq 8 [3,4] [.hs 49 0 [] 1 0 (m2.map str).length,I (0)] 97 ?_
 obtain⟨y6,hy6,hy61,hy62⟩:=bJ h
 refine bP rfl ?_
 refine rf [0,3,4] [49] (Pu a_1 rfl (0,m2) _ hy6 (fun r' e st hq=>by rw[hy61 r' e] at hq;exact hq) fun u6 hu=>?_)
 replace h:=hy62 u6 hu
 refine cq 5 [2] [.hs 1 0 [] 1 0 (u6.map str).length] 34 ?_
 obtain rfl:=sI h
 exact cu rfl ⟨_,fin (vs:=[.hs 1 0 [] 1 0 (u6.map str).length]) rfl (f9 (fZ rfl (dR rfl rfl)) eA) rfl (cQ ft),fj⟩
theorem Ku {G:bT}[TabG Tryz.prog G]:bQ G 45 vD:=gT 1 0 bu bW Tryz.func45 (fun a r h=>YX a r h)
def xm:Condition→List V:=oA bM
def xn (r:Condition):V×List V:=(qJ r,[])
noncomputable def sN (bE:Condition→Option Condition):Ent:=bb [false] xm xn bE
theorem QA (bE:Condition→Option Condition){x}{r}(h:bE x=some r):(sN bE).F (xm x)=some (xn r):=aF (aG dE) h
def Fv:(List Condition)→List V:=oA (fM aH)
def Fw (r:(List Condition)):V×List V:=(.usl 4 (r.map aC),[])
noncomputable def CH (bE:Condition→Option Condition):Ent:=bb [false] Fv Fw fun x=>xo bE x
theorem aeR (bE:Condition→Option Condition){a_1:List Condition}{r}(h:xo bE a_1=some r):(CH bE).F (Fv a_1)=some (Fw r):=aF (aG (b7 fJ)) h
noncomputable def UI :=aD Tryz.f174
noncomputable def MU (bE:Condition→Option Condition):Env:=bV [(139,(sN bE))]
def UH (bE:Condition→Option Condition)(x:(List Condition))(r:(List Condition)):St→Prop:=QF (MU bE) Tryz.f174 [false] (Fv x) (Fw r)
theorem Pr (bE:Condition→Option Condition)(a_1:List Condition):cj (MU bE) 0 (UH bE a_1) (cL (cL (cR (cL (cR (cR UI)))))) 0 (rE bE a_1) (fun u=>(sT 23 [(3,.hs 1 0 [] 4 0 (u.map aC).length)] [⟨0,4,u.map aC⟩] 2)) fun x3=>(sT 23 [(0,.isl false (a_1.map aH)),(3,.hs 1 0 [] 4 0 (x3.2.map aC).length),(4,I x3.1)] [⟨0,4,x3.2.map aC⟩] 2):=ee (Aj bE a_1) fun {Q K} hK self ih x3 y h hr hn=>by
 unfold lO at h
 refine cq 5 [8,9] [I x3.1,.isl false (a_1.map aH)] 34 ?_
 refine oq 50 (I (len a_1)) rfl (bv rfl rfl rfl (bK rfl)) ?_
 refine cq 2 [11] [B (decide (x3.1<(len a_1)))] 66 ?_
 refine sq h ?_ ?_<;>intro h
 ·refine aq 1 ?_
  refine cq 7 [14,15,16,17] [.hs 1 0 [] 4 0 (x3.2.map aC).length,I x3.1,.isl false (a_1.map aH),I x3.1] 130 ?_
  obtain⟨e4,he4,h⟩:=bS h
  refine oq 146 (.iptr (bM e4) 0) rfl (aj rfl rfl rfl (aZ rfl rfl (dD e4) rfl he4)) ?_
  refine cq 1 [19] [bM e4] 162 ?_
  obtain⟨r5,hr5,h⟩:=bS h
  refine oq 178 (.agg [I r5.Op,str r5.Name,I r5.Day,.hs 162 0 [] 4 0 (r5.Parts.map aC).length]) rfl (bR rfl rfl (cn rfl rfl rfl (aQ (bx rfl) cz) (QA bE hr5) (.inr rfl) dT rfl rfl rfl)) ?_
  obtain⟨e6,he6,h⟩:=bS h
  refine oq 194 (.hp 1 0 [] 4 (0+Int.toNat x3.1) 0) rfl (aj rfl rfl rfl (dW (f:=aC) (xs:=x3.2) rfl rfl rfl he6)) ?_
  refine o0 210 rfl rfl (gb rfl rfl (fm (path:=[]) (pl:=false) (e':=qJ r5) (es2':=(dw x3.2 x3.1 r5).map aC) rfl (pF (cM (dx rfl) (cM (dx rfl) (cM (dx rfl) (cM (dR rfl rfl) pG))))) rfl rfl rfl aU (aaD (f:=aC) (xs:=x3.2) (mT e6) he6) rfl rfl rfl (aaZ (f:=aC) (xs:=x3.2) (mT r5)) eK 1 rfl)) ?_
  try rw[←hY (f:=aC) (xs:=x3.2) (i:=x3.1) (z:=r5)]
  refine cq 7 [4] [I (ai (x3.1+1))] 258 ?_
  refine dh ?_
  exact rf [0,3,4] [1] (ih _ _ h hr hn :)
 ·refine aq 1 ?_
  exact rf [3] [1] (hn _ (ak h) :) (hk:=hK)
theorem YR (bE:Condition→Option Condition)(a_1:List Condition)(r:(List Condition))(h:xo bE a_1=some r):bq (MU bE) Tryz.f174 [false] 0 (Fv a_1) (Fw r):=by
 show Run _ _ (UH bE a_1 r) [.code UI] _
 refine rI 23 [(0,.isl false (a_1.map aH))] [] 1 ?_
 unfold xo at h
 refine cq 7 [5] [.isl false (a_1.map aH)] 33 ?_
 refine oq 49 (I (len a_1)) rfl (bv rfl rfl rfl (bK rfl)) ?_
 obtain⟨m2,hm2,h⟩:=bS h
 refine oq 65 (.hs 49 0 [] 4 0 (m2.map aC).length) rfl (lr rfl rfl (XA (g:=aC) (f:=fun _=>(.agg [I (0),str ([]),I (0),.isl true []]:V)) (z0:=(Condition.mk 0 [] 0 [])) rfl rfl rfl (by decide) hm2 rfl)) ?_
 refine fY 49 (m2.map aC) rfl rfl (N6 hm2 ((mT _).symm▸im (aR (.refl _) (aR (.refl _) (aR (.refl _) (aR (.nil _) eV)))))) ?_
 refine cq 8 [3,4] [.hs 49 0 [] 4 0 (m2.map aC).length,I (0)] 97 ?_
 obtain⟨y7,hy7,hy71,hy72⟩:=bJ h
 refine bP rfl ?_
 refine rf [0,3,4] [49] (Pr bE a_1 rfl (0,m2) _ hy7 (fun r' e st hq=>by rw[hy71 r' e] at hq;exact hq) fun u7 hu=>?_)
 replace h:=hy72 u7 hu
 refine cq 5 [2] [.hs 1 0 [] 4 0 (u7.map aC).length] 34 ?_
 obtain rfl:=sI h
 exact cu rfl ⟨_,fin (vs:=[.hs 1 0 [] 4 0 (u7.map aC).length]) rfl (f9 (fZ rfl (dR rfl rfl)) eA) rfl (cQ ft),fj⟩
theorem UJ {G:bT}[TabG Tryz.prog G](bE:Condition→Option Condition)(Oi:bQ G 139 (sN bE)):bQ G 174 (CH bE):=gT 1 0 (aL Oi bu) bW Tryz.func174 (fun a r h=>YR bE a r h)
noncomputable def CG :=sN (aN qo)
theorem aeO {a_1:Condition}{r}(h:CF a_1=some r):CG.F (xm a_1)=some (xn r):=QA (aN qo) h
noncomputable def aeQ :=aD Tryz.f139
noncomputable def UF (bE:Condition→Option Condition):Env:=bV [(174,(CH bE))]
def aeP (bE:Condition→Option Condition)(x:Condition)(r:Condition):St→Prop:=QF (UF bE) Tryz.f139 [false] (xm x) (xn r)
theorem YQ (bE:Condition→Option Condition)(a_1:Condition)(r:Condition)(h:ue bE a_1=some r):bq (UF bE) Tryz.f139 [false] 0 (xm a_1) (xn r):=by
 show Run _ _ (aeP bE a_1 r) [.code aeQ] _
 refine rI 18 [(0,bM a_1)] [] 1 ?_
 unfold ue at h
 refine ck 4 [1,2] [] [1,17] [] [.hp 1 0 [] 4 0 0,.hp 17 0 [] 4 0 0] [some ⟨0,4,[bM a_1]⟩,some ⟨0,4,[.agg [I (0),str ([]),I (0),.isl true []]]⟩] 33 (by kernel_rfl) ?_
 refine fY 17 [.agg [I (0),str ([]),I (0),.usl 4 (([]).map aC)]] rfl rfl (aR (im (aR (.refl _) (aR (.refl _) (aR (.refl _) (aR (.nil _) eV))))) eV) ?_
 refine ck 4 [3] [] [33] [] [.hp 33 0 [] 4 0 0] [some ⟨0,4,[.agg [I (0),str ([]),I (0),.isl true []]]⟩] 49 (by kernel_rfl) ?_
 refine fY 33 [.agg [I (0),str ([]),I (0),.usl 4 (([]).map aC)]] rfl rfl (aR (im (aR (.refl _) (aR (.refl _) (aR (.refl _) (aR (.nil _) eV))))) eV) ?_
 refine ck 26 [14] [] [33] [] [.isl false (a_1.Parts.map aH)] [some ⟨1,4,[.agg [I a_1.Op,str a_1.Name,I a_1.Day,.usl 4 (([]).map aC)]]⟩] 273 (by kernel_rfl) ?_
 obtain⟨r2,hr2,h⟩:=bS h
 refine oq 289 (.hs 273 0 [] 4 0 (r2.map aC).length) rfl (bR rfl rfl (cn rfl rfl rfl (aQ (bx rfl) cz) (aeR bE hr2) (.inr rfl) dT rfl rfl rfl)) ?_
 refine cq 1 [16] [.hp 33 0 [] 4 0 3] 305 ?_
 refine o0 321 rfl rfl (gb rfl rfl (fm (path:=[]) (pl:=false) (e':=.agg [I a_1.Op,str a_1.Name,I a_1.Day,.usl 4 (r2.map aC)]) (es2':=[.agg [I a_1.Op,str a_1.Name,I a_1.Day,.usl 4 (r2.map aC)]]) rfl (fZ rfl (dR rfl rfl)) rfl rfl rfl aU rfl rfl rfl rfl rfl eK 2 rfl)) ?_
 refine cq 4 [17] [.agg [I a_1.Op,str a_1.Name,I a_1.Day,.hs 33 2 [(0,3)] 4 0 (r2.map aC).length]] 337 ?_
 refine o0 353 rfl rfl (gb rfl rfl (fm (path:=[]) (pl:=false) (e':=.agg [I a_1.Op,str a_1.Name,I a_1.Day,.usl 4 (r2.map aC)]) (es2':=[.agg [I a_1.Op,str a_1.Name,I a_1.Day,.usl 4 (r2.map aC)]]) rfl (pF (cM (dx rfl) (cM (dx rfl) (cM (dx rfl) (cM (iV (path:=[(0,3)]) rfl rfl (gE rfl rfl aU) rfl (pg (path:=[]) (i:=0) (k:=3) (e':=.agg [I a_1.Op,str a_1.Name,I a_1.Day,.dead]) (es2':=[.agg [I a_1.Op,str a_1.Name,I a_1.Day,.dead]]) aU rfl rfl rfl eK)) pG))))) rfl rfl rfl aU rfl rfl rfl rfl rfl eK 2 rfl)) ?_
 refine aq 1 ?_
 obtain rfl:=sI h
 exact cu rfl ⟨_,fin (vs:=[.agg [I a_1.Op,str a_1.Name,I a_1.Day,.hs 17 2 [(0,3)] 4 0 (r2.map aC).length]]) (OZ (vr rfl rfl rfl) O0) (f9 (pF (cM (dx rfl) (cM (dx rfl) (cM (dx rfl) (cM (iV (path:=[(0,3)]) rfl rfl (gE rfl rfl aU) rfl (pg (path:=[]) (i:=0) (k:=3) (e':=.agg [I a_1.Op,str a_1.Name,I a_1.Day,.dead]) (es2':=[.agg [I a_1.Op,str a_1.Name,I a_1.Day,.dead]]) aU rfl rfl rfl eK)) pG))))) eA) rfl (cQ ft),fj⟩
theorem UG {G:bT}[TabG Tryz.prog G]:bQ G 139 CG:=jL fun bE Oi=>gT 1 0 (aL (UJ bE Oi) bu) bW Tryz.func139 (fun a r h=>YQ bE a r h)
def Fr:Clause→List V:=oA ap
def Fs (r:Clause):V×List V:=(vv r,[])
noncomputable def CC :=bb [false] Fr Fs fun x=>xl x
theorem aeK {a_1:Clause}{r}(h:xl a_1=some r):CC.F (Fr a_1)=some (Fs r):=aF (aG dC) h
noncomputable def aeM :=aD Tryz.f97
noncomputable def UA :=bV [(139,CG)]
def aeL (x:Clause)(r:Clause):St→Prop:=QF UA Tryz.f97 [false] (Fr x) (Fs r)
theorem YN (a_1:Clause)(r:Clause)(h:xl a_1=some r):bq UA Tryz.f97 [false] 0 (Fr a_1) (Fs r):=by
 show Run _ _ (aeL a_1 r) [.code aeM] _
 refine rI 33 [(0,ap a_1)] [] 1 ?_
 unfold xl at h
 refine ck 4 [1,2] [] [1,17] [] [.hp 1 0 [] 12 0 0,.hp 17 0 [] 12 0 0] [some ⟨0,12,[ap a_1]⟩,some ⟨0,12,[.agg [str ([]),I (0),I (0),str ([]),I (0),I (0),I (0),str ([]),I (0),.isl true [],I (0),str ([])]]⟩] 33 (by kernel_rfl) ?_
 refine fY 17 [.agg [str ([]),I (0),I (0),str ([]),I (0),I (0),I (0),str ([]),I (0),.usl 4 (([]).map aC),I (0),str ([])]] rfl rfl (aR (im (aR (.refl _) (aR (.refl _) (aR (.refl _) (aR (.refl _) (aR (.refl _) (aR (.refl _) (aR (.refl _) (aR (.refl _) (aR (.refl _) (aR (.nil _) (aR (.refl _) (aR (.refl _) eV))))))))))))) eV) ?_
 refine ck 4 [3] [] [33] [] [.hp 33 0 [] 12 0 0] [some ⟨0,12,[.agg [str ([]),I (0),I (0),str ([]),I (0),I (0),I (0),str ([]),I (0),.isl true [],I (0),str ([])]]⟩] 49 (by kernel_rfl) ?_
 refine fY 33 [.agg [str ([]),I (0),I (0),str ([]),I (0),I (0),I (0),str ([]),I (0),.usl 4 (([]).map aC),I (0),str ([])]] rfl rfl (aR (im (aR (.refl _) (aR (.refl _) (aR (.refl _) (aR (.refl _) (aR (.refl _) (aR (.refl _) (aR (.refl _) (aR (.refl _) (aR (.refl _) (aR (.nil _) (aR (.refl _) (aR (.refl _) eV))))))))))))) eV) ?_
 refine ck 47 [23] [] [33] [] [bM a_1.When] [some ⟨1,12,[.agg [str a_1.Id,I a_1.Kind,I a_1.Party,str a_1.Action,I a_1.Other,I a_1.Amount,I (0),str ([]),I (0),.usl 4 (([]).map aC),I (0),str ([])]]⟩] 465 (by kernel_rfl) ?_
 obtain⟨r2,hr2,h⟩:=bS h
 refine oq 481 (.agg [I r2.Op,str r2.Name,I r2.Day,.hs 465 0 [] 4 0 (r2.Parts.map aC).length]) rfl (cP (aeO hr2)) ?_
 refine cq 1 [25] [.hp 33 0 [] 12 0 6] 497 ?_
 refine o0 513 rfl rfl (gb rfl rfl (fm (path:=[]) (pl:=false) (e':=.agg [str a_1.Id,I a_1.Kind,I a_1.Party,str a_1.Action,I a_1.Other,I a_1.Amount,I r2.Op,str r2.Name,I r2.Day,.usl 4 (r2.Parts.map aC),I (0),str ([])]) (es2':=[.agg [str a_1.Id,I a_1.Kind,I a_1.Party,str a_1.Action,I a_1.Other,I a_1.Amount,I r2.Op,str r2.Name,I r2.Day,.usl 4 (r2.Parts.map aC),I (0),str ([])]]) rfl (pF (cM (dx rfl) (cM (dx rfl) (cM (dx rfl) (cM (dR rfl rfl) pG))))) rfl rfl rfl aU rfl rfl rfl rfl rfl eK 2 rfl)) ?_
 refine ck 18 [32] [] [33] [] [.agg [str a_1.Id,I a_1.Kind,I a_1.Party,str a_1.Action,I a_1.Other,I a_1.Amount,I r2.Op,str r2.Name,I r2.Day,.hs 33 2 [(0,9)] 4 0 (r2.Parts.map aC).length,I a_1.Within,str a_1.Repair]] [some ⟨2,12,[.agg [str a_1.Id,I a_1.Kind,I a_1.Party,str a_1.Action,I a_1.Other,I a_1.Amount,I r2.Op,str r2.Name,I r2.Day,.usl 4 (r2.Parts.map aC),I a_1.Within,str a_1.Repair]]⟩] 657 (by kernel_rfl) ?_
 refine o0 673 rfl rfl (gb rfl rfl (fm (path:=[]) (pl:=false) (e':=.agg [str a_1.Id,I a_1.Kind,I a_1.Party,str a_1.Action,I a_1.Other,I a_1.Amount,I r2.Op,str r2.Name,I r2.Day,.usl 4 (r2.Parts.map aC),I a_1.Within,str a_1.Repair]) (es2':=[.agg [str a_1.Id,I a_1.Kind,I a_1.Party,str a_1.Action,I a_1.Other,I a_1.Amount,I r2.Op,str r2.Name,I r2.Day,.usl 4 (r2.Parts.map aC),I a_1.Within,str a_1.Repair]]) rfl (pF (cM (dx rfl) (cM (dx rfl) (cM (dx rfl) (cM (dx rfl) (cM (dx rfl) (cM (dx rfl) (cM (dx rfl) (cM (dx rfl) (cM (dx rfl) (cM (iV (path:=[(0,9)]) rfl rfl (gE rfl rfl aU) rfl (pg (path:=[]) (i:=0) (k:=9) (e':=.agg [str a_1.Id,I a_1.Kind,I a_1.Party,str a_1.Action,I a_1.Other,I a_1.Amount,I r2.Op,str r2.Name,I r2.Day,.dead,I a_1.Within,str a_1.Repair]) (es2':=[.agg [str a_1.Id,I a_1.Kind,I a_1.Party,str a_1.Action,I a_1.Other,I a_1.Amount,I r2.Op,str r2.Name,I r2.Day,.dead,I a_1.Within,str a_1.Repair]]) aU rfl rfl rfl eK)) (cM (dx rfl) (cM (dx rfl) pG))))))))))))) rfl rfl rfl aU rfl rfl rfl rfl rfl eK 2 rfl)) ?_
 refine aq 1 ?_
 obtain rfl:=sI h
 exact cu rfl ⟨_,fin (vs:=[.agg [str a_1.Id,I a_1.Kind,I a_1.Party,str a_1.Action,I a_1.Other,I a_1.Amount,I r2.Op,str r2.Name,I r2.Day,.hs 17 2 [(0,9)] 4 0 (r2.Parts.map aC).length,I a_1.Within,str a_1.Repair]]) (OZ (vr rfl rfl rfl) O0) (f9 (pF (cM (dx rfl) (cM (dx rfl) (cM (dx rfl) (cM (dx rfl) (cM (dx rfl) (cM (dx rfl) (cM (dx rfl) (cM (dx rfl) (cM (dx rfl) (cM (iV (path:=[(0,9)]) rfl rfl (gE rfl rfl aU) rfl (pg (path:=[]) (i:=0) (k:=9) (e':=.agg [str a_1.Id,I a_1.Kind,I a_1.Party,str a_1.Action,I a_1.Other,I a_1.Amount,I r2.Op,str r2.Name,I r2.Day,.dead,I a_1.Within,str a_1.Repair]) (es2':=[.agg [str a_1.Id,I a_1.Kind,I a_1.Party,str a_1.Action,I a_1.Other,I a_1.Amount,I r2.Op,str r2.Name,I r2.Day,.dead,I a_1.Within,str a_1.Repair]]) aU rfl rfl rfl eK)) (cM (dx rfl) (cM (dx rfl) pG))))))))))))) eA) rfl (cQ ft),fj⟩
theorem UB {G:bT}[TabG Tryz.prog G]:bQ G 97 CC:=gT 1 0 (aL UG bu) bW Tryz.func97 (fun a r h=>YN a r h)
def Ft:(List Clause)→List V:=oA (fM ap)
def Fu (r:(List Clause)):V×List V:=(.usl 12 (r.map bd),[])
noncomputable def CE :=bb [false] Ft Fu fun x=>CD x
theorem aeN {a_1:List Clause}{r}(h:CD a_1=some r):CE.F (Ft a_1)=some (Fu r):=aF (aG (b7 dC)) h
noncomputable def UD :=aD Tryz.f46
noncomputable def MT :=bV [(97,CC)]
def UC (x:(List Clause))(r:(List Clause)):St→Prop:=QF MT Tryz.f46 [false] (Ft x) (Fu r)
theorem Pq (a_1:List Clause):cj MT 0 (UC a_1) (cL (cL (cR (cL (cR (cR UD)))))) 0 (uc a_1) (fun u=>(sT 23 [(3,.hs 1 0 [] 12 0 (u.map bd).length)] [⟨0,12,u.map bd⟩] 2)) fun x3=>(sT 23 [(0,.isl false (a_1.map ap)),(3,.hs 1 0 [] 12 0 (x3.2.map bd).length),(4,I x3.1)] [⟨0,12,x3.2.map bd⟩] 2):=ee (Ai a_1) fun {Q K} hK self ih x3 y h hr hn=>by
 unfold nL at h
 refine cq 5 [8,9] [I x3.1,.isl false (a_1.map ap)] 34 ?_
 refine oq 50 (I (len a_1)) rfl (bv rfl rfl rfl (bK rfl)) ?_
 refine cq 2 [11] [B (decide (x3.1<(len a_1)))] 66 ?_
 refine sq h ?_ ?_<;>intro h
 ·refine aq 1 ?_
  refine cq 7 [14,15,16,17] [.hs 1 0 [] 12 0 (x3.2.map bd).length,I x3.1,.isl false (a_1.map ap),I x3.1] 130 ?_
  obtain⟨e4,he4,h⟩:=bS h
  refine oq 146 (.iptr (ap e4) 0) rfl (aj rfl rfl rfl (aZ rfl rfl rfl rfl he4)) ?_
  refine cq 1 [19] [ap e4] 162 ?_
  obtain⟨r5,hr5,h⟩:=bS h
  refine oq 178 (.agg [str r5.Id,I r5.Kind,I r5.Party,str r5.Action,I r5.Other,I r5.Amount,I r5.When.Op,str r5.When.Name,I r5.When.Day,.hs 162 0 [] 4 0 (r5.When.Parts.map aC).length,I r5.Within,str r5.Repair]) rfl (cP (aeK hr5)) ?_
  obtain⟨e6,he6,h⟩:=bS h
  refine oq 194 (.hp 1 0 [] 12 (0+Int.toNat x3.1) 0) rfl (aj rfl rfl rfl (dW (f:=bd) (xs:=x3.2) rfl rfl rfl he6)) ?_
  refine o0 210 rfl rfl (gb rfl rfl (fm (path:=[]) (pl:=false) (e':=vv r5) (es2':=(dw x3.2 x3.1 r5).map bd) rfl (pF (cM (dx rfl) (cM (dx rfl) (cM (dx rfl) (cM (dx rfl) (cM (dx rfl) (cM (dx rfl) (cM (dx rfl) (cM (dx rfl) (cM (dx rfl) (cM (dR rfl rfl) (cM (dx rfl) (cM (dx rfl) pG))))))))))))) rfl rfl rfl aU (du (f:=bd) (xs:=x3.2) he6) rfl rfl rfl (iP (f:=bd) (xs:=x3.2) (y:=r5)) eK 1 rfl)) ?_
  try rw[←hY (f:=bd) (xs:=x3.2) (i:=x3.1) (z:=r5)]
  refine cq 7 [4] [I (ai (x3.1+1))] 258 ?_
  refine dh ?_
  exact rf [0,3,4] [1] (ih _ _ h hr hn :)
 ·refine aq 1 ?_
  exact rf [3] [1] (hn _ (ak h) :) (hk:=hK)
theorem YO (a_1:List Clause)(r:(List Clause))(h:CD a_1=some r):bq MT Tryz.f46 [false] 0 (Ft a_1) (Fu r):=by
 show Run _ _ (UC a_1 r) [.code UD] _
 refine rI 23 [(0,.isl false (a_1.map ap))] [] 1 ?_
 unfold CD at h
 refine cq 7 [5] [.isl false (a_1.map ap)] 33 ?_
 refine oq 49 (I (len a_1)) rfl (bv rfl rfl rfl (bK rfl)) ?_
 obtain⟨m2,hm2,h⟩:=bS h
 refine oq 65 (.hs 49 0 [] 12 0 (m2.map bd).length) rfl (lr rfl rfl (XA (g:=bd) (f:=fun _=>(.agg [str ([]),I (0),I (0),str ([]),I (0),I (0),I (0),str ([]),I (0),.isl true [],I (0),str ([])]:V)) (z0:=(Clause.mk [] 0 0 [] 0 0 (Condition.mk 0 [] 0 []) 0 [])) rfl rfl rfl (by decide) hm2 rfl)) ?_
 refine fY 49 (m2.map bd) rfl rfl (N6 hm2 (im (aR (.refl _) (aR (.refl _) (aR (.refl _) (aR (.refl _) (aR (.refl _) (aR (.refl _) (aR (.refl _) (aR (.refl _) (aR (.refl _) (aR (.nil _) (aR (.refl _) (aR (.refl _) eV)))))))))))))) ?_
 refine cq 8 [3,4] [.hs 49 0 [] 12 0 (m2.map bd).length,I (0)] 97 ?_
 obtain⟨y7,hy7,hy71,hy72⟩:=bJ h
 refine bP rfl ?_
 refine rf [0,3,4] [49] (Pq a_1 rfl (0,m2) _ hy7 (fun r' e st hq=>by rw[hy71 r' e] at hq;exact hq) fun u7 hu=>?_)
 replace h:=hy72 u7 hu
 refine cq 5 [2] [.hs 1 0 [] 12 0 (u7.map bd).length] 34 ?_
 obtain rfl:=sI h
 exact cu rfl ⟨_,fin (vs:=[.hs 1 0 [] 12 0 (u7.map bd).length]) rfl (f9 (fZ rfl (dR rfl rfl)) eA) rfl (cQ ft),fj⟩
theorem UE {G:bT}[TabG Tryz.prog G]:bQ G 46 CE:=gT 1 0 (aL UB bu) bW Tryz.func46 (fun a r h=>YO a r h)
def Fx:Contract→List V:=oA aM
def Fy (r:Contract):V×List V:=(.agg [.usl 1 (r.Parties.map str),.usl 12 (r.Clauses.map bd)],[])
noncomputable def CI :=bb [false] Fx Fy fun x=>vB x
theorem xp {a_1:Contract}{r}(h:vB a_1=some r):CI.F (Fx a_1)=some (Fy r):=aF (aG aP) h
noncomputable def aeT :=aD Tryz.f14
noncomputable def UK :=bV [(45,vD),(46,CE)]
def aeS (x:Contract)(r:Contract):St→Prop:=QF UK Tryz.f14 [false] (Fx x) (Fy r)
theorem YS (a_1:Contract)(r:Contract)(h:vB a_1=some r):bq UK Tryz.f14 [false] 0 (Fx a_1) (Fy r):=by
 show Run _ _ (aeS a_1 r) [.code aeT] _
 refine rI 13 [(0,aM a_1)] [] 1 ?_
 unfold vB at h
 refine ck 4 [1,2] [] [1,17] [] [.hp 1 0 [] 2 0 0,.hp 17 0 [] 2 0 0] [some ⟨0,2,[aM a_1]⟩,some ⟨0,2,[.agg [.isl true [],.isl true []]]⟩] 33 (by kernel_rfl) ?_
 refine fY 17 [.agg [.usl 1 (([]).map str),.usl 12 (([]).map bd)]] rfl rfl (aR (im (aR (.nil _) (aR (.nil _) eV))) eV) ?_
 refine ck 4 [3] [] [33] [] [.hp 33 0 [] 2 0 0] [some ⟨0,2,[.agg [.isl true [],.isl true []]]⟩] 49 (by kernel_rfl) ?_
 refine fY 33 [.agg [.usl 1 (([]).map str),.usl 12 (([]).map bd)]] rfl rfl (aR (im (aR (.nil _) (aR (.nil _) eV))) eV) ?_
 refine cq 5 [5] [.isl false (a_1.Parties.map str)] 81 ?_
 obtain⟨r2,hr2,h⟩:=bS h
 refine oq 97 (.hs 81 0 [] 1 0 (r2.map str).length) rfl (cP (UX hr2)) ?_
 refine cq 1 [7] [.hp 33 0 [] 2 0 0] 113 ?_
 refine o0 129 rfl rfl (gb rfl rfl (fm (path:=[]) (pl:=false) (e':=.agg [.usl 1 (r2.map str),.usl 12 (([]).map bd)]) (es2':=[.agg [.usl 1 (r2.map str),.usl 12 (([]).map bd)]]) rfl (fZ rfl (dR rfl rfl)) rfl rfl rfl aU rfl rfl rfl rfl rfl eK 2 rfl)) ?_
 refine cq 5 [9] [.isl false (a_1.Clauses.map ap)] 161 ?_
 obtain⟨r3,hr3,h⟩:=bS h
 refine oq 177 (.hs 161 0 [] 12 0 (r3.map bd).length) rfl (cP (aeN hr3)) ?_
 refine cq 1 [11] [.hp 33 0 [] 2 0 1] 193 ?_
 refine o0 209 rfl rfl (gb rfl rfl (fm (path:=[]) (pl:=false) (e':=.agg [.usl 1 (r2.map str),.usl 12 (r3.map bd)]) (es2':=[.agg [.usl 1 (r2.map str),.usl 12 (r3.map bd)]]) rfl (fZ rfl (dR rfl rfl)) rfl rfl rfl aU rfl rfl rfl rfl rfl eK 3 rfl)) ?_
 refine cq 4 [12] [.agg [.hs 33 3 [(0,0)] 1 0 (r2.map str).length,.hs 33 3 [(0,1)] 12 0 (r3.map bd).length]] 225 ?_
 refine o0 241 rfl rfl (gb rfl rfl (fm (path:=[]) (pl:=false) (e':=.agg [.usl 1 (r2.map str),.usl 12 (r3.map bd)]) (es2':=[.agg [.usl 1 (r2.map str),.usl 12 (r3.map bd)]]) rfl (pF (cM (iV (path:=[(0,0)]) rfl rfl (gE rfl rfl aU) rfl (pg (path:=[]) (i:=0) (k:=0) (e':=.agg [.dead,.usl 12 (r3.map bd)]) (es2':=[.agg [.dead,.usl 12 (r3.map bd)]]) aU rfl rfl rfl eK)) (cM (iV (path:=[(0,1)]) rfl rfl (gE rfl rfl aU) rfl (pg (path:=[]) (i:=0) (k:=1) (e':=.agg [.dead,.dead]) (es2':=[.agg [.dead,.dead]]) aU rfl rfl rfl eK)) pG))) rfl rfl rfl aU rfl rfl rfl rfl rfl eK 2 rfl)) ?_
 refine aq 1 ?_
 obtain rfl:=sI h
 exact cu rfl ⟨_,fin (vs:=[.agg [.hs 17 2 [(0,0)] 1 0 (r2.map str).length,.hs 17 2 [(0,1)] 12 0 (r3.map bd).length]]) (OZ (vr rfl rfl rfl) O0) (f9 (pF (cM (iV (path:=[(0,0)]) rfl rfl (gE rfl rfl aU) rfl (pg (path:=[]) (i:=0) (k:=0) (e':=.agg [.dead,.usl 12 (r3.map bd)]) (es2':=[.agg [.dead,.usl 12 (r3.map bd)]]) aU rfl rfl rfl eK)) (cM (iV (path:=[(0,1)]) rfl rfl (gE rfl rfl aU) rfl (pg (path:=[]) (i:=0) (k:=1) (e':=.agg [.dead,.dead]) (es2':=[.agg [.dead,.dead]]) aU rfl rfl rfl eK)) pG))) eA) rfl (cQ ft),fj⟩
theorem UL {G:bT}[TabG Tryz.prog G]:bQ G 14 CI:=gT 1 0 (aL Ku (aL UE bu)) bW Tryz.func14 (fun a r h=>YS a r h)
def Fz:Duty→List V:=oA ah
def FA (r:Duty):V×List V:=(ah r,[])
noncomputable def CJ :=bb [false] Fz FA fun x=>xq x
theorem aeU {a_1:Duty}{r}(h:xq a_1=some r):CJ.F (Fz a_1)=some (FA r):=aF (aG eh) h
noncomputable def aeW :=aD Tryz.f108
noncomputable def UM :=bV []
def aeV (x:Duty)(r:Duty):St→Prop:=QF UM Tryz.f108 [false] (Fz x) (FA r)
theorem YT (a_1:Duty)(r:Duty)(h:xq a_1=some r):bq UM Tryz.f108 [false] 0 (Fz a_1) (FA r):=by
 show Run _ _ (aeV a_1 r) [.code aeW] _
 refine rI 17 [(0,ah a_1)] [] 1 ?_
 unfold xq at h
 refine ck 42 [2] [] [17] [] [.hp 17 0 [] 4 0 0] [some ⟨0,4,[ah a_1]⟩] 337 (by kernel_rfl) ?_
 obtain rfl:=sI h
 exact cu rfl ⟨_,fin (vs:=[ah a_1]) (OZ (vr rfl rfl rfl) O0) (f9 (dV rfl) eA) rfl (cQ ft),fj⟩
theorem UN {G:bT}[TabG Tryz.prog G]:bQ G 108 CJ:=gT 1 0 bu bW Tryz.func108 (fun a r h=>YT a r h)
def FB:(List Duty)→List V:=oA (fM ah)
def FC (r:(List Duty)):V×List V:=(.usl 4 (r.map ah),[])
noncomputable def CL :=bb [false] FB FC fun x=>CK x
theorem aeX {a_1:List Duty}{r}(h:CK a_1=some r):CL.F (FB a_1)=some (FC r):=aF (aG (b7 eh)) h
noncomputable def UQ :=aD Tryz.f57
noncomputable def MV :=bV [(108,CJ)]
def UO (x:(List Duty))(r:(List Duty)):St→Prop:=QF MV Tryz.f57 [false] (FB x) (FC r)
theorem Ps (a_1:List Duty):cj MV 0 (UO a_1) (cL (cL (cR (cL (cR (cR UQ)))))) 0 (ug a_1) (fun u=>(sT 23 [(3,.hs 1 0 [] 4 0 (u.map ah).length)] [⟨0,4,u.map ah⟩] 2)) fun x3=>(sT 23 [(0,.isl false (a_1.map ah)),(3,.hs 1 0 [] 4 0 (x3.2.map ah).length),(4,I x3.1)] [⟨0,4,x3.2.map ah⟩] 2):=ee (Ak a_1) fun {Q K} hK self ih x3 y h hr hn=>by
 unfold nM at h
 refine cq 5 [8,9] [I x3.1,.isl false (a_1.map ah)] 34 ?_
 refine oq 50 (I (len a_1)) rfl (bv rfl rfl rfl (bK rfl)) ?_
 refine cq 2 [11] [B (decide (x3.1<(len a_1)))] 66 ?_
 refine sq h ?_ ?_<;>intro h
 ·refine aq 1 ?_
  refine cq 7 [14,15,16,17] [.hs 1 0 [] 4 0 (x3.2.map ah).length,I x3.1,.isl false (a_1.map ah),I x3.1] 130 ?_
  obtain⟨e4,he4,h⟩:=bS h
  refine oq 146 (.iptr (ah e4) 0) rfl (aj rfl rfl rfl (aZ rfl rfl rfl rfl he4)) ?_
  refine cq 1 [19] [ah e4] 162 ?_
  obtain⟨r5,hr5,h⟩:=bS h
  refine oq 178 (ah r5) rfl (cP (aeU hr5)) ?_
  obtain⟨e6,he6,h⟩:=bS h
  refine oq 194 (.hp 1 0 [] 4 (0+Int.toNat x3.1) 0) rfl (aj rfl rfl rfl (dW (f:=ah) (xs:=x3.2) rfl rfl rfl he6)) ?_
  refine o0 210 rfl rfl (gb rfl rfl (fm (path:=[]) (pl:=true) (e':=ah r5) (es2':=(dw x3.2 x3.1 r5).map ah) rfl (dV rfl) rfl rfl rfl aU (du (f:=ah) (xs:=x3.2) he6) rfl rfl rfl (iP (f:=ah) (xs:=x3.2) (y:=r5)) eK 0 rfl)) ?_
  try rw[←hY (f:=ah) (xs:=x3.2) (i:=x3.1) (z:=r5)]
  refine cq 7 [4] [I (ai (x3.1+1))] 258 ?_
  refine dh ?_
  exact rf [0,3,4] [1] (ih _ _ h hr hn :)
 ·refine aq 1 ?_
  exact rf [3] [1] (hn _ (ak h) :) (hk:=hK)
theorem YU (a_1:List Duty)(r:(List Duty))(h:CK a_1=some r):bq MV Tryz.f57 [false] 0 (FB a_1) (FC r):=by
 show Run _ _ (UO a_1 r) [.code UQ] _
 refine rI 23 [(0,.isl false (a_1.map ah))] [] 1 ?_
 unfold CK at h
 refine cq 7 [5] [.isl false (a_1.map ah)] 33 ?_
 refine oq 49 (I (len a_1)) rfl (bv rfl rfl rfl (bK rfl)) ?_
 obtain⟨m2,hm2,h⟩:=bS h
 refine oq 65 (.hs 49 0 [] 4 0 (m2.map ah).length) rfl (lr rfl rfl (IL (f:=ah) rfl rfl rfl (by decide) hm2 rfl)) ?_
 refine cq 8 [3,4] [.hs 49 0 [] 4 0 (m2.map ah).length,I (0)] 97 ?_
 obtain⟨y7,hy7,hy71,hy72⟩:=bJ h
 refine bP rfl ?_
 refine rf [0,3,4] [49] (Ps a_1 rfl (0,m2) _ hy7 (fun r' e st hq=>by rw[hy71 r' e] at hq;exact hq) fun u7 hu=>?_)
 replace h:=hy72 u7 hu
 refine cq 5 [2] [.hs 1 0 [] 4 0 (u7.map ah).length] 34 ?_
 obtain rfl:=sI h
 exact cu rfl ⟨_,fin (vs:=[.hs 1 0 [] 4 0 (u7.map ah).length]) rfl (f9 (fZ rfl (dR rfl rfl)) eA) rfl (cQ ft),fj⟩
theorem UR {G:bT}[TabG Tryz.prog G]:bQ G 57 CL:=gT 1 0 (aL UN bu) bW Tryz.func57 (fun a r h=>YU a r h)
def FD:(List Int)→List V:=oA (fM I)
def FE (r:(List Int)):V×List V:=(.usl 1 (r.map I),[])
noncomputable def CN :=bb [false] FD FE fun x=>CM x
theorem aeY {a_1:List Int}{r}(h:CM a_1=some r):CN.F (FD a_1)=some (FE r):=aF (aG (b7 bi)) h
noncomputable def UT :=aD Tryz.f58
noncomputable def MW :=bV []
def US (x:(List Int))(r:(List Int)):St→Prop:=QF MW Tryz.f58 [false] (FD x) (FE r)
theorem Pt (a_1:List Int):cj MW 0 (US a_1) (cL (cL (cR (cL (cR (cR UT)))))) 0 (uh a_1) (fun u=>(sT 22 [(3,.hs 1 0 [] 1 0 (u.map I).length)] [⟨0,1,u.map I⟩] 2)) fun x3=>(sT 22 [(0,.isl false (a_1.map I)),(3,.hs 1 0 [] 1 0 (x3.2.map I).length),(4,I x3.1)] [⟨0,1,x3.2.map I⟩] 2):=ee (Al a_1) fun {Q K} hK self ih x3 y h hr hn=>by
 unfold nN at h
 refine cq 5 [8,9] [I x3.1,.isl false (a_1.map I)] 34 ?_
 refine oq 50 (I (len a_1)) rfl (bv rfl rfl rfl (bK rfl)) ?_
 refine cq 2 [11] [B (decide (x3.1<(len a_1)))] 66 ?_
 refine sq h ?_ ?_<;>intro h
 ·refine aq 1 ?_
  refine cq 7 [14,15,16,17] [.hs 1 0 [] 1 0 (x3.2.map I).length,I x3.1,.isl false (a_1.map I),I x3.1] 130 ?_
  obtain⟨e4,he4,h⟩:=bS h
  refine oq 146 (.iptr (I e4) 0) rfl (aj rfl rfl rfl (aZ rfl rfl rfl rfl he4)) ?_
  refine cq 1 [19] [I e4] 162 ?_
  obtain⟨e5,he5,h⟩:=bS h
  refine oq 178 (.hp 1 0 [] 1 (0+Int.toNat x3.1) 0) rfl (aj rfl rfl rfl (dW (f:=I) (xs:=x3.2) rfl rfl rfl he5)) ?_
  refine o0 194 rfl rfl (gb rfl rfl (fm (path:=[]) (pl:=true) (e':=I e4) (es2':=(dw x3.2 x3.1 e4).map I) rfl (dV rfl) rfl rfl rfl aU (du (f:=I) (xs:=x3.2) he5) rfl rfl rfl (iP (f:=I) (xs:=x3.2) (y:=e4)) eK 0 rfl)) ?_
  try rw[←hY (f:=I) (xs:=x3.2) (i:=x3.1) (z:=e4)]
  refine cq 7 [4] [I (ai (x3.1+1))] 242 ?_
  refine dh ?_
  exact rf [0,3,4] [1] (ih _ _ h hr hn :)
 ·refine aq 1 ?_
  exact rf [3] [1] (hn _ (ak h) :) (hk:=hK)
theorem YV (a_1:List Int)(r:(List Int))(h:CM a_1=some r):bq MW Tryz.f58 [false] 0 (FD a_1) (FE r):=by
 show Run _ _ (US a_1 r) [.code UT] _
 refine rI 22 [(0,.isl false (a_1.map I))] [] 1 ?_
 unfold CM at h
 refine cq 7 [5] [.isl false (a_1.map I)] 33 ?_
 refine oq 49 (I (len a_1)) rfl (bv rfl rfl rfl (bK rfl)) ?_
 obtain⟨m2,hm2,h⟩:=bS h
 refine oq 65 (.hs 49 0 [] 1 0 (m2.map I).length) rfl (lr rfl rfl (IL (f:=I) rfl rfl rfl (by decide) hm2 rfl)) ?_
 refine cq 8 [3,4] [.hs 49 0 [] 1 0 (m2.map I).length,I (0)] 97 ?_
 obtain⟨y6,hy6,hy61,hy62⟩:=bJ h
 refine bP rfl ?_
 refine rf [0,3,4] [49] (Pt a_1 rfl (0,m2) _ hy6 (fun r' e st hq=>by rw[hy61 r' e] at hq;exact hq) fun u6 hu=>?_)
 replace h:=hy62 u6 hu
 refine cq 5 [2] [.hs 1 0 [] 1 0 (u6.map I).length] 34 ?_
 obtain rfl:=sI h
 exact cu rfl ⟨_,fin (vs:=[.hs 1 0 [] 1 0 (u6.map I).length]) rfl (f9 (fZ rfl (dR rfl rfl)) eA) rfl (cQ ft),fj⟩
theorem UU {G:bT}[TabG Tryz.prog G]:bQ G 58 CN:=gT 1 0 bu bW Tryz.func58 (fun a r h=>YV a r h)
def FF:State→List V:=oA bA
def FG (r:State):V×List V:=(.agg [I r.Day,.usl 1 (r.Facts.map str),.usl 4 (r.Duties.map ah),.usl 1 (r.Balances.map I),B r.Over],[])
noncomputable def CO :=bb [false] FF FG fun x=>vC x
theorem xr {a_1:State}{r}(h:vC a_1=some r):CO.F (FF a_1)=some (FG r):=aF (aG bN) h
noncomputable def ae0 :=aD Tryz.f23
noncomputable def UV :=bV [(45,vD),(57,CL),(58,CN)]
def aeZ (x:State)(r:State):St→Prop:=QF UV Tryz.f23 [false] (FF x) (FG r)
theorem YW (a_1:State)(r:State)(h:vC a_1=some r):bq UV Tryz.f23 [false] 0 (FF a_1) (FG r):=by
 show Run _ _ (aeZ a_1 r) [.code ae0] _
 refine rI 23 [(0,bA a_1)] [] 1 ?_
 unfold vC at h
 refine ck 4 [1,2] [] [1,17] [] [.hp 1 0 [] 5 0 0,.hp 17 0 [] 5 0 0] [some ⟨0,5,[bA a_1]⟩,some ⟨0,5,[.agg [I (0),.isl true [],.isl true [],.isl true [],B false]]⟩] 33 (by kernel_rfl) ?_
 refine fY 17 [.agg [I (0),.usl 1 (([]).map str),.usl 4 (([]).map ah),.usl 1 (([]).map I),B false]] rfl rfl (aR (im (aR (.refl _) (aR (.nil _) (aR (.nil _) (aR (.nil _) (aR (.refl _) eV)))))) eV) ?_
 refine ck 4 [3] [] [33] [] [.hp 33 0 [] 5 0 0] [some ⟨0,5,[.agg [I (0),.isl true [],.isl true [],.isl true [],B false]]⟩] 49 (by kernel_rfl) ?_
 refine fY 33 [.agg [I (0),.usl 1 (([]).map str),.usl 4 (([]).map ah),.usl 1 (([]).map I),B false]] rfl rfl (aR (im (aR (.refl _) (aR (.nil _) (aR (.nil _) (aR (.nil _) (aR (.refl _) eV)))))) eV) ?_
 refine ck 12 [8] [] [33] [] [.isl false (a_1.Facts.map str)] [some ⟨1,5,[.agg [I a_1.Day,.usl 1 (([]).map str),.usl 4 (([]).map ah),.usl 1 (([]).map I),B false]]⟩] 145 (by kernel_rfl) ?_
 obtain⟨r2,hr2,h⟩:=bS h
 refine oq 161 (.hs 145 0 [] 1 0 (r2.map str).length) rfl (cP (UX hr2)) ?_
 refine cq 1 [10] [.hp 33 0 [] 5 0 1] 177 ?_
 refine o0 193 rfl rfl (gb rfl rfl (fm (path:=[]) (pl:=false) (e':=.agg [I a_1.Day,.usl 1 (r2.map str),.usl 4 (([]).map ah),.usl 1 (([]).map I),B false]) (es2':=[.agg [I a_1.Day,.usl 1 (r2.map str),.usl 4 (([]).map ah),.usl 1 (([]).map I),B false]]) rfl (fZ rfl (dR rfl rfl)) rfl rfl rfl aU rfl rfl rfl rfl rfl eK 2 rfl)) ?_
 refine cq 5 [12] [.isl false (a_1.Duties.map ah)] 225 ?_
 obtain⟨r3,hr3,h⟩:=bS h
 refine oq 241 (.hs 225 0 [] 4 0 (r3.map ah).length) rfl (cP (aeX hr3)) ?_
 refine cq 1 [14] [.hp 33 0 [] 5 0 2] 257 ?_
 refine o0 273 rfl rfl (gb rfl rfl (fm (path:=[]) (pl:=false) (e':=.agg [I a_1.Day,.usl 1 (r2.map str),.usl 4 (r3.map ah),.usl 1 (([]).map I),B false]) (es2':=[.agg [I a_1.Day,.usl 1 (r2.map str),.usl 4 (r3.map ah),.usl 1 (([]).map I),B false]]) rfl (fZ rfl (dR rfl rfl)) rfl rfl rfl aU rfl rfl rfl rfl rfl eK 3 rfl)) ?_
 refine cq 5 [16] [.isl false (a_1.Balances.map I)] 305 ?_
 obtain⟨r4,hr4,h⟩:=bS h
 refine oq 321 (.hs 305 0 [] 1 0 (r4.map I).length) rfl (cP (aeY hr4)) ?_
 refine cq 1 [18] [.hp 33 0 [] 5 0 3] 337 ?_
 refine o0 353 rfl rfl (gb rfl rfl (fm (path:=[]) (pl:=false) (e':=.agg [I a_1.Day,.usl 1 (r2.map str),.usl 4 (r3.map ah),.usl 1 (r4.map I),B false]) (es2':=[.agg [I a_1.Day,.usl 1 (r2.map str),.usl 4 (r3.map ah),.usl 1 (r4.map I),B false]]) rfl (fZ rfl (dR rfl rfl)) rfl rfl rfl aU rfl rfl rfl rfl rfl eK 4 rfl)) ?_
 refine ck 11 [22] [] [33] [] [.agg [I a_1.Day,.hs 33 4 [(0,1)] 1 0 (r2.map str).length,.hs 33 4 [(0,2)] 4 0 (r3.map ah).length,.hs 33 4 [(0,3)] 1 0 (r4.map I).length,B a_1.Over]] [some ⟨4,5,[.agg [I a_1.Day,.usl 1 (r2.map str),.usl 4 (r3.map ah),.usl 1 (r4.map I),B a_1.Over]]⟩] 433 (by kernel_rfl) ?_
 refine o0 449 rfl rfl (gb rfl rfl (fm (path:=[]) (pl:=false) (e':=.agg [I a_1.Day,.usl 1 (r2.map str),.usl 4 (r3.map ah),.usl 1 (r4.map I),B a_1.Over]) (es2':=[.agg [I a_1.Day,.usl 1 (r2.map str),.usl 4 (r3.map ah),.usl 1 (r4.map I),B a_1.Over]]) rfl (pF (cM (dx rfl) (cM (iV (path:=[(0,1)]) rfl rfl (gE rfl rfl aU) rfl (pg (path:=[]) (i:=0) (k:=1) (e':=.agg [I a_1.Day,.dead,.usl 4 (r3.map ah),.usl 1 (r4.map I),B a_1.Over]) (es2':=[.agg [I a_1.Day,.dead,.usl 4 (r3.map ah),.usl 1 (r4.map I),B a_1.Over]]) aU rfl rfl rfl eK)) (cM (iV (path:=[(0,2)]) rfl rfl (gE rfl rfl aU) rfl (pg (path:=[]) (i:=0) (k:=2) (e':=.agg [I a_1.Day,.dead,.dead,.usl 1 (r4.map I),B a_1.Over]) (es2':=[.agg [I a_1.Day,.dead,.dead,.usl 1 (r4.map I),B a_1.Over]]) aU rfl rfl rfl eK)) (cM (iV (path:=[(0,3)]) rfl rfl (gE rfl rfl aU) rfl (pg (path:=[]) (i:=0) (k:=3) (e':=.agg [I a_1.Day,.dead,.dead,.dead,B a_1.Over]) (es2':=[.agg [I a_1.Day,.dead,.dead,.dead,B a_1.Over]]) aU rfl rfl rfl eK)) (cM (dx rfl) pG)))))) rfl rfl rfl aU rfl rfl rfl rfl rfl eK 2 rfl)) ?_
 refine aq 1 ?_
 obtain rfl:=sI h
 exact cu rfl ⟨_,fin (vs:=[.agg [I a_1.Day,.hs 17 2 [(0,1)] 1 0 (r2.map str).length,.hs 17 2 [(0,2)] 4 0 (r3.map ah).length,.hs 17 2 [(0,3)] 1 0 (r4.map I).length,B a_1.Over]]) (OZ (vr rfl rfl rfl) O0) (f9 (pF (cM (dx rfl) (cM (iV (path:=[(0,1)]) rfl rfl (gE rfl rfl aU) rfl (pg (path:=[]) (i:=0) (k:=1) (e':=.agg [I a_1.Day,.dead,.usl 4 (r3.map ah),.usl 1 (r4.map I),B a_1.Over]) (es2':=[.agg [I a_1.Day,.dead,.usl 4 (r3.map ah),.usl 1 (r4.map I),B a_1.Over]]) aU rfl rfl rfl eK)) (cM (iV (path:=[(0,2)]) rfl rfl (gE rfl rfl aU) rfl (pg (path:=[]) (i:=0) (k:=2) (e':=.agg [I a_1.Day,.dead,.dead,.usl 1 (r4.map I),B a_1.Over]) (es2':=[.agg [I a_1.Day,.dead,.dead,.usl 1 (r4.map I),B a_1.Over]]) aU rfl rfl rfl eK)) (cM (iV (path:=[(0,3)]) rfl rfl (gE rfl rfl aU) rfl (pg (path:=[]) (i:=0) (k:=3) (e':=.agg [I a_1.Day,.dead,.dead,.dead,B a_1.Over]) (es2':=[.agg [I a_1.Day,.dead,.dead,.dead,B a_1.Over]]) aU rfl rfl rfl eK)) (cM (dx rfl) pG)))))) eA) rfl (cQ ft),fj⟩
theorem UW {G:bT}[TabG Tryz.prog G]:bQ G 23 CO:=gT 1 0 (aL Ku (aL UR (aL UU bu))) bW Tryz.func23 (fun a r h=>YW a r h)
def qj:(Int×Int×Int)→List V:=cA I (cA I (oA I))
def qk (r:Bool):V×List V:=(B r,[])
noncomputable def fN :=bb [false,false,false] qj qk fun x=>ey x.1 x.2.1 x.2.2
theorem ez {x_1:Int}{a_2:Int}{b_3:Int}{r}(h:ey x_1 a_2 b_3=some r):fN.F (qj (x_1,a_2,b_3))=some (qk r):=aF (aJ bi (aJ bi (aG bi))) h
noncomputable def BA :=aD Tryz.f89
noncomputable def tR :=bV []
def Bz (x:Int×Int×Int)(r:Bool):St→Prop:=QF tR Tryz.f89 [false,false,false] (qj x) (qk r)
theorem Lw (x_1:Int)(a_2:Int)(b_3:Int)(r:Bool)(h:ey x_1 a_2 b_3=some r):bq tR Tryz.f89 [false,false,false] 0 (qj (x_1,a_2,b_3)) (qk r):=by
 show Run _ _ (Bz (x_1,a_2,b_3) r) [.code BA] _
 refine rI 15 [(0,I x_1),(1,I a_2),(2,I b_3)] [] 1 ?_
 unfold ey at h
 refine cq 10 [10] [B (decide (x_1≥a_2))] 81 ?_
 obtain⟨u4,hu4,h⟩:=lJ h
 have j4:Run tR 0 (Bz (x_1,a_2,b_3) r) (.code (cR (cR BA))::[]) (sT 15 [(6,B u4)] [] 1):=by
  obtain rfl:=sI h
  exact rP [B u4]
 replace h:=hu4
 clear hu4
 refine sp 10 h rfl ?_ ?_<;>intro h
 ·refine cq 6 [6] [B (decide (x_1≤b_3))] 161 ?_
  subst h
  exact rf [6] [] (j4 :)
 ·refine cq 6 [6] [B false] 161 ?_
  subst h
  exact rf [6] [] (j4 :)
theorem gk {G:bT}[TabG Tryz.prog G]:bQ G 89 fN:=gT 3 0 bu bW Tryz.func89 (fun a r h=>Lw a.1 a.2.1 a.2.2 r h)
def Hn:Int→List V:=oA (V.int .u8)
def Ho (r:Bool):V×List V:=(B r,[])
noncomputable def Dv :=bb [false] Hn Ho fun x=>xV x
theorem afK {b_1:Int}{r}(h:xV b_1=some r):Dv.F (Hn b_1)=some (Ho r):=aF (aG (Pa (k:=.u8))) h
noncomputable def xX :=aD Tryz.f128
noncomputable def uL :=bV []
def xW (x:Int)(r:Bool):St→Prop:=QF uL Tryz.f128 [false] (Hn x) (Ho r)
theorem ZG (b_1:Int)(r:Bool)(h:xV b_1=some r):bq uL Tryz.f128 [false] 0 (Hn b_1) (Ho r):=by
 show Run _ _ (xW b_1 r) [.code xX] _
 refine rI 17 [(0,.int .u8 b_1)] [] 1 ?_
 unfold xV at h
 refine cq 9 [5] [B (decide (b_1≥97))] 65 ?_
 obtain⟨u2,hu2,h⟩:=lJ h
 have j2:Run uL 0 (xW b_1 r) (.code (cR (cR xX))::[]) (sT 17 [(2,B u2)] [] 1):=by
  obtain rfl:=sI h
  exact rP [B u2]
 replace h:=hu2
 clear hu2
 refine sp 5 h rfl ?_ ?_<;>intro h
 ·refine cq 4 [9] [B (decide (b_1≤122))] 129 ?_
  obtain⟨u3,hu3,h⟩:=lJ h
  have j3:Run uL 0 (xW b_1 r) (.code (cR (cR xX))::[]) (sT 17 [(2,B u3)] [] 1):=by
   subst h
   exact rf [2] [] (j2 :)
  replace h:=hu3
  clear hu3
  refine sp 9 h rfl ?_ ?_<;>intro h
  ·refine cq 9 [2] [B true] 257 ?_
   subst h
   exact rf [2] [] (j3 :)
  ·refine cq 3 [12] [B (decide (b_1≥48))] 177 ?_
   obtain⟨u4,hu4,h⟩:=lJ h
   have j4:Run uL 0 (xW b_1 r) (.code (cR (cR xX))::[]) (sT 17 [(2,B u4)] [] 1):=by
    subst h
    exact rf [2] [] (j3 :)
   replace h:=hu4
   clear hu4
   refine sp 12 h rfl ?_ ?_<;>intro h
   ·refine cq 6 [2] [B (decide (b_1≤57))] 257 ?_
    subst h
    exact rf [2] [] (j4 :)
   ·refine cq 6 [2] [B false] 257 ?_
    subst h
    exact rf [2] [] (j4 :)
 ·refine cq 7 [9,12] [B false,B (decide (b_1≥48))] 177 ?_
  obtain⟨u5,hu5,h⟩:=lJ h
  have j5:Run uL 0 (xW b_1 r) (.code (cR (cR xX))::[]) (sT 17 [(2,B u5)] [] 1):=by
   subst h
   exact rf [2] [] (j2 :)
  replace h:=hu5
  clear hu5
  refine sp 12 h rfl ?_ ?_<;>intro h
  ·refine cq 6 [2] [B (decide (b_1≤57))] 257 ?_
   subst h
   exact rf [2] [] (j5 :)
  ·refine cq 6 [2] [B false] 257 ?_
   subst h
   exact rf [2] [] (j5 :)
theorem Wh {G:bT}[TabG Tryz.prog G]:bQ G 128 Dv:=gT 1 0 bu bW Tryz.func128 (fun a r h=>ZG a r h)
def Hh:ac→List V:=oA str
def Hi (r:Bool):V×List V:=(B r,[])
noncomputable def pA :=bb [false] Hh Hi fun x=>sb x
theorem sd {s_1:ac}{r}(h:sb s_1=some r):pA.F (Hh s_1)=some (Hi r):=aF (aG b8) h
noncomputable def qq :=aD Tryz.f80
noncomputable abbrev nY :=cR (cR (cR (cR qq)))
noncomputable abbrev nZ :=cR (cL (cR (cL (cR (cR (cR qq))))))
noncomputable def kb :=bV [(89,fN),(128,Dv)]
def iE (x:ac)(r:Bool):St→Prop:=QF kb Tryz.f80 [false] (Hh x) (Hi r)
theorem PX (s_1:ac):cj kb 0 (iE s_1) (cL (cL (cR (cL (cR (cR qq)))))) 0 (uH s_1) (fun u=>(sT 40 [(0,str s_1)] [] 1)) fun x4=>(sT 40 [(0,str s_1),(3,I x4)] [] 1):=ee (AV s_1) fun {Q K} hK self ih x4 y h hr hn=>by
 unfold oa at h
 refine cq 8 [21] [B (decide (x4<(len s_1)))] 65 ?_
 refine sq h ?_ ?_<;>intro h
 ·refine aq 1 ?_
  refine cq 6 [24,25] [str s_1,I x4] 97 ?_
  obtain⟨c5,hc5,h⟩:=bS h
  refine oq 113 (.int .u8 (c5.toNat:Int)) rfl (ov rfl rfl (tc rfl rfl hc5)) ?_
  obtain⟨r6,hr6,h⟩:=bS h
  refine oq 129 (B r6) rfl (cP (afK hr6)) ?_
  refine cq 2 [28] [B (!r6)] 145 ?_
  refine sq h ?_ ?_<;>intro h
  ·refine cq 4 [2] [B false] 161 ?_
   exact cu rfl (hr _ (ak h) _ (qp [B false]))
  ·refine aq 1 ?_
   refine cq 6 [3] [I (ai (x4+1))] 193 ?_
   refine dh ?_
   exact rf [0,3] [] (ih _ _ h hr hn :)
 ·refine aq 1 ?_
  exact rf [0] [] (hn _ (ak h) :) (hk:=hK)
theorem ZC (s_1:ac)(r:Bool)(h:sb s_1=some r):bq kb Tryz.f80 [false] 0 (Hh s_1) (Hi r):=by
 show Run _ _ (iE s_1 r) [.code qq] _
 refine rI 40 [(0,str s_1)] [] 1 ?_
 unfold sb at h
 refine cq 9 [5] [I (len s_1)] 49 ?_
 obtain⟨r2,hr2,h⟩:=bS h
 refine oq 65 (B r2) rfl (cP (ez hr2)) ?_
 refine cq 2 [8] [B (!r2)] 97 ?_
 obtain⟨y3,hy3,hy31,hy32⟩:=bJ h
 have j3:∀u3,y3=.inr u3→Run kb 0 (iE s_1 r) (.code (cR (cL (cR qq)))::.code (cR (cR qq))::[]) (sT 40 [(0,str s_1),(17,B u3)] [] 1):=by
  intro u3 hu
  replace h:=hy32 u3 hu
  refine sq h ?_ ?_<;>intro h
  ·refine cq 4 [2] [B false] 17 ?_
   obtain rfl:=sI h
   exact rP [B false]
  ·refine aq 1 ?_
   refine cq 6 [3] [I (0)] 17 ?_
   obtain⟨y7,hy7,hy71,hy72⟩:=bJ h
   refine bP rfl ?_
   refine rf [0,3] [] (PX s_1 rfl 0 _ hy7 (fun r' e st hq=>by rw[hy71 r' e] at hq;exact hq) fun u7 hu=>?_)
   replace h:=hy72 u7 hu
   refine cq 12 [29,30] [str s_1,B (s_1==([116,114,117,101]:ac))] 49 ?_
   obtain⟨u8,hu8,h⟩:=lJ h
   have j8:Run kb 0 (iE s_1 r) (.code nZ::.blk 2::.code nY::[]) (sT 40 [(30,B u8)] [] 1):=by
    refine sq h ?_ ?_<;>intro h
    ·refine cq 4 [2] [B false] 17 ?_
     obtain rfl:=sI h
     exact rP [B false]
    ·refine aq 1 ?_
     refine cq 5 [2] [B true] 17 ?_
     obtain rfl:=sI h
     exact rP [B true]
   replace h:=hu8
   clear hu8
   refine qS h rfl rfl ?_ ?_<;>intro h
   ·refine aq 1 ?_
    subst h
    exact rf [30] [] (j8 :)
   ·refine cq 5 [30] [B (s_1==([102,114,111,109]:ac))] 81 ?_
    obtain⟨u9,hu9,h⟩:=lJ h
    have j9:Run kb 0 (iE s_1 r) (.code nZ::.blk 2::.code nY::[]) (sT 40 [(30,B u9)] [] 1):=by
     subst h
     exact rf [30] [] (j8 :)
    replace h:=hu9
    clear hu9
    refine qS h rfl rfl ?_ ?_<;>intro h
    ·refine aq 1 ?_
     subst h
     exact rf [30] [] (j9 :)
    ·refine cq 5 [30] [B (s_1==([110,111,116]:ac))] 113 ?_
     obtain⟨u10,hu10,h⟩:=lJ h
     have j10:Run kb 0 (iE s_1 r) (.code nZ::.blk 2::.code nY::[]) (sT 40 [(30,B u10)] [] 1):=by
      subst h
      exact rf [30] [] (j9 :)
     replace h:=hu10
     clear hu10
     refine qS h rfl rfl ?_ ?_<;>intro h
     ·refine aq 1 ?_
      subst h
      exact rf [30] [] (j10 :)
     ·refine cq 5 [30] [B (s_1==([97,110,100]:ac))] 145 ?_
      obtain⟨u11,hu11,h⟩:=lJ h
      have j11:Run kb 0 (iE s_1 r) (.code nZ::.blk 2::.code nY::[]) (sT 40 [(30,B u11)] [] 1):=by
       subst h
       exact rf [30] [] (j10 :)
      replace h:=hu11
      clear hu11
      refine qS h rfl rfl ?_ ?_<;>intro h
      ·refine aq 1 ?_
       subst h
       exact rf [30] [] (j11 :)
      ·refine cq 5 [30] [B (s_1==([111,114]:ac))] 177 ?_
       obtain⟨u12,hu12,h⟩:=lJ h
       have j12:Run kb 0 (iE s_1 r) (.code nZ::.blk 2::.code nY::[]) (sT 40 [(30,B u12)] [] 1):=by
        subst h
        exact rf [30] [] (j11 :)
       replace h:=hu12
       clear hu12
       refine qS h rfl rfl ?_ ?_<;>intro h
       ·refine aq 1 ?_
        subst h
        exact rf [30] [] (j12 :)
       ·refine cq 5 [30] [B (s_1==([98,111,116,104]:ac))] 209 ?_
        obtain⟨u13,hu13,h⟩:=lJ h
        have j13:Run kb 0 (iE s_1 r) (.code nZ::.blk 2::.code nY::[]) (sT 40 [(30,B u13)] [] 1):=by
         subst h
         exact rf [30] [] (j12 :)
        replace h:=hu13
        clear hu13
        refine qS h rfl rfl ?_ ?_<;>intro h
        ·refine aq 1 ?_
         subst h
         exact rf [30] [] (j13 :)
        ·refine cq 5 [30] [B (s_1==([101,105,116,104,101,114]:ac))] 241 ?_
         obtain⟨u14,hu14,h⟩:=lJ h
         have j14:Run kb 0 (iE s_1 r) (.code nZ::.blk 2::.code nY::[]) (sT 40 [(30,B u14)] [] 1):=by
          subst h
          exact rf [30] [] (j13 :)
         replace h:=hu14
         clear hu14
         refine qS h rfl rfl ?_ ?_<;>intro h
         ·refine aq 1 ?_
          subst h
          exact rf [30] [] (j14 :)
         ·refine cq 5 [30] [B (s_1==([105,116]:ac))] 273 ?_
          obtain⟨u15,hu15,h⟩:=lJ h
          have j15:Run kb 0 (iE s_1 r) (.code nZ::.blk 2::.code nY::[]) (sT 40 [(30,B u15)] [] 1):=by
           subst h
           exact rf [30] [] (j14 :)
          replace h:=hu15
          clear hu15
          refine qS h rfl rfl ?_ ?_<;>intro h
          ·refine aq 1 ?_
           subst h
           exact rf [30] [] (j15 :)
          ·refine cq 4 [30] [B (s_1==([105,110]:ac))] 305 ?_
           subst h
           exact rf [30] [] (j15 :)
 have r3:∀r',y3=.inl r'→∀st,iE s_1 r' st→(iE s_1 r) st:=fun r' e st hq=>by rw[hy31 r' e] at hq;exact hq
 replace h:=hy3
 refine sp 8 h rfl ?_ ?_<;>intro h
 ·refine cq 10 [17] [B true] 241 ?_
  exact rf [0,17] [] (j3 _ (ak h) :)
 ·refine cq 1 [9] [str s_1] 113 ?_
  obtain⟨c16,hc16,h⟩:=bS h
  refine oy 129 (.int .u8 (c16.toNat:Int)) rfl (ov rfl rfl (tc rfl rfl hc16)) ?_
  refine cq 3 [13] [B (decide ((c16.toNat:Int)<97))] 177 ?_
  obtain⟨y17,hy17,hy171,hy172⟩:=bL h
  have j17:∀u17,y17=.inr u17→Run kb 0 (iE s_1 r) (.code (cR (cL (cR qq)))::.code (cR (cR qq))::[]) (sT 40 [(0,str s_1),(17,B u17)] [] 1):=by
   intro u17 hu
   replace h:=hy172 u17 hu
   exact rf [0,17] [] (j3 _ (ak h) :)
  have r17:∀r',y17=.inl r'→∀st,iE s_1 r' st→(iE s_1 r) st:=fun r' e st hq=>r3 r' (hy171 r' e) st hq
  replace h:=hy17
  refine sp 13 h rfl ?_ ?_<;>intro h
  ·refine cq 5 [17] [B true] 241 ?_
   exact rf [0,17] [] (j17 _ (ak h) :)
  ·refine cq 1 [14] [str s_1] 193 ?_
   obtain⟨c18,hc18,h⟩:=bS h
   refine oy 209 (.int .u8 (c18.toNat:Int)) rfl (ov rfl rfl (tc rfl rfl hc18)) ?_
   refine cq 3 [17] [B (decide ((c18.toNat:Int)>122))] 241 ?_
   exact rf [0,17] [] (j17 _ (ak h) :)
theorem sQ {G:bT}[TabG Tryz.prog G]:bQ G 80 pA:=gT 1 0 (aL gk (aL Wh bu)) bW Tryz.func80 (fun a r h=>ZC a r h)
def Hf:((List ac)×ac)→List V:=cA (fM str) (oA str)
def Hg (r:Bool):V×List V:=(B r,[])
noncomputable def vQ :=bb [false,false] Hf Hg fun x=>vP x.1 x.2
theorem Nr {an:List ac}{fa:ac}{r}(h:vP an fa=some r):vQ.F (Hf (an,fa))=some (Hg r):=aF (aJ (b7 b8) (aG b8)) h
noncomputable def Wb :=aD Tryz.f123
noncomputable def Nq :=bV []
def Wa (x:(List ac)×ac)(r:Bool):St→Prop:=QF Nq Tryz.f123 [false,false] (Hf x) (Hg r)
theorem PW (an:List ac)(fa:ac):cj Nq 0 (Wa (an,fa)) (cL (cL (cR (cL (cR Wb))))) 0 (uG an fa) (fun u=>(sT 18 [] [] 1)) fun x3=>(sT 18 [(0,.isl false (an.map str)),(1,str fa),(5,I x3)] [] 1):=ee (AU an fa) fun {Q K} hK self ih x3 y h hr hn=>by
 unfold nX at h
 refine cq 5 [6,7] [I x3,.isl false (an.map str)] 33 ?_
 refine oq 49 (I (len an)) rfl (bv rfl rfl rfl (bK rfl)) ?_
 refine cq 2 [9] [B (decide (x3<(len an)))] 65 ?_
 refine sq h ?_ ?_<;>intro h
 ·refine aq 1 ?_
  refine cq 6 [12,13] [.isl false (an.map str),I x3] 97 ?_
  obtain⟨e4,he4,h⟩:=bS h
  refine oq 113 (.iptr (str e4) 0) rfl (aj rfl rfl rfl (aZ rfl rfl rfl rfl he4)) ?_
  refine cq 4 [17] [B (e4==fa)] 161 ?_
  refine sq h ?_ ?_<;>intro h
  ·refine cq 4 [4] [B true] 177 ?_
   exact cu rfl (hr _ (ak h) _ (qp [B true]))
  ·refine aq 1 ?_
   refine cq 6 [5] [I (ai (x3+1))] 209 ?_
   refine dh ?_
   exact rf [0,1,5] [] (ih _ _ h hr hn :)
 ·refine aq 1 ?_
  exact rf [] [] (hn _ (ak h) :) (hk:=hK)
theorem ZB (an:List ac)(fa:ac)(r:Bool)(h:vP an fa=some r):bq Nq Tryz.f123 [false,false] 0 (Hf (an,fa)) (Hg r):=by
 show Run _ _ (Wa (an,fa) r) [.code Wb] _
 refine rI 18 [(0,.isl false (an.map str)),(1,str fa)] [] 1 ?_
 unfold vP at h
 refine cq 10 [5] [I (0)] 33 ?_
 obtain⟨y5,hy5,hy51,hy52⟩:=bJ h
 refine bP rfl ?_
 refine rf [0,1,5] [] (PW an fa rfl 0 _ hy5 (fun r' e st hq=>by rw[hy51 r' e] at hq;exact hq) fun u5 hu=>?_)
 replace h:=hy52 u5 hu
 refine cq 4 [4] [B false] 17 ?_
 obtain rfl:=sI h
 exact rP [B false]
theorem Ky {G:bT}[TabG Tryz.prog G]:bQ G 123 vQ:=gT 2 0 bu bW Tryz.func123 (fun a r h=>ZB a.1 a.2 r h)
def HD:Contract→List V:=oA aM
def HF (r:Bool):V×List V:=(B r,[])
noncomputable def DD :=bb [false] HD HF fun x=>ye x
theorem afO {c_1:Contract}{r}(h:ye c_1=some r):DD.F (HD c_1)=some (HF r):=aF (aG aP) h
noncomputable def yf :=aD Tryz.f90
noncomputable def HE :=bV [(80,pA),(123,vQ),(89,fN)]
def NC (x:Contract)(r:Bool):St→Prop:=QF HE Tryz.f90 [false] (HD x) (HF r)
theorem P5 (c_1:Contract):cj HE 0 (NC c_1) (cL (cL (cR (cL (cR yf))))) 0 (uS c_1) (fun u=>(sT 34 [(1,.hp 1 0 [] 2 0 0)] [⟨0,2,[aa c_1]⟩] 2)) fun x2=>(sT 34 [(1,.hp 1 0 [] 2 0 0),(3,I x2)] [⟨0,2,[aa c_1]⟩] 2):=ee (A8 c_1) fun {Q K} hK self ih x2 y h hr hn=>by
 unfold l7 at h
 refine cq 6 [4,6] [I x2,.isl false (c_1.Parties.map str)] 50 ?_
 refine oq 66 (I (len c_1.Parties)) rfl (bv rfl rfl rfl (bK rfl)) ?_
 refine cq 2 [8] [B (decide (x2<(len c_1.Parties)))] 82 ?_
 refine sq h ?_ ?_<;>intro h
 ·refine aq 1 ?_
  refine aq 3 ?_
  refine dt [0,1,0,7,15,31,63,127,255,511,255,2047,255,4351,255,28927,61695,131071,262143] rfl (by decide +kernel) ?_
  refine dq [1] [] (.hp 1 0 [] 2 0 0) rfl (al rfl rfl rfl) ?_
  refine dq [1] [] (.isl false (c_1.Parties.map str)) rfl (aK rfl rfl) ?_
  refine dk 1 [13] [I x2] ?_
  obtain⟨e3,he3,h⟩:=bS h
  refine dq [] [] (.iptr (str e3) 0) rfl (aj rfl rfl rfl (aZ rfl rfl rfl rfl he3)) ?_
  refine dq [] [] (str e3) rfl (aK rfl rfl) ?_
  obtain⟨r4,hr4,h⟩:=bS h
  refine dq [] [] (B r4) rfl (cP (sd hr4)) ?_ (cm rfl rfl rfl rfl (aQ (bx rfl) cz) (sd hr4) (.inr rfl) rfl)
  refine dk 2 [18,17] [B (!r4),B (!r4)] ?_
  obtain⟨y5,hy5,hy51,hy52⟩:=bL h
  have j5:∀u5,y5=.inr u5→Run HE 0 Q (.code (cR (cL (cL (cR (cL (cL (cR (cL (cR yf)))))))))::.blk 1::.code (cR (cR (cL (cL (cR (cL (cR yf)))))))::.lp (cL (cL (cR (cL (cR yf)))))::.blk 0::K) (sT 34 [(1,.hp 1 0 [] 2 0 0),(3,I x2),(29,B u5)] [⟨0,2,[aa c_1]⟩] 2):=by
   intro u5 hu
   replace h:=hy52 u5 hu
   refine sq h ?_ ?_<;>intro h
   ·refine cq 4 [2] [B false] 18 ?_
    exact cu rfl (hr _ (ak h) _ (qp [B false]))
   ·refine aq 1 ?_
    refine cq 6 [3] [I (ai (x2+1))] 50 ?_
    refine dh ?_
    exact rf [1,3] [1] (ih _ _ h hr hn :)
  have r5:∀r',y5=.inl r'→∀st,NC c_1 r' st→Q st:=fun r' e st hq=>hr r' (hy51 r' e) st hq
  replace h:=hy5
  refine sp 18 h rfl ?_ ?_<;>intro h
  ·refine dk 11 [29,28,27,26,25,24,23,22,21,20,19] [B true,.und,.und,.und,.und,.und,.und,.und,.und,.und,.und] ?_
   refine de 386 rfl rfl ?_
   exact rf [1,3,29] [1] (j5 _ (ak h) :)
  ·refine dy [1] [] (.hp 1 0 [] 2 0 0) rfl (al rfl rfl rfl) ?_
   refine dy [1] [] (.isl false (c_1.Parties.map str)) rfl (aK rfl rfl) ?_
   refine dk 1 [21] [I x2] ?_
   obtain⟨s6,hs6,h⟩:=bS h
   refine dy [] [] (.isl false (s6.map str)) rfl (gH rfl rfl rfl rfl (zb rfl rfl (fun y=>(mq y).1) rfl rfl hs6)) ?_
   refine dy [1] [] (.hp 1 0 [] 2 0 0) rfl (al rfl rfl rfl) ?_
   refine dy [1] [] (.isl false (c_1.Parties.map str)) rfl (aK rfl rfl) ?_
   refine dk 1 [25] [I x2] ?_
   obtain⟨e7,he7,h⟩:=bS h
   refine dy [] [] (.iptr (str e7) 0) rfl (aj rfl rfl rfl (aZ rfl rfl rfl rfl he7)) ?_
   refine dy [] [] (str e7) rfl (aK rfl rfl) ?_
   obtain⟨r8,hr8,h⟩:=bS h
   refine dy [] [] (B r8) rfl (cP (Nr hr8)) ?_ (cm rfl rfl rfl rfl (aQ (bx rfl) (aQ (bx rfl) cz)) (Nr hr8) (.inr rfl) rfl)
   refine dk 1 [29] [B r8] ?_
   refine de 386 rfl rfl ?_
   exact rf [1,3,29] [1] (j5 _ (ak h) :)
 ·refine aq 1 ?_
  exact rf [1] [1] (hn _ (ak h) :) (hk:=hK)
theorem ZO (c_1:Contract)(r:Bool)(h:ye c_1=some r):bq HE Tryz.f90 [false] 0 (HD c_1) (HF r):=by
 show Run _ _ (NC c_1 r) [.code yf] _
 refine rI 34 [(0,aa c_1)] [] 1 ?_
 unfold ye at h
 refine ck 11 [1,3] [] [1] [] [.hp 1 0 [] 2 0 0,I (0)] [some ⟨0,2,[aa c_1]⟩] 49 (by kernel_rfl) ?_
 obtain⟨y9,hy9,hy91,hy92⟩:=bJ h
 refine bP rfl ?_
 refine rf [1,3] [1] (P5 c_1 rfl 0 _ hy9 (fun r' e st hq=>by rw[hy91 r' e] at hq;exact hq) fun u9 hu=>?_)
 replace h:=hy92 u9 hu
 refine cq 4 [31] [.isl false (c_1.Parties.map str)] 34 ?_
 refine oq 50 (I (len c_1.Parties)) rfl (bv rfl rfl rfl (bK rfl)) ?_
 obtain⟨r10,hr10,h⟩:=bS h
 refine oq 66 (B r10) rfl (cP (ez hr10)) ?_
 refine cq 2 [2] [B r10] 82 ?_
 obtain rfl:=sI h
 exact rP [B r10]
theorem Wx {G:bT}[TabG Tryz.prog G]:bQ G 90 DD:=gT 1 0 (aL sQ (aL Ky (aL gk bu))) bW Tryz.func90 (fun a r h=>ZO a r h)
def Hu:(Contract×ac)→List V:=cA aM (oA str)
def Hv (r:Int):V×List V:=(I r,[])
noncomputable def vT :=bb [false,false] Hu Hv fun x=>vS x.1 x.2
theorem NA {c_1:Contract}{fq:ac}{r}(h:vS c_1 fq=some r):vT.F (Hu (c_1,fq))=some (Hv r):=aF (aJ aP (aG b8)) h
noncomputable def Ws :=aD Tryz.f91
noncomputable def Nz :=bV []
def Wr (x:Contract×ac)(r:Int):St→Prop:=QF Nz Tryz.f91 [false,false] (Hu x) (Hv r)
theorem P2 (c_1:Contract)(fq:ac):cj Nz 0 (Wr (c_1,fq)) (cL (cL (cR (cL (cR Ws))))) 0 (uQ c_1 fq) (fun u=>(sT 22 [] [] 1)) fun x3=>(sT 22 [(1,str fq),(2,.hp 1 0 [] 2 0 0),(5,I x3)] [⟨0,2,[aa c_1]⟩] 2):=ee (A5 c_1 fq) fun {Q K} hK self ih x3 y h hr hn=>by
 unfold od at h
 refine cq 6 [6,8] [I x3,.isl false (c_1.Clauses.map ap)] 50 ?_
 refine oq 66 (I (len c_1.Clauses)) rfl (bv rfl rfl rfl (bK rfl)) ?_
 refine cq 2 [10] [B (decide (x3<(len c_1.Clauses)))] 82 ?_
 refine sq h ?_ ?_<;>intro h
 ·refine aq 1 ?_
  refine cq 7 [14,15] [.isl false (c_1.Clauses.map ap),I x3] 130 ?_
  obtain⟨e4,he4,h⟩:=bS h
  refine oq 146 (.iptr (ao e4) 0) rfl (aj rfl rfl rfl (aZ rfl rfl rfl rfl he4)) ?_
  refine cq 5 [20] [B (e4.Id==fq)] 210 ?_
  refine sq h ?_ ?_<;>intro h
  ·refine cq 5 [4] [I x3] 242 ?_
   exact cu rfl (hr _ (ak h) _ (qp [I x3]))
  ·refine aq 1 ?_
   refine cq 6 [5] [I (ai (x3+1))] 258 ?_
   refine dh ?_
   exact rf [1,2,5] [1] (ih _ _ h hr hn :)
 ·refine aq 1 ?_
  exact rf [] [] (hn _ (ak h) :) (hk:=hK)
theorem ZL (c_1:Contract)(fq:ac)(r:Int)(h:vS c_1 fq=some r):bq Nz Tryz.f91 [false,false] 0 (Hu (c_1,fq)) (Hv r):=by
 show Run _ _ (Wr (c_1,fq) r) [.code Ws] _
 refine rI 22 [(0,aa c_1),(1,str fq)] [] 1 ?_
 unfold vS at h
 refine ck 11 [2,5] [] [1] [] [.hp 1 0 [] 2 0 0,I (0)] [some ⟨0,2,[aa c_1]⟩] 49 (by kernel_rfl) ?_
 obtain⟨y5,hy5,hy51,hy52⟩:=bJ h
 refine bP rfl ?_
 refine rf [1,2,5] [1] (P2 c_1 fq rfl 0 _ hy5 (fun r' e st hq=>by rw[hy51 r' e] at hq;exact hq) fun u5 hu=>?_)
 replace h:=hy52 u5 hu
 refine cq 4 [4] [I (-1)] 17 ?_
 obtain rfl:=sI h
 exact rP [I (-1)]
theorem KA {G:bT}[TabG Tryz.prog G]:bQ G 91 vT:=gT 2 0 bu bW Tryz.func91 (fun a r h=>ZL a.1 a.2 r h)
def G4:Int→List V:=oA I
def G6 (r:Bool):V×List V:=(B r,[])
noncomputable def rZ :=bb [false] G4 G6 fun x=>rY x
theorem G5 {ig:Int}{r}(h:rY ig=some r):rZ.F (G4 ig)=some (G6 r):=aF (aG bi) h
noncomputable def afF :=aD Tryz.f76
noncomputable def V1 :=bV [(89,fN)]
def afE (x:Int)(r:Bool):St→Prop:=QF V1 Tryz.f76 [false] (G4 x) (G6 r)
theorem Zv (ig:Int)(r:Bool)(h:rY ig=some r):bq V1 Tryz.f76 [false] 0 (G4 ig) (G6 r):=by
 show Run _ _ (afE ig r) [.code afF] _
 refine rI 5 [(0,I ig)] [] 1 ?_
 unfold rY at h
 refine cq 7 [3] [I ig] 33 ?_
 obtain⟨r2,hr2,h⟩:=bS h
 refine oq 49 (B r2) rfl (cP (ez hr2)) ?_
 refine cq 2 [2] [B r2] 65 ?_
 obtain rfl:=sI h
 exact rP [B r2]
theorem xM {G:bT}[TabG Tryz.prog G]:bQ G 76 rZ:=gT 1 0 (aL gk bu) bW Tryz.func76 (fun a r h=>Zv a r h)
def Ha:Condition→List V:=oA bM
def Hb (r:Bool):V×List V:=(B r,[])
noncomputable def Dq :=bb [false] Ha Hb fun x=>Dp x
theorem afH {c_1:Condition}{r}(h:Dp c_1=some r):Dq.F (Ha c_1)=some (Hb r):=aF (aG dE) h
noncomputable def oK :=aD Tryz.f190
noncomputable abbrev ka :=cR (cR (cR oK))
noncomputable abbrev QE :=cR (cL (cR (cR (cR (cL (cR (cL (cR (cR oK)))))))))
noncomputable abbrev QG :=cR (cL (cR (cR (cR (cR (cR (cL (cR (cL (cR (cR oK)))))))))))
noncomputable abbrev QH :=cR (cL (cR (cR (cR (cR (cR (cR (cR (cL (cR (cL (cR (cR oK)))))))))))))
noncomputable abbrev QI :=cR (cL (cR (cR (cR (cR (cR (cR (cR (cR (cR (cL (cR (cL (cR (cR oK)))))))))))))))
noncomputable def jZ :=bV [(80,pA),(76,rZ)]
def gR (x:Condition)(r:Bool):St→Prop:=QF jZ Tryz.f190 [false] (Ha x) (Hb r)
theorem Zx (c_1:Condition)(r:Bool)(h:Dp c_1=some r):bq jZ Tryz.f190 [false] 0 (Ha c_1) (Hb r):=by
 show Run _ _ (gR c_1 r) [.code oK] _
 refine rI 80 [(0,au c_1)] [] 1 ?_
 unfold Dp at h
 refine ck 9 [1,5] [] [1] [] [.hp 1 0 [] 4 0 0,.isl false (c_1.Parts.map aH)] [some ⟨0,4,[au c_1]⟩] 65 (by kernel_rfl) ?_
 refine oq 81 (I (len c_1.Parts)) rfl (bv rfl rfl rfl (bK rfl)) ?_
 refine cq 14 [3,8,9] [I (len c_1.Parts),I c_1.Op,B (c_1.Op==1)] 161 ?_
 refine sq h ?_ ?_<;>intro h
 ·refine cq 5 [13] [B ((len c_1.Parts)==0)] 209 ?_
  obtain⟨u2,hu2,h⟩:=lJ h
  have j2:Run jZ 0 (gR c_1 r) (.code (cR (cL (cR (cL (cR (cL (cR (cR oK))))))))::.blk 0::.code ka::[]) (sT 80 [(2,B u2)] [] 1):=by
   obtain rfl:=sI h
   exact rP [B u2]
  replace h:=hu2
  clear hu2
  refine sp 13 h rfl ?_ ?_<;>intro h
  ·refine cq 5 [18] [B (c_1.Name==([]:ac))] 289 ?_
   obtain⟨u3,hu3,h⟩:=lJ h
   have j3:Run jZ 0 (gR c_1 r) (.code (cR (cL (cR (cL (cR (cL (cR (cR oK))))))))::.blk 0::.code ka::[]) (sT 80 [(2,B u3)] [] 1):=by
    subst h
    exact rf [2] [] (j2 :)
   replace h:=hu3
   clear hu3
   refine sp 18 h rfl ?_ ?_<;>intro h
   ·refine cq 6 [2] [B (c_1.Day==0)] 369 ?_
    subst h
    exact rf [2] [] (j3 :)
   ·refine cq 6 [2] [B false] 369 ?_
    subst h
    exact rf [2] [] (j3 :)
  ·refine cq 11 [2] [B false] 369 ?_
   subst h
   exact rf [2] [] (j2 :)
 ·refine cq 5 [23] [B (c_1.Op==2)] 193 ?_
  refine sq h ?_ ?_<;>intro h
  ·refine cq 5 [27] [B ((len c_1.Parts)==0)] 241 ?_
   obtain⟨y4,hy4,hy41,hy42⟩:=bJ h
   have j4:∀u4,y4=.inr u4→Run jZ 0 (gR c_1 r) (.code QE::.blk 0::.code ka::[]) (sT 80 [(2,B u4)] [] 1):=by
    intro u4 hu
    replace h:=hy42 u4 hu
    obtain rfl:=sI h
    exact rP [B u4]
   have r4:∀r',y4=.inl r'→∀st,gR c_1 r' st→(gR c_1 r) st:=fun r' e st hq=>by rw[hy41 r' e] at hq;exact hq
   replace h:=hy4
   refine sp 27 h rfl ?_ ?_<;>intro h
   ·refine cq 2 [29] [str c_1.Name] 273 ?_
    obtain⟨r5,hr5,h⟩:=bS h
    refine oy 289 (B r5) rfl (cP (sd hr5)) ?_
    refine cq 2 [32] [B r5] 321 ?_
    obtain⟨u6,hu6,h⟩:=lJ h
    have j6:Run jZ 0 (gR c_1 r) (.code QE::.blk 0::.code ka::[]) (sT 80 [(2,B u6)] [] 1):=by
     exact rf [2] [] (j4 _ (ak h) :)
    replace h:=hu6
    clear hu6
    refine sp 32 h rfl ?_ ?_<;>intro h
    ·refine cq 6 [2] [B (c_1.Day==0)] 401 ?_
     subst h
     exact rf [2] [] (j6 :)
    ·refine cq 6 [2] [B false] 401 ?_
     subst h
     exact rf [2] [] (j6 :)
   ·refine cq 11 [2] [B false] 401 ?_
    exact rf [2] [] (j4 _ (ak h) :)
  ·refine cq 5 [37] [B (c_1.Op==3)] 225 ?_
   refine sq h ?_ ?_<;>intro h
   ·refine cq 5 [41] [B ((len c_1.Parts)==0)] 273 ?_
    obtain⟨y7,hy7,hy71,hy72⟩:=bJ h
    have j7:∀u7,y7=.inr u7→Run jZ 0 (gR c_1 r) (.code QG::.blk 0::.code ka::[]) (sT 80 [(2,B u7)] [] 1):=by
     intro u7 hu
     replace h:=hy72 u7 hu
     obtain rfl:=sI h
     exact rP [B u7]
    have r7:∀r',y7=.inl r'→∀st,gR c_1 r' st→(gR c_1 r) st:=fun r' e st hq=>by rw[hy71 r' e] at hq;exact hq
    replace h:=hy7
    refine sp 41 h rfl ?_ ?_<;>intro h
    ·refine cq 5 [46] [B (c_1.Name==([]:ac))] 353 ?_
     obtain⟨y8,hy8,hy81,hy82⟩:=bL h
     have j8:∀u8,y8=.inr u8→Run jZ 0 (gR c_1 r) (.code QG::.blk 0::.code ka::[]) (sT 80 [(2,B u8)] [] 1):=by
      intro u8 hu
      replace h:=hy82 u8 hu
      exact rf [2] [] (j7 _ (ak h) :)
     have r8:∀r',y8=.inl r'→∀st,gR c_1 r' st→(gR c_1 r) st:=fun r' e st hq=>r7 r' (hy81 r' e) st hq
     replace h:=hy8
     refine sp 46 h rfl ?_ ?_<;>intro h
     ·refine cq 2 [48] [I c_1.Day] 385 ?_
      obtain⟨r9,hr9,h⟩:=bS h
      refine oy 401 (B r9) rfl (cP (G5 hr9)) ?_
      refine cq 3 [2] [B r9] 433 ?_
      exact rf [2] [] (j8 _ (ak h) :)
     ·refine cq 6 [2] [B false] 433 ?_
      exact rf [2] [] (j8 _ (ak h) :)
    ·refine cq 11 [2] [B false] 433 ?_
     exact rf [2] [] (j7 _ (ak h) :)
   ·refine cq 5 [51] [B (c_1.Op==4)] 257 ?_
    refine sq h ?_ ?_<;>intro h
    ·refine cq 5 [55] [B ((len c_1.Parts)==1)] 305 ?_
     obtain⟨u10,hu10,h⟩:=lJ h
     have j10:Run jZ 0 (gR c_1 r) (.code QH::.blk 0::.code ka::[]) (sT 80 [(2,B u10)] [] 1):=by
      obtain rfl:=sI h
      exact rP [B u10]
     replace h:=hu10
     clear hu10
     refine sp 55 h rfl ?_ ?_<;>intro h
     ·refine cq 5 [60] [B (c_1.Name==([]:ac))] 385 ?_
      obtain⟨u11,hu11,h⟩:=lJ h
      have j11:Run jZ 0 (gR c_1 r) (.code QH::.blk 0::.code ka::[]) (sT 80 [(2,B u11)] [] 1):=by
       subst h
       exact rf [2] [] (j10 :)
      replace h:=hu11
      clear hu11
      refine sp 60 h rfl ?_ ?_<;>intro h
      ·refine cq 6 [2] [B (c_1.Day==0)] 465 ?_
       subst h
       exact rf [2] [] (j11 :)
      ·refine cq 6 [2] [B false] 465 ?_
       subst h
       exact rf [2] [] (j11 :)
     ·refine cq 11 [2] [B false] 465 ?_
      subst h
      exact rf [2] [] (j10 :)
    ·refine cq 6 [65] [B (c_1.Op==5)] 289 ?_
     obtain⟨u12,hu12,h⟩:=lJ h
     have j12:Run jZ 0 (gR c_1 r) (.code (cR (cR (cR (cR (cR (cR (cR (cR (cR (cL (cR (cL (cR (cR oK))))))))))))))::.blk 0::.code ka::[]) (sT 80 [(1,.hp 1 0 [] 4 0 0),(3,I (len c_1.Parts)),(65,B u12)] [⟨0,4,[au c_1]⟩] 2):=by
      refine sq h ?_ ?_<;>intro h
      ·refine cq 5 [70] [B ((len c_1.Parts)==2)] 50 ?_
       obtain⟨u13,hu13,h⟩:=lJ h
       have j13:Run jZ 0 (gR c_1 r) (.code QI::.blk 0::.code ka::[]) (sT 80 [(2,B u13)] [] 1):=by
        obtain rfl:=sI h
        exact rP [B u13]
       replace h:=hu13
       clear hu13
       refine sp 70 h rfl ?_ ?_<;>intro h
       ·refine cq 5 [75] [B (c_1.Name==([]:ac))] 130 ?_
        obtain⟨u14,hu14,h⟩:=lJ h
        have j14:Run jZ 0 (gR c_1 r) (.code QI::.blk 0::.code ka::[]) (sT 80 [(2,B u14)] [] 1):=by
         subst h
         exact rf [2] [] (j13 :)
        replace h:=hu14
        clear hu14
        refine sp 75 h rfl ?_ ?_<;>intro h
        ·refine cq 6 [2] [B (c_1.Day==0)] 210 ?_
         subst h
         exact rf [2] [] (j14 :)
        ·refine cq 6 [2] [B false] 210 ?_
         subst h
         exact rf [2] [] (j14 :)
       ·refine cq 11 [2] [B false] 210 ?_
        subst h
        exact rf [2] [] (j13 :)
      ·refine aq 1 ?_
       refine cq 5 [2] [B false] 18 ?_
       obtain rfl:=sI h
       exact rP [B false]
     replace h:=hu12
     clear hu12
     refine qS h rfl rfl ?_ ?_<;>intro h
     ·refine aq 1 ?_
      subst h
      exact rf [1,3,65] [1] (j12 :)
     ·refine cq 4 [65] [B (c_1.Op==6)] 321 ?_
      subst h
      exact rf [1,3,65] [1] (j12 :)
theorem V4 {G:bT}[TabG Tryz.prog G]:bQ G 190 Dq:=gT 1 0 (aL sQ (aL xM bu)) bW Tryz.func190 (fun a r h=>Zx a r h)
def xN:Condition→List V:=oA bM
def xO (r:Bool):V×List V:=(B r,[])
noncomputable def xP (cC:Condition→Option Bool):Ent:=bb [false] xN xO cC
theorem QJ (cC:Condition→Option Bool){x}{r}(h:cC x=some r):(xP cC).F (xN x)=some (xO r):=aF (aG dE) h
noncomputable def Dr :=xP (aN sa)
theorem afI {c_1:Condition}{r}(h:JE c_1=some r):Dr.F (xN c_1)=some (xO r):=QJ (aN sa) h
noncomputable def V6 :=aD Tryz.f169
noncomputable def No (cC:Condition→Option Bool):Env:=bV [(190,Dq),(169,(xP cC))]
def V5 (cC:Condition→Option Bool)(x:Condition)(r:Bool):St→Prop:=QF (No cC) Tryz.f169 [false] (xN x) (xO r)
theorem PV (cC:Condition→Option Bool)(c_1:Condition):cj (No cC) 0 (V5 cC c_1) (cL (cL (cR (cL (cR (cR V6)))))) 0 (rL cC c_1) (fun u=>(sT 21 [] [] 1)) fun x3=>(sT 21 [(1,.hp 1 0 [] 4 0 0),(3,I x3)] [⟨0,4,[au c_1]⟩] 2):=ee (AR cC c_1) fun {Q K} hK self ih x3 y h hr hn=>by
 unfold lX at h
 refine cq 6 [7,9] [I x3,.isl false (c_1.Parts.map aH)] 50 ?_
 refine oq 66 (I (len c_1.Parts)) rfl (bv rfl rfl rfl (bK rfl)) ?_
 refine cq 2 [11] [B (decide (x3<(len c_1.Parts)))] 82 ?_
 refine sq h ?_ ?_<;>intro h
 ·refine aq 1 ?_
  refine cq 7 [15,16] [.isl false (c_1.Parts.map aH),I x3] 130 ?_
  obtain⟨e4,he4,h⟩:=bS h
  refine oq 146 (.iptr (au e4) 0) rfl (aj rfl rfl rfl (aZ rfl rfl (dD e4) rfl he4)) ?_
  refine cq 1 [18] [au e4] 162 ?_
  obtain⟨r5,hr5,h⟩:=bS h
  refine oq 178 (B r5) rfl (bR rfl rfl (cn rfl rfl rfl (aQ (bx rfl) cz) (QJ cC hr5) (.inr rfl) dT rfl rfl rfl)) ?_
  refine cq 2 [20] [B (!r5)] 194 ?_
  refine sq h ?_ ?_<;>intro h
  ·refine cq 4 [2] [B false] 210 ?_
   exact cu rfl (hr _ (ak h) _ (qp [B false]))
  ·refine aq 1 ?_
   refine cq 6 [3] [I (ai (x3+1))] 242 ?_
   refine dh ?_
   exact rf [1,3] [1] (ih _ _ h hr hn :)
 ·refine aq 1 ?_
  exact rf [] [] (hn _ (ak h) :) (hk:=hK)
theorem Zz (cC:Condition→Option Bool)(c_1:Condition)(r:Bool)(h:uF cC c_1=some r):bq (No cC) Tryz.f169 [false] 0 (xN c_1) (xO r):=by
 show Run _ _ (V5 cC c_1 r) [.code V6] _
 refine rI 21 [(0,au c_1)] [] 1 ?_
 unfold uF at h
 refine ck 9 [1,4] [] [1] [] [.hp 1 0 [] 4 0 0,au c_1] [some ⟨0,4,[au c_1]⟩] 49 (by kernel_rfl) ?_
 obtain⟨r2,hr2,h⟩:=bS h
 refine oq 65 (B r2) rfl (cP (afH hr2)) ?_
 refine cq 2 [6] [B (!r2)] 81 ?_
 refine sq h ?_ ?_<;>intro h
 ·refine cq 4 [2] [B false] 97 ?_
  obtain rfl:=sI h
  exact rP [B false]
 ·refine aq 1 ?_
  refine cq 6 [3] [I (0)] 97 ?_
  obtain⟨y6,hy6,hy61,hy62⟩:=bJ h
  refine bP rfl ?_
  refine rf [1,3] [1] (PV cC c_1 rfl 0 _ hy6 (fun r' e st hq=>by rw[hy61 r' e] at hq;exact hq) fun u6 hu=>?_)
  replace h:=hy62 u6 hu
  refine cq 4 [2] [B true] 17 ?_
  obtain rfl:=sI h
  exact rP [B true]
theorem V7 {G:bT}[TabG Tryz.prog G]:bQ G 169 Dr:=jL fun cC g_Ffed=>gT 1 0 (aL V4 (aL g_Ffed bu)) bW Tryz.func169 (fun a r h=>Zz cC a r h)
def xY:Condition→List V:=oA bM
def xZ (r:Int):V×List V:=(I r,[])
noncomputable def yb (cE:Condition→Option Int):Ent:=bb [false] xY xZ cE
theorem QL (cE:Condition→Option Int){x}{r}(h:cE x=some r):(yb cE).F (xY x)=some (xZ r):=aF (aG dE) h
noncomputable def Dw :=yb (aN l4)
theorem afL {c_1:Condition}{r}(h:Nv c_1=some r):Dw.F (xY c_1)=some (xZ r):=QL (aN l4) h
noncomputable def Wj :=aD Tryz.f170
noncomputable def Nw (cE:Condition→Option Int):Env:=bV [(170,(yb cE))]
def Wi (cE:Condition→Option Int)(x:Condition)(r:Int):St→Prop:=QF (Nw cE) Tryz.f170 [false] (xY x) (xZ r)
theorem P0 (cE:Condition→Option Int)(c_1:Condition):cj (Nw cE) 0 (Wi cE c_1) (cL (cL (cR (cL (cR (cR Wj)))))) 0 (mB cE c_1) (fun u=>(sT 21 [(3,I u)] [] 1)) fun x2=>(sT 21 [(1,.hp 1 0 [] 4 0 0),(3,I x2.1),(4,I x2.2)] [⟨0,4,[au c_1]⟩] 2):=ee (AY cE c_1) fun {Q K} hK self ih x2 y h hr hn=>by
 unfold kz at h
 refine cq 6 [5,7] [I x2.2,.isl false (c_1.Parts.map aH)] 50 ?_
 refine oq 66 (I (len c_1.Parts)) rfl (bv rfl rfl rfl (bK rfl)) ?_
 refine cq 2 [9] [B (decide (x2.2<(len c_1.Parts)))] 82 ?_
 refine sq h ?_ ?_<;>intro h
 ·refine aq 1 ?_
  refine cq 7 [12,14,15] [I x2.1,.isl false (c_1.Parts.map aH),I x2.2] 146 ?_
  obtain⟨e3,he3,h⟩:=bS h
  refine oq 162 (.iptr (au e3) 0) rfl (aj rfl rfl rfl (aZ rfl rfl (dD e3) rfl he3)) ?_
  refine cq 1 [17] [au e3] 178 ?_
  obtain⟨r4,hr4,h⟩:=bS h
  refine oq 194 (I r4) rfl (bR rfl rfl (cn rfl rfl rfl (aQ (bx rfl) cz) (QL cE hr4) (.inr rfl) dT rfl rfl rfl)) ?_
  refine cq 9 [3,4] [I (ai (x2.1+r4)),I (ai (x2.2+1))] 274 ?_
  refine dh ?_
  exact rf [1,3,4] [1] (ih _ _ h hr hn :)
 ·refine aq 1 ?_
  exact rf [3] [] (hn _ (ak h) :) (hk:=hK)
theorem ZI (cE:Condition→Option Int)(c_1:Condition)(r:Int)(h:uM cE c_1=some r):bq (Nw cE) Tryz.f170 [false] 0 (xY c_1) (xZ r):=by
 show Run _ _ (Wi cE c_1 r) [.code Wj] _
 refine rI 21 [(0,au c_1)] [] 1 ?_
 unfold uM at h
 refine ck 15 [1,3,4] [] [1] [] [.hp 1 0 [] 4 0 0,I (1),I (0)] [some ⟨0,4,[au c_1]⟩] 65 (by kernel_rfl) ?_
 obtain⟨y5,hy5,hy51,hy52⟩:=bJ h
 refine bP rfl ?_
 refine rf [1,3,4] [1] (P0 cE c_1 rfl (1,0) _ hy5 (fun r' e st hq=>by rw[hy51 r' e] at hq;exact hq) fun u5 hu=>?_)
 replace h:=hy52 u5 hu
 refine cq 5 [2] [I u5] 33 ?_
 obtain rfl:=sI h
 exact rP [I u5]
theorem Wl {G:bT}[TabG Tryz.prog G]:bQ G 170 Dw:=jL fun cE g_Ffek=>gT 1 0 (aL g_Ffek bu) bW Tryz.func170 (fun a r h=>ZI cE a r h)
def Hc:Condition→List V:=oA bM
def He (r:Bool):V×List V:=(B r,[])
noncomputable def Dt :=bb [false] Hc He fun x=>Ds x
theorem afJ {c_1:Condition}{r}(h:Ds c_1=some r):Dt.F (Hc c_1)=some (He r):=aF (aG dE) h
noncomputable def V8 :=aD Tryz.f135
noncomputable def Np :=bV [(169,Dr),(170,Dw)]
def Hd (x:Condition)(r:Bool):St→Prop:=QF Np Tryz.f135 [false] (Hc x) (He r)
theorem ZA (c_1:Condition)(r:Bool)(h:Ds c_1=some r):bq Np Tryz.f135 [false] 0 (Hc c_1) (He r):=by
 show Run _ _ (Hd c_1 r) [.code V8] _
 refine rI 10 [(0,au c_1)] [] 1 ?_
 unfold Ds at h
 refine ck 8 [1,3] [] [1] [] [.hp 1 0 [] 4 0 0,au c_1] [some ⟨0,4,[au c_1]⟩] 49 (by kernel_rfl) ?_
 obtain⟨r2,hr2,h⟩:=bS h
 refine oq 65 (B r2) rfl (cP (afI hr2)) ?_
 refine cq 1 [5] [B r2] 81 ?_
 obtain⟨y3,hy3,hy31,hy32⟩:=bJ h
 have j3:∀u3,y3=.inr u3→Run Np 0 (Hd c_1 r) (.code (cR (cR V8))::[]) (sT 10 [(2,B u3)] [] 1):=by
  intro u3 hu
  replace h:=hy32 u3 hu
  obtain rfl:=sI h
  exact rP [B u3]
 have r3:∀r',y3=.inl r'→∀st,Hd c_1 r' st→(Hd c_1 r) st:=fun r' e st hq=>by rw[hy31 r' e] at hq;exact hq
 replace h:=hy3
 refine sp 5 h rfl ?_ ?_<;>intro h
 ·refine cq 1 [6] [au c_1] 97 ?_
  obtain⟨r4,hr4,h⟩:=bS h
  refine oy 113 (I r4) rfl (cP (afL hr4)) ?_
  refine cq 4 [2] [B (decide (r4≤15))] 161 ?_
  exact rf [2] [] (j3 _ (ak h) :)
 ·refine cq 6 [2] [B false] 161 ?_
  exact rf [2] [] (j3 _ (ak h) :)
theorem V9 {G:bT}[TabG Tryz.prog G]:bQ G 135 Dt:=gT 1 0 (aL V7 (aL Wl bu)) bW Tryz.func135 (fun a r h=>ZA a r h)
def Hq:(Contract×Int)→List V:=cA aM (oA I)
def Hr (r:Bool):V×List V:=(B r,[])
noncomputable def Dy :=bb [false,false] Hq Hr fun x=>Dx x.1 x.2
theorem Wm {c_1:Contract}{i_2:Int}{r}(h:Dx c_1 i_2=some r):Dy.F (Hq (c_1,i_2))=some (Hr r):=aF (aJ aP (aG bi)) h
noncomputable def Nx :=aD Tryz.f92
noncomputable abbrev ob :=cR (cR (cR (cR Nx)))
noncomputable abbrev rM :=cR (cL (cR (cR (cR Nx))))
noncomputable abbrev uN :=cR ob
noncomputable abbrev zp :=cR (cL ob)
noncomputable abbrev JF :=cR (cR (cR uN))
noncomputable def iU :=bV [(80,pA),(89,fN),(91,vT),(135,Dt)]
def et (x:Contract×Int)(r:Bool):St→Prop:=QF iU Tryz.f92 [false,false] (Hq x) (Hr r)
theorem ZJ (c_1:Contract)(i_2:Int)(r:Bool)(h:Dx c_1 i_2=some r):bq iU Tryz.f92 [false,false] 0 (Hq (c_1,i_2)) (Hr r):=by
 show Run _ _ (et (c_1,i_2) r) [.code Nx] _
 refine rI 114 [(0,aa c_1),(1,I i_2)] [] 1 ?_
 unfold Dx at h
 refine ck 10 [2,9,10] [] [1] [] [.hp 1 0 [] 2 0 0,.isl false (c_1.Clauses.map ap),I i_2] [some ⟨0,2,[aa c_1]⟩] 81 (by kernel_rfl) ?_
 obtain⟨e3,he3,h⟩:=bS h
 refine oq 97 (.iptr (ao e3) 0) rfl (aj rfl rfl rfl (aZ rfl rfl rfl rfl he3)) ?_
 refine ck 2 [5,12] [] [113] [] [.hp 113 0 [] 12 0 0,ao e3] [some ⟨0,12,[.agg [str ([]),I (0),I (0),str ([]),I (0),I (0),I (0),str ([]),I (0),.isl true [],I (0),str ([])]]⟩] 129 (by kernel_rfl) ?_
 refine fY 113 [.agg [str ([]),I (0),I (0),str ([]),I (0),I (0),I (0),str ([]),I (0),.usl 4 (([]).map aC),I (0),str ([])]] rfl rfl (aR (im (aR (.refl _) (aR (.refl _) (aR (.refl _) (aR (.refl _) (aR (.refl _) (aR (.refl _) (aR (.refl _) (aR (.refl _) (aR (.refl _) (aR (.nil _) (aR (.refl _) (aR (.refl _) eV))))))))))))) eV) ?_
 refine ck 6 [14] [] [113] [] [.isl false (c_1.Parties.map str)] [some ⟨2,12,[ao e3]⟩] 177 (by kernel_rfl) ?_
 refine oq 193 (I (len c_1.Parties)) rfl (bv rfl rfl rfl (bK rfl)) ?_
 refine cq 7 [6,17] [I (len c_1.Parties),str e3.Id] 241 ?_
 obtain⟨r4,hr4,h⟩:=bS h
 refine oq 257 (B r4) rfl (cP (sd hr4)) ?_
 refine cq 2 [20] [B (!r4)] 289 ?_
 obtain⟨y5,hy5,hy51,hy52⟩:=bJ h
 have j5:∀u5,y5=.inr u5→Run iU 0 (et (c_1,i_2) r) (.code rM::.code ob::[]) (sT 114 [(1,I i_2),(2,.hp 1 0 [] 2 0 0),(5,.hp 2 0 [] 12 0 0),(60,B u5)] [⟨0,2,[aa c_1]⟩,⟨0,12,[ao e3]⟩] 3):=by
  intro u5 hu
  replace h:=hy52 u5 hu
  refine sq h ?_ ?_<;>intro h
  ·refine cq 4 [4] [B false] 19 ?_
   obtain rfl:=sI h
   exact rP [B false]
  ·refine aq 1 ?_
   refine cq 5 [62] [I e3.Amount] 35 ?_
   obtain⟨r6,hr6,h⟩:=bS h
   refine oq 51 (B r6) rfl (cP (ez hr6)) ?_
   refine cq 2 [65] [B (!r6)] 83 ?_
   obtain⟨y7,hy7,hy71,hy72⟩:=bJ h
   have j7:∀u7,y7=.inr u7→Run iU 0 (et (c_1,i_2) r) (.code zp::.code uN::[]) (sT 114 [(1,I i_2),(2,.hp 1 0 [] 2 0 0),(5,.hp 2 0 [] 12 0 0),(85,B u7)] [⟨0,2,[aa c_1]⟩,⟨0,12,[ao e3]⟩] 3):=by
    intro u7 hu
    replace h:=hy72 u7 hu
    refine sq h ?_ ?_<;>intro h
    ·refine cq 4 [4] [B false] 19 ?_
     obtain rfl:=sI h
     exact rP [B false]
    ·refine aq 1 ?_
     refine cq 7 [88] [B (e3.Repair==([]:ac))] 51 ?_
     refine sq h ?_ ?_<;>intro h
     ·refine cq 4 [4] [B true] 67 ?_
      obtain rfl:=sI h
      exact rP [B true]
     ·refine aq 1 ?_
      refine cq 5 [89,91] [aa c_1,str e3.Repair] 99 ?_
      obtain⟨r8,hr8,h⟩:=bS h
      refine oq 115 (I r8) rfl (cP (NA hr8)) ?_
      refine cq 7 [7,95] [I r8,B (decide (r8≥0))] 179 ?_
      obtain⟨y9,hy9,hy91,hy92⟩:=bJ h
      have j9:∀u9,y9=.inr u9→Run iU 0 (et (c_1,i_2) r) (.code JF::[]) (sT 114 [(4,B u9)] [] 1):=by
       intro u9 hu
       replace h:=hy92 u9 hu
       obtain rfl:=sI h
       exact rP [B u9]
      have r9:∀r',y9=.inl r'→∀st,et (c_1,i_2) r' st→(et (c_1,i_2) r) st:=fun r' e st hq=>by rw[hy91 r' e] at hq;exact hq
      replace h:=hy9
      refine sp 95 h rfl ?_ ?_<;>intro h
      ·refine cq 5 [100] [B (r8 != i_2)] 259 ?_
       obtain⟨y10,hy10,hy101,hy102⟩:=bL h
       have j10:∀u10,y10=.inr u10→Run iU 0 (et (c_1,i_2) r) (.code JF::[]) (sT 114 [(4,B u10)] [] 1):=by
        intro u10 hu
        replace h:=hy102 u10 hu
        exact rf [4] [] (j9 _ (ak h) :)
       have r10:∀r',y10=.inl r'→∀st,et (c_1,i_2) r' st→(et (c_1,i_2) r) st:=fun r' e st hq=>r9 r' (hy101 r' e) st hq
       replace h:=hy10
       refine sp 100 h rfl ?_ ?_<;>intro h
       ·refine cq 3 [102,103] [.isl false (c_1.Clauses.map ap),I r8] 307 ?_
        obtain⟨e11,he11,h⟩:=bS h
        refine oy 323 (.iptr (ao e11) 0) rfl (aj rfl rfl rfl (aZ rfl rfl rfl rfl he11)) ?_
        refine cq 5 [109] [B (e11.Kind==1)] 403 ?_
        obtain⟨u12,hu12,h⟩:=lJ h
        have j12:Run iU 0 (et (c_1,i_2) r) (.code JF::[]) (sT 114 [(4,B u12)] [] 1):=by
         exact rf [4] [] (j10 _ (ak h) :)
        replace h:=hu12
        clear hu12
        refine sp 109 h rfl ?_ ?_<;>intro h
        ·refine cq 6 [4] [B (e3.Kind != 3)] 483 ?_
         subst h
         exact rf [4] [] (j12 :)
        ·refine cq 6 [4] [B false] 483 ?_
         subst h
         exact rf [4] [] (j12 :)
       ·refine cq 15 [4] [B false] 483 ?_
        exact rf [4] [] (j10 _ (ak h) :)
      ·refine cq 20 [4] [B false] 483 ?_
       exact rf [4] [] (j9 _ (ak h) :)
   have r7:∀r',y7=.inl r'→∀st,et (c_1,i_2) r' st→(et (c_1,i_2) r) st:=fun r' e st hq=>by rw[hy71 r' e] at hq;exact hq
   replace h:=hy7
   refine sp 65 h rfl ?_ ?_<;>intro h
   ·refine cq 21 [85] [B true] 403 ?_
    exact rf [1,2,5,85] [1,2] (j7 _ (ak h) :)
   ·refine cq 2 [67] [I e3.Within] 115 ?_
    obtain⟨r13,hr13,h⟩:=bS h
    refine oy 131 (B r13) rfl (cP (ez hr13)) ?_
    refine cq 3 [71] [B (!r13)] 179 ?_
    obtain⟨u14,hu14,h⟩:=lJ h
    have j14:Run iU 0 (et (c_1,i_2) r) (.code zp::.code uN::[]) (sT 114 [(1,I i_2),(2,.hp 1 0 [] 2 0 0),(5,.hp 2 0 [] 12 0 0),(85,B u14)] [⟨0,2,[aa c_1]⟩,⟨0,12,[ao e3]⟩] 3):=by
     exact rf [1,2,5,85] [1,2] (j7 _ (ak h) :)
    replace h:=hu14
    clear hu14
    refine sp 71 h rfl ?_ ?_<;>intro h
    ·refine cq 15 [85] [B true] 403 ?_
     subst h
     exact rf [1,2,5,85] [1,2] (j14 :)
    ·refine cq 4 [75] [B (e3.Kind != 1)] 243 ?_
     obtain⟨u15,hu15,h⟩:=lJ h
     have j15:Run iU 0 (et (c_1,i_2) r) (.code zp::.code uN::[]) (sT 114 [(1,I i_2),(2,.hp 1 0 [] 2 0 0),(5,.hp 2 0 [] 12 0 0),(85,B u15)] [⟨0,2,[aa c_1]⟩,⟨0,12,[ao e3]⟩] 3):=by
      subst h
      exact rf [1,2,5,85] [1,2] (j14 :)
     replace h:=hu15
     clear hu15
     refine sp 75 h rfl ?_ ?_<;>intro h
     ·refine cq 4 [79] [B (e3.Amount != 0)] 307 ?_
      obtain⟨u16,hu16,h⟩:=lJ h
      have j16:Run iU 0 (et (c_1,i_2) r) (.code zp::.code uN::[]) (sT 114 [(1,I i_2),(2,.hp 1 0 [] 2 0 0),(5,.hp 2 0 [] 12 0 0),(85,B u16)] [⟨0,2,[aa c_1]⟩,⟨0,12,[ao e3]⟩] 3):=by
       subst h
       exact rf [1,2,5,85] [1,2] (j15 :)
      replace h:=hu16
      clear hu16
      refine sp 79 h rfl ?_ ?_<;>intro h
      ·refine cq 7 [85] [B true] 403 ?_
       subst h
       exact rf [1,2,5,85] [1,2] (j16 :)
      ·refine cq 7 [85] [B (e3.Within != 0)] 403 ?_
       subst h
       exact rf [1,2,5,85] [1,2] (j16 :)
     ·refine cq 11 [85] [B false] 403 ?_
      subst h
      exact rf [1,2,5,85] [1,2] (j15 :)
 have r5:∀r',y5=.inl r'→∀st,et (c_1,i_2) r' st→(et (c_1,i_2) r) st:=fun r' e st hq=>by rw[hy51 r' e] at hq;exact hq
 replace h:=hy5
 refine sp 20 h rfl ?_ ?_<;>intro h
 ·refine cq 41 [60] [B true] 929 ?_
  exact rf [1,2,5,60] [1,113] (j5 _ (ak h) :)
 ·refine cq 2 [22] [str e3.Action] 321 ?_
  obtain⟨r17,hr17,h⟩:=bS h
  refine oy 337 (B r17) rfl (cP (sd hr17)) ?_
  refine cq 3 [26] [B (!r17)] 385 ?_
  obtain⟨y18,hy18,hy181,hy182⟩:=bL h
  have j18:∀u18,y18=.inr u18→Run iU 0 (et (c_1,i_2) r) (.code rM::.code ob::[]) (sT 114 [(1,I i_2),(2,.hp 1 0 [] 2 0 0),(5,.hp 2 0 [] 12 0 0),(60,B u18)] [⟨0,2,[aa c_1]⟩,⟨0,12,[ao e3]⟩] 3):=by
   intro u18 hu
   replace h:=hy182 u18 hu
   exact rf [1,2,5,60] [1,2] (j5 _ (ak h) :)
  have r18:∀r',y18=.inl r'→∀st,et (c_1,i_2) r' st→(et (c_1,i_2) r) st:=fun r' e st hq=>r5 r' (hy181 r' e) st hq
  replace h:=hy18
  refine sp 26 h rfl ?_ ?_<;>intro h
  ·refine cq 35 [60] [B true] 929 ?_
   exact rf [1,2,5,60] [1,113] (j18 _ (ak h) :)
  ·refine cq 2 [28] [I e3.Kind] 417 ?_
   obtain⟨r19,hr19,h⟩:=bS h
   refine oy 433 (B r19) rfl (cP (ez hr19)) ?_
   refine cq 3 [32] [B (!r19)] 481 ?_
   obtain⟨y20,hy20,hy201,hy202⟩:=bL h
   have j20:∀u20,y20=.inr u20→Run iU 0 (et (c_1,i_2) r) (.code rM::.code ob::[]) (sT 114 [(1,I i_2),(2,.hp 1 0 [] 2 0 0),(5,.hp 2 0 [] 12 0 0),(60,B u20)] [⟨0,2,[aa c_1]⟩,⟨0,12,[ao e3]⟩] 3):=by
    intro u20 hu
    replace h:=hy202 u20 hu
    exact rf [1,2,5,60] [1,2] (j18 _ (ak h) :)
   have r20:∀r',y20=.inl r'→∀st,et (c_1,i_2) r' st→(et (c_1,i_2) r) st:=fun r' e st hq=>r18 r' (hy201 r' e) st hq
   replace h:=hy20
   refine sp 32 h rfl ?_ ?_<;>intro h
   ·refine cq 29 [60] [B true] 929 ?_
    exact rf [1,2,5,60] [1,113] (j20 _ (ak h) :)
   ·refine cq 4 [34,36] [I e3.Party,I (ai ((len c_1.Parties) - 1))] 545 ?_
    obtain⟨r21,hr21,h⟩:=bS h
    refine oy 561 (B r21) rfl (cP (ez hr21)) ?_
    refine cq 3 [40] [B (!r21)] 609 ?_
    obtain⟨y22,hy22,hy221,hy222⟩:=bL h
    have j22:∀u22,y22=.inr u22→Run iU 0 (et (c_1,i_2) r) (.code rM::.code ob::[]) (sT 114 [(1,I i_2),(2,.hp 1 0 [] 2 0 0),(5,.hp 2 0 [] 12 0 0),(60,B u22)] [⟨0,2,[aa c_1]⟩,⟨0,12,[ao e3]⟩] 3):=by
     intro u22 hu
     replace h:=hy222 u22 hu
     exact rf [1,2,5,60] [1,2] (j20 _ (ak h) :)
    have r22:∀r',y22=.inl r'→∀st,et (c_1,i_2) r' st→(et (c_1,i_2) r) st:=fun r' e st hq=>r20 r' (hy221 r' e) st hq
    replace h:=hy22
    refine sp 40 h rfl ?_ ?_<;>intro h
    ·refine cq 21 [60] [B true] 929 ?_
     exact rf [1,2,5,60] [1,113] (j22 _ (ak h) :)
    ·refine cq 4 [42,44] [I e3.Other,I (ai ((len c_1.Parties) - 1))] 673 ?_
     obtain⟨r23,hr23,h⟩:=bS h
     refine oy 689 (B r23) rfl (cP (ez hr23)) ?_
     refine cq 3 [48] [B (!r23)] 737 ?_
     obtain⟨y24,hy24,hy241,hy242⟩:=bL h
     have j24:∀u24,y24=.inr u24→Run iU 0 (et (c_1,i_2) r) (.code rM::.code ob::[]) (sT 114 [(1,I i_2),(2,.hp 1 0 [] 2 0 0),(5,.hp 2 0 [] 12 0 0),(60,B u24)] [⟨0,2,[aa c_1]⟩,⟨0,12,[ao e3]⟩] 3):=by
      intro u24 hu
      replace h:=hy242 u24 hu
      exact rf [1,2,5,60] [1,2] (j22 _ (ak h) :)
     have r24:∀r',y24=.inl r'→∀st,et (c_1,i_2) r' st→(et (c_1,i_2) r) st:=fun r' e st hq=>r22 r' (hy241 r' e) st hq
     replace h:=hy24
     refine sp 48 h rfl ?_ ?_<;>intro h
     ·refine cq 13 [60] [B true] 929 ?_
      exact rf [1,2,5,60] [1,113] (j24 _ (ak h) :)
     ·refine cq 7 [55] [B (e3.Party==e3.Other)] 849 ?_
      obtain⟨y25,hy25,hy251,hy252⟩:=bL h
      have j25:∀u25,y25=.inr u25→Run iU 0 (et (c_1,i_2) r) (.code rM::.code ob::[]) (sT 114 [(1,I i_2),(2,.hp 1 0 [] 2 0 0),(5,.hp 2 0 [] 12 0 0),(60,B u25)] [⟨0,2,[aa c_1]⟩,⟨0,12,[ao e3]⟩] 3):=by
       intro u25 hu
       replace h:=hy252 u25 hu
       exact rf [1,2,5,60] [1,2] (j24 _ (ak h) :)
      have r25:∀r',y25=.inl r'→∀st,et (c_1,i_2) r' st→(et (c_1,i_2) r) st:=fun r' e st hq=>r24 r' (hy251 r' e) st hq
      replace h:=hy25
      refine sp 55 h rfl ?_ ?_<;>intro h
      ·refine cq 6 [60] [B true] 929 ?_
       exact rf [1,2,5,60] [1,113] (j25 _ (ak h) :)
      ·refine cq 2 [57] [au e3.When] 881 ?_
       obtain⟨r26,hr26,h⟩:=bS h
       refine oy 897 (B r26) rfl (cP (afJ hr26)) ?_
       refine cq 3 [60] [B (!r26)] 929 ?_
       exact rf [1,2,5,60] [1,113] (j25 _ (ak h) :)
theorem Wn {G:bT}[TabG Tryz.prog G]:bQ G 92 Dy:=gT 2 0 (aL sQ (aL gk (aL KA (aL V9 bu)))) bW Tryz.func92 (fun a r h=>ZJ a.1 a.2 r h)
def Hk:((List ac)×ac)→List V:=cA (sG 1 str) (oA str)
def Hl (r:(List ac)):V×List V:=(.usl 1 (r.map str),[.dead])
noncomputable def vR :=bb [true,false] Hk Hl fun x=>xT x.1 x.2
theorem Nu {l_8:List ac}{s_9:ac}{r}(h:xT l_8 s_9=some r):vR.F (Hk (l_8,s_9))=some (Hl r):=aF (aJ (jo b8) (aG b8)) h
noncomputable def se :=aD Tryz.f137
noncomputable def xU :=bV []
def uJ (x:(List ac)×ac)(r:(List ac)):St→Prop:=QF xU Tryz.f137 [true,false] (Hk x) (Hl r)
theorem PZ (l_8:List ac)(s_9:ac):cj xU 1 (uJ (l_8,s_9)) (cL (cL (cL (cR (cR se))))) 0 (uK l_8 s_9) (fun u=>(sO 45 [(0,.hs 2 0 [] 1 0 (u.2.2.map str).length),(1,str u.1),(5,I u.2.1)] [none,some ⟨0,1,u.2.2.map str⟩] 3)) fun x3=>(sO 45 [(0,.hs 2 0 [] 1 0 (l_8.map str).length),(1,str s_9),(5,I x3)] [none,some ⟨0,1,l_8.map str⟩] 3):=ee (AX l_8 s_9) fun {Q K} hK self ih x3 y h hr hn=>by
 unfold lZ at h
 refine cq 5 [6,7] [I x3,.hs 2 0 [] 1 0 (l_8.map str).length] 35 ?_
 refine oq 51 (I (len l_8)) rfl (bv rfl rfl rfl (ri (f:=str) (xs:=l_8) rfl rfl)) ?_
 refine cq 2 [10] [B (decide (x3<(len l_8)))] 83 ?_
 obtain⟨y4,hy4,hy41,hy42⟩:=bL h
 have j4:∀u4,y4=.inr u4→Run xU 1 Q (.code (cR (cL (cL (cL (cL (cR (cR se)))))))::.code (cR (cL (cL (cL (cR (cR se))))))::.lp (cL (cL (cL (cR (cR se)))))::.blk 0::K) (sO 45 [(0,.hs 2 0 [] 1 0 (l_8.map str).length),(1,str s_9),(5,I x3),(17,B u4)] [none,some ⟨0,1,l_8.map str⟩] 3):=by
  intro u4 hu
  replace h:=hy42 u4 hu
  refine sq h ?_ ?_<;>intro h
  ·refine aq 1 ?_
   refine cq 7 [5] [I (ai (x3+1))] 51 ?_
   refine dh ?_
   exact rg [0,1,5] [52,2] (ih _ _ h hr hn :)
  ·refine aq 1 ?_
   exact rg [0,1,5] [4,2] (hn _ (ak h) :) (hk:=hK)
 have r4:∀r',y4=.inl r'→∀st,uJ (l_8,s_9) r' st→Q st:=fun r' e st hq=>hr r' (hy41 r' e) st hq
 replace h:=hy4
 refine sp 10 h rfl ?_ ?_<;>intro h
 ·refine cq 2 [11,12] [.hs 2 0 [] 1 0 (l_8.map str).length,I x3] 115 ?_
  obtain⟨e5,he5,h⟩:=bS h
  refine oy 131 (.hp 2 0 [] 1 (0+Int.toNat x3) 0) rfl (aj rfl rfl rfl (dW (f:=str) (xs:=l_8) rfl rfl rfl he5)) ?_
  refine oy 147 (str e5) rfl (aK rfl (gt (path:=[]) rfl rfl rfl aU (du (f:=str) (xs:=l_8) he5) rfl rfl rfl)) ?_
  refine cq 4 [17] [B (Op.bytesLess e5 s_9)] 195 ?_
  exact rg [0,1,5,17] [196,2] (j4 _ (ak h) :)
 ·refine cq 8 [17] [B false] 195 ?_
  exact rg [0,1,5,17] [196,2] (j4 _ (ak h) :)
theorem ZF (l_8:List ac)(s_9:ac)(r:(List ac))(h:xT l_8 s_9=some r):bq xU Tryz.f137 [true,false] 1 (Hk (l_8,s_9)) (Hl r):=by
 show Run _ _ (uJ (l_8,s_9) r) [.code se] _
 refine rI 45 [(0,.hs 1 0 [] 1 0 (l_8.map str).length),(1,str s_9)] [(1,some ⟨0,1,l_8.map str⟩)] 2 ?_
 unfold xT at h
 refine cq 10 [5] [I (0)] 34 ?_
 obtain⟨y6,hy6,hy61,hy62⟩:=bJ h
 refine bP rfl ?_
 refine rg [0,1,5] [35,1] (PZ l_8 s_9 rfl 0 _ hy6 (fun r' e st hq=>by rw[hy61 r' e] at hq;exact hq) fun u6 hu=>?_)
 replace h:=hy62 u6 hu
 refine cq 5 [20,21] [I u6.2.1,.hs 2 0 [] 1 0 (u6.2.2.map str).length] 35 ?_
 refine oq 51 (I (len u6.2.2)) rfl (bv rfl rfl rfl (ri (f:=str) (xs:=u6.2.2) rfl rfl)) ?_
 refine cq 2 [24] [B (decide (u6.2.1<(len u6.2.2)))] 83 ?_
 obtain⟨y7,hy7,hy71,hy72⟩:=bJ h
 have j7:∀u7,y7=.inr u7→Run xU 1 (uJ (l_8,s_9) r) (.code (cR (cL (cR (cR (cR se)))))::.code (cR (cR (cR (cR se))))::[]) (sO 45 [(0,.hs 2 0 [] 1 0 (u6.2.2.map str).length),(1,str u6.1),(5,I u6.2.1),(31,B u7)] [none,some ⟨0,1,u6.2.2.map str⟩] 3):=by
  intro u7 hu
  replace h:=hy72 u7 hu
  refine sq h ?_ ?_<;>intro h
  ·refine cq 5 [4] [.hs 2 0 [] 1 0 (u6.2.2.map str).length] 35 ?_
   obtain rfl:=sI h
   exact cu rfl ⟨_,fin (vs:=[.hs 2 0 [] 1 0 (u6.2.2.map str).length]) rfl (f9 (fZ rfl (dR rfl rfl)) eA) rfl (mj rfl (ro rfl) (cQ ft)),wn fj⟩
  ·refine aq 1 ?_
   refine aq 1 ?_
   refine dt [0,0,0,6,15,0,32,127,0,0,768,2047,4095] rfl (by decide +kernel) ?_
   refine dq [] [] (.hs 3 0 [] 1 0 0) rfl (eD rfl (kG (f:=I) (xs:=[]) (z:=str ([])) (es:=[]) (ws:=[]) rfl rfl rfl (by decide) rfl (dM rfl) rfl)) ?_
   refine dk 2 [35,34] [I u6.2.1,.hs 2 0 [] 1 0 (u6.2.2.map str).length] ?_
   obtain⟨s8,hs8,h⟩:=bS h
   refine dq [2] [] (.hs 2 0 [] 1 (0+Int.toNat (0)) (Int.toNat u6.2.1 - Int.toNat (0))) rfl (gH rfl rfl rfl rfl (vt (f:=str) (xs:=u6.2.2) rfl rfl rfl rfl rfl hs8)) ?_
   obtain⟨p9,hp9,h⟩:=bS h
   obtain⟨a10,ha10,h⟩:=bS h
   refine dq [3,2] [3] (.hs 67 0 [] 1 0 (a10.map str).length) rfl (jJ rfl rfl rfl rfl rfl (mW (path:=[]) (es0:=[]) (f:=str) (xs:=([]:List ac)) (ys:=p9) rfl rfl (Rq (path:=[]) (f:=str) (xs:=u6.2.2) rfl rfl aU hp9 nB) rfl rfl rfl rfl rfl (by decide) mq ha10 rfl qQ)) ?_ (Jh rfl (Ip (path:=[]) (f:=str) (xs:=u6.2.2) rfl rfl aU nB rfl))
   refine dk 1 [38] [str u6.1] ?_
   refine dq [] [] (.hs 99 0 [] 1 0 1) rfl (eD rfl (kG (f:=I) (xs:=[]) (z:=str ([])) (es:=[str u6.1]) (ws:=[str u6.1]) rfl rfl rfl (by decide) rfl (dM rfl) rfl)) ?_
   obtain⟨a11,ha11,h⟩:=bS h
   refine dq [67,99] [67] (.hs 115 0 [] 1 0 (a11.map str).length) rfl (jJ rfl rfl rfl rfl rfl (mW (path:=[]) (f:=str) (xs:=a10) (ys:=[u6.1]) rfl rfl (rN rfl rfl rfl) rfl rfl rfl aU rfl (by decide) mq ha11 rfl qQ)) ?_ (Jh rfl (Ip (path:=[]) (f:=str) (xs:=[u6.1]) rfl rfl aU nB rfl))
   refine dk 2 [42,41] [I u6.2.1,.hs 2 0 [] 1 0 (u6.2.2.map str).length] ?_
   obtain⟨s12,hs12,h⟩:=bS h
   refine dq [2] [] (.hs 2 0 [] 1 (0+Int.toNat u6.2.1) (Int.toNat (len u6.2.2) - Int.toNat u6.2.1)) rfl (gH rfl rfl rfl rfl (vt (f:=str) (xs:=u6.2.2) rfl rfl rfl rfl (aak rfl) hs12)) ?_
   obtain⟨p13,hp13,h⟩:=bS h
   obtain⟨a14,ha14,h⟩:=bS h
   refine dq [115,2] [115] (.hs 179 0 [] 1 0 (a14.map str).length) rfl (jJ rfl rfl rfl rfl rfl (mW (path:=[]) (f:=str) (xs:=a11) (ys:=p13) rfl rfl (Rq (path:=[]) (f:=str) (xs:=u6.2.2) rfl rfl aU hp13 nB) rfl rfl rfl aU rfl (by decide) mq ha14 rfl qQ)) ?_ (Jh rfl (Ip (path:=[]) (f:=str) (xs:=u6.2.2) rfl rfl aU nB rfl))
   refine dk 1 [4] [.hs 179 0 [] 1 0 (a14.map str).length] ?_
   refine de 211 rfl rfl ?_
   obtain rfl:=sI h
   exact cu rfl ⟨_,fin (vs:=[.hs 179 0 [] 1 0 (a14.map str).length]) rfl (f9 (fZ rfl (dR rfl rfl)) eA) rfl (mj rfl (ro rfl) (cQ ft)),wn fj⟩
 have r7:∀r',y7=.inl r'→∀st,uJ (l_8,s_9) r' st→(uJ (l_8,s_9) r) st:=fun r' e st hq=>by rw[hy71 r' e] at hq;exact hq
 replace h:=hy7
 refine sp 24 h rfl ?_ ?_<;>intro h
 ·refine cq 2 [25,26] [.hs 2 0 [] 1 0 (u6.2.2.map str).length,I u6.2.1] 115 ?_
  obtain⟨e15,he15,h⟩:=bS h
  refine oy 131 (.hp 2 0 [] 1 (0+Int.toNat u6.2.1) 0) rfl (aj rfl rfl rfl (dW (f:=str) (xs:=u6.2.2) rfl rfl rfl he15)) ?_
  refine oy 147 (str e15) rfl (aK rfl (gt (path:=[]) rfl rfl rfl aU (du (f:=str) (xs:=u6.2.2) he15) rfl rfl rfl)) ?_
  refine cq 4 [31] [B (e15==u6.1)] 195 ?_
  exact rg [0,1,5,31] [196,2] (j7 _ (ak h) :)
 ·refine cq 8 [31] [B false] 195 ?_
  exact rg [0,1,5,31] [196,2] (j7 _ (ak h) :)
theorem Kz {G:bT}[TabG Tryz.prog G]:bQ G 137 vR:=gT 2 1 bu bW Tryz.func137 (fun a r h=>ZF a.1 a.2 r h)
def xQ:((List ac)×Condition)→List V:=cA (sG 1 str) (oA bM)
def xR (r:(List ac)):V×List V:=(.usl 1 (r.map str),[.dead])
noncomputable def xS (cD:((List ac)×Condition)→Option (List ac)):Ent:=bb [true,false] xQ xR cD
theorem QK (cD:((List ac)×Condition)→Option (List ac)){x}{r}(h:cD x=some r):(xS cD).F (xQ x)=some (xR r):=aF (aJ (jo b8) (aG dE)) h
noncomputable def Du :=xS (aN lY)
theorem Wc {l_4:List ac}{c_5:Condition}{r}(h:Ns l_4 c_5=some r):Du.F (xQ (l_4,c_5))=some (xR r):=QK (aN lY) h
noncomputable def Wf :=aD Tryz.f136
noncomputable def Nt (cD:((List ac)×Condition)→Option (List ac)):Env:=bV [(137,vR),(136,(xS cD))]
def We (cD:((List ac)×Condition)→Option (List ac))(x:(List ac)×Condition)(r:(List ac)):St→Prop:=QF (Nt cD) Tryz.f136 [true,false] (xQ x) (xR r)
theorem PY (cD:((List ac)×Condition)→Option (List ac))(l_4:List ac)(c_5:Condition):cj (Nt cD) 1 (We cD (l_4,c_5)) (cL (cL (cR (cL (cR (cR Wf)))))) 0 (mA cD l_4 c_5) (fun u=>(sO 28 [(0,.hs 2 0 [] 1 0 (u.map str).length)] [none,some ⟨0,1,u.map str⟩] 3)) fun x4=>(sO 28 [(0,.hs 2 0 [] 1 0 (x4.2.map str).length),(3,.hp 3 0 [] 4 0 0),(5,I x4.1)] [none,some ⟨0,1,x4.2.map str⟩,some ⟨0,4,[au c_5]⟩] 4):=ee (AW cD l_4 c_5) fun {Q K} hK self ih x4 y h hr hn=>by
 unfold ky at h
 refine cq 6 [13,15] [I x4.1,.isl false (c_5.Parts.map aH)] 52 ?_
 refine oq 68 (I (len c_5.Parts)) rfl (bv rfl rfl rfl (bK rfl)) ?_
 refine cq 2 [17] [B (decide (x4.1<(len c_5.Parts)))] 84 ?_
 refine sq h ?_ ?_<;>intro h
 ·refine aq 1 ?_
  refine cq 7 [20,22,23] [.hs 2 0 [] 1 0 (x4.2.map str).length,.isl false (c_5.Parts.map aH),I x4.1] 148 ?_
  obtain⟨e5,he5,h⟩:=bS h
  refine oq 164 (.iptr (au e5) 0) rfl (aj rfl rfl rfl (aZ rfl rfl (dD e5) rfl he5)) ?_
  refine cq 1 [25] [au e5] 180 ?_
  obtain⟨r6,hr6,h⟩:=bS h
  refine oq 196 (.hs 180 0 [] 1 0 (r6.map str).length) rfl (bR rfl rfl (cn rfl rfl rfl (kV (ki rfl (f8 (path:=[]) rfl rfl aU rfl)) (aQ (bx rfl) cz)) (QK cD hr6) (.inr rfl) (jj rfl rfl rfl ot dT) rfl rfl rfl)) ?_
  refine cq 8 [0,5] [.hs 180 0 [] 1 0 (r6.map str).length,I (ai (x4.1+1))] 260 ?_
  refine dh ?_
  exact rg [0,3,5] [261,180,3] (ih _ _ h hr hn :)
 ·refine aq 1 ?_
  exact rg [0] [85,2] (hn _ (ak h) :) (hk:=hK)
theorem ZE (cD:((List ac)×Condition)→Option (List ac))(l_4:List ac)(c_5:Condition)(r:(List ac))(h:uI cD l_4 c_5=some r):bq (Nt cD) Tryz.f136 [true,false] 1 (xQ (l_4,c_5)) (xR r):=by
 show Run _ _ (We cD (l_4,c_5) r) [.code Wf] _
 refine rI 28 [(0,.hs 1 0 [] 1 0 (l_4.map str).length),(1,au c_5)] [(1,some ⟨0,1,l_4.map str⟩)] 2 ?_
 unfold uI at h
 refine ck 12 [3,8] [] [2] [] [.hp 2 0 [] 4 0 0,B (c_5.Op==2)] [some ⟨0,4,[au c_5]⟩] 82 (by kernel_rfl) ?_
 refine sq h ?_ ?_<;>intro h
 ·refine cq 5 [9,11] [.hs 1 0 [] 1 0 (l_4.map str).length,str c_5.Name] 130 ?_
  obtain⟨r3,hr3,h⟩:=bS h
  refine oq 146 (.hs 130 0 [] 1 0 (r3.map str).length) rfl (bR rfl rfl (cn rfl rfl rfl (kV (ki rfl (f8 (path:=[]) rfl rfl aU rfl)) (aQ (bx rfl) cz)) (Nu hr3) (.inr rfl) (jj rfl rfl rfl ot dT) rfl rfl rfl)) ?_
  refine cq 2 [4] [.hs 130 0 [] 1 0 (r3.map str).length] 162 ?_
  obtain rfl:=sI h
  exact cu rfl ⟨_,fin (vs:=[.hs 130 0 [] 1 0 (r3.map str).length]) rfl (f9 (fZ rfl (dR rfl rfl)) eA) rfl (mj rfl (ro rfl) (cQ ft)),wn fj⟩
 ·refine aq 1 ?_
  refine cq 6 [5] [I (0)] 98 ?_
  obtain⟨y7,hy7,hy71,hy72⟩:=bJ h
  refine bP rfl ?_
  refine rg [0,3,5] [99,1,2] (PY cD l_4 c_5 rfl (0,l_4) _ hy7 (fun r' e st hq=>by rw[hy71 r' e] at hq;exact hq) fun u7 hu=>?_)
  replace h:=hy72 u7 hu
  refine cq 5 [4] [.hs 2 0 [] 1 0 (u7.map str).length] 35 ?_
  obtain rfl:=sI h
  exact cu rfl ⟨_,fin (vs:=[.hs 2 0 [] 1 0 (u7.map str).length]) rfl (f9 (fZ rfl (dR rfl rfl)) eA) rfl (mj rfl (ro rfl) (cQ ft)),wn fj⟩
theorem Wg {G:bT}[TabG Tryz.prog G]:bQ G 136 Du:=jL fun cD g_Ffeh=>gT 2 1 (aL Kz (aL g_Ffeh bu)) bW Tryz.func136 (fun a r h=>ZE cD a.1 a.2 r h)
def HA:Contract→List V:=oA aM
def HB (r:(List ac)):V×List V:=(.usl 1 (r.map str),[])
noncomputable def vU :=bb [false] HA HB fun x=>pB x
theorem Wu {c_1:Contract}{r}(h:pB c_1=some r):vU.F (HA c_1)=some (HB r):=aF (aG aP) h
noncomputable def Ww :=aD Tryz.f93
noncomputable def NB :=bV [(137,vR),(136,Du)]
def Wv (x:Contract)(r:(List ac)):St→Prop:=QF NB Tryz.f93 [false] (HA x) (HB r)
theorem P4 (c_1:Contract):cj NB 0 (Wv c_1) (cL (cL (cR (cL (cR (cR Ww)))))) 0 (oe c_1) (fun u=>(sT 29 [(3,.hs 1 0 [] 1 0 (u.map str).length)] [⟨0,1,u.map str⟩] 2)) fun x2=>(sT 29 [(1,.hp 1 0 [] 2 0 0),(3,.hs 2 0 [] 1 0 (x2.2.map str).length),(4,I x2.1)] [⟨0,2,[aa c_1]⟩,⟨0,1,x2.2.map str⟩] 3):=ee (A7 c_1) fun {Q K} hK self ih x2 y h hr hn=>by
 unfold l6 at h
 refine cq 6 [6,8] [I x2.1,.isl false (c_1.Clauses.map ap)] 51 ?_
 refine oq 67 (I (len c_1.Clauses)) rfl (bv rfl rfl rfl (bK rfl)) ?_
 refine cq 2 [10] [B (decide (x2.1<(len c_1.Clauses)))] 83 ?_
 refine sq h ?_ ?_<;>intro h
 ·refine aq 1 ?_
  refine aq 2 ?_
  refine dt [0,0,2,0,14,30,62,127,0,256,0,1792,3840,7936,16383,32767] rfl (by decide +kernel) ?_
  refine dk 1 [13] [.hs 2 0 [] 1 0 (x2.2.map str).length] ?_
  refine dq [1] [] (.hp 1 0 [] 2 0 1) rfl (al rfl rfl rfl) ?_
  refine dq [1] [] (.isl false (c_1.Clauses.map ap)) rfl (aK rfl rfl) ?_
  refine dk 1 [16] [I x2.1] ?_
  obtain⟨e3,he3,h⟩:=bS h
  refine dq [] [] (.iptr (ao e3) 0) rfl (aj rfl rfl rfl (aZ rfl rfl rfl rfl he3)) ?_
  refine dq [] [] (.iptr (ao e3) 3) rfl (al rfl rfl rfl) ?_
  refine dq [] [] (str e3.Action) rfl (aK rfl rfl) ?_
  obtain⟨r4,hr4,h⟩:=bS h
  refine dq [2] [2] (.hs 195 0 [] 1 0 (r4.map str).length) rfl (bR rfl rfl (cn rfl rfl rfl (kV (ki rfl (f8 (path:=[]) rfl rfl aU rfl)) (aQ (bx rfl) cz)) (Nu hr4) (.inr rfl) (jj rfl rfl rfl ot dT) rfl rfl rfl)) ?_ (cm rfl rfl rfl rfl (kV (ki rfl (f8 (path:=[]) rfl rfl aU rfl)) (aQ (bx rfl) cz)) (Nu hr4) (.inr rfl) rfl)
  refine dq [1] [] (.hp 1 0 [] 2 0 1) rfl (al rfl rfl rfl) ?_
  refine dq [1] [] (.isl false (c_1.Clauses.map ap)) rfl (aK rfl rfl) ?_
  refine dk 1 [23] [I x2.1] ?_
  obtain⟨e5,he5,h⟩:=bS h
  refine dq [] [] (.iptr (ao e5) 0) rfl (aj rfl rfl rfl (aZ rfl rfl rfl rfl he5)) ?_
  refine dq [] [] (.iptr (ao e5) 6) rfl (al rfl rfl rfl) ?_
  refine dq [] [] (au e5.When) rfl (aK rfl rfl) ?_
  obtain⟨r6,hr6,h⟩:=bS h
  refine dq [195] [195] (.hs 307 0 [] 1 0 (r6.map str).length) rfl (bR rfl rfl (cn rfl rfl rfl (kV (ki rfl (f8 (path:=[]) rfl rfl aU rfl)) (aQ (bx rfl) cz)) (Wc hr6) (.inr rfl) (jj rfl rfl rfl ot dT) rfl rfl rfl)) ?_ (cm rfl rfl rfl rfl (kV (ki rfl (f8 (path:=[]) rfl rfl aU rfl)) (aQ (bx rfl) cz)) (Wc hr6) (.inr rfl) rfl)
  refine dk 1 [3] [.hs 307 0 [] 1 0 (r6.map str).length] ?_
  refine de 339 rfl rfl ?_
  refine cq 6 [4] [I (ai (x2.1+1))] 387 ?_
  refine dh ?_
  exact rf [1,3,4] [1,307] (ih _ _ h hr hn :)
 ·refine aq 1 ?_
  exact rf [3] [2] (hn _ (ak h) :) (hk:=hK)
theorem ZN (c_1:Contract)(r:(List ac))(h:pB c_1=some r):bq NB Tryz.f93 [false] 0 (HA c_1) (HB r):=by
 show Run _ _ (Wv c_1 r) [.code Ww] _
 refine rI 29 [(0,aa c_1)] [] 1 ?_
 unfold pB at h
 refine ck 7 [1] [] [1] [] [.hp 1 0 [] 2 0 0] [some ⟨0,2,[aa c_1]⟩] 33 (by kernel_rfl) ?_
 refine oq 49 (.hs 33 0 [] 1 0 0) rfl (eD rfl (kG (f:=I) (xs:=[]) (z:=str ([])) (es:=[]) (ws:=[]) rfl rfl rfl (by decide) rfl (dM rfl) rfl)) ?_
 refine cq 8 [3,4] [.hs 33 0 [] 1 0 0,I (0)] 81 ?_
 obtain⟨y7,hy7,hy71,hy72⟩:=bJ h
 refine bP rfl ?_
 refine rf [1,3,4] [1,33] (P4 c_1 rfl (0,[]) _ hy7 (fun r' e st hq=>by rw[hy71 r' e] at hq;exact hq) fun u7 hu=>?_)
 replace h:=hy72 u7 hu
 refine cq 5 [2] [.hs 1 0 [] 1 0 (u7.map str).length] 34 ?_
 obtain rfl:=sI h
 exact cu rfl ⟨_,fin (vs:=[.hs 1 0 [] 1 0 (u7.map str).length]) rfl (f9 (fZ rfl (dR rfl rfl)) eA) rfl (cQ ft),fj⟩
theorem KB {G:bT}[TabG Tryz.prog G]:bQ G 93 vU:=gT 1 0 (aL Kz (aL Wg bu)) bW Tryz.func93 (fun a r h=>ZN a r h)
def Hw:Contract→List V:=oA aM
def Hx (r:Bool):V×List V:=(B r,[])
noncomputable def DC :=bb [false] Hw Hx fun x=>DB x
theorem afN {c_1:Contract}{r}(h:DB c_1=some r):DC.F (Hw c_1)=some (Hx r):=aF (aG aP) h
noncomputable def Hy :=aD Tryz.f43
noncomputable abbrev zq :=cL (cL (cR (cL (cR (cR Hy)))))
noncomputable def yd :=bV [(89,fN),(91,vT),(92,Dy),(93,vU),(90,DD)]
def uR (x:Contract)(r:Bool):St→Prop:=QF yd Tryz.f43 [false] (Hw x) (Hx r)
theorem P3 (c_1:Contract):cj yd 0 (uR c_1) zq 0 (mC c_1) (fun u=>(sT 41 [(1,.hp 1 0 [] 2 0 0)] [⟨0,2,[aa c_1]⟩] 2)) fun x4=>(sT 41 [(1,.hp 1 0 [] 2 0 0),(3,I x4)] [⟨0,2,[aa c_1]⟩] 2):=ee (A6 c_1) fun {Q K} hK self ih x4 y h hr hn=>by
 unfold l5 at h
 refine cq 6 [14,16] [I x4,.isl false (c_1.Clauses.map ap)] 50 ?_
 refine oq 66 (I (len c_1.Clauses)) rfl (bv rfl rfl rfl (bK rfl)) ?_
 refine cq 2 [18] [B (decide (x4<(len c_1.Clauses)))] 82 ?_
 refine sq h ?_ ?_<;>intro h
 ·refine aq 1 ?_
  refine aq 3 ?_
  refine dt [0,0,2,0,14,30,62,127,0,511,1023,2047,2047,8191,16383,32767] rfl (by decide +kernel) ?_
  refine dq [1] [] (aa c_1) rfl (aK rfl rfl) ?_
  refine dq [1] [] (.hp 1 0 [] 2 0 1) rfl (al rfl rfl rfl) ?_
  refine dq [1] [] (.isl false (c_1.Clauses.map ap)) rfl (aK rfl rfl) ?_
  refine dk 1 [24] [I x4] ?_
  obtain⟨e5,he5,h⟩:=bS h
  refine dq [] [] (.iptr (ao e5) 0) rfl (aj rfl rfl rfl (aZ rfl rfl rfl rfl he5)) ?_
  refine dq [] [] (.iptr (ao e5) 0) rfl (al rfl rfl rfl) ?_
  refine dq [] [] (str e5.Id) rfl (aK rfl rfl) ?_
  obtain⟨r6,hr6,h⟩:=bS h
  refine dq [] [] (I r6) rfl (cP (NA hr6)) ?_ (cm rfl rfl rfl rfl (aQ (bx rfl) (aQ (bx rfl) cz)) (NA hr6) (.inr rfl) rfl)
  refine dk 3 [31,30,29] [B (r6 != x4),B (r6 != x4),I x4] ?_
  obtain⟨y7,hy7,hy71,hy72⟩:=bL h
  have j7:∀u7,y7=.inr u7→Run yd 0 Q (.code (cR (cL (cL (cR zq))))::.blk 1::.code (cR (cR zq))::.lp zq::.blk 0::K) (sT 41 [(1,.hp 1 0 [] 2 0 0),(3,I x4),(36,B u7)] [⟨0,2,[aa c_1]⟩] 2):=by
   intro u7 hu
   replace h:=hy72 u7 hu
   refine sq h ?_ ?_<;>intro h
   ·refine cq 4 [2] [B false] 18 ?_
    exact cu rfl (hr _ (ak h) _ (qp [B false]))
   ·refine aq 1 ?_
    refine cq 6 [3] [I (ai (x4+1))] 50 ?_
    refine dh ?_
    exact rf [1,3] [1] (ih _ _ h hr hn :)
  have r7:∀r',y7=.inl r'→∀st,uR c_1 r' st→Q st:=fun r' e st hq=>hr r' (hy71 r' e) st hq
  replace h:=hy7
  refine sp 31 h rfl ?_ ?_<;>intro h
  ·refine dk 5 [36,35,34,33,32] [B true,.und,.und,.und,.und] ?_
   refine de 338 rfl rfl ?_
   exact rf [1,3,36] [1] (j7 _ (ak h) :)
  ·refine dy [1] [] (aa c_1) rfl (aK rfl rfl) ?_
   refine dk 1 [33] [I x4] ?_
   obtain⟨r8,hr8,h⟩:=bS h
   refine dy [] [] (B r8) rfl (cP (Wm hr8)) ?_ (cm rfl rfl rfl rfl (aQ (bx rfl) (aQ (bx rfl) cz)) (Wm hr8) (.inr rfl) rfl)
   refine dk 2 [36,35] [B (!r8),B (!r8)] ?_
   refine de 338 rfl rfl ?_
   exact rf [1,3,36] [1] (j7 _ (ak h) :)
 ·refine aq 1 ?_
  exact rf [1] [1] (hn _ (ak h) :) (hk:=hK)
theorem ZM (c_1:Contract)(r:Bool)(h:DB c_1=some r):bq yd Tryz.f43 [false] 0 (Hw c_1) (Hx r):=by
 show Run _ _ (uR c_1 r) [.code Hy] _
 refine rI 41 [(0,aa c_1)] [] 1 ?_
 unfold DB at h
 refine ck 10 [1,5] [] [1] [] [.hp 1 0 [] 2 0 0,.isl false (c_1.Clauses.map ap)] [some ⟨0,2,[aa c_1]⟩] 65 (by kernel_rfl) ?_
 refine oq 81 (I (len c_1.Clauses)) rfl (bv rfl rfl rfl (bK rfl)) ?_
 obtain⟨r2,hr2,h⟩:=bS h
 refine oq 97 (B r2) rfl (cP (ez hr2)) ?_
 refine cq 2 [9] [B (!r2)] 129 ?_
 obtain⟨y3,hy3,hy31,hy32⟩:=bJ h
 have j3:∀u3,y3=.inr u3→Run yd 0 (uR c_1 r) (.code (cR (cL (cR Hy)))::.code (cR (cR Hy))::[]) (sT 41 [(1,.hp 1 0 [] 2 0 0),(13,B u3)] [⟨0,2,[aa c_1]⟩] 2):=by
  intro u3 hu
  replace h:=hy32 u3 hu
  refine sq h ?_ ?_<;>intro h
  ·refine cq 4 [2] [B false] 18 ?_
   obtain rfl:=sI h
   exact rP [B false]
  ·refine aq 1 ?_
   refine cq 6 [3] [I (0)] 18 ?_
   obtain⟨y9,hy9,hy91,hy92⟩:=bJ h
   refine bP rfl ?_
   refine rf [1,3] [1] (P3 c_1 rfl 0 _ hy9 (fun r' e st hq=>by rw[hy91 r' e] at hq;exact hq) fun u9 hu=>?_)
   replace h:=hy92 u9 hu
   refine cq 3 [37] [aa c_1] 18 ?_
   obtain⟨r10,hr10,h⟩:=bS h
   refine oq 34 (.hs 18 0 [] 1 0 (r10.map str).length) rfl (cP (Wu hr10)) ?_
   refine oq 50 (I (len r10)) rfl (bv rfl rfl rfl (ri (f:=str) (xs:=r10) rfl rfl)) ?_
   refine cq 3 [2] [B (decide ((len r10)≤16))] 82 ?_
   obtain rfl:=sI h
   exact rP [B (decide ((len r10)≤16))]
 have r3:∀r',y3=.inl r'→∀st,uR c_1 r' st→(uR c_1 r) st:=fun r' e st hq=>by rw[hy31 r' e] at hq;exact hq
 replace h:=hy3
 refine sp 9 h rfl ?_ ?_<;>intro h
 ·refine cq 5 [13] [B true] 193 ?_
  exact rf [1,13] [1] (j3 _ (ak h) :)
 ·refine cq 1 [10] [aa c_1] 145 ?_
  obtain⟨r11,hr11,h⟩:=bS h
  refine oy 161 (B r11) rfl (cP (afO hr11)) ?_
  refine cq 3 [13] [B (!r11)] 193 ?_
  exact rf [1,13] [1] (j3 _ (ak h) :)
theorem Wt {G:bT}[TabG Tryz.prog G]:bQ G 43 DC:=gT 1 0 (aL gk (aL KA (aL Wn (aL KB (aL Wx bu))))) bW Tryz.func43 (fun a r h=>ZM a r h)
def G7:(List ac)→List V:=oA (fM str)
def G9 (r:Bool):V×List V:=(B r,[])
noncomputable def Dn :=bb [false] G7 G9 fun x=>Dm x
theorem afG {an:List ac}{r}(h:Dm an=some r):Dn.F (G7 an)=some (G9 r):=aF (aG (b7 b8)) h
noncomputable def V2 :=aD Tryz.f122
noncomputable abbrev lm :=cL (cL (cR (cL (cR V2))))
noncomputable def uE :=bV [(80,pA)]
def G8 (x:(List ac))(r:Bool):St→Prop:=QF uE Tryz.f122 [false] (G7 x) (G9 r)
theorem PU (an:List ac):cj uE 0 (G8 an) lm 0 (jl an) (fun u=>(sT 39 [(0,.isl false (an.map str))] [] 1)) fun x2=>(sT 39 [(0,.isl false (an.map str)),(3,I x2)] [] 1):=ee (AQ an) fun {Q K} hK self ih x2 y h hr hn=>by
 unfold kx at h
 refine cq 5 [4,5] [I x2,.isl false (an.map str)] 33 ?_
 refine oq 49 (I (len an)) rfl (bv rfl rfl rfl (bK rfl)) ?_
 refine cq 2 [8] [B (decide (x2<(len an)))] 81 ?_
 obtain⟨u3,hu3,h⟩:=lJ h
 have j3:Run uE 0 Q (.code (cR (cL lm))::.code (cR lm)::.lp lm::.blk 0::K) (sT 39 [(0,.isl false (an.map str)),(3,I x2),(11,B u3)] [] 1):=by
  refine sq h ?_ ?_<;>intro h
  ·refine aq 1 ?_
   refine aq 3 ?_
   refine dt [0,0,3,7,15,31,63,127,255,511,1023,1023,3071,8191,16383,1023,1023,99327,230399,524287,1048575,2097151] rfl (by decide +kernel) ?_
   refine dk 2 [15,14] [I x2,.isl false (an.map str)] ?_
   obtain⟨e4,he4,h⟩:=bS h
   refine dq [] [] (.iptr (str e4) 0) rfl (aj rfl rfl rfl (aZ rfl rfl rfl rfl he4)) ?_
   refine dq [] [] (str e4) rfl (aK rfl rfl) ?_
   obtain⟨r5,hr5,h⟩:=bS h
   refine dq [] [] (B r5) rfl (cP (sd hr5)) ?_ (cm rfl rfl rfl rfl (aQ (bx rfl) cz) (sd hr5) (.inr rfl) rfl)
   refine dk 2 [20,19] [B (!r5),B (!r5)] ?_
   obtain⟨y6,hy6,hy61,hy62⟩:=bL h
   have j6:∀u6,y6=.inr u6→Run uE 0 Q (.code (cR (cL (cL (cR lm))))::.blk 1::.code (cR (cR lm))::.lp lm::.blk 0::K) (sT 39 [(0,.isl false (an.map str)),(3,I x2),(35,B u6)] [] 1):=by
    intro u6 hu
    replace h:=hy62 u6 hu
    refine sq h ?_ ?_<;>intro h
    ·refine cq 4 [2] [B false] 17 ?_
     exact cu rfl (hr _ (ak h) _ (qp [B false]))
    ·refine aq 1 ?_
     refine cq 6 [3] [I (ai (x2+1))] 49 ?_
     refine dh ?_
     exact rf [0,3] [] (ih _ _ h hr hn :)
   have r6:∀r',y6=.inl r'→∀st,G8 an r' st→Q st:=fun r' e st hq=>hr r' (hy61 r' e) st hq
   replace h:=hy6
   refine sp 20 h rfl ?_ ?_<;>intro h
   ·refine dk 15 [35,34,33,32,31,30,29,28,27,26,25,24,23,22,21] [B true,.und,.und,.und,.und,.und,.und,.und,.und,.und,.und,.und,.und,.und,.und] ?_
    refine de 353 rfl rfl ?_
    exact rf [0,3,35] [] (j6 _ (ak h) :)
   ·refine dk 3 [23,22,21] [B (decide (x2>0)),B (decide (x2>0)),I x2] ?_
    obtain⟨y7,hy7,hy71,hy72⟩:=bL h
    have j7:∀u7,y7=.inr u7→Run uE 0 Q (.code (cR (cL (cL (cR lm))))::.blk 1::.code (cR (cR lm))::.lp lm::.blk 0::K) (sT 39 [(0,.isl false (an.map str)),(3,I x2),(35,B u7)] [] 1):=by
     intro u7 hu
     replace h:=hy72 u7 hu
     exact rf [0,3,35] [] (j6 _ (ak h) :)
    have r7:∀r',y7=.inl r'→∀st,G8 an r' st→Q st:=fun r' e st hq=>r6 r' (hy71 r' e) st hq
    replace h:=hy7
    refine sp 23 h rfl ?_ ?_<;>intro h
    ·refine dk 3 [26,25,24] [I (ai (x2 - 1)),I x2,.isl false (an.map str)] ?_
     obtain⟨e8,he8,h⟩:=bS h
     refine dy [] [] (.iptr (str e8) 0) rfl (aj rfl rfl rfl (aZ rfl rfl rfl rfl he8)) ?_
     refine dy [] [] (str e8) rfl (aK rfl rfl) ?_
     refine dk 2 [30,29] [I x2,.isl false (an.map str)] ?_
     obtain⟨e9,he9,h⟩:=bS h
     refine dy [] [] (.iptr (str e9) 0) rfl (aj rfl rfl rfl (aZ rfl rfl rfl rfl he9)) ?_
     refine dy [] [] (str e9) rfl (aK rfl rfl) ?_
     refine dk 3 [35,34,33] [B (!(Op.bytesLess e8 e9)),B (!(Op.bytesLess e8 e9)),B (!(Op.bytesLess e8 e9))] ?_
     refine de 353 rfl rfl ?_
     exact rf [0,3,35] [] (j7 _ (ak h) :)
    ·refine dk 12 [35,34,33,32,31,30,29,28,27,26,25,24] [B false,B false,.und,.und,.und,.und,.und,.und,.und,.und,.und,.und] ?_
     refine de 353 rfl rfl ?_
     exact rf [0,3,35] [] (j7 _ (ak h) :)
  ·refine aq 1 ?_
   exact rf [0] [] (hn _ (ak h) :) (hk:=hK)
 replace h:=hu3
 clear hu3
 refine sp 8 h rfl ?_ ?_<;>intro h
 ·refine cq 4 [11] [B (decide (x2≤16))] 129 ?_
  subst h
  exact rf [0,3,11] [] (j3 :)
 ·refine cq 4 [11] [B false] 129 ?_
  subst h
  exact rf [0,3,11] [] (j3 :)
theorem Zw (an:List ac)(r:Bool)(h:Dm an=some r):bq uE Tryz.f122 [false] 0 (G7 an) (G9 r):=by
 show Run _ _ (G8 an r) [.code V2] _
 refine rI 39 [(0,.isl false (an.map str))] [] 1 ?_
 unfold Dm at h
 refine cq 10 [3] [I (0)] 33 ?_
 obtain⟨y10,hy10,hy101,hy102⟩:=bJ h
 refine bP rfl ?_
 refine rf [0,3] [] (PU an rfl 0 _ hy10 (fun r' e st hq=>by rw[hy101 r' e] at hq;exact hq) fun u10 hu=>?_)
 replace h:=hy102 u10 hu
 refine cq 3 [36] [.isl false (an.map str)] 17 ?_
 refine oq 33 (I (len an)) rfl (bv rfl rfl rfl (bK rfl)) ?_
 refine cq 3 [2] [B (decide ((len an)≤16))] 65 ?_
 obtain rfl:=sI h
 exact rP [B (decide ((len an)≤16))]
theorem V3 {G:bT}[TabG Tryz.prog G]:bQ G 122 Dn:=gT 1 0 (aL sQ bu) bW Tryz.func122 (fun a r h=>Zw a r h)
def Hs:(Contract×Int)→List V:=cA aM (oA I)
def Ht (r:Bool):V×List V:=(B r,[])
noncomputable def DA :=bb [false,false] Hs Ht fun x=>Dz x.1 x.2
theorem afM {c_1:Contract}{i_2:Int}{r}(h:Dz c_1 i_2=some r):DA.F (Hs (c_1,i_2))=some (Ht r):=aF (aJ aP (aG bi)) h
noncomputable def Wp :=aD Tryz.f156
noncomputable def Ny :=bV []
def Wo (x:Contract×Int)(r:Bool):St→Prop:=QF Ny Tryz.f156 [false,false] (Hs x) (Ht r)
theorem P1 (c_1:Contract)(i_2:Int):cj Ny 0 (Wo (c_1,i_2)) (cL (cL (cR (cL (cR Wp))))) 0 (uO c_1 i_2) (fun u=>(sT 26 [] [] 1)) fun x3=>(sT 26 [(1,I i_2),(2,.hp 1 0 [] 2 0 0),(5,I x3)] [⟨0,2,[aa c_1]⟩] 2):=ee (AZ c_1 i_2) fun {Q K} hK self ih x3 y h hr hn=>by
 unfold oc at h
 refine cq 6 [6,8] [I x3,.isl false (c_1.Clauses.map ap)] 50 ?_
 refine oq 66 (I (len c_1.Clauses)) rfl (bv rfl rfl rfl (bK rfl)) ?_
 refine cq 2 [10] [B (decide (x3<(len c_1.Clauses)))] 82 ?_
 refine sq h ?_ ?_<;>intro h
 ·refine aq 1 ?_
  refine aq 3 ?_
  refine dt [0,1,0,7,15,31,0,64,0,448,960,1984,4095] rfl (by decide +kernel) ?_
  refine dq [1] [] (.hp 1 0 [] 2 0 1) rfl (al rfl rfl rfl) ?_
  refine dq [1] [] (.isl false (c_1.Clauses.map ap)) rfl (aK rfl rfl) ?_
  refine dk 1 [15] [I x3] ?_
  obtain⟨e4,he4,h⟩:=bS h
  refine dq [] [] (.iptr (ao e4) 0) rfl (aj rfl rfl rfl (aZ rfl rfl rfl rfl he4)) ?_
  refine dq [] [] (.iptr (ao e4) 11) rfl (al rfl rfl rfl) ?_
  refine dq [] [] (str e4.Repair) rfl (aK rfl rfl) ?_
  refine dq [1] [] (.hp 1 0 [] 2 0 1) rfl (al rfl rfl rfl) ?_
  refine dq [1] [] (.isl false (c_1.Clauses.map ap)) rfl (aK rfl rfl) ?_
  refine dk 1 [21] [I i_2] ?_
  obtain⟨e5,he5,h⟩:=bS h
  refine dq [] [] (.iptr (ao e5) 0) rfl (aj rfl rfl rfl (aZ rfl rfl rfl rfl he5)) ?_
  refine dq [] [] (.iptr (ao e5) 0) rfl (al rfl rfl rfl) ?_
  refine dq [] [] (str e5.Id) rfl (aK rfl rfl) ?_
  refine dk 1 [25] [B (e4.Repair==e5.Id)] ?_
  refine de 290 rfl rfl ?_
  refine sq h ?_ ?_<;>intro h
  ·refine cq 4 [4] [B true] 306 ?_
   exact cu rfl (hr _ (ak h) _ (qp [B true]))
  ·refine aq 1 ?_
   refine cq 6 [5] [I (ai (x3+1))] 338 ?_
   refine dh ?_
   exact rf [1,2,5] [1] (ih _ _ h hr hn :)
 ·refine aq 1 ?_
  exact rf [] [] (hn _ (ak h) :) (hk:=hK)
theorem ZK (c_1:Contract)(i_2:Int)(r:Bool)(h:Dz c_1 i_2=some r):bq Ny Tryz.f156 [false,false] 0 (Hs (c_1,i_2)) (Ht r):=by
 show Run _ _ (Wo (c_1,i_2) r) [.code Wp] _
 refine rI 26 [(0,aa c_1),(1,I i_2)] [] 1 ?_
 unfold Dz at h
 refine ck 11 [2,5] [] [1] [] [.hp 1 0 [] 2 0 0,I (0)] [some ⟨0,2,[aa c_1]⟩] 49 (by kernel_rfl) ?_
 obtain⟨y6,hy6,hy61,hy62⟩:=bJ h
 refine bP rfl ?_
 refine rf [1,2,5] [1] (P1 c_1 i_2 rfl 0 _ hy6 (fun r' e st hq=>by rw[hy61 r' e] at hq;exact hq) fun u6 hu=>?_)
 replace h:=hy62 u6 hu
 refine cq 4 [4] [B false] 17 ?_
 obtain rfl:=sI h
 exact rP [B false]
theorem Wq {G:bT}[TabG Tryz.prog G]:bQ G 156 DA:=gT 2 0 bu bW Tryz.func156 (fun a r h=>ZK a.1 a.2 r h)
def HH:(State×Int)→List V:=cA bA (oA I)
def HJ (r:Int):V×List V:=(I r,[])
noncomputable def DF :=bb [false,false] HH HJ fun x=>DE x.1 x.2
theorem afP {s_1:State}{i_2:Int}{r}(h:DE s_1 i_2=some r):DF.F (HH (s_1,i_2))=some (HJ r):=aF (aJ bN (aG bi)) h
noncomputable def Wz :=aD Tryz.f157
noncomputable abbrev JG :=cL (cL (cR (cL (cR (cR Wz)))))
noncomputable def HI :=bV []
def Wy (x:State×Int)(r:Int):St→Prop:=QF HI Tryz.f157 [false,false] (HH x) (HJ r)
theorem P6 (s_1:State)(i_2:Int):cj HI 0 (Wy (s_1,i_2)) JG 0 (mD s_1 i_2) (fun u=>(sT 25 [(5,I u)] [] 1)) fun x3=>(sT 25 [(1,I i_2),(2,.hp 1 0 [] 5 0 0),(5,I x3.1),(6,I x3.2)] [⟨0,5,[ae s_1]⟩] 2):=ee (A9 s_1 i_2) fun {Q K} hK self ih x3 y h hr hn=>by
 unfold l8 at h
 refine cq 6 [7,9] [I x3.2,.isl false (s_1.Duties.map ah)] 50 ?_
 refine oq 66 (I (len s_1.Duties)) rfl (bv rfl rfl rfl (bK rfl)) ?_
 refine cq 2 [11] [B (decide (x3.2<(len s_1.Duties)))] 82 ?_
 refine sq h ?_ ?_<;>intro h
 ·refine aq 1 ?_
  refine cq 7 [15,16] [.isl false (s_1.Duties.map ah),I x3.2] 130 ?_
  obtain⟨e4,he4,h⟩:=bS h
  refine oq 146 (.iptr (ah e4) 0) rfl (aj rfl rfl rfl (aZ rfl rfl rfl rfl he4)) ?_
  refine cq 5 [21] [B (e4.Clause==i_2)] 210 ?_
  obtain⟨u5,hu5,h⟩:=lJ h
  have j5:Run HI 0 Q (.blk 1::.code (cR (cR JG))::.lp JG::.blk 0::K) (sT 25 [(1,I i_2),(2,.hp 1 0 [] 5 0 0),(5,I u5),(6,I x3.2)] [⟨0,5,[ae s_1]⟩] 2):=by
   refine cq 6 [6] [I (ai (x3.2+1))] 50 ?_
   refine dh ?_
   exact rf [1,2,5,6] [1] (ih _ _ h hr hn :)
  replace h:=hu5
  clear hu5
  refine qS h rfl rfl ?_ ?_<;>intro h
  ·refine cq 5 [5] [I (ai (x3.1+1))] 258 ?_
   subst h
   exact rf [1,2,5,6] [1] (j5 :)
  ·refine aq 1 ?_
   subst h
   exact rf [1,2,5,6] [1] (j5 :)
 ·refine aq 1 ?_
  exact rf [5] [] (hn _ (ak h) :) (hk:=hK)
theorem ZP (s_1:State)(i_2:Int)(r:Int)(h:DE s_1 i_2=some r):bq HI Tryz.f157 [false,false] 0 (HH (s_1,i_2)) (HJ r):=by
 show Run _ _ (Wy (s_1,i_2) r) [.code Wz] _
 refine rI 25 [(0,ae s_1),(1,I i_2)] [] 1 ?_
 unfold DE at h
 refine ck 15 [2,5,6] [] [1] [] [.hp 1 0 [] 5 0 0,I (0),I (0)] [some ⟨0,5,[ae s_1]⟩] 65 (by kernel_rfl) ?_
 obtain⟨y6,hy6,hy61,hy62⟩:=bJ h
 refine bP rfl ?_
 refine rf [1,2,5,6] [1] (P6 s_1 i_2 rfl (0,0) _ hy6 (fun r' e st hq=>by rw[hy61 r' e] at hq;exact hq) fun u6 hu=>?_)
 replace h:=hy62 u6 hu
 refine cq 5 [4] [I u6] 33 ?_
 obtain rfl:=sI h
 exact rP [I u6]
theorem WA {G:bT}[TabG Tryz.prog G]:bQ G 157 DF:=gT 2 0 bu bW Tryz.func157 (fun a r h=>ZP a.1 a.2 r h)
def HL:(Contract×State×Int)→List V:=cA aM (cA bA (oA I))
def HM (r:Bool):V×List V:=(B r,[])
noncomputable def DH :=bb [false,false,false] HL HM fun x=>DG x.1 x.2.1 x.2.2
theorem afQ {c_1:Contract}{s_2:State}{k_3:Int}{r}(h:DG c_1 s_2 k_3=some r):DH.F (HL (c_1,s_2,k_3))=some (HM r):=aF (aJ aP (aJ bN (aG bi))) h
noncomputable def ND :=aD Tryz.f124
noncomputable abbrev pC :=cR (cR (cR ND))
noncomputable abbrev uT :=cR (cL (cR (cR ND)))
noncomputable abbrev eL :=cR pC
noncomputable abbrev eO :=cR (cL pC)
noncomputable def eu :=bV [(89,fN),(156,DA),(157,DF),(76,rZ)]
def di (x:Contract×State×Int)(r:Bool):St→Prop:=QF eu Tryz.f124 [false,false,false] (HL x) (HM r)
theorem ZQ (c_1:Contract)(s_2:State)(k_3:Int)(r:Bool)(h:DG c_1 s_2 k_3=some r):bq eu Tryz.f124 [false,false,false] 0 (HL (c_1,s_2,k_3)) (HM r):=by
 show Run _ _ (di (c_1,s_2,k_3) r) [.code ND] _
 refine rI 129 [(0,aa c_1),(1,ae s_2),(2,I k_3)] [] 1 ?_
 unfold DG at h
 refine ck 11 [3,4,9,10] [] [1,17] [] [.hp 1 0 [] 2 0 0,.hp 17 0 [] 5 0 0,.isl false (s_2.Duties.map ah),I k_3] [some ⟨0,2,[aa c_1]⟩,some ⟨0,5,[ae s_2]⟩] 97 (by kernel_rfl) ?_
 obtain⟨e4,he4,h⟩:=bS h
 refine oq 113 (.iptr (ah e4) 0) rfl (aj rfl rfl rfl (aZ rfl rfl rfl rfl he4)) ?_
 refine ck 6 [7] [] [129] [] [.hp 129 0 [] 4 0 0] [some ⟨0,4,[ah e4]⟩] 161 (by kernel_rfl) ?_
 refine dt [0,1,0,4,12,28,63,127,255,511,1023,511,2559,8191,16383,32767,65535,131071,262143,524287,1048575,524287,2621439,8388607,16777215,33554431,67108863,134217727,268435455,134217727,671088639,134217727,2281701375,134217727,8724152319,32346472447,66706210815,135425687551,274475253759,549755813887,1099511627775,2199023255551,4398046511103,8796093022207,17592186044415,35184372088831,70368744177663,140737488355327,281474976710655,562949953421311,1125899906842623,2251799813685247,4503599627370495] rfl (by decide +kernel) ?_
 refine dq [129] [] (.hp 129 0 [] 4 0 0) rfl (al rfl rfl rfl) ?_
 refine dq [129] [] (I e4.Clause) rfl (aK rfl rfl) ?_
 refine dq [1] [] (.hp 1 0 [] 2 0 1) rfl (al rfl rfl rfl) ?_
 refine dq [1] [] (.isl false (c_1.Clauses.map ap)) rfl (aK rfl rfl) ?_
 refine dq [] [] (I (len c_1.Clauses)) rfl (bv rfl rfl rfl (bK rfl)) ?_
 refine dk 1 [18] [I (ai ((len c_1.Clauses) - 1))] ?_
 obtain⟨r5,hr5,h⟩:=bS h
 refine dq [] [] (B r5) rfl (cP (ez hr5)) ?_ (cm rfl rfl rfl rfl (aQ (bx rfl) (aQ (bx rfl) (aQ (bx rfl) cz))) (ez hr5) (.inr rfl) rfl)
 refine dk 2 [21,20] [B (!r5),B (!r5)] ?_
 obtain⟨y6,hy6,hy61,hy62⟩:=bJ h
 have j6:∀u6,y6=.inr u6→Run eu 0 (di (c_1,s_2,k_3) r) (.code uT::.code pC::[]) (sT 129 [(2,I k_3),(3,.hp 1 0 [] 2 0 0),(4,.hp 2 0 [] 5 0 0),(7,.hp 3 0 [] 4 0 0),(65,B u6)] [⟨0,2,[aa c_1]⟩,⟨0,5,[ae s_2]⟩,⟨0,4,[ah e4]⟩] 4):=by
  intro u6 hu
  replace h:=hy62 u6 hu
  refine sq h ?_ ?_<;>intro h
  ·refine cq 4 [6] [B false] 20 ?_
   obtain rfl:=sI h
   exact rP [B false]
  ·refine aq 1 ?_
   refine aq 2 ?_
   refine dt [0,1,3,7,15,7,39,127,255,511,7,1031,4095,8191,16383,32767,65535,131071,262143,524287,1048575,524287,2621439,8388607,16777215,33554431,67108863,134217727,268435455,536870911,1073741823,2147483647,4294967295,8589934591,17179869183,34359738367,68719476735,34359738367,171798691839,549755813887,1099511627775,2199023255551,4398046511103,8796093022207,17592186044415,35184372088831,70368744177663,140737488355327,281474976710655,562949953421311,1125899906842623,2251799813685247] rfl (by decide +kernel) ?_
   refine dk 3 [68,67,66] [B (decide (k_3>0)),B (decide (k_3>0)),I k_3] ?_
   obtain⟨y7,hy7,hy71,hy72⟩:=bJ h
   have j7:∀u7,y7=.inr u7→Run eu 0 (di (c_1,s_2,k_3) r) (.code eO::.code eL::[]) (sT 129 [(3,.hp 1 0 [] 2 0 0),(4,.hp 2 0 [] 5 0 0),(7,.hp 3 0 [] 4 0 0),(117,B u7)] [⟨0,2,[aa c_1]⟩,⟨0,5,[ae s_2]⟩,⟨0,4,[ah e4]⟩] 4):=by
    intro u7 hu
    replace h:=hy72 u7 hu
    refine sq h ?_ ?_<;>intro h
    ·refine cq 4 [6] [B false] 20 ?_
     obtain rfl:=sI h
     exact rP [B false]
    ·refine aq 1 ?_
     refine cq 5 [118,120] [aa c_1,I e4.Clause] 52 ?_
     obtain⟨r8,hr8,h⟩:=bS h
     refine oq 68 (B r8) rfl (cP (afM hr8)) ?_
     refine cq 1 [122] [B r8] 84 ?_
     obtain⟨y9,hy9,hy91,hy92⟩:=bJ h
     have j9:∀u9,y9=.inr u9→Run eu 0 (di (c_1,s_2,k_3) r) (.code (cR eL)::[]) (sT 129 [(6,B u9)] [] 1):=by
      intro u9 hu
      replace h:=hy92 u9 hu
      obtain rfl:=sI h
      exact rP [B u9]
     have r9:∀r',y9=.inl r'→∀st,di (c_1,s_2,k_3) r' st→(di (c_1,s_2,k_3) r) st:=fun r' e st hq=>by rw[hy91 r' e] at hq;exact hq
     replace h:=hy9
     refine sp 122 h rfl ?_ ?_<;>intro h
     ·refine cq 8 [6] [B true] 196 ?_
      exact rf [6] [] (j9 _ (ak h) :)
     ·refine cq 3 [123,125] [ae s_2,I e4.Clause] 132 ?_
      obtain⟨r10,hr10,h⟩:=bS h
      refine oy 148 (I r10) rfl (cP (afP hr10)) ?_
      refine cq 4 [6] [B (r10==1)] 196 ?_
      exact rf [6] [] (j9 _ (ak h) :)
   have r7:∀r',y7=.inl r'→∀st,di (c_1,s_2,k_3) r' st→(di (c_1,s_2,k_3) r) st:=fun r' e st hq=>by rw[hy71 r' e] at hq;exact hq
   replace h:=hy7
   refine sp 68 h rfl ?_ ?_<;>intro h
   ·refine dy [2] [] (.hp 2 0 [] 5 0 2) rfl (al rfl rfl rfl) ?_
    refine dy [2] [] (.isl false (s_2.Duties.map ah)) rfl (aK rfl rfl) ?_
    refine dk 2 [72,71] [I (ai (k_3 - 1)),I k_3] ?_
    obtain⟨e11,he11,h⟩:=bS h
    refine dy [] [] (.iptr (ah e11) 0) rfl (aj rfl rfl rfl (aZ rfl rfl rfl rfl he11)) ?_
    refine dy [] [] (.iptr (ah e11) 1) rfl (al rfl rfl rfl) ?_
    refine dy [] [] (I e11.Since) rfl (aK rfl rfl) ?_
    refine dy [3] [] (.hp 3 0 [] 4 0 1) rfl (al rfl rfl rfl) ?_
    refine dy [3] [] (I e4.Since) rfl (aK rfl rfl) ?_
    refine dk 3 [80,79,78] [B (decide (e11.Since>e4.Since)),B (decide (e11.Since>e4.Since)),B (decide (e11.Since>e4.Since))] ?_
    obtain⟨u12,hu12,h⟩:=lJ h
    have j12:Run eu 0 (di (c_1,s_2,k_3) r) (.code eO::.code eL::[]) (sT 129 [(3,.hp 1 0 [] 2 0 0),(4,.hp 2 0 [] 5 0 0),(7,.hp 3 0 [] 4 0 0),(117,B u12)] [⟨0,2,[aa c_1]⟩,⟨0,5,[ae s_2]⟩,⟨0,4,[ah e4]⟩] 4):=by
     exact rf [3,4,7,117] [1,2,3] (j7 _ (ak h) :)
    replace h:=hu12
    clear hu12
    refine sp 80 h rfl ?_ ?_<;>intro h
    ·refine dk 37 [117,116,115,114,113,112,111,110,109,108,107,106,105,104,103,102,101,100,99,98,97,96,95,94,93,92,91,90,89,88,87,86,85,84,83,82,81] [B true,.und,.und,.und,.und,.und,.und,.und,.und,B true,B true,.und,.und,.und,.und,.und,.und,.und,.und,.und,.und,B true,B true,.und,.und,.und,.und,.und,.und,.und,.und,.und,.und,.und,.und,.und,.und] ?_
     refine de 836 rfl rfl ?_
     subst h
     exact rf [3,4,7,117] [1,2,3] (j12 :)
    ·refine dy [3] [] (.hp 3 0 [] 4 0 3) rfl (al rfl rfl rfl) ?_
     refine dy [3] [] (I e4.Status) rfl (aK rfl rfl) ?_
     refine dk 2 [84,83] [B (e4.Status==1),B (e4.Status==1)] ?_
     obtain⟨u13,hu13,h⟩:=lJ h
     have j13:Run eu 0 (di (c_1,s_2,k_3) r) (.code eO::.code eL::[]) (sT 129 [(3,.hp 1 0 [] 2 0 0),(4,.hp 2 0 [] 5 0 0),(7,.hp 3 0 [] 4 0 0),(117,B u13)] [⟨0,2,[aa c_1]⟩,⟨0,5,[ae s_2]⟩,⟨0,4,[ah e4]⟩] 4):=by
      subst h
      exact rf [3,4,7,117] [1,2,3] (j12 :)
     replace h:=hu13
     clear hu13
     refine sp 84 h rfl ?_ ?_<;>intro h
     ·refine dy [3] [] (.hp 3 0 [] 4 0 2) rfl (al rfl rfl rfl) ?_
      refine dy [3] [] (I e4.Due) rfl (aK rfl rfl) ?_
      refine dy [2] [] (.hp 2 0 [] 5 0 0) rfl (al rfl rfl rfl) ?_
      refine dy [2] [] (I s_2.Day) rfl (aK rfl rfl) ?_
      refine dk 2 [90,89] [B (decide (e4.Due<s_2.Day)),B (decide (e4.Due<s_2.Day))] ?_
      obtain⟨u14,hu14,h⟩:=lJ h
      have j14:Run eu 0 (di (c_1,s_2,k_3) r) (.code eO::.code eL::[]) (sT 129 [(3,.hp 1 0 [] 2 0 0),(4,.hp 2 0 [] 5 0 0),(7,.hp 3 0 [] 4 0 0),(117,B u14)] [⟨0,2,[aa c_1]⟩,⟨0,5,[ae s_2]⟩,⟨0,4,[ah e4]⟩] 4):=by
       subst h
       exact rf [3,4,7,117] [1,2,3] (j13 :)
      replace h:=hu14
      clear hu14
      refine sp 90 h rfl ?_ ?_<;>intro h
      ·refine dk 27 [117,116,115,114,113,112,111,110,109,108,107,106,105,104,103,102,101,100,99,98,97,96,95,94,93,92,91] [B true,.und,.und,.und,.und,.und,.und,.und,.und,B true,B true,.und,.und,.und,.und,.und,.und,.und,.und,.und,.und,B true,B true,B true,B true,.und,.und] ?_
       refine de 836 rfl rfl ?_
       subst h
       exact rf [3,4,7,117] [1,2,3] (j14 :)
      ·refine dy [2] [] (.hp 2 0 [] 5 0 4) rfl (al rfl rfl rfl) ?_
       refine dy [2] [] (B s_2.Over) rfl (aK rfl rfl) ?_
       refine dk 4 [96,95,94,93] [B s_2.Over,B s_2.Over,B s_2.Over,B s_2.Over] ?_
       obtain⟨u15,hu15,h⟩:=lJ h
       have j15:Run eu 0 (di (c_1,s_2,k_3) r) (.code eO::.code eL::[]) (sT 129 [(3,.hp 1 0 [] 2 0 0),(4,.hp 2 0 [] 5 0 0),(7,.hp 3 0 [] 4 0 0),(117,B u15)] [⟨0,2,[aa c_1]⟩,⟨0,5,[ae s_2]⟩,⟨0,4,[ah e4]⟩] 4):=by
        subst h
        exact rf [3,4,7,117] [1,2,3] (j14 :)
       replace h:=hu15
       clear hu15
       refine sp 96 h rfl ?_ ?_<;>intro h
       ·refine dk 21 [117,116,115,114,113,112,111,110,109,108,107,106,105,104,103,102,101,100,99,98,97] [B true,.und,.und,.und,.und,.und,.und,.und,.und,B true,B true,.und,.und,.und,.und,.und,.und,.und,.und,.und,.und] ?_
        refine de 836 rfl rfl ?_
        subst h
        exact rf [3,4,7,117] [1,2,3] (j15 :)
       ·refine dy [3] [] (.hp 3 0 [] 4 0 3) rfl (al rfl rfl rfl) ?_
        refine dy [3] [] (I e4.Status) rfl (aK rfl rfl) ?_
        refine dk 2 [100,99] [B (e4.Status==3),B (e4.Status==3)] ?_
        obtain⟨u16,hu16,h⟩:=lJ h
        have j16:Run eu 0 (di (c_1,s_2,k_3) r) (.code eO::.code eL::[]) (sT 129 [(3,.hp 1 0 [] 2 0 0),(4,.hp 2 0 [] 5 0 0),(7,.hp 3 0 [] 4 0 0),(117,B u16)] [⟨0,2,[aa c_1]⟩,⟨0,5,[ae s_2]⟩,⟨0,4,[ah e4]⟩] 4):=by
         subst h
         exact rf [3,4,7,117] [1,2,3] (j15 :)
        replace h:=hu16
        clear hu16
        refine sp 100 h rfl ?_ ?_<;>intro h
        ·refine dy [3] [] (.hp 3 0 [] 4 0 2) rfl (al rfl rfl rfl) ?_
         refine dy [3] [] (I e4.Due) rfl (aK rfl rfl) ?_
         refine dy [2] [] (.hp 2 0 [] 5 0 0) rfl (al rfl rfl rfl) ?_
         refine dy [2] [] (I s_2.Day) rfl (aK rfl rfl) ?_
         refine dk 4 [108,107,106,105] [B (decide (e4.Due≥s_2.Day)),B (decide (e4.Due≥s_2.Day)),B (decide (e4.Due≥s_2.Day)),B (decide (e4.Due≥s_2.Day))] ?_
         obtain⟨u17,hu17,h⟩:=lJ h
         have j17:Run eu 0 (di (c_1,s_2,k_3) r) (.code eO::.code eL::[]) (sT 129 [(3,.hp 1 0 [] 2 0 0),(4,.hp 2 0 [] 5 0 0),(7,.hp 3 0 [] 4 0 0),(117,B u17)] [⟨0,2,[aa c_1]⟩,⟨0,5,[ae s_2]⟩,⟨0,4,[ah e4]⟩] 4):=by
          subst h
          exact rf [3,4,7,117] [1,2,3] (j16 :)
         replace h:=hu17
         clear hu17
         refine sp 108 h rfl ?_ ?_<;>intro h
         ·refine dk 9 [117,116,115,114,113,112,111,110,109] [B true,.und,.und,.und,.und,.und,.und,.und,.und] ?_
          refine de 836 rfl rfl ?_
          subst h
          exact rf [3,4,7,117] [1,2,3] (j17 :)
         ·refine dy [3] [] (.hp 3 0 [] 4 0 3) rfl (al rfl rfl rfl) ?_
          refine dy [3] [] (I e4.Status) rfl (aK rfl rfl) ?_
          refine dk 2 [112,111] [B (e4.Status==4),B (e4.Status==4)] ?_
          obtain⟨u18,hu18,h⟩:=lJ h
          have j18:Run eu 0 (di (c_1,s_2,k_3) r) (.code eO::.code eL::[]) (sT 129 [(3,.hp 1 0 [] 2 0 0),(4,.hp 2 0 [] 5 0 0),(7,.hp 3 0 [] 4 0 0),(117,B u18)] [⟨0,2,[aa c_1]⟩,⟨0,5,[ae s_2]⟩,⟨0,4,[ah e4]⟩] 4):=by
           subst h
           exact rf [3,4,7,117] [1,2,3] (j17 :)
          replace h:=hu18
          clear hu18
          refine sp 112 h rfl ?_ ?_<;>intro h
          ·refine dy [2] [] (.hp 2 0 [] 5 0 4) rfl (al rfl rfl rfl) ?_
           refine dy [2] [] (B s_2.Over) rfl (aK rfl rfl) ?_
           refine dk 3 [117,116,115] [B (!s_2.Over),B (!s_2.Over),B (!s_2.Over)] ?_
           refine de 836 rfl rfl ?_
           subst h
           exact rf [3,4,7,117] [1,2,3] (j18 :)
          ·refine dk 5 [117,116,115,114,113] [B false,B false,.und,.und,.und] ?_
           refine de 836 rfl rfl ?_
           subst h
           exact rf [3,4,7,117] [1,2,3] (j18 :)
        ·refine dk 8 [108,107,106,105,104,103,102,101] [B false,B false,B false,.und,.und,.und,.und,.und] ?_
         refine dy [3] [] (.hp 3 0 [] 4 0 3) rfl (al rfl rfl rfl) ?_
         refine dy [3] [] (I e4.Status) rfl (aK rfl rfl) ?_
         refine dk 2 [112,111] [B (e4.Status==4),B (e4.Status==4)] ?_
         obtain⟨u19,hu19,h⟩:=lJ h
         have j19:Run eu 0 (di (c_1,s_2,k_3) r) (.code eO::.code eL::[]) (sT 129 [(3,.hp 1 0 [] 2 0 0),(4,.hp 2 0 [] 5 0 0),(7,.hp 3 0 [] 4 0 0),(117,B u19)] [⟨0,2,[aa c_1]⟩,⟨0,5,[ae s_2]⟩,⟨0,4,[ah e4]⟩] 4):=by
          subst h
          exact rf [3,4,7,117] [1,2,3] (j16 :)
         replace h:=hu19
         clear hu19
         refine sp 112 h rfl ?_ ?_<;>intro h
         ·refine dy [2] [] (.hp 2 0 [] 5 0 4) rfl (al rfl rfl rfl) ?_
          refine dy [2] [] (B s_2.Over) rfl (aK rfl rfl) ?_
          refine dk 3 [117,116,115] [B (!s_2.Over),B (!s_2.Over),B (!s_2.Over)] ?_
          refine de 836 rfl rfl ?_
          subst h
          exact rf [3,4,7,117] [1,2,3] (j19 :)
         ·refine dk 5 [117,116,115,114,113] [B false,B false,.und,.und,.und] ?_
          refine de 836 rfl rfl ?_
          subst h
          exact rf [3,4,7,117] [1,2,3] (j19 :)
     ·refine dk 12 [96,95,94,93,92,91,90,89,88,87,86,85] [B false,B false,B false,.und,.und,.und,.und,.und,.und,.und,.und,.und] ?_
      refine dy [3] [] (.hp 3 0 [] 4 0 3) rfl (al rfl rfl rfl) ?_
      refine dy [3] [] (I e4.Status) rfl (aK rfl rfl) ?_
      refine dk 2 [100,99] [B (e4.Status==3),B (e4.Status==3)] ?_
      obtain⟨u20,hu20,h⟩:=lJ h
      have j20:Run eu 0 (di (c_1,s_2,k_3) r) (.code eO::.code eL::[]) (sT 129 [(3,.hp 1 0 [] 2 0 0),(4,.hp 2 0 [] 5 0 0),(7,.hp 3 0 [] 4 0 0),(117,B u20)] [⟨0,2,[aa c_1]⟩,⟨0,5,[ae s_2]⟩,⟨0,4,[ah e4]⟩] 4):=by
       subst h
       exact rf [3,4,7,117] [1,2,3] (j13 :)
      replace h:=hu20
      clear hu20
      refine sp 100 h rfl ?_ ?_<;>intro h
      ·refine dy [3] [] (.hp 3 0 [] 4 0 2) rfl (al rfl rfl rfl) ?_
       refine dy [3] [] (I e4.Due) rfl (aK rfl rfl) ?_
       refine dy [2] [] (.hp 2 0 [] 5 0 0) rfl (al rfl rfl rfl) ?_
       refine dy [2] [] (I s_2.Day) rfl (aK rfl rfl) ?_
       refine dk 4 [108,107,106,105] [B (decide (e4.Due≥s_2.Day)),B (decide (e4.Due≥s_2.Day)),B (decide (e4.Due≥s_2.Day)),B (decide (e4.Due≥s_2.Day))] ?_
       obtain⟨u21,hu21,h⟩:=lJ h
       have j21:Run eu 0 (di (c_1,s_2,k_3) r) (.code eO::.code eL::[]) (sT 129 [(3,.hp 1 0 [] 2 0 0),(4,.hp 2 0 [] 5 0 0),(7,.hp 3 0 [] 4 0 0),(117,B u21)] [⟨0,2,[aa c_1]⟩,⟨0,5,[ae s_2]⟩,⟨0,4,[ah e4]⟩] 4):=by
        subst h
        exact rf [3,4,7,117] [1,2,3] (j20 :)
       replace h:=hu21
       clear hu21
       refine sp 108 h rfl ?_ ?_<;>intro h
       ·refine dk 9 [117,116,115,114,113,112,111,110,109] [B true,.und,.und,.und,.und,.und,.und,.und,.und] ?_
        refine de 836 rfl rfl ?_
        subst h
        exact rf [3,4,7,117] [1,2,3] (j21 :)
       ·refine dy [3] [] (.hp 3 0 [] 4 0 3) rfl (al rfl rfl rfl) ?_
        refine dy [3] [] (I e4.Status) rfl (aK rfl rfl) ?_
        refine dk 2 [112,111] [B (e4.Status==4),B (e4.Status==4)] ?_
        obtain⟨u22,hu22,h⟩:=lJ h
        have j22:Run eu 0 (di (c_1,s_2,k_3) r) (.code eO::.code eL::[]) (sT 129 [(3,.hp 1 0 [] 2 0 0),(4,.hp 2 0 [] 5 0 0),(7,.hp 3 0 [] 4 0 0),(117,B u22)] [⟨0,2,[aa c_1]⟩,⟨0,5,[ae s_2]⟩,⟨0,4,[ah e4]⟩] 4):=by
         subst h
         exact rf [3,4,7,117] [1,2,3] (j21 :)
        replace h:=hu22
        clear hu22
        refine sp 112 h rfl ?_ ?_<;>intro h
        ·refine dy [2] [] (.hp 2 0 [] 5 0 4) rfl (al rfl rfl rfl) ?_
         refine dy [2] [] (B s_2.Over) rfl (aK rfl rfl) ?_
         refine dk 3 [117,116,115] [B (!s_2.Over),B (!s_2.Over),B (!s_2.Over)] ?_
         refine de 836 rfl rfl ?_
         subst h
         exact rf [3,4,7,117] [1,2,3] (j22 :)
        ·refine dk 5 [117,116,115,114,113] [B false,B false,.und,.und,.und] ?_
         refine de 836 rfl rfl ?_
         subst h
         exact rf [3,4,7,117] [1,2,3] (j22 :)
      ·refine dk 8 [108,107,106,105,104,103,102,101] [B false,B false,B false,.und,.und,.und,.und,.und] ?_
       refine dy [3] [] (.hp 3 0 [] 4 0 3) rfl (al rfl rfl rfl) ?_
       refine dy [3] [] (I e4.Status) rfl (aK rfl rfl) ?_
       refine dk 2 [112,111] [B (e4.Status==4),B (e4.Status==4)] ?_
       obtain⟨u23,hu23,h⟩:=lJ h
       have j23:Run eu 0 (di (c_1,s_2,k_3) r) (.code eO::.code eL::[]) (sT 129 [(3,.hp 1 0 [] 2 0 0),(4,.hp 2 0 [] 5 0 0),(7,.hp 3 0 [] 4 0 0),(117,B u23)] [⟨0,2,[aa c_1]⟩,⟨0,5,[ae s_2]⟩,⟨0,4,[ah e4]⟩] 4):=by
        subst h
        exact rf [3,4,7,117] [1,2,3] (j20 :)
       replace h:=hu23
       clear hu23
       refine sp 112 h rfl ?_ ?_<;>intro h
       ·refine dy [2] [] (.hp 2 0 [] 5 0 4) rfl (al rfl rfl rfl) ?_
        refine dy [2] [] (B s_2.Over) rfl (aK rfl rfl) ?_
        refine dk 3 [117,116,115] [B (!s_2.Over),B (!s_2.Over),B (!s_2.Over)] ?_
        refine de 836 rfl rfl ?_
        subst h
        exact rf [3,4,7,117] [1,2,3] (j23 :)
       ·refine dk 5 [117,116,115,114,113] [B false,B false,.und,.und,.und] ?_
        refine de 836 rfl rfl ?_
        subst h
        exact rf [3,4,7,117] [1,2,3] (j23 :)
   ·refine dk 12 [80,79,78,77,76,75,74,73,72,71,70,69] [B false,B false,.und,.und,.und,.und,.und,.und,.und,.und,.und,.und] ?_
    refine dy [3] [] (.hp 3 0 [] 4 0 3) rfl (al rfl rfl rfl) ?_
    refine dy [3] [] (I e4.Status) rfl (aK rfl rfl) ?_
    refine dk 2 [84,83] [B (e4.Status==1),B (e4.Status==1)] ?_
    obtain⟨u24,hu24,h⟩:=lJ h
    have j24:Run eu 0 (di (c_1,s_2,k_3) r) (.code eO::.code eL::[]) (sT 129 [(3,.hp 1 0 [] 2 0 0),(4,.hp 2 0 [] 5 0 0),(7,.hp 3 0 [] 4 0 0),(117,B u24)] [⟨0,2,[aa c_1]⟩,⟨0,5,[ae s_2]⟩,⟨0,4,[ah e4]⟩] 4):=by
     exact rf [3,4,7,117] [1,2,3] (j7 _ (ak h) :)
    replace h:=hu24
    clear hu24
    refine sp 84 h rfl ?_ ?_<;>intro h
    ·refine dy [3] [] (.hp 3 0 [] 4 0 2) rfl (al rfl rfl rfl) ?_
     refine dy [3] [] (I e4.Due) rfl (aK rfl rfl) ?_
     refine dy [2] [] (.hp 2 0 [] 5 0 0) rfl (al rfl rfl rfl) ?_
     refine dy [2] [] (I s_2.Day) rfl (aK rfl rfl) ?_
     refine dk 2 [90,89] [B (decide (e4.Due<s_2.Day)),B (decide (e4.Due<s_2.Day))] ?_
     obtain⟨u25,hu25,h⟩:=lJ h
     have j25:Run eu 0 (di (c_1,s_2,k_3) r) (.code eO::.code eL::[]) (sT 129 [(3,.hp 1 0 [] 2 0 0),(4,.hp 2 0 [] 5 0 0),(7,.hp 3 0 [] 4 0 0),(117,B u25)] [⟨0,2,[aa c_1]⟩,⟨0,5,[ae s_2]⟩,⟨0,4,[ah e4]⟩] 4):=by
      subst h
      exact rf [3,4,7,117] [1,2,3] (j24 :)
     replace h:=hu25
     clear hu25
     refine sp 90 h rfl ?_ ?_<;>intro h
     ·refine dk 27 [117,116,115,114,113,112,111,110,109,108,107,106,105,104,103,102,101,100,99,98,97,96,95,94,93,92,91] [B true,.und,.und,.und,.und,.und,.und,.und,.und,B true,B true,.und,.und,.und,.und,.und,.und,.und,.und,.und,.und,B true,B true,B true,B true,.und,.und] ?_
      refine de 836 rfl rfl ?_
      subst h
      exact rf [3,4,7,117] [1,2,3] (j25 :)
     ·refine dy [2] [] (.hp 2 0 [] 5 0 4) rfl (al rfl rfl rfl) ?_
      refine dy [2] [] (B s_2.Over) rfl (aK rfl rfl) ?_
      refine dk 4 [96,95,94,93] [B s_2.Over,B s_2.Over,B s_2.Over,B s_2.Over] ?_
      obtain⟨u26,hu26,h⟩:=lJ h
      have j26:Run eu 0 (di (c_1,s_2,k_3) r) (.code eO::.code eL::[]) (sT 129 [(3,.hp 1 0 [] 2 0 0),(4,.hp 2 0 [] 5 0 0),(7,.hp 3 0 [] 4 0 0),(117,B u26)] [⟨0,2,[aa c_1]⟩,⟨0,5,[ae s_2]⟩,⟨0,4,[ah e4]⟩] 4):=by
       subst h
       exact rf [3,4,7,117] [1,2,3] (j25 :)
      replace h:=hu26
      clear hu26
      refine sp 96 h rfl ?_ ?_<;>intro h
      ·refine dk 21 [117,116,115,114,113,112,111,110,109,108,107,106,105,104,103,102,101,100,99,98,97] [B true,.und,.und,.und,.und,.und,.und,.und,.und,B true,B true,.und,.und,.und,.und,.und,.und,.und,.und,.und,.und] ?_
       refine de 836 rfl rfl ?_
       subst h
       exact rf [3,4,7,117] [1,2,3] (j26 :)
      ·refine dy [3] [] (.hp 3 0 [] 4 0 3) rfl (al rfl rfl rfl) ?_
       refine dy [3] [] (I e4.Status) rfl (aK rfl rfl) ?_
       refine dk 2 [100,99] [B (e4.Status==3),B (e4.Status==3)] ?_
       obtain⟨u27,hu27,h⟩:=lJ h
       have j27:Run eu 0 (di (c_1,s_2,k_3) r) (.code eO::.code eL::[]) (sT 129 [(3,.hp 1 0 [] 2 0 0),(4,.hp 2 0 [] 5 0 0),(7,.hp 3 0 [] 4 0 0),(117,B u27)] [⟨0,2,[aa c_1]⟩,⟨0,5,[ae s_2]⟩,⟨0,4,[ah e4]⟩] 4):=by
        subst h
        exact rf [3,4,7,117] [1,2,3] (j26 :)
       replace h:=hu27
       clear hu27
       refine sp 100 h rfl ?_ ?_<;>intro h
       ·refine dy [3] [] (.hp 3 0 [] 4 0 2) rfl (al rfl rfl rfl) ?_
        refine dy [3] [] (I e4.Due) rfl (aK rfl rfl) ?_
        refine dy [2] [] (.hp 2 0 [] 5 0 0) rfl (al rfl rfl rfl) ?_
        refine dy [2] [] (I s_2.Day) rfl (aK rfl rfl) ?_
        refine dk 4 [108,107,106,105] [B (decide (e4.Due≥s_2.Day)),B (decide (e4.Due≥s_2.Day)),B (decide (e4.Due≥s_2.Day)),B (decide (e4.Due≥s_2.Day))] ?_
        obtain⟨u28,hu28,h⟩:=lJ h
        have j28:Run eu 0 (di (c_1,s_2,k_3) r) (.code eO::.code eL::[]) (sT 129 [(3,.hp 1 0 [] 2 0 0),(4,.hp 2 0 [] 5 0 0),(7,.hp 3 0 [] 4 0 0),(117,B u28)] [⟨0,2,[aa c_1]⟩,⟨0,5,[ae s_2]⟩,⟨0,4,[ah e4]⟩] 4):=by
         subst h
         exact rf [3,4,7,117] [1,2,3] (j27 :)
        replace h:=hu28
        clear hu28
        refine sp 108 h rfl ?_ ?_<;>intro h
        ·refine dk 9 [117,116,115,114,113,112,111,110,109] [B true,.und,.und,.und,.und,.und,.und,.und,.und] ?_
         refine de 836 rfl rfl ?_
         subst h
         exact rf [3,4,7,117] [1,2,3] (j28 :)
        ·refine dy [3] [] (.hp 3 0 [] 4 0 3) rfl (al rfl rfl rfl) ?_
         refine dy [3] [] (I e4.Status) rfl (aK rfl rfl) ?_
         refine dk 2 [112,111] [B (e4.Status==4),B (e4.Status==4)] ?_
         obtain⟨u29,hu29,h⟩:=lJ h
         have j29:Run eu 0 (di (c_1,s_2,k_3) r) (.code eO::.code eL::[]) (sT 129 [(3,.hp 1 0 [] 2 0 0),(4,.hp 2 0 [] 5 0 0),(7,.hp 3 0 [] 4 0 0),(117,B u29)] [⟨0,2,[aa c_1]⟩,⟨0,5,[ae s_2]⟩,⟨0,4,[ah e4]⟩] 4):=by
          subst h
          exact rf [3,4,7,117] [1,2,3] (j28 :)
         replace h:=hu29
         clear hu29
         refine sp 112 h rfl ?_ ?_<;>intro h
         ·refine dy [2] [] (.hp 2 0 [] 5 0 4) rfl (al rfl rfl rfl) ?_
          refine dy [2] [] (B s_2.Over) rfl (aK rfl rfl) ?_
          refine dk 3 [117,116,115] [B (!s_2.Over),B (!s_2.Over),B (!s_2.Over)] ?_
          refine de 836 rfl rfl ?_
          subst h
          exact rf [3,4,7,117] [1,2,3] (j29 :)
         ·refine dk 5 [117,116,115,114,113] [B false,B false,.und,.und,.und] ?_
          refine de 836 rfl rfl ?_
          subst h
          exact rf [3,4,7,117] [1,2,3] (j29 :)
       ·refine dk 8 [108,107,106,105,104,103,102,101] [B false,B false,B false,.und,.und,.und,.und,.und] ?_
        refine dy [3] [] (.hp 3 0 [] 4 0 3) rfl (al rfl rfl rfl) ?_
        refine dy [3] [] (I e4.Status) rfl (aK rfl rfl) ?_
        refine dk 2 [112,111] [B (e4.Status==4),B (e4.Status==4)] ?_
        obtain⟨u30,hu30,h⟩:=lJ h
        have j30:Run eu 0 (di (c_1,s_2,k_3) r) (.code eO::.code eL::[]) (sT 129 [(3,.hp 1 0 [] 2 0 0),(4,.hp 2 0 [] 5 0 0),(7,.hp 3 0 [] 4 0 0),(117,B u30)] [⟨0,2,[aa c_1]⟩,⟨0,5,[ae s_2]⟩,⟨0,4,[ah e4]⟩] 4):=by
         subst h
         exact rf [3,4,7,117] [1,2,3] (j27 :)
        replace h:=hu30
        clear hu30
        refine sp 112 h rfl ?_ ?_<;>intro h
        ·refine dy [2] [] (.hp 2 0 [] 5 0 4) rfl (al rfl rfl rfl) ?_
         refine dy [2] [] (B s_2.Over) rfl (aK rfl rfl) ?_
         refine dk 3 [117,116,115] [B (!s_2.Over),B (!s_2.Over),B (!s_2.Over)] ?_
         refine de 836 rfl rfl ?_
         subst h
         exact rf [3,4,7,117] [1,2,3] (j30 :)
        ·refine dk 5 [117,116,115,114,113] [B false,B false,.und,.und,.und] ?_
         refine de 836 rfl rfl ?_
         subst h
         exact rf [3,4,7,117] [1,2,3] (j30 :)
    ·refine dk 12 [96,95,94,93,92,91,90,89,88,87,86,85] [B false,B false,B false,.und,.und,.und,.und,.und,.und,.und,.und,.und] ?_
     refine dy [3] [] (.hp 3 0 [] 4 0 3) rfl (al rfl rfl rfl) ?_
     refine dy [3] [] (I e4.Status) rfl (aK rfl rfl) ?_
     refine dk 2 [100,99] [B (e4.Status==3),B (e4.Status==3)] ?_
     obtain⟨u31,hu31,h⟩:=lJ h
     have j31:Run eu 0 (di (c_1,s_2,k_3) r) (.code eO::.code eL::[]) (sT 129 [(3,.hp 1 0 [] 2 0 0),(4,.hp 2 0 [] 5 0 0),(7,.hp 3 0 [] 4 0 0),(117,B u31)] [⟨0,2,[aa c_1]⟩,⟨0,5,[ae s_2]⟩,⟨0,4,[ah e4]⟩] 4):=by
      subst h
      exact rf [3,4,7,117] [1,2,3] (j24 :)
     replace h:=hu31
     clear hu31
     refine sp 100 h rfl ?_ ?_<;>intro h
     ·refine dy [3] [] (.hp 3 0 [] 4 0 2) rfl (al rfl rfl rfl) ?_
      refine dy [3] [] (I e4.Due) rfl (aK rfl rfl) ?_
      refine dy [2] [] (.hp 2 0 [] 5 0 0) rfl (al rfl rfl rfl) ?_
      refine dy [2] [] (I s_2.Day) rfl (aK rfl rfl) ?_
      refine dk 4 [108,107,106,105] [B (decide (e4.Due≥s_2.Day)),B (decide (e4.Due≥s_2.Day)),B (decide (e4.Due≥s_2.Day)),B (decide (e4.Due≥s_2.Day))] ?_
      obtain⟨u32,hu32,h⟩:=lJ h
      have j32:Run eu 0 (di (c_1,s_2,k_3) r) (.code eO::.code eL::[]) (sT 129 [(3,.hp 1 0 [] 2 0 0),(4,.hp 2 0 [] 5 0 0),(7,.hp 3 0 [] 4 0 0),(117,B u32)] [⟨0,2,[aa c_1]⟩,⟨0,5,[ae s_2]⟩,⟨0,4,[ah e4]⟩] 4):=by
       subst h
       exact rf [3,4,7,117] [1,2,3] (j31 :)
      replace h:=hu32
      clear hu32
      refine sp 108 h rfl ?_ ?_<;>intro h
      ·refine dk 9 [117,116,115,114,113,112,111,110,109] [B true,.und,.und,.und,.und,.und,.und,.und,.und] ?_
       refine de 836 rfl rfl ?_
       subst h
       exact rf [3,4,7,117] [1,2,3] (j32 :)
      ·refine dy [3] [] (.hp 3 0 [] 4 0 3) rfl (al rfl rfl rfl) ?_
       refine dy [3] [] (I e4.Status) rfl (aK rfl rfl) ?_
       refine dk 2 [112,111] [B (e4.Status==4),B (e4.Status==4)] ?_
       obtain⟨u33,hu33,h⟩:=lJ h
       have j33:Run eu 0 (di (c_1,s_2,k_3) r) (.code eO::.code eL::[]) (sT 129 [(3,.hp 1 0 [] 2 0 0),(4,.hp 2 0 [] 5 0 0),(7,.hp 3 0 [] 4 0 0),(117,B u33)] [⟨0,2,[aa c_1]⟩,⟨0,5,[ae s_2]⟩,⟨0,4,[ah e4]⟩] 4):=by
        subst h
        exact rf [3,4,7,117] [1,2,3] (j32 :)
       replace h:=hu33
       clear hu33
       refine sp 112 h rfl ?_ ?_<;>intro h
       ·refine dy [2] [] (.hp 2 0 [] 5 0 4) rfl (al rfl rfl rfl) ?_
        refine dy [2] [] (B s_2.Over) rfl (aK rfl rfl) ?_
        refine dk 3 [117,116,115] [B (!s_2.Over),B (!s_2.Over),B (!s_2.Over)] ?_
        refine de 836 rfl rfl ?_
        subst h
        exact rf [3,4,7,117] [1,2,3] (j33 :)
       ·refine dk 5 [117,116,115,114,113] [B false,B false,.und,.und,.und] ?_
        refine de 836 rfl rfl ?_
        subst h
        exact rf [3,4,7,117] [1,2,3] (j33 :)
     ·refine dk 8 [108,107,106,105,104,103,102,101] [B false,B false,B false,.und,.und,.und,.und,.und] ?_
      refine dy [3] [] (.hp 3 0 [] 4 0 3) rfl (al rfl rfl rfl) ?_
      refine dy [3] [] (I e4.Status) rfl (aK rfl rfl) ?_
      refine dk 2 [112,111] [B (e4.Status==4),B (e4.Status==4)] ?_
      obtain⟨u34,hu34,h⟩:=lJ h
      have j34:Run eu 0 (di (c_1,s_2,k_3) r) (.code eO::.code eL::[]) (sT 129 [(3,.hp 1 0 [] 2 0 0),(4,.hp 2 0 [] 5 0 0),(7,.hp 3 0 [] 4 0 0),(117,B u34)] [⟨0,2,[aa c_1]⟩,⟨0,5,[ae s_2]⟩,⟨0,4,[ah e4]⟩] 4):=by
       subst h
       exact rf [3,4,7,117] [1,2,3] (j31 :)
      replace h:=hu34
      clear hu34
      refine sp 112 h rfl ?_ ?_<;>intro h
      ·refine dy [2] [] (.hp 2 0 [] 5 0 4) rfl (al rfl rfl rfl) ?_
       refine dy [2] [] (B s_2.Over) rfl (aK rfl rfl) ?_
       refine dk 3 [117,116,115] [B (!s_2.Over),B (!s_2.Over),B (!s_2.Over)] ?_
       refine de 836 rfl rfl ?_
       subst h
       exact rf [3,4,7,117] [1,2,3] (j34 :)
      ·refine dk 5 [117,116,115,114,113] [B false,B false,.und,.und,.und] ?_
       refine de 836 rfl rfl ?_
       subst h
       exact rf [3,4,7,117] [1,2,3] (j34 :)
 have r6:∀r',y6=.inl r'→∀st,di (c_1,s_2,k_3) r' st→(di (c_1,s_2,k_3) r) st:=fun r' e st hq=>by rw[hy61 r' e] at hq;exact hq
 replace h:=hy6
 refine sp 21 h rfl ?_ ?_<;>intro h
 ·refine dk 44 [65,64,63,62,61,60,59,58,57,56,55,54,53,52,51,50,49,48,47,46,45,44,43,42,41,40,39,38,37,36,35,34,33,32,31,30,29,28,27,26,25,24,23,22] [B true,.und,.und,.und,.und,B true,B true,.und,.und,.und,.und,B true,B true,.und,.und,.und,.und,.und,.und,.und,.und,.und,.und,.und,.und,.und,B true,B true,.und,.und,.und,.und,.und,.und,B true,B true,.und,.und,.und,.und,.und,.und,.und,.und] ?_
  refine de 1009 rfl rfl ?_
  exact rf [2,3,4,7,65] [1,17,129] (j6 _ (ak h) :)
 ·refine dy [1] [] (.hp 1 0 [] 2 0 1) rfl (al rfl rfl rfl) ?_
  refine dy [1] [] (.isl false (c_1.Clauses.map ap)) rfl (aK rfl rfl) ?_
  refine dy [129] [] (.hp 129 0 [] 4 0 0) rfl (al rfl rfl rfl) ?_
  refine dy [129] [] (I e4.Clause) rfl (aK rfl rfl) ?_
  obtain⟨e35,he35,h⟩:=bS h
  refine dy [] [] (.iptr (ao e35) 0) rfl (aj rfl rfl rfl (aZ rfl rfl rfl rfl he35)) ?_
  refine dy [] [] (.iptr (ao e35) 1) rfl (al rfl rfl rfl) ?_
  refine dy [] [] (I e35.Kind) rfl (aK rfl rfl) ?_
  refine dk 3 [31,30,29] [B (e35.Kind != 1),B (e35.Kind != 1),B (e35.Kind != 1)] ?_
  obtain⟨y36,hy36,hy361,hy362⟩:=bL h
  have j36:∀u36,y36=.inr u36→Run eu 0 (di (c_1,s_2,k_3) r) (.code uT::.code pC::[]) (sT 129 [(2,I k_3),(3,.hp 1 0 [] 2 0 0),(4,.hp 2 0 [] 5 0 0),(7,.hp 3 0 [] 4 0 0),(65,B u36)] [⟨0,2,[aa c_1]⟩,⟨0,5,[ae s_2]⟩,⟨0,4,[ah e4]⟩] 4):=by
   intro u36 hu
   replace h:=hy362 u36 hu
   exact rf [2,3,4,7,65] [1,2,3] (j6 _ (ak h) :)
  have r36:∀r',y36=.inl r'→∀st,di (c_1,s_2,k_3) r' st→(di (c_1,s_2,k_3) r) st:=fun r' e st hq=>r6 r' (hy361 r' e) st hq
  replace h:=hy36
  refine sp 31 h rfl ?_ ?_<;>intro h
  ·refine dk 34 [65,64,63,62,61,60,59,58,57,56,55,54,53,52,51,50,49,48,47,46,45,44,43,42,41,40,39,38,37,36,35,34,33,32] [B true,.und,.und,.und,.und,B true,B true,.und,.und,.und,.und,B true,B true,.und,.und,.und,.und,.und,.und,.und,.und,.und,.und,.und,.und,.und,B true,B true,.und,.und,.und,.und,.und,.und] ?_
   refine de 1009 rfl rfl ?_
   exact rf [2,3,4,7,65] [1,17,129] (j36 _ (ak h) :)
  ·refine dy [129] [] (.hp 129 0 [] 4 0 1) rfl (al rfl rfl rfl) ?_
   refine dy [129] [] (I e4.Since) rfl (aK rfl rfl) ?_
   refine dy [17] [] (.hp 17 0 [] 5 0 0) rfl (al rfl rfl rfl) ?_
   refine dy [17] [] (I s_2.Day) rfl (aK rfl rfl) ?_
   obtain⟨r37,hr37,h⟩:=bS h
   refine dy [] [] (B r37) rfl (cP (ez hr37)) ?_ (cm rfl rfl rfl rfl (aQ (bx rfl) (aQ (bx rfl) (aQ (bx rfl) cz))) (ez hr37) (.inr rfl) rfl)
   refine dk 3 [39,38,37] [B (!r37),B (!r37),B (!r37)] ?_
   obtain⟨y38,hy38,hy381,hy382⟩:=bL h
   have j38:∀u38,y38=.inr u38→Run eu 0 (di (c_1,s_2,k_3) r) (.code uT::.code pC::[]) (sT 129 [(2,I k_3),(3,.hp 1 0 [] 2 0 0),(4,.hp 2 0 [] 5 0 0),(7,.hp 3 0 [] 4 0 0),(65,B u38)] [⟨0,2,[aa c_1]⟩,⟨0,5,[ae s_2]⟩,⟨0,4,[ah e4]⟩] 4):=by
    intro u38 hu
    replace h:=hy382 u38 hu
    exact rf [2,3,4,7,65] [1,2,3] (j36 _ (ak h) :)
   have r38:∀r',y38=.inl r'→∀st,di (c_1,s_2,k_3) r' st→(di (c_1,s_2,k_3) r) st:=fun r' e st hq=>r36 r' (hy381 r' e) st hq
   replace h:=hy38
   refine sp 39 h rfl ?_ ?_<;>intro h
   ·refine dk 26 [65,64,63,62,61,60,59,58,57,56,55,54,53,52,51,50,49,48,47,46,45,44,43,42,41,40] [B true,.und,.und,.und,.und,B true,B true,.und,.und,.und,.und,B true,B true,.und,.und,.und,.und,.und,.und,.und,.und,.und,.und,.und,.und,.und] ?_
    refine de 1009 rfl rfl ?_
    exact rf [2,3,4,7,65] [1,17,129] (j38 _ (ak h) :)
   ·refine dy [129] [] (.hp 129 0 [] 4 0 2) rfl (al rfl rfl rfl) ?_
    refine dy [129] [] (I e4.Due) rfl (aK rfl rfl) ?_
    refine dy [129] [] (.hp 129 0 [] 4 0 1) rfl (al rfl rfl rfl) ?_
    refine dy [129] [] (I e4.Since) rfl (aK rfl rfl) ?_
    refine dy [1] [] (.hp 1 0 [] 2 0 1) rfl (al rfl rfl rfl) ?_
    refine dy [1] [] (.isl false (c_1.Clauses.map ap)) rfl (aK rfl rfl) ?_
    refine dy [129] [] (.hp 129 0 [] 4 0 0) rfl (al rfl rfl rfl) ?_
    refine dy [129] [] (I e4.Clause) rfl (aK rfl rfl) ?_
    obtain⟨e39,he39,h⟩:=bS h
    refine dy [] [] (.iptr (ao e39) 0) rfl (aj rfl rfl rfl (aZ rfl rfl rfl rfl he39)) ?_
    refine dy [] [] (.iptr (ao e39) 10) rfl (al rfl rfl rfl) ?_
    refine dy [] [] (I e39.Within) rfl (aK rfl rfl) ?_
    refine dk 4 [54,53,52,51] [B (e4.Due != (ai (e4.Since+e39.Within))),B (e4.Due != (ai (e4.Since+e39.Within))),B (e4.Due != (ai (e4.Since+e39.Within))),I (ai (e4.Since+e39.Within))] ?_
    obtain⟨y40,hy40,hy401,hy402⟩:=bL h
    have j40:∀u40,y40=.inr u40→Run eu 0 (di (c_1,s_2,k_3) r) (.code uT::.code pC::[]) (sT 129 [(2,I k_3),(3,.hp 1 0 [] 2 0 0),(4,.hp 2 0 [] 5 0 0),(7,.hp 3 0 [] 4 0 0),(65,B u40)] [⟨0,2,[aa c_1]⟩,⟨0,5,[ae s_2]⟩,⟨0,4,[ah e4]⟩] 4):=by
     intro u40 hu
     replace h:=hy402 u40 hu
     exact rf [2,3,4,7,65] [1,2,3] (j38 _ (ak h) :)
    have r40:∀r',y40=.inl r'→∀st,di (c_1,s_2,k_3) r' st→(di (c_1,s_2,k_3) r) st:=fun r' e st hq=>r38 r' (hy401 r' e) st hq
    replace h:=hy40
    refine sp 54 h rfl ?_ ?_<;>intro h
    ·refine dk 11 [65,64,63,62,61,60,59,58,57,56,55] [B true,.und,.und,.und,.und,B true,B true,.und,.und,.und,.und] ?_
     refine de 1009 rfl rfl ?_
     exact rf [2,3,4,7,65] [1,17,129] (j40 _ (ak h) :)
    ·refine dy [129] [] (.hp 129 0 [] 4 0 2) rfl (al rfl rfl rfl) ?_
     refine dy [129] [] (I e4.Due) rfl (aK rfl rfl) ?_
     obtain⟨r41,hr41,h⟩:=bS h
     refine dy [] [] (B r41) rfl (cP (G5 hr41)) ?_ (cm rfl rfl rfl rfl (aQ (bx rfl) cz) (G5 hr41) (.inr rfl) rfl)
     refine dk 3 [60,59,58] [B (!r41),B (!r41),B (!r41)] ?_
     obtain⟨y42,hy42,hy421,hy422⟩:=bL h
     have j42:∀u42,y42=.inr u42→Run eu 0 (di (c_1,s_2,k_3) r) (.code uT::.code pC::[]) (sT 129 [(2,I k_3),(3,.hp 1 0 [] 2 0 0),(4,.hp 2 0 [] 5 0 0),(7,.hp 3 0 [] 4 0 0),(65,B u42)] [⟨0,2,[aa c_1]⟩,⟨0,5,[ae s_2]⟩,⟨0,4,[ah e4]⟩] 4):=by
      intro u42 hu
      replace h:=hy422 u42 hu
      exact rf [2,3,4,7,65] [1,2,3] (j40 _ (ak h) :)
     have r42:∀r',y42=.inl r'→∀st,di (c_1,s_2,k_3) r' st→(di (c_1,s_2,k_3) r) st:=fun r' e st hq=>r40 r' (hy421 r' e) st hq
     replace h:=hy42
     refine sp 60 h rfl ?_ ?_<;>intro h
     ·refine dk 5 [65,64,63,62,61] [B true,.und,.und,.und,.und] ?_
      refine de 1009 rfl rfl ?_
      exact rf [2,3,4,7,65] [1,17,129] (j42 _ (ak h) :)
     ·refine dy [129] [] (.hp 129 0 [] 4 0 3) rfl (al rfl rfl rfl) ?_
      refine dy [129] [] (I e4.Status) rfl (aK rfl rfl) ?_
      obtain⟨r43,hr43,h⟩:=bS h
      refine dy [] [] (B r43) rfl (cP (ez hr43)) ?_ (cm rfl rfl rfl rfl (aQ (bx rfl) (aQ (bx rfl) (aQ (bx rfl) cz))) (ez hr43) (.inr rfl) rfl)
      refine dk 2 [65,64] [B (!r43),B (!r43)] ?_
      refine de 1009 rfl rfl ?_
      exact rf [2,3,4,7,65] [1,17,129] (j42 _ (ak h) :)
theorem WB {G:bT}[TabG Tryz.prog G]:bQ G 124 DH:=gT 3 0 (aL gk (aL Wq (aL WA (aL xM bu)))) bW Tryz.func124 (fun a r h=>ZQ a.1 a.2.1 a.2.2 r h)
def GR:Int→List V:=oA I
def GS (r:Bool):V×List V:=(B r,[])
noncomputable def Dj :=bb [false] GR GS fun x=>Di x
theorem afA {x_1:Int}{r}(h:Di x_1=some r):Dj.F (GR x_1)=some (GS r):=aF (aG bi) h
noncomputable def afC :=aD Tryz.f125
noncomputable def VU :=bV [(89,fN)]
def afB (x:Int)(r:Bool):St→Prop:=QF VU Tryz.f125 [false] (GR x) (GS r)
theorem Zs (x_1:Int)(r:Bool)(h:Di x_1=some r):bq VU Tryz.f125 [false] 0 (GR x_1) (GS r):=by
 show Run _ _ (afB x_1 r) [.code afC] _
 refine rI 5 [(0,I x_1)] [] 1 ?_
 unfold Di at h
 refine cq 7 [3] [I x_1] 33 ?_
 obtain⟨r2,hr2,h⟩:=bS h
 refine oq 49 (B r2) rfl (cP (ez hr2)) ?_
 refine cq 2 [2] [B r2] 65 ?_
 obtain rfl:=sI h
 exact rP [B r2]
theorem VV {G:bT}[TabG Tryz.prog G]:bQ G 125 Dj:=gT 1 0 (aL gk bu) bW Tryz.func125 (fun a r h=>Zs a r h)
def GX:(List Int)→List V:=oA (fM I)
def GY (r:Int):V×List V:=(I r,[])
noncomputable def Dl :=bb [false] GX GY fun x=>vM x
theorem afD {an:List Int}{r}(h:vM an=some r):Dl.F (GX an)=some (GY r):=aF (aG (b7 bi)) h
noncomputable def VY :=aD Tryz.f126
noncomputable def Nn :=bV []
def VX (x:(List Int))(r:Int):St→Prop:=QF Nn Tryz.f126 [false] (GX x) (GY r)
theorem PT (an:List Int):cj Nn 0 (VX an) (cL (cL (cR (cL (cR (cR VY)))))) 0 (lj an) (fun u=>(sT 18 [(3,I u)] [] 1)) fun x2=>(sT 18 [(0,.isl false (an.map I)),(3,I x2.1),(4,I x2.2)] [] 1):=ee (AP an) fun {Q K} hK self ih x2 y h hr hn=>by
 unfold lW at h
 refine cq 5 [5,6] [I x2.2,.isl false (an.map I)] 33 ?_
 refine oq 49 (I (len an)) rfl (bv rfl rfl rfl (bK rfl)) ?_
 refine cq 2 [8] [B (decide (x2.2<(len an)))] 65 ?_
 refine sq h ?_ ?_<;>intro h
 ·refine aq 1 ?_
  refine cq 6 [11,12,13] [I x2.1,.isl false (an.map I),I x2.2] 113 ?_
  obtain⟨e3,he3,h⟩:=bS h
  refine oq 129 (.iptr (I e3) 0) rfl (aj rfl rfl rfl (aZ rfl rfl rfl rfl he3)) ?_
  refine cq 10 [3,4] [I (ai (x2.1+e3)),I (ai (x2.2+1))] 225 ?_
  refine dh ?_
  exact rf [0,3,4] [] (ih _ _ h hr hn :)
 ·refine aq 1 ?_
  exact rf [3] [] (hn _ (ak h) :) (hk:=hK)
theorem Zu (an:List Int)(r:Int)(h:vM an=some r):bq Nn Tryz.f126 [false] 0 (GX an) (GY r):=by
 show Run _ _ (VX an r) [.code VY] _
 refine rI 18 [(0,.isl false (an.map I))] [] 1 ?_
 unfold vM at h
 refine cq 14 [3,4] [I (0),I (0)] 49 ?_
 obtain⟨y4,hy4,hy41,hy42⟩:=bJ h
 refine bP rfl ?_
 refine rf [0,3,4] [] (PT an rfl (0,0) _ hy4 (fun r' e st hq=>by rw[hy41 r' e] at hq;exact hq) fun u4 hu=>?_)
 replace h:=hy42 u4 hu
 refine cq 5 [2] [I u4] 33 ?_
 obtain rfl:=sI h
 exact rP [I u4]
theorem VZ {G:bT}[TabG Tryz.prog G]:bQ G 126 Dl:=gT 1 0 bu bW Tryz.func126 (fun a r h=>Zu a r h)
def HN:(Contract×State)→List V:=cA aM (oA bA)
def HO (r:Bool):V×List V:=(B r,[])
noncomputable def DI :=bb [false,false] HN HO fun x=>sf x.1 x.2
theorem afR {c_1:Contract}{s_2:State}{r}(h:sf c_1 s_2=some r):DI.F (HN (c_1,s_2))=some (HO r):=aF (aJ aP (aG bN)) h
noncomputable def kU :=aD Tryz.f75
noncomputable def oL :=bV [(43,DC),(93,vU),(123,vQ),(124,DH),(125,Dj),(126,Dl),(76,rZ),(122,Dn)]
def kT (x:Contract×State)(r:Bool):St→Prop:=QF oL Tryz.f75 [false,false] (HN x) (HO r)
theorem P7 (c_1:Contract)(s_2:State)(r5:(List ac)):cj oL 0 (kT (c_1,s_2)) (cL (cL (cR (cL (cR (cR (cR kU))))))) 0 (uU c_1 s_2 r5) (fun u=>(sT 86 [(2,.hp 1 0 [] 2 0 0),(3,.hp 2 0 [] 5 0 0)] [⟨0,2,[aa c_1]⟩,⟨0,5,[ae s_2]⟩] 3)) fun x6=>(sT 86 [(2,.hp 1 0 [] 2 0 0),(3,.hp 2 0 [] 5 0 0),(5,.hs 3 0 [] 1 0 (r5.map str).length),(6,I x6)] [⟨0,2,[aa c_1]⟩,⟨0,5,[ae s_2]⟩,⟨0,1,r5.map str⟩] 4):=ee (Ba c_1 s_2 r5) fun {Q K} hK self ih x6 y h hr hn=>by
 unfold oh at h
 refine cq 6 [41,43] [I x6,.isl false (s_2.Facts.map str)] 52 ?_
 refine oq 68 (I (len s_2.Facts)) rfl (bv rfl rfl rfl (bK rfl)) ?_
 refine cq 2 [45] [B (decide (x6<(len s_2.Facts)))] 84 ?_
 refine sq h ?_ ?_<;>intro h
 ·refine aq 1 ?_
  refine cq 8 [48,50,51] [.hs 3 0 [] 1 0 (r5.map str).length,.isl false (s_2.Facts.map str),I x6] 148 ?_
  obtain⟨e7,he7,h⟩:=bS h
  refine oq 164 (.iptr (str e7) 0) rfl (aj rfl rfl rfl (aZ rfl rfl rfl rfl he7)) ?_
  refine cq 1 [53] [str e7] 180 ?_
  obtain⟨r8,hr8,h⟩:=bS h
  refine oq 196 (B r8) rfl (bR rfl rfl (cn rfl rfl rfl (aQ (oC rfl rfl (ew (f:=str) (g:=str) (xs:=r5) rfl rfl (ci gl))) (aQ (bx rfl) cz)) (Nr hr8) (.inl rfl) dT rfl rfl rfl)) ?_
  refine cq 2 [55] [B (!r8)] 212 ?_
  refine sq h ?_ ?_<;>intro h
  ·refine cq 4 [4] [B false] 228 ?_
   exact cu rfl (hr _ (ak h) _ (qp [B false]))
  ·refine aq 1 ?_
   refine cq 6 [6] [I (ai (x6+1))] 260 ?_
   refine dh ?_
   exact rf [2,3,5,6] [1,2,3] (ih _ _ h hr hn :)
 ·refine aq 1 ?_
  exact rf [2,3] [1,2] (hn _ (ak h) :) (hk:=hK)
theorem P8 (c_1:Contract)(s_2:State):cj oL 0 (kT (c_1,s_2)) (cL (cL (cR (cL (cR (cR (cR (cR kU)))))))) 2 (ol c_1 s_2) (fun u=>(sT 86 [(3,.hp 1 0 [] 5 0 0)] [⟨0,5,[ae s_2]⟩] 2)) fun x10=>(sT 86 [(2,.hp 1 0 [] 2 0 0),(3,.hp 2 0 [] 5 0 0),(7,I x10)] [⟨0,2,[aa c_1]⟩,⟨0,5,[ae s_2]⟩] 3):=ee (Bb c_1 s_2) fun {Q K} hK self ih x10 y h hr hn=>by
 unfold l9 at h
 refine cq 6 [56,58] [I x10,.isl false (s_2.Duties.map ah)] 51 ?_
 refine oq 67 (I (len s_2.Duties)) rfl (bv rfl rfl rfl (bK rfl)) ?_
 refine cq 2 [60] [B (decide (x10<(len s_2.Duties)))] 83 ?_
 refine sq h ?_ ?_<;>intro h
 ·refine aq 1 ?_
  refine cq 7 [63,64,65] [aa c_1,ae s_2,I x10] 131 ?_
  obtain⟨r11,hr11,h⟩:=bS h
  refine oq 147 (B r11) rfl (cP (afQ hr11)) ?_
  refine cq 2 [67] [B (!r11)] 163 ?_
  refine sq h ?_ ?_<;>intro h
  ·refine cq 4 [4] [B false] 179 ?_
   exact cu rfl (hr _ (ak h) _ (qp [B false]))
  ·refine aq 1 ?_
   refine cq 6 [7] [I (ai (x10+1))] 211 ?_
   refine dh ?_
   exact rf [2,3,7] [1,2] (ih _ _ h hr hn :)
 ·refine aq 1 ?_
  exact rf [3] [2] (hn _ (ak h) :) (hk:=hK)
theorem P9 (c_1:Contract)(s_2:State):cj oL 0 (kT (c_1,s_2)) (cL (cL (cR (cL (cR (cR (cR (cR (cR kU))))))))) 4 (uV c_1 s_2) (fun u=>(sT 86 [(3,.hp 1 0 [] 5 0 0)] [⟨0,5,[ae s_2]⟩] 2)) fun x13=>(sT 86 [(3,.hp 1 0 [] 5 0 0),(8,I x13)] [⟨0,5,[ae s_2]⟩] 2):=ee (Bc c_1 s_2) fun {Q K} hK self ih x13 y h hr hn=>by
 unfold om at h
 refine cq 6 [68,70] [I x13,.isl false (s_2.Balances.map I)] 50 ?_
 refine oq 66 (I (len s_2.Balances)) rfl (bv rfl rfl rfl (bK rfl)) ?_
 refine cq 2 [72] [B (decide (x13<(len s_2.Balances)))] 82 ?_
 refine sq h ?_ ?_<;>intro h
 ·refine aq 1 ?_
  refine cq 7 [76,77] [.isl false (s_2.Balances.map I),I x13] 130 ?_
  obtain⟨e14,he14,h⟩:=bS h
  refine oq 146 (.iptr (I e14) 0) rfl (aj rfl rfl rfl (aZ rfl rfl rfl rfl he14)) ?_
  refine cq 1 [79] [I e14] 162 ?_
  obtain⟨r15,hr15,h⟩:=bS h
  refine oq 178 (B r15) rfl (cP (afA hr15)) ?_
  refine cq 2 [81] [B (!r15)] 194 ?_
  refine sq h ?_ ?_<;>intro h
  ·refine cq 4 [4] [B false] 210 ?_
   exact cu rfl (hr _ (ak h) _ (qp [B false]))
  ·refine aq 1 ?_
   refine cq 6 [8] [I (ai (x13+1))] 242 ?_
   refine dh ?_
   exact rf [3,8] [1] (ih _ _ h hr hn :)
 ·refine aq 1 ?_
  exact rf [3] [1] (hn _ (ak h) :) (hk:=hK)
theorem ZR (c_1:Contract)(s_2:State)(r:Bool)(h:sf c_1 s_2=some r):bq oL Tryz.f75 [false,false] 0 (HN (c_1,s_2)) (HO r):=by
 show Run _ _ (kT (c_1,s_2) r) [.code kU] _
 refine rI 86 [(0,aa c_1),(1,ae s_2)] [] 1 ?_
 unfold sf at h
 refine ck 10 [2,3,9] [] [1,17] [] [.hp 1 0 [] 2 0 0,.hp 17 0 [] 5 0 0,aa c_1] [some ⟨0,2,[aa c_1]⟩,some ⟨0,5,[ae s_2]⟩] 65 (by kernel_rfl) ?_
 obtain⟨r3,hr3,h⟩:=bS h
 refine oq 81 (B r3) rfl (cP (afN hr3)) ?_
 refine cq 2 [12] [B (!r3)] 113 ?_
 obtain⟨y4,hy4,hy41,hy42⟩:=bJ h
 have j4:∀u4,y4=.inr u4→Run oL 0 (kT (c_1,s_2) r) (.code (cR (cL (cR kU)))::.code (cR (cR kU))::[]) (sT 86 [(2,.hp 1 0 [] 2 0 0),(3,.hp 2 0 [] 5 0 0),(38,B u4)] [⟨0,2,[aa c_1]⟩,⟨0,5,[ae s_2]⟩] 3):=by
  intro u4 hu
  replace h:=hy42 u4 hu
  refine sq h ?_ ?_<;>intro h
  ·refine cq 4 [4] [B false] 19 ?_
   obtain rfl:=sI h
   exact rP [B false]
  ·refine aq 1 ?_
   refine cq 3 [39] [aa c_1] 19 ?_
   obtain⟨r5,hr5,h⟩:=bS h
   refine oq 35 (.hs 19 0 [] 1 0 (r5.map str).length) rfl (cP (Wu hr5)) ?_
   refine cq 8 [5,6] [.hs 19 0 [] 1 0 (r5.map str).length,I (0)] 67 ?_
   obtain⟨y9,hy9,hy91,hy92⟩:=bJ h
   refine bP rfl ?_
   refine rf [2,3,5,6] [1,2,19] (P7 c_1 s_2 r5 rfl 0 _ hy9 (fun r' e st hq=>by rw[hy91 r' e] at hq;exact hq) fun u9 hu=>?_)
   replace h:=hy92 u9 hu
   refine cq 6 [7] [I (0)] 19 ?_
   obtain⟨y12,hy12,hy121,hy122⟩:=bJ h
   refine bP rfl ?_
   refine rf [2,3,7] [1,2] (P8 c_1 s_2 rfl 0 _ hy12 (fun r' e st hq=>by rw[hy121 r' e] at hq;exact hq) fun u12 hu=>?_)
   replace h:=hy122 u12 hu
   refine cq 6 [8] [I (0)] 18 ?_
   obtain⟨y16,hy16,hy161,hy162⟩:=bJ h
   refine bP rfl ?_
   refine rf [3,8] [1] (P9 c_1 s_2 rfl 0 _ hy16 (fun r' e st hq=>by rw[hy161 r' e] at hq;exact hq) fun u16 hu=>?_)
   replace h:=hy162 u16 hu
   refine cq 4 [83] [.isl false (s_2.Balances.map I)] 34 ?_
   obtain⟨r17,hr17,h⟩:=bS h
   refine oq 50 (I r17) rfl (cP (afD hr17)) ?_
   refine cq 3 [4] [B (r17==0)] 82 ?_
   obtain rfl:=sI h
   exact rP [B (r17==0)]
 have r4:∀r',y4=.inl r'→∀st,kT (c_1,s_2) r' st→(kT (c_1,s_2) r) st:=fun r' e st hq=>by rw[hy41 r' e] at hq;exact hq
 replace h:=hy4
 refine sp 12 h rfl ?_ ?_<;>intro h
 ·refine cq 27 [38] [B true] 529 ?_
  exact rf [2,3,38] [1,17] (j4 _ (ak h) :)
 ·refine cq 2 [14] [I s_2.Day] 145 ?_
  obtain⟨r18,hr18,h⟩:=bS h
  refine oy 161 (B r18) rfl (cP (G5 hr18)) ?_
  refine cq 3 [18] [B (!r18)] 209 ?_
  obtain⟨y19,hy19,hy191,hy192⟩:=bL h
  have j19:∀u19,y19=.inr u19→Run oL 0 (kT (c_1,s_2) r) (.code (cR (cL (cR kU)))::.code (cR (cR kU))::[]) (sT 86 [(2,.hp 1 0 [] 2 0 0),(3,.hp 2 0 [] 5 0 0),(38,B u19)] [⟨0,2,[aa c_1]⟩,⟨0,5,[ae s_2]⟩] 3):=by
   intro u19 hu
   replace h:=hy192 u19 hu
   exact rf [2,3,38] [1,2] (j4 _ (ak h) :)
  have r19:∀r',y19=.inl r'→∀st,kT (c_1,s_2) r' st→(kT (c_1,s_2) r) st:=fun r' e st hq=>r4 r' (hy191 r' e) st hq
  replace h:=hy19
  refine sp 18 h rfl ?_ ?_<;>intro h
  ·refine cq 21 [38] [B true] 529 ?_
   exact rf [2,3,38] [1,17] (j19 _ (ak h) :)
  ·refine cq 2 [20] [.isl false (s_2.Facts.map str)] 241 ?_
   obtain⟨r20,hr20,h⟩:=bS h
   refine oy 257 (B r20) rfl (cP (afG hr20)) ?_
   refine cq 3 [24] [B (!r20)] 305 ?_
   obtain⟨u21,hu21,h⟩:=lJ h
   have j21:Run oL 0 (kT (c_1,s_2) r) (.code (cR (cL (cR kU)))::.code (cR (cR kU))::[]) (sT 86 [(2,.hp 1 0 [] 2 0 0),(3,.hp 2 0 [] 5 0 0),(38,B u21)] [⟨0,2,[aa c_1]⟩,⟨0,5,[ae s_2]⟩] 3):=by
    exact rf [2,3,38] [1,2] (j19 _ (ak h) :)
   replace h:=hu21
   clear hu21
   refine sp 24 h rfl ?_ ?_<;>intro h
   ·refine cq 15 [38] [B true] 529 ?_
    subst h
    exact rf [2,3,38] [1,17] (j21 :)
   ·refine cq 2 [26] [.isl false (s_2.Duties.map ah)] 337 ?_
    refine oy 353 (I (len s_2.Duties)) rfl (bv rfl rfl rfl (bK rfl)) ?_
    refine cq 3 [30] [B (decide ((len s_2.Duties)>24))] 401 ?_
    obtain⟨u22,hu22,h⟩:=lJ h
    have j22:Run oL 0 (kT (c_1,s_2) r) (.code (cR (cL (cR kU)))::.code (cR (cR kU))::[]) (sT 86 [(2,.hp 1 0 [] 2 0 0),(3,.hp 2 0 [] 5 0 0),(38,B u22)] [⟨0,2,[aa c_1]⟩,⟨0,5,[ae s_2]⟩] 3):=by
     subst h
     exact rf [2,3,38] [1,2] (j21 :)
    replace h:=hu22
    clear hu22
    refine sp 30 h rfl ?_ ?_<;>intro h
    ·refine cq 9 [38] [B true] 529 ?_
     subst h
     exact rf [2,3,38] [1,17] (j22 :)
    ·refine cq 2 [32] [.isl false (s_2.Balances.map I)] 433 ?_
     refine oy 449 (I (len s_2.Balances)) rfl (bv rfl rfl rfl (bK rfl)) ?_
     refine cq 2 [35] [.isl false (c_1.Parties.map str)] 481 ?_
     refine oy 497 (I (len c_1.Parties)) rfl (bv rfl rfl rfl (bK rfl)) ?_
     refine cq 3 [38] [B ((len s_2.Balances) != (len c_1.Parties))] 529 ?_
     subst h
     exact rf [2,3,38] [1,17] (j22 :)
theorem WC {G:bT}[TabG Tryz.prog G]:bQ G 75 DI:=gT 2 0 (aL Wt (aL KB (aL Ky (aL WB (aL VV (aL VZ (aL xM (aL V3 bu)))))))) bW Tryz.func75 (fun a r h=>ZR a.1 a.2 r h)
def GK:(Contract×State×Int)→List V:=cA aM (cA bA (oA I))
def GM (r:Bool):V×List V:=(B r,[])
noncomputable def Df :=bb [false,false,false] GK GM fun x=>De x.1 x.2.1 x.2.2
theorem afw {c_1:Contract}{s_2:State}{bn:Int}{r}(h:De c_1 s_2 bn=some r):Df.F (GK (c_1,s_2,bn))=some (GM r):=aF (aJ aP (aJ bN (aG bi))) h
noncomputable def VQ :=aD Tryz.f65
noncomputable def Nk :=bV [(75,DI),(89,fN)]
def GL (x:Contract×State×Int)(r:Bool):St→Prop:=QF Nk Tryz.f65 [false,false,false] (GK x) (GM r)
theorem Zo (c_1:Contract)(s_2:State)(bn:Int)(r:Bool)(h:De c_1 s_2 bn=some r):bq Nk Tryz.f65 [false,false,false] 0 (GK (c_1,s_2,bn)) (GM r):=by
 show Run _ _ (GL (c_1,s_2,bn) r) [.code VQ] _
 refine rI 18 [(0,aa c_1),(1,ae s_2),(2,I bn)] [] 1 ?_
 unfold De at h
 refine ck 10 [3,7,8] [] [1] [] [.hp 1 0 [] 2 0 0,aa c_1,ae s_2] [some ⟨0,2,[aa c_1]⟩] 81 (by kernel_rfl) ?_
 obtain⟨r4,hr4,h⟩:=bS h
 refine oq 97 (B r4) rfl (cP (afR hr4)) ?_
 refine cq 1 [10] [B r4] 113 ?_
 obtain⟨y5,hy5,hy51,hy52⟩:=bJ h
 have j5:∀u5,y5=.inr u5→Run Nk 0 (GL (c_1,s_2,bn) r) (.code (cR (cR VQ))::[]) (sT 18 [(6,B u5)] [] 1):=by
  intro u5 hu
  replace h:=hy52 u5 hu
  obtain rfl:=sI h
  exact rP [B u5]
 have r5:∀r',y5=.inl r'→∀st,GL (c_1,s_2,bn) r' st→(GL (c_1,s_2,bn) r) st:=fun r' e st hq=>by rw[hy51 r' e] at hq;exact hq
 replace h:=hy5
 refine sp 10 h rfl ?_ ?_<;>intro h
 ·refine cq 3 [11,13] [I bn,.isl false (c_1.Parties.map str)] 161 ?_
  refine oy 177 (I (len c_1.Parties)) rfl (bv rfl rfl rfl (bK rfl)) ?_
  refine cq 1 [15] [I (ai ((len c_1.Parties) - 1))] 193 ?_
  obtain⟨r6,hr6,h⟩:=bS h
  refine oy 209 (B r6) rfl (cP (ez hr6)) ?_
  refine cq 3 [6] [B r6] 241 ?_
  exact rf [6] [] (j5 _ (ak h) :)
 ·refine cq 9 [6] [B false] 241 ?_
  exact rf [6] [] (j5 _ (ak h) :)
theorem VR {G:bT}[TabG Tryz.prog G]:bQ G 65 Df:=gT 3 0 (aL WC (aL gk bu)) bW Tryz.func65 (fun a r h=>Zo a.1 a.2.1 a.2.2 r h)
def GN:(State×(List Int)×Int)→List V:=cA bA (cA (fM I) (oA I))
def GP (r:(List Int)):V×List V:=(.usl 1 (r.map I),[])
noncomputable def Dg :=bb [false,false,false] GN GP fun x=>vJ x.1 x.2.1 x.2.2
theorem afx {s_1:State}{dF:List Int}{k_3:Int}{r}(h:vJ s_1 dF k_3=some r):Dg.F (GN (s_1,dF,k_3))=some (GP r):=aF (aJ bN (aJ (b7 bi) (aG bi))) h
noncomputable def xG :=aD Tryz.f114
noncomputable def GO :=bV []
def Nl (x:State×(List Int)×Int)(r:(List Int)):St→Prop:=QF GO Tryz.f114 [false,false,false] (GN x) (GP r)
theorem PS (s_1:State)(dF:List Int)(k_3:Int):cj GO 0 (Nl (s_1,dF,k_3)) (cL (cL (cL (cR (cR xG))))) 0 (py s_1 dF k_3) (fun u=>(sT 45 [(1,.isl false (dF.map I)),(2,I k_3),(7,I u)] [] 1)) fun x4=>(sT 45 [(1,.isl false (dF.map I)),(2,I k_3),(3,.hp 1 0 [] 5 0 0),(7,I x4)] [⟨0,5,[ae s_1]⟩] 2):=ee (AO s_1 dF k_3) fun {Q K} hK self ih x4 y h hr hn=>by
 unfold lV at h
 refine aq 2 ?_
 refine dt [0,1,3,7,15,7,7,71,231,487,1023,2047,4095,7,8199,7,57351,122887,253959,524287,1048575] rfl (by decide +kernel) ?_
 refine dk 3 [12,11,10] [B (decide (x4>0)),B (decide (x4>0)),I x4] ?_
 obtain⟨y5,hy5,hy51,hy52⟩:=bL h
 have j5:∀u5,y5=.inr u5→Run GO 0 Q (.code (cR (cL (cL (cL (cL (cR (cR xG)))))))::.code (cR (cL (cL (cL (cR (cR xG))))))::.lp (cL (cL (cL (cR (cR xG)))))::.blk 0::K) (sT 45 [(1,.isl false (dF.map I)),(2,I k_3),(3,.hp 1 0 [] 5 0 0),(7,I x4),(30,B u5)] [⟨0,5,[ae s_1]⟩] 2):=by
  intro u5 hu
  replace h:=hy52 u5 hu
  refine sq h ?_ ?_<;>intro h
  ·refine aq 1 ?_
   refine cq 7 [7] [I (ai (x4 - 1))] 50 ?_
   refine dh ?_
   exact rf [1,2,3,7] [1] (ih _ _ h hr hn :)
  ·refine aq 1 ?_
   exact rf [1,2,7] [] (hn _ (ak h) :) (hk:=hK)
 have r5:∀r',y5=.inl r'→∀st,Nl (s_1,dF,k_3) r' st→Q st:=fun r' e st hq=>hr r' (hy51 r' e) st hq
 replace h:=hy5
 refine sp 12 h rfl ?_ ?_<;>intro h
 ·refine dy [1] [] (.hp 1 0 [] 5 0 2) rfl (al rfl rfl rfl) ?_
  refine dy [1] [] (.isl false (s_1.Duties.map ah)) rfl (aK rfl rfl) ?_
  refine dk 3 [17,16,15] [I (ai (x4 - 1)),I x4,.isl false (dF.map I)] ?_
  obtain⟨e6,he6,h⟩:=bS h
  refine dy [] [] (.iptr (I e6) 0) rfl (aj rfl rfl rfl (aZ rfl rfl rfl rfl he6)) ?_
  refine dy [] [] (I e6) rfl (aK rfl rfl) ?_
  obtain⟨e7,he7,h⟩:=bS h
  refine dy [] [] (.iptr (ah e7) 0) rfl (aj rfl rfl rfl (aZ rfl rfl rfl rfl he7)) ?_
  refine dy [] [] (.iptr (ah e7) 2) rfl (al rfl rfl rfl) ?_
  refine dy [] [] (I e7.Due) rfl (aK rfl rfl) ?_
  refine dy [1] [] (.hp 1 0 [] 5 0 2) rfl (al rfl rfl rfl) ?_
  refine dy [1] [] (.isl false (s_1.Duties.map ah)) rfl (aK rfl rfl) ?_
  refine dk 1 [25] [I k_3] ?_
  obtain⟨e8,he8,h⟩:=bS h
  refine dy [] [] (.iptr (ah e8) 0) rfl (aj rfl rfl rfl (aZ rfl rfl rfl rfl he8)) ?_
  refine dy [] [] (.iptr (ah e8) 2) rfl (al rfl rfl rfl) ?_
  refine dy [] [] (I e8.Due) rfl (aK rfl rfl) ?_
  refine dk 2 [30,29] [B (decide (e7.Due>e8.Due)),B (decide (e7.Due>e8.Due))] ?_
  refine de 338 rfl rfl ?_
  exact rf [1,2,3,7,30] [1] (j5 _ (ak h) :)
 ·refine dk 18 [30,29,28,27,26,25,24,23,22,21,20,19,18,17,16,15,14,13] [B false,.und,.und,.und,.und,.und,.und,.und,.und,.und,.und,.und,.und,.und,.und,.und,.und,.und] ?_
  refine de 338 rfl rfl ?_
  exact rf [1,2,3,7,30] [1] (j5 _ (ak h) :)
theorem Zp (s_1:State)(dF:List Int)(k_3:Int)(r:(List Int))(h:vJ s_1 dF k_3=some r):bq GO Tryz.f114 [false,false,false] 0 (GN (s_1,dF,k_3)) (GP r):=by
 show Run _ _ (Nl (s_1,dF,k_3) r) [.code xG] _
 refine rI 45 [(0,ae s_1),(1,.isl false (dF.map I)),(2,I k_3)] [] 1 ?_
 unfold vJ at h
 refine ck 8 [3,8] [] [1] [] [.hp 1 0 [] 5 0 0,.isl false (dF.map I)] [some ⟨0,5,[ae s_1]⟩] 49 (by kernel_rfl) ?_
 refine oq 65 (I (len dF)) rfl (bv rfl rfl rfl (bK rfl)) ?_
 refine cq 4 [7] [I (len dF)] 81 ?_
 obtain⟨y9,hy9,hy91,hy92⟩:=bJ h
 refine bP rfl ?_
 refine rf [1,2,3,7] [1] (PS s_1 dF k_3 rfl (len dF) _ hy9 (fun r' e st hq=>by rw[hy91 r' e] at hq;exact hq) fun u9 hu=>?_)
 replace h:=hy92 u9 hu
 refine aq 1 ?_
 refine dt [0,0,0,6,15,0,32,127,0,0,768,2047,4095] rfl (by decide +kernel) ?_
 refine dq [] [] (.hs 1 0 [] 1 0 0) rfl (eD rfl (kG (f:=I) (xs:=[]) (z:=I (0)) (es:=[]) (ws:=[]) rfl rfl rfl (by decide) rfl (dM rfl) rfl)) ?_
 refine dk 2 [35,34] [I u9,.isl false (dF.map I)] ?_
 obtain⟨s10,hs10,h⟩:=bS h
 refine dq [] [] (.isl false (s10.map I)) rfl (gH rfl rfl rfl rfl (zb rfl rfl (fun y=>(pD y).1) rfl rfl hs10)) ?_
 obtain⟨a11,ha11,h⟩:=bS h
 refine dq [1] [1] (.hs 65 0 [] 1 0 (a11.map I).length) rfl (jJ rfl rfl rfl rfl rfl (mW (path:=[]) (es0:=[]) (f:=I) (xs:=([]:List Int)) (ys:=s10) rfl rfl O6 rfl rfl rfl rfl rfl (by decide) pD ha11 rfl qQ)) ?_
 refine dk 1 [38] [I k_3] ?_
 refine dq [] [] (.hs 97 0 [] 1 0 1) rfl (eD rfl (kG (f:=I) (xs:=[]) (z:=I (0)) (es:=[I k_3]) (ws:=[I k_3]) rfl rfl rfl (by decide) rfl (dM rfl) rfl)) ?_
 obtain⟨a12,ha12,h⟩:=bS h
 refine dq [65,97] [65] (.hs 113 0 [] 1 0 (a12.map I).length) rfl (jJ rfl rfl rfl rfl rfl (mW (path:=[]) (f:=I) (xs:=a11) (ys:=[k_3]) rfl rfl (rN rfl rfl rfl) rfl rfl rfl aU rfl (by decide) pD ha12 rfl qQ)) ?_ (Jh rfl (Ip (path:=[]) (f:=I) (xs:=[k_3]) rfl rfl aU af1 rfl))
 refine dk 2 [42,41] [I u9,.isl false (dF.map I)] ?_
 obtain⟨s13,hs13,h⟩:=bS h
 refine dq [] [] (.isl false (s13.map I)) rfl (gH rfl rfl rfl rfl (zb rfl rfl (fun y=>(pD y).1) rfl rfl hs13)) ?_
 obtain⟨a14,ha14,h⟩:=bS h
 refine dq [113] [113] (.hs 177 0 [] 1 0 (a14.map I).length) rfl (jJ rfl rfl rfl rfl rfl (mW (path:=[]) (f:=I) (xs:=a12) (ys:=s13) rfl rfl O6 rfl rfl rfl aU rfl (by decide) pD ha14 rfl qQ)) ?_
 refine dk 1 [6] [.hs 177 0 [] 1 0 (a14.map I).length] ?_
 refine de 209 rfl rfl ?_
 obtain rfl:=sI h
 exact cu rfl ⟨_,fin (vs:=[.hs 177 0 [] 1 0 (a14.map I).length]) rfl (f9 (fZ rfl (dR rfl rfl)) eA) rfl (cQ (cQ (cQ ft))),fj⟩
theorem VS {G:bT}[TabG Tryz.prog G]:bQ G 114 Dg:=gT 3 0 bu bW Tryz.func114 (fun a r h=>Zp a.1 a.2.1 a.2.2 r h)
def GG:(Contract×State×Int×Int)→List V:=cA aM (cA bA (cA I (oA I)))
def GI (r:(List Int)):V×List V:=(.usl 1 (r.map I),[])
noncomputable def Dd :=bb [false,false,false,false] GG GI fun x=>xF x.1 x.2.1 x.2.2.1 x.2.2.2
theorem GH {c_1:Contract}{s_2:State}{dZ:Int}{fb:Int}{r}(h:xF c_1 s_2 dZ fb=some r):Dd.F (GG (c_1,s_2,dZ,fb))=some (GI r):=aF (aJ aP (aJ bN (aJ bi (aG bi)))) h
noncomputable def VO :=aD Tryz.f67
noncomputable abbrev mz :=cL (cL (cR (cL (cR (cR VO)))))
noncomputable abbrev rJ :=cR (cR mz)
noncomputable abbrev uA :=cR (cR (cL (cL (cR mz))))
noncomputable def oJ :=bV [(114,Dg)]
def Nj (x:Contract×State×Int×Int)(r:(List Int)):St→Prop:=QF oJ Tryz.f67 [false,false,false,false] (GG x) (GI r)
theorem PR (c_1:Contract)(s_2:State)(dZ:Int)(fb:Int):cj oJ 0 (Nj (c_1,s_2,dZ,fb)) mz 0 (li c_1 s_2 dZ fb) (fun u=>(sT 62 [(9,.hs 1 0 [] 1 0 (u.map I).length)] [⟨0,1,u.map I⟩] 2)) fun x5=>(sT 62 [(2,I dZ),(3,I fb),(4,.hp 1 0 [] 2 0 0),(5,.hp 2 0 [] 5 0 0),(9,.hs 3 0 [] 1 0 (x5.2.map I).length),(10,I x5.1)] [⟨0,2,[aa c_1]⟩,⟨0,5,[ae s_2]⟩,⟨0,1,x5.2.map I⟩] 4):=ee (AN c_1 s_2 dZ fb) fun {Q K} hK self ih x5 y h hr hn=>by
 unfold lU at h
 refine cq 6 [13,15] [I x5.1,.isl false (s_2.Duties.map ah)] 52 ?_
 refine oq 68 (I (len s_2.Duties)) rfl (bv rfl rfl rfl (bK rfl)) ?_
 refine cq 2 [17] [B (decide (x5.1<(len s_2.Duties)))] 84 ?_
 refine sq h ?_ ?_<;>intro h
 ·refine aq 1 ?_
  refine aq 3 ?_
  refine dt [0,1,0,4,0,28,60,124,255,511,0,2047] rfl (by decide +kernel) ?_
  refine dq [1] [] (.hp 1 0 [] 2 0 1) rfl (al rfl rfl rfl) ?_
  refine dq [1] [] (.isl false (c_1.Clauses.map ap)) rfl (aK rfl rfl) ?_
  refine dq [2] [] (.hp 2 0 [] 5 0 2) rfl (al rfl rfl rfl) ?_
  refine dq [2] [] (.isl false (s_2.Duties.map ah)) rfl (aK rfl rfl) ?_
  refine dk 1 [24] [I x5.1] ?_
  obtain⟨e6,he6,h⟩:=bS h
  refine dq [] [] (.iptr (ah e6) 0) rfl (aj rfl rfl rfl (aZ rfl rfl rfl rfl he6)) ?_
  refine dq [] [] (.iptr (ah e6) 0) rfl (al rfl rfl rfl) ?_
  refine dq [] [] (I e6.Clause) rfl (aK rfl rfl) ?_
  obtain⟨e7,he7,h⟩:=bS h
  refine dq [] [] (.iptr (ao e7) 0) rfl (aj rfl rfl rfl (aZ rfl rfl rfl rfl he7)) ?_
  refine dq [] [] (ao e7) rfl (aK rfl rfl) ?_
  refine dq [] [] (.hp 244 0 [] 12 0 0) rfl (aas (z:=.agg [str ([]),I (0),I (0),str ([]),I (0),I (0),I (0),str ([]),I (0),.isl true [],I (0),str ([])]) rfl rfl rfl) ?_
  refine dz [244] [244] rfl (gb rfl rfl (fm (path:=[]) (pl:=true) (e':=ao e7) (es2':=[ao e7]) rfl (dV rfl) rfl rfl rfl aU rfl rfl rfl rfl rfl eK 0 rfl)) ?_
  refine de 276 rfl rfl ?_
  refine cq 5 [31,32] [.isl false (s_2.Duties.map ah),I x5.1] 324 ?_
  obtain⟨e8,he8,h⟩:=bS h
  refine oq 340 (.iptr (ah e8) 0) rfl (aj rfl rfl rfl (aZ rfl rfl rfl rfl he8)) ?_
  refine cq 4 [37] [B (e8.Status==1)] 404 ?_
  obtain⟨u9,hu9,h⟩:=lJ h
  have j9:Run oJ 0 Q (.code uA::.blk 1::.code rJ::.lp mz::.blk 0::K) (sT 62 [(2,I dZ),(3,I fb),(4,.hp 1 0 [] 2 0 0),(5,.hp 2 0 [] 5 0 0),(9,.hs 3 0 [] 1 0 (x5.2.map I).length),(10,I x5.1),(56,B u9)] [⟨0,2,[aa c_1]⟩,⟨0,5,[ae s_2]⟩,⟨0,1,x5.2.map I⟩] 4):=by
   obtain⟨y10,hy10,hy101,hy102⟩:=bL h
   have j10:∀u10,y10=.inr u10→Run oJ 0 Q (.blk 1::.code rJ::.lp mz::.blk 0::K) (sT 62 [(2,I dZ),(3,I fb),(4,.hp 1 0 [] 2 0 0),(5,.hp 2 0 [] 5 0 0),(9,.hs 3 0 [] 1 0 (u10.map I).length),(10,I x5.1)] [⟨0,2,[aa c_1]⟩,⟨0,5,[ae s_2]⟩,⟨0,1,u10.map I⟩] 4):=by
    intro u10 hu
    replace h:=hy102 u10 hu
    refine cq 6 [10] [I (ai (x5.1+1))] 52 ?_
    refine dh ?_
    exact rf [2,3,4,5,9,10] [1,2,3] (ih _ _ h hr hn :)
   have r10:∀r',y10=.inl r'→∀st,Nj (c_1,s_2,dZ,fb) r' st→Q st:=fun r' e st hq=>hr r' (hy101 r' e) st hq
   replace h:=hy10
   refine sq h ?_ ?_<;>intro h
   ·refine cq 4 [57,58,59] [ae s_2,.hs 3 0 [] 1 0 (x5.2.map I).length,I x5.1] 52 ?_
    obtain⟨r11,hr11,h⟩:=bS h
    refine oq 68 (.hs 52 0 [] 1 0 (r11.map I).length) rfl (bR rfl rfl (cn rfl rfl rfl (aQ (bx rfl) (aQ (oC rfl rfl (ew (f:=I) (g:=I) (xs:=x5.2) rfl rfl (ci jw))) (aQ (bx rfl) cz))) (afx hr11) (.inl (by simp[cY,dH,str,pM (f:=I) yk])) dT rfl rfl rfl)) ?_
    refine cq 2 [9] [.hs 52 0 [] 1 0 (r11.map I).length] 84 ?_
    exact rf [2,3,4,5,9,10] [1,2,52] (j10 _ (ak h) :)
   ·refine aq 1 ?_
    exact rf [2,3,4,5,9,10] [1,2,3] (j10 _ (ak h) :)
  replace h:=hu9
  clear hu9
  refine sp 37 h rfl ?_ ?_<;>intro h
  ·refine cq 3 [40] [B (decide (dZ<0))] 452 ?_
   obtain⟨u12,hu12,h⟩:=lJ h
   have j12:Run oJ 0 Q (.code uA::.blk 1::.code rJ::.lp mz::.blk 0::K) (sT 62 [(2,I dZ),(3,I fb),(4,.hp 1 0 [] 2 0 0),(5,.hp 2 0 [] 5 0 0),(9,.hs 3 0 [] 1 0 (x5.2.map I).length),(10,I x5.1),(56,B u12)] [⟨0,2,[aa c_1]⟩,⟨0,5,[ae s_2]⟩,⟨0,1,x5.2.map I⟩] 4):=by
    subst h
    exact rf [2,3,4,5,9,10,56] [1,2,3] (j9 :)
   replace h:=hu12
   clear hu12
   refine sp 40 h rfl ?_ ?_<;>intro h
   ·refine cq 10 [47,50] [B true,B (decide (fb<0))] 612 ?_
    obtain⟨u13,hu13,h⟩:=lJ h
    have j13:Run oJ 0 Q (.code uA::.blk 1::.code rJ::.lp mz::.blk 0::K) (sT 62 [(2,I dZ),(3,I fb),(4,.hp 1 0 [] 2 0 0),(5,.hp 2 0 [] 5 0 0),(9,.hs 3 0 [] 1 0 (x5.2.map I).length),(10,I x5.1),(56,B u13)] [⟨0,2,[aa c_1]⟩,⟨0,5,[ae s_2]⟩,⟨0,1,x5.2.map I⟩] 4):=by
     subst h
     exact rf [2,3,4,5,9,10,56] [1,2,3] (j12 :)
    replace h:=hu13
    clear hu13
    refine sp 50 h rfl ?_ ?_<;>intro h
    ·refine cq 7 [56] [B true] 708 ?_
     subst h
     exact rf [2,3,4,5,9,10,56] [1,2,3] (j13 :)
    ·refine cq 7 [56] [B (e7.Other==fb)] 708 ?_
     subst h
     exact rf [2,3,4,5,9,10,56] [1,2,3] (j13 :)
   ·refine cq 7 [47] [B (e7.Party==dZ)] 564 ?_
    obtain⟨u14,hu14,h⟩:=lJ h
    have j14:Run oJ 0 Q (.code uA::.blk 1::.code rJ::.lp mz::.blk 0::K) (sT 62 [(2,I dZ),(3,I fb),(4,.hp 1 0 [] 2 0 0),(5,.hp 2 0 [] 5 0 0),(9,.hs 3 0 [] 1 0 (x5.2.map I).length),(10,I x5.1),(56,B u14)] [⟨0,2,[aa c_1]⟩,⟨0,5,[ae s_2]⟩,⟨0,1,x5.2.map I⟩] 4):=by
     subst h
     exact rf [2,3,4,5,9,10,56] [1,2,3] (j12 :)
    replace h:=hu14
    clear hu14
    refine sp 47 h rfl ?_ ?_<;>intro h
    ·refine cq 3 [50] [B (decide (fb<0))] 612 ?_
     obtain⟨u15,hu15,h⟩:=lJ h
     have j15:Run oJ 0 Q (.code uA::.blk 1::.code rJ::.lp mz::.blk 0::K) (sT 62 [(2,I dZ),(3,I fb),(4,.hp 1 0 [] 2 0 0),(5,.hp 2 0 [] 5 0 0),(9,.hs 3 0 [] 1 0 (x5.2.map I).length),(10,I x5.1),(56,B u15)] [⟨0,2,[aa c_1]⟩,⟨0,5,[ae s_2]⟩,⟨0,1,x5.2.map I⟩] 4):=by
      subst h
      exact rf [2,3,4,5,9,10,56] [1,2,3] (j14 :)
     replace h:=hu15
     clear hu15
     refine sp 50 h rfl ?_ ?_<;>intro h
     ·refine cq 7 [56] [B true] 708 ?_
      subst h
      exact rf [2,3,4,5,9,10,56] [1,2,3] (j15 :)
     ·refine cq 7 [56] [B (e7.Other==fb)] 708 ?_
      subst h
      exact rf [2,3,4,5,9,10,56] [1,2,3] (j15 :)
    ·refine cq 10 [56] [B false] 708 ?_
     subst h
     exact rf [2,3,4,5,9,10,56] [1,2,3] (j14 :)
  ·refine cq 20 [56] [B false] 708 ?_
   subst h
   exact rf [2,3,4,5,9,10,56] [1,2,3] (j9 :)
 ·refine aq 1 ?_
  exact rf [9] [3] (hn _ (ak h) :) (hk:=hK)
theorem Zn (c_1:Contract)(s_2:State)(dZ:Int)(fb:Int)(r:(List Int))(h:xF c_1 s_2 dZ fb=some r):bq oJ Tryz.f67 [false,false,false,false] 0 (GG (c_1,s_2,dZ,fb)) (GI r):=by
 show Run _ _ (Nj (c_1,s_2,dZ,fb) r) [.code VO] _
 refine rI 62 [(0,aa c_1),(1,ae s_2),(2,I dZ),(3,I fb)] [] 1 ?_
 unfold xF at h
 refine ck 8 [4,5] [] [1,17] [] [.hp 1 0 [] 2 0 0,.hp 17 0 [] 5 0 0] [some ⟨0,2,[aa c_1]⟩,some ⟨0,5,[ae s_2]⟩] 49 (by kernel_rfl) ?_
 refine oq 65 (.hs 49 0 [] 1 0 0) rfl (eD rfl (kG (f:=I) (xs:=[]) (z:=I (0)) (es:=[]) (ws:=[]) rfl rfl rfl (by decide) rfl (dM rfl) rfl)) ?_
 refine cq 8 [9,10] [.hs 49 0 [] 1 0 0,I (0)] 97 ?_
 obtain⟨y16,hy16,hy161,hy162⟩:=bJ h
 refine bP rfl ?_
 refine rf [2,3,4,5,9,10] [1,17,49] (PR c_1 s_2 dZ fb rfl (0,[]) _ hy16 (fun r' e st hq=>by rw[hy161 r' e] at hq;exact hq) fun u16 hu=>?_)
 replace h:=hy162 u16 hu
 refine cq 5 [8] [.hs 1 0 [] 1 0 (u16.map I).length] 34 ?_
 obtain rfl:=sI h
 exact cu rfl ⟨_,fin (vs:=[.hs 1 0 [] 1 0 (u16.map I).length]) rfl (f9 (fZ rfl (dR rfl rfl)) eA) rfl (cQ (cQ (cQ (cQ ft)))),fj⟩
theorem VP {G:bT}[TabG Tryz.prog G]:bQ G 67 Dd:=gT 4 0 (aL VS bu) bW Tryz.func67 (fun a r h=>Zn a.1 a.2.1 a.2.2.1 a.2.2.2 r h)
def xH:Int→List V:=oA I
def xI (r:ac):V×List V:=(str r,[])
noncomputable def xJ (eq:Int→Option ac):Ent:=bb [false] xH xI eq
theorem zn (eq:Int→Option ac){x}{r}(h:eq x=some r):(xJ eq).F (xH x)=some (xI r):=aF (aG bi) h
noncomputable def vK :=xJ (aN rV)
theorem uC {n_1:Int}{r}(h:Dh n_1=some r):vK.F (xH n_1)=some (xI r):=zn (aN rV) h
noncomputable def afz :=aD Tryz.f83
noncomputable def VT (eq:Int→Option ac):Env:=bV [(83,(xJ eq))]
def afy (eq:Int→Option ac)(x:Int)(r:ac):St→Prop:=QF (VT eq) Tryz.f83 [false] (xH x) (xI r)
theorem Zr (eq:Int→Option ac)(n_1:Int)(r:ac)(h:uB eq n_1=some r):bq (VT eq) Tryz.f83 [false] 0 (xH n_1) (xI r):=by
 show Run _ _ (afy eq n_1 r) [.code afz] _
 refine rI 25 [(0,I n_1)] [] 1 ?_
 unfold uB at h
 refine cq 10 [4] [B (decide (n_1<0))] 49 ?_
 refine sq h ?_ ?_<;>intro h
 ·refine cq 4 [6] [I (ai (0 - n_1))] 81 ?_
  obtain⟨r2,hr2,h⟩:=bS h
  refine oq 97 (str r2) rfl (bR rfl rfl (cn rfl rfl rfl (aQ (bx rfl) cz) (zn eq hr2) (.inr rfl) dT rfl rfl rfl)) ?_
  obtain⟨s3,hs3,h⟩:=bS h
  refine oq 113 (str s3) rfl (fG rfl rfl (fD hs3)) ?_
  refine cq 2 [2] [str s3] 129 ?_
  obtain rfl:=sI h
  exact rP [str s3]
 ·refine aq 1 ?_
  refine cq 6 [10] [B (decide (n_1<10))] 81 ?_
  refine sq h ?_ ?_<;>intro h
  ·refine cq 5 [11,13] [I n_1,I (ai (n_1+1))] 129 ?_
   obtain⟨s4,hs4,h⟩:=bS h
   refine oq 145 (str s4) rfl (gH rfl rfl rfl rfl (zc rfl rfl rfl hs4)) ?_
   refine cq 2 [2] [str s4] 161 ?_
   obtain rfl:=sI h
   exact rP [str s4]
  ·refine aq 1 ?_
   refine aq 1 ?_
   refine dt [0,1,3,0,8,0,32,96,248,511,1023] rfl (by decide +kernel) ?_
   refine dk 2 [16,15] [I (ai (n_1.tdiv 10)),I n_1] ?_
   obtain⟨r5,hr5,h⟩:=bS h
   refine dq [] [] (str r5) rfl (bR rfl rfl (cn rfl rfl rfl (aQ (bx rfl) cz) (zn eq hr5) (.inr rfl) dT rfl rfl rfl)) ?_ (cm rfl rfl rfl rfl (aQ (bx rfl) cz) (zn eq hr5) (.inr rfl) rfl)
   refine dk 5 [22,21,20,19,18] [I (ai ((n_1.tmod 10)+1)),I (n_1.tmod 10),I n_1,I (n_1.tmod 10),I n_1] ?_
   obtain⟨s6,hs6,h⟩:=bS h
   refine dq [] [] (str s6) rfl (gH rfl rfl rfl rfl (zc rfl rfl rfl hs6)) ?_
   obtain⟨s7,hs7,h⟩:=bS h
   refine dq [] [] (str s7) rfl (fG rfl rfl (fD hs7)) ?_
   refine dk 1 [2] [str s7] ?_
   refine de 257 rfl rfl ?_
   obtain rfl:=sI h
   exact rP [str s7]
theorem Kx {G:bT}[TabG Tryz.prog G]:bQ G 83 vK:=jL fun eq g_Ffdw=>gT 1 0 (aL g_Ffdw bu) bW Tryz.func83 (fun a r h=>Zr eq a r h)
def GC:(Contract×State×(List Int))→List V:=cA aM (cA bA (oA (fM I)))
def GE (r:Int):V×List V:=(I r,[])
noncomputable def Dc :=bb [false,false,false] GC GE fun x=>xE x.1 x.2.1 x.2.2
theorem GD {c_1:Contract}{s_2:State}{eE:List Int}{r}(h:xE c_1 s_2 eE=some r):Dc.F (GC (c_1,s_2,eE))=some (GE r):=aF (aJ aP (aJ bN (aG (b7 bi)))) h
noncomputable def VM :=aD Tryz.f66
noncomputable def Ni :=bV []
def VL (x:Contract×State×(List Int))(r:Int):St→Prop:=QF Ni Tryz.f66 [false,false,false] (GC x) (GE r)
theorem PQ (c_1:Contract)(s_2:State)(eE:List Int):cj Ni 0 (VL (c_1,s_2,eE)) (cL (cL (cR (cL (cR (cR VM)))))) 0 (lh c_1 s_2 eE) (fun u=>(sT 32 [(7,I u)] [] 1)) fun x4=>(sT 32 [(2,.isl false (eE.map I)),(3,.hp 1 0 [] 2 0 0),(4,.hp 2 0 [] 5 0 0),(7,I x4.1),(8,I x4.2)] [⟨0,2,[aa c_1]⟩,⟨0,5,[ae s_2]⟩] 3):=ee (AM c_1 s_2 eE) fun {Q K} hK self ih x4 y h hr hn=>by
 unfold lT at h
 refine cq 5 [9,10] [I x4.2,.isl false (eE.map I)] 35 ?_
 refine oq 51 (I (len eE)) rfl (bv rfl rfl rfl (bK rfl)) ?_
 refine cq 2 [12] [B (decide (x4.2<(len eE)))] 67 ?_
 refine sq h ?_ ?_<;>intro h
 ·refine aq 1 ?_
  refine aq 2 ?_
  refine dt [0,0,2,0,8,0,0,96,224,504,1016,2040,4094,8190,16382,32767,65535] rfl (by decide +kernel) ?_
  refine dk 1 [15] [I x4.1] ?_
  refine dq [1] [] (.hp 1 0 [] 2 0 1) rfl (al rfl rfl rfl) ?_
  refine dq [1] [] (.isl false (c_1.Clauses.map ap)) rfl (aK rfl rfl) ?_
  refine dq [2] [] (.hp 2 0 [] 5 0 2) rfl (al rfl rfl rfl) ?_
  refine dq [2] [] (.isl false (s_2.Duties.map ah)) rfl (aK rfl rfl) ?_
  refine dk 2 [21,20] [I x4.2,.isl false (eE.map I)] ?_
  obtain⟨e5,he5,h⟩:=bS h
  refine dq [] [] (.iptr (I e5) 0) rfl (aj rfl rfl rfl (aZ rfl rfl rfl rfl he5)) ?_
  refine dq [] [] (I e5) rfl (aK rfl rfl) ?_
  obtain⟨e6,he6,h⟩:=bS h
  refine dq [] [] (.iptr (ah e6) 0) rfl (aj rfl rfl rfl (aZ rfl rfl rfl rfl he6)) ?_
  refine dq [] [] (.iptr (ah e6) 0) rfl (al rfl rfl rfl) ?_
  refine dq [] [] (I e6.Clause) rfl (aK rfl rfl) ?_
  obtain⟨e7,he7,h⟩:=bS h
  refine dq [] [] (.iptr (ao e7) 0) rfl (aj rfl rfl rfl (aZ rfl rfl rfl rfl he7)) ?_
  refine dq [] [] (.iptr (ao e7) 5) rfl (al rfl rfl rfl) ?_
  refine dq [] [] (I e7.Amount) rfl (aK rfl rfl) ?_
  refine dk 2 [7,30] [I (ai (x4.1+e7.Amount)),I (ai (x4.1+e7.Amount))] ?_
  refine de 339 rfl rfl ?_
  refine cq 6 [8] [I (ai (x4.2+1))] 387 ?_
  refine dh ?_
  exact rf [2,3,4,7,8] [1,2] (ih _ _ h hr hn :)
 ·refine aq 1 ?_
  exact rf [7] [] (hn _ (ak h) :) (hk:=hK)
theorem Zm (c_1:Contract)(s_2:State)(eE:List Int)(r:Int)(h:xE c_1 s_2 eE=some r):bq Ni Tryz.f66 [false,false,false] 0 (GC (c_1,s_2,eE)) (GE r):=by
 show Run _ _ (VL (c_1,s_2,eE) r) [.code VM] _
 refine rI 32 [(0,aa c_1),(1,ae s_2),(2,.isl false (eE.map I))] [] 1 ?_
 unfold xE at h
 refine ck 16 [3,4,7,8] [] [1,17] [] [.hp 1 0 [] 2 0 0,.hp 17 0 [] 5 0 0,I (0),I (0)] [some ⟨0,2,[aa c_1]⟩,some ⟨0,5,[ae s_2]⟩] 81 (by kernel_rfl) ?_
 obtain⟨y8,hy8,hy81,hy82⟩:=bJ h
 refine bP rfl ?_
 refine rf [2,3,4,7,8] [1,17] (PQ c_1 s_2 eE rfl (0,0) _ hy8 (fun r' e st hq=>by rw[hy81 r' e] at hq;exact hq) fun u8 hu=>?_)
 replace h:=hy82 u8 hu
 refine cq 5 [6] [I u8] 33 ?_
 obtain rfl:=sI h
 exact rP [I u8]
theorem VN {G:bT}[TabG Tryz.prog G]:bQ G 66 Dc:=gT 3 0 bu bW Tryz.func66 (fun a r h=>Zm a.1 a.2.1 a.2.2 r h)
def GU:Int→List V:=oA I
def GW (r:ac):V×List V:=(str r,[])
noncomputable def Dk :=bb [false] GU GW fun x=>vL x
theorem uD {x_1:Int}{r}(h:vL x_1=some r):Dk.F (GU x_1)=some (GW r):=aF (aG bi) h
noncomputable def Nm :=aD Tryz.f84
noncomputable def GV :=bV [(83,vK)]
def xK (x:Int)(r:ac):St→Prop:=QF GV Tryz.f84 [false] (GU x) (GW r)
theorem Zt (x_1:Int)(r:ac)(h:vL x_1=some r):bq GV Tryz.f84 [false] 0 (GU x_1) (GW r):=by
 show Run _ _ (xK x_1 r) [.code Nm] _
 refine rI 24 [(0,I x_1)] [] 1 ?_
 unfold vL at h
 refine cq 14 [3,5] [str ([]:ac),B (decide (x_1<0))] 65 ?_
 obtain⟨u2,hu2,h⟩:=lJ h
 have j2:Run GV 0 (xK x_1 r) (.code (cR (cR (cR Nm)))::[]) (sT 24 [(0,I u2.1),(3,str u2.2)] [] 1):=by
  refine cq 5 [8,10] [str u2.2,I (ai (u2.1.tdiv 100))] 49 ?_
  obtain⟨r3,hr3,h⟩:=bS h
  refine oq 65 (str r3) rfl (cP (uC hr3)) ?_
  obtain⟨s4,hs4,h⟩:=bS h
  refine oq 81 (str s4) rfl (fG rfl rfl (fD hs4)) ?_
  obtain⟨s5,hs5,h⟩:=bS h
  refine oq 97 (str s5) rfl (fG rfl rfl (fD hs5)) ?_
  refine cq 9 [3,16] [str s5,B (decide ((u2.1.tmod 100)<10))] 161 ?_
  obtain⟨y6,hy6,hy61,hy62⟩:=bJ h
  have j6:∀u6,y6=.inr u6→Run GV 0 (xK x_1 r) (.code (cR (cR (cR (cR (cR Nm)))))::[]) (sT 24 [(0,I u2.1),(3,str u6)] [] 1):=by
   intro u6 hu
   replace h:=hy62 u6 hu
   refine cq 5 [19,21] [str u6,I (u2.1.tmod 100)] 49 ?_
   obtain⟨r7,hr7,h⟩:=bS h
   refine oq 65 (str r7) rfl (cP (uC hr7)) ?_
   obtain⟨s8,hs8,h⟩:=bS h
   refine oq 81 (str s8) rfl (fG rfl rfl (fD hs8)) ?_
   refine cq 2 [2] [str s8] 97 ?_
   obtain rfl:=sI h
   exact rP [str s8]
  have r6:∀r',y6=.inl r'→∀st,xK x_1 r' st→(xK x_1 r) st:=fun r' e st hq=>by rw[hy61 r' e] at hq;exact hq
  replace h:=hy6
  refine sq h ?_ ?_<;>intro h
  ·refine cq 2 [17] [str s5] 177 ?_
   obtain⟨s9,hs9,h⟩:=bS h
   refine oq 193 (str s9) rfl (fG rfl rfl (fD hs9)) ?_
   refine cq 2 [3] [str s9] 209 ?_
   exact rf [0,3] [] (j6 _ (ak h) :)
  ·refine aq 1 ?_
   exact rf [0,3] [] (j6 _ (ak h) :)
 replace h:=hu2
 clear hu2
 refine qS h rfl rfl ?_ ?_<;>intro h
 ·refine cq 9 [0,3] [I (ai (0 - x_1)),str ([45]:ac)] 129 ?_
  subst h
  exact rf [0,3] [] (j2 :)
 ·refine aq 1 ?_
  subst h
  exact rf [0,3] [] (j2 :)
theorem VW {G:bT}[TabG Tryz.prog G]:bQ G 84 Dk:=gT 1 0 (aL Kx bu) bW Tryz.func84 (fun a r h=>Zt a r h)
def GA:(Contract×State×Int)→List V:=cA aM (cA bA (oA I))
def GB (r:ac×Bool):V×List V:=(.tup [str r.1,B r.2],[])
noncomputable def Db :=bb [false,false,false] GA GB fun x=>Da x.1 x.2.1 x.2.2
theorem VJ {c_1:Contract}{s_2:State}{bn:Int}{r}(h:Da c_1 s_2 bn=some r):Db.F (GA (c_1,s_2,bn))=some (GB r):=aF (aJ aP (aJ bN (aG bi))) h
noncomputable def afv :=aD Tryz.f39
noncomputable def VI :=bV [(65,Df),(67,Dd),(83,vK),(66,Dc),(84,Dk)]
def afu (x:Contract×State×Int)(r:ac×Bool):St→Prop:=QF VI Tryz.f39 [false,false,false] (GA x) (GB r)
theorem Zl (c_1:Contract)(s_2:State)(bn:Int)(r:ac×Bool)(h:Da c_1 s_2 bn=some r):bq VI Tryz.f39 [false,false,false] 0 (GA (c_1,s_2,bn)) (GB r):=by
 show Run _ _ (afu (c_1,s_2,bn) r) [.code afv] _
 refine rI 60 [(0,aa c_1),(1,ae s_2),(2,I bn)] [] 1 ?_
 unfold Da at h
 refine ck 13 [3,4,10,11,12] [] [1,17] [] [.hp 1 0 [] 2 0 0,.hp 17 0 [] 5 0 0,aa c_1,ae s_2,I bn] [some ⟨0,2,[aa c_1]⟩,some ⟨0,5,[ae s_2]⟩] 113 (by kernel_rfl) ?_
 obtain⟨r4,hr4,h⟩:=bS h
 refine oq 129 (B r4) rfl (cP (afw hr4)) ?_
 refine cq 2 [14] [B (!r4)] 145 ?_
 refine sq h ?_ ?_<;>intro h
 ·refine cq 5 [6,7] [str ([]:ac),B false] 177 ?_
  obtain rfl:=sI h
  exact rP [str ([]:ac),B false]
 ·refine aq 1 ?_
  refine aq 1 ?_
  refine dt [0,0,0,7,0,0,0,127,255,511] rfl (by decide +kernel) ?_
  refine dq [1] [] (aa c_1) rfl (aK rfl rfl) ?_
  refine dq [17] [] (ae s_2) rfl (aK rfl rfl) ?_
  refine dk 1 [17] [I bn] ?_
  obtain⟨r5,hr5,h⟩:=bS h
  refine dq [] [] (.hs 193 0 [] 1 0 (r5.map I).length) rfl (cP (GH hr5)) ?_ (cm rfl rfl rfl rfl (aQ (bx rfl) (aQ (bx rfl) (aQ (bx rfl) (aQ (bx rfl) cz)))) (GH hr5) (.inr rfl) rfl)
  refine dq [1] [] (aa c_1) rfl (aK rfl rfl) ?_
  refine dq [17] [] (ae s_2) rfl (aK rfl rfl) ?_
  refine dk 1 [21] [I bn] ?_
  obtain⟨r6,hr6,h⟩:=bS h
  refine dq [] [] (.hs 257 0 [] 1 0 (r6.map I).length) rfl (cP (GH hr6)) ?_ (cm rfl rfl rfl rfl (aQ (bx rfl) (aQ (bx rfl) (aQ (bx rfl) (aQ (bx rfl) cz)))) (GH hr6) (.inr rfl) rfl)
  refine dk 2 [9,8] [.hs 257 0 [] 1 0 (r6.map I).length,.hs 193 0 [] 1 0 (r5.map I).length] ?_
  refine de 305 rfl rfl ?_
  refine aq 1 ?_
  refine dt [0,1,0,7,15,31,0,64,192,511,1023,0,0,0,14784,31168,65535,131071,0,262144,850368,2097151,4194303,0,0,0,60619200,127728064,268435455,536870911,0,1073741824,0,7516192768,16106127360,33547942336,68719476735,137438953471,274877906943] rfl (by decide +kernel) ?_
  refine dq [1] [] (.hp 1 0 [] 2 0 0) rfl (al rfl rfl rfl) ?_
  refine dq [1] [] (.isl false (c_1.Parties.map str)) rfl (aK rfl rfl) ?_
  refine dk 1 [25] [I bn] ?_
  obtain⟨e7,he7,h⟩:=bS h
  refine dq [] [] (.iptr (str e7) 0) rfl (aj rfl rfl rfl (aZ rfl rfl rfl rfl he7)) ?_
  refine dq [] [] (str e7) rfl (aK rfl rfl) ?_
  obtain⟨s8,hs8,h⟩:=bS h
  refine dq [] [] (str s8) rfl (fG rfl rfl (fD hs8)) ?_
  refine dk 1 [29] [.hs 193 0 [] 1 0 (r5.map I).length] ?_
  refine dq [193] [] (I (len r5)) rfl (bv rfl rfl rfl (ri (f:=I) (xs:=r5) rfl rfl)) ?_
  obtain⟨r9,hr9,h⟩:=bS h
  refine dq [] [] (str r9) rfl (cP (uC hr9)) ?_ (cm rfl rfl rfl rfl (aQ (bx rfl) cz) (uC hr9) (.inr rfl) rfl)
  obtain⟨s10,hs10,h⟩:=bS h
  refine dq [] [] (str s10) rfl (fG rfl rfl (fD hs10)) ?_
  obtain⟨s11,hs11,h⟩:=bS h
  refine dq [] [] (str s11) rfl (fG rfl rfl (fD hs11)) ?_
  refine dq [1] [] (aa c_1) rfl (aK rfl rfl) ?_
  refine dq [17] [] (ae s_2) rfl (aK rfl rfl) ?_
  refine dk 1 [36] [.hs 193 0 [] 1 0 (r5.map I).length] ?_
  obtain⟨r12,hr12,h⟩:=bS h
  refine dq [193] [] (I r12) rfl (bR rfl rfl (cn rfl rfl rfl (aQ (bx rfl) (aQ (bx rfl) (aQ (oC rfl rfl (ew (f:=I) (g:=I) (xs:=r5) rfl rfl (ci jw))) cz))) (GD hr12) (.inl rfl) dT rfl rfl rfl)) ?_ (cm rfl rfl rfl rfl (aQ (bx rfl) (aQ (bx rfl) (aQ (oC rfl rfl (ew (f:=I) (g:=I) (xs:=r5) rfl rfl (ci jw))) cz))) (GD hr12) (.inl rfl) rfl)
  obtain⟨r13,hr13,h⟩:=bS h
  refine dq [] [] (str r13) rfl (cP (uD hr13)) ?_ (cm rfl rfl rfl rfl (aQ (bx rfl) cz) (uD hr13) (.inr rfl) rfl)
  obtain⟨s14,hs14,h⟩:=bS h
  refine dq [] [] (str s14) rfl (fG rfl rfl (fD hs14)) ?_
  obtain⟨s15,hs15,h⟩:=bS h
  refine dq [] [] (str s15) rfl (fG rfl rfl (fD hs15)) ?_
  refine dk 1 [41] [.hs 257 0 [] 1 0 (r6.map I).length] ?_
  refine dq [257] [] (I (len r6)) rfl (bv rfl rfl rfl (ri (f:=I) (xs:=r6) rfl rfl)) ?_
  obtain⟨r16,hr16,h⟩:=bS h
  refine dq [] [] (str r16) rfl (cP (uC hr16)) ?_ (cm rfl rfl rfl rfl (aQ (bx rfl) cz) (uC hr16) (.inr rfl) rfl)
  obtain⟨s17,hs17,h⟩:=bS h
  refine dq [] [] (str s17) rfl (fG rfl rfl (fD hs17)) ?_
  obtain⟨s18,hs18,h⟩:=bS h
  refine dq [] [] (str s18) rfl (fG rfl rfl (fD hs18)) ?_
  refine dq [1] [] (aa c_1) rfl (aK rfl rfl) ?_
  refine dq [17] [] (ae s_2) rfl (aK rfl rfl) ?_
  refine dk 1 [48] [.hs 257 0 [] 1 0 (r6.map I).length] ?_
  obtain⟨r19,hr19,h⟩:=bS h
  refine dq [257] [] (I r19) rfl (bR rfl rfl (cn rfl rfl rfl (aQ (bx rfl) (aQ (bx rfl) (aQ (oC rfl rfl (ew (f:=I) (g:=I) (xs:=r6) rfl rfl (ci jw))) cz))) (GD hr19) (.inl rfl) dT rfl rfl rfl)) ?_ (cm rfl rfl rfl rfl (aQ (bx rfl) (aQ (bx rfl) (aQ (oC rfl rfl (ew (f:=I) (g:=I) (xs:=r6) rfl rfl (ci jw))) cz))) (GD hr19) (.inl rfl) rfl)
  obtain⟨r20,hr20,h⟩:=bS h
  refine dq [] [] (str r20) rfl (cP (uD hr20)) ?_ (cm rfl rfl rfl rfl (aQ (bx rfl) cz) (uD hr20) (.inr rfl) rfl)
  obtain⟨s21,hs21,h⟩:=bS h
  refine dq [] [] (str s21) rfl (fG rfl rfl (fD hs21)) ?_
  obtain⟨s22,hs22,h⟩:=bS h
  refine dq [] [] (str s22) rfl (fG rfl rfl (fD hs22)) ?_
  refine dq [17] [] (.hp 17 0 [] 5 0 3) rfl (al rfl rfl rfl) ?_
  refine dq [17] [] (.isl false (s_2.Balances.map I)) rfl (aK rfl rfl) ?_
  refine dk 1 [55] [I bn] ?_
  obtain⟨e23,he23,h⟩:=bS h
  refine dq [] [] (.iptr (I e23) 0) rfl (aj rfl rfl rfl (aZ rfl rfl rfl rfl he23)) ?_
  refine dq [] [] (I e23) rfl (aK rfl rfl) ?_
  obtain⟨r24,hr24,h⟩:=bS h
  refine dq [] [] (str r24) rfl (cP (uD hr24)) ?_ (cm rfl rfl rfl rfl (aQ (bx rfl) cz) (uD hr24) (.inr rfl) rfl)
  obtain⟨s25,hs25,h⟩:=bS h
  refine dq [] [] (str s25) rfl (fG rfl rfl (fD hs25)) ?_
  refine dk 2 [7,6] [B true,str s25] ?_
  refine de 929 rfl rfl ?_
  obtain rfl:=sI h
  exact rP [str s25,B true]
theorem VK {G:bT}[TabG Tryz.prog G]:bQ G 39 Db:=gT 3 0 (aL VR (aL VP (aL Kx (aL VN (aL VW bu))))) bW Tryz.func39 (fun a r h=>Zl a.1 a.2.1 a.2.2 r h)
def EN:(Int×Int×Int)→List V:=cA I (cA I (oA I))
def EO (r:Bool):V×List V:=(B r,[])
noncomputable def iT :=bb [false,false,false] EN EO fun x=>ji x.1 x.2.1 x.2.2
theorem iR {n_1:Int}{o7:Int}{mf:Int}{r}(h:ji n_1 o7 mf=some r):iT.F (EN (n_1,o7,mf))=some (EO r):=aF (aJ bi (aJ bi (aG bi))) h
noncomputable def TB :=aD Tryz.f99
noncomputable def MF :=bV []
def TA (x:Int×Int×Int)(r:Bool):St→Prop:=QF MF Tryz.f99 [false,false,false] (EN x) (EO r)
theorem Yo (n_1:Int)(o7:Int)(mf:Int)(r:Bool)(h:ji n_1 o7 mf=some r):bq MF Tryz.f99 [false,false,false] 0 (EN (n_1,o7,mf)) (EO r):=by
 show Run _ _ (TA (n_1,o7,mf) r) [.code TB] _
 refine rI 15 [(0,I n_1),(1,I o7),(2,I mf)] [] 1 ?_
 unfold ji at h
 refine cq 10 [10] [B (decide (n_1≥o7))] 81 ?_
 obtain⟨u4,hu4,h⟩:=lJ h
 have j4:Run MF 0 (TA (n_1,o7,mf) r) (.code (cR (cR TB))::[]) (sT 15 [(6,B u4)] [] 1):=by
  obtain rfl:=sI h
  exact rP [B u4]
 replace h:=hu4
 clear hu4
 refine sp 10 h rfl ?_ ?_<;>intro h
 ·refine cq 6 [6] [B (decide (n_1≤mf))] 161 ?_
  subst h
  exact rf [6] [] (j4 :)
 ·refine cq 6 [6] [B false] 161 ?_
  subst h
  exact rf [6] [] (j4 :)
theorem jq {G:bT}[TabG Tryz.prog G]:bQ G 99 iT:=gT 3 0 bu bW Tryz.func99 (fun a r h=>Yo a.1 a.2.1 a.2.2 r h)
noncomputable def kS:Ent:=⟨[false,false],wd (qb str) (qb (V.int .u8)) fun s c=>some (I ((Lib.countByte s c.toNat.toUInt8:Nat):Int),[])⟩
theorem Ko {s:ac}{c r:Int}(h:zg s c=some r):kS.F [str s,.int .u8 c]=some (I r,[]):=by
 cases h
 simp only[kS,wd,Iw b8,Iw X5,Option.bind_some]
theorem Kp:Extern.findNext Tryz.f199=none:=by kernel_rfl
theorem Kq:Extern.find Tryz.f199=some Extern.BytealgCount.count:=by kernel_rfl
theorem zU {G:bT}[TabG Tryz.prog G]:bQ G 199 kS:=Q5 (g:=fun s c=>((Lib.countByte s c.toNat.toUInt8:Nat):Int)) Tryz.func199 rfl (by decide) Kp Kq fun s c w=>Lib.run_countString s c w
noncomputable def iL:Ent:=⟨[false,false],wd (qb str) (qb (V.int .u8)) fun s c=>some (I (Lib.indexByte s c.toNat.toUInt8),[])⟩
theorem zh {s:ac}{c r:Int}(h:sH s c=some r):iL.F [str s,.int .u8 c]=some (I r,[]):=by
 cases h
 simp only[iL,wd,Iw b8,Iw X5,Option.bind_some]
theorem zi:Extern.findNext Tryz.f232=none:=by kernel_rfl
theorem zj:Extern.find Tryz.f232=some Extern.BytealgIndexByte.indexByte:=by kernel_rfl
theorem vw {G:bT}[TabG Tryz.prog G]:bQ G 232 iL:=Q5 (g:=fun s c=>Lib.indexByte s c.toNat.toUInt8) Tryz.func232 rfl (by decide) zi zj fun s c w=>Lib.run_indexByteString s c w
def ER:(ac×Int)→List V:=cA str (oA (V.int .u8))
def ES (r:Int):V×List V:=(I r,[])
noncomputable def B6 :=bb [false,false] ER ES fun x=>MJ x.1 x.2
theorem ad8 {s_1:ac}{c_2:Int}{r}(h:MJ s_1 c_2=some r):B6.F (ER (s_1,c_2))=some (ES r):=aF (aJ b8 (aG (Pa (k:=.u8)))) h
noncomputable def aea :=aD Tryz.f218
noncomputable def TE :=bV [(232,iL)]
def ad9 (x:ac×Int)(r:Int):St→Prop:=QF TE Tryz.f218 [false,false] (ER x) (ES r)
theorem Yq (s_1:ac)(c_2:Int)(r:Int)(h:MJ s_1 c_2=some r):bq TE Tryz.f218 [false,false] 0 (ER (s_1,c_2)) (ES r):=by
 show Run _ _ (ad9 (s_1,c_2) r) [.code aea] _
 refine rI 8 [(0,str s_1),(1,.int .u8 c_2)] [] 1 ?_
 unfold MJ at h
 refine cq 8 [5,6] [str s_1,.int .u8 c_2] 49 ?_
 obtain⟨r3,hr3,h⟩:=bS h
 refine oq 65 (I r3) rfl (cP (zh hr3)) ?_
 refine cq 2 [4] [I r3] 81 ?_
 obtain rfl:=sI h
 exact rP [I r3]
theorem TF {G:bT}[TabG Tryz.prog G]:bQ G 218 B6:=gT 2 0 (aL vw bu) bW Tryz.func218 (fun a r h=>Yq a.1 a.2 r h)
def EP:(ac×ac)→List V:=cA str (oA str)
def EQ (r:Int):V×List V:=(I r,[])
noncomputable def B5 :=bb [false,false] EP EQ fun x=>MG x.1 x.2
theorem ad7 {s_1:ac}{br:ac}{r}(h:MG s_1 br=some r):B5.F (EP (s_1,br))=some (EQ r):=aF (aJ b8 (aG b8)) h
noncomputable def MI :=aD Tryz.f200
noncomputable def MH :=bV [(218,B6)]
def TC (x:ac×ac)(r:Int):St→Prop:=QF MH Tryz.f200 [false,false] (EP x) (EQ r)
theorem Yp (s_1:ac)(br:ac)(r:Int)(h:MG s_1 br=some r):bq MH Tryz.f200 [false,false] 0 (EP (s_1,br)) (EQ r):=by
 show Run _ _ (TC (s_1,br) r) [.code MI] _
 refine rI 143 [(0,str s_1),(1,str br)] [] 1 ?_
 unfold MG at h
 refine cq 17 [5,19] [I (len br),B ((len br)==0)] 113 ?_
 obtain⟨u3,hu3,h⟩:=lJ h
 have j3:Run MH 0 (TC (s_1,br) r) (.code (cR (cL (cL (cR (cR MI)))))::.blk 0::.code (cR (cR (cR MI)))::[]) (sT 143 [(0,str s_1),(1,str br),(5,I (len br)),(16,B u3)] [] 1):=by
  refine sq h ?_ ?_<;>intro h
  ·refine cq 4 [4] [I (0)] 17 ?_
   obtain rfl:=sI h
   exact rP [I (0)]
  ·refine cq 6 [24] [B ((len br)==1)] 49 ?_
   refine sq h ?_ ?_<;>intro h
   ·refine cq 4 [27,28] [str s_1,str br] 81 ?_
    obtain⟨c4,hc4,h⟩:=bS h
    refine oq 97 (.int .u8 (c4.toNat:Int)) rfl (ov rfl rfl (tc rfl rfl hc4)) ?_
    obtain⟨r5,hr5,h⟩:=bS h
    refine oq 113 (I r5) rfl (cP (ad8 hr5)) ?_
    refine cq 2 [4] [I r5] 129 ?_
    obtain rfl:=sI h
    exact rP [I r5]
   ·refine cq 8 [31] [B (decide ((len br)≥(len s_1)))] 129 ?_
    refine sq h ?_ ?_<;>intro h
    ·refine cq 4 [4] [I (-1)] 145 ?_
     obtain rfl:=sI h
     exact rP [I (-1)]
    ·cases h
 replace h:=hu3
 clear hu3
 refine sp 19 h rfl ?_ ?_<;>intro h
 ·refine cq 6 [16] [B true] 193 ?_
  subst h
  exact rf [0,1,5,16] [] (j3 :)
 ·refine cq 6 [16] [B (br==s_1)] 193 ?_
  subst h
  exact rf [0,1,5,16] [] (j3 :)
theorem TD {G:bT}[TabG Tryz.prog G]:bQ G 200 B5:=gT 2 0 (aL TF bu) bW Tryz.func200 (fun a r h=>Yp a.1 a.2 r h)
def HS:(ac×ac)→List V:=cA str (oA str)
def HT (r:Int):V×List V:=(I r,[])
noncomputable def vV :=bb [false,false] HS HT fun x=>JH x.1 x.2
theorem WH {s_1:ac}{br:ac}{r}(h:JH s_1 br=some r):vV.F (HS (s_1,br))=some (HT r):=aF (aJ b8 (aG b8)) h
noncomputable def afU :=aD Tryz.f188
noncomputable def WG :=bV [(200,B5)]
def afT (x:ac×ac)(r:Int):St→Prop:=QF WG Tryz.f188 [false,false] (HS x) (HT r)
theorem ZT (s_1:ac)(br:ac)(r:Int)(h:JH s_1 br=some r):bq WG Tryz.f188 [false,false] 0 (HS (s_1,br)) (HT r):=by
 show Run _ _ (afT (s_1,br) r) [.code afU] _
 refine rI 8 [(0,str s_1),(1,str br)] [] 1 ?_
 unfold JH at h
 refine cq 8 [5,6] [str s_1,str br] 49 ?_
 obtain⟨r3,hr3,h⟩:=bS h
 refine oq 65 (I r3) rfl (cP (ad7 hr3)) ?_
 refine cq 2 [4] [I r3] 81 ?_
 obtain rfl:=sI h
 exact rP [I r3]
theorem KC {G:bT}[TabG Tryz.prog G]:bQ G 188 vV:=gT 2 0 (aL TD bu) bW Tryz.func188 (fun a r h=>ZT a.1 a.2 r h)
def HQ:(ac×ac)→List V:=cA str (oA str)
def HR (r:Int):V×List V:=(I r,[])
noncomputable def DJ :=bb [false,false] HQ HR fun x=>NE x.1 x.2
theorem afS {s_1:ac}{br:ac}{r}(h:NE s_1 br=some r):DJ.F (HQ (s_1,br))=some (HR r):=aF (aJ b8 (aG b8)) h
noncomputable def WE :=aD Tryz.f187
noncomputable def NF :=bV [(199,kS),(188,vV)]
def WD (x:ac×ac)(r:Int):St→Prop:=QF NF Tryz.f187 [false,false] (HQ x) (HR r)
theorem Qb (s_1:ac)(br:ac):cj NF 0 (WD (s_1,br)) (cL (cL (cR (cR (cR (cR WE)))))) 0 (QM s_1 br) (fun u=>(sT 34 [] [] 1)) fun x5=>(sT 34 [(0,str x5.1),(1,str br),(5,I x5.2)] [] 1):=ee (Qa s_1 br) fun {Q K} hK self ih x5 y h hr hn=>by
 unfold sR at h
 refine cq 5 [20,21] [str x5.1,str br] 33 ?_
 obtain⟨r6,hr6,h⟩:=bS h
 refine oq 49 (I r6) rfl (cP (WH hr6)) ?_
 refine cq 8 [6,24] [I r6,B (r6==(-1))] 97 ?_
 refine sq h ?_ ?_<;>intro h
 ·refine cq 5 [4] [I x5.2] 129 ?_
  exact cu rfl (hr _ (ak h) _ (qp [I x5.2]))
 ·refine aq 1 ?_
  refine cq 12 [5,28,32] [I (ai (x5.2+1)),str x5.1,I (ai (r6+(len br)))] 225 ?_
  obtain⟨s7,hs7,h⟩:=bS h
  refine oq 241 (str s7) rfl (gH rfl rfl rfl rfl (zc rfl rfl rfl hs7)) ?_
  refine cq 3 [0] [str s7] 257 ?_
  refine dh ?_
  exact rf [0,1,5] [] (ih _ _ h hr hn :)
theorem ZS (s_1:ac)(br:ac)(r:Int)(h:NE s_1 br=some r):bq NF Tryz.f187 [false,false] 0 (HQ (s_1,br)) (HR r):=by
 show Run _ _ (WD (s_1,br) r) [.code WE] _
 refine rI 34 [(0,str s_1),(1,str br)] [] 1 ?_
 unfold NE at h
 refine cq 11 [9] [B ((len br)==0)] 65 ?_
 refine sq h ?_ ?_<;>intro h
 ·cases h
 ·refine aq 1 ?_
  refine cq 7 [15] [B ((len br)==1)] 113 ?_
  refine sq h ?_ ?_<;>intro h
  ·refine cq 4 [16,17] [str s_1,str br] 145 ?_
   obtain⟨c3,hc3,h⟩:=bS h
   refine oq 161 (.int .u8 (c3.toNat:Int)) rfl (ov rfl rfl (tc rfl rfl hc3)) ?_
   obtain⟨r4,hr4,h⟩:=bS h
   refine oq 177 (I r4) rfl (cP (Ko hr4)) ?_
   refine cq 2 [4] [I r4] 193 ?_
   obtain rfl:=sI h
   exact rP [I r4]
  ·refine aq 1 ?_
   refine cq 5 [5] [I (0)] 129 ?_
   obtain⟨y8,hy8,hy81,hy82⟩:=bJ h
   refine bP rfl ?_
   refine rf [0,1,5] [] (Qb s_1 br rfl (s_1,0) _ hy8 (fun r' e st hq=>by rw[hy81 r' e] at hq;exact hq) fun u8 hu=>?_)
   replace h:=hy82 u8 hu
   cases h
theorem WF {G:bT}[TabG Tryz.prog G]:bQ G 187 DJ:=gT 2 0 (aL zU (aL KC bu)) bW Tryz.func187 (fun a r h=>ZS a.1 a.2 r h)
def HW:(ac×ac×Int×Int)→List V:=cA str (cA str (cA I (oA I)))
def HY (r:(List ac)):V×List V:=(.usl 1 (r.map str),[])
noncomputable def DM :=bb [false,false,false,false] HW HY fun x=>NG x.1 x.2.1 x.2.2.1 x.2.2.2
theorem afY {s_1:ac}{d4:ac}{dI:Int}{n_4:Int}{r}(h:NG s_1 d4 dI n_4=some r):DM.F (HW (s_1,d4,dI,n_4))=some (HY r):=aF (aJ b8 (aJ b8 (aJ bi (aG bi)))) h
noncomputable def NH :=aD Tryz.f166
noncomputable abbrev ack :=cL (cL (cL (cR (cR (cR (cR (cR (cR (cR (cR NH))))))))))
noncomputable def HX :=bV [(188,vV),(187,DJ)]
def yg (x:ac×ac×Int×Int)(r:(List ac)):St→Prop:=QF HX Tryz.f166 [false,false,false,false] (HW x) (HY r)
theorem Qc (s_1:ac)(d4:ac)(dI:Int)(n_4:Int)(u5:Int):cj HX 0 (yg (s_1,d4,dI,n_4)) ack 0 (zr s_1 d4 dI n_4 u5) (fun u=>(sT 66 [(0,str u.1),(9,.hs 1 0 [] 1 0 (u.2.2.map str).length),(10,I u.2.1)] [⟨0,1,u.2.2.map str⟩] 2)) fun x7=>(sT 66 [(0,str x7.1),(1,str d4),(2,I dI),(3,I (ai ((if (ai ((len s_1)+1))<u5 then (ai ((len s_1)+1)) else u5) - 1))),(9,.hs 1 0 [] 1 0 (x7.2.2.map str).length),(10,I x7.2.1)] [⟨0,1,x7.2.2.map str⟩] 2):=ee (Bd s_1 d4 dI n_4 u5) fun {Q K} hK self ih x7 y h hr hn=>by
 unfold sS at h
 refine cq 7 [36] [B (decide (x7.2.1<(ai ((if (ai ((len s_1)+1))<u5 then (ai ((len s_1)+1)) else u5) - 1))))] 50 ?_
 refine sq h ?_ ?_<;>intro h
 ·refine aq 1 ?_
  refine cq 5 [37,38] [str x7.1,str d4] 82 ?_
  obtain⟨r8,hr8,h⟩:=bS h
  refine oq 98 (I r8) rfl (cP (WH hr8)) ?_
  refine cq 8 [11,41] [I r8,B (decide (r8<0))] 146 ?_
  refine sq h ?_ ?_<;>intro h
  ·refine aq 1 ?_
   exact rf [0,9,10] [1] (hn _ (ak h) :) (hk:=hK)
  ·refine aq 1 ?_
   refine cq 8 [42,43,44,47] [.hs 1 0 [] 1 0 (x7.2.2.map str).length,I x7.2.1,str x7.1,I (ai (r8+dI))] 242 ?_
   obtain⟨s9,hs9,h⟩:=bS h
   refine oq 258 (str s9) rfl (gH rfl rfl rfl rfl (zc rfl rfl rfl hs9)) ?_
   obtain⟨e10,he10,h⟩:=bS h
   refine oq 274 (.hp 1 0 [] 1 (0+Int.toNat x7.2.1) 0) rfl (aj rfl rfl rfl (dW (f:=str) (xs:=x7.2.2) rfl rfl rfl he10)) ?_
   refine o0 290 rfl rfl (gb rfl rfl (fm (path:=[]) (pl:=true) (e':=str s9) (es2':=(dw x7.2.2 x7.2.1 s9).map str) rfl (dV rfl) rfl rfl rfl aU (du (f:=str) (xs:=x7.2.2) he10) rfl rfl rfl (iP (f:=str) (xs:=x7.2.2) (y:=s9)) eK 0 rfl)) ?_
   try rw[←hY (f:=str) (xs:=x7.2.2) (i:=x7.2.1) (z:=s9)]
   refine cq 8 [50,54] [str x7.1,I (ai (r8+(len d4)))] 370 ?_
   obtain⟨s11,hs11,h⟩:=bS h
   refine oq 386 (str s11) rfl (gH rfl rfl rfl rfl (zc rfl rfl rfl hs11)) ?_
   refine cq 8 [0,10] [str s11,I (ai (x7.2.1+1))] 450 ?_
   refine dh ?_
   exact rf [0,1,2,3,9,10] [1] (ih _ _ h hr hn :)
 ·refine aq 1 ?_
  exact rf [0,9,10] [1] (hn _ (ak h) :) (hk:=hK)
theorem ZV (s_1:ac)(d4:ac)(dI:Int)(n_4:Int)(r:(List ac))(h:NG s_1 d4 dI n_4=some r):bq HX Tryz.f166 [false,false,false,false] 0 (HW (s_1,d4,dI,n_4)) (HY r):=by
 show Run _ _ (yg (s_1,d4,dI,n_4) r) [.code NH] _
 refine rI 66 [(0,str s_1),(1,str d4),(2,I dI),(3,I n_4)] [] 1 ?_
 unfold NG at h
 refine cq 10 [13] [B (n_4==0)] 49 ?_
 refine sq h ?_ ?_<;>intro h
 ·refine cq 4 [8] [.isl true []] 65 ?_
  refine ads 8 0 1 81 (.hs 65 0 [] 1 0 0) rfl rfl rfl rfl rfl ?_
  obtain rfl:=sI h
  exact cu rfl ⟨_,fin (vs:=[.hs 65 0 [] 1 0 0]) rfl (f9 (fZ rfl (dR (k:=0) (es:=[]) rfl rfl)) eA) rfl (cQ (cQ (cQ (cQ ft)))),fj⟩
 ·refine aq 1 ?_
  refine cq 6 [15] [B (d4==([]:ac))] 81 ?_
  refine sq h ?_ ?_<;>intro h
  ·cases h
  ·refine aq 1 ?_
   refine cq 6 [20] [B (decide (n_4<0))] 113 ?_
   obtain⟨y5,hy5,hy51,hy52⟩:=bJ h
   have j5:∀u5,y5=.inr u5→Run HX 0 (yg (s_1,d4,dI,n_4) r) (.code (cR (cR (cR (cR NH))))::[]) (sT 66 [(0,str s_1),(1,str d4),(2,I dI),(3,I u5)] [] 1):=by
    intro u5 hu
    replace h:=hy52 u5 hu
    refine cq 12 [3,30] [I (if (ai ((len s_1)+1))<u5 then (ai ((len s_1)+1)) else u5),I (if (ai ((len s_1)+1))<u5 then (ai ((len s_1)+1)) else u5)] 113 ?_
    obtain⟨m6,hm6,h⟩:=bS h
    refine oq 129 (.hs 113 0 [] 1 0 (m6.map str).length) rfl (lr rfl rfl (IL (f:=str) rfl rfl rfl (by decide) hm6 rfl)) ?_
    refine cq 14 [3,9,10] [I (ai ((if (ai ((len s_1)+1))<u5 then (ai ((len s_1)+1)) else u5) - 1)),.hs 113 0 [] 1 0 (m6.map str).length,I (0)] 209 ?_
    obtain⟨y12,hy12,hy121,hy122⟩:=bJ h
    refine bP rfl ?_
    refine rf [0,1,2,3,9,10] [113] (Qc s_1 d4 dI n_4 u5 rfl (s_1,0,m6) _ hy12 (fun r' e st hq=>by rw[hy121 r' e] at hq;exact hq) fun u12 hu=>?_)
    replace h:=hy122 u12 hu
    refine cq 5 [58,59,60] [.hs 1 0 [] 1 0 (u12.2.2.map str).length,I u12.2.1,str u12.1] 50 ?_
    obtain⟨e13,he13,h⟩:=bS h
    refine oq 66 (.hp 1 0 [] 1 (0+Int.toNat u12.2.1) 0) rfl (aj rfl rfl rfl (dW (f:=str) (xs:=u12.2.2) rfl rfl rfl he13)) ?_
    refine o0 82 rfl rfl (gb rfl rfl (fm (path:=[]) (pl:=true) (e':=str u12.1) (es2':=(dw u12.2.2 u12.2.1 u12.1).map str) rfl (dV rfl) rfl rfl rfl aU (du (f:=str) (xs:=u12.2.2) he13) rfl rfl rfl (iP (f:=str) (xs:=u12.2.2) (y:=u12.1)) eK 0 rfl)) ?_
    try rw[←hY (f:=str) (xs:=u12.2.2) (i:=u12.2.1) (z:=u12.1)]
    refine cq 6 [62,64] [.hs 1 0 [] 1 0 ((dw u12.2.2 u12.2.1 u12.1).map str).length,I (ai (u12.2.1+1))] 130 ?_
    obtain⟨s14,hs14,h⟩:=bS h
    refine oq 146 (.hs 1 0 [] 1 (0+Int.toNat (0)) (Int.toNat (ai (u12.2.1+1)) - Int.toNat (0))) rfl (gH rfl rfl rfl rfl (vt (f:=str) (xs:=(dw u12.2.2 u12.2.1 u12.1)) rfl rfl rfl rfl rfl hs14)) ?_
    refine cq 2 [8] [.hs 1 0 [] 1 (0+Int.toNat (0)) (Int.toNat (ai (u12.2.1+1)) - Int.toNat (0))] 162 ?_
    obtain⟨p15,hp15,h⟩:=bS h
    obtain rfl:=sI h
    exact cu rfl ⟨_,fin (vs:=[.hs 1 0 [] 1 (0+Int.toNat (0)) (Int.toNat (ai (u12.2.1+1)) - Int.toNat (0))]) rfl (f9 (fZ rfl (WT (path:=[]) (f:=str) (xs:=(dw u12.2.2 u12.2.1 u12.1)) rfl rfl aU hp15 rfl qQ)) eA) rfl (cQ (cQ (cQ (cQ ft)))),fj⟩
   have r5:∀r',y5=.inl r'→∀st,yg (s_1,d4,dI,n_4) r' st→(yg (s_1,d4,dI,n_4) r) st:=fun r' e st hq=>by rw[hy51 r' e] at hq;exact hq
   replace h:=hy5
   refine sq h ?_ ?_<;>intro h
   ·refine cq 3 [21,22] [str s_1,str d4] 145 ?_
    obtain⟨r16,hr16,h⟩:=bS h
    refine oq 161 (I r16) rfl (cP (afS hr16)) ?_
    refine cq 3 [3] [I (ai (r16+1))] 193 ?_
    exact rf [0,1,2,3] [] (j5 _ (ak h) :)
   ·refine aq 1 ?_
    exact rf [0,1,2,3] [] (j5 _ (ak h) :)
theorem WK {G:bT}[TabG Tryz.prog G]:bQ G 166 DM:=gT 4 0 (aL KC (aL WF bu)) bW Tryz.func166 (fun a r h=>ZV a.1 a.2.1 a.2.2.1 a.2.2.2 r h)
def HU:(ac×ac)→List V:=cA str (oA str)
def HV (r:(List ac)):V×List V:=(.usl 1 (r.map str),[])
noncomputable def DL :=bb [false,false] HU HV fun x=>DK x.1 x.2
theorem afV {s_1:ac}{d4:ac}{r}(h:DK s_1 d4=some r):DL.F (HU (s_1,d4))=some (HV r):=aF (aJ b8 (aG b8)) h
noncomputable def afX :=aD Tryz.f130
noncomputable def WI :=bV [(166,DM)]
def afW (x:ac×ac)(r:(List ac)):St→Prop:=QF WI Tryz.f130 [false,false] (HU x) (HV r)
theorem ZU (s_1:ac)(d4:ac)(r:(List ac))(h:DK s_1 d4=some r):bq WI Tryz.f130 [false,false] 0 (HU (s_1,d4)) (HV r):=by
 show Run _ _ (afW (s_1,d4) r) [.code afX] _
 refine rI 8 [(0,str s_1),(1,str d4)] [] 1 ?_
 unfold DK at h
 refine cq 8 [5,6] [str s_1,str d4] 49 ?_
 obtain⟨r3,hr3,h⟩:=bS h
 refine oq 65 (.hs 49 0 [] 1 0 (r3.map str).length) rfl (cP (afY hr3)) ?_
 refine cq 2 [4] [.hs 49 0 [] 1 0 (r3.map str).length] 81 ?_
 obtain rfl:=sI h
 exact cu rfl ⟨_,fin (vs:=[.hs 49 0 [] 1 0 (r3.map str).length]) rfl (f9 (fZ rfl (dR rfl rfl)) eA) rfl (cQ (cQ ft)),fj⟩
theorem WJ {G:bT}[TabG Tryz.prog G]:bQ G 130 DL:=gT 2 0 (aL WK bu) bW Tryz.func130 (fun a r h=>ZU a.1 a.2 r h)
def Ge:((List ac)×ac)→List V:=cA (fM str) (oA str)
def Gf (r:Int):V×List V:=(I r,[])
noncomputable def C3 :=bb [false,false] Ge Gf fun x=>C2 x.1 x.2
theorem afp {s_1:List ac}{v_2:ac}{r}(h:C2 s_1 v_2=some r):C3.F (Ge (s_1,v_2))=some (Gf r):=aF (aJ (b7 b8) (aG b8)) h
noncomputable def Vv :=aD Tryz.f165
noncomputable def Na :=bV []
def Vu (x:(List ac)×ac)(r:Int):St→Prop:=QF Na Tryz.f165 [false,false] (Ge x) (Gf r)
theorem PD (s_1:List ac)(v_2:ac):cj Na 0 (Vu (s_1,v_2)) (cL (cL (cR (cL (cR Vv))))) 0 (rG s_1 v_2) (fun u=>(sT 19 [] [] 1)) fun x3=>(sT 19 [(0,.isl false (s_1.map str)),(1,str v_2),(7,I (len s_1)),(8,I x3)] [] 1):=ee (Ay s_1 v_2) fun {Q K} hK self ih x3 y h hr hn=>by
 unfold lR at h
 refine cq 5 [9] [B (decide (x3<(len s_1)))] 17 ?_
 refine sq h ?_ ?_<;>intro h
 ·refine aq 1 ?_
  refine cq 12 [5,11,12,13] [I x3,str v_2,.isl false (s_1.map str),I x3] 97 ?_
  obtain⟨e4,he4,h⟩:=bS h
  refine oq 113 (.iptr (str e4) 0) rfl (aj rfl rfl rfl (aZ rfl rfl rfl rfl he4)) ?_
  refine cq 3 [16] [B (v_2==e4)] 145 ?_
  refine sq h ?_ ?_<;>intro h
  ·refine cq 5 [4] [I x3] 177 ?_
   exact cu rfl (hr _ (ak h) _ (qp [I x3]))
  ·refine aq 1 ?_
   refine cq 5 [8] [I (ai (x3+1))] 177 ?_
   refine dh ?_
   exact rf [0,1,7,8] [] (ih _ _ h hr hn :)
 ·refine aq 1 ?_
  exact rf [] [] (hn _ (ak h) :) (hk:=hK)
theorem Zd (s_1:List ac)(v_2:ac)(r:Int)(h:C2 s_1 v_2=some r):bq Na Tryz.f165 [false,false] 0 (Ge (s_1,v_2)) (Gf r):=by
 show Run _ _ (Vu (s_1,v_2) r) [.code Vv] _
 refine rI 19 [(0,.isl false (s_1.map str)),(1,str v_2)] [] 1 ?_
 unfold C2 at h
 refine cq 8 [6] [.isl false (s_1.map str)] 33 ?_
 refine oq 49 (I (len s_1)) rfl (bv rfl rfl rfl (bK rfl)) ?_
 refine cq 3 [8] [I (0)] 65 ?_
 obtain⟨y5,hy5,hy51,hy52⟩:=bJ h
 refine bP rfl ?_
 refine rf [0,1,7,8] [] (PD s_1 v_2 rfl 0 _ hy5 (fun r' e st hq=>by rw[hy51 r' e] at hq;exact hq) fun u5 hu=>?_)
 replace h:=hy52 u5 hu
 refine cq 4 [4] [I (-1)] 17 ?_
 obtain rfl:=sI h
 exact rP [I (-1)]
theorem Vw {G:bT}[TabG Tryz.prog G]:bQ G 165 C3:=gT 2 0 bu bW Tryz.func165 (fun a r h=>Zd a.1 a.2 r h)
def F0:((List ac)×ac)→List V:=cA (fM str) (oA str)
def F1 (r:Bool):V×List V:=(B r,[])
noncomputable def rT :=bb [false,false] F0 F1 fun x=>rS x.1 x.2
theorem M3 {s_1:List ac}{v_2:ac}{r}(h:rS s_1 v_2=some r):rT.F (F0 (s_1,v_2))=some (F1 r):=aF (aJ (b7 b8) (aG b8)) h
noncomputable def afi :=aD Tryz.f129
noncomputable def Vb :=bV [(165,C3)]
def afh (x:(List ac)×ac)(r:Bool):St→Prop:=QF Vb Tryz.f129 [false,false] (F0 x) (F1 r)
theorem Y6 (s_1:List ac)(v_2:ac)(r:Bool)(h:rS s_1 v_2=some r):bq Vb Tryz.f129 [false,false] 0 (F0 (s_1,v_2)) (F1 r):=by
 show Run _ _ (afh (s_1,v_2) r) [.code afi] _
 refine rI 9 [(0,.isl false (s_1.map str)),(1,str v_2)] [] 1 ?_
 unfold rS at h
 refine cq 8 [5,6] [.isl false (s_1.map str),str v_2] 49 ?_
 obtain⟨r3,hr3,h⟩:=bS h
 refine oq 65 (I r3) rfl (cP (afp hr3)) ?_
 refine cq 3 [4] [B (decide (r3≥0))] 97 ?_
 obtain rfl:=sI h
 exact rP [B (decide (r3≥0))]
theorem xw {G:bT}[TabG Tryz.prog G]:bQ G 129 rT:=gT 2 0 (aL Vw bu) bW Tryz.func129 (fun a r h=>Y6 a.1 a.2 r h)
def LI:ac→List V:=oA str
def LJ (r:Bool):V×List V:=(B r,[])
noncomputable def rK :=bb [false] LI LJ fun x=>wK x
theorem G0 {s_1:ac}{r}(h:wK s_1=some r):rK.F (LI s_1)=some (LJ r):=aF (aG b8) h
noncomputable def zo :=aD Tryz.f81
noncomputable abbrev rX :=cL (cL (cR (cL (cR (cR zo)))))
noncomputable abbrev G1 :=cR (cR (cR rX))
noncomputable abbrev G2 :=cR (cR (cR (cL (cL (cR (cR rX))))))
noncomputable def qV :=bV [(99,iT),(130,DL),(129,rT)]
def sP (x:ac)(r:Bool):St→Prop:=QF qV Tryz.f81 [false] (LI x) (LJ r)
theorem RQ (s_1:ac):cj qV 0 (sP s_1) rX 0 (xL s_1) (fun u=>(sT 46 [(0,str s_1)] [] 1)) fun x4=>(sT 46 [(0,str s_1),(20,I (len s_1)),(21,I x4)] [] 1):=ee (G3 s_1) fun {Q K} hK self ih x4 y h hr hn=>by
 unfold pz at h
 refine cq 5 [22] [B (decide (x4<(len s_1)))] 17 ?_
 refine sq h ?_ ?_<;>intro h
 ·refine aq 1 ?_
  refine cq 11 [24,25] [str s_1,I x4] 81 ?_
  obtain⟨c5,hc5,h⟩:=bS h
  refine oq 97 (.int .u8 (c5.toNat:Int)) rfl (ov rfl rfl (tc rfl rfl hc5)) ?_
  refine cq 7 [4,29] [.int .u8 (c5.toNat:Int),B (decide ((c5.toNat:Int)<97))] 161 ?_
  obtain⟨u6,hu6,h⟩:=lJ h
  have j6:Run qV 0 Q (.code G2::.blk 1::.code G1::.lp rX::.blk 0::K) (sT 46 [(0,str s_1),(20,I (len s_1)),(21,I x4),(40,B u6)] [] 1):=by
   refine sq h ?_ ?_<;>intro h
   ·refine cq 4 [2] [B false] 17 ?_
    exact cu rfl (hr _ (ak h) _ (qp [B false]))
   ·refine aq 1 ?_
    refine cq 5 [21] [I (ai (x4+1))] 33 ?_
    refine dh ?_
    exact rf [0,20,21] [] (ih _ _ h hr hn :)
  replace h:=hu6
  clear hu6
  refine sp 29 h rfl ?_ ?_<;>intro h
  ·refine cq 7 [33,36] [B true,B (decide ((c5.toNat:Int)<48))] 273 ?_
   obtain⟨u7,hu7,h⟩:=lJ h
   have j7:Run qV 0 Q (.code G2::.blk 1::.code G1::.lp rX::.blk 0::K) (sT 46 [(0,str s_1),(20,I (len s_1)),(21,I x4),(40,B u7)] [] 1):=by
    subst h
    exact rf [0,20,21,40] [] (j6 :)
   replace h:=hu7
   clear hu7
   refine sp 36 h rfl ?_ ?_<;>intro h
   ·refine cq 5 [40] [B true] 337 ?_
    subst h
    exact rf [0,20,21,40] [] (j7 :)
   ·refine cq 5 [40] [B (decide ((c5.toNat:Int)>57))] 337 ?_
    subst h
    exact rf [0,20,21,40] [] (j7 :)
  ·refine cq 4 [33] [B (decide ((c5.toNat:Int)>122))] 225 ?_
   obtain⟨u8,hu8,h⟩:=lJ h
   have j8:Run qV 0 Q (.code G2::.blk 1::.code G1::.lp rX::.blk 0::K) (sT 46 [(0,str s_1),(20,I (len s_1)),(21,I x4),(40,B u8)] [] 1):=by
    subst h
    exact rf [0,20,21,40] [] (j6 :)
   replace h:=hu8
   clear hu8
   refine sp 33 h rfl ?_ ?_<;>intro h
   ·refine cq 3 [36] [B (decide ((c5.toNat:Int)<48))] 273 ?_
    obtain⟨u9,hu9,h⟩:=lJ h
    have j9:Run qV 0 Q (.code G2::.blk 1::.code G1::.lp rX::.blk 0::K) (sT 46 [(0,str s_1),(20,I (len s_1)),(21,I x4),(40,B u9)] [] 1):=by
     subst h
     exact rf [0,20,21,40] [] (j8 :)
    replace h:=hu9
    clear hu9
    refine sp 36 h rfl ?_ ?_<;>intro h
    ·refine cq 5 [40] [B true] 337 ?_
     subst h
     exact rf [0,20,21,40] [] (j9 :)
    ·refine cq 5 [40] [B (decide ((c5.toNat:Int)>57))] 337 ?_
     subst h
     exact rf [0,20,21,40] [] (j9 :)
   ·refine cq 8 [40] [B false] 337 ?_
    subst h
    exact rf [0,20,21,40] [] (j8 :)
 ·refine aq 1 ?_
  exact rf [0] [] (hn _ (ak h) :) (hk:=hK)
theorem acg (s_1:ac)(r:Bool)(h:wK s_1=some r):bq qV Tryz.f81 [false] 0 (LI s_1) (LJ r):=by
 show Run _ _ (sP s_1 r) [.code zo] _
 refine rI 46 [(0,str s_1)] [] 1 ?_
 unfold wK at h
 refine cq 9 [6] [I (len s_1)] 49 ?_
 obtain⟨r2,hr2,h⟩:=bS h
 refine oq 65 (B r2) rfl (cP (iR hr2)) ?_
 refine cq 2 [9] [B (!r2)] 97 ?_
 obtain⟨y3,hy3,hy31,hy32⟩:=bJ h
 have j3:∀u3,y3=.inr u3→Run qV 0 (sP s_1 r) (.code (cR (cL (cR zo)))::.code (cR (cR zo))::[]) (sT 46 [(0,str s_1),(18,B u3)] [] 1):=by
  intro u3 hu
  replace h:=hy32 u3 hu
  refine sq h ?_ ?_<;>intro h
  ·refine cq 4 [2] [B false] 17 ?_
   obtain rfl:=sI h
   exact rP [B false]
  ·refine aq 1 ?_
   refine cq 8 [20,21] [I (len s_1),I (0)] 49 ?_
   obtain⟨y10,hy10,hy101,hy102⟩:=bJ h
   refine bP rfl ?_
   refine rf [0,20,21] [] (RQ s_1 rfl 0 _ hy10 (fun r' e st hq=>by rw[hy101 r' e] at hq;exact hq) fun u10 hu=>?_)
   replace h:=hy102 u10 hu
   refine aq 2 ?_
   obtain⟨r11,hr11,h⟩:=bS h
   refine oq 17 (.hs 1 0 [] 1 0 (r11.map str).length) rfl (cP (afV hr11)) ?_
   refine cq 1 [43] [str s_1] 33 ?_
   obtain⟨r12,hr12,h⟩:=bS h
   refine oq 49 (B r12) rfl (bR rfl rfl (cn rfl rfl rfl (aQ (oC rfl rfl (ew (f:=str) (g:=str) (xs:=r11) rfl rfl (ci gl))) (aQ (bx rfl) cz)) (M3 hr12) (.inl rfl) dT rfl rfl rfl)) ?_
   refine cq 3 [2] [B (!r12)] 81 ?_
   obtain rfl:=sI h
   exact rP [B (!r12)]
 have r3:∀r',y3=.inl r'→∀st,sP s_1 r' st→(sP s_1 r) st:=fun r' e st hq=>by rw[hy31 r' e] at hq;exact hq
 replace h:=hy3
 refine sp 9 h rfl ?_ ?_<;>intro h
 ·refine cq 10 [18] [B true] 241 ?_
  exact rf [0,18] [] (j3 _ (ak h) :)
 ·refine cq 1 [10] [str s_1] 113 ?_
  obtain⟨c13,hc13,h⟩:=bS h
  refine oy 129 (.int .u8 (c13.toNat:Int)) rfl (ov rfl rfl (tc rfl rfl hc13)) ?_
  refine cq 3 [14] [B (decide ((c13.toNat:Int)<97))] 177 ?_
  obtain⟨y14,hy14,hy141,hy142⟩:=bL h
  have j14:∀u14,y14=.inr u14→Run qV 0 (sP s_1 r) (.code (cR (cL (cR zo)))::.code (cR (cR zo))::[]) (sT 46 [(0,str s_1),(18,B u14)] [] 1):=by
   intro u14 hu
   replace h:=hy142 u14 hu
   exact rf [0,18] [] (j3 _ (ak h) :)
  have r14:∀r',y14=.inl r'→∀st,sP s_1 r' st→(sP s_1 r) st:=fun r' e st hq=>r3 r' (hy141 r' e) st hq
  replace h:=hy14
  refine sp 14 h rfl ?_ ?_<;>intro h
  ·refine cq 5 [18] [B true] 241 ?_
   exact rf [0,18] [] (j14 _ (ak h) :)
  ·refine cq 1 [15] [str s_1] 193 ?_
   obtain⟨c15,hc15,h⟩:=bS h
   refine oy 209 (.int .u8 (c15.toNat:Int)) rfl (ov rfl rfl (tc rfl rfl hc15)) ?_
   refine cq 3 [18] [B (decide ((c15.toNat:Int)>122))] 241 ?_
   exact rf [0,18] [] (j14 _ (ak h) :)
theorem vN {G:bT}[TabG Tryz.prog G]:bQ G 81 rK:=gT 1 0 (aL jq (aL WJ (aL xw bu))) bW Tryz.func81 (fun a r h=>acg a r h)
def LY:(List ac)→List V:=oA (fM str)
def L0 (r:Bool):V×List V:=(B r,[])
noncomputable def JN :=bb [false] LY L0 fun x=>NL x
theorem agQ {an:List ac}{r}(h:NL an=some r):JN.F (LY an)=some (L0 r):=aF (aG (b7 b8)) h
noncomputable def H4 :=aD Tryz.f98
noncomputable def LZ :=bV [(81,rK),(129,rT),(99,iT)]
def R8 (x:(List ac))(r:Bool):St→Prop:=QF LZ Tryz.f98 [false] (LY x) (L0 r)
theorem R9 (an:List ac):cj LZ 0 (R8 an) (cL (cL (cR (cL (cR H4))))) 0 (yh an) (fun u=>(sT 26 [(0,.isl false (an.map str))] [] 1)) fun x2=>(sT 26 [(0,.isl false (an.map str)),(5,.isl false (an.map str)),(6,I (len an)),(7,I x2)] [] 1):=ee (H5 an) fun {Q K} hK self ih x2 y h hr hn=>by
 unfold nr at h
 refine cq 5 [8] [B (decide (x2<(len an)))] 17 ?_
 refine sq h ?_ ?_<;>intro h
 ·refine aq 1 ?_
  refine cq 5 [9] [I x2] 33 ?_
  obtain⟨e3,he3,h⟩:=bS h
  refine oq 49 (.iptr (str e3) 0) rfl (aj rfl rfl rfl (aZ rfl rfl rfl rfl he3)) ?_
  refine cq 7 [3,4,12] [I x2,str e3,str e3] 113 ?_
  obtain⟨r4,hr4,h⟩:=bS h
  refine oq 129 (B r4) rfl (cP (G0 hr4)) ?_
  refine cq 2 [15] [B (!r4)] 161 ?_
  obtain⟨y5,hy5,hy51,hy52⟩:=bL h
  have j5:∀u5,y5=.inr u5→Run LZ 0 Q (.code (cR (cR (cL (cL (cR (cR (cL (cL (cR (cL (cR H4)))))))))))::.blk 1::.code (cR (cR (cR (cL (cL (cR (cL (cR H4))))))))::.lp (cL (cL (cR (cL (cR H4)))))::.blk 0::K) (sT 26 [(0,.isl false (an.map str)),(5,.isl false (an.map str)),(6,I (len an)),(7,I x2),(21,B u5)] [] 1):=by
   intro u5 hu
   replace h:=hy52 u5 hu
   refine sq h ?_ ?_<;>intro h
   ·refine cq 4 [2] [B false] 17 ?_
    exact cu rfl (hr _ (ak h) _ (qp [B false]))
   ·refine aq 1 ?_
    refine cq 5 [7] [I (ai (x2+1))] 33 ?_
    refine dh ?_
    exact rf [0,5,6,7] [] (ih _ _ h hr hn :)
  have r5:∀r',y5=.inl r'→∀st,R8 an r' st→Q st:=fun r' e st hq=>hr r' (hy51 r' e) st hq
  replace h:=hy5
  refine sp 15 h rfl ?_ ?_<;>intro h
  ·refine cq 7 [21] [B true] 257 ?_
   exact rf [0,5,6,7,21] [] (j5 _ (ak h) :)
  ·refine cq 2 [16,17] [.isl false (an.map str),I x2] 193 ?_
   obtain⟨s6,hs6,h⟩:=bS h
   refine oy 209 (.isl false (s6.map str)) rfl (gH rfl rfl rfl rfl (zb rfl rfl (fun y=>(mq y).1) rfl rfl hs6)) ?_
   refine cq 1 [19] [str e3] 225 ?_
   obtain⟨r7,hr7,h⟩:=bS h
   refine oy 241 (B r7) rfl (cP (M3 hr7)) ?_
   refine cq 2 [21] [B r7] 257 ?_
   exact rf [0,5,6,7,21] [] (j5 _ (ak h) :)
 ·refine aq 1 ?_
  exact rf [0] [] (hn _ (ak h) :) (hk:=hK)
theorem acs (an:List ac)(r:Bool)(h:NL an=some r):bq LZ Tryz.f98 [false] 0 (LY an) (L0 r):=by
 show Run _ _ (R8 an r) [.code H4] _
 refine rI 26 [(0,.isl false (an.map str))] [] 1 ?_
 unfold NL at h
 refine cq 8 [5] [.isl false (an.map str)] 33 ?_
 refine oq 49 (I (len an)) rfl (bv rfl rfl rfl (bK rfl)) ?_
 refine cq 3 [7] [I (0)] 65 ?_
 obtain⟨y8,hy8,hy81,hy82⟩:=bJ h
 refine bP rfl ?_
 refine rf [0,5,6,7] [] (R9 an rfl 0 _ hy8 (fun r' e st hq=>by rw[hy81 r' e] at hq;exact hq) fun u8 hu=>?_)
 replace h:=hy82 u8 hu
 refine cq 3 [23] [.isl false (an.map str)] 17 ?_
 refine oq 33 (I (len an)) rfl (bv rfl rfl rfl (bK rfl)) ?_
 obtain⟨r9,hr9,h⟩:=bS h
 refine oq 49 (B r9) rfl (cP (iR hr9)) ?_
 refine cq 2 [2] [B r9] 65 ?_
 obtain rfl:=sI h
 exact rP [B r9]
theorem Z1 {G:bT}[TabG Tryz.prog G]:bQ G 98 JN:=gT 1 0 (aL vN (aL xw (aL jq bu))) bW Tryz.func98 (fun a r h=>acs a r h)
def L8:(Clause×ac)→List V:=cA ap (oA (fun x:ac=>.iptr (str x) 0))
def L9 (r:Bool):V×List V:=(B r,[])
noncomputable def JR :=bb [false,false] L8 L9 fun x=>WN x.1 x.2
theorem agX {x_1:Clause}{a_2:ac}{r}(h:WN x_1 a_2=some r):JR.F (L8 (x_1,a_2))=some (L9 r):=aF (aJ dC (aG (i8 b8))) h
noncomputable def agZ :=aD Tryz.f175
noncomputable def abD :=bV []
def agY (x:Clause×ac)(r:Bool):St→Prop:=QF abD Tryz.f175 [false,false] (L8 x) (L9 r)
theorem acx (x_1:Clause)(a_2:ac)(r:Bool)(h:WN x_1 a_2=some r):bq abD Tryz.f175 [false,false] 0 (L8 (x_1,a_2)) (L9 r):=by
 show Run _ _ (agY (x_1,a_2) r) [.code agZ] _
 refine rI 8 [(0,ao x_1),(1,.iptr (str a_2) 0)] [] 1 ?_
 unfold WN at h
 refine cq 13 [3] [B (x_1.Id==a_2)] 113 ?_
 obtain rfl:=sI h
 exact rP [B (x_1.Id==a_2)]
theorem Z5 {G:bT}[TabG Tryz.prog G]:bQ G 175 JR:=gT 2 0 bu bW Tryz.func175 (fun a r h=>acx a.1 a.2 r h)
def F2:((List Clause)×ac)→List V:=cA (fM ap) (oA (fun x:ac=>(.fn 175 [.iptr (str x) 0]:V)))
def F3 (r:Int):V×List V:=(I r,[])
noncomputable def CW :=bb [false,false] F2 F3 fun x=>Jv x.1 x.2
theorem afj {s_1:List Clause}{f_2:ac}{r}(h:Jv s_1 f_2=some r):CW.F (F2 (s_1,f_2))=some (F3 r):=aF (aJ (b7 dC) (aG (hP b8))) h
noncomputable def Vd :=aD Tryz.f110
noncomputable def M4 :=bV [(175,JR)]
def Vc (x:(List Clause)×ac)(r:Int):St→Prop:=QF M4 Tryz.f110 [false,false] (F2 x) (F3 r)
theorem Px (s_1:List Clause)(f_2:ac):cj M4 0 (Vc (s_1,f_2)) (cL (cL (cR (cL (cR Vd))))) 0 (uj s_1 f_2) (fun u=>(sT 19 [] [] 1)) fun x3=>(sT 19 [(0,.isl false (s_1.map ap)),(1,.fn 175 [.iptr (str f_2) 0]),(7,I (len s_1)),(8,I x3)] [] 1):=ee (Ap s_1 f_2) fun {Q K} hK self ih x3 y h hr hn=>by
 unfold nP at h
 refine cq 5 [9] [B (decide (x3<(len s_1)))] 17 ?_
 refine sq h ?_ ?_<;>intro h
 ·refine aq 1 ?_
  refine cq 12 [5,11,12,13] [I x3,.fn 175 [.iptr (str f_2) 0],.isl false (s_1.map ap),I x3] 97 ?_
  obtain⟨e4,he4,h⟩:=bS h
  refine oq 113 (.iptr (ao e4) 0) rfl (aj rfl rfl rfl (aZ rfl rfl rfl rfl he4)) ?_
  refine cq 1 [15] [ao e4] 129 ?_
  obtain⟨r5,hr5,h⟩:=bS h
  refine oq 145 (B r5) rfl (cP (agX hr5)) ?_
  refine aq 1 ?_
  refine sq h ?_ ?_<;>intro h
  ·refine cq 5 [4] [I x3] 177 ?_
   exact cu rfl (hr _ (ak h) _ (qp [I x3]))
  ·refine aq 1 ?_
   refine cq 5 [8] [I (ai (x3+1))] 177 ?_
   refine dh ?_
   exact rf [0,1,7,8] [] (ih _ _ h hr hn :)
 ·refine aq 1 ?_
  exact rf [] [] (hn _ (ak h) :) (hk:=hK)
theorem Y7 (s_1:List Clause)(f_2:ac)(r:Int)(h:Jv s_1 f_2=some r):bq M4 Tryz.f110 [false,false] 0 (F2 (s_1,f_2)) (F3 r):=by
 show Run _ _ (Vc (s_1,f_2) r) [.code Vd] _
 refine rI 19 [(0,.isl false (s_1.map ap)),(1,.fn 175 [.iptr (str f_2) 0])] [] 1 ?_
 unfold Jv at h
 refine cq 8 [6] [.isl false (s_1.map ap)] 33 ?_
 refine oq 49 (I (len s_1)) rfl (bv rfl rfl rfl (bK rfl)) ?_
 refine cq 3 [8] [I (0)] 65 ?_
 obtain⟨y6,hy6,hy61,hy62⟩:=bJ h
 refine bP rfl ?_
 refine rf [0,1,7,8] [] (Px s_1 f_2 rfl 0 _ hy6 (fun r' e st hq=>by rw[hy61 r' e] at hq;exact hq) fun u6 hu=>?_)
 replace h:=hy62 u6 hu
 refine cq 4 [4] [I (-1)] 17 ?_
 obtain rfl:=sI h
 exact rP [I (-1)]
theorem Ve {G:bT}[TabG Tryz.prog G]:bQ G 110 CW:=gT 2 0 (aL Z5 bu) bW Tryz.func110 (fun a r h=>Y7 a.1 a.2 r h)
def L6:(Contract×ac)→List V:=cA aM (oA str)
def L7 (r:Int):V×List V:=(I r,[])
noncomputable def JQ :=bb [false,false] L6 L7 fun x=>H6 x.1 x.2
theorem abC {c_1:Contract}{fq:ac}{r}(h:H6 c_1 fq=some r):JQ.F (L6 (c_1,fq))=some (L7 r):=aF (aJ aP (aG b8)) h
noncomputable def agW :=aD Tryz.f140
noncomputable def abB :=bV [(110,CW)]
def agV (x:Contract×ac)(r:Int):St→Prop:=QF abB Tryz.f140 [false,false] (L6 x) (L7 r)
theorem acw (c_1:Contract)(fq:ac)(r:Int)(h:H6 c_1 fq=some r):bq abB Tryz.f140 [false,false] 0 (L6 (c_1,fq)) (L7 r):=by
 show Run _ _ (agV (c_1,fq) r) [.code agW] _
 refine rI 9 [(0,aa c_1),(1,str fq)] [] 1 ?_
 unfold H6 at h
 refine ck 11 [6,7] [] [17] [] [.isl false (c_1.Clauses.map ap),.fn 175 [.hp 17 0 [] 1 0 0]] [some ⟨0,1,[str fq]⟩] 97 (by kernel_rfl) ?_
 obtain⟨r3,hr3,h⟩:=bS h
 refine oq 113 (I r3) rfl (bR rfl rfl (cn rfl rfl rfl (aQ (bx rfl) (aQ (lE (dU (gW (path:=[]) rfl rfl aU rfl rfl) gL)) cz)) (afj hr3) (.inl rfl) dT rfl rfl rfl)) ?_
 refine cq 2 [4] [I r3] 129 ?_
 obtain rfl:=sI h
 exact rP [I r3]
theorem Z4 {G:bT}[TabG Tryz.prog G]:bQ G 140 JQ:=gT 2 0 (aL Ve bu) bW Tryz.func140 (fun a r h=>acw a.1 a.2 r h)
def Eg:Int→List V:=oA I
def Eh (r:Bool):V×List V:=(B r,[])
noncomputable def rQ :=bb [false] Eg Eh fun x=>lz x
theorem rO {ig:Int}{r}(h:lz ig=some r):rQ.F (Eg ig)=some (Eh r):=aF (aG bi) h
noncomputable def adF :=aD Tryz.f78
noncomputable def S8 :=bV [(99,iT)]
def adE (x:Int)(r:Bool):St→Prop:=QF S8 Tryz.f78 [false] (Eg x) (Eh r)
theorem X9 (ig:Int)(r:Bool)(h:lz ig=some r):bq S8 Tryz.f78 [false] 0 (Eg ig) (Eh r):=by
 show Run _ _ (adE ig r) [.code adF] _
 refine rI 5 [(0,I ig)] [] 1 ?_
 unfold lz at h
 refine cq 7 [3] [I ig] 33 ?_
 obtain⟨r2,hr2,h⟩:=bS h
 refine oq 49 (B r2) rfl (cP (iR hr2)) ?_
 refine cq 2 [2] [B r2] 65 ?_
 obtain rfl:=sI h
 exact rP [B r2]
theorem wX {G:bT}[TabG Tryz.prog G]:bQ G 78 rQ:=gT 1 0 (aL jq bu) bW Tryz.func78 (fun a r h=>X9 a r h)
def H7:(Condition×Int)→List V:=cA bM (oA I)
def H8 (r:Int):V×List V:=(I r,[])
noncomputable def DP (bp:(Condition×Int)→Option Int):Ent:=bb [false,false] H7 H8 bp
theorem WP (bp:(Condition×Int)→Option Int){x}{r}(h:bp x=some r):(DP bp).F (H7 x)=some (H8 r):=aF (aJ dE (aG bi)) h
noncomputable def JS :=DP (aN nf)
theorem ag0 {c_1:Condition}{cN:Int}{r}(h:WO c_1 cN=some r):JS.F (H7 (c_1,cN))=some (H8 r):=WP (aN nf) h
noncomputable def vX :=aD Tryz.f176
noncomputable abbrev qr :=cR (cR (cR (cR (cR vX))))
noncomputable abbrev sh :=cR (cL (cR (cR (cR (cR vX)))))
noncomputable def nc (bp:(Condition×Int)→Option Int):Env:=bV [(176,(DP bp)),(81,rK),(78,rQ),(99,iT)]
def fC (bp:(Condition×Int)→Option Int)(x:Condition×Int)(r:Int):St→Prop:=QF (nc bp) Tryz.f176 [false,false] (H7 x) (H8 r)
theorem Sa (bp:(Condition×Int)→Option Int)(c_1:Condition)(cN:Int):cj (nc bp) 0 (fC bp (c_1,cN)) (cL (cL (cR (cL qr)))) 0 (mV bp c_1 cN) (fun u=>(sT 78 [(1,I u)] [] 1)) fun x5=>(sT 78 [(1,I x5.1),(65,.isl false (c_1.Parts.map aH)),(66,I (len c_1.Parts)),(67,I x5.2)] [] 1):=ee (H9 bp c_1 cN) fun {Q K} hK self ih x5 y h hr hn=>by
 unfold mb at h
 refine cq 5 [68] [B (decide (x5.2<(len c_1.Parts)))] 17 ?_
 refine sq h ?_ ?_<;>intro h
 ·refine aq 1 ?_
  refine aq 4 ?_
  obtain⟨e6,he6,h⟩:=bS h
  refine oq 33 (.iptr (au e6) 0) rfl (aj rfl rfl rfl (aZ rfl rfl (dD e6) rfl he6)) ?_
  refine ck 2 [7,70] [] [49] [] [.hp 49 0 [] 4 0 0,au e6] [some ⟨0,4,[.agg [I (0),str ([]),I (0),.isl true []]]⟩] 65 (by kernel_rfl) ?_
  refine fY 49 [.agg [I (0),str ([]),I (0),.usl 4 (([]).map aC)]] rfl rfl (aR (im (aR (.refl _) (aR (.refl _) (aR (.refl _) (aR (.nil _) eV))))) eV) ?_
  refine ck 6 [71,72] [] [49] [] [au e6,I x5.1] [some ⟨2,4,[au e6]⟩] 113 (by kernel_rfl) ?_
  obtain⟨r7,hr7,h⟩:=bS h
  refine oq 129 (I r7) rfl (bR rfl rfl (cn rfl rfl rfl (aQ (bx rfl) (aQ (bx rfl) cz)) (WP bp hr7) (.inr rfl) dT rfl rfl rfl)) ?_
  refine cq 7 [1,75] [I r7,B (decide (r7<0))] 177 ?_
  refine sq h ?_ ?_<;>intro h
  ·refine cq 4 [4] [I (-1)] 193 ?_
   exact cu rfl (hr _ (ak h) _ (qp [I (-1)]))
  ·refine aq 1 ?_
   refine cq 5 [67] [I (ai (x5.2+1))] 209 ?_
   refine dh ?_
   exact rf [1,65,66,67] [] (ih _ _ h hr hn :)
 ·refine aq 1 ?_
  exact rf [1] [] (hn _ (ak h) :) (hk:=hK)
theorem acz (bp:(Condition×Int)→Option Int)(c_1:Condition)(cN:Int)(r:Int)(h:zw bp c_1 cN=some r):bq (nc bp) Tryz.f176 [false,false] 0 (H7 (c_1,cN)) (H8 r):=by
 show Run _ _ (fC bp (c_1,cN) r) [.code vX] _
 refine rI 78 [(0,au c_1),(1,I cN)] [] 1 ?_
 unfold zw at h
 refine ck 13 [1,2] [] [1] [] [I (ai (cN+1)),.hp 1 0 [] 4 0 0] [some ⟨0,4,[au c_1]⟩] 81 (by kernel_rfl) ?_
 refine oq 97 (.hs 81 0 [] 1 0 7) rfl (eD rfl (kG (f:=I) (xs:=[]) (z:=I (0)) (es:=[I (-1),I (0),I (0),I (0),I (1),I (2),I (2)]) (ws:=[I (-1),I (0),I (0),I (0),I (1),I (2),I (2)]) rfl rfl rfl (by decide) rfl (dM rfl) rfl)) ?_
 refine cq 4 [5] [.hs 81 0 [] 1 0 7] 113 ?_
 refine dt [0,1,3,7,15,31,63,127,255,511,1023,2047,511,511,8703,29183,61951,131071,262143] rfl (by decide +kernel) ?_
 refine dk 3 [13,12,11] [B (decide ((ai (cN+1))>15)),B (decide ((ai (cN+1))>15)),I (ai (cN+1))] ?_
 obtain⟨y3,hy3,hy31,hy32⟩:=bJ h
 have j3:∀u3,y3=.inr u3→Run (nc bp) 0 (fC bp (c_1,cN) r) (.code (cR (cL (cR (cR (cR vX)))))::.code (cR (cR (cR (cR vX))))::[]) (sT 78 [(1,I (ai (cN+1))),(2,.hp 1 0 [] 4 0 0),(29,B u3)] [⟨0,4,[au c_1]⟩] 2):=by
  intro u3 hu
  replace h:=hy32 u3 hu
  refine sq h ?_ ?_<;>intro h
  ·refine cq 4 [4] [I (-1)] 18 ?_
   obtain rfl:=sI h
   exact rP [I (-1)]
  ·refine aq 1 ?_
   refine cq 11 [37] [B (!((c_1.Op==2)==(!(c_1.Name==([]:ac)))))] 130 ?_
   obtain⟨y4,hy4,hy41,hy42⟩:=bJ h
   have j4:∀u4,y4=.inr u4→Run (nc bp) 0 (fC bp (c_1,cN) r) (.code sh::.code qr::[]) (sT 78 [(1,I (ai (cN+1))),(2,.hp 1 0 [] 4 0 0),(63,B u4)] [⟨0,4,[au c_1]⟩] 2):=by
    intro u4 hu
    replace h:=hy42 u4 hu
    refine sq h ?_ ?_<;>intro h
    ·refine cq 4 [4] [I (-1)] 18 ?_
     obtain rfl:=sI h
     exact rP [I (-1)]
    ·refine aq 1 ?_
     refine cq 5 [65] [.isl false (c_1.Parts.map aH)] 34 ?_
     refine oq 50 (I (len c_1.Parts)) rfl (bv rfl rfl rfl (bK rfl)) ?_
     refine cq 3 [67] [I (0)] 66 ?_
     obtain⟨y8,hy8,hy81,hy82⟩:=bJ h
     refine bP rfl ?_
     refine rf [1,65,66,67] [] (Sa bp c_1 cN rfl ((ai (cN+1)),0) _ hy8 (fun r' e st hq=>by rw[hy81 r' e] at hq;exact hq) fun u8 hu=>?_)
     replace h:=hy82 u8 hu
     refine cq 5 [4] [I u8] 33 ?_
     obtain rfl:=sI h
     exact rP [I u8]
   have r4:∀r',y4=.inl r'→∀st,fC bp (c_1,cN) r' st→(fC bp (c_1,cN) r) st:=fun r' e st hq=>by rw[hy41 r' e] at hq;exact hq
   replace h:=hy4
   refine sp 37 h rfl ?_ ?_<;>intro h
   ·refine cq 27 [63] [B true] 546 ?_
    exact rf [1,2,63] [1] (j4 _ (ak h) :)
   ·refine cq 4 [41] [B (c_1.Op==2)] 194 ?_
    obtain⟨y9,hy9,hy91,hy92⟩:=bL h
    have j9:∀u9,y9=.inr u9→Run (nc bp) 0 (fC bp (c_1,cN) r) (.code sh::.code qr::[]) (sT 78 [(1,I (ai (cN+1))),(2,.hp 1 0 [] 4 0 0),(63,B u9)] [⟨0,4,[au c_1]⟩] 2):=by
     intro u9 hu
     replace h:=hy92 u9 hu
     exact rf [1,2,63] [1] (j4 _ (ak h) :)
    have r9:∀r',y9=.inl r'→∀st,fC bp (c_1,cN) r' st→(fC bp (c_1,cN) r) st:=fun r' e st hq=>r4 r' (hy91 r' e) st hq
    replace h:=hy9
    refine sp 41 h rfl ?_ ?_<;>intro h
    ·refine cq 2 [43] [str c_1.Name] 226 ?_
     obtain⟨r10,hr10,h⟩:=bS h
     refine oy 242 (B r10) rfl (cP (G0 hr10)) ?_
     refine cq 4 [48] [B (!r10)] 306 ?_
     obtain⟨y11,hy11,hy111,hy112⟩:=bL h
     have j11:∀u11,y11=.inr u11→Run (nc bp) 0 (fC bp (c_1,cN) r) (.code sh::.code qr::[]) (sT 78 [(1,I (ai (cN+1))),(2,.hp 1 0 [] 4 0 0),(63,B u11)] [⟨0,4,[au c_1]⟩] 2):=by
      intro u11 hu
      replace h:=hy112 u11 hu
      exact rf [1,2,63] [1] (j9 _ (ak h) :)
     have r11:∀r',y11=.inl r'→∀st,fC bp (c_1,cN) r' st→(fC bp (c_1,cN) r) st:=fun r' e st hq=>r9 r' (hy111 r' e) st hq
     replace h:=hy11
     refine sp 48 h rfl ?_ ?_<;>intro h
     ·refine cq 16 [63] [B true] 546 ?_
      exact rf [1,2,63] [1] (j11 _ (ak h) :)
     ·refine cq 4 [52] [B (c_1.Op != 3)] 370 ?_
      obtain⟨y12,hy12,hy121,hy122⟩:=bL h
      have j12:∀u12,y12=.inr u12→Run (nc bp) 0 (fC bp (c_1,cN) r) (.code sh::.code qr::[]) (sT 78 [(1,I (ai (cN+1))),(2,.hp 1 0 [] 4 0 0),(63,B u12)] [⟨0,4,[au c_1]⟩] 2):=by
       intro u12 hu
       replace h:=hy122 u12 hu
       exact rf [1,2,63] [1] (j11 _ (ak h) :)
      have r12:∀r',y12=.inl r'→∀st,fC bp (c_1,cN) r' st→(fC bp (c_1,cN) r) st:=fun r' e st hq=>r11 r' (hy121 r' e) st hq
      replace h:=hy12
      refine sp 52 h rfl ?_ ?_<;>intro h
      ·refine cq 6 [58] [B (c_1.Day != 0)] 466 ?_
       obtain⟨y13,hy13,hy131,hy132⟩:=bL h
       have j13:∀u13,y13=.inr u13→Run (nc bp) 0 (fC bp (c_1,cN) r) (.code sh::.code qr::[]) (sT 78 [(1,I (ai (cN+1))),(2,.hp 1 0 [] 4 0 0),(63,B u13)] [⟨0,4,[au c_1]⟩] 2):=by
        intro u13 hu
        replace h:=hy132 u13 hu
        exact rf [1,2,63] [1] (j12 _ (ak h) :)
       have r13:∀r',y13=.inl r'→∀st,fC bp (c_1,cN) r' st→(fC bp (c_1,cN) r) st:=fun r' e st hq=>r12 r' (hy131 r' e) st hq
       replace h:=hy13
       refine sp 58 h rfl ?_ ?_<;>intro h
       ·refine cq 6 [63] [B true] 546 ?_
        exact rf [1,2,63] [1] (j13 _ (ak h) :)
       ·refine cq 2 [60] [I c_1.Day] 498 ?_
        obtain⟨r14,hr14,h⟩:=bS h
        refine oy 514 (B r14) rfl (cP (rO hr14)) ?_
        refine cq 3 [63] [B (!r14)] 546 ?_
        exact rf [1,2,63] [1] (j13 _ (ak h) :)
      ·refine cq 8 [58,60] [B false,I c_1.Day] 498 ?_
       obtain⟨r15,hr15,h⟩:=bS h
       refine oy 514 (B r15) rfl (cP (rO hr15)) ?_
       refine cq 3 [63] [B (!r15)] 546 ?_
       exact rf [1,2,63] [1] (j12 _ (ak h) :)
    ·refine cq 11 [48,52] [B false,B (c_1.Op != 3)] 370 ?_
     obtain⟨y16,hy16,hy161,hy162⟩:=bL h
     have j16:∀u16,y16=.inr u16→Run (nc bp) 0 (fC bp (c_1,cN) r) (.code sh::.code qr::[]) (sT 78 [(1,I (ai (cN+1))),(2,.hp 1 0 [] 4 0 0),(63,B u16)] [⟨0,4,[au c_1]⟩] 2):=by
      intro u16 hu
      replace h:=hy162 u16 hu
      exact rf [1,2,63] [1] (j9 _ (ak h) :)
     have r16:∀r',y16=.inl r'→∀st,fC bp (c_1,cN) r' st→(fC bp (c_1,cN) r) st:=fun r' e st hq=>r9 r' (hy161 r' e) st hq
     replace h:=hy16
     refine sp 52 h rfl ?_ ?_<;>intro h
     ·refine cq 6 [58] [B (c_1.Day != 0)] 466 ?_
      obtain⟨y17,hy17,hy171,hy172⟩:=bL h
      have j17:∀u17,y17=.inr u17→Run (nc bp) 0 (fC bp (c_1,cN) r) (.code sh::.code qr::[]) (sT 78 [(1,I (ai (cN+1))),(2,.hp 1 0 [] 4 0 0),(63,B u17)] [⟨0,4,[au c_1]⟩] 2):=by
       intro u17 hu
       replace h:=hy172 u17 hu
       exact rf [1,2,63] [1] (j16 _ (ak h) :)
      have r17:∀r',y17=.inl r'→∀st,fC bp (c_1,cN) r' st→(fC bp (c_1,cN) r) st:=fun r' e st hq=>r16 r' (hy171 r' e) st hq
      replace h:=hy17
      refine sp 58 h rfl ?_ ?_<;>intro h
      ·refine cq 6 [63] [B true] 546 ?_
       exact rf [1,2,63] [1] (j17 _ (ak h) :)
      ·refine cq 2 [60] [I c_1.Day] 498 ?_
       obtain⟨r18,hr18,h⟩:=bS h
       refine oy 514 (B r18) rfl (cP (rO hr18)) ?_
       refine cq 3 [63] [B (!r18)] 546 ?_
       exact rf [1,2,63] [1] (j17 _ (ak h) :)
     ·refine cq 8 [58,60] [B false,I c_1.Day] 498 ?_
      obtain⟨r19,hr19,h⟩:=bS h
      refine oy 514 (B r19) rfl (cP (rO hr19)) ?_
      refine cq 3 [63] [B (!r19)] 546 ?_
      exact rf [1,2,63] [1] (j16 _ (ak h) :)
 have r3:∀r',y3=.inl r'→∀st,fC bp (c_1,cN) r' st→(fC bp (c_1,cN) r) st:=fun r' e st hq=>by rw[hy31 r' e] at hq;exact hq
 replace h:=hy3
 refine sp 13 h rfl ?_ ?_<;>intro h
 ·refine dk 16 [29,28,27,26,25,24,23,22,21,20,19,18,17,16,15,14] [B true,.und,.und,.und,.und,.und,.und,.und,.und,.und,B true,B true,.und,.und,.und,.und] ?_
  refine de 417 rfl rfl ?_
  exact rf [1,2,29] [1] (j3 _ (ak h) :)
 ·refine dy [1] [] (.hp 1 0 [] 4 0 0) rfl (al rfl rfl rfl) ?_
  refine dy [1] [] (I c_1.Op) rfl (aK rfl rfl) ?_
  obtain⟨r20,hr20,h⟩:=bS h
  refine dy [] [] (B r20) rfl (cP (iR hr20)) ?_ (cm rfl rfl rfl rfl (aQ (bx rfl) (aQ (bx rfl) (aQ (bx rfl) cz))) (iR hr20) (.inr rfl) rfl)
  refine dk 3 [19,18,17] [B (!r20),B (!r20),B (!r20)] ?_
  obtain⟨y21,hy21,hy211,hy212⟩:=bL h
  have j21:∀u21,y21=.inr u21→Run (nc bp) 0 (fC bp (c_1,cN) r) (.code (cR (cL (cR (cR (cR vX)))))::.code (cR (cR (cR (cR vX))))::[]) (sT 78 [(1,I (ai (cN+1))),(2,.hp 1 0 [] 4 0 0),(29,B u21)] [⟨0,4,[au c_1]⟩] 2):=by
   intro u21 hu
   replace h:=hy212 u21 hu
   exact rf [1,2,29] [1] (j3 _ (ak h) :)
  have r21:∀r',y21=.inl r'→∀st,fC bp (c_1,cN) r' st→(fC bp (c_1,cN) r) st:=fun r' e st hq=>r3 r' (hy211 r' e) st hq
  replace h:=hy21
  refine sp 19 h rfl ?_ ?_<;>intro h
  ·refine dk 10 [29,28,27,26,25,24,23,22,21,20] [B true,.und,.und,.und,.und,.und,.und,.und,.und,.und] ?_
   refine de 417 rfl rfl ?_
   exact rf [1,2,29] [1] (j21 _ (ak h) :)
  ·refine dy [1] [] (.hp 1 0 [] 4 0 3) rfl (al rfl rfl rfl) ?_
   refine dy [1] [] (.isl false (c_1.Parts.map aH)) rfl (aK rfl rfl) ?_
   refine dy [] [] (I (len c_1.Parts)) rfl (bv rfl rfl rfl (bK rfl)) ?_
   refine dk 1 [23] [.hs 81 0 [] 1 0 7] ?_
   refine dy [1] [] (.hp 1 0 [] 4 0 0) rfl (al rfl rfl rfl) ?_
   refine dy [1] [] (I c_1.Op) rfl (aK rfl rfl) ?_
   obtain⟨e22,he22,h⟩:=bS h
   refine dy [81] [] (.hp 81 0 [] 1 (0+Int.toNat c_1.Op) 0) rfl (aj rfl rfl rfl (dW (f:=I) (xs:=[(-1),0,0,0,1,2,2]) rfl rfl rfl he22)) ?_
   refine dy [81] [] (I e22) rfl (aK rfl (gt (path:=[]) rfl rfl rfl aU (du (f:=I) (xs:=[(-1),0,0,0,1,2,2]) he22) rfl rfl rfl)) ?_
   refine dk 2 [29,28] [B ((len c_1.Parts) != e22),B ((len c_1.Parts) != e22)] ?_
   refine de 417 rfl rfl ?_
   exact rf [1,2,29] [1] (j21 _ (ak h) :)
theorem Z6 {G:bT}[TabG Tryz.prog G]:bQ G 176 JS:=jL fun bp g_Ffq=>gT 2 0 (aL g_Ffq (aL vN (aL wX (aL jq bu)))) bW Tryz.func176 (fun a r h=>acz bp a.1 a.2 r h)
def LC:Condition→List V:=oA bM
def LD (r:Bool):V×List V:=(B r,[])
noncomputable def Jn :=bb [false] LC LD fun x=>MO x
theorem agG {c_1:Condition}{r}(h:MO c_1=some r):Jn.F (LC c_1)=some (LD r):=aF (aG dE) h
noncomputable def agI :=aD Tryz.f141
noncomputable def abm :=bV [(176,JS)]
def agH (x:Condition)(r:Bool):St→Prop:=QF abm Tryz.f141 [false] (LC x) (LD r)
theorem ab6 (c_1:Condition)(r:Bool)(h:MO c_1=some r):bq abm Tryz.f141 [false] 0 (LC c_1) (LD r):=by
 show Run _ _ (agH c_1 r) [.code agI] _
 refine rI 6 [(0,au c_1)] [] 1 ?_
 unfold MO at h
 refine cq 8 [3] [au c_1] 49 ?_
 obtain⟨r2,hr2,h⟩:=bS h
 refine oq 65 (I r2) rfl (cP (ag0 hr2)) ?_
 refine cq 3 [2] [B (decide (r2>0))] 97 ?_
 obtain rfl:=sI h
 exact rP [B (decide (r2>0))]
theorem YB {G:bT}[TabG Tryz.prog G]:bQ G 141 Jn:=gT 1 0 (aL Z6 bu) bW Tryz.func141 (fun a r h=>ab6 a r h)
def Ms:(Contract×Int)→List V:=cA aM (oA I)
def Mt (r:Bool):V×List V:=(B r,[])
noncomputable def JZ :=bb [false,false] Ms Mt fun x=>NQ x.1 x.2
theorem ahe {c_1:Contract}{i_2:Int}{r}(h:NQ c_1 i_2=some r):JZ.F (Ms (c_1,i_2))=some (Mt r):=aF (aJ aP (aG bi)) h
noncomputable def mE :=aD Tryz.f100
noncomputable abbrev NR :=cR (cL (cR (cR (cR (cR mE)))))
noncomputable abbrev yj :=cR (cR (cR (cR (cR (cR mE)))))
noncomputable abbrev Ih :=cR (cL (cR (cR (cR (cR (cR mE))))))
noncomputable abbrev NS :=cR (cR (cR yj))
noncomputable def kD :=bV [(81,rK),(99,iT),(140,JQ),(141,Jn)]
def eP (x:Contract×Int)(r:Bool):St→Prop:=QF kD Tryz.f100 [false,false] (Ms x) (Mt r)
theorem acI (c_1:Contract)(i_2:Int)(r:Bool)(h:NQ c_1 i_2=some r):bq kD Tryz.f100 [false,false] 0 (Ms (c_1,i_2)) (Mt r):=by
 show Run _ _ (eP (c_1,i_2) r) [.code mE] _
 refine rI 119 [(0,aa c_1),(1,I i_2)] [] 1 ?_
 unfold NQ at h
 refine ck 10 [2,9,10] [] [1] [] [.hp 1 0 [] 2 0 0,.isl false (c_1.Clauses.map ap),I i_2] [some ⟨0,2,[aa c_1]⟩] 81 (by kernel_rfl) ?_
 obtain⟨e3,he3,h⟩:=bS h
 refine oq 97 (.iptr (ao e3) 0) rfl (aj rfl rfl rfl (aZ rfl rfl rfl rfl he3)) ?_
 refine ck 2 [5,12] [] [113] [] [.hp 113 0 [] 12 0 0,ao e3] [some ⟨0,12,[.agg [str ([]),I (0),I (0),str ([]),I (0),I (0),I (0),str ([]),I (0),.isl true [],I (0),str ([])]]⟩] 129 (by kernel_rfl) ?_
 refine fY 113 [.agg [str ([]),I (0),I (0),str ([]),I (0),I (0),I (0),str ([]),I (0),.usl 4 (([]).map aC),I (0),str ([])]] rfl rfl (aR (im (aR (.refl _) (aR (.refl _) (aR (.refl _) (aR (.refl _) (aR (.refl _) (aR (.refl _) (aR (.refl _) (aR (.refl _) (aR (.refl _) (aR (.nil _) (aR (.refl _) (aR (.refl _) eV))))))))))))) eV) ?_
 refine ck 6 [14] [] [113] [] [.isl false (c_1.Parties.map str)] [some ⟨2,12,[ao e3]⟩] 177 (by kernel_rfl) ?_
 refine oq 193 (I (len c_1.Parties)) rfl (bv rfl rfl rfl (bK rfl)) ?_
 refine cq 8 [6,18] [I (ai ((len c_1.Parties) - 1)),str e3.Id] 257 ?_
 obtain⟨r4,hr4,h⟩:=bS h
 refine oq 273 (B r4) rfl (cP (G0 hr4)) ?_
 refine cq 2 [21] [B (!r4)] 305 ?_
 obtain⟨y5,hy5,hy51,hy52⟩:=bJ h
 have j5:∀u5,y5=.inr u5→Run kD 0 (eP (c_1,i_2) r) (.code (cR (cL (cR (cR (cR mE)))))::.code (cR (cR (cR (cR mE))))::[]) (sT 119 [(1,I i_2),(2,.hp 1 0 [] 2 0 0),(5,.hp 2 0 [] 12 0 0),(6,I (ai ((len c_1.Parties) - 1))),(40,B u5)] [⟨0,2,[aa c_1]⟩,⟨0,12,[ao e3]⟩] 3):=by
  intro u5 hu
  replace h:=hy52 u5 hu
  refine sq h ?_ ?_<;>intro h
  ·refine cq 4 [4] [B false] 19 ?_
   obtain rfl:=sI h
   exact rP [B false]
  ·refine aq 1 ?_
   refine cq 6 [42,43] [I e3.Party,I (ai ((len c_1.Parties) - 1))] 51 ?_
   obtain⟨r6,hr6,h⟩:=bS h
   refine oq 67 (B r6) rfl (cP (iR hr6)) ?_
   refine cq 2 [46] [B (!r6)] 99 ?_
   obtain⟨y7,hy7,hy71,hy72⟩:=bJ h
   have j7:∀u7,y7=.inr u7→Run kD 0 (eP (c_1,i_2) r) (.code NR::.code (cR (cR (cR (cR (cR mE)))))::[]) (sT 119 [(1,I i_2),(2,.hp 1 0 [] 2 0 0),(5,.hp 2 0 [] 12 0 0),(65,B u7)] [⟨0,2,[aa c_1]⟩,⟨0,12,[ao e3]⟩] 3):=by
    intro u7 hu
    replace h:=hy72 u7 hu
    refine sq h ?_ ?_<;>intro h
    ·refine cq 4 [4] [B false] 19 ?_
     obtain rfl:=sI h
     exact rP [B false]
    ·refine aq 1 ?_
     refine cq 5 [67] [I e3.Amount] 35 ?_
     obtain⟨r8,hr8,h⟩:=bS h
     refine oq 51 (B r8) rfl (cP (iR hr8)) ?_
     refine cq 2 [70] [B (!r8)] 83 ?_
     obtain⟨y9,hy9,hy91,hy92⟩:=bJ h
     have j9:∀u9,y9=.inr u9→Run kD 0 (eP (c_1,i_2) r) (.code Ih::.code yj::[]) (sT 119 [(1,I i_2),(2,.hp 1 0 [] 2 0 0),(5,.hp 2 0 [] 12 0 0),(90,B u9)] [⟨0,2,[aa c_1]⟩,⟨0,12,[ao e3]⟩] 3):=by
      intro u9 hu
      replace h:=hy92 u9 hu
      refine sq h ?_ ?_<;>intro h
      ·refine cq 4 [4] [B false] 19 ?_
       obtain rfl:=sI h
       exact rP [B false]
      ·refine aq 1 ?_
       refine cq 7 [93] [B (e3.Repair==([]:ac))] 51 ?_
       refine sq h ?_ ?_<;>intro h
       ·refine cq 4 [4] [B true] 67 ?_
        obtain rfl:=sI h
        exact rP [B true]
       ·refine aq 1 ?_
        refine cq 5 [94,96] [aa c_1,str e3.Repair] 99 ?_
        obtain⟨r10,hr10,h⟩:=bS h
        refine oq 115 (I r10) rfl (cP (abC hr10)) ?_
        refine cq 8 [7,101] [I r10,B (e3.Kind != 3)] 195 ?_
        obtain⟨y11,hy11,hy111,hy112⟩:=bJ h
        have j11:∀u11,y11=.inr u11→Run kD 0 (eP (c_1,i_2) r) (.code NS::[]) (sT 119 [(4,B u11)] [] 1):=by
         intro u11 hu
         replace h:=hy112 u11 hu
         obtain rfl:=sI h
         exact rP [B u11]
        have r11:∀r',y11=.inl r'→∀st,eP (c_1,i_2) r' st→(eP (c_1,i_2) r) st:=fun r' e st hq=>by rw[hy111 r' e] at hq;exact hq
        replace h:=hy11
        refine sp 101 h rfl ?_ ?_<;>intro h
        ·refine cq 4 [105] [B (decide (r10≥0))] 259 ?_
         obtain⟨y12,hy12,hy121,hy122⟩:=bL h
         have j12:∀u12,y12=.inr u12→Run kD 0 (eP (c_1,i_2) r) (.code NS::[]) (sT 119 [(4,B u12)] [] 1):=by
          intro u12 hu
          replace h:=hy122 u12 hu
          exact rf [4] [] (j11 _ (ak h) :)
         have r12:∀r',y12=.inl r'→∀st,eP (c_1,i_2) r' st→(eP (c_1,i_2) r) st:=fun r' e st hq=>r11 r' (hy121 r' e) st hq
         replace h:=hy12
         refine sp 105 h rfl ?_ ?_<;>intro h
         ·refine cq 5 [110] [B (r10 != i_2)] 339 ?_
          obtain⟨y13,hy13,hy131,hy132⟩:=bL h
          have j13:∀u13,y13=.inr u13→Run kD 0 (eP (c_1,i_2) r) (.code NS::[]) (sT 119 [(4,B u13)] [] 1):=by
           intro u13 hu
           replace h:=hy132 u13 hu
           exact rf [4] [] (j12 _ (ak h) :)
          have r13:∀r',y13=.inl r'→∀st,eP (c_1,i_2) r' st→(eP (c_1,i_2) r) st:=fun r' e st hq=>r12 r' (hy131 r' e) st hq
          replace h:=hy13
          refine sp 110 h rfl ?_ ?_<;>intro h
          ·refine cq 3 [112,113] [.isl false (c_1.Clauses.map ap),I r10] 387 ?_
           obtain⟨e14,he14,h⟩:=bS h
           refine oy 403 (.iptr (ao e14) 0) rfl (aj rfl rfl rfl (aZ rfl rfl rfl rfl he14)) ?_
           refine cq 6 [4] [B (e14.Kind==1)] 483 ?_
           exact rf [4] [] (j13 _ (ak h) :)
          ·refine cq 10 [4] [B false] 483 ?_
           exact rf [4] [] (j13 _ (ak h) :)
         ·refine cq 15 [4] [B false] 483 ?_
          exact rf [4] [] (j12 _ (ak h) :)
        ·refine cq 19 [4] [B false] 483 ?_
         exact rf [4] [] (j11 _ (ak h) :)
     have r9:∀r',y9=.inl r'→∀st,eP (c_1,i_2) r' st→(eP (c_1,i_2) r) st:=fun r' e st hq=>by rw[hy91 r' e] at hq;exact hq
     replace h:=hy9
     refine sp 70 h rfl ?_ ?_<;>intro h
     ·refine cq 21 [90] [B true] 403 ?_
      exact rf [1,2,5,90] [1,2] (j9 _ (ak h) :)
     ·refine cq 2 [72] [I e3.Within] 115 ?_
      obtain⟨r15,hr15,h⟩:=bS h
      refine oy 131 (B r15) rfl (cP (iR hr15)) ?_
      refine cq 3 [76] [B (!r15)] 179 ?_
      obtain⟨u16,hu16,h⟩:=lJ h
      have j16:Run kD 0 (eP (c_1,i_2) r) (.code Ih::.code yj::[]) (sT 119 [(1,I i_2),(2,.hp 1 0 [] 2 0 0),(5,.hp 2 0 [] 12 0 0),(90,B u16)] [⟨0,2,[aa c_1]⟩,⟨0,12,[ao e3]⟩] 3):=by
       exact rf [1,2,5,90] [1,2] (j9 _ (ak h) :)
      replace h:=hu16
      clear hu16
      refine sp 76 h rfl ?_ ?_<;>intro h
      ·refine cq 15 [90] [B true] 403 ?_
       subst h
       exact rf [1,2,5,90] [1,2] (j16 :)
      ·refine cq 4 [80] [B (e3.Kind != 1)] 243 ?_
       obtain⟨u17,hu17,h⟩:=lJ h
       have j17:Run kD 0 (eP (c_1,i_2) r) (.code Ih::.code yj::[]) (sT 119 [(1,I i_2),(2,.hp 1 0 [] 2 0 0),(5,.hp 2 0 [] 12 0 0),(90,B u17)] [⟨0,2,[aa c_1]⟩,⟨0,12,[ao e3]⟩] 3):=by
        subst h
        exact rf [1,2,5,90] [1,2] (j16 :)
       replace h:=hu17
       clear hu17
       refine sp 80 h rfl ?_ ?_<;>intro h
       ·refine cq 4 [84] [B (e3.Amount != 0)] 307 ?_
        obtain⟨u18,hu18,h⟩:=lJ h
        have j18:Run kD 0 (eP (c_1,i_2) r) (.code Ih::.code yj::[]) (sT 119 [(1,I i_2),(2,.hp 1 0 [] 2 0 0),(5,.hp 2 0 [] 12 0 0),(90,B u18)] [⟨0,2,[aa c_1]⟩,⟨0,12,[ao e3]⟩] 3):=by
         subst h
         exact rf [1,2,5,90] [1,2] (j17 :)
        replace h:=hu18
        clear hu18
        refine sp 84 h rfl ?_ ?_<;>intro h
        ·refine cq 7 [90] [B true] 403 ?_
         subst h
         exact rf [1,2,5,90] [1,2] (j18 :)
        ·refine cq 7 [90] [B (e3.Within != 0)] 403 ?_
         subst h
         exact rf [1,2,5,90] [1,2] (j18 :)
       ·refine cq 11 [90] [B false] 403 ?_
        subst h
        exact rf [1,2,5,90] [1,2] (j17 :)
   have r7:∀r',y7=.inl r'→∀st,eP (c_1,i_2) r' st→(eP (c_1,i_2) r) st:=fun r' e st hq=>by rw[hy71 r' e] at hq;exact hq
   replace h:=hy7
   refine sp 46 h rfl ?_ ?_<;>intro h
   ·refine cq 20 [65] [B true] 403 ?_
    exact rf [1,2,5,65] [1,2] (j7 _ (ak h) :)
   ·refine cq 3 [48,49] [I e3.Other,I (ai ((len c_1.Parties) - 1))] 147 ?_
    obtain⟨r19,hr19,h⟩:=bS h
    refine oy 163 (B r19) rfl (cP (iR hr19)) ?_
    refine cq 3 [53] [B (!r19)] 211 ?_
    obtain⟨y20,hy20,hy201,hy202⟩:=bL h
    have j20:∀u20,y20=.inr u20→Run kD 0 (eP (c_1,i_2) r) (.code NR::.code (cR (cR (cR (cR (cR mE)))))::[]) (sT 119 [(1,I i_2),(2,.hp 1 0 [] 2 0 0),(5,.hp 2 0 [] 12 0 0),(65,B u20)] [⟨0,2,[aa c_1]⟩,⟨0,12,[ao e3]⟩] 3):=by
     intro u20 hu
     replace h:=hy202 u20 hu
     exact rf [1,2,5,65] [1,2] (j7 _ (ak h) :)
    have r20:∀r',y20=.inl r'→∀st,eP (c_1,i_2) r' st→(eP (c_1,i_2) r) st:=fun r' e st hq=>r7 r' (hy201 r' e) st hq
    replace h:=hy20
    refine sp 53 h rfl ?_ ?_<;>intro h
    ·refine cq 13 [65] [B true] 403 ?_
     exact rf [1,2,5,65] [1,2] (j20 _ (ak h) :)
    ·refine cq 7 [60] [B (e3.Party==e3.Other)] 323 ?_
     obtain⟨y21,hy21,hy211,hy212⟩:=bL h
     have j21:∀u21,y21=.inr u21→Run kD 0 (eP (c_1,i_2) r) (.code NR::.code (cR (cR (cR (cR (cR mE)))))::[]) (sT 119 [(1,I i_2),(2,.hp 1 0 [] 2 0 0),(5,.hp 2 0 [] 12 0 0),(65,B u21)] [⟨0,2,[aa c_1]⟩,⟨0,12,[ao e3]⟩] 3):=by
      intro u21 hu
      replace h:=hy212 u21 hu
      exact rf [1,2,5,65] [1,2] (j20 _ (ak h) :)
     have r21:∀r',y21=.inl r'→∀st,eP (c_1,i_2) r' st→(eP (c_1,i_2) r) st:=fun r' e st hq=>r20 r' (hy211 r' e) st hq
     replace h:=hy21
     refine sp 60 h rfl ?_ ?_<;>intro h
     ·refine cq 6 [65] [B true] 403 ?_
      exact rf [1,2,5,65] [1,2] (j21 _ (ak h) :)
     ·refine cq 2 [62] [au e3.When] 355 ?_
      obtain⟨r22,hr22,h⟩:=bS h
      refine oy 371 (B r22) rfl (cP (agG hr22)) ?_
      refine cq 3 [65] [B (!r22)] 403 ?_
      exact rf [1,2,5,65] [1,2] (j21 _ (ak h) :)
 have r5:∀r',y5=.inl r'→∀st,eP (c_1,i_2) r' st→(eP (c_1,i_2) r) st:=fun r' e st hq=>by rw[hy51 r' e] at hq;exact hq
 replace h:=hy5
 refine sp 21 h rfl ?_ ?_<;>intro h
 ·refine cq 20 [40] [B true] 609 ?_
  exact rf [1,2,5,6,40] [1,113] (j5 _ (ak h) :)
 ·refine cq 3 [22,24] [aa c_1,str e3.Id] 353 ?_
  obtain⟨r23,hr23,h⟩:=bS h
  refine oy 369 (I r23) rfl (cP (abC hr23)) ?_
  refine cq 4 [29] [B (r23 != i_2)] 433 ?_
  obtain⟨y24,hy24,hy241,hy242⟩:=bL h
  have j24:∀u24,y24=.inr u24→Run kD 0 (eP (c_1,i_2) r) (.code (cR (cL (cR (cR (cR mE)))))::.code (cR (cR (cR (cR mE))))::[]) (sT 119 [(1,I i_2),(2,.hp 1 0 [] 2 0 0),(5,.hp 2 0 [] 12 0 0),(6,I (ai ((len c_1.Parties) - 1))),(40,B u24)] [⟨0,2,[aa c_1]⟩,⟨0,12,[ao e3]⟩] 3):=by
   intro u24 hu
   replace h:=hy242 u24 hu
   exact rf [1,2,5,6,40] [1,2] (j5 _ (ak h) :)
  have r24:∀r',y24=.inl r'→∀st,eP (c_1,i_2) r' st→(eP (c_1,i_2) r) st:=fun r' e st hq=>r5 r' (hy241 r' e) st hq
  replace h:=hy24
  refine sp 29 h rfl ?_ ?_<;>intro h
  ·refine cq 12 [40] [B true] 609 ?_
   exact rf [1,2,5,6,40] [1,113] (j24 _ (ak h) :)
  ·refine cq 2 [31] [str e3.Action] 465 ?_
   obtain⟨r25,hr25,h⟩:=bS h
   refine oy 481 (B r25) rfl (cP (G0 hr25)) ?_
   refine cq 3 [35] [B (!r25)] 529 ?_
   obtain⟨y26,hy26,hy261,hy262⟩:=bL h
   have j26:∀u26,y26=.inr u26→Run kD 0 (eP (c_1,i_2) r) (.code (cR (cL (cR (cR (cR mE)))))::.code (cR (cR (cR (cR mE))))::[]) (sT 119 [(1,I i_2),(2,.hp 1 0 [] 2 0 0),(5,.hp 2 0 [] 12 0 0),(6,I (ai ((len c_1.Parties) - 1))),(40,B u26)] [⟨0,2,[aa c_1]⟩,⟨0,12,[ao e3]⟩] 3):=by
    intro u26 hu
    replace h:=hy262 u26 hu
    exact rf [1,2,5,6,40] [1,2] (j24 _ (ak h) :)
   have r26:∀r',y26=.inl r'→∀st,eP (c_1,i_2) r' st→(eP (c_1,i_2) r) st:=fun r' e st hq=>r24 r' (hy261 r' e) st hq
   replace h:=hy26
   refine sp 35 h rfl ?_ ?_<;>intro h
   ·refine cq 6 [40] [B true] 609 ?_
    exact rf [1,2,5,6,40] [1,113] (j26 _ (ak h) :)
   ·refine cq 2 [37] [I e3.Kind] 561 ?_
    obtain⟨r27,hr27,h⟩:=bS h
    refine oy 577 (B r27) rfl (cP (iR hr27)) ?_
    refine cq 3 [40] [B (!r27)] 609 ?_
    exact rf [1,2,5,6,40] [1,113] (j26 _ (ak h) :)
theorem aad {G:bT}[TabG Tryz.prog G]:bQ G 100 JZ:=gT 2 0 (aL vN (aL jq (aL Z4 (aL YB bu)))) bW Tryz.func100 (fun a r h=>acI a.1 a.2 r h)
def HZ:(Condition×(List ac))→List V:=cA bM (oA (sG 1 str))
def H1 (r:(List ac)):V×List V:=(.usl 1 (r.map str),[.dead])
noncomputable def DN (cI:(Condition×(List ac))→Option (List ac)):Ent:=bb [false,true] HZ H1 cI
theorem WM (cI:(Condition×(List ac))→Option (List ac)){x}{r}(h:cI x=some r):(DN cI).F (HZ x)=some (H1 r):=aF (aJ dE (aG (jo b8))) h
noncomputable def JL :=DN (aN oM)
theorem abq {c_3:Condition}{dS:List ac}{r}(h:WL c_3 dS=some r):JL.F (HZ (c_3,dS))=some (H1 r):=WM (aN oM) h
noncomputable def R1 :=aD Tryz.f142
noncomputable def LS (cI:(Condition×(List ac))→Option (List ac)):Env:=bV [(142,(DN cI))]
def H0 (cI:(Condition×(List ac))→Option (List ac))(x:Condition×(List ac))(r:(List ac)):St→Prop:=QF (LS cI) Tryz.f142 [false,true] (HZ x) (H1 r)
theorem R3 (cI:(Condition×(List ac))→Option (List ac))(c_3:Condition)(dS:List ac):cj (LS cI) 1 (H0 cI (c_3,dS)) (cL (cL (cR (cL (cR (cR R1)))))) 0 (oO cI c_3 dS) (fun u=>(sO 27 [(1,.hs 2 0 [] 1 0 (u.map str).length)] [none,some ⟨0,1,u.map str⟩] 3)) fun x4=>(sO 27 [(1,.hs 2 0 [] 1 0 (x4.2.map str).length),(16,.isl false (c_3.Parts.map aH)),(17,I (len c_3.Parts)),(18,I x4.1)] [none,some ⟨0,1,x4.2.map str⟩] 3):=ee (H2 cI c_3 dS) fun {Q K} hK self ih x4 y h hr hn=>by
 unfold ma at h
 refine cq 5 [19] [B (decide (x4.1<(len c_3.Parts)))] 19 ?_
 refine sq h ?_ ?_<;>intro h
 ·refine aq 1 ?_
  refine aq 4 ?_
  obtain⟨e5,he5,h⟩:=bS h
  refine oq 35 (.iptr (au e5) 0) rfl (aj rfl rfl rfl (aZ rfl rfl (dD e5) rfl he5)) ?_
  refine ck 2 [6,21] [] [51] [] [.hp 51 0 [] 4 0 0,au e5] [some ⟨0,4,[.agg [I (0),str ([]),I (0),.isl true []]]⟩] 67 (by kernel_rfl) ?_
  refine fY 51 [.agg [I (0),str ([]),I (0),.usl 4 (([]).map aC)]] rfl rfl (aR (im (aR (.refl _) (aR (.refl _) (aR (.refl _) (aR (.nil _) eV))))) eV) ?_
  refine ck 5 [22,23] [] [51] [] [au e5,.hs 2 0 [] 1 0 (x4.2.map str).length] [some ⟨2,4,[au e5]⟩] 115 (by kernel_rfl) ?_
  obtain⟨r6,hr6,h⟩:=bS h
  refine oq 131 (.hs 115 0 [] 1 0 (r6.map str).length) rfl (bR rfl rfl (cn rfl rfl rfl (aQ (bx rfl) (kV (ki rfl (f8 (path:=[]) rfl rfl aU rfl)) cz)) (WM cI hr6) (.inr rfl) (jj rfl rfl rfl ot dT) rfl rfl rfl)) ?_
  refine cq 7 [1,18] [.hs 115 0 [] 1 0 (r6.map str).length,I (ai (x4.1+1))] 179 ?_
  refine dh ?_
  exact rg [1,16,17,18] [180,115] (ih _ _ h hr hn :)
 ·refine aq 1 ?_
  exact rg [1] [20,2] (hn _ (ak h) :) (hk:=hK)
theorem acp (cI:(Condition×(List ac))→Option (List ac))(c_3:Condition)(dS:List ac)(r:(List ac))(h:zt cI c_3 dS=some r):bq (LS cI) Tryz.f142 [false,true] 1 (HZ (c_3,dS)) (H1 r):=by
 show Run _ _ (H0 cI (c_3,dS) r) [.code R1] _
 refine rI 27 [(0,au c_3),(1,.hs 1 0 [] 1 0 (dS.map str).length)] [(1,some ⟨0,1,dS.map str⟩)] 2 ?_
 unfold zt at h
 refine ck 12 [2,9] [] [2] [] [.hp 2 0 [] 4 0 0,B (c_3.Op==2)] [some ⟨0,4,[au c_3]⟩] 82 (by kernel_rfl) ?_
 obtain⟨y3,hy3,hy31,hy32⟩:=bJ h
 have j3:∀u3,y3=.inr u3→Run (LS cI) 1 (H0 cI (c_3,dS) r) (.code (cR (cR R1))::[]) (sO 27 [(1,.hs 2 0 [] 1 0 (u3.map str).length),(2,.hp 3 0 [] 4 0 0)] [none,some ⟨0,1,u3.map str⟩,some ⟨0,4,[au c_3]⟩] 4):=by
  intro u3 hu
  replace h:=hy32 u3 hu
  refine cq 5 [16] [.isl false (c_3.Parts.map aH)] 36 ?_
  refine oq 52 (I (len c_3.Parts)) rfl (bv rfl rfl rfl (bK rfl)) ?_
  refine cq 3 [18] [I (0)] 68 ?_
  obtain⟨y7,hy7,hy71,hy72⟩:=bJ h
  refine bP rfl ?_
  refine rg [1,16,17,18] [69,2] (R3 cI c_3 dS rfl (0,u3) _ hy7 (fun r' e st hq=>by rw[hy71 r' e] at hq;exact hq) fun u7 hu=>?_)
  replace h:=hy72 u7 hu
  refine cq 5 [4] [.hs 2 0 [] 1 0 (u7.map str).length] 35 ?_
  obtain rfl:=sI h
  exact cu rfl ⟨_,fin (vs:=[.hs 2 0 [] 1 0 (u7.map str).length]) rfl (f9 (fZ rfl (dR rfl rfl)) eA) rfl (cQ (mj rfl (ro rfl) ft)),wn fj⟩
 have r3:∀r',y3=.inl r'→∀st,H0 cI (c_3,dS) r' st→(H0 cI (c_3,dS) r) st:=fun r' e st hq=>by rw[hy31 r' e] at hq;exact hq
 replace h:=hy3
 refine sq h ?_ ?_<;>intro h
 ·refine cq 4 [10,12] [.hs 1 0 [] 1 0 (dS.map str).length,str c_3.Name] 130 ?_
  refine oq 146 (.hs 130 0 [] 1 0 1) rfl (eD rfl (kG (f:=I) (xs:=[]) (z:=str ([])) (es:=[str c_3.Name]) (ws:=[str c_3.Name]) rfl rfl rfl (by decide) rfl (dM rfl) rfl)) ?_
  obtain⟨a8,ha8,h⟩:=bS h
  refine oq 162 (.hs 146 0 [] 1 0 (a8.map str).length) rfl (jJ rfl rfl rfl rfl rfl (mW (path:=[]) (f:=str) (xs:=dS) (ys:=[c_3.Name]) rfl rfl (rN rfl rfl rfl) rfl rfl rfl aU rfl (by decide) mq ha8 rfl qQ)) ?_
  refine cq 2 [1] [.hs 146 0 [] 1 0 (a8.map str).length] 178 ?_
  exact rg [1,2] [179,146,2] (j3 _ (ak h) :)
 ·refine aq 1 ?_
  exact rg [1,2] [83,1,2] (j3 _ (ak h) :)
theorem ZZ {G:bT}[TabG Tryz.prog G]:bQ G 142 JL:=jL fun cI g_Ffi=>gT 2 1 (aL g_Ffi bu) bW Tryz.func142 (fun a r h=>acp cI a.1 a.2 r h)
def Pb:Shelf.Ren:=⟨fun | 190=>177 | 125=>192 | 258=>191 | 128=>214 | 129=>215 | 302=>205 | 303=>206 | 304=>207 | 305=>208 | 306=>209 | 307=>210 | 308=>211 | 309=>212 | 310=>213 | 333=>226 | 329=>227 | 330=>228 | 334=>229 | 335=>230 | 336=>231 | 344=>236 | n=>n,fun | 31=>22 | 9=>9 | 3=>3 | 46=>158 | 0=>0 | 51=>195 | 53=>181 | 4=>4 | 183=>188 | 182=>187 | 131=>43 | 5=>5 | 218=>199 | 222=>203 | 228=>211 | 229=>212 | n=>n,fun | n=>n⟩
theorem abf:Go.Proofs.Lays.n190 Tryz.prog Pb where
 mixed:=by kernel_rfl
 f125:=Tryz.func192.trans (congrArg some (by kernel_rfl))
 f128:=Tryz.func214.trans (congrArg some (by kernel_rfl))
 f129:=Tryz.func215.trans (congrArg some (by kernel_rfl))
 f190:=Tryz.func177.trans (congrArg some (by kernel_rfl))
 f258:=Tryz.func191.trans (congrArg some (by kernel_rfl))
 f302:=Tryz.func205.trans (congrArg some (by kernel_rfl))
 f303:=Tryz.func206.trans (congrArg some (by kernel_rfl))
 f304:=Tryz.func207.trans (congrArg some (by kernel_rfl))
 f305:=Tryz.func208.trans (congrArg some (by kernel_rfl))
 f306:=Tryz.func209.trans (congrArg some (by kernel_rfl))
 f307:=Tryz.func210.trans (congrArg some (by kernel_rfl))
 f308:=Tryz.func211.trans (congrArg some (by kernel_rfl))
 f309:=Tryz.func212.trans (congrArg some (by kernel_rfl))
 f310:=Tryz.func213.trans (congrArg some (by kernel_rfl))
 f329:=Tryz.func227.trans (congrArg some (by kernel_rfl))
 f330:=Tryz.func228.trans (congrArg some (by kernel_rfl))
 f333:=Tryz.func226.trans (congrArg some (by kernel_rfl))
 f334:=Tryz.func229.trans (congrArg some (by kernel_rfl))
 f335:=Tryz.func230.trans (congrArg some (by kernel_rfl))
 f336:=Tryz.func231.trans (congrArg some (by kernel_rfl))
 f344:=Tryz.func236.trans (congrArg some (by kernel_rfl))
 t0:=Tryz.underlying0
 a0:=Tryz.isAgg0
 z0:=Tryz.sizeOf0
 v0:=Tryz.zeroValue0
 t3:=Tryz.underlying3
 a3:=Tryz.isAgg3
 z3:=Tryz.sizeOf3
 v3:=Tryz.zeroValue3
 t4:=Tryz.underlying4
 a4:=Tryz.isAgg4
 z4:=Tryz.sizeOf4
 v4:=Tryz.zeroValue4
 t5:=Tryz.underlying5
 a5:=Tryz.isAgg5
 z5:=Tryz.sizeOf5
 v5:=Tryz.zeroValue5
 t9:=Tryz.underlying9
 a9:=Tryz.isAgg9
 z9:=Tryz.sizeOf9
 v9:=Tryz.zeroValue9
 t31:=Tryz.underlying22
 a31:=Tryz.isAgg22
 z31:=Tryz.sizeOf22
 v31:=Tryz.zeroValue22
 t46:=Tryz.underlying158
 a46:=Tryz.isAgg158
 z46:=Tryz.sizeOf158
 v46:=Tryz.zeroValue158
 t51:=Tryz.underlying195
 a51:=Tryz.isAgg195
 z51:=Tryz.sizeOf195
 v51:=Tryz.zeroValue195
 t53:=Tryz.underlying181
 a53:=Tryz.isAgg181
 z53:=Tryz.sizeOf181
 v53:=Tryz.zeroValue181
 t131:=Tryz.underlying43
 a131:=Tryz.isAgg43
 z131:=Tryz.sizeOf43
 v131:=Tryz.zeroValue43
 t182:=Tryz.underlying187
 a182:=Tryz.isAgg187
 z182:=Tryz.sizeOf187
 v182:=Tryz.zeroValue187
 t183:=Tryz.underlying188
 a183:=Tryz.isAgg188
 z183:=Tryz.sizeOf188
 v183:=Tryz.zeroValue188
 t218:=Tryz.underlying199
 a218:=Tryz.isAgg199
 z218:=Tryz.sizeOf199
 v218:=Tryz.zeroValue199
 t222:=Tryz.underlying203
 a222:=Tryz.isAgg203
 z222:=Tryz.sizeOf203
 v222:=Tryz.zeroValue203
 t228:=Tryz.underlying211
 a228:=Tryz.isAgg211
 z228:=Tryz.sizeOf211
 v228:=Tryz.zeroValue211
 t229:=Tryz.underlying212
 a229:=Tryz.isAgg212
 z229:=Tryz.sizeOf212
 v229:=Tryz.zeroValue212
noncomputable def wI :=bb [true] (oA (sG 1 str)) (fun r=>(.tup [],[.usl 1 (r.map str)])) vx
theorem abe {l:List ac}{r}(h:vx l=some r):wI.F [.usl 1 (l.map str)]=some (.tup [],[.usl 1 (r.map str)]):=aF (ea:=oA (sG 1 str)) (aG (jo b8)) h
theorem Qx {G:bT}[TabG Tryz.prog G]:bQ G 177 wI:=Sx abf
def FJ:(List ac)→List V:=oA (sG 1 str)
def FL (r:(List ac)):V×List V:=(.usl 1 (r.map str),[.dead])
end Go.Ln
