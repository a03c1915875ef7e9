/-
  Each function of the program computes its plain function.
-/
import Derived.Test.YtniljljgdoncpaaGreatDoorFnExactEndlessRepairsFun
import Derived.Test.YtniljljgdoncpaaGreatDoorChecked
set_option maxHeartbeats 4000000
set_option linter.unusedVariables false
set_option linter.unusedSimpArgs false
set_option maxRecDepth 100000
namespace Go.Ln
open Go Go.Proofs
def Ffbo_A:((List Str)×Int)→List V:=cA (slE str) (oA I)
def Ffbo_R (r:Int):V×List V:=(I r,[])
noncomputable def Ffbo_ent:Ent:=entT [false,false] Ffbo_A Ffbo_R fun x=>Ffbo x.1 x.2
theorem Ffbo_F {a_1:List Str}{left_2:Int}{r}(h:Ffbo a_1 left_2=some r):Ffbo_ent.F (Ffbo_A (a_1,left_2))=some (Ffbo_R r):=entT_F (cA_inj (isl_inj str_inj) (oA_inj I_inj)) h
noncomputable def Ffbo_c:Code:=bodyOf Tryz.f46
noncomputable def Ffbo_E:Env:=mkE Tryz.prog []
def Ffbo_Q (x:(List Str)×Int)(r:Int):St→Prop:=QF Ffbo_E Tryz.f46 [false,false] (Ffbo_A x) (Ffbo_R r)
theorem Ffbo_la_run (a_1:List Str)(left_2:Int){Q:St→Prop}{K:List It}(hK:noD K=true):∀(x3:Int×Int) (y:Int⊕Int),Ffbo_la a_1 left_2 x3=some y→(∀r',y=.inl r'→∀st,Ffbo_Q (a_1,left_2) r' st→Q st)→(∀u:Int,y=.inr u→Run Ffbo_E 0 Q K (sT 28 [(1,I u)] [] 1))→Run Ffbo_E 0 Q (.code (cL (cL (cR (cL (cR (cR (cR Ffbo_c)))))))::.lp (cL (cL (cR (cL (cR (cR (cR Ffbo_c)))))))::.blk 0::K) (sT 28 [(0,.isl false (a_1.map str)),(1,I x3.1),(5,I x3.2)] [] 1):=by
 refine fix_indP (Ffbo_la_fin a_1 left_2) ?_
 intro self ih x3 y h hr hn
 unfold Ffbo_la_F at h
 refine cq 5 [12,13] [I x3.2,.isl false (a_1.map str)] 33 ?_
 refine oq 49 (I (len a_1)) rfl (e_len rfl rfl rfl (l_isl rfl)) ?_
 refine cq 2 [15] [B (decide (x3.2<(len a_1)))] 65 ?_
 refine sq h (fun h=>?_) fun h=>?_
 ·refine aq 1 ?_
  refine cq 7 [18,19,20] [I x3.1,.isl false (a_1.map str),I x3.2] 113 ?_
  obtain⟨e4,he4,h⟩:=bS h
  refine oq 129 (.iptr (str e4) 0) rfl (e_indexAddr rfl rfl rfl (ix_islE rfl rfl rfl rfl he4)) ?_
  refine cq 10 [1,26] [I (w64 (x3.1 - (len e4))),B (decide ((w64 (x3.1 - (len e4)))<0))] 225 ?_
  refine sq h (fun h=>?_) fun h=>?_
  ·refine cq 4 [4] [I (-1)] 241 ?_
   exact s_ret rfl (hr _ (Option.some.inj h).symm _ (qp [I (-1)]))
  ·refine aq 1 ?_
   refine cq 6 [5] [I (w64 (x3.2+1))] 273 ?_
   refine s_lp ?_
   exact rf [0,1,5] [] (ih _ _ h hr hn :)
 ·refine aq 1 ?_
  exact rf [1] [] (hn _ (Option.some.inj h).symm :) (hk:=hK)
theorem Ffbo_run (a_1:List Str)(left_2:Int)(r:Int)(h:Ffbo a_1 left_2=some r):RunF Ffbo_E Tryz.f46 [false,false] 0 (Ffbo_A (a_1,left_2)) (Ffbo_R r):=by
 show Run _ _ (Ffbo_Q (a_1,left_2) r) [.code Ffbo_c] _
 refine rI 28 [(0,.isl false (a_1.map str)),(1,I left_2)] [] 1 ?_
 unfold Ffbo at h
 refine cq 8 [6,7] [I left_2,.isl false (a_1.map str)] 49 ?_
 refine oq 65 (I (len a_1)) rfl (e_len rfl rfl rfl (l_isl rfl)) ?_
 refine cq 9 [1,11] [I (w64 (left_2 - (len a_1))),B (decide ((w64 (left_2 - (len a_1)))<0))] 129 ?_
 refine sq h (fun h=>?_) fun h=>?_
 ·refine cq 4 [4] [I (-1)] 145 ?_
  obtain rfl:=Option.some.inj h
  exact s_ret rfl (qp [I (-1)])
 ·refine aq 1 ?_
  refine cq 6 [5] [I (0)] 145 ?_
  obtain⟨y5,hy5,hy51,hy52⟩:=bJ h
  refine s_loop rfl ?_
  refine rf [0,1,5] [] (Ffbo_la_run a_1 left_2 rfl ((w64 (left_2 - (len a_1))),0) _ hy5 (fun r' e st hq=>by rw[hy51 r' e] at hq;exact hq) fun u5 hu=>?_)
  replace h:=hy52 u5 hu
  refine cq 5 [4] [I u5] 33 ?_
  obtain rfl:=Option.some.inj h
  exact s_ret rfl (qp [I u5])
theorem Ffbo_good {G:Go.Ln.Ground}:Good Tryz.prog G 46 Ffbo_ent:=gT 2 0 gl_n (Checked.mixed Tryz.checked) Tryz.func46 (fun a r h=>Ffbo_run a.1 a.2 r h)
def Ffbk_A:(Condition×Int)→List V:=cA encI_Condition1 (oA I)
def Ffbk_R (r:Int):V×List V:=(I r,[])
noncomputable def Ffbk_entS (slf_Ffbk:(Condition×Int)→Option Int):Ent:=entT [false,false] Ffbk_A Ffbk_R slf_Ffbk
theorem Ffbk_FS (slf_Ffbk:(Condition×Int)→Option Int){x}{r}(h:slf_Ffbk x=some r):(Ffbk_entS slf_Ffbk).F (Ffbk_A x)=some (Ffbk_R r):=entT_F (cA_inj encI_Condition1_inj (oA_inj I_inj)) h
def Ffbm_A:((List Condition)×Int)→List V:=cA (slE encI_Condition) (oA I)
def Ffbm_R (r:Int):V×List V:=(I r,[])
noncomputable def Ffbm_ent (slf_Ffbk:(Condition×Int)→Option Int):Ent:=entT [false,false] Ffbm_A Ffbm_R fun x=>Ffbm slf_Ffbk x.1 x.2
theorem Ffbm_F (slf_Ffbk:(Condition×Int)→Option Int){a_1:List Condition}{left_2:Int}{r}(h:Ffbm slf_Ffbk a_1 left_2=some r):(Ffbm_ent slf_Ffbk).F (Ffbm_A (a_1,left_2))=some (Ffbm_R r):=entT_F (cA_inj (isl_inj encI_Condition_inj) (oA_inj I_inj)) h
noncomputable def Ffbm_c:Code:=bodyOf Tryz.f164
noncomputable def Ffbm_E (slf_Ffbk:(Condition×Int)→Option Int):Env:=mkE Tryz.prog [(137,(Ffbk_entS slf_Ffbk))]
def Ffbm_Q (slf_Ffbk:(Condition×Int)→Option Int)(x:(List Condition)×Int)(r:Int):St→Prop:=QF (Ffbm_E slf_Ffbk) Tryz.f164 [false,false] (Ffbm_A x) (Ffbm_R r)
theorem Ffbm_la_run (slf_Ffbk:(Condition×Int)→Option Int)(a_1:List Condition)(left_2:Int){Q:St→Prop}{K:List It}(hK:noD K=true):∀(x3:Int×Int) (y:Int⊕Int),Ffbm_la slf_Ffbk a_1 left_2 x3=some y→(∀r',y=.inl r'→∀st,Ffbm_Q slf_Ffbk (a_1,left_2) r' st→Q st)→(∀u:Int,y=.inr u→Run (Ffbm_E slf_Ffbk) 0 Q K (sT 27 [(1,I u)] [] 1))→Run (Ffbm_E slf_Ffbk) 0 Q (.code (cL (cL (cR (cL (cR (cR (cR Ffbm_c)))))))::.lp (cL (cL (cR (cL (cR (cR (cR Ffbm_c)))))))::.blk 0::K) (sT 27 [(0,.isl false (a_1.map encI_Condition)),(1,I x3.1),(5,I x3.2)] [] 1):=by
 refine fix_indP (Ffbm_la_fin slf_Ffbk a_1 left_2) ?_
 intro self ih x3 y h hr hn
 unfold Ffbm_la_F at h
 refine cq 5 [12,13] [I x3.2,.isl false (a_1.map encI_Condition)] 33 ?_
 refine oq 49 (I (len a_1)) rfl (e_len rfl rfl rfl (l_isl rfl)) ?_
 refine cq 2 [15] [B (decide (x3.2<(len a_1)))] 65 ?_
 refine sq h (fun h=>?_) fun h=>?_
 ·refine aq 1 ?_
  refine cq 6 [18,19] [.isl false (a_1.map encI_Condition),I x3.2] 97 ?_
  obtain⟨e4,he4,h⟩:=bS h
  refine oq 113 (.iptr (encI_Condition1 e4) 0) rfl (e_indexAddr rfl rfl rfl (ix_islE rfl rfl (encI_Condition_eq e4) rfl he4)) ?_
  refine cq 2 [21,22] [encI_Condition1 e4,I x3.1] 145 ?_
  obtain⟨r5,hr5,h⟩:=bS h
  refine oq 161 (I r5) rfl (e_callV rfl rfl (call_P rfl rfl rfl (avS (shP rfl) (avS (shP rfl) avN)) (Ffbk_FS slf_Ffbk hr5) (.inr rfl) bl_n rfl rfl rfl)) ?_
  refine cq 7 [1,25] [I r5,B (decide (r5<0))] 209 ?_
  refine sq h (fun h=>?_) fun h=>?_
  ·refine cq 4 [4] [I (-1)] 225 ?_
   exact s_ret rfl (hr _ (Option.some.inj h).symm _ (qp [I (-1)]))
  ·refine aq 1 ?_
   refine cq 6 [5] [I (w64 (x3.2+1))] 257 ?_
   refine s_lp ?_
   exact rf [0,1,5] [] (ih _ _ h hr hn :)
 ·refine aq 1 ?_
  exact rf [1] [] (hn _ (Option.some.inj h).symm :) (hk:=hK)
theorem Ffbm_run (slf_Ffbk:(Condition×Int)→Option Int)(a_1:List Condition)(left_2:Int)(r:Int)(h:Ffbm slf_Ffbk a_1 left_2=some r):RunF (Ffbm_E slf_Ffbk) Tryz.f164 [false,false] 0 (Ffbm_A (a_1,left_2)) (Ffbm_R r):=by
 show Run _ _ (Ffbm_Q slf_Ffbk (a_1,left_2) r) [.code Ffbm_c] _
 refine rI 27 [(0,.isl false (a_1.map encI_Condition)),(1,I left_2)] [] 1 ?_
 unfold Ffbm at h
 refine cq 8 [6,7] [I left_2,.isl false (a_1.map encI_Condition)] 49 ?_
 refine oq 65 (I (len a_1)) rfl (e_len rfl rfl rfl (l_isl rfl)) ?_
 refine cq 9 [1,11] [I (w64 (left_2 - (len a_1))),B (decide ((w64 (left_2 - (len a_1)))<0))] 129 ?_
 refine sq h (fun h=>?_) fun h=>?_
 ·refine cq 4 [4] [I (-1)] 145 ?_
  obtain rfl:=Option.some.inj h
  exact s_ret rfl (qp [I (-1)])
 ·refine aq 1 ?_
  refine cq 6 [5] [I (0)] 145 ?_
  obtain⟨y6,hy6,hy61,hy62⟩:=bJ h
  refine s_loop rfl ?_
  refine rf [0,1,5] [] (Ffbm_la_run slf_Ffbk a_1 left_2 rfl ((w64 (left_2 - (len a_1))),0) _ hy6 (fun r' e st hq=>by rw[hy61 r' e] at hq;exact hq) fun u6 hu=>?_)
  replace h:=hy62 u6 hu
  refine cq 5 [4] [I u6] 33 ?_
  obtain rfl:=Option.some.inj h
  exact s_ret rfl (qp [I u6])
theorem Ffbm_good {G:Go.Ln.Ground}(slf_Ffbk:(Condition×Int)→Option Int)(g_Ffbk:Good Tryz.prog G 137 (Ffbk_entS slf_Ffbk)):Good Tryz.prog G 164 (Ffbm_ent slf_Ffbk):=gT 2 0 (gl_c g_Ffbk gl_n) (Checked.mixed Tryz.checked) Tryz.func164 (fun a r h=>Ffbm_run slf_Ffbk a.1 a.2 r h)
noncomputable def Ffbk_ent:Ent:=Ffbk_entS (fixO Ffbk_G)
theorem Ffbk_F {a_1:Condition}{left_2:Int}{r}(h:Ffbk a_1 left_2=some r):Ffbk_ent.F (Ffbk_A (a_1,left_2))=some (Ffbk_R r):=Ffbk_FS (fixO Ffbk_G) h
noncomputable def Ffbk_c:Code:=bodyOf Tryz.f137
noncomputable def Ffbk_E (slf_Ffbk:(Condition×Int)→Option Int):Env:=mkE Tryz.prog [(164,(Ffbm_ent slf_Ffbk))]
def Ffbk_Q (slf_Ffbk:(Condition×Int)→Option Int)(x:Condition×Int)(r:Int):St→Prop:=QF (Ffbk_E slf_Ffbk) Tryz.f137 [false,false] (Ffbk_A x) (Ffbk_R r)
theorem Ffbk_run (slf_Ffbk:(Condition×Int)→Option Int)(a_1:Condition)(left_2:Int)(r:Int)(h:Ffbk_B slf_Ffbk a_1 left_2=some r):RunF (Ffbk_E slf_Ffbk) Tryz.f137 [false,false] 0 (Ffbk_A (a_1,left_2)) (Ffbk_R r):=by
 show Run _ _ (Ffbk_Q slf_Ffbk (a_1,left_2) r) [.code Ffbk_c] _
 refine rI 19 [(0,encI_Condition1 a_1),(1,I left_2)] [] 1 ?_
 unfold Ffbk_B at h
 refine ck 20 [1,2,11] [] [1] [] [I (w64 (left_2 - (len a_1.Name))),.hp 1 0 [] 4 0 0,B (decide ((w64 (left_2 - (len a_1.Name)))<0))] [some ⟨0,4,[encI_Condition1 a_1]⟩] 161 (by kernel_rfl) ?_
 refine sq h (fun h=>?_) fun h=>?_
 ·refine cq 4 [4] [I (-1)] 177 ?_
  obtain rfl:=Option.some.inj h
  exact s_ret rfl (qp [I (-1)])
 ·refine aq 1 ?_
  refine cq 5 [13,14] [.isl false (a_1.Parts.map encI_Condition),I (w64 (left_2 - (len a_1.Name)))] 209 ?_
  obtain⟨r3,hr3,h⟩:=bS h
  refine oq 225 (I r3) rfl (e_callV rfl rfl (call_P rfl rfl rfl (avS (shP rfl) (avS (shP rfl) avN)) (Ffbm_F slf_Ffbk hr3) (.inr rfl) bl_n rfl rfl rfl)) ?_
  refine cq 8 [1,17] [I r3,B (decide (r3<0))] 273 ?_
  refine sq h (fun h=>?_) fun h=>?_
  ·refine cq 4 [4] [I (-1)] 289 ?_
   obtain rfl:=Option.some.inj h
   exact s_ret rfl (qp [I (-1)])
  ·refine aq 1 ?_
   refine cq 5 [4] [I r3] 305 ?_
   obtain rfl:=Option.some.inj h
   exact s_ret rfl (qp [I r3])
theorem Ffbk_good {G:Go.Ln.Ground}:Good Tryz.prog G 137 Ffbk_ent:=good_rec fun slf_Ffbk g_Ffbk=>gT 2 0 (gl_c (Ffbm_good slf_Ffbk g_Ffbk) gl_n) (Checked.mixed Tryz.checked) Tryz.func137 (fun a r h=>Ffbk_run slf_Ffbk a.1 a.2 r h)
noncomputable def Ffbl_ent:Ent:=Ffbm_ent (fixO Ffbk_G)
theorem Ffbl_F {a_1:List Condition}{left_2:Int}{r}(h:Ffbl a_1 left_2=some r):Ffbl_ent.F (Ffbm_A (a_1,left_2))=some (Ffbm_R r):=Ffbm_F (fixO Ffbk_G) h
theorem Ffbl_good {G:Go.Ln.Ground}:Good Tryz.prog G 164 Ffbl_ent:=Ffbm_good (fixO Ffbk_G) Ffbk_good
def Ffbi_A:(Clause×Int)→List V:=cA encI_Clause (oA I)
def Ffbi_R (r:Int):V×List V:=(I r,[])
noncomputable def Ffbi_ent:Ent:=entT [false,false] Ffbi_A Ffbi_R fun x=>Ffbi x.1 x.2
theorem Ffbi_F {a_1:Clause}{left_2:Int}{r}(h:Ffbi a_1 left_2=some r):Ffbi_ent.F (Ffbi_A (a_1,left_2))=some (Ffbi_R r):=entT_F (cA_inj encI_Clause_inj (oA_inj I_inj)) h
noncomputable def Ffbi_c:Code:=bodyOf Tryz.f96
noncomputable def Ffbi_E:Env:=mkE Tryz.prog [(137,Ffbk_ent)]
def Ffbi_Q (x:Clause×Int)(r:Int):St→Prop:=QF Ffbi_E Tryz.f96 [false,false] (Ffbi_A x) (Ffbi_R r)
theorem Ffbi_run (a_1:Clause)(left_2:Int)(r:Int)(h:Ffbi a_1 left_2=some r):RunF Ffbi_E Tryz.f96 [false,false] 0 (Ffbi_A (a_1,left_2)) (Ffbi_R r):=by
 show Run _ _ (Ffbi_Q (a_1,left_2) r) [.code Ffbi_c] _
 refine rI 33 [(0,encI_Clause a_1),(1,I left_2)] [] 1 ?_
 unfold Ffbi at h
 refine ck 20 [1,2,11] [] [1] [] [I (w64 (left_2 - (len a_1.Id))),.hp 1 0 [] 12 0 0,B (decide ((w64 (left_2 - (len a_1.Id)))<0))] [some ⟨0,12,[encI_Clause a_1]⟩] 161 (by kernel_rfl) ?_
 refine sq h (fun h=>?_) fun h=>?_
 ·refine cq 4 [4] [I (-1)] 177 ?_
  obtain rfl:=Option.some.inj h
  exact s_ret rfl (qp [I (-1)])
 ·refine aq 1 ?_
  refine cq 15 [1,18] [I (w64 ((w64 (left_2 - (len a_1.Id))) - (len a_1.Action))),B (decide ((w64 ((w64 (left_2 - (len a_1.Id))) - (len a_1.Action)))<0))] 289 ?_
  refine sq h (fun h=>?_) fun h=>?_
  ·refine cq 4 [4] [I (-1)] 305 ?_
   obtain rfl:=Option.some.inj h
   exact s_ret rfl (qp [I (-1)])
  ·refine aq 1 ?_
   refine cq 5 [20,21] [encI_Condition1 a_1.When,I (w64 ((w64 (left_2 - (len a_1.Id))) - (len a_1.Action)))] 337 ?_
   obtain⟨r3,hr3,h⟩:=bS h
   refine oq 353 (I r3) rfl (cP (Ffbk_F hr3)) ?_
   refine cq 8 [1,24] [I r3,B (decide (r3<0))] 401 ?_
   refine sq h (fun h=>?_) fun h=>?_
   ·refine cq 4 [4] [I (-1)] 417 ?_
    obtain rfl:=Option.some.inj h
    exact s_ret rfl (qp [I (-1)])
   ·refine aq 1 ?_
    refine cq 15 [1,31] [I (w64 (r3 - (len a_1.Repair))),B (decide ((w64 (r3 - (len a_1.Repair)))<0))] 529 ?_
    refine sq h (fun h=>?_) fun h=>?_
    ·refine cq 4 [4] [I (-1)] 545 ?_
     obtain rfl:=Option.some.inj h
     exact s_ret rfl (qp [I (-1)])
    ·refine aq 1 ?_
     refine cq 5 [4] [I (w64 (r3 - (len a_1.Repair)))] 561 ?_
     obtain rfl:=Option.some.inj h
     exact s_ret rfl (qp [I (w64 (r3 - (len a_1.Repair)))])
theorem Ffbi_good {G:Go.Ln.Ground}:Good Tryz.prog G 96 Ffbi_ent:=gT 2 0 (gl_c Ffbk_good gl_n) (Checked.mixed Tryz.checked) Tryz.func96 (fun a r h=>Ffbi_run a.1 a.2 r h)
def Ffbj_A:((List Clause)×Int)→List V:=cA (slE encI_Clause) (oA I)
def Ffbj_R (r:Int):V×List V:=(I r,[])
noncomputable def Ffbj_ent:Ent:=entT [false,false] Ffbj_A Ffbj_R fun x=>Ffbj x.1 x.2
theorem Ffbj_F {a_1:List Clause}{left_2:Int}{r}(h:Ffbj a_1 left_2=some r):Ffbj_ent.F (Ffbj_A (a_1,left_2))=some (Ffbj_R r):=entT_F (cA_inj (isl_inj encI_Clause_inj) (oA_inj I_inj)) h
noncomputable def Ffbj_c:Code:=bodyOf Tryz.f47
noncomputable def Ffbj_E:Env:=mkE Tryz.prog [(96,Ffbi_ent)]
def Ffbj_Q (x:(List Clause)×Int)(r:Int):St→Prop:=QF Ffbj_E Tryz.f47 [false,false] (Ffbj_A x) (Ffbj_R r)
theorem Ffbj_la_run (a_1:List Clause)(left_2:Int){Q:St→Prop}{K:List It}(hK:noD K=true):∀(x3:Int×Int) (y:Int⊕Int),Ffbj_la a_1 left_2 x3=some y→(∀r',y=.inl r'→∀st,Ffbj_Q (a_1,left_2) r' st→Q st)→(∀u:Int,y=.inr u→Run Ffbj_E 0 Q K (sT 27 [(1,I u)] [] 1))→Run Ffbj_E 0 Q (.code (cL (cL (cR (cL (cR (cR (cR Ffbj_c)))))))::.lp (cL (cL (cR (cL (cR (cR (cR Ffbj_c)))))))::.blk 0::K) (sT 27 [(0,.isl false (a_1.map encI_Clause)),(1,I x3.1),(5,I x3.2)] [] 1):=by
 refine fix_indP (Ffbj_la_fin a_1 left_2) ?_
 intro self ih x3 y h hr hn
 unfold Ffbj_la_F at h
 refine cq 5 [12,13] [I x3.2,.isl false (a_1.map encI_Clause)] 33 ?_
 refine oq 49 (I (len a_1)) rfl (e_len rfl rfl rfl (l_isl rfl)) ?_
 refine cq 2 [15] [B (decide (x3.2<(len a_1)))] 65 ?_
 refine sq h (fun h=>?_) fun h=>?_
 ·refine aq 1 ?_
  refine cq 6 [18,19] [.isl false (a_1.map encI_Clause),I x3.2] 97 ?_
  obtain⟨e4,he4,h⟩:=bS h
  refine oq 113 (.iptr (encI_Clause e4) 0) rfl (e_indexAddr rfl rfl rfl (ix_islE rfl rfl rfl rfl he4)) ?_
  refine cq 2 [21,22] [encI_Clause e4,I x3.1] 145 ?_
  obtain⟨r5,hr5,h⟩:=bS h
  refine oq 161 (I r5) rfl (cP (Ffbi_F hr5)) ?_
  refine cq 7 [1,25] [I r5,B (decide (r5<0))] 209 ?_
  refine sq h (fun h=>?_) fun h=>?_
  ·refine cq 4 [4] [I (-1)] 225 ?_
   exact s_ret rfl (hr _ (Option.some.inj h).symm _ (qp [I (-1)]))
  ·refine aq 1 ?_
   refine cq 6 [5] [I (w64 (x3.2+1))] 257 ?_
   refine s_lp ?_
   exact rf [0,1,5] [] (ih _ _ h hr hn :)
 ·refine aq 1 ?_
  exact rf [1] [] (hn _ (Option.some.inj h).symm :) (hk:=hK)
theorem Ffbj_run (a_1:List Clause)(left_2:Int)(r:Int)(h:Ffbj a_1 left_2=some r):RunF Ffbj_E Tryz.f47 [false,false] 0 (Ffbj_A (a_1,left_2)) (Ffbj_R r):=by
 show Run _ _ (Ffbj_Q (a_1,left_2) r) [.code Ffbj_c] _
 refine rI 27 [(0,.isl false (a_1.map encI_Clause)),(1,I left_2)] [] 1 ?_
 unfold Ffbj at h
 refine cq 8 [6,7] [I left_2,.isl false (a_1.map encI_Clause)] 49 ?_
 refine oq 65 (I (len a_1)) rfl (e_len rfl rfl rfl (l_isl rfl)) ?_
 refine cq 9 [1,11] [I (w64 (left_2 - (len a_1))),B (decide ((w64 (left_2 - (len a_1)))<0))] 129 ?_
 refine sq h (fun h=>?_) fun h=>?_
 ·refine cq 4 [4] [I (-1)] 145 ?_
  obtain rfl:=Option.some.inj h
  exact s_ret rfl (qp [I (-1)])
 ·refine aq 1 ?_
  refine cq 6 [5] [I (0)] 145 ?_
  obtain⟨y6,hy6,hy61,hy62⟩:=bJ h
  refine s_loop rfl ?_
  refine rf [0,1,5] [] (Ffbj_la_run a_1 left_2 rfl ((w64 (left_2 - (len a_1))),0) _ hy6 (fun r' e st hq=>by rw[hy61 r' e] at hq;exact hq) fun u6 hu=>?_)
  replace h:=hy62 u6 hu
  refine cq 5 [4] [I u6] 33 ?_
  obtain rfl:=Option.some.inj h
  exact s_ret rfl (qp [I u6])
theorem Ffbj_good {G:Go.Ln.Ground}:Good Tryz.prog G 47 Ffbj_ent:=gT 2 0 (gl_c Ffbi_good gl_n) (Checked.mixed Tryz.checked) Tryz.func47 (fun a r h=>Ffbj_run a.1 a.2 r h)
def Ffbn_A:(Contract×Int)→List V:=cA encI_Contract (oA I)
def Ffbn_R (r:Int):V×List V:=(I r,[])
noncomputable def Ffbn_ent:Ent:=entT [false,false] Ffbn_A Ffbn_R fun x=>Ffbn x.1 x.2
theorem Ffbn_F {a_1:Contract}{left_2:Int}{r}(h:Ffbn a_1 left_2=some r):Ffbn_ent.F (Ffbn_A (a_1,left_2))=some (Ffbn_R r):=entT_F (cA_inj encI_Contract_inj (oA_inj I_inj)) h
noncomputable def Ffbn_c:Code:=bodyOf Tryz.f10
noncomputable def Ffbn_E:Env:=mkE Tryz.prog [(46,Ffbo_ent),(47,Ffbj_ent)]
def Ffbn_Q (x:Contract×Int)(r:Int):St→Prop:=QF Ffbn_E Tryz.f10 [false,false] (Ffbn_A x) (Ffbn_R r)
theorem Ffbn_run (a_1:Contract)(left_2:Int)(r:Int)(h:Ffbn a_1 left_2=some r):RunF Ffbn_E Tryz.f10 [false,false] 0 (Ffbn_A (a_1,left_2)) (Ffbn_R r):=by
 show Run _ _ (Ffbn_Q (a_1,left_2) r) [.code Ffbn_c] _
 refine rI 18 [(0,encI_Contract a_1),(1,I left_2)] [] 1 ?_
 unfold Ffbn at h
 refine ck 10 [2,6,7] [] [1] [] [.hp 1 0 [] 2 0 0,.isl false (a_1.Parties.map str),I left_2] [some ⟨0,2,[encI_Contract a_1]⟩] 81 (by kernel_rfl) ?_
 obtain⟨r3,hr3,h⟩:=bS h
 refine oq 97 (I r3) rfl (cP (Ffbo_F hr3)) ?_
 refine cq 8 [1,10] [I r3,B (decide (r3<0))] 145 ?_
 refine sq h (fun h=>?_) fun h=>?_
 ·refine cq 4 [4] [I (-1)] 161 ?_
  obtain rfl:=Option.some.inj h
  exact s_ret rfl (qp [I (-1)])
 ·refine aq 1 ?_
  refine cq 5 [12,13] [.isl false (a_1.Clauses.map encI_Clause),I r3] 193 ?_
  obtain⟨r4,hr4,h⟩:=bS h
  refine oq 209 (I r4) rfl (cP (Ffbj_F hr4)) ?_
  refine cq 8 [1,16] [I r4,B (decide (r4<0))] 257 ?_
  refine sq h (fun h=>?_) fun h=>?_
  ·refine cq 4 [4] [I (-1)] 273 ?_
   obtain rfl:=Option.some.inj h
   exact s_ret rfl (qp [I (-1)])
  ·refine aq 1 ?_
   refine cq 5 [4] [I r4] 289 ?_
   obtain rfl:=Option.some.inj h
   exact s_ret rfl (qp [I r4])
theorem Ffbn_good {G:Go.Ln.Ground}:Good Tryz.prog G 10 Ffbn_ent:=gT 2 0 (gl_c Ffbo_good (gl_c Ffbj_good gl_n)) (Checked.mixed Tryz.checked) Tryz.func10 (fun a r h=>Ffbn_run a.1 a.2 r h)
def Ffbv_A:(List Str)→List V:=oA (slE str)
def Ffbv_R (r:(List Str)):V×List V:=(.usl 1 (r.map str),[])
noncomputable def Ffbv_ent:Ent:=entT [false] Ffbv_A Ffbv_R fun x=>Ffbv x
theorem Ffbv_F {a_1:List Str}{r}(h:Ffbv a_1=some r):Ffbv_ent.F (Ffbv_A a_1)=some (Ffbv_R r):=entT_F (oA_inj (isl_inj str_inj)) h
noncomputable def Ffbv_c:Code:=bodyOf Tryz.f50
noncomputable def Ffbv_E:Env:=mkE Tryz.prog []
def Ffbv_Q (x:(List Str))(r:(List Str)):St→Prop:=QF Ffbv_E Tryz.f50 [false] (Ffbv_A x) (Ffbv_R r)
theorem Ffbv_la_run (a_1:List Str){Q:St→Prop}{K:List It}(hK:noD K=true):∀(x3:Int×(List Str)) (y:(List Str)⊕(List Str)),Ffbv_la a_1 x3=some y→(∀r',y=.inl r'→∀st,Ffbv_Q a_1 r' st→Q st)→(∀u:(List Str),y=.inr u→Run Ffbv_E 0 Q K (sT 22 [(3,.hs 1 0 [] 1 0 (u.map str).length)] [⟨0,1,u.map str⟩] 2))→Run Ffbv_E 0 Q (.code (cL (cL (cR (cL (cR (cR Ffbv_c))))))::.lp (cL (cL (cR (cL (cR (cR Ffbv_c))))))::.blk 0::K) (sT 22 [(0,.isl false (a_1.map str)),(3,.hs 1 0 [] 1 0 (x3.2.map str).length),(4,I x3.1)] [⟨0,1,x3.2.map str⟩] 2):=by
 refine fix_indP (Ffbv_la_fin a_1) ?_
 intro self ih x3 y h hr hn
 unfold Ffbv_la_F at h
 refine cq 5 [8,9] [I x3.1,.isl false (a_1.map str)] 34 ?_
 refine oq 50 (I (len a_1)) rfl (e_len rfl rfl rfl (l_isl rfl)) ?_
 refine cq 2 [11] [B (decide (x3.1<(len a_1)))] 66 ?_
 refine sq h (fun h=>?_) fun h=>?_
 ·refine aq 1 ?_
  refine cq 7 [14,15,16,17] [.hs 1 0 [] 1 0 (x3.2.map str).length,I x3.1,.isl false (a_1.map str),I x3.1] 130 ?_
  obtain⟨e4,he4,h⟩:=bS h
  refine oq 146 (.iptr (str e4) 0) rfl (e_indexAddr rfl rfl rfl (ix_islE rfl rfl rfl rfl he4)) ?_
  refine cq 1 [19] [str e4] 162 ?_
  obtain⟨e5,he5,h⟩:=bS h
  refine oq 178 (.hp 1 0 [] 1 (0+Int.toNat x3.1) 0) rfl (e_indexAddr rfl rfl rfl (ix_hsM (f:=str) (xs:=x3.2) rfl rfl rfl he5)) ?_
  refine o0 194 rfl rfl (e_st rfl rfl (st_at (path:=[]) (pl:=true) (e':=str e4) (es2':=(setI x3.2 x3.1 e4).map str) rfl (absorb_plain rfl) rfl rfl rfl ra_n (get_map (f:=str) (xs:=x3.2) he5) rfl rfl rfl (set_map (f:=str) (xs:=x3.2) (y:=e4)) sr_n 0 rfl)) ?_
  try rw[←len_setM (f:=str) (xs:=x3.2) (i:=x3.1) (z:=e4)]
  refine cq 7 [4] [I (w64 (x3.1+1))] 242 ?_
  refine s_lp ?_
  exact rf [0,3,4] [1] (ih _ _ h hr hn :)
 ·refine aq 1 ?_
  exact rf [3] [1] (hn _ (Option.some.inj h).symm :) (hk:=hK)
theorem Ffbv_run (a_1:List Str)(r:(List Str))(h:Ffbv a_1=some r):RunF Ffbv_E Tryz.f50 [false] 0 (Ffbv_A a_1) (Ffbv_R r):=by
 show Run _ _ (Ffbv_Q a_1 r) [.code Ffbv_c] _
 refine rI 22 [(0,.isl false (a_1.map str))] [] 1 ?_
 unfold Ffbv at h
 refine cq 7 [5] [.isl false (a_1.map str)] 33 ?_
 refine oq 49 (I (len a_1)) rfl (e_len rfl rfl rfl (l_isl rfl)) ?_
 obtain⟨m2,hm2,h⟩:=bS h
 refine oq 65 (.hs 49 0 [] 1 0 (m2.map str).length) rfl (e_makeSlice rfl rfl (ms_mkM (f:=str) rfl rfl rfl (by decide) hm2 rfl)) ?_
 refine cq 8 [3,4] [.hs 49 0 [] 1 0 (m2.map str).length,I (0)] 97 ?_
 obtain⟨y6,hy6,hy61,hy62⟩:=bJ h
 refine s_loop rfl ?_
 refine rf [0,3,4] [49] (Ffbv_la_run a_1 rfl (0,m2) _ hy6 (fun r' e st hq=>by rw[hy61 r' e] at hq;exact hq) fun u6 hu=>?_)
 replace h:=hy62 u6 hu
 refine cq 5 [2] [.hs 1 0 [] 1 0 (u6.map str).length] 34 ?_
 obtain rfl:=Option.some.inj h
 exact s_ret rfl ⟨_,fin (vs:=[.hs 1 0 [] 1 0 (u6.map str).length]) rfl (absE (abs1 rfl (abs_hs rfl rfl)) absEN) rfl (ou_f ou_n),kl_n⟩
theorem Ffbv_good {G:Go.Ln.Ground}:Good Tryz.prog G 50 Ffbv_ent:=gT 1 0 gl_n (Checked.mixed Tryz.checked) Tryz.func50 (fun a r h=>Ffbv_run a r h)
def Ffbr_A:Condition→List V:=oA encI_Condition1
def Ffbr_R (r:Condition):V×List V:=(.agg [I r.Op,str r.Name,I r.Day,.usl 4 (r.Parts.map encO_Condition)],[])
noncomputable def Ffbr_entS (slf_Ffbr:Condition→Option Condition):Ent:=entT [false] Ffbr_A Ffbr_R slf_Ffbr
theorem Ffbr_FS (slf_Ffbr:Condition→Option Condition){x}{r}(h:slf_Ffbr x=some r):(Ffbr_entS slf_Ffbr).F (Ffbr_A x)=some (Ffbr_R r):=entT_F (oA_inj encI_Condition1_inj) h
def Ffbt_A:(List Condition)→List V:=oA (slE encI_Condition)
def Ffbt_R (r:(List Condition)):V×List V:=(.usl 4 (r.map encO_Condition),[])
noncomputable def Ffbt_ent (slf_Ffbr:Condition→Option Condition):Ent:=entT [false] Ffbt_A Ffbt_R fun x=>Ffbt slf_Ffbr x
theorem Ffbt_F (slf_Ffbr:Condition→Option Condition){a_1:List Condition}{r}(h:Ffbt slf_Ffbr a_1=some r):(Ffbt_ent slf_Ffbr).F (Ffbt_A a_1)=some (Ffbt_R r):=entT_F (oA_inj (isl_inj encI_Condition_inj)) h
noncomputable def Ffbt_c:Code:=bodyOf Tryz.f165
noncomputable def Ffbt_E (slf_Ffbr:Condition→Option Condition):Env:=mkE Tryz.prog [(138,(Ffbr_entS slf_Ffbr))]
def Ffbt_Q (slf_Ffbr:Condition→Option Condition)(x:(List Condition))(r:(List Condition)):St→Prop:=QF (Ffbt_E slf_Ffbr) Tryz.f165 [false] (Ffbt_A x) (Ffbt_R r)
theorem Ffbt_la_run (slf_Ffbr:Condition→Option Condition)(a_1:List Condition){Q:St→Prop}{K:List It}(hK:noD K=true):∀(x3:Int×(List Condition)) (y:(List Condition)⊕(List Condition)),Ffbt_la slf_Ffbr a_1 x3=some y→(∀r',y=.inl r'→∀st,Ffbt_Q slf_Ffbr a_1 r' st→Q st)→(∀u:(List Condition),y=.inr u→Run (Ffbt_E slf_Ffbr) 0 Q K (sT 23 [(3,.hs 1 0 [] 4 0 (u.map encO_Condition).length)] [⟨0,4,u.map encO_Condition⟩] 2))→Run (Ffbt_E slf_Ffbr) 0 Q (.code (cL (cL (cR (cL (cR (cR Ffbt_c))))))::.lp (cL (cL (cR (cL (cR (cR Ffbt_c))))))::.blk 0::K) (sT 23 [(0,.isl false (a_1.map encI_Condition)),(3,.hs 1 0 [] 4 0 (x3.2.map encO_Condition).length),(4,I x3.1)] [⟨0,4,x3.2.map encO_Condition⟩] 2):=by
 refine fix_indP (Ffbt_la_fin slf_Ffbr a_1) ?_
 intro self ih x3 y h hr hn
 unfold Ffbt_la_F at h
 refine cq 5 [8,9] [I x3.1,.isl false (a_1.map encI_Condition)] 34 ?_
 refine oq 50 (I (len a_1)) rfl (e_len rfl rfl rfl (l_isl rfl)) ?_
 refine cq 2 [11] [B (decide (x3.1<(len a_1)))] 66 ?_
 refine sq h (fun h=>?_) fun h=>?_
 ·refine aq 1 ?_
  refine cq 7 [14,15,16,17] [.hs 1 0 [] 4 0 (x3.2.map encO_Condition).length,I x3.1,.isl false (a_1.map encI_Condition),I x3.1] 130 ?_
  obtain⟨e4,he4,h⟩:=bS h
  refine oq 146 (.iptr (encI_Condition1 e4) 0) rfl (e_indexAddr rfl rfl rfl (ix_islE rfl rfl (encI_Condition_eq e4) rfl he4)) ?_
  refine cq 1 [19] [encI_Condition1 e4] 162 ?_
  obtain⟨r5,hr5,h⟩:=bS h
  refine oq 178 (.agg [I r5.Op,str r5.Name,I r5.Day,.hs 162 0 [] 4 0 (r5.Parts.map encO_Condition).length]) rfl (e_callV rfl rfl (call_P rfl rfl rfl (avS (shP rfl) avN) (Ffbr_FS slf_Ffbr hr5) (.inr rfl) bl_n rfl rfl rfl)) ?_
  obtain⟨e6,he6,h⟩:=bS h
  refine oq 194 (.hp 1 0 [] 4 (0+Int.toNat x3.1) 0) rfl (e_indexAddr rfl rfl rfl (ix_hsM (f:=encO_Condition) (xs:=x3.2) rfl rfl rfl he6)) ?_
  refine o0 210 rfl rfl (e_st rfl rfl (st_at (path:=[]) (pl:=false) (e':=.agg [I r5.Op,str r5.Name,I r5.Day,.usl 4 (r5.Parts.map encO_Condition)]) (es2':=(setI x3.2 x3.1 r5).map encO_Condition) rfl (absA (absC (abs_p rfl) (absC (abs_p rfl) (absC (abs_p rfl) (absC (abs_hs rfl rfl) absN))))) rfl rfl rfl ra_n (get_mapE (f:=encO_Condition) (xs:=x3.2) (encO_Condition_eq e6) he6) rfl rfl rfl (set_mapE (f:=encO_Condition) (xs:=x3.2) (encO_Condition_eq r5)) sr_n 1 rfl)) ?_
  try rw[←len_setM (f:=encO_Condition) (xs:=x3.2) (i:=x3.1) (z:=r5)]
  refine cq 7 [4] [I (w64 (x3.1+1))] 258 ?_
  refine s_lp ?_
  exact rf [0,3,4] [1] (ih _ _ h hr hn :)
 ·refine aq 1 ?_
  exact rf [3] [1] (hn _ (Option.some.inj h).symm :) (hk:=hK)
theorem Ffbt_run (slf_Ffbr:Condition→Option Condition)(a_1:List Condition)(r:(List Condition))(h:Ffbt slf_Ffbr a_1=some r):RunF (Ffbt_E slf_Ffbr) Tryz.f165 [false] 0 (Ffbt_A a_1) (Ffbt_R r):=by
 show Run _ _ (Ffbt_Q slf_Ffbr a_1 r) [.code Ffbt_c] _
 refine rI 23 [(0,.isl false (a_1.map encI_Condition))] [] 1 ?_
 unfold Ffbt at h
 refine cq 7 [5] [.isl false (a_1.map encI_Condition)] 33 ?_
 refine oq 49 (I (len a_1)) rfl (e_len rfl rfl rfl (l_isl rfl)) ?_
 obtain⟨m2,hm2,h⟩:=bS h
 refine oq 65 (.hs 49 0 [] 4 0 (m2.map encO_Condition).length) rfl (e_makeSlice rfl rfl (ms_mkG (g:=encO_Condition) (f:=fun _=>(.agg [I (0),str ([]),I (0),.isl true []]:V)) (z0:=(Condition.mk 0 [] 0 [])) rfl rfl rfl (by decide) hm2 rfl)) ?_
 refine run_row 49 (m2.map encO_Condition) rfl rfl (cvs_make hm2 ((encO_Condition_eq _).symm▸cv_agg (cvs_c (.refl _) (cvs_c (.refl _) (cvs_c (.refl _) (cvs_c (.nil _) cvs_n)))))) ?_
 refine cq 8 [3,4] [.hs 49 0 [] 4 0 (m2.map encO_Condition).length,I (0)] 97 ?_
 obtain⟨y7,hy7,hy71,hy72⟩:=bJ h
 refine s_loop rfl ?_
 refine rf [0,3,4] [49] (Ffbt_la_run slf_Ffbr a_1 rfl (0,m2) _ hy7 (fun r' e st hq=>by rw[hy71 r' e] at hq;exact hq) fun u7 hu=>?_)
 replace h:=hy72 u7 hu
 refine cq 5 [2] [.hs 1 0 [] 4 0 (u7.map encO_Condition).length] 34 ?_
 obtain rfl:=Option.some.inj h
 exact s_ret rfl ⟨_,fin (vs:=[.hs 1 0 [] 4 0 (u7.map encO_Condition).length]) rfl (absE (abs1 rfl (abs_hs rfl rfl)) absEN) rfl (ou_f ou_n),kl_n⟩
theorem Ffbt_good {G:Go.Ln.Ground}(slf_Ffbr:Condition→Option Condition)(g_Ffbr:Good Tryz.prog G 138 (Ffbr_entS slf_Ffbr)):Good Tryz.prog G 165 (Ffbt_ent slf_Ffbr):=gT 1 0 (gl_c g_Ffbr gl_n) (Checked.mixed Tryz.checked) Tryz.func165 (fun a r h=>Ffbt_run slf_Ffbr a r h)
noncomputable def Ffbr_ent:Ent:=Ffbr_entS (fixO Ffbr_G)
theorem Ffbr_F {a_1:Condition}{r}(h:Ffbr a_1=some r):Ffbr_ent.F (Ffbr_A a_1)=some (Ffbr_R r):=Ffbr_FS (fixO Ffbr_G) h
noncomputable def Ffbr_c:Code:=bodyOf Tryz.f138
noncomputable def Ffbr_E (slf_Ffbr:Condition→Option Condition):Env:=mkE Tryz.prog [(165,(Ffbt_ent slf_Ffbr))]
def Ffbr_Q (slf_Ffbr:Condition→Option Condition)(x:Condition)(r:Condition):St→Prop:=QF (Ffbr_E slf_Ffbr) Tryz.f138 [false] (Ffbr_A x) (Ffbr_R r)
theorem Ffbr_run (slf_Ffbr:Condition→Option Condition)(a_1:Condition)(r:Condition)(h:Ffbr_B slf_Ffbr a_1=some r):RunF (Ffbr_E slf_Ffbr) Tryz.f138 [false] 0 (Ffbr_A a_1) (Ffbr_R r):=by
 show Run _ _ (Ffbr_Q slf_Ffbr a_1 r) [.code Ffbr_c] _
 refine rI 18 [(0,encI_Condition1 a_1)] [] 1 ?_
 unfold Ffbr_B at h
 refine ck 4 [1,2] [] [1,17] [] [.hp 1 0 [] 4 0 0,.hp 17 0 [] 4 0 0] [some ⟨0,4,[encI_Condition1 a_1]⟩,some ⟨0,4,[.agg [I (0),str ([]),I (0),.isl true []]]⟩] 33 (by kernel_rfl) ?_
 refine run_row 17 [.agg [I (0),str ([]),I (0),.usl 4 (([]).map encO_Condition)]] rfl rfl (cvs_c (cv_agg (cvs_c (.refl _) (cvs_c (.refl _) (cvs_c (.refl _) (cvs_c (.nil _) cvs_n))))) cvs_n) ?_
 refine ck 4 [3] [] [33] [] [.hp 33 0 [] 4 0 0] [some ⟨0,4,[.agg [I (0),str ([]),I (0),.isl true []]]⟩] 49 (by kernel_rfl) ?_
 refine run_row 33 [.agg [I (0),str ([]),I (0),.usl 4 (([]).map encO_Condition)]] rfl rfl (cvs_c (cv_agg (cvs_c (.refl _) (cvs_c (.refl _) (cvs_c (.refl _) (cvs_c (.nil _) cvs_n))))) cvs_n) ?_
 refine ck 26 [14] [] [33] [] [.isl false (a_1.Parts.map encI_Condition)] [some ⟨1,4,[.agg [I a_1.Op,str a_1.Name,I a_1.Day,.usl 4 (([]).map encO_Condition)]]⟩] 273 (by kernel_rfl) ?_
 obtain⟨r2,hr2,h⟩:=bS h
 refine oq 289 (.hs 273 0 [] 4 0 (r2.map encO_Condition).length) rfl (e_callV rfl rfl (call_P rfl rfl rfl (avS (shP rfl) avN) (Ffbt_F slf_Ffbr hr2) (.inr rfl) bl_n rfl rfl rfl)) ?_
 refine cq 1 [16] [.hp 33 0 [] 4 0 3] 305 ?_
 refine o0 321 rfl rfl (e_st rfl rfl (st_at (path:=[]) (pl:=false) (e':=.agg [I a_1.Op,str a_1.Name,I a_1.Day,.usl 4 (r2.map encO_Condition)]) (es2':=[.agg [I a_1.Op,str a_1.Name,I a_1.Day,.usl 4 (r2.map encO_Condition)]]) rfl (abs1 rfl (abs_hs rfl rfl)) rfl rfl rfl ra_n rfl rfl rfl rfl rfl sr_n 2 rfl)) ?_
 refine cq 4 [17] [.agg [I a_1.Op,str a_1.Name,I a_1.Day,.hs 33 2 [(0,3)] 4 0 (r2.map encO_Condition).length]] 337 ?_
 refine o0 353 rfl rfl (e_st rfl rfl (st_at (path:=[]) (pl:=false) (e':=.agg [I a_1.Op,str a_1.Name,I a_1.Day,.usl 4 (r2.map encO_Condition)]) (es2':=[.agg [I a_1.Op,str a_1.Name,I a_1.Day,.usl 4 (r2.map encO_Condition)]]) rfl (absA (absC (abs_p rfl) (absC (abs_p rfl) (absC (abs_p rfl) (absC (abs_at (path:=[(0,3)]) rfl rfl (ra_c rfl rfl ra_n) rfl (to_c (path:=[]) (i:=0) (k:=3) (e':=.agg [I a_1.Op,str a_1.Name,I a_1.Day,.dead]) (es2':=[.agg [I a_1.Op,str a_1.Name,I a_1.Day,.dead]]) ra_n rfl rfl rfl sr_n)) absN))))) rfl rfl rfl ra_n rfl rfl rfl rfl rfl sr_n 2 rfl)) ?_
 refine aq 1 ?_
 obtain rfl:=Option.some.inj h
 exact s_ret rfl ⟨_,fin (vs:=[.agg [I a_1.Op,str a_1.Name,I a_1.Day,.hs 17 2 [(0,3)] 4 0 (r2.map encO_Condition).length]]) (rs_c (rs_cell rfl rfl rfl) rs_n) (absE (absA (absC (abs_p rfl) (absC (abs_p rfl) (absC (abs_p rfl) (absC (abs_at (path:=[(0,3)]) rfl rfl (ra_c rfl rfl ra_n) rfl (to_c (path:=[]) (i:=0) (k:=3) (e':=.agg [I a_1.Op,str a_1.Name,I a_1.Day,.dead]) (es2':=[.agg [I a_1.Op,str a_1.Name,I a_1.Day,.dead]]) ra_n rfl rfl rfl sr_n)) absN))))) absEN) rfl (ou_f ou_n),kl_n⟩
theorem Ffbr_good {G:Go.Ln.Ground}:Good Tryz.prog G 138 Ffbr_ent:=good_rec fun slf_Ffbr g_Ffbr=>gT 1 0 (gl_c (Ffbt_good slf_Ffbr g_Ffbr) gl_n) (Checked.mixed Tryz.checked) Tryz.func138 (fun a r h=>Ffbr_run slf_Ffbr a r h)
noncomputable def Ffbs_ent:Ent:=Ffbt_ent (fixO Ffbr_G)
theorem Ffbs_F {a_1:List Condition}{r}(h:Ffbs a_1=some r):Ffbs_ent.F (Ffbt_A a_1)=some (Ffbt_R r):=Ffbt_F (fixO Ffbr_G) h
theorem Ffbs_good {G:Go.Ln.Ground}:Good Tryz.prog G 165 Ffbs_ent:=Ffbt_good (fixO Ffbr_G) Ffbr_good
def Ffbp_A:Clause→List V:=oA encI_Clause
def Ffbp_R (r:Clause):V×List V:=(.agg [str r.Id,I r.Kind,I r.Party,str r.Action,I r.Other,I r.Amount,I r.When.Op,str r.When.Name,I r.When.Day,.usl 4 (r.When.Parts.map encO_Condition),I r.Within,str r.Repair],[])
noncomputable def Ffbp_ent:Ent:=entT [false] Ffbp_A Ffbp_R fun x=>Ffbp x
theorem Ffbp_F {a_1:Clause}{r}(h:Ffbp a_1=some r):Ffbp_ent.F (Ffbp_A a_1)=some (Ffbp_R r):=entT_F (oA_inj encI_Clause_inj) h
noncomputable def Ffbp_c:Code:=bodyOf Tryz.f97
noncomputable def Ffbp_E:Env:=mkE Tryz.prog [(138,Ffbr_ent)]
def Ffbp_Q (x:Clause)(r:Clause):St→Prop:=QF Ffbp_E Tryz.f97 [false] (Ffbp_A x) (Ffbp_R r)
theorem Ffbp_run (a_1:Clause)(r:Clause)(h:Ffbp a_1=some r):RunF Ffbp_E Tryz.f97 [false] 0 (Ffbp_A a_1) (Ffbp_R r):=by
 show Run _ _ (Ffbp_Q a_1 r) [.code Ffbp_c] _
 refine rI 33 [(0,encI_Clause a_1)] [] 1 ?_
 unfold Ffbp at h
 refine ck 4 [1,2] [] [1,17] [] [.hp 1 0 [] 12 0 0,.hp 17 0 [] 12 0 0] [some ⟨0,12,[encI_Clause a_1]⟩,some ⟨0,12,[.agg [str ([]),I (0),I (0),str ([]),I (0),I (0),I (0),str ([]),I (0),.isl true [],I (0),str ([])]]⟩] 33 (by kernel_rfl) ?_
 refine run_row 17 [.agg [str ([]),I (0),I (0),str ([]),I (0),I (0),I (0),str ([]),I (0),.usl 4 (([]).map encO_Condition),I (0),str ([])]] rfl rfl (cvs_c (cv_agg (cvs_c (.refl _) (cvs_c (.refl _) (cvs_c (.refl _) (cvs_c (.refl _) (cvs_c (.refl _) (cvs_c (.refl _) (cvs_c (.refl _) (cvs_c (.refl _) (cvs_c (.refl _) (cvs_c (.nil _) (cvs_c (.refl _) (cvs_c (.refl _) cvs_n))))))))))))) cvs_n) ?_
 refine ck 4 [3] [] [33] [] [.hp 33 0 [] 12 0 0] [some ⟨0,12,[.agg [str ([]),I (0),I (0),str ([]),I (0),I (0),I (0),str ([]),I (0),.isl true [],I (0),str ([])]]⟩] 49 (by kernel_rfl) ?_
 refine run_row 33 [.agg [str ([]),I (0),I (0),str ([]),I (0),I (0),I (0),str ([]),I (0),.usl 4 (([]).map encO_Condition),I (0),str ([])]] rfl rfl (cvs_c (cv_agg (cvs_c (.refl _) (cvs_c (.refl _) (cvs_c (.refl _) (cvs_c (.refl _) (cvs_c (.refl _) (cvs_c (.refl _) (cvs_c (.refl _) (cvs_c (.refl _) (cvs_c (.refl _) (cvs_c (.nil _) (cvs_c (.refl _) (cvs_c (.refl _) cvs_n))))))))))))) cvs_n) ?_
 refine ck 47 [23] [] [33] [] [encI_Condition1 a_1.When] [some ⟨1,12,[.agg [str a_1.Id,I a_1.Kind,I a_1.Party,str a_1.Action,I a_1.Other,I a_1.Amount,I (0),str ([]),I (0),.usl 4 (([]).map encO_Condition),I (0),str ([])]]⟩] 465 (by kernel_rfl) ?_
 obtain⟨r2,hr2,h⟩:=bS h
 refine oq 481 (.agg [I r2.Op,str r2.Name,I r2.Day,.hs 465 0 [] 4 0 (r2.Parts.map encO_Condition).length]) rfl (cP (Ffbr_F hr2)) ?_
 refine cq 1 [25] [.hp 33 0 [] 12 0 6] 497 ?_
 refine o0 513 rfl rfl (e_st rfl rfl (st_at (path:=[]) (pl:=false) (e':=.agg [str a_1.Id,I a_1.Kind,I a_1.Party,str a_1.Action,I a_1.Other,I a_1.Amount,I r2.Op,str r2.Name,I r2.Day,.usl 4 (r2.Parts.map encO_Condition),I (0),str ([])]) (es2':=[.agg [str a_1.Id,I a_1.Kind,I a_1.Party,str a_1.Action,I a_1.Other,I a_1.Amount,I r2.Op,str r2.Name,I r2.Day,.usl 4 (r2.Parts.map encO_Condition),I (0),str ([])]]) rfl (absA (absC (abs_p rfl) (absC (abs_p rfl) (absC (abs_p rfl) (absC (abs_hs rfl rfl) absN))))) rfl rfl rfl ra_n rfl rfl rfl rfl rfl sr_n 2 rfl)) ?_
 refine ck 18 [32] [] [33] [] [.agg [str a_1.Id,I a_1.Kind,I a_1.Party,str a_1.Action,I a_1.Other,I a_1.Amount,I r2.Op,str r2.Name,I r2.Day,.hs 33 2 [(0,9)] 4 0 (r2.Parts.map encO_Condition).length,I a_1.Within,str a_1.Repair]] [some ⟨2,12,[.agg [str a_1.Id,I a_1.Kind,I a_1.Party,str a_1.Action,I a_1.Other,I a_1.Amount,I r2.Op,str r2.Name,I r2.Day,.usl 4 (r2.Parts.map encO_Condition),I a_1.Within,str a_1.Repair]]⟩] 657 (by kernel_rfl) ?_
 refine o0 673 rfl rfl (e_st rfl rfl (st_at (path:=[]) (pl:=false) (e':=.agg [str a_1.Id,I a_1.Kind,I a_1.Party,str a_1.Action,I a_1.Other,I a_1.Amount,I r2.Op,str r2.Name,I r2.Day,.usl 4 (r2.Parts.map encO_Condition),I a_1.Within,str a_1.Repair]) (es2':=[.agg [str a_1.Id,I a_1.Kind,I a_1.Party,str a_1.Action,I a_1.Other,I a_1.Amount,I r2.Op,str r2.Name,I r2.Day,.usl 4 (r2.Parts.map encO_Condition),I a_1.Within,str a_1.Repair]]) rfl (absA (absC (abs_p rfl) (absC (abs_p rfl) (absC (abs_p rfl) (absC (abs_p rfl) (absC (abs_p rfl) (absC (abs_p rfl) (absC (abs_p rfl) (absC (abs_p rfl) (absC (abs_p rfl) (absC (abs_at (path:=[(0,9)]) rfl rfl (ra_c rfl rfl ra_n) rfl (to_c (path:=[]) (i:=0) (k:=9) (e':=.agg [str a_1.Id,I a_1.Kind,I a_1.Party,str a_1.Action,I a_1.Other,I a_1.Amount,I r2.Op,str r2.Name,I r2.Day,.dead,I a_1.Within,str a_1.Repair]) (es2':=[.agg [str a_1.Id,I a_1.Kind,I a_1.Party,str a_1.Action,I a_1.Other,I a_1.Amount,I r2.Op,str r2.Name,I r2.Day,.dead,I a_1.Within,str a_1.Repair]]) ra_n rfl rfl rfl sr_n)) (absC (abs_p rfl) (absC (abs_p rfl) absN))))))))))))) rfl rfl rfl ra_n rfl rfl rfl rfl rfl sr_n 2 rfl)) ?_
 refine aq 1 ?_
 obtain rfl:=Option.some.inj h
 exact s_ret rfl ⟨_,fin (vs:=[.agg [str a_1.Id,I a_1.Kind,I a_1.Party,str a_1.Action,I a_1.Other,I a_1.Amount,I r2.Op,str r2.Name,I r2.Day,.hs 17 2 [(0,9)] 4 0 (r2.Parts.map encO_Condition).length,I a_1.Within,str a_1.Repair]]) (rs_c (rs_cell rfl rfl rfl) rs_n) (absE (absA (absC (abs_p rfl) (absC (abs_p rfl) (absC (abs_p rfl) (absC (abs_p rfl) (absC (abs_p rfl) (absC (abs_p rfl) (absC (abs_p rfl) (absC (abs_p rfl) (absC (abs_p rfl) (absC (abs_at (path:=[(0,9)]) rfl rfl (ra_c rfl rfl ra_n) rfl (to_c (path:=[]) (i:=0) (k:=9) (e':=.agg [str a_1.Id,I a_1.Kind,I a_1.Party,str a_1.Action,I a_1.Other,I a_1.Amount,I r2.Op,str r2.Name,I r2.Day,.dead,I a_1.Within,str a_1.Repair]) (es2':=[.agg [str a_1.Id,I a_1.Kind,I a_1.Party,str a_1.Action,I a_1.Other,I a_1.Amount,I r2.Op,str r2.Name,I r2.Day,.dead,I a_1.Within,str a_1.Repair]]) ra_n rfl rfl rfl sr_n)) (absC (abs_p rfl) (absC (abs_p rfl) absN))))))))))))) absEN) rfl (ou_f ou_n),kl_n⟩
theorem Ffbp_good {G:Go.Ln.Ground}:Good Tryz.prog G 97 Ffbp_ent:=gT 1 0 (gl_c Ffbr_good gl_n) (Checked.mixed Tryz.checked) Tryz.func97 (fun a r h=>Ffbp_run a r h)
def Ffbq_A:(List Clause)→List V:=oA (slE encI_Clause)
def Ffbq_R (r:(List Clause)):V×List V:=(.usl 12 (r.map encO_Clause),[])
noncomputable def Ffbq_ent:Ent:=entT [false] Ffbq_A Ffbq_R fun x=>Ffbq x
theorem Ffbq_F {a_1:List Clause}{r}(h:Ffbq a_1=some r):Ffbq_ent.F (Ffbq_A a_1)=some (Ffbq_R r):=entT_F (oA_inj (isl_inj encI_Clause_inj)) h
noncomputable def Ffbq_c:Code:=bodyOf Tryz.f51
noncomputable def Ffbq_E:Env:=mkE Tryz.prog [(97,Ffbp_ent)]
def Ffbq_Q (x:(List Clause))(r:(List Clause)):St→Prop:=QF Ffbq_E Tryz.f51 [false] (Ffbq_A x) (Ffbq_R r)
theorem Ffbq_la_run (a_1:List Clause){Q:St→Prop}{K:List It}(hK:noD K=true):∀(x3:Int×(List Clause)) (y:(List Clause)⊕(List Clause)),Ffbq_la a_1 x3=some y→(∀r',y=.inl r'→∀st,Ffbq_Q a_1 r' st→Q st)→(∀u:(List Clause),y=.inr u→Run Ffbq_E 0 Q K (sT 23 [(3,.hs 1 0 [] 12 0 (u.map encO_Clause).length)] [⟨0,12,u.map encO_Clause⟩] 2))→Run Ffbq_E 0 Q (.code (cL (cL (cR (cL (cR (cR Ffbq_c))))))::.lp (cL (cL (cR (cL (cR (cR Ffbq_c))))))::.blk 0::K) (sT 23 [(0,.isl false (a_1.map encI_Clause)),(3,.hs 1 0 [] 12 0 (x3.2.map encO_Clause).length),(4,I x3.1)] [⟨0,12,x3.2.map encO_Clause⟩] 2):=by
 refine fix_indP (Ffbq_la_fin a_1) ?_
 intro self ih x3 y h hr hn
 unfold Ffbq_la_F at h
 refine cq 5 [8,9] [I x3.1,.isl false (a_1.map encI_Clause)] 34 ?_
 refine oq 50 (I (len a_1)) rfl (e_len rfl rfl rfl (l_isl rfl)) ?_
 refine cq 2 [11] [B (decide (x3.1<(len a_1)))] 66 ?_
 refine sq h (fun h=>?_) fun h=>?_
 ·refine aq 1 ?_
  refine cq 7 [14,15,16,17] [.hs 1 0 [] 12 0 (x3.2.map encO_Clause).length,I x3.1,.isl false (a_1.map encI_Clause),I x3.1] 130 ?_
  obtain⟨e4,he4,h⟩:=bS h
  refine oq 146 (.iptr (encI_Clause e4) 0) rfl (e_indexAddr rfl rfl rfl (ix_islE rfl rfl rfl rfl he4)) ?_
  refine cq 1 [19] [encI_Clause e4] 162 ?_
  obtain⟨r5,hr5,h⟩:=bS h
  refine oq 178 (.agg [str r5.Id,I r5.Kind,I r5.Party,str r5.Action,I r5.Other,I r5.Amount,I r5.When.Op,str r5.When.Name,I r5.When.Day,.hs 162 0 [] 4 0 (r5.When.Parts.map encO_Condition).length,I r5.Within,str r5.Repair]) rfl (cP (Ffbp_F hr5)) ?_
  obtain⟨e6,he6,h⟩:=bS h
  refine oq 194 (.hp 1 0 [] 12 (0+Int.toNat x3.1) 0) rfl (e_indexAddr rfl rfl rfl (ix_hsM (f:=encO_Clause) (xs:=x3.2) rfl rfl rfl he6)) ?_
  refine o0 210 rfl rfl (e_st rfl rfl (st_at (path:=[]) (pl:=false) (e':=.agg [str r5.Id,I r5.Kind,I r5.Party,str r5.Action,I r5.Other,I r5.Amount,I r5.When.Op,str r5.When.Name,I r5.When.Day,.usl 4 (r5.When.Parts.map encO_Condition),I r5.Within,str r5.Repair]) (es2':=(setI x3.2 x3.1 r5).map encO_Clause) rfl (absA (absC (abs_p rfl) (absC (abs_p rfl) (absC (abs_p rfl) (absC (abs_p rfl) (absC (abs_p rfl) (absC (abs_p rfl) (absC (abs_p rfl) (absC (abs_p rfl) (absC (abs_p rfl) (absC (abs_hs rfl rfl) (absC (abs_p rfl) (absC (abs_p rfl) absN))))))))))))) rfl rfl rfl ra_n (get_map (f:=encO_Clause) (xs:=x3.2) he6) rfl rfl rfl (set_map (f:=encO_Clause) (xs:=x3.2) (y:=r5)) sr_n 1 rfl)) ?_
  try rw[←len_setM (f:=encO_Clause) (xs:=x3.2) (i:=x3.1) (z:=r5)]
  refine cq 7 [4] [I (w64 (x3.1+1))] 258 ?_
  refine s_lp ?_
  exact rf [0,3,4] [1] (ih _ _ h hr hn :)
 ·refine aq 1 ?_
  exact rf [3] [1] (hn _ (Option.some.inj h).symm :) (hk:=hK)
theorem Ffbq_run (a_1:List Clause)(r:(List Clause))(h:Ffbq a_1=some r):RunF Ffbq_E Tryz.f51 [false] 0 (Ffbq_A a_1) (Ffbq_R r):=by
 show Run _ _ (Ffbq_Q a_1 r) [.code Ffbq_c] _
 refine rI 23 [(0,.isl false (a_1.map encI_Clause))] [] 1 ?_
 unfold Ffbq at h
 refine cq 7 [5] [.isl false (a_1.map encI_Clause)] 33 ?_
 refine oq 49 (I (len a_1)) rfl (e_len rfl rfl rfl (l_isl rfl)) ?_
 obtain⟨m2,hm2,h⟩:=bS h
 refine oq 65 (.hs 49 0 [] 12 0 (m2.map encO_Clause).length) rfl (e_makeSlice rfl rfl (ms_mkG (g:=encO_Clause) (f:=fun _=>(.agg [str ([]),I (0),I (0),str ([]),I (0),I (0),I (0),str ([]),I (0),.isl true [],I (0),str ([])]:V)) (z0:=(Clause.mk [] 0 0 [] 0 0 (Condition.mk 0 [] 0 []) 0 [])) rfl rfl rfl (by decide) hm2 rfl)) ?_
 refine run_row 49 (m2.map encO_Clause) rfl rfl (cvs_make hm2 (cv_agg (cvs_c (.refl _) (cvs_c (.refl _) (cvs_c (.refl _) (cvs_c (.refl _) (cvs_c (.refl _) (cvs_c (.refl _) (cvs_c (.refl _) (cvs_c (.refl _) (cvs_c (.refl _) (cvs_c (.nil _) (cvs_c (.refl _) (cvs_c (.refl _) cvs_n)))))))))))))) ?_
 refine cq 8 [3,4] [.hs 49 0 [] 12 0 (m2.map encO_Clause).length,I (0)] 97 ?_
 obtain⟨y7,hy7,hy71,hy72⟩:=bJ h
 refine s_loop rfl ?_
 refine rf [0,3,4] [49] (Ffbq_la_run a_1 rfl (0,m2) _ hy7 (fun r' e st hq=>by rw[hy71 r' e] at hq;exact hq) fun u7 hu=>?_)
 replace h:=hy72 u7 hu
 refine cq 5 [2] [.hs 1 0 [] 12 0 (u7.map encO_Clause).length] 34 ?_
 obtain rfl:=Option.some.inj h
 exact s_ret rfl ⟨_,fin (vs:=[.hs 1 0 [] 12 0 (u7.map encO_Clause).length]) rfl (absE (abs1 rfl (abs_hs rfl rfl)) absEN) rfl (ou_f ou_n),kl_n⟩
theorem Ffbq_good {G:Go.Ln.Ground}:Good Tryz.prog G 51 Ffbq_ent:=gT 1 0 (gl_c Ffbp_good gl_n) (Checked.mixed Tryz.checked) Tryz.func51 (fun a r h=>Ffbq_run a r h)
def Ffbu_A:Contract→List V:=oA encI_Contract
def Ffbu_R (r:Contract):V×List V:=(.agg [.usl 1 (r.Parties.map str),.usl 12 (r.Clauses.map encO_Clause)],[])
noncomputable def Ffbu_ent:Ent:=entT [false] Ffbu_A Ffbu_R fun x=>Ffbu x
theorem Ffbu_F {a_1:Contract}{r}(h:Ffbu a_1=some r):Ffbu_ent.F (Ffbu_A a_1)=some (Ffbu_R r):=entT_F (oA_inj encI_Contract_inj) h
noncomputable def Ffbu_c:Code:=bodyOf Tryz.f13
noncomputable def Ffbu_E:Env:=mkE Tryz.prog [(50,Ffbv_ent),(51,Ffbq_ent)]
def Ffbu_Q (x:Contract)(r:Contract):St→Prop:=QF Ffbu_E Tryz.f13 [false] (Ffbu_A x) (Ffbu_R r)
theorem Ffbu_run (a_1:Contract)(r:Contract)(h:Ffbu a_1=some r):RunF Ffbu_E Tryz.f13 [false] 0 (Ffbu_A a_1) (Ffbu_R r):=by
 show Run _ _ (Ffbu_Q a_1 r) [.code Ffbu_c] _
 refine rI 13 [(0,encI_Contract a_1)] [] 1 ?_
 unfold Ffbu at h
 refine ck 4 [1,2] [] [1,17] [] [.hp 1 0 [] 2 0 0,.hp 17 0 [] 2 0 0] [some ⟨0,2,[encI_Contract a_1]⟩,some ⟨0,2,[.agg [.isl true [],.isl true []]]⟩] 33 (by kernel_rfl) ?_
 refine run_row 17 [.agg [.usl 1 (([]).map str),.usl 12 (([]).map encO_Clause)]] rfl rfl (cvs_c (cv_agg (cvs_c (.nil _) (cvs_c (.nil _) cvs_n))) cvs_n) ?_
 refine ck 4 [3] [] [33] [] [.hp 33 0 [] 2 0 0] [some ⟨0,2,[.agg [.isl true [],.isl true []]]⟩] 49 (by kernel_rfl) ?_
 refine run_row 33 [.agg [.usl 1 (([]).map str),.usl 12 (([]).map encO_Clause)]] rfl rfl (cvs_c (cv_agg (cvs_c (.nil _) (cvs_c (.nil _) cvs_n))) cvs_n) ?_
 refine cq 5 [5] [.isl false (a_1.Parties.map str)] 81 ?_
 obtain⟨r2,hr2,h⟩:=bS h
 refine oq 97 (.hs 81 0 [] 1 0 (r2.map str).length) rfl (cP (Ffbv_F hr2)) ?_
 refine cq 1 [7] [.hp 33 0 [] 2 0 0] 113 ?_
 refine o0 129 rfl rfl (e_st rfl rfl (st_at (path:=[]) (pl:=false) (e':=.agg [.usl 1 (r2.map str),.usl 12 (([]).map encO_Clause)]) (es2':=[.agg [.usl 1 (r2.map str),.usl 12 (([]).map encO_Clause)]]) rfl (abs1 rfl (abs_hs rfl rfl)) rfl rfl rfl ra_n rfl rfl rfl rfl rfl sr_n 2 rfl)) ?_
 refine cq 5 [9] [.isl false (a_1.Clauses.map encI_Clause)] 161 ?_
 obtain⟨r3,hr3,h⟩:=bS h
 refine oq 177 (.hs 161 0 [] 12 0 (r3.map encO_Clause).length) rfl (cP (Ffbq_F hr3)) ?_
 refine cq 1 [11] [.hp 33 0 [] 2 0 1] 193 ?_
 refine o0 209 rfl rfl (e_st rfl rfl (st_at (path:=[]) (pl:=false) (e':=.agg [.usl 1 (r2.map str),.usl 12 (r3.map encO_Clause)]) (es2':=[.agg [.usl 1 (r2.map str),.usl 12 (r3.map encO_Clause)]]) rfl (abs1 rfl (abs_hs rfl rfl)) rfl rfl rfl ra_n rfl rfl rfl rfl rfl sr_n 3 rfl)) ?_
 refine cq 4 [12] [.agg [.hs 33 3 [(0,0)] 1 0 (r2.map str).length,.hs 33 3 [(0,1)] 12 0 (r3.map encO_Clause).length]] 225 ?_
 refine o0 241 rfl rfl (e_st rfl rfl (st_at (path:=[]) (pl:=false) (e':=.agg [.usl 1 (r2.map str),.usl 12 (r3.map encO_Clause)]) (es2':=[.agg [.usl 1 (r2.map str),.usl 12 (r3.map encO_Clause)]]) rfl (absA (absC (abs_at (path:=[(0,0)]) rfl rfl (ra_c rfl rfl ra_n) rfl (to_c (path:=[]) (i:=0) (k:=0) (e':=.agg [.dead,.usl 12 (r3.map encO_Clause)]) (es2':=[.agg [.dead,.usl 12 (r3.map encO_Clause)]]) ra_n rfl rfl rfl sr_n)) (absC (abs_at (path:=[(0,1)]) rfl rfl (ra_c rfl rfl ra_n) rfl (to_c (path:=[]) (i:=0) (k:=1) (e':=.agg [.dead,.dead]) (es2':=[.agg [.dead,.dead]]) ra_n rfl rfl rfl sr_n)) absN))) rfl rfl rfl ra_n rfl rfl rfl rfl rfl sr_n 2 rfl)) ?_
 refine aq 1 ?_
 obtain rfl:=Option.some.inj h
 exact s_ret rfl ⟨_,fin (vs:=[.agg [.hs 17 2 [(0,0)] 1 0 (r2.map str).length,.hs 17 2 [(0,1)] 12 0 (r3.map encO_Clause).length]]) (rs_c (rs_cell rfl rfl rfl) rs_n) (absE (absA (absC (abs_at (path:=[(0,0)]) rfl rfl (ra_c rfl rfl ra_n) rfl (to_c (path:=[]) (i:=0) (k:=0) (e':=.agg [.dead,.usl 12 (r3.map encO_Clause)]) (es2':=[.agg [.dead,.usl 12 (r3.map encO_Clause)]]) ra_n rfl rfl rfl sr_n)) (absC (abs_at (path:=[(0,1)]) rfl rfl (ra_c rfl rfl ra_n) rfl (to_c (path:=[]) (i:=0) (k:=1) (e':=.agg [.dead,.dead]) (es2':=[.agg [.dead,.dead]]) ra_n rfl rfl rfl sr_n)) absN))) absEN) rfl (ou_f ou_n),kl_n⟩
theorem Ffbu_good {G:Go.Ln.Ground}:Good Tryz.prog G 13 Ffbu_ent:=gT 1 0 (gl_c Ffbv_good (gl_c Ffbq_good gl_n)) (Checked.mixed Tryz.checked) Tryz.func13 (fun a r h=>Ffbu_run a r h)
def spec_l1In_A:(Int×Int×Int)→List V:=cA I (cA I (oA I))
def spec_l1In_R (r:Bool):V×List V:=(B r,[])
noncomputable def spec_l1In_ent:Ent:=entT [false,false,false] spec_l1In_A spec_l1In_R fun x=>spec_l1In x.1 x.2.1 x.2.2
theorem spec_l1In_F {x_1:Int}{a_2:Int}{b_3:Int}{r}(h:spec_l1In x_1 a_2 b_3=some r):spec_l1In_ent.F (spec_l1In_A (x_1,a_2,b_3))=some (spec_l1In_R r):=entT_F (cA_inj I_inj (cA_inj I_inj (oA_inj I_inj))) h
noncomputable def spec_l1In_c:Code:=bodyOf Tryz.f83
noncomputable def spec_l1In_E:Env:=mkE Tryz.prog []
def spec_l1In_Q (x:Int×Int×Int)(r:Bool):St→Prop:=QF spec_l1In_E Tryz.f83 [false,false,false] (spec_l1In_A x) (spec_l1In_R r)
theorem spec_l1In_run (x_1:Int)(a_2:Int)(b_3:Int)(r:Bool)(h:spec_l1In x_1 a_2 b_3=some r):RunF spec_l1In_E Tryz.f83 [false,false,false] 0 (spec_l1In_A (x_1,a_2,b_3)) (spec_l1In_R r):=by
 show Run _ _ (spec_l1In_Q (x_1,a_2,b_3) r) [.code spec_l1In_c] _
 refine rI 15 [(0,I x_1),(1,I a_2),(2,I b_3)] [] 1 ?_
 unfold spec_l1In at h
 refine cq 10 [10] [B (decide (x_1≥a_2))] 81 ?_
 obtain⟨u4,hu4,h⟩:=lJ h
 have j4:Run spec_l1In_E 0 (spec_l1In_Q (x_1,a_2,b_3) r) (.code (cR (cR spec_l1In_c))::[]) (sT 15 [(6,B u4)] [] 1):=by
  obtain rfl:=Option.some.inj h
  exact s_ret rfl (qp [B u4])
 replace h:=hu4
 clear hu4
 refine sp 10 h rfl (fun h=>?_) fun h=>?_
 ·refine cq 6 [6] [B (decide (x_1≤b_3))] 161 ?_
  subst h
  exact rf [6] [] (j4 :)
 ·refine cq 6 [6] [B false] 161 ?_
  subst h
  exact rf [6] [] (j4 :)
theorem spec_l1In_good {G:Go.Ln.Ground}:Good Tryz.prog G 83 spec_l1In_ent:=gT 3 0 gl_n (Checked.mixed Tryz.checked) Tryz.func83 (fun a r h=>spec_l1In_run a.1 a.2.1 a.2.2 r h)
def Ffcp_A:Int→List V:=oA (V.int .u8)
def Ffcp_R (r:Bool):V×List V:=(B r,[])
noncomputable def Ffcp_ent:Ent:=entT [false] Ffcp_A Ffcp_R fun x=>Ffcp x
theorem Ffcp_F {b_1:Int}{r}(h:Ffcp b_1=some r):Ffcp_ent.F (Ffcp_A b_1)=some (Ffcp_R r):=entT_F (oA_inj (vint_inj (k:=.u8))) h
noncomputable def Ffcp_c:Code:=bodyOf Tryz.f152
noncomputable def Ffcp_E:Env:=mkE Tryz.prog []
def Ffcp_Q (x:Int)(r:Bool):St→Prop:=QF Ffcp_E Tryz.f152 [false] (Ffcp_A x) (Ffcp_R r)
theorem Ffcp_run (b_1:Int)(r:Bool)(h:Ffcp b_1=some r):RunF Ffcp_E Tryz.f152 [false] 0 (Ffcp_A b_1) (Ffcp_R r):=by
 show Run _ _ (Ffcp_Q b_1 r) [.code Ffcp_c] _
 refine rI 17 [(0,.int .u8 b_1)] [] 1 ?_
 unfold Ffcp at h
 refine cq 9 [5] [B (decide (b_1≥97))] 65 ?_
 obtain⟨u2,hu2,h⟩:=lJ h
 have j2:Run Ffcp_E 0 (Ffcp_Q b_1 r) (.code (cR (cR Ffcp_c))::[]) (sT 17 [(2,B u2)] [] 1):=by
  obtain rfl:=Option.some.inj h
  exact s_ret rfl (qp [B u2])
 replace h:=hu2
 clear hu2
 refine sp 5 h rfl (fun h=>?_) fun h=>?_
 ·refine cq 4 [9] [B (decide (b_1≤122))] 129 ?_
  obtain⟨u3,hu3,h⟩:=lJ h
  have j3:Run Ffcp_E 0 (Ffcp_Q b_1 r) (.code (cR (cR Ffcp_c))::[]) (sT 17 [(2,B u3)] [] 1):=by
   subst h
   exact rf [2] [] (j2 :)
  replace h:=hu3
  clear hu3
  refine sp 9 h rfl (fun h=>?_) fun h=>?_
  ·refine cq 9 [2] [B true] 257 ?_
   subst h
   exact rf [2] [] (j3 :)
  ·refine cq 3 [12] [B (decide (b_1≥48))] 177 ?_
   obtain⟨u4,hu4,h⟩:=lJ h
   have j4:Run Ffcp_E 0 (Ffcp_Q b_1 r) (.code (cR (cR Ffcp_c))::[]) (sT 17 [(2,B u4)] [] 1):=by
    subst h
    exact rf [2] [] (j3 :)
   replace h:=hu4
   clear hu4
   refine sp 12 h rfl (fun h=>?_) fun h=>?_
   ·refine cq 6 [2] [B (decide (b_1≤57))] 257 ?_
    subst h
    exact rf [2] [] (j4 :)
   ·refine cq 6 [2] [B false] 257 ?_
    subst h
    exact rf [2] [] (j4 :)
 ·refine cq 7 [9,12] [B false,B (decide (b_1≥48))] 177 ?_
  obtain⟨u5,hu5,h⟩:=lJ h
  have j5:Run Ffcp_E 0 (Ffcp_Q b_1 r) (.code (cR (cR Ffcp_c))::[]) (sT 17 [(2,B u5)] [] 1):=by
   subst h
   exact rf [2] [] (j2 :)
  replace h:=hu5
  clear hu5
  refine sp 12 h rfl (fun h=>?_) fun h=>?_
  ·refine cq 6 [2] [B (decide (b_1≤57))] 257 ?_
   subst h
   exact rf [2] [] (j5 :)
  ·refine cq 6 [2] [B false] 257 ?_
   subst h
   exact rf [2] [] (j5 :)
theorem Ffcp_good {G:Go.Ln.Ground}:Good Tryz.prog G 152 Ffcp_ent:=gT 1 0 gl_n (Checked.mixed Tryz.checked) Tryz.func152 (fun a r h=>Ffcp_run a r h)
def Ffcm_A:Str→List V:=oA str
def Ffcm_R (r:Bool):V×List V:=(B r,[])
noncomputable def Ffcm_ent:Ent:=entT [false] Ffcm_A Ffcm_R fun x=>Ffcm x
theorem Ffcm_F {s_1:Str}{r}(h:Ffcm s_1=some r):Ffcm_ent.F (Ffcm_A s_1)=some (Ffcm_R r):=entT_F (oA_inj str_inj) h
noncomputable def Ffcm_c:Code:=bodyOf Tryz.f126
noncomputable abbrev Ffcm_ka:Code:=cR (cR (cR (cR Ffcm_c)))
noncomputable abbrev Ffcm_kb:Code:=cR (cL (cR (cL (cR (cR (cR Ffcm_c))))))
noncomputable def Ffcm_E:Env:=mkE Tryz.prog [(83,spec_l1In_ent),(152,Ffcp_ent)]
def Ffcm_Q (x:Str)(r:Bool):St→Prop:=QF Ffcm_E Tryz.f126 [false] (Ffcm_A x) (Ffcm_R r)
theorem Ffcm_la_run (s_1:Str){Q:St→Prop}{K:List It}(hK:noD K=true):∀(x4:Int) (y:Bool⊕Unit),Ffcm_la s_1 x4=some y→(∀r',y=.inl r'→∀st,Ffcm_Q s_1 r' st→Q st)→(∀u:Unit,y=.inr u→Run Ffcm_E 0 Q K (sT 40 [(0,str s_1)] [] 1))→Run Ffcm_E 0 Q (.code (cL (cL (cR (cL (cR (cR Ffcm_c))))))::.lp (cL (cL (cR (cL (cR (cR Ffcm_c))))))::.blk 0::K) (sT 40 [(0,str s_1),(3,I x4)] [] 1):=by
 refine fix_indP (Ffcm_la_fin s_1) ?_
 intro self ih x4 y h hr hn
 unfold Ffcm_la_F at h
 refine cq 8 [21] [B (decide (x4<(len s_1)))] 65 ?_
 refine sq h (fun h=>?_) fun h=>?_
 ·refine aq 1 ?_
  refine cq 6 [24,25] [str s_1,I x4] 97 ?_
  obtain⟨c5,hc5,h⟩:=bS h
  refine oq 113 (.int .u8 (c5.toNat:Int)) rfl (e_index rfl rfl (i_str rfl rfl hc5)) ?_
  obtain⟨r6,hr6,h⟩:=bS h
  refine oq 129 (B r6) rfl (cP (Ffcp_F hr6)) ?_
  refine cq 2 [28] [B (!r6)] 145 ?_
  refine sq h (fun h=>?_) fun h=>?_
  ·refine cq 4 [2] [B false] 161 ?_
   exact s_ret rfl (hr _ (Option.some.inj h).symm _ (qp [B false]))
  ·refine aq 1 ?_
   refine cq 6 [3] [I (w64 (x4+1))] 193 ?_
   refine s_lp ?_
   exact rf [0,3] [] (ih _ _ h hr hn :)
 ·refine aq 1 ?_
  exact rf [0] [] (hn _ (Option.some.inj h).symm :) (hk:=hK)
theorem Ffcm_run (s_1:Str)(r:Bool)(h:Ffcm s_1=some r):RunF Ffcm_E Tryz.f126 [false] 0 (Ffcm_A s_1) (Ffcm_R r):=by
 show Run _ _ (Ffcm_Q s_1 r) [.code Ffcm_c] _
 refine rI 40 [(0,str s_1)] [] 1 ?_
 unfold Ffcm at h
 refine cq 9 [5] [I (len s_1)] 49 ?_
 obtain⟨r2,hr2,h⟩:=bS h
 refine oq 65 (B r2) rfl (cP (spec_l1In_F hr2)) ?_
 refine cq 2 [8] [B (!r2)] 97 ?_
 obtain⟨y3,hy3,hy31,hy32⟩:=bJ h
 have j3:∀u3,y3=.inr u3→Run Ffcm_E 0 (Ffcm_Q s_1 r) (.code (cR (cL (cR Ffcm_c)))::.code (cR (cR Ffcm_c))::[]) (sT 40 [(0,str s_1),(17,B u3)] [] 1):=by
  intro u3 hu
  replace h:=hy32 u3 hu
  refine sq h (fun h=>?_) fun h=>?_
  ·refine cq 4 [2] [B false] 17 ?_
   obtain rfl:=Option.some.inj h
   exact s_ret rfl (qp [B false])
  ·refine aq 1 ?_
   refine cq 6 [3] [I (0)] 17 ?_
   obtain⟨y7,hy7,hy71,hy72⟩:=bJ h
   refine s_loop rfl ?_
   refine rf [0,3] [] (Ffcm_la_run s_1 rfl 0 _ hy7 (fun r' e st hq=>by rw[hy71 r' e] at hq;exact hq) fun u7 hu=>?_)
   replace h:=hy72 u7 hu
   refine cq 12 [29,30] [str s_1,B (s_1==([116,114,117,101]:Str))] 49 ?_
   obtain⟨u8,hu8,h⟩:=lJ h
   have j8:Run Ffcm_E 0 (Ffcm_Q s_1 r) (.code Ffcm_kb::.blk 2::.code Ffcm_ka::[]) (sT 40 [(30,B u8)] [] 1):=by
    refine sq h (fun h=>?_) fun h=>?_
    ·refine cq 4 [2] [B false] 17 ?_
     obtain rfl:=Option.some.inj h
     exact s_ret rfl (qp [B false])
    ·refine aq 1 ?_
     refine cq 5 [2] [B true] 17 ?_
     obtain rfl:=Option.some.inj h
     exact s_ret rfl (qp [B true])
   replace h:=hu8
   clear hu8
   refine scp h rfl rfl (fun h=>?_) fun h=>?_
   ·refine aq 1 ?_
    subst h
    exact rf [30] [] (j8 :)
   ·refine cq 5 [30] [B (s_1==([102,114,111,109]:Str))] 81 ?_
    obtain⟨u9,hu9,h⟩:=lJ h
    have j9:Run Ffcm_E 0 (Ffcm_Q s_1 r) (.code Ffcm_kb::.blk 2::.code Ffcm_ka::[]) (sT 40 [(30,B u9)] [] 1):=by
     subst h
     exact rf [30] [] (j8 :)
    replace h:=hu9
    clear hu9
    refine scp h rfl rfl (fun h=>?_) fun h=>?_
    ·refine aq 1 ?_
     subst h
     exact rf [30] [] (j9 :)
    ·refine cq 5 [30] [B (s_1==([110,111,116]:Str))] 113 ?_
     obtain⟨u10,hu10,h⟩:=lJ h
     have j10:Run Ffcm_E 0 (Ffcm_Q s_1 r) (.code Ffcm_kb::.blk 2::.code Ffcm_ka::[]) (sT 40 [(30,B u10)] [] 1):=by
      subst h
      exact rf [30] [] (j9 :)
     replace h:=hu10
     clear hu10
     refine scp h rfl rfl (fun h=>?_) fun h=>?_
     ·refine aq 1 ?_
      subst h
      exact rf [30] [] (j10 :)
     ·refine cq 5 [30] [B (s_1==([97,110,100]:Str))] 145 ?_
      obtain⟨u11,hu11,h⟩:=lJ h
      have j11:Run Ffcm_E 0 (Ffcm_Q s_1 r) (.code Ffcm_kb::.blk 2::.code Ffcm_ka::[]) (sT 40 [(30,B u11)] [] 1):=by
       subst h
       exact rf [30] [] (j10 :)
      replace h:=hu11
      clear hu11
      refine scp h rfl rfl (fun h=>?_) fun h=>?_
      ·refine aq 1 ?_
       subst h
       exact rf [30] [] (j11 :)
      ·refine cq 5 [30] [B (s_1==([111,114]:Str))] 177 ?_
       obtain⟨u12,hu12,h⟩:=lJ h
       have j12:Run Ffcm_E 0 (Ffcm_Q s_1 r) (.code Ffcm_kb::.blk 2::.code Ffcm_ka::[]) (sT 40 [(30,B u12)] [] 1):=by
        subst h
        exact rf [30] [] (j11 :)
       replace h:=hu12
       clear hu12
       refine scp h rfl rfl (fun h=>?_) fun h=>?_
       ·refine aq 1 ?_
        subst h
        exact rf [30] [] (j12 :)
       ·refine cq 5 [30] [B (s_1==([98,111,116,104]:Str))] 209 ?_
        obtain⟨u13,hu13,h⟩:=lJ h
        have j13:Run Ffcm_E 0 (Ffcm_Q s_1 r) (.code Ffcm_kb::.blk 2::.code Ffcm_ka::[]) (sT 40 [(30,B u13)] [] 1):=by
         subst h
         exact rf [30] [] (j12 :)
        replace h:=hu13
        clear hu13
        refine scp h rfl rfl (fun h=>?_) fun h=>?_
        ·refine aq 1 ?_
         subst h
         exact rf [30] [] (j13 :)
        ·refine cq 5 [30] [B (s_1==([101,105,116,104,101,114]:Str))] 241 ?_
         obtain⟨u14,hu14,h⟩:=lJ h
         have j14:Run Ffcm_E 0 (Ffcm_Q s_1 r) (.code Ffcm_kb::.blk 2::.code Ffcm_ka::[]) (sT 40 [(30,B u14)] [] 1):=by
          subst h
          exact rf [30] [] (j13 :)
         replace h:=hu14
         clear hu14
         refine scp h rfl rfl (fun h=>?_) fun h=>?_
         ·refine aq 1 ?_
          subst h
          exact rf [30] [] (j14 :)
         ·refine cq 5 [30] [B (s_1==([105,116]:Str))] 273 ?_
          obtain⟨u15,hu15,h⟩:=lJ h
          have j15:Run Ffcm_E 0 (Ffcm_Q s_1 r) (.code Ffcm_kb::.blk 2::.code Ffcm_ka::[]) (sT 40 [(30,B u15)] [] 1):=by
           subst h
           exact rf [30] [] (j14 :)
          replace h:=hu15
          clear hu15
          refine scp h rfl rfl (fun h=>?_) fun h=>?_
          ·refine aq 1 ?_
           subst h
           exact rf [30] [] (j15 :)
          ·refine cq 4 [30] [B (s_1==([105,110]:Str))] 305 ?_
           subst h
           exact rf [30] [] (j15 :)
 have r3:∀r',y3=.inl r'→∀st,Ffcm_Q s_1 r' st→(Ffcm_Q s_1 r) st:=fun r' e st hq=>by rw[hy31 r' e] at hq;exact hq
 replace h:=hy3
 refine sp 8 h rfl (fun h=>?_) fun h=>?_
 ·refine cq 10 [17] [B true] 241 ?_
  exact rf [0,17] [] (j3 _ (Option.some.inj h).symm :)
 ·refine cq 1 [9] [str s_1] 113 ?_
  obtain⟨c16,hc16,h⟩:=bS h
  refine oy 129 (.int .u8 (c16.toNat:Int)) rfl (e_index rfl rfl (i_str rfl rfl hc16)) ?_
  refine cq 3 [13] [B (decide ((c16.toNat:Int)<97))] 177 ?_
  obtain⟨y17,hy17,hy171,hy172⟩:=bL h
  have j17:∀u17,y17=.inr u17→Run Ffcm_E 0 (Ffcm_Q s_1 r) (.code (cR (cL (cR Ffcm_c)))::.code (cR (cR Ffcm_c))::[]) (sT 40 [(0,str s_1),(17,B u17)] [] 1):=by
   intro u17 hu
   replace h:=hy172 u17 hu
   exact rf [0,17] [] (j3 _ (Option.some.inj h).symm :)
  have r17:∀r',y17=.inl r'→∀st,Ffcm_Q s_1 r' st→(Ffcm_Q s_1 r) st:=fun r' e st hq=>r3 r' (hy171 r' e) st hq
  replace h:=hy17
  refine sp 13 h rfl (fun h=>?_) fun h=>?_
  ·refine cq 5 [17] [B true] 241 ?_
   exact rf [0,17] [] (j17 _ (Option.some.inj h).symm :)
  ·refine cq 1 [14] [str s_1] 193 ?_
   obtain⟨c18,hc18,h⟩:=bS h
   refine oy 209 (.int .u8 (c18.toNat:Int)) rfl (e_index rfl rfl (i_str rfl rfl hc18)) ?_
   refine cq 3 [17] [B (decide ((c18.toNat:Int)>122))] 241 ?_
   exact rf [0,17] [] (j17 _ (Option.some.inj h).symm :)
theorem Ffcm_good {G:Go.Ln.Ground}:Good Tryz.prog G 126 Ffcm_ent:=gT 1 0 (gl_c spec_l1In_good (gl_c Ffcp_good gl_n)) (Checked.mixed Tryz.checked) Tryz.func126 (fun a r h=>Ffcm_run a r h)
def Ffcl_A:((List Str)×Str)→List V:=cA (slE str) (oA str)
def Ffcl_R (r:Bool):V×List V:=(B r,[])
noncomputable def Ffcl_ent:Ent:=entT [false,false] Ffcl_A Ffcl_R fun x=>Ffcl x.1 x.2
theorem Ffcl_F {list_1:List Str}{name_2:Str}{r}(h:Ffcl list_1 name_2=some r):Ffcl_ent.F (Ffcl_A (list_1,name_2))=some (Ffcl_R r):=entT_F (cA_inj (isl_inj str_inj) (oA_inj str_inj)) h
noncomputable def Ffcl_c:Code:=bodyOf Tryz.f127
noncomputable def Ffcl_E:Env:=mkE Tryz.prog []
def Ffcl_Q (x:(List Str)×Str)(r:Bool):St→Prop:=QF Ffcl_E Tryz.f127 [false,false] (Ffcl_A x) (Ffcl_R r)
theorem Ffcl_la_run (list_1:List Str)(name_2:Str){Q:St→Prop}{K:List It}(hK:noD K=true):∀(x3:Int) (y:Bool⊕Unit),Ffcl_la list_1 name_2 x3=some y→(∀r',y=.inl r'→∀st,Ffcl_Q (list_1,name_2) r' st→Q st)→(∀u:Unit,y=.inr u→Run Ffcl_E 0 Q K (sT 18 [] [] 1))→Run Ffcl_E 0 Q (.code (cL (cL (cR (cL (cR Ffcl_c)))))::.lp (cL (cL (cR (cL (cR Ffcl_c)))))::.blk 0::K) (sT 18 [(0,.isl false (list_1.map str)),(1,str name_2),(5,I x3)] [] 1):=by
 refine fix_indP (Ffcl_la_fin list_1 name_2) ?_
 intro self ih x3 y h hr hn
 unfold Ffcl_la_F at h
 refine cq 5 [6,7] [I x3,.isl false (list_1.map str)] 33 ?_
 refine oq 49 (I (len list_1)) rfl (e_len rfl rfl rfl (l_isl rfl)) ?_
 refine cq 2 [9] [B (decide (x3<(len list_1)))] 65 ?_
 refine sq h (fun h=>?_) fun h=>?_
 ·refine aq 1 ?_
  refine cq 6 [12,13] [.isl false (list_1.map str),I x3] 97 ?_
  obtain⟨e4,he4,h⟩:=bS h
  refine oq 113 (.iptr (str e4) 0) rfl (e_indexAddr rfl rfl rfl (ix_islE rfl rfl rfl rfl he4)) ?_
  refine cq 4 [17] [B (e4==name_2)] 161 ?_
  refine sq h (fun h=>?_) fun h=>?_
  ·refine cq 4 [4] [B true] 177 ?_
   exact s_ret rfl (hr _ (Option.some.inj h).symm _ (qp [B true]))
  ·refine aq 1 ?_
   refine cq 6 [5] [I (w64 (x3+1))] 209 ?_
   refine s_lp ?_
   exact rf [0,1,5] [] (ih _ _ h hr hn :)
 ·refine aq 1 ?_
  exact rf [] [] (hn _ (Option.some.inj h).symm :) (hk:=hK)
theorem Ffcl_run (list_1:List Str)(name_2:Str)(r:Bool)(h:Ffcl list_1 name_2=some r):RunF Ffcl_E Tryz.f127 [false,false] 0 (Ffcl_A (list_1,name_2)) (Ffcl_R r):=by
 show Run _ _ (Ffcl_Q (list_1,name_2) r) [.code Ffcl_c] _
 refine rI 18 [(0,.isl false (list_1.map str)),(1,str name_2)] [] 1 ?_
 unfold Ffcl at h
 refine cq 10 [5] [I (0)] 33 ?_
 obtain⟨y5,hy5,hy51,hy52⟩:=bJ h
 refine s_loop rfl ?_
 refine rf [0,1,5] [] (Ffcl_la_run list_1 name_2 rfl 0 _ hy5 (fun r' e st hq=>by rw[hy51 r' e] at hq;exact hq) fun u5 hu=>?_)
 replace h:=hy52 u5 hu
 refine cq 4 [4] [B false] 17 ?_
 obtain rfl:=Option.some.inj h
 exact s_ret rfl (qp [B false])
theorem Ffcl_good {G:Go.Ln.Ground}:Good Tryz.prog G 127 Ffcl_ent:=gT 2 0 gl_n (Checked.mixed Tryz.checked) Tryz.func127 (fun a r h=>Ffcl_run a.1 a.2 r h)
def Ffcw_A:Contract→List V:=oA encI_Contract
def Ffcw_R (r:Bool):V×List V:=(B r,[])
noncomputable def Ffcw_ent:Ent:=entT [false] Ffcw_A Ffcw_R fun x=>Ffcw x
theorem Ffcw_F {c_1:Contract}{r}(h:Ffcw c_1=some r):Ffcw_ent.F (Ffcw_A c_1)=some (Ffcw_R r):=entT_F (oA_inj encI_Contract_inj) h
noncomputable def Ffcw_c:Code:=bodyOf Tryz.f99
noncomputable def Ffcw_E:Env:=mkE Tryz.prog [(126,Ffcm_ent),(127,Ffcl_ent),(83,spec_l1In_ent)]
def Ffcw_Q (x:Contract)(r:Bool):St→Prop:=QF Ffcw_E Tryz.f99 [false] (Ffcw_A x) (Ffcw_R r)
theorem Ffcw_la_run (c_1:Contract){Q:St→Prop}{K:List It}(hK:noD K=true):∀(x2:Int) (y:Bool⊕Unit),Ffcw_la c_1 x2=some y→(∀r',y=.inl r'→∀st,Ffcw_Q c_1 r' st→Q st)→(∀u:Unit,y=.inr u→Run Ffcw_E 0 Q K (sT 34 [(1,.hp 1 0 [] 2 0 0)] [⟨0,2,[.agg [.isl false (c_1.Parties.map str),.isl false (c_1.Clauses.map encI_Clause)]]⟩] 2))→Run Ffcw_E 0 Q (.code (cL (cL (cR (cL (cR Ffcw_c)))))::.lp (cL (cL (cR (cL (cR Ffcw_c)))))::.blk 0::K) (sT 34 [(1,.hp 1 0 [] 2 0 0),(3,I x2)] [⟨0,2,[.agg [.isl false (c_1.Parties.map str),.isl false (c_1.Clauses.map encI_Clause)]]⟩] 2):=by
 refine fix_indP (Ffcw_la_fin c_1) ?_
 intro self ih x2 y h hr hn
 unfold Ffcw_la_F at h
 refine cq 6 [4,6] [I x2,.isl false (c_1.Parties.map str)] 50 ?_
 refine oq 66 (I (len c_1.Parties)) rfl (e_len rfl rfl rfl (l_isl rfl)) ?_
 refine cq 2 [8] [B (decide (x2<(len c_1.Parties)))] 82 ?_
 refine sq h (fun h=>?_) fun h=>?_
 ·refine aq 1 ?_
  refine aq 3 ?_
  refine s_draw [0,1,0,7,15,31,63,127,255,511,255,2047,255,4351,255,28927,61695,131071,262143] rfl (by decide +kernel) ?_
  refine dq [1] [] (.hp 1 0 [] 2 0 0) rfl (e_fieldAddr rfl rfl rfl) ?_
  refine dq [1] [] (.isl false (c_1.Parties.map str)) rfl (e_ld rfl rfl) ?_
  refine dk 1 [13] [I x2] ?_
  obtain⟨e3,he3,h⟩:=bS h
  refine dq [] [] (.iptr (str e3) 0) rfl (e_indexAddr rfl rfl rfl (ix_islE rfl rfl rfl rfl he3)) ?_
  refine dq [] [] (str e3) rfl (e_ld rfl rfl) ?_
  obtain⟨r4,hr4,h⟩:=bS h
  refine dq [] [] (B r4) rfl (cP (Ffcm_F hr4)) ?_ (w_callO rfl rfl rfl rfl (avS (shP rfl) avN) (Ffcm_F hr4) (.inr rfl) rfl)
  refine dk 2 [18,17] [B (!r4),B (!r4)] ?_
  obtain⟨y5,hy5,hy51,hy52⟩:=bL h
  have j5:∀u5,y5=.inr u5→Run Ffcw_E 0 Q (.code (cR (cL (cL (cR (cL (cL (cR (cL (cR Ffcw_c)))))))))::.blk 1::.code (cR (cR (cL (cL (cR (cL (cR Ffcw_c)))))))::.lp (cL (cL (cR (cL (cR Ffcw_c)))))::.blk 0::K) (sT 34 [(1,.hp 1 0 [] 2 0 0),(3,I x2),(29,B u5)] [⟨0,2,[.agg [.isl false (c_1.Parties.map str),.isl false (c_1.Clauses.map encI_Clause)]]⟩] 2):=by
   intro u5 hu
   replace h:=hy52 u5 hu
   refine sq h (fun h=>?_) fun h=>?_
   ·refine cq 4 [2] [B false] 18 ?_
    exact s_ret rfl (hr _ (Option.some.inj h).symm _ (qp [B false]))
   ·refine aq 1 ?_
    refine cq 6 [3] [I (w64 (x2+1))] 50 ?_
    refine s_lp ?_
    exact rf [1,3] [1] (ih _ _ h hr hn :)
  have r5:∀r',y5=.inl r'→∀st,Ffcw_Q c_1 r' st→Q st:=fun r' e st hq=>hr r' (hy51 r' e) st hq
  replace h:=hy5
  refine sp 18 h rfl (fun h=>?_) fun h=>?_
  ·refine dk 11 [29,28,27,26,25,24,23,22,21,20,19] [B true,.und,.und,.und,.und,.und,.und,.und,.und,.und,.und] ?_
   refine de 386 rfl rfl ?_
   exact rf [1,3,29] [1] (j5 _ (Option.some.inj h).symm :)
  ·refine dy [1] [] (.hp 1 0 [] 2 0 0) rfl (e_fieldAddr rfl rfl rfl) ?_
   refine dy [1] [] (.isl false (c_1.Parties.map str)) rfl (e_ld rfl rfl) ?_
   refine dk 1 [21] [I x2] ?_
   obtain⟨s6,hs6,h⟩:=bS h
   refine dy [] [] (.isl false (s6.map str)) rfl (e_slice rfl rfl rfl rfl (sl_isl rfl rfl (fun y=>(str_cells y).1) rfl rfl hs6)) ?_
   refine dy [1] [] (.hp 1 0 [] 2 0 0) rfl (e_fieldAddr rfl rfl rfl) ?_
   refine dy [1] [] (.isl false (c_1.Parties.map str)) rfl (e_ld rfl rfl) ?_
   refine dk 1 [25] [I x2] ?_
   obtain⟨e7,he7,h⟩:=bS h
   refine dy [] [] (.iptr (str e7) 0) rfl (e_indexAddr rfl rfl rfl (ix_islE rfl rfl rfl rfl he7)) ?_
   refine dy [] [] (str e7) rfl (e_ld rfl rfl) ?_
   obtain⟨r8,hr8,h⟩:=bS h
   refine dy [] [] (B r8) rfl (cP (Ffcl_F hr8)) ?_ (w_callO rfl rfl rfl rfl (avS (shP rfl) (avS (shP rfl) avN)) (Ffcl_F hr8) (.inr rfl) rfl)
   refine dk 1 [29] [B r8] ?_
   refine de 386 rfl rfl ?_
   exact rf [1,3,29] [1] (j5 _ (Option.some.inj h).symm :)
 ·refine aq 1 ?_
  exact rf [1] [1] (hn _ (Option.some.inj h).symm :) (hk:=hK)
theorem Ffcw_run (c_1:Contract)(r:Bool)(h:Ffcw c_1=some r):RunF Ffcw_E Tryz.f99 [false] 0 (Ffcw_A c_1) (Ffcw_R r):=by
 show Run _ _ (Ffcw_Q c_1 r) [.code Ffcw_c] _
 refine rI 34 [(0,.agg [.isl false (c_1.Parties.map str),.isl false (c_1.Clauses.map encI_Clause)])] [] 1 ?_
 unfold Ffcw at h
 refine ck 11 [1,3] [] [1] [] [.hp 1 0 [] 2 0 0,I (0)] [some ⟨0,2,[.agg [.isl false (c_1.Parties.map str),.isl false (c_1.Clauses.map encI_Clause)]]⟩] 49 (by kernel_rfl) ?_
 obtain⟨y9,hy9,hy91,hy92⟩:=bJ h
 refine s_loop rfl ?_
 refine rf [1,3] [1] (Ffcw_la_run c_1 rfl 0 _ hy9 (fun r' e st hq=>by rw[hy91 r' e] at hq;exact hq) fun u9 hu=>?_)
 replace h:=hy92 u9 hu
 refine cq 4 [31] [.isl false (c_1.Parties.map str)] 34 ?_
 refine oq 50 (I (len c_1.Parties)) rfl (e_len rfl rfl rfl (l_isl rfl)) ?_
 obtain⟨r10,hr10,h⟩:=bS h
 refine oq 66 (B r10) rfl (cP (spec_l1In_F hr10)) ?_
 refine cq 2 [2] [B r10] 82 ?_
 obtain rfl:=Option.some.inj h
 exact s_ret rfl (qp [B r10])
theorem Ffcw_good {G:Go.Ln.Ground}:Good Tryz.prog G 99 Ffcw_ent:=gT 1 0 (gl_c Ffcm_good (gl_c Ffcl_good (gl_c spec_l1In_good gl_n))) (Checked.mixed Tryz.checked) Tryz.func99 (fun a r h=>Ffcw_run a r h)
def Ffct_A:(Contract×Str)→List V:=cA encI_Contract (oA str)
def Ffct_R (r:Int):V×List V:=(I r,[])
noncomputable def Ffct_ent:Ent:=entT [false,false] Ffct_A Ffct_R fun x=>Ffct x.1 x.2
theorem Ffct_F {c_1:Contract}{id_2:Str}{r}(h:Ffct c_1 id_2=some r):Ffct_ent.F (Ffct_A (c_1,id_2))=some (Ffct_R r):=entT_F (cA_inj encI_Contract_inj (oA_inj str_inj)) h
noncomputable def Ffct_c:Code:=bodyOf Tryz.f100
noncomputable def Ffct_E:Env:=mkE Tryz.prog []
def Ffct_Q (x:Contract×Str)(r:Int):St→Prop:=QF Ffct_E Tryz.f100 [false,false] (Ffct_A x) (Ffct_R r)
theorem Ffct_la_run (c_1:Contract)(id_2:Str){Q:St→Prop}{K:List It}(hK:noD K=true):∀(x3:Int) (y:Int⊕Unit),Ffct_la c_1 id_2 x3=some y→(∀r',y=.inl r'→∀st,Ffct_Q (c_1,id_2) r' st→Q st)→(∀u:Unit,y=.inr u→Run Ffct_E 0 Q K (sT 22 [] [] 1))→Run Ffct_E 0 Q (.code (cL (cL (cR (cL (cR Ffct_c)))))::.lp (cL (cL (cR (cL (cR Ffct_c)))))::.blk 0::K) (sT 22 [(1,str id_2),(2,.hp 1 0 [] 2 0 0),(5,I x3)] [⟨0,2,[.agg [.isl false (c_1.Parties.map str),.isl false (c_1.Clauses.map encI_Clause)]]⟩] 2):=by
 refine fix_indP (Ffct_la_fin c_1 id_2) ?_
 intro self ih x3 y h hr hn
 unfold Ffct_la_F at h
 refine cq 6 [6,8] [I x3,.isl false (c_1.Clauses.map encI_Clause)] 50 ?_
 refine oq 66 (I (len c_1.Clauses)) rfl (e_len rfl rfl rfl (l_isl rfl)) ?_
 refine cq 2 [10] [B (decide (x3<(len c_1.Clauses)))] 82 ?_
 refine sq h (fun h=>?_) fun h=>?_
 ·refine aq 1 ?_
  refine cq 7 [14,15] [.isl false (c_1.Clauses.map encI_Clause),I x3] 130 ?_
  obtain⟨e4,he4,h⟩:=bS h
  refine oq 146 (.iptr (.agg [str e4.Id,I e4.Kind,I e4.Party,str e4.Action,I e4.Other,I e4.Amount,I e4.When.Op,str e4.When.Name,I e4.When.Day,.isl false (e4.When.Parts.map encI_Condition),I e4.Within,str e4.Repair]) 0) rfl (e_indexAddr rfl rfl rfl (ix_islE rfl rfl rfl rfl he4)) ?_
  refine cq 5 [20] [B (e4.Id==id_2)] 210 ?_
  refine sq h (fun h=>?_) fun h=>?_
  ·refine cq 5 [4] [I x3] 242 ?_
   exact s_ret rfl (hr _ (Option.some.inj h).symm _ (qp [I x3]))
  ·refine aq 1 ?_
   refine cq 6 [5] [I (w64 (x3+1))] 258 ?_
   refine s_lp ?_
   exact rf [1,2,5] [1] (ih _ _ h hr hn :)
 ·refine aq 1 ?_
  exact rf [] [] (hn _ (Option.some.inj h).symm :) (hk:=hK)
theorem Ffct_run (c_1:Contract)(id_2:Str)(r:Int)(h:Ffct c_1 id_2=some r):RunF Ffct_E Tryz.f100 [false,false] 0 (Ffct_A (c_1,id_2)) (Ffct_R r):=by
 show Run _ _ (Ffct_Q (c_1,id_2) r) [.code Ffct_c] _
 refine rI 22 [(0,.agg [.isl false (c_1.Parties.map str),.isl false (c_1.Clauses.map encI_Clause)]),(1,str id_2)] [] 1 ?_
 unfold Ffct at h
 refine ck 11 [2,5] [] [1] [] [.hp 1 0 [] 2 0 0,I (0)] [some ⟨0,2,[.agg [.isl false (c_1.Parties.map str),.isl false (c_1.Clauses.map encI_Clause)]]⟩] 49 (by kernel_rfl) ?_
 obtain⟨y5,hy5,hy51,hy52⟩:=bJ h
 refine s_loop rfl ?_
 refine rf [1,2,5] [1] (Ffct_la_run c_1 id_2 rfl 0 _ hy5 (fun r' e st hq=>by rw[hy51 r' e] at hq;exact hq) fun u5 hu=>?_)
 replace h:=hy52 u5 hu
 refine cq 4 [4] [I (-1)] 17 ?_
 obtain rfl:=Option.some.inj h
 exact s_ret rfl (qp [I (-1)])
theorem Ffct_good {G:Go.Ln.Ground}:Good Tryz.prog G 100 Ffct_ent:=gT 2 0 gl_n (Checked.mixed Tryz.checked) Tryz.func100 (fun a r h=>Ffct_run a.1 a.2 r h)
def Ffch_A:Int→List V:=oA I
def Ffch_R (r:Bool):V×List V:=(B r,[])
noncomputable def Ffch_ent:Ent:=entT [false] Ffch_A Ffch_R fun x=>Ffch x
theorem Ffch_F {day_1:Int}{r}(h:Ffch day_1=some r):Ffch_ent.F (Ffch_A day_1)=some (Ffch_R r):=entT_F (oA_inj I_inj) h
noncomputable def Ffch_c:Code:=bodyOf Tryz.f79
noncomputable def Ffch_E:Env:=mkE Tryz.prog [(83,spec_l1In_ent)]
def Ffch_Q (x:Int)(r:Bool):St→Prop:=QF Ffch_E Tryz.f79 [false] (Ffch_A x) (Ffch_R r)
theorem Ffch_run (day_1:Int)(r:Bool)(h:Ffch day_1=some r):RunF Ffch_E Tryz.f79 [false] 0 (Ffch_A day_1) (Ffch_R r):=by
 show Run _ _ (Ffch_Q day_1 r) [.code Ffch_c] _
 refine rI 5 [(0,I day_1)] [] 1 ?_
 unfold Ffch at h
 refine cq 7 [3] [I day_1] 33 ?_
 obtain⟨r2,hr2,h⟩:=bS h
 refine oq 49 (B r2) rfl (cP (spec_l1In_F hr2)) ?_
 refine cq 2 [2] [B r2] 65 ?_
 obtain rfl:=Option.some.inj h
 exact s_ret rfl (qp [B r2])
theorem Ffch_good {G:Go.Ln.Ground}:Good Tryz.prog G 79 Ffch_ent:=gT 1 0 (gl_c spec_l1In_good gl_n) (Checked.mixed Tryz.checked) Tryz.func79 (fun a r h=>Ffch_run a r h)
def Ffci_A:Condition→List V:=oA encI_Condition1
def Ffci_R (r:Bool):V×List V:=(B r,[])
noncomputable def Ffci_ent:Ent:=entT [false] Ffci_A Ffci_R fun x=>Ffci x
theorem Ffci_F {c_1:Condition}{r}(h:Ffci c_1=some r):Ffci_ent.F (Ffci_A c_1)=some (Ffci_R r):=entT_F (oA_inj encI_Condition1_inj) h
noncomputable def Ffci_c:Code:=bodyOf Tryz.f151
noncomputable abbrev Ffci_ka:Code:=cR (cR (cR Ffci_c))
noncomputable abbrev Ffci_kb:Code:=cR (cL (cR (cR (cR (cL (cR (cL (cR (cR Ffci_c)))))))))
noncomputable abbrev Ffci_kc:Code:=cR (cL (cR (cR (cR (cR (cR (cL (cR (cL (cR (cR Ffci_c)))))))))))
noncomputable abbrev Ffci_kd:Code:=cR (cL (cR (cR (cR (cR (cR (cR (cR (cL (cR (cL (cR (cR Ffci_c)))))))))))))
noncomputable abbrev Ffci_ke:Code:=cR (cL (cR (cR (cR (cR (cR (cR (cR (cR (cR (cL (cR (cL (cR (cR Ffci_c)))))))))))))))
noncomputable def Ffci_E:Env:=mkE Tryz.prog [(126,Ffcm_ent),(79,Ffch_ent)]
def Ffci_Q (x:Condition)(r:Bool):St→Prop:=QF Ffci_E Tryz.f151 [false] (Ffci_A x) (Ffci_R r)
theorem Ffci_run (c_1:Condition)(r:Bool)(h:Ffci c_1=some r):RunF Ffci_E Tryz.f151 [false] 0 (Ffci_A c_1) (Ffci_R r):=by
 show Run _ _ (Ffci_Q c_1 r) [.code Ffci_c] _
 refine rI 80 [(0,.agg [I c_1.Op,str c_1.Name,I c_1.Day,.isl false (c_1.Parts.map encI_Condition)])] [] 1 ?_
 unfold Ffci at h
 refine ck 9 [1,5] [] [1] [] [.hp 1 0 [] 4 0 0,.isl false (c_1.Parts.map encI_Condition)] [some ⟨0,4,[.agg [I c_1.Op,str c_1.Name,I c_1.Day,.isl false (c_1.Parts.map encI_Condition)]]⟩] 65 (by kernel_rfl) ?_
 refine oq 81 (I (len c_1.Parts)) rfl (e_len rfl rfl rfl (l_isl rfl)) ?_
 refine cq 14 [3,8,9] [I (len c_1.Parts),I c_1.Op,B (c_1.Op==1)] 161 ?_
 refine sq h (fun h=>?_) fun h=>?_
 ·refine cq 5 [13] [B ((len c_1.Parts)==0)] 209 ?_
  obtain⟨u2,hu2,h⟩:=lJ h
  have j2:Run Ffci_E 0 (Ffci_Q c_1 r) (.code (cR (cL (cR (cL (cR (cL (cR (cR Ffci_c))))))))::.blk 0::.code Ffci_ka::[]) (sT 80 [(2,B u2)] [] 1):=by
   obtain rfl:=Option.some.inj h
   exact s_ret rfl (qp [B u2])
  replace h:=hu2
  clear hu2
  refine sp 13 h rfl (fun h=>?_) fun h=>?_
  ·refine cq 5 [18] [B (c_1.Name==([]:Str))] 289 ?_
   obtain⟨u3,hu3,h⟩:=lJ h
   have j3:Run Ffci_E 0 (Ffci_Q c_1 r) (.code (cR (cL (cR (cL (cR (cL (cR (cR Ffci_c))))))))::.blk 0::.code Ffci_ka::[]) (sT 80 [(2,B u3)] [] 1):=by
    subst h
    exact rf [2] [] (j2 :)
   replace h:=hu3
   clear hu3
   refine sp 18 h rfl (fun h=>?_) fun h=>?_
   ·refine cq 6 [2] [B (c_1.Day==0)] 369 ?_
    subst h
    exact rf [2] [] (j3 :)
   ·refine cq 6 [2] [B false] 369 ?_
    subst h
    exact rf [2] [] (j3 :)
  ·refine cq 11 [2] [B false] 369 ?_
   subst h
   exact rf [2] [] (j2 :)
 ·refine cq 5 [23] [B (c_1.Op==2)] 193 ?_
  refine sq h (fun h=>?_) fun h=>?_
  ·refine cq 5 [27] [B ((len c_1.Parts)==0)] 241 ?_
   obtain⟨y4,hy4,hy41,hy42⟩:=bJ h
   have j4:∀u4,y4=.inr u4→Run Ffci_E 0 (Ffci_Q c_1 r) (.code Ffci_kb::.blk 0::.code Ffci_ka::[]) (sT 80 [(2,B u4)] [] 1):=by
    intro u4 hu
    replace h:=hy42 u4 hu
    obtain rfl:=Option.some.inj h
    exact s_ret rfl (qp [B u4])
   have r4:∀r',y4=.inl r'→∀st,Ffci_Q c_1 r' st→(Ffci_Q c_1 r) st:=fun r' e st hq=>by rw[hy41 r' e] at hq;exact hq
   replace h:=hy4
   refine sp 27 h rfl (fun h=>?_) fun h=>?_
   ·refine cq 2 [29] [str c_1.Name] 273 ?_
    obtain⟨r5,hr5,h⟩:=bS h
    refine oy 289 (B r5) rfl (cP (Ffcm_F hr5)) ?_
    refine cq 2 [32] [B r5] 321 ?_
    obtain⟨u6,hu6,h⟩:=lJ h
    have j6:Run Ffci_E 0 (Ffci_Q c_1 r) (.code Ffci_kb::.blk 0::.code Ffci_ka::[]) (sT 80 [(2,B u6)] [] 1):=by
     exact rf [2] [] (j4 _ (Option.some.inj h).symm :)
    replace h:=hu6
    clear hu6
    refine sp 32 h rfl (fun h=>?_) fun h=>?_
    ·refine cq 6 [2] [B (c_1.Day==0)] 401 ?_
     subst h
     exact rf [2] [] (j6 :)
    ·refine cq 6 [2] [B false] 401 ?_
     subst h
     exact rf [2] [] (j6 :)
   ·refine cq 11 [2] [B false] 401 ?_
    exact rf [2] [] (j4 _ (Option.some.inj h).symm :)
  ·refine cq 5 [37] [B (c_1.Op==3)] 225 ?_
   refine sq h (fun h=>?_) fun h=>?_
   ·refine cq 5 [41] [B ((len c_1.Parts)==0)] 273 ?_
    obtain⟨y7,hy7,hy71,hy72⟩:=bJ h
    have j7:∀u7,y7=.inr u7→Run Ffci_E 0 (Ffci_Q c_1 r) (.code Ffci_kc::.blk 0::.code Ffci_ka::[]) (sT 80 [(2,B u7)] [] 1):=by
     intro u7 hu
     replace h:=hy72 u7 hu
     obtain rfl:=Option.some.inj h
     exact s_ret rfl (qp [B u7])
    have r7:∀r',y7=.inl r'→∀st,Ffci_Q c_1 r' st→(Ffci_Q c_1 r) st:=fun r' e st hq=>by rw[hy71 r' e] at hq;exact hq
    replace h:=hy7
    refine sp 41 h rfl (fun h=>?_) fun h=>?_
    ·refine cq 5 [46] [B (c_1.Name==([]:Str))] 353 ?_
     obtain⟨y8,hy8,hy81,hy82⟩:=bL h
     have j8:∀u8,y8=.inr u8→Run Ffci_E 0 (Ffci_Q c_1 r) (.code Ffci_kc::.blk 0::.code Ffci_ka::[]) (sT 80 [(2,B u8)] [] 1):=by
      intro u8 hu
      replace h:=hy82 u8 hu
      exact rf [2] [] (j7 _ (Option.some.inj h).symm :)
     have r8:∀r',y8=.inl r'→∀st,Ffci_Q c_1 r' st→(Ffci_Q c_1 r) st:=fun r' e st hq=>r7 r' (hy81 r' e) st hq
     replace h:=hy8
     refine sp 46 h rfl (fun h=>?_) fun h=>?_
     ·refine cq 2 [48] [I c_1.Day] 385 ?_
      obtain⟨r9,hr9,h⟩:=bS h
      refine oy 401 (B r9) rfl (cP (Ffch_F hr9)) ?_
      refine cq 3 [2] [B r9] 433 ?_
      exact rf [2] [] (j8 _ (Option.some.inj h).symm :)
     ·refine cq 6 [2] [B false] 433 ?_
      exact rf [2] [] (j8 _ (Option.some.inj h).symm :)
    ·refine cq 11 [2] [B false] 433 ?_
     exact rf [2] [] (j7 _ (Option.some.inj h).symm :)
   ·refine cq 5 [51] [B (c_1.Op==4)] 257 ?_
    refine sq h (fun h=>?_) fun h=>?_
    ·refine cq 5 [55] [B ((len c_1.Parts)==1)] 305 ?_
     obtain⟨u10,hu10,h⟩:=lJ h
     have j10:Run Ffci_E 0 (Ffci_Q c_1 r) (.code Ffci_kd::.blk 0::.code Ffci_ka::[]) (sT 80 [(2,B u10)] [] 1):=by
      obtain rfl:=Option.some.inj h
      exact s_ret rfl (qp [B u10])
     replace h:=hu10
     clear hu10
     refine sp 55 h rfl (fun h=>?_) fun h=>?_
     ·refine cq 5 [60] [B (c_1.Name==([]:Str))] 385 ?_
      obtain⟨u11,hu11,h⟩:=lJ h
      have j11:Run Ffci_E 0 (Ffci_Q c_1 r) (.code Ffci_kd::.blk 0::.code Ffci_ka::[]) (sT 80 [(2,B u11)] [] 1):=by
       subst h
       exact rf [2] [] (j10 :)
      replace h:=hu11
      clear hu11
      refine sp 60 h rfl (fun h=>?_) fun h=>?_
      ·refine cq 6 [2] [B (c_1.Day==0)] 465 ?_
       subst h
       exact rf [2] [] (j11 :)
      ·refine cq 6 [2] [B false] 465 ?_
       subst h
       exact rf [2] [] (j11 :)
     ·refine cq 11 [2] [B false] 465 ?_
      subst h
      exact rf [2] [] (j10 :)
    ·refine cq 6 [65] [B (c_1.Op==5)] 289 ?_
     obtain⟨u12,hu12,h⟩:=lJ h
     have j12:Run Ffci_E 0 (Ffci_Q c_1 r) (.code (cR (cR (cR (cR (cR (cR (cR (cR (cR (cL (cR (cL (cR (cR Ffci_c))))))))))))))::.blk 0::.code Ffci_ka::[]) (sT 80 [(1,.hp 1 0 [] 4 0 0),(3,I (len c_1.Parts)),(65,B u12)] [⟨0,4,[.agg [I c_1.Op,str c_1.Name,I c_1.Day,.isl false (c_1.Parts.map encI_Condition)]]⟩] 2):=by
      refine sq h (fun h=>?_) fun h=>?_
      ·refine cq 5 [70] [B ((len c_1.Parts)==2)] 50 ?_
       obtain⟨u13,hu13,h⟩:=lJ h
       have j13:Run Ffci_E 0 (Ffci_Q c_1 r) (.code Ffci_ke::.blk 0::.code Ffci_ka::[]) (sT 80 [(2,B u13)] [] 1):=by
        obtain rfl:=Option.some.inj h
        exact s_ret rfl (qp [B u13])
       replace h:=hu13
       clear hu13
       refine sp 70 h rfl (fun h=>?_) fun h=>?_
       ·refine cq 5 [75] [B (c_1.Name==([]:Str))] 130 ?_
        obtain⟨u14,hu14,h⟩:=lJ h
        have j14:Run Ffci_E 0 (Ffci_Q c_1 r) (.code Ffci_ke::.blk 0::.code Ffci_ka::[]) (sT 80 [(2,B u14)] [] 1):=by
         subst h
         exact rf [2] [] (j13 :)
        replace h:=hu14
        clear hu14
        refine sp 75 h rfl (fun h=>?_) fun h=>?_
        ·refine cq 6 [2] [B (c_1.Day==0)] 210 ?_
         subst h
         exact rf [2] [] (j14 :)
        ·refine cq 6 [2] [B false] 210 ?_
         subst h
         exact rf [2] [] (j14 :)
       ·refine cq 11 [2] [B false] 210 ?_
        subst h
        exact rf [2] [] (j13 :)
      ·refine aq 1 ?_
       refine cq 5 [2] [B false] 18 ?_
       obtain rfl:=Option.some.inj h
       exact s_ret rfl (qp [B false])
     replace h:=hu12
     clear hu12
     refine scp h rfl rfl (fun h=>?_) fun h=>?_
     ·refine aq 1 ?_
      subst h
      exact rf [1,3,65] [1] (j12 :)
     ·refine cq 4 [65] [B (c_1.Op==6)] 321 ?_
      subst h
      exact rf [1,3,65] [1] (j12 :)
theorem Ffci_good {G:Go.Ln.Ground}:Good Tryz.prog G 151 Ffci_ent:=gT 1 0 (gl_c Ffcm_good (gl_c Ffch_good gl_n)) (Checked.mixed Tryz.checked) Tryz.func151 (fun a r h=>Ffci_run a r h)
def Ffcj_A:Condition→List V:=oA encI_Condition1
def Ffcj_R (r:Bool):V×List V:=(B r,[])
noncomputable def Ffcj_entS (slf_Ffcj:Condition→Option Bool):Ent:=entT [false] Ffcj_A Ffcj_R slf_Ffcj
theorem Ffcj_FS (slf_Ffcj:Condition→Option Bool){x}{r}(h:slf_Ffcj x=some r):(Ffcj_entS slf_Ffcj).F (Ffcj_A x)=some (Ffcj_R r):=entT_F (oA_inj encI_Condition1_inj) h
noncomputable def Ffcj_ent:Ent:=Ffcj_entS (fixO Ffcj_G)
theorem Ffcj_F {c_1:Condition}{r}(h:Ffcj c_1=some r):Ffcj_ent.F (Ffcj_A c_1)=some (Ffcj_R r):=Ffcj_FS (fixO Ffcj_G) h
noncomputable def Ffcj_c:Code:=bodyOf Tryz.f125
noncomputable def Ffcj_E (slf_Ffcj:Condition→Option Bool):Env:=mkE Tryz.prog [(151,Ffci_ent),(125,(Ffcj_entS slf_Ffcj))]
def Ffcj_Q (slf_Ffcj:Condition→Option Bool)(x:Condition)(r:Bool):St→Prop:=QF (Ffcj_E slf_Ffcj) Tryz.f125 [false] (Ffcj_A x) (Ffcj_R r)
theorem Ffcj_la_run (slf_Ffcj:Condition→Option Bool)(c_1:Condition){Q:St→Prop}{K:List It}(hK:noD K=true):∀(x3:Int) (y:Bool⊕Unit),Ffcj_la slf_Ffcj c_1 x3=some y→(∀r',y=.inl r'→∀st,Ffcj_Q slf_Ffcj c_1 r' st→Q st)→(∀u:Unit,y=.inr u→Run (Ffcj_E slf_Ffcj) 0 Q K (sT 21 [] [] 1))→Run (Ffcj_E slf_Ffcj) 0 Q (.code (cL (cL (cR (cL (cR (cR Ffcj_c))))))::.lp (cL (cL (cR (cL (cR (cR Ffcj_c))))))::.blk 0::K) (sT 21 [(1,.hp 1 0 [] 4 0 0),(3,I x3)] [⟨0,4,[.agg [I c_1.Op,str c_1.Name,I c_1.Day,.isl false (c_1.Parts.map encI_Condition)]]⟩] 2):=by
 refine fix_indP (Ffcj_la_fin slf_Ffcj c_1) ?_
 intro self ih x3 y h hr hn
 unfold Ffcj_la_F at h
 refine cq 6 [7,9] [I x3,.isl false (c_1.Parts.map encI_Condition)] 50 ?_
 refine oq 66 (I (len c_1.Parts)) rfl (e_len rfl rfl rfl (l_isl rfl)) ?_
 refine cq 2 [11] [B (decide (x3<(len c_1.Parts)))] 82 ?_
 refine sq h (fun h=>?_) fun h=>?_
 ·refine aq 1 ?_
  refine cq 7 [15,16] [.isl false (c_1.Parts.map encI_Condition),I x3] 130 ?_
  obtain⟨e4,he4,h⟩:=bS h
  refine oq 146 (.iptr (.agg [I e4.Op,str e4.Name,I e4.Day,.isl false (e4.Parts.map encI_Condition)]) 0) rfl (e_indexAddr rfl rfl rfl (ix_islE rfl rfl (encI_Condition_eq e4) rfl he4)) ?_
  refine cq 1 [18] [.agg [I e4.Op,str e4.Name,I e4.Day,.isl false (e4.Parts.map encI_Condition)]] 162 ?_
  obtain⟨r5,hr5,h⟩:=bS h
  refine oq 178 (B r5) rfl (e_callV rfl rfl (call_P rfl rfl rfl (avS (shP rfl) avN) (Ffcj_FS slf_Ffcj hr5) (.inr rfl) bl_n rfl rfl rfl)) ?_
  refine cq 2 [20] [B (!r5)] 194 ?_
  refine sq h (fun h=>?_) fun h=>?_
  ·refine cq 4 [2] [B false] 210 ?_
   exact s_ret rfl (hr _ (Option.some.inj h).symm _ (qp [B false]))
  ·refine aq 1 ?_
   refine cq 6 [3] [I (w64 (x3+1))] 242 ?_
   refine s_lp ?_
   exact rf [1,3] [1] (ih _ _ h hr hn :)
 ·refine aq 1 ?_
  exact rf [] [] (hn _ (Option.some.inj h).symm :) (hk:=hK)
theorem Ffcj_run (slf_Ffcj:Condition→Option Bool)(c_1:Condition)(r:Bool)(h:Ffcj_B slf_Ffcj c_1=some r):RunF (Ffcj_E slf_Ffcj) Tryz.f125 [false] 0 (Ffcj_A c_1) (Ffcj_R r):=by
 show Run _ _ (Ffcj_Q slf_Ffcj c_1 r) [.code Ffcj_c] _
 refine rI 21 [(0,.agg [I c_1.Op,str c_1.Name,I c_1.Day,.isl false (c_1.Parts.map encI_Condition)])] [] 1 ?_
 unfold Ffcj_B at h
 refine ck 9 [1,4] [] [1] [] [.hp 1 0 [] 4 0 0,.agg [I c_1.Op,str c_1.Name,I c_1.Day,.isl false (c_1.Parts.map encI_Condition)]] [some ⟨0,4,[.agg [I c_1.Op,str c_1.Name,I c_1.Day,.isl false (c_1.Parts.map encI_Condition)]]⟩] 49 (by kernel_rfl) ?_
 obtain⟨r2,hr2,h⟩:=bS h
 refine oq 65 (B r2) rfl (cP (Ffci_F hr2)) ?_
 refine cq 2 [6] [B (!r2)] 81 ?_
 refine sq h (fun h=>?_) fun h=>?_
 ·refine cq 4 [2] [B false] 97 ?_
  obtain rfl:=Option.some.inj h
  exact s_ret rfl (qp [B false])
 ·refine aq 1 ?_
  refine cq 6 [3] [I (0)] 97 ?_
  obtain⟨y6,hy6,hy61,hy62⟩:=bJ h
  refine s_loop rfl ?_
  refine rf [1,3] [1] (Ffcj_la_run slf_Ffcj c_1 rfl 0 _ hy6 (fun r' e st hq=>by rw[hy61 r' e] at hq;exact hq) fun u6 hu=>?_)
  replace h:=hy62 u6 hu
  refine cq 4 [2] [B true] 17 ?_
  obtain rfl:=Option.some.inj h
  exact s_ret rfl (qp [B true])
theorem Ffcj_good {G:Go.Ln.Ground}:Good Tryz.prog G 125 Ffcj_ent:=good_rec fun slf_Ffcj g_Ffcj=>gT 1 0 (gl_c Ffci_good (gl_c g_Ffcj gl_n)) (Checked.mixed Tryz.checked) Tryz.func125 (fun a r h=>Ffcj_run slf_Ffcj a r h)
def Ffcq_A:Condition→List V:=oA encI_Condition1
def Ffcq_R (r:Int):V×List V:=(I r,[])
noncomputable def Ffcq_entS (slf_Ffcq:Condition→Option Int):Ent:=entT [false] Ffcq_A Ffcq_R slf_Ffcq
theorem Ffcq_FS (slf_Ffcq:Condition→Option Int){x}{r}(h:slf_Ffcq x=some r):(Ffcq_entS slf_Ffcq).F (Ffcq_A x)=some (Ffcq_R r):=entT_F (oA_inj encI_Condition1_inj) h
noncomputable def Ffcq_ent:Ent:=Ffcq_entS (fixO Ffcq_G)
theorem Ffcq_F {c_1:Condition}{r}(h:Ffcq c_1=some r):Ffcq_ent.F (Ffcq_A c_1)=some (Ffcq_R r):=Ffcq_FS (fixO Ffcq_G) h
noncomputable def Ffcq_c:Code:=bodyOf Tryz.f115
noncomputable def Ffcq_E (slf_Ffcq:Condition→Option Int):Env:=mkE Tryz.prog [(115,(Ffcq_entS slf_Ffcq))]
def Ffcq_Q (slf_Ffcq:Condition→Option Int)(x:Condition)(r:Int):St→Prop:=QF (Ffcq_E slf_Ffcq) Tryz.f115 [false] (Ffcq_A x) (Ffcq_R r)
theorem Ffcq_la_run (slf_Ffcq:Condition→Option Int)(c_1:Condition){Q:St→Prop}{K:List It}(hK:noD K=true):∀(x2:Int×Int) (y:Int⊕Int),Ffcq_la slf_Ffcq c_1 x2=some y→(∀r',y=.inl r'→∀st,Ffcq_Q slf_Ffcq c_1 r' st→Q st)→(∀u:Int,y=.inr u→Run (Ffcq_E slf_Ffcq) 0 Q K (sT 21 [(3,I u)] [] 1))→Run (Ffcq_E slf_Ffcq) 0 Q (.code (cL (cL (cR (cL (cR (cR Ffcq_c))))))::.lp (cL (cL (cR (cL (cR (cR Ffcq_c))))))::.blk 0::K) (sT 21 [(1,.hp 1 0 [] 4 0 0),(3,I x2.1),(4,I x2.2)] [⟨0,4,[.agg [I c_1.Op,str c_1.Name,I c_1.Day,.isl false (c_1.Parts.map encI_Condition)]]⟩] 2):=by
 refine fix_indP (Ffcq_la_fin slf_Ffcq c_1) ?_
 intro self ih x2 y h hr hn
 unfold Ffcq_la_F at h
 refine cq 6 [5,7] [I x2.2,.isl false (c_1.Parts.map encI_Condition)] 50 ?_
 refine oq 66 (I (len c_1.Parts)) rfl (e_len rfl rfl rfl (l_isl rfl)) ?_
 refine cq 2 [9] [B (decide (x2.2<(len c_1.Parts)))] 82 ?_
 refine sq h (fun h=>?_) fun h=>?_
 ·refine aq 1 ?_
  refine cq 7 [12,14,15] [I x2.1,.isl false (c_1.Parts.map encI_Condition),I x2.2] 146 ?_
  obtain⟨e3,he3,h⟩:=bS h
  refine oq 162 (.iptr (.agg [I e3.Op,str e3.Name,I e3.Day,.isl false (e3.Parts.map encI_Condition)]) 0) rfl (e_indexAddr rfl rfl rfl (ix_islE rfl rfl (encI_Condition_eq e3) rfl he3)) ?_
  refine cq 1 [17] [.agg [I e3.Op,str e3.Name,I e3.Day,.isl false (e3.Parts.map encI_Condition)]] 178 ?_
  obtain⟨r4,hr4,h⟩:=bS h
  refine oq 194 (I r4) rfl (e_callV rfl rfl (call_P rfl rfl rfl (avS (shP rfl) avN) (Ffcq_FS slf_Ffcq hr4) (.inr rfl) bl_n rfl rfl rfl)) ?_
  refine cq 9 [3,4] [I (w64 (x2.1+r4)),I (w64 (x2.2+1))] 274 ?_
  refine s_lp ?_
  exact rf [1,3,4] [1] (ih _ _ h hr hn :)
 ·refine aq 1 ?_
  exact rf [3] [] (hn _ (Option.some.inj h).symm :) (hk:=hK)
theorem Ffcq_run (slf_Ffcq:Condition→Option Int)(c_1:Condition)(r:Int)(h:Ffcq_B slf_Ffcq c_1=some r):RunF (Ffcq_E slf_Ffcq) Tryz.f115 [false] 0 (Ffcq_A c_1) (Ffcq_R r):=by
 show Run _ _ (Ffcq_Q slf_Ffcq c_1 r) [.code Ffcq_c] _
 refine rI 21 [(0,.agg [I c_1.Op,str c_1.Name,I c_1.Day,.isl false (c_1.Parts.map encI_Condition)])] [] 1 ?_
 unfold Ffcq_B at h
 refine ck 15 [1,3,4] [] [1] [] [.hp 1 0 [] 4 0 0,I (1),I (0)] [some ⟨0,4,[.agg [I c_1.Op,str c_1.Name,I c_1.Day,.isl false (c_1.Parts.map encI_Condition)]]⟩] 65 (by kernel_rfl) ?_
 obtain⟨y5,hy5,hy51,hy52⟩:=bJ h
 refine s_loop rfl ?_
 refine rf [1,3,4] [1] (Ffcq_la_run slf_Ffcq c_1 rfl (1,0) _ hy5 (fun r' e st hq=>by rw[hy51 r' e] at hq;exact hq) fun u5 hu=>?_)
 replace h:=hy52 u5 hu
 refine cq 5 [2] [I u5] 33 ?_
 obtain rfl:=Option.some.inj h
 exact s_ret rfl (qp [I u5])
theorem Ffcq_good {G:Go.Ln.Ground}:Good Tryz.prog G 115 Ffcq_ent:=good_rec fun slf_Ffcq g_Ffcq=>gT 1 0 (gl_c g_Ffcq gl_n) (Checked.mixed Tryz.checked) Tryz.func115 (fun a r h=>Ffcq_run slf_Ffcq a r h)
def Ffck_A:Condition→List V:=oA encI_Condition1
def Ffck_R (r:Bool):V×List V:=(B r,[])
noncomputable def Ffck_ent:Ent:=entT [false] Ffck_A Ffck_R fun x=>Ffck x
theorem Ffck_F {c_1:Condition}{r}(h:Ffck c_1=some r):Ffck_ent.F (Ffck_A c_1)=some (Ffck_R r):=entT_F (oA_inj encI_Condition1_inj) h
noncomputable def Ffck_c:Code:=bodyOf Tryz.f77
noncomputable def Ffck_E:Env:=mkE Tryz.prog [(125,Ffcj_ent),(115,Ffcq_ent)]
def Ffck_Q (x:Condition)(r:Bool):St→Prop:=QF Ffck_E Tryz.f77 [false] (Ffck_A x) (Ffck_R r)
theorem Ffck_run (c_1:Condition)(r:Bool)(h:Ffck c_1=some r):RunF Ffck_E Tryz.f77 [false] 0 (Ffck_A c_1) (Ffck_R r):=by
 show Run _ _ (Ffck_Q c_1 r) [.code Ffck_c] _
 refine rI 10 [(0,.agg [I c_1.Op,str c_1.Name,I c_1.Day,.isl false (c_1.Parts.map encI_Condition)])] [] 1 ?_
 unfold Ffck at h
 refine ck 8 [1,3] [] [1] [] [.hp 1 0 [] 4 0 0,.agg [I c_1.Op,str c_1.Name,I c_1.Day,.isl false (c_1.Parts.map encI_Condition)]] [some ⟨0,4,[.agg [I c_1.Op,str c_1.Name,I c_1.Day,.isl false (c_1.Parts.map encI_Condition)]]⟩] 49 (by kernel_rfl) ?_
 obtain⟨r2,hr2,h⟩:=bS h
 refine oq 65 (B r2) rfl (cP (Ffcj_F hr2)) ?_
 refine cq 1 [5] [B r2] 81 ?_
 obtain⟨y3,hy3,hy31,hy32⟩:=bJ h
 have j3:∀u3,y3=.inr u3→Run Ffck_E 0 (Ffck_Q c_1 r) (.code (cR (cR Ffck_c))::[]) (sT 10 [(2,B u3)] [] 1):=by
  intro u3 hu
  replace h:=hy32 u3 hu
  obtain rfl:=Option.some.inj h
  exact s_ret rfl (qp [B u3])
 have r3:∀r',y3=.inl r'→∀st,Ffck_Q c_1 r' st→(Ffck_Q c_1 r) st:=fun r' e st hq=>by rw[hy31 r' e] at hq;exact hq
 replace h:=hy3
 refine sp 5 h rfl (fun h=>?_) fun h=>?_
 ·refine cq 1 [6] [.agg [I c_1.Op,str c_1.Name,I c_1.Day,.isl false (c_1.Parts.map encI_Condition)]] 97 ?_
  obtain⟨r4,hr4,h⟩:=bS h
  refine oy 113 (I r4) rfl (cP (Ffcq_F hr4)) ?_
  refine cq 4 [2] [B (decide (r4≤15))] 161 ?_
  exact rf [2] [] (j3 _ (Option.some.inj h).symm :)
 ·refine cq 6 [2] [B false] 161 ?_
  exact rf [2] [] (j3 _ (Option.some.inj h).symm :)
theorem Ffck_good {G:Go.Ln.Ground}:Good Tryz.prog G 77 Ffck_ent:=gT 1 0 (gl_c Ffcj_good (gl_c Ffcq_good gl_n)) (Checked.mixed Tryz.checked) Tryz.func77 (fun a r h=>Ffck_run a r h)
def Ffcs_A:(Contract×Int)→List V:=cA encI_Contract (oA I)
def Ffcs_R (r:Bool):V×List V:=(B r,[])
noncomputable def Ffcs_ent:Ent:=entT [false,false] Ffcs_A Ffcs_R fun x=>Ffcs x.1 x.2
theorem Ffcs_F {c_1:Contract}{i_2:Int}{r}(h:Ffcs c_1 i_2=some r):Ffcs_ent.F (Ffcs_A (c_1,i_2))=some (Ffcs_R r):=entT_F (cA_inj encI_Contract_inj (oA_inj I_inj)) h
noncomputable def Ffcs_c:Code:=bodyOf Tryz.f101
noncomputable abbrev Ffcs_ka:Code:=cR (cR (cR (cR Ffcs_c)))
noncomputable abbrev Ffcs_kb:Code:=cR (cL (cR (cR (cR Ffcs_c))))
noncomputable abbrev Ffcs_kc:Code:=cR Ffcs_ka
noncomputable abbrev Ffcs_kd:Code:=cR (cL Ffcs_ka)
noncomputable abbrev Ffcs_ke:Code:=cR (cR (cR Ffcs_kc))
noncomputable def Ffcs_E:Env:=mkE Tryz.prog [(126,Ffcm_ent),(83,spec_l1In_ent),(100,Ffct_ent),(77,Ffck_ent)]
def Ffcs_Q (x:Contract×Int)(r:Bool):St→Prop:=QF Ffcs_E Tryz.f101 [false,false] (Ffcs_A x) (Ffcs_R r)
theorem Ffcs_run (c_1:Contract)(i_2:Int)(r:Bool)(h:Ffcs c_1 i_2=some r):RunF Ffcs_E Tryz.f101 [false,false] 0 (Ffcs_A (c_1,i_2)) (Ffcs_R r):=by
 show Run _ _ (Ffcs_Q (c_1,i_2) r) [.code Ffcs_c] _
 refine rI 114 [(0,.agg [.isl false (c_1.Parties.map str),.isl false (c_1.Clauses.map encI_Clause)]),(1,I i_2)] [] 1 ?_
 unfold Ffcs at h
 refine ck 10 [2,9,10] [] [1] [] [.hp 1 0 [] 2 0 0,.isl false (c_1.Clauses.map encI_Clause),I i_2] [some ⟨0,2,[.agg [.isl false (c_1.Parties.map str),.isl false (c_1.Clauses.map encI_Clause)]]⟩] 81 (by kernel_rfl) ?_
 obtain⟨e3,he3,h⟩:=bS h
 refine oq 97 (.iptr (.agg [str e3.Id,I e3.Kind,I e3.Party,str e3.Action,I e3.Other,I e3.Amount,I e3.When.Op,str e3.When.Name,I e3.When.Day,.isl false (e3.When.Parts.map encI_Condition),I e3.Within,str e3.Repair]) 0) rfl (e_indexAddr rfl rfl rfl (ix_islE rfl rfl rfl rfl he3)) ?_
 refine ck 2 [5,12] [] [113] [] [.hp 113 0 [] 12 0 0,.agg [str e3.Id,I e3.Kind,I e3.Party,str e3.Action,I e3.Other,I e3.Amount,I e3.When.Op,str e3.When.Name,I e3.When.Day,.isl false (e3.When.Parts.map encI_Condition),I e3.Within,str e3.Repair]] [some ⟨0,12,[.agg [str ([]),I (0),I (0),str ([]),I (0),I (0),I (0),str ([]),I (0),.isl true [],I (0),str ([])]]⟩] 129 (by kernel_rfl) ?_
 refine run_row 113 [.agg [str ([]),I (0),I (0),str ([]),I (0),I (0),I (0),str ([]),I (0),.usl 4 (([]).map encO_Condition),I (0),str ([])]] rfl rfl (cvs_c (cv_agg (cvs_c (.refl _) (cvs_c (.refl _) (cvs_c (.refl _) (cvs_c (.refl _) (cvs_c (.refl _) (cvs_c (.refl _) (cvs_c (.refl _) (cvs_c (.refl _) (cvs_c (.refl _) (cvs_c (.nil _) (cvs_c (.refl _) (cvs_c (.refl _) cvs_n))))))))))))) cvs_n) ?_
 refine ck 6 [14] [] [113] [] [.isl false (c_1.Parties.map str)] [some ⟨2,12,[.agg [str e3.Id,I e3.Kind,I e3.Party,str e3.Action,I e3.Other,I e3.Amount,I e3.When.Op,str e3.When.Name,I e3.When.Day,.isl false (e3.When.Parts.map encI_Condition),I e3.Within,str e3.Repair]]⟩] 177 (by kernel_rfl) ?_
 refine oq 193 (I (len c_1.Parties)) rfl (e_len rfl rfl rfl (l_isl rfl)) ?_
 refine cq 7 [6,17] [I (len c_1.Parties),str e3.Id] 241 ?_
 obtain⟨r4,hr4,h⟩:=bS h
 refine oq 257 (B r4) rfl (cP (Ffcm_F hr4)) ?_
 refine cq 2 [20] [B (!r4)] 289 ?_
 obtain⟨y5,hy5,hy51,hy52⟩:=bJ h
 have j5:∀u5,y5=.inr u5→Run Ffcs_E 0 (Ffcs_Q (c_1,i_2) r) (.code Ffcs_kb::.code Ffcs_ka::[]) (sT 114 [(1,I i_2),(2,.hp 1 0 [] 2 0 0),(5,.hp 2 0 [] 12 0 0),(60,B u5)] [⟨0,2,[.agg [.isl false (c_1.Parties.map str),.isl false (c_1.Clauses.map encI_Clause)]]⟩,⟨0,12,[.agg [str e3.Id,I e3.Kind,I e3.Party,str e3.Action,I e3.Other,I e3.Amount,I e3.When.Op,str e3.When.Name,I e3.When.Day,.isl false (e3.When.Parts.map encI_Condition),I e3.Within,str e3.Repair]]⟩] 3):=by
  intro u5 hu
  replace h:=hy52 u5 hu
  refine sq h (fun h=>?_) fun h=>?_
  ·refine cq 4 [4] [B false] 19 ?_
   obtain rfl:=Option.some.inj h
   exact s_ret rfl (qp [B false])
  ·refine aq 1 ?_
   refine cq 5 [62] [I e3.Amount] 35 ?_
   obtain⟨r6,hr6,h⟩:=bS h
   refine oq 51 (B r6) rfl (cP (spec_l1In_F hr6)) ?_
   refine cq 2 [65] [B (!r6)] 83 ?_
   obtain⟨y7,hy7,hy71,hy72⟩:=bJ h
   have j7:∀u7,y7=.inr u7→Run Ffcs_E 0 (Ffcs_Q (c_1,i_2) r) (.code Ffcs_kd::.code Ffcs_kc::[]) (sT 114 [(1,I i_2),(2,.hp 1 0 [] 2 0 0),(5,.hp 2 0 [] 12 0 0),(85,B u7)] [⟨0,2,[.agg [.isl false (c_1.Parties.map str),.isl false (c_1.Clauses.map encI_Clause)]]⟩,⟨0,12,[.agg [str e3.Id,I e3.Kind,I e3.Party,str e3.Action,I e3.Other,I e3.Amount,I e3.When.Op,str e3.When.Name,I e3.When.Day,.isl false (e3.When.Parts.map encI_Condition),I e3.Within,str e3.Repair]]⟩] 3):=by
    intro u7 hu
    replace h:=hy72 u7 hu
    refine sq h (fun h=>?_) fun h=>?_
    ·refine cq 4 [4] [B false] 19 ?_
     obtain rfl:=Option.some.inj h
     exact s_ret rfl (qp [B false])
    ·refine aq 1 ?_
     refine cq 7 [88] [B (e3.Repair==([]:Str))] 51 ?_
     refine sq h (fun h=>?_) fun h=>?_
     ·refine cq 4 [4] [B true] 67 ?_
      obtain rfl:=Option.some.inj h
      exact s_ret rfl (qp [B true])
     ·refine aq 1 ?_
      refine cq 5 [89,91] [.agg [.isl false (c_1.Parties.map str),.isl false (c_1.Clauses.map encI_Clause)],str e3.Repair] 99 ?_
      obtain⟨r8,hr8,h⟩:=bS h
      refine oq 115 (I r8) rfl (cP (Ffct_F hr8)) ?_
      refine cq 7 [7,95] [I r8,B (decide (r8≥0))] 179 ?_
      obtain⟨y9,hy9,hy91,hy92⟩:=bJ h
      have j9:∀u9,y9=.inr u9→Run Ffcs_E 0 (Ffcs_Q (c_1,i_2) r) (.code Ffcs_ke::[]) (sT 114 [(4,B u9)] [] 1):=by
       intro u9 hu
       replace h:=hy92 u9 hu
       obtain rfl:=Option.some.inj h
       exact s_ret rfl (qp [B u9])
      have r9:∀r',y9=.inl r'→∀st,Ffcs_Q (c_1,i_2) r' st→(Ffcs_Q (c_1,i_2) r) st:=fun r' e st hq=>by rw[hy91 r' e] at hq;exact hq
      replace h:=hy9
      refine sp 95 h rfl (fun h=>?_) fun h=>?_
      ·refine cq 5 [100] [B (r8 != i_2)] 259 ?_
       obtain⟨y10,hy10,hy101,hy102⟩:=bL h
       have j10:∀u10,y10=.inr u10→Run Ffcs_E 0 (Ffcs_Q (c_1,i_2) r) (.code Ffcs_ke::[]) (sT 114 [(4,B u10)] [] 1):=by
        intro u10 hu
        replace h:=hy102 u10 hu
        exact rf [4] [] (j9 _ (Option.some.inj h).symm :)
       have r10:∀r',y10=.inl r'→∀st,Ffcs_Q (c_1,i_2) r' st→(Ffcs_Q (c_1,i_2) r) st:=fun r' e st hq=>r9 r' (hy101 r' e) st hq
       replace h:=hy10
       refine sp 100 h rfl (fun h=>?_) fun h=>?_
       ·refine cq 3 [102,103] [.isl false (c_1.Clauses.map encI_Clause),I r8] 307 ?_
        obtain⟨e11,he11,h⟩:=bS h
        refine oy 323 (.iptr (.agg [str e11.Id,I e11.Kind,I e11.Party,str e11.Action,I e11.Other,I e11.Amount,I e11.When.Op,str e11.When.Name,I e11.When.Day,.isl false (e11.When.Parts.map encI_Condition),I e11.Within,str e11.Repair]) 0) rfl (e_indexAddr rfl rfl rfl (ix_islE rfl rfl rfl rfl he11)) ?_
        refine cq 5 [109] [B (e11.Kind==1)] 403 ?_
        obtain⟨u12,hu12,h⟩:=lJ h
        have j12:Run Ffcs_E 0 (Ffcs_Q (c_1,i_2) r) (.code Ffcs_ke::[]) (sT 114 [(4,B u12)] [] 1):=by
         exact rf [4] [] (j10 _ (Option.some.inj h).symm :)
        replace h:=hu12
        clear hu12
        refine sp 109 h rfl (fun h=>?_) fun h=>?_
        ·refine cq 6 [4] [B (e3.Kind != 3)] 483 ?_
         subst h
         exact rf [4] [] (j12 :)
        ·refine cq 6 [4] [B false] 483 ?_
         subst h
         exact rf [4] [] (j12 :)
       ·refine cq 15 [4] [B false] 483 ?_
        exact rf [4] [] (j10 _ (Option.some.inj h).symm :)
      ·refine cq 20 [4] [B false] 483 ?_
       exact rf [4] [] (j9 _ (Option.some.inj h).symm :)
   have r7:∀r',y7=.inl r'→∀st,Ffcs_Q (c_1,i_2) r' st→(Ffcs_Q (c_1,i_2) r) st:=fun r' e st hq=>by rw[hy71 r' e] at hq;exact hq
   replace h:=hy7
   refine sp 65 h rfl (fun h=>?_) fun h=>?_
   ·refine cq 21 [85] [B true] 403 ?_
    exact rf [1,2,5,85] [1,2] (j7 _ (Option.some.inj h).symm :)
   ·refine cq 2 [67] [I e3.Within] 115 ?_
    obtain⟨r13,hr13,h⟩:=bS h
    refine oy 131 (B r13) rfl (cP (spec_l1In_F hr13)) ?_
    refine cq 3 [71] [B (!r13)] 179 ?_
    obtain⟨u14,hu14,h⟩:=lJ h
    have j14:Run Ffcs_E 0 (Ffcs_Q (c_1,i_2) r) (.code Ffcs_kd::.code Ffcs_kc::[]) (sT 114 [(1,I i_2),(2,.hp 1 0 [] 2 0 0),(5,.hp 2 0 [] 12 0 0),(85,B u14)] [⟨0,2,[.agg [.isl false (c_1.Parties.map str),.isl false (c_1.Clauses.map encI_Clause)]]⟩,⟨0,12,[.agg [str e3.Id,I e3.Kind,I e3.Party,str e3.Action,I e3.Other,I e3.Amount,I e3.When.Op,str e3.When.Name,I e3.When.Day,.isl false (e3.When.Parts.map encI_Condition),I e3.Within,str e3.Repair]]⟩] 3):=by
     exact rf [1,2,5,85] [1,2] (j7 _ (Option.some.inj h).symm :)
    replace h:=hu14
    clear hu14
    refine sp 71 h rfl (fun h=>?_) fun h=>?_
    ·refine cq 15 [85] [B true] 403 ?_
     subst h
     exact rf [1,2,5,85] [1,2] (j14 :)
    ·refine cq 4 [75] [B (e3.Kind != 1)] 243 ?_
     obtain⟨u15,hu15,h⟩:=lJ h
     have j15:Run Ffcs_E 0 (Ffcs_Q (c_1,i_2) r) (.code Ffcs_kd::.code Ffcs_kc::[]) (sT 114 [(1,I i_2),(2,.hp 1 0 [] 2 0 0),(5,.hp 2 0 [] 12 0 0),(85,B u15)] [⟨0,2,[.agg [.isl false (c_1.Parties.map str),.isl false (c_1.Clauses.map encI_Clause)]]⟩,⟨0,12,[.agg [str e3.Id,I e3.Kind,I e3.Party,str e3.Action,I e3.Other,I e3.Amount,I e3.When.Op,str e3.When.Name,I e3.When.Day,.isl false (e3.When.Parts.map encI_Condition),I e3.Within,str e3.Repair]]⟩] 3):=by
      subst h
      exact rf [1,2,5,85] [1,2] (j14 :)
     replace h:=hu15
     clear hu15
     refine sp 75 h rfl (fun h=>?_) fun h=>?_
     ·refine cq 4 [79] [B (e3.Amount != 0)] 307 ?_
      obtain⟨u16,hu16,h⟩:=lJ h
      have j16:Run Ffcs_E 0 (Ffcs_Q (c_1,i_2) r) (.code Ffcs_kd::.code Ffcs_kc::[]) (sT 114 [(1,I i_2),(2,.hp 1 0 [] 2 0 0),(5,.hp 2 0 [] 12 0 0),(85,B u16)] [⟨0,2,[.agg [.isl false (c_1.Parties.map str),.isl false (c_1.Clauses.map encI_Clause)]]⟩,⟨0,12,[.agg [str e3.Id,I e3.Kind,I e3.Party,str e3.Action,I e3.Other,I e3.Amount,I e3.When.Op,str e3.When.Name,I e3.When.Day,.isl false (e3.When.Parts.map encI_Condition),I e3.Within,str e3.Repair]]⟩] 3):=by
       subst h
       exact rf [1,2,5,85] [1,2] (j15 :)
      replace h:=hu16
      clear hu16
      refine sp 79 h rfl (fun h=>?_) fun h=>?_
      ·refine cq 7 [85] [B true] 403 ?_
       subst h
       exact rf [1,2,5,85] [1,2] (j16 :)
      ·refine cq 7 [85] [B (e3.Within != 0)] 403 ?_
       subst h
       exact rf [1,2,5,85] [1,2] (j16 :)
     ·refine cq 11 [85] [B false] 403 ?_
      subst h
      exact rf [1,2,5,85] [1,2] (j15 :)
 have r5:∀r',y5=.inl r'→∀st,Ffcs_Q (c_1,i_2) r' st→(Ffcs_Q (c_1,i_2) r) st:=fun r' e st hq=>by rw[hy51 r' e] at hq;exact hq
 replace h:=hy5
 refine sp 20 h rfl (fun h=>?_) fun h=>?_
 ·refine cq 41 [60] [B true] 929 ?_
  exact rf [1,2,5,60] [1,113] (j5 _ (Option.some.inj h).symm :)
 ·refine cq 2 [22] [str e3.Action] 321 ?_
  obtain⟨r17,hr17,h⟩:=bS h
  refine oy 337 (B r17) rfl (cP (Ffcm_F hr17)) ?_
  refine cq 3 [26] [B (!r17)] 385 ?_
  obtain⟨y18,hy18,hy181,hy182⟩:=bL h
  have j18:∀u18,y18=.inr u18→Run Ffcs_E 0 (Ffcs_Q (c_1,i_2) r) (.code Ffcs_kb::.code Ffcs_ka::[]) (sT 114 [(1,I i_2),(2,.hp 1 0 [] 2 0 0),(5,.hp 2 0 [] 12 0 0),(60,B u18)] [⟨0,2,[.agg [.isl false (c_1.Parties.map str),.isl false (c_1.Clauses.map encI_Clause)]]⟩,⟨0,12,[.agg [str e3.Id,I e3.Kind,I e3.Party,str e3.Action,I e3.Other,I e3.Amount,I e3.When.Op,str e3.When.Name,I e3.When.Day,.isl false (e3.When.Parts.map encI_Condition),I e3.Within,str e3.Repair]]⟩] 3):=by
   intro u18 hu
   replace h:=hy182 u18 hu
   exact rf [1,2,5,60] [1,2] (j5 _ (Option.some.inj h).symm :)
  have r18:∀r',y18=.inl r'→∀st,Ffcs_Q (c_1,i_2) r' st→(Ffcs_Q (c_1,i_2) r) st:=fun r' e st hq=>r5 r' (hy181 r' e) st hq
  replace h:=hy18
  refine sp 26 h rfl (fun h=>?_) fun h=>?_
  ·refine cq 35 [60] [B true] 929 ?_
   exact rf [1,2,5,60] [1,113] (j18 _ (Option.some.inj h).symm :)
  ·refine cq 2 [28] [I e3.Kind] 417 ?_
   obtain⟨r19,hr19,h⟩:=bS h
   refine oy 433 (B r19) rfl (cP (spec_l1In_F hr19)) ?_
   refine cq 3 [32] [B (!r19)] 481 ?_
   obtain⟨y20,hy20,hy201,hy202⟩:=bL h
   have j20:∀u20,y20=.inr u20→Run Ffcs_E 0 (Ffcs_Q (c_1,i_2) r) (.code Ffcs_kb::.code Ffcs_ka::[]) (sT 114 [(1,I i_2),(2,.hp 1 0 [] 2 0 0),(5,.hp 2 0 [] 12 0 0),(60,B u20)] [⟨0,2,[.agg [.isl false (c_1.Parties.map str),.isl false (c_1.Clauses.map encI_Clause)]]⟩,⟨0,12,[.agg [str e3.Id,I e3.Kind,I e3.Party,str e3.Action,I e3.Other,I e3.Amount,I e3.When.Op,str e3.When.Name,I e3.When.Day,.isl false (e3.When.Parts.map encI_Condition),I e3.Within,str e3.Repair]]⟩] 3):=by
    intro u20 hu
    replace h:=hy202 u20 hu
    exact rf [1,2,5,60] [1,2] (j18 _ (Option.some.inj h).symm :)
   have r20:∀r',y20=.inl r'→∀st,Ffcs_Q (c_1,i_2) r' st→(Ffcs_Q (c_1,i_2) r) st:=fun r' e st hq=>r18 r' (hy201 r' e) st hq
   replace h:=hy20
   refine sp 32 h rfl (fun h=>?_) fun h=>?_
   ·refine cq 29 [60] [B true] 929 ?_
    exact rf [1,2,5,60] [1,113] (j20 _ (Option.some.inj h).symm :)
   ·refine cq 4 [34,36] [I e3.Party,I (w64 ((len c_1.Parties) - 1))] 545 ?_
    obtain⟨r21,hr21,h⟩:=bS h
    refine oy 561 (B r21) rfl (cP (spec_l1In_F hr21)) ?_
    refine cq 3 [40] [B (!r21)] 609 ?_
    obtain⟨y22,hy22,hy221,hy222⟩:=bL h
    have j22:∀u22,y22=.inr u22→Run Ffcs_E 0 (Ffcs_Q (c_1,i_2) r) (.code Ffcs_kb::.code Ffcs_ka::[]) (sT 114 [(1,I i_2),(2,.hp 1 0 [] 2 0 0),(5,.hp 2 0 [] 12 0 0),(60,B u22)] [⟨0,2,[.agg [.isl false (c_1.Parties.map str),.isl false (c_1.Clauses.map encI_Clause)]]⟩,⟨0,12,[.agg [str e3.Id,I e3.Kind,I e3.Party,str e3.Action,I e3.Other,I e3.Amount,I e3.When.Op,str e3.When.Name,I e3.When.Day,.isl false (e3.When.Parts.map encI_Condition),I e3.Within,str e3.Repair]]⟩] 3):=by
     intro u22 hu
     replace h:=hy222 u22 hu
     exact rf [1,2,5,60] [1,2] (j20 _ (Option.some.inj h).symm :)
    have r22:∀r',y22=.inl r'→∀st,Ffcs_Q (c_1,i_2) r' st→(Ffcs_Q (c_1,i_2) r) st:=fun r' e st hq=>r20 r' (hy221 r' e) st hq
    replace h:=hy22
    refine sp 40 h rfl (fun h=>?_) fun h=>?_
    ·refine cq 21 [60] [B true] 929 ?_
     exact rf [1,2,5,60] [1,113] (j22 _ (Option.some.inj h).symm :)
    ·refine cq 4 [42,44] [I e3.Other,I (w64 ((len c_1.Parties) - 1))] 673 ?_
     obtain⟨r23,hr23,h⟩:=bS h
     refine oy 689 (B r23) rfl (cP (spec_l1In_F hr23)) ?_
     refine cq 3 [48] [B (!r23)] 737 ?_
     obtain⟨y24,hy24,hy241,hy242⟩:=bL h
     have j24:∀u24,y24=.inr u24→Run Ffcs_E 0 (Ffcs_Q (c_1,i_2) r) (.code Ffcs_kb::.code Ffcs_ka::[]) (sT 114 [(1,I i_2),(2,.hp 1 0 [] 2 0 0),(5,.hp 2 0 [] 12 0 0),(60,B u24)] [⟨0,2,[.agg [.isl false (c_1.Parties.map str),.isl false (c_1.Clauses.map encI_Clause)]]⟩,⟨0,12,[.agg [str e3.Id,I e3.Kind,I e3.Party,str e3.Action,I e3.Other,I e3.Amount,I e3.When.Op,str e3.When.Name,I e3.When.Day,.isl false (e3.When.Parts.map encI_Condition),I e3.Within,str e3.Repair]]⟩] 3):=by
      intro u24 hu
      replace h:=hy242 u24 hu
      exact rf [1,2,5,60] [1,2] (j22 _ (Option.some.inj h).symm :)
     have r24:∀r',y24=.inl r'→∀st,Ffcs_Q (c_1,i_2) r' st→(Ffcs_Q (c_1,i_2) r) st:=fun r' e st hq=>r22 r' (hy241 r' e) st hq
     replace h:=hy24
     refine sp 48 h rfl (fun h=>?_) fun h=>?_
     ·refine cq 13 [60] [B true] 929 ?_
      exact rf [1,2,5,60] [1,113] (j24 _ (Option.some.inj h).symm :)
     ·refine cq 7 [55] [B (e3.Party==e3.Other)] 849 ?_
      obtain⟨y25,hy25,hy251,hy252⟩:=bL h
      have j25:∀u25,y25=.inr u25→Run Ffcs_E 0 (Ffcs_Q (c_1,i_2) r) (.code Ffcs_kb::.code Ffcs_ka::[]) (sT 114 [(1,I i_2),(2,.hp 1 0 [] 2 0 0),(5,.hp 2 0 [] 12 0 0),(60,B u25)] [⟨0,2,[.agg [.isl false (c_1.Parties.map str),.isl false (c_1.Clauses.map encI_Clause)]]⟩,⟨0,12,[.agg [str e3.Id,I e3.Kind,I e3.Party,str e3.Action,I e3.Other,I e3.Amount,I e3.When.Op,str e3.When.Name,I e3.When.Day,.isl false (e3.When.Parts.map encI_Condition),I e3.Within,str e3.Repair]]⟩] 3):=by
       intro u25 hu
       replace h:=hy252 u25 hu
       exact rf [1,2,5,60] [1,2] (j24 _ (Option.some.inj h).symm :)
      have r25:∀r',y25=.inl r'→∀st,Ffcs_Q (c_1,i_2) r' st→(Ffcs_Q (c_1,i_2) r) st:=fun r' e st hq=>r24 r' (hy251 r' e) st hq
      replace h:=hy25
      refine sp 55 h rfl (fun h=>?_) fun h=>?_
      ·refine cq 6 [60] [B true] 929 ?_
       exact rf [1,2,5,60] [1,113] (j25 _ (Option.some.inj h).symm :)
      ·refine cq 2 [57] [.agg [I e3.When.Op,str e3.When.Name,I e3.When.Day,.isl false (e3.When.Parts.map encI_Condition)]] 881 ?_
       obtain⟨r26,hr26,h⟩:=bS h
       refine oy 897 (B r26) rfl (cP (Ffck_F hr26)) ?_
       refine cq 3 [60] [B (!r26)] 929 ?_
       exact rf [1,2,5,60] [1,113] (j25 _ (Option.some.inj h).symm :)
theorem Ffcs_good {G:Go.Ln.Ground}:Good Tryz.prog G 101 Ffcs_ent:=gT 2 0 (gl_c Ffcm_good (gl_c spec_l1In_good (gl_c Ffct_good (gl_c Ffck_good gl_n)))) (Checked.mixed Tryz.checked) Tryz.func101 (fun a r h=>Ffcs_run a.1 a.2 r h)
def Ffco_A:((List Str)×Str)→List V:=cA (usE 1 str) (oA str)
def Ffco_R (r:(List Str)):V×List V:=(.usl 1 (r.map str),[.dead])
noncomputable def Ffco_ent:Ent:=entT [true,false] Ffco_A Ffco_R fun x=>Ffco x.1 x.2
theorem Ffco_F {l_8:List Str}{s_9:Str}{r}(h:Ffco l_8 s_9=some r):Ffco_ent.F (Ffco_A (l_8,s_9))=some (Ffco_R r):=entT_F (cA_inj (usl_inj str_inj) (oA_inj str_inj)) h
noncomputable def Ffco_c:Code:=bodyOf Tryz.f117
noncomputable def Ffco_E:Env:=mkE Tryz.prog []
def Ffco_Q (x:(List Str)×Str)(r:(List Str)):St→Prop:=QF Ffco_E Tryz.f117 [true,false] (Ffco_A x) (Ffco_R r)
theorem Ffco_la_run (l_8:List Str)(s_9:Str){Q:St→Prop}{K:List It}(hK:noD K=true):∀(x3:Int) (y:(List Str)⊕(Str×Int×(List Str))),Ffco_la l_8 s_9 x3=some y→(∀r',y=.inl r'→∀st,Ffco_Q (l_8,s_9) r' st→Q st)→(∀u:Str×Int×(List Str),y=.inr u→Run Ffco_E 1 Q K (sO 45 [(0,.hs 2 0 [] 1 0 (u.2.2.map str).length),(1,str u.1),(5,I u.2.1)] [none,some ⟨0,1,u.2.2.map str⟩] 3))→Run Ffco_E 1 Q (.code (cL (cL (cL (cR (cR Ffco_c)))))::.lp (cL (cL (cL (cR (cR Ffco_c)))))::.blk 0::K) (sO 45 [(0,.hs 2 0 [] 1 0 (l_8.map str).length),(1,str s_9),(5,I x3)] [none,some ⟨0,1,l_8.map str⟩] 3):=by
 refine fix_indP (Ffco_la_fin l_8 s_9) ?_
 intro self ih x3 y h hr hn
 unfold Ffco_la_F at h
 refine cq 5 [6,7] [I x3,.hs 2 0 [] 1 0 (l_8.map str).length] 35 ?_
 refine oq 51 (I (len l_8)) rfl (e_len rfl rfl rfl (l_hsM (f:=str) (xs:=l_8) rfl rfl)) ?_
 refine cq 2 [10] [B (decide (x3<(len l_8)))] 83 ?_
 obtain⟨y4,hy4,hy41,hy42⟩:=bL h
 have j4:∀u4,y4=.inr u4→Run Ffco_E 1 Q (.code (cR (cL (cL (cL (cL (cR (cR Ffco_c)))))))::.code (cR (cL (cL (cL (cR (cR Ffco_c))))))::.lp (cL (cL (cL (cR (cR Ffco_c)))))::.blk 0::K) (sO 45 [(0,.hs 2 0 [] 1 0 (l_8.map str).length),(1,str s_9),(5,I x3),(17,B u4)] [none,some ⟨0,1,l_8.map str⟩] 3):=by
  intro u4 hu
  replace h:=hy42 u4 hu
  refine sq h (fun h=>?_) fun h=>?_
  ·refine aq 1 ?_
   refine cq 7 [5] [I (w64 (x3+1))] 51 ?_
   refine s_lp ?_
   exact rg [0,1,5] [52,2] (ih _ _ h hr hn :)
  ·refine aq 1 ?_
   exact rg [0,1,5] [4,2] (hn _ (Option.some.inj h).symm :) (hk:=hK)
 have r4:∀r',y4=.inl r'→∀st,Ffco_Q (l_8,s_9) r' st→Q st:=fun r' e st hq=>hr r' (hy41 r' e) st hq
 replace h:=hy4
 refine sp 10 h rfl (fun h=>?_) fun h=>?_
 ·refine cq 2 [11,12] [.hs 2 0 [] 1 0 (l_8.map str).length,I x3] 115 ?_
  obtain⟨e5,he5,h⟩:=bS h
  refine oy 131 (.hp 2 0 [] 1 (0+Int.toNat x3) 0) rfl (e_indexAddr rfl rfl rfl (ix_hsM (f:=str) (xs:=l_8) rfl rfl rfl he5)) ?_
  refine oy 147 (str e5) rfl (e_ld rfl (ld_at (path:=[]) rfl rfl rfl ra_n (get_map (f:=str) (xs:=l_8) he5) rfl rfl rfl)) ?_
  refine cq 4 [17] [B (Op.bytesLess e5 s_9)] 195 ?_
  exact rg [0,1,5,17] [196,2] (j4 _ (Option.some.inj h).symm :)
 ·refine cq 8 [17] [B false] 195 ?_
  exact rg [0,1,5,17] [196,2] (j4 _ (Option.some.inj h).symm :)
theorem Ffco_run (l_8:List Str)(s_9:Str)(r:(List Str))(h:Ffco l_8 s_9=some r):RunF Ffco_E Tryz.f117 [true,false] 1 (Ffco_A (l_8,s_9)) (Ffco_R r):=by
 show Run _ _ (Ffco_Q (l_8,s_9) r) [.code Ffco_c] _
 refine rI 45 [(0,.hs 1 0 [] 1 0 (l_8.map str).length),(1,str s_9)] [(1,some ⟨0,1,l_8.map str⟩)] 2 ?_
 unfold Ffco at h
 refine cq 10 [5] [I (0)] 34 ?_
 obtain⟨y6,hy6,hy61,hy62⟩:=bJ h
 refine s_loop rfl ?_
 refine rg [0,1,5] [35,1] (Ffco_la_run l_8 s_9 rfl 0 _ hy6 (fun r' e st hq=>by rw[hy61 r' e] at hq;exact hq) fun u6 hu=>?_)
 replace h:=hy62 u6 hu
 refine cq 5 [20,21] [I u6.2.1,.hs 2 0 [] 1 0 (u6.2.2.map str).length] 35 ?_
 refine oq 51 (I (len u6.2.2)) rfl (e_len rfl rfl rfl (l_hsM (f:=str) (xs:=u6.2.2) rfl rfl)) ?_
 refine cq 2 [24] [B (decide (u6.2.1<(len u6.2.2)))] 83 ?_
 obtain⟨y7,hy7,hy71,hy72⟩:=bJ h
 have j7:∀u7,y7=.inr u7→Run Ffco_E 1 (Ffco_Q (l_8,s_9) r) (.code (cR (cL (cR (cR (cR Ffco_c)))))::.code (cR (cR (cR (cR Ffco_c))))::[]) (sO 45 [(0,.hs 2 0 [] 1 0 (u6.2.2.map str).length),(1,str u6.1),(5,I u6.2.1),(31,B u7)] [none,some ⟨0,1,u6.2.2.map str⟩] 3):=by
  intro u7 hu
  replace h:=hy72 u7 hu
  refine sq h (fun h=>?_) fun h=>?_
  ·refine cq 5 [4] [.hs 2 0 [] 1 0 (u6.2.2.map str).length] 35 ?_
   obtain rfl:=Option.some.inj h
   exact s_ret rfl ⟨_,fin (vs:=[.hs 2 0 [] 1 0 (u6.2.2.map str).length]) rfl (absE (abs1 rfl (abs_hs rfl rfl)) absEN) rfl (ou_1 rfl (oc_no rfl) (ou_f ou_n)),kl_d kl_n⟩
  ·refine aq 1 ?_
   refine aq 1 ?_
   refine s_draw [0,0,0,6,15,0,32,127,0,0,768,2047,4095] rfl (by decide +kernel) ?_
   refine dq [] [] (.hs 3 0 [] 1 0 0) rfl (e_buildSlice rfl (bs_mk (f:=I) (xs:=[]) (z:=str ([])) (es:=[]) (ws:=[]) rfl rfl rfl (by decide) rfl (abs_each_plain rfl) rfl)) ?_
   refine dk 2 [35,34] [I u6.2.1,.hs 2 0 [] 1 0 (u6.2.2.map str).length] ?_
   obtain⟨s8,hs8,h⟩:=bS h
   refine dq [2] [] (.hs 2 0 [] 1 (0+Int.toNat (0)) (Int.toNat u6.2.1 - Int.toNat (0))) rfl (e_slice rfl rfl rfl rfl (sl_hsM (f:=str) (xs:=u6.2.2) rfl rfl rfl rfl rfl hs8)) ?_
   obtain⟨p9,hp9,h⟩:=bS h
   obtain⟨a10,ha10,h⟩:=bS h
   refine dq [3,2] [3] (.hs 67 0 [] 1 0 (a10.map str).length) rfl (e_append rfl rfl rfl rfl rfl (ap_hsM (path:=[]) (es0:=[]) (f:=str) (xs:=([]:List Str)) (ys:=p9) rfl rfl (take_pt (path:=[]) (f:=str) (xs:=u6.2.2) rfl rfl ra_n hp9 str_flat) rfl rfl rfl rfl rfl (by decide) str_cells ha10 rfl to_n)) ?_ (w_app rfl (aw_hs (path:=[]) (f:=str) (xs:=u6.2.2) rfl rfl ra_n str_flat rfl))
   refine dk 1 [38] [str u6.1] ?_
   refine dq [] [] (.hs 99 0 [] 1 0 1) rfl (e_buildSlice rfl (bs_mk (f:=I) (xs:=[]) (z:=str ([])) (es:=[str u6.1]) (ws:=[str u6.1]) rfl rfl rfl (by decide) rfl (abs_each_plain rfl) rfl)) ?_
   obtain⟨a11,ha11,h⟩:=bS h
   refine dq [67,99] [67] (.hs 115 0 [] 1 0 (a11.map str).length) rfl (e_append rfl rfl rfl rfl rfl (ap_hsM (path:=[]) (f:=str) (xs:=a10) (ys:=[u6.1]) rfl rfl (take_hs rfl rfl rfl) rfl rfl rfl ra_n rfl (by decide) str_cells ha11 rfl to_n)) ?_ (w_app rfl (aw_hs (path:=[]) (f:=str) (xs:=[u6.1]) rfl rfl ra_n str_flat rfl))
   refine dk 2 [42,41] [I u6.2.1,.hs 2 0 [] 1 0 (u6.2.2.map str).length] ?_
   obtain⟨s12,hs12,h⟩:=bS h
   refine dq [2] [] (.hs 2 0 [] 1 (0+Int.toNat u6.2.1) (Int.toNat (len u6.2.2) - Int.toNat u6.2.1)) rfl (e_slice rfl rfl rfl rfl (sl_hsM (f:=str) (xs:=u6.2.2) rfl rfl rfl rfl (bd_n rfl) hs12)) ?_
   obtain⟨p13,hp13,h⟩:=bS h
   obtain⟨a14,ha14,h⟩:=bS h
   refine dq [115,2] [115] (.hs 179 0 [] 1 0 (a14.map str).length) rfl (e_append rfl rfl rfl rfl rfl (ap_hsM (path:=[]) (f:=str) (xs:=a11) (ys:=p13) rfl rfl (take_pt (path:=[]) (f:=str) (xs:=u6.2.2) rfl rfl ra_n hp13 str_flat) rfl rfl rfl ra_n rfl (by decide) str_cells ha14 rfl to_n)) ?_ (w_app rfl (aw_hs (path:=[]) (f:=str) (xs:=u6.2.2) rfl rfl ra_n str_flat rfl))
   refine dk 1 [4] [.hs 179 0 [] 1 0 (a14.map str).length] ?_
   refine de 211 rfl rfl ?_
   obtain rfl:=Option.some.inj h
   exact s_ret rfl ⟨_,fin (vs:=[.hs 179 0 [] 1 0 (a14.map str).length]) rfl (absE (abs1 rfl (abs_hs rfl rfl)) absEN) rfl (ou_1 rfl (oc_no rfl) (ou_f ou_n)),kl_d kl_n⟩
 have r7:∀r',y7=.inl r'→∀st,Ffco_Q (l_8,s_9) r' st→(Ffco_Q (l_8,s_9) r) st:=fun r' e st hq=>by rw[hy71 r' e] at hq;exact hq
 replace h:=hy7
 refine sp 24 h rfl (fun h=>?_) fun h=>?_
 ·refine cq 2 [25,26] [.hs 2 0 [] 1 0 (u6.2.2.map str).length,I u6.2.1] 115 ?_
  obtain⟨e15,he15,h⟩:=bS h
  refine oy 131 (.hp 2 0 [] 1 (0+Int.toNat u6.2.1) 0) rfl (e_indexAddr rfl rfl rfl (ix_hsM (f:=str) (xs:=u6.2.2) rfl rfl rfl he15)) ?_
  refine oy 147 (str e15) rfl (e_ld rfl (ld_at (path:=[]) rfl rfl rfl ra_n (get_map (f:=str) (xs:=u6.2.2) he15) rfl rfl rfl)) ?_
  refine cq 4 [31] [B (e15==u6.1)] 195 ?_
  exact rg [0,1,5,31] [196,2] (j7 _ (Option.some.inj h).symm :)
 ·refine cq 8 [31] [B false] 195 ?_
  exact rg [0,1,5,31] [196,2] (j7 _ (Option.some.inj h).symm :)
theorem Ffco_good {G:Go.Ln.Ground}:Good Tryz.prog G 117 Ffco_ent:=gT 2 1 gl_n (Checked.mixed Tryz.checked) Tryz.func117 (fun a r h=>Ffco_run a.1 a.2 r h)
def Ffcn_A:((List Str)×Condition)→List V:=cA (usE 1 str) (oA encI_Condition1)
def Ffcn_R (r:(List Str)):V×List V:=(.usl 1 (r.map str),[.dead])
noncomputable def Ffcn_entS (slf_Ffcn:((List Str)×Condition)→Option (List Str)):Ent:=entT [true,false] Ffcn_A Ffcn_R slf_Ffcn
theorem Ffcn_FS (slf_Ffcn:((List Str)×Condition)→Option (List Str)){x}{r}(h:slf_Ffcn x=some r):(Ffcn_entS slf_Ffcn).F (Ffcn_A x)=some (Ffcn_R r):=entT_F (cA_inj (usl_inj str_inj) (oA_inj encI_Condition1_inj)) h
noncomputable def Ffcn_ent:Ent:=Ffcn_entS (fixO Ffcn_G)
theorem Ffcn_F {l_4:List Str}{c_5:Condition}{r}(h:Ffcn l_4 c_5=some r):Ffcn_ent.F (Ffcn_A (l_4,c_5))=some (Ffcn_R r):=Ffcn_FS (fixO Ffcn_G) h
noncomputable def Ffcn_c:Code:=bodyOf Tryz.f131
noncomputable def Ffcn_E (slf_Ffcn:((List Str)×Condition)→Option (List Str)):Env:=mkE Tryz.prog [(117,Ffco_ent),(131,(Ffcn_entS slf_Ffcn))]
def Ffcn_Q (slf_Ffcn:((List Str)×Condition)→Option (List Str))(x:(List Str)×Condition)(r:(List Str)):St→Prop:=QF (Ffcn_E slf_Ffcn) Tryz.f131 [true,false] (Ffcn_A x) (Ffcn_R r)
theorem Ffcn_la_run (slf_Ffcn:((List Str)×Condition)→Option (List Str))(l_4:List Str)(c_5:Condition){Q:St→Prop}{K:List It}(hK:noD K=true):∀(x4:Int×(List Str)) (y:(List Str)⊕(List Str)),Ffcn_la slf_Ffcn l_4 c_5 x4=some y→(∀r',y=.inl r'→∀st,Ffcn_Q slf_Ffcn (l_4,c_5) r' st→Q st)→(∀u:(List Str),y=.inr u→Run (Ffcn_E slf_Ffcn) 1 Q K (sO 28 [(0,.hs 2 0 [] 1 0 (u.map str).length)] [none,some ⟨0,1,u.map str⟩] 3))→Run (Ffcn_E slf_Ffcn) 1 Q (.code (cL (cL (cR (cL (cR (cR Ffcn_c))))))::.lp (cL (cL (cR (cL (cR (cR Ffcn_c))))))::.blk 0::K) (sO 28 [(0,.hs 2 0 [] 1 0 (x4.2.map str).length),(3,.hp 3 0 [] 4 0 0),(5,I x4.1)] [none,some ⟨0,1,x4.2.map str⟩,some ⟨0,4,[.agg [I c_5.Op,str c_5.Name,I c_5.Day,.isl false (c_5.Parts.map encI_Condition)]]⟩] 4):=by
 refine fix_indP (Ffcn_la_fin slf_Ffcn l_4 c_5) ?_
 intro self ih x4 y h hr hn
 unfold Ffcn_la_F at h
 refine cq 6 [13,15] [I x4.1,.isl false (c_5.Parts.map encI_Condition)] 52 ?_
 refine oq 68 (I (len c_5.Parts)) rfl (e_len rfl rfl rfl (l_isl rfl)) ?_
 refine cq 2 [17] [B (decide (x4.1<(len c_5.Parts)))] 84 ?_
 refine sq h (fun h=>?_) fun h=>?_
 ·refine aq 1 ?_
  refine cq 7 [20,22,23] [.hs 2 0 [] 1 0 (x4.2.map str).length,.isl false (c_5.Parts.map encI_Condition),I x4.1] 148 ?_
  obtain⟨e5,he5,h⟩:=bS h
  refine oq 164 (.iptr (.agg [I e5.Op,str e5.Name,I e5.Day,.isl false (e5.Parts.map encI_Condition)]) 0) rfl (e_indexAddr rfl rfl rfl (ix_islE rfl rfl (encI_Condition_eq e5) rfl he5)) ?_
  refine cq 1 [25] [.agg [I e5.Op,str e5.Name,I e5.Day,.isl false (e5.Parts.map encI_Condition)]] 180 ?_
  obtain⟨r6,hr6,h⟩:=bS h
  refine oq 196 (.hs 180 0 [] 1 0 (r6.map str).length) rfl (e_callV rfl rfl (call_P rfl rfl rfl (avO (hd1 rfl (hd_hs (path:=[]) rfl rfl ra_n rfl)) (avS (shP rfl) avN)) (Ffcn_FS slf_Ffcn hr6) (.inr rfl) (bl_c rfl rfl rfl bk_dead bl_n) rfl rfl rfl)) ?_
  refine cq 8 [0,5] [.hs 180 0 [] 1 0 (r6.map str).length,I (w64 (x4.1+1))] 260 ?_
  refine s_lp ?_
  exact rg [0,3,5] [261,180,3] (ih _ _ h hr hn :)
 ·refine aq 1 ?_
  exact rg [0] [85,2] (hn _ (Option.some.inj h).symm :) (hk:=hK)
theorem Ffcn_run (slf_Ffcn:((List Str)×Condition)→Option (List Str))(l_4:List Str)(c_5:Condition)(r:(List Str))(h:Ffcn_B slf_Ffcn l_4 c_5=some r):RunF (Ffcn_E slf_Ffcn) Tryz.f131 [true,false] 1 (Ffcn_A (l_4,c_5)) (Ffcn_R r):=by
 show Run _ _ (Ffcn_Q slf_Ffcn (l_4,c_5) r) [.code Ffcn_c] _
 refine rI 28 [(0,.hs 1 0 [] 1 0 (l_4.map str).length),(1,.agg [I c_5.Op,str c_5.Name,I c_5.Day,.isl false (c_5.Parts.map encI_Condition)])] [(1,some ⟨0,1,l_4.map str⟩)] 2 ?_
 unfold Ffcn_B at h
 refine ck 12 [3,8] [] [2] [] [.hp 2 0 [] 4 0 0,B (c_5.Op==2)] [some ⟨0,4,[.agg [I c_5.Op,str c_5.Name,I c_5.Day,.isl false (c_5.Parts.map encI_Condition)]]⟩] 82 (by kernel_rfl) ?_
 refine sq h (fun h=>?_) fun h=>?_
 ·refine cq 5 [9,11] [.hs 1 0 [] 1 0 (l_4.map str).length,str c_5.Name] 130 ?_
  obtain⟨r3,hr3,h⟩:=bS h
  refine oq 146 (.hs 130 0 [] 1 0 (r3.map str).length) rfl (e_callV rfl rfl (call_P rfl rfl rfl (avO (hd1 rfl (hd_hs (path:=[]) rfl rfl ra_n rfl)) (avS (shP rfl) avN)) (Ffco_F hr3) (.inr rfl) (bl_c rfl rfl rfl bk_dead bl_n) rfl rfl rfl)) ?_
  refine cq 2 [4] [.hs 130 0 [] 1 0 (r3.map str).length] 162 ?_
  obtain rfl:=Option.some.inj h
  exact s_ret rfl ⟨_,fin (vs:=[.hs 130 0 [] 1 0 (r3.map str).length]) rfl (absE (abs1 rfl (abs_hs rfl rfl)) absEN) rfl (ou_1 rfl (oc_no rfl) (ou_f ou_n)),kl_d kl_n⟩
 ·refine aq 1 ?_
  refine cq 6 [5] [I (0)] 98 ?_
  obtain⟨y7,hy7,hy71,hy72⟩:=bJ h
  refine s_loop rfl ?_
  refine rg [0,3,5] [99,1,2] (Ffcn_la_run slf_Ffcn l_4 c_5 rfl (0,l_4) _ hy7 (fun r' e st hq=>by rw[hy71 r' e] at hq;exact hq) fun u7 hu=>?_)
  replace h:=hy72 u7 hu
  refine cq 5 [4] [.hs 2 0 [] 1 0 (u7.map str).length] 35 ?_
  obtain rfl:=Option.some.inj h
  exact s_ret rfl ⟨_,fin (vs:=[.hs 2 0 [] 1 0 (u7.map str).length]) rfl (absE (abs1 rfl (abs_hs rfl rfl)) absEN) rfl (ou_1 rfl (oc_no rfl) (ou_f ou_n)),kl_d kl_n⟩
theorem Ffcn_good {G:Go.Ln.Ground}:Good Tryz.prog G 131 Ffcn_ent:=good_rec fun slf_Ffcn g_Ffcn=>gT 2 1 (gl_c Ffco_good (gl_c g_Ffcn gl_n)) (Checked.mixed Tryz.checked) Tryz.func131 (fun a r h=>Ffcn_run slf_Ffcn a.1 a.2 r h)
def Ffcv_A:Contract→List V:=oA encI_Contract
def Ffcv_R (r:(List Str)):V×List V:=(.usl 1 (r.map str),[])
noncomputable def Ffcv_ent:Ent:=entT [false] Ffcv_A Ffcv_R fun x=>Ffcv x
theorem Ffcv_F {c_1:Contract}{r}(h:Ffcv c_1=some r):Ffcv_ent.F (Ffcv_A c_1)=some (Ffcv_R r):=entT_F (oA_inj encI_Contract_inj) h
noncomputable def Ffcv_c:Code:=bodyOf Tryz.f102
noncomputable def Ffcv_E:Env:=mkE Tryz.prog [(117,Ffco_ent),(131,Ffcn_ent)]
def Ffcv_Q (x:Contract)(r:(List Str)):St→Prop:=QF Ffcv_E Tryz.f102 [false] (Ffcv_A x) (Ffcv_R r)
theorem Ffcv_la_run (c_1:Contract){Q:St→Prop}{K:List It}(hK:noD K=true):∀(x2:Int×(List Str)) (y:(List Str)⊕(List Str)),Ffcv_la c_1 x2=some y→(∀r',y=.inl r'→∀st,Ffcv_Q c_1 r' st→Q st)→(∀u:(List Str),y=.inr u→Run Ffcv_E 0 Q K (sT 29 [(3,.hs 1 0 [] 1 0 (u.map str).length)] [⟨0,1,u.map str⟩] 2))→Run Ffcv_E 0 Q (.code (cL (cL (cR (cL (cR (cR Ffcv_c))))))::.lp (cL (cL (cR (cL (cR (cR Ffcv_c))))))::.blk 0::K) (sT 29 [(1,.hp 1 0 [] 2 0 0),(3,.hs 2 0 [] 1 0 (x2.2.map str).length),(4,I x2.1)] [⟨0,2,[.agg [.isl false (c_1.Parties.map str),.isl false (c_1.Clauses.map encI_Clause)]]⟩,⟨0,1,x2.2.map str⟩] 3):=by
 refine fix_indP (Ffcv_la_fin c_1) ?_
 intro self ih x2 y h hr hn
 unfold Ffcv_la_F at h
 refine cq 6 [6,8] [I x2.1,.isl false (c_1.Clauses.map encI_Clause)] 51 ?_
 refine oq 67 (I (len c_1.Clauses)) rfl (e_len rfl rfl rfl (l_isl rfl)) ?_
 refine cq 2 [10] [B (decide (x2.1<(len c_1.Clauses)))] 83 ?_
 refine sq h (fun h=>?_) fun h=>?_
 ·refine aq 1 ?_
  refine aq 2 ?_
  refine s_draw [0,0,2,0,14,30,62,127,0,256,0,1792,3840,7936,16383,32767] rfl (by decide +kernel) ?_
  refine dk 1 [13] [.hs 2 0 [] 1 0 (x2.2.map str).length] ?_
  refine dq [1] [] (.hp 1 0 [] 2 0 1) rfl (e_fieldAddr rfl rfl rfl) ?_
  refine dq [1] [] (.isl false (c_1.Clauses.map encI_Clause)) rfl (e_ld rfl rfl) ?_
  refine dk 1 [16] [I x2.1] ?_
  obtain⟨e3,he3,h⟩:=bS h
  refine dq [] [] (.iptr (.agg [str e3.Id,I e3.Kind,I e3.Party,str e3.Action,I e3.Other,I e3.Amount,I e3.When.Op,str e3.When.Name,I e3.When.Day,.isl false (e3.When.Parts.map encI_Condition),I e3.Within,str e3.Repair]) 0) rfl (e_indexAddr rfl rfl rfl (ix_islE rfl rfl rfl rfl he3)) ?_
  refine dq [] [] (.iptr (.agg [str e3.Id,I e3.Kind,I e3.Party,str e3.Action,I e3.Other,I e3.Amount,I e3.When.Op,str e3.When.Name,I e3.When.Day,.isl false (e3.When.Parts.map encI_Condition),I e3.Within,str e3.Repair]) 3) rfl (e_fieldAddr rfl rfl rfl) ?_
  refine dq [] [] (str e3.Action) rfl (e_ld rfl rfl) ?_
  obtain⟨r4,hr4,h⟩:=bS h
  refine dq [2] [2] (.hs 195 0 [] 1 0 (r4.map str).length) rfl (e_callV rfl rfl (call_P rfl rfl rfl (avO (hd1 rfl (hd_hs (path:=[]) rfl rfl ra_n rfl)) (avS (shP rfl) avN)) (Ffco_F hr4) (.inr rfl) (bl_c rfl rfl rfl bk_dead bl_n) rfl rfl rfl)) ?_ (w_callO rfl rfl rfl rfl (avO (hd1 rfl (hd_hs (path:=[]) rfl rfl ra_n rfl)) (avS (shP rfl) avN)) (Ffco_F hr4) (.inr rfl) rfl)
  refine dq [1] [] (.hp 1 0 [] 2 0 1) rfl (e_fieldAddr rfl rfl rfl) ?_
  refine dq [1] [] (.isl false (c_1.Clauses.map encI_Clause)) rfl (e_ld rfl rfl) ?_
  refine dk 1 [23] [I x2.1] ?_
  obtain⟨e5,he5,h⟩:=bS h
  refine dq [] [] (.iptr (.agg [str e5.Id,I e5.Kind,I e5.Party,str e5.Action,I e5.Other,I e5.Amount,I e5.When.Op,str e5.When.Name,I e5.When.Day,.isl false (e5.When.Parts.map encI_Condition),I e5.Within,str e5.Repair]) 0) rfl (e_indexAddr rfl rfl rfl (ix_islE rfl rfl rfl rfl he5)) ?_
  refine dq [] [] (.iptr (.agg [str e5.Id,I e5.Kind,I e5.Party,str e5.Action,I e5.Other,I e5.Amount,I e5.When.Op,str e5.When.Name,I e5.When.Day,.isl false (e5.When.Parts.map encI_Condition),I e5.Within,str e5.Repair]) 6) rfl (e_fieldAddr rfl rfl rfl) ?_
  refine dq [] [] (.agg [I e5.When.Op,str e5.When.Name,I e5.When.Day,.isl false (e5.When.Parts.map encI_Condition)]) rfl (e_ld rfl rfl) ?_
  obtain⟨r6,hr6,h⟩:=bS h
  refine dq [195] [195] (.hs 307 0 [] 1 0 (r6.map str).length) rfl (e_callV rfl rfl (call_P rfl rfl rfl (avO (hd1 rfl (hd_hs (path:=[]) rfl rfl ra_n rfl)) (avS (shP rfl) avN)) (Ffcn_F hr6) (.inr rfl) (bl_c rfl rfl rfl bk_dead bl_n) rfl rfl rfl)) ?_ (w_callO rfl rfl rfl rfl (avO (hd1 rfl (hd_hs (path:=[]) rfl rfl ra_n rfl)) (avS (shP rfl) avN)) (Ffcn_F hr6) (.inr rfl) rfl)
  refine dk 1 [3] [.hs 307 0 [] 1 0 (r6.map str).length] ?_
  refine de 339 rfl rfl ?_
  refine cq 6 [4] [I (w64 (x2.1+1))] 387 ?_
  refine s_lp ?_
  exact rf [1,3,4] [1,307] (ih _ _ h hr hn :)
 ·refine aq 1 ?_
  exact rf [3] [2] (hn _ (Option.some.inj h).symm :) (hk:=hK)
theorem Ffcv_run (c_1:Contract)(r:(List Str))(h:Ffcv c_1=some r):RunF Ffcv_E Tryz.f102 [false] 0 (Ffcv_A c_1) (Ffcv_R r):=by
 show Run _ _ (Ffcv_Q c_1 r) [.code Ffcv_c] _
 refine rI 29 [(0,.agg [.isl false (c_1.Parties.map str),.isl false (c_1.Clauses.map encI_Clause)])] [] 1 ?_
 unfold Ffcv at h
 refine ck 7 [1] [] [1] [] [.hp 1 0 [] 2 0 0] [some ⟨0,2,[.agg [.isl false (c_1.Parties.map str),.isl false (c_1.Clauses.map encI_Clause)]]⟩] 33 (by kernel_rfl) ?_
 refine oq 49 (.hs 33 0 [] 1 0 0) rfl (e_buildSlice rfl (bs_mk (f:=I) (xs:=[]) (z:=str ([])) (es:=[]) (ws:=[]) rfl rfl rfl (by decide) rfl (abs_each_plain rfl) rfl)) ?_
 refine cq 8 [3,4] [.hs 33 0 [] 1 0 0,I (0)] 81 ?_
 obtain⟨y7,hy7,hy71,hy72⟩:=bJ h
 refine s_loop rfl ?_
 refine rf [1,3,4] [1,33] (Ffcv_la_run c_1 rfl (0,[]) _ hy7 (fun r' e st hq=>by rw[hy71 r' e] at hq;exact hq) fun u7 hu=>?_)
 replace h:=hy72 u7 hu
 refine cq 5 [2] [.hs 1 0 [] 1 0 (u7.map str).length] 34 ?_
 obtain rfl:=Option.some.inj h
 exact s_ret rfl ⟨_,fin (vs:=[.hs 1 0 [] 1 0 (u7.map str).length]) rfl (absE (abs1 rfl (abs_hs rfl rfl)) absEN) rfl (ou_f ou_n),kl_n⟩
theorem Ffcv_good {G:Go.Ln.Ground}:Good Tryz.prog G 102 Ffcv_ent:=gT 1 0 (gl_c Ffco_good (gl_c Ffcn_good gl_n)) (Checked.mixed Tryz.checked) Tryz.func102 (fun a r h=>Ffcv_run a r h)
def Ffcu_A:Contract→List V:=oA encI_Contract
def Ffcu_R (r:Bool):V×List V:=(B r,[])
noncomputable def Ffcu_ent:Ent:=entT [false] Ffcu_A Ffcu_R fun x=>Ffcu x
theorem Ffcu_F {c_1:Contract}{r}(h:Ffcu c_1=some r):Ffcu_ent.F (Ffcu_A c_1)=some (Ffcu_R r):=entT_F (oA_inj encI_Contract_inj) h
noncomputable def Ffcu_c:Code:=bodyOf Tryz.f59
noncomputable abbrev Ffcu_ka:Code:=cL (cL (cR (cL (cR (cR Ffcu_c)))))
noncomputable def Ffcu_E:Env:=mkE Tryz.prog [(83,spec_l1In_ent),(100,Ffct_ent),(101,Ffcs_ent),(102,Ffcv_ent),(99,Ffcw_ent)]
def Ffcu_Q (x:Contract)(r:Bool):St→Prop:=QF Ffcu_E Tryz.f59 [false] (Ffcu_A x) (Ffcu_R r)
theorem Ffcu_la_run (c_1:Contract){Q:St→Prop}{K:List It}(hK:noD K=true):∀(x4:Int) (y:Bool⊕Unit),Ffcu_la c_1 x4=some y→(∀r',y=.inl r'→∀st,Ffcu_Q c_1 r' st→Q st)→(∀u:Unit,y=.inr u→Run Ffcu_E 0 Q K (sT 41 [(1,.hp 1 0 [] 2 0 0)] [⟨0,2,[.agg [.isl false (c_1.Parties.map str),.isl false (c_1.Clauses.map encI_Clause)]]⟩] 2))→Run Ffcu_E 0 Q (.code Ffcu_ka::.lp Ffcu_ka::.blk 0::K) (sT 41 [(1,.hp 1 0 [] 2 0 0),(3,I x4)] [⟨0,2,[.agg [.isl false (c_1.Parties.map str),.isl false (c_1.Clauses.map encI_Clause)]]⟩] 2):=by
 refine fix_indP (Ffcu_la_fin c_1) ?_
 intro self ih x4 y h hr hn
 unfold Ffcu_la_F at h
 refine cq 6 [14,16] [I x4,.isl false (c_1.Clauses.map encI_Clause)] 50 ?_
 refine oq 66 (I (len c_1.Clauses)) rfl (e_len rfl rfl rfl (l_isl rfl)) ?_
 refine cq 2 [18] [B (decide (x4<(len c_1.Clauses)))] 82 ?_
 refine sq h (fun h=>?_) fun h=>?_
 ·refine aq 1 ?_
  refine aq 3 ?_
  refine s_draw [0,0,2,0,14,30,62,127,0,511,1023,2047,2047,8191,16383,32767] rfl (by decide +kernel) ?_
  refine dq [1] [] (.agg [.isl false (c_1.Parties.map str),.isl false (c_1.Clauses.map encI_Clause)]) rfl (e_ld rfl rfl) ?_
  refine dq [1] [] (.hp 1 0 [] 2 0 1) rfl (e_fieldAddr rfl rfl rfl) ?_
  refine dq [1] [] (.isl false (c_1.Clauses.map encI_Clause)) rfl (e_ld rfl rfl) ?_
  refine dk 1 [24] [I x4] ?_
  obtain⟨e5,he5,h⟩:=bS h
  refine dq [] [] (.iptr (.agg [str e5.Id,I e5.Kind,I e5.Party,str e5.Action,I e5.Other,I e5.Amount,I e5.When.Op,str e5.When.Name,I e5.When.Day,.isl false (e5.When.Parts.map encI_Condition),I e5.Within,str e5.Repair]) 0) rfl (e_indexAddr rfl rfl rfl (ix_islE rfl rfl rfl rfl he5)) ?_
  refine dq [] [] (.iptr (.agg [str e5.Id,I e5.Kind,I e5.Party,str e5.Action,I e5.Other,I e5.Amount,I e5.When.Op,str e5.When.Name,I e5.When.Day,.isl false (e5.When.Parts.map encI_Condition),I e5.Within,str e5.Repair]) 0) rfl (e_fieldAddr rfl rfl rfl) ?_
  refine dq [] [] (str e5.Id) rfl (e_ld rfl rfl) ?_
  obtain⟨r6,hr6,h⟩:=bS h
  refine dq [] [] (I r6) rfl (cP (Ffct_F hr6)) ?_ (w_callO rfl rfl rfl rfl (avS (shP rfl) (avS (shP rfl) avN)) (Ffct_F hr6) (.inr rfl) rfl)
  refine dk 3 [31,30,29] [B (r6 != x4),B (r6 != x4),I x4] ?_
  obtain⟨y7,hy7,hy71,hy72⟩:=bL h
  have j7:∀u7,y7=.inr u7→Run Ffcu_E 0 Q (.code (cR (cL (cL (cR Ffcu_ka))))::.blk 1::.code (cR (cR Ffcu_ka))::.lp Ffcu_ka::.blk 0::K) (sT 41 [(1,.hp 1 0 [] 2 0 0),(3,I x4),(36,B u7)] [⟨0,2,[.agg [.isl false (c_1.Parties.map str),.isl false (c_1.Clauses.map encI_Clause)]]⟩] 2):=by
   intro u7 hu
   replace h:=hy72 u7 hu
   refine sq h (fun h=>?_) fun h=>?_
   ·refine cq 4 [2] [B false] 18 ?_
    exact s_ret rfl (hr _ (Option.some.inj h).symm _ (qp [B false]))
   ·refine aq 1 ?_
    refine cq 6 [3] [I (w64 (x4+1))] 50 ?_
    refine s_lp ?_
    exact rf [1,3] [1] (ih _ _ h hr hn :)
  have r7:∀r',y7=.inl r'→∀st,Ffcu_Q c_1 r' st→Q st:=fun r' e st hq=>hr r' (hy71 r' e) st hq
  replace h:=hy7
  refine sp 31 h rfl (fun h=>?_) fun h=>?_
  ·refine dk 5 [36,35,34,33,32] [B true,.und,.und,.und,.und] ?_
   refine de 338 rfl rfl ?_
   exact rf [1,3,36] [1] (j7 _ (Option.some.inj h).symm :)
  ·refine dy [1] [] (.agg [.isl false (c_1.Parties.map str),.isl false (c_1.Clauses.map encI_Clause)]) rfl (e_ld rfl rfl) ?_
   refine dk 1 [33] [I x4] ?_
   obtain⟨r8,hr8,h⟩:=bS h
   refine dy [] [] (B r8) rfl (cP (Ffcs_F hr8)) ?_ (w_callO rfl rfl rfl rfl (avS (shP rfl) (avS (shP rfl) avN)) (Ffcs_F hr8) (.inr rfl) rfl)
   refine dk 2 [36,35] [B (!r8),B (!r8)] ?_
   refine de 338 rfl rfl ?_
   exact rf [1,3,36] [1] (j7 _ (Option.some.inj h).symm :)
 ·refine aq 1 ?_
  exact rf [1] [1] (hn _ (Option.some.inj h).symm :) (hk:=hK)
theorem Ffcu_run (c_1:Contract)(r:Bool)(h:Ffcu c_1=some r):RunF Ffcu_E Tryz.f59 [false] 0 (Ffcu_A c_1) (Ffcu_R r):=by
 show Run _ _ (Ffcu_Q c_1 r) [.code Ffcu_c] _
 refine rI 41 [(0,.agg [.isl false (c_1.Parties.map str),.isl false (c_1.Clauses.map encI_Clause)])] [] 1 ?_
 unfold Ffcu at h
 refine ck 10 [1,5] [] [1] [] [.hp 1 0 [] 2 0 0,.isl false (c_1.Clauses.map encI_Clause)] [some ⟨0,2,[.agg [.isl false (c_1.Parties.map str),.isl false (c_1.Clauses.map encI_Clause)]]⟩] 65 (by kernel_rfl) ?_
 refine oq 81 (I (len c_1.Clauses)) rfl (e_len rfl rfl rfl (l_isl rfl)) ?_
 obtain⟨r2,hr2,h⟩:=bS h
 refine oq 97 (B r2) rfl (cP (spec_l1In_F hr2)) ?_
 refine cq 2 [9] [B (!r2)] 129 ?_
 obtain⟨y3,hy3,hy31,hy32⟩:=bJ h
 have j3:∀u3,y3=.inr u3→Run Ffcu_E 0 (Ffcu_Q c_1 r) (.code (cR (cL (cR Ffcu_c)))::.code (cR (cR Ffcu_c))::[]) (sT 41 [(1,.hp 1 0 [] 2 0 0),(13,B u3)] [⟨0,2,[.agg [.isl false (c_1.Parties.map str),.isl false (c_1.Clauses.map encI_Clause)]]⟩] 2):=by
  intro u3 hu
  replace h:=hy32 u3 hu
  refine sq h (fun h=>?_) fun h=>?_
  ·refine cq 4 [2] [B false] 18 ?_
   obtain rfl:=Option.some.inj h
   exact s_ret rfl (qp [B false])
  ·refine aq 1 ?_
   refine cq 6 [3] [I (0)] 18 ?_
   obtain⟨y9,hy9,hy91,hy92⟩:=bJ h
   refine s_loop rfl ?_
   refine rf [1,3] [1] (Ffcu_la_run c_1 rfl 0 _ hy9 (fun r' e st hq=>by rw[hy91 r' e] at hq;exact hq) fun u9 hu=>?_)
   replace h:=hy92 u9 hu
   refine cq 3 [37] [.agg [.isl false (c_1.Parties.map str),.isl false (c_1.Clauses.map encI_Clause)]] 18 ?_
   obtain⟨r10,hr10,h⟩:=bS h
   refine oq 34 (.hs 18 0 [] 1 0 (r10.map str).length) rfl (cP (Ffcv_F hr10)) ?_
   refine oq 50 (I (len r10)) rfl (e_len rfl rfl rfl (l_hsM (f:=str) (xs:=r10) rfl rfl)) ?_
   refine cq 3 [2] [B (decide ((len r10)≤16))] 82 ?_
   obtain rfl:=Option.some.inj h
   exact s_ret rfl (qp [B (decide ((len r10)≤16))])
 have r3:∀r',y3=.inl r'→∀st,Ffcu_Q c_1 r' st→(Ffcu_Q c_1 r) st:=fun r' e st hq=>by rw[hy31 r' e] at hq;exact hq
 replace h:=hy3
 refine sp 9 h rfl (fun h=>?_) fun h=>?_
 ·refine cq 5 [13] [B true] 193 ?_
  exact rf [1,13] [1] (j3 _ (Option.some.inj h).symm :)
 ·refine cq 1 [10] [.agg [.isl false (c_1.Parties.map str),.isl false (c_1.Clauses.map encI_Clause)]] 145 ?_
  obtain⟨r11,hr11,h⟩:=bS h
  refine oy 161 (B r11) rfl (cP (Ffcw_F hr11)) ?_
  refine cq 3 [13] [B (!r11)] 193 ?_
  exact rf [1,13] [1] (j3 _ (Option.some.inj h).symm :)
theorem Ffcu_good {G:Go.Ln.Ground}:Good Tryz.prog G 59 Ffcu_ent:=gT 1 0 (gl_c spec_l1In_good (gl_c Ffct_good (gl_c Ffcs_good (gl_c Ffcv_good (gl_c Ffcw_good gl_n))))) (Checked.mixed Tryz.checked) Tryz.func59 (fun a r h=>Ffcu_run a r h)
def Ffcg_A:((List Int)×Int)→List V:=cA (slE I) (oA I)
def Ffcg_R (r:Bool):V×List V:=(B r,[])
noncomputable def Ffcg_ent:Ent:=entT [false,false] Ffcg_A Ffcg_R fun x=>Ffcg x.1 x.2
theorem Ffcg_F {l_1:List Int}{n_2:Int}{r}(h:Ffcg l_1 n_2=some r):Ffcg_ent.F (Ffcg_A (l_1,n_2))=some (Ffcg_R r):=entT_F (cA_inj (isl_inj I_inj) (oA_inj I_inj)) h
noncomputable def Ffcg_c:Code:=bodyOf Tryz.f108
noncomputable def Ffcg_E:Env:=mkE Tryz.prog []
def Ffcg_Q (x:(List Int)×Int)(r:Bool):St→Prop:=QF Ffcg_E Tryz.f108 [false,false] (Ffcg_A x) (Ffcg_R r)
theorem Ffcg_la_run (l_1:List Int)(n_2:Int){Q:St→Prop}{K:List It}(hK:noD K=true):∀(x3:Int) (y:Bool⊕Unit),Ffcg_la l_1 n_2 x3=some y→(∀r',y=.inl r'→∀st,Ffcg_Q (l_1,n_2) r' st→Q st)→(∀u:Unit,y=.inr u→Run Ffcg_E 0 Q K (sT 18 [] [] 1))→Run Ffcg_E 0 Q (.code (cL (cL (cR (cL (cR Ffcg_c)))))::.lp (cL (cL (cR (cL (cR Ffcg_c)))))::.blk 0::K) (sT 18 [(0,.isl false (l_1.map I)),(1,I n_2),(5,I x3)] [] 1):=by
 refine fix_indP (Ffcg_la_fin l_1 n_2) ?_
 intro self ih x3 y h hr hn
 unfold Ffcg_la_F at h
 refine cq 5 [6,7] [I x3,.isl false (l_1.map I)] 33 ?_
 refine oq 49 (I (len l_1)) rfl (e_len rfl rfl rfl (l_isl rfl)) ?_
 refine cq 2 [9] [B (decide (x3<(len l_1)))] 65 ?_
 refine sq h (fun h=>?_) fun h=>?_
 ·refine aq 1 ?_
  refine cq 6 [12,13] [.isl false (l_1.map I),I x3] 97 ?_
  obtain⟨e4,he4,h⟩:=bS h
  refine oq 113 (.iptr (I e4) 0) rfl (e_indexAddr rfl rfl rfl (ix_islE rfl rfl rfl rfl he4)) ?_
  refine cq 4 [17] [B (e4==n_2)] 161 ?_
  refine sq h (fun h=>?_) fun h=>?_
  ·refine cq 4 [4] [B true] 177 ?_
   exact s_ret rfl (hr _ (Option.some.inj h).symm _ (qp [B true]))
  ·refine aq 1 ?_
   refine cq 6 [5] [I (w64 (x3+1))] 209 ?_
   refine s_lp ?_
   exact rf [0,1,5] [] (ih _ _ h hr hn :)
 ·refine aq 1 ?_
  exact rf [] [] (hn _ (Option.some.inj h).symm :) (hk:=hK)
theorem Ffcg_run (l_1:List Int)(n_2:Int)(r:Bool)(h:Ffcg l_1 n_2=some r):RunF Ffcg_E Tryz.f108 [false,false] 0 (Ffcg_A (l_1,n_2)) (Ffcg_R r):=by
 show Run _ _ (Ffcg_Q (l_1,n_2) r) [.code Ffcg_c] _
 refine rI 18 [(0,.isl false (l_1.map I)),(1,I n_2)] [] 1 ?_
 unfold Ffcg at h
 refine cq 10 [5] [I (0)] 33 ?_
 obtain⟨y5,hy5,hy51,hy52⟩:=bJ h
 refine s_loop rfl ?_
 refine rf [0,1,5] [] (Ffcg_la_run l_1 n_2 rfl 0 _ hy5 (fun r' e st hq=>by rw[hy51 r' e] at hq;exact hq) fun u5 hu=>?_)
 replace h:=hy52 u5 hu
 refine cq 4 [4] [B false] 17 ?_
 obtain rfl:=Option.some.inj h
 exact s_ret rfl (qp [B false])
theorem Ffcg_good {G:Go.Ln.Ground}:Good Tryz.prog G 108 Ffcg_ent:=gT 2 0 gl_n (Checked.mixed Tryz.checked) Tryz.func108 (fun a r h=>Ffcg_run a.1 a.2 r h)
def Ffcr_A:(Contract×Int)→List V:=cA encI_Contract (oA I)
def Ffcr_R (r:(List Int)×Bool):V×List V:=(.tup [.usl 1 (r.1.map I),B r.2],[])
noncomputable def Ffcr_ent:Ent:=entT [false,false] Ffcr_A Ffcr_R fun x=>Ffcr x.1 x.2
theorem Ffcr_F {c_1:Contract}{i_2:Int}{r}(h:Ffcr c_1 i_2=some r):Ffcr_ent.F (Ffcr_A (c_1,i_2))=some (Ffcr_R r):=entT_F (cA_inj encI_Contract_inj (oA_inj I_inj)) h
noncomputable def Ffcr_c:Code:=bodyOf Tryz.f65
noncomputable def Ffcr_E:Env:=mkE Tryz.prog [(100,Ffct_ent),(108,Ffcg_ent)]
def Ffcr_Q (x:Contract×Int)(r:(List Int)×Bool):St→Prop:=QF Ffcr_E Tryz.f65 [false,false] (Ffcr_A x) (Ffcr_R r)
theorem Ffcr_la_run (c_1:Contract)(i_2:Int){Q:St→Prop}{K:List It}(hK:noD K=true):∀(x3:Int×(List Int)) (y:((List Int)×Bool)⊕(List Int)),Ffcr_la c_1 i_2 x3=some y→(∀r',y=.inl r'→∀st,Ffcr_Q (c_1,i_2) r' st→Q st)→(∀u:(List Int),y=.inr u→Run Ffcr_E 0 Q K (sT 33 [(6,.hs 1 0 [] 1 0 (u.map I).length)] [⟨0,1,u.map I⟩] 2))→Run Ffcr_E 0 Q (.code (cL (cL (cL (cR (cR Ffcr_c)))))::.lp (cL (cL (cL (cR (cR Ffcr_c)))))::.blk 0::K) (sT 33 [(1,I x3.1),(2,.hp 1 0 [] 2 0 0),(6,.hs 2 0 [] 1 0 (x3.2.map I).length)] [⟨0,2,[.agg [.isl false (c_1.Parties.map str),.isl false (c_1.Clauses.map encI_Clause)]]⟩,⟨0,1,x3.2.map I⟩] 3):=by
 refine fix_indP (Ffcr_la_fin c_1 i_2) ?_
 intro self ih x3 y h hr hn
 unfold Ffcr_la_F at h
 refine cq 6 [10,11] [.isl false (c_1.Clauses.map encI_Clause),I x3.1] 51 ?_
 obtain⟨e4,he4,h⟩:=bS h
 refine oq 67 (.iptr (.agg [str e4.Id,I e4.Kind,I e4.Party,str e4.Action,I e4.Other,I e4.Amount,I e4.When.Op,str e4.When.Name,I e4.When.Day,.isl false (e4.When.Parts.map encI_Condition),I e4.Within,str e4.Repair]) 0) rfl (e_indexAddr rfl rfl rfl (ix_islE rfl rfl rfl rfl he4)) ?_
 refine cq 4 [15] [B (!(e4.Repair==([]:Str)))] 115 ?_
 refine sq h (fun h=>?_) fun h=>?_
 ·refine aq 1 ?_
  refine aq 2 ?_
  refine s_draw [0,0,2,0,14,30,62,127,255] rfl (by decide +kernel) ?_
  refine dq [1] [] (.agg [.isl false (c_1.Parties.map str),.isl false (c_1.Clauses.map encI_Clause)]) rfl (e_ld rfl rfl) ?_
  refine dq [1] [] (.hp 1 0 [] 2 0 1) rfl (e_fieldAddr rfl rfl rfl) ?_
  refine dq [1] [] (.isl false (c_1.Clauses.map encI_Clause)) rfl (e_ld rfl rfl) ?_
  refine dk 1 [19] [I x3.1] ?_
  obtain⟨e5,he5,h⟩:=bS h
  refine dq [] [] (.iptr (.agg [str e5.Id,I e5.Kind,I e5.Party,str e5.Action,I e5.Other,I e5.Amount,I e5.When.Op,str e5.When.Name,I e5.When.Day,.isl false (e5.When.Parts.map encI_Condition),I e5.Within,str e5.Repair]) 0) rfl (e_indexAddr rfl rfl rfl (ix_islE rfl rfl rfl rfl he5)) ?_
  refine dq [] [] (.iptr (.agg [str e5.Id,I e5.Kind,I e5.Party,str e5.Action,I e5.Other,I e5.Amount,I e5.When.Op,str e5.When.Name,I e5.When.Day,.isl false (e5.When.Parts.map encI_Condition),I e5.Within,str e5.Repair]) 11) rfl (e_fieldAddr rfl rfl rfl) ?_
  refine dq [] [] (str e5.Repair) rfl (e_ld rfl rfl) ?_
  obtain⟨r6,hr6,h⟩:=bS h
  refine dq [] [] (I r6) rfl (cP (Ffct_F hr6)) ?_ (w_callO rfl rfl rfl rfl (avS (shP rfl) (avS (shP rfl) avN)) (Ffct_F hr6) (.inr rfl) rfl)
  refine dk 1 [1] [I r6] ?_
  refine de 259 rfl rfl ?_
  refine cq 5 [24,25] [.hs 2 0 [] 1 0 (x3.2.map I).length,I r6] 291 ?_
  obtain⟨r7,hr7,h⟩:=bS h
  refine oq 307 (B r7) rfl (e_callV rfl rfl (call_P rfl rfl rfl (avS (sh1 rfl rfl (sh_hsM (f:=I) (g:=I) (xs:=x3.2) rfl rfl (imms_of I_imm))) (avS (shP rfl) avN)) (Ffcg_F hr7) (.inl rfl) bl_n rfl rfl rfl)) ?_
  refine aq 1 ?_
  refine sq h (fun h=>?_) fun h=>?_
  ·refine cq 6 [4,5] [.hs 2 0 [] 1 0 (x3.2.map I).length,B true] 355 ?_
   exact s_ret rfl (hr _ (Option.some.inj h).symm _ ⟨_,fin (vs:=[.hs 2 0 [] 1 0 (x3.2.map I).length,B true]) rfl (absE (abs1 rfl (abs_hs rfl rfl)) (absE (absorb_plain rfl) absEN)) rfl (ou_f (ou_f ou_n)),kl_n⟩)
  ·refine aq 1 ?_
   refine cq 3 [28,29] [.hs 2 0 [] 1 0 (x3.2.map I).length,I r6] 339 ?_
   refine oq 355 (.hs 339 0 [] 1 0 1) rfl (e_buildSlice rfl (bs_mk (f:=I) (xs:=[]) (z:=I (0)) (es:=[I r6]) (ws:=[I r6]) rfl rfl rfl (by decide) rfl (abs_each_plain rfl) rfl)) ?_
   obtain⟨a8,ha8,h⟩:=bS h
   refine oq 371 (.hs 355 0 [] 1 0 (a8.map I).length) rfl (e_append rfl rfl rfl rfl rfl (ap_hsM (path:=[]) (f:=I) (xs:=x3.2) (ys:=[r6]) rfl rfl (take_hs rfl rfl rfl) rfl rfl rfl ra_n rfl (by decide) I_cells ha8 rfl to_n)) ?_
   refine cq 3 [6] [.hs 355 0 [] 1 0 (a8.map I).length] 387 ?_
   refine s_lp ?_
   exact rf [1,2,6] [1,355] (ih _ _ h hr hn :)
 ·refine aq 1 ?_
  exact rf [6] [2] (hn _ (Option.some.inj h).symm :) (hk:=hK)
theorem Ffcr_run (c_1:Contract)(i_2:Int)(r:(List Int)×Bool)(h:Ffcr c_1 i_2=some r):RunF Ffcr_E Tryz.f65 [false,false] 0 (Ffcr_A (c_1,i_2)) (Ffcr_R r):=by
 show Run _ _ (Ffcr_Q (c_1,i_2) r) [.code Ffcr_c] _
 refine rI 33 [(0,.agg [.isl false (c_1.Parties.map str),.isl false (c_1.Clauses.map encI_Clause)]),(1,I i_2)] [] 1 ?_
 unfold Ffcr at h
 refine ck 9 [2,7] [] [1] [] [.hp 1 0 [] 2 0 0,I i_2] [some ⟨0,2,[.agg [.isl false (c_1.Parties.map str),.isl false (c_1.Clauses.map encI_Clause)]]⟩] 65 (by kernel_rfl) ?_
 refine oq 81 (.hs 65 0 [] 1 0 1) rfl (e_buildSlice rfl (bs_mk (f:=I) (xs:=[]) (z:=I (0)) (es:=[I i_2]) (ws:=[I i_2]) rfl rfl rfl (by decide) rfl (abs_each_plain rfl) rfl)) ?_
 refine cq 4 [6] [.hs 65 0 [] 1 0 1] 97 ?_
 obtain⟨y9,hy9,hy91,hy92⟩:=bJ h
 refine s_loop rfl ?_
 refine rf [1,2,6] [1,65] (Ffcr_la_run c_1 i_2 rfl (i_2,[i_2]) _ hy9 (fun r' e st hq=>by rw[hy91 r' e] at hq;exact hq) fun u9 hu=>?_)
 replace h:=hy92 u9 hu
 refine cq 6 [4,5] [.hs 1 0 [] 1 0 (u9.map I).length,B false] 50 ?_
 obtain rfl:=Option.some.inj h
 exact s_ret rfl ⟨_,fin (vs:=[.hs 1 0 [] 1 0 (u9.map I).length,B false]) rfl (absE (abs1 rfl (abs_hs rfl rfl)) (absE (absorb_plain rfl) absEN)) rfl (ou_f (ou_f ou_n)),kl_n⟩
theorem Ffcr_good {G:Go.Ln.Ground}:Good Tryz.prog G 65 Ffcr_ent:=gT 2 0 (gl_c Ffct_good (gl_c Ffcg_good gl_n)) (Checked.mixed Tryz.checked) Tryz.func65 (fun a r h=>Ffcr_run a.1 a.2 r h)
def Ffcf_A:Contract→List V:=oA encI_Contract
def Ffcf_R (r:(List Int)×Bool):V×List V:=(.tup [.usl 1 (r.1.map I),B r.2],[])
noncomputable def Ffcf_ent:Ent:=entT [false] Ffcf_A Ffcf_R fun x=>Ffcf x
theorem Ffcf_F {c_1:Contract}{r}(h:Ffcf c_1=some r):Ffcf_ent.F (Ffcf_A c_1)=some (Ffcf_R r):=entT_F (oA_inj encI_Contract_inj) h
noncomputable def Ffcf_c:Code:=bodyOf Tryz.f24
noncomputable abbrev Ffcf_ka:Code:=cL (cL (cR (cL (cR (cR (cR Ffcf_c))))))
noncomputable def Ffcf_E:Env:=mkE Tryz.prog [(59,Ffcu_ent),(65,Ffcr_ent)]
def Ffcf_Q (x:Contract)(r:(List Int)×Bool):St→Prop:=QF Ffcf_E Tryz.f24 [false] (Ffcf_A x) (Ffcf_R r)
theorem Ffcf_la_run (c_1:Contract){Q:St→Prop}{K:List It}(hK:noD K=true):∀(x3:Int×(List Int)) (y:((List Int)×Bool)⊕(List Int)),Ffcf_la c_1 x3=some y→(∀r',y=.inl r'→∀st,Ffcf_Q c_1 r' st→Q st)→(∀u:(List Int),y=.inr u→Run Ffcf_E 0 Q K (sT 32 [(4,.hs 1 0 [] 1 0 (u.map I).length)] [⟨0,1,u.map I⟩] 2))→Run Ffcf_E 0 Q (.code Ffcf_ka::.lp Ffcf_ka::.blk 0::K) (sT 32 [(1,.hp 1 0 [] 2 0 0),(4,.hs 2 0 [] 1 0 (x3.2.map I).length),(5,I x3.1)] [⟨0,2,[.agg [.isl false (c_1.Parties.map str),.isl false (c_1.Clauses.map encI_Clause)]]⟩,⟨0,1,x3.2.map I⟩] 3):=by
 refine fix_indP (Ffcf_la_fin c_1) ?_
 intro self ih x3 y h hr hn
 unfold Ffcf_la_F at h
 refine cq 6 [13,15] [I x3.1,.isl false (c_1.Clauses.map encI_Clause)] 51 ?_
 refine oq 67 (I (len c_1.Clauses)) rfl (e_len rfl rfl rfl (l_isl rfl)) ?_
 refine cq 2 [17] [B (decide (x3.1<(len c_1.Clauses)))] 83 ?_
 refine sq h (fun h=>?_) fun h=>?_
 ·refine aq 1 ?_
  refine cq 6 [21,22] [.agg [.isl false (c_1.Parties.map str),.isl false (c_1.Clauses.map encI_Clause)],I x3.1] 115 ?_
  obtain⟨r4,hr4,h⟩:=bS h
  refine oq 131 (.tup [.hs 115 0 [] 1 0 (r4.1.map I).length,B r4.2]) rfl (cP (Ffcr_F hr4)) ?_
  refine cq 10 [26] [B r4.2] 227 ?_
  obtain⟨y5,hy5,hy51,hy52⟩:=bL h
  have j5:∀u5,y5=.inr u5→Run Ffcf_E 0 Q (.blk 1::.code (cR (cR Ffcf_ka))::.lp Ffcf_ka::.blk 0::K) (sT 32 [(1,.hp 1 0 [] 2 0 0),(4,.hs 2 0 [] 1 0 (u5.map I).length),(5,I x3.1)] [⟨0,2,[.agg [.isl false (c_1.Parties.map str),.isl false (c_1.Clauses.map encI_Clause)]]⟩,⟨0,1,u5.map I⟩] 3):=by
   intro u5 hu
   replace h:=hy52 u5 hu
   refine cq 6 [5] [I (w64 (x3.1+1))] 51 ?_
   refine s_lp ?_
   exact rf [1,4,5] [1,2] (ih _ _ h hr hn :)
  have r5:∀r',y5=.inl r'→∀st,Ffcf_Q c_1 r' st→Q st:=fun r' e st hq=>hr r' (hy51 r' e) st hq
  replace h:=hy5
  refine sq h (fun h=>?_) fun h=>?_
  ·refine cq 3 [27,28] [.hs 2 0 [] 1 0 (x3.2.map I).length,I x3.1] 259 ?_
   refine oq 275 (.hs 259 0 [] 1 0 1) rfl (e_buildSlice rfl (bs_mk (f:=I) (xs:=[]) (z:=I (0)) (es:=[I x3.1]) (ws:=[I x3.1]) rfl rfl rfl (by decide) rfl (abs_each_plain rfl) rfl)) ?_
   obtain⟨a6,ha6,h⟩:=bS h
   refine oq 291 (.hs 275 0 [] 1 0 (a6.map I).length) rfl (e_append rfl rfl rfl rfl rfl (ap_hsM (path:=[]) (f:=I) (xs:=x3.2) (ys:=[x3.1]) rfl rfl (take_hs rfl rfl rfl) rfl rfl rfl ra_n rfl (by decide) I_cells ha6 rfl to_n)) ?_
   refine cq 2 [4] [.hs 275 0 [] 1 0 (a6.map I).length] 307 ?_
   exact rf [1,4,5] [1,275] (j5 _ (Option.some.inj h).symm :)
  ·refine aq 1 ?_
   exact rf [1,4,5] [1,2] (j5 _ (Option.some.inj h).symm :)
 ·refine aq 1 ?_
  exact rf [4] [2] (hn _ (Option.some.inj h).symm :) (hk:=hK)
theorem Ffcf_run (c_1:Contract)(r:(List Int)×Bool)(h:Ffcf c_1=some r):RunF Ffcf_E Tryz.f24 [false] 0 (Ffcf_A c_1) (Ffcf_R r):=by
 show Run _ _ (Ffcf_Q c_1 r) [.code Ffcf_c] _
 refine rI 32 [(0,.agg [.isl false (c_1.Parties.map str),.isl false (c_1.Clauses.map encI_Clause)])] [] 1 ?_
 unfold Ffcf at h
 refine ck 8 [1] [] [1] [] [.hp 1 0 [] 2 0 0] [some ⟨0,2,[.agg [.isl false (c_1.Parties.map str),.isl false (c_1.Clauses.map encI_Clause)]]⟩] 49 (by kernel_rfl) ?_
 refine oq 65 (.hs 49 0 [] 1 0 0) rfl (e_buildSlice rfl (bs_mk (f:=I) (xs:=[]) (z:=I (0)) (es:=[]) (ws:=[]) rfl rfl rfl (by decide) rfl (abs_each_plain rfl) rfl)) ?_
 refine cq 6 [4,9] [.hs 49 0 [] 1 0 0,.agg [.isl false (c_1.Parties.map str),.isl false (c_1.Clauses.map encI_Clause)]] 97 ?_
 obtain⟨r2,hr2,h⟩:=bS h
 refine oq 113 (B r2) rfl (cP (Ffcu_F hr2)) ?_
 refine cq 2 [11] [B (!r2)] 129 ?_
 refine sq h (fun h=>?_) fun h=>?_
 ·refine cq 6 [2,3] [.hs 49 0 [] 1 0 0,B false] 177 ?_
  obtain rfl:=Option.some.inj h
  exact s_ret rfl ⟨_,fin (vs:=[.hs 49 0 [] 1 0 0,B false]) rfl (absE (abs1 rfl (abs_hs (k:=0) (es:=[]) rfl rfl)) (absE (absorb_plain rfl) absEN)) rfl (ou_f ou_n),kl_n⟩
 ·refine aq 1 ?_
  refine cq 6 [5] [I (0)] 145 ?_
  obtain⟨y7,hy7,hy71,hy72⟩:=bJ h
  refine s_loop rfl ?_
  refine rf [1,4,5] [1,49] (Ffcf_la_run c_1 rfl (0,[]) _ hy7 (fun r' e st hq=>by rw[hy71 r' e] at hq;exact hq) fun u7 hu=>?_)
  replace h:=hy72 u7 hu
  refine cq 6 [2,3] [.hs 1 0 [] 1 0 (u7.map I).length,B true] 50 ?_
  obtain rfl:=Option.some.inj h
  exact s_ret rfl ⟨_,fin (vs:=[.hs 1 0 [] 1 0 (u7.map I).length,B true]) rfl (absE (abs1 rfl (abs_hs rfl rfl)) (absE (absorb_plain rfl) absEN)) rfl (ou_f ou_n),kl_n⟩
theorem Ffcf_good {G:Go.Ln.Ground}:Good Tryz.prog G 24 Ffcf_ent:=gT 1 0 (gl_c Ffcu_good (gl_c Ffcr_good gl_n)) (Checked.mixed Tryz.checked) Tryz.func24 (fun a r h=>Ffcf_run a r h)
def Ffq_A:(Int×Int×Int)→List V:=cA I (cA I (oA I))
def Ffq_R (r:Bool):V×List V:=(B r,[])
noncomputable def Ffq_ent:Ent:=entT [false,false,false] Ffq_A Ffq_R fun x=>Ffq x.1 x.2.1 x.2.2
theorem Ffq_F {n_1:Int}{low_2:Int}{high_3:Int}{r}(h:Ffq n_1 low_2 high_3=some r):Ffq_ent.F (Ffq_A (n_1,low_2,high_3))=some (Ffq_R r):=entT_F (cA_inj I_inj (cA_inj I_inj (oA_inj I_inj))) h
noncomputable def Ffq_c:Code:=bodyOf Tryz.f84
noncomputable def Ffq_E:Env:=mkE Tryz.prog []
def Ffq_Q (x:Int×Int×Int)(r:Bool):St→Prop:=QF Ffq_E Tryz.f84 [false,false,false] (Ffq_A x) (Ffq_R r)
theorem Ffq_run (n_1:Int)(low_2:Int)(high_3:Int)(r:Bool)(h:Ffq n_1 low_2 high_3=some r):RunF Ffq_E Tryz.f84 [false,false,false] 0 (Ffq_A (n_1,low_2,high_3)) (Ffq_R r):=by
 show Run _ _ (Ffq_Q (n_1,low_2,high_3) r) [.code Ffq_c] _
 refine rI 15 [(0,I n_1),(1,I low_2),(2,I high_3)] [] 1 ?_
 unfold Ffq at h
 refine cq 10 [10] [B (decide (n_1≥low_2))] 81 ?_
 obtain⟨u4,hu4,h⟩:=lJ h
 have j4:Run Ffq_E 0 (Ffq_Q (n_1,low_2,high_3) r) (.code (cR (cR Ffq_c))::[]) (sT 15 [(6,B u4)] [] 1):=by
  obtain rfl:=Option.some.inj h
  exact s_ret rfl (qp [B u4])
 replace h:=hu4
 clear hu4
 refine sp 10 h rfl (fun h=>?_) fun h=>?_
 ·refine cq 6 [6] [B (decide (n_1≤high_3))] 161 ?_
  subst h
  exact rf [6] [] (j4 :)
 ·refine cq 6 [6] [B false] 161 ?_
  subst h
  exact rf [6] [] (j4 :)
theorem Ffq_good {G:Go.Ln.Ground}:Good Tryz.prog G 84 Ffq_ent:=gT 3 0 gl_n (Checked.mixed Tryz.checked) Tryz.func84 (fun a r h=>Ffq_run a.1 a.2.1 a.2.2 r h)
noncomputable def xCountString_ent:Ent:=⟨[false,false],entF2 (decBy str) (decBy (V.int .u8)) fun s c=>some (I ((Lib.countByte s c.toNat.toUInt8:Nat):Int),[])⟩
theorem xCountString_F {s:Str}{c r:Int}(h:xCountString s c=some r):xCountString_ent.F [str s,.int .u8 c]=some (I r,[]):=by
 cases h
 simp only[xCountString_ent,entF2,dec_ok str_inj,dec_ok u8_inj,Option.bind_some]
theorem xCountString_n:Extern.findNext Tryz.f199=none:=by kernel_rfl
theorem xCountString_x:Extern.find Tryz.f199=some Extern.BytealgCount.count:=by kernel_rfl
theorem xCountString_good {G:Go.Ln.Ground}:Good Tryz.prog G 199 xCountString_ent:=good_sc (g:=fun s c=>((Lib.countByte s c.toNat.toUInt8:Nat):Int)) Tryz.func199 rfl (by decide) xCountString_n xCountString_x fun s c w=>Lib.run_countString s c w
noncomputable def xIndexByteString_ent:Ent:=⟨[false,false],entF2 (decBy str) (decBy (V.int .u8)) fun s c=>some (I (Lib.indexByte s c.toNat.toUInt8),[])⟩
theorem xIndexByteString_F {s:Str}{c r:Int}(h:xIndexByteString s c=some r):xIndexByteString_ent.F [str s,.int .u8 c]=some (I r,[]):=by
 cases h
 simp only[xIndexByteString_ent,entF2,dec_ok str_inj,dec_ok u8_inj,Option.bind_some]
theorem xIndexByteString_n:Extern.findNext Tryz.f223=none:=by kernel_rfl
theorem xIndexByteString_x:Extern.find Tryz.f223=some Extern.BytealgIndexByte.indexByte:=by kernel_rfl
theorem xIndexByteString_good {G:Go.Ln.Ground}:Good Tryz.prog G 223 xIndexByteString_ent:=good_sc (g:=fun s c=>Lib.indexByte s c.toNat.toUInt8) Tryz.func223 rfl (by decide) xIndexByteString_n xIndexByteString_x fun s c w=>Lib.run_indexByteString s c w
def Ffs_A:(Str×Int)→List V:=cA str (oA (V.int .u8))
def Ffs_R (r:Int):V×List V:=(I r,[])
noncomputable def Ffs_ent:Ent:=entT [false,false] Ffs_A Ffs_R fun x=>Ffs x.1 x.2
theorem Ffs_F {s_1:Str}{c_2:Int}{r}(h:Ffs s_1 c_2=some r):Ffs_ent.F (Ffs_A (s_1,c_2))=some (Ffs_R r):=entT_F (cA_inj str_inj (oA_inj (vint_inj (k:=.u8)))) h
noncomputable def Ffs_c:Code:=bodyOf Tryz.f212
noncomputable def Ffs_E:Env:=mkE Tryz.prog [(223,xIndexByteString_ent)]
def Ffs_Q (x:Str×Int)(r:Int):St→Prop:=QF Ffs_E Tryz.f212 [false,false] (Ffs_A x) (Ffs_R r)
theorem Ffs_run (s_1:Str)(c_2:Int)(r:Int)(h:Ffs s_1 c_2=some r):RunF Ffs_E Tryz.f212 [false,false] 0 (Ffs_A (s_1,c_2)) (Ffs_R r):=by
 show Run _ _ (Ffs_Q (s_1,c_2) r) [.code Ffs_c] _
 refine rI 8 [(0,str s_1),(1,.int .u8 c_2)] [] 1 ?_
 unfold Ffs at h
 refine cq 8 [5,6] [str s_1,.int .u8 c_2] 49 ?_
 obtain⟨r3,hr3,h⟩:=bS h
 refine oq 65 (I r3) rfl (cP (xIndexByteString_F hr3)) ?_
 refine cq 2 [4] [I r3] 81 ?_
 obtain rfl:=Option.some.inj h
 exact s_ret rfl (qp [I r3])
theorem Ffs_good {G:Go.Ln.Ground}:Good Tryz.prog G 212 Ffs_ent:=gT 2 0 (gl_c xIndexByteString_good gl_n) (Checked.mixed Tryz.checked) Tryz.func212 (fun a r h=>Ffs_run a.1 a.2 r h)
def Ffr_A:(Str×Str)→List V:=cA str (oA str)
def Ffr_R (r:Int):V×List V:=(I r,[])
noncomputable def Ffr_ent:Ent:=entT [false,false] Ffr_A Ffr_R fun x=>Ffr x.1 x.2
theorem Ffr_F {s_1:Str}{substr_2:Str}{r}(h:Ffr s_1 substr_2=some r):Ffr_ent.F (Ffr_A (s_1,substr_2))=some (Ffr_R r):=entT_F (cA_inj str_inj (oA_inj str_inj)) h
noncomputable def Ffr_c:Code:=bodyOf Tryz.f200
noncomputable def Ffr_E:Env:=mkE Tryz.prog [(212,Ffs_ent)]
def Ffr_Q (x:Str×Str)(r:Int):St→Prop:=QF Ffr_E Tryz.f200 [false,false] (Ffr_A x) (Ffr_R r)
theorem Ffr_run (s_1:Str)(substr_2:Str)(r:Int)(h:Ffr s_1 substr_2=some r):RunF Ffr_E Tryz.f200 [false,false] 0 (Ffr_A (s_1,substr_2)) (Ffr_R r):=by
 show Run _ _ (Ffr_Q (s_1,substr_2) r) [.code Ffr_c] _
 refine rI 143 [(0,str s_1),(1,str substr_2)] [] 1 ?_
 unfold Ffr at h
 refine cq 17 [5,19] [I (len substr_2),B ((len substr_2)==0)] 113 ?_
 obtain⟨u3,hu3,h⟩:=lJ h
 have j3:Run Ffr_E 0 (Ffr_Q (s_1,substr_2) r) (.code (cR (cL (cL (cR (cR Ffr_c)))))::.blk 0::.code (cR (cR (cR Ffr_c)))::[]) (sT 143 [(0,str s_1),(1,str substr_2),(5,I (len substr_2)),(16,B u3)] [] 1):=by
  refine sq h (fun h=>?_) fun h=>?_
  ·refine cq 4 [4] [I (0)] 17 ?_
   obtain rfl:=Option.some.inj h
   exact s_ret rfl (qp [I (0)])
  ·refine cq 6 [24] [B ((len substr_2)==1)] 49 ?_
   refine sq h (fun h=>?_) fun h=>?_
   ·refine cq 4 [27,28] [str s_1,str substr_2] 81 ?_
    obtain⟨c4,hc4,h⟩:=bS h
    refine oq 97 (.int .u8 (c4.toNat:Int)) rfl (e_index rfl rfl (i_str rfl rfl hc4)) ?_
    obtain⟨r5,hr5,h⟩:=bS h
    refine oq 113 (I r5) rfl (cP (Ffs_F hr5)) ?_
    refine cq 2 [4] [I r5] 129 ?_
    obtain rfl:=Option.some.inj h
    exact s_ret rfl (qp [I r5])
   ·refine cq 8 [31] [B (decide ((len substr_2)≥(len s_1)))] 129 ?_
    refine sq h (fun h=>?_) fun h=>?_
    ·refine cq 4 [4] [I (-1)] 145 ?_
     obtain rfl:=Option.some.inj h
     exact s_ret rfl (qp [I (-1)])
    ·cases h
 replace h:=hu3
 clear hu3
 refine sp 19 h rfl (fun h=>?_) fun h=>?_
 ·refine cq 6 [16] [B true] 193 ?_
  subst h
  exact rf [0,1,5,16] [] (j3 :)
 ·refine cq 6 [16] [B (substr_2==s_1)] 193 ?_
  subst h
  exact rf [0,1,5,16] [] (j3 :)
theorem Ffr_good {G:Go.Ln.Ground}:Good Tryz.prog G 200 Ffr_ent:=gT 2 0 (gl_c Ffs_good gl_n) (Checked.mixed Tryz.checked) Tryz.func200 (fun a r h=>Ffr_run a.1 a.2 r h)
def Ffcy_A:(Str×Str)→List V:=cA str (oA str)
def Ffcy_R (r:Int):V×List V:=(I r,[])
noncomputable def Ffcy_ent:Ent:=entT [false,false] Ffcy_A Ffcy_R fun x=>Ffcy x.1 x.2
theorem Ffcy_F {s_1:Str}{substr_2:Str}{r}(h:Ffcy s_1 substr_2=some r):Ffcy_ent.F (Ffcy_A (s_1,substr_2))=some (Ffcy_R r):=entT_F (cA_inj str_inj (oA_inj str_inj)) h
noncomputable def Ffcy_c:Code:=bodyOf Tryz.f178
noncomputable def Ffcy_E:Env:=mkE Tryz.prog [(200,Ffr_ent)]
def Ffcy_Q (x:Str×Str)(r:Int):St→Prop:=QF Ffcy_E Tryz.f178 [false,false] (Ffcy_A x) (Ffcy_R r)
theorem Ffcy_run (s_1:Str)(substr_2:Str)(r:Int)(h:Ffcy s_1 substr_2=some r):RunF Ffcy_E Tryz.f178 [false,false] 0 (Ffcy_A (s_1,substr_2)) (Ffcy_R r):=by
 show Run _ _ (Ffcy_Q (s_1,substr_2) r) [.code Ffcy_c] _
 refine rI 8 [(0,str s_1),(1,str substr_2)] [] 1 ?_
 unfold Ffcy at h
 refine cq 8 [5,6] [str s_1,str substr_2] 49 ?_
 obtain⟨r3,hr3,h⟩:=bS h
 refine oq 65 (I r3) rfl (cP (Ffr_F hr3)) ?_
 refine cq 2 [4] [I r3] 81 ?_
 obtain rfl:=Option.some.inj h
 exact s_ret rfl (qp [I r3])
theorem Ffcy_good {G:Go.Ln.Ground}:Good Tryz.prog G 178 Ffcy_ent:=gT 2 0 (gl_c Ffr_good gl_n) (Checked.mixed Tryz.checked) Tryz.func178 (fun a r h=>Ffcy_run a.1 a.2 r h)
def Ffcx_A:(Str×Str)→List V:=cA str (oA str)
def Ffcx_R (r:Int):V×List V:=(I r,[])
noncomputable def Ffcx_ent:Ent:=entT [false,false] Ffcx_A Ffcx_R fun x=>Ffcx x.1 x.2
theorem Ffcx_F {s_1:Str}{substr_2:Str}{r}(h:Ffcx s_1 substr_2=some r):Ffcx_ent.F (Ffcx_A (s_1,substr_2))=some (Ffcx_R r):=entT_F (cA_inj str_inj (oA_inj str_inj)) h
noncomputable def Ffcx_c:Code:=bodyOf Tryz.f177
noncomputable def Ffcx_E:Env:=mkE Tryz.prog [(199,xCountString_ent),(178,Ffcy_ent)]
def Ffcx_Q (x:Str×Str)(r:Int):St→Prop:=QF Ffcx_E Tryz.f177 [false,false] (Ffcx_A x) (Ffcx_R r)
theorem Ffcx_la_run (s_1:Str)(substr_2:Str){Q:St→Prop}{K:List It}(hK:noD K=true):∀(x5:Str×Int) (y:Int⊕Unit),Ffcx_la s_1 substr_2 x5=some y→(∀r',y=.inl r'→∀st,Ffcx_Q (s_1,substr_2) r' st→Q st)→(∀u:Unit,y=.inr u→Run Ffcx_E 0 Q K (sT 34 [] [] 1))→Run Ffcx_E 0 Q (.code (cL (cL (cR (cR (cR (cR Ffcx_c))))))::.lp (cL (cL (cR (cR (cR (cR Ffcx_c))))))::.blk 0::K) (sT 34 [(0,str x5.1),(1,str substr_2),(5,I x5.2)] [] 1):=by
 refine fix_indP (Ffcx_la_fin s_1 substr_2) ?_
 intro self ih x5 y h hr hn
 unfold Ffcx_la_F at h
 refine cq 5 [20,21] [str x5.1,str substr_2] 33 ?_
 obtain⟨r6,hr6,h⟩:=bS h
 refine oq 49 (I r6) rfl (cP (Ffcy_F hr6)) ?_
 refine cq 8 [6,24] [I r6,B (r6==(-1))] 97 ?_
 refine sq h (fun h=>?_) fun h=>?_
 ·refine cq 5 [4] [I x5.2] 129 ?_
  exact s_ret rfl (hr _ (Option.some.inj h).symm _ (qp [I x5.2]))
 ·refine aq 1 ?_
  refine cq 12 [5,28,32] [I (w64 (x5.2+1)),str x5.1,I (w64 (r6+(len substr_2)))] 225 ?_
  obtain⟨s7,hs7,h⟩:=bS h
  refine oq 241 (str s7) rfl (e_slice rfl rfl rfl rfl (sl_str rfl rfl rfl hs7)) ?_
  refine cq 3 [0] [str s7] 257 ?_
  refine s_lp ?_
  exact rf [0,1,5] [] (ih _ _ h hr hn :)
theorem Ffcx_run (s_1:Str)(substr_2:Str)(r:Int)(h:Ffcx s_1 substr_2=some r):RunF Ffcx_E Tryz.f177 [false,false] 0 (Ffcx_A (s_1,substr_2)) (Ffcx_R r):=by
 show Run _ _ (Ffcx_Q (s_1,substr_2) r) [.code Ffcx_c] _
 refine rI 34 [(0,str s_1),(1,str substr_2)] [] 1 ?_
 unfold Ffcx at h
 refine cq 11 [9] [B ((len substr_2)==0)] 65 ?_
 refine sq h (fun h=>?_) fun h=>?_
 ·cases h
 ·refine aq 1 ?_
  refine cq 7 [15] [B ((len substr_2)==1)] 113 ?_
  refine sq h (fun h=>?_) fun h=>?_
  ·refine cq 4 [16,17] [str s_1,str substr_2] 145 ?_
   obtain⟨c3,hc3,h⟩:=bS h
   refine oq 161 (.int .u8 (c3.toNat:Int)) rfl (e_index rfl rfl (i_str rfl rfl hc3)) ?_
   obtain⟨r4,hr4,h⟩:=bS h
   refine oq 177 (I r4) rfl (cP (xCountString_F hr4)) ?_
   refine cq 2 [4] [I r4] 193 ?_
   obtain rfl:=Option.some.inj h
   exact s_ret rfl (qp [I r4])
  ·refine aq 1 ?_
   refine cq 5 [5] [I (0)] 129 ?_
   obtain⟨y8,hy8,hy81,hy82⟩:=bJ h
   refine s_loop rfl ?_
   refine rf [0,1,5] [] (Ffcx_la_run s_1 substr_2 rfl (s_1,0) _ hy8 (fun r' e st hq=>by rw[hy81 r' e] at hq;exact hq) fun u8 hu=>?_)
   replace h:=hy82 u8 hu
   cases h
theorem Ffcx_good {G:Go.Ln.Ground}:Good Tryz.prog G 177 Ffcx_ent:=gT 2 0 (gl_c xCountString_good (gl_c Ffcy_good gl_n)) (Checked.mixed Tryz.checked) Tryz.func177 (fun a r h=>Ffcx_run a.1 a.2 r h)
def Ffda_A:(Str×Str×Int×Int)→List V:=cA str (cA str (cA I (oA I)))
def Ffda_R (r:(List Str)):V×List V:=(.usl 1 (r.map str),[])
noncomputable def Ffda_ent:Ent:=entT [false,false,false,false] Ffda_A Ffda_R fun x=>Ffda x.1 x.2.1 x.2.2.1 x.2.2.2
theorem Ffda_F {s_1:Str}{sep_2:Str}{sepSave_3:Int}{n_4:Int}{r}(h:Ffda s_1 sep_2 sepSave_3 n_4=some r):Ffda_ent.F (Ffda_A (s_1,sep_2,sepSave_3,n_4))=some (Ffda_R r):=entT_F (cA_inj str_inj (cA_inj str_inj (cA_inj I_inj (oA_inj I_inj)))) h
noncomputable def Ffda_c:Code:=bodyOf Tryz.f167
noncomputable abbrev Ffda_ka:Code:=cL (cL (cL (cR (cR (cR (cR (cR (cR (cR (cR Ffda_c))))))))))
noncomputable def Ffda_E:Env:=mkE Tryz.prog [(178,Ffcy_ent),(177,Ffcx_ent)]
def Ffda_Q (x:Str×Str×Int×Int)(r:(List Str)):St→Prop:=QF Ffda_E Tryz.f167 [false,false,false,false] (Ffda_A x) (Ffda_R r)
theorem Ffda_la_run (s_1:Str)(sep_2:Str)(sepSave_3:Int)(n_4:Int)(u5:Int){Q:St→Prop}{K:List It}(hK:noD K=true):∀(x7:Str×Int×(List Str)) (y:(List Str)⊕(Str×Int×(List Str))),Ffda_la s_1 sep_2 sepSave_3 n_4 u5 x7=some y→(∀r',y=.inl r'→∀st,Ffda_Q (s_1,sep_2,sepSave_3,n_4) r' st→Q st)→(∀u:Str×Int×(List Str),y=.inr u→Run Ffda_E 0 Q K (sT 66 [(0,str u.1),(9,.hs 1 0 [] 1 0 (u.2.2.map str).length),(10,I u.2.1)] [⟨0,1,u.2.2.map str⟩] 2))→Run Ffda_E 0 Q (.code Ffda_ka::.lp Ffda_ka::.blk 0::K) (sT 66 [(0,str x7.1),(1,str sep_2),(2,I sepSave_3),(3,I (w64 ((if (w64 ((len s_1)+1))<u5 then (w64 ((len s_1)+1)) else u5) - 1))),(9,.hs 1 0 [] 1 0 (x7.2.2.map str).length),(10,I x7.2.1)] [⟨0,1,x7.2.2.map str⟩] 2):=by
 refine fix_indP (Ffda_la_fin s_1 sep_2 sepSave_3 n_4 u5) ?_
 intro self ih x7 y h hr hn
 unfold Ffda_la_F at h
 refine cq 7 [36] [B (decide (x7.2.1<(w64 ((if (w64 ((len s_1)+1))<u5 then (w64 ((len s_1)+1)) else u5) - 1))))] 50 ?_
 refine sq h (fun h=>?_) fun h=>?_
 ·refine aq 1 ?_
  refine cq 5 [37,38] [str x7.1,str sep_2] 82 ?_
  obtain⟨r8,hr8,h⟩:=bS h
  refine oq 98 (I r8) rfl (cP (Ffcy_F hr8)) ?_
  refine cq 8 [11,41] [I r8,B (decide (r8<0))] 146 ?_
  refine sq h (fun h=>?_) fun h=>?_
  ·refine aq 1 ?_
   exact rf [0,9,10] [1] (hn _ (Option.some.inj h).symm :) (hk:=hK)
  ·refine aq 1 ?_
   refine cq 8 [42,43,44,47] [.hs 1 0 [] 1 0 (x7.2.2.map str).length,I x7.2.1,str x7.1,I (w64 (r8+sepSave_3))] 242 ?_
   obtain⟨s9,hs9,h⟩:=bS h
   refine oq 258 (str s9) rfl (e_slice rfl rfl rfl rfl (sl_str rfl rfl rfl hs9)) ?_
   obtain⟨e10,he10,h⟩:=bS h
   refine oq 274 (.hp 1 0 [] 1 (0+Int.toNat x7.2.1) 0) rfl (e_indexAddr rfl rfl rfl (ix_hsM (f:=str) (xs:=x7.2.2) rfl rfl rfl he10)) ?_
   refine o0 290 rfl rfl (e_st rfl rfl (st_at (path:=[]) (pl:=true) (e':=str s9) (es2':=(setI x7.2.2 x7.2.1 s9).map str) rfl (absorb_plain rfl) rfl rfl rfl ra_n (get_map (f:=str) (xs:=x7.2.2) he10) rfl rfl rfl (set_map (f:=str) (xs:=x7.2.2) (y:=s9)) sr_n 0 rfl)) ?_
   try rw[←len_setM (f:=str) (xs:=x7.2.2) (i:=x7.2.1) (z:=s9)]
   refine cq 8 [50,54] [str x7.1,I (w64 (r8+(len sep_2)))] 370 ?_
   obtain⟨s11,hs11,h⟩:=bS h
   refine oq 386 (str s11) rfl (e_slice rfl rfl rfl rfl (sl_str rfl rfl rfl hs11)) ?_
   refine cq 8 [0,10] [str s11,I (w64 (x7.2.1+1))] 450 ?_
   refine s_lp ?_
   exact rf [0,1,2,3,9,10] [1] (ih _ _ h hr hn :)
 ·refine aq 1 ?_
  exact rf [0,9,10] [1] (hn _ (Option.some.inj h).symm :) (hk:=hK)
theorem Ffda_run (s_1:Str)(sep_2:Str)(sepSave_3:Int)(n_4:Int)(r:(List Str))(h:Ffda s_1 sep_2 sepSave_3 n_4=some r):RunF Ffda_E Tryz.f167 [false,false,false,false] 0 (Ffda_A (s_1,sep_2,sepSave_3,n_4)) (Ffda_R r):=by
 show Run _ _ (Ffda_Q (s_1,sep_2,sepSave_3,n_4) r) [.code Ffda_c] _
 refine rI 66 [(0,str s_1),(1,str sep_2),(2,I sepSave_3),(3,I n_4)] [] 1 ?_
 unfold Ffda at h
 refine cq 10 [13] [B (n_4==0)] 49 ?_
 refine sq h (fun h=>?_) fun h=>?_
 ·refine cq 4 [8] [.isl true []] 65 ?_
  refine run_own 8 0 1 81 (.hs 65 0 [] 1 0 0) rfl rfl rfl rfl rfl ?_
  obtain rfl:=Option.some.inj h
  exact s_ret rfl ⟨_,fin (vs:=[.hs 65 0 [] 1 0 0]) rfl (absE (abs1 rfl (abs_hs (k:=0) (es:=[]) rfl rfl)) absEN) rfl (ou_f (ou_f (ou_f (ou_f ou_n)))),kl_n⟩
 ·refine aq 1 ?_
  refine cq 6 [15] [B (sep_2==([]:Str))] 81 ?_
  refine sq h (fun h=>?_) fun h=>?_
  ·cases h
  ·refine aq 1 ?_
   refine cq 6 [20] [B (decide (n_4<0))] 113 ?_
   obtain⟨y5,hy5,hy51,hy52⟩:=bJ h
   have j5:∀u5,y5=.inr u5→Run Ffda_E 0 (Ffda_Q (s_1,sep_2,sepSave_3,n_4) r) (.code (cR (cR (cR (cR Ffda_c))))::[]) (sT 66 [(0,str s_1),(1,str sep_2),(2,I sepSave_3),(3,I u5)] [] 1):=by
    intro u5 hu
    replace h:=hy52 u5 hu
    refine cq 12 [3,30] [I (if (w64 ((len s_1)+1))<u5 then (w64 ((len s_1)+1)) else u5),I (if (w64 ((len s_1)+1))<u5 then (w64 ((len s_1)+1)) else u5)] 113 ?_
    obtain⟨m6,hm6,h⟩:=bS h
    refine oq 129 (.hs 113 0 [] 1 0 (m6.map str).length) rfl (e_makeSlice rfl rfl (ms_mkM (f:=str) rfl rfl rfl (by decide) hm6 rfl)) ?_
    refine cq 14 [3,9,10] [I (w64 ((if (w64 ((len s_1)+1))<u5 then (w64 ((len s_1)+1)) else u5) - 1)),.hs 113 0 [] 1 0 (m6.map str).length,I (0)] 209 ?_
    obtain⟨y12,hy12,hy121,hy122⟩:=bJ h
    refine s_loop rfl ?_
    refine rf [0,1,2,3,9,10] [113] (Ffda_la_run s_1 sep_2 sepSave_3 n_4 u5 rfl (s_1,0,m6) _ hy12 (fun r' e st hq=>by rw[hy121 r' e] at hq;exact hq) fun u12 hu=>?_)
    replace h:=hy122 u12 hu
    refine cq 5 [58,59,60] [.hs 1 0 [] 1 0 (u12.2.2.map str).length,I u12.2.1,str u12.1] 50 ?_
    obtain⟨e13,he13,h⟩:=bS h
    refine oq 66 (.hp 1 0 [] 1 (0+Int.toNat u12.2.1) 0) rfl (e_indexAddr rfl rfl rfl (ix_hsM (f:=str) (xs:=u12.2.2) rfl rfl rfl he13)) ?_
    refine o0 82 rfl rfl (e_st rfl rfl (st_at (path:=[]) (pl:=true) (e':=str u12.1) (es2':=(setI u12.2.2 u12.2.1 u12.1).map str) rfl (absorb_plain rfl) rfl rfl rfl ra_n (get_map (f:=str) (xs:=u12.2.2) he13) rfl rfl rfl (set_map (f:=str) (xs:=u12.2.2) (y:=u12.1)) sr_n 0 rfl)) ?_
    try rw[←len_setM (f:=str) (xs:=u12.2.2) (i:=u12.2.1) (z:=u12.1)]
    refine cq 6 [62,64] [.hs 1 0 [] 1 0 ((setI u12.2.2 u12.2.1 u12.1).map str).length,I (w64 (u12.2.1+1))] 130 ?_
    obtain⟨s14,hs14,h⟩:=bS h
    refine oq 146 (.hs 1 0 [] 1 (0+Int.toNat (0)) (Int.toNat (w64 (u12.2.1+1)) - Int.toNat (0))) rfl (e_slice rfl rfl rfl rfl (sl_hsM (f:=str) (xs:=(setI u12.2.2 u12.2.1 u12.1)) rfl rfl rfl rfl rfl hs14)) ?_
    refine cq 2 [8] [.hs 1 0 [] 1 (0+Int.toNat (0)) (Int.toNat (w64 (u12.2.1+1)) - Int.toNat (0))] 162 ?_
    obtain⟨p15,hp15,h⟩:=bS h
    obtain rfl:=Option.some.inj h
    exact s_ret rfl ⟨_,fin (vs:=[.hs 1 0 [] 1 (0+Int.toNat (0)) (Int.toNat (w64 (u12.2.1+1)) - Int.toNat (0))]) rfl (absE (abs1 rfl (abs_pt (path:=[]) (f:=str) (xs:=(setI u12.2.2 u12.2.1 u12.1)) rfl rfl ra_n hp15 rfl to_n)) absEN) rfl (ou_f (ou_f (ou_f (ou_f ou_n)))),kl_n⟩
   have r5:∀r',y5=.inl r'→∀st,Ffda_Q (s_1,sep_2,sepSave_3,n_4) r' st→(Ffda_Q (s_1,sep_2,sepSave_3,n_4) r) st:=fun r' e st hq=>by rw[hy51 r' e] at hq;exact hq
   replace h:=hy5
   refine sq h (fun h=>?_) fun h=>?_
   ·refine cq 3 [21,22] [str s_1,str sep_2] 145 ?_
    obtain⟨r16,hr16,h⟩:=bS h
    refine oq 161 (I r16) rfl (cP (Ffcx_F hr16)) ?_
    refine cq 3 [3] [I (w64 (r16+1))] 193 ?_
    exact rf [0,1,2,3] [] (j5 _ (Option.some.inj h).symm :)
   ·refine aq 1 ?_
    exact rf [0,1,2,3] [] (j5 _ (Option.some.inj h).symm :)
theorem Ffda_good {G:Go.Ln.Ground}:Good Tryz.prog G 167 Ffda_ent:=gT 4 0 (gl_c Ffcy_good (gl_c Ffcx_good gl_n)) (Checked.mixed Tryz.checked) Tryz.func167 (fun a r h=>Ffda_run a.1 a.2.1 a.2.2.1 a.2.2.2 r h)
def Ffcz_A:(Str×Str)→List V:=cA str (oA str)
def Ffcz_R (r:(List Str)):V×List V:=(.usl 1 (r.map str),[])
noncomputable def Ffcz_ent:Ent:=entT [false,false] Ffcz_A Ffcz_R fun x=>Ffcz x.1 x.2
theorem Ffcz_F {s_1:Str}{sep_2:Str}{r}(h:Ffcz s_1 sep_2=some r):Ffcz_ent.F (Ffcz_A (s_1,sep_2))=some (Ffcz_R r):=entT_F (cA_inj str_inj (oA_inj str_inj)) h
noncomputable def Ffcz_c:Code:=bodyOf Tryz.f148
noncomputable def Ffcz_E:Env:=mkE Tryz.prog [(167,Ffda_ent)]
def Ffcz_Q (x:Str×Str)(r:(List Str)):St→Prop:=QF Ffcz_E Tryz.f148 [false,false] (Ffcz_A x) (Ffcz_R r)
theorem Ffcz_run (s_1:Str)(sep_2:Str)(r:(List Str))(h:Ffcz s_1 sep_2=some r):RunF Ffcz_E Tryz.f148 [false,false] 0 (Ffcz_A (s_1,sep_2)) (Ffcz_R r):=by
 show Run _ _ (Ffcz_Q (s_1,sep_2) r) [.code Ffcz_c] _
 refine rI 8 [(0,str s_1),(1,str sep_2)] [] 1 ?_
 unfold Ffcz at h
 refine cq 8 [5,6] [str s_1,str sep_2] 49 ?_
 obtain⟨r3,hr3,h⟩:=bS h
 refine oq 65 (.hs 49 0 [] 1 0 (r3.map str).length) rfl (cP (Ffda_F hr3)) ?_
 refine cq 2 [4] [.hs 49 0 [] 1 0 (r3.map str).length] 81 ?_
 obtain rfl:=Option.some.inj h
 exact s_ret rfl ⟨_,fin (vs:=[.hs 49 0 [] 1 0 (r3.map str).length]) rfl (absE (abs1 rfl (abs_hs rfl rfl)) absEN) rfl (ou_f (ou_f ou_n)),kl_n⟩
theorem Ffcz_good {G:Go.Ln.Ground}:Good Tryz.prog G 148 Ffcz_ent:=gT 2 0 (gl_c Ffda_good gl_n) (Checked.mixed Tryz.checked) Tryz.func148 (fun a r h=>Ffcz_run a.1 a.2 r h)
def Ffce_A:((List Str)×Str)→List V:=cA (slE str) (oA str)
def Ffce_R (r:Int):V×List V:=(I r,[])
noncomputable def Ffce_ent:Ent:=entT [false,false] Ffce_A Ffce_R fun x=>Ffce x.1 x.2
theorem Ffce_F {s_1:List Str}{v_2:Str}{r}(h:Ffce s_1 v_2=some r):Ffce_ent.F (Ffce_A (s_1,v_2))=some (Ffce_R r):=entT_F (cA_inj (isl_inj str_inj) (oA_inj str_inj)) h
noncomputable def Ffce_c:Code:=bodyOf Tryz.f149
noncomputable def Ffce_E:Env:=mkE Tryz.prog []
def Ffce_Q (x:(List Str)×Str)(r:Int):St→Prop:=QF Ffce_E Tryz.f149 [false,false] (Ffce_A x) (Ffce_R r)
theorem Ffce_la_run (s_1:List Str)(v_2:Str){Q:St→Prop}{K:List It}(hK:noD K=true):∀(x3:Int) (y:Int⊕Unit),Ffce_la s_1 v_2 x3=some y→(∀r',y=.inl r'→∀st,Ffce_Q (s_1,v_2) r' st→Q st)→(∀u:Unit,y=.inr u→Run Ffce_E 0 Q K (sT 19 [] [] 1))→Run Ffce_E 0 Q (.code (cL (cL (cR (cL (cR Ffce_c)))))::.lp (cL (cL (cR (cL (cR Ffce_c)))))::.blk 0::K) (sT 19 [(0,.isl false (s_1.map str)),(1,str v_2),(7,I (len s_1)),(8,I x3)] [] 1):=by
 refine fix_indP (Ffce_la_fin s_1 v_2) ?_
 intro self ih x3 y h hr hn
 unfold Ffce_la_F at h
 refine cq 5 [9] [B (decide (x3<(len s_1)))] 17 ?_
 refine sq h (fun h=>?_) fun h=>?_
 ·refine aq 1 ?_
  refine cq 12 [5,11,12,13] [I x3,str v_2,.isl false (s_1.map str),I x3] 97 ?_
  obtain⟨e4,he4,h⟩:=bS h
  refine oq 113 (.iptr (str e4) 0) rfl (e_indexAddr rfl rfl rfl (ix_islE rfl rfl rfl rfl he4)) ?_
  refine cq 3 [16] [B (v_2==e4)] 145 ?_
  refine sq h (fun h=>?_) fun h=>?_
  ·refine cq 5 [4] [I x3] 177 ?_
   exact s_ret rfl (hr _ (Option.some.inj h).symm _ (qp [I x3]))
  ·refine aq 1 ?_
   refine cq 5 [8] [I (w64 (x3+1))] 177 ?_
   refine s_lp ?_
   exact rf [0,1,7,8] [] (ih _ _ h hr hn :)
 ·refine aq 1 ?_
  exact rf [] [] (hn _ (Option.some.inj h).symm :) (hk:=hK)
theorem Ffce_run (s_1:List Str)(v_2:Str)(r:Int)(h:Ffce s_1 v_2=some r):RunF Ffce_E Tryz.f149 [false,false] 0 (Ffce_A (s_1,v_2)) (Ffce_R r):=by
 show Run _ _ (Ffce_Q (s_1,v_2) r) [.code Ffce_c] _
 refine rI 19 [(0,.isl false (s_1.map str)),(1,str v_2)] [] 1 ?_
 unfold Ffce at h
 refine cq 8 [6] [.isl false (s_1.map str)] 33 ?_
 refine oq 49 (I (len s_1)) rfl (e_len rfl rfl rfl (l_isl rfl)) ?_
 refine cq 3 [8] [I (0)] 65 ?_
 obtain⟨y5,hy5,hy51,hy52⟩:=bJ h
 refine s_loop rfl ?_
 refine rf [0,1,7,8] [] (Ffce_la_run s_1 v_2 rfl 0 _ hy5 (fun r' e st hq=>by rw[hy51 r' e] at hq;exact hq) fun u5 hu=>?_)
 replace h:=hy52 u5 hu
 refine cq 4 [4] [I (-1)] 17 ?_
 obtain rfl:=Option.some.inj h
 exact s_ret rfl (qp [I (-1)])
theorem Ffce_good {G:Go.Ln.Ground}:Good Tryz.prog G 149 Ffce_ent:=gT 2 0 gl_n (Checked.mixed Tryz.checked) Tryz.func149 (fun a r h=>Ffce_run a.1 a.2 r h)
def Ffcb_A:((List Str)×Str)→List V:=cA (slE str) (oA str)
def Ffcb_R (r:Bool):V×List V:=(B r,[])
noncomputable def Ffcb_ent:Ent:=entT [false,false] Ffcb_A Ffcb_R fun x=>Ffcb x.1 x.2
theorem Ffcb_F {s_1:List Str}{v_2:Str}{r}(h:Ffcb s_1 v_2=some r):Ffcb_ent.F (Ffcb_A (s_1,v_2))=some (Ffcb_R r):=entT_F (cA_inj (isl_inj str_inj) (oA_inj str_inj)) h
noncomputable def Ffcb_c:Code:=bodyOf Tryz.f121
noncomputable def Ffcb_E:Env:=mkE Tryz.prog [(149,Ffce_ent)]
def Ffcb_Q (x:(List Str)×Str)(r:Bool):St→Prop:=QF Ffcb_E Tryz.f121 [false,false] (Ffcb_A x) (Ffcb_R r)
theorem Ffcb_run (s_1:List Str)(v_2:Str)(r:Bool)(h:Ffcb s_1 v_2=some r):RunF Ffcb_E Tryz.f121 [false,false] 0 (Ffcb_A (s_1,v_2)) (Ffcb_R r):=by
 show Run _ _ (Ffcb_Q (s_1,v_2) r) [.code Ffcb_c] _
 refine rI 9 [(0,.isl false (s_1.map str)),(1,str v_2)] [] 1 ?_
 unfold Ffcb at h
 refine cq 8 [5,6] [.isl false (s_1.map str),str v_2] 49 ?_
 obtain⟨r3,hr3,h⟩:=bS h
 refine oq 65 (I r3) rfl (cP (Ffce_F hr3)) ?_
 refine cq 3 [4] [B (decide (r3≥0))] 97 ?_
 obtain rfl:=Option.some.inj h
 exact s_ret rfl (qp [B (decide (r3≥0))])
theorem Ffcb_good {G:Go.Ln.Ground}:Good Tryz.prog G 121 Ffcb_ent:=gT 2 0 (gl_c Ffce_good gl_n) (Checked.mixed Tryz.checked) Tryz.func121 (fun a r h=>Ffcb_run a.1 a.2 r h)
def Ffe_A:Str→List V:=oA str
def Ffe_R (r:Bool):V×List V:=(B r,[])
noncomputable def Ffe_ent:Ent:=entT [false] Ffe_A Ffe_R fun x=>Ffe x
theorem Ffe_F {s_1:Str}{r}(h:Ffe s_1=some r):Ffe_ent.F (Ffe_A s_1)=some (Ffe_R r):=entT_F (oA_inj str_inj) h
noncomputable def Ffe_c:Code:=bodyOf Tryz.f120
noncomputable abbrev Ffe_ka:Code:=cL (cL (cR (cL (cR (cR Ffe_c)))))
noncomputable abbrev Ffe_kb:Code:=cR (cR (cR Ffe_ka))
noncomputable abbrev Ffe_kc:Code:=cR (cR (cR (cL (cL (cR (cR Ffe_ka))))))
noncomputable def Ffe_E:Env:=mkE Tryz.prog [(84,Ffq_ent),(148,Ffcz_ent),(121,Ffcb_ent)]
def Ffe_Q (x:Str)(r:Bool):St→Prop:=QF Ffe_E Tryz.f120 [false] (Ffe_A x) (Ffe_R r)
theorem Ffe_la_run (s_1:Str){Q:St→Prop}{K:List It}(hK:noD K=true):∀(x4:Int) (y:Bool⊕Unit),Ffe_la s_1 x4=some y→(∀r',y=.inl r'→∀st,Ffe_Q s_1 r' st→Q st)→(∀u:Unit,y=.inr u→Run Ffe_E 0 Q K (sT 46 [(0,str s_1)] [] 1))→Run Ffe_E 0 Q (.code Ffe_ka::.lp Ffe_ka::.blk 0::K) (sT 46 [(0,str s_1),(20,I (len s_1)),(21,I x4)] [] 1):=by
 refine fix_indP (Ffe_la_fin s_1) ?_
 intro self ih x4 y h hr hn
 unfold Ffe_la_F at h
 refine cq 5 [22] [B (decide (x4<(len s_1)))] 17 ?_
 refine sq h (fun h=>?_) fun h=>?_
 ·refine aq 1 ?_
  refine cq 11 [24,25] [str s_1,I x4] 81 ?_
  obtain⟨c5,hc5,h⟩:=bS h
  refine oq 97 (.int .u8 (c5.toNat:Int)) rfl (e_index rfl rfl (i_str rfl rfl hc5)) ?_
  refine cq 7 [4,29] [.int .u8 (c5.toNat:Int),B (decide ((c5.toNat:Int)<97))] 161 ?_
  obtain⟨u6,hu6,h⟩:=lJ h
  have j6:Run Ffe_E 0 Q (.code Ffe_kc::.blk 1::.code Ffe_kb::.lp Ffe_ka::.blk 0::K) (sT 46 [(0,str s_1),(20,I (len s_1)),(21,I x4),(40,B u6)] [] 1):=by
   refine sq h (fun h=>?_) fun h=>?_
   ·refine cq 4 [2] [B false] 17 ?_
    exact s_ret rfl (hr _ (Option.some.inj h).symm _ (qp [B false]))
   ·refine aq 1 ?_
    refine cq 5 [21] [I (w64 (x4+1))] 33 ?_
    refine s_lp ?_
    exact rf [0,20,21] [] (ih _ _ h hr hn :)
  replace h:=hu6
  clear hu6
  refine sp 29 h rfl (fun h=>?_) fun h=>?_
  ·refine cq 7 [33,36] [B true,B (decide ((c5.toNat:Int)<48))] 273 ?_
   obtain⟨u7,hu7,h⟩:=lJ h
   have j7:Run Ffe_E 0 Q (.code Ffe_kc::.blk 1::.code Ffe_kb::.lp Ffe_ka::.blk 0::K) (sT 46 [(0,str s_1),(20,I (len s_1)),(21,I x4),(40,B u7)] [] 1):=by
    subst h
    exact rf [0,20,21,40] [] (j6 :)
   replace h:=hu7
   clear hu7
   refine sp 36 h rfl (fun h=>?_) fun h=>?_
   ·refine cq 5 [40] [B true] 337 ?_
    subst h
    exact rf [0,20,21,40] [] (j7 :)
   ·refine cq 5 [40] [B (decide ((c5.toNat:Int)>57))] 337 ?_
    subst h
    exact rf [0,20,21,40] [] (j7 :)
  ·refine cq 4 [33] [B (decide ((c5.toNat:Int)>122))] 225 ?_
   obtain⟨u8,hu8,h⟩:=lJ h
   have j8:Run Ffe_E 0 Q (.code Ffe_kc::.blk 1::.code Ffe_kb::.lp Ffe_ka::.blk 0::K) (sT 46 [(0,str s_1),(20,I (len s_1)),(21,I x4),(40,B u8)] [] 1):=by
    subst h
    exact rf [0,20,21,40] [] (j6 :)
   replace h:=hu8
   clear hu8
   refine sp 33 h rfl (fun h=>?_) fun h=>?_
   ·refine cq 3 [36] [B (decide ((c5.toNat:Int)<48))] 273 ?_
    obtain⟨u9,hu9,h⟩:=lJ h
    have j9:Run Ffe_E 0 Q (.code Ffe_kc::.blk 1::.code Ffe_kb::.lp Ffe_ka::.blk 0::K) (sT 46 [(0,str s_1),(20,I (len s_1)),(21,I x4),(40,B u9)] [] 1):=by
     subst h
     exact rf [0,20,21,40] [] (j8 :)
    replace h:=hu9
    clear hu9
    refine sp 36 h rfl (fun h=>?_) fun h=>?_
    ·refine cq 5 [40] [B true] 337 ?_
     subst h
     exact rf [0,20,21,40] [] (j9 :)
    ·refine cq 5 [40] [B (decide ((c5.toNat:Int)>57))] 337 ?_
     subst h
     exact rf [0,20,21,40] [] (j9 :)
   ·refine cq 8 [40] [B false] 337 ?_
    subst h
    exact rf [0,20,21,40] [] (j8 :)
 ·refine aq 1 ?_
  exact rf [0] [] (hn _ (Option.some.inj h).symm :) (hk:=hK)
theorem Ffe_run (s_1:Str)(r:Bool)(h:Ffe s_1=some r):RunF Ffe_E Tryz.f120 [false] 0 (Ffe_A s_1) (Ffe_R r):=by
 show Run _ _ (Ffe_Q s_1 r) [.code Ffe_c] _
 refine rI 46 [(0,str s_1)] [] 1 ?_
 unfold Ffe at h
 refine cq 9 [6] [I (len s_1)] 49 ?_
 obtain⟨r2,hr2,h⟩:=bS h
 refine oq 65 (B r2) rfl (cP (Ffq_F hr2)) ?_
 refine cq 2 [9] [B (!r2)] 97 ?_
 obtain⟨y3,hy3,hy31,hy32⟩:=bJ h
 have j3:∀u3,y3=.inr u3→Run Ffe_E 0 (Ffe_Q s_1 r) (.code (cR (cL (cR Ffe_c)))::.code (cR (cR Ffe_c))::[]) (sT 46 [(0,str s_1),(18,B u3)] [] 1):=by
  intro u3 hu
  replace h:=hy32 u3 hu
  refine sq h (fun h=>?_) fun h=>?_
  ·refine cq 4 [2] [B false] 17 ?_
   obtain rfl:=Option.some.inj h
   exact s_ret rfl (qp [B false])
  ·refine aq 1 ?_
   refine cq 8 [20,21] [I (len s_1),I (0)] 49 ?_
   obtain⟨y10,hy10,hy101,hy102⟩:=bJ h
   refine s_loop rfl ?_
   refine rf [0,20,21] [] (Ffe_la_run s_1 rfl 0 _ hy10 (fun r' e st hq=>by rw[hy101 r' e] at hq;exact hq) fun u10 hu=>?_)
   replace h:=hy102 u10 hu
   refine aq 2 ?_
   obtain⟨r11,hr11,h⟩:=bS h
   refine oq 17 (.hs 1 0 [] 1 0 (r11.map str).length) rfl (cP (Ffcz_F hr11)) ?_
   refine cq 1 [43] [str s_1] 33 ?_
   obtain⟨r12,hr12,h⟩:=bS h
   refine oq 49 (B r12) rfl (e_callV rfl rfl (call_P rfl rfl rfl (avS (sh1 rfl rfl (sh_hsM (f:=str) (g:=str) (xs:=r11) rfl rfl (imms_of str_imm))) (avS (shP rfl) avN)) (Ffcb_F hr12) (.inl rfl) bl_n rfl rfl rfl)) ?_
   refine cq 3 [2] [B (!r12)] 81 ?_
   obtain rfl:=Option.some.inj h
   exact s_ret rfl (qp [B (!r12)])
 have r3:∀r',y3=.inl r'→∀st,Ffe_Q s_1 r' st→(Ffe_Q s_1 r) st:=fun r' e st hq=>by rw[hy31 r' e] at hq;exact hq
 replace h:=hy3
 refine sp 9 h rfl (fun h=>?_) fun h=>?_
 ·refine cq 10 [18] [B true] 241 ?_
  exact rf [0,18] [] (j3 _ (Option.some.inj h).symm :)
 ·refine cq 1 [10] [str s_1] 113 ?_
  obtain⟨c13,hc13,h⟩:=bS h
  refine oy 129 (.int .u8 (c13.toNat:Int)) rfl (e_index rfl rfl (i_str rfl rfl hc13)) ?_
  refine cq 3 [14] [B (decide ((c13.toNat:Int)<97))] 177 ?_
  obtain⟨y14,hy14,hy141,hy142⟩:=bL h
  have j14:∀u14,y14=.inr u14→Run Ffe_E 0 (Ffe_Q s_1 r) (.code (cR (cL (cR Ffe_c)))::.code (cR (cR Ffe_c))::[]) (sT 46 [(0,str s_1),(18,B u14)] [] 1):=by
   intro u14 hu
   replace h:=hy142 u14 hu
   exact rf [0,18] [] (j3 _ (Option.some.inj h).symm :)
  have r14:∀r',y14=.inl r'→∀st,Ffe_Q s_1 r' st→(Ffe_Q s_1 r) st:=fun r' e st hq=>r3 r' (hy141 r' e) st hq
  replace h:=hy14
  refine sp 14 h rfl (fun h=>?_) fun h=>?_
  ·refine cq 5 [18] [B true] 241 ?_
   exact rf [0,18] [] (j14 _ (Option.some.inj h).symm :)
  ·refine cq 1 [15] [str s_1] 193 ?_
   obtain⟨c15,hc15,h⟩:=bS h
   refine oy 209 (.int .u8 (c15.toNat:Int)) rfl (e_index rfl rfl (i_str rfl rfl hc15)) ?_
   refine cq 3 [18] [B (decide ((c15.toNat:Int)>122))] 241 ?_
   exact rf [0,18] [] (j14 _ (Option.some.inj h).symm :)
theorem Ffe_good {G:Go.Ln.Ground}:Good Tryz.prog G 120 Ffe_ent:=gT 1 0 (gl_c Ffq_good (gl_c Ffcz_good (gl_c Ffcb_good gl_n))) (Checked.mixed Tryz.checked) Tryz.func120 (fun a r h=>Ffe_run a r h)
def Ffh_A:(List Str)→List V:=oA (slE str)
def Ffh_R (r:Bool):V×List V:=(B r,[])
noncomputable def Ffh_ent:Ent:=entT [false] Ffh_A Ffh_R fun x=>Ffh x
theorem Ffh_F {list_1:List Str}{r}(h:Ffh list_1=some r):Ffh_ent.F (Ffh_A list_1)=some (Ffh_R r):=entT_F (oA_inj (isl_inj str_inj)) h
noncomputable def Ffh_c:Code:=bodyOf Tryz.f103
noncomputable def Ffh_E:Env:=mkE Tryz.prog [(120,Ffe_ent),(121,Ffcb_ent),(84,Ffq_ent)]
def Ffh_Q (x:(List Str))(r:Bool):St→Prop:=QF Ffh_E Tryz.f103 [false] (Ffh_A x) (Ffh_R r)
theorem Ffh_la_run (list_1:List Str){Q:St→Prop}{K:List It}(hK:noD K=true):∀(x2:Int) (y:Bool⊕Unit),Ffh_la list_1 x2=some y→(∀r',y=.inl r'→∀st,Ffh_Q list_1 r' st→Q st)→(∀u:Unit,y=.inr u→Run Ffh_E 0 Q K (sT 26 [(0,.isl false (list_1.map str))] [] 1))→Run Ffh_E 0 Q (.code (cL (cL (cR (cL (cR Ffh_c)))))::.lp (cL (cL (cR (cL (cR Ffh_c)))))::.blk 0::K) (sT 26 [(0,.isl false (list_1.map str)),(5,.isl false (list_1.map str)),(6,I (len list_1)),(7,I x2)] [] 1):=by
 refine fix_indP (Ffh_la_fin list_1) ?_
 intro self ih x2 y h hr hn
 unfold Ffh_la_F at h
 refine cq 5 [8] [B (decide (x2<(len list_1)))] 17 ?_
 refine sq h (fun h=>?_) fun h=>?_
 ·refine aq 1 ?_
  refine cq 5 [9] [I x2] 33 ?_
  obtain⟨e3,he3,h⟩:=bS h
  refine oq 49 (.iptr (str e3) 0) rfl (e_indexAddr rfl rfl rfl (ix_islE rfl rfl rfl rfl he3)) ?_
  refine cq 7 [3,4,12] [I x2,str e3,str e3] 113 ?_
  obtain⟨r4,hr4,h⟩:=bS h
  refine oq 129 (B r4) rfl (cP (Ffe_F hr4)) ?_
  refine cq 2 [15] [B (!r4)] 161 ?_
  obtain⟨y5,hy5,hy51,hy52⟩:=bL h
  have j5:∀u5,y5=.inr u5→Run Ffh_E 0 Q (.code (cR (cR (cL (cL (cR (cR (cL (cL (cR (cL (cR Ffh_c)))))))))))::.blk 1::.code (cR (cR (cR (cL (cL (cR (cL (cR Ffh_c))))))))::.lp (cL (cL (cR (cL (cR Ffh_c)))))::.blk 0::K) (sT 26 [(0,.isl false (list_1.map str)),(5,.isl false (list_1.map str)),(6,I (len list_1)),(7,I x2),(21,B u5)] [] 1):=by
   intro u5 hu
   replace h:=hy52 u5 hu
   refine sq h (fun h=>?_) fun h=>?_
   ·refine cq 4 [2] [B false] 17 ?_
    exact s_ret rfl (hr _ (Option.some.inj h).symm _ (qp [B false]))
   ·refine aq 1 ?_
    refine cq 5 [7] [I (w64 (x2+1))] 33 ?_
    refine s_lp ?_
    exact rf [0,5,6,7] [] (ih _ _ h hr hn :)
  have r5:∀r',y5=.inl r'→∀st,Ffh_Q list_1 r' st→Q st:=fun r' e st hq=>hr r' (hy51 r' e) st hq
  replace h:=hy5
  refine sp 15 h rfl (fun h=>?_) fun h=>?_
  ·refine cq 7 [21] [B true] 257 ?_
   exact rf [0,5,6,7,21] [] (j5 _ (Option.some.inj h).symm :)
  ·refine cq 2 [16,17] [.isl false (list_1.map str),I x2] 193 ?_
   obtain⟨s6,hs6,h⟩:=bS h
   refine oy 209 (.isl false (s6.map str)) rfl (e_slice rfl rfl rfl rfl (sl_isl rfl rfl (fun y=>(str_cells y).1) rfl rfl hs6)) ?_
   refine cq 1 [19] [str e3] 225 ?_
   obtain⟨r7,hr7,h⟩:=bS h
   refine oy 241 (B r7) rfl (cP (Ffcb_F hr7)) ?_
   refine cq 2 [21] [B r7] 257 ?_
   exact rf [0,5,6,7,21] [] (j5 _ (Option.some.inj h).symm :)
 ·refine aq 1 ?_
  exact rf [0] [] (hn _ (Option.some.inj h).symm :) (hk:=hK)
theorem Ffh_run (list_1:List Str)(r:Bool)(h:Ffh list_1=some r):RunF Ffh_E Tryz.f103 [false] 0 (Ffh_A list_1) (Ffh_R r):=by
 show Run _ _ (Ffh_Q list_1 r) [.code Ffh_c] _
 refine rI 26 [(0,.isl false (list_1.map str))] [] 1 ?_
 unfold Ffh at h
 refine cq 8 [5] [.isl false (list_1.map str)] 33 ?_
 refine oq 49 (I (len list_1)) rfl (e_len rfl rfl rfl (l_isl rfl)) ?_
 refine cq 3 [7] [I (0)] 65 ?_
 obtain⟨y8,hy8,hy81,hy82⟩:=bJ h
 refine s_loop rfl ?_
 refine rf [0,5,6,7] [] (Ffh_la_run list_1 rfl 0 _ hy8 (fun r' e st hq=>by rw[hy81 r' e] at hq;exact hq) fun u8 hu=>?_)
 replace h:=hy82 u8 hu
 refine cq 3 [23] [.isl false (list_1.map str)] 17 ?_
 refine oq 33 (I (len list_1)) rfl (e_len rfl rfl rfl (l_isl rfl)) ?_
 obtain⟨r9,hr9,h⟩:=bS h
 refine oq 49 (B r9) rfl (cP (Ffq_F hr9)) ?_
 refine cq 2 [2] [B r9] 65 ?_
 obtain rfl:=Option.some.inj h
 exact s_ret rfl (qp [B r9])
theorem Ffh_good {G:Go.Ln.Ground}:Good Tryz.prog G 103 Ffh_ent:=gT 1 0 (gl_c Ffe_good (gl_c Ffcb_good (gl_c Ffq_good gl_n))) (Checked.mixed Tryz.checked) Tryz.func103 (fun a r h=>Ffh_run a r h)
def Ffj_A:(Clause×Str)→List V:=cA encI_Clause (oA (fun x:Str=>.iptr (str x) 0))
def Ffj_R (r:Bool):V×List V:=(B r,[])
noncomputable def Ffj_ent:Ent:=entT [false,false] Ffj_A Ffj_R fun x=>Ffj x.1 x.2
theorem Ffj_F {x_1:Clause}{a_2:Str}{r}(h:Ffj x_1 a_2=some r):Ffj_ent.F (Ffj_A (x_1,a_2))=some (Ffj_R r):=entT_F (cA_inj encI_Clause_inj (oA_inj (iptr_inj str_inj))) h
noncomputable def Ffj_c:Code:=bodyOf Tryz.f141
noncomputable def Ffj_E:Env:=mkE Tryz.prog []
def Ffj_Q (x:Clause×Str)(r:Bool):St→Prop:=QF Ffj_E Tryz.f141 [false,false] (Ffj_A x) (Ffj_R r)
theorem Ffj_run (x_1:Clause)(a_2:Str)(r:Bool)(h:Ffj x_1 a_2=some r):RunF Ffj_E Tryz.f141 [false,false] 0 (Ffj_A (x_1,a_2)) (Ffj_R r):=by
 show Run _ _ (Ffj_Q (x_1,a_2) r) [.code Ffj_c] _
 refine rI 8 [(0,.agg [str x_1.Id,I x_1.Kind,I x_1.Party,str x_1.Action,I x_1.Other,I x_1.Amount,I x_1.When.Op,str x_1.When.Name,I x_1.When.Day,.isl false (x_1.When.Parts.map encI_Condition),I x_1.Within,str x_1.Repair]),(1,.iptr (str a_2) 0)] [] 1 ?_
 unfold Ffj at h
 refine cq 13 [3] [B (x_1.Id==a_2)] 113 ?_
 obtain rfl:=Option.some.inj h
 exact s_ret rfl (qp [B (x_1.Id==a_2)])
theorem Ffj_good {G:Go.Ln.Ground}:Good Tryz.prog G 141 Ffj_ent:=gT 2 0 gl_n (Checked.mixed Tryz.checked) Tryz.func141 (fun a r h=>Ffj_run a.1 a.2 r h)
def Ffcc_A:((List Clause)×Str)→List V:=cA (slE encI_Clause) (oA (fun x:Str=>(.fn 141 [.iptr (str x) 0]:V)))
def Ffcc_R (r:Int):V×List V:=(I r,[])
noncomputable def Ffcc_ent:Ent:=entT [false,false] Ffcc_A Ffcc_R fun x=>Ffcc x.1 x.2
theorem Ffcc_F {s_1:List Clause}{f_2:Str}{r}(h:Ffcc s_1 f_2=some r):Ffcc_ent.F (Ffcc_A (s_1,f_2))=some (Ffcc_R r):=entT_F (cA_inj (isl_inj encI_Clause_inj) (oA_inj (fn_inj1 str_inj))) h
noncomputable def Ffcc_c:Code:=bodyOf Tryz.f140
noncomputable def Ffcc_E:Env:=mkE Tryz.prog [(141,Ffj_ent)]
def Ffcc_Q (x:(List Clause)×Str)(r:Int):St→Prop:=QF Ffcc_E Tryz.f140 [false,false] (Ffcc_A x) (Ffcc_R r)
theorem Ffcc_la_run (s_1:List Clause)(f_2:Str){Q:St→Prop}{K:List It}(hK:noD K=true):∀(x3:Int) (y:Int⊕Unit),Ffcc_la s_1 f_2 x3=some y→(∀r',y=.inl r'→∀st,Ffcc_Q (s_1,f_2) r' st→Q st)→(∀u:Unit,y=.inr u→Run Ffcc_E 0 Q K (sT 19 [] [] 1))→Run Ffcc_E 0 Q (.code (cL (cL (cR (cL (cR Ffcc_c)))))::.lp (cL (cL (cR (cL (cR Ffcc_c)))))::.blk 0::K) (sT 19 [(0,.isl false (s_1.map encI_Clause)),(1,.fn 141 [.iptr (str f_2) 0]),(7,I (len s_1)),(8,I x3)] [] 1):=by
 refine fix_indP (Ffcc_la_fin s_1 f_2) ?_
 intro self ih x3 y h hr hn
 unfold Ffcc_la_F at h
 refine cq 5 [9] [B (decide (x3<(len s_1)))] 17 ?_
 refine sq h (fun h=>?_) fun h=>?_
 ·refine aq 1 ?_
  refine cq 12 [5,11,12,13] [I x3,.fn 141 [.iptr (str f_2) 0],.isl false (s_1.map encI_Clause),I x3] 97 ?_
  obtain⟨e4,he4,h⟩:=bS h
  refine oq 113 (.iptr (.agg [str e4.Id,I e4.Kind,I e4.Party,str e4.Action,I e4.Other,I e4.Amount,I e4.When.Op,str e4.When.Name,I e4.When.Day,.isl false (e4.When.Parts.map encI_Condition),I e4.Within,str e4.Repair]) 0) rfl (e_indexAddr rfl rfl rfl (ix_islE rfl rfl rfl rfl he4)) ?_
  refine cq 1 [15] [.agg [str e4.Id,I e4.Kind,I e4.Party,str e4.Action,I e4.Other,I e4.Amount,I e4.When.Op,str e4.When.Name,I e4.When.Day,.isl false (e4.When.Parts.map encI_Condition),I e4.Within,str e4.Repair]] 129 ?_
  obtain⟨r5,hr5,h⟩:=bS h
  refine oq 145 (B r5) rfl (cP (Ffj_F hr5)) ?_
  refine aq 1 ?_
  refine sq h (fun h=>?_) fun h=>?_
  ·refine cq 5 [4] [I x3] 177 ?_
   exact s_ret rfl (hr _ (Option.some.inj h).symm _ (qp [I x3]))
  ·refine aq 1 ?_
   refine cq 5 [8] [I (w64 (x3+1))] 177 ?_
   refine s_lp ?_
   exact rf [0,1,7,8] [] (ih _ _ h hr hn :)
 ·refine aq 1 ?_
  exact rf [] [] (hn _ (Option.some.inj h).symm :) (hk:=hK)
theorem Ffcc_run (s_1:List Clause)(f_2:Str)(r:Int)(h:Ffcc s_1 f_2=some r):RunF Ffcc_E Tryz.f140 [false,false] 0 (Ffcc_A (s_1,f_2)) (Ffcc_R r):=by
 show Run _ _ (Ffcc_Q (s_1,f_2) r) [.code Ffcc_c] _
 refine rI 19 [(0,.isl false (s_1.map encI_Clause)),(1,.fn 141 [.iptr (str f_2) 0])] [] 1 ?_
 unfold Ffcc at h
 refine cq 8 [6] [.isl false (s_1.map encI_Clause)] 33 ?_
 refine oq 49 (I (len s_1)) rfl (e_len rfl rfl rfl (l_isl rfl)) ?_
 refine cq 3 [8] [I (0)] 65 ?_
 obtain⟨y6,hy6,hy61,hy62⟩:=bJ h
 refine s_loop rfl ?_
 refine rf [0,1,7,8] [] (Ffcc_la_run s_1 f_2 rfl 0 _ hy6 (fun r' e st hq=>by rw[hy61 r' e] at hq;exact hq) fun u6 hu=>?_)
 replace h:=hy62 u6 hu
 refine cq 4 [4] [I (-1)] 17 ?_
 obtain rfl:=Option.some.inj h
 exact s_ret rfl (qp [I (-1)])
theorem Ffcc_good {G:Go.Ln.Ground}:Good Tryz.prog G 140 Ffcc_ent:=gT 2 0 (gl_c Ffj_good gl_n) (Checked.mixed Tryz.checked) Tryz.func140 (fun a r h=>Ffcc_run a.1 a.2 r h)
def Ffi_A:(Contract×Str)→List V:=cA encI_Contract (oA str)
def Ffi_R (r:Int):V×List V:=(I r,[])
noncomputable def Ffi_ent:Ent:=entT [false,false] Ffi_A Ffi_R fun x=>Ffi x.1 x.2
theorem Ffi_F {c_1:Contract}{id_2:Str}{r}(h:Ffi c_1 id_2=some r):Ffi_ent.F (Ffi_A (c_1,id_2))=some (Ffi_R r):=entT_F (cA_inj encI_Contract_inj (oA_inj str_inj)) h
noncomputable def Ffi_c:Code:=bodyOf Tryz.f109
noncomputable def Ffi_E:Env:=mkE Tryz.prog [(140,Ffcc_ent)]
def Ffi_Q (x:Contract×Str)(r:Int):St→Prop:=QF Ffi_E Tryz.f109 [false,false] (Ffi_A x) (Ffi_R r)
theorem Ffi_run (c_1:Contract)(id_2:Str)(r:Int)(h:Ffi c_1 id_2=some r):RunF Ffi_E Tryz.f109 [false,false] 0 (Ffi_A (c_1,id_2)) (Ffi_R r):=by
 show Run _ _ (Ffi_Q (c_1,id_2) r) [.code Ffi_c] _
 refine rI 9 [(0,.agg [.isl false (c_1.Parties.map str),.isl false (c_1.Clauses.map encI_Clause)]),(1,str id_2)] [] 1 ?_
 unfold Ffi at h
 refine ck 11 [6,7] [] [17] [] [.isl false (c_1.Clauses.map encI_Clause),.fn 141 [.hp 17 0 [] 1 0 0]] [some ⟨0,1,[str id_2]⟩] 97 (by kernel_rfl) ?_
 obtain⟨r3,hr3,h⟩:=bS h
 refine oq 113 (I r3) rfl (e_callV rfl rfl (call_P rfl rfl rfl (avS (shP rfl) (avS (shF (shC (shp_at (path:=[]) rfl rfl ra_n rfl rfl) shN)) avN)) (Ffcc_F hr3) (.inl rfl) bl_n rfl rfl rfl)) ?_
 refine cq 2 [4] [I r3] 129 ?_
 obtain rfl:=Option.some.inj h
 exact s_ret rfl (qp [I r3])
theorem Ffi_good {G:Go.Ln.Ground}:Good Tryz.prog G 109 Ffi_ent:=gT 2 0 (gl_c Ffcc_good gl_n) (Checked.mixed Tryz.checked) Tryz.func109 (fun a r h=>Ffi_run a.1 a.2 r h)
def Ffo_A:Int→List V:=oA I
def Ffo_R (r:Bool):V×List V:=(B r,[])
noncomputable def Ffo_ent:Ent:=entT [false] Ffo_A Ffo_R fun x=>Ffo x
theorem Ffo_F {day_1:Int}{r}(h:Ffo day_1=some r):Ffo_ent.F (Ffo_A day_1)=some (Ffo_R r):=entT_F (oA_inj I_inj) h
noncomputable def Ffo_c:Code:=bodyOf Tryz.f73
noncomputable def Ffo_E:Env:=mkE Tryz.prog [(84,Ffq_ent)]
def Ffo_Q (x:Int)(r:Bool):St→Prop:=QF Ffo_E Tryz.f73 [false] (Ffo_A x) (Ffo_R r)
theorem Ffo_run (day_1:Int)(r:Bool)(h:Ffo day_1=some r):RunF Ffo_E Tryz.f73 [false] 0 (Ffo_A day_1) (Ffo_R r):=by
 show Run _ _ (Ffo_Q day_1 r) [.code Ffo_c] _
 refine rI 5 [(0,I day_1)] [] 1 ?_
 unfold Ffo at h
 refine cq 7 [3] [I day_1] 33 ?_
 obtain⟨r2,hr2,h⟩:=bS h
 refine oq 49 (B r2) rfl (cP (Ffq_F hr2)) ?_
 refine cq 2 [2] [B r2] 65 ?_
 obtain rfl:=Option.some.inj h
 exact s_ret rfl (qp [B r2])
theorem Ffo_good {G:Go.Ln.Ground}:Good Tryz.prog G 73 Ffo_ent:=gT 1 0 (gl_c Ffq_good gl_n) (Checked.mixed Tryz.checked) Tryz.func73 (fun a r h=>Ffo_run a r h)
def Ffl_A:(Condition×Int)→List V:=cA encI_Condition1 (oA I)
def Ffl_R (r:Int):V×List V:=(I r,[])
noncomputable def Ffl_entS (slf_Ffl:(Condition×Int)→Option Int):Ent:=entT [false,false] Ffl_A Ffl_R slf_Ffl
theorem Ffl_FS (slf_Ffl:(Condition×Int)→Option Int){x}{r}(h:slf_Ffl x=some r):(Ffl_entS slf_Ffl).F (Ffl_A x)=some (Ffl_R r):=entT_F (cA_inj encI_Condition1_inj (oA_inj I_inj)) h
noncomputable def Ffl_ent:Ent:=Ffl_entS (fixO Ffl_G)
theorem Ffl_F {c_1:Condition}{so_2:Int}{r}(h:Ffl c_1 so_2=some r):Ffl_ent.F (Ffl_A (c_1,so_2))=some (Ffl_R r):=Ffl_FS (fixO Ffl_G) h
noncomputable def Ffl_c:Code:=bodyOf Tryz.f119
noncomputable abbrev Ffl_ka:Code:=cR (cR (cR (cR (cR Ffl_c))))
noncomputable abbrev Ffl_kb:Code:=cR (cL (cR (cR (cR (cR Ffl_c)))))
noncomputable def Ffl_E (slf_Ffl:(Condition×Int)→Option Int):Env:=mkE Tryz.prog [(119,(Ffl_entS slf_Ffl)),(120,Ffe_ent),(73,Ffo_ent),(84,Ffq_ent)]
def Ffl_Q (slf_Ffl:(Condition×Int)→Option Int)(x:Condition×Int)(r:Int):St→Prop:=QF (Ffl_E slf_Ffl) Tryz.f119 [false,false] (Ffl_A x) (Ffl_R r)
theorem Ffl_la_run (slf_Ffl:(Condition×Int)→Option Int)(c_1:Condition)(so_2:Int){Q:St→Prop}{K:List It}(hK:noD K=true):∀(x5:Int×Int) (y:Int⊕Int),Ffl_la slf_Ffl c_1 so_2 x5=some y→(∀r',y=.inl r'→∀st,Ffl_Q slf_Ffl (c_1,so_2) r' st→Q st)→(∀u:Int,y=.inr u→Run (Ffl_E slf_Ffl) 0 Q K (sT 78 [(1,I u)] [] 1))→Run (Ffl_E slf_Ffl) 0 Q (.code (cL (cL (cR (cL Ffl_ka))))::.lp (cL (cL (cR (cL Ffl_ka))))::.blk 0::K) (sT 78 [(1,I x5.1),(65,.isl false (c_1.Parts.map encI_Condition)),(66,I (len c_1.Parts)),(67,I x5.2)] [] 1):=by
 refine fix_indP (Ffl_la_fin slf_Ffl c_1 so_2) ?_
 intro self ih x5 y h hr hn
 unfold Ffl_la_F at h
 refine cq 5 [68] [B (decide (x5.2<(len c_1.Parts)))] 17 ?_
 refine sq h (fun h=>?_) fun h=>?_
 ·refine aq 1 ?_
  refine aq 4 ?_
  obtain⟨e6,he6,h⟩:=bS h
  refine oq 33 (.iptr (.agg [I e6.Op,str e6.Name,I e6.Day,.isl false (e6.Parts.map encI_Condition)]) 0) rfl (e_indexAddr rfl rfl rfl (ix_islE rfl rfl (encI_Condition_eq e6) rfl he6)) ?_
  refine ck 2 [7,70] [] [49] [] [.hp 49 0 [] 4 0 0,.agg [I e6.Op,str e6.Name,I e6.Day,.isl false (e6.Parts.map encI_Condition)]] [some ⟨0,4,[.agg [I (0),str ([]),I (0),.isl true []]]⟩] 65 (by kernel_rfl) ?_
  refine run_row 49 [.agg [I (0),str ([]),I (0),.usl 4 (([]).map encO_Condition)]] rfl rfl (cvs_c (cv_agg (cvs_c (.refl _) (cvs_c (.refl _) (cvs_c (.refl _) (cvs_c (.nil _) cvs_n))))) cvs_n) ?_
  refine ck 6 [71,72] [] [49] [] [.agg [I e6.Op,str e6.Name,I e6.Day,.isl false (e6.Parts.map encI_Condition)],I x5.1] [some ⟨2,4,[.agg [I e6.Op,str e6.Name,I e6.Day,.isl false (e6.Parts.map encI_Condition)]]⟩] 113 (by kernel_rfl) ?_
  obtain⟨r7,hr7,h⟩:=bS h
  refine oq 129 (I r7) rfl (e_callV rfl rfl (call_P rfl rfl rfl (avS (shP rfl) (avS (shP rfl) avN)) (Ffl_FS slf_Ffl hr7) (.inr rfl) bl_n rfl rfl rfl)) ?_
  refine cq 7 [1,75] [I r7,B (decide (r7<0))] 177 ?_
  refine sq h (fun h=>?_) fun h=>?_
  ·refine cq 4 [4] [I (-1)] 193 ?_
   exact s_ret rfl (hr _ (Option.some.inj h).symm _ (qp [I (-1)]))
  ·refine aq 1 ?_
   refine cq 5 [67] [I (w64 (x5.2+1))] 209 ?_
   refine s_lp ?_
   exact rf [1,65,66,67] [] (ih _ _ h hr hn :)
 ·refine aq 1 ?_
  exact rf [1] [] (hn _ (Option.some.inj h).symm :) (hk:=hK)
theorem Ffl_run (slf_Ffl:(Condition×Int)→Option Int)(c_1:Condition)(so_2:Int)(r:Int)(h:Ffl_B slf_Ffl c_1 so_2=some r):RunF (Ffl_E slf_Ffl) Tryz.f119 [false,false] 0 (Ffl_A (c_1,so_2)) (Ffl_R r):=by
 show Run _ _ (Ffl_Q slf_Ffl (c_1,so_2) r) [.code Ffl_c] _
 refine rI 78 [(0,.agg [I c_1.Op,str c_1.Name,I c_1.Day,.isl false (c_1.Parts.map encI_Condition)]),(1,I so_2)] [] 1 ?_
 unfold Ffl_B at h
 refine ck 13 [1,2] [] [1] [] [I (w64 (so_2+1)),.hp 1 0 [] 4 0 0] [some ⟨0,4,[.agg [I c_1.Op,str c_1.Name,I c_1.Day,.isl false (c_1.Parts.map encI_Condition)]]⟩] 81 (by kernel_rfl) ?_
 refine oq 97 (.hs 81 0 [] 1 0 7) rfl (e_buildSlice rfl (bs_mk (f:=I) (xs:=[]) (z:=I (0)) (es:=[I (-1),I (0),I (0),I (0),I (1),I (2),I (2)]) (ws:=[I (-1),I (0),I (0),I (0),I (1),I (2),I (2)]) rfl rfl rfl (by decide) rfl (abs_each_plain rfl) rfl)) ?_
 refine cq 4 [5] [.hs 81 0 [] 1 0 7] 113 ?_
 refine s_draw [0,1,3,7,15,31,63,127,255,511,1023,2047,511,511,8703,29183,61951,131071,262143] rfl (by decide +kernel) ?_
 refine dk 3 [13,12,11] [B (decide ((w64 (so_2+1))>15)),B (decide ((w64 (so_2+1))>15)),I (w64 (so_2+1))] ?_
 obtain⟨y3,hy3,hy31,hy32⟩:=bJ h
 have j3:∀u3,y3=.inr u3→Run (Ffl_E slf_Ffl) 0 (Ffl_Q slf_Ffl (c_1,so_2) r) (.code (cR (cL (cR (cR (cR Ffl_c)))))::.code (cR (cR (cR (cR Ffl_c))))::[]) (sT 78 [(1,I (w64 (so_2+1))),(2,.hp 1 0 [] 4 0 0),(29,B u3)] [⟨0,4,[.agg [I c_1.Op,str c_1.Name,I c_1.Day,.isl false (c_1.Parts.map encI_Condition)]]⟩] 2):=by
  intro u3 hu
  replace h:=hy32 u3 hu
  refine sq h (fun h=>?_) fun h=>?_
  ·refine cq 4 [4] [I (-1)] 18 ?_
   obtain rfl:=Option.some.inj h
   exact s_ret rfl (qp [I (-1)])
  ·refine aq 1 ?_
   refine cq 11 [37] [B (!((c_1.Op==2)==(!(c_1.Name==([]:Str)))))] 130 ?_
   obtain⟨y4,hy4,hy41,hy42⟩:=bJ h
   have j4:∀u4,y4=.inr u4→Run (Ffl_E slf_Ffl) 0 (Ffl_Q slf_Ffl (c_1,so_2) r) (.code Ffl_kb::.code Ffl_ka::[]) (sT 78 [(1,I (w64 (so_2+1))),(2,.hp 1 0 [] 4 0 0),(63,B u4)] [⟨0,4,[.agg [I c_1.Op,str c_1.Name,I c_1.Day,.isl false (c_1.Parts.map encI_Condition)]]⟩] 2):=by
    intro u4 hu
    replace h:=hy42 u4 hu
    refine sq h (fun h=>?_) fun h=>?_
    ·refine cq 4 [4] [I (-1)] 18 ?_
     obtain rfl:=Option.some.inj h
     exact s_ret rfl (qp [I (-1)])
    ·refine aq 1 ?_
     refine cq 5 [65] [.isl false (c_1.Parts.map encI_Condition)] 34 ?_
     refine oq 50 (I (len c_1.Parts)) rfl (e_len rfl rfl rfl (l_isl rfl)) ?_
     refine cq 3 [67] [I (0)] 66 ?_
     obtain⟨y8,hy8,hy81,hy82⟩:=bJ h
     refine s_loop rfl ?_
     refine rf [1,65,66,67] [] (Ffl_la_run slf_Ffl c_1 so_2 rfl ((w64 (so_2+1)),0) _ hy8 (fun r' e st hq=>by rw[hy81 r' e] at hq;exact hq) fun u8 hu=>?_)
     replace h:=hy82 u8 hu
     refine cq 5 [4] [I u8] 33 ?_
     obtain rfl:=Option.some.inj h
     exact s_ret rfl (qp [I u8])
   have r4:∀r',y4=.inl r'→∀st,Ffl_Q slf_Ffl (c_1,so_2) r' st→(Ffl_Q slf_Ffl (c_1,so_2) r) st:=fun r' e st hq=>by rw[hy41 r' e] at hq;exact hq
   replace h:=hy4
   refine sp 37 h rfl (fun h=>?_) fun h=>?_
   ·refine cq 27 [63] [B true] 546 ?_
    exact rf [1,2,63] [1] (j4 _ (Option.some.inj h).symm :)
   ·refine cq 4 [41] [B (c_1.Op==2)] 194 ?_
    obtain⟨y9,hy9,hy91,hy92⟩:=bL h
    have j9:∀u9,y9=.inr u9→Run (Ffl_E slf_Ffl) 0 (Ffl_Q slf_Ffl (c_1,so_2) r) (.code Ffl_kb::.code Ffl_ka::[]) (sT 78 [(1,I (w64 (so_2+1))),(2,.hp 1 0 [] 4 0 0),(63,B u9)] [⟨0,4,[.agg [I c_1.Op,str c_1.Name,I c_1.Day,.isl false (c_1.Parts.map encI_Condition)]]⟩] 2):=by
     intro u9 hu
     replace h:=hy92 u9 hu
     exact rf [1,2,63] [1] (j4 _ (Option.some.inj h).symm :)
    have r9:∀r',y9=.inl r'→∀st,Ffl_Q slf_Ffl (c_1,so_2) r' st→(Ffl_Q slf_Ffl (c_1,so_2) r) st:=fun r' e st hq=>r4 r' (hy91 r' e) st hq
    replace h:=hy9
    refine sp 41 h rfl (fun h=>?_) fun h=>?_
    ·refine cq 2 [43] [str c_1.Name] 226 ?_
     obtain⟨r10,hr10,h⟩:=bS h
     refine oy 242 (B r10) rfl (cP (Ffe_F hr10)) ?_
     refine cq 4 [48] [B (!r10)] 306 ?_
     obtain⟨y11,hy11,hy111,hy112⟩:=bL h
     have j11:∀u11,y11=.inr u11→Run (Ffl_E slf_Ffl) 0 (Ffl_Q slf_Ffl (c_1,so_2) r) (.code Ffl_kb::.code Ffl_ka::[]) (sT 78 [(1,I (w64 (so_2+1))),(2,.hp 1 0 [] 4 0 0),(63,B u11)] [⟨0,4,[.agg [I c_1.Op,str c_1.Name,I c_1.Day,.isl false (c_1.Parts.map encI_Condition)]]⟩] 2):=by
      intro u11 hu
      replace h:=hy112 u11 hu
      exact rf [1,2,63] [1] (j9 _ (Option.some.inj h).symm :)
     have r11:∀r',y11=.inl r'→∀st,Ffl_Q slf_Ffl (c_1,so_2) r' st→(Ffl_Q slf_Ffl (c_1,so_2) r) st:=fun r' e st hq=>r9 r' (hy111 r' e) st hq
     replace h:=hy11
     refine sp 48 h rfl (fun h=>?_) fun h=>?_
     ·refine cq 16 [63] [B true] 546 ?_
      exact rf [1,2,63] [1] (j11 _ (Option.some.inj h).symm :)
     ·refine cq 4 [52] [B (c_1.Op != 3)] 370 ?_
      obtain⟨y12,hy12,hy121,hy122⟩:=bL h
      have j12:∀u12,y12=.inr u12→Run (Ffl_E slf_Ffl) 0 (Ffl_Q slf_Ffl (c_1,so_2) r) (.code Ffl_kb::.code Ffl_ka::[]) (sT 78 [(1,I (w64 (so_2+1))),(2,.hp 1 0 [] 4 0 0),(63,B u12)] [⟨0,4,[.agg [I c_1.Op,str c_1.Name,I c_1.Day,.isl false (c_1.Parts.map encI_Condition)]]⟩] 2):=by
       intro u12 hu
       replace h:=hy122 u12 hu
       exact rf [1,2,63] [1] (j11 _ (Option.some.inj h).symm :)
      have r12:∀r',y12=.inl r'→∀st,Ffl_Q slf_Ffl (c_1,so_2) r' st→(Ffl_Q slf_Ffl (c_1,so_2) r) st:=fun r' e st hq=>r11 r' (hy121 r' e) st hq
      replace h:=hy12
      refine sp 52 h rfl (fun h=>?_) fun h=>?_
      ·refine cq 6 [58] [B (c_1.Day != 0)] 466 ?_
       obtain⟨y13,hy13,hy131,hy132⟩:=bL h
       have j13:∀u13,y13=.inr u13→Run (Ffl_E slf_Ffl) 0 (Ffl_Q slf_Ffl (c_1,so_2) r) (.code Ffl_kb::.code Ffl_ka::[]) (sT 78 [(1,I (w64 (so_2+1))),(2,.hp 1 0 [] 4 0 0),(63,B u13)] [⟨0,4,[.agg [I c_1.Op,str c_1.Name,I c_1.Day,.isl false (c_1.Parts.map encI_Condition)]]⟩] 2):=by
        intro u13 hu
        replace h:=hy132 u13 hu
        exact rf [1,2,63] [1] (j12 _ (Option.some.inj h).symm :)
       have r13:∀r',y13=.inl r'→∀st,Ffl_Q slf_Ffl (c_1,so_2) r' st→(Ffl_Q slf_Ffl (c_1,so_2) r) st:=fun r' e st hq=>r12 r' (hy131 r' e) st hq
       replace h:=hy13
       refine sp 58 h rfl (fun h=>?_) fun h=>?_
       ·refine cq 6 [63] [B true] 546 ?_
        exact rf [1,2,63] [1] (j13 _ (Option.some.inj h).symm :)
       ·refine cq 2 [60] [I c_1.Day] 498 ?_
        obtain⟨r14,hr14,h⟩:=bS h
        refine oy 514 (B r14) rfl (cP (Ffo_F hr14)) ?_
        refine cq 3 [63] [B (!r14)] 546 ?_
        exact rf [1,2,63] [1] (j13 _ (Option.some.inj h).symm :)
      ·refine cq 8 [58,60] [B false,I c_1.Day] 498 ?_
       obtain⟨r15,hr15,h⟩:=bS h
       refine oy 514 (B r15) rfl (cP (Ffo_F hr15)) ?_
       refine cq 3 [63] [B (!r15)] 546 ?_
       exact rf [1,2,63] [1] (j12 _ (Option.some.inj h).symm :)
    ·refine cq 11 [48,52] [B false,B (c_1.Op != 3)] 370 ?_
     obtain⟨y16,hy16,hy161,hy162⟩:=bL h
     have j16:∀u16,y16=.inr u16→Run (Ffl_E slf_Ffl) 0 (Ffl_Q slf_Ffl (c_1,so_2) r) (.code Ffl_kb::.code Ffl_ka::[]) (sT 78 [(1,I (w64 (so_2+1))),(2,.hp 1 0 [] 4 0 0),(63,B u16)] [⟨0,4,[.agg [I c_1.Op,str c_1.Name,I c_1.Day,.isl false (c_1.Parts.map encI_Condition)]]⟩] 2):=by
      intro u16 hu
      replace h:=hy162 u16 hu
      exact rf [1,2,63] [1] (j9 _ (Option.some.inj h).symm :)
     have r16:∀r',y16=.inl r'→∀st,Ffl_Q slf_Ffl (c_1,so_2) r' st→(Ffl_Q slf_Ffl (c_1,so_2) r) st:=fun r' e st hq=>r9 r' (hy161 r' e) st hq
     replace h:=hy16
     refine sp 52 h rfl (fun h=>?_) fun h=>?_
     ·refine cq 6 [58] [B (c_1.Day != 0)] 466 ?_
      obtain⟨y17,hy17,hy171,hy172⟩:=bL h
      have j17:∀u17,y17=.inr u17→Run (Ffl_E slf_Ffl) 0 (Ffl_Q slf_Ffl (c_1,so_2) r) (.code Ffl_kb::.code Ffl_ka::[]) (sT 78 [(1,I (w64 (so_2+1))),(2,.hp 1 0 [] 4 0 0),(63,B u17)] [⟨0,4,[.agg [I c_1.Op,str c_1.Name,I c_1.Day,.isl false (c_1.Parts.map encI_Condition)]]⟩] 2):=by
       intro u17 hu
       replace h:=hy172 u17 hu
       exact rf [1,2,63] [1] (j16 _ (Option.some.inj h).symm :)
      have r17:∀r',y17=.inl r'→∀st,Ffl_Q slf_Ffl (c_1,so_2) r' st→(Ffl_Q slf_Ffl (c_1,so_2) r) st:=fun r' e st hq=>r16 r' (hy171 r' e) st hq
      replace h:=hy17
      refine sp 58 h rfl (fun h=>?_) fun h=>?_
      ·refine cq 6 [63] [B true] 546 ?_
       exact rf [1,2,63] [1] (j17 _ (Option.some.inj h).symm :)
      ·refine cq 2 [60] [I c_1.Day] 498 ?_
       obtain⟨r18,hr18,h⟩:=bS h
       refine oy 514 (B r18) rfl (cP (Ffo_F hr18)) ?_
       refine cq 3 [63] [B (!r18)] 546 ?_
       exact rf [1,2,63] [1] (j17 _ (Option.some.inj h).symm :)
     ·refine cq 8 [58,60] [B false,I c_1.Day] 498 ?_
      obtain⟨r19,hr19,h⟩:=bS h
      refine oy 514 (B r19) rfl (cP (Ffo_F hr19)) ?_
      refine cq 3 [63] [B (!r19)] 546 ?_
      exact rf [1,2,63] [1] (j16 _ (Option.some.inj h).symm :)
 have r3:∀r',y3=.inl r'→∀st,Ffl_Q slf_Ffl (c_1,so_2) r' st→(Ffl_Q slf_Ffl (c_1,so_2) r) st:=fun r' e st hq=>by rw[hy31 r' e] at hq;exact hq
 replace h:=hy3
 refine sp 13 h rfl (fun h=>?_) fun h=>?_
 ·refine dk 16 [29,28,27,26,25,24,23,22,21,20,19,18,17,16,15,14] [B true,.und,.und,.und,.und,.und,.und,.und,.und,.und,B true,B true,.und,.und,.und,.und] ?_
  refine de 417 rfl rfl ?_
  exact rf [1,2,29] [1] (j3 _ (Option.some.inj h).symm :)
 ·refine dy [1] [] (.hp 1 0 [] 4 0 0) rfl (e_fieldAddr rfl rfl rfl) ?_
  refine dy [1] [] (I c_1.Op) rfl (e_ld rfl rfl) ?_
  obtain⟨r20,hr20,h⟩:=bS h
  refine dy [] [] (B r20) rfl (cP (Ffq_F hr20)) ?_ (w_callO rfl rfl rfl rfl (avS (shP rfl) (avS (shP rfl) (avS (shP rfl) avN))) (Ffq_F hr20) (.inr rfl) rfl)
  refine dk 3 [19,18,17] [B (!r20),B (!r20),B (!r20)] ?_
  obtain⟨y21,hy21,hy211,hy212⟩:=bL h
  have j21:∀u21,y21=.inr u21→Run (Ffl_E slf_Ffl) 0 (Ffl_Q slf_Ffl (c_1,so_2) r) (.code (cR (cL (cR (cR (cR Ffl_c)))))::.code (cR (cR (cR (cR Ffl_c))))::[]) (sT 78 [(1,I (w64 (so_2+1))),(2,.hp 1 0 [] 4 0 0),(29,B u21)] [⟨0,4,[.agg [I c_1.Op,str c_1.Name,I c_1.Day,.isl false (c_1.Parts.map encI_Condition)]]⟩] 2):=by
   intro u21 hu
   replace h:=hy212 u21 hu
   exact rf [1,2,29] [1] (j3 _ (Option.some.inj h).symm :)
  have r21:∀r',y21=.inl r'→∀st,Ffl_Q slf_Ffl (c_1,so_2) r' st→(Ffl_Q slf_Ffl (c_1,so_2) r) st:=fun r' e st hq=>r3 r' (hy211 r' e) st hq
  replace h:=hy21
  refine sp 19 h rfl (fun h=>?_) fun h=>?_
  ·refine dk 10 [29,28,27,26,25,24,23,22,21,20] [B true,.und,.und,.und,.und,.und,.und,.und,.und,.und] ?_
   refine de 417 rfl rfl ?_
   exact rf [1,2,29] [1] (j21 _ (Option.some.inj h).symm :)
  ·refine dy [1] [] (.hp 1 0 [] 4 0 3) rfl (e_fieldAddr rfl rfl rfl) ?_
   refine dy [1] [] (.isl false (c_1.Parts.map encI_Condition)) rfl (e_ld rfl rfl) ?_
   refine dy [] [] (I (len c_1.Parts)) rfl (e_len rfl rfl rfl (l_isl rfl)) ?_
   refine dk 1 [23] [.hs 81 0 [] 1 0 7] ?_
   refine dy [1] [] (.hp 1 0 [] 4 0 0) rfl (e_fieldAddr rfl rfl rfl) ?_
   refine dy [1] [] (I c_1.Op) rfl (e_ld rfl rfl) ?_
   obtain⟨e22,he22,h⟩:=bS h
   refine dy [81] [] (.hp 81 0 [] 1 (0+Int.toNat c_1.Op) 0) rfl (e_indexAddr rfl rfl rfl (ix_hsM (f:=I) (xs:=[(-1),0,0,0,1,2,2]) rfl rfl rfl he22)) ?_
   refine dy [81] [] (I e22) rfl (e_ld rfl (ld_at (path:=[]) rfl rfl rfl ra_n (get_map (f:=I) (xs:=[(-1),0,0,0,1,2,2]) he22) rfl rfl rfl)) ?_
   refine dk 2 [29,28] [B ((len c_1.Parts) != e22),B ((len c_1.Parts) != e22)] ?_
   refine de 417 rfl rfl ?_
   exact rf [1,2,29] [1] (j21 _ (Option.some.inj h).symm :)
theorem Ffl_good {G:Go.Ln.Ground}:Good Tryz.prog G 119 Ffl_ent:=good_rec fun slf_Ffl g_Ffl=>gT 2 0 (gl_c g_Ffl (gl_c Ffe_good (gl_c Ffo_good (gl_c Ffq_good gl_n)))) (Checked.mixed Tryz.checked) Tryz.func119 (fun a r h=>Ffl_run slf_Ffl a.1 a.2 r h)
def Ffc_A:Condition→List V:=oA encI_Condition1
def Ffc_R (r:Bool):V×List V:=(B r,[])
noncomputable def Ffc_ent:Ent:=entT [false] Ffc_A Ffc_R fun x=>Ffc x
theorem Ffc_F {c_1:Condition}{r}(h:Ffc c_1=some r):Ffc_ent.F (Ffc_A c_1)=some (Ffc_R r):=entT_F (oA_inj encI_Condition1_inj) h
noncomputable def Ffc_c:Code:=bodyOf Tryz.f71
noncomputable def Ffc_E:Env:=mkE Tryz.prog [(119,Ffl_ent)]
def Ffc_Q (x:Condition)(r:Bool):St→Prop:=QF Ffc_E Tryz.f71 [false] (Ffc_A x) (Ffc_R r)
theorem Ffc_run (c_1:Condition)(r:Bool)(h:Ffc c_1=some r):RunF Ffc_E Tryz.f71 [false] 0 (Ffc_A c_1) (Ffc_R r):=by
 show Run _ _ (Ffc_Q c_1 r) [.code Ffc_c] _
 refine rI 6 [(0,.agg [I c_1.Op,str c_1.Name,I c_1.Day,.isl false (c_1.Parts.map encI_Condition)])] [] 1 ?_
 unfold Ffc at h
 refine cq 8 [3] [.agg [I c_1.Op,str c_1.Name,I c_1.Day,.isl false (c_1.Parts.map encI_Condition)]] 49 ?_
 obtain⟨r2,hr2,h⟩:=bS h
 refine oq 65 (I r2) rfl (cP (Ffl_F hr2)) ?_
 refine cq 3 [2] [B (decide (r2>0))] 97 ?_
 obtain rfl:=Option.some.inj h
 exact s_ret rfl (qp [B (decide (r2>0))])
theorem Ffc_good {G:Go.Ln.Ground}:Good Tryz.prog G 71 Ffc_ent:=gT 1 0 (gl_c Ffl_good gl_n) (Checked.mixed Tryz.checked) Tryz.func71 (fun a r h=>Ffc_run a r h)
def Ffn_A:(Contract×Int)→List V:=cA encI_Contract (oA I)
def Ffn_R (r:Bool):V×List V:=(B r,[])
noncomputable def Ffn_ent:Ent:=entT [false,false] Ffn_A Ffn_R fun x=>Ffn x.1 x.2
theorem Ffn_F {c_1:Contract}{i_2:Int}{r}(h:Ffn c_1 i_2=some r):Ffn_ent.F (Ffn_A (c_1,i_2))=some (Ffn_R r):=entT_F (cA_inj encI_Contract_inj (oA_inj I_inj)) h
noncomputable def Ffn_c:Code:=bodyOf Tryz.f104
noncomputable abbrev Ffn_ka:Code:=cR (cL (cR (cR (cR (cR Ffn_c)))))
noncomputable abbrev Ffn_kb:Code:=cR (cR (cR (cR (cR (cR Ffn_c)))))
noncomputable abbrev Ffn_kc:Code:=cR (cL (cR (cR (cR (cR (cR Ffn_c))))))
noncomputable abbrev Ffn_kd:Code:=cR (cR (cR Ffn_kb))
noncomputable def Ffn_E:Env:=mkE Tryz.prog [(120,Ffe_ent),(84,Ffq_ent),(109,Ffi_ent),(71,Ffc_ent)]
def Ffn_Q (x:Contract×Int)(r:Bool):St→Prop:=QF Ffn_E Tryz.f104 [false,false] (Ffn_A x) (Ffn_R r)
theorem Ffn_run (c_1:Contract)(i_2:Int)(r:Bool)(h:Ffn c_1 i_2=some r):RunF Ffn_E Tryz.f104 [false,false] 0 (Ffn_A (c_1,i_2)) (Ffn_R r):=by
 show Run _ _ (Ffn_Q (c_1,i_2) r) [.code Ffn_c] _
 refine rI 119 [(0,.agg [.isl false (c_1.Parties.map str),.isl false (c_1.Clauses.map encI_Clause)]),(1,I i_2)] [] 1 ?_
 unfold Ffn at h
 refine ck 10 [2,9,10] [] [1] [] [.hp 1 0 [] 2 0 0,.isl false (c_1.Clauses.map encI_Clause),I i_2] [some ⟨0,2,[.agg [.isl false (c_1.Parties.map str),.isl false (c_1.Clauses.map encI_Clause)]]⟩] 81 (by kernel_rfl) ?_
 obtain⟨e3,he3,h⟩:=bS h
 refine oq 97 (.iptr (.agg [str e3.Id,I e3.Kind,I e3.Party,str e3.Action,I e3.Other,I e3.Amount,I e3.When.Op,str e3.When.Name,I e3.When.Day,.isl false (e3.When.Parts.map encI_Condition),I e3.Within,str e3.Repair]) 0) rfl (e_indexAddr rfl rfl rfl (ix_islE rfl rfl rfl rfl he3)) ?_
 refine ck 2 [5,12] [] [113] [] [.hp 113 0 [] 12 0 0,.agg [str e3.Id,I e3.Kind,I e3.Party,str e3.Action,I e3.Other,I e3.Amount,I e3.When.Op,str e3.When.Name,I e3.When.Day,.isl false (e3.When.Parts.map encI_Condition),I e3.Within,str e3.Repair]] [some ⟨0,12,[.agg [str ([]),I (0),I (0),str ([]),I (0),I (0),I (0),str ([]),I (0),.isl true [],I (0),str ([])]]⟩] 129 (by kernel_rfl) ?_
 refine run_row 113 [.agg [str ([]),I (0),I (0),str ([]),I (0),I (0),I (0),str ([]),I (0),.usl 4 (([]).map encO_Condition),I (0),str ([])]] rfl rfl (cvs_c (cv_agg (cvs_c (.refl _) (cvs_c (.refl _) (cvs_c (.refl _) (cvs_c (.refl _) (cvs_c (.refl _) (cvs_c (.refl _) (cvs_c (.refl _) (cvs_c (.refl _) (cvs_c (.refl _) (cvs_c (.nil _) (cvs_c (.refl _) (cvs_c (.refl _) cvs_n))))))))))))) cvs_n) ?_
 refine ck 6 [14] [] [113] [] [.isl false (c_1.Parties.map str)] [some ⟨2,12,[.agg [str e3.Id,I e3.Kind,I e3.Party,str e3.Action,I e3.Other,I e3.Amount,I e3.When.Op,str e3.When.Name,I e3.When.Day,.isl false (e3.When.Parts.map encI_Condition),I e3.Within,str e3.Repair]]⟩] 177 (by kernel_rfl) ?_
 refine oq 193 (I (len c_1.Parties)) rfl (e_len rfl rfl rfl (l_isl rfl)) ?_
 refine cq 8 [6,18] [I (w64 ((len c_1.Parties) - 1)),str e3.Id] 257 ?_
 obtain⟨r4,hr4,h⟩:=bS h
 refine oq 273 (B r4) rfl (cP (Ffe_F hr4)) ?_
 refine cq 2 [21] [B (!r4)] 305 ?_
 obtain⟨y5,hy5,hy51,hy52⟩:=bJ h
 have j5:∀u5,y5=.inr u5→Run Ffn_E 0 (Ffn_Q (c_1,i_2) r) (.code (cR (cL (cR (cR (cR Ffn_c)))))::.code (cR (cR (cR (cR Ffn_c))))::[]) (sT 119 [(1,I i_2),(2,.hp 1 0 [] 2 0 0),(5,.hp 2 0 [] 12 0 0),(6,I (w64 ((len c_1.Parties) - 1))),(40,B u5)] [⟨0,2,[.agg [.isl false (c_1.Parties.map str),.isl false (c_1.Clauses.map encI_Clause)]]⟩,⟨0,12,[.agg [str e3.Id,I e3.Kind,I e3.Party,str e3.Action,I e3.Other,I e3.Amount,I e3.When.Op,str e3.When.Name,I e3.When.Day,.isl false (e3.When.Parts.map encI_Condition),I e3.Within,str e3.Repair]]⟩] 3):=by
  intro u5 hu
  replace h:=hy52 u5 hu
  refine sq h (fun h=>?_) fun h=>?_
  ·refine cq 4 [4] [B false] 19 ?_
   obtain rfl:=Option.some.inj h
   exact s_ret rfl (qp [B false])
  ·refine aq 1 ?_
   refine cq 6 [42,43] [I e3.Party,I (w64 ((len c_1.Parties) - 1))] 51 ?_
   obtain⟨r6,hr6,h⟩:=bS h
   refine oq 67 (B r6) rfl (cP (Ffq_F hr6)) ?_
   refine cq 2 [46] [B (!r6)] 99 ?_
   obtain⟨y7,hy7,hy71,hy72⟩:=bJ h
   have j7:∀u7,y7=.inr u7→Run Ffn_E 0 (Ffn_Q (c_1,i_2) r) (.code Ffn_ka::.code (cR (cR (cR (cR (cR Ffn_c)))))::[]) (sT 119 [(1,I i_2),(2,.hp 1 0 [] 2 0 0),(5,.hp 2 0 [] 12 0 0),(65,B u7)] [⟨0,2,[.agg [.isl false (c_1.Parties.map str),.isl false (c_1.Clauses.map encI_Clause)]]⟩,⟨0,12,[.agg [str e3.Id,I e3.Kind,I e3.Party,str e3.Action,I e3.Other,I e3.Amount,I e3.When.Op,str e3.When.Name,I e3.When.Day,.isl false (e3.When.Parts.map encI_Condition),I e3.Within,str e3.Repair]]⟩] 3):=by
    intro u7 hu
    replace h:=hy72 u7 hu
    refine sq h (fun h=>?_) fun h=>?_
    ·refine cq 4 [4] [B false] 19 ?_
     obtain rfl:=Option.some.inj h
     exact s_ret rfl (qp [B false])
    ·refine aq 1 ?_
     refine cq 5 [67] [I e3.Amount] 35 ?_
     obtain⟨r8,hr8,h⟩:=bS h
     refine oq 51 (B r8) rfl (cP (Ffq_F hr8)) ?_
     refine cq 2 [70] [B (!r8)] 83 ?_
     obtain⟨y9,hy9,hy91,hy92⟩:=bJ h
     have j9:∀u9,y9=.inr u9→Run Ffn_E 0 (Ffn_Q (c_1,i_2) r) (.code Ffn_kc::.code Ffn_kb::[]) (sT 119 [(1,I i_2),(2,.hp 1 0 [] 2 0 0),(5,.hp 2 0 [] 12 0 0),(90,B u9)] [⟨0,2,[.agg [.isl false (c_1.Parties.map str),.isl false (c_1.Clauses.map encI_Clause)]]⟩,⟨0,12,[.agg [str e3.Id,I e3.Kind,I e3.Party,str e3.Action,I e3.Other,I e3.Amount,I e3.When.Op,str e3.When.Name,I e3.When.Day,.isl false (e3.When.Parts.map encI_Condition),I e3.Within,str e3.Repair]]⟩] 3):=by
      intro u9 hu
      replace h:=hy92 u9 hu
      refine sq h (fun h=>?_) fun h=>?_
      ·refine cq 4 [4] [B false] 19 ?_
       obtain rfl:=Option.some.inj h
       exact s_ret rfl (qp [B false])
      ·refine aq 1 ?_
       refine cq 7 [93] [B (e3.Repair==([]:Str))] 51 ?_
       refine sq h (fun h=>?_) fun h=>?_
       ·refine cq 4 [4] [B true] 67 ?_
        obtain rfl:=Option.some.inj h
        exact s_ret rfl (qp [B true])
       ·refine aq 1 ?_
        refine cq 5 [94,96] [.agg [.isl false (c_1.Parties.map str),.isl false (c_1.Clauses.map encI_Clause)],str e3.Repair] 99 ?_
        obtain⟨r10,hr10,h⟩:=bS h
        refine oq 115 (I r10) rfl (cP (Ffi_F hr10)) ?_
        refine cq 8 [7,101] [I r10,B (e3.Kind != 3)] 195 ?_
        obtain⟨y11,hy11,hy111,hy112⟩:=bJ h
        have j11:∀u11,y11=.inr u11→Run Ffn_E 0 (Ffn_Q (c_1,i_2) r) (.code Ffn_kd::[]) (sT 119 [(4,B u11)] [] 1):=by
         intro u11 hu
         replace h:=hy112 u11 hu
         obtain rfl:=Option.some.inj h
         exact s_ret rfl (qp [B u11])
        have r11:∀r',y11=.inl r'→∀st,Ffn_Q (c_1,i_2) r' st→(Ffn_Q (c_1,i_2) r) st:=fun r' e st hq=>by rw[hy111 r' e] at hq;exact hq
        replace h:=hy11
        refine sp 101 h rfl (fun h=>?_) fun h=>?_
        ·refine cq 4 [105] [B (decide (r10≥0))] 259 ?_
         obtain⟨y12,hy12,hy121,hy122⟩:=bL h
         have j12:∀u12,y12=.inr u12→Run Ffn_E 0 (Ffn_Q (c_1,i_2) r) (.code Ffn_kd::[]) (sT 119 [(4,B u12)] [] 1):=by
          intro u12 hu
          replace h:=hy122 u12 hu
          exact rf [4] [] (j11 _ (Option.some.inj h).symm :)
         have r12:∀r',y12=.inl r'→∀st,Ffn_Q (c_1,i_2) r' st→(Ffn_Q (c_1,i_2) r) st:=fun r' e st hq=>r11 r' (hy121 r' e) st hq
         replace h:=hy12
         refine sp 105 h rfl (fun h=>?_) fun h=>?_
         ·refine cq 5 [110] [B (r10 != i_2)] 339 ?_
          obtain⟨y13,hy13,hy131,hy132⟩:=bL h
          have j13:∀u13,y13=.inr u13→Run Ffn_E 0 (Ffn_Q (c_1,i_2) r) (.code Ffn_kd::[]) (sT 119 [(4,B u13)] [] 1):=by
           intro u13 hu
           replace h:=hy132 u13 hu
           exact rf [4] [] (j12 _ (Option.some.inj h).symm :)
          have r13:∀r',y13=.inl r'→∀st,Ffn_Q (c_1,i_2) r' st→(Ffn_Q (c_1,i_2) r) st:=fun r' e st hq=>r12 r' (hy131 r' e) st hq
          replace h:=hy13
          refine sp 110 h rfl (fun h=>?_) fun h=>?_
          ·refine cq 3 [112,113] [.isl false (c_1.Clauses.map encI_Clause),I r10] 387 ?_
           obtain⟨e14,he14,h⟩:=bS h
           refine oy 403 (.iptr (.agg [str e14.Id,I e14.Kind,I e14.Party,str e14.Action,I e14.Other,I e14.Amount,I e14.When.Op,str e14.When.Name,I e14.When.Day,.isl false (e14.When.Parts.map encI_Condition),I e14.Within,str e14.Repair]) 0) rfl (e_indexAddr rfl rfl rfl (ix_islE rfl rfl rfl rfl he14)) ?_
           refine cq 6 [4] [B (e14.Kind==1)] 483 ?_
           exact rf [4] [] (j13 _ (Option.some.inj h).symm :)
          ·refine cq 10 [4] [B false] 483 ?_
           exact rf [4] [] (j13 _ (Option.some.inj h).symm :)
         ·refine cq 15 [4] [B false] 483 ?_
          exact rf [4] [] (j12 _ (Option.some.inj h).symm :)
        ·refine cq 19 [4] [B false] 483 ?_
         exact rf [4] [] (j11 _ (Option.some.inj h).symm :)
     have r9:∀r',y9=.inl r'→∀st,Ffn_Q (c_1,i_2) r' st→(Ffn_Q (c_1,i_2) r) st:=fun r' e st hq=>by rw[hy91 r' e] at hq;exact hq
     replace h:=hy9
     refine sp 70 h rfl (fun h=>?_) fun h=>?_
     ·refine cq 21 [90] [B true] 403 ?_
      exact rf [1,2,5,90] [1,2] (j9 _ (Option.some.inj h).symm :)
     ·refine cq 2 [72] [I e3.Within] 115 ?_
      obtain⟨r15,hr15,h⟩:=bS h
      refine oy 131 (B r15) rfl (cP (Ffq_F hr15)) ?_
      refine cq 3 [76] [B (!r15)] 179 ?_
      obtain⟨u16,hu16,h⟩:=lJ h
      have j16:Run Ffn_E 0 (Ffn_Q (c_1,i_2) r) (.code Ffn_kc::.code Ffn_kb::[]) (sT 119 [(1,I i_2),(2,.hp 1 0 [] 2 0 0),(5,.hp 2 0 [] 12 0 0),(90,B u16)] [⟨0,2,[.agg [.isl false (c_1.Parties.map str),.isl false (c_1.Clauses.map encI_Clause)]]⟩,⟨0,12,[.agg [str e3.Id,I e3.Kind,I e3.Party,str e3.Action,I e3.Other,I e3.Amount,I e3.When.Op,str e3.When.Name,I e3.When.Day,.isl false (e3.When.Parts.map encI_Condition),I e3.Within,str e3.Repair]]⟩] 3):=by
       exact rf [1,2,5,90] [1,2] (j9 _ (Option.some.inj h).symm :)
      replace h:=hu16
      clear hu16
      refine sp 76 h rfl (fun h=>?_) fun h=>?_
      ·refine cq 15 [90] [B true] 403 ?_
       subst h
       exact rf [1,2,5,90] [1,2] (j16 :)
      ·refine cq 4 [80] [B (e3.Kind != 1)] 243 ?_
       obtain⟨u17,hu17,h⟩:=lJ h
       have j17:Run Ffn_E 0 (Ffn_Q (c_1,i_2) r) (.code Ffn_kc::.code Ffn_kb::[]) (sT 119 [(1,I i_2),(2,.hp 1 0 [] 2 0 0),(5,.hp 2 0 [] 12 0 0),(90,B u17)] [⟨0,2,[.agg [.isl false (c_1.Parties.map str),.isl false (c_1.Clauses.map encI_Clause)]]⟩,⟨0,12,[.agg [str e3.Id,I e3.Kind,I e3.Party,str e3.Action,I e3.Other,I e3.Amount,I e3.When.Op,str e3.When.Name,I e3.When.Day,.isl false (e3.When.Parts.map encI_Condition),I e3.Within,str e3.Repair]]⟩] 3):=by
        subst h
        exact rf [1,2,5,90] [1,2] (j16 :)
       replace h:=hu17
       clear hu17
       refine sp 80 h rfl (fun h=>?_) fun h=>?_
       ·refine cq 4 [84] [B (e3.Amount != 0)] 307 ?_
        obtain⟨u18,hu18,h⟩:=lJ h
        have j18:Run Ffn_E 0 (Ffn_Q (c_1,i_2) r) (.code Ffn_kc::.code Ffn_kb::[]) (sT 119 [(1,I i_2),(2,.hp 1 0 [] 2 0 0),(5,.hp 2 0 [] 12 0 0),(90,B u18)] [⟨0,2,[.agg [.isl false (c_1.Parties.map str),.isl false (c_1.Clauses.map encI_Clause)]]⟩,⟨0,12,[.agg [str e3.Id,I e3.Kind,I e3.Party,str e3.Action,I e3.Other,I e3.Amount,I e3.When.Op,str e3.When.Name,I e3.When.Day,.isl false (e3.When.Parts.map encI_Condition),I e3.Within,str e3.Repair]]⟩] 3):=by
         subst h
         exact rf [1,2,5,90] [1,2] (j17 :)
        replace h:=hu18
        clear hu18
        refine sp 84 h rfl (fun h=>?_) fun h=>?_
        ·refine cq 7 [90] [B true] 403 ?_
         subst h
         exact rf [1,2,5,90] [1,2] (j18 :)
        ·refine cq 7 [90] [B (e3.Within != 0)] 403 ?_
         subst h
         exact rf [1,2,5,90] [1,2] (j18 :)
       ·refine cq 11 [90] [B false] 403 ?_
        subst h
        exact rf [1,2,5,90] [1,2] (j17 :)
   have r7:∀r',y7=.inl r'→∀st,Ffn_Q (c_1,i_2) r' st→(Ffn_Q (c_1,i_2) r) st:=fun r' e st hq=>by rw[hy71 r' e] at hq;exact hq
   replace h:=hy7
   refine sp 46 h rfl (fun h=>?_) fun h=>?_
   ·refine cq 20 [65] [B true] 403 ?_
    exact rf [1,2,5,65] [1,2] (j7 _ (Option.some.inj h).symm :)
   ·refine cq 3 [48,49] [I e3.Other,I (w64 ((len c_1.Parties) - 1))] 147 ?_
    obtain⟨r19,hr19,h⟩:=bS h
    refine oy 163 (B r19) rfl (cP (Ffq_F hr19)) ?_
    refine cq 3 [53] [B (!r19)] 211 ?_
    obtain⟨y20,hy20,hy201,hy202⟩:=bL h
    have j20:∀u20,y20=.inr u20→Run Ffn_E 0 (Ffn_Q (c_1,i_2) r) (.code Ffn_ka::.code (cR (cR (cR (cR (cR Ffn_c)))))::[]) (sT 119 [(1,I i_2),(2,.hp 1 0 [] 2 0 0),(5,.hp 2 0 [] 12 0 0),(65,B u20)] [⟨0,2,[.agg [.isl false (c_1.Parties.map str),.isl false (c_1.Clauses.map encI_Clause)]]⟩,⟨0,12,[.agg [str e3.Id,I e3.Kind,I e3.Party,str e3.Action,I e3.Other,I e3.Amount,I e3.When.Op,str e3.When.Name,I e3.When.Day,.isl false (e3.When.Parts.map encI_Condition),I e3.Within,str e3.Repair]]⟩] 3):=by
     intro u20 hu
     replace h:=hy202 u20 hu
     exact rf [1,2,5,65] [1,2] (j7 _ (Option.some.inj h).symm :)
    have r20:∀r',y20=.inl r'→∀st,Ffn_Q (c_1,i_2) r' st→(Ffn_Q (c_1,i_2) r) st:=fun r' e st hq=>r7 r' (hy201 r' e) st hq
    replace h:=hy20
    refine sp 53 h rfl (fun h=>?_) fun h=>?_
    ·refine cq 13 [65] [B true] 403 ?_
     exact rf [1,2,5,65] [1,2] (j20 _ (Option.some.inj h).symm :)
    ·refine cq 7 [60] [B (e3.Party==e3.Other)] 323 ?_
     obtain⟨y21,hy21,hy211,hy212⟩:=bL h
     have j21:∀u21,y21=.inr u21→Run Ffn_E 0 (Ffn_Q (c_1,i_2) r) (.code Ffn_ka::.code (cR (cR (cR (cR (cR Ffn_c)))))::[]) (sT 119 [(1,I i_2),(2,.hp 1 0 [] 2 0 0),(5,.hp 2 0 [] 12 0 0),(65,B u21)] [⟨0,2,[.agg [.isl false (c_1.Parties.map str),.isl false (c_1.Clauses.map encI_Clause)]]⟩,⟨0,12,[.agg [str e3.Id,I e3.Kind,I e3.Party,str e3.Action,I e3.Other,I e3.Amount,I e3.When.Op,str e3.When.Name,I e3.When.Day,.isl false (e3.When.Parts.map encI_Condition),I e3.Within,str e3.Repair]]⟩] 3):=by
      intro u21 hu
      replace h:=hy212 u21 hu
      exact rf [1,2,5,65] [1,2] (j20 _ (Option.some.inj h).symm :)
     have r21:∀r',y21=.inl r'→∀st,Ffn_Q (c_1,i_2) r' st→(Ffn_Q (c_1,i_2) r) st:=fun r' e st hq=>r20 r' (hy211 r' e) st hq
     replace h:=hy21
     refine sp 60 h rfl (fun h=>?_) fun h=>?_
     ·refine cq 6 [65] [B true] 403 ?_
      exact rf [1,2,5,65] [1,2] (j21 _ (Option.some.inj h).symm :)
     ·refine cq 2 [62] [.agg [I e3.When.Op,str e3.When.Name,I e3.When.Day,.isl false (e3.When.Parts.map encI_Condition)]] 355 ?_
      obtain⟨r22,hr22,h⟩:=bS h
      refine oy 371 (B r22) rfl (cP (Ffc_F hr22)) ?_
      refine cq 3 [65] [B (!r22)] 403 ?_
      exact rf [1,2,5,65] [1,2] (j21 _ (Option.some.inj h).symm :)
 have r5:∀r',y5=.inl r'→∀st,Ffn_Q (c_1,i_2) r' st→(Ffn_Q (c_1,i_2) r) st:=fun r' e st hq=>by rw[hy51 r' e] at hq;exact hq
 replace h:=hy5
 refine sp 21 h rfl (fun h=>?_) fun h=>?_
 ·refine cq 20 [40] [B true] 609 ?_
  exact rf [1,2,5,6,40] [1,113] (j5 _ (Option.some.inj h).symm :)
 ·refine cq 3 [22,24] [.agg [.isl false (c_1.Parties.map str),.isl false (c_1.Clauses.map encI_Clause)],str e3.Id] 353 ?_
  obtain⟨r23,hr23,h⟩:=bS h
  refine oy 369 (I r23) rfl (cP (Ffi_F hr23)) ?_
  refine cq 4 [29] [B (r23 != i_2)] 433 ?_
  obtain⟨y24,hy24,hy241,hy242⟩:=bL h
  have j24:∀u24,y24=.inr u24→Run Ffn_E 0 (Ffn_Q (c_1,i_2) r) (.code (cR (cL (cR (cR (cR Ffn_c)))))::.code (cR (cR (cR (cR Ffn_c))))::[]) (sT 119 [(1,I i_2),(2,.hp 1 0 [] 2 0 0),(5,.hp 2 0 [] 12 0 0),(6,I (w64 ((len c_1.Parties) - 1))),(40,B u24)] [⟨0,2,[.agg [.isl false (c_1.Parties.map str),.isl false (c_1.Clauses.map encI_Clause)]]⟩,⟨0,12,[.agg [str e3.Id,I e3.Kind,I e3.Party,str e3.Action,I e3.Other,I e3.Amount,I e3.When.Op,str e3.When.Name,I e3.When.Day,.isl false (e3.When.Parts.map encI_Condition),I e3.Within,str e3.Repair]]⟩] 3):=by
   intro u24 hu
   replace h:=hy242 u24 hu
   exact rf [1,2,5,6,40] [1,2] (j5 _ (Option.some.inj h).symm :)
  have r24:∀r',y24=.inl r'→∀st,Ffn_Q (c_1,i_2) r' st→(Ffn_Q (c_1,i_2) r) st:=fun r' e st hq=>r5 r' (hy241 r' e) st hq
  replace h:=hy24
  refine sp 29 h rfl (fun h=>?_) fun h=>?_
  ·refine cq 12 [40] [B true] 609 ?_
   exact rf [1,2,5,6,40] [1,113] (j24 _ (Option.some.inj h).symm :)
  ·refine cq 2 [31] [str e3.Action] 465 ?_
   obtain⟨r25,hr25,h⟩:=bS h
   refine oy 481 (B r25) rfl (cP (Ffe_F hr25)) ?_
   refine cq 3 [35] [B (!r25)] 529 ?_
   obtain⟨y26,hy26,hy261,hy262⟩:=bL h
   have j26:∀u26,y26=.inr u26→Run Ffn_E 0 (Ffn_Q (c_1,i_2) r) (.code (cR (cL (cR (cR (cR Ffn_c)))))::.code (cR (cR (cR (cR Ffn_c))))::[]) (sT 119 [(1,I i_2),(2,.hp 1 0 [] 2 0 0),(5,.hp 2 0 [] 12 0 0),(6,I (w64 ((len c_1.Parties) - 1))),(40,B u26)] [⟨0,2,[.agg [.isl false (c_1.Parties.map str),.isl false (c_1.Clauses.map encI_Clause)]]⟩,⟨0,12,[.agg [str e3.Id,I e3.Kind,I e3.Party,str e3.Action,I e3.Other,I e3.Amount,I e3.When.Op,str e3.When.Name,I e3.When.Day,.isl false (e3.When.Parts.map encI_Condition),I e3.Within,str e3.Repair]]⟩] 3):=by
    intro u26 hu
    replace h:=hy262 u26 hu
    exact rf [1,2,5,6,40] [1,2] (j24 _ (Option.some.inj h).symm :)
   have r26:∀r',y26=.inl r'→∀st,Ffn_Q (c_1,i_2) r' st→(Ffn_Q (c_1,i_2) r) st:=fun r' e st hq=>r24 r' (hy261 r' e) st hq
   replace h:=hy26
   refine sp 35 h rfl (fun h=>?_) fun h=>?_
   ·refine cq 6 [40] [B true] 609 ?_
    exact rf [1,2,5,6,40] [1,113] (j26 _ (Option.some.inj h).symm :)
   ·refine cq 2 [37] [I e3.Kind] 561 ?_
    obtain⟨r27,hr27,h⟩:=bS h
    refine oy 577 (B r27) rfl (cP (Ffq_F hr27)) ?_
    refine cq 3 [40] [B (!r27)] 609 ?_
    exact rf [1,2,5,6,40] [1,113] (j26 _ (Option.some.inj h).symm :)
theorem Ffn_good {G:Go.Ln.Ground}:Good Tryz.prog G 104 Ffn_ent:=gT 2 0 (gl_c Ffe_good (gl_c Ffq_good (gl_c Ffi_good (gl_c Ffc_good gl_n)))) (Checked.mixed Tryz.checked) Tryz.func104 (fun a r h=>Ffn_run a.1 a.2 r h)
def Ffg_A:(Condition×(List Str))→List V:=cA encI_Condition1 (oA (usE 1 str))
def Ffg_R (r:(List Str)):V×List V:=(.usl 1 (r.map str),[.dead])
noncomputable def Ffg_entS (slf_Ffg:(Condition×(List Str))→Option (List Str)):Ent:=entT [false,true] Ffg_A Ffg_R slf_Ffg
theorem Ffg_FS (slf_Ffg:(Condition×(List Str))→Option (List Str)){x}{r}(h:slf_Ffg x=some r):(Ffg_entS slf_Ffg).F (Ffg_A x)=some (Ffg_R r):=entT_F (cA_inj encI_Condition1_inj (oA_inj (usl_inj str_inj))) h
noncomputable def Ffg_ent:Ent:=Ffg_entS (fixO Ffg_G)
theorem Ffg_F {c_3:Condition}{list_4:List Str}{r}(h:Ffg c_3 list_4=some r):Ffg_ent.F (Ffg_A (c_3,list_4))=some (Ffg_R r):=Ffg_FS (fixO Ffg_G) h
noncomputable def Ffg_c:Code:=bodyOf Tryz.f134
noncomputable def Ffg_E (slf_Ffg:(Condition×(List Str))→Option (List Str)):Env:=mkE Tryz.prog [(134,(Ffg_entS slf_Ffg))]
def Ffg_Q (slf_Ffg:(Condition×(List Str))→Option (List Str))(x:Condition×(List Str))(r:(List Str)):St→Prop:=QF (Ffg_E slf_Ffg) Tryz.f134 [false,true] (Ffg_A x) (Ffg_R r)
theorem Ffg_la_run (slf_Ffg:(Condition×(List Str))→Option (List Str))(c_3:Condition)(list_4:List Str){Q:St→Prop}{K:List It}(hK:noD K=true):∀(x4:Int×(List Str)) (y:(List Str)⊕(List Str)),Ffg_la slf_Ffg c_3 list_4 x4=some y→(∀r',y=.inl r'→∀st,Ffg_Q slf_Ffg (c_3,list_4) r' st→Q st)→(∀u:(List Str),y=.inr u→Run (Ffg_E slf_Ffg) 1 Q K (sO 27 [(1,.hs 2 0 [] 1 0 (u.map str).length)] [none,some ⟨0,1,u.map str⟩] 3))→Run (Ffg_E slf_Ffg) 1 Q (.code (cL (cL (cR (cL (cR (cR Ffg_c))))))::.lp (cL (cL (cR (cL (cR (cR Ffg_c))))))::.blk 0::K) (sO 27 [(1,.hs 2 0 [] 1 0 (x4.2.map str).length),(16,.isl false (c_3.Parts.map encI_Condition)),(17,I (len c_3.Parts)),(18,I x4.1)] [none,some ⟨0,1,x4.2.map str⟩] 3):=by
 refine fix_indP (Ffg_la_fin slf_Ffg c_3 list_4) ?_
 intro self ih x4 y h hr hn
 unfold Ffg_la_F at h
 refine cq 5 [19] [B (decide (x4.1<(len c_3.Parts)))] 19 ?_
 refine sq h (fun h=>?_) fun h=>?_
 ·refine aq 1 ?_
  refine aq 4 ?_
  obtain⟨e5,he5,h⟩:=bS h
  refine oq 35 (.iptr (.agg [I e5.Op,str e5.Name,I e5.Day,.isl false (e5.Parts.map encI_Condition)]) 0) rfl (e_indexAddr rfl rfl rfl (ix_islE rfl rfl (encI_Condition_eq e5) rfl he5)) ?_
  refine ck 2 [6,21] [] [51] [] [.hp 51 0 [] 4 0 0,.agg [I e5.Op,str e5.Name,I e5.Day,.isl false (e5.Parts.map encI_Condition)]] [some ⟨0,4,[.agg [I (0),str ([]),I (0),.isl true []]]⟩] 67 (by kernel_rfl) ?_
  refine run_row 51 [.agg [I (0),str ([]),I (0),.usl 4 (([]).map encO_Condition)]] rfl rfl (cvs_c (cv_agg (cvs_c (.refl _) (cvs_c (.refl _) (cvs_c (.refl _) (cvs_c (.nil _) cvs_n))))) cvs_n) ?_
  refine ck 5 [22,23] [] [51] [] [.agg [I e5.Op,str e5.Name,I e5.Day,.isl false (e5.Parts.map encI_Condition)],.hs 2 0 [] 1 0 (x4.2.map str).length] [some ⟨2,4,[.agg [I e5.Op,str e5.Name,I e5.Day,.isl false (e5.Parts.map encI_Condition)]]⟩] 115 (by kernel_rfl) ?_
  obtain⟨r6,hr6,h⟩:=bS h
  refine oq 131 (.hs 115 0 [] 1 0 (r6.map str).length) rfl (e_callV rfl rfl (call_P rfl rfl rfl (avS (shP rfl) (avO (hd1 rfl (hd_hs (path:=[]) rfl rfl ra_n rfl)) avN)) (Ffg_FS slf_Ffg hr6) (.inr rfl) (bl_c rfl rfl rfl bk_dead bl_n) rfl rfl rfl)) ?_
  refine cq 7 [1,18] [.hs 115 0 [] 1 0 (r6.map str).length,I (w64 (x4.1+1))] 179 ?_
  refine s_lp ?_
  exact rg [1,16,17,18] [180,115] (ih _ _ h hr hn :)
 ·refine aq 1 ?_
  exact rg [1] [20,2] (hn _ (Option.some.inj h).symm :) (hk:=hK)
theorem Ffg_run (slf_Ffg:(Condition×(List Str))→Option (List Str))(c_3:Condition)(list_4:List Str)(r:(List Str))(h:Ffg_B slf_Ffg c_3 list_4=some r):RunF (Ffg_E slf_Ffg) Tryz.f134 [false,true] 1 (Ffg_A (c_3,list_4)) (Ffg_R r):=by
 show Run _ _ (Ffg_Q slf_Ffg (c_3,list_4) r) [.code Ffg_c] _
 refine rI 27 [(0,.agg [I c_3.Op,str c_3.Name,I c_3.Day,.isl false (c_3.Parts.map encI_Condition)]),(1,.hs 1 0 [] 1 0 (list_4.map str).length)] [(1,some ⟨0,1,list_4.map str⟩)] 2 ?_
 unfold Ffg_B at h
 refine ck 12 [2,9] [] [2] [] [.hp 2 0 [] 4 0 0,B (c_3.Op==2)] [some ⟨0,4,[.agg [I c_3.Op,str c_3.Name,I c_3.Day,.isl false (c_3.Parts.map encI_Condition)]]⟩] 82 (by kernel_rfl) ?_
 obtain⟨y3,hy3,hy31,hy32⟩:=bJ h
 have j3:∀u3,y3=.inr u3→Run (Ffg_E slf_Ffg) 1 (Ffg_Q slf_Ffg (c_3,list_4) r) (.code (cR (cR Ffg_c))::[]) (sO 27 [(1,.hs 2 0 [] 1 0 (u3.map str).length),(2,.hp 3 0 [] 4 0 0)] [none,some ⟨0,1,u3.map str⟩,some ⟨0,4,[.agg [I c_3.Op,str c_3.Name,I c_3.Day,.isl false (c_3.Parts.map encI_Condition)]]⟩] 4):=by
  intro u3 hu
  replace h:=hy32 u3 hu
  refine cq 5 [16] [.isl false (c_3.Parts.map encI_Condition)] 36 ?_
  refine oq 52 (I (len c_3.Parts)) rfl (e_len rfl rfl rfl (l_isl rfl)) ?_
  refine cq 3 [18] [I (0)] 68 ?_
  obtain⟨y7,hy7,hy71,hy72⟩:=bJ h
  refine s_loop rfl ?_
  refine rg [1,16,17,18] [69,2] (Ffg_la_run slf_Ffg c_3 list_4 rfl (0,u3) _ hy7 (fun r' e st hq=>by rw[hy71 r' e] at hq;exact hq) fun u7 hu=>?_)
  replace h:=hy72 u7 hu
  refine cq 5 [4] [.hs 2 0 [] 1 0 (u7.map str).length] 35 ?_
  obtain rfl:=Option.some.inj h
  exact s_ret rfl ⟨_,fin (vs:=[.hs 2 0 [] 1 0 (u7.map str).length]) rfl (absE (abs1 rfl (abs_hs rfl rfl)) absEN) rfl (ou_f (ou_1 rfl (oc_no rfl) ou_n)),kl_d kl_n⟩
 have r3:∀r',y3=.inl r'→∀st,Ffg_Q slf_Ffg (c_3,list_4) r' st→(Ffg_Q slf_Ffg (c_3,list_4) r) st:=fun r' e st hq=>by rw[hy31 r' e] at hq;exact hq
 replace h:=hy3
 refine sq h (fun h=>?_) fun h=>?_
 ·refine cq 4 [10,12] [.hs 1 0 [] 1 0 (list_4.map str).length,str c_3.Name] 130 ?_
  refine oq 146 (.hs 130 0 [] 1 0 1) rfl (e_buildSlice rfl (bs_mk (f:=I) (xs:=[]) (z:=str ([])) (es:=[str c_3.Name]) (ws:=[str c_3.Name]) rfl rfl rfl (by decide) rfl (abs_each_plain rfl) rfl)) ?_
  obtain⟨a8,ha8,h⟩:=bS h
  refine oq 162 (.hs 146 0 [] 1 0 (a8.map str).length) rfl (e_append rfl rfl rfl rfl rfl (ap_hsM (path:=[]) (f:=str) (xs:=list_4) (ys:=[c_3.Name]) rfl rfl (take_hs rfl rfl rfl) rfl rfl rfl ra_n rfl (by decide) str_cells ha8 rfl to_n)) ?_
  refine cq 2 [1] [.hs 146 0 [] 1 0 (a8.map str).length] 178 ?_
  exact rg [1,2] [179,146,2] (j3 _ (Option.some.inj h).symm :)
 ·refine aq 1 ?_
  exact rg [1,2] [83,1,2] (j3 _ (Option.some.inj h).symm :)
theorem Ffg_good {G:Go.Ln.Ground}:Good Tryz.prog G 134 Ffg_ent:=good_rec fun slf_Ffg g_Ffg=>gT 2 1 (gl_c g_Ffg gl_n) (Checked.mixed Tryz.checked) Tryz.func134 (fun a r h=>Ffg_run slf_Ffg a.1 a.2 r h)
def xSortS_L_ren:Shelf.Ren:=⟨fun | 190=>162 | 125=>175 | 258=>174 | 128=>195 | 129=>196 | 302=>186 | 303=>187 | 304=>188 | 305=>189 | 306=>190 | 307=>191 | 308=>192 | 309=>193 | 310=>194 | 333=>205 | 329=>206 | 330=>207 | 334=>208 | 335=>209 | 336=>210 | 344=>222 | n=>n,fun | 31=>22 | 9=>9 | 3=>3 | 46=>165 | 0=>0 | 51=>193 | 53=>96 | 4=>4 | 183=>187 | 182=>186 | 131=>29 | 5=>5 | 218=>206 | 222=>210 | 228=>221 | 229=>222 | n=>n,fun | n=>n⟩
theorem xSortS_L:Go.Proofs.Lays.n190 Tryz.prog xSortS_L_ren where
 mixed:=by kernel_rfl
 f125:=Tryz.func175.trans (congrArg some (by kernel_rfl))
 f128:=Tryz.func195.trans (congrArg some (by kernel_rfl))
 f129:=Tryz.func196.trans (congrArg some (by kernel_rfl))
 f190:=Tryz.func162.trans (congrArg some (by kernel_rfl))
 f258:=Tryz.func174.trans (congrArg some (by kernel_rfl))
 f302:=Tryz.func186.trans (congrArg some (by kernel_rfl))
 f303:=Tryz.func187.trans (congrArg some (by kernel_rfl))
 f304:=Tryz.func188.trans (congrArg some (by kernel_rfl))
 f305:=Tryz.func189.trans (congrArg some (by kernel_rfl))
 f306:=Tryz.func190.trans (congrArg some (by kernel_rfl))
 f307:=Tryz.func191.trans (congrArg some (by kernel_rfl))
 f308:=Tryz.func192.trans (congrArg some (by kernel_rfl))
 f309:=Tryz.func193.trans (congrArg some (by kernel_rfl))
 f310:=Tryz.func194.trans (congrArg some (by kernel_rfl))
 f329:=Tryz.func206.trans (congrArg some (by kernel_rfl))
 f330:=Tryz.func207.trans (congrArg some (by kernel_rfl))
 f333:=Tryz.func205.trans (congrArg some (by kernel_rfl))
 f334:=Tryz.func208.trans (congrArg some (by kernel_rfl))
 f335:=Tryz.func209.trans (congrArg some (by kernel_rfl))
 f336:=Tryz.func210.trans (congrArg some (by kernel_rfl))
 f344:=Tryz.func222.trans (congrArg some (by kernel_rfl))
 t0:=Tryz.underlying0
 a0:=Tryz.isAgg0
 z0:=Tryz.sizeOf0
 v0:=Tryz.zeroValue0
 t3:=Tryz.underlying3
 a3:=Tryz.isAgg3
 z3:=Tryz.sizeOf3
 v3:=Tryz.zeroValue3
 t4:=Tryz.underlying4
 a4:=Tryz.isAgg4
 z4:=Tryz.sizeOf4
 v4:=Tryz.zeroValue4
 t5:=Tryz.underlying5
 a5:=Tryz.isAgg5
 z5:=Tryz.sizeOf5
 v5:=Tryz.zeroValue5
 t9:=Tryz.underlying9
 a9:=Tryz.isAgg9
 z9:=Tryz.sizeOf9
 v9:=Tryz.zeroValue9
 t31:=Tryz.underlying22
 a31:=Tryz.isAgg22
 z31:=Tryz.sizeOf22
 v31:=Tryz.zeroValue22
 t46:=Tryz.underlying165
 a46:=Tryz.isAgg165
 z46:=Tryz.sizeOf165
 v46:=Tryz.zeroValue165
 t51:=Tryz.underlying193
 a51:=Tryz.isAgg193
 z51:=Tryz.sizeOf193
 v51:=Tryz.zeroValue193
 t53:=Tryz.underlying96
 a53:=Tryz.isAgg96
 z53:=Tryz.sizeOf96
 v53:=Tryz.zeroValue96
 t131:=Tryz.underlying29
 a131:=Tryz.isAgg29
 z131:=Tryz.sizeOf29
 v131:=Tryz.zeroValue29
 t182:=Tryz.underlying186
 a182:=Tryz.isAgg186
 z182:=Tryz.sizeOf186
 v182:=Tryz.zeroValue186
 t183:=Tryz.underlying187
 a183:=Tryz.isAgg187
 z183:=Tryz.sizeOf187
 v183:=Tryz.zeroValue187
 t218:=Tryz.underlying206
 a218:=Tryz.isAgg206
 z218:=Tryz.sizeOf206
 v218:=Tryz.zeroValue206
 t222:=Tryz.underlying210
 a222:=Tryz.isAgg210
 z222:=Tryz.sizeOf210
 v222:=Tryz.zeroValue210
 t228:=Tryz.underlying221
 a228:=Tryz.isAgg221
 z228:=Tryz.sizeOf221
 v228:=Tryz.zeroValue221
 t229:=Tryz.underlying222
 a229:=Tryz.isAgg222
 z229:=Tryz.sizeOf222
 v229:=Tryz.zeroValue222
noncomputable def xSortS_ent:Ent:=entT [true] (oA (usE 1 str)) (fun r=>(.tup [],[.usl 1 (r.map str)])) xSortS
theorem xSortS_F {l:List Str}{r}(h:xSortS l=some r):xSortS_ent.F [.usl 1 (l.map str)]=some (.tup [],[.usl 1 (r.map str)]):=entT_F (ea:=oA (usE 1 str)) (oA_inj (usl_inj str_inj)) h
theorem xSortS_good {G:Go.Ln.Ground}:Good Tryz.prog G 162 xSortS_ent:=good_sortS xSortS_L
def Ffbz_A:(List Str)→List V:=oA (usE 1 str)
def Ffbz_R (r:(List Str)):V×List V:=(.usl 1 (r.map str),[.dead])
noncomputable def Ffbz_ent:Ent:=entT [true] Ffbz_A Ffbz_R fun x=>Ffbz x
theorem Ffbz_F {s_2:List Str}{r}(h:Ffbz s_2=some r):Ffbz_ent.F (Ffbz_A s_2)=some (Ffbz_R r):=entT_F (oA_inj (usl_inj str_inj)) h
noncomputable def Ffbz_c:Code:=bodyOf Tryz.f163
noncomputable abbrev Ffbz_ka:Code:=cL (cL (cR (cL (cR (cL (cR (cL (cL (cR (cL (cL (cR (cL (cR (cR Ffbz_c)))))))))))))))
noncomputable def Ffbz_E:Env:=mkE Tryz.prog []
def Ffbz_Q (x:(List Str))(r:(List Str)):St→Prop:=QF Ffbz_E Tryz.f163 [true] (Ffbz_A x) (Ffbz_R r)
theorem Ffbz_lb_run (s_2:List Str)(x2:Int){Q:St→Prop}{K:List It}(hK:noD K=true):∀(x6:Int×Int×(List Str)) (y:(List Str)⊕(Int×(List Str))),Ffbz_lb s_2 x2 x6=some y→(∀r',y=.inl r'→∀st,Ffbz_Q s_2 r' st→Q st)→(∀u:Int×(List Str),y=.inr u→Run Ffbz_E 1 Q K (sO 61 [(0,.hs 2 0 [] 1 0 (u.2.map str).length),(3,I u.1)] [none,some ⟨0,1,u.2.map str⟩] 3))→Run Ffbz_E 1 Q (.code Ffbz_ka::.lp Ffbz_ka::.blk 2::K) (sO 61 [(0,.hs 2 0 [] 1 0 (x6.2.2.map str).length),(3,I x6.1),(4,.hs 2 0 [] 1 (0+Int.toNat x2) (Int.toNat (len s_2) - Int.toNat x2)),(5,I x6.2.1)] [none,some ⟨0,1,x6.2.2.map str⟩] 3):=by
 refine fix_indP (Ffbz_lb_fin s_2 x2) ?_
 intro self ih x6 y h hr hn
 unfold Ffbz_lb_F at h
 refine cq 8 [32] [B (decide (x6.2.1<(((Int.toNat (len s_2) - Int.toNat x2):Nat):Int)))] 67 ?_
 refine sq h (fun h=>?_) fun h=>?_
 ·refine aq 1 ?_
  refine aq 3 ?_
  refine s_draw [0,0,3,7,0,0,32,112,240,511] rfl (by decide +kernel) ?_
  refine dk 2 [36,35] [I x6.2.1,.hs 2 0 [] 1 (0+Int.toNat x2) (Int.toNat (len s_2) - Int.toNat x2)] ?_
  obtain⟨e7,he7,h⟩:=bS h
  refine dq [2] [] (.hp 2 0 [] 1 ((0+Int.toNat x2)+Int.toNat x6.2.1) 0) rfl (e_indexAddr rfl rfl rfl (ix_pt (xs:=x6.2.2) rfl rfl he7)) ?_
  refine dq [2] [] (str e7) rfl (e_ld rfl (ld_at (path:=[]) rfl rfl rfl ra_n (get_pt (f:=str) (xs:=x6.2.2) he7) rfl rfl rfl)) ?_
  refine dk 3 [41,40,39] [I (w64 (x6.2.1 - 1)),I x6.2.1,.hs 2 0 [] 1 (0+Int.toNat x2) (Int.toNat (len s_2) - Int.toNat x2)] ?_
  obtain⟨e8,he8,h⟩:=bS h
  refine dq [2] [] (.hp 2 0 [] 1 ((0+Int.toNat x2)+Int.toNat (w64 (x6.2.1 - 1))) 0) rfl (e_indexAddr rfl rfl rfl (ix_pt (xs:=x6.2.2) rfl rfl he8)) ?_
  refine dq [2] [] (str e8) rfl (e_ld rfl (ld_at (path:=[]) rfl rfl rfl ra_n (get_pt (f:=str) (xs:=x6.2.2) he8) rfl rfl rfl)) ?_
  refine dk 1 [44] [B (!(e7==e8))] ?_
  refine de 227 rfl rfl ?_
  obtain⟨y9,hy9,hy91,hy92⟩:=bL h
  have j9:∀u9,y9=.inr u9→Run Ffbz_E 1 Q (.blk 3::.code (cR (cR Ffbz_ka))::.lp Ffbz_ka::.blk 2::K) (sO 61 [(0,.hs 2 0 [] 1 0 (u9.2.map str).length),(3,I u9.1),(4,.hs 2 0 [] 1 (0+Int.toNat x2) (Int.toNat (len s_2) - Int.toNat x2)),(5,I x6.2.1)] [none,some ⟨0,1,u9.2.map str⟩] 3):=by
   intro u9 hu
   replace h:=hy92 u9 hu
   refine cq 6 [5] [I (w64 (x6.2.1+1))] 51 ?_
   refine s_lp ?_
   exact rg [0,3,4,5] [52,2] (ih _ _ h hr hn :)
  have r9:∀r',y9=.inl r'→∀st,Ffbz_Q s_2 r' st→Q st:=fun r' e st hq=>hr r' (hy91 r' e) st hq
  replace h:=hy9
  refine sq h (fun h=>?_) fun h=>?_
  ·refine cq 6 [45,46,47,48] [.hs 2 0 [] 1 0 (x6.2.2.map str).length,I x6.1,.hs 2 0 [] 1 (0+Int.toNat x2) (Int.toNat (len s_2) - Int.toNat x2),I x6.2.1] 291 ?_
   obtain⟨e10,he10,h⟩:=bS h
   refine oq 307 (.hp 2 0 [] 1 ((0+Int.toNat x2)+Int.toNat x6.2.1) 0) rfl (e_indexAddr rfl rfl rfl (ix_pt (xs:=x6.2.2) rfl rfl he10)) ?_
   refine oq 323 (str e10) rfl (e_ld rfl (ld_at (path:=[]) rfl rfl rfl ra_n (get_pt (f:=str) (xs:=x6.2.2) he10) rfl rfl rfl)) ?_
   obtain⟨e11,he11,h⟩:=bS h
   refine oq 339 (.hp 2 0 [] 1 (0+Int.toNat x6.1) 0) rfl (e_indexAddr rfl rfl rfl (ix_hsM (f:=str) (xs:=x6.2.2) rfl rfl rfl he11)) ?_
   refine o0 355 rfl rfl (e_st rfl rfl (st_at (path:=[]) (pl:=true) (e':=str e10) (es2':=(setI x6.2.2 x6.1 e10).map str) rfl (absorb_plain rfl) rfl rfl rfl ra_n (get_map (f:=str) (xs:=x6.2.2) he11) rfl rfl rfl (set_map (f:=str) (xs:=x6.2.2) (y:=e10)) sr_n 0 rfl)) ?_
   try rw[←len_setM (f:=str) (xs:=x6.2.2) (i:=x6.1) (z:=e10)]
   refine cq 6 [3] [I (w64 (x6.1+1))] 403 ?_
   exact rg [0,3,4,5] [404,2] (j9 _ (Option.some.inj h).symm :)
  ·refine aq 1 ?_
   exact rg [0,3,4,5] [228,2] (j9 _ (Option.some.inj h).symm :)
 ·refine aq 1 ?_
  exact rg [0,3] [68,2] (hn _ (Option.some.inj h).symm :) (hk:=hK)
theorem Ffbz_la_run (s_2:List Str){Q:St→Prop}{K:List It}(hK:noD K=true):∀(x2:Int) (y:(List Str)⊕(List Str)),Ffbz_la s_2 x2=some y→(∀r',y=.inl r'→∀st,Ffbz_Q s_2 r' st→Q st)→(∀u:(List Str),y=.inr u→Run Ffbz_E 1 Q K (sO 61 [(0,.hs 2 0 [] 1 0 (u.map str).length)] [none,some ⟨0,1,u.map str⟩] 3))→Run Ffbz_E 1 Q (.code (cL (cL (cR (cL (cR (cR Ffbz_c))))))::.lp (cL (cL (cR (cL (cR (cR Ffbz_c))))))::.blk 0::K) (sO 61 [(0,.hs 2 0 [] 1 0 (s_2.map str).length),(3,I x2)] [none,some ⟨0,1,s_2.map str⟩] 3):=by
 refine fix_indP (Ffbz_la_fin s_2) ?_
 intro self ih x2 y h hr hn
 unfold Ffbz_la_F at h
 refine cq 5 [10,11] [I x2,.hs 2 0 [] 1 0 (s_2.map str).length] 35 ?_
 refine oq 51 (I (len s_2)) rfl (e_len rfl rfl rfl (l_hsM (f:=str) (xs:=s_2) rfl rfl)) ?_
 refine cq 2 [13] [B (decide (x2<(len s_2)))] 67 ?_
 refine sq h (fun h=>?_) fun h=>?_
 ·refine aq 1 ?_
  refine aq 3 ?_
  refine s_draw [0,0,3,7,0,0,32,112,240,511] rfl (by decide +kernel) ?_
  refine dk 2 [17,16] [I x2,.hs 2 0 [] 1 0 (s_2.map str).length] ?_
  obtain⟨e3,he3,h⟩:=bS h
  refine dq [2] [] (.hp 2 0 [] 1 (0+Int.toNat x2) 0) rfl (e_indexAddr rfl rfl rfl (ix_hsM (f:=str) (xs:=s_2) rfl rfl rfl he3)) ?_
  refine dq [2] [] (str e3) rfl (e_ld rfl (ld_at (path:=[]) rfl rfl rfl ra_n (get_map (f:=str) (xs:=s_2) he3) rfl rfl rfl)) ?_
  refine dk 3 [22,21,20] [I (w64 (x2 - 1)),I x2,.hs 2 0 [] 1 0 (s_2.map str).length] ?_
  obtain⟨e4,he4,h⟩:=bS h
  refine dq [2] [] (.hp 2 0 [] 1 (0+Int.toNat (w64 (x2 - 1))) 0) rfl (e_indexAddr rfl rfl rfl (ix_hsM (f:=str) (xs:=s_2) rfl rfl rfl he4)) ?_
  refine dq [2] [] (str e4) rfl (e_ld rfl (ld_at (path:=[]) rfl rfl rfl ra_n (get_map (f:=str) (xs:=s_2) he4) rfl rfl rfl)) ?_
  refine dk 1 [25] [B (e3==e4)] ?_
  refine de 227 rfl rfl ?_
  refine sq h (fun h=>?_) fun h=>?_
  ·refine cq 4 [26,27] [.hs 2 0 [] 1 0 (s_2.map str).length,I x2] 259 ?_
   obtain⟨s5,hs5,h⟩:=bS h
   refine oq 275 (.hs 2 0 [] 1 (0+Int.toNat x2) (Int.toNat (len s_2) - Int.toNat x2)) rfl (e_slice rfl rfl rfl rfl (sl_hsM (f:=str) (xs:=s_2) rfl rfl rfl rfl (bd_n rfl) hs5)) ?_
   refine cq 8 [4,5] [.hs 2 0 [] 1 (0+Int.toNat x2) (Int.toNat (len s_2) - Int.toNat x2),I (1)] 307 ?_
   obtain⟨y15,hy15,hy151,hy152⟩:=bL h
   refine s_loop rfl ?_
   refine rg [0,3,4,5] [308,2] (Ffbz_lb_run s_2 x2 rfl (x2,1,s_2) _ hy15 (fun r' e st hq=>hr r' (hy151 r' e) st hq) fun u15 hu=>?_)
   replace h:=hy152 u15 hu
   refine cq 4 [54,55] [.hs 2 0 [] 1 0 (u15.2.map str).length,I u15.1] 35 ?_
   obtain⟨s16,hs16,h⟩:=bS h
   refine oq 51 (.hs 2 0 [] 1 (0+Int.toNat u15.1) (Int.toNat (len u15.2) - Int.toNat u15.1)) rfl (e_slice rfl rfl rfl rfl (sl_hsM (f:=str) (xs:=u15.2) rfl rfl rfl rfl (bd_n rfl) hs16)) ?_
   obtain⟨k17,hk17,h⟩:=bS h
   refine o0 67 rfl rfl (e_clear rfl rfl (cl_pt (f:=str) (xs:=u15.2) (z0:=[]) rfl rfl rfl rfl (by decide) str_flat hk17)) ?_
   try rw[show (u15.2.map str).length=(k17.map str).length from clr_len hk17]
   refine cq 5 [57,58] [.hs 2 0 [] 1 0 (k17.map str).length,I u15.1] 99 ?_
   obtain⟨s18,hs18,h⟩:=bS h
   refine oq 115 (.hs 2 0 [] 1 (0+Int.toNat (0)) (Int.toNat u15.1 - Int.toNat (0))) rfl (e_slice rfl rfl rfl rfl (sl_hsM (f:=str) (xs:=k17) rfl rfl rfl rfl rfl hs18)) ?_
   refine cq 2 [2] [.hs 2 0 [] 1 (0+Int.toNat (0)) (Int.toNat u15.1 - Int.toNat (0))] 131 ?_
   obtain⟨p19,hp19,h⟩:=bS h
   exact s_ret rfl (hr _ (Option.some.inj h).symm _ ⟨_,fin (vs:=[.hs 2 0 [] 1 (0+Int.toNat (0)) (Int.toNat u15.1 - Int.toNat (0))]) rfl (absE (abs1 rfl (abs_pt (path:=[]) (f:=str) (xs:=k17) rfl rfl ra_n hp19 rfl to_n)) absEN) rfl (ou_1 rfl (oc_no rfl) ou_n),kl_d kl_n⟩)
  ·refine aq 1 ?_
   refine cq 6 [3] [I (w64 (x2+1))] 275 ?_
   refine s_lp ?_
   exact rg [0,3] [276,2] (ih _ _ h hr hn :)
 ·refine aq 1 ?_
  exact rg [0] [68,2] (hn _ (Option.some.inj h).symm :) (hk:=hK)
theorem Ffbz_run (s_2:List Str)(r:(List Str))(h:Ffbz s_2=some r):RunF Ffbz_E Tryz.f163 [true] 1 (Ffbz_A s_2) (Ffbz_R r):=by
 show Run _ _ (Ffbz_Q s_2 r) [.code Ffbz_c] _
 refine rI 61 [(0,.hs 1 0 [] 1 0 (s_2.map str).length)] [(1,some ⟨0,1,s_2.map str⟩)] 2 ?_
 unfold Ffbz at h
 refine cq 8 [6] [.hs 1 0 [] 1 0 (s_2.map str).length] 34 ?_
 refine oq 50 (I (len s_2)) rfl (e_len rfl rfl rfl (l_hsM (f:=str) (xs:=s_2) rfl rfl)) ?_
 refine cq 2 [8] [B (decide ((len s_2)<2))] 66 ?_
 refine sq h (fun h=>?_) fun h=>?_
 ·refine cq 5 [2] [.hs 1 0 [] 1 0 (s_2.map str).length] 98 ?_
  obtain rfl:=Option.some.inj h
  exact s_ret rfl ⟨_,fin (vs:=[.hs 1 0 [] 1 0 (s_2.map str).length]) rfl (absE (abs1 rfl (abs_hs rfl rfl)) absEN) rfl (ou_1 rfl (oc_no rfl) ou_n),kl_d kl_n⟩
 ·refine aq 1 ?_
  refine cq 6 [3] [I (1)] 82 ?_
  obtain⟨y20,hy20,hy201,hy202⟩:=bJ h
  refine s_loop rfl ?_
  refine rg [0,3] [83,1] (Ffbz_la_run s_2 rfl 1 _ hy20 (fun r' e st hq=>by rw[hy201 r' e] at hq;exact hq) fun u20 hu=>?_)
  replace h:=hy202 u20 hu
  refine cq 5 [2] [.hs 2 0 [] 1 0 (u20.map str).length] 35 ?_
  obtain rfl:=Option.some.inj h
  exact s_ret rfl ⟨_,fin (vs:=[.hs 2 0 [] 1 0 (u20.map str).length]) rfl (absE (abs1 rfl (abs_hs rfl rfl)) absEN) rfl (ou_1 rfl (oc_no rfl) ou_n),kl_d kl_n⟩
theorem Ffbz_good {G:Go.Ln.Ground}:Good Tryz.prog G 163 Ffbz_ent:=gT 1 1 gl_n (Checked.mixed Tryz.checked) Tryz.func163 (fun a r h=>Ffbz_run a r h)
def Ffp_A:(List Str)→List V:=oA (usE 1 str)
def Ffp_R (r:(List Str)):V×List V:=(.usl 1 (r.map str),[.dead])
noncomputable def Ffp_ent:Ent:=entT [true] Ffp_A Ffp_R fun x=>Ffp x
theorem Ffp_F {list_5:List Str}{r}(h:Ffp list_5=some r):Ffp_ent.F (Ffp_A list_5)=some (Ffp_R r):=entT_F (oA_inj (usl_inj str_inj)) h
noncomputable def Ffp_c:Code:=bodyOf Tryz.f133
noncomputable def Ffp_E:Env:=mkE Tryz.prog [(162,xSortS_ent),(163,Ffbz_ent)]
def Ffp_Q (x:(List Str))(r:(List Str)):St→Prop:=QF Ffp_E Tryz.f133 [true] (Ffp_A x) (Ffp_R r)
theorem Ffp_run (list_5:List Str)(r:(List Str))(h:Ffp list_5=some r):RunF Ffp_E Tryz.f133 [true] 1 (Ffp_A list_5) (Ffp_R r):=by
 show Run _ _ (Ffp_Q list_5 r) [.code Ffp_c] _
 refine rI 7 [(0,.hs 1 0 [] 1 0 (list_5.map str).length)] [(1,some ⟨0,1,list_5.map str⟩)] 2 ?_
 unfold Ffp at h
 refine cq 7 [3] [.hs 1 0 [] 1 0 (list_5.map str).length] 34 ?_
 obtain⟨r2,hr2,h⟩:=bS h
 obtain⟨g3,h⟩:=gG h
 refine oq 50 (.tup []) rfl (e_callV rfl rfl (call_P rfl rfl rfl (avO (hd1 rfl (hd_hs (path:=[]) rfl rfl ra_n rfl)) avN) (xSortS_F hr2) (.inr rfl) (bl_c rfl rfl rfl rfl bl_n) rfl rfl rfl)) ?_
 try rw[len_eqM (f:=str) (xs:=list_5) (ys:=r2) g3]
 refine cq 4 [5] [.hs 1 0 [] 1 0 (r2.map str).length] 66 ?_
 obtain⟨r4,hr4,h⟩:=bS h
 refine oq 82 (.hs 66 0 [] 1 0 (r4.map str).length) rfl (e_callV rfl rfl (call_P rfl rfl rfl (avO (hd1 rfl (hd_hs (path:=[]) rfl rfl ra_n rfl)) avN) (Ffbz_F hr4) (.inr rfl) (bl_c rfl rfl rfl bk_dead bl_n) rfl rfl rfl)) ?_
 refine cq 2 [2] [.hs 66 0 [] 1 0 (r4.map str).length] 98 ?_
 obtain rfl:=Option.some.inj h
 exact s_ret rfl ⟨_,fin (vs:=[.hs 66 0 [] 1 0 (r4.map str).length]) rfl (absE (abs1 rfl (abs_hs rfl rfl)) absEN) rfl (ou_1 rfl (oc_no rfl) ou_n),kl_d kl_n⟩
theorem Ffp_good {G:Go.Ln.Ground}:Good Tryz.prog G 133 Ffp_ent:=gT 1 1 (gl_c xSortS_good (gl_c Ffbz_good gl_n)) (Checked.mixed Tryz.checked) Tryz.func133 (fun a r h=>Ffp_run a r h)
def Ffm_A:Contract→List V:=oA encI_Contract
def Ffm_R (r:(List Str)):V×List V:=(.usl 1 (r.map str),[])
noncomputable def Ffm_ent:Ent:=entT [false] Ffm_A Ffm_R fun x=>Ffm x
theorem Ffm_F {c_1:Contract}{r}(h:Ffm c_1=some r):Ffm_ent.F (Ffm_A c_1)=some (Ffm_R r):=entT_F (oA_inj encI_Contract_inj) h
noncomputable def Ffm_c:Code:=bodyOf Tryz.f105
noncomputable def Ffm_E:Env:=mkE Tryz.prog [(134,Ffg_ent),(133,Ffp_ent)]
def Ffm_Q (x:Contract)(r:(List Str)):St→Prop:=QF Ffm_E Tryz.f105 [false] (Ffm_A x) (Ffm_R r)
theorem Ffm_la_run (c_1:Contract){Q:St→Prop}{K:List It}(hK:noD K=true):∀(x2:Int×(List Str)) (y:(List Str)⊕(List Str)),Ffm_la c_1 x2=some y→(∀r',y=.inl r'→∀st,Ffm_Q c_1 r' st→Q st)→(∀u:(List Str),y=.inr u→Run Ffm_E 0 Q K (sT 25 [(3,.hs 1 0 [] 1 0 (u.map str).length)] [⟨0,1,u.map str⟩] 2))→Run Ffm_E 0 Q (.code (cL (cL (cR (cL (cR (cR Ffm_c))))))::.lp (cL (cL (cR (cL (cR (cR Ffm_c))))))::.blk 0::K) (sT 25 [(3,.hs 1 0 [] 1 0 (x2.2.map str).length),(8,.isl false (c_1.Clauses.map encI_Clause)),(9,I (len c_1.Clauses)),(10,I x2.1)] [⟨0,1,x2.2.map str⟩] 2):=by
 refine fix_indP (Ffm_la_fin c_1) ?_
 intro self ih x2 y h hr hn
 unfold Ffm_la_F at h
 refine cq 5 [11] [B (decide (x2.1<(len c_1.Clauses)))] 18 ?_
 refine sq h (fun h=>?_) fun h=>?_
 ·refine aq 1 ?_
  refine aq 4 ?_
  obtain⟨e3,he3,h⟩:=bS h
  refine oq 34 (.iptr (.agg [str e3.Id,I e3.Kind,I e3.Party,str e3.Action,I e3.Other,I e3.Amount,I e3.When.Op,str e3.When.Name,I e3.When.Day,.isl false (e3.When.Parts.map encI_Condition),I e3.Within,str e3.Repair]) 0) rfl (e_indexAddr rfl rfl rfl (ix_islE rfl rfl rfl rfl he3)) ?_
  refine ck 2 [5,13] [] [50] [] [.hp 50 0 [] 12 0 0,.agg [str e3.Id,I e3.Kind,I e3.Party,str e3.Action,I e3.Other,I e3.Amount,I e3.When.Op,str e3.When.Name,I e3.When.Day,.isl false (e3.When.Parts.map encI_Condition),I e3.Within,str e3.Repair]] [some ⟨0,12,[.agg [str ([]),I (0),I (0),str ([]),I (0),I (0),I (0),str ([]),I (0),.isl true [],I (0),str ([])]]⟩] 66 (by kernel_rfl) ?_
  refine run_row 50 [.agg [str ([]),I (0),I (0),str ([]),I (0),I (0),I (0),str ([]),I (0),.usl 4 (([]).map encO_Condition),I (0),str ([])]] rfl rfl (cvs_c (cv_agg (cvs_c (.refl _) (cvs_c (.refl _) (cvs_c (.refl _) (cvs_c (.refl _) (cvs_c (.refl _) (cvs_c (.refl _) (cvs_c (.refl _) (cvs_c (.refl _) (cvs_c (.refl _) (cvs_c (.nil _) (cvs_c (.refl _) (cvs_c (.refl _) cvs_n))))))))))))) cvs_n) ?_
  refine ck 2 [] [] [50] [] [] [some ⟨2,12,[.agg [str e3.Id,I e3.Kind,I e3.Party,str e3.Action,I e3.Other,I e3.Amount,I e3.When.Op,str e3.When.Name,I e3.When.Day,.isl false (e3.When.Parts.map encI_Condition),I e3.Within,str e3.Repair]]⟩] 82 (by kernel_rfl) ?_
  refine s_draw [0,1,0,0,8,24,60,127,255] rfl (by decide +kernel) ?_
  refine dq [50] [] (.hp 50 0 [] 12 0 6) rfl (e_fieldAddr rfl rfl rfl) ?_
  refine dq [50] [] (.agg [I e3.When.Op,str e3.When.Name,I e3.When.Day,.isl false (e3.When.Parts.map encI_Condition)]) rfl (e_ld rfl rfl) ?_
  refine dk 1 [16] [.hs 1 0 [] 1 0 (x2.2.map str).length] ?_
  refine dq [50] [] (.hp 50 0 [] 12 0 3) rfl (e_fieldAddr rfl rfl rfl) ?_
  refine dq [50] [] (str e3.Action) rfl (e_ld rfl rfl) ?_
  refine dq [] [] (.hs 162 0 [] 1 0 1) rfl (e_buildSlice rfl (bs_mk (f:=I) (xs:=[]) (z:=str ([])) (es:=[str e3.Action]) (ws:=[str e3.Action]) rfl rfl rfl (by decide) rfl (abs_each_plain rfl) rfl)) ?_
  obtain⟨a4,ha4,h⟩:=bS h
  refine dq [1,162] [1] (.hs 178 0 [] 1 0 (a4.map str).length) rfl (e_append rfl rfl rfl rfl rfl (ap_hsM (path:=[]) (f:=str) (xs:=x2.2) (ys:=[e3.Action]) rfl rfl (take_hs rfl rfl rfl) rfl rfl rfl ra_n rfl (by decide) str_cells ha4 rfl to_n)) ?_ (w_app rfl (aw_hs (path:=[]) (f:=str) (xs:=[e3.Action]) rfl rfl ra_n str_flat rfl))
  obtain⟨r5,hr5,h⟩:=bS h
  refine dq [178] [178] (.hs 194 0 [] 1 0 (r5.map str).length) rfl (e_callV rfl rfl (call_P rfl rfl rfl (avS (shP rfl) (avO (hd1 rfl (hd_hs (path:=[]) rfl rfl ra_n rfl)) avN)) (Ffg_F hr5) (.inr rfl) (bl_c rfl rfl rfl bk_dead bl_n) rfl rfl rfl)) ?_ (w_callO rfl rfl rfl rfl (avS (shP rfl) (avO (hd1 rfl (hd_hs (path:=[]) rfl rfl ra_n rfl)) avN)) (Ffg_F hr5) (.inr rfl) rfl)
  refine dk 1 [3] [.hs 194 0 [] 1 0 (r5.map str).length] ?_
  refine de 226 rfl rfl ?_
  refine cq 5 [10] [I (w64 (x2.1+1))] 258 ?_
  refine s_lp ?_
  exact rf [3,8,9,10] [194] (ih _ _ h hr hn :)
 ·refine aq 1 ?_
  exact rf [3] [1] (hn _ (Option.some.inj h).symm :) (hk:=hK)
theorem Ffm_run (c_1:Contract)(r:(List Str))(h:Ffm c_1=some r):RunF Ffm_E Tryz.f105 [false] 0 (Ffm_A c_1) (Ffm_R r):=by
 show Run _ _ (Ffm_Q c_1 r) [.code Ffm_c] _
 refine rI 25 [(0,.agg [.isl false (c_1.Parties.map str),.isl false (c_1.Clauses.map encI_Clause)])] [] 1 ?_
 unfold Ffm at h
 refine ck 7 [1] [] [1] [] [.hp 1 0 [] 2 0 0] [some ⟨0,2,[.agg [.isl false (c_1.Parties.map str),.isl false (c_1.Clauses.map encI_Clause)]]⟩] 33 (by kernel_rfl) ?_
 refine oq 49 (.hs 33 0 [] 1 0 0) rfl (e_buildSlice rfl (bs_mk (f:=I) (xs:=[]) (z:=str ([])) (es:=[]) (ws:=[]) rfl rfl rfl (by decide) rfl (abs_each_plain rfl) rfl)) ?_
 refine cq 7 [3,8] [.hs 33 0 [] 1 0 0,.isl false (c_1.Clauses.map encI_Clause)] 97 ?_
 refine oq 113 (I (len c_1.Clauses)) rfl (e_len rfl rfl rfl (l_isl rfl)) ?_
 refine cq 3 [10] [I (0)] 129 ?_
 obtain⟨y6,hy6,hy61,hy62⟩:=bJ h
 refine s_loop rfl ?_
 refine rf [3,8,9,10] [33] (Ffm_la_run c_1 rfl (0,[]) _ hy6 (fun r' e st hq=>by rw[hy61 r' e] at hq;exact hq) fun u6 hu=>?_)
 replace h:=hy62 u6 hu
 refine cq 3 [23] [.hs 1 0 [] 1 0 (u6.map str).length] 18 ?_
 obtain⟨r7,hr7,h⟩:=bS h
 refine oq 34 (.hs 18 0 [] 1 0 (r7.map str).length) rfl (e_callV rfl rfl (call_P rfl rfl rfl (avO (hd1 rfl (hd_hs (path:=[]) rfl rfl ra_n rfl)) avN) (Ffp_F hr7) (.inr rfl) (bl_c rfl rfl rfl bk_dead bl_n) rfl rfl rfl)) ?_
 refine cq 2 [2] [.hs 18 0 [] 1 0 (r7.map str).length] 50 ?_
 obtain rfl:=Option.some.inj h
 exact s_ret rfl ⟨_,fin (vs:=[.hs 18 0 [] 1 0 (r7.map str).length]) rfl (absE (abs1 rfl (abs_hs rfl rfl)) absEN) rfl (ou_f ou_n),kl_n⟩
theorem Ffm_good {G:Go.Ln.Ground}:Good Tryz.prog G 105 Ffm_ent:=gT 1 0 (gl_c Ffg_good (gl_c Ffp_good gl_n)) (Checked.mixed Tryz.checked) Tryz.func105 (fun a r h=>Ffm_run a r h)
def Ffd_A:Contract→List V:=oA encI_Contract
def Ffd_R (r:Bool):V×List V:=(B r,[])
noncomputable def Ffd_ent:Ent:=entT [false] Ffd_A Ffd_R fun x=>Ffd x
theorem Ffd_F {c_1:Contract}{r}(h:Ffd c_1=some r):Ffd_ent.F (Ffd_A c_1)=some (Ffd_R r):=entT_F (oA_inj encI_Contract_inj) h
noncomputable def Ffd_c:Code:=bodyOf Tryz.f60
noncomputable def Ffd_E:Env:=mkE Tryz.prog [(103,Ffh_ent),(104,Ffn_ent),(105,Ffm_ent),(84,Ffq_ent)]
def Ffd_Q (x:Contract)(r:Bool):St→Prop:=QF Ffd_E Tryz.f60 [false] (Ffd_A x) (Ffd_R r)
theorem Ffd_la_run (c_1:Contract){Q:St→Prop}{K:List It}(hK:noD K=true):∀(x4:Int) (y:Bool⊕Unit),Ffd_la c_1 x4=some y→(∀r',y=.inl r'→∀st,Ffd_Q c_1 r' st→Q st)→(∀u:Unit,y=.inr u→Run Ffd_E 0 Q K (sT 30 [(1,.hp 1 0 [] 2 0 0)] [⟨0,2,[.agg [.isl false (c_1.Parties.map str),.isl false (c_1.Clauses.map encI_Clause)]]⟩] 2))→Run Ffd_E 0 Q (.code (cL (cL (cR (cL (cR (cR Ffd_c))))))::.lp (cL (cL (cR (cL (cR (cR Ffd_c))))))::.blk 0::K) (sT 30 [(1,.hp 1 0 [] 2 0 0),(17,I (len c_1.Clauses)),(18,I x4)] [⟨0,2,[.agg [.isl false (c_1.Parties.map str),.isl false (c_1.Clauses.map encI_Clause)]]⟩] 2):=by
 refine fix_indP (Ffd_la_fin c_1) ?_
 intro self ih x4 y h hr hn
 unfold Ffd_la_F at h
 refine cq 5 [19] [B (decide (x4<(len c_1.Clauses)))] 18 ?_
 refine sq h (fun h=>?_) fun h=>?_
 ·refine aq 1 ?_
  refine cq 11 [21,22] [.agg [.isl false (c_1.Parties.map str),.isl false (c_1.Clauses.map encI_Clause)],I x4] 82 ?_
  obtain⟨r5,hr5,h⟩:=bS h
  refine oq 98 (B r5) rfl (cP (Ffn_F hr5)) ?_
  refine cq 2 [24] [B (!r5)] 114 ?_
  refine sq h (fun h=>?_) fun h=>?_
  ·refine cq 4 [2] [B false] 130 ?_
   exact s_ret rfl (hr _ (Option.some.inj h).symm _ (qp [B false]))
  ·refine aq 1 ?_
   refine cq 5 [18] [I (w64 (x4+1))] 146 ?_
   refine s_lp ?_
   exact rf [1,17,18] [1] (ih _ _ h hr hn :)
 ·refine aq 1 ?_
  exact rf [1] [1] (hn _ (Option.some.inj h).symm :) (hk:=hK)
theorem Ffd_run (c_1:Contract)(r:Bool)(h:Ffd c_1=some r):RunF Ffd_E Tryz.f60 [false] 0 (Ffd_A c_1) (Ffd_R r):=by
 show Run _ _ (Ffd_Q c_1 r) [.code Ffd_c] _
 refine rI 30 [(0,.agg [.isl false (c_1.Parties.map str),.isl false (c_1.Clauses.map encI_Clause)])] [] 1 ?_
 unfold Ffd at h
 refine ck 10 [1,5] [] [1] [] [.hp 1 0 [] 2 0 0,.isl false (c_1.Parties.map str)] [some ⟨0,2,[.agg [.isl false (c_1.Parties.map str),.isl false (c_1.Clauses.map encI_Clause)]]⟩] 65 (by kernel_rfl) ?_
 obtain⟨r2,hr2,h⟩:=bS h
 refine oq 81 (B r2) rfl (cP (Ffh_F hr2)) ?_
 refine cq 2 [8] [B (!r2)] 113 ?_
 obtain⟨y3,hy3,hy31,hy32⟩:=bJ h
 have j3:∀u3,y3=.inr u3→Run Ffd_E 0 (Ffd_Q c_1 r) (.code (cR (cL (cR Ffd_c)))::.code (cR (cR Ffd_c))::[]) (sT 30 [(1,.hp 1 0 [] 2 0 0),(14,B u3)] [⟨0,2,[.agg [.isl false (c_1.Parties.map str),.isl false (c_1.Clauses.map encI_Clause)]]⟩] 2):=by
  intro u3 hu
  replace h:=hy32 u3 hu
  refine sq h (fun h=>?_) fun h=>?_
  ·refine cq 4 [2] [B false] 18 ?_
   obtain rfl:=Option.some.inj h
   exact s_ret rfl (qp [B false])
  ·refine aq 1 ?_
   refine cq 5 [16] [.isl false (c_1.Clauses.map encI_Clause)] 34 ?_
   refine oq 50 (I (len c_1.Clauses)) rfl (e_len rfl rfl rfl (l_isl rfl)) ?_
   refine cq 3 [18] [I (0)] 66 ?_
   obtain⟨y6,hy6,hy61,hy62⟩:=bJ h
   refine s_loop rfl ?_
   refine rf [1,17,18] [1] (Ffd_la_run c_1 rfl 0 _ hy6 (fun r' e st hq=>by rw[hy61 r' e] at hq;exact hq) fun u6 hu=>?_)
   replace h:=hy62 u6 hu
   refine cq 3 [26] [.agg [.isl false (c_1.Parties.map str),.isl false (c_1.Clauses.map encI_Clause)]] 18 ?_
   obtain⟨r7,hr7,h⟩:=bS h
   refine oq 34 (.hs 18 0 [] 1 0 (r7.map str).length) rfl (cP (Ffm_F hr7)) ?_
   refine oq 50 (I (len r7)) rfl (e_len rfl rfl rfl (l_hsM (f:=str) (xs:=r7) rfl rfl)) ?_
   refine cq 3 [2] [B (decide ((len r7)≤16))] 82 ?_
   obtain rfl:=Option.some.inj h
   exact s_ret rfl (qp [B (decide ((len r7)≤16))])
 have r3:∀r',y3=.inl r'→∀st,Ffd_Q c_1 r' st→(Ffd_Q c_1 r) st:=fun r' e st hq=>by rw[hy31 r' e] at hq;exact hq
 replace h:=hy3
 refine sp 8 h rfl (fun h=>?_) fun h=>?_
 ·refine cq 7 [14] [B true] 209 ?_
  exact rf [1,14] [1] (j3 _ (Option.some.inj h).symm :)
 ·refine cq 2 [10] [.isl false (c_1.Clauses.map encI_Clause)] 145 ?_
  refine oy 161 (I (len c_1.Clauses)) rfl (e_len rfl rfl rfl (l_isl rfl)) ?_
  obtain⟨r8,hr8,h⟩:=bS h
  refine oy 177 (B r8) rfl (cP (Ffq_F hr8)) ?_
  refine cq 3 [14] [B (!r8)] 209 ?_
  exact rf [1,14] [1] (j3 _ (Option.some.inj h).symm :)
theorem Ffd_good {G:Go.Ln.Ground}:Good Tryz.prog G 60 Ffd_ent:=gT 1 0 (gl_c Ffh_good (gl_c Ffn_good (gl_c Ffm_good (gl_c Ffq_good gl_n)))) (Checked.mixed Tryz.checked) Tryz.func60 (fun a r h=>Ffd_run a r h)
def Ffcd_A:((List Int)×Int)→List V:=cA (slE I) (oA I)
def Ffcd_R (r:Int):V×List V:=(I r,[])
noncomputable def Ffcd_ent:Ent:=entT [false,false] Ffcd_A Ffcd_R fun x=>Ffcd x.1 x.2
theorem Ffcd_F {s_1:List Int}{v_2:Int}{r}(h:Ffcd s_1 v_2=some r):Ffcd_ent.F (Ffcd_A (s_1,v_2))=some (Ffcd_R r):=entT_F (cA_inj (isl_inj I_inj) (oA_inj I_inj)) h
noncomputable def Ffcd_c:Code:=bodyOf Tryz.f142
noncomputable def Ffcd_E:Env:=mkE Tryz.prog []
def Ffcd_Q (x:(List Int)×Int)(r:Int):St→Prop:=QF Ffcd_E Tryz.f142 [false,false] (Ffcd_A x) (Ffcd_R r)
theorem Ffcd_la_run (s_1:List Int)(v_2:Int){Q:St→Prop}{K:List It}(hK:noD K=true):∀(x3:Int) (y:Int⊕Unit),Ffcd_la s_1 v_2 x3=some y→(∀r',y=.inl r'→∀st,Ffcd_Q (s_1,v_2) r' st→Q st)→(∀u:Unit,y=.inr u→Run Ffcd_E 0 Q K (sT 19 [] [] 1))→Run Ffcd_E 0 Q (.code (cL (cL (cR (cL (cR Ffcd_c)))))::.lp (cL (cL (cR (cL (cR Ffcd_c)))))::.blk 0::K) (sT 19 [(0,.isl false (s_1.map I)),(1,I v_2),(7,I (len s_1)),(8,I x3)] [] 1):=by
 refine fix_indP (Ffcd_la_fin s_1 v_2) ?_
 intro self ih x3 y h hr hn
 unfold Ffcd_la_F at h
 refine cq 5 [9] [B (decide (x3<(len s_1)))] 17 ?_
 refine sq h (fun h=>?_) fun h=>?_
 ·refine aq 1 ?_
  refine cq 12 [5,11,12,13] [I x3,I v_2,.isl false (s_1.map I),I x3] 97 ?_
  obtain⟨e4,he4,h⟩:=bS h
  refine oq 113 (.iptr (I e4) 0) rfl (e_indexAddr rfl rfl rfl (ix_islE rfl rfl rfl rfl he4)) ?_
  refine cq 3 [16] [B (v_2==e4)] 145 ?_
  refine sq h (fun h=>?_) fun h=>?_
  ·refine cq 5 [4] [I x3] 177 ?_
   exact s_ret rfl (hr _ (Option.some.inj h).symm _ (qp [I x3]))
  ·refine aq 1 ?_
   refine cq 5 [8] [I (w64 (x3+1))] 177 ?_
   refine s_lp ?_
   exact rf [0,1,7,8] [] (ih _ _ h hr hn :)
 ·refine aq 1 ?_
  exact rf [] [] (hn _ (Option.some.inj h).symm :) (hk:=hK)
theorem Ffcd_run (s_1:List Int)(v_2:Int)(r:Int)(h:Ffcd s_1 v_2=some r):RunF Ffcd_E Tryz.f142 [false,false] 0 (Ffcd_A (s_1,v_2)) (Ffcd_R r):=by
 show Run _ _ (Ffcd_Q (s_1,v_2) r) [.code Ffcd_c] _
 refine rI 19 [(0,.isl false (s_1.map I)),(1,I v_2)] [] 1 ?_
 unfold Ffcd at h
 refine cq 8 [6] [.isl false (s_1.map I)] 33 ?_
 refine oq 49 (I (len s_1)) rfl (e_len rfl rfl rfl (l_isl rfl)) ?_
 refine cq 3 [8] [I (0)] 65 ?_
 obtain⟨y5,hy5,hy51,hy52⟩:=bJ h
 refine s_loop rfl ?_
 refine rf [0,1,7,8] [] (Ffcd_la_run s_1 v_2 rfl 0 _ hy5 (fun r' e st hq=>by rw[hy51 r' e] at hq;exact hq) fun u5 hu=>?_)
 replace h:=hy52 u5 hu
 refine cq 4 [4] [I (-1)] 17 ?_
 obtain rfl:=Option.some.inj h
 exact s_ret rfl (qp [I (-1)])
theorem Ffcd_good {G:Go.Ln.Ground}:Good Tryz.prog G 142 Ffcd_ent:=gT 2 0 gl_n (Checked.mixed Tryz.checked) Tryz.func142 (fun a r h=>Ffcd_run a.1 a.2 r h)
def Ffca_A:((List Int)×Int)→List V:=cA (slE I) (oA I)
def Ffca_R (r:Bool):V×List V:=(B r,[])
noncomputable def Ffca_ent:Ent:=entT [false,false] Ffca_A Ffca_R fun x=>Ffca x.1 x.2
theorem Ffca_F {s_1:List Int}{v_2:Int}{r}(h:Ffca s_1 v_2=some r):Ffca_ent.F (Ffca_A (s_1,v_2))=some (Ffca_R r):=entT_F (cA_inj (isl_inj I_inj) (oA_inj I_inj)) h
noncomputable def Ffca_c:Code:=bodyOf Tryz.f110
noncomputable def Ffca_E:Env:=mkE Tryz.prog [(142,Ffcd_ent)]
def Ffca_Q (x:(List Int)×Int)(r:Bool):St→Prop:=QF Ffca_E Tryz.f110 [false,false] (Ffca_A x) (Ffca_R r)
theorem Ffca_run (s_1:List Int)(v_2:Int)(r:Bool)(h:Ffca s_1 v_2=some r):RunF Ffca_E Tryz.f110 [false,false] 0 (Ffca_A (s_1,v_2)) (Ffca_R r):=by
 show Run _ _ (Ffca_Q (s_1,v_2) r) [.code Ffca_c] _
 refine rI 9 [(0,.isl false (s_1.map I)),(1,I v_2)] [] 1 ?_
 unfold Ffca at h
 refine cq 8 [5,6] [.isl false (s_1.map I),I v_2] 49 ?_
 obtain⟨r3,hr3,h⟩:=bS h
 refine oq 65 (I r3) rfl (cP (Ffcd_F hr3)) ?_
 refine cq 3 [4] [B (decide (r3≥0))] 97 ?_
 obtain rfl:=Option.some.inj h
 exact s_ret rfl (qp [B (decide (r3≥0))])
theorem Ffca_good {G:Go.Ln.Ground}:Good Tryz.prog G 110 Ffca_ent:=gT 2 0 (gl_c Ffcd_good gl_n) (Checked.mixed Tryz.checked) Tryz.func110 (fun a r h=>Ffca_run a.1 a.2 r h)
def Fff_A:(Contract×Int)→List V:=cA encI_Contract (oA I)
def Fff_R (r:(List Int)×Bool×Bool):V×List V:=(.tup [.usl 1 (r.1.map I),B r.2.1,B r.2.2],[])
noncomputable def Fff_ent:Ent:=entT [false,false] Fff_A Fff_R fun x=>Fff x.1 x.2
theorem Fff_F {c_1:Contract}{i_2:Int}{r}(h:Fff c_1 i_2=some r):Fff_ent.F (Fff_A (c_1,i_2))=some (Fff_R r):=entT_F (cA_inj encI_Contract_inj (oA_inj I_inj)) h
noncomputable def Fff_c:Code:=bodyOf Tryz.f67
noncomputable def Fff_E:Env:=mkE Tryz.prog [(60,Ffd_ent),(109,Ffi_ent),(110,Ffca_ent),(84,Ffq_ent)]
def Fff_Q (x:Contract×Int)(r:(List Int)×Bool×Bool):St→Prop:=QF Fff_E Tryz.f67 [false,false] (Fff_A x) (Fff_R r)
theorem Fff_la_run (c_1:Contract)(i_2:Int){Q:St→Prop}{K:List It}(hK:noD K=true):∀(x5:Int×(List Int)) (y:((List Int)×Bool×Bool)⊕(List Int)),Fff_la c_1 i_2 x5=some y→(∀r',y=.inl r'→∀st,Fff_Q (c_1,i_2) r' st→Q st)→(∀u:(List Int),y=.inr u→Run Fff_E 0 Q K (sT 46 [(7,.hs 1 0 [] 1 0 (u.map I).length)] [⟨0,1,u.map I⟩] 2))→Run Fff_E 0 Q (.code (cL (cL (cL (cR (cR (cR Fff_c))))))::.lp (cL (cL (cL (cR (cR (cR Fff_c))))))::.blk 0::K) (sT 46 [(1,I x5.1),(2,.hp 1 0 [] 2 0 0),(7,.hs 2 0 [] 1 0 (x5.2.map I).length)] [⟨0,2,[.agg [.isl false (c_1.Parties.map str),.isl false (c_1.Clauses.map encI_Clause)]]⟩,⟨0,1,x5.2.map I⟩] 3):=by
 refine fix_indP (Fff_la_fin c_1 i_2) ?_
 intro self ih x5 y h hr hn
 unfold Fff_la_F at h
 refine cq 6 [23,24] [.isl false (c_1.Clauses.map encI_Clause),I x5.1] 51 ?_
 obtain⟨e6,he6,h⟩:=bS h
 refine oq 67 (.iptr (.agg [str e6.Id,I e6.Kind,I e6.Party,str e6.Action,I e6.Other,I e6.Amount,I e6.When.Op,str e6.When.Name,I e6.When.Day,.isl false (e6.When.Parts.map encI_Condition),I e6.Within,str e6.Repair]) 0) rfl (e_indexAddr rfl rfl rfl (ix_islE rfl rfl rfl rfl he6)) ?_
 refine cq 4 [28] [B (!(e6.Repair==([]:Str)))] 115 ?_
 refine sq h (fun h=>?_) fun h=>?_
 ·refine aq 1 ?_
  refine aq 3 ?_
  refine s_draw [0,0,2,0,14,30,62,127,255] rfl (by decide +kernel) ?_
  refine dq [1] [] (.agg [.isl false (c_1.Parties.map str),.isl false (c_1.Clauses.map encI_Clause)]) rfl (e_ld rfl rfl) ?_
  refine dq [1] [] (.hp 1 0 [] 2 0 1) rfl (e_fieldAddr rfl rfl rfl) ?_
  refine dq [1] [] (.isl false (c_1.Clauses.map encI_Clause)) rfl (e_ld rfl rfl) ?_
  refine dk 1 [32] [I x5.1] ?_
  obtain⟨e7,he7,h⟩:=bS h
  refine dq [] [] (.iptr (.agg [str e7.Id,I e7.Kind,I e7.Party,str e7.Action,I e7.Other,I e7.Amount,I e7.When.Op,str e7.When.Name,I e7.When.Day,.isl false (e7.When.Parts.map encI_Condition),I e7.Within,str e7.Repair]) 0) rfl (e_indexAddr rfl rfl rfl (ix_islE rfl rfl rfl rfl he7)) ?_
  refine dq [] [] (.iptr (.agg [str e7.Id,I e7.Kind,I e7.Party,str e7.Action,I e7.Other,I e7.Amount,I e7.When.Op,str e7.When.Name,I e7.When.Day,.isl false (e7.When.Parts.map encI_Condition),I e7.Within,str e7.Repair]) 11) rfl (e_fieldAddr rfl rfl rfl) ?_
  refine dq [] [] (str e7.Repair) rfl (e_ld rfl rfl) ?_
  obtain⟨r8,hr8,h⟩:=bS h
  refine dq [] [] (I r8) rfl (cP (Ffi_F hr8)) ?_ (w_callO rfl rfl rfl rfl (avS (shP rfl) (avS (shP rfl) avN)) (Ffi_F hr8) (.inr rfl) rfl)
  refine dk 1 [1] [I r8] ?_
  refine de 259 rfl rfl ?_
  refine cq 4 [37,38] [.hs 2 0 [] 1 0 (x5.2.map I).length,I r8] 291 ?_
  obtain⟨r9,hr9,h⟩:=bS h
  refine oq 307 (B r9) rfl (e_callV rfl rfl (call_P rfl rfl rfl (avS (sh1 rfl rfl (sh_hsM (f:=I) (g:=I) (xs:=x5.2) rfl rfl (imms_of I_imm))) (avS (shP rfl) avN)) (Ffca_F hr9) (.inl rfl) bl_n rfl rfl rfl)) ?_
  refine aq 1 ?_
  refine sq h (fun h=>?_) fun h=>?_
  ·refine cq 7 [4,5,6] [.hs 2 0 [] 1 0 (x5.2.map I).length,B true,B true] 371 ?_
   exact s_ret rfl (hr _ (Option.some.inj h).symm _ ⟨_,fin (vs:=[.hs 2 0 [] 1 0 (x5.2.map I).length,B true,B true]) rfl (absE (abs1 rfl (abs_hs rfl rfl)) (absE (absorb_plain rfl) (absE (absorb_plain rfl) absEN))) rfl (ou_f (ou_f ou_n)),kl_n⟩)
  ·refine aq 1 ?_
   refine cq 3 [41,42] [.hs 2 0 [] 1 0 (x5.2.map I).length,I r8] 339 ?_
   refine oq 355 (.hs 339 0 [] 1 0 1) rfl (e_buildSlice rfl (bs_mk (f:=I) (xs:=[]) (z:=I (0)) (es:=[I r8]) (ws:=[I r8]) rfl rfl rfl (by decide) rfl (abs_each_plain rfl) rfl)) ?_
   obtain⟨a10,ha10,h⟩:=bS h
   refine oq 371 (.hs 355 0 [] 1 0 (a10.map I).length) rfl (e_append rfl rfl rfl rfl rfl (ap_hsM (path:=[]) (f:=I) (xs:=x5.2) (ys:=[r8]) rfl rfl (take_hs rfl rfl rfl) rfl rfl rfl ra_n rfl (by decide) I_cells ha10 rfl to_n)) ?_
   refine cq 3 [7] [.hs 355 0 [] 1 0 (a10.map I).length] 387 ?_
   refine s_lp ?_
   exact rf [1,2,7] [1,355] (ih _ _ h hr hn :)
 ·refine aq 1 ?_
  exact rf [7] [2] (hn _ (Option.some.inj h).symm :) (hk:=hK)
theorem Fff_run (c_1:Contract)(i_2:Int)(r:(List Int)×Bool×Bool)(h:Fff c_1 i_2=some r):RunF Fff_E Tryz.f67 [false,false] 0 (Fff_A (c_1,i_2)) (Fff_R r):=by
 show Run _ _ (Fff_Q (c_1,i_2) r) [.code Fff_c] _
 refine rI 46 [(0,.agg [.isl false (c_1.Parties.map str),.isl false (c_1.Clauses.map encI_Clause)]),(1,I i_2)] [] 1 ?_
 unfold Fff at h
 refine ck 11 [2,8] [] [1] [] [.hp 1 0 [] 2 0 0,.agg [.isl false (c_1.Parties.map str),.isl false (c_1.Clauses.map encI_Clause)]] [some ⟨0,2,[.agg [.isl false (c_1.Parties.map str),.isl false (c_1.Clauses.map encI_Clause)]]⟩] 81 (by kernel_rfl) ?_
 obtain⟨r3,hr3,h⟩:=bS h
 refine oq 97 (B r3) rfl (cP (Ffd_F hr3)) ?_
 refine cq 2 [11] [B (!r3)] 129 ?_
 obtain⟨y4,hy4,hy41,hy42⟩:=bJ h
 have j4:∀u4,y4=.inr u4→Run Fff_E 0 (Fff_Q (c_1,i_2) r) (.code (cR (cL (cR Fff_c)))::.code (cR (cR Fff_c))::[]) (sT 46 [(1,I i_2),(2,.hp 1 0 [] 2 0 0),(19,B u4)] [⟨0,2,[.agg [.isl false (c_1.Parties.map str),.isl false (c_1.Clauses.map encI_Clause)]]⟩] 2):=by
  intro u4 hu
  replace h:=hy42 u4 hu
  refine sq h (fun h=>?_) fun h=>?_
  ·refine cq 6 [4,5,6] [.isl true [],B false,B false] 50 ?_
   refine run_own 4 0 1 66 (.hs 50 0 [] 1 0 0) rfl rfl rfl rfl rfl ?_
   obtain rfl:=Option.some.inj h
   exact s_ret rfl ⟨_,fin (vs:=[.hs 50 0 [] 1 0 0,B false,B false]) rfl (absE (abs1 rfl (abs_hs (k:=0) (es:=[]) rfl rfl)) (absE (absorb_plain rfl) (absE (absorb_plain rfl) absEN))) rfl (ou_f (ou_f ou_n)),kl_n⟩
  ·refine aq 1 ?_
   refine cq 3 [20] [I i_2] 18 ?_
   refine oq 34 (.hs 18 0 [] 1 0 1) rfl (e_buildSlice rfl (bs_mk (f:=I) (xs:=[]) (z:=I (0)) (es:=[I i_2]) (ws:=[I i_2]) rfl rfl rfl (by decide) rfl (abs_each_plain rfl) rfl)) ?_
   refine cq 4 [7] [.hs 18 0 [] 1 0 1] 50 ?_
   obtain⟨y11,hy11,hy111,hy112⟩:=bJ h
   refine s_loop rfl ?_
   refine rf [1,2,7] [1,18] (Fff_la_run c_1 i_2 rfl (i_2,[i_2]) _ hy11 (fun r' e st hq=>by rw[hy111 r' e] at hq;exact hq) fun u11 hu=>?_)
   replace h:=hy112 u11 hu
   refine cq 7 [4,5,6] [.hs 1 0 [] 1 0 (u11.map I).length,B false,B true] 66 ?_
   obtain rfl:=Option.some.inj h
   exact s_ret rfl ⟨_,fin (vs:=[.hs 1 0 [] 1 0 (u11.map I).length,B false,B true]) rfl (absE (abs1 rfl (abs_hs rfl rfl)) (absE (absorb_plain rfl) (absE (absorb_plain rfl) absEN))) rfl (ou_f (ou_f ou_n)),kl_n⟩
 have r4:∀r',y4=.inl r'→∀st,Fff_Q (c_1,i_2) r' st→(Fff_Q (c_1,i_2) r) st:=fun r' e st hq=>by rw[hy41 r' e] at hq;exact hq
 replace h:=hy4
 refine sp 11 h rfl (fun h=>?_) fun h=>?_
 ·refine cq 9 [19] [B true] 257 ?_
  exact rf [1,2,19] [1] (j4 _ (Option.some.inj h).symm :)
 ·refine cq 3 [12,14] [I i_2,.isl false (c_1.Clauses.map encI_Clause)] 177 ?_
  refine oy 193 (I (len c_1.Clauses)) rfl (e_len rfl rfl rfl (l_isl rfl)) ?_
  refine cq 1 [16] [I (w64 ((len c_1.Clauses) - 1))] 209 ?_
  obtain⟨r12,hr12,h⟩:=bS h
  refine oy 225 (B r12) rfl (cP (Ffq_F hr12)) ?_
  refine cq 3 [19] [B (!r12)] 257 ?_
  exact rf [1,2,19] [1] (j4 _ (Option.some.inj h).symm :)
theorem Fff_good {G:Go.Ln.Ground}:Good Tryz.prog G 67 Fff_ent:=gT 2 0 (gl_c Ffd_good (gl_c Ffi_good (gl_c Ffca_good (gl_c Ffq_good gl_n)))) (Checked.mixed Tryz.checked) Tryz.func67 (fun a r h=>Fff_run a.1 a.2 r h)
def Ffb_A:(Int×Contract)→List V:=cA I (oA (fun x:Contract=>.iptr (encI_Contract x) 0))
def Ffb_R (r:Bool):V×List V:=(B r,[])
noncomputable def Ffb_ent:Ent:=entT [false,false] Ffb_A Ffb_R fun x=>Ffb x.1 x.2
theorem Ffb_F {i_1:Int}{a_2:Contract}{r}(h:Ffb i_1 a_2=some r):Ffb_ent.F (Ffb_A (i_1,a_2))=some (Ffb_R r):=entT_F (cA_inj I_inj (oA_inj (iptr_inj encI_Contract_inj))) h
noncomputable def Ffb_c:Code:=bodyOf Tryz.f66
noncomputable def Ffb_E:Env:=mkE Tryz.prog [(67,Fff_ent)]
def Ffb_Q (x:Int×Contract)(r:Bool):St→Prop:=QF Ffb_E Tryz.f66 [false,false] (Ffb_A x) (Ffb_R r)
theorem Ffb_run (i_1:Int)(a_2:Contract)(r:Bool)(h:Ffb i_1 a_2=some r):RunF Ffb_E Tryz.f66 [false,false] 0 (Ffb_A (i_1,a_2)) (Ffb_R r):=by
 show Run _ _ (Ffb_Q (i_1,a_2) r) [.code Ffb_c] _
 refine rI 15 [(0,I i_1),(1,.iptr (.agg [.isl false (a_2.Parties.map str),.isl false (a_2.Clauses.map encI_Clause)]) 0)] [] 1 ?_
 unfold Ffb at h
 refine cq 8 [8,9] [.agg [.isl false (a_2.Parties.map str),.isl false (a_2.Clauses.map encI_Clause)],I i_1] 49 ?_
 obtain⟨r3,hr3,h⟩:=bS h
 refine oq 65 (.tup [.hs 49 0 [] 1 0 (r3.1.map I).length,B r3.2.1,B r3.2.2]) rfl (cP (Fff_F hr3)) ?_
 refine cq 13 [3] [B r3.2.1] 209 ?_
 obtain rfl:=Option.some.inj h
 exact s_ret rfl (qp [B r3.2.1])
theorem Ffb_good {G:Go.Ln.Ground}:Good Tryz.prog G 66 Ffb_ent:=gT 2 0 (gl_c Fff_good gl_n) (Checked.mixed Tryz.checked) Tryz.func66 (fun a r h=>Ffb_run a.1 a.2 r h)
def Ffk_A:(Contract×Contract)→List V:=cA encI_Contract (oA (fun x:Contract=>(.fn 66 [.iptr (encI_Contract x) 0]:V)))
def Ffk_R (r:(List Int)):V×List V:=(.usl 1 (r.map I),[])
noncomputable def Ffk_ent:Ent:=entT [false,false] Ffk_A Ffk_R fun x=>Ffk x.1 x.2
theorem Ffk_F {c_1:Contract}{holds_2:Contract}{r}(h:Ffk c_1 holds_2=some r):Ffk_ent.F (Ffk_A (c_1,holds_2))=some (Ffk_R r):=entT_F (cA_inj encI_Contract_inj (oA_inj (fn_inj1 encI_Contract_inj))) h
noncomputable def Ffk_c:Code:=bodyOf Tryz.f61
noncomputable abbrev Ffk_ka:Code:=cL (cL (cR (cL (cR (cR Ffk_c)))))
noncomputable def Ffk_E:Env:=mkE Tryz.prog [(66,Ffb_ent)]
def Ffk_Q (x:Contract×Contract)(r:(List Int)):St→Prop:=QF Ffk_E Tryz.f61 [false,false] (Ffk_A x) (Ffk_R r)
theorem Ffk_la_run (c_1:Contract)(holds_2:Contract){Q:St→Prop}{K:List It}(hK:noD K=true):∀(x3:Int×(List Int)) (y:(List Int)⊕(List Int)),Ffk_la c_1 holds_2 x3=some y→(∀r',y=.inl r'→∀st,Ffk_Q (c_1,holds_2) r' st→Q st)→(∀u:(List Int),y=.inr u→Run Ffk_E 0 Q K (sT 23 [(5,.hs 1 0 [] 1 0 (u.map I).length)] [⟨0,1,u.map I⟩] 2))→Run Ffk_E 0 Q (.code Ffk_ka::.lp Ffk_ka::.blk 0::K) (sT 23 [(1,.fn 66 [.iptr (.agg [.isl false (holds_2.Parties.map str),.isl false (holds_2.Clauses.map encI_Clause)]) 0]),(5,.hs 1 0 [] 1 0 (x3.2.map I).length),(10,I (len c_1.Clauses)),(11,I x3.1)] [⟨0,1,x3.2.map I⟩] 2):=by
 refine fix_indP (Ffk_la_fin c_1 holds_2) ?_
 intro self ih x3 y h hr hn
 unfold Ffk_la_F at h
 refine cq 5 [12] [B (decide (x3.1<(len c_1.Clauses)))] 18 ?_
 refine sq h (fun h=>?_) fun h=>?_
 ·refine aq 1 ?_
  refine cq 11 [6,14,15] [I x3.1,.fn 66 [.iptr (.agg [.isl false (holds_2.Parties.map str),.isl false (holds_2.Clauses.map encI_Clause)]) 0],I x3.1] 82 ?_
  obtain⟨r4,hr4,h⟩:=bS h
  refine oq 98 (B r4) rfl (cP (Ffb_F hr4)) ?_
  refine aq 1 ?_
  obtain⟨y5,hy5,hy51,hy52⟩:=bL h
  have j5:∀u5,y5=.inr u5→Run Ffk_E 0 Q (.blk 1::.code (cR (cR (cR Ffk_ka)))::.lp Ffk_ka::.blk 0::K) (sT 23 [(1,.fn 66 [.iptr (.agg [.isl false (holds_2.Parties.map str),.isl false (holds_2.Clauses.map encI_Clause)]) 0]),(5,.hs 1 0 [] 1 0 (u5.map I).length),(10,I (len c_1.Clauses)),(11,I x3.1)] [⟨0,1,u5.map I⟩] 2):=by
   intro u5 hu
   replace h:=hy52 u5 hu
   refine cq 5 [11] [I (w64 (x3.1+1))] 34 ?_
   refine s_lp ?_
   exact rf [1,5,10,11] [1] (ih _ _ h hr hn :)
  have r5:∀r',y5=.inl r'→∀st,Ffk_Q (c_1,holds_2) r' st→Q st:=fun r' e st hq=>hr r' (hy51 r' e) st hq
  replace h:=hy5
  refine sq h (fun h=>?_) fun h=>?_
  ·refine cq 3 [17,18] [.hs 1 0 [] 1 0 (x3.2.map I).length,I x3.1] 130 ?_
   refine oq 146 (.hs 130 0 [] 1 0 1) rfl (e_buildSlice rfl (bs_mk (f:=I) (xs:=[]) (z:=I (0)) (es:=[I x3.1]) (ws:=[I x3.1]) rfl rfl rfl (by decide) rfl (abs_each_plain rfl) rfl)) ?_
   obtain⟨a6,ha6,h⟩:=bS h
   refine oq 162 (.hs 146 0 [] 1 0 (a6.map I).length) rfl (e_append rfl rfl rfl rfl rfl (ap_hsM (path:=[]) (f:=I) (xs:=x3.2) (ys:=[x3.1]) rfl rfl (take_hs rfl rfl rfl) rfl rfl rfl ra_n rfl (by decide) I_cells ha6 rfl to_n)) ?_
   refine cq 2 [5] [.hs 146 0 [] 1 0 (a6.map I).length] 178 ?_
   exact rf [1,5,10,11] [146] (j5 _ (Option.some.inj h).symm :)
  ·refine aq 1 ?_
   exact rf [1,5,10,11] [1] (j5 _ (Option.some.inj h).symm :)
 ·refine aq 1 ?_
  exact rf [5] [1] (hn _ (Option.some.inj h).symm :) (hk:=hK)
theorem Ffk_run (c_1:Contract)(holds_2:Contract)(r:(List Int))(h:Ffk c_1 holds_2=some r):RunF Ffk_E Tryz.f61 [false,false] 0 (Ffk_A (c_1,holds_2)) (Ffk_R r):=by
 show Run _ _ (Ffk_Q (c_1,holds_2) r) [.code Ffk_c] _
 refine rI 23 [(0,.agg [.isl false (c_1.Parties.map str),.isl false (c_1.Clauses.map encI_Clause)]),(1,.fn 66 [.iptr (.agg [.isl false (holds_2.Parties.map str),.isl false (holds_2.Clauses.map encI_Clause)]) 0])] [] 1 ?_
 unfold Ffk at h
 refine ck 7 [2] [] [1] [] [.hp 1 0 [] 2 0 0] [some ⟨0,2,[.agg [.isl false (c_1.Parties.map str),.isl false (c_1.Clauses.map encI_Clause)]]⟩] 33 (by kernel_rfl) ?_
 refine oq 49 (.hs 33 0 [] 1 0 0) rfl (e_buildSlice rfl (bs_mk (f:=I) (xs:=[]) (z:=I (0)) (es:=[]) (ws:=[]) rfl rfl rfl (by decide) rfl (abs_each_plain rfl) rfl)) ?_
 refine cq 7 [5,9] [.hs 33 0 [] 1 0 0,.isl false (c_1.Clauses.map encI_Clause)] 97 ?_
 refine oq 113 (I (len c_1.Clauses)) rfl (e_len rfl rfl rfl (l_isl rfl)) ?_
 refine cq 3 [11] [I (0)] 129 ?_
 obtain⟨y7,hy7,hy71,hy72⟩:=bJ h
 refine s_loop rfl ?_
 refine rf [1,5,10,11] [33] (Ffk_la_run c_1 holds_2 rfl (0,[]) _ hy7 (fun r' e st hq=>by rw[hy71 r' e] at hq;exact hq) fun u7 hu=>?_)
 replace h:=hy72 u7 hu
 refine cq 5 [4] [.hs 1 0 [] 1 0 (u7.map I).length] 34 ?_
 obtain rfl:=Option.some.inj h
 exact s_ret rfl ⟨_,fin (vs:=[.hs 1 0 [] 1 0 (u7.map I).length]) rfl (absE (abs1 rfl (abs_hs rfl rfl)) absEN) rfl (ou_f (ou_f ou_n)),kl_n⟩
theorem Ffk_good {G:Go.Ln.Ground}:Good Tryz.prog G 61 Ffk_ent:=gT 2 0 (gl_c Ffb_good gl_n) (Checked.mixed Tryz.checked) Tryz.func61 (fun a r h=>Ffk_run a.1 a.2 r h)
def Ffa_A:Contract→List V:=oA encI_Contract
def Ffa_R (r:(List Int)×Bool):V×List V:=(.tup [.usl 1 (r.1.map I),B r.2],[])
noncomputable def Ffa_ent:Ent:=entT [false] Ffa_A Ffa_R fun x=>Ffa x
theorem Ffa_F {c_1:Contract}{r}(h:Ffa c_1=some r):Ffa_ent.F (Ffa_A c_1)=some (Ffa_R r):=entT_F (oA_inj encI_Contract_inj) h
noncomputable def Ffa_c:Code:=bodyOf Tryz.f25
end Go.Ln
