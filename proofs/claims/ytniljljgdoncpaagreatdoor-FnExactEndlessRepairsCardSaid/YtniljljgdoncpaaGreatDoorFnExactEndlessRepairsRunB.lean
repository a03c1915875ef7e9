/-
  Each function of the program computes its plain function.
-/
import Derived.Test.YtniljljgdoncpaaGreatDoorFnExactEndlessRepairsRunA
set_option maxHeartbeats 4000000
set_option linter.unusedVariables false
set_option linter.unusedSimpArgs false
set_option maxRecDepth 100000
namespace Go.Ln
open Go Go.Proofs
noncomputable def Ffa_E:Env:=mkE Tryz.prog [(60,Ffd_ent),(61,Ffk_ent)]
def Ffa_Q (x:Contract)(r:(List Int)×Bool):St→Prop:=QF Ffa_E Tryz.f25 [false] (Ffa_A x) (Ffa_R r)
theorem Ffa_run (c_1:Contract)(r:(List Int)×Bool)(h:Ffa c_1=some r):RunF Ffa_E Tryz.f25 [false] 0 (Ffa_A c_1) (Ffa_R r):=by
 show Run _ _ (Ffa_Q c_1 r) [.code Ffa_c] _
 refine rI 10 [(0,.agg [.isl false (c_1.Parties.map str),.isl false (c_1.Clauses.map encI_Clause)])] [] 1 ?_
 unfold Ffa at h
 refine ck 10 [1,4] [] [1] [] [.hp 1 0 [] 2 0 0,.agg [.isl false (c_1.Parties.map str),.isl false (c_1.Clauses.map encI_Clause)]] [some ⟨0,2,[.agg [.isl false (c_1.Parties.map str),.isl false (c_1.Clauses.map encI_Clause)]]⟩] 65 (by kernel_rfl) ?_
 obtain⟨r2,hr2,h⟩:=bS h
 refine oq 81 (B r2) rfl (cP (Ffd_F hr2)) ?_
 refine cq 2 [6] [B (!r2)] 97 ?_
 refine sq h (fun h=>?_) fun h=>?_
 ·refine cq 5 [2,3] [.isl true [],B false] 129 ?_
  refine run_own 2 0 1 145 (.hs 129 0 [] 1 0 0) rfl rfl rfl rfl rfl ?_
  obtain rfl:=Option.some.inj h
  exact s_ret rfl ⟨_,fin (vs:=[.hs 129 0 [] 1 0 0,B false]) rfl (absE (abs1 rfl (abs_hs (k:=0) (es:=[]) rfl rfl)) (absE (absorb_plain rfl) absEN)) rfl (ou_f ou_n),kl_n⟩
 ·refine aq 1 ?_
  refine cq 4 [7,8] [.agg [.isl false (c_1.Parties.map str),.isl false (c_1.Clauses.map encI_Clause)],.fn 66 [.hp 1 0 [] 2 0 0]] 129 ?_
  obtain⟨r3,hr3,h⟩:=bS h
  refine oq 145 (.hs 129 0 [] 1 0 (r3.map I).length) rfl (e_callV rfl rfl (call_P rfl rfl rfl (avS (shP rfl) (avS (shF (shC (shp_at (path:=[]) rfl rfl ra_n rfl rfl) shN)) avN)) (Ffk_F hr3) (.inl (by simp[hasImm,hasImms,str,himm_map (f:=I) I_himm])) bl_n rfl rfl rfl)) ?_
  refine cq 3 [2,3] [.hs 129 0 [] 1 0 (r3.map I).length,B true] 177 ?_
  obtain rfl:=Option.some.inj h
  exact s_ret rfl ⟨_,fin (vs:=[.hs 129 0 [] 1 0 (r3.map I).length,B true]) rfl (absE (abs1 rfl (abs_hs rfl rfl)) (absE (absorb_plain rfl) absEN)) rfl (ou_f ou_n),kl_n⟩
theorem Ffa_good {G:Go.Ln.Ground}:Good Tryz.prog G 25 Ffa_ent:=gT 1 0 (gl_c Ffd_good (gl_c Ffk_good gl_n)) (Checked.mixed Tryz.checked) Tryz.func25 (fun a r h=>Ffa_run a r h)
def Ffz_A:((List Int)×(List Int))→List V:=cA (slE I) (oA (slE I))
def Ffz_R (r:Bool):V×List V:=(B r,[])
noncomputable def Ffz_ent:Ent:=entT [false,false] Ffz_A Ffz_R fun x=>Ffz x.1 x.2
theorem Ffz_F {a_1:List Int}{b_2:List Int}{r}(h:Ffz a_1 b_2=some r):Ffz_ent.F (Ffz_A (a_1,b_2))=some (Ffz_R r):=entT_F (cA_inj (isl_inj I_inj) (oA_inj (isl_inj I_inj))) h
noncomputable def Ffz_c:Code:=bodyOf Tryz.f20
noncomputable def Ffz_E:Env:=mkE Tryz.prog []
def Ffz_Q (x:(List Int)×(List Int))(r:Bool):St→Prop:=QF Ffz_E Tryz.f20 [false,false] (Ffz_A x) (Ffz_R r)
theorem Ffz_la_run (a_1:List Int)(b_2:List Int){Q:St→Prop}{K:List It}(hK:noD K=true):∀(x3:Int) (y:Bool⊕Unit),Ffz_la a_1 b_2 x3=some y→(∀r',y=.inl r'→∀st,Ffz_Q (a_1,b_2) r' st→Q st)→(∀u:Unit,y=.inr u→Run Ffz_E 0 Q K (sT 26 [] [] 1))→Run Ffz_E 0 Q (.code (cL (cL (cR (cL (cR (cR Ffz_c))))))::.lp (cL (cL (cR (cL (cR (cR Ffz_c))))))::.blk 0::K) (sT 26 [(0,.isl false (a_1.map I)),(1,.isl false (b_2.map I)),(5,I x3)] [] 1):=by
 refine fix_indP (Ffz_la_fin a_1 b_2) ?_
 intro self ih x3 y h hr hn
 unfold Ffz_la_F at h
 refine cq 5 [11,12] [I x3,.isl false (a_1.map I)] 33 ?_
 refine oq 49 (I (len a_1)) rfl (e_len rfl rfl rfl (l_isl rfl)) ?_
 refine cq 2 [14] [B (decide (x3<(len a_1)))] 65 ?_
 refine sq h (fun h=>?_) fun h=>?_
 ·refine aq 1 ?_
  refine aq 3 ?_
  refine s_draw [0,0,3,7,0,0,48,112,255] rfl (by decide +kernel) ?_
  refine dk 2 [18,17] [I x3,.isl false (a_1.map I)] ?_
  obtain⟨e4,he4,h⟩:=bS h
  refine dq [] [] (.iptr (I e4) 0) rfl (e_indexAddr rfl rfl rfl (ix_islE rfl rfl rfl rfl he4)) ?_
  refine dq [] [] (I e4) rfl (e_ld rfl rfl) ?_
  refine dk 2 [22,21] [I x3,.isl false (b_2.map I)] ?_
  obtain⟨e5,he5,h⟩:=bS h
  refine dq [] [] (.iptr (I e5) 0) rfl (e_indexAddr rfl rfl rfl (ix_islE rfl rfl rfl rfl he5)) ?_
  refine dq [] [] (I e5) rfl (e_ld rfl rfl) ?_
  refine dk 1 [25] [B (e4 != e5)] ?_
  refine de 209 rfl rfl ?_
  refine sq h (fun h=>?_) fun h=>?_
  ·refine cq 4 [4] [B false] 225 ?_
   exact s_ret rfl (hr _ (Option.some.inj h).symm _ (qp [B false]))
  ·refine aq 1 ?_
   refine cq 6 [5] [I (w64 (x3+1))] 257 ?_
   refine s_lp ?_
   exact rf [0,1,5] [] (ih _ _ h hr hn :)
 ·refine aq 1 ?_
  exact rf [] [] (hn _ (Option.some.inj h).symm :) (hk:=hK)
theorem Ffz_run (a_1:List Int)(b_2:List Int)(r:Bool)(h:Ffz a_1 b_2=some r):RunF Ffz_E Tryz.f20 [false,false] 0 (Ffz_A (a_1,b_2)) (Ffz_R r):=by
 show Run _ _ (Ffz_Q (a_1,b_2) r) [.code Ffz_c] _
 refine rI 26 [(0,.isl false (a_1.map I)),(1,.isl false (b_2.map I))] [] 1 ?_
 unfold Ffz at h
 refine cq 8 [6] [.isl false (a_1.map I)] 33 ?_
 refine oq 49 (I (len a_1)) rfl (e_len rfl rfl rfl (l_isl rfl)) ?_
 refine cq 1 [8] [.isl false (b_2.map I)] 65 ?_
 refine oq 81 (I (len b_2)) rfl (e_len rfl rfl rfl (l_isl rfl)) ?_
 refine cq 2 [10] [B ((len a_1) != (len b_2))] 97 ?_
 refine sq h (fun h=>?_) fun h=>?_
 ·refine cq 4 [4] [B false] 113 ?_
  obtain rfl:=Option.some.inj h
  exact s_ret rfl (qp [B false])
 ·refine aq 1 ?_
  refine cq 6 [5] [I (0)] 113 ?_
  obtain⟨y6,hy6,hy61,hy62⟩:=bJ h
  refine s_loop rfl ?_
  refine rf [0,1,5] [] (Ffz_la_run a_1 b_2 rfl 0 _ hy6 (fun r' e st hq=>by rw[hy61 r' e] at hq;exact hq) fun u6 hu=>?_)
  replace h:=hy62 u6 hu
  refine cq 4 [4] [B true] 17 ?_
  obtain rfl:=Option.some.inj h
  exact s_ret rfl (qp [B true])
theorem Ffz_good {G:Go.Ln.Ground}:Good Tryz.prog G 20 Ffz_ent:=gT 2 0 gl_n (Checked.mixed Tryz.checked) Tryz.func20 (fun a r h=>Ffz_run a.1 a.2 r h)
def Ffba_A:((List Str)×(List Str))→List V:=cA (slE str) (oA (slE str))
def Ffba_R (r:Bool):V×List V:=(B r,[])
noncomputable def Ffba_ent:Ent:=entT [false,false] Ffba_A Ffba_R fun x=>Ffba x.1 x.2
theorem Ffba_F {a_1:List Str}{b_2:List Str}{r}(h:Ffba a_1 b_2=some r):Ffba_ent.F (Ffba_A (a_1,b_2))=some (Ffba_R r):=entT_F (cA_inj (isl_inj str_inj) (oA_inj (isl_inj str_inj))) h
noncomputable def Ffba_c:Code:=bodyOf Tryz.f56
noncomputable def Ffba_E:Env:=mkE Tryz.prog []
def Ffba_Q (x:(List Str)×(List Str))(r:Bool):St→Prop:=QF Ffba_E Tryz.f56 [false,false] (Ffba_A x) (Ffba_R r)
theorem Ffba_la_run (a_1:List Str)(b_2:List Str){Q:St→Prop}{K:List It}(hK:noD K=true):∀(x3:Int) (y:Bool⊕Unit),Ffba_la a_1 b_2 x3=some y→(∀r',y=.inl r'→∀st,Ffba_Q (a_1,b_2) r' st→Q st)→(∀u:Unit,y=.inr u→Run Ffba_E 0 Q K (sT 26 [] [] 1))→Run Ffba_E 0 Q (.code (cL (cL (cR (cL (cR (cR Ffba_c))))))::.lp (cL (cL (cR (cL (cR (cR Ffba_c))))))::.blk 0::K) (sT 26 [(0,.isl false (a_1.map str)),(1,.isl false (b_2.map str)),(5,I x3)] [] 1):=by
 refine fix_indP (Ffba_la_fin a_1 b_2) ?_
 intro self ih x3 y h hr hn
 unfold Ffba_la_F at h
 refine cq 5 [11,12] [I x3,.isl false (a_1.map str)] 33 ?_
 refine oq 49 (I (len a_1)) rfl (e_len rfl rfl rfl (l_isl rfl)) ?_
 refine cq 2 [14] [B (decide (x3<(len a_1)))] 65 ?_
 refine sq h (fun h=>?_) fun h=>?_
 ·refine aq 1 ?_
  refine aq 3 ?_
  refine s_draw [0,0,3,7,0,0,48,112,255] rfl (by decide +kernel) ?_
  refine dk 2 [18,17] [I x3,.isl false (a_1.map str)] ?_
  obtain⟨e4,he4,h⟩:=bS h
  refine dq [] [] (.iptr (str e4) 0) rfl (e_indexAddr rfl rfl rfl (ix_islE rfl rfl rfl rfl he4)) ?_
  refine dq [] [] (str e4) rfl (e_ld rfl rfl) ?_
  refine dk 2 [22,21] [I x3,.isl false (b_2.map str)] ?_
  obtain⟨e5,he5,h⟩:=bS h
  refine dq [] [] (.iptr (str e5) 0) rfl (e_indexAddr rfl rfl rfl (ix_islE rfl rfl rfl rfl he5)) ?_
  refine dq [] [] (str e5) rfl (e_ld rfl rfl) ?_
  refine dk 1 [25] [B (!(e4==e5))] ?_
  refine de 209 rfl rfl ?_
  refine sq h (fun h=>?_) fun h=>?_
  ·refine cq 4 [4] [B false] 225 ?_
   exact s_ret rfl (hr _ (Option.some.inj h).symm _ (qp [B false]))
  ·refine aq 1 ?_
   refine cq 6 [5] [I (w64 (x3+1))] 257 ?_
   refine s_lp ?_
   exact rf [0,1,5] [] (ih _ _ h hr hn :)
 ·refine aq 1 ?_
  exact rf [] [] (hn _ (Option.some.inj h).symm :) (hk:=hK)
theorem Ffba_run (a_1:List Str)(b_2:List Str)(r:Bool)(h:Ffba a_1 b_2=some r):RunF Ffba_E Tryz.f56 [false,false] 0 (Ffba_A (a_1,b_2)) (Ffba_R r):=by
 show Run _ _ (Ffba_Q (a_1,b_2) r) [.code Ffba_c] _
 refine rI 26 [(0,.isl false (a_1.map str)),(1,.isl false (b_2.map str))] [] 1 ?_
 unfold Ffba at h
 refine cq 8 [6] [.isl false (a_1.map str)] 33 ?_
 refine oq 49 (I (len a_1)) rfl (e_len rfl rfl rfl (l_isl rfl)) ?_
 refine cq 1 [8] [.isl false (b_2.map str)] 65 ?_
 refine oq 81 (I (len b_2)) rfl (e_len rfl rfl rfl (l_isl rfl)) ?_
 refine cq 2 [10] [B ((len a_1) != (len b_2))] 97 ?_
 refine sq h (fun h=>?_) fun h=>?_
 ·refine cq 4 [4] [B false] 113 ?_
  obtain rfl:=Option.some.inj h
  exact s_ret rfl (qp [B false])
 ·refine aq 1 ?_
  refine cq 6 [5] [I (0)] 113 ?_
  obtain⟨y6,hy6,hy61,hy62⟩:=bJ h
  refine s_loop rfl ?_
  refine rf [0,1,5] [] (Ffba_la_run a_1 b_2 rfl 0 _ hy6 (fun r' e st hq=>by rw[hy61 r' e] at hq;exact hq) fun u6 hu=>?_)
  replace h:=hy62 u6 hu
  refine cq 4 [4] [B true] 17 ?_
  obtain rfl:=Option.some.inj h
  exact s_ret rfl (qp [B true])
theorem Ffba_good {G:Go.Ln.Ground}:Good Tryz.prog G 56 Ffba_ent:=gT 2 0 gl_n (Checked.mixed Tryz.checked) Tryz.func56 (fun a r h=>Ffba_run a.1 a.2 r h)
def Ffv_A:(Condition×Condition)→List V:=cA encI_Condition1 (oA encI_Condition1)
def Ffv_R (r:Bool):V×List V:=(B r,[])
noncomputable def Ffv_entS (slf_Ffv:(Condition×Condition)→Option Bool):Ent:=entT [false,false] Ffv_A Ffv_R slf_Ffv
theorem Ffv_FS (slf_Ffv:(Condition×Condition)→Option Bool){x}{r}(h:slf_Ffv x=some r):(Ffv_entS slf_Ffv).F (Ffv_A x)=some (Ffv_R r):=entT_F (cA_inj encI_Condition1_inj (oA_inj encI_Condition1_inj)) h
def Ffx_A:((List Condition)×(List Condition))→List V:=cA (slE encI_Condition) (oA (slE encI_Condition))
def Ffx_R (r:Bool):V×List V:=(B r,[])
noncomputable def Ffx_ent (slf_Ffv:(Condition×Condition)→Option Bool):Ent:=entT [false,false] Ffx_A Ffx_R fun x=>Ffx slf_Ffv x.1 x.2
theorem Ffx_F (slf_Ffv:(Condition×Condition)→Option Bool){a_1:List Condition}{b_2:List Condition}{r}(h:Ffx slf_Ffv a_1 b_2=some r):(Ffx_ent slf_Ffv).F (Ffx_A (a_1,b_2))=some (Ffx_R r):=entT_F (cA_inj (isl_inj encI_Condition_inj) (oA_inj (isl_inj encI_Condition_inj))) h
noncomputable def Ffx_c:Code:=bodyOf Tryz.f166
noncomputable def Ffx_E (slf_Ffv:(Condition×Condition)→Option Bool):Env:=mkE Tryz.prog [(139,(Ffv_entS slf_Ffv))]
def Ffx_Q (slf_Ffv:(Condition×Condition)→Option Bool)(x:(List Condition)×(List Condition))(r:Bool):St→Prop:=QF (Ffx_E slf_Ffv) Tryz.f166 [false,false] (Ffx_A x) (Ffx_R r)
theorem Ffx_la_run (slf_Ffv:(Condition×Condition)→Option Bool)(a_1:List Condition)(b_2:List Condition){Q:St→Prop}{K:List It}(hK:noD K=true):∀(x3:Int) (y:Bool⊕Unit),Ffx_la slf_Ffv a_1 b_2 x3=some y→(∀r',y=.inl r'→∀st,Ffx_Q slf_Ffv (a_1,b_2) r' st→Q st)→(∀u:Unit,y=.inr u→Run (Ffx_E slf_Ffv) 0 Q K (sT 27 [] [] 1))→Run (Ffx_E slf_Ffv) 0 Q (.code (cL (cL (cR (cL (cR (cR Ffx_c))))))::.lp (cL (cL (cR (cL (cR (cR Ffx_c))))))::.blk 0::K) (sT 27 [(0,.isl false (a_1.map encI_Condition)),(1,.isl false (b_2.map encI_Condition)),(5,I x3)] [] 1):=by
 refine fix_indP (Ffx_la_fin slf_Ffv a_1 b_2) ?_
 intro self ih x3 y h hr hn
 unfold Ffx_la_F at h
 refine cq 5 [11,12] [I x3,.isl false (a_1.map encI_Condition)] 33 ?_
 refine oq 49 (I (len a_1)) rfl (e_len rfl rfl rfl (l_isl rfl)) ?_
 refine cq 2 [14] [B (decide (x3<(len a_1)))] 65 ?_
 refine sq h (fun h=>?_) fun h=>?_
 ·refine aq 1 ?_
  refine aq 3 ?_
  refine s_draw [0,0,3,7,0,0,48,112,255,511] rfl (by decide +kernel) ?_
  refine dk 2 [18,17] [I x3,.isl false (a_1.map encI_Condition)] ?_
  obtain⟨e4,he4,h⟩:=bS h
  refine dq [] [] (.iptr (.agg [I e4.Op,str e4.Name,I e4.Day,.isl false (e4.Parts.map encI_Condition)]) 0) rfl (e_indexAddr rfl rfl rfl (ix_islE rfl rfl (encI_Condition_eq e4) rfl he4)) ?_
  refine dq [] [] (.agg [I e4.Op,str e4.Name,I e4.Day,.isl false (e4.Parts.map encI_Condition)]) rfl (e_ld rfl rfl) ?_
  refine dk 2 [22,21] [I x3,.isl false (b_2.map encI_Condition)] ?_
  obtain⟨e5,he5,h⟩:=bS h
  refine dq [] [] (.iptr (.agg [I e5.Op,str e5.Name,I e5.Day,.isl false (e5.Parts.map encI_Condition)]) 0) rfl (e_indexAddr rfl rfl rfl (ix_islE rfl rfl (encI_Condition_eq e5) rfl he5)) ?_
  refine dq [] [] (.agg [I e5.Op,str e5.Name,I e5.Day,.isl false (e5.Parts.map encI_Condition)]) rfl (e_ld rfl rfl) ?_
  obtain⟨r6,hr6,h⟩:=bS h
  refine dq [] [] (B r6) rfl (e_callV rfl rfl (call_P rfl rfl rfl (avS (shP rfl) (avS (shP rfl) avN)) (Ffv_FS slf_Ffv hr6) (.inr rfl) bl_n rfl rfl rfl)) ?_ (w_callO rfl rfl rfl rfl (avS (shP rfl) (avS (shP rfl) avN)) (Ffv_FS slf_Ffv hr6) (.inr rfl) rfl)
  refine dk 1 [26] [B (!r6)] ?_
  refine de 225 rfl rfl ?_
  refine sq h (fun h=>?_) fun h=>?_
  ·refine cq 4 [4] [B false] 241 ?_
   exact s_ret rfl (hr _ (Option.some.inj h).symm _ (qp [B false]))
  ·refine aq 1 ?_
   refine cq 6 [5] [I (w64 (x3+1))] 273 ?_
   refine s_lp ?_
   exact rf [0,1,5] [] (ih _ _ h hr hn :)
 ·refine aq 1 ?_
  exact rf [] [] (hn _ (Option.some.inj h).symm :) (hk:=hK)
theorem Ffx_run (slf_Ffv:(Condition×Condition)→Option Bool)(a_1:List Condition)(b_2:List Condition)(r:Bool)(h:Ffx slf_Ffv a_1 b_2=some r):RunF (Ffx_E slf_Ffv) Tryz.f166 [false,false] 0 (Ffx_A (a_1,b_2)) (Ffx_R r):=by
 show Run _ _ (Ffx_Q slf_Ffv (a_1,b_2) r) [.code Ffx_c] _
 refine rI 27 [(0,.isl false (a_1.map encI_Condition)),(1,.isl false (b_2.map encI_Condition))] [] 1 ?_
 unfold Ffx at h
 refine cq 8 [6] [.isl false (a_1.map encI_Condition)] 33 ?_
 refine oq 49 (I (len a_1)) rfl (e_len rfl rfl rfl (l_isl rfl)) ?_
 refine cq 1 [8] [.isl false (b_2.map encI_Condition)] 65 ?_
 refine oq 81 (I (len b_2)) rfl (e_len rfl rfl rfl (l_isl rfl)) ?_
 refine cq 2 [10] [B ((len a_1) != (len b_2))] 97 ?_
 refine sq h (fun h=>?_) fun h=>?_
 ·refine cq 4 [4] [B false] 113 ?_
  obtain rfl:=Option.some.inj h
  exact s_ret rfl (qp [B false])
 ·refine aq 1 ?_
  refine cq 6 [5] [I (0)] 113 ?_
  obtain⟨y7,hy7,hy71,hy72⟩:=bJ h
  refine s_loop rfl ?_
  refine rf [0,1,5] [] (Ffx_la_run slf_Ffv a_1 b_2 rfl 0 _ hy7 (fun r' e st hq=>by rw[hy71 r' e] at hq;exact hq) fun u7 hu=>?_)
  replace h:=hy72 u7 hu
  refine cq 4 [4] [B true] 17 ?_
  obtain rfl:=Option.some.inj h
  exact s_ret rfl (qp [B true])
theorem Ffx_good {G:Go.Ln.Ground}(slf_Ffv:(Condition×Condition)→Option Bool)(g_Ffv:Good Tryz.prog G 139 (Ffv_entS slf_Ffv)):Good Tryz.prog G 166 (Ffx_ent slf_Ffv):=gT 2 0 (gl_c g_Ffv gl_n) (Checked.mixed Tryz.checked) Tryz.func166 (fun a r h=>Ffx_run slf_Ffv a.1 a.2 r h)
noncomputable def Ffv_ent:Ent:=Ffv_entS (fixO Ffv_G)
theorem Ffv_F {a_1:Condition}{b_2:Condition}{r}(h:Ffv a_1 b_2=some r):Ffv_ent.F (Ffv_A (a_1,b_2))=some (Ffv_R r):=Ffv_FS (fixO Ffv_G) h
noncomputable def Ffv_c:Code:=bodyOf Tryz.f139
noncomputable def Ffv_E (slf_Ffv:(Condition×Condition)→Option Bool):Env:=mkE Tryz.prog [(166,(Ffx_ent slf_Ffv))]
def Ffv_Q (slf_Ffv:(Condition×Condition)→Option Bool)(x:Condition×Condition)(r:Bool):St→Prop:=QF (Ffv_E slf_Ffv) Tryz.f139 [false,false] (Ffv_A x) (Ffv_R r)
theorem Ffv_run (slf_Ffv:(Condition×Condition)→Option Bool)(a_1:Condition)(b_2:Condition)(r:Bool)(h:Ffv_B slf_Ffv a_1 b_2=some r):RunF (Ffv_E slf_Ffv) Tryz.f139 [false,false] 0 (Ffv_A (a_1,b_2)) (Ffv_R r):=by
 show Run _ _ (Ffv_Q slf_Ffv (a_1,b_2) r) [.code Ffv_c] _
 refine rI 26 [(0,.agg [I a_1.Op,str a_1.Name,I a_1.Day,.isl false (a_1.Parts.map encI_Condition)]),(1,.agg [I b_2.Op,str b_2.Name,I b_2.Day,.isl false (b_2.Parts.map encI_Condition)])] [] 1 ?_
 unfold Ffv_B at h
 refine ck 15 [2,3,9] [] [1,17] [] [.hp 1 0 [] 4 0 0,.hp 17 0 [] 4 0 0,B (a_1.Op != b_2.Op)] [some ⟨0,4,[.agg [I a_1.Op,str a_1.Name,I a_1.Day,.isl false (a_1.Parts.map encI_Condition)]]⟩,some ⟨0,4,[.agg [I b_2.Op,str b_2.Name,I b_2.Day,.isl false (b_2.Parts.map encI_Condition)]]⟩] 129 (by kernel_rfl) ?_
 refine sq h (fun h=>?_) fun h=>?_
 ·refine cq 4 [4] [B false] 145 ?_
  obtain rfl:=Option.some.inj h
  exact s_ret rfl (qp [B false])
 ·refine aq 1 ?_
  refine cq 9 [14] [B (!(a_1.Name==b_2.Name))] 209 ?_
  refine sq h (fun h=>?_) fun h=>?_
  ·refine cq 4 [4] [B false] 225 ?_
   obtain rfl:=Option.some.inj h
   exact s_ret rfl (qp [B false])
  ·refine aq 1 ?_
   refine cq 9 [19] [B (a_1.Day != b_2.Day)] 289 ?_
   refine sq h (fun h=>?_) fun h=>?_
   ·refine cq 4 [4] [B false] 305 ?_
    obtain rfl:=Option.some.inj h
    exact s_ret rfl (qp [B false])
   ·refine aq 1 ?_
    refine cq 7 [21,23] [.isl false (a_1.Parts.map encI_Condition),.isl false (b_2.Parts.map encI_Condition)] 353 ?_
    obtain⟨r3,hr3,h⟩:=bS h
    refine oq 369 (B r3) rfl (e_callV rfl rfl (call_P rfl rfl rfl (avS (shP rfl) (avS (shP rfl) avN)) (Ffx_F slf_Ffv hr3) (.inr rfl) bl_n rfl rfl rfl)) ?_
    refine cq 2 [25] [B (!r3)] 385 ?_
    refine sq h (fun h=>?_) fun h=>?_
    ·refine cq 4 [4] [B false] 401 ?_
     obtain rfl:=Option.some.inj h
     exact s_ret rfl (qp [B false])
    ·refine aq 1 ?_
     refine cq 4 [4] [B true] 401 ?_
     obtain rfl:=Option.some.inj h
     exact s_ret rfl (qp [B true])
theorem Ffv_good {G:Go.Ln.Ground}:Good Tryz.prog G 139 Ffv_ent:=good_rec fun slf_Ffv g_Ffv=>gT 2 0 (gl_c (Ffx_good slf_Ffv g_Ffv) gl_n) (Checked.mixed Tryz.checked) Tryz.func139 (fun a r h=>Ffv_run slf_Ffv a.1 a.2 r h)
noncomputable def Ffw_ent:Ent:=Ffx_ent (fixO Ffv_G)
theorem Ffw_F {a_1:List Condition}{b_2:List Condition}{r}(h:Ffw a_1 b_2=some r):Ffw_ent.F (Ffx_A (a_1,b_2))=some (Ffx_R r):=Ffx_F (fixO Ffv_G) h
theorem Ffw_good {G:Go.Ln.Ground}:Good Tryz.prog G 166 Ffw_ent:=Ffx_good (fixO Ffv_G) Ffv_good
def Fft_A:(Clause×Clause)→List V:=cA encI_Clause (oA encI_Clause)
def Fft_R (r:Bool):V×List V:=(B r,[])
noncomputable def Fft_ent:Ent:=entT [false,false] Fft_A Fft_R fun x=>Fft x.1 x.2
theorem Fft_F {a_1:Clause}{b_2:Clause}{r}(h:Fft a_1 b_2=some r):Fft_ent.F (Fft_A (a_1,b_2))=some (Fft_R r):=entT_F (cA_inj encI_Clause_inj (oA_inj encI_Clause_inj)) h
noncomputable def Fft_c:Code:=bodyOf Tryz.f98
noncomputable def Fft_E:Env:=mkE Tryz.prog [(139,Ffv_ent)]
def Fft_Q (x:Clause×Clause)(r:Bool):St→Prop:=QF Fft_E Tryz.f98 [false,false] (Fft_A x) (Fft_R r)
theorem Fft_run (a_1:Clause)(b_2:Clause)(r:Bool)(h:Fft a_1 b_2=some r):RunF Fft_E Tryz.f98 [false,false] 0 (Fft_A (a_1,b_2)) (Fft_R r):=by
 show Run _ _ (Fft_Q (a_1,b_2) r) [.code Fft_c] _
 refine rI 51 [(0,.agg [str a_1.Id,I a_1.Kind,I a_1.Party,str a_1.Action,I a_1.Other,I a_1.Amount,I a_1.When.Op,str a_1.When.Name,I a_1.When.Day,.isl false (a_1.When.Parts.map encI_Condition),I a_1.Within,str a_1.Repair]),(1,.agg [str b_2.Id,I b_2.Kind,I b_2.Party,str b_2.Action,I b_2.Other,I b_2.Amount,I b_2.When.Op,str b_2.When.Name,I b_2.When.Day,.isl false (b_2.When.Parts.map encI_Condition),I b_2.Within,str b_2.Repair])] [] 1 ?_
 unfold Fft at h
 refine ck 15 [2,3,9] [] [1,17] [] [.hp 1 0 [] 12 0 0,.hp 17 0 [] 12 0 0,B (!(a_1.Id==b_2.Id))] [some ⟨0,12,[.agg [str a_1.Id,I a_1.Kind,I a_1.Party,str a_1.Action,I a_1.Other,I a_1.Amount,I a_1.When.Op,str a_1.When.Name,I a_1.When.Day,.isl false (a_1.When.Parts.map encI_Condition),I a_1.Within,str a_1.Repair]]⟩,some ⟨0,12,[.agg [str b_2.Id,I b_2.Kind,I b_2.Party,str b_2.Action,I b_2.Other,I b_2.Amount,I b_2.When.Op,str b_2.When.Name,I b_2.When.Day,.isl false (b_2.When.Parts.map encI_Condition),I b_2.Within,str b_2.Repair]]⟩] 129 (by kernel_rfl) ?_
 refine sq h (fun h=>?_) fun h=>?_
 ·refine cq 4 [4] [B false] 145 ?_
  obtain rfl:=Option.some.inj h
  exact s_ret rfl (qp [B false])
 ·refine aq 1 ?_
  refine cq 9 [14] [B (a_1.Kind != b_2.Kind)] 209 ?_
  refine sq h (fun h=>?_) fun h=>?_
  ·refine cq 4 [4] [B false] 225 ?_
   obtain rfl:=Option.some.inj h
   exact s_ret rfl (qp [B false])
  ·refine aq 1 ?_
   refine cq 9 [19] [B (a_1.Party != b_2.Party)] 289 ?_
   refine sq h (fun h=>?_) fun h=>?_
   ·refine cq 4 [4] [B false] 305 ?_
    obtain rfl:=Option.some.inj h
    exact s_ret rfl (qp [B false])
   ·refine aq 1 ?_
    refine cq 9 [24] [B (!(a_1.Action==b_2.Action))] 369 ?_
    refine sq h (fun h=>?_) fun h=>?_
    ·refine cq 4 [4] [B false] 385 ?_
     obtain rfl:=Option.some.inj h
     exact s_ret rfl (qp [B false])
    ·refine aq 1 ?_
     refine cq 9 [29] [B (a_1.Other != b_2.Other)] 449 ?_
     refine sq h (fun h=>?_) fun h=>?_
     ·refine cq 4 [4] [B false] 465 ?_
      obtain rfl:=Option.some.inj h
      exact s_ret rfl (qp [B false])
     ·refine aq 1 ?_
      refine cq 9 [34] [B (a_1.Amount != b_2.Amount)] 529 ?_
      refine sq h (fun h=>?_) fun h=>?_
      ·refine cq 4 [4] [B false] 545 ?_
       obtain rfl:=Option.some.inj h
       exact s_ret rfl (qp [B false])
      ·refine aq 1 ?_
       refine cq 7 [36,38] [.agg [I a_1.When.Op,str a_1.When.Name,I a_1.When.Day,.isl false (a_1.When.Parts.map encI_Condition)],.agg [I b_2.When.Op,str b_2.When.Name,I b_2.When.Day,.isl false (b_2.When.Parts.map encI_Condition)]] 593 ?_
       obtain⟨r3,hr3,h⟩:=bS h
       refine oq 609 (B r3) rfl (cP (Ffv_F hr3)) ?_
       refine cq 2 [40] [B (!r3)] 625 ?_
       refine sq h (fun h=>?_) fun h=>?_
       ·refine cq 4 [4] [B false] 641 ?_
        obtain rfl:=Option.some.inj h
        exact s_ret rfl (qp [B false])
       ·refine aq 1 ?_
        refine cq 9 [45] [B (a_1.Within != b_2.Within)] 705 ?_
        refine sq h (fun h=>?_) fun h=>?_
        ·refine cq 4 [4] [B false] 721 ?_
         obtain rfl:=Option.some.inj h
         exact s_ret rfl (qp [B false])
        ·refine aq 1 ?_
         refine cq 9 [50] [B (!(a_1.Repair==b_2.Repair))] 785 ?_
         refine sq h (fun h=>?_) fun h=>?_
         ·refine cq 4 [4] [B false] 801 ?_
          obtain rfl:=Option.some.inj h
          exact s_ret rfl (qp [B false])
         ·refine aq 1 ?_
          refine cq 4 [4] [B true] 801 ?_
          obtain rfl:=Option.some.inj h
          exact s_ret rfl (qp [B true])
theorem Fft_good {G:Go.Ln.Ground}:Good Tryz.prog G 98 Fft_ent:=gT 2 0 (gl_c Ffv_good gl_n) (Checked.mixed Tryz.checked) Tryz.func98 (fun a r h=>Fft_run a.1 a.2 r h)
def Ffu_A:((List Clause)×(List Clause))→List V:=cA (slE encI_Clause) (oA (slE encI_Clause))
def Ffu_R (r:Bool):V×List V:=(B r,[])
noncomputable def Ffu_ent:Ent:=entT [false,false] Ffu_A Ffu_R fun x=>Ffu x.1 x.2
theorem Ffu_F {a_1:List Clause}{b_2:List Clause}{r}(h:Ffu a_1 b_2=some r):Ffu_ent.F (Ffu_A (a_1,b_2))=some (Ffu_R r):=entT_F (cA_inj (isl_inj encI_Clause_inj) (oA_inj (isl_inj encI_Clause_inj))) h
noncomputable def Ffu_c:Code:=bodyOf Tryz.f57
noncomputable def Ffu_E:Env:=mkE Tryz.prog [(98,Fft_ent)]
def Ffu_Q (x:(List Clause)×(List Clause))(r:Bool):St→Prop:=QF Ffu_E Tryz.f57 [false,false] (Ffu_A x) (Ffu_R r)
theorem Ffu_la_run (a_1:List Clause)(b_2:List Clause){Q:St→Prop}{K:List It}(hK:noD K=true):∀(x3:Int) (y:Bool⊕Unit),Ffu_la a_1 b_2 x3=some y→(∀r',y=.inl r'→∀st,Ffu_Q (a_1,b_2) r' st→Q st)→(∀u:Unit,y=.inr u→Run Ffu_E 0 Q K (sT 27 [] [] 1))→Run Ffu_E 0 Q (.code (cL (cL (cR (cL (cR (cR Ffu_c))))))::.lp (cL (cL (cR (cL (cR (cR Ffu_c))))))::.blk 0::K) (sT 27 [(0,.isl false (a_1.map encI_Clause)),(1,.isl false (b_2.map encI_Clause)),(5,I x3)] [] 1):=by
 refine fix_indP (Ffu_la_fin a_1 b_2) ?_
 intro self ih x3 y h hr hn
 unfold Ffu_la_F at h
 refine cq 5 [11,12] [I x3,.isl false (a_1.map encI_Clause)] 33 ?_
 refine oq 49 (I (len a_1)) rfl (e_len rfl rfl rfl (l_isl rfl)) ?_
 refine cq 2 [14] [B (decide (x3<(len a_1)))] 65 ?_
 refine sq h (fun h=>?_) fun h=>?_
 ·refine aq 1 ?_
  refine aq 3 ?_
  refine s_draw [0,0,3,7,0,0,48,112,255,511] rfl (by decide +kernel) ?_
  refine dk 2 [18,17] [I x3,.isl false (a_1.map encI_Clause)] ?_
  obtain⟨e4,he4,h⟩:=bS h
  refine dq [] [] (.iptr (.agg [str e4.Id,I e4.Kind,I e4.Party,str e4.Action,I e4.Other,I e4.Amount,I e4.When.Op,str e4.When.Name,I e4.When.Day,.isl false (e4.When.Parts.map encI_Condition),I e4.Within,str e4.Repair]) 0) rfl (e_indexAddr rfl rfl rfl (ix_islE rfl rfl rfl rfl he4)) ?_
  refine dq [] [] (.agg [str e4.Id,I e4.Kind,I e4.Party,str e4.Action,I e4.Other,I e4.Amount,I e4.When.Op,str e4.When.Name,I e4.When.Day,.isl false (e4.When.Parts.map encI_Condition),I e4.Within,str e4.Repair]) rfl (e_ld rfl rfl) ?_
  refine dk 2 [22,21] [I x3,.isl false (b_2.map encI_Clause)] ?_
  obtain⟨e5,he5,h⟩:=bS h
  refine dq [] [] (.iptr (.agg [str e5.Id,I e5.Kind,I e5.Party,str e5.Action,I e5.Other,I e5.Amount,I e5.When.Op,str e5.When.Name,I e5.When.Day,.isl false (e5.When.Parts.map encI_Condition),I e5.Within,str e5.Repair]) 0) rfl (e_indexAddr rfl rfl rfl (ix_islE rfl rfl rfl rfl he5)) ?_
  refine dq [] [] (.agg [str e5.Id,I e5.Kind,I e5.Party,str e5.Action,I e5.Other,I e5.Amount,I e5.When.Op,str e5.When.Name,I e5.When.Day,.isl false (e5.When.Parts.map encI_Condition),I e5.Within,str e5.Repair]) rfl (e_ld rfl rfl) ?_
  obtain⟨r6,hr6,h⟩:=bS h
  refine dq [] [] (B r6) rfl (cP (Fft_F hr6)) ?_ (w_callO rfl rfl rfl rfl (avS (shP rfl) (avS (shP rfl) avN)) (Fft_F hr6) (.inr rfl) rfl)
  refine dk 1 [26] [B (!r6)] ?_
  refine de 225 rfl rfl ?_
  refine sq h (fun h=>?_) fun h=>?_
  ·refine cq 4 [4] [B false] 241 ?_
   exact s_ret rfl (hr _ (Option.some.inj h).symm _ (qp [B false]))
  ·refine aq 1 ?_
   refine cq 6 [5] [I (w64 (x3+1))] 273 ?_
   refine s_lp ?_
   exact rf [0,1,5] [] (ih _ _ h hr hn :)
 ·refine aq 1 ?_
  exact rf [] [] (hn _ (Option.some.inj h).symm :) (hk:=hK)
theorem Ffu_run (a_1:List Clause)(b_2:List Clause)(r:Bool)(h:Ffu a_1 b_2=some r):RunF Ffu_E Tryz.f57 [false,false] 0 (Ffu_A (a_1,b_2)) (Ffu_R r):=by
 show Run _ _ (Ffu_Q (a_1,b_2) r) [.code Ffu_c] _
 refine rI 27 [(0,.isl false (a_1.map encI_Clause)),(1,.isl false (b_2.map encI_Clause))] [] 1 ?_
 unfold Ffu at h
 refine cq 8 [6] [.isl false (a_1.map encI_Clause)] 33 ?_
 refine oq 49 (I (len a_1)) rfl (e_len rfl rfl rfl (l_isl rfl)) ?_
 refine cq 1 [8] [.isl false (b_2.map encI_Clause)] 65 ?_
 refine oq 81 (I (len b_2)) rfl (e_len rfl rfl rfl (l_isl rfl)) ?_
 refine cq 2 [10] [B ((len a_1) != (len b_2))] 97 ?_
 refine sq h (fun h=>?_) fun h=>?_
 ·refine cq 4 [4] [B false] 113 ?_
  obtain rfl:=Option.some.inj h
  exact s_ret rfl (qp [B false])
 ·refine aq 1 ?_
  refine cq 6 [5] [I (0)] 113 ?_
  obtain⟨y7,hy7,hy71,hy72⟩:=bJ h
  refine s_loop rfl ?_
  refine rf [0,1,5] [] (Ffu_la_run a_1 b_2 rfl 0 _ hy7 (fun r' e st hq=>by rw[hy71 r' e] at hq;exact hq) fun u7 hu=>?_)
  replace h:=hy72 u7 hu
  refine cq 4 [4] [B true] 17 ?_
  obtain rfl:=Option.some.inj h
  exact s_ret rfl (qp [B true])
theorem Ffu_good {G:Go.Ln.Ground}:Good Tryz.prog G 57 Ffu_ent:=gT 2 0 (gl_c Fft_good gl_n) (Checked.mixed Tryz.checked) Tryz.func57 (fun a r h=>Ffu_run a.1 a.2 r h)
def Ffy_A:(Contract×Contract)→List V:=cA encI_Contract (oA encI_Contract)
def Ffy_R (r:Bool):V×List V:=(B r,[])
noncomputable def Ffy_ent:Ent:=entT [false,false] Ffy_A Ffy_R fun x=>Ffy x.1 x.2
theorem Ffy_F {a_1:Contract}{b_2:Contract}{r}(h:Ffy a_1 b_2=some r):Ffy_ent.F (Ffy_A (a_1,b_2))=some (Ffy_R r):=entT_F (cA_inj encI_Contract_inj (oA_inj encI_Contract_inj)) h
noncomputable def Ffy_c:Code:=bodyOf Tryz.f16
noncomputable def Ffy_E:Env:=mkE Tryz.prog [(56,Ffba_ent),(57,Ffu_ent)]
def Ffy_Q (x:Contract×Contract)(r:Bool):St→Prop:=QF Ffy_E Tryz.f16 [false,false] (Ffy_A x) (Ffy_R r)
theorem Ffy_run (a_1:Contract)(b_2:Contract)(r:Bool)(h:Ffy a_1 b_2=some r):RunF Ffy_E Tryz.f16 [false,false] 0 (Ffy_A (a_1,b_2)) (Ffy_R r):=by
 show Run _ _ (Ffy_Q (a_1,b_2) r) [.code Ffy_c] _
 refine rI 17 [(0,.agg [.isl false (a_1.Parties.map str),.isl false (a_1.Clauses.map encI_Clause)]),(1,.agg [.isl false (b_2.Parties.map str),.isl false (b_2.Clauses.map encI_Clause)])] [] 1 ?_
 unfold Ffy at h
 refine ck 13 [2,3,6,8] [] [1,17] [] [.hp 1 0 [] 2 0 0,.hp 17 0 [] 2 0 0,.isl false (a_1.Parties.map str),.isl false (b_2.Parties.map str)] [some ⟨0,2,[.agg [.isl false (a_1.Parties.map str),.isl false (a_1.Clauses.map encI_Clause)]]⟩,some ⟨0,2,[.agg [.isl false (b_2.Parties.map str),.isl false (b_2.Clauses.map encI_Clause)]]⟩] 113 (by kernel_rfl) ?_
 obtain⟨r3,hr3,h⟩:=bS h
 refine oq 129 (B r3) rfl (cP (Ffba_F hr3)) ?_
 refine cq 2 [10] [B (!r3)] 145 ?_
 refine sq h (fun h=>?_) fun h=>?_
 ·refine cq 4 [4] [B false] 161 ?_
  obtain rfl:=Option.some.inj h
  exact s_ret rfl (qp [B false])
 ·refine aq 1 ?_
  refine cq 7 [12,14] [.isl false (a_1.Clauses.map encI_Clause),.isl false (b_2.Clauses.map encI_Clause)] 209 ?_
  obtain⟨r4,hr4,h⟩:=bS h
  refine oq 225 (B r4) rfl (cP (Ffu_F hr4)) ?_
  refine cq 2 [16] [B (!r4)] 241 ?_
  refine sq h (fun h=>?_) fun h=>?_
  ·refine cq 4 [4] [B false] 257 ?_
   obtain rfl:=Option.some.inj h
   exact s_ret rfl (qp [B false])
  ·refine aq 1 ?_
   refine cq 4 [4] [B true] 257 ?_
   obtain rfl:=Option.some.inj h
   exact s_ret rfl (qp [B true])
theorem Ffy_good {G:Go.Ln.Ground}:Good Tryz.prog G 16 Ffy_ent:=gT 2 0 (gl_c Ffba_good (gl_c Ffu_good gl_n)) (Checked.mixed Tryz.checked) Tryz.func16 (fun a r h=>Ffy_run a.1 a.2 r h)
def Ffbh_A:Int→List V:=oA I
def Ffbh_R (r:Str):V×List V:=(str r,[])
noncomputable def Ffbh_ent:Ent:=entT [false] Ffbh_A Ffbh_R fun x=>Ffbh x
theorem Ffbh_F {k_1:Int}{r}(h:Ffbh k_1=some r):Ffbh_ent.F (Ffbh_A k_1)=some (Ffbh_R r):=entT_F (oA_inj I_inj) h
noncomputable def Ffbh_c:Code:=bodyOf Tryz.f106
noncomputable def Ffbh_E:Env:=mkE Tryz.prog []
def Ffbh_Q (x:Int)(r:Str):St→Prop:=QF Ffbh_E Tryz.f106 [false] (Ffbh_A x) (Ffbh_R r)
theorem Ffbh_la_run (k_1:Int){Q:St→Prop}{K:List It}(hK:noD K=true):∀(x2:Int×Str) (y:Str⊕Str),Ffbh_la k_1 x2=some y→(∀r',y=.inl r'→∀st,Ffbh_Q k_1 r' st→Q st)→(∀u:Str,y=.inr u→Run Ffbh_E 0 Q K (sT 20 [(3,str u)] [] 1))→Run Ffbh_E 0 Q (.code (cL (cL (cL (cR (cR (cR Ffbh_c))))))::.lp (cL (cL (cL (cR (cR (cR Ffbh_c))))))::.blk 0::K) (sT 20 [(0,I x2.1),(3,str x2.2)] [] 1):=by
 refine fix_indP (Ffbh_la_fin k_1) ?_
 intro self ih x2 y h hr hn
 unfold Ffbh_la_F at h
 refine cq 6 [7] [B (decide (x2.1>0))] 33 ?_
 refine sq h (fun h=>?_) fun h=>?_
 ·refine aq 1 ?_
  refine cq 7 [11] [.int .u8 (IntKind.u8.wrap (w64 (48+(x2.1.tmod 10))))] 97 ?_
  refine oq 113 (.hs 97 0 [] 1 0 1) rfl (e_buildSlice rfl (bs_mk (f:=I) (xs:=[]) (z:=.int .u8 (0)) (es:=[.int .u8 (IntKind.u8.wrap (w64 (48+(x2.1.tmod 10))))]) (ws:=[.int .u8 (IntKind.u8.wrap (w64 (48+(x2.1.tmod 10))))]) rfl rfl rfl (by decide) rfl (abs_each_plain rfl) rfl)) ?_
  refine oq 129 (str ([(IntKind.u8.wrap (w64 (48+(x2.1.tmod 10))))].map fun n=>UInt8.ofNat n.toNat)) rfl (e_conv rfl (cv_bytes (xs:=[(IntKind.u8.wrap (w64 (48+(x2.1.tmod 10))))]) rfl rfl rfl (rw_hs (path:=[]) rfl rfl ra_n rfl))) ?_
  refine cq 1 [14] [str x2.2] 145 ?_
  obtain⟨s3,hs3,h⟩:=bS h
  refine oq 161 (str s3) rfl (e_bin rfl rfl (b_cat hs3)) ?_
  refine cq 8 [0,3] [I (w64 (x2.1.tdiv 10)),str s3] 225 ?_
  refine s_lp ?_
  exact rf [0,3] [] (ih _ _ h hr hn :)
 ·refine aq 1 ?_
  exact rf [3] [] (hn _ (Option.some.inj h).symm :) (hk:=hK)
theorem Ffbh_run (k_1:Int)(r:Str)(h:Ffbh k_1=some r):RunF Ffbh_E Tryz.f106 [false] 0 (Ffbh_A k_1) (Ffbh_R r):=by
 show Run _ _ (Ffbh_Q k_1 r) [.code Ffbh_c] _
 refine rI 20 [(0,I k_1)] [] 1 ?_
 unfold Ffbh at h
 refine cq 10 [5] [B (decide (k_1≤0))] 49 ?_
 refine sq h (fun h=>?_) fun h=>?_
 ·refine cq 4 [2] [str ([109,48]:Str)] 65 ?_
  obtain rfl:=Option.some.inj h
  exact s_ret rfl (qp [str ([109,48]:Str)])
 ·refine aq 1 ?_
  refine cq 6 [3] [str ([]:Str)] 65 ?_
  obtain⟨y4,hy4,hy41,hy42⟩:=bJ h
  refine s_loop rfl ?_
  refine rf [0,3] [] (Ffbh_la_run k_1 rfl (k_1,([]:Str)) _ hy4 (fun r' e st hq=>by rw[hy41 r' e] at hq;exact hq) fun u4 hu=>?_)
  replace h:=hy42 u4 hu
  refine cq 3 [18] [str u4] 17 ?_
  obtain⟨s5,hs5,h⟩:=bS h
  refine oq 33 (str s5) rfl (e_bin rfl rfl (b_cat hs5)) ?_
  refine cq 2 [2] [str s5] 49 ?_
  obtain rfl:=Option.some.inj h
  exact s_ret rfl (qp [str s5])
theorem Ffbh_good {G:Go.Ln.Ground}:Good Tryz.prog G 106 Ffbh_ent:=gT 1 0 gl_n (Checked.mixed Tryz.checked) Tryz.func106 (fun a r h=>Ffbh_run a r h)
def Ffbg_A:((List Str)×Int)→List V:=cA (usE 1 str) (oA I)
def Ffbg_R (r:Int×(List Str)):V×List V:=(I r.1,[.usl 1 (r.2.map str)])
noncomputable def Ffbg_ent:Ent:=entT [true,false] Ffbg_A Ffbg_R fun x=>Ffbg x.1 x.2
theorem Ffbg_F {a_7:List Str}{k_8:Int}{r}(h:Ffbg a_7 k_8=some r):Ffbg_ent.F (Ffbg_A (a_7,k_8))=some (Ffbg_R r):=entT_F (cA_inj (usl_inj str_inj) (oA_inj I_inj)) h
noncomputable def Ffbg_c:Code:=bodyOf Tryz.f63
noncomputable def Ffbg_E:Env:=mkE Tryz.prog [(106,Ffbh_ent)]
def Ffbg_Q (x:(List Str)×Int)(r:Int×(List Str)):St→Prop:=QF Ffbg_E Tryz.f63 [true,false] (Ffbg_A x) (Ffbg_R r)
theorem Ffbg_la_run (a_7:List Str)(k_8:Int){Q:St→Prop}{K:List It}(hK:noD K=true):∀(x3:Int×Int×(List Str)) (y:(Int×(List Str))⊕(Int×(List Str))),Ffbg_la a_7 k_8 x3=some y→(∀r',y=.inl r'→∀st,Ffbg_Q (a_7,k_8) r' st→Q st)→(∀u:Int×(List Str),y=.inr u→Run Ffbg_E 1 Q K (sT 20 [(1,I u.1)] [⟨0,1,u.2.map str⟩] 2))→Run Ffbg_E 1 Q (.code (cL (cL (cR (cL (cR Ffbg_c)))))::.lp (cL (cL (cR (cL (cR Ffbg_c)))))::.blk 0::K) (sT 20 [(0,.hs 1 0 [] 1 0 (x3.2.2.map str).length),(1,I x3.1),(5,I x3.2.1)] [⟨0,1,x3.2.2.map str⟩] 2):=by
 refine fix_indP (Ffbg_la_fin a_7 k_8) ?_
 intro self ih x3 y h hr hn
 unfold Ffbg_la_F at h
 refine cq 5 [6,7] [I x3.2.1,.hs 1 0 [] 1 0 (x3.2.2.map str).length] 34 ?_
 refine oq 50 (I (len x3.2.2)) rfl (e_len rfl rfl rfl (l_hsM (f:=str) (xs:=x3.2.2) rfl rfl)) ?_
 refine cq 2 [9] [B (decide (x3.2.1<(len x3.2.2)))] 66 ?_
 refine sq h (fun h=>?_) fun h=>?_
 ·refine aq 1 ?_
  refine cq 7 [12,13,14] [.hs 1 0 [] 1 0 (x3.2.2.map str).length,I x3.2.1,I x3.1] 114 ?_
  obtain⟨r4,hr4,h⟩:=bS h
  refine oq 130 (str r4) rfl (cP (Ffbh_F hr4)) ?_
  obtain⟨e5,he5,h⟩:=bS h
  refine oq 146 (.hp 1 0 [] 1 (0+Int.toNat x3.2.1) 0) rfl (e_indexAddr rfl rfl rfl (ix_hsM (f:=str) (xs:=x3.2.2) rfl rfl rfl he5)) ?_
  refine o0 162 rfl rfl (e_st rfl rfl (st_at (path:=[]) (pl:=true) (e':=str r4) (es2':=(setI x3.2.2 x3.2.1 r4).map str) rfl (absorb_plain rfl) rfl rfl rfl ra_n (get_map (f:=str) (xs:=x3.2.2) he5) rfl rfl rfl (set_map (f:=str) (xs:=x3.2.2) (y:=r4)) sr_n 0 rfl)) ?_
  try rw[←len_setM (f:=str) (xs:=x3.2.2) (i:=x3.2.1) (z:=r4)]
  refine cq 12 [1,5] [I (w64 (x3.1+1)),I (w64 (x3.2.1+1))] 258 ?_
  refine s_lp ?_
  exact rf [0,1,5] [1] (ih _ _ h hr hn :)
 ·refine aq 1 ?_
  exact rf [1] [1] (hn _ (Option.some.inj h).symm :) (hk:=hK)
theorem Ffbg_run (a_7:List Str)(k_8:Int)(r:Int×(List Str))(h:Ffbg a_7 k_8=some r):RunF Ffbg_E Tryz.f63 [true,false] 1 (Ffbg_A (a_7,k_8)) (Ffbg_R r):=by
 show Run _ _ (Ffbg_Q (a_7,k_8) r) [.code Ffbg_c] _
 refine rI 20 [(0,.hs 1 0 [] 1 0 (a_7.map str).length),(1,I k_8)] [(1,some ⟨0,1,a_7.map str⟩)] 2 ?_
 unfold Ffbg at h
 refine cq 10 [5] [I (0)] 34 ?_
 obtain⟨y6,hy6,hy61,hy62⟩:=bJ h
 refine s_loop rfl ?_
 refine rf [0,1,5] [1] (Ffbg_la_run a_7 k_8 rfl (k_8,0,a_7) _ hy6 (fun r' e st hq=>by rw[hy61 r' e] at hq;exact hq) fun u6 hu=>?_)
 replace h:=hy62 u6 hu
 refine cq 5 [4] [I u6.1] 34 ?_
 obtain⟨g7,h⟩:=gG h
 obtain rfl:=Option.some.inj h
 exact s_ret rfl ⟨_,fin (vs:=[I u6.1]) rfl (absE (absorb_plain rfl) absEN) rfl (ou_1 rfl (oc_hsG (f:=str) (xs:=u6.2) (by simpa using g7) rfl) (ou_f ou_n)),kl_c kl_n⟩
theorem Ffbg_good {G:Go.Ln.Ground}:Good Tryz.prog G 63 Ffbg_ent:=gT 2 1 (gl_c Ffbh_good gl_n) (Checked.mixed Tryz.checked) Tryz.func63 (fun a r h=>Ffbg_run a.1 a.2 r h)
def Ffbd_A:((List Condition)×Int)→List V:=cA (usE 4 encO_Condition) (oA I)
def Ffbd_R (r:Int×(List Condition)):V×List V:=(I r.1,[.usl 4 (r.2.map encO_Condition)])
noncomputable def Ffbd_entS (slf_Ffbd:((List Condition)×Int)→Option (Int×(List Condition))):Ent:=entT [true,false] Ffbd_A Ffbd_R slf_Ffbd
theorem Ffbd_FS (slf_Ffbd:((List Condition)×Int)→Option (Int×(List Condition))){x}{r}(h:slf_Ffbd x=some r):(Ffbd_entS slf_Ffbd).F (Ffbd_A x)=some (Ffbd_R r):=entT_F (cA_inj (usl_inj encO_Condition_inj) (oA_inj I_inj)) h
noncomputable def Ffbd_ent:Ent:=Ffbd_entS (fixO Ffbd_G)
theorem Ffbd_F {a_6:List Condition}{k_7:Int}{r}(h:Ffbd a_6 k_7=some r):Ffbd_ent.F (Ffbd_A (a_6,k_7))=some (Ffbd_R r):=Ffbd_FS (fixO Ffbd_G) h
noncomputable def Ffbd_c:Code:=bodyOf Tryz.f107
noncomputable def Ffbd_E (slf_Ffbd:((List Condition)×Int)→Option (Int×(List Condition))):Env:=mkE Tryz.prog [(106,Ffbh_ent),(107,(Ffbd_entS slf_Ffbd))]
def Ffbd_Q (slf_Ffbd:((List Condition)×Int)→Option (Int×(List Condition)))(x:(List Condition)×Int)(r:Int×(List Condition)):St→Prop:=QF (Ffbd_E slf_Ffbd) Tryz.f107 [true,false] (Ffbd_A x) (Ffbd_R r)
theorem Ffbd_la_run (slf_Ffbd:((List Condition)×Int)→Option (Int×(List Condition)))(a_6:List Condition)(k_7:Int){Q:St→Prop}{K:List It}(hK:noD K=true):∀(x3:Int×Int×(List Condition)) (y:(Int×(List Condition))⊕(Int×(List Condition))),Ffbd_la slf_Ffbd a_6 k_7 x3=some y→(∀r',y=.inl r'→∀st,Ffbd_Q slf_Ffbd (a_6,k_7) r' st→Q st)→(∀u:Int×(List Condition),y=.inr u→Run (Ffbd_E slf_Ffbd) 1 Q K (sT 42 [(1,I u.1)] [⟨0,4,u.2.map encO_Condition⟩] 2))→Run (Ffbd_E slf_Ffbd) 1 Q (.code (cL (cL (cR (cL (cR Ffbd_c)))))::.lp (cL (cL (cR (cL (cR Ffbd_c)))))::.blk 0::K) (sT 42 [(0,.hs 1 0 [] 4 0 (x3.2.2.map encO_Condition).length),(1,I x3.1),(5,I x3.2.1)] [⟨0,4,x3.2.2.map encO_Condition⟩] 2):=by
 refine fix_indP (Ffbd_la_fin slf_Ffbd a_6 k_7) ?_
 intro self ih x3 y h hr hn
 unfold Ffbd_la_F at h
 refine cq 5 [6,7] [I x3.2.1,.hs 1 0 [] 4 0 (x3.2.2.map encO_Condition).length] 34 ?_
 refine oq 50 (I (len x3.2.2)) rfl (e_len rfl rfl rfl (l_hsM (f:=encO_Condition) (xs:=x3.2.2) rfl rfl)) ?_
 refine cq 2 [9] [B (decide (x3.2.1<(len x3.2.2)))] 66 ?_
 refine sq h (fun h=>?_) fun h=>?_
 ·refine aq 1 ?_
  refine cq 7 [12,13,14] [.hs 1 0 [] 4 0 (x3.2.2.map encO_Condition).length,I x3.2.1,I x3.1] 114 ?_
  obtain⟨e4,he4,h⟩:=bS h
  refine oq 130 (.hp 1 0 [] 4 (0+Int.toNat x3.2.1) 0) rfl (e_indexAddr rfl rfl rfl (ix_hsM (f:=encO_Condition) (xs:=x3.2.2) rfl rfl rfl he4)) ?_
  refine cq 1 [16] [.hp 1 0 [] 4 (0+Int.toNat x3.2.1) 0] 146 ?_
  refine o0 162 rfl rfl (e_st rfl rfl (st_at (path:=[]) (pl:=true) (e':=.agg [I x3.1,str e4.Name,I e4.Day,.usl 4 (e4.Parts.map encO_Condition)]) (es2':=(setI x3.2.2 x3.2.1 (Condition.mk x3.1 e4.Name e4.Day e4.Parts)).map encO_Condition) rfl (absorb_plain rfl) rfl rfl rfl ra_n (get_mapE (f:=encO_Condition) (xs:=x3.2.2) (encO_Condition_eq e4) he4) rfl rfl rfl (set_mapE (f:=encO_Condition) (xs:=x3.2.2) (encO_Condition_eq (Condition.mk x3.1 e4.Name e4.Day e4.Parts))) sr_n 0 rfl)) ?_
  try rw[←len_setM (f:=encO_Condition) (xs:=x3.2.2) (i:=x3.2.1) (z:=(Condition.mk x3.1 e4.Name e4.Day e4.Parts))]
  refine cq 12 [1,19,20,21] [I (w64 (x3.1+1)),.hs 1 0 [] 4 0 ((setI x3.2.2 x3.2.1 (Condition.mk x3.1 e4.Name e4.Day e4.Parts)).map encO_Condition).length,I x3.2.1,I (w64 (x3.1+1))] 258 ?_
  obtain⟨r5,hr5,h⟩:=bS h
  refine oq 274 (str r5) rfl (cP (Ffbh_F hr5)) ?_
  obtain⟨e6,he6,h⟩:=bS h
  refine oq 290 (.hp 1 0 [] 4 (0+Int.toNat x3.2.1) 0) rfl (e_indexAddr rfl rfl rfl (ix_hsM (f:=encO_Condition) (xs:=(setI x3.2.2 x3.2.1 (Condition.mk x3.1 e4.Name e4.Day e4.Parts))) rfl rfl rfl he6)) ?_
  refine cq 1 [24] [.hp 1 0 [] 4 (0+Int.toNat x3.2.1) 1] 306 ?_
  obtain⟨rw7,hrw7,h⟩:=lJ h
  refine o0 322 rfl rfl (e_st rfl rfl (st_at (path:=[]) (pl:=true) (e':=.agg [I e6.Op,str r5,I e6.Day,.usl 4 (e6.Parts.map encO_Condition)]) (es2':=(rw7).map encO_Condition) rfl (absorb_plain rfl) rfl rfl rfl ra_n (get_mapE (f:=encO_Condition) (xs:=(setI x3.2.2 x3.2.1 (Condition.mk x3.1 e4.Name e4.Day e4.Parts))) (encO_Condition_eq e6) he6) rfl rfl rfl (set_mapEW (f:=encO_Condition) (xs:=(setI x3.2.2 x3.2.1 (Condition.mk x3.1 e4.Name e4.Day e4.Parts))) (encO_Condition_eq (Condition.mk e6.Op r5 e6.Day e6.Parts)) hrw7) sr_n 0 rfl)) ?_
  try rw[←len_setMW hrw7 (f:=encO_Condition) (xs:=(setI x3.2.2 x3.2.1 (Condition.mk x3.1 e4.Name e4.Day e4.Parts)))]
  refine cq 12 [1,27,28,29] [I (w64 ((w64 (x3.1+1))+1)),.hs 1 0 [] 4 0 (rw7.map encO_Condition).length,I x3.2.1,I (w64 ((w64 (x3.1+1))+1))] 418 ?_
  obtain⟨e9,he9,h⟩:=bS h
  refine oq 434 (.hp 1 0 [] 4 (0+Int.toNat x3.2.1) 0) rfl (e_indexAddr rfl rfl rfl (ix_hsM (f:=encO_Condition) (xs:=rw7) rfl rfl rfl he9)) ?_
  refine cq 1 [31] [.hp 1 0 [] 4 (0+Int.toNat x3.2.1) 2] 450 ?_
  obtain⟨rw10,hrw10,h⟩:=lJ h
  refine o0 466 rfl rfl (e_st rfl rfl (st_at (path:=[]) (pl:=true) (e':=.agg [I e9.Op,str e9.Name,I (w64 ((w64 (x3.1+1))+1)),.usl 4 (e9.Parts.map encO_Condition)]) (es2':=(rw10).map encO_Condition) rfl (absorb_plain rfl) rfl rfl rfl ra_n (get_mapE (f:=encO_Condition) (xs:=rw7) (encO_Condition_eq e9) he9) rfl rfl rfl (set_mapEW (f:=encO_Condition) (xs:=rw7) (encO_Condition_eq (Condition.mk e9.Op e9.Name (w64 ((w64 (x3.1+1))+1)) e9.Parts)) hrw10) sr_n 0 rfl)) ?_
  try rw[←len_setMW hrw10 (f:=encO_Condition) (xs:=rw7)]
  refine cq 10 [1,34,35] [I (w64 ((w64 ((w64 (x3.1+1))+1))+1)),.hs 1 0 [] 4 0 (rw10.map encO_Condition).length,I x3.2.1] 546 ?_
  obtain⟨e13,he13,h⟩:=bS h
  refine oq 562 (.hp 1 0 [] 4 (0+Int.toNat x3.2.1) 0) rfl (e_indexAddr rfl rfl rfl (ix_hsM (f:=encO_Condition) (xs:=rw10) rfl rfl rfl he13)) ?_
  refine cq 1 [37] [.hp 1 0 [] 4 (0+Int.toNat x3.2.1) 3] 578 ?_
  refine oq 594 (.hs 1 0 [((0+Int.toNat x3.2.1),3)] 4 0 (e13.Parts.map encO_Condition).length) rfl (e_ld rfl (ld_at (path:=[]) rfl rfl rfl ra_n (get_mapE (f:=encO_Condition) (xs:=rw10) (encO_Condition_eq e13) he13) rfl rfl rfl)) ?_
  refine cq 1 [39] [I (w64 ((w64 ((w64 (x3.1+1))+1))+1))] 610 ?_
  obtain⟨r14,hr14,h⟩:=bS h
  obtain⟨g15,h⟩:=gG h
  obtain⟨rw16,hrw16,h⟩:=lJ h
  refine oq 626 (I r14.1) rfl (e_callV rfl rfl (call_P rfl rfl rfl (avO (hd1 rfl (hd_hs (path:=[((0+Int.toNat x3.2.1),3)]) rfl rfl (ra_c (get_mapE (f:=encO_Condition) (xs:=rw10) (encO_Condition_eq e13) he13) rfl ra_n) rfl)) (avS (shP rfl) avN)) (Ffbd_FS slf_Ffbd hr14) (.inr rfl) (bl_c rfl rfl rfl (bk_s (ra_c (get_mapE (f:=encO_Condition) (xs:=rw10) (encO_Condition_eq e13) he13) rfl ra_n) (len_eqM (f:=encO_Condition) (xs:=e13.Parts) (ys:=r14.2) g15).symm (sr_c (get_mapE (f:=encO_Condition) (xs:=rw10) (encO_Condition_eq e13) he13) rfl sr_n (rfl:(_:V)=.agg [I e13.Op,str e13.Name,I e13.Day,.usl 4 (r14.2.map encO_Condition)]) (set_mapEW (f:=encO_Condition) (xs:=rw10) (encO_Condition_eq (Condition.mk e13.Op e13.Name e13.Day r14.2)) hrw16))) bl_n) rfl rfl rfl)) ?_
  try rw[len_eqM (f:=encO_Condition) (xs:=e13.Parts) (ys:=r14.2) g15]
  try rw[←len_setMW hrw16 (f:=encO_Condition) (xs:=rw10)]
  refine cq 8 [1,5] [I r14.1,I (w64 (x3.2.1+1))] 690 ?_
  refine s_lp ?_
  exact rf [0,1,5] [1] (ih _ _ h hr hn :)
 ·refine aq 1 ?_
  exact rf [1] [1] (hn _ (Option.some.inj h).symm :) (hk:=hK)
theorem Ffbd_run (slf_Ffbd:((List Condition)×Int)→Option (Int×(List Condition)))(a_6:List Condition)(k_7:Int)(r:Int×(List Condition))(h:Ffbd_B slf_Ffbd a_6 k_7=some r):RunF (Ffbd_E slf_Ffbd) Tryz.f107 [true,false] 1 (Ffbd_A (a_6,k_7)) (Ffbd_R r):=by
 show Run _ _ (Ffbd_Q slf_Ffbd (a_6,k_7) r) [.code Ffbd_c] _
 refine rI 42 [(0,.hs 1 0 [] 4 0 (a_6.map encO_Condition).length),(1,I k_7)] [(1,some ⟨0,4,a_6.map encO_Condition⟩)] 2 ?_
 unfold Ffbd_B at h
 refine cq 10 [5] [I (0)] 34 ?_
 obtain⟨y20,hy20,hy201,hy202⟩:=bJ h
 refine s_loop rfl ?_
 refine rf [0,1,5] [1] (Ffbd_la_run slf_Ffbd a_6 k_7 rfl (k_7,0,a_6) _ hy20 (fun r' e st hq=>by rw[hy201 r' e] at hq;exact hq) fun u20 hu=>?_)
 replace h:=hy202 u20 hu
 refine cq 5 [4] [I u20.1] 34 ?_
 obtain⟨g21,h⟩:=gG h
 obtain rfl:=Option.some.inj h
 exact s_ret rfl ⟨_,fin (vs:=[I u20.1]) rfl (absE (absorb_plain rfl) absEN) rfl (ou_1 rfl (oc_hsG (f:=encO_Condition) (xs:=u20.2) (by simpa using g21) rfl) (ou_f ou_n)),kl_c kl_n⟩
theorem Ffbd_good {G:Go.Ln.Ground}:Good Tryz.prog G 107 Ffbd_ent:=good_rec fun slf_Ffbd g_Ffbd=>gT 2 1 (gl_c Ffbh_good (gl_c g_Ffbd gl_n)) (Checked.mixed Tryz.checked) Tryz.func107 (fun a r h=>Ffbd_run slf_Ffbd a.1 a.2 r h)
def Ffbc_A:((List Clause)×Int)→List V:=cA (usE 12 encO_Clause) (oA I)
def Ffbc_R (r:Int×(List Clause)):V×List V:=(I r.1,[.usl 12 (r.2.map encO_Clause)])
noncomputable def Ffbc_ent:Ent:=entT [true,false] Ffbc_A Ffbc_R fun x=>Ffbc x.1 x.2
theorem Ffbc_F {a_7:List Clause}{k_8:Int}{r}(h:Ffbc a_7 k_8=some r):Ffbc_ent.F (Ffbc_A (a_7,k_8))=some (Ffbc_R r):=entT_F (cA_inj (usl_inj encO_Clause_inj) (oA_inj I_inj)) h
noncomputable def Ffbc_c:Code:=bodyOf Tryz.f64
noncomputable def Ffbc_E:Env:=mkE Tryz.prog [(106,Ffbh_ent),(107,Ffbd_ent)]
def Ffbc_Q (x:(List Clause)×Int)(r:Int×(List Clause)):St→Prop:=QF Ffbc_E Tryz.f64 [true,false] (Ffbc_A x) (Ffbc_R r)
theorem Ffbc_la_run (a_7:List Clause)(k_8:Int){Q:St→Prop}{K:List It}(hK:noD K=true):∀(x3:Int×Int×(List Clause)) (y:(Int×(List Clause))⊕(Int×(List Clause))),Ffbc_la a_7 k_8 x3=some y→(∀r',y=.inl r'→∀st,Ffbc_Q (a_7,k_8) r' st→Q st)→(∀u:Int×(List Clause),y=.inr u→Run Ffbc_E 1 Q K (sT 105 [(1,I u.1)] [⟨0,12,u.2.map encO_Clause⟩] 2))→Run Ffbc_E 1 Q (.code (cL (cL (cR (cL (cR Ffbc_c)))))::.lp (cL (cL (cR (cL (cR Ffbc_c)))))::.blk 0::K) (sT 105 [(0,.hs 1 0 [] 12 0 (x3.2.2.map encO_Clause).length),(1,I x3.1),(5,I x3.2.1)] [⟨0,12,x3.2.2.map encO_Clause⟩] 2):=by
 refine fix_indP (Ffbc_la_fin a_7 k_8) ?_
 intro self ih x3 y h hr hn
 unfold Ffbc_la_F at h
 refine cq 5 [6,7] [I x3.2.1,.hs 1 0 [] 12 0 (x3.2.2.map encO_Clause).length] 34 ?_
 refine oq 50 (I (len x3.2.2)) rfl (e_len rfl rfl rfl (l_hsM (f:=encO_Clause) (xs:=x3.2.2) rfl rfl)) ?_
 refine cq 2 [9] [B (decide (x3.2.1<(len x3.2.2)))] 66 ?_
 refine sq h (fun h=>?_) fun h=>?_
 ·refine aq 1 ?_
  refine cq 7 [12,13,14] [.hs 1 0 [] 12 0 (x3.2.2.map encO_Clause).length,I x3.2.1,I x3.1] 114 ?_
  obtain⟨r4,hr4,h⟩:=bS h
  refine oq 130 (str r4) rfl (cP (Ffbh_F hr4)) ?_
  obtain⟨e5,he5,h⟩:=bS h
  refine oq 146 (.hp 1 0 [] 12 (0+Int.toNat x3.2.1) 0) rfl (e_indexAddr rfl rfl rfl (ix_hsM (f:=encO_Clause) (xs:=x3.2.2) rfl rfl rfl he5)) ?_
  refine cq 1 [17] [.hp 1 0 [] 12 (0+Int.toNat x3.2.1) 0] 162 ?_
  refine o0 178 rfl rfl (e_st rfl rfl (st_at (path:=[]) (pl:=true) (e':=.agg [str r4,I e5.Kind,I e5.Party,str e5.Action,I e5.Other,I e5.Amount,I e5.When.Op,str e5.When.Name,I e5.When.Day,.usl 4 (e5.When.Parts.map encO_Condition),I e5.Within,str e5.Repair]) (es2':=(setI x3.2.2 x3.2.1 (Clause.mk r4 e5.Kind e5.Party e5.Action e5.Other e5.Amount e5.When e5.Within e5.Repair)).map encO_Clause) rfl (absorb_plain rfl) rfl rfl rfl ra_n (get_map (f:=encO_Clause) (xs:=x3.2.2) he5) rfl rfl rfl (set_map (f:=encO_Clause) (xs:=x3.2.2) (y:=(Clause.mk r4 e5.Kind e5.Party e5.Action e5.Other e5.Amount e5.When e5.Within e5.Repair))) sr_n 0 rfl)) ?_
  try rw[←len_setM (f:=encO_Clause) (xs:=x3.2.2) (i:=x3.2.1) (z:=(Clause.mk r4 e5.Kind e5.Party e5.Action e5.Other e5.Amount e5.When e5.Within e5.Repair))]
  refine cq 12 [1,20,21,22] [I (w64 (x3.1+1)),.hs 1 0 [] 12 0 ((setI x3.2.2 x3.2.1 (Clause.mk r4 e5.Kind e5.Party e5.Action e5.Other e5.Amount e5.When e5.Within e5.Repair)).map encO_Clause).length,I x3.2.1,I (w64 (x3.1+1))] 274 ?_
  obtain⟨e6,he6,h⟩:=bS h
  refine oq 290 (.hp 1 0 [] 12 (0+Int.toNat x3.2.1) 0) rfl (e_indexAddr rfl rfl rfl (ix_hsM (f:=encO_Clause) (xs:=(setI x3.2.2 x3.2.1 (Clause.mk r4 e5.Kind e5.Party e5.Action e5.Other e5.Amount e5.When e5.Within e5.Repair))) rfl rfl rfl he6)) ?_
  refine cq 1 [24] [.hp 1 0 [] 12 (0+Int.toNat x3.2.1) 1] 306 ?_
  obtain⟨rw7,hrw7,h⟩:=lJ h
  refine o0 322 rfl rfl (e_st rfl rfl (st_at (path:=[]) (pl:=true) (e':=.agg [str e6.Id,I (w64 (x3.1+1)),I e6.Party,str e6.Action,I e6.Other,I e6.Amount,I e6.When.Op,str e6.When.Name,I e6.When.Day,.usl 4 (e6.When.Parts.map encO_Condition),I e6.Within,str e6.Repair]) (es2':=(rw7).map encO_Clause) rfl (absorb_plain rfl) rfl rfl rfl ra_n (get_map (f:=encO_Clause) (xs:=(setI x3.2.2 x3.2.1 (Clause.mk r4 e5.Kind e5.Party e5.Action e5.Other e5.Amount e5.When e5.Within e5.Repair))) he6) rfl rfl rfl (set_mapW (f:=encO_Clause) (xs:=(setI x3.2.2 x3.2.1 (Clause.mk r4 e5.Kind e5.Party e5.Action e5.Other e5.Amount e5.When e5.Within e5.Repair))) (y:=(Clause.mk e6.Id (w64 (x3.1+1)) e6.Party e6.Action e6.Other e6.Amount e6.When e6.Within e6.Repair)) hrw7) sr_n 0 rfl)) ?_
  try rw[←len_setMW hrw7 (f:=encO_Clause) (xs:=(setI x3.2.2 x3.2.1 (Clause.mk r4 e5.Kind e5.Party e5.Action e5.Other e5.Amount e5.When e5.Within e5.Repair)))]
  refine cq 12 [1,27,28,29] [I (w64 ((w64 (x3.1+1))+1)),.hs 1 0 [] 12 0 (rw7.map encO_Clause).length,I x3.2.1,I (w64 ((w64 (x3.1+1))+1))] 418 ?_
  obtain⟨e9,he9,h⟩:=bS h
  refine oq 434 (.hp 1 0 [] 12 (0+Int.toNat x3.2.1) 0) rfl (e_indexAddr rfl rfl rfl (ix_hsM (f:=encO_Clause) (xs:=rw7) rfl rfl rfl he9)) ?_
  refine cq 1 [31] [.hp 1 0 [] 12 (0+Int.toNat x3.2.1) 2] 450 ?_
  obtain⟨rw10,hrw10,h⟩:=lJ h
  refine o0 466 rfl rfl (e_st rfl rfl (st_at (path:=[]) (pl:=true) (e':=.agg [str e9.Id,I e9.Kind,I (w64 ((w64 (x3.1+1))+1)),str e9.Action,I e9.Other,I e9.Amount,I e9.When.Op,str e9.When.Name,I e9.When.Day,.usl 4 (e9.When.Parts.map encO_Condition),I e9.Within,str e9.Repair]) (es2':=(rw10).map encO_Clause) rfl (absorb_plain rfl) rfl rfl rfl ra_n (get_map (f:=encO_Clause) (xs:=rw7) he9) rfl rfl rfl (set_mapW (f:=encO_Clause) (xs:=rw7) (y:=(Clause.mk e9.Id e9.Kind (w64 ((w64 (x3.1+1))+1)) e9.Action e9.Other e9.Amount e9.When e9.Within e9.Repair)) hrw10) sr_n 0 rfl)) ?_
  try rw[←len_setMW hrw10 (f:=encO_Clause) (xs:=rw7)]
  refine cq 12 [1,34,35,36] [I (w64 ((w64 ((w64 (x3.1+1))+1))+1)),.hs 1 0 [] 12 0 (rw10.map encO_Clause).length,I x3.2.1,I (w64 ((w64 ((w64 (x3.1+1))+1))+1))] 562 ?_
  obtain⟨r13,hr13,h⟩:=bS h
  refine oq 578 (str r13) rfl (cP (Ffbh_F hr13)) ?_
  obtain⟨e14,he14,h⟩:=bS h
  refine oq 594 (.hp 1 0 [] 12 (0+Int.toNat x3.2.1) 0) rfl (e_indexAddr rfl rfl rfl (ix_hsM (f:=encO_Clause) (xs:=rw10) rfl rfl rfl he14)) ?_
  refine cq 1 [39] [.hp 1 0 [] 12 (0+Int.toNat x3.2.1) 3] 610 ?_
  obtain⟨rw15,hrw15,h⟩:=lJ h
  refine o0 626 rfl rfl (e_st rfl rfl (st_at (path:=[]) (pl:=true) (e':=.agg [str e14.Id,I e14.Kind,I e14.Party,str r13,I e14.Other,I e14.Amount,I e14.When.Op,str e14.When.Name,I e14.When.Day,.usl 4 (e14.When.Parts.map encO_Condition),I e14.Within,str e14.Repair]) (es2':=(rw15).map encO_Clause) rfl (absorb_plain rfl) rfl rfl rfl ra_n (get_map (f:=encO_Clause) (xs:=rw10) he14) rfl rfl rfl (set_mapW (f:=encO_Clause) (xs:=rw10) (y:=(Clause.mk e14.Id e14.Kind e14.Party r13 e14.Other e14.Amount e14.When e14.Within e14.Repair)) hrw15) sr_n 0 rfl)) ?_
  try rw[←len_setMW hrw15 (f:=encO_Clause) (xs:=rw10)]
  refine cq 12 [1,42,43,44] [I (w64 ((w64 ((w64 ((w64 (x3.1+1))+1))+1))+1)),.hs 1 0 [] 12 0 (rw15.map encO_Clause).length,I x3.2.1,I (w64 ((w64 ((w64 ((w64 (x3.1+1))+1))+1))+1))] 722 ?_
  obtain⟨e19,he19,h⟩:=bS h
  refine oq 738 (.hp 1 0 [] 12 (0+Int.toNat x3.2.1) 0) rfl (e_indexAddr rfl rfl rfl (ix_hsM (f:=encO_Clause) (xs:=rw15) rfl rfl rfl he19)) ?_
  refine cq 1 [46] [.hp 1 0 [] 12 (0+Int.toNat x3.2.1) 4] 754 ?_
  obtain⟨rw20,hrw20,h⟩:=lJ h
  refine o0 770 rfl rfl (e_st rfl rfl (st_at (path:=[]) (pl:=true) (e':=.agg [str e19.Id,I e19.Kind,I e19.Party,str e19.Action,I (w64 ((w64 ((w64 ((w64 (x3.1+1))+1))+1))+1)),I e19.Amount,I e19.When.Op,str e19.When.Name,I e19.When.Day,.usl 4 (e19.When.Parts.map encO_Condition),I e19.Within,str e19.Repair]) (es2':=(rw20).map encO_Clause) rfl (absorb_plain rfl) rfl rfl rfl ra_n (get_map (f:=encO_Clause) (xs:=rw15) he19) rfl rfl rfl (set_mapW (f:=encO_Clause) (xs:=rw15) (y:=(Clause.mk e19.Id e19.Kind e19.Party e19.Action (w64 ((w64 ((w64 ((w64 (x3.1+1))+1))+1))+1)) e19.Amount e19.When e19.Within e19.Repair)) hrw20) sr_n 0 rfl)) ?_
  try rw[←len_setMW hrw20 (f:=encO_Clause) (xs:=rw15)]
  refine cq 12 [1,49,50,51] [I (w64 ((w64 ((w64 ((w64 ((w64 (x3.1+1))+1))+1))+1))+1)),.hs 1 0 [] 12 0 (rw20.map encO_Clause).length,I x3.2.1,I (w64 ((w64 ((w64 ((w64 ((w64 (x3.1+1))+1))+1))+1))+1))] 866 ?_
  obtain⟨e25,he25,h⟩:=bS h
  refine oq 882 (.hp 1 0 [] 12 (0+Int.toNat x3.2.1) 0) rfl (e_indexAddr rfl rfl rfl (ix_hsM (f:=encO_Clause) (xs:=rw20) rfl rfl rfl he25)) ?_
  refine cq 1 [53] [.hp 1 0 [] 12 (0+Int.toNat x3.2.1) 5] 898 ?_
  obtain⟨rw26,hrw26,h⟩:=lJ h
  refine o0 914 rfl rfl (e_st rfl rfl (st_at (path:=[]) (pl:=true) (e':=.agg [str e25.Id,I e25.Kind,I e25.Party,str e25.Action,I e25.Other,I (w64 ((w64 ((w64 ((w64 ((w64 (x3.1+1))+1))+1))+1))+1)),I e25.When.Op,str e25.When.Name,I e25.When.Day,.usl 4 (e25.When.Parts.map encO_Condition),I e25.Within,str e25.Repair]) (es2':=(rw26).map encO_Clause) rfl (absorb_plain rfl) rfl rfl rfl ra_n (get_map (f:=encO_Clause) (xs:=rw20) he25) rfl rfl rfl (set_mapW (f:=encO_Clause) (xs:=rw20) (y:=(Clause.mk e25.Id e25.Kind e25.Party e25.Action e25.Other (w64 ((w64 ((w64 ((w64 ((w64 (x3.1+1))+1))+1))+1))+1)) e25.When e25.Within e25.Repair)) hrw26) sr_n 0 rfl)) ?_
  try rw[←len_setMW hrw26 (f:=encO_Clause) (xs:=rw20)]
  refine cq 12 [1,56,57,58] [I (w64 ((w64 ((w64 ((w64 ((w64 ((w64 (x3.1+1))+1))+1))+1))+1))+1)),.hs 1 0 [] 12 0 (rw26.map encO_Clause).length,I x3.2.1,I (w64 ((w64 ((w64 ((w64 ((w64 ((w64 (x3.1+1))+1))+1))+1))+1))+1))] 1010 ?_
  obtain⟨e32,he32,h⟩:=bS h
  refine oq 1026 (.hp 1 0 [] 12 (0+Int.toNat x3.2.1) 0) rfl (e_indexAddr rfl rfl rfl (ix_hsM (f:=encO_Clause) (xs:=rw26) rfl rfl rfl he32)) ?_
  refine cq 2 [61] [.hp 1 0 [] 12 (0+Int.toNat x3.2.1) 6] 1058 ?_
  obtain⟨rw33,hrw33,h⟩:=lJ h
  refine o0 1074 rfl rfl (e_st rfl rfl (st_at (path:=[]) (pl:=true) (e':=.agg [str e32.Id,I e32.Kind,I e32.Party,str e32.Action,I e32.Other,I e32.Amount,I (w64 ((w64 ((w64 ((w64 ((w64 ((w64 (x3.1+1))+1))+1))+1))+1))+1)),str e32.When.Name,I e32.When.Day,.usl 4 (e32.When.Parts.map encO_Condition),I e32.Within,str e32.Repair]) (es2':=(rw33).map encO_Clause) rfl (absorb_plain rfl) rfl rfl rfl ra_n (get_map (f:=encO_Clause) (xs:=rw26) he32) rfl rfl rfl (set_mapW (f:=encO_Clause) (xs:=rw26) (y:=(Clause.mk e32.Id e32.Kind e32.Party e32.Action e32.Other e32.Amount (Condition.mk (w64 ((w64 ((w64 ((w64 ((w64 ((w64 (x3.1+1))+1))+1))+1))+1))+1)) e32.When.Name e32.When.Day e32.When.Parts) e32.Within e32.Repair)) hrw33) sr_n 0 rfl)) ?_
  try rw[←len_setMW hrw33 (f:=encO_Clause) (xs:=rw26)]
  refine cq 12 [1,64,65,66] [I (w64 ((w64 ((w64 ((w64 ((w64 ((w64 ((w64 (x3.1+1))+1))+1))+1))+1))+1))+1)),.hs 1 0 [] 12 0 (rw33.map encO_Clause).length,I x3.2.1,I (w64 ((w64 ((w64 ((w64 ((w64 ((w64 ((w64 (x3.1+1))+1))+1))+1))+1))+1))+1))] 1170 ?_
  obtain⟨r40,hr40,h⟩:=bS h
  refine oq 1186 (str r40) rfl (cP (Ffbh_F hr40)) ?_
  obtain⟨e41,he41,h⟩:=bS h
  refine oq 1202 (.hp 1 0 [] 12 (0+Int.toNat x3.2.1) 0) rfl (e_indexAddr rfl rfl rfl (ix_hsM (f:=encO_Clause) (xs:=rw33) rfl rfl rfl he41)) ?_
  refine cq 2 [70] [.hp 1 0 [] 12 (0+Int.toNat x3.2.1) 7] 1234 ?_
  obtain⟨rw42,hrw42,h⟩:=lJ h
  refine o0 1250 rfl rfl (e_st rfl rfl (st_at (path:=[]) (pl:=true) (e':=.agg [str e41.Id,I e41.Kind,I e41.Party,str e41.Action,I e41.Other,I e41.Amount,I e41.When.Op,str r40,I e41.When.Day,.usl 4 (e41.When.Parts.map encO_Condition),I e41.Within,str e41.Repair]) (es2':=(rw42).map encO_Clause) rfl (absorb_plain rfl) rfl rfl rfl ra_n (get_map (f:=encO_Clause) (xs:=rw33) he41) rfl rfl rfl (set_mapW (f:=encO_Clause) (xs:=rw33) (y:=(Clause.mk e41.Id e41.Kind e41.Party e41.Action e41.Other e41.Amount (Condition.mk e41.When.Op r40 e41.When.Day e41.When.Parts) e41.Within e41.Repair)) hrw42) sr_n 0 rfl)) ?_
  try rw[←len_setMW hrw42 (f:=encO_Clause) (xs:=rw33)]
  refine cq 12 [1,73,74,75] [I (w64 ((w64 ((w64 ((w64 ((w64 ((w64 ((w64 ((w64 (x3.1+1))+1))+1))+1))+1))+1))+1))+1)),.hs 1 0 [] 12 0 (rw42.map encO_Clause).length,I x3.2.1,I (w64 ((w64 ((w64 ((w64 ((w64 ((w64 ((w64 ((w64 (x3.1+1))+1))+1))+1))+1))+1))+1))+1))] 1346 ?_
  obtain⟨e50,he50,h⟩:=bS h
  refine oq 1362 (.hp 1 0 [] 12 (0+Int.toNat x3.2.1) 0) rfl (e_indexAddr rfl rfl rfl (ix_hsM (f:=encO_Clause) (xs:=rw42) rfl rfl rfl he50)) ?_
  refine cq 2 [78] [.hp 1 0 [] 12 (0+Int.toNat x3.2.1) 8] 1394 ?_
  obtain⟨rw51,hrw51,h⟩:=lJ h
  refine o0 1410 rfl rfl (e_st rfl rfl (st_at (path:=[]) (pl:=true) (e':=.agg [str e50.Id,I e50.Kind,I e50.Party,str e50.Action,I e50.Other,I e50.Amount,I e50.When.Op,str e50.When.Name,I (w64 ((w64 ((w64 ((w64 ((w64 ((w64 ((w64 ((w64 (x3.1+1))+1))+1))+1))+1))+1))+1))+1)),.usl 4 (e50.When.Parts.map encO_Condition),I e50.Within,str e50.Repair]) (es2':=(rw51).map encO_Clause) rfl (absorb_plain rfl) rfl rfl rfl ra_n (get_map (f:=encO_Clause) (xs:=rw42) he50) rfl rfl rfl (set_mapW (f:=encO_Clause) (xs:=rw42) (y:=(Clause.mk e50.Id e50.Kind e50.Party e50.Action e50.Other e50.Amount (Condition.mk e50.When.Op e50.When.Name (w64 ((w64 ((w64 ((w64 ((w64 ((w64 ((w64 ((w64 (x3.1+1))+1))+1))+1))+1))+1))+1))+1)) e50.When.Parts) e50.Within e50.Repair)) hrw51) sr_n 0 rfl)) ?_
  try rw[←len_setMW hrw51 (f:=encO_Clause) (xs:=rw42)]
  refine cq 11 [1,81,82] [I (w64 ((w64 ((w64 ((w64 ((w64 ((w64 ((w64 ((w64 ((w64 (x3.1+1))+1))+1))+1))+1))+1))+1))+1))+1)),.hs 1 0 [] 12 0 (rw51.map encO_Clause).length,I x3.2.1] 1490 ?_
  obtain⟨e60,he60,h⟩:=bS h
  refine oq 1506 (.hp 1 0 [] 12 (0+Int.toNat x3.2.1) 0) rfl (e_indexAddr rfl rfl rfl (ix_hsM (f:=encO_Clause) (xs:=rw51) rfl rfl rfl he60)) ?_
  refine cq 2 [85] [.hp 1 0 [] 12 (0+Int.toNat x3.2.1) 9] 1538 ?_
  refine oq 1554 (.hs 1 0 [((0+Int.toNat x3.2.1),9)] 4 0 (e60.When.Parts.map encO_Condition).length) rfl (e_ld rfl (ld_at (path:=[]) rfl rfl rfl ra_n (get_map (f:=encO_Clause) (xs:=rw51) he60) rfl rfl rfl)) ?_
  refine cq 1 [87] [I (w64 ((w64 ((w64 ((w64 ((w64 ((w64 ((w64 ((w64 ((w64 (x3.1+1))+1))+1))+1))+1))+1))+1))+1))+1))] 1570 ?_
  obtain⟨r61,hr61,h⟩:=bS h
  obtain⟨g62,h⟩:=gG h
  obtain⟨rw63,hrw63,h⟩:=lJ h
  refine oq 1586 (I r61.1) rfl (e_callV rfl rfl (call_P rfl rfl rfl (avO (hd1 rfl (hd_hs (path:=[((0+Int.toNat x3.2.1),9)]) rfl rfl (ra_c (get_map (f:=encO_Clause) (xs:=rw51) he60) rfl ra_n) rfl)) (avS (shP rfl) avN)) (Ffbd_F hr61) (.inr rfl) (bl_c rfl rfl rfl (bk_s (ra_c (get_map (f:=encO_Clause) (xs:=rw51) he60) rfl ra_n) (len_eqM (f:=encO_Condition) (xs:=e60.When.Parts) (ys:=r61.2) g62).symm (sr_c (get_map (f:=encO_Clause) (xs:=rw51) he60) rfl sr_n (rfl:(_:V)=.agg [str e60.Id,I e60.Kind,I e60.Party,str e60.Action,I e60.Other,I e60.Amount,I e60.When.Op,str e60.When.Name,I e60.When.Day,.usl 4 (r61.2.map encO_Condition),I e60.Within,str e60.Repair]) (set_mapW (f:=encO_Clause) (xs:=rw51) (y:=(Clause.mk e60.Id e60.Kind e60.Party e60.Action e60.Other e60.Amount (Condition.mk e60.When.Op e60.When.Name e60.When.Day r61.2) e60.Within e60.Repair)) hrw63))) bl_n) rfl rfl rfl)) ?_
  try rw[len_eqM (f:=encO_Condition) (xs:=e60.When.Parts) (ys:=r61.2) g62]
  try rw[←len_setMW hrw63 (f:=encO_Clause) (xs:=rw51)]
  refine cq 7 [1,89,90,91] [I r61.1,.hs 1 0 [] 12 0 (rw63.map encO_Clause).length,I x3.2.1,I r61.1] 1650 ?_
  obtain⟨e73,he73,h⟩:=bS h
  refine oq 1666 (.hp 1 0 [] 12 (0+Int.toNat x3.2.1) 0) rfl (e_indexAddr rfl rfl rfl (ix_hsM (f:=encO_Clause) (xs:=rw63) rfl rfl rfl he73)) ?_
  refine cq 1 [93] [.hp 1 0 [] 12 (0+Int.toNat x3.2.1) 10] 1682 ?_
  obtain⟨rw74,hrw74,h⟩:=lJ h
  refine o0 1698 rfl rfl (e_st rfl rfl (st_at (path:=[]) (pl:=true) (e':=.agg [str e73.Id,I e73.Kind,I e73.Party,str e73.Action,I e73.Other,I e73.Amount,I e73.When.Op,str e73.When.Name,I e73.When.Day,.usl 4 (e73.When.Parts.map encO_Condition),I r61.1,str e73.Repair]) (es2':=(rw74).map encO_Clause) rfl (absorb_plain rfl) rfl rfl rfl ra_n (get_map (f:=encO_Clause) (xs:=rw63) he73) rfl rfl rfl (set_mapW (f:=encO_Clause) (xs:=rw63) (y:=(Clause.mk e73.Id e73.Kind e73.Party e73.Action e73.Other e73.Amount e73.When r61.1 e73.Repair)) hrw74) sr_n 1 rfl)) ?_
  try rw[←len_setMW hrw74 (f:=encO_Clause) (xs:=rw63)]
  refine cq 12 [1,96,97,98] [I (w64 (r61.1+1)),.hs 1 0 [] 12 0 (rw74.map encO_Clause).length,I x3.2.1,I (w64 (r61.1+1))] 1794 ?_
  obtain⟨r85,hr85,h⟩:=bS h
  refine oq 1810 (str r85) rfl (cP (Ffbh_F hr85)) ?_
  obtain⟨e86,he86,h⟩:=bS h
  refine oq 1826 (.hp 1 0 [] 12 (0+Int.toNat x3.2.1) 0) rfl (e_indexAddr rfl rfl rfl (ix_hsM (f:=encO_Clause) (xs:=rw74) rfl rfl rfl he86)) ?_
  refine cq 1 [101] [.hp 1 0 [] 12 (0+Int.toNat x3.2.1) 11] 1842 ?_
  obtain⟨rw87,hrw87,h⟩:=lJ h
  refine o0 1858 rfl rfl (e_st rfl rfl (st_at (path:=[]) (pl:=true) (e':=.agg [str e86.Id,I e86.Kind,I e86.Party,str e86.Action,I e86.Other,I e86.Amount,I e86.When.Op,str e86.When.Name,I e86.When.Day,.usl 4 (e86.When.Parts.map encO_Condition),I e86.Within,str r85]) (es2':=(rw87).map encO_Clause) rfl (absorb_plain rfl) rfl rfl rfl ra_n (get_map (f:=encO_Clause) (xs:=rw74) he86) rfl rfl rfl (set_mapW (f:=encO_Clause) (xs:=rw74) (y:=(Clause.mk e86.Id e86.Kind e86.Party e86.Action e86.Other e86.Amount e86.When e86.Within r85)) hrw87) sr_n 1 rfl)) ?_
  try rw[←len_setMW hrw87 (f:=encO_Clause) (xs:=rw74)]
  refine cq 12 [1,5] [I (w64 ((w64 (r61.1+1))+1)),I (w64 (x3.2.1+1))] 1954 ?_
  refine s_lp ?_
  exact rf [0,1,5] [1] (ih _ _ h hr hn :)
 ·refine aq 1 ?_
  exact rf [1] [1] (hn _ (Option.some.inj h).symm :) (hk:=hK)
theorem Ffbc_run (a_7:List Clause)(k_8:Int)(r:Int×(List Clause))(h:Ffbc a_7 k_8=some r):RunF Ffbc_E Tryz.f64 [true,false] 1 (Ffbc_A (a_7,k_8)) (Ffbc_R r):=by
 show Run _ _ (Ffbc_Q (a_7,k_8) r) [.code Ffbc_c] _
 refine rI 105 [(0,.hs 1 0 [] 12 0 (a_7.map encO_Clause).length),(1,I k_8)] [(1,some ⟨0,12,a_7.map encO_Clause⟩)] 2 ?_
 unfold Ffbc at h
 refine cq 10 [5] [I (0)] 34 ?_
 obtain⟨y99,hy99,hy991,hy992⟩:=bJ h
 refine s_loop rfl ?_
 refine rf [0,1,5] [1] (Ffbc_la_run a_7 k_8 rfl (k_8,0,a_7) _ hy99 (fun r' e st hq=>by rw[hy991 r' e] at hq;exact hq) fun u99 hu=>?_)
 replace h:=hy992 u99 hu
 refine cq 5 [4] [I u99.1] 34 ?_
 obtain⟨g100,h⟩:=gG h
 obtain rfl:=Option.some.inj h
 exact s_ret rfl ⟨_,fin (vs:=[I u99.1]) rfl (absE (absorb_plain rfl) absEN) rfl (ou_1 rfl (oc_hsG (f:=encO_Clause) (xs:=u99.2) (by simpa using g100) rfl) (ou_f ou_n)),kl_c kl_n⟩
theorem Ffbc_good {G:Go.Ln.Ground}:Good Tryz.prog G 64 Ffbc_ent:=gT 2 1 (gl_c Ffbh_good (gl_c Ffbd_good gl_n)) (Checked.mixed Tryz.checked) Tryz.func64 (fun a r h=>Ffbc_run a.1 a.2 r h)
def Ffbe_A:(Contract×Int)→List V:=cA encO_Contract (oA I)
def Ffbe_R (r:Int):V×List V:=(I r,[.dead])
noncomputable def Ffbe_ent:Ent:=entT [true,false] Ffbe_A Ffbe_R fun x=>Ffbe x.1 x.2
theorem Ffbe_F {a_7:Contract}{k_8:Int}{r}(h:Ffbe a_7 k_8=some r):Ffbe_ent.F (Ffbe_A (a_7,k_8))=some (Ffbe_R r):=entT_F (cA_inj encO_Contract_inj (oA_inj I_inj)) h
noncomputable def Ffbe_c:Code:=bodyOf Tryz.f21
noncomputable def Ffbe_E:Env:=mkE Tryz.prog [(63,Ffbg_ent),(64,Ffbc_ent)]
def Ffbe_Q (x:Contract×Int)(r:Int):St→Prop:=QF Ffbe_E Tryz.f21 [true,false] (Ffbe_A x) (Ffbe_R r)
theorem Ffbe_run (a_7:Contract)(k_8:Int)(r:Int)(h:Ffbe a_7 k_8=some r):RunF Ffbe_E Tryz.f21 [true,false] 2 (Ffbe_A (a_7,k_8)) (Ffbe_R r):=by
 show Run _ _ (Ffbe_Q (a_7,k_8) r) [.code Ffbe_c] _
 refine rI 14 [(0,.agg [.hs 1 0 [] 1 0 (a_7.Parties.map str).length,.hs 2 0 [] 12 0 (a_7.Clauses.map encO_Clause).length]),(1,I k_8)] [(1,some ⟨0,1,a_7.Parties.map str⟩),(2,some ⟨0,12,a_7.Clauses.map encO_Clause⟩)] 3 ?_
 unfold Ffbe at h
 refine aq 2 ?_
 refine oq 19 (.hp 3 0 [] 2 0 0) rfl (e_boxA rfl (absA (absC (abs_hs rfl rfl) (absC (abs_hs rfl rfl) absN))) rfl) ?_
 refine cq 7 [6,7] [.hs 3 0 [(0,0)] 1 0 (a_7.Parties.map str).length,I k_8] 83 ?_
 obtain⟨r3,hr3,h⟩:=bS h
 obtain⟨g4,h⟩:=gG h
 refine oq 99 (I r3.1) rfl (e_callV rfl rfl (call_P rfl rfl rfl (avO (hd1 rfl (hd_hs (path:=[(0,0)]) rfl rfl (ra_c rfl rfl ra_n) rfl)) (avS (shP rfl) avN)) (Ffbg_F hr3) (.inr rfl) (bl_c rfl rfl rfl (bk_s (ra_c rfl rfl ra_n) (len_eqM (f:=str) (xs:=a_7.Parties) (ys:=r3.2) g4).symm (sr_c rfl rfl sr_n (rfl:(_:V)=.agg [.usl 1 (r3.2.map str),.usl 12 (a_7.Clauses.map encO_Clause)]) rfl)) bl_n) rfl rfl rfl)) ?_
 try rw[len_eqM (f:=str) (xs:=a_7.Parties) (ys:=r3.2) g4]
 refine ck 7 [10,11] [1] [] [] [.hs 3 1 [(0,1)] 12 0 (a_7.Clauses.map encO_Clause).length,I r3.1] [] 163 (by kernel_rfl) ?_
 obtain⟨r5,hr5,h⟩:=bS h
 obtain⟨g6,h⟩:=gG h
 refine oq 179 (I r5.1) rfl (e_callV rfl rfl (call_P rfl rfl rfl (avO (hd1 rfl (hd_hs (path:=[(0,1)]) rfl rfl (ra_c rfl rfl ra_n) rfl)) (avS (shP rfl) avN)) (Ffbc_F hr5) (.inr rfl) (bl_c rfl rfl rfl (bk_s (ra_c rfl rfl ra_n) (len_eqM (f:=encO_Clause) (xs:=a_7.Clauses) (ys:=r5.2) g6).symm (sr_c rfl rfl sr_n (rfl:(_:V)=.agg [.usl 1 (r3.2.map str),.usl 12 (r5.2.map encO_Clause)]) rfl)) bl_n) rfl rfl rfl)) ?_
 try rw[len_eqM (f:=encO_Clause) (xs:=a_7.Clauses) (ys:=r5.2) g6]
 refine cq 7 [4] [I r5.1] 227 ?_
 obtain rfl:=Option.some.inj h
 exact s_ret rfl ⟨_,fin (vs:=[I r5.1]) rfl (absE (absorb_plain rfl) absEN) rfl (ou_a (mc (oc_no rfl) (mc (oc_no rfl) mn)) (ou_f ou_n)),kl_d kl_n⟩
theorem Ffbe_good {G:Go.Ln.Ground}:Good Tryz.prog G 21 Ffbe_ent:=gT 2 2 (gl_c Ffbg_good (gl_c Ffbc_good gl_n)) (Checked.mixed Tryz.checked) Tryz.func21 (fun a r h=>Ffbe_run a.1 a.2 r h)
def Ffbf_A:((List Int)×Int)→List V:=cA (usE 1 I) (oA I)
def Ffbf_R (r:Int×(List Int)):V×List V:=(I r.1,[.usl 1 (r.2.map I)])
noncomputable def Ffbf_ent:Ent:=entT [true,false] Ffbf_A Ffbf_R fun x=>Ffbf x.1 x.2
theorem Ffbf_F {a_6:List Int}{k_7:Int}{r}(h:Ffbf a_6 k_7=some r):Ffbf_ent.F (Ffbf_A (a_6,k_7))=some (Ffbf_R r):=entT_F (cA_inj (usl_inj I_inj) (oA_inj I_inj)) h
noncomputable def Ffbf_c:Code:=bodyOf Tryz.f22
noncomputable def Ffbf_E:Env:=mkE Tryz.prog []
def Ffbf_Q (x:(List Int)×Int)(r:Int×(List Int)):St→Prop:=QF Ffbf_E Tryz.f22 [true,false] (Ffbf_A x) (Ffbf_R r)
theorem Ffbf_la_run (a_6:List Int)(k_7:Int){Q:St→Prop}{K:List It}(hK:noD K=true):∀(x3:Int×Int×(List Int)) (y:(Int×(List Int))⊕(Int×(List Int))),Ffbf_la a_6 k_7 x3=some y→(∀r',y=.inl r'→∀st,Ffbf_Q (a_6,k_7) r' st→Q st)→(∀u:Int×(List Int),y=.inr u→Run Ffbf_E 1 Q K (sT 19 [(1,I u.1)] [⟨0,1,u.2.map I⟩] 2))→Run Ffbf_E 1 Q (.code (cL (cL (cR (cL (cR Ffbf_c)))))::.lp (cL (cL (cR (cL (cR Ffbf_c)))))::.blk 0::K) (sT 19 [(0,.hs 1 0 [] 1 0 (x3.2.2.map I).length),(1,I x3.1),(5,I x3.2.1)] [⟨0,1,x3.2.2.map I⟩] 2):=by
 refine fix_indP (Ffbf_la_fin a_6 k_7) ?_
 intro self ih x3 y h hr hn
 unfold Ffbf_la_F at h
 refine cq 5 [6,7] [I x3.2.1,.hs 1 0 [] 1 0 (x3.2.2.map I).length] 34 ?_
 refine oq 50 (I (len x3.2.2)) rfl (e_len rfl rfl rfl (l_hsM (f:=I) (xs:=x3.2.2) rfl rfl)) ?_
 refine cq 2 [9] [B (decide (x3.2.1<(len x3.2.2)))] 66 ?_
 refine sq h (fun h=>?_) fun h=>?_
 ·refine aq 1 ?_
  refine cq 7 [12,13,14] [.hs 1 0 [] 1 0 (x3.2.2.map I).length,I x3.2.1,I x3.1] 114 ?_
  obtain⟨e4,he4,h⟩:=bS h
  refine oq 130 (.hp 1 0 [] 1 (0+Int.toNat x3.2.1) 0) rfl (e_indexAddr rfl rfl rfl (ix_hsM (f:=I) (xs:=x3.2.2) rfl rfl rfl he4)) ?_
  refine o0 146 rfl rfl (e_st rfl rfl (st_at (path:=[]) (pl:=true) (e':=I x3.1) (es2':=(setI x3.2.2 x3.2.1 x3.1).map I) rfl (absorb_plain rfl) rfl rfl rfl ra_n (get_map (f:=I) (xs:=x3.2.2) he4) rfl rfl rfl (set_map (f:=I) (xs:=x3.2.2) (y:=x3.1)) sr_n 0 rfl)) ?_
  try rw[←len_setM (f:=I) (xs:=x3.2.2) (i:=x3.2.1) (z:=x3.1)]
  refine cq 12 [1,5] [I (w64 (x3.1+1)),I (w64 (x3.2.1+1))] 242 ?_
  refine s_lp ?_
  exact rf [0,1,5] [1] (ih _ _ h hr hn :)
 ·refine aq 1 ?_
  exact rf [1] [1] (hn _ (Option.some.inj h).symm :) (hk:=hK)
theorem Ffbf_run (a_6:List Int)(k_7:Int)(r:Int×(List Int))(h:Ffbf a_6 k_7=some r):RunF Ffbf_E Tryz.f22 [true,false] 1 (Ffbf_A (a_6,k_7)) (Ffbf_R r):=by
 show Run _ _ (Ffbf_Q (a_6,k_7) r) [.code Ffbf_c] _
 refine rI 19 [(0,.hs 1 0 [] 1 0 (a_6.map I).length),(1,I k_7)] [(1,some ⟨0,1,a_6.map I⟩)] 2 ?_
 unfold Ffbf at h
 refine cq 10 [5] [I (0)] 34 ?_
 obtain⟨y5,hy5,hy51,hy52⟩:=bJ h
 refine s_loop rfl ?_
 refine rf [0,1,5] [1] (Ffbf_la_run a_6 k_7 rfl (k_7,0,a_6) _ hy5 (fun r' e st hq=>by rw[hy51 r' e] at hq;exact hq) fun u5 hu=>?_)
 replace h:=hy52 u5 hu
 refine cq 5 [4] [I u5.1] 34 ?_
 obtain⟨g6,h⟩:=gG h
 obtain rfl:=Option.some.inj h
 exact s_ret rfl ⟨_,fin (vs:=[I u5.1]) rfl (absE (absorb_plain rfl) absEN) rfl (ou_1 rfl (oc_hsG (f:=I) (xs:=u5.2) (by simpa using g6) rfl) (ou_f ou_n)),kl_c kl_n⟩
theorem Ffbf_good {G:Go.Ln.Ground}:Good Tryz.prog G 22 Ffbf_ent:=gT 2 1 gl_n (Checked.mixed Tryz.checked) Tryz.func22 (fun a r h=>Ffbf_run a.1 a.2 r h)
def Ffbb_A:((List Int)×Int)→List V:=cA (slE I) (oA I)
def Ffbb_R (r:Int):V×List V:=(I r,[])
noncomputable def Ffbb_ent:Ent:=entT [false,false] Ffbb_A Ffbb_R fun x=>Ffbb x.1 x.2
theorem Ffbb_F {a_1:List Int}{k_2:Int}{r}(h:Ffbb a_1 k_2=some r):Ffbb_ent.F (Ffbb_A (a_1,k_2))=some (Ffbb_R r):=entT_F (cA_inj (isl_inj I_inj) (oA_inj I_inj)) h
noncomputable def Ffbb_c:Code:=bodyOf Tryz.f23
noncomputable def Ffbb_E:Env:=mkE Tryz.prog []
def Ffbb_Q (x:(List Int)×Int)(r:Int):St→Prop:=QF Ffbb_E Tryz.f23 [false,false] (Ffbb_A x) (Ffbb_R r)
theorem Ffbb_la_run (a_1:List Int)(k_2:Int){Q:St→Prop}{K:List It}(hK:noD K=true):∀(x3:Int×Int) (y:Int⊕Int),Ffbb_la a_1 k_2 x3=some y→(∀r',y=.inl r'→∀st,Ffbb_Q (a_1,k_2) r' st→Q st)→(∀u:Int,y=.inr u→Run Ffbb_E 0 Q K (sT 21 [(1,I u)] [] 1))→Run Ffbb_E 0 Q (.code (cL (cL (cR (cL (cR Ffbb_c)))))::.lp (cL (cL (cR (cL (cR Ffbb_c)))))::.blk 0::K) (sT 21 [(0,.isl false (a_1.map I)),(1,I x3.1),(5,I x3.2)] [] 1):=by
 refine fix_indP (Ffbb_la_fin a_1 k_2) ?_
 intro self ih x3 y h hr hn
 unfold Ffbb_la_F at h
 refine cq 5 [6,7] [I x3.2,.isl false (a_1.map I)] 33 ?_
 refine oq 49 (I (len a_1)) rfl (e_len rfl rfl rfl (l_isl rfl)) ?_
 refine cq 2 [9] [B (decide (x3.2<(len a_1)))] 65 ?_
 refine sq h (fun h=>?_) fun h=>?_
 ·refine aq 1 ?_
  refine cq 7 [12,13] [.isl false (a_1.map I),I x3.2] 97 ?_
  obtain⟨e4,he4,h⟩:=bS h
  refine oq 113 (.iptr (I e4) 0) rfl (e_indexAddr rfl rfl rfl (ix_islE rfl rfl rfl rfl he4)) ?_
  refine cq 4 [17] [B (e4 != x3.1)] 161 ?_
  refine sq h (fun h=>?_) fun h=>?_
  ·refine cq 4 [4] [I (-1)] 177 ?_
   exact s_ret rfl (hr _ (Option.some.inj h).symm _ (qp [I (-1)]))
  ·refine aq 1 ?_
   refine cq 11 [1,5] [I (w64 (x3.1+1)),I (w64 (x3.2+1))] 257 ?_
   refine s_lp ?_
   exact rf [0,1,5] [] (ih _ _ h hr hn :)
 ·refine aq 1 ?_
  exact rf [1] [] (hn _ (Option.some.inj h).symm :) (hk:=hK)
theorem Ffbb_run (a_1:List Int)(k_2:Int)(r:Int)(h:Ffbb a_1 k_2=some r):RunF Ffbb_E Tryz.f23 [false,false] 0 (Ffbb_A (a_1,k_2)) (Ffbb_R r):=by
 show Run _ _ (Ffbb_Q (a_1,k_2) r) [.code Ffbb_c] _
 refine rI 21 [(0,.isl false (a_1.map I)),(1,I k_2)] [] 1 ?_
 unfold Ffbb at h
 refine cq 10 [5] [I (0)] 33 ?_
 obtain⟨y5,hy5,hy51,hy52⟩:=bJ h
 refine s_loop rfl ?_
 refine rf [0,1,5] [] (Ffbb_la_run a_1 k_2 rfl (k_2,0) _ hy5 (fun r' e st hq=>by rw[hy51 r' e] at hq;exact hq) fun u5 hu=>?_)
 replace h:=hy52 u5 hu
 refine cq 5 [4] [I u5] 33 ?_
 obtain rfl:=Option.some.inj h
 exact s_ret rfl (qp [I u5])
theorem Ffbb_good {G:Go.Ln.Ground}:Good Tryz.prog G 23 Ffbb_ent:=gT 2 0 gl_n (Checked.mixed Tryz.checked) Tryz.func23 (fun a r h=>Ffbb_run a.1 a.2 r h)
def laws_FnExactEndlessRepairs_A:Contract→List V:=oA encI_Contract
def laws_FnExactEndlessRepairs_R (r:Bool):V×List V:=(B r,[])
noncomputable def laws_FnExactEndlessRepairs_ent:Ent:=entT [false] laws_FnExactEndlessRepairs_A laws_FnExactEndlessRepairs_R fun x=>laws_FnExactEndlessRepairs x
theorem laws_FnExactEndlessRepairs_F {aC_1:Contract}{r}(h:laws_FnExactEndlessRepairs aC_1=some r):laws_FnExactEndlessRepairs_ent.F (laws_FnExactEndlessRepairs_A aC_1)=some (laws_FnExactEndlessRepairs_R r):=entT_F (oA_inj encI_Contract_inj) h
noncomputable def laws_FnExactEndlessRepairs_c:Code:=bodyOf Tryz.f5
noncomputable abbrev laws_FnExactEndlessRepairs_ka:Code:=cR (cR (cR (cR (cR (cR (cR (cR (cR (cR (cR (cR laws_FnExactEndlessRepairs_c)))))))))))
noncomputable abbrev laws_FnExactEndlessRepairs_kb:Code:=cR (cL (cR (cR (cR (cR (cR (cR (cR (cR (cR (cR (cR laws_FnExactEndlessRepairs_c))))))))))))
noncomputable def laws_FnExactEndlessRepairs_E:Env:=mkE Tryz.prog [(10,Ffbn_ent),(13,Ffbu_ent),(24,Ffcf_ent),(25,Ffa_ent),(20,Ffz_ent),(16,Ffy_ent),(21,Ffbe_ent),(22,Ffbf_ent),(23,Ffbb_ent)]
def laws_FnExactEndlessRepairs_Q (x:Contract)(r:Bool):St→Prop:=QF laws_FnExactEndlessRepairs_E Tryz.f5 [false] (laws_FnExactEndlessRepairs_A x) (laws_FnExactEndlessRepairs_R r)
theorem laws_FnExactEndlessRepairs_run (aC_1:Contract)(r:Bool)(h:laws_FnExactEndlessRepairs aC_1=some r):RunF laws_FnExactEndlessRepairs_E Tryz.f5 [false] 0 (laws_FnExactEndlessRepairs_A aC_1) (laws_FnExactEndlessRepairs_R r):=by
 show Run _ _ (laws_FnExactEndlessRepairs_Q aC_1 r) [.code laws_FnExactEndlessRepairs_c] _
 refine rI 96 [(0,encI_Contract aC_1)] [] 1 ?_
 unfold laws_FnExactEndlessRepairs at h
 refine ck 13 [1,14,15] [] [1] [] [.hp 1 0 [] 2 0 0,encI_Contract aC_1,I (1048576)] [some ⟨0,2,[encI_Contract aC_1]⟩] 81 (by kernel_rfl) ?_
 obtain⟨r2,hr2,h⟩:=bS h
 refine oq 97 (I r2) rfl (cP (Ffbn_F hr2)) ?_
 refine cq 8 [18] [B (decide (r2<0))] 145 ?_
 refine sq h (fun h=>?_) fun h=>?_
 ·refine cq 4 [2] [B true] 161 ?_
  obtain rfl:=Option.some.inj h
  exact s_ret rfl (qp [B true])
 ·refine aq 1 ?_
  refine cq 3 [20] [encI_Contract aC_1] 161 ?_
  obtain⟨r3,hr3,h⟩:=bS h
  refine oq 177 (.agg [.hs 161 0 [] 1 0 (r3.Parties.map str).length,.hs 162 0 [] 12 0 (r3.Clauses.map encO_Clause).length]) rfl (cP (Ffbu_F hr3)) ?_
  obtain⟨r4,hr4,h⟩:=bS h
  refine oq 193 (.tup [.hs 177 0 [] 1 0 (r4.1.map I).length,B r4.2]) rfl (e_callV rfl rfl (call_P rfl rfl rfl (avS (shA (shC (sh_hsM (f:=str) (g:=str) (xs:=r3.Parties) rfl rfl (imms_of str_imm)) (shC (sh_hsM (f:=encO_Clause) (g:=encI_Clause) (xs:=r3.Clauses) rfl rfl (imms_of encO_Clause_imm)) shN))) avN) (Ffcf_F hr4) (.inl (by simp[hasImm,hasImms,str,himm_map (f:=I) I_himm])) bl_n rfl rfl rfl)) ?_
  refine cq 9 [4,5,25] [.hs 177 0 [] 1 0 (r4.1.map I).length,B r4.2,encI_Contract aC_1] 289 ?_
  obtain⟨r5,hr5,h⟩:=bS h
  refine oq 305 (.agg [.hs 289 0 [] 1 0 (r5.Parties.map str).length,.hs 290 0 [] 12 0 (r5.Clauses.map encO_Clause).length]) rfl (cP (Ffbu_F hr5)) ?_
  refine ck 1 [6] [] [305] [] [.hp 305 0 [] 2 0 0] [some ⟨0,2,[.agg [.isl true [],.isl true []]]⟩] 321 (by kernel_rfl) ?_
  refine run_row 305 [.agg [.usl 1 (([]).map str),.usl 12 (([]).map encO_Clause)]] rfl rfl (cvs_c (cv_agg (cvs_c (.nil _) (cvs_c (.nil _) cvs_n))) cvs_n) ?_
  refine o0 337 rfl rfl (e_st rfl rfl (st_at (path:=[]) (pl:=false) (e':=.agg [.usl 1 (r5.Parties.map str),.usl 12 (r5.Clauses.map encO_Clause)]) (es2':=[.agg [.usl 1 (r5.Parties.map str),.usl 12 (r5.Clauses.map encO_Clause)]]) rfl (absA (absC (abs_hs rfl rfl) (absC (abs_hs rfl rfl) absN))) rfl rfl rfl ra_n rfl rfl rfl rfl rfl sr_n 2 rfl)) ?_
  refine cq 4 [28] [.agg [.hs 305 2 [(0,0)] 1 0 (r5.Parties.map str).length,.hs 305 2 [(0,1)] 12 0 (r5.Clauses.map encO_Clause).length]] 353 ?_
  obtain⟨r6,hr6,h⟩:=bS h
  refine oq 369 (.tup [.hs 353 0 [] 1 0 (r6.1.map I).length,B r6.2]) rfl (e_callV rfl rfl (call_P rfl rfl rfl (avS (shA (shC (sh_at (path:=[(0,0)]) rfl rfl (ra_c rfl rfl ra_n) rfl (imms_of (f:=str) str_imm)) (shC (sh_at (path:=[(0,1)]) rfl rfl (ra_c rfl rfl ra_n) rfl (imms_of (f:=encO_Clause) encO_Clause_imm)) shN))) avN) (Ffa_F hr6) (.inl (by simp[hasImm,hasImms,str,himm_map (f:=I) I_himm])) bl_n rfl rfl rfl)) ?_
  refine cq 11 [7,8,32,33] [.hs 353 0 [] 1 0 (r6.1.map I).length,B r6.2,.hs 353 0 [] 1 0 (r6.1.map I).length,.hs 177 0 [] 1 0 (r4.1.map I).length] 481 ?_
  obtain⟨r7,hr7,h⟩:=bS h
  refine oq 497 (B r7) rfl (e_callV rfl rfl (call_P rfl rfl rfl (avS (sh1 rfl rfl (sh_hsM (f:=I) (g:=I) (xs:=r6.1) rfl rfl (imms_of I_imm))) (avS (sh1 rfl rfl (sh_hsM (f:=I) (g:=I) (xs:=r4.1) rfl rfl (imms_of I_imm))) avN)) (Ffz_F hr7) (.inl rfl) bl_n rfl rfl rfl)) ?_
  refine cq 2 [36] [B (!r7)] 529 ?_
  obtain⟨u8,hu8,h⟩:=lJ h
  have j8:Run laws_FnExactEndlessRepairs_E 0 (laws_FnExactEndlessRepairs_Q aC_1 r) (.code (cR (cL (cR (cR (cR (cR (cR (cR (cR laws_FnExactEndlessRepairs_c)))))))))::.code (cR (cR (cR (cR (cR (cR (cR (cR laws_FnExactEndlessRepairs_c))))))))::[]) (sT 96 [(1,.hp 1 0 [] 2 0 0),(4,.hs 2 0 [] 1 0 (r4.1.map I).length),(5,B r4.2),(6,.hp 3 0 [] 2 0 0),(7,.hs 4 0 [] 1 0 (r6.1.map I).length),(8,B r6.2),(40,B u8)] [⟨0,2,[encI_Contract aC_1]⟩,⟨0,1,r4.1.map I⟩,⟨0,2,[.agg [.usl 1 (r5.Parties.map str),.usl 12 (r5.Clauses.map encO_Clause)]]⟩,⟨0,1,r6.1.map I⟩] 5):=by
   refine sq h (fun h=>?_) fun h=>?_
   ·refine cq 4 [2] [B false] 21 ?_
    obtain rfl:=Option.some.inj h
    exact s_ret rfl (qp [B false])
   ·refine aq 1 ?_
    refine aq 2 ?_
    refine s_draw [0,0,2,7,15] rfl (by decide +kernel) ?_
    refine dq [3] [] (.agg [.hs 3 0 [(0,0)] 1 0 (r5.Parties.map str).length,.hs 3 0 [(0,1)] 12 0 (r5.Clauses.map encO_Clause).length]) rfl (e_ld rfl rfl) ?_
    refine dq [1] [] (encI_Contract aC_1) rfl (e_ld rfl rfl) ?_
    obtain⟨r9,hr9,h⟩:=bS h
    refine dq [] [] (.agg [.hs 37 0 [] 1 0 (r9.Parties.map str).length,.hs 38 0 [] 12 0 (r9.Clauses.map encO_Clause).length]) rfl (cP (Ffbu_F hr9)) ?_ (w_callO rfl rfl rfl rfl (avS (shP rfl) avN) (Ffbu_F hr9) (.inr rfl) rfl)
    obtain⟨r10,hr10,h⟩:=bS h
    refine dq [3,3,37,38] [] (B r10) rfl (e_callV rfl rfl (call_P rfl rfl rfl (avS (shA (shC (sh_at (path:=[(0,0)]) rfl rfl (ra_c rfl rfl ra_n) rfl (imms_of (f:=str) str_imm)) (shC (sh_at (path:=[(0,1)]) rfl rfl (ra_c rfl rfl ra_n) rfl (imms_of (f:=encO_Clause) encO_Clause_imm)) shN))) (avS (shA (shC (sh_hsM (f:=str) (g:=str) (xs:=r9.Parties) rfl rfl (imms_of str_imm)) (shC (sh_hsM (f:=encO_Clause) (g:=encI_Clause) (xs:=r9.Clauses) rfl rfl (imms_of encO_Clause_imm)) shN))) avN)) (Ffy_F hr10) (.inl rfl) bl_n rfl rfl rfl)) ?_ (w_callO rfl rfl rfl rfl (avS (shA (shC (sh_at (path:=[(0,0)]) rfl rfl (ra_c rfl rfl ra_n) rfl (imms_of (f:=str) str_imm)) (shC (sh_at (path:=[(0,1)]) rfl rfl (ra_c rfl rfl ra_n) rfl (imms_of (f:=encO_Clause) encO_Clause_imm)) shN))) (avS (shA (shC (sh_hsM (f:=str) (g:=str) (xs:=r9.Parties) rfl rfl (imms_of str_imm)) (shC (sh_hsM (f:=encO_Clause) (g:=encI_Clause) (xs:=r9.Clauses) rfl rfl (imms_of encO_Clause_imm)) shN))) avN)) (Ffy_F hr10) (.inl rfl) rfl)
    refine dk 1 [45] [B (!r10)] ?_
    refine de 85 rfl rfl ?_
    refine sq h (fun h=>?_) fun h=>?_
    ·refine cq 4 [2] [B false] 101 ?_
     obtain rfl:=Option.some.inj h
     exact s_ret rfl (qp [B false])
    ·refine aq 1 ?_
     refine cq 8 [46,47] [.agg [.hs 3 0 [(0,0)] 1 0 (r5.Parties.map str).length,.hs 3 0 [(0,1)] 12 0 (r5.Clauses.map encO_Clause).length],I (1)] 133 ?_
     obtain⟨r11,hr11,h⟩:=bS h
     refine run_take 46 0 (path:=[(0,0)]) (.agg [.hs 133 0 [] 1 0 (r5.Parties.map str).length,.hs 3 0 [(0,1)] 12 0 (r5.Clauses.map encO_Clause).length]) 149 rfl rfl rfl rfl rfl (ra_c rfl rfl ra_n) (to_c (path:=[]) (i:=0) (k:=0) (e':=.agg [.dead,.usl 12 (r5.Clauses.map encO_Clause)]) (es2':=[.agg [.dead,.usl 12 (r5.Clauses.map encO_Clause)]]) ra_n rfl rfl rfl sr_n) rfl rfl ?_
     refine run_take 46 1 (path:=[(0,1)]) (.agg [.hs 133 0 [] 1 0 (r5.Parties.map str).length,.hs 149 0 [] 12 0 (r5.Clauses.map encO_Clause).length]) 165 rfl rfl rfl rfl rfl (ra_c rfl rfl ra_n) (to_c (path:=[]) (i:=0) (k:=1) (e':=.agg [.dead,.dead]) (es2':=[.agg [.dead,.dead]]) ra_n rfl rfl rfl sr_n) rfl rfl ?_
     refine oq 181 (I r11) rfl (e_callV rfl rfl (call_P rfl rfl rfl (avO (hdA (hdC (hd_hs (path:=[]) rfl rfl ra_n rfl) (hdC (hd_hs (path:=[]) rfl rfl ra_n rfl) hdN))) (avS (shP rfl) avN)) (Ffbe_F hr11) (.inr rfl) (bl_c rfl rfl rfl bk_dead (bl_x rfl rfl rfl bl_n)) rfl rfl rfl)) ?_
     refine cq 8 [51] [B (decide (r11<0))] 245 ?_
     obtain⟨y12,hy12,hy121,hy122⟩:=bJ h
     have j12:∀u12,y12=.inr u12→Run laws_FnExactEndlessRepairs_E 0 (laws_FnExactEndlessRepairs_Q aC_1 r) (.code laws_FnExactEndlessRepairs_kb::.code laws_FnExactEndlessRepairs_ka::[]) (sT 96 [(1,.hp 1 0 [] 2 0 0),(4,.hs 2 0 [] 1 0 (r4.1.map I).length),(5,B r4.2),(7,.hs 3 0 [] 1 0 (r6.1.map I).length),(61,B u12)] [⟨0,2,[encI_Contract aC_1]⟩,⟨0,1,r4.1.map I⟩,⟨0,1,r6.1.map I⟩] 4):=by
      intro u12 hu
      replace h:=hy122 u12 hu
      refine sq h (fun h=>?_) fun h=>?_
      ·refine cq 4 [2] [B false] 20 ?_
       obtain rfl:=Option.some.inj h
       exact s_ret rfl (qp [B false])
      ·refine aq 1 ?_
       refine cq 8 [62,63] [.hs 3 0 [] 1 0 (r6.1.map I).length,I (1)] 52 ?_
       obtain⟨r13,hr13,h⟩:=bS h
       obtain⟨g14,h⟩:=gG h
       refine oq 68 (I r13.1) rfl (e_callV rfl rfl (call_P rfl rfl rfl (avO (hd1 rfl (hd_hs (path:=[]) rfl rfl ra_n rfl)) (avS (shP rfl) avN)) (Ffbf_F hr13) (.inr rfl) (bl_c rfl rfl rfl rfl bl_n) rfl rfl rfl)) ?_
       try rw[len_eqM (f:=I) (xs:=r6.1) (ys:=r13.2) g14]
       refine cq 10 [10,65,66] [I r13.1,.hs 3 0 [] 1 0 (r13.2.map I).length,I (1)] 132 ?_
       obtain⟨r15,hr15,h⟩:=bS h
       refine oq 148 (I r15) rfl (e_callV rfl rfl (call_P rfl rfl rfl (avS (sh1 rfl rfl (sh_hsM (f:=I) (g:=I) (xs:=r13.2) rfl rfl (imms_of I_imm))) (avS (shP rfl) avN)) (Ffbb_F hr15) (.inl rfl) bl_n rfl rfl rfl)) ?_
       refine cq 8 [11,69] [I r15,B (decide (r15<0))] 196 ?_
       refine sq h (fun h=>?_) fun h=>?_
       ·refine cq 4 [2] [B false] 212 ?_
        obtain rfl:=Option.some.inj h
        exact s_ret rfl (qp [B false])
       ·refine aq 1 ?_
        refine cq 7 [72] [B (r15 != r13.1)] 244 ?_
        refine sq h (fun h=>?_) fun h=>?_
        ·refine cq 4 [2] [B false] 260 ?_
         obtain rfl:=Option.some.inj h
         exact s_ret rfl (qp [B false])
        ·refine aq 1 ?_
         refine cq 3 [74] [encI_Contract aC_1] 260 ?_
         obtain⟨r16,hr16,h⟩:=bS h
         refine oq 276 (.agg [.hs 260 0 [] 1 0 (r16.Parties.map str).length,.hs 261 0 [] 12 0 (r16.Clauses.map encO_Clause).length]) rfl (cP (Ffbu_F hr16)) ?_
         obtain⟨r17,hr17,h⟩:=bS h
         refine oq 292 (.tup [.hs 276 0 [] 1 0 (r17.1.map I).length,B r17.2]) rfl (e_callV rfl rfl (call_P rfl rfl rfl (avS (shA (shC (sh_hsM (f:=str) (g:=str) (xs:=r16.Parties) rfl rfl (imms_of str_imm)) (shC (sh_hsM (f:=encO_Clause) (g:=encI_Clause) (xs:=r16.Clauses) rfl rfl (imms_of encO_Clause_imm)) shN))) avN) (Ffa_F hr17) (.inl (by simp[hasImm,hasImms,str,himm_map (f:=I) I_himm])) bl_n rfl rfl rfl)) ?_
         refine cq 11 [13,79,80] [B r17.2,.hs 276 0 [] 1 0 (r17.1.map I).length,.hs 2 0 [] 1 0 (r4.1.map I).length] 404 ?_
         obtain⟨r18,hr18,h⟩:=bS h
         refine oq 420 (B r18) rfl (e_callV rfl rfl (call_P rfl rfl rfl (avS (sh1 rfl rfl (sh_hsM (f:=I) (g:=I) (xs:=r17.1) rfl rfl (imms_of I_imm))) (avS (sh1 rfl rfl (sh_hsM (f:=I) (g:=I) (xs:=r4.1) rfl rfl (imms_of I_imm))) avN)) (Ffz_F hr18) (.inl rfl) bl_n rfl rfl rfl)) ?_
         refine cq 2 [83] [B (!r18)] 452 ?_
         obtain⟨u19,hu19,h⟩:=lJ h
         have j19:Run laws_FnExactEndlessRepairs_E 0 (laws_FnExactEndlessRepairs_Q aC_1 r) (.code (cR (cL (cR (cR (cR (cR (cR (cR (cR laws_FnExactEndlessRepairs_ka)))))))))::.code (cR (cR (cR (cR (cR (cR (cR (cR laws_FnExactEndlessRepairs_ka))))))))::[]) (sT 96 [(7,.hs 1 0 [] 1 0 (r13.2.map I).length),(10,I r13.1),(87,B u19)] [⟨0,1,r13.2.map I⟩] 2):=by
          refine sq h (fun h=>?_) fun h=>?_
          ·refine cq 4 [2] [B false] 18 ?_
           obtain rfl:=Option.some.inj h
           exact s_ret rfl (qp [B false])
          ·refine aq 1 ?_
           refine cq 8 [88,89] [.hs 1 0 [] 1 0 (r13.2.map I).length,I (1)] 50 ?_
           obtain⟨r20,hr20,h⟩:=bS h
           refine oq 66 (I r20) rfl (e_callV rfl rfl (call_P rfl rfl rfl (avS (sh1 rfl rfl (sh_hsM (f:=I) (g:=I) (xs:=r13.2) rfl rfl (imms_of I_imm))) (avS (shP rfl) avN)) (Ffbb_F hr20) (.inl rfl) bl_n rfl rfl rfl)) ?_
           refine cq 8 [11,92] [I r20,B (decide (r20<0))] 114 ?_
           refine sq h (fun h=>?_) fun h=>?_
           ·refine cq 4 [2] [B false] 130 ?_
            obtain rfl:=Option.some.inj h
            exact s_ret rfl (qp [B false])
           ·refine aq 1 ?_
            refine cq 7 [95] [B (r20 != r13.1)] 162 ?_
            refine sq h (fun h=>?_) fun h=>?_
            ·refine cq 4 [2] [B false] 178 ?_
             obtain rfl:=Option.some.inj h
             exact s_ret rfl (qp [B false])
            ·refine aq 1 ?_
             refine cq 4 [2] [B true] 178 ?_
             obtain rfl:=Option.some.inj h
             exact s_ret rfl (qp [B true])
         replace h:=hu19
         clear hu19
         refine sp 83 h rfl (fun h=>?_) fun h=>?_
         ·refine cq 5 [87] [B true] 516 ?_
          subst h
          exact rf [7,10,87] [3] (j19 :)
         ·refine cq 5 [87] [B (!(r17.2==r4.2))] 516 ?_
          subst h
          exact rf [7,10,87] [3] (j19 :)
     have r12:∀r',y12=.inl r'→∀st,laws_FnExactEndlessRepairs_Q aC_1 r' st→(laws_FnExactEndlessRepairs_Q aC_1 r) st:=fun r' e st hq=>by rw[hy121 r' e] at hq;exact hq
     replace h:=hy12
     refine sp 51 h rfl (fun h=>?_) fun h=>?_
     ·refine cq 11 [61] [B true] 405 ?_
      exact rf [1,4,5,7,61] [1,2,4] (j12 _ (Option.some.inj h).symm :)
     ·refine cq 2 [52,53] [.hs 4 0 [] 1 0 (r6.1.map I).length,.hs 2 0 [] 1 0 (r4.1.map I).length] 277 ?_
      obtain⟨r21,hr21,h⟩:=bS h
      refine oy 293 (B r21) rfl (e_callV rfl rfl (call_P rfl rfl rfl (avS (sh1 rfl rfl (sh_hsM (f:=I) (g:=I) (xs:=r6.1) rfl rfl (imms_of I_imm))) (avS (sh1 rfl rfl (sh_hsM (f:=I) (g:=I) (xs:=r4.1) rfl rfl (imms_of I_imm))) avN)) (Ffz_F hr21) (.inl rfl) bl_n rfl rfl rfl)) ?_
      refine cq 3 [57] [B (!r21)] 341 ?_
      obtain⟨u22,hu22,h⟩:=lJ h
      have j22:Run laws_FnExactEndlessRepairs_E 0 (laws_FnExactEndlessRepairs_Q aC_1 r) (.code laws_FnExactEndlessRepairs_kb::.code laws_FnExactEndlessRepairs_ka::[]) (sT 96 [(1,.hp 1 0 [] 2 0 0),(4,.hs 2 0 [] 1 0 (r4.1.map I).length),(5,B r4.2),(7,.hs 3 0 [] 1 0 (r6.1.map I).length),(61,B u22)] [⟨0,2,[encI_Contract aC_1]⟩,⟨0,1,r4.1.map I⟩,⟨0,1,r6.1.map I⟩] 4):=by
       exact rf [1,4,5,7,61] [1,2,3] (j12 _ (Option.some.inj h).symm :)
      replace h:=hu22
      clear hu22
      refine sp 57 h rfl (fun h=>?_) fun h=>?_
      ·refine cq 5 [61] [B true] 405 ?_
       subst h
       exact rf [1,4,5,7,61] [1,2,4] (j22 :)
      ·refine cq 5 [61] [B (!(r6.2==r4.2))] 405 ?_
       subst h
       exact rf [1,4,5,7,61] [1,2,4] (j22 :)
  replace h:=hu8
  clear hu8
  refine sp 36 h rfl (fun h=>?_) fun h=>?_
  ·refine cq 5 [40] [B true] 593 ?_
   subst h
   exact rf [1,4,5,6,7,8,40] [1,177,305,353] (j8 :)
  ·refine cq 5 [40] [B (!(r6.2==r4.2))] 593 ?_
   subst h
   exact rf [1,4,5,6,7,8,40] [1,177,305,353] (j8 :)
theorem laws_FnExactEndlessRepairs_good {G:Go.Ln.Ground}:Good Tryz.prog G 5 laws_FnExactEndlessRepairs_ent:=gT 1 0 (gl_c Ffbn_good (gl_c Ffbu_good (gl_c Ffcf_good (gl_c Ffa_good (gl_c Ffz_good (gl_c Ffy_good (gl_c Ffbe_good (gl_c Ffbf_good (gl_c Ffbb_good gl_n))))))))) (Checked.mixed Tryz.checked) Tryz.func5 (fun a r h=>laws_FnExactEndlessRepairs_run a r h)
end Go.Ln
