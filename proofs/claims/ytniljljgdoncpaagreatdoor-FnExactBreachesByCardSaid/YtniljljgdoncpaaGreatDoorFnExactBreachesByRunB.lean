/-
  Each function of the program computes its plain function.
-/
import Derived.Test.YtniljljgdoncpaaGreatDoorFnExactBreachesByRunA
set_option maxHeartbeats 4000000
set_option linter.unusedVariables false
set_option linter.unusedSimpArgs false
set_option maxRecDepth 100000
namespace Go.Ln
open Go Go.Proofs
theorem Ffd_run (c_1:Contract)(r:Bool)(h:Ffd c_1=some r):RunF Ffd_E Tryz.f60 [false] 0 (Ffd_A c_1) (Ffd_R r):=by
 show Run _ _ (Ffd_Q c_1 r) [.code Ffd_c] _
 refine rI 30 [(0,.agg [.isl false (c_1.Parties.map str),.isl false (c_1.Clauses.map encI_Clause)])] [] 1 ?_
 unfold Ffd at h
 refine ck 10 [1,5] [] [1] [] [.hp 1 0 [] 2 0 0,.isl false (c_1.Parties.map str)] [some ⟨0,2,[.agg [.isl false (c_1.Parties.map str),.isl false (c_1.Clauses.map encI_Clause)]]⟩] 65 (by kernel_rfl) ?_
 obtain⟨r2,hr2,h⟩:=bS h
 refine oq 81 (B r2) rfl (cP (Ffg_F hr2)) ?_
 refine cq 2 [8] [B (!r2)] 113 ?_
 obtain⟨y3,hy3,hy31,hy32⟩:=bJ h
 have j3:∀u3,y3=.inr u3→Run Ffd_E 0 (Ffd_Q c_1 r) (.code (cR (cL (cR Ffd_c)))::.code (cR (cR Ffd_c))::[]) (sT 30 [(1,.hp 1 0 [] 2 0 0),(14,B u3)] [⟨0,2,[.agg [.isl false (c_1.Parties.map str),.isl false (c_1.Clauses.map encI_Clause)]]⟩] 2):=by
  intro u3 hu
  replace h:=hy32 u3 hu
  refine sq h (fun h=>?_) fun h=>?_
  ·refine cq 4 [2] [B false] 18 ?_
   obtain rfl:=Option.some.inj h
   exact s_ret rfl (qp [B false])
  ·refine aq 1 ?_
   refine cq 5 [16] [.isl false (c_1.Clauses.map encI_Clause)] 34 ?_
   refine oq 50 (I (len c_1.Clauses)) rfl (e_len rfl rfl rfl (l_isl rfl)) ?_
   refine cq 3 [18] [I (0)] 66 ?_
   obtain⟨y6,hy6,hy61,hy62⟩:=bJ h
   refine s_loop rfl ?_
   refine rf [1,17,18] [1] (Ffd_la_run c_1 rfl 0 _ hy6 (fun r' e st hq=>by rw[hy61 r' e] at hq;exact hq) fun u6 hu=>?_)
   replace h:=hy62 u6 hu
   refine cq 3 [26] [.agg [.isl false (c_1.Parties.map str),.isl false (c_1.Clauses.map encI_Clause)]] 18 ?_
   obtain⟨r7,hr7,h⟩:=bS h
   refine oq 34 (.hs 18 0 [] 1 0 (r7.map str).length) rfl (cP (Ffk_F hr7)) ?_
   refine oq 50 (I (len r7)) rfl (e_len rfl rfl rfl (l_hsM (f:=str) (xs:=r7) rfl rfl)) ?_
   refine cq 3 [2] [B (decide ((len r7)≤16))] 82 ?_
   obtain rfl:=Option.some.inj h
   exact s_ret rfl (qp [B (decide ((len r7)≤16))])
 have r3:∀r',y3=.inl r'→∀st,Ffd_Q c_1 r' st→(Ffd_Q c_1 r) st:=fun r' e st hq=>by rw[hy31 r' e] at hq;exact hq
 replace h:=hy3
 refine sp 8 h rfl (fun h=>?_) fun h=>?_
 ·refine cq 7 [14] [B true] 209 ?_
  exact rf [1,14] [1] (j3 _ (Option.some.inj h).symm :)
 ·refine cq 2 [10] [.isl false (c_1.Clauses.map encI_Clause)] 145 ?_
  refine oy 161 (I (len c_1.Clauses)) rfl (e_len rfl rfl rfl (l_isl rfl)) ?_
  obtain⟨r8,hr8,h⟩:=bS h
  refine oy 177 (B r8) rfl (cP (Ffq_F hr8)) ?_
  refine cq 3 [14] [B (!r8)] 209 ?_
  exact rf [1,14] [1] (j3 _ (Option.some.inj h).symm :)
theorem Ffd_good {G:Go.Ln.Ground}:Good Tryz.prog G 60 Ffd_ent:=gT 1 0 (gl_c Ffg_good (gl_c Ffm_good (gl_c Ffk_good (gl_c Ffq_good gl_n)))) (Checked.mixed Tryz.checked) Tryz.func60 (fun a r h=>Ffd_run a r h)
def Ffo_A:(Contract×(List Entry))→List V:=cA encI_Contract (oA (slE enc_Entry))
def Ffo_R (r:Bool):V×List V:=(B r,[])
noncomputable def Ffo_ent:Ent:=entT [false,false] Ffo_A Ffo_R fun x=>Ffo x.1 x.2
theorem Ffo_F {c_1:Contract}{trace_2:List Entry}{r}(h:Ffo c_1 trace_2=some r):Ffo_ent.F (Ffo_A (c_1,trace_2))=some (Ffo_R r):=entT_F (cA_inj encI_Contract_inj (oA_inj (isl_inj enc_Entry_inj))) h
noncomputable def Ffo_c:Code:=bodyOf Tryz.f53
noncomputable abbrev Ffo_ka:Code:=cL (cL (cR (cL (cR (cR Ffo_c)))))
noncomputable abbrev Ffo_kb:Code:=cR (cR (cR Ffo_ka))
noncomputable abbrev Ffo_kc:Code:=cR (cR (cL (cL (cR (cR Ffo_ka)))))
noncomputable abbrev Ffo_kd:Code:=cR (cL (cR (cL (cL (cR (cR Ffo_ka))))))
noncomputable def Ffo_E:Env:=mkE Tryz.prog [(60,Ffd_ent),(73,Ffn_ent),(84,Ffq_ent)]
def Ffo_Q (x:Contract×(List Entry))(r:Bool):St→Prop:=QF Ffo_E Tryz.f53 [false,false] (Ffo_A x) (Ffo_R r)
theorem Ffo_la_run (c_1:Contract)(trace_2:List Entry){Q:St→Prop}{K:List It}(hK:noD K=true):∀(x5:Int) (y:Bool⊕Unit),Ffo_la c_1 trace_2 x5=some y→(∀r',y=.inl r'→∀st,Ffo_Q (c_1,trace_2) r' st→Q st)→(∀u:Unit,y=.inr u→Run Ffo_E 0 Q K (sT 72 [] [] 1))→Run Ffo_E 0 Q (.code Ffo_ka::.lp Ffo_ka::.blk 0::K) (sT 72 [(1,.isl false (trace_2.map enc_Entry)),(2,.hp 1 0 [] 2 0 0),(15,.isl false (trace_2.map enc_Entry)),(16,I (len trace_2)),(17,I x5)] [⟨0,2,[.agg [.isl false (c_1.Parties.map str),.isl false (c_1.Clauses.map encI_Clause)]]⟩] 2):=by
 refine fix_indP (Ffo_la_fin c_1 trace_2) ?_
 intro self ih x5 y h hr hn
 unfold Ffo_la_F at h
 refine cq 5 [18] [B (decide (x5<(len trace_2)))] 18 ?_
 refine sq h (fun h=>?_) fun h=>?_
 ·refine aq 1 ?_
  refine cq 5 [19] [I x5] 34 ?_
  obtain⟨e6,he6,h⟩:=bS h
  refine oq 50 (.iptr (enc_Entry e6) 0) rfl (e_indexAddr rfl rfl rfl (ix_islE rfl rfl rfl rfl he6)) ?_
  refine ck 7 [5,6] [] [66] [] [I x5,.hp 66 0 [] 4 0 0] [some ⟨0,4,[enc_Entry e6]⟩] 114 (by kernel_rfl) ?_
  refine s_draw [0,1,3,7,15,31,63,127,255,511,255,255,2303,7423,15615,31999,65535,131071,262143,524287,1048575,2097151,4194303,8388607,16777215,33554431,67108863,134217727,67108863,335544319,872415231,1946157055,4294967295,8589934591,17179869183] rfl (by decide +kernel) ?_
  refine dq [66] [] (.hp 66 0 [] 4 0 0) rfl (e_fieldAddr rfl rfl rfl) ?_
  refine dq [66] [] (I e6.Day) rfl (e_ld rfl rfl) ?_
  obtain⟨r7,hr7,h⟩:=bS h
  refine dq [] [] (B r7) rfl (cP (Ffn_F hr7)) ?_ (w_callO rfl rfl rfl rfl (avS (shP rfl) avN) (Ffn_F hr7) (.inr rfl) rfl)
  refine dk 2 [26,25] [B (!r7),B (!r7)] ?_
  obtain⟨y8,hy8,hy81,hy82⟩:=bL h
  have j8:∀u8,y8=.inr u8→Run Ffo_E 0 Q (.code Ffo_kd::.code Ffo_kc::.blk 1::.code Ffo_kb::.lp Ffo_ka::.blk 0::K) (sT 72 [(1,.isl false (trace_2.map enc_Entry)),(2,.hp 1 0 [] 2 0 0),(6,.hp 2 0 [] 4 0 0),(15,.isl false (trace_2.map enc_Entry)),(16,I (len trace_2)),(17,I x5),(56,B u8)] [⟨0,2,[.agg [.isl false (c_1.Parties.map str),.isl false (c_1.Clauses.map encI_Clause)]]⟩,⟨0,4,[enc_Entry e6]⟩] 3):=by
   intro u8 hu
   replace h:=hy82 u8 hu
   refine sq h (fun h=>?_) fun h=>?_
   ·refine cq 4 [4] [B false] 19 ?_
    exact s_ret rfl (hr _ (Option.some.inj h).symm _ (qp [B false]))
   ·refine aq 1 ?_
    refine cq 6 [59] [B (decide (e6.Kind≥6))] 51 ?_
    obtain⟨y9,hy9,hy91,hy92⟩:=bL h
    have j9:∀u9,y9=.inr u9→Run Ffo_E 0 Q (.blk 1::.code Ffo_kb::.lp Ffo_ka::.blk 0::K) (sT 72 [(1,.isl false (trace_2.map enc_Entry)),(2,.hp 1 0 [] 2 0 0),(15,.isl false (trace_2.map enc_Entry)),(16,I (len trace_2)),(17,I x5)] [⟨0,2,[.agg [.isl false (c_1.Parties.map str),.isl false (c_1.Clauses.map encI_Clause)]]⟩] 2):=by
     intro u9 hu
     replace h:=hy92 u9 hu
     refine cq 5 [17] [I (w64 (x5+1))] 34 ?_
     refine s_lp ?_
     exact rf [1,2,15,16,17] [1] (ih _ _ h hr hn :)
    have r9:∀r',y9=.inl r'→∀st,Ffo_Q (c_1,trace_2) r' st→Q st:=fun r' e st hq=>hr r' (hy91 r' e) st hq
    replace h:=hy9
    refine sq h (fun h=>?_) fun h=>?_
    ·refine cq 6 [62] [B (e6.Clause != (-1))] 99 ?_
     refine sq h (fun h=>?_) fun h=>?_
     ·refine cq 4 [4] [B false] 115 ?_
      exact s_ret rfl (r9 _ (Option.some.inj h).symm _ (qp [B false]))
     ·refine aq 1 ?_
      exact rf [1,2,15,16,17] [1] (j9 _ (Option.some.inj h).symm :)
    ·refine cq 6 [64,66] [I e6.Clause,.isl false (c_1.Clauses.map encI_Clause)] 115 ?_
     refine oq 131 (I (len c_1.Clauses)) rfl (e_len rfl rfl rfl (l_isl rfl)) ?_
     refine cq 1 [68] [I (w64 ((len c_1.Clauses) - 1))] 147 ?_
     obtain⟨r10,hr10,h⟩:=bS h
     refine oq 163 (B r10) rfl (cP (Ffq_F hr10)) ?_
     refine cq 2 [70] [B (!r10)] 179 ?_
     refine sq h (fun h=>?_) fun h=>?_
     ·refine cq 4 [4] [B false] 195 ?_
      exact s_ret rfl (r9 _ (Option.some.inj h).symm _ (qp [B false]))
     ·refine aq 1 ?_
      exact rf [1,2,15,16,17] [1] (j9 _ (Option.some.inj h).symm :)
  have r8:∀r',y8=.inl r'→∀st,Ffo_Q (c_1,trace_2) r' st→Q st:=fun r' e st hq=>hr r' (hy81 r' e) st hq
  replace h:=hy8
  refine sp 26 h rfl (fun h=>?_) fun h=>?_
  ·refine dk 30 [56,55,54,53,52,51,50,49,48,47,46,45,44,43,42,41,40,39,38,37,36,35,34,33,32,31,30,29,28,27] [B true,.und,.und,.und,.und,.und,.und,.und,.und,B true,B true,.und,.und,.und,.und,B true,B true,.und,.und,.und,.und,.und,.und,.und,.und,.und,.und,.und,.und,.und] ?_
   refine de 674 rfl rfl ?_
   exact rf [1,2,6,15,16,17,56] [1,66] (j8 _ (Option.some.inj h).symm :)
  ·refine dk 3 [29,28,27] [B (decide (x5>0)),B (decide (x5>0)),I x5] ?_
   obtain⟨y11,hy11,hy111,hy112⟩:=bL h
   have j11:∀u11,y11=.inr u11→Run Ffo_E 0 Q (.code Ffo_kd::.code Ffo_kc::.blk 1::.code Ffo_kb::.lp Ffo_ka::.blk 0::K) (sT 72 [(1,.isl false (trace_2.map enc_Entry)),(2,.hp 1 0 [] 2 0 0),(6,.hp 2 0 [] 4 0 0),(15,.isl false (trace_2.map enc_Entry)),(16,I (len trace_2)),(17,I x5),(56,B u11)] [⟨0,2,[.agg [.isl false (c_1.Parties.map str),.isl false (c_1.Clauses.map encI_Clause)]]⟩,⟨0,4,[enc_Entry e6]⟩] 3):=by
    intro u11 hu
    replace h:=hy112 u11 hu
    exact rf [1,2,6,15,16,17,56] [1,2] (j8 _ (Option.some.inj h).symm :)
   have r11:∀r',y11=.inl r'→∀st,Ffo_Q (c_1,trace_2) r' st→Q st:=fun r' e st hq=>r8 r' (hy111 r' e) st hq
   replace h:=hy11
   refine sp 29 h rfl (fun h=>?_) fun h=>?_
   ·refine dy [66] [] (.hp 66 0 [] 4 0 0) rfl (e_fieldAddr rfl rfl rfl) ?_
    refine dy [66] [] (I e6.Day) rfl (e_ld rfl rfl) ?_
    refine dk 3 [34,33,32] [I (w64 (x5 - 1)),I x5,.isl false (trace_2.map enc_Entry)] ?_
    obtain⟨e12,he12,h⟩:=bS h
    refine dy [] [] (.iptr (enc_Entry e12) 0) rfl (e_indexAddr rfl rfl rfl (ix_islE rfl rfl rfl rfl he12)) ?_
    refine dy [] [] (.iptr (enc_Entry e12) 0) rfl (e_fieldAddr rfl rfl rfl) ?_
    refine dy [] [] (I e12.Day) rfl (e_ld rfl rfl) ?_
    refine dk 4 [41,40,39,38] [B (decide (e6.Day<e12.Day)),B (decide (e6.Day<e12.Day)),B (decide (e6.Day<e12.Day)),B (decide (e6.Day<e12.Day))] ?_
    obtain⟨y13,hy13,hy131,hy132⟩:=bL h
    have j13:∀u13,y13=.inr u13→Run Ffo_E 0 Q (.code Ffo_kd::.code Ffo_kc::.blk 1::.code Ffo_kb::.lp Ffo_ka::.blk 0::K) (sT 72 [(1,.isl false (trace_2.map enc_Entry)),(2,.hp 1 0 [] 2 0 0),(6,.hp 2 0 [] 4 0 0),(15,.isl false (trace_2.map enc_Entry)),(16,I (len trace_2)),(17,I x5),(56,B u13)] [⟨0,2,[.agg [.isl false (c_1.Parties.map str),.isl false (c_1.Clauses.map encI_Clause)]]⟩,⟨0,4,[enc_Entry e6]⟩] 3):=by
     intro u13 hu
     replace h:=hy132 u13 hu
     exact rf [1,2,6,15,16,17,56] [1,2] (j11 _ (Option.some.inj h).symm :)
    have r13:∀r',y13=.inl r'→∀st,Ffo_Q (c_1,trace_2) r' st→Q st:=fun r' e st hq=>r11 r' (hy131 r' e) st hq
    replace h:=hy13
    refine sp 41 h rfl (fun h=>?_) fun h=>?_
    ·refine dk 15 [56,55,54,53,52,51,50,49,48,47,46,45,44,43,42] [B true,.und,.und,.und,.und,.und,.und,.und,.und,B true,B true,.und,.und,.und,.und] ?_
     refine de 674 rfl rfl ?_
     exact rf [1,2,6,15,16,17,56] [1,66] (j13 _ (Option.some.inj h).symm :)
    ·refine dy [66] [] (.hp 66 0 [] 4 0 1) rfl (e_fieldAddr rfl rfl rfl) ?_
     refine dy [66] [] (I e6.Kind) rfl (e_ld rfl rfl) ?_
     obtain⟨r14,hr14,h⟩:=bS h
     refine dy [] [] (B r14) rfl (cP (Ffq_F hr14)) ?_ (w_callO rfl rfl rfl rfl (avS (shP rfl) (avS (shP rfl) (avS (shP rfl) avN))) (Ffq_F hr14) (.inr rfl) rfl)
     refine dk 3 [47,46,45] [B (!r14),B (!r14),B (!r14)] ?_
     obtain⟨y15,hy15,hy151,hy152⟩:=bL h
     have j15:∀u15,y15=.inr u15→Run Ffo_E 0 Q (.code Ffo_kd::.code Ffo_kc::.blk 1::.code Ffo_kb::.lp Ffo_ka::.blk 0::K) (sT 72 [(1,.isl false (trace_2.map enc_Entry)),(2,.hp 1 0 [] 2 0 0),(6,.hp 2 0 [] 4 0 0),(15,.isl false (trace_2.map enc_Entry)),(16,I (len trace_2)),(17,I x5),(56,B u15)] [⟨0,2,[.agg [.isl false (c_1.Parties.map str),.isl false (c_1.Clauses.map encI_Clause)]]⟩,⟨0,4,[enc_Entry e6]⟩] 3):=by
      intro u15 hu
      replace h:=hy152 u15 hu
      exact rf [1,2,6,15,16,17,56] [1,2] (j13 _ (Option.some.inj h).symm :)
     have r15:∀r',y15=.inl r'→∀st,Ffo_Q (c_1,trace_2) r' st→Q st:=fun r' e st hq=>r13 r' (hy151 r' e) st hq
     replace h:=hy15
     refine sp 47 h rfl (fun h=>?_) fun h=>?_
     ·refine dk 9 [56,55,54,53,52,51,50,49,48] [B true,.und,.und,.und,.und,.und,.und,.und,.und] ?_
      refine de 674 rfl rfl ?_
      exact rf [1,2,6,15,16,17,56] [1,66] (j15 _ (Option.some.inj h).symm :)
     ·refine dy [66] [] (.hp 66 0 [] 4 0 3) rfl (e_fieldAddr rfl rfl rfl) ?_
      refine dy [66] [] (I e6.Party) rfl (e_ld rfl rfl) ?_
      refine dy [1] [] (.hp 1 0 [] 2 0 0) rfl (e_fieldAddr rfl rfl rfl) ?_
      refine dy [1] [] (.isl false (c_1.Parties.map str)) rfl (e_ld rfl rfl) ?_
      refine dy [] [] (I (len c_1.Parties)) rfl (e_len rfl rfl rfl (l_isl rfl)) ?_
      refine dk 1 [53] [I (w64 ((len c_1.Parties) - 1))] ?_
      obtain⟨r16,hr16,h⟩:=bS h
      refine dy [] [] (B r16) rfl (cP (Ffq_F hr16)) ?_ (w_callO rfl rfl rfl rfl (avS (shP rfl) (avS (shP rfl) (avS (shP rfl) avN))) (Ffq_F hr16) (.inr rfl) rfl)
      refine dk 2 [56,55] [B (!r16),B (!r16)] ?_
      refine de 674 rfl rfl ?_
      exact rf [1,2,6,15,16,17,56] [1,66] (j15 _ (Option.some.inj h).symm :)
   ·refine dk 12 [41,40,39,38,37,36,35,34,33,32,31,30] [B false,B false,B false,.und,.und,.und,.und,.und,.und,.und,.und,.und] ?_
    refine dy [66] [] (.hp 66 0 [] 4 0 1) rfl (e_fieldAddr rfl rfl rfl) ?_
    refine dy [66] [] (I e6.Kind) rfl (e_ld rfl rfl) ?_
    obtain⟨r17,hr17,h⟩:=bS h
    refine dy [] [] (B r17) rfl (cP (Ffq_F hr17)) ?_ (w_callO rfl rfl rfl rfl (avS (shP rfl) (avS (shP rfl) (avS (shP rfl) avN))) (Ffq_F hr17) (.inr rfl) rfl)
    refine dk 3 [47,46,45] [B (!r17),B (!r17),B (!r17)] ?_
    obtain⟨y18,hy18,hy181,hy182⟩:=bL h
    have j18:∀u18,y18=.inr u18→Run Ffo_E 0 Q (.code Ffo_kd::.code Ffo_kc::.blk 1::.code Ffo_kb::.lp Ffo_ka::.blk 0::K) (sT 72 [(1,.isl false (trace_2.map enc_Entry)),(2,.hp 1 0 [] 2 0 0),(6,.hp 2 0 [] 4 0 0),(15,.isl false (trace_2.map enc_Entry)),(16,I (len trace_2)),(17,I x5),(56,B u18)] [⟨0,2,[.agg [.isl false (c_1.Parties.map str),.isl false (c_1.Clauses.map encI_Clause)]]⟩,⟨0,4,[enc_Entry e6]⟩] 3):=by
     intro u18 hu
     replace h:=hy182 u18 hu
     exact rf [1,2,6,15,16,17,56] [1,2] (j11 _ (Option.some.inj h).symm :)
    have r18:∀r',y18=.inl r'→∀st,Ffo_Q (c_1,trace_2) r' st→Q st:=fun r' e st hq=>r11 r' (hy181 r' e) st hq
    replace h:=hy18
    refine sp 47 h rfl (fun h=>?_) fun h=>?_
    ·refine dk 9 [56,55,54,53,52,51,50,49,48] [B true,.und,.und,.und,.und,.und,.und,.und,.und] ?_
     refine de 674 rfl rfl ?_
     exact rf [1,2,6,15,16,17,56] [1,66] (j18 _ (Option.some.inj h).symm :)
    ·refine dy [66] [] (.hp 66 0 [] 4 0 3) rfl (e_fieldAddr rfl rfl rfl) ?_
     refine dy [66] [] (I e6.Party) rfl (e_ld rfl rfl) ?_
     refine dy [1] [] (.hp 1 0 [] 2 0 0) rfl (e_fieldAddr rfl rfl rfl) ?_
     refine dy [1] [] (.isl false (c_1.Parties.map str)) rfl (e_ld rfl rfl) ?_
     refine dy [] [] (I (len c_1.Parties)) rfl (e_len rfl rfl rfl (l_isl rfl)) ?_
     refine dk 1 [53] [I (w64 ((len c_1.Parties) - 1))] ?_
     obtain⟨r19,hr19,h⟩:=bS h
     refine dy [] [] (B r19) rfl (cP (Ffq_F hr19)) ?_ (w_callO rfl rfl rfl rfl (avS (shP rfl) (avS (shP rfl) (avS (shP rfl) avN))) (Ffq_F hr19) (.inr rfl) rfl)
     refine dk 2 [56,55] [B (!r19),B (!r19)] ?_
     refine de 674 rfl rfl ?_
     exact rf [1,2,6,15,16,17,56] [1,66] (j18 _ (Option.some.inj h).symm :)
 ·refine aq 1 ?_
  exact rf [] [] (hn _ (Option.some.inj h).symm :) (hk:=hK)
theorem Ffo_run (c_1:Contract)(trace_2:List Entry)(r:Bool)(h:Ffo c_1 trace_2=some r):RunF Ffo_E Tryz.f53 [false,false] 0 (Ffo_A (c_1,trace_2)) (Ffo_R r):=by
 show Run _ _ (Ffo_Q (c_1,trace_2) r) [.code Ffo_c] _
 refine rI 72 [(0,.agg [.isl false (c_1.Parties.map str),.isl false (c_1.Clauses.map encI_Clause)]),(1,.isl false (trace_2.map enc_Entry))] [] 1 ?_
 unfold Ffo at h
 refine ck 9 [2,7] [] [1] [] [.hp 1 0 [] 2 0 0,.agg [.isl false (c_1.Parties.map str),.isl false (c_1.Clauses.map encI_Clause)]] [some ⟨0,2,[.agg [.isl false (c_1.Parties.map str),.isl false (c_1.Clauses.map encI_Clause)]]⟩] 49 (by kernel_rfl) ?_
 obtain⟨r3,hr3,h⟩:=bS h
 refine oq 65 (B r3) rfl (cP (Ffd_F hr3)) ?_
 refine cq 2 [10] [B (!r3)] 97 ?_
 obtain⟨u4,hu4,h⟩:=lJ h
 have j4:Run Ffo_E 0 (Ffo_Q (c_1,trace_2) r) (.code (cR (cL (cR Ffo_c)))::.code (cR (cR Ffo_c))::[]) (sT 72 [(1,.isl false (trace_2.map enc_Entry)),(2,.hp 1 0 [] 2 0 0),(14,B u4)] [⟨0,2,[.agg [.isl false (c_1.Parties.map str),.isl false (c_1.Clauses.map encI_Clause)]]⟩] 2):=by
  refine sq h (fun h=>?_) fun h=>?_
  ·refine cq 4 [4] [B false] 18 ?_
   obtain rfl:=Option.some.inj h
   exact s_ret rfl (qp [B false])
  ·refine aq 1 ?_
   refine cq 4 [15] [.isl false (trace_2.map enc_Entry)] 18 ?_
   refine oq 34 (I (len trace_2)) rfl (e_len rfl rfl rfl (l_isl rfl)) ?_
   refine cq 3 [17] [I (0)] 50 ?_
   obtain⟨y20,hy20,hy201,hy202⟩:=bJ h
   refine s_loop rfl ?_
   refine rf [1,2,15,16,17] [1] (Ffo_la_run c_1 trace_2 rfl 0 _ hy20 (fun r' e st hq=>by rw[hy201 r' e] at hq;exact hq) fun u20 hu=>?_)
   replace h:=hy202 u20 hu
   refine cq 4 [4] [B true] 17 ?_
   obtain rfl:=Option.some.inj h
   exact s_ret rfl (qp [B true])
 replace h:=hu4
 clear hu4
 refine sp 10 h rfl (fun h=>?_) fun h=>?_
 ·refine cq 5 [14] [B true] 161 ?_
  subst h
  exact rf [1,2,14] [1] (j4 :)
 ·refine cq 1 [11] [.isl false (trace_2.map enc_Entry)] 113 ?_
  refine oy 129 (I (len trace_2)) rfl (e_len rfl rfl rfl (l_isl rfl)) ?_
  refine cq 3 [14] [B (decide ((len trace_2)>200))] 161 ?_
  subst h
  exact rf [1,2,14] [1] (j4 :)
theorem Ffo_good {G:Go.Ln.Ground}:Good Tryz.prog G 53 Ffo_ent:=gT 2 0 (gl_c Ffd_good (gl_c Ffn_good (gl_c Ffq_good gl_n))) (Checked.mixed Tryz.checked) Tryz.func53 (fun a r h=>Ffo_run a.1 a.2 r h)
def Ffcd_A:(List Entry)→List V:=oA (slE enc_Entry)
def Ffcd_R (r:(List Entry)):V×List V:=(.usl 4 (r.map enc_Entry),[])
noncomputable def Ffcd_ent:Ent:=entT [false] Ffcd_A Ffcd_R fun x=>Ffcd x
theorem Ffcd_F {s_1:List Entry}{r}(h:Ffcd s_1=some r):Ffcd_ent.F (Ffcd_A s_1)=some (Ffcd_R r):=entT_F (oA_inj (isl_inj enc_Entry_inj)) h
noncomputable def Ffcd_c:Code:=bodyOf Tryz.f86
noncomputable def Ffcd_E:Env:=mkE Tryz.prog []
def Ffcd_Q (x:(List Entry))(r:(List Entry)):St→Prop:=QF Ffcd_E Tryz.f86 [false] (Ffcd_A x) (Ffcd_R r)
theorem Ffcd_run (s_1:List Entry)(r:(List Entry))(h:Ffcd s_1=some r):RunF Ffcd_E Tryz.f86 [false] 0 (Ffcd_A s_1) (Ffcd_R r):=by
 show Run _ _ (Ffcd_Q s_1 r) [.code Ffcd_c] _
 refine rI 8 [(0,.isl false (s_1.map enc_Entry))] [] 1 ?_
 unfold Ffcd at h
 refine cq 8 [3] [.isl false (s_1.map enc_Entry)] 33 ?_
 refine nq (f:=enc_Entry) (xs:=s_1) true 49 rfl h rfl rfl rfl rfl (fun h=>?_) fun h=>?_
 ·refine aq 1 ?_
  refine s_cond rfl rfl (fun _=>?_) (fun hb=>by cases hb)
  refine cq 4 [2] [.isl true []] 65 ?_
  refine run_own 2 0 4 81 (.hs 65 0 [] 4 0 0) rfl rfl rfl rfl rfl ?_
  obtain rfl:=Option.some.inj h
  exact s_ret rfl ⟨_,fin (vs:=[.hs 65 0 [] 4 0 0]) rfl (absE (abs1 rfl (abs_hs (k:=0) (es:=[]) rfl rfl)) absEN) rfl (ou_f ou_n),kl_n⟩
 ·refine aq 1 ?_
  refine s_cond rfl rfl (fun hb=>by cases hb) (fun _=>?_)
  refine aq 3 ?_
  refine oq 65 (.hs 49 0 [] 4 0 0) rfl (e_buildSlice rfl (bs_mk (f:=I) (xs:=[]) (z:=.agg [I (0),I (0),I (0),I (0)]) (es:=[]) (ws:=[]) rfl rfl rfl (by decide) rfl (abs_each_plain rfl) rfl)) ?_
  refine cq 1 [6] [.isl false (s_1.map enc_Entry)] 81 ?_
  obtain⟨a2,ha2,h⟩:=bS h
  refine oq 97 (.hs 81 0 [] 4 0 (a2.map enc_Entry).length) rfl (e_append rfl rfl rfl rfl rfl (ap_hsM (path:=[]) (es0:=[]) (f:=enc_Entry) (xs:=([]:List Entry)) (ys:=s_1) rfl rfl take_isl rfl rfl rfl rfl rfl (by decide) enc_Entry_cells ha2 rfl to_n)) ?_
  refine cq 2 [2] [.hs 81 0 [] 4 0 (a2.map enc_Entry).length] 113 ?_
  obtain rfl:=Option.some.inj h
  exact s_ret rfl ⟨_,fin (vs:=[.hs 81 0 [] 4 0 (a2.map enc_Entry).length]) rfl (absE (abs1 rfl (abs_hs rfl rfl)) absEN) rfl (ou_f ou_n),kl_n⟩
theorem Ffcd_good {G:Go.Ln.Ground}:Good Tryz.prog G 86 Ffcd_ent:=gT 1 0 gl_n (Checked.mixed Tryz.checked) Tryz.func86 (fun a r h=>Ffcd_run a r h)
def Ffl_A:Entry→List V:=oA enc_Entry
def Ffl_R (r:Bool):V×List V:=(B r,[])
noncomputable def Ffl_ent:Ent:=entT [false] Ffl_A Ffl_R fun x=>Ffl x
theorem Ffl_F {x_1:Entry}{r}(h:Ffl x_1=some r):Ffl_ent.F (Ffl_A x_1)=some (Ffl_R r):=entT_F (oA_inj enc_Entry_inj) h
noncomputable def Ffl_c:Code:=bodyOf Tryz.f55
noncomputable def Ffl_E:Env:=mkE Tryz.prog []
def Ffl_Q (x:Entry)(r:Bool):St→Prop:=QF Ffl_E Tryz.f55 [false] (Ffl_A x) (Ffl_R r)
theorem Ffl_run (x_1:Entry)(r:Bool)(h:Ffl x_1=some r):RunF Ffl_E Tryz.f55 [false] 0 (Ffl_A x_1) (Ffl_R r):=by
 show Run _ _ (Ffl_Q x_1 r) [.code Ffl_c] _
 refine rI 11 [(0,enc_Entry x_1)] [] 1 ?_
 unfold Ffl at h
 refine ck 11 [1,6] [] [1] [] [.hp 1 0 [] 4 0 0,B (x_1.Kind==2)] [some ⟨0,4,[enc_Entry x_1]⟩] 97 (by kernel_rfl) ?_
 obtain⟨u2,hu2,h⟩:=lJ h
 have j2:Run Ffl_E 0 (Ffl_Q x_1 r) (.code (cR (cR Ffl_c))::[]) (sT 11 [(2,B u2)] [] 1):=by
  obtain rfl:=Option.some.inj h
  exact s_ret rfl (qp [B u2])
 replace h:=hu2
 clear hu2
 refine sp 6 h rfl (fun h=>?_) fun h=>?_
 ·refine cq 6 [2] [B true] 177 ?_
  subst h
  exact rf [2] [] (j2 :)
 ·refine cq 6 [2] [B (x_1.Kind==4)] 177 ?_
  subst h
  exact rf [2] [] (j2 :)
theorem Ffl_good {G:Go.Ln.Ground}:Good Tryz.prog G 55 Ffl_ent:=gT 1 0 gl_n (Checked.mixed Tryz.checked) Tryz.func55 (fun a r h=>Ffl_run a r h)
def Ffb_A:(Entry×Int)→List V:=cA enc_Entry (oA (fun x:Int=>.iptr (I x) 0))
def Ffb_R (r:Bool):V×List V:=(B r,[])
noncomputable def Ffb_ent:Ent:=entT [false,false] Ffb_A Ffb_R fun x=>Ffb x.1 x.2
theorem Ffb_F {x_1:Entry}{a_2:Int}{r}(h:Ffb x_1 a_2=some r):Ffb_ent.F (Ffb_A (x_1,a_2))=some (Ffb_R r):=entT_F (cA_inj enc_Entry_inj (oA_inj (iptr_inj I_inj))) h
noncomputable def Ffb_c:Code:=bodyOf Tryz.f87
noncomputable def Ffb_E:Env:=mkE Tryz.prog [(55,Ffl_ent)]
def Ffb_Q (x:Entry×Int)(r:Bool):St→Prop:=QF Ffb_E Tryz.f87 [false,false] (Ffb_A x) (Ffb_R r)
theorem Ffb_run (x_1:Entry)(a_2:Int)(r:Bool)(h:Ffb x_1 a_2=some r):RunF Ffb_E Tryz.f87 [false,false] 0 (Ffb_A (x_1,a_2)) (Ffb_R r):=by
 show Run _ _ (Ffb_Q (x_1,a_2) r) [.code Ffb_c] _
 refine rI 13 [(0,enc_Entry x_1),(1,.iptr (I a_2) 0)] [] 1 ?_
 unfold Ffb at h
 refine ck 8 [2,4] [] [1] [] [.hp 1 0 [] 4 0 0,enc_Entry x_1] [some ⟨0,4,[enc_Entry x_1]⟩] 49 (by kernel_rfl) ?_
 obtain⟨r3,hr3,h⟩:=bS h
 refine oq 65 (B r3) rfl (cP (Ffl_F hr3)) ?_
 refine cq 2 [7] [B (!r3)] 97 ?_
 obtain⟨u4,hu4,h⟩:=lJ h
 have j4:Run Ffb_E 0 (Ffb_Q (x_1,a_2) r) (.code (cR (cR Ffb_c))::[]) (sT 13 [(3,B u4)] [] 1):=by
  obtain rfl:=Option.some.inj h
  exact s_ret rfl (qp [B u4])
 replace h:=hu4
 clear hu4
 refine sp 7 h rfl (fun h=>?_) fun h=>?_
 ·refine cq 7 [3] [B true] 193 ?_
  subst h
  exact rf [3] [] (j4 :)
 ·refine cq 7 [3] [B (x_1.Party != a_2)] 193 ?_
  subst h
  exact rf [3] [] (j4 :)
theorem Ffb_good {G:Go.Ln.Ground}:Good Tryz.prog G 87 Ffb_ent:=gT 2 0 (gl_c Ffl_good gl_n) (Checked.mixed Tryz.checked) Tryz.func87 (fun a r h=>Ffb_run a.1 a.2 r h)
def Ffci_A:((List Entry)×Int)→List V:=cA (slE enc_Entry) (oA (fun x:Int=>(.fn 87 [.iptr (I x) 0]:V)))
def Ffci_R (r:Int):V×List V:=(I r,[])
noncomputable def Ffci_ent:Ent:=entT [false,false] Ffci_A Ffci_R fun x=>Ffci x.1 x.2
theorem Ffci_F {s_1:List Entry}{f_2:Int}{r}(h:Ffci s_1 f_2=some r):Ffci_ent.F (Ffci_A (s_1,f_2))=some (Ffci_R r):=entT_F (cA_inj (isl_inj enc_Entry_inj) (oA_inj (fn_inj1 I_inj))) h
noncomputable def Ffci_c:Code:=bodyOf Tryz.f54
noncomputable def Ffci_E:Env:=mkE Tryz.prog [(87,Ffb_ent)]
def Ffci_Q (x:(List Entry)×Int)(r:Int):St→Prop:=QF Ffci_E Tryz.f54 [false,false] (Ffci_A x) (Ffci_R r)
theorem Ffci_la_run (s_1:List Entry)(f_2:Int){Q:St→Prop}{K:List It}(hK:noD K=true):∀(x3:Int) (y:Int⊕Unit),Ffci_la s_1 f_2 x3=some y→(∀r',y=.inl r'→∀st,Ffci_Q (s_1,f_2) r' st→Q st)→(∀u:Unit,y=.inr u→Run Ffci_E 0 Q K (sT 19 [] [] 1))→Run Ffci_E 0 Q (.code (cL (cL (cR (cL (cR Ffci_c)))))::.lp (cL (cL (cR (cL (cR Ffci_c)))))::.blk 0::K) (sT 19 [(0,.isl false (s_1.map enc_Entry)),(1,.fn 87 [.iptr (I f_2) 0]),(7,I (len s_1)),(8,I x3)] [] 1):=by
 refine fix_indP (Ffci_la_fin s_1 f_2) ?_
 intro self ih x3 y h hr hn
 unfold Ffci_la_F at h
 refine cq 5 [9] [B (decide (x3<(len s_1)))] 17 ?_
 refine sq h (fun h=>?_) fun h=>?_
 ·refine aq 1 ?_
  refine cq 12 [5,11,12,13] [I x3,.fn 87 [.iptr (I f_2) 0],.isl false (s_1.map enc_Entry),I x3] 97 ?_
  obtain⟨e4,he4,h⟩:=bS h
  refine oq 113 (.iptr (enc_Entry e4) 0) rfl (e_indexAddr rfl rfl rfl (ix_islE rfl rfl rfl rfl he4)) ?_
  refine cq 1 [15] [enc_Entry e4] 129 ?_
  obtain⟨r5,hr5,h⟩:=bS h
  refine oq 145 (B r5) rfl (cP (Ffb_F hr5)) ?_
  refine aq 1 ?_
  refine sq h (fun h=>?_) fun h=>?_
  ·refine cq 5 [4] [I x3] 177 ?_
   exact s_ret rfl (hr _ (Option.some.inj h).symm _ (qp [I x3]))
  ·refine aq 1 ?_
   refine cq 5 [8] [I (w64 (x3+1))] 177 ?_
   refine s_lp ?_
   exact rf [0,1,7,8] [] (ih _ _ h hr hn :)
 ·refine aq 1 ?_
  exact rf [] [] (hn _ (Option.some.inj h).symm :) (hk:=hK)
theorem Ffci_run (s_1:List Entry)(f_2:Int)(r:Int)(h:Ffci s_1 f_2=some r):RunF Ffci_E Tryz.f54 [false,false] 0 (Ffci_A (s_1,f_2)) (Ffci_R r):=by
 show Run _ _ (Ffci_Q (s_1,f_2) r) [.code Ffci_c] _
 refine rI 19 [(0,.isl false (s_1.map enc_Entry)),(1,.fn 87 [.iptr (I f_2) 0])] [] 1 ?_
 unfold Ffci at h
 refine cq 8 [6] [.isl false (s_1.map enc_Entry)] 33 ?_
 refine oq 49 (I (len s_1)) rfl (e_len rfl rfl rfl (l_isl rfl)) ?_
 refine cq 3 [8] [I (0)] 65 ?_
 obtain⟨y6,hy6,hy61,hy62⟩:=bJ h
 refine s_loop rfl ?_
 refine rf [0,1,7,8] [] (Ffci_la_run s_1 f_2 rfl 0 _ hy6 (fun r' e st hq=>by rw[hy61 r' e] at hq;exact hq) fun u6 hu=>?_)
 replace h:=hy62 u6 hu
 refine cq 4 [4] [I (-1)] 17 ?_
 obtain rfl:=Option.some.inj h
 exact s_ret rfl (qp [I (-1)])
theorem Ffci_good {G:Go.Ln.Ground}:Good Tryz.prog G 54 Ffci_ent:=gT 2 0 (gl_c Ffb_good gl_n) (Checked.mixed Tryz.checked) Tryz.func54 (fun a r h=>Ffci_run a.1 a.2 r h)
def Ffcg_A:((List Entry)×Int)→List V:=cA (usE 4 enc_Entry) (oA (fun x:Int=>(.fn 87 [.iptr (I x) 0]:V)))
def Ffcg_R (r:(List Entry)):V×List V:=(.usl 4 (r.map enc_Entry),[.dead])
noncomputable def Ffcg_ent:Ent:=entT [true,false] Ffcg_A Ffcg_R fun x=>Ffcg x.1 x.2
theorem Ffcg_F {s_4:List Entry}{del_5:Int}{r}(h:Ffcg s_4 del_5=some r):Ffcg_ent.F (Ffcg_A (s_4,del_5))=some (Ffcg_R r):=entT_F (cA_inj (usl_inj enc_Entry_inj) (oA_inj (fn_inj1 I_inj))) h
noncomputable def Ffcg_c:Code:=bodyOf Tryz.f85
noncomputable abbrev Ffcg_ka:Code:=cL (cL (cR (cL (cR (cR (cR Ffcg_c))))))
noncomputable def Ffcg_E:Env:=mkE Tryz.prog [(54,Ffci_ent),(87,Ffb_ent)]
def Ffcg_Q (x:(List Entry)×Int)(r:(List Entry)):St→Prop:=QF Ffcg_E Tryz.f85 [true,false] (Ffcg_A x) (Ffcg_R r)
theorem Ffcg_la_run (s_4:List Entry)(del_5:Int){Q:St→Prop}{K:List It}(hK:noD K=true):∀(x4:Int×Int×(List Entry)) (y:(List Entry)⊕(Int×(List Entry))),Ffcg_la s_4 del_5 x4=some y→(∀r',y=.inl r'→∀st,Ffcg_Q (s_4,del_5) r' st→Q st)→(∀u:Int×(List Entry),y=.inr u→Run Ffcg_E 1 Q K (sO 42 [(0,.hs 2 0 [] 4 0 (u.2.map enc_Entry).length),(5,I u.1)] [none,some ⟨0,4,u.2.map enc_Entry⟩] 3))→Run Ffcg_E 1 Q (.code Ffcg_ka::.lp Ffcg_ka::.blk 0::K) (sO 42 [(0,.hs 2 0 [] 4 0 (x4.2.2.map enc_Entry).length),(1,.fn 87 [.iptr (I del_5) 0]),(5,I x4.1),(6,I x4.2.1)] [none,some ⟨0,4,x4.2.2.map enc_Entry⟩] 3):=by
 refine fix_indP (Ffcg_la_fin s_4 del_5) ?_
 intro self ih x4 y h hr hn
 unfold Ffcg_la_F at h
 refine cq 5 [16,17] [I x4.2.1,.hs 2 0 [] 4 0 (x4.2.2.map enc_Entry).length] 35 ?_
 refine oq 51 (I (len x4.2.2)) rfl (e_len rfl rfl rfl (l_hsM (f:=enc_Entry) (xs:=x4.2.2) rfl rfl)) ?_
 refine cq 2 [19] [B (decide (x4.2.1<(len x4.2.2)))] 67 ?_
 refine sq h (fun h=>?_) fun h=>?_
 ·refine aq 1 ?_
  refine cq 6 [22,23] [.hs 2 0 [] 4 0 (x4.2.2.map enc_Entry).length,I x4.2.1] 99 ?_
  obtain⟨e5,he5,h⟩:=bS h
  refine oq 115 (.hp 2 0 [] 4 (0+Int.toNat x4.2.1) 0) rfl (e_indexAddr rfl rfl rfl (ix_hsM (f:=enc_Entry) (xs:=x4.2.2) rfl rfl rfl he5)) ?_
  refine oq 131 (enc_Entry e5) rfl (e_ld rfl (ld_at (path:=[]) rfl rfl rfl ra_n (get_map (f:=enc_Entry) (xs:=x4.2.2) he5) rfl rfl rfl)) ?_
  refine ck 7 [7,26,27] [] [131] [] [.hp 131 0 [] 4 0 0,.fn 87 [.iptr (I del_5) 0],enc_Entry e5] [some ⟨0,4,[enc_Entry e5]⟩] 195 (by kernel_rfl) ?_
  obtain⟨r6,hr6,h⟩:=bS h
  refine oq 211 (B r6) rfl (cP (Ffb_F hr6)) ?_
  refine cq 2 [29] [B (!r6)] 227 ?_
  obtain⟨y7,hy7,hy71,hy72⟩:=bL h
  have j7:∀u7,y7=.inr u7→Run Ffcg_E 1 Q (.blk 1::.code (cR (cR Ffcg_ka))::.lp Ffcg_ka::.blk 0::K) (sO 42 [(0,.hs 2 0 [] 4 0 (u7.2.map enc_Entry).length),(1,.fn 87 [.iptr (I del_5) 0]),(5,I u7.1),(6,I x4.2.1)] [none,some ⟨0,4,u7.2.map enc_Entry⟩] 3):=by
   intro u7 hu
   replace h:=hy72 u7 hu
   refine cq 6 [6] [I (w64 (x4.2.1+1))] 51 ?_
   refine s_lp ?_
   exact rg [0,1,5,6] [52,2] (ih _ _ h hr hn :)
  have r7:∀r',y7=.inl r'→∀st,Ffcg_Q (s_4,del_5) r' st→Q st:=fun r' e st hq=>hr r' (hy71 r' e) st hq
  replace h:=hy7
  refine sq h (fun h=>?_) fun h=>?_
  ·refine cq 5 [30,31,32] [.hs 2 0 [] 4 0 (x4.2.2.map enc_Entry).length,I x4.1,enc_Entry e5] 275 ?_
   obtain⟨e8,he8,h⟩:=bS h
   refine oq 291 (.hp 2 0 [] 4 (0+Int.toNat x4.1) 0) rfl (e_indexAddr rfl rfl rfl (ix_hsM (f:=enc_Entry) (xs:=x4.2.2) rfl rfl rfl he8)) ?_
   refine o0 307 rfl rfl (e_st rfl rfl (st_at (path:=[]) (pl:=true) (e':=enc_Entry e5) (es2':=(setI x4.2.2 x4.1 e5).map enc_Entry) rfl (absorb_plain rfl) rfl rfl rfl ra_n (get_map (f:=enc_Entry) (xs:=x4.2.2) he8) rfl rfl rfl (set_map (f:=enc_Entry) (xs:=x4.2.2) (y:=e5)) sr_n 0 rfl)) ?_
   try rw[←len_setM (f:=enc_Entry) (xs:=x4.2.2) (i:=x4.1) (z:=e5)]
   refine cq 6 [5] [I (w64 (x4.1+1))] 355 ?_
   exact rg [0,1,5,6] [356,2] (j7 _ (Option.some.inj h).symm :)
  ·refine aq 1 ?_
   exact rg [0,1,5,6] [228,2] (j7 _ (Option.some.inj h).symm :)
 ·refine aq 1 ?_
  exact rg [0,5] [68,2] (hn _ (Option.some.inj h).symm :) (hk:=hK)
theorem Ffcg_run (s_4:List Entry)(del_5:Int)(r:(List Entry))(h:Ffcg s_4 del_5=some r):RunF Ffcg_E Tryz.f85 [true,false] 1 (Ffcg_A (s_4,del_5)) (Ffcg_R r):=by
 show Run _ _ (Ffcg_Q (s_4,del_5) r) [.code Ffcg_c] _
 refine rI 42 [(0,.hs 1 0 [] 4 0 (s_4.map enc_Entry).length),(1,.fn 87 [.iptr (I del_5) 0])] [(1,some ⟨0,4,s_4.map enc_Entry⟩)] 2 ?_
 unfold Ffcg at h
 refine cq 8 [8,9] [.hs 1 0 [] 4 0 (s_4.map enc_Entry).length,.fn 87 [.iptr (I del_5) 0]] 50 ?_
 obtain⟨r3,hr3,h⟩:=bS h
 refine oq 66 (I r3) rfl (e_callV rfl rfl (call_P rfl rfl rfl (avS (sh1 rfl rfl (sh_hsM (f:=enc_Entry) (g:=enc_Entry) (xs:=s_4) rfl rfl (imms_of enc_Entry_imm))) (avS (shF (shC (sh_p rfl) shN)) avN)) (Ffci_F hr3) (.inl rfl) bl_n rfl rfl rfl)) ?_
 refine cq 8 [5,12] [I r3,B (r3==(-1))] 114 ?_
 refine sq h (fun h=>?_) fun h=>?_
 ·refine cq 5 [4] [.hs 1 0 [] 4 0 (s_4.map enc_Entry).length] 146 ?_
  obtain rfl:=Option.some.inj h
  exact s_ret rfl ⟨_,fin (vs:=[.hs 1 0 [] 4 0 (s_4.map enc_Entry).length]) rfl (absE (abs1 rfl (abs_hs rfl rfl)) absEN) rfl (ou_1 rfl (oc_no rfl) (ou_f ou_n)),kl_d kl_n⟩
 ·refine aq 1 ?_
  refine cq 8 [6] [I (w64 (r3+1))] 162 ?_
  obtain⟨y10,hy10,hy101,hy102⟩:=bJ h
  refine s_loop rfl ?_
  refine rg [0,1,5,6] [163,1] (Ffcg_la_run s_4 del_5 rfl (r3,(w64 (r3+1)),s_4) _ hy10 (fun r' e st hq=>by rw[hy101 r' e] at hq;exact hq) fun u10 hu=>?_)
  replace h:=hy102 u10 hu
  refine cq 4 [36,37] [.hs 2 0 [] 4 0 (u10.2.map enc_Entry).length,I u10.1] 35 ?_
  obtain⟨s11,hs11,h⟩:=bS h
  refine oq 51 (.hs 2 0 [] 4 (0+Int.toNat u10.1) (Int.toNat (len u10.2) - Int.toNat u10.1)) rfl (e_slice rfl rfl rfl rfl (sl_hsM (f:=enc_Entry) (xs:=u10.2) rfl rfl rfl rfl (bd_n rfl) hs11)) ?_
  obtain⟨k12,hk12,h⟩:=bS h
  refine o0 67 rfl rfl (e_clear rfl rfl (cl_pt (f:=enc_Entry) (xs:=u10.2) (z0:=(Entry.mk 0 0 0 0)) rfl rfl rfl rfl (by decide) enc_Entry_flat hk12)) ?_
  try rw[show (u10.2.map enc_Entry).length=(k12.map enc_Entry).length from clr_len hk12]
  refine cq 5 [39,40] [.hs 2 0 [] 4 0 (k12.map enc_Entry).length,I u10.1] 99 ?_
  obtain⟨s13,hs13,h⟩:=bS h
  refine oq 115 (.hs 2 0 [] 4 (0+Int.toNat (0)) (Int.toNat u10.1 - Int.toNat (0))) rfl (e_slice rfl rfl rfl rfl (sl_hsM (f:=enc_Entry) (xs:=k12) rfl rfl rfl rfl rfl hs13)) ?_
  refine cq 2 [4] [.hs 2 0 [] 4 (0+Int.toNat (0)) (Int.toNat u10.1 - Int.toNat (0))] 131 ?_
  obtain⟨p14,hp14,h⟩:=bS h
  obtain rfl:=Option.some.inj h
  exact s_ret rfl ⟨_,fin (vs:=[.hs 2 0 [] 4 (0+Int.toNat (0)) (Int.toNat u10.1 - Int.toNat (0))]) rfl (absE (abs1 rfl (abs_pt (path:=[]) (f:=enc_Entry) (xs:=k12) rfl rfl ra_n hp14 rfl to_n)) absEN) rfl (ou_1 rfl (oc_no rfl) (ou_f ou_n)),kl_d kl_n⟩
theorem Ffcg_good {G:Go.Ln.Ground}:Good Tryz.prog G 85 Ffcg_ent:=gT 2 1 (gl_c Ffci_good (gl_c Ffb_good gl_n)) (Checked.mixed Tryz.checked) Tryz.func85 (fun a r h=>Ffcg_run a.1 a.2 r h)
def Ffa_A:(Contract×(List Entry)×Int)→List V:=cA encI_Contract (cA (slE enc_Entry) (oA I))
def Ffa_R (r:(List Entry)×Bool):V×List V:=(.tup [.usl 4 (r.1.map enc_Entry),B r.2],[])
noncomputable def Ffa_ent:Ent:=entT [false,false,false] Ffa_A Ffa_R fun x=>Ffa x.1 x.2.1 x.2.2
theorem Ffa_F {c_1:Contract}{trace_2:List Entry}{party_3:Int}{r}(h:Ffa c_1 trace_2 party_3=some r):Ffa_ent.F (Ffa_A (c_1,trace_2,party_3))=some (Ffa_R r):=entT_F (cA_inj encI_Contract_inj (cA_inj (isl_inj enc_Entry_inj) (oA_inj I_inj))) h
noncomputable def Ffa_c:Code:=bodyOf Tryz.f36
noncomputable def Ffa_E:Env:=mkE Tryz.prog [(53,Ffo_ent),(86,Ffcd_ent),(85,Ffcg_ent),(84,Ffq_ent)]
def Ffa_Q (x:Contract×(List Entry)×Int)(r:(List Entry)×Bool):St→Prop:=QF Ffa_E Tryz.f36 [false,false,false] (Ffa_A x) (Ffa_R r)
theorem Ffa_run (c_1:Contract)(trace_2:List Entry)(party_3:Int)(r:(List Entry)×Bool)(h:Ffa c_1 trace_2 party_3=some r):RunF Ffa_E Tryz.f36 [false,false,false] 0 (Ffa_A (c_1,trace_2,party_3)) (Ffa_R r):=by
 show Run _ _ (Ffa_Q (c_1,trace_2,party_3) r) [.code Ffa_c] _
 refine rI 25 [(0,.agg [.isl false (c_1.Parties.map str),.isl false (c_1.Clauses.map encI_Clause)]),(1,.isl false (trace_2.map enc_Entry)),(2,I party_3)] [] 1 ?_
 unfold Ffa at h
 refine ck 12 [3,5,8,9] [] [1,17] [] [.hp 1 0 [] 2 0 0,.hp 17 0 [] 1 0 0,.agg [.isl false (c_1.Parties.map str),.isl false (c_1.Clauses.map encI_Clause)],.isl false (trace_2.map enc_Entry)] [some ⟨0,2,[.agg [.isl false (c_1.Parties.map str),.isl false (c_1.Clauses.map encI_Clause)]]⟩,some ⟨0,1,[I party_3]⟩] 97 (by kernel_rfl) ?_
 obtain⟨r4,hr4,h⟩:=bS h
 refine oq 113 (B r4) rfl (cP (Ffo_F hr4)) ?_
 refine cq 2 [12] [B (!r4)] 145 ?_
 obtain⟨y5,hy5,hy51,hy52⟩:=bJ h
 have j5:∀u5,y5=.inr u5→Run Ffa_E 0 (Ffa_Q (c_1,trace_2,party_3) r) (.code (cR (cL (cR Ffa_c)))::.code (cR (cR Ffa_c))::[]) (sT 25 [(1,.isl false (trace_2.map enc_Entry)),(5,.hp 1 0 [] 1 0 0),(20,B u5)] [⟨0,1,[I party_3]⟩] 2):=by
  intro u5 hu
  replace h:=hy52 u5 hu
  refine sq h (fun h=>?_) fun h=>?_
  ·refine cq 5 [6,7] [.isl true [],B false] 34 ?_
   refine run_own 6 0 4 50 (.hs 34 0 [] 4 0 0) rfl rfl rfl rfl rfl ?_
   obtain rfl:=Option.some.inj h
   exact s_ret rfl ⟨_,fin (vs:=[.hs 34 0 [] 4 0 0,B false]) rfl (absE (abs1 rfl (abs_hs (k:=0) (es:=[]) rfl rfl)) (absE (absorb_plain rfl) absEN)) rfl (ou_f (ou_f (ou_f ou_n))),kl_n⟩
  ·refine aq 1 ?_
   refine cq 3 [21] [.isl false (trace_2.map enc_Entry)] 18 ?_
   obtain⟨r6,hr6,h⟩:=bS h
   refine oq 34 (.hs 18 0 [] 4 0 (r6.map enc_Entry).length) rfl (cP (Ffcd_F hr6)) ?_
   refine cq 1 [23] [.fn 87 [.hp 1 0 [] 1 0 0]] 50 ?_
   obtain⟨r7,hr7,h⟩:=bS h
   refine oq 66 (.hs 50 0 [] 4 0 (r7.map enc_Entry).length) rfl (e_callV rfl rfl (call_P rfl rfl rfl (avO (hd1 rfl (hd_hs (path:=[]) rfl rfl ra_n rfl)) (avS (shF (shC (shp_at (path:=[]) rfl rfl ra_n rfl rfl) shN)) avN)) (Ffcg_F hr7) (.inl (by simp[hasImm,hasImms,str,himm_map (f:=enc_Entry) enc_Entry_himm])) (bl_c rfl rfl rfl bk_dead bl_n) rfl rfl rfl)) ?_
   refine cq 3 [6,7] [.hs 50 0 [] 4 0 (r7.map enc_Entry).length,B true] 98 ?_
   obtain rfl:=Option.some.inj h
   exact s_ret rfl ⟨_,fin (vs:=[.hs 50 0 [] 4 0 (r7.map enc_Entry).length,B true]) rfl (absE (abs1 rfl (abs_hs rfl rfl)) (absE (absorb_plain rfl) absEN)) rfl (ou_f (ou_f (ou_f ou_n))),kl_n⟩
 have r5:∀r',y5=.inl r'→∀st,Ffa_Q (c_1,trace_2,party_3) r' st→(Ffa_Q (c_1,trace_2,party_3) r) st:=fun r' e st hq=>by rw[hy51 r' e] at hq;exact hq
 replace h:=hy5
 refine sp 12 h rfl (fun h=>?_) fun h=>?_
 ·refine cq 9 [20] [B true] 273 ?_
  exact rf [1,5,20] [17] (j5 _ (Option.some.inj h).symm :)
 ·refine cq 3 [13,15] [I party_3,.isl false (c_1.Parties.map str)] 193 ?_
  refine oy 209 (I (len c_1.Parties)) rfl (e_len rfl rfl rfl (l_isl rfl)) ?_
  refine cq 1 [17] [I (w64 ((len c_1.Parties) - 1))] 225 ?_
  obtain⟨r8,hr8,h⟩:=bS h
  refine oy 241 (B r8) rfl (cP (Ffq_F hr8)) ?_
  refine cq 3 [20] [B (!r8)] 273 ?_
  exact rf [1,5,20] [17] (j5 _ (Option.some.inj h).symm :)
theorem Ffa_good {G:Go.Ln.Ground}:Good Tryz.prog G 36 Ffa_ent:=gT 3 0 (gl_c Ffo_good (gl_c Ffcd_good (gl_c Ffcg_good (gl_c Ffq_good gl_n)))) (Checked.mixed Tryz.checked) Tryz.func36 (fun a r h=>Ffa_run a.1 a.2.1 a.2.2 r h)
def Ffz_A:(Entry×Entry)→List V:=cA enc_Entry (oA enc_Entry)
def Ffz_R (r:Bool):V×List V:=(B r,[])
noncomputable def Ffz_ent:Ent:=entT [false,false] Ffz_A Ffz_R fun x=>Ffz x.1 x.2
theorem Ffz_F {a_1:Entry}{b_2:Entry}{r}(h:Ffz a_1 b_2=some r):Ffz_ent.F (Ffz_A (a_1,b_2))=some (Ffz_R r):=entT_F (cA_inj enc_Entry_inj (oA_inj enc_Entry_inj)) h
noncomputable def Ffz_c:Code:=bodyOf Tryz.f58
noncomputable def Ffz_E:Env:=mkE Tryz.prog []
def Ffz_Q (x:Entry×Entry)(r:Bool):St→Prop:=QF Ffz_E Tryz.f58 [false,false] (Ffz_A x) (Ffz_R r)
theorem Ffz_run (a_1:Entry)(b_2:Entry)(r:Bool)(h:Ffz a_1 b_2=some r):RunF Ffz_E Tryz.f58 [false,false] 0 (Ffz_A (a_1,b_2)) (Ffz_R r):=by
 show Run _ _ (Ffz_Q (a_1,b_2) r) [.code Ffz_c] _
 refine rI 25 [(0,enc_Entry a_1),(1,enc_Entry b_2)] [] 1 ?_
 unfold Ffz at h
 refine ck 15 [2,3,9] [] [1,17] [] [.hp 1 0 [] 4 0 0,.hp 17 0 [] 4 0 0,B (a_1.Day != b_2.Day)] [some ⟨0,4,[enc_Entry a_1]⟩,some ⟨0,4,[enc_Entry b_2]⟩] 129 (by kernel_rfl) ?_
 refine sq h (fun h=>?_) fun h=>?_
 ·refine cq 4 [4] [B false] 145 ?_
  obtain rfl:=Option.some.inj h
  exact s_ret rfl (qp [B false])
 ·refine aq 1 ?_
  refine cq 9 [14] [B (a_1.Kind != b_2.Kind)] 209 ?_
  refine sq h (fun h=>?_) fun h=>?_
  ·refine cq 4 [4] [B false] 225 ?_
   obtain rfl:=Option.some.inj h
   exact s_ret rfl (qp [B false])
  ·refine aq 1 ?_
   refine cq 9 [19] [B (a_1.Clause != b_2.Clause)] 289 ?_
   refine sq h (fun h=>?_) fun h=>?_
   ·refine cq 4 [4] [B false] 305 ?_
    obtain rfl:=Option.some.inj h
    exact s_ret rfl (qp [B false])
   ·refine aq 1 ?_
    refine cq 9 [24] [B (a_1.Party != b_2.Party)] 369 ?_
    refine sq h (fun h=>?_) fun h=>?_
    ·refine cq 4 [4] [B false] 385 ?_
     obtain rfl:=Option.some.inj h
     exact s_ret rfl (qp [B false])
    ·refine aq 1 ?_
     refine cq 4 [4] [B true] 385 ?_
     obtain rfl:=Option.some.inj h
     exact s_ret rfl (qp [B true])
theorem Ffz_good {G:Go.Ln.Ground}:Good Tryz.prog G 58 Ffz_ent:=gT 2 0 gl_n (Checked.mixed Tryz.checked) Tryz.func58 (fun a r h=>Ffz_run a.1 a.2 r h)
def Ffba_A:((List Entry)×(List Entry))→List V:=cA (slE enc_Entry) (oA (slE enc_Entry))
def Ffba_R (r:Bool):V×List V:=(B r,[])
noncomputable def Ffba_ent:Ent:=entT [false,false] Ffba_A Ffba_R fun x=>Ffba x.1 x.2
theorem Ffba_F {a_1:List Entry}{b_2:List Entry}{r}(h:Ffba a_1 b_2=some r):Ffba_ent.F (Ffba_A (a_1,b_2))=some (Ffba_R r):=entT_F (cA_inj (isl_inj enc_Entry_inj) (oA_inj (isl_inj enc_Entry_inj))) h
noncomputable def Ffba_c:Code:=bodyOf Tryz.f17
noncomputable def Ffba_E:Env:=mkE Tryz.prog [(58,Ffz_ent)]
def Ffba_Q (x:(List Entry)×(List Entry))(r:Bool):St→Prop:=QF Ffba_E Tryz.f17 [false,false] (Ffba_A x) (Ffba_R r)
theorem Ffba_la_run (a_1:List Entry)(b_2:List Entry){Q:St→Prop}{K:List It}(hK:noD K=true):∀(x3:Int) (y:Bool⊕Unit),Ffba_la a_1 b_2 x3=some y→(∀r',y=.inl r'→∀st,Ffba_Q (a_1,b_2) r' st→Q st)→(∀u:Unit,y=.inr u→Run Ffba_E 0 Q K (sT 27 [] [] 1))→Run Ffba_E 0 Q (.code (cL (cL (cR (cL (cR (cR Ffba_c))))))::.lp (cL (cL (cR (cL (cR (cR Ffba_c))))))::.blk 0::K) (sT 27 [(0,.isl false (a_1.map enc_Entry)),(1,.isl false (b_2.map enc_Entry)),(5,I x3)] [] 1):=by
 refine fix_indP (Ffba_la_fin a_1 b_2) ?_
 intro self ih x3 y h hr hn
 unfold Ffba_la_F at h
 refine cq 5 [11,12] [I x3,.isl false (a_1.map enc_Entry)] 33 ?_
 refine oq 49 (I (len a_1)) rfl (e_len rfl rfl rfl (l_isl rfl)) ?_
 refine cq 2 [14] [B (decide (x3<(len a_1)))] 65 ?_
 refine sq h (fun h=>?_) fun h=>?_
 ·refine aq 1 ?_
  refine aq 3 ?_
  refine s_draw [0,0,3,7,0,0,48,112,255,511] rfl (by decide +kernel) ?_
  refine dk 2 [18,17] [I x3,.isl false (a_1.map enc_Entry)] ?_
  obtain⟨e4,he4,h⟩:=bS h
  refine dq [] [] (.iptr (enc_Entry e4) 0) rfl (e_indexAddr rfl rfl rfl (ix_islE rfl rfl rfl rfl he4)) ?_
  refine dq [] [] (enc_Entry e4) rfl (e_ld rfl rfl) ?_
  refine dk 2 [22,21] [I x3,.isl false (b_2.map enc_Entry)] ?_
  obtain⟨e5,he5,h⟩:=bS h
  refine dq [] [] (.iptr (enc_Entry e5) 0) rfl (e_indexAddr rfl rfl rfl (ix_islE rfl rfl rfl rfl he5)) ?_
  refine dq [] [] (enc_Entry e5) rfl (e_ld rfl rfl) ?_
  obtain⟨r6,hr6,h⟩:=bS h
  refine dq [] [] (B r6) rfl (cP (Ffz_F hr6)) ?_ (w_callO rfl rfl rfl rfl (avS (shP rfl) (avS (shP rfl) avN)) (Ffz_F hr6) (.inr rfl) rfl)
  refine dk 1 [26] [B (!r6)] ?_
  refine de 225 rfl rfl ?_
  refine sq h (fun h=>?_) fun h=>?_
  ·refine cq 4 [4] [B false] 241 ?_
   exact s_ret rfl (hr _ (Option.some.inj h).symm _ (qp [B false]))
  ·refine aq 1 ?_
   refine cq 6 [5] [I (w64 (x3+1))] 273 ?_
   refine s_lp ?_
   exact rf [0,1,5] [] (ih _ _ h hr hn :)
 ·refine aq 1 ?_
  exact rf [] [] (hn _ (Option.some.inj h).symm :) (hk:=hK)
theorem Ffba_run (a_1:List Entry)(b_2:List Entry)(r:Bool)(h:Ffba a_1 b_2=some r):RunF Ffba_E Tryz.f17 [false,false] 0 (Ffba_A (a_1,b_2)) (Ffba_R r):=by
 show Run _ _ (Ffba_Q (a_1,b_2) r) [.code Ffba_c] _
 refine rI 27 [(0,.isl false (a_1.map enc_Entry)),(1,.isl false (b_2.map enc_Entry))] [] 1 ?_
 unfold Ffba at h
 refine cq 8 [6] [.isl false (a_1.map enc_Entry)] 33 ?_
 refine oq 49 (I (len a_1)) rfl (e_len rfl rfl rfl (l_isl rfl)) ?_
 refine cq 1 [8] [.isl false (b_2.map enc_Entry)] 65 ?_
 refine oq 81 (I (len b_2)) rfl (e_len rfl rfl rfl (l_isl rfl)) ?_
 refine cq 2 [10] [B ((len a_1) != (len b_2))] 97 ?_
 refine sq h (fun h=>?_) fun h=>?_
 ·refine cq 4 [4] [B false] 113 ?_
  obtain rfl:=Option.some.inj h
  exact s_ret rfl (qp [B false])
 ·refine aq 1 ?_
  refine cq 6 [5] [I (0)] 113 ?_
  obtain⟨y7,hy7,hy71,hy72⟩:=bJ h
  refine s_loop rfl ?_
  refine rf [0,1,5] [] (Ffba_la_run a_1 b_2 rfl 0 _ hy7 (fun r' e st hq=>by rw[hy71 r' e] at hq;exact hq) fun u7 hu=>?_)
  replace h:=hy72 u7 hu
  refine cq 4 [4] [B true] 17 ?_
  obtain rfl:=Option.some.inj h
  exact s_ret rfl (qp [B true])
theorem Ffba_good {G:Go.Ln.Ground}:Good Tryz.prog G 17 Ffba_ent:=gT 2 0 (gl_c Ffz_good gl_n) (Checked.mixed Tryz.checked) Tryz.func17 (fun a r h=>Ffba_run a.1 a.2 r h)
def Ffbb_A:((List Str)×(List Str))→List V:=cA (slE str) (oA (slE str))
def Ffbb_R (r:Bool):V×List V:=(B r,[])
noncomputable def Ffbb_ent:Ent:=entT [false,false] Ffbb_A Ffbb_R fun x=>Ffbb x.1 x.2
theorem Ffbb_F {a_1:List Str}{b_2:List Str}{r}(h:Ffbb a_1 b_2=some r):Ffbb_ent.F (Ffbb_A (a_1,b_2))=some (Ffbb_R r):=entT_F (cA_inj (isl_inj str_inj) (oA_inj (isl_inj str_inj))) h
noncomputable def Ffbb_c:Code:=bodyOf Tryz.f56
noncomputable def Ffbb_E:Env:=mkE Tryz.prog []
def Ffbb_Q (x:(List Str)×(List Str))(r:Bool):St→Prop:=QF Ffbb_E Tryz.f56 [false,false] (Ffbb_A x) (Ffbb_R r)
theorem Ffbb_la_run (a_1:List Str)(b_2:List Str){Q:St→Prop}{K:List It}(hK:noD K=true):∀(x3:Int) (y:Bool⊕Unit),Ffbb_la a_1 b_2 x3=some y→(∀r',y=.inl r'→∀st,Ffbb_Q (a_1,b_2) r' st→Q st)→(∀u:Unit,y=.inr u→Run Ffbb_E 0 Q K (sT 26 [] [] 1))→Run Ffbb_E 0 Q (.code (cL (cL (cR (cL (cR (cR Ffbb_c))))))::.lp (cL (cL (cR (cL (cR (cR Ffbb_c))))))::.blk 0::K) (sT 26 [(0,.isl false (a_1.map str)),(1,.isl false (b_2.map str)),(5,I x3)] [] 1):=by
 refine fix_indP (Ffbb_la_fin a_1 b_2) ?_
 intro self ih x3 y h hr hn
 unfold Ffbb_la_F at h
 refine cq 5 [11,12] [I x3,.isl false (a_1.map str)] 33 ?_
 refine oq 49 (I (len a_1)) rfl (e_len rfl rfl rfl (l_isl rfl)) ?_
 refine cq 2 [14] [B (decide (x3<(len a_1)))] 65 ?_
 refine sq h (fun h=>?_) fun h=>?_
 ·refine aq 1 ?_
  refine aq 3 ?_
  refine s_draw [0,0,3,7,0,0,48,112,255] rfl (by decide +kernel) ?_
  refine dk 2 [18,17] [I x3,.isl false (a_1.map str)] ?_
  obtain⟨e4,he4,h⟩:=bS h
  refine dq [] [] (.iptr (str e4) 0) rfl (e_indexAddr rfl rfl rfl (ix_islE rfl rfl rfl rfl he4)) ?_
  refine dq [] [] (str e4) rfl (e_ld rfl rfl) ?_
  refine dk 2 [22,21] [I x3,.isl false (b_2.map str)] ?_
  obtain⟨e5,he5,h⟩:=bS h
  refine dq [] [] (.iptr (str e5) 0) rfl (e_indexAddr rfl rfl rfl (ix_islE rfl rfl rfl rfl he5)) ?_
  refine dq [] [] (str e5) rfl (e_ld rfl rfl) ?_
  refine dk 1 [25] [B (!(e4==e5))] ?_
  refine de 209 rfl rfl ?_
  refine sq h (fun h=>?_) fun h=>?_
  ·refine cq 4 [4] [B false] 225 ?_
   exact s_ret rfl (hr _ (Option.some.inj h).symm _ (qp [B false]))
  ·refine aq 1 ?_
   refine cq 6 [5] [I (w64 (x3+1))] 257 ?_
   refine s_lp ?_
   exact rf [0,1,5] [] (ih _ _ h hr hn :)
 ·refine aq 1 ?_
  exact rf [] [] (hn _ (Option.some.inj h).symm :) (hk:=hK)
theorem Ffbb_run (a_1:List Str)(b_2:List Str)(r:Bool)(h:Ffbb a_1 b_2=some r):RunF Ffbb_E Tryz.f56 [false,false] 0 (Ffbb_A (a_1,b_2)) (Ffbb_R r):=by
 show Run _ _ (Ffbb_Q (a_1,b_2) r) [.code Ffbb_c] _
 refine rI 26 [(0,.isl false (a_1.map str)),(1,.isl false (b_2.map str))] [] 1 ?_
 unfold Ffbb at h
 refine cq 8 [6] [.isl false (a_1.map str)] 33 ?_
 refine oq 49 (I (len a_1)) rfl (e_len rfl rfl rfl (l_isl rfl)) ?_
 refine cq 1 [8] [.isl false (b_2.map str)] 65 ?_
 refine oq 81 (I (len b_2)) rfl (e_len rfl rfl rfl (l_isl rfl)) ?_
 refine cq 2 [10] [B ((len a_1) != (len b_2))] 97 ?_
 refine sq h (fun h=>?_) fun h=>?_
 ·refine cq 4 [4] [B false] 113 ?_
  obtain rfl:=Option.some.inj h
  exact s_ret rfl (qp [B false])
 ·refine aq 1 ?_
  refine cq 6 [5] [I (0)] 113 ?_
  obtain⟨y6,hy6,hy61,hy62⟩:=bJ h
  refine s_loop rfl ?_
  refine rf [0,1,5] [] (Ffbb_la_run a_1 b_2 rfl 0 _ hy6 (fun r' e st hq=>by rw[hy61 r' e] at hq;exact hq) fun u6 hu=>?_)
  replace h:=hy62 u6 hu
  refine cq 4 [4] [B true] 17 ?_
  obtain rfl:=Option.some.inj h
  exact s_ret rfl (qp [B true])
theorem Ffbb_good {G:Go.Ln.Ground}:Good Tryz.prog G 56 Ffbb_ent:=gT 2 0 gl_n (Checked.mixed Tryz.checked) Tryz.func56 (fun a r h=>Ffbb_run a.1 a.2 r h)
def Ffv_A:(Condition×Condition)→List V:=cA encI_Condition1 (oA encI_Condition1)
def Ffv_R (r:Bool):V×List V:=(B r,[])
noncomputable def Ffv_entS (slf_Ffv:(Condition×Condition)→Option Bool):Ent:=entT [false,false] Ffv_A Ffv_R slf_Ffv
theorem Ffv_FS (slf_Ffv:(Condition×Condition)→Option Bool){x}{r}(h:slf_Ffv x=some r):(Ffv_entS slf_Ffv).F (Ffv_A x)=some (Ffv_R r):=entT_F (cA_inj encI_Condition1_inj (oA_inj encI_Condition1_inj)) h
def Ffx_A:((List Condition)×(List Condition))→List V:=cA (slE encI_Condition) (oA (slE encI_Condition))
def Ffx_R (r:Bool):V×List V:=(B r,[])
noncomputable def Ffx_ent (slf_Ffv:(Condition×Condition)→Option Bool):Ent:=entT [false,false] Ffx_A Ffx_R fun x=>Ffx slf_Ffv x.1 x.2
theorem Ffx_F (slf_Ffv:(Condition×Condition)→Option Bool){a_1:List Condition}{b_2:List Condition}{r}(h:Ffx slf_Ffv a_1 b_2=some r):(Ffx_ent slf_Ffv).F (Ffx_A (a_1,b_2))=some (Ffx_R r):=entT_F (cA_inj (isl_inj encI_Condition_inj) (oA_inj (isl_inj encI_Condition_inj))) h
noncomputable def Ffx_c:Code:=bodyOf Tryz.f166
noncomputable def Ffx_E (slf_Ffv:(Condition×Condition)→Option Bool):Env:=mkE Tryz.prog [(139,(Ffv_entS slf_Ffv))]
def Ffx_Q (slf_Ffv:(Condition×Condition)→Option Bool)(x:(List Condition)×(List Condition))(r:Bool):St→Prop:=QF (Ffx_E slf_Ffv) Tryz.f166 [false,false] (Ffx_A x) (Ffx_R r)
theorem Ffx_la_run (slf_Ffv:(Condition×Condition)→Option Bool)(a_1:List Condition)(b_2:List Condition){Q:St→Prop}{K:List It}(hK:noD K=true):∀(x3:Int) (y:Bool⊕Unit),Ffx_la slf_Ffv a_1 b_2 x3=some y→(∀r',y=.inl r'→∀st,Ffx_Q slf_Ffv (a_1,b_2) r' st→Q st)→(∀u:Unit,y=.inr u→Run (Ffx_E slf_Ffv) 0 Q K (sT 27 [] [] 1))→Run (Ffx_E slf_Ffv) 0 Q (.code (cL (cL (cR (cL (cR (cR Ffx_c))))))::.lp (cL (cL (cR (cL (cR (cR Ffx_c))))))::.blk 0::K) (sT 27 [(0,.isl false (a_1.map encI_Condition)),(1,.isl false (b_2.map encI_Condition)),(5,I x3)] [] 1):=by
 refine fix_indP (Ffx_la_fin slf_Ffv a_1 b_2) ?_
 intro self ih x3 y h hr hn
 unfold Ffx_la_F at h
 refine cq 5 [11,12] [I x3,.isl false (a_1.map encI_Condition)] 33 ?_
 refine oq 49 (I (len a_1)) rfl (e_len rfl rfl rfl (l_isl rfl)) ?_
 refine cq 2 [14] [B (decide (x3<(len a_1)))] 65 ?_
 refine sq h (fun h=>?_) fun h=>?_
 ·refine aq 1 ?_
  refine aq 3 ?_
  refine s_draw [0,0,3,7,0,0,48,112,255,511] rfl (by decide +kernel) ?_
  refine dk 2 [18,17] [I x3,.isl false (a_1.map encI_Condition)] ?_
  obtain⟨e4,he4,h⟩:=bS h
  refine dq [] [] (.iptr (.agg [I e4.Op,str e4.Name,I e4.Day,.isl false (e4.Parts.map encI_Condition)]) 0) rfl (e_indexAddr rfl rfl rfl (ix_islE rfl rfl (encI_Condition_eq e4) rfl he4)) ?_
  refine dq [] [] (.agg [I e4.Op,str e4.Name,I e4.Day,.isl false (e4.Parts.map encI_Condition)]) rfl (e_ld rfl rfl) ?_
  refine dk 2 [22,21] [I x3,.isl false (b_2.map encI_Condition)] ?_
  obtain⟨e5,he5,h⟩:=bS h
  refine dq [] [] (.iptr (.agg [I e5.Op,str e5.Name,I e5.Day,.isl false (e5.Parts.map encI_Condition)]) 0) rfl (e_indexAddr rfl rfl rfl (ix_islE rfl rfl (encI_Condition_eq e5) rfl he5)) ?_
  refine dq [] [] (.agg [I e5.Op,str e5.Name,I e5.Day,.isl false (e5.Parts.map encI_Condition)]) rfl (e_ld rfl rfl) ?_
  obtain⟨r6,hr6,h⟩:=bS h
  refine dq [] [] (B r6) rfl (e_callV rfl rfl (call_P rfl rfl rfl (avS (shP rfl) (avS (shP rfl) avN)) (Ffv_FS slf_Ffv hr6) (.inr rfl) bl_n rfl rfl rfl)) ?_ (w_callO rfl rfl rfl rfl (avS (shP rfl) (avS (shP rfl) avN)) (Ffv_FS slf_Ffv hr6) (.inr rfl) rfl)
  refine dk 1 [26] [B (!r6)] ?_
  refine de 225 rfl rfl ?_
  refine sq h (fun h=>?_) fun h=>?_
  ·refine cq 4 [4] [B false] 241 ?_
   exact s_ret rfl (hr _ (Option.some.inj h).symm _ (qp [B false]))
  ·refine aq 1 ?_
   refine cq 6 [5] [I (w64 (x3+1))] 273 ?_
   refine s_lp ?_
   exact rf [0,1,5] [] (ih _ _ h hr hn :)
 ·refine aq 1 ?_
  exact rf [] [] (hn _ (Option.some.inj h).symm :) (hk:=hK)
theorem Ffx_run (slf_Ffv:(Condition×Condition)→Option Bool)(a_1:List Condition)(b_2:List Condition)(r:Bool)(h:Ffx slf_Ffv a_1 b_2=some r):RunF (Ffx_E slf_Ffv) Tryz.f166 [false,false] 0 (Ffx_A (a_1,b_2)) (Ffx_R r):=by
 show Run _ _ (Ffx_Q slf_Ffv (a_1,b_2) r) [.code Ffx_c] _
 refine rI 27 [(0,.isl false (a_1.map encI_Condition)),(1,.isl false (b_2.map encI_Condition))] [] 1 ?_
 unfold Ffx at h
 refine cq 8 [6] [.isl false (a_1.map encI_Condition)] 33 ?_
 refine oq 49 (I (len a_1)) rfl (e_len rfl rfl rfl (l_isl rfl)) ?_
 refine cq 1 [8] [.isl false (b_2.map encI_Condition)] 65 ?_
 refine oq 81 (I (len b_2)) rfl (e_len rfl rfl rfl (l_isl rfl)) ?_
 refine cq 2 [10] [B ((len a_1) != (len b_2))] 97 ?_
 refine sq h (fun h=>?_) fun h=>?_
 ·refine cq 4 [4] [B false] 113 ?_
  obtain rfl:=Option.some.inj h
  exact s_ret rfl (qp [B false])
 ·refine aq 1 ?_
  refine cq 6 [5] [I (0)] 113 ?_
  obtain⟨y7,hy7,hy71,hy72⟩:=bJ h
  refine s_loop rfl ?_
  refine rf [0,1,5] [] (Ffx_la_run slf_Ffv a_1 b_2 rfl 0 _ hy7 (fun r' e st hq=>by rw[hy71 r' e] at hq;exact hq) fun u7 hu=>?_)
  replace h:=hy72 u7 hu
  refine cq 4 [4] [B true] 17 ?_
  obtain rfl:=Option.some.inj h
  exact s_ret rfl (qp [B true])
theorem Ffx_good {G:Go.Ln.Ground}(slf_Ffv:(Condition×Condition)→Option Bool)(g_Ffv:Good Tryz.prog G 139 (Ffv_entS slf_Ffv)):Good Tryz.prog G 166 (Ffx_ent slf_Ffv):=gT 2 0 (gl_c g_Ffv gl_n) (Checked.mixed Tryz.checked) Tryz.func166 (fun a r h=>Ffx_run slf_Ffv a.1 a.2 r h)
noncomputable def Ffv_ent:Ent:=Ffv_entS (fixO Ffv_G)
theorem Ffv_F {a_1:Condition}{b_2:Condition}{r}(h:Ffv a_1 b_2=some r):Ffv_ent.F (Ffv_A (a_1,b_2))=some (Ffv_R r):=Ffv_FS (fixO Ffv_G) h
noncomputable def Ffv_c:Code:=bodyOf Tryz.f139
noncomputable def Ffv_E (slf_Ffv:(Condition×Condition)→Option Bool):Env:=mkE Tryz.prog [(166,(Ffx_ent slf_Ffv))]
def Ffv_Q (slf_Ffv:(Condition×Condition)→Option Bool)(x:Condition×Condition)(r:Bool):St→Prop:=QF (Ffv_E slf_Ffv) Tryz.f139 [false,false] (Ffv_A x) (Ffv_R r)
theorem Ffv_run (slf_Ffv:(Condition×Condition)→Option Bool)(a_1:Condition)(b_2:Condition)(r:Bool)(h:Ffv_B slf_Ffv a_1 b_2=some r):RunF (Ffv_E slf_Ffv) Tryz.f139 [false,false] 0 (Ffv_A (a_1,b_2)) (Ffv_R r):=by
 show Run _ _ (Ffv_Q slf_Ffv (a_1,b_2) r) [.code Ffv_c] _
 refine rI 26 [(0,.agg [I a_1.Op,str a_1.Name,I a_1.Day,.isl false (a_1.Parts.map encI_Condition)]),(1,.agg [I b_2.Op,str b_2.Name,I b_2.Day,.isl false (b_2.Parts.map encI_Condition)])] [] 1 ?_
 unfold Ffv_B at h
 refine ck 15 [2,3,9] [] [1,17] [] [.hp 1 0 [] 4 0 0,.hp 17 0 [] 4 0 0,B (a_1.Op != b_2.Op)] [some ⟨0,4,[.agg [I a_1.Op,str a_1.Name,I a_1.Day,.isl false (a_1.Parts.map encI_Condition)]]⟩,some ⟨0,4,[.agg [I b_2.Op,str b_2.Name,I b_2.Day,.isl false (b_2.Parts.map encI_Condition)]]⟩] 129 (by kernel_rfl) ?_
 refine sq h (fun h=>?_) fun h=>?_
 ·refine cq 4 [4] [B false] 145 ?_
  obtain rfl:=Option.some.inj h
  exact s_ret rfl (qp [B false])
 ·refine aq 1 ?_
  refine cq 9 [14] [B (!(a_1.Name==b_2.Name))] 209 ?_
  refine sq h (fun h=>?_) fun h=>?_
  ·refine cq 4 [4] [B false] 225 ?_
   obtain rfl:=Option.some.inj h
   exact s_ret rfl (qp [B false])
  ·refine aq 1 ?_
   refine cq 9 [19] [B (a_1.Day != b_2.Day)] 289 ?_
   refine sq h (fun h=>?_) fun h=>?_
   ·refine cq 4 [4] [B false] 305 ?_
    obtain rfl:=Option.some.inj h
    exact s_ret rfl (qp [B false])
   ·refine aq 1 ?_
    refine cq 7 [21,23] [.isl false (a_1.Parts.map encI_Condition),.isl false (b_2.Parts.map encI_Condition)] 353 ?_
    obtain⟨r3,hr3,h⟩:=bS h
    refine oq 369 (B r3) rfl (e_callV rfl rfl (call_P rfl rfl rfl (avS (shP rfl) (avS (shP rfl) avN)) (Ffx_F slf_Ffv hr3) (.inr rfl) bl_n rfl rfl rfl)) ?_
    refine cq 2 [25] [B (!r3)] 385 ?_
    refine sq h (fun h=>?_) fun h=>?_
    ·refine cq 4 [4] [B false] 401 ?_
     obtain rfl:=Option.some.inj h
     exact s_ret rfl (qp [B false])
    ·refine aq 1 ?_
     refine cq 4 [4] [B true] 401 ?_
     obtain rfl:=Option.some.inj h
     exact s_ret rfl (qp [B true])
theorem Ffv_good {G:Go.Ln.Ground}:Good Tryz.prog G 139 Ffv_ent:=good_rec fun slf_Ffv g_Ffv=>gT 2 0 (gl_c (Ffx_good slf_Ffv g_Ffv) gl_n) (Checked.mixed Tryz.checked) Tryz.func139 (fun a r h=>Ffv_run slf_Ffv a.1 a.2 r h)
noncomputable def Ffw_ent:Ent:=Ffx_ent (fixO Ffv_G)
theorem Ffw_F {a_1:List Condition}{b_2:List Condition}{r}(h:Ffw a_1 b_2=some r):Ffw_ent.F (Ffx_A (a_1,b_2))=some (Ffx_R r):=Ffx_F (fixO Ffv_G) h
theorem Ffw_good {G:Go.Ln.Ground}:Good Tryz.prog G 166 Ffw_ent:=Ffx_good (fixO Ffv_G) Ffv_good
def Fft_A:(Clause×Clause)→List V:=cA encI_Clause (oA encI_Clause)
def Fft_R (r:Bool):V×List V:=(B r,[])
noncomputable def Fft_ent:Ent:=entT [false,false] Fft_A Fft_R fun x=>Fft x.1 x.2
theorem Fft_F {a_1:Clause}{b_2:Clause}{r}(h:Fft a_1 b_2=some r):Fft_ent.F (Fft_A (a_1,b_2))=some (Fft_R r):=entT_F (cA_inj encI_Clause_inj (oA_inj encI_Clause_inj)) h
noncomputable def Fft_c:Code:=bodyOf Tryz.f98
noncomputable def Fft_E:Env:=mkE Tryz.prog [(139,Ffv_ent)]
def Fft_Q (x:Clause×Clause)(r:Bool):St→Prop:=QF Fft_E Tryz.f98 [false,false] (Fft_A x) (Fft_R r)
theorem Fft_run (a_1:Clause)(b_2:Clause)(r:Bool)(h:Fft a_1 b_2=some r):RunF Fft_E Tryz.f98 [false,false] 0 (Fft_A (a_1,b_2)) (Fft_R r):=by
 show Run _ _ (Fft_Q (a_1,b_2) r) [.code Fft_c] _
 refine rI 51 [(0,.agg [str a_1.Id,I a_1.Kind,I a_1.Party,str a_1.Action,I a_1.Other,I a_1.Amount,I a_1.When.Op,str a_1.When.Name,I a_1.When.Day,.isl false (a_1.When.Parts.map encI_Condition),I a_1.Within,str a_1.Repair]),(1,.agg [str b_2.Id,I b_2.Kind,I b_2.Party,str b_2.Action,I b_2.Other,I b_2.Amount,I b_2.When.Op,str b_2.When.Name,I b_2.When.Day,.isl false (b_2.When.Parts.map encI_Condition),I b_2.Within,str b_2.Repair])] [] 1 ?_
 unfold Fft at h
 refine ck 15 [2,3,9] [] [1,17] [] [.hp 1 0 [] 12 0 0,.hp 17 0 [] 12 0 0,B (!(a_1.Id==b_2.Id))] [some ⟨0,12,[.agg [str a_1.Id,I a_1.Kind,I a_1.Party,str a_1.Action,I a_1.Other,I a_1.Amount,I a_1.When.Op,str a_1.When.Name,I a_1.When.Day,.isl false (a_1.When.Parts.map encI_Condition),I a_1.Within,str a_1.Repair]]⟩,some ⟨0,12,[.agg [str b_2.Id,I b_2.Kind,I b_2.Party,str b_2.Action,I b_2.Other,I b_2.Amount,I b_2.When.Op,str b_2.When.Name,I b_2.When.Day,.isl false (b_2.When.Parts.map encI_Condition),I b_2.Within,str b_2.Repair]]⟩] 129 (by kernel_rfl) ?_
 refine sq h (fun h=>?_) fun h=>?_
 ·refine cq 4 [4] [B false] 145 ?_
  obtain rfl:=Option.some.inj h
  exact s_ret rfl (qp [B false])
 ·refine aq 1 ?_
  refine cq 9 [14] [B (a_1.Kind != b_2.Kind)] 209 ?_
  refine sq h (fun h=>?_) fun h=>?_
  ·refine cq 4 [4] [B false] 225 ?_
   obtain rfl:=Option.some.inj h
   exact s_ret rfl (qp [B false])
  ·refine aq 1 ?_
   refine cq 9 [19] [B (a_1.Party != b_2.Party)] 289 ?_
   refine sq h (fun h=>?_) fun h=>?_
   ·refine cq 4 [4] [B false] 305 ?_
    obtain rfl:=Option.some.inj h
    exact s_ret rfl (qp [B false])
   ·refine aq 1 ?_
    refine cq 9 [24] [B (!(a_1.Action==b_2.Action))] 369 ?_
    refine sq h (fun h=>?_) fun h=>?_
    ·refine cq 4 [4] [B false] 385 ?_
     obtain rfl:=Option.some.inj h
     exact s_ret rfl (qp [B false])
    ·refine aq 1 ?_
     refine cq 9 [29] [B (a_1.Other != b_2.Other)] 449 ?_
     refine sq h (fun h=>?_) fun h=>?_
     ·refine cq 4 [4] [B false] 465 ?_
      obtain rfl:=Option.some.inj h
      exact s_ret rfl (qp [B false])
     ·refine aq 1 ?_
      refine cq 9 [34] [B (a_1.Amount != b_2.Amount)] 529 ?_
      refine sq h (fun h=>?_) fun h=>?_
      ·refine cq 4 [4] [B false] 545 ?_
       obtain rfl:=Option.some.inj h
       exact s_ret rfl (qp [B false])
      ·refine aq 1 ?_
       refine cq 7 [36,38] [.agg [I a_1.When.Op,str a_1.When.Name,I a_1.When.Day,.isl false (a_1.When.Parts.map encI_Condition)],.agg [I b_2.When.Op,str b_2.When.Name,I b_2.When.Day,.isl false (b_2.When.Parts.map encI_Condition)]] 593 ?_
       obtain⟨r3,hr3,h⟩:=bS h
       refine oq 609 (B r3) rfl (cP (Ffv_F hr3)) ?_
       refine cq 2 [40] [B (!r3)] 625 ?_
       refine sq h (fun h=>?_) fun h=>?_
       ·refine cq 4 [4] [B false] 641 ?_
        obtain rfl:=Option.some.inj h
        exact s_ret rfl (qp [B false])
       ·refine aq 1 ?_
        refine cq 9 [45] [B (a_1.Within != b_2.Within)] 705 ?_
        refine sq h (fun h=>?_) fun h=>?_
        ·refine cq 4 [4] [B false] 721 ?_
         obtain rfl:=Option.some.inj h
         exact s_ret rfl (qp [B false])
        ·refine aq 1 ?_
         refine cq 9 [50] [B (!(a_1.Repair==b_2.Repair))] 785 ?_
         refine sq h (fun h=>?_) fun h=>?_
         ·refine cq 4 [4] [B false] 801 ?_
          obtain rfl:=Option.some.inj h
          exact s_ret rfl (qp [B false])
         ·refine aq 1 ?_
          refine cq 4 [4] [B true] 801 ?_
          obtain rfl:=Option.some.inj h
          exact s_ret rfl (qp [B true])
theorem Fft_good {G:Go.Ln.Ground}:Good Tryz.prog G 98 Fft_ent:=gT 2 0 (gl_c Ffv_good gl_n) (Checked.mixed Tryz.checked) Tryz.func98 (fun a r h=>Fft_run a.1 a.2 r h)
def Ffu_A:((List Clause)×(List Clause))→List V:=cA (slE encI_Clause) (oA (slE encI_Clause))
def Ffu_R (r:Bool):V×List V:=(B r,[])
noncomputable def Ffu_ent:Ent:=entT [false,false] Ffu_A Ffu_R fun x=>Ffu x.1 x.2
theorem Ffu_F {a_1:List Clause}{b_2:List Clause}{r}(h:Ffu a_1 b_2=some r):Ffu_ent.F (Ffu_A (a_1,b_2))=some (Ffu_R r):=entT_F (cA_inj (isl_inj encI_Clause_inj) (oA_inj (isl_inj encI_Clause_inj))) h
noncomputable def Ffu_c:Code:=bodyOf Tryz.f57
noncomputable def Ffu_E:Env:=mkE Tryz.prog [(98,Fft_ent)]
def Ffu_Q (x:(List Clause)×(List Clause))(r:Bool):St→Prop:=QF Ffu_E Tryz.f57 [false,false] (Ffu_A x) (Ffu_R r)
theorem Ffu_la_run (a_1:List Clause)(b_2:List Clause){Q:St→Prop}{K:List It}(hK:noD K=true):∀(x3:Int) (y:Bool⊕Unit),Ffu_la a_1 b_2 x3=some y→(∀r',y=.inl r'→∀st,Ffu_Q (a_1,b_2) r' st→Q st)→(∀u:Unit,y=.inr u→Run Ffu_E 0 Q K (sT 27 [] [] 1))→Run Ffu_E 0 Q (.code (cL (cL (cR (cL (cR (cR Ffu_c))))))::.lp (cL (cL (cR (cL (cR (cR Ffu_c))))))::.blk 0::K) (sT 27 [(0,.isl false (a_1.map encI_Clause)),(1,.isl false (b_2.map encI_Clause)),(5,I x3)] [] 1):=by
 refine fix_indP (Ffu_la_fin a_1 b_2) ?_
 intro self ih x3 y h hr hn
 unfold Ffu_la_F at h
 refine cq 5 [11,12] [I x3,.isl false (a_1.map encI_Clause)] 33 ?_
 refine oq 49 (I (len a_1)) rfl (e_len rfl rfl rfl (l_isl rfl)) ?_
 refine cq 2 [14] [B (decide (x3<(len a_1)))] 65 ?_
 refine sq h (fun h=>?_) fun h=>?_
 ·refine aq 1 ?_
  refine aq 3 ?_
  refine s_draw [0,0,3,7,0,0,48,112,255,511] rfl (by decide +kernel) ?_
  refine dk 2 [18,17] [I x3,.isl false (a_1.map encI_Clause)] ?_
  obtain⟨e4,he4,h⟩:=bS h
  refine dq [] [] (.iptr (.agg [str e4.Id,I e4.Kind,I e4.Party,str e4.Action,I e4.Other,I e4.Amount,I e4.When.Op,str e4.When.Name,I e4.When.Day,.isl false (e4.When.Parts.map encI_Condition),I e4.Within,str e4.Repair]) 0) rfl (e_indexAddr rfl rfl rfl (ix_islE rfl rfl rfl rfl he4)) ?_
  refine dq [] [] (.agg [str e4.Id,I e4.Kind,I e4.Party,str e4.Action,I e4.Other,I e4.Amount,I e4.When.Op,str e4.When.Name,I e4.When.Day,.isl false (e4.When.Parts.map encI_Condition),I e4.Within,str e4.Repair]) rfl (e_ld rfl rfl) ?_
  refine dk 2 [22,21] [I x3,.isl false (b_2.map encI_Clause)] ?_
  obtain⟨e5,he5,h⟩:=bS h
  refine dq [] [] (.iptr (.agg [str e5.Id,I e5.Kind,I e5.Party,str e5.Action,I e5.Other,I e5.Amount,I e5.When.Op,str e5.When.Name,I e5.When.Day,.isl false (e5.When.Parts.map encI_Condition),I e5.Within,str e5.Repair]) 0) rfl (e_indexAddr rfl rfl rfl (ix_islE rfl rfl rfl rfl he5)) ?_
  refine dq [] [] (.agg [str e5.Id,I e5.Kind,I e5.Party,str e5.Action,I e5.Other,I e5.Amount,I e5.When.Op,str e5.When.Name,I e5.When.Day,.isl false (e5.When.Parts.map encI_Condition),I e5.Within,str e5.Repair]) rfl (e_ld rfl rfl) ?_
  obtain⟨r6,hr6,h⟩:=bS h
  refine dq [] [] (B r6) rfl (cP (Fft_F hr6)) ?_ (w_callO rfl rfl rfl rfl (avS (shP rfl) (avS (shP rfl) avN)) (Fft_F hr6) (.inr rfl) rfl)
  refine dk 1 [26] [B (!r6)] ?_
  refine de 225 rfl rfl ?_
  refine sq h (fun h=>?_) fun h=>?_
  ·refine cq 4 [4] [B false] 241 ?_
   exact s_ret rfl (hr _ (Option.some.inj h).symm _ (qp [B false]))
  ·refine aq 1 ?_
   refine cq 6 [5] [I (w64 (x3+1))] 273 ?_
   refine s_lp ?_
   exact rf [0,1,5] [] (ih _ _ h hr hn :)
 ·refine aq 1 ?_
  exact rf [] [] (hn _ (Option.some.inj h).symm :) (hk:=hK)
theorem Ffu_run (a_1:List Clause)(b_2:List Clause)(r:Bool)(h:Ffu a_1 b_2=some r):RunF Ffu_E Tryz.f57 [false,false] 0 (Ffu_A (a_1,b_2)) (Ffu_R r):=by
 show Run _ _ (Ffu_Q (a_1,b_2) r) [.code Ffu_c] _
 refine rI 27 [(0,.isl false (a_1.map encI_Clause)),(1,.isl false (b_2.map encI_Clause))] [] 1 ?_
 unfold Ffu at h
 refine cq 8 [6] [.isl false (a_1.map encI_Clause)] 33 ?_
 refine oq 49 (I (len a_1)) rfl (e_len rfl rfl rfl (l_isl rfl)) ?_
 refine cq 1 [8] [.isl false (b_2.map encI_Clause)] 65 ?_
 refine oq 81 (I (len b_2)) rfl (e_len rfl rfl rfl (l_isl rfl)) ?_
 refine cq 2 [10] [B ((len a_1) != (len b_2))] 97 ?_
 refine sq h (fun h=>?_) fun h=>?_
 ·refine cq 4 [4] [B false] 113 ?_
  obtain rfl:=Option.some.inj h
  exact s_ret rfl (qp [B false])
 ·refine aq 1 ?_
  refine cq 6 [5] [I (0)] 113 ?_
  obtain⟨y7,hy7,hy71,hy72⟩:=bJ h
  refine s_loop rfl ?_
  refine rf [0,1,5] [] (Ffu_la_run a_1 b_2 rfl 0 _ hy7 (fun r' e st hq=>by rw[hy71 r' e] at hq;exact hq) fun u7 hu=>?_)
  replace h:=hy72 u7 hu
  refine cq 4 [4] [B true] 17 ?_
  obtain rfl:=Option.some.inj h
  exact s_ret rfl (qp [B true])
theorem Ffu_good {G:Go.Ln.Ground}:Good Tryz.prog G 57 Ffu_ent:=gT 2 0 (gl_c Fft_good gl_n) (Checked.mixed Tryz.checked) Tryz.func57 (fun a r h=>Ffu_run a.1 a.2 r h)
def Ffy_A:(Contract×Contract)→List V:=cA encI_Contract (oA encI_Contract)
def Ffy_R (r:Bool):V×List V:=(B r,[])
noncomputable def Ffy_ent:Ent:=entT [false,false] Ffy_A Ffy_R fun x=>Ffy x.1 x.2
theorem Ffy_F {a_1:Contract}{b_2:Contract}{r}(h:Ffy a_1 b_2=some r):Ffy_ent.F (Ffy_A (a_1,b_2))=some (Ffy_R r):=entT_F (cA_inj encI_Contract_inj (oA_inj encI_Contract_inj)) h
noncomputable def Ffy_c:Code:=bodyOf Tryz.f16
noncomputable def Ffy_E:Env:=mkE Tryz.prog [(56,Ffbb_ent),(57,Ffu_ent)]
def Ffy_Q (x:Contract×Contract)(r:Bool):St→Prop:=QF Ffy_E Tryz.f16 [false,false] (Ffy_A x) (Ffy_R r)
theorem Ffy_run (a_1:Contract)(b_2:Contract)(r:Bool)(h:Ffy a_1 b_2=some r):RunF Ffy_E Tryz.f16 [false,false] 0 (Ffy_A (a_1,b_2)) (Ffy_R r):=by
 show Run _ _ (Ffy_Q (a_1,b_2) r) [.code Ffy_c] _
 refine rI 17 [(0,.agg [.isl false (a_1.Parties.map str),.isl false (a_1.Clauses.map encI_Clause)]),(1,.agg [.isl false (b_2.Parties.map str),.isl false (b_2.Clauses.map encI_Clause)])] [] 1 ?_
 unfold Ffy at h
 refine ck 13 [2,3,6,8] [] [1,17] [] [.hp 1 0 [] 2 0 0,.hp 17 0 [] 2 0 0,.isl false (a_1.Parties.map str),.isl false (b_2.Parties.map str)] [some ⟨0,2,[.agg [.isl false (a_1.Parties.map str),.isl false (a_1.Clauses.map encI_Clause)]]⟩,some ⟨0,2,[.agg [.isl false (b_2.Parties.map str),.isl false (b_2.Clauses.map encI_Clause)]]⟩] 113 (by kernel_rfl) ?_
 obtain⟨r3,hr3,h⟩:=bS h
 refine oq 129 (B r3) rfl (cP (Ffbb_F hr3)) ?_
 refine cq 2 [10] [B (!r3)] 145 ?_
 refine sq h (fun h=>?_) fun h=>?_
 ·refine cq 4 [4] [B false] 161 ?_
  obtain rfl:=Option.some.inj h
  exact s_ret rfl (qp [B false])
 ·refine aq 1 ?_
  refine cq 7 [12,14] [.isl false (a_1.Clauses.map encI_Clause),.isl false (b_2.Clauses.map encI_Clause)] 209 ?_
  obtain⟨r4,hr4,h⟩:=bS h
  refine oq 225 (B r4) rfl (cP (Ffu_F hr4)) ?_
  refine cq 2 [16] [B (!r4)] 241 ?_
  refine sq h (fun h=>?_) fun h=>?_
  ·refine cq 4 [4] [B false] 257 ?_
   obtain rfl:=Option.some.inj h
   exact s_ret rfl (qp [B false])
  ·refine aq 1 ?_
   refine cq 4 [4] [B true] 257 ?_
   obtain rfl:=Option.some.inj h
   exact s_ret rfl (qp [B true])
theorem Ffy_good {G:Go.Ln.Ground}:Good Tryz.prog G 16 Ffy_ent:=gT 2 0 (gl_c Ffbb_good (gl_c Ffu_good gl_n)) (Checked.mixed Tryz.checked) Tryz.func16 (fun a r h=>Ffy_run a.1 a.2 r h)
def Ffbi_A:Int→List V:=oA I
def Ffbi_R (r:Str):V×List V:=(str r,[])
noncomputable def Ffbi_ent:Ent:=entT [false] Ffbi_A Ffbi_R fun x=>Ffbi x
theorem Ffbi_F {k_1:Int}{r}(h:Ffbi k_1=some r):Ffbi_ent.F (Ffbi_A k_1)=some (Ffbi_R r):=entT_F (oA_inj I_inj) h
noncomputable def Ffbi_c:Code:=bodyOf Tryz.f106
noncomputable def Ffbi_E:Env:=mkE Tryz.prog []
def Ffbi_Q (x:Int)(r:Str):St→Prop:=QF Ffbi_E Tryz.f106 [false] (Ffbi_A x) (Ffbi_R r)
theorem Ffbi_la_run (k_1:Int){Q:St→Prop}{K:List It}(hK:noD K=true):∀(x2:Int×Str) (y:Str⊕Str),Ffbi_la k_1 x2=some y→(∀r',y=.inl r'→∀st,Ffbi_Q k_1 r' st→Q st)→(∀u:Str,y=.inr u→Run Ffbi_E 0 Q K (sT 20 [(3,str u)] [] 1))→Run Ffbi_E 0 Q (.code (cL (cL (cL (cR (cR (cR Ffbi_c))))))::.lp (cL (cL (cL (cR (cR (cR Ffbi_c))))))::.blk 0::K) (sT 20 [(0,I x2.1),(3,str x2.2)] [] 1):=by
 refine fix_indP (Ffbi_la_fin k_1) ?_
 intro self ih x2 y h hr hn
 unfold Ffbi_la_F at h
 refine cq 6 [7] [B (decide (x2.1>0))] 33 ?_
 refine sq h (fun h=>?_) fun h=>?_
 ·refine aq 1 ?_
  refine cq 7 [11] [.int .u8 (IntKind.u8.wrap (w64 (48+(x2.1.tmod 10))))] 97 ?_
  refine oq 113 (.hs 97 0 [] 1 0 1) rfl (e_buildSlice rfl (bs_mk (f:=I) (xs:=[]) (z:=.int .u8 (0)) (es:=[.int .u8 (IntKind.u8.wrap (w64 (48+(x2.1.tmod 10))))]) (ws:=[.int .u8 (IntKind.u8.wrap (w64 (48+(x2.1.tmod 10))))]) rfl rfl rfl (by decide) rfl (abs_each_plain rfl) rfl)) ?_
  refine oq 129 (str ([(IntKind.u8.wrap (w64 (48+(x2.1.tmod 10))))].map fun n=>UInt8.ofNat n.toNat)) rfl (e_conv rfl (cv_bytes (xs:=[(IntKind.u8.wrap (w64 (48+(x2.1.tmod 10))))]) rfl rfl rfl (rw_hs (path:=[]) rfl rfl ra_n rfl))) ?_
  refine cq 1 [14] [str x2.2] 145 ?_
  obtain⟨s3,hs3,h⟩:=bS h
  refine oq 161 (str s3) rfl (e_bin rfl rfl (b_cat hs3)) ?_
  refine cq 8 [0,3] [I (w64 (x2.1.tdiv 10)),str s3] 225 ?_
  refine s_lp ?_
  exact rf [0,3] [] (ih _ _ h hr hn :)
 ·refine aq 1 ?_
  exact rf [3] [] (hn _ (Option.some.inj h).symm :) (hk:=hK)
theorem Ffbi_run (k_1:Int)(r:Str)(h:Ffbi k_1=some r):RunF Ffbi_E Tryz.f106 [false] 0 (Ffbi_A k_1) (Ffbi_R r):=by
 show Run _ _ (Ffbi_Q k_1 r) [.code Ffbi_c] _
 refine rI 20 [(0,I k_1)] [] 1 ?_
 unfold Ffbi at h
 refine cq 10 [5] [B (decide (k_1≤0))] 49 ?_
 refine sq h (fun h=>?_) fun h=>?_
 ·refine cq 4 [2] [str ([109,48]:Str)] 65 ?_
  obtain rfl:=Option.some.inj h
  exact s_ret rfl (qp [str ([109,48]:Str)])
 ·refine aq 1 ?_
  refine cq 6 [3] [str ([]:Str)] 65 ?_
  obtain⟨y4,hy4,hy41,hy42⟩:=bJ h
  refine s_loop rfl ?_
  refine rf [0,3] [] (Ffbi_la_run k_1 rfl (k_1,([]:Str)) _ hy4 (fun r' e st hq=>by rw[hy41 r' e] at hq;exact hq) fun u4 hu=>?_)
  replace h:=hy42 u4 hu
  refine cq 3 [18] [str u4] 17 ?_
  obtain⟨s5,hs5,h⟩:=bS h
  refine oq 33 (str s5) rfl (e_bin rfl rfl (b_cat hs5)) ?_
  refine cq 2 [2] [str s5] 49 ?_
  obtain rfl:=Option.some.inj h
  exact s_ret rfl (qp [str s5])
theorem Ffbi_good {G:Go.Ln.Ground}:Good Tryz.prog G 106 Ffbi_ent:=gT 1 0 gl_n (Checked.mixed Tryz.checked) Tryz.func106 (fun a r h=>Ffbi_run a r h)
def Ffbh_A:((List Str)×Int)→List V:=cA (usE 1 str) (oA I)
def Ffbh_R (r:Int×(List Str)):V×List V:=(I r.1,[.usl 1 (r.2.map str)])
noncomputable def Ffbh_ent:Ent:=entT [true,false] Ffbh_A Ffbh_R fun x=>Ffbh x.1 x.2
theorem Ffbh_F {a_7:List Str}{k_8:Int}{r}(h:Ffbh a_7 k_8=some r):Ffbh_ent.F (Ffbh_A (a_7,k_8))=some (Ffbh_R r):=entT_F (cA_inj (usl_inj str_inj) (oA_inj I_inj)) h
noncomputable def Ffbh_c:Code:=bodyOf Tryz.f63
noncomputable def Ffbh_E:Env:=mkE Tryz.prog [(106,Ffbi_ent)]
def Ffbh_Q (x:(List Str)×Int)(r:Int×(List Str)):St→Prop:=QF Ffbh_E Tryz.f63 [true,false] (Ffbh_A x) (Ffbh_R r)
theorem Ffbh_la_run (a_7:List Str)(k_8:Int){Q:St→Prop}{K:List It}(hK:noD K=true):∀(x3:Int×Int×(List Str)) (y:(Int×(List Str))⊕(Int×(List Str))),Ffbh_la a_7 k_8 x3=some y→(∀r',y=.inl r'→∀st,Ffbh_Q (a_7,k_8) r' st→Q st)→(∀u:Int×(List Str),y=.inr u→Run Ffbh_E 1 Q K (sT 20 [(1,I u.1)] [⟨0,1,u.2.map str⟩] 2))→Run Ffbh_E 1 Q (.code (cL (cL (cR (cL (cR Ffbh_c)))))::.lp (cL (cL (cR (cL (cR Ffbh_c)))))::.blk 0::K) (sT 20 [(0,.hs 1 0 [] 1 0 (x3.2.2.map str).length),(1,I x3.1),(5,I x3.2.1)] [⟨0,1,x3.2.2.map str⟩] 2):=by
 refine fix_indP (Ffbh_la_fin a_7 k_8) ?_
 intro self ih x3 y h hr hn
 unfold Ffbh_la_F at h
 refine cq 5 [6,7] [I x3.2.1,.hs 1 0 [] 1 0 (x3.2.2.map str).length] 34 ?_
 refine oq 50 (I (len x3.2.2)) rfl (e_len rfl rfl rfl (l_hsM (f:=str) (xs:=x3.2.2) rfl rfl)) ?_
 refine cq 2 [9] [B (decide (x3.2.1<(len x3.2.2)))] 66 ?_
 refine sq h (fun h=>?_) fun h=>?_
 ·refine aq 1 ?_
  refine cq 7 [12,13,14] [.hs 1 0 [] 1 0 (x3.2.2.map str).length,I x3.2.1,I x3.1] 114 ?_
  obtain⟨r4,hr4,h⟩:=bS h
  refine oq 130 (str r4) rfl (cP (Ffbi_F hr4)) ?_
  obtain⟨e5,he5,h⟩:=bS h
  refine oq 146 (.hp 1 0 [] 1 (0+Int.toNat x3.2.1) 0) rfl (e_indexAddr rfl rfl rfl (ix_hsM (f:=str) (xs:=x3.2.2) rfl rfl rfl he5)) ?_
  refine o0 162 rfl rfl (e_st rfl rfl (st_at (path:=[]) (pl:=true) (e':=str r4) (es2':=(setI x3.2.2 x3.2.1 r4).map str) rfl (absorb_plain rfl) rfl rfl rfl ra_n (get_map (f:=str) (xs:=x3.2.2) he5) rfl rfl rfl (set_map (f:=str) (xs:=x3.2.2) (y:=r4)) sr_n 0 rfl)) ?_
  try rw[←len_setM (f:=str) (xs:=x3.2.2) (i:=x3.2.1) (z:=r4)]
  refine cq 12 [1,5] [I (w64 (x3.1+1)),I (w64 (x3.2.1+1))] 258 ?_
  refine s_lp ?_
  exact rf [0,1,5] [1] (ih _ _ h hr hn :)
 ·refine aq 1 ?_
  exact rf [1] [1] (hn _ (Option.some.inj h).symm :) (hk:=hK)
theorem Ffbh_run (a_7:List Str)(k_8:Int)(r:Int×(List Str))(h:Ffbh a_7 k_8=some r):RunF Ffbh_E Tryz.f63 [true,false] 1 (Ffbh_A (a_7,k_8)) (Ffbh_R r):=by
 show Run _ _ (Ffbh_Q (a_7,k_8) r) [.code Ffbh_c] _
 refine rI 20 [(0,.hs 1 0 [] 1 0 (a_7.map str).length),(1,I k_8)] [(1,some ⟨0,1,a_7.map str⟩)] 2 ?_
 unfold Ffbh at h
 refine cq 10 [5] [I (0)] 34 ?_
 obtain⟨y6,hy6,hy61,hy62⟩:=bJ h
 refine s_loop rfl ?_
 refine rf [0,1,5] [1] (Ffbh_la_run a_7 k_8 rfl (k_8,0,a_7) _ hy6 (fun r' e st hq=>by rw[hy61 r' e] at hq;exact hq) fun u6 hu=>?_)
 replace h:=hy62 u6 hu
 refine cq 5 [4] [I u6.1] 34 ?_
 obtain⟨g7,h⟩:=gG h
 obtain rfl:=Option.some.inj h
 exact s_ret rfl ⟨_,fin (vs:=[I u6.1]) rfl (absE (absorb_plain rfl) absEN) rfl (ou_1 rfl (oc_hsG (f:=str) (xs:=u6.2) (by simpa using g7) rfl) (ou_f ou_n)),kl_c kl_n⟩
theorem Ffbh_good {G:Go.Ln.Ground}:Good Tryz.prog G 63 Ffbh_ent:=gT 2 1 (gl_c Ffbi_good gl_n) (Checked.mixed Tryz.checked) Tryz.func63 (fun a r h=>Ffbh_run a.1 a.2 r h)
def Ffbe_A:((List Condition)×Int)→List V:=cA (usE 4 encO_Condition) (oA I)
def Ffbe_R (r:Int×(List Condition)):V×List V:=(I r.1,[.usl 4 (r.2.map encO_Condition)])
noncomputable def Ffbe_entS (slf_Ffbe:((List Condition)×Int)→Option (Int×(List Condition))):Ent:=entT [true,false] Ffbe_A Ffbe_R slf_Ffbe
theorem Ffbe_FS (slf_Ffbe:((List Condition)×Int)→Option (Int×(List Condition))){x}{r}(h:slf_Ffbe x=some r):(Ffbe_entS slf_Ffbe).F (Ffbe_A x)=some (Ffbe_R r):=entT_F (cA_inj (usl_inj encO_Condition_inj) (oA_inj I_inj)) h
noncomputable def Ffbe_ent:Ent:=Ffbe_entS (fixO Ffbe_G)
theorem Ffbe_F {a_6:List Condition}{k_7:Int}{r}(h:Ffbe a_6 k_7=some r):Ffbe_ent.F (Ffbe_A (a_6,k_7))=some (Ffbe_R r):=Ffbe_FS (fixO Ffbe_G) h
noncomputable def Ffbe_c:Code:=bodyOf Tryz.f107
noncomputable def Ffbe_E (slf_Ffbe:((List Condition)×Int)→Option (Int×(List Condition))):Env:=mkE Tryz.prog [(106,Ffbi_ent),(107,(Ffbe_entS slf_Ffbe))]
def Ffbe_Q (slf_Ffbe:((List Condition)×Int)→Option (Int×(List Condition)))(x:(List Condition)×Int)(r:Int×(List Condition)):St→Prop:=QF (Ffbe_E slf_Ffbe) Tryz.f107 [true,false] (Ffbe_A x) (Ffbe_R r)
theorem Ffbe_la_run (slf_Ffbe:((List Condition)×Int)→Option (Int×(List Condition)))(a_6:List Condition)(k_7:Int){Q:St→Prop}{K:List It}(hK:noD K=true):∀(x3:Int×Int×(List Condition)) (y:(Int×(List Condition))⊕(Int×(List Condition))),Ffbe_la slf_Ffbe a_6 k_7 x3=some y→(∀r',y=.inl r'→∀st,Ffbe_Q slf_Ffbe (a_6,k_7) r' st→Q st)→(∀u:Int×(List Condition),y=.inr u→Run (Ffbe_E slf_Ffbe) 1 Q K (sT 42 [(1,I u.1)] [⟨0,4,u.2.map encO_Condition⟩] 2))→Run (Ffbe_E slf_Ffbe) 1 Q (.code (cL (cL (cR (cL (cR Ffbe_c)))))::.lp (cL (cL (cR (cL (cR Ffbe_c)))))::.blk 0::K) (sT 42 [(0,.hs 1 0 [] 4 0 (x3.2.2.map encO_Condition).length),(1,I x3.1),(5,I x3.2.1)] [⟨0,4,x3.2.2.map encO_Condition⟩] 2):=by
 refine fix_indP (Ffbe_la_fin slf_Ffbe a_6 k_7) ?_
 intro self ih x3 y h hr hn
 unfold Ffbe_la_F at h
 refine cq 5 [6,7] [I x3.2.1,.hs 1 0 [] 4 0 (x3.2.2.map encO_Condition).length] 34 ?_
 refine oq 50 (I (len x3.2.2)) rfl (e_len rfl rfl rfl (l_hsM (f:=encO_Condition) (xs:=x3.2.2) rfl rfl)) ?_
 refine cq 2 [9] [B (decide (x3.2.1<(len x3.2.2)))] 66 ?_
 refine sq h (fun h=>?_) fun h=>?_
 ·refine aq 1 ?_
  refine cq 7 [12,13,14] [.hs 1 0 [] 4 0 (x3.2.2.map encO_Condition).length,I x3.2.1,I x3.1] 114 ?_
  obtain⟨e4,he4,h⟩:=bS h
  refine oq 130 (.hp 1 0 [] 4 (0+Int.toNat x3.2.1) 0) rfl (e_indexAddr rfl rfl rfl (ix_hsM (f:=encO_Condition) (xs:=x3.2.2) rfl rfl rfl he4)) ?_
  refine cq 1 [16] [.hp 1 0 [] 4 (0+Int.toNat x3.2.1) 0] 146 ?_
  refine o0 162 rfl rfl (e_st rfl rfl (st_at (path:=[]) (pl:=true) (e':=.agg [I x3.1,str e4.Name,I e4.Day,.usl 4 (e4.Parts.map encO_Condition)]) (es2':=(setI x3.2.2 x3.2.1 (Condition.mk x3.1 e4.Name e4.Day e4.Parts)).map encO_Condition) rfl (absorb_plain rfl) rfl rfl rfl ra_n (get_mapE (f:=encO_Condition) (xs:=x3.2.2) (encO_Condition_eq e4) he4) rfl rfl rfl (set_mapE (f:=encO_Condition) (xs:=x3.2.2) (encO_Condition_eq (Condition.mk x3.1 e4.Name e4.Day e4.Parts))) sr_n 0 rfl)) ?_
  try rw[←len_setM (f:=encO_Condition) (xs:=x3.2.2) (i:=x3.2.1) (z:=(Condition.mk x3.1 e4.Name e4.Day e4.Parts))]
  refine cq 12 [1,19,20,21] [I (w64 (x3.1+1)),.hs 1 0 [] 4 0 ((setI x3.2.2 x3.2.1 (Condition.mk x3.1 e4.Name e4.Day e4.Parts)).map encO_Condition).length,I x3.2.1,I (w64 (x3.1+1))] 258 ?_
  obtain⟨r5,hr5,h⟩:=bS h
  refine oq 274 (str r5) rfl (cP (Ffbi_F hr5)) ?_
  obtain⟨e6,he6,h⟩:=bS h
  refine oq 290 (.hp 1 0 [] 4 (0+Int.toNat x3.2.1) 0) rfl (e_indexAddr rfl rfl rfl (ix_hsM (f:=encO_Condition) (xs:=(setI x3.2.2 x3.2.1 (Condition.mk x3.1 e4.Name e4.Day e4.Parts))) rfl rfl rfl he6)) ?_
  refine cq 1 [24] [.hp 1 0 [] 4 (0+Int.toNat x3.2.1) 1] 306 ?_
  obtain⟨rw7,hrw7,h⟩:=lJ h
  refine o0 322 rfl rfl (e_st rfl rfl (st_at (path:=[]) (pl:=true) (e':=.agg [I e6.Op,str r5,I e6.Day,.usl 4 (e6.Parts.map encO_Condition)]) (es2':=(rw7).map encO_Condition) rfl (absorb_plain rfl) rfl rfl rfl ra_n (get_mapE (f:=encO_Condition) (xs:=(setI x3.2.2 x3.2.1 (Condition.mk x3.1 e4.Name e4.Day e4.Parts))) (encO_Condition_eq e6) he6) rfl rfl rfl (set_mapEW (f:=encO_Condition) (xs:=(setI x3.2.2 x3.2.1 (Condition.mk x3.1 e4.Name e4.Day e4.Parts))) (encO_Condition_eq (Condition.mk e6.Op r5 e6.Day e6.Parts)) hrw7) sr_n 0 rfl)) ?_
  try rw[←len_setMW hrw7 (f:=encO_Condition) (xs:=(setI x3.2.2 x3.2.1 (Condition.mk x3.1 e4.Name e4.Day e4.Parts)))]
  refine cq 12 [1,27,28,29] [I (w64 ((w64 (x3.1+1))+1)),.hs 1 0 [] 4 0 (rw7.map encO_Condition).length,I x3.2.1,I (w64 ((w64 (x3.1+1))+1))] 418 ?_
  obtain⟨e9,he9,h⟩:=bS h
  refine oq 434 (.hp 1 0 [] 4 (0+Int.toNat x3.2.1) 0) rfl (e_indexAddr rfl rfl rfl (ix_hsM (f:=encO_Condition) (xs:=rw7) rfl rfl rfl he9)) ?_
  refine cq 1 [31] [.hp 1 0 [] 4 (0+Int.toNat x3.2.1) 2] 450 ?_
  obtain⟨rw10,hrw10,h⟩:=lJ h
  refine o0 466 rfl rfl (e_st rfl rfl (st_at (path:=[]) (pl:=true) (e':=.agg [I e9.Op,str e9.Name,I (w64 ((w64 (x3.1+1))+1)),.usl 4 (e9.Parts.map encO_Condition)]) (es2':=(rw10).map encO_Condition) rfl (absorb_plain rfl) rfl rfl rfl ra_n (get_mapE (f:=encO_Condition) (xs:=rw7) (encO_Condition_eq e9) he9) rfl rfl rfl (set_mapEW (f:=encO_Condition) (xs:=rw7) (encO_Condition_eq (Condition.mk e9.Op e9.Name (w64 ((w64 (x3.1+1))+1)) e9.Parts)) hrw10) sr_n 0 rfl)) ?_
  try rw[←len_setMW hrw10 (f:=encO_Condition) (xs:=rw7)]
  refine cq 10 [1,34,35] [I (w64 ((w64 ((w64 (x3.1+1))+1))+1)),.hs 1 0 [] 4 0 (rw10.map encO_Condition).length,I x3.2.1] 546 ?_
  obtain⟨e13,he13,h⟩:=bS h
  refine oq 562 (.hp 1 0 [] 4 (0+Int.toNat x3.2.1) 0) rfl (e_indexAddr rfl rfl rfl (ix_hsM (f:=encO_Condition) (xs:=rw10) rfl rfl rfl he13)) ?_
  refine cq 1 [37] [.hp 1 0 [] 4 (0+Int.toNat x3.2.1) 3] 578 ?_
  refine oq 594 (.hs 1 0 [((0+Int.toNat x3.2.1),3)] 4 0 (e13.Parts.map encO_Condition).length) rfl (e_ld rfl (ld_at (path:=[]) rfl rfl rfl ra_n (get_mapE (f:=encO_Condition) (xs:=rw10) (encO_Condition_eq e13) he13) rfl rfl rfl)) ?_
  refine cq 1 [39] [I (w64 ((w64 ((w64 (x3.1+1))+1))+1))] 610 ?_
  obtain⟨r14,hr14,h⟩:=bS h
  obtain⟨g15,h⟩:=gG h
  obtain⟨rw16,hrw16,h⟩:=lJ h
  refine oq 626 (I r14.1) rfl (e_callV rfl rfl (call_P rfl rfl rfl (avO (hd1 rfl (hd_hs (path:=[((0+Int.toNat x3.2.1),3)]) rfl rfl (ra_c (get_mapE (f:=encO_Condition) (xs:=rw10) (encO_Condition_eq e13) he13) rfl ra_n) rfl)) (avS (shP rfl) avN)) (Ffbe_FS slf_Ffbe hr14) (.inr rfl) (bl_c rfl rfl rfl (bk_s (ra_c (get_mapE (f:=encO_Condition) (xs:=rw10) (encO_Condition_eq e13) he13) rfl ra_n) (len_eqM (f:=encO_Condition) (xs:=e13.Parts) (ys:=r14.2) g15).symm (sr_c (get_mapE (f:=encO_Condition) (xs:=rw10) (encO_Condition_eq e13) he13) rfl sr_n (rfl:(_:V)=.agg [I e13.Op,str e13.Name,I e13.Day,.usl 4 (r14.2.map encO_Condition)]) (set_mapEW (f:=encO_Condition) (xs:=rw10) (encO_Condition_eq (Condition.mk e13.Op e13.Name e13.Day r14.2)) hrw16))) bl_n) rfl rfl rfl)) ?_
  try rw[len_eqM (f:=encO_Condition) (xs:=e13.Parts) (ys:=r14.2) g15]
  try rw[←len_setMW hrw16 (f:=encO_Condition) (xs:=rw10)]
  refine cq 8 [1,5] [I r14.1,I (w64 (x3.2.1+1))] 690 ?_
  refine s_lp ?_
  exact rf [0,1,5] [1] (ih _ _ h hr hn :)
 ·refine aq 1 ?_
  exact rf [1] [1] (hn _ (Option.some.inj h).symm :) (hk:=hK)
theorem Ffbe_run (slf_Ffbe:((List Condition)×Int)→Option (Int×(List Condition)))(a_6:List Condition)(k_7:Int)(r:Int×(List Condition))(h:Ffbe_B slf_Ffbe a_6 k_7=some r):RunF (Ffbe_E slf_Ffbe) Tryz.f107 [true,false] 1 (Ffbe_A (a_6,k_7)) (Ffbe_R r):=by
 show Run _ _ (Ffbe_Q slf_Ffbe (a_6,k_7) r) [.code Ffbe_c] _
 refine rI 42 [(0,.hs 1 0 [] 4 0 (a_6.map encO_Condition).length),(1,I k_7)] [(1,some ⟨0,4,a_6.map encO_Condition⟩)] 2 ?_
 unfold Ffbe_B at h
 refine cq 10 [5] [I (0)] 34 ?_
 obtain⟨y20,hy20,hy201,hy202⟩:=bJ h
 refine s_loop rfl ?_
 refine rf [0,1,5] [1] (Ffbe_la_run slf_Ffbe a_6 k_7 rfl (k_7,0,a_6) _ hy20 (fun r' e st hq=>by rw[hy201 r' e] at hq;exact hq) fun u20 hu=>?_)
 replace h:=hy202 u20 hu
 refine cq 5 [4] [I u20.1] 34 ?_
 obtain⟨g21,h⟩:=gG h
 obtain rfl:=Option.some.inj h
 exact s_ret rfl ⟨_,fin (vs:=[I u20.1]) rfl (absE (absorb_plain rfl) absEN) rfl (ou_1 rfl (oc_hsG (f:=encO_Condition) (xs:=u20.2) (by simpa using g21) rfl) (ou_f ou_n)),kl_c kl_n⟩
theorem Ffbe_good {G:Go.Ln.Ground}:Good Tryz.prog G 107 Ffbe_ent:=good_rec fun slf_Ffbe g_Ffbe=>gT 2 1 (gl_c Ffbi_good (gl_c g_Ffbe gl_n)) (Checked.mixed Tryz.checked) Tryz.func107 (fun a r h=>Ffbe_run slf_Ffbe a.1 a.2 r h)
def Ffbd_A:((List Clause)×Int)→List V:=cA (usE 12 encO_Clause) (oA I)
def Ffbd_R (r:Int×(List Clause)):V×List V:=(I r.1,[.usl 12 (r.2.map encO_Clause)])
noncomputable def Ffbd_ent:Ent:=entT [true,false] Ffbd_A Ffbd_R fun x=>Ffbd x.1 x.2
theorem Ffbd_F {a_7:List Clause}{k_8:Int}{r}(h:Ffbd a_7 k_8=some r):Ffbd_ent.F (Ffbd_A (a_7,k_8))=some (Ffbd_R r):=entT_F (cA_inj (usl_inj encO_Clause_inj) (oA_inj I_inj)) h
noncomputable def Ffbd_c:Code:=bodyOf Tryz.f64
noncomputable def Ffbd_E:Env:=mkE Tryz.prog [(106,Ffbi_ent),(107,Ffbe_ent)]
def Ffbd_Q (x:(List Clause)×Int)(r:Int×(List Clause)):St→Prop:=QF Ffbd_E Tryz.f64 [true,false] (Ffbd_A x) (Ffbd_R r)
theorem Ffbd_la_run (a_7:List Clause)(k_8:Int){Q:St→Prop}{K:List It}(hK:noD K=true):∀(x3:Int×Int×(List Clause)) (y:(Int×(List Clause))⊕(Int×(List Clause))),Ffbd_la a_7 k_8 x3=some y→(∀r',y=.inl r'→∀st,Ffbd_Q (a_7,k_8) r' st→Q st)→(∀u:Int×(List Clause),y=.inr u→Run Ffbd_E 1 Q K (sT 105 [(1,I u.1)] [⟨0,12,u.2.map encO_Clause⟩] 2))→Run Ffbd_E 1 Q (.code (cL (cL (cR (cL (cR Ffbd_c)))))::.lp (cL (cL (cR (cL (cR Ffbd_c)))))::.blk 0::K) (sT 105 [(0,.hs 1 0 [] 12 0 (x3.2.2.map encO_Clause).length),(1,I x3.1),(5,I x3.2.1)] [⟨0,12,x3.2.2.map encO_Clause⟩] 2):=by
 refine fix_indP (Ffbd_la_fin a_7 k_8) ?_
 intro self ih x3 y h hr hn
 unfold Ffbd_la_F at h
 refine cq 5 [6,7] [I x3.2.1,.hs 1 0 [] 12 0 (x3.2.2.map encO_Clause).length] 34 ?_
 refine oq 50 (I (len x3.2.2)) rfl (e_len rfl rfl rfl (l_hsM (f:=encO_Clause) (xs:=x3.2.2) rfl rfl)) ?_
 refine cq 2 [9] [B (decide (x3.2.1<(len x3.2.2)))] 66 ?_
 refine sq h (fun h=>?_) fun h=>?_
 ·refine aq 1 ?_
  refine cq 7 [12,13,14] [.hs 1 0 [] 12 0 (x3.2.2.map encO_Clause).length,I x3.2.1,I x3.1] 114 ?_
  obtain⟨r4,hr4,h⟩:=bS h
  refine oq 130 (str r4) rfl (cP (Ffbi_F hr4)) ?_
  obtain⟨e5,he5,h⟩:=bS h
  refine oq 146 (.hp 1 0 [] 12 (0+Int.toNat x3.2.1) 0) rfl (e_indexAddr rfl rfl rfl (ix_hsM (f:=encO_Clause) (xs:=x3.2.2) rfl rfl rfl he5)) ?_
  refine cq 1 [17] [.hp 1 0 [] 12 (0+Int.toNat x3.2.1) 0] 162 ?_
  refine o0 178 rfl rfl (e_st rfl rfl (st_at (path:=[]) (pl:=true) (e':=.agg [str r4,I e5.Kind,I e5.Party,str e5.Action,I e5.Other,I e5.Amount,I e5.When.Op,str e5.When.Name,I e5.When.Day,.usl 4 (e5.When.Parts.map encO_Condition),I e5.Within,str e5.Repair]) (es2':=(setI x3.2.2 x3.2.1 (Clause.mk r4 e5.Kind e5.Party e5.Action e5.Other e5.Amount e5.When e5.Within e5.Repair)).map encO_Clause) rfl (absorb_plain rfl) rfl rfl rfl ra_n (get_map (f:=encO_Clause) (xs:=x3.2.2) he5) rfl rfl rfl (set_map (f:=encO_Clause) (xs:=x3.2.2) (y:=(Clause.mk r4 e5.Kind e5.Party e5.Action e5.Other e5.Amount e5.When e5.Within e5.Repair))) sr_n 0 rfl)) ?_
  try rw[←len_setM (f:=encO_Clause) (xs:=x3.2.2) (i:=x3.2.1) (z:=(Clause.mk r4 e5.Kind e5.Party e5.Action e5.Other e5.Amount e5.When e5.Within e5.Repair))]
  refine cq 12 [1,20,21,22] [I (w64 (x3.1+1)),.hs 1 0 [] 12 0 ((setI x3.2.2 x3.2.1 (Clause.mk r4 e5.Kind e5.Party e5.Action e5.Other e5.Amount e5.When e5.Within e5.Repair)).map encO_Clause).length,I x3.2.1,I (w64 (x3.1+1))] 274 ?_
  obtain⟨e6,he6,h⟩:=bS h
  refine oq 290 (.hp 1 0 [] 12 (0+Int.toNat x3.2.1) 0) rfl (e_indexAddr rfl rfl rfl (ix_hsM (f:=encO_Clause) (xs:=(setI x3.2.2 x3.2.1 (Clause.mk r4 e5.Kind e5.Party e5.Action e5.Other e5.Amount e5.When e5.Within e5.Repair))) rfl rfl rfl he6)) ?_
  refine cq 1 [24] [.hp 1 0 [] 12 (0+Int.toNat x3.2.1) 1] 306 ?_
  obtain⟨rw7,hrw7,h⟩:=lJ h
  refine o0 322 rfl rfl (e_st rfl rfl (st_at (path:=[]) (pl:=true) (e':=.agg [str e6.Id,I (w64 (x3.1+1)),I e6.Party,str e6.Action,I e6.Other,I e6.Amount,I e6.When.Op,str e6.When.Name,I e6.When.Day,.usl 4 (e6.When.Parts.map encO_Condition),I e6.Within,str e6.Repair]) (es2':=(rw7).map encO_Clause) rfl (absorb_plain rfl) rfl rfl rfl ra_n (get_map (f:=encO_Clause) (xs:=(setI x3.2.2 x3.2.1 (Clause.mk r4 e5.Kind e5.Party e5.Action e5.Other e5.Amount e5.When e5.Within e5.Repair))) he6) rfl rfl rfl (set_mapW (f:=encO_Clause) (xs:=(setI x3.2.2 x3.2.1 (Clause.mk r4 e5.Kind e5.Party e5.Action e5.Other e5.Amount e5.When e5.Within e5.Repair))) (y:=(Clause.mk e6.Id (w64 (x3.1+1)) e6.Party e6.Action e6.Other e6.Amount e6.When e6.Within e6.Repair)) hrw7) sr_n 0 rfl)) ?_
  try rw[←len_setMW hrw7 (f:=encO_Clause) (xs:=(setI x3.2.2 x3.2.1 (Clause.mk r4 e5.Kind e5.Party e5.Action e5.Other e5.Amount e5.When e5.Within e5.Repair)))]
  refine cq 12 [1,27,28,29] [I (w64 ((w64 (x3.1+1))+1)),.hs 1 0 [] 12 0 (rw7.map encO_Clause).length,I x3.2.1,I (w64 ((w64 (x3.1+1))+1))] 418 ?_
  obtain⟨e9,he9,h⟩:=bS h
  refine oq 434 (.hp 1 0 [] 12 (0+Int.toNat x3.2.1) 0) rfl (e_indexAddr rfl rfl rfl (ix_hsM (f:=encO_Clause) (xs:=rw7) rfl rfl rfl he9)) ?_
  refine cq 1 [31] [.hp 1 0 [] 12 (0+Int.toNat x3.2.1) 2] 450 ?_
  obtain⟨rw10,hrw10,h⟩:=lJ h
  refine o0 466 rfl rfl (e_st rfl rfl (st_at (path:=[]) (pl:=true) (e':=.agg [str e9.Id,I e9.Kind,I (w64 ((w64 (x3.1+1))+1)),str e9.Action,I e9.Other,I e9.Amount,I e9.When.Op,str e9.When.Name,I e9.When.Day,.usl 4 (e9.When.Parts.map encO_Condition),I e9.Within,str e9.Repair]) (es2':=(rw10).map encO_Clause) rfl (absorb_plain rfl) rfl rfl rfl ra_n (get_map (f:=encO_Clause) (xs:=rw7) he9) rfl rfl rfl (set_mapW (f:=encO_Clause) (xs:=rw7) (y:=(Clause.mk e9.Id e9.Kind (w64 ((w64 (x3.1+1))+1)) e9.Action e9.Other e9.Amount e9.When e9.Within e9.Repair)) hrw10) sr_n 0 rfl)) ?_
  try rw[←len_setMW hrw10 (f:=encO_Clause) (xs:=rw7)]
  refine cq 12 [1,34,35,36] [I (w64 ((w64 ((w64 (x3.1+1))+1))+1)),.hs 1 0 [] 12 0 (rw10.map encO_Clause).length,I x3.2.1,I (w64 ((w64 ((w64 (x3.1+1))+1))+1))] 562 ?_
  obtain⟨r13,hr13,h⟩:=bS h
  refine oq 578 (str r13) rfl (cP (Ffbi_F hr13)) ?_
  obtain⟨e14,he14,h⟩:=bS h
  refine oq 594 (.hp 1 0 [] 12 (0+Int.toNat x3.2.1) 0) rfl (e_indexAddr rfl rfl rfl (ix_hsM (f:=encO_Clause) (xs:=rw10) rfl rfl rfl he14)) ?_
  refine cq 1 [39] [.hp 1 0 [] 12 (0+Int.toNat x3.2.1) 3] 610 ?_
  obtain⟨rw15,hrw15,h⟩:=lJ h
  refine o0 626 rfl rfl (e_st rfl rfl (st_at (path:=[]) (pl:=true) (e':=.agg [str e14.Id,I e14.Kind,I e14.Party,str r13,I e14.Other,I e14.Amount,I e14.When.Op,str e14.When.Name,I e14.When.Day,.usl 4 (e14.When.Parts.map encO_Condition),I e14.Within,str e14.Repair]) (es2':=(rw15).map encO_Clause) rfl (absorb_plain rfl) rfl rfl rfl ra_n (get_map (f:=encO_Clause) (xs:=rw10) he14) rfl rfl rfl (set_mapW (f:=encO_Clause) (xs:=rw10) (y:=(Clause.mk e14.Id e14.Kind e14.Party r13 e14.Other e14.Amount e14.When e14.Within e14.Repair)) hrw15) sr_n 0 rfl)) ?_
  try rw[←len_setMW hrw15 (f:=encO_Clause) (xs:=rw10)]
  refine cq 12 [1,42,43,44] [I (w64 ((w64 ((w64 ((w64 (x3.1+1))+1))+1))+1)),.hs 1 0 [] 12 0 (rw15.map encO_Clause).length,I x3.2.1,I (w64 ((w64 ((w64 ((w64 (x3.1+1))+1))+1))+1))] 722 ?_
  obtain⟨e19,he19,h⟩:=bS h
  refine oq 738 (.hp 1 0 [] 12 (0+Int.toNat x3.2.1) 0) rfl (e_indexAddr rfl rfl rfl (ix_hsM (f:=encO_Clause) (xs:=rw15) rfl rfl rfl he19)) ?_
  refine cq 1 [46] [.hp 1 0 [] 12 (0+Int.toNat x3.2.1) 4] 754 ?_
  obtain⟨rw20,hrw20,h⟩:=lJ h
  refine o0 770 rfl rfl (e_st rfl rfl (st_at (path:=[]) (pl:=true) (e':=.agg [str e19.Id,I e19.Kind,I e19.Party,str e19.Action,I (w64 ((w64 ((w64 ((w64 (x3.1+1))+1))+1))+1)),I e19.Amount,I e19.When.Op,str e19.When.Name,I e19.When.Day,.usl 4 (e19.When.Parts.map encO_Condition),I e19.Within,str e19.Repair]) (es2':=(rw20).map encO_Clause) rfl (absorb_plain rfl) rfl rfl rfl ra_n (get_map (f:=encO_Clause) (xs:=rw15) he19) rfl rfl rfl (set_mapW (f:=encO_Clause) (xs:=rw15) (y:=(Clause.mk e19.Id e19.Kind e19.Party e19.Action (w64 ((w64 ((w64 ((w64 (x3.1+1))+1))+1))+1)) e19.Amount e19.When e19.Within e19.Repair)) hrw20) sr_n 0 rfl)) ?_
  try rw[←len_setMW hrw20 (f:=encO_Clause) (xs:=rw15)]
  refine cq 12 [1,49,50,51] [I (w64 ((w64 ((w64 ((w64 ((w64 (x3.1+1))+1))+1))+1))+1)),.hs 1 0 [] 12 0 (rw20.map encO_Clause).length,I x3.2.1,I (w64 ((w64 ((w64 ((w64 ((w64 (x3.1+1))+1))+1))+1))+1))] 866 ?_
  obtain⟨e25,he25,h⟩:=bS h
  refine oq 882 (.hp 1 0 [] 12 (0+Int.toNat x3.2.1) 0) rfl (e_indexAddr rfl rfl rfl (ix_hsM (f:=encO_Clause) (xs:=rw20) rfl rfl rfl he25)) ?_
  refine cq 1 [53] [.hp 1 0 [] 12 (0+Int.toNat x3.2.1) 5] 898 ?_
  obtain⟨rw26,hrw26,h⟩:=lJ h
  refine o0 914 rfl rfl (e_st rfl rfl (st_at (path:=[]) (pl:=true) (e':=.agg [str e25.Id,I e25.Kind,I e25.Party,str e25.Action,I e25.Other,I (w64 ((w64 ((w64 ((w64 ((w64 (x3.1+1))+1))+1))+1))+1)),I e25.When.Op,str e25.When.Name,I e25.When.Day,.usl 4 (e25.When.Parts.map encO_Condition),I e25.Within,str e25.Repair]) (es2':=(rw26).map encO_Clause) rfl (absorb_plain rfl) rfl rfl rfl ra_n (get_map (f:=encO_Clause) (xs:=rw20) he25) rfl rfl rfl (set_mapW (f:=encO_Clause) (xs:=rw20) (y:=(Clause.mk e25.Id e25.Kind e25.Party e25.Action e25.Other (w64 ((w64 ((w64 ((w64 ((w64 (x3.1+1))+1))+1))+1))+1)) e25.When e25.Within e25.Repair)) hrw26) sr_n 0 rfl)) ?_
  try rw[←len_setMW hrw26 (f:=encO_Clause) (xs:=rw20)]
  refine cq 12 [1,56,57,58] [I (w64 ((w64 ((w64 ((w64 ((w64 ((w64 (x3.1+1))+1))+1))+1))+1))+1)),.hs 1 0 [] 12 0 (rw26.map encO_Clause).length,I x3.2.1,I (w64 ((w64 ((w64 ((w64 ((w64 ((w64 (x3.1+1))+1))+1))+1))+1))+1))] 1010 ?_
  obtain⟨e32,he32,h⟩:=bS h
  refine oq 1026 (.hp 1 0 [] 12 (0+Int.toNat x3.2.1) 0) rfl (e_indexAddr rfl rfl rfl (ix_hsM (f:=encO_Clause) (xs:=rw26) rfl rfl rfl he32)) ?_
  refine cq 2 [61] [.hp 1 0 [] 12 (0+Int.toNat x3.2.1) 6] 1058 ?_
  obtain⟨rw33,hrw33,h⟩:=lJ h
  refine o0 1074 rfl rfl (e_st rfl rfl (st_at (path:=[]) (pl:=true) (e':=.agg [str e32.Id,I e32.Kind,I e32.Party,str e32.Action,I e32.Other,I e32.Amount,I (w64 ((w64 ((w64 ((w64 ((w64 ((w64 (x3.1+1))+1))+1))+1))+1))+1)),str e32.When.Name,I e32.When.Day,.usl 4 (e32.When.Parts.map encO_Condition),I e32.Within,str e32.Repair]) (es2':=(rw33).map encO_Clause) rfl (absorb_plain rfl) rfl rfl rfl ra_n (get_map (f:=encO_Clause) (xs:=rw26) he32) rfl rfl rfl (set_mapW (f:=encO_Clause) (xs:=rw26) (y:=(Clause.mk e32.Id e32.Kind e32.Party e32.Action e32.Other e32.Amount (Condition.mk (w64 ((w64 ((w64 ((w64 ((w64 ((w64 (x3.1+1))+1))+1))+1))+1))+1)) e32.When.Name e32.When.Day e32.When.Parts) e32.Within e32.Repair)) hrw33) sr_n 0 rfl)) ?_
  try rw[←len_setMW hrw33 (f:=encO_Clause) (xs:=rw26)]
  refine cq 12 [1,64,65,66] [I (w64 ((w64 ((w64 ((w64 ((w64 ((w64 ((w64 (x3.1+1))+1))+1))+1))+1))+1))+1)),.hs 1 0 [] 12 0 (rw33.map encO_Clause).length,I x3.2.1,I (w64 ((w64 ((w64 ((w64 ((w64 ((w64 ((w64 (x3.1+1))+1))+1))+1))+1))+1))+1))] 1170 ?_
  obtain⟨r40,hr40,h⟩:=bS h
  refine oq 1186 (str r40) rfl (cP (Ffbi_F hr40)) ?_
  obtain⟨e41,he41,h⟩:=bS h
  refine oq 1202 (.hp 1 0 [] 12 (0+Int.toNat x3.2.1) 0) rfl (e_indexAddr rfl rfl rfl (ix_hsM (f:=encO_Clause) (xs:=rw33) rfl rfl rfl he41)) ?_
  refine cq 2 [70] [.hp 1 0 [] 12 (0+Int.toNat x3.2.1) 7] 1234 ?_
  obtain⟨rw42,hrw42,h⟩:=lJ h
  refine o0 1250 rfl rfl (e_st rfl rfl (st_at (path:=[]) (pl:=true) (e':=.agg [str e41.Id,I e41.Kind,I e41.Party,str e41.Action,I e41.Other,I e41.Amount,I e41.When.Op,str r40,I e41.When.Day,.usl 4 (e41.When.Parts.map encO_Condition),I e41.Within,str e41.Repair]) (es2':=(rw42).map encO_Clause) rfl (absorb_plain rfl) rfl rfl rfl ra_n (get_map (f:=encO_Clause) (xs:=rw33) he41) rfl rfl rfl (set_mapW (f:=encO_Clause) (xs:=rw33) (y:=(Clause.mk e41.Id e41.Kind e41.Party e41.Action e41.Other e41.Amount (Condition.mk e41.When.Op r40 e41.When.Day e41.When.Parts) e41.Within e41.Repair)) hrw42) sr_n 0 rfl)) ?_
  try rw[←len_setMW hrw42 (f:=encO_Clause) (xs:=rw33)]
  refine cq 12 [1,73,74,75] [I (w64 ((w64 ((w64 ((w64 ((w64 ((w64 ((w64 ((w64 (x3.1+1))+1))+1))+1))+1))+1))+1))+1)),.hs 1 0 [] 12 0 (rw42.map encO_Clause).length,I x3.2.1,I (w64 ((w64 ((w64 ((w64 ((w64 ((w64 ((w64 ((w64 (x3.1+1))+1))+1))+1))+1))+1))+1))+1))] 1346 ?_
  obtain⟨e50,he50,h⟩:=bS h
  refine oq 1362 (.hp 1 0 [] 12 (0+Int.toNat x3.2.1) 0) rfl (e_indexAddr rfl rfl rfl (ix_hsM (f:=encO_Clause) (xs:=rw42) rfl rfl rfl he50)) ?_
  refine cq 2 [78] [.hp 1 0 [] 12 (0+Int.toNat x3.2.1) 8] 1394 ?_
  obtain⟨rw51,hrw51,h⟩:=lJ h
  refine o0 1410 rfl rfl (e_st rfl rfl (st_at (path:=[]) (pl:=true) (e':=.agg [str e50.Id,I e50.Kind,I e50.Party,str e50.Action,I e50.Other,I e50.Amount,I e50.When.Op,str e50.When.Name,I (w64 ((w64 ((w64 ((w64 ((w64 ((w64 ((w64 ((w64 (x3.1+1))+1))+1))+1))+1))+1))+1))+1)),.usl 4 (e50.When.Parts.map encO_Condition),I e50.Within,str e50.Repair]) (es2':=(rw51).map encO_Clause) rfl (absorb_plain rfl) rfl rfl rfl ra_n (get_map (f:=encO_Clause) (xs:=rw42) he50) rfl rfl rfl (set_mapW (f:=encO_Clause) (xs:=rw42) (y:=(Clause.mk e50.Id e50.Kind e50.Party e50.Action e50.Other e50.Amount (Condition.mk e50.When.Op e50.When.Name (w64 ((w64 ((w64 ((w64 ((w64 ((w64 ((w64 ((w64 (x3.1+1))+1))+1))+1))+1))+1))+1))+1)) e50.When.Parts) e50.Within e50.Repair)) hrw51) sr_n 0 rfl)) ?_
  try rw[←len_setMW hrw51 (f:=encO_Clause) (xs:=rw42)]
  refine cq 11 [1,81,82] [I (w64 ((w64 ((w64 ((w64 ((w64 ((w64 ((w64 ((w64 ((w64 (x3.1+1))+1))+1))+1))+1))+1))+1))+1))+1)),.hs 1 0 [] 12 0 (rw51.map encO_Clause).length,I x3.2.1] 1490 ?_
  obtain⟨e60,he60,h⟩:=bS h
  refine oq 1506 (.hp 1 0 [] 12 (0+Int.toNat x3.2.1) 0) rfl (e_indexAddr rfl rfl rfl (ix_hsM (f:=encO_Clause) (xs:=rw51) rfl rfl rfl he60)) ?_
  refine cq 2 [85] [.hp 1 0 [] 12 (0+Int.toNat x3.2.1) 9] 1538 ?_
  refine oq 1554 (.hs 1 0 [((0+Int.toNat x3.2.1),9)] 4 0 (e60.When.Parts.map encO_Condition).length) rfl (e_ld rfl (ld_at (path:=[]) rfl rfl rfl ra_n (get_map (f:=encO_Clause) (xs:=rw51) he60) rfl rfl rfl)) ?_
  refine cq 1 [87] [I (w64 ((w64 ((w64 ((w64 ((w64 ((w64 ((w64 ((w64 ((w64 (x3.1+1))+1))+1))+1))+1))+1))+1))+1))+1))] 1570 ?_
  obtain⟨r61,hr61,h⟩:=bS h
  obtain⟨g62,h⟩:=gG h
  obtain⟨rw63,hrw63,h⟩:=lJ h
  refine oq 1586 (I r61.1) rfl (e_callV rfl rfl (call_P rfl rfl rfl (avO (hd1 rfl (hd_hs (path:=[((0+Int.toNat x3.2.1),9)]) rfl rfl (ra_c (get_map (f:=encO_Clause) (xs:=rw51) he60) rfl ra_n) rfl)) (avS (shP rfl) avN)) (Ffbe_F hr61) (.inr rfl) (bl_c rfl rfl rfl (bk_s (ra_c (get_map (f:=encO_Clause) (xs:=rw51) he60) rfl ra_n) (len_eqM (f:=encO_Condition) (xs:=e60.When.Parts) (ys:=r61.2) g62).symm (sr_c (get_map (f:=encO_Clause) (xs:=rw51) he60) rfl sr_n (rfl:(_:V)=.agg [str e60.Id,I e60.Kind,I e60.Party,str e60.Action,I e60.Other,I e60.Amount,I e60.When.Op,str e60.When.Name,I e60.When.Day,.usl 4 (r61.2.map encO_Condition),I e60.Within,str e60.Repair]) (set_mapW (f:=encO_Clause) (xs:=rw51) (y:=(Clause.mk e60.Id e60.Kind e60.Party e60.Action e60.Other e60.Amount (Condition.mk e60.When.Op e60.When.Name e60.When.Day r61.2) e60.Within e60.Repair)) hrw63))) bl_n) rfl rfl rfl)) ?_
  try rw[len_eqM (f:=encO_Condition) (xs:=e60.When.Parts) (ys:=r61.2) g62]
  try rw[←len_setMW hrw63 (f:=encO_Clause) (xs:=rw51)]
  refine cq 7 [1,89,90,91] [I r61.1,.hs 1 0 [] 12 0 (rw63.map encO_Clause).length,I x3.2.1,I r61.1] 1650 ?_
  obtain⟨e73,he73,h⟩:=bS h
  refine oq 1666 (.hp 1 0 [] 12 (0+Int.toNat x3.2.1) 0) rfl (e_indexAddr rfl rfl rfl (ix_hsM (f:=encO_Clause) (xs:=rw63) rfl rfl rfl he73)) ?_
  refine cq 1 [93] [.hp 1 0 [] 12 (0+Int.toNat x3.2.1) 10] 1682 ?_
  obtain⟨rw74,hrw74,h⟩:=lJ h
  refine o0 1698 rfl rfl (e_st rfl rfl (st_at (path:=[]) (pl:=true) (e':=.agg [str e73.Id,I e73.Kind,I e73.Party,str e73.Action,I e73.Other,I e73.Amount,I e73.When.Op,str e73.When.Name,I e73.When.Day,.usl 4 (e73.When.Parts.map encO_Condition),I r61.1,str e73.Repair]) (es2':=(rw74).map encO_Clause) rfl (absorb_plain rfl) rfl rfl rfl ra_n (get_map (f:=encO_Clause) (xs:=rw63) he73) rfl rfl rfl (set_mapW (f:=encO_Clause) (xs:=rw63) (y:=(Clause.mk e73.Id e73.Kind e73.Party e73.Action e73.Other e73.Amount e73.When r61.1 e73.Repair)) hrw74) sr_n 1 rfl)) ?_
  try rw[←len_setMW hrw74 (f:=encO_Clause) (xs:=rw63)]
  refine cq 12 [1,96,97,98] [I (w64 (r61.1+1)),.hs 1 0 [] 12 0 (rw74.map encO_Clause).length,I x3.2.1,I (w64 (r61.1+1))] 1794 ?_
  obtain⟨r85,hr85,h⟩:=bS h
  refine oq 1810 (str r85) rfl (cP (Ffbi_F hr85)) ?_
  obtain⟨e86,he86,h⟩:=bS h
  refine oq 1826 (.hp 1 0 [] 12 (0+Int.toNat x3.2.1) 0) rfl (e_indexAddr rfl rfl rfl (ix_hsM (f:=encO_Clause) (xs:=rw74) rfl rfl rfl he86)) ?_
  refine cq 1 [101] [.hp 1 0 [] 12 (0+Int.toNat x3.2.1) 11] 1842 ?_
  obtain⟨rw87,hrw87,h⟩:=lJ h
  refine o0 1858 rfl rfl (e_st rfl rfl (st_at (path:=[]) (pl:=true) (e':=.agg [str e86.Id,I e86.Kind,I e86.Party,str e86.Action,I e86.Other,I e86.Amount,I e86.When.Op,str e86.When.Name,I e86.When.Day,.usl 4 (e86.When.Parts.map encO_Condition),I e86.Within,str r85]) (es2':=(rw87).map encO_Clause) rfl (absorb_plain rfl) rfl rfl rfl ra_n (get_map (f:=encO_Clause) (xs:=rw74) he86) rfl rfl rfl (set_mapW (f:=encO_Clause) (xs:=rw74) (y:=(Clause.mk e86.Id e86.Kind e86.Party e86.Action e86.Other e86.Amount e86.When e86.Within r85)) hrw87) sr_n 1 rfl)) ?_
  try rw[←len_setMW hrw87 (f:=encO_Clause) (xs:=rw74)]
  refine cq 12 [1,5] [I (w64 ((w64 (r61.1+1))+1)),I (w64 (x3.2.1+1))] 1954 ?_
  refine s_lp ?_
  exact rf [0,1,5] [1] (ih _ _ h hr hn :)
 ·refine aq 1 ?_
  exact rf [1] [1] (hn _ (Option.some.inj h).symm :) (hk:=hK)
theorem Ffbd_run (a_7:List Clause)(k_8:Int)(r:Int×(List Clause))(h:Ffbd a_7 k_8=some r):RunF Ffbd_E Tryz.f64 [true,false] 1 (Ffbd_A (a_7,k_8)) (Ffbd_R r):=by
 show Run _ _ (Ffbd_Q (a_7,k_8) r) [.code Ffbd_c] _
 refine rI 105 [(0,.hs 1 0 [] 12 0 (a_7.map encO_Clause).length),(1,I k_8)] [(1,some ⟨0,12,a_7.map encO_Clause⟩)] 2 ?_
 unfold Ffbd at h
 refine cq 10 [5] [I (0)] 34 ?_
 obtain⟨y99,hy99,hy991,hy992⟩:=bJ h
 refine s_loop rfl ?_
 refine rf [0,1,5] [1] (Ffbd_la_run a_7 k_8 rfl (k_8,0,a_7) _ hy99 (fun r' e st hq=>by rw[hy991 r' e] at hq;exact hq) fun u99 hu=>?_)
 replace h:=hy992 u99 hu
 refine cq 5 [4] [I u99.1] 34 ?_
 obtain⟨g100,h⟩:=gG h
 obtain rfl:=Option.some.inj h
 exact s_ret rfl ⟨_,fin (vs:=[I u99.1]) rfl (absE (absorb_plain rfl) absEN) rfl (ou_1 rfl (oc_hsG (f:=encO_Clause) (xs:=u99.2) (by simpa using g100) rfl) (ou_f ou_n)),kl_c kl_n⟩
theorem Ffbd_good {G:Go.Ln.Ground}:Good Tryz.prog G 64 Ffbd_ent:=gT 2 1 (gl_c Ffbi_good (gl_c Ffbe_good gl_n)) (Checked.mixed Tryz.checked) Tryz.func64 (fun a r h=>Ffbd_run a.1 a.2 r h)
def Ffbf_A:(Contract×Int)→List V:=cA encO_Contract (oA I)
def Ffbf_R (r:Int):V×List V:=(I r,[.dead])
noncomputable def Ffbf_ent:Ent:=entT [true,false] Ffbf_A Ffbf_R fun x=>Ffbf x.1 x.2
theorem Ffbf_F {a_7:Contract}{k_8:Int}{r}(h:Ffbf a_7 k_8=some r):Ffbf_ent.F (Ffbf_A (a_7,k_8))=some (Ffbf_R r):=entT_F (cA_inj encO_Contract_inj (oA_inj I_inj)) h
noncomputable def Ffbf_c:Code:=bodyOf Tryz.f21
noncomputable def Ffbf_E:Env:=mkE Tryz.prog [(63,Ffbh_ent),(64,Ffbd_ent)]
def Ffbf_Q (x:Contract×Int)(r:Int):St→Prop:=QF Ffbf_E Tryz.f21 [true,false] (Ffbf_A x) (Ffbf_R r)
theorem Ffbf_run (a_7:Contract)(k_8:Int)(r:Int)(h:Ffbf a_7 k_8=some r):RunF Ffbf_E Tryz.f21 [true,false] 2 (Ffbf_A (a_7,k_8)) (Ffbf_R r):=by
 show Run _ _ (Ffbf_Q (a_7,k_8) r) [.code Ffbf_c] _
 refine rI 14 [(0,.agg [.hs 1 0 [] 1 0 (a_7.Parties.map str).length,.hs 2 0 [] 12 0 (a_7.Clauses.map encO_Clause).length]),(1,I k_8)] [(1,some ⟨0,1,a_7.Parties.map str⟩),(2,some ⟨0,12,a_7.Clauses.map encO_Clause⟩)] 3 ?_
 unfold Ffbf at h
 refine aq 2 ?_
 refine oq 19 (.hp 3 0 [] 2 0 0) rfl (e_boxA rfl (absA (absC (abs_hs rfl rfl) (absC (abs_hs rfl rfl) absN))) rfl) ?_
 refine cq 7 [6,7] [.hs 3 0 [(0,0)] 1 0 (a_7.Parties.map str).length,I k_8] 83 ?_
 obtain⟨r3,hr3,h⟩:=bS h
 obtain⟨g4,h⟩:=gG h
 refine oq 99 (I r3.1) rfl (e_callV rfl rfl (call_P rfl rfl rfl (avO (hd1 rfl (hd_hs (path:=[(0,0)]) rfl rfl (ra_c rfl rfl ra_n) rfl)) (avS (shP rfl) avN)) (Ffbh_F hr3) (.inr rfl) (bl_c rfl rfl rfl (bk_s (ra_c rfl rfl ra_n) (len_eqM (f:=str) (xs:=a_7.Parties) (ys:=r3.2) g4).symm (sr_c rfl rfl sr_n (rfl:(_:V)=.agg [.usl 1 (r3.2.map str),.usl 12 (a_7.Clauses.map encO_Clause)]) rfl)) bl_n) rfl rfl rfl)) ?_
 try rw[len_eqM (f:=str) (xs:=a_7.Parties) (ys:=r3.2) g4]
 refine ck 7 [10,11] [1] [] [] [.hs 3 1 [(0,1)] 12 0 (a_7.Clauses.map encO_Clause).length,I r3.1] [] 163 (by kernel_rfl) ?_
 obtain⟨r5,hr5,h⟩:=bS h
 obtain⟨g6,h⟩:=gG h
 refine oq 179 (I r5.1) rfl (e_callV rfl rfl (call_P rfl rfl rfl (avO (hd1 rfl (hd_hs (path:=[(0,1)]) rfl rfl (ra_c rfl rfl ra_n) rfl)) (avS (shP rfl) avN)) (Ffbd_F hr5) (.inr rfl) (bl_c rfl rfl rfl (bk_s (ra_c rfl rfl ra_n) (len_eqM (f:=encO_Clause) (xs:=a_7.Clauses) (ys:=r5.2) g6).symm (sr_c rfl rfl sr_n (rfl:(_:V)=.agg [.usl 1 (r3.2.map str),.usl 12 (r5.2.map encO_Clause)]) rfl)) bl_n) rfl rfl rfl)) ?_
 try rw[len_eqM (f:=encO_Clause) (xs:=a_7.Clauses) (ys:=r5.2) g6]
 refine cq 7 [4] [I r5.1] 227 ?_
 obtain rfl:=Option.some.inj h
 exact s_ret rfl ⟨_,fin (vs:=[I r5.1]) rfl (absE (absorb_plain rfl) absEN) rfl (ou_a (mc (oc_no rfl) (mc (oc_no rfl) mn)) (ou_f ou_n)),kl_d kl_n⟩
theorem Ffbf_good {G:Go.Ln.Ground}:Good Tryz.prog G 21 Ffbf_ent:=gT 2 2 (gl_c Ffbh_good (gl_c Ffbd_good gl_n)) (Checked.mixed Tryz.checked) Tryz.func21 (fun a r h=>Ffbf_run a.1 a.2 r h)
def Ffbg_A:((List Entry)×Int)→List V:=cA (usE 4 enc_Entry) (oA I)
def Ffbg_R (r:Int×(List Entry)):V×List V:=(I r.1,[.usl 4 (r.2.map enc_Entry)])
noncomputable def Ffbg_ent:Ent:=entT [true,false] Ffbg_A Ffbg_R fun x=>Ffbg x.1 x.2
theorem Ffbg_F {a_6:List Entry}{k_7:Int}{r}(h:Ffbg a_6 k_7=some r):Ffbg_ent.F (Ffbg_A (a_6,k_7))=some (Ffbg_R r):=entT_F (cA_inj (usl_inj enc_Entry_inj) (oA_inj I_inj)) h
noncomputable def Ffbg_c:Code:=bodyOf Tryz.f37
noncomputable def Ffbg_E:Env:=mkE Tryz.prog []
def Ffbg_Q (x:(List Entry)×Int)(r:Int×(List Entry)):St→Prop:=QF Ffbg_E Tryz.f37 [true,false] (Ffbg_A x) (Ffbg_R r)
theorem Ffbg_la_run (a_6:List Entry)(k_7:Int){Q:St→Prop}{K:List It}(hK:noD K=true):∀(x3:Int×Int×(List Entry)) (y:(Int×(List Entry))⊕(Int×(List Entry))),Ffbg_la a_6 k_7 x3=some y→(∀r',y=.inl r'→∀st,Ffbg_Q (a_6,k_7) r' st→Q st)→(∀u:Int×(List Entry),y=.inr u→Run Ffbg_E 1 Q K (sT 41 [(1,I u.1)] [⟨0,4,u.2.map enc_Entry⟩] 2))→Run Ffbg_E 1 Q (.code (cL (cL (cR (cL (cR Ffbg_c)))))::.lp (cL (cL (cR (cL (cR Ffbg_c)))))::.blk 0::K) (sT 41 [(0,.hs 1 0 [] 4 0 (x3.2.2.map enc_Entry).length),(1,I x3.1),(5,I x3.2.1)] [⟨0,4,x3.2.2.map enc_Entry⟩] 2):=by
 refine fix_indP (Ffbg_la_fin a_6 k_7) ?_
 intro self ih x3 y h hr hn
 unfold Ffbg_la_F at h
 refine cq 5 [6,7] [I x3.2.1,.hs 1 0 [] 4 0 (x3.2.2.map enc_Entry).length] 34 ?_
 refine oq 50 (I (len x3.2.2)) rfl (e_len rfl rfl rfl (l_hsM (f:=enc_Entry) (xs:=x3.2.2) rfl rfl)) ?_
 refine cq 2 [9] [B (decide (x3.2.1<(len x3.2.2)))] 66 ?_
 refine sq h (fun h=>?_) fun h=>?_
 ·refine aq 1 ?_
  refine cq 7 [12,13,14] [.hs 1 0 [] 4 0 (x3.2.2.map enc_Entry).length,I x3.2.1,I x3.1] 114 ?_
  obtain⟨e4,he4,h⟩:=bS h
  refine oq 130 (.hp 1 0 [] 4 (0+Int.toNat x3.2.1) 0) rfl (e_indexAddr rfl rfl rfl (ix_hsM (f:=enc_Entry) (xs:=x3.2.2) rfl rfl rfl he4)) ?_
  refine cq 1 [16] [.hp 1 0 [] 4 (0+Int.toNat x3.2.1) 0] 146 ?_
  refine o0 162 rfl rfl (e_st rfl rfl (st_at (path:=[]) (pl:=true) (e':=.agg [I x3.1,I e4.Kind,I e4.Clause,I e4.Party]) (es2':=(setI x3.2.2 x3.2.1 (Entry.mk x3.1 e4.Kind e4.Clause e4.Party)).map enc_Entry) rfl (absorb_plain rfl) rfl rfl rfl ra_n (get_map (f:=enc_Entry) (xs:=x3.2.2) he4) rfl rfl rfl (set_map (f:=enc_Entry) (xs:=x3.2.2) (y:=(Entry.mk x3.1 e4.Kind e4.Clause e4.Party))) sr_n 0 rfl)) ?_
  try rw[←len_setM (f:=enc_Entry) (xs:=x3.2.2) (i:=x3.2.1) (z:=(Entry.mk x3.1 e4.Kind e4.Clause e4.Party))]
  refine cq 12 [1,19,20,21] [I (w64 (x3.1+1)),.hs 1 0 [] 4 0 ((setI x3.2.2 x3.2.1 (Entry.mk x3.1 e4.Kind e4.Clause e4.Party)).map enc_Entry).length,I x3.2.1,I (w64 (x3.1+1))] 258 ?_
  obtain⟨e5,he5,h⟩:=bS h
  refine oq 274 (.hp 1 0 [] 4 (0+Int.toNat x3.2.1) 0) rfl (e_indexAddr rfl rfl rfl (ix_hsM (f:=enc_Entry) (xs:=(setI x3.2.2 x3.2.1 (Entry.mk x3.1 e4.Kind e4.Clause e4.Party))) rfl rfl rfl he5)) ?_
  refine cq 1 [23] [.hp 1 0 [] 4 (0+Int.toNat x3.2.1) 1] 290 ?_
  obtain⟨rw6,hrw6,h⟩:=lJ h
  refine o0 306 rfl rfl (e_st rfl rfl (st_at (path:=[]) (pl:=true) (e':=.agg [I e5.Day,I (w64 (x3.1+1)),I e5.Clause,I e5.Party]) (es2':=(rw6).map enc_Entry) rfl (absorb_plain rfl) rfl rfl rfl ra_n (get_map (f:=enc_Entry) (xs:=(setI x3.2.2 x3.2.1 (Entry.mk x3.1 e4.Kind e4.Clause e4.Party))) he5) rfl rfl rfl (set_mapW (f:=enc_Entry) (xs:=(setI x3.2.2 x3.2.1 (Entry.mk x3.1 e4.Kind e4.Clause e4.Party))) (y:=(Entry.mk e5.Day (w64 (x3.1+1)) e5.Clause e5.Party)) hrw6) sr_n 0 rfl)) ?_
  try rw[←len_setMW hrw6 (f:=enc_Entry) (xs:=(setI x3.2.2 x3.2.1 (Entry.mk x3.1 e4.Kind e4.Clause e4.Party)))]
  refine cq 12 [1,26,27,28] [I (w64 ((w64 (x3.1+1))+1)),.hs 1 0 [] 4 0 (rw6.map enc_Entry).length,I x3.2.1,I (w64 ((w64 (x3.1+1))+1))] 402 ?_
  obtain⟨e8,he8,h⟩:=bS h
  refine oq 418 (.hp 1 0 [] 4 (0+Int.toNat x3.2.1) 0) rfl (e_indexAddr rfl rfl rfl (ix_hsM (f:=enc_Entry) (xs:=rw6) rfl rfl rfl he8)) ?_
  refine cq 1 [30] [.hp 1 0 [] 4 (0+Int.toNat x3.2.1) 2] 434 ?_
  obtain⟨rw9,hrw9,h⟩:=lJ h
  refine o0 450 rfl rfl (e_st rfl rfl (st_at (path:=[]) (pl:=true) (e':=.agg [I e8.Day,I e8.Kind,I (w64 ((w64 (x3.1+1))+1)),I e8.Party]) (es2':=(rw9).map enc_Entry) rfl (absorb_plain rfl) rfl rfl rfl ra_n (get_map (f:=enc_Entry) (xs:=rw6) he8) rfl rfl rfl (set_mapW (f:=enc_Entry) (xs:=rw6) (y:=(Entry.mk e8.Day e8.Kind (w64 ((w64 (x3.1+1))+1)) e8.Party)) hrw9) sr_n 0 rfl)) ?_
  try rw[←len_setMW hrw9 (f:=enc_Entry) (xs:=rw6)]
  refine cq 12 [1,33,34,35] [I (w64 ((w64 ((w64 (x3.1+1))+1))+1)),.hs 1 0 [] 4 0 (rw9.map enc_Entry).length,I x3.2.1,I (w64 ((w64 ((w64 (x3.1+1))+1))+1))] 546 ?_
  obtain⟨e12,he12,h⟩:=bS h
  refine oq 562 (.hp 1 0 [] 4 (0+Int.toNat x3.2.1) 0) rfl (e_indexAddr rfl rfl rfl (ix_hsM (f:=enc_Entry) (xs:=rw9) rfl rfl rfl he12)) ?_
  refine cq 1 [37] [.hp 1 0 [] 4 (0+Int.toNat x3.2.1) 3] 578 ?_
  obtain⟨rw13,hrw13,h⟩:=lJ h
  refine o0 594 rfl rfl (e_st rfl rfl (st_at (path:=[]) (pl:=true) (e':=.agg [I e12.Day,I e12.Kind,I e12.Clause,I (w64 ((w64 ((w64 (x3.1+1))+1))+1))]) (es2':=(rw13).map enc_Entry) rfl (absorb_plain rfl) rfl rfl rfl ra_n (get_map (f:=enc_Entry) (xs:=rw9) he12) rfl rfl rfl (set_mapW (f:=enc_Entry) (xs:=rw9) (y:=(Entry.mk e12.Day e12.Kind e12.Clause (w64 ((w64 ((w64 (x3.1+1))+1))+1)))) hrw13) sr_n 0 rfl)) ?_
  try rw[←len_setMW hrw13 (f:=enc_Entry) (xs:=rw9)]
  refine cq 12 [1,5] [I (w64 ((w64 ((w64 ((w64 (x3.1+1))+1))+1))+1)),I (w64 (x3.2.1+1))] 690 ?_
  refine s_lp ?_
  exact rf [0,1,5] [1] (ih _ _ h hr hn :)
 ·refine aq 1 ?_
  exact rf [1] [1] (hn _ (Option.some.inj h).symm :) (hk:=hK)
theorem Ffbg_run (a_6:List Entry)(k_7:Int)(r:Int×(List Entry))(h:Ffbg a_6 k_7=some r):RunF Ffbg_E Tryz.f37 [true,false] 1 (Ffbg_A (a_6,k_7)) (Ffbg_R r):=by
 show Run _ _ (Ffbg_Q (a_6,k_7) r) [.code Ffbg_c] _
 refine rI 41 [(0,.hs 1 0 [] 4 0 (a_6.map enc_Entry).length),(1,I k_7)] [(1,some ⟨0,4,a_6.map enc_Entry⟩)] 2 ?_
 unfold Ffbg at h
 refine cq 10 [5] [I (0)] 34 ?_
 obtain⟨y17,hy17,hy171,hy172⟩:=bJ h
 refine s_loop rfl ?_
 refine rf [0,1,5] [1] (Ffbg_la_run a_6 k_7 rfl (k_7,0,a_6) _ hy17 (fun r' e st hq=>by rw[hy171 r' e] at hq;exact hq) fun u17 hu=>?_)
 replace h:=hy172 u17 hu
 refine cq 5 [4] [I u17.1] 34 ?_
 obtain⟨g18,h⟩:=gG h
 obtain rfl:=Option.some.inj h
 exact s_ret rfl ⟨_,fin (vs:=[I u17.1]) rfl (absE (absorb_plain rfl) absEN) rfl (ou_1 rfl (oc_hsG (f:=enc_Entry) (xs:=u17.2) (by simpa using g18) rfl) (ou_f ou_n)),kl_c kl_n⟩
theorem Ffbg_good {G:Go.Ln.Ground}:Good Tryz.prog G 37 Ffbg_ent:=gT 2 1 gl_n (Checked.mixed Tryz.checked) Tryz.func37 (fun a r h=>Ffbg_run a.1 a.2 r h)
def Ffbc_A:((List Entry)×Int)→List V:=cA (slE enc_Entry) (oA I)
def Ffbc_R (r:Int):V×List V:=(I r,[])
noncomputable def Ffbc_ent:Ent:=entT [false,false] Ffbc_A Ffbc_R fun x=>Ffbc x.1 x.2
theorem Ffbc_F {a_1:List Entry}{k_2:Int}{r}(h:Ffbc a_1 k_2=some r):Ffbc_ent.F (Ffbc_A (a_1,k_2))=some (Ffbc_R r):=entT_F (cA_inj (isl_inj enc_Entry_inj) (oA_inj I_inj)) h
noncomputable def Ffbc_c:Code:=bodyOf Tryz.f38
noncomputable def Ffbc_E:Env:=mkE Tryz.prog []
def Ffbc_Q (x:(List Entry)×Int)(r:Int):St→Prop:=QF Ffbc_E Tryz.f38 [false,false] (Ffbc_A x) (Ffbc_R r)
theorem Ffbc_la_run (a_1:List Entry)(k_2:Int){Q:St→Prop}{K:List It}(hK:noD K=true):∀(x3:Int×Int) (y:Int⊕Int),Ffbc_la a_1 k_2 x3=some y→(∀r',y=.inl r'→∀st,Ffbc_Q (a_1,k_2) r' st→Q st)→(∀u:Int,y=.inr u→Run Ffbc_E 0 Q K (sT 49 [(1,I u)] [] 1))→Run Ffbc_E 0 Q (.code (cL (cL (cR (cL (cR Ffbc_c)))))::.lp (cL (cL (cR (cL (cR Ffbc_c)))))::.blk 0::K) (sT 49 [(0,.isl false (a_1.map enc_Entry)),(1,I x3.1),(5,I x3.2)] [] 1):=by
 refine fix_indP (Ffbc_la_fin a_1 k_2) ?_
 intro self ih x3 y h hr hn
 unfold Ffbc_la_F at h
 refine cq 5 [6,7] [I x3.2,.isl false (a_1.map enc_Entry)] 33 ?_
 refine oq 49 (I (len a_1)) rfl (e_len rfl rfl rfl (l_isl rfl)) ?_
 refine cq 2 [9] [B (decide (x3.2<(len a_1)))] 65 ?_
 refine sq h (fun h=>?_) fun h=>?_
 ·refine aq 1 ?_
  refine cq 7 [12,13] [.isl false (a_1.map enc_Entry),I x3.2] 97 ?_
  obtain⟨e4,he4,h⟩:=bS h
  refine oq 113 (.iptr (enc_Entry e4) 0) rfl (e_indexAddr rfl rfl rfl (ix_islE rfl rfl rfl rfl he4)) ?_
  refine cq 5 [18] [B (e4.Day != x3.1)] 177 ?_
  refine sq h (fun h=>?_) fun h=>?_
  ·refine cq 4 [4] [I (-1)] 193 ?_
   exact s_ret rfl (hr _ (Option.some.inj h).symm _ (qp [I (-1)]))
  ·refine aq 1 ?_
   refine cq 11 [1,21,22] [I (w64 (x3.1+1)),.isl false (a_1.map enc_Entry),I x3.2] 257 ?_
   obtain⟨e5,he5,h⟩:=bS h
   refine oq 273 (.iptr (enc_Entry e5) 0) rfl (e_indexAddr rfl rfl rfl (ix_islE rfl rfl rfl rfl he5)) ?_
   refine cq 5 [27] [B (e5.Kind != (w64 (x3.1+1)))] 337 ?_
   refine sq h (fun h=>?_) fun h=>?_
   ·refine cq 4 [4] [I (-1)] 353 ?_
    exact s_ret rfl (hr _ (Option.some.inj h).symm _ (qp [I (-1)]))
   ·refine aq 1 ?_
    refine cq 11 [1,30,31] [I (w64 ((w64 (x3.1+1))+1)),.isl false (a_1.map enc_Entry),I x3.2] 417 ?_
    obtain⟨e6,he6,h⟩:=bS h
    refine oq 433 (.iptr (enc_Entry e6) 0) rfl (e_indexAddr rfl rfl rfl (ix_islE rfl rfl rfl rfl he6)) ?_
    refine cq 5 [36] [B (e6.Clause != (w64 ((w64 (x3.1+1))+1)))] 497 ?_
    refine sq h (fun h=>?_) fun h=>?_
    ·refine cq 4 [4] [I (-1)] 513 ?_
     exact s_ret rfl (hr _ (Option.some.inj h).symm _ (qp [I (-1)]))
    ·refine aq 1 ?_
     refine cq 11 [1,39,40] [I (w64 ((w64 ((w64 (x3.1+1))+1))+1)),.isl false (a_1.map enc_Entry),I x3.2] 577 ?_
     obtain⟨e7,he7,h⟩:=bS h
     refine oq 593 (.iptr (enc_Entry e7) 0) rfl (e_indexAddr rfl rfl rfl (ix_islE rfl rfl rfl rfl he7)) ?_
     refine cq 5 [45] [B (e7.Party != (w64 ((w64 ((w64 (x3.1+1))+1))+1)))] 657 ?_
     refine sq h (fun h=>?_) fun h=>?_
     ·refine cq 4 [4] [I (-1)] 673 ?_
      exact s_ret rfl (hr _ (Option.some.inj h).symm _ (qp [I (-1)]))
     ·refine aq 1 ?_
      refine cq 11 [1,5] [I (w64 ((w64 ((w64 ((w64 (x3.1+1))+1))+1))+1)),I (w64 (x3.2+1))] 753 ?_
      refine s_lp ?_
      exact rf [0,1,5] [] (ih _ _ h hr hn :)
 ·refine aq 1 ?_
  exact rf [1] [] (hn _ (Option.some.inj h).symm :) (hk:=hK)
theorem Ffbc_run (a_1:List Entry)(k_2:Int)(r:Int)(h:Ffbc a_1 k_2=some r):RunF Ffbc_E Tryz.f38 [false,false] 0 (Ffbc_A (a_1,k_2)) (Ffbc_R r):=by
 show Run _ _ (Ffbc_Q (a_1,k_2) r) [.code Ffbc_c] _
 refine rI 49 [(0,.isl false (a_1.map enc_Entry)),(1,I k_2)] [] 1 ?_
 unfold Ffbc at h
 refine cq 10 [5] [I (0)] 33 ?_
 obtain⟨y8,hy8,hy81,hy82⟩:=bJ h
 refine s_loop rfl ?_
 refine rf [0,1,5] [] (Ffbc_la_run a_1 k_2 rfl (k_2,0) _ hy8 (fun r' e st hq=>by rw[hy81 r' e] at hq;exact hq) fun u8 hu=>?_)
 replace h:=hy82 u8 hu
 refine cq 5 [4] [I u8] 33 ?_
 obtain rfl:=Option.some.inj h
 exact s_ret rfl (qp [I u8])
theorem Ffbc_good {G:Go.Ln.Ground}:Good Tryz.prog G 38 Ffbc_ent:=gT 2 0 gl_n (Checked.mixed Tryz.checked) Tryz.func38 (fun a r h=>Ffbc_run a.1 a.2 r h)
def laws_FnExactBreachesBy_A:(Contract×(List Entry)×Int)→List V:=cA encI_Contract (cA (slE enc_Entry) (oA I))
def laws_FnExactBreachesBy_R (r:Bool):V×List V:=(B r,[])
noncomputable def laws_FnExactBreachesBy_ent:Ent:=entT [false,false,false] laws_FnExactBreachesBy_A laws_FnExactBreachesBy_R fun x=>laws_FnExactBreachesBy x.1 x.2.1 x.2.2
theorem laws_FnExactBreachesBy_F {aC_1:Contract}{aTrace_2:List Entry}{aParty_3:Int}{r}(h:laws_FnExactBreachesBy aC_1 aTrace_2 aParty_3=some r):laws_FnExactBreachesBy_ent.F (laws_FnExactBreachesBy_A (aC_1,aTrace_2,aParty_3))=some (laws_FnExactBreachesBy_R r):=entT_F (cA_inj encI_Contract_inj (cA_inj (isl_inj enc_Entry_inj) (oA_inj I_inj))) h
noncomputable def laws_FnExactBreachesBy_c:Code:=bodyOf Tryz.f7
noncomputable abbrev laws_FnExactBreachesBy_ka:Code:=cR (cR (cR (cR (cR (cR (cR (cR (cR (cR (cR (cR (cR (cR (cR (cR (cR laws_FnExactBreachesBy_c))))))))))))))))
noncomputable abbrev laws_FnExactBreachesBy_kb:Code:=cR (cL (cR (cR (cR (cR (cR (cR (cR (cR (cR (cR (cR (cR (cR (cR (cR (cR laws_FnExactBreachesBy_c)))))))))))))))))
noncomputable def laws_FnExactBreachesBy_E:Env:=mkE Tryz.prog [(10,Ffbo_ent),(11,Ffbp_ent),(13,Ffbw_ent),(14,Ffby_ent),(35,Ffck_ent),(36,Ffa_ent),(17,Ffba_ent),(16,Ffy_ent),(21,Ffbf_ent),(37,Ffbg_ent),(38,Ffbc_ent)]
def laws_FnExactBreachesBy_Q (x:Contract×(List Entry)×Int)(r:Bool):St→Prop:=QF laws_FnExactBreachesBy_E Tryz.f7 [false,false,false] (laws_FnExactBreachesBy_A x) (laws_FnExactBreachesBy_R r)
theorem laws_FnExactBreachesBy_run (aC_1:Contract)(aTrace_2:List Entry)(aParty_3:Int)(r:Bool)(h:laws_FnExactBreachesBy aC_1 aTrace_2 aParty_3=some r):RunF laws_FnExactBreachesBy_E Tryz.f7 [false,false,false] 0 (laws_FnExactBreachesBy_A (aC_1,aTrace_2,aParty_3)) (laws_FnExactBreachesBy_R r):=by
 show Run _ _ (laws_FnExactBreachesBy_Q (aC_1,aTrace_2,aParty_3) r) [.code laws_FnExactBreachesBy_c] _
 refine rI 124 [(0,encI_Contract aC_1),(1,.isl false (aTrace_2.map enc_Entry)),(2,I aParty_3)] [] 1 ?_
 unfold laws_FnExactBreachesBy at h
 refine ck 13 [3,19,20] [] [1] [] [.hp 1 0 [] 2 0 0,encI_Contract aC_1,I (1048576)] [some ⟨0,2,[encI_Contract aC_1]⟩] 81 (by kernel_rfl) ?_
 obtain⟨r4,hr4,h⟩:=bS h
 refine oq 97 (I r4) rfl (cP (Ffbo_F hr4)) ?_
 refine cq 8 [7,23] [I r4,B (decide (r4<0))] 145 ?_
 refine sq h (fun h=>?_) fun h=>?_
 ·refine cq 4 [6] [B true] 161 ?_
  obtain rfl:=Option.some.inj h
  exact s_ret rfl (qp [B true])
 ·refine aq 1 ?_
  refine cq 4 [24,25] [.isl false (aTrace_2.map enc_Entry),I r4] 177 ?_
  obtain⟨r5,hr5,h⟩:=bS h
  refine oq 193 (I r5) rfl (cP (Ffbp_F hr5)) ?_
  refine ck 8 [28] [7] [] [] [B (decide (r5<0))] [] 241 (by kernel_rfl) ?_
  refine sq h (fun h=>?_) fun h=>?_
  ·refine cq 4 [6] [B true] 257 ?_
   obtain rfl:=Option.some.inj h
   exact s_ret rfl (qp [B true])
  ·refine aq 1 ?_
   refine cq 3 [30] [encI_Contract aC_1] 257 ?_
   obtain⟨r6,hr6,h⟩:=bS h
   refine oq 273 (.agg [.hs 257 0 [] 1 0 (r6.Parties.map str).length,.hs 258 0 [] 12 0 (r6.Clauses.map encO_Clause).length]) rfl (cP (Ffbw_F hr6)) ?_
   refine cq 1 [32] [.isl false (aTrace_2.map enc_Entry)] 289 ?_
   obtain⟨r7,hr7,h⟩:=bS h
   refine oq 305 (.hs 289 0 [] 4 0 (r7.map enc_Entry).length) rfl (cP (Ffby_F hr7)) ?_
   refine cq 1 [34] [I aParty_3] 321 ?_
   obtain⟨r8,hr8,h⟩:=bS h
   refine oq 337 (.tup [.hs 321 0 [] 4 0 (r8.1.map enc_Entry).length,B r8.2]) rfl (e_callV rfl rfl (call_P rfl rfl rfl (avS (shA (shC (sh_hsM (f:=str) (g:=str) (xs:=r6.Parties) rfl rfl (imms_of str_imm)) (shC (sh_hsM (f:=encO_Clause) (g:=encI_Clause) (xs:=r6.Clauses) rfl rfl (imms_of encO_Clause_imm)) shN))) (avS (sh1 rfl rfl (sh_hsM (f:=enc_Entry) (g:=enc_Entry) (xs:=r7) rfl rfl (imms_of enc_Entry_imm))) (avS (shP rfl) avN))) (Ffck_F hr8) (.inl (by simp[hasImm,hasImms,str,himm_map (f:=enc_Entry) enc_Entry_himm])) bl_n rfl rfl rfl)) ?_
   refine cq 9 [8,9,38] [.hs 321 0 [] 4 0 (r8.1.map enc_Entry).length,B r8.2,encI_Contract aC_1] 433 ?_
   obtain⟨r9,hr9,h⟩:=bS h
   refine oq 449 (.agg [.hs 433 0 [] 1 0 (r9.Parties.map str).length,.hs 434 0 [] 12 0 (r9.Clauses.map encO_Clause).length]) rfl (cP (Ffbw_F hr9)) ?_
   refine ck 1 [10] [] [449] [] [.hp 449 0 [] 2 0 0] [some ⟨0,2,[.agg [.isl true [],.isl true []]]⟩] 465 (by kernel_rfl) ?_
   refine run_row 449 [.agg [.usl 1 (([]).map str),.usl 12 (([]).map encO_Clause)]] rfl rfl (cvs_c (cv_agg (cvs_c (.nil _) (cvs_c (.nil _) cvs_n))) cvs_n) ?_
   refine o0 481 rfl rfl (e_st rfl rfl (st_at (path:=[]) (pl:=false) (e':=.agg [.usl 1 (r9.Parties.map str),.usl 12 (r9.Clauses.map encO_Clause)]) (es2':=[.agg [.usl 1 (r9.Parties.map str),.usl 12 (r9.Clauses.map encO_Clause)]]) rfl (absA (absC (abs_hs rfl rfl) (absC (abs_hs rfl rfl) absN))) rfl rfl rfl ra_n rfl rfl rfl rfl rfl sr_n 2 rfl)) ?_
   refine cq 4 [40] [.isl false (aTrace_2.map enc_Entry)] 497 ?_
   obtain⟨r10,hr10,h⟩:=bS h
   refine oq 513 (.hs 497 0 [] 4 0 (r10.map enc_Entry).length) rfl (cP (Ffby_F hr10)) ?_
   refine cq 7 [11,43,44,45] [.hs 497 0 [] 4 0 (r10.map enc_Entry).length,.agg [.hs 449 2 [(0,0)] 1 0 (r9.Parties.map str).length,.hs 449 2 [(0,1)] 12 0 (r9.Clauses.map encO_Clause).length],.hs 497 0 [] 4 0 (r10.map enc_Entry).length,I aParty_3] 577 ?_
   obtain⟨r11,hr11,h⟩:=bS h
   refine oq 593 (.tup [.hs 577 0 [] 4 0 (r11.1.map enc_Entry).length,B r11.2]) rfl (e_callV rfl rfl (call_P rfl rfl rfl (avS (shA (shC (sh_at (path:=[(0,0)]) rfl rfl (ra_c rfl rfl ra_n) rfl (imms_of (f:=str) str_imm)) (shC (sh_at (path:=[(0,1)]) rfl rfl (ra_c rfl rfl ra_n) rfl (imms_of (f:=encO_Clause) encO_Clause_imm)) shN))) (avS (sh1 rfl rfl (sh_hsM (f:=enc_Entry) (g:=enc_Entry) (xs:=r10) rfl rfl (imms_of enc_Entry_imm))) (avS (shP rfl) avN))) (Ffa_F hr11) (.inl (by simp[hasImm,hasImms,str,himm_map (f:=enc_Entry) enc_Entry_himm])) bl_n rfl rfl rfl)) ?_
   refine cq 11 [12,13,49,50] [.hs 577 0 [] 4 0 (r11.1.map enc_Entry).length,B r11.2,.hs 577 0 [] 4 0 (r11.1.map enc_Entry).length,.hs 321 0 [] 4 0 (r8.1.map enc_Entry).length] 705 ?_
   obtain⟨r12,hr12,h⟩:=bS h
   refine oq 721 (B r12) rfl (e_callV rfl rfl (call_P rfl rfl rfl (avS (sh1 rfl rfl (sh_hsM (f:=enc_Entry) (g:=enc_Entry) (xs:=r11.1) rfl rfl (imms_of enc_Entry_imm))) (avS (sh1 rfl rfl (sh_hsM (f:=enc_Entry) (g:=enc_Entry) (xs:=r8.1) rfl rfl (imms_of enc_Entry_imm))) avN)) (Ffba_F hr12) (.inl rfl) bl_n rfl rfl rfl)) ?_
   refine cq 2 [53] [B (!r12)] 753 ?_
   obtain⟨u13,hu13,h⟩:=lJ h
   have j13:Run laws_FnExactBreachesBy_E 0 (laws_FnExactBreachesBy_Q (aC_1,aTrace_2,aParty_3) r) (.code (cR (cL (cR (cR (cR (cR (cR (cR (cR (cR (cR (cR laws_FnExactBreachesBy_c))))))))))))::.code (cR (cR (cR (cR (cR (cR (cR (cR (cR (cR (cR laws_FnExactBreachesBy_c)))))))))))::[]) (sT 124 [(1,.isl false (aTrace_2.map enc_Entry)),(2,I aParty_3),(3,.hp 1 0 [] 2 0 0),(8,.hs 2 0 [] 4 0 (r8.1.map enc_Entry).length),(9,B r8.2),(10,.hp 3 0 [] 2 0 0),(11,.hs 4 0 [] 4 0 (r10.map enc_Entry).length),(12,.hs 5 0 [] 4 0 (r11.1.map enc_Entry).length),(13,B r11.2),(57,B u13)] [⟨0,2,[encI_Contract aC_1]⟩,⟨0,4,r8.1.map enc_Entry⟩,⟨0,2,[.agg [.usl 1 (r9.Parties.map str),.usl 12 (r9.Clauses.map encO_Clause)]]⟩,⟨0,4,r10.map enc_Entry⟩,⟨0,4,r11.1.map enc_Entry⟩] 6):=by
    refine sq h (fun h=>?_) fun h=>?_
    ·refine cq 4 [6] [B false] 22 ?_
     obtain rfl:=Option.some.inj h
     exact s_ret rfl (qp [B false])
    ·refine aq 1 ?_
     refine aq 2 ?_
     refine s_draw [0,0,2,7,15] rfl (by decide +kernel) ?_
     refine dq [3] [] (.agg [.hs 3 0 [(0,0)] 1 0 (r9.Parties.map str).length,.hs 3 0 [(0,1)] 12 0 (r9.Clauses.map encO_Clause).length]) rfl (e_ld rfl rfl) ?_
     refine dq [1] [] (encI_Contract aC_1) rfl (e_ld rfl rfl) ?_
     obtain⟨r14,hr14,h⟩:=bS h
     refine dq [] [] (.agg [.hs 38 0 [] 1 0 (r14.Parties.map str).length,.hs 39 0 [] 12 0 (r14.Clauses.map encO_Clause).length]) rfl (cP (Ffbw_F hr14)) ?_ (w_callO rfl rfl rfl rfl (avS (shP rfl) avN) (Ffbw_F hr14) (.inr rfl) rfl)
     obtain⟨r15,hr15,h⟩:=bS h
     refine dq [3,3,38,39] [] (B r15) rfl (e_callV rfl rfl (call_P rfl rfl rfl (avS (shA (shC (sh_at (path:=[(0,0)]) rfl rfl (ra_c rfl rfl ra_n) rfl (imms_of (f:=str) str_imm)) (shC (sh_at (path:=[(0,1)]) rfl rfl (ra_c rfl rfl ra_n) rfl (imms_of (f:=encO_Clause) encO_Clause_imm)) shN))) (avS (shA (shC (sh_hsM (f:=str) (g:=str) (xs:=r14.Parties) rfl rfl (imms_of str_imm)) (shC (sh_hsM (f:=encO_Clause) (g:=encI_Clause) (xs:=r14.Clauses) rfl rfl (imms_of encO_Clause_imm)) shN))) avN)) (Ffy_F hr15) (.inl rfl) bl_n rfl rfl rfl)) ?_ (w_callO rfl rfl rfl rfl (avS (shA (shC (sh_at (path:=[(0,0)]) rfl rfl (ra_c rfl rfl ra_n) rfl (imms_of (f:=str) str_imm)) (shC (sh_at (path:=[(0,1)]) rfl rfl (ra_c rfl rfl ra_n) rfl (imms_of (f:=encO_Clause) encO_Clause_imm)) shN))) (avS (shA (shC (sh_hsM (f:=str) (g:=str) (xs:=r14.Parties) rfl rfl (imms_of str_imm)) (shC (sh_hsM (f:=encO_Clause) (g:=encI_Clause) (xs:=r14.Clauses) rfl rfl (imms_of encO_Clause_imm)) shN))) avN)) (Ffy_F hr15) (.inl rfl) rfl)
     refine dk 1 [62] [B (!r15)] ?_
     refine de 86 rfl rfl ?_
     refine sq h (fun h=>?_) fun h=>?_
     ·refine cq 4 [6] [B false] 102 ?_
      obtain rfl:=Option.some.inj h
      exact s_ret rfl (qp [B false])
     ·refine aq 1 ?_
      refine cq 5 [63,64] [.hs 4 0 [] 4 0 (r10.map enc_Entry).length,.isl false (aTrace_2.map enc_Entry)] 118 ?_
      obtain⟨r16,hr16,h⟩:=bS h
      refine oq 134 (.hs 118 0 [] 4 0 (r16.map enc_Entry).length) rfl (cP (Ffby_F hr16)) ?_
      obtain⟨r17,hr17,h⟩:=bS h
      refine oq 150 (B r17) rfl (e_callV rfl rfl (call_P rfl rfl rfl (avS (sh1 rfl rfl (sh_hsM (f:=enc_Entry) (g:=enc_Entry) (xs:=r10) rfl rfl (imms_of enc_Entry_imm))) (avS (sh1 rfl rfl (sh_hsM (f:=enc_Entry) (g:=enc_Entry) (xs:=r16) rfl rfl (imms_of enc_Entry_imm))) avN)) (Ffba_F hr17) (.inl rfl) bl_n rfl rfl rfl)) ?_
      refine cq 2 [67] [B (!r17)] 166 ?_
      refine sq h (fun h=>?_) fun h=>?_
      ·refine cq 4 [6] [B false] 182 ?_
       obtain rfl:=Option.some.inj h
       exact s_ret rfl (qp [B false])
      ·refine aq 1 ?_
       refine cq 8 [68,69] [.agg [.hs 3 0 [(0,0)] 1 0 (r9.Parties.map str).length,.hs 3 0 [(0,1)] 12 0 (r9.Clauses.map encO_Clause).length],I (1)] 214 ?_
       obtain⟨r18,hr18,h⟩:=bS h
       refine run_take 68 0 (path:=[(0,0)]) (.agg [.hs 214 0 [] 1 0 (r9.Parties.map str).length,.hs 3 0 [(0,1)] 12 0 (r9.Clauses.map encO_Clause).length]) 230 rfl rfl rfl rfl rfl (ra_c rfl rfl ra_n) (to_c (path:=[]) (i:=0) (k:=0) (e':=.agg [.dead,.usl 12 (r9.Clauses.map encO_Clause)]) (es2':=[.agg [.dead,.usl 12 (r9.Clauses.map encO_Clause)]]) ra_n rfl rfl rfl sr_n) rfl rfl ?_
       refine run_take 68 1 (path:=[(0,1)]) (.agg [.hs 214 0 [] 1 0 (r9.Parties.map str).length,.hs 230 0 [] 12 0 (r9.Clauses.map encO_Clause).length]) 246 rfl rfl rfl rfl rfl (ra_c rfl rfl ra_n) (to_c (path:=[]) (i:=0) (k:=1) (e':=.agg [.dead,.dead]) (es2':=[.agg [.dead,.dead]]) ra_n rfl rfl rfl sr_n) rfl rfl ?_
       refine oq 262 (I r18) rfl (e_callV rfl rfl (call_P rfl rfl rfl (avO (hdA (hdC (hd_hs (path:=[]) rfl rfl ra_n rfl) (hdC (hd_hs (path:=[]) rfl rfl ra_n rfl) hdN))) (avS (shP rfl) avN)) (Ffbf_F hr18) (.inr rfl) (bl_c rfl rfl rfl bk_dead (bl_x rfl rfl rfl bl_n)) rfl rfl rfl)) ?_
       refine cq 6 [71,72] [.hs 4 0 [] 4 0 (r10.map enc_Entry).length,I r18] 310 ?_
       obtain⟨r19,hr19,h⟩:=bS h
       obtain⟨g20,h⟩:=gG h
       refine oq 326 (I r19.1) rfl (e_callV rfl rfl (call_P rfl rfl rfl (avO (hd1 rfl (hd_hs (path:=[]) rfl rfl ra_n rfl)) (avS (shP rfl) avN)) (Ffbg_F hr19) (.inr rfl) (bl_c rfl rfl rfl rfl bl_n) rfl rfl rfl)) ?_
       try rw[len_eqM (f:=enc_Entry) (xs:=r10) (ys:=r19.2) g20]
       refine cq 8 [76] [B (decide (r19.1<0))] 390 ?_
       obtain⟨y21,hy21,hy211,hy212⟩:=bJ h
       have j21:∀u21,y21=.inr u21→Run laws_FnExactBreachesBy_E 0 (laws_FnExactBreachesBy_Q (aC_1,aTrace_2,aParty_3) r) (.code laws_FnExactBreachesBy_kb::.code laws_FnExactBreachesBy_ka::[]) (sT 124 [(1,.isl false (aTrace_2.map enc_Entry)),(2,I aParty_3),(3,.hp 1 0 [] 2 0 0),(8,.hs 2 0 [] 4 0 (r8.1.map enc_Entry).length),(9,B r8.2),(12,.hs 3 0 [] 4 0 (r11.1.map enc_Entry).length),(86,B u21)] [⟨0,2,[encI_Contract aC_1]⟩,⟨0,4,r8.1.map enc_Entry⟩,⟨0,4,r11.1.map enc_Entry⟩] 4):=by
        intro u21 hu
        replace h:=hy212 u21 hu
        refine sq h (fun h=>?_) fun h=>?_
        ·refine cq 4 [6] [B false] 20 ?_
         obtain rfl:=Option.some.inj h
         exact s_ret rfl (qp [B false])
        ·refine aq 1 ?_
         refine cq 8 [87,88] [.hs 3 0 [] 4 0 (r11.1.map enc_Entry).length,I (1)] 52 ?_
         obtain⟨r22,hr22,h⟩:=bS h
         obtain⟨g23,h⟩:=gG h
         refine oq 68 (I r22.1) rfl (e_callV rfl rfl (call_P rfl rfl rfl (avO (hd1 rfl (hd_hs (path:=[]) rfl rfl ra_n rfl)) (avS (shP rfl) avN)) (Ffbg_F hr22) (.inr rfl) (bl_c rfl rfl rfl rfl bl_n) rfl rfl rfl)) ?_
         try rw[len_eqM (f:=enc_Entry) (xs:=r11.1) (ys:=r22.2) g23]
         refine cq 10 [15,90,91] [I r22.1,.hs 3 0 [] 4 0 (r22.2.map enc_Entry).length,I (1)] 132 ?_
         obtain⟨r24,hr24,h⟩:=bS h
         refine oq 148 (I r24) rfl (e_callV rfl rfl (call_P rfl rfl rfl (avS (sh1 rfl rfl (sh_hsM (f:=enc_Entry) (g:=enc_Entry) (xs:=r22.2) rfl rfl (imms_of enc_Entry_imm))) (avS (shP rfl) avN)) (Ffbc_F hr24) (.inl rfl) bl_n rfl rfl rfl)) ?_
         refine cq 8 [16,94] [I r24,B (decide (r24<0))] 196 ?_
         refine sq h (fun h=>?_) fun h=>?_
         ·refine cq 4 [6] [B false] 212 ?_
          obtain rfl:=Option.some.inj h
          exact s_ret rfl (qp [B false])
         ·refine aq 1 ?_
          refine cq 7 [97] [B (r24 != r22.1)] 244 ?_
          refine sq h (fun h=>?_) fun h=>?_
          ·refine cq 4 [6] [B false] 260 ?_
           obtain rfl:=Option.some.inj h
           exact s_ret rfl (qp [B false])
          ·refine aq 1 ?_
           refine cq 3 [99] [encI_Contract aC_1] 260 ?_
           obtain⟨r25,hr25,h⟩:=bS h
           refine oq 276 (.agg [.hs 260 0 [] 1 0 (r25.Parties.map str).length,.hs 261 0 [] 12 0 (r25.Clauses.map encO_Clause).length]) rfl (cP (Ffbw_F hr25)) ?_
           refine cq 1 [101] [.isl false (aTrace_2.map enc_Entry)] 292 ?_
           obtain⟨r26,hr26,h⟩:=bS h
           refine oq 308 (.hs 292 0 [] 4 0 (r26.map enc_Entry).length) rfl (cP (Ffby_F hr26)) ?_
           refine cq 1 [103] [I aParty_3] 324 ?_
           obtain⟨r27,hr27,h⟩:=bS h
           refine oq 340 (.tup [.hs 324 0 [] 4 0 (r27.1.map enc_Entry).length,B r27.2]) rfl (e_callV rfl rfl (call_P rfl rfl rfl (avS (shA (shC (sh_hsM (f:=str) (g:=str) (xs:=r25.Parties) rfl rfl (imms_of str_imm)) (shC (sh_hsM (f:=encO_Clause) (g:=encI_Clause) (xs:=r25.Clauses) rfl rfl (imms_of encO_Clause_imm)) shN))) (avS (sh1 rfl rfl (sh_hsM (f:=enc_Entry) (g:=enc_Entry) (xs:=r26) rfl rfl (imms_of enc_Entry_imm))) (avS (shP rfl) avN))) (Ffa_F hr27) (.inl (by simp[hasImm,hasImms,str,himm_map (f:=enc_Entry) enc_Entry_himm])) bl_n rfl rfl rfl)) ?_
           refine cq 11 [18,107,108] [B r27.2,.hs 324 0 [] 4 0 (r27.1.map enc_Entry).length,.hs 2 0 [] 4 0 (r8.1.map enc_Entry).length] 452 ?_
           obtain⟨r28,hr28,h⟩:=bS h
           refine oq 468 (B r28) rfl (e_callV rfl rfl (call_P rfl rfl rfl (avS (sh1 rfl rfl (sh_hsM (f:=enc_Entry) (g:=enc_Entry) (xs:=r27.1) rfl rfl (imms_of enc_Entry_imm))) (avS (sh1 rfl rfl (sh_hsM (f:=enc_Entry) (g:=enc_Entry) (xs:=r8.1) rfl rfl (imms_of enc_Entry_imm))) avN)) (Ffba_F hr28) (.inl rfl) bl_n rfl rfl rfl)) ?_
           refine cq 2 [111] [B (!r28)] 500 ?_
           obtain⟨u29,hu29,h⟩:=lJ h
           have j29:Run laws_FnExactBreachesBy_E 0 (laws_FnExactBreachesBy_Q (aC_1,aTrace_2,aParty_3) r) (.code (cR (cL (cR (cR (cR (cR (cR (cR (cR laws_FnExactBreachesBy_ka)))))))))::.code (cR (cR (cR (cR (cR (cR (cR (cR laws_FnExactBreachesBy_ka))))))))::[]) (sT 124 [(12,.hs 1 0 [] 4 0 (r22.2.map enc_Entry).length),(15,I r22.1),(115,B u29)] [⟨0,4,r22.2.map enc_Entry⟩] 2):=by
            refine sq h (fun h=>?_) fun h=>?_
            ·refine cq 4 [6] [B false] 18 ?_
             obtain rfl:=Option.some.inj h
             exact s_ret rfl (qp [B false])
            ·refine aq 1 ?_
             refine cq 8 [116,117] [.hs 1 0 [] 4 0 (r22.2.map enc_Entry).length,I (1)] 50 ?_
             obtain⟨r30,hr30,h⟩:=bS h
             refine oq 66 (I r30) rfl (e_callV rfl rfl (call_P rfl rfl rfl (avS (sh1 rfl rfl (sh_hsM (f:=enc_Entry) (g:=enc_Entry) (xs:=r22.2) rfl rfl (imms_of enc_Entry_imm))) (avS (shP rfl) avN)) (Ffbc_F hr30) (.inl rfl) bl_n rfl rfl rfl)) ?_
             refine cq 8 [16,120] [I r30,B (decide (r30<0))] 114 ?_
             refine sq h (fun h=>?_) fun h=>?_
             ·refine cq 4 [6] [B false] 130 ?_
              obtain rfl:=Option.some.inj h
              exact s_ret rfl (qp [B false])
             ·refine aq 1 ?_
              refine cq 7 [123] [B (r30 != r22.1)] 162 ?_
              refine sq h (fun h=>?_) fun h=>?_
              ·refine cq 4 [6] [B false] 178 ?_
               obtain rfl:=Option.some.inj h
               exact s_ret rfl (qp [B false])
              ·refine aq 1 ?_
               refine cq 4 [6] [B true] 178 ?_
               obtain rfl:=Option.some.inj h
               exact s_ret rfl (qp [B true])
           replace h:=hu29
           clear hu29
           refine sp 111 h rfl (fun h=>?_) fun h=>?_
           ·refine cq 5 [115] [B true] 564 ?_
            subst h
            exact rf [12,15,115] [3] (j29 :)
           ·refine cq 5 [115] [B (!(r27.2==r8.2))] 564 ?_
            subst h
            exact rf [12,15,115] [3] (j29 :)
       have r21:∀r',y21=.inl r'→∀st,laws_FnExactBreachesBy_Q (aC_1,aTrace_2,aParty_3) r' st→(laws_FnExactBreachesBy_Q (aC_1,aTrace_2,aParty_3) r) st:=fun r' e st hq=>by rw[hy211 r' e] at hq;exact hq
       replace h:=hy21
       refine sp 76 h rfl (fun h=>?_) fun h=>?_
       ·refine cq 11 [86] [B true] 550 ?_
        exact rf [1,2,3,8,9,12,86] [1,2,5] (j21 _ (Option.some.inj h).symm :)
       ·refine cq 2 [77,78] [.hs 5 0 [] 4 0 (r11.1.map enc_Entry).length,.hs 2 0 [] 4 0 (r8.1.map enc_Entry).length] 422 ?_
        obtain⟨r31,hr31,h⟩:=bS h
        refine oy 438 (B r31) rfl (e_callV rfl rfl (call_P rfl rfl rfl (avS (sh1 rfl rfl (sh_hsM (f:=enc_Entry) (g:=enc_Entry) (xs:=r11.1) rfl rfl (imms_of enc_Entry_imm))) (avS (sh1 rfl rfl (sh_hsM (f:=enc_Entry) (g:=enc_Entry) (xs:=r8.1) rfl rfl (imms_of enc_Entry_imm))) avN)) (Ffba_F hr31) (.inl rfl) bl_n rfl rfl rfl)) ?_
        refine cq 3 [82] [B (!r31)] 486 ?_
        obtain⟨u32,hu32,h⟩:=lJ h
        have j32:Run laws_FnExactBreachesBy_E 0 (laws_FnExactBreachesBy_Q (aC_1,aTrace_2,aParty_3) r) (.code laws_FnExactBreachesBy_kb::.code laws_FnExactBreachesBy_ka::[]) (sT 124 [(1,.isl false (aTrace_2.map enc_Entry)),(2,I aParty_3),(3,.hp 1 0 [] 2 0 0),(8,.hs 2 0 [] 4 0 (r8.1.map enc_Entry).length),(9,B r8.2),(12,.hs 3 0 [] 4 0 (r11.1.map enc_Entry).length),(86,B u32)] [⟨0,2,[encI_Contract aC_1]⟩,⟨0,4,r8.1.map enc_Entry⟩,⟨0,4,r11.1.map enc_Entry⟩] 4):=by
         exact rf [1,2,3,8,9,12,86] [1,2,3] (j21 _ (Option.some.inj h).symm :)
        replace h:=hu32
        clear hu32
        refine sp 82 h rfl (fun h=>?_) fun h=>?_
        ·refine cq 5 [86] [B true] 550 ?_
         subst h
         exact rf [1,2,3,8,9,12,86] [1,2,5] (j32 :)
        ·refine cq 5 [86] [B (!(r11.2==r8.2))] 550 ?_
         subst h
         exact rf [1,2,3,8,9,12,86] [1,2,5] (j32 :)
   replace h:=hu13
   clear hu13
   refine sp 53 h rfl (fun h=>?_) fun h=>?_
   ·refine cq 5 [57] [B true] 817 ?_
    subst h
    exact rf [1,2,3,8,9,10,11,12,13,57] [1,321,449,497,577] (j13 :)
   ·refine cq 5 [57] [B (!(r11.2==r8.2))] 817 ?_
    subst h
    exact rf [1,2,3,8,9,10,11,12,13,57] [1,321,449,497,577] (j13 :)
theorem laws_FnExactBreachesBy_good {G:Go.Ln.Ground}:Good Tryz.prog G 7 laws_FnExactBreachesBy_ent:=gT 3 0 (gl_c Ffbo_good (gl_c Ffbp_good (gl_c Ffbw_good (gl_c Ffby_good (gl_c Ffck_good (gl_c Ffa_good (gl_c Ffba_good (gl_c Ffy_good (gl_c Ffbf_good (gl_c Ffbg_good (gl_c Ffbc_good gl_n))))))))))) (Checked.mixed Tryz.checked) Tryz.func7 (fun a r h=>laws_FnExactBreachesBy_run a.1 a.2.1 a.2.2 r h)
end Go.Ln
