/-
  Each function of the program computes its plain function.
-/
import Derived.Test.YtobhcnmeflacnaaGreatDoorFnExactFormatClauseRunA
set_option maxHeartbeats 4000000
set_option linter.unusedVariables false
set_option linter.unusedSimpArgs false
set_option maxRecDepth 100000
namespace Go.Ln
open Go Go.Proofs
theorem Q4 (slf_Ffk:Condition→Option ac)(c_1:Condition)(r:ac)(h:ul slf_Ffk c_1=some r):bl (O4 slf_Ffk) Tryz.f167 [false] 0 (yJ c_1) (Ao r):=by
 show Run _ _ (SV slf_Ffk c_1 r) [.code S4] _
 refine rI 55 [(0,.agg [I c_1.Op,str c_1.Name,I c_1.Day,.isl false (c_1.Parts.map aa)])] [] 1 ?_
 unfold ul at h
 refine ck 17 [1,4,5] [] [1] [] [.hp 1 0 [] 4 0 0,I c_1.Op,B (c_1.Op==2)] [some ⟨0,4,[.agg [I c_1.Op,str c_1.Name,I c_1.Day,.isl false (c_1.Parts.map aa)]]⟩] 97 (by kernel_rfl) ?_
 refine sq h (fun h=>?_) fun h=>?_
 ·refine cq 6 [2] [str c_1.Name] 145 ?_
  obtain rfl:=Option.some.inj h
  exact aj rfl (qp [str c_1.Name])
 ·refine cq 5 [9] [B (c_1.Op==3)] 129 ?_
  refine sq h (fun h=>?_) fun h=>?_
  ·refine cq 4 [12] [I c_1.Day] 161 ?_
   obtain⟨r2,hr2,h⟩:=bS h
   refine oq 177 (str r2) rfl (cP (SR hr2)) ?_
   obtain⟨s3,hs3,h⟩:=bS h
   refine oq 193 (str s3) rfl (aG rfl rfl (aH hs3)) ?_
   refine cq 2 [2] [str s3] 209 ?_
   obtain rfl:=Option.some.inj h
   exact aj rfl (qp [str s3])
  ·refine cq 5 [15] [B (c_1.Op==4)] 161 ?_
   refine sq h (fun h=>?_) fun h=>?_
   ·refine cq 4 [18] [.isl false (c_1.Parts.map aa)] 193 ?_
    obtain⟨e4,he4,h⟩:=bS h
    refine oq 209 (.iptr (.agg [I e4.Op,str e4.Name,I e4.Day,.isl false (e4.Parts.map aa)]) 0) rfl (ao rfl rfl rfl (bh rfl rfl (aQ e4) rfl he4)) ?_
    refine cq 1 [20] [.agg [I e4.Op,str e4.Name,I e4.Day,.isl false (e4.Parts.map aa)]] 225 ?_
    obtain⟨r5,hr5,h⟩:=bS h
    refine oq 241 (str r5) rfl (bU rfl rfl (cm rfl rfl rfl (bX (cj rfl) cN) (jG slf_Ffk hr5) (.inr rfl) dF rfl rfl rfl)) ?_
    obtain⟨s6,hs6,h⟩:=bS h
    refine oq 257 (str s6) rfl (aG rfl rfl (aH hs6)) ?_
    refine cq 2 [2] [str s6] 273 ?_
    obtain rfl:=Option.some.inj h
    exact aj rfl (qp [str s6])
   ·refine cq 5 [23] [B (c_1.Op==5)] 193 ?_
    refine sq h (fun h=>?_) fun h=>?_
    ·refine aq 1 ?_
     refine dV [0,1,3,7,15,31,63,0,128,384,896,1951,4095,8191,16383] rfl (by decide +kernel) ?_
     refine dq [1] [] (.hp 1 0 [] 4 0 3) rfl (aV rfl rfl rfl) ?_
     refine dq [1] [] (.isl false (c_1.Parts.map aa)) rfl (bQ rfl rfl) ?_
     obtain⟨e7,he7,h⟩:=bS h
     refine dq [] [] (.iptr (.agg [I e7.Op,str e7.Name,I e7.Day,.isl false (e7.Parts.map aa)]) 0) rfl (ao rfl rfl rfl (bh rfl rfl (aQ e7) rfl he7)) ?_
     refine dq [] [] (.agg [I e7.Op,str e7.Name,I e7.Day,.isl false (e7.Parts.map aa)]) rfl (bQ rfl rfl) ?_
     obtain⟨r8,hr8,h⟩:=bS h
     refine dq [] [] (str r8) rfl (bU rfl rfl (cm rfl rfl rfl (bX (cj rfl) cN) (jG slf_Ffk hr8) (.inr rfl) dF rfl rfl rfl)) ?_ (cC rfl rfl rfl rfl (bX (cj rfl) cN) (jG slf_Ffk hr8) (.inr rfl) rfl)
     obtain⟨s9,hs9,h⟩:=bS h
     refine dq [] [] (str s9) rfl (aG rfl rfl (aH hs9)) ?_
     obtain⟨s10,hs10,h⟩:=bS h
     refine dq [] [] (str s10) rfl (aG rfl rfl (aH hs10)) ?_
     refine dq [1] [] (.hp 1 0 [] 4 0 3) rfl (aV rfl rfl rfl) ?_
     refine dq [1] [] (.isl false (c_1.Parts.map aa)) rfl (bQ rfl rfl) ?_
     obtain⟨e11,he11,h⟩:=bS h
     refine dq [] [] (.iptr (.agg [I e11.Op,str e11.Name,I e11.Day,.isl false (e11.Parts.map aa)]) 0) rfl (ao rfl rfl rfl (bh rfl rfl (aQ e11) rfl he11)) ?_
     refine dq [] [] (.agg [I e11.Op,str e11.Name,I e11.Day,.isl false (e11.Parts.map aa)]) rfl (bQ rfl rfl) ?_
     obtain⟨r12,hr12,h⟩:=bS h
     refine dq [] [] (str r12) rfl (bU rfl rfl (cm rfl rfl rfl (bX (cj rfl) cN) (jG slf_Ffk hr12) (.inr rfl) dF rfl rfl rfl)) ?_ (cC rfl rfl rfl rfl (bX (cj rfl) cN) (jG slf_Ffk hr12) (.inr rfl) rfl)
     obtain⟨s13,hs13,h⟩:=bS h
     refine dq [] [] (str s13) rfl (aG rfl rfl (aH hs13)) ?_
     obtain⟨s14,hs14,h⟩:=bS h
     refine dq [] [] (str s14) rfl (aG rfl rfl (aH hs14)) ?_
     refine dk 1 [2] [str s14] ?_
     refine de 433 rfl rfl ?_
     obtain rfl:=Option.some.inj h
     exact aj rfl (qp [str s14])
    ·refine cq 5 [39] [B (c_1.Op==6)] 225 ?_
     refine sq h (fun h=>?_) fun h=>?_
     ·refine aq 1 ?_
      refine dV [0,1,3,7,15,31,63,0,128,384,896,1951,4095,8191,16383] rfl (by decide +kernel) ?_
      refine dq [1] [] (.hp 1 0 [] 4 0 3) rfl (aV rfl rfl rfl) ?_
      refine dq [1] [] (.isl false (c_1.Parts.map aa)) rfl (bQ rfl rfl) ?_
      obtain⟨e15,he15,h⟩:=bS h
      refine dq [] [] (.iptr (.agg [I e15.Op,str e15.Name,I e15.Day,.isl false (e15.Parts.map aa)]) 0) rfl (ao rfl rfl rfl (bh rfl rfl (aQ e15) rfl he15)) ?_
      refine dq [] [] (.agg [I e15.Op,str e15.Name,I e15.Day,.isl false (e15.Parts.map aa)]) rfl (bQ rfl rfl) ?_
      obtain⟨r16,hr16,h⟩:=bS h
      refine dq [] [] (str r16) rfl (bU rfl rfl (cm rfl rfl rfl (bX (cj rfl) cN) (jG slf_Ffk hr16) (.inr rfl) dF rfl rfl rfl)) ?_ (cC rfl rfl rfl rfl (bX (cj rfl) cN) (jG slf_Ffk hr16) (.inr rfl) rfl)
      obtain⟨s17,hs17,h⟩:=bS h
      refine dq [] [] (str s17) rfl (aG rfl rfl (aH hs17)) ?_
      obtain⟨s18,hs18,h⟩:=bS h
      refine dq [] [] (str s18) rfl (aG rfl rfl (aH hs18)) ?_
      refine dq [1] [] (.hp 1 0 [] 4 0 3) rfl (aV rfl rfl rfl) ?_
      refine dq [1] [] (.isl false (c_1.Parts.map aa)) rfl (bQ rfl rfl) ?_
      obtain⟨e19,he19,h⟩:=bS h
      refine dq [] [] (.iptr (.agg [I e19.Op,str e19.Name,I e19.Day,.isl false (e19.Parts.map aa)]) 0) rfl (ao rfl rfl rfl (bh rfl rfl (aQ e19) rfl he19)) ?_
      refine dq [] [] (.agg [I e19.Op,str e19.Name,I e19.Day,.isl false (e19.Parts.map aa)]) rfl (bQ rfl rfl) ?_
      obtain⟨r20,hr20,h⟩:=bS h
      refine dq [] [] (str r20) rfl (bU rfl rfl (cm rfl rfl rfl (bX (cj rfl) cN) (jG slf_Ffk hr20) (.inr rfl) dF rfl rfl rfl)) ?_ (cC rfl rfl rfl rfl (bX (cj rfl) cN) (jG slf_Ffk hr20) (.inr rfl) rfl)
      obtain⟨s21,hs21,h⟩:=bS h
      refine dq [] [] (str s21) rfl (aG rfl rfl (aH hs21)) ?_
      obtain⟨s22,hs22,h⟩:=bS h
      refine dq [] [] (str s22) rfl (aG rfl rfl (aH hs22)) ?_
      refine dk 1 [2] [str s22] ?_
      refine de 465 rfl rfl ?_
      obtain rfl:=Option.some.inj h
      exact aj rfl (qp [str s22])
     ·refine aq 1 ?_
      refine cq 5 [2] [str ([116,114,117,101]:ac)] 241 ?_
      obtain rfl:=Option.some.inj h
      exact aj rfl (qp [str ([116,114,117,101]:ac)])
theorem NC {G:Go.Ln.Ground}[TabG Tryz.prog G]:aK Tryz.prog G 167 Bo:=fE fun slf_Ffk g_Ffk=>gT 1 0 (aJ NR (aJ g_Ffk bn)) (Checked.mixed Tryz.checked) Tryz.func167 (fun a r h=>Q4 slf_Ffk a r h)
def Ec:(Contract×Clause)→List V:=cA aN (oA ae)
def Ej (r:ac):V×List V:=(str r,[])
noncomputable def Cb:Ent:=aW [false,false] Ec Ej fun x=>E9 x.1 x.2
theorem PC {c_1:Contract}{x_2:Clause}{r}(h:E9 c_1 x_2=some r):Cb.F (Ec (c_1,x_2))=some (Ej r):=aF (bO bm (aE cH)) h
noncomputable def Jp:Code:=aD Tryz.f98
noncomputable abbrev sL:Code:=cR (cR (cR (cR Jp)))
noncomputable def qV:Env:=bW Tryz.prog [(167,Bo),(166,B8),(165,Cg)]
def gl (x:Contract×Clause)(r:ac):St→Prop:=QF qV Tryz.f98 [false,false] (Ec x) (Ej r)
theorem QK (c_1:Contract)(x_2:Clause)(r:ac)(h:E9 c_1 x_2=some r):bl qV Tryz.f98 [false,false] 0 (Ec (c_1,x_2)) (Ej r):=by
 show Run _ _ (gl (c_1,x_2) r) [.code Jp] _
 refine rI 104 [(0,.agg [.isl false (c_1.Parties.map str),.isl false (c_1.Clauses.map ae)]),(1,.agg [str x_2.Id,I x_2.Kind,I x_2.Party,str x_2.Action,I x_2.Other,I x_2.Amount,I x_2.When.Op,str x_2.When.Name,I x_2.When.Day,.isl false (x_2.When.Parts.map aa),I x_2.Within,str x_2.Repair])] [] 1 ?_
 unfold E9 at h
 refine ck 7 [2,3] [] [1,17] [] [.hp 1 0 [] 2 0 0,.hp 17 0 [] 12 0 0] [some ⟨0,2,[.agg [.isl false (c_1.Parties.map str),.isl false (c_1.Clauses.map ae)]]⟩,some ⟨0,12,[.agg [str x_2.Id,I x_2.Kind,I x_2.Party,str x_2.Action,I x_2.Other,I x_2.Amount,I x_2.When.Op,str x_2.When.Name,I x_2.When.Day,.isl false (x_2.When.Parts.map aa),I x_2.Within,str x_2.Repair]]⟩] 49 (by kernel_rfl) ?_
 refine dV [0,1,3,0,8,0,32,120,248,511,1023] rfl (by decide +kernel) ?_
 refine dq [17] [] (.hp 17 0 [] 12 0 0) rfl (aV rfl rfl rfl) ?_
 refine dq [17] [] (str x_2.Id) rfl (bQ rfl rfl) ?_
 obtain⟨s3,hs3,h⟩:=bS h
 refine dq [] [] (str s3) rfl (aG rfl rfl (aH hs3)) ?_
 refine dq [1] [] (.hp 1 0 [] 2 0 0) rfl (aV rfl rfl rfl) ?_
 refine dq [1] [] (.isl false (c_1.Parties.map str)) rfl (bQ rfl rfl) ?_
 refine dq [17] [] (.hp 17 0 [] 12 0 2) rfl (aV rfl rfl rfl) ?_
 refine dq [17] [] (I x_2.Party) rfl (bQ rfl rfl) ?_
 obtain⟨e4,he4,h⟩:=bS h
 refine dq [] [] (.iptr (str e4) 0) rfl (ao rfl rfl rfl (bh rfl rfl rfl rfl he4)) ?_
 refine dq [] [] (str e4) rfl (bQ rfl rfl) ?_
 obtain⟨s5,hs5,h⟩:=bS h
 refine dq [] [] (str s5) rfl (aG rfl rfl (aH hs5)) ?_
 refine dk 1 [5] [str s5] ?_
 refine de 225 rfl rfl ?_
 refine cq 6 [18,20] [.isl false (c_1.Parties.map str),I x_2.Other] 289 ?_
 obtain⟨e6,he6,h⟩:=bS h
 refine oq 305 (.iptr (str e6) 0) rfl (ao rfl rfl rfl (bh rfl rfl rfl rfl he6)) ?_
 refine cq 15 [6,24,25] [str e6,I x_2.Kind,B (x_2.Kind==1)] 401 ?_
 obtain⟨y7,hy7,hy71,hy72⟩:=bJ h
 have j7:∀u7,y7=.inr u7→Run qV 0 (gl (c_1,x_2) r) (.blk 0::.code sL::[]) (sT 104 [(3,.hp 1 0 [] 12 0 0),(5,str u7)] [⟨0,12,[.agg [str x_2.Id,I x_2.Kind,I x_2.Party,str x_2.Action,I x_2.Other,I x_2.Amount,I x_2.When.Op,str x_2.When.Name,I x_2.When.Day,.isl false (x_2.When.Parts.map aa),I x_2.Within,str x_2.Repair]]⟩] 2):=by
  intro u7 hu
  replace h:=hy72 u7 hu
  refine cq 6 [81,83] [str u7,.agg [I x_2.When.Op,str x_2.When.Name,I x_2.When.Day,.isl false (x_2.When.Parts.map aa)]] 50 ?_
  obtain⟨r8,hr8,h⟩:=bS h
  refine oq 66 (str r8) rfl (cP (Tx hr8)) ?_
  obtain⟨s9,hs9,h⟩:=bS h
  refine oq 82 (str s9) rfl (aG rfl rfl (aH hs9)) ?_
  obtain⟨s10,hs10,h⟩:=bS h
  refine oq 98 (str s10) rfl (aG rfl rfl (aH hs10)) ?_
  refine cq 9 [5,89] [str s10,B (x_2.Repair==([]:ac))] 162 ?_
  refine sq h (fun h=>?_) fun h=>?_
  ·refine cq 5 [4] [str s10] 194 ?_
   obtain rfl:=Option.some.inj h
   exact aj rfl (qp [str s10])
  ·refine aq 1 ?_
   refine cq 7 [93] [B (x_2.Kind==4)] 210 ?_
   refine sq h (fun h=>?_) fun h=>?_
   ·refine cq 3 [94] [str s10] 226 ?_
    obtain⟨s11,hs11,h⟩:=bS h
    refine oq 242 (str s11) rfl (aG rfl rfl (aH hs11)) ?_
    refine cq 2 [97] [str x_2.Repair] 274 ?_
    obtain⟨s12,hs12,h⟩:=bS h
    refine oq 290 (str s12) rfl (aG rfl rfl (aH hs12)) ?_
    refine cq 2 [4] [str s12] 306 ?_
    obtain rfl:=Option.some.inj h
    exact aj rfl (qp [str s12])
   ·refine aq 1 ?_
    refine cq 3 [99] [str s10] 226 ?_
    obtain⟨s13,hs13,h⟩:=bS h
    refine oq 242 (str s13) rfl (aG rfl rfl (aH hs13)) ?_
    refine cq 2 [102] [str x_2.Repair] 274 ?_
    obtain⟨s14,hs14,h⟩:=bS h
    refine oq 290 (str s14) rfl (aG rfl rfl (aH hs14)) ?_
    refine cq 2 [4] [str s14] 306 ?_
    obtain rfl:=Option.some.inj h
    exact aj rfl (qp [str s14])
 have r7:∀r',y7=.inl r'→∀st,gl (c_1,x_2) r' st→(gl (c_1,x_2) r) st:=fun r' e st hq=>by rw[hy71 r' e] at hq;exact hq
 replace h:=hy7
 refine sq h (fun h=>?_) fun h=>?_
 ·refine cq 5 [27,29] [str s5,str x_2.Action] 449 ?_
  obtain⟨s15,hs15,h⟩:=bS h
  refine oq 465 (str s15) rfl (aG rfl rfl (aH hs15)) ?_
  obtain⟨s16,hs16,h⟩:=bS h
  refine oq 481 (str s16) rfl (aG rfl rfl (aH hs16)) ?_
  refine cq 1 [32] [str e6] 497 ?_
  obtain⟨s17,hs17,h⟩:=bS h
  refine oq 513 (str s17) rfl (aG rfl rfl (aH hs17)) ?_
  obtain⟨s18,hs18,h⟩:=bS h
  refine oq 529 (str s18) rfl (aG rfl rfl (aH hs18)) ?_
  refine cq 9 [5,37] [str s18,B (decide (x_2.Amount>0))] 593 ?_
  obtain⟨y19,hy19,hy191,hy192⟩:=bL h
  have j19:∀u19,y19=.inr u19→Run qV 0 (gl (c_1,x_2) r) (.code (cR (cR (cL (cR (cL (cR (cL (cR (cR (cR Jp))))))))))::.blk 0::.code sL::[]) (sT 104 [(3,.hp 1 0 [] 12 0 0),(5,str u19)] [⟨0,12,[.agg [str x_2.Id,I x_2.Kind,I x_2.Party,str x_2.Action,I x_2.Other,I x_2.Amount,I x_2.When.Op,str x_2.When.Name,I x_2.When.Day,.isl false (x_2.When.Parts.map aa),I x_2.Within,str x_2.Repair]]⟩] 2):=by
   intro u19 hu
   replace h:=hy192 u19 hu
   refine cq 4 [44,46] [str u19,I x_2.Within] 50 ?_
   obtain⟨r20,hr20,h⟩:=bS h
   refine oq 66 (str r20) rfl (cP (Tn hr20)) ?_
   obtain⟨s21,hs21,h⟩:=bS h
   refine oq 82 (str s21) rfl (aG rfl rfl (aH hs21)) ?_
   obtain⟨s22,hs22,h⟩:=bS h
   refine oq 98 (str s22) rfl (aG rfl rfl (aH hs22)) ?_
   obtain⟨s23,hs23,h⟩:=bS h
   refine oq 114 (str s23) rfl (aG rfl rfl (aH hs23)) ?_
   refine cq 2 [5] [str s23] 130 ?_
   exact rf [3,5] [1] (j7 _ (Option.some.inj h).symm :)
  have r19:∀r',y19=.inl r'→∀st,gl (c_1,x_2) r' st→(gl (c_1,x_2) r) st:=fun r' e st hq=>r7 r' (hy191 r' e) st hq
  replace h:=hy19
  refine sq h (fun h=>?_) fun h=>?_
  ·refine cq 4 [38,40] [str s18,I x_2.Amount] 641 ?_
   obtain⟨r24,hr24,h⟩:=bS h
   refine oq 657 (str r24) rfl (cP (Tp hr24)) ?_
   obtain⟨s25,hs25,h⟩:=bS h
   refine oq 673 (str s25) rfl (aG rfl rfl (aH hs25)) ?_
   obtain⟨s26,hs26,h⟩:=bS h
   refine oq 689 (str s26) rfl (aG rfl rfl (aH hs26)) ?_
   refine cq 2 [5] [str s26] 705 ?_
   exact rf [3,5] [17] (j19 _ (Option.some.inj h).symm :)
  ·refine aq 1 ?_
   exact rf [3,5] [17] (j19 _ (Option.some.inj h).symm :)
 ·refine cq 5 [51] [B (x_2.Kind==2)] 433 ?_
  obtain⟨y27,hy27,hy271,hy272⟩:=bL h
  have j27:∀u27,y27=.inr u27→Run qV 0 (gl (c_1,x_2) r) (.blk 0::.code sL::[]) (sT 104 [(3,.hp 1 0 [] 12 0 0),(5,str u27)] [⟨0,12,[.agg [str x_2.Id,I x_2.Kind,I x_2.Party,str x_2.Action,I x_2.Other,I x_2.Amount,I x_2.When.Op,str x_2.When.Name,I x_2.When.Day,.isl false (x_2.When.Parts.map aa),I x_2.Within,str x_2.Repair]]⟩] 2):=by
   intro u27 hu
   replace h:=hy272 u27 hu
   exact rf [3,5] [1] (j7 _ (Option.some.inj h).symm :)
  have r27:∀r',y27=.inl r'→∀st,gl (c_1,x_2) r' st→(gl (c_1,x_2) r) st:=fun r' e st hq=>r7 r' (hy271 r' e) st hq
  replace h:=hy27
  refine sq h (fun h=>?_) fun h=>?_
  ·refine cq 4 [53,55] [str s5,str x_2.Action] 481 ?_
   obtain⟨s28,hs28,h⟩:=bS h
   refine oq 497 (str s28) rfl (aG rfl rfl (aH hs28)) ?_
   obtain⟨s29,hs29,h⟩:=bS h
   refine oq 513 (str s29) rfl (aG rfl rfl (aH hs29)) ?_
   refine cq 1 [58] [str e6] 529 ?_
   obtain⟨s30,hs30,h⟩:=bS h
   refine oq 545 (str s30) rfl (aG rfl rfl (aH hs30)) ?_
   obtain⟨s31,hs31,h⟩:=bS h
   refine oq 561 (str s31) rfl (aG rfl rfl (aH hs31)) ?_
   refine cq 2 [5] [str s31] 577 ?_
   exact rf [3,5] [17] (j27 _ (Option.some.inj h).symm :)
  ·refine cq 5 [61] [B (x_2.Kind==3)] 465 ?_
   obtain⟨y32,hy32,hy321,hy322⟩:=bL h
   have j32:∀u32,y32=.inr u32→Run qV 0 (gl (c_1,x_2) r) (.blk 0::.code sL::[]) (sT 104 [(3,.hp 1 0 [] 12 0 0),(5,str u32)] [⟨0,12,[.agg [str x_2.Id,I x_2.Kind,I x_2.Party,str x_2.Action,I x_2.Other,I x_2.Amount,I x_2.When.Op,str x_2.When.Name,I x_2.When.Day,.isl false (x_2.When.Parts.map aa),I x_2.Within,str x_2.Repair]]⟩] 2):=by
    intro u32 hu
    replace h:=hy322 u32 hu
    exact rf [3,5] [1] (j27 _ (Option.some.inj h).symm :)
   have r32:∀r',y32=.inl r'→∀st,gl (c_1,x_2) r' st→(gl (c_1,x_2) r) st:=fun r' e st hq=>r27 r' (hy321 r' e) st hq
   replace h:=hy32
   refine sq h (fun h=>?_) fun h=>?_
   ·refine cq 4 [63,65] [str s5,str x_2.Action] 513 ?_
    obtain⟨s33,hs33,h⟩:=bS h
    refine oq 529 (str s33) rfl (aG rfl rfl (aH hs33)) ?_
    obtain⟨s34,hs34,h⟩:=bS h
    refine oq 545 (str s34) rfl (aG rfl rfl (aH hs34)) ?_
    refine cq 1 [68] [str e6] 561 ?_
    obtain⟨s35,hs35,h⟩:=bS h
    refine oq 577 (str s35) rfl (aG rfl rfl (aH hs35)) ?_
    obtain⟨s36,hs36,h⟩:=bS h
    refine oq 593 (str s36) rfl (aG rfl rfl (aH hs36)) ?_
    refine cq 2 [5] [str s36] 609 ?_
    exact rf [3,5] [17] (j32 _ (Option.some.inj h).symm :)
   ·refine cq 5 [71] [B (x_2.Kind==4)] 497 ?_
    obtain⟨y37,hy37,hy371,hy372⟩:=bL h
    have j37:∀u37,y37=.inr u37→Run qV 0 (gl (c_1,x_2) r) (.blk 0::.code sL::[]) (sT 104 [(3,.hp 1 0 [] 12 0 0),(5,str u37)] [⟨0,12,[.agg [str x_2.Id,I x_2.Kind,I x_2.Party,str x_2.Action,I x_2.Other,I x_2.Amount,I x_2.When.Op,str x_2.When.Name,I x_2.When.Day,.isl false (x_2.When.Parts.map aa),I x_2.Within,str x_2.Repair]]⟩] 2):=by
     intro u37 hu
     replace h:=hy372 u37 hu
     exact rf [3,5] [1] (j32 _ (Option.some.inj h).symm :)
    have r37:∀r',y37=.inl r'→∀st,gl (c_1,x_2) r' st→(gl (c_1,x_2) r) st:=fun r' e st hq=>r32 r' (hy371 r' e) st hq
    replace h:=hy37
    refine sq h (fun h=>?_) fun h=>?_
    ·refine cq 4 [73,75] [str s5,str x_2.Action] 545 ?_
     obtain⟨s38,hs38,h⟩:=bS h
     refine oq 561 (str s38) rfl (aG rfl rfl (aH hs38)) ?_
     obtain⟨s39,hs39,h⟩:=bS h
     refine oq 577 (str s39) rfl (aG rfl rfl (aH hs39)) ?_
     refine cq 1 [78] [str e6] 593 ?_
     obtain⟨s40,hs40,h⟩:=bS h
     refine oq 609 (str s40) rfl (aG rfl rfl (aH hs40)) ?_
     obtain⟨s41,hs41,h⟩:=bS h
     refine oq 625 (str s41) rfl (aG rfl rfl (aH hs41)) ?_
     refine cq 2 [5] [str s41] 641 ?_
     exact rf [3,5] [17] (j37 _ (Option.some.inj h).symm :)
    ·refine aq 1 ?_
     exact rf [3,5] [17] (j37 _ (Option.some.inj h).symm :)
theorem OS {G:Go.Ln.Ground}[TabG Tryz.prog G]:aK Tryz.prog G 98 Cb:=gT 2 0 (aJ NC (aJ Nb (aJ MO bn))) (Checked.mixed Tryz.checked) Tryz.func98 (fun a r h=>QK a.1 a.2 r h)
def DM:(Contract×Int)→List V:=cA aN (oA I)
def DG (r:ac×Bool):V×List V:=(.tup [str r.1,B r.2],[])
noncomputable def BD:Ent:=aW [false,false] DM DG fun x=>Fu x.1 x.2
theorem SX {c_1:Contract}{i_2:Int}{r}(h:Fu c_1 i_2=some r):BD.F (DM (c_1,i_2))=some (DG r):=aF (bO bm (aE bK)) h
noncomputable def H9:Code:=aD Tryz.f44
noncomputable def IP:Env:=bW Tryz.prog [(65,BL),(98,Cb),(86,jj)]
def DJ (x:Contract×Int)(r:ac×Bool):St→Prop:=QF IP Tryz.f44 [false,false] (DM x) (DG r)
theorem Qb (c_1:Contract)(i_2:Int)(r:ac×Bool)(h:Fu c_1 i_2=some r):bl IP Tryz.f44 [false,false] 0 (DM (c_1,i_2)) (DG r):=by
 show Run _ _ (DJ (c_1,i_2) r) [.code H9] _
 refine rI 25 [(0,.agg [.isl false (c_1.Parties.map str),.isl false (c_1.Clauses.map ae)]),(1,I i_2)] [] 1 ?_
 unfold Fu at h
 refine ck 10 [2,6] [] [1] [] [.hp 1 0 [] 2 0 0,.agg [.isl false (c_1.Parties.map str),.isl false (c_1.Clauses.map ae)]] [some ⟨0,2,[.agg [.isl false (c_1.Parties.map str),.isl false (c_1.Clauses.map ae)]]⟩] 65 (by kernel_rfl) ?_
 obtain⟨r3,hr3,h⟩:=bS h
 refine oq 81 (B r3) rfl (cP (S3 hr3)) ?_
 refine cq 2 [9] [B (!r3)] 113 ?_
 obtain⟨y4,hy4,hy41,hy42⟩:=bJ h
 have j4:∀u4,y4=.inr u4→Run IP 0 (DJ (c_1,i_2) r) (.code (cR (cL (cR H9)))::.code (cR (cR H9))::[]) (sT 25 [(1,I i_2),(2,.hp 1 0 [] 2 0 0),(17,B u4)] [⟨0,2,[.agg [.isl false (c_1.Parties.map str),.isl false (c_1.Clauses.map ae)]]⟩] 2):=by
  intro u4 hu
  replace h:=hy42 u4 hu
  refine sq h (fun h=>?_) fun h=>?_
  ·refine cq 5 [4,5] [str ([]:ac),B false] 34 ?_
   obtain rfl:=Option.some.inj h
   exact aj rfl (qp [str ([]:ac),B false])
  ·refine aq 1 ?_
   refine aq 1 ?_
   refine dV [0,0,2,0,14,30,63,127,255] rfl (by decide +kernel) ?_
   refine dq [1] [] (.agg [.isl false (c_1.Parties.map str),.isl false (c_1.Clauses.map ae)]) rfl (bQ rfl rfl) ?_
   refine dq [1] [] (.hp 1 0 [] 2 0 1) rfl (aV rfl rfl rfl) ?_
   refine dq [1] [] (.isl false (c_1.Clauses.map ae)) rfl (bQ rfl rfl) ?_
   refine dk 1 [21] [I i_2] ?_
   obtain⟨e5,he5,h⟩:=bS h
   refine dq [] [] (.iptr (.agg [str e5.Id,I e5.Kind,I e5.Party,str e5.Action,I e5.Other,I e5.Amount,I e5.When.Op,str e5.When.Name,I e5.When.Day,.isl false (e5.When.Parts.map aa),I e5.Within,str e5.Repair]) 0) rfl (ao rfl rfl rfl (bh rfl rfl rfl rfl he5)) ?_
   refine dq [] [] (.agg [str e5.Id,I e5.Kind,I e5.Party,str e5.Action,I e5.Other,I e5.Amount,I e5.When.Op,str e5.When.Name,I e5.When.Day,.isl false (e5.When.Parts.map aa),I e5.Within,str e5.Repair]) rfl (bQ rfl rfl) ?_
   obtain⟨r6,hr6,h⟩:=bS h
   refine dq [] [] (str r6) rfl (cP (PC hr6)) ?_ (cC rfl rfl rfl rfl (bX (cj rfl) (bX (cj rfl) cN)) (PC hr6) (.inr rfl) rfl)
   refine dk 2 [5,4] [B true,str r6] ?_
   refine de 146 rfl rfl ?_
   obtain rfl:=Option.some.inj h
   exact aj rfl (qp [str r6,B true])
 have r4:∀r',y4=.inl r'→∀st,DJ (c_1,i_2) r' st→(DJ (c_1,i_2) r) st:=fun r' e st hq=>by rw[hy41 r' e] at hq;exact hq
 replace h:=hy4
 refine sp 9 h rfl (fun h=>?_) fun h=>?_
 ·refine cq 9 [17] [B true] 241 ?_
  exact rf [1,2,17] [1] (j4 _ (Option.some.inj h).symm :)
 ·refine cq 3 [10,12] [I i_2,.isl false (c_1.Clauses.map ae)] 161 ?_
  refine oy 177 (I (len c_1.Clauses)) rfl (bT rfl rfl rfl (ce rfl)) ?_
  refine cq 1 [14] [I (an ((len c_1.Clauses) - 1))] 193 ?_
  obtain⟨r7,hr7,h⟩:=bS h
  refine oy 209 (B r7) rfl (cP (jN hr7)) ?_
  refine cq 3 [17] [B (!r7)] 241 ?_
  exact rf [1,2,17] [1] (j4 _ (Option.some.inj h).symm :)
theorem NX {G:Go.Ln.Ground}[TabG Tryz.prog G]:aK Tryz.prog G 44 BD:=gT 2 0 (aJ OJ (aJ OS (aJ jX bn))) (Checked.mixed Tryz.checked) Tryz.func44 (fun a r h=>Qb a.1 a.2 r h)
def AZ:((List ac)×(List ac))→List V:=cA (mj str) (oA (mj str))
def zi (r:Bool):V×List V:=(B r,[])
noncomputable def vJ:Ent:=aW [false,false] AZ zi fun x=>xm x.1 x.2
theorem Sc {a_1:List ac}{b_2:List ac}{r}(h:xm a_1 b_2=some r):vJ.F (AZ (a_1,b_2))=some (zi r):=aF (bO (dG bp) (aE (dG bp))) h
noncomputable def Ks:Code:=aD Tryz.f67
noncomputable def E2:Env:=bW Tryz.prog []
def Mz (x:(List ac)×(List ac))(r:Bool):St→Prop:=QF E2 Tryz.f67 [false,false] (AZ x) (zi r)
theorem GX (a_1:List ac)(b_2:List ac):cI E2 0 (Mz (a_1,b_2)) (cL (cL (cR (cL (cR (cR Ks)))))) 0 (qa a_1 b_2) (fun u=>(sT 26 [] [] 1)) fun x3=>(sT 26 [(0,.isl false (a_1.map str)),(1,.isl false (b_2.map str)),(5,I x3)] [] 1):=eC (vg a_1 b_2) fun {Q K} hK self ih x3 y h hr hn=>by
 unfold kq at h
 refine cq 5 [11,12] [I x3,.isl false (a_1.map str)] 33 ?_
 refine oq 49 (I (len a_1)) rfl (bT rfl rfl rfl (ce rfl)) ?_
 refine cq 2 [14] [B (decide (x3<(len a_1)))] 65 ?_
 refine sq h (fun h=>?_) fun h=>?_
 ·refine aq 1 ?_
  refine aq 3 ?_
  refine dV [0,0,3,7,0,0,48,112,255] rfl (by decide +kernel) ?_
  refine dk 2 [18,17] [I x3,.isl false (a_1.map str)] ?_
  obtain⟨e4,he4,h⟩:=bS h
  refine dq [] [] (.iptr (str e4) 0) rfl (ao rfl rfl rfl (bh rfl rfl rfl rfl he4)) ?_
  refine dq [] [] (str e4) rfl (bQ rfl rfl) ?_
  refine dk 2 [22,21] [I x3,.isl false (b_2.map str)] ?_
  obtain⟨e5,he5,h⟩:=bS h
  refine dq [] [] (.iptr (str e5) 0) rfl (ao rfl rfl rfl (bh rfl rfl rfl rfl he5)) ?_
  refine dq [] [] (str e5) rfl (bQ rfl rfl) ?_
  refine dk 1 [25] [B (!(e4==e5))] ?_
  refine de 209 rfl rfl ?_
  refine sq h (fun h=>?_) fun h=>?_
  ·refine cq 4 [4] [B false] 225 ?_
   exact aj rfl (hr _ (Option.some.inj h).symm _ (qp [B false]))
  ·refine aq 1 ?_
   refine cq 6 [5] [I (an (x3+1))] 257 ?_
   refine dC ?_
   exact rf [0,1,5] [] (ih _ _ h hr hn :)
 ·refine aq 1 ?_
  exact rf [] [] (hn _ (Option.some.inj h).symm :) (hk:=hK)
theorem Oy (a_1:List ac)(b_2:List ac)(r:Bool)(h:xm a_1 b_2=some r):bl E2 Tryz.f67 [false,false] 0 (AZ (a_1,b_2)) (zi r):=by
 show Run _ _ (Mz (a_1,b_2) r) [.code Ks] _
 refine rI 26 [(0,.isl false (a_1.map str)),(1,.isl false (b_2.map str))] [] 1 ?_
 unfold xm at h
 refine cq 8 [6] [.isl false (a_1.map str)] 33 ?_
 refine oq 49 (I (len a_1)) rfl (bT rfl rfl rfl (ce rfl)) ?_
 refine cq 1 [8] [.isl false (b_2.map str)] 65 ?_
 refine oq 81 (I (len b_2)) rfl (bT rfl rfl rfl (ce rfl)) ?_
 refine cq 2 [10] [B ((len a_1) != (len b_2))] 97 ?_
 refine sq h (fun h=>?_) fun h=>?_
 ·refine cq 4 [4] [B false] 113 ?_
  obtain rfl:=Option.some.inj h
  exact aj rfl (qp [B false])
 ·refine aq 1 ?_
  refine cq 6 [5] [I (0)] 113 ?_
  obtain⟨y6,hy6,hy61,hy62⟩:=bJ h
  refine ci rfl ?_
  refine rf [0,1,5] [] (GX a_1 b_2 rfl 0 _ hy6 (fun r' e st hq=>by rw[hy61 r' e] at hq;exact hq) fun u6 hu=>?_)
  replace h:=hy62 u6 hu
  refine cq 4 [4] [B true] 17 ?_
  obtain rfl:=Option.some.inj h
  exact aj rfl (qp [B true])
theorem Lc {G:Go.Ln.Ground}[TabG Tryz.prog G]:aK Tryz.prog G 67 vJ:=gT 2 0 bn (Checked.mixed Tryz.checked) Tryz.func67 (fun a r h=>Oy a.1 a.2 r h)
def rV:(Condition×Condition)→List V:=cA aI (oA aI)
def tj (r:Bool):V×List V:=(B r,[])
noncomputable def oe (slf_Ffbb:(Condition×Condition)→Option Bool):Ent:=aW [false,false] rV tj slf_Ffbb
theorem Bs (slf_Ffbb:(Condition×Condition)→Option Bool){x}{r}(h:slf_Ffbb x=some r):(oe slf_Ffbb).F (rV x)=some (tj r):=aF (bO bH (aE bH)) h
def yw:((List Condition)×(List Condition))→List V:=cA (mj aa) (oA (mj aa))
def AU (r:Bool):V×List V:=(B r,[])
noncomputable def wE (slf_Ffbb:(Condition×Condition)→Option Bool):Ent:=aW [false,false] yw AU fun x=>rE slf_Ffbb x.1 x.2
theorem Rk (slf_Ffbb:(Condition×Condition)→Option Bool){a_1:List Condition}{b_2:List Condition}{r}(h:rE slf_Ffbb a_1 b_2=some r):(wE slf_Ffbb).F (yw (a_1,b_2))=some (AU r):=aF (bO (dG dM) (aE (dG dM))) h
noncomputable def Md:Code:=aD Tryz.f223
noncomputable def FM (slf_Ffbb:(Condition×Condition)→Option Bool):Env:=bW Tryz.prog [(193,(oe slf_Ffbb))]
def Kf (slf_Ffbb:(Condition×Condition)→Option Bool)(x:(List Condition)×(List Condition))(r:Bool):St→Prop:=QF (FM slf_Ffbb) Tryz.f223 [false,false] (yw x) (AU r)
theorem GE (slf_Ffbb:(Condition×Condition)→Option Bool)(a_1:List Condition)(b_2:List Condition):cI (FM slf_Ffbb) 0 (Kf slf_Ffbb (a_1,b_2)) (cL (cL (cR (cL (cR (cR Md)))))) 0 (ne slf_Ffbb a_1 b_2) (fun u=>(sT 27 [] [] 1)) fun x3=>(sT 27 [(0,.isl false (a_1.map aa)),(1,.isl false (b_2.map aa)),(5,I x3)] [] 1):=eC (uJ slf_Ffbb a_1 b_2) fun {Q K} hK self ih x3 y h hr hn=>by
 unfold iK at h
 refine cq 5 [11,12] [I x3,.isl false (a_1.map aa)] 33 ?_
 refine oq 49 (I (len a_1)) rfl (bT rfl rfl rfl (ce rfl)) ?_
 refine cq 2 [14] [B (decide (x3<(len a_1)))] 65 ?_
 refine sq h (fun h=>?_) fun h=>?_
 ·refine aq 1 ?_
  refine aq 3 ?_
  refine dV [0,0,3,7,0,0,48,112,255,511] rfl (by decide +kernel) ?_
  refine dk 2 [18,17] [I x3,.isl false (a_1.map aa)] ?_
  obtain⟨e4,he4,h⟩:=bS h
  refine dq [] [] (.iptr (.agg [I e4.Op,str e4.Name,I e4.Day,.isl false (e4.Parts.map aa)]) 0) rfl (ao rfl rfl rfl (bh rfl rfl (aQ e4) rfl he4)) ?_
  refine dq [] [] (.agg [I e4.Op,str e4.Name,I e4.Day,.isl false (e4.Parts.map aa)]) rfl (bQ rfl rfl) ?_
  refine dk 2 [22,21] [I x3,.isl false (b_2.map aa)] ?_
  obtain⟨e5,he5,h⟩:=bS h
  refine dq [] [] (.iptr (.agg [I e5.Op,str e5.Name,I e5.Day,.isl false (e5.Parts.map aa)]) 0) rfl (ao rfl rfl rfl (bh rfl rfl (aQ e5) rfl he5)) ?_
  refine dq [] [] (.agg [I e5.Op,str e5.Name,I e5.Day,.isl false (e5.Parts.map aa)]) rfl (bQ rfl rfl) ?_
  obtain⟨r6,hr6,h⟩:=bS h
  refine dq [] [] (B r6) rfl (bU rfl rfl (cm rfl rfl rfl (bX (cj rfl) (bX (cj rfl) cN)) (Bs slf_Ffbb hr6) (.inr rfl) dF rfl rfl rfl)) ?_ (cC rfl rfl rfl rfl (bX (cj rfl) (bX (cj rfl) cN)) (Bs slf_Ffbb hr6) (.inr rfl) rfl)
  refine dk 1 [26] [B (!r6)] ?_
  refine de 225 rfl rfl ?_
  refine sq h (fun h=>?_) fun h=>?_
  ·refine cq 4 [4] [B false] 241 ?_
   exact aj rfl (hr _ (Option.some.inj h).symm _ (qp [B false]))
  ·refine aq 1 ?_
   refine cq 6 [5] [I (an (x3+1))] 273 ?_
   refine dC ?_
   exact rf [0,1,5] [] (ih _ _ h hr hn :)
 ·refine aq 1 ?_
  exact rf [] [] (hn _ (Option.some.inj h).symm :) (hk:=hK)
theorem NS (slf_Ffbb:(Condition×Condition)→Option Bool)(a_1:List Condition)(b_2:List Condition)(r:Bool)(h:rE slf_Ffbb a_1 b_2=some r):bl (FM slf_Ffbb) Tryz.f223 [false,false] 0 (yw (a_1,b_2)) (AU r):=by
 show Run _ _ (Kf slf_Ffbb (a_1,b_2) r) [.code Md] _
 refine rI 27 [(0,.isl false (a_1.map aa)),(1,.isl false (b_2.map aa))] [] 1 ?_
 unfold rE at h
 refine cq 8 [6] [.isl false (a_1.map aa)] 33 ?_
 refine oq 49 (I (len a_1)) rfl (bT rfl rfl rfl (ce rfl)) ?_
 refine cq 1 [8] [.isl false (b_2.map aa)] 65 ?_
 refine oq 81 (I (len b_2)) rfl (bT rfl rfl rfl (ce rfl)) ?_
 refine cq 2 [10] [B ((len a_1) != (len b_2))] 97 ?_
 refine sq h (fun h=>?_) fun h=>?_
 ·refine cq 4 [4] [B false] 113 ?_
  obtain rfl:=Option.some.inj h
  exact aj rfl (qp [B false])
 ·refine aq 1 ?_
  refine cq 6 [5] [I (0)] 113 ?_
  obtain⟨y7,hy7,hy71,hy72⟩:=bJ h
  refine ci rfl ?_
  refine rf [0,1,5] [] (GE slf_Ffbb a_1 b_2 rfl 0 _ hy7 (fun r' e st hq=>by rw[hy71 r' e] at hq;exact hq) fun u7 hu=>?_)
  replace h:=hy72 u7 hu
  refine cq 4 [4] [B true] 17 ?_
  obtain rfl:=Option.some.inj h
  exact aj rfl (qp [B true])
theorem Ly {G:Go.Ln.Ground}[TabG Tryz.prog G](slf_Ffbb:(Condition×Condition)→Option Bool)(g_Ffbb:aK Tryz.prog G 193 (oe slf_Ffbb)):aK Tryz.prog G 223 (wE slf_Ffbb):=gT 2 0 (aJ g_Ffbb bn) (Checked.mixed Tryz.checked) Tryz.func223 (fun a r h=>NS slf_Ffbb a.1 a.2 r h)
noncomputable def xB:Ent:=oe (ay mn)
theorem RO {a_1:Condition}{b_2:Condition}{r}(h:xf a_1 b_2=some r):xB.F (rV (a_1,b_2))=some (tj r):=Bs (ay mn) h
noncomputable def RD:Code:=aD Tryz.f193
noncomputable def LV (slf_Ffbb:(Condition×Condition)→Option Bool):Env:=bW Tryz.prog [(223,(wE slf_Ffbb))]
def Se (slf_Ffbb:(Condition×Condition)→Option Bool)(x:Condition×Condition)(r:Bool):St→Prop:=QF (LV slf_Ffbb) Tryz.f193 [false,false] (rV x) (tj r)
theorem Nf (slf_Ffbb:(Condition×Condition)→Option Bool)(a_1:Condition)(b_2:Condition)(r:Bool)(h:pH slf_Ffbb a_1 b_2=some r):bl (LV slf_Ffbb) Tryz.f193 [false,false] 0 (rV (a_1,b_2)) (tj r):=by
 show Run _ _ (Se slf_Ffbb (a_1,b_2) r) [.code RD] _
 refine rI 26 [(0,.agg [I a_1.Op,str a_1.Name,I a_1.Day,.isl false (a_1.Parts.map aa)]),(1,.agg [I b_2.Op,str b_2.Name,I b_2.Day,.isl false (b_2.Parts.map aa)])] [] 1 ?_
 unfold pH at h
 refine ck 15 [2,3,9] [] [1,17] [] [.hp 1 0 [] 4 0 0,.hp 17 0 [] 4 0 0,B (a_1.Op != b_2.Op)] [some ⟨0,4,[.agg [I a_1.Op,str a_1.Name,I a_1.Day,.isl false (a_1.Parts.map aa)]]⟩,some ⟨0,4,[.agg [I b_2.Op,str b_2.Name,I b_2.Day,.isl false (b_2.Parts.map aa)]]⟩] 129 (by kernel_rfl) ?_
 refine sq h (fun h=>?_) fun h=>?_
 ·refine cq 4 [4] [B false] 145 ?_
  obtain rfl:=Option.some.inj h
  exact aj rfl (qp [B false])
 ·refine aq 1 ?_
  refine cq 9 [14] [B (!(a_1.Name==b_2.Name))] 209 ?_
  refine sq h (fun h=>?_) fun h=>?_
  ·refine cq 4 [4] [B false] 225 ?_
   obtain rfl:=Option.some.inj h
   exact aj rfl (qp [B false])
  ·refine aq 1 ?_
   refine cq 9 [19] [B (a_1.Day != b_2.Day)] 289 ?_
   refine sq h (fun h=>?_) fun h=>?_
   ·refine cq 4 [4] [B false] 305 ?_
    obtain rfl:=Option.some.inj h
    exact aj rfl (qp [B false])
   ·refine aq 1 ?_
    refine cq 7 [21,23] [.isl false (a_1.Parts.map aa),.isl false (b_2.Parts.map aa)] 353 ?_
    obtain⟨r3,hr3,h⟩:=bS h
    refine oq 369 (B r3) rfl (bU rfl rfl (cm rfl rfl rfl (bX (cj rfl) (bX (cj rfl) cN)) (Rk slf_Ffbb hr3) (.inr rfl) dF rfl rfl rfl)) ?_
    refine cq 2 [25] [B (!r3)] 385 ?_
    refine sq h (fun h=>?_) fun h=>?_
    ·refine cq 4 [4] [B false] 401 ?_
     obtain rfl:=Option.some.inj h
     exact aj rfl (qp [B false])
    ·refine aq 1 ?_
     refine cq 4 [4] [B true] 401 ?_
     obtain rfl:=Option.some.inj h
     exact aj rfl (qp [B true])
theorem Kq {G:Go.Ln.Ground}[TabG Tryz.prog G]:aK Tryz.prog G 193 xB:=fE fun slf_Ffbb g_Ffbb=>gT 2 0 (aJ (Ly slf_Ffbb g_Ffbb) bn) (Checked.mixed Tryz.checked) Tryz.func193 (fun a r h=>Nf slf_Ffbb a.1 a.2 r h)
def DL:(Clause×Clause)→List V:=cA ae (oA ae)
def Dq (r:Bool):V×List V:=(B r,[])
noncomputable def BM:Ent:=aW [false,false] DL Dq fun x=>CS x.1 x.2
theorem PB {a_1:Clause}{b_2:Clause}{r}(h:CS a_1 b_2=some r):BM.F (DL (a_1,b_2))=some (Dq r):=aF (bO cH (aE cH)) h
noncomputable def S1:Code:=aD Tryz.f136
noncomputable def PD:Env:=bW Tryz.prog [(193,xB)]
def S8 (x:Clause×Clause)(r:Bool):St→Prop:=QF PD Tryz.f136 [false,false] (DL x) (Dq r)
theorem PL (a_1:Clause)(b_2:Clause)(r:Bool)(h:CS a_1 b_2=some r):bl PD Tryz.f136 [false,false] 0 (DL (a_1,b_2)) (Dq r):=by
 show Run _ _ (S8 (a_1,b_2) r) [.code S1] _
 refine rI 51 [(0,.agg [str a_1.Id,I a_1.Kind,I a_1.Party,str a_1.Action,I a_1.Other,I a_1.Amount,I a_1.When.Op,str a_1.When.Name,I a_1.When.Day,.isl false (a_1.When.Parts.map aa),I a_1.Within,str a_1.Repair]),(1,.agg [str b_2.Id,I b_2.Kind,I b_2.Party,str b_2.Action,I b_2.Other,I b_2.Amount,I b_2.When.Op,str b_2.When.Name,I b_2.When.Day,.isl false (b_2.When.Parts.map aa),I b_2.Within,str b_2.Repair])] [] 1 ?_
 unfold CS at h
 refine ck 15 [2,3,9] [] [1,17] [] [.hp 1 0 [] 12 0 0,.hp 17 0 [] 12 0 0,B (!(a_1.Id==b_2.Id))] [some ⟨0,12,[.agg [str a_1.Id,I a_1.Kind,I a_1.Party,str a_1.Action,I a_1.Other,I a_1.Amount,I a_1.When.Op,str a_1.When.Name,I a_1.When.Day,.isl false (a_1.When.Parts.map aa),I a_1.Within,str a_1.Repair]]⟩,some ⟨0,12,[.agg [str b_2.Id,I b_2.Kind,I b_2.Party,str b_2.Action,I b_2.Other,I b_2.Amount,I b_2.When.Op,str b_2.When.Name,I b_2.When.Day,.isl false (b_2.When.Parts.map aa),I b_2.Within,str b_2.Repair]]⟩] 129 (by kernel_rfl) ?_
 refine sq h (fun h=>?_) fun h=>?_
 ·refine cq 4 [4] [B false] 145 ?_
  obtain rfl:=Option.some.inj h
  exact aj rfl (qp [B false])
 ·refine aq 1 ?_
  refine cq 9 [14] [B (a_1.Kind != b_2.Kind)] 209 ?_
  refine sq h (fun h=>?_) fun h=>?_
  ·refine cq 4 [4] [B false] 225 ?_
   obtain rfl:=Option.some.inj h
   exact aj rfl (qp [B false])
  ·refine aq 1 ?_
   refine cq 9 [19] [B (a_1.Party != b_2.Party)] 289 ?_
   refine sq h (fun h=>?_) fun h=>?_
   ·refine cq 4 [4] [B false] 305 ?_
    obtain rfl:=Option.some.inj h
    exact aj rfl (qp [B false])
   ·refine aq 1 ?_
    refine cq 9 [24] [B (!(a_1.Action==b_2.Action))] 369 ?_
    refine sq h (fun h=>?_) fun h=>?_
    ·refine cq 4 [4] [B false] 385 ?_
     obtain rfl:=Option.some.inj h
     exact aj rfl (qp [B false])
    ·refine aq 1 ?_
     refine cq 9 [29] [B (a_1.Other != b_2.Other)] 449 ?_
     refine sq h (fun h=>?_) fun h=>?_
     ·refine cq 4 [4] [B false] 465 ?_
      obtain rfl:=Option.some.inj h
      exact aj rfl (qp [B false])
     ·refine aq 1 ?_
      refine cq 9 [34] [B (a_1.Amount != b_2.Amount)] 529 ?_
      refine sq h (fun h=>?_) fun h=>?_
      ·refine cq 4 [4] [B false] 545 ?_
       obtain rfl:=Option.some.inj h
       exact aj rfl (qp [B false])
      ·refine aq 1 ?_
       refine cq 7 [36,38] [.agg [I a_1.When.Op,str a_1.When.Name,I a_1.When.Day,.isl false (a_1.When.Parts.map aa)],.agg [I b_2.When.Op,str b_2.When.Name,I b_2.When.Day,.isl false (b_2.When.Parts.map aa)]] 593 ?_
       obtain⟨r3,hr3,h⟩:=bS h
       refine oq 609 (B r3) rfl (cP (RO hr3)) ?_
       refine cq 2 [40] [B (!r3)] 625 ?_
       refine sq h (fun h=>?_) fun h=>?_
       ·refine cq 4 [4] [B false] 641 ?_
        obtain rfl:=Option.some.inj h
        exact aj rfl (qp [B false])
       ·refine aq 1 ?_
        refine cq 9 [45] [B (a_1.Within != b_2.Within)] 705 ?_
        refine sq h (fun h=>?_) fun h=>?_
        ·refine cq 4 [4] [B false] 721 ?_
         obtain rfl:=Option.some.inj h
         exact aj rfl (qp [B false])
        ·refine aq 1 ?_
         refine cq 9 [50] [B (!(a_1.Repair==b_2.Repair))] 785 ?_
         refine sq h (fun h=>?_) fun h=>?_
         ·refine cq 4 [4] [B false] 801 ?_
          obtain rfl:=Option.some.inj h
          exact aj rfl (qp [B false])
         ·refine aq 1 ?_
          refine cq 4 [4] [B true] 801 ?_
          obtain rfl:=Option.some.inj h
          exact aj rfl (qp [B true])
theorem Nq {G:Go.Ln.Ground}[TabG Tryz.prog G]:aK Tryz.prog G 136 BM:=gT 2 0 (aJ Kq bn) (Checked.mixed Tryz.checked) Tryz.func136 (fun a r h=>PL a.1 a.2 r h)
def yL:((List Clause)×(List Clause))→List V:=cA (mj ae) (oA (mj ae))
def yW (r:Bool):V×List V:=(B r,[])
noncomputable def wy:Ent:=aW [false,false] yL yW fun x=>vZ x.1 x.2
theorem Sz {a_1:List Clause}{b_2:List Clause}{r}(h:vZ a_1 b_2=some r):wy.F (yL (a_1,b_2))=some (yW r):=aF (bO (dG cH) (aE (dG cH))) h
noncomputable def LN:Code:=aD Tryz.f68
noncomputable def Fp:Env:=bW Tryz.prog [(136,BM)]
def LD (x:(List Clause)×(List Clause))(r:Bool):St→Prop:=QF Fp Tryz.f68 [false,false] (yL x) (yW r)
theorem Gy (a_1:List Clause)(b_2:List Clause):cI Fp 0 (LD (a_1,b_2)) (cL (cL (cR (cL (cR (cR LN)))))) 0 (pD a_1 b_2) (fun u=>(sT 27 [] [] 1)) fun x3=>(sT 27 [(0,.isl false (a_1.map ae)),(1,.isl false (b_2.map ae)),(5,I x3)] [] 1):=eC (vi a_1 b_2) fun {Q K} hK self ih x3 y h hr hn=>by
 unfold kA at h
 refine cq 5 [11,12] [I x3,.isl false (a_1.map ae)] 33 ?_
 refine oq 49 (I (len a_1)) rfl (bT rfl rfl rfl (ce rfl)) ?_
 refine cq 2 [14] [B (decide (x3<(len a_1)))] 65 ?_
 refine sq h (fun h=>?_) fun h=>?_
 ·refine aq 1 ?_
  refine aq 3 ?_
  refine dV [0,0,3,7,0,0,48,112,255,511] rfl (by decide +kernel) ?_
  refine dk 2 [18,17] [I x3,.isl false (a_1.map ae)] ?_
  obtain⟨e4,he4,h⟩:=bS h
  refine dq [] [] (.iptr (.agg [str e4.Id,I e4.Kind,I e4.Party,str e4.Action,I e4.Other,I e4.Amount,I e4.When.Op,str e4.When.Name,I e4.When.Day,.isl false (e4.When.Parts.map aa),I e4.Within,str e4.Repair]) 0) rfl (ao rfl rfl rfl (bh rfl rfl rfl rfl he4)) ?_
  refine dq [] [] (.agg [str e4.Id,I e4.Kind,I e4.Party,str e4.Action,I e4.Other,I e4.Amount,I e4.When.Op,str e4.When.Name,I e4.When.Day,.isl false (e4.When.Parts.map aa),I e4.Within,str e4.Repair]) rfl (bQ rfl rfl) ?_
  refine dk 2 [22,21] [I x3,.isl false (b_2.map ae)] ?_
  obtain⟨e5,he5,h⟩:=bS h
  refine dq [] [] (.iptr (.agg [str e5.Id,I e5.Kind,I e5.Party,str e5.Action,I e5.Other,I e5.Amount,I e5.When.Op,str e5.When.Name,I e5.When.Day,.isl false (e5.When.Parts.map aa),I e5.Within,str e5.Repair]) 0) rfl (ao rfl rfl rfl (bh rfl rfl rfl rfl he5)) ?_
  refine dq [] [] (.agg [str e5.Id,I e5.Kind,I e5.Party,str e5.Action,I e5.Other,I e5.Amount,I e5.When.Op,str e5.When.Name,I e5.When.Day,.isl false (e5.When.Parts.map aa),I e5.Within,str e5.Repair]) rfl (bQ rfl rfl) ?_
  obtain⟨r6,hr6,h⟩:=bS h
  refine dq [] [] (B r6) rfl (cP (PB hr6)) ?_ (cC rfl rfl rfl rfl (bX (cj rfl) (bX (cj rfl) cN)) (PB hr6) (.inr rfl) rfl)
  refine dk 1 [26] [B (!r6)] ?_
  refine de 225 rfl rfl ?_
  refine sq h (fun h=>?_) fun h=>?_
  ·refine cq 4 [4] [B false] 241 ?_
   exact aj rfl (hr _ (Option.some.inj h).symm _ (qp [B false]))
  ·refine aq 1 ?_
   refine cq 6 [5] [I (an (x3+1))] 273 ?_
   refine dC ?_
   exact rf [0,1,5] [] (ih _ _ h hr hn :)
 ·refine aq 1 ?_
  exact rf [] [] (hn _ (Option.some.inj h).symm :) (hk:=hK)
theorem Oi (a_1:List Clause)(b_2:List Clause)(r:Bool)(h:vZ a_1 b_2=some r):bl Fp Tryz.f68 [false,false] 0 (yL (a_1,b_2)) (yW r):=by
 show Run _ _ (LD (a_1,b_2) r) [.code LN] _
 refine rI 27 [(0,.isl false (a_1.map ae)),(1,.isl false (b_2.map ae))] [] 1 ?_
 unfold vZ at h
 refine cq 8 [6] [.isl false (a_1.map ae)] 33 ?_
 refine oq 49 (I (len a_1)) rfl (bT rfl rfl rfl (ce rfl)) ?_
 refine cq 1 [8] [.isl false (b_2.map ae)] 65 ?_
 refine oq 81 (I (len b_2)) rfl (bT rfl rfl rfl (ce rfl)) ?_
 refine cq 2 [10] [B ((len a_1) != (len b_2))] 97 ?_
 refine sq h (fun h=>?_) fun h=>?_
 ·refine cq 4 [4] [B false] 113 ?_
  obtain rfl:=Option.some.inj h
  exact aj rfl (qp [B false])
 ·refine aq 1 ?_
  refine cq 6 [5] [I (0)] 113 ?_
  obtain⟨y7,hy7,hy71,hy72⟩:=bJ h
  refine ci rfl ?_
  refine rf [0,1,5] [] (Gy a_1 b_2 rfl 0 _ hy7 (fun r' e st hq=>by rw[hy71 r' e] at hq;exact hq) fun u7 hu=>?_)
  replace h:=hy72 u7 hu
  refine cq 4 [4] [B true] 17 ?_
  obtain rfl:=Option.some.inj h
  exact aj rfl (qp [B true])
theorem Mb {G:Go.Ln.Ground}[TabG Tryz.prog G]:aK Tryz.prog G 68 wy:=gT 2 0 (aJ Nq bn) (Checked.mixed Tryz.checked) Tryz.func68 (fun a r h=>Oi a.1 a.2 r h)
def zU:(Contract×Contract)→List V:=cA aN (oA aN)
def zq (r:Bool):V×List V:=(B r,[])
noncomputable def wU:Ent:=aW [false,false] zU zq fun x=>wj x.1 x.2
theorem Mp {a_1:Contract}{b_2:Contract}{r}(h:wj a_1 b_2=some r):wU.F (zU (a_1,b_2))=some (zq r):=aF (bO bm (aE bm)) h
noncomputable def Sw:Code:=aD Tryz.f21
noncomputable def JB:Env:=bW Tryz.prog [(67,vJ),(68,wy)]
def So (x:Contract×Contract)(r:Bool):St→Prop:=QF JB Tryz.f21 [false,false] (zU x) (zq r)
theorem OK (a_1:Contract)(b_2:Contract)(r:Bool)(h:wj a_1 b_2=some r):bl JB Tryz.f21 [false,false] 0 (zU (a_1,b_2)) (zq r):=by
 show Run _ _ (So (a_1,b_2) r) [.code Sw] _
 refine rI 17 [(0,.agg [.isl false (a_1.Parties.map str),.isl false (a_1.Clauses.map ae)]),(1,.agg [.isl false (b_2.Parties.map str),.isl false (b_2.Clauses.map ae)])] [] 1 ?_
 unfold wj at h
 refine ck 13 [2,3,6,8] [] [1,17] [] [.hp 1 0 [] 2 0 0,.hp 17 0 [] 2 0 0,.isl false (a_1.Parties.map str),.isl false (b_2.Parties.map str)] [some ⟨0,2,[.agg [.isl false (a_1.Parties.map str),.isl false (a_1.Clauses.map ae)]]⟩,some ⟨0,2,[.agg [.isl false (b_2.Parties.map str),.isl false (b_2.Clauses.map ae)]]⟩] 113 (by kernel_rfl) ?_
 obtain⟨r3,hr3,h⟩:=bS h
 refine oq 129 (B r3) rfl (cP (Sc hr3)) ?_
 refine cq 2 [10] [B (!r3)] 145 ?_
 refine sq h (fun h=>?_) fun h=>?_
 ·refine cq 4 [4] [B false] 161 ?_
  obtain rfl:=Option.some.inj h
  exact aj rfl (qp [B false])
 ·refine aq 1 ?_
  refine cq 7 [12,14] [.isl false (a_1.Clauses.map ae),.isl false (b_2.Clauses.map ae)] 209 ?_
  obtain⟨r4,hr4,h⟩:=bS h
  refine oq 225 (B r4) rfl (cP (Sz hr4)) ?_
  refine cq 2 [16] [B (!r4)] 241 ?_
  refine sq h (fun h=>?_) fun h=>?_
  ·refine cq 4 [4] [B false] 257 ?_
   obtain rfl:=Option.some.inj h
   exact aj rfl (qp [B false])
  ·refine aq 1 ?_
   refine cq 4 [4] [B true] 257 ?_
   obtain rfl:=Option.some.inj h
   exact aj rfl (qp [B true])
theorem LL {G:Go.Ln.Ground}[TabG Tryz.prog G]:aK Tryz.prog G 21 wU:=gT 2 0 (aJ Lc (aJ Mb bn)) (Checked.mixed Tryz.checked) Tryz.func21 (fun a r h=>OK a.1 a.2 r h)
def dZ:(Contract×Int)→List V:=cA aN (oA I)
def d2 (r:Bool):V×List V:=(B r,[])
noncomputable def eJ:Ent:=aW [false,false] dZ d2 fun x=>cZ x.1 x.2
theorem mD {aC_1:Contract}{aI_2:Int}{r}(h:cZ aC_1 aI_2=some r):eJ.F (dZ (aC_1,aI_2))=some (d2 r):=aF (bO bm (aE bK)) h
noncomputable def dY:Code:=aD Tryz.f11
noncomputable def fe:Env:=bW Tryz.prog [(15,wl),(18,xb),(43,xy),(44,BD),(21,wU)]
def ie (x:Contract×Int)(r:Bool):St→Prop:=QF fe Tryz.f11 [false,false] (dZ x) (d2 r)
theorem lH (aC_1:Contract)(aI_2:Int)(r:Bool)(h:cZ aC_1 aI_2=some r):bl fe Tryz.f11 [false,false] 0 (dZ (aC_1,aI_2)) (d2 r):=by
 show Run _ _ (ie (aC_1,aI_2) r) [.code dY] _
 refine rI 44 [(0,aN aC_1),(1,I aI_2)] [] 1 ?_
 unfold cZ at h
 refine ck 13 [2,11,12] [] [1] [] [.hp 1 0 [] 2 0 0,aN aC_1,I (1048576)] [some ⟨0,2,[aN aC_1]⟩] 81 (by kernel_rfl) ?_
 obtain⟨r3,hr3,h⟩:=bS h
 refine oq 97 (I r3) rfl (cP (RP hr3)) ?_
 refine cq 8 [15] [B (decide (r3<0))] 145 ?_
 refine sq h (fun h=>?_) fun h=>?_
 ·refine cq 4 [4] [B true] 161 ?_
  obtain rfl:=Option.some.inj h
  exact aj rfl (qp [B true])
 ·refine aq 1 ?_
  refine cq 3 [17] [aN aC_1] 161 ?_
  obtain⟨r4,hr4,h⟩:=bS h
  refine oq 177 (.agg [.hs 161 0 [] 1 0 (r4.Parties.map str).length,.hs 162 0 [] 12 0 (r4.Clauses.map aA).length]) rfl (cP (xJ hr4)) ?_
  refine cq 1 [19] [I aI_2] 193 ?_
  obtain⟨r5,hr5,h⟩:=bS h
  refine oq 209 (.tup [str r5.1,B r5.2]) rfl (bU rfl rfl (cm rfl rfl rfl (bX (FO (ou (nH (f:=str) (g:=str) (xs:=r4.Parties) rfl rfl (eK lC)) (ou (nH (f:=aA) (g:=ae) (xs:=r4.Clauses) rfl rfl (eK eX)) E6))) (bX (cj rfl) cN)) (R7 hr5) (.inl rfl) dF rfl rfl rfl)) ?_
  refine cq 9 [6,7,23] [str r5.1,B r5.2,aN aC_1] 305 ?_
  obtain⟨r6,hr6,h⟩:=bS h
  refine oq 321 (.agg [.hs 305 0 [] 1 0 (r6.Parties.map str).length,.hs 306 0 [] 12 0 (r6.Clauses.map aA).length]) rfl (cP (xJ hr6)) ?_
  refine ck 1 [8] [] [321] [] [.hp 321 0 [] 2 0 0] [some ⟨0,2,[.agg [.isl true [],.isl true []]]⟩] 337 (by kernel_rfl) ?_
  refine eF 321 [.agg [.usl 1 (([]).map str),.usl 12 (([]).map aA)]] rfl rfl (au (fH (au (.nil _) (au (.nil _) dH))) dH) ?_
  refine o0 353 rfl rfl (li rfl rfl (iz (path:=[]) (pl:=false) (e':=.agg [.usl 1 (r6.Parties.map str),.usl 12 (r6.Clauses.map aA)]) (es2':=[.agg [.usl 1 (r6.Parties.map str),.usl 12 (r6.Clauses.map aA)]]) rfl (oL (cb (dK rfl rfl) (cb (dK rfl rfl) oM))) rfl rfl rfl bM rfl rfl rfl rfl rfl fU 2 rfl)) ?_
  refine cq 5 [26,27] [.agg [.hs 321 2 [(0,0)] 1 0 (r6.Parties.map str).length,.hs 321 2 [(0,1)] 12 0 (r6.Clauses.map aA).length],I aI_2] 385 ?_
  obtain⟨r7,hr7,h⟩:=bS h
  refine oq 401 (.tup [str r7.1,B r7.2]) rfl (bU rfl rfl (cm rfl rfl rfl (bX (FO (ou (tZ (path:=[(0,0)]) rfl rfl (kT rfl rfl bM) rfl (eK (f:=str) lC)) (ou (tZ (path:=[(0,1)]) rfl rfl (kT rfl rfl bM) rfl (eK (f:=aA) eX)) E6))) (bX (cj rfl) cN)) (SX hr7) (.inl rfl) dF rfl rfl rfl)) ?_
  refine cq 13 [10,34] [B r7.2,B (!(r7.1==r5.1))] 545 ?_
  obtain⟨u8,hu8,h⟩:=lJ h
  have j8:Run fe 0 (ie (aC_1,aI_2) r) (.code (cR (cL (cR (cR (cR (cR (cR (cR (cR dY)))))))))::.code (cR (cR (cR (cR (cR (cR (cR (cR dY))))))))::[]) (sT 44 [(2,.hp 1 0 [] 2 0 0),(8,.hp 2 0 [] 2 0 0),(38,B u8)] [⟨0,2,[aN aC_1]⟩,⟨0,2,[.agg [.usl 1 (r6.Parties.map str),.usl 12 (r6.Clauses.map aA)]]⟩] 3):=by
   refine sq h (fun h=>?_) fun h=>?_
   ·refine cq 4 [4] [B false] 19 ?_
    obtain rfl:=Option.some.inj h
    exact aj rfl (qp [B false])
   ·refine aq 1 ?_
    refine aq 2 ?_
    refine dV [0,0,2,7,15] rfl (by decide +kernel) ?_
    refine dq [2] [] (.agg [.hs 2 0 [(0,0)] 1 0 (r6.Parties.map str).length,.hs 2 0 [(0,1)] 12 0 (r6.Clauses.map aA).length]) rfl (bQ rfl rfl) ?_
    refine dq [1] [] (aN aC_1) rfl (bQ rfl rfl) ?_
    obtain⟨r9,hr9,h⟩:=bS h
    refine dq [] [] (.agg [.hs 35 0 [] 1 0 (r9.Parties.map str).length,.hs 36 0 [] 12 0 (r9.Clauses.map aA).length]) rfl (cP (xJ hr9)) ?_ (cC rfl rfl rfl rfl (bX (cj rfl) cN) (xJ hr9) (.inr rfl) rfl)
    obtain⟨r10,hr10,h⟩:=bS h
    refine dq [2,2,35,36] [] (B r10) rfl (bU rfl rfl (cm rfl rfl rfl (bX (FO (ou (tZ (path:=[(0,0)]) rfl rfl (kT rfl rfl bM) rfl (eK (f:=str) lC)) (ou (tZ (path:=[(0,1)]) rfl rfl (kT rfl rfl bM) rfl (eK (f:=aA) eX)) E6))) (bX (FO (ou (nH (f:=str) (g:=str) (xs:=r9.Parties) rfl rfl (eK lC)) (ou (nH (f:=aA) (g:=ae) (xs:=r9.Clauses) rfl rfl (eK eX)) E6))) cN)) (Mp hr10) (.inl rfl) dF rfl rfl rfl)) ?_ (cC rfl rfl rfl rfl (bX (FO (ou (tZ (path:=[(0,0)]) rfl rfl (kT rfl rfl bM) rfl (eK (f:=str) lC)) (ou (tZ (path:=[(0,1)]) rfl rfl (kT rfl rfl bM) rfl (eK (f:=aA) eX)) E6))) (bX (FO (ou (nH (f:=str) (g:=str) (xs:=r9.Parties) rfl rfl (eK lC)) (ou (nH (f:=aA) (g:=ae) (xs:=r9.Clauses) rfl rfl (eK eX)) E6))) cN)) (Mp hr10) (.inl rfl) rfl)
    refine dk 1 [43] [B (!r10)] ?_
    refine de 83 rfl rfl ?_
    refine sq h (fun h=>?_) fun h=>?_
    ·refine cq 4 [4] [B false] 99 ?_
     obtain rfl:=Option.some.inj h
     exact aj rfl (qp [B false])
    ·refine aq 1 ?_
     refine cq 4 [4] [B true] 99 ?_
     obtain rfl:=Option.some.inj h
     exact aj rfl (qp [B true])
  replace h:=hu8
  clear hu8
  refine sp 34 h rfl (fun h=>?_) fun h=>?_
  ·refine cq 5 [38] [B true] 609 ?_
   subst h
   exact rf [2,8,38] [1,321] (j8 :)
  ·refine cq 5 [38] [B (!(r7.2==r5.2))] 609 ?_
   subst h
   exact rf [2,8,38] [1,321] (j8 :)
theorem lj {G:Go.Ln.Ground}[TabG Tryz.prog G]:aK Tryz.prog G 11 eJ:=gT 2 0 (aJ Ls (aJ J8 (aJ Ke (aJ NX (aJ LL bn))))) (Checked.mixed Tryz.checked) Tryz.func11 (fun a r h=>lH a.1 a.2 r h)
end Go.Ln
