/-
  Each function of the program computes its plain function.
-/
import Derived.Test.YtgcnameabpnpaaaDoorFnExactMergeEventsFun
import Derived.Test.YtgcnameabpnpaaaDoorChecked
set_option maxHeartbeats 4000000
set_option linter.unusedVariables false
set_option linter.unusedSimpArgs false
set_option maxRecDepth 100000
namespace Go.Ln
open Go Go.Proofs
def Ffw_A : (Event × Int)→List V:=cA enc_Event (oA I)
def Ffw_R (r : Int) : V × List V:=(I (r),[])
noncomputable def Ffw_ent : Ent:=entT [false,false] Ffw_A Ffw_R fun x=>Ffw x.1 x.2
theorem Ffw_F {a_1 : Event} {left_2 : Int} {r} (h : Ffw a_1 left_2=some r) : (Ffw_ent).F (Ffw_A (a_1,left_2))=some (Ffw_R r):=entT_F (cA_inj enc_Event_inj (oA_inj I_inj)) h
noncomputable def Ffw_c : Code:=bodyOf Tryd.f31
noncomputable def Ffw_E : Env:=mkE Tryd.prog []
def Ffw_Q (x : Event × Int) (r : Int) : St→Prop:=QF Ffw_E Tryd.f31 [false,false] (Ffw_A x) (Ffw_R r)
theorem Ffw_run (a_1 : Event) (left_2 : Int) (r : Int) (h : Ffw a_1 left_2=some r) : RunF Ffw_E Tryd.f31 [false,false] 0 (Ffw_A (a_1,left_2)) (Ffw_R r):=by
 show Run _ _ (Ffw_Q (a_1,left_2) r) [.code Ffw_c] _
 refine rin (n:=13) [(0,enc_Event a_1),(1,I (left_2))] [] 1 (by kernel_rfl) (by kernel_rfl) (by kernel_rfl) rfl ?_
 unfold Ffw at h
 refine c0 20 [1,11] [I ((w64 (left_2 - (len a_1.Action)))),B ((decide ((w64 (left_2 - (len a_1.Action))) < 0)))] 161 (by kernel_rfl) ?_
 refine sc h rfl rfl (fun h=>?_) (fun h=>?_)
 · refine c0 4 [4] [I ((-1))] 177 (by kernel_rfl) ?_
   obtain rfl:=Option.some.inj h
   exact s_ret rfl ⟨_,fin (vs:=[I ((-1))]) rfl (absE (absorb_plain rfl) (absEN)) rfl (ou_f (ou_f (ou_n))),kl_n⟩
 · refine ad 1 rfl ?_
   refine c0 5 [4] [I ((w64 (left_2 - (len a_1.Action))))] 193 (by kernel_rfl) ?_
   obtain rfl:=Option.some.inj h
   exact s_ret rfl ⟨_,fin (vs:=[I ((w64 (left_2 - (len a_1.Action))))]) rfl (absE (absorb_plain rfl) (absEN)) rfl (ou_f (ou_f (ou_n))),kl_n⟩
theorem Ffw_good {G : Go.Ln.Ground} : Good Tryd.prog G 31 Ffw_ent:=good_T (fnOf_good (gl_n)) agree_mk (Checked.mixed Tryd.checked) Tryd.func31 (n:=2) (m:=0) ⟨rfl,rfl,by decide⟩ (fun _=>⟨rfl,rfl⟩) (fun a r h=>Ffw_run a.1 a.2 r h)
def Ffx_A : ((List Event) × Int)→List V:=cA (slE enc_Event) (oA I)
def Ffx_R (r : Int) : V × List V:=(I (r),[])
noncomputable def Ffx_ent : Ent:=entT [false,false] Ffx_A Ffx_R fun x=>Ffx x.1 x.2
theorem Ffx_F {a_1 : List Event} {left_2 : Int} {r} (h : Ffx a_1 left_2=some r) : (Ffx_ent).F (Ffx_A (a_1,left_2))=some (Ffx_R r):=entT_F (cA_inj (isl_inj enc_Event_inj) (oA_inj I_inj)) h
noncomputable def Ffx_c : Code:=bodyOf Tryd.f13
noncomputable def Ffx_E : Env:=mkE Tryd.prog [(31,Ffw_ent)]
def Ffx_Q (x : (List Event) × Int) (r : Int) : St→Prop:=QF Ffx_E Tryd.f13 [false,false] (Ffx_A x) (Ffx_R r)
theorem Ffx_la_run (a_1 : List Event) (left_2 : Int)  {Q : St→Prop} {K : List It} (hK : noD K=true) {x3 : Int × Int} {y : Int ⊕ Int} (h : Ffx_la a_1 left_2 x3=some y) : (∀ r',y=.inl r'→∀ st,Ffx_Q (a_1,left_2) r' st→Q st)→(∀ u : Int,y=.inr u→Run Ffx_E 0 Q K ⟨mkTm .dead 27 [(1,I (u))],mkS (rtL [] 1),1⟩)→Run Ffx_E 0 Q (.code (cL (cL (cR (cL (cR (cR (cR Ffx_c))))))) :: .lp (cL (cL (cR (cL (cR (cR (cR Ffx_c))))))) :: .blk 0 :: K) ⟨mkTm .dead 27 [(0,.isl false ((a_1).map enc_Event)),(1,I (x3.1)),(5,I (x3.2))],mkS (rtL [] 1),1⟩:=by
 refine fix_ind (P:=fun (x3 : Int × Int) (y : Int ⊕ Int)=>(∀ r',y=.inl r'→∀ st,Ffx_Q (a_1,left_2) r' st→Q st)→(∀ u : Int,y=.inr u→Run Ffx_E 0 Q K ⟨mkTm .dead 27 [(1,I (u))],mkS (rtL [] 1),1⟩)→Run Ffx_E 0 Q (.code (cL (cL (cR (cL (cR (cR (cR Ffx_c))))))) :: .lp (cL (cL (cR (cL (cR (cR (cR Ffx_c))))))) :: .blk 0 :: K) ⟨mkTm .dead 27 [(0,.isl false ((a_1).map enc_Event)),(1,I (x3.1)),(5,I (x3.2))],mkS (rtL [] 1),1⟩) (Ffx_la_fin a_1 left_2) ?_ h
 clear h y x3
 intro self ih x3 y h hr hn
 unfold Ffx_la_F at h
 refine c0 5 [12,13] [I (x3.2),.isl false ((a_1).map enc_Event)] 33 (by kernel_rfl) ?_
 refine o 49 (I ((len a_1))) rfl rfl (e_len rfl rfl rfl (l_isl rfl)) ?_
 refine c0 2 [15] [B ((decide (x3.2 < (len a_1))))] 65 (by kernel_rfl) ?_
 refine sc h rfl rfl (fun h=>?_) (fun h=>?_)
 · refine ad 1 rfl ?_
   refine c0 6 [18,19] [.isl false ((a_1).map enc_Event),I (x3.2)] 97 (by kernel_rfl) ?_
   obtain ⟨e4,he4,h⟩:=bS h
   refine o 113 (.iptr (enc_Event e4) 0) rfl rfl (e_indexAddr rfl rfl rfl (ix_islE rfl rfl rfl rfl he4)) ?_
   refine c0 2 [21,22] [enc_Event e4,I (x3.1)] 145 (by kernel_rfl) ?_
   obtain ⟨r5,hr5,h⟩:=bS h
   refine o 161 (I (r5)) rfl rfl (e_callV rfl rfl (call_P rfl rfl rfl (avS (shP rfl) (avS (shP rfl) (avN))) (Ffw_F hr5) (.inr rfl) (bl_n) rfl rfl rfl)) ?_
   refine c0 7 [1,25] [I (r5),B ((decide (r5 < 0)))] 209 (by kernel_rfl) ?_
   refine sc h rfl rfl (fun h=>?_) (fun h=>?_)
   · refine c0 4 [4] [I ((-1))] 225 (by kernel_rfl) ?_
     exact s_ret rfl (hr _ (Option.some.inj h).symm _ ⟨_,fin (vs:=[I ((-1))]) rfl (absE (absorb_plain rfl) (absEN)) rfl (ou_f (ou_f (ou_n))),kl_n⟩)
   · refine ad 1 rfl ?_
     refine c0 6 [5] [I ((w64 (x3.2 + 1)))] 257 (by kernel_rfl) ?_
     refine s_lp ?_
     refine run_forget [0,1,5] [] [] rfl rfl rfl rfl ?_
     exact ih _ _ h hr hn
 · refine ad 1 rfl ?_
   refine run_forget [1] [] [] rfl rfl rfl hK ?_
   exact hn _ (Option.some.inj h).symm
theorem Ffx_run (a_1 : List Event) (left_2 : Int) (r : Int) (h : Ffx a_1 left_2=some r) : RunF Ffx_E Tryd.f13 [false,false] 0 (Ffx_A (a_1,left_2)) (Ffx_R r):=by
 show Run _ _ (Ffx_Q (a_1,left_2) r) [.code Ffx_c] _
 refine rin (n:=27) [(0,.isl false ((a_1).map enc_Event)),(1,I (left_2))] [] 1 (by kernel_rfl) (by kernel_rfl) (by kernel_rfl) rfl ?_
 unfold Ffx at h
 refine c0 8 [6,7] [I (left_2),.isl false ((a_1).map enc_Event)] 49 (by kernel_rfl) ?_
 refine o 65 (I ((len a_1))) rfl rfl (e_len rfl rfl rfl (l_isl rfl)) ?_
 refine c0 9 [1,11] [I ((w64 (left_2 - (len a_1)))),B ((decide ((w64 (left_2 - (len a_1))) < 0)))] 129 (by kernel_rfl) ?_
 refine sc h rfl rfl (fun h=>?_) (fun h=>?_)
 · refine c0 4 [4] [I ((-1))] 145 (by kernel_rfl) ?_
   obtain rfl:=Option.some.inj h
   exact s_ret rfl ⟨_,fin (vs:=[I ((-1))]) rfl (absE (absorb_plain rfl) (absEN)) rfl (ou_f (ou_f (ou_n))),kl_n⟩
 · refine ad 1 rfl ?_
   refine c0 6 [5] [I (0)] 145 (by kernel_rfl) ?_
   obtain ⟨y6,hy6,hy61,hy62⟩:=bJ h
   refine s_loop rfl ?_
   refine run_forget [0,1,5] [] [] rfl rfl rfl rfl ?_
   refine Ffx_la_run a_1 left_2 rfl hy6 (fun r' e st hq=>by rw [hy61 r' e] at hq; exact hq) (fun u6 hu=>?_)
   replace h:=hy62 u6 hu
   refine c0 5 [4] [I (u6)] 33 (by kernel_rfl) ?_
   obtain rfl:=Option.some.inj h
   exact s_ret rfl ⟨_,fin (vs:=[I (u6)]) rfl (absE (absorb_plain rfl) (absEN)) rfl (ou_f (ou_f (ou_n))),kl_n⟩
theorem Ffx_good {G : Go.Ln.Ground} : Good Tryd.prog G 13 Ffx_ent:=good_T (fnOf_good (gl_c Ffw_good (gl_n))) agree_mk (Checked.mixed Tryd.checked) Tryd.func13 (n:=2) (m:=0) ⟨rfl,rfl,by decide⟩ (fun _=>⟨rfl,rfl⟩) (fun a r h=>Ffx_run a.1 a.2 r h)
def Ffy_A : Event→List V:=oA enc_Event
def Ffy_R (r : Event) : V × List V:=(enc_Event r,[])
noncomputable def Ffy_ent : Ent:=entT [false] Ffy_A Ffy_R fun x=>Ffy x
theorem Ffy_F {a_1 : Event} {r} (h : Ffy a_1=some r) : (Ffy_ent).F (Ffy_A a_1)=some (Ffy_R r):=entT_F (oA_inj enc_Event_inj) h
noncomputable def Ffy_c : Code:=bodyOf Tryd.f34
noncomputable def Ffy_E : Env:=mkE Tryd.prog []
def Ffy_Q (x : Event) (r : Event) : St→Prop:=QF Ffy_E Tryd.f34 [false] (Ffy_A x) (Ffy_R r)
theorem Ffy_run (a_1 : Event) (r : Event) (h : Ffy a_1=some r) : RunF Ffy_E Tryd.f34 [false] 0 (Ffy_A a_1) (Ffy_R r):=by
 show Run _ _ (Ffy_Q a_1 r) [.code Ffy_c] _
 refine rin (n:=17) [(0,enc_Event a_1)] [] 1 (by kernel_rfl) (by kernel_rfl) (by kernel_rfl) rfl ?_
 unfold Ffy at h
 refine ck 42 [2] [] [17] [] [.hp 17 0 [] 4 0 0] [some ⟨0,4,[enc_Event a_1]⟩] 337 (by kernel_rfl) ?_
 obtain rfl:=Option.some.inj h
 exact s_ret rfl ⟨_,fin (vs:=[enc_Event a_1]) (rs_c (rs_cell rfl rfl rfl) (rs_n)) (absE (absorb_plain rfl) (absEN)) rfl (ou_f (ou_n)),kl_n⟩
theorem Ffy_good {G : Go.Ln.Ground} : Good Tryd.prog G 34 Ffy_ent:=good_T (fnOf_good (gl_n)) agree_mk (Checked.mixed Tryd.checked) Tryd.func34 (n:=1) (m:=0) ⟨rfl,rfl,by decide⟩ (fun _=>⟨rfl,rfl⟩) (fun a r h=>Ffy_run a r h)
def Ffz_A : ((List Event))→List V:=oA (slE enc_Event)
def Ffz_R (r : (List Event)) : V × List V:=(.usl 4 ((r).map enc_Event),[])
noncomputable def Ffz_ent : Ent:=entT [false] Ffz_A Ffz_R fun x=>Ffz x
theorem Ffz_F {a_1 : List Event} {r} (h : Ffz a_1=some r) : (Ffz_ent).F (Ffz_A a_1)=some (Ffz_R r):=entT_F (oA_inj (isl_inj enc_Event_inj)) h
noncomputable def Ffz_c : Code:=bodyOf Tryd.f15
noncomputable def Ffz_E : Env:=mkE Tryd.prog [(34,Ffy_ent)]
def Ffz_Q (x : (List Event)) (r : (List Event)) : St→Prop:=QF Ffz_E Tryd.f15 [false] (Ffz_A x) (Ffz_R r)
theorem Ffz_la_run (a_1 : List Event)  {Q : St→Prop} {K : List It} (hK : noD K=true) {x3 : Int × (List Event)} {y : ((List Event)) ⊕ ((List Event))} (h : Ffz_la a_1 x3=some y) : (∀ r',y=.inl r'→∀ st,Ffz_Q a_1 r' st→Q st)→(∀ u : (List Event),y=.inr u→Run Ffz_E 0 Q K ⟨mkTm .dead 23 [(3,.hs 1 0 [] 4 0 ((u).map enc_Event).length)],mkS (rtL [⟨0,4,(u).map enc_Event⟩] 1),2⟩)→Run Ffz_E 0 Q (.code (cL (cL (cR (cL (cR (cR Ffz_c)))))) :: .lp (cL (cL (cR (cL (cR (cR Ffz_c)))))) :: .blk 0 :: K) ⟨mkTm .dead 23 [(0,.isl false ((a_1).map enc_Event)),(3,.hs 1 0 [] 4 0 ((x3.2).map enc_Event).length),(4,I (x3.1))],mkS (rtL [⟨0,4,(x3.2).map enc_Event⟩] 1),2⟩:=by
 refine fix_ind (P:=fun (x3 : Int × (List Event)) (y : ((List Event)) ⊕ ((List Event)))=>(∀ r',y=.inl r'→∀ st,Ffz_Q a_1 r' st→Q st)→(∀ u : (List Event),y=.inr u→Run Ffz_E 0 Q K ⟨mkTm .dead 23 [(3,.hs 1 0 [] 4 0 ((u).map enc_Event).length)],mkS (rtL [⟨0,4,(u).map enc_Event⟩] 1),2⟩)→Run Ffz_E 0 Q (.code (cL (cL (cR (cL (cR (cR Ffz_c)))))) :: .lp (cL (cL (cR (cL (cR (cR Ffz_c)))))) :: .blk 0 :: K) ⟨mkTm .dead 23 [(0,.isl false ((a_1).map enc_Event)),(3,.hs 1 0 [] 4 0 ((x3.2).map enc_Event).length),(4,I (x3.1))],mkS (rtL [⟨0,4,(x3.2).map enc_Event⟩] 1),2⟩) (Ffz_la_fin a_1) ?_ h
 clear h y x3
 intro self ih x3 y h hr hn
 unfold Ffz_la_F at h
 refine c0 5 [8,9] [I (x3.1),.isl false ((a_1).map enc_Event)] 34 (by kernel_rfl) ?_
 refine o 50 (I ((len a_1))) rfl rfl (e_len rfl rfl rfl (l_isl rfl)) ?_
 refine c0 2 [11] [B ((decide (x3.1 < (len a_1))))] 66 (by kernel_rfl) ?_
 refine sc h rfl rfl (fun h=>?_) (fun h=>?_)
 · refine ad 1 rfl ?_
   refine c0 7 [14,15,16,17] [.hs 1 0 [] 4 0 ((x3.2).map enc_Event).length,I (x3.1),.isl false ((a_1).map enc_Event),I (x3.1)] 130 (by kernel_rfl) ?_
   obtain ⟨e4,he4,h⟩:=bS h
   refine o 146 (.iptr (enc_Event e4) 0) rfl rfl (e_indexAddr rfl rfl rfl (ix_islE rfl rfl rfl rfl he4)) ?_
   refine c0 1 [19] [enc_Event e4] 162 (by kernel_rfl) ?_
   obtain ⟨r5,hr5,h⟩:=bS h
   refine o 178 (enc_Event r5) rfl rfl (e_callV rfl rfl (call_P rfl rfl rfl (avS (shP rfl) (avN)) (Ffy_F hr5) (.inr rfl) (bl_n) rfl rfl rfl)) ?_
   obtain ⟨e6,he6,h⟩:=bS h
   refine o 194 (.hp 1 0 [] 4 (0 + Int.toNat (x3.1)) 0) rfl rfl (e_indexAddr rfl rfl rfl (ix_hsM (f:=enc_Event) (xs:=x3.2) rfl rfl rfl he6)) ?_
   refine o0 210 rfl rfl (e_st rfl rfl (st_at (path:=[]) (pl:=true) (e':=enc_Event r5) (es2':=((setI x3.2 x3.1 r5)).map enc_Event) rfl (absorb_plain rfl) rfl rfl rfl (ra_n) (get_map (f:=enc_Event) (xs:=x3.2) he6) rfl rfl rfl (set_map (f:=enc_Event) (xs:=x3.2) (y:=r5)) (sr_n) 0 rfl)) ?_
   try rw [← len_setM (f:=enc_Event) (xs:=x3.2) (i:=x3.1) (z:=r5)]
   refine c0 7 [4] [I ((w64 (x3.1 + 1)))] 258 (by kernel_rfl) ?_
   refine s_lp ?_
   refine run_forget [0,3,4] [1] [⟨0,4,((setI x3.2 x3.1 r5)).map enc_Event⟩] rfl rfl rfl rfl ?_
   exact ih _ _ h hr hn
 · refine ad 1 rfl ?_
   refine run_forget [3] [1] [⟨0,4,(x3.2).map enc_Event⟩] rfl rfl rfl hK ?_
   exact hn _ (Option.some.inj h).symm
theorem Ffz_run (a_1 : List Event) (r : (List Event)) (h : Ffz a_1=some r) : RunF Ffz_E Tryd.f15 [false] 0 (Ffz_A a_1) (Ffz_R r):=by
 show Run _ _ (Ffz_Q a_1 r) [.code Ffz_c] _
 refine rin (n:=23) [(0,.isl false ((a_1).map enc_Event))] [] 1 (by kernel_rfl) (by kernel_rfl) (by kernel_rfl) rfl ?_
 unfold Ffz at h
 refine c0 7 [5] [.isl false ((a_1).map enc_Event)] 33 (by kernel_rfl) ?_
 refine o 49 (I ((len a_1))) rfl rfl (e_len rfl rfl rfl (l_isl rfl)) ?_
 obtain ⟨m2,hm2,h⟩:=bS h
 refine o 65 (.hs 49 0 [] 4 0 ((m2).map enc_Event).length) rfl rfl (e_makeSlice rfl rfl (ms_mkM (f:=enc_Event) rfl rfl rfl (by decide) hm2 rfl)) ?_
 refine c0 8 [3,4] [.hs 49 0 [] 4 0 ((m2).map enc_Event).length,I (0)] 97 (by kernel_rfl) ?_
 obtain ⟨y7,hy7,hy71,hy72⟩:=bJ h
 refine s_loop rfl ?_
 refine run_forget [0,3,4] [49] [⟨0,4,(m2).map enc_Event⟩] rfl rfl rfl rfl ?_
 refine Ffz_la_run a_1 rfl hy7 (fun r' e st hq=>by rw [hy71 r' e] at hq; exact hq) (fun u7 hu=>?_)
 replace h:=hy72 u7 hu
 refine c0 5 [2] [.hs 1 0 [] 4 0 ((u7).map enc_Event).length] 34 (by kernel_rfl) ?_
 obtain rfl:=Option.some.inj h
 exact s_ret rfl ⟨_,fin (vs:=[.hs 1 0 [] 4 0 ((u7).map enc_Event).length]) rfl (absE (abs1 rfl (abs_hs rfl rfl)) (absEN)) rfl (ou_f (ou_n)),kl_n⟩
theorem Ffz_good {G : Go.Ln.Ground} : Good Tryd.prog G 15 Ffz_ent:=good_T (fnOf_good (gl_c Ffy_good (gl_n))) agree_mk (Checked.mixed Tryd.checked) Tryd.func15 (n:=1) (m:=0) ⟨rfl,rfl,by decide⟩ (fun _=>⟨rfl,rfl⟩) (fun a r h=>Ffz_run a r h)
def Ffcc_A : (Event × Event)→List V:=cA enc_Event (oA enc_Event)
def Ffcc_R (r : Int) : V × List V:=(I (r),[])
noncomputable def Ffcc_ent : Ent:=entT [false,false] Ffcc_A Ffcc_R fun x=>Ffcc x.1 x.2
theorem Ffcc_F {a_1 : Event} {b_2 : Event} {r} (h : Ffcc a_1 b_2=some r) : (Ffcc_ent).F (Ffcc_A (a_1,b_2))=some (Ffcc_R r):=entT_F (cA_inj enc_Event_inj (oA_inj enc_Event_inj)) h
noncomputable def Ffcc_c : Code:=bodyOf Tryd.f77
noncomputable def Ffcc_E : Env:=mkE Tryd.prog []
def Ffcc_Q (x : Event × Event) (r : Int) : St→Prop:=QF Ffcc_E Tryd.f77 [false,false] (Ffcc_A x) (Ffcc_R r)
theorem Ffcc_run (a_1 : Event) (b_2 : Event) (r : Int) (h : Ffcc a_1 b_2=some r) : RunF Ffcc_E Tryd.f77 [false,false] 0 (Ffcc_A (a_1,b_2)) (Ffcc_R r):=by
 show Run _ _ (Ffcc_Q (a_1,b_2) r) [.code Ffcc_c] _
 refine rin (n:=51) [(0,enc_Event a_1),(1,enc_Event b_2)] [] 1 (by kernel_rfl) (by kernel_rfl) (by kernel_rfl) rfl ?_
 unfold Ffcc at h
 refine ck 7 [2,3] [] [1,17] [] [.hp 1 0 [] 4 0 0,.hp 17 0 [] 4 0 0] [some ⟨0,4,[enc_Event a_1]⟩,some ⟨0,4,[enc_Event b_2]⟩] 49 (by kernel_rfl) ?_
 refine s_draw [0,1,0,4,3,31] rfl (by decide +kernel) ?_
 refine dp [1] [] (.hp 1 0 [] 4 0 3) rfl (e_fieldAddr rfl rfl rfl) rfl (rfl) (by decide) ?_
 refine dp [1] [] (I (a_1.Amount)) rfl (e_ld rfl rfl) rfl (rfl) (by decide) ?_
 refine dp [17] [] (.hp 17 0 [] 4 0 3) rfl (e_fieldAddr rfl rfl rfl) rfl (rfl) (by decide) ?_
 refine dp [17] [] (I (b_2.Amount)) rfl (e_ld rfl rfl) rfl (rfl) (by decide) ?_
 refine dp [] [] (I (a_1.Amount)) rfl (e_assign rfl) rfl (rfl) (by decide) ?_
 refine dp [] [] (I (b_2.Amount)) rfl (e_assign rfl) rfl (rfl) (by decide) ?_
 refine de 145 rfl rfl ?_
 refine c0 11 [11] [B ((a_1.Day != b_2.Day))] 241 (by kernel_rfl) ?_
 obtain ⟨y3,hy3,hy31,hy32⟩:=bJ h
 have j3 : ∀ u3,y3=.inr u3→Run Ffcc_E 0 (Ffcc_Q (a_1,b_2) r) (.blk 0 :: .code (cR (cR (cR Ffcc_c))) :: []) ⟨mkTm .dead 51 [(5,I (u3.1)),(6,I (u3.2))],mkS (rtL [] 1),1⟩:=by
   intro u3 hu
   replace h:=hy32 u3 hu
   refine c0 10 [43] [B ((decide (u3.1 < u3.2)))] 65 (by kernel_rfl) ?_
   refine sc h rfl rfl (fun h=>?_) (fun h=>?_)
   · refine c0 4 [4] [I ((-1))] 81 (by kernel_rfl) ?_
     obtain rfl:=Option.some.inj h
     exact s_ret rfl ⟨_,fin (vs:=[I ((-1))]) rfl (absE (absorb_plain rfl) (absEN)) rfl (ou_f (ou_f (ou_n))),kl_n⟩
   · refine c0 7 [47] [B ((decide (u3.1 > u3.2)))] 129 (by kernel_rfl) ?_
     refine sc h rfl rfl (fun h=>?_) (fun h=>?_)
     · refine c0 4 [4] [I (1)] 145 (by kernel_rfl) ?_
       obtain rfl:=Option.some.inj h
       exact s_ret rfl ⟨_,fin (vs:=[I (1)]) rfl (absE (absorb_plain rfl) (absEN)) rfl (ou_f (ou_f (ou_n))),kl_n⟩
     · refine ad 1 rfl ?_
       refine c0 5 [4] [I (0)] 145 (by kernel_rfl) ?_
       obtain rfl:=Option.some.inj h
       exact s_ret rfl ⟨_,fin (vs:=[I (0)]) rfl (absE (absorb_plain rfl) (absEN)) rfl (ou_f (ou_f (ou_n))),kl_n⟩
 have r3 : ∀ r',y3=.inl r'→∀ st,Ffcc_Q (a_1,b_2) r' st→(Ffcc_Q (a_1,b_2) r) st:=fun r' e st hq=>by rw [hy31 r' e] at hq; exact hq
 replace h:=hy3
 refine sc h rfl rfl (fun h=>?_) (fun h=>?_)
 · refine c0 11 [5,6] [I (a_1.Day),I (b_2.Day)] 337 (by kernel_rfl) ?_
   refine run_forget [5,6] [] [] rfl rfl rfl rfl ?_
   exact j3 _ (Option.some.inj h).symm
 · refine c0 9 [21] [B ((a_1.Party != b_2.Party))] 337 (by kernel_rfl) ?_
   obtain ⟨y4,hy4,hy41,hy42⟩:=bL h
   have j4 : ∀ u4,y4=.inr u4→Run Ffcc_E 0 (Ffcc_Q (a_1,b_2) r) (.blk 0 :: .code (cR (cR (cR Ffcc_c))) :: []) ⟨mkTm .dead 51 [(5,I (u4.1)),(6,I (u4.2))],mkS (rtL [] 1),1⟩:=by
     intro u4 hu
     replace h:=hy42 u4 hu
     refine run_forget [5,6] [] [] rfl rfl rfl rfl ?_
     exact j3 _ (Option.some.inj h).symm
   have r4 : ∀ r',y4=.inl r'→∀ st,Ffcc_Q (a_1,b_2) r' st→(Ffcc_Q (a_1,b_2) r) st:=fun r' e st hq=>r3 r' (hy41 r' e) st hq
   replace h:=hy4
   refine sc h rfl rfl (fun h=>?_) (fun h=>?_)
   · refine c0 11 [5,6] [I (a_1.Party),I (b_2.Party)] 433 (by kernel_rfl) ?_
     refine run_forget [5,6] [] [] rfl rfl rfl rfl ?_
     exact j4 _ (Option.some.inj h).symm
   · refine c0 9 [31] [B ((Op.bytesLess a_1.Action b_2.Action))] 433 (by kernel_rfl) ?_
     refine sc h rfl rfl (fun h=>?_) (fun h=>?_)
     · refine c0 4 [4] [I ((-1))] 449 (by kernel_rfl) ?_
       exact s_ret rfl (r4 _ (Option.some.inj h).symm _ ⟨_,fin (vs:=[I ((-1))]) rfl (absE (absorb_plain rfl) (absEN)) rfl (ou_f (ou_f (ou_n))),kl_n⟩)
     · refine c0 9 [37] [B ((!(Op.bytesLess a_1.Action b_2.Action || a_1.Action == b_2.Action)))] 529 (by kernel_rfl) ?_
       refine sc h rfl rfl (fun h=>?_) (fun h=>?_)
       · refine c0 4 [4] [I (1)] 545 (by kernel_rfl) ?_
         exact s_ret rfl (r4 _ (Option.some.inj h).symm _ ⟨_,fin (vs:=[I (1)]) rfl (absE (absorb_plain rfl) (absEN)) rfl (ou_f (ou_f (ou_n))),kl_n⟩)
       · refine ad 1 rfl ?_
         refine run_forget [5,6] [] [] rfl rfl rfl rfl ?_
         exact j4 _ (Option.some.inj h).symm
theorem Ffcc_good {G : Go.Ln.Ground} : Good Tryd.prog G 77 Ffcc_ent:=good_T (fnOf_good (gl_n)) agree_mk (Checked.mixed Tryd.checked) Tryd.func77 (n:=2) (m:=0) ⟨rfl,rfl,by decide⟩ (fun _=>⟨rfl,rfl⟩) (fun a r h=>Ffcc_run a.1 a.2 r h)
def spec_l1In_A : (Int × Int × Int)→List V:=cA I (cA I (oA I))
def spec_l1In_R (r : Bool) : V × List V:=(B (r),[])
noncomputable def spec_l1In_ent : Ent:=entT [false,false,false] spec_l1In_A spec_l1In_R fun x=>spec_l1In x.1 x.2.1 x.2.2
theorem spec_l1In_F {x_1 : Int} {a_2 : Int} {b_3 : Int} {r} (h : spec_l1In x_1 a_2 b_3=some r) : (spec_l1In_ent).F (spec_l1In_A (x_1,a_2,b_3))=some (spec_l1In_R r):=entT_F (cA_inj I_inj (cA_inj I_inj (oA_inj I_inj))) h
noncomputable def spec_l1In_c : Code:=bodyOf Tryd.f54
noncomputable def spec_l1In_E : Env:=mkE Tryd.prog []
def spec_l1In_Q (x : Int × Int × Int) (r : Bool) : St→Prop:=QF spec_l1In_E Tryd.f54 [false,false,false] (spec_l1In_A x) (spec_l1In_R r)
theorem spec_l1In_run (x_1 : Int) (a_2 : Int) (b_3 : Int) (r : Bool) (h : spec_l1In x_1 a_2 b_3=some r) : RunF spec_l1In_E Tryd.f54 [false,false,false] 0 (spec_l1In_A (x_1,a_2,b_3)) (spec_l1In_R r):=by
 show Run _ _ (spec_l1In_Q (x_1,a_2,b_3) r) [.code spec_l1In_c] _
 refine rin (n:=15) [(0,I (x_1)),(1,I (a_2)),(2,I (b_3))] [] 1 (by kernel_rfl) (by kernel_rfl) (by kernel_rfl) rfl ?_
 unfold spec_l1In at h
 refine c0 10 [10] [B ((decide (x_1 ≥ a_2)))] 81 (by kernel_rfl) ?_
 obtain ⟨u4,hu4,h⟩:=lJ h
 have j4 : Run spec_l1In_E 0 (spec_l1In_Q (x_1,a_2,b_3) r) (.code (cR (cR spec_l1In_c)) :: []) ⟨mkTm .dead 15 [(6,B (u4))],mkS (rtL [] 1),1⟩:=by
   obtain rfl:=Option.some.inj h
   exact s_ret rfl ⟨_,fin (vs:=[B (u4)]) rfl (absE (absorb_plain rfl) (absEN)) rfl (ou_f (ou_f (ou_f (ou_n)))),kl_n⟩
 replace h:=hu4
 clear hu4
 refine sp 10 h rfl (fun h=>?_) (fun h=>?_)
 · refine c0 6 [6] [B ((decide (x_1 ≤ b_3)))] 161 (by kernel_rfl) ?_
   refine run_forget [6] [] [] rfl rfl rfl rfl ?_
   subst h
   exact j4
 · refine c0 6 [6] [B (false)] 161 (by kernel_rfl) ?_
   refine run_forget [6] [] [] rfl rfl rfl rfl ?_
   subst h
   exact j4
theorem spec_l1In_good {G : Go.Ln.Ground} : Good Tryd.prog G 54 spec_l1In_ent:=good_T (fnOf_good (gl_n)) agree_mk (Checked.mixed Tryd.checked) Tryd.func54 (n:=3) (m:=0) ⟨rfl,rfl,by decide⟩ (fun _=>⟨rfl,rfl⟩) (fun a r h=>spec_l1In_run a.1 a.2.1 a.2.2 r h)
def Ffbz_A : Int→List V:=oA I
def Ffbz_R (r : Bool) : V × List V:=(B (r),[])
noncomputable def Ffbz_ent : Ent:=entT [false] Ffbz_A Ffbz_R fun x=>Ffbz x
theorem Ffbz_F {day_1 : Int} {r} (h : Ffbz day_1=some r) : (Ffbz_ent).F (Ffbz_A day_1)=some (Ffbz_R r):=entT_F (oA_inj I_inj) h
noncomputable def Ffbz_c : Code:=bodyOf Tryd.f85
noncomputable def Ffbz_E : Env:=mkE Tryd.prog [(54,spec_l1In_ent)]
def Ffbz_Q (x : Int) (r : Bool) : St→Prop:=QF Ffbz_E Tryd.f85 [false] (Ffbz_A x) (Ffbz_R r)
theorem Ffbz_run (day_1 : Int) (r : Bool) (h : Ffbz day_1=some r) : RunF Ffbz_E Tryd.f85 [false] 0 (Ffbz_A day_1) (Ffbz_R r):=by
 show Run _ _ (Ffbz_Q day_1 r) [.code Ffbz_c] _
 refine rin (n:=5) [(0,I (day_1))] [] 1 (by kernel_rfl) (by kernel_rfl) (by kernel_rfl) rfl ?_
 unfold Ffbz at h
 refine c0 7 [3] [I (day_1)] 33 (by kernel_rfl) ?_
 obtain ⟨r2,hr2,h⟩:=bS h
 refine o 49 (B (r2)) rfl rfl (e_callV rfl rfl (call_P rfl rfl rfl (avS (shP rfl) (avS (shP rfl) (avS (shP rfl) (avN)))) (spec_l1In_F hr2) (.inr rfl) (bl_n) rfl rfl rfl)) ?_
 refine c0 2 [2] [B (r2)] 65 (by kernel_rfl) ?_
 obtain rfl:=Option.some.inj h
 exact s_ret rfl ⟨_,fin (vs:=[B (r2)]) rfl (absE (absorb_plain rfl) (absEN)) rfl (ou_f (ou_n)),kl_n⟩
theorem Ffbz_good {G : Go.Ln.Ground} : Good Tryd.prog G 85 Ffbz_ent:=good_T (fnOf_good (gl_c spec_l1In_good (gl_n))) agree_mk (Checked.mixed Tryd.checked) Tryd.func85 (n:=1) (m:=0) ⟨rfl,rfl,by decide⟩ (fun _=>⟨rfl,rfl⟩) (fun a r h=>Ffbz_run a r h)
def Ffcb_A : Int→List V:=oA (V.int .u8)
def Ffcb_R (r : Bool) : V × List V:=(B (r),[])
noncomputable def Ffcb_ent : Ent:=entT [false] Ffcb_A Ffcb_R fun x=>Ffcb x
theorem Ffcb_F {b_1 : Int} {r} (h : Ffcb b_1=some r) : (Ffcb_ent).F (Ffcb_A b_1)=some (Ffcb_R r):=entT_F (oA_inj (vint_inj (k:=.u8))) h
noncomputable def Ffcb_c : Code:=bodyOf Tryd.f105
noncomputable def Ffcb_E : Env:=mkE Tryd.prog []
def Ffcb_Q (x : Int) (r : Bool) : St→Prop:=QF Ffcb_E Tryd.f105 [false] (Ffcb_A x) (Ffcb_R r)
theorem Ffcb_run (b_1 : Int) (r : Bool) (h : Ffcb b_1=some r) : RunF Ffcb_E Tryd.f105 [false] 0 (Ffcb_A b_1) (Ffcb_R r):=by
 show Run _ _ (Ffcb_Q b_1 r) [.code Ffcb_c] _
 refine rin (n:=17) [(0,.int .u8 (b_1))] [] 1 (by kernel_rfl) (by kernel_rfl) (by kernel_rfl) rfl ?_
 unfold Ffcb at h
 refine c0 9 [5] [B ((decide (b_1 ≥ 97)))] 65 (by kernel_rfl) ?_
 obtain ⟨u2,hu2,h⟩:=lJ h
 have j2 : Run Ffcb_E 0 (Ffcb_Q b_1 r) (.code (cR (cR Ffcb_c)) :: []) ⟨mkTm .dead 17 [(2,B (u2))],mkS (rtL [] 1),1⟩:=by
   obtain rfl:=Option.some.inj h
   exact s_ret rfl ⟨_,fin (vs:=[B (u2)]) rfl (absE (absorb_plain rfl) (absEN)) rfl (ou_f (ou_n)),kl_n⟩
 replace h:=hu2
 clear hu2
 refine sp 5 h rfl (fun h=>?_) (fun h=>?_)
 · refine c0 4 [9] [B ((decide (b_1 ≤ 122)))] 129 (by kernel_rfl) ?_
   obtain ⟨u3,hu3,h⟩:=lJ h
   have j3 : Run Ffcb_E 0 (Ffcb_Q b_1 r) (.code (cR (cR Ffcb_c)) :: []) ⟨mkTm .dead 17 [(2,B (u3))],mkS (rtL [] 1),1⟩:=by
     refine run_forget [2] [] [] rfl rfl rfl rfl ?_
     subst h
     exact j2
   replace h:=hu3
   clear hu3
   refine sp 9 h rfl (fun h=>?_) (fun h=>?_)
   · refine c0 9 [2] [B (true)] 257 (by kernel_rfl) ?_
     refine run_forget [2] [] [] rfl rfl rfl rfl ?_
     subst h
     exact j3
   · refine c0 3 [12] [B ((decide (b_1 ≥ 48)))] 177 (by kernel_rfl) ?_
     obtain ⟨u4,hu4,h⟩:=lJ h
     have j4 : Run Ffcb_E 0 (Ffcb_Q b_1 r) (.code (cR (cR Ffcb_c)) :: []) ⟨mkTm .dead 17 [(2,B (u4))],mkS (rtL [] 1),1⟩:=by
       refine run_forget [2] [] [] rfl rfl rfl rfl ?_
       subst h
       exact j3
     replace h:=hu4
     clear hu4
     refine sp 12 h rfl (fun h=>?_) (fun h=>?_)
     · refine c0 6 [2] [B ((decide (b_1 ≤ 57)))] 257 (by kernel_rfl) ?_
       refine run_forget [2] [] [] rfl rfl rfl rfl ?_
       subst h
       exact j4
     · refine c0 6 [2] [B (false)] 257 (by kernel_rfl) ?_
       refine run_forget [2] [] [] rfl rfl rfl rfl ?_
       subst h
       exact j4
 · refine c0 7 [9,12] [B (false),B ((decide (b_1 ≥ 48)))] 177 (by kernel_rfl) ?_
   obtain ⟨u5,hu5,h⟩:=lJ h
   have j5 : Run Ffcb_E 0 (Ffcb_Q b_1 r) (.code (cR (cR Ffcb_c)) :: []) ⟨mkTm .dead 17 [(2,B (u5))],mkS (rtL [] 1),1⟩:=by
     refine run_forget [2] [] [] rfl rfl rfl rfl ?_
     subst h
     exact j2
   replace h:=hu5
   clear hu5
   refine sp 12 h rfl (fun h=>?_) (fun h=>?_)
   · refine c0 6 [2] [B ((decide (b_1 ≤ 57)))] 257 (by kernel_rfl) ?_
     refine run_forget [2] [] [] rfl rfl rfl rfl ?_
     subst h
     exact j5
   · refine c0 6 [2] [B (false)] 257 (by kernel_rfl) ?_
     refine run_forget [2] [] [] rfl rfl rfl rfl ?_
     subst h
     exact j5
theorem Ffcb_good {G : Go.Ln.Ground} : Good Tryd.prog G 105 Ffcb_ent:=good_T (fnOf_good (gl_n)) agree_mk (Checked.mixed Tryd.checked) Tryd.func105 (n:=1) (m:=0) ⟨rfl,rfl,by decide⟩ (fun _=>⟨rfl,rfl⟩) (fun a r h=>Ffcb_run a r h)
def Ffca_A : Str→List V:=oA str
def Ffca_R (r : Bool) : V × List V:=(B (r),[])
noncomputable def Ffca_ent : Ent:=entT [false] Ffca_A Ffca_R fun x=>Ffca x
theorem Ffca_F {s_1 : Str} {r} (h : Ffca s_1=some r) : (Ffca_ent).F (Ffca_A s_1)=some (Ffca_R r):=entT_F (oA_inj str_inj) h
noncomputable def Ffca_c : Code:=bodyOf Tryd.f86
noncomputable def Ffca_E : Env:=mkE Tryd.prog [(54,spec_l1In_ent),(105,Ffcb_ent)]
def Ffca_Q (x : Str) (r : Bool) : St→Prop:=QF Ffca_E Tryd.f86 [false] (Ffca_A x) (Ffca_R r)
theorem Ffca_la_run (s_1 : Str)  {Q : St→Prop} {K : List It} (hK : noD K=true) {x4 : Int} {y : Bool ⊕ Unit} (h : Ffca_la s_1 x4=some y) : (∀ r',y=.inl r'→∀ st,Ffca_Q s_1 r' st→Q st)→(∀ u : Unit,y=.inr u→Run Ffca_E 0 Q K ⟨mkTm .dead 40 [(0,str (s_1))],mkS (rtL [] 1),1⟩)→Run Ffca_E 0 Q (.code (cL (cL (cR (cL (cR (cR Ffca_c)))))) :: .lp (cL (cL (cR (cL (cR (cR Ffca_c)))))) :: .blk 0 :: K) ⟨mkTm .dead 40 [(0,str (s_1)),(3,I (x4))],mkS (rtL [] 1),1⟩:=by
 refine fix_ind (P:=fun (x4 : Int) (y : Bool ⊕ Unit)=>(∀ r',y=.inl r'→∀ st,Ffca_Q s_1 r' st→Q st)→(∀ u : Unit,y=.inr u→Run Ffca_E 0 Q K ⟨mkTm .dead 40 [(0,str (s_1))],mkS (rtL [] 1),1⟩)→Run Ffca_E 0 Q (.code (cL (cL (cR (cL (cR (cR Ffca_c)))))) :: .lp (cL (cL (cR (cL (cR (cR Ffca_c)))))) :: .blk 0 :: K) ⟨mkTm .dead 40 [(0,str (s_1)),(3,I (x4))],mkS (rtL [] 1),1⟩) (Ffca_la_fin s_1) ?_ h
 clear h y x4
 intro self ih x4 y h hr hn
 unfold Ffca_la_F at h
 refine c0 8 [21] [B ((decide (x4 < (len s_1))))] 65 (by kernel_rfl) ?_
 refine sc h rfl rfl (fun h=>?_) (fun h=>?_)
 · refine ad 1 rfl ?_
   refine c0 6 [24,25] [str (s_1),I (x4)] 97 (by kernel_rfl) ?_
   obtain ⟨c5,hc5,h⟩:=bS h
   refine o 113 (.int .u8 ((c5.toNat : Int))) rfl rfl (e_index rfl rfl (i_str rfl rfl hc5)) ?_
   obtain ⟨r6,hr6,h⟩:=bS h
   refine o 129 (B (r6)) rfl rfl (e_callV rfl rfl (call_P rfl rfl rfl (avS (shP rfl) (avN)) (Ffcb_F hr6) (.inr rfl) (bl_n) rfl rfl rfl)) ?_
   refine c0 2 [28] [B ((!r6))] 145 (by kernel_rfl) ?_
   refine sc h rfl rfl (fun h=>?_) (fun h=>?_)
   · refine c0 4 [2] [B (false)] 161 (by kernel_rfl) ?_
     exact s_ret rfl (hr _ (Option.some.inj h).symm _ ⟨_,fin (vs:=[B (false)]) rfl (absE (absorb_plain rfl) (absEN)) rfl (ou_f (ou_n)),kl_n⟩)
   · refine ad 1 rfl ?_
     refine c0 6 [3] [I ((w64 (x4 + 1)))] 193 (by kernel_rfl) ?_
     refine s_lp ?_
     refine run_forget [0,3] [] [] rfl rfl rfl rfl ?_
     exact ih _ _ h hr hn
 · refine ad 1 rfl ?_
   refine run_forget [0] [] [] rfl rfl rfl hK ?_
   exact hn _ (Option.some.inj h).symm
theorem Ffca_run (s_1 : Str) (r : Bool) (h : Ffca s_1=some r) : RunF Ffca_E Tryd.f86 [false] 0 (Ffca_A s_1) (Ffca_R r):=by
 show Run _ _ (Ffca_Q s_1 r) [.code Ffca_c] _
 refine rin (n:=40) [(0,str (s_1))] [] 1 (by kernel_rfl) (by kernel_rfl) (by kernel_rfl) rfl ?_
 unfold Ffca at h
 refine c0 9 [5] [I ((len s_1))] 49 (by kernel_rfl) ?_
 obtain ⟨r2,hr2,h⟩:=bS h
 refine o 65 (B (r2)) rfl rfl (e_callV rfl rfl (call_P rfl rfl rfl (avS (shP rfl) (avS (shP rfl) (avS (shP rfl) (avN)))) (spec_l1In_F hr2) (.inr rfl) (bl_n) rfl rfl rfl)) ?_
 refine c0 2 [8] [B ((!r2))] 97 (by kernel_rfl) ?_
 obtain ⟨y3,hy3,hy31,hy32⟩:=bJ h
 have j3 : ∀ u3,y3=.inr u3→Run Ffca_E 0 (Ffca_Q s_1 r) (.code (cR (cL (cR Ffca_c))) :: .code (cR (cR Ffca_c)) :: []) ⟨mkTm .dead 40 [(0,str (s_1)),(17,B (u3))],mkS (rtL [] 1),1⟩:=by
   intro u3 hu
   replace h:=hy32 u3 hu
   refine sc h rfl rfl (fun h=>?_) (fun h=>?_)
   · refine c0 4 [2] [B (false)] 17 (by kernel_rfl) ?_
     obtain rfl:=Option.some.inj h
     exact s_ret rfl ⟨_,fin (vs:=[B (false)]) rfl (absE (absorb_plain rfl) (absEN)) rfl (ou_f (ou_n)),kl_n⟩
   · refine ad 1 rfl ?_
     refine c0 6 [3] [I (0)] 17 (by kernel_rfl) ?_
     obtain ⟨y7,hy7,hy71,hy72⟩:=bJ h
     refine s_loop rfl ?_
     refine run_forget [0,3] [] [] rfl rfl rfl rfl ?_
     refine Ffca_la_run s_1 rfl hy7 (fun r' e st hq=>by rw [hy71 r' e] at hq; exact hq) (fun u7 hu=>?_)
     replace h:=hy72 u7 hu
     refine c0 12 [29,30] [str (s_1),B ((s_1 == ([116,114,117,101] : Str)))] 49 (by kernel_rfl) ?_
     obtain ⟨u8,hu8,h⟩:=lJ h
     have j8 : Run Ffca_E 0 (Ffca_Q s_1 r) (.code (cR (cL (cR (cL (cR (cR (cR Ffca_c))))))) :: .blk 2 :: .code (cR (cR (cR (cR Ffca_c)))) :: []) ⟨mkTm .dead 40 [(30,B (u8))],mkS (rtL [] 1),1⟩:=by
       refine sc h rfl rfl (fun h=>?_) (fun h=>?_)
       · refine c0 4 [2] [B (false)] 17 (by kernel_rfl) ?_
         obtain rfl:=Option.some.inj h
         exact s_ret rfl ⟨_,fin (vs:=[B (false)]) rfl (absE (absorb_plain rfl) (absEN)) rfl (ou_f (ou_n)),kl_n⟩
       · refine ad 1 rfl ?_
         refine c0 5 [2] [B (true)] 17 (by kernel_rfl) ?_
         obtain rfl:=Option.some.inj h
         exact s_ret rfl ⟨_,fin (vs:=[B (true)]) rfl (absE (absorb_plain rfl) (absEN)) rfl (ou_f (ou_n)),kl_n⟩
     replace h:=hu8
     clear hu8
     refine scp h rfl rfl (fun h=>?_) (fun h=>?_)
     · refine ad 1 rfl ?_
       refine run_forget [30] [] [] rfl rfl rfl rfl ?_
       subst h
       exact j8
     · refine c0 5 [30] [B ((s_1 == ([102,114,111,109] : Str)))] 81 (by kernel_rfl) ?_
       obtain ⟨u9,hu9,h⟩:=lJ h
       have j9 : Run Ffca_E 0 (Ffca_Q s_1 r) (.code (cR (cL (cR (cL (cR (cR (cR Ffca_c))))))) :: .blk 2 :: .code (cR (cR (cR (cR Ffca_c)))) :: []) ⟨mkTm .dead 40 [(30,B (u9))],mkS (rtL [] 1),1⟩:=by
         refine run_forget [30] [] [] rfl rfl rfl rfl ?_
         subst h
         exact j8
       replace h:=hu9
       clear hu9
       refine scp h rfl rfl (fun h=>?_) (fun h=>?_)
       · refine ad 1 rfl ?_
         refine run_forget [30] [] [] rfl rfl rfl rfl ?_
         subst h
         exact j9
       · refine c0 5 [30] [B ((s_1 == ([110,111,116] : Str)))] 113 (by kernel_rfl) ?_
         obtain ⟨u10,hu10,h⟩:=lJ h
         have j10 : Run Ffca_E 0 (Ffca_Q s_1 r) (.code (cR (cL (cR (cL (cR (cR (cR Ffca_c))))))) :: .blk 2 :: .code (cR (cR (cR (cR Ffca_c)))) :: []) ⟨mkTm .dead 40 [(30,B (u10))],mkS (rtL [] 1),1⟩:=by
           refine run_forget [30] [] [] rfl rfl rfl rfl ?_
           subst h
           exact j9
         replace h:=hu10
         clear hu10
         refine scp h rfl rfl (fun h=>?_) (fun h=>?_)
         · refine ad 1 rfl ?_
           refine run_forget [30] [] [] rfl rfl rfl rfl ?_
           subst h
           exact j10
         · refine c0 5 [30] [B ((s_1 == ([97,110,100] : Str)))] 145 (by kernel_rfl) ?_
           obtain ⟨u11,hu11,h⟩:=lJ h
           have j11 : Run Ffca_E 0 (Ffca_Q s_1 r) (.code (cR (cL (cR (cL (cR (cR (cR Ffca_c))))))) :: .blk 2 :: .code (cR (cR (cR (cR Ffca_c)))) :: []) ⟨mkTm .dead 40 [(30,B (u11))],mkS (rtL [] 1),1⟩:=by
             refine run_forget [30] [] [] rfl rfl rfl rfl ?_
             subst h
             exact j10
           replace h:=hu11
           clear hu11
           refine scp h rfl rfl (fun h=>?_) (fun h=>?_)
           · refine ad 1 rfl ?_
             refine run_forget [30] [] [] rfl rfl rfl rfl ?_
             subst h
             exact j11
           · refine c0 5 [30] [B ((s_1 == ([111,114] : Str)))] 177 (by kernel_rfl) ?_
             obtain ⟨u12,hu12,h⟩:=lJ h
             have j12 : Run Ffca_E 0 (Ffca_Q s_1 r) (.code (cR (cL (cR (cL (cR (cR (cR Ffca_c))))))) :: .blk 2 :: .code (cR (cR (cR (cR Ffca_c)))) :: []) ⟨mkTm .dead 40 [(30,B (u12))],mkS (rtL [] 1),1⟩:=by
               refine run_forget [30] [] [] rfl rfl rfl rfl ?_
               subst h
               exact j11
             replace h:=hu12
             clear hu12
             refine scp h rfl rfl (fun h=>?_) (fun h=>?_)
             · refine ad 1 rfl ?_
               refine run_forget [30] [] [] rfl rfl rfl rfl ?_
               subst h
               exact j12
             · refine c0 5 [30] [B ((s_1 == ([98,111,116,104] : Str)))] 209 (by kernel_rfl) ?_
               obtain ⟨u13,hu13,h⟩:=lJ h
               have j13 : Run Ffca_E 0 (Ffca_Q s_1 r) (.code (cR (cL (cR (cL (cR (cR (cR Ffca_c))))))) :: .blk 2 :: .code (cR (cR (cR (cR Ffca_c)))) :: []) ⟨mkTm .dead 40 [(30,B (u13))],mkS (rtL [] 1),1⟩:=by
                 refine run_forget [30] [] [] rfl rfl rfl rfl ?_
                 subst h
                 exact j12
               replace h:=hu13
               clear hu13
               refine scp h rfl rfl (fun h=>?_) (fun h=>?_)
               · refine ad 1 rfl ?_
                 refine run_forget [30] [] [] rfl rfl rfl rfl ?_
                 subst h
                 exact j13
               · refine c0 5 [30] [B ((s_1 == ([101,105,116,104,101,114] : Str)))] 241 (by kernel_rfl) ?_
                 obtain ⟨u14,hu14,h⟩:=lJ h
                 have j14 : Run Ffca_E 0 (Ffca_Q s_1 r) (.code (cR (cL (cR (cL (cR (cR (cR Ffca_c))))))) :: .blk 2 :: .code (cR (cR (cR (cR Ffca_c)))) :: []) ⟨mkTm .dead 40 [(30,B (u14))],mkS (rtL [] 1),1⟩:=by
                   refine run_forget [30] [] [] rfl rfl rfl rfl ?_
                   subst h
                   exact j13
                 replace h:=hu14
                 clear hu14
                 refine scp h rfl rfl (fun h=>?_) (fun h=>?_)
                 · refine ad 1 rfl ?_
                   refine run_forget [30] [] [] rfl rfl rfl rfl ?_
                   subst h
                   exact j14
                 · refine c0 5 [30] [B ((s_1 == ([105,116] : Str)))] 273 (by kernel_rfl) ?_
                   obtain ⟨u15,hu15,h⟩:=lJ h
                   have j15 : Run Ffca_E 0 (Ffca_Q s_1 r) (.code (cR (cL (cR (cL (cR (cR (cR Ffca_c))))))) :: .blk 2 :: .code (cR (cR (cR (cR Ffca_c)))) :: []) ⟨mkTm .dead 40 [(30,B (u15))],mkS (rtL [] 1),1⟩:=by
                     refine run_forget [30] [] [] rfl rfl rfl rfl ?_
                     subst h
                     exact j14
                   replace h:=hu15
                   clear hu15
                   refine scp h rfl rfl (fun h=>?_) (fun h=>?_)
                   · refine ad 1 rfl ?_
                     refine run_forget [30] [] [] rfl rfl rfl rfl ?_
                     subst h
                     exact j15
                   · refine c0 4 [30] [B ((s_1 == ([105,110] : Str)))] 305 (by kernel_rfl) ?_
                     refine run_forget [30] [] [] rfl rfl rfl rfl ?_
                     subst h
                     exact j15
 have r3 : ∀ r',y3=.inl r'→∀ st,Ffca_Q s_1 r' st→(Ffca_Q s_1 r) st:=fun r' e st hq=>by rw [hy31 r' e] at hq; exact hq
 replace h:=hy3
 refine sp 8 h rfl (fun h=>?_) (fun h=>?_)
 · refine c0 10 [17] [B (true)] 241 (by kernel_rfl) ?_
   refine run_forget [0,17] [] [] rfl rfl rfl rfl ?_
   exact j3 _ (Option.some.inj h).symm
 · refine c0 1 [9] [str (s_1)] 113 (by kernel_rfl) ?_
   obtain ⟨c16,hc16,h⟩:=bS h
   refine og 129 (.int .u8 ((c16.toNat : Int))) rfl rfl rfl rfl (e_index rfl rfl (i_str rfl rfl hc16)) ?_
   refine c0 3 [13] [B ((decide ((c16.toNat : Int) < 97)))] 177 (by kernel_rfl) ?_
   obtain ⟨y17,hy17,hy171,hy172⟩:=bL h
   have j17 : ∀ u17,y17=.inr u17→Run Ffca_E 0 (Ffca_Q s_1 r) (.code (cR (cL (cR Ffca_c))) :: .code (cR (cR Ffca_c)) :: []) ⟨mkTm .dead 40 [(0,str (s_1)),(17,B (u17))],mkS (rtL [] 1),1⟩:=by
     intro u17 hu
     replace h:=hy172 u17 hu
     refine run_forget [0,17] [] [] rfl rfl rfl rfl ?_
     exact j3 _ (Option.some.inj h).symm
   have r17 : ∀ r',y17=.inl r'→∀ st,Ffca_Q s_1 r' st→(Ffca_Q s_1 r) st:=fun r' e st hq=>r3 r' (hy171 r' e) st hq
   replace h:=hy17
   refine sp 13 h rfl (fun h=>?_) (fun h=>?_)
   · refine c0 5 [17] [B (true)] 241 (by kernel_rfl) ?_
     refine run_forget [0,17] [] [] rfl rfl rfl rfl ?_
     exact j17 _ (Option.some.inj h).symm
   · refine c0 1 [14] [str (s_1)] 193 (by kernel_rfl) ?_
     obtain ⟨c18,hc18,h⟩:=bS h
     refine og 209 (.int .u8 ((c18.toNat : Int))) rfl rfl rfl rfl (e_index rfl rfl (i_str rfl rfl hc18)) ?_
     refine c0 3 [17] [B ((decide ((c18.toNat : Int) > 122)))] 241 (by kernel_rfl) ?_
     refine run_forget [0,17] [] [] rfl rfl rfl rfl ?_
     exact j17 _ (Option.some.inj h).symm
theorem Ffca_good {G : Go.Ln.Ground} : Good Tryd.prog G 86 Ffca_ent:=good_T (fnOf_good (gl_c spec_l1In_good (gl_c Ffcb_good (gl_n)))) agree_mk (Checked.mixed Tryd.checked) Tryd.func86 (n:=1) (m:=0) ⟨rfl,rfl,by decide⟩ (fun _=>⟨rfl,rfl⟩) (fun a r h=>Ffca_run a r h)
def Ffcd_A : (Event × Int)→List V:=cA enc_Event (oA I)
def Ffcd_R (r : Bool) : V × List V:=(B (r),[])
noncomputable def Ffcd_ent : Ent:=entT [false,false] Ffcd_A Ffcd_R fun x=>Ffcd x.1 x.2
theorem Ffcd_F {e_1 : Event} {parties_2 : Int} {r} (h : Ffcd e_1 parties_2=some r) : (Ffcd_ent).F (Ffcd_A (e_1,parties_2))=some (Ffcd_R r):=entT_F (cA_inj enc_Event_inj (oA_inj I_inj)) h
noncomputable def Ffcd_c : Code:=bodyOf Tryd.f63
noncomputable def Ffcd_E : Env:=mkE Tryd.prog [(85,Ffbz_ent),(54,spec_l1In_ent),(86,Ffca_ent)]
def Ffcd_Q (x : Event × Int) (r : Bool) : St→Prop:=QF Ffcd_E Tryd.f63 [false,false] (Ffcd_A x) (Ffcd_R r)
theorem Ffcd_run (e_1 : Event) (parties_2 : Int) (r : Bool) (h : Ffcd e_1 parties_2=some r) : RunF Ffcd_E Tryd.f63 [false,false] 0 (Ffcd_A (e_1,parties_2)) (Ffcd_R r):=by
 show Run _ _ (Ffcd_Q (e_1,parties_2) r) [.code Ffcd_c] _
 refine rin (n:=25) [(0,enc_Event e_1),(1,I (parties_2))] [] 1 (by kernel_rfl) (by kernel_rfl) (by kernel_rfl) rfl ?_
 unfold Ffcd at h
 refine ck 9 [2,6] [] [1] [] [.hp 1 0 [] 4 0 0,I (e_1.Day)] [some ⟨0,4,[enc_Event e_1]⟩] 65 (by kernel_rfl) ?_
 obtain ⟨r3,hr3,h⟩:=bS h
 refine o 81 (B (r3)) rfl rfl (e_callV rfl rfl (call_P rfl rfl rfl (avS (shP rfl) (avN)) (Ffbz_F hr3) (.inr rfl) (bl_n) rfl rfl rfl)) ?_
 refine c0 1 [8] [B (r3)] 97 (by kernel_rfl) ?_
 obtain ⟨y4,hy4,hy41,hy42⟩:=bJ h
 have j4 : ∀ u4,y4=.inr u4→Run Ffcd_E 0 (Ffcd_Q (e_1,parties_2) r) (.code (cR (cR Ffcd_c)) :: []) ⟨mkTm .dead 25 [(4,B (u4))],mkS (rtL [] 1),1⟩:=by
   intro u4 hu
   replace h:=hy42 u4 hu
   obtain rfl:=Option.some.inj h
   exact s_ret rfl ⟨_,fin (vs:=[B (u4)]) rfl (absE (absorb_plain rfl) (absEN)) rfl (ou_f (ou_f (ou_n))),kl_n⟩
 have r4 : ∀ r',y4=.inl r'→∀ st,Ffcd_Q (e_1,parties_2) r' st→(Ffcd_Q (e_1,parties_2) r) st:=fun r' e st hq=>by rw [hy41 r' e] at hq; exact hq
 replace h:=hy4
 refine sp 8 h rfl (fun h=>?_) (fun h=>?_)
 · refine c0 4 [10,12] [I (e_1.Party),I ((w64 (parties_2 - 1)))] 161 (by kernel_rfl) ?_
   obtain ⟨r5,hr5,h⟩:=bS h
   refine og 177 (B (r5)) rfl rfl rfl rfl (e_callV rfl rfl (call_P rfl rfl rfl (avS (shP rfl) (avS (shP rfl) (avS (shP rfl) (avN)))) (spec_l1In_F hr5) (.inr rfl) (bl_n) rfl rfl rfl)) ?_
   refine c0 2 [15] [B (r5)] 209 (by kernel_rfl) ?_
   obtain ⟨y6,hy6,hy61,hy62⟩:=bL h
   have j6 : ∀ u6,y6=.inr u6→Run Ffcd_E 0 (Ffcd_Q (e_1,parties_2) r) (.code (cR (cR Ffcd_c)) :: []) ⟨mkTm .dead 25 [(4,B (u6))],mkS (rtL [] 1),1⟩:=by
     intro u6 hu
     replace h:=hy62 u6 hu
     refine run_forget [4] [] [] rfl rfl rfl rfl ?_
     exact j4 _ (Option.some.inj h).symm
   have r6 : ∀ r',y6=.inl r'→∀ st,Ffcd_Q (e_1,parties_2) r' st→(Ffcd_Q (e_1,parties_2) r) st:=fun r' e st hq=>r4 r' (hy61 r' e) st hq
   replace h:=hy6
   refine sp 15 h rfl (fun h=>?_) (fun h=>?_)
   · refine c0 2 [17] [str (e_1.Action)] 241 (by kernel_rfl) ?_
     obtain ⟨r7,hr7,h⟩:=bS h
     refine og 257 (B (r7)) rfl rfl rfl rfl (e_callV rfl rfl (call_P rfl rfl rfl (avS (shP rfl) (avN)) (Ffca_F hr7) (.inr rfl) (bl_n) rfl rfl rfl)) ?_
     refine c0 2 [20] [B (r7)] 289 (by kernel_rfl) ?_
     obtain ⟨y8,hy8,hy81,hy82⟩:=bL h
     have j8 : ∀ u8,y8=.inr u8→Run Ffcd_E 0 (Ffcd_Q (e_1,parties_2) r) (.code (cR (cR Ffcd_c)) :: []) ⟨mkTm .dead 25 [(4,B (u8))],mkS (rtL [] 1),1⟩:=by
       intro u8 hu
       replace h:=hy82 u8 hu
       refine run_forget [4] [] [] rfl rfl rfl rfl ?_
       exact j6 _ (Option.some.inj h).symm
     have r8 : ∀ r',y8=.inl r'→∀ st,Ffcd_Q (e_1,parties_2) r' st→(Ffcd_Q (e_1,parties_2) r) st:=fun r' e st hq=>r6 r' (hy81 r' e) st hq
     replace h:=hy8
     refine sp 20 h rfl (fun h=>?_) (fun h=>?_)
     · refine c0 2 [22] [I (e_1.Amount)] 321 (by kernel_rfl) ?_
       obtain ⟨r9,hr9,h⟩:=bS h
       refine og 337 (B (r9)) rfl rfl rfl rfl (e_callV rfl rfl (call_P rfl rfl rfl (avS (shP rfl) (avS (shP rfl) (avS (shP rfl) (avN)))) (spec_l1In_F hr9) (.inr rfl) (bl_n) rfl rfl rfl)) ?_
       refine c0 3 [4] [B (r9)] 369 (by kernel_rfl) ?_
       refine run_forget [4] [] [] rfl rfl rfl rfl ?_
       exact j8 _ (Option.some.inj h).symm
     · refine c0 6 [4] [B (false)] 369 (by kernel_rfl) ?_
       refine run_forget [4] [] [] rfl rfl rfl rfl ?_
       exact j8 _ (Option.some.inj h).symm
   · refine c0 11 [4] [B (false)] 369 (by kernel_rfl) ?_
     refine run_forget [4] [] [] rfl rfl rfl rfl ?_
     exact j6 _ (Option.some.inj h).symm
 · refine c0 18 [4] [B (false)] 369 (by kernel_rfl) ?_
   refine run_forget [4] [] [] rfl rfl rfl rfl ?_
   exact j4 _ (Option.some.inj h).symm
theorem Ffcd_good {G : Go.Ln.Ground} : Good Tryd.prog G 63 Ffcd_ent:=good_T (fnOf_good (gl_c Ffbz_good (gl_c spec_l1In_good (gl_c Ffca_good (gl_n))))) agree_mk (Checked.mixed Tryd.checked) Tryd.func63 (n:=2) (m:=0) ⟨rfl,rfl,by decide⟩ (fun _=>⟨rfl,rfl⟩) (fun a r h=>Ffcd_run a.1 a.2 r h)
def Ffcg_A : ((List Event) × Int)→List V:=cA (slE enc_Event) (oA I)
def Ffcg_R (r : Bool) : V × List V:=(B (r),[])
noncomputable def Ffcg_ent : Ent:=entT [false,false] Ffcg_A Ffcg_R fun x=>Ffcg x.1 x.2
theorem Ffcg_F {list_1 : List Event} {parties_2 : Int} {r} (h : Ffcg list_1 parties_2=some r) : (Ffcg_ent).F (Ffcg_A (list_1,parties_2))=some (Ffcg_R r):=entT_F (cA_inj (isl_inj enc_Event_inj) (oA_inj I_inj)) h
noncomputable def Ffcg_c : Code:=bodyOf Tryd.f68
noncomputable def Ffcg_E : Env:=mkE Tryd.prog [(63,Ffcd_ent),(54,spec_l1In_ent)]
def Ffcg_Q (x : (List Event) × Int) (r : Bool) : St→Prop:=QF Ffcg_E Tryd.f68 [false,false] (Ffcg_A x) (Ffcg_R r)
theorem Ffcg_la_run (list_1 : List Event) (parties_2 : Int)  {Q : St→Prop} {K : List It} (hK : noD K=true) {x3 : Int} {y : Bool ⊕ Unit} (h : Ffcg_la list_1 parties_2 x3=some y) : (∀ r',y=.inl r'→∀ st,Ffcg_Q (list_1,parties_2) r' st→Q st)→(∀ u : Unit,y=.inr u→Run Ffcg_E 0 Q K ⟨mkTm .dead 30 [(0,.isl false ((list_1).map enc_Event)),(1,I (parties_2))],mkS (rtL [] 1),1⟩)→Run Ffcg_E 0 Q (.code (cL (cL (cR (cL (cR Ffcg_c))))) :: .lp (cL (cL (cR (cL (cR Ffcg_c))))) :: .blk 0 :: K) ⟨mkTm .dead 30 [(0,.isl false ((list_1).map enc_Event)),(1,I (parties_2)),(5,I (x3))],mkS (rtL [] 1),1⟩:=by
 refine fix_ind (P:=fun (x3 : Int) (y : Bool ⊕ Unit)=>(∀ r',y=.inl r'→∀ st,Ffcg_Q (list_1,parties_2) r' st→Q st)→(∀ u : Unit,y=.inr u→Run Ffcg_E 0 Q K ⟨mkTm .dead 30 [(0,.isl false ((list_1).map enc_Event)),(1,I (parties_2))],mkS (rtL [] 1),1⟩)→Run Ffcg_E 0 Q (.code (cL (cL (cR (cL (cR Ffcg_c))))) :: .lp (cL (cL (cR (cL (cR Ffcg_c))))) :: .blk 0 :: K) ⟨mkTm .dead 30 [(0,.isl false ((list_1).map enc_Event)),(1,I (parties_2)),(5,I (x3))],mkS (rtL [] 1),1⟩) (Ffcg_la_fin list_1 parties_2) ?_ h
 clear h y x3
 intro self ih x3 y h hr hn
 unfold Ffcg_la_F at h
 refine c0 5 [6,7] [I (x3),.isl false ((list_1).map enc_Event)] 33 (by kernel_rfl) ?_
 refine o 49 (I ((len list_1))) rfl rfl (e_len rfl rfl rfl (l_isl rfl)) ?_
 refine c0 2 [10] [B ((decide (x3 < (len list_1))))] 81 (by kernel_rfl) ?_
 obtain ⟨u4,hu4,h⟩:=lJ h
 have j4 : Run Ffcg_E 0 Q (.code (cR (cL (cL (cL (cR (cL (cR Ffcg_c))))))) :: .code (cR (cL (cL (cR (cL (cR Ffcg_c)))))) :: .lp (cL (cL (cR (cL (cR Ffcg_c))))) :: .blk 0 :: K) ⟨mkTm .dead 30 [(0,.isl false ((list_1).map enc_Event)),(1,I (parties_2)),(5,I (x3)),(13,B (u4))],mkS (rtL [] 1),1⟩:=by
   refine sc h rfl rfl (fun h=>?_) (fun h=>?_)
   · refine ad 1 rfl ?_
     refine c0 6 [16,17] [.isl false ((list_1).map enc_Event),I (x3)] 33 (by kernel_rfl) ?_
     obtain ⟨e5,he5,h⟩:=bS h
     refine o 49 (.iptr (enc_Event e5) 0) rfl rfl (e_indexAddr rfl rfl rfl (ix_islE rfl rfl rfl rfl he5)) ?_
     refine c0 2 [19,20] [enc_Event e5,I (parties_2)] 81 (by kernel_rfl) ?_
     obtain ⟨r6,hr6,h⟩:=bS h
     refine o 97 (B (r6)) rfl rfl (e_callV rfl rfl (call_P rfl rfl rfl (avS (shP rfl) (avS (shP rfl) (avN))) (Ffcd_F hr6) (.inr rfl) (bl_n) rfl rfl rfl)) ?_
     refine c0 2 [22] [B ((!r6))] 113 (by kernel_rfl) ?_
     refine sc h rfl rfl (fun h=>?_) (fun h=>?_)
     · refine c0 4 [4] [B (false)] 129 (by kernel_rfl) ?_
       exact s_ret rfl (hr _ (Option.some.inj h).symm _ ⟨_,fin (vs:=[B (false)]) rfl (absE (absorb_plain rfl) (absEN)) rfl (ou_f (ou_f (ou_n))),kl_n⟩)
     · refine ad 1 rfl ?_
       refine c0 6 [5] [I ((w64 (x3 + 1)))] 161 (by kernel_rfl) ?_
       refine s_lp ?_
       refine run_forget [0,1,5] [] [] rfl rfl rfl rfl ?_
       exact ih _ _ h hr hn
   · refine ad 1 rfl ?_
     refine run_forget [0,1] [] [] rfl rfl rfl hK ?_
     exact hn _ (Option.some.inj h).symm
 replace h:=hu4
 clear hu4
 refine sp 10 h rfl (fun h=>?_) (fun h=>?_)
 · refine c0 4 [13] [B ((decide (x3 ≤ 40)))] 129 (by kernel_rfl) ?_
   refine run_forget [0,1,5,13] [] [] rfl rfl rfl rfl ?_
   subst h
   exact j4
 · refine c0 4 [13] [B (false)] 129 (by kernel_rfl) ?_
   refine run_forget [0,1,5,13] [] [] rfl rfl rfl rfl ?_
   subst h
   exact j4
theorem Ffcg_run (list_1 : List Event) (parties_2 : Int) (r : Bool) (h : Ffcg list_1 parties_2=some r) : RunF Ffcg_E Tryd.f68 [false,false] 0 (Ffcg_A (list_1,parties_2)) (Ffcg_R r):=by
 show Run _ _ (Ffcg_Q (list_1,parties_2) r) [.code Ffcg_c] _
 refine rin (n:=30) [(0,.isl false ((list_1).map enc_Event)),(1,I (parties_2))] [] 1 (by kernel_rfl) (by kernel_rfl) (by kernel_rfl) rfl ?_
 unfold Ffcg at h
 refine c0 10 [5] [I (0)] 33 (by kernel_rfl) ?_
 obtain ⟨y7,hy7,hy71,hy72⟩:=bJ h
 refine s_loop rfl ?_
 refine run_forget [0,1,5] [] [] rfl rfl rfl rfl ?_
 refine Ffcg_la_run list_1 parties_2 rfl hy7 (fun r' e st hq=>by rw [hy71 r' e] at hq; exact hq) (fun u7 hu=>?_)
 replace h:=hy72 u7 hu
 refine c0 3 [23] [.isl false ((list_1).map enc_Event)] 17 (by kernel_rfl) ?_
 refine o 33 (I ((len list_1))) rfl rfl (e_len rfl rfl rfl (l_isl rfl)) ?_
 refine c0 2 [26] [B ((decide ((len list_1) ≤ 40)))] 65 (by kernel_rfl) ?_
 obtain ⟨y8,hy8,hy81,hy82⟩:=bJ h
 have j8 : ∀ u8,y8=.inr u8→Run Ffcg_E 0 (Ffcg_Q (list_1,parties_2) r) (.code (cR (cR (cR Ffcg_c))) :: []) ⟨mkTm .dead 30 [(4,B (u8))],mkS (rtL [] 1),1⟩:=by
   intro u8 hu
   replace h:=hy82 u8 hu
   obtain rfl:=Option.some.inj h
   exact s_ret rfl ⟨_,fin (vs:=[B (u8)]) rfl (absE (absorb_plain rfl) (absEN)) rfl (ou_f (ou_f (ou_n))),kl_n⟩
 have r8 : ∀ r',y8=.inl r'→∀ st,Ffcg_Q (list_1,parties_2) r' st→(Ffcg_Q (list_1,parties_2) r) st:=fun r' e st hq=>by rw [hy81 r' e] at hq; exact hq
 replace h:=hy8
 refine sp 26 h rfl (fun h=>?_) (fun h=>?_)
 · refine c0 1 [27] [I (parties_2)] 81 (by kernel_rfl) ?_
   obtain ⟨r9,hr9,h⟩:=bS h
   refine og 97 (B (r9)) rfl rfl rfl rfl (e_callV rfl rfl (call_P rfl rfl rfl (avS (shP rfl) (avS (shP rfl) (avS (shP rfl) (avN)))) (spec_l1In_F hr9) (.inr rfl) (bl_n) rfl rfl rfl)) ?_
   refine c0 3 [4] [B (r9)] 129 (by kernel_rfl) ?_
   refine run_forget [4] [] [] rfl rfl rfl rfl ?_
   exact j8 _ (Option.some.inj h).symm
 · refine c0 5 [4] [B (false)] 129 (by kernel_rfl) ?_
   refine run_forget [4] [] [] rfl rfl rfl rfl ?_
   exact j8 _ (Option.some.inj h).symm
theorem Ffcg_good {G : Go.Ln.Ground} : Good Tryd.prog G 68 Ffcg_ent:=good_T (fnOf_good (gl_c Ffcd_good (gl_c spec_l1In_good (gl_n)))) agree_mk (Checked.mixed Tryd.checked) Tryd.func68 (n:=2) (m:=0) ⟨rfl,rfl,by decide⟩ (fun _=>⟨rfl,rfl⟩) (fun a r h=>Ffcg_run a.1 a.2 r h)
def Ffce_A : ((List Event) × Int)→List V:=cA (slE enc_Event) (oA I)
def Ffce_R (r : Bool) : V × List V:=(B (r),[])
noncomputable def Ffce_ent : Ent:=entT [false,false] Ffce_A Ffce_R fun x=>Ffce x.1 x.2
theorem Ffce_F {list_1 : List Event} {parties_2 : Int} {r} (h : Ffce list_1 parties_2=some r) : (Ffce_ent).F (Ffce_A (list_1,parties_2))=some (Ffce_R r):=entT_F (cA_inj (isl_inj enc_Event_inj) (oA_inj I_inj)) h
noncomputable def Ffce_c : Code:=bodyOf Tryd.f49
noncomputable def Ffce_E : Env:=mkE Tryd.prog [(77,Ffcc_ent),(68,Ffcg_ent)]
def Ffce_Q (x : (List Event) × Int) (r : Bool) : St→Prop:=QF Ffce_E Tryd.f49 [false,false] (Ffce_A x) (Ffce_R r)
theorem Ffce_la_run (list_1 : List Event) (parties_2 : Int)  {Q : St→Prop} {K : List It} (hK : noD K=true) {x3 : Int} {y : Bool ⊕ Unit} (h : Ffce_la list_1 parties_2 x3=some y) : (∀ r',y=.inl r'→∀ st,Ffce_Q (list_1,parties_2) r' st→Q st)→(∀ u : Unit,y=.inr u→Run Ffce_E 0 Q K ⟨mkTm .dead 30 [(0,.isl false ((list_1).map enc_Event)),(1,I (parties_2))],mkS (rtL [] 1),1⟩)→Run Ffce_E 0 Q (.code (cL (cL (cR (cL (cR Ffce_c))))) :: .lp (cL (cL (cR (cL (cR Ffce_c))))) :: .blk 0 :: K) ⟨mkTm .dead 30 [(0,.isl false ((list_1).map enc_Event)),(1,I (parties_2)),(5,I (x3))],mkS (rtL [] 1),1⟩:=by
 refine fix_ind (P:=fun (x3 : Int) (y : Bool ⊕ Unit)=>(∀ r',y=.inl r'→∀ st,Ffce_Q (list_1,parties_2) r' st→Q st)→(∀ u : Unit,y=.inr u→Run Ffce_E 0 Q K ⟨mkTm .dead 30 [(0,.isl false ((list_1).map enc_Event)),(1,I (parties_2))],mkS (rtL [] 1),1⟩)→Run Ffce_E 0 Q (.code (cL (cL (cR (cL (cR Ffce_c))))) :: .lp (cL (cL (cR (cL (cR Ffce_c))))) :: .blk 0 :: K) ⟨mkTm .dead 30 [(0,.isl false ((list_1).map enc_Event)),(1,I (parties_2)),(5,I (x3))],mkS (rtL [] 1),1⟩) (Ffce_la_fin list_1 parties_2) ?_ h
 clear h y x3
 intro self ih x3 y h hr hn
 unfold Ffce_la_F at h
 refine c0 5 [6,7] [I (x3),.isl false ((list_1).map enc_Event)] 33 (by kernel_rfl) ?_
 refine o 49 (I ((len list_1))) rfl rfl (e_len rfl rfl rfl (l_isl rfl)) ?_
 refine c0 2 [10] [B ((decide (x3 < (len list_1))))] 81 (by kernel_rfl) ?_
 obtain ⟨u4,hu4,h⟩:=lJ h
 have j4 : Run Ffce_E 0 Q (.code (cR (cL (cL (cL (cR (cL (cR Ffce_c))))))) :: .code (cR (cL (cL (cR (cL (cR Ffce_c)))))) :: .lp (cL (cL (cR (cL (cR Ffce_c))))) :: .blk 0 :: K) ⟨mkTm .dead 30 [(0,.isl false ((list_1).map enc_Event)),(1,I (parties_2)),(5,I (x3)),(13,B (u4))],mkS (rtL [] 1),1⟩:=by
   refine sc h rfl rfl (fun h=>?_) (fun h=>?_)
   · refine ad 1 rfl ?_
     refine ad 3 rfl ?_
     refine s_draw [0,0,2,7,15,0,0,96,224,511,1023] rfl (by decide +kernel) ?_
     refine dp [] [] (.isl false ((list_1).map enc_Event)) rfl (e_move rfl) rfl (rfl) (by decide) ?_
     refine dp [] [] (I (x3)) rfl (e_move rfl) rfl (rfl) (by decide) ?_
     refine dp [] [] (I ((w64 (x3 - 1)))) rfl (e_bin rfl rfl rfl) rfl (rfl) (by decide) ?_
     obtain ⟨e5,he5,h⟩:=bS h
     refine dp [] [] (.iptr (enc_Event e5) 0) rfl (e_indexAddr rfl rfl rfl (ix_islE rfl rfl rfl rfl he5)) rfl (rfl) (by decide) ?_
     refine dp [] [] (enc_Event e5) rfl (e_ld rfl rfl) rfl (rfl) (by decide) ?_
     refine dp [] [] (.isl false ((list_1).map enc_Event)) rfl (e_move rfl) rfl (rfl) (by decide) ?_
     refine dp [] [] (I (x3)) rfl (e_move rfl) rfl (rfl) (by decide) ?_
     obtain ⟨e6,he6,h⟩:=bS h
     refine dp [] [] (.iptr (enc_Event e6) 0) rfl (e_indexAddr rfl rfl rfl (ix_islE rfl rfl rfl rfl he6)) rfl (rfl) (by decide) ?_
     refine dp [] [] (enc_Event e6) rfl (e_ld rfl rfl) rfl (rfl) (by decide) ?_
     obtain ⟨r7,hr7,h⟩:=bS h
     refine dp [] [] (I (r7)) rfl (e_callV rfl rfl (call_P rfl rfl rfl (avS (shP rfl) (avS (shP rfl) (avN))) (Ffcc_F hr7) (.inr rfl) (bl_n) rfl rfl rfl)) rfl (w_callO rfl rfl rfl rfl (avS (shP rfl) (avS (shP rfl) (avN))) (Ffcc_F hr7) (.inr rfl) rfl) (by decide) ?_
     refine dp [] [] (B ((decide (r7 > 0)))) rfl (e_bin rfl rfl rfl) rfl (rfl) (by decide) ?_
     refine de 177 rfl rfl ?_
     refine sc h rfl rfl (fun h=>?_) (fun h=>?_)
     · refine c0 4 [4] [B (false)] 193 (by kernel_rfl) ?_
       exact s_ret rfl (hr _ (Option.some.inj h).symm _ ⟨_,fin (vs:=[B (false)]) rfl (absE (absorb_plain rfl) (absEN)) rfl (ou_f (ou_f (ou_n))),kl_n⟩)
     · refine ad 1 rfl ?_
       refine c0 6 [5] [I ((w64 (x3 + 1)))] 225 (by kernel_rfl) ?_
       refine s_lp ?_
       refine run_forget [0,1,5] [] [] rfl rfl rfl rfl ?_
       exact ih _ _ h hr hn
   · refine ad 1 rfl ?_
     refine run_forget [0,1] [] [] rfl rfl rfl hK ?_
     exact hn _ (Option.some.inj h).symm
 replace h:=hu4
 clear hu4
 refine sp 10 h rfl (fun h=>?_) (fun h=>?_)
 · refine c0 4 [13] [B ((decide (x3 ≤ 40)))] 129 (by kernel_rfl) ?_
   refine run_forget [0,1,5,13] [] [] rfl rfl rfl rfl ?_
   subst h
   exact j4
 · refine c0 4 [13] [B (false)] 129 (by kernel_rfl) ?_
   refine run_forget [0,1,5,13] [] [] rfl rfl rfl rfl ?_
   subst h
   exact j4
theorem Ffce_run (list_1 : List Event) (parties_2 : Int) (r : Bool) (h : Ffce list_1 parties_2=some r) : RunF Ffce_E Tryd.f49 [false,false] 0 (Ffce_A (list_1,parties_2)) (Ffce_R r):=by
 show Run _ _ (Ffce_Q (list_1,parties_2) r) [.code Ffce_c] _
 refine rin (n:=30) [(0,.isl false ((list_1).map enc_Event)),(1,I (parties_2))] [] 1 (by kernel_rfl) (by kernel_rfl) (by kernel_rfl) rfl ?_
 unfold Ffce at h
 refine c0 10 [5] [I (1)] 33 (by kernel_rfl) ?_
 obtain ⟨y8,hy8,hy81,hy82⟩:=bJ h
 refine s_loop rfl ?_
 refine run_forget [0,1,5] [] [] rfl rfl rfl rfl ?_
 refine Ffce_la_run list_1 parties_2 rfl hy8 (fun r' e st hq=>by rw [hy81 r' e] at hq; exact hq) (fun u8 hu=>?_)
 replace h:=hy82 u8 hu
 refine c0 4 [27,28] [.isl false ((list_1).map enc_Event),I (parties_2)] 33 (by kernel_rfl) ?_
 obtain ⟨r9,hr9,h⟩:=bS h
 refine o 49 (B (r9)) rfl rfl (e_callV rfl rfl (call_P rfl rfl rfl (avS (shP rfl) (avS (shP rfl) (avN))) (Ffcg_F hr9) (.inr rfl) (bl_n) rfl rfl rfl)) ?_
 refine c0 2 [4] [B (r9)] 65 (by kernel_rfl) ?_
 obtain rfl:=Option.some.inj h
 exact s_ret rfl ⟨_,fin (vs:=[B (r9)]) rfl (absE (absorb_plain rfl) (absEN)) rfl (ou_f (ou_f (ou_n))),kl_n⟩
theorem Ffce_good {G : Go.Ln.Ground} : Good Tryd.prog G 49 Ffce_ent:=good_T (fnOf_good (gl_c Ffcc_good (gl_c Ffcg_good (gl_n)))) agree_mk (Checked.mixed Tryd.checked) Tryd.func49 (n:=2) (m:=0) ⟨rfl,rfl,by decide⟩ (fun _=>⟨rfl,rfl⟩) (fun a r h=>Ffce_run a.1 a.2 r h)
def Ffcf_A : ((List Event))→List V:=oA (slE enc_Event)
def Ffcf_R (r : (List Event)) : V × List V:=(.usl 4 ((r).map enc_Event),[])
noncomputable def Ffcf_ent : Ent:=entT [false] Ffcf_A Ffcf_R fun x=>Ffcf x
theorem Ffcf_F {list_1 : List Event} {r} (h : Ffcf list_1=some r) : (Ffcf_ent).F (Ffcf_A list_1)=some (Ffcf_R r):=entT_F (oA_inj (isl_inj enc_Event_inj)) h
noncomputable def Ffcf_c : Code:=bodyOf Tryd.f69
noncomputable def Ffcf_E : Env:=mkE Tryd.prog [(77,Ffcc_ent)]
def Ffcf_Q (x : (List Event)) (r : (List Event)) : St→Prop:=QF Ffcf_E Tryd.f69 [false] (Ffcf_A x) (Ffcf_R r)
theorem Ffcf_lb_run (list_1 : List Event) (x2 : Int × (List Event)) {Q : St→Prop} {K : List It} (hK : noD K=true) {x3 : Int} {y : ((List Event)) ⊕ Int} (h : Ffcf_lb list_1 x2 x3=some y) : (∀ r',y=.inl r'→∀ st,Ffcf_Q list_1 r' st→Q st)→(∀ u : Int,y=.inr u→Run Ffcf_E 0 Q K ⟨mkTm .dead 48 [(0,.isl false ((list_1).map enc_Event)),(3,.hs 1 0 [] 4 0 ((x2.2).map enc_Event).length),(4,I (x2.1)),(5,I (u))],mkS (rtL [⟨0,4,(x2.2).map enc_Event⟩] 1),2⟩)→Run Ffcf_E 0 Q (.code (cL (cL (cL (cR (cL (cL (cR (cL (cL (cR (cL (cR (cR Ffcf_c))))))))))))) :: .lp (cL (cL (cL (cR (cL (cL (cR (cL (cL (cR (cL (cR (cR Ffcf_c))))))))))))) :: .blk 2 :: K) ⟨mkTm .dead 48 [(0,.isl false ((list_1).map enc_Event)),(3,.hs 1 0 [] 4 0 ((x2.2).map enc_Event).length),(4,I (x2.1)),(5,I (x3))],mkS (rtL [⟨0,4,(x2.2).map enc_Event⟩] 1),2⟩:=by
 refine fix_ind (P:=fun (x3 : Int) (y : ((List Event)) ⊕ Int)=>(∀ r',y=.inl r'→∀ st,Ffcf_Q list_1 r' st→Q st)→(∀ u : Int,y=.inr u→Run Ffcf_E 0 Q K ⟨mkTm .dead 48 [(0,.isl false ((list_1).map enc_Event)),(3,.hs 1 0 [] 4 0 ((x2.2).map enc_Event).length),(4,I (x2.1)),(5,I (u))],mkS (rtL [⟨0,4,(x2.2).map enc_Event⟩] 1),2⟩)→Run Ffcf_E 0 Q (.code (cL (cL (cL (cR (cL (cL (cR (cL (cL (cR (cL (cR (cR Ffcf_c))))))))))))) :: .lp (cL (cL (cL (cR (cL (cL (cR (cL (cL (cR (cL (cR (cR Ffcf_c))))))))))))) :: .blk 2 :: K) ⟨mkTm .dead 48 [(0,.isl false ((list_1).map enc_Event)),(3,.hs 1 0 [] 4 0 ((x2.2).map enc_Event).length),(4,I (x2.1)),(5,I (x3))],mkS (rtL [⟨0,4,(x2.2).map enc_Event⟩] 1),2⟩) (Ffcf_lb_fin list_1 x2) ?_ h
 clear h y x3
 intro self ih x3 y h hr hn
 unfold Ffcf_lb_F at h
 refine ad 2 rfl ?_
 refine s_draw [0,1,3,7,7,31,63,7,7,263,903,1927,4095,8191,16383] rfl (by decide +kernel) ?_
 refine dp [] [] (I (x3)) rfl (e_move rfl) rfl (rfl) (by decide) ?_
 refine dp [] [] (B ((decide (x3 > 0)))) rfl (e_bin rfl rfl rfl) rfl (rfl) (by decide) ?_
 refine dp [] [] (B ((decide (x3 > 0)))) rfl (e_move rfl) rfl (rfl) (by decide) ?_
 obtain ⟨y4,hy4,hy41,hy42⟩:=bL h
 have j4 : ∀ u4,y4=.inr u4→Run Ffcf_E 0 Q (.code (cR (cL (cL (cL (cL (cR (cL (cL (cR (cL (cL (cR (cL (cR (cR Ffcf_c))))))))))))))) :: .code (cR (cL (cL (cL (cR (cL (cL (cR (cL (cL (cR (cL (cR (cR Ffcf_c)))))))))))))) :: .lp (cL (cL (cL (cR (cL (cL (cR (cL (cL (cR (cL (cR (cR Ffcf_c))))))))))))) :: .blk 2 :: K) ⟨mkTm .dead 48 [(0,.isl false ((list_1).map enc_Event)),(3,.hs 1 0 [] 4 0 ((x2.2).map enc_Event).length),(4,I (x2.1)),(5,I (x3)),(29,B (u4))],mkS (rtL [⟨0,4,(x2.2).map enc_Event⟩] 1),2⟩:=by
   intro u4 hu
   replace h:=hy42 u4 hu
   refine sc h rfl rfl (fun h=>?_) (fun h=>?_)
   · refine ad 1 rfl ?_
     refine c0 7 [5] [I ((w64 (x3 - 1)))] 50 (by kernel_rfl) ?_
     refine s_lp ?_
     refine run_forget [0,3,4,5] [1] [⟨0,4,(x2.2).map enc_Event⟩] rfl rfl rfl rfl ?_
     exact ih _ _ h hr hn
   · refine ad 1 rfl ?_
     refine run_forget [0,3,4,5] [1] [⟨0,4,(x2.2).map enc_Event⟩] rfl rfl rfl hK ?_
     exact hn _ (Option.some.inj h).symm
 have r4 : ∀ r',y4=.inl r'→∀ st,Ffcf_Q list_1 r' st→Q st:=fun r' e st hq=>hr r' (hy41 r' e) st hq
 replace h:=hy4
 refine sp 17 h rfl (fun h=>?_) (fun h=>?_)
 · refine dg [] [] (.isl false ((list_1).map enc_Event)) rfl rfl rfl (e_move rfl) rfl (rfl) (by decide) ?_
   refine dg [] [] (I (x2.1)) rfl rfl rfl (e_move rfl) rfl (rfl) (by decide) ?_
   obtain ⟨e5,he5,h⟩:=bS h
   refine dg [] [] (.iptr (enc_Event e5) 0) rfl rfl rfl (e_indexAddr rfl rfl rfl (ix_islE rfl rfl rfl rfl he5)) rfl (rfl) (by decide) ?_
   refine dg [] [] (enc_Event e5) rfl rfl rfl (e_ld rfl rfl) rfl (rfl) (by decide) ?_
   refine dg [] [] (.hs 1 0 [] 4 0 ((x2.2).map enc_Event).length) rfl rfl rfl (e_move rfl) rfl (rfl) (by decide) ?_
   refine dg [] [] (I (x3)) rfl rfl rfl (e_move rfl) rfl (rfl) (by decide) ?_
   refine dg [] [] (I ((w64 (x3 - 1)))) rfl rfl rfl (e_bin rfl rfl rfl) rfl (rfl) (by decide) ?_
   obtain ⟨e6,he6,h⟩:=bS h
   refine dg [1] [] (.hp 1 0 [] 4 (0 + Int.toNat ((w64 (x3 - 1)))) 0) rfl rfl rfl (e_indexAddr rfl rfl rfl (ix_hsM (f:=enc_Event) (xs:=x2.2) rfl rfl rfl he6)) rfl (rfl) (by decide) ?_
   refine dg [1] [] (enc_Event e6) rfl rfl rfl (e_ld rfl (ld_at (path:=[]) rfl rfl rfl (ra_n) (get_map (f:=enc_Event) (xs:=x2.2) he6) rfl rfl rfl)) rfl (rfl) (by decide) ?_
   obtain ⟨r7,hr7,h⟩:=bS h
   refine dg [] [] (I (r7)) rfl rfl rfl (e_callV rfl rfl (call_P rfl rfl rfl (avS (shP rfl) (avS (shP rfl) (avN))) (Ffcc_F hr7) (.inr rfl) (bl_n) rfl rfl rfl)) rfl (w_callO rfl rfl rfl rfl (avS (shP rfl) (avS (shP rfl) (avN))) (Ffcc_F hr7) (.inr rfl) rfl) (by decide) ?_
   refine dg [] [] (B ((decide (r7 < 0)))) rfl rfl rfl (e_bin rfl rfl rfl) rfl (rfl) (by decide) ?_
   refine dp [] [] (B ((decide (r7 < 0)))) rfl (e_pickT rfl rfl) rfl (rfl) (by decide) ?_
   refine de 242 rfl rfl ?_
   refine run_forget [0,3,4,5,29] [1] [⟨0,4,(x2.2).map enc_Event⟩] rfl rfl rfl rfl ?_
   exact j4 _ (Option.some.inj h).symm
 · refine ds rfl rfl rfl (by decide) ?_
   refine ds rfl rfl rfl (by decide) ?_
   refine ds rfl rfl rfl (by decide) ?_
   refine ds rfl rfl rfl (by decide) ?_
   refine ds rfl rfl rfl (by decide) ?_
   refine ds rfl rfl rfl (by decide) ?_
   refine ds rfl rfl rfl (by decide) ?_
   refine ds rfl rfl rfl (by decide) ?_
   refine ds rfl rfl rfl (by decide) ?_
   refine ds rfl rfl rfl (by decide) ?_
   refine ds rfl rfl rfl (by decide) ?_
   refine dp [] [] (B (false)) rfl (e_pickF rfl rfl) rfl (rfl) (by decide) ?_
   refine de 242 rfl rfl ?_
   refine run_forget [0,3,4,5,29] [1] [⟨0,4,(x2.2).map enc_Event⟩] rfl rfl rfl rfl ?_
   exact j4 _ (Option.some.inj h).symm
theorem Ffcf_la_run (list_1 : List Event)  {Q : St→Prop} {K : List It} (hK : noD K=true) {x2 : Int × (List Event)} {y : ((List Event)) ⊕ ((List Event))} (h : Ffcf_la list_1 x2=some y) : (∀ r',y=.inl r'→∀ st,Ffcf_Q list_1 r' st→Q st)→(∀ u : (List Event),y=.inr u→Run Ffcf_E 0 Q K ⟨mkTm .dead 48 [(3,.hs 1 0 [] 4 0 ((u).map enc_Event).length)],mkS (rtL [⟨0,4,(u).map enc_Event⟩] 1),2⟩)→Run Ffcf_E 0 Q (.code (cL (cL (cR (cL (cR (cR Ffcf_c)))))) :: .lp (cL (cL (cR (cL (cR (cR Ffcf_c)))))) :: .blk 0 :: K) ⟨mkTm .dead 48 [(0,.isl false ((list_1).map enc_Event)),(3,.hs 1 0 [] 4 0 ((x2.2).map enc_Event).length),(4,I (x2.1))],mkS (rtL [⟨0,4,(x2.2).map enc_Event⟩] 1),2⟩:=by
 refine fix_ind (P:=fun (x2 : Int × (List Event)) (y : ((List Event)) ⊕ ((List Event)))=>(∀ r',y=.inl r'→∀ st,Ffcf_Q list_1 r' st→Q st)→(∀ u : (List Event),y=.inr u→Run Ffcf_E 0 Q K ⟨mkTm .dead 48 [(3,.hs 1 0 [] 4 0 ((u).map enc_Event).length)],mkS (rtL [⟨0,4,(u).map enc_Event⟩] 1),2⟩)→Run Ffcf_E 0 Q (.code (cL (cL (cR (cL (cR (cR Ffcf_c)))))) :: .lp (cL (cL (cR (cL (cR (cR Ffcf_c)))))) :: .blk 0 :: K) ⟨mkTm .dead 48 [(0,.isl false ((list_1).map enc_Event)),(3,.hs 1 0 [] 4 0 ((x2.2).map enc_Event).length),(4,I (x2.1))],mkS (rtL [⟨0,4,(x2.2).map enc_Event⟩] 1),2⟩) (Ffcf_la_fin list_1) ?_ h
 clear h y x2
 intro self ih x2 y h hr hn
 unfold Ffcf_la_F at h
 refine c0 5 [7,8] [I (x2.1),.isl false ((list_1).map enc_Event)] 34 (by kernel_rfl) ?_
 refine o 50 (I ((len list_1))) rfl rfl (e_len rfl rfl rfl (l_isl rfl)) ?_
 refine c0 2 [10] [B ((decide (x2.1 < (len list_1))))] 66 (by kernel_rfl) ?_
 refine sc h rfl rfl (fun h=>?_) (fun h=>?_)
 · refine ad 1 rfl ?_
   refine c0 5 [13] [.hs 1 0 [] 4 0 ((x2.2).map enc_Event).length] 82 (by kernel_rfl) ?_
   refine o 98 (I ((len x2.2))) rfl rfl (e_len rfl rfl rfl (l_hsM (f:=enc_Event) (xs:=x2.2) rfl rfl)) ?_
   refine c0 4 [5] [I ((len x2.2))] 114 (by kernel_rfl) ?_
   obtain ⟨y8,hy8,hy81,hy82⟩:=bL h
   refine s_loop rfl ?_
   refine run_forget [0,3,4,5] [1] [⟨0,4,(x2.2).map enc_Event⟩] rfl rfl rfl rfl ?_
   refine Ffcf_lb_run list_1 x2 rfl hy8 (fun r' e st hq=>hr r' (hy81 r' e) st hq) (fun u8 hu=>?_)
   replace h:=hy82 u8 hu
   refine s_draw [0,0,0,6,15,0,0,96,224,480,1023,0,0,6144,16383,32767] rfl (by decide +kernel) ?_
   refine dp [] [] (.hs 2 0 [] 4 0 0) rfl (e_buildSlice rfl (bs_mk (f:=I) (xs:=[]) (z:=.agg [I (0),I (0),str ([]),I (0)]) (es:=[]) (ws:=[]) rfl rfl rfl (by decide) rfl (abs_each_plain rfl) rfl)) rfl (rfl) (by decide) ?_
   refine dp [] [] (.hs 1 0 [] 4 0 ((x2.2).map enc_Event).length) rfl (e_move rfl) rfl (rfl) (by decide) ?_
   refine dp [] [] (I (u8)) rfl (e_move rfl) rfl (rfl) (by decide) ?_
   obtain ⟨s9,hs9,h⟩:=bS h
   refine dp [1] [] (.hs 1 0 [] 4 (0 + Int.toNat (0)) (Int.toNat (u8) - Int.toNat (0))) rfl (e_slice rfl rfl rfl rfl (sl_hsM (f:=enc_Event) (xs:=x2.2) rfl rfl rfl rfl rfl hs9)) rfl (rfl) (by decide) ?_
   obtain ⟨p10,hp10,h⟩:=bS h
   obtain ⟨a11,ha11,h⟩:=bS h
   refine dp [2,1] [2] (.hs 66 0 [] 4 0 ((a11).map enc_Event).length) rfl (e_append rfl rfl rfl rfl rfl (ap_hsM (path:=[]) (es0:=[]) (f:=enc_Event) (xs:=([] : List Event)) (ys:=p10) rfl rfl (take_pt (path:=[]) (f:=enc_Event) (xs:=x2.2) rfl rfl (ra_n) hp10 enc_Event_flat) rfl rfl rfl (rfl) rfl (by decide) enc_Event_cells ha11 rfl (to_n))) rfl (w_app rfl (aw_hs (path:=[]) (f:=enc_Event) (xs:=x2.2) rfl rfl (ra_n) enc_Event_flat rfl)) (by decide) ?_
   refine dp [] [] (.isl false ((list_1).map enc_Event)) rfl (e_move rfl) rfl (rfl) (by decide) ?_
   refine dp [] [] (I (x2.1)) rfl (e_move rfl) rfl (rfl) (by decide) ?_
   obtain ⟨e12,he12,h⟩:=bS h
   refine dp [] [] (.iptr (enc_Event e12) 0) rfl (e_indexAddr rfl rfl rfl (ix_islE rfl rfl rfl rfl he12)) rfl (rfl) (by decide) ?_
   refine dp [] [] (enc_Event e12) rfl (e_ld rfl rfl) rfl (rfl) (by decide) ?_
   refine dp [] [] (.hs 146 0 [] 4 0 1) rfl (e_buildSlice rfl (bs_mk (f:=I) (xs:=[]) (z:=.agg [I (0),I (0),str ([]),I (0)]) (es:=[enc_Event e12]) (ws:=[enc_Event e12]) rfl rfl rfl (by decide) rfl (abs_each_plain rfl) rfl)) rfl (rfl) (by decide) ?_
   obtain ⟨a13,ha13,h⟩:=bS h
   refine dp [66,146] [66] (.hs 162 0 [] 4 0 ((a13).map enc_Event).length) rfl (e_append rfl rfl rfl rfl rfl (ap_hsM (path:=[]) (f:=enc_Event) (xs:=a11) (ys:=[e12]) rfl rfl (take_hs rfl rfl rfl) rfl rfl rfl (ra_n) rfl (by decide) enc_Event_cells ha13 rfl (to_n))) rfl (w_app rfl (aw_hs (path:=[]) (f:=enc_Event) (xs:=[e12]) rfl rfl (ra_n) enc_Event_flat rfl)) (by decide) ?_
   refine dp [] [] (.hs 1 0 [] 4 0 ((x2.2).map enc_Event).length) rfl (e_move rfl) rfl (rfl) (by decide) ?_
   refine dp [] [] (I (u8)) rfl (e_move rfl) rfl (rfl) (by decide) ?_
   obtain ⟨s14,hs14,h⟩:=bS h
   refine dp [1] [] (.hs 1 0 [] 4 (0 + Int.toNat (u8)) (Int.toNat (len x2.2) - Int.toNat (u8))) rfl (e_slice rfl rfl rfl rfl (sl_hsM (f:=enc_Event) (xs:=x2.2) rfl rfl rfl rfl (bd_n rfl) hs14)) rfl (rfl) (by decide) ?_
   obtain ⟨p15,hp15,h⟩:=bS h
   obtain ⟨a16,ha16,h⟩:=bS h
   refine dp [162,1] [162] (.hs 226 0 [] 4 0 ((a16).map enc_Event).length) rfl (e_append rfl rfl rfl rfl rfl (ap_hsM (path:=[]) (f:=enc_Event) (xs:=a13) (ys:=p15) rfl rfl (take_pt (path:=[]) (f:=enc_Event) (xs:=x2.2) rfl rfl (ra_n) hp15 enc_Event_flat) rfl rfl rfl (ra_n) rfl (by decide) enc_Event_cells ha16 rfl (to_n))) rfl (w_app rfl (aw_hs (path:=[]) (f:=enc_Event) (xs:=x2.2) rfl rfl (ra_n) enc_Event_flat rfl)) (by decide) ?_
   refine dp [] [] (.hs 226 0 [] 4 0 ((a16).map enc_Event).length) rfl (e_assign rfl) rfl (rfl) (by decide) ?_
   refine de 258 rfl rfl ?_
   refine c0 6 [4] [I ((w64 (x2.1 + 1)))] 306 (by kernel_rfl) ?_
   refine s_lp ?_
   refine run_forget [0,3,4] [226] [⟨0,4,(a16).map enc_Event⟩] rfl rfl rfl rfl ?_
   exact ih _ _ h hr hn
 · refine ad 1 rfl ?_
   refine run_forget [3] [1] [⟨0,4,(x2.2).map enc_Event⟩] rfl rfl rfl hK ?_
   exact hn _ (Option.some.inj h).symm
theorem Ffcf_run (list_1 : List Event) (r : (List Event)) (h : Ffcf list_1=some r) : RunF Ffcf_E Tryd.f69 [false] 0 (Ffcf_A list_1) (Ffcf_R r):=by
 show Run _ _ (Ffcf_Q list_1 r) [.code Ffcf_c] _
 refine rin (n:=48) [(0,.isl false ((list_1).map enc_Event))] [] 1 (by kernel_rfl) (by kernel_rfl) (by kernel_rfl) rfl ?_
 unfold Ffcf at h
 refine c0 6 [] [] 17 (by kernel_rfl) ?_
 refine o 33 (.hs 17 0 [] 4 0 0) rfl rfl (e_buildSlice rfl (bs_mk (f:=I) (xs:=[]) (z:=.agg [I (0),I (0),str ([]),I (0)]) (es:=[]) (ws:=[]) rfl rfl rfl (by decide) rfl (abs_each_plain rfl) rfl)) ?_
 refine c0 8 [3,4] [.hs 17 0 [] 4 0 0,I (0)] 65 (by kernel_rfl) ?_
 obtain ⟨y17,hy17,hy171,hy172⟩:=bJ h
 refine s_loop rfl ?_
 refine run_forget [0,3,4] [17] [⟨0,4,[]⟩] rfl rfl rfl rfl ?_
 refine Ffcf_la_run list_1 rfl hy17 (fun r' e st hq=>by rw [hy171 r' e] at hq; exact hq) (fun u17 hu=>?_)
 replace h:=hy172 u17 hu
 refine c0 5 [2] [.hs 1 0 [] 4 0 ((u17).map enc_Event).length] 34 (by kernel_rfl) ?_
 obtain rfl:=Option.some.inj h
 exact s_ret rfl ⟨_,fin (vs:=[.hs 1 0 [] 4 0 ((u17).map enc_Event).length]) rfl (absE (abs1 rfl (abs_hs rfl rfl)) (absEN)) rfl (ou_f (ou_n)),kl_n⟩
theorem Ffcf_good {G : Go.Ln.Ground} : Good Tryd.prog G 69 Ffcf_ent:=good_T (fnOf_good (gl_c Ffcc_good (gl_n))) agree_mk (Checked.mixed Tryd.checked) Tryd.func69 (n:=1) (m:=0) ⟨rfl,rfl,by decide⟩ (fun _=>⟨rfl,rfl⟩) (fun a r h=>Ffcf_run a r h)
def Ffby_A : ((List Event) × (List Event) × Int)→List V:=cA (slE enc_Event) (cA (slE enc_Event) (oA I))
def Ffby_R (r : (List Event) × Bool) : V × List V:=(.tup [.usl 4 ((r.1).map enc_Event),B (r.2)],[])
noncomputable def Ffby_ent : Ent:=entT [false,false,false] Ffby_A Ffby_R fun x=>Ffby x.1 x.2.1 x.2.2
theorem Ffby_F {a_1 : List Event} {b_2 : List Event} {parties_3 : Int} {r} (h : Ffby a_1 b_2 parties_3=some r) : (Ffby_ent).F (Ffby_A (a_1,b_2,parties_3))=some (Ffby_R r):=entT_F (cA_inj (isl_inj enc_Event_inj) (cA_inj (isl_inj enc_Event_inj) (oA_inj I_inj))) h
noncomputable def Ffby_c : Code:=bodyOf Tryd.f40
noncomputable def Ffby_E : Env:=mkE Tryd.prog [(49,Ffce_ent),(69,Ffcf_ent)]
def Ffby_Q (x : (List Event) × (List Event) × Int) (r : (List Event) × Bool) : St→Prop:=QF Ffby_E Tryd.f40 [false,false,false] (Ffby_A x) (Ffby_R r)
theorem Ffby_run (a_1 : List Event) (b_2 : List Event) (parties_3 : Int) (r : (List Event) × Bool) (h : Ffby a_1 b_2 parties_3=some r) : RunF Ffby_E Tryd.f40 [false,false,false] 0 (Ffby_A (a_1,b_2,parties_3)) (Ffby_R r):=by
 show Run _ _ (Ffby_Q (a_1,b_2,parties_3) r) [.code Ffby_c] _
 refine rin (n:=33) [(0,.isl false ((a_1).map enc_Event)),(1,.isl false ((b_2).map enc_Event)),(2,I (parties_3))] [] 1 (by kernel_rfl) (by kernel_rfl) (by kernel_rfl) rfl ?_
 unfold Ffby at h
 refine c0 10 [8,9] [.isl false ((a_1).map enc_Event),I (parties_3)] 65 (by kernel_rfl) ?_
 obtain ⟨r4,hr4,h⟩:=bS h
 refine o 81 (B (r4)) rfl rfl (e_callV rfl rfl (call_P rfl rfl rfl (avS (shP rfl) (avS (shP rfl) (avN))) (Ffce_F hr4) (.inr rfl) (bl_n) rfl rfl rfl)) ?_
 refine c0 2 [12] [B ((!r4))] 113 (by kernel_rfl) ?_
 obtain ⟨y5,hy5,hy51,hy52⟩:=bJ h
 have j5 : ∀ u5,y5=.inr u5→Run Ffby_E 0 (Ffby_Q (a_1,b_2,parties_3) r) (.code (cR (cL (cR Ffby_c))) :: .code (cR (cR Ffby_c)) :: []) ⟨mkTm .dead 33 [(0,.isl false ((a_1).map enc_Event)),(1,.isl false ((b_2).map enc_Event)),(25,B (u5))],mkS (rtL [] 1),1⟩:=by
   intro u5 hu
   replace h:=hy52 u5 hu
   refine sc h rfl rfl (fun h=>?_) (fun h=>?_)
   · refine ad 2 rfl ?_
     refine o 17 (.hs 1 0 [] 4 0 0) rfl rfl (e_buildSlice rfl (bs_mk (f:=I) (xs:=[]) (z:=.agg [I (0),I (0),str ([]),I (0)]) (es:=[]) (ws:=[]) rfl rfl rfl (by decide) rfl (abs_each_plain rfl) rfl)) ?_
     refine c0 3 [6,7] [.hs 1 0 [] 4 0 0,B (false)] 49 (by kernel_rfl) ?_
     obtain rfl:=Option.some.inj h
     exact s_ret rfl ⟨_,fin (vs:=[.hs 1 0 [] 4 0 0,B (false)]) rfl (absE (abs1 rfl (abs_hs rfl rfl)) (absE (absorb_plain rfl) (absEN))) rfl (ou_f (ou_f (ou_f (ou_n)))),kl_n⟩
   · refine ad 1 rfl ?_
     refine ad 2 rfl ?_
     refine o 17 (.hs 1 0 [] 4 0 0) rfl rfl (e_buildSlice rfl (bs_mk (f:=I) (xs:=[]) (z:=.agg [I (0),I (0),str ([]),I (0)]) (es:=[]) (ws:=[]) rfl rfl rfl (by decide) rfl (abs_each_plain rfl) rfl)) ?_
     refine c0 1 [28] [.isl false ((a_1).map enc_Event)] 33 (by kernel_rfl) ?_
     obtain ⟨a6,ha6,h⟩:=bS h
     refine o 49 (.hs 33 0 [] 4 0 ((a6).map enc_Event).length) rfl rfl (e_append rfl rfl rfl rfl rfl (ap_hsM (path:=[]) (es0:=[]) (f:=enc_Event) (xs:=([] : List Event)) (ys:=a_1) rfl rfl (take_isl) rfl rfl rfl (rfl) rfl (by decide) enc_Event_cells ha6 rfl (to_n))) ?_
     refine c0 1 [30] [.isl false ((b_2).map enc_Event)] 65 (by kernel_rfl) ?_
     obtain ⟨a7,ha7,h⟩:=bS h
     refine o 81 (.hs 65 0 [] 4 0 ((a7).map enc_Event).length) rfl rfl (e_append rfl rfl rfl rfl rfl (ap_hsM (path:=[]) (f:=enc_Event) (xs:=a6) (ys:=b_2) rfl rfl (take_isl) rfl rfl rfl (ra_n) rfl (by decide) enc_Event_cells ha7 rfl (to_n))) ?_
     obtain ⟨r8,hr8,h⟩:=bS h
     refine o 97 (.hs 81 0 [] 4 0 ((r8).map enc_Event).length) rfl rfl (e_callV rfl rfl (call_P rfl rfl rfl (avS (sh1 rfl rfl (sh_hsM (f:=enc_Event) (g:=enc_Event) (xs:=a7) rfl rfl (imms_of enc_Event_imm))) (avN)) (Ffcf_F hr8) (.inl (by simp [hasImm,hasImms,str,himm_map (f:=enc_Event) enc_Event_himm])) (bl_n) rfl rfl rfl)) ?_
     refine c0 3 [6,7] [.hs 81 0 [] 4 0 ((r8).map enc_Event).length,B (true)] 129 (by kernel_rfl) ?_
     obtain rfl:=Option.some.inj h
     exact s_ret rfl ⟨_,fin (vs:=[.hs 81 0 [] 4 0 ((r8).map enc_Event).length,B (true)]) rfl (absE (abs1 rfl (abs_hs rfl rfl)) (absE (absorb_plain rfl) (absEN))) rfl (ou_f (ou_f (ou_f (ou_n)))),kl_n⟩
 have r5 : ∀ r',y5=.inl r'→∀ st,Ffby_Q (a_1,b_2,parties_3) r' st→(Ffby_Q (a_1,b_2,parties_3) r) st:=fun r' e st hq=>by rw [hy51 r' e] at hq; exact hq
 replace h:=hy5
 refine sp 12 h rfl (fun h=>?_) (fun h=>?_)
 · refine c0 14 [25] [B (true)] 321 (by kernel_rfl) ?_
   refine run_forget [0,1,25] [] [] rfl rfl rfl rfl ?_
   exact j5 _ (Option.some.inj h).symm
 · refine c0 2 [13,14] [.isl false ((b_2).map enc_Event),I (parties_3)] 145 (by kernel_rfl) ?_
   obtain ⟨r9,hr9,h⟩:=bS h
   refine og 161 (B (r9)) rfl rfl rfl rfl (e_callV rfl rfl (call_P rfl rfl rfl (avS (shP rfl) (avS (shP rfl) (avN))) (Ffce_F hr9) (.inr rfl) (bl_n) rfl rfl rfl)) ?_
   refine c0 3 [18] [B ((!r9))] 209 (by kernel_rfl) ?_
   obtain ⟨u10,hu10,h⟩:=lJ h
   have j10 : Run Ffby_E 0 (Ffby_Q (a_1,b_2,parties_3) r) (.code (cR (cL (cR Ffby_c))) :: .code (cR (cR Ffby_c)) :: []) ⟨mkTm .dead 33 [(0,.isl false ((a_1).map enc_Event)),(1,.isl false ((b_2).map enc_Event)),(25,B (u10))],mkS (rtL [] 1),1⟩:=by
     refine run_forget [0,1,25] [] [] rfl rfl rfl rfl ?_
     exact j5 _ (Option.some.inj h).symm
   replace h:=hu10
   clear hu10
   refine sp 18 h rfl (fun h=>?_) (fun h=>?_)
   · refine c0 8 [25] [B (true)] 321 (by kernel_rfl) ?_
     refine run_forget [0,1,25] [] [] rfl rfl rfl rfl ?_
     subst h
     exact j10
   · refine c0 1 [19] [.isl false ((a_1).map enc_Event)] 225 (by kernel_rfl) ?_
     refine og 241 (I ((len a_1))) rfl rfl rfl rfl (e_len rfl rfl rfl (l_isl rfl)) ?_
     refine c0 1 [21] [.isl false ((b_2).map enc_Event)] 257 (by kernel_rfl) ?_
     refine og 273 (I ((len b_2))) rfl rfl rfl rfl (e_len rfl rfl rfl (l_isl rfl)) ?_
     refine c0 4 [25] [B ((decide ((w64 ((len a_1) + (len b_2))) > 40)))] 321 (by kernel_rfl) ?_
     refine run_forget [0,1,25] [] [] rfl rfl rfl rfl ?_
     subst h
     exact j10
theorem Ffby_good {G : Go.Ln.Ground} : Good Tryd.prog G 40 Ffby_ent:=good_T (fnOf_good (gl_c Ffce_good (gl_c Ffcf_good (gl_n)))) agree_mk (Checked.mixed Tryd.checked) Tryd.func40 (n:=3) (m:=0) ⟨rfl,rfl,by decide⟩ (fun _=>⟨rfl,rfl⟩) (fun a r h=>Ffby_run a.1 a.2.1 a.2.2 r h)
def Ffo_A : (Int × Int × Int)→List V:=cA I (cA I (oA I))
def Ffo_R (r : Bool) : V × List V:=(B (r),[])
noncomputable def Ffo_ent : Ent:=entT [false,false,false] Ffo_A Ffo_R fun x=>Ffo x.1 x.2.1 x.2.2
theorem Ffo_F {n_1 : Int} {low_2 : Int} {high_3 : Int} {r} (h : Ffo n_1 low_2 high_3=some r) : (Ffo_ent).F (Ffo_A (n_1,low_2,high_3))=some (Ffo_R r):=entT_F (cA_inj I_inj (cA_inj I_inj (oA_inj I_inj))) h
noncomputable def Ffo_c : Code:=bodyOf Tryd.f55
noncomputable def Ffo_E : Env:=mkE Tryd.prog []
def Ffo_Q (x : Int × Int × Int) (r : Bool) : St→Prop:=QF Ffo_E Tryd.f55 [false,false,false] (Ffo_A x) (Ffo_R r)
theorem Ffo_run (n_1 : Int) (low_2 : Int) (high_3 : Int) (r : Bool) (h : Ffo n_1 low_2 high_3=some r) : RunF Ffo_E Tryd.f55 [false,false,false] 0 (Ffo_A (n_1,low_2,high_3)) (Ffo_R r):=by
 show Run _ _ (Ffo_Q (n_1,low_2,high_3) r) [.code Ffo_c] _
 refine rin (n:=15) [(0,I (n_1)),(1,I (low_2)),(2,I (high_3))] [] 1 (by kernel_rfl) (by kernel_rfl) (by kernel_rfl) rfl ?_
 unfold Ffo at h
 refine c0 10 [10] [B ((decide (n_1 ≥ low_2)))] 81 (by kernel_rfl) ?_
 obtain ⟨u4,hu4,h⟩:=lJ h
 have j4 : Run Ffo_E 0 (Ffo_Q (n_1,low_2,high_3) r) (.code (cR (cR Ffo_c)) :: []) ⟨mkTm .dead 15 [(6,B (u4))],mkS (rtL [] 1),1⟩:=by
   obtain rfl:=Option.some.inj h
   exact s_ret rfl ⟨_,fin (vs:=[B (u4)]) rfl (absE (absorb_plain rfl) (absEN)) rfl (ou_f (ou_f (ou_f (ou_n)))),kl_n⟩
 replace h:=hu4
 clear hu4
 refine sp 10 h rfl (fun h=>?_) (fun h=>?_)
 · refine c0 6 [6] [B ((decide (n_1 ≤ high_3)))] 161 (by kernel_rfl) ?_
   refine run_forget [6] [] [] rfl rfl rfl rfl ?_
   subst h
   exact j4
 · refine c0 6 [6] [B (false)] 161 (by kernel_rfl) ?_
   refine run_forget [6] [] [] rfl rfl rfl rfl ?_
   subst h
   exact j4
theorem Ffo_good {G : Go.Ln.Ground} : Good Tryd.prog G 55 Ffo_ent:=good_T (fnOf_good (gl_n)) agree_mk (Checked.mixed Tryd.checked) Tryd.func55 (n:=3) (m:=0) ⟨rfl,rfl,by decide⟩ (fun _=>⟨rfl,rfl⟩) (fun a r h=>Ffo_run a.1 a.2.1 a.2.2 r h)
def Ffm_A : Int→List V:=oA I
def Ffm_R (r : Bool) : V × List V:=(B (r),[])
noncomputable def Ffm_ent : Ent:=entT [false] Ffm_A Ffm_R fun x=>Ffm x
theorem Ffm_F {day_1 : Int} {r} (h : Ffm day_1=some r) : (Ffm_ent).F (Ffm_A day_1)=some (Ffm_R r):=entT_F (oA_inj I_inj) h
noncomputable def Ffm_c : Code:=bodyOf Tryd.f91
noncomputable def Ffm_E : Env:=mkE Tryd.prog [(55,Ffo_ent)]
def Ffm_Q (x : Int) (r : Bool) : St→Prop:=QF Ffm_E Tryd.f91 [false] (Ffm_A x) (Ffm_R r)
theorem Ffm_run (day_1 : Int) (r : Bool) (h : Ffm day_1=some r) : RunF Ffm_E Tryd.f91 [false] 0 (Ffm_A day_1) (Ffm_R r):=by
 show Run _ _ (Ffm_Q day_1 r) [.code Ffm_c] _
 refine rin (n:=5) [(0,I (day_1))] [] 1 (by kernel_rfl) (by kernel_rfl) (by kernel_rfl) rfl ?_
 unfold Ffm at h
 refine c0 7 [3] [I (day_1)] 33 (by kernel_rfl) ?_
 obtain ⟨r2,hr2,h⟩:=bS h
 refine o 49 (B (r2)) rfl rfl (e_callV rfl rfl (call_P rfl rfl rfl (avS (shP rfl) (avS (shP rfl) (avS (shP rfl) (avN)))) (Ffo_F hr2) (.inr rfl) (bl_n) rfl rfl rfl)) ?_
 refine c0 2 [2] [B (r2)] 65 (by kernel_rfl) ?_
 obtain rfl:=Option.some.inj h
 exact s_ret rfl ⟨_,fin (vs:=[B (r2)]) rfl (absE (absorb_plain rfl) (absEN)) rfl (ou_f (ou_n)),kl_n⟩
theorem Ffm_good {G : Go.Ln.Ground} : Good Tryd.prog G 91 Ffm_ent:=good_T (fnOf_good (gl_c Ffo_good (gl_n))) agree_mk (Checked.mixed Tryd.checked) Tryd.func91 (n:=1) (m:=0) ⟨rfl,rfl,by decide⟩ (fun _=>⟨rfl,rfl⟩) (fun a r h=>Ffm_run a r h)
noncomputable def xCountString_ent : Ent:=⟨[false,false],entF2 (decBy str) (decBy (V.int .u8)) fun s c=>some (I (((Lib.countByte s c.toNat.toUInt8 : Nat) : Int)),[])⟩
theorem xCountString_F {s : Str} {c r : Int} (h : xCountString s c=some r) : xCountString_ent.F [str s,.int .u8 c]=some (I r,[]):=by
  cases h
  simp only [xCountString_ent,entF2,dec_ok str_inj,dec_ok u8_inj,Option.bind_some]
theorem xCountString_n : Extern.findNext Tryd.f147=none:=by kernel_rfl
theorem xCountString_x : Extern.find Tryd.f147=some Extern.BytealgCount.count:=by kernel_rfl
theorem xCountString_good {G : Go.Ln.Ground} : Good Tryd.prog G 147 xCountString_ent:=good_sc (g:=fun s c=>((Lib.countByte s c.toNat.toUInt8 : Nat) : Int)) Tryd.func147 rfl (by decide) xCountString_n xCountString_x fun s c w=>Lib.run_countString s c w
noncomputable def xIndexByteString_ent : Ent:=⟨[false,false],entF2 (decBy str) (decBy (V.int .u8)) fun s c=>some (I (Lib.indexByte s c.toNat.toUInt8),[])⟩
theorem xIndexByteString_F {s : Str} {c r : Int} (h : xIndexByteString s c=some r) : xIndexByteString_ent.F [str s,.int .u8 c]=some (I r,[]):=by
  cases h
  simp only [xIndexByteString_ent,entF2,dec_ok str_inj,dec_ok u8_inj,Option.bind_some]
theorem xIndexByteString_n : Extern.findNext Tryd.f162=none:=by kernel_rfl
theorem xIndexByteString_x : Extern.find Tryd.f162=some Extern.BytealgIndexByte.indexByte:=by kernel_rfl
theorem xIndexByteString_good {G : Go.Ln.Ground} : Good Tryd.prog G 162 xIndexByteString_ent:=good_sc (g:=fun s c=>Lib.indexByte s c.toNat.toUInt8) Tryd.func162 rfl (by decide) xIndexByteString_n xIndexByteString_x fun s c w=>Lib.run_indexByteString s c w
def Ffq_A : (Str × Int)→List V:=cA str (oA (V.int .u8))
def Ffq_R (r : Int) : V × List V:=(I (r),[])
noncomputable def Ffq_ent : Ent:=entT [false,false] Ffq_A Ffq_R fun x=>Ffq x.1 x.2
theorem Ffq_F {s_1 : Str} {c_2 : Int} {r} (h : Ffq s_1 c_2=some r) : (Ffq_ent).F (Ffq_A (s_1,c_2))=some (Ffq_R r):=entT_F (cA_inj str_inj (oA_inj (vint_inj (k:=.u8)))) h
noncomputable def Ffq_c : Code:=bodyOf Tryd.f154
noncomputable def Ffq_E : Env:=mkE Tryd.prog [(162,xIndexByteString_ent)]
def Ffq_Q (x : Str × Int) (r : Int) : St→Prop:=QF Ffq_E Tryd.f154 [false,false] (Ffq_A x) (Ffq_R r)
theorem Ffq_run (s_1 : Str) (c_2 : Int) (r : Int) (h : Ffq s_1 c_2=some r) : RunF Ffq_E Tryd.f154 [false,false] 0 (Ffq_A (s_1,c_2)) (Ffq_R r):=by
 show Run _ _ (Ffq_Q (s_1,c_2) r) [.code Ffq_c] _
 refine rin (n:=8) [(0,str (s_1)),(1,.int .u8 (c_2))] [] 1 (by kernel_rfl) (by kernel_rfl) (by kernel_rfl) rfl ?_
 unfold Ffq at h
 refine c0 8 [5,6] [str (s_1),.int .u8 (c_2)] 49 (by kernel_rfl) ?_
 obtain ⟨r3,hr3,h⟩:=bS h
 refine o 65 (I (r3)) rfl rfl (e_callV rfl rfl (call_P rfl rfl rfl (avS (shP rfl) (avS (shP rfl) (avN))) (xIndexByteString_F hr3) (.inr rfl) (bl_n) rfl rfl rfl)) ?_
 refine c0 2 [4] [I (r3)] 81 (by kernel_rfl) ?_
 obtain rfl:=Option.some.inj h
 exact s_ret rfl ⟨_,fin (vs:=[I (r3)]) rfl (absE (absorb_plain rfl) (absEN)) rfl (ou_f (ou_f (ou_n))),kl_n⟩
theorem Ffq_good {G : Go.Ln.Ground} : Good Tryd.prog G 154 Ffq_ent:=good_T (fnOf_good (gl_c xIndexByteString_good (gl_n))) agree_mk (Checked.mixed Tryd.checked) Tryd.func154 (n:=2) (m:=0) ⟨rfl,rfl,by decide⟩ (fun _=>⟨rfl,rfl⟩) (fun a r h=>Ffq_run a.1 a.2 r h)
def Ffp_A : (Str × Str)→List V:=cA str (oA str)
def Ffp_R (r : Int) : V × List V:=(I (r),[])
noncomputable def Ffp_ent : Ent:=entT [false,false] Ffp_A Ffp_R fun x=>Ffp x.1 x.2
theorem Ffp_F {s_1 : Str} {substr_2 : Str} {r} (h : Ffp s_1 substr_2=some r) : (Ffp_ent).F (Ffp_A (s_1,substr_2))=some (Ffp_R r):=entT_F (cA_inj str_inj (oA_inj str_inj)) h
noncomputable def Ffp_c : Code:=bodyOf Tryd.f148
noncomputable def Ffp_E : Env:=mkE Tryd.prog [(154,Ffq_ent)]
def Ffp_Q (x : Str × Str) (r : Int) : St→Prop:=QF Ffp_E Tryd.f148 [false,false] (Ffp_A x) (Ffp_R r)
theorem Ffp_run (s_1 : Str) (substr_2 : Str) (r : Int) (h : Ffp s_1 substr_2=some r) : RunF Ffp_E Tryd.f148 [false,false] 0 (Ffp_A (s_1,substr_2)) (Ffp_R r):=by
 show Run _ _ (Ffp_Q (s_1,substr_2) r) [.code Ffp_c] _
 refine rin (n:=143) [(0,str (s_1)),(1,str (substr_2))] [] 1 (by kernel_rfl) (by kernel_rfl) (by kernel_rfl) rfl ?_
 unfold Ffp at h
 refine c0 17 [5,19] [I ((len substr_2)),B (((len substr_2) == 0))] 113 (by kernel_rfl) ?_
 obtain ⟨u3,hu3,h⟩:=lJ h
 have j3 : Run Ffp_E 0 (Ffp_Q (s_1,substr_2) r) (.code (cR (cL (cL (cR (cR Ffp_c))))) :: .blk 0 :: .code (cR (cR (cR Ffp_c))) :: []) ⟨mkTm .dead 143 [(0,str (s_1)),(1,str (substr_2)),(5,I ((len substr_2))),(16,B (u3))],mkS (rtL [] 1),1⟩:=by
   refine sc h rfl rfl (fun h=>?_) (fun h=>?_)
   · refine c0 4 [4] [I (0)] 17 (by kernel_rfl) ?_
     obtain rfl:=Option.some.inj h
     exact s_ret rfl ⟨_,fin (vs:=[I (0)]) rfl (absE (absorb_plain rfl) (absEN)) rfl (ou_f (ou_f (ou_n))),kl_n⟩
   · refine c0 6 [24] [B (((len substr_2) == 1))] 49 (by kernel_rfl) ?_
     refine sc h rfl rfl (fun h=>?_) (fun h=>?_)
     · refine c0 4 [27,28] [str (s_1),str (substr_2)] 81 (by kernel_rfl) ?_
       obtain ⟨c4,hc4,h⟩:=bS h
       refine o 97 (.int .u8 ((c4.toNat : Int))) rfl rfl (e_index rfl rfl (i_str rfl rfl hc4)) ?_
       obtain ⟨r5,hr5,h⟩:=bS h
       refine o 113 (I (r5)) rfl rfl (e_callV rfl rfl (call_P rfl rfl rfl (avS (shP rfl) (avS (shP rfl) (avN))) (Ffq_F hr5) (.inr rfl) (bl_n) rfl rfl rfl)) ?_
       refine c0 2 [4] [I (r5)] 129 (by kernel_rfl) ?_
       obtain rfl:=Option.some.inj h
       exact s_ret rfl ⟨_,fin (vs:=[I (r5)]) rfl (absE (absorb_plain rfl) (absEN)) rfl (ou_f (ou_f (ou_n))),kl_n⟩
     · refine c0 8 [31] [B ((decide ((len substr_2) ≥ (len s_1))))] 129 (by kernel_rfl) ?_
       refine sc h rfl rfl (fun h=>?_) (fun h=>?_)
       · refine c0 4 [4] [I ((-1))] 145 (by kernel_rfl) ?_
         obtain rfl:=Option.some.inj h
         exact s_ret rfl ⟨_,fin (vs:=[I ((-1))]) rfl (absE (absorb_plain rfl) (absEN)) rfl (ou_f (ou_f (ou_n))),kl_n⟩
       · cases h
 replace h:=hu3
 clear hu3
 refine sp 19 h rfl (fun h=>?_) (fun h=>?_)
 · refine c0 6 [16] [B (true)] 193 (by kernel_rfl) ?_
   refine run_forget [0,1,5,16] [] [] rfl rfl rfl rfl ?_
   subst h
   exact j3
 · refine c0 6 [16] [B ((substr_2 == s_1))] 193 (by kernel_rfl) ?_
   refine run_forget [0,1,5,16] [] [] rfl rfl rfl rfl ?_
   subst h
   exact j3
theorem Ffp_good {G : Go.Ln.Ground} : Good Tryd.prog G 148 Ffp_ent:=good_T (fnOf_good (gl_c Ffq_good (gl_n))) agree_mk (Checked.mixed Tryd.checked) Tryd.func148 (n:=2) (m:=0) ⟨rfl,rfl,by decide⟩ (fun _=>⟨rfl,rfl⟩) (fun a r h=>Ffp_run a.1 a.2 r h)
def Ffci_A : (Str × Str)→List V:=cA str (oA str)
def Ffci_R (r : Int) : V × List V:=(I (r),[])
noncomputable def Ffci_ent : Ent:=entT [false,false] Ffci_A Ffci_R fun x=>Ffci x.1 x.2
theorem Ffci_F {s_1 : Str} {substr_2 : Str} {r} (h : Ffci s_1 substr_2=some r) : (Ffci_ent).F (Ffci_A (s_1,substr_2))=some (Ffci_R r):=entT_F (cA_inj str_inj (oA_inj str_inj)) h
noncomputable def Ffci_c : Code:=bodyOf Tryd.f142
noncomputable def Ffci_E : Env:=mkE Tryd.prog [(148,Ffp_ent)]
def Ffci_Q (x : Str × Str) (r : Int) : St→Prop:=QF Ffci_E Tryd.f142 [false,false] (Ffci_A x) (Ffci_R r)
theorem Ffci_run (s_1 : Str) (substr_2 : Str) (r : Int) (h : Ffci s_1 substr_2=some r) : RunF Ffci_E Tryd.f142 [false,false] 0 (Ffci_A (s_1,substr_2)) (Ffci_R r):=by
 show Run _ _ (Ffci_Q (s_1,substr_2) r) [.code Ffci_c] _
 refine rin (n:=8) [(0,str (s_1)),(1,str (substr_2))] [] 1 (by kernel_rfl) (by kernel_rfl) (by kernel_rfl) rfl ?_
 unfold Ffci at h
 refine c0 8 [5,6] [str (s_1),str (substr_2)] 49 (by kernel_rfl) ?_
 obtain ⟨r3,hr3,h⟩:=bS h
 refine o 65 (I (r3)) rfl rfl (e_callV rfl rfl (call_P rfl rfl rfl (avS (shP rfl) (avS (shP rfl) (avN))) (Ffp_F hr3) (.inr rfl) (bl_n) rfl rfl rfl)) ?_
 refine c0 2 [4] [I (r3)] 81 (by kernel_rfl) ?_
 obtain rfl:=Option.some.inj h
 exact s_ret rfl ⟨_,fin (vs:=[I (r3)]) rfl (absE (absorb_plain rfl) (absEN)) rfl (ou_f (ou_f (ou_n))),kl_n⟩
theorem Ffci_good {G : Go.Ln.Ground} : Good Tryd.prog G 142 Ffci_ent:=good_T (fnOf_good (gl_c Ffp_good (gl_n))) agree_mk (Checked.mixed Tryd.checked) Tryd.func142 (n:=2) (m:=0) ⟨rfl,rfl,by decide⟩ (fun _=>⟨rfl,rfl⟩) (fun a r h=>Ffci_run a.1 a.2 r h)
def Ffch_A : (Str × Str)→List V:=cA str (oA str)
def Ffch_R (r : Int) : V × List V:=(I (r),[])
noncomputable def Ffch_ent : Ent:=entT [false,false] Ffch_A Ffch_R fun x=>Ffch x.1 x.2
theorem Ffch_F {s_1 : Str} {substr_2 : Str} {r} (h : Ffch s_1 substr_2=some r) : (Ffch_ent).F (Ffch_A (s_1,substr_2))=some (Ffch_R r):=entT_F (cA_inj str_inj (oA_inj str_inj)) h
noncomputable def Ffch_c : Code:=bodyOf Tryd.f141
noncomputable def Ffch_E : Env:=mkE Tryd.prog [(147,xCountString_ent),(142,Ffci_ent)]
def Ffch_Q (x : Str × Str) (r : Int) : St→Prop:=QF Ffch_E Tryd.f141 [false,false] (Ffch_A x) (Ffch_R r)
theorem Ffch_la_run (s_1 : Str) (substr_2 : Str)  {Q : St→Prop} {K : List It} (hK : noD K=true) {x5 : Str × Int} {y : Int ⊕ Unit} (h : Ffch_la s_1 substr_2 x5=some y) : (∀ r',y=.inl r'→∀ st,Ffch_Q (s_1,substr_2) r' st→Q st)→(∀ u : Unit,y=.inr u→Run Ffch_E 0 Q K ⟨mkTm .dead 34 [],mkS (rtL [] 1),1⟩)→Run Ffch_E 0 Q (.code (cL (cL (cR (cR (cR (cR Ffch_c)))))) :: .lp (cL (cL (cR (cR (cR (cR Ffch_c)))))) :: .blk 0 :: K) ⟨mkTm .dead 34 [(0,str (x5.1)),(1,str (substr_2)),(5,I (x5.2))],mkS (rtL [] 1),1⟩:=by
 refine fix_ind (P:=fun (x5 : Str × Int) (y : Int ⊕ Unit)=>(∀ r',y=.inl r'→∀ st,Ffch_Q (s_1,substr_2) r' st→Q st)→(∀ u : Unit,y=.inr u→Run Ffch_E 0 Q K ⟨mkTm .dead 34 [],mkS (rtL [] 1),1⟩)→Run Ffch_E 0 Q (.code (cL (cL (cR (cR (cR (cR Ffch_c)))))) :: .lp (cL (cL (cR (cR (cR (cR Ffch_c)))))) :: .blk 0 :: K) ⟨mkTm .dead 34 [(0,str (x5.1)),(1,str (substr_2)),(5,I (x5.2))],mkS (rtL [] 1),1⟩) (Ffch_la_fin s_1 substr_2) ?_ h
 clear h y x5
 intro self ih x5 y h hr hn
 unfold Ffch_la_F at h
 refine c0 5 [20,21] [str (x5.1),str (substr_2)] 33 (by kernel_rfl) ?_
 obtain ⟨r6,hr6,h⟩:=bS h
 refine o 49 (I (r6)) rfl rfl (e_callV rfl rfl (call_P rfl rfl rfl (avS (shP rfl) (avS (shP rfl) (avN))) (Ffci_F hr6) (.inr rfl) (bl_n) rfl rfl rfl)) ?_
 refine c0 8 [6,24] [I (r6),B ((r6 == (-1)))] 97 (by kernel_rfl) ?_
 refine sc h rfl rfl (fun h=>?_) (fun h=>?_)
 · refine c0 5 [4] [I (x5.2)] 129 (by kernel_rfl) ?_
   exact s_ret rfl (hr _ (Option.some.inj h).symm _ ⟨_,fin (vs:=[I (x5.2)]) rfl (absE (absorb_plain rfl) (absEN)) rfl (ou_f (ou_f (ou_n))),kl_n⟩)
 · refine ad 1 rfl ?_
   refine c0 12 [5,28,32] [I ((w64 (x5.2 + 1))),str (x5.1),I ((w64 (r6 + (len substr_2))))] 225 (by kernel_rfl) ?_
   obtain ⟨s7,hs7,h⟩:=bS h
   refine o 241 (str (s7)) rfl rfl (e_slice rfl rfl rfl rfl (sl_str rfl rfl rfl hs7)) ?_
   refine c0 3 [0] [str (s7)] 257 (by kernel_rfl) ?_
   refine s_lp ?_
   refine run_forget [0,1,5] [] [] rfl rfl rfl rfl ?_
   exact ih _ _ h hr hn
theorem Ffch_run (s_1 : Str) (substr_2 : Str) (r : Int) (h : Ffch s_1 substr_2=some r) : RunF Ffch_E Tryd.f141 [false,false] 0 (Ffch_A (s_1,substr_2)) (Ffch_R r):=by
 show Run _ _ (Ffch_Q (s_1,substr_2) r) [.code Ffch_c] _
 refine rin (n:=34) [(0,str (s_1)),(1,str (substr_2))] [] 1 (by kernel_rfl) (by kernel_rfl) (by kernel_rfl) rfl ?_
 unfold Ffch at h
 refine c0 11 [9] [B (((len substr_2) == 0))] 65 (by kernel_rfl) ?_
 refine sc h rfl rfl (fun h=>?_) (fun h=>?_)
 · cases h
 · refine ad 1 rfl ?_
   refine c0 7 [15] [B (((len substr_2) == 1))] 113 (by kernel_rfl) ?_
   refine sc h rfl rfl (fun h=>?_) (fun h=>?_)
   · refine c0 4 [16,17] [str (s_1),str (substr_2)] 145 (by kernel_rfl) ?_
     obtain ⟨c3,hc3,h⟩:=bS h
     refine o 161 (.int .u8 ((c3.toNat : Int))) rfl rfl (e_index rfl rfl (i_str rfl rfl hc3)) ?_
     obtain ⟨r4,hr4,h⟩:=bS h
     refine o 177 (I (r4)) rfl rfl (e_callV rfl rfl (call_P rfl rfl rfl (avS (shP rfl) (avS (shP rfl) (avN))) (xCountString_F hr4) (.inr rfl) (bl_n) rfl rfl rfl)) ?_
     refine c0 2 [4] [I (r4)] 193 (by kernel_rfl) ?_
     obtain rfl:=Option.some.inj h
     exact s_ret rfl ⟨_,fin (vs:=[I (r4)]) rfl (absE (absorb_plain rfl) (absEN)) rfl (ou_f (ou_f (ou_n))),kl_n⟩
   · refine ad 1 rfl ?_
     refine c0 5 [5] [I (0)] 129 (by kernel_rfl) ?_
     obtain ⟨y8,hy8,hy81,hy82⟩:=bJ h
     refine s_loop rfl ?_
     refine run_forget [0,1,5] [] [] rfl rfl rfl rfl ?_
     refine Ffch_la_run s_1 substr_2 rfl hy8 (fun r' e st hq=>by rw [hy81 r' e] at hq; exact hq) (fun u8 hu=>?_)
     replace h:=hy82 u8 hu
     cases h
theorem Ffch_good {G : Go.Ln.Ground} : Good Tryd.prog G 141 Ffch_ent:=good_T (fnOf_good (gl_c xCountString_good (gl_c Ffci_good (gl_n)))) agree_mk (Checked.mixed Tryd.checked) Tryd.func141 (n:=2) (m:=0) ⟨rfl,rfl,by decide⟩ (fun _=>⟨rfl,rfl⟩) (fun a r h=>Ffch_run a.1 a.2 r h)
def Ffck_A : (Str × Str × Int × Int)→List V:=cA str (cA str (cA I (oA I)))
def Ffck_R (r : (List Str)) : V × List V:=(.usl 1 ((r).map str),[])
noncomputable def Ffck_ent : Ent:=entT [false,false,false,false] Ffck_A Ffck_R fun x=>Ffck x.1 x.2.1 x.2.2.1 x.2.2.2
theorem Ffck_F {s_1 : Str} {sep_2 : Str} {sepSave_3 : Int} {n_4 : Int} {r} (h : Ffck s_1 sep_2 sepSave_3 n_4=some r) : (Ffck_ent).F (Ffck_A (s_1,sep_2,sepSave_3,n_4))=some (Ffck_R r):=entT_F (cA_inj str_inj (cA_inj str_inj (cA_inj I_inj (oA_inj I_inj)))) h
noncomputable def Ffck_c : Code:=bodyOf Tryd.f130
noncomputable def Ffck_E : Env:=mkE Tryd.prog [(142,Ffci_ent),(141,Ffch_ent)]
def Ffck_Q (x : Str × Str × Int × Int) (r : (List Str)) : St→Prop:=QF Ffck_E Tryd.f130 [false,false,false,false] (Ffck_A x) (Ffck_R r)
theorem Ffck_la_run (s_1 : Str) (sep_2 : Str) (sepSave_3 : Int) (n_4 : Int) (u5 : Int) {Q : St→Prop} {K : List It} (hK : noD K=true) {x7 : Str × Int × (List Str)} {y : ((List Str)) ⊕ (Str × Int × (List Str))} (h : Ffck_la s_1 sep_2 sepSave_3 n_4 u5 x7=some y) : (∀ r',y=.inl r'→∀ st,Ffck_Q (s_1,sep_2,sepSave_3,n_4) r' st→Q st)→(∀ u : Str × Int × (List Str),y=.inr u→Run Ffck_E 0 Q K ⟨mkTm .dead 66 [(0,str (u.1)),(9,.hs 1 0 [] 1 0 ((u.2.2).map str).length),(10,I (u.2.1))],mkS (rtL [⟨0,1,(u.2.2).map str⟩] 1),2⟩)→Run Ffck_E 0 Q (.code (cL (cL (cL (cR (cR (cR (cR (cR (cR (cR (cR Ffck_c))))))))))) :: .lp (cL (cL (cL (cR (cR (cR (cR (cR (cR (cR (cR Ffck_c))))))))))) :: .blk 0 :: K) ⟨mkTm .dead 66 [(0,str (x7.1)),(1,str (sep_2)),(2,I (sepSave_3)),(3,I ((w64 ((if (w64 ((len s_1) + 1)) < u5 then (w64 ((len s_1) + 1)) else u5) - 1)))),(9,.hs 1 0 [] 1 0 ((x7.2.2).map str).length),(10,I (x7.2.1))],mkS (rtL [⟨0,1,(x7.2.2).map str⟩] 1),2⟩:=by
 refine fix_ind (P:=fun (x7 : Str × Int × (List Str)) (y : ((List Str)) ⊕ (Str × Int × (List Str)))=>(∀ r',y=.inl r'→∀ st,Ffck_Q (s_1,sep_2,sepSave_3,n_4) r' st→Q st)→(∀ u : Str × Int × (List Str),y=.inr u→Run Ffck_E 0 Q K ⟨mkTm .dead 66 [(0,str (u.1)),(9,.hs 1 0 [] 1 0 ((u.2.2).map str).length),(10,I (u.2.1))],mkS (rtL [⟨0,1,(u.2.2).map str⟩] 1),2⟩)→Run Ffck_E 0 Q (.code (cL (cL (cL (cR (cR (cR (cR (cR (cR (cR (cR Ffck_c))))))))))) :: .lp (cL (cL (cL (cR (cR (cR (cR (cR (cR (cR (cR Ffck_c))))))))))) :: .blk 0 :: K) ⟨mkTm .dead 66 [(0,str (x7.1)),(1,str (sep_2)),(2,I (sepSave_3)),(3,I ((w64 ((if (w64 ((len s_1) + 1)) < u5 then (w64 ((len s_1) + 1)) else u5) - 1)))),(9,.hs 1 0 [] 1 0 ((x7.2.2).map str).length),(10,I (x7.2.1))],mkS (rtL [⟨0,1,(x7.2.2).map str⟩] 1),2⟩) (Ffck_la_fin s_1 sep_2 sepSave_3 n_4 u5) ?_ h
 clear h y x7
 intro self ih x7 y h hr hn
 unfold Ffck_la_F at h
 refine c0 7 [36] [B ((decide (x7.2.1 < (w64 ((if (w64 ((len s_1) + 1)) < u5 then (w64 ((len s_1) + 1)) else u5) - 1)))))] 50 (by kernel_rfl) ?_
 refine sc h rfl rfl (fun h=>?_) (fun h=>?_)
 · refine ad 1 rfl ?_
   refine c0 5 [37,38] [str (x7.1),str (sep_2)] 82 (by kernel_rfl) ?_
   obtain ⟨r8,hr8,h⟩:=bS h
   refine o 98 (I (r8)) rfl rfl (e_callV rfl rfl (call_P rfl rfl rfl (avS (shP rfl) (avS (shP rfl) (avN))) (Ffci_F hr8) (.inr rfl) (bl_n) rfl rfl rfl)) ?_
   refine c0 8 [11,41] [I (r8),B ((decide (r8 < 0)))] 146 (by kernel_rfl) ?_
   refine sc h rfl rfl (fun h=>?_) (fun h=>?_)
   · refine ad 1 rfl ?_
     refine run_forget [0,9,10] [1] [⟨0,1,(x7.2.2).map str⟩] rfl rfl rfl hK ?_
     exact hn _ (Option.some.inj h).symm
   · refine ad 1 rfl ?_
     refine c0 8 [42,43,44,47] [.hs 1 0 [] 1 0 ((x7.2.2).map str).length,I (x7.2.1),str (x7.1),I ((w64 (r8 + sepSave_3)))] 242 (by kernel_rfl) ?_
     obtain ⟨s9,hs9,h⟩:=bS h
     refine o 258 (str (s9)) rfl rfl (e_slice rfl rfl rfl rfl (sl_str rfl rfl rfl hs9)) ?_
     obtain ⟨e10,he10,h⟩:=bS h
     refine o 274 (.hp 1 0 [] 1 (0 + Int.toNat (x7.2.1)) 0) rfl rfl (e_indexAddr rfl rfl rfl (ix_hsM (f:=str) (xs:=x7.2.2) rfl rfl rfl he10)) ?_
     refine o0 290 rfl rfl (e_st rfl rfl (st_at (path:=[]) (pl:=true) (e':=str (s9)) (es2':=((setI x7.2.2 x7.2.1 s9)).map str) rfl (absorb_plain rfl) rfl rfl rfl (ra_n) (get_map (f:=str) (xs:=x7.2.2) he10) rfl rfl rfl (set_map (f:=str) (xs:=x7.2.2) (y:=s9)) (sr_n) 0 rfl)) ?_
     try rw [← len_setM (f:=str) (xs:=x7.2.2) (i:=x7.2.1) (z:=s9)]
     refine c0 8 [50,54] [str (x7.1),I ((w64 (r8 + (len sep_2))))] 370 (by kernel_rfl) ?_
     obtain ⟨s11,hs11,h⟩:=bS h
     refine o 386 (str (s11)) rfl rfl (e_slice rfl rfl rfl rfl (sl_str rfl rfl rfl hs11)) ?_
     refine c0 8 [0,10] [str (s11),I ((w64 (x7.2.1 + 1)))] 450 (by kernel_rfl) ?_
     refine s_lp ?_
     refine run_forget [0,1,2,3,9,10] [1] [⟨0,1,((setI x7.2.2 x7.2.1 s9)).map str⟩] rfl rfl rfl rfl ?_
     exact ih _ _ h hr hn
 · refine ad 1 rfl ?_
   refine run_forget [0,9,10] [1] [⟨0,1,(x7.2.2).map str⟩] rfl rfl rfl hK ?_
   exact hn _ (Option.some.inj h).symm
theorem Ffck_run (s_1 : Str) (sep_2 : Str) (sepSave_3 : Int) (n_4 : Int) (r : (List Str)) (h : Ffck s_1 sep_2 sepSave_3 n_4=some r) : RunF Ffck_E Tryd.f130 [false,false,false,false] 0 (Ffck_A (s_1,sep_2,sepSave_3,n_4)) (Ffck_R r):=by
 show Run _ _ (Ffck_Q (s_1,sep_2,sepSave_3,n_4) r) [.code Ffck_c] _
 refine rin (n:=66) [(0,str (s_1)),(1,str (sep_2)),(2,I (sepSave_3)),(3,I (n_4))] [] 1 (by kernel_rfl) (by kernel_rfl) (by kernel_rfl) rfl ?_
 unfold Ffck at h
 refine c0 10 [13] [B ((n_4 == 0))] 49 (by kernel_rfl) ?_
 refine sc h rfl rfl (fun h=>?_) (fun h=>?_)
 · refine c0 4 [8] [.isl true []] 65 (by kernel_rfl) ?_
   refine run_own 8 0 1 81 (.hs 65 0 [] 1 0 0) rfl rfl rfl rfl rfl ?_
   obtain rfl:=Option.some.inj h
   exact s_ret rfl ⟨_,fin (vs:=[.hs 65 0 [] 1 0 0]) rfl (absE (abs1 rfl (abs_hs rfl rfl)) (absEN)) rfl (ou_f (ou_f (ou_f (ou_f (ou_n))))),kl_n⟩
 · refine ad 1 rfl ?_
   refine c0 6 [15] [B ((sep_2 == ([] : Str)))] 81 (by kernel_rfl) ?_
   refine sc h rfl rfl (fun h=>?_) (fun h=>?_)
   · cases h
   · refine ad 1 rfl ?_
     refine c0 6 [20] [B ((decide (n_4 < 0)))] 113 (by kernel_rfl) ?_
     obtain ⟨y5,hy5,hy51,hy52⟩:=bJ h
     have j5 : ∀ u5,y5=.inr u5→Run Ffck_E 0 (Ffck_Q (s_1,sep_2,sepSave_3,n_4) r) (.code (cR (cR (cR (cR Ffck_c)))) :: []) ⟨mkTm .dead 66 [(0,str (s_1)),(1,str (sep_2)),(2,I (sepSave_3)),(3,I (u5))],mkS (rtL [] 1),1⟩:=by
       intro u5 hu
       replace h:=hy52 u5 hu
       refine c0 12 [3,30] [I ((if (w64 ((len s_1) + 1)) < u5 then (w64 ((len s_1) + 1)) else u5)),I ((if (w64 ((len s_1) + 1)) < u5 then (w64 ((len s_1) + 1)) else u5))] 113 (by kernel_rfl) ?_
       obtain ⟨m6,hm6,h⟩:=bS h
       refine o 129 (.hs 113 0 [] 1 0 ((m6).map str).length) rfl rfl (e_makeSlice rfl rfl (ms_mkM (f:=str) rfl rfl rfl (by decide) hm6 rfl)) ?_
       refine c0 14 [3,9,10] [I ((w64 ((if (w64 ((len s_1) + 1)) < u5 then (w64 ((len s_1) + 1)) else u5) - 1))),.hs 113 0 [] 1 0 ((m6).map str).length,I (0)] 209 (by kernel_rfl) ?_
       obtain ⟨y12,hy12,hy121,hy122⟩:=bJ h
       refine s_loop rfl ?_
       refine run_forget [0,1,2,3,9,10] [113] [⟨0,1,(m6).map str⟩] rfl rfl rfl rfl ?_
       refine Ffck_la_run s_1 sep_2 sepSave_3 n_4 u5 rfl hy12 (fun r' e st hq=>by rw [hy121 r' e] at hq; exact hq) (fun u12 hu=>?_)
       replace h:=hy122 u12 hu
       refine c0 5 [58,59,60] [.hs 1 0 [] 1 0 ((u12.2.2).map str).length,I (u12.2.1),str (u12.1)] 50 (by kernel_rfl) ?_
       obtain ⟨e13,he13,h⟩:=bS h
       refine o 66 (.hp 1 0 [] 1 (0 + Int.toNat (u12.2.1)) 0) rfl rfl (e_indexAddr rfl rfl rfl (ix_hsM (f:=str) (xs:=u12.2.2) rfl rfl rfl he13)) ?_
       refine o0 82 rfl rfl (e_st rfl rfl (st_at (path:=[]) (pl:=true) (e':=str (u12.1)) (es2':=((setI u12.2.2 u12.2.1 u12.1)).map str) rfl (absorb_plain rfl) rfl rfl rfl (ra_n) (get_map (f:=str) (xs:=u12.2.2) he13) rfl rfl rfl (set_map (f:=str) (xs:=u12.2.2) (y:=u12.1)) (sr_n) 0 rfl)) ?_
       try rw [← len_setM (f:=str) (xs:=u12.2.2) (i:=u12.2.1) (z:=u12.1)]
       refine c0 6 [62,64] [.hs 1 0 [] 1 0 (((setI u12.2.2 u12.2.1 u12.1)).map str).length,I ((w64 (u12.2.1 + 1)))] 130 (by kernel_rfl) ?_
       obtain ⟨s14,hs14,h⟩:=bS h
       refine o 146 (.hs 1 0 [] 1 (0 + Int.toNat (0)) (Int.toNat ((w64 (u12.2.1 + 1))) - Int.toNat (0))) rfl rfl (e_slice rfl rfl rfl rfl (sl_hsM (f:=str) (xs:=(setI u12.2.2 u12.2.1 u12.1)) rfl rfl rfl rfl rfl hs14)) ?_
       refine c0 2 [8] [.hs 1 0 [] 1 (0 + Int.toNat (0)) (Int.toNat ((w64 (u12.2.1 + 1))) - Int.toNat (0))] 162 (by kernel_rfl) ?_
       obtain ⟨p15,hp15,h⟩:=bS h
       obtain rfl:=Option.some.inj h
       exact s_ret rfl ⟨_,fin (vs:=[.hs 1 0 [] 1 (0 + Int.toNat (0)) (Int.toNat ((w64 (u12.2.1 + 1))) - Int.toNat (0))]) rfl (absE (abs1 rfl (abs_pt (path:=[]) (f:=str) (xs:=(setI u12.2.2 u12.2.1 u12.1)) rfl rfl (ra_n) hp15 rfl (to_n))) (absEN)) rfl (ou_f (ou_f (ou_f (ou_f (ou_n))))),kl_n⟩
     have r5 : ∀ r',y5=.inl r'→∀ st,Ffck_Q (s_1,sep_2,sepSave_3,n_4) r' st→(Ffck_Q (s_1,sep_2,sepSave_3,n_4) r) st:=fun r' e st hq=>by rw [hy51 r' e] at hq; exact hq
     replace h:=hy5
     refine sc h rfl rfl (fun h=>?_) (fun h=>?_)
     · refine c0 3 [21,22] [str (s_1),str (sep_2)] 145 (by kernel_rfl) ?_
       obtain ⟨r16,hr16,h⟩:=bS h
       refine o 161 (I (r16)) rfl rfl (e_callV rfl rfl (call_P rfl rfl rfl (avS (shP rfl) (avS (shP rfl) (avN))) (Ffch_F hr16) (.inr rfl) (bl_n) rfl rfl rfl)) ?_
       refine c0 3 [3] [I ((w64 (r16 + 1)))] 193 (by kernel_rfl) ?_
       refine run_forget [0,1,2,3] [] [] rfl rfl rfl rfl ?_
       exact j5 _ (Option.some.inj h).symm
     · refine ad 1 rfl ?_
       refine run_forget [0,1,2,3] [] [] rfl rfl rfl rfl ?_
       exact j5 _ (Option.some.inj h).symm
theorem Ffck_good {G : Go.Ln.Ground} : Good Tryd.prog G 130 Ffck_ent:=good_T (fnOf_good (gl_c Ffci_good (gl_c Ffch_good (gl_n)))) agree_mk (Checked.mixed Tryd.checked) Tryd.func130 (n:=4) (m:=0) ⟨rfl,rfl,by decide⟩ (fun _=>⟨rfl,rfl⟩) (fun a r h=>Ffck_run a.1 a.2.1 a.2.2.1 a.2.2.2 r h)
def Ffcj_A : (Str × Str)→List V:=cA str (oA str)
def Ffcj_R (r : (List Str)) : V × List V:=(.usl 1 ((r).map str),[])
noncomputable def Ffcj_ent : Ent:=entT [false,false] Ffcj_A Ffcj_R fun x=>Ffcj x.1 x.2
theorem Ffcj_F {s_1 : Str} {sep_2 : Str} {r} (h : Ffcj s_1 sep_2=some r) : (Ffcj_ent).F (Ffcj_A (s_1,sep_2))=some (Ffcj_R r):=entT_F (cA_inj str_inj (oA_inj str_inj)) h
noncomputable def Ffcj_c : Code:=bodyOf Tryd.f109
noncomputable def Ffcj_E : Env:=mkE Tryd.prog [(130,Ffck_ent)]
def Ffcj_Q (x : Str × Str) (r : (List Str)) : St→Prop:=QF Ffcj_E Tryd.f109 [false,false] (Ffcj_A x) (Ffcj_R r)
theorem Ffcj_run (s_1 : Str) (sep_2 : Str) (r : (List Str)) (h : Ffcj s_1 sep_2=some r) : RunF Ffcj_E Tryd.f109 [false,false] 0 (Ffcj_A (s_1,sep_2)) (Ffcj_R r):=by
 show Run _ _ (Ffcj_Q (s_1,sep_2) r) [.code Ffcj_c] _
 refine rin (n:=8) [(0,str (s_1)),(1,str (sep_2))] [] 1 (by kernel_rfl) (by kernel_rfl) (by kernel_rfl) rfl ?_
 unfold Ffcj at h
 refine c0 8 [5,6] [str (s_1),str (sep_2)] 49 (by kernel_rfl) ?_
 obtain ⟨r3,hr3,h⟩:=bS h
 refine o 65 (.hs 49 0 [] 1 0 ((r3).map str).length) rfl rfl (e_callV rfl rfl (call_P rfl rfl rfl (avS (shP rfl) (avS (shP rfl) (avS (shP rfl) (avS (shP rfl) (avN))))) (Ffck_F hr3) (.inr rfl) (bl_n) rfl rfl rfl)) ?_
 refine c0 2 [4] [.hs 49 0 [] 1 0 ((r3).map str).length] 81 (by kernel_rfl) ?_
 obtain rfl:=Option.some.inj h
 exact s_ret rfl ⟨_,fin (vs:=[.hs 49 0 [] 1 0 ((r3).map str).length]) rfl (absE (abs1 rfl (abs_hs rfl rfl)) (absEN)) rfl (ou_f (ou_f (ou_n))),kl_n⟩
theorem Ffcj_good {G : Go.Ln.Ground} : Good Tryd.prog G 109 Ffcj_ent:=good_T (fnOf_good (gl_c Ffck_good (gl_n))) agree_mk (Checked.mixed Tryd.checked) Tryd.func109 (n:=2) (m:=0) ⟨rfl,rfl,by decide⟩ (fun _=>⟨rfl,rfl⟩) (fun a r h=>Ffcj_run a.1 a.2 r h)
def Ffbg_A : ((List Str) × Str)→List V:=cA (slE str) (oA str)
def Ffbg_R (r : Int) : V × List V:=(I (r),[])
noncomputable def Ffbg_ent : Ent:=entT [false,false] Ffbg_A Ffbg_R fun x=>Ffbg x.1 x.2
theorem Ffbg_F {s_1 : List Str} {v_2 : Str} {r} (h : Ffbg s_1 v_2=some r) : (Ffbg_ent).F (Ffbg_A (s_1,v_2))=some (Ffbg_R r):=entT_F (cA_inj (isl_inj str_inj) (oA_inj str_inj)) h
noncomputable def Ffbg_c : Code:=bodyOf Tryd.f110
noncomputable def Ffbg_E : Env:=mkE Tryd.prog []
def Ffbg_Q (x : (List Str) × Str) (r : Int) : St→Prop:=QF Ffbg_E Tryd.f110 [false,false] (Ffbg_A x) (Ffbg_R r)
theorem Ffbg_la_run (s_1 : List Str) (v_2 : Str)  {Q : St→Prop} {K : List It} (hK : noD K=true) {x3 : Int} {y : Int ⊕ Unit} (h : Ffbg_la s_1 v_2 x3=some y) : (∀ r',y=.inl r'→∀ st,Ffbg_Q (s_1,v_2) r' st→Q st)→(∀ u : Unit,y=.inr u→Run Ffbg_E 0 Q K ⟨mkTm .dead 19 [],mkS (rtL [] 1),1⟩)→Run Ffbg_E 0 Q (.code (cL (cL (cR (cL (cR Ffbg_c))))) :: .lp (cL (cL (cR (cL (cR Ffbg_c))))) :: .blk 0 :: K) ⟨mkTm .dead 19 [(0,.isl false ((s_1).map str)),(1,str (v_2)),(7,I ((len s_1))),(8,I (x3))],mkS (rtL [] 1),1⟩:=by
 refine fix_ind (P:=fun (x3 : Int) (y : Int ⊕ Unit)=>(∀ r',y=.inl r'→∀ st,Ffbg_Q (s_1,v_2) r' st→Q st)→(∀ u : Unit,y=.inr u→Run Ffbg_E 0 Q K ⟨mkTm .dead 19 [],mkS (rtL [] 1),1⟩)→Run Ffbg_E 0 Q (.code (cL (cL (cR (cL (cR Ffbg_c))))) :: .lp (cL (cL (cR (cL (cR Ffbg_c))))) :: .blk 0 :: K) ⟨mkTm .dead 19 [(0,.isl false ((s_1).map str)),(1,str (v_2)),(7,I ((len s_1))),(8,I (x3))],mkS (rtL [] 1),1⟩) (Ffbg_la_fin s_1 v_2) ?_ h
 clear h y x3
 intro self ih x3 y h hr hn
 unfold Ffbg_la_F at h
 refine c0 5 [9] [B ((decide (x3 < (len s_1))))] 17 (by kernel_rfl) ?_
 refine sc h rfl rfl (fun h=>?_) (fun h=>?_)
 · refine ad 1 rfl ?_
   refine c0 12 [5,11,12,13] [I (x3),str (v_2),.isl false ((s_1).map str),I (x3)] 97 (by kernel_rfl) ?_
   obtain ⟨e4,he4,h⟩:=bS h
   refine o 113 (.iptr (str (e4)) 0) rfl rfl (e_indexAddr rfl rfl rfl (ix_islE rfl rfl rfl rfl he4)) ?_
   refine c0 3 [16] [B ((v_2 == e4))] 145 (by kernel_rfl) ?_
   refine sc h rfl rfl (fun h=>?_) (fun h=>?_)
   · refine c0 5 [4] [I (x3)] 177 (by kernel_rfl) ?_
     exact s_ret rfl (hr _ (Option.some.inj h).symm _ ⟨_,fin (vs:=[I (x3)]) rfl (absE (absorb_plain rfl) (absEN)) rfl (ou_f (ou_f (ou_n))),kl_n⟩)
   · refine ad 1 rfl ?_
     refine c0 5 [8] [I ((w64 (x3 + 1)))] 177 (by kernel_rfl) ?_
     refine s_lp ?_
     refine run_forget [0,1,7,8] [] [] rfl rfl rfl rfl ?_
     exact ih _ _ h hr hn
 · refine ad 1 rfl ?_
   refine run_forget [] [] [] rfl rfl rfl hK ?_
   exact hn _ (Option.some.inj h).symm
theorem Ffbg_run (s_1 : List Str) (v_2 : Str) (r : Int) (h : Ffbg s_1 v_2=some r) : RunF Ffbg_E Tryd.f110 [false,false] 0 (Ffbg_A (s_1,v_2)) (Ffbg_R r):=by
 show Run _ _ (Ffbg_Q (s_1,v_2) r) [.code Ffbg_c] _
 refine rin (n:=19) [(0,.isl false ((s_1).map str)),(1,str (v_2))] [] 1 (by kernel_rfl) (by kernel_rfl) (by kernel_rfl) rfl ?_
 unfold Ffbg at h
 refine c0 8 [6] [.isl false ((s_1).map str)] 33 (by kernel_rfl) ?_
 refine o 49 (I ((len s_1))) rfl rfl (e_len rfl rfl rfl (l_isl rfl)) ?_
 refine c0 3 [8] [I (0)] 65 (by kernel_rfl) ?_
 obtain ⟨y5,hy5,hy51,hy52⟩:=bJ h
 refine s_loop rfl ?_
 refine run_forget [0,1,7,8] [] [] rfl rfl rfl rfl ?_
 refine Ffbg_la_run s_1 v_2 rfl hy5 (fun r' e st hq=>by rw [hy51 r' e] at hq; exact hq) (fun u5 hu=>?_)
 replace h:=hy52 u5 hu
 refine c0 4 [4] [I ((-1))] 17 (by kernel_rfl) ?_
 obtain rfl:=Option.some.inj h
 exact s_ret rfl ⟨_,fin (vs:=[I ((-1))]) rfl (absE (absorb_plain rfl) (absEN)) rfl (ou_f (ou_f (ou_n))),kl_n⟩
theorem Ffbg_good {G : Go.Ln.Ground} : Good Tryd.prog G 110 Ffbg_ent:=good_T (fnOf_good (gl_n)) agree_mk (Checked.mixed Tryd.checked) Tryd.func110 (n:=2) (m:=0) ⟨rfl,rfl,by decide⟩ (fun _=>⟨rfl,rfl⟩) (fun a r h=>Ffbg_run a.1 a.2 r h)
def Ffbe_A : ((List Str) × Str)→List V:=cA (slE str) (oA str)
def Ffbe_R (r : Bool) : V × List V:=(B (r),[])
noncomputable def Ffbe_ent : Ent:=entT [false,false] Ffbe_A Ffbe_R fun x=>Ffbe x.1 x.2
theorem Ffbe_F {s_1 : List Str} {v_2 : Str} {r} (h : Ffbe s_1 v_2=some r) : (Ffbe_ent).F (Ffbe_A (s_1,v_2))=some (Ffbe_R r):=entT_F (cA_inj (isl_inj str_inj) (oA_inj str_inj)) h
noncomputable def Ffbe_c : Code:=bodyOf Tryd.f90
noncomputable def Ffbe_E : Env:=mkE Tryd.prog [(110,Ffbg_ent)]
def Ffbe_Q (x : (List Str) × Str) (r : Bool) : St→Prop:=QF Ffbe_E Tryd.f90 [false,false] (Ffbe_A x) (Ffbe_R r)
theorem Ffbe_run (s_1 : List Str) (v_2 : Str) (r : Bool) (h : Ffbe s_1 v_2=some r) : RunF Ffbe_E Tryd.f90 [false,false] 0 (Ffbe_A (s_1,v_2)) (Ffbe_R r):=by
 show Run _ _ (Ffbe_Q (s_1,v_2) r) [.code Ffbe_c] _
 refine rin (n:=9) [(0,.isl false ((s_1).map str)),(1,str (v_2))] [] 1 (by kernel_rfl) (by kernel_rfl) (by kernel_rfl) rfl ?_
 unfold Ffbe at h
 refine c0 8 [5,6] [.isl false ((s_1).map str),str (v_2)] 49 (by kernel_rfl) ?_
 obtain ⟨r3,hr3,h⟩:=bS h
 refine o 65 (I (r3)) rfl rfl (e_callV rfl rfl (call_P rfl rfl rfl (avS (shP rfl) (avS (shP rfl) (avN))) (Ffbg_F hr3) (.inr rfl) (bl_n) rfl rfl rfl)) ?_
 refine c0 3 [4] [B ((decide (r3 ≥ 0)))] 97 (by kernel_rfl) ?_
 obtain rfl:=Option.some.inj h
 exact s_ret rfl ⟨_,fin (vs:=[B ((decide (r3 ≥ 0)))]) rfl (absE (absorb_plain rfl) (absEN)) rfl (ou_f (ou_f (ou_n))),kl_n⟩
theorem Ffbe_good {G : Go.Ln.Ground} : Good Tryd.prog G 90 Ffbe_ent:=good_T (fnOf_good (gl_c Ffbg_good (gl_n))) agree_mk (Checked.mixed Tryd.checked) Tryd.func90 (n:=2) (m:=0) ⟨rfl,rfl,by decide⟩ (fun _=>⟨rfl,rfl⟩) (fun a r h=>Ffbe_run a.1 a.2 r h)
def Ffh_A : Str→List V:=oA str
def Ffh_R (r : Bool) : V × List V:=(B (r),[])
noncomputable def Ffh_ent : Ent:=entT [false] Ffh_A Ffh_R fun x=>Ffh x
theorem Ffh_F {s_1 : Str} {r} (h : Ffh s_1=some r) : (Ffh_ent).F (Ffh_A s_1)=some (Ffh_R r):=entT_F (oA_inj str_inj) h
noncomputable def Ffh_c : Code:=bodyOf Tryd.f89
noncomputable def Ffh_E : Env:=mkE Tryd.prog [(55,Ffo_ent),(109,Ffcj_ent),(90,Ffbe_ent)]
def Ffh_Q (x : Str) (r : Bool) : St→Prop:=QF Ffh_E Tryd.f89 [false] (Ffh_A x) (Ffh_R r)
theorem Ffh_la_run (s_1 : Str)  {Q : St→Prop} {K : List It} (hK : noD K=true) {x4 : Int} {y : Bool ⊕ Unit} (h : Ffh_la s_1 x4=some y) : (∀ r',y=.inl r'→∀ st,Ffh_Q s_1 r' st→Q st)→(∀ u : Unit,y=.inr u→Run Ffh_E 0 Q K ⟨mkTm .dead 46 [(0,str (s_1))],mkS (rtL [] 1),1⟩)→Run Ffh_E 0 Q (.code (cL (cL (cR (cL (cR (cR Ffh_c)))))) :: .lp (cL (cL (cR (cL (cR (cR Ffh_c)))))) :: .blk 0 :: K) ⟨mkTm .dead 46 [(0,str (s_1)),(20,I ((len s_1))),(21,I (x4))],mkS (rtL [] 1),1⟩:=by
 refine fix_ind (P:=fun (x4 : Int) (y : Bool ⊕ Unit)=>(∀ r',y=.inl r'→∀ st,Ffh_Q s_1 r' st→Q st)→(∀ u : Unit,y=.inr u→Run Ffh_E 0 Q K ⟨mkTm .dead 46 [(0,str (s_1))],mkS (rtL [] 1),1⟩)→Run Ffh_E 0 Q (.code (cL (cL (cR (cL (cR (cR Ffh_c)))))) :: .lp (cL (cL (cR (cL (cR (cR Ffh_c)))))) :: .blk 0 :: K) ⟨mkTm .dead 46 [(0,str (s_1)),(20,I ((len s_1))),(21,I (x4))],mkS (rtL [] 1),1⟩) (Ffh_la_fin s_1) ?_ h
 clear h y x4
 intro self ih x4 y h hr hn
 unfold Ffh_la_F at h
 refine c0 5 [22] [B ((decide (x4 < (len s_1))))] 17 (by kernel_rfl) ?_
 refine sc h rfl rfl (fun h=>?_) (fun h=>?_)
 · refine ad 1 rfl ?_
   refine c0 11 [24,25] [str (s_1),I (x4)] 81 (by kernel_rfl) ?_
   obtain ⟨c5,hc5,h⟩:=bS h
   refine o 97 (.int .u8 ((c5.toNat : Int))) rfl rfl (e_index rfl rfl (i_str rfl rfl hc5)) ?_
   refine c0 7 [4,29] [.int .u8 ((c5.toNat : Int)),B ((decide ((c5.toNat : Int) < 97)))] 161 (by kernel_rfl) ?_
   obtain ⟨u6,hu6,h⟩:=lJ h
   have j6 : Run Ffh_E 0 Q (.code (cR (cR (cR (cL (cL (cR (cR (cL (cL (cR (cL (cR (cR Ffh_c))))))))))))) :: .blk 1 :: .code (cR (cR (cR (cL (cL (cR (cL (cR (cR Ffh_c))))))))) :: .lp (cL (cL (cR (cL (cR (cR Ffh_c)))))) :: .blk 0 :: K) ⟨mkTm .dead 46 [(0,str (s_1)),(20,I ((len s_1))),(21,I (x4)),(40,B (u6))],mkS (rtL [] 1),1⟩:=by
     refine sc h rfl rfl (fun h=>?_) (fun h=>?_)
     · refine c0 4 [2] [B (false)] 17 (by kernel_rfl) ?_
       exact s_ret rfl (hr _ (Option.some.inj h).symm _ ⟨_,fin (vs:=[B (false)]) rfl (absE (absorb_plain rfl) (absEN)) rfl (ou_f (ou_n)),kl_n⟩)
     · refine ad 1 rfl ?_
       refine c0 5 [21] [I ((w64 (x4 + 1)))] 33 (by kernel_rfl) ?_
       refine s_lp ?_
       refine run_forget [0,20,21] [] [] rfl rfl rfl rfl ?_
       exact ih _ _ h hr hn
   replace h:=hu6
   clear hu6
   refine sp 29 h rfl (fun h=>?_) (fun h=>?_)
   · refine c0 7 [33,36] [B (true),B ((decide ((c5.toNat : Int) < 48)))] 273 (by kernel_rfl) ?_
     obtain ⟨u7,hu7,h⟩:=lJ h
     have j7 : Run Ffh_E 0 Q (.code (cR (cR (cR (cL (cL (cR (cR (cL (cL (cR (cL (cR (cR Ffh_c))))))))))))) :: .blk 1 :: .code (cR (cR (cR (cL (cL (cR (cL (cR (cR Ffh_c))))))))) :: .lp (cL (cL (cR (cL (cR (cR Ffh_c)))))) :: .blk 0 :: K) ⟨mkTm .dead 46 [(0,str (s_1)),(20,I ((len s_1))),(21,I (x4)),(40,B (u7))],mkS (rtL [] 1),1⟩:=by
       refine run_forget [0,20,21,40] [] [] rfl rfl rfl rfl ?_
       subst h
       exact j6
     replace h:=hu7
     clear hu7
     refine sp 36 h rfl (fun h=>?_) (fun h=>?_)
     · refine c0 5 [40] [B (true)] 337 (by kernel_rfl) ?_
       refine run_forget [0,20,21,40] [] [] rfl rfl rfl rfl ?_
       subst h
       exact j7
     · refine c0 5 [40] [B ((decide ((c5.toNat : Int) > 57)))] 337 (by kernel_rfl) ?_
       refine run_forget [0,20,21,40] [] [] rfl rfl rfl rfl ?_
       subst h
       exact j7
   · refine c0 4 [33] [B ((decide ((c5.toNat : Int) > 122)))] 225 (by kernel_rfl) ?_
     obtain ⟨u8,hu8,h⟩:=lJ h
     have j8 : Run Ffh_E 0 Q (.code (cR (cR (cR (cL (cL (cR (cR (cL (cL (cR (cL (cR (cR Ffh_c))))))))))))) :: .blk 1 :: .code (cR (cR (cR (cL (cL (cR (cL (cR (cR Ffh_c))))))))) :: .lp (cL (cL (cR (cL (cR (cR Ffh_c)))))) :: .blk 0 :: K) ⟨mkTm .dead 46 [(0,str (s_1)),(20,I ((len s_1))),(21,I (x4)),(40,B (u8))],mkS (rtL [] 1),1⟩:=by
       refine run_forget [0,20,21,40] [] [] rfl rfl rfl rfl ?_
       subst h
       exact j6
     replace h:=hu8
     clear hu8
     refine sp 33 h rfl (fun h=>?_) (fun h=>?_)
     · refine c0 3 [36] [B ((decide ((c5.toNat : Int) < 48)))] 273 (by kernel_rfl) ?_
       obtain ⟨u9,hu9,h⟩:=lJ h
       have j9 : Run Ffh_E 0 Q (.code (cR (cR (cR (cL (cL (cR (cR (cL (cL (cR (cL (cR (cR Ffh_c))))))))))))) :: .blk 1 :: .code (cR (cR (cR (cL (cL (cR (cL (cR (cR Ffh_c))))))))) :: .lp (cL (cL (cR (cL (cR (cR Ffh_c)))))) :: .blk 0 :: K) ⟨mkTm .dead 46 [(0,str (s_1)),(20,I ((len s_1))),(21,I (x4)),(40,B (u9))],mkS (rtL [] 1),1⟩:=by
         refine run_forget [0,20,21,40] [] [] rfl rfl rfl rfl ?_
         subst h
         exact j8
       replace h:=hu9
       clear hu9
       refine sp 36 h rfl (fun h=>?_) (fun h=>?_)
       · refine c0 5 [40] [B (true)] 337 (by kernel_rfl) ?_
         refine run_forget [0,20,21,40] [] [] rfl rfl rfl rfl ?_
         subst h
         exact j9
       · refine c0 5 [40] [B ((decide ((c5.toNat : Int) > 57)))] 337 (by kernel_rfl) ?_
         refine run_forget [0,20,21,40] [] [] rfl rfl rfl rfl ?_
         subst h
         exact j9
     · refine c0 8 [40] [B (false)] 337 (by kernel_rfl) ?_
       refine run_forget [0,20,21,40] [] [] rfl rfl rfl rfl ?_
       subst h
       exact j8
 · refine ad 1 rfl ?_
   refine run_forget [0] [] [] rfl rfl rfl hK ?_
   exact hn _ (Option.some.inj h).symm
theorem Ffh_run (s_1 : Str) (r : Bool) (h : Ffh s_1=some r) : RunF Ffh_E Tryd.f89 [false] 0 (Ffh_A s_1) (Ffh_R r):=by
 show Run _ _ (Ffh_Q s_1 r) [.code Ffh_c] _
 refine rin (n:=46) [(0,str (s_1))] [] 1 (by kernel_rfl) (by kernel_rfl) (by kernel_rfl) rfl ?_
 unfold Ffh at h
 refine c0 9 [6] [I ((len s_1))] 49 (by kernel_rfl) ?_
 obtain ⟨r2,hr2,h⟩:=bS h
 refine o 65 (B (r2)) rfl rfl (e_callV rfl rfl (call_P rfl rfl rfl (avS (shP rfl) (avS (shP rfl) (avS (shP rfl) (avN)))) (Ffo_F hr2) (.inr rfl) (bl_n) rfl rfl rfl)) ?_
 refine c0 2 [9] [B ((!r2))] 97 (by kernel_rfl) ?_
 obtain ⟨y3,hy3,hy31,hy32⟩:=bJ h
 have j3 : ∀ u3,y3=.inr u3→Run Ffh_E 0 (Ffh_Q s_1 r) (.code (cR (cL (cR Ffh_c))) :: .code (cR (cR Ffh_c)) :: []) ⟨mkTm .dead 46 [(0,str (s_1)),(18,B (u3))],mkS (rtL [] 1),1⟩:=by
   intro u3 hu
   replace h:=hy32 u3 hu
   refine sc h rfl rfl (fun h=>?_) (fun h=>?_)
   · refine c0 4 [2] [B (false)] 17 (by kernel_rfl) ?_
     obtain rfl:=Option.some.inj h
     exact s_ret rfl ⟨_,fin (vs:=[B (false)]) rfl (absE (absorb_plain rfl) (absEN)) rfl (ou_f (ou_n)),kl_n⟩
   · refine ad 1 rfl ?_
     refine c0 8 [20,21] [I ((len s_1)),I (0)] 49 (by kernel_rfl) ?_
     obtain ⟨y10,hy10,hy101,hy102⟩:=bJ h
     refine s_loop rfl ?_
     refine run_forget [0,20,21] [] [] rfl rfl rfl rfl ?_
     refine Ffh_la_run s_1 rfl hy10 (fun r' e st hq=>by rw [hy101 r' e] at hq; exact hq) (fun u10 hu=>?_)
     replace h:=hy102 u10 hu
     refine ad 2 rfl ?_
     obtain ⟨r11,hr11,h⟩:=bS h
     refine o 17 (.hs 1 0 [] 1 0 ((r11).map str).length) rfl rfl (e_callV rfl rfl (call_P rfl rfl rfl (avS (shP rfl) (avS (shP rfl) (avN))) (Ffcj_F hr11) (.inr rfl) (bl_n) rfl rfl rfl)) ?_
     refine c0 1 [43] [str (s_1)] 33 (by kernel_rfl) ?_
     obtain ⟨r12,hr12,h⟩:=bS h
     refine o 49 (B (r12)) rfl rfl (e_callV rfl rfl (call_P rfl rfl rfl (avS (sh1 rfl rfl (sh_hsM (f:=str) (g:=str) (xs:=r11) rfl rfl (imms_of str_imm))) (avS (shP rfl) (avN))) (Ffbe_F hr12) (.inl (rfl)) (bl_n) rfl rfl rfl)) ?_
     refine c0 3 [2] [B ((!r12))] 81 (by kernel_rfl) ?_
     obtain rfl:=Option.some.inj h
     exact s_ret rfl ⟨_,fin (vs:=[B ((!r12))]) rfl (absE (absorb_plain rfl) (absEN)) rfl (ou_f (ou_n)),kl_n⟩
 have r3 : ∀ r',y3=.inl r'→∀ st,Ffh_Q s_1 r' st→(Ffh_Q s_1 r) st:=fun r' e st hq=>by rw [hy31 r' e] at hq; exact hq
 replace h:=hy3
 refine sp 9 h rfl (fun h=>?_) (fun h=>?_)
 · refine c0 10 [18] [B (true)] 241 (by kernel_rfl) ?_
   refine run_forget [0,18] [] [] rfl rfl rfl rfl ?_
   exact j3 _ (Option.some.inj h).symm
 · refine c0 1 [10] [str (s_1)] 113 (by kernel_rfl) ?_
   obtain ⟨c13,hc13,h⟩:=bS h
   refine og 129 (.int .u8 ((c13.toNat : Int))) rfl rfl rfl rfl (e_index rfl rfl (i_str rfl rfl hc13)) ?_
   refine c0 3 [14] [B ((decide ((c13.toNat : Int) < 97)))] 177 (by kernel_rfl) ?_
   obtain ⟨y14,hy14,hy141,hy142⟩:=bL h
   have j14 : ∀ u14,y14=.inr u14→Run Ffh_E 0 (Ffh_Q s_1 r) (.code (cR (cL (cR Ffh_c))) :: .code (cR (cR Ffh_c)) :: []) ⟨mkTm .dead 46 [(0,str (s_1)),(18,B (u14))],mkS (rtL [] 1),1⟩:=by
     intro u14 hu
     replace h:=hy142 u14 hu
     refine run_forget [0,18] [] [] rfl rfl rfl rfl ?_
     exact j3 _ (Option.some.inj h).symm
   have r14 : ∀ r',y14=.inl r'→∀ st,Ffh_Q s_1 r' st→(Ffh_Q s_1 r) st:=fun r' e st hq=>r3 r' (hy141 r' e) st hq
   replace h:=hy14
   refine sp 14 h rfl (fun h=>?_) (fun h=>?_)
   · refine c0 5 [18] [B (true)] 241 (by kernel_rfl) ?_
     refine run_forget [0,18] [] [] rfl rfl rfl rfl ?_
     exact j14 _ (Option.some.inj h).symm
   · refine c0 1 [15] [str (s_1)] 193 (by kernel_rfl) ?_
     obtain ⟨c15,hc15,h⟩:=bS h
     refine og 209 (.int .u8 ((c15.toNat : Int))) rfl rfl rfl rfl (e_index rfl rfl (i_str rfl rfl hc15)) ?_
     refine c0 3 [18] [B ((decide ((c15.toNat : Int) > 122)))] 241 (by kernel_rfl) ?_
     refine run_forget [0,18] [] [] rfl rfl rfl rfl ?_
     exact j14 _ (Option.some.inj h).symm
theorem Ffh_good {G : Go.Ln.Ground} : Good Tryd.prog G 89 Ffh_ent:=good_T (fnOf_good (gl_c Ffo_good (gl_c Ffcj_good (gl_c Ffbe_good (gl_n))))) agree_mk (Checked.mixed Tryd.checked) Tryd.func89 (n:=1) (m:=0) ⟨rfl,rfl,by decide⟩ (fun _=>⟨rfl,rfl⟩) (fun a r h=>Ffh_run a r h)
def Ffn_A : (Event × Int)→List V:=cA enc_Event (oA I)
def Ffn_R (r : Bool) : V × List V:=(B (r),[])
noncomputable def Ffn_ent : Ent:=entT [false,false] Ffn_A Ffn_R fun x=>Ffn x.1 x.2
theorem Ffn_F {e_1 : Event} {parties_2 : Int} {r} (h : Ffn e_1 parties_2=some r) : (Ffn_ent).F (Ffn_A (e_1,parties_2))=some (Ffn_R r):=entT_F (cA_inj enc_Event_inj (oA_inj I_inj)) h
noncomputable def Ffn_c : Code:=bodyOf Tryd.f66
noncomputable def Ffn_E : Env:=mkE Tryd.prog [(91,Ffm_ent),(55,Ffo_ent),(89,Ffh_ent)]
def Ffn_Q (x : Event × Int) (r : Bool) : St→Prop:=QF Ffn_E Tryd.f66 [false,false] (Ffn_A x) (Ffn_R r)
theorem Ffn_run (e_1 : Event) (parties_2 : Int) (r : Bool) (h : Ffn e_1 parties_2=some r) : RunF Ffn_E Tryd.f66 [false,false] 0 (Ffn_A (e_1,parties_2)) (Ffn_R r):=by
 show Run _ _ (Ffn_Q (e_1,parties_2) r) [.code Ffn_c] _
 refine rin (n:=25) [(0,enc_Event e_1),(1,I (parties_2))] [] 1 (by kernel_rfl) (by kernel_rfl) (by kernel_rfl) rfl ?_
 unfold Ffn at h
 refine ck 9 [2,6] [] [1] [] [.hp 1 0 [] 4 0 0,I (e_1.Day)] [some ⟨0,4,[enc_Event e_1]⟩] 65 (by kernel_rfl) ?_
 obtain ⟨r3,hr3,h⟩:=bS h
 refine o 81 (B (r3)) rfl rfl (e_callV rfl rfl (call_P rfl rfl rfl (avS (shP rfl) (avN)) (Ffm_F hr3) (.inr rfl) (bl_n) rfl rfl rfl)) ?_
 refine c0 1 [8] [B (r3)] 97 (by kernel_rfl) ?_
 obtain ⟨y4,hy4,hy41,hy42⟩:=bJ h
 have j4 : ∀ u4,y4=.inr u4→Run Ffn_E 0 (Ffn_Q (e_1,parties_2) r) (.code (cR (cR Ffn_c)) :: []) ⟨mkTm .dead 25 [(4,B (u4))],mkS (rtL [] 1),1⟩:=by
   intro u4 hu
   replace h:=hy42 u4 hu
   obtain rfl:=Option.some.inj h
   exact s_ret rfl ⟨_,fin (vs:=[B (u4)]) rfl (absE (absorb_plain rfl) (absEN)) rfl (ou_f (ou_f (ou_n))),kl_n⟩
 have r4 : ∀ r',y4=.inl r'→∀ st,Ffn_Q (e_1,parties_2) r' st→(Ffn_Q (e_1,parties_2) r) st:=fun r' e st hq=>by rw [hy41 r' e] at hq; exact hq
 replace h:=hy4
 refine sp 8 h rfl (fun h=>?_) (fun h=>?_)
 · refine c0 4 [10,12] [I (e_1.Party),I ((w64 (parties_2 - 1)))] 161 (by kernel_rfl) ?_
   obtain ⟨r5,hr5,h⟩:=bS h
   refine og 177 (B (r5)) rfl rfl rfl rfl (e_callV rfl rfl (call_P rfl rfl rfl (avS (shP rfl) (avS (shP rfl) (avS (shP rfl) (avN)))) (Ffo_F hr5) (.inr rfl) (bl_n) rfl rfl rfl)) ?_
   refine c0 2 [15] [B (r5)] 209 (by kernel_rfl) ?_
   obtain ⟨y6,hy6,hy61,hy62⟩:=bL h
   have j6 : ∀ u6,y6=.inr u6→Run Ffn_E 0 (Ffn_Q (e_1,parties_2) r) (.code (cR (cR Ffn_c)) :: []) ⟨mkTm .dead 25 [(4,B (u6))],mkS (rtL [] 1),1⟩:=by
     intro u6 hu
     replace h:=hy62 u6 hu
     refine run_forget [4] [] [] rfl rfl rfl rfl ?_
     exact j4 _ (Option.some.inj h).symm
   have r6 : ∀ r',y6=.inl r'→∀ st,Ffn_Q (e_1,parties_2) r' st→(Ffn_Q (e_1,parties_2) r) st:=fun r' e st hq=>r4 r' (hy61 r' e) st hq
   replace h:=hy6
   refine sp 15 h rfl (fun h=>?_) (fun h=>?_)
   · refine c0 2 [17] [str (e_1.Action)] 241 (by kernel_rfl) ?_
     obtain ⟨r7,hr7,h⟩:=bS h
     refine og 257 (B (r7)) rfl rfl rfl rfl (e_callV rfl rfl (call_P rfl rfl rfl (avS (shP rfl) (avN)) (Ffh_F hr7) (.inr rfl) (bl_n) rfl rfl rfl)) ?_
     refine c0 2 [20] [B (r7)] 289 (by kernel_rfl) ?_
     obtain ⟨y8,hy8,hy81,hy82⟩:=bL h
     have j8 : ∀ u8,y8=.inr u8→Run Ffn_E 0 (Ffn_Q (e_1,parties_2) r) (.code (cR (cR Ffn_c)) :: []) ⟨mkTm .dead 25 [(4,B (u8))],mkS (rtL [] 1),1⟩:=by
       intro u8 hu
       replace h:=hy82 u8 hu
       refine run_forget [4] [] [] rfl rfl rfl rfl ?_
       exact j6 _ (Option.some.inj h).symm
     have r8 : ∀ r',y8=.inl r'→∀ st,Ffn_Q (e_1,parties_2) r' st→(Ffn_Q (e_1,parties_2) r) st:=fun r' e st hq=>r6 r' (hy81 r' e) st hq
     replace h:=hy8
     refine sp 20 h rfl (fun h=>?_) (fun h=>?_)
     · refine c0 2 [22] [I (e_1.Amount)] 321 (by kernel_rfl) ?_
       obtain ⟨r9,hr9,h⟩:=bS h
       refine og 337 (B (r9)) rfl rfl rfl rfl (e_callV rfl rfl (call_P rfl rfl rfl (avS (shP rfl) (avS (shP rfl) (avS (shP rfl) (avN)))) (Ffo_F hr9) (.inr rfl) (bl_n) rfl rfl rfl)) ?_
       refine c0 3 [4] [B (r9)] 369 (by kernel_rfl) ?_
       refine run_forget [4] [] [] rfl rfl rfl rfl ?_
       exact j8 _ (Option.some.inj h).symm
     · refine c0 6 [4] [B (false)] 369 (by kernel_rfl) ?_
       refine run_forget [4] [] [] rfl rfl rfl rfl ?_
       exact j8 _ (Option.some.inj h).symm
   · refine c0 11 [4] [B (false)] 369 (by kernel_rfl) ?_
     refine run_forget [4] [] [] rfl rfl rfl rfl ?_
     exact j6 _ (Option.some.inj h).symm
 · refine c0 18 [4] [B (false)] 369 (by kernel_rfl) ?_
   refine run_forget [4] [] [] rfl rfl rfl rfl ?_
   exact j4 _ (Option.some.inj h).symm
theorem Ffn_good {G : Go.Ln.Ground} : Good Tryd.prog G 66 Ffn_ent:=good_T (fnOf_good (gl_c Ffm_good (gl_c Ffo_good (gl_c Ffh_good (gl_n))))) agree_mk (Checked.mixed Tryd.checked) Tryd.func66 (n:=2) (m:=0) ⟨rfl,rfl,by decide⟩ (fun _=>⟨rfl,rfl⟩) (fun a r h=>Ffn_run a.1 a.2 r h)
def Ffl_A : (Event × Int)→List V:=cA enc_Event (oA (fun x : Int=>.iptr (I x) 0))
def Ffl_R (r : Bool) : V × List V:=(B (r),[])
noncomputable def Ffl_ent : Ent:=entT [false,false] Ffl_A Ffl_R fun x=>Ffl x.1 x.2
theorem Ffl_F {e_1 : Event} {a_2 : Int} {r} (h : Ffl e_1 a_2=some r) : (Ffl_ent).F (Ffl_A (e_1,a_2))=some (Ffl_R r):=entT_F (cA_inj enc_Event_inj (oA_inj (iptr_inj I_inj))) h
noncomputable def Ffl_c : Code:=bodyOf Tryd.f79
noncomputable def Ffl_E : Env:=mkE Tryd.prog [(66,Ffn_ent)]
def Ffl_Q (x : Event × Int) (r : Bool) : St→Prop:=QF Ffl_E Tryd.f79 [false,false] (Ffl_A x) (Ffl_R r)
theorem Ffl_run (e_1 : Event) (a_2 : Int) (r : Bool) (h : Ffl e_1 a_2=some r) : RunF Ffl_E Tryd.f79 [false,false] 0 (Ffl_A (e_1,a_2)) (Ffl_R r):=by
 show Run _ _ (Ffl_Q (e_1,a_2) r) [.code Ffl_c] _
 refine rin (n:=8) [(0,enc_Event e_1),(1,.iptr (I (a_2)) 0)] [] 1 (by kernel_rfl) (by kernel_rfl) (by kernel_rfl) rfl ?_
 unfold Ffl at h
 refine c0 9 [4,5] [enc_Event e_1,I (a_2)] 65 (by kernel_rfl) ?_
 obtain ⟨r3,hr3,h⟩:=bS h
 refine o 81 (B (r3)) rfl rfl (e_callV rfl rfl (call_P rfl rfl rfl (avS (shP rfl) (avS (shP rfl) (avN))) (Ffn_F hr3) (.inr rfl) (bl_n) rfl rfl rfl)) ?_
 refine c0 3 [3] [B ((!r3))] 113 (by kernel_rfl) ?_
 obtain rfl:=Option.some.inj h
 exact s_ret rfl ⟨_,fin (vs:=[B ((!r3))]) rfl (absE (absorb_plain rfl) (absEN)) rfl (ou_f (ou_f (ou_n))),kl_n⟩
theorem Ffl_good {G : Go.Ln.Ground} : Good Tryd.prog G 79 Ffl_ent:=good_T (fnOf_good (gl_c Ffn_good (gl_n))) agree_mk (Checked.mixed Tryd.checked) Tryd.func79 (n:=2) (m:=0) ⟨rfl,rfl,by decide⟩ (fun _=>⟨rfl,rfl⟩) (fun a r h=>Ffl_run a.1 a.2 r h)
def Ffbf_A : ((List Event) × Int)→List V:=cA (slE enc_Event) (oA (fun x : Int=>(.fn 79 [.iptr (I x) 0] : V)))
def Ffbf_R (r : Int) : V × List V:=(I (r),[])
noncomputable def Ffbf_ent : Ent:=entT [false,false] Ffbf_A Ffbf_R fun x=>Ffbf x.1 x.2
theorem Ffbf_F {s_1 : List Event} {f_2 : Int} {r} (h : Ffbf s_1 f_2=some r) : (Ffbf_ent).F (Ffbf_A (s_1,f_2))=some (Ffbf_R r):=entT_F (cA_inj (isl_inj enc_Event_inj) (oA_inj (fn_inj1 I_inj))) h
noncomputable def Ffbf_c : Code:=bodyOf Tryd.f83
noncomputable def Ffbf_E : Env:=mkE Tryd.prog [(79,Ffl_ent)]
def Ffbf_Q (x : (List Event) × Int) (r : Int) : St→Prop:=QF Ffbf_E Tryd.f83 [false,false] (Ffbf_A x) (Ffbf_R r)
theorem Ffbf_la_run (s_1 : List Event) (f_2 : Int)  {Q : St→Prop} {K : List It} (hK : noD K=true) {x3 : Int} {y : Int ⊕ Unit} (h : Ffbf_la s_1 f_2 x3=some y) : (∀ r',y=.inl r'→∀ st,Ffbf_Q (s_1,f_2) r' st→Q st)→(∀ u : Unit,y=.inr u→Run Ffbf_E 0 Q K ⟨mkTm .dead 19 [],mkS (rtL [] 1),1⟩)→Run Ffbf_E 0 Q (.code (cL (cL (cR (cL (cR Ffbf_c))))) :: .lp (cL (cL (cR (cL (cR Ffbf_c))))) :: .blk 0 :: K) ⟨mkTm .dead 19 [(0,.isl false ((s_1).map enc_Event)),(1,.fn 79 [.iptr (I (f_2)) 0]),(7,I ((len s_1))),(8,I (x3))],mkS (rtL [] 1),1⟩:=by
 refine fix_ind (P:=fun (x3 : Int) (y : Int ⊕ Unit)=>(∀ r',y=.inl r'→∀ st,Ffbf_Q (s_1,f_2) r' st→Q st)→(∀ u : Unit,y=.inr u→Run Ffbf_E 0 Q K ⟨mkTm .dead 19 [],mkS (rtL [] 1),1⟩)→Run Ffbf_E 0 Q (.code (cL (cL (cR (cL (cR Ffbf_c))))) :: .lp (cL (cL (cR (cL (cR Ffbf_c))))) :: .blk 0 :: K) ⟨mkTm .dead 19 [(0,.isl false ((s_1).map enc_Event)),(1,.fn 79 [.iptr (I (f_2)) 0]),(7,I ((len s_1))),(8,I (x3))],mkS (rtL [] 1),1⟩) (Ffbf_la_fin s_1 f_2) ?_ h
 clear h y x3
 intro self ih x3 y h hr hn
 unfold Ffbf_la_F at h
 refine c0 5 [9] [B ((decide (x3 < (len s_1))))] 17 (by kernel_rfl) ?_
 refine sc h rfl rfl (fun h=>?_) (fun h=>?_)
 · refine ad 1 rfl ?_
   refine c0 12 [5,11,12,13] [I (x3),.fn 79 [.iptr (I (f_2)) 0],.isl false ((s_1).map enc_Event),I (x3)] 97 (by kernel_rfl) ?_
   obtain ⟨e4,he4,h⟩:=bS h
   refine o 113 (.iptr (enc_Event e4) 0) rfl rfl (e_indexAddr rfl rfl rfl (ix_islE rfl rfl rfl rfl he4)) ?_
   refine c0 1 [15] [enc_Event e4] 129 (by kernel_rfl) ?_
   obtain ⟨r5,hr5,h⟩:=bS h
   refine o 145 (B (r5)) rfl rfl (e_callV rfl rfl (call_P rfl rfl rfl (avS (shP rfl) (avS (shP rfl) (avN))) (Ffl_F hr5) (.inr rfl) (bl_n) rfl rfl rfl)) ?_
   refine ad 1 rfl ?_
   refine sc h rfl rfl (fun h=>?_) (fun h=>?_)
   · refine c0 5 [4] [I (x3)] 177 (by kernel_rfl) ?_
     exact s_ret rfl (hr _ (Option.some.inj h).symm _ ⟨_,fin (vs:=[I (x3)]) rfl (absE (absorb_plain rfl) (absEN)) rfl (ou_f (ou_f (ou_n))),kl_n⟩)
   · refine ad 1 rfl ?_
     refine c0 5 [8] [I ((w64 (x3 + 1)))] 177 (by kernel_rfl) ?_
     refine s_lp ?_
     refine run_forget [0,1,7,8] [] [] rfl rfl rfl rfl ?_
     exact ih _ _ h hr hn
 · refine ad 1 rfl ?_
   refine run_forget [] [] [] rfl rfl rfl hK ?_
   exact hn _ (Option.some.inj h).symm
theorem Ffbf_run (s_1 : List Event) (f_2 : Int) (r : Int) (h : Ffbf s_1 f_2=some r) : RunF Ffbf_E Tryd.f83 [false,false] 0 (Ffbf_A (s_1,f_2)) (Ffbf_R r):=by
 show Run _ _ (Ffbf_Q (s_1,f_2) r) [.code Ffbf_c] _
 refine rin (n:=19) [(0,.isl false ((s_1).map enc_Event)),(1,.fn 79 [.iptr (I (f_2)) 0])] [] 1 (by kernel_rfl) (by kernel_rfl) (by kernel_rfl) rfl ?_
 unfold Ffbf at h
 refine c0 8 [6] [.isl false ((s_1).map enc_Event)] 33 (by kernel_rfl) ?_
 refine o 49 (I ((len s_1))) rfl rfl (e_len rfl rfl rfl (l_isl rfl)) ?_
 refine c0 3 [8] [I (0)] 65 (by kernel_rfl) ?_
 obtain ⟨y6,hy6,hy61,hy62⟩:=bJ h
 refine s_loop rfl ?_
 refine run_forget [0,1,7,8] [] [] rfl rfl rfl rfl ?_
 refine Ffbf_la_run s_1 f_2 rfl hy6 (fun r' e st hq=>by rw [hy61 r' e] at hq; exact hq) (fun u6 hu=>?_)
 replace h:=hy62 u6 hu
 refine c0 4 [4] [I ((-1))] 17 (by kernel_rfl) ?_
 obtain rfl:=Option.some.inj h
 exact s_ret rfl ⟨_,fin (vs:=[I ((-1))]) rfl (absE (absorb_plain rfl) (absEN)) rfl (ou_f (ou_f (ou_n))),kl_n⟩
theorem Ffbf_good {G : Go.Ln.Ground} : Good Tryd.prog G 83 Ffbf_ent:=good_T (fnOf_good (gl_c Ffl_good (gl_n))) agree_mk (Checked.mixed Tryd.checked) Tryd.func83 (n:=2) (m:=0) ⟨rfl,rfl,by decide⟩ (fun _=>⟨rfl,rfl⟩) (fun a r h=>Ffbf_run a.1 a.2 r h)
def Ffbd_A : ((List Event) × Int)→List V:=cA (slE enc_Event) (oA (fun x : Int=>(.fn 79 [.iptr (I x) 0] : V)))
def Ffbd_R (r : Bool) : V × List V:=(B (r),[])
noncomputable def Ffbd_ent : Ent:=entT [false,false] Ffbd_A Ffbd_R fun x=>Ffbd x.1 x.2
theorem Ffbd_F {s_1 : List Event} {f_2 : Int} {r} (h : Ffbd s_1 f_2=some r) : (Ffbd_ent).F (Ffbd_A (s_1,f_2))=some (Ffbd_R r):=entT_F (cA_inj (isl_inj enc_Event_inj) (oA_inj (fn_inj1 I_inj))) h
noncomputable def Ffbd_c : Code:=bodyOf Tryd.f78
noncomputable def Ffbd_E : Env:=mkE Tryd.prog [(83,Ffbf_ent)]
def Ffbd_Q (x : (List Event) × Int) (r : Bool) : St→Prop:=QF Ffbd_E Tryd.f78 [false,false] (Ffbd_A x) (Ffbd_R r)
theorem Ffbd_run (s_1 : List Event) (f_2 : Int) (r : Bool) (h : Ffbd s_1 f_2=some r) : RunF Ffbd_E Tryd.f78 [false,false] 0 (Ffbd_A (s_1,f_2)) (Ffbd_R r):=by
 show Run _ _ (Ffbd_Q (s_1,f_2) r) [.code Ffbd_c] _
 refine rin (n:=9) [(0,.isl false ((s_1).map enc_Event)),(1,.fn 79 [.iptr (I (f_2)) 0])] [] 1 (by kernel_rfl) (by kernel_rfl) (by kernel_rfl) rfl ?_
 unfold Ffbd at h
 refine c0 8 [5,6] [.isl false ((s_1).map enc_Event),.fn 79 [.iptr (I (f_2)) 0]] 49 (by kernel_rfl) ?_
 obtain ⟨r3,hr3,h⟩:=bS h
 refine o 65 (I (r3)) rfl rfl (e_callV rfl rfl (call_P rfl rfl rfl (avS (shP rfl) (avS (shF (shC (sh_p rfl) (shN))) (avN))) (Ffbf_F hr3) (.inr rfl) (bl_n) rfl rfl rfl)) ?_
 refine c0 3 [4] [B ((decide (r3 ≥ 0)))] 97 (by kernel_rfl) ?_
 obtain rfl:=Option.some.inj h
 exact s_ret rfl ⟨_,fin (vs:=[B ((decide (r3 ≥ 0)))]) rfl (absE (absorb_plain rfl) (absEN)) rfl (ou_f (ou_f (ou_n))),kl_n⟩
theorem Ffbd_good {G : Go.Ln.Ground} : Good Tryd.prog G 78 Ffbd_ent:=good_T (fnOf_good (gl_c Ffbf_good (gl_n))) agree_mk (Checked.mixed Tryd.checked) Tryd.func78 (n:=2) (m:=0) ⟨rfl,rfl,by decide⟩ (fun _=>⟨rfl,rfl⟩) (fun a r h=>Ffbd_run a.1 a.2 r h)
def Ffk_A : ((List Event) × Int)→List V:=cA (slE enc_Event) (oA I)
def Ffk_R (r : Bool) : V × List V:=(B (r),[])
noncomputable def Ffk_ent : Ent:=entT [false,false] Ffk_A Ffk_R fun x=>Ffk x.1 x.2
theorem Ffk_F {list_1 : List Event} {parties_2 : Int} {r} (h : Ffk list_1 parties_2=some r) : (Ffk_ent).F (Ffk_A (list_1,parties_2))=some (Ffk_R r):=entT_F (cA_inj (isl_inj enc_Event_inj) (oA_inj I_inj)) h
noncomputable def Ffk_c : Code:=bodyOf Tryd.f50
noncomputable def Ffk_E : Env:=mkE Tryd.prog [(55,Ffo_ent),(78,Ffbd_ent)]
def Ffk_Q (x : (List Event) × Int) (r : Bool) : St→Prop:=QF Ffk_E Tryd.f50 [false,false] (Ffk_A x) (Ffk_R r)
theorem Ffk_run (list_1 : List Event) (parties_2 : Int) (r : Bool) (h : Ffk list_1 parties_2=some r) : RunF Ffk_E Tryd.f50 [false,false] 0 (Ffk_A (list_1,parties_2)) (Ffk_R r):=by
 show Run _ _ (Ffk_Q (list_1,parties_2) r) [.code Ffk_c] _
 refine rin (n:=18) [(0,.isl false ((list_1).map enc_Event)),(1,I (parties_2))] [] 1 (by kernel_rfl) (by kernel_rfl) (by kernel_rfl) rfl ?_
 unfold Ffk at h
 refine ck 8 [3,5] [] [1] [] [.hp 1 0 [] 1 0 0,I (parties_2)] [some ⟨0,1,[I (parties_2)]⟩] 49 (by kernel_rfl) ?_
 obtain ⟨r3,hr3,h⟩:=bS h
 refine o 65 (B (r3)) rfl rfl (e_callV rfl rfl (call_P rfl rfl rfl (avS (shP rfl) (avS (shP rfl) (avS (shP rfl) (avN)))) (Ffo_F hr3) (.inr rfl) (bl_n) rfl rfl rfl)) ?_
 refine c0 1 [7] [B (r3)] 81 (by kernel_rfl) ?_
 obtain ⟨y4,hy4,hy41,hy42⟩:=bJ h
 have j4 : ∀ u4,y4=.inr u4→Run Ffk_E 0 (Ffk_Q (list_1,parties_2) r) (.code (cR (cR Ffk_c)) :: []) ⟨mkTm .dead 18 [(4,B (u4))],mkS (rtL [] 1),1⟩:=by
   intro u4 hu
   replace h:=hy42 u4 hu
   obtain rfl:=Option.some.inj h
   exact s_ret rfl ⟨_,fin (vs:=[B (u4)]) rfl (absE (absorb_plain rfl) (absEN)) rfl (ou_f (ou_f (ou_n))),kl_n⟩
 have r4 : ∀ r',y4=.inl r'→∀ st,Ffk_Q (list_1,parties_2) r' st→(Ffk_Q (list_1,parties_2) r) st:=fun r' e st hq=>by rw [hy41 r' e] at hq; exact hq
 replace h:=hy4
 refine sp 7 h rfl (fun h=>?_) (fun h=>?_)
 · refine c0 1 [8] [.isl false ((list_1).map enc_Event)] 97 (by kernel_rfl) ?_
   refine og 113 (I ((len list_1))) rfl rfl rfl rfl (e_len rfl rfl rfl (l_isl rfl)) ?_
   refine c0 3 [12] [B ((decide ((len list_1) ≤ 40)))] 161 (by kernel_rfl) ?_
   obtain ⟨y5,hy5,hy51,hy52⟩:=bL h
   have j5 : ∀ u5,y5=.inr u5→Run Ffk_E 0 (Ffk_Q (list_1,parties_2) r) (.code (cR (cR Ffk_c)) :: []) ⟨mkTm .dead 18 [(4,B (u5))],mkS (rtL [] 1),1⟩:=by
     intro u5 hu
     replace h:=hy52 u5 hu
     refine run_forget [4] [] [] rfl rfl rfl rfl ?_
     exact j4 _ (Option.some.inj h).symm
   have r5 : ∀ r',y5=.inl r'→∀ st,Ffk_Q (list_1,parties_2) r' st→(Ffk_Q (list_1,parties_2) r) st:=fun r' e st hq=>r4 r' (hy51 r' e) st hq
   replace h:=hy5
   refine sp 12 h rfl (fun h=>?_) (fun h=>?_)
   · refine c0 2 [13,14] [.isl false ((list_1).map enc_Event),.fn 79 [.hp 1 0 [] 1 0 0]] 193 (by kernel_rfl) ?_
     obtain ⟨r6,hr6,h⟩:=bS h
     refine og 209 (B (r6)) rfl rfl rfl rfl (e_callV rfl rfl (call_P rfl rfl rfl (avS (shP rfl) (avS (shF (shC (shp_at (path:=[]) rfl rfl (ra_n) rfl (rfl)) (shN))) (avN))) (Ffbd_F hr6) (.inl (rfl)) (bl_n) rfl rfl rfl)) ?_
     refine c0 4 [4] [B ((!r6))] 257 (by kernel_rfl) ?_
     refine run_forget [4] [] [] rfl rfl rfl rfl ?_
     exact j5 _ (Option.some.inj h).symm
   · refine c0 7 [4] [B (false)] 257 (by kernel_rfl) ?_
     refine run_forget [4] [] [] rfl rfl rfl rfl ?_
     exact j5 _ (Option.some.inj h).symm
 · refine c0 12 [4] [B (false)] 257 (by kernel_rfl) ?_
   refine run_forget [4] [] [] rfl rfl rfl rfl ?_
   exact j4 _ (Option.some.inj h).symm
theorem Ffk_good {G : Go.Ln.Ground} : Good Tryd.prog G 50 Ffk_ent:=good_T (fnOf_good (gl_c Ffo_good (gl_c Ffbd_good (gl_n)))) agree_mk (Checked.mixed Tryd.checked) Tryd.func50 (n:=2) (m:=0) ⟨rfl,rfl,by decide⟩ (fun _=>⟨rfl,rfl⟩) (fun a r h=>Ffk_run a.1 a.2 r h)
def Ffd_A : Int→List V:=oA I
def Ffd_R (r : Bool) : V × List V:=(B (r),[])
noncomputable def Ffd_ent : Ent:=entT [false] Ffd_A Ffd_R fun x=>Ffd x
theorem Ffd_F {x_1 : Int} {r} (h : Ffd x_1=some r) : (Ffd_ent).F (Ffd_A x_1)=some (Ffd_R r):=entT_F (oA_inj I_inj) h
noncomputable def Ffd_c : Code:=bodyOf Tryd.f102
noncomputable def Ffd_E : Env:=mkE Tryd.prog []
def Ffd_Q (x : Int) (r : Bool) : St→Prop:=QF Ffd_E Tryd.f102 [false] (Ffd_A x) (Ffd_R r)
theorem Ffd_run (x_1 : Int) (r : Bool) (h : Ffd x_1=some r) : RunF Ffd_E Tryd.f102 [false] 0 (Ffd_A x_1) (Ffd_R r):=by
 show Run _ _ (Ffd_Q x_1 r) [.code Ffd_c] _
 refine rin (n:=6) [(0,I (x_1))] [] 1 (by kernel_rfl) (by kernel_rfl) (by kernel_rfl) rfl ?_
 unfold Ffd at h
 refine c0 11 [2] [B ((x_1 != x_1))] 81 (by kernel_rfl) ?_
 obtain rfl:=Option.some.inj h
 exact s_ret rfl ⟨_,fin (vs:=[B ((x_1 != x_1))]) rfl (absE (absorb_plain rfl) (absEN)) rfl (ou_f (ou_n)),kl_n⟩
theorem Ffd_good {G : Go.Ln.Ground} : Good Tryd.prog G 102 Ffd_ent:=good_T (fnOf_good (gl_n)) agree_mk (Checked.mixed Tryd.checked) Tryd.func102 (n:=1) (m:=0) ⟨rfl,rfl,by decide⟩ (fun _=>⟨rfl,rfl⟩) (fun a r h=>Ffd_run a r h)
def Ffa_A : (Int × Int)→List V:=cA I (oA I)
def Ffa_R (r : Int) : V × List V:=(I (r),[])
noncomputable def Ffa_ent : Ent:=entT [false,false] Ffa_A Ffa_R fun x=>Ffa x.1 x.2
theorem Ffa_F {x_1 : Int} {y_2 : Int} {r} (h : Ffa x_1 y_2=some r) : (Ffa_ent).F (Ffa_A (x_1,y_2))=some (Ffa_R r):=entT_F (cA_inj I_inj (oA_inj I_inj)) h
noncomputable def Ffa_c : Code:=bodyOf Tryd.f81
noncomputable def Ffa_E : Env:=mkE Tryd.prog [(102,Ffd_ent)]
def Ffa_Q (x : Int × Int) (r : Int) : St→Prop:=QF Ffa_E Tryd.f81 [false,false] (Ffa_A x) (Ffa_R r)
theorem Ffa_run (x_1 : Int) (y_2 : Int) (r : Int) (h : Ffa x_1 y_2=some r) : RunF Ffa_E Tryd.f81 [false,false] 0 (Ffa_A (x_1,y_2)) (Ffa_R r):=by
 show Run _ _ (Ffa_Q (x_1,y_2) r) [.code Ffa_c] _
 refine rin (n:=20) [(0,I (x_1)),(1,I (y_2))] [] 1 (by kernel_rfl) (by kernel_rfl) (by kernel_rfl) rfl ?_
 unfold Ffa at h
 refine c0 7 [7] [I (x_1)] 33 (by kernel_rfl) ?_
 obtain ⟨r3,hr3,h⟩:=bS h
 refine o 49 (B (r3)) rfl rfl (e_callV rfl rfl (call_P rfl rfl rfl (avS (shP rfl) (avN)) (Ffd_F hr3) (.inr rfl) (bl_n) rfl rfl rfl)) ?_
 refine c0 5 [5,9] [B (r3),I (y_2)] 81 (by kernel_rfl) ?_
 obtain ⟨r4,hr4,h⟩:=bS h
 refine o 97 (B (r4)) rfl rfl (e_callV rfl rfl (call_P rfl rfl rfl (avS (shP rfl) (avN)) (Ffd_F hr4) (.inr rfl) (bl_n) rfl rfl rfl)) ?_
 refine c0 7 [6,11] [B (r4),B (r3)] 129 (by kernel_rfl) ?_
 refine sc h rfl rfl (fun h=>?_) (fun h=>?_)
 · refine c0 5 [12] [B (r4)] 145 (by kernel_rfl) ?_
   refine sc h rfl rfl (fun h=>?_) (fun h=>?_)
   · refine c0 4 [4] [I (0)] 161 (by kernel_rfl) ?_
     obtain rfl:=Option.some.inj h
     exact s_ret rfl ⟨_,fin (vs:=[I (0)]) rfl (absE (absorb_plain rfl) (absEN)) rfl (ou_f (ou_f (ou_n))),kl_n⟩
   · refine ad 1 rfl ?_
     refine c0 4 [4] [I ((-1))] 161 (by kernel_rfl) ?_
     obtain rfl:=Option.some.inj h
     exact s_ret rfl ⟨_,fin (vs:=[I ((-1))]) rfl (absE (absorb_plain rfl) (absEN)) rfl (ou_f (ou_f (ou_n))),kl_n⟩
 · refine ad 1 rfl ?_
   refine c0 5 [13] [B (r4)] 145 (by kernel_rfl) ?_
   refine sc h rfl rfl (fun h=>?_) (fun h=>?_)
   · refine c0 4 [4] [I (1)] 161 (by kernel_rfl) ?_
     obtain rfl:=Option.some.inj h
     exact s_ret rfl ⟨_,fin (vs:=[I (1)]) rfl (absE (absorb_plain rfl) (absEN)) rfl (ou_f (ou_f (ou_n))),kl_n⟩
   · refine ad 1 rfl ?_
     refine c0 7 [16] [B ((decide (x_1 < y_2)))] 193 (by kernel_rfl) ?_
     refine sc h rfl rfl (fun h=>?_) (fun h=>?_)
     · refine c0 4 [4] [I ((-1))] 209 (by kernel_rfl) ?_
       obtain rfl:=Option.some.inj h
       exact s_ret rfl ⟨_,fin (vs:=[I ((-1))]) rfl (absE (absorb_plain rfl) (absEN)) rfl (ou_f (ou_f (ou_n))),kl_n⟩
     · refine ad 1 rfl ?_
       refine c0 7 [19] [B ((decide (x_1 > y_2)))] 241 (by kernel_rfl) ?_
       refine sc h rfl rfl (fun h=>?_) (fun h=>?_)
       · refine c0 4 [4] [I (1)] 257 (by kernel_rfl) ?_
         obtain rfl:=Option.some.inj h
         exact s_ret rfl ⟨_,fin (vs:=[I (1)]) rfl (absE (absorb_plain rfl) (absEN)) rfl (ou_f (ou_f (ou_n))),kl_n⟩
       · refine ad 1 rfl ?_
         refine c0 4 [4] [I (0)] 257 (by kernel_rfl) ?_
         obtain rfl:=Option.some.inj h
         exact s_ret rfl ⟨_,fin (vs:=[I (0)]) rfl (absE (absorb_plain rfl) (absEN)) rfl (ou_f (ou_f (ou_n))),kl_n⟩
theorem Ffa_good {G : Go.Ln.Ground} : Good Tryd.prog G 81 Ffa_ent:=good_T (fnOf_good (gl_c Ffd_good (gl_n))) agree_mk (Checked.mixed Tryd.checked) Tryd.func81 (n:=2) (m:=0) ⟨rfl,rfl,by decide⟩ (fun _=>⟨rfl,rfl⟩) (fun a r h=>Ffa_run a.1 a.2 r h)
def Ffe_A : Str→List V:=oA str
def Ffe_R (r : Bool) : V × List V:=(B (r),[])
noncomputable def Ffe_ent : Ent:=entT [false] Ffe_A Ffe_R fun x=>Ffe x
theorem Ffe_F {x_1 : Str} {r} (h : Ffe x_1=some r) : (Ffe_ent).F (Ffe_A x_1)=some (Ffe_R r):=entT_F (oA_inj str_inj) h
noncomputable def Ffe_c : Code:=bodyOf Tryd.f103
noncomputable def Ffe_E : Env:=mkE Tryd.prog []
def Ffe_Q (x : Str) (r : Bool) : St→Prop:=QF Ffe_E Tryd.f103 [false] (Ffe_A x) (Ffe_R r)
theorem Ffe_run (x_1 : Str) (r : Bool) (h : Ffe x_1=some r) : RunF Ffe_E Tryd.f103 [false] 0 (Ffe_A x_1) (Ffe_R r):=by
 show Run _ _ (Ffe_Q x_1 r) [.code Ffe_c] _
 refine rin (n:=6) [(0,str (x_1))] [] 1 (by kernel_rfl) (by kernel_rfl) (by kernel_rfl) rfl ?_
 unfold Ffe at h
 refine c0 11 [2] [B ((!(x_1 == x_1)))] 81 (by kernel_rfl) ?_
 obtain rfl:=Option.some.inj h
 exact s_ret rfl ⟨_,fin (vs:=[B ((!(x_1 == x_1)))]) rfl (absE (absorb_plain rfl) (absEN)) rfl (ou_f (ou_n)),kl_n⟩
theorem Ffe_good {G : Go.Ln.Ground} : Good Tryd.prog G 103 Ffe_ent:=good_T (fnOf_good (gl_n)) agree_mk (Checked.mixed Tryd.checked) Tryd.func103 (n:=1) (m:=0) ⟨rfl,rfl,by decide⟩ (fun _=>⟨rfl,rfl⟩) (fun a r h=>Ffe_run a r h)
def Ffb_A : (Str × Str)→List V:=cA str (oA str)
def Ffb_R (r : Int) : V × List V:=(I (r),[])
noncomputable def Ffb_ent : Ent:=entT [false,false] Ffb_A Ffb_R fun x=>Ffb x.1 x.2
theorem Ffb_F {x_1 : Str} {y_2 : Str} {r} (h : Ffb x_1 y_2=some r) : (Ffb_ent).F (Ffb_A (x_1,y_2))=some (Ffb_R r):=entT_F (cA_inj str_inj (oA_inj str_inj)) h
noncomputable def Ffb_c : Code:=bodyOf Tryd.f82
noncomputable def Ffb_E : Env:=mkE Tryd.prog [(103,Ffe_ent)]
def Ffb_Q (x : Str × Str) (r : Int) : St→Prop:=QF Ffb_E Tryd.f82 [false,false] (Ffb_A x) (Ffb_R r)
theorem Ffb_run (x_1 : Str) (y_2 : Str) (r : Int) (h : Ffb x_1 y_2=some r) : RunF Ffb_E Tryd.f82 [false,false] 0 (Ffb_A (x_1,y_2)) (Ffb_R r):=by
 show Run _ _ (Ffb_Q (x_1,y_2) r) [.code Ffb_c] _
 refine rin (n:=20) [(0,str (x_1)),(1,str (y_2))] [] 1 (by kernel_rfl) (by kernel_rfl) (by kernel_rfl) rfl ?_
 unfold Ffb at h
 refine c0 7 [7] [str (x_1)] 33 (by kernel_rfl) ?_
 obtain ⟨r3,hr3,h⟩:=bS h
 refine o 49 (B (r3)) rfl rfl (e_callV rfl rfl (call_P rfl rfl rfl (avS (shP rfl) (avN)) (Ffe_F hr3) (.inr rfl) (bl_n) rfl rfl rfl)) ?_
 refine c0 5 [5,9] [B (r3),str (y_2)] 81 (by kernel_rfl) ?_
 obtain ⟨r4,hr4,h⟩:=bS h
 refine o 97 (B (r4)) rfl rfl (e_callV rfl rfl (call_P rfl rfl rfl (avS (shP rfl) (avN)) (Ffe_F hr4) (.inr rfl) (bl_n) rfl rfl rfl)) ?_
 refine c0 7 [6,11] [B (r4),B (r3)] 129 (by kernel_rfl) ?_
 refine sc h rfl rfl (fun h=>?_) (fun h=>?_)
 · refine c0 5 [12] [B (r4)] 145 (by kernel_rfl) ?_
   refine sc h rfl rfl (fun h=>?_) (fun h=>?_)
   · refine c0 4 [4] [I (0)] 161 (by kernel_rfl) ?_
     obtain rfl:=Option.some.inj h
     exact s_ret rfl ⟨_,fin (vs:=[I (0)]) rfl (absE (absorb_plain rfl) (absEN)) rfl (ou_f (ou_f (ou_n))),kl_n⟩
   · refine ad 1 rfl ?_
     refine c0 4 [4] [I ((-1))] 161 (by kernel_rfl) ?_
     obtain rfl:=Option.some.inj h
     exact s_ret rfl ⟨_,fin (vs:=[I ((-1))]) rfl (absE (absorb_plain rfl) (absEN)) rfl (ou_f (ou_f (ou_n))),kl_n⟩
 · refine ad 1 rfl ?_
   refine c0 5 [13] [B (r4)] 145 (by kernel_rfl) ?_
   refine sc h rfl rfl (fun h=>?_) (fun h=>?_)
   · refine c0 4 [4] [I (1)] 161 (by kernel_rfl) ?_
     obtain rfl:=Option.some.inj h
     exact s_ret rfl ⟨_,fin (vs:=[I (1)]) rfl (absE (absorb_plain rfl) (absEN)) rfl (ou_f (ou_f (ou_n))),kl_n⟩
   · refine ad 1 rfl ?_
     refine c0 7 [16] [B ((Op.bytesLess x_1 y_2))] 193 (by kernel_rfl) ?_
     refine sc h rfl rfl (fun h=>?_) (fun h=>?_)
     · refine c0 4 [4] [I ((-1))] 209 (by kernel_rfl) ?_
       obtain rfl:=Option.some.inj h
       exact s_ret rfl ⟨_,fin (vs:=[I ((-1))]) rfl (absE (absorb_plain rfl) (absEN)) rfl (ou_f (ou_f (ou_n))),kl_n⟩
     · refine ad 1 rfl ?_
       refine c0 7 [19] [B ((!(Op.bytesLess x_1 y_2 || x_1 == y_2)))] 241 (by kernel_rfl) ?_
       refine sc h rfl rfl (fun h=>?_) (fun h=>?_)
       · refine c0 4 [4] [I (1)] 257 (by kernel_rfl) ?_
         obtain rfl:=Option.some.inj h
         exact s_ret rfl ⟨_,fin (vs:=[I (1)]) rfl (absE (absorb_plain rfl) (absEN)) rfl (ou_f (ou_f (ou_n))),kl_n⟩
       · refine ad 1 rfl ?_
         refine c0 4 [4] [I (0)] 257 (by kernel_rfl) ?_
         obtain rfl:=Option.some.inj h
         exact s_ret rfl ⟨_,fin (vs:=[I (0)]) rfl (absE (absorb_plain rfl) (absEN)) rfl (ou_f (ou_f (ou_n))),kl_n⟩
theorem Ffb_good {G : Go.Ln.Ground} : Good Tryd.prog G 82 Ffb_ent:=good_T (fnOf_good (gl_c Ffe_good (gl_n))) agree_mk (Checked.mixed Tryd.checked) Tryd.func82 (n:=2) (m:=0) ⟨rfl,rfl,by decide⟩ (fun _=>⟨rfl,rfl⟩) (fun a r h=>Ffb_run a.1 a.2 r h)
def Ffc_A : ((List Int))→List V:=oA (slE I)
def Ffc_R (r : Int) : V × List V:=(I (r),[])
noncomputable def Ffc_ent : Ent:=entT [false] Ffc_A Ffc_R fun x=>Ffc x
theorem Ffc_F {vals_1 : List Int} {r} (h : Ffc vals_1=some r) : (Ffc_ent).F (Ffc_A vals_1)=some (Ffc_R r):=entT_F (oA_inj (isl_inj I_inj)) h
noncomputable def Ffc_c : Code:=bodyOf Tryd.f80
noncomputable def Ffc_E : Env:=mkE Tryd.prog []
def Ffc_Q (x : (List Int)) (r : Int) : St→Prop:=QF Ffc_E Tryd.f80 [false] (Ffc_A x) (Ffc_R r)
theorem Ffc_la_run (vals_1 : List Int)  {Q : St→Prop} {K : List It} (hK : noD K=true) {x2 : Int} {y : Int ⊕ Unit} (h : Ffc_la vals_1 x2=some y) : (∀ r',y=.inl r'→∀ st,Ffc_Q vals_1 r' st→Q st)→(∀ u : Unit,y=.inr u→Run Ffc_E 0 Q K ⟨mkTm .dead 18 [(3,I (0))],mkS (rtL [] 1),1⟩)→Run Ffc_E 0 Q (.code (cL (cL (cR (cL (cR (cR Ffc_c)))))) :: .lp (cL (cL (cR (cL (cR (cR Ffc_c)))))) :: .blk 0 :: K) ⟨mkTm .dead 18 [(3,I (0)),(6,.isl false ((vals_1).map I)),(7,I ((len vals_1))),(8,I (x2))],mkS (rtL [] 1),1⟩:=by
 refine fix_ind (P:=fun (x2 : Int) (y : Int ⊕ Unit)=>(∀ r',y=.inl r'→∀ st,Ffc_Q vals_1 r' st→Q st)→(∀ u : Unit,y=.inr u→Run Ffc_E 0 Q K ⟨mkTm .dead 18 [(3,I (0))],mkS (rtL [] 1),1⟩)→Run Ffc_E 0 Q (.code (cL (cL (cR (cL (cR (cR Ffc_c)))))) :: .lp (cL (cL (cR (cL (cR (cR Ffc_c)))))) :: .blk 0 :: K) ⟨mkTm .dead 18 [(3,I (0)),(6,.isl false ((vals_1).map I)),(7,I ((len vals_1))),(8,I (x2))],mkS (rtL [] 1),1⟩) (Ffc_la_fin vals_1) ?_ h
 clear h y x2
 intro self ih x2 y h hr hn
 unfold Ffc_la_F at h
 refine c0 5 [9] [B ((decide (x2 < (len vals_1))))] 17 (by kernel_rfl) ?_
 refine sc h rfl rfl (fun h=>?_) (fun h=>?_)
 · refine ad 1 rfl ?_
   refine ad 4 rfl ?_
   obtain ⟨e3,he3,h⟩:=bS h
   refine o 33 (.iptr (I (e3)) 0) rfl rfl (e_indexAddr rfl rfl rfl (ix_islE rfl rfl rfl rfl he3)) ?_
   refine c0 9 [5,14] [I (e3),B ((e3 != 0))] 113 (by kernel_rfl) ?_
   refine sc h rfl rfl (fun h=>?_) (fun h=>?_)
   · refine c0 5 [2] [I (e3)] 145 (by kernel_rfl) ?_
     exact s_ret rfl (hr _ (Option.some.inj h).symm _ ⟨_,fin (vs:=[I (e3)]) rfl (absE (absorb_plain rfl) (absEN)) rfl (ou_f (ou_n)),kl_n⟩)
   · refine ad 1 rfl ?_
     refine c0 5 [8] [I ((w64 (x2 + 1)))] 145 (by kernel_rfl) ?_
     refine s_lp ?_
     refine run_forget [3,6,7,8] [] [] rfl rfl rfl rfl ?_
     exact ih _ _ h hr hn
 · refine ad 1 rfl ?_
   refine run_forget [3] [] [] rfl rfl rfl hK ?_
   exact hn _ (Option.some.inj h).symm
theorem Ffc_run (vals_1 : List Int) (r : Int) (h : Ffc vals_1=some r) : RunF Ffc_E Tryd.f80 [false] 0 (Ffc_A vals_1) (Ffc_R r):=by
 show Run _ _ (Ffc_Q vals_1 r) [.code Ffc_c] _
 refine rin (n:=18) [(0,.isl false ((vals_1).map I))] [] 1 (by kernel_rfl) (by kernel_rfl) (by kernel_rfl) rfl ?_
 unfold Ffc at h
 refine c0 12 [3,6] [I (0),.isl false ((vals_1).map I)] 49 (by kernel_rfl) ?_
 refine o 65 (I ((len vals_1))) rfl rfl (e_len rfl rfl rfl (l_isl rfl)) ?_
 refine c0 3 [8] [I (0)] 81 (by kernel_rfl) ?_
 obtain ⟨y4,hy4,hy41,hy42⟩:=bJ h
 refine s_loop rfl ?_
 refine run_forget [3,6,7,8] [] [] rfl rfl rfl rfl ?_
 refine Ffc_la_run vals_1 rfl hy4 (fun r' e st hq=>by rw [hy41 r' e] at hq; exact hq) (fun u4 hu=>?_)
 replace h:=hy42 u4 hu
 refine c0 5 [2] [I (0)] 33 (by kernel_rfl) ?_
 obtain rfl:=Option.some.inj h
 exact s_ret rfl ⟨_,fin (vs:=[I (0)]) rfl (absE (absorb_plain rfl) (absEN)) rfl (ou_f (ou_n)),kl_n⟩
theorem Ffc_good {G : Go.Ln.Ground} : Good Tryd.prog G 80 Ffc_ent:=good_T (fnOf_good (gl_n)) agree_mk (Checked.mixed Tryd.checked) Tryd.func80 (n:=1) (m:=0) ⟨rfl,rfl,by decide⟩ (fun _=>⟨rfl,rfl⟩) (fun a r h=>Ffc_run a r h)
def Fff_A : (Event × Event)→List V:=cA enc_Event (oA enc_Event)
def Fff_R (r : Int) : V × List V:=(I (r),[])
noncomputable def Fff_ent : Ent:=entT [false,false] Fff_A Fff_R fun x=>Fff x.1 x.2
theorem Fff_F {a_1 : Event} {b_2 : Event} {r} (h : Fff a_1 b_2=some r) : (Fff_ent).F (Fff_A (a_1,b_2))=some (Fff_R r):=entT_F (cA_inj enc_Event_inj (oA_inj enc_Event_inj)) h
noncomputable def Fff_c : Code:=bodyOf Tryd.f52
noncomputable def Fff_E : Env:=mkE Tryd.prog [(81,Ffa_ent),(82,Ffb_ent),(80,Ffc_ent)]
def Fff_Q (x : Event × Event) (r : Int) : St→Prop:=QF Fff_E Tryd.f52 [false,false] (Fff_A x) (Fff_R r)
theorem Fff_run (a_1 : Event) (b_2 : Event) (r : Int) (h : Fff a_1 b_2=some r) : RunF Fff_E Tryd.f52 [false,false] 0 (Fff_A (a_1,b_2)) (Fff_R r):=by
 show Run _ _ (Fff_Q (a_1,b_2) r) [.code Fff_c] _
 refine rin (n:=27) [(0,enc_Event a_1),(1,enc_Event b_2)] [] 1 (by kernel_rfl) (by kernel_rfl) (by kernel_rfl) rfl ?_
 unfold Fff at h
 refine ck 7 [2,3] [] [1,17] [] [.hp 1 0 [] 4 0 0,.hp 17 0 [] 4 0 0] [some ⟨0,4,[enc_Event a_1]⟩,some ⟨0,4,[enc_Event b_2]⟩] 49 (by kernel_rfl) ?_
 refine s_draw [0,1,0,4,15,0,32,0,128,511,0,1024,0,4096,16383,0,32768,0,131072,524287,1048575,2097151,4194303] rfl (by decide +kernel) ?_
 refine dp [1] [] (.hp 1 0 [] 4 0 0) rfl (e_fieldAddr rfl rfl rfl) rfl (rfl) (by decide) ?_
 refine dp [1] [] (I (a_1.Day)) rfl (e_ld rfl rfl) rfl (rfl) (by decide) ?_
 refine dp [17] [] (.hp 17 0 [] 4 0 0) rfl (e_fieldAddr rfl rfl rfl) rfl (rfl) (by decide) ?_
 refine dp [17] [] (I (b_2.Day)) rfl (e_ld rfl rfl) rfl (rfl) (by decide) ?_
 obtain ⟨r3,hr3,h⟩:=bS h
 refine dp [] [] (I (r3)) rfl (e_callV rfl rfl (call_P rfl rfl rfl (avS (shP rfl) (avS (shP rfl) (avN))) (Ffa_F hr3) (.inr rfl) (bl_n) rfl rfl rfl)) rfl (w_callO rfl rfl rfl rfl (avS (shP rfl) (avS (shP rfl) (avN))) (Ffa_F hr3) (.inr rfl) rfl) (by decide) ?_
 refine dp [1] [] (.hp 1 0 [] 4 0 1) rfl (e_fieldAddr rfl rfl rfl) rfl (rfl) (by decide) ?_
 refine dp [1] [] (I (a_1.Party)) rfl (e_ld rfl rfl) rfl (rfl) (by decide) ?_
 refine dp [17] [] (.hp 17 0 [] 4 0 1) rfl (e_fieldAddr rfl rfl rfl) rfl (rfl) (by decide) ?_
 refine dp [17] [] (I (b_2.Party)) rfl (e_ld rfl rfl) rfl (rfl) (by decide) ?_
 obtain ⟨r4,hr4,h⟩:=bS h
 refine dp [] [] (I (r4)) rfl (e_callV rfl rfl (call_P rfl rfl rfl (avS (shP rfl) (avS (shP rfl) (avN))) (Ffa_F hr4) (.inr rfl) (bl_n) rfl rfl rfl)) rfl (w_callO rfl rfl rfl rfl (avS (shP rfl) (avS (shP rfl) (avN))) (Ffa_F hr4) (.inr rfl) rfl) (by decide) ?_
 refine dp [1] [] (.hp 1 0 [] 4 0 2) rfl (e_fieldAddr rfl rfl rfl) rfl (rfl) (by decide) ?_
 refine dp [1] [] (str (a_1.Action)) rfl (e_ld rfl rfl) rfl (rfl) (by decide) ?_
 refine dp [17] [] (.hp 17 0 [] 4 0 2) rfl (e_fieldAddr rfl rfl rfl) rfl (rfl) (by decide) ?_
 refine dp [17] [] (str (b_2.Action)) rfl (e_ld rfl rfl) rfl (rfl) (by decide) ?_
 obtain ⟨r5,hr5,h⟩:=bS h
 refine dp [] [] (I (r5)) rfl (e_callV rfl rfl (call_P rfl rfl rfl (avS (shP rfl) (avS (shP rfl) (avN))) (Ffb_F hr5) (.inr rfl) (bl_n) rfl rfl rfl)) rfl (w_callO rfl rfl rfl rfl (avS (shP rfl) (avS (shP rfl) (avN))) (Ffb_F hr5) (.inr rfl) rfl) (by decide) ?_
 refine dp [1] [] (.hp 1 0 [] 4 0 3) rfl (e_fieldAddr rfl rfl rfl) rfl (rfl) (by decide) ?_
 refine dp [1] [] (I (a_1.Amount)) rfl (e_ld rfl rfl) rfl (rfl) (by decide) ?_
 refine dp [17] [] (.hp 17 0 [] 4 0 3) rfl (e_fieldAddr rfl rfl rfl) rfl (rfl) (by decide) ?_
 refine dp [17] [] (I (b_2.Amount)) rfl (e_ld rfl rfl) rfl (rfl) (by decide) ?_
 obtain ⟨r6,hr6,h⟩:=bS h
 refine dp [] [] (I (r6)) rfl (e_callV rfl rfl (call_P rfl rfl rfl (avS (shP rfl) (avS (shP rfl) (avN))) (Ffa_F hr6) (.inr rfl) (bl_n) rfl rfl rfl)) rfl (w_callO rfl rfl rfl rfl (avS (shP rfl) (avS (shP rfl) (avN))) (Ffa_F hr6) (.inr rfl) rfl) (by decide) ?_
 refine dp [] [] (.hs 369 0 [] 1 0 4) rfl (e_buildSlice rfl (bs_mk (f:=I) (xs:=[]) (z:=I (0)) (es:=[I (r3),I (r4),I (r5),I (r6)]) (ws:=[I (r3),I (r4),I (r5),I (r6)]) rfl rfl rfl (by decide) rfl (abs_each_plain rfl) rfl)) rfl (rfl) (by decide) ?_
 obtain ⟨r7,hr7,h⟩:=bS h
 refine dp [369] [] (I (r7)) rfl (e_callV rfl rfl (call_P rfl rfl rfl (avS (sh1 rfl rfl (sh_hsM (f:=I) (g:=I) (xs:=[r3,r4,r5,r6]) rfl rfl (imms_of I_imm))) (avN)) (Ffc_F hr7) (.inl (rfl)) (bl_n) rfl rfl rfl)) rfl (w_callO rfl rfl rfl rfl (avS (sh1 rfl rfl (sh_hsM (f:=I) (g:=I) (xs:=[r3,r4,r5,r6]) rfl rfl (imms_of I_imm))) (avN)) (Ffc_F hr7) (.inl (rfl)) rfl) (by decide) ?_
 refine dp [] [] (I (r7)) rfl (e_assign rfl) rfl (rfl) (by decide) ?_
 refine de 417 rfl rfl ?_
 obtain rfl:=Option.some.inj h
 exact s_ret rfl ⟨_,fin (vs:=[I (r7)]) rfl (absE (absorb_plain rfl) (absEN)) rfl (ou_f (ou_f (ou_n))),kl_n⟩
theorem Fff_good {G : Go.Ln.Ground} : Good Tryd.prog G 52 Fff_ent:=good_T (fnOf_good (gl_c Ffa_good (gl_c Ffb_good (gl_c Ffc_good (gl_n))))) agree_mk (Checked.mixed Tryd.checked) Tryd.func52 (n:=2) (m:=0) ⟨rfl,rfl,by decide⟩ (fun _=>⟨rfl,rfl⟩) (fun a r h=>Fff_run a.1 a.2 r h)
def Ffbh_A : ((List Event) × Unit)→List V:=cA (slE enc_Event) (oA (fun x : Unit=>(.fn 52 [] : V)))
def Ffbh_R (r : Bool) : V × List V:=(B (r),[])
noncomputable def Ffbh_ent : Ent:=entT [false,false] Ffbh_A Ffbh_R fun x=>Ffbh x.1 x.2
theorem Ffbh_F {x_1 : List Event} {cmp_2 : Unit} {r} (h : Ffbh x_1 cmp_2=some r) : (Ffbh_ent).F (Ffbh_A (x_1,cmp_2))=some (Ffbh_R r):=entT_F (cA_inj (isl_inj enc_Event_inj) (oA_inj (fn_inj0 ))) h
noncomputable def Ffbh_c : Code:=bodyOf Tryd.f51
noncomputable def Ffbh_E : Env:=mkE Tryd.prog [(52,Fff_ent)]
def Ffbh_Q (x : (List Event) × Unit) (r : Bool) : St→Prop:=QF Ffbh_E Tryd.f51 [false,false] (Ffbh_A x) (Ffbh_R r)
theorem Ffbh_la_run (x_1 : List Event) (cmp_2 : Unit)  {Q : St→Prop} {K : List It} (hK : noD K=true) {x3 : Int} {y : Bool ⊕ Unit} (h : Ffbh_la x_1 cmp_2 x3=some y) : (∀ r',y=.inl r'→∀ st,Ffbh_Q (x_1,cmp_2) r' st→Q st)→(∀ u : Unit,y=.inr u→Run Ffbh_E 0 Q K ⟨mkTm .dead 25 [],mkS (rtL [] 1),1⟩)→Run Ffbh_E 0 Q (.code (cL (cL (cR (cL (cR Ffbh_c))))) :: .lp (cL (cL (cR (cL (cR Ffbh_c))))) :: .blk 0 :: K) ⟨mkTm .dead 25 [(0,.isl false ((x_1).map enc_Event)),(1,.fn 52 []),(5,I (x3))],mkS (rtL [] 1),1⟩:=by
 refine fix_ind (P:=fun (x3 : Int) (y : Bool ⊕ Unit)=>(∀ r',y=.inl r'→∀ st,Ffbh_Q (x_1,cmp_2) r' st→Q st)→(∀ u : Unit,y=.inr u→Run Ffbh_E 0 Q K ⟨mkTm .dead 25 [],mkS (rtL [] 1),1⟩)→Run Ffbh_E 0 Q (.code (cL (cL (cR (cL (cR Ffbh_c))))) :: .lp (cL (cL (cR (cL (cR Ffbh_c))))) :: .blk 0 :: K) ⟨mkTm .dead 25 [(0,.isl false ((x_1).map enc_Event)),(1,.fn 52 []),(5,I (x3))],mkS (rtL [] 1),1⟩) (Ffbh_la_fin x_1 cmp_2) ?_ h
 clear h y x3
 intro self ih x3 y h hr hn
 unfold Ffbh_la_F at h
 refine c0 6 [10] [B ((decide (x3 > 0)))] 33 (by kernel_rfl) ?_
 refine sc h rfl rfl (fun h=>?_) (fun h=>?_)
 · refine ad 1 rfl ?_
   refine ad 3 rfl ?_
   refine s_draw [0,0,0,6,14,0,0,64,224,480,1023,2047] rfl (by decide +kernel) ?_
   refine dp [] [] (.fn 52 []) rfl (e_move rfl) rfl (rfl) (by decide) ?_
   refine dp [] [] (.isl false ((x_1).map enc_Event)) rfl (e_move rfl) rfl (rfl) (by decide) ?_
   refine dp [] [] (I (x3)) rfl (e_move rfl) rfl (rfl) (by decide) ?_
   obtain ⟨e4,he4,h⟩:=bS h
   refine dp [] [] (.iptr (enc_Event e4) 0) rfl (e_indexAddr rfl rfl rfl (ix_islE rfl rfl rfl rfl he4)) rfl (rfl) (by decide) ?_
   refine dp [] [] (enc_Event e4) rfl (e_ld rfl rfl) rfl (rfl) (by decide) ?_
   refine dp [] [] (.isl false ((x_1).map enc_Event)) rfl (e_move rfl) rfl (rfl) (by decide) ?_
   refine dp [] [] (I (x3)) rfl (e_move rfl) rfl (rfl) (by decide) ?_
   refine dp [] [] (I ((w64 (x3 - 1)))) rfl (e_bin rfl rfl rfl) rfl (rfl) (by decide) ?_
   obtain ⟨e5,he5,h⟩:=bS h
   refine dp [] [] (.iptr (enc_Event e5) 0) rfl (e_indexAddr rfl rfl rfl (ix_islE rfl rfl rfl rfl he5)) rfl (rfl) (by decide) ?_
   refine dp [] [] (enc_Event e5) rfl (e_ld rfl rfl) rfl (rfl) (by decide) ?_
   obtain ⟨r6,hr6,h⟩:=bS h
   refine dp [] [] (I (r6)) rfl (e_callV rfl rfl (call_P rfl rfl rfl (avS (shP rfl) (avS (shP rfl) (avN))) (Fff_F hr6) (.inr rfl) (bl_n) rfl rfl rfl)) rfl (w_callO rfl rfl rfl rfl (avS (shP rfl) (avS (shP rfl) (avN))) (Fff_F hr6) (.inr rfl) rfl) (by decide) ?_
   refine dp [] [] (B ((decide (r6 < 0)))) rfl (e_bin rfl rfl rfl) rfl (rfl) (by decide) ?_
   refine de 225 rfl rfl ?_
   refine sc h rfl rfl (fun h=>?_) (fun h=>?_)
   · refine c0 4 [4] [B (false)] 241 (by kernel_rfl) ?_
     exact s_ret rfl (hr _ (Option.some.inj h).symm _ ⟨_,fin (vs:=[B (false)]) rfl (absE (absorb_plain rfl) (absEN)) rfl (ou_f (ou_f (ou_n))),kl_n⟩)
   · refine ad 1 rfl ?_
     refine c0 6 [5] [I ((w64 (x3 - 1)))] 273 (by kernel_rfl) ?_
     refine s_lp ?_
     refine run_forget [0,1,5] [] [] rfl rfl rfl rfl ?_
     exact ih _ _ h hr hn
 · refine ad 1 rfl ?_
   refine run_forget [] [] [] rfl rfl rfl hK ?_
   exact hn _ (Option.some.inj h).symm
theorem Ffbh_run (x_1 : List Event) (cmp_2 : Unit) (r : Bool) (h : Ffbh x_1 cmp_2=some r) : RunF Ffbh_E Tryd.f51 [false,false] 0 (Ffbh_A (x_1,cmp_2)) (Ffbh_R r):=by
 show Run _ _ (Ffbh_Q (x_1,cmp_2) r) [.code Ffbh_c] _
 refine rin (n:=25) [(0,.isl false ((x_1).map enc_Event)),(1,.fn 52 [])] [] 1 (by kernel_rfl) (by kernel_rfl) (by kernel_rfl) rfl ?_
 unfold Ffbh at h
 refine c0 8 [6] [.isl false ((x_1).map enc_Event)] 33 (by kernel_rfl) ?_
 refine o 49 (I ((len x_1))) rfl rfl (e_len rfl rfl rfl (l_isl rfl)) ?_
 refine c0 4 [5] [I ((w64 ((len x_1) - 1)))] 81 (by kernel_rfl) ?_
 obtain ⟨y7,hy7,hy71,hy72⟩:=bJ h
 refine s_loop rfl ?_
 refine run_forget [0,1,5] [] [] rfl rfl rfl rfl ?_
 refine Ffbh_la_run x_1 cmp_2 rfl hy7 (fun r' e st hq=>by rw [hy71 r' e] at hq; exact hq) (fun u7 hu=>?_)
 replace h:=hy72 u7 hu
 refine c0 4 [4] [B (true)] 17 (by kernel_rfl) ?_
 obtain rfl:=Option.some.inj h
 exact s_ret rfl ⟨_,fin (vs:=[B (true)]) rfl (absE (absorb_plain rfl) (absEN)) rfl (ou_f (ou_f (ou_n))),kl_n⟩
theorem Ffbh_good {G : Go.Ln.Ground} : Good Tryd.prog G 51 Ffbh_ent:=good_T (fnOf_good (gl_c Fff_good (gl_n))) agree_mk (Checked.mixed Tryd.checked) Tryd.func51 (n:=2) (m:=0) ⟨rfl,rfl,by decide⟩ (fun _=>⟨rfl,rfl⟩) (fun a r h=>Ffbh_run a.1 a.2 r h)
def Ffg_A : ((List Event) × Int)→List V:=cA (slE enc_Event) (oA I)
def Ffg_R (r : Bool) : V × List V:=(B (r),[])
noncomputable def Ffg_ent : Ent:=entT [false,false] Ffg_A Ffg_R fun x=>Ffg x.1 x.2
theorem Ffg_F {list_1 : List Event} {parties_2 : Int} {r} (h : Ffg list_1 parties_2=some r) : (Ffg_ent).F (Ffg_A (list_1,parties_2))=some (Ffg_R r):=entT_F (cA_inj (isl_inj enc_Event_inj) (oA_inj I_inj)) h
noncomputable def Ffg_c : Code:=bodyOf Tryd.f16
noncomputable def Ffg_E : Env:=mkE Tryd.prog [(50,Ffk_ent),(51,Ffbh_ent)]
def Ffg_Q (x : (List Event) × Int) (r : Bool) : St→Prop:=QF Ffg_E Tryd.f16 [false,false] (Ffg_A x) (Ffg_R r)
theorem Ffg_run (list_1 : List Event) (parties_2 : Int) (r : Bool) (h : Ffg list_1 parties_2=some r) : RunF Ffg_E Tryd.f16 [false,false] 0 (Ffg_A (list_1,parties_2)) (Ffg_R r):=by
 show Run _ _ (Ffg_Q (list_1,parties_2) r) [.code Ffg_c] _
 refine rin (n:=12) [(0,.isl false ((list_1).map enc_Event)),(1,I (parties_2))] [] 1 (by kernel_rfl) (by kernel_rfl) (by kernel_rfl) rfl ?_
 unfold Ffg at h
 refine c0 8 [5,6] [.isl false ((list_1).map enc_Event),I (parties_2)] 49 (by kernel_rfl) ?_
 obtain ⟨r3,hr3,h⟩:=bS h
 refine o 65 (B (r3)) rfl rfl (e_callV rfl rfl (call_P rfl rfl rfl (avS (shP rfl) (avS (shP rfl) (avN))) (Ffk_F hr3) (.inr rfl) (bl_n) rfl rfl rfl)) ?_
 refine c0 1 [8] [B (r3)] 81 (by kernel_rfl) ?_
 obtain ⟨y4,hy4,hy41,hy42⟩:=bJ h
 have j4 : ∀ u4,y4=.inr u4→Run Ffg_E 0 (Ffg_Q (list_1,parties_2) r) (.code (cR (cR Ffg_c)) :: []) ⟨mkTm .dead 12 [(4,B (u4))],mkS (rtL [] 1),1⟩:=by
   intro u4 hu
   replace h:=hy42 u4 hu
   obtain rfl:=Option.some.inj h
   exact s_ret rfl ⟨_,fin (vs:=[B (u4)]) rfl (absE (absorb_plain rfl) (absEN)) rfl (ou_f (ou_f (ou_n))),kl_n⟩
 have r4 : ∀ r',y4=.inl r'→∀ st,Ffg_Q (list_1,parties_2) r' st→(Ffg_Q (list_1,parties_2) r) st:=fun r' e st hq=>by rw [hy41 r' e] at hq; exact hq
 replace h:=hy4
 refine sp 8 h rfl (fun h=>?_) (fun h=>?_)
 · refine c0 1 [9] [.isl false ((list_1).map enc_Event)] 97 (by kernel_rfl) ?_
   obtain ⟨r5,hr5,h⟩:=bS h
   refine og 113 (B (r5)) rfl rfl rfl rfl (e_callV rfl rfl (call_P rfl rfl rfl (avS (shP rfl) (avS (shP rfl) (avN))) (Ffbh_F hr5) (.inr rfl) (bl_n) rfl rfl rfl)) ?_
   refine c0 3 [4] [B (r5)] 145 (by kernel_rfl) ?_
   refine run_forget [4] [] [] rfl rfl rfl rfl ?_
   exact j4 _ (Option.some.inj h).symm
 · refine c0 5 [4] [B (false)] 145 (by kernel_rfl) ?_
   refine run_forget [4] [] [] rfl rfl rfl rfl ?_
   exact j4 _ (Option.some.inj h).symm
theorem Ffg_good {G : Go.Ln.Ground} : Good Tryd.prog G 16 Ffg_ent:=good_T (fnOf_good (gl_c Ffk_good (gl_c Ffbh_good (gl_n)))) agree_mk (Checked.mixed Tryd.checked) Tryd.func16 (n:=2) (m:=0) ⟨rfl,rfl,by decide⟩ (fun _=>⟨rfl,rfl⟩) (fun a r h=>Ffg_run a.1 a.2 r h)
def Ffbc_A : ((List Event))→List V:=oA (slE enc_Event)
def Ffbc_R (r : (List Event)) : V × List V:=(.usl 4 ((r).map enc_Event),[])
noncomputable def Ffbc_ent : Ent:=entT [false] Ffbc_A Ffbc_R fun x=>Ffbc x
theorem Ffbc_F {s_1 : List Event} {r} (h : Ffbc s_1=some r) : (Ffbc_ent).F (Ffbc_A s_1)=some (Ffbc_R r):=entT_F (oA_inj (isl_inj enc_Event_inj)) h
noncomputable def Ffbc_c : Code:=bodyOf Tryd.f56
noncomputable def Ffbc_E : Env:=mkE Tryd.prog []
def Ffbc_Q (x : (List Event)) (r : (List Event)) : St→Prop:=QF Ffbc_E Tryd.f56 [false] (Ffbc_A x) (Ffbc_R r)
theorem Ffbc_run (s_1 : List Event) (r : (List Event)) (h : Ffbc s_1=some r) : RunF Ffbc_E Tryd.f56 [false] 0 (Ffbc_A s_1) (Ffbc_R r):=by
 show Run _ _ (Ffbc_Q s_1 r) [.code Ffbc_c] _
 refine rin (n:=8) [(0,.isl false ((s_1).map enc_Event))] [] 1 (by kernel_rfl) (by kernel_rfl) (by kernel_rfl) rfl ?_
 unfold Ffbc at h
 refine c0 8 [3] [.isl false ((s_1).map enc_Event)] 33 (by kernel_rfl) ?_
 refine nq (f:=enc_Event) (xs:=s_1) true 49 rfl h rfl rfl rfl rfl (fun h=>?_) (fun h=>?_)
 · refine ad 1 rfl ?_
   refine s_cond rfl rfl (fun _=>?_) (fun hb=>by cases hb)
   refine c0 4 [2] [.isl true []] 65 (by kernel_rfl) ?_
   refine run_own 2 0 4 81 (.hs 65 0 [] 4 0 0) rfl rfl rfl rfl rfl ?_
   obtain rfl:=Option.some.inj h
   exact s_ret rfl ⟨_,fin (vs:=[.hs 65 0 [] 4 0 0]) rfl (absE (abs1 rfl (abs_hs rfl rfl)) (absEN)) rfl (ou_f (ou_n)),kl_n⟩
 · refine ad 1 rfl ?_
   refine s_cond rfl rfl (fun hb=>by cases hb) (fun _=>?_)
   refine ad 3 rfl ?_
   refine o 65 (.hs 49 0 [] 4 0 0) rfl rfl (e_buildSlice rfl (bs_mk (f:=I) (xs:=[]) (z:=.agg [I (0),I (0),str ([]),I (0)]) (es:=[]) (ws:=[]) rfl rfl rfl (by decide) rfl (abs_each_plain rfl) rfl)) ?_
   refine c0 1 [6] [.isl false ((s_1).map enc_Event)] 81 (by kernel_rfl) ?_
   obtain ⟨a2,ha2,h⟩:=bS h
   refine o 97 (.hs 81 0 [] 4 0 ((a2).map enc_Event).length) rfl rfl (e_append rfl rfl rfl rfl rfl (ap_hsM (path:=[]) (es0:=[]) (f:=enc_Event) (xs:=([] : List Event)) (ys:=s_1) rfl rfl (take_isl) rfl rfl rfl (rfl) rfl (by decide) enc_Event_cells ha2 rfl (to_n))) ?_
   refine c0 2 [2] [.hs 81 0 [] 4 0 ((a2).map enc_Event).length] 113 (by kernel_rfl) ?_
   obtain rfl:=Option.some.inj h
   exact s_ret rfl ⟨_,fin (vs:=[.hs 81 0 [] 4 0 ((a2).map enc_Event).length]) rfl (absE (abs1 rfl (abs_hs rfl rfl)) (absEN)) rfl (ou_f (ou_n)),kl_n⟩
theorem Ffbc_good {G : Go.Ln.Ground} : Good Tryd.prog G 56 Ffbc_ent:=good_T (fnOf_good (gl_n)) agree_mk (Checked.mixed Tryd.checked) Tryd.func56 (n:=1) (m:=0) ⟨rfl,rfl,by decide⟩ (fun _=>⟨rfl,rfl⟩) (fun a r h=>Ffbc_run a r h)
def Ffbb_A : Int→List V:=oA (V.int .u64)
def Ffbb_R (r : Int) : V × List V:=(I (r),[])
noncomputable def Ffbb_ent : Ent:=entT [false] Ffbb_A Ffbb_R fun x=>Ffbb x
theorem Ffbb_F {x_1 : Int} {r} (h : Ffbb x_1=some r) : (Ffbb_ent).F (Ffbb_A x_1)=some (Ffbb_R r):=entT_F (oA_inj (vint_inj (k:=.u64))) h
noncomputable def Ffbb_c : Code:=bodyOf Tryd.f124
noncomputable def Ffbb_E : Env:=mkE Tryd.prog []
def Ffbb_Q (x : Int) (r : Int) : St→Prop:=QF Ffbb_E Tryd.f124 [false] (Ffbb_A x) (Ffbb_R r)
theorem Ffbb_run (x_1 : Int) (r : Int) (h : Ffbb x_1=some r) : RunF Ffbb_E Tryd.f124 [false] 0 (Ffbb_A x_1) (Ffbb_R r):=by
 show Run _ _ (Ffbb_Q x_1 r) [.code Ffbb_c] _
 refine rin (n:=25) [(0,.int .u64 (x_1))] [] 1 (by kernel_rfl) (by kernel_rfl) (by kernel_rfl) rfl ?_
 unfold Ffbb at h
 refine c0 10 [2,4] [I (0),B ((decide (x_1 ≥ 4294967296)))] 49 (by kernel_rfl) ?_
 obtain ⟨u2,hu2,h⟩:=lJ h
 have j2 : Run Ffbb_E 0 (Ffbb_Q x_1 r) (.code (cR (cR Ffbb_c)) :: []) ⟨mkTm .dead 25 [(0,.int .u64 (u2.1)),(2,I (u2.2))],mkS (rtL [] 1),1⟩:=by
   refine c0 6 [8] [B ((decide (u2.1 ≥ 65536)))] 33 (by kernel_rfl) ?_
   obtain ⟨u3,hu3,h⟩:=lJ h
   have j3 : Run Ffbb_E 0 (Ffbb_Q x_1 r) (.code (cR (cR (cR Ffbb_c))) :: []) ⟨mkTm .dead 25 [(0,.int .u64 (u3.1)),(2,I (u3.2))],mkS (rtL [] 1),1⟩:=by
     refine c0 6 [14] [B ((decide (u3.1 ≥ 256)))] 33 (by kernel_rfl) ?_
     obtain ⟨u4,hu4,h⟩:=lJ h
     have j4 : Run Ffbb_E 0 (Ffbb_Q x_1 r) (.code (cR (cR (cR (cR Ffbb_c)))) :: []) ⟨mkTm .dead 25 [(0,.int .u64 (u4.1)),(2,I (u4.2))],mkS (rtL [] 1),1⟩:=by
       refine c0 5 [19,21] [I (u4.2),.int .u8 ((IntKind.u8.wrap u4.1))] 49 (by kernel_rfl) ?_
       obtain ⟨c5,hc5,h⟩:=bS h
       refine o 65 (.int .u8 ((c5.toNat : Int))) rfl rfl (e_index rfl rfl (i_str rfl rfl hc5)) ?_
       refine c0 4 [2] [I ((w64 (u4.2 + (IntKind.i64.wrap (c5.toNat : Int)))))] 113 (by kernel_rfl) ?_
       obtain rfl:=Option.some.inj h
       exact s_ret rfl ⟨_,fin (vs:=[I ((w64 (u4.2 + (IntKind.i64.wrap (c5.toNat : Int)))))]) rfl (absE (absorb_plain rfl) (absEN)) rfl (ou_f (ou_n)),kl_n⟩
     replace h:=hu4
     clear hu4
     refine scp h rfl rfl (fun h=>?_) (fun h=>?_)
     · refine c0 11 [0,2] [.int .u64 ((shrI .u64 u3.1 8)),I ((w64 (u3.2 + 8)))] 129 (by kernel_rfl) ?_
       refine run_forget [0,2] [] [] rfl rfl rfl rfl ?_
       subst h
       exact j4
     · refine ad 1 rfl ?_
       refine run_forget [0,2] [] [] rfl rfl rfl rfl ?_
       subst h
       exact j4
   replace h:=hu3
   clear hu3
   refine scp h rfl rfl (fun h=>?_) (fun h=>?_)
   · refine c0 11 [0,2] [.int .u64 ((shrI .u64 u2.1 16)),I ((w64 (u2.2 + 16)))] 129 (by kernel_rfl) ?_
     refine run_forget [0,2] [] [] rfl rfl rfl rfl ?_
     subst h
     exact j3
   · refine ad 1 rfl ?_
     refine run_forget [0,2] [] [] rfl rfl rfl rfl ?_
     subst h
     exact j3
 replace h:=hu2
 clear hu2
 refine scp h rfl rfl (fun h=>?_) (fun h=>?_)
 · refine c0 9 [0,2] [.int .u64 ((shrI .u64 x_1 32)),I (32)] 113 (by kernel_rfl) ?_
   refine run_forget [0,2] [] [] rfl rfl rfl rfl ?_
   subst h
   exact j2
 · refine ad 1 rfl ?_
   refine run_forget [0,2] [] [] rfl rfl rfl rfl ?_
   subst h
   exact j2
theorem Ffbb_good {G : Go.Ln.Ground} : Good Tryd.prog G 124 Ffbb_ent:=good_T (fnOf_good (gl_n)) agree_mk (Checked.mixed Tryd.checked) Tryd.func124 (n:=1) (m:=0) ⟨rfl,rfl,by decide⟩ (fun _=>⟨rfl,rfl⟩) (fun a r h=>Ffbb_run a r h)
def Ffba_A : Int→List V:=oA (V.int .u64)
def Ffba_R (r : Int) : V × List V:=(I (r),[])
noncomputable def Ffba_ent : Ent:=entT [false] Ffba_A Ffba_R fun x=>Ffba x
theorem Ffba_F {x_1 : Int} {r} (h : Ffba x_1=some r) : (Ffba_ent).F (Ffba_A x_1)=some (Ffba_R r):=entT_F (oA_inj (vint_inj (k:=.u64))) h
noncomputable def Ffba_c : Code:=bodyOf Tryd.f95
noncomputable def Ffba_E : Env:=mkE Tryd.prog [(124,Ffbb_ent)]
def Ffba_Q (x : Int) (r : Int) : St→Prop:=QF Ffba_E Tryd.f95 [false] (Ffba_A x) (Ffba_R r)
theorem Ffba_run (x_1 : Int) (r : Int) (h : Ffba x_1=some r) : RunF Ffba_E Tryd.f95 [false] 0 (Ffba_A x_1) (Ffba_R r):=by
 show Run _ _ (Ffba_Q x_1 r) [.code Ffba_c] _
 refine rin (n:=8) [(0,.int .u64 (x_1))] [] 1 (by kernel_rfl) (by kernel_rfl) (by kernel_rfl) rfl ?_
 unfold Ffba at h
 refine c0 5 [] [] 17 (by kernel_rfl) ?_
 refine s_cond rfl rfl (fun hb=>by cases hb) (fun _=>?_)
 refine c0 4 [6] [.int .u64 (x_1)] 33 (by kernel_rfl) ?_
 obtain ⟨r2,hr2,h⟩:=bS h
 refine o 49 (I (r2)) rfl rfl (e_callV rfl rfl (call_P rfl rfl rfl (avS (shP rfl) (avN)) (Ffbb_F hr2) (.inr rfl) (bl_n) rfl rfl rfl)) ?_
 refine c0 2 [2] [I (r2)] 65 (by kernel_rfl) ?_
 obtain rfl:=Option.some.inj h
 exact s_ret rfl ⟨_,fin (vs:=[I (r2)]) rfl (absE (absorb_plain rfl) (absEN)) rfl (ou_f (ou_n)),kl_n⟩
theorem Ffba_good {G : Go.Ln.Ground} : Good Tryd.prog G 95 Ffba_ent:=good_T (fnOf_good (gl_c Ffbb_good (gl_n))) agree_mk (Checked.mixed Tryd.checked) Tryd.func95 (n:=1) (m:=0) ⟨rfl,rfl,by decide⟩ (fun _=>⟨rfl,rfl⟩) (fun a r h=>Ffba_run a r h)
def Ffbm_A : ((List Event) × Int × Int × Unit)→List V:=cA (usE 4 enc_Event) (cA I (cA I (oA (fun x : Unit=>(.fn 52 [] : V)))))
def Ffbm_R (r : (List Event)) : V × List V:=(.tup [],[.usl 4 ((r).map enc_Event)])
noncomputable def Ffbm_ent : Ent:=entT [true,false,false,false] Ffbm_A Ffbm_R fun x=>Ffbm x.1 x.2.1 x.2.2.1 x.2.2.2
theorem Ffbm_F {data_16 : List Event} {a_17 : Int} {b_18 : Int} {cmp_19 : Unit} {r} (h : Ffbm data_16 a_17 b_18 cmp_19=some r) : (Ffbm_ent).F (Ffbm_A (data_16,a_17,b_18,cmp_19))=some (Ffbm_R r):=entT_F (cA_inj (usl_inj enc_Event_inj) (cA_inj I_inj (cA_inj I_inj (oA_inj (fn_inj0 ))))) h
noncomputable def Ffbm_c : Code:=bodyOf Tryd.f115
noncomputable def Ffbm_E : Env:=mkE Tryd.prog [(52,Fff_ent)]
def Ffbm_Q (x : (List Event) × Int × Int × Unit) (r : (List Event)) : St→Prop:=QF Ffbm_E Tryd.f115 [true,false,false,false] (Ffbm_A x) (Ffbm_R r)
theorem Ffbm_lb_run (data_16 : List Event) (a_17 : Int) (b_18 : Int) (cmp_19 : Unit) (x5 : Int × Int × Int × (List Event)) {Q : St→Prop} {K : List It} (hK : noD K=true) {x6 : Int × (List Event)} {y : ((List Event)) ⊕ ((List Event))} (h : Ffbm_lb data_16 a_17 b_18 cmp_19 x5 x6=some y) : (∀ r',y=.inl r'→∀ st,Ffbm_Q (data_16,a_17,b_18,cmp_19) r' st→Q st)→(∀ u : (List Event),y=.inr u→Run Ffbm_E 1 Q K ⟨mkTm .dead 53 [(0,.hs 1 0 [] 4 0 ((u).map enc_Event).length),(1,I (x5.1)),(2,I (x5.2.1)),(3,.fn 52 []),(8,I (x5.2.2.1))],mkS (rtL [⟨0,4,(u).map enc_Event⟩] 1),2⟩)→Run Ffbm_E 1 Q (.code (cL (cL (cR (cL (cL (cR (cL (cL (cR Ffbm_c))))))))) :: .lp (cL (cL (cR (cL (cL (cR (cL (cL (cR Ffbm_c))))))))) :: .blk 2 :: K) ⟨mkTm .dead 53 [(0,.hs 1 0 [] 4 0 ((x6.2).map enc_Event).length),(1,I (x5.1)),(2,I (x5.2.1)),(3,.fn 52 []),(8,I (x5.2.2.1)),(9,I (x6.1))],mkS (rtL [⟨0,4,(x6.2).map enc_Event⟩] 1),2⟩:=by
 refine fix_ind (P:=fun (x6 : Int × (List Event)) (y : ((List Event)) ⊕ ((List Event)))=>(∀ r',y=.inl r'→∀ st,Ffbm_Q (data_16,a_17,b_18,cmp_19) r' st→Q st)→(∀ u : (List Event),y=.inr u→Run Ffbm_E 1 Q K ⟨mkTm .dead 53 [(0,.hs 1 0 [] 4 0 ((u).map enc_Event).length),(1,I (x5.1)),(2,I (x5.2.1)),(3,.fn 52 []),(8,I (x5.2.2.1))],mkS (rtL [⟨0,4,(u).map enc_Event⟩] 1),2⟩)→Run Ffbm_E 1 Q (.code (cL (cL (cR (cL (cL (cR (cL (cL (cR Ffbm_c))))))))) :: .lp (cL (cL (cR (cL (cL (cR (cL (cL (cR Ffbm_c))))))))) :: .blk 2 :: K) ⟨mkTm .dead 53 [(0,.hs 1 0 [] 4 0 ((x6.2).map enc_Event).length),(1,I (x5.1)),(2,I (x5.2.1)),(3,.fn 52 []),(8,I (x5.2.2.1)),(9,I (x6.1))],mkS (rtL [⟨0,4,(x6.2).map enc_Event⟩] 1),2⟩) (Ffbm_lb_fin data_16 a_17 b_18 cmp_19 x5) ?_ h
 clear h y x6
 intro self ih x6 y h hr hn
 unfold Ffbm_lb_F at h
 refine ad 2 rfl ?_
 refine s_draw [0,0,3,7,15,15,15,111,239,15,15,1039,3599,7695,16383,32767,65535] rfl (by decide +kernel) ?_
 refine dp [] [] (I (x6.1)) rfl (e_move rfl) rfl (rfl) (by decide) ?_
 refine dp [] [] (I (x5.1)) rfl (e_move rfl) rfl (rfl) (by decide) ?_
 refine dp [] [] (B ((decide (x6.1 > x5.1)))) rfl (e_bin rfl rfl rfl) rfl (rfl) (by decide) ?_
 refine dp [] [] (B ((decide (x6.1 > x5.1)))) rfl (e_move rfl) rfl (rfl) (by decide) ?_
 obtain ⟨y7,hy7,hy71,hy72⟩:=bL h
 have j7 : ∀ u7,y7=.inr u7→Run Ffbm_E 1 Q (.code (cR (cL (cL (cL (cR (cL (cL (cR (cL (cL (cR Ffbm_c))))))))))) :: .code (cR (cL (cL (cR (cL (cL (cR (cL (cL (cR Ffbm_c)))))))))) :: .lp (cL (cL (cR (cL (cL (cR (cL (cL (cR Ffbm_c))))))))) :: .blk 2 :: K) ⟨mkTm .dead 53 [(0,.hs 1 0 [] 4 0 ((x6.2).map enc_Event).length),(1,I (x5.1)),(2,I (x5.2.1)),(3,.fn 52 []),(8,I (x5.2.2.1)),(9,I (x6.1)),(34,B (u7))],mkS (rtL [⟨0,4,(x6.2).map enc_Event⟩] 1),2⟩:=by
   intro u7 hu
   replace h:=hy72 u7 hu
   refine sc h rfl rfl (fun h=>?_) (fun h=>?_)
   · refine ad 1 rfl ?_
     refine ad 2 rfl ?_
     refine s_draw [0,0,0,0,8,0,0,64,224,480,0,0,3072,7168,16355,32739,65535,131071] rfl (by decide +kernel) ?_
     refine dp [] [] (.hs 1 0 [] 4 0 ((x6.2).map enc_Event).length) rfl (e_move rfl) rfl (rfl) (by decide) ?_
     refine dp [] [] (I (x6.1)) rfl (e_move rfl) rfl (rfl) (by decide) ?_
     refine dp [] [] (.hs 1 0 [] 4 0 ((x6.2).map enc_Event).length) rfl (e_move rfl) rfl (rfl) (by decide) ?_
     refine dp [] [] (I (x6.1)) rfl (e_move rfl) rfl (rfl) (by decide) ?_
     refine dp [] [] (I ((w64 (x6.1 - 1)))) rfl (e_bin rfl rfl rfl) rfl (rfl) (by decide) ?_
     refine dp [] [] (.hs 1 0 [] 4 0 ((x6.2).map enc_Event).length) rfl (e_move rfl) rfl (rfl) (by decide) ?_
     refine dp [] [] (I (x6.1)) rfl (e_move rfl) rfl (rfl) (by decide) ?_
     refine dp [] [] (I ((w64 (x6.1 - 1)))) rfl (e_bin rfl rfl rfl) rfl (rfl) (by decide) ?_
     obtain ⟨e8,he8,h⟩:=bS h
     refine dp [1] [] (.hp 1 0 [] 4 (0 + Int.toNat ((w64 (x6.1 - 1)))) 0) rfl (e_indexAddr rfl rfl rfl (ix_hsM (f:=enc_Event) (xs:=x6.2) rfl rfl rfl he8)) rfl (rfl) (by decide) ?_
     refine dp [1] [] (enc_Event e8) rfl (e_ld rfl (ld_at (path:=[]) rfl rfl rfl (ra_n) (get_map (f:=enc_Event) (xs:=x6.2) he8) rfl rfl rfl)) rfl (rfl) (by decide) ?_
     refine dp [] [] (.hs 1 0 [] 4 0 ((x6.2).map enc_Event).length) rfl (e_move rfl) rfl (rfl) (by decide) ?_
     refine dp [] [] (I (x6.1)) rfl (e_move rfl) rfl (rfl) (by decide) ?_
     obtain ⟨e9,he9,h⟩:=bS h
     refine dp [1] [] (.hp 1 0 [] 4 (0 + Int.toNat (x6.1)) 0) rfl (e_indexAddr rfl rfl rfl (ix_hsM (f:=enc_Event) (xs:=x6.2) rfl rfl rfl he9)) rfl (rfl) (by decide) ?_
     refine dp [1] [] (enc_Event e9) rfl (e_ld rfl (ld_at (path:=[]) rfl rfl rfl (ra_n) (get_map (f:=enc_Event) (xs:=x6.2) he9) rfl rfl rfl)) rfl (rfl) (by decide) ?_
     obtain ⟨e10,he10,h⟩:=bS h
     refine dp [1] [] (.hp 1 0 [] 4 (0 + Int.toNat (x6.1)) 0) rfl (e_indexAddr rfl rfl rfl (ix_hsM (f:=enc_Event) (xs:=x6.2) rfl rfl rfl he10)) rfl (rfl) (by decide) ?_
     obtain ⟨w11,hw11⟩ : ∃ w,getI (setI x6.2 x6.1 e8) (w64 (x6.1 - 1))=some w:=get_exI he8
     obtain ⟨w12,hw12⟩ : ∃ w,getI (setI x6.2 x6.1 e8) x6.1=some w:=get_exI he9
     refine dp0 [1] [1] rfl (e_st rfl rfl (st_at (path:=[]) (pl:=true) (e':=enc_Event e8) (es2':=((setI x6.2 x6.1 e8)).map enc_Event) rfl (absorb_plain rfl) rfl rfl rfl (ra_n) (get_map (f:=enc_Event) (xs:=x6.2) he10) rfl rfl rfl (set_map (f:=enc_Event) (xs:=x6.2) (y:=e8)) (sr_n) 0 rfl)) rfl (rfl) (by decide) ?_
     try rw [← len_setM (f:=enc_Event) (xs:=x6.2) (i:=x6.1) (z:=e8)]
     obtain ⟨e13,he13,h⟩:=bS h
     refine dp [1] [] (.hp 1 0 [] 4 (0 + Int.toNat ((w64 (x6.1 - 1)))) 0) rfl (e_indexAddr rfl rfl rfl (ix_hsM (f:=enc_Event) (xs:=(setI x6.2 x6.1 e8)) rfl rfl rfl he13)) rfl (rfl) (by decide) ?_
     obtain ⟨w14,hw14⟩ : ∃ w,getI (setI (setI x6.2 x6.1 e8) (w64 (x6.1 - 1)) e9) (w64 (x6.1 - 1))=some w:=get_exI hw11
     obtain ⟨w15,hw15⟩ : ∃ w,getI (setI (setI x6.2 x6.1 e8) (w64 (x6.1 - 1)) e9) x6.1=some w:=get_exI hw12
     obtain ⟨w16,hw16⟩ : ∃ w,getI (setI (setI x6.2 x6.1 e8) (w64 (x6.1 - 1)) e9) x6.1=some w:=get_exI (get_set he10)
     refine dp0 [1] [1] rfl (e_st rfl rfl (st_at (path:=[]) (pl:=true) (e':=enc_Event e9) (es2':=((setI (setI x6.2 x6.1 e8) (w64 (x6.1 - 1)) e9)).map enc_Event) rfl (absorb_plain rfl) rfl rfl rfl (ra_n) (get_map (f:=enc_Event) (xs:=(setI x6.2 x6.1 e8)) he13) rfl rfl rfl (set_map (f:=enc_Event) (xs:=(setI x6.2 x6.1 e8)) (y:=e9)) (sr_n) 0 rfl)) rfl (rfl) (by decide) ?_
     try rw [← len_setM (f:=enc_Event) (xs:=(setI x6.2 x6.1 e8)) (i:=(w64 (x6.1 - 1))) (z:=e9)]
     refine de 290 rfl rfl ?_
     refine c0 6 [9] [I ((w64 (x6.1 - 1)))] 338 (by kernel_rfl) ?_
     refine s_lp ?_
     refine run_forget [0,1,2,3,8,9] [1] [⟨0,4,((setI (setI x6.2 x6.1 e8) (w64 (x6.1 - 1)) e9)).map enc_Event⟩] rfl rfl rfl rfl ?_
     exact ih _ _ h hr hn
   · refine ad 1 rfl ?_
     refine run_forget [0,1,2,3,8] [1] [⟨0,4,(x6.2).map enc_Event⟩] rfl rfl rfl hK ?_
     exact hn _ (Option.some.inj h).symm
 have r7 : ∀ r',y7=.inl r'→∀ st,Ffbm_Q (data_16,a_17,b_18,cmp_19) r' st→Q st:=fun r' e st hq=>hr r' (hy71 r' e) st hq
 replace h:=hy7
 refine sp 21 h rfl (fun h=>?_) (fun h=>?_)
 · refine dg [] [] (.fn 52 []) rfl rfl rfl (e_move rfl) rfl (rfl) (by decide) ?_
   refine dg [] [] (.hs 1 0 [] 4 0 ((x6.2).map enc_Event).length) rfl rfl rfl (e_move rfl) rfl (rfl) (by decide) ?_
   refine dg [] [] (I (x6.1)) rfl rfl rfl (e_move rfl) rfl (rfl) (by decide) ?_
   obtain ⟨e17,he17,h⟩:=bS h
   refine dg [1] [] (.hp 1 0 [] 4 (0 + Int.toNat (x6.1)) 0) rfl rfl rfl (e_indexAddr rfl rfl rfl (ix_hsM (f:=enc_Event) (xs:=x6.2) rfl rfl rfl he17)) rfl (rfl) (by decide) ?_
   refine dg [1] [] (enc_Event e17) rfl rfl rfl (e_ld rfl (ld_at (path:=[]) rfl rfl rfl (ra_n) (get_map (f:=enc_Event) (xs:=x6.2) he17) rfl rfl rfl)) rfl (rfl) (by decide) ?_
   refine dg [] [] (.hs 1 0 [] 4 0 ((x6.2).map enc_Event).length) rfl rfl rfl (e_move rfl) rfl (rfl) (by decide) ?_
   refine dg [] [] (I (x6.1)) rfl rfl rfl (e_move rfl) rfl (rfl) (by decide) ?_
   refine dg [] [] (I ((w64 (x6.1 - 1)))) rfl rfl rfl (e_bin rfl rfl rfl) rfl (rfl) (by decide) ?_
   obtain ⟨e18,he18,h⟩:=bS h
   refine dg [1] [] (.hp 1 0 [] 4 (0 + Int.toNat ((w64 (x6.1 - 1)))) 0) rfl rfl rfl (e_indexAddr rfl rfl rfl (ix_hsM (f:=enc_Event) (xs:=x6.2) rfl rfl rfl he18)) rfl (rfl) (by decide) ?_
   refine dg [1] [] (enc_Event e18) rfl rfl rfl (e_ld rfl (ld_at (path:=[]) rfl rfl rfl (ra_n) (get_map (f:=enc_Event) (xs:=x6.2) he18) rfl rfl rfl)) rfl (rfl) (by decide) ?_
   obtain ⟨r19,hr19,h⟩:=bS h
   refine dg [] [] (I (r19)) rfl rfl rfl (e_callV rfl rfl (call_P rfl rfl rfl (avS (shP rfl) (avS (shP rfl) (avN))) (Fff_F hr19) (.inr rfl) (bl_n) rfl rfl rfl)) rfl (w_callO rfl rfl rfl rfl (avS (shP rfl) (avS (shP rfl) (avN))) (Fff_F hr19) (.inr rfl) rfl) (by decide) ?_
   refine dg [] [] (B ((decide (r19 < 0)))) rfl rfl rfl (e_bin rfl rfl rfl) rfl (rfl) (by decide) ?_
   refine dp [] [] (B ((decide (r19 < 0)))) rfl (e_pickT rfl rfl) rfl (rfl) (by decide) ?_
   refine de 274 rfl rfl ?_
   refine run_forget [0,1,2,3,8,9,34] [1] [⟨0,4,(x6.2).map enc_Event⟩] rfl rfl rfl rfl ?_
   exact j7 _ (Option.some.inj h).symm
 · refine ds rfl rfl rfl (by decide) ?_
   refine ds rfl rfl rfl (by decide) ?_
   refine ds rfl rfl rfl (by decide) ?_
   refine ds rfl rfl rfl (by decide) ?_
   refine ds rfl rfl rfl (by decide) ?_
   refine ds rfl rfl rfl (by decide) ?_
   refine ds rfl rfl rfl (by decide) ?_
   refine ds rfl rfl rfl (by decide) ?_
   refine ds rfl rfl rfl (by decide) ?_
   refine ds rfl rfl rfl (by decide) ?_
   refine ds rfl rfl rfl (by decide) ?_
   refine ds rfl rfl rfl (by decide) ?_
   refine dp [] [] (B (false)) rfl (e_pickF rfl rfl) rfl (rfl) (by decide) ?_
   refine de 274 rfl rfl ?_
   refine run_forget [0,1,2,3,8,9,34] [1] [⟨0,4,(x6.2).map enc_Event⟩] rfl rfl rfl rfl ?_
   exact j7 _ (Option.some.inj h).symm
theorem Ffbm_la_run (data_16 : List Event) (a_17 : Int) (b_18 : Int) (cmp_19 : Unit)  {Q : St→Prop} {K : List It} (hK : noD K=true) {x5 : Int × Int × Int × (List Event)} {y : ((List Event)) ⊕ ((List Event))} (h : Ffbm_la data_16 a_17 b_18 cmp_19 x5=some y) : (∀ r',y=.inl r'→∀ st,Ffbm_Q (data_16,a_17,b_18,cmp_19) r' st→Q st)→(∀ u : (List Event),y=.inr u→Run Ffbm_E 1 Q K ⟨mkTm .dead 53 [],mkS (rtL [⟨0,4,(u).map enc_Event⟩] 1),2⟩)→Run Ffbm_E 1 Q (.code (cL (cL (cR Ffbm_c))) :: .lp (cL (cL (cR Ffbm_c))) :: .blk 0 :: K) ⟨mkTm .dead 53 [(0,.hs 1 0 [] 4 0 ((x5.2.2.2).map enc_Event).length),(1,I (x5.1)),(2,I (x5.2.1)),(3,.fn 52 []),(8,I (x5.2.2.1))],mkS (rtL [⟨0,4,(x5.2.2.2).map enc_Event⟩] 1),2⟩:=by
 refine fix_ind (P:=fun (x5 : Int × Int × Int × (List Event)) (y : ((List Event)) ⊕ ((List Event)))=>(∀ r',y=.inl r'→∀ st,Ffbm_Q (data_16,a_17,b_18,cmp_19) r' st→Q st)→(∀ u : (List Event),y=.inr u→Run Ffbm_E 1 Q K ⟨mkTm .dead 53 [],mkS (rtL [⟨0,4,(u).map enc_Event⟩] 1),2⟩)→Run Ffbm_E 1 Q (.code (cL (cL (cR Ffbm_c))) :: .lp (cL (cL (cR Ffbm_c))) :: .blk 0 :: K) ⟨mkTm .dead 53 [(0,.hs 1 0 [] 4 0 ((x5.2.2.2).map enc_Event).length),(1,I (x5.1)),(2,I (x5.2.1)),(3,.fn 52 []),(8,I (x5.2.2.1))],mkS (rtL [⟨0,4,(x5.2.2.2).map enc_Event⟩] 1),2⟩) (Ffbm_la_fin data_16 a_17 b_18 cmp_19) ?_ h
 clear h y x5
 intro self ih x5 y h hr hn
 unfold Ffbm_la_F at h
 refine c0 7 [14] [B ((decide (x5.2.2.1 < x5.2.1)))] 50 (by kernel_rfl) ?_
 refine sc h rfl rfl (fun h=>?_) (fun h=>?_)
 · refine ad 1 rfl ?_
   refine c0 8 [9] [I (x5.2.2.1)] 82 (by kernel_rfl) ?_
   obtain ⟨y20,hy20,hy201,hy202⟩:=bL h
   refine s_loop rfl ?_
   refine run_forget [0,1,2,3,8,9] [1] [⟨0,4,(x5.2.2.2).map enc_Event⟩] rfl rfl rfl rfl ?_
   refine Ffbm_lb_run data_16 a_17 b_18 cmp_19 x5 rfl hy20 (fun r' e st hq=>hr r' (hy201 r' e) st hq) (fun u20 hu=>?_)
   replace h:=hy202 u20 hu
   refine c0 6 [8] [I ((w64 (x5.2.2.1 + 1)))] 50 (by kernel_rfl) ?_
   refine s_lp ?_
   refine run_forget [0,1,2,3,8] [1] [⟨0,4,(u20).map enc_Event⟩] rfl rfl rfl rfl ?_
   exact ih _ _ h hr hn
 · refine ad 1 rfl ?_
   refine run_forget [] [1] [⟨0,4,(x5.2.2.2).map enc_Event⟩] rfl rfl rfl hK ?_
   exact hn _ (Option.some.inj h).symm
theorem Ffbm_run (data_16 : List Event) (a_17 : Int) (b_18 : Int) (cmp_19 : Unit) (r : (List Event)) (h : Ffbm data_16 a_17 b_18 cmp_19=some r) : RunF Ffbm_E Tryd.f115 [true,false,false,false] 1 (Ffbm_A (data_16,a_17,b_18,cmp_19)) (Ffbm_R r):=by
 show Run _ _ (Ffbm_Q (data_16,a_17,b_18,cmp_19) r) [.code Ffbm_c] _
 refine rin (n:=53) [(0,.hs 1 0 [] 4 0 ((data_16).map enc_Event).length),(1,I (a_17)),(2,I (b_18)),(3,.fn 52 [])] [(1,some ⟨0,4,(data_16).map enc_Event⟩)] 2 (by kernel_rfl) (by kernel_rfl) (by kernel_rfl) rfl ?_
 unfold Ffbm at h
 refine c0 7 [8] [I ((w64 (a_17 + 1)))] 50 (by kernel_rfl) ?_
 obtain ⟨y21,hy21,hy211,hy212⟩:=bJ h
 refine s_loop rfl ?_
 refine run_forget [0,1,2,3,8] [1] [⟨0,4,(data_16).map enc_Event⟩] rfl rfl rfl rfl ?_
 refine Ffbm_la_run data_16 a_17 b_18 cmp_19 rfl hy21 (fun r' e st hq=>by rw [hy211 r' e] at hq; exact hq) (fun u21 hu=>?_)
 replace h:=hy212 u21 hu
 obtain ⟨g22,h⟩:=gG h
 obtain rfl:=Option.some.inj h
 exact s_end ⟨_,fin (vs:=[]) rfl (absEN) rfl (ou_1 rfl (oc_hsG (f:=enc_Event) (xs:=u21) (by simpa using g22) rfl) (ou_f (ou_f (ou_f (ou_n))))),kl_c (kl_n)⟩
theorem Ffbm_good {G : Go.Ln.Ground} : Good Tryd.prog G 115 Ffbm_ent:=good_T (fnOf_good (gl_c Fff_good (gl_n))) agree_mk (Checked.mixed Tryd.checked) Tryd.func115 (n:=4) (m:=1) ⟨rfl,rfl,by decide⟩ (fun _=>⟨rfl,rfl⟩) (fun a r h=>Ffbm_run a.1 a.2.1 a.2.2.1 a.2.2.2 r h)
def Ffbw_A : ((List Event) × Int × Int × Int × Unit)→List V:=cA (usE 4 enc_Event) (cA I (cA I (cA I (oA (fun x : Unit=>(.fn 52 [] : V))))))
def Ffbw_R (r : (List Event)) : V × List V:=(.tup [],[.usl 4 ((r).map enc_Event)])
noncomputable def Ffbw_ent : Ent:=entT [true,false,false,false,false] Ffbw_A Ffbw_R fun x=>Ffbw x.1 x.2.1 x.2.2.1 x.2.2.2.1 x.2.2.2.2
theorem Ffbw_F {data_19 : List Event} {lo_20 : Int} {hi_21 : Int} {first_22 : Int} {cmp_23 : Unit} {r} (h : Ffbw data_19 lo_20 hi_21 first_22 cmp_23=some r) : (Ffbw_ent).F (Ffbw_A (data_19,lo_20,hi_21,first_22,cmp_23))=some (Ffbw_R r):=entT_F (cA_inj (usl_inj enc_Event_inj) (cA_inj I_inj (cA_inj I_inj (cA_inj I_inj (oA_inj (fn_inj0 )))))) h
noncomputable def Ffbw_c : Code:=bodyOf Tryd.f134
noncomputable def Ffbw_E : Env:=mkE Tryd.prog [(52,Fff_ent)]
def Ffbw_Q (x : (List Event) × Int × Int × Int × Unit) (r : (List Event)) : St→Prop:=QF Ffbw_E Tryd.f134 [true,false,false,false,false] (Ffbw_A x) (Ffbw_R r)
theorem Ffbw_la_run (data_19 : List Event) (lo_20 : Int) (hi_21 : Int) (first_22 : Int) (cmp_23 : Unit)  {Q : St→Prop} {K : List It} (hK : noD K=true) {x6 : Int × (List Event)} {y : ((List Event)) ⊕ ((List Event))} (h : Ffbw_la data_19 lo_20 hi_21 first_22 cmp_23 x6=some y) : (∀ r',y=.inl r'→∀ st,Ffbw_Q (data_19,lo_20,hi_21,first_22,cmp_23) r' st→Q st)→(∀ u : (List Event),y=.inr u→Run Ffbw_E 1 Q K ⟨mkTm .dead 82 [],mkS (rtL [⟨0,4,(u).map enc_Event⟩] 1),2⟩)→Run Ffbw_E 1 Q (.code (cL (cL (cR Ffbw_c))) :: .lp (cL (cL (cR Ffbw_c))) :: .blk 0 :: K) ⟨mkTm .dead 82 [(0,.hs 1 0 [] 4 0 ((x6.2).map enc_Event).length),(2,I (hi_21)),(3,I (first_22)),(4,.fn 52 []),(10,I (x6.1))],mkS (rtL [⟨0,4,(x6.2).map enc_Event⟩] 1),2⟩:=by
 refine fix_ind (P:=fun (x6 : Int × (List Event)) (y : ((List Event)) ⊕ ((List Event)))=>(∀ r',y=.inl r'→∀ st,Ffbw_Q (data_19,lo_20,hi_21,first_22,cmp_23) r' st→Q st)→(∀ u : (List Event),y=.inr u→Run Ffbw_E 1 Q K ⟨mkTm .dead 82 [],mkS (rtL [⟨0,4,(u).map enc_Event⟩] 1),2⟩)→Run Ffbw_E 1 Q (.code (cL (cL (cR Ffbw_c))) :: .lp (cL (cL (cR Ffbw_c))) :: .blk 0 :: K) ⟨mkTm .dead 82 [(0,.hs 1 0 [] 4 0 ((x6.2).map enc_Event).length),(2,I (hi_21)),(3,I (first_22)),(4,.fn 52 []),(10,I (x6.1))],mkS (rtL [⟨0,4,(x6.2).map enc_Event⟩] 1),2⟩) (Ffbw_la_fin data_19 lo_20 hi_21 first_22 cmp_23) ?_ h
 clear h y x6
 intro self ih x6 y h hr hn
 unfold Ffbw_la_F at h
 refine c0 15 [11,18] [I ((w64 ((w64 (2 * x6.1)) + 1))),B ((decide ((w64 ((w64 (2 * x6.1)) + 1)) ≥ hi_21)))] 114 (by kernel_rfl) ?_
 refine sc h rfl rfl (fun h=>?_) (fun h=>?_)
 · refine ad 1 rfl ?_
   refine run_forget [] [1] [⟨0,4,(x6.2).map enc_Event⟩] rfl rfl rfl hK ?_
   exact hn _ (Option.some.inj h).symm
 · refine ad 1 rfl ?_
   refine ad 2 rfl ?_
   refine s_draw [0,1,0,7,15,31,31,31,31,415,991,2015,31,31,31,24607,57375,127007,258079,524287,1048575,2097151] rfl (by decide +kernel) ?_
   refine dp [] [] (I ((w64 ((w64 (2 * x6.1)) + 1)))) rfl (e_move rfl) rfl (rfl) (by decide) ?_
   refine dp [] [] (I ((w64 ((w64 ((w64 (2 * x6.1)) + 1)) + 1)))) rfl (e_bin rfl rfl rfl) rfl (rfl) (by decide) ?_
   refine dp [] [] (I (hi_21)) rfl (e_move rfl) rfl (rfl) (by decide) ?_
   refine dp [] [] (B ((decide ((w64 ((w64 ((w64 (2 * x6.1)) + 1)) + 1)) < hi_21)))) rfl (e_bin rfl rfl rfl) rfl (rfl) (by decide) ?_
   refine dp [] [] (B ((decide ((w64 ((w64 ((w64 (2 * x6.1)) + 1)) + 1)) < hi_21)))) rfl (e_move rfl) rfl (rfl) (by decide) ?_
   obtain ⟨y7,hy7,hy71,hy72⟩:=bL h
   have j7 : ∀ u7,y7=.inr u7→Run Ffbw_E 1 Q (.code (cR (cL (cR (cR (cL (cL (cL (cR Ffbw_c)))))))) :: .code (cR (cR (cR (cL (cL (cL (cR Ffbw_c))))))) :: .blk 1 :: .lp (cL (cL (cR Ffbw_c))) :: .blk 0 :: K) ⟨mkTm .dead 82 [(0,.hs 1 0 [] 4 0 ((x6.2).map enc_Event).length),(2,I (hi_21)),(3,I (first_22)),(4,.fn 52 []),(10,I (x6.1)),(11,I ((w64 ((w64 (2 * x6.1)) + 1)))),(40,B (u7))],mkS (rtL [⟨0,4,(x6.2).map enc_Event⟩] 1),2⟩:=by
     intro u7 hu
     replace h:=hy72 u7 hu
     obtain ⟨u8,hu8,h⟩:=lJ h
     have j8 : Run Ffbw_E 1 Q (.code (cR (cR (cR (cL (cL (cL (cR Ffbw_c))))))) :: .blk 1 :: .lp (cL (cL (cR Ffbw_c))) :: .blk 0 :: K) ⟨mkTm .dead 82 [(0,.hs 1 0 [] 4 0 ((x6.2).map enc_Event).length),(2,I (hi_21)),(3,I (first_22)),(4,.fn 52 []),(10,I (x6.1)),(11,I (u8))],mkS (rtL [⟨0,4,(x6.2).map enc_Event⟩] 1),2⟩:=by
       refine ad 2 rfl ?_
       refine s_draw [0,0,0,0,12,30,62,0,0,0,768,1920,3968,8191,16383,32767] rfl (by decide +kernel) ?_
       refine dp [] [] (.fn 52 []) rfl (e_move rfl) rfl (rfl) (by decide) ?_
       refine dp [] [] (.hs 1 0 [] 4 0 ((x6.2).map enc_Event).length) rfl (e_move rfl) rfl (rfl) (by decide) ?_
       refine dp [] [] (I (first_22)) rfl (e_move rfl) rfl (rfl) (by decide) ?_
       refine dp [] [] (I (x6.1)) rfl (e_move rfl) rfl (rfl) (by decide) ?_
       refine dp [] [] (I ((w64 (first_22 + x6.1)))) rfl (e_bin rfl rfl rfl) rfl (rfl) (by decide) ?_
       obtain ⟨e9,he9,h⟩:=bS h
       refine dp [1] [] (.hp 1 0 [] 4 (0 + Int.toNat ((w64 (first_22 + x6.1)))) 0) rfl (e_indexAddr rfl rfl rfl (ix_hsM (f:=enc_Event) (xs:=x6.2) rfl rfl rfl he9)) rfl (rfl) (by decide) ?_
       refine dp [1] [] (enc_Event e9) rfl (e_ld rfl (ld_at (path:=[]) rfl rfl rfl (ra_n) (get_map (f:=enc_Event) (xs:=x6.2) he9) rfl rfl rfl)) rfl (rfl) (by decide) ?_
       refine dp [] [] (.hs 1 0 [] 4 0 ((x6.2).map enc_Event).length) rfl (e_move rfl) rfl (rfl) (by decide) ?_
       refine dp [] [] (I (first_22)) rfl (e_move rfl) rfl (rfl) (by decide) ?_
       refine dp [] [] (I (u8)) rfl (e_move rfl) rfl (rfl) (by decide) ?_
       refine dp [] [] (I ((w64 (first_22 + u8)))) rfl (e_bin rfl rfl rfl) rfl (rfl) (by decide) ?_
       obtain ⟨e10,he10,h⟩:=bS h
       refine dp [1] [] (.hp 1 0 [] 4 (0 + Int.toNat ((w64 (first_22 + u8)))) 0) rfl (e_indexAddr rfl rfl rfl (ix_hsM (f:=enc_Event) (xs:=x6.2) rfl rfl rfl he10)) rfl (rfl) (by decide) ?_
       refine dp [1] [] (enc_Event e10) rfl (e_ld rfl (ld_at (path:=[]) rfl rfl rfl (ra_n) (get_map (f:=enc_Event) (xs:=x6.2) he10) rfl rfl rfl)) rfl (rfl) (by decide) ?_
       obtain ⟨r11,hr11,h⟩:=bS h
       refine dp [] [] (I (r11)) rfl (e_callV rfl rfl (call_P rfl rfl rfl (avS (shP rfl) (avS (shP rfl) (avN))) (Fff_F hr11) (.inr rfl) (bl_n) rfl rfl rfl)) rfl (w_callO rfl rfl rfl rfl (avS (shP rfl) (avS (shP rfl) (avN))) (Fff_F hr11) (.inr rfl) rfl) (by decide) ?_
       refine dp [] [] (B ((decide (r11 < 0)))) rfl (e_bin rfl rfl rfl) rfl (rfl) (by decide) ?_
       refine dp [] [] (B ((!(decide (r11 < 0))))) rfl (e_un rfl rfl) rfl (rfl) (by decide) ?_
       refine de 258 rfl rfl ?_
       refine sc h rfl rfl (fun h=>?_) (fun h=>?_)
       · obtain ⟨g12,h⟩:=gG h
         exact s_ret rfl (hr _ (Option.some.inj h).symm _ ⟨_,fin (vs:=[]) rfl (absEN) rfl (ou_1 rfl (oc_hsG (f:=enc_Event) (xs:=x6.2) (by simpa using g12) rfl) (ou_f (ou_f (ou_f (ou_f (ou_n)))))),kl_c (kl_n)⟩)
       · refine ad 1 rfl ?_
         refine ad 1 rfl ?_
         refine s_draw [0,0,0,6,0,0,0,96,0,0,0,1536,3840,7936,0,0,0,98304,245760,507904,1048335,2096911,4194303,8388607] rfl (by decide +kernel) ?_
         refine dp [] [] (.hs 1 0 [] 4 0 ((x6.2).map enc_Event).length) rfl (e_move rfl) rfl (rfl) (by decide) ?_
         refine dp [] [] (I (first_22)) rfl (e_move rfl) rfl (rfl) (by decide) ?_
         refine dp [] [] (I (x6.1)) rfl (e_move rfl) rfl (rfl) (by decide) ?_
         refine dp [] [] (I ((w64 (first_22 + x6.1)))) rfl (e_bin rfl rfl rfl) rfl (rfl) (by decide) ?_
         refine dp [] [] (.hs 1 0 [] 4 0 ((x6.2).map enc_Event).length) rfl (e_move rfl) rfl (rfl) (by decide) ?_
         refine dp [] [] (I (first_22)) rfl (e_move rfl) rfl (rfl) (by decide) ?_
         refine dp [] [] (I (u8)) rfl (e_move rfl) rfl (rfl) (by decide) ?_
         refine dp [] [] (I ((w64 (first_22 + u8)))) rfl (e_bin rfl rfl rfl) rfl (rfl) (by decide) ?_
         refine dp [] [] (.hs 1 0 [] 4 0 ((x6.2).map enc_Event).length) rfl (e_move rfl) rfl (rfl) (by decide) ?_
         refine dp [] [] (I (first_22)) rfl (e_move rfl) rfl (rfl) (by decide) ?_
         refine dp [] [] (I (u8)) rfl (e_move rfl) rfl (rfl) (by decide) ?_
         refine dp [] [] (I ((w64 (first_22 + u8)))) rfl (e_bin rfl rfl rfl) rfl (rfl) (by decide) ?_
         obtain ⟨e13,he13,h⟩:=bS h
         refine dp [1] [] (.hp 1 0 [] 4 (0 + Int.toNat ((w64 (first_22 + u8)))) 0) rfl (e_indexAddr rfl rfl rfl (ix_hsM (f:=enc_Event) (xs:=x6.2) rfl rfl rfl he13)) rfl (rfl) (by decide) ?_
         refine dp [1] [] (enc_Event e13) rfl (e_ld rfl (ld_at (path:=[]) rfl rfl rfl (ra_n) (get_map (f:=enc_Event) (xs:=x6.2) he13) rfl rfl rfl)) rfl (rfl) (by decide) ?_
         refine dp [] [] (.hs 1 0 [] 4 0 ((x6.2).map enc_Event).length) rfl (e_move rfl) rfl (rfl) (by decide) ?_
         refine dp [] [] (I (first_22)) rfl (e_move rfl) rfl (rfl) (by decide) ?_
         refine dp [] [] (I (x6.1)) rfl (e_move rfl) rfl (rfl) (by decide) ?_
         refine dp [] [] (I ((w64 (first_22 + x6.1)))) rfl (e_bin rfl rfl rfl) rfl (rfl) (by decide) ?_
         obtain ⟨e14,he14,h⟩:=bS h
         refine dp [1] [] (.hp 1 0 [] 4 (0 + Int.toNat ((w64 (first_22 + x6.1)))) 0) rfl (e_indexAddr rfl rfl rfl (ix_hsM (f:=enc_Event) (xs:=x6.2) rfl rfl rfl he14)) rfl (rfl) (by decide) ?_
         refine dp [1] [] (enc_Event e14) rfl (e_ld rfl (ld_at (path:=[]) rfl rfl rfl (ra_n) (get_map (f:=enc_Event) (xs:=x6.2) he14) rfl rfl rfl)) rfl (rfl) (by decide) ?_
         obtain ⟨e15,he15,h⟩:=bS h
         refine dp [1] [] (.hp 1 0 [] 4 (0 + Int.toNat ((w64 (first_22 + x6.1)))) 0) rfl (e_indexAddr rfl rfl rfl (ix_hsM (f:=enc_Event) (xs:=x6.2) rfl rfl rfl he15)) rfl (rfl) (by decide) ?_
         obtain ⟨w16,hw16⟩ : ∃ w,getI (setI x6.2 (w64 (first_22 + x6.1)) e13) (w64 (first_22 + x6.1))=some w:=get_exI he9
         obtain ⟨w17,hw17⟩ : ∃ w,getI (setI x6.2 (w64 (first_22 + x6.1)) e13) (w64 (first_22 + u8))=some w:=get_exI he10
         obtain ⟨w18,hw18⟩ : ∃ w,getI (setI x6.2 (w64 (first_22 + x6.1)) e13) (w64 (first_22 + u8))=some w:=get_exI he13
         obtain ⟨w19,hw19⟩ : ∃ w,getI (setI x6.2 (w64 (first_22 + x6.1)) e13) (w64 (first_22 + x6.1))=some w:=get_exI he14
         refine dp0 [1] [1] rfl (e_st rfl rfl (st_at (path:=[]) (pl:=true) (e':=enc_Event e13) (es2':=((setI x6.2 (w64 (first_22 + x6.1)) e13)).map enc_Event) rfl (absorb_plain rfl) rfl rfl rfl (ra_n) (get_map (f:=enc_Event) (xs:=x6.2) he15) rfl rfl rfl (set_map (f:=enc_Event) (xs:=x6.2) (y:=e13)) (sr_n) 0 rfl)) rfl (rfl) (by decide) ?_
         try rw [← len_setM (f:=enc_Event) (xs:=x6.2) (i:=(w64 (first_22 + x6.1))) (z:=e13)]
         obtain ⟨e20,he20,h⟩:=bS h
         refine dp [1] [] (.hp 1 0 [] 4 (0 + Int.toNat ((w64 (first_22 + u8)))) 0) rfl (e_indexAddr rfl rfl rfl (ix_hsM (f:=enc_Event) (xs:=(setI x6.2 (w64 (first_22 + x6.1)) e13)) rfl rfl rfl he20)) rfl (rfl) (by decide) ?_
         obtain ⟨w21,hw21⟩ : ∃ w,getI (setI (setI x6.2 (w64 (first_22 + x6.1)) e13) (w64 (first_22 + u8)) e14) (w64 (first_22 + x6.1))=some w:=get_exI hw16
         obtain ⟨w22,hw22⟩ : ∃ w,getI (setI (setI x6.2 (w64 (first_22 + x6.1)) e13) (w64 (first_22 + u8)) e14) (w64 (first_22 + u8))=some w:=get_exI hw17
         obtain ⟨w23,hw23⟩ : ∃ w,getI (setI (setI x6.2 (w64 (first_22 + x6.1)) e13) (w64 (first_22 + u8)) e14) (w64 (first_22 + u8))=some w:=get_exI hw18
         obtain ⟨w24,hw24⟩ : ∃ w,getI (setI (setI x6.2 (w64 (first_22 + x6.1)) e13) (w64 (first_22 + u8)) e14) (w64 (first_22 + x6.1))=some w:=get_exI hw19
         obtain ⟨w25,hw25⟩ : ∃ w,getI (setI (setI x6.2 (w64 (first_22 + x6.1)) e13) (w64 (first_22 + u8)) e14) (w64 (first_22 + x6.1))=some w:=get_exI (get_set he15)
         refine dp0 [1] [1] rfl (e_st rfl rfl (st_at (path:=[]) (pl:=true) (e':=enc_Event e14) (es2':=((setI (setI x6.2 (w64 (first_22 + x6.1)) e13) (w64 (first_22 + u8)) e14)).map enc_Event) rfl (absorb_plain rfl) rfl rfl rfl (ra_n) (get_map (f:=enc_Event) (xs:=(setI x6.2 (w64 (first_22 + x6.1)) e13)) he20) rfl rfl rfl (set_map (f:=enc_Event) (xs:=(setI x6.2 (w64 (first_22 + x6.1)) e13)) (y:=e14)) (sr_n) 0 rfl)) rfl (rfl) (by decide) ?_
         try rw [← len_setM (f:=enc_Event) (xs:=(setI x6.2 (w64 (first_22 + x6.1)) e13)) (i:=(w64 (first_22 + u8))) (z:=e14)]
         refine de 642 rfl rfl ?_
         refine c0 5 [10] [I (u8)] 674 (by kernel_rfl) ?_
         refine s_lp ?_
         refine run_forget [0,2,3,4,10] [1] [⟨0,4,((setI (setI x6.2 (w64 (first_22 + x6.1)) e13) (w64 (first_22 + u8)) e14)).map enc_Event⟩] rfl rfl rfl rfl ?_
         exact ih _ _ h hr hn
     replace h:=hu8
     clear hu8
     refine scp h rfl rfl (fun h=>?_) (fun h=>?_)
     · refine c0 5 [11] [I ((w64 ((w64 ((w64 (2 * x6.1)) + 1)) + 1)))] 50 (by kernel_rfl) ?_
       refine run_forget [0,2,3,4,10,11] [1] [⟨0,4,(x6.2).map enc_Event⟩] rfl rfl rfl rfl ?_
       subst h
       exact j8
     · refine ad 1 rfl ?_
       refine run_forget [0,2,3,4,10,11] [1] [⟨0,4,(x6.2).map enc_Event⟩] rfl rfl rfl rfl ?_
       subst h
       exact j8
   have r7 : ∀ r',y7=.inl r'→∀ st,Ffbw_Q (data_19,lo_20,hi_21,first_22,cmp_23) r' st→Q st:=fun r' e st hq=>hr r' (hy71 r' e) st hq
   replace h:=hy7
   refine sp 23 h rfl (fun h=>?_) (fun h=>?_)
   · refine dg [] [] (.fn 52 []) rfl rfl rfl (e_move rfl) rfl (rfl) (by decide) ?_
     refine dg [] [] (.hs 1 0 [] 4 0 ((x6.2).map enc_Event).length) rfl rfl rfl (e_move rfl) rfl (rfl) (by decide) ?_
     refine dg [] [] (I (first_22)) rfl rfl rfl (e_move rfl) rfl (rfl) (by decide) ?_
     refine dg [] [] (I ((w64 ((w64 (2 * x6.1)) + 1)))) rfl rfl rfl (e_move rfl) rfl (rfl) (by decide) ?_
     refine dg [] [] (I ((w64 (first_22 + (w64 ((w64 (2 * x6.1)) + 1)))))) rfl rfl rfl (e_bin rfl rfl rfl) rfl (rfl) (by decide) ?_
     obtain ⟨e26,he26,h⟩:=bS h
     refine dg [1] [] (.hp 1 0 [] 4 (0 + Int.toNat ((w64 (first_22 + (w64 ((w64 (2 * x6.1)) + 1)))))) 0) rfl rfl rfl (e_indexAddr rfl rfl rfl (ix_hsM (f:=enc_Event) (xs:=x6.2) rfl rfl rfl he26)) rfl (rfl) (by decide) ?_
     refine dg [1] [] (enc_Event e26) rfl rfl rfl (e_ld rfl (ld_at (path:=[]) rfl rfl rfl (ra_n) (get_map (f:=enc_Event) (xs:=x6.2) he26) rfl rfl rfl)) rfl (rfl) (by decide) ?_
     refine dg [] [] (.hs 1 0 [] 4 0 ((x6.2).map enc_Event).length) rfl rfl rfl (e_move rfl) rfl (rfl) (by decide) ?_
     refine dg [] [] (I (first_22)) rfl rfl rfl (e_move rfl) rfl (rfl) (by decide) ?_
     refine dg [] [] (I ((w64 ((w64 (2 * x6.1)) + 1)))) rfl rfl rfl (e_move rfl) rfl (rfl) (by decide) ?_
     refine dg [] [] (I ((w64 (first_22 + (w64 ((w64 (2 * x6.1)) + 1)))))) rfl rfl rfl (e_bin rfl rfl rfl) rfl (rfl) (by decide) ?_
     refine dg [] [] (I ((w64 ((w64 (first_22 + (w64 ((w64 (2 * x6.1)) + 1)))) + 1)))) rfl rfl rfl (e_bin rfl rfl rfl) rfl (rfl) (by decide) ?_
     obtain ⟨e27,he27,h⟩:=bS h
     refine dg [1] [] (.hp 1 0 [] 4 (0 + Int.toNat ((w64 ((w64 (first_22 + (w64 ((w64 (2 * x6.1)) + 1)))) + 1)))) 0) rfl rfl rfl (e_indexAddr rfl rfl rfl (ix_hsM (f:=enc_Event) (xs:=x6.2) rfl rfl rfl he27)) rfl (rfl) (by decide) ?_
     refine dg [1] [] (enc_Event e27) rfl rfl rfl (e_ld rfl (ld_at (path:=[]) rfl rfl rfl (ra_n) (get_map (f:=enc_Event) (xs:=x6.2) he27) rfl rfl rfl)) rfl (rfl) (by decide) ?_
     obtain ⟨r28,hr28,h⟩:=bS h
     refine dg [] [] (I (r28)) rfl rfl rfl (e_callV rfl rfl (call_P rfl rfl rfl (avS (shP rfl) (avS (shP rfl) (avN))) (Fff_F hr28) (.inr rfl) (bl_n) rfl rfl rfl)) rfl (w_callO rfl rfl rfl rfl (avS (shP rfl) (avS (shP rfl) (avN))) (Fff_F hr28) (.inr rfl) rfl) (by decide) ?_
     refine dg [] [] (B ((decide (r28 < 0)))) rfl rfl rfl (e_bin rfl rfl rfl) rfl (rfl) (by decide) ?_
     refine dp [] [] (B ((decide (r28 < 0)))) rfl (e_pickT rfl rfl) rfl (rfl) (by decide) ?_
     refine de 466 rfl rfl ?_
     refine run_forget [0,2,3,4,10,11,40] [1] [⟨0,4,(x6.2).map enc_Event⟩] rfl rfl rfl rfl ?_
     exact j7 _ (Option.some.inj h).symm
   · refine ds rfl rfl rfl (by decide) ?_
     refine ds rfl rfl rfl (by decide) ?_
     refine ds rfl rfl rfl (by decide) ?_
     refine ds rfl rfl rfl (by decide) ?_
     refine ds rfl rfl rfl (by decide) ?_
     refine ds rfl rfl rfl (by decide) ?_
     refine ds rfl rfl rfl (by decide) ?_
     refine ds rfl rfl rfl (by decide) ?_
     refine ds rfl rfl rfl (by decide) ?_
     refine ds rfl rfl rfl (by decide) ?_
     refine ds rfl rfl rfl (by decide) ?_
     refine ds rfl rfl rfl (by decide) ?_
     refine ds rfl rfl rfl (by decide) ?_
     refine ds rfl rfl rfl (by decide) ?_
     refine ds rfl rfl rfl (by decide) ?_
     refine ds rfl rfl rfl (by decide) ?_
     refine dp [] [] (B (false)) rfl (e_pickF rfl rfl) rfl (rfl) (by decide) ?_
     refine de 466 rfl rfl ?_
     refine run_forget [0,2,3,4,10,11,40] [1] [⟨0,4,(x6.2).map enc_Event⟩] rfl rfl rfl rfl ?_
     exact j7 _ (Option.some.inj h).symm
theorem Ffbw_run (data_19 : List Event) (lo_20 : Int) (hi_21 : Int) (first_22 : Int) (cmp_23 : Unit) (r : (List Event)) (h : Ffbw data_19 lo_20 hi_21 first_22 cmp_23=some r) : RunF Ffbw_E Tryd.f134 [true,false,false,false,false] 1 (Ffbw_A (data_19,lo_20,hi_21,first_22,cmp_23)) (Ffbw_R r):=by
 show Run _ _ (Ffbw_Q (data_19,lo_20,hi_21,first_22,cmp_23) r) [.code Ffbw_c] _
 refine rin (n:=82) [(0,.hs 1 0 [] 4 0 ((data_19).map enc_Event).length),(1,I (lo_20)),(2,I (hi_21)),(3,I (first_22)),(4,.fn 52 [])] [(1,some ⟨0,4,(data_19).map enc_Event⟩)] 2 (by kernel_rfl) (by kernel_rfl) (by kernel_rfl) rfl ?_
 unfold Ffbw at h
 refine c0 6 [10] [I (lo_20)] 34 (by kernel_rfl) ?_
 obtain ⟨y29,hy29,hy291,hy292⟩:=bJ h
 refine s_loop rfl ?_
 refine run_forget [0,2,3,4,10] [1] [⟨0,4,(data_19).map enc_Event⟩] rfl rfl rfl rfl ?_
 refine Ffbw_la_run data_19 lo_20 hi_21 first_22 cmp_23 rfl hy29 (fun r' e st hq=>by rw [hy291 r' e] at hq; exact hq) (fun u29 hu=>?_)
 replace h:=hy292 u29 hu
 obtain ⟨g30,h⟩:=gG h
 obtain rfl:=Option.some.inj h
 exact s_end ⟨_,fin (vs:=[]) rfl (absEN) rfl (ou_1 rfl (oc_hsG (f:=enc_Event) (xs:=u29) (by simpa using g30) rfl) (ou_f (ou_f (ou_f (ou_f (ou_n)))))),kl_c (kl_n)⟩
theorem Ffbw_good {G : Go.Ln.Ground} : Good Tryd.prog G 134 Ffbw_ent:=good_T (fnOf_good (gl_c Fff_good (gl_n))) agree_mk (Checked.mixed Tryd.checked) Tryd.func134 (n:=5) (m:=1) ⟨rfl,rfl,by decide⟩ (fun _=>⟨rfl,rfl⟩) (fun a r h=>Ffbw_run a.1 a.2.1 a.2.2.1 a.2.2.2.1 a.2.2.2.2 r h)
def Ffbl_A : ((List Event) × Int × Int × Unit)→List V:=cA (usE 4 enc_Event) (cA I (cA I (oA (fun x : Unit=>(.fn 52 [] : V)))))
def Ffbl_R (r : (List Event)) : V × List V:=(.tup [],[.usl 4 ((r).map enc_Event)])
noncomputable def Ffbl_ent : Ent:=entT [true,false,false,false] Ffbl_A Ffbl_R fun x=>Ffbl x.1 x.2.1 x.2.2.1 x.2.2.2
theorem Ffbl_F {data_12 : List Event} {a_13 : Int} {b_14 : Int} {cmp_15 : Unit} {r} (h : Ffbl data_12 a_13 b_14 cmp_15=some r) : (Ffbl_ent).F (Ffbl_A (data_12,a_13,b_14,cmp_15))=some (Ffbl_R r):=entT_F (cA_inj (usl_inj enc_Event_inj) (cA_inj I_inj (cA_inj I_inj (oA_inj (fn_inj0 ))))) h
noncomputable def Ffbl_c : Code:=bodyOf Tryd.f116
noncomputable def Ffbl_E : Env:=mkE Tryd.prog [(134,Ffbw_ent)]
def Ffbl_Q (x : (List Event) × Int × Int × Unit) (r : (List Event)) : St→Prop:=QF Ffbl_E Tryd.f116 [true,false,false,false] (Ffbl_A x) (Ffbl_R r)
theorem Ffbl_la_run (data_12 : List Event) (a_13 : Int) (b_14 : Int) (cmp_15 : Unit)  {Q : St→Prop} {K : List It} (hK : noD K=true) {x5 : Int × (List Event)} {y : ((List Event)) ⊕ (Int × Int × (List Event))} (h : Ffbl_la data_12 a_13 b_14 cmp_15 x5=some y) : (∀ r',y=.inl r'→∀ st,Ffbl_Q (data_12,a_13,b_14,cmp_15) r' st→Q st)→(∀ u : Int × Int × (List Event),y=.inr u→Run Ffbl_E 1 Q K ⟨mkTm .dead 60 [(0,.hs 1 0 [] 4 0 ((u.2.2).map enc_Event).length),(3,.fn 52 []),(8,I (u.1)),(9,I (0)),(10,I (u.2.1))],mkS (rtL [⟨0,4,(u.2.2).map enc_Event⟩] 1),2⟩)→Run Ffbl_E 1 Q (.code (cL (cL (cR (cL (cR (cR (cR Ffbl_c))))))) :: .lp (cL (cL (cR (cL (cR (cR (cR Ffbl_c))))))) :: .blk 0 :: K) ⟨mkTm .dead 60 [(0,.hs 1 0 [] 4 0 ((x5.2).map enc_Event).length),(3,.fn 52 []),(8,I (a_13)),(9,I (0)),(10,I ((w64 (b_14 - a_13)))),(11,I (x5.1))],mkS (rtL [⟨0,4,(x5.2).map enc_Event⟩] 1),2⟩:=by
 refine fix_ind (P:=fun (x5 : Int × (List Event)) (y : ((List Event)) ⊕ (Int × Int × (List Event)))=>(∀ r',y=.inl r'→∀ st,Ffbl_Q (data_12,a_13,b_14,cmp_15) r' st→Q st)→(∀ u : Int × Int × (List Event),y=.inr u→Run Ffbl_E 1 Q K ⟨mkTm .dead 60 [(0,.hs 1 0 [] 4 0 ((u.2.2).map enc_Event).length),(3,.fn 52 []),(8,I (u.1)),(9,I (0)),(10,I (u.2.1))],mkS (rtL [⟨0,4,(u.2.2).map enc_Event⟩] 1),2⟩)→Run Ffbl_E 1 Q (.code (cL (cL (cR (cL (cR (cR (cR Ffbl_c))))))) :: .lp (cL (cL (cR (cL (cR (cR (cR Ffbl_c))))))) :: .blk 0 :: K) ⟨mkTm .dead 60 [(0,.hs 1 0 [] 4 0 ((x5.2).map enc_Event).length),(3,.fn 52 []),(8,I (a_13)),(9,I (0)),(10,I ((w64 (b_14 - a_13)))),(11,I (x5.1))],mkS (rtL [⟨0,4,(x5.2).map enc_Event⟩] 1),2⟩) (Ffbl_la_fin data_12 a_13 b_14 cmp_15) ?_ h
 clear h y x5
 intro self ih x5 y h hr hn
 unfold Ffbl_la_F at h
 refine c0 6 [21] [B ((decide (x5.1 ≥ 0)))] 34 (by kernel_rfl) ?_
 refine sc h rfl rfl (fun h=>?_) (fun h=>?_)
 · refine ad 1 rfl ?_
   refine c0 8 [24,25,26,27,28] [.hs 1 0 [] 4 0 ((x5.2).map enc_Event).length,I (x5.1),I ((w64 (b_14 - a_13))),I (a_13),.fn 52 []] 114 (by kernel_rfl) ?_
   obtain ⟨r6,hr6,h⟩:=bS h
   obtain ⟨g7,h⟩:=gG h
   refine o 130 (.tup []) rfl rfl (e_callV rfl rfl (call_P rfl rfl rfl (avO (hd1 rfl (hd_hs (path:=[]) rfl rfl (ra_n) rfl)) (avS (shP rfl) (avS (shP rfl) (avS (shP rfl) (avS (shP rfl) (avN)))))) (Ffbw_F hr6) (.inr rfl) (bl_c rfl rfl rfl rfl (bl_n)) rfl rfl rfl)) ?_
   try rw [len_eqM (f:=enc_Event) (xs:=x5.2) (ys:=r6) g7]
   refine c0 7 [11] [I ((w64 (x5.1 - 1)))] 178 (by kernel_rfl) ?_
   refine s_lp ?_
   refine run_forget [0,3,8,9,10,11] [1] [⟨1,4,(r6).map enc_Event⟩] rfl rfl rfl rfl ?_
   exact ih _ _ h hr hn
 · refine ad 1 rfl ?_
   refine run_forget [0,3,8,9,10] [1] [⟨0,4,(x5.2).map enc_Event⟩] rfl rfl rfl hK ?_
   exact hn _ (Option.some.inj h).symm
theorem Ffbl_lb_run (data_12 : List Event) (a_13 : Int) (b_14 : Int) (cmp_15 : Unit) (u8 : Int × Int × (List Event)) {Q : St→Prop} {K : List It} (hK : noD K=true) {x9 : Int × (List Event)} {y : ((List Event)) ⊕ ((List Event))} (h : Ffbl_lb data_12 a_13 b_14 cmp_15 u8 x9=some y) : (∀ r',y=.inl r'→∀ st,Ffbl_Q (data_12,a_13,b_14,cmp_15) r' st→Q st)→(∀ u : (List Event),y=.inr u→Run Ffbl_E 1 Q K ⟨mkTm .dead 60 [],mkS (rtL [⟨0,4,(u).map enc_Event⟩] 1),2⟩)→Run Ffbl_E 1 Q (.code (cL (cL (cR (cR (cR (cR (cR Ffbl_c))))))) :: .lp (cL (cL (cR (cR (cR (cR (cR Ffbl_c))))))) :: .blk 2 :: K) ⟨mkTm .dead 60 [(0,.hs 1 0 [] 4 0 ((x9.2).map enc_Event).length),(3,.fn 52 []),(8,I (u8.1)),(9,I (0)),(12,I (x9.1))],mkS (rtL [⟨0,4,(x9.2).map enc_Event⟩] 1),2⟩:=by
 refine fix_ind (P:=fun (x9 : Int × (List Event)) (y : ((List Event)) ⊕ ((List Event)))=>(∀ r',y=.inl r'→∀ st,Ffbl_Q (data_12,a_13,b_14,cmp_15) r' st→Q st)→(∀ u : (List Event),y=.inr u→Run Ffbl_E 1 Q K ⟨mkTm .dead 60 [],mkS (rtL [⟨0,4,(u).map enc_Event⟩] 1),2⟩)→Run Ffbl_E 1 Q (.code (cL (cL (cR (cR (cR (cR (cR Ffbl_c))))))) :: .lp (cL (cL (cR (cR (cR (cR (cR Ffbl_c))))))) :: .blk 2 :: K) ⟨mkTm .dead 60 [(0,.hs 1 0 [] 4 0 ((x9.2).map enc_Event).length),(3,.fn 52 []),(8,I (u8.1)),(9,I (0)),(12,I (x9.1))],mkS (rtL [⟨0,4,(x9.2).map enc_Event⟩] 1),2⟩) (Ffbl_lb_fin data_12 a_13 b_14 cmp_15 u8) ?_ h
 clear h y x9
 intro self ih x9 y h hr hn
 unfold Ffbl_lb_F at h
 refine c0 6 [33] [B ((decide (x9.1 ≥ 0)))] 34 (by kernel_rfl) ?_
 refine sc h rfl rfl (fun h=>?_) (fun h=>?_)
 · refine ad 1 rfl ?_
   refine ad 3 rfl ?_
   refine s_draw [0,0,0,0,0,24,0,0,0,384,960,1984,0,0,12288,28672,65475,131011,262143,524287] rfl (by decide +kernel) ?_
   refine dp [] [] (.hs 1 0 [] 4 0 ((x9.2).map enc_Event).length) rfl (e_move rfl) rfl (rfl) (by decide) ?_
   refine dp [] [] (I (u8.1)) rfl (e_move rfl) rfl (rfl) (by decide) ?_
   refine dp [] [] (.hs 1 0 [] 4 0 ((x9.2).map enc_Event).length) rfl (e_move rfl) rfl (rfl) (by decide) ?_
   refine dp [] [] (I (u8.1)) rfl (e_move rfl) rfl (rfl) (by decide) ?_
   refine dp [] [] (I (x9.1)) rfl (e_move rfl) rfl (rfl) (by decide) ?_
   refine dp [] [] (I ((w64 (u8.1 + x9.1)))) rfl (e_bin rfl rfl rfl) rfl (rfl) (by decide) ?_
   refine dp [] [] (.hs 1 0 [] 4 0 ((x9.2).map enc_Event).length) rfl (e_move rfl) rfl (rfl) (by decide) ?_
   refine dp [] [] (I (u8.1)) rfl (e_move rfl) rfl (rfl) (by decide) ?_
   refine dp [] [] (I (x9.1)) rfl (e_move rfl) rfl (rfl) (by decide) ?_
   refine dp [] [] (I ((w64 (u8.1 + x9.1)))) rfl (e_bin rfl rfl rfl) rfl (rfl) (by decide) ?_
   obtain ⟨e10,he10,h⟩:=bS h
   refine dp [1] [] (.hp 1 0 [] 4 (0 + Int.toNat ((w64 (u8.1 + x9.1)))) 0) rfl (e_indexAddr rfl rfl rfl (ix_hsM (f:=enc_Event) (xs:=x9.2) rfl rfl rfl he10)) rfl (rfl) (by decide) ?_
   refine dp [1] [] (enc_Event e10) rfl (e_ld rfl (ld_at (path:=[]) rfl rfl rfl (ra_n) (get_map (f:=enc_Event) (xs:=x9.2) he10) rfl rfl rfl)) rfl (rfl) (by decide) ?_
   refine dp [] [] (.hs 1 0 [] 4 0 ((x9.2).map enc_Event).length) rfl (e_move rfl) rfl (rfl) (by decide) ?_
   refine dp [] [] (I (u8.1)) rfl (e_move rfl) rfl (rfl) (by decide) ?_
   obtain ⟨e11,he11,h⟩:=bS h
   refine dp [1] [] (.hp 1 0 [] 4 (0 + Int.toNat (u8.1)) 0) rfl (e_indexAddr rfl rfl rfl (ix_hsM (f:=enc_Event) (xs:=x9.2) rfl rfl rfl he11)) rfl (rfl) (by decide) ?_
   refine dp [1] [] (enc_Event e11) rfl (e_ld rfl (ld_at (path:=[]) rfl rfl rfl (ra_n) (get_map (f:=enc_Event) (xs:=x9.2) he11) rfl rfl rfl)) rfl (rfl) (by decide) ?_
   obtain ⟨e12,he12,h⟩:=bS h
   refine dp [1] [] (.hp 1 0 [] 4 (0 + Int.toNat (u8.1)) 0) rfl (e_indexAddr rfl rfl rfl (ix_hsM (f:=enc_Event) (xs:=x9.2) rfl rfl rfl he12)) rfl (rfl) (by decide) ?_
   obtain ⟨w13,hw13⟩ : ∃ w,getI (setI x9.2 u8.1 e10) (w64 (u8.1 + x9.1))=some w:=get_exI he10
   obtain ⟨w14,hw14⟩ : ∃ w,getI (setI x9.2 u8.1 e10) u8.1=some w:=get_exI he11
   refine dp0 [1] [1] rfl (e_st rfl rfl (st_at (path:=[]) (pl:=true) (e':=enc_Event e10) (es2':=((setI x9.2 u8.1 e10)).map enc_Event) rfl (absorb_plain rfl) rfl rfl rfl (ra_n) (get_map (f:=enc_Event) (xs:=x9.2) he12) rfl rfl rfl (set_map (f:=enc_Event) (xs:=x9.2) (y:=e10)) (sr_n) 0 rfl)) rfl (rfl) (by decide) ?_
   try rw [← len_setM (f:=enc_Event) (xs:=x9.2) (i:=u8.1) (z:=e10)]
   obtain ⟨e15,he15,h⟩:=bS h
   refine dp [1] [] (.hp 1 0 [] 4 (0 + Int.toNat ((w64 (u8.1 + x9.1)))) 0) rfl (e_indexAddr rfl rfl rfl (ix_hsM (f:=enc_Event) (xs:=(setI x9.2 u8.1 e10)) rfl rfl rfl he15)) rfl (rfl) (by decide) ?_
   obtain ⟨w16,hw16⟩ : ∃ w,getI (setI (setI x9.2 u8.1 e10) (w64 (u8.1 + x9.1)) e11) (w64 (u8.1 + x9.1))=some w:=get_exI hw13
   obtain ⟨w17,hw17⟩ : ∃ w,getI (setI (setI x9.2 u8.1 e10) (w64 (u8.1 + x9.1)) e11) u8.1=some w:=get_exI hw14
   obtain ⟨w18,hw18⟩ : ∃ w,getI (setI (setI x9.2 u8.1 e10) (w64 (u8.1 + x9.1)) e11) u8.1=some w:=get_exI (get_set he12)
   refine dp0 [1] [1] rfl (e_st rfl rfl (st_at (path:=[]) (pl:=true) (e':=enc_Event e11) (es2':=((setI (setI x9.2 u8.1 e10) (w64 (u8.1 + x9.1)) e11)).map enc_Event) rfl (absorb_plain rfl) rfl rfl rfl (ra_n) (get_map (f:=enc_Event) (xs:=(setI x9.2 u8.1 e10)) he15) rfl rfl rfl (set_map (f:=enc_Event) (xs:=(setI x9.2 u8.1 e10)) (y:=e11)) (sr_n) 0 rfl)) rfl (rfl) (by decide) ?_
   try rw [← len_setM (f:=enc_Event) (xs:=(setI x9.2 u8.1 e10)) (i:=(w64 (u8.1 + x9.1))) (z:=e11)]
   refine de 354 rfl rfl ?_
   refine c0 6 [54,55,56,57,58] [.hs 1 0 [] 4 0 (((setI (setI x9.2 u8.1 e10) (w64 (u8.1 + x9.1)) e11)).map enc_Event).length,I (0),I (x9.1),I (u8.1),.fn 52 []] 434 (by kernel_rfl) ?_
   obtain ⟨r19,hr19,h⟩:=bS h
   obtain ⟨g20,h⟩:=gG h
   refine o 450 (.tup []) rfl rfl (e_callV rfl rfl (call_P rfl rfl rfl (avO (hd1 rfl (hd_hs (path:=[]) rfl rfl (ra_n) rfl)) (avS (shP rfl) (avS (shP rfl) (avS (shP rfl) (avS (shP rfl) (avN)))))) (Ffbw_F hr19) (.inr rfl) (bl_c rfl rfl rfl rfl (bl_n)) rfl rfl rfl)) ?_
   try rw [len_eqM (f:=enc_Event) (xs:=(setI (setI x9.2 u8.1 e10) (w64 (u8.1 + x9.1)) e11)) (ys:=r19) g20]
   refine c0 7 [12] [I ((w64 (x9.1 - 1)))] 498 (by kernel_rfl) ?_
   refine s_lp ?_
   refine run_forget [0,3,8,9,12] [1] [⟨1,4,(r19).map enc_Event⟩] rfl rfl rfl rfl ?_
   exact ih _ _ h hr hn
 · refine ad 1 rfl ?_
   refine run_forget [] [1] [⟨0,4,(x9.2).map enc_Event⟩] rfl rfl rfl hK ?_
   exact hn _ (Option.some.inj h).symm
theorem Ffbl_run (data_12 : List Event) (a_13 : Int) (b_14 : Int) (cmp_15 : Unit) (r : (List Event)) (h : Ffbl data_12 a_13 b_14 cmp_15=some r) : RunF Ffbl_E Tryd.f116 [true,false,false,false] 1 (Ffbl_A (data_12,a_13,b_14,cmp_15)) (Ffbl_R r):=by
 show Run _ _ (Ffbl_Q (data_12,a_13,b_14,cmp_15) r) [.code Ffbl_c] _
 refine rin (n:=60) [(0,.hs 1 0 [] 4 0 ((data_12).map enc_Event).length),(1,I (a_13)),(2,I (b_14)),(3,.fn 52 [])] [(1,some ⟨0,4,(data_12).map enc_Event⟩)] 2 (by kernel_rfl) (by kernel_rfl) (by kernel_rfl) rfl ?_
 unfold Ffbl at h
 refine c0 25 [8,9,10,11] [I (a_13),I (0),I ((w64 (b_14 - a_13))),I ((w64 ((w64 ((w64 (b_14 - a_13)) - 1)).tdiv 2)))] 178 (by kernel_rfl) ?_
 obtain ⟨y8,hy8,hy81,hy82⟩:=bJ h
 refine s_loop rfl ?_
 refine run_forget [0,3,8,9,10,11] [1] [⟨0,4,(data_12).map enc_Event⟩] rfl rfl rfl rfl ?_
 refine Ffbl_la_run data_12 a_13 b_14 cmp_15 rfl hy8 (fun r' e st hq=>by rw [hy81 r' e] at hq; exact hq) (fun u8 hu=>?_)
 replace h:=hy82 u8 hu
 refine c0 7 [12] [I ((w64 (u8.2.1 - 1)))] 50 (by kernel_rfl) ?_
 obtain ⟨y21,hy21,hy211,hy212⟩:=bJ h
 refine s_loop rfl ?_
 refine run_forget [0,3,8,9,12] [1] [⟨0,4,(u8.2.2).map enc_Event⟩] rfl rfl rfl rfl ?_
 refine Ffbl_lb_run data_12 a_13 b_14 cmp_15 u8 rfl hy21 (fun r' e st hq=>by rw [hy211 r' e] at hq; exact hq) (fun u21 hu=>?_)
 replace h:=hy212 u21 hu
 obtain ⟨g22,h⟩:=gG h
 obtain rfl:=Option.some.inj h
 exact s_end ⟨_,fin (vs:=[]) rfl (absEN) rfl (ou_1 rfl (oc_hsG (f:=enc_Event) (xs:=u21) (by simpa using g22) rfl) (ou_f (ou_f (ou_f (ou_n))))),kl_c (kl_n)⟩
theorem Ffbl_good {G : Go.Ln.Ground} : Good Tryd.prog G 116 Ffbl_ent:=good_T (fnOf_good (gl_c Ffbw_good (gl_n))) agree_mk (Checked.mixed Tryd.checked) Tryd.func116 (n:=4) (m:=1) ⟨rfl,rfl,by decide⟩ (fun _=>⟨rfl,rfl⟩) (fun a r h=>Ffbl_run a.1 a.2.1 a.2.2.1 a.2.2.2 r h)
def Ffbp_A : Int→List V:=oA I
def Ffbp_R (r : Int) : V × List V:=(.int .u64 (r),[])
noncomputable def Ffbp_ent : Ent:=entT [false] Ffbp_A Ffbp_R fun x=>Ffbp x
theorem Ffbp_F {length_1 : Int} {r} (h : Ffbp length_1=some r) : (Ffbp_ent).F (Ffbp_A length_1)=some (Ffbp_R r):=entT_F (oA_inj I_inj) h
noncomputable def Ffbp_c : Code:=bodyOf Tryd.f135
noncomputable def Ffbp_E : Env:=mkE Tryd.prog [(95,Ffba_ent)]
def Ffbp_Q (x : Int) (r : Int) : St→Prop:=QF Ffbp_E Tryd.f135 [false] (Ffbp_A x) (Ffbp_R r)
theorem Ffbp_run (length_1 : Int) (r : Int) (h : Ffbp length_1=some r) : RunF Ffbp_E Tryd.f135 [false] 0 (Ffbp_A length_1) (Ffbp_R r):=by
 show Run _ _ (Ffbp_Q length_1 r) [.code Ffbp_c] _
 refine rin (n:=7) [(0,I (length_1))] [] 1 (by kernel_rfl) (by kernel_rfl) (by kernel_rfl) rfl ?_
 unfold Ffbp at h
 refine c0 8 [4] [.int .u64 ((IntKind.u64.wrap length_1))] 49 (by kernel_rfl) ?_
 obtain ⟨r2,hr2,h⟩:=bS h
 refine o 65 (I (r2)) rfl rfl (e_callV rfl rfl (call_P rfl rfl rfl (avS (shP rfl) (avN)) (Ffba_F hr2) (.inr rfl) (bl_n) rfl rfl rfl)) ?_
 obtain ⟨q3,hq3,h⟩:=bS h
 refine o 81 (.int .u64 (q3)) rfl rfl (e_bin rfl rfl (b_shl hq3)) ?_
 refine c0 2 [2] [.int .u64 (q3)] 97 (by kernel_rfl) ?_
 obtain rfl:=Option.some.inj h
 exact s_ret rfl ⟨_,fin (vs:=[.int .u64 (q3)]) rfl (absE (absorb_plain rfl) (absEN)) rfl (ou_f (ou_n)),kl_n⟩
theorem Ffbp_good {G : Go.Ln.Ground} : Good Tryd.prog G 135 Ffbp_ent:=good_T (fnOf_good (gl_c Ffba_good (gl_n))) agree_mk (Checked.mixed Tryd.checked) Tryd.func135 (n:=1) (m:=0) ⟨rfl,rfl,by decide⟩ (fun _=>⟨rfl,rfl⟩) (fun a r h=>Ffbp_run a r h)
def Ffbx_A : Int→List V:=oA (upE (V.int .u64))
def Ffbx_R (r : Int × Int) : V × List V:=(.int .u64 (r.1),[.uptr (.int .u64 (r.2))])
noncomputable def Ffbx_ent : Ent:=entT [true] Ffbx_A Ffbx_R fun x=>Ffbx x
theorem Ffbx_F {r_2 : Int} {r} (h : Ffbx r_2=some r) : (Ffbx_ent).F (Ffbx_A r_2)=some (Ffbx_R r):=entT_F (oA_inj (uptr_inj (vint_inj (k:=.u64)))) h
noncomputable def Ffbx_c : Code:=bodyOf Tryd.f136
noncomputable def Ffbx_E : Env:=mkE Tryd.prog []
def Ffbx_Q (x : Int) (r : Int × Int) : St→Prop:=QF Ffbx_E Tryd.f136 [true] (Ffbx_A x) (Ffbx_R r)
theorem Ffbx_run (r_2 : Int) (r : Int × Int) (h : Ffbx r_2=some r) : RunF Ffbx_E Tryd.f136 [true] 1 (Ffbx_A r_2) (Ffbx_R r):=by
 show Run _ _ (Ffbx_Q r_2 r) [.code Ffbx_c] _
 refine rin (n:=33) [(0,.hp 1 0 [] 1 0 0)] [(1,some ⟨0,1,[.int .u64 (r_2)]⟩)] 2 (by kernel_rfl) (by kernel_rfl) (by kernel_rfl) rfl ?_
 unfold Ffbx at h
 refine c0 5 [] [] 18 (by kernel_rfl) ?_
 refine s_draw [0,1,3,0,8,24,56,127,255,511] rfl (by decide +kernel) ?_
 refine dp [] [] (.hp 1 0 [] 1 0 0) rfl (e_move rfl) rfl (rfl) (by decide) ?_
 refine dp [1] [] (.hp 1 0 [] 1 0 0) rfl (e_nilCheck rfl rfl) rfl (rfl) (by decide) ?_
 refine dp [1] [] (.int .u64 (r_2)) rfl (e_ld rfl rfl) rfl (rfl) (by decide) ?_
 refine dp [] [] (.hp 1 0 [] 1 0 0) rfl (e_move rfl) rfl (rfl) (by decide) ?_
 refine dp [1] [] (.hp 1 0 [] 1 0 0) rfl (e_nilCheck rfl rfl) rfl (rfl) (by decide) ?_
 refine dp [1] [] (.int .u64 (r_2)) rfl (e_ld rfl rfl) rfl (rfl) (by decide) ?_
 refine dp [] [] (.int .u64 ((shlI .u64 r_2 13))) rfl (e_bin rfl rfl rfl) rfl (rfl) (by decide) ?_
 refine dp [] [] (.int .u64 ((xorI .u64 r_2 (shlI .u64 r_2 13)))) rfl (e_bin rfl rfl rfl) rfl (rfl) (by decide) ?_
 refine dp [1] [] (.hp 1 0 [] 1 0 0) rfl (e_nilCheck rfl rfl) rfl (rfl) (by decide) ?_
 refine dp0 [1] [1] rfl (e_st rfl rfl (st_at (path:=[]) (pl:=true) (e':=.int .u64 ((xorI .u64 r_2 (shlI .u64 r_2 13)))) (es2':=[.int .u64 ((xorI .u64 r_2 (shlI .u64 r_2 13)))]) rfl (absorb_plain rfl) rfl rfl rfl (ra_n) rfl rfl rfl rfl rfl (sr_n) 0 rfl)) rfl (rfl) (by decide) ?_
 refine de 178 rfl rfl ?_
 refine ad 1 rfl ?_
 refine s_draw [0,1,3,0,8,24,56,127,255,511] rfl (by decide +kernel) ?_
 refine dp [] [] (.hp 1 0 [] 1 0 0) rfl (e_move rfl) rfl (rfl) (by decide) ?_
 refine dp [1] [] (.hp 1 0 [] 1 0 0) rfl (e_nilCheck rfl rfl) rfl (rfl) (by decide) ?_
 refine dp [1] [] (.int .u64 ((xorI .u64 r_2 (shlI .u64 r_2 13)))) rfl (e_ld rfl rfl) rfl (rfl) (by decide) ?_
 refine dp [] [] (.hp 1 0 [] 1 0 0) rfl (e_move rfl) rfl (rfl) (by decide) ?_
 refine dp [1] [] (.hp 1 0 [] 1 0 0) rfl (e_nilCheck rfl rfl) rfl (rfl) (by decide) ?_
 refine dp [1] [] (.int .u64 ((xorI .u64 r_2 (shlI .u64 r_2 13)))) rfl (e_ld rfl rfl) rfl (rfl) (by decide) ?_
 refine dp [] [] (.int .u64 ((shrI .u64 (xorI .u64 r_2 (shlI .u64 r_2 13)) 7))) rfl (e_bin rfl rfl rfl) rfl (rfl) (by decide) ?_
 refine dp [] [] (.int .u64 ((xorI .u64 (xorI .u64 r_2 (shlI .u64 r_2 13)) (shrI .u64 (xorI .u64 r_2 (shlI .u64 r_2 13)) 7)))) rfl (e_bin rfl rfl rfl) rfl (rfl) (by decide) ?_
 refine dp [1] [] (.hp 1 0 [] 1 0 0) rfl (e_nilCheck rfl rfl) rfl (rfl) (by decide) ?_
 refine dp0 [1] [1] rfl (e_st rfl rfl (st_at (path:=[]) (pl:=true) (e':=.int .u64 ((xorI .u64 (xorI .u64 r_2 (shlI .u64 r_2 13)) (shrI .u64 (xorI .u64 r_2 (shlI .u64 r_2 13)) 7)))) (es2':=[.int .u64 ((xorI .u64 (xorI .u64 r_2 (shlI .u64 r_2 13)) (shrI .u64 (xorI .u64 r_2 (shlI .u64 r_2 13)) 7)))]) rfl (absorb_plain rfl) rfl rfl rfl (ra_n) rfl rfl rfl rfl rfl (sr_n) 0 rfl)) rfl (rfl) (by decide) ?_
 refine de 338 rfl rfl ?_
 refine ad 1 rfl ?_
 refine s_draw [0,1,3,0,8,24,56,127,255,511] rfl (by decide +kernel) ?_
 refine dp [] [] (.hp 1 0 [] 1 0 0) rfl (e_move rfl) rfl (rfl) (by decide) ?_
 refine dp [1] [] (.hp 1 0 [] 1 0 0) rfl (e_nilCheck rfl rfl) rfl (rfl) (by decide) ?_
 refine dp [1] [] (.int .u64 ((xorI .u64 (xorI .u64 r_2 (shlI .u64 r_2 13)) (shrI .u64 (xorI .u64 r_2 (shlI .u64 r_2 13)) 7)))) rfl (e_ld rfl rfl) rfl (rfl) (by decide) ?_
 refine dp [] [] (.hp 1 0 [] 1 0 0) rfl (e_move rfl) rfl (rfl) (by decide) ?_
 refine dp [1] [] (.hp 1 0 [] 1 0 0) rfl (e_nilCheck rfl rfl) rfl (rfl) (by decide) ?_
 refine dp [1] [] (.int .u64 ((xorI .u64 (xorI .u64 r_2 (shlI .u64 r_2 13)) (shrI .u64 (xorI .u64 r_2 (shlI .u64 r_2 13)) 7)))) rfl (e_ld rfl rfl) rfl (rfl) (by decide) ?_
 refine dp [] [] (.int .u64 ((shlI .u64 (xorI .u64 (xorI .u64 r_2 (shlI .u64 r_2 13)) (shrI .u64 (xorI .u64 r_2 (shlI .u64 r_2 13)) 7)) 17))) rfl (e_bin rfl rfl rfl) rfl (rfl) (by decide) ?_
 refine dp [] [] (.int .u64 ((xorI .u64 (xorI .u64 (xorI .u64 r_2 (shlI .u64 r_2 13)) (shrI .u64 (xorI .u64 r_2 (shlI .u64 r_2 13)) 7)) (shlI .u64 (xorI .u64 (xorI .u64 r_2 (shlI .u64 r_2 13)) (shrI .u64 (xorI .u64 r_2 (shlI .u64 r_2 13)) 7)) 17)))) rfl (e_bin rfl rfl rfl) rfl (rfl) (by decide) ?_
 refine dp [1] [] (.hp 1 0 [] 1 0 0) rfl (e_nilCheck rfl rfl) rfl (rfl) (by decide) ?_
 refine dp0 [1] [1] rfl (e_st rfl rfl (st_at (path:=[]) (pl:=true) (e':=.int .u64 ((xorI .u64 (xorI .u64 (xorI .u64 r_2 (shlI .u64 r_2 13)) (shrI .u64 (xorI .u64 r_2 (shlI .u64 r_2 13)) 7)) (shlI .u64 (xorI .u64 (xorI .u64 r_2 (shlI .u64 r_2 13)) (shrI .u64 (xorI .u64 r_2 (shlI .u64 r_2 13)) 7)) 17)))) (es2':=[.int .u64 ((xorI .u64 (xorI .u64 (xorI .u64 r_2 (shlI .u64 r_2 13)) (shrI .u64 (xorI .u64 r_2 (shlI .u64 r_2 13)) 7)) (shlI .u64 (xorI .u64 (xorI .u64 r_2 (shlI .u64 r_2 13)) (shrI .u64 (xorI .u64 r_2 (shlI .u64 r_2 13)) 7)) 17)))]) rfl (absorb_plain rfl) rfl rfl rfl (ra_n) rfl rfl rfl rfl rfl (sr_n) 0 rfl)) rfl (rfl) (by decide) ?_
 refine de 498 rfl rfl ?_
 refine c0 7 [2] [.int .u64 ((xorI .u64 (xorI .u64 (xorI .u64 r_2 (shlI .u64 r_2 13)) (shrI .u64 (xorI .u64 r_2 (shlI .u64 r_2 13)) 7)) (shlI .u64 (xorI .u64 (xorI .u64 r_2 (shlI .u64 r_2 13)) (shrI .u64 (xorI .u64 r_2 (shlI .u64 r_2 13)) 7)) 17)))] 562 (by kernel_rfl) ?_
 obtain rfl:=Option.some.inj h
 exact s_ret rfl ⟨_,fin (vs:=[.int .u64 ((xorI .u64 (xorI .u64 (xorI .u64 r_2 (shlI .u64 r_2 13)) (shrI .u64 (xorI .u64 r_2 (shlI .u64 r_2 13)) 7)) (shlI .u64 (xorI .u64 (xorI .u64 r_2 (shlI .u64 r_2 13)) (shrI .u64 (xorI .u64 r_2 (shlI .u64 r_2 13)) 7)) 17)))]) rfl (absE (absorb_plain rfl) (absEN)) rfl (ou_1 rfl (oc_hp rfl rfl) (ou_n)),kl_c (kl_n)⟩
theorem Ffbx_good {G : Go.Ln.Ground} : Good Tryd.prog G 136 Ffbx_ent:=good_T (fnOf_good (gl_n)) agree_mk (Checked.mixed Tryd.checked) Tryd.func136 (n:=1) (m:=1) ⟨rfl,rfl,by decide⟩ (fun _=>⟨rfl,rfl⟩) (fun a r h=>Ffbx_run a r h)
def Ffbj_A : ((List Event) × Int × Int × Unit)→List V:=cA (usE 4 enc_Event) (cA I (cA I (oA (fun x : Unit=>(.fn 52 [] : V)))))
def Ffbj_R (r : (List Event)) : V × List V:=(.tup [],[.usl 4 ((r).map enc_Event)])
noncomputable def Ffbj_ent : Ent:=entT [true,false,false,false] Ffbj_A Ffbj_R fun x=>Ffbj x.1 x.2.1 x.2.2.1 x.2.2.2
theorem Ffbj_F {data_14 : List Event} {a_15 : Int} {b_16 : Int} {cmp_17 : Unit} {r} (h : Ffbj data_14 a_15 b_16 cmp_17=some r) : (Ffbj_ent).F (Ffbj_A (data_14,a_15,b_16,cmp_17))=some (Ffbj_R r):=entT_F (cA_inj (usl_inj enc_Event_inj) (cA_inj I_inj (cA_inj I_inj (oA_inj (fn_inj0 ))))) h
noncomputable def Ffbj_c : Code:=bodyOf Tryd.f117
noncomputable def Ffbj_E : Env:=mkE Tryd.prog [(135,Ffbp_ent),(136,Ffbx_ent)]
def Ffbj_Q (x : (List Event) × Int × Int × Unit) (r : (List Event)) : St→Prop:=QF Ffbj_E Tryd.f117 [true,false,false,false] (Ffbj_A x) (Ffbj_R r)
theorem Ffbj_la_run (data_14 : List Event) (a_15 : Int) (b_16 : Int) (cmp_17 : Unit) (r7 : Int) {Q : St→Prop} {K : List It} (hK : noD K=true) {x8 : Int × (List Event) × Int} {y : ((List Event)) ⊕ ((List Event))} (h : Ffbj_la data_14 a_15 b_16 cmp_17 r7 x8=some y) : (∀ r',y=.inl r'→∀ st,Ffbj_Q (data_14,a_15,b_16,cmp_17) r' st→Q st)→(∀ u : (List Event),y=.inr u→Run Ffbj_E 1 Q K ⟨mkTm .dead 67 [],mkS (rtL [⟨0,4,(u).map enc_Event⟩] 1),2⟩)→Run Ffbj_E 1 Q (.code (cL (cL (cR (cR (cR (cL (cR (cR Ffbj_c)))))))) :: .lp (cL (cL (cR (cR (cR (cL (cR (cR Ffbj_c)))))))) :: .blk 0 :: K) ⟨mkTm .dead 67 [(0,.hs 1 0 [] 4 0 ((x8.2.1).map enc_Event).length),(1,I (a_15)),(8,I ((w64 (b_16 - a_15)))),(9,.hp 2 0 [] 1 0 0),(10,.int .u64 (r7)),(11,I (x8.1))],mkS (rtL [⟨0,4,(x8.2.1).map enc_Event⟩,⟨0,1,[.int .u64 (x8.2.2)]⟩] 1),3⟩:=by
 refine fix_ind (P:=fun (x8 : Int × (List Event) × Int) (y : ((List Event)) ⊕ ((List Event)))=>(∀ r',y=.inl r'→∀ st,Ffbj_Q (data_14,a_15,b_16,cmp_17) r' st→Q st)→(∀ u : (List Event),y=.inr u→Run Ffbj_E 1 Q K ⟨mkTm .dead 67 [],mkS (rtL [⟨0,4,(u).map enc_Event⟩] 1),2⟩)→Run Ffbj_E 1 Q (.code (cL (cL (cR (cR (cR (cL (cR (cR Ffbj_c)))))))) :: .lp (cL (cL (cR (cR (cR (cL (cR (cR Ffbj_c)))))))) :: .blk 0 :: K) ⟨mkTm .dead 67 [(0,.hs 1 0 [] 4 0 ((x8.2.1).map enc_Event).length),(1,I (a_15)),(8,I ((w64 (b_16 - a_15)))),(9,.hp 2 0 [] 1 0 0),(10,.int .u64 (r7)),(11,I (x8.1))],mkS (rtL [⟨0,4,(x8.2.1).map enc_Event⟩,⟨0,1,[.int .u64 (x8.2.2)]⟩] 1),3⟩) (Ffbj_la_fin data_14 a_15 b_16 cmp_17 r7) ?_ h
 clear h y x8
 intro self ih x8 y h hr hn
 unfold Ffbj_la_F at h
 refine c0 12 [35] [B ((decide (x8.1 ≤ (w64 ((w64 (a_15 + (w64 ((w64 ((w64 (b_16 - a_15)).tdiv 4)) * 2)))) + 1)))))] 131 (by kernel_rfl) ?_
 refine sc h rfl rfl (fun h=>?_) (fun h=>?_)
 · refine ad 1 rfl ?_
   refine ad 4 rfl ?_
   obtain ⟨r9,hr9,h⟩:=bS h
   refine o 147 (.int .u64 (r9.1)) rfl rfl (e_callV rfl rfl (call_P rfl rfl rfl (avO (hd1 rfl (hd_hp (path:=[]) rfl rfl (ra_n) rfl)) (avN)) (Ffbx_F hr9) (.inr rfl) (bl_c rfl rfl rfl rfl (bl_n)) rfl rfl rfl)) ?_
   refine c0 13 [12,45] [I ((IntKind.i64.wrap (andI .u64 r9.1 (IntKind.u64.wrap (r7 - 1))))),B ((decide ((IntKind.i64.wrap (andI .u64 r9.1 (IntKind.u64.wrap (r7 - 1)))) ≥ (w64 (b_16 - a_15)))))] 275 (by kernel_rfl) ?_
   obtain ⟨u10,hu10,h⟩:=lJ h
   have j10 : Run Ffbj_E 1 Q (.code (cR (cR (cL (cL (cR (cL (cL (cR (cR (cR (cL (cR (cR Ffbj_c))))))))))))) :: .blk 1 :: .code (cR (cR (cL (cL (cR (cR (cR (cL (cR (cR Ffbj_c)))))))))) :: .lp (cL (cL (cR (cR (cR (cL (cR (cR Ffbj_c)))))))) :: .blk 0 :: K) ⟨mkTm .dead 67 [(0,.hs 1 0 [] 4 0 ((x8.2.1).map enc_Event).length),(1,I (a_15)),(8,I ((w64 (b_16 - a_15)))),(9,.hp 2 0 [] 1 0 0),(10,.int .u64 (r7)),(11,I (x8.1)),(12,I (u10))],mkS (rtL [⟨0,4,(x8.2.1).map enc_Event⟩,⟨0,1,[.int .u64 (r9.2)]⟩] 1),3⟩:=by
     refine s_draw [0,0,0,0,0,24,0,0,0,384,960,1984,0,0,12288,28672,65475,131011,262143,524287] rfl (by decide +kernel) ?_
     refine dp [] [] (.hs 1 0 [] 4 0 ((x8.2.1).map enc_Event).length) rfl (e_move rfl) rfl (rfl) (by decide) ?_
     refine dp [] [] (I (x8.1)) rfl (e_move rfl) rfl (rfl) (by decide) ?_
     refine dp [] [] (.hs 1 0 [] 4 0 ((x8.2.1).map enc_Event).length) rfl (e_move rfl) rfl (rfl) (by decide) ?_
     refine dp [] [] (I (a_15)) rfl (e_move rfl) rfl (rfl) (by decide) ?_
     refine dp [] [] (I (u10)) rfl (e_move rfl) rfl (rfl) (by decide) ?_
     refine dp [] [] (I ((w64 (a_15 + u10)))) rfl (e_bin rfl rfl rfl) rfl (rfl) (by decide) ?_
     refine dp [] [] (.hs 1 0 [] 4 0 ((x8.2.1).map enc_Event).length) rfl (e_move rfl) rfl (rfl) (by decide) ?_
     refine dp [] [] (I (a_15)) rfl (e_move rfl) rfl (rfl) (by decide) ?_
     refine dp [] [] (I (u10)) rfl (e_move rfl) rfl (rfl) (by decide) ?_
     refine dp [] [] (I ((w64 (a_15 + u10)))) rfl (e_bin rfl rfl rfl) rfl (rfl) (by decide) ?_
     obtain ⟨e11,he11,h⟩:=bS h
     refine dp [1] [] (.hp 1 0 [] 4 (0 + Int.toNat ((w64 (a_15 + u10)))) 0) rfl (e_indexAddr rfl rfl rfl (ix_hsM (f:=enc_Event) (xs:=x8.2.1) rfl rfl rfl he11)) rfl (rfl) (by decide) ?_
     refine dp [1] [] (enc_Event e11) rfl (e_ld rfl (ld_at (path:=[]) rfl rfl rfl (ra_n) (get_map (f:=enc_Event) (xs:=x8.2.1) he11) rfl rfl rfl)) rfl (rfl) (by decide) ?_
     refine dp [] [] (.hs 1 0 [] 4 0 ((x8.2.1).map enc_Event).length) rfl (e_move rfl) rfl (rfl) (by decide) ?_
     refine dp [] [] (I (x8.1)) rfl (e_move rfl) rfl (rfl) (by decide) ?_
     obtain ⟨e12,he12,h⟩:=bS h
     refine dp [1] [] (.hp 1 0 [] 4 (0 + Int.toNat (x8.1)) 0) rfl (e_indexAddr rfl rfl rfl (ix_hsM (f:=enc_Event) (xs:=x8.2.1) rfl rfl rfl he12)) rfl (rfl) (by decide) ?_
     refine dp [1] [] (enc_Event e12) rfl (e_ld rfl (ld_at (path:=[]) rfl rfl rfl (ra_n) (get_map (f:=enc_Event) (xs:=x8.2.1) he12) rfl rfl rfl)) rfl (rfl) (by decide) ?_
     obtain ⟨e13,he13,h⟩:=bS h
     refine dp [1] [] (.hp 1 0 [] 4 (0 + Int.toNat (x8.1)) 0) rfl (e_indexAddr rfl rfl rfl (ix_hsM (f:=enc_Event) (xs:=x8.2.1) rfl rfl rfl he13)) rfl (rfl) (by decide) ?_
     obtain ⟨w14,hw14⟩ : ∃ w,getI (setI x8.2.1 x8.1 e11) (w64 (a_15 + u10))=some w:=get_exI he11
     obtain ⟨w15,hw15⟩ : ∃ w,getI (setI x8.2.1 x8.1 e11) x8.1=some w:=get_exI he12
     refine dp0 [1] [1] rfl (e_st rfl rfl (st_at (path:=[]) (pl:=true) (e':=enc_Event e11) (es2':=((setI x8.2.1 x8.1 e11)).map enc_Event) rfl (absorb_plain rfl) rfl rfl rfl (ra_n) (get_map (f:=enc_Event) (xs:=x8.2.1) he13) rfl rfl rfl (set_map (f:=enc_Event) (xs:=x8.2.1) (y:=e11)) (sr_n) 0 rfl)) rfl (rfl) (by decide) ?_
     try rw [← len_setM (f:=enc_Event) (xs:=x8.2.1) (i:=x8.1) (z:=e11)]
     obtain ⟨e16,he16,h⟩:=bS h
     refine dp [1] [] (.hp 1 0 [] 4 (0 + Int.toNat ((w64 (a_15 + u10)))) 0) rfl (e_indexAddr rfl rfl rfl (ix_hsM (f:=enc_Event) (xs:=(setI x8.2.1 x8.1 e11)) rfl rfl rfl he16)) rfl (rfl) (by decide) ?_
     obtain ⟨w17,hw17⟩ : ∃ w,getI (setI (setI x8.2.1 x8.1 e11) (w64 (a_15 + u10)) e12) (w64 (a_15 + u10))=some w:=get_exI hw14
     obtain ⟨w18,hw18⟩ : ∃ w,getI (setI (setI x8.2.1 x8.1 e11) (w64 (a_15 + u10)) e12) x8.1=some w:=get_exI hw15
     obtain ⟨w19,hw19⟩ : ∃ w,getI (setI (setI x8.2.1 x8.1 e11) (w64 (a_15 + u10)) e12) x8.1=some w:=get_exI (get_set he13)
     refine dp0 [1] [1] rfl (e_st rfl rfl (st_at (path:=[]) (pl:=true) (e':=enc_Event e12) (es2':=((setI (setI x8.2.1 x8.1 e11) (w64 (a_15 + u10)) e12)).map enc_Event) rfl (absorb_plain rfl) rfl rfl rfl (ra_n) (get_map (f:=enc_Event) (xs:=(setI x8.2.1 x8.1 e11)) he16) rfl rfl rfl (set_map (f:=enc_Event) (xs:=(setI x8.2.1 x8.1 e11)) (y:=e12)) (sr_n) 0 rfl)) rfl (rfl) (by decide) ?_
     try rw [← len_setM (f:=enc_Event) (xs:=(setI x8.2.1 x8.1 e11)) (i:=(w64 (a_15 + u10))) (z:=e12)]
     refine de 323 rfl rfl ?_
     refine c0 6 [11] [I ((w64 (x8.1 + 1)))] 371 (by kernel_rfl) ?_
     refine s_lp ?_
     refine run_forget [0,1,8,9,10,11] [1,2] [⟨0,4,((setI (setI x8.2.1 x8.1 e11) (w64 (a_15 + u10)) e12)).map enc_Event⟩,⟨0,1,[.int .u64 (r9.2)]⟩] rfl rfl rfl rfl ?_
     exact ih _ _ h hr hn
   replace h:=hu10
   clear hu10
   refine scp h rfl rfl (fun h=>?_) (fun h=>?_)
   · refine c0 6 [12] [I ((w64 ((IntKind.i64.wrap (andI .u64 r9.1 (IntKind.u64.wrap (r7 - 1)))) - (w64 (b_16 - a_15)))))] 339 (by kernel_rfl) ?_
     refine run_forget [0,1,8,9,10,11,12] [1,2] [⟨0,4,(x8.2.1).map enc_Event⟩,⟨1,1,[.int .u64 (r9.2)]⟩] rfl rfl rfl rfl ?_
     subst h
     exact j10
   · refine ad 1 rfl ?_
     refine run_forget [0,1,8,9,10,11,12] [1,2] [⟨0,4,(x8.2.1).map enc_Event⟩,⟨1,1,[.int .u64 (r9.2)]⟩] rfl rfl rfl rfl ?_
     subst h
     exact j10
 · refine ad 1 rfl ?_
   refine run_forget [] [1] [⟨0,4,(x8.2.1).map enc_Event⟩] rfl rfl rfl hK ?_
   exact hn _ (Option.some.inj h).symm
theorem Ffbj_run (data_14 : List Event) (a_15 : Int) (b_16 : Int) (cmp_17 : Unit) (r : (List Event)) (h : Ffbj data_14 a_15 b_16 cmp_17=some r) : RunF Ffbj_E Tryd.f117 [true,false,false,false] 1 (Ffbj_A (data_14,a_15,b_16,cmp_17)) (Ffbj_R r):=by
 show Run _ _ (Ffbj_Q (data_14,a_15,b_16,cmp_17) r) [.code Ffbj_c] _
 refine rin (n:=67) [(0,.hs 1 0 [] 4 0 ((data_14).map enc_Event).length),(1,I (a_15)),(2,I (b_16)),(3,.fn 52 [])] [(1,some ⟨0,4,(data_14).map enc_Event⟩)] 2 (by kernel_rfl) (by kernel_rfl) (by kernel_rfl) rfl ?_
 unfold Ffbj at h
 refine c0 12 [8,17] [I ((w64 (b_16 - a_15))),B ((decide ((w64 (b_16 - a_15)) ≥ 8)))] 98 (by kernel_rfl) ?_
 obtain ⟨y5,hy5,hy51,hy52⟩:=bJ h
 have j5 : ∀ u5,y5=.inr u5→Run Ffbj_E 1 (Ffbj_Q (data_14,a_15,b_16,cmp_17) r) ([]) ⟨mkTm .dead 67 [],mkS (rtL [⟨0,4,(u5).map enc_Event⟩] 1),2⟩:=by
   intro u5 hu
   replace h:=hy52 u5 hu
   obtain ⟨g6,h⟩:=gG h
   obtain rfl:=Option.some.inj h
   exact s_end ⟨_,fin (vs:=[]) rfl (absEN) rfl (ou_1 rfl (oc_hsG (f:=enc_Event) (xs:=u5) (by simpa using g6) rfl) (ou_f (ou_f (ou_f (ou_n))))),kl_c (kl_n)⟩
 have r5 : ∀ r',y5=.inl r'→∀ st,Ffbj_Q (data_14,a_15,b_16,cmp_17) r' st→(Ffbj_Q (data_14,a_15,b_16,cmp_17) r) st:=fun r' e st hq=>by rw [hy51 r' e] at hq; exact hq
 replace h:=hy5
 refine sc h rfl rfl (fun h=>?_) (fun h=>?_)
 · refine ck 10 [9,20] [] [130] [] [.hp 130 0 [] 1 0 0,I ((w64 (b_16 - a_15)))] [some ⟨0,1,[.int .u64 ((IntKind.u64.wrap (w64 (b_16 - a_15))))]⟩] 178 (by kernel_rfl) ?_
   obtain ⟨r7,hr7,h⟩:=bS h
   refine o 194 (.int .u64 (r7)) rfl rfl (e_callV rfl rfl (call_P rfl rfl rfl (avS (shP rfl) (avN)) (Ffbp_F hr7) (.inr rfl) (bl_n) rfl rfl rfl)) ?_
   refine c0 13 [10,11] [.int .u64 (r7),I ((w64 ((w64 (a_15 + (w64 ((w64 ((w64 (b_16 - a_15)).tdiv 4)) * 2)))) - 1)))] 322 (by kernel_rfl) ?_
   obtain ⟨y20,hy20,hy201,hy202⟩:=bL h
   refine s_loop rfl ?_
   refine run_forget [0,1,8,9,10,11] [1,130] [⟨0,4,(data_14).map enc_Event⟩,⟨0,1,[.int .u64 ((IntKind.u64.wrap (w64 (b_16 - a_15))))]⟩] rfl rfl rfl rfl ?_
   refine Ffbj_la_run data_14 a_15 b_16 cmp_17 r7 rfl hy20 (fun r' e st hq=>r5 r' (hy201 r' e) st hq) (fun u20 hu=>?_)
   replace h:=hy202 u20 hu
   refine run_forget [] [1] [⟨0,4,(u20).map enc_Event⟩] rfl rfl rfl rfl ?_
   exact j5 _ (Option.some.inj h).symm
 · refine ad 1 rfl ?_
   refine run_forget [] [1] [⟨0,4,(data_14).map enc_Event⟩] rfl rfl rfl rfl ?_
   exact j5 _ (Option.some.inj h).symm
theorem Ffbj_good {G : Go.Ln.Ground} : Good Tryd.prog G 117 Ffbj_ent:=good_T (fnOf_good (gl_c Ffbp_good (gl_c Ffbx_good (gl_n)))) agree_mk (Checked.mixed Tryd.checked) Tryd.func117 (n:=4) (m:=1) ⟨rfl,rfl,by decide⟩ (fun _=>⟨rfl,rfl⟩) (fun a r h=>Ffbj_run a.1 a.2.1 a.2.2.1 a.2.2.2 r h)
def Ffbq_A : ((List Event) × Int × Int × Int × Unit)→List V:=cA (slE enc_Event) (cA I (cA I (cA (upE I) (oA (fun x : Unit=>(.fn 52 [] : V))))))
def Ffbq_R (r : Int × Int × Int) : V × List V:=(.tup [I (r.1),I (r.2.1)],[.uptr (I (r.2.2))])
noncomputable def Ffbq_ent : Ent:=entT [false,false,false,true,false] Ffbq_A Ffbq_R fun x=>Ffbq x.1 x.2.1 x.2.2.1 x.2.2.2.1 x.2.2.2.2
theorem Ffbq_F {data_10 : List Event} {a_11 : Int} {b_12 : Int} {swaps_13 : Int} {cmp_14 : Unit} {r} (h : Ffbq data_10 a_11 b_12 swaps_13 cmp_14=some r) : (Ffbq_ent).F (Ffbq_A (data_10,a_11,b_12,swaps_13,cmp_14))=some (Ffbq_R r):=entT_F (cA_inj (isl_inj enc_Event_inj) (cA_inj I_inj (cA_inj I_inj (cA_inj (uptr_inj I_inj) (oA_inj (fn_inj0 )))))) h
noncomputable def Ffbq_c : Code:=bodyOf Tryd.f144
noncomputable def Ffbq_E : Env:=mkE Tryd.prog [(52,Fff_ent)]
def Ffbq_Q (x : (List Event) × Int × Int × Int × Unit) (r : Int × Int × Int) : St→Prop:=QF Ffbq_E Tryd.f144 [false,false,false,true,false] (Ffbq_A x) (Ffbq_R r)
theorem Ffbq_run (data_10 : List Event) (a_11 : Int) (b_12 : Int) (swaps_13 : Int) (cmp_14 : Unit) (r : Int × Int × Int) (h : Ffbq data_10 a_11 b_12 swaps_13 cmp_14=some r) : RunF Ffbq_E Tryd.f144 [false,false,false,true,false] 1 (Ffbq_A (data_10,a_11,b_12,swaps_13,cmp_14)) (Ffbq_R r):=by
 show Run _ _ (Ffbq_Q (data_10,a_11,b_12,swaps_13,cmp_14) r) [.code Ffbq_c] _
 refine rin (n:=32) [(0,.isl false ((data_10).map enc_Event)),(1,I (a_11)),(2,I (b_12)),(3,.hp 1 0 [] 1 0 0),(4,.fn 52 [])] [(1,some ⟨0,1,[I (swaps_13)]⟩)] 2 (by kernel_rfl) (by kernel_rfl) (by kernel_rfl) rfl ?_
 unfold Ffbq at h
 refine c0 7 [] [] 34 (by kernel_rfl) ?_
 refine s_draw [0,0,0,6,14,0,0,96,224,511,1023] rfl (by decide +kernel) ?_
 refine dp [] [] (.fn 52 []) rfl (e_move rfl) rfl (rfl) (by decide) ?_
 refine dp [] [] (.isl false ((data_10).map enc_Event)) rfl (e_move rfl) rfl (rfl) (by decide) ?_
 refine dp [] [] (I (b_12)) rfl (e_move rfl) rfl (rfl) (by decide) ?_
 obtain ⟨e6,he6,h⟩:=bS h
 refine dp [] [] (.iptr (enc_Event e6) 0) rfl (e_indexAddr rfl rfl rfl (ix_islE rfl rfl rfl rfl he6)) rfl (rfl) (by decide) ?_
 refine dp [] [] (enc_Event e6) rfl (e_ld rfl rfl) rfl (rfl) (by decide) ?_
 refine dp [] [] (.isl false ((data_10).map enc_Event)) rfl (e_move rfl) rfl (rfl) (by decide) ?_
 refine dp [] [] (I (a_11)) rfl (e_move rfl) rfl (rfl) (by decide) ?_
 obtain ⟨e7,he7,h⟩:=bS h
 refine dp [] [] (.iptr (enc_Event e7) 0) rfl (e_indexAddr rfl rfl rfl (ix_islE rfl rfl rfl rfl he7)) rfl (rfl) (by decide) ?_
 refine dp [] [] (enc_Event e7) rfl (e_ld rfl rfl) rfl (rfl) (by decide) ?_
 obtain ⟨r8,hr8,h⟩:=bS h
 refine dp [] [] (I (r8)) rfl (e_callV rfl rfl (call_P rfl rfl rfl (avS (shP rfl) (avS (shP rfl) (avN))) (Fff_F hr8) (.inr rfl) (bl_n) rfl rfl rfl)) rfl (w_callO rfl rfl rfl rfl (avS (shP rfl) (avS (shP rfl) (avN))) (Fff_F hr8) (.inr rfl) rfl) (by decide) ?_
 refine dp [] [] (B ((decide (r8 < 0)))) rfl (e_bin rfl rfl rfl) rfl (rfl) (by decide) ?_
 refine de 210 rfl rfl ?_
 refine sc h rfl rfl (fun h=>?_) (fun h=>?_)
 · refine ck 16 [10,11] [] [1] [] [I (b_12),I (a_11)] [some ⟨0,1,[I ((w64 (swaps_13 + 1)))]⟩] 370 (by kernel_rfl) ?_
   obtain rfl:=Option.some.inj h
   exact s_ret rfl ⟨_,fin (vs:=[I (b_12),I (a_11)]) rfl (absE (absorb_plain rfl) (absE (absorb_plain rfl) (absEN))) rfl (ou_f (ou_f (ou_f (ou_1 rfl (oc_hp rfl rfl) (ou_f (ou_n)))))),kl_c (kl_n)⟩
 · refine ad 1 rfl ?_
   refine c0 7 [10,11] [I (a_11),I (b_12)] 274 (by kernel_rfl) ?_
   obtain rfl:=Option.some.inj h
   exact s_ret rfl ⟨_,fin (vs:=[I (a_11),I (b_12)]) rfl (absE (absorb_plain rfl) (absE (absorb_plain rfl) (absEN))) rfl (ou_f (ou_f (ou_f (ou_1 rfl (oc_hp rfl rfl) (ou_f (ou_n)))))),kl_c (kl_n)⟩
theorem Ffbq_good {G : Go.Ln.Ground} : Good Tryd.prog G 144 Ffbq_ent:=good_T (fnOf_good (gl_c Fff_good (gl_n))) agree_mk (Checked.mixed Tryd.checked) Tryd.func144 (n:=5) (m:=1) ⟨rfl,rfl,by decide⟩ (fun _=>⟨rfl,rfl⟩) (fun a r h=>Ffbq_run a.1 a.2.1 a.2.2.1 a.2.2.2.1 a.2.2.2.2 r h)
def Ffbo_A : ((List Event) × Int × Int × Int × Int × Unit)→List V:=cA (slE enc_Event) (cA I (cA I (cA I (cA (upE I) (oA (fun x : Unit=>(.fn 52 [] : V)))))))
def Ffbo_R (r : Int × Int) : V × List V:=(I (r.1),[.uptr (I (r.2))])
noncomputable def Ffbo_ent : Ent:=entT [false,false,false,false,true,false] Ffbo_A Ffbo_R fun x=>Ffbo x.1 x.2.1 x.2.2.1 x.2.2.2.1 x.2.2.2.2.1 x.2.2.2.2.2
theorem Ffbo_F {data_7 : List Event} {a_8 : Int} {b_9 : Int} {c_10 : Int} {swaps_11 : Int} {cmp_12 : Unit} {r} (h : Ffbo data_7 a_8 b_9 c_10 swaps_11 cmp_12=some r) : (Ffbo_ent).F (Ffbo_A (data_7,a_8,b_9,c_10,swaps_11,cmp_12))=some (Ffbo_R r):=entT_F (cA_inj (isl_inj enc_Event_inj) (cA_inj I_inj (cA_inj I_inj (cA_inj I_inj (cA_inj (uptr_inj I_inj) (oA_inj (fn_inj0 ))))))) h
noncomputable def Ffbo_c : Code:=bodyOf Tryd.f138
noncomputable def Ffbo_E : Env:=mkE Tryd.prog [(144,Ffbq_ent)]
def Ffbo_Q (x : (List Event) × Int × Int × Int × Int × Unit) (r : Int × Int) : St→Prop:=QF Ffbo_E Tryd.f138 [false,false,false,false,true,false] (Ffbo_A x) (Ffbo_R r)
theorem Ffbo_run (data_7 : List Event) (a_8 : Int) (b_9 : Int) (c_10 : Int) (swaps_11 : Int) (cmp_12 : Unit) (r : Int × Int) (h : Ffbo data_7 a_8 b_9 c_10 swaps_11 cmp_12=some r) : RunF Ffbo_E Tryd.f138 [false,false,false,false,true,false] 1 (Ffbo_A (data_7,a_8,b_9,c_10,swaps_11,cmp_12)) (Ffbo_R r):=by
 show Run _ _ (Ffbo_Q (data_7,a_8,b_9,c_10,swaps_11,cmp_12) r) [.code Ffbo_c] _
 refine rin (n:=41) [(0,.isl false ((data_7).map enc_Event)),(1,I (a_8)),(2,I (b_9)),(3,I (c_10)),(4,.hp 1 0 [] 1 0 0),(5,.fn 52 [])] [(1,some ⟨0,1,[I (swaps_11)]⟩)] 2 (by kernel_rfl) (by kernel_rfl) (by kernel_rfl) rfl ?_
 unfold Ffbo at h
 refine c0 11 [14,15,16,17,18] [.isl false ((data_7).map enc_Event),I (a_8),I (b_9),.hp 1 0 [] 1 0 0,.fn 52 []] 98 (by kernel_rfl) ?_
 obtain ⟨r7,hr7,h⟩:=bS h
 refine o 114 (.tup [I (r7.1),I (r7.2.1)]) rfl rfl (e_callV rfl rfl (call_P rfl rfl rfl (avS (shP rfl) (avS (shP rfl) (avS (shP rfl) (avO (hd1 rfl (hd_hp (path:=[]) rfl rfl (ra_n) rfl)) (avS (shP rfl) (avN)))))) (Ffbq_F hr7) (.inr rfl) (bl_c rfl rfl rfl rfl (bl_n)) rfl rfl rfl)) ?_
 refine ck 13 [1,23,24,25,26,27] [2] [] [] [I (r7.1),.isl false ((data_7).map enc_Event),I (r7.2.1),I (c_10),.hp 1 0 [] 1 0 0,.fn 52 []] [] 274 (by kernel_rfl) ?_
 obtain ⟨r8,hr8,h⟩:=bS h
 refine o 290 (.tup [I (r8.1),I (r8.2.1)]) rfl rfl (e_callV rfl rfl (call_P rfl rfl rfl (avS (shP rfl) (avS (shP rfl) (avS (shP rfl) (avO (hd1 rfl (hd_hp (path:=[]) rfl rfl (ra_n) rfl)) (avS (shP rfl) (avN)))))) (Ffbq_F hr8) (.inr rfl) (bl_c rfl rfl rfl rfl (bl_n)) rfl rfl rfl)) ?_
 refine ck 13 [32,33,34,35,36] [3] [] [] [.isl false ((data_7).map enc_Event),I (r7.1),I (r8.1),.hp 1 0 [] 1 0 0,.fn 52 []] [] 450 (by kernel_rfl) ?_
 obtain ⟨r9,hr9,h⟩:=bS h
 refine o 466 (.tup [I (r9.1),I (r9.2.1)]) rfl rfl (e_callV rfl rfl (call_P rfl rfl rfl (avS (shP rfl) (avS (shP rfl) (avS (shP rfl) (avO (hd1 rfl (hd_hp (path:=[]) rfl rfl (ra_n) rfl)) (avS (shP rfl) (avN)))))) (Ffbq_F hr9) (.inr rfl) (bl_c rfl rfl rfl rfl (bl_n)) rfl rfl rfl)) ?_
 refine ck 11 [12] [1] [] [] [I (r9.2.1)] [] 578 (by kernel_rfl) ?_
 obtain rfl:=Option.some.inj h
 exact s_ret rfl ⟨_,fin (vs:=[I (r9.2.1)]) rfl (absE (absorb_plain rfl) (absEN)) rfl (ou_f (ou_f (ou_f (ou_f (ou_1 rfl (oc_hp rfl rfl) (ou_f (ou_n))))))),kl_c (kl_n)⟩
theorem Ffbo_good {G : Go.Ln.Ground} : Good Tryd.prog G 138 Ffbo_ent:=good_T (fnOf_good (gl_c Ffbq_good (gl_n))) agree_mk (Checked.mixed Tryd.checked) Tryd.func138 (n:=6) (m:=1) ⟨rfl,rfl,by decide⟩ (fun _=>⟨rfl,rfl⟩) (fun a r h=>Ffbo_run a.1 a.2.1 a.2.2.1 a.2.2.2.1 a.2.2.2.2.1 a.2.2.2.2.2 r h)
def Ffbn_A : ((List Event) × Int × Int × Unit)→List V:=cA (slE enc_Event) (cA I (cA (upE I) (oA (fun x : Unit=>(.fn 52 [] : V)))))
def Ffbn_R (r : Int × Int) : V × List V:=(I (r.1),[.uptr (I (r.2))])
noncomputable def Ffbn_ent : Ent:=entT [false,false,true,false] Ffbn_A Ffbn_R fun x=>Ffbn x.1 x.2.1 x.2.2.1 x.2.2.2
theorem Ffbn_F {data_5 : List Event} {a_6 : Int} {swaps_7 : Int} {cmp_8 : Unit} {r} (h : Ffbn data_5 a_6 swaps_7 cmp_8=some r) : (Ffbn_ent).F (Ffbn_A (data_5,a_6,swaps_7,cmp_8))=some (Ffbn_R r):=entT_F (cA_inj (isl_inj enc_Event_inj) (cA_inj I_inj (cA_inj (uptr_inj I_inj) (oA_inj (fn_inj0 ))))) h
noncomputable def Ffbn_c : Code:=bodyOf Tryd.f137
noncomputable def Ffbn_E : Env:=mkE Tryd.prog [(138,Ffbo_ent)]
def Ffbn_Q (x : (List Event) × Int × Int × Unit) (r : Int × Int) : St→Prop:=QF Ffbn_E Tryd.f137 [false,false,true,false] (Ffbn_A x) (Ffbn_R r)
theorem Ffbn_run (data_5 : List Event) (a_6 : Int) (swaps_7 : Int) (cmp_8 : Unit) (r : Int × Int) (h : Ffbn data_5 a_6 swaps_7 cmp_8=some r) : RunF Ffbn_E Tryd.f137 [false,false,true,false] 1 (Ffbn_A (data_5,a_6,swaps_7,cmp_8)) (Ffbn_R r):=by
 show Run _ _ (Ffbn_Q (data_5,a_6,swaps_7,cmp_8) r) [.code Ffbn_c] _
 refine rin (n:=18) [(0,.isl false ((data_5).map enc_Event)),(1,I (a_6)),(2,.hp 1 0 [] 1 0 0),(3,.fn 52 [])] [(1,some ⟨0,1,[I (swaps_7)]⟩)] 2 (by kernel_rfl) (by kernel_rfl) (by kernel_rfl) rfl ?_
 unfold Ffbn at h
 refine c0 14 [9,11,12,14,15,16] [.isl false ((data_5).map enc_Event),I ((w64 (a_6 - 1))),I (a_6),I ((w64 (a_6 + 1))),.hp 1 0 [] 1 0 0,.fn 52 []] 146 (by kernel_rfl) ?_
 obtain ⟨r5,hr5,h⟩:=bS h
 refine o 162 (I (r5.1)) rfl rfl (e_callV rfl rfl (call_P rfl rfl rfl (avS (shP rfl) (avS (shP rfl) (avS (shP rfl) (avS (shP rfl) (avO (hd1 rfl (hd_hp (path:=[]) rfl rfl (ra_n) rfl)) (avS (shP rfl) (avN))))))) (Ffbo_F hr5) (.inr rfl) (bl_c rfl rfl rfl rfl (bl_n)) rfl rfl rfl)) ?_
 refine c0 2 [8] [I (r5.1)] 178 (by kernel_rfl) ?_
 obtain rfl:=Option.some.inj h
 exact s_ret rfl ⟨_,fin (vs:=[I (r5.1)]) rfl (absE (absorb_plain rfl) (absEN)) rfl (ou_f (ou_f (ou_1 rfl (oc_hp rfl rfl) (ou_f (ou_n))))),kl_c (kl_n)⟩
theorem Ffbn_good {G : Go.Ln.Ground} : Good Tryd.prog G 137 Ffbn_ent:=good_T (fnOf_good (gl_c Ffbo_good (gl_n))) agree_mk (Checked.mixed Tryd.checked) Tryd.func137 (n:=4) (m:=1) ⟨rfl,rfl,by decide⟩ (fun _=>⟨rfl,rfl⟩) (fun a r h=>Ffbn_run a.1 a.2.1 a.2.2.1 a.2.2.2 r h)
def Ffbk_A : ((List Event) × Int × Int × Unit)→List V:=cA (slE enc_Event) (cA I (cA I (oA (fun x : Unit=>(.fn 52 [] : V)))))
def Ffbk_R (r : Int × Int) : V × List V:=(.tup [I (r.1),I (r.2)],[])
noncomputable def Ffbk_ent : Ent:=entT [false,false,false,false] Ffbk_A Ffbk_R fun x=>Ffbk x.1 x.2.1 x.2.2.1 x.2.2.2
theorem Ffbk_F {data_1 : List Event} {a_2 : Int} {b_3 : Int} {cmp_4 : Unit} {r} (h : Ffbk data_1 a_2 b_3 cmp_4=some r) : (Ffbk_ent).F (Ffbk_A (data_1,a_2,b_3,cmp_4))=some (Ffbk_R r):=entT_F (cA_inj (isl_inj enc_Event_inj) (cA_inj I_inj (cA_inj I_inj (oA_inj (fn_inj0 ))))) h
noncomputable def Ffbk_c : Code:=bodyOf Tryd.f118
noncomputable def Ffbk_E : Env:=mkE Tryd.prog [(138,Ffbo_ent),(137,Ffbn_ent)]
def Ffbk_Q (x : (List Event) × Int × Int × Unit) (r : Int × Int) : St→Prop:=QF Ffbk_E Tryd.f118 [false,false,false,false] (Ffbk_A x) (Ffbk_R r)
theorem Ffbk_run (data_1 : List Event) (a_2 : Int) (b_3 : Int) (cmp_4 : Unit) (r : Int × Int) (h : Ffbk data_1 a_2 b_3 cmp_4=some r) : RunF Ffbk_E Tryd.f118 [false,false,false,false] 0 (Ffbk_A (data_1,a_2,b_3,cmp_4)) (Ffbk_R r):=by
 show Run _ _ (Ffbk_Q (data_1,a_2,b_3,cmp_4) r) [.code Ffbk_c] _
 refine rin (n:=63) [(0,.isl false ((data_1).map enc_Event)),(1,I (a_2)),(2,I (b_3)),(3,.fn 52 [])] [] 1 (by kernel_rfl) (by kernel_rfl) (by kernel_rfl) rfl ?_
 unfold Ffbk at h
 refine ck 49 [10,11,12,13,14,34] [] [97] [] [I ((w64 (b_3 - a_2))),.hp 97 0 [] 1 0 0,I ((w64 (a_2 + (w64 ((w64 ((w64 (b_3 - a_2)).tdiv 4)) * 1))))),I ((w64 (a_2 + (w64 ((w64 ((w64 (b_3 - a_2)).tdiv 4)) * 2))))),I ((w64 (a_2 + (w64 ((w64 ((w64 (b_3 - a_2)).tdiv 4)) * 3))))),B ((decide ((w64 (b_3 - a_2)) ≥ 8)))] [some ⟨0,1,[I (0)]⟩] 433 (by kernel_rfl) ?_
 obtain ⟨y5,hy5,hy51,hy52⟩:=bJ h
 have j5 : ∀ u5,y5=.inr u5→Run Ffbk_E 0 (Ffbk_Q (data_1,a_2,b_3,cmp_4) r) (.code (cR (cR (cR (cR (cR (cR (cR Ffbk_c))))))) :: []) ⟨mkTm .dead 63 [(11,.hp 1 0 [] 1 0 0),(13,I (u5.1))],mkS (rtL [⟨0,1,[I (u5.2)]⟩] 1),2⟩:=by
   intro u5 hu
   replace h:=hy52 u5 hu
   refine c0 10 [55,57] [I (u5.2),B ((u5.2 == 0))] 50 (by kernel_rfl) ?_
   refine sc h rfl rfl (fun h=>?_) (fun h=>?_)
   · refine c0 6 [8,9] [I (u5.1),I (1)] 98 (by kernel_rfl) ?_
     obtain rfl:=Option.some.inj h
     exact s_ret rfl ⟨_,fin (vs:=[I (u5.1),I (1)]) rfl (absE (absorb_plain rfl) (absE (absorb_plain rfl) (absEN))) rfl (ou_f (ou_f (ou_f (ou_f (ou_n))))),kl_n⟩
   · refine c0 5 [60] [B ((u5.2 == 12))] 82 (by kernel_rfl) ?_
     refine sc h rfl rfl (fun h=>?_) (fun h=>?_)
     · refine c0 6 [8,9] [I (u5.1),I (2)] 130 (by kernel_rfl) ?_
       obtain rfl:=Option.some.inj h
       exact s_ret rfl ⟨_,fin (vs:=[I (u5.1),I (2)]) rfl (absE (absorb_plain rfl) (absE (absorb_plain rfl) (absEN))) rfl (ou_f (ou_f (ou_f (ou_f (ou_n))))),kl_n⟩
     · refine c0 6 [8,9] [I (u5.1),I (0)] 130 (by kernel_rfl) ?_
       obtain rfl:=Option.some.inj h
       exact s_ret rfl ⟨_,fin (vs:=[I (u5.1),I (0)]) rfl (absE (absorb_plain rfl) (absE (absorb_plain rfl) (absEN))) rfl (ou_f (ou_f (ou_f (ou_f (ou_n))))),kl_n⟩
 have r5 : ∀ r',y5=.inl r'→∀ st,Ffbk_Q (data_1,a_2,b_3,cmp_4) r' st→(Ffbk_Q (data_1,a_2,b_3,cmp_4) r) st:=fun r' e st hq=>by rw [hy51 r' e] at hq; exact hq
 replace h:=hy5
 refine sc h rfl rfl (fun h=>?_) (fun h=>?_)
 · refine c0 6 [36] [B ((decide ((w64 (b_3 - a_2)) ≥ 50)))] 465 (by kernel_rfl) ?_
   obtain ⟨y6,hy6,hy61,hy62⟩:=bL h
   have j6 : ∀ u6,y6=.inr u6→Run Ffbk_E 0 (Ffbk_Q (data_1,a_2,b_3,cmp_4) r) (.code (cR (cL (cR (cL (cR (cR (cR (cR (cR (cR Ffbk_c)))))))))) :: .code (cR (cR (cR (cR (cR (cR (cR Ffbk_c))))))) :: []) ⟨mkTm .dead 63 [(0,.isl false ((data_1).map enc_Event)),(3,.fn 52 []),(11,.hp 1 0 [] 1 0 0),(12,I (u6.1)),(13,I (u6.2.1)),(14,I (u6.2.2.1))],mkS (rtL [⟨0,1,[I (u6.2.2.2)]⟩] 1),2⟩:=by
     intro u6 hu
     replace h:=hy62 u6 hu
     refine c0 6 [49,50,51,52,53] [.isl false ((data_1).map enc_Event),I (u6.1),I (u6.2.1),I (u6.2.2.1),.fn 52 []] 82 (by kernel_rfl) ?_
     obtain ⟨r7,hr7,h⟩:=bS h
     refine o 98 (I (r7.1)) rfl rfl (e_callV rfl rfl (call_P rfl rfl rfl (avS (shP rfl) (avS (shP rfl) (avS (shP rfl) (avS (shP rfl) (avO (hd1 rfl (hd_hp (path:=[]) rfl rfl (ra_n) rfl)) (avS (shP rfl) (avN))))))) (Ffbo_F hr7) (.inr rfl) (bl_c rfl rfl rfl rfl (bl_n)) rfl rfl rfl)) ?_
     refine c0 2 [13] [I (r7.1)] 114 (by kernel_rfl) ?_
     refine run_forget [11,13] [1] [⟨1,1,[I (r7.2)]⟩] rfl rfl rfl rfl ?_
     exact j5 _ (Option.some.inj h).symm
   have r6 : ∀ r',y6=.inl r'→∀ st,Ffbk_Q (data_1,a_2,b_3,cmp_4) r' st→(Ffbk_Q (data_1,a_2,b_3,cmp_4) r) st:=fun r' e st hq=>r5 r' (hy61 r' e) st hq
   replace h:=hy6
   refine sc h rfl rfl (fun h=>?_) (fun h=>?_)
   · refine c0 5 [37,38,39] [.isl false ((data_1).map enc_Event),I ((w64 (a_2 + (w64 ((w64 ((w64 (b_3 - a_2)).tdiv 4)) * 1))))),.fn 52 []] 513 (by kernel_rfl) ?_
     obtain ⟨r8,hr8,h⟩:=bS h
     refine o 529 (I (r8.1)) rfl rfl (e_callV rfl rfl (call_P rfl rfl rfl (avS (shP rfl) (avS (shP rfl) (avO (hd1 rfl (hd_hp (path:=[]) rfl rfl (ra_n) rfl)) (avS (shP rfl) (avN))))) (Ffbn_F hr8) (.inr rfl) (bl_c rfl rfl rfl rfl (bl_n)) rfl rfl rfl)) ?_
     refine c0 7 [12,41,42,43] [I (r8.1),.isl false ((data_1).map enc_Event),I ((w64 (a_2 + (w64 ((w64 ((w64 (b_3 - a_2)).tdiv 4)) * 2))))),.fn 52 []] 593 (by kernel_rfl) ?_
     obtain ⟨r9,hr9,h⟩:=bS h
     refine o 609 (I (r9.1)) rfl rfl (e_callV rfl rfl (call_P rfl rfl rfl (avS (shP rfl) (avS (shP rfl) (avO (hd1 rfl (hd_hp (path:=[]) rfl rfl (ra_n) rfl)) (avS (shP rfl) (avN))))) (Ffbn_F hr9) (.inr rfl) (bl_c rfl rfl rfl rfl (bl_n)) rfl rfl rfl)) ?_
     refine c0 6 [13,45,46,47] [I (r9.1),.isl false ((data_1).map enc_Event),I ((w64 (a_2 + (w64 ((w64 ((w64 (b_3 - a_2)).tdiv 4)) * 3))))),.fn 52 []] 673 (by kernel_rfl) ?_
     obtain ⟨r10,hr10,h⟩:=bS h
     refine o 689 (I (r10.1)) rfl rfl (e_callV rfl rfl (call_P rfl rfl rfl (avS (shP rfl) (avS (shP rfl) (avO (hd1 rfl (hd_hp (path:=[]) rfl rfl (ra_n) rfl)) (avS (shP rfl) (avN))))) (Ffbn_F hr10) (.inr rfl) (bl_c rfl rfl rfl rfl (bl_n)) rfl rfl rfl)) ?_
     refine c0 2 [14] [I (r10.1)] 705 (by kernel_rfl) ?_
     refine run_forget [0,3,11,12,13,14] [97] [⟨3,1,[I (r10.2)]⟩] rfl rfl rfl rfl ?_
     exact j6 _ (Option.some.inj h).symm
   · refine ad 1 rfl ?_
     refine run_forget [0,3,11,12,13,14] [97] [⟨0,1,[I (0)]⟩] rfl rfl rfl rfl ?_
     exact j6 _ (Option.some.inj h).symm
 · refine ad 1 rfl ?_
   refine run_forget [11,13] [97] [⟨0,1,[I (0)]⟩] rfl rfl rfl rfl ?_
   exact j5 _ (Option.some.inj h).symm
theorem Ffbk_good {G : Go.Ln.Ground} : Good Tryd.prog G 118 Ffbk_ent:=good_T (fnOf_good (gl_c Ffbo_good (gl_c Ffbn_good (gl_n)))) agree_mk (Checked.mixed Tryd.checked) Tryd.func118 (n:=4) (m:=0) ⟨rfl,rfl,by decide⟩ (fun _=>⟨rfl,rfl⟩) (fun a r h=>Ffbk_run a.1 a.2.1 a.2.2.1 a.2.2.2 r h)
def Ffbv_A : ((List Event) × Int × Int × Unit)→List V:=cA (usE 4 enc_Event) (cA I (cA I (oA (fun x : Unit=>(.fn 52 [] : V)))))
def Ffbv_R (r : (List Event)) : V × List V:=(.tup [],[.usl 4 ((r).map enc_Event)])
noncomputable def Ffbv_ent : Ent:=entT [true,false,false,false] Ffbv_A Ffbv_R fun x=>Ffbv x.1 x.2.1 x.2.2.1 x.2.2.2
theorem Ffbv_F {data_10 : List Event} {a_11 : Int} {b_12 : Int} {cmp_13 : Unit} {r} (h : Ffbv data_10 a_11 b_12 cmp_13=some r) : (Ffbv_ent).F (Ffbv_A (data_10,a_11,b_12,cmp_13))=some (Ffbv_R r):=entT_F (cA_inj (usl_inj enc_Event_inj) (cA_inj I_inj (cA_inj I_inj (oA_inj (fn_inj0 ))))) h
noncomputable def Ffbv_c : Code:=bodyOf Tryd.f119
noncomputable def Ffbv_E : Env:=mkE Tryd.prog []
def Ffbv_Q (x : (List Event) × Int × Int × Unit) (r : (List Event)) : St→Prop:=QF Ffbv_E Tryd.f119 [true,false,false,false] (Ffbv_A x) (Ffbv_R r)
theorem Ffbv_la_run (data_10 : List Event) (a_11 : Int) (b_12 : Int) (cmp_13 : Unit)  {Q : St→Prop} {K : List It} (hK : noD K=true) {x5 : Int × Int × (List Event)} {y : ((List Event)) ⊕ ((List Event))} (h : Ffbv_la data_10 a_11 b_12 cmp_13 x5=some y) : (∀ r',y=.inl r'→∀ st,Ffbv_Q (data_10,a_11,b_12,cmp_13) r' st→Q st)→(∀ u : (List Event),y=.inr u→Run Ffbv_E 1 Q K ⟨mkTm .dead 34 [],mkS (rtL [⟨0,4,(u).map enc_Event⟩] 1),2⟩)→Run Ffbv_E 1 Q (.code (cL (cL (cR (cR Ffbv_c)))) :: .lp (cL (cL (cR (cR Ffbv_c)))) :: .blk 0 :: K) ⟨mkTm .dead 34 [(0,.hs 1 0 [] 4 0 ((x5.2.2).map enc_Event).length),(8,I (x5.1)),(9,I (x5.2.1))],mkS (rtL [⟨0,4,(x5.2.2).map enc_Event⟩] 1),2⟩:=by
 refine fix_ind (P:=fun (x5 : Int × Int × (List Event)) (y : ((List Event)) ⊕ ((List Event)))=>(∀ r',y=.inl r'→∀ st,Ffbv_Q (data_10,a_11,b_12,cmp_13) r' st→Q st)→(∀ u : (List Event),y=.inr u→Run Ffbv_E 1 Q K ⟨mkTm .dead 34 [],mkS (rtL [⟨0,4,(u).map enc_Event⟩] 1),2⟩)→Run Ffbv_E 1 Q (.code (cL (cL (cR (cR Ffbv_c)))) :: .lp (cL (cL (cR (cR Ffbv_c)))) :: .blk 0 :: K) ⟨mkTm .dead 34 [(0,.hs 1 0 [] 4 0 ((x5.2.2).map enc_Event).length),(8,I (x5.1)),(9,I (x5.2.1))],mkS (rtL [⟨0,4,(x5.2.2).map enc_Event⟩] 1),2⟩) (Ffbv_la_fin data_10 a_11 b_12 cmp_13) ?_ h
 clear h y x5
 intro self ih x5 y h hr hn
 unfold Ffbv_la_F at h
 refine c0 7 [15] [B ((decide (x5.1 < x5.2.1)))] 50 (by kernel_rfl) ?_
 refine sc h rfl rfl (fun h=>?_) (fun h=>?_)
 · refine ad 1 rfl ?_
   refine ad 2 rfl ?_
   refine s_draw [0,0,0,0,0,0,48,112,0,0,768,1792,4083,8179,16383,32767] rfl (by decide +kernel) ?_
   refine dp [] [] (.hs 1 0 [] 4 0 ((x5.2.2).map enc_Event).length) rfl (e_move rfl) rfl (rfl) (by decide) ?_
   refine dp [] [] (I (x5.1)) rfl (e_move rfl) rfl (rfl) (by decide) ?_
   refine dp [] [] (.hs 1 0 [] 4 0 ((x5.2.2).map enc_Event).length) rfl (e_move rfl) rfl (rfl) (by decide) ?_
   refine dp [] [] (I (x5.2.1)) rfl (e_move rfl) rfl (rfl) (by decide) ?_
   refine dp [] [] (.hs 1 0 [] 4 0 ((x5.2.2).map enc_Event).length) rfl (e_move rfl) rfl (rfl) (by decide) ?_
   refine dp [] [] (I (x5.2.1)) rfl (e_move rfl) rfl (rfl) (by decide) ?_
   obtain ⟨e6,he6,h⟩:=bS h
   refine dp [1] [] (.hp 1 0 [] 4 (0 + Int.toNat (x5.2.1)) 0) rfl (e_indexAddr rfl rfl rfl (ix_hsM (f:=enc_Event) (xs:=x5.2.2) rfl rfl rfl he6)) rfl (rfl) (by decide) ?_
   refine dp [1] [] (enc_Event e6) rfl (e_ld rfl (ld_at (path:=[]) rfl rfl rfl (ra_n) (get_map (f:=enc_Event) (xs:=x5.2.2) he6) rfl rfl rfl)) rfl (rfl) (by decide) ?_
   refine dp [] [] (.hs 1 0 [] 4 0 ((x5.2.2).map enc_Event).length) rfl (e_move rfl) rfl (rfl) (by decide) ?_
   refine dp [] [] (I (x5.1)) rfl (e_move rfl) rfl (rfl) (by decide) ?_
   obtain ⟨e7,he7,h⟩:=bS h
   refine dp [1] [] (.hp 1 0 [] 4 (0 + Int.toNat (x5.1)) 0) rfl (e_indexAddr rfl rfl rfl (ix_hsM (f:=enc_Event) (xs:=x5.2.2) rfl rfl rfl he7)) rfl (rfl) (by decide) ?_
   refine dp [1] [] (enc_Event e7) rfl (e_ld rfl (ld_at (path:=[]) rfl rfl rfl (ra_n) (get_map (f:=enc_Event) (xs:=x5.2.2) he7) rfl rfl rfl)) rfl (rfl) (by decide) ?_
   obtain ⟨e8,he8,h⟩:=bS h
   refine dp [1] [] (.hp 1 0 [] 4 (0 + Int.toNat (x5.1)) 0) rfl (e_indexAddr rfl rfl rfl (ix_hsM (f:=enc_Event) (xs:=x5.2.2) rfl rfl rfl he8)) rfl (rfl) (by decide) ?_
   obtain ⟨w9,hw9⟩ : ∃ w,getI (setI x5.2.2 x5.1 e6) x5.2.1=some w:=get_exI he6
   obtain ⟨w10,hw10⟩ : ∃ w,getI (setI x5.2.2 x5.1 e6) x5.1=some w:=get_exI he7
   refine dp0 [1] [1] rfl (e_st rfl rfl (st_at (path:=[]) (pl:=true) (e':=enc_Event e6) (es2':=((setI x5.2.2 x5.1 e6)).map enc_Event) rfl (absorb_plain rfl) rfl rfl rfl (ra_n) (get_map (f:=enc_Event) (xs:=x5.2.2) he8) rfl rfl rfl (set_map (f:=enc_Event) (xs:=x5.2.2) (y:=e6)) (sr_n) 0 rfl)) rfl (rfl) (by decide) ?_
   try rw [← len_setM (f:=enc_Event) (xs:=x5.2.2) (i:=x5.1) (z:=e6)]
   obtain ⟨e11,he11,h⟩:=bS h
   refine dp [1] [] (.hp 1 0 [] 4 (0 + Int.toNat (x5.2.1)) 0) rfl (e_indexAddr rfl rfl rfl (ix_hsM (f:=enc_Event) (xs:=(setI x5.2.2 x5.1 e6)) rfl rfl rfl he11)) rfl (rfl) (by decide) ?_
   obtain ⟨w12,hw12⟩ : ∃ w,getI (setI (setI x5.2.2 x5.1 e6) x5.2.1 e7) x5.2.1=some w:=get_exI hw9
   obtain ⟨w13,hw13⟩ : ∃ w,getI (setI (setI x5.2.2 x5.1 e6) x5.2.1 e7) x5.1=some w:=get_exI hw10
   obtain ⟨w14,hw14⟩ : ∃ w,getI (setI (setI x5.2.2 x5.1 e6) x5.2.1 e7) x5.1=some w:=get_exI (get_set he8)
   refine dp0 [1] [1] rfl (e_st rfl rfl (st_at (path:=[]) (pl:=true) (e':=enc_Event e7) (es2':=((setI (setI x5.2.2 x5.1 e6) x5.2.1 e7)).map enc_Event) rfl (absorb_plain rfl) rfl rfl rfl (ra_n) (get_map (f:=enc_Event) (xs:=(setI x5.2.2 x5.1 e6)) he11) rfl rfl rfl (set_map (f:=enc_Event) (xs:=(setI x5.2.2 x5.1 e6)) (y:=e7)) (sr_n) 0 rfl)) rfl (rfl) (by decide) ?_
   try rw [← len_setM (f:=enc_Event) (xs:=(setI x5.2.2 x5.1 e6)) (i:=x5.2.1) (z:=e7)]
   refine de 306 rfl rfl ?_
   refine c0 12 [8,9] [I ((w64 (x5.1 + 1))),I ((w64 (x5.2.1 - 1)))] 402 (by kernel_rfl) ?_
   refine s_lp ?_
   refine run_forget [0,8,9] [1] [⟨0,4,((setI (setI x5.2.2 x5.1 e6) x5.2.1 e7)).map enc_Event⟩] rfl rfl rfl rfl ?_
   exact ih _ _ h hr hn
 · refine ad 1 rfl ?_
   refine run_forget [] [1] [⟨0,4,(x5.2.2).map enc_Event⟩] rfl rfl rfl hK ?_
   exact hn _ (Option.some.inj h).symm
theorem Ffbv_run (data_10 : List Event) (a_11 : Int) (b_12 : Int) (cmp_13 : Unit) (r : (List Event)) (h : Ffbv data_10 a_11 b_12 cmp_13=some r) : RunF Ffbv_E Tryd.f119 [true,false,false,false] 1 (Ffbv_A (data_10,a_11,b_12,cmp_13)) (Ffbv_R r):=by
 show Run _ _ (Ffbv_Q (data_10,a_11,b_12,cmp_13) r) [.code Ffbv_c] _
 refine rin (n:=34) [(0,.hs 1 0 [] 4 0 ((data_10).map enc_Event).length),(1,I (a_11)),(2,I (b_12)),(3,.fn 52 [])] [(1,some ⟨0,4,(data_10).map enc_Event⟩)] 2 (by kernel_rfl) (by kernel_rfl) (by kernel_rfl) rfl ?_
 unfold Ffbv at h
 refine c0 12 [8,9] [I (a_11),I ((w64 (b_12 - 1)))] 82 (by kernel_rfl) ?_
 obtain ⟨y15,hy15,hy151,hy152⟩:=bJ h
 refine s_loop rfl ?_
 refine run_forget [0,8,9] [1] [⟨0,4,(data_10).map enc_Event⟩] rfl rfl rfl rfl ?_
 refine Ffbv_la_run data_10 a_11 b_12 cmp_13 rfl hy15 (fun r' e st hq=>by rw [hy151 r' e] at hq; exact hq) (fun u15 hu=>?_)
 replace h:=hy152 u15 hu
 obtain ⟨g16,h⟩:=gG h
 obtain rfl:=Option.some.inj h
 exact s_end ⟨_,fin (vs:=[]) rfl (absEN) rfl (ou_1 rfl (oc_hsG (f:=enc_Event) (xs:=u15) (by simpa using g16) rfl) (ou_f (ou_f (ou_f (ou_n))))),kl_c (kl_n)⟩
theorem Ffbv_good {G : Go.Ln.Ground} : Good Tryd.prog G 119 Ffbv_ent:=good_T (fnOf_good (gl_n)) agree_mk (Checked.mixed Tryd.checked) Tryd.func119 (n:=4) (m:=1) ⟨rfl,rfl,by decide⟩ (fun _=>⟨rfl,rfl⟩) (fun a r h=>Ffbv_run a.1 a.2.1 a.2.2.1 a.2.2.2 r h)
def Ffbr_A : ((List Event) × Int × Int × Unit)→List V:=cA (usE 4 enc_Event) (cA I (cA I (oA (fun x : Unit=>(.fn 52 [] : V)))))
def Ffbr_R (r : Bool × (List Event)) : V × List V:=(B (r.1),[.usl 4 ((r.2).map enc_Event)])
noncomputable def Ffbr_ent : Ent:=entT [true,false,false,false] Ffbr_A Ffbr_R fun x=>Ffbr x.1 x.2.1 x.2.2.1 x.2.2.2
theorem Ffbr_F {data_16 : List Event} {a_17 : Int} {b_18 : Int} {cmp_19 : Unit} {r} (h : Ffbr data_16 a_17 b_18 cmp_19=some r) : (Ffbr_ent).F (Ffbr_A (data_16,a_17,b_18,cmp_19))=some (Ffbr_R r):=entT_F (cA_inj (usl_inj enc_Event_inj) (cA_inj I_inj (cA_inj I_inj (oA_inj (fn_inj0 ))))) h
noncomputable def Ffbr_c : Code:=bodyOf Tryd.f120
noncomputable def Ffbr_E : Env:=mkE Tryd.prog [(52,Fff_ent)]
def Ffbr_Q (x : (List Event) × Int × Int × Unit) (r : Bool × (List Event)) : St→Prop:=QF Ffbr_E Tryd.f120 [true,false,false,false] (Ffbr_A x) (Ffbr_R r)
theorem Ffbr_lb_run (data_16 : List Event) (a_17 : Int) (b_18 : Int) (cmp_19 : Unit) (x5 : Int × Int × Int × Int × (List Event)) {Q : St→Prop} {K : List It} (hK : noD K=true) {x6 : Int} {y : (Bool × (List Event)) ⊕ Int} (h : Ffbr_lb data_16 a_17 b_18 cmp_19 x5 x6=some y) : (∀ r',y=.inl r'→∀ st,Ffbr_Q (data_16,a_17,b_18,cmp_19) r' st→Q st)→(∀ u : Int,y=.inr u→Run Ffbr_E 1 Q K ⟨mkTm .dead 141 [(0,.hs 1 0 [] 4 0 ((x5.2.2.2.2).map enc_Event).length),(1,I (x5.1)),(2,I (x5.2.1)),(3,.fn 52 []),(9,I (u)),(10,I (x5.2.2.2.1))],mkS (rtL [⟨0,4,(x5.2.2.2.2).map enc_Event⟩] 1),2⟩)→Run Ffbr_E 1 Q (.code (cL (cL (cL (cL (cL (cR (cL (cL (cR (cL (cR (cR Ffbr_c)))))))))))) :: .lp (cL (cL (cL (cL (cL (cR (cL (cL (cR (cL (cR (cR Ffbr_c)))))))))))) :: .blk 2 :: K) ⟨mkTm .dead 141 [(0,.hs 1 0 [] 4 0 ((x5.2.2.2.2).map enc_Event).length),(1,I (x5.1)),(2,I (x5.2.1)),(3,.fn 52 []),(9,I (x6)),(10,I (x5.2.2.2.1))],mkS (rtL [⟨0,4,(x5.2.2.2.2).map enc_Event⟩] 1),2⟩:=by
 refine fix_ind (P:=fun (x6 : Int) (y : (Bool × (List Event)) ⊕ Int)=>(∀ r',y=.inl r'→∀ st,Ffbr_Q (data_16,a_17,b_18,cmp_19) r' st→Q st)→(∀ u : Int,y=.inr u→Run Ffbr_E 1 Q K ⟨mkTm .dead 141 [(0,.hs 1 0 [] 4 0 ((x5.2.2.2.2).map enc_Event).length),(1,I (x5.1)),(2,I (x5.2.1)),(3,.fn 52 []),(9,I (u)),(10,I (x5.2.2.2.1))],mkS (rtL [⟨0,4,(x5.2.2.2.2).map enc_Event⟩] 1),2⟩)→Run Ffbr_E 1 Q (.code (cL (cL (cL (cL (cL (cR (cL (cL (cR (cL (cR (cR Ffbr_c)))))))))))) :: .lp (cL (cL (cL (cL (cL (cR (cL (cL (cR (cL (cR (cR Ffbr_c)))))))))))) :: .blk 2 :: K) ⟨mkTm .dead 141 [(0,.hs 1 0 [] 4 0 ((x5.2.2.2.2).map enc_Event).length),(1,I (x5.1)),(2,I (x5.2.1)),(3,.fn 52 []),(9,I (x6)),(10,I (x5.2.2.2.1))],mkS (rtL [⟨0,4,(x5.2.2.2.2).map enc_Event⟩] 1),2⟩) (Ffbr_lb_fin data_16 a_17 b_18 cmp_19 x5) ?_ h
 clear h y x6
 intro self ih x6 y h hr hn
 unfold Ffbr_lb_F at h
 refine ad 2 rfl ?_
 refine s_draw [0,0,3,7,15,15,15,111,239,15,15,1039,3599,7695,16383,32767,65535,131071] rfl (by decide +kernel) ?_
 refine dp [] [] (I (x6)) rfl (e_move rfl) rfl (rfl) (by decide) ?_
 refine dp [] [] (I (x5.2.1)) rfl (e_move rfl) rfl (rfl) (by decide) ?_
 refine dp [] [] (B ((decide (x6 < x5.2.1)))) rfl (e_bin rfl rfl rfl) rfl (rfl) (by decide) ?_
 refine dp [] [] (B ((decide (x6 < x5.2.1)))) rfl (e_move rfl) rfl (rfl) (by decide) ?_
 obtain ⟨y7,hy7,hy71,hy72⟩:=bL h
 have j7 : ∀ u7,y7=.inr u7→Run Ffbr_E 1 Q (.code (cR (cL (cL (cL (cL (cL (cL (cR (cL (cL (cR (cL (cR (cR Ffbr_c)))))))))))))) :: .code (cR (cL (cL (cL (cL (cL (cR (cL (cL (cR (cL (cR (cR Ffbr_c))))))))))))) :: .lp (cL (cL (cL (cL (cL (cR (cL (cL (cR (cL (cR (cR Ffbr_c)))))))))))) :: .blk 2 :: K) ⟨mkTm .dead 141 [(0,.hs 1 0 [] 4 0 ((x5.2.2.2.2).map enc_Event).length),(1,I (x5.1)),(2,I (x5.2.1)),(3,.fn 52 []),(9,I (x6)),(10,I (x5.2.2.2.1)),(36,B (u7))],mkS (rtL [⟨0,4,(x5.2.2.2.2).map enc_Event⟩] 1),2⟩:=by
   intro u7 hu
   replace h:=hy72 u7 hu
   refine sc h rfl rfl (fun h=>?_) (fun h=>?_)
   · refine ad 1 rfl ?_
     refine c0 7 [9] [I ((w64 (x6 + 1)))] 50 (by kernel_rfl) ?_
     refine s_lp ?_
     refine run_forget [0,1,2,3,9,10] [1] [⟨0,4,(x5.2.2.2.2).map enc_Event⟩] rfl rfl rfl rfl ?_
     exact ih _ _ h hr hn
   · refine ad 1 rfl ?_
     refine run_forget [0,1,2,3,9,10] [1] [⟨0,4,(x5.2.2.2.2).map enc_Event⟩] rfl rfl rfl hK ?_
     exact hn _ (Option.some.inj h).symm
 have r7 : ∀ r',y7=.inl r'→∀ st,Ffbr_Q (data_16,a_17,b_18,cmp_19) r' st→Q st:=fun r' e st hq=>hr r' (hy71 r' e) st hq
 replace h:=hy7
 refine sp 22 h rfl (fun h=>?_) (fun h=>?_)
 · refine dg [] [] (.fn 52 []) rfl rfl rfl (e_move rfl) rfl (rfl) (by decide) ?_
   refine dg [] [] (.hs 1 0 [] 4 0 ((x5.2.2.2.2).map enc_Event).length) rfl rfl rfl (e_move rfl) rfl (rfl) (by decide) ?_
   refine dg [] [] (I (x6)) rfl rfl rfl (e_move rfl) rfl (rfl) (by decide) ?_
   obtain ⟨e8,he8,h⟩:=bS h
   refine dg [1] [] (.hp 1 0 [] 4 (0 + Int.toNat (x6)) 0) rfl rfl rfl (e_indexAddr rfl rfl rfl (ix_hsM (f:=enc_Event) (xs:=x5.2.2.2.2) rfl rfl rfl he8)) rfl (rfl) (by decide) ?_
   refine dg [1] [] (enc_Event e8) rfl rfl rfl (e_ld rfl (ld_at (path:=[]) rfl rfl rfl (ra_n) (get_map (f:=enc_Event) (xs:=x5.2.2.2.2) he8) rfl rfl rfl)) rfl (rfl) (by decide) ?_
   refine dg [] [] (.hs 1 0 [] 4 0 ((x5.2.2.2.2).map enc_Event).length) rfl rfl rfl (e_move rfl) rfl (rfl) (by decide) ?_
   refine dg [] [] (I (x6)) rfl rfl rfl (e_move rfl) rfl (rfl) (by decide) ?_
   refine dg [] [] (I ((w64 (x6 - 1)))) rfl rfl rfl (e_bin rfl rfl rfl) rfl (rfl) (by decide) ?_
   obtain ⟨e9,he9,h⟩:=bS h
   refine dg [1] [] (.hp 1 0 [] 4 (0 + Int.toNat ((w64 (x6 - 1)))) 0) rfl rfl rfl (e_indexAddr rfl rfl rfl (ix_hsM (f:=enc_Event) (xs:=x5.2.2.2.2) rfl rfl rfl he9)) rfl (rfl) (by decide) ?_
   refine dg [1] [] (enc_Event e9) rfl rfl rfl (e_ld rfl (ld_at (path:=[]) rfl rfl rfl (ra_n) (get_map (f:=enc_Event) (xs:=x5.2.2.2.2) he9) rfl rfl rfl)) rfl (rfl) (by decide) ?_
   obtain ⟨r10,hr10,h⟩:=bS h
   refine dg [] [] (I (r10)) rfl rfl rfl (e_callV rfl rfl (call_P rfl rfl rfl (avS (shP rfl) (avS (shP rfl) (avN))) (Fff_F hr10) (.inr rfl) (bl_n) rfl rfl rfl)) rfl (w_callO rfl rfl rfl rfl (avS (shP rfl) (avS (shP rfl) (avN))) (Fff_F hr10) (.inr rfl) rfl) (by decide) ?_
   refine dg [] [] (B ((decide (r10 < 0)))) rfl rfl rfl (e_bin rfl rfl rfl) rfl (rfl) (by decide) ?_
   refine dg [] [] (B ((!(decide (r10 < 0))))) rfl rfl rfl (e_un rfl rfl) rfl (rfl) (by decide) ?_
   refine dp [] [] (B ((!(decide (r10 < 0))))) rfl (e_pickT rfl rfl) rfl (rfl) (by decide) ?_
   refine de 290 rfl rfl ?_
   refine run_forget [0,1,2,3,9,10,36] [1] [⟨0,4,(x5.2.2.2.2).map enc_Event⟩] rfl rfl rfl rfl ?_
   exact j7 _ (Option.some.inj h).symm
 · refine ds rfl rfl rfl (by decide) ?_
   refine ds rfl rfl rfl (by decide) ?_
   refine ds rfl rfl rfl (by decide) ?_
   refine ds rfl rfl rfl (by decide) ?_
   refine ds rfl rfl rfl (by decide) ?_
   refine ds rfl rfl rfl (by decide) ?_
   refine ds rfl rfl rfl (by decide) ?_
   refine ds rfl rfl rfl (by decide) ?_
   refine ds rfl rfl rfl (by decide) ?_
   refine ds rfl rfl rfl (by decide) ?_
   refine ds rfl rfl rfl (by decide) ?_
   refine ds rfl rfl rfl (by decide) ?_
   refine ds rfl rfl rfl (by decide) ?_
   refine dp [] [] (B (false)) rfl (e_pickF rfl rfl) rfl (rfl) (by decide) ?_
   refine de 290 rfl rfl ?_
   refine run_forget [0,1,2,3,9,10,36] [1] [⟨0,4,(x5.2.2.2.2).map enc_Event⟩] rfl rfl rfl rfl ?_
   exact j7 _ (Option.some.inj h).symm
end Go.Ln
