/-
  Each function of the program computes its plain function.
-/
import Derived.Test.YtniljljgdoncpaaDoorFnExactConditionsMeetFun
import Derived.Test.YtniljljgdoncpaaDoorChecked
set_option maxHeartbeats 4000000
set_option linter.unusedVariables false
set_option linter.unusedSimpArgs false
set_option maxRecDepth 100000
namespace Go.Ln
open Go Go.Proofs
def Ffs_A : (Condition × Int)→List V:=cA encI_Condition1 (oA I)
def Ffs_R (r : Int) : V × List V:=(I (r),[])
noncomputable def Ffs_entS (slf_Ffs : (Condition × Int)→Option Int) : Ent:=entT [false,false] Ffs_A Ffs_R slf_Ffs
theorem Ffs_FS (slf_Ffs : (Condition × Int)→Option Int) {x} {r} (h : slf_Ffs x=some r) : (Ffs_entS slf_Ffs).F (Ffs_A x)=some (Ffs_R r):=entT_F (cA_inj encI_Condition1_inj (oA_inj I_inj)) h
def Ffu_A : ((List Condition) × Int)→List V:=cA (slE encI_Condition) (oA I)
def Ffu_R (r : Int) : V × List V:=(I (r),[])
noncomputable def Ffu_ent (slf_Ffs : (Condition × Int)→Option Int) : Ent:=entT [false,false] Ffu_A Ffu_R fun x=>Ffu slf_Ffs x.1 x.2
theorem Ffu_F (slf_Ffs : (Condition × Int)→Option Int) {a_1 : List Condition} {left_2 : Int} {r} (h : Ffu slf_Ffs a_1 left_2=some r) : (Ffu_ent slf_Ffs).F (Ffu_A (a_1,left_2))=some (Ffu_R r):=entT_F (cA_inj (isl_inj encI_Condition_inj) (oA_inj I_inj)) h
noncomputable def Ffu_c : Code:=bodyOf Tryd.f35
noncomputable def Ffu_E (slf_Ffs : (Condition × Int)→Option Int) : Env:=mkE Tryd.prog [(8,(Ffs_entS slf_Ffs))]
def Ffu_Q (slf_Ffs : (Condition × Int)→Option Int) (x : (List Condition) × Int) (r : Int) : St→Prop:=QF (Ffu_E slf_Ffs) Tryd.f35 [false,false] (Ffu_A x) (Ffu_R r)
theorem Ffu_la_run (slf_Ffs : (Condition × Int)→Option Int) (a_1 : List Condition) (left_2 : Int)  {Q : St→Prop} {K : List It} (hK : noD K=true) : ∀ (x3 : Int × Int) (y : Int ⊕ Int),Ffu_la slf_Ffs a_1 left_2 x3=some y→(∀ r',y=.inl r'→∀ st,Ffu_Q slf_Ffs (a_1,left_2) r' st→Q st)→(∀ u : Int,y=.inr u→Run (Ffu_E slf_Ffs) 0 Q K (sT 27 [(1,I (u))] [] 1))→Run (Ffu_E slf_Ffs) 0 Q (.code (cL (cL (cR (cL (cR (cR (cR Ffu_c))))))) :: .lp (cL (cL (cR (cL (cR (cR (cR Ffu_c))))))) :: .blk 0 :: K) (sT 27 [(0,.isl false ((a_1).map encI_Condition)),(1,I (x3.1)),(5,I (x3.2))] [] 1):=by
 refine fix_indP (Ffu_la_fin slf_Ffs a_1 left_2) ?_
 intro self ih x3 y h hr hn
 unfold Ffu_la_F at h
 refine cq 5 [12,13] [I (x3.2),.isl false ((a_1).map encI_Condition)] 33 ?_
 refine oq 49 (I ((len a_1))) rfl (e_len rfl rfl rfl (l_isl rfl)) ?_
 refine cq 2 [15] [B ((decide (x3.2 < (len a_1))))] 65 ?_
 refine sq h (fun h=>?_) (fun h=>?_)
 · refine aq 1 ?_
   refine cq 6 [18,19] [.isl false ((a_1).map encI_Condition),I (x3.2)] 97 ?_
   obtain ⟨e4,he4,h⟩:=bS h
   refine oq 113 (.iptr (encI_Condition1 e4) 0) rfl (e_indexAddr rfl rfl rfl (ix_islE rfl rfl (encI_Condition_eq e4) rfl he4)) ?_
   refine cq 2 [21,22] [encI_Condition1 e4,I (x3.1)] 145 ?_
   obtain ⟨r5,hr5,h⟩:=bS h
   refine oq 161 (I (r5)) rfl (e_callV rfl rfl (call_P rfl rfl rfl (avS (shP rfl) (avS (shP rfl) (avN))) (Ffs_FS slf_Ffs hr5) (.inr rfl) (bl_n) rfl rfl rfl)) ?_
   refine cq 7 [1,25] [I (r5),B ((decide (r5 < 0)))] 209 ?_
   refine sq h (fun h=>?_) (fun h=>?_)
   · refine cq 4 [4] [I ((-1))] 225 ?_
     exact s_ret rfl (hr _ (Option.some.inj h).symm _ ⟨_,fin (vs:=[I ((-1))]) rfl (absE (absorb_plain rfl) (absEN)) rfl (ou_f (ou_f (ou_n))),kl_n⟩)
   · refine aq 1 ?_
     refine cq 6 [5] [I ((w64 (x3.2 + 1)))] 257 ?_
     refine s_lp ?_
     exact rf [0,1,5] [] (ih _ _ h hr hn :)
 · refine aq 1 ?_
   exact rf [1] [] (hn _ (Option.some.inj h).symm :) (hk:=hK)
theorem Ffu_run (slf_Ffs : (Condition × Int)→Option Int) (a_1 : List Condition) (left_2 : Int) (r : Int) (h : Ffu slf_Ffs a_1 left_2=some r) : RunF (Ffu_E slf_Ffs) Tryd.f35 [false,false] 0 (Ffu_A (a_1,left_2)) (Ffu_R r):=by
 show Run _ _ (Ffu_Q slf_Ffs (a_1,left_2) r) [.code Ffu_c] _
 refine rin (n:=27) [(0,.isl false ((a_1).map encI_Condition)),(1,I (left_2))] [] 1 (by kernel_rfl) (by kernel_rfl) (by kernel_rfl) rfl ?_
 unfold Ffu at h
 refine cq 8 [6,7] [I (left_2),.isl false ((a_1).map encI_Condition)] 49 ?_
 refine oq 65 (I ((len a_1))) rfl (e_len rfl rfl rfl (l_isl rfl)) ?_
 refine cq 9 [1,11] [I ((w64 (left_2 - (len a_1)))),B ((decide ((w64 (left_2 - (len a_1))) < 0)))] 129 ?_
 refine sq h (fun h=>?_) (fun h=>?_)
 · refine cq 4 [4] [I ((-1))] 145 ?_
   obtain rfl:=Option.some.inj h
   exact s_ret rfl ⟨_,fin (vs:=[I ((-1))]) rfl (absE (absorb_plain rfl) (absEN)) rfl (ou_f (ou_f (ou_n))),kl_n⟩
 · refine aq 1 ?_
   refine cq 6 [5] [I (0)] 145 ?_
   obtain ⟨y6,hy6,hy61,hy62⟩:=bJ h
   refine s_loop rfl ?_
   refine rf [0,1,5] [] (Ffu_la_run slf_Ffs a_1 left_2 rfl ((w64 (left_2 - (len a_1))),0) _ hy6 (fun r' e st hq=>by rw [hy61 r' e] at hq; exact hq) fun u6 hu=>?_)
   replace h:=hy62 u6 hu
   refine cq 5 [4] [I (u6)] 33 ?_
   obtain rfl:=Option.some.inj h
   exact s_ret rfl ⟨_,fin (vs:=[I (u6)]) rfl (absE (absorb_plain rfl) (absEN)) rfl (ou_f (ou_f (ou_n))),kl_n⟩
theorem Ffu_good {G : Go.Ln.Ground} (slf_Ffs : (Condition × Int)→Option Int) (g_Ffs : Good Tryd.prog G 8 (Ffs_entS slf_Ffs)) : Good Tryd.prog G 35 (Ffu_ent slf_Ffs):=good_T (fnOf_good (gl_c g_Ffs (gl_n))) agree_mk (Checked.mixed Tryd.checked) Tryd.func35 (n:=2) (m:=0) ⟨rfl,rfl,by decide⟩ (fun _=>⟨rfl,rfl⟩) (fun a r h=>Ffu_run slf_Ffs a.1 a.2 r h)
noncomputable def Ffs_ent : Ent:=Ffs_entS (fixO Ffs_G)
theorem Ffs_F {a_1 : Condition} {left_2 : Int} {r} (h : Ffs a_1 left_2=some r) : Ffs_ent.F (Ffs_A (a_1,left_2))=some (Ffs_R r):=Ffs_FS (fixO Ffs_G) h
noncomputable def Ffs_c : Code:=bodyOf Tryd.f8
noncomputable def Ffs_E (slf_Ffs : (Condition × Int)→Option Int) : Env:=mkE Tryd.prog [(35,(Ffu_ent slf_Ffs))]
def Ffs_Q (slf_Ffs : (Condition × Int)→Option Int) (x : Condition × Int) (r : Int) : St→Prop:=QF (Ffs_E slf_Ffs) Tryd.f8 [false,false] (Ffs_A x) (Ffs_R r)
theorem Ffs_run (slf_Ffs : (Condition × Int)→Option Int) (a_1 : Condition) (left_2 : Int) (r : Int) (h : Ffs_B slf_Ffs a_1 left_2=some r) : RunF (Ffs_E slf_Ffs) Tryd.f8 [false,false] 0 (Ffs_A (a_1,left_2)) (Ffs_R r):=by
 show Run _ _ (Ffs_Q slf_Ffs (a_1,left_2) r) [.code Ffs_c] _
 refine rin (n:=19) [(0,encI_Condition1 a_1),(1,I (left_2))] [] 1 (by kernel_rfl) (by kernel_rfl) (by kernel_rfl) rfl ?_
 unfold Ffs_B at h
 refine ck 20 [1,2,11] [] [1] [] [I ((w64 (left_2 - (len a_1.Name)))),.hp 1 0 [] 4 0 0,B ((decide ((w64 (left_2 - (len a_1.Name))) < 0)))] [some ⟨0,4,[encI_Condition1 a_1]⟩] 161 (by kernel_rfl) ?_
 refine sq h (fun h=>?_) (fun h=>?_)
 · refine cq 4 [4] [I ((-1))] 177 ?_
   obtain rfl:=Option.some.inj h
   exact s_ret rfl ⟨_,fin (vs:=[I ((-1))]) rfl (absE (absorb_plain rfl) (absEN)) rfl (ou_f (ou_f (ou_n))),kl_n⟩
 · refine aq 1 ?_
   refine cq 5 [13,14] [.isl false ((a_1.Parts).map encI_Condition),I ((w64 (left_2 - (len a_1.Name))))] 209 ?_
   obtain ⟨r3,hr3,h⟩:=bS h
   refine oq 225 (I (r3)) rfl (e_callV rfl rfl (call_P rfl rfl rfl (avS (shP rfl) (avS (shP rfl) (avN))) (Ffu_F slf_Ffs hr3) (.inr rfl) (bl_n) rfl rfl rfl)) ?_
   refine cq 8 [1,17] [I (r3),B ((decide (r3 < 0)))] 273 ?_
   refine sq h (fun h=>?_) (fun h=>?_)
   · refine cq 4 [4] [I ((-1))] 289 ?_
     obtain rfl:=Option.some.inj h
     exact s_ret rfl ⟨_,fin (vs:=[I ((-1))]) rfl (absE (absorb_plain rfl) (absEN)) rfl (ou_f (ou_f (ou_n))),kl_n⟩
   · refine aq 1 ?_
     refine cq 5 [4] [I (r3)] 305 ?_
     obtain rfl:=Option.some.inj h
     exact s_ret rfl ⟨_,fin (vs:=[I (r3)]) rfl (absE (absorb_plain rfl) (absEN)) rfl (ou_f (ou_f (ou_n))),kl_n⟩
theorem Ffs_good {G : Go.Ln.Ground} : Good Tryd.prog G 8 Ffs_ent:=good_rec fun slf_Ffs g_Ffs=>good_T (fnOf_good (gl_c (Ffu_good slf_Ffs g_Ffs) (gl_n))) agree_mk (Checked.mixed Tryd.checked) Tryd.func8 (n:=2) (m:=0) ⟨rfl,rfl,by decide⟩ (fun _=>⟨rfl,rfl⟩) (fun a r h=>Ffs_run slf_Ffs a.1 a.2 r h)
noncomputable def Fft_ent : Ent:=Ffu_ent (fixO Ffs_G)
theorem Fft_F {a_1 : List Condition} {left_2 : Int} {r} (h : Fft a_1 left_2=some r) : Fft_ent.F (Ffu_A (a_1,left_2))=some (Ffu_R r):=Ffu_F (fixO Ffs_G) h
theorem Fft_good {G : Go.Ln.Ground} : Good Tryd.prog G 35 Fft_ent:=Ffu_good (fixO Ffs_G) Ffs_good
def Ffv_A : Condition→List V:=oA encI_Condition1
def Ffv_R (r : Condition) : V × List V:=(.agg [I (r.Op),str (r.Name),I (r.Day),.usl 4 ((r.Parts).map encO_Condition)],[])
noncomputable def Ffv_entS (slf_Ffv : Condition→Option Condition) : Ent:=entT [false] Ffv_A Ffv_R slf_Ffv
theorem Ffv_FS (slf_Ffv : Condition→Option Condition) {x} {r} (h : slf_Ffv x=some r) : (Ffv_entS slf_Ffv).F (Ffv_A x)=some (Ffv_R r):=entT_F (oA_inj encI_Condition1_inj) h
def Ffx_A : ((List Condition))→List V:=oA (slE encI_Condition)
def Ffx_R (r : (List Condition)) : V × List V:=(.usl 4 ((r).map encO_Condition),[])
noncomputable def Ffx_ent (slf_Ffv : Condition→Option Condition) : Ent:=entT [false] Ffx_A Ffx_R fun x=>Ffx slf_Ffv x
theorem Ffx_F (slf_Ffv : Condition→Option Condition) {a_1 : List Condition} {r} (h : Ffx slf_Ffv a_1=some r) : (Ffx_ent slf_Ffv).F (Ffx_A a_1)=some (Ffx_R r):=entT_F (oA_inj (isl_inj encI_Condition_inj)) h
noncomputable def Ffx_c : Code:=bodyOf Tryd.f39
noncomputable def Ffx_E (slf_Ffv : Condition→Option Condition) : Env:=mkE Tryd.prog [(10,(Ffv_entS slf_Ffv))]
def Ffx_Q (slf_Ffv : Condition→Option Condition) (x : (List Condition)) (r : (List Condition)) : St→Prop:=QF (Ffx_E slf_Ffv) Tryd.f39 [false] (Ffx_A x) (Ffx_R r)
theorem Ffx_la_run (slf_Ffv : Condition→Option Condition) (a_1 : List Condition)  {Q : St→Prop} {K : List It} (hK : noD K=true) : ∀ (x3 : Int × (List Condition)) (y : ((List Condition)) ⊕ ((List Condition))),Ffx_la slf_Ffv a_1 x3=some y→(∀ r',y=.inl r'→∀ st,Ffx_Q slf_Ffv a_1 r' st→Q st)→(∀ u : (List Condition),y=.inr u→Run (Ffx_E slf_Ffv) 0 Q K (sT 23 [(3,.hs 1 0 [] 4 0 ((u).map encO_Condition).length)] [⟨0,4,(u).map encO_Condition⟩] 2))→Run (Ffx_E slf_Ffv) 0 Q (.code (cL (cL (cR (cL (cR (cR Ffx_c)))))) :: .lp (cL (cL (cR (cL (cR (cR Ffx_c)))))) :: .blk 0 :: K) (sT 23 [(0,.isl false ((a_1).map encI_Condition)),(3,.hs 1 0 [] 4 0 ((x3.2).map encO_Condition).length),(4,I (x3.1))] [⟨0,4,(x3.2).map encO_Condition⟩] 2):=by
 refine fix_indP (Ffx_la_fin slf_Ffv a_1) ?_
 intro self ih x3 y h hr hn
 unfold Ffx_la_F at h
 refine cq 5 [8,9] [I (x3.1),.isl false ((a_1).map encI_Condition)] 34 ?_
 refine oq 50 (I ((len a_1))) rfl (e_len rfl rfl rfl (l_isl rfl)) ?_
 refine cq 2 [11] [B ((decide (x3.1 < (len a_1))))] 66 ?_
 refine sq h (fun h=>?_) (fun h=>?_)
 · refine aq 1 ?_
   refine cq 7 [14,15,16,17] [.hs 1 0 [] 4 0 ((x3.2).map encO_Condition).length,I (x3.1),.isl false ((a_1).map encI_Condition),I (x3.1)] 130 ?_
   obtain ⟨e4,he4,h⟩:=bS h
   refine oq 146 (.iptr (encI_Condition1 e4) 0) rfl (e_indexAddr rfl rfl rfl (ix_islE rfl rfl (encI_Condition_eq e4) rfl he4)) ?_
   refine cq 1 [19] [encI_Condition1 e4] 162 ?_
   obtain ⟨r5,hr5,h⟩:=bS h
   refine oq 178 (.agg [I (r5.Op),str (r5.Name),I (r5.Day),.hs 162 0 [] 4 0 ((r5.Parts).map encO_Condition).length]) rfl (e_callV rfl rfl (call_P rfl rfl rfl (avS (shP rfl) (avN)) (Ffv_FS slf_Ffv hr5) (.inr rfl) (bl_n) rfl rfl rfl)) ?_
   obtain ⟨e6,he6,h⟩:=bS h
   refine oq 194 (.hp 1 0 [] 4 (0 + Int.toNat (x3.1)) 0) rfl (e_indexAddr rfl rfl rfl (ix_hsM (f:=encO_Condition) (xs:=x3.2) rfl rfl rfl he6)) ?_
   refine o0 210 rfl rfl (e_st rfl rfl (st_at (path:=[]) (pl:=false) (e':=.agg [I (r5.Op),str (r5.Name),I (r5.Day),.usl 4 ((r5.Parts).map encO_Condition)]) (es2':=((setI x3.2 x3.1 r5)).map encO_Condition) rfl (absA (absC (abs_p rfl) (absC (abs_p rfl) (absC (abs_p rfl) (absC (abs_hs rfl rfl) (absN)))))) rfl rfl rfl (ra_n) (get_mapE (f:=encO_Condition) (xs:=x3.2) (encO_Condition_eq e6) he6) rfl rfl rfl (set_mapE (f:=encO_Condition) (xs:=x3.2) (encO_Condition_eq r5)) (sr_n) 1 rfl)) ?_
   try rw [← len_setM (f:=encO_Condition) (xs:=x3.2) (i:=x3.1) (z:=r5)]
   refine cq 7 [4] [I ((w64 (x3.1 + 1)))] 258 ?_
   refine s_lp ?_
   exact rf [0,3,4] [1] (ih _ _ h hr hn :)
 · refine aq 1 ?_
   exact rf [3] [1] (hn _ (Option.some.inj h).symm :) (hk:=hK)
theorem Ffx_run (slf_Ffv : Condition→Option Condition) (a_1 : List Condition) (r : (List Condition)) (h : Ffx slf_Ffv a_1=some r) : RunF (Ffx_E slf_Ffv) Tryd.f39 [false] 0 (Ffx_A a_1) (Ffx_R r):=by
 show Run _ _ (Ffx_Q slf_Ffv a_1 r) [.code Ffx_c] _
 refine rin (n:=23) [(0,.isl false ((a_1).map encI_Condition))] [] 1 (by kernel_rfl) (by kernel_rfl) (by kernel_rfl) rfl ?_
 unfold Ffx at h
 refine cq 7 [5] [.isl false ((a_1).map encI_Condition)] 33 ?_
 refine oq 49 (I ((len a_1))) rfl (e_len rfl rfl rfl (l_isl rfl)) ?_
 obtain ⟨m2,hm2,h⟩:=bS h
 refine oq 65 (.hs 49 0 [] 4 0 ((m2).map encO_Condition).length) rfl (e_makeSlice rfl rfl (ms_mkG (g:=encO_Condition) (f:=fun _=>(.agg [I (0),str ([]),I (0),.isl true []] : V)) (z0:=(Condition.mk 0 [] 0 [])) rfl rfl rfl (by decide) hm2 rfl)) ?_
 refine run_row 49 (m2.map encO_Condition) rfl rfl (cvs_make hm2 ((encO_Condition_eq _).symm ▸ cv_agg (cvs_c (.refl _) (cvs_c (.refl _) (cvs_c (.refl _) (cvs_c (.nil _) (cvs_n))))))) ?_
 refine cq 8 [3,4] [.hs 49 0 [] 4 0 ((m2).map encO_Condition).length,I (0)] 97 ?_
 obtain ⟨y7,hy7,hy71,hy72⟩:=bJ h
 refine s_loop rfl ?_
 refine rf [0,3,4] [49] (Ffx_la_run slf_Ffv a_1 rfl (0,m2) _ hy7 (fun r' e st hq=>by rw [hy71 r' e] at hq; exact hq) fun u7 hu=>?_)
 replace h:=hy72 u7 hu
 refine cq 5 [2] [.hs 1 0 [] 4 0 ((u7).map encO_Condition).length] 34 ?_
 obtain rfl:=Option.some.inj h
 exact s_ret rfl ⟨_,fin (vs:=[.hs 1 0 [] 4 0 ((u7).map encO_Condition).length]) rfl (absE (abs1 rfl (abs_hs rfl rfl)) (absEN)) rfl (ou_f (ou_n)),kl_n⟩
theorem Ffx_good {G : Go.Ln.Ground} (slf_Ffv : Condition→Option Condition) (g_Ffv : Good Tryd.prog G 10 (Ffv_entS slf_Ffv)) : Good Tryd.prog G 39 (Ffx_ent slf_Ffv):=good_T (fnOf_good (gl_c g_Ffv (gl_n))) agree_mk (Checked.mixed Tryd.checked) Tryd.func39 (n:=1) (m:=0) ⟨rfl,rfl,by decide⟩ (fun _=>⟨rfl,rfl⟩) (fun a r h=>Ffx_run slf_Ffv a r h)
noncomputable def Ffv_ent : Ent:=Ffv_entS (fixO Ffv_G)
theorem Ffv_F {a_1 : Condition} {r} (h : Ffv a_1=some r) : Ffv_ent.F (Ffv_A a_1)=some (Ffv_R r):=Ffv_FS (fixO Ffv_G) h
noncomputable def Ffv_c : Code:=bodyOf Tryd.f10
noncomputable def Ffv_E (slf_Ffv : Condition→Option Condition) : Env:=mkE Tryd.prog [(39,(Ffx_ent slf_Ffv))]
def Ffv_Q (slf_Ffv : Condition→Option Condition) (x : Condition) (r : Condition) : St→Prop:=QF (Ffv_E slf_Ffv) Tryd.f10 [false] (Ffv_A x) (Ffv_R r)
theorem Ffv_run (slf_Ffv : Condition→Option Condition) (a_1 : Condition) (r : Condition) (h : Ffv_B slf_Ffv a_1=some r) : RunF (Ffv_E slf_Ffv) Tryd.f10 [false] 0 (Ffv_A a_1) (Ffv_R r):=by
 show Run _ _ (Ffv_Q slf_Ffv a_1 r) [.code Ffv_c] _
 refine rin (n:=18) [(0,encI_Condition1 a_1)] [] 1 (by kernel_rfl) (by kernel_rfl) (by kernel_rfl) rfl ?_
 unfold Ffv_B at h
 refine ck 4 [1,2] [] [1,17] [] [.hp 1 0 [] 4 0 0,.hp 17 0 [] 4 0 0] [some ⟨0,4,[encI_Condition1 a_1]⟩,some ⟨0,4,[.agg [I (0),str ([]),I (0),.isl true []]]⟩] 33 (by kernel_rfl) ?_
 refine run_row 17 [.agg [I (0),str ([]),I (0),.usl 4 (([]).map encO_Condition)]] rfl rfl (cvs_c (cv_agg (cvs_c (.refl _) (cvs_c (.refl _) (cvs_c (.refl _) (cvs_c (.nil _) (cvs_n)))))) cvs_n) ?_
 refine ck 4 [3] [] [33] [] [.hp 33 0 [] 4 0 0] [some ⟨0,4,[.agg [I (0),str ([]),I (0),.isl true []]]⟩] 49 (by kernel_rfl) ?_
 refine run_row 33 [.agg [I (0),str ([]),I (0),.usl 4 (([]).map encO_Condition)]] rfl rfl (cvs_c (cv_agg (cvs_c (.refl _) (cvs_c (.refl _) (cvs_c (.refl _) (cvs_c (.nil _) (cvs_n)))))) cvs_n) ?_
 refine ck 26 [14] [] [33] [] [.isl false ((a_1.Parts).map encI_Condition)] [some ⟨1,4,[.agg [I (a_1.Op),str (a_1.Name),I (a_1.Day),.usl 4 (([]).map encO_Condition)]]⟩] 273 (by kernel_rfl) ?_
 obtain ⟨r2,hr2,h⟩:=bS h
 refine oq 289 (.hs 273 0 [] 4 0 ((r2).map encO_Condition).length) rfl (e_callV rfl rfl (call_P rfl rfl rfl (avS (shP rfl) (avN)) (Ffx_F slf_Ffv hr2) (.inr rfl) (bl_n) rfl rfl rfl)) ?_
 refine cq 1 [16] [.hp 33 0 [] 4 0 3] 305 ?_
 refine o0 321 rfl rfl (e_st rfl rfl (st_at (path:=[]) (pl:=false) (e':=.agg [I (a_1.Op),str (a_1.Name),I (a_1.Day),.usl 4 ((r2).map encO_Condition)]) (es2':=[.agg [I (a_1.Op),str (a_1.Name),I (a_1.Day),.usl 4 ((r2).map encO_Condition)]]) rfl (abs1 rfl (abs_hs rfl rfl)) rfl rfl rfl (ra_n) rfl rfl rfl rfl rfl (sr_n) 2 rfl)) ?_
 refine cq 4 [17] [.agg [I (a_1.Op),str (a_1.Name),I (a_1.Day),.hs 33 2 [(0,3)] 4 0 ((r2).map encO_Condition).length]] 337 ?_
 refine o0 353 rfl rfl (e_st rfl rfl (st_at (path:=[]) (pl:=false) (e':=.agg [I (a_1.Op),str (a_1.Name),I (a_1.Day),.usl 4 ((r2).map encO_Condition)]) (es2':=[.agg [I (a_1.Op),str (a_1.Name),I (a_1.Day),.usl 4 ((r2).map encO_Condition)]]) rfl (absA (absC (abs_p rfl) (absC (abs_p rfl) (absC (abs_p rfl) (absC (abs_at (path:=[(0,3)]) rfl rfl (ra_c rfl rfl (ra_n)) rfl (to_c (path:=[]) (i:=0) (k:=3) (e':=.agg [I (a_1.Op),str (a_1.Name),I (a_1.Day),.dead]) (es2':=[.agg [I (a_1.Op),str (a_1.Name),I (a_1.Day),.dead]]) (ra_n) rfl rfl rfl (sr_n))) (absN)))))) rfl rfl rfl (ra_n) rfl rfl rfl rfl rfl (sr_n) 2 rfl)) ?_
 refine aq 1 ?_
 obtain rfl:=Option.some.inj h
 exact s_ret rfl ⟨_,fin (vs:=[.agg [I (a_1.Op),str (a_1.Name),I (a_1.Day),.hs 17 2 [(0,3)] 4 0 ((r2).map encO_Condition).length]]) (rs_c (rs_cell rfl rfl rfl) (rs_n)) (absE (absA (absC (abs_p rfl) (absC (abs_p rfl) (absC (abs_p rfl) (absC (abs_at (path:=[(0,3)]) rfl rfl (ra_c rfl rfl (ra_n)) rfl (to_c (path:=[]) (i:=0) (k:=3) (e':=.agg [I (a_1.Op),str (a_1.Name),I (a_1.Day),.dead]) (es2':=[.agg [I (a_1.Op),str (a_1.Name),I (a_1.Day),.dead]]) (ra_n) rfl rfl rfl (sr_n))) (absN)))))) (absEN)) rfl (ou_f (ou_n)),kl_n⟩
theorem Ffv_good {G : Go.Ln.Ground} : Good Tryd.prog G 10 Ffv_ent:=good_rec fun slf_Ffv g_Ffv=>good_T (fnOf_good (gl_c (Ffx_good slf_Ffv g_Ffv) (gl_n))) agree_mk (Checked.mixed Tryd.checked) Tryd.func10 (n:=1) (m:=0) ⟨rfl,rfl,by decide⟩ (fun _=>⟨rfl,rfl⟩) (fun a r h=>Ffv_run slf_Ffv a r h)
noncomputable def Ffw_ent : Ent:=Ffx_ent (fixO Ffv_G)
theorem Ffw_F {a_1 : List Condition} {r} (h : Ffw a_1=some r) : Ffw_ent.F (Ffx_A a_1)=some (Ffx_R r):=Ffx_F (fixO Ffv_G) h
theorem Ffw_good {G : Go.Ln.Ground} : Good Tryd.prog G 39 Ffw_ent:=Ffx_good (fixO Ffv_G) Ffv_good
def spec_l1In_A : (Int × Int × Int)→List V:=cA I (cA I (oA I))
def spec_l1In_R (r : Bool) : V × List V:=(B (r),[])
noncomputable def spec_l1In_ent : Ent:=entT [false,false,false] spec_l1In_A spec_l1In_R fun x=>spec_l1In x.1 x.2.1 x.2.2
theorem spec_l1In_F {x_1 : Int} {a_2 : Int} {b_3 : Int} {r} (h : spec_l1In x_1 a_2 b_3=some r) : (spec_l1In_ent).F (spec_l1In_A (x_1,a_2,b_3))=some (spec_l1In_R r):=entT_F (cA_inj I_inj (cA_inj I_inj (oA_inj I_inj))) h
noncomputable def spec_l1In_c : Code:=bodyOf Tryd.f63
noncomputable def spec_l1In_E : Env:=mkE Tryd.prog []
def spec_l1In_Q (x : Int × Int × Int) (r : Bool) : St→Prop:=QF spec_l1In_E Tryd.f63 [false,false,false] (spec_l1In_A x) (spec_l1In_R r)
theorem spec_l1In_run (x_1 : Int) (a_2 : Int) (b_3 : Int) (r : Bool) (h : spec_l1In x_1 a_2 b_3=some r) : RunF spec_l1In_E Tryd.f63 [false,false,false] 0 (spec_l1In_A (x_1,a_2,b_3)) (spec_l1In_R r):=by
 show Run _ _ (spec_l1In_Q (x_1,a_2,b_3) r) [.code spec_l1In_c] _
 refine rin (n:=15) [(0,I (x_1)),(1,I (a_2)),(2,I (b_3))] [] 1 (by kernel_rfl) (by kernel_rfl) (by kernel_rfl) rfl ?_
 unfold spec_l1In at h
 refine cq 10 [10] [B ((decide (x_1 ≥ a_2)))] 81 ?_
 obtain ⟨u4,hu4,h⟩:=lJ h
 have j4 : Run spec_l1In_E 0 (spec_l1In_Q (x_1,a_2,b_3) r) (.code (cR (cR spec_l1In_c)) :: []) (sT 15 [(6,B (u4))] [] 1):=by
   obtain rfl:=Option.some.inj h
   exact s_ret rfl ⟨_,fin (vs:=[B (u4)]) rfl (absE (absorb_plain rfl) (absEN)) rfl (ou_f (ou_f (ou_f (ou_n)))),kl_n⟩
 replace h:=hu4
 clear hu4
 refine sp 10 h rfl (fun h=>?_) (fun h=>?_)
 · refine cq 6 [6] [B ((decide (x_1 ≤ b_3)))] 161 ?_
   subst h
   exact rf [6] [] (j4 :)
 · refine cq 6 [6] [B (false)] 161 ?_
   subst h
   exact rf [6] [] (j4 :)
theorem spec_l1In_good {G : Go.Ln.Ground} : Good Tryd.prog G 63 spec_l1In_ent:=good_T (fnOf_good (gl_n)) agree_mk (Checked.mixed Tryd.checked) Tryd.func63 (n:=3) (m:=0) ⟨rfl,rfl,by decide⟩ (fun _=>⟨rfl,rfl⟩) (fun a r h=>spec_l1In_run a.1 a.2.1 a.2.2 r h)
def Ffck_A : Int→List V:=oA (V.int .u8)
def Ffck_R (r : Bool) : V × List V:=(B (r),[])
noncomputable def Ffck_ent : Ent:=entT [false] Ffck_A Ffck_R fun x=>Ffck x
theorem Ffck_F {b_1 : Int} {r} (h : Ffck b_1=some r) : (Ffck_ent).F (Ffck_A b_1)=some (Ffck_R r):=entT_F (oA_inj (vint_inj (k:=.u8))) h
noncomputable def Ffck_c : Code:=bodyOf Tryd.f113
noncomputable def Ffck_E : Env:=mkE Tryd.prog []
def Ffck_Q (x : Int) (r : Bool) : St→Prop:=QF Ffck_E Tryd.f113 [false] (Ffck_A x) (Ffck_R r)
theorem Ffck_run (b_1 : Int) (r : Bool) (h : Ffck b_1=some r) : RunF Ffck_E Tryd.f113 [false] 0 (Ffck_A b_1) (Ffck_R r):=by
 show Run _ _ (Ffck_Q b_1 r) [.code Ffck_c] _
 refine rin (n:=17) [(0,.int .u8 (b_1))] [] 1 (by kernel_rfl) (by kernel_rfl) (by kernel_rfl) rfl ?_
 unfold Ffck at h
 refine cq 9 [5] [B ((decide (b_1 ≥ 97)))] 65 ?_
 obtain ⟨u2,hu2,h⟩:=lJ h
 have j2 : Run Ffck_E 0 (Ffck_Q b_1 r) (.code (cR (cR Ffck_c)) :: []) (sT 17 [(2,B (u2))] [] 1):=by
   obtain rfl:=Option.some.inj h
   exact s_ret rfl ⟨_,fin (vs:=[B (u2)]) rfl (absE (absorb_plain rfl) (absEN)) rfl (ou_f (ou_n)),kl_n⟩
 replace h:=hu2
 clear hu2
 refine sp 5 h rfl (fun h=>?_) (fun h=>?_)
 · refine cq 4 [9] [B ((decide (b_1 ≤ 122)))] 129 ?_
   obtain ⟨u3,hu3,h⟩:=lJ h
   have j3 : Run Ffck_E 0 (Ffck_Q b_1 r) (.code (cR (cR Ffck_c)) :: []) (sT 17 [(2,B (u3))] [] 1):=by
     subst h
     exact rf [2] [] (j2 :)
   replace h:=hu3
   clear hu3
   refine sp 9 h rfl (fun h=>?_) (fun h=>?_)
   · refine cq 9 [2] [B (true)] 257 ?_
     subst h
     exact rf [2] [] (j3 :)
   · refine cq 3 [12] [B ((decide (b_1 ≥ 48)))] 177 ?_
     obtain ⟨u4,hu4,h⟩:=lJ h
     have j4 : Run Ffck_E 0 (Ffck_Q b_1 r) (.code (cR (cR Ffck_c)) :: []) (sT 17 [(2,B (u4))] [] 1):=by
       subst h
       exact rf [2] [] (j3 :)
     replace h:=hu4
     clear hu4
     refine sp 12 h rfl (fun h=>?_) (fun h=>?_)
     · refine cq 6 [2] [B ((decide (b_1 ≤ 57)))] 257 ?_
       subst h
       exact rf [2] [] (j4 :)
     · refine cq 6 [2] [B (false)] 257 ?_
       subst h
       exact rf [2] [] (j4 :)
 · refine cq 7 [9,12] [B (false),B ((decide (b_1 ≥ 48)))] 177 ?_
   obtain ⟨u5,hu5,h⟩:=lJ h
   have j5 : Run Ffck_E 0 (Ffck_Q b_1 r) (.code (cR (cR Ffck_c)) :: []) (sT 17 [(2,B (u5))] [] 1):=by
     subst h
     exact rf [2] [] (j2 :)
   replace h:=hu5
   clear hu5
   refine sp 12 h rfl (fun h=>?_) (fun h=>?_)
   · refine cq 6 [2] [B ((decide (b_1 ≤ 57)))] 257 ?_
     subst h
     exact rf [2] [] (j5 :)
   · refine cq 6 [2] [B (false)] 257 ?_
     subst h
     exact rf [2] [] (j5 :)
theorem Ffck_good {G : Go.Ln.Ground} : Good Tryd.prog G 113 Ffck_ent:=good_T (fnOf_good (gl_n)) agree_mk (Checked.mixed Tryd.checked) Tryd.func113 (n:=1) (m:=0) ⟨rfl,rfl,by decide⟩ (fun _=>⟨rfl,rfl⟩) (fun a r h=>Ffck_run a r h)
def Ffch_A : Str→List V:=oA str
def Ffch_R (r : Bool) : V × List V:=(B (r),[])
noncomputable def Ffch_ent : Ent:=entT [false] Ffch_A Ffch_R fun x=>Ffch x
theorem Ffch_F {s_1 : Str} {r} (h : Ffch s_1=some r) : (Ffch_ent).F (Ffch_A s_1)=some (Ffch_R r):=entT_F (oA_inj str_inj) h
noncomputable def Ffch_c : Code:=bodyOf Tryd.f98
noncomputable abbrev Ffch_ka : Code:=cR (cR (cR (cR Ffch_c)))
noncomputable abbrev Ffch_kb : Code:=cR (cL (cR (cL (cR (cR (cR Ffch_c))))))
noncomputable def Ffch_E : Env:=mkE Tryd.prog [(63,spec_l1In_ent),(113,Ffck_ent)]
def Ffch_Q (x : Str) (r : Bool) : St→Prop:=QF Ffch_E Tryd.f98 [false] (Ffch_A x) (Ffch_R r)
theorem Ffch_la_run (s_1 : Str)  {Q : St→Prop} {K : List It} (hK : noD K=true) : ∀ (x4 : Int) (y : Bool ⊕ Unit),Ffch_la s_1 x4=some y→(∀ r',y=.inl r'→∀ st,Ffch_Q s_1 r' st→Q st)→(∀ u : Unit,y=.inr u→Run Ffch_E 0 Q K (sT 40 [(0,str (s_1))] [] 1))→Run Ffch_E 0 Q (.code (cL (cL (cR (cL (cR (cR Ffch_c)))))) :: .lp (cL (cL (cR (cL (cR (cR Ffch_c)))))) :: .blk 0 :: K) (sT 40 [(0,str (s_1)),(3,I (x4))] [] 1):=by
 refine fix_indP (Ffch_la_fin s_1) ?_
 intro self ih x4 y h hr hn
 unfold Ffch_la_F at h
 refine cq 8 [21] [B ((decide (x4 < (len s_1))))] 65 ?_
 refine sq h (fun h=>?_) (fun h=>?_)
 · refine aq 1 ?_
   refine cq 6 [24,25] [str (s_1),I (x4)] 97 ?_
   obtain ⟨c5,hc5,h⟩:=bS h
   refine oq 113 (.int .u8 ((c5.toNat : Int))) rfl (e_index rfl rfl (i_str rfl rfl hc5)) ?_
   obtain ⟨r6,hr6,h⟩:=bS h
   refine oq 129 (B (r6)) rfl (e_callV rfl rfl (call_P rfl rfl rfl (avS (shP rfl) (avN)) (Ffck_F hr6) (.inr rfl) (bl_n) rfl rfl rfl)) ?_
   refine cq 2 [28] [B ((!r6))] 145 ?_
   refine sq h (fun h=>?_) (fun h=>?_)
   · refine cq 4 [2] [B (false)] 161 ?_
     exact s_ret rfl (hr _ (Option.some.inj h).symm _ ⟨_,fin (vs:=[B (false)]) rfl (absE (absorb_plain rfl) (absEN)) rfl (ou_f (ou_n)),kl_n⟩)
   · refine aq 1 ?_
     refine cq 6 [3] [I ((w64 (x4 + 1)))] 193 ?_
     refine s_lp ?_
     exact rf [0,3] [] (ih _ _ h hr hn :)
 · refine aq 1 ?_
   exact rf [0] [] (hn _ (Option.some.inj h).symm :) (hk:=hK)
theorem Ffch_run (s_1 : Str) (r : Bool) (h : Ffch s_1=some r) : RunF Ffch_E Tryd.f98 [false] 0 (Ffch_A s_1) (Ffch_R r):=by
 show Run _ _ (Ffch_Q s_1 r) [.code Ffch_c] _
 refine rin (n:=40) [(0,str (s_1))] [] 1 (by kernel_rfl) (by kernel_rfl) (by kernel_rfl) rfl ?_
 unfold Ffch at h
 refine cq 9 [5] [I ((len s_1))] 49 ?_
 obtain ⟨r2,hr2,h⟩:=bS h
 refine oq 65 (B (r2)) rfl (e_callV rfl rfl (call_P rfl rfl rfl (avS (shP rfl) (avS (shP rfl) (avS (shP rfl) (avN)))) (spec_l1In_F hr2) (.inr rfl) (bl_n) rfl rfl rfl)) ?_
 refine cq 2 [8] [B ((!r2))] 97 ?_
 obtain ⟨y3,hy3,hy31,hy32⟩:=bJ h
 have j3 : ∀ u3,y3=.inr u3→Run Ffch_E 0 (Ffch_Q s_1 r) (.code (cR (cL (cR Ffch_c))) :: .code (cR (cR Ffch_c)) :: []) (sT 40 [(0,str (s_1)),(17,B (u3))] [] 1):=by
   intro u3 hu
   replace h:=hy32 u3 hu
   refine sq h (fun h=>?_) (fun h=>?_)
   · refine cq 4 [2] [B (false)] 17 ?_
     obtain rfl:=Option.some.inj h
     exact s_ret rfl ⟨_,fin (vs:=[B (false)]) rfl (absE (absorb_plain rfl) (absEN)) rfl (ou_f (ou_n)),kl_n⟩
   · refine aq 1 ?_
     refine cq 6 [3] [I (0)] 17 ?_
     obtain ⟨y7,hy7,hy71,hy72⟩:=bJ h
     refine s_loop rfl ?_
     refine rf [0,3] [] (Ffch_la_run s_1 rfl 0 _ hy7 (fun r' e st hq=>by rw [hy71 r' e] at hq; exact hq) fun u7 hu=>?_)
     replace h:=hy72 u7 hu
     refine cq 12 [29,30] [str (s_1),B ((s_1 == ([116,114,117,101] : Str)))] 49 ?_
     obtain ⟨u8,hu8,h⟩:=lJ h
     have j8 : Run Ffch_E 0 (Ffch_Q s_1 r) (.code Ffch_kb :: .blk 2 :: .code Ffch_ka :: []) (sT 40 [(30,B (u8))] [] 1):=by
       refine sq h (fun h=>?_) (fun h=>?_)
       · refine cq 4 [2] [B (false)] 17 ?_
         obtain rfl:=Option.some.inj h
         exact s_ret rfl ⟨_,fin (vs:=[B (false)]) rfl (absE (absorb_plain rfl) (absEN)) rfl (ou_f (ou_n)),kl_n⟩
       · refine aq 1 ?_
         refine cq 5 [2] [B (true)] 17 ?_
         obtain rfl:=Option.some.inj h
         exact s_ret rfl ⟨_,fin (vs:=[B (true)]) rfl (absE (absorb_plain rfl) (absEN)) rfl (ou_f (ou_n)),kl_n⟩
     replace h:=hu8
     clear hu8
     refine scp h rfl rfl (fun h=>?_) (fun h=>?_)
     · refine aq 1 ?_
       subst h
       exact rf [30] [] (j8 :)
     · refine cq 5 [30] [B ((s_1 == ([102,114,111,109] : Str)))] 81 ?_
       obtain ⟨u9,hu9,h⟩:=lJ h
       have j9 : Run Ffch_E 0 (Ffch_Q s_1 r) (.code Ffch_kb :: .blk 2 :: .code Ffch_ka :: []) (sT 40 [(30,B (u9))] [] 1):=by
         subst h
         exact rf [30] [] (j8 :)
       replace h:=hu9
       clear hu9
       refine scp h rfl rfl (fun h=>?_) (fun h=>?_)
       · refine aq 1 ?_
         subst h
         exact rf [30] [] (j9 :)
       · refine cq 5 [30] [B ((s_1 == ([110,111,116] : Str)))] 113 ?_
         obtain ⟨u10,hu10,h⟩:=lJ h
         have j10 : Run Ffch_E 0 (Ffch_Q s_1 r) (.code Ffch_kb :: .blk 2 :: .code Ffch_ka :: []) (sT 40 [(30,B (u10))] [] 1):=by
           subst h
           exact rf [30] [] (j9 :)
         replace h:=hu10
         clear hu10
         refine scp h rfl rfl (fun h=>?_) (fun h=>?_)
         · refine aq 1 ?_
           subst h
           exact rf [30] [] (j10 :)
         · refine cq 5 [30] [B ((s_1 == ([97,110,100] : Str)))] 145 ?_
           obtain ⟨u11,hu11,h⟩:=lJ h
           have j11 : Run Ffch_E 0 (Ffch_Q s_1 r) (.code Ffch_kb :: .blk 2 :: .code Ffch_ka :: []) (sT 40 [(30,B (u11))] [] 1):=by
             subst h
             exact rf [30] [] (j10 :)
           replace h:=hu11
           clear hu11
           refine scp h rfl rfl (fun h=>?_) (fun h=>?_)
           · refine aq 1 ?_
             subst h
             exact rf [30] [] (j11 :)
           · refine cq 5 [30] [B ((s_1 == ([111,114] : Str)))] 177 ?_
             obtain ⟨u12,hu12,h⟩:=lJ h
             have j12 : Run Ffch_E 0 (Ffch_Q s_1 r) (.code Ffch_kb :: .blk 2 :: .code Ffch_ka :: []) (sT 40 [(30,B (u12))] [] 1):=by
               subst h
               exact rf [30] [] (j11 :)
             replace h:=hu12
             clear hu12
             refine scp h rfl rfl (fun h=>?_) (fun h=>?_)
             · refine aq 1 ?_
               subst h
               exact rf [30] [] (j12 :)
             · refine cq 5 [30] [B ((s_1 == ([98,111,116,104] : Str)))] 209 ?_
               obtain ⟨u13,hu13,h⟩:=lJ h
               have j13 : Run Ffch_E 0 (Ffch_Q s_1 r) (.code Ffch_kb :: .blk 2 :: .code Ffch_ka :: []) (sT 40 [(30,B (u13))] [] 1):=by
                 subst h
                 exact rf [30] [] (j12 :)
               replace h:=hu13
               clear hu13
               refine scp h rfl rfl (fun h=>?_) (fun h=>?_)
               · refine aq 1 ?_
                 subst h
                 exact rf [30] [] (j13 :)
               · refine cq 5 [30] [B ((s_1 == ([101,105,116,104,101,114] : Str)))] 241 ?_
                 obtain ⟨u14,hu14,h⟩:=lJ h
                 have j14 : Run Ffch_E 0 (Ffch_Q s_1 r) (.code Ffch_kb :: .blk 2 :: .code Ffch_ka :: []) (sT 40 [(30,B (u14))] [] 1):=by
                   subst h
                   exact rf [30] [] (j13 :)
                 replace h:=hu14
                 clear hu14
                 refine scp h rfl rfl (fun h=>?_) (fun h=>?_)
                 · refine aq 1 ?_
                   subst h
                   exact rf [30] [] (j14 :)
                 · refine cq 5 [30] [B ((s_1 == ([105,116] : Str)))] 273 ?_
                   obtain ⟨u15,hu15,h⟩:=lJ h
                   have j15 : Run Ffch_E 0 (Ffch_Q s_1 r) (.code Ffch_kb :: .blk 2 :: .code Ffch_ka :: []) (sT 40 [(30,B (u15))] [] 1):=by
                     subst h
                     exact rf [30] [] (j14 :)
                   replace h:=hu15
                   clear hu15
                   refine scp h rfl rfl (fun h=>?_) (fun h=>?_)
                   · refine aq 1 ?_
                     subst h
                     exact rf [30] [] (j15 :)
                   · refine cq 4 [30] [B ((s_1 == ([105,110] : Str)))] 305 ?_
                     subst h
                     exact rf [30] [] (j15 :)
 have r3 : ∀ r',y3=.inl r'→∀ st,Ffch_Q s_1 r' st→(Ffch_Q s_1 r) st:=fun r' e st hq=>by rw [hy31 r' e] at hq; exact hq
 replace h:=hy3
 refine sp 8 h rfl (fun h=>?_) (fun h=>?_)
 · refine cq 10 [17] [B (true)] 241 ?_
   exact rf [0,17] [] (j3 _ (Option.some.inj h).symm :)
 · refine cq 1 [9] [str (s_1)] 113 ?_
   obtain ⟨c16,hc16,h⟩:=bS h
   refine oy 129 (.int .u8 ((c16.toNat : Int))) rfl (e_index rfl rfl (i_str rfl rfl hc16)) ?_
   refine cq 3 [13] [B ((decide ((c16.toNat : Int) < 97)))] 177 ?_
   obtain ⟨y17,hy17,hy171,hy172⟩:=bL h
   have j17 : ∀ u17,y17=.inr u17→Run Ffch_E 0 (Ffch_Q s_1 r) (.code (cR (cL (cR Ffch_c))) :: .code (cR (cR Ffch_c)) :: []) (sT 40 [(0,str (s_1)),(17,B (u17))] [] 1):=by
     intro u17 hu
     replace h:=hy172 u17 hu
     exact rf [0,17] [] (j3 _ (Option.some.inj h).symm :)
   have r17 : ∀ r',y17=.inl r'→∀ st,Ffch_Q s_1 r' st→(Ffch_Q s_1 r) st:=fun r' e st hq=>r3 r' (hy171 r' e) st hq
   replace h:=hy17
   refine sp 13 h rfl (fun h=>?_) (fun h=>?_)
   · refine cq 5 [17] [B (true)] 241 ?_
     exact rf [0,17] [] (j17 _ (Option.some.inj h).symm :)
   · refine cq 1 [14] [str (s_1)] 193 ?_
     obtain ⟨c18,hc18,h⟩:=bS h
     refine oy 209 (.int .u8 ((c18.toNat : Int))) rfl (e_index rfl rfl (i_str rfl rfl hc18)) ?_
     refine cq 3 [17] [B ((decide ((c18.toNat : Int) > 122)))] 241 ?_
     exact rf [0,17] [] (j17 _ (Option.some.inj h).symm :)
theorem Ffch_good {G : Go.Ln.Ground} : Good Tryd.prog G 98 Ffch_ent:=good_T (fnOf_good (gl_c spec_l1In_good (gl_c Ffck_good (gl_n)))) agree_mk (Checked.mixed Tryd.checked) Tryd.func98 (n:=1) (m:=0) ⟨rfl,rfl,by decide⟩ (fun _=>⟨rfl,rfl⟩) (fun a r h=>Ffch_run a r h)
def Ffbz_A : Int→List V:=oA I
def Ffbz_R (r : Bool) : V × List V:=(B (r),[])
noncomputable def Ffbz_ent : Ent:=entT [false] Ffbz_A Ffbz_R fun x=>Ffbz x
theorem Ffbz_F {day_1 : Int} {r} (h : Ffbz day_1=some r) : (Ffbz_ent).F (Ffbz_A day_1)=some (Ffbz_R r):=entT_F (oA_inj I_inj) h
noncomputable def Ffbz_c : Code:=bodyOf Tryd.f56
noncomputable def Ffbz_E : Env:=mkE Tryd.prog [(63,spec_l1In_ent)]
def Ffbz_Q (x : Int) (r : Bool) : St→Prop:=QF Ffbz_E Tryd.f56 [false] (Ffbz_A x) (Ffbz_R r)
theorem Ffbz_run (day_1 : Int) (r : Bool) (h : Ffbz day_1=some r) : RunF Ffbz_E Tryd.f56 [false] 0 (Ffbz_A day_1) (Ffbz_R r):=by
 show Run _ _ (Ffbz_Q day_1 r) [.code Ffbz_c] _
 refine rin (n:=5) [(0,I (day_1))] [] 1 (by kernel_rfl) (by kernel_rfl) (by kernel_rfl) rfl ?_
 unfold Ffbz at h
 refine cq 7 [3] [I (day_1)] 33 ?_
 obtain ⟨r2,hr2,h⟩:=bS h
 refine oq 49 (B (r2)) rfl (e_callV rfl rfl (call_P rfl rfl rfl (avS (shP rfl) (avS (shP rfl) (avS (shP rfl) (avN)))) (spec_l1In_F hr2) (.inr rfl) (bl_n) rfl rfl rfl)) ?_
 refine cq 2 [2] [B (r2)] 65 ?_
 obtain rfl:=Option.some.inj h
 exact s_ret rfl ⟨_,fin (vs:=[B (r2)]) rfl (absE (absorb_plain rfl) (absEN)) rfl (ou_f (ou_n)),kl_n⟩
theorem Ffbz_good {G : Go.Ln.Ground} : Good Tryd.prog G 56 Ffbz_ent:=good_T (fnOf_good (gl_c spec_l1In_good (gl_n))) agree_mk (Checked.mixed Tryd.checked) Tryd.func56 (n:=1) (m:=0) ⟨rfl,rfl,by decide⟩ (fun _=>⟨rfl,rfl⟩) (fun a r h=>Ffbz_run a r h)
def Ffcb_A : Condition→List V:=oA encI_Condition1
def Ffcb_R (r : Bool) : V × List V:=(B (r),[])
noncomputable def Ffcb_ent : Ent:=entT [false] Ffcb_A Ffcb_R fun x=>Ffcb x
theorem Ffcb_F {c_1 : Condition} {r} (h : Ffcb c_1=some r) : (Ffcb_ent).F (Ffcb_A c_1)=some (Ffcb_R r):=entT_F (oA_inj encI_Condition1_inj) h
noncomputable def Ffcb_c : Code:=bodyOf Tryd.f118
noncomputable abbrev Ffcb_ka : Code:=cR (cR (cR Ffcb_c))
noncomputable abbrev Ffcb_kb : Code:=cR (cL (cR (cR (cR (cL (cR (cL (cR (cR Ffcb_c)))))))))
noncomputable abbrev Ffcb_kc : Code:=cR (cL (cR (cR (cR (cR (cR (cL (cR (cL (cR (cR Ffcb_c)))))))))))
noncomputable abbrev Ffcb_kd : Code:=cR (cL (cR (cR (cR (cR (cR (cR (cR (cL (cR (cL (cR (cR Ffcb_c)))))))))))))
noncomputable abbrev Ffcb_ke : Code:=cR (cL (cR (cR (cR (cR (cR (cR (cR (cR (cR (cL (cR (cL (cR (cR Ffcb_c)))))))))))))))
noncomputable def Ffcb_E : Env:=mkE Tryd.prog [(98,Ffch_ent),(56,Ffbz_ent)]
def Ffcb_Q (x : Condition) (r : Bool) : St→Prop:=QF Ffcb_E Tryd.f118 [false] (Ffcb_A x) (Ffcb_R r)
theorem Ffcb_run (c_1 : Condition) (r : Bool) (h : Ffcb c_1=some r) : RunF Ffcb_E Tryd.f118 [false] 0 (Ffcb_A c_1) (Ffcb_R r):=by
 show Run _ _ (Ffcb_Q c_1 r) [.code Ffcb_c] _
 refine rin (n:=80) [(0,.agg [I (c_1.Op),str (c_1.Name),I (c_1.Day),.isl false ((c_1.Parts).map encI_Condition)])] [] 1 (by kernel_rfl) (by kernel_rfl) (by kernel_rfl) rfl ?_
 unfold Ffcb at h
 refine ck 9 [1,5] [] [1] [] [.hp 1 0 [] 4 0 0,.isl false ((c_1.Parts).map encI_Condition)] [some ⟨0,4,[.agg [I (c_1.Op),str (c_1.Name),I (c_1.Day),.isl false ((c_1.Parts).map encI_Condition)]]⟩] 65 (by kernel_rfl) ?_
 refine oq 81 (I ((len c_1.Parts))) rfl (e_len rfl rfl rfl (l_isl rfl)) ?_
 refine cq 14 [3,8,9] [I ((len c_1.Parts)),I (c_1.Op),B ((c_1.Op == 1))] 161 ?_
 refine sq h (fun h=>?_) (fun h=>?_)
 · refine cq 5 [13] [B (((len c_1.Parts) == 0))] 209 ?_
   obtain ⟨u2,hu2,h⟩:=lJ h
   have j2 : Run Ffcb_E 0 (Ffcb_Q c_1 r) (.code (cR (cL (cR (cL (cR (cL (cR (cR Ffcb_c)))))))) :: .blk 0 :: .code Ffcb_ka :: []) (sT 80 [(2,B (u2))] [] 1):=by
     obtain rfl:=Option.some.inj h
     exact s_ret rfl ⟨_,fin (vs:=[B (u2)]) rfl (absE (absorb_plain rfl) (absEN)) rfl (ou_f (ou_n)),kl_n⟩
   replace h:=hu2
   clear hu2
   refine sp 13 h rfl (fun h=>?_) (fun h=>?_)
   · refine cq 5 [18] [B ((c_1.Name == ([] : Str)))] 289 ?_
     obtain ⟨u3,hu3,h⟩:=lJ h
     have j3 : Run Ffcb_E 0 (Ffcb_Q c_1 r) (.code (cR (cL (cR (cL (cR (cL (cR (cR Ffcb_c)))))))) :: .blk 0 :: .code Ffcb_ka :: []) (sT 80 [(2,B (u3))] [] 1):=by
       subst h
       exact rf [2] [] (j2 :)
     replace h:=hu3
     clear hu3
     refine sp 18 h rfl (fun h=>?_) (fun h=>?_)
     · refine cq 6 [2] [B ((c_1.Day == 0))] 369 ?_
       subst h
       exact rf [2] [] (j3 :)
     · refine cq 6 [2] [B (false)] 369 ?_
       subst h
       exact rf [2] [] (j3 :)
   · refine cq 11 [2] [B (false)] 369 ?_
     subst h
     exact rf [2] [] (j2 :)
 · refine cq 5 [23] [B ((c_1.Op == 2))] 193 ?_
   refine sq h (fun h=>?_) (fun h=>?_)
   · refine cq 5 [27] [B (((len c_1.Parts) == 0))] 241 ?_
     obtain ⟨y4,hy4,hy41,hy42⟩:=bJ h
     have j4 : ∀ u4,y4=.inr u4→Run Ffcb_E 0 (Ffcb_Q c_1 r) (.code Ffcb_kb :: .blk 0 :: .code Ffcb_ka :: []) (sT 80 [(2,B (u4))] [] 1):=by
       intro u4 hu
       replace h:=hy42 u4 hu
       obtain rfl:=Option.some.inj h
       exact s_ret rfl ⟨_,fin (vs:=[B (u4)]) rfl (absE (absorb_plain rfl) (absEN)) rfl (ou_f (ou_n)),kl_n⟩
     have r4 : ∀ r',y4=.inl r'→∀ st,Ffcb_Q c_1 r' st→(Ffcb_Q c_1 r) st:=fun r' e st hq=>by rw [hy41 r' e] at hq; exact hq
     replace h:=hy4
     refine sp 27 h rfl (fun h=>?_) (fun h=>?_)
     · refine cq 2 [29] [str (c_1.Name)] 273 ?_
       obtain ⟨r5,hr5,h⟩:=bS h
       refine oy 289 (B (r5)) rfl (e_callV rfl rfl (call_P rfl rfl rfl (avS (shP rfl) (avN)) (Ffch_F hr5) (.inr rfl) (bl_n) rfl rfl rfl)) ?_
       refine cq 2 [32] [B (r5)] 321 ?_
       obtain ⟨u6,hu6,h⟩:=lJ h
       have j6 : Run Ffcb_E 0 (Ffcb_Q c_1 r) (.code Ffcb_kb :: .blk 0 :: .code Ffcb_ka :: []) (sT 80 [(2,B (u6))] [] 1):=by
         exact rf [2] [] (j4 _ (Option.some.inj h).symm :)
       replace h:=hu6
       clear hu6
       refine sp 32 h rfl (fun h=>?_) (fun h=>?_)
       · refine cq 6 [2] [B ((c_1.Day == 0))] 401 ?_
         subst h
         exact rf [2] [] (j6 :)
       · refine cq 6 [2] [B (false)] 401 ?_
         subst h
         exact rf [2] [] (j6 :)
     · refine cq 11 [2] [B (false)] 401 ?_
       exact rf [2] [] (j4 _ (Option.some.inj h).symm :)
   · refine cq 5 [37] [B ((c_1.Op == 3))] 225 ?_
     refine sq h (fun h=>?_) (fun h=>?_)
     · refine cq 5 [41] [B (((len c_1.Parts) == 0))] 273 ?_
       obtain ⟨y7,hy7,hy71,hy72⟩:=bJ h
       have j7 : ∀ u7,y7=.inr u7→Run Ffcb_E 0 (Ffcb_Q c_1 r) (.code Ffcb_kc :: .blk 0 :: .code Ffcb_ka :: []) (sT 80 [(2,B (u7))] [] 1):=by
         intro u7 hu
         replace h:=hy72 u7 hu
         obtain rfl:=Option.some.inj h
         exact s_ret rfl ⟨_,fin (vs:=[B (u7)]) rfl (absE (absorb_plain rfl) (absEN)) rfl (ou_f (ou_n)),kl_n⟩
       have r7 : ∀ r',y7=.inl r'→∀ st,Ffcb_Q c_1 r' st→(Ffcb_Q c_1 r) st:=fun r' e st hq=>by rw [hy71 r' e] at hq; exact hq
       replace h:=hy7
       refine sp 41 h rfl (fun h=>?_) (fun h=>?_)
       · refine cq 5 [46] [B ((c_1.Name == ([] : Str)))] 353 ?_
         obtain ⟨y8,hy8,hy81,hy82⟩:=bL h
         have j8 : ∀ u8,y8=.inr u8→Run Ffcb_E 0 (Ffcb_Q c_1 r) (.code Ffcb_kc :: .blk 0 :: .code Ffcb_ka :: []) (sT 80 [(2,B (u8))] [] 1):=by
           intro u8 hu
           replace h:=hy82 u8 hu
           exact rf [2] [] (j7 _ (Option.some.inj h).symm :)
         have r8 : ∀ r',y8=.inl r'→∀ st,Ffcb_Q c_1 r' st→(Ffcb_Q c_1 r) st:=fun r' e st hq=>r7 r' (hy81 r' e) st hq
         replace h:=hy8
         refine sp 46 h rfl (fun h=>?_) (fun h=>?_)
         · refine cq 2 [48] [I (c_1.Day)] 385 ?_
           obtain ⟨r9,hr9,h⟩:=bS h
           refine oy 401 (B (r9)) rfl (e_callV rfl rfl (call_P rfl rfl rfl (avS (shP rfl) (avN)) (Ffbz_F hr9) (.inr rfl) (bl_n) rfl rfl rfl)) ?_
           refine cq 3 [2] [B (r9)] 433 ?_
           exact rf [2] [] (j8 _ (Option.some.inj h).symm :)
         · refine cq 6 [2] [B (false)] 433 ?_
           exact rf [2] [] (j8 _ (Option.some.inj h).symm :)
       · refine cq 11 [2] [B (false)] 433 ?_
         exact rf [2] [] (j7 _ (Option.some.inj h).symm :)
     · refine cq 5 [51] [B ((c_1.Op == 4))] 257 ?_
       refine sq h (fun h=>?_) (fun h=>?_)
       · refine cq 5 [55] [B (((len c_1.Parts) == 1))] 305 ?_
         obtain ⟨u10,hu10,h⟩:=lJ h
         have j10 : Run Ffcb_E 0 (Ffcb_Q c_1 r) (.code Ffcb_kd :: .blk 0 :: .code Ffcb_ka :: []) (sT 80 [(2,B (u10))] [] 1):=by
           obtain rfl:=Option.some.inj h
           exact s_ret rfl ⟨_,fin (vs:=[B (u10)]) rfl (absE (absorb_plain rfl) (absEN)) rfl (ou_f (ou_n)),kl_n⟩
         replace h:=hu10
         clear hu10
         refine sp 55 h rfl (fun h=>?_) (fun h=>?_)
         · refine cq 5 [60] [B ((c_1.Name == ([] : Str)))] 385 ?_
           obtain ⟨u11,hu11,h⟩:=lJ h
           have j11 : Run Ffcb_E 0 (Ffcb_Q c_1 r) (.code Ffcb_kd :: .blk 0 :: .code Ffcb_ka :: []) (sT 80 [(2,B (u11))] [] 1):=by
             subst h
             exact rf [2] [] (j10 :)
           replace h:=hu11
           clear hu11
           refine sp 60 h rfl (fun h=>?_) (fun h=>?_)
           · refine cq 6 [2] [B ((c_1.Day == 0))] 465 ?_
             subst h
             exact rf [2] [] (j11 :)
           · refine cq 6 [2] [B (false)] 465 ?_
             subst h
             exact rf [2] [] (j11 :)
         · refine cq 11 [2] [B (false)] 465 ?_
           subst h
           exact rf [2] [] (j10 :)
       · refine cq 6 [65] [B ((c_1.Op == 5))] 289 ?_
         obtain ⟨u12,hu12,h⟩:=lJ h
         have j12 : Run Ffcb_E 0 (Ffcb_Q c_1 r) (.code (cR (cR (cR (cR (cR (cR (cR (cR (cR (cL (cR (cL (cR (cR Ffcb_c)))))))))))))) :: .blk 0 :: .code Ffcb_ka :: []) (sT 80 [(1,.hp 1 0 [] 4 0 0),(3,I ((len c_1.Parts))),(65,B (u12))] [⟨0,4,[.agg [I (c_1.Op),str (c_1.Name),I (c_1.Day),.isl false ((c_1.Parts).map encI_Condition)]]⟩] 2):=by
           refine sq h (fun h=>?_) (fun h=>?_)
           · refine cq 5 [70] [B (((len c_1.Parts) == 2))] 50 ?_
             obtain ⟨u13,hu13,h⟩:=lJ h
             have j13 : Run Ffcb_E 0 (Ffcb_Q c_1 r) (.code Ffcb_ke :: .blk 0 :: .code Ffcb_ka :: []) (sT 80 [(2,B (u13))] [] 1):=by
               obtain rfl:=Option.some.inj h
               exact s_ret rfl ⟨_,fin (vs:=[B (u13)]) rfl (absE (absorb_plain rfl) (absEN)) rfl (ou_f (ou_n)),kl_n⟩
             replace h:=hu13
             clear hu13
             refine sp 70 h rfl (fun h=>?_) (fun h=>?_)
             · refine cq 5 [75] [B ((c_1.Name == ([] : Str)))] 130 ?_
               obtain ⟨u14,hu14,h⟩:=lJ h
               have j14 : Run Ffcb_E 0 (Ffcb_Q c_1 r) (.code Ffcb_ke :: .blk 0 :: .code Ffcb_ka :: []) (sT 80 [(2,B (u14))] [] 1):=by
                 subst h
                 exact rf [2] [] (j13 :)
               replace h:=hu14
               clear hu14
               refine sp 75 h rfl (fun h=>?_) (fun h=>?_)
               · refine cq 6 [2] [B ((c_1.Day == 0))] 210 ?_
                 subst h
                 exact rf [2] [] (j14 :)
               · refine cq 6 [2] [B (false)] 210 ?_
                 subst h
                 exact rf [2] [] (j14 :)
             · refine cq 11 [2] [B (false)] 210 ?_
               subst h
               exact rf [2] [] (j13 :)
           · refine aq 1 ?_
             refine cq 5 [2] [B (false)] 18 ?_
             obtain rfl:=Option.some.inj h
             exact s_ret rfl ⟨_,fin (vs:=[B (false)]) rfl (absE (absorb_plain rfl) (absEN)) rfl (ou_f (ou_n)),kl_n⟩
         replace h:=hu12
         clear hu12
         refine scp h rfl rfl (fun h=>?_) (fun h=>?_)
         · refine aq 1 ?_
           subst h
           exact rf [1,3,65] [1] (j12 :)
         · refine cq 4 [65] [B ((c_1.Op == 6))] 321 ?_
           subst h
           exact rf [1,3,65] [1] (j12 :)
theorem Ffcb_good {G : Go.Ln.Ground} : Good Tryd.prog G 118 Ffcb_ent:=good_T (fnOf_good (gl_c Ffch_good (gl_c Ffbz_good (gl_n)))) agree_mk (Checked.mixed Tryd.checked) Tryd.func118 (n:=1) (m:=0) ⟨rfl,rfl,by decide⟩ (fun _=>⟨rfl,rfl⟩) (fun a r h=>Ffcb_run a r h)
def Ffcc_A : Condition→List V:=oA encI_Condition1
def Ffcc_R (r : Bool) : V × List V:=(B (r),[])
noncomputable def Ffcc_entS (slf_Ffcc : Condition→Option Bool) : Ent:=entT [false] Ffcc_A Ffcc_R slf_Ffcc
theorem Ffcc_FS (slf_Ffcc : Condition→Option Bool) {x} {r} (h : slf_Ffcc x=some r) : (Ffcc_entS slf_Ffcc).F (Ffcc_A x)=some (Ffcc_R r):=entT_F (oA_inj encI_Condition1_inj) h
noncomputable def Ffcc_ent : Ent:=Ffcc_entS (fixO Ffcc_G)
theorem Ffcc_F {c_1 : Condition} {r} (h : Ffcc c_1=some r) : Ffcc_ent.F (Ffcc_A c_1)=some (Ffcc_R r):=Ffcc_FS (fixO Ffcc_G) h
noncomputable def Ffcc_c : Code:=bodyOf Tryd.f80
noncomputable def Ffcc_E (slf_Ffcc : Condition→Option Bool) : Env:=mkE Tryd.prog [(118,Ffcb_ent),(80,(Ffcc_entS slf_Ffcc))]
def Ffcc_Q (slf_Ffcc : Condition→Option Bool) (x : Condition) (r : Bool) : St→Prop:=QF (Ffcc_E slf_Ffcc) Tryd.f80 [false] (Ffcc_A x) (Ffcc_R r)
theorem Ffcc_la_run (slf_Ffcc : Condition→Option Bool) (c_1 : Condition)  {Q : St→Prop} {K : List It} (hK : noD K=true) : ∀ (x3 : Int) (y : Bool ⊕ Unit),Ffcc_la slf_Ffcc c_1 x3=some y→(∀ r',y=.inl r'→∀ st,Ffcc_Q slf_Ffcc c_1 r' st→Q st)→(∀ u : Unit,y=.inr u→Run (Ffcc_E slf_Ffcc) 0 Q K (sT 21 [] [] 1))→Run (Ffcc_E slf_Ffcc) 0 Q (.code (cL (cL (cR (cL (cR (cR Ffcc_c)))))) :: .lp (cL (cL (cR (cL (cR (cR Ffcc_c)))))) :: .blk 0 :: K) (sT 21 [(1,.hp 1 0 [] 4 0 0),(3,I (x3))] [⟨0,4,[.agg [I (c_1.Op),str (c_1.Name),I (c_1.Day),.isl false ((c_1.Parts).map encI_Condition)]]⟩] 2):=by
 refine fix_indP (Ffcc_la_fin slf_Ffcc c_1) ?_
 intro self ih x3 y h hr hn
 unfold Ffcc_la_F at h
 refine cq 6 [7,9] [I (x3),.isl false ((c_1.Parts).map encI_Condition)] 50 ?_
 refine oq 66 (I ((len c_1.Parts))) rfl (e_len rfl rfl rfl (l_isl rfl)) ?_
 refine cq 2 [11] [B ((decide (x3 < (len c_1.Parts))))] 82 ?_
 refine sq h (fun h=>?_) (fun h=>?_)
 · refine aq 1 ?_
   refine cq 7 [15,16] [.isl false ((c_1.Parts).map encI_Condition),I (x3)] 130 ?_
   obtain ⟨e4,he4,h⟩:=bS h
   refine oq 146 (.iptr (.agg [I (e4.Op),str (e4.Name),I (e4.Day),.isl false ((e4.Parts).map encI_Condition)]) 0) rfl (e_indexAddr rfl rfl rfl (ix_islE rfl rfl (encI_Condition_eq e4) rfl he4)) ?_
   refine cq 1 [18] [.agg [I (e4.Op),str (e4.Name),I (e4.Day),.isl false ((e4.Parts).map encI_Condition)]] 162 ?_
   obtain ⟨r5,hr5,h⟩:=bS h
   refine oq 178 (B (r5)) rfl (e_callV rfl rfl (call_P rfl rfl rfl (avS (shP rfl) (avN)) (Ffcc_FS slf_Ffcc hr5) (.inr rfl) (bl_n) rfl rfl rfl)) ?_
   refine cq 2 [20] [B ((!r5))] 194 ?_
   refine sq h (fun h=>?_) (fun h=>?_)
   · refine cq 4 [2] [B (false)] 210 ?_
     exact s_ret rfl (hr _ (Option.some.inj h).symm _ ⟨_,fin (vs:=[B (false)]) rfl (absE (absorb_plain rfl) (absEN)) rfl (ou_f (ou_n)),kl_n⟩)
   · refine aq 1 ?_
     refine cq 6 [3] [I ((w64 (x3 + 1)))] 242 ?_
     refine s_lp ?_
     exact rf [1,3] [1] (ih _ _ h hr hn :)
 · refine aq 1 ?_
   exact rf [] [] (hn _ (Option.some.inj h).symm :) (hk:=hK)
theorem Ffcc_run (slf_Ffcc : Condition→Option Bool) (c_1 : Condition) (r : Bool) (h : Ffcc_B slf_Ffcc c_1=some r) : RunF (Ffcc_E slf_Ffcc) Tryd.f80 [false] 0 (Ffcc_A c_1) (Ffcc_R r):=by
 show Run _ _ (Ffcc_Q slf_Ffcc c_1 r) [.code Ffcc_c] _
 refine rin (n:=21) [(0,.agg [I (c_1.Op),str (c_1.Name),I (c_1.Day),.isl false ((c_1.Parts).map encI_Condition)])] [] 1 (by kernel_rfl) (by kernel_rfl) (by kernel_rfl) rfl ?_
 unfold Ffcc_B at h
 refine ck 9 [1,4] [] [1] [] [.hp 1 0 [] 4 0 0,.agg [I (c_1.Op),str (c_1.Name),I (c_1.Day),.isl false ((c_1.Parts).map encI_Condition)]] [some ⟨0,4,[.agg [I (c_1.Op),str (c_1.Name),I (c_1.Day),.isl false ((c_1.Parts).map encI_Condition)]]⟩] 49 (by kernel_rfl) ?_
 obtain ⟨r2,hr2,h⟩:=bS h
 refine oq 65 (B (r2)) rfl (e_callV rfl rfl (call_P rfl rfl rfl (avS (shP rfl) (avN)) (Ffcb_F hr2) (.inr rfl) (bl_n) rfl rfl rfl)) ?_
 refine cq 2 [6] [B ((!r2))] 81 ?_
 refine sq h (fun h=>?_) (fun h=>?_)
 · refine cq 4 [2] [B (false)] 97 ?_
   obtain rfl:=Option.some.inj h
   exact s_ret rfl ⟨_,fin (vs:=[B (false)]) rfl (absE (absorb_plain rfl) (absEN)) rfl (ou_f (ou_n)),kl_n⟩
 · refine aq 1 ?_
   refine cq 6 [3] [I (0)] 97 ?_
   obtain ⟨y6,hy6,hy61,hy62⟩:=bJ h
   refine s_loop rfl ?_
   refine rf [1,3] [1] (Ffcc_la_run slf_Ffcc c_1 rfl 0 _ hy6 (fun r' e st hq=>by rw [hy61 r' e] at hq; exact hq) fun u6 hu=>?_)
   replace h:=hy62 u6 hu
   refine cq 4 [2] [B (true)] 17 ?_
   obtain rfl:=Option.some.inj h
   exact s_ret rfl ⟨_,fin (vs:=[B (true)]) rfl (absE (absorb_plain rfl) (absEN)) rfl (ou_f (ou_n)),kl_n⟩
theorem Ffcc_good {G : Go.Ln.Ground} : Good Tryd.prog G 80 Ffcc_ent:=good_rec fun slf_Ffcc g_Ffcc=>good_T (fnOf_good (gl_c Ffcb_good (gl_c g_Ffcc (gl_n)))) agree_mk (Checked.mixed Tryd.checked) Tryd.func80 (n:=1) (m:=0) ⟨rfl,rfl,by decide⟩ (fun _=>⟨rfl,rfl⟩) (fun a r h=>Ffcc_run slf_Ffcc a r h)
def Ffcl_A : Condition→List V:=oA encI_Condition1
def Ffcl_R (r : Int) : V × List V:=(I (r),[])
noncomputable def Ffcl_entS (slf_Ffcl : Condition→Option Int) : Ent:=entT [false] Ffcl_A Ffcl_R slf_Ffcl
theorem Ffcl_FS (slf_Ffcl : Condition→Option Int) {x} {r} (h : slf_Ffcl x=some r) : (Ffcl_entS slf_Ffcl).F (Ffcl_A x)=some (Ffcl_R r):=entT_F (oA_inj encI_Condition1_inj) h
noncomputable def Ffcl_ent : Ent:=Ffcl_entS (fixO Ffcl_G)
theorem Ffcl_F {c_1 : Condition} {r} (h : Ffcl c_1=some r) : Ffcl_ent.F (Ffcl_A c_1)=some (Ffcl_R r):=Ffcl_FS (fixO Ffcl_G) h
noncomputable def Ffcl_c : Code:=bodyOf Tryd.f81
noncomputable def Ffcl_E (slf_Ffcl : Condition→Option Int) : Env:=mkE Tryd.prog [(81,(Ffcl_entS slf_Ffcl))]
def Ffcl_Q (slf_Ffcl : Condition→Option Int) (x : Condition) (r : Int) : St→Prop:=QF (Ffcl_E slf_Ffcl) Tryd.f81 [false] (Ffcl_A x) (Ffcl_R r)
theorem Ffcl_la_run (slf_Ffcl : Condition→Option Int) (c_1 : Condition)  {Q : St→Prop} {K : List It} (hK : noD K=true) : ∀ (x2 : Int × Int) (y : Int ⊕ Int),Ffcl_la slf_Ffcl c_1 x2=some y→(∀ r',y=.inl r'→∀ st,Ffcl_Q slf_Ffcl c_1 r' st→Q st)→(∀ u : Int,y=.inr u→Run (Ffcl_E slf_Ffcl) 0 Q K (sT 21 [(3,I (u))] [] 1))→Run (Ffcl_E slf_Ffcl) 0 Q (.code (cL (cL (cR (cL (cR (cR Ffcl_c)))))) :: .lp (cL (cL (cR (cL (cR (cR Ffcl_c)))))) :: .blk 0 :: K) (sT 21 [(1,.hp 1 0 [] 4 0 0),(3,I (x2.1)),(4,I (x2.2))] [⟨0,4,[.agg [I (c_1.Op),str (c_1.Name),I (c_1.Day),.isl false ((c_1.Parts).map encI_Condition)]]⟩] 2):=by
 refine fix_indP (Ffcl_la_fin slf_Ffcl c_1) ?_
 intro self ih x2 y h hr hn
 unfold Ffcl_la_F at h
 refine cq 6 [5,7] [I (x2.2),.isl false ((c_1.Parts).map encI_Condition)] 50 ?_
 refine oq 66 (I ((len c_1.Parts))) rfl (e_len rfl rfl rfl (l_isl rfl)) ?_
 refine cq 2 [9] [B ((decide (x2.2 < (len c_1.Parts))))] 82 ?_
 refine sq h (fun h=>?_) (fun h=>?_)
 · refine aq 1 ?_
   refine cq 7 [12,14,15] [I (x2.1),.isl false ((c_1.Parts).map encI_Condition),I (x2.2)] 146 ?_
   obtain ⟨e3,he3,h⟩:=bS h
   refine oq 162 (.iptr (.agg [I (e3.Op),str (e3.Name),I (e3.Day),.isl false ((e3.Parts).map encI_Condition)]) 0) rfl (e_indexAddr rfl rfl rfl (ix_islE rfl rfl (encI_Condition_eq e3) rfl he3)) ?_
   refine cq 1 [17] [.agg [I (e3.Op),str (e3.Name),I (e3.Day),.isl false ((e3.Parts).map encI_Condition)]] 178 ?_
   obtain ⟨r4,hr4,h⟩:=bS h
   refine oq 194 (I (r4)) rfl (e_callV rfl rfl (call_P rfl rfl rfl (avS (shP rfl) (avN)) (Ffcl_FS slf_Ffcl hr4) (.inr rfl) (bl_n) rfl rfl rfl)) ?_
   refine cq 9 [3,4] [I ((w64 (x2.1 + r4))),I ((w64 (x2.2 + 1)))] 274 ?_
   refine s_lp ?_
   exact rf [1,3,4] [1] (ih _ _ h hr hn :)
 · refine aq 1 ?_
   exact rf [3] [] (hn _ (Option.some.inj h).symm :) (hk:=hK)
theorem Ffcl_run (slf_Ffcl : Condition→Option Int) (c_1 : Condition) (r : Int) (h : Ffcl_B slf_Ffcl c_1=some r) : RunF (Ffcl_E slf_Ffcl) Tryd.f81 [false] 0 (Ffcl_A c_1) (Ffcl_R r):=by
 show Run _ _ (Ffcl_Q slf_Ffcl c_1 r) [.code Ffcl_c] _
 refine rin (n:=21) [(0,.agg [I (c_1.Op),str (c_1.Name),I (c_1.Day),.isl false ((c_1.Parts).map encI_Condition)])] [] 1 (by kernel_rfl) (by kernel_rfl) (by kernel_rfl) rfl ?_
 unfold Ffcl_B at h
 refine ck 15 [1,3,4] [] [1] [] [.hp 1 0 [] 4 0 0,I (1),I (0)] [some ⟨0,4,[.agg [I (c_1.Op),str (c_1.Name),I (c_1.Day),.isl false ((c_1.Parts).map encI_Condition)]]⟩] 65 (by kernel_rfl) ?_
 obtain ⟨y5,hy5,hy51,hy52⟩:=bJ h
 refine s_loop rfl ?_
 refine rf [1,3,4] [1] (Ffcl_la_run slf_Ffcl c_1 rfl (1,0) _ hy5 (fun r' e st hq=>by rw [hy51 r' e] at hq; exact hq) fun u5 hu=>?_)
 replace h:=hy52 u5 hu
 refine cq 5 [2] [I (u5)] 33 ?_
 obtain rfl:=Option.some.inj h
 exact s_ret rfl ⟨_,fin (vs:=[I (u5)]) rfl (absE (absorb_plain rfl) (absEN)) rfl (ou_f (ou_n)),kl_n⟩
theorem Ffcl_good {G : Go.Ln.Ground} : Good Tryd.prog G 81 Ffcl_ent:=good_rec fun slf_Ffcl g_Ffcl=>good_T (fnOf_good (gl_c g_Ffcl (gl_n))) agree_mk (Checked.mixed Tryd.checked) Tryd.func81 (n:=1) (m:=0) ⟨rfl,rfl,by decide⟩ (fun _=>⟨rfl,rfl⟩) (fun a r h=>Ffcl_run slf_Ffcl a r h)
def Ffcd_A : Condition→List V:=oA encI_Condition1
def Ffcd_R (r : Bool) : V × List V:=(B (r),[])
noncomputable def Ffcd_ent : Ent:=entT [false] Ffcd_A Ffcd_R fun x=>Ffcd x
theorem Ffcd_F {c_1 : Condition} {r} (h : Ffcd c_1=some r) : (Ffcd_ent).F (Ffcd_A c_1)=some (Ffcd_R r):=entT_F (oA_inj encI_Condition1_inj) h
noncomputable def Ffcd_c : Code:=bodyOf Tryd.f36
noncomputable def Ffcd_E : Env:=mkE Tryd.prog [(80,Ffcc_ent),(81,Ffcl_ent)]
def Ffcd_Q (x : Condition) (r : Bool) : St→Prop:=QF Ffcd_E Tryd.f36 [false] (Ffcd_A x) (Ffcd_R r)
theorem Ffcd_run (c_1 : Condition) (r : Bool) (h : Ffcd c_1=some r) : RunF Ffcd_E Tryd.f36 [false] 0 (Ffcd_A c_1) (Ffcd_R r):=by
 show Run _ _ (Ffcd_Q c_1 r) [.code Ffcd_c] _
 refine rin (n:=10) [(0,.agg [I (c_1.Op),str (c_1.Name),I (c_1.Day),.isl false ((c_1.Parts).map encI_Condition)])] [] 1 (by kernel_rfl) (by kernel_rfl) (by kernel_rfl) rfl ?_
 unfold Ffcd at h
 refine ck 8 [1,3] [] [1] [] [.hp 1 0 [] 4 0 0,.agg [I (c_1.Op),str (c_1.Name),I (c_1.Day),.isl false ((c_1.Parts).map encI_Condition)]] [some ⟨0,4,[.agg [I (c_1.Op),str (c_1.Name),I (c_1.Day),.isl false ((c_1.Parts).map encI_Condition)]]⟩] 49 (by kernel_rfl) ?_
 obtain ⟨r2,hr2,h⟩:=bS h
 refine oq 65 (B (r2)) rfl (e_callV rfl rfl (call_P rfl rfl rfl (avS (shP rfl) (avN)) (Ffcc_F hr2) (.inr rfl) (bl_n) rfl rfl rfl)) ?_
 refine cq 1 [5] [B (r2)] 81 ?_
 obtain ⟨y3,hy3,hy31,hy32⟩:=bJ h
 have j3 : ∀ u3,y3=.inr u3→Run Ffcd_E 0 (Ffcd_Q c_1 r) (.code (cR (cR Ffcd_c)) :: []) (sT 10 [(2,B (u3))] [] 1):=by
   intro u3 hu
   replace h:=hy32 u3 hu
   obtain rfl:=Option.some.inj h
   exact s_ret rfl ⟨_,fin (vs:=[B (u3)]) rfl (absE (absorb_plain rfl) (absEN)) rfl (ou_f (ou_n)),kl_n⟩
 have r3 : ∀ r',y3=.inl r'→∀ st,Ffcd_Q c_1 r' st→(Ffcd_Q c_1 r) st:=fun r' e st hq=>by rw [hy31 r' e] at hq; exact hq
 replace h:=hy3
 refine sp 5 h rfl (fun h=>?_) (fun h=>?_)
 · refine cq 1 [6] [.agg [I (c_1.Op),str (c_1.Name),I (c_1.Day),.isl false ((c_1.Parts).map encI_Condition)]] 97 ?_
   obtain ⟨r4,hr4,h⟩:=bS h
   refine oy 113 (I (r4)) rfl (e_callV rfl rfl (call_P rfl rfl rfl (avS (shP rfl) (avN)) (Ffcl_F hr4) (.inr rfl) (bl_n) rfl rfl rfl)) ?_
   refine cq 4 [2] [B ((decide (r4 ≤ 15)))] 161 ?_
   exact rf [2] [] (j3 _ (Option.some.inj h).symm :)
 · refine cq 6 [2] [B (false)] 161 ?_
   exact rf [2] [] (j3 _ (Option.some.inj h).symm :)
theorem Ffcd_good {G : Go.Ln.Ground} : Good Tryd.prog G 36 Ffcd_ent:=good_T (fnOf_good (gl_c Ffcc_good (gl_c Ffcl_good (gl_n)))) agree_mk (Checked.mixed Tryd.checked) Tryd.func36 (n:=1) (m:=0) ⟨rfl,rfl,by decide⟩ (fun _=>⟨rfl,rfl⟩) (fun a r h=>Ffcd_run a r h)
def Ffcj_A : ((List Str) × Str)→List V:=cA (usE 1 str) (oA str)
def Ffcj_R (r : (List Str)) : V × List V:=(.usl 1 ((r).map str),[.dead])
noncomputable def Ffcj_ent : Ent:=entT [true,false] Ffcj_A Ffcj_R fun x=>Ffcj x.1 x.2
theorem Ffcj_F {l_8 : List Str} {s_9 : Str} {r} (h : Ffcj l_8 s_9=some r) : (Ffcj_ent).F (Ffcj_A (l_8,s_9))=some (Ffcj_R r):=entT_F (cA_inj (usl_inj str_inj) (oA_inj str_inj)) h
noncomputable def Ffcj_c : Code:=bodyOf Tryd.f92
noncomputable def Ffcj_E : Env:=mkE Tryd.prog []
def Ffcj_Q (x : (List Str) × Str) (r : (List Str)) : St→Prop:=QF Ffcj_E Tryd.f92 [true,false] (Ffcj_A x) (Ffcj_R r)
theorem Ffcj_la_run (l_8 : List Str) (s_9 : Str)  {Q : St→Prop} {K : List It} (hK : noD K=true) : ∀ (x3 : Int) (y : ((List Str)) ⊕ (Str × Int × (List Str))),Ffcj_la l_8 s_9 x3=some y→(∀ r',y=.inl r'→∀ st,Ffcj_Q (l_8,s_9) r' st→Q st)→(∀ u : Str × Int × (List Str),y=.inr u→Run Ffcj_E 1 Q K (sO 45 [(0,.hs 2 0 [] 1 0 ((u.2.2).map str).length),(1,str (u.1)),(5,I (u.2.1))] [none,some ⟨0,1,(u.2.2).map str⟩] 3))→Run Ffcj_E 1 Q (.code (cL (cL (cL (cR (cR Ffcj_c))))) :: .lp (cL (cL (cL (cR (cR Ffcj_c))))) :: .blk 0 :: K) (sO 45 [(0,.hs 2 0 [] 1 0 ((l_8).map str).length),(1,str (s_9)),(5,I (x3))] [none,some ⟨0,1,(l_8).map str⟩] 3):=by
 refine fix_indP (Ffcj_la_fin l_8 s_9) ?_
 intro self ih x3 y h hr hn
 unfold Ffcj_la_F at h
 refine cq 5 [6,7] [I (x3),.hs 2 0 [] 1 0 ((l_8).map str).length] 35 ?_
 refine oq 51 (I ((len l_8))) rfl (e_len rfl rfl rfl (l_hsM (f:=str) (xs:=l_8) rfl rfl)) ?_
 refine cq 2 [10] [B ((decide (x3 < (len l_8))))] 83 ?_
 obtain ⟨y4,hy4,hy41,hy42⟩:=bL h
 have j4 : ∀ u4,y4=.inr u4→Run Ffcj_E 1 Q (.code (cR (cL (cL (cL (cL (cR (cR Ffcj_c))))))) :: .code (cR (cL (cL (cL (cR (cR Ffcj_c)))))) :: .lp (cL (cL (cL (cR (cR Ffcj_c))))) :: .blk 0 :: K) (sO 45 [(0,.hs 2 0 [] 1 0 ((l_8).map str).length),(1,str (s_9)),(5,I (x3)),(17,B (u4))] [none,some ⟨0,1,(l_8).map str⟩] 3):=by
   intro u4 hu
   replace h:=hy42 u4 hu
   refine sq h (fun h=>?_) (fun h=>?_)
   · refine aq 1 ?_
     refine cq 7 [5] [I ((w64 (x3 + 1)))] 51 ?_
     refine s_lp ?_
     exact rg [0,1,5] [52,2] (ih _ _ h hr hn :)
   · refine aq 1 ?_
     exact rg [0,1,5] [4,2] (hn _ (Option.some.inj h).symm :) (hk:=hK)
 have r4 : ∀ r',y4=.inl r'→∀ st,Ffcj_Q (l_8,s_9) r' st→Q st:=fun r' e st hq=>hr r' (hy41 r' e) st hq
 replace h:=hy4
 refine sp 10 h rfl (fun h=>?_) (fun h=>?_)
 · refine cq 2 [11,12] [.hs 2 0 [] 1 0 ((l_8).map str).length,I (x3)] 115 ?_
   obtain ⟨e5,he5,h⟩:=bS h
   refine oy 131 (.hp 2 0 [] 1 (0 + Int.toNat (x3)) 0) rfl (e_indexAddr rfl rfl rfl (ix_hsM (f:=str) (xs:=l_8) rfl rfl rfl he5)) ?_
   refine oy 147 (str (e5)) rfl (e_ld rfl (ld_at (path:=[]) rfl rfl rfl (ra_n) (get_map (f:=str) (xs:=l_8) he5) rfl rfl rfl)) ?_
   refine cq 4 [17] [B ((Op.bytesLess e5 s_9))] 195 ?_
   exact rg [0,1,5,17] [196,2] (j4 _ (Option.some.inj h).symm :)
 · refine cq 8 [17] [B (false)] 195 ?_
   exact rg [0,1,5,17] [196,2] (j4 _ (Option.some.inj h).symm :)
theorem Ffcj_run (l_8 : List Str) (s_9 : Str) (r : (List Str)) (h : Ffcj l_8 s_9=some r) : RunF Ffcj_E Tryd.f92 [true,false] 1 (Ffcj_A (l_8,s_9)) (Ffcj_R r):=by
 show Run _ _ (Ffcj_Q (l_8,s_9) r) [.code Ffcj_c] _
 refine rin (n:=45) [(0,.hs 1 0 [] 1 0 ((l_8).map str).length),(1,str (s_9))] [(1,some ⟨0,1,(l_8).map str⟩)] 2 (by kernel_rfl) (by kernel_rfl) (by kernel_rfl) rfl ?_
 unfold Ffcj at h
 refine cq 10 [5] [I (0)] 34 ?_
 obtain ⟨y6,hy6,hy61,hy62⟩:=bJ h
 refine s_loop rfl ?_
 refine rg [0,1,5] [35,1] (Ffcj_la_run l_8 s_9 rfl 0 _ hy6 (fun r' e st hq=>by rw [hy61 r' e] at hq; exact hq) fun u6 hu=>?_)
 replace h:=hy62 u6 hu
 refine cq 5 [20,21] [I (u6.2.1),.hs 2 0 [] 1 0 ((u6.2.2).map str).length] 35 ?_
 refine oq 51 (I ((len u6.2.2))) rfl (e_len rfl rfl rfl (l_hsM (f:=str) (xs:=u6.2.2) rfl rfl)) ?_
 refine cq 2 [24] [B ((decide (u6.2.1 < (len u6.2.2))))] 83 ?_
 obtain ⟨y7,hy7,hy71,hy72⟩:=bJ h
 have j7 : ∀ u7,y7=.inr u7→Run Ffcj_E 1 (Ffcj_Q (l_8,s_9) r) (.code (cR (cL (cR (cR (cR Ffcj_c))))) :: .code (cR (cR (cR (cR Ffcj_c)))) :: []) (sO 45 [(0,.hs 2 0 [] 1 0 ((u6.2.2).map str).length),(1,str (u6.1)),(5,I (u6.2.1)),(31,B (u7))] [none,some ⟨0,1,(u6.2.2).map str⟩] 3):=by
   intro u7 hu
   replace h:=hy72 u7 hu
   refine sq h (fun h=>?_) (fun h=>?_)
   · refine cq 5 [4] [.hs 2 0 [] 1 0 ((u6.2.2).map str).length] 35 ?_
     obtain rfl:=Option.some.inj h
     exact s_ret rfl ⟨_,fin (vs:=[.hs 2 0 [] 1 0 ((u6.2.2).map str).length]) rfl (absE (abs1 rfl (abs_hs rfl rfl)) (absEN)) rfl (ou_1 rfl (oc_no rfl) (ou_f (ou_n))),kl_d (kl_n)⟩
   · refine aq 1 ?_
     refine aq 1 ?_
     refine s_draw [0,0,0,6,15,0,32,127,0,0,768,2047,4095] rfl (by decide +kernel) ?_
     refine dq [] [] (.hs 3 0 [] 1 0 0) rfl (e_buildSlice rfl (bs_mk (f:=I) (xs:=[]) (z:=str ([])) (es:=[]) (ws:=[]) rfl rfl rfl (by decide) rfl (abs_each_plain rfl) rfl)) ?_
     refine dk 2 [35,34] [I (u6.2.1),.hs 2 0 [] 1 0 ((u6.2.2).map str).length] ?_
     obtain ⟨s8,hs8,h⟩:=bS h
     refine dq [2] [] (.hs 2 0 [] 1 (0 + Int.toNat (0)) (Int.toNat (u6.2.1) - Int.toNat (0))) rfl (e_slice rfl rfl rfl rfl (sl_hsM (f:=str) (xs:=u6.2.2) rfl rfl rfl rfl rfl hs8)) ?_
     obtain ⟨p9,hp9,h⟩:=bS h
     obtain ⟨a10,ha10,h⟩:=bS h
     refine dq [3,2] [3] (.hs 67 0 [] 1 0 ((a10).map str).length) rfl (e_append rfl rfl rfl rfl rfl (ap_hsM (path:=[]) (es0:=[]) (f:=str) (xs:=([] : List Str)) (ys:=p9) rfl rfl (take_pt (path:=[]) (f:=str) (xs:=u6.2.2) rfl rfl (ra_n) hp9 str_flat) rfl rfl rfl (rfl) rfl (by decide) str_cells ha10 rfl (to_n))) ?_ (w_app rfl (aw_hs (path:=[]) (f:=str) (xs:=u6.2.2) rfl rfl (ra_n) str_flat rfl))
     refine dk 1 [38] [str (u6.1)] ?_
     refine dq [] [] (.hs 99 0 [] 1 0 1) rfl (e_buildSlice rfl (bs_mk (f:=I) (xs:=[]) (z:=str ([])) (es:=[str (u6.1)]) (ws:=[str (u6.1)]) rfl rfl rfl (by decide) rfl (abs_each_plain rfl) rfl)) ?_
     obtain ⟨a11,ha11,h⟩:=bS h
     refine dq [67,99] [67] (.hs 115 0 [] 1 0 ((a11).map str).length) rfl (e_append rfl rfl rfl rfl rfl (ap_hsM (path:=[]) (f:=str) (xs:=a10) (ys:=[u6.1]) rfl rfl (take_hs rfl rfl rfl) rfl rfl rfl (ra_n) rfl (by decide) str_cells ha11 rfl (to_n))) ?_ (w_app rfl (aw_hs (path:=[]) (f:=str) (xs:=[u6.1]) rfl rfl (ra_n) str_flat rfl))
     refine dk 2 [42,41] [I (u6.2.1),.hs 2 0 [] 1 0 ((u6.2.2).map str).length] ?_
     obtain ⟨s12,hs12,h⟩:=bS h
     refine dq [2] [] (.hs 2 0 [] 1 (0 + Int.toNat (u6.2.1)) (Int.toNat (len u6.2.2) - Int.toNat (u6.2.1))) rfl (e_slice rfl rfl rfl rfl (sl_hsM (f:=str) (xs:=u6.2.2) rfl rfl rfl rfl (bd_n rfl) hs12)) ?_
     obtain ⟨p13,hp13,h⟩:=bS h
     obtain ⟨a14,ha14,h⟩:=bS h
     refine dq [115,2] [115] (.hs 179 0 [] 1 0 ((a14).map str).length) rfl (e_append rfl rfl rfl rfl rfl (ap_hsM (path:=[]) (f:=str) (xs:=a11) (ys:=p13) rfl rfl (take_pt (path:=[]) (f:=str) (xs:=u6.2.2) rfl rfl (ra_n) hp13 str_flat) rfl rfl rfl (ra_n) rfl (by decide) str_cells ha14 rfl (to_n))) ?_ (w_app rfl (aw_hs (path:=[]) (f:=str) (xs:=u6.2.2) rfl rfl (ra_n) str_flat rfl))
     refine dk 1 [4] [.hs 179 0 [] 1 0 ((a14).map str).length] ?_
     refine de 211 rfl rfl ?_
     obtain rfl:=Option.some.inj h
     exact s_ret rfl ⟨_,fin (vs:=[.hs 179 0 [] 1 0 ((a14).map str).length]) rfl (absE (abs1 rfl (abs_hs rfl rfl)) (absEN)) rfl (ou_1 rfl (oc_no rfl) (ou_f (ou_n))),kl_d (kl_n)⟩
 have r7 : ∀ r',y7=.inl r'→∀ st,Ffcj_Q (l_8,s_9) r' st→(Ffcj_Q (l_8,s_9) r) st:=fun r' e st hq=>by rw [hy71 r' e] at hq; exact hq
 replace h:=hy7
 refine sp 24 h rfl (fun h=>?_) (fun h=>?_)
 · refine cq 2 [25,26] [.hs 2 0 [] 1 0 ((u6.2.2).map str).length,I (u6.2.1)] 115 ?_
   obtain ⟨e15,he15,h⟩:=bS h
   refine oy 131 (.hp 2 0 [] 1 (0 + Int.toNat (u6.2.1)) 0) rfl (e_indexAddr rfl rfl rfl (ix_hsM (f:=str) (xs:=u6.2.2) rfl rfl rfl he15)) ?_
   refine oy 147 (str (e15)) rfl (e_ld rfl (ld_at (path:=[]) rfl rfl rfl (ra_n) (get_map (f:=str) (xs:=u6.2.2) he15) rfl rfl rfl)) ?_
   refine cq 4 [31] [B ((e15 == u6.1))] 195 ?_
   exact rg [0,1,5,31] [196,2] (j7 _ (Option.some.inj h).symm :)
 · refine cq 8 [31] [B (false)] 195 ?_
   exact rg [0,1,5,31] [196,2] (j7 _ (Option.some.inj h).symm :)
theorem Ffcj_good {G : Go.Ln.Ground} : Good Tryd.prog G 92 Ffcj_ent:=good_T (fnOf_good (gl_n)) agree_mk (Checked.mixed Tryd.checked) Tryd.func92 (n:=2) (m:=1) ⟨rfl,rfl,by decide⟩ (fun _=>⟨rfl,rfl⟩) (fun a r h=>Ffcj_run a.1 a.2 r h)
def Ffci_A : ((List Str) × Condition)→List V:=cA (usE 1 str) (oA encI_Condition1)
def Ffci_R (r : (List Str)) : V × List V:=(.usl 1 ((r).map str),[.dead])
noncomputable def Ffci_entS (slf_Ffci : ((List Str) × Condition)→Option ((List Str))) : Ent:=entT [true,false] Ffci_A Ffci_R slf_Ffci
theorem Ffci_FS (slf_Ffci : ((List Str) × Condition)→Option ((List Str))) {x} {r} (h : slf_Ffci x=some r) : (Ffci_entS slf_Ffci).F (Ffci_A x)=some (Ffci_R r):=entT_F (cA_inj (usl_inj str_inj) (oA_inj encI_Condition1_inj)) h
noncomputable def Ffci_ent : Ent:=Ffci_entS (fixO Ffci_G)
theorem Ffci_F {l_4 : List Str} {c_5 : Condition} {r} (h : Ffci l_4 c_5=some r) : Ffci_ent.F (Ffci_A (l_4,c_5))=some (Ffci_R r):=Ffci_FS (fixO Ffci_G) h
noncomputable def Ffci_c : Code:=bodyOf Tryd.f51
noncomputable def Ffci_E (slf_Ffci : ((List Str) × Condition)→Option ((List Str))) : Env:=mkE Tryd.prog [(92,Ffcj_ent),(51,(Ffci_entS slf_Ffci))]
def Ffci_Q (slf_Ffci : ((List Str) × Condition)→Option ((List Str))) (x : (List Str) × Condition) (r : (List Str)) : St→Prop:=QF (Ffci_E slf_Ffci) Tryd.f51 [true,false] (Ffci_A x) (Ffci_R r)
theorem Ffci_la_run (slf_Ffci : ((List Str) × Condition)→Option ((List Str))) (l_4 : List Str) (c_5 : Condition)  {Q : St→Prop} {K : List It} (hK : noD K=true) : ∀ (x4 : Int × (List Str)) (y : ((List Str)) ⊕ ((List Str))),Ffci_la slf_Ffci l_4 c_5 x4=some y→(∀ r',y=.inl r'→∀ st,Ffci_Q slf_Ffci (l_4,c_5) r' st→Q st)→(∀ u : (List Str),y=.inr u→Run (Ffci_E slf_Ffci) 1 Q K (sO 28 [(0,.hs 2 0 [] 1 0 ((u).map str).length)] [none,some ⟨0,1,(u).map str⟩] 3))→Run (Ffci_E slf_Ffci) 1 Q (.code (cL (cL (cR (cL (cR (cR Ffci_c)))))) :: .lp (cL (cL (cR (cL (cR (cR Ffci_c)))))) :: .blk 0 :: K) (sO 28 [(0,.hs 2 0 [] 1 0 ((x4.2).map str).length),(3,.hp 3 0 [] 4 0 0),(5,I (x4.1))] [none,some ⟨0,1,(x4.2).map str⟩,some ⟨0,4,[.agg [I (c_5.Op),str (c_5.Name),I (c_5.Day),.isl false ((c_5.Parts).map encI_Condition)]]⟩] 4):=by
 refine fix_indP (Ffci_la_fin slf_Ffci l_4 c_5) ?_
 intro self ih x4 y h hr hn
 unfold Ffci_la_F at h
 refine cq 6 [13,15] [I (x4.1),.isl false ((c_5.Parts).map encI_Condition)] 52 ?_
 refine oq 68 (I ((len c_5.Parts))) rfl (e_len rfl rfl rfl (l_isl rfl)) ?_
 refine cq 2 [17] [B ((decide (x4.1 < (len c_5.Parts))))] 84 ?_
 refine sq h (fun h=>?_) (fun h=>?_)
 · refine aq 1 ?_
   refine cq 7 [20,22,23] [.hs 2 0 [] 1 0 ((x4.2).map str).length,.isl false ((c_5.Parts).map encI_Condition),I (x4.1)] 148 ?_
   obtain ⟨e5,he5,h⟩:=bS h
   refine oq 164 (.iptr (.agg [I (e5.Op),str (e5.Name),I (e5.Day),.isl false ((e5.Parts).map encI_Condition)]) 0) rfl (e_indexAddr rfl rfl rfl (ix_islE rfl rfl (encI_Condition_eq e5) rfl he5)) ?_
   refine cq 1 [25] [.agg [I (e5.Op),str (e5.Name),I (e5.Day),.isl false ((e5.Parts).map encI_Condition)]] 180 ?_
   obtain ⟨r6,hr6,h⟩:=bS h
   refine oq 196 (.hs 180 0 [] 1 0 ((r6).map str).length) rfl (e_callV rfl rfl (call_P rfl rfl rfl (avO (hd1 rfl (hd_hs (path:=[]) rfl rfl (ra_n) rfl)) (avS (shP rfl) (avN))) (Ffci_FS slf_Ffci hr6) (.inr rfl) (bl_c rfl rfl rfl bk_dead (bl_n)) rfl rfl rfl)) ?_
   refine cq 8 [0,5] [.hs 180 0 [] 1 0 ((r6).map str).length,I ((w64 (x4.1 + 1)))] 260 ?_
   refine s_lp ?_
   exact rg [0,3,5] [261,180,3] (ih _ _ h hr hn :)
 · refine aq 1 ?_
   exact rg [0] [85,2] (hn _ (Option.some.inj h).symm :) (hk:=hK)
theorem Ffci_run (slf_Ffci : ((List Str) × Condition)→Option ((List Str))) (l_4 : List Str) (c_5 : Condition) (r : (List Str)) (h : Ffci_B slf_Ffci l_4 c_5=some r) : RunF (Ffci_E slf_Ffci) Tryd.f51 [true,false] 1 (Ffci_A (l_4,c_5)) (Ffci_R r):=by
 show Run _ _ (Ffci_Q slf_Ffci (l_4,c_5) r) [.code Ffci_c] _
 refine rin (n:=28) [(0,.hs 1 0 [] 1 0 ((l_4).map str).length),(1,.agg [I (c_5.Op),str (c_5.Name),I (c_5.Day),.isl false ((c_5.Parts).map encI_Condition)])] [(1,some ⟨0,1,(l_4).map str⟩)] 2 (by kernel_rfl) (by kernel_rfl) (by kernel_rfl) rfl ?_
 unfold Ffci_B at h
 refine ck 12 [3,8] [] [2] [] [.hp 2 0 [] 4 0 0,B ((c_5.Op == 2))] [some ⟨0,4,[.agg [I (c_5.Op),str (c_5.Name),I (c_5.Day),.isl false ((c_5.Parts).map encI_Condition)]]⟩] 82 (by kernel_rfl) ?_
 refine sq h (fun h=>?_) (fun h=>?_)
 · refine cq 5 [9,11] [.hs 1 0 [] 1 0 ((l_4).map str).length,str (c_5.Name)] 130 ?_
   obtain ⟨r3,hr3,h⟩:=bS h
   refine oq 146 (.hs 130 0 [] 1 0 ((r3).map str).length) rfl (e_callV rfl rfl (call_P rfl rfl rfl (avO (hd1 rfl (hd_hs (path:=[]) rfl rfl (ra_n) rfl)) (avS (shP rfl) (avN))) (Ffcj_F hr3) (.inr rfl) (bl_c rfl rfl rfl bk_dead (bl_n)) rfl rfl rfl)) ?_
   refine cq 2 [4] [.hs 130 0 [] 1 0 ((r3).map str).length] 162 ?_
   obtain rfl:=Option.some.inj h
   exact s_ret rfl ⟨_,fin (vs:=[.hs 130 0 [] 1 0 ((r3).map str).length]) rfl (absE (abs1 rfl (abs_hs rfl rfl)) (absEN)) rfl (ou_1 rfl (oc_no rfl) (ou_f (ou_n))),kl_d (kl_n)⟩
 · refine aq 1 ?_
   refine cq 6 [5] [I (0)] 98 ?_
   obtain ⟨y7,hy7,hy71,hy72⟩:=bJ h
   refine s_loop rfl ?_
   refine rg [0,3,5] [99,1,2] (Ffci_la_run slf_Ffci l_4 c_5 rfl (0,l_4) _ hy7 (fun r' e st hq=>by rw [hy71 r' e] at hq; exact hq) fun u7 hu=>?_)
   replace h:=hy72 u7 hu
   refine cq 5 [4] [.hs 2 0 [] 1 0 ((u7).map str).length] 35 ?_
   obtain rfl:=Option.some.inj h
   exact s_ret rfl ⟨_,fin (vs:=[.hs 2 0 [] 1 0 ((u7).map str).length]) rfl (absE (abs1 rfl (abs_hs rfl rfl)) (absEN)) rfl (ou_1 rfl (oc_no rfl) (ou_f (ou_n))),kl_d (kl_n)⟩
theorem Ffci_good {G : Go.Ln.Ground} : Good Tryd.prog G 51 Ffci_ent:=good_rec fun slf_Ffci g_Ffci=>good_T (fnOf_good (gl_c Ffcj_good (gl_c g_Ffci (gl_n)))) agree_mk (Checked.mixed Tryd.checked) Tryd.func51 (n:=2) (m:=1) ⟨rfl,rfl,by decide⟩ (fun _=>⟨rfl,rfl⟩) (fun a r h=>Ffci_run slf_Ffci a.1 a.2 r h)
def Ffbw_A : (Condition × Condition)→List V:=cA encI_Condition1 (oA encI_Condition1)
def Ffbw_R (r : Bool) : V × List V:=(B (r),[])
noncomputable def Ffbw_ent : Ent:=entT [false,false] Ffbw_A Ffbw_R fun x=>Ffbw x.1 x.2
theorem Ffbw_F {a_1 : Condition} {b_2 : Condition} {r} (h : Ffbw a_1 b_2=some r) : (Ffbw_ent).F (Ffbw_A (a_1,b_2))=some (Ffbw_R r):=entT_F (cA_inj encI_Condition1_inj (oA_inj encI_Condition1_inj)) h
noncomputable def Ffbw_c : Code:=bodyOf Tryd.f37
noncomputable def Ffbw_E : Env:=mkE Tryd.prog [(51,Ffci_ent)]
def Ffbw_Q (x : Condition × Condition) (r : Bool) : St→Prop:=QF Ffbw_E Tryd.f37 [false,false] (Ffbw_A x) (Ffbw_R r)
theorem Ffbw_run (a_1 : Condition) (b_2 : Condition) (r : Bool) (h : Ffbw a_1 b_2=some r) : RunF Ffbw_E Tryd.f37 [false,false] 0 (Ffbw_A (a_1,b_2)) (Ffbw_R r):=by
 show Run _ _ (Ffbw_Q (a_1,b_2) r) [.code Ffbw_c] _
 refine rin (n:=12) [(0,.agg [I (a_1.Op),str (a_1.Name),I (a_1.Day),.isl false ((a_1.Parts).map encI_Condition)]),(1,.agg [I (b_2.Op),str (b_2.Name),I (b_2.Day),.isl false ((b_2.Parts).map encI_Condition)])] [] 1 (by kernel_rfl) (by kernel_rfl) (by kernel_rfl) rfl ?_
 unfold Ffbw at h
 refine ck 7 [2,3] [] [1,17] [] [.hp 1 0 [] 4 0 0,.hp 17 0 [] 4 0 0] [some ⟨0,4,[.agg [I (a_1.Op),str (a_1.Name),I (a_1.Day),.isl false ((a_1.Parts).map encI_Condition)]]⟩,some ⟨0,4,[.agg [I (b_2.Op),str (b_2.Name),I (b_2.Day),.isl false ((b_2.Parts).map encI_Condition)]]⟩] 49 (by kernel_rfl) ?_
 refine s_draw [0,0,3,0,15,31,63,127] rfl (by decide +kernel) ?_
 refine dq [] [] (.hs 49 0 [] 1 0 0) rfl (e_buildSlice rfl (bs_mk (f:=I) (xs:=[]) (z:=str ([])) (es:=[]) (ws:=[]) rfl rfl rfl (by decide) rfl (abs_each_plain rfl) rfl)) ?_
 refine dq [1] [] (.agg [I (a_1.Op),str (a_1.Name),I (a_1.Day),.isl false ((a_1.Parts).map encI_Condition)]) rfl (e_ld rfl rfl) ?_
 obtain ⟨r3,hr3,h⟩:=bS h
 refine dq [49] [49] (.hs 81 0 [] 1 0 ((r3).map str).length) rfl (e_callV rfl rfl (call_P rfl rfl rfl (avO (hd1 rfl (hd_hs (path:=[]) (m:=0) (es2:=[]) rfl rfl (ra_n) rfl)) (avS (shP rfl) (avN))) (Ffci_F hr3) (.inr rfl) (bl_c rfl rfl rfl bk_dead (bl_n)) rfl rfl rfl)) ?_ (w_callO rfl rfl rfl rfl (avO (hd1 rfl (hd_hs (path:=[]) (m:=0) (es2:=[]) rfl rfl (ra_n) rfl)) (avS (shP rfl) (avN))) (Ffci_F hr3) (.inr rfl) rfl)
 refine dq [17] [] (.agg [I (b_2.Op),str (b_2.Name),I (b_2.Day),.isl false ((b_2.Parts).map encI_Condition)]) rfl (e_ld rfl rfl) ?_
 obtain ⟨r4,hr4,h⟩:=bS h
 refine dq [81] [81] (.hs 113 0 [] 1 0 ((r4).map str).length) rfl (e_callV rfl rfl (call_P rfl rfl rfl (avO (hd1 rfl (hd_hs (path:=[]) rfl rfl (ra_n) rfl)) (avS (shP rfl) (avN))) (Ffci_F hr4) (.inr rfl) (bl_c rfl rfl rfl bk_dead (bl_n)) rfl rfl rfl)) ?_ (w_callO rfl rfl rfl rfl (avO (hd1 rfl (hd_hs (path:=[]) rfl rfl (ra_n) rfl)) (avS (shP rfl) (avN))) (Ffci_F hr4) (.inr rfl) rfl)
 refine dq [113] [] (I ((len r4))) rfl (e_len rfl rfl rfl (l_hsM (f:=str) (xs:=r4) rfl rfl)) ?_
 refine dk 2 [4,11] [B ((decide ((len r4) ≤ 10))),B ((decide ((len r4) ≤ 10)))] ?_
 refine de 177 rfl rfl ?_
 obtain rfl:=Option.some.inj h
 exact s_ret rfl ⟨_,fin (vs:=[B ((decide ((len r4) ≤ 10)))]) rfl (absE (absorb_plain rfl) (absEN)) rfl (ou_f (ou_f (ou_n))),kl_n⟩
theorem Ffbw_good {G : Go.Ln.Ground} : Good Tryd.prog G 37 Ffbw_ent:=good_T (fnOf_good (gl_c Ffci_good (gl_n))) agree_mk (Checked.mixed Tryd.checked) Tryd.func37 (n:=2) (m:=0) ⟨rfl,rfl,by decide⟩ (fun _=>⟨rfl,rfl⟩) (fun a r h=>Ffbw_run a.1 a.2 r h)
def Ffby_A : ((List Int) × Int)→List V:=cA (usE 1 I) (oA I)
def Ffby_R (r : (List Int)) : V × List V:=(.usl 1 ((r).map I),[.dead])
noncomputable def Ffby_ent : Ent:=entT [true,false] Ffby_A Ffby_R fun x=>Ffby x.1 x.2
theorem Ffby_F {l_8 : List Int} {n_9 : Int} {r} (h : Ffby l_8 n_9=some r) : (Ffby_ent).F (Ffby_A (l_8,n_9))=some (Ffby_R r):=entT_F (cA_inj (usl_inj I_inj) (oA_inj I_inj)) h
noncomputable def Ffby_c : Code:=bodyOf Tryd.f93
noncomputable def Ffby_E : Env:=mkE Tryd.prog []
def Ffby_Q (x : (List Int) × Int) (r : (List Int)) : St→Prop:=QF Ffby_E Tryd.f93 [true,false] (Ffby_A x) (Ffby_R r)
theorem Ffby_la_run (l_8 : List Int) (n_9 : Int)  {Q : St→Prop} {K : List It} (hK : noD K=true) : ∀ (x3 : Int) (y : ((List Int)) ⊕ (Int × Int × (List Int))),Ffby_la l_8 n_9 x3=some y→(∀ r',y=.inl r'→∀ st,Ffby_Q (l_8,n_9) r' st→Q st)→(∀ u : Int × Int × (List Int),y=.inr u→Run Ffby_E 1 Q K (sO 45 [(0,.hs 2 0 [] 1 0 ((u.2.2).map I).length),(1,I (u.1)),(5,I (u.2.1))] [none,some ⟨0,1,(u.2.2).map I⟩] 3))→Run Ffby_E 1 Q (.code (cL (cL (cL (cR (cR Ffby_c))))) :: .lp (cL (cL (cL (cR (cR Ffby_c))))) :: .blk 0 :: K) (sO 45 [(0,.hs 2 0 [] 1 0 ((l_8).map I).length),(1,I (n_9)),(5,I (x3))] [none,some ⟨0,1,(l_8).map I⟩] 3):=by
 refine fix_indP (Ffby_la_fin l_8 n_9) ?_
 intro self ih x3 y h hr hn
 unfold Ffby_la_F at h
 refine cq 5 [6,7] [I (x3),.hs 2 0 [] 1 0 ((l_8).map I).length] 35 ?_
 refine oq 51 (I ((len l_8))) rfl (e_len rfl rfl rfl (l_hsM (f:=I) (xs:=l_8) rfl rfl)) ?_
 refine cq 2 [10] [B ((decide (x3 < (len l_8))))] 83 ?_
 obtain ⟨y4,hy4,hy41,hy42⟩:=bL h
 have j4 : ∀ u4,y4=.inr u4→Run Ffby_E 1 Q (.code (cR (cL (cL (cL (cL (cR (cR Ffby_c))))))) :: .code (cR (cL (cL (cL (cR (cR Ffby_c)))))) :: .lp (cL (cL (cL (cR (cR Ffby_c))))) :: .blk 0 :: K) (sO 45 [(0,.hs 2 0 [] 1 0 ((l_8).map I).length),(1,I (n_9)),(5,I (x3)),(17,B (u4))] [none,some ⟨0,1,(l_8).map I⟩] 3):=by
   intro u4 hu
   replace h:=hy42 u4 hu
   refine sq h (fun h=>?_) (fun h=>?_)
   · refine aq 1 ?_
     refine cq 7 [5] [I ((w64 (x3 + 1)))] 51 ?_
     refine s_lp ?_
     exact rg [0,1,5] [52,2] (ih _ _ h hr hn :)
   · refine aq 1 ?_
     exact rg [0,1,5] [4,2] (hn _ (Option.some.inj h).symm :) (hk:=hK)
 have r4 : ∀ r',y4=.inl r'→∀ st,Ffby_Q (l_8,n_9) r' st→Q st:=fun r' e st hq=>hr r' (hy41 r' e) st hq
 replace h:=hy4
 refine sp 10 h rfl (fun h=>?_) (fun h=>?_)
 · refine cq 2 [11,12] [.hs 2 0 [] 1 0 ((l_8).map I).length,I (x3)] 115 ?_
   obtain ⟨e5,he5,h⟩:=bS h
   refine oy 131 (.hp 2 0 [] 1 (0 + Int.toNat (x3)) 0) rfl (e_indexAddr rfl rfl rfl (ix_hsM (f:=I) (xs:=l_8) rfl rfl rfl he5)) ?_
   refine oy 147 (I (e5)) rfl (e_ld rfl (ld_at (path:=[]) rfl rfl rfl (ra_n) (get_map (f:=I) (xs:=l_8) he5) rfl rfl rfl)) ?_
   refine cq 4 [17] [B ((decide (e5 < n_9)))] 195 ?_
   exact rg [0,1,5,17] [196,2] (j4 _ (Option.some.inj h).symm :)
 · refine cq 8 [17] [B (false)] 195 ?_
   exact rg [0,1,5,17] [196,2] (j4 _ (Option.some.inj h).symm :)
theorem Ffby_run (l_8 : List Int) (n_9 : Int) (r : (List Int)) (h : Ffby l_8 n_9=some r) : RunF Ffby_E Tryd.f93 [true,false] 1 (Ffby_A (l_8,n_9)) (Ffby_R r):=by
 show Run _ _ (Ffby_Q (l_8,n_9) r) [.code Ffby_c] _
 refine rin (n:=45) [(0,.hs 1 0 [] 1 0 ((l_8).map I).length),(1,I (n_9))] [(1,some ⟨0,1,(l_8).map I⟩)] 2 (by kernel_rfl) (by kernel_rfl) (by kernel_rfl) rfl ?_
 unfold Ffby at h
 refine cq 10 [5] [I (0)] 34 ?_
 obtain ⟨y6,hy6,hy61,hy62⟩:=bJ h
 refine s_loop rfl ?_
 refine rg [0,1,5] [35,1] (Ffby_la_run l_8 n_9 rfl 0 _ hy6 (fun r' e st hq=>by rw [hy61 r' e] at hq; exact hq) fun u6 hu=>?_)
 replace h:=hy62 u6 hu
 refine cq 5 [20,21] [I (u6.2.1),.hs 2 0 [] 1 0 ((u6.2.2).map I).length] 35 ?_
 refine oq 51 (I ((len u6.2.2))) rfl (e_len rfl rfl rfl (l_hsM (f:=I) (xs:=u6.2.2) rfl rfl)) ?_
 refine cq 2 [24] [B ((decide (u6.2.1 < (len u6.2.2))))] 83 ?_
 obtain ⟨y7,hy7,hy71,hy72⟩:=bJ h
 have j7 : ∀ u7,y7=.inr u7→Run Ffby_E 1 (Ffby_Q (l_8,n_9) r) (.code (cR (cL (cR (cR (cR Ffby_c))))) :: .code (cR (cR (cR (cR Ffby_c)))) :: []) (sO 45 [(0,.hs 2 0 [] 1 0 ((u6.2.2).map I).length),(1,I (u6.1)),(5,I (u6.2.1)),(31,B (u7))] [none,some ⟨0,1,(u6.2.2).map I⟩] 3):=by
   intro u7 hu
   replace h:=hy72 u7 hu
   refine sq h (fun h=>?_) (fun h=>?_)
   · refine cq 5 [4] [.hs 2 0 [] 1 0 ((u6.2.2).map I).length] 35 ?_
     obtain rfl:=Option.some.inj h
     exact s_ret rfl ⟨_,fin (vs:=[.hs 2 0 [] 1 0 ((u6.2.2).map I).length]) rfl (absE (abs1 rfl (abs_hs rfl rfl)) (absEN)) rfl (ou_1 rfl (oc_no rfl) (ou_f (ou_n))),kl_d (kl_n)⟩
   · refine aq 1 ?_
     refine aq 1 ?_
     refine s_draw [0,0,0,6,15,0,32,127,0,0,768,2047,4095] rfl (by decide +kernel) ?_
     refine dq [] [] (.hs 3 0 [] 1 0 0) rfl (e_buildSlice rfl (bs_mk (f:=I) (xs:=[]) (z:=I (0)) (es:=[]) (ws:=[]) rfl rfl rfl (by decide) rfl (abs_each_plain rfl) rfl)) ?_
     refine dk 2 [35,34] [I (u6.2.1),.hs 2 0 [] 1 0 ((u6.2.2).map I).length] ?_
     obtain ⟨s8,hs8,h⟩:=bS h
     refine dq [2] [] (.hs 2 0 [] 1 (0 + Int.toNat (0)) (Int.toNat (u6.2.1) - Int.toNat (0))) rfl (e_slice rfl rfl rfl rfl (sl_hsM (f:=I) (xs:=u6.2.2) rfl rfl rfl rfl rfl hs8)) ?_
     obtain ⟨p9,hp9,h⟩:=bS h
     obtain ⟨a10,ha10,h⟩:=bS h
     refine dq [3,2] [3] (.hs 67 0 [] 1 0 ((a10).map I).length) rfl (e_append rfl rfl rfl rfl rfl (ap_hsM (path:=[]) (es0:=[]) (f:=I) (xs:=([] : List Int)) (ys:=p9) rfl rfl (take_pt (path:=[]) (f:=I) (xs:=u6.2.2) rfl rfl (ra_n) hp9 I_flat) rfl rfl rfl (rfl) rfl (by decide) I_cells ha10 rfl (to_n))) ?_ (w_app rfl (aw_hs (path:=[]) (f:=I) (xs:=u6.2.2) rfl rfl (ra_n) I_flat rfl))
     refine dk 1 [38] [I (u6.1)] ?_
     refine dq [] [] (.hs 99 0 [] 1 0 1) rfl (e_buildSlice rfl (bs_mk (f:=I) (xs:=[]) (z:=I (0)) (es:=[I (u6.1)]) (ws:=[I (u6.1)]) rfl rfl rfl (by decide) rfl (abs_each_plain rfl) rfl)) ?_
     obtain ⟨a11,ha11,h⟩:=bS h
     refine dq [67,99] [67] (.hs 115 0 [] 1 0 ((a11).map I).length) rfl (e_append rfl rfl rfl rfl rfl (ap_hsM (path:=[]) (f:=I) (xs:=a10) (ys:=[u6.1]) rfl rfl (take_hs rfl rfl rfl) rfl rfl rfl (ra_n) rfl (by decide) I_cells ha11 rfl (to_n))) ?_ (w_app rfl (aw_hs (path:=[]) (f:=I) (xs:=[u6.1]) rfl rfl (ra_n) I_flat rfl))
     refine dk 2 [42,41] [I (u6.2.1),.hs 2 0 [] 1 0 ((u6.2.2).map I).length] ?_
     obtain ⟨s12,hs12,h⟩:=bS h
     refine dq [2] [] (.hs 2 0 [] 1 (0 + Int.toNat (u6.2.1)) (Int.toNat (len u6.2.2) - Int.toNat (u6.2.1))) rfl (e_slice rfl rfl rfl rfl (sl_hsM (f:=I) (xs:=u6.2.2) rfl rfl rfl rfl (bd_n rfl) hs12)) ?_
     obtain ⟨p13,hp13,h⟩:=bS h
     obtain ⟨a14,ha14,h⟩:=bS h
     refine dq [115,2] [115] (.hs 179 0 [] 1 0 ((a14).map I).length) rfl (e_append rfl rfl rfl rfl rfl (ap_hsM (path:=[]) (f:=I) (xs:=a11) (ys:=p13) rfl rfl (take_pt (path:=[]) (f:=I) (xs:=u6.2.2) rfl rfl (ra_n) hp13 I_flat) rfl rfl rfl (ra_n) rfl (by decide) I_cells ha14 rfl (to_n))) ?_ (w_app rfl (aw_hs (path:=[]) (f:=I) (xs:=u6.2.2) rfl rfl (ra_n) I_flat rfl))
     refine dk 1 [4] [.hs 179 0 [] 1 0 ((a14).map I).length] ?_
     refine de 211 rfl rfl ?_
     obtain rfl:=Option.some.inj h
     exact s_ret rfl ⟨_,fin (vs:=[.hs 179 0 [] 1 0 ((a14).map I).length]) rfl (absE (abs1 rfl (abs_hs rfl rfl)) (absEN)) rfl (ou_1 rfl (oc_no rfl) (ou_f (ou_n))),kl_d (kl_n)⟩
 have r7 : ∀ r',y7=.inl r'→∀ st,Ffby_Q (l_8,n_9) r' st→(Ffby_Q (l_8,n_9) r) st:=fun r' e st hq=>by rw [hy71 r' e] at hq; exact hq
 replace h:=hy7
 refine sp 24 h rfl (fun h=>?_) (fun h=>?_)
 · refine cq 2 [25,26] [.hs 2 0 [] 1 0 ((u6.2.2).map I).length,I (u6.2.1)] 115 ?_
   obtain ⟨e15,he15,h⟩:=bS h
   refine oy 131 (.hp 2 0 [] 1 (0 + Int.toNat (u6.2.1)) 0) rfl (e_indexAddr rfl rfl rfl (ix_hsM (f:=I) (xs:=u6.2.2) rfl rfl rfl he15)) ?_
   refine oy 147 (I (e15)) rfl (e_ld rfl (ld_at (path:=[]) rfl rfl rfl (ra_n) (get_map (f:=I) (xs:=u6.2.2) he15) rfl rfl rfl)) ?_
   refine cq 4 [31] [B ((e15 == u6.1))] 195 ?_
   exact rg [0,1,5,31] [196,2] (j7 _ (Option.some.inj h).symm :)
 · refine cq 8 [31] [B (false)] 195 ?_
   exact rg [0,1,5,31] [196,2] (j7 _ (Option.some.inj h).symm :)
theorem Ffby_good {G : Go.Ln.Ground} : Good Tryd.prog G 93 Ffby_ent:=good_T (fnOf_good (gl_n)) agree_mk (Checked.mixed Tryd.checked) Tryd.func93 (n:=2) (m:=1) ⟨rfl,rfl,by decide⟩ (fun _=>⟨rfl,rfl⟩) (fun a r h=>Ffby_run a.1 a.2 r h)
def Ffca_A : ((List Int) × Condition)→List V:=cA (usE 1 I) (oA encI_Condition1)
def Ffca_R (r : (List Int)) : V × List V:=(.usl 1 ((r).map I),[.dead])
noncomputable def Ffca_entS (slf_Ffca : ((List Int) × Condition)→Option ((List Int))) : Ent:=entT [true,false] Ffca_A Ffca_R slf_Ffca
theorem Ffca_FS (slf_Ffca : ((List Int) × Condition)→Option ((List Int))) {x} {r} (h : slf_Ffca x=some r) : (Ffca_entS slf_Ffca).F (Ffca_A x)=some (Ffca_R r):=entT_F (cA_inj (usl_inj I_inj) (oA_inj encI_Condition1_inj)) h
noncomputable def Ffca_ent : Ent:=Ffca_entS (fixO Ffca_G)
theorem Ffca_F {l_4 : List Int} {c_5 : Condition} {r} (h : Ffca l_4 c_5=some r) : Ffca_ent.F (Ffca_A (l_4,c_5))=some (Ffca_R r):=Ffca_FS (fixO Ffca_G) h
noncomputable def Ffca_c : Code:=bodyOf Tryd.f94
noncomputable def Ffca_E (slf_Ffca : ((List Int) × Condition)→Option ((List Int))) : Env:=mkE Tryd.prog [(93,Ffby_ent),(94,(Ffca_entS slf_Ffca))]
def Ffca_Q (slf_Ffca : ((List Int) × Condition)→Option ((List Int))) (x : (List Int) × Condition) (r : (List Int)) : St→Prop:=QF (Ffca_E slf_Ffca) Tryd.f94 [true,false] (Ffca_A x) (Ffca_R r)
theorem Ffca_la_run (slf_Ffca : ((List Int) × Condition)→Option ((List Int))) (l_4 : List Int) (c_5 : Condition)  {Q : St→Prop} {K : List It} (hK : noD K=true) : ∀ (x4 : Int × (List Int)) (y : ((List Int)) ⊕ ((List Int))),Ffca_la slf_Ffca l_4 c_5 x4=some y→(∀ r',y=.inl r'→∀ st,Ffca_Q slf_Ffca (l_4,c_5) r' st→Q st)→(∀ u : (List Int),y=.inr u→Run (Ffca_E slf_Ffca) 1 Q K (sO 28 [(0,.hs 2 0 [] 1 0 ((u).map I).length)] [none,some ⟨0,1,(u).map I⟩] 3))→Run (Ffca_E slf_Ffca) 1 Q (.code (cL (cL (cR (cL (cR (cR Ffca_c)))))) :: .lp (cL (cL (cR (cL (cR (cR Ffca_c)))))) :: .blk 0 :: K) (sO 28 [(0,.hs 2 0 [] 1 0 ((x4.2).map I).length),(3,.hp 3 0 [] 4 0 0),(5,I (x4.1))] [none,some ⟨0,1,(x4.2).map I⟩,some ⟨0,4,[.agg [I (c_5.Op),str (c_5.Name),I (c_5.Day),.isl false ((c_5.Parts).map encI_Condition)]]⟩] 4):=by
 refine fix_indP (Ffca_la_fin slf_Ffca l_4 c_5) ?_
 intro self ih x4 y h hr hn
 unfold Ffca_la_F at h
 refine cq 6 [13,15] [I (x4.1),.isl false ((c_5.Parts).map encI_Condition)] 52 ?_
 refine oq 68 (I ((len c_5.Parts))) rfl (e_len rfl rfl rfl (l_isl rfl)) ?_
 refine cq 2 [17] [B ((decide (x4.1 < (len c_5.Parts))))] 84 ?_
 refine sq h (fun h=>?_) (fun h=>?_)
 · refine aq 1 ?_
   refine cq 7 [20,22,23] [.hs 2 0 [] 1 0 ((x4.2).map I).length,.isl false ((c_5.Parts).map encI_Condition),I (x4.1)] 148 ?_
   obtain ⟨e5,he5,h⟩:=bS h
   refine oq 164 (.iptr (.agg [I (e5.Op),str (e5.Name),I (e5.Day),.isl false ((e5.Parts).map encI_Condition)]) 0) rfl (e_indexAddr rfl rfl rfl (ix_islE rfl rfl (encI_Condition_eq e5) rfl he5)) ?_
   refine cq 1 [25] [.agg [I (e5.Op),str (e5.Name),I (e5.Day),.isl false ((e5.Parts).map encI_Condition)]] 180 ?_
   obtain ⟨r6,hr6,h⟩:=bS h
   refine oq 196 (.hs 180 0 [] 1 0 ((r6).map I).length) rfl (e_callV rfl rfl (call_P rfl rfl rfl (avO (hd1 rfl (hd_hs (path:=[]) rfl rfl (ra_n) rfl)) (avS (shP rfl) (avN))) (Ffca_FS slf_Ffca hr6) (.inr rfl) (bl_c rfl rfl rfl bk_dead (bl_n)) rfl rfl rfl)) ?_
   refine cq 8 [0,5] [.hs 180 0 [] 1 0 ((r6).map I).length,I ((w64 (x4.1 + 1)))] 260 ?_
   refine s_lp ?_
   exact rg [0,3,5] [261,180,3] (ih _ _ h hr hn :)
 · refine aq 1 ?_
   exact rg [0] [85,2] (hn _ (Option.some.inj h).symm :) (hk:=hK)
theorem Ffca_run (slf_Ffca : ((List Int) × Condition)→Option ((List Int))) (l_4 : List Int) (c_5 : Condition) (r : (List Int)) (h : Ffca_B slf_Ffca l_4 c_5=some r) : RunF (Ffca_E slf_Ffca) Tryd.f94 [true,false] 1 (Ffca_A (l_4,c_5)) (Ffca_R r):=by
 show Run _ _ (Ffca_Q slf_Ffca (l_4,c_5) r) [.code Ffca_c] _
 refine rin (n:=28) [(0,.hs 1 0 [] 1 0 ((l_4).map I).length),(1,.agg [I (c_5.Op),str (c_5.Name),I (c_5.Day),.isl false ((c_5.Parts).map encI_Condition)])] [(1,some ⟨0,1,(l_4).map I⟩)] 2 (by kernel_rfl) (by kernel_rfl) (by kernel_rfl) rfl ?_
 unfold Ffca_B at h
 refine ck 12 [3,8] [] [2] [] [.hp 2 0 [] 4 0 0,B ((c_5.Op == 3))] [some ⟨0,4,[.agg [I (c_5.Op),str (c_5.Name),I (c_5.Day),.isl false ((c_5.Parts).map encI_Condition)]]⟩] 82 (by kernel_rfl) ?_
 refine sq h (fun h=>?_) (fun h=>?_)
 · refine cq 5 [9,11] [.hs 1 0 [] 1 0 ((l_4).map I).length,I (c_5.Day)] 130 ?_
   obtain ⟨r3,hr3,h⟩:=bS h
   refine oq 146 (.hs 130 0 [] 1 0 ((r3).map I).length) rfl (e_callV rfl rfl (call_P rfl rfl rfl (avO (hd1 rfl (hd_hs (path:=[]) rfl rfl (ra_n) rfl)) (avS (shP rfl) (avN))) (Ffby_F hr3) (.inr rfl) (bl_c rfl rfl rfl bk_dead (bl_n)) rfl rfl rfl)) ?_
   refine cq 2 [4] [.hs 130 0 [] 1 0 ((r3).map I).length] 162 ?_
   obtain rfl:=Option.some.inj h
   exact s_ret rfl ⟨_,fin (vs:=[.hs 130 0 [] 1 0 ((r3).map I).length]) rfl (absE (abs1 rfl (abs_hs rfl rfl)) (absEN)) rfl (ou_1 rfl (oc_no rfl) (ou_f (ou_n))),kl_d (kl_n)⟩
 · refine aq 1 ?_
   refine cq 6 [5] [I (0)] 98 ?_
   obtain ⟨y7,hy7,hy71,hy72⟩:=bJ h
   refine s_loop rfl ?_
   refine rg [0,3,5] [99,1,2] (Ffca_la_run slf_Ffca l_4 c_5 rfl (0,l_4) _ hy7 (fun r' e st hq=>by rw [hy71 r' e] at hq; exact hq) fun u7 hu=>?_)
   replace h:=hy72 u7 hu
   refine cq 5 [4] [.hs 2 0 [] 1 0 ((u7).map I).length] 35 ?_
   obtain rfl:=Option.some.inj h
   exact s_ret rfl ⟨_,fin (vs:=[.hs 2 0 [] 1 0 ((u7).map I).length]) rfl (absE (abs1 rfl (abs_hs rfl rfl)) (absEN)) rfl (ou_1 rfl (oc_no rfl) (ou_f (ou_n))),kl_d (kl_n)⟩
theorem Ffca_good {G : Go.Ln.Ground} : Good Tryd.prog G 94 Ffca_ent:=good_rec fun slf_Ffca g_Ffca=>good_T (fnOf_good (gl_c Ffby_good (gl_c g_Ffca (gl_n)))) agree_mk (Checked.mixed Tryd.checked) Tryd.func94 (n:=2) (m:=1) ⟨rfl,rfl,by decide⟩ (fun _=>⟨rfl,rfl⟩) (fun a r h=>Ffca_run slf_Ffca a.1 a.2 r h)
def Ffcm_A : ((List Str) × Int)→List V:=cA (slE str) (oA I)
def Ffcm_R (r : (List Str)) : V × List V:=(.usl 1 ((r).map str),[])
noncomputable def Ffcm_ent : Ent:=entT [false,false] Ffcm_A Ffcm_R fun x=>Ffcm x.1 x.2
theorem Ffcm_F {names_1 : List Str} {mask_2 : Int} {r} (h : Ffcm names_1 mask_2=some r) : (Ffcm_ent).F (Ffcm_A (names_1,mask_2))=some (Ffcm_R r):=entT_F (cA_inj (isl_inj str_inj) (oA_inj I_inj)) h
noncomputable def Ffcm_c : Code:=bodyOf Tryd.f95
noncomputable abbrev Ffcm_ka : Code:=cL (cL (cR (cL (cR (cR Ffcm_c)))))
noncomputable def Ffcm_E : Env:=mkE Tryd.prog []
def Ffcm_Q (x : (List Str) × Int) (r : (List Str)) : St→Prop:=QF Ffcm_E Tryd.f95 [false,false] (Ffcm_A x) (Ffcm_R r)
theorem Ffcm_la_run (names_1 : List Str) (mask_2 : Int)  {Q : St→Prop} {K : List It} (hK : noD K=true) : ∀ (x3 : Int × (List Str)) (y : ((List Str)) ⊕ ((List Str))),Ffcm_la names_1 mask_2 x3=some y→(∀ r',y=.inl r'→∀ st,Ffcm_Q (names_1,mask_2) r' st→Q st)→(∀ u : (List Str),y=.inr u→Run Ffcm_E 0 Q K (sT 28 [(5,.hs 1 0 [] 1 0 ((u).map str).length)] [⟨0,1,(u).map str⟩] 2))→Run Ffcm_E 0 Q (.code Ffcm_ka :: .lp Ffcm_ka :: .blk 0 :: K) (sT 28 [(0,.isl false ((names_1).map str)),(1,I (mask_2)),(5,.hs 1 0 [] 1 0 ((x3.2).map str).length),(6,I (x3.1))] [⟨0,1,(x3.2).map str⟩] 2):=by
 refine fix_indP (Ffcm_la_fin names_1 mask_2) ?_
 intro self ih x3 y h hr hn
 unfold Ffcm_la_F at h
 refine cq 5 [8,9] [I (x3.1),.isl false ((names_1).map str)] 34 ?_
 refine oq 50 (I ((len names_1))) rfl (e_len rfl rfl rfl (l_isl rfl)) ?_
 refine cq 2 [11] [B ((decide (x3.1 < (len names_1))))] 66 ?_
 refine sq h (fun h=>?_) (fun h=>?_)
 · refine aq 1 ?_
   refine cq 7 [14,16] [I (mask_2),.int .u64 ((IntKind.u64.wrap x3.1))] 114 ?_
   obtain ⟨q4,hq4,h⟩:=bS h
   refine oq 130 (I (q4)) rfl (e_bin rfl rfl (b_shr hq4)) ?_
   refine cq 3 [19] [B (((andI .i64 q4 1) == 1))] 162 ?_
   obtain ⟨y5,hy5,hy51,hy52⟩:=bL h
   have j5 : ∀ u5,y5=.inr u5→Run Ffcm_E 0 Q (.blk 1 :: .code (cR (cR Ffcm_ka)) :: .lp Ffcm_ka :: .blk 0 :: K) (sT 28 [(0,.isl false ((names_1).map str)),(1,I (mask_2)),(5,.hs 1 0 [] 1 0 ((u5).map str).length),(6,I (x3.1))] [⟨0,1,(u5).map str⟩] 2):=by
     intro u5 hu
     replace h:=hy52 u5 hu
     refine cq 6 [6] [I ((w64 (x3.1 + 1)))] 50 ?_
     refine s_lp ?_
     exact rf [0,1,5,6] [1] (ih _ _ h hr hn :)
   have r5 : ∀ r',y5=.inl r'→∀ st,Ffcm_Q (names_1,mask_2) r' st→Q st:=fun r' e st hq=>hr r' (hy51 r' e) st hq
   replace h:=hy5
   refine sq h (fun h=>?_) (fun h=>?_)
   · refine cq 4 [20,21,22] [.hs 1 0 [] 1 0 ((x3.2).map str).length,.isl false ((names_1).map str),I (x3.1)] 210 ?_
     obtain ⟨e6,he6,h⟩:=bS h
     refine oq 226 (.iptr (str (e6)) 0) rfl (e_indexAddr rfl rfl rfl (ix_islE rfl rfl rfl rfl he6)) ?_
     refine cq 1 [24] [str (e6)] 242 ?_
     refine oq 258 (.hs 242 0 [] 1 0 1) rfl (e_buildSlice rfl (bs_mk (f:=I) (xs:=[]) (z:=str ([])) (es:=[str (e6)]) (ws:=[str (e6)]) rfl rfl rfl (by decide) rfl (abs_each_plain rfl) rfl)) ?_
     obtain ⟨a7,ha7,h⟩:=bS h
     refine oq 274 (.hs 258 0 [] 1 0 ((a7).map str).length) rfl (e_append rfl rfl rfl rfl rfl (ap_hsM (path:=[]) (f:=str) (xs:=x3.2) (ys:=[e6]) rfl rfl (take_hs rfl rfl rfl) rfl rfl rfl (ra_n) rfl (by decide) str_cells ha7 rfl (to_n))) ?_
     refine cq 2 [5] [.hs 258 0 [] 1 0 ((a7).map str).length] 290 ?_
     exact rf [0,1,5,6] [258] (j5 _ (Option.some.inj h).symm :)
   · refine aq 1 ?_
     exact rf [0,1,5,6] [1] (j5 _ (Option.some.inj h).symm :)
 · refine aq 1 ?_
   exact rf [5] [1] (hn _ (Option.some.inj h).symm :) (hk:=hK)
theorem Ffcm_run (names_1 : List Str) (mask_2 : Int) (r : (List Str)) (h : Ffcm names_1 mask_2=some r) : RunF Ffcm_E Tryd.f95 [false,false] 0 (Ffcm_A (names_1,mask_2)) (Ffcm_R r):=by
 show Run _ _ (Ffcm_Q (names_1,mask_2) r) [.code Ffcm_c] _
 refine rin (n:=28) [(0,.isl false ((names_1).map str)),(1,I (mask_2))] [] 1 (by kernel_rfl) (by kernel_rfl) (by kernel_rfl) rfl ?_
 unfold Ffcm at h
 refine cq 6 [] [] 17 ?_
 refine oq 33 (.hs 17 0 [] 1 0 0) rfl (e_buildSlice rfl (bs_mk (f:=I) (xs:=[]) (z:=str ([])) (es:=[]) (ws:=[]) rfl rfl rfl (by decide) rfl (abs_each_plain rfl) rfl)) ?_
 refine cq 8 [5,6] [.hs 17 0 [] 1 0 0,I (0)] 65 ?_
 obtain ⟨y8,hy8,hy81,hy82⟩:=bJ h
 refine s_loop rfl ?_
 refine rf [0,1,5,6] [17] (Ffcm_la_run names_1 mask_2 rfl (0,[]) _ hy8 (fun r' e st hq=>by rw [hy81 r' e] at hq; exact hq) fun u8 hu=>?_)
 replace h:=hy82 u8 hu
 refine cq 5 [4] [.hs 1 0 [] 1 0 ((u8).map str).length] 34 ?_
 obtain rfl:=Option.some.inj h
 exact s_ret rfl ⟨_,fin (vs:=[.hs 1 0 [] 1 0 ((u8).map str).length]) rfl (absE (abs1 rfl (abs_hs rfl rfl)) (absEN)) rfl (ou_f (ou_f (ou_n))),kl_n⟩
theorem Ffcm_good {G : Go.Ln.Ground} : Good Tryd.prog G 95 Ffcm_ent:=good_T (fnOf_good (gl_n)) agree_mk (Checked.mixed Tryd.checked) Tryd.func95 (n:=2) (m:=0) ⟨rfl,rfl,by decide⟩ (fun _=>⟨rfl,rfl⟩) (fun a r h=>Ffcm_run a.1 a.2 r h)
def Ffce_A : ((List Str) × Str)→List V:=cA (slE str) (oA str)
def Ffce_R (r : Bool) : V × List V:=(B (r),[])
noncomputable def Ffce_ent : Ent:=entT [false,false] Ffce_A Ffce_R fun x=>Ffce x.1 x.2
theorem Ffce_F {list_1 : List Str} {name_2 : Str} {r} (h : Ffce list_1 name_2=some r) : (Ffce_ent).F (Ffce_A (list_1,name_2))=some (Ffce_R r):=entT_F (cA_inj (isl_inj str_inj) (oA_inj str_inj)) h
noncomputable def Ffce_c : Code:=bodyOf Tryd.f99
noncomputable def Ffce_E : Env:=mkE Tryd.prog []
def Ffce_Q (x : (List Str) × Str) (r : Bool) : St→Prop:=QF Ffce_E Tryd.f99 [false,false] (Ffce_A x) (Ffce_R r)
theorem Ffce_la_run (list_1 : List Str) (name_2 : Str)  {Q : St→Prop} {K : List It} (hK : noD K=true) : ∀ (x3 : Int) (y : Bool ⊕ Unit),Ffce_la list_1 name_2 x3=some y→(∀ r',y=.inl r'→∀ st,Ffce_Q (list_1,name_2) r' st→Q st)→(∀ u : Unit,y=.inr u→Run Ffce_E 0 Q K (sT 18 [] [] 1))→Run Ffce_E 0 Q (.code (cL (cL (cR (cL (cR Ffce_c))))) :: .lp (cL (cL (cR (cL (cR Ffce_c))))) :: .blk 0 :: K) (sT 18 [(0,.isl false ((list_1).map str)),(1,str (name_2)),(5,I (x3))] [] 1):=by
 refine fix_indP (Ffce_la_fin list_1 name_2) ?_
 intro self ih x3 y h hr hn
 unfold Ffce_la_F at h
 refine cq 5 [6,7] [I (x3),.isl false ((list_1).map str)] 33 ?_
 refine oq 49 (I ((len list_1))) rfl (e_len rfl rfl rfl (l_isl rfl)) ?_
 refine cq 2 [9] [B ((decide (x3 < (len list_1))))] 65 ?_
 refine sq h (fun h=>?_) (fun h=>?_)
 · refine aq 1 ?_
   refine cq 6 [12,13] [.isl false ((list_1).map str),I (x3)] 97 ?_
   obtain ⟨e4,he4,h⟩:=bS h
   refine oq 113 (.iptr (str (e4)) 0) rfl (e_indexAddr rfl rfl rfl (ix_islE rfl rfl rfl rfl he4)) ?_
   refine cq 4 [17] [B ((e4 == name_2))] 161 ?_
   refine sq h (fun h=>?_) (fun h=>?_)
   · refine cq 4 [4] [B (true)] 177 ?_
     exact s_ret rfl (hr _ (Option.some.inj h).symm _ ⟨_,fin (vs:=[B (true)]) rfl (absE (absorb_plain rfl) (absEN)) rfl (ou_f (ou_f (ou_n))),kl_n⟩)
   · refine aq 1 ?_
     refine cq 6 [5] [I ((w64 (x3 + 1)))] 209 ?_
     refine s_lp ?_
     exact rf [0,1,5] [] (ih _ _ h hr hn :)
 · refine aq 1 ?_
   exact rf [] [] (hn _ (Option.some.inj h).symm :) (hk:=hK)
theorem Ffce_run (list_1 : List Str) (name_2 : Str) (r : Bool) (h : Ffce list_1 name_2=some r) : RunF Ffce_E Tryd.f99 [false,false] 0 (Ffce_A (list_1,name_2)) (Ffce_R r):=by
 show Run _ _ (Ffce_Q (list_1,name_2) r) [.code Ffce_c] _
 refine rin (n:=18) [(0,.isl false ((list_1).map str)),(1,str (name_2))] [] 1 (by kernel_rfl) (by kernel_rfl) (by kernel_rfl) rfl ?_
 unfold Ffce at h
 refine cq 10 [5] [I (0)] 33 ?_
 obtain ⟨y5,hy5,hy51,hy52⟩:=bJ h
 refine s_loop rfl ?_
 refine rf [0,1,5] [] (Ffce_la_run list_1 name_2 rfl 0 _ hy5 (fun r' e st hq=>by rw [hy51 r' e] at hq; exact hq) fun u5 hu=>?_)
 replace h:=hy52 u5 hu
 refine cq 4 [4] [B (false)] 17 ?_
 obtain rfl:=Option.some.inj h
 exact s_ret rfl ⟨_,fin (vs:=[B (false)]) rfl (absE (absorb_plain rfl) (absEN)) rfl (ou_f (ou_f (ou_n))),kl_n⟩
theorem Ffce_good {G : Go.Ln.Ground} : Good Tryd.prog G 99 Ffce_ent:=good_T (fnOf_good (gl_n)) agree_mk (Checked.mixed Tryd.checked) Tryd.func99 (n:=2) (m:=0) ⟨rfl,rfl,by decide⟩ (fun _=>⟨rfl,rfl⟩) (fun a r h=>Ffce_run a.1 a.2 r h)
def Ffcf_A : (Condition × (List Str) × Int)→List V:=cA encI_Condition1 (cA (slE str) (oA I))
def Ffcf_R (r : Bool) : V × List V:=(B (r),[])
noncomputable def Ffcf_entS (slf_Ffcf : (Condition × (List Str) × Int)→Option Bool) : Ent:=entT [false,false,false] Ffcf_A Ffcf_R slf_Ffcf
theorem Ffcf_FS (slf_Ffcf : (Condition × (List Str) × Int)→Option Bool) {x} {r} (h : slf_Ffcf x=some r) : (Ffcf_entS slf_Ffcf).F (Ffcf_A x)=some (Ffcf_R r):=entT_F (cA_inj encI_Condition1_inj (cA_inj (isl_inj str_inj) (oA_inj I_inj))) h
noncomputable def Ffcf_ent : Ent:=Ffcf_entS (fixO Ffcf_G)
theorem Ffcf_F {c_1 : Condition} {facts_2 : List Str} {day_3 : Int} {r} (h : Ffcf c_1 facts_2 day_3=some r) : Ffcf_ent.F (Ffcf_A (c_1,facts_2,day_3))=some (Ffcf_R r):=Ffcf_FS (fixO Ffcf_G) h
noncomputable def Ffcf_c : Code:=bodyOf Tryd.f57
noncomputable def Ffcf_E (slf_Ffcf : (Condition × (List Str) × Int)→Option Bool) : Env:=mkE Tryd.prog [(99,Ffce_ent),(57,(Ffcf_entS slf_Ffcf))]
def Ffcf_Q (slf_Ffcf : (Condition × (List Str) × Int)→Option Bool) (x : Condition × (List Str) × Int) (r : Bool) : St→Prop:=QF (Ffcf_E slf_Ffcf) Tryd.f57 [false,false,false] (Ffcf_A x) (Ffcf_R r)
theorem Ffcf_run (slf_Ffcf : (Condition × (List Str) × Int)→Option Bool) (c_1 : Condition) (facts_2 : List Str) (day_3 : Int) (r : Bool) (h : Ffcf_B slf_Ffcf c_1 facts_2 day_3=some r) : RunF (Ffcf_E slf_Ffcf) Tryd.f57 [false,false,false] 0 (Ffcf_A (c_1,facts_2,day_3)) (Ffcf_R r):=by
 show Run _ _ (Ffcf_Q slf_Ffcf (c_1,facts_2,day_3) r) [.code Ffcf_c] _
 refine rin (n:=67) [(0,.agg [I (c_1.Op),str (c_1.Name),I (c_1.Day),.isl false ((c_1.Parts).map encI_Condition)]),(1,.isl false ((facts_2).map str)),(2,I (day_3))] [] 1 (by kernel_rfl) (by kernel_rfl) (by kernel_rfl) rfl ?_
 unfold Ffcf_B at h
 refine ck 17 [3,8,9] [] [1] [] [.hp 1 0 [] 4 0 0,I (c_1.Op),B ((c_1.Op == 1))] [some ⟨0,4,[.agg [I (c_1.Op),str (c_1.Name),I (c_1.Day),.isl false ((c_1.Parts).map encI_Condition)]]⟩] 97 (by kernel_rfl) ?_
 refine sq h (fun h=>?_) (fun h=>?_)
 · refine cq 4 [6] [B (true)] 113 ?_
   obtain rfl:=Option.some.inj h
   exact s_ret rfl ⟨_,fin (vs:=[B (true)]) rfl (absE (absorb_plain rfl) (absEN)) rfl (ou_f (ou_f (ou_f (ou_n)))),kl_n⟩
 · refine cq 5 [11] [B ((c_1.Op == 2))] 129 ?_
   refine sq h (fun h=>?_) (fun h=>?_)
   · refine cq 5 [13,15] [.isl false ((facts_2).map str),str (c_1.Name)] 177 ?_
     obtain ⟨r4,hr4,h⟩:=bS h
     refine oq 193 (B (r4)) rfl (e_callV rfl rfl (call_P rfl rfl rfl (avS (shP rfl) (avS (shP rfl) (avN))) (Ffce_F hr4) (.inr rfl) (bl_n) rfl rfl rfl)) ?_
     refine cq 2 [6] [B (r4)] 209 ?_
     obtain rfl:=Option.some.inj h
     exact s_ret rfl ⟨_,fin (vs:=[B (r4)]) rfl (absE (absorb_plain rfl) (absEN)) rfl (ou_f (ou_f (ou_f (ou_n)))),kl_n⟩
   · refine cq 5 [17] [B ((c_1.Op == 3))] 161 ?_
     refine sq h (fun h=>?_) (fun h=>?_)
     · refine cq 8 [6] [B ((decide (day_3 ≥ c_1.Day)))] 241 ?_
       obtain rfl:=Option.some.inj h
       exact s_ret rfl ⟨_,fin (vs:=[B ((decide (day_3 ≥ c_1.Day)))]) rfl (absE (absorb_plain rfl) (absEN)) rfl (ou_f (ou_f (ou_f (ou_n)))),kl_n⟩
     · refine cq 5 [23] [B ((c_1.Op == 4))] 193 ?_
       refine sq h (fun h=>?_) (fun h=>?_)
       · refine cq 4 [26] [.isl false ((c_1.Parts).map encI_Condition)] 225 ?_
         obtain ⟨e5,he5,h⟩:=bS h
         refine oq 241 (.iptr (.agg [I (e5.Op),str (e5.Name),I (e5.Day),.isl false ((e5.Parts).map encI_Condition)]) 0) rfl (e_indexAddr rfl rfl rfl (ix_islE rfl rfl (encI_Condition_eq e5) rfl he5)) ?_
         refine cq 3 [28,29,30] [.agg [I (e5.Op),str (e5.Name),I (e5.Day),.isl false ((e5.Parts).map encI_Condition)],.isl false ((facts_2).map str),I (day_3)] 289 ?_
         obtain ⟨r6,hr6,h⟩:=bS h
         refine oq 305 (B (r6)) rfl (e_callV rfl rfl (call_P rfl rfl rfl (avS (shP rfl) (avS (shP rfl) (avS (shP rfl) (avN)))) (Ffcf_FS slf_Ffcf hr6) (.inr rfl) (bl_n) rfl rfl rfl)) ?_
         refine cq 3 [6] [B ((!r6))] 337 ?_
         obtain rfl:=Option.some.inj h
         exact s_ret rfl ⟨_,fin (vs:=[B ((!r6))]) rfl (absE (absorb_plain rfl) (absEN)) rfl (ou_f (ou_f (ou_f (ou_n)))),kl_n⟩
       · refine cq 5 [33] [B ((c_1.Op == 5))] 225 ?_
         refine sq h (fun h=>?_) (fun h=>?_)
         · refine cq 4 [36] [.isl false ((c_1.Parts).map encI_Condition)] 257 ?_
           obtain ⟨e7,he7,h⟩:=bS h
           refine oq 273 (.iptr (.agg [I (e7.Op),str (e7.Name),I (e7.Day),.isl false ((e7.Parts).map encI_Condition)]) 0) rfl (e_indexAddr rfl rfl rfl (ix_islE rfl rfl (encI_Condition_eq e7) rfl he7)) ?_
           refine cq 3 [38,39,40] [.agg [I (e7.Op),str (e7.Name),I (e7.Day),.isl false ((e7.Parts).map encI_Condition)],.isl false ((facts_2).map str),I (day_3)] 321 ?_
           obtain ⟨r8,hr8,h⟩:=bS h
           refine oq 337 (B (r8)) rfl (e_callV rfl rfl (call_P rfl rfl rfl (avS (shP rfl) (avS (shP rfl) (avS (shP rfl) (avN)))) (Ffcf_FS slf_Ffcf hr8) (.inr rfl) (bl_n) rfl rfl rfl)) ?_
           refine cq 1 [42] [B (r8)] 353 ?_
           obtain ⟨y9,hy9,hy91,hy92⟩:=bJ h
           have j9 : ∀ u9,y9=.inr u9→Run (Ffcf_E slf_Ffcf) 0 (Ffcf_Q slf_Ffcf (c_1,facts_2,day_3) r) (.code (cR (cL (cR (cR (cR (cR (cR (cR (cR (cR (cR (cL (cR (cL (cR Ffcf_c))))))))))))))) :: .blk 0 :: .code (cR (cR Ffcf_c)) :: []) (sT 67 [(6,B (u9))] [] 1):=by
             intro u9 hu
             replace h:=hy92 u9 hu
             obtain rfl:=Option.some.inj h
             exact s_ret rfl ⟨_,fin (vs:=[B (u9)]) rfl (absE (absorb_plain rfl) (absEN)) rfl (ou_f (ou_f (ou_f (ou_n)))),kl_n⟩
           have r9 : ∀ r',y9=.inl r'→∀ st,Ffcf_Q slf_Ffcf (c_1,facts_2,day_3) r' st→(Ffcf_Q slf_Ffcf (c_1,facts_2,day_3) r) st:=fun r' e st hq=>by rw [hy91 r' e] at hq; exact hq
           replace h:=hy9
           refine sp 42 h rfl (fun h=>?_) (fun h=>?_)
           · refine cq 2 [44] [.isl false ((c_1.Parts).map encI_Condition)] 385 ?_
             obtain ⟨e10,he10,h⟩:=bS h
             refine oy 401 (.iptr (.agg [I (e10.Op),str (e10.Name),I (e10.Day),.isl false ((e10.Parts).map encI_Condition)]) 0) rfl (e_indexAddr rfl rfl rfl (ix_islE rfl rfl (encI_Condition_eq e10) rfl he10)) ?_
             refine cq 3 [46,47,48] [.agg [I (e10.Op),str (e10.Name),I (e10.Day),.isl false ((e10.Parts).map encI_Condition)],.isl false ((facts_2).map str),I (day_3)] 449 ?_
             obtain ⟨r11,hr11,h⟩:=bS h
             refine oy 465 (B (r11)) rfl (e_callV rfl rfl (call_P rfl rfl rfl (avS (shP rfl) (avS (shP rfl) (avS (shP rfl) (avN)))) (Ffcf_FS slf_Ffcf hr11) (.inr rfl) (bl_n) rfl rfl rfl)) ?_
             refine cq 3 [6] [B (r11)] 497 ?_
             exact rf [6] [] (j9 _ (Option.some.inj h).symm :)
           · refine cq 10 [6] [B (false)] 497 ?_
             exact rf [6] [] (j9 _ (Option.some.inj h).symm :)
         · refine aq 1 ?_
           refine cq 5 [52] [.isl false ((c_1.Parts).map encI_Condition)] 257 ?_
           obtain ⟨e12,he12,h⟩:=bS h
           refine oq 273 (.iptr (.agg [I (e12.Op),str (e12.Name),I (e12.Day),.isl false ((e12.Parts).map encI_Condition)]) 0) rfl (e_indexAddr rfl rfl rfl (ix_islE rfl rfl (encI_Condition_eq e12) rfl he12)) ?_
           refine cq 3 [54,55,56] [.agg [I (e12.Op),str (e12.Name),I (e12.Day),.isl false ((e12.Parts).map encI_Condition)],.isl false ((facts_2).map str),I (day_3)] 321 ?_
           obtain ⟨r13,hr13,h⟩:=bS h
           refine oq 337 (B (r13)) rfl (e_callV rfl rfl (call_P rfl rfl rfl (avS (shP rfl) (avS (shP rfl) (avS (shP rfl) (avN)))) (Ffcf_FS slf_Ffcf hr13) (.inr rfl) (bl_n) rfl rfl rfl)) ?_
           refine cq 1 [58] [B (r13)] 353 ?_
           obtain ⟨y14,hy14,hy141,hy142⟩:=bJ h
           have j14 : ∀ u14,y14=.inr u14→Run (Ffcf_E slf_Ffcf) 0 (Ffcf_Q slf_Ffcf (c_1,facts_2,day_3) r) (.code (cR (cR (cR Ffcf_c))) :: []) (sT 67 [(6,B (u14))] [] 1):=by
             intro u14 hu
             replace h:=hy142 u14 hu
             obtain rfl:=Option.some.inj h
             exact s_ret rfl ⟨_,fin (vs:=[B (u14)]) rfl (absE (absorb_plain rfl) (absEN)) rfl (ou_f (ou_f (ou_f (ou_n)))),kl_n⟩
           have r14 : ∀ r',y14=.inl r'→∀ st,Ffcf_Q slf_Ffcf (c_1,facts_2,day_3) r' st→(Ffcf_Q slf_Ffcf (c_1,facts_2,day_3) r) st:=fun r' e st hq=>by rw [hy141 r' e] at hq; exact hq
           replace h:=hy14
           refine sp 58 h rfl (fun h=>?_) (fun h=>?_)
           · refine cq 10 [6] [B (true)] 497 ?_
             exact rf [6] [] (j14 _ (Option.some.inj h).symm :)
           · refine cq 2 [60] [.isl false ((c_1.Parts).map encI_Condition)] 385 ?_
             obtain ⟨e15,he15,h⟩:=bS h
             refine oy 401 (.iptr (.agg [I (e15.Op),str (e15.Name),I (e15.Day),.isl false ((e15.Parts).map encI_Condition)]) 0) rfl (e_indexAddr rfl rfl rfl (ix_islE rfl rfl (encI_Condition_eq e15) rfl he15)) ?_
             refine cq 3 [62,63,64] [.agg [I (e15.Op),str (e15.Name),I (e15.Day),.isl false ((e15.Parts).map encI_Condition)],.isl false ((facts_2).map str),I (day_3)] 449 ?_
             obtain ⟨r16,hr16,h⟩:=bS h
             refine oy 465 (B (r16)) rfl (e_callV rfl rfl (call_P rfl rfl rfl (avS (shP rfl) (avS (shP rfl) (avS (shP rfl) (avN)))) (Ffcf_FS slf_Ffcf hr16) (.inr rfl) (bl_n) rfl rfl rfl)) ?_
             refine cq 3 [6] [B (r16)] 497 ?_
             exact rf [6] [] (j14 _ (Option.some.inj h).symm :)
theorem Ffcf_good {G : Go.Ln.Ground} : Good Tryd.prog G 57 Ffcf_ent:=good_rec fun slf_Ffcf g_Ffcf=>good_T (fnOf_good (gl_c Ffce_good (gl_c g_Ffcf (gl_n)))) agree_mk (Checked.mixed Tryd.checked) Tryd.func57 (n:=3) (m:=0) ⟨rfl,rfl,by decide⟩ (fun _=>⟨rfl,rfl⟩) (fun a r h=>Ffcf_run slf_Ffcf a.1 a.2.1 a.2.2 r h)
def Ffcg_A : (Condition × Condition)→List V:=cA encI_Condition1 (oA encI_Condition1)
def Ffcg_R (r : Bool) : V × List V:=(B (r),[])
noncomputable def Ffcg_ent : Ent:=entT [false,false] Ffcg_A Ffcg_R fun x=>Ffcg x.1 x.2
theorem Ffcg_F {a_1 : Condition} {b_2 : Condition} {r} (h : Ffcg a_1 b_2=some r) : (Ffcg_ent).F (Ffcg_A (a_1,b_2))=some (Ffcg_R r):=entT_F (cA_inj encI_Condition1_inj (oA_inj encI_Condition1_inj)) h
noncomputable def Ffcg_c : Code:=bodyOf Tryd.f52
noncomputable abbrev Ffcg_ka : Code:=cL (cL (cR (cR (cL (cL (cR (cL (cL (cR (cL (cR (cR (cR Ffcg_c)))))))))))))
noncomputable def Ffcg_E : Env:=mkE Tryd.prog [(51,Ffci_ent),(94,Ffca_ent),(93,Ffby_ent),(95,Ffcm_ent),(57,Ffcf_ent)]
def Ffcg_Q (x : Condition × Condition) (r : Bool) : St→Prop:=QF Ffcg_E Tryd.f52 [false,false] (Ffcg_A x) (Ffcg_R r)
theorem Ffcg_lb_run (a_1 : Condition) (b_2 : Condition) (r7 : (List Int)) (r10 : (List Str)) (r4 : (List Str)) (x8 : Int) {Q : St→Prop} {K : List It} (hK : noD K=true) : ∀ (x11 : Int) (y : Bool ⊕ Unit),Ffcg_lb a_1 b_2 r7 r10 r4 x8 x11=some y→(∀ r',y=.inl r'→∀ st,Ffcg_Q (a_1,b_2) r' st→Q st)→(∀ u : Unit,y=.inr u→Run Ffcg_E 0 Q K (sT 55 [(2,.hp 1 0 [] 4 0 0),(3,.hp 2 0 [] 4 0 0),(5,.hs 3 0 [] 1 0 ((r4).map str).length),(6,.hs 4 0 [] 1 0 ((r7).map I).length),(7,I (x8))] [⟨0,4,[.agg [I (a_1.Op),str (a_1.Name),I (a_1.Day),.isl false ((a_1.Parts).map encI_Condition)]]⟩,⟨0,4,[.agg [I (b_2.Op),str (b_2.Name),I (b_2.Day),.isl false ((b_2.Parts).map encI_Condition)]]⟩,⟨0,1,(r4).map str⟩,⟨0,1,(r7).map I⟩] 5))→Run Ffcg_E 0 Q (.code Ffcg_ka :: .lp Ffcg_ka :: .blk 2 :: K) (sT 55 [(2,.hp 1 0 [] 4 0 0),(3,.hp 2 0 [] 4 0 0),(5,.hs 3 0 [] 1 0 ((r4).map str).length),(6,.hs 4 0 [] 1 0 ((r7).map I).length),(7,I (x8)),(8,.hs 5 0 [] 1 0 ((r10).map str).length),(9,I (x11))] [⟨0,4,[.agg [I (a_1.Op),str (a_1.Name),I (a_1.Day),.isl false ((a_1.Parts).map encI_Condition)]]⟩,⟨0,4,[.agg [I (b_2.Op),str (b_2.Name),I (b_2.Day),.isl false ((b_2.Parts).map encI_Condition)]]⟩,⟨0,1,(r4).map str⟩,⟨0,1,(r7).map I⟩,⟨0,1,(r10).map str⟩] 6):=by
 refine fix_indP (Ffcg_lb_fin a_1 b_2 r7 r10 r4 x8) ?_
 intro self ih x11 y h hr hn
 unfold Ffcg_lb_F at h
 refine cq 5 [32,33] [I (x11),.hs 4 0 [] 1 0 ((r7).map I).length] 38 ?_
 refine oq 54 (I ((len r7))) rfl (e_len rfl rfl rfl (l_hsM (f:=I) (xs:=r7) rfl rfl)) ?_
 refine cq 2 [35] [B ((decide (x11 < (len r7))))] 70 ?_
 refine sq h (fun h=>?_) (fun h=>?_)
 · refine aq 1 ?_
   refine aq 3 ?_
   refine s_draw [0,0,0,0,12,28,63,127,255,255,255,255,3327,7423,16383,32767,65535] rfl (by decide +kernel) ?_
   refine dq [1] [] (.agg [I (a_1.Op),str (a_1.Name),I (a_1.Day),.isl false ((a_1.Parts).map encI_Condition)]) rfl (e_ld rfl rfl) ?_
   refine dk 3 [41,40,39] [I (x11),.hs 4 0 [] 1 0 ((r7).map I).length,.hs 5 0 [] 1 0 ((r10).map str).length] ?_
   obtain ⟨e12,he12,h⟩:=bS h
   refine dq [4] [] (.hp 4 0 [] 1 (0 + Int.toNat (x11)) 0) rfl (e_indexAddr rfl rfl rfl (ix_hsM (f:=I) (xs:=r7) rfl rfl rfl he12)) ?_
   refine dq [4] [] (I (e12)) rfl (e_ld rfl (ld_at (path:=[]) rfl rfl rfl (ra_n) (get_map (f:=I) (xs:=r7) he12) rfl rfl rfl)) ?_
   obtain ⟨r13,hr13,h⟩:=bS h
   refine dq [5] [] (B (r13)) rfl (e_callV rfl rfl (call_P rfl rfl rfl (avS (shP rfl) (avS (sh1 rfl rfl (sh_hsM (f:=str) (g:=str) (xs:=r10) rfl rfl (imms_of str_imm))) (avS (shP rfl) (avN)))) (Ffcf_F hr13) (.inl (rfl)) (bl_n) rfl rfl rfl)) ?_ (w_callO rfl rfl rfl rfl (avS (shP rfl) (avS (sh1 rfl rfl (sh_hsM (f:=str) (g:=str) (xs:=r10) rfl rfl (imms_of str_imm))) (avS (shP rfl) (avN)))) (Ffcf_F hr13) (.inl (rfl)) rfl)
   refine dk 1 [45] [B (r13)] ?_
   obtain ⟨y14,hy14,hy141,hy142⟩:=bL h
   have j14 : ∀ u14,y14=.inr u14→Run Ffcg_E 0 Q (.code (cR (cL (cL (cR Ffcg_ka)))) :: .blk 3 :: .code (cR (cR Ffcg_ka)) :: .lp Ffcg_ka :: .blk 2 :: K) (sT 55 [(2,.hp 1 0 [] 4 0 0),(3,.hp 2 0 [] 4 0 0),(5,.hs 3 0 [] 1 0 ((r4).map str).length),(6,.hs 4 0 [] 1 0 ((r7).map I).length),(7,I (x8)),(8,.hs 5 0 [] 1 0 ((r10).map str).length),(9,I (x11)),(54,B (u14))] [⟨0,4,[.agg [I (a_1.Op),str (a_1.Name),I (a_1.Day),.isl false ((a_1.Parts).map encI_Condition)]]⟩,⟨0,4,[.agg [I (b_2.Op),str (b_2.Name),I (b_2.Day),.isl false ((b_2.Parts).map encI_Condition)]]⟩,⟨0,1,(r4).map str⟩,⟨0,1,(r7).map I⟩,⟨0,1,(r10).map str⟩] 6):=by
     intro u14 hu
     replace h:=hy142 u14 hu
     refine sq h (fun h=>?_) (fun h=>?_)
     · refine cq 4 [4] [B (false)] 22 ?_
       exact s_ret rfl (hr _ (Option.some.inj h).symm _ ⟨_,fin (vs:=[B (false)]) rfl (absE (absorb_plain rfl) (absEN)) rfl (ou_f (ou_f (ou_n))),kl_n⟩)
     · refine aq 1 ?_
       refine cq 6 [9] [I ((w64 (x11 + 1)))] 54 ?_
       refine s_lp ?_
       exact rf [2,3,5,6,7,8,9] [1,2,3,4,5] (ih _ _ h hr hn :)
   have r14 : ∀ r',y14=.inl r'→∀ st,Ffcg_Q (a_1,b_2) r' st→Q st:=fun r' e st hq=>hr r' (hy141 r' e) st hq
   replace h:=hy14
   refine sp 45 h rfl (fun h=>?_) (fun h=>?_)
   · refine dy [2] [] (.agg [I (b_2.Op),str (b_2.Name),I (b_2.Day),.isl false ((b_2.Parts).map encI_Condition)]) rfl (e_ld rfl rfl) ?_
     refine dk 3 [49,48,47] [I (x11),.hs 4 0 [] 1 0 ((r7).map I).length,.hs 5 0 [] 1 0 ((r10).map str).length] ?_
     obtain ⟨e15,he15,h⟩:=bS h
     refine dy [4] [] (.hp 4 0 [] 1 (0 + Int.toNat (x11)) 0) rfl (e_indexAddr rfl rfl rfl (ix_hsM (f:=I) (xs:=r7) rfl rfl rfl he15)) ?_
     refine dy [4] [] (I (e15)) rfl (e_ld rfl (ld_at (path:=[]) rfl rfl rfl (ra_n) (get_map (f:=I) (xs:=r7) he15) rfl rfl rfl)) ?_
     obtain ⟨r16,hr16,h⟩:=bS h
     refine dy [5] [] (B (r16)) rfl (e_callV rfl rfl (call_P rfl rfl rfl (avS (shP rfl) (avS (sh1 rfl rfl (sh_hsM (f:=str) (g:=str) (xs:=r10) rfl rfl (imms_of str_imm))) (avS (shP rfl) (avN)))) (Ffcf_F hr16) (.inl (rfl)) (bl_n) rfl rfl rfl)) ?_ (w_callO rfl rfl rfl rfl (avS (shP rfl) (avS (sh1 rfl rfl (sh_hsM (f:=str) (g:=str) (xs:=r10) rfl rfl (imms_of str_imm))) (avS (shP rfl) (avN)))) (Ffcf_F hr16) (.inl (rfl)) rfl)
     refine dk 2 [54,53] [B ((!r16)),B ((!r16))] ?_
     refine de 342 rfl rfl ?_
     exact rf [2,3,5,6,7,8,9,54] [1,2,3,4,5] (j14 _ (Option.some.inj h).symm :)
   · refine dk 9 [54,53,52,51,50,49,48,47,46] [B (false),.und,.und,.und,.und,.und,.und,.und,.und] ?_
     refine de 342 rfl rfl ?_
     exact rf [2,3,5,6,7,8,9,54] [1,2,3,4,5] (j14 _ (Option.some.inj h).symm :)
 · refine aq 1 ?_
   exact rf [2,3,5,6,7] [1,2,3,4] (hn _ (Option.some.inj h).symm :) (hk:=hK)
theorem Ffcg_la_run (a_1 : Condition) (b_2 : Condition) (r4 : (List Str)) (r7 : (List Int)) {Q : St→Prop} {K : List It} (hK : noD K=true) : ∀ (x8 : Int) (y : Bool ⊕ Unit),Ffcg_la a_1 b_2 r4 r7 x8=some y→(∀ r',y=.inl r'→∀ st,Ffcg_Q (a_1,b_2) r' st→Q st)→(∀ u : Unit,y=.inr u→Run Ffcg_E 0 Q K (sT 55 [] [] 1))→Run Ffcg_E 0 Q (.code (cL (cL (cR (cL (cR (cR (cR Ffcg_c))))))) :: .lp (cL (cL (cR (cL (cR (cR (cR Ffcg_c))))))) :: .blk 0 :: K) (sT 55 [(2,.hp 1 0 [] 4 0 0),(3,.hp 2 0 [] 4 0 0),(5,.hs 3 0 [] 1 0 ((r4).map str).length),(6,.hs 4 0 [] 1 0 ((r7).map I).length),(7,I (x8))] [⟨0,4,[.agg [I (a_1.Op),str (a_1.Name),I (a_1.Day),.isl false ((a_1.Parts).map encI_Condition)]]⟩,⟨0,4,[.agg [I (b_2.Op),str (b_2.Name),I (b_2.Day),.isl false ((b_2.Parts).map encI_Condition)]]⟩,⟨0,1,(r4).map str⟩,⟨0,1,(r7).map I⟩] 5):=by
 refine fix_indP (Ffcg_la_fin a_1 b_2 r4 r7) ?_
 intro self ih x8 y h hr hn
 unfold Ffcg_la_F at h
 refine cq 5 [21,22] [I (x8),.hs 3 0 [] 1 0 ((r4).map str).length] 37 ?_
 refine oq 53 (I ((len r4))) rfl (e_len rfl rfl rfl (l_hsM (f:=str) (xs:=r4) rfl rfl)) ?_
 refine cq 1 [24] [.int .u64 ((IntKind.u64.wrap (len r4)))] 69 ?_
 obtain ⟨q9,hq9,h⟩:=bS h
 refine oq 85 (I (q9)) rfl (e_bin rfl rfl (b_shl hq9)) ?_
 refine cq 2 [26] [B ((decide (x8 < q9)))] 101 ?_
 refine sq h (fun h=>?_) (fun h=>?_)
 · refine aq 1 ?_
   refine cq 6 [29,30] [.hs 3 0 [] 1 0 ((r4).map str).length,I (x8)] 133 ?_
   obtain ⟨r10,hr10,h⟩:=bS h
   refine oq 149 (.hs 133 0 [] 1 0 ((r10).map str).length) rfl (e_callV rfl rfl (call_P rfl rfl rfl (avS (sh1 rfl rfl (sh_hsM (f:=str) (g:=str) (xs:=r4) rfl rfl (imms_of str_imm))) (avS (shP rfl) (avN))) (Ffcm_F hr10) (.inl (by simp [hasImm,hasImms,str,himm_map (f:=str) str_himm])) (bl_n) rfl rfl rfl)) ?_
   refine cq 7 [8,9] [.hs 133 0 [] 1 0 ((r10).map str).length,I (0)] 181 ?_
   obtain ⟨y17,hy17,hy171,hy172⟩:=bL h
   refine s_loop rfl ?_
   refine rf [2,3,5,6,7,8,9] [1,2,3,4,133] (Ffcg_lb_run a_1 b_2 r7 r10 r4 x8 rfl 0 _ hy17 (fun r' e st hq=>hr r' (hy171 r' e) st hq) fun u17 hu=>?_)
   replace h:=hy172 u17 hu
   refine cq 6 [7] [I ((w64 (x8 + 1)))] 53 ?_
   refine s_lp ?_
   exact rf [2,3,5,6,7] [1,2,3,4] (ih _ _ h hr hn :)
 · refine aq 1 ?_
   exact rf [] [] (hn _ (Option.some.inj h).symm :) (hk:=hK)
theorem Ffcg_run (a_1 : Condition) (b_2 : Condition) (r : Bool) (h : Ffcg a_1 b_2=some r) : RunF Ffcg_E Tryd.f52 [false,false] 0 (Ffcg_A (a_1,b_2)) (Ffcg_R r):=by
 show Run _ _ (Ffcg_Q (a_1,b_2) r) [.code Ffcg_c] _
 refine rin (n:=55) [(0,.agg [I (a_1.Op),str (a_1.Name),I (a_1.Day),.isl false ((a_1.Parts).map encI_Condition)]),(1,.agg [I (b_2.Op),str (b_2.Name),I (b_2.Day),.isl false ((b_2.Parts).map encI_Condition)])] [] 1 (by kernel_rfl) (by kernel_rfl) (by kernel_rfl) rfl ?_
 unfold Ffcg at h
 refine ck 7 [2,3] [] [1,17] [] [.hp 1 0 [] 4 0 0,.hp 17 0 [] 4 0 0] [some ⟨0,4,[.agg [I (a_1.Op),str (a_1.Name),I (a_1.Day),.isl false ((a_1.Parts).map encI_Condition)]]⟩,some ⟨0,4,[.agg [I (b_2.Op),str (b_2.Name),I (b_2.Day),.isl false ((b_2.Parts).map encI_Condition)]]⟩] 49 (by kernel_rfl) ?_
 refine s_draw [0,0,3,0,15,31] rfl (by decide +kernel) ?_
 refine dq [] [] (.hs 49 0 [] 1 0 0) rfl (e_buildSlice rfl (bs_mk (f:=I) (xs:=[]) (z:=str ([])) (es:=[]) (ws:=[]) rfl rfl rfl (by decide) rfl (abs_each_plain rfl) rfl)) ?_
 refine dq [1] [] (.agg [I (a_1.Op),str (a_1.Name),I (a_1.Day),.isl false ((a_1.Parts).map encI_Condition)]) rfl (e_ld rfl rfl) ?_
 obtain ⟨r3,hr3,h⟩:=bS h
 refine dq [49] [49] (.hs 81 0 [] 1 0 ((r3).map str).length) rfl (e_callV rfl rfl (call_P rfl rfl rfl (avO (hd1 rfl (hd_hs (path:=[]) (m:=0) (es2:=[]) rfl rfl (ra_n) rfl)) (avS (shP rfl) (avN))) (Ffci_F hr3) (.inr rfl) (bl_c rfl rfl rfl bk_dead (bl_n)) rfl rfl rfl)) ?_ (w_callO rfl rfl rfl rfl (avO (hd1 rfl (hd_hs (path:=[]) (m:=0) (es2:=[]) rfl rfl (ra_n) rfl)) (avS (shP rfl) (avN))) (Ffci_F hr3) (.inr rfl) rfl)
 refine dq [17] [] (.agg [I (b_2.Op),str (b_2.Name),I (b_2.Day),.isl false ((b_2.Parts).map encI_Condition)]) rfl (e_ld rfl rfl) ?_
 obtain ⟨r4,hr4,h⟩:=bS h
 refine dq [81] [81] (.hs 113 0 [] 1 0 ((r4).map str).length) rfl (e_callV rfl rfl (call_P rfl rfl rfl (avO (hd1 rfl (hd_hs (path:=[]) rfl rfl (ra_n) rfl)) (avS (shP rfl) (avN))) (Ffci_F hr4) (.inr rfl) (bl_c rfl rfl rfl bk_dead (bl_n)) rfl rfl rfl)) ?_ (w_callO rfl rfl rfl rfl (avO (hd1 rfl (hd_hs (path:=[]) rfl rfl (ra_n) rfl)) (avS (shP rfl) (avN))) (Ffci_F hr4) (.inr rfl) rfl)
 refine dk 1 [5] [.hs 113 0 [] 1 0 ((r4).map str).length] ?_
 refine de 145 rfl rfl ?_
 refine aq 1 ?_
 refine s_draw [0,0,3,0,15,31,63] rfl (by decide +kernel) ?_
 refine dq [] [] (.hs 145 0 [] 1 0 0) rfl (e_buildSlice rfl (bs_mk (f:=I) (xs:=[]) (z:=I (0)) (es:=[]) (ws:=[]) rfl rfl rfl (by decide) rfl (abs_each_plain rfl) rfl)) ?_
 refine dq [1] [] (.agg [I (a_1.Op),str (a_1.Name),I (a_1.Day),.isl false ((a_1.Parts).map encI_Condition)]) rfl (e_ld rfl rfl) ?_
 obtain ⟨r5,hr5,h⟩:=bS h
 refine dq [145] [145] (.hs 177 0 [] 1 0 ((r5).map I).length) rfl (e_callV rfl rfl (call_P rfl rfl rfl (avO (hd1 rfl (hd_hs (path:=[]) (m:=0) (es2:=[]) rfl rfl (ra_n) rfl)) (avS (shP rfl) (avN))) (Ffca_F hr5) (.inr rfl) (bl_c rfl rfl rfl bk_dead (bl_n)) rfl rfl rfl)) ?_ (w_callO rfl rfl rfl rfl (avO (hd1 rfl (hd_hs (path:=[]) (m:=0) (es2:=[]) rfl rfl (ra_n) rfl)) (avS (shP rfl) (avN))) (Ffca_F hr5) (.inr rfl) rfl)
 refine dq [17] [] (.agg [I (b_2.Op),str (b_2.Name),I (b_2.Day),.isl false ((b_2.Parts).map encI_Condition)]) rfl (e_ld rfl rfl) ?_
 obtain ⟨r6,hr6,h⟩:=bS h
 refine dq [177] [177] (.hs 209 0 [] 1 0 ((r6).map I).length) rfl (e_callV rfl rfl (call_P rfl rfl rfl (avO (hd1 rfl (hd_hs (path:=[]) rfl rfl (ra_n) rfl)) (avS (shP rfl) (avN))) (Ffca_F hr6) (.inr rfl) (bl_c rfl rfl rfl bk_dead (bl_n)) rfl rfl rfl)) ?_ (w_callO rfl rfl rfl rfl (avO (hd1 rfl (hd_hs (path:=[]) rfl rfl (ra_n) rfl)) (avS (shP rfl) (avN))) (Ffca_F hr6) (.inr rfl) rfl)
 obtain ⟨r7,hr7,h⟩:=bS h
 refine dq [209] [209] (.hs 225 0 [] 1 0 ((r7).map I).length) rfl (e_callV rfl rfl (call_P rfl rfl rfl (avO (hd1 rfl (hd_hs (path:=[]) rfl rfl (ra_n) rfl)) (avS (shP rfl) (avN))) (Ffby_F hr7) (.inr rfl) (bl_c rfl rfl rfl bk_dead (bl_n)) rfl rfl rfl)) ?_ (w_callO rfl rfl rfl rfl (avO (hd1 rfl (hd_hs (path:=[]) rfl rfl (ra_n) rfl)) (avS (shP rfl) (avN))) (Ffby_F hr7) (.inr rfl) rfl)
 refine dk 1 [6] [.hs 225 0 [] 1 0 ((r7).map I).length] ?_
 refine de 257 rfl rfl ?_
 refine cq 6 [7] [I (0)] 273 ?_
 obtain ⟨y18,hy18,hy181,hy182⟩:=bJ h
 refine s_loop rfl ?_
 refine rf [2,3,5,6,7] [1,17,113,225] (Ffcg_la_run a_1 b_2 r4 r7 rfl 0 _ hy18 (fun r' e st hq=>by rw [hy181 r' e] at hq; exact hq) fun u18 hu=>?_)
 replace h:=hy182 u18 hu
 refine cq 4 [4] [B (true)] 17 ?_
 obtain rfl:=Option.some.inj h
 exact s_ret rfl ⟨_,fin (vs:=[B (true)]) rfl (absE (absorb_plain rfl) (absEN)) rfl (ou_f (ou_f (ou_n))),kl_n⟩
theorem Ffcg_good {G : Go.Ln.Ground} : Good Tryd.prog G 52 Ffcg_ent:=good_T (fnOf_good (gl_c Ffci_good (gl_c Ffca_good (gl_c Ffby_good (gl_c Ffcm_good (gl_c Ffcf_good (gl_n))))))) agree_mk (Checked.mixed Tryd.checked) Tryd.func52 (n:=2) (m:=0) ⟨rfl,rfl,by decide⟩ (fun _=>⟨rfl,rfl⟩) (fun a r h=>Ffcg_run a.1 a.2 r h)
def Ffbx_A : (Condition × Condition)→List V:=cA encI_Condition1 (oA encI_Condition1)
def Ffbx_R (r : Bool) : V × List V:=(B (r),[])
noncomputable def Ffbx_ent : Ent:=entT [false,false] Ffbx_A Ffbx_R fun x=>Ffbx x.1 x.2
theorem Ffbx_F {a_1 : Condition} {b_2 : Condition} {r} (h : Ffbx a_1 b_2=some r) : (Ffbx_ent).F (Ffbx_A (a_1,b_2))=some (Ffbx_R r):=entT_F (cA_inj encI_Condition1_inj (oA_inj encI_Condition1_inj)) h
noncomputable def Ffbx_c : Code:=bodyOf Tryd.f38
noncomputable def Ffbx_E : Env:=mkE Tryd.prog [(52,Ffcg_ent)]
def Ffbx_Q (x : Condition × Condition) (r : Bool) : St→Prop:=QF Ffbx_E Tryd.f38 [false,false] (Ffbx_A x) (Ffbx_R r)
theorem Ffbx_run (a_1 : Condition) (b_2 : Condition) (r : Bool) (h : Ffbx a_1 b_2=some r) : RunF Ffbx_E Tryd.f38 [false,false] 0 (Ffbx_A (a_1,b_2)) (Ffbx_R r):=by
 show Run _ _ (Ffbx_Q (a_1,b_2) r) [.code Ffbx_c] _
 refine rin (n:=11) [(0,.agg [I (a_1.Op),str (a_1.Name),I (a_1.Day),.isl false ((a_1.Parts).map encI_Condition)]),(1,.agg [I (b_2.Op),str (b_2.Name),I (b_2.Day),.isl false ((b_2.Parts).map encI_Condition)])] [] 1 (by kernel_rfl) (by kernel_rfl) (by kernel_rfl) rfl ?_
 unfold Ffbx at h
 refine cq 10 [5,6] [.agg [I (a_1.Op),str (a_1.Name),I (a_1.Day),.isl false ((a_1.Parts).map encI_Condition)],.agg [I (b_2.Op),str (b_2.Name),I (b_2.Day),.isl false ((b_2.Parts).map encI_Condition)]] 81 ?_
 refine oq 97 (.hs 81 0 [] 4 0 1) rfl (e_buildSlice rfl (bs_mk (f:=I) (xs:=[]) (z:=.agg [I (0),str ([]),I (0),.isl true []]) (es:=[.agg [I (b_2.Op),str (b_2.Name),I (b_2.Day),.isl false ((b_2.Parts).map encI_Condition)]]) (ws:=[.agg [I (b_2.Op),str (b_2.Name),I (b_2.Day),.isl false ((b_2.Parts).map encI_Condition)]]) rfl rfl rfl (by decide) rfl (abs_each_plain rfl) rfl)) ?_
 refine cq 1 [8] [.agg [I (4),str ([]),I (0),.hs 81 0 [] 4 0 1]] 113 ?_
 obtain ⟨r3,hr3,h⟩:=bS h
 refine oq 129 (B (r3)) rfl (e_callV rfl rfl (call_P rfl rfl rfl (avS (shP rfl) (avS (shA (shC (sh_p rfl) (shC (sh_p rfl) (shC (sh_p rfl) (shC (sh_hsL (g:=encI_Condition) (xs:=[b_2]) (es:=[.agg [I (b_2.Op),str (b_2.Name),I (b_2.Day),.isl false ((b_2.Parts).map encI_Condition)]]) rfl rfl (imms_c ((encI_Condition_eq b_2).symm) (rfl))) (shN)))))) (avN))) (Ffcg_F hr3) (.inl (rfl)) (bl_n) rfl rfl rfl)) ?_
 refine cq 3 [4] [B ((!r3))] 161 ?_
 obtain rfl:=Option.some.inj h
 exact s_ret rfl ⟨_,fin (vs:=[B ((!r3))]) rfl (absE (absorb_plain rfl) (absEN)) rfl (ou_f (ou_f (ou_n))),kl_n⟩
theorem Ffbx_good {G : Go.Ln.Ground} : Good Tryd.prog G 38 Ffbx_ent:=good_T (fnOf_good (gl_c Ffcg_good (gl_n))) agree_mk (Checked.mixed Tryd.checked) Tryd.func38 (n:=2) (m:=0) ⟨rfl,rfl,by decide⟩ (fun _=>⟨rfl,rfl⟩) (fun a r h=>Ffbx_run a.1 a.2 r h)
def Ffbv_A : (Condition × Condition)→List V:=cA encI_Condition1 (oA encI_Condition1)
def Ffbv_R (r : Bool × Bool) : V × List V:=(.tup [B (r.1),B (r.2)],[])
noncomputable def Ffbv_ent : Ent:=entT [false,false] Ffbv_A Ffbv_R fun x=>Ffbv x.1 x.2
theorem Ffbv_F {a_1 : Condition} {b_2 : Condition} {r} (h : Ffbv a_1 b_2=some r) : (Ffbv_ent).F (Ffbv_A (a_1,b_2))=some (Ffbv_R r):=entT_F (cA_inj encI_Condition1_inj (oA_inj encI_Condition1_inj)) h
noncomputable def Ffbv_c : Code:=bodyOf Tryd.f9
noncomputable def Ffbv_E : Env:=mkE Tryd.prog [(36,Ffcd_ent),(38,Ffbx_ent),(37,Ffbw_ent)]
def Ffbv_Q (x : Condition × Condition) (r : Bool × Bool) : St→Prop:=QF Ffbv_E Tryd.f9 [false,false] (Ffbv_A x) (Ffbv_R r)
theorem Ffbv_run (a_1 : Condition) (b_2 : Condition) (r : Bool × Bool) (h : Ffbv a_1 b_2=some r) : RunF Ffbv_E Tryd.f9 [false,false] 0 (Ffbv_A (a_1,b_2)) (Ffbv_R r):=by
 show Run _ _ (Ffbv_Q (a_1,b_2) r) [.code Ffbv_c] _
 refine rin (n:=23) [(0,.agg [I (a_1.Op),str (a_1.Name),I (a_1.Day),.isl false ((a_1.Parts).map encI_Condition)]),(1,.agg [I (b_2.Op),str (b_2.Name),I (b_2.Day),.isl false ((b_2.Parts).map encI_Condition)])] [] 1 (by kernel_rfl) (by kernel_rfl) (by kernel_rfl) rfl ?_
 unfold Ffbv at h
 refine ck 11 [2,3,6] [] [1,17] [] [.hp 1 0 [] 4 0 0,.hp 17 0 [] 4 0 0,.agg [I (a_1.Op),str (a_1.Name),I (a_1.Day),.isl false ((a_1.Parts).map encI_Condition)]] [some ⟨0,4,[.agg [I (a_1.Op),str (a_1.Name),I (a_1.Day),.isl false ((a_1.Parts).map encI_Condition)]]⟩,some ⟨0,4,[.agg [I (b_2.Op),str (b_2.Name),I (b_2.Day),.isl false ((b_2.Parts).map encI_Condition)]]⟩] 81 (by kernel_rfl) ?_
 obtain ⟨r3,hr3,h⟩:=bS h
 refine oq 97 (B (r3)) rfl (e_callV rfl rfl (call_P rfl rfl rfl (avS (shP rfl) (avN)) (Ffcd_F hr3) (.inr rfl) (bl_n) rfl rfl rfl)) ?_
 refine cq 2 [9] [B ((!r3))] 129 ?_
 obtain ⟨y4,hy4,hy41,hy42⟩:=bJ h
 have j4 : ∀ u4,y4=.inr u4→Run Ffbv_E 0 (Ffbv_Q (a_1,b_2) r) (.code (cR (cL (cR Ffbv_c))) :: .code (cR (cR Ffbv_c)) :: []) (sT 23 [(2,.hp 1 0 [] 4 0 0),(3,.hp 2 0 [] 4 0 0),(19,B (u4))] [⟨0,4,[.agg [I (a_1.Op),str (a_1.Name),I (a_1.Day),.isl false ((a_1.Parts).map encI_Condition)]]⟩,⟨0,4,[.agg [I (b_2.Op),str (b_2.Name),I (b_2.Day),.isl false ((b_2.Parts).map encI_Condition)]]⟩] 3):=by
   intro u4 hu
   replace h:=hy42 u4 hu
   refine sq h (fun h=>?_) (fun h=>?_)
   · refine cq 5 [4,5] [B (false),B (false)] 35 ?_
     obtain rfl:=Option.some.inj h
     exact s_ret rfl ⟨_,fin (vs:=[B (false),B (false)]) rfl (absE (absorb_plain rfl) (absE (absorb_plain rfl) (absEN))) rfl (ou_f (ou_f (ou_n))),kl_n⟩
   · refine aq 1 ?_
     refine cq 4 [20,21] [.agg [I (a_1.Op),str (a_1.Name),I (a_1.Day),.isl false ((a_1.Parts).map encI_Condition)],.agg [I (b_2.Op),str (b_2.Name),I (b_2.Day),.isl false ((b_2.Parts).map encI_Condition)]] 35 ?_
     obtain ⟨r5,hr5,h⟩:=bS h
     refine oq 51 (B (r5)) rfl (e_callV rfl rfl (call_P rfl rfl rfl (avS (shP rfl) (avS (shP rfl) (avN))) (Ffbx_F hr5) (.inr rfl) (bl_n) rfl rfl rfl)) ?_
     refine cq 3 [4,5] [B (r5),B (true)] 83 ?_
     obtain rfl:=Option.some.inj h
     exact s_ret rfl ⟨_,fin (vs:=[B (r5),B (true)]) rfl (absE (absorb_plain rfl) (absE (absorb_plain rfl) (absEN))) rfl (ou_f (ou_f (ou_n))),kl_n⟩
 have r4 : ∀ r',y4=.inl r'→∀ st,Ffbv_Q (a_1,b_2) r' st→(Ffbv_Q (a_1,b_2) r) st:=fun r' e st hq=>by rw [hy41 r' e] at hq; exact hq
 replace h:=hy4
 refine sp 9 h rfl (fun h=>?_) (fun h=>?_)
 · refine cq 11 [19] [B (true)] 289 ?_
   exact rf [2,3,19] [1,17] (j4 _ (Option.some.inj h).symm :)
 · refine cq 1 [10] [.agg [I (b_2.Op),str (b_2.Name),I (b_2.Day),.isl false ((b_2.Parts).map encI_Condition)]] 145 ?_
   obtain ⟨r6,hr6,h⟩:=bS h
   refine oy 161 (B (r6)) rfl (e_callV rfl rfl (call_P rfl rfl rfl (avS (shP rfl) (avN)) (Ffcd_F hr6) (.inr rfl) (bl_n) rfl rfl rfl)) ?_
   refine cq 3 [14] [B ((!r6))] 209 ?_
   obtain ⟨y7,hy7,hy71,hy72⟩:=bL h
   have j7 : ∀ u7,y7=.inr u7→Run Ffbv_E 0 (Ffbv_Q (a_1,b_2) r) (.code (cR (cL (cR Ffbv_c))) :: .code (cR (cR Ffbv_c)) :: []) (sT 23 [(2,.hp 1 0 [] 4 0 0),(3,.hp 2 0 [] 4 0 0),(19,B (u7))] [⟨0,4,[.agg [I (a_1.Op),str (a_1.Name),I (a_1.Day),.isl false ((a_1.Parts).map encI_Condition)]]⟩,⟨0,4,[.agg [I (b_2.Op),str (b_2.Name),I (b_2.Day),.isl false ((b_2.Parts).map encI_Condition)]]⟩] 3):=by
     intro u7 hu
     replace h:=hy72 u7 hu
     exact rf [2,3,19] [1,2] (j4 _ (Option.some.inj h).symm :)
   have r7 : ∀ r',y7=.inl r'→∀ st,Ffbv_Q (a_1,b_2) r' st→(Ffbv_Q (a_1,b_2) r) st:=fun r' e st hq=>r4 r' (hy71 r' e) st hq
   replace h:=hy7
   refine sp 14 h rfl (fun h=>?_) (fun h=>?_)
   · refine cq 6 [19] [B (true)] 289 ?_
     exact rf [2,3,19] [1,17] (j7 _ (Option.some.inj h).symm :)
   · refine cq 2 [15,16] [.agg [I (a_1.Op),str (a_1.Name),I (a_1.Day),.isl false ((a_1.Parts).map encI_Condition)],.agg [I (b_2.Op),str (b_2.Name),I (b_2.Day),.isl false ((b_2.Parts).map encI_Condition)]] 241 ?_
     obtain ⟨r8,hr8,h⟩:=bS h
     refine oy 257 (B (r8)) rfl (e_callV rfl rfl (call_P rfl rfl rfl (avS (shP rfl) (avS (shP rfl) (avN))) (Ffbw_F hr8) (.inr rfl) (bl_n) rfl rfl rfl)) ?_
     refine cq 3 [19] [B ((!r8))] 289 ?_
     exact rf [2,3,19] [1,17] (j7 _ (Option.some.inj h).symm :)
theorem Ffbv_good {G : Go.Ln.Ground} : Good Tryd.prog G 9 Ffbv_ent:=good_T (fnOf_good (gl_c Ffcd_good (gl_c Ffbx_good (gl_c Ffbw_good (gl_n))))) agree_mk (Checked.mixed Tryd.checked) Tryd.func9 (n:=2) (m:=0) ⟨rfl,rfl,by decide⟩ (fun _=>⟨rfl,rfl⟩) (fun a r h=>Ffbv_run a.1 a.2 r h)
def Ffm_A : (Int × Int × Int)→List V:=cA I (cA I (oA I))
def Ffm_R (r : Bool) : V × List V:=(B (r),[])
noncomputable def Ffm_ent : Ent:=entT [false,false,false] Ffm_A Ffm_R fun x=>Ffm x.1 x.2.1 x.2.2
theorem Ffm_F {n_1 : Int} {low_2 : Int} {high_3 : Int} {r} (h : Ffm n_1 low_2 high_3=some r) : (Ffm_ent).F (Ffm_A (n_1,low_2,high_3))=some (Ffm_R r):=entT_F (cA_inj I_inj (cA_inj I_inj (oA_inj I_inj))) h
noncomputable def Ffm_c : Code:=bodyOf Tryd.f78
noncomputable def Ffm_E : Env:=mkE Tryd.prog []
def Ffm_Q (x : Int × Int × Int) (r : Bool) : St→Prop:=QF Ffm_E Tryd.f78 [false,false,false] (Ffm_A x) (Ffm_R r)
theorem Ffm_run (n_1 : Int) (low_2 : Int) (high_3 : Int) (r : Bool) (h : Ffm n_1 low_2 high_3=some r) : RunF Ffm_E Tryd.f78 [false,false,false] 0 (Ffm_A (n_1,low_2,high_3)) (Ffm_R r):=by
 show Run _ _ (Ffm_Q (n_1,low_2,high_3) r) [.code Ffm_c] _
 refine rin (n:=15) [(0,I (n_1)),(1,I (low_2)),(2,I (high_3))] [] 1 (by kernel_rfl) (by kernel_rfl) (by kernel_rfl) rfl ?_
 unfold Ffm at h
 refine cq 10 [10] [B ((decide (n_1 ≥ low_2)))] 81 ?_
 obtain ⟨u4,hu4,h⟩:=lJ h
 have j4 : Run Ffm_E 0 (Ffm_Q (n_1,low_2,high_3) r) (.code (cR (cR Ffm_c)) :: []) (sT 15 [(6,B (u4))] [] 1):=by
   obtain rfl:=Option.some.inj h
   exact s_ret rfl ⟨_,fin (vs:=[B (u4)]) rfl (absE (absorb_plain rfl) (absEN)) rfl (ou_f (ou_f (ou_f (ou_n)))),kl_n⟩
 replace h:=hu4
 clear hu4
 refine sp 10 h rfl (fun h=>?_) (fun h=>?_)
 · refine cq 6 [6] [B ((decide (n_1 ≤ high_3)))] 161 ?_
   subst h
   exact rf [6] [] (j4 :)
 · refine cq 6 [6] [B (false)] 161 ?_
   subst h
   exact rf [6] [] (j4 :)
theorem Ffm_good {G : Go.Ln.Ground} : Good Tryd.prog G 78 Ffm_ent:=good_T (fnOf_good (gl_n)) agree_mk (Checked.mixed Tryd.checked) Tryd.func78 (n:=3) (m:=0) ⟨rfl,rfl,by decide⟩ (fun _=>⟨rfl,rfl⟩) (fun a r h=>Ffm_run a.1 a.2.1 a.2.2 r h)
noncomputable def xCountString_ent : Ent:=⟨[false,false],entF2 (decBy str) (decBy (V.int .u8)) fun s c=>some (I (((Lib.countByte s c.toNat.toUInt8 : Nat) : Int)),[])⟩
theorem xCountString_F {s : Str} {c r : Int} (h : xCountString s c=some r) : xCountString_ent.F [str s,.int .u8 c]=some (I r,[]):=by
  cases h
  simp only [xCountString_ent,entF2,dec_ok str_inj,dec_ok u8_inj,Option.bind_some]
theorem xCountString_n : Extern.findNext Tryd.f182=none:=by kernel_rfl
theorem xCountString_x : Extern.find Tryd.f182=some Extern.BytealgCount.count:=by kernel_rfl
theorem xCountString_good {G : Go.Ln.Ground} : Good Tryd.prog G 182 xCountString_ent:=good_sc (g:=fun s c=>((Lib.countByte s c.toNat.toUInt8 : Nat) : Int)) Tryd.func182 rfl (by decide) xCountString_n xCountString_x fun s c w=>Lib.run_countString s c w
noncomputable def xIndexByteString_ent : Ent:=⟨[false,false],entF2 (decBy str) (decBy (V.int .u8)) fun s c=>some (I (Lib.indexByte s c.toNat.toUInt8),[])⟩
theorem xIndexByteString_F {s : Str} {c r : Int} (h : xIndexByteString s c=some r) : xIndexByteString_ent.F [str s,.int .u8 c]=some (I r,[]):=by
  cases h
  simp only [xIndexByteString_ent,entF2,dec_ok str_inj,dec_ok u8_inj,Option.bind_some]
theorem xIndexByteString_n : Extern.findNext Tryd.f199=none:=by kernel_rfl
theorem xIndexByteString_x : Extern.find Tryd.f199=some Extern.BytealgIndexByte.indexByte:=by kernel_rfl
theorem xIndexByteString_good {G : Go.Ln.Ground} : Good Tryd.prog G 199 xIndexByteString_ent:=good_sc (g:=fun s c=>Lib.indexByte s c.toNat.toUInt8) Tryd.func199 rfl (by decide) xIndexByteString_n xIndexByteString_x fun s c w=>Lib.run_indexByteString s c w
def Ffo_A : (Str × Int)→List V:=cA str (oA (V.int .u8))
def Ffo_R (r : Int) : V × List V:=(I (r),[])
noncomputable def Ffo_ent : Ent:=entT [false,false] Ffo_A Ffo_R fun x=>Ffo x.1 x.2
theorem Ffo_F {s_1 : Str} {c_2 : Int} {r} (h : Ffo s_1 c_2=some r) : (Ffo_ent).F (Ffo_A (s_1,c_2))=some (Ffo_R r):=entT_F (cA_inj str_inj (oA_inj (vint_inj (k:=.u8)))) h
noncomputable def Ffo_c : Code:=bodyOf Tryd.f191
noncomputable def Ffo_E : Env:=mkE Tryd.prog [(199,xIndexByteString_ent)]
def Ffo_Q (x : Str × Int) (r : Int) : St→Prop:=QF Ffo_E Tryd.f191 [false,false] (Ffo_A x) (Ffo_R r)
theorem Ffo_run (s_1 : Str) (c_2 : Int) (r : Int) (h : Ffo s_1 c_2=some r) : RunF Ffo_E Tryd.f191 [false,false] 0 (Ffo_A (s_1,c_2)) (Ffo_R r):=by
 show Run _ _ (Ffo_Q (s_1,c_2) r) [.code Ffo_c] _
 refine rin (n:=8) [(0,str (s_1)),(1,.int .u8 (c_2))] [] 1 (by kernel_rfl) (by kernel_rfl) (by kernel_rfl) rfl ?_
 unfold Ffo at h
 refine cq 8 [5,6] [str (s_1),.int .u8 (c_2)] 49 ?_
 obtain ⟨r3,hr3,h⟩:=bS h
 refine oq 65 (I (r3)) rfl (e_callV rfl rfl (call_P rfl rfl rfl (avS (shP rfl) (avS (shP rfl) (avN))) (xIndexByteString_F hr3) (.inr rfl) (bl_n) rfl rfl rfl)) ?_
 refine cq 2 [4] [I (r3)] 81 ?_
 obtain rfl:=Option.some.inj h
 exact s_ret rfl ⟨_,fin (vs:=[I (r3)]) rfl (absE (absorb_plain rfl) (absEN)) rfl (ou_f (ou_f (ou_n))),kl_n⟩
theorem Ffo_good {G : Go.Ln.Ground} : Good Tryd.prog G 191 Ffo_ent:=good_T (fnOf_good (gl_c xIndexByteString_good (gl_n))) agree_mk (Checked.mixed Tryd.checked) Tryd.func191 (n:=2) (m:=0) ⟨rfl,rfl,by decide⟩ (fun _=>⟨rfl,rfl⟩) (fun a r h=>Ffo_run a.1 a.2 r h)
def Ffn_A : (Str × Str)→List V:=cA str (oA str)
def Ffn_R (r : Int) : V × List V:=(I (r),[])
noncomputable def Ffn_ent : Ent:=entT [false,false] Ffn_A Ffn_R fun x=>Ffn x.1 x.2
theorem Ffn_F {s_1 : Str} {substr_2 : Str} {r} (h : Ffn s_1 substr_2=some r) : (Ffn_ent).F (Ffn_A (s_1,substr_2))=some (Ffn_R r):=entT_F (cA_inj str_inj (oA_inj str_inj)) h
noncomputable def Ffn_c : Code:=bodyOf Tryd.f183
noncomputable def Ffn_E : Env:=mkE Tryd.prog [(191,Ffo_ent)]
def Ffn_Q (x : Str × Str) (r : Int) : St→Prop:=QF Ffn_E Tryd.f183 [false,false] (Ffn_A x) (Ffn_R r)
theorem Ffn_run (s_1 : Str) (substr_2 : Str) (r : Int) (h : Ffn s_1 substr_2=some r) : RunF Ffn_E Tryd.f183 [false,false] 0 (Ffn_A (s_1,substr_2)) (Ffn_R r):=by
 show Run _ _ (Ffn_Q (s_1,substr_2) r) [.code Ffn_c] _
 refine rin (n:=143) [(0,str (s_1)),(1,str (substr_2))] [] 1 (by kernel_rfl) (by kernel_rfl) (by kernel_rfl) rfl ?_
 unfold Ffn at h
 refine cq 17 [5,19] [I ((len substr_2)),B (((len substr_2) == 0))] 113 ?_
 obtain ⟨u3,hu3,h⟩:=lJ h
 have j3 : Run Ffn_E 0 (Ffn_Q (s_1,substr_2) r) (.code (cR (cL (cL (cR (cR Ffn_c))))) :: .blk 0 :: .code (cR (cR (cR Ffn_c))) :: []) (sT 143 [(0,str (s_1)),(1,str (substr_2)),(5,I ((len substr_2))),(16,B (u3))] [] 1):=by
   refine sq h (fun h=>?_) (fun h=>?_)
   · refine cq 4 [4] [I (0)] 17 ?_
     obtain rfl:=Option.some.inj h
     exact s_ret rfl ⟨_,fin (vs:=[I (0)]) rfl (absE (absorb_plain rfl) (absEN)) rfl (ou_f (ou_f (ou_n))),kl_n⟩
   · refine cq 6 [24] [B (((len substr_2) == 1))] 49 ?_
     refine sq h (fun h=>?_) (fun h=>?_)
     · refine cq 4 [27,28] [str (s_1),str (substr_2)] 81 ?_
       obtain ⟨c4,hc4,h⟩:=bS h
       refine oq 97 (.int .u8 ((c4.toNat : Int))) rfl (e_index rfl rfl (i_str rfl rfl hc4)) ?_
       obtain ⟨r5,hr5,h⟩:=bS h
       refine oq 113 (I (r5)) rfl (e_callV rfl rfl (call_P rfl rfl rfl (avS (shP rfl) (avS (shP rfl) (avN))) (Ffo_F hr5) (.inr rfl) (bl_n) rfl rfl rfl)) ?_
       refine cq 2 [4] [I (r5)] 129 ?_
       obtain rfl:=Option.some.inj h
       exact s_ret rfl ⟨_,fin (vs:=[I (r5)]) rfl (absE (absorb_plain rfl) (absEN)) rfl (ou_f (ou_f (ou_n))),kl_n⟩
     · refine cq 8 [31] [B ((decide ((len substr_2) ≥ (len s_1))))] 129 ?_
       refine sq h (fun h=>?_) (fun h=>?_)
       · refine cq 4 [4] [I ((-1))] 145 ?_
         obtain rfl:=Option.some.inj h
         exact s_ret rfl ⟨_,fin (vs:=[I ((-1))]) rfl (absE (absorb_plain rfl) (absEN)) rfl (ou_f (ou_f (ou_n))),kl_n⟩
       · cases h
 replace h:=hu3
 clear hu3
 refine sp 19 h rfl (fun h=>?_) (fun h=>?_)
 · refine cq 6 [16] [B (true)] 193 ?_
   subst h
   exact rf [0,1,5,16] [] (j3 :)
 · refine cq 6 [16] [B ((substr_2 == s_1))] 193 ?_
   subst h
   exact rf [0,1,5,16] [] (j3 :)
theorem Ffn_good {G : Go.Ln.Ground} : Good Tryd.prog G 183 Ffn_ent:=good_T (fnOf_good (gl_c Ffo_good (gl_n))) agree_mk (Checked.mixed Tryd.checked) Tryd.func183 (n:=2) (m:=0) ⟨rfl,rfl,by decide⟩ (fun _=>⟨rfl,rfl⟩) (fun a r h=>Ffn_run a.1 a.2 r h)
def Ffco_A : (Str × Str)→List V:=cA str (oA str)
def Ffco_R (r : Int) : V × List V:=(I (r),[])
noncomputable def Ffco_ent : Ent:=entT [false,false] Ffco_A Ffco_R fun x=>Ffco x.1 x.2
theorem Ffco_F {s_1 : Str} {substr_2 : Str} {r} (h : Ffco s_1 substr_2=some r) : (Ffco_ent).F (Ffco_A (s_1,substr_2))=some (Ffco_R r):=entT_F (cA_inj str_inj (oA_inj str_inj)) h
noncomputable def Ffco_c : Code:=bodyOf Tryd.f174
noncomputable def Ffco_E : Env:=mkE Tryd.prog [(183,Ffn_ent)]
def Ffco_Q (x : Str × Str) (r : Int) : St→Prop:=QF Ffco_E Tryd.f174 [false,false] (Ffco_A x) (Ffco_R r)
theorem Ffco_run (s_1 : Str) (substr_2 : Str) (r : Int) (h : Ffco s_1 substr_2=some r) : RunF Ffco_E Tryd.f174 [false,false] 0 (Ffco_A (s_1,substr_2)) (Ffco_R r):=by
 show Run _ _ (Ffco_Q (s_1,substr_2) r) [.code Ffco_c] _
 refine rin (n:=8) [(0,str (s_1)),(1,str (substr_2))] [] 1 (by kernel_rfl) (by kernel_rfl) (by kernel_rfl) rfl ?_
 unfold Ffco at h
 refine cq 8 [5,6] [str (s_1),str (substr_2)] 49 ?_
 obtain ⟨r3,hr3,h⟩:=bS h
 refine oq 65 (I (r3)) rfl (e_callV rfl rfl (call_P rfl rfl rfl (avS (shP rfl) (avS (shP rfl) (avN))) (Ffn_F hr3) (.inr rfl) (bl_n) rfl rfl rfl)) ?_
 refine cq 2 [4] [I (r3)] 81 ?_
 obtain rfl:=Option.some.inj h
 exact s_ret rfl ⟨_,fin (vs:=[I (r3)]) rfl (absE (absorb_plain rfl) (absEN)) rfl (ou_f (ou_f (ou_n))),kl_n⟩
theorem Ffco_good {G : Go.Ln.Ground} : Good Tryd.prog G 174 Ffco_ent:=good_T (fnOf_good (gl_c Ffn_good (gl_n))) agree_mk (Checked.mixed Tryd.checked) Tryd.func174 (n:=2) (m:=0) ⟨rfl,rfl,by decide⟩ (fun _=>⟨rfl,rfl⟩) (fun a r h=>Ffco_run a.1 a.2 r h)
def Ffcn_A : (Str × Str)→List V:=cA str (oA str)
def Ffcn_R (r : Int) : V × List V:=(I (r),[])
noncomputable def Ffcn_ent : Ent:=entT [false,false] Ffcn_A Ffcn_R fun x=>Ffcn x.1 x.2
theorem Ffcn_F {s_1 : Str} {substr_2 : Str} {r} (h : Ffcn s_1 substr_2=some r) : (Ffcn_ent).F (Ffcn_A (s_1,substr_2))=some (Ffcn_R r):=entT_F (cA_inj str_inj (oA_inj str_inj)) h
noncomputable def Ffcn_c : Code:=bodyOf Tryd.f173
noncomputable def Ffcn_E : Env:=mkE Tryd.prog [(182,xCountString_ent),(174,Ffco_ent)]
def Ffcn_Q (x : Str × Str) (r : Int) : St→Prop:=QF Ffcn_E Tryd.f173 [false,false] (Ffcn_A x) (Ffcn_R r)
theorem Ffcn_la_run (s_1 : Str) (substr_2 : Str)  {Q : St→Prop} {K : List It} (hK : noD K=true) : ∀ (x5 : Str × Int) (y : Int ⊕ Unit),Ffcn_la s_1 substr_2 x5=some y→(∀ r',y=.inl r'→∀ st,Ffcn_Q (s_1,substr_2) r' st→Q st)→(∀ u : Unit,y=.inr u→Run Ffcn_E 0 Q K (sT 34 [] [] 1))→Run Ffcn_E 0 Q (.code (cL (cL (cR (cR (cR (cR Ffcn_c)))))) :: .lp (cL (cL (cR (cR (cR (cR Ffcn_c)))))) :: .blk 0 :: K) (sT 34 [(0,str (x5.1)),(1,str (substr_2)),(5,I (x5.2))] [] 1):=by
 refine fix_indP (Ffcn_la_fin s_1 substr_2) ?_
 intro self ih x5 y h hr hn
 unfold Ffcn_la_F at h
 refine cq 5 [20,21] [str (x5.1),str (substr_2)] 33 ?_
 obtain ⟨r6,hr6,h⟩:=bS h
 refine oq 49 (I (r6)) rfl (e_callV rfl rfl (call_P rfl rfl rfl (avS (shP rfl) (avS (shP rfl) (avN))) (Ffco_F hr6) (.inr rfl) (bl_n) rfl rfl rfl)) ?_
 refine cq 8 [6,24] [I (r6),B ((r6 == (-1)))] 97 ?_
 refine sq h (fun h=>?_) (fun h=>?_)
 · refine cq 5 [4] [I (x5.2)] 129 ?_
   exact s_ret rfl (hr _ (Option.some.inj h).symm _ ⟨_,fin (vs:=[I (x5.2)]) rfl (absE (absorb_plain rfl) (absEN)) rfl (ou_f (ou_f (ou_n))),kl_n⟩)
 · refine aq 1 ?_
   refine cq 12 [5,28,32] [I ((w64 (x5.2 + 1))),str (x5.1),I ((w64 (r6 + (len substr_2))))] 225 ?_
   obtain ⟨s7,hs7,h⟩:=bS h
   refine oq 241 (str (s7)) rfl (e_slice rfl rfl rfl rfl (sl_str rfl rfl rfl hs7)) ?_
   refine cq 3 [0] [str (s7)] 257 ?_
   refine s_lp ?_
   exact rf [0,1,5] [] (ih _ _ h hr hn :)
theorem Ffcn_run (s_1 : Str) (substr_2 : Str) (r : Int) (h : Ffcn s_1 substr_2=some r) : RunF Ffcn_E Tryd.f173 [false,false] 0 (Ffcn_A (s_1,substr_2)) (Ffcn_R r):=by
 show Run _ _ (Ffcn_Q (s_1,substr_2) r) [.code Ffcn_c] _
 refine rin (n:=34) [(0,str (s_1)),(1,str (substr_2))] [] 1 (by kernel_rfl) (by kernel_rfl) (by kernel_rfl) rfl ?_
 unfold Ffcn at h
 refine cq 11 [9] [B (((len substr_2) == 0))] 65 ?_
 refine sq h (fun h=>?_) (fun h=>?_)
 · cases h
 · refine aq 1 ?_
   refine cq 7 [15] [B (((len substr_2) == 1))] 113 ?_
   refine sq h (fun h=>?_) (fun h=>?_)
   · refine cq 4 [16,17] [str (s_1),str (substr_2)] 145 ?_
     obtain ⟨c3,hc3,h⟩:=bS h
     refine oq 161 (.int .u8 ((c3.toNat : Int))) rfl (e_index rfl rfl (i_str rfl rfl hc3)) ?_
     obtain ⟨r4,hr4,h⟩:=bS h
     refine oq 177 (I (r4)) rfl (e_callV rfl rfl (call_P rfl rfl rfl (avS (shP rfl) (avS (shP rfl) (avN))) (xCountString_F hr4) (.inr rfl) (bl_n) rfl rfl rfl)) ?_
     refine cq 2 [4] [I (r4)] 193 ?_
     obtain rfl:=Option.some.inj h
     exact s_ret rfl ⟨_,fin (vs:=[I (r4)]) rfl (absE (absorb_plain rfl) (absEN)) rfl (ou_f (ou_f (ou_n))),kl_n⟩
   · refine aq 1 ?_
     refine cq 5 [5] [I (0)] 129 ?_
     obtain ⟨y8,hy8,hy81,hy82⟩:=bJ h
     refine s_loop rfl ?_
     refine rf [0,1,5] [] (Ffcn_la_run s_1 substr_2 rfl (s_1,0) _ hy8 (fun r' e st hq=>by rw [hy81 r' e] at hq; exact hq) fun u8 hu=>?_)
     replace h:=hy82 u8 hu
     cases h
theorem Ffcn_good {G : Go.Ln.Ground} : Good Tryd.prog G 173 Ffcn_ent:=good_T (fnOf_good (gl_c xCountString_good (gl_c Ffco_good (gl_n)))) agree_mk (Checked.mixed Tryd.checked) Tryd.func173 (n:=2) (m:=0) ⟨rfl,rfl,by decide⟩ (fun _=>⟨rfl,rfl⟩) (fun a r h=>Ffcn_run a.1 a.2 r h)
def Ffcq_A : (Str × Str × Int × Int)→List V:=cA str (cA str (cA I (oA I)))
def Ffcq_R (r : (List Str)) : V × List V:=(.usl 1 ((r).map str),[])
noncomputable def Ffcq_ent : Ent:=entT [false,false,false,false] Ffcq_A Ffcq_R fun x=>Ffcq x.1 x.2.1 x.2.2.1 x.2.2.2
theorem Ffcq_F {s_1 : Str} {sep_2 : Str} {sepSave_3 : Int} {n_4 : Int} {r} (h : Ffcq s_1 sep_2 sepSave_3 n_4=some r) : (Ffcq_ent).F (Ffcq_A (s_1,sep_2,sepSave_3,n_4))=some (Ffcq_R r):=entT_F (cA_inj str_inj (cA_inj str_inj (cA_inj I_inj (oA_inj I_inj)))) h
noncomputable def Ffcq_c : Code:=bodyOf Tryd.f158
noncomputable abbrev Ffcq_ka : Code:=cL (cL (cL (cR (cR (cR (cR (cR (cR (cR (cR Ffcq_c))))))))))
noncomputable def Ffcq_E : Env:=mkE Tryd.prog [(174,Ffco_ent),(173,Ffcn_ent)]
def Ffcq_Q (x : Str × Str × Int × Int) (r : (List Str)) : St→Prop:=QF Ffcq_E Tryd.f158 [false,false,false,false] (Ffcq_A x) (Ffcq_R r)
theorem Ffcq_la_run (s_1 : Str) (sep_2 : Str) (sepSave_3 : Int) (n_4 : Int) (u5 : Int) {Q : St→Prop} {K : List It} (hK : noD K=true) : ∀ (x7 : Str × Int × (List Str)) (y : ((List Str)) ⊕ (Str × Int × (List Str))),Ffcq_la s_1 sep_2 sepSave_3 n_4 u5 x7=some y→(∀ r',y=.inl r'→∀ st,Ffcq_Q (s_1,sep_2,sepSave_3,n_4) r' st→Q st)→(∀ u : Str × Int × (List Str),y=.inr u→Run Ffcq_E 0 Q K (sT 66 [(0,str (u.1)),(9,.hs 1 0 [] 1 0 ((u.2.2).map str).length),(10,I (u.2.1))] [⟨0,1,(u.2.2).map str⟩] 2))→Run Ffcq_E 0 Q (.code Ffcq_ka :: .lp Ffcq_ka :: .blk 0 :: K) (sT 66 [(0,str (x7.1)),(1,str (sep_2)),(2,I (sepSave_3)),(3,I ((w64 ((if (w64 ((len s_1) + 1)) < u5 then (w64 ((len s_1) + 1)) else u5) - 1)))),(9,.hs 1 0 [] 1 0 ((x7.2.2).map str).length),(10,I (x7.2.1))] [⟨0,1,(x7.2.2).map str⟩] 2):=by
 refine fix_indP (Ffcq_la_fin s_1 sep_2 sepSave_3 n_4 u5) ?_
 intro self ih x7 y h hr hn
 unfold Ffcq_la_F at h
 refine cq 7 [36] [B ((decide (x7.2.1 < (w64 ((if (w64 ((len s_1) + 1)) < u5 then (w64 ((len s_1) + 1)) else u5) - 1)))))] 50 ?_
 refine sq h (fun h=>?_) (fun h=>?_)
 · refine aq 1 ?_
   refine cq 5 [37,38] [str (x7.1),str (sep_2)] 82 ?_
   obtain ⟨r8,hr8,h⟩:=bS h
   refine oq 98 (I (r8)) rfl (e_callV rfl rfl (call_P rfl rfl rfl (avS (shP rfl) (avS (shP rfl) (avN))) (Ffco_F hr8) (.inr rfl) (bl_n) rfl rfl rfl)) ?_
   refine cq 8 [11,41] [I (r8),B ((decide (r8 < 0)))] 146 ?_
   refine sq h (fun h=>?_) (fun h=>?_)
   · refine aq 1 ?_
     exact rf [0,9,10] [1] (hn _ (Option.some.inj h).symm :) (hk:=hK)
   · refine aq 1 ?_
     refine cq 8 [42,43,44,47] [.hs 1 0 [] 1 0 ((x7.2.2).map str).length,I (x7.2.1),str (x7.1),I ((w64 (r8 + sepSave_3)))] 242 ?_
     obtain ⟨s9,hs9,h⟩:=bS h
     refine oq 258 (str (s9)) rfl (e_slice rfl rfl rfl rfl (sl_str rfl rfl rfl hs9)) ?_
     obtain ⟨e10,he10,h⟩:=bS h
     refine oq 274 (.hp 1 0 [] 1 (0 + Int.toNat (x7.2.1)) 0) rfl (e_indexAddr rfl rfl rfl (ix_hsM (f:=str) (xs:=x7.2.2) rfl rfl rfl he10)) ?_
     refine o0 290 rfl rfl (e_st rfl rfl (st_at (path:=[]) (pl:=true) (e':=str (s9)) (es2':=((setI x7.2.2 x7.2.1 s9)).map str) rfl (absorb_plain rfl) rfl rfl rfl (ra_n) (get_map (f:=str) (xs:=x7.2.2) he10) rfl rfl rfl (set_map (f:=str) (xs:=x7.2.2) (y:=s9)) (sr_n) 0 rfl)) ?_
     try rw [← len_setM (f:=str) (xs:=x7.2.2) (i:=x7.2.1) (z:=s9)]
     refine cq 8 [50,54] [str (x7.1),I ((w64 (r8 + (len sep_2))))] 370 ?_
     obtain ⟨s11,hs11,h⟩:=bS h
     refine oq 386 (str (s11)) rfl (e_slice rfl rfl rfl rfl (sl_str rfl rfl rfl hs11)) ?_
     refine cq 8 [0,10] [str (s11),I ((w64 (x7.2.1 + 1)))] 450 ?_
     refine s_lp ?_
     exact rf [0,1,2,3,9,10] [1] (ih _ _ h hr hn :)
 · refine aq 1 ?_
   exact rf [0,9,10] [1] (hn _ (Option.some.inj h).symm :) (hk:=hK)
theorem Ffcq_run (s_1 : Str) (sep_2 : Str) (sepSave_3 : Int) (n_4 : Int) (r : (List Str)) (h : Ffcq s_1 sep_2 sepSave_3 n_4=some r) : RunF Ffcq_E Tryd.f158 [false,false,false,false] 0 (Ffcq_A (s_1,sep_2,sepSave_3,n_4)) (Ffcq_R r):=by
 show Run _ _ (Ffcq_Q (s_1,sep_2,sepSave_3,n_4) r) [.code Ffcq_c] _
 refine rin (n:=66) [(0,str (s_1)),(1,str (sep_2)),(2,I (sepSave_3)),(3,I (n_4))] [] 1 (by kernel_rfl) (by kernel_rfl) (by kernel_rfl) rfl ?_
 unfold Ffcq at h
 refine cq 10 [13] [B ((n_4 == 0))] 49 ?_
 refine sq h (fun h=>?_) (fun h=>?_)
 · refine cq 4 [8] [.isl true []] 65 ?_
   refine run_own 8 0 1 81 (.hs 65 0 [] 1 0 0) rfl rfl rfl rfl rfl ?_
   obtain rfl:=Option.some.inj h
   exact s_ret rfl ⟨_,fin (vs:=[.hs 65 0 [] 1 0 0]) rfl (absE (abs1 rfl (abs_hs (k:=0) (es:=[]) rfl rfl)) (absEN)) rfl (ou_f (ou_f (ou_f (ou_f (ou_n))))),kl_n⟩
 · refine aq 1 ?_
   refine cq 6 [15] [B ((sep_2 == ([] : Str)))] 81 ?_
   refine sq h (fun h=>?_) (fun h=>?_)
   · cases h
   · refine aq 1 ?_
     refine cq 6 [20] [B ((decide (n_4 < 0)))] 113 ?_
     obtain ⟨y5,hy5,hy51,hy52⟩:=bJ h
     have j5 : ∀ u5,y5=.inr u5→Run Ffcq_E 0 (Ffcq_Q (s_1,sep_2,sepSave_3,n_4) r) (.code (cR (cR (cR (cR Ffcq_c)))) :: []) (sT 66 [(0,str (s_1)),(1,str (sep_2)),(2,I (sepSave_3)),(3,I (u5))] [] 1):=by
       intro u5 hu
       replace h:=hy52 u5 hu
       refine cq 12 [3,30] [I ((if (w64 ((len s_1) + 1)) < u5 then (w64 ((len s_1) + 1)) else u5)),I ((if (w64 ((len s_1) + 1)) < u5 then (w64 ((len s_1) + 1)) else u5))] 113 ?_
       obtain ⟨m6,hm6,h⟩:=bS h
       refine oq 129 (.hs 113 0 [] 1 0 ((m6).map str).length) rfl (e_makeSlice rfl rfl (ms_mkM (f:=str) rfl rfl rfl (by decide) hm6 rfl)) ?_
       refine cq 14 [3,9,10] [I ((w64 ((if (w64 ((len s_1) + 1)) < u5 then (w64 ((len s_1) + 1)) else u5) - 1))),.hs 113 0 [] 1 0 ((m6).map str).length,I (0)] 209 ?_
       obtain ⟨y12,hy12,hy121,hy122⟩:=bJ h
       refine s_loop rfl ?_
       refine rf [0,1,2,3,9,10] [113] (Ffcq_la_run s_1 sep_2 sepSave_3 n_4 u5 rfl (s_1,0,m6) _ hy12 (fun r' e st hq=>by rw [hy121 r' e] at hq; exact hq) fun u12 hu=>?_)
       replace h:=hy122 u12 hu
       refine cq 5 [58,59,60] [.hs 1 0 [] 1 0 ((u12.2.2).map str).length,I (u12.2.1),str (u12.1)] 50 ?_
       obtain ⟨e13,he13,h⟩:=bS h
       refine oq 66 (.hp 1 0 [] 1 (0 + Int.toNat (u12.2.1)) 0) rfl (e_indexAddr rfl rfl rfl (ix_hsM (f:=str) (xs:=u12.2.2) rfl rfl rfl he13)) ?_
       refine o0 82 rfl rfl (e_st rfl rfl (st_at (path:=[]) (pl:=true) (e':=str (u12.1)) (es2':=((setI u12.2.2 u12.2.1 u12.1)).map str) rfl (absorb_plain rfl) rfl rfl rfl (ra_n) (get_map (f:=str) (xs:=u12.2.2) he13) rfl rfl rfl (set_map (f:=str) (xs:=u12.2.2) (y:=u12.1)) (sr_n) 0 rfl)) ?_
       try rw [← len_setM (f:=str) (xs:=u12.2.2) (i:=u12.2.1) (z:=u12.1)]
       refine cq 6 [62,64] [.hs 1 0 [] 1 0 (((setI u12.2.2 u12.2.1 u12.1)).map str).length,I ((w64 (u12.2.1 + 1)))] 130 ?_
       obtain ⟨s14,hs14,h⟩:=bS h
       refine oq 146 (.hs 1 0 [] 1 (0 + Int.toNat (0)) (Int.toNat ((w64 (u12.2.1 + 1))) - Int.toNat (0))) rfl (e_slice rfl rfl rfl rfl (sl_hsM (f:=str) (xs:=(setI u12.2.2 u12.2.1 u12.1)) rfl rfl rfl rfl rfl hs14)) ?_
       refine cq 2 [8] [.hs 1 0 [] 1 (0 + Int.toNat (0)) (Int.toNat ((w64 (u12.2.1 + 1))) - Int.toNat (0))] 162 ?_
       obtain ⟨p15,hp15,h⟩:=bS h
       obtain rfl:=Option.some.inj h
       exact s_ret rfl ⟨_,fin (vs:=[.hs 1 0 [] 1 (0 + Int.toNat (0)) (Int.toNat ((w64 (u12.2.1 + 1))) - Int.toNat (0))]) rfl (absE (abs1 rfl (abs_pt (path:=[]) (f:=str) (xs:=(setI u12.2.2 u12.2.1 u12.1)) rfl rfl (ra_n) hp15 rfl (to_n))) (absEN)) rfl (ou_f (ou_f (ou_f (ou_f (ou_n))))),kl_n⟩
     have r5 : ∀ r',y5=.inl r'→∀ st,Ffcq_Q (s_1,sep_2,sepSave_3,n_4) r' st→(Ffcq_Q (s_1,sep_2,sepSave_3,n_4) r) st:=fun r' e st hq=>by rw [hy51 r' e] at hq; exact hq
     replace h:=hy5
     refine sq h (fun h=>?_) (fun h=>?_)
     · refine cq 3 [21,22] [str (s_1),str (sep_2)] 145 ?_
       obtain ⟨r16,hr16,h⟩:=bS h
       refine oq 161 (I (r16)) rfl (e_callV rfl rfl (call_P rfl rfl rfl (avS (shP rfl) (avS (shP rfl) (avN))) (Ffcn_F hr16) (.inr rfl) (bl_n) rfl rfl rfl)) ?_
       refine cq 3 [3] [I ((w64 (r16 + 1)))] 193 ?_
       exact rf [0,1,2,3] [] (j5 _ (Option.some.inj h).symm :)
     · refine aq 1 ?_
       exact rf [0,1,2,3] [] (j5 _ (Option.some.inj h).symm :)
theorem Ffcq_good {G : Go.Ln.Ground} : Good Tryd.prog G 158 Ffcq_ent:=good_T (fnOf_good (gl_c Ffco_good (gl_c Ffcn_good (gl_n)))) agree_mk (Checked.mixed Tryd.checked) Tryd.func158 (n:=4) (m:=0) ⟨rfl,rfl,by decide⟩ (fun _=>⟨rfl,rfl⟩) (fun a r h=>Ffcq_run a.1 a.2.1 a.2.2.1 a.2.2.2 r h)
def Ffcp_A : (Str × Str)→List V:=cA str (oA str)
def Ffcp_R (r : (List Str)) : V × List V:=(.usl 1 ((r).map str),[])
noncomputable def Ffcp_ent : Ent:=entT [false,false] Ffcp_A Ffcp_R fun x=>Ffcp x.1 x.2
theorem Ffcp_F {s_1 : Str} {sep_2 : Str} {r} (h : Ffcp s_1 sep_2=some r) : (Ffcp_ent).F (Ffcp_A (s_1,sep_2))=some (Ffcp_R r):=entT_F (cA_inj str_inj (oA_inj str_inj)) h
noncomputable def Ffcp_c : Code:=bodyOf Tryd.f139
noncomputable def Ffcp_E : Env:=mkE Tryd.prog [(158,Ffcq_ent)]
def Ffcp_Q (x : Str × Str) (r : (List Str)) : St→Prop:=QF Ffcp_E Tryd.f139 [false,false] (Ffcp_A x) (Ffcp_R r)
theorem Ffcp_run (s_1 : Str) (sep_2 : Str) (r : (List Str)) (h : Ffcp s_1 sep_2=some r) : RunF Ffcp_E Tryd.f139 [false,false] 0 (Ffcp_A (s_1,sep_2)) (Ffcp_R r):=by
 show Run _ _ (Ffcp_Q (s_1,sep_2) r) [.code Ffcp_c] _
 refine rin (n:=8) [(0,str (s_1)),(1,str (sep_2))] [] 1 (by kernel_rfl) (by kernel_rfl) (by kernel_rfl) rfl ?_
 unfold Ffcp at h
 refine cq 8 [5,6] [str (s_1),str (sep_2)] 49 ?_
 obtain ⟨r3,hr3,h⟩:=bS h
 refine oq 65 (.hs 49 0 [] 1 0 ((r3).map str).length) rfl (e_callV rfl rfl (call_P rfl rfl rfl (avS (shP rfl) (avS (shP rfl) (avS (shP rfl) (avS (shP rfl) (avN))))) (Ffcq_F hr3) (.inr rfl) (bl_n) rfl rfl rfl)) ?_
 refine cq 2 [4] [.hs 49 0 [] 1 0 ((r3).map str).length] 81 ?_
 obtain rfl:=Option.some.inj h
 exact s_ret rfl ⟨_,fin (vs:=[.hs 49 0 [] 1 0 ((r3).map str).length]) rfl (absE (abs1 rfl (abs_hs rfl rfl)) (absEN)) rfl (ou_f (ou_f (ou_n))),kl_n⟩
theorem Ffcp_good {G : Go.Ln.Ground} : Good Tryd.prog G 139 Ffcp_ent:=good_T (fnOf_good (gl_c Ffcq_good (gl_n))) agree_mk (Checked.mixed Tryd.checked) Tryd.func139 (n:=2) (m:=0) ⟨rfl,rfl,by decide⟩ (fun _=>⟨rfl,rfl⟩) (fun a r h=>Ffcp_run a.1 a.2 r h)
def Ffbe_A : ((List Str) × Str)→List V:=cA (slE str) (oA str)
def Ffbe_R (r : Int) : V × List V:=(I (r),[])
noncomputable def Ffbe_ent : Ent:=entT [false,false] Ffbe_A Ffbe_R fun x=>Ffbe x.1 x.2
theorem Ffbe_F {s_1 : List Str} {v_2 : Str} {r} (h : Ffbe s_1 v_2=some r) : (Ffbe_ent).F (Ffbe_A (s_1,v_2))=some (Ffbe_R r):=entT_F (cA_inj (isl_inj str_inj) (oA_inj str_inj)) h
noncomputable def Ffbe_c : Code:=bodyOf Tryd.f123
noncomputable def Ffbe_E : Env:=mkE Tryd.prog []
def Ffbe_Q (x : (List Str) × Str) (r : Int) : St→Prop:=QF Ffbe_E Tryd.f123 [false,false] (Ffbe_A x) (Ffbe_R r)
theorem Ffbe_la_run (s_1 : List Str) (v_2 : Str)  {Q : St→Prop} {K : List It} (hK : noD K=true) : ∀ (x3 : Int) (y : Int ⊕ Unit),Ffbe_la s_1 v_2 x3=some y→(∀ r',y=.inl r'→∀ st,Ffbe_Q (s_1,v_2) r' st→Q st)→(∀ u : Unit,y=.inr u→Run Ffbe_E 0 Q K (sT 19 [] [] 1))→Run Ffbe_E 0 Q (.code (cL (cL (cR (cL (cR Ffbe_c))))) :: .lp (cL (cL (cR (cL (cR Ffbe_c))))) :: .blk 0 :: K) (sT 19 [(0,.isl false ((s_1).map str)),(1,str (v_2)),(7,I ((len s_1))),(8,I (x3))] [] 1):=by
 refine fix_indP (Ffbe_la_fin s_1 v_2) ?_
 intro self ih x3 y h hr hn
 unfold Ffbe_la_F at h
 refine cq 5 [9] [B ((decide (x3 < (len s_1))))] 17 ?_
 refine sq h (fun h=>?_) (fun h=>?_)
 · refine aq 1 ?_
   refine cq 12 [5,11,12,13] [I (x3),str (v_2),.isl false ((s_1).map str),I (x3)] 97 ?_
   obtain ⟨e4,he4,h⟩:=bS h
   refine oq 113 (.iptr (str (e4)) 0) rfl (e_indexAddr rfl rfl rfl (ix_islE rfl rfl rfl rfl he4)) ?_
   refine cq 3 [16] [B ((v_2 == e4))] 145 ?_
   refine sq h (fun h=>?_) (fun h=>?_)
   · refine cq 5 [4] [I (x3)] 177 ?_
     exact s_ret rfl (hr _ (Option.some.inj h).symm _ ⟨_,fin (vs:=[I (x3)]) rfl (absE (absorb_plain rfl) (absEN)) rfl (ou_f (ou_f (ou_n))),kl_n⟩)
   · refine aq 1 ?_
     refine cq 5 [8] [I ((w64 (x3 + 1)))] 177 ?_
     refine s_lp ?_
     exact rf [0,1,7,8] [] (ih _ _ h hr hn :)
 · refine aq 1 ?_
   exact rf [] [] (hn _ (Option.some.inj h).symm :) (hk:=hK)
theorem Ffbe_run (s_1 : List Str) (v_2 : Str) (r : Int) (h : Ffbe s_1 v_2=some r) : RunF Ffbe_E Tryd.f123 [false,false] 0 (Ffbe_A (s_1,v_2)) (Ffbe_R r):=by
 show Run _ _ (Ffbe_Q (s_1,v_2) r) [.code Ffbe_c] _
 refine rin (n:=19) [(0,.isl false ((s_1).map str)),(1,str (v_2))] [] 1 (by kernel_rfl) (by kernel_rfl) (by kernel_rfl) rfl ?_
 unfold Ffbe at h
 refine cq 8 [6] [.isl false ((s_1).map str)] 33 ?_
 refine oq 49 (I ((len s_1))) rfl (e_len rfl rfl rfl (l_isl rfl)) ?_
 refine cq 3 [8] [I (0)] 65 ?_
 obtain ⟨y5,hy5,hy51,hy52⟩:=bJ h
 refine s_loop rfl ?_
 refine rf [0,1,7,8] [] (Ffbe_la_run s_1 v_2 rfl 0 _ hy5 (fun r' e st hq=>by rw [hy51 r' e] at hq; exact hq) fun u5 hu=>?_)
 replace h:=hy52 u5 hu
 refine cq 4 [4] [I ((-1))] 17 ?_
 obtain rfl:=Option.some.inj h
 exact s_ret rfl ⟨_,fin (vs:=[I ((-1))]) rfl (absE (absorb_plain rfl) (absEN)) rfl (ou_f (ou_f (ou_n))),kl_n⟩
theorem Ffbe_good {G : Go.Ln.Ground} : Good Tryd.prog G 123 Ffbe_ent:=good_T (fnOf_good (gl_n)) agree_mk (Checked.mixed Tryd.checked) Tryd.func123 (n:=2) (m:=0) ⟨rfl,rfl,by decide⟩ (fun _=>⟨rfl,rfl⟩) (fun a r h=>Ffbe_run a.1 a.2 r h)
def Ffbd_A : ((List Str) × Str)→List V:=cA (slE str) (oA str)
def Ffbd_R (r : Bool) : V × List V:=(B (r),[])
noncomputable def Ffbd_ent : Ent:=entT [false,false] Ffbd_A Ffbd_R fun x=>Ffbd x.1 x.2
theorem Ffbd_F {s_1 : List Str} {v_2 : Str} {r} (h : Ffbd s_1 v_2=some r) : (Ffbd_ent).F (Ffbd_A (s_1,v_2))=some (Ffbd_R r):=entT_F (cA_inj (isl_inj str_inj) (oA_inj str_inj)) h
noncomputable def Ffbd_c : Code:=bodyOf Tryd.f91
noncomputable def Ffbd_E : Env:=mkE Tryd.prog [(123,Ffbe_ent)]
def Ffbd_Q (x : (List Str) × Str) (r : Bool) : St→Prop:=QF Ffbd_E Tryd.f91 [false,false] (Ffbd_A x) (Ffbd_R r)
theorem Ffbd_run (s_1 : List Str) (v_2 : Str) (r : Bool) (h : Ffbd s_1 v_2=some r) : RunF Ffbd_E Tryd.f91 [false,false] 0 (Ffbd_A (s_1,v_2)) (Ffbd_R r):=by
 show Run _ _ (Ffbd_Q (s_1,v_2) r) [.code Ffbd_c] _
 refine rin (n:=9) [(0,.isl false ((s_1).map str)),(1,str (v_2))] [] 1 (by kernel_rfl) (by kernel_rfl) (by kernel_rfl) rfl ?_
 unfold Ffbd at h
 refine cq 8 [5,6] [.isl false ((s_1).map str),str (v_2)] 49 ?_
 obtain ⟨r3,hr3,h⟩:=bS h
 refine oq 65 (I (r3)) rfl (e_callV rfl rfl (call_P rfl rfl rfl (avS (shP rfl) (avS (shP rfl) (avN))) (Ffbe_F hr3) (.inr rfl) (bl_n) rfl rfl rfl)) ?_
 refine cq 3 [4] [B ((decide (r3 ≥ 0)))] 97 ?_
 obtain rfl:=Option.some.inj h
 exact s_ret rfl ⟨_,fin (vs:=[B ((decide (r3 ≥ 0)))]) rfl (absE (absorb_plain rfl) (absEN)) rfl (ou_f (ou_f (ou_n))),kl_n⟩
theorem Ffbd_good {G : Go.Ln.Ground} : Good Tryd.prog G 91 Ffbd_ent:=good_T (fnOf_good (gl_c Ffbe_good (gl_n))) agree_mk (Checked.mixed Tryd.checked) Tryd.func91 (n:=2) (m:=0) ⟨rfl,rfl,by decide⟩ (fun _=>⟨rfl,rfl⟩) (fun a r h=>Ffbd_run a.1 a.2 r h)
def Ffe_A : Str→List V:=oA str
def Ffe_R (r : Bool) : V × List V:=(B (r),[])
noncomputable def Ffe_ent : Ent:=entT [false] Ffe_A Ffe_R fun x=>Ffe x
theorem Ffe_F {s_1 : Str} {r} (h : Ffe s_1=some r) : (Ffe_ent).F (Ffe_A s_1)=some (Ffe_R r):=entT_F (oA_inj str_inj) h
noncomputable def Ffe_c : Code:=bodyOf Tryd.f119
noncomputable abbrev Ffe_ka : Code:=cL (cL (cR (cL (cR (cR Ffe_c)))))
noncomputable abbrev Ffe_kb : Code:=cR (cR (cR Ffe_ka))
noncomputable abbrev Ffe_kc : Code:=cR (cR (cR (cL (cL (cR (cR Ffe_ka))))))
noncomputable def Ffe_E : Env:=mkE Tryd.prog [(78,Ffm_ent),(139,Ffcp_ent),(91,Ffbd_ent)]
def Ffe_Q (x : Str) (r : Bool) : St→Prop:=QF Ffe_E Tryd.f119 [false] (Ffe_A x) (Ffe_R r)
theorem Ffe_la_run (s_1 : Str)  {Q : St→Prop} {K : List It} (hK : noD K=true) : ∀ (x4 : Int) (y : Bool ⊕ Unit),Ffe_la s_1 x4=some y→(∀ r',y=.inl r'→∀ st,Ffe_Q s_1 r' st→Q st)→(∀ u : Unit,y=.inr u→Run Ffe_E 0 Q K (sT 46 [(0,str (s_1))] [] 1))→Run Ffe_E 0 Q (.code Ffe_ka :: .lp Ffe_ka :: .blk 0 :: K) (sT 46 [(0,str (s_1)),(20,I ((len s_1))),(21,I (x4))] [] 1):=by
 refine fix_indP (Ffe_la_fin s_1) ?_
 intro self ih x4 y h hr hn
 unfold Ffe_la_F at h
 refine cq 5 [22] [B ((decide (x4 < (len s_1))))] 17 ?_
 refine sq h (fun h=>?_) (fun h=>?_)
 · refine aq 1 ?_
   refine cq 11 [24,25] [str (s_1),I (x4)] 81 ?_
   obtain ⟨c5,hc5,h⟩:=bS h
   refine oq 97 (.int .u8 ((c5.toNat : Int))) rfl (e_index rfl rfl (i_str rfl rfl hc5)) ?_
   refine cq 7 [4,29] [.int .u8 ((c5.toNat : Int)),B ((decide ((c5.toNat : Int) < 97)))] 161 ?_
   obtain ⟨u6,hu6,h⟩:=lJ h
   have j6 : Run Ffe_E 0 Q (.code Ffe_kc :: .blk 1 :: .code Ffe_kb :: .lp Ffe_ka :: .blk 0 :: K) (sT 46 [(0,str (s_1)),(20,I ((len s_1))),(21,I (x4)),(40,B (u6))] [] 1):=by
     refine sq h (fun h=>?_) (fun h=>?_)
     · refine cq 4 [2] [B (false)] 17 ?_
       exact s_ret rfl (hr _ (Option.some.inj h).symm _ ⟨_,fin (vs:=[B (false)]) rfl (absE (absorb_plain rfl) (absEN)) rfl (ou_f (ou_n)),kl_n⟩)
     · refine aq 1 ?_
       refine cq 5 [21] [I ((w64 (x4 + 1)))] 33 ?_
       refine s_lp ?_
       exact rf [0,20,21] [] (ih _ _ h hr hn :)
   replace h:=hu6
   clear hu6
   refine sp 29 h rfl (fun h=>?_) (fun h=>?_)
   · refine cq 7 [33,36] [B (true),B ((decide ((c5.toNat : Int) < 48)))] 273 ?_
     obtain ⟨u7,hu7,h⟩:=lJ h
     have j7 : Run Ffe_E 0 Q (.code Ffe_kc :: .blk 1 :: .code Ffe_kb :: .lp Ffe_ka :: .blk 0 :: K) (sT 46 [(0,str (s_1)),(20,I ((len s_1))),(21,I (x4)),(40,B (u7))] [] 1):=by
       subst h
       exact rf [0,20,21,40] [] (j6 :)
     replace h:=hu7
     clear hu7
     refine sp 36 h rfl (fun h=>?_) (fun h=>?_)
     · refine cq 5 [40] [B (true)] 337 ?_
       subst h
       exact rf [0,20,21,40] [] (j7 :)
     · refine cq 5 [40] [B ((decide ((c5.toNat : Int) > 57)))] 337 ?_
       subst h
       exact rf [0,20,21,40] [] (j7 :)
   · refine cq 4 [33] [B ((decide ((c5.toNat : Int) > 122)))] 225 ?_
     obtain ⟨u8,hu8,h⟩:=lJ h
     have j8 : Run Ffe_E 0 Q (.code Ffe_kc :: .blk 1 :: .code Ffe_kb :: .lp Ffe_ka :: .blk 0 :: K) (sT 46 [(0,str (s_1)),(20,I ((len s_1))),(21,I (x4)),(40,B (u8))] [] 1):=by
       subst h
       exact rf [0,20,21,40] [] (j6 :)
     replace h:=hu8
     clear hu8
     refine sp 33 h rfl (fun h=>?_) (fun h=>?_)
     · refine cq 3 [36] [B ((decide ((c5.toNat : Int) < 48)))] 273 ?_
       obtain ⟨u9,hu9,h⟩:=lJ h
       have j9 : Run Ffe_E 0 Q (.code Ffe_kc :: .blk 1 :: .code Ffe_kb :: .lp Ffe_ka :: .blk 0 :: K) (sT 46 [(0,str (s_1)),(20,I ((len s_1))),(21,I (x4)),(40,B (u9))] [] 1):=by
         subst h
         exact rf [0,20,21,40] [] (j8 :)
       replace h:=hu9
       clear hu9
       refine sp 36 h rfl (fun h=>?_) (fun h=>?_)
       · refine cq 5 [40] [B (true)] 337 ?_
         subst h
         exact rf [0,20,21,40] [] (j9 :)
       · refine cq 5 [40] [B ((decide ((c5.toNat : Int) > 57)))] 337 ?_
         subst h
         exact rf [0,20,21,40] [] (j9 :)
     · refine cq 8 [40] [B (false)] 337 ?_
       subst h
       exact rf [0,20,21,40] [] (j8 :)
 · refine aq 1 ?_
   exact rf [0] [] (hn _ (Option.some.inj h).symm :) (hk:=hK)
theorem Ffe_run (s_1 : Str) (r : Bool) (h : Ffe s_1=some r) : RunF Ffe_E Tryd.f119 [false] 0 (Ffe_A s_1) (Ffe_R r):=by
 show Run _ _ (Ffe_Q s_1 r) [.code Ffe_c] _
 refine rin (n:=46) [(0,str (s_1))] [] 1 (by kernel_rfl) (by kernel_rfl) (by kernel_rfl) rfl ?_
 unfold Ffe at h
 refine cq 9 [6] [I ((len s_1))] 49 ?_
 obtain ⟨r2,hr2,h⟩:=bS h
 refine oq 65 (B (r2)) rfl (e_callV rfl rfl (call_P rfl rfl rfl (avS (shP rfl) (avS (shP rfl) (avS (shP rfl) (avN)))) (Ffm_F hr2) (.inr rfl) (bl_n) rfl rfl rfl)) ?_
 refine cq 2 [9] [B ((!r2))] 97 ?_
 obtain ⟨y3,hy3,hy31,hy32⟩:=bJ h
 have j3 : ∀ u3,y3=.inr u3→Run Ffe_E 0 (Ffe_Q s_1 r) (.code (cR (cL (cR Ffe_c))) :: .code (cR (cR Ffe_c)) :: []) (sT 46 [(0,str (s_1)),(18,B (u3))] [] 1):=by
   intro u3 hu
   replace h:=hy32 u3 hu
   refine sq h (fun h=>?_) (fun h=>?_)
   · refine cq 4 [2] [B (false)] 17 ?_
     obtain rfl:=Option.some.inj h
     exact s_ret rfl ⟨_,fin (vs:=[B (false)]) rfl (absE (absorb_plain rfl) (absEN)) rfl (ou_f (ou_n)),kl_n⟩
   · refine aq 1 ?_
     refine cq 8 [20,21] [I ((len s_1)),I (0)] 49 ?_
     obtain ⟨y10,hy10,hy101,hy102⟩:=bJ h
     refine s_loop rfl ?_
     refine rf [0,20,21] [] (Ffe_la_run s_1 rfl 0 _ hy10 (fun r' e st hq=>by rw [hy101 r' e] at hq; exact hq) fun u10 hu=>?_)
     replace h:=hy102 u10 hu
     refine aq 2 ?_
     obtain ⟨r11,hr11,h⟩:=bS h
     refine oq 17 (.hs 1 0 [] 1 0 ((r11).map str).length) rfl (e_callV rfl rfl (call_P rfl rfl rfl (avS (shP rfl) (avS (shP rfl) (avN))) (Ffcp_F hr11) (.inr rfl) (bl_n) rfl rfl rfl)) ?_
     refine cq 1 [43] [str (s_1)] 33 ?_
     obtain ⟨r12,hr12,h⟩:=bS h
     refine oq 49 (B (r12)) rfl (e_callV rfl rfl (call_P rfl rfl rfl (avS (sh1 rfl rfl (sh_hsM (f:=str) (g:=str) (xs:=r11) rfl rfl (imms_of str_imm))) (avS (shP rfl) (avN))) (Ffbd_F hr12) (.inl (rfl)) (bl_n) rfl rfl rfl)) ?_
     refine cq 3 [2] [B ((!r12))] 81 ?_
     obtain rfl:=Option.some.inj h
     exact s_ret rfl ⟨_,fin (vs:=[B ((!r12))]) rfl (absE (absorb_plain rfl) (absEN)) rfl (ou_f (ou_n)),kl_n⟩
 have r3 : ∀ r',y3=.inl r'→∀ st,Ffe_Q s_1 r' st→(Ffe_Q s_1 r) st:=fun r' e st hq=>by rw [hy31 r' e] at hq; exact hq
 replace h:=hy3
 refine sp 9 h rfl (fun h=>?_) (fun h=>?_)
 · refine cq 10 [18] [B (true)] 241 ?_
   exact rf [0,18] [] (j3 _ (Option.some.inj h).symm :)
 · refine cq 1 [10] [str (s_1)] 113 ?_
   obtain ⟨c13,hc13,h⟩:=bS h
   refine oy 129 (.int .u8 ((c13.toNat : Int))) rfl (e_index rfl rfl (i_str rfl rfl hc13)) ?_
   refine cq 3 [14] [B ((decide ((c13.toNat : Int) < 97)))] 177 ?_
   obtain ⟨y14,hy14,hy141,hy142⟩:=bL h
   have j14 : ∀ u14,y14=.inr u14→Run Ffe_E 0 (Ffe_Q s_1 r) (.code (cR (cL (cR Ffe_c))) :: .code (cR (cR Ffe_c)) :: []) (sT 46 [(0,str (s_1)),(18,B (u14))] [] 1):=by
     intro u14 hu
     replace h:=hy142 u14 hu
     exact rf [0,18] [] (j3 _ (Option.some.inj h).symm :)
   have r14 : ∀ r',y14=.inl r'→∀ st,Ffe_Q s_1 r' st→(Ffe_Q s_1 r) st:=fun r' e st hq=>r3 r' (hy141 r' e) st hq
   replace h:=hy14
   refine sp 14 h rfl (fun h=>?_) (fun h=>?_)
   · refine cq 5 [18] [B (true)] 241 ?_
     exact rf [0,18] [] (j14 _ (Option.some.inj h).symm :)
   · refine cq 1 [15] [str (s_1)] 193 ?_
     obtain ⟨c15,hc15,h⟩:=bS h
     refine oy 209 (.int .u8 ((c15.toNat : Int))) rfl (e_index rfl rfl (i_str rfl rfl hc15)) ?_
     refine cq 3 [18] [B ((decide ((c15.toNat : Int) > 122)))] 241 ?_
     exact rf [0,18] [] (j14 _ (Option.some.inj h).symm :)
theorem Ffe_good {G : Go.Ln.Ground} : Good Tryd.prog G 119 Ffe_ent:=good_T (fnOf_good (gl_c Ffm_good (gl_c Ffcp_good (gl_c Ffbd_good (gl_n))))) agree_mk (Checked.mixed Tryd.checked) Tryd.func119 (n:=1) (m:=0) ⟨rfl,rfl,by decide⟩ (fun _=>⟨rfl,rfl⟩) (fun a r h=>Ffe_run a r h)
def Ffj_A : Int→List V:=oA I
def Ffj_R (r : Bool) : V × List V:=(B (r),[])
noncomputable def Ffj_ent : Ent:=entT [false] Ffj_A Ffj_R fun x=>Ffj x
theorem Ffj_F {day_1 : Int} {r} (h : Ffj day_1=some r) : (Ffj_ent).F (Ffj_A day_1)=some (Ffj_R r):=entT_F (oA_inj I_inj) h
noncomputable def Ffj_c : Code:=bodyOf Tryd.f58
noncomputable def Ffj_E : Env:=mkE Tryd.prog [(78,Ffm_ent)]
def Ffj_Q (x : Int) (r : Bool) : St→Prop:=QF Ffj_E Tryd.f58 [false] (Ffj_A x) (Ffj_R r)
theorem Ffj_run (day_1 : Int) (r : Bool) (h : Ffj day_1=some r) : RunF Ffj_E Tryd.f58 [false] 0 (Ffj_A day_1) (Ffj_R r):=by
 show Run _ _ (Ffj_Q day_1 r) [.code Ffj_c] _
 refine rin (n:=5) [(0,I (day_1))] [] 1 (by kernel_rfl) (by kernel_rfl) (by kernel_rfl) rfl ?_
 unfold Ffj at h
 refine cq 7 [3] [I (day_1)] 33 ?_
 obtain ⟨r2,hr2,h⟩:=bS h
 refine oq 49 (B (r2)) rfl (e_callV rfl rfl (call_P rfl rfl rfl (avS (shP rfl) (avS (shP rfl) (avS (shP rfl) (avN)))) (Ffm_F hr2) (.inr rfl) (bl_n) rfl rfl rfl)) ?_
 refine cq 2 [2] [B (r2)] 65 ?_
 obtain rfl:=Option.some.inj h
 exact s_ret rfl ⟨_,fin (vs:=[B (r2)]) rfl (absE (absorb_plain rfl) (absEN)) rfl (ou_f (ou_n)),kl_n⟩
theorem Ffj_good {G : Go.Ln.Ground} : Good Tryd.prog G 58 Ffj_ent:=good_T (fnOf_good (gl_c Ffm_good (gl_n))) agree_mk (Checked.mixed Tryd.checked) Tryd.func58 (n:=1) (m:=0) ⟨rfl,rfl,by decide⟩ (fun _=>⟨rfl,rfl⟩) (fun a r h=>Ffj_run a r h)
def Ffh_A : (Condition × Int)→List V:=cA encI_Condition1 (oA I)
def Ffh_R (r : Int) : V × List V:=(I (r),[])
noncomputable def Ffh_entS (slf_Ffh : (Condition × Int)→Option Int) : Ent:=entT [false,false] Ffh_A Ffh_R slf_Ffh
theorem Ffh_FS (slf_Ffh : (Condition × Int)→Option Int) {x} {r} (h : slf_Ffh x=some r) : (Ffh_entS slf_Ffh).F (Ffh_A x)=some (Ffh_R r):=entT_F (cA_inj encI_Condition1_inj (oA_inj I_inj)) h
noncomputable def Ffh_ent : Ent:=Ffh_entS (fixO Ffh_G)
theorem Ffh_F {c_1 : Condition} {so_2 : Int} {r} (h : Ffh c_1 so_2=some r) : Ffh_ent.F (Ffh_A (c_1,so_2))=some (Ffh_R r):=Ffh_FS (fixO Ffh_G) h
noncomputable def Ffh_c : Code:=bodyOf Tryd.f82
noncomputable abbrev Ffh_ka : Code:=cR (cR (cR (cR (cR Ffh_c))))
noncomputable abbrev Ffh_kb : Code:=cR (cL (cR (cR (cR (cR Ffh_c)))))
noncomputable def Ffh_E (slf_Ffh : (Condition × Int)→Option Int) : Env:=mkE Tryd.prog [(82,(Ffh_entS slf_Ffh)),(119,Ffe_ent),(58,Ffj_ent),(78,Ffm_ent)]
def Ffh_Q (slf_Ffh : (Condition × Int)→Option Int) (x : Condition × Int) (r : Int) : St→Prop:=QF (Ffh_E slf_Ffh) Tryd.f82 [false,false] (Ffh_A x) (Ffh_R r)
theorem Ffh_la_run (slf_Ffh : (Condition × Int)→Option Int) (c_1 : Condition) (so_2 : Int)  {Q : St→Prop} {K : List It} (hK : noD K=true) : ∀ (x5 : Int × Int) (y : Int ⊕ Int),Ffh_la slf_Ffh c_1 so_2 x5=some y→(∀ r',y=.inl r'→∀ st,Ffh_Q slf_Ffh (c_1,so_2) r' st→Q st)→(∀ u : Int,y=.inr u→Run (Ffh_E slf_Ffh) 0 Q K (sT 78 [(1,I (u))] [] 1))→Run (Ffh_E slf_Ffh) 0 Q (.code (cL (cL (cR (cL Ffh_ka)))) :: .lp (cL (cL (cR (cL Ffh_ka)))) :: .blk 0 :: K) (sT 78 [(1,I (x5.1)),(65,.isl false ((c_1.Parts).map encI_Condition)),(66,I ((len c_1.Parts))),(67,I (x5.2))] [] 1):=by
 refine fix_indP (Ffh_la_fin slf_Ffh c_1 so_2) ?_
 intro self ih x5 y h hr hn
 unfold Ffh_la_F at h
 refine cq 5 [68] [B ((decide (x5.2 < (len c_1.Parts))))] 17 ?_
 refine sq h (fun h=>?_) (fun h=>?_)
 · refine aq 1 ?_
   refine aq 4 ?_
   obtain ⟨e6,he6,h⟩:=bS h
   refine oq 33 (.iptr (.agg [I (e6.Op),str (e6.Name),I (e6.Day),.isl false ((e6.Parts).map encI_Condition)]) 0) rfl (e_indexAddr rfl rfl rfl (ix_islE rfl rfl (encI_Condition_eq e6) rfl he6)) ?_
   refine ck 2 [7,70] [] [49] [] [.hp 49 0 [] 4 0 0,.agg [I (e6.Op),str (e6.Name),I (e6.Day),.isl false ((e6.Parts).map encI_Condition)]] [some ⟨0,4,[.agg [I (0),str ([]),I (0),.isl true []]]⟩] 65 (by kernel_rfl) ?_
   refine run_row 49 [.agg [I (0),str ([]),I (0),.usl 4 (([]).map encO_Condition)]] rfl rfl (cvs_c (cv_agg (cvs_c (.refl _) (cvs_c (.refl _) (cvs_c (.refl _) (cvs_c (.nil _) (cvs_n)))))) cvs_n) ?_
   refine ck 6 [71,72] [] [49] [] [.agg [I (e6.Op),str (e6.Name),I (e6.Day),.isl false ((e6.Parts).map encI_Condition)],I (x5.1)] [some ⟨2,4,[.agg [I (e6.Op),str (e6.Name),I (e6.Day),.isl false ((e6.Parts).map encI_Condition)]]⟩] 113 (by kernel_rfl) ?_
   obtain ⟨r7,hr7,h⟩:=bS h
   refine oq 129 (I (r7)) rfl (e_callV rfl rfl (call_P rfl rfl rfl (avS (shP rfl) (avS (shP rfl) (avN))) (Ffh_FS slf_Ffh hr7) (.inr rfl) (bl_n) rfl rfl rfl)) ?_
   refine cq 7 [1,75] [I (r7),B ((decide (r7 < 0)))] 177 ?_
   refine sq h (fun h=>?_) (fun h=>?_)
   · refine cq 4 [4] [I ((-1))] 193 ?_
     exact s_ret rfl (hr _ (Option.some.inj h).symm _ ⟨_,fin (vs:=[I ((-1))]) rfl (absE (absorb_plain rfl) (absEN)) rfl (ou_f (ou_f (ou_n))),kl_n⟩)
   · refine aq 1 ?_
     refine cq 5 [67] [I ((w64 (x5.2 + 1)))] 209 ?_
     refine s_lp ?_
     exact rf [1,65,66,67] [] (ih _ _ h hr hn :)
 · refine aq 1 ?_
   exact rf [1] [] (hn _ (Option.some.inj h).symm :) (hk:=hK)
theorem Ffh_run (slf_Ffh : (Condition × Int)→Option Int) (c_1 : Condition) (so_2 : Int) (r : Int) (h : Ffh_B slf_Ffh c_1 so_2=some r) : RunF (Ffh_E slf_Ffh) Tryd.f82 [false,false] 0 (Ffh_A (c_1,so_2)) (Ffh_R r):=by
 show Run _ _ (Ffh_Q slf_Ffh (c_1,so_2) r) [.code Ffh_c] _
 refine rin (n:=78) [(0,.agg [I (c_1.Op),str (c_1.Name),I (c_1.Day),.isl false ((c_1.Parts).map encI_Condition)]),(1,I (so_2))] [] 1 (by kernel_rfl) (by kernel_rfl) (by kernel_rfl) rfl ?_
 unfold Ffh_B at h
 refine ck 13 [1,2] [] [1] [] [I ((w64 (so_2 + 1))),.hp 1 0 [] 4 0 0] [some ⟨0,4,[.agg [I (c_1.Op),str (c_1.Name),I (c_1.Day),.isl false ((c_1.Parts).map encI_Condition)]]⟩] 81 (by kernel_rfl) ?_
 refine oq 97 (.hs 81 0 [] 1 0 7) rfl (e_buildSlice rfl (bs_mk (f:=I) (xs:=[]) (z:=I (0)) (es:=[I ((-1)),I (0),I (0),I (0),I (1),I (2),I (2)]) (ws:=[I ((-1)),I (0),I (0),I (0),I (1),I (2),I (2)]) rfl rfl rfl (by decide) rfl (abs_each_plain rfl) rfl)) ?_
 refine cq 4 [5] [.hs 81 0 [] 1 0 7] 113 ?_
 refine s_draw [0,1,3,7,15,31,63,127,255,511,1023,2047,511,511,8703,29183,61951,131071,262143] rfl (by decide +kernel) ?_
 refine dk 3 [13,12,11] [B ((decide ((w64 (so_2 + 1)) > 15))),B ((decide ((w64 (so_2 + 1)) > 15))),I ((w64 (so_2 + 1)))] ?_
 obtain ⟨y3,hy3,hy31,hy32⟩:=bJ h
 have j3 : ∀ u3,y3=.inr u3→Run (Ffh_E slf_Ffh) 0 (Ffh_Q slf_Ffh (c_1,so_2) r) (.code (cR (cL (cR (cR (cR Ffh_c))))) :: .code (cR (cR (cR (cR Ffh_c)))) :: []) (sT 78 [(1,I ((w64 (so_2 + 1)))),(2,.hp 1 0 [] 4 0 0),(29,B (u3))] [⟨0,4,[.agg [I (c_1.Op),str (c_1.Name),I (c_1.Day),.isl false ((c_1.Parts).map encI_Condition)]]⟩] 2):=by
   intro u3 hu
   replace h:=hy32 u3 hu
   refine sq h (fun h=>?_) (fun h=>?_)
   · refine cq 4 [4] [I ((-1))] 18 ?_
     obtain rfl:=Option.some.inj h
     exact s_ret rfl ⟨_,fin (vs:=[I ((-1))]) rfl (absE (absorb_plain rfl) (absEN)) rfl (ou_f (ou_f (ou_n))),kl_n⟩
   · refine aq 1 ?_
     refine cq 11 [37] [B ((!((c_1.Op == 2) == (!(c_1.Name == ([] : Str))))))] 130 ?_
     obtain ⟨y4,hy4,hy41,hy42⟩:=bJ h
     have j4 : ∀ u4,y4=.inr u4→Run (Ffh_E slf_Ffh) 0 (Ffh_Q slf_Ffh (c_1,so_2) r) (.code Ffh_kb :: .code Ffh_ka :: []) (sT 78 [(1,I ((w64 (so_2 + 1)))),(2,.hp 1 0 [] 4 0 0),(63,B (u4))] [⟨0,4,[.agg [I (c_1.Op),str (c_1.Name),I (c_1.Day),.isl false ((c_1.Parts).map encI_Condition)]]⟩] 2):=by
       intro u4 hu
       replace h:=hy42 u4 hu
       refine sq h (fun h=>?_) (fun h=>?_)
       · refine cq 4 [4] [I ((-1))] 18 ?_
         obtain rfl:=Option.some.inj h
         exact s_ret rfl ⟨_,fin (vs:=[I ((-1))]) rfl (absE (absorb_plain rfl) (absEN)) rfl (ou_f (ou_f (ou_n))),kl_n⟩
       · refine aq 1 ?_
         refine cq 5 [65] [.isl false ((c_1.Parts).map encI_Condition)] 34 ?_
         refine oq 50 (I ((len c_1.Parts))) rfl (e_len rfl rfl rfl (l_isl rfl)) ?_
         refine cq 3 [67] [I (0)] 66 ?_
         obtain ⟨y8,hy8,hy81,hy82⟩:=bJ h
         refine s_loop rfl ?_
         refine rf [1,65,66,67] [] (Ffh_la_run slf_Ffh c_1 so_2 rfl ((w64 (so_2 + 1)),0) _ hy8 (fun r' e st hq=>by rw [hy81 r' e] at hq; exact hq) fun u8 hu=>?_)
         replace h:=hy82 u8 hu
         refine cq 5 [4] [I (u8)] 33 ?_
         obtain rfl:=Option.some.inj h
         exact s_ret rfl ⟨_,fin (vs:=[I (u8)]) rfl (absE (absorb_plain rfl) (absEN)) rfl (ou_f (ou_f (ou_n))),kl_n⟩
     have r4 : ∀ r',y4=.inl r'→∀ st,Ffh_Q slf_Ffh (c_1,so_2) r' st→(Ffh_Q slf_Ffh (c_1,so_2) r) st:=fun r' e st hq=>by rw [hy41 r' e] at hq; exact hq
     replace h:=hy4
     refine sp 37 h rfl (fun h=>?_) (fun h=>?_)
     · refine cq 27 [63] [B (true)] 546 ?_
       exact rf [1,2,63] [1] (j4 _ (Option.some.inj h).symm :)
     · refine cq 4 [41] [B ((c_1.Op == 2))] 194 ?_
       obtain ⟨y9,hy9,hy91,hy92⟩:=bL h
       have j9 : ∀ u9,y9=.inr u9→Run (Ffh_E slf_Ffh) 0 (Ffh_Q slf_Ffh (c_1,so_2) r) (.code Ffh_kb :: .code Ffh_ka :: []) (sT 78 [(1,I ((w64 (so_2 + 1)))),(2,.hp 1 0 [] 4 0 0),(63,B (u9))] [⟨0,4,[.agg [I (c_1.Op),str (c_1.Name),I (c_1.Day),.isl false ((c_1.Parts).map encI_Condition)]]⟩] 2):=by
         intro u9 hu
         replace h:=hy92 u9 hu
         exact rf [1,2,63] [1] (j4 _ (Option.some.inj h).symm :)
       have r9 : ∀ r',y9=.inl r'→∀ st,Ffh_Q slf_Ffh (c_1,so_2) r' st→(Ffh_Q slf_Ffh (c_1,so_2) r) st:=fun r' e st hq=>r4 r' (hy91 r' e) st hq
       replace h:=hy9
       refine sp 41 h rfl (fun h=>?_) (fun h=>?_)
       · refine cq 2 [43] [str (c_1.Name)] 226 ?_
         obtain ⟨r10,hr10,h⟩:=bS h
         refine oy 242 (B (r10)) rfl (e_callV rfl rfl (call_P rfl rfl rfl (avS (shP rfl) (avN)) (Ffe_F hr10) (.inr rfl) (bl_n) rfl rfl rfl)) ?_
         refine cq 4 [48] [B ((!r10))] 306 ?_
         obtain ⟨y11,hy11,hy111,hy112⟩:=bL h
         have j11 : ∀ u11,y11=.inr u11→Run (Ffh_E slf_Ffh) 0 (Ffh_Q slf_Ffh (c_1,so_2) r) (.code Ffh_kb :: .code Ffh_ka :: []) (sT 78 [(1,I ((w64 (so_2 + 1)))),(2,.hp 1 0 [] 4 0 0),(63,B (u11))] [⟨0,4,[.agg [I (c_1.Op),str (c_1.Name),I (c_1.Day),.isl false ((c_1.Parts).map encI_Condition)]]⟩] 2):=by
           intro u11 hu
           replace h:=hy112 u11 hu
           exact rf [1,2,63] [1] (j9 _ (Option.some.inj h).symm :)
         have r11 : ∀ r',y11=.inl r'→∀ st,Ffh_Q slf_Ffh (c_1,so_2) r' st→(Ffh_Q slf_Ffh (c_1,so_2) r) st:=fun r' e st hq=>r9 r' (hy111 r' e) st hq
         replace h:=hy11
         refine sp 48 h rfl (fun h=>?_) (fun h=>?_)
         · refine cq 16 [63] [B (true)] 546 ?_
           exact rf [1,2,63] [1] (j11 _ (Option.some.inj h).symm :)
         · refine cq 4 [52] [B ((c_1.Op != 3))] 370 ?_
           obtain ⟨y12,hy12,hy121,hy122⟩:=bL h
           have j12 : ∀ u12,y12=.inr u12→Run (Ffh_E slf_Ffh) 0 (Ffh_Q slf_Ffh (c_1,so_2) r) (.code Ffh_kb :: .code Ffh_ka :: []) (sT 78 [(1,I ((w64 (so_2 + 1)))),(2,.hp 1 0 [] 4 0 0),(63,B (u12))] [⟨0,4,[.agg [I (c_1.Op),str (c_1.Name),I (c_1.Day),.isl false ((c_1.Parts).map encI_Condition)]]⟩] 2):=by
             intro u12 hu
             replace h:=hy122 u12 hu
             exact rf [1,2,63] [1] (j11 _ (Option.some.inj h).symm :)
           have r12 : ∀ r',y12=.inl r'→∀ st,Ffh_Q slf_Ffh (c_1,so_2) r' st→(Ffh_Q slf_Ffh (c_1,so_2) r) st:=fun r' e st hq=>r11 r' (hy121 r' e) st hq
           replace h:=hy12
           refine sp 52 h rfl (fun h=>?_) (fun h=>?_)
           · refine cq 6 [58] [B ((c_1.Day != 0))] 466 ?_
             obtain ⟨y13,hy13,hy131,hy132⟩:=bL h
             have j13 : ∀ u13,y13=.inr u13→Run (Ffh_E slf_Ffh) 0 (Ffh_Q slf_Ffh (c_1,so_2) r) (.code Ffh_kb :: .code Ffh_ka :: []) (sT 78 [(1,I ((w64 (so_2 + 1)))),(2,.hp 1 0 [] 4 0 0),(63,B (u13))] [⟨0,4,[.agg [I (c_1.Op),str (c_1.Name),I (c_1.Day),.isl false ((c_1.Parts).map encI_Condition)]]⟩] 2):=by
               intro u13 hu
               replace h:=hy132 u13 hu
               exact rf [1,2,63] [1] (j12 _ (Option.some.inj h).symm :)
             have r13 : ∀ r',y13=.inl r'→∀ st,Ffh_Q slf_Ffh (c_1,so_2) r' st→(Ffh_Q slf_Ffh (c_1,so_2) r) st:=fun r' e st hq=>r12 r' (hy131 r' e) st hq
             replace h:=hy13
             refine sp 58 h rfl (fun h=>?_) (fun h=>?_)
             · refine cq 6 [63] [B (true)] 546 ?_
               exact rf [1,2,63] [1] (j13 _ (Option.some.inj h).symm :)
             · refine cq 2 [60] [I (c_1.Day)] 498 ?_
               obtain ⟨r14,hr14,h⟩:=bS h
               refine oy 514 (B (r14)) rfl (e_callV rfl rfl (call_P rfl rfl rfl (avS (shP rfl) (avN)) (Ffj_F hr14) (.inr rfl) (bl_n) rfl rfl rfl)) ?_
               refine cq 3 [63] [B ((!r14))] 546 ?_
               exact rf [1,2,63] [1] (j13 _ (Option.some.inj h).symm :)
           · refine cq 8 [58,60] [B (false),I (c_1.Day)] 498 ?_
             obtain ⟨r15,hr15,h⟩:=bS h
             refine oy 514 (B (r15)) rfl (e_callV rfl rfl (call_P rfl rfl rfl (avS (shP rfl) (avN)) (Ffj_F hr15) (.inr rfl) (bl_n) rfl rfl rfl)) ?_
             refine cq 3 [63] [B ((!r15))] 546 ?_
             exact rf [1,2,63] [1] (j12 _ (Option.some.inj h).symm :)
       · refine cq 11 [48,52] [B (false),B ((c_1.Op != 3))] 370 ?_
         obtain ⟨y16,hy16,hy161,hy162⟩:=bL h
         have j16 : ∀ u16,y16=.inr u16→Run (Ffh_E slf_Ffh) 0 (Ffh_Q slf_Ffh (c_1,so_2) r) (.code Ffh_kb :: .code Ffh_ka :: []) (sT 78 [(1,I ((w64 (so_2 + 1)))),(2,.hp 1 0 [] 4 0 0),(63,B (u16))] [⟨0,4,[.agg [I (c_1.Op),str (c_1.Name),I (c_1.Day),.isl false ((c_1.Parts).map encI_Condition)]]⟩] 2):=by
           intro u16 hu
           replace h:=hy162 u16 hu
           exact rf [1,2,63] [1] (j9 _ (Option.some.inj h).symm :)
         have r16 : ∀ r',y16=.inl r'→∀ st,Ffh_Q slf_Ffh (c_1,so_2) r' st→(Ffh_Q slf_Ffh (c_1,so_2) r) st:=fun r' e st hq=>r9 r' (hy161 r' e) st hq
         replace h:=hy16
         refine sp 52 h rfl (fun h=>?_) (fun h=>?_)
         · refine cq 6 [58] [B ((c_1.Day != 0))] 466 ?_
           obtain ⟨y17,hy17,hy171,hy172⟩:=bL h
           have j17 : ∀ u17,y17=.inr u17→Run (Ffh_E slf_Ffh) 0 (Ffh_Q slf_Ffh (c_1,so_2) r) (.code Ffh_kb :: .code Ffh_ka :: []) (sT 78 [(1,I ((w64 (so_2 + 1)))),(2,.hp 1 0 [] 4 0 0),(63,B (u17))] [⟨0,4,[.agg [I (c_1.Op),str (c_1.Name),I (c_1.Day),.isl false ((c_1.Parts).map encI_Condition)]]⟩] 2):=by
             intro u17 hu
             replace h:=hy172 u17 hu
             exact rf [1,2,63] [1] (j16 _ (Option.some.inj h).symm :)
           have r17 : ∀ r',y17=.inl r'→∀ st,Ffh_Q slf_Ffh (c_1,so_2) r' st→(Ffh_Q slf_Ffh (c_1,so_2) r) st:=fun r' e st hq=>r16 r' (hy171 r' e) st hq
           replace h:=hy17
           refine sp 58 h rfl (fun h=>?_) (fun h=>?_)
           · refine cq 6 [63] [B (true)] 546 ?_
             exact rf [1,2,63] [1] (j17 _ (Option.some.inj h).symm :)
           · refine cq 2 [60] [I (c_1.Day)] 498 ?_
             obtain ⟨r18,hr18,h⟩:=bS h
             refine oy 514 (B (r18)) rfl (e_callV rfl rfl (call_P rfl rfl rfl (avS (shP rfl) (avN)) (Ffj_F hr18) (.inr rfl) (bl_n) rfl rfl rfl)) ?_
             refine cq 3 [63] [B ((!r18))] 546 ?_
             exact rf [1,2,63] [1] (j17 _ (Option.some.inj h).symm :)
         · refine cq 8 [58,60] [B (false),I (c_1.Day)] 498 ?_
           obtain ⟨r19,hr19,h⟩:=bS h
           refine oy 514 (B (r19)) rfl (e_callV rfl rfl (call_P rfl rfl rfl (avS (shP rfl) (avN)) (Ffj_F hr19) (.inr rfl) (bl_n) rfl rfl rfl)) ?_
           refine cq 3 [63] [B ((!r19))] 546 ?_
           exact rf [1,2,63] [1] (j16 _ (Option.some.inj h).symm :)
 have r3 : ∀ r',y3=.inl r'→∀ st,Ffh_Q slf_Ffh (c_1,so_2) r' st→(Ffh_Q slf_Ffh (c_1,so_2) r) st:=fun r' e st hq=>by rw [hy31 r' e] at hq; exact hq
 replace h:=hy3
 refine sp 13 h rfl (fun h=>?_) (fun h=>?_)
 · refine dk 16 [29,28,27,26,25,24,23,22,21,20,19,18,17,16,15,14] [B (true),.und,.und,.und,.und,.und,.und,.und,.und,.und,B (true),B (true),.und,.und,.und,.und] ?_
   refine de 417 rfl rfl ?_
   exact rf [1,2,29] [1] (j3 _ (Option.some.inj h).symm :)
 · refine dy [1] [] (.hp 1 0 [] 4 0 0) rfl (e_fieldAddr rfl rfl rfl) ?_
   refine dy [1] [] (I (c_1.Op)) rfl (e_ld rfl rfl) ?_
   obtain ⟨r20,hr20,h⟩:=bS h
   refine dy [] [] (B (r20)) rfl (e_callV rfl rfl (call_P rfl rfl rfl (avS (shP rfl) (avS (shP rfl) (avS (shP rfl) (avN)))) (Ffm_F hr20) (.inr rfl) (bl_n) rfl rfl rfl)) ?_ (w_callO rfl rfl rfl rfl (avS (shP rfl) (avS (shP rfl) (avS (shP rfl) (avN)))) (Ffm_F hr20) (.inr rfl) rfl)
   refine dk 3 [19,18,17] [B ((!r20)),B ((!r20)),B ((!r20))] ?_
   obtain ⟨y21,hy21,hy211,hy212⟩:=bL h
   have j21 : ∀ u21,y21=.inr u21→Run (Ffh_E slf_Ffh) 0 (Ffh_Q slf_Ffh (c_1,so_2) r) (.code (cR (cL (cR (cR (cR Ffh_c))))) :: .code (cR (cR (cR (cR Ffh_c)))) :: []) (sT 78 [(1,I ((w64 (so_2 + 1)))),(2,.hp 1 0 [] 4 0 0),(29,B (u21))] [⟨0,4,[.agg [I (c_1.Op),str (c_1.Name),I (c_1.Day),.isl false ((c_1.Parts).map encI_Condition)]]⟩] 2):=by
     intro u21 hu
     replace h:=hy212 u21 hu
     exact rf [1,2,29] [1] (j3 _ (Option.some.inj h).symm :)
   have r21 : ∀ r',y21=.inl r'→∀ st,Ffh_Q slf_Ffh (c_1,so_2) r' st→(Ffh_Q slf_Ffh (c_1,so_2) r) st:=fun r' e st hq=>r3 r' (hy211 r' e) st hq
   replace h:=hy21
   refine sp 19 h rfl (fun h=>?_) (fun h=>?_)
   · refine dk 10 [29,28,27,26,25,24,23,22,21,20] [B (true),.und,.und,.und,.und,.und,.und,.und,.und,.und] ?_
     refine de 417 rfl rfl ?_
     exact rf [1,2,29] [1] (j21 _ (Option.some.inj h).symm :)
   · refine dy [1] [] (.hp 1 0 [] 4 0 3) rfl (e_fieldAddr rfl rfl rfl) ?_
     refine dy [1] [] (.isl false ((c_1.Parts).map encI_Condition)) rfl (e_ld rfl rfl) ?_
     refine dy [] [] (I ((len c_1.Parts))) rfl (e_len rfl rfl rfl (l_isl rfl)) ?_
     refine dk 1 [23] [.hs 81 0 [] 1 0 7] ?_
     refine dy [1] [] (.hp 1 0 [] 4 0 0) rfl (e_fieldAddr rfl rfl rfl) ?_
     refine dy [1] [] (I (c_1.Op)) rfl (e_ld rfl rfl) ?_
     obtain ⟨e22,he22,h⟩:=bS h
     refine dy [81] [] (.hp 81 0 [] 1 (0 + Int.toNat (c_1.Op)) 0) rfl (e_indexAddr rfl rfl rfl (ix_hsM (f:=I) (xs:=[(-1),0,0,0,1,2,2]) rfl rfl rfl he22)) ?_
     refine dy [81] [] (I (e22)) rfl (e_ld rfl (ld_at (path:=[]) rfl rfl rfl (ra_n) (get_map (f:=I) (xs:=[(-1),0,0,0,1,2,2]) he22) rfl rfl rfl)) ?_
     refine dk 2 [29,28] [B (((len c_1.Parts) != e22)),B (((len c_1.Parts) != e22))] ?_
     refine de 417 rfl rfl ?_
     exact rf [1,2,29] [1] (j21 _ (Option.some.inj h).symm :)
theorem Ffh_good {G : Go.Ln.Ground} : Good Tryd.prog G 82 Ffh_ent:=good_rec fun slf_Ffh g_Ffh=>good_T (fnOf_good (gl_c g_Ffh (gl_c Ffe_good (gl_c Ffj_good (gl_c Ffm_good (gl_n)))))) agree_mk (Checked.mixed Tryd.checked) Tryd.func82 (n:=2) (m:=0) ⟨rfl,rfl,by decide⟩ (fun _=>⟨rfl,rfl⟩) (fun a r h=>Ffh_run slf_Ffh a.1 a.2 r h)
def Ffd_A : Condition→List V:=oA encI_Condition1
def Ffd_R (r : Bool) : V × List V:=(B (r),[])
noncomputable def Ffd_ent : Ent:=entT [false] Ffd_A Ffd_R fun x=>Ffd x
theorem Ffd_F {c_1 : Condition} {r} (h : Ffd c_1=some r) : (Ffd_ent).F (Ffd_A c_1)=some (Ffd_R r):=entT_F (oA_inj encI_Condition1_inj) h
noncomputable def Ffd_c : Code:=bodyOf Tryd.f40
noncomputable def Ffd_E : Env:=mkE Tryd.prog [(82,Ffh_ent)]
def Ffd_Q (x : Condition) (r : Bool) : St→Prop:=QF Ffd_E Tryd.f40 [false] (Ffd_A x) (Ffd_R r)
theorem Ffd_run (c_1 : Condition) (r : Bool) (h : Ffd c_1=some r) : RunF Ffd_E Tryd.f40 [false] 0 (Ffd_A c_1) (Ffd_R r):=by
 show Run _ _ (Ffd_Q c_1 r) [.code Ffd_c] _
 refine rin (n:=6) [(0,.agg [I (c_1.Op),str (c_1.Name),I (c_1.Day),.isl false ((c_1.Parts).map encI_Condition)])] [] 1 (by kernel_rfl) (by kernel_rfl) (by kernel_rfl) rfl ?_
 unfold Ffd at h
 refine cq 8 [3] [.agg [I (c_1.Op),str (c_1.Name),I (c_1.Day),.isl false ((c_1.Parts).map encI_Condition)]] 49 ?_
 obtain ⟨r2,hr2,h⟩:=bS h
 refine oq 65 (I (r2)) rfl (e_callV rfl rfl (call_P rfl rfl rfl (avS (shP rfl) (avS (shP rfl) (avN))) (Ffh_F hr2) (.inr rfl) (bl_n) rfl rfl rfl)) ?_
 refine cq 3 [2] [B ((decide (r2 > 0)))] 97 ?_
 obtain rfl:=Option.some.inj h
 exact s_ret rfl ⟨_,fin (vs:=[B ((decide (r2 > 0)))]) rfl (absE (absorb_plain rfl) (absEN)) rfl (ou_f (ou_n)),kl_n⟩
theorem Ffd_good {G : Go.Ln.Ground} : Good Tryd.prog G 40 Ffd_ent:=good_T (fnOf_good (gl_c Ffh_good (gl_n))) agree_mk (Checked.mixed Tryd.checked) Tryd.func40 (n:=1) (m:=0) ⟨rfl,rfl,by decide⟩ (fun _=>⟨rfl,rfl⟩) (fun a r h=>Ffd_run a r h)
def Ffg_A : (Condition × (List Str))→List V:=cA encI_Condition1 (oA (usE 1 str))
def Ffg_R (r : (List Str)) : V × List V:=(.usl 1 ((r).map str),[.dead])
noncomputable def Ffg_entS (slf_Ffg : (Condition × (List Str))→Option ((List Str))) : Ent:=entT [false,true] Ffg_A Ffg_R slf_Ffg
theorem Ffg_FS (slf_Ffg : (Condition × (List Str))→Option ((List Str))) {x} {r} (h : slf_Ffg x=some r) : (Ffg_entS slf_Ffg).F (Ffg_A x)=some (Ffg_R r):=entT_F (cA_inj encI_Condition1_inj (oA_inj (usl_inj str_inj))) h
noncomputable def Ffg_ent : Ent:=entN [none,some 1] (Ffg_entS (fixO Ffg_G))
theorem Ffg_F {c_3 : Condition} {list_4 : List Str} {r} (h : Ffg c_3 list_4=some r) : Ffg_ent.F (Ffg_A (c_3,list_4))=some (Ffg_R r):=Ffg_FS (fixO Ffg_G) h
noncomputable def Ffg_c : Code:=bodyOf Tryd.f48
noncomputable def Ffg_E (slf_Ffg : (Condition × (List Str))→Option ((List Str))) : Env:=mkE Tryd.prog [(48,(Ffg_entS slf_Ffg))]
def Ffg_Q (slf_Ffg : (Condition × (List Str))→Option ((List Str))) (x : Condition × (List Str)) (r : (List Str)) : St→Prop:=QF (Ffg_E slf_Ffg) Tryd.f48 [false,true] (Ffg_A x) (Ffg_R r)
theorem Ffg_la_run (slf_Ffg : (Condition × (List Str))→Option ((List Str))) (c_3 : Condition) (list_4 : List Str)  {Q : St→Prop} {K : List It} (hK : noD K=true) : ∀ (x4 : Int × (List Str)) (y : ((List Str)) ⊕ ((List Str))),Ffg_la slf_Ffg c_3 list_4 x4=some y→(∀ r',y=.inl r'→∀ st,Ffg_Q slf_Ffg (c_3,list_4) r' st→Q st)→(∀ u : (List Str),y=.inr u→Run (Ffg_E slf_Ffg) 1 Q K (sO 27 [(1,.hs 2 0 [] 1 0 ((u).map str).length)] [none,some ⟨0,1,(u).map str⟩] 3))→Run (Ffg_E slf_Ffg) 1 Q (.code (cL (cL (cR (cL (cR (cR Ffg_c)))))) :: .lp (cL (cL (cR (cL (cR (cR Ffg_c)))))) :: .blk 0 :: K) (sO 27 [(1,.hs 2 0 [] 1 0 ((x4.2).map str).length),(16,.isl false ((c_3.Parts).map encI_Condition)),(17,I ((len c_3.Parts))),(18,I (x4.1))] [none,some ⟨0,1,(x4.2).map str⟩] 3):=by
 refine fix_indP (Ffg_la_fin slf_Ffg c_3 list_4) ?_
 intro self ih x4 y h hr hn
 unfold Ffg_la_F at h
 refine cq 5 [19] [B ((decide (x4.1 < (len c_3.Parts))))] 19 ?_
 refine sq h (fun h=>?_) (fun h=>?_)
 · refine aq 1 ?_
   refine aq 4 ?_
   obtain ⟨e5,he5,h⟩:=bS h
   refine oq 35 (.iptr (.agg [I (e5.Op),str (e5.Name),I (e5.Day),.isl false ((e5.Parts).map encI_Condition)]) 0) rfl (e_indexAddr rfl rfl rfl (ix_islE rfl rfl (encI_Condition_eq e5) rfl he5)) ?_
   refine ck 2 [6,21] [] [51] [] [.hp 51 0 [] 4 0 0,.agg [I (e5.Op),str (e5.Name),I (e5.Day),.isl false ((e5.Parts).map encI_Condition)]] [some ⟨0,4,[.agg [I (0),str ([]),I (0),.isl true []]]⟩] 67 (by kernel_rfl) ?_
   refine run_row 51 [.agg [I (0),str ([]),I (0),.usl 4 (([]).map encO_Condition)]] rfl rfl (cvs_c (cv_agg (cvs_c (.refl _) (cvs_c (.refl _) (cvs_c (.refl _) (cvs_c (.nil _) (cvs_n)))))) cvs_n) ?_
   refine ck 5 [22,23] [] [51] [] [.agg [I (e5.Op),str (e5.Name),I (e5.Day),.isl false ((e5.Parts).map encI_Condition)],.hs 2 0 [] 1 0 ((x4.2).map str).length] [some ⟨2,4,[.agg [I (e5.Op),str (e5.Name),I (e5.Day),.isl false ((e5.Parts).map encI_Condition)]]⟩] 115 (by kernel_rfl) ?_
   obtain ⟨r6,hr6,h⟩:=bS h
   refine oq 131 (.hs 115 0 [] 1 0 ((r6).map str).length) rfl (e_callV rfl rfl (call_P rfl rfl rfl (avS (shP rfl) (avO (hd1 rfl (hd_hs (path:=[]) rfl rfl (ra_n) rfl)) (avN))) (Ffg_FS slf_Ffg hr6) (.inr rfl) (bl_c rfl rfl rfl bk_dead (bl_n)) rfl rfl rfl)) ?_
   refine cq 7 [1,18] [.hs 115 0 [] 1 0 ((r6).map str).length,I ((w64 (x4.1 + 1)))] 179 ?_
   refine s_lp ?_
   exact rg [1,16,17,18] [180,115] (ih _ _ h hr hn :)
 · refine aq 1 ?_
   exact rg [1] [20,2] (hn _ (Option.some.inj h).symm :) (hk:=hK)
theorem Ffg_run (slf_Ffg : (Condition × (List Str))→Option ((List Str))) (c_3 : Condition) (list_4 : List Str) (r : (List Str)) (h : Ffg_B slf_Ffg c_3 list_4=some r) : RunF (Ffg_E slf_Ffg) Tryd.f48 [false,true] 1 (Ffg_A (c_3,list_4)) (Ffg_R r):=by
 show Run _ _ (Ffg_Q slf_Ffg (c_3,list_4) r) [.code Ffg_c] _
 refine rin (n:=27) [(0,.agg [I (c_3.Op),str (c_3.Name),I (c_3.Day),.isl false ((c_3.Parts).map encI_Condition)]),(1,.hs 1 0 [] 1 0 ((list_4).map str).length)] [(1,some ⟨0,1,(list_4).map str⟩)] 2 (by kernel_rfl) (by kernel_rfl) (by kernel_rfl) rfl ?_
 unfold Ffg_B at h
 refine ck 12 [2,9] [] [2] [] [.hp 2 0 [] 4 0 0,B ((c_3.Op == 2))] [some ⟨0,4,[.agg [I (c_3.Op),str (c_3.Name),I (c_3.Day),.isl false ((c_3.Parts).map encI_Condition)]]⟩] 82 (by kernel_rfl) ?_
 obtain ⟨y3,hy3,hy31,hy32⟩:=bJ h
 have j3 : ∀ u3,y3=.inr u3→Run (Ffg_E slf_Ffg) 1 (Ffg_Q slf_Ffg (c_3,list_4) r) (.code (cR (cR Ffg_c)) :: []) (sO 27 [(1,.hs 2 0 [] 1 0 ((u3).map str).length),(2,.hp 3 0 [] 4 0 0)] [none,some ⟨0,1,(u3).map str⟩,some ⟨0,4,[.agg [I (c_3.Op),str (c_3.Name),I (c_3.Day),.isl false ((c_3.Parts).map encI_Condition)]]⟩] 4):=by
   intro u3 hu
   replace h:=hy32 u3 hu
   refine cq 5 [16] [.isl false ((c_3.Parts).map encI_Condition)] 36 ?_
   refine oq 52 (I ((len c_3.Parts))) rfl (e_len rfl rfl rfl (l_isl rfl)) ?_
   refine cq 3 [18] [I (0)] 68 ?_
   obtain ⟨y7,hy7,hy71,hy72⟩:=bJ h
   refine s_loop rfl ?_
   refine rg [1,16,17,18] [69,2] (Ffg_la_run slf_Ffg c_3 list_4 rfl (0,u3) _ hy7 (fun r' e st hq=>by rw [hy71 r' e] at hq; exact hq) fun u7 hu=>?_)
   replace h:=hy72 u7 hu
   refine cq 5 [4] [.hs 2 0 [] 1 0 ((u7).map str).length] 35 ?_
   obtain rfl:=Option.some.inj h
   exact s_ret rfl ⟨_,fin (vs:=[.hs 2 0 [] 1 0 ((u7).map str).length]) rfl (absE (abs1 rfl (abs_hs rfl rfl)) (absEN)) rfl (ou_f (ou_1 rfl (oc_no rfl) (ou_n))),kl_d (kl_n)⟩
 have r3 : ∀ r',y3=.inl r'→∀ st,Ffg_Q slf_Ffg (c_3,list_4) r' st→(Ffg_Q slf_Ffg (c_3,list_4) r) st:=fun r' e st hq=>by rw [hy31 r' e] at hq; exact hq
 replace h:=hy3
 refine sq h (fun h=>?_) (fun h=>?_)
 · refine cq 4 [10,12] [.hs 1 0 [] 1 0 ((list_4).map str).length,str (c_3.Name)] 130 ?_
   refine oq 146 (.hs 130 0 [] 1 0 1) rfl (e_buildSlice rfl (bs_mk (f:=I) (xs:=[]) (z:=str ([])) (es:=[str (c_3.Name)]) (ws:=[str (c_3.Name)]) rfl rfl rfl (by decide) rfl (abs_each_plain rfl) rfl)) ?_
   obtain ⟨a8,ha8,h⟩:=bS h
   refine oq 162 (.hs 146 0 [] 1 0 ((a8).map str).length) rfl (e_append rfl rfl rfl rfl rfl (ap_hsM (path:=[]) (f:=str) (xs:=list_4) (ys:=[c_3.Name]) rfl rfl (take_hs rfl rfl rfl) rfl rfl rfl (ra_n) rfl (by decide) str_cells ha8 rfl (to_n))) ?_
   refine cq 2 [1] [.hs 146 0 [] 1 0 ((a8).map str).length] 178 ?_
   exact rg [1,2] [179,146,2] (j3 _ (Option.some.inj h).symm :)
 · refine aq 1 ?_
   exact rg [1,2] [83,1,2] (j3 _ (Option.some.inj h).symm :)
theorem Ffg_good {G : Go.Ln.Ground} : Good Tryd.prog G 48 Ffg_ent:=good_N [none,some 1] (good_rec fun slf_Ffg g_Ffg=>good_T (fnOf_good (gl_c g_Ffg (gl_n))) agree_mk (Checked.mixed Tryd.checked) Tryd.func48 (n:=2) (m:=1) ⟨rfl,rfl,by decide⟩ (fun _=>⟨rfl,rfl⟩) (fun a r h=>Ffg_run slf_Ffg a.1 a.2 r h))
def Ffz_A : Int→List V:=oA (V.int .u64)
def Ffz_R (r : Int) : V × List V:=(I (r),[])
noncomputable def Ffz_ent : Ent:=entT [false] Ffz_A Ffz_R fun x=>Ffz x
theorem Ffz_F {x_1 : Int} {r} (h : Ffz x_1=some r) : (Ffz_ent).F (Ffz_A x_1)=some (Ffz_R r):=entT_F (oA_inj (vint_inj (k:=.u64))) h
noncomputable def Ffz_c : Code:=bodyOf Tryd.f150
noncomputable def Ffz_E : Env:=mkE Tryd.prog []
def Ffz_Q (x : Int) (r : Int) : St→Prop:=QF Ffz_E Tryd.f150 [false] (Ffz_A x) (Ffz_R r)
theorem Ffz_run (x_1 : Int) (r : Int) (h : Ffz x_1=some r) : RunF Ffz_E Tryd.f150 [false] 0 (Ffz_A x_1) (Ffz_R r):=by
 show Run _ _ (Ffz_Q x_1 r) [.code Ffz_c] _
 refine rin (n:=25) [(0,.int .u64 (x_1))] [] 1 (by kernel_rfl) (by kernel_rfl) (by kernel_rfl) rfl ?_
 unfold Ffz at h
 refine cq 10 [2,4] [I (0),B ((decide (x_1 ≥ 4294967296)))] 49 ?_
 obtain ⟨u2,hu2,h⟩:=lJ h
 have j2 : Run Ffz_E 0 (Ffz_Q x_1 r) (.code (cR (cR Ffz_c)) :: []) (sT 25 [(0,.int .u64 (u2.1)),(2,I (u2.2))] [] 1):=by
   refine cq 6 [8] [B ((decide (u2.1 ≥ 65536)))] 33 ?_
   obtain ⟨u3,hu3,h⟩:=lJ h
   have j3 : Run Ffz_E 0 (Ffz_Q x_1 r) (.code (cR (cR (cR Ffz_c))) :: []) (sT 25 [(0,.int .u64 (u3.1)),(2,I (u3.2))] [] 1):=by
     refine cq 6 [14] [B ((decide (u3.1 ≥ 256)))] 33 ?_
     obtain ⟨u4,hu4,h⟩:=lJ h
     have j4 : Run Ffz_E 0 (Ffz_Q x_1 r) (.code (cR (cR (cR (cR Ffz_c)))) :: []) (sT 25 [(0,.int .u64 (u4.1)),(2,I (u4.2))] [] 1):=by
       refine cq 5 [19,21] [I (u4.2),.int .u8 ((IntKind.u8.wrap u4.1))] 49 ?_
       obtain ⟨c5,hc5,h⟩:=bS h
       refine oq 65 (.int .u8 ((c5.toNat : Int))) rfl (e_index rfl rfl (i_str rfl rfl hc5)) ?_
       refine cq 4 [2] [I ((w64 (u4.2 + (IntKind.i64.wrap (c5.toNat : Int)))))] 113 ?_
       obtain rfl:=Option.some.inj h
       exact s_ret rfl ⟨_,fin (vs:=[I ((w64 (u4.2 + (IntKind.i64.wrap (c5.toNat : Int)))))]) rfl (absE (absorb_plain rfl) (absEN)) rfl (ou_f (ou_n)),kl_n⟩
     replace h:=hu4
     clear hu4
     refine scp h rfl rfl (fun h=>?_) (fun h=>?_)
     · refine cq 11 [0,2] [.int .u64 ((shrI .u64 u3.1 8)),I ((w64 (u3.2 + 8)))] 129 ?_
       subst h
       exact rf [0,2] [] (j4 :)
     · refine aq 1 ?_
       subst h
       exact rf [0,2] [] (j4 :)
   replace h:=hu3
   clear hu3
   refine scp h rfl rfl (fun h=>?_) (fun h=>?_)
   · refine cq 11 [0,2] [.int .u64 ((shrI .u64 u2.1 16)),I ((w64 (u2.2 + 16)))] 129 ?_
     subst h
     exact rf [0,2] [] (j3 :)
   · refine aq 1 ?_
     subst h
     exact rf [0,2] [] (j3 :)
 replace h:=hu2
 clear hu2
 refine scp h rfl rfl (fun h=>?_) (fun h=>?_)
 · refine cq 9 [0,2] [.int .u64 ((shrI .u64 x_1 32)),I (32)] 113 ?_
   subst h
   exact rf [0,2] [] (j2 :)
 · refine aq 1 ?_
   subst h
   exact rf [0,2] [] (j2 :)
theorem Ffz_good {G : Go.Ln.Ground} : Good Tryd.prog G 150 Ffz_ent:=good_T (fnOf_good (gl_n)) agree_mk (Checked.mixed Tryd.checked) Tryd.func150 (n:=1) (m:=0) ⟨rfl,rfl,by decide⟩ (fun _=>⟨rfl,rfl⟩) (fun a r h=>Ffz_run a r h)
def Ffy_A : Int→List V:=oA (V.int .u64)
def Ffy_R (r : Int) : V × List V:=(I (r),[])
noncomputable def Ffy_ent : Ent:=entT [false] Ffy_A Ffy_R fun x=>Ffy x
theorem Ffy_F {x_1 : Int} {r} (h : Ffy x_1=some r) : (Ffy_ent).F (Ffy_A x_1)=some (Ffy_R r):=entT_F (oA_inj (vint_inj (k:=.u64))) h
noncomputable def Ffy_c : Code:=bodyOf Tryd.f122
noncomputable def Ffy_E : Env:=mkE Tryd.prog [(150,Ffz_ent)]
def Ffy_Q (x : Int) (r : Int) : St→Prop:=QF Ffy_E Tryd.f122 [false] (Ffy_A x) (Ffy_R r)
theorem Ffy_run (x_1 : Int) (r : Int) (h : Ffy x_1=some r) : RunF Ffy_E Tryd.f122 [false] 0 (Ffy_A x_1) (Ffy_R r):=by
 show Run _ _ (Ffy_Q x_1 r) [.code Ffy_c] _
 refine rin (n:=8) [(0,.int .u64 (x_1))] [] 1 (by kernel_rfl) (by kernel_rfl) (by kernel_rfl) rfl ?_
 unfold Ffy at h
 refine cq 5 [] [] 17 ?_
 refine s_cond rfl rfl (fun hb=>by cases hb) (fun _=>?_)
 refine cq 4 [6] [.int .u64 (x_1)] 33 ?_
 obtain ⟨r2,hr2,h⟩:=bS h
 refine oq 49 (I (r2)) rfl (e_callV rfl rfl (call_P rfl rfl rfl (avS (shP rfl) (avN)) (Ffz_F hr2) (.inr rfl) (bl_n) rfl rfl rfl)) ?_
 refine cq 2 [2] [I (r2)] 65 ?_
 obtain rfl:=Option.some.inj h
 exact s_ret rfl ⟨_,fin (vs:=[I (r2)]) rfl (absE (absorb_plain rfl) (absEN)) rfl (ou_f (ou_n)),kl_n⟩
theorem Ffy_good {G : Go.Ln.Ground} : Good Tryd.prog G 122 Ffy_ent:=good_T (fnOf_good (gl_c Ffz_good (gl_n))) agree_mk (Checked.mixed Tryd.checked) Tryd.func122 (n:=1) (m:=0) ⟨rfl,rfl,by decide⟩ (fun _=>⟨rfl,rfl⟩) (fun a r h=>Ffy_run a r h)
def Ffb_A : Str→List V:=oA str
def Ffb_R (r : Bool) : V × List V:=(B (r),[])
noncomputable def Ffb_ent : Ent:=entT [false] Ffb_A Ffb_R fun x=>Ffb x
theorem Ffb_F {x_1 : Str} {r} (h : Ffb x_1=some r) : (Ffb_ent).F (Ffb_A x_1)=some (Ffb_R r):=entT_F (oA_inj str_inj) h
noncomputable def Ffb_c : Code:=bodyOf Tryd.f164
noncomputable def Ffb_E : Env:=mkE Tryd.prog []
def Ffb_Q (x : Str) (r : Bool) : St→Prop:=QF Ffb_E Tryd.f164 [false] (Ffb_A x) (Ffb_R r)
theorem Ffb_run (x_1 : Str) (r : Bool) (h : Ffb x_1=some r) : RunF Ffb_E Tryd.f164 [false] 0 (Ffb_A x_1) (Ffb_R r):=by
 show Run _ _ (Ffb_Q x_1 r) [.code Ffb_c] _
 refine rin (n:=6) [(0,str (x_1))] [] 1 (by kernel_rfl) (by kernel_rfl) (by kernel_rfl) rfl ?_
 unfold Ffb at h
 refine cq 11 [2] [B ((!(x_1 == x_1)))] 81 ?_
 obtain rfl:=Option.some.inj h
 exact s_ret rfl ⟨_,fin (vs:=[B ((!(x_1 == x_1)))]) rfl (absE (absorb_plain rfl) (absEN)) rfl (ou_f (ou_n)),kl_n⟩
theorem Ffb_good {G : Go.Ln.Ground} : Good Tryd.prog G 164 Ffb_ent:=good_T (fnOf_good (gl_n)) agree_mk (Checked.mixed Tryd.checked) Tryd.func164 (n:=1) (m:=0) ⟨rfl,rfl,by decide⟩ (fun _=>⟨rfl,rfl⟩) (fun a r h=>Ffb_run a r h)
def Ffa_A : (Str × Str)→List V:=cA str (oA str)
def Ffa_R (r : Bool) : V × List V:=(B (r),[])
noncomputable def Ffa_ent : Ent:=entT [false,false] Ffa_A Ffa_R fun x=>Ffa x.1 x.2
theorem Ffa_F {x_1 : Str} {y_2 : Str} {r} (h : Ffa x_1 y_2=some r) : (Ffa_ent).F (Ffa_A (x_1,y_2))=some (Ffa_R r):=entT_F (cA_inj str_inj (oA_inj str_inj)) h
noncomputable def Ffa_c : Code:=bodyOf Tryd.f146
noncomputable def Ffa_E : Env:=mkE Tryd.prog [(164,Ffb_ent)]
def Ffa_Q (x : Str × Str) (r : Bool) : St→Prop:=QF Ffa_E Tryd.f146 [false,false] (Ffa_A x) (Ffa_R r)
theorem Ffa_run (x_1 : Str) (y_2 : Str) (r : Bool) (h : Ffa x_1 y_2=some r) : RunF Ffa_E Tryd.f146 [false,false] 0 (Ffa_A (x_1,y_2)) (Ffa_R r):=by
 show Run _ _ (Ffa_Q (x_1,y_2) r) [.code Ffa_c] _
 refine rin (n:=17) [(0,str (x_1)),(1,str (y_2))] [] 1 (by kernel_rfl) (by kernel_rfl) (by kernel_rfl) rfl ?_
 unfold Ffa at h
 refine cq 7 [5] [str (x_1)] 33 ?_
 obtain ⟨r3,hr3,h⟩:=bS h
 refine oq 49 (B (r3)) rfl (e_callV rfl rfl (call_P rfl rfl rfl (avS (shP rfl) (avN)) (Ffb_F hr3) (.inr rfl) (bl_n) rfl rfl rfl)) ?_
 refine cq 1 [7] [B (r3)] 65 ?_
 obtain ⟨y4,hy4,hy41,hy42⟩:=bJ h
 have j4 : ∀ u4,y4=.inr u4→Run Ffa_E 0 (Ffa_Q (x_1,y_2) r) (.code (cR (cR Ffa_c)) :: []) (sT 17 [(4,B (u4))] [] 1):=by
   intro u4 hu
   replace h:=hy42 u4 hu
   obtain rfl:=Option.some.inj h
   exact s_ret rfl ⟨_,fin (vs:=[B (u4)]) rfl (absE (absorb_plain rfl) (absEN)) rfl (ou_f (ou_f (ou_n))),kl_n⟩
 have r4 : ∀ r',y4=.inl r'→∀ st,Ffa_Q (x_1,y_2) r' st→(Ffa_Q (x_1,y_2) r) st:=fun r' e st hq=>by rw [hy41 r' e] at hq; exact hq
 replace h:=hy4
 refine sp 7 h rfl (fun h=>?_) (fun h=>?_)
 · refine cq 1 [8] [str (y_2)] 81 ?_
   obtain ⟨r5,hr5,h⟩:=bS h
   refine oy 97 (B (r5)) rfl (e_callV rfl rfl (call_P rfl rfl rfl (avS (shP rfl) (avN)) (Ffb_F hr5) (.inr rfl) (bl_n) rfl rfl rfl)) ?_
   refine cq 3 [12] [B ((!r5))] 145 ?_
   obtain ⟨u6,hu6,h⟩:=lJ h
   have j6 : Run Ffa_E 0 (Ffa_Q (x_1,y_2) r) (.code (cR (cR Ffa_c)) :: []) (sT 17 [(4,B (u6))] [] 1):=by
     exact rf [4] [] (j4 _ (Option.some.inj h).symm :)
   replace h:=hu6
   clear hu6
   refine sp 12 h rfl (fun h=>?_) (fun h=>?_)
   · refine cq 6 [4] [B (true)] 225 ?_
     subst h
     exact rf [4] [] (j6 :)
   · refine cq 6 [4] [B ((Op.bytesLess x_1 y_2))] 225 ?_
     subst h
     exact rf [4] [] (j6 :)
 · refine cq 11 [4] [B ((Op.bytesLess x_1 y_2))] 225 ?_
   exact rf [4] [] (j4 _ (Option.some.inj h).symm :)
theorem Ffa_good {G : Go.Ln.Ground} : Good Tryd.prog G 146 Ffa_ent:=good_T (fnOf_good (gl_c Ffb_good (gl_n))) agree_mk (Checked.mixed Tryd.checked) Tryd.func146 (n:=2) (m:=0) ⟨rfl,rfl,by decide⟩ (fun _=>⟨rfl,rfl⟩) (fun a r h=>Ffa_run a.1 a.2 r h)
def Ffbj_A : ((List Str) × Int × Int)→List V:=cA (usE 1 str) (cA I (oA I))
def Ffbj_R (r : (List Str)) : V × List V:=(.tup [],[.usl 1 ((r).map str)])
noncomputable def Ffbj_ent : Ent:=entT [true,false,false] Ffbj_A Ffbj_R fun x=>Ffbj x.1 x.2.1 x.2.2
theorem Ffbj_F {data_15 : List Str} {a_16 : Int} {b_17 : Int} {r} (h : Ffbj data_15 a_16 b_17=some r) : (Ffbj_ent).F (Ffbj_A (data_15,a_16,b_17))=some (Ffbj_R r):=entT_F (cA_inj (usl_inj str_inj) (cA_inj I_inj (oA_inj I_inj))) h
noncomputable def Ffbj_c : Code:=bodyOf Tryd.f140
noncomputable abbrev Ffbj_ka : Code:=cL (cL (cR (cL (cL (cR (cL (cL (cR Ffbj_c))))))))
noncomputable def Ffbj_E : Env:=mkE Tryd.prog [(146,Ffa_ent)]
def Ffbj_Q (x : (List Str) × Int × Int) (r : (List Str)) : St→Prop:=QF Ffbj_E Tryd.f140 [true,false,false] (Ffbj_A x) (Ffbj_R r)
theorem Ffbj_lb_run (data_15 : List Str) (a_16 : Int) (b_17 : Int) (x4 : Int × Int × Int × (List Str)) {Q : St→Prop} {K : List It} (hK : noD K=true) : ∀ (x5 : Int × (List Str)) (y : ((List Str)) ⊕ ((List Str))),Ffbj_lb data_15 a_16 b_17 x4 x5=some y→(∀ r',y=.inl r'→∀ st,Ffbj_Q (data_15,a_16,b_17) r' st→Q st)→(∀ u : (List Str),y=.inr u→Run Ffbj_E 1 Q K (sT 49 [(0,.hs 1 0 [] 1 0 ((u).map str).length),(1,I (x4.1)),(2,I (x4.2.1)),(6,I (x4.2.2.1))] [⟨0,1,(u).map str⟩] 2))→Run Ffbj_E 1 Q (.code Ffbj_ka :: .lp Ffbj_ka :: .blk 2 :: K) (sT 49 [(0,.hs 1 0 [] 1 0 ((x5.2).map str).length),(1,I (x4.1)),(2,I (x4.2.1)),(6,I (x4.2.2.1)),(7,I (x5.1))] [⟨0,1,(x5.2).map str⟩] 2):=by
 refine fix_indP (Ffbj_lb_fin data_15 a_16 b_17 x4) ?_
 intro self ih x5 y h hr hn
 unfold Ffbj_lb_F at h
 refine aq 2 ?_
 refine s_draw [0,0,3,7,15,15,63,127,15,15,527,1807,3855,8191,16383] rfl (by decide +kernel) ?_
 refine dk 4 [19,18,17,16] [B ((decide (x5.1 > x4.1))),B ((decide (x5.1 > x4.1))),I (x4.1),I (x5.1)] ?_
 obtain ⟨y6,hy6,hy61,hy62⟩:=bL h
 have j6 : ∀ u6,y6=.inr u6→Run Ffbj_E 1 Q (.code (cR (cL Ffbj_ka)) :: .code (cR Ffbj_ka) :: .lp Ffbj_ka :: .blk 2 :: K) (sT 49 [(0,.hs 1 0 [] 1 0 ((x5.2).map str).length),(1,I (x4.1)),(2,I (x4.2.1)),(6,I (x4.2.2.1)),(7,I (x5.1)),(30,B (u6))] [⟨0,1,(x5.2).map str⟩] 2):=by
   intro u6 hu
   replace h:=hy62 u6 hu
   refine sq h (fun h=>?_) (fun h=>?_)
   · refine aq 1 ?_
     refine aq 2 ?_
     refine s_draw [0,0,0,0,8,0,0,64,224,480,0,0,3072,7168,16355,32739,65535,131071] rfl (by decide +kernel) ?_
     refine dk 8 [40,39,38,37,36,35,34,33] [I ((w64 (x5.1 - 1))),I (x5.1),.hs 1 0 [] 1 0 ((x5.2).map str).length,I ((w64 (x5.1 - 1))),I (x5.1),.hs 1 0 [] 1 0 ((x5.2).map str).length,I (x5.1),.hs 1 0 [] 1 0 ((x5.2).map str).length] ?_
     obtain ⟨e7,he7,h⟩:=bS h
     refine dq [1] [] (.hp 1 0 [] 1 (0 + Int.toNat ((w64 (x5.1 - 1)))) 0) rfl (e_indexAddr rfl rfl rfl (ix_hsM (f:=str) (xs:=x5.2) rfl rfl rfl he7)) ?_
     refine dq [1] [] (str (e7)) rfl (e_ld rfl (ld_at (path:=[]) rfl rfl rfl (ra_n) (get_map (f:=str) (xs:=x5.2) he7) rfl rfl rfl)) ?_
     refine dk 2 [44,43] [I (x5.1),.hs 1 0 [] 1 0 ((x5.2).map str).length] ?_
     obtain ⟨e8,he8,h⟩:=bS h
     refine dq [1] [] (.hp 1 0 [] 1 (0 + Int.toNat (x5.1)) 0) rfl (e_indexAddr rfl rfl rfl (ix_hsM (f:=str) (xs:=x5.2) rfl rfl rfl he8)) ?_
     refine dq [1] [] (str (e8)) rfl (e_ld rfl (ld_at (path:=[]) rfl rfl rfl (ra_n) (get_map (f:=str) (xs:=x5.2) he8) rfl rfl rfl)) ?_
     obtain ⟨e9,he9,h⟩:=bS h
     refine dq [1] [] (.hp 1 0 [] 1 (0 + Int.toNat (x5.1)) 0) rfl (e_indexAddr rfl rfl rfl (ix_hsM (f:=str) (xs:=x5.2) rfl rfl rfl he9)) ?_
     refine dz [1] [1] rfl (e_st rfl rfl (st_at (path:=[]) (pl:=true) (e':=str (e7)) (es2':=((setI x5.2 x5.1 e7)).map str) rfl (absorb_plain rfl) rfl rfl rfl (ra_n) (get_map (f:=str) (xs:=x5.2) he9) rfl rfl rfl (set_map (f:=str) (xs:=x5.2) (y:=e7)) (sr_n) 0 rfl)) ?_
     try rw [← len_setM (f:=str) (xs:=x5.2) (i:=x5.1) (z:=e7)]
     obtain ⟨e12,he12,h⟩:=bS h
     refine dq [1] [] (.hp 1 0 [] 1 (0 + Int.toNat ((w64 (x5.1 - 1)))) 0) rfl (e_indexAddr rfl rfl rfl (ix_hsM (f:=str) (xs:=(setI x5.2 x5.1 e7)) rfl rfl rfl he12)) ?_
     refine dz [1] [1] rfl (e_st rfl rfl (st_at (path:=[]) (pl:=true) (e':=str (e8)) (es2':=((setI (setI x5.2 x5.1 e7) (w64 (x5.1 - 1)) e8)).map str) rfl (absorb_plain rfl) rfl rfl rfl (ra_n) (get_map (f:=str) (xs:=(setI x5.2 x5.1 e7)) he12) rfl rfl rfl (set_map (f:=str) (xs:=(setI x5.2 x5.1 e7)) (y:=e8)) (sr_n) 0 rfl)) ?_
     try rw [← len_setM (f:=str) (xs:=(setI x5.2 x5.1 e7)) (i:=(w64 (x5.1 - 1))) (z:=e8)]
     refine de 290 rfl rfl ?_
     refine cq 6 [7] [I ((w64 (x5.1 - 1)))] 338 ?_
     refine s_lp ?_
     exact rf [0,1,2,6,7] [1] (ih _ _ h hr hn :)
   · refine aq 1 ?_
     exact rf [0,1,2,6] [1] (hn _ (Option.some.inj h).symm :) (hk:=hK)
 have r6 : ∀ r',y6=.inl r'→∀ st,Ffbj_Q (data_15,a_16,b_17) r' st→Q st:=fun r' e st hq=>hr r' (hy61 r' e) st hq
 replace h:=hy6
 refine sp 19 h rfl (fun h=>?_) (fun h=>?_)
 · refine dk 2 [21,20] [I (x5.1),.hs 1 0 [] 1 0 ((x5.2).map str).length] ?_
   obtain ⟨e16,he16,h⟩:=bS h
   refine dy [1] [] (.hp 1 0 [] 1 (0 + Int.toNat (x5.1)) 0) rfl (e_indexAddr rfl rfl rfl (ix_hsM (f:=str) (xs:=x5.2) rfl rfl rfl he16)) ?_
   refine dy [1] [] (str (e16)) rfl (e_ld rfl (ld_at (path:=[]) rfl rfl rfl (ra_n) (get_map (f:=str) (xs:=x5.2) he16) rfl rfl rfl)) ?_
   refine dk 3 [26,25,24] [I ((w64 (x5.1 - 1))),I (x5.1),.hs 1 0 [] 1 0 ((x5.2).map str).length] ?_
   obtain ⟨e17,he17,h⟩:=bS h
   refine dy [1] [] (.hp 1 0 [] 1 (0 + Int.toNat ((w64 (x5.1 - 1)))) 0) rfl (e_indexAddr rfl rfl rfl (ix_hsM (f:=str) (xs:=x5.2) rfl rfl rfl he17)) ?_
   refine dy [1] [] (str (e17)) rfl (e_ld rfl (ld_at (path:=[]) rfl rfl rfl (ra_n) (get_map (f:=str) (xs:=x5.2) he17) rfl rfl rfl)) ?_
   obtain ⟨r18,hr18,h⟩:=bS h
   refine dy [] [] (B (r18)) rfl (e_callV rfl rfl (call_P rfl rfl rfl (avS (shP rfl) (avS (shP rfl) (avN))) (Ffa_F hr18) (.inr rfl) (bl_n) rfl rfl rfl)) ?_ (w_callO rfl rfl rfl rfl (avS (shP rfl) (avS (shP rfl) (avN))) (Ffa_F hr18) (.inr rfl) rfl)
   refine dk 1 [30] [B (r18)] ?_
   refine de 242 rfl rfl ?_
   exact rf [0,1,2,6,7,30] [1] (j6 _ (Option.some.inj h).symm :)
 · refine dk 11 [30,29,28,27,26,25,24,23,22,21,20] [B (false),.und,.und,.und,.und,.und,.und,.und,.und,.und,.und] ?_
   refine de 242 rfl rfl ?_
   exact rf [0,1,2,6,7,30] [1] (j6 _ (Option.some.inj h).symm :)
theorem Ffbj_la_run (data_15 : List Str) (a_16 : Int) (b_17 : Int)  {Q : St→Prop} {K : List It} (hK : noD K=true) : ∀ (x4 : Int × Int × Int × (List Str)) (y : ((List Str)) ⊕ ((List Str))),Ffbj_la data_15 a_16 b_17 x4=some y→(∀ r',y=.inl r'→∀ st,Ffbj_Q (data_15,a_16,b_17) r' st→Q st)→(∀ u : (List Str),y=.inr u→Run Ffbj_E 1 Q K (sT 49 [] [⟨0,1,(u).map str⟩] 2))→Run Ffbj_E 1 Q (.code (cL (cL (cR Ffbj_c))) :: .lp (cL (cL (cR Ffbj_c))) :: .blk 0 :: K) (sT 49 [(0,.hs 1 0 [] 1 0 ((x4.2.2.2).map str).length),(1,I (x4.1)),(2,I (x4.2.1)),(6,I (x4.2.2.1))] [⟨0,1,(x4.2.2.2).map str⟩] 2):=by
 refine fix_indP (Ffbj_la_fin data_15 a_16 b_17) ?_
 intro self ih x4 y h hr hn
 unfold Ffbj_la_F at h
 refine cq 7 [12] [B ((decide (x4.2.2.1 < x4.2.1)))] 50 ?_
 refine sq h (fun h=>?_) (fun h=>?_)
 · refine aq 1 ?_
   refine cq 8 [7] [I (x4.2.2.1)] 82 ?_
   obtain ⟨y19,hy19,hy191,hy192⟩:=bL h
   refine s_loop rfl ?_
   refine rf [0,1,2,6,7] [1] (Ffbj_lb_run data_15 a_16 b_17 x4 rfl (x4.2.2.1,x4.2.2.2) _ hy19 (fun r' e st hq=>hr r' (hy191 r' e) st hq) fun u19 hu=>?_)
   replace h:=hy192 u19 hu
   refine cq 6 [6] [I ((w64 (x4.2.2.1 + 1)))] 50 ?_
   refine s_lp ?_
   exact rf [0,1,2,6] [1] (ih _ _ h hr hn :)
 · refine aq 1 ?_
   exact rf [] [1] (hn _ (Option.some.inj h).symm :) (hk:=hK)
theorem Ffbj_run (data_15 : List Str) (a_16 : Int) (b_17 : Int) (r : (List Str)) (h : Ffbj data_15 a_16 b_17=some r) : RunF Ffbj_E Tryd.f140 [true,false,false] 1 (Ffbj_A (data_15,a_16,b_17)) (Ffbj_R r):=by
 show Run _ _ (Ffbj_Q (data_15,a_16,b_17) r) [.code Ffbj_c] _
 refine rin (n:=49) [(0,.hs 1 0 [] 1 0 ((data_15).map str).length),(1,I (a_16)),(2,I (b_17))] [(1,some ⟨0,1,(data_15).map str⟩)] 2 (by kernel_rfl) (by kernel_rfl) (by kernel_rfl) rfl ?_
 unfold Ffbj at h
 refine cq 7 [6] [I ((w64 (a_16 + 1)))] 50 ?_
 obtain ⟨y20,hy20,hy201,hy202⟩:=bJ h
 refine s_loop rfl ?_
 refine rf [0,1,2,6] [1] (Ffbj_la_run data_15 a_16 b_17 rfl (a_16,b_17,(w64 (a_16 + 1)),data_15) _ hy20 (fun r' e st hq=>by rw [hy201 r' e] at hq; exact hq) fun u20 hu=>?_)
 replace h:=hy202 u20 hu
 obtain ⟨g21,h⟩:=gG h
 obtain rfl:=Option.some.inj h
 exact s_end ⟨_,fin (vs:=[]) rfl (absEN) rfl (ou_1 rfl (oc_hsG (f:=str) (xs:=u20) (by simpa using g21) rfl) (ou_f (ou_f (ou_n)))),kl_c (kl_n)⟩
theorem Ffbj_good {G : Go.Ln.Ground} : Good Tryd.prog G 140 Ffbj_ent:=good_T (fnOf_good (gl_c Ffa_good (gl_n))) agree_mk (Checked.mixed Tryd.checked) Tryd.func140 (n:=3) (m:=1) ⟨rfl,rfl,by decide⟩ (fun _=>⟨rfl,rfl⟩) (fun a r h=>Ffbj_run a.1 a.2.1 a.2.2 r h)
def Ffbt_A : ((List Str) × Int × Int × Int)→List V:=cA (usE 1 str) (cA I (cA I (oA I)))
def Ffbt_R (r : (List Str)) : V × List V:=(.tup [],[.usl 1 ((r).map str)])
noncomputable def Ffbt_ent : Ent:=entT [true,false,false,false] Ffbt_A Ffbt_R fun x=>Ffbt x.1 x.2.1 x.2.2.1 x.2.2.2
theorem Ffbt_F {data_18 : List Str} {lo_19 : Int} {hi_20 : Int} {first_21 : Int} {r} (h : Ffbt data_18 lo_19 hi_20 first_21=some r) : (Ffbt_ent).F (Ffbt_A (data_18,lo_19,hi_20,first_21))=some (Ffbt_R r):=entT_F (cA_inj (usl_inj str_inj) (cA_inj I_inj (cA_inj I_inj (oA_inj I_inj)))) h
noncomputable def Ffbt_c : Code:=bodyOf Tryd.f159
noncomputable def Ffbt_E : Env:=mkE Tryd.prog [(146,Ffa_ent)]
def Ffbt_Q (x : (List Str) × Int × Int × Int) (r : (List Str)) : St→Prop:=QF Ffbt_E Tryd.f159 [true,false,false,false] (Ffbt_A x) (Ffbt_R r)
theorem Ffbt_la_run (data_18 : List Str) (lo_19 : Int) (hi_20 : Int) (first_21 : Int)  {Q : St→Prop} {K : List It} (hK : noD K=true) : ∀ (x5 : Int × (List Str)) (y : ((List Str)) ⊕ ((List Str))),Ffbt_la data_18 lo_19 hi_20 first_21 x5=some y→(∀ r',y=.inl r'→∀ st,Ffbt_Q (data_18,lo_19,hi_20,first_21) r' st→Q st)→(∀ u : (List Str),y=.inr u→Run Ffbt_E 1 Q K (sT 76 [] [⟨0,1,(u).map str⟩] 2))→Run Ffbt_E 1 Q (.code (cL (cL (cR Ffbt_c))) :: .lp (cL (cL (cR Ffbt_c))) :: .blk 0 :: K) (sT 76 [(0,.hs 1 0 [] 1 0 ((x5.2).map str).length),(2,I (hi_20)),(3,I (first_21)),(8,I (x5.1))] [⟨0,1,(x5.2).map str⟩] 2):=by
 refine fix_indP (Ffbt_la_fin data_18 lo_19 hi_20 first_21) ?_
 intro self ih x5 y h hr hn
 unfold Ffbt_la_F at h
 refine cq 15 [9,16] [I ((w64 ((w64 (2 * x5.1)) + 1))),B ((decide ((w64 ((w64 (2 * x5.1)) + 1)) ≥ hi_20)))] 114 ?_
 refine sq h (fun h=>?_) (fun h=>?_)
 · refine aq 1 ?_
   exact rf [] [1] (hn _ (Option.some.inj h).symm :) (hk:=hK)
 · refine aq 1 ?_
   refine aq 2 ?_
   refine s_draw [0,1,0,7,15,31,31,31,223,511,1023,31,31,31,12319,28703,63519,129055,262143,524287] rfl (by decide +kernel) ?_
   refine dk 5 [21,20,19,18,17] [B ((decide ((w64 ((w64 ((w64 (2 * x5.1)) + 1)) + 1)) < hi_20))),B ((decide ((w64 ((w64 ((w64 (2 * x5.1)) + 1)) + 1)) < hi_20))),I (hi_20),I ((w64 ((w64 ((w64 (2 * x5.1)) + 1)) + 1))),I ((w64 ((w64 (2 * x5.1)) + 1)))] ?_
   obtain ⟨y6,hy6,hy61,hy62⟩:=bL h
   have j6 : ∀ u6,y6=.inr u6→Run Ffbt_E 1 Q (.code (cR (cL (cR (cR (cL (cL (cL (cR Ffbt_c)))))))) :: .code (cR (cR (cR (cL (cL (cL (cR Ffbt_c))))))) :: .blk 1 :: .lp (cL (cL (cR Ffbt_c))) :: .blk 0 :: K) (sT 76 [(0,.hs 1 0 [] 1 0 ((x5.2).map str).length),(2,I (hi_20)),(3,I (first_21)),(8,I (x5.1)),(9,I ((w64 ((w64 (2 * x5.1)) + 1)))),(36,B (u6))] [⟨0,1,(x5.2).map str⟩] 2):=by
     intro u6 hu
     replace h:=hy62 u6 hu
     obtain ⟨u7,hu7,h⟩:=lJ h
     have j7 : Run Ffbt_E 1 Q (.code (cR (cR (cR (cL (cL (cL (cR Ffbt_c))))))) :: .blk 1 :: .lp (cL (cL (cR Ffbt_c))) :: .blk 0 :: K) (sT 76 [(0,.hs 1 0 [] 1 0 ((x5.2).map str).length),(2,I (hi_20)),(3,I (first_21)),(8,I (x5.1)),(9,I (u7))] [⟨0,1,(x5.2).map str⟩] 2):=by
       refine aq 2 ?_
       refine s_draw [0,0,0,6,15,31,0,0,0,384,960,1984,4095,8191] rfl (by decide +kernel) ?_
       refine dk 4 [42,41,40,39] [I ((w64 (first_21 + x5.1))),I (x5.1),I (first_21),.hs 1 0 [] 1 0 ((x5.2).map str).length] ?_
       obtain ⟨e8,he8,h⟩:=bS h
       refine dq [1] [] (.hp 1 0 [] 1 (0 + Int.toNat ((w64 (first_21 + x5.1)))) 0) rfl (e_indexAddr rfl rfl rfl (ix_hsM (f:=str) (xs:=x5.2) rfl rfl rfl he8)) ?_
       refine dq [1] [] (str (e8)) rfl (e_ld rfl (ld_at (path:=[]) rfl rfl rfl (ra_n) (get_map (f:=str) (xs:=x5.2) he8) rfl rfl rfl)) ?_
       refine dk 4 [48,47,46,45] [I ((w64 (first_21 + u7))),I (u7),I (first_21),.hs 1 0 [] 1 0 ((x5.2).map str).length] ?_
       obtain ⟨e9,he9,h⟩:=bS h
       refine dq [1] [] (.hp 1 0 [] 1 (0 + Int.toNat ((w64 (first_21 + u7)))) 0) rfl (e_indexAddr rfl rfl rfl (ix_hsM (f:=str) (xs:=x5.2) rfl rfl rfl he9)) ?_
       refine dq [1] [] (str (e9)) rfl (e_ld rfl (ld_at (path:=[]) rfl rfl rfl (ra_n) (get_map (f:=str) (xs:=x5.2) he9) rfl rfl rfl)) ?_
       obtain ⟨r10,hr10,h⟩:=bS h
       refine dq [] [] (B (r10)) rfl (e_callV rfl rfl (call_P rfl rfl rfl (avS (shP rfl) (avS (shP rfl) (avN))) (Ffa_F hr10) (.inr rfl) (bl_n) rfl rfl rfl)) ?_ (w_callO rfl rfl rfl rfl (avS (shP rfl) (avS (shP rfl) (avN))) (Ffa_F hr10) (.inr rfl) rfl)
       refine dk 1 [52] [B ((!r10))] ?_
       refine de 226 rfl rfl ?_
       refine sq h (fun h=>?_) (fun h=>?_)
       · obtain ⟨g11,h⟩:=gG h
         exact s_ret rfl (hr _ (Option.some.inj h).symm _ ⟨_,fin (vs:=[]) rfl (absEN) rfl (ou_1 rfl (oc_hsG (f:=str) (xs:=x5.2) (by simpa using g11) rfl) (ou_f (ou_f (ou_f (ou_n))))),kl_c (kl_n)⟩)
       · refine aq 1 ?_
         refine aq 1 ?_
         refine s_draw [0,0,0,6,0,0,0,96,0,0,0,1536,3840,7936,0,0,0,98304,245760,507904,1048335,2096911,4194303,8388607] rfl (by decide +kernel) ?_
         refine dk 12 [64,63,62,61,60,59,58,57,56,55,54,53] [I ((w64 (first_21 + u7))),I (u7),I (first_21),.hs 1 0 [] 1 0 ((x5.2).map str).length,I ((w64 (first_21 + u7))),I (u7),I (first_21),.hs 1 0 [] 1 0 ((x5.2).map str).length,I ((w64 (first_21 + x5.1))),I (x5.1),I (first_21),.hs 1 0 [] 1 0 ((x5.2).map str).length] ?_
         obtain ⟨e12,he12,h⟩:=bS h
         refine dq [1] [] (.hp 1 0 [] 1 (0 + Int.toNat ((w64 (first_21 + u7)))) 0) rfl (e_indexAddr rfl rfl rfl (ix_hsM (f:=str) (xs:=x5.2) rfl rfl rfl he12)) ?_
         refine dq [1] [] (str (e12)) rfl (e_ld rfl (ld_at (path:=[]) rfl rfl rfl (ra_n) (get_map (f:=str) (xs:=x5.2) he12) rfl rfl rfl)) ?_
         refine dk 4 [70,69,68,67] [I ((w64 (first_21 + x5.1))),I (x5.1),I (first_21),.hs 1 0 [] 1 0 ((x5.2).map str).length] ?_
         obtain ⟨e13,he13,h⟩:=bS h
         refine dq [1] [] (.hp 1 0 [] 1 (0 + Int.toNat ((w64 (first_21 + x5.1)))) 0) rfl (e_indexAddr rfl rfl rfl (ix_hsM (f:=str) (xs:=x5.2) rfl rfl rfl he13)) ?_
         refine dq [1] [] (str (e13)) rfl (e_ld rfl (ld_at (path:=[]) rfl rfl rfl (ra_n) (get_map (f:=str) (xs:=x5.2) he13) rfl rfl rfl)) ?_
         obtain ⟨e14,he14,h⟩:=bS h
         refine dq [1] [] (.hp 1 0 [] 1 (0 + Int.toNat ((w64 (first_21 + x5.1)))) 0) rfl (e_indexAddr rfl rfl rfl (ix_hsM (f:=str) (xs:=x5.2) rfl rfl rfl he14)) ?_
         refine dz [1] [1] rfl (e_st rfl rfl (st_at (path:=[]) (pl:=true) (e':=str (e12)) (es2':=((setI x5.2 (w64 (first_21 + x5.1)) e12)).map str) rfl (absorb_plain rfl) rfl rfl rfl (ra_n) (get_map (f:=str) (xs:=x5.2) he14) rfl rfl rfl (set_map (f:=str) (xs:=x5.2) (y:=e12)) (sr_n) 0 rfl)) ?_
         try rw [← len_setM (f:=str) (xs:=x5.2) (i:=(w64 (first_21 + x5.1))) (z:=e12)]
         obtain ⟨e19,he19,h⟩:=bS h
         refine dq [1] [] (.hp 1 0 [] 1 (0 + Int.toNat ((w64 (first_21 + u7)))) 0) rfl (e_indexAddr rfl rfl rfl (ix_hsM (f:=str) (xs:=(setI x5.2 (w64 (first_21 + x5.1)) e12)) rfl rfl rfl he19)) ?_
         refine dz [1] [1] rfl (e_st rfl rfl (st_at (path:=[]) (pl:=true) (e':=str (e13)) (es2':=((setI (setI x5.2 (w64 (first_21 + x5.1)) e12) (w64 (first_21 + u7)) e13)).map str) rfl (absorb_plain rfl) rfl rfl rfl (ra_n) (get_map (f:=str) (xs:=(setI x5.2 (w64 (first_21 + x5.1)) e12)) he19) rfl rfl rfl (set_map (f:=str) (xs:=(setI x5.2 (w64 (first_21 + x5.1)) e12)) (y:=e13)) (sr_n) 0 rfl)) ?_
         try rw [← len_setM (f:=str) (xs:=(setI x5.2 (w64 (first_21 + x5.1)) e12)) (i:=(w64 (first_21 + u7))) (z:=e13)]
         refine de 610 rfl rfl ?_
         refine cq 5 [8] [I (u7)] 642 ?_
         refine s_lp ?_
         exact rf [0,2,3,8] [1] (ih _ _ h hr hn :)
     replace h:=hu7
     clear hu7
     refine scp h rfl rfl (fun h=>?_) (fun h=>?_)
     · refine cq 5 [9] [I ((w64 ((w64 ((w64 (2 * x5.1)) + 1)) + 1)))] 50 ?_
       subst h
       exact rf [0,2,3,8,9] [1] (j7 :)
     · refine aq 1 ?_
       subst h
       exact rf [0,2,3,8,9] [1] (j7 :)
   have r6 : ∀ r',y6=.inl r'→∀ st,Ffbt_Q (data_18,lo_19,hi_20,first_21) r' st→Q st:=fun r' e st hq=>hr r' (hy61 r' e) st hq
   replace h:=hy6
   refine sp 21 h rfl (fun h=>?_) (fun h=>?_)
   · refine dk 4 [25,24,23,22] [I ((w64 (first_21 + (w64 ((w64 (2 * x5.1)) + 1))))),I ((w64 ((w64 (2 * x5.1)) + 1))),I (first_21),.hs 1 0 [] 1 0 ((x5.2).map str).length] ?_
     obtain ⟨e25,he25,h⟩:=bS h
     refine dy [1] [] (.hp 1 0 [] 1 (0 + Int.toNat ((w64 (first_21 + (w64 ((w64 (2 * x5.1)) + 1)))))) 0) rfl (e_indexAddr rfl rfl rfl (ix_hsM (f:=str) (xs:=x5.2) rfl rfl rfl he25)) ?_
     refine dy [1] [] (str (e25)) rfl (e_ld rfl (ld_at (path:=[]) rfl rfl rfl (ra_n) (get_map (f:=str) (xs:=x5.2) he25) rfl rfl rfl)) ?_
     refine dk 5 [32,31,30,29,28] [I ((w64 ((w64 (first_21 + (w64 ((w64 (2 * x5.1)) + 1)))) + 1))),I ((w64 (first_21 + (w64 ((w64 (2 * x5.1)) + 1))))),I ((w64 ((w64 (2 * x5.1)) + 1))),I (first_21),.hs 1 0 [] 1 0 ((x5.2).map str).length] ?_
     obtain ⟨e26,he26,h⟩:=bS h
     refine dy [1] [] (.hp 1 0 [] 1 (0 + Int.toNat ((w64 ((w64 (first_21 + (w64 ((w64 (2 * x5.1)) + 1)))) + 1)))) 0) rfl (e_indexAddr rfl rfl rfl (ix_hsM (f:=str) (xs:=x5.2) rfl rfl rfl he26)) ?_
     refine dy [1] [] (str (e26)) rfl (e_ld rfl (ld_at (path:=[]) rfl rfl rfl (ra_n) (get_map (f:=str) (xs:=x5.2) he26) rfl rfl rfl)) ?_
     obtain ⟨r27,hr27,h⟩:=bS h
     refine dy [] [] (B (r27)) rfl (e_callV rfl rfl (call_P rfl rfl rfl (avS (shP rfl) (avS (shP rfl) (avN))) (Ffa_F hr27) (.inr rfl) (bl_n) rfl rfl rfl)) ?_ (w_callO rfl rfl rfl rfl (avS (shP rfl) (avS (shP rfl) (avN))) (Ffa_F hr27) (.inr rfl) rfl)
     refine dk 1 [36] [B (r27)] ?_
     refine de 434 rfl rfl ?_
     exact rf [0,2,3,8,9,36] [1] (j6 _ (Option.some.inj h).symm :)
   · refine dk 15 [36,35,34,33,32,31,30,29,28,27,26,25,24,23,22] [B (false),.und,.und,.und,.und,.und,.und,.und,.und,.und,.und,.und,.und,.und,.und] ?_
     refine de 434 rfl rfl ?_
     exact rf [0,2,3,8,9,36] [1] (j6 _ (Option.some.inj h).symm :)
theorem Ffbt_run (data_18 : List Str) (lo_19 : Int) (hi_20 : Int) (first_21 : Int) (r : (List Str)) (h : Ffbt data_18 lo_19 hi_20 first_21=some r) : RunF Ffbt_E Tryd.f159 [true,false,false,false] 1 (Ffbt_A (data_18,lo_19,hi_20,first_21)) (Ffbt_R r):=by
 show Run _ _ (Ffbt_Q (data_18,lo_19,hi_20,first_21) r) [.code Ffbt_c] _
 refine rin (n:=76) [(0,.hs 1 0 [] 1 0 ((data_18).map str).length),(1,I (lo_19)),(2,I (hi_20)),(3,I (first_21))] [(1,some ⟨0,1,(data_18).map str⟩)] 2 (by kernel_rfl) (by kernel_rfl) (by kernel_rfl) rfl ?_
 unfold Ffbt at h
 refine cq 6 [8] [I (lo_19)] 34 ?_
 obtain ⟨y28,hy28,hy281,hy282⟩:=bJ h
 refine s_loop rfl ?_
 refine rf [0,2,3,8] [1] (Ffbt_la_run data_18 lo_19 hi_20 first_21 rfl (lo_19,data_18) _ hy28 (fun r' e st hq=>by rw [hy281 r' e] at hq; exact hq) fun u28 hu=>?_)
 replace h:=hy282 u28 hu
 obtain ⟨g29,h⟩:=gG h
 obtain rfl:=Option.some.inj h
 exact s_end ⟨_,fin (vs:=[]) rfl (absEN) rfl (ou_1 rfl (oc_hsG (f:=str) (xs:=u28) (by simpa using g29) rfl) (ou_f (ou_f (ou_f (ou_n))))),kl_c (kl_n)⟩
theorem Ffbt_good {G : Go.Ln.Ground} : Good Tryd.prog G 159 Ffbt_ent:=good_T (fnOf_good (gl_c Ffa_good (gl_n))) agree_mk (Checked.mixed Tryd.checked) Tryd.func159 (n:=4) (m:=1) ⟨rfl,rfl,by decide⟩ (fun _=>⟨rfl,rfl⟩) (fun a r h=>Ffbt_run a.1 a.2.1 a.2.2.1 a.2.2.2 r h)
def Ffbi_A : ((List Str) × Int × Int)→List V:=cA (usE 1 str) (cA I (oA I))
def Ffbi_R (r : (List Str)) : V × List V:=(.tup [],[.usl 1 ((r).map str)])
noncomputable def Ffbi_ent : Ent:=entT [true,false,false] Ffbi_A Ffbi_R fun x=>Ffbi x.1 x.2.1 x.2.2
theorem Ffbi_F {data_11 : List Str} {a_12 : Int} {b_13 : Int} {r} (h : Ffbi data_11 a_12 b_13=some r) : (Ffbi_ent).F (Ffbi_A (data_11,a_12,b_13))=some (Ffbi_R r):=entT_F (cA_inj (usl_inj str_inj) (cA_inj I_inj (oA_inj I_inj))) h
noncomputable def Ffbi_c : Code:=bodyOf Tryd.f141
noncomputable def Ffbi_E : Env:=mkE Tryd.prog [(159,Ffbt_ent)]
def Ffbi_Q (x : (List Str) × Int × Int) (r : (List Str)) : St→Prop:=QF Ffbi_E Tryd.f141 [true,false,false] (Ffbi_A x) (Ffbi_R r)
theorem Ffbi_la_run (data_11 : List Str) (a_12 : Int) (b_13 : Int)  {Q : St→Prop} {K : List It} (hK : noD K=true) : ∀ (x4 : Int × (List Str)) (y : ((List Str)) ⊕ (Int × Int × (List Str))),Ffbi_la data_11 a_12 b_13 x4=some y→(∀ r',y=.inl r'→∀ st,Ffbi_Q (data_11,a_12,b_13) r' st→Q st)→(∀ u : Int × Int × (List Str),y=.inr u→Run Ffbi_E 1 Q K (sT 56 [(0,.hs 1 0 [] 1 0 ((u.2.2).map str).length),(6,I (u.1)),(7,I (0)),(8,I (u.2.1))] [⟨0,1,(u.2.2).map str⟩] 2))→Run Ffbi_E 1 Q (.code (cL (cL (cR (cL (cR (cR (cR Ffbi_c))))))) :: .lp (cL (cL (cR (cL (cR (cR (cR Ffbi_c))))))) :: .blk 0 :: K) (sT 56 [(0,.hs 1 0 [] 1 0 ((x4.2).map str).length),(6,I (a_12)),(7,I (0)),(8,I ((w64 (b_13 - a_12)))),(9,I (x4.1))] [⟨0,1,(x4.2).map str⟩] 2):=by
 refine fix_indP (Ffbi_la_fin data_11 a_12 b_13) ?_
 intro self ih x4 y h hr hn
 unfold Ffbi_la_F at h
 refine cq 6 [19] [B ((decide (x4.1 ≥ 0)))] 34 ?_
 refine sq h (fun h=>?_) (fun h=>?_)
 · refine aq 1 ?_
   refine cq 7 [22,23,24,25] [.hs 1 0 [] 1 0 ((x4.2).map str).length,I (x4.1),I ((w64 (b_13 - a_12))),I (a_12)] 98 ?_
   obtain ⟨r5,hr5,h⟩:=bS h
   obtain ⟨g6,h⟩:=gG h
   refine oq 114 (.tup []) rfl (e_callV rfl rfl (call_P rfl rfl rfl (avO (hd1 rfl (hd_hs (path:=[]) rfl rfl (ra_n) rfl)) (avS (shP rfl) (avS (shP rfl) (avS (shP rfl) (avN))))) (Ffbt_F hr5) (.inr rfl) (bl_c rfl rfl rfl rfl (bl_n)) rfl rfl rfl)) ?_
   try rw [len_eqM (f:=str) (xs:=x4.2) (ys:=r5) g6]
   refine cq 7 [9] [I ((w64 (x4.1 - 1)))] 162 ?_
   refine s_lp ?_
   exact rf [0,6,7,8,9] [1] (ih _ _ h hr hn :)
 · refine aq 1 ?_
   exact rf [0,6,7,8] [1] (hn _ (Option.some.inj h).symm :) (hk:=hK)
theorem Ffbi_lb_run (data_11 : List Str) (a_12 : Int) (b_13 : Int) (u7 : Int × Int × (List Str)) {Q : St→Prop} {K : List It} (hK : noD K=true) : ∀ (x8 : Int × (List Str)) (y : ((List Str)) ⊕ ((List Str))),Ffbi_lb data_11 a_12 b_13 u7 x8=some y→(∀ r',y=.inl r'→∀ st,Ffbi_Q (data_11,a_12,b_13) r' st→Q st)→(∀ u : (List Str),y=.inr u→Run Ffbi_E 1 Q K (sT 56 [] [⟨0,1,(u).map str⟩] 2))→Run Ffbi_E 1 Q (.code (cL (cL (cR (cR (cR (cR (cR Ffbi_c))))))) :: .lp (cL (cL (cR (cR (cR (cR (cR Ffbi_c))))))) :: .blk 2 :: K) (sT 56 [(0,.hs 1 0 [] 1 0 ((x8.2).map str).length),(6,I (u7.1)),(7,I (0)),(10,I (x8.1))] [⟨0,1,(x8.2).map str⟩] 2):=by
 refine fix_indP (Ffbi_lb_fin data_11 a_12 b_13 u7) ?_
 intro self ih x8 y h hr hn
 unfold Ffbi_lb_F at h
 refine cq 6 [30] [B ((decide (x8.1 ≥ 0)))] 34 ?_
 refine sq h (fun h=>?_) (fun h=>?_)
 · refine aq 1 ?_
   refine aq 3 ?_
   refine s_draw [0,0,0,0,0,24,0,0,0,384,960,1984,0,0,12288,28672,65475,131011,262143,524287] rfl (by decide +kernel) ?_
   refine dk 10 [42,41,40,39,38,37,36,35,34,33] [I ((w64 (u7.1 + x8.1))),I (x8.1),I (u7.1),.hs 1 0 [] 1 0 ((x8.2).map str).length,I ((w64 (u7.1 + x8.1))),I (x8.1),I (u7.1),.hs 1 0 [] 1 0 ((x8.2).map str).length,I (u7.1),.hs 1 0 [] 1 0 ((x8.2).map str).length] ?_
   obtain ⟨e9,he9,h⟩:=bS h
   refine dq [1] [] (.hp 1 0 [] 1 (0 + Int.toNat ((w64 (u7.1 + x8.1)))) 0) rfl (e_indexAddr rfl rfl rfl (ix_hsM (f:=str) (xs:=x8.2) rfl rfl rfl he9)) ?_
   refine dq [1] [] (str (e9)) rfl (e_ld rfl (ld_at (path:=[]) rfl rfl rfl (ra_n) (get_map (f:=str) (xs:=x8.2) he9) rfl rfl rfl)) ?_
   refine dk 2 [46,45] [I (u7.1),.hs 1 0 [] 1 0 ((x8.2).map str).length] ?_
   obtain ⟨e10,he10,h⟩:=bS h
   refine dq [1] [] (.hp 1 0 [] 1 (0 + Int.toNat (u7.1)) 0) rfl (e_indexAddr rfl rfl rfl (ix_hsM (f:=str) (xs:=x8.2) rfl rfl rfl he10)) ?_
   refine dq [1] [] (str (e10)) rfl (e_ld rfl (ld_at (path:=[]) rfl rfl rfl (ra_n) (get_map (f:=str) (xs:=x8.2) he10) rfl rfl rfl)) ?_
   obtain ⟨e11,he11,h⟩:=bS h
   refine dq [1] [] (.hp 1 0 [] 1 (0 + Int.toNat (u7.1)) 0) rfl (e_indexAddr rfl rfl rfl (ix_hsM (f:=str) (xs:=x8.2) rfl rfl rfl he11)) ?_
   refine dz [1] [1] rfl (e_st rfl rfl (st_at (path:=[]) (pl:=true) (e':=str (e9)) (es2':=((setI x8.2 u7.1 e9)).map str) rfl (absorb_plain rfl) rfl rfl rfl (ra_n) (get_map (f:=str) (xs:=x8.2) he11) rfl rfl rfl (set_map (f:=str) (xs:=x8.2) (y:=e9)) (sr_n) 0 rfl)) ?_
   try rw [← len_setM (f:=str) (xs:=x8.2) (i:=u7.1) (z:=e9)]
   obtain ⟨e14,he14,h⟩:=bS h
   refine dq [1] [] (.hp 1 0 [] 1 (0 + Int.toNat ((w64 (u7.1 + x8.1)))) 0) rfl (e_indexAddr rfl rfl rfl (ix_hsM (f:=str) (xs:=(setI x8.2 u7.1 e9)) rfl rfl rfl he14)) ?_
   refine dz [1] [1] rfl (e_st rfl rfl (st_at (path:=[]) (pl:=true) (e':=str (e10)) (es2':=((setI (setI x8.2 u7.1 e9) (w64 (u7.1 + x8.1)) e10)).map str) rfl (absorb_plain rfl) rfl rfl rfl (ra_n) (get_map (f:=str) (xs:=(setI x8.2 u7.1 e9)) he14) rfl rfl rfl (set_map (f:=str) (xs:=(setI x8.2 u7.1 e9)) (y:=e10)) (sr_n) 0 rfl)) ?_
   try rw [← len_setM (f:=str) (xs:=(setI x8.2 u7.1 e9)) (i:=(w64 (u7.1 + x8.1))) (z:=e10)]
   refine de 354 rfl rfl ?_
   refine cq 5 [51,52,53,54] [.hs 1 0 [] 1 0 (((setI (setI x8.2 u7.1 e9) (w64 (u7.1 + x8.1)) e10)).map str).length,I (0),I (x8.1),I (u7.1)] 418 ?_
   obtain ⟨r18,hr18,h⟩:=bS h
   obtain ⟨g19,h⟩:=gG h
   refine oq 434 (.tup []) rfl (e_callV rfl rfl (call_P rfl rfl rfl (avO (hd1 rfl (hd_hs (path:=[]) rfl rfl (ra_n) rfl)) (avS (shP rfl) (avS (shP rfl) (avS (shP rfl) (avN))))) (Ffbt_F hr18) (.inr rfl) (bl_c rfl rfl rfl rfl (bl_n)) rfl rfl rfl)) ?_
   try rw [len_eqM (f:=str) (xs:=(setI (setI x8.2 u7.1 e9) (w64 (u7.1 + x8.1)) e10)) (ys:=r18) g19]
   refine cq 7 [10] [I ((w64 (x8.1 - 1)))] 482 ?_
   refine s_lp ?_
   exact rf [0,6,7,10] [1] (ih _ _ h hr hn :)
 · refine aq 1 ?_
   exact rf [] [1] (hn _ (Option.some.inj h).symm :) (hk:=hK)
theorem Ffbi_run (data_11 : List Str) (a_12 : Int) (b_13 : Int) (r : (List Str)) (h : Ffbi data_11 a_12 b_13=some r) : RunF Ffbi_E Tryd.f141 [true,false,false] 1 (Ffbi_A (data_11,a_12,b_13)) (Ffbi_R r):=by
 show Run _ _ (Ffbi_Q (data_11,a_12,b_13) r) [.code Ffbi_c] _
 refine rin (n:=56) [(0,.hs 1 0 [] 1 0 ((data_11).map str).length),(1,I (a_12)),(2,I (b_13))] [(1,some ⟨0,1,(data_11).map str⟩)] 2 (by kernel_rfl) (by kernel_rfl) (by kernel_rfl) rfl ?_
 unfold Ffbi at h
 refine cq 25 [6,7,8,9] [I (a_12),I (0),I ((w64 (b_13 - a_12))),I ((w64 ((w64 ((w64 (b_13 - a_12)) - 1)).tdiv 2)))] 178 ?_
 obtain ⟨y7,hy7,hy71,hy72⟩:=bJ h
 refine s_loop rfl ?_
 refine rf [0,6,7,8,9] [1] (Ffbi_la_run data_11 a_12 b_13 rfl ((w64 ((w64 ((w64 (b_13 - a_12)) - 1)).tdiv 2)),data_11) _ hy7 (fun r' e st hq=>by rw [hy71 r' e] at hq; exact hq) fun u7 hu=>?_)
 replace h:=hy72 u7 hu
 refine cq 7 [10] [I ((w64 (u7.2.1 - 1)))] 50 ?_
 obtain ⟨y20,hy20,hy201,hy202⟩:=bJ h
 refine s_loop rfl ?_
 refine rf [0,6,7,10] [1] (Ffbi_lb_run data_11 a_12 b_13 u7 rfl ((w64 (u7.2.1 - 1)),u7.2.2) _ hy20 (fun r' e st hq=>by rw [hy201 r' e] at hq; exact hq) fun u20 hu=>?_)
 replace h:=hy202 u20 hu
 obtain ⟨g21,h⟩:=gG h
 obtain rfl:=Option.some.inj h
 exact s_end ⟨_,fin (vs:=[]) rfl (absEN) rfl (ou_1 rfl (oc_hsG (f:=str) (xs:=u20) (by simpa using g21) rfl) (ou_f (ou_f (ou_n)))),kl_c (kl_n)⟩
theorem Ffbi_good {G : Go.Ln.Ground} : Good Tryd.prog G 141 Ffbi_ent:=good_T (fnOf_good (gl_c Ffbt_good (gl_n))) agree_mk (Checked.mixed Tryd.checked) Tryd.func141 (n:=3) (m:=1) ⟨rfl,rfl,by decide⟩ (fun _=>⟨rfl,rfl⟩) (fun a r h=>Ffbi_run a.1 a.2.1 a.2.2 r h)
def Ffbm_A : Int→List V:=oA I
def Ffbm_R (r : Int) : V × List V:=(.int .u64 (r),[])
noncomputable def Ffbm_ent : Ent:=entT [false] Ffbm_A Ffbm_R fun x=>Ffbm x
theorem Ffbm_F {length_1 : Int} {r} (h : Ffbm length_1=some r) : (Ffbm_ent).F (Ffbm_A length_1)=some (Ffbm_R r):=entT_F (oA_inj I_inj) h
noncomputable def Ffbm_c : Code:=bodyOf Tryd.f160
noncomputable def Ffbm_E : Env:=mkE Tryd.prog [(122,Ffy_ent)]
def Ffbm_Q (x : Int) (r : Int) : St→Prop:=QF Ffbm_E Tryd.f160 [false] (Ffbm_A x) (Ffbm_R r)
theorem Ffbm_run (length_1 : Int) (r : Int) (h : Ffbm length_1=some r) : RunF Ffbm_E Tryd.f160 [false] 0 (Ffbm_A length_1) (Ffbm_R r):=by
 show Run _ _ (Ffbm_Q length_1 r) [.code Ffbm_c] _
 refine rin (n:=7) [(0,I (length_1))] [] 1 (by kernel_rfl) (by kernel_rfl) (by kernel_rfl) rfl ?_
 unfold Ffbm at h
 refine cq 8 [4] [.int .u64 ((IntKind.u64.wrap length_1))] 49 ?_
 obtain ⟨r2,hr2,h⟩:=bS h
 refine oq 65 (I (r2)) rfl (e_callV rfl rfl (call_P rfl rfl rfl (avS (shP rfl) (avN)) (Ffy_F hr2) (.inr rfl) (bl_n) rfl rfl rfl)) ?_
 obtain ⟨q3,hq3,h⟩:=bS h
 refine oq 81 (.int .u64 (q3)) rfl (e_bin rfl rfl (b_shl hq3)) ?_
 refine cq 2 [2] [.int .u64 (q3)] 97 ?_
 obtain rfl:=Option.some.inj h
 exact s_ret rfl ⟨_,fin (vs:=[.int .u64 (q3)]) rfl (absE (absorb_plain rfl) (absEN)) rfl (ou_f (ou_n)),kl_n⟩
theorem Ffbm_good {G : Go.Ln.Ground} : Good Tryd.prog G 160 Ffbm_ent:=good_T (fnOf_good (gl_c Ffy_good (gl_n))) agree_mk (Checked.mixed Tryd.checked) Tryd.func160 (n:=1) (m:=0) ⟨rfl,rfl,by decide⟩ (fun _=>⟨rfl,rfl⟩) (fun a r h=>Ffbm_run a r h)
def Ffbu_A : Int→List V:=oA (upE (V.int .u64))
def Ffbu_R (r : Int × Int) : V × List V:=(.int .u64 (r.1),[.uptr (.int .u64 (r.2))])
noncomputable def Ffbu_ent : Ent:=entT [true] Ffbu_A Ffbu_R fun x=>Ffbu x
theorem Ffbu_F {r_2 : Int} {r} (h : Ffbu r_2=some r) : (Ffbu_ent).F (Ffbu_A r_2)=some (Ffbu_R r):=entT_F (oA_inj (uptr_inj (vint_inj (k:=.u64)))) h
noncomputable def Ffbu_c : Code:=bodyOf Tryd.f161
noncomputable def Ffbu_E : Env:=mkE Tryd.prog []
def Ffbu_Q (x : Int) (r : Int × Int) : St→Prop:=QF Ffbu_E Tryd.f161 [true] (Ffbu_A x) (Ffbu_R r)
theorem Ffbu_run (r_2 : Int) (r : Int × Int) (h : Ffbu r_2=some r) : RunF Ffbu_E Tryd.f161 [true] 1 (Ffbu_A r_2) (Ffbu_R r):=by
 show Run _ _ (Ffbu_Q r_2 r) [.code Ffbu_c] _
 refine rin (n:=33) [(0,.hp 1 0 [] 1 0 0)] [(1,some ⟨0,1,[.int .u64 (r_2)]⟩)] 2 (by kernel_rfl) (by kernel_rfl) (by kernel_rfl) rfl ?_
 unfold Ffbu at h
 refine cq 5 [] [] 18 ?_
 refine s_draw [0,1,3,0,8,24,56,127,255,511] rfl (by decide +kernel) ?_
 refine dk 1 [3] [.hp 1 0 [] 1 0 0] ?_
 refine dq [1] [] (.hp 1 0 [] 1 0 0) rfl (e_nilCheck rfl rfl) ?_
 refine dq [1] [] (.int .u64 (r_2)) rfl (e_ld rfl rfl) ?_
 refine dk 1 [6] [.hp 1 0 [] 1 0 0] ?_
 refine dq [1] [] (.hp 1 0 [] 1 0 0) rfl (e_nilCheck rfl rfl) ?_
 refine dq [1] [] (.int .u64 (r_2)) rfl (e_ld rfl rfl) ?_
 refine dk 2 [10,9] [.int .u64 ((xorI .u64 r_2 (shlI .u64 r_2 13))),.int .u64 ((shlI .u64 r_2 13))] ?_
 refine dq [1] [] (.hp 1 0 [] 1 0 0) rfl (e_nilCheck rfl rfl) ?_
 refine dz [1] [1] rfl (e_st rfl rfl (st_at (path:=[]) (pl:=true) (e':=.int .u64 ((xorI .u64 r_2 (shlI .u64 r_2 13)))) (es2':=[.int .u64 ((xorI .u64 r_2 (shlI .u64 r_2 13)))]) rfl (absorb_plain rfl) rfl rfl rfl (ra_n) rfl rfl rfl rfl rfl (sr_n) 0 rfl)) ?_
 refine de 178 rfl rfl ?_
 refine aq 1 ?_
 refine s_draw [0,1,3,0,8,24,56,127,255,511] rfl (by decide +kernel) ?_
 refine dk 1 [12] [.hp 1 0 [] 1 0 0] ?_
 refine dq [1] [] (.hp 1 0 [] 1 0 0) rfl (e_nilCheck rfl rfl) ?_
 refine dq [1] [] (.int .u64 ((xorI .u64 r_2 (shlI .u64 r_2 13)))) rfl (e_ld rfl rfl) ?_
 refine dk 1 [15] [.hp 1 0 [] 1 0 0] ?_
 refine dq [1] [] (.hp 1 0 [] 1 0 0) rfl (e_nilCheck rfl rfl) ?_
 refine dq [1] [] (.int .u64 ((xorI .u64 r_2 (shlI .u64 r_2 13)))) rfl (e_ld rfl rfl) ?_
 refine dk 2 [19,18] [.int .u64 ((xorI .u64 (xorI .u64 r_2 (shlI .u64 r_2 13)) (shrI .u64 (xorI .u64 r_2 (shlI .u64 r_2 13)) 7))),.int .u64 ((shrI .u64 (xorI .u64 r_2 (shlI .u64 r_2 13)) 7))] ?_
 refine dq [1] [] (.hp 1 0 [] 1 0 0) rfl (e_nilCheck rfl rfl) ?_
 refine dz [1] [1] rfl (e_st rfl rfl (st_at (path:=[]) (pl:=true) (e':=.int .u64 ((xorI .u64 (xorI .u64 r_2 (shlI .u64 r_2 13)) (shrI .u64 (xorI .u64 r_2 (shlI .u64 r_2 13)) 7)))) (es2':=[.int .u64 ((xorI .u64 (xorI .u64 r_2 (shlI .u64 r_2 13)) (shrI .u64 (xorI .u64 r_2 (shlI .u64 r_2 13)) 7)))]) rfl (absorb_plain rfl) rfl rfl rfl (ra_n) rfl rfl rfl rfl rfl (sr_n) 0 rfl)) ?_
 refine de 338 rfl rfl ?_
 refine aq 1 ?_
 refine s_draw [0,1,3,0,8,24,56,127,255,511] rfl (by decide +kernel) ?_
 refine dk 1 [21] [.hp 1 0 [] 1 0 0] ?_
 refine dq [1] [] (.hp 1 0 [] 1 0 0) rfl (e_nilCheck rfl rfl) ?_
 refine dq [1] [] (.int .u64 ((xorI .u64 (xorI .u64 r_2 (shlI .u64 r_2 13)) (shrI .u64 (xorI .u64 r_2 (shlI .u64 r_2 13)) 7)))) rfl (e_ld rfl rfl) ?_
 refine dk 1 [24] [.hp 1 0 [] 1 0 0] ?_
 refine dq [1] [] (.hp 1 0 [] 1 0 0) rfl (e_nilCheck rfl rfl) ?_
 refine dq [1] [] (.int .u64 ((xorI .u64 (xorI .u64 r_2 (shlI .u64 r_2 13)) (shrI .u64 (xorI .u64 r_2 (shlI .u64 r_2 13)) 7)))) rfl (e_ld rfl rfl) ?_
 refine dk 2 [28,27] [.int .u64 ((xorI .u64 (xorI .u64 (xorI .u64 r_2 (shlI .u64 r_2 13)) (shrI .u64 (xorI .u64 r_2 (shlI .u64 r_2 13)) 7)) (shlI .u64 (xorI .u64 (xorI .u64 r_2 (shlI .u64 r_2 13)) (shrI .u64 (xorI .u64 r_2 (shlI .u64 r_2 13)) 7)) 17))),.int .u64 ((shlI .u64 (xorI .u64 (xorI .u64 r_2 (shlI .u64 r_2 13)) (shrI .u64 (xorI .u64 r_2 (shlI .u64 r_2 13)) 7)) 17))] ?_
 refine dq [1] [] (.hp 1 0 [] 1 0 0) rfl (e_nilCheck rfl rfl) ?_
 refine dz [1] [1] rfl (e_st rfl rfl (st_at (path:=[]) (pl:=true) (e':=.int .u64 ((xorI .u64 (xorI .u64 (xorI .u64 r_2 (shlI .u64 r_2 13)) (shrI .u64 (xorI .u64 r_2 (shlI .u64 r_2 13)) 7)) (shlI .u64 (xorI .u64 (xorI .u64 r_2 (shlI .u64 r_2 13)) (shrI .u64 (xorI .u64 r_2 (shlI .u64 r_2 13)) 7)) 17)))) (es2':=[.int .u64 ((xorI .u64 (xorI .u64 (xorI .u64 r_2 (shlI .u64 r_2 13)) (shrI .u64 (xorI .u64 r_2 (shlI .u64 r_2 13)) 7)) (shlI .u64 (xorI .u64 (xorI .u64 r_2 (shlI .u64 r_2 13)) (shrI .u64 (xorI .u64 r_2 (shlI .u64 r_2 13)) 7)) 17)))]) rfl (absorb_plain rfl) rfl rfl rfl (ra_n) rfl rfl rfl rfl rfl (sr_n) 0 rfl)) ?_
 refine de 498 rfl rfl ?_
 refine cq 7 [2] [.int .u64 ((xorI .u64 (xorI .u64 (xorI .u64 r_2 (shlI .u64 r_2 13)) (shrI .u64 (xorI .u64 r_2 (shlI .u64 r_2 13)) 7)) (shlI .u64 (xorI .u64 (xorI .u64 r_2 (shlI .u64 r_2 13)) (shrI .u64 (xorI .u64 r_2 (shlI .u64 r_2 13)) 7)) 17)))] 562 ?_
 obtain rfl:=Option.some.inj h
 exact s_ret rfl ⟨_,fin (vs:=[.int .u64 ((xorI .u64 (xorI .u64 (xorI .u64 r_2 (shlI .u64 r_2 13)) (shrI .u64 (xorI .u64 r_2 (shlI .u64 r_2 13)) 7)) (shlI .u64 (xorI .u64 (xorI .u64 r_2 (shlI .u64 r_2 13)) (shrI .u64 (xorI .u64 r_2 (shlI .u64 r_2 13)) 7)) 17)))]) rfl (absE (absorb_plain rfl) (absEN)) rfl (ou_1 rfl (oc_hp rfl rfl) (ou_n)),kl_c (kl_n)⟩
theorem Ffbu_good {G : Go.Ln.Ground} : Good Tryd.prog G 161 Ffbu_ent:=good_T (fnOf_good (gl_n)) agree_mk (Checked.mixed Tryd.checked) Tryd.func161 (n:=1) (m:=1) ⟨rfl,rfl,by decide⟩ (fun _=>⟨rfl,rfl⟩) (fun a r h=>Ffbu_run a r h)
def Ffbg_A : ((List Str) × Int × Int)→List V:=cA (usE 1 str) (cA I (oA I))
def Ffbg_R (r : (List Str)) : V × List V:=(.tup [],[.usl 1 ((r).map str)])
noncomputable def Ffbg_ent : Ent:=entT [true,false,false] Ffbg_A Ffbg_R fun x=>Ffbg x.1 x.2.1 x.2.2
theorem Ffbg_F {data_13 : List Str} {a_14 : Int} {b_15 : Int} {r} (h : Ffbg data_13 a_14 b_15=some r) : (Ffbg_ent).F (Ffbg_A (data_13,a_14,b_15))=some (Ffbg_R r):=entT_F (cA_inj (usl_inj str_inj) (cA_inj I_inj (oA_inj I_inj))) h
noncomputable def Ffbg_c : Code:=bodyOf Tryd.f142
noncomputable abbrev Ffbg_ka : Code:=cL (cL (cR (cR (cR (cL (cR (cR Ffbg_c)))))))
noncomputable def Ffbg_E : Env:=mkE Tryd.prog [(160,Ffbm_ent),(161,Ffbu_ent)]
def Ffbg_Q (x : (List Str) × Int × Int) (r : (List Str)) : St→Prop:=QF Ffbg_E Tryd.f142 [true,false,false] (Ffbg_A x) (Ffbg_R r)
theorem Ffbg_la_run (data_13 : List Str) (a_14 : Int) (b_15 : Int) (r6 : Int) {Q : St→Prop} {K : List It} (hK : noD K=true) : ∀ (x7 : Int × (List Str) × Int) (y : ((List Str)) ⊕ ((List Str))),Ffbg_la data_13 a_14 b_15 r6 x7=some y→(∀ r',y=.inl r'→∀ st,Ffbg_Q (data_13,a_14,b_15) r' st→Q st)→(∀ u : (List Str),y=.inr u→Run Ffbg_E 1 Q K (sT 65 [] [⟨0,1,(u).map str⟩] 2))→Run Ffbg_E 1 Q (.code Ffbg_ka :: .lp Ffbg_ka :: .blk 0 :: K) (sT 65 [(0,.hs 1 0 [] 1 0 ((x7.2.1).map str).length),(1,I (a_14)),(6,I ((w64 (b_15 - a_14)))),(7,.hp 2 0 [] 1 0 0),(8,.int .u64 (r6)),(9,I (x7.1))] [⟨0,1,(x7.2.1).map str⟩,⟨0,1,[.int .u64 (x7.2.2)]⟩] 3):=by
 refine fix_indP (Ffbg_la_fin data_13 a_14 b_15 r6) ?_
 intro self ih x7 y h hr hn
 unfold Ffbg_la_F at h
 refine cq 12 [33] [B ((decide (x7.1 ≤ (w64 ((w64 (a_14 + (w64 ((w64 ((w64 (b_15 - a_14)).tdiv 4)) * 2)))) + 1)))))] 131 ?_
 refine sq h (fun h=>?_) (fun h=>?_)
 · refine aq 1 ?_
   refine aq 4 ?_
   obtain ⟨r8,hr8,h⟩:=bS h
   refine oq 147 (.int .u64 (r8.1)) rfl (e_callV rfl rfl (call_P rfl rfl rfl (avO (hd1 rfl (hd_hq (path:=[]) rfl rfl (ra_n))) (avN)) (Ffbu_F hr8) (.inr rfl) (bl_c rfl rfl rfl rfl (bl_n)) rfl rfl rfl)) ?_
   refine cq 13 [10,43] [I ((IntKind.i64.wrap (andI .u64 r8.1 (IntKind.u64.wrap (r6 - 1))))),B ((decide ((IntKind.i64.wrap (andI .u64 r8.1 (IntKind.u64.wrap (r6 - 1)))) ≥ (w64 (b_15 - a_14)))))] 275 ?_
   obtain ⟨u9,hu9,h⟩:=lJ h
   have j9 : Run Ffbg_E 1 Q (.code (cR (cR (cL (cL (cR Ffbg_ka))))) :: .blk 1 :: .code (cR (cR Ffbg_ka)) :: .lp Ffbg_ka :: .blk 0 :: K) (sT 65 [(0,.hs 1 0 [] 1 0 ((x7.2.1).map str).length),(1,I (a_14)),(6,I ((w64 (b_15 - a_14)))),(7,.hp 2 0 [] 1 0 0),(8,.int .u64 (r6)),(9,I (x7.1)),(10,I (u9))] [⟨0,1,(x7.2.1).map str⟩,⟨0,1,[.int .u64 (r8.2)]⟩] 3):=by
     refine s_draw [0,0,0,0,0,24,0,0,0,384,960,1984,0,0,12288,28672,65475,131011,262143,524287] rfl (by decide +kernel) ?_
     refine dk 10 [56,55,54,53,52,51,50,49,48,47] [I ((w64 (a_14 + u9))),I (u9),I (a_14),.hs 1 0 [] 1 0 ((x7.2.1).map str).length,I ((w64 (a_14 + u9))),I (u9),I (a_14),.hs 1 0 [] 1 0 ((x7.2.1).map str).length,I (x7.1),.hs 1 0 [] 1 0 ((x7.2.1).map str).length] ?_
     obtain ⟨e10,he10,h⟩:=bS h
     refine dq [1] [] (.hp 1 0 [] 1 (0 + Int.toNat ((w64 (a_14 + u9)))) 0) rfl (e_indexAddr rfl rfl rfl (ix_hsM (f:=str) (xs:=x7.2.1) rfl rfl rfl he10)) ?_
     refine dq [1] [] (str (e10)) rfl (e_ld rfl (ld_at (path:=[]) rfl rfl rfl (ra_n) (get_map (f:=str) (xs:=x7.2.1) he10) rfl rfl rfl)) ?_
     refine dk 2 [60,59] [I (x7.1),.hs 1 0 [] 1 0 ((x7.2.1).map str).length] ?_
     obtain ⟨e11,he11,h⟩:=bS h
     refine dq [1] [] (.hp 1 0 [] 1 (0 + Int.toNat (x7.1)) 0) rfl (e_indexAddr rfl rfl rfl (ix_hsM (f:=str) (xs:=x7.2.1) rfl rfl rfl he11)) ?_
     refine dq [1] [] (str (e11)) rfl (e_ld rfl (ld_at (path:=[]) rfl rfl rfl (ra_n) (get_map (f:=str) (xs:=x7.2.1) he11) rfl rfl rfl)) ?_
     obtain ⟨e12,he12,h⟩:=bS h
     refine dq [1] [] (.hp 1 0 [] 1 (0 + Int.toNat (x7.1)) 0) rfl (e_indexAddr rfl rfl rfl (ix_hsM (f:=str) (xs:=x7.2.1) rfl rfl rfl he12)) ?_
     refine dz [1] [1] rfl (e_st rfl rfl (st_at (path:=[]) (pl:=true) (e':=str (e10)) (es2':=((setI x7.2.1 x7.1 e10)).map str) rfl (absorb_plain rfl) rfl rfl rfl (ra_n) (get_map (f:=str) (xs:=x7.2.1) he12) rfl rfl rfl (set_map (f:=str) (xs:=x7.2.1) (y:=e10)) (sr_n) 0 rfl)) ?_
     try rw [← len_setM (f:=str) (xs:=x7.2.1) (i:=x7.1) (z:=e10)]
     obtain ⟨e15,he15,h⟩:=bS h
     refine dq [1] [] (.hp 1 0 [] 1 (0 + Int.toNat ((w64 (a_14 + u9)))) 0) rfl (e_indexAddr rfl rfl rfl (ix_hsM (f:=str) (xs:=(setI x7.2.1 x7.1 e10)) rfl rfl rfl he15)) ?_
     refine dz [1] [1] rfl (e_st rfl rfl (st_at (path:=[]) (pl:=true) (e':=str (e11)) (es2':=((setI (setI x7.2.1 x7.1 e10) (w64 (a_14 + u9)) e11)).map str) rfl (absorb_plain rfl) rfl rfl rfl (ra_n) (get_map (f:=str) (xs:=(setI x7.2.1 x7.1 e10)) he15) rfl rfl rfl (set_map (f:=str) (xs:=(setI x7.2.1 x7.1 e10)) (y:=e11)) (sr_n) 0 rfl)) ?_
     try rw [← len_setM (f:=str) (xs:=(setI x7.2.1 x7.1 e10)) (i:=(w64 (a_14 + u9))) (z:=e11)]
     refine de 323 rfl rfl ?_
     refine cq 6 [9] [I ((w64 (x7.1 + 1)))] 371 ?_
     refine s_lp ?_
     exact rf [0,1,6,7,8,9] [1,2] (ih _ _ h hr hn :)
   replace h:=hu9
   clear hu9
   refine scp h rfl rfl (fun h=>?_) (fun h=>?_)
   · refine cq 6 [10] [I ((w64 ((IntKind.i64.wrap (andI .u64 r8.1 (IntKind.u64.wrap (r6 - 1)))) - (w64 (b_15 - a_14)))))] 339 ?_
     subst h
     exact rf [0,1,6,7,8,9,10] [1,2] (j9 :)
   · refine aq 1 ?_
     subst h
     exact rf [0,1,6,7,8,9,10] [1,2] (j9 :)
 · refine aq 1 ?_
   exact rf [] [1] (hn _ (Option.some.inj h).symm :) (hk:=hK)
theorem Ffbg_run (data_13 : List Str) (a_14 : Int) (b_15 : Int) (r : (List Str)) (h : Ffbg data_13 a_14 b_15=some r) : RunF Ffbg_E Tryd.f142 [true,false,false] 1 (Ffbg_A (data_13,a_14,b_15)) (Ffbg_R r):=by
 show Run _ _ (Ffbg_Q (data_13,a_14,b_15) r) [.code Ffbg_c] _
 refine rin (n:=65) [(0,.hs 1 0 [] 1 0 ((data_13).map str).length),(1,I (a_14)),(2,I (b_15))] [(1,some ⟨0,1,(data_13).map str⟩)] 2 (by kernel_rfl) (by kernel_rfl) (by kernel_rfl) rfl ?_
 unfold Ffbg at h
 refine cq 12 [6,15] [I ((w64 (b_15 - a_14))),B ((decide ((w64 (b_15 - a_14)) ≥ 8)))] 98 ?_
 obtain ⟨y4,hy4,hy41,hy42⟩:=bJ h
 have j4 : ∀ u4,y4=.inr u4→Run Ffbg_E 1 (Ffbg_Q (data_13,a_14,b_15) r) ([]) (sT 65 [] [⟨0,1,(u4).map str⟩] 2):=by
   intro u4 hu
   replace h:=hy42 u4 hu
   obtain ⟨g5,h⟩:=gG h
   obtain rfl:=Option.some.inj h
   exact s_end ⟨_,fin (vs:=[]) rfl (absEN) rfl (ou_1 rfl (oc_hsG (f:=str) (xs:=u4) (by simpa using g5) rfl) (ou_f (ou_f (ou_n)))),kl_c (kl_n)⟩
 have r4 : ∀ r',y4=.inl r'→∀ st,Ffbg_Q (data_13,a_14,b_15) r' st→(Ffbg_Q (data_13,a_14,b_15) r) st:=fun r' e st hq=>by rw [hy41 r' e] at hq; exact hq
 replace h:=hy4
 refine sq h (fun h=>?_) (fun h=>?_)
 · refine ck 10 [7,18] [] [130] [] [.hp 130 0 [] 1 0 0,I ((w64 (b_15 - a_14)))] [some ⟨0,1,[.int .u64 ((IntKind.u64.wrap (w64 (b_15 - a_14))))]⟩] 178 (by kernel_rfl) ?_
   obtain ⟨r6,hr6,h⟩:=bS h
   refine oq 194 (.int .u64 (r6)) rfl (e_callV rfl rfl (call_P rfl rfl rfl (avS (shP rfl) (avN)) (Ffbm_F hr6) (.inr rfl) (bl_n) rfl rfl rfl)) ?_
   refine cq 13 [8,9] [.int .u64 (r6),I ((w64 ((w64 (a_14 + (w64 ((w64 ((w64 (b_15 - a_14)).tdiv 4)) * 2)))) - 1)))] 322 ?_
   obtain ⟨y19,hy19,hy191,hy192⟩:=bL h
   refine s_loop rfl ?_
   refine rf [0,1,6,7,8,9] [1,130] (Ffbg_la_run data_13 a_14 b_15 r6 rfl ((w64 ((w64 (a_14 + (w64 ((w64 ((w64 (b_15 - a_14)).tdiv 4)) * 2)))) - 1)),data_13,(IntKind.u64.wrap (w64 (b_15 - a_14)))) _ hy19 (fun r' e st hq=>r4 r' (hy191 r' e) st hq) fun u19 hu=>?_)
   replace h:=hy192 u19 hu
   exact rf [] [1] (j4 _ (Option.some.inj h).symm :)
 · refine aq 1 ?_
   exact rf [] [1] (j4 _ (Option.some.inj h).symm :)
theorem Ffbg_good {G : Go.Ln.Ground} : Good Tryd.prog G 142 Ffbg_ent:=good_T (fnOf_good (gl_c Ffbm_good (gl_c Ffbu_good (gl_n)))) agree_mk (Checked.mixed Tryd.checked) Tryd.func142 (n:=3) (m:=1) ⟨rfl,rfl,by decide⟩ (fun _=>⟨rfl,rfl⟩) (fun a r h=>Ffbg_run a.1 a.2.1 a.2.2 r h)
def Ffbn_A : ((List Str) × Int × Int × Int)→List V:=cA (slE str) (cA I (cA I (oA (upE I))))
def Ffbn_R (r : Int × Int × Int) : V × List V:=(.tup [I (r.1),I (r.2.1)],[.uptr (I (r.2.2))])
noncomputable def Ffbn_ent : Ent:=entT [false,false,false,true] Ffbn_A Ffbn_R fun x=>Ffbn x.1 x.2.1 x.2.2.1 x.2.2.2
theorem Ffbn_F {data_9 : List Str} {a_10 : Int} {b_11 : Int} {swaps_12 : Int} {r} (h : Ffbn data_9 a_10 b_11 swaps_12=some r) : (Ffbn_ent).F (Ffbn_A (data_9,a_10,b_11,swaps_12))=some (Ffbn_R r):=entT_F (cA_inj (isl_inj str_inj) (cA_inj I_inj (cA_inj I_inj (oA_inj (uptr_inj I_inj))))) h
noncomputable def Ffbn_c : Code:=bodyOf Tryd.f175
noncomputable def Ffbn_E : Env:=mkE Tryd.prog [(146,Ffa_ent)]
def Ffbn_Q (x : (List Str) × Int × Int × Int) (r : Int × Int × Int) : St→Prop:=QF Ffbn_E Tryd.f175 [false,false,false,true] (Ffbn_A x) (Ffbn_R r)
theorem Ffbn_run (data_9 : List Str) (a_10 : Int) (b_11 : Int) (swaps_12 : Int) (r : Int × Int × Int) (h : Ffbn data_9 a_10 b_11 swaps_12=some r) : RunF Ffbn_E Tryd.f175 [false,false,false,true] 1 (Ffbn_A (data_9,a_10,b_11,swaps_12)) (Ffbn_R r):=by
 show Run _ _ (Ffbn_Q (data_9,a_10,b_11,swaps_12) r) [.code Ffbn_c] _
 refine rin (n:=28) [(0,.isl false ((data_9).map str)),(1,I (a_10)),(2,I (b_11)),(3,.hp 1 0 [] 1 0 0)] [(1,some ⟨0,1,[I (swaps_12)]⟩)] 2 (by kernel_rfl) (by kernel_rfl) (by kernel_rfl) rfl ?_
 unfold Ffbn at h
 refine cq 7 [] [] 34 ?_
 refine s_draw [0,0,3,7,0,0,48,112,255] rfl (by decide +kernel) ?_
 refine dk 2 [11,10] [I (b_11),.isl false ((data_9).map str)] ?_
 obtain ⟨e5,he5,h⟩:=bS h
 refine dq [] [] (.iptr (str (e5)) 0) rfl (e_indexAddr rfl rfl rfl (ix_islE rfl rfl rfl rfl he5)) ?_
 refine dq [] [] (str (e5)) rfl (e_ld rfl rfl) ?_
 refine dk 2 [15,14] [I (a_10),.isl false ((data_9).map str)] ?_
 obtain ⟨e6,he6,h⟩:=bS h
 refine dq [] [] (.iptr (str (e6)) 0) rfl (e_indexAddr rfl rfl rfl (ix_islE rfl rfl rfl rfl he6)) ?_
 refine dq [] [] (str (e6)) rfl (e_ld rfl rfl) ?_
 obtain ⟨r7,hr7,h⟩:=bS h
 refine dq [] [] (B (r7)) rfl (e_callV rfl rfl (call_P rfl rfl rfl (avS (shP rfl) (avS (shP rfl) (avN))) (Ffa_F hr7) (.inr rfl) (bl_n) rfl rfl rfl)) ?_ (w_callO rfl rfl rfl rfl (avS (shP rfl) (avS (shP rfl) (avN))) (Ffa_F hr7) (.inr rfl) rfl)
 refine de 178 rfl rfl ?_
 refine sq h (fun h=>?_) (fun h=>?_)
 · refine ck 16 [8,9] [] [1] [] [I (b_11),I (a_10)] [some ⟨0,1,[I ((w64 (swaps_12 + 1)))]⟩] 338 (by kernel_rfl) ?_
   obtain rfl:=Option.some.inj h
   exact s_ret rfl ⟨_,fin (vs:=[I (b_11),I (a_10)]) rfl (absE (absorb_plain rfl) (absE (absorb_plain rfl) (absEN))) rfl (ou_f (ou_f (ou_f (ou_1 rfl (oc_hp rfl rfl) (ou_n))))),kl_c (kl_n)⟩
 · refine aq 1 ?_
   refine cq 7 [8,9] [I (a_10),I (b_11)] 242 ?_
   obtain rfl:=Option.some.inj h
   exact s_ret rfl ⟨_,fin (vs:=[I (a_10),I (b_11)]) rfl (absE (absorb_plain rfl) (absE (absorb_plain rfl) (absEN))) rfl (ou_f (ou_f (ou_f (ou_1 rfl (oc_hp rfl rfl) (ou_n))))),kl_c (kl_n)⟩
theorem Ffbn_good {G : Go.Ln.Ground} : Good Tryd.prog G 175 Ffbn_ent:=good_T (fnOf_good (gl_c Ffa_good (gl_n))) agree_mk (Checked.mixed Tryd.checked) Tryd.func175 (n:=4) (m:=1) ⟨rfl,rfl,by decide⟩ (fun _=>⟨rfl,rfl⟩) (fun a r h=>Ffbn_run a.1 a.2.1 a.2.2.1 a.2.2.2 r h)
def Ffbl_A : ((List Str) × Int × Int × Int × Int)→List V:=cA (slE str) (cA I (cA I (cA I (oA (upE I)))))
def Ffbl_R (r : Int × Int) : V × List V:=(I (r.1),[.uptr (I (r.2))])
noncomputable def Ffbl_ent : Ent:=entT [false,false,false,false,true] Ffbl_A Ffbl_R fun x=>Ffbl x.1 x.2.1 x.2.2.1 x.2.2.2.1 x.2.2.2.2
theorem Ffbl_F {data_6 : List Str} {a_7 : Int} {b_8 : Int} {c_9 : Int} {swaps_10 : Int} {r} (h : Ffbl data_6 a_7 b_8 c_9 swaps_10=some r) : (Ffbl_ent).F (Ffbl_A (data_6,a_7,b_8,c_9,swaps_10))=some (Ffbl_R r):=entT_F (cA_inj (isl_inj str_inj) (cA_inj I_inj (cA_inj I_inj (cA_inj I_inj (oA_inj (uptr_inj I_inj)))))) h
noncomputable def Ffbl_c : Code:=bodyOf Tryd.f163
noncomputable def Ffbl_E : Env:=mkE Tryd.prog [(175,Ffbn_ent)]
def Ffbl_Q (x : (List Str) × Int × Int × Int × Int) (r : Int × Int) : St→Prop:=QF Ffbl_E Tryd.f163 [false,false,false,false,true] (Ffbl_A x) (Ffbl_R r)
theorem Ffbl_run (data_6 : List Str) (a_7 : Int) (b_8 : Int) (c_9 : Int) (swaps_10 : Int) (r : Int × Int) (h : Ffbl data_6 a_7 b_8 c_9 swaps_10=some r) : RunF Ffbl_E Tryd.f163 [false,false,false,false,true] 1 (Ffbl_A (data_6,a_7,b_8,c_9,swaps_10)) (Ffbl_R r):=by
 show Run _ _ (Ffbl_Q (data_6,a_7,b_8,c_9,swaps_10) r) [.code Ffbl_c] _
 refine rin (n:=36) [(0,.isl false ((data_6).map str)),(1,I (a_7)),(2,I (b_8)),(3,I (c_9)),(4,.hp 1 0 [] 1 0 0)] [(1,some ⟨0,1,[I (swaps_10)]⟩)] 2 (by kernel_rfl) (by kernel_rfl) (by kernel_rfl) rfl ?_
 unfold Ffbl at h
 refine cq 10 [12,13,14,15] [.isl false ((data_6).map str),I (a_7),I (b_8),.hp 1 0 [] 1 0 0] 82 ?_
 obtain ⟨r6,hr6,h⟩:=bS h
 refine oq 98 (.tup [I (r6.1),I (r6.2.1)]) rfl (e_callV rfl rfl (call_P rfl rfl rfl (avS (shP rfl) (avS (shP rfl) (avS (shP rfl) (avO (hd1 rfl (hd_hq (path:=[]) rfl rfl (ra_n))) (avN))))) (Ffbn_F hr6) (.inr rfl) (bl_c rfl rfl rfl rfl (bl_n)) rfl rfl rfl)) ?_
 refine ck 12 [1,20,21,22,23] [2] [] [] [I (r6.1),.isl false ((data_6).map str),I (r6.2.1),I (c_9),.hp 1 0 [] 1 0 0] [] 242 (by kernel_rfl) ?_
 obtain ⟨r7,hr7,h⟩:=bS h
 refine oq 258 (.tup [I (r7.1),I (r7.2.1)]) rfl (e_callV rfl rfl (call_P rfl rfl rfl (avS (shP rfl) (avS (shP rfl) (avS (shP rfl) (avO (hd1 rfl (hd_hq (path:=[]) rfl rfl (ra_n))) (avN))))) (Ffbn_F hr7) (.inr rfl) (bl_c rfl rfl rfl rfl (bl_n)) rfl rfl rfl)) ?_
 refine ck 12 [28,29,30,31] [3] [] [] [.isl false ((data_6).map str),I (r6.1),I (r7.1),.hp 1 0 [] 1 0 0] [] 402 (by kernel_rfl) ?_
 obtain ⟨r8,hr8,h⟩:=bS h
 refine oq 418 (.tup [I (r8.1),I (r8.2.1)]) rfl (e_callV rfl rfl (call_P rfl rfl rfl (avS (shP rfl) (avS (shP rfl) (avS (shP rfl) (avO (hd1 rfl (hd_hq (path:=[]) rfl rfl (ra_n))) (avN))))) (Ffbn_F hr8) (.inr rfl) (bl_c rfl rfl rfl rfl (bl_n)) rfl rfl rfl)) ?_
 refine ck 11 [10] [1] [] [] [I (r8.2.1)] [] 530 (by kernel_rfl) ?_
 obtain rfl:=Option.some.inj h
 exact s_ret rfl ⟨_,fin (vs:=[I (r8.2.1)]) rfl (absE (absorb_plain rfl) (absEN)) rfl (ou_f (ou_f (ou_f (ou_f (ou_1 rfl (oc_hp rfl rfl) (ou_n)))))),kl_c (kl_n)⟩
theorem Ffbl_good {G : Go.Ln.Ground} : Good Tryd.prog G 163 Ffbl_ent:=good_T (fnOf_good (gl_c Ffbn_good (gl_n))) agree_mk (Checked.mixed Tryd.checked) Tryd.func163 (n:=5) (m:=1) ⟨rfl,rfl,by decide⟩ (fun _=>⟨rfl,rfl⟩) (fun a r h=>Ffbl_run a.1 a.2.1 a.2.2.1 a.2.2.2.1 a.2.2.2.2 r h)
def Ffbk_A : ((List Str) × Int × Int)→List V:=cA (slE str) (cA I (oA (upE I)))
def Ffbk_R (r : Int × Int) : V × List V:=(I (r.1),[.uptr (I (r.2))])
noncomputable def Ffbk_ent : Ent:=entT [false,false,true] Ffbk_A Ffbk_R fun x=>Ffbk x.1 x.2.1 x.2.2
theorem Ffbk_F {data_4 : List Str} {a_5 : Int} {swaps_6 : Int} {r} (h : Ffbk data_4 a_5 swaps_6=some r) : (Ffbk_ent).F (Ffbk_A (data_4,a_5,swaps_6))=some (Ffbk_R r):=entT_F (cA_inj (isl_inj str_inj) (cA_inj I_inj (oA_inj (uptr_inj I_inj)))) h
noncomputable def Ffbk_c : Code:=bodyOf Tryd.f162
noncomputable def Ffbk_E : Env:=mkE Tryd.prog [(163,Ffbl_ent)]
def Ffbk_Q (x : (List Str) × Int × Int) (r : Int × Int) : St→Prop:=QF Ffbk_E Tryd.f162 [false,false,true] (Ffbk_A x) (Ffbk_R r)
theorem Ffbk_run (data_4 : List Str) (a_5 : Int) (swaps_6 : Int) (r : Int × Int) (h : Ffbk data_4 a_5 swaps_6=some r) : RunF Ffbk_E Tryd.f162 [false,false,true] 1 (Ffbk_A (data_4,a_5,swaps_6)) (Ffbk_R r):=by
 show Run _ _ (Ffbk_Q (data_4,a_5,swaps_6) r) [.code Ffbk_c] _
 refine rin (n:=15) [(0,.isl false ((data_4).map str)),(1,I (a_5)),(2,.hp 1 0 [] 1 0 0)] [(1,some ⟨0,1,[I (swaps_6)]⟩)] 2 (by kernel_rfl) (by kernel_rfl) (by kernel_rfl) rfl ?_
 unfold Ffbk at h
 refine cq 13 [7,9,10,12,13] [.isl false ((data_4).map str),I ((w64 (a_5 - 1))),I (a_5),I ((w64 (a_5 + 1))),.hp 1 0 [] 1 0 0] 130 ?_
 obtain ⟨r4,hr4,h⟩:=bS h
 refine oq 146 (I (r4.1)) rfl (e_callV rfl rfl (call_P rfl rfl rfl (avS (shP rfl) (avS (shP rfl) (avS (shP rfl) (avS (shP rfl) (avO (hd1 rfl (hd_hq (path:=[]) rfl rfl (ra_n))) (avN)))))) (Ffbl_F hr4) (.inr rfl) (bl_c rfl rfl rfl rfl (bl_n)) rfl rfl rfl)) ?_
 refine cq 2 [6] [I (r4.1)] 162 ?_
 obtain rfl:=Option.some.inj h
 exact s_ret rfl ⟨_,fin (vs:=[I (r4.1)]) rfl (absE (absorb_plain rfl) (absEN)) rfl (ou_f (ou_f (ou_1 rfl (oc_hp rfl rfl) (ou_n)))),kl_c (kl_n)⟩
theorem Ffbk_good {G : Go.Ln.Ground} : Good Tryd.prog G 162 Ffbk_ent:=good_T (fnOf_good (gl_c Ffbl_good (gl_n))) agree_mk (Checked.mixed Tryd.checked) Tryd.func162 (n:=3) (m:=1) ⟨rfl,rfl,by decide⟩ (fun _=>⟨rfl,rfl⟩) (fun a r h=>Ffbk_run a.1 a.2.1 a.2.2 r h)
def Ffbh_A : ((List Str) × Int × Int)→List V:=cA (slE str) (cA I (oA I))
def Ffbh_R (r : Int × Int) : V × List V:=(.tup [I (r.1),I (r.2)],[])
noncomputable def Ffbh_ent : Ent:=entT [false,false,false] Ffbh_A Ffbh_R fun x=>Ffbh x.1 x.2.1 x.2.2
theorem Ffbh_F {data_1 : List Str} {a_2 : Int} {b_3 : Int} {r} (h : Ffbh data_1 a_2 b_3=some r) : (Ffbh_ent).F (Ffbh_A (data_1,a_2,b_3))=some (Ffbh_R r):=entT_F (cA_inj (isl_inj str_inj) (cA_inj I_inj (oA_inj I_inj))) h
noncomputable def Ffbh_c : Code:=bodyOf Tryd.f143
noncomputable def Ffbh_E : Env:=mkE Tryd.prog [(163,Ffbl_ent),(162,Ffbk_ent)]
def Ffbh_Q (x : (List Str) × Int × Int) (r : Int × Int) : St→Prop:=QF Ffbh_E Tryd.f143 [false,false,false] (Ffbh_A x) (Ffbh_R r)
theorem Ffbh_run (data_1 : List Str) (a_2 : Int) (b_3 : Int) (r : Int × Int) (h : Ffbh data_1 a_2 b_3=some r) : RunF Ffbh_E Tryd.f143 [false,false,false] 0 (Ffbh_A (data_1,a_2,b_3)) (Ffbh_R r):=by
 show Run _ _ (Ffbh_Q (data_1,a_2,b_3) r) [.code Ffbh_c] _
 refine rin (n:=57) [(0,.isl false ((data_1).map str)),(1,I (a_2)),(2,I (b_3))] [] 1 (by kernel_rfl) (by kernel_rfl) (by kernel_rfl) rfl ?_
 unfold Ffbh at h
 refine ck 49 [8,9,10,11,12,32] [] [97] [] [I ((w64 (b_3 - a_2))),.hp 97 0 [] 1 0 0,I ((w64 (a_2 + (w64 ((w64 ((w64 (b_3 - a_2)).tdiv 4)) * 1))))),I ((w64 (a_2 + (w64 ((w64 ((w64 (b_3 - a_2)).tdiv 4)) * 2))))),I ((w64 (a_2 + (w64 ((w64 ((w64 (b_3 - a_2)).tdiv 4)) * 3))))),B ((decide ((w64 (b_3 - a_2)) ≥ 8)))] [some ⟨0,1,[I (0)]⟩] 433 (by kernel_rfl) ?_
 obtain ⟨y4,hy4,hy41,hy42⟩:=bJ h
 have j4 : ∀ u4,y4=.inr u4→Run Ffbh_E 0 (Ffbh_Q (data_1,a_2,b_3) r) (.code (cR (cR (cR (cR (cR (cR (cR Ffbh_c))))))) :: []) (sT 57 [(9,.hp 1 0 [] 1 0 0),(11,I (u4.1))] [⟨0,1,[I (u4.2)]⟩] 2):=by
   intro u4 hu
   replace h:=hy42 u4 hu
   refine cq 10 [49,51] [I (u4.2),B ((u4.2 == 0))] 50 ?_
   refine sq h (fun h=>?_) (fun h=>?_)
   · refine cq 6 [6,7] [I (u4.1),I (1)] 98 ?_
     obtain rfl:=Option.some.inj h
     exact s_ret rfl ⟨_,fin (vs:=[I (u4.1),I (1)]) rfl (absE (absorb_plain rfl) (absE (absorb_plain rfl) (absEN))) rfl (ou_f (ou_f (ou_f (ou_n)))),kl_n⟩
   · refine cq 5 [54] [B ((u4.2 == 12))] 82 ?_
     refine sq h (fun h=>?_) (fun h=>?_)
     · refine cq 6 [6,7] [I (u4.1),I (2)] 130 ?_
       obtain rfl:=Option.some.inj h
       exact s_ret rfl ⟨_,fin (vs:=[I (u4.1),I (2)]) rfl (absE (absorb_plain rfl) (absE (absorb_plain rfl) (absEN))) rfl (ou_f (ou_f (ou_f (ou_n)))),kl_n⟩
     · refine cq 6 [6,7] [I (u4.1),I (0)] 130 ?_
       obtain rfl:=Option.some.inj h
       exact s_ret rfl ⟨_,fin (vs:=[I (u4.1),I (0)]) rfl (absE (absorb_plain rfl) (absE (absorb_plain rfl) (absEN))) rfl (ou_f (ou_f (ou_f (ou_n)))),kl_n⟩
 have r4 : ∀ r',y4=.inl r'→∀ st,Ffbh_Q (data_1,a_2,b_3) r' st→(Ffbh_Q (data_1,a_2,b_3) r) st:=fun r' e st hq=>by rw [hy41 r' e] at hq; exact hq
 replace h:=hy4
 refine sq h (fun h=>?_) (fun h=>?_)
 · refine cq 6 [34] [B ((decide ((w64 (b_3 - a_2)) ≥ 50)))] 465 ?_
   obtain ⟨y5,hy5,hy51,hy52⟩:=bL h
   have j5 : ∀ u5,y5=.inr u5→Run Ffbh_E 0 (Ffbh_Q (data_1,a_2,b_3) r) (.code (cR (cL (cR (cL (cR (cR (cR (cR (cR (cR Ffbh_c)))))))))) :: .code (cR (cR (cR (cR (cR (cR (cR Ffbh_c))))))) :: []) (sT 57 [(0,.isl false ((data_1).map str)),(9,.hp 1 0 [] 1 0 0),(10,I (u5.1)),(11,I (u5.2.1)),(12,I (u5.2.2.1))] [⟨0,1,[I (u5.2.2.2)]⟩] 2):=by
     intro u5 hu
     replace h:=hy52 u5 hu
     refine cq 5 [44,45,46,47] [.isl false ((data_1).map str),I (u5.1),I (u5.2.1),I (u5.2.2.1)] 66 ?_
     obtain ⟨r6,hr6,h⟩:=bS h
     refine oq 82 (I (r6.1)) rfl (e_callV rfl rfl (call_P rfl rfl rfl (avS (shP rfl) (avS (shP rfl) (avS (shP rfl) (avS (shP rfl) (avO (hd1 rfl (hd_hq (path:=[]) rfl rfl (ra_n))) (avN)))))) (Ffbl_F hr6) (.inr rfl) (bl_c rfl rfl rfl rfl (bl_n)) rfl rfl rfl)) ?_
     refine cq 2 [11] [I (r6.1)] 98 ?_
     exact rf [9,11] [1] (j4 _ (Option.some.inj h).symm :)
   have r5 : ∀ r',y5=.inl r'→∀ st,Ffbh_Q (data_1,a_2,b_3) r' st→(Ffbh_Q (data_1,a_2,b_3) r) st:=fun r' e st hq=>r4 r' (hy51 r' e) st hq
   replace h:=hy5
   refine sq h (fun h=>?_) (fun h=>?_)
   · refine cq 4 [35,36] [.isl false ((data_1).map str),I ((w64 (a_2 + (w64 ((w64 ((w64 (b_3 - a_2)).tdiv 4)) * 1)))))] 497 ?_
     obtain ⟨r7,hr7,h⟩:=bS h
     refine oq 513 (I (r7.1)) rfl (e_callV rfl rfl (call_P rfl rfl rfl (avS (shP rfl) (avS (shP rfl) (avO (hd1 rfl (hd_hq (path:=[]) rfl rfl (ra_n))) (avN)))) (Ffbk_F hr7) (.inr rfl) (bl_c rfl rfl rfl rfl (bl_n)) rfl rfl rfl)) ?_
     refine cq 6 [10,38,39] [I (r7.1),.isl false ((data_1).map str),I ((w64 (a_2 + (w64 ((w64 ((w64 (b_3 - a_2)).tdiv 4)) * 2)))))] 561 ?_
     obtain ⟨r8,hr8,h⟩:=bS h
     refine oq 577 (I (r8.1)) rfl (e_callV rfl rfl (call_P rfl rfl rfl (avS (shP rfl) (avS (shP rfl) (avO (hd1 rfl (hd_hq (path:=[]) rfl rfl (ra_n))) (avN)))) (Ffbk_F hr8) (.inr rfl) (bl_c rfl rfl rfl rfl (bl_n)) rfl rfl rfl)) ?_
     refine cq 5 [11,41,42] [I (r8.1),.isl false ((data_1).map str),I ((w64 (a_2 + (w64 ((w64 ((w64 (b_3 - a_2)).tdiv 4)) * 3)))))] 625 ?_
     obtain ⟨r9,hr9,h⟩:=bS h
     refine oq 641 (I (r9.1)) rfl (e_callV rfl rfl (call_P rfl rfl rfl (avS (shP rfl) (avS (shP rfl) (avO (hd1 rfl (hd_hq (path:=[]) rfl rfl (ra_n))) (avN)))) (Ffbk_F hr9) (.inr rfl) (bl_c rfl rfl rfl rfl (bl_n)) rfl rfl rfl)) ?_
     refine cq 2 [12] [I (r9.1)] 657 ?_
     exact rf [0,9,10,11,12] [97] (j5 _ (Option.some.inj h).symm :)
   · refine aq 1 ?_
     exact rf [0,9,10,11,12] [97] (j5 _ (Option.some.inj h).symm :)
 · refine aq 1 ?_
   exact rf [9,11] [97] (j4 _ (Option.some.inj h).symm :)
theorem Ffbh_good {G : Go.Ln.Ground} : Good Tryd.prog G 143 Ffbh_ent:=good_T (fnOf_good (gl_c Ffbl_good (gl_c Ffbk_good (gl_n)))) agree_mk (Checked.mixed Tryd.checked) Tryd.func143 (n:=3) (m:=0) ⟨rfl,rfl,by decide⟩ (fun _=>⟨rfl,rfl⟩) (fun a r h=>Ffbh_run a.1 a.2.1 a.2.2 r h)
def Ffbs_A : ((List Str) × Int × Int)→List V:=cA (usE 1 str) (cA I (oA I))
def Ffbs_R (r : (List Str)) : V × List V:=(.tup [],[.usl 1 ((r).map str)])
noncomputable def Ffbs_ent : Ent:=entT [true,false,false] Ffbs_A Ffbs_R fun x=>Ffbs x.1 x.2.1 x.2.2
theorem Ffbs_F {data_9 : List Str} {a_10 : Int} {b_11 : Int} {r} (h : Ffbs data_9 a_10 b_11=some r) : (Ffbs_ent).F (Ffbs_A (data_9,a_10,b_11))=some (Ffbs_R r):=entT_F (cA_inj (usl_inj str_inj) (cA_inj I_inj (oA_inj I_inj))) h
noncomputable def Ffbs_c : Code:=bodyOf Tryd.f144
noncomputable def Ffbs_E : Env:=mkE Tryd.prog []
def Ffbs_Q (x : (List Str) × Int × Int) (r : (List Str)) : St→Prop:=QF Ffbs_E Tryd.f144 [true,false,false] (Ffbs_A x) (Ffbs_R r)
theorem Ffbs_la_run (data_9 : List Str) (a_10 : Int) (b_11 : Int)  {Q : St→Prop} {K : List It} (hK : noD K=true) : ∀ (x4 : Int × Int × (List Str)) (y : ((List Str)) ⊕ ((List Str))),Ffbs_la data_9 a_10 b_11 x4=some y→(∀ r',y=.inl r'→∀ st,Ffbs_Q (data_9,a_10,b_11) r' st→Q st)→(∀ u : (List Str),y=.inr u→Run Ffbs_E 1 Q K (sT 32 [] [⟨0,1,(u).map str⟩] 2))→Run Ffbs_E 1 Q (.code (cL (cL (cR (cR Ffbs_c)))) :: .lp (cL (cL (cR (cR Ffbs_c)))) :: .blk 0 :: K) (sT 32 [(0,.hs 1 0 [] 1 0 ((x4.2.2).map str).length),(6,I (x4.1)),(7,I (x4.2.1))] [⟨0,1,(x4.2.2).map str⟩] 2):=by
 refine fix_indP (Ffbs_la_fin data_9 a_10 b_11) ?_
 intro self ih x4 y h hr hn
 unfold Ffbs_la_F at h
 refine cq 7 [13] [B ((decide (x4.1 < x4.2.1)))] 50 ?_
 refine sq h (fun h=>?_) (fun h=>?_)
 · refine aq 1 ?_
   refine aq 2 ?_
   refine s_draw [0,0,0,0,0,0,48,112,0,0,768,1792,4083,8179,16383,32767] rfl (by decide +kernel) ?_
   refine dk 6 [19,18,17,16,15,14] [I (x4.2.1),.hs 1 0 [] 1 0 ((x4.2.2).map str).length,I (x4.2.1),.hs 1 0 [] 1 0 ((x4.2.2).map str).length,I (x4.1),.hs 1 0 [] 1 0 ((x4.2.2).map str).length] ?_
   obtain ⟨e5,he5,h⟩:=bS h
   refine dq [1] [] (.hp 1 0 [] 1 (0 + Int.toNat (x4.2.1)) 0) rfl (e_indexAddr rfl rfl rfl (ix_hsM (f:=str) (xs:=x4.2.2) rfl rfl rfl he5)) ?_
   refine dq [1] [] (str (e5)) rfl (e_ld rfl (ld_at (path:=[]) rfl rfl rfl (ra_n) (get_map (f:=str) (xs:=x4.2.2) he5) rfl rfl rfl)) ?_
   refine dk 2 [23,22] [I (x4.1),.hs 1 0 [] 1 0 ((x4.2.2).map str).length] ?_
   obtain ⟨e6,he6,h⟩:=bS h
   refine dq [1] [] (.hp 1 0 [] 1 (0 + Int.toNat (x4.1)) 0) rfl (e_indexAddr rfl rfl rfl (ix_hsM (f:=str) (xs:=x4.2.2) rfl rfl rfl he6)) ?_
   refine dq [1] [] (str (e6)) rfl (e_ld rfl (ld_at (path:=[]) rfl rfl rfl (ra_n) (get_map (f:=str) (xs:=x4.2.2) he6) rfl rfl rfl)) ?_
   obtain ⟨e7,he7,h⟩:=bS h
   refine dq [1] [] (.hp 1 0 [] 1 (0 + Int.toNat (x4.1)) 0) rfl (e_indexAddr rfl rfl rfl (ix_hsM (f:=str) (xs:=x4.2.2) rfl rfl rfl he7)) ?_
   refine dz [1] [1] rfl (e_st rfl rfl (st_at (path:=[]) (pl:=true) (e':=str (e5)) (es2':=((setI x4.2.2 x4.1 e5)).map str) rfl (absorb_plain rfl) rfl rfl rfl (ra_n) (get_map (f:=str) (xs:=x4.2.2) he7) rfl rfl rfl (set_map (f:=str) (xs:=x4.2.2) (y:=e5)) (sr_n) 0 rfl)) ?_
   try rw [← len_setM (f:=str) (xs:=x4.2.2) (i:=x4.1) (z:=e5)]
   obtain ⟨e10,he10,h⟩:=bS h
   refine dq [1] [] (.hp 1 0 [] 1 (0 + Int.toNat (x4.2.1)) 0) rfl (e_indexAddr rfl rfl rfl (ix_hsM (f:=str) (xs:=(setI x4.2.2 x4.1 e5)) rfl rfl rfl he10)) ?_
   refine dz [1] [1] rfl (e_st rfl rfl (st_at (path:=[]) (pl:=true) (e':=str (e6)) (es2':=((setI (setI x4.2.2 x4.1 e5) x4.2.1 e6)).map str) rfl (absorb_plain rfl) rfl rfl rfl (ra_n) (get_map (f:=str) (xs:=(setI x4.2.2 x4.1 e5)) he10) rfl rfl rfl (set_map (f:=str) (xs:=(setI x4.2.2 x4.1 e5)) (y:=e6)) (sr_n) 0 rfl)) ?_
   try rw [← len_setM (f:=str) (xs:=(setI x4.2.2 x4.1 e5)) (i:=x4.2.1) (z:=e6)]
   refine de 306 rfl rfl ?_
   refine cq 12 [6,7] [I ((w64 (x4.1 + 1))),I ((w64 (x4.2.1 - 1)))] 402 ?_
   refine s_lp ?_
   exact rf [0,6,7] [1] (ih _ _ h hr hn :)
 · refine aq 1 ?_
   exact rf [] [1] (hn _ (Option.some.inj h).symm :) (hk:=hK)
theorem Ffbs_run (data_9 : List Str) (a_10 : Int) (b_11 : Int) (r : (List Str)) (h : Ffbs data_9 a_10 b_11=some r) : RunF Ffbs_E Tryd.f144 [true,false,false] 1 (Ffbs_A (data_9,a_10,b_11)) (Ffbs_R r):=by
 show Run _ _ (Ffbs_Q (data_9,a_10,b_11) r) [.code Ffbs_c] _
 refine rin (n:=32) [(0,.hs 1 0 [] 1 0 ((data_9).map str).length),(1,I (a_10)),(2,I (b_11))] [(1,some ⟨0,1,(data_9).map str⟩)] 2 (by kernel_rfl) (by kernel_rfl) (by kernel_rfl) rfl ?_
 unfold Ffbs at h
 refine cq 12 [6,7] [I (a_10),I ((w64 (b_11 - 1)))] 82 ?_
 obtain ⟨y14,hy14,hy141,hy142⟩:=bJ h
 refine s_loop rfl ?_
 refine rf [0,6,7] [1] (Ffbs_la_run data_9 a_10 b_11 rfl (a_10,(w64 (b_11 - 1)),data_9) _ hy14 (fun r' e st hq=>by rw [hy141 r' e] at hq; exact hq) fun u14 hu=>?_)
 replace h:=hy142 u14 hu
 obtain ⟨g15,h⟩:=gG h
 obtain rfl:=Option.some.inj h
 exact s_end ⟨_,fin (vs:=[]) rfl (absEN) rfl (ou_1 rfl (oc_hsG (f:=str) (xs:=u14) (by simpa using g15) rfl) (ou_f (ou_f (ou_n)))),kl_c (kl_n)⟩
theorem Ffbs_good {G : Go.Ln.Ground} : Good Tryd.prog G 144 Ffbs_ent:=good_T (fnOf_good (gl_n)) agree_mk (Checked.mixed Tryd.checked) Tryd.func144 (n:=3) (m:=1) ⟨rfl,rfl,by decide⟩ (fun _=>⟨rfl,rfl⟩) (fun a r h=>Ffbs_run a.1 a.2.1 a.2.2 r h)
def Ffbo_A : ((List Str) × Int × Int)→List V:=cA (usE 1 str) (cA I (oA I))
def Ffbo_R (r : Bool × (List Str)) : V × List V:=(B (r.1),[.usl 1 ((r.2).map str)])
noncomputable def Ffbo_ent : Ent:=entT [true,false,false] Ffbo_A Ffbo_R fun x=>Ffbo x.1 x.2.1 x.2.2
theorem Ffbo_F {data_15 : List Str} {a_16 : Int} {b_17 : Int} {r} (h : Ffbo data_15 a_16 b_17=some r) : (Ffbo_ent).F (Ffbo_A (data_15,a_16,b_17))=some (Ffbo_R r):=entT_F (cA_inj (usl_inj str_inj) (cA_inj I_inj (oA_inj I_inj))) h
noncomputable def Ffbo_c : Code:=bodyOf Tryd.f145
noncomputable abbrev Ffbo_ka : Code:=cL (cL (cR (cL (cR (cR Ffbo_c)))))
noncomputable abbrev Ffbo_kb : Code:=cL (cL (cL (cL (cL (cR Ffbo_ka)))))
noncomputable abbrev Ffbo_kc : Code:=cL (cL (cR (cL (cR (cR (cR (cR (cR (cR (cL (cL (cR Ffbo_ka))))))))))))
noncomputable abbrev Ffbo_kd : Code:=cL (cL (cR (cL (cR (cL (cR (cR (cR (cR (cL (cL (cR Ffbo_ka))))))))))))
noncomputable def Ffbo_E : Env:=mkE Tryd.prog [(146,Ffa_ent)]
def Ffbo_Q (x : (List Str) × Int × Int) (r : Bool × (List Str)) : St→Prop:=QF Ffbo_E Tryd.f145 [true,false,false] (Ffbo_A x) (Ffbo_R r)
theorem Ffbo_lb_run (data_15 : List Str) (a_16 : Int) (b_17 : Int) (x4 : Int × Int × Int × Int × (List Str)) {Q : St→Prop} {K : List It} (hK : noD K=true) : ∀ (x5 : Int) (y : (Bool × (List Str)) ⊕ Int),Ffbo_lb data_15 a_16 b_17 x4 x5=some y→(∀ r',y=.inl r'→∀ st,Ffbo_Q (data_15,a_16,b_17) r' st→Q st)→(∀ u : Int,y=.inr u→Run Ffbo_E 1 Q K (sT 133 [(0,.hs 1 0 [] 1 0 ((x4.2.2.2.2).map str).length),(1,I (x4.1)),(2,I (x4.2.1)),(7,I (u)),(8,I (x4.2.2.2.1))] [⟨0,1,(x4.2.2.2.2).map str⟩] 2))→Run Ffbo_E 1 Q (.code Ffbo_kb :: .lp Ffbo_kb :: .blk 2 :: K) (sT 133 [(0,.hs 1 0 [] 1 0 ((x4.2.2.2.2).map str).length),(1,I (x4.1)),(2,I (x4.2.1)),(7,I (x5)),(8,I (x4.2.2.2.1))] [⟨0,1,(x4.2.2.2.2).map str⟩] 2):=by
 refine fix_indP (Ffbo_lb_fin data_15 a_16 b_17 x4) ?_
 intro self ih x5 y h hr hn
 unfold Ffbo_lb_F at h
 refine aq 2 ?_
 refine s_draw [0,0,3,7,15,15,63,127,15,15,527,1807,3855,8191,16383,32767] rfl (by decide +kernel) ?_
 refine dk 4 [20,19,18,17] [B ((decide (x5 < x4.2.1))),B ((decide (x5 < x4.2.1))),I (x4.2.1),I (x5)] ?_
 obtain ⟨y6,hy6,hy61,hy62⟩:=bL h
 have j6 : ∀ u6,y6=.inr u6→Run Ffbo_E 1 Q (.code (cR (cL Ffbo_kb)) :: .code (cR Ffbo_kb) :: .lp Ffbo_kb :: .blk 2 :: K) (sT 133 [(0,.hs 1 0 [] 1 0 ((x4.2.2.2.2).map str).length),(1,I (x4.1)),(2,I (x4.2.1)),(7,I (x5)),(8,I (x4.2.2.2.1)),(32,B (u6))] [⟨0,1,(x4.2.2.2.2).map str⟩] 2):=by
   intro u6 hu
   replace h:=hy62 u6 hu
   refine sq h (fun h=>?_) (fun h=>?_)
   · refine aq 1 ?_
     refine cq 7 [7] [I ((w64 (x5 + 1)))] 50 ?_
     refine s_lp ?_
     exact rf [0,1,2,7,8] [1] (ih _ _ h hr hn :)
   · refine aq 1 ?_
     exact rf [0,1,2,7,8] [1] (hn _ (Option.some.inj h).symm :) (hk:=hK)
 have r6 : ∀ r',y6=.inl r'→∀ st,Ffbo_Q (data_15,a_16,b_17) r' st→Q st:=fun r' e st hq=>hr r' (hy61 r' e) st hq
 replace h:=hy6
 refine sp 20 h rfl (fun h=>?_) (fun h=>?_)
 · refine dk 2 [22,21] [I (x5),.hs 1 0 [] 1 0 ((x4.2.2.2.2).map str).length] ?_
   obtain ⟨e7,he7,h⟩:=bS h
   refine dy [1] [] (.hp 1 0 [] 1 (0 + Int.toNat (x5)) 0) rfl (e_indexAddr rfl rfl rfl (ix_hsM (f:=str) (xs:=x4.2.2.2.2) rfl rfl rfl he7)) ?_
   refine dy [1] [] (str (e7)) rfl (e_ld rfl (ld_at (path:=[]) rfl rfl rfl (ra_n) (get_map (f:=str) (xs:=x4.2.2.2.2) he7) rfl rfl rfl)) ?_
   refine dk 3 [27,26,25] [I ((w64 (x5 - 1))),I (x5),.hs 1 0 [] 1 0 ((x4.2.2.2.2).map str).length] ?_
   obtain ⟨e8,he8,h⟩:=bS h
   refine dy [1] [] (.hp 1 0 [] 1 (0 + Int.toNat ((w64 (x5 - 1)))) 0) rfl (e_indexAddr rfl rfl rfl (ix_hsM (f:=str) (xs:=x4.2.2.2.2) rfl rfl rfl he8)) ?_
   refine dy [1] [] (str (e8)) rfl (e_ld rfl (ld_at (path:=[]) rfl rfl rfl (ra_n) (get_map (f:=str) (xs:=x4.2.2.2.2) he8) rfl rfl rfl)) ?_
   obtain ⟨r9,hr9,h⟩:=bS h
   refine dy [] [] (B (r9)) rfl (e_callV rfl rfl (call_P rfl rfl rfl (avS (shP rfl) (avS (shP rfl) (avN))) (Ffa_F hr9) (.inr rfl) (bl_n) rfl rfl rfl)) ?_ (w_callO rfl rfl rfl rfl (avS (shP rfl) (avS (shP rfl) (avN))) (Ffa_F hr9) (.inr rfl) rfl)
   refine dk 2 [32,31] [B ((!r9)),B ((!r9))] ?_
   refine de 258 rfl rfl ?_
   exact rf [0,1,2,7,8,32] [1] (j6 _ (Option.some.inj h).symm :)
 · refine dk 12 [32,31,30,29,28,27,26,25,24,23,22,21] [B (false),.und,.und,.und,.und,.und,.und,.und,.und,.und,.und,.und] ?_
   refine de 258 rfl rfl ?_
   exact rf [0,1,2,7,8,32] [1] (j6 _ (Option.some.inj h).symm :)
theorem Ffbo_lc_run (data_15 : List Str) (a_16 : Int) (b_17 : Int) (x4 : Int × Int × Int × Int × (List Str)) (u10 : Int) {Q : St→Prop} {K : List It} (hK : noD K=true) : ∀ (x24 : Int × (List Str)) (y : (Bool × (List Str)) ⊕ ((List Str))),Ffbo_lc data_15 a_16 b_17 x4 u10 x24=some y→(∀ r',y=.inl r'→∀ st,Ffbo_Q (data_15,a_16,b_17) r' st→Q st)→(∀ u : (List Str),y=.inr u→Run Ffbo_E 1 Q K (sT 133 [(0,.hs 1 0 [] 1 0 ((u).map str).length),(1,I (x4.1)),(2,I (x4.2.1)),(7,I (u10)),(8,I (x4.2.2.2.1))] [⟨0,1,(u).map str⟩] 2))→Run Ffbo_E 1 Q (.code Ffbo_kc :: .lp Ffbo_kc :: .blk 6 :: K) (sT 133 [(0,.hs 1 0 [] 1 0 ((x24.2).map str).length),(1,I (x4.1)),(2,I (x4.2.1)),(7,I (u10)),(8,I (x4.2.2.2.1)),(10,I (x24.1))] [⟨0,1,(x24.2).map str⟩] 2):=by
 refine fix_indP (Ffbo_lc_fin data_15 a_16 b_17 x4 u10) ?_
 intro self ih x24 y h hr hn
 unfold Ffbo_lc_F at h
 refine cq 7 [103] [B ((decide (x24.1 < x4.2.1)))] 50 ?_
 refine sq h (fun h=>?_) (fun h=>?_)
 · refine aq 1 ?_
   refine aq 4 ?_
   refine s_draw [0,0,3,7,0,0,32,112,240,511,1023] rfl (by decide +kernel) ?_
   refine dk 2 [107,106] [I (x24.1),.hs 1 0 [] 1 0 ((x24.2).map str).length] ?_
   obtain ⟨e25,he25,h⟩:=bS h
   refine dq [1] [] (.hp 1 0 [] 1 (0 + Int.toNat (x24.1)) 0) rfl (e_indexAddr rfl rfl rfl (ix_hsM (f:=str) (xs:=x24.2) rfl rfl rfl he25)) ?_
   refine dq [1] [] (str (e25)) rfl (e_ld rfl (ld_at (path:=[]) rfl rfl rfl (ra_n) (get_map (f:=str) (xs:=x24.2) he25) rfl rfl rfl)) ?_
   refine dk 3 [112,111,110] [I ((w64 (x24.1 - 1))),I (x24.1),.hs 1 0 [] 1 0 ((x24.2).map str).length] ?_
   obtain ⟨e26,he26,h⟩:=bS h
   refine dq [1] [] (.hp 1 0 [] 1 (0 + Int.toNat ((w64 (x24.1 - 1)))) 0) rfl (e_indexAddr rfl rfl rfl (ix_hsM (f:=str) (xs:=x24.2) rfl rfl rfl he26)) ?_
   refine dq [1] [] (str (e26)) rfl (e_ld rfl (ld_at (path:=[]) rfl rfl rfl (ra_n) (get_map (f:=str) (xs:=x24.2) he26) rfl rfl rfl)) ?_
   obtain ⟨r27,hr27,h⟩:=bS h
   refine dq [] [] (B (r27)) rfl (e_callV rfl rfl (call_P rfl rfl rfl (avS (shP rfl) (avS (shP rfl) (avN))) (Ffa_F hr27) (.inr rfl) (bl_n) rfl rfl rfl)) ?_ (w_callO rfl rfl rfl rfl (avS (shP rfl) (avS (shP rfl) (avN))) (Ffa_F hr27) (.inr rfl) rfl)
   refine dk 1 [116] [B ((!r27))] ?_
   refine de 226 rfl rfl ?_
   refine sq h (fun h=>?_) (fun h=>?_)
   · refine aq 1 ?_
     exact rf [0,1,2,7,8] [1] (hn _ (Option.some.inj h).symm :) (hk:=hK)
   · refine aq 1 ?_
     refine s_draw [0,0,0,0,8,0,0,64,224,480,0,0,3072,7168,16355,32739,65535,131071] rfl (by decide +kernel) ?_
     refine dk 8 [124,123,122,121,120,119,118,117] [I ((w64 (x24.1 - 1))),I (x24.1),.hs 1 0 [] 1 0 ((x24.2).map str).length,I ((w64 (x24.1 - 1))),I (x24.1),.hs 1 0 [] 1 0 ((x24.2).map str).length,I (x24.1),.hs 1 0 [] 1 0 ((x24.2).map str).length] ?_
     obtain ⟨e28,he28,h⟩:=bS h
     refine dq [1] [] (.hp 1 0 [] 1 (0 + Int.toNat ((w64 (x24.1 - 1)))) 0) rfl (e_indexAddr rfl rfl rfl (ix_hsM (f:=str) (xs:=x24.2) rfl rfl rfl he28)) ?_
     refine dq [1] [] (str (e28)) rfl (e_ld rfl (ld_at (path:=[]) rfl rfl rfl (ra_n) (get_map (f:=str) (xs:=x24.2) he28) rfl rfl rfl)) ?_
     refine dk 2 [128,127] [I (x24.1),.hs 1 0 [] 1 0 ((x24.2).map str).length] ?_
     obtain ⟨e29,he29,h⟩:=bS h
     refine dq [1] [] (.hp 1 0 [] 1 (0 + Int.toNat (x24.1)) 0) rfl (e_indexAddr rfl rfl rfl (ix_hsM (f:=str) (xs:=x24.2) rfl rfl rfl he29)) ?_
     refine dq [1] [] (str (e29)) rfl (e_ld rfl (ld_at (path:=[]) rfl rfl rfl (ra_n) (get_map (f:=str) (xs:=x24.2) he29) rfl rfl rfl)) ?_
     obtain ⟨e30,he30,h⟩:=bS h
     refine dq [1] [] (.hp 1 0 [] 1 (0 + Int.toNat (x24.1)) 0) rfl (e_indexAddr rfl rfl rfl (ix_hsM (f:=str) (xs:=x24.2) rfl rfl rfl he30)) ?_
     refine dz [1] [1] rfl (e_st rfl rfl (st_at (path:=[]) (pl:=true) (e':=str (e28)) (es2':=((setI x24.2 x24.1 e28)).map str) rfl (absorb_plain rfl) rfl rfl rfl (ra_n) (get_map (f:=str) (xs:=x24.2) he30) rfl rfl rfl (set_map (f:=str) (xs:=x24.2) (y:=e28)) (sr_n) 0 rfl)) ?_
     try rw [← len_setM (f:=str) (xs:=x24.2) (i:=x24.1) (z:=e28)]
     obtain ⟨e35,he35,h⟩:=bS h
     refine dq [1] [] (.hp 1 0 [] 1 (0 + Int.toNat ((w64 (x24.1 - 1)))) 0) rfl (e_indexAddr rfl rfl rfl (ix_hsM (f:=str) (xs:=(setI x24.2 x24.1 e28)) rfl rfl rfl he35)) ?_
     refine dz [1] [1] rfl (e_st rfl rfl (st_at (path:=[]) (pl:=true) (e':=str (e29)) (es2':=((setI (setI x24.2 x24.1 e28) (w64 (x24.1 - 1)) e29)).map str) rfl (absorb_plain rfl) rfl rfl rfl (ra_n) (get_map (f:=str) (xs:=(setI x24.2 x24.1 e28)) he35) rfl rfl rfl (set_map (f:=str) (xs:=(setI x24.2 x24.1 e28)) (y:=e29)) (sr_n) 0 rfl)) ?_
     try rw [← len_setM (f:=str) (xs:=(setI x24.2 x24.1 e28)) (i:=(w64 (x24.1 - 1))) (z:=e29)]
     refine de 514 rfl rfl ?_
     refine cq 6 [10] [I ((w64 (x24.1 + 1)))] 562 ?_
     refine s_lp ?_
     exact rf [0,1,2,7,8,10] [1] (ih _ _ h hr hn :)
 · refine aq 1 ?_
   exact rf [0,1,2,7,8] [1] (hn _ (Option.some.inj h).symm :) (hk:=hK)
end Go.Ln
