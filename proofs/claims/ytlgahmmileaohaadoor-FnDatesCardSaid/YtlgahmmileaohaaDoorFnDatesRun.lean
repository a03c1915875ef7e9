/-
  Each function of the program computes its plain function.
-/
import Derived.Test.YtlgahmmileaohaaDoorFnDatesFun
import Derived.Test.YtlgahmmileaohaaDoorChecked
set_option maxHeartbeats 4000000
set_option linter.unusedVariables false
set_option linter.unusedSimpArgs false
set_option maxRecDepth 100000
namespace Go.Ln
open Go Go.Proofs
def laws_vBig_A : ((List Int))→List V:=oA (slE (V.int .u8))
def laws_vBig_R (r : Bool) : V × List V:=(B (r),[])
noncomputable def laws_vBig_ent : Ent:=entT [false] laws_vBig_A laws_vBig_R fun x=>laws_vBig x
theorem laws_vBig_F {code_1 : List Int} {r} (h : laws_vBig code_1=some r) : (laws_vBig_ent).F (laws_vBig_A code_1)=some (laws_vBig_R r):=entT_F (oA_inj (isl_inj (vint_inj (k:=.u8)))) h
noncomputable def laws_vBig_c : Code:=bodyOf Tryd.f6
noncomputable def laws_vBig_E : Env:=mkE Tryd.prog []
def laws_vBig_Q (x : (List Int)) (r : Bool) : St→Prop:=QF laws_vBig_E Tryd.f6 [false] (laws_vBig_A x) (laws_vBig_R r)
theorem laws_vBig_run (code_1 : List Int) (r : Bool) (h : laws_vBig code_1=some r) : RunF laws_vBig_E Tryd.f6 [false] 0 (laws_vBig_A code_1) (laws_vBig_R r):=by
 show Run _ _ (laws_vBig_Q code_1 r) [.code laws_vBig_c] _
 refine rin (n:=6) [(0,.isl false ((code_1).map (V.int .u8)))] [] 1 (by kernel_rfl) (by kernel_rfl) (by kernel_rfl) rfl ?_
 unfold laws_vBig at h
 refine cq 7 [3] [.isl false ((code_1).map (V.int .u8))] 33 ?_
 refine oq 49 (I ((len code_1))) rfl (e_len rfl rfl rfl (l_isl rfl)) ?_
 refine cq 3 [2] [B ((decide ((len code_1) > 65536)))] 81 ?_
 obtain rfl:=Option.some.inj h
 exact s_ret rfl ⟨_,fin (vs:=[B ((decide ((len code_1) > 65536)))]) rfl (absE (absorb_plain rfl) (absEN)) rfl (ou_f (ou_n)),kl_n⟩
theorem laws_vBig_good {G : Go.Ln.Ground} [TabG Tryd.prog G] : Good Tryd.prog G 6 laws_vBig_ent:=good_T (fnOf_good (gl_n)) agree_mk (Checked.mixed Tryd.checked) Tryd.func6 (n:=1) (m:=0) ⟨rfl,rfl,by decide⟩ (fun _=>⟨rfl,rfl⟩) (fun a r h=>laws_vBig_run a r h)
def Ffu_A : l1Cur→List V:=oA (upE encO_l1Cur)
def Ffu_R (r : Int × l1Cur) : V × List V:=(I (r.1),[.uptr (encI_l1Cur r.2)])
noncomputable def Ffu_ent : Ent:=entT [true] Ffu_A Ffu_R fun x=>Ffu x
theorem Ffu_F {c_3 : l1Cur} {r} (h : Ffu c_3=some r) : (Ffu_ent).F (Ffu_A c_3)=some (Ffu_R r):=entT_F (oA_inj (uptr_inj encO_l1Cur_inj)) h
noncomputable def Ffu_c : Code:=bodyOf Tryd.f74
noncomputable def Ffu_E : Env:=mkE Tryd.prog []
def Ffu_Q (x : l1Cur) (r : Int × l1Cur) : St→Prop:=QF Ffu_E Tryd.f74 [true] (Ffu_A x) (Ffu_R r)
theorem Ffu_run (c_3 : l1Cur) (r : Int × l1Cur) (h : Ffu c_3=some r) : RunF Ffu_E Tryd.f74 [true] 1 (Ffu_A c_3) (Ffu_R r):=by
 show Run _ _ (Ffu_Q c_3 r) [.code Ffu_c] _
 refine rin (n:=62) [(0,.hp 1 0 [] 3 0 0)] [(1,some ⟨0,3,[encI_l1Cur c_3]⟩)] 2 (by kernel_rfl) (by kernel_rfl) (by kernel_rfl) rfl ?_
 unfold Ffu at h
 refine cq 10 [3] [I (0)] 34 ?_
 refine s_draw [0,1,3,7,0,16,48,112,240,511] rfl (by decide +kernel) ?_
 refine dk 1 [4] [.hp 1 0 [] 3 0 0] ?_
 refine dq [1] [] (.hp 1 0 [] 3 0 0) rfl (e_nilCheck rfl rfl) ?_
 refine dq [1] [] (.hp 1 0 [] 3 0 1) rfl (e_fieldAddr rfl rfl rfl) ?_
 refine dq [1] [] (I (c_3.f_at)) rfl (e_ld rfl rfl) ?_
 refine dk 1 [8] [.hp 1 0 [] 3 0 0] ?_
 refine dq [1] [] (.hp 1 0 [] 3 0 0) rfl (e_nilCheck rfl rfl) ?_
 refine dq [1] [] (.hp 1 0 [] 3 0 0) rfl (e_fieldAddr rfl rfl rfl) ?_
 refine dq [1] [] (.isl false ((c_3.f_code).map (V.int .u8))) rfl (e_ld rfl rfl) ?_
 refine dq [] [] (I ((len c_3.f_code))) rfl (e_len rfl rfl rfl (l_isl rfl)) ?_
 refine dk 1 [13] [B ((decide (c_3.f_at < (len c_3.f_code))))] ?_
 refine de 194 rfl rfl ?_
 obtain ⟨y2,hy2,hy21,hy22⟩:=bJ h
 have j2 : ∀ u2,y2=.inr u2→Run Ffu_E 1 (Ffu_Q c_3 r) (.code (cR (cR (cR Ffu_c))) :: []) (sT 62 [(0,.hp 1 0 [] 3 0 0),(3,I (u2))] [⟨0,3,[encI_l1Cur c_3]⟩] 2):=by
   intro u2 hu
   replace h:=hy22 u2 hu
   refine ck 29 [] [] [1] [] [] [some ⟨0,3,[.agg [.isl false ((c_3.f_code).map (V.int .u8)),I ((w64 (c_3.f_at + 1))),.int .u64 ((IntKind.u64.wrap ((IntKind.u64.wrap ((IntKind.u64.wrap (c_3.f_seed * 6364136223846793005)) + (IntKind.u64.wrap u2))) + 902902)))]]⟩] 338 (by kernel_rfl) ?_
   refine s_draw [0,1,3,7,0,16,48,112,240,511] rfl (by decide +kernel) ?_
   refine dk 1 [44] [.hp 1 0 [] 3 0 0] ?_
   refine dq [1] [] (.hp 1 0 [] 3 0 0) rfl (e_nilCheck rfl rfl) ?_
   refine dq [1] [] (.hp 1 0 [] 3 0 1) rfl (e_fieldAddr rfl rfl rfl) ?_
   refine dq [1] [] (I ((w64 (c_3.f_at + 1)))) rfl (e_ld rfl rfl) ?_
   refine dk 1 [48] [.hp 1 0 [] 3 0 0] ?_
   refine dq [1] [] (.hp 1 0 [] 3 0 0) rfl (e_nilCheck rfl rfl) ?_
   refine dq [1] [] (.hp 1 0 [] 3 0 0) rfl (e_fieldAddr rfl rfl rfl) ?_
   refine dq [1] [] (.isl false ((c_3.f_code).map (V.int .u8))) rfl (e_ld rfl rfl) ?_
   refine dq [] [] (I ((len c_3.f_code))) rfl (e_len rfl rfl rfl (l_isl rfl)) ?_
   refine dk 1 [53] [B ((decide ((w64 (c_3.f_at + 1)) ≤ (len c_3.f_code))))] ?_
   refine de 498 rfl rfl ?_
   refine sq h (fun h=>?_) (fun h=>?_)
   · refine cq 5 [2] [I (u2)] 530 ?_
     obtain rfl:=Option.some.inj h
     exact s_ret rfl ⟨_,fin (vs:=[I (u2)]) rfl (absE (absorb_plain rfl) (absEN)) rfl (ou_1 rfl (oc_hp rfl rfl) (ou_n)),kl_c (kl_n)⟩
   · refine aq 1 ?_
     refine cq 11 [2] [I ((IntKind.i64.wrap (andI .u64 (shrI .u64 (IntKind.u64.wrap ((IntKind.u64.wrap ((IntKind.u64.wrap (c_3.f_seed * 6364136223846793005)) + (IntKind.u64.wrap u2))) + 902902)) 40) 255)))] 626 ?_
     obtain rfl:=Option.some.inj h
     exact s_ret rfl ⟨_,fin (vs:=[I ((IntKind.i64.wrap (andI .u64 (shrI .u64 (IntKind.u64.wrap ((IntKind.u64.wrap ((IntKind.u64.wrap (c_3.f_seed * 6364136223846793005)) + (IntKind.u64.wrap u2))) + 902902)) 40) 255)))]) rfl (absE (absorb_plain rfl) (absEN)) rfl (ou_1 rfl (oc_hp rfl rfl) (ou_n)),kl_c (kl_n)⟩
 have r2 : ∀ r',y2=.inl r'→∀ st,Ffu_Q c_3 r' st→(Ffu_Q c_3 r) st:=fun r' e st hq=>by rw [hy21 r' e] at hq; exact hq
 replace h:=hy2
 refine sq h (fun h=>?_) (fun h=>?_)
 · refine s_draw [0,1,3,7,0,16,48,112,255,511,1023,2047] rfl (by decide +kernel) ?_
   refine dk 1 [14] [.hp 1 0 [] 3 0 0] ?_
   refine dq [1] [] (.hp 1 0 [] 3 0 0) rfl (e_nilCheck rfl rfl) ?_
   refine dq [1] [] (.hp 1 0 [] 3 0 0) rfl (e_fieldAddr rfl rfl rfl) ?_
   refine dq [1] [] (.isl false ((c_3.f_code).map (V.int .u8))) rfl (e_ld rfl rfl) ?_
   refine dk 1 [18] [.hp 1 0 [] 3 0 0] ?_
   refine dq [1] [] (.hp 1 0 [] 3 0 0) rfl (e_nilCheck rfl rfl) ?_
   refine dq [1] [] (.hp 1 0 [] 3 0 1) rfl (e_fieldAddr rfl rfl rfl) ?_
   refine dq [1] [] (I (c_3.f_at)) rfl (e_ld rfl rfl) ?_
   obtain ⟨e3,he3,h⟩:=bS h
   refine dq [] [] (.iptr (.int .u8 (e3)) 0) rfl (e_indexAddr rfl rfl rfl (ix_islE rfl rfl rfl rfl he3)) ?_
   refine dq [] [] (.int .u8 (e3)) rfl (e_ld rfl rfl) ?_
   refine dq [] [] (I ((IntKind.i64.wrap e3))) rfl (e_conv rfl rfl) ?_
   refine dk 1 [3] [I ((IntKind.i64.wrap e3))] ?_
   refine de 386 rfl rfl ?_
   exact rf [0,3] [1] (j2 _ (Option.some.inj h).symm :)
 · refine aq 1 ?_
   exact rf [0,3] [1] (j2 _ (Option.some.inj h).symm :)
theorem Ffu_good {G : Go.Ln.Ground} [TabG Tryd.prog G] : Good Tryd.prog G 74 Ffu_ent:=good_T (fnOf_good (gl_n)) agree_mk (Checked.mixed Tryd.checked) Tryd.func74 (n:=1) (m:=1) ⟨rfl,rfl,by decide⟩ (fun _=>⟨rfl,rfl⟩) (fun a r h=>Ffu_run a r h)
def Ffw_A : (l1Cur × Int)→List V:=cA (upE encO_l1Cur) (oA I)
def Ffw_R (r : Int × l1Cur) : V × List V:=(I (r.1),[.uptr (encI_l1Cur r.2)])
noncomputable def Ffw_ent : Ent:=entT [true,false] Ffw_A Ffw_R fun x=>Ffw x.1 x.2
theorem Ffw_F {c_3 : l1Cur} {n_4 : Int} {r} (h : Ffw c_3 n_4=some r) : (Ffw_ent).F (Ffw_A (c_3,n_4))=some (Ffw_R r):=entT_F (cA_inj (uptr_inj encO_l1Cur_inj) (oA_inj I_inj)) h
noncomputable def Ffw_c : Code:=bodyOf Tryd.f43
noncomputable def Ffw_E : Env:=mkE Tryd.prog [(74,Ffu_ent)]
def Ffw_Q (x : l1Cur × Int) (r : Int × l1Cur) : St→Prop:=QF Ffw_E Tryd.f43 [true,false] (Ffw_A x) (Ffw_R r)
theorem Ffw_run (c_3 : l1Cur) (n_4 : Int) (r : Int × l1Cur) (h : Ffw c_3 n_4=some r) : RunF Ffw_E Tryd.f43 [true,false] 1 (Ffw_A (c_3,n_4)) (Ffw_R r):=by
 show Run _ _ (Ffw_Q (c_3,n_4) r) [.code Ffw_c] _
 refine rin (n:=20) [(0,.hp 1 0 [] 3 0 0),(1,I (n_4))] [(1,some ⟨0,3,[encI_l1Cur c_3]⟩)] 2 (by kernel_rfl) (by kernel_rfl) (by kernel_rfl) rfl ?_
 unfold Ffw at h
 refine cq 10 [7] [B ((decide (n_4 ≤ 1)))] 50 ?_
 refine sq h (fun h=>?_) (fun h=>?_)
 · refine cq 4 [4] [I (0)] 66 ?_
   obtain rfl:=Option.some.inj h
   exact s_ret rfl ⟨_,fin (vs:=[I (0)]) rfl (absE (absorb_plain rfl) (absEN)) rfl (ou_1 rfl (oc_hp rfl rfl) (ou_f (ou_n))),kl_c (kl_n)⟩
 · refine aq 1 ?_
   refine cq 3 [8] [.hp 1 0 [] 3 0 0] 66 ?_
   obtain ⟨r3,hr3,h⟩:=bS h
   refine oq 82 (I (r3.1)) rfl (e_callV rfl rfl (call_P rfl rfl rfl (avO (hd1 rfl (hd_hp (path:=[]) rfl rfl (ra_n) rfl)) (avN)) (Ffu_F hr3) (.inr rfl) (bl_c rfl rfl rfl rfl (bl_n)) rfl rfl rfl)) ?_
   refine cq 8 [5,11] [I (r3.1),B ((decide (n_4 > 200)))] 130 ?_
   obtain ⟨y4,hy4,hy41,hy42⟩:=bJ h
   have j4 : ∀ u4,y4=.inr u4→Run Ffw_E 1 (Ffw_Q (c_3,n_4) r) (.code (cR (cR (cR (cR Ffw_c)))) :: []) (sT 20 [(1,I (n_4)),(5,I (u4.1))] [⟨0,3,[.agg [.isl false ((u4.2.1).map (V.int .u8)),I (u4.2.2.1),.int .u64 (u4.2.2.2)]]⟩] 2):=by
     intro u4 hu
     replace h:=hy42 u4 hu
     refine cq 4 [17,18] [I (u4.1),I (n_4)] 34 ?_
     obtain ⟨q5,hq5,h⟩:=bS h
     refine oq 50 (I (q5)) rfl (e_bin rfl rfl (b_rem hq5)) ?_
     refine cq 2 [4] [I (q5)] 66 ?_
     obtain rfl:=Option.some.inj h
     exact s_ret rfl ⟨_,fin (vs:=[I (q5)]) rfl (absE (absorb_plain rfl) (absEN)) rfl (ou_1 rfl (oc_hp rfl rfl) (ou_f (ou_n))),kl_c (kl_n)⟩
   have r4 : ∀ r',y4=.inl r'→∀ st,Ffw_Q (c_3,n_4) r' st→(Ffw_Q (c_3,n_4) r) st:=fun r' e st hq=>by rw [hy41 r' e] at hq; exact hq
   replace h:=hy4
   refine sq h (fun h=>?_) (fun h=>?_)
   · refine cq 4 [13,14] [I ((w64 (r3.1 * 256))),.hp 1 0 [] 3 0 0] 178 ?_
     obtain ⟨r6,hr6,h⟩:=bS h
     refine oq 194 (I (r6.1)) rfl (e_callV rfl rfl (call_P rfl rfl rfl (avO (hd1 rfl (hd_hp (path:=[]) rfl rfl (ra_n) rfl)) (avN)) (Ffu_F hr6) (.inr rfl) (bl_c rfl rfl rfl rfl (bl_n)) rfl rfl rfl)) ?_
     refine cq 3 [5] [I ((w64 ((w64 (r3.1 * 256)) + r6.1)))] 226 ?_
     exact rf [1,5] [1] (j4 _ (Option.some.inj h).symm :)
   · refine aq 1 ?_
     exact rf [1,5] [1] (j4 _ (Option.some.inj h).symm :)
theorem Ffw_good {G : Go.Ln.Ground} [TabG Tryd.prog G] : Good Tryd.prog G 43 Ffw_ent:=good_T (fnOf_good (gl_c Ffu_good (gl_n))) agree_mk (Checked.mixed Tryd.checked) Tryd.func43 (n:=2) (m:=1) ⟨rfl,rfl,by decide⟩ (fun _=>⟨rfl,rfl⟩) (fun a r h=>Ffw_run a.1 a.2 r h)
def Ffv_A : (l1Cur × Int)→List V:=cA (upE encO_l1Cur) (oA I)
def Ffv_R (r : Bool × l1Cur) : V × List V:=(B (r.1),[.uptr (encI_l1Cur r.2)])
noncomputable def Ffv_ent : Ent:=entT [true,false] Ffv_A Ffv_R fun x=>Ffv x.1 x.2
theorem Ffv_F {c_3 : l1Cur} {n_4 : Int} {r} (h : Ffv c_3 n_4=some r) : (Ffv_ent).F (Ffv_A (c_3,n_4))=some (Ffv_R r):=entT_F (cA_inj (uptr_inj encO_l1Cur_inj) (oA_inj I_inj)) h
noncomputable def Ffv_c : Code:=bodyOf Tryd.f47
noncomputable def Ffv_E : Env:=mkE Tryd.prog [(43,Ffw_ent)]
def Ffv_Q (x : l1Cur × Int) (r : Bool × l1Cur) : St→Prop:=QF Ffv_E Tryd.f47 [true,false] (Ffv_A x) (Ffv_R r)
theorem Ffv_run (c_3 : l1Cur) (n_4 : Int) (r : Bool × l1Cur) (h : Ffv c_3 n_4=some r) : RunF Ffv_E Tryd.f47 [true,false] 1 (Ffv_A (c_3,n_4)) (Ffv_R r):=by
 show Run _ _ (Ffv_Q (c_3,n_4) r) [.code Ffv_c] _
 refine rin (n:=9) [(0,.hp 1 0 [] 3 0 0),(1,I (n_4))] [(1,some ⟨0,3,[encI_l1Cur c_3]⟩)] 2 (by kernel_rfl) (by kernel_rfl) (by kernel_rfl) rfl ?_
 unfold Ffv at h
 refine cq 8 [5,6] [.hp 1 0 [] 3 0 0,I (n_4)] 50 ?_
 obtain ⟨r3,hr3,h⟩:=bS h
 refine oq 66 (I (r3.1)) rfl (e_callV rfl rfl (call_P rfl rfl rfl (avO (hd1 rfl (hd_hp (path:=[]) rfl rfl (ra_n) rfl)) (avS (shP rfl) (avN))) (Ffw_F hr3) (.inr rfl) (bl_c rfl rfl rfl rfl (bl_n)) rfl rfl rfl)) ?_
 refine cq 3 [4] [B ((r3.1 == 0))] 98 ?_
 obtain rfl:=Option.some.inj h
 exact s_ret rfl ⟨_,fin (vs:=[B ((r3.1 == 0))]) rfl (absE (absorb_plain rfl) (absEN)) rfl (ou_1 rfl (oc_hp rfl rfl) (ou_f (ou_n))),kl_c (kl_n)⟩
theorem Ffv_good {G : Go.Ln.Ground} [TabG Tryd.prog G] : Good Tryd.prog G 47 Ffv_ent:=good_T (fnOf_good (gl_c Ffw_good (gl_n))) agree_mk (Checked.mixed Tryd.checked) Tryd.func47 (n:=2) (m:=1) ⟨rfl,rfl,by decide⟩ (fun _=>⟨rfl,rfl⟩) (fun a r h=>Ffv_run a.1 a.2 r h)
def Ffr_A : (l1Cur × (List Int))→List V:=cA (upE encO_l1Cur) (oA (slE I))
def Ffr_R (r : Int × l1Cur) : V × List V:=(I (r.1),[.uptr (encI_l1Cur r.2)])
noncomputable def Ffr_ent : Ent:=entT [true,false] Ffr_A Ffr_R fun x=>Ffr x.1 x.2
theorem Ffr_F {c_3 : l1Cur} {list_4 : List Int} {r} (h : Ffr c_3 list_4=some r) : (Ffr_ent).F (Ffr_A (c_3,list_4))=some (Ffr_R r):=entT_F (cA_inj (uptr_inj encO_l1Cur_inj) (oA_inj (isl_inj I_inj))) h
noncomputable def Ffr_c : Code:=bodyOf Tryd.f42
noncomputable def Ffr_E : Env:=mkE Tryd.prog [(43,Ffw_ent)]
def Ffr_Q (x : l1Cur × (List Int)) (r : Int × l1Cur) : St→Prop:=QF Ffr_E Tryd.f42 [true,false] (Ffr_A x) (Ffr_R r)
theorem Ffr_run (c_3 : l1Cur) (list_4 : List Int) (r : Int × l1Cur) (h : Ffr c_3 list_4=some r) : RunF Ffr_E Tryd.f42 [true,false] 1 (Ffr_A (c_3,list_4)) (Ffr_R r):=by
 show Run _ _ (Ffr_Q (c_3,list_4) r) [.code Ffr_c] _
 refine rin (n:=12) [(0,.hp 1 0 [] 3 0 0),(1,.isl false ((list_4).map I))] [(1,some ⟨0,3,[encI_l1Cur c_3]⟩)] 2 (by kernel_rfl) (by kernel_rfl) (by kernel_rfl) rfl ?_
 unfold Ffr at h
 refine cq 9 [5,6,7] [.isl false ((list_4).map I),.hp 1 0 [] 3 0 0,.isl false ((list_4).map I)] 66 ?_
 refine oq 82 (I ((len list_4))) rfl (e_len rfl rfl rfl (l_isl rfl)) ?_
 obtain ⟨r3,hr3,h⟩:=bS h
 refine oq 98 (I (r3.1)) rfl (e_callV rfl rfl (call_P rfl rfl rfl (avO (hd1 rfl (hd_hp (path:=[]) rfl rfl (ra_n) rfl)) (avS (shP rfl) (avN))) (Ffw_F hr3) (.inr rfl) (bl_c rfl rfl rfl rfl (bl_n)) rfl rfl rfl)) ?_
 obtain ⟨e4,he4,h⟩:=bS h
 refine oq 114 (.iptr (I (e4)) 0) rfl (e_indexAddr rfl rfl rfl (ix_islE rfl rfl rfl rfl he4)) ?_
 refine cq 3 [4] [I (e4)] 146 ?_
 obtain rfl:=Option.some.inj h
 exact s_ret rfl ⟨_,fin (vs:=[I (e4)]) rfl (absE (absorb_plain rfl) (absEN)) rfl (ou_1 rfl (oc_hp rfl rfl) (ou_f (ou_n))),kl_c (kl_n)⟩
theorem Ffr_good {G : Go.Ln.Ground} [TabG Tryd.prog G] : Good Tryd.prog G 42 Ffr_ent:=good_T (fnOf_good (gl_c Ffw_good (gl_n))) agree_mk (Checked.mixed Tryd.checked) Tryd.func42 (n:=2) (m:=1) ⟨rfl,rfl,by decide⟩ (fun _=>⟨rfl,rfl⟩) (fun a r h=>Ffr_run a.1 a.2 r h)
def Fft_A : l1Cur→List V:=oA (upE encO_l1Cur)
def Fft_R (r : Int × l1Cur) : V × List V:=(I (r.1),[.uptr (encI_l1Cur r.2)])
noncomputable def Fft_ent : Ent:=entT [true] Fft_A Fft_R fun x=>Fft x
theorem Fft_F {c_2 : l1Cur} {r} (h : Fft c_2=some r) : (Fft_ent).F (Fft_A c_2)=some (Fft_R r):=entT_F (oA_inj (uptr_inj encO_l1Cur_inj)) h
noncomputable def Fft_c : Code:=bodyOf Tryd.f69
noncomputable def Fft_E : Env:=mkE Tryd.prog [(43,Ffw_ent),(42,Ffr_ent)]
def Fft_Q (x : l1Cur) (r : Int × l1Cur) : St→Prop:=QF Fft_E Tryd.f69 [true] (Fft_A x) (Fft_R r)
theorem Fft_run (c_2 : l1Cur) (r : Int × l1Cur) (h : Fft c_2=some r) : RunF Fft_E Tryd.f69 [true] 1 (Fft_A c_2) (Fft_R r):=by
 show Run _ _ (Fft_Q c_2 r) [.code Fft_c] _
 refine rin (n:=16) [(0,.hp 1 0 [] 3 0 0)] [(1,some ⟨0,3,[encI_l1Cur c_2]⟩)] 2 (by kernel_rfl) (by kernel_rfl) (by kernel_rfl) rfl ?_
 unfold Fft at h
 refine cq 8 [3] [.hp 1 0 [] 3 0 0] 34 ?_
 obtain ⟨r2,hr2,h⟩:=bS h
 refine oq 50 (I (r2.1)) rfl (e_callV rfl rfl (call_P rfl rfl rfl (avO (hd1 rfl (hd_hp (path:=[]) rfl rfl (ra_n) rfl)) (avS (shP rfl) (avN))) (Ffw_F hr2) (.inr rfl) (bl_c rfl rfl rfl rfl (bl_n)) rfl rfl rfl)) ?_
 refine cq 7 [5] [B ((r2.1 == 0))] 82 ?_
 refine sq h (fun h=>?_) (fun h=>?_)
 · refine cq 3 [7] [.hp 1 0 [] 3 0 0] 98 ?_
   refine oq 114 (.hs 98 0 [] 1 0 11) rfl (e_buildSlice rfl (bs_mk (f:=I) (xs:=[]) (z:=I (0)) (es:=[I (0),I (59),I (60),I (365),I (366),I (424),I (425),I (36524),I (36523),I (30),I (31)]) (ws:=[I (0),I (59),I (60),I (365),I (366),I (424),I (425),I (36524),I (36523),I (30),I (31)]) rfl rfl rfl (by decide) rfl (abs_each_plain rfl) rfl)) ?_
   obtain ⟨r3,hr3,h⟩:=bS h
   refine oK 130 (I (r3.1)) rfl rfl (e_callK rfl rfl (call_K rfl rfl rfl rfl (avO (hd1 rfl (hd_hp (path:=[]) rfl rfl (ra_n) rfl)) (avS (sh1 rfl rfl (sh_hsM (f:=I) (g:=I) (xs:=[0,59,60,365,366,424,425,36524,36523,30,31]) rfl rfl (imms_of I_imm))) (avN))) (Ffr_F hr3) (bl_c rfl rfl rfl rfl (bl_n)) rfl rfl rfl)) ?_
   refine cq 2 [2] [I (r3.1)] 146 ?_
   obtain rfl:=Option.some.inj h
   exact s_ret rfl ⟨_,fin (vs:=[I (r3.1)]) rfl (absE (absorb_plain rfl) (absEN)) rfl (ou_1 rfl (oc_hp rfl rfl) (ou_n)),kl_c (kl_n)⟩
 · refine cq 5 [10] [B ((r2.1 == 1))] 114 ?_
   refine sq h (fun h=>?_) (fun h=>?_)
   · refine cq 3 [12] [.hp 1 0 [] 3 0 0] 130 ?_
     obtain ⟨r4,hr4,h⟩:=bS h
     refine oq 146 (I (r4.1)) rfl (e_callV rfl rfl (call_P rfl rfl rfl (avO (hd1 rfl (hd_hp (path:=[]) rfl rfl (ra_n) rfl)) (avS (shP rfl) (avN))) (Ffw_F hr4) (.inr rfl) (bl_c rfl rfl rfl rfl (bl_n)) rfl rfl rfl)) ?_
     refine cq 2 [2] [I (r4.1)] 162 ?_
     obtain rfl:=Option.some.inj h
     exact s_ret rfl ⟨_,fin (vs:=[I (r4.1)]) rfl (absE (absorb_plain rfl) (absEN)) rfl (ou_1 rfl (oc_hp rfl rfl) (ou_n)),kl_c (kl_n)⟩
   · refine aq 1 ?_
     refine cq 4 [14] [.hp 1 0 [] 3 0 0] 130 ?_
     obtain ⟨r5,hr5,h⟩:=bS h
     refine oq 146 (I (r5.1)) rfl (e_callV rfl rfl (call_P rfl rfl rfl (avO (hd1 rfl (hd_hp (path:=[]) rfl rfl (ra_n) rfl)) (avS (shP rfl) (avN))) (Ffw_F hr5) (.inr rfl) (bl_c rfl rfl rfl rfl (bl_n)) rfl rfl rfl)) ?_
     refine cq 2 [2] [I (r5.1)] 162 ?_
     obtain rfl:=Option.some.inj h
     exact s_ret rfl ⟨_,fin (vs:=[I (r5.1)]) rfl (absE (absorb_plain rfl) (absEN)) rfl (ou_1 rfl (oc_hp rfl rfl) (ou_n)),kl_c (kl_n)⟩
theorem Fft_good {G : Go.Ln.Ground} [TabG Tryd.prog G] : Good Tryd.prog G 69 Fft_ent:=good_T (fnOf_good (gl_c Ffw_good (gl_c Ffr_good (gl_n)))) agree_mk (Checked.mixed Tryd.checked) Tryd.func69 (n:=1) (m:=1) ⟨rfl,rfl,by decide⟩ (fun _=>⟨rfl,rfl⟩) (fun a r h=>Fft_run a r h)
def Ffs_A : l1Cur→List V:=oA (upE encO_l1Cur)
def Ffs_R (r : Int × l1Cur) : V × List V:=(I (r.1),[.uptr (encI_l1Cur r.2)])
noncomputable def Ffs_ent : Ent:=entT [true] Ffs_A Ffs_R fun x=>Ffs x
theorem Ffs_F {c_2 : l1Cur} {r} (h : Ffs c_2=some r) : (Ffs_ent).F (Ffs_A c_2)=some (Ffs_R r):=entT_F (oA_inj (uptr_inj encO_l1Cur_inj)) h
noncomputable def Ffs_c : Code:=bodyOf Tryd.f33
noncomputable def Ffs_E : Env:=mkE Tryd.prog [(47,Ffv_ent),(42,Ffr_ent),(69,Fft_ent)]
def Ffs_Q (x : l1Cur) (r : Int × l1Cur) : St→Prop:=QF Ffs_E Tryd.f33 [true] (Ffs_A x) (Ffs_R r)
theorem Ffs_run (c_2 : l1Cur) (r : Int × l1Cur) (h : Ffs c_2=some r) : RunF Ffs_E Tryd.f33 [true] 1 (Ffs_A c_2) (Ffs_R r):=by
 show Run _ _ (Ffs_Q c_2 r) [.code Ffs_c] _
 refine rin (n:=10) [(0,.hp 1 0 [] 3 0 0)] [(1,some ⟨0,3,[encI_l1Cur c_2]⟩)] 2 (by kernel_rfl) (by kernel_rfl) (by kernel_rfl) rfl ?_
 unfold Ffs at h
 refine cq 8 [3] [.hp 1 0 [] 3 0 0] 34 ?_
 obtain ⟨r2,hr2,h⟩:=bS h
 refine oq 50 (B (r2.1)) rfl (e_callV rfl rfl (call_P rfl rfl rfl (avO (hd1 rfl (hd_hp (path:=[]) rfl rfl (ra_n) rfl)) (avS (shP rfl) (avN))) (Ffv_F hr2) (.inr rfl) (bl_c rfl rfl rfl rfl (bl_n)) rfl rfl rfl)) ?_
 refine aq 1 ?_
 refine sq h (fun h=>?_) (fun h=>?_)
 · refine cq 3 [5] [.hp 1 0 [] 3 0 0] 66 ?_
   refine oq 82 (.hs 66 0 [] 1 0 4) rfl (e_buildSlice rfl (bs_mk (f:=I) (xs:=[]) (z:=I (0)) (es:=[I ((-1)),I (36524),I (36525),I (1099511627776)]) (ws:=[I ((-1)),I (36524),I (36525),I (1099511627776)]) rfl rfl rfl (by decide) rfl (abs_each_plain rfl) rfl)) ?_
   obtain ⟨r3,hr3,h⟩:=bS h
   refine oK 98 (I (r3.1)) rfl rfl (e_callK rfl rfl (call_K rfl rfl rfl rfl (avO (hd1 rfl (hd_hp (path:=[]) rfl rfl (ra_n) rfl)) (avS (sh1 rfl rfl (sh_hsM (f:=I) (g:=I) (xs:=[(-1),36524,36525,1099511627776]) rfl rfl (imms_of I_imm))) (avN))) (Ffr_F hr3) (bl_c rfl rfl rfl rfl (bl_n)) rfl rfl rfl)) ?_
   refine cq 2 [2] [I (r3.1)] 114 ?_
   obtain rfl:=Option.some.inj h
   exact s_ret rfl ⟨_,fin (vs:=[I (r3.1)]) rfl (absE (absorb_plain rfl) (absEN)) rfl (ou_1 rfl (oc_hp rfl rfl) (ou_n)),kl_c (kl_n)⟩
 · refine aq 1 ?_
   refine cq 3 [8] [.hp 1 0 [] 3 0 0] 66 ?_
   obtain ⟨r4,hr4,h⟩:=bS h
   refine oq 82 (I (r4.1)) rfl (e_callV rfl rfl (call_P rfl rfl rfl (avO (hd1 rfl (hd_hp (path:=[]) rfl rfl (ra_n) rfl)) (avN)) (Fft_F hr4) (.inr rfl) (bl_c rfl rfl rfl rfl (bl_n)) rfl rfl rfl)) ?_
   refine cq 2 [2] [I (r4.1)] 98 ?_
   obtain rfl:=Option.some.inj h
   exact s_ret rfl ⟨_,fin (vs:=[I (r4.1)]) rfl (absE (absorb_plain rfl) (absEN)) rfl (ou_1 rfl (oc_hp rfl rfl) (ou_n)),kl_c (kl_n)⟩
theorem Ffs_good {G : Go.Ln.Ground} [TabG Tryd.prog G] : Good Tryd.prog G 33 Ffs_ent:=good_T (fnOf_good (gl_c Ffv_good (gl_c Ffr_good (gl_c Fft_good (gl_n))))) agree_mk (Checked.mixed Tryd.checked) Tryd.func33 (n:=1) (m:=1) ⟨rfl,rfl,by decide⟩ (fun _=>⟨rfl,rfl⟩) (fun a r h=>Ffs_run a r h)
def Ffq_A : ((List Int))→List V:=oA (slE (V.int .u8))
def Ffq_R (r : Int) : V × List V:=(I (r),[])
noncomputable def Ffq_ent : Ent:=entT [false] Ffq_A Ffq_R fun x=>Ffq x
theorem Ffq_F {code_1 : List Int} {r} (h : Ffq code_1=some r) : (Ffq_ent).F (Ffq_A code_1)=some (Ffq_R r):=entT_F (oA_inj (isl_inj (vint_inj (k:=.u8)))) h
noncomputable def Ffq_c : Code:=bodyOf Tryd.f7
noncomputable def Ffq_E : Env:=mkE Tryd.prog [(33,Ffs_ent)]
def Ffq_Q (x : (List Int)) (r : Int) : St→Prop:=QF Ffq_E Tryd.f7 [false] (Ffq_A x) (Ffq_R r)
theorem Ffq_run (code_1 : List Int) (r : Int) (h : Ffq code_1=some r) : RunF Ffq_E Tryd.f7 [false] 0 (Ffq_A code_1) (Ffq_R r):=by
 show Run _ _ (Ffq_Q code_1 r) [.code Ffq_c] _
 refine rin (n:=9) [(0,.isl false ((code_1).map (V.int .u8)))] [] 1 (by kernel_rfl) (by kernel_rfl) (by kernel_rfl) rfl ?_
 unfold Ffq at h
 refine ck 14 [7] [] [49] [] [.hp 49 0 [] 3 0 0] [some ⟨0,3,[.agg [.isl false ((code_1).map (V.int .u8)),I (0),.int .u64 (0)]]⟩] 97 (by kernel_rfl) ?_
 obtain ⟨r2,hr2,h⟩:=bS h
 refine oq 113 (I (r2.1)) rfl (e_callV rfl rfl (call_P rfl rfl rfl (avO (hd1 rfl (hd_hp (path:=[]) rfl rfl (ra_n) rfl)) (avN)) (Ffs_F hr2) (.inr rfl) (bl_c rfl rfl rfl rfl (bl_n)) rfl rfl rfl)) ?_
 refine cq 2 [2] [I (r2.1)] 129 ?_
 obtain rfl:=Option.some.inj h
 exact s_ret rfl ⟨_,fin (vs:=[I (r2.1)]) rfl (absE (absorb_plain rfl) (absEN)) rfl (ou_f (ou_n)),kl_n⟩
theorem Ffq_good {G : Go.Ln.Ground} [TabG Tryd.prog G] : Good Tryd.prog G 7 Ffq_ent:=good_T (fnOf_good (gl_c Ffs_good (gl_n))) agree_mk (Checked.mixed Tryd.checked) Tryd.func7 (n:=1) (m:=0) ⟨rfl,rfl,by decide⟩ (fun _=>⟨rfl,rfl⟩) (fun a r h=>Ffq_run a r h)
def Ffp_A : (Int × Int × Int)→List V:=cA I (cA I (oA I))
def Ffp_R (r : Bool) : V × List V:=(B (r),[])
noncomputable def Ffp_ent : Ent:=entT [false,false,false] Ffp_A Ffp_R fun x=>Ffp x.1 x.2.1 x.2.2
theorem Ffp_F {n_1 : Int} {low_2 : Int} {high_3 : Int} {r} (h : Ffp n_1 low_2 high_3=some r) : (Ffp_ent).F (Ffp_A (n_1,low_2,high_3))=some (Ffp_R r):=entT_F (cA_inj I_inj (cA_inj I_inj (oA_inj I_inj))) h
noncomputable def Ffp_c : Code:=bodyOf Tryd.f37
noncomputable def Ffp_E : Env:=mkE Tryd.prog []
def Ffp_Q (x : Int × Int × Int) (r : Bool) : St→Prop:=QF Ffp_E Tryd.f37 [false,false,false] (Ffp_A x) (Ffp_R r)
theorem Ffp_run (n_1 : Int) (low_2 : Int) (high_3 : Int) (r : Bool) (h : Ffp n_1 low_2 high_3=some r) : RunF Ffp_E Tryd.f37 [false,false,false] 0 (Ffp_A (n_1,low_2,high_3)) (Ffp_R r):=by
 show Run _ _ (Ffp_Q (n_1,low_2,high_3) r) [.code Ffp_c] _
 refine rin (n:=15) [(0,I (n_1)),(1,I (low_2)),(2,I (high_3))] [] 1 (by kernel_rfl) (by kernel_rfl) (by kernel_rfl) rfl ?_
 unfold Ffp at h
 refine cq 10 [10] [B ((decide (n_1 ≥ low_2)))] 81 ?_
 obtain ⟨u4,hu4,h⟩:=lJ h
 have j4 : Run Ffp_E 0 (Ffp_Q (n_1,low_2,high_3) r) (.code (cR (cR Ffp_c)) :: []) (sT 15 [(6,B (u4))] [] 1):=by
   obtain rfl:=Option.some.inj h
   exact s_ret rfl ⟨_,fin (vs:=[B (u4)]) rfl (absE (absorb_plain rfl) (absEN)) rfl (ou_f (ou_f (ou_f (ou_n)))),kl_n⟩
 replace h:=hu4
 clear hu4
 refine sp 10 h rfl (fun h=>?_) (fun h=>?_)
 · refine cq 6 [6] [B ((decide (n_1 ≤ high_3)))] 161 ?_
   subst h
   exact rf [6] [] (j4 :)
 · refine cq 6 [6] [B (false)] 161 ?_
   subst h
   exact rf [6] [] (j4 :)
theorem Ffp_good {G : Go.Ln.Ground} [TabG Tryd.prog G] : Good Tryd.prog G 37 Ffp_ent:=good_T (fnOf_good (gl_n)) agree_mk (Checked.mixed Tryd.checked) Tryd.func37 (n:=3) (m:=0) ⟨rfl,rfl,by decide⟩ (fun _=>⟨rfl,rfl⟩) (fun a r h=>Ffp_run a.1 a.2.1 a.2.2 r h)
def Ffm_A : Int→List V:=oA I
def Ffm_R (r : Bool) : V × List V:=(B (r),[])
noncomputable def Ffm_ent : Ent:=entT [false] Ffm_A Ffm_R fun x=>Ffm x
theorem Ffm_F {day_1 : Int} {r} (h : Ffm day_1=some r) : (Ffm_ent).F (Ffm_A day_1)=some (Ffm_R r):=entT_F (oA_inj I_inj) h
noncomputable def Ffm_c : Code:=bodyOf Tryd.f34
noncomputable def Ffm_E : Env:=mkE Tryd.prog [(37,Ffp_ent)]
def Ffm_Q (x : Int) (r : Bool) : St→Prop:=QF Ffm_E Tryd.f34 [false] (Ffm_A x) (Ffm_R r)
theorem Ffm_run (day_1 : Int) (r : Bool) (h : Ffm day_1=some r) : RunF Ffm_E Tryd.f34 [false] 0 (Ffm_A day_1) (Ffm_R r):=by
 show Run _ _ (Ffm_Q day_1 r) [.code Ffm_c] _
 refine rin (n:=5) [(0,I (day_1))] [] 1 (by kernel_rfl) (by kernel_rfl) (by kernel_rfl) rfl ?_
 unfold Ffm at h
 refine cq 7 [3] [I (day_1)] 33 ?_
 obtain ⟨r2,hr2,h⟩:=bS h
 refine oq 49 (B (r2)) rfl (e_callV rfl rfl (call_P rfl rfl rfl (avS (shP rfl) (avS (shP rfl) (avS (shP rfl) (avN)))) (Ffp_F hr2) (.inr rfl) (bl_n) rfl rfl rfl)) ?_
 refine cq 2 [2] [B (r2)] 65 ?_
 obtain rfl:=Option.some.inj h
 exact s_ret rfl ⟨_,fin (vs:=[B (r2)]) rfl (absE (absorb_plain rfl) (absEN)) rfl (ou_f (ou_n)),kl_n⟩
theorem Ffm_good {G : Go.Ln.Ground} [TabG Tryd.prog G] : Good Tryd.prog G 34 Ffm_ent:=good_T (fnOf_good (gl_c Ffp_good (gl_n))) agree_mk (Checked.mixed Tryd.checked) Tryd.func34 (n:=1) (m:=0) ⟨rfl,rfl,by decide⟩ (fun _=>⟨rfl,rfl⟩) (fun a r h=>Ffm_run a r h)
def Ffk_A : (Int × Int)→List V:=cA I (oA I)
def Ffk_R (r : Int) : V × List V:=(I (r),[])
noncomputable def Ffk_ent : Ent:=entT [false,false] Ffk_A Ffk_R fun x=>Ffk x.1 x.2
theorem Ffk_F {year_1 : Int} {month_2 : Int} {r} (h : Ffk year_1 month_2=some r) : (Ffk_ent).F (Ffk_A (year_1,month_2))=some (Ffk_R r):=entT_F (cA_inj I_inj (oA_inj I_inj)) h
noncomputable def Ffk_c : Code:=bodyOf Tryd.f38
noncomputable abbrev Ffk_ka : Code:=cR (cR (cR (cL (cR (cL (cR Ffk_c))))))
noncomputable def Ffk_E : Env:=mkE Tryd.prog []
def Ffk_Q (x : Int × Int) (r : Int) : St→Prop:=QF Ffk_E Tryd.f38 [false,false] (Ffk_A x) (Ffk_R r)
theorem Ffk_run (year_1 : Int) (month_2 : Int) (r : Int) (h : Ffk year_1 month_2=some r) : RunF Ffk_E Tryd.f38 [false,false] 0 (Ffk_A (year_1,month_2)) (Ffk_R r):=by
 show Run _ _ (Ffk_Q (year_1,month_2) r) [.code Ffk_c] _
 refine rin (n:=16) [(0,I (year_1)),(1,I (month_2))] [] 1 (by kernel_rfl) (by kernel_rfl) (by kernel_rfl) rfl ?_
 unfold Ffk at h
 refine cq 15 [5,6] [I (month_2),B ((month_2 == 2))] 65 ?_
 refine sq h (fun h=>?_) (fun h=>?_)
 · refine cq 7 [10] [B (((year_1.tmod 4) == 0))] 113 ?_
   refine sq h (fun h=>?_) (fun h=>?_)
   · refine cq 4 [4] [I (29)] 129 ?_
     obtain rfl:=Option.some.inj h
     exact s_ret rfl ⟨_,fin (vs:=[I (29)]) rfl (absE (absorb_plain rfl) (absEN)) rfl (ou_f (ou_f (ou_n))),kl_n⟩
   · refine aq 1 ?_
     refine cq 4 [4] [I (28)] 129 ?_
     obtain rfl:=Option.some.inj h
     exact s_ret rfl ⟨_,fin (vs:=[I (28)]) rfl (absE (absorb_plain rfl) (absEN)) rfl (ou_f (ou_f (ou_n))),kl_n⟩
 · refine cq 6 [11] [B ((month_2 == 4))] 97 ?_
   obtain ⟨u3,hu3,h⟩:=lJ h
   have j3 : Run Ffk_E 0 (Ffk_Q (year_1,month_2) r) (.code Ffk_ka :: .blk 0 :: .code (cR (cR Ffk_c)) :: []) (sT 16 [(11,B (u3))] [] 1):=by
     refine sq h (fun h=>?_) (fun h=>?_)
     · refine cq 4 [4] [I (30)] 17 ?_
       obtain rfl:=Option.some.inj h
       exact s_ret rfl ⟨_,fin (vs:=[I (30)]) rfl (absE (absorb_plain rfl) (absEN)) rfl (ou_f (ou_f (ou_n))),kl_n⟩
     · refine aq 1 ?_
       refine cq 5 [4] [I (31)] 17 ?_
       obtain rfl:=Option.some.inj h
       exact s_ret rfl ⟨_,fin (vs:=[I (31)]) rfl (absE (absorb_plain rfl) (absEN)) rfl (ou_f (ou_f (ou_n))),kl_n⟩
   replace h:=hu3
   clear hu3
   refine scp h rfl rfl (fun h=>?_) (fun h=>?_)
   · refine aq 1 ?_
     subst h
     exact rf [11] [] (j3 :)
   · refine cq 5 [11] [B ((month_2 == 6))] 129 ?_
     obtain ⟨u4,hu4,h⟩:=lJ h
     have j4 : Run Ffk_E 0 (Ffk_Q (year_1,month_2) r) (.code Ffk_ka :: .blk 0 :: .code (cR (cR Ffk_c)) :: []) (sT 16 [(11,B (u4))] [] 1):=by
       subst h
       exact rf [11] [] (j3 :)
     replace h:=hu4
     clear hu4
     refine scp h rfl rfl (fun h=>?_) (fun h=>?_)
     · refine aq 1 ?_
       subst h
       exact rf [11] [] (j4 :)
     · refine cq 5 [11] [B ((month_2 == 9))] 161 ?_
       obtain ⟨u5,hu5,h⟩:=lJ h
       have j5 : Run Ffk_E 0 (Ffk_Q (year_1,month_2) r) (.code Ffk_ka :: .blk 0 :: .code (cR (cR Ffk_c)) :: []) (sT 16 [(11,B (u5))] [] 1):=by
         subst h
         exact rf [11] [] (j4 :)
       replace h:=hu5
       clear hu5
       refine scp h rfl rfl (fun h=>?_) (fun h=>?_)
       · refine aq 1 ?_
         subst h
         exact rf [11] [] (j5 :)
       · refine cq 4 [11] [B ((month_2 == 11))] 193 ?_
         subst h
         exact rf [11] [] (j5 :)
theorem Ffk_good {G : Go.Ln.Ground} [TabG Tryd.prog G] : Good Tryd.prog G 38 Ffk_ent:=good_T (fnOf_good (gl_n)) agree_mk (Checked.mixed Tryd.checked) Tryd.func38 (n:=2) (m:=0) ⟨rfl,rfl,by decide⟩ (fun _=>⟨rfl,rfl⟩) (fun a r h=>Ffk_run a.1 a.2 r h)
def Ffl_A : Int→List V:=oA I
def Ffl_R (r : Int) : V × List V:=(I (r),[])
noncomputable def Ffl_ent : Ent:=entT [false] Ffl_A Ffl_R fun x=>Ffl x
theorem Ffl_F {year_1 : Int} {r} (h : Ffl year_1=some r) : (Ffl_ent).F (Ffl_A year_1)=some (Ffl_R r):=entT_F (oA_inj I_inj) h
noncomputable def Ffl_c : Code:=bodyOf Tryd.f70
noncomputable def Ffl_E : Env:=mkE Tryd.prog [(38,Ffk_ent)]
def Ffl_Q (x : Int) (r : Int) : St→Prop:=QF Ffl_E Tryd.f70 [false] (Ffl_A x) (Ffl_R r)
theorem Ffl_run (year_1 : Int) (r : Int) (h : Ffl year_1=some r) : RunF Ffl_E Tryd.f70 [false] 0 (Ffl_A year_1) (Ffl_R r):=by
 show Run _ _ (Ffl_Q year_1 r) [.code Ffl_c] _
 refine rin (n:=6) [(0,I (year_1))] [] 1 (by kernel_rfl) (by kernel_rfl) (by kernel_rfl) rfl ?_
 unfold Ffl at h
 refine cq 7 [3] [I (year_1)] 33 ?_
 obtain ⟨r2,hr2,h⟩:=bS h
 refine oq 49 (I (r2)) rfl (e_callV rfl rfl (call_P rfl rfl rfl (avS (shP rfl) (avS (shP rfl) (avN))) (Ffk_F hr2) (.inr rfl) (bl_n) rfl rfl rfl)) ?_
 refine cq 3 [2] [I ((w64 (337 + r2)))] 81 ?_
 obtain rfl:=Option.some.inj h
 exact s_ret rfl ⟨_,fin (vs:=[I ((w64 (337 + r2)))]) rfl (absE (absorb_plain rfl) (absEN)) rfl (ou_f (ou_n)),kl_n⟩
theorem Ffl_good {G : Go.Ln.Ground} [TabG Tryd.prog G] : Good Tryd.prog G 70 Ffl_ent:=good_T (fnOf_good (gl_c Ffk_good (gl_n))) agree_mk (Checked.mixed Tryd.checked) Tryd.func70 (n:=1) (m:=0) ⟨rfl,rfl,by decide⟩ (fun _=>⟨rfl,rfl⟩) (fun a r h=>Ffl_run a r h)
def Ffh_A : Int→List V:=oA I
def Ffh_R (r : Date) : V × List V:=(enc_Date r,[])
noncomputable def Ffh_ent : Ent:=entT [false] Ffh_A Ffh_R fun x=>Ffh x
theorem Ffh_F {day_1 : Int} {r} (h : Ffh day_1=some r) : (Ffh_ent).F (Ffh_A day_1)=some (Ffh_R r):=entT_F (oA_inj I_inj) h
noncomputable def Ffh_c : Code:=bodyOf Tryd.f35
noncomputable def Ffh_E : Env:=mkE Tryd.prog [(70,Ffl_ent),(38,Ffk_ent)]
def Ffh_Q (x : Int) (r : Date) : St→Prop:=QF Ffh_E Tryd.f35 [false] (Ffh_A x) (Ffh_R r)
theorem Ffh_la_run (day_1 : Int)  {Q : St→Prop} {K : List It} (hK : noD K=true) : ∀ (x2 : Int × Int) (y : Date ⊕ (Int × Int)),Ffh_la day_1 x2=some y→(∀ r',y=.inl r'→∀ st,Ffh_Q day_1 r' st→Q st)→(∀ u : Int × Int,y=.inr u→Run Ffh_E 0 Q K (sT 41 [(0,I (u.1)),(2,.hp 1 0 [] 3 0 0),(3,.hp 2 0 [] 3 0 0)] [⟨0,3,[.agg [I (0),I (0),I (0)]]⟩,⟨0,3,[.agg [I (u.2),I (1),I (0)]]⟩] 3))→Run Ffh_E 0 Q (.code (cL (cL (cL (cR (cR Ffh_c))))) :: .lp (cL (cL (cL (cR (cR Ffh_c))))) :: .blk 0 :: K) (sT 41 [(0,I (x2.1)),(2,.hp 1 0 [] 3 0 0),(3,.hp 2 0 [] 3 0 0)] [⟨0,3,[.agg [I (0),I (0),I (0)]]⟩,⟨0,3,[.agg [I (x2.2),I (1),I (0)]]⟩] 3):=by
 refine fix_indP (Ffh_la_fin day_1) ?_
 intro self ih x2 y h hr hn
 unfold Ffh_la_F at h
 refine cq 6 [5,7] [I (x2.1),I (x2.2)] 51 ?_
 obtain ⟨r3,hr3,h⟩:=bS h
 refine oq 67 (I (r3)) rfl (e_callV rfl rfl (call_P rfl rfl rfl (avS (shP rfl) (avN)) (Ffl_F hr3) (.inr rfl) (bl_n) rfl rfl rfl)) ?_
 refine cq 2 [9] [B ((decide (x2.1 ≥ r3)))] 83 ?_
 refine sq h (fun h=>?_) (fun h=>?_)
 · refine aq 1 ?_
   refine cq 6 [14,16] [I (x2.1),I (x2.2)] 131 ?_
   obtain ⟨r4,hr4,h⟩:=bS h
   refine oq 147 (I (r4)) rfl (e_callV rfl rfl (call_P rfl rfl rfl (avS (shP rfl) (avN)) (Ffl_F hr4) (.inr rfl) (bl_n) rfl rfl rfl)) ?_
   refine ck 11 [0] [] [2] [] [I ((w64 (x2.1 - r4)))] [some ⟨0,3,[.agg [I ((w64 (x2.2 + 1))),I (1),I (0)]]⟩] 259 (by kernel_rfl) ?_
   refine s_lp ?_
   exact rf [0,2,3] [1,2] (ih _ _ h hr hn :)
 · refine aq 1 ?_
   exact rf [0,2,3] [1,2] (hn _ (Option.some.inj h).symm :) (hk:=hK)
theorem Ffh_lb_run (day_1 : Int) (u5 : Int × Int) {Q : St→Prop} {K : List It} (hK : noD K=true) : ∀ (x6 : Int × Int) (y : Date ⊕ (Int × Int)),Ffh_lb day_1 u5 x6=some y→(∀ r',y=.inl r'→∀ st,Ffh_Q day_1 r' st→Q st)→(∀ u : Int × Int,y=.inr u→Run Ffh_E 0 Q K (sT 41 [(0,I (u.1)),(2,.hp 1 0 [] 3 0 0),(3,.hp 2 0 [] 3 0 0)] [⟨0,3,[.agg [I (0),I (0),I (0)]]⟩,⟨0,3,[.agg [I (u5.2),I (u.2),I (0)]]⟩] 3))→Run Ffh_E 0 Q (.code (cL (cL (cL (cR (cR (cR Ffh_c)))))) :: .lp (cL (cL (cL (cR (cR (cR Ffh_c)))))) :: .blk 2 :: K) (sT 41 [(0,I (x6.1)),(2,.hp 1 0 [] 3 0 0),(3,.hp 2 0 [] 3 0 0)] [⟨0,3,[.agg [I (0),I (0),I (0)]]⟩,⟨0,3,[.agg [I (u5.2),I (x6.2),I (0)]]⟩] 3):=by
 refine fix_indP (Ffh_lb_fin day_1 u5) ?_
 intro self ih x6 y h hr hn
 unfold Ffh_lb_F at h
 refine cq 8 [19,21,23] [I (x6.1),I (u5.2),I (x6.2)] 83 ?_
 obtain ⟨r7,hr7,h⟩:=bS h
 refine oq 99 (I (r7)) rfl (e_callV rfl rfl (call_P rfl rfl rfl (avS (shP rfl) (avS (shP rfl) (avN))) (Ffk_F hr7) (.inr rfl) (bl_n) rfl rfl rfl)) ?_
 refine cq 2 [25] [B ((decide (x6.1 ≥ r7)))] 115 ?_
 refine sq h (fun h=>?_) (fun h=>?_)
 · refine aq 1 ?_
   refine cq 8 [30,32,34] [I (x6.1),I (u5.2),I (x6.2)] 195 ?_
   obtain ⟨r8,hr8,h⟩:=bS h
   refine oq 211 (I (r8)) rfl (e_callV rfl rfl (call_P rfl rfl rfl (avS (shP rfl) (avS (shP rfl) (avN))) (Ffk_F hr8) (.inr rfl) (bl_n) rfl rfl rfl)) ?_
   refine ck 11 [0] [] [2] [] [I ((w64 (x6.1 - r8)))] [some ⟨0,3,[.agg [I (u5.2),I ((w64 (x6.2 + 1))),I (0)]]⟩] 323 (by kernel_rfl) ?_
   refine s_lp ?_
   exact rf [0,2,3] [1,2] (ih _ _ h hr hn :)
 · refine aq 1 ?_
   exact rf [0,2,3] [1,2] (hn _ (Option.some.inj h).symm :) (hk:=hK)
theorem Ffh_run (day_1 : Int) (r : Date) (h : Ffh day_1=some r) : RunF Ffh_E Tryd.f35 [false] 0 (Ffh_A day_1) (Ffh_R r):=by
 show Run _ _ (Ffh_Q day_1 r) [.code Ffh_c] _
 refine rin (n:=41) [(0,I (day_1))] [] 1 (by kernel_rfl) (by kernel_rfl) (by kernel_rfl) rfl ?_
 unfold Ffh at h
 refine ck 12 [2,3] [] [1,33] [] [.hp 1 0 [] 3 0 0,.hp 33 0 [] 3 0 0] [some ⟨0,3,[.agg [I (0),I (0),I (0)]]⟩,some ⟨0,3,[.agg [I (2000),I (1),I (0)]]⟩] 65 (by kernel_rfl) ?_
 obtain ⟨y5,hy5,hy51,hy52⟩:=bJ h
 refine s_loop rfl ?_
 refine rf [0,2,3] [1,33] (Ffh_la_run day_1 rfl (day_1,2000) _ hy5 (fun r' e st hq=>by rw [hy51 r' e] at hq; exact hq) fun u5 hu=>?_)
 replace h:=hy52 u5 hu
 refine aq 2 ?_
 obtain ⟨y9,hy9,hy91,hy92⟩:=bJ h
 refine s_loop rfl ?_
 refine rf [0,2,3] [1,2] (Ffh_lb_run day_1 u5 rfl (u5.1,1) _ hy9 (fun r' e st hq=>by rw [hy91 r' e] at hq; exact hq) fun u9 hu=>?_)
 replace h:=hy92 u9 hu
 refine ck 12 [] [] [1,2] [] [] [some ⟨0,3,[.agg [I (u5.2),I (u9.2),I ((w64 (u9.1 + 1)))]]⟩,some ⟨0,3,[.agg [I (u5.2),I (u9.2),I ((w64 (u9.1 + 1)))]]⟩] 99 (by kernel_rfl) ?_
 obtain rfl:=Option.some.inj h
 exact s_ret rfl ⟨_,fin (vs:=[.agg [I (u5.2),I (u9.2),I ((w64 (u9.1 + 1)))]]) (rs_c (rs_cell rfl rfl rfl) (rs_n)) (absE (absorb_plain rfl) (absEN)) rfl (ou_f (ou_n)),kl_n⟩
theorem Ffh_good {G : Go.Ln.Ground} [TabG Tryd.prog G] : Good Tryd.prog G 35 Ffh_ent:=good_T (fnOf_good (gl_c Ffl_good (gl_c Ffk_good (gl_n)))) agree_mk (Checked.mixed Tryd.checked) Tryd.func35 (n:=1) (m:=0) ⟨rfl,rfl,by decide⟩ (fun _=>⟨rfl,rfl⟩) (fun a r h=>Ffh_run a r h)
def Ffa_A : Int→List V:=oA I
def Ffa_R (r : Date × Bool) : V × List V:=(.tup [enc_Date r.1,B (r.2)],[])
noncomputable def Ffa_ent : Ent:=entT [false] Ffa_A Ffa_R fun x=>Ffa x
theorem Ffa_F {day_1 : Int} {r} (h : Ffa day_1=some r) : (Ffa_ent).F (Ffa_A day_1)=some (Ffa_R r):=entT_F (oA_inj I_inj) h
noncomputable def Ffa_c : Code:=bodyOf Tryd.f8
noncomputable def Ffa_E : Env:=mkE Tryd.prog [(34,Ffm_ent),(35,Ffh_ent)]
def Ffa_Q (x : Int) (r : Date × Bool) : St→Prop:=QF Ffa_E Tryd.f8 [false] (Ffa_A x) (Ffa_R r)
theorem Ffa_run (day_1 : Int) (r : Date × Bool) (h : Ffa day_1=some r) : RunF Ffa_E Tryd.f8 [false] 0 (Ffa_A day_1) (Ffa_R r):=by
 show Run _ _ (Ffa_Q day_1 r) [.code Ffa_c] _
 refine rin (n:=10) [(0,I (day_1))] [] 1 (by kernel_rfl) (by kernel_rfl) (by kernel_rfl) rfl ?_
 unfold Ffa at h
 refine ck 9 [2,4] [] [1] [] [.hp 1 0 [] 3 0 0,I (day_1)] [some ⟨0,3,[.agg [I (0),I (0),I (0)]]⟩] 49 (by kernel_rfl) ?_
 obtain ⟨r2,hr2,h⟩:=bS h
 refine oq 65 (B (r2)) rfl (e_callV rfl rfl (call_P rfl rfl rfl (avS (shP rfl) (avN)) (Ffm_F hr2) (.inr rfl) (bl_n) rfl rfl rfl)) ?_
 refine cq 2 [6] [B ((!r2))] 81 ?_
 refine sq h (fun h=>?_) (fun h=>?_)
 · refine ck 6 [3] [] [1] [] [B (false)] [some ⟨0,3,[.agg [I (0),I (0),I (0)]]⟩] 129 (by kernel_rfl) ?_
   obtain rfl:=Option.some.inj h
   exact s_ret rfl ⟨_,fin (vs:=[.agg [I (0),I (0),I (0)],B (false)]) (rs_c (rs_cell rfl rfl rfl) (rs_c (rfl) (rs_n))) (absE (absorb_plain rfl) (absE (absorb_plain rfl) (absEN))) rfl (ou_f (ou_n)),kl_n⟩
 · refine aq 1 ?_
   refine cq 3 [8] [I (day_1)] 97 ?_
   obtain ⟨r3,hr3,h⟩:=bS h
   refine oq 113 (enc_Date r3) rfl (e_callV rfl rfl (call_P rfl rfl rfl (avS (shP rfl) (avN)) (Ffh_F hr3) (.inr rfl) (bl_n) rfl rfl rfl)) ?_
   refine ck 3 [3] [] [1] [] [B (true)] [some ⟨0,3,[enc_Date r3]⟩] 145 (by kernel_rfl) ?_
   obtain rfl:=Option.some.inj h
   exact s_ret rfl ⟨_,fin (vs:=[enc_Date r3,B (true)]) (rs_c (rs_cell rfl rfl rfl) (rs_c (rfl) (rs_n))) (absE (absorb_plain rfl) (absE (absorb_plain rfl) (absEN))) rfl (ou_f (ou_n)),kl_n⟩
theorem Ffa_good {G : Go.Ln.Ground} [TabG Tryd.prog G] : Good Tryd.prog G 8 Ffa_ent:=good_T (fnOf_good (gl_c Ffm_good (gl_c Ffh_good (gl_n)))) agree_mk (Checked.mixed Tryd.checked) Tryd.func8 (n:=1) (m:=0) ⟨rfl,rfl,by decide⟩ (fun _=>⟨rfl,rfl⟩) (fun a r h=>Ffa_run a r h)
def Ffe_A : Date→List V:=oA enc_Date
def Ffe_R (r : Bool) : V × List V:=(B (r),[])
noncomputable def Ffe_ent : Ent:=entT [false] Ffe_A Ffe_R fun x=>Ffe x
theorem Ffe_F {d_1 : Date} {r} (h : Ffe d_1=some r) : (Ffe_ent).F (Ffe_A d_1)=some (Ffe_R r):=entT_F (oA_inj enc_Date_inj) h
noncomputable def Ffe_c : Code:=bodyOf Tryd.f10
noncomputable def Ffe_E : Env:=mkE Tryd.prog [(37,Ffp_ent),(38,Ffk_ent)]
def Ffe_Q (x : Date) (r : Bool) : St→Prop:=QF Ffe_E Tryd.f10 [false] (Ffe_A x) (Ffe_R r)
theorem Ffe_run (d_1 : Date) (r : Bool) (h : Ffe d_1=some r) : RunF Ffe_E Tryd.f10 [false] 0 (Ffe_A d_1) (Ffe_R r):=by
 show Run _ _ (Ffe_Q d_1 r) [.code Ffe_c] _
 refine rin (n:=21) [(0,enc_Date d_1)] [] 1 (by kernel_rfl) (by kernel_rfl) (by kernel_rfl) rfl ?_
 unfold Ffe at h
 refine ck 6 [1] [] [1] [] [.hp 1 0 [] 3 0 0] [some ⟨0,3,[enc_Date d_1]⟩] 33 (by kernel_rfl) ?_
 refine s_draw [0,1,3,7,15,31,63,127,255,511,1023,511,2559,511,8703,31231,65535,131071,262143] rfl (by decide +kernel) ?_
 refine dq [1] [] (.hp 1 0 [] 3 0 0) rfl (e_fieldAddr rfl rfl rfl) ?_
 refine dq [1] [] (I (d_1.Year)) rfl (e_ld rfl rfl) ?_
 obtain ⟨r2,hr2,h⟩:=bS h
 refine dq [] [] (B (r2)) rfl (e_callV rfl rfl (call_P rfl rfl rfl (avS (shP rfl) (avS (shP rfl) (avS (shP rfl) (avN)))) (Ffp_F hr2) (.inr rfl) (bl_n) rfl rfl rfl)) ?_ (w_callO rfl rfl rfl rfl (avS (shP rfl) (avS (shP rfl) (avS (shP rfl) (avN)))) (Ffp_F hr2) (.inr rfl) rfl)
 refine dk 1 [6] [B (r2)] ?_
 obtain ⟨y3,hy3,hy31,hy32⟩:=bJ h
 have j3 : ∀ u3,y3=.inr u3→Run Ffe_E 0 (Ffe_Q d_1 r) (.code (cR (cR Ffe_c)) :: []) (sT 21 [(2,B (u3))] [] 1):=by
   intro u3 hu
   replace h:=hy32 u3 hu
   obtain rfl:=Option.some.inj h
   exact s_ret rfl ⟨_,fin (vs:=[B (u3)]) rfl (absE (absorb_plain rfl) (absEN)) rfl (ou_f (ou_n)),kl_n⟩
 have r3 : ∀ r',y3=.inl r'→∀ st,Ffe_Q d_1 r' st→(Ffe_Q d_1 r) st:=fun r' e st hq=>by rw [hy31 r' e] at hq; exact hq
 replace h:=hy3
 refine sp 6 h rfl (fun h=>?_) (fun h=>?_)
 · refine dy [1] [] (.hp 1 0 [] 3 0 1) rfl (e_fieldAddr rfl rfl rfl) ?_
   refine dy [1] [] (I (d_1.Month)) rfl (e_ld rfl rfl) ?_
   obtain ⟨r4,hr4,h⟩:=bS h
   refine dy [] [] (B (r4)) rfl (e_callV rfl rfl (call_P rfl rfl rfl (avS (shP rfl) (avS (shP rfl) (avS (shP rfl) (avN)))) (Ffp_F hr4) (.inr rfl) (bl_n) rfl rfl rfl)) ?_ (w_callO rfl rfl rfl rfl (avS (shP rfl) (avS (shP rfl) (avS (shP rfl) (avN)))) (Ffp_F hr4) (.inr rfl) rfl)
   refine dk 2 [11,10] [B (r4),B (r4)] ?_
   obtain ⟨y5,hy5,hy51,hy52⟩:=bL h
   have j5 : ∀ u5,y5=.inr u5→Run Ffe_E 0 (Ffe_Q d_1 r) (.code (cR (cR Ffe_c)) :: []) (sT 21 [(2,B (u5))] [] 1):=by
     intro u5 hu
     replace h:=hy52 u5 hu
     exact rf [2] [] (j3 _ (Option.some.inj h).symm :)
   have r5 : ∀ r',y5=.inl r'→∀ st,Ffe_Q d_1 r' st→(Ffe_Q d_1 r) st:=fun r' e st hq=>r3 r' (hy51 r' e) st hq
   replace h:=hy5
   refine sp 11 h rfl (fun h=>?_) (fun h=>?_)
   · refine dy [1] [] (.hp 1 0 [] 3 0 2) rfl (e_fieldAddr rfl rfl rfl) ?_
     refine dy [1] [] (I (d_1.Day)) rfl (e_ld rfl rfl) ?_
     refine dy [1] [] (.hp 1 0 [] 3 0 0) rfl (e_fieldAddr rfl rfl rfl) ?_
     refine dy [1] [] (I (d_1.Year)) rfl (e_ld rfl rfl) ?_
     refine dy [1] [] (.hp 1 0 [] 3 0 1) rfl (e_fieldAddr rfl rfl rfl) ?_
     refine dy [1] [] (I (d_1.Month)) rfl (e_ld rfl rfl) ?_
     obtain ⟨r6,hr6,h⟩:=bS h
     refine dy [] [] (I (r6)) rfl (e_callV rfl rfl (call_P rfl rfl rfl (avS (shP rfl) (avS (shP rfl) (avN))) (Ffk_F hr6) (.inr rfl) (bl_n) rfl rfl rfl)) ?_ (w_callO rfl rfl rfl rfl (avS (shP rfl) (avS (shP rfl) (avN))) (Ffk_F hr6) (.inr rfl) rfl)
     obtain ⟨r7,hr7,h⟩:=bS h
     refine dy [] [] (B (r7)) rfl (e_callV rfl rfl (call_P rfl rfl rfl (avS (shP rfl) (avS (shP rfl) (avS (shP rfl) (avN)))) (Ffp_F hr7) (.inr rfl) (bl_n) rfl rfl rfl)) ?_ (w_callO rfl rfl rfl rfl (avS (shP rfl) (avS (shP rfl) (avS (shP rfl) (avN)))) (Ffp_F hr7) (.inr rfl) rfl)
     refine dk 2 [2,20] [B (r7),B (r7)] ?_
     refine de 337 rfl rfl ?_
     exact rf [2] [] (j5 _ (Option.some.inj h).symm :)
   · refine dk 10 [2,20,19,18,17,16,15,14,13,12] [B (false),B (false),.und,.und,.und,.und,.und,.und,.und,.und] ?_
     refine de 337 rfl rfl ?_
     exact rf [2] [] (j5 _ (Option.some.inj h).symm :)
 · refine dk 15 [2,20,19,18,17,16,15,14,13,12,11,10,9,8,7] [B (false),B (false),.und,.und,.und,.und,.und,.und,.und,.und,B (false),B (false),.und,.und,.und] ?_
   refine de 337 rfl rfl ?_
   exact rf [2] [] (j3 _ (Option.some.inj h).symm :)
theorem Ffe_good {G : Go.Ln.Ground} [TabG Tryd.prog G] : Good Tryd.prog G 10 Ffe_ent:=good_T (fnOf_good (gl_c Ffp_good (gl_c Ffk_good (gl_n)))) agree_mk (Checked.mixed Tryd.checked) Tryd.func10 (n:=1) (m:=0) ⟨rfl,rfl,by decide⟩ (fun _=>⟨rfl,rfl⟩) (fun a r h=>Ffe_run a r h)
def Ffj_A : Date→List V:=oA enc_Date
def Ffj_R (r : Int) : V × List V:=(I (r),[])
noncomputable def Ffj_ent : Ent:=entT [false] Ffj_A Ffj_R fun x=>Ffj x
theorem Ffj_F {d_1 : Date} {r} (h : Ffj d_1=some r) : (Ffj_ent).F (Ffj_A d_1)=some (Ffj_R r):=entT_F (oA_inj enc_Date_inj) h
noncomputable def Ffj_c : Code:=bodyOf Tryd.f36
noncomputable def Ffj_E : Env:=mkE Tryd.prog [(70,Ffl_ent),(38,Ffk_ent)]
def Ffj_Q (x : Date) (r : Int) : St→Prop:=QF Ffj_E Tryd.f36 [false] (Ffj_A x) (Ffj_R r)
theorem Ffj_la_run (d_1 : Date)  {Q : St→Prop} {K : List It} (hK : noD K=true) : ∀ (x2 : Int × Int) (y : Int ⊕ Int),Ffj_la d_1 x2=some y→(∀ r',y=.inl r'→∀ st,Ffj_Q d_1 r' st→Q st)→(∀ u : Int,y=.inr u→Run Ffj_E 0 Q K (sT 32 [(1,.hp 1 0 [] 3 0 0),(3,I (u))] [⟨0,3,[enc_Date d_1]⟩] 2))→Run Ffj_E 0 Q (.code (cL (cL (cR (cL (cR (cR Ffj_c)))))) :: .lp (cL (cL (cR (cL (cR (cR Ffj_c)))))) :: .blk 0 :: K) (sT 32 [(1,.hp 1 0 [] 3 0 0),(3,I (x2.1)),(4,I (x2.2))] [⟨0,3,[enc_Date d_1]⟩] 2):=by
 refine fix_indP (Ffj_la_fin d_1) ?_
 intro self ih x2 y h hr hn
 unfold Ffj_la_F at h
 refine cq 8 [12] [B ((decide (x2.2 < d_1.Year)))] 66 ?_
 refine sq h (fun h=>?_) (fun h=>?_)
 · refine aq 1 ?_
   refine cq 5 [15,16] [I (x2.1),I (x2.2)] 98 ?_
   obtain ⟨r3,hr3,h⟩:=bS h
   refine oq 114 (I (r3)) rfl (e_callV rfl rfl (call_P rfl rfl rfl (avS (shP rfl) (avN)) (Ffl_F hr3) (.inr rfl) (bl_n) rfl rfl rfl)) ?_
   refine cq 9 [3,4] [I ((w64 (x2.1 + r3))),I ((w64 (x2.2 + 1)))] 194 ?_
   refine s_lp ?_
   exact rf [1,3,4] [1] (ih _ _ h hr hn :)
 · refine aq 1 ?_
   exact rf [1,3] [1] (hn _ (Option.some.inj h).symm :) (hk:=hK)
theorem Ffj_lb_run (d_1 : Date)  {Q : St→Prop} {K : List It} (hK : noD K=true) : ∀ (x5 : Int × Int) (y : Int ⊕ Int),Ffj_lb d_1 x5=some y→(∀ r',y=.inl r'→∀ st,Ffj_Q d_1 r' st→Q st)→(∀ u : Int,y=.inr u→Run Ffj_E 0 Q K (sT 32 [(3,I (u))] [] 1))→Run Ffj_E 0 Q (.code (cL (cL (cR (cL (cR (cR (cR Ffj_c))))))) :: .lp (cL (cL (cR (cL (cR (cR (cR Ffj_c))))))) :: .blk 2 :: K) (sT 32 [(1,.hp 1 0 [] 3 0 0),(3,I (x5.1)),(5,I (x5.2))] [⟨0,3,[enc_Date d_1]⟩] 2):=by
 refine fix_indP (Ffj_lb_fin d_1) ?_
 intro self ih x5 y h hr hn
 unfold Ffj_lb_F at h
 refine cq 8 [22] [B ((decide (x5.2 < d_1.Month)))] 66 ?_
 refine sq h (fun h=>?_) (fun h=>?_)
 · refine aq 1 ?_
   refine cq 7 [25,27,28] [I (x5.1),I (d_1.Year),I (x5.2)] 130 ?_
   obtain ⟨r6,hr6,h⟩:=bS h
   refine oq 146 (I (r6)) rfl (e_callV rfl rfl (call_P rfl rfl rfl (avS (shP rfl) (avS (shP rfl) (avN))) (Ffk_F hr6) (.inr rfl) (bl_n) rfl rfl rfl)) ?_
   refine cq 9 [3,5] [I ((w64 (x5.1 + r6))),I ((w64 (x5.2 + 1)))] 226 ?_
   refine s_lp ?_
   exact rf [1,3,5] [1] (ih _ _ h hr hn :)
 · refine aq 1 ?_
   exact rf [3] [] (hn _ (Option.some.inj h).symm :) (hk:=hK)
theorem Ffj_run (d_1 : Date) (r : Int) (h : Ffj d_1=some r) : RunF Ffj_E Tryd.f36 [false] 0 (Ffj_A d_1) (Ffj_R r):=by
 show Run _ _ (Ffj_Q d_1 r) [.code Ffj_c] _
 refine rin (n:=32) [(0,enc_Date d_1)] [] 1 (by kernel_rfl) (by kernel_rfl) (by kernel_rfl) rfl ?_
 unfold Ffj at h
 refine ck 18 [1,3,4] [] [1] [] [.hp 1 0 [] 3 0 0,I ((w64 (d_1.Day - 1))),I (2000)] [some ⟨0,3,[enc_Date d_1]⟩] 113 (by kernel_rfl) ?_
 obtain ⟨y4,hy4,hy41,hy42⟩:=bJ h
 refine s_loop rfl ?_
 refine rf [1,3,4] [1] (Ffj_la_run d_1 rfl ((w64 (d_1.Day - 1)),2000) _ hy4 (fun r' e st hq=>by rw [hy41 r' e] at hq; exact hq) fun u4 hu=>?_)
 replace h:=hy42 u4 hu
 refine cq 6 [5] [I (1)] 18 ?_
 obtain ⟨y7,hy7,hy71,hy72⟩:=bJ h
 refine s_loop rfl ?_
 refine rf [1,3,5] [1] (Ffj_lb_run d_1 rfl (u4,1) _ hy7 (fun r' e st hq=>by rw [hy71 r' e] at hq; exact hq) fun u7 hu=>?_)
 replace h:=hy72 u7 hu
 refine cq 5 [2] [I (u7)] 33 ?_
 obtain rfl:=Option.some.inj h
 exact s_ret rfl ⟨_,fin (vs:=[I (u7)]) rfl (absE (absorb_plain rfl) (absEN)) rfl (ou_f (ou_n)),kl_n⟩
theorem Ffj_good {G : Go.Ln.Ground} [TabG Tryd.prog G] : Good Tryd.prog G 36 Ffj_ent:=good_T (fnOf_good (gl_c Ffl_good (gl_c Ffk_good (gl_n)))) agree_mk (Checked.mixed Tryd.checked) Tryd.func36 (n:=1) (m:=0) ⟨rfl,rfl,by decide⟩ (fun _=>⟨rfl,rfl⟩) (fun a r h=>Ffj_run a r h)
def Ffb_A : Date→List V:=oA enc_Date
def Ffb_R (r : Int × Bool) : V × List V:=(.tup [I (r.1),B (r.2)],[])
noncomputable def Ffb_ent : Ent:=entT [false] Ffb_A Ffb_R fun x=>Ffb x
theorem Ffb_F {d_1 : Date} {r} (h : Ffb d_1=some r) : (Ffb_ent).F (Ffb_A d_1)=some (Ffb_R r):=entT_F (oA_inj enc_Date_inj) h
noncomputable def Ffb_c : Code:=bodyOf Tryd.f9
noncomputable def Ffb_E : Env:=mkE Tryd.prog [(10,Ffe_ent),(36,Ffj_ent)]
def Ffb_Q (x : Date) (r : Int × Bool) : St→Prop:=QF Ffb_E Tryd.f9 [false] (Ffb_A x) (Ffb_R r)
theorem Ffb_run (d_1 : Date) (r : Int × Bool) (h : Ffb d_1=some r) : RunF Ffb_E Tryd.f9 [false] 0 (Ffb_A d_1) (Ffb_R r):=by
 show Run _ _ (Ffb_Q d_1 r) [.code Ffb_c] _
 refine rin (n:=9) [(0,enc_Date d_1)] [] 1 (by kernel_rfl) (by kernel_rfl) (by kernel_rfl) rfl ?_
 unfold Ffb at h
 refine ck 10 [1,4] [] [1] [] [.hp 1 0 [] 3 0 0,enc_Date d_1] [some ⟨0,3,[enc_Date d_1]⟩] 65 (by kernel_rfl) ?_
 obtain ⟨r2,hr2,h⟩:=bS h
 refine oq 81 (B (r2)) rfl (e_callV rfl rfl (call_P rfl rfl rfl (avS (shP rfl) (avN)) (Ffe_F hr2) (.inr rfl) (bl_n) rfl rfl rfl)) ?_
 refine cq 2 [6] [B ((!r2))] 97 ?_
 refine sq h (fun h=>?_) (fun h=>?_)
 · refine cq 5 [2,3] [I (0),B (false)] 129 ?_
   obtain rfl:=Option.some.inj h
   exact s_ret rfl ⟨_,fin (vs:=[I (0),B (false)]) rfl (absE (absorb_plain rfl) (absE (absorb_plain rfl) (absEN))) rfl (ou_f (ou_n)),kl_n⟩
 · refine aq 1 ?_
   refine cq 3 [7] [enc_Date d_1] 113 ?_
   obtain ⟨r3,hr3,h⟩:=bS h
   refine oq 129 (I (r3)) rfl (e_callV rfl rfl (call_P rfl rfl rfl (avS (shP rfl) (avN)) (Ffj_F hr3) (.inr rfl) (bl_n) rfl rfl rfl)) ?_
   refine cq 3 [2,3] [I (r3),B (true)] 161 ?_
   obtain rfl:=Option.some.inj h
   exact s_ret rfl ⟨_,fin (vs:=[I (r3),B (true)]) rfl (absE (absorb_plain rfl) (absE (absorb_plain rfl) (absEN))) rfl (ou_f (ou_n)),kl_n⟩
theorem Ffb_good {G : Go.Ln.Ground} [TabG Tryd.prog G] : Good Tryd.prog G 9 Ffb_ent:=good_T (fnOf_good (gl_c Ffe_good (gl_c Ffj_good (gl_n)))) agree_mk (Checked.mixed Tryd.checked) Tryd.func9 (n:=1) (m:=0) ⟨rfl,rfl,by decide⟩ (fun _=>⟨rfl,rfl⟩) (fun a r h=>Ffb_run a r h)
def xItoa_L_ren : Shelf.Ren:=⟨fun | 171=>75 | 243=>94 | 246=>105 | 283=>114 | 284=>115 | 285=>116 | 286=>117 | 129=>121 | 317=>120 | 318=>122 | 319=>123 | 320=>124 | 337=>125 | 338=>126 | n=>n,fun | 3=>3 | 9=>9 | 2=>2 | 4=>4 | 171=>116 | 0=>0 | 53=>47 | 37=>22 | 5=>5 | 173=>119 | 212=>125 | 51=>121 | 20=>20 | 213=>126 | 46=>93 | 232=>129 | 233=>130 | n=>n,fun | 17=>5 | 18=>6 | 19=>7 | n=>n⟩
theorem xItoa_L : Go.Proofs.LaysM.n171 Tryd.prog xItoa_L_ren where
  mixed:=by kernel_rfl
  f129:=Tryd.func121.trans (congrArg some (by kernel_rfl))
  f171:=Tryd.func75.trans (congrArg some (by kernel_rfl))
  f243:=Tryd.func94.trans (congrArg some (by kernel_rfl))
  f246:=Tryd.func105.trans (congrArg some (by kernel_rfl))
  f283:=Tryd.func114.trans (congrArg some (by kernel_rfl))
  f284:=Tryd.func115.trans (congrArg some (by kernel_rfl))
  f285:=Tryd.func116.trans (congrArg some (by kernel_rfl))
  f286:=Tryd.func117.trans (congrArg some (by kernel_rfl))
  f317:=Tryd.func120.trans (congrArg some (by kernel_rfl))
  f318:=Tryd.func122.trans (congrArg some (by kernel_rfl))
  f319:=Tryd.func123.trans (congrArg some (by kernel_rfl))
  f320:=Tryd.func124.trans (congrArg some (by kernel_rfl))
  f337:=Tryd.func125.trans (congrArg some (by kernel_rfl))
  f338:=Tryd.func126.trans (congrArg some (by kernel_rfl))
  t0:=Tryd.underlying0
  a0:=Tryd.isAgg0
  z0:=Tryd.sizeOf0
  v0:=Tryd.zeroValue0
  t2:=Tryd.underlying2
  a2:=Tryd.isAgg2
  z2:=Tryd.sizeOf2
  v2:=Tryd.zeroValue2
  t3:=Tryd.underlying3
  a3:=Tryd.isAgg3
  z3:=Tryd.sizeOf3
  v3:=Tryd.zeroValue3
  t4:=Tryd.underlying4
  a4:=Tryd.isAgg4
  z4:=Tryd.sizeOf4
  v4:=Tryd.zeroValue4
  t5:=Tryd.underlying5
  a5:=Tryd.isAgg5
  z5:=Tryd.sizeOf5
  v5:=Tryd.zeroValue5
  t9:=Tryd.underlying9
  a9:=Tryd.isAgg9
  z9:=Tryd.sizeOf9
  v9:=Tryd.zeroValue9
  t20:=Tryd.underlying20
  a20:=Tryd.isAgg20
  z20:=Tryd.sizeOf20
  v20:=Tryd.zeroValue20
  t37:=Tryd.underlying22
  a37:=Tryd.isAgg22
  z37:=Tryd.sizeOf22
  v37:=Tryd.zeroValue22
  t46:=Tryd.underlying93
  a46:=Tryd.isAgg93
  z46:=Tryd.sizeOf93
  v46:=Tryd.zeroValue93
  t51:=Tryd.underlying121
  a51:=Tryd.isAgg121
  z51:=Tryd.sizeOf121
  v51:=Tryd.zeroValue121
  t53:=Tryd.underlying47
  a53:=Tryd.isAgg47
  z53:=Tryd.sizeOf47
  v53:=Tryd.zeroValue47
  t171:=Tryd.underlying116
  a171:=Tryd.isAgg116
  z171:=Tryd.sizeOf116
  v171:=Tryd.zeroValue116
  t173:=Tryd.underlying119
  a173:=Tryd.isAgg119
  z173:=Tryd.sizeOf119
  v173:=Tryd.zeroValue119
  t212:=Tryd.underlying125
  a212:=Tryd.isAgg125
  z212:=Tryd.sizeOf125
  v212:=Tryd.zeroValue125
  t213:=Tryd.underlying126
  a213:=Tryd.isAgg126
  z213:=Tryd.sizeOf126
  t232:=Tryd.underlying129
  a232:=Tryd.isAgg129
  z232:=Tryd.sizeOf129
  v232:=Tryd.zeroValue129
  t233:=Tryd.underlying130
  a233:=Tryd.isAgg130
  z233:=Tryd.sizeOf130
  v233:=Tryd.zeroValue130
  g17:=by kernel_rfl
  g18:=by kernel_rfl
  g19:=by kernel_rfl
  i0:=by kernel_rfl
  i2:=by kernel_rfl
  i3:=by kernel_rfl
  i4:=by kernel_rfl
  i5:=by kernel_rfl
  i9:=by kernel_rfl
  i20:=by kernel_rfl
  i37:=by kernel_rfl
  i46:=by kernel_rfl
  i51:=by kernel_rfl
  i53:=by kernel_rfl
  i171:=by kernel_rfl
  i173:=by kernel_rfl
  i212:=by kernel_rfl
  i232:=by kernel_rfl
  i233:=by kernel_rfl
  m17:=by kernel_rfl
  m18:=by kernel_rfl
  m19:=by kernel_rfl
noncomputable def xItoa_ent : Ent:=entT [false] (oA I) (fun r=>(str r,[])) xItoa
theorem xItoa_F {n : Int} {r} (h : xItoa n=some r) : xItoa_ent.F [I n]=some (str r,[]):=entT_F (ea:=oA I) (oA_inj I_inj) h
theorem xItoa_good {G : Go.Ln.Ground} [TabG Tryd.prog G] : Good Tryd.prog G 75 xItoa_ent:=good_itoa xItoa_L
def Ffn_A : (Int × Int)→List V:=cA I (oA I)
def Ffn_R (r : Str) : V × List V:=(str (r),[])
noncomputable def Ffn_ent : Ent:=entT [false,false] Ffn_A Ffn_R fun x=>Ffn x.1 x.2
theorem Ffn_F {n_1 : Int} {digits_2 : Int} {r} (h : Ffn n_1 digits_2=some r) : (Ffn_ent).F (Ffn_A (n_1,digits_2))=some (Ffn_R r):=entT_F (cA_inj I_inj (oA_inj I_inj)) h
noncomputable def Ffn_c : Code:=bodyOf Tryd.f71
noncomputable def Ffn_E : Env:=mkE Tryd.prog [(75,xItoa_ent)]
def Ffn_Q (x : Int × Int) (r : Str) : St→Prop:=QF Ffn_E Tryd.f71 [false,false] (Ffn_A x) (Ffn_R r)
theorem Ffn_la_run (n_1 : Int) (digits_2 : Int)  {Q : St→Prop} {K : List It} (hK : noD K=true) : ∀ (x4 : Str) (y : Str ⊕ Str),Ffn_la n_1 digits_2 x4=some y→(∀ r',y=.inl r'→∀ st,Ffn_Q (n_1,digits_2) r' st→Q st)→(∀ u : Str,y=.inr u→Run Ffn_E 0 Q K (sT 15 [(5,str (u))] [] 1))→Run Ffn_E 0 Q (.code (cL (cL (cL (cR (cR Ffn_c))))) :: .lp (cL (cL (cL (cR (cR Ffn_c))))) :: .blk 0 :: K) (sT 15 [(1,I (digits_2)),(5,str (x4))] [] 1):=by
 refine fix_indP (Ffn_la_fin n_1 digits_2) ?_
 intro self ih x4 y h hr hn
 unfold Ffn_la_F at h
 refine cq 8 [11] [B ((decide ((len x4) < digits_2)))] 65 ?_
 refine sq h (fun h=>?_) (fun h=>?_)
 · refine aq 1 ?_
   refine cq 3 [12] [str (x4)] 81 ?_
   obtain ⟨s5,hs5,h⟩:=bS h
   refine oq 97 (str (s5)) rfl (e_bin rfl rfl (b_cat hs5)) ?_
   refine cq 3 [5] [str (s5)] 113 ?_
   refine s_lp ?_
   exact rf [1,5] [] (ih _ _ h hr hn :)
 · refine aq 1 ?_
   exact rf [5] [] (hn _ (Option.some.inj h).symm :) (hk:=hK)
theorem Ffn_run (n_1 : Int) (digits_2 : Int) (r : Str) (h : Ffn n_1 digits_2=some r) : RunF Ffn_E Tryd.f71 [false,false] 0 (Ffn_A (n_1,digits_2)) (Ffn_R r):=by
 show Run _ _ (Ffn_Q (n_1,digits_2) r) [.code Ffn_c] _
 refine rin (n:=15) [(0,I (n_1)),(1,I (digits_2))] [] 1 (by kernel_rfl) (by kernel_rfl) (by kernel_rfl) rfl ?_
 unfold Ffn at h
 refine cq 7 [6] [I (n_1)] 33 ?_
 obtain ⟨r3,hr3,h⟩:=bS h
 refine oq 49 (str (r3)) rfl (e_callV rfl rfl (call_P rfl rfl rfl (avS (shP rfl) (avN)) (xItoa_F hr3) (.inr rfl) (bl_n) rfl rfl rfl)) ?_
 refine cq 4 [5] [str (r3)] 65 ?_
 obtain ⟨y6,hy6,hy61,hy62⟩:=bJ h
 refine s_loop rfl ?_
 refine rf [1,5] [] (Ffn_la_run n_1 digits_2 rfl r3 _ hy6 (fun r' e st hq=>by rw [hy61 r' e] at hq; exact hq) fun u6 hu=>?_)
 replace h:=hy62 u6 hu
 refine cq 5 [4] [str (u6)] 33 ?_
 obtain rfl:=Option.some.inj h
 exact s_ret rfl ⟨_,fin (vs:=[str (u6)]) rfl (absE (absorb_plain rfl) (absEN)) rfl (ou_f (ou_f (ou_n))),kl_n⟩
theorem Ffn_good {G : Go.Ln.Ground} [TabG Tryd.prog G] : Good Tryd.prog G 71 Ffn_ent:=good_T (fnOf_good (gl_c xItoa_good (gl_n))) agree_mk (Checked.mixed Tryd.checked) Tryd.func71 (n:=2) (m:=0) ⟨rfl,rfl,by decide⟩ (fun _=>⟨rfl,rfl⟩) (fun a r h=>Ffn_run a.1 a.2 r h)
def Ffi_A : Int→List V:=oA I
def Ffi_R (r : Str) : V × List V:=(str (r),[])
noncomputable def Ffi_ent : Ent:=entT [false] Ffi_A Ffi_R fun x=>Ffi x
theorem Ffi_F {day_1 : Int} {r} (h : Ffi day_1=some r) : (Ffi_ent).F (Ffi_A day_1)=some (Ffi_R r):=entT_F (oA_inj I_inj) h
noncomputable def Ffi_c : Code:=bodyOf Tryd.f39
noncomputable def Ffi_E : Env:=mkE Tryd.prog [(35,Ffh_ent),(71,Ffn_ent)]
def Ffi_Q (x : Int) (r : Str) : St→Prop:=QF Ffi_E Tryd.f39 [false] (Ffi_A x) (Ffi_R r)
theorem Ffi_run (day_1 : Int) (r : Str) (h : Ffi day_1=some r) : RunF Ffi_E Tryd.f39 [false] 0 (Ffi_A day_1) (Ffi_R r):=by
 show Run _ _ (Ffi_Q day_1 r) [.code Ffi_c] _
 refine rin (n:=19) [(0,I (day_1))] [] 1 (by kernel_rfl) (by kernel_rfl) (by kernel_rfl) rfl ?_
 unfold Ffi at h
 refine cq 7 [4] [I (day_1)] 33 ?_
 obtain ⟨r2,hr2,h⟩:=bS h
 refine oq 49 (enc_Date r2) rfl (e_callV rfl rfl (call_P rfl rfl rfl (avS (shP rfl) (avN)) (Ffh_F hr2) (.inr rfl) (bl_n) rfl rfl rfl)) ?_
 refine ck 4 [3] [] [49] [] [.hp 49 0 [] 3 0 0] [some ⟨0,3,[enc_Date r2]⟩] 81 (by kernel_rfl) ?_
 refine s_draw [0,1,3,7,0,16,55,127,255,0,512,1655,4095,8191] rfl (by decide +kernel) ?_
 refine dq [49] [] (.hp 49 0 [] 3 0 0) rfl (e_fieldAddr rfl rfl rfl) ?_
 refine dq [49] [] (I (r2.Year)) rfl (e_ld rfl rfl) ?_
 obtain ⟨r3,hr3,h⟩:=bS h
 refine dq [] [] (str (r3)) rfl (e_callV rfl rfl (call_P rfl rfl rfl (avS (shP rfl) (avS (shP rfl) (avN))) (Ffn_F hr3) (.inr rfl) (bl_n) rfl rfl rfl)) ?_ (w_callO rfl rfl rfl rfl (avS (shP rfl) (avS (shP rfl) (avN))) (Ffn_F hr3) (.inr rfl) rfl)
 obtain ⟨s4,hs4,h⟩:=bS h
 refine dq [] [] (str (s4)) rfl (e_bin rfl rfl (b_cat hs4)) ?_
 refine dq [49] [] (.hp 49 0 [] 3 0 1) rfl (e_fieldAddr rfl rfl rfl) ?_
 refine dq [49] [] (I (r2.Month)) rfl (e_ld rfl rfl) ?_
 obtain ⟨r5,hr5,h⟩:=bS h
 refine dq [] [] (str (r5)) rfl (e_callV rfl rfl (call_P rfl rfl rfl (avS (shP rfl) (avS (shP rfl) (avN))) (Ffn_F hr5) (.inr rfl) (bl_n) rfl rfl rfl)) ?_ (w_callO rfl rfl rfl rfl (avS (shP rfl) (avS (shP rfl) (avN))) (Ffn_F hr5) (.inr rfl) rfl)
 obtain ⟨s6,hs6,h⟩:=bS h
 refine dq [] [] (str (s6)) rfl (e_bin rfl rfl (b_cat hs6)) ?_
 obtain ⟨s7,hs7,h⟩:=bS h
 refine dq [] [] (str (s7)) rfl (e_bin rfl rfl (b_cat hs7)) ?_
 refine dq [49] [] (.hp 49 0 [] 3 0 2) rfl (e_fieldAddr rfl rfl rfl) ?_
 refine dq [49] [] (I (r2.Day)) rfl (e_ld rfl rfl) ?_
 obtain ⟨r8,hr8,h⟩:=bS h
 refine dq [] [] (str (r8)) rfl (e_callV rfl rfl (call_P rfl rfl rfl (avS (shP rfl) (avS (shP rfl) (avN))) (Ffn_F hr8) (.inr rfl) (bl_n) rfl rfl rfl)) ?_ (w_callO rfl rfl rfl rfl (avS (shP rfl) (avS (shP rfl) (avN))) (Ffn_F hr8) (.inr rfl) rfl)
 obtain ⟨s9,hs9,h⟩:=bS h
 refine dq [] [] (str (s9)) rfl (e_bin rfl rfl (b_cat hs9)) ?_
 refine dk 1 [2] [str (s9)] ?_
 refine de 305 rfl rfl ?_
 obtain rfl:=Option.some.inj h
 exact s_ret rfl ⟨_,fin (vs:=[str (s9)]) rfl (absE (absorb_plain rfl) (absEN)) rfl (ou_f (ou_n)),kl_n⟩
theorem Ffi_good {G : Go.Ln.Ground} [TabG Tryd.prog G] : Good Tryd.prog G 39 Ffi_ent:=good_T (fnOf_good (gl_c Ffh_good (gl_c Ffn_good (gl_n)))) agree_mk (Checked.mixed Tryd.checked) Tryd.func39 (n:=1) (m:=0) ⟨rfl,rfl,by decide⟩ (fun _=>⟨rfl,rfl⟩) (fun a r h=>Ffi_run a r h)
def Ffc_A : Int→List V:=oA I
def Ffc_R (r : Str × Bool) : V × List V:=(.tup [str (r.1),B (r.2)],[])
noncomputable def Ffc_ent : Ent:=entT [false] Ffc_A Ffc_R fun x=>Ffc x
theorem Ffc_F {day_1 : Int} {r} (h : Ffc day_1=some r) : (Ffc_ent).F (Ffc_A day_1)=some (Ffc_R r):=entT_F (oA_inj I_inj) h
noncomputable def Ffc_c : Code:=bodyOf Tryd.f11
noncomputable def Ffc_E : Env:=mkE Tryd.prog [(34,Ffm_ent),(39,Ffi_ent)]
def Ffc_Q (x : Int) (r : Str × Bool) : St→Prop:=QF Ffc_E Tryd.f11 [false] (Ffc_A x) (Ffc_R r)
theorem Ffc_run (day_1 : Int) (r : Str × Bool) (h : Ffc day_1=some r) : RunF Ffc_E Tryd.f11 [false] 0 (Ffc_A day_1) (Ffc_R r):=by
 show Run _ _ (Ffc_Q day_1 r) [.code Ffc_c] _
 refine rin (n:=9) [(0,I (day_1))] [] 1 (by kernel_rfl) (by kernel_rfl) (by kernel_rfl) rfl ?_
 unfold Ffc at h
 refine cq 9 [4] [I (day_1)] 49 ?_
 obtain ⟨r2,hr2,h⟩:=bS h
 refine oq 65 (B (r2)) rfl (e_callV rfl rfl (call_P rfl rfl rfl (avS (shP rfl) (avN)) (Ffm_F hr2) (.inr rfl) (bl_n) rfl rfl rfl)) ?_
 refine cq 2 [6] [B ((!r2))] 81 ?_
 refine sq h (fun h=>?_) (fun h=>?_)
 · refine cq 5 [2,3] [str (([] : Str)),B (false)] 113 ?_
   obtain rfl:=Option.some.inj h
   exact s_ret rfl ⟨_,fin (vs:=[str (([] : Str)),B (false)]) rfl (absE (absorb_plain rfl) (absE (absorb_plain rfl) (absEN))) rfl (ou_f (ou_n)),kl_n⟩
 · refine aq 1 ?_
   refine cq 3 [7] [I (day_1)] 97 ?_
   obtain ⟨r3,hr3,h⟩:=bS h
   refine oq 113 (str (r3)) rfl (e_callV rfl rfl (call_P rfl rfl rfl (avS (shP rfl) (avN)) (Ffi_F hr3) (.inr rfl) (bl_n) rfl rfl rfl)) ?_
   refine cq 3 [2,3] [str (r3),B (true)] 145 ?_
   obtain rfl:=Option.some.inj h
   exact s_ret rfl ⟨_,fin (vs:=[str (r3),B (true)]) rfl (absE (absorb_plain rfl) (absE (absorb_plain rfl) (absEN))) rfl (ou_f (ou_n)),kl_n⟩
theorem Ffc_good {G : Go.Ln.Ground} [TabG Tryd.prog G] : Good Tryd.prog G 11 Ffc_ent:=good_T (fnOf_good (gl_c Ffm_good (gl_c Ffi_good (gl_n)))) agree_mk (Checked.mixed Tryd.checked) Tryd.func11 (n:=1) (m:=0) ⟨rfl,rfl,by decide⟩ (fun _=>⟨rfl,rfl⟩) (fun a r h=>Ffc_run a r h)
def xAtoi_L_ren : Shelf.Ren:=⟨fun | 172=>40 | 244=>72 | 245=>73 | 247=>89 | 279=>90 | 280=>91 | 281=>92 | 282=>93 | 287=>102 | 316=>103 | 171=>75 | 205=>104 | 321=>112 | 322=>113 | 243=>94 | 246=>105 | 283=>114 | 284=>115 | 285=>116 | 286=>117 | 129=>121 | 317=>120 | 318=>122 | 319=>123 | 320=>124 | 337=>125 | 338=>126 | n=>n,fun | 9=>9 | 3=>3 | 75=>58 | 76=>59 | 4=>4 | 5=>5 | 167=>87 | 37=>22 | 0=>0 | 85=>88 | 2=>2 | 168=>90 | 53=>47 | 175=>98 | 46=>93 | 210=>101 | 127=>95 | 145=>115 | 143=>113 | 21=>21 | 171=>116 | 173=>119 | 212=>125 | 51=>121 | 20=>20 | 213=>126 | 232=>129 | 233=>130 | 80=>66 | n=>n,fun | 15=>0 | 16=>1 | 17=>5 | 18=>6 | 19=>7 | n=>n⟩
theorem xAtoi_L : Go.Proofs.Lays.n172 Tryd.prog xAtoi_L_ren where
  mixed:=by kernel_rfl
  f129:=Tryd.func121.trans (congrArg some (by kernel_rfl))
  f171:=Tryd.func75.trans (congrArg some (by kernel_rfl))
  f172:=Tryd.func40.trans (congrArg some (by kernel_rfl))
  f205:=Tryd.func104.trans (congrArg some (by kernel_rfl))
  f243:=Tryd.func94.trans (congrArg some (by kernel_rfl))
  f244:=Tryd.func72.trans (congrArg some (by kernel_rfl))
  f245:=Tryd.func73.trans (congrArg some (by kernel_rfl))
  f246:=Tryd.func105.trans (congrArg some (by kernel_rfl))
  f247:=Tryd.func89.trans (congrArg some (by kernel_rfl))
  f279:=Tryd.func90.trans (congrArg some (by kernel_rfl))
  f280:=Tryd.func91.trans (congrArg some (by kernel_rfl))
  f281:=Tryd.func92.trans (congrArg some (by kernel_rfl))
  f282:=Tryd.func93.trans (congrArg some (by kernel_rfl))
  f283:=Tryd.func114.trans (congrArg some (by kernel_rfl))
  f284:=Tryd.func115.trans (congrArg some (by kernel_rfl))
  f285:=Tryd.func116.trans (congrArg some (by kernel_rfl))
  f286:=Tryd.func117.trans (congrArg some (by kernel_rfl))
  f287:=Tryd.func102.trans (congrArg some (by kernel_rfl))
  f316:=Tryd.func103.trans (congrArg some (by kernel_rfl))
  f317:=Tryd.func120.trans (congrArg some (by kernel_rfl))
  f318:=Tryd.func122.trans (congrArg some (by kernel_rfl))
  f319:=Tryd.func123.trans (congrArg some (by kernel_rfl))
  f320:=Tryd.func124.trans (congrArg some (by kernel_rfl))
  f321:=Tryd.func112.trans (congrArg some (by kernel_rfl))
  f322:=Tryd.func113.trans (congrArg some (by kernel_rfl))
  f337:=Tryd.func125.trans (congrArg some (by kernel_rfl))
  f338:=Tryd.func126.trans (congrArg some (by kernel_rfl))
  t0:=Tryd.underlying0
  a0:=Tryd.isAgg0
  z0:=Tryd.sizeOf0
  v0:=Tryd.zeroValue0
  t2:=Tryd.underlying2
  a2:=Tryd.isAgg2
  z2:=Tryd.sizeOf2
  v2:=Tryd.zeroValue2
  t3:=Tryd.underlying3
  a3:=Tryd.isAgg3
  z3:=Tryd.sizeOf3
  v3:=Tryd.zeroValue3
  t4:=Tryd.underlying4
  a4:=Tryd.isAgg4
  z4:=Tryd.sizeOf4
  v4:=Tryd.zeroValue4
  t5:=Tryd.underlying5
  a5:=Tryd.isAgg5
  z5:=Tryd.sizeOf5
  v5:=Tryd.zeroValue5
  t9:=Tryd.underlying9
  a9:=Tryd.isAgg9
  z9:=Tryd.sizeOf9
  v9:=Tryd.zeroValue9
  t20:=Tryd.underlying20
  a20:=Tryd.isAgg20
  z20:=Tryd.sizeOf20
  v20:=Tryd.zeroValue20
  t21:=Tryd.underlying21
  a21:=Tryd.isAgg21
  z21:=Tryd.sizeOf21
  v21:=Tryd.zeroValue21
  t37:=Tryd.underlying22
  a37:=Tryd.isAgg22
  z37:=Tryd.sizeOf22
  v37:=Tryd.zeroValue22
  t46:=Tryd.underlying93
  a46:=Tryd.isAgg93
  z46:=Tryd.sizeOf93
  v46:=Tryd.zeroValue93
  t51:=Tryd.underlying121
  a51:=Tryd.isAgg121
  z51:=Tryd.sizeOf121
  v51:=Tryd.zeroValue121
  t53:=Tryd.underlying47
  a53:=Tryd.isAgg47
  z53:=Tryd.sizeOf47
  v53:=Tryd.zeroValue47
  t75:=Tryd.underlying58
  a75:=Tryd.isAgg58
  z75:=Tryd.sizeOf58
  v75:=Tryd.zeroValue58
  t76:=Tryd.underlying59
  a76:=Tryd.isAgg59
  z76:=Tryd.sizeOf59
  v76:=Tryd.zeroValue59
  t85:=Tryd.underlying88
  a85:=Tryd.isAgg88
  z85:=Tryd.sizeOf88
  v85:=Tryd.zeroValue88
  t127:=Tryd.underlying95
  a127:=Tryd.isAgg95
  z127:=Tryd.sizeOf95
  v127:=Tryd.zeroValue95
  t143:=Tryd.underlying113
  a143:=Tryd.isAgg113
  z143:=Tryd.sizeOf113
  v143:=Tryd.zeroValue113
  t145:=Tryd.underlying115
  a145:=Tryd.isAgg115
  z145:=Tryd.sizeOf115
  v145:=Tryd.zeroValue115
  t167:=Tryd.underlying87
  a167:=Tryd.isAgg87
  z167:=Tryd.sizeOf87
  v167:=Tryd.zeroValue87
  t168:=Tryd.underlying90
  a168:=Tryd.isAgg90
  z168:=Tryd.sizeOf90
  v168:=Tryd.zeroValue90
  t171:=Tryd.underlying116
  a171:=Tryd.isAgg116
  z171:=Tryd.sizeOf116
  v171:=Tryd.zeroValue116
  t173:=Tryd.underlying119
  a173:=Tryd.isAgg119
  z173:=Tryd.sizeOf119
  v173:=Tryd.zeroValue119
  t175:=Tryd.underlying98
  a175:=Tryd.isAgg98
  z175:=Tryd.sizeOf98
  v175:=Tryd.zeroValue98
  t210:=Tryd.underlying101
  a210:=Tryd.isAgg101
  z210:=Tryd.sizeOf101
  v210:=Tryd.zeroValue101
  t212:=Tryd.underlying125
  a212:=Tryd.isAgg125
  z212:=Tryd.sizeOf125
  v212:=Tryd.zeroValue125
  t213:=Tryd.underlying126
  a213:=Tryd.isAgg126
  z213:=Tryd.sizeOf126
  t232:=Tryd.underlying129
  a232:=Tryd.isAgg129
  z232:=Tryd.sizeOf129
  v232:=Tryd.zeroValue129
  t233:=Tryd.underlying130
  a233:=Tryd.isAgg130
  z233:=Tryd.sizeOf130
  v233:=Tryd.zeroValue130
  g15:=by kernel_rfl
  g16:=by kernel_rfl
  g17:=by kernel_rfl
  g18:=by kernel_rfl
  g19:=by kernel_rfl
noncomputable def xAtoi_ent : Ent:=entT [false] (oA str) (fun r=>(.tup [I r.1,.nilif],[])) xAtoi
theorem xAtoi_F {s : Str} {r} (h : xAtoi s=some r) : xAtoi_ent.F [str s]=some (.tup [I r.1,.nilif],[]):=entT_F (ea:=oA str) (oA_inj str_inj) h
theorem xAtoi_good {G : Go.Ln.Ground} [TabG Tryd.prog G] : Good Tryd.prog G 40 xAtoi_ent:=good_atoi xAtoi_L
def Fff_A : Str→List V:=oA str
def Fff_R (r : Int × Bool) : V × List V:=(.tup [I (r.1),B (r.2)],[])
noncomputable def Fff_ent : Ent:=entT [false] Fff_A Fff_R fun x=>Fff x
theorem Fff_F {s_1 : Str} {r} (h : Fff s_1=some r) : (Fff_ent).F (Fff_A s_1)=some (Fff_R r):=entT_F (oA_inj str_inj) h
noncomputable def Fff_c : Code:=bodyOf Tryd.f12
noncomputable def Fff_E : Env:=mkE Tryd.prog [(40,xAtoi_ent),(10,Ffe_ent),(36,Ffj_ent),(39,Ffi_ent)]
def Fff_Q (x : Str) (r : Int × Bool) : St→Prop:=QF Fff_E Tryd.f12 [false] (Fff_A x) (Fff_R r)
theorem Fff_run (s_1 : Str) (r : Int × Bool) (h : Fff s_1=some r) : RunF Fff_E Tryd.f12 [false] 0 (Fff_A s_1) (Fff_R r):=by
 show Run _ _ (Fff_Q s_1 r) [.code Fff_c] _
 refine rin (n:=58) [(0,str (s_1))] [] 1 (by kernel_rfl) (by kernel_rfl) (by kernel_rfl) rfl ?_
 unfold Fff at h
 refine cq 12 [13] [B (((len s_1) != 10))] 81 ?_
 refine sq h (fun h=>?_) (fun h=>?_)
 · refine cq 5 [2,3] [I (0),B (false)] 113 ?_
   obtain rfl:=Option.some.inj h
   exact s_ret rfl ⟨_,fin (vs:=[I (0),B (false)]) rfl (absE (absorb_plain rfl) (absE (absorb_plain rfl) (absEN))) rfl (ou_f (ou_n)),kl_n⟩
 · refine aq 1 ?_
   refine cq 3 [15] [str (s_1)] 97 ?_
   obtain ⟨s2,hs2,h⟩:=bS h
   refine oq 113 (str (s2)) rfl (e_slice rfl rfl rfl rfl (sl_str rfl rfl rfl hs2)) ?_
   obtain ⟨r3,hr3,h⟩:=bS h
   refine oq 129 (.tup [I (r3.1),.nilif]) rfl (e_callV rfl rfl (call_P rfl rfl rfl (avS (shP rfl) (avN)) (xAtoi_F hr3) (.inr rfl) (bl_n) rfl rfl rfl)) ?_
   refine cq 9 [4,5,21] [I (r3.1),.nilif,str (s_1)] 225 ?_
   obtain ⟨s4,hs4,h⟩:=bS h
   refine oq 241 (str (s4)) rfl (e_slice rfl rfl rfl rfl (sl_str rfl rfl rfl hs4)) ?_
   obtain ⟨r5,hr5,h⟩:=bS h
   refine oq 257 (.tup [I (r5.1),.nilif]) rfl (e_callV rfl rfl (call_P rfl rfl rfl (avS (shP rfl) (avN)) (xAtoi_F hr5) (.inr rfl) (bl_n) rfl rfl rfl)) ?_
   refine cq 9 [6,7,27] [I (r5.1),.nilif,str (s_1)] 353 ?_
   obtain ⟨s6,hs6,h⟩:=bS h
   refine oq 369 (str (s6)) rfl (e_slice rfl rfl rfl rfl (sl_str rfl rfl rfl hs6)) ?_
   obtain ⟨r7,hr7,h⟩:=bS h
   refine oq 385 (.tup [I (r7.1),.nilif]) rfl (e_callV rfl rfl (call_P rfl rfl rfl (avS (shP rfl) (avN)) (xAtoi_F hr7) (.inr rfl) (bl_n) rfl rfl rfl)) ?_
   refine cq 20 [8,41] [I (r7.1),B (false)] 625 ?_
   refine s_cond rfl rfl (fun hb=>by cases hb) (fun _=>?_)
   refine ck 14 [10,46] [] [689] [] [.hp 689 0 [] 3 0 0,.agg [I (r3.1),I (r5.1),I (r7.1)]] [some ⟨0,3,[.agg [I (r3.1),I (r5.1),I (r7.1)]]⟩] 737 (by kernel_rfl) ?_
   obtain ⟨r8,hr8,h⟩:=bS h
   refine oq 753 (B (r8)) rfl (e_callV rfl rfl (call_P rfl rfl rfl (avS (shP rfl) (avN)) (Ffe_F hr8) (.inr rfl) (bl_n) rfl rfl rfl)) ?_
   refine cq 2 [49] [B ((!r8))] 785 ?_
   obtain ⟨y9,hy9,hy91,hy92⟩:=bJ h
   have j9 : ∀ u9,y9=.inr u9→Run Fff_E 0 (Fff_Q s_1 r) (.code (cR (cL (cR (cR (cR (cR (cR (cR (cR Fff_c))))))))) :: .code (cR (cR (cR (cR (cR (cR (cR (cR Fff_c)))))))) :: []) (sT 58 [(10,.hp 1 0 [] 3 0 0),(55,B (u9))] [⟨0,3,[.agg [I (r3.1),I (r5.1),I (r7.1)]]⟩] 2):=by
     intro u9 hu
     replace h:=hy92 u9 hu
     refine sq h (fun h=>?_) (fun h=>?_)
     · refine cq 5 [2,3] [I (0),B (false)] 34 ?_
       obtain rfl:=Option.some.inj h
       exact s_ret rfl ⟨_,fin (vs:=[I (0),B (false)]) rfl (absE (absorb_plain rfl) (absE (absorb_plain rfl) (absEN))) rfl (ou_f (ou_n)),kl_n⟩
     · refine aq 1 ?_
       refine cq 3 [56] [.agg [I (r3.1),I (r5.1),I (r7.1)]] 18 ?_
       obtain ⟨r10,hr10,h⟩:=bS h
       refine oq 34 (I (r10)) rfl (e_callV rfl rfl (call_P rfl rfl rfl (avS (shP rfl) (avN)) (Ffj_F hr10) (.inr rfl) (bl_n) rfl rfl rfl)) ?_
       refine cq 3 [2,3] [I (r10),B (true)] 66 ?_
       obtain rfl:=Option.some.inj h
       exact s_ret rfl ⟨_,fin (vs:=[I (r10),B (true)]) rfl (absE (absorb_plain rfl) (absE (absorb_plain rfl) (absEN))) rfl (ou_f (ou_n)),kl_n⟩
   have r9 : ∀ r',y9=.inl r'→∀ st,Fff_Q s_1 r' st→(Fff_Q s_1 r) st:=fun r' e st hq=>by rw [hy91 r' e] at hq; exact hq
   replace h:=hy9
   refine sp 49 h rfl (fun h=>?_) (fun h=>?_)
   · refine cq 7 [55] [B (true)] 881 ?_
     exact rf [10,55] [689] (j9 _ (Option.some.inj h).symm :)
   · refine cq 1 [50] [.agg [I (r3.1),I (r5.1),I (r7.1)]] 801 ?_
     obtain ⟨r11,hr11,h⟩:=bS h
     refine oy 817 (I (r11)) rfl (e_callV rfl rfl (call_P rfl rfl rfl (avS (shP rfl) (avN)) (Ffj_F hr11) (.inr rfl) (bl_n) rfl rfl rfl)) ?_
     obtain ⟨r12,hr12,h⟩:=bS h
     refine oy 833 (str (r12)) rfl (e_callV rfl rfl (call_P rfl rfl rfl (avS (shP rfl) (avN)) (Ffi_F hr12) (.inr rfl) (bl_n) rfl rfl rfl)) ?_
     refine cq 4 [55] [B ((!(r12 == s_1)))] 881 ?_
     exact rf [10,55] [689] (j9 _ (Option.some.inj h).symm :)
theorem Fff_good {G : Go.Ln.Ground} [TabG Tryd.prog G] : Good Tryd.prog G 12 Fff_ent:=good_T (fnOf_good (gl_c xAtoi_good (gl_c Ffe_good (gl_c Ffj_good (gl_c Ffi_good (gl_n)))))) agree_mk (Checked.mixed Tryd.checked) Tryd.func12 (n:=1) (m:=0) ⟨rfl,rfl,by decide⟩ (fun _=>⟨rfl,rfl⟩) (fun a r h=>Fff_run a r h)
def Ffo_A : Int→List V:=oA I
def Ffo_R (r : Int) : V × List V:=(I (r),[])
noncomputable def Ffo_ent : Ent:=entT [false] Ffo_A Ffo_R fun x=>Ffo x
theorem Ffo_F {day_1 : Int} {r} (h : Ffo day_1=some r) : (Ffo_ent).F (Ffo_A day_1)=some (Ffo_R r):=entT_F (oA_inj I_inj) h
noncomputable def Ffo_c : Code:=bodyOf Tryd.f41
noncomputable def Ffo_E : Env:=mkE Tryd.prog []
def Ffo_Q (x : Int) (r : Int) : St→Prop:=QF Ffo_E Tryd.f41 [false] (Ffo_A x) (Ffo_R r)
theorem Ffo_run (day_1 : Int) (r : Int) (h : Ffo day_1=some r) : RunF Ffo_E Tryd.f41 [false] 0 (Ffo_A day_1) (Ffo_R r):=by
 show Run _ _ (Ffo_Q day_1 r) [.code Ffo_c] _
 refine rin (n:=6) [(0,I (day_1))] [] 1 (by kernel_rfl) (by kernel_rfl) (by kernel_rfl) rfl ?_
 unfold Ffo at h
 refine cq 11 [2] [I (((w64 (day_1 + 5)).tmod 7))] 81 ?_
 obtain rfl:=Option.some.inj h
 exact s_ret rfl ⟨_,fin (vs:=[I (((w64 (day_1 + 5)).tmod 7))]) rfl (absE (absorb_plain rfl) (absEN)) rfl (ou_f (ou_n)),kl_n⟩
theorem Ffo_good {G : Go.Ln.Ground} [TabG Tryd.prog G] : Good Tryd.prog G 41 Ffo_ent:=good_T (fnOf_good (gl_n)) agree_mk (Checked.mixed Tryd.checked) Tryd.func41 (n:=1) (m:=0) ⟨rfl,rfl,by decide⟩ (fun _=>⟨rfl,rfl⟩) (fun a r h=>Ffo_run a r h)
def Ffg_A : Int→List V:=oA I
def Ffg_R (r : Int × Bool) : V × List V:=(.tup [I (r.1),B (r.2)],[])
noncomputable def Ffg_ent : Ent:=entT [false] Ffg_A Ffg_R fun x=>Ffg x
theorem Ffg_F {day_1 : Int} {r} (h : Ffg day_1=some r) : (Ffg_ent).F (Ffg_A day_1)=some (Ffg_R r):=entT_F (oA_inj I_inj) h
noncomputable def Ffg_c : Code:=bodyOf Tryd.f13
noncomputable def Ffg_E : Env:=mkE Tryd.prog [(34,Ffm_ent),(41,Ffo_ent)]
def Ffg_Q (x : Int) (r : Int × Bool) : St→Prop:=QF Ffg_E Tryd.f13 [false] (Ffg_A x) (Ffg_R r)
theorem Ffg_run (day_1 : Int) (r : Int × Bool) (h : Ffg day_1=some r) : RunF Ffg_E Tryd.f13 [false] 0 (Ffg_A day_1) (Ffg_R r):=by
 show Run _ _ (Ffg_Q day_1 r) [.code Ffg_c] _
 refine rin (n:=9) [(0,I (day_1))] [] 1 (by kernel_rfl) (by kernel_rfl) (by kernel_rfl) rfl ?_
 unfold Ffg at h
 refine cq 9 [4] [I (day_1)] 49 ?_
 obtain ⟨r2,hr2,h⟩:=bS h
 refine oq 65 (B (r2)) rfl (e_callV rfl rfl (call_P rfl rfl rfl (avS (shP rfl) (avN)) (Ffm_F hr2) (.inr rfl) (bl_n) rfl rfl rfl)) ?_
 refine cq 2 [6] [B ((!r2))] 81 ?_
 refine sq h (fun h=>?_) (fun h=>?_)
 · refine cq 5 [2,3] [I (0),B (false)] 113 ?_
   obtain rfl:=Option.some.inj h
   exact s_ret rfl ⟨_,fin (vs:=[I (0),B (false)]) rfl (absE (absorb_plain rfl) (absE (absorb_plain rfl) (absEN))) rfl (ou_f (ou_n)),kl_n⟩
 · refine aq 1 ?_
   refine cq 3 [7] [I (day_1)] 97 ?_
   obtain ⟨r3,hr3,h⟩:=bS h
   refine oq 113 (I (r3)) rfl (e_callV rfl rfl (call_P rfl rfl rfl (avS (shP rfl) (avN)) (Ffo_F hr3) (.inr rfl) (bl_n) rfl rfl rfl)) ?_
   refine cq 3 [2,3] [I (r3),B (true)] 145 ?_
   obtain rfl:=Option.some.inj h
   exact s_ret rfl ⟨_,fin (vs:=[I (r3),B (true)]) rfl (absE (absorb_plain rfl) (absE (absorb_plain rfl) (absEN))) rfl (ou_f (ou_n)),kl_n⟩
theorem Ffg_good {G : Go.Ln.Ground} [TabG Tryd.prog G] : Good Tryd.prog G 13 Ffg_ent:=good_T (fnOf_good (gl_c Ffm_good (gl_c Ffo_good (gl_n)))) agree_mk (Checked.mixed Tryd.checked) Tryd.func13 (n:=1) (m:=0) ⟨rfl,rfl,by decide⟩ (fun _=>⟨rfl,rfl⟩) (fun a r h=>Ffg_run a r h)
def Ffd_A : Int→List V:=oA I
def Ffd_R (r : Bool × Bool) : V × List V:=(.tup [B (r.1),B (r.2)],[])
noncomputable def Ffd_ent : Ent:=entT [false] Ffd_A Ffd_R fun x=>Ffd x
theorem Ffd_F {day_1 : Int} {r} (h : Ffd day_1=some r) : (Ffd_ent).F (Ffd_A day_1)=some (Ffd_R r):=entT_F (oA_inj I_inj) h
noncomputable def Ffd_c : Code:=bodyOf Tryd.f14
noncomputable def Ffd_E : Env:=mkE Tryd.prog [(34,Ffm_ent),(35,Ffh_ent),(38,Ffk_ent)]
def Ffd_Q (x : Int) (r : Bool × Bool) : St→Prop:=QF Ffd_E Tryd.f14 [false] (Ffd_A x) (Ffd_R r)
theorem Ffd_run (day_1 : Int) (r : Bool × Bool) (h : Ffd day_1=some r) : RunF Ffd_E Tryd.f14 [false] 0 (Ffd_A day_1) (Ffd_R r):=by
 show Run _ _ (Ffd_Q day_1 r) [.code Ffd_c] _
 refine rin (n:=18) [(0,I (day_1))] [] 1 (by kernel_rfl) (by kernel_rfl) (by kernel_rfl) rfl ?_
 unfold Ffd at h
 refine cq 9 [5] [I (day_1)] 49 ?_
 obtain ⟨r2,hr2,h⟩:=bS h
 refine oq 65 (B (r2)) rfl (e_callV rfl rfl (call_P rfl rfl rfl (avS (shP rfl) (avN)) (Ffm_F hr2) (.inr rfl) (bl_n) rfl rfl rfl)) ?_
 refine cq 2 [7] [B ((!r2))] 81 ?_
 refine sq h (fun h=>?_) (fun h=>?_)
 · refine cq 5 [2,3] [B (false),B (false)] 113 ?_
   obtain rfl:=Option.some.inj h
   exact s_ret rfl ⟨_,fin (vs:=[B (false),B (false)]) rfl (absE (absorb_plain rfl) (absE (absorb_plain rfl) (absEN))) rfl (ou_f (ou_n)),kl_n⟩
 · refine aq 1 ?_
   refine cq 3 [8] [I (day_1)] 97 ?_
   obtain ⟨r3,hr3,h⟩:=bS h
   refine oq 113 (enc_Date r3) rfl (e_callV rfl rfl (call_P rfl rfl rfl (avS (shP rfl) (avN)) (Ffh_F hr3) (.inr rfl) (bl_n) rfl rfl rfl)) ?_
   refine ck 4 [4] [] [113] [] [.hp 113 0 [] 3 0 0] [some ⟨0,3,[enc_Date r3]⟩] 145 (by kernel_rfl) ?_
   refine s_draw [0,1,0,4,0,16,60,127,255,511] rfl (by decide +kernel) ?_
   refine dq [113] [] (.hp 113 0 [] 3 0 2) rfl (e_fieldAddr rfl rfl rfl) ?_
   refine dq [113] [] (I (r3.Day)) rfl (e_ld rfl rfl) ?_
   refine dq [113] [] (.hp 113 0 [] 3 0 0) rfl (e_fieldAddr rfl rfl rfl) ?_
   refine dq [113] [] (I (r3.Year)) rfl (e_ld rfl rfl) ?_
   refine dq [113] [] (.hp 113 0 [] 3 0 1) rfl (e_fieldAddr rfl rfl rfl) ?_
   refine dq [113] [] (I (r3.Month)) rfl (e_ld rfl rfl) ?_
   obtain ⟨r4,hr4,h⟩:=bS h
   refine dq [] [] (I (r4)) rfl (e_callV rfl rfl (call_P rfl rfl rfl (avS (shP rfl) (avS (shP rfl) (avN))) (Ffk_F hr4) (.inr rfl) (bl_n) rfl rfl rfl)) ?_ (w_callO rfl rfl rfl rfl (avS (shP rfl) (avS (shP rfl) (avN))) (Ffk_F hr4) (.inr rfl) rfl)
   refine dk 3 [3,2,17] [B (true),B ((r3.Day == r4)),B ((r3.Day == r4))] ?_
   refine de 305 rfl rfl ?_
   obtain rfl:=Option.some.inj h
   exact s_ret rfl ⟨_,fin (vs:=[B ((r3.Day == r4)),B (true)]) rfl (absE (absorb_plain rfl) (absE (absorb_plain rfl) (absEN))) rfl (ou_f (ou_n)),kl_n⟩
theorem Ffd_good {G : Go.Ln.Ground} [TabG Tryd.prog G] : Good Tryd.prog G 14 Ffd_ent:=good_T (fnOf_good (gl_c Ffm_good (gl_c Ffh_good (gl_c Ffk_good (gl_n))))) agree_mk (Checked.mixed Tryd.checked) Tryd.func14 (n:=1) (m:=0) ⟨rfl,rfl,by decide⟩ (fun _=>⟨rfl,rfl⟩) (fun a r h=>Ffd_run a r h)
def laws_FnDates_A : ((List Int))→List V:=oA (slE (V.int .u8))
def laws_FnDates_R (r : Bool) : V × List V:=(B (r),[])
noncomputable def laws_FnDates_ent : Ent:=entT [false] laws_FnDates_A laws_FnDates_R fun x=>laws_FnDates x
theorem laws_FnDates_F {code_1 : List Int} {r} (h : laws_FnDates code_1=some r) : (laws_FnDates_ent).F (laws_FnDates_A code_1)=some (laws_FnDates_R r):=entT_F (oA_inj (isl_inj (vint_inj (k:=.u8)))) h
noncomputable def laws_FnDates_c : Code:=bodyOf Tryd.f3
noncomputable abbrev laws_FnDates_ka : Code:=cR (cR (cR (cR (cR (cR laws_FnDates_c)))))
noncomputable abbrev laws_FnDates_kb : Code:=cR (cL (cR (cR (cR (cR (cR laws_FnDates_c))))))
noncomputable abbrev laws_FnDates_kc : Code:=cR (cR (cR (cR (cR (cR (cR laws_FnDates_ka))))))
noncomputable abbrev laws_FnDates_kd : Code:=cR (cL (cR (cR (cR (cR (cR (cR laws_FnDates_ka)))))))
noncomputable def laws_FnDates_E : Env:=mkE Tryd.prog [(6,laws_vBig_ent),(7,Ffq_ent),(8,Ffa_ent),(9,Ffb_ent),(11,Ffc_ent),(12,Fff_ent),(13,Ffg_ent),(14,Ffd_ent),(10,Ffe_ent)] [26]
def laws_FnDates_Q (x : (List Int)) (r : Bool) : St→Prop:=QF laws_FnDates_E Tryd.f3 [false] (laws_FnDates_A x) (laws_FnDates_R r)
theorem laws_FnDates_run (code_1 : List Int) (r : Bool) (h : laws_FnDates code_1=some r) : RunF laws_FnDates_E Tryd.f3 [false] 0 (laws_FnDates_A code_1) (laws_FnDates_R r):=by
 show Run _ _ (laws_FnDates_Q code_1 r) [.code laws_FnDates_c] _
 refine rin (n:=140) [(0,.isl false ((code_1).map (V.int .u8)))] [] 1 (by kernel_rfl) (by kernel_rfl) (by kernel_rfl) rfl ?_
 unfold laws_FnDates at h
 refine cq 8 [18] [.isl false ((code_1).map (V.int .u8))] 33 ?_
 obtain ⟨r2,hr2,h⟩:=bS h
 refine oq 49 (B (r2)) rfl (e_callV rfl rfl (call_P rfl rfl rfl (avS (shP rfl) (avN)) (laws_vBig_F hr2) (.inr rfl) (bl_n) rfl rfl rfl)) ?_
 refine aq 1 ?_
 refine sq h (fun h=>?_) (fun h=>?_)
 · refine cq 4 [2] [B (true)] 65 ?_
   obtain rfl:=Option.some.inj h
   exact s_ret rfl ⟨_,fin (vs:=[B (true)]) rfl (absE (absorb_plain rfl) (absEN)) rfl (ou_f (ou_n)),kl_n⟩
 · refine aq 1 ?_
   refine cq 3 [20] [.isl false ((code_1).map (V.int .u8))] 65 ?_
   obtain ⟨r3,hr3,h⟩:=bS h
   refine oq 81 (I (r3)) rfl (e_callV rfl rfl (call_P rfl rfl rfl (avS (shP rfl) (avN)) (Ffq_F hr3) (.inr rfl) (bl_n) rfl rfl rfl)) ?_
   refine cq 5 [3,23] [I (r3),I (r3)] 113 ?_
   obtain ⟨r4,hr4,h⟩:=bS h
   refine oq 129 (.tup [enc_Date r4.1,B (r4.2)]) rfl (e_callV rfl rfl (call_P rfl rfl rfl (avS (shP rfl) (avN)) (Ffa_F hr4) (.inr rfl) (bl_n) rfl rfl rfl)) ?_
   refine ck 10 [4,5,28] [] [177] [] [.hp 177 0 [] 3 0 0,B (r4.2),enc_Date r4.1] [some ⟨0,3,[enc_Date r4.1]⟩] 241 (by kernel_rfl) ?_
   obtain ⟨r5,hr5,h⟩:=bS h
   refine oq 257 (.tup [I (r5.1),B (r5.2)]) rfl (e_callV rfl rfl (call_P rfl rfl rfl (avS (shP rfl) (avN)) (Ffb_F hr5) (.inr rfl) (bl_n) rfl rfl rfl)) ?_
   refine cq 13 [6,7,32,35] [I (r5.1),B (r5.2),B (r4.2),B ((decide (r3 ≥ 0)))] 401 ?_
   obtain ⟨y6,hy6,hy61,hy62⟩:=bJ h
   have j6 : ∀ u6,y6=.inr u6→Run laws_FnDates_E 0 (laws_FnDates_Q code_1 r) (.code laws_FnDates_kb :: .code laws_FnDates_ka :: []) (sT 140 [(3,I (r3)),(4,.hp 1 0 [] 3 0 0),(5,B (r4.2)),(56,B (u6))] [⟨0,3,[enc_Date r4.1]⟩] 2):=by
     intro u6 hu
     replace h:=hy62 u6 hu
     refine sq h (fun h=>?_) (fun h=>?_)
     · refine cq 4 [2] [B (false)] 18 ?_
       obtain rfl:=Option.some.inj h
       exact s_ret rfl ⟨_,fin (vs:=[B (false)]) rfl (absE (absorb_plain rfl) (absEN)) rfl (ou_f (ou_n)),kl_n⟩
     · refine aq 1 ?_
       refine cq 6 [58] [B ((!r4.2))] 34 ?_
       refine sq h (fun h=>?_) (fun h=>?_)
       · refine cq 4 [59,60] [enc_Date r4.1,.agg [I (0),I (0),I (0)]] 66 ?_
         refine oq 82 (B ((r4.1.Year == 0 && (r4.1.Month == 0 && (r4.1.Day == 0 && true))))) rfl (e_bin rfl rfl (b_ageq (b:=(r4.1.Year == 0 && (r4.1.Month == 0 && (r4.1.Day == 0 && true)))) rfl rfl rfl rfl)) ?_
         refine cq 2 [2] [B ((r4.1.Year == 0 && (r4.1.Month == 0 && (r4.1.Day == 0 && true))))] 98 ?_
         obtain rfl:=Option.some.inj h
         exact s_ret rfl ⟨_,fin (vs:=[B ((r4.1.Year == 0 && (r4.1.Month == 0 && (r4.1.Day == 0 && true))))]) rfl (absE (absorb_plain rfl) (absEN)) rfl (ou_f (ou_n)),kl_n⟩
       · refine aq 1 ?_
         refine cq 3 [63] [I (r3)] 50 ?_
         obtain ⟨r7,hr7,h⟩:=bS h
         refine oq 66 (.tup [str (r7.1),B (r7.2)]) rfl (e_callV rfl rfl (call_P rfl rfl rfl (avS (shP rfl) (avN)) (Ffc_F hr7) (.inr rfl) (bl_n) rfl rfl rfl)) ?_
         refine cq 9 [68] [str (r7.1)] 162 ?_
         obtain ⟨r8,hr8,h⟩:=bS h
         refine oq 178 (.tup [I (r8.1),B (r8.2)]) rfl (e_callV rfl rfl (call_P rfl rfl rfl (avS (shP rfl) (avN)) (Fff_F hr8) (.inr rfl) (bl_n) rfl rfl rfl)) ?_
         refine cq 9 [10,11,73] [I (r8.1),B (r8.2),I (r3)] 274 ?_
         obtain ⟨r9,hr9,h⟩:=bS h
         refine oq 290 (.tup [I (r9.1),B (r9.2)]) rfl (e_callV rfl rfl (call_P rfl rfl rfl (avS (shP rfl) (avN)) (Ffg_F hr9) (.inr rfl) (bl_n) rfl rfl rfl)) ?_
         refine cq 9 [12,13,78] [I (r9.1),B (r9.2),I (r3)] 386 ?_
         obtain ⟨r10,hr10,h⟩:=bS h
         refine oq 402 (.tup [B (r10.1),B (r10.2)]) rfl (e_callV rfl rfl (call_P rfl rfl rfl (avS (shP rfl) (avN)) (Ffd_F hr10) (.inr rfl) (bl_n) rfl rfl rfl)) ?_
         refine cq 10 [14,15,84] [B (r10.1),B (r10.2),I ((w64 (r3 + 1)))] 514 ?_
         obtain ⟨r11,hr11,h⟩:=bS h
         refine oq 530 (.tup [enc_Date r11.1,B (r11.2)]) rfl (e_callV rfl rfl (call_P rfl rfl rfl (avS (shP rfl) (avN)) (Ffa_F hr11) (.inr rfl) (bl_n) rfl rfl rfl)) ?_
         refine ck 13 [16,17,90] [] [578] [] [.hp 578 0 [] 3 0 0,B (r11.2),B ((!r8.2))] [some ⟨0,3,[enc_Date r11.1]⟩] 674 (by kernel_rfl) ?_
         obtain ⟨u12,hu12,h⟩:=lJ h
         have j12 : Run laws_FnDates_E 0 (laws_FnDates_Q code_1 r) (.code laws_FnDates_kd :: .code laws_FnDates_kc :: []) (sT 140 [(3,I (r3)),(4,.hp 1 0 [] 3 0 0),(14,B (r10.1)),(16,.hp 2 0 [] 3 0 0),(17,B (r11.2)),(109,B (u12))] [⟨0,3,[enc_Date r4.1]⟩,⟨0,3,[enc_Date r11.1]⟩] 3):=by
           refine sq h (fun h=>?_) (fun h=>?_)
           · refine cq 4 [2] [B (false)] 19 ?_
             obtain rfl:=Option.some.inj h
             exact s_ret rfl ⟨_,fin (vs:=[B (false)]) rfl (absE (absorb_plain rfl) (absEN)) rfl (ou_f (ou_n)),kl_n⟩
           · refine aq 1 ?_
             refine cq 6 [111] [B ((!r11.2))] 35 ?_
             refine sq h (fun h=>?_) (fun h=>?_)
             · refine cq 5 [114] [B ((r3 == 36524))] 83 ?_
               obtain ⟨u13,hu13,h⟩:=lJ h
               have j13 : Run laws_FnDates_E 0 (laws_FnDates_Q code_1 r) (.code (cR (cL (cR (cL laws_FnDates_kc)))) :: .code (cR laws_FnDates_kc) :: []) (sT 140 [(2,B (u13))] [] 1):=by
                 obtain rfl:=Option.some.inj h
                 exact s_ret rfl ⟨_,fin (vs:=[B (u13)]) rfl (absE (absorb_plain rfl) (absEN)) rfl (ou_f (ou_n)),kl_n⟩
               replace h:=hu13
               clear hu13
               refine sp 114 h rfl (fun h=>?_) (fun h=>?_)
               · refine cq 4 [2] [B (r10.1)] 131 ?_
                 subst h
                 exact rf [2] [] (j13 :)
               · refine cq 4 [2] [B (false)] 131 ?_
                 subst h
                 exact rf [2] [] (j13 :)
             · refine aq 1 ?_
               refine cq 5 [117] [B (r10.1)] 51 ?_
               refine sq h (fun h=>?_) (fun h=>?_)
               · refine cq 6 [121] [B ((r11.1.Day == 1))] 115 ?_
                 obtain ⟨u14,hu14,h⟩:=lJ h
                 have j14 : Run laws_FnDates_E 0 (laws_FnDates_Q code_1 r) (.code (cR (cL (cR (cL (cR laws_FnDates_kc))))) :: .code (cR (cR laws_FnDates_kc)) :: []) (sT 140 [(2,B (u14))] [] 1):=by
                   obtain rfl:=Option.some.inj h
                   exact s_ret rfl ⟨_,fin (vs:=[B (u14)]) rfl (absE (absorb_plain rfl) (absEN)) rfl (ou_f (ou_n)),kl_n⟩
                 replace h:=hu14
                 clear hu14
                 refine sp 121 h rfl (fun h=>?_) (fun h=>?_)
                 · refine cq 10 [2] [B ((r11.1.Month == (w64 ((r4.1.Month.tmod 12) + 1))))] 259 ?_
                   subst h
                   exact rf [2] [] (j14 :)
                 · refine cq 10 [2] [B (false)] 259 ?_
                   subst h
                   exact rf [2] [] (j14 :)
               · refine aq 1 ?_
                 refine cq 11 [130,138] [enc_Date r11.1,.agg [I (r4.1.Year),I (r4.1.Month),I ((w64 (r4.1.Day + 1)))]] 195 ?_
                 refine oq 211 (B ((r11.1.Year == r4.1.Year && (r11.1.Month == r4.1.Month && (r11.1.Day == (w64 (r4.1.Day + 1)) && true))))) rfl (e_bin rfl rfl (b_ageq (b:=(r11.1.Year == r4.1.Year && (r11.1.Month == r4.1.Month && (r11.1.Day == (w64 (r4.1.Day + 1)) && true)))) rfl rfl rfl rfl)) ?_
                 refine cq 2 [2] [B ((r11.1.Year == r4.1.Year && (r11.1.Month == r4.1.Month && (r11.1.Day == (w64 (r4.1.Day + 1)) && true))))] 227 ?_
                 obtain rfl:=Option.some.inj h
                 exact s_ret rfl ⟨_,fin (vs:=[B ((r11.1.Year == r4.1.Year && (r11.1.Month == r4.1.Month && (r11.1.Day == (w64 (r4.1.Day + 1)) && true))))]) rfl (absE (absorb_plain rfl) (absEN)) rfl (ou_f (ou_n)),kl_n⟩
         replace h:=hu12
         clear hu12
         refine sp 90 h rfl (fun h=>?_) (fun h=>?_)
         · refine cq 20 [109] [B (true)] 978 ?_
           subst h
           exact rf [3,4,14,16,17,109] [1,578] (j12 :)
         · refine cq 5 [95] [B ((r8.1 != r3))] 754 ?_
           obtain ⟨u15,hu15,h⟩:=lJ h
           have j15 : Run laws_FnDates_E 0 (laws_FnDates_Q code_1 r) (.code laws_FnDates_kd :: .code laws_FnDates_kc :: []) (sT 140 [(3,I (r3)),(4,.hp 1 0 [] 3 0 0),(14,B (r10.1)),(16,.hp 2 0 [] 3 0 0),(17,B (r11.2)),(109,B (u15))] [⟨0,3,[enc_Date r4.1]⟩,⟨0,3,[enc_Date r11.1]⟩] 3):=by
             subst h
             exact rf [3,4,14,16,17,109] [1,2] (j12 :)
           replace h:=hu15
           clear hu15
           refine sp 95 h rfl (fun h=>?_) (fun h=>?_)
           · refine cq 15 [109] [B (true)] 978 ?_
             subst h
             exact rf [3,4,14,16,17,109] [1,578] (j15 :)
           · refine cq 4 [99] [B ((!r9.2))] 818 ?_
             obtain ⟨u16,hu16,h⟩:=lJ h
             have j16 : Run laws_FnDates_E 0 (laws_FnDates_Q code_1 r) (.code laws_FnDates_kd :: .code laws_FnDates_kc :: []) (sT 140 [(3,I (r3)),(4,.hp 1 0 [] 3 0 0),(14,B (r10.1)),(16,.hp 2 0 [] 3 0 0),(17,B (r11.2)),(109,B (u16))] [⟨0,3,[enc_Date r4.1]⟩,⟨0,3,[enc_Date r11.1]⟩] 3):=by
               subst h
               exact rf [3,4,14,16,17,109] [1,2] (j15 :)
             replace h:=hu16
             clear hu16
             refine sp 99 h rfl (fun h=>?_) (fun h=>?_)
             · refine cq 11 [109] [B (true)] 978 ?_
               subst h
               exact rf [3,4,14,16,17,109] [1,578] (j16 :)
             · refine cq 4 [103] [B ((!r10.2))] 882 ?_
               obtain ⟨u17,hu17,h⟩:=lJ h
               have j17 : Run laws_FnDates_E 0 (laws_FnDates_Q code_1 r) (.code laws_FnDates_kd :: .code laws_FnDates_kc :: []) (sT 140 [(3,I (r3)),(4,.hp 1 0 [] 3 0 0),(14,B (r10.1)),(16,.hp 2 0 [] 3 0 0),(17,B (r11.2)),(109,B (u17))] [⟨0,3,[enc_Date r4.1]⟩,⟨0,3,[enc_Date r11.1]⟩] 3):=by
                 subst h
                 exact rf [3,4,14,16,17,109] [1,2] (j16 :)
               replace h:=hu17
               clear hu17
               refine sp 103 h rfl (fun h=>?_) (fun h=>?_)
               · refine cq 7 [109] [B (true)] 978 ?_
                 subst h
                 exact rf [3,4,14,16,17,109] [1,578] (j17 :)
               · refine cq 7 [109] [B ((r9.1 != ((w64 (r3 + 5)).tmod 7)))] 978 ?_
                 subst h
                 exact rf [3,4,14,16,17,109] [1,578] (j17 :)
   have r6 : ∀ r',y6=.inl r'→∀ st,laws_FnDates_Q code_1 r' st→(laws_FnDates_Q code_1 r) st:=fun r' e st hq=>by rw [hy61 r' e] at hq; exact hq
   replace h:=hy6
   refine sp 35 h rfl (fun h=>?_) (fun h=>?_)
   · refine cq 5 [40] [B ((!(r4.2 == (decide (r3 ≤ 36524)))))] 481 ?_
     obtain ⟨y18,hy18,hy181,hy182⟩:=bL h
     have j18 : ∀ u18,y18=.inr u18→Run laws_FnDates_E 0 (laws_FnDates_Q code_1 r) (.code laws_FnDates_kb :: .code laws_FnDates_ka :: []) (sT 140 [(3,I (r3)),(4,.hp 1 0 [] 3 0 0),(5,B (r4.2)),(56,B (u18))] [⟨0,3,[enc_Date r4.1]⟩] 2):=by
       intro u18 hu
       replace h:=hy182 u18 hu
       exact rf [3,4,5,56] [1] (j6 _ (Option.some.inj h).symm :)
     have r18 : ∀ r',y18=.inl r'→∀ st,laws_FnDates_Q code_1 r' st→(laws_FnDates_Q code_1 r) st:=fun r' e st hq=>r6 r' (hy181 r' e) st hq
     replace h:=hy18
     refine sp 40 h rfl (fun h=>?_) (fun h=>?_)
     · refine cq 17 [56] [B (true)] 737 ?_
       exact rf [3,4,5,56] [177] (j18 _ (Option.some.inj h).symm :)
     · refine cq 2 [42] [B (r4.2)] 513 ?_
       obtain ⟨y19,hy19,hy191,hy192⟩:=bL h
       have j19 : ∀ u19,y19=.inr u19→Run laws_FnDates_E 0 (laws_FnDates_Q code_1 r) (.code laws_FnDates_kb :: .code laws_FnDates_ka :: []) (sT 140 [(3,I (r3)),(4,.hp 1 0 [] 3 0 0),(5,B (r4.2)),(56,B (u19))] [⟨0,3,[enc_Date r4.1]⟩] 2):=by
         intro u19 hu
         replace h:=hy192 u19 hu
         exact rf [3,4,5,56] [1] (j18 _ (Option.some.inj h).symm :)
       have r19 : ∀ r',y19=.inl r'→∀ st,laws_FnDates_Q code_1 r' st→(laws_FnDates_Q code_1 r) st:=fun r' e st hq=>r18 r' (hy191 r' e) st hq
       replace h:=hy19
       refine sp 42 h rfl (fun h=>?_) (fun h=>?_)
       · refine cq 3 [45] [B ((!r5.2))] 561 ?_
         obtain ⟨y20,hy20,hy201,hy202⟩:=bL h
         have j20 : ∀ u20,y20=.inr u20→Run laws_FnDates_E 0 (laws_FnDates_Q code_1 r) (.code laws_FnDates_kb :: .code laws_FnDates_ka :: []) (sT 140 [(3,I (r3)),(4,.hp 1 0 [] 3 0 0),(5,B (r4.2)),(56,B (u20))] [⟨0,3,[enc_Date r4.1]⟩] 2):=by
           intro u20 hu
           replace h:=hy202 u20 hu
           exact rf [3,4,5,56] [1] (j19 _ (Option.some.inj h).symm :)
         have r20 : ∀ r',y20=.inl r'→∀ st,laws_FnDates_Q code_1 r' st→(laws_FnDates_Q code_1 r) st:=fun r' e st hq=>r19 r' (hy201 r' e) st hq
         replace h:=hy20
         refine sp 45 h rfl (fun h=>?_) (fun h=>?_)
         · refine cq 12 [56] [B (true)] 737 ?_
           exact rf [3,4,5,56] [177] (j20 _ (Option.some.inj h).symm :)
         · refine cq 5 [50] [B ((r5.1 != r3))] 641 ?_
           obtain ⟨y21,hy21,hy211,hy212⟩:=bL h
           have j21 : ∀ u21,y21=.inr u21→Run laws_FnDates_E 0 (laws_FnDates_Q code_1 r) (.code laws_FnDates_kb :: .code laws_FnDates_ka :: []) (sT 140 [(3,I (r3)),(4,.hp 1 0 [] 3 0 0),(5,B (r4.2)),(56,B (u21))] [⟨0,3,[enc_Date r4.1]⟩] 2):=by
             intro u21 hu
             replace h:=hy212 u21 hu
             exact rf [3,4,5,56] [1] (j20 _ (Option.some.inj h).symm :)
           have r21 : ∀ r',y21=.inl r'→∀ st,laws_FnDates_Q code_1 r' st→(laws_FnDates_Q code_1 r) st:=fun r' e st hq=>r20 r' (hy211 r' e) st hq
           replace h:=hy21
           refine sp 50 h rfl (fun h=>?_) (fun h=>?_)
           · refine cq 7 [56] [B (true)] 737 ?_
             exact rf [3,4,5,56] [177] (j21 _ (Option.some.inj h).symm :)
           · refine cq 1 [51] [enc_Date r4.1] 657 ?_
             obtain ⟨r22,hr22,h⟩:=bS h
             refine oy 673 (B (r22)) rfl (e_callV rfl rfl (call_P rfl rfl rfl (avS (shP rfl) (avN)) (Ffe_F hr22) (.inr rfl) (bl_n) rfl rfl rfl)) ?_
             refine cq 5 [56] [B ((!r22))] 737 ?_
             exact rf [3,4,5,56] [177] (j21 _ (Option.some.inj h).symm :)
       · refine cq 15 [56] [B (false)] 737 ?_
         exact rf [3,4,5,56] [177] (j19 _ (Option.some.inj h).symm :)
   · refine cq 5 [40] [B ((!(r4.2 == false)))] 481 ?_
     obtain ⟨y23,hy23,hy231,hy232⟩:=bL h
     have j23 : ∀ u23,y23=.inr u23→Run laws_FnDates_E 0 (laws_FnDates_Q code_1 r) (.code laws_FnDates_kb :: .code laws_FnDates_ka :: []) (sT 140 [(3,I (r3)),(4,.hp 1 0 [] 3 0 0),(5,B (r4.2)),(56,B (u23))] [⟨0,3,[enc_Date r4.1]⟩] 2):=by
       intro u23 hu
       replace h:=hy232 u23 hu
       exact rf [3,4,5,56] [1] (j6 _ (Option.some.inj h).symm :)
     have r23 : ∀ r',y23=.inl r'→∀ st,laws_FnDates_Q code_1 r' st→(laws_FnDates_Q code_1 r) st:=fun r' e st hq=>r6 r' (hy231 r' e) st hq
     replace h:=hy23
     refine sp 40 h rfl (fun h=>?_) (fun h=>?_)
     · refine cq 17 [56] [B (true)] 737 ?_
       exact rf [3,4,5,56] [177] (j23 _ (Option.some.inj h).symm :)
     · refine cq 2 [42] [B (r4.2)] 513 ?_
       obtain ⟨y24,hy24,hy241,hy242⟩:=bL h
       have j24 : ∀ u24,y24=.inr u24→Run laws_FnDates_E 0 (laws_FnDates_Q code_1 r) (.code laws_FnDates_kb :: .code laws_FnDates_ka :: []) (sT 140 [(3,I (r3)),(4,.hp 1 0 [] 3 0 0),(5,B (r4.2)),(56,B (u24))] [⟨0,3,[enc_Date r4.1]⟩] 2):=by
         intro u24 hu
         replace h:=hy242 u24 hu
         exact rf [3,4,5,56] [1] (j23 _ (Option.some.inj h).symm :)
       have r24 : ∀ r',y24=.inl r'→∀ st,laws_FnDates_Q code_1 r' st→(laws_FnDates_Q code_1 r) st:=fun r' e st hq=>r23 r' (hy241 r' e) st hq
       replace h:=hy24
       refine sp 42 h rfl (fun h=>?_) (fun h=>?_)
       · refine cq 3 [45] [B ((!r5.2))] 561 ?_
         obtain ⟨y25,hy25,hy251,hy252⟩:=bL h
         have j25 : ∀ u25,y25=.inr u25→Run laws_FnDates_E 0 (laws_FnDates_Q code_1 r) (.code laws_FnDates_kb :: .code laws_FnDates_ka :: []) (sT 140 [(3,I (r3)),(4,.hp 1 0 [] 3 0 0),(5,B (r4.2)),(56,B (u25))] [⟨0,3,[enc_Date r4.1]⟩] 2):=by
           intro u25 hu
           replace h:=hy252 u25 hu
           exact rf [3,4,5,56] [1] (j24 _ (Option.some.inj h).symm :)
         have r25 : ∀ r',y25=.inl r'→∀ st,laws_FnDates_Q code_1 r' st→(laws_FnDates_Q code_1 r) st:=fun r' e st hq=>r24 r' (hy251 r' e) st hq
         replace h:=hy25
         refine sp 45 h rfl (fun h=>?_) (fun h=>?_)
         · refine cq 12 [56] [B (true)] 737 ?_
           exact rf [3,4,5,56] [177] (j25 _ (Option.some.inj h).symm :)
         · refine cq 5 [50] [B ((r5.1 != r3))] 641 ?_
           obtain ⟨y26,hy26,hy261,hy262⟩:=bL h
           have j26 : ∀ u26,y26=.inr u26→Run laws_FnDates_E 0 (laws_FnDates_Q code_1 r) (.code laws_FnDates_kb :: .code laws_FnDates_ka :: []) (sT 140 [(3,I (r3)),(4,.hp 1 0 [] 3 0 0),(5,B (r4.2)),(56,B (u26))] [⟨0,3,[enc_Date r4.1]⟩] 2):=by
             intro u26 hu
             replace h:=hy262 u26 hu
             exact rf [3,4,5,56] [1] (j25 _ (Option.some.inj h).symm :)
           have r26 : ∀ r',y26=.inl r'→∀ st,laws_FnDates_Q code_1 r' st→(laws_FnDates_Q code_1 r) st:=fun r' e st hq=>r25 r' (hy261 r' e) st hq
           replace h:=hy26
           refine sp 50 h rfl (fun h=>?_) (fun h=>?_)
           · refine cq 7 [56] [B (true)] 737 ?_
             exact rf [3,4,5,56] [177] (j26 _ (Option.some.inj h).symm :)
           · refine cq 1 [51] [enc_Date r4.1] 657 ?_
             obtain ⟨r27,hr27,h⟩:=bS h
             refine oy 673 (B (r27)) rfl (e_callV rfl rfl (call_P rfl rfl rfl (avS (shP rfl) (avN)) (Ffe_F hr27) (.inr rfl) (bl_n) rfl rfl rfl)) ?_
             refine cq 5 [56] [B ((!r27))] 737 ?_
             exact rf [3,4,5,56] [177] (j26 _ (Option.some.inj h).symm :)
       · refine cq 15 [56] [B (false)] 737 ?_
         exact rf [3,4,5,56] [177] (j24 _ (Option.some.inj h).symm :)
theorem laws_FnDates_good {G : Go.Ln.Ground} [TabG Tryd.prog G] : Good Tryd.prog G 3 laws_FnDates_ent := good_T (fnOf_good (gl_c laws_vBig_good (gl_c Ffq_good (gl_c Ffa_good (gl_c Ffb_good (gl_c Ffc_good (gl_c Fff_good (gl_c Ffg_good (gl_c Ffd_good (gl_c Ffe_good (gl_n))))))))))) (agree_mkq (by
    intro t ht
    simp only [List.mem_cons, List.not_mem_nil, or_false] at ht
    rcases ht with rfl
    all_goals kernel_rfl)) (Checked.mixed Tryd.checked) Tryd.func3 (n := 1) (m := 0) ⟨rfl, rfl, by decide⟩ (fun _ => ⟨rfl, rfl⟩) (fun a r h => laws_FnDates_run a r h)
end Go.Ln
