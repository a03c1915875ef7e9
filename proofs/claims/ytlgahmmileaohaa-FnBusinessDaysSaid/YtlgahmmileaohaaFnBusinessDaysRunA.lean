/-
  Each function of the program computes its plain function.
-/
import Derived.Test.YtlgahmmileaohaaFnBusinessDaysFun
import Derived.Test.YtlgahmmileaohaaChecked
set_option maxHeartbeats 4000000
set_option linter.unusedVariables false
set_option linter.unusedSimpArgs false
set_option maxRecDepth 100000
namespace Go.Ln
open Go Go.Proofs
def laws_vBig_A : ((List Int))→List V:=oA (slE (V.int .u8))
def laws_vBig_R (r : Bool) : V × List V:=(B (r),[])
noncomputable def laws_vBig_ent : Ent:=entT [false] laws_vBig_A laws_vBig_R fun x=>laws_vBig x
theorem laws_vBig_F {code_1 : List Int} {r} (h : laws_vBig code_1=some r) : (laws_vBig_ent).F (laws_vBig_A code_1)=some (laws_vBig_R r):=entT_F (oA_inj (isl_inj (vint_inj (k:=.u8)))) h
noncomputable def laws_vBig_c : Code:=bodyOf Try.f5
noncomputable def laws_vBig_E : Env:=mkE Try.prog []
def laws_vBig_Q (x : (List Int)) (r : Bool) : St→Prop:=QF laws_vBig_E Try.f5 [false] (laws_vBig_A x) (laws_vBig_R r)
theorem laws_vBig_run (code_1 : List Int) (r : Bool) (h : laws_vBig code_1=some r) : RunF laws_vBig_E Try.f5 [false] 0 (laws_vBig_A code_1) (laws_vBig_R r):=by
 show Run _ _ (laws_vBig_Q code_1 r) [.code laws_vBig_c] _
 refine rin (n:=6) [(0,.isl false ((code_1).map (V.int .u8)))] [] 1 (by kernel_rfl) (by kernel_rfl) (by kernel_rfl) rfl ?_
 unfold laws_vBig at h
 refine cq 7 [3] [.isl false ((code_1).map (V.int .u8))] 33 ?_
 refine oq 49 (I ((len code_1))) rfl (e_len rfl rfl rfl (l_isl rfl)) ?_
 refine cq 3 [2] [B ((decide ((len code_1) > 65536)))] 81 ?_
 obtain rfl:=Option.some.inj h
 exact s_ret rfl ⟨_,fin (vs:=[B ((decide ((len code_1) > 65536)))]) rfl (absE (absorb_plain rfl) (absEN)) rfl (ou_f (ou_n)),kl_n⟩
theorem laws_vBig_good {G : Go.Ln.Ground} : Good Try.prog G 5 laws_vBig_ent:=good_T (fnOf_good (gl_n)) agree_mk (Checked.mixed Try.checked) Try.func5 (n:=1) (m:=0) ⟨rfl,rfl,by decide⟩ (fun _=>⟨rfl,rfl⟩) (fun a r h=>laws_vBig_run a r h)
def Ffbv_A : l1Cur→List V:=oA (upE encO_l1Cur)
def Ffbv_R (r : Int × l1Cur) : V × List V:=(I (r.1),[.uptr (encI_l1Cur r.2)])
noncomputable def Ffbv_ent : Ent:=entT [true] Ffbv_A Ffbv_R fun x=>Ffbv x
theorem Ffbv_F {c_3 : l1Cur} {r} (h : Ffbv c_3=some r) : (Ffbv_ent).F (Ffbv_A c_3)=some (Ffbv_R r):=entT_F (oA_inj (uptr_inj encO_l1Cur_inj)) h
noncomputable def Ffbv_c : Code:=bodyOf Try.f65
noncomputable def Ffbv_E : Env:=mkE Try.prog []
def Ffbv_Q (x : l1Cur) (r : Int × l1Cur) : St→Prop:=QF Ffbv_E Try.f65 [true] (Ffbv_A x) (Ffbv_R r)
theorem Ffbv_run (c_3 : l1Cur) (r : Int × l1Cur) (h : Ffbv c_3=some r) : RunF Ffbv_E Try.f65 [true] 1 (Ffbv_A c_3) (Ffbv_R r):=by
 show Run _ _ (Ffbv_Q c_3 r) [.code Ffbv_c] _
 refine rin (n:=62) [(0,.hp 1 0 [] 3 0 0)] [(1,some ⟨0,3,[encI_l1Cur c_3]⟩)] 2 (by kernel_rfl) (by kernel_rfl) (by kernel_rfl) rfl ?_
 unfold Ffbv at h
 refine cq 10 [3] [I (0)] 34 ?_
 refine s_draw [0,1,3,7,0,16,48,112,240,511] rfl (by decide +kernel) ?_
 refine dk 1 [4] [.hp 1 0 [] 3 0 0] ?_
 refine dq [1] [] (.hp 1 0 [] 3 0 0) rfl (e_nilCheck rfl rfl) ?_
 refine dq [1] [] (.hp 1 0 [] 3 0 1) rfl (e_fieldAddr rfl rfl rfl) ?_
 refine dq [1] [] (I (c_3.f_at)) rfl (e_ld rfl rfl) ?_
 refine dk 1 [8] [.hp 1 0 [] 3 0 0] ?_
 refine dq [1] [] (.hp 1 0 [] 3 0 0) rfl (e_nilCheck rfl rfl) ?_
 refine dq [1] [] (.hp 1 0 [] 3 0 0) rfl (e_fieldAddr rfl rfl rfl) ?_
 refine dq [1] [] (.isl false ((c_3.f_code).map (V.int .u8))) rfl (e_ld rfl rfl) ?_
 refine dq [] [] (I ((len c_3.f_code))) rfl (e_len rfl rfl rfl (l_isl rfl)) ?_
 refine dk 1 [13] [B ((decide (c_3.f_at < (len c_3.f_code))))] ?_
 refine de 194 rfl rfl ?_
 obtain ⟨y2,hy2,hy21,hy22⟩:=bJ h
 have j2 : ∀ u2,y2=.inr u2→Run Ffbv_E 1 (Ffbv_Q c_3 r) (.code (cR (cR (cR Ffbv_c))) :: []) (sT 62 [(0,.hp 1 0 [] 3 0 0),(3,I (u2))] [⟨0,3,[encI_l1Cur c_3]⟩] 2):=by
   intro u2 hu
   replace h:=hy22 u2 hu
   refine ck 29 [] [] [1] [] [] [some ⟨0,3,[.agg [.isl false ((c_3.f_code).map (V.int .u8)),I ((w64 (c_3.f_at + 1))),.int .u64 ((IntKind.u64.wrap ((IntKind.u64.wrap ((IntKind.u64.wrap (c_3.f_seed * 6364136223846793005)) + (IntKind.u64.wrap u2))) + 902902)))]]⟩] 338 (by kernel_rfl) ?_
   refine s_draw [0,1,3,7,0,16,48,112,240,511] rfl (by decide +kernel) ?_
   refine dk 1 [44] [.hp 1 0 [] 3 0 0] ?_
   refine dq [1] [] (.hp 1 0 [] 3 0 0) rfl (e_nilCheck rfl rfl) ?_
   refine dq [1] [] (.hp 1 0 [] 3 0 1) rfl (e_fieldAddr rfl rfl rfl) ?_
   refine dq [1] [] (I ((w64 (c_3.f_at + 1)))) rfl (e_ld rfl rfl) ?_
   refine dk 1 [48] [.hp 1 0 [] 3 0 0] ?_
   refine dq [1] [] (.hp 1 0 [] 3 0 0) rfl (e_nilCheck rfl rfl) ?_
   refine dq [1] [] (.hp 1 0 [] 3 0 0) rfl (e_fieldAddr rfl rfl rfl) ?_
   refine dq [1] [] (.isl false ((c_3.f_code).map (V.int .u8))) rfl (e_ld rfl rfl) ?_
   refine dq [] [] (I ((len c_3.f_code))) rfl (e_len rfl rfl rfl (l_isl rfl)) ?_
   refine dk 1 [53] [B ((decide ((w64 (c_3.f_at + 1)) ≤ (len c_3.f_code))))] ?_
   refine de 498 rfl rfl ?_
   refine sq h (fun h=>?_) (fun h=>?_)
   · refine cq 5 [2] [I (u2)] 530 ?_
     obtain rfl:=Option.some.inj h
     exact s_ret rfl ⟨_,fin (vs:=[I (u2)]) rfl (absE (absorb_plain rfl) (absEN)) rfl (ou_1 rfl (oc_hp rfl rfl) (ou_n)),kl_c (kl_n)⟩
   · refine aq 1 ?_
     refine cq 11 [2] [I ((IntKind.i64.wrap (andI .u64 (shrI .u64 (IntKind.u64.wrap ((IntKind.u64.wrap ((IntKind.u64.wrap (c_3.f_seed * 6364136223846793005)) + (IntKind.u64.wrap u2))) + 902902)) 40) 255)))] 626 ?_
     obtain rfl:=Option.some.inj h
     exact s_ret rfl ⟨_,fin (vs:=[I ((IntKind.i64.wrap (andI .u64 (shrI .u64 (IntKind.u64.wrap ((IntKind.u64.wrap ((IntKind.u64.wrap (c_3.f_seed * 6364136223846793005)) + (IntKind.u64.wrap u2))) + 902902)) 40) 255)))]) rfl (absE (absorb_plain rfl) (absEN)) rfl (ou_1 rfl (oc_hp rfl rfl) (ou_n)),kl_c (kl_n)⟩
 have r2 : ∀ r',y2=.inl r'→∀ st,Ffbv_Q c_3 r' st→(Ffbv_Q c_3 r) st:=fun r' e st hq=>by rw [hy21 r' e] at hq; exact hq
 replace h:=hy2
 refine sq h (fun h=>?_) (fun h=>?_)
 · refine s_draw [0,1,3,7,0,16,48,112,255,511,1023,2047] rfl (by decide +kernel) ?_
   refine dk 1 [14] [.hp 1 0 [] 3 0 0] ?_
   refine dq [1] [] (.hp 1 0 [] 3 0 0) rfl (e_nilCheck rfl rfl) ?_
   refine dq [1] [] (.hp 1 0 [] 3 0 0) rfl (e_fieldAddr rfl rfl rfl) ?_
   refine dq [1] [] (.isl false ((c_3.f_code).map (V.int .u8))) rfl (e_ld rfl rfl) ?_
   refine dk 1 [18] [.hp 1 0 [] 3 0 0] ?_
   refine dq [1] [] (.hp 1 0 [] 3 0 0) rfl (e_nilCheck rfl rfl) ?_
   refine dq [1] [] (.hp 1 0 [] 3 0 1) rfl (e_fieldAddr rfl rfl rfl) ?_
   refine dq [1] [] (I (c_3.f_at)) rfl (e_ld rfl rfl) ?_
   obtain ⟨e3,he3,h⟩:=bS h
   refine dq [] [] (.iptr (.int .u8 (e3)) 0) rfl (e_indexAddr rfl rfl rfl (ix_islE rfl rfl rfl rfl he3)) ?_
   refine dq [] [] (.int .u8 (e3)) rfl (e_ld rfl rfl) ?_
   refine dq [] [] (I ((IntKind.i64.wrap e3))) rfl (e_conv rfl rfl) ?_
   refine dk 1 [3] [I ((IntKind.i64.wrap e3))] ?_
   refine de 386 rfl rfl ?_
   exact rf [0,3] [1] (j2 _ (Option.some.inj h).symm :)
 · refine aq 1 ?_
   exact rf [0,3] [1] (j2 _ (Option.some.inj h).symm :)
theorem Ffbv_good {G : Go.Ln.Ground} : Good Try.prog G 65 Ffbv_ent:=good_T (fnOf_good (gl_n)) agree_mk (Checked.mixed Try.checked) Try.func65 (n:=1) (m:=1) ⟨rfl,rfl,by decide⟩ (fun _=>⟨rfl,rfl⟩) (fun a r h=>Ffbv_run a r h)
def Ffbx_A : (l1Cur × Int)→List V:=cA (upE encO_l1Cur) (oA I)
def Ffbx_R (r : Int × l1Cur) : V × List V:=(I (r.1),[.uptr (encI_l1Cur r.2)])
noncomputable def Ffbx_ent : Ent:=entT [true,false] Ffbx_A Ffbx_R fun x=>Ffbx x.1 x.2
theorem Ffbx_F {c_3 : l1Cur} {n_4 : Int} {r} (h : Ffbx c_3 n_4=some r) : (Ffbx_ent).F (Ffbx_A (c_3,n_4))=some (Ffbx_R r):=entT_F (cA_inj (uptr_inj encO_l1Cur_inj) (oA_inj I_inj)) h
noncomputable def Ffbx_c : Code:=bodyOf Try.f48
noncomputable def Ffbx_E : Env:=mkE Try.prog [(65,Ffbv_ent)]
def Ffbx_Q (x : l1Cur × Int) (r : Int × l1Cur) : St→Prop:=QF Ffbx_E Try.f48 [true,false] (Ffbx_A x) (Ffbx_R r)
theorem Ffbx_run (c_3 : l1Cur) (n_4 : Int) (r : Int × l1Cur) (h : Ffbx c_3 n_4=some r) : RunF Ffbx_E Try.f48 [true,false] 1 (Ffbx_A (c_3,n_4)) (Ffbx_R r):=by
 show Run _ _ (Ffbx_Q (c_3,n_4) r) [.code Ffbx_c] _
 refine rin (n:=20) [(0,.hp 1 0 [] 3 0 0),(1,I (n_4))] [(1,some ⟨0,3,[encI_l1Cur c_3]⟩)] 2 (by kernel_rfl) (by kernel_rfl) (by kernel_rfl) rfl ?_
 unfold Ffbx at h
 refine cq 10 [7] [B ((decide (n_4 ≤ 1)))] 50 ?_
 refine sq h (fun h=>?_) (fun h=>?_)
 · refine cq 4 [4] [I (0)] 66 ?_
   obtain rfl:=Option.some.inj h
   exact s_ret rfl ⟨_,fin (vs:=[I (0)]) rfl (absE (absorb_plain rfl) (absEN)) rfl (ou_1 rfl (oc_hp rfl rfl) (ou_f (ou_n))),kl_c (kl_n)⟩
 · refine aq 1 ?_
   refine cq 3 [8] [.hp 1 0 [] 3 0 0] 66 ?_
   obtain ⟨r3,hr3,h⟩:=bS h
   refine oq 82 (I (r3.1)) rfl (e_callV rfl rfl (call_P rfl rfl rfl (avO (hd1 rfl (hd_hq (path:=[]) rfl rfl (ra_n))) (avN)) (Ffbv_F hr3) (.inr rfl) (bl_c rfl rfl rfl rfl (bl_n)) rfl rfl rfl)) ?_
   refine cq 8 [5,11] [I (r3.1),B ((decide (n_4 > 200)))] 130 ?_
   obtain ⟨y4,hy4,hy41,hy42⟩:=bJ h
   have j4 : ∀ u4,y4=.inr u4→Run Ffbx_E 1 (Ffbx_Q (c_3,n_4) r) (.code (cR (cR (cR (cR Ffbx_c)))) :: []) (sT 20 [(1,I (n_4)),(5,I (u4.1))] [⟨0,3,[.agg [.isl false ((u4.2.1).map (V.int .u8)),I (u4.2.2.1),.int .u64 (u4.2.2.2)]]⟩] 2):=by
     intro u4 hu
     replace h:=hy42 u4 hu
     refine cq 4 [17,18] [I (u4.1),I (n_4)] 34 ?_
     obtain ⟨q5,hq5,h⟩:=bS h
     refine oq 50 (I (q5)) rfl (e_bin rfl rfl (b_rem hq5)) ?_
     refine cq 2 [4] [I (q5)] 66 ?_
     obtain rfl:=Option.some.inj h
     exact s_ret rfl ⟨_,fin (vs:=[I (q5)]) rfl (absE (absorb_plain rfl) (absEN)) rfl (ou_1 rfl (oc_hp rfl rfl) (ou_f (ou_n))),kl_c (kl_n)⟩
   have r4 : ∀ r',y4=.inl r'→∀ st,Ffbx_Q (c_3,n_4) r' st→(Ffbx_Q (c_3,n_4) r) st:=fun r' e st hq=>by rw [hy41 r' e] at hq; exact hq
   replace h:=hy4
   refine sq h (fun h=>?_) (fun h=>?_)
   · refine cq 4 [13,14] [I ((w64 (r3.1 * 256))),.hp 1 0 [] 3 0 0] 178 ?_
     obtain ⟨r6,hr6,h⟩:=bS h
     refine oq 194 (I (r6.1)) rfl (e_callV rfl rfl (call_P rfl rfl rfl (avO (hd1 rfl (hd_hq (path:=[]) rfl rfl (ra_n))) (avN)) (Ffbv_F hr6) (.inr rfl) (bl_c rfl rfl rfl rfl (bl_n)) rfl rfl rfl)) ?_
     refine cq 3 [5] [I ((w64 ((w64 (r3.1 * 256)) + r6.1)))] 226 ?_
     exact rf [1,5] [1] (j4 _ (Option.some.inj h).symm :)
   · refine aq 1 ?_
     exact rf [1,5] [1] (j4 _ (Option.some.inj h).symm :)
theorem Ffbx_good {G : Go.Ln.Ground} : Good Try.prog G 48 Ffbx_ent:=good_T (fnOf_good (gl_c Ffbv_good (gl_n))) agree_mk (Checked.mixed Try.checked) Try.func48 (n:=2) (m:=1) ⟨rfl,rfl,by decide⟩ (fun _=>⟨rfl,rfl⟩) (fun a r h=>Ffbx_run a.1 a.2 r h)
def Ffbp_A : (l1Cur × (List Int))→List V:=cA (upE encO_l1Cur) (oA (slE I))
def Ffbp_R (r : Int × l1Cur) : V × List V:=(I (r.1),[.uptr (encI_l1Cur r.2)])
noncomputable def Ffbp_ent : Ent:=entT [true,false] Ffbp_A Ffbp_R fun x=>Ffbp x.1 x.2
theorem Ffbp_F {c_3 : l1Cur} {list_4 : List Int} {r} (h : Ffbp c_3 list_4=some r) : (Ffbp_ent).F (Ffbp_A (c_3,list_4))=some (Ffbp_R r):=entT_F (cA_inj (uptr_inj encO_l1Cur_inj) (oA_inj (isl_inj I_inj))) h
noncomputable def Ffbp_c : Code:=bodyOf Try.f23
noncomputable def Ffbp_E : Env:=mkE Try.prog [(48,Ffbx_ent)]
def Ffbp_Q (x : l1Cur × (List Int)) (r : Int × l1Cur) : St→Prop:=QF Ffbp_E Try.f23 [true,false] (Ffbp_A x) (Ffbp_R r)
theorem Ffbp_run (c_3 : l1Cur) (list_4 : List Int) (r : Int × l1Cur) (h : Ffbp c_3 list_4=some r) : RunF Ffbp_E Try.f23 [true,false] 1 (Ffbp_A (c_3,list_4)) (Ffbp_R r):=by
 show Run _ _ (Ffbp_Q (c_3,list_4) r) [.code Ffbp_c] _
 refine rin (n:=12) [(0,.hp 1 0 [] 3 0 0),(1,.isl false ((list_4).map I))] [(1,some ⟨0,3,[encI_l1Cur c_3]⟩)] 2 (by kernel_rfl) (by kernel_rfl) (by kernel_rfl) rfl ?_
 unfold Ffbp at h
 refine cq 9 [5,6,7] [.isl false ((list_4).map I),.hp 1 0 [] 3 0 0,.isl false ((list_4).map I)] 66 ?_
 refine oq 82 (I ((len list_4))) rfl (e_len rfl rfl rfl (l_isl rfl)) ?_
 obtain ⟨r3,hr3,h⟩:=bS h
 refine oq 98 (I (r3.1)) rfl (e_callV rfl rfl (call_P rfl rfl rfl (avO (hd1 rfl (hd_hq (path:=[]) rfl rfl (ra_n))) (avS (shP rfl) (avN))) (Ffbx_F hr3) (.inr rfl) (bl_c rfl rfl rfl rfl (bl_n)) rfl rfl rfl)) ?_
 obtain ⟨e4,he4,h⟩:=bS h
 refine oq 114 (.iptr (I (e4)) 0) rfl (e_indexAddr rfl rfl rfl (ix_islE rfl rfl rfl rfl he4)) ?_
 refine cq 3 [4] [I (e4)] 146 ?_
 obtain rfl:=Option.some.inj h
 exact s_ret rfl ⟨_,fin (vs:=[I (e4)]) rfl (absE (absorb_plain rfl) (absEN)) rfl (ou_1 rfl (oc_hp rfl rfl) (ou_f (ou_n))),kl_c (kl_n)⟩
theorem Ffbp_good {G : Go.Ln.Ground} : Good Try.prog G 23 Ffbp_ent:=good_T (fnOf_good (gl_c Ffbx_good (gl_n))) agree_mk (Checked.mixed Try.checked) Try.func23 (n:=2) (m:=1) ⟨rfl,rfl,by decide⟩ (fun _=>⟨rfl,rfl⟩) (fun a r h=>Ffbp_run a.1 a.2 r h)
def Ffbt_A : l1Cur→List V:=oA (upE encO_l1Cur)
def Ffbt_R (r : Int × l1Cur) : V × List V:=(I (r.1),[.uptr (encI_l1Cur r.2)])
noncomputable def Ffbt_ent : Ent:=entT [true] Ffbt_A Ffbt_R fun x=>Ffbt x
theorem Ffbt_F {c_2 : l1Cur} {r} (h : Ffbt c_2=some r) : (Ffbt_ent).F (Ffbt_A c_2)=some (Ffbt_R r):=entT_F (oA_inj (uptr_inj encO_l1Cur_inj)) h
noncomputable def Ffbt_c : Code:=bodyOf Try.f53
noncomputable def Ffbt_E : Env:=mkE Try.prog [(48,Ffbx_ent),(23,Ffbp_ent)]
def Ffbt_Q (x : l1Cur) (r : Int × l1Cur) : St→Prop:=QF Ffbt_E Try.f53 [true] (Ffbt_A x) (Ffbt_R r)
theorem Ffbt_run (c_2 : l1Cur) (r : Int × l1Cur) (h : Ffbt c_2=some r) : RunF Ffbt_E Try.f53 [true] 1 (Ffbt_A c_2) (Ffbt_R r):=by
 show Run _ _ (Ffbt_Q c_2 r) [.code Ffbt_c] _
 refine rin (n:=16) [(0,.hp 1 0 [] 3 0 0)] [(1,some ⟨0,3,[encI_l1Cur c_2]⟩)] 2 (by kernel_rfl) (by kernel_rfl) (by kernel_rfl) rfl ?_
 unfold Ffbt at h
 refine cq 8 [3] [.hp 1 0 [] 3 0 0] 34 ?_
 obtain ⟨r2,hr2,h⟩:=bS h
 refine oq 50 (I (r2.1)) rfl (e_callV rfl rfl (call_P rfl rfl rfl (avO (hd1 rfl (hd_hq (path:=[]) rfl rfl (ra_n))) (avS (shP rfl) (avN))) (Ffbx_F hr2) (.inr rfl) (bl_c rfl rfl rfl rfl (bl_n)) rfl rfl rfl)) ?_
 refine cq 7 [5] [B ((r2.1 == 0))] 82 ?_
 refine sq h (fun h=>?_) (fun h=>?_)
 · refine cq 3 [7] [.hp 1 0 [] 3 0 0] 98 ?_
   refine oq 114 (.hs 98 0 [] 1 0 11) rfl (e_buildSlice rfl (bs_mk (f:=I) (xs:=[]) (z:=I (0)) (es:=[I (0),I (59),I (60),I (365),I (366),I (424),I (425),I (36524),I (36523),I (30),I (31)]) (ws:=[I (0),I (59),I (60),I (365),I (366),I (424),I (425),I (36524),I (36523),I (30),I (31)]) rfl rfl rfl (by decide) rfl (abs_each_plain rfl) rfl)) ?_
   obtain ⟨r3,hr3,h⟩:=bS h
   refine oK 130 (I (r3.1)) rfl rfl (e_callK rfl rfl (call_K rfl rfl rfl rfl (avO (hd1 rfl (hd_hq (path:=[]) rfl rfl (ra_n))) (avS (sh1 rfl rfl (sh_hsM (f:=I) (g:=I) (xs:=[0,59,60,365,366,424,425,36524,36523,30,31]) rfl rfl (imms_of I_imm))) (avN))) (Ffbp_F hr3) (bl_c rfl rfl rfl rfl (bl_n)) rfl rfl rfl)) ?_
   refine cq 2 [2] [I (r3.1)] 146 ?_
   obtain rfl:=Option.some.inj h
   exact s_ret rfl ⟨_,fin (vs:=[I (r3.1)]) rfl (absE (absorb_plain rfl) (absEN)) rfl (ou_1 rfl (oc_hp rfl rfl) (ou_n)),kl_c (kl_n)⟩
 · refine cq 5 [10] [B ((r2.1 == 1))] 114 ?_
   refine sq h (fun h=>?_) (fun h=>?_)
   · refine cq 3 [12] [.hp 1 0 [] 3 0 0] 130 ?_
     obtain ⟨r4,hr4,h⟩:=bS h
     refine oq 146 (I (r4.1)) rfl (e_callV rfl rfl (call_P rfl rfl rfl (avO (hd1 rfl (hd_hq (path:=[]) rfl rfl (ra_n))) (avS (shP rfl) (avN))) (Ffbx_F hr4) (.inr rfl) (bl_c rfl rfl rfl rfl (bl_n)) rfl rfl rfl)) ?_
     refine cq 2 [2] [I (r4.1)] 162 ?_
     obtain rfl:=Option.some.inj h
     exact s_ret rfl ⟨_,fin (vs:=[I (r4.1)]) rfl (absE (absorb_plain rfl) (absEN)) rfl (ou_1 rfl (oc_hp rfl rfl) (ou_n)),kl_c (kl_n)⟩
   · refine aq 1 ?_
     refine cq 4 [14] [.hp 1 0 [] 3 0 0] 130 ?_
     obtain ⟨r5,hr5,h⟩:=bS h
     refine oq 146 (I (r5.1)) rfl (e_callV rfl rfl (call_P rfl rfl rfl (avO (hd1 rfl (hd_hq (path:=[]) rfl rfl (ra_n))) (avS (shP rfl) (avN))) (Ffbx_F hr5) (.inr rfl) (bl_c rfl rfl rfl rfl (bl_n)) rfl rfl rfl)) ?_
     refine cq 2 [2] [I (r5.1)] 162 ?_
     obtain rfl:=Option.some.inj h
     exact s_ret rfl ⟨_,fin (vs:=[I (r5.1)]) rfl (absE (absorb_plain rfl) (absEN)) rfl (ou_1 rfl (oc_hp rfl rfl) (ou_n)),kl_c (kl_n)⟩
theorem Ffbt_good {G : Go.Ln.Ground} : Good Try.prog G 53 Ffbt_ent:=good_T (fnOf_good (gl_c Ffbx_good (gl_c Ffbp_good (gl_n)))) agree_mk (Checked.mixed Try.checked) Try.func53 (n:=1) (m:=1) ⟨rfl,rfl,by decide⟩ (fun _=>⟨rfl,rfl⟩) (fun a r h=>Ffbt_run a r h)
def Ffbw_A : (l1Cur × Int)→List V:=cA (upE encO_l1Cur) (oA I)
def Ffbw_R (r : Bool × l1Cur) : V × List V:=(B (r.1),[.uptr (encI_l1Cur r.2)])
noncomputable def Ffbw_ent : Ent:=entT [true,false] Ffbw_A Ffbw_R fun x=>Ffbw x.1 x.2
theorem Ffbw_F {c_3 : l1Cur} {n_4 : Int} {r} (h : Ffbw c_3 n_4=some r) : (Ffbw_ent).F (Ffbw_A (c_3,n_4))=some (Ffbw_R r):=entT_F (cA_inj (uptr_inj encO_l1Cur_inj) (oA_inj I_inj)) h
noncomputable def Ffbw_c : Code:=bodyOf Try.f24
noncomputable def Ffbw_E : Env:=mkE Try.prog [(48,Ffbx_ent)]
def Ffbw_Q (x : l1Cur × Int) (r : Bool × l1Cur) : St→Prop:=QF Ffbw_E Try.f24 [true,false] (Ffbw_A x) (Ffbw_R r)
theorem Ffbw_run (c_3 : l1Cur) (n_4 : Int) (r : Bool × l1Cur) (h : Ffbw c_3 n_4=some r) : RunF Ffbw_E Try.f24 [true,false] 1 (Ffbw_A (c_3,n_4)) (Ffbw_R r):=by
 show Run _ _ (Ffbw_Q (c_3,n_4) r) [.code Ffbw_c] _
 refine rin (n:=9) [(0,.hp 1 0 [] 3 0 0),(1,I (n_4))] [(1,some ⟨0,3,[encI_l1Cur c_3]⟩)] 2 (by kernel_rfl) (by kernel_rfl) (by kernel_rfl) rfl ?_
 unfold Ffbw at h
 refine cq 8 [5,6] [.hp 1 0 [] 3 0 0,I (n_4)] 50 ?_
 obtain ⟨r3,hr3,h⟩:=bS h
 refine oq 66 (I (r3.1)) rfl (e_callV rfl rfl (call_P rfl rfl rfl (avO (hd1 rfl (hd_hq (path:=[]) rfl rfl (ra_n))) (avS (shP rfl) (avN))) (Ffbx_F hr3) (.inr rfl) (bl_c rfl rfl rfl rfl (bl_n)) rfl rfl rfl)) ?_
 refine cq 3 [4] [B ((r3.1 == 0))] 98 ?_
 obtain rfl:=Option.some.inj h
 exact s_ret rfl ⟨_,fin (vs:=[B ((r3.1 == 0))]) rfl (absE (absorb_plain rfl) (absEN)) rfl (ou_1 rfl (oc_hp rfl rfl) (ou_f (ou_n))),kl_c (kl_n)⟩
theorem Ffbw_good {G : Go.Ln.Ground} : Good Try.prog G 24 Ffbw_ent:=good_T (fnOf_good (gl_c Ffbx_good (gl_n))) agree_mk (Checked.mixed Try.checked) Try.func24 (n:=2) (m:=1) ⟨rfl,rfl,by decide⟩ (fun _=>⟨rfl,rfl⟩) (fun a r h=>Ffbw_run a.1 a.2 r h)
def Ffch_A : (Int × Int)→List V:=cA I (oA I)
def Ffch_R (r : Int) : V × List V:=(I (r),[])
noncomputable def Ffch_ent : Ent:=entT [false,false] Ffch_A Ffch_R fun x=>Ffch x.1 x.2
theorem Ffch_F {year_1 : Int} {month_2 : Int} {r} (h : Ffch year_1 month_2=some r) : (Ffch_ent).F (Ffch_A (year_1,month_2))=some (Ffch_R r):=entT_F (cA_inj I_inj (oA_inj I_inj)) h
noncomputable def Ffch_c : Code:=bodyOf Try.f43
noncomputable def Ffch_E : Env:=mkE Try.prog []
def Ffch_Q (x : Int × Int) (r : Int) : St→Prop:=QF Ffch_E Try.f43 [false,false] (Ffch_A x) (Ffch_R r)
theorem Ffch_run (year_1 : Int) (month_2 : Int) (r : Int) (h : Ffch year_1 month_2=some r) : RunF Ffch_E Try.f43 [false,false] 0 (Ffch_A (year_1,month_2)) (Ffch_R r):=by
 show Run _ _ (Ffch_Q (year_1,month_2) r) [.code Ffch_c] _
 refine rin (n:=16) [(0,I (year_1)),(1,I (month_2))] [] 1 (by kernel_rfl) (by kernel_rfl) (by kernel_rfl) rfl ?_
 unfold Ffch at h
 refine cq 16 [5,6] [I (month_2),B ((month_2 == 4))] 65 ?_
 obtain ⟨u3,hu3,h⟩:=lJ h
 have j3 : Run Ffch_E 0 (Ffch_Q (year_1,month_2) r) (.code (cR (cL (cR (cL (cR Ffch_c))))) :: .blk 0 :: .code (cR (cR Ffch_c)) :: []) (sT 16 [(0,I (year_1)),(5,I (month_2)),(6,B (u3))] [] 1):=by
   refine sq h (fun h=>?_) (fun h=>?_)
   · refine cq 4 [4] [I (30)] 17 ?_
     obtain rfl:=Option.some.inj h
     exact s_ret rfl ⟨_,fin (vs:=[I (30)]) rfl (absE (absorb_plain rfl) (absEN)) rfl (ou_f (ou_f (ou_n))),kl_n⟩
   · refine cq 5 [11] [B ((month_2 == 2))] 33 ?_
     refine sq h (fun h=>?_) (fun h=>?_)
     · refine cq 7 [15] [B (((year_1.tmod 4) == 0))] 81 ?_
       refine sq h (fun h=>?_) (fun h=>?_)
       · refine cq 4 [4] [I (29)] 97 ?_
         obtain rfl:=Option.some.inj h
         exact s_ret rfl ⟨_,fin (vs:=[I (29)]) rfl (absE (absorb_plain rfl) (absEN)) rfl (ou_f (ou_f (ou_n))),kl_n⟩
       · refine aq 1 ?_
         refine cq 4 [4] [I (28)] 97 ?_
         obtain rfl:=Option.some.inj h
         exact s_ret rfl ⟨_,fin (vs:=[I (28)]) rfl (absE (absorb_plain rfl) (absEN)) rfl (ou_f (ou_f (ou_n))),kl_n⟩
     · refine aq 1 ?_
       refine cq 5 [4] [I (31)] 49 ?_
       obtain rfl:=Option.some.inj h
       exact s_ret rfl ⟨_,fin (vs:=[I (31)]) rfl (absE (absorb_plain rfl) (absEN)) rfl (ou_f (ou_f (ou_n))),kl_n⟩
 replace h:=hu3
 clear hu3
 refine scp h rfl rfl (fun h=>?_) (fun h=>?_)
 · refine aq 1 ?_
   subst h
   exact rf [0,5,6] [] (j3 :)
 · refine cq 5 [6] [B ((month_2 == 6))] 97 ?_
   obtain ⟨u4,hu4,h⟩:=lJ h
   have j4 : Run Ffch_E 0 (Ffch_Q (year_1,month_2) r) (.code (cR (cL (cR (cL (cR Ffch_c))))) :: .blk 0 :: .code (cR (cR Ffch_c)) :: []) (sT 16 [(0,I (year_1)),(5,I (month_2)),(6,B (u4))] [] 1):=by
     subst h
     exact rf [0,5,6] [] (j3 :)
   replace h:=hu4
   clear hu4
   refine scp h rfl rfl (fun h=>?_) (fun h=>?_)
   · refine aq 1 ?_
     subst h
     exact rf [0,5,6] [] (j4 :)
   · refine cq 5 [6] [B ((month_2 == 9))] 129 ?_
     obtain ⟨u5,hu5,h⟩:=lJ h
     have j5 : Run Ffch_E 0 (Ffch_Q (year_1,month_2) r) (.code (cR (cL (cR (cL (cR Ffch_c))))) :: .blk 0 :: .code (cR (cR Ffch_c)) :: []) (sT 16 [(0,I (year_1)),(5,I (month_2)),(6,B (u5))] [] 1):=by
       subst h
       exact rf [0,5,6] [] (j4 :)
     replace h:=hu5
     clear hu5
     refine scp h rfl rfl (fun h=>?_) (fun h=>?_)
     · refine aq 1 ?_
       subst h
       exact rf [0,5,6] [] (j5 :)
     · refine cq 4 [6] [B ((month_2 == 11))] 161 ?_
       subst h
       exact rf [0,5,6] [] (j5 :)
theorem Ffch_good {G : Go.Ln.Ground} : Good Try.prog G 43 Ffch_ent:=good_T (fnOf_good (gl_n)) agree_mk (Checked.mixed Try.checked) Try.func43 (n:=2) (m:=0) ⟨rfl,rfl,by decide⟩ (fun _=>⟨rfl,rfl⟩) (fun a r h=>Ffch_run a.1 a.2 r h)
def Ffcf_A : Date→List V:=oA enc_Date
def Ffcf_R (r : Int) : V × List V:=(I (r),[])
noncomputable def Ffcf_ent : Ent:=entT [false] Ffcf_A Ffcf_R fun x=>Ffcf x
theorem Ffcf_F {d_1 : Date} {r} (h : Ffcf d_1=some r) : (Ffcf_ent).F (Ffcf_A d_1)=some (Ffcf_R r):=entT_F (oA_inj enc_Date_inj) h
noncomputable def Ffcf_c : Code:=bodyOf Try.f45
noncomputable def Ffcf_E : Env:=mkE Try.prog [(43,Ffch_ent)]
def Ffcf_Q (x : Date) (r : Int) : St→Prop:=QF Ffcf_E Try.f45 [false] (Ffcf_A x) (Ffcf_R r)
theorem Ffcf_la_run (d_1 : Date)  {Q : St→Prop} {K : List It} (hK : noD K=true) : ∀ (x2 : Int × Int) (y : Int ⊕ Int),Ffcf_la d_1 x2=some y→(∀ r',y=.inl r'→∀ st,Ffcf_Q d_1 r' st→Q st)→(∀ u : Int,y=.inr u→Run Ffcf_E 0 Q K (sT 32 [(1,.hp 1 0 [] 3 0 0),(4,I (u))] [⟨0,3,[enc_Date d_1]⟩] 2))→Run Ffcf_E 0 Q (.code (cL (cL (cR (cL (cR (cR (cR Ffcf_c))))))) :: .lp (cL (cL (cR (cL (cR (cR (cR Ffcf_c))))))) :: .blk 0 :: K) (sT 32 [(1,.hp 1 0 [] 3 0 0),(4,I (x2.1)),(5,I (x2.2))] [⟨0,3,[enc_Date d_1]⟩] 2):=by
 refine fix_indP (Ffcf_la_fin d_1) ?_
 intro self ih x2 y h hr hn
 unfold Ffcf_la_F at h
 refine cq 8 [18] [B ((decide (x2.2 < d_1.Month)))] 66 ?_
 refine sq h (fun h=>?_) (fun h=>?_)
 · refine aq 1 ?_
   refine cq 7 [21,23,24] [I (x2.1),I (d_1.Year),I (x2.2)] 130 ?_
   obtain ⟨r3,hr3,h⟩:=bS h
   refine oq 146 (I (r3)) rfl (e_callV rfl rfl (call_P rfl rfl rfl (avS (shP rfl) (avS (shP rfl) (avN))) (Ffch_F hr3) (.inr rfl) (bl_n) rfl rfl rfl)) ?_
   refine cq 9 [4,5] [I ((w64 (x2.1 + r3))),I ((w64 (x2.2 + 1)))] 226 ?_
   refine s_lp ?_
   exact rf [1,4,5] [1] (ih _ _ h hr hn :)
 · refine aq 1 ?_
   exact rf [1,4] [1] (hn _ (Option.some.inj h).symm :) (hk:=hK)
theorem Ffcf_run (d_1 : Date) (r : Int) (h : Ffcf d_1=some r) : RunF Ffcf_E Try.f45 [false] 0 (Ffcf_A d_1) (Ffcf_R r):=by
 show Run _ _ (Ffcf_Q d_1 r) [.code Ffcf_c] _
 refine rin (n:=32) [(0,enc_Date d_1)] [] 1 (by kernel_rfl) (by kernel_rfl) (by kernel_rfl) rfl ?_
 unfold Ffcf at h
 refine ck 28 [1,4,5] [] [1] [] [.hp 1 0 [] 3 0 0,I ((w64 ((w64 (365 * (w64 (d_1.Year - 2000)))) + (w64 ((w64 ((w64 (d_1.Year - 2000)) + 3)).tdiv 4))))),I (1)] [some ⟨0,3,[enc_Date d_1]⟩] 225 (by kernel_rfl) ?_
 obtain ⟨y4,hy4,hy41,hy42⟩:=bJ h
 refine s_loop rfl ?_
 refine rf [1,4,5] [1] (Ffcf_la_run d_1 rfl ((w64 ((w64 (365 * (w64 (d_1.Year - 2000)))) + (w64 ((w64 ((w64 (d_1.Year - 2000)) + 3)).tdiv 4)))),1) _ hy4 (fun r' e st hq=>by rw [hy41 r' e] at hq; exact hq) fun u4 hu=>?_)
 replace h:=hy42 u4 hu
 refine cq 9 [2] [I ((w64 ((w64 (u4 + d_1.Day)) - 1)))] 98 ?_
 obtain rfl:=Option.some.inj h
 exact s_ret rfl ⟨_,fin (vs:=[I ((w64 ((w64 (u4 + d_1.Day)) - 1)))]) rfl (absE (absorb_plain rfl) (absEN)) rfl (ou_f (ou_n)),kl_n⟩
theorem Ffcf_good {G : Go.Ln.Ground} : Good Try.prog G 45 Ffcf_ent:=good_T (fnOf_good (gl_c Ffch_good (gl_n))) agree_mk (Checked.mixed Try.checked) Try.func45 (n:=1) (m:=0) ⟨rfl,rfl,by decide⟩ (fun _=>⟨rfl,rfl⟩) (fun a r h=>Ffcf_run a r h)
def Ffce_A : Int→List V:=oA I
def Ffce_R (r : Date) : V × List V:=(enc_Date r,[])
noncomputable def Ffce_ent : Ent:=entT [false] Ffce_A Ffce_R fun x=>Ffce x
theorem Ffce_F {day_1 : Int} {r} (h : Ffce day_1=some r) : (Ffce_ent).F (Ffce_A day_1)=some (Ffce_R r):=entT_F (oA_inj I_inj) h
noncomputable def Ffce_c : Code:=bodyOf Try.f42
noncomputable abbrev Ffce_ka : Code:=cL (cL (cL (cR (cR (cR Ffce_c)))))
noncomputable def Ffce_E : Env:=mkE Try.prog [(45,Ffcf_ent)]
def Ffce_Q (x : Int) (r : Date) : St→Prop:=QF Ffce_E Try.f42 [false] (Ffce_A x) (Ffce_R r)
theorem Ffce_la_run (day_1 : Int)  {Q : St→Prop} {K : List It} (hK : noD K=true) : ∀ (x2 : Int) (y : Date ⊕ Int),Ffce_la day_1 x2=some y→(∀ r',y=.inl r'→∀ st,Ffce_Q day_1 r' st→Q st)→(∀ u : Int,y=.inr u→Run Ffce_E 0 Q K (sT 46 [(0,I (day_1)),(2,.hp 1 0 [] 3 0 0),(3,.hp 2 0 [] 3 0 0)] [⟨0,3,[.agg [I (0),I (0),I (0)]]⟩,⟨0,3,[.agg [I (u),I (1),I (1)]]⟩] 3))→Run Ffce_E 0 Q (.code (cL (cL (cL (cR (cR Ffce_c))))) :: .lp (cL (cL (cL (cR (cR Ffce_c))))) :: .blk 0 :: K) (sT 46 [(0,I (day_1)),(2,.hp 1 0 [] 3 0 0),(3,.hp 2 0 [] 3 0 0)] [⟨0,3,[.agg [I (0),I (0),I (0)]]⟩,⟨0,3,[.agg [I (x2),I (1),I (1)]]⟩] 3):=by
 refine fix_indP (Ffce_la_fin day_1) ?_
 intro self ih x2 y h hr hn
 unfold Ffce_la_F at h
 refine cq 7 [8] [B ((decide (x2 < 2099)))] 67 ?_
 obtain ⟨y3,hy3,hy31,hy32⟩:=bL h
 have j3 : ∀ u3,y3=.inr u3→Run Ffce_E 0 Q (.code (cR (cL (cL (cL (cL (cR (cR Ffce_c))))))) :: .code (cR (cL (cL (cL (cR (cR Ffce_c)))))) :: .lp (cL (cL (cL (cR (cR Ffce_c))))) :: .blk 0 :: K) (sT 46 [(0,I (day_1)),(2,.hp 1 0 [] 3 0 0),(3,.hp 2 0 [] 3 0 0),(16,B (u3))] [⟨0,3,[.agg [I (0),I (0),I (0)]]⟩,⟨0,3,[.agg [I (x2),I (1),I (1)]]⟩] 3):=by
   intro u3 hu
   replace h:=hy32 u3 hu
   refine sq h (fun h=>?_) (fun h=>?_)
   · refine aq 1 ?_
     refine ck 9 [] [] [2] [] [] [some ⟨0,3,[.agg [I ((w64 (x2 + 1))),I (1),I (1)]]⟩] 83 (by kernel_rfl) ?_
     refine s_lp ?_
     exact rf [0,2,3] [1,2] (ih _ _ h hr hn :)
   · refine aq 1 ?_
     exact rf [0,2,3] [1,2] (hn _ (Option.some.inj h).symm :) (hk:=hK)
 have r3 : ∀ r',y3=.inl r'→∀ st,Ffce_Q day_1 r' st→Q st:=fun r' e st hq=>hr r' (hy31 r' e) st hq
 replace h:=hy3
 refine sp 8 h rfl (fun h=>?_) (fun h=>?_)
 · refine cq 4 [12] [.agg [I ((w64 (x2 + 1))),I (1),I (1)]] 131 ?_
   obtain ⟨r4,hr4,h⟩:=bS h
   refine oy 147 (I (r4)) rfl (e_callV rfl rfl (call_P rfl rfl rfl (avS (shP rfl) (avN)) (Ffcf_F hr4) (.inr rfl) (bl_n) rfl rfl rfl)) ?_
   refine cq 4 [16] [B ((decide (r4 ≤ day_1)))] 195 ?_
   exact rf [0,2,3,16] [1,2] (j3 _ (Option.some.inj h).symm :)
 · refine cq 9 [16] [B (false)] 195 ?_
   exact rf [0,2,3,16] [1,2] (j3 _ (Option.some.inj h).symm :)
theorem Ffce_lb_run (day_1 : Int) (u5 : Int) {Q : St→Prop} {K : List It} (hK : noD K=true) : ∀ (x6 : Int) (y : Date ⊕ Int),Ffce_lb day_1 u5 x6=some y→(∀ r',y=.inl r'→∀ st,Ffce_Q day_1 r' st→Q st)→(∀ u : Int,y=.inr u→Run Ffce_E 0 Q K (sT 46 [(0,I (day_1)),(2,.hp 1 0 [] 3 0 0),(3,.hp 2 0 [] 3 0 0)] [⟨0,3,[.agg [I (0),I (0),I (0)]]⟩,⟨0,3,[.agg [I (u5),I (u),I (1)]]⟩] 3))→Run Ffce_E 0 Q (.code Ffce_ka :: .lp Ffce_ka :: .blk 2 :: K) (sT 46 [(0,I (day_1)),(2,.hp 1 0 [] 3 0 0),(3,.hp 2 0 [] 3 0 0)] [⟨0,3,[.agg [I (0),I (0),I (0)]]⟩,⟨0,3,[.agg [I (u5),I (x6),I (1)]]⟩] 3):=by
 refine fix_indP (Ffce_lb_fin day_1 u5) ?_
 intro self ih x6 y h hr hn
 unfold Ffce_lb_F at h
 refine cq 7 [24] [B ((decide (x6 < 12)))] 67 ?_
 obtain ⟨y7,hy7,hy71,hy72⟩:=bL h
 have j7 : ∀ u7,y7=.inr u7→Run Ffce_E 0 Q (.code (cR (cL Ffce_ka)) :: .code (cR Ffce_ka) :: .lp Ffce_ka :: .blk 2 :: K) (sT 46 [(0,I (day_1)),(2,.hp 1 0 [] 3 0 0),(3,.hp 2 0 [] 3 0 0),(34,B (u7))] [⟨0,3,[.agg [I (0),I (0),I (0)]]⟩,⟨0,3,[.agg [I (u5),I (x6),I (1)]]⟩] 3):=by
   intro u7 hu
   replace h:=hy72 u7 hu
   refine sq h (fun h=>?_) (fun h=>?_)
   · refine aq 1 ?_
     refine ck 9 [] [] [2] [] [] [some ⟨0,3,[.agg [I (u5),I ((w64 (x6 + 1))),I (1)]]⟩] 83 (by kernel_rfl) ?_
     refine s_lp ?_
     exact rf [0,2,3] [1,2] (ih _ _ h hr hn :)
   · refine aq 1 ?_
     exact rf [0,2,3] [1,2] (hn _ (Option.some.inj h).symm :) (hk:=hK)
 have r7 : ∀ r',y7=.inl r'→∀ st,Ffce_Q day_1 r' st→Q st:=fun r' e st hq=>hr r' (hy71 r' e) st hq
 replace h:=hy7
 refine sp 24 h rfl (fun h=>?_) (fun h=>?_)
 · refine cq 6 [30] [.agg [I (u5),I ((w64 (x6 + 1))),I (1)]] 163 ?_
   obtain ⟨r8,hr8,h⟩:=bS h
   refine oy 179 (I (r8)) rfl (e_callV rfl rfl (call_P rfl rfl rfl (avS (shP rfl) (avN)) (Ffcf_F hr8) (.inr rfl) (bl_n) rfl rfl rfl)) ?_
   refine cq 4 [34] [B ((decide (r8 ≤ day_1)))] 227 ?_
   exact rf [0,2,3,34] [1,2] (j7 _ (Option.some.inj h).symm :)
 · refine cq 11 [34] [B (false)] 227 ?_
   exact rf [0,2,3,34] [1,2] (j7 _ (Option.some.inj h).symm :)
theorem Ffce_run (day_1 : Int) (r : Date) (h : Ffce day_1=some r) : RunF Ffce_E Try.f42 [false] 0 (Ffce_A day_1) (Ffce_R r):=by
 show Run _ _ (Ffce_Q day_1 r) [.code Ffce_c] _
 refine rin (n:=46) [(0,I (day_1))] [] 1 (by kernel_rfl) (by kernel_rfl) (by kernel_rfl) rfl ?_
 unfold Ffce at h
 refine ck 12 [2,3] [] [1,33] [] [.hp 1 0 [] 3 0 0,.hp 33 0 [] 3 0 0] [some ⟨0,3,[.agg [I (0),I (0),I (0)]]⟩,some ⟨0,3,[.agg [I (2000),I (1),I (1)]]⟩] 65 (by kernel_rfl) ?_
 obtain ⟨y5,hy5,hy51,hy52⟩:=bJ h
 refine s_loop rfl ?_
 refine rf [0,2,3] [1,33] (Ffce_la_run day_1 rfl 2000 _ hy5 (fun r' e st hq=>by rw [hy51 r' e] at hq; exact hq) fun u5 hu=>?_)
 replace h:=hy52 u5 hu
 refine aq 2 ?_
 obtain ⟨y9,hy9,hy91,hy92⟩:=bJ h
 refine s_loop rfl ?_
 refine rf [0,2,3] [1,2] (Ffce_lb_run day_1 u5 rfl 1 _ hy9 (fun r' e st hq=>by rw [hy91 r' e] at hq; exact hq) fun u9 hu=>?_)
 replace h:=hy92 u9 hu
 refine cq 4 [39,40] [I (day_1),.agg [I (u5),I (u9),I (1)]] 35 ?_
 obtain ⟨r10,hr10,h⟩:=bS h
 refine oq 51 (I (r10)) rfl (e_callV rfl rfl (call_P rfl rfl rfl (avS (shP rfl) (avN)) (Ffcf_F hr10) (.inr rfl) (bl_n) rfl rfl rfl)) ?_
 refine ck 10 [] [] [1,2] [] [] [some ⟨0,3,[.agg [I (u5),I (u9),I ((w64 ((w64 (day_1 - r10)) + 1)))]]⟩,some ⟨0,3,[.agg [I (u5),I (u9),I ((w64 ((w64 (day_1 - r10)) + 1)))]]⟩] 147 (by kernel_rfl) ?_
 obtain rfl:=Option.some.inj h
 exact s_ret rfl ⟨_,fin (vs:=[.agg [I (u5),I (u9),I ((w64 ((w64 (day_1 - r10)) + 1)))]]) (rs_c (rs_cell rfl rfl rfl) (rs_n)) (absE (absorb_plain rfl) (absEN)) rfl (ou_f (ou_n)),kl_n⟩
theorem Ffce_good {G : Go.Ln.Ground} : Good Try.prog G 42 Ffce_ent:=good_T (fnOf_good (gl_c Ffcf_good (gl_n))) agree_mk (Checked.mixed Try.checked) Try.func42 (n:=1) (m:=0) ⟨rfl,rfl,by decide⟩ (fun _=>⟨rfl,rfl⟩) (fun a r h=>Ffce_run a r h)
def Ffbu_A : l1Cur→List V:=oA (upE encO_l1Cur)
def Ffbu_R (r : Int × l1Cur) : V × List V:=(I (r.1),[.uptr (encI_l1Cur r.2)])
noncomputable def Ffbu_ent : Ent:=entT [true] Ffbu_A Ffbu_R fun x=>Ffbu x
theorem Ffbu_F {c_2 : l1Cur} {r} (h : Ffbu c_2=some r) : (Ffbu_ent).F (Ffbu_A c_2)=some (Ffbu_R r):=entT_F (oA_inj (uptr_inj encO_l1Cur_inj)) h
noncomputable def Ffbu_c : Code:=bodyOf Try.f22
noncomputable def Ffbu_E : Env:=mkE Try.prog [(53,Ffbt_ent),(24,Ffbw_ent),(42,Ffce_ent),(43,Ffch_ent),(48,Ffbx_ent),(45,Ffcf_ent)]
def Ffbu_Q (x : l1Cur) (r : Int × l1Cur) : St→Prop:=QF Ffbu_E Try.f22 [true] (Ffbu_A x) (Ffbu_R r)
theorem Ffbu_run (c_2 : l1Cur) (r : Int × l1Cur) (h : Ffbu c_2=some r) : RunF Ffbu_E Try.f22 [true] 1 (Ffbu_A c_2) (Ffbu_R r):=by
 show Run _ _ (Ffbu_Q c_2 r) [.code Ffbu_c] _
 refine rin (n:=23) [(0,.hp 1 0 [] 3 0 0)] [(1,some ⟨0,3,[encI_l1Cur c_2]⟩)] 2 (by kernel_rfl) (by kernel_rfl) (by kernel_rfl) rfl ?_
 unfold Ffbu at h
 refine cq 7 [5] [.hp 1 0 [] 3 0 0] 34 ?_
 obtain ⟨r2,hr2,h⟩:=bS h
 refine oq 50 (I (r2.1)) rfl (e_callV rfl rfl (call_P rfl rfl rfl (avO (hd1 rfl (hd_hq (path:=[]) rfl rfl (ra_n))) (avN)) (Ffbt_F hr2) (.inr rfl) (bl_c rfl rfl rfl rfl (bl_n)) rfl rfl rfl)) ?_
 refine cq 6 [3,7] [I (r2.1),.hp 1 0 [] 3 0 0] 82 ?_
 obtain ⟨r3,hr3,h⟩:=bS h
 refine oq 98 (B (r3.1)) rfl (e_callV rfl rfl (call_P rfl rfl rfl (avO (hd1 rfl (hd_hq (path:=[]) rfl rfl (ra_n))) (avS (shP rfl) (avN))) (Ffbw_F hr3) (.inr rfl) (bl_c rfl rfl rfl rfl (bl_n)) rfl rfl rfl)) ?_
 refine aq 1 ?_
 obtain ⟨y4,hy4,hy41,hy42⟩:=bJ h
 have j4 : ∀ u4,y4=.inr u4→Run Ffbu_E 1 (Ffbu_Q c_2 r) (.code (cR (cR (cR Ffbu_c))) :: []) (sT 23 [(3,I (u4.1))] [⟨0,3,[.agg [.isl false ((u4.2.1).map (V.int .u8)),I (u4.2.2.1),.int .u64 (u4.2.2.2)]]⟩] 2):=by
   intro u4 hu
   replace h:=hy42 u4 hu
   refine cq 5 [2] [I (u4.1)] 34 ?_
   obtain rfl:=Option.some.inj h
   exact s_ret rfl ⟨_,fin (vs:=[I (u4.1)]) rfl (absE (absorb_plain rfl) (absEN)) rfl (ou_1 rfl (oc_hp rfl rfl) (ou_n)),kl_c (kl_n)⟩
 have r4 : ∀ r',y4=.inl r'→∀ st,Ffbu_Q c_2 r' st→(Ffbu_Q c_2 r) st:=fun r' e st hq=>by rw [hy41 r' e] at hq; exact hq
 replace h:=hy4
 refine sq h (fun h=>?_) (fun h=>?_)
 · refine cq 3 [9] [I (r2.1)] 114 ?_
   obtain ⟨r5,hr5,h⟩:=bS h
   refine oq 130 (enc_Date r5) rfl (e_callV rfl rfl (call_P rfl rfl rfl (avS (shP rfl) (avN)) (Ffce_F hr5) (.inr rfl) (bl_n) rfl rfl rfl)) ?_
   refine ck 9 [4,12,14] [] [130] [] [.hp 130 0 [] 3 0 0,I (r5.Year),I (r5.Month)] [some ⟨0,3,[enc_Date r5]⟩] 226 (by kernel_rfl) ?_
   obtain ⟨r6,hr6,h⟩:=bS h
   refine oq 242 (I (r6)) rfl (e_callV rfl rfl (call_P rfl rfl rfl (avS (shP rfl) (avS (shP rfl) (avN))) (Ffch_F hr6) (.inr rfl) (bl_n) rfl rfl rfl)) ?_
   refine cq 1 [16] [.hp 1 0 [] 3 0 0] 258 ?_
   obtain ⟨r7,hr7,h⟩:=bS h
   refine oq 274 (I (r7.1)) rfl (e_callV rfl rfl (call_P rfl rfl rfl (avO (hd1 rfl (hd_hq (path:=[]) rfl rfl (ra_n))) (avS (shP rfl) (avN))) (Ffbx_F hr7) (.inr rfl) (bl_c rfl rfl rfl rfl (bl_n)) rfl rfl rfl)) ?_
   refine ck 6 [20] [] [130] [] [.agg [I (r5.Year),I (r5.Month),I ((w64 (r6 - r7.1)))]] [some ⟨0,3,[.agg [I (r5.Year),I (r5.Month),I ((w64 (r6 - r7.1)))]]⟩] 338 (by kernel_rfl) ?_
   obtain ⟨r8,hr8,h⟩:=bS h
   refine oq 354 (I (r8)) rfl (e_callV rfl rfl (call_P rfl rfl rfl (avS (shP rfl) (avN)) (Ffcf_F hr8) (.inr rfl) (bl_n) rfl rfl rfl)) ?_
   refine cq 2 [3] [I (r8)] 370 ?_
   exact rf [3] [1] (j4 _ (Option.some.inj h).symm :)
 · refine aq 1 ?_
   exact rf [3] [1] (j4 _ (Option.some.inj h).symm :)
theorem Ffbu_good {G : Go.Ln.Ground} : Good Try.prog G 22 Ffbu_ent:=good_T (fnOf_good (gl_c Ffbt_good (gl_c Ffbw_good (gl_c Ffce_good (gl_c Ffch_good (gl_c Ffbx_good (gl_c Ffcf_good (gl_n)))))))) agree_mk (Checked.mixed Try.checked) Try.func22 (n:=1) (m:=1) ⟨rfl,rfl,by decide⟩ (fun _=>⟨rfl,rfl⟩) (fun a r h=>Ffbu_run a r h)
def Ffca_A : (Int × Int)→List V:=cA I (oA I)
def Ffca_R (r : Int) : V × List V:=(I (r),[])
noncomputable def Ffca_ent : Ent:=entT [false,false] Ffca_A Ffca_R fun x=>Ffca x.1 x.2
theorem Ffca_F {a_1 : Int} {b_2 : Int} {r} (h : Ffca a_1 b_2=some r) : (Ffca_ent).F (Ffca_A (a_1,b_2))=some (Ffca_R r):=entT_F (cA_inj I_inj (oA_inj I_inj)) h
noncomputable def Ffca_c : Code:=bodyOf Try.f70
noncomputable def Ffca_E : Env:=mkE Try.prog []
def Ffca_Q (x : Int × Int) (r : Int) : St→Prop:=QF Ffca_E Try.f70 [false,false] (Ffca_A x) (Ffca_R r)
theorem Ffca_run (a_1 : Int) (b_2 : Int) (r : Int) (h : Ffca a_1 b_2=some r) : RunF Ffca_E Try.f70 [false,false] 0 (Ffca_A (a_1,b_2)) (Ffca_R r):=by
 show Run _ _ (Ffca_Q (a_1,b_2) r) [.code Ffca_c] _
 refine rin (n:=10) [(0,I (a_1)),(1,I (b_2))] [] 1 (by kernel_rfl) (by kernel_rfl) (by kernel_rfl) rfl ?_
 unfold Ffca at h
 refine cq 11 [7] [B ((decide (a_1 > b_2)))] 65 ?_
 refine sq h (fun h=>?_) (fun h=>?_)
 · refine cq 5 [4] [I (a_1)] 97 ?_
   obtain rfl:=Option.some.inj h
   exact s_ret rfl ⟨_,fin (vs:=[I (a_1)]) rfl (absE (absorb_plain rfl) (absEN)) rfl (ou_f (ou_f (ou_n))),kl_n⟩
 · refine aq 1 ?_
   refine cq 5 [4] [I (b_2)] 97 ?_
   obtain rfl:=Option.some.inj h
   exact s_ret rfl ⟨_,fin (vs:=[I (b_2)]) rfl (absE (absorb_plain rfl) (absEN)) rfl (ou_f (ou_f (ou_n))),kl_n⟩
theorem Ffca_good {G : Go.Ln.Ground} : Good Try.prog G 70 Ffca_ent:=good_T (fnOf_good (gl_n)) agree_mk (Checked.mixed Try.checked) Try.func70 (n:=2) (m:=0) ⟨rfl,rfl,by decide⟩ (fun _=>⟨rfl,rfl⟩) (fun a r h=>Ffca_run a.1 a.2 r h)
def Ffbs_A : (l1Cur × Int)→List V:=cA (upE encO_l1Cur) (oA I)
def Ffbs_R (r : Calendar × l1Cur) : V × List V:=(encO_Calendar r.1,[.uptr (encI_l1Cur r.2)])
noncomputable def Ffbs_ent : Ent:=entT [true,false] Ffbs_A Ffbs_R fun x=>Ffbs x.1 x.2
theorem Ffbs_F {c_3 : l1Cur} {near_4 : Int} {r} (h : Ffbs c_3 near_4=some r) : (Ffbs_ent).F (Ffbs_A (c_3,near_4))=some (Ffbs_R r):=entT_F (cA_inj (uptr_inj encO_l1Cur_inj) (oA_inj I_inj)) h
noncomputable def Ffbs_c : Code:=bodyOf Try.f68
noncomputable abbrev Ffbs_ka : Code:=cL (cL (cR (cL (cR (cR (cR (cR Ffbs_c)))))))
noncomputable abbrev Ffbs_kb : Code:=cL (cL (cR (cL (cR (cR (cR (cL (cR (cL (cR (cR Ffbs_c)))))))))))
noncomputable def Ffbs_E : Env:=mkE Try.prog [(48,Ffbx_ent),(70,Ffca_ent),(24,Ffbw_ent)]
def Ffbs_Q (x : l1Cur × Int) (r : Calendar × l1Cur) : St→Prop:=QF Ffbs_E Try.f68 [true,false] (Ffbs_A x) (Ffbs_R r)
theorem Ffbs_la_run (c_3 : l1Cur) (near_4 : Int) (u4 : Int × (List Int) × Int × Int × (List Int)) {Q : St→Prop} {K : List It} (hK : noD K=true) : ∀ (x7 : Int × Int × (List Int) × Int × Int × (List Int)) (y : (Calendar × l1Cur) ⊕ ((List Int) × Int × Int × (List Int))),Ffbs_la c_3 near_4 u4 x7=some y→(∀ r',y=.inl r'→∀ st,Ffbs_Q (c_3,near_4) r' st→Q st)→(∀ u : (List Int) × Int × Int × (List Int),y=.inr u→Run Ffbs_E 1 Q K (sT 57 [(4,.hp 2 0 [] 2 0 0),(5,.hp 3 0 [] 2 0 0)] [⟨0,3,[.agg [.isl false ((u.1).map (V.int .u8)),I (u.2.1),.int .u64 (u.2.2.1)]]⟩,⟨0,2,[.agg [.usl 1 (([]).map I),.usl 1 (([]).map I)]]⟩,⟨0,2,[.agg [.usl 1 ((u4.2.2.2.2).map I),.usl 1 ((u.2.2.2).map I)]]⟩] 4))→Run Ffbs_E 1 Q (.code Ffbs_ka :: .lp Ffbs_ka :: .blk 3 :: K) (sT 57 [(0,.hp 1 0 [] 3 0 0),(4,.hp 2 0 [] 2 0 0),(5,.hp 3 0 [] 2 0 0),(7,I (x7.1)),(8,I (x7.2.1))] [⟨0,3,[.agg [.isl false ((x7.2.2.1).map (V.int .u8)),I (x7.2.2.2.1),.int .u64 (x7.2.2.2.2.1)]]⟩,⟨0,2,[.agg [.usl 1 (([]).map I),.usl 1 (([]).map I)]]⟩,⟨0,2,[.agg [.usl 1 ((u4.2.2.2.2).map I),.usl 1 ((x7.2.2.2.2.2).map I)]]⟩] 4):=by
 refine fix_indP (Ffbs_la_fin c_3 near_4 u4) ?_
 intro self ih x7 y h hr hn
 unfold Ffbs_la_F at h
 refine cq 6 [39] [B ((decide (x7.2.1 > 0)))] 52 ?_
 obtain ⟨u8,hu8,h⟩:=lJ h
 have j8 : Run Ffbs_E 1 Q (.code (cR (cL Ffbs_ka)) :: .code (cR Ffbs_ka) :: .lp Ffbs_ka :: .blk 3 :: K) (sT 57 [(0,.hp 1 0 [] 3 0 0),(4,.hp 2 0 [] 2 0 0),(5,.hp 3 0 [] 2 0 0),(7,I (x7.1)),(8,I (x7.2.1)),(42,B (u8))] [⟨0,3,[.agg [.isl false ((x7.2.2.1).map (V.int .u8)),I (x7.2.2.2.1),.int .u64 (x7.2.2.2.2.1)]]⟩,⟨0,2,[.agg [.usl 1 (([]).map I),.usl 1 (([]).map I)]]⟩,⟨0,2,[.agg [.usl 1 ((u4.2.2.2.2).map I),.usl 1 ((x7.2.2.2.2.2).map I)]]⟩] 4):=by
   refine sq h (fun h=>?_) (fun h=>?_)
   · refine aq 1 ?_
     refine cq 7 [46,47] [.hs 3 0 [(0,1)] 1 0 ((x7.2.2.2.2.2).map I).length,I (x7.1)] 52 ?_
     refine oq 68 (.hs 52 0 [] 1 0 1) rfl (e_buildSlice rfl (bs_mk (f:=I) (xs:=[]) (z:=I (0)) (es:=[I (x7.1)]) (ws:=[I (x7.1)]) rfl rfl rfl (by decide) rfl (abs_each_plain rfl) rfl)) ?_
     obtain ⟨a9,ha9,h⟩:=bS h
     refine oq 84 (.hs 68 0 [] 1 0 ((a9).map I).length) rfl (e_append rfl rfl rfl rfl rfl (ap_hsM (path:=[(0,1)]) (f:=I) (xs:=x7.2.2.2.2.2) (ys:=[x7.1]) rfl rfl (take_hs rfl rfl rfl) rfl rfl rfl (ra_c rfl rfl (ra_n)) rfl (by decide) I_cells ha9 rfl (to_c (path:=[]) (i:=0) (k:=1) (e':=.agg [.usl 1 ((u4.2.2.2.2).map I),.dead]) (es2':=[.agg [.usl 1 ((u4.2.2.2.2).map I),.dead]]) (ra_n) rfl rfl rfl (sr_n)))) ?_
     refine cq 1 [50] [.hp 3 0 [] 2 0 1] 100 ?_
     refine o0 116 rfl rfl (e_st rfl rfl (st_at (path:=[]) (pl:=false) (e':=.agg [.usl 1 ((u4.2.2.2.2).map I),.usl 1 ((a9).map I)]) (es2':=[.agg [.usl 1 ((u4.2.2.2.2).map I),.usl 1 ((a9).map I)]]) rfl (abs1 rfl (abs_hs rfl rfl)) rfl rfl rfl (ra_n) rfl rfl rfl rfl rfl (sr_n) 1 rfl)) ?_
     refine cq 5 [52,53] [I ((w64 (x7.1 + 1))),.hp 1 0 [] 3 0 0] 164 ?_
     obtain ⟨r10,hr10,h⟩:=bS h
     refine oq 180 (I (r10.1)) rfl (e_callV rfl rfl (call_P rfl rfl rfl (avO (hd1 rfl (hd_hq (path:=[]) rfl rfl (ra_n))) (avS (shP rfl) (avN))) (Ffbx_F hr10) (.inr rfl) (bl_c rfl rfl rfl rfl (bl_n)) rfl rfl rfl)) ?_
     refine cq 9 [7,8] [I ((w64 ((w64 (x7.1 + 1)) + r10.1))),I ((w64 (x7.2.1 - 1)))] 260 ?_
     refine s_lp ?_
     exact rf [0,4,5,7,8] [1,2,3] (ih _ _ h hr hn :)
   · refine aq 1 ?_
     exact rf [4,5] [1,2,3] (hn _ (Option.some.inj h).symm :) (hk:=hK)
 replace h:=hu8
 clear hu8
 refine sp 39 h rfl (fun h=>?_) (fun h=>?_)
 · refine cq 4 [42] [B ((decide (x7.1 ≤ 36524)))] 100 ?_
   subst h
   exact rf [0,4,5,7,8,42] [1,2,3] (j8 :)
 · refine cq 4 [42] [B (false)] 100 ?_
   subst h
   exact rf [0,4,5,7,8,42] [1,2,3] (j8 :)
theorem Ffbs_lb_run (c_3 : l1Cur) (near_4 : Int)  {Q : St→Prop} {K : List It} (hK : noD K=true) : ∀ (x13 : Int × (List Int) × Int × Int × (List Int)) (y : (Calendar × l1Cur) ⊕ ((List Int) × Int × Int × (List Int))),Ffbs_lb c_3 near_4 x13=some y→(∀ r',y=.inl r'→∀ st,Ffbs_Q (c_3,near_4) r' st→Q st)→(∀ u : (List Int) × Int × Int × (List Int),y=.inr u→Run Ffbs_E 1 Q K (sT 57 [(0,.hp 1 0 [] 3 0 0),(1,I (near_4)),(4,.hp 2 0 [] 2 0 0),(5,.hp 3 0 [] 2 0 0)] [⟨0,3,[.agg [.isl false ((u.1).map (V.int .u8)),I (u.2.1),.int .u64 (u.2.2.1)]]⟩,⟨0,2,[.agg [.usl 1 (([]).map I),.usl 1 (([]).map I)]]⟩,⟨0,2,[.agg [.usl 1 ((u.2.2.2).map I),.usl 1 (([]).map I)]]⟩] 4))→Run Ffbs_E 1 Q (.code Ffbs_kb :: .lp Ffbs_kb :: .blk 1 :: K) (sT 57 [(0,.hp 1 0 [] 3 0 0),(1,I (near_4)),(4,.hp 2 0 [] 2 0 0),(5,.hp 3 0 [] 2 0 0),(6,I (x13.1))] [⟨0,3,[.agg [.isl false ((x13.2.1).map (V.int .u8)),I (x13.2.2.1),.int .u64 (x13.2.2.2.1)]]⟩,⟨0,2,[.agg [.usl 1 (([]).map I),.usl 1 (([]).map I)]]⟩,⟨0,2,[.agg [.usl 1 ((x13.2.2.2.2).map I),.usl 1 (([]).map I)]]⟩] 4):=by
 refine fix_indP (Ffbs_lb_fin c_3 near_4) ?_
 intro self ih x13 y h hr hn
 unfold Ffbs_lb_F at h
 refine cq 6 [21] [B ((decide (x13.1 < 6)))] 36 ?_
 refine sq h (fun h=>?_) (fun h=>?_)
 · refine aq 1 ?_
   refine cq 5 [24] [.hp 1 0 [] 3 0 0] 52 ?_
   obtain ⟨r14,hr14,h⟩:=bS h
   refine oq 68 (B (r14.1)) rfl (e_callV rfl rfl (call_P rfl rfl rfl (avO (hd1 rfl (hd_hq (path:=[]) rfl rfl (ra_n))) (avS (shP rfl) (avN))) (Ffbw_F hr14) (.inr rfl) (bl_c rfl rfl rfl rfl (bl_n)) rfl rfl rfl)) ?_
   refine aq 1 ?_
   obtain ⟨y15,hy15,hy151,hy152⟩:=bL h
   have j15 : ∀ u15,y15=.inr u15→Run Ffbs_E 1 Q (.blk 2 :: .code (cR (cR Ffbs_kb)) :: .lp Ffbs_kb :: .blk 1 :: K) (sT 57 [(0,.hp 1 0 [] 3 0 0),(1,I (near_4)),(4,.hp 2 0 [] 2 0 0),(5,.hp 3 0 [] 2 0 0),(6,I (x13.1))] [⟨0,3,[encI_l1Cur r14.2]⟩,⟨0,2,[.agg [.usl 1 (([]).map I),.usl 1 (([]).map I)]]⟩,⟨0,2,[.agg [.usl 1 ((u15).map I),.usl 1 (([]).map I)]]⟩] 4):=by
     intro u15 hu
     replace h:=hy152 u15 hu
     refine cq 6 [6] [I ((w64 (x13.1 + 1)))] 52 ?_
     refine s_lp ?_
     exact rf [0,1,4,5,6] [1,2,3] (ih _ _ h hr hn :)
   have r15 : ∀ r',y15=.inl r'→∀ st,Ffbs_Q (c_3,near_4) r' st→Q st:=fun r' e st hq=>hr r' (hy151 r' e) st hq
   replace h:=hy15
   refine sq h (fun h=>?_) (fun h=>?_)
   · refine cq 4 [27,28] [.hs 3 0 [(0,0)] 1 0 ((x13.2.2.2.2).map I).length,I (x13.1)] 116 ?_
     refine oq 132 (.hs 116 0 [] 1 0 1) rfl (e_buildSlice rfl (bs_mk (f:=I) (xs:=[]) (z:=I (0)) (es:=[I (x13.1)]) (ws:=[I (x13.1)]) rfl rfl rfl (by decide) rfl (abs_each_plain rfl) rfl)) ?_
     obtain ⟨a16,ha16,h⟩:=bS h
     refine oq 148 (.hs 132 0 [] 1 0 ((a16).map I).length) rfl (e_append rfl rfl rfl rfl rfl (ap_hsM (path:=[(0,0)]) (f:=I) (xs:=x13.2.2.2.2) (ys:=[x13.1]) rfl rfl (take_hs rfl rfl rfl) rfl rfl rfl (ra_c rfl rfl (ra_n)) rfl (by decide) I_cells ha16 rfl (to_c (path:=[]) (i:=0) (k:=0) (e':=.agg [.dead,.usl 1 (([]).map I)]) (es2':=[.agg [.dead,.usl 1 (([]).map I)]]) (ra_n) rfl rfl rfl (sr_n)))) ?_
     refine cq 1 [31] [.hp 3 0 [] 2 0 0] 164 ?_
     refine o0 180 rfl rfl (e_st rfl rfl (st_at (path:=[]) (pl:=false) (e':=.agg [.usl 1 ((a16).map I),.usl 1 (([]).map I)]) (es2':=[.agg [.usl 1 ((a16).map I),.usl 1 (([]).map I)]]) rfl (abs1 rfl (abs_hs rfl rfl)) rfl rfl rfl (ra_n) rfl rfl rfl rfl rfl (sr_n) 1 rfl)) ?_
     refine aq 1 ?_
     exact rf [0,1,4,5,6] [1,2,3] (j15 _ (Option.some.inj h).symm :)
   · refine aq 1 ?_
     exact rf [0,1,4,5,6] [1,2,3] (j15 _ (Option.some.inj h).symm :)
 · refine aq 1 ?_
   exact rf [0,1,4,5] [1,2,3] (hn _ (Option.some.inj h).symm :) (hk:=hK)
theorem Ffbs_run (c_3 : l1Cur) (near_4 : Int) (r : Calendar × l1Cur) (h : Ffbs c_3 near_4=some r) : RunF Ffbs_E Try.f68 [true,false] 1 (Ffbs_A (c_3,near_4)) (Ffbs_R r):=by
 show Run _ _ (Ffbs_Q (c_3,near_4) r) [.code Ffbs_c] _
 refine rin (n:=57) [(0,.hp 1 0 [] 3 0 0),(1,I (near_4))] [(1,some ⟨0,3,[encI_l1Cur c_3]⟩)] 2 (by kernel_rfl) (by kernel_rfl) (by kernel_rfl) rfl ?_
 unfold Ffbs at h
 refine ck 3 [4] [] [2] [] [.hp 2 0 [] 2 0 0] [some ⟨0,2,[.agg [.isl true [],.isl true []]]⟩] 18 (by kernel_rfl) ?_
 refine run_row 2 [.agg [.usl 1 (([]).map I),.usl 1 (([]).map I)]] rfl rfl (cvs_c (cv_agg (cvs_c (.nil _) (cvs_c (.nil _) (cvs_n)))) cvs_n) ?_
 refine ck 5 [5,9] [] [34] [] [.hp 34 0 [] 2 0 0,.agg [.isl true [],.isl true []]] [some ⟨0,2,[.agg [.isl true [],.isl true []]]⟩] 50 (by kernel_rfl) ?_
 refine run_row 34 [.agg [.usl 1 (([]).map I),.usl 1 (([]).map I)]] rfl rfl (cvs_c (cv_agg (cvs_c (.nil _) (cvs_c (.nil _) (cvs_n)))) cvs_n) ?_
 refine ck 1 [] [] [34] [] [] [some ⟨2,2,[.agg [.isl true [],.isl true []]]⟩] 66 (by kernel_rfl) ?_
 refine run_row 34 [.agg [.usl 1 (([]).map I),.usl 1 (([]).map I)]] rfl rfl (cvs_c (cv_agg (cvs_c (.nil _) (cvs_c (.nil _) (cvs_n)))) cvs_n) ?_
 refine cq 5 [10] [.hp 1 0 [] 3 0 0] 82 ?_
 obtain ⟨r3,hr3,h⟩:=bS h
 refine oq 98 (I (r3.1)) rfl (e_callV rfl rfl (call_P rfl rfl rfl (avO (hd1 rfl (hd_hq (path:=[]) rfl rfl (ra_n))) (avS (shP rfl) (avN))) (Ffbx_F hr3) (.inr rfl) (bl_c rfl rfl rfl rfl (bl_n)) rfl rfl rfl)) ?_
 refine cq 7 [14] [B ((r3.1 == 0))] 130 ?_
 obtain ⟨y4,hy4,hy41,hy42⟩:=bJ h
 have j4 : ∀ u4,y4=.inr u4→Run Ffbs_E 1 (Ffbs_Q (c_3,near_4) r) (.blk 0 :: .code (cR (cR (cR Ffbs_c))) :: []) (sT 57 [(0,.hp 1 0 [] 3 0 0),(1,I (u4.1)),(4,.hp 2 0 [] 2 0 0),(5,.hp 3 0 [] 2 0 0)] [⟨0,3,[.agg [.isl false ((u4.2.1).map (V.int .u8)),I (u4.2.2.1),.int .u64 (u4.2.2.2.1)]]⟩,⟨0,2,[.agg [.usl 1 (([]).map I),.usl 1 (([]).map I)]]⟩,⟨0,2,[.agg [.usl 1 ((u4.2.2.2.2).map I),.usl 1 (([]).map I)]]⟩] 4):=by
   intro u4 hu
   replace h:=hy42 u4 hu
   refine cq 5 [33] [I ((w64 (u4.1 - 8)))] 36 ?_
   obtain ⟨r5,hr5,h⟩:=bS h
   refine oq 52 (I (r5)) rfl (e_callV rfl rfl (call_P rfl rfl rfl (avS (shP rfl) (avS (shP rfl) (avN))) (Ffca_F hr5) (.inr rfl) (bl_n) rfl rfl rfl)) ?_
   refine cq 6 [7,35] [I (r5),.hp 1 0 [] 3 0 0] 84 ?_
   obtain ⟨r6,hr6,h⟩:=bS h
   refine oq 100 (I (r6.1)) rfl (e_callV rfl rfl (call_P rfl rfl rfl (avO (hd1 rfl (hd_hq (path:=[]) rfl rfl (ra_n))) (avS (shP rfl) (avN))) (Ffbx_F hr6) (.inr rfl) (bl_c rfl rfl rfl rfl (bl_n)) rfl rfl rfl)) ?_
   refine cq 3 [8] [I (r6.1)] 116 ?_
   obtain ⟨y11,hy11,hy111,hy112⟩:=bJ h
   refine s_loop rfl ?_
   refine rf [0,4,5,7,8] [1,2,3] (Ffbs_la_run c_3 near_4 u4 rfl (r5,r6.1,r6.2.f_code,r6.2.f_at,r6.2.f_seed,[]) _ hy11 (fun r' e st hq=>by rw [hy111 r' e] at hq; exact hq) fun u11 hu=>?_)
   replace h:=hy112 u11 hu
   refine cq 3 [56] [.agg [.hs 3 0 [(0,0)] 1 0 ((u4.2.2.2.2).map I).length,.hs 3 0 [(0,1)] 1 0 ((u11.2.2.2).map I).length]] 20 ?_
   refine o0 36 rfl rfl (e_st rfl rfl (st_at (path:=[]) (pl:=false) (e':=.agg [.usl 1 ((u4.2.2.2.2).map I),.usl 1 ((u11.2.2.2).map I)]) (es2':=[.agg [.usl 1 ((u4.2.2.2.2).map I),.usl 1 ((u11.2.2.2).map I)]]) rfl (absA (absC (abs_at (path:=[(0,0)]) rfl rfl (ra_c rfl rfl (ra_n)) rfl (to_c (path:=[]) (i:=0) (k:=0) (e':=.agg [.dead,.usl 1 ((u11.2.2.2).map I)]) (es2':=[.agg [.dead,.usl 1 ((u11.2.2.2).map I)]]) (ra_n) rfl rfl rfl (sr_n))) (absC (abs_at (path:=[(0,1)]) rfl rfl (ra_c rfl rfl (ra_n)) rfl (to_c (path:=[]) (i:=0) (k:=1) (e':=.agg [.dead,.dead]) (es2':=[.agg [.dead,.dead]]) (ra_n) rfl rfl rfl (sr_n))) (absN)))) rfl rfl rfl (ra_n) rfl rfl rfl rfl rfl (sr_n) 1 rfl)) ?_
   refine aq 1 ?_
   obtain rfl:=Option.some.inj h
   exact s_ret rfl ⟨_,fin (vs:=[.agg [.hs 2 1 [(0,0)] 1 0 ((u4.2.2.2.2).map I).length,.hs 2 1 [(0,1)] 1 0 ((u11.2.2.2).map I).length]]) (rs_c (rs_cell rfl rfl rfl) (rs_n)) (absE (absA (absC (abs_at (path:=[(0,0)]) rfl rfl (ra_c rfl rfl (ra_n)) rfl (to_c (path:=[]) (i:=0) (k:=0) (e':=.agg [.dead,.usl 1 ((u11.2.2.2).map I)]) (es2':=[.agg [.dead,.usl 1 ((u11.2.2.2).map I)]]) (ra_n) rfl rfl rfl (sr_n))) (absC (abs_at (path:=[(0,1)]) rfl rfl (ra_c rfl rfl (ra_n)) rfl (to_c (path:=[]) (i:=0) (k:=1) (e':=.agg [.dead,.dead]) (es2':=[.agg [.dead,.dead]]) (ra_n) rfl rfl rfl (sr_n))) (absN)))) (absEN)) rfl (ou_1 rfl (oc_hp rfl rfl) (ou_f (ou_n))),kl_c (kl_n)⟩
 have r4 : ∀ r',y4=.inl r'→∀ st,Ffbs_Q (c_3,near_4) r' st→(Ffbs_Q (c_3,near_4) r) st:=fun r' e st hq=>by rw [hy41 r' e] at hq; exact hq
 replace h:=hy4
 refine sq h (fun h=>?_) (fun h=>?_)
 · refine aq 1 ?_
   refine oq 146 (.hs 130 0 [] 1 0 2) rfl (e_buildSlice rfl (bs_mk (f:=I) (xs:=[]) (z:=I (0)) (es:=[I (4),I (5)]) (ws:=[I (4),I (5)]) rfl rfl rfl (by decide) rfl (abs_each_plain rfl) rfl)) ?_
   refine cq 1 [17] [.hp 34 0 [] 2 0 0] 162 ?_
   refine o0 178 rfl rfl (e_st rfl rfl (st_at (path:=[]) (pl:=false) (e':=.agg [.usl 1 (([4,5]).map I),.usl 1 (([]).map I)]) (es2':=[.agg [.usl 1 (([4,5]).map I),.usl 1 (([]).map I)]]) rfl (abs1 rfl (abs_hs (k:=2) (es:=[I (4),I (5)]) rfl rfl)) rfl rfl rfl (ra_n) rfl rfl rfl rfl rfl (sr_n) 4 rfl)) ?_
   refine aq 1 ?_
   exact rf [0,1,4,5] [1,2,34] (j4 _ (Option.some.inj h).symm :)
 · refine cq 5 [18] [B ((r3.1 == 1))] 162 ?_
   obtain ⟨y12,hy12,hy121,hy122⟩:=bL h
   have j12 : ∀ u12,y12=.inr u12→Run Ffbs_E 1 (Ffbs_Q (c_3,near_4) r) (.blk 0 :: .code (cR (cR (cR Ffbs_c))) :: []) (sT 57 [(0,.hp 1 0 [] 3 0 0),(1,I (near_4)),(4,.hp 2 0 [] 2 0 0),(5,.hp 3 0 [] 2 0 0)] [⟨0,3,[.agg [.isl false ((u12.1).map (V.int .u8)),I (u12.2.1),.int .u64 (u12.2.2.1)]]⟩,⟨0,2,[.agg [.usl 1 (([]).map I),.usl 1 (([]).map I)]]⟩,⟨0,2,[.agg [.usl 1 ((u12.2.2.2).map I),.usl 1 (([]).map I)]]⟩] 4):=by
     intro u12 hu
     replace h:=hy122 u12 hu
     exact rf [0,1,4,5] [1,2,3] (j4 _ (Option.some.inj h).symm :)
   have r12 : ∀ r',y12=.inl r'→∀ st,Ffbs_Q (c_3,near_4) r' st→(Ffbs_Q (c_3,near_4) r) st:=fun r' e st hq=>r4 r' (hy121 r' e) st hq
   replace h:=hy12
   refine sq h (fun h=>?_) (fun h=>?_)
   · refine cq 5 [6] [I (0)] 178 ?_
     obtain ⟨y17,hy17,hy171,hy172⟩:=bL h
     refine s_loop rfl ?_
     refine rf [0,1,4,5,6] [1,2,34] (Ffbs_lb_run c_3 near_4 rfl (0,r3.2.f_code,r3.2.f_at,r3.2.f_seed,[]) _ hy17 (fun r' e st hq=>r12 r' (hy171 r' e) st hq) fun u17 hu=>?_)
     replace h:=hy172 u17 hu
     exact rf [0,1,4,5] [1,2,3] (j12 _ (Option.some.inj h).symm :)
   · refine aq 1 ?_
     refine oq 178 (.hs 162 0 [] 1 0 2) rfl (e_buildSlice rfl (bs_mk (f:=I) (xs:=[]) (z:=I (0)) (es:=[I (5),I (6)]) (ws:=[I (5),I (6)]) rfl rfl rfl (by decide) rfl (abs_each_plain rfl) rfl)) ?_
     refine cq 1 [13] [.hp 34 0 [] 2 0 0] 194 ?_
     refine o0 210 rfl rfl (e_st rfl rfl (st_at (path:=[]) (pl:=false) (e':=.agg [.usl 1 (([5,6]).map I),.usl 1 (([]).map I)]) (es2':=[.agg [.usl 1 (([5,6]).map I),.usl 1 (([]).map I)]]) rfl (abs1 rfl (abs_hs (k:=2) (es:=[I (5),I (6)]) rfl rfl)) rfl rfl rfl (ra_n) rfl rfl rfl rfl rfl (sr_n) 4 rfl)) ?_
     refine aq 1 ?_
     exact rf [0,1,4,5] [1,2,34] (j12 _ (Option.some.inj h).symm :)
theorem Ffbs_good {G : Go.Ln.Ground} : Good Try.prog G 68 Ffbs_ent:=good_T (fnOf_good (gl_c Ffbx_good (gl_c Ffca_good (gl_c Ffbw_good (gl_n))))) agree_mk (Checked.mixed Try.checked) Try.func68 (n:=2) (m:=1) ⟨rfl,rfl,by decide⟩ (fun _=>⟨rfl,rfl⟩) (fun a r h=>Ffbs_run a.1 a.2 r h)
def Ffbz_A : (Int × Int)→List V:=cA I (oA I)
def Ffbz_R (r : Int) : V × List V:=(I (r),[])
noncomputable def Ffbz_ent : Ent:=entT [false,false] Ffbz_A Ffbz_R fun x=>Ffbz x.1 x.2
theorem Ffbz_F {a_1 : Int} {b_2 : Int} {r} (h : Ffbz a_1 b_2=some r) : (Ffbz_ent).F (Ffbz_A (a_1,b_2))=some (Ffbz_R r):=entT_F (cA_inj I_inj (oA_inj I_inj)) h
noncomputable def Ffbz_c : Code:=bodyOf Try.f69
noncomputable def Ffbz_E : Env:=mkE Try.prog []
def Ffbz_Q (x : Int × Int) (r : Int) : St→Prop:=QF Ffbz_E Try.f69 [false,false] (Ffbz_A x) (Ffbz_R r)
theorem Ffbz_run (a_1 : Int) (b_2 : Int) (r : Int) (h : Ffbz a_1 b_2=some r) : RunF Ffbz_E Try.f69 [false,false] 0 (Ffbz_A (a_1,b_2)) (Ffbz_R r):=by
 show Run _ _ (Ffbz_Q (a_1,b_2) r) [.code Ffbz_c] _
 refine rin (n:=10) [(0,I (a_1)),(1,I (b_2))] [] 1 (by kernel_rfl) (by kernel_rfl) (by kernel_rfl) rfl ?_
 unfold Ffbz at h
 refine cq 11 [7] [B ((decide (a_1 < b_2)))] 65 ?_
 refine sq h (fun h=>?_) (fun h=>?_)
 · refine cq 5 [4] [I (a_1)] 97 ?_
   obtain rfl:=Option.some.inj h
   exact s_ret rfl ⟨_,fin (vs:=[I (a_1)]) rfl (absE (absorb_plain rfl) (absEN)) rfl (ou_f (ou_f (ou_n))),kl_n⟩
 · refine aq 1 ?_
   refine cq 5 [4] [I (b_2)] 97 ?_
   obtain rfl:=Option.some.inj h
   exact s_ret rfl ⟨_,fin (vs:=[I (b_2)]) rfl (absE (absorb_plain rfl) (absEN)) rfl (ou_f (ou_f (ou_n))),kl_n⟩
theorem Ffbz_good {G : Go.Ln.Ground} : Good Try.prog G 69 Ffbz_ent:=good_T (fnOf_good (gl_n)) agree_mk (Checked.mixed Try.checked) Try.func69 (n:=2) (m:=0) ⟨rfl,rfl,by decide⟩ (fun _=>⟨rfl,rfl⟩) (fun a r h=>Ffbz_run a.1 a.2 r h)
def Ffbq_A : (l1Cur × Int)→List V:=cA (upE encO_l1Cur) (oA I)
def Ffbq_R (r : Calendar × l1Cur) : V × List V:=(encO_Calendar r.1,[.uptr (encI_l1Cur r.2)])
noncomputable def Ffbq_ent : Ent:=entT [true,false] Ffbq_A Ffbq_R fun x=>Ffbq x.1 x.2
theorem Ffbq_F {c_3 : l1Cur} {near_4 : Int} {r} (h : Ffbq c_3 near_4=some r) : (Ffbq_ent).F (Ffbq_A (c_3,near_4))=some (Ffbq_R r):=entT_F (cA_inj (uptr_inj encO_l1Cur_inj) (oA_inj I_inj)) h
noncomputable def Ffbq_c : Code:=bodyOf Try.f50
noncomputable abbrev Ffbq_ka : Code:=cL (cL (cR (cR (cL (cR (cR (cR (cR (cR (cR (cR (cL (cR (cL (cR (cR Ffbq_c))))))))))))))))
noncomputable def Ffbq_E : Env:=mkE Try.prog [(68,Ffbs_ent),(48,Ffbx_ent),(23,Ffbp_ent),(70,Ffca_ent),(69,Ffbz_ent)]
def Ffbq_Q (x : l1Cur × Int) (r : Calendar × l1Cur) : St→Prop:=QF Ffbq_E Try.f50 [true,false] (Ffbq_A x) (Ffbq_R r)
theorem Ffbq_la_run (c_3 : l1Cur) (near_4 : Int) (r3 : Calendar × l1Cur) {Q : St→Prop} {K : List It} (hK : noD K=true) : ∀ (x13 : Int × (List Int) × Int × Int × (List Int)) (y : (Calendar × l1Cur) ⊕ ((List Int) × Int × Int × (List Int))),Ffbq_la c_3 near_4 r3 x13=some y→(∀ r',y=.inl r'→∀ st,Ffbq_Q (c_3,near_4) r' st→Q st)→(∀ u : (List Int) × Int × Int × (List Int),y=.inr u→Run Ffbq_E 1 Q K (sT 59 [(4,.hp 2 0 [] 2 0 0),(5,.hp 3 0 [] 2 0 0)] [⟨0,3,[.agg [.isl false ((u.1).map (V.int .u8)),I (u.2.1),.int .u64 (u.2.2.1)]]⟩,⟨0,2,[.agg [.usl 1 (([]).map I),.usl 1 (([]).map I)]]⟩,⟨0,2,[.agg [.usl 1 ((r3.1.Weekend).map I),.usl 1 ((u.2.2.2).map I)]]⟩] 4))→Run Ffbq_E 1 Q (.code Ffbq_ka :: .lp Ffbq_ka :: .blk 1 :: K) (sT 59 [(0,.hp 1 0 [] 3 0 0),(1,I (near_4)),(4,.hp 2 0 [] 2 0 0),(5,.hp 3 0 [] 2 0 0),(6,I (x13.1))] [⟨0,3,[.agg [.isl false ((x13.2.1).map (V.int .u8)),I (x13.2.2.1),.int .u64 (x13.2.2.2.1)]]⟩,⟨0,2,[.agg [.usl 1 (([]).map I),.usl 1 (([]).map I)]]⟩,⟨0,2,[.agg [.usl 1 ((r3.1.Weekend).map I),.usl 1 ((x13.2.2.2.2).map I)]]⟩] 4):=by
 refine fix_indP (Ffbq_la_fin c_3 near_4 r3) ?_
 intro self ih x13 y h hr hn
 unfold Ffbq_la_F at h
 refine cq 5 [40,41] [I (x13.1),.hp 1 0 [] 3 0 0] 36 ?_
 obtain ⟨r14,hr14,h⟩:=bS h
 refine oq 52 (I (r14.1)) rfl (e_callV rfl rfl (call_P rfl rfl rfl (avO (hd1 rfl (hd_hq (path:=[]) rfl rfl (ra_n))) (avS (shP rfl) (avN))) (Ffbx_F hr14) (.inr rfl) (bl_c rfl rfl rfl rfl (bl_n)) rfl rfl rfl)) ?_
 refine cq 3 [44] [B ((decide (x13.1 < (w64 (40 + r14.1)))))] 84 ?_
 refine sq h (fun h=>?_) (fun h=>?_)
 · refine aq 1 ?_
   refine aq 2 ?_
   refine s_draw [0,1,0,4,12,28,0,124,252,511,1023,2047] rfl (by decide +kernel) ?_
   refine dq [3] [] (.hp 3 0 [] 2 0 1) rfl (e_fieldAddr rfl rfl rfl) ?_
   refine dq [3] [] (.hs 3 0 [(0,1)] 1 0 ((x13.2.2.2.2).map I).length) rfl (e_ld rfl rfl) ?_
   refine dk 2 [50,49] [I ((w64 (near_4 - 20))),I (near_4)] ?_
   obtain ⟨r15,hr15,h⟩:=bS h
   refine dq [] [] (I (r15)) rfl (e_callV rfl rfl (call_P rfl rfl rfl (avS (shP rfl) (avS (shP rfl) (avN))) (Ffca_F hr15) (.inr rfl) (bl_n) rfl rfl rfl)) ?_ (w_callO rfl rfl rfl rfl (avS (shP rfl) (avS (shP rfl) (avN))) (Ffca_F hr15) (.inr rfl) rfl)
   obtain ⟨r16,hr16,h⟩:=bS h
   refine dq [] [] (I (r16)) rfl (e_callV rfl rfl (call_P rfl rfl rfl (avS (shP rfl) (avS (shP rfl) (avN))) (Ffbz_F hr16) (.inr rfl) (bl_n) rfl rfl rfl)) ?_ (w_callO rfl rfl rfl rfl (avS (shP rfl) (avS (shP rfl) (avN))) (Ffbz_F hr16) (.inr rfl) rfl)
   refine dk 2 [54,53] [I ((w64 (r16 + x13.1))),I (x13.1)] ?_
   refine dq [] [] (.hs 212 0 [] 1 0 1) rfl (e_buildSlice rfl (bs_mk (f:=I) (xs:=[]) (z:=I (0)) (es:=[I ((w64 (r16 + x13.1)))]) (ws:=[I ((w64 (r16 + x13.1)))]) rfl rfl rfl (by decide) rfl (abs_each_plain rfl) rfl)) ?_
   obtain ⟨a17,ha17,h⟩:=bS h
   refine dq [3,212] [3] (.hs 228 0 [] 1 0 ((a17).map I).length) rfl (e_append rfl rfl rfl rfl rfl (ap_hsM (path:=[(0,1)]) (f:=I) (xs:=x13.2.2.2.2) (ys:=[(w64 (r16 + x13.1))]) rfl rfl (take_hs rfl rfl rfl) rfl rfl rfl (ra_c rfl rfl (ra_n)) rfl (by decide) I_cells ha17 rfl (to_c (path:=[]) (i:=0) (k:=1) (e':=.agg [.usl 1 ((r3.1.Weekend).map I),.dead]) (es2':=[.agg [.usl 1 ((r3.1.Weekend).map I),.dead]]) (ra_n) rfl rfl rfl (sr_n)))) ?_ (w_app rfl (aw_hs (path:=[]) (f:=I) (xs:=[(w64 (r16 + x13.1))]) rfl rfl (ra_n) I_flat rfl))
   refine dq [3] [] (.hp 3 0 [] 2 0 1) rfl (e_fieldAddr rfl rfl rfl) ?_
   refine dz [3,228] [3,228] rfl (e_st rfl rfl (st_at (path:=[]) (pl:=false) (e':=.agg [.usl 1 ((r3.1.Weekend).map I),.usl 1 ((a17).map I)]) (es2':=[.agg [.usl 1 ((r3.1.Weekend).map I),.usl 1 ((a17).map I)]]) rfl (abs1 rfl (abs_hs rfl rfl)) rfl rfl rfl (ra_n) rfl rfl rfl rfl rfl (sr_n) 1 rfl)) ?_
   refine de 276 rfl rfl ?_
   refine cq 6 [6] [I ((w64 (x13.1 + 1)))] 324 ?_
   refine s_lp ?_
   exact rf [0,1,4,5,6] [1,2,3] (ih _ _ h hr hn :)
 · refine aq 1 ?_
   exact rf [4,5] [1,2,3] (hn _ (Option.some.inj h).symm :) (hk:=hK)
theorem Ffbq_run (c_3 : l1Cur) (near_4 : Int) (r : Calendar × l1Cur) (h : Ffbq c_3 near_4=some r) : RunF Ffbq_E Try.f50 [true,false] 1 (Ffbq_A (c_3,near_4)) (Ffbq_R r):=by
 show Run _ _ (Ffbq_Q (c_3,near_4) r) [.code Ffbq_c] _
 refine rin (n:=59) [(0,.hp 1 0 [] 3 0 0),(1,I (near_4))] [(1,some ⟨0,3,[encI_l1Cur c_3]⟩)] 2 (by kernel_rfl) (by kernel_rfl) (by kernel_rfl) rfl ?_
 unfold Ffbq at h
 refine ck 3 [4] [] [2] [] [.hp 2 0 [] 2 0 0] [some ⟨0,2,[.agg [.isl true [],.isl true []]]⟩] 18 (by kernel_rfl) ?_
 refine run_row 2 [.agg [.usl 1 (([]).map I),.usl 1 (([]).map I)]] rfl rfl (cvs_c (cv_agg (cvs_c (.nil _) (cvs_c (.nil _) (cvs_n)))) cvs_n) ?_
 refine cq 5 [7,8] [.hp 1 0 [] 3 0 0,I (near_4)] 50 ?_
 obtain ⟨r3,hr3,h⟩:=bS h
 refine oq 66 (.agg [.hs 50 0 [] 1 0 ((r3.1.Weekend).map I).length,.hs 51 0 [] 1 0 ((r3.1.Holidays).map I).length]) rfl (e_callV rfl rfl (call_P rfl rfl rfl (avO (hd1 rfl (hd_hq (path:=[]) rfl rfl (ra_n))) (avS (shP rfl) (avN))) (Ffbs_F hr3) (.inr rfl) (bl_c rfl rfl rfl rfl (bl_n)) rfl rfl rfl)) ?_
 refine ck 1 [5] [] [66] [] [.hp 66 0 [] 2 0 0] [some ⟨0,2,[.agg [.isl true [],.isl true []]]⟩] 82 (by kernel_rfl) ?_
 refine run_row 66 [.agg [.usl 1 (([]).map I),.usl 1 (([]).map I)]] rfl rfl (cvs_c (cv_agg (cvs_c (.nil _) (cvs_c (.nil _) (cvs_n)))) cvs_n) ?_
 refine o0 98 rfl rfl (e_st rfl rfl (st_at (path:=[]) (pl:=false) (e':=encO_Calendar r3.1) (es2':=[encO_Calendar r3.1]) rfl (absA (absC (abs_hs rfl rfl) (absC (abs_hs rfl rfl) (absN)))) rfl rfl rfl (ra_n) rfl rfl rfl rfl rfl (sr_n) 2 rfl)) ?_
 refine cq 5 [10] [.hp 1 0 [] 3 0 0] 114 ?_
 obtain ⟨r4,hr4,h⟩:=bS h
 refine oq 130 (I (r4.1)) rfl (e_callV rfl rfl (call_P rfl rfl rfl (avO (hd1 rfl (hd_hq (path:=[]) rfl rfl (ra_n))) (avS (shP rfl) (avN))) (Ffbx_F hr4) (.inr rfl) (bl_c rfl rfl rfl rfl (bl_n)) rfl rfl rfl)) ?_
 refine cq 7 [12] [B ((r4.1 == 0))] 162 ?_
 obtain ⟨y5,hy5,hy51,hy52⟩:=bJ h
 have j5 : ∀ u5,y5=.inr u5→Run Ffbq_E 1 (Ffbq_Q (c_3,near_4) r) (.blk 0 :: .code (cR (cR (cR Ffbq_c))) :: []) (sT 59 [(4,.hp 2 0 [] 2 0 0),(5,.hp 3 0 [] 2 0 0)] [⟨0,3,[.agg [.isl false ((u5.1).map (V.int .u8)),I (u5.2.1),.int .u64 (u5.2.2.1)]]⟩,⟨0,2,[.agg [.usl 1 (([]).map I),.usl 1 (([]).map I)]]⟩,⟨0,2,[.agg [.usl 1 ((u5.2.2.2.1).map I),.usl 1 ((u5.2.2.2.2).map I)]]⟩] 4):=by
   intro u5 hu
   replace h:=hy52 u5 hu
   refine cq 4 [58] [.agg [.hs 3 0 [(0,0)] 1 0 ((u5.2.2.2.1).map I).length,.hs 3 0 [(0,1)] 1 0 ((u5.2.2.2.2).map I).length]] 20 ?_
   refine o0 36 rfl rfl (e_st rfl rfl (st_at (path:=[]) (pl:=false) (e':=.agg [.usl 1 ((u5.2.2.2.1).map I),.usl 1 ((u5.2.2.2.2).map I)]) (es2':=[.agg [.usl 1 ((u5.2.2.2.1).map I),.usl 1 ((u5.2.2.2.2).map I)]]) rfl (absA (absC (abs_at (path:=[(0,0)]) rfl rfl (ra_c rfl rfl (ra_n)) rfl (to_c (path:=[]) (i:=0) (k:=0) (e':=.agg [.dead,.usl 1 ((u5.2.2.2.2).map I)]) (es2':=[.agg [.dead,.usl 1 ((u5.2.2.2.2).map I)]]) (ra_n) rfl rfl rfl (sr_n))) (absC (abs_at (path:=[(0,1)]) rfl rfl (ra_c rfl rfl (ra_n)) rfl (to_c (path:=[]) (i:=0) (k:=1) (e':=.agg [.dead,.dead]) (es2':=[.agg [.dead,.dead]]) (ra_n) rfl rfl rfl (sr_n))) (absN)))) rfl rfl rfl (ra_n) rfl rfl rfl rfl rfl (sr_n) 1 rfl)) ?_
   refine aq 1 ?_
   obtain rfl:=Option.some.inj h
   exact s_ret rfl ⟨_,fin (vs:=[.agg [.hs 2 1 [(0,0)] 1 0 ((u5.2.2.2.1).map I).length,.hs 2 1 [(0,1)] 1 0 ((u5.2.2.2.2).map I).length]]) (rs_c (rs_cell rfl rfl rfl) (rs_n)) (absE (absA (absC (abs_at (path:=[(0,0)]) rfl rfl (ra_c rfl rfl (ra_n)) rfl (to_c (path:=[]) (i:=0) (k:=0) (e':=.agg [.dead,.usl 1 ((u5.2.2.2.2).map I)]) (es2':=[.agg [.dead,.usl 1 ((u5.2.2.2.2).map I)]]) (ra_n) rfl rfl rfl (sr_n))) (absC (abs_at (path:=[(0,1)]) rfl rfl (ra_c rfl rfl (ra_n)) rfl (to_c (path:=[]) (i:=0) (k:=1) (e':=.agg [.dead,.dead]) (es2':=[.agg [.dead,.dead]]) (ra_n) rfl rfl rfl (sr_n))) (absN)))) (absEN)) rfl (ou_1 rfl (oc_hp rfl rfl) (ou_f (ou_n))),kl_c (kl_n)⟩
 have r5 : ∀ r',y5=.inl r'→∀ st,Ffbq_Q (c_3,near_4) r' st→(Ffbq_Q (c_3,near_4) r) st:=fun r' e st hq=>by rw [hy51 r' e] at hq; exact hq
 replace h:=hy5
 refine sq h (fun h=>?_) (fun h=>?_)
 · refine s_draw [0,1,0,0,12,28,63,127,255] rfl (by decide +kernel) ?_
   refine dq [66] [] (.hp 66 0 [] 2 0 0) rfl (e_fieldAddr rfl rfl rfl) ?_
   refine dq [66] [] (.hs 66 2 [(0,0)] 1 0 ((r3.1.Weekend).map I).length) rfl (e_ld rfl rfl) ?_
   refine dk 1 [16] [.hp 1 0 [] 3 0 0] ?_
   refine dq [] [] (.hs 210 0 [] 1 0 3) rfl (e_buildSlice rfl (bs_mk (f:=I) (xs:=[]) (z:=I (0)) (es:=[I (6),I (7),I ((-1))]) (ws:=[I (6),I (7),I ((-1))]) rfl rfl rfl (by decide) rfl (abs_each_plain rfl) rfl)) ?_
   obtain ⟨r6,hr6,h⟩:=bS h
   refine dw [1,210] [1,210] (I (r6.1)) rfl (e_callV rfl rfl (call_D rfl rfl rfl rfl (avO (hd1 rfl (hd_hq (path:=[]) rfl rfl (ra_n))) (avS (sh1 rfl rfl (sh_hsM (f:=I) (g:=I) (xs:=[6,7,(-1)]) rfl rfl (imms_of I_imm))) (avN))) (Ffbp_F hr6) (bl_c rfl rfl rfl rfl (bl_n)) rfl rfl rfl)) ?_ (w_callD rfl rfl rfl rfl rfl rfl)
   refine dq [] [] (.hs 242 0 [] 1 0 1) rfl (e_buildSlice rfl (bs_mk (f:=I) (xs:=[]) (z:=I (0)) (es:=[I (r6.1)]) (ws:=[I (r6.1)]) rfl rfl rfl (by decide) rfl (abs_each_plain rfl) rfl)) ?_
   obtain ⟨a7,ha7,h⟩:=bS h
   refine dq [66,242] [66] (.hs 258 0 [] 1 0 ((a7).map I).length) rfl (e_append rfl rfl rfl rfl rfl (ap_hsM (path:=[(0,0)]) (f:=I) (xs:=r3.1.Weekend) (ys:=[r6.1]) rfl rfl (take_hs rfl rfl rfl) rfl rfl rfl (ra_c rfl rfl (ra_n)) rfl (by decide) I_cells ha7 rfl (to_c (path:=[]) (i:=0) (k:=0) (e':=.agg [.dead,.usl 1 ((r3.1.Holidays).map I)]) (es2':=[.agg [.dead,.usl 1 ((r3.1.Holidays).map I)]]) (ra_n) rfl rfl rfl (sr_n)))) ?_ (w_app rfl (aw_hs (path:=[]) (f:=I) (xs:=[r6.1]) rfl rfl (ra_n) I_flat rfl))
   refine dq [66] [] (.hp 66 0 [] 2 0 0) rfl (e_fieldAddr rfl rfl rfl) ?_
   refine dz [66,258] [66,258] rfl (e_st rfl rfl (st_at (path:=[]) (pl:=false) (e':=.agg [.usl 1 ((a7).map I),.usl 1 ((r3.1.Holidays).map I)]) (es2':=[.agg [.usl 1 ((a7).map I),.usl 1 ((r3.1.Holidays).map I)]]) rfl (abs1 rfl (abs_hs rfl rfl)) rfl rfl rfl (ra_n) rfl rfl rfl rfl rfl (sr_n) 3 rfl)) ?_
   refine de 306 rfl rfl ?_
   exact rf [4,5] [1,2,66] (j5 _ (Option.some.inj h).symm :)
 · refine cq 5 [22] [B ((r4.1 == 1))] 194 ?_
   obtain ⟨y8,hy8,hy81,hy82⟩:=bL h
   have j8 : ∀ u8,y8=.inr u8→Run Ffbq_E 1 (Ffbq_Q (c_3,near_4) r) (.blk 0 :: .code (cR (cR (cR Ffbq_c))) :: []) (sT 59 [(4,.hp 2 0 [] 2 0 0),(5,.hp 3 0 [] 2 0 0)] [⟨0,3,[.agg [.isl false ((u8.1).map (V.int .u8)),I (u8.2.1),.int .u64 (u8.2.2.1)]]⟩,⟨0,2,[.agg [.usl 1 (([]).map I),.usl 1 (([]).map I)]]⟩,⟨0,2,[.agg [.usl 1 ((u8.2.2.2.1).map I),.usl 1 ((u8.2.2.2.2).map I)]]⟩] 4):=by
     intro u8 hu
     replace h:=hy82 u8 hu
     exact rf [4,5] [1,2,3] (j5 _ (Option.some.inj h).symm :)
   have r8 : ∀ r',y8=.inl r'→∀ st,Ffbq_Q (c_3,near_4) r' st→(Ffbq_Q (c_3,near_4) r) st:=fun r' e st hq=>r5 r' (hy81 r' e) st hq
   replace h:=hy8
   refine sq h (fun h=>?_) (fun h=>?_)
   · refine s_draw [0,1,0,0,12,28,63,127,255] rfl (by decide +kernel) ?_
     refine dq [66] [] (.hp 66 0 [] 2 0 1) rfl (e_fieldAddr rfl rfl rfl) ?_
     refine dq [66] [] (.hs 66 2 [(0,1)] 1 0 ((r3.1.Holidays).map I).length) rfl (e_ld rfl rfl) ?_
     refine dk 1 [26] [.hp 1 0 [] 3 0 0] ?_
     refine dq [] [] (.hs 242 0 [] 1 0 3) rfl (e_buildSlice rfl (bs_mk (f:=I) (xs:=[]) (z:=I (0)) (es:=[I (36524),I (36525),I (0)]) (ws:=[I (36524),I (36525),I (0)]) rfl rfl rfl (by decide) rfl (abs_each_plain rfl) rfl)) ?_
     obtain ⟨r9,hr9,h⟩:=bS h
     refine dw [1,242] [1,242] (I (r9.1)) rfl (e_callV rfl rfl (call_D rfl rfl rfl rfl (avO (hd1 rfl (hd_hq (path:=[]) rfl rfl (ra_n))) (avS (sh1 rfl rfl (sh_hsM (f:=I) (g:=I) (xs:=[36524,36525,0]) rfl rfl (imms_of I_imm))) (avN))) (Ffbp_F hr9) (bl_c rfl rfl rfl rfl (bl_n)) rfl rfl rfl)) ?_ (w_callD rfl rfl rfl rfl rfl rfl)
     refine dq [] [] (.hs 274 0 [] 1 0 1) rfl (e_buildSlice rfl (bs_mk (f:=I) (xs:=[]) (z:=I (0)) (es:=[I (r9.1)]) (ws:=[I (r9.1)]) rfl rfl rfl (by decide) rfl (abs_each_plain rfl) rfl)) ?_
     obtain ⟨a10,ha10,h⟩:=bS h
     refine dq [66,274] [66] (.hs 290 0 [] 1 0 ((a10).map I).length) rfl (e_append rfl rfl rfl rfl rfl (ap_hsM (path:=[(0,1)]) (f:=I) (xs:=r3.1.Holidays) (ys:=[r9.1]) rfl rfl (take_hs rfl rfl rfl) rfl rfl rfl (ra_c rfl rfl (ra_n)) rfl (by decide) I_cells ha10 rfl (to_c (path:=[]) (i:=0) (k:=1) (e':=.agg [.usl 1 ((r3.1.Weekend).map I),.dead]) (es2':=[.agg [.usl 1 ((r3.1.Weekend).map I),.dead]]) (ra_n) rfl rfl rfl (sr_n)))) ?_ (w_app rfl (aw_hs (path:=[]) (f:=I) (xs:=[r9.1]) rfl rfl (ra_n) I_flat rfl))
     refine dq [66] [] (.hp 66 0 [] 2 0 1) rfl (e_fieldAddr rfl rfl rfl) ?_
     refine dz [66,290] [66,290] rfl (e_st rfl rfl (st_at (path:=[]) (pl:=false) (e':=.agg [.usl 1 ((r3.1.Weekend).map I),.usl 1 ((a10).map I)]) (es2':=[.agg [.usl 1 ((r3.1.Weekend).map I),.usl 1 ((a10).map I)]]) rfl (abs1 rfl (abs_hs rfl rfl)) rfl rfl rfl (ra_n) rfl rfl rfl rfl rfl (sr_n) 3 rfl)) ?_
     refine de 338 rfl rfl ?_
     exact rf [4,5] [1,2,66] (j8 _ (Option.some.inj h).symm :)
   · refine cq 5 [32] [B ((r4.1 == 2))] 226 ?_
     obtain ⟨y11,hy11,hy111,hy112⟩:=bL h
     have j11 : ∀ u11,y11=.inr u11→Run Ffbq_E 1 (Ffbq_Q (c_3,near_4) r) (.blk 0 :: .code (cR (cR (cR Ffbq_c))) :: []) (sT 59 [(4,.hp 2 0 [] 2 0 0),(5,.hp 3 0 [] 2 0 0)] [⟨0,3,[.agg [.isl false ((u11.1).map (V.int .u8)),I (u11.2.1),.int .u64 (u11.2.2.1)]]⟩,⟨0,2,[.agg [.usl 1 (([]).map I),.usl 1 (([]).map I)]]⟩,⟨0,2,[.agg [.usl 1 ((u11.2.2.2.1).map I),.usl 1 ((u11.2.2.2.2).map I)]]⟩] 4):=by
       intro u11 hu
       replace h:=hy112 u11 hu
       exact rf [4,5] [1,2,3] (j8 _ (Option.some.inj h).symm :)
     have r11 : ∀ r',y11=.inl r'→∀ st,Ffbq_Q (c_3,near_4) r' st→(Ffbq_Q (c_3,near_4) r) st:=fun r' e st hq=>r8 r' (hy111 r' e) st hq
     replace h:=hy11
     refine sq h (fun h=>?_) (fun h=>?_)
     · refine aq 1 ?_
       refine oq 242 (.hs 226 0 [] 1 0 7) rfl (e_buildSlice rfl (bs_mk (f:=I) (xs:=[]) (z:=I (0)) (es:=[I (0),I (1),I (2),I (3),I (4),I (5),I (6)]) (ws:=[I (0),I (1),I (2),I (3),I (4),I (5),I (6)]) rfl rfl rfl (by decide) rfl (abs_each_plain rfl) rfl)) ?_
       refine cq 1 [35] [.hp 66 0 [] 2 0 0] 258 ?_
       refine o0 274 rfl rfl (e_st rfl rfl (st_at (path:=[]) (pl:=false) (e':=.agg [.usl 1 (([0,1,2,3,4,5,6]).map I),.usl 1 ((r3.1.Holidays).map I)]) (es2':=[.agg [.usl 1 (([0,1,2,3,4,5,6]).map I),.usl 1 ((r3.1.Holidays).map I)]]) rfl (abs1 rfl (abs_hs (k:=7) (es:=[I (0),I (1),I (2),I (3),I (4),I (5),I (6)]) rfl rfl)) rfl rfl rfl (ra_n) rfl rfl rfl rfl rfl (sr_n) 3 rfl)) ?_
       refine aq 1 ?_
       exact rf [4,5] [1,2,66] (j11 _ (Option.some.inj h).symm :)
     · refine cq 5 [36] [B ((r4.1 == 3))] 258 ?_
       obtain ⟨y12,hy12,hy121,hy122⟩:=bL h
       have j12 : ∀ u12,y12=.inr u12→Run Ffbq_E 1 (Ffbq_Q (c_3,near_4) r) (.blk 0 :: .code (cR (cR (cR Ffbq_c))) :: []) (sT 59 [(4,.hp 2 0 [] 2 0 0),(5,.hp 3 0 [] 2 0 0)] [⟨0,3,[.agg [.isl false ((u12.1).map (V.int .u8)),I (u12.2.1),.int .u64 (u12.2.2.1)]]⟩,⟨0,2,[.agg [.usl 1 (([]).map I),.usl 1 (([]).map I)]]⟩,⟨0,2,[.agg [.usl 1 ((r3.1.Weekend).map I),.usl 1 ((u12.2.2.2).map I)]]⟩] 4):=by
         intro u12 hu
         replace h:=hy122 u12 hu
         exact rf [4,5] [1,2,3] (j11 _ (Option.some.inj h).symm :)
       have r12 : ∀ r',y12=.inl r'→∀ st,Ffbq_Q (c_3,near_4) r' st→(Ffbq_Q (c_3,near_4) r) st:=fun r' e st hq=>r11 r' (hy121 r' e) st hq
       replace h:=hy12
       refine sq h (fun h=>?_) (fun h=>?_)
       · refine aq 2 ?_
         refine oq 274 (.hs 258 0 [] 1 0 0) rfl (e_buildSlice rfl (bs_mk (f:=I) (xs:=[]) (z:=I (0)) (es:=[]) (ws:=[]) rfl rfl rfl (by decide) rfl (abs_each_plain rfl) rfl)) ?_
         refine cq 1 [39] [.hp 66 0 [] 2 0 1] 290 ?_
         refine o0 306 rfl rfl (e_st rfl rfl (st_at (path:=[]) (pl:=false) (e':=.agg [.usl 1 ((r3.1.Weekend).map I),.usl 1 (([]).map I)]) (es2':=[.agg [.usl 1 ((r3.1.Weekend).map I),.usl 1 (([]).map I)]]) rfl (abs1 rfl (abs_hs (k:=0) (es:=[]) rfl rfl)) rfl rfl rfl (ra_n) rfl rfl rfl rfl rfl (sr_n) 3 rfl)) ?_
         refine cq 6 [6] [I (0)] 322 ?_
         obtain ⟨y18,hy18,hy181,hy182⟩:=bL h
         refine s_loop rfl ?_
         refine rf [0,1,4,5,6] [1,2,66] (Ffbq_la_run c_3 near_4 r3 rfl (0,r4.2.f_code,r4.2.f_at,r4.2.f_seed,[]) _ hy18 (fun r' e st hq=>r12 r' (hy181 r' e) st hq) fun u18 hu=>?_)
         replace h:=hy182 u18 hu
         exact rf [4,5] [1,2,3] (j12 _ (Option.some.inj h).symm :)
       · refine aq 1 ?_
         exact rf [4,5] [1,2,66] (j12 _ (Option.some.inj h).symm :)
theorem Ffbq_good {G : Go.Ln.Ground} : Good Try.prog G 50 Ffbq_ent:=good_T (fnOf_good (gl_c Ffbs_good (gl_c Ffbx_good (gl_c Ffbp_good (gl_c Ffca_good (gl_c Ffbz_good (gl_n))))))) agree_mk (Checked.mixed Try.checked) Try.func50 (n:=2) (m:=1) ⟨rfl,rfl,by decide⟩ (fun _=>⟨rfl,rfl⟩) (fun a r h=>Ffbq_run a.1 a.2 r h)
def Ffbr_A : l1Cur→List V:=oA (upE encO_l1Cur)
def Ffbr_R (r : Int × l1Cur) : V × List V:=(I (r.1),[.uptr (encI_l1Cur r.2)])
noncomputable def Ffbr_ent : Ent:=entT [true] Ffbr_A Ffbr_R fun x=>Ffbr x
theorem Ffbr_F {c_2 : l1Cur} {r} (h : Ffbr c_2=some r) : (Ffbr_ent).F (Ffbr_A c_2)=some (Ffbr_R r):=entT_F (oA_inj (uptr_inj encO_l1Cur_inj)) h
noncomputable def Ffbr_c : Code:=bodyOf Try.f25
noncomputable def Ffbr_E : Env:=mkE Try.prog [(24,Ffbw_ent),(23,Ffbp_ent),(53,Ffbt_ent)]
def Ffbr_Q (x : l1Cur) (r : Int × l1Cur) : St→Prop:=QF Ffbr_E Try.f25 [true] (Ffbr_A x) (Ffbr_R r)
theorem Ffbr_run (c_2 : l1Cur) (r : Int × l1Cur) (h : Ffbr c_2=some r) : RunF Ffbr_E Try.f25 [true] 1 (Ffbr_A c_2) (Ffbr_R r):=by
 show Run _ _ (Ffbr_Q c_2 r) [.code Ffbr_c] _
 refine rin (n:=10) [(0,.hp 1 0 [] 3 0 0)] [(1,some ⟨0,3,[encI_l1Cur c_2]⟩)] 2 (by kernel_rfl) (by kernel_rfl) (by kernel_rfl) rfl ?_
 unfold Ffbr at h
 refine cq 8 [3] [.hp 1 0 [] 3 0 0] 34 ?_
 obtain ⟨r2,hr2,h⟩:=bS h
 refine oq 50 (B (r2.1)) rfl (e_callV rfl rfl (call_P rfl rfl rfl (avO (hd1 rfl (hd_hq (path:=[]) rfl rfl (ra_n))) (avS (shP rfl) (avN))) (Ffbw_F hr2) (.inr rfl) (bl_c rfl rfl rfl rfl (bl_n)) rfl rfl rfl)) ?_
 refine aq 1 ?_
 refine sq h (fun h=>?_) (fun h=>?_)
 · refine cq 3 [5] [.hp 1 0 [] 3 0 0] 66 ?_
   refine oq 82 (.hs 66 0 [] 1 0 4) rfl (e_buildSlice rfl (bs_mk (f:=I) (xs:=[]) (z:=I (0)) (es:=[I ((-1)),I (36524),I (36525),I (1099511627776)]) (ws:=[I ((-1)),I (36524),I (36525),I (1099511627776)]) rfl rfl rfl (by decide) rfl (abs_each_plain rfl) rfl)) ?_
   obtain ⟨r3,hr3,h⟩:=bS h
   refine oK 98 (I (r3.1)) rfl rfl (e_callK rfl rfl (call_K rfl rfl rfl rfl (avO (hd1 rfl (hd_hq (path:=[]) rfl rfl (ra_n))) (avS (sh1 rfl rfl (sh_hsM (f:=I) (g:=I) (xs:=[(-1),36524,36525,1099511627776]) rfl rfl (imms_of I_imm))) (avN))) (Ffbp_F hr3) (bl_c rfl rfl rfl rfl (bl_n)) rfl rfl rfl)) ?_
   refine cq 2 [2] [I (r3.1)] 114 ?_
   obtain rfl:=Option.some.inj h
   exact s_ret rfl ⟨_,fin (vs:=[I (r3.1)]) rfl (absE (absorb_plain rfl) (absEN)) rfl (ou_1 rfl (oc_hp rfl rfl) (ou_n)),kl_c (kl_n)⟩
 · refine aq 1 ?_
   refine cq 3 [8] [.hp 1 0 [] 3 0 0] 66 ?_
   obtain ⟨r4,hr4,h⟩:=bS h
   refine oq 82 (I (r4.1)) rfl (e_callV rfl rfl (call_P rfl rfl rfl (avO (hd1 rfl (hd_hq (path:=[]) rfl rfl (ra_n))) (avN)) (Ffbt_F hr4) (.inr rfl) (bl_c rfl rfl rfl rfl (bl_n)) rfl rfl rfl)) ?_
   refine cq 2 [2] [I (r4.1)] 98 ?_
   obtain rfl:=Option.some.inj h
   exact s_ret rfl ⟨_,fin (vs:=[I (r4.1)]) rfl (absE (absorb_plain rfl) (absEN)) rfl (ou_1 rfl (oc_hp rfl rfl) (ou_n)),kl_c (kl_n)⟩
theorem Ffbr_good {G : Go.Ln.Ground} : Good Try.prog G 25 Ffbr_ent:=good_T (fnOf_good (gl_c Ffbw_good (gl_c Ffbp_good (gl_c Ffbt_good (gl_n))))) agree_mk (Checked.mixed Try.checked) Try.func25 (n:=1) (m:=1) ⟨rfl,rfl,by decide⟩ (fun _=>⟨rfl,rfl⟩) (fun a r h=>Ffbr_run a r h)
def Ffbm_A : ((List Int))→List V:=oA (slE (V.int .u8))
def Ffbm_R (r : Calendar × Int) : V × List V:=(.tup [encO_Calendar r.1,I (r.2)],[])
noncomputable def Ffbm_ent : Ent:=entT [false] Ffbm_A Ffbm_R fun x=>Ffbm x
theorem Ffbm_F {code_1 : List Int} {r} (h : Ffbm code_1=some r) : (Ffbm_ent).F (Ffbm_A code_1)=some (Ffbm_R r):=entT_F (oA_inj (isl_inj (vint_inj (k:=.u8)))) h
noncomputable def Ffbm_c : Code:=bodyOf Try.f34
noncomputable def Ffbm_E : Env:=mkE Try.prog [(22,Ffbu_ent),(50,Ffbq_ent),(24,Ffbw_ent),(25,Ffbr_ent)]
def Ffbm_Q (x : (List Int)) (r : Calendar × Int) : St→Prop:=QF Ffbm_E Try.f34 [false] (Ffbm_A x) (Ffbm_R r)
theorem Ffbm_run (code_1 : List Int) (r : Calendar × Int) (h : Ffbm code_1=some r) : RunF Ffbm_E Try.f34 [false] 0 (Ffbm_A code_1) (Ffbm_R r):=by
 show Run _ _ (Ffbm_Q code_1 r) [.code Ffbm_c] _
 refine rin (n:=21) [(0,.isl false ((code_1).map (V.int .u8)))] [] 1 (by kernel_rfl) (by kernel_rfl) (by kernel_rfl) rfl ?_
 unfold Ffbm at h
 refine ck 3 [2] [] [1] [] [.hp 1 0 [] 2 0 0] [some ⟨0,2,[.agg [.isl true [],.isl true []]]⟩] 17 (by kernel_rfl) ?_
 refine run_row 1 [.agg [.usl 1 (([]).map I),.usl 1 (([]).map I)]] rfl rfl (cvs_c (cv_agg (cvs_c (.nil _) (cvs_c (.nil _) (cvs_n)))) cvs_n) ?_
 refine ck 12 [4,10] [] [65] [] [.hp 65 0 [] 3 0 0,.hp 65 0 [] 3 0 0] [some ⟨0,3,[.agg [.isl false ((code_1).map (V.int .u8)),I (0),.int .u64 (0)]]⟩] 113 (by kernel_rfl) ?_
 obtain ⟨r2,hr2,h⟩:=bS h
 refine oq 129 (I (r2.1)) rfl (e_callV rfl rfl (call_P rfl rfl rfl (avO (hd1 rfl (hd_hq (path:=[]) rfl rfl (ra_n))) (avN)) (Ffbu_F hr2) (.inr rfl) (bl_c rfl rfl rfl rfl (bl_n)) rfl rfl rfl)) ?_
 refine cq 6 [5,12,13] [I (r2.1),.hp 65 0 [] 3 0 0,I (r2.1)] 177 ?_
 obtain ⟨r3,hr3,h⟩:=bS h
 refine oq 193 (.agg [.hs 177 0 [] 1 0 ((r3.1.Weekend).map I).length,.hs 178 0 [] 1 0 ((r3.1.Holidays).map I).length]) rfl (e_callV rfl rfl (call_P rfl rfl rfl (avO (hd1 rfl (hd_hq (path:=[]) rfl rfl (ra_n))) (avS (shP rfl) (avN))) (Ffbq_F hr3) (.inr rfl) (bl_c rfl rfl rfl rfl (bl_n)) rfl rfl rfl)) ?_
 refine ck 1 [6] [] [193] [] [.hp 193 0 [] 2 0 0] [some ⟨0,2,[.agg [.isl true [],.isl true []]]⟩] 209 (by kernel_rfl) ?_
 refine run_row 193 [.agg [.usl 1 (([]).map I),.usl 1 (([]).map I)]] rfl rfl (cvs_c (cv_agg (cvs_c (.nil _) (cvs_c (.nil _) (cvs_n)))) cvs_n) ?_
 refine o0 225 rfl rfl (e_st rfl rfl (st_at (path:=[]) (pl:=false) (e':=encO_Calendar r3.1) (es2':=[encO_Calendar r3.1]) rfl (absA (absC (abs_hs rfl rfl) (absC (abs_hs rfl rfl) (absN)))) rfl rfl rfl (ra_n) rfl rfl rfl rfl rfl (sr_n) 2 rfl)) ?_
 refine cq 5 [15] [.hp 65 0 [] 3 0 0] 241 ?_
 obtain ⟨r4,hr4,h⟩:=bS h
 refine oq 257 (B (r4.1)) rfl (e_callV rfl rfl (call_P rfl rfl rfl (avO (hd1 rfl (hd_hq (path:=[]) rfl rfl (ra_n))) (avS (shP rfl) (avN))) (Ffbw_F hr4) (.inr rfl) (bl_c rfl rfl rfl rfl (bl_n)) rfl rfl rfl)) ?_
 refine aq 1 ?_
 obtain ⟨y5,hy5,hy51,hy52⟩:=bJ h
 have j5 : ∀ u5,y5=.inr u5→Run Ffbm_E 0 (Ffbm_Q code_1 r) (.code (cR (cR (cR (cR (cR Ffbm_c))))) :: []) (sT 21 [(2,.hp 1 0 [] 2 0 0),(5,I (u5)),(6,.hp 2 0 [] 2 0 0)] [⟨0,2,[.agg [.usl 1 (([]).map I),.usl 1 (([]).map I)]]⟩,⟨0,2,[encO_Calendar r3.1]⟩] 3):=by
   intro u5 hu
   replace h:=hy52 u5 hu
   refine cq 4 [19,20] [.agg [.hs 2 0 [(0,0)] 1 0 ((r3.1.Weekend).map I).length,.hs 2 0 [(0,1)] 1 0 ((r3.1.Holidays).map I).length],I (u5)] 35 ?_
   refine o0 51 rfl rfl (e_st rfl rfl (st_at (path:=[]) (pl:=false) (e':=encO_Calendar r3.1) (es2':=[encO_Calendar r3.1]) rfl (absA (absC (abs_at (path:=[(0,0)]) rfl rfl (ra_c rfl rfl (ra_n)) rfl (to_c (path:=[]) (i:=0) (k:=0) (e':=.agg [.dead,.usl 1 ((r3.1.Holidays).map I)]) (es2':=[.agg [.dead,.usl 1 ((r3.1.Holidays).map I)]]) (ra_n) rfl rfl rfl (sr_n))) (absC (abs_at (path:=[(0,1)]) rfl rfl (ra_c rfl rfl (ra_n)) rfl (to_c (path:=[]) (i:=0) (k:=1) (e':=.agg [.dead,.dead]) (es2':=[.agg [.dead,.dead]]) (ra_n) rfl rfl rfl (sr_n))) (absN)))) rfl rfl rfl (ra_n) rfl rfl rfl rfl rfl (sr_n) 1 rfl)) ?_
   refine cq 2 [3] [I (u5)] 67 ?_
   obtain rfl:=Option.some.inj h
   exact s_ret rfl ⟨_,fin (vs:=[.agg [.hs 1 1 [(0,0)] 1 0 ((r3.1.Weekend).map I).length,.hs 1 1 [(0,1)] 1 0 ((r3.1.Holidays).map I).length],I (u5)]) (rs_c (rs_cell rfl rfl rfl) (rs_c (rfl) (rs_n))) (absE (absA (absC (abs_at (path:=[(0,0)]) rfl rfl (ra_c rfl rfl (ra_n)) rfl (to_c (path:=[]) (i:=0) (k:=0) (e':=.agg [.dead,.usl 1 ((r3.1.Holidays).map I)]) (es2':=[.agg [.dead,.usl 1 ((r3.1.Holidays).map I)]]) (ra_n) rfl rfl rfl (sr_n))) (absC (abs_at (path:=[(0,1)]) rfl rfl (ra_c rfl rfl (ra_n)) rfl (to_c (path:=[]) (i:=0) (k:=1) (e':=.agg [.dead,.dead]) (es2':=[.agg [.dead,.dead]]) (ra_n) rfl rfl rfl (sr_n))) (absN)))) (absE (absorb_plain rfl) (absEN))) rfl (ou_f (ou_n)),kl_n⟩
 have r5 : ∀ r',y5=.inl r'→∀ st,Ffbm_Q code_1 r' st→(Ffbm_Q code_1 r) st:=fun r' e st hq=>by rw [hy51 r' e] at hq; exact hq
 replace h:=hy5
 refine sq h (fun h=>?_) (fun h=>?_)
 · refine cq 2 [17] [.hp 65 0 [] 3 0 0] 273 ?_
   obtain ⟨r6,hr6,h⟩:=bS h
   refine oq 289 (I (r6.1)) rfl (e_callV rfl rfl (call_P rfl rfl rfl (avO (hd1 rfl (hd_hq (path:=[]) rfl rfl (ra_n))) (avN)) (Ffbr_F hr6) (.inr rfl) (bl_c rfl rfl rfl rfl (bl_n)) rfl rfl rfl)) ?_
   refine cq 2 [5] [I (r6.1)] 305 ?_
   exact rf [2,5,6] [1,193] (j5 _ (Option.some.inj h).symm :)
 · refine aq 1 ?_
   exact rf [2,5,6] [1,193] (j5 _ (Option.some.inj h).symm :)
theorem Ffbm_good {G : Go.Ln.Ground} : Good Try.prog G 34 Ffbm_ent:=good_T (fnOf_good (gl_c Ffbu_good (gl_c Ffbq_good (gl_c Ffbw_good (gl_c Ffbr_good (gl_n)))))) agree_mk (Checked.mixed Try.checked) Try.func34 (n:=1) (m:=0) ⟨rfl,rfl,by decide⟩ (fun _=>⟨rfl,rfl⟩) (fun a r h=>Ffbm_run a r h)
def Ffbl_A : ((List Int))→List V:=oA (slE (V.int .u8))
def Ffbl_R (r : Calendar × Int × Int) : V × List V:=(.tup [encO_Calendar r.1,I (r.2.1),I (r.2.2)],[])
noncomputable def Ffbl_ent : Ent:=entT [false] Ffbl_A Ffbl_R fun x=>Ffbl x
theorem Ffbl_F {code_1 : List Int} {r} (h : Ffbl code_1=some r) : (Ffbl_ent).F (Ffbl_A code_1)=some (Ffbl_R r):=entT_F (oA_inj (isl_inj (vint_inj (k:=.u8)))) h
noncomputable def Ffbl_c : Code:=bodyOf Try.f15
noncomputable def Ffbl_E : Env:=mkE Try.prog [(34,Ffbm_ent),(48,Ffbx_ent),(23,Ffbp_ent)]
def Ffbl_Q (x : (List Int)) (r : Calendar × Int × Int) : St→Prop:=QF Ffbl_E Try.f15 [false] (Ffbl_A x) (Ffbl_R r)
theorem Ffbl_run (code_1 : List Int) (r : Calendar × Int × Int) (h : Ffbl code_1=some r) : RunF Ffbl_E Try.f15 [false] 0 (Ffbl_A code_1) (Ffbl_R r):=by
 show Run _ _ (Ffbl_Q code_1 r) [.code Ffbl_c] _
 refine rin (n:=26) [(0,.isl false ((code_1).map (V.int .u8)))] [] 1 (by kernel_rfl) (by kernel_rfl) (by kernel_rfl) rfl ?_
 unfold Ffbl at h
 refine ck 3 [2] [] [1] [] [.hp 1 0 [] 2 0 0] [some ⟨0,2,[.agg [.isl true [],.isl true []]]⟩] 17 (by kernel_rfl) ?_
 refine run_row 1 [.agg [.usl 1 (([]).map I),.usl 1 (([]).map I)]] rfl rfl (cvs_c (cv_agg (cvs_c (.nil _) (cvs_c (.nil _) (cvs_n)))) cvs_n) ?_
 refine ck 13 [5,12] [] [81] [] [.hp 81 0 [] 3 0 0,.isl false ((code_1).map (V.int .u8))] [some ⟨0,3,[.agg [.isl false ((code_1).map (V.int .u8)),I (0),.int .u64 (0)]]⟩] 129 (by kernel_rfl) ?_
 obtain ⟨r2,hr2,h⟩:=bS h
 refine oq 145 (.tup [.agg [.hs 129 0 [] 1 0 ((r2.1.Weekend).map I).length,.hs 130 0 [] 1 0 ((r2.1.Holidays).map I).length],I (r2.2)]) rfl (e_callV rfl rfl (call_P rfl rfl rfl (avS (shP rfl) (avN)) (Ffbm_F hr2) (.inr rfl) (bl_n) rfl rfl rfl)) ?_
 refine ck 4 [6,14,15] [] [193] [] [.hp 193 0 [] 2 0 0,.agg [.hs 129 0 [] 1 0 ((r2.1.Weekend).map I).length,.hs 130 0 [] 1 0 ((r2.1.Holidays).map I).length],I (r2.2)] [some ⟨0,2,[.agg [.isl true [],.isl true []]]⟩] 209 (by kernel_rfl) ?_
 refine run_row 193 [.agg [.usl 1 (([]).map I),.usl 1 (([]).map I)]] rfl rfl (cvs_c (cv_agg (cvs_c (.nil _) (cvs_c (.nil _) (cvs_n)))) cvs_n) ?_
 refine o0 225 rfl rfl (e_st rfl rfl (st_at (path:=[]) (pl:=false) (e':=encO_Calendar r2.1) (es2':=[encO_Calendar r2.1]) rfl (absA (absC (abs_hs rfl rfl) (absC (abs_hs rfl rfl) (absN)))) rfl rfl rfl (ra_n) rfl rfl rfl rfl rfl (sr_n) 2 rfl)) ?_
 refine cq 3 [7] [I (r2.2)] 241 ?_
 refine s_draw [0,0,0,0,0,16,48,112,248,508,1021,2047,4095] rfl (by decide +kernel) ?_
 refine dq [193] [] (.agg [.hs 193 2 [(0,0)] 1 0 ((r2.1.Weekend).map I).length,.hs 193 2 [(0,1)] 1 0 ((r2.1.Holidays).map I).length]) rfl (e_ld rfl rfl) ?_
 refine dk 2 [18,17] [.hp 81 0 [] 3 0 0,I (r2.2)] ?_
 refine dq [] [] (.hs 289 0 [] 1 0 11) rfl (e_buildSlice rfl (bs_mk (f:=I) (xs:=[]) (z:=I (0)) (es:=[I (1),I (2),I (5),I (0),I ((-1)),I ((-3)),I (20),I ((-20)),I (300),I (1001),I ((-1001))]) (ws:=[I (1),I (2),I (5),I (0),I ((-1)),I ((-3)),I (20),I ((-20)),I (300),I (1001),I ((-1001))]) rfl rfl rfl (by decide) rfl (abs_each_plain rfl) rfl)) ?_
 refine dk 1 [20] [.hp 81 0 [] 3 0 0] ?_
 obtain ⟨r3,hr3,h⟩:=bS h
 refine dq [81] [81] (I (r3.1)) rfl (e_callV rfl rfl (call_P rfl rfl rfl (avO (hd1 rfl (hd_hq (path:=[]) rfl rfl (ra_n))) (avS (shP rfl) (avN))) (Ffbx_F hr3) (.inr rfl) (bl_c rfl rfl rfl rfl (bl_n)) rfl rfl rfl)) ?_ (w_callO rfl rfl rfl rfl (avO (hd1 rfl (hd_hq (path:=[]) rfl rfl (ra_n))) (avS (shP rfl) (avN))) (Ffbx_F hr3) (.inr rfl) rfl)
 refine dk 2 [23,22] [I ((w64 (9 + (w64 (r3.1.tdiv 4))))),I ((w64 (r3.1.tdiv 4)))] ?_
 obtain ⟨s4,hs4,h⟩:=bS h
 refine dq [289] [] (.hs 289 0 [] 1 (0 + Int.toNat (0)) (Int.toNat ((w64 (9 + (w64 (r3.1.tdiv 4))))) - Int.toNat (0))) rfl (e_slice rfl rfl rfl rfl (sl_hsM (f:=I) (xs:=[1,2,5,0,(-1),(-3),20,(-20),300,1001,(-1001)]) rfl rfl rfl rfl rfl hs4)) ?_
 obtain ⟨p5,hp5,h⟩:=bS h
 obtain ⟨r6,hr6,h⟩:=bS h
 refine dw [81,289] [81,289] (I (r6.1)) rfl (e_callV rfl rfl (call_D rfl rfl rfl rfl (avO (hd1 rfl (hd_hq (path:=[]) rfl rfl (ra_n))) (avS (sh1 rfl rfl (sh_pt (path:=[]) (f:=I) (g:=I) (xs:=[1,2,5,0,(-1),(-3),20,(-20),300,1001,(-1001)]) rfl rfl (ra_n) hp5 (imms_of I_imm))) (avN))) (Ffbp_F hr6) (bl_c rfl rfl rfl rfl (bl_n)) rfl rfl rfl)) ?_ (w_callD rfl rfl rfl rfl rfl rfl)
 refine dz [1,193,193] [1,193,193] rfl (e_st rfl rfl (st_at (path:=[]) (pl:=false) (e':=encO_Calendar r2.1) (es2':=[encO_Calendar r2.1]) rfl (absA (absC (abs_at (path:=[(0,0)]) rfl rfl (ra_c rfl rfl (ra_n)) rfl (to_c (path:=[]) (i:=0) (k:=0) (e':=.agg [.dead,.usl 1 ((r2.1.Holidays).map I)]) (es2':=[.agg [.dead,.usl 1 ((r2.1.Holidays).map I)]]) (ra_n) rfl rfl rfl (sr_n))) (absC (abs_at (path:=[(0,1)]) rfl rfl (ra_c rfl rfl (ra_n)) rfl (to_c (path:=[]) (i:=0) (k:=1) (e':=.agg [.dead,.dead]) (es2':=[.agg [.dead,.dead]]) (ra_n) rfl rfl rfl (sr_n))) (absN)))) rfl rfl rfl (ra_n) rfl rfl rfl rfl rfl (sr_n) 2 rfl)) ?_
 refine dk 2 [4,3] [I (r6.1),I (r2.2)] ?_
 refine de 449 rfl rfl ?_
 obtain rfl:=Option.some.inj h
 exact s_ret rfl ⟨_,fin (vs:=[.agg [.hs 1 2 [(0,0)] 1 0 ((r2.1.Weekend).map I).length,.hs 1 2 [(0,1)] 1 0 ((r2.1.Holidays).map I).length],I (r2.2),I (r6.1)]) (rs_c (rs_cell rfl rfl rfl) (rs_c (rfl) (rs_c (rfl) (rs_n)))) (absE (absA (absC (abs_at (path:=[(0,0)]) rfl rfl (ra_c rfl rfl (ra_n)) rfl (to_c (path:=[]) (i:=0) (k:=0) (e':=.agg [.dead,.usl 1 ((r2.1.Holidays).map I)]) (es2':=[.agg [.dead,.usl 1 ((r2.1.Holidays).map I)]]) (ra_n) rfl rfl rfl (sr_n))) (absC (abs_at (path:=[(0,1)]) rfl rfl (ra_c rfl rfl (ra_n)) rfl (to_c (path:=[]) (i:=0) (k:=1) (e':=.agg [.dead,.dead]) (es2':=[.agg [.dead,.dead]]) (ra_n) rfl rfl rfl (sr_n))) (absN)))) (absE (absorb_plain rfl) (absE (absorb_plain rfl) (absEN)))) rfl (ou_f (ou_n)),kl_n⟩
theorem Ffbl_good {G : Go.Ln.Ground} : Good Try.prog G 15 Ffbl_ent:=good_T (fnOf_good (gl_c Ffbm_good (gl_c Ffbx_good (gl_c Ffbp_good (gl_n))))) agree_mk (Checked.mixed Try.checked) Try.func15 (n:=1) (m:=0) ⟨rfl,rfl,by decide⟩ (fun _=>⟨rfl,rfl⟩) (fun a r h=>Ffbl_run a r h)
def Ffn_A : (Int × Int × Int)→List V:=cA I (cA I (oA I))
def Ffn_R (r : Bool) : V × List V:=(B (r),[])
noncomputable def Ffn_ent : Ent:=entT [false,false,false] Ffn_A Ffn_R fun x=>Ffn x.1 x.2.1 x.2.2
theorem Ffn_F {n_1 : Int} {low_2 : Int} {high_3 : Int} {r} (h : Ffn n_1 low_2 high_3=some r) : (Ffn_ent).F (Ffn_A (n_1,low_2,high_3))=some (Ffn_R r):=entT_F (cA_inj I_inj (cA_inj I_inj (oA_inj I_inj))) h
noncomputable def Ffn_c : Code:=bodyOf Try.f27
noncomputable def Ffn_E : Env:=mkE Try.prog []
def Ffn_Q (x : Int × Int × Int) (r : Bool) : St→Prop:=QF Ffn_E Try.f27 [false,false,false] (Ffn_A x) (Ffn_R r)
theorem Ffn_run (n_1 : Int) (low_2 : Int) (high_3 : Int) (r : Bool) (h : Ffn n_1 low_2 high_3=some r) : RunF Ffn_E Try.f27 [false,false,false] 0 (Ffn_A (n_1,low_2,high_3)) (Ffn_R r):=by
 show Run _ _ (Ffn_Q (n_1,low_2,high_3) r) [.code Ffn_c] _
 refine rin (n:=15) [(0,I (n_1)),(1,I (low_2)),(2,I (high_3))] [] 1 (by kernel_rfl) (by kernel_rfl) (by kernel_rfl) rfl ?_
 unfold Ffn at h
 refine cq 10 [10] [B ((decide (n_1 ≥ low_2)))] 81 ?_
 obtain ⟨u4,hu4,h⟩:=lJ h
 have j4 : Run Ffn_E 0 (Ffn_Q (n_1,low_2,high_3) r) (.code (cR (cR Ffn_c)) :: []) (sT 15 [(6,B (u4))] [] 1):=by
   obtain rfl:=Option.some.inj h
   exact s_ret rfl ⟨_,fin (vs:=[B (u4)]) rfl (absE (absorb_plain rfl) (absEN)) rfl (ou_f (ou_f (ou_f (ou_n)))),kl_n⟩
 replace h:=hu4
 clear hu4
 refine sp 10 h rfl (fun h=>?_) (fun h=>?_)
 · refine cq 6 [6] [B ((decide (n_1 ≤ high_3)))] 161 ?_
   subst h
   exact rf [6] [] (j4 :)
 · refine cq 6 [6] [B (false)] 161 ?_
   subst h
   exact rf [6] [] (j4 :)
theorem Ffn_good {G : Go.Ln.Ground} : Good Try.prog G 27 Ffn_ent:=good_T (fnOf_good (gl_n)) agree_mk (Checked.mixed Try.checked) Try.func27 (n:=3) (m:=0) ⟨rfl,rfl,by decide⟩ (fun _=>⟨rfl,rfl⟩) (fun a r h=>Ffn_run a.1 a.2.1 a.2.2 r h)
def Ffj_A : ((List Int) × Int × Int × Int)→List V:=cA (slE I) (cA I (cA I (oA I)))
def Ffj_R (r : Bool) : V × List V:=(B (r),[])
noncomputable def Ffj_ent : Ent:=entT [false,false,false,false] Ffj_A Ffj_R fun x=>Ffj x.1 x.2.1 x.2.2.1 x.2.2.2
theorem Ffj_F {list_1 : List Int} {low_2 : Int} {high_3 : Int} {most_4 : Int} {r} (h : Ffj list_1 low_2 high_3 most_4=some r) : (Ffj_ent).F (Ffj_A (list_1,low_2,high_3,most_4))=some (Ffj_R r):=entT_F (cA_inj (isl_inj I_inj) (cA_inj I_inj (cA_inj I_inj (oA_inj I_inj)))) h
noncomputable def Ffj_c : Code:=bodyOf Try.f61
noncomputable abbrev Ffj_ka : Code:=cL (cL (cR (cL (cR Ffj_c))))
noncomputable abbrev Ffj_kb : Code:=cR (cR (cL (cL (cR (cR Ffj_ka)))))
noncomputable def Ffj_E : Env:=mkE Try.prog [(27,Ffn_ent)]
def Ffj_Q (x : (List Int) × Int × Int × Int) (r : Bool) : St→Prop:=QF Ffj_E Try.f61 [false,false,false,false] (Ffj_A x) (Ffj_R r)
theorem Ffj_la_run (list_1 : List Int) (low_2 : Int) (high_3 : Int) (most_4 : Int)  {Q : St→Prop} {K : List It} (hK : noD K=true) : ∀ (x5 : Int) (y : Bool ⊕ Unit),Ffj_la list_1 low_2 high_3 most_4 x5=some y→(∀ r',y=.inl r'→∀ st,Ffj_Q (list_1,low_2,high_3,most_4) r' st→Q st)→(∀ u : Unit,y=.inr u→Run Ffj_E 0 Q K (sT 41 [(0,.isl false ((list_1).map I)),(3,I (most_4))] [] 1))→Run Ffj_E 0 Q (.code Ffj_ka :: .lp Ffj_ka :: .blk 0 :: K) (sT 41 [(0,.isl false ((list_1).map I)),(1,I (low_2)),(2,I (high_3)),(3,I (most_4)),(11,.isl false ((list_1).map I)),(12,I ((len list_1))),(13,I (x5))] [] 1):=by
 refine fix_indP (Ffj_la_fin list_1 low_2 high_3 most_4) ?_
 intro self ih x5 y h hr hn
 unfold Ffj_la_F at h
 refine cq 5 [14] [B ((decide (x5 < (len list_1))))] 17 ?_
 refine sq h (fun h=>?_) (fun h=>?_)
 · refine aq 1 ?_
   refine cq 5 [15] [I (x5)] 33 ?_
   obtain ⟨e6,he6,h⟩:=bS h
   refine oq 49 (.iptr (I (e6)) 0) rfl (e_indexAddr rfl rfl rfl (ix_islE rfl rfl rfl rfl he6)) ?_
   refine cq 9 [9,10,18,19,20] [I (x5),I (e6),I (e6),I (low_2),I (high_3)] 145 ?_
   obtain ⟨r7,hr7,h⟩:=bS h
   refine oq 161 (B (r7)) rfl (e_callV rfl rfl (call_P rfl rfl rfl (avS (shP rfl) (avS (shP rfl) (avS (shP rfl) (avN)))) (Ffn_F hr7) (.inr rfl) (bl_n) rfl rfl rfl)) ?_
   refine cq 2 [23] [B ((!r7))] 193 ?_
   obtain ⟨y8,hy8,hy81,hy82⟩:=bL h
   have j8 : ∀ u8,y8=.inr u8→Run Ffj_E 0 Q (.code Ffj_kb :: .blk 1 :: .code (cR (cR (cR Ffj_ka))) :: .lp Ffj_ka :: .blk 0 :: K) (sT 41 [(0,.isl false ((list_1).map I)),(1,I (low_2)),(2,I (high_3)),(3,I (most_4)),(11,.isl false ((list_1).map I)),(12,I ((len list_1))),(13,I (x5)),(35,B (u8))] [] 1):=by
     intro u8 hu
     replace h:=hy82 u8 hu
     refine sq h (fun h=>?_) (fun h=>?_)
     · refine cq 4 [8] [B (false)] 17 ?_
       exact s_ret rfl (hr _ (Option.some.inj h).symm _ ⟨_,fin (vs:=[B (false)]) rfl (absE (absorb_plain rfl) (absEN)) rfl (ou_f (ou_f (ou_f (ou_f (ou_n))))),kl_n⟩)
     · refine aq 1 ?_
       refine cq 5 [13] [I ((w64 (x5 + 1)))] 33 ?_
       refine s_lp ?_
       exact rf [0,1,2,3,11,12,13] [] (ih _ _ h hr hn :)
   have r8 : ∀ r',y8=.inl r'→∀ st,Ffj_Q (list_1,low_2,high_3,most_4) r' st→Q st:=fun r' e st hq=>hr r' (hy81 r' e) st hq
   replace h:=hy8
   refine sp 23 h rfl (fun h=>?_) (fun h=>?_)
   · refine cq 13 [35] [B (true)] 385 ?_
     exact rf [0,1,2,3,11,12,13,35] [] (j8 _ (Option.some.inj h).symm :)
   · refine cq 3 [26] [B ((decide (x5 > 0)))] 241 ?_
     obtain ⟨y9,hy9,hy91,hy92⟩:=bL h
     have j9 : ∀ u9,y9=.inr u9→Run Ffj_E 0 Q (.code Ffj_kb :: .blk 1 :: .code (cR (cR (cR Ffj_ka))) :: .lp Ffj_ka :: .blk 0 :: K) (sT 41 [(0,.isl false ((list_1).map I)),(1,I (low_2)),(2,I (high_3)),(3,I (most_4)),(11,.isl false ((list_1).map I)),(12,I ((len list_1))),(13,I (x5)),(35,B (u9))] [] 1):=by
       intro u9 hu
       replace h:=hy92 u9 hu
       exact rf [0,1,2,3,11,12,13,35] [] (j8 _ (Option.some.inj h).symm :)
     have r9 : ∀ r',y9=.inl r'→∀ st,Ffj_Q (list_1,low_2,high_3,most_4) r' st→Q st:=fun r' e st hq=>r8 r' (hy91 r' e) st hq
     replace h:=hy9
     refine sp 26 h rfl (fun h=>?_) (fun h=>?_)
     · refine cq 4 [27,28,30] [I (e6),.isl false ((list_1).map I),I ((w64 (x5 - 1)))] 305 ?_
       obtain ⟨e10,he10,h⟩:=bS h
       refine oy 321 (.iptr (I (e10)) 0) rfl (e_indexAddr rfl rfl rfl (ix_islE rfl rfl rfl rfl he10)) ?_
       refine cq 5 [35] [B ((decide (e6 ≤ e10)))] 385 ?_
       exact rf [0,1,2,3,11,12,13,35] [] (j9 _ (Option.some.inj h).symm :)
     · refine cq 10 [35] [B (false)] 385 ?_
       exact rf [0,1,2,3,11,12,13,35] [] (j9 _ (Option.some.inj h).symm :)
 · refine aq 1 ?_
   exact rf [0,3] [] (hn _ (Option.some.inj h).symm :) (hk:=hK)
theorem Ffj_run (list_1 : List Int) (low_2 : Int) (high_3 : Int) (most_4 : Int) (r : Bool) (h : Ffj list_1 low_2 high_3 most_4=some r) : RunF Ffj_E Try.f61 [false,false,false,false] 0 (Ffj_A (list_1,low_2,high_3,most_4)) (Ffj_R r):=by
 show Run _ _ (Ffj_Q (list_1,low_2,high_3,most_4) r) [.code Ffj_c] _
 refine rin (n:=41) [(0,.isl false ((list_1).map I)),(1,I (low_2)),(2,I (high_3)),(3,I (most_4))] [] 1 (by kernel_rfl) (by kernel_rfl) (by kernel_rfl) rfl ?_
 unfold Ffj at h
 refine cq 8 [11] [.isl false ((list_1).map I)] 33 ?_
 refine oq 49 (I ((len list_1))) rfl (e_len rfl rfl rfl (l_isl rfl)) ?_
 refine cq 3 [13] [I (0)] 65 ?_
 obtain ⟨y11,hy11,hy111,hy112⟩:=bJ h
 refine s_loop rfl ?_
 refine rf [0,1,2,3,11,12,13] [] (Ffj_la_run list_1 low_2 high_3 most_4 rfl 0 _ hy11 (fun r' e st hq=>by rw [hy111 r' e] at hq; exact hq) fun u11 hu=>?_)
 replace h:=hy112 u11 hu
 refine cq 3 [37] [.isl false ((list_1).map I)] 17 ?_
 refine oq 33 (I ((len list_1))) rfl (e_len rfl rfl rfl (l_isl rfl)) ?_
 refine cq 4 [8] [B ((decide ((len list_1) ≤ most_4)))] 81 ?_
 obtain rfl:=Option.some.inj h
 exact s_ret rfl ⟨_,fin (vs:=[B ((decide ((len list_1) ≤ most_4)))]) rfl (absE (absorb_plain rfl) (absEN)) rfl (ou_f (ou_f (ou_f (ou_f (ou_n))))),kl_n⟩
theorem Ffj_good {G : Go.Ln.Ground} : Good Try.prog G 61 Ffj_ent:=good_T (fnOf_good (gl_c Ffn_good (gl_n))) agree_mk (Checked.mixed Try.checked) Try.func61 (n:=4) (m:=0) ⟨rfl,rfl,by decide⟩ (fun _=>⟨rfl,rfl⟩) (fun a r h=>Ffj_run a.1 a.2.1 a.2.2.1 a.2.2.2 r h)
def Fff_A : Calendar→List V:=oA encI_Calendar
def Fff_R (r : Bool) : V × List V:=(B (r),[])
noncomputable def Fff_ent : Ent:=entT [false] Fff_A Fff_R fun x=>Fff x
theorem Fff_F {c_1 : Calendar} {r} (h : Fff c_1=some r) : (Fff_ent).F (Fff_A c_1)=some (Fff_R r):=entT_F (oA_inj encI_Calendar_inj) h
noncomputable def Fff_c : Code:=bodyOf Try.f35
noncomputable def Fff_E : Env:=mkE Try.prog [(61,Ffj_ent)]
def Fff_Q (x : Calendar) (r : Bool) : St→Prop:=QF Fff_E Try.f35 [false] (Fff_A x) (Fff_R r)
theorem Fff_run (c_1 : Calendar) (r : Bool) (h : Fff c_1=some r) : RunF Fff_E Try.f35 [false] 0 (Fff_A c_1) (Fff_R r):=by
 show Run _ _ (Fff_Q c_1 r) [.code Fff_c] _
 refine rin (n:=11) [(0,encI_Calendar c_1)] [] 1 (by kernel_rfl) (by kernel_rfl) (by kernel_rfl) rfl ?_
 unfold Fff at h
 refine ck 9 [1,4] [] [1] [] [.hp 1 0 [] 2 0 0,.isl false ((c_1.Weekend).map I)] [some ⟨0,2,[encI_Calendar c_1]⟩] 65 (by kernel_rfl) ?_
 obtain ⟨r2,hr2,h⟩:=bS h
 refine oq 81 (B (r2)) rfl (e_callV rfl rfl (call_P rfl rfl rfl (avS (shP rfl) (avS (shP rfl) (avS (shP rfl) (avS (shP rfl) (avN))))) (Ffj_F hr2) (.inr rfl) (bl_n) rfl rfl rfl)) ?_
 refine cq 1 [6] [B (r2)] 97 ?_
 obtain ⟨y3,hy3,hy31,hy32⟩:=bJ h
 have j3 : ∀ u3,y3=.inr u3→Run Fff_E 0 (Fff_Q c_1 r) (.code (cR (cR Fff_c)) :: []) (sT 11 [(2,B (u3))] [] 1):=by
   intro u3 hu
   replace h:=hy32 u3 hu
   obtain rfl:=Option.some.inj h
   exact s_ret rfl ⟨_,fin (vs:=[B (u3)]) rfl (absE (absorb_plain rfl) (absEN)) rfl (ou_f (ou_n)),kl_n⟩
 have r3 : ∀ r',y3=.inl r'→∀ st,Fff_Q c_1 r' st→(Fff_Q c_1 r) st:=fun r' e st hq=>by rw [hy31 r' e] at hq; exact hq
 replace h:=hy3
 refine sp 6 h rfl (fun h=>?_) (fun h=>?_)
 · refine cq 2 [8] [.isl false ((c_1.Holidays).map I)] 129 ?_
   obtain ⟨r4,hr4,h⟩:=bS h
   refine oy 145 (B (r4)) rfl (e_callV rfl rfl (call_P rfl rfl rfl (avS (shP rfl) (avS (shP rfl) (avS (shP rfl) (avS (shP rfl) (avN))))) (Ffj_F hr4) (.inr rfl) (bl_n) rfl rfl rfl)) ?_
   refine cq 3 [2] [B (r4)] 177 ?_
   exact rf [2] [] (j3 _ (Option.some.inj h).symm :)
 · refine cq 6 [2] [B (false)] 177 ?_
   exact rf [2] [] (j3 _ (Option.some.inj h).symm :)
theorem Fff_good {G : Go.Ln.Ground} : Good Try.prog G 35 Fff_ent:=good_T (fnOf_good (gl_c Ffj_good (gl_n))) agree_mk (Checked.mixed Try.checked) Try.func35 (n:=1) (m:=0) ⟨rfl,rfl,by decide⟩ (fun _=>⟨rfl,rfl⟩) (fun a r h=>Fff_run a r h)
def Ffi_A : Int→List V:=oA I
def Ffi_R (r : Bool) : V × List V:=(B (r),[])
noncomputable def Ffi_ent : Ent:=entT [false] Ffi_A Ffi_R fun x=>Ffi x
theorem Ffi_F {day_1 : Int} {r} (h : Ffi day_1=some r) : (Ffi_ent).F (Ffi_A day_1)=some (Ffi_R r):=entT_F (oA_inj I_inj) h
noncomputable def Ffi_c : Code:=bodyOf Try.f26
noncomputable def Ffi_E : Env:=mkE Try.prog [(27,Ffn_ent)]
def Ffi_Q (x : Int) (r : Bool) : St→Prop:=QF Ffi_E Try.f26 [false] (Ffi_A x) (Ffi_R r)
theorem Ffi_run (day_1 : Int) (r : Bool) (h : Ffi day_1=some r) : RunF Ffi_E Try.f26 [false] 0 (Ffi_A day_1) (Ffi_R r):=by
 show Run _ _ (Ffi_Q day_1 r) [.code Ffi_c] _
 refine rin (n:=5) [(0,I (day_1))] [] 1 (by kernel_rfl) (by kernel_rfl) (by kernel_rfl) rfl ?_
 unfold Ffi at h
 refine cq 7 [3] [I (day_1)] 33 ?_
 obtain ⟨r2,hr2,h⟩:=bS h
 refine oq 49 (B (r2)) rfl (e_callV rfl rfl (call_P rfl rfl rfl (avS (shP rfl) (avS (shP rfl) (avS (shP rfl) (avN)))) (Ffn_F hr2) (.inr rfl) (bl_n) rfl rfl rfl)) ?_
 refine cq 2 [2] [B (r2)] 65 ?_
 obtain rfl:=Option.some.inj h
 exact s_ret rfl ⟨_,fin (vs:=[B (r2)]) rfl (absE (absorb_plain rfl) (absEN)) rfl (ou_f (ou_n)),kl_n⟩
theorem Ffi_good {G : Go.Ln.Ground} : Good Try.prog G 26 Ffi_ent:=good_T (fnOf_good (gl_c Ffn_good (gl_n))) agree_mk (Checked.mixed Try.checked) Try.func26 (n:=1) (m:=0) ⟨rfl,rfl,by decide⟩ (fun _=>⟨rfl,rfl⟩) (fun a r h=>Ffi_run a r h)
def impl_size_A : Int→List V:=oA I
def impl_size_R (r : Int) : V × List V:=(I (r),[])
noncomputable def impl_size_ent : Ent:=entT [false] impl_size_A impl_size_R fun x=>impl_size x
theorem impl_size_F {n_1 : Int} {r} (h : impl_size n_1=some r) : (impl_size_ent).F (impl_size_A n_1)=some (impl_size_R r):=entT_F (oA_inj I_inj) h
noncomputable def impl_size_c : Code:=bodyOf Try.f47
noncomputable def impl_size_E : Env:=mkE Try.prog []
def impl_size_Q (x : Int) (r : Int) : St→Prop:=QF impl_size_E Try.f47 [false] (impl_size_A x) (impl_size_R r)
theorem impl_size_run (n_1 : Int) (r : Int) (h : impl_size n_1=some r) : RunF impl_size_E Try.f47 [false] 0 (impl_size_A n_1) (impl_size_R r):=by
 show Run _ _ (impl_size_Q n_1 r) [.code impl_size_c] _
 refine rin (n:=7) [(0,I (n_1))] [] 1 (by kernel_rfl) (by kernel_rfl) (by kernel_rfl) rfl ?_
 unfold impl_size at h
 refine cq 12 [2] [I ((if (w64 (0 - n_1)) > n_1 then (w64 (0 - n_1)) else n_1))] 97 ?_
 obtain rfl:=Option.some.inj h
 exact s_ret rfl ⟨_,fin (vs:=[I ((if (w64 (0 - n_1)) > n_1 then (w64 (0 - n_1)) else n_1))]) rfl (absE (absorb_plain rfl) (absEN)) rfl (ou_f (ou_n)),kl_n⟩
theorem impl_size_good {G : Go.Ln.Ground} : Good Try.prog G 47 impl_size_ent:=good_T (fnOf_good (gl_n)) agree_mk (Checked.mixed Try.checked) Try.func47 (n:=1) (m:=0) ⟨rfl,rfl,by decide⟩ (fun _=>⟨rfl,rfl⟩) (fun a r h=>impl_size_run a r h)
def Ffm_A : Int→List V:=oA I
def Ffm_R (r : Int) : V × List V:=(I (r),[])
noncomputable def Ffm_ent : Ent:=entT [false] Ffm_A Ffm_R fun x=>Ffm x
theorem Ffm_F {day_1 : Int} {r} (h : Ffm day_1=some r) : (Ffm_ent).F (Ffm_A day_1)=some (Ffm_R r):=entT_F (oA_inj I_inj) h
noncomputable def Ffm_c : Code:=bodyOf Try.f67
noncomputable def Ffm_E : Env:=mkE Try.prog []
def Ffm_Q (x : Int) (r : Int) : St→Prop:=QF Ffm_E Try.f67 [false] (Ffm_A x) (Ffm_R r)
theorem Ffm_run (day_1 : Int) (r : Int) (h : Ffm day_1=some r) : RunF Ffm_E Try.f67 [false] 0 (Ffm_A day_1) (Ffm_R r):=by
 show Run _ _ (Ffm_Q day_1 r) [.code Ffm_c] _
 refine rin (n:=6) [(0,I (day_1))] [] 1 (by kernel_rfl) (by kernel_rfl) (by kernel_rfl) rfl ?_
 unfold Ffm at h
 refine cq 11 [2] [I (((w64 (day_1 + 5)).tmod 7))] 81 ?_
 obtain rfl:=Option.some.inj h
 exact s_ret rfl ⟨_,fin (vs:=[I (((w64 (day_1 + 5)).tmod 7))]) rfl (absE (absorb_plain rfl) (absEN)) rfl (ou_f (ou_n)),kl_n⟩
theorem Ffm_good {G : Go.Ln.Ground} : Good Try.prog G 67 Ffm_ent:=good_T (fnOf_good (gl_n)) agree_mk (Checked.mixed Try.checked) Try.func67 (n:=1) (m:=0) ⟨rfl,rfl,by decide⟩ (fun _=>⟨rfl,rfl⟩) (fun a r h=>Ffm_run a r h)
def Fft_A : ((List Int) × Int)→List V:=cA (slE I) (oA I)
def Fft_R (r : Int) : V × List V:=(I (r),[])
noncomputable def Fft_ent : Ent:=entT [false,false] Fft_A Fft_R fun x=>Fft x.1 x.2
theorem Fft_F {s_1 : List Int} {v_2 : Int} {r} (h : Fft s_1 v_2=some r) : (Fft_ent).F (Fft_A (s_1,v_2))=some (Fft_R r):=entT_F (cA_inj (isl_inj I_inj) (oA_inj I_inj)) h
noncomputable def Fft_c : Code:=bodyOf Try.f80
noncomputable def Fft_E : Env:=mkE Try.prog []
def Fft_Q (x : (List Int) × Int) (r : Int) : St→Prop:=QF Fft_E Try.f80 [false,false] (Fft_A x) (Fft_R r)
theorem Fft_la_run (s_1 : List Int) (v_2 : Int)  {Q : St→Prop} {K : List It} (hK : noD K=true) : ∀ (x3 : Int) (y : Int ⊕ Unit),Fft_la s_1 v_2 x3=some y→(∀ r',y=.inl r'→∀ st,Fft_Q (s_1,v_2) r' st→Q st)→(∀ u : Unit,y=.inr u→Run Fft_E 0 Q K (sT 19 [] [] 1))→Run Fft_E 0 Q (.code (cL (cL (cR (cL (cR Fft_c))))) :: .lp (cL (cL (cR (cL (cR Fft_c))))) :: .blk 0 :: K) (sT 19 [(0,.isl false ((s_1).map I)),(1,I (v_2)),(7,I ((len s_1))),(8,I (x3))] [] 1):=by
 refine fix_indP (Fft_la_fin s_1 v_2) ?_
 intro self ih x3 y h hr hn
 unfold Fft_la_F at h
 refine cq 5 [9] [B ((decide (x3 < (len s_1))))] 17 ?_
 refine sq h (fun h=>?_) (fun h=>?_)
 · refine aq 1 ?_
   refine cq 12 [5,11,12,13] [I (x3),I (v_2),.isl false ((s_1).map I),I (x3)] 97 ?_
   obtain ⟨e4,he4,h⟩:=bS h
   refine oq 113 (.iptr (I (e4)) 0) rfl (e_indexAddr rfl rfl rfl (ix_islE rfl rfl rfl rfl he4)) ?_
   refine cq 3 [16] [B ((v_2 == e4))] 145 ?_
   refine sq h (fun h=>?_) (fun h=>?_)
   · refine cq 5 [4] [I (x3)] 177 ?_
     exact s_ret rfl (hr _ (Option.some.inj h).symm _ ⟨_,fin (vs:=[I (x3)]) rfl (absE (absorb_plain rfl) (absEN)) rfl (ou_f (ou_f (ou_n))),kl_n⟩)
   · refine aq 1 ?_
     refine cq 5 [8] [I ((w64 (x3 + 1)))] 177 ?_
     refine s_lp ?_
     exact rf [0,1,7,8] [] (ih _ _ h hr hn :)
 · refine aq 1 ?_
   exact rf [] [] (hn _ (Option.some.inj h).symm :) (hk:=hK)
theorem Fft_run (s_1 : List Int) (v_2 : Int) (r : Int) (h : Fft s_1 v_2=some r) : RunF Fft_E Try.f80 [false,false] 0 (Fft_A (s_1,v_2)) (Fft_R r):=by
 show Run _ _ (Fft_Q (s_1,v_2) r) [.code Fft_c] _
 refine rin (n:=19) [(0,.isl false ((s_1).map I)),(1,I (v_2))] [] 1 (by kernel_rfl) (by kernel_rfl) (by kernel_rfl) rfl ?_
 unfold Fft at h
 refine cq 8 [6] [.isl false ((s_1).map I)] 33 ?_
 refine oq 49 (I ((len s_1))) rfl (e_len rfl rfl rfl (l_isl rfl)) ?_
 refine cq 3 [8] [I (0)] 65 ?_
 obtain ⟨y5,hy5,hy51,hy52⟩:=bJ h
 refine s_loop rfl ?_
 refine rf [0,1,7,8] [] (Fft_la_run s_1 v_2 rfl 0 _ hy5 (fun r' e st hq=>by rw [hy51 r' e] at hq; exact hq) fun u5 hu=>?_)
 replace h:=hy52 u5 hu
 refine cq 4 [4] [I ((-1))] 17 ?_
 obtain rfl:=Option.some.inj h
 exact s_ret rfl ⟨_,fin (vs:=[I ((-1))]) rfl (absE (absorb_plain rfl) (absEN)) rfl (ou_f (ou_f (ou_n))),kl_n⟩
theorem Fft_good {G : Go.Ln.Ground} : Good Try.prog G 80 Fft_ent:=good_T (fnOf_good (gl_n)) agree_mk (Checked.mixed Try.checked) Try.func80 (n:=2) (m:=0) ⟨rfl,rfl,by decide⟩ (fun _=>⟨rfl,rfl⟩) (fun a r h=>Fft_run a.1 a.2 r h)
def Ffs_A : ((List Int) × Int)→List V:=cA (slE I) (oA I)
def Ffs_R (r : Bool) : V × List V:=(B (r),[])
noncomputable def Ffs_ent : Ent:=entT [false,false] Ffs_A Ffs_R fun x=>Ffs x.1 x.2
theorem Ffs_F {s_1 : List Int} {v_2 : Int} {r} (h : Ffs s_1 v_2=some r) : (Ffs_ent).F (Ffs_A (s_1,v_2))=some (Ffs_R r):=entT_F (cA_inj (isl_inj I_inj) (oA_inj I_inj)) h
noncomputable def Ffs_c : Code:=bodyOf Try.f66
noncomputable def Ffs_E : Env:=mkE Try.prog [(80,Fft_ent)]
def Ffs_Q (x : (List Int) × Int) (r : Bool) : St→Prop:=QF Ffs_E Try.f66 [false,false] (Ffs_A x) (Ffs_R r)
theorem Ffs_run (s_1 : List Int) (v_2 : Int) (r : Bool) (h : Ffs s_1 v_2=some r) : RunF Ffs_E Try.f66 [false,false] 0 (Ffs_A (s_1,v_2)) (Ffs_R r):=by
 show Run _ _ (Ffs_Q (s_1,v_2) r) [.code Ffs_c] _
 refine rin (n:=9) [(0,.isl false ((s_1).map I)),(1,I (v_2))] [] 1 (by kernel_rfl) (by kernel_rfl) (by kernel_rfl) rfl ?_
 unfold Ffs at h
 refine cq 8 [5,6] [.isl false ((s_1).map I),I (v_2)] 49 ?_
 obtain ⟨r3,hr3,h⟩:=bS h
 refine oq 65 (I (r3)) rfl (e_callV rfl rfl (call_P rfl rfl rfl (avS (shP rfl) (avS (shP rfl) (avN))) (Fft_F hr3) (.inr rfl) (bl_n) rfl rfl rfl)) ?_
 refine cq 3 [4] [B ((decide (r3 ≥ 0)))] 97 ?_
 obtain rfl:=Option.some.inj h
 exact s_ret rfl ⟨_,fin (vs:=[B ((decide (r3 ≥ 0)))]) rfl (absE (absorb_plain rfl) (absEN)) rfl (ou_f (ou_f (ou_n))),kl_n⟩
theorem Ffs_good {G : Go.Ln.Ground} : Good Try.prog G 66 Ffs_ent:=good_T (fnOf_good (gl_c Fft_good (gl_n))) agree_mk (Checked.mixed Try.checked) Try.func66 (n:=2) (m:=0) ⟨rfl,rfl,by decide⟩ (fun _=>⟨rfl,rfl⟩) (fun a r h=>Ffs_run a.1 a.2 r h)
def Ffh_A : (Calendar × Int)→List V:=cA encI_Calendar (oA I)
def Ffh_R (r : Bool) : V × List V:=(B (r),[])
noncomputable def Ffh_ent : Ent:=entT [false,false] Ffh_A Ffh_R fun x=>Ffh x.1 x.2
theorem Ffh_F {c_1 : Calendar} {day_2 : Int} {r} (h : Ffh c_1 day_2=some r) : (Ffh_ent).F (Ffh_A (c_1,day_2))=some (Ffh_R r):=entT_F (cA_inj encI_Calendar_inj (oA_inj I_inj)) h
noncomputable def Ffh_c : Code:=bodyOf Try.f49
noncomputable def Ffh_E : Env:=mkE Try.prog [(67,Ffm_ent),(66,Ffs_ent)]
def Ffh_Q (x : Calendar × Int) (r : Bool) : St→Prop:=QF Ffh_E Try.f49 [false,false] (Ffh_A x) (Ffh_R r)
theorem Ffh_run (c_1 : Calendar) (day_2 : Int) (r : Bool) (h : Ffh c_1 day_2=some r) : RunF Ffh_E Try.f49 [false,false] 0 (Ffh_A (c_1,day_2)) (Ffh_R r):=by
 show Run _ _ (Ffh_Q (c_1,day_2) r) [.code Ffh_c] _
 refine rin (n:=18) [(0,encI_Calendar c_1),(1,I (day_2))] [] 1 (by kernel_rfl) (by kernel_rfl) (by kernel_rfl) rfl ?_
 unfold Ffh at h
 refine ck 6 [2] [] [1] [] [.hp 1 0 [] 2 0 0] [some ⟨0,2,[encI_Calendar c_1]⟩] 33 (by kernel_rfl) ?_
 refine s_draw [0,1,0,4,15,31,63,127,255,127,1023,2047,4095,8191] rfl (by decide +kernel) ?_
 refine dq [1] [] (.hp 1 0 [] 2 0 0) rfl (e_fieldAddr rfl rfl rfl) ?_
 refine dq [1] [] (.isl false ((c_1.Weekend).map I)) rfl (e_ld rfl rfl) ?_
 refine dk 1 [7] [I (day_2)] ?_
 obtain ⟨r3,hr3,h⟩:=bS h
 refine dq [] [] (I (r3)) rfl (e_callV rfl rfl (call_P rfl rfl rfl (avS (shP rfl) (avN)) (Ffm_F hr3) (.inr rfl) (bl_n) rfl rfl rfl)) ?_ (w_callO rfl rfl rfl rfl (avS (shP rfl) (avN)) (Ffm_F hr3) (.inr rfl) rfl)
 obtain ⟨r4,hr4,h⟩:=bS h
 refine dq [] [] (B (r4)) rfl (e_callV rfl rfl (call_P rfl rfl rfl (avS (shP rfl) (avS (shP rfl) (avN))) (Ffs_F hr4) (.inr rfl) (bl_n) rfl rfl rfl)) ?_ (w_callO rfl rfl rfl rfl (avS (shP rfl) (avS (shP rfl) (avN))) (Ffs_F hr4) (.inr rfl) rfl)
 refine dk 2 [11,10] [B ((!r4)),B ((!r4))] ?_
 obtain ⟨y5,hy5,hy51,hy52⟩:=bJ h
 have j5 : ∀ u5,y5=.inr u5→Run Ffh_E 0 (Ffh_Q (c_1,day_2) r) (.code (cR (cR Ffh_c)) :: []) (sT 18 [(4,B (u5))] [] 1):=by
   intro u5 hu
   replace h:=hy52 u5 hu
   obtain rfl:=Option.some.inj h
   exact s_ret rfl ⟨_,fin (vs:=[B (u5)]) rfl (absE (absorb_plain rfl) (absEN)) rfl (ou_f (ou_f (ou_n))),kl_n⟩
 have r5 : ∀ r',y5=.inl r'→∀ st,Ffh_Q (c_1,day_2) r' st→(Ffh_Q (c_1,day_2) r) st:=fun r' e st hq=>by rw [hy51 r' e] at hq; exact hq
 replace h:=hy5
 refine sp 11 h rfl (fun h=>?_) (fun h=>?_)
 · refine dy [1] [] (.hp 1 0 [] 2 0 1) rfl (e_fieldAddr rfl rfl rfl) ?_
   refine dy [1] [] (.isl false ((c_1.Holidays).map I)) rfl (e_ld rfl rfl) ?_
   refine dk 1 [14] [I (day_2)] ?_
   obtain ⟨r6,hr6,h⟩:=bS h
   refine dy [] [] (B (r6)) rfl (e_callV rfl rfl (call_P rfl rfl rfl (avS (shP rfl) (avS (shP rfl) (avN))) (Ffs_F hr6) (.inr rfl) (bl_n) rfl rfl rfl)) ?_ (w_callO rfl rfl rfl rfl (avS (shP rfl) (avS (shP rfl) (avN))) (Ffs_F hr6) (.inr rfl) rfl)
   refine dk 3 [4,17,16] [B ((!r6)),B ((!r6)),B ((!r6))] ?_
   refine de 257 rfl rfl ?_
   exact rf [4] [] (j5 _ (Option.some.inj h).symm :)
 · refine dk 7 [4,17,16,15,14,13,12] [B (false),B (false),.und,.und,.und,.und,.und] ?_
   refine de 257 rfl rfl ?_
   exact rf [4] [] (j5 _ (Option.some.inj h).symm :)
theorem Ffh_good {G : Go.Ln.Ground} : Good Try.prog G 49 Ffh_ent:=good_T (fnOf_good (gl_c Ffm_good (gl_c Ffs_good (gl_n)))) agree_mk (Checked.mixed Try.checked) Try.func49 (n:=2) (m:=0) ⟨rfl,rfl,by decide⟩ (fun _=>⟨rfl,rfl⟩) (fun a r h=>Ffh_run a.1 a.2 r h)
def Ffk_A : (Calendar × Int × Int)→List V:=cA encI_Calendar (cA I (oA I))
def Ffk_R (r : Int) : V × List V:=(I (r),[])
noncomputable def Ffk_ent : Ent:=entT [false,false,false] Ffk_A Ffk_R fun x=>Ffk x.1 x.2.1 x.2.2
theorem Ffk_F {c_1 : Calendar} {day_2 : Int} {step_3 : Int} {r} (h : Ffk c_1 day_2 step_3=some r) : (Ffk_ent).F (Ffk_A (c_1,day_2,step_3))=some (Ffk_R r):=entT_F (cA_inj encI_Calendar_inj (cA_inj I_inj (oA_inj I_inj))) h
noncomputable def Ffk_c : Code:=bodyOf Try.f38
noncomputable def Ffk_E : Env:=mkE Try.prog [(26,Ffi_ent),(49,Ffh_ent)]
def Ffk_Q (x : Calendar × Int × Int) (r : Int) : St→Prop:=QF Ffk_E Try.f38 [false,false,false] (Ffk_A x) (Ffk_R r)
theorem Ffk_la_run (c_1 : Calendar) (day_2 : Int) (step_3 : Int)  {Q : St→Prop} {K : List It} (hK : noD K=true) : ∀ (x4 : Int) (y : Int ⊕ Unit),Ffk_la c_1 day_2 step_3 x4=some y→(∀ r',y=.inl r'→∀ st,Ffk_Q (c_1,day_2,step_3) r' st→Q st)→(∀ u : Unit,y=.inr u→Run Ffk_E 0 Q K (sT 16 [] [] 1))→Run Ffk_E 0 Q (.code (cL (cL (cL (cR Ffk_c)))) :: .lp (cL (cL (cL (cR Ffk_c)))) :: .blk 0 :: K) (sT 16 [(1,I (x4)),(2,I (step_3)),(3,.hp 1 0 [] 2 0 0)] [⟨0,2,[encI_Calendar c_1]⟩] 2):=by
 refine fix_indP (Ffk_la_fin c_1 day_2 step_3) ?_
 intro self ih x4 y h hr hn
 unfold Ffk_la_F at h
 refine cq 4 [7] [I (x4)] 18 ?_
 obtain ⟨r5,hr5,h⟩:=bS h
 refine oq 34 (B (r5)) rfl (e_callV rfl rfl (call_P rfl rfl rfl (avS (shP rfl) (avN)) (Ffi_F hr5) (.inr rfl) (bl_n) rfl rfl rfl)) ?_
 refine aq 1 ?_
 refine sq h (fun h=>?_) (fun h=>?_)
 · refine aq 1 ?_
   refine cq 6 [9,10] [encI_Calendar c_1,I (x4)] 66 ?_
   obtain ⟨r6,hr6,h⟩:=bS h
   refine oq 82 (B (r6)) rfl (e_callV rfl rfl (call_P rfl rfl rfl (avS (shP rfl) (avS (shP rfl) (avN))) (Ffh_F hr6) (.inr rfl) (bl_n) rfl rfl rfl)) ?_
   refine aq 1 ?_
   refine sq h (fun h=>?_) (fun h=>?_)
   · refine cq 5 [6] [I (x4)] 114 ?_
     exact s_ret rfl (hr _ (Option.some.inj h).symm _ ⟨_,fin (vs:=[I (x4)]) rfl (absE (absorb_plain rfl) (absEN)) rfl (ou_f (ou_f (ou_f (ou_n)))),kl_n⟩)
   · refine aq 1 ?_
     refine cq 7 [1] [I ((w64 (x4 + step_3)))] 146 ?_
     refine s_lp ?_
     exact rf [1,2,3] [1] (ih _ _ h hr hn :)
 · refine aq 1 ?_
   exact rf [] [] (hn _ (Option.some.inj h).symm :) (hk:=hK)
theorem Ffk_run (c_1 : Calendar) (day_2 : Int) (step_3 : Int) (r : Int) (h : Ffk c_1 day_2 step_3=some r) : RunF Ffk_E Try.f38 [false,false,false] 0 (Ffk_A (c_1,day_2,step_3)) (Ffk_R r):=by
 show Run _ _ (Ffk_Q (c_1,day_2,step_3) r) [.code Ffk_c] _
 refine rin (n:=16) [(0,encI_Calendar c_1),(1,I (day_2)),(2,I (step_3))] [] 1 (by kernel_rfl) (by kernel_rfl) (by kernel_rfl) rfl ?_
 unfold Ffk at h
 refine ck 7 [3] [] [1] [] [.hp 1 0 [] 2 0 0] [some ⟨0,2,[encI_Calendar c_1]⟩] 33 (by kernel_rfl) ?_
 obtain ⟨y7,hy7,hy71,hy72⟩:=bJ h
 refine s_loop rfl ?_
 refine rf [1,2,3] [1] (Ffk_la_run c_1 day_2 step_3 rfl day_2 _ hy7 (fun r' e st hq=>by rw [hy71 r' e] at hq; exact hq) fun u7 hu=>?_)
 replace h:=hy72 u7 hu
 refine cq 4 [6] [I ((-1))] 17 ?_
 obtain rfl:=Option.some.inj h
 exact s_ret rfl ⟨_,fin (vs:=[I ((-1))]) rfl (absE (absorb_plain rfl) (absEN)) rfl (ou_f (ou_f (ou_f (ou_n)))),kl_n⟩
theorem Ffk_good {G : Go.Ln.Ground} : Good Try.prog G 38 Ffk_ent:=good_T (fnOf_good (gl_c Ffi_good (gl_c Ffh_good (gl_n)))) agree_mk (Checked.mixed Try.checked) Try.func38 (n:=3) (m:=0) ⟨rfl,rfl,by decide⟩ (fun _=>⟨rfl,rfl⟩) (fun a r h=>Ffk_run a.1 a.2.1 a.2.2 r h)
def Ffc_A : (Calendar × Int × Int)→List V:=cA encI_Calendar (cA I (oA I))
def Ffc_R (r : Int × Bool) : V × List V:=(.tup [I (r.1),B (r.2)],[])
noncomputable def Ffc_ent : Ent:=entT [false,false,false] Ffc_A Ffc_R fun x=>Ffc x.1 x.2.1 x.2.2
theorem Ffc_F {c_1 : Calendar} {day_2 : Int} {n_3 : Int} {r} (h : Ffc c_1 day_2 n_3=some r) : (Ffc_ent).F (Ffc_A (c_1,day_2,n_3))=some (Ffc_R r):=entT_F (cA_inj encI_Calendar_inj (cA_inj I_inj (oA_inj I_inj))) h
noncomputable def Ffc_c : Code:=bodyOf Try.f13
noncomputable def Ffc_E : Env:=mkE Try.prog [(35,Fff_ent),(47,impl_size_ent),(38,Ffk_ent),(26,Ffi_ent),(27,Ffn_ent)]
def Ffc_Q (x : Calendar × Int × Int) (r : Int × Bool) : St→Prop:=QF Ffc_E Try.f13 [false,false,false] (Ffc_A x) (Ffc_R r)
theorem Ffc_la_run (c_1 : Calendar) (day_2 : Int) (n_3 : Int) (r7 : Int) (u6 : Int) {Q : St→Prop} {K : List It} (hK : noD K=true) : ∀ (x8 : Int × Int) (y : (Int × Bool) ⊕ Int),Ffc_la c_1 day_2 n_3 r7 u6 x8=some y→(∀ r',y=.inl r'→∀ st,Ffc_Q (c_1,day_2,n_3) r' st→Q st)→(∀ u : Int,y=.inr u→Run Ffc_E 0 Q K (sT 38 [(1,I (u))] [] 1))→Run Ffc_E 0 Q (.code (cL (cL (cR (cL (cR (cR (cR (cR Ffc_c)))))))) :: .lp (cL (cL (cR (cL (cR (cR (cR (cR Ffc_c)))))))) :: .blk 0 :: K) (sT 38 [(1,I (x8.1)),(3,.hp 1 0 [] 2 0 0),(8,I (u6)),(25,I (r7)),(26,I (x8.2))] [⟨0,2,[encI_Calendar c_1]⟩] 2):=by
 refine fix_indP (Ffc_la_fin c_1 day_2 n_3 r7 u6) ?_
 intro self ih x8 y h hr hn
 unfold Ffc_la_F at h
 refine cq 5 [27] [B ((decide (x8.2 < r7)))] 18 ?_
 refine sq h (fun h=>?_) (fun h=>?_)
 · refine aq 1 ?_
   refine cq 9 [28,31,32] [encI_Calendar c_1,I ((w64 (x8.1 + u6))),I (u6)] 98 ?_
   obtain ⟨r9,hr9,h⟩:=bS h
   refine oq 114 (I (r9)) rfl (e_callV rfl rfl (call_P rfl rfl rfl (avS (shP rfl) (avS (shP rfl) (avS (shP rfl) (avN)))) (Ffk_F hr9) (.inr rfl) (bl_n) rfl rfl rfl)) ?_
   refine cq 7 [1,35] [I (r9),B ((decide (r9 < 0)))] 162 ?_
   refine sq h (fun h=>?_) (fun h=>?_)
   · refine cq 5 [6,7] [I (0),B (false)] 194 ?_
     exact s_ret rfl (hr _ (Option.some.inj h).symm _ ⟨_,fin (vs:=[I (0),B (false)]) rfl (absE (absorb_plain rfl) (absE (absorb_plain rfl) (absEN))) rfl (ou_f (ou_f (ou_f (ou_n)))),kl_n⟩)
   · refine aq 1 ?_
     refine cq 5 [26] [I ((w64 (x8.2 + 1)))] 194 ?_
     refine s_lp ?_
     exact rf [1,3,8,25,26] [1] (ih _ _ h hr hn :)
 · refine aq 1 ?_
   exact rf [1] [] (hn _ (Option.some.inj h).symm :) (hk:=hK)
theorem Ffc_run (c_1 : Calendar) (day_2 : Int) (n_3 : Int) (r : Int × Bool) (h : Ffc c_1 day_2 n_3=some r) : RunF Ffc_E Try.f13 [false,false,false] 0 (Ffc_A (c_1,day_2,n_3)) (Ffc_R r):=by
 show Run _ _ (Ffc_Q (c_1,day_2,n_3) r) [.code Ffc_c] _
 refine rin (n:=38) [(0,encI_Calendar c_1),(1,I (day_2)),(2,I (n_3))] [] 1 (by kernel_rfl) (by kernel_rfl) (by kernel_rfl) rfl ?_
 unfold Ffc at h
 refine ck 10 [3,9] [] [1] [] [.hp 1 0 [] 2 0 0,encI_Calendar c_1] [some ⟨0,2,[encI_Calendar c_1]⟩] 65 (by kernel_rfl) ?_
 obtain ⟨r4,hr4,h⟩:=bS h
 refine oq 81 (B (r4)) rfl (e_callV rfl rfl (call_P rfl rfl rfl (avS (shP rfl) (avN)) (Fff_F hr4) (.inr rfl) (bl_n) rfl rfl rfl)) ?_
 refine cq 2 [12] [B ((!r4))] 113 ?_
 obtain ⟨y5,hy5,hy51,hy52⟩:=bJ h
 have j5 : ∀ u5,y5=.inr u5→Run Ffc_E 0 (Ffc_Q (c_1,day_2,n_3) r) (.code (cR (cL (cR Ffc_c))) :: .code (cR (cR Ffc_c)) :: []) (sT 38 [(1,I (day_2)),(2,I (n_3)),(3,.hp 1 0 [] 2 0 0),(21,B (u5))] [⟨0,2,[encI_Calendar c_1]⟩] 2):=by
   intro u5 hu
   replace h:=hy52 u5 hu
   refine sq h (fun h=>?_) (fun h=>?_)
   · refine cq 5 [6,7] [I (0),B (false)] 34 ?_
     obtain rfl:=Option.some.inj h
     exact s_ret rfl ⟨_,fin (vs:=[I (0),B (false)]) rfl (absE (absorb_plain rfl) (absE (absorb_plain rfl) (absEN))) rfl (ou_f (ou_f (ou_f (ou_n)))),kl_n⟩
   · refine aq 1 ?_
     refine cq 10 [8,23] [I (1),B ((decide (n_3 < 0)))] 50 ?_
     obtain ⟨u6,hu6,h⟩:=lJ h
     have j6 : Run Ffc_E 0 (Ffc_Q (c_1,day_2,n_3) r) (.code (cR (cR (cR (cR Ffc_c)))) :: []) (sT 38 [(1,I (day_2)),(2,I (n_3)),(3,.hp 1 0 [] 2 0 0),(8,I (u6))] [⟨0,2,[encI_Calendar c_1]⟩] 2):=by
       refine cq 4 [24] [I (n_3)] 18 ?_
       obtain ⟨r7,hr7,h⟩:=bS h
       refine oq 34 (I (r7)) rfl (e_callV rfl rfl (call_P rfl rfl rfl (avS (shP rfl) (avN)) (impl_size_F hr7) (.inr rfl) (bl_n) rfl rfl rfl)) ?_
       refine cq 3 [26] [I (0)] 50 ?_
       obtain ⟨y10,hy10,hy101,hy102⟩:=bJ h
       refine s_loop rfl ?_
       refine rf [1,3,8,25,26] [1] (Ffc_la_run c_1 day_2 n_3 r7 u6 rfl (day_2,0) _ hy10 (fun r' e st hq=>by rw [hy101 r' e] at hq; exact hq) fun u10 hu=>?_)
       replace h:=hy102 u10 hu
       refine cq 6 [6,7] [I (u10),B (true)] 49 ?_
       obtain rfl:=Option.some.inj h
       exact s_ret rfl ⟨_,fin (vs:=[I (u10),B (true)]) rfl (absE (absorb_plain rfl) (absE (absorb_plain rfl) (absEN))) rfl (ou_f (ou_f (ou_f (ou_n)))),kl_n⟩
     replace h:=hu6
     clear hu6
     refine scp h rfl rfl (fun h=>?_) (fun h=>?_)
     · refine cq 3 [8] [I ((-1))] 66 ?_
       subst h
       exact rf [1,2,3,8] [1] (j6 :)
     · refine aq 1 ?_
       subst h
       exact rf [1,2,3,8] [1] (j6 :)
 have r5 : ∀ r',y5=.inl r'→∀ st,Ffc_Q (c_1,day_2,n_3) r' st→(Ffc_Q (c_1,day_2,n_3) r) st:=fun r' e st hq=>by rw [hy51 r' e] at hq; exact hq
 replace h:=hy5
 refine sp 12 h rfl (fun h=>?_) (fun h=>?_)
 · refine cq 10 [21] [B (true)] 257 ?_
   exact rf [1,2,3,21] [1] (j5 _ (Option.some.inj h).symm :)
 · refine cq 1 [13] [I (day_2)] 129 ?_
   obtain ⟨r11,hr11,h⟩:=bS h
   refine oy 145 (B (r11)) rfl (e_callV rfl rfl (call_P rfl rfl rfl (avS (shP rfl) (avN)) (Ffi_F hr11) (.inr rfl) (bl_n) rfl rfl rfl)) ?_
   refine cq 3 [17] [B ((!r11))] 193 ?_
   obtain ⟨y12,hy12,hy121,hy122⟩:=bL h
   have j12 : ∀ u12,y12=.inr u12→Run Ffc_E 0 (Ffc_Q (c_1,day_2,n_3) r) (.code (cR (cL (cR Ffc_c))) :: .code (cR (cR Ffc_c)) :: []) (sT 38 [(1,I (day_2)),(2,I (n_3)),(3,.hp 1 0 [] 2 0 0),(21,B (u12))] [⟨0,2,[encI_Calendar c_1]⟩] 2):=by
     intro u12 hu
     replace h:=hy122 u12 hu
     exact rf [1,2,3,21] [1] (j5 _ (Option.some.inj h).symm :)
   have r12 : ∀ r',y12=.inl r'→∀ st,Ffc_Q (c_1,day_2,n_3) r' st→(Ffc_Q (c_1,day_2,n_3) r) st:=fun r' e st hq=>r5 r' (hy121 r' e) st hq
   replace h:=hy12
   refine sp 17 h rfl (fun h=>?_) (fun h=>?_)
   · refine cq 5 [21] [B (true)] 257 ?_
     exact rf [1,2,3,21] [1] (j12 _ (Option.some.inj h).symm :)
   · refine cq 1 [18] [I (n_3)] 209 ?_
     obtain ⟨r13,hr13,h⟩:=bS h
     refine oy 225 (B (r13)) rfl (e_callV rfl rfl (call_P rfl rfl rfl (avS (shP rfl) (avS (shP rfl) (avS (shP rfl) (avN)))) (Ffn_F hr13) (.inr rfl) (bl_n) rfl rfl rfl)) ?_
     refine cq 3 [21] [B ((!r13))] 257 ?_
     exact rf [1,2,3,21] [1] (j12 _ (Option.some.inj h).symm :)
theorem Ffc_good {G : Go.Ln.Ground} : Good Try.prog G 13 Ffc_ent:=good_T (fnOf_good (gl_c Fff_good (gl_c impl_size_good (gl_c Ffk_good (gl_c Ffi_good (gl_c Ffn_good (gl_n))))))) agree_mk (Checked.mixed Try.checked) Try.func13 (n:=3) (m:=0) ⟨rfl,rfl,by decide⟩ (fun _=>⟨rfl,rfl⟩) (fun a r h=>Ffc_run a.1 a.2.1 a.2.2 r h)
def spec_l1In_A : (Int × Int × Int)→List V:=cA I (cA I (oA I))
def spec_l1In_R (r : Bool) : V × List V:=(B (r),[])
noncomputable def spec_l1In_ent : Ent:=entT [false,false,false] spec_l1In_A spec_l1In_R fun x=>spec_l1In x.1 x.2.1 x.2.2
theorem spec_l1In_F {x_1 : Int} {a_2 : Int} {b_3 : Int} {r} (h : spec_l1In x_1 a_2 b_3=some r) : (spec_l1In_ent).F (spec_l1In_A (x_1,a_2,b_3))=some (spec_l1In_R r):=entT_F (cA_inj I_inj (cA_inj I_inj (oA_inj I_inj))) h
noncomputable def spec_l1In_c : Code:=bodyOf Try.f30
noncomputable def spec_l1In_E : Env:=mkE Try.prog []
def spec_l1In_Q (x : Int × Int × Int) (r : Bool) : St→Prop:=QF spec_l1In_E Try.f30 [false,false,false] (spec_l1In_A x) (spec_l1In_R r)
theorem spec_l1In_run (x_1 : Int) (a_2 : Int) (b_3 : Int) (r : Bool) (h : spec_l1In x_1 a_2 b_3=some r) : RunF spec_l1In_E Try.f30 [false,false,false] 0 (spec_l1In_A (x_1,a_2,b_3)) (spec_l1In_R r):=by
 show Run _ _ (spec_l1In_Q (x_1,a_2,b_3) r) [.code spec_l1In_c] _
 refine rin (n:=15) [(0,I (x_1)),(1,I (a_2)),(2,I (b_3))] [] 1 (by kernel_rfl) (by kernel_rfl) (by kernel_rfl) rfl ?_
 unfold spec_l1In at h
 refine cq 10 [10] [B ((decide (x_1 ≥ a_2)))] 81 ?_
 obtain ⟨u4,hu4,h⟩:=lJ h
 have j4 : Run spec_l1In_E 0 (spec_l1In_Q (x_1,a_2,b_3) r) (.code (cR (cR spec_l1In_c)) :: []) (sT 15 [(6,B (u4))] [] 1):=by
   obtain rfl:=Option.some.inj h
   exact s_ret rfl ⟨_,fin (vs:=[B (u4)]) rfl (absE (absorb_plain rfl) (absEN)) rfl (ou_f (ou_f (ou_f (ou_n)))),kl_n⟩
 replace h:=hu4
 clear hu4
 refine sp 10 h rfl (fun h=>?_) (fun h=>?_)
 · refine cq 6 [6] [B ((decide (x_1 ≤ b_3)))] 161 ?_
   subst h
   exact rf [6] [] (j4 :)
 · refine cq 6 [6] [B (false)] 161 ?_
   subst h
   exact rf [6] [] (j4 :)
theorem spec_l1In_good {G : Go.Ln.Ground} : Good Try.prog G 30 spec_l1In_ent:=good_T (fnOf_good (gl_n)) agree_mk (Checked.mixed Try.checked) Try.func30 (n:=3) (m:=0) ⟨rfl,rfl,by decide⟩ (fun _=>⟨rfl,rfl⟩) (fun a r h=>spec_l1In_run a.1 a.2.1 a.2.2 r h)
def Ffcd_A : ((List Int) × Int × Int)→List V:=cA (slE I) (cA I (oA I))
def Ffcd_R (r : Bool) : V × List V:=(B (r),[])
noncomputable def Ffcd_ent : Ent:=entT [false,false,false] Ffcd_A Ffcd_R fun x=>Ffcd x.1 x.2.1 x.2.2
theorem Ffcd_F {l_1 : List Int} {lo_2 : Int} {hi_3 : Int} {r} (h : Ffcd l_1 lo_2 hi_3=some r) : (Ffcd_ent).F (Ffcd_A (l_1,lo_2,hi_3))=some (Ffcd_R r):=entT_F (cA_inj (isl_inj I_inj) (cA_inj I_inj (oA_inj I_inj))) h
noncomputable def Ffcd_c : Code:=bodyOf Try.f63
noncomputable abbrev Ffcd_ka : Code:=cL (cL (cR (cL (cR Ffcd_c))))
noncomputable def Ffcd_E : Env:=mkE Try.prog [(30,spec_l1In_ent)]
def Ffcd_Q (x : (List Int) × Int × Int) (r : Bool) : St→Prop:=QF Ffcd_E Try.f63 [false,false,false] (Ffcd_A x) (Ffcd_R r)
theorem Ffcd_la_run (l_1 : List Int) (lo_2 : Int) (hi_3 : Int)  {Q : St→Prop} {K : List It} (hK : noD K=true) : ∀ (x4 : Int) (y : Bool ⊕ Unit),Ffcd_la l_1 lo_2 hi_3 x4=some y→(∀ r',y=.inl r'→∀ st,Ffcd_Q (l_1,lo_2,hi_3) r' st→Q st)→(∀ u : Unit,y=.inr u→Run Ffcd_E 0 Q K (sT 38 [] [] 1))→Run Ffcd_E 0 Q (.code Ffcd_ka :: .lp Ffcd_ka :: .blk 0 :: K) (sT 38 [(0,.isl false ((l_1).map I)),(1,I (lo_2)),(2,I (hi_3)),(7,I (x4))] [] 1):=by
 refine fix_indP (Ffcd_la_fin l_1 lo_2 hi_3) ?_
 intro self ih x4 y h hr hn
 unfold Ffcd_la_F at h
 refine cq 5 [8,9] [I (x4),.isl false ((l_1).map I)] 33 ?_
 refine oq 49 (I ((len l_1))) rfl (e_len rfl rfl rfl (l_isl rfl)) ?_
 refine cq 2 [11] [B ((decide (x4 < (len l_1))))] 65 ?_
 refine sq h (fun h=>?_) (fun h=>?_)
 · refine aq 1 ?_
   refine aq 3 ?_
   refine s_draw [0,0,3,7,0,0,63,127,255,511,1023,2047,4095,4095,12287,32767,65535,4095,4095,397311,921599,2097151,4194303,8388607] rfl (by decide +kernel) ?_
   refine dk 2 [15,14] [I (x4),.isl false ((l_1).map I)] ?_
   obtain ⟨e5,he5,h⟩:=bS h
   refine dq [] [] (.iptr (I (e5)) 0) rfl (e_indexAddr rfl rfl rfl (ix_islE rfl rfl rfl rfl he5)) ?_
   refine dq [] [] (I (e5)) rfl (e_ld rfl rfl) ?_
   refine dk 2 [19,18] [I (hi_3),I (lo_2)] ?_
   obtain ⟨r6,hr6,h⟩:=bS h
   refine dq [] [] (B (r6)) rfl (e_callV rfl rfl (call_P rfl rfl rfl (avS (shP rfl) (avS (shP rfl) (avS (shP rfl) (avN)))) (spec_l1In_F hr6) (.inr rfl) (bl_n) rfl rfl rfl)) ?_ (w_callO rfl rfl rfl rfl (avS (shP rfl) (avS (shP rfl) (avS (shP rfl) (avN)))) (spec_l1In_F hr6) (.inr rfl) rfl)
   refine dk 2 [22,21] [B ((!r6)),B ((!r6))] ?_
   obtain ⟨y7,hy7,hy71,hy72⟩:=bL h
   have j7 : ∀ u7,y7=.inr u7→Run Ffcd_E 0 Q (.code (cR (cL (cL (cR Ffcd_ka)))) :: .blk 1 :: .code (cR (cR Ffcd_ka)) :: .lp Ffcd_ka :: .blk 0 :: K) (sT 38 [(0,.isl false ((l_1).map I)),(1,I (lo_2)),(2,I (hi_3)),(7,I (x4)),(37,B (u7))] [] 1):=by
     intro u7 hu
     replace h:=hy72 u7 hu
     refine sq h (fun h=>?_) (fun h=>?_)
     · refine cq 4 [6] [B (false)] 17 ?_
       exact s_ret rfl (hr _ (Option.some.inj h).symm _ ⟨_,fin (vs:=[B (false)]) rfl (absE (absorb_plain rfl) (absEN)) rfl (ou_f (ou_f (ou_f (ou_n)))),kl_n⟩)
     · refine aq 1 ?_
       refine cq 6 [7] [I ((w64 (x4 + 1)))] 49 ?_
       refine s_lp ?_
       exact rf [0,1,2,7] [] (ih _ _ h hr hn :)
   have r7 : ∀ r',y7=.inl r'→∀ st,Ffcd_Q (l_1,lo_2,hi_3) r' st→Q st:=fun r' e st hq=>hr r' (hy71 r' e) st hq
   replace h:=hy7
   refine sp 22 h rfl (fun h=>?_) (fun h=>?_)
   · refine dk 15 [37,36,35,34,33,32,31,30,29,28,27,26,25,24,23] [B (true),.und,.und,.und,.und,.und,.und,.und,.und,.und,.und,.und,.und,.und,.und] ?_
     refine de 449 rfl rfl ?_
     exact rf [0,1,2,7,37] [] (j7 _ (Option.some.inj h).symm :)
   · refine dk 3 [25,24,23] [B ((decide (x4 > 0))),B ((decide (x4 > 0))),I (x4)] ?_
     obtain ⟨y8,hy8,hy81,hy82⟩:=bL h
     have j8 : ∀ u8,y8=.inr u8→Run Ffcd_E 0 Q (.code (cR (cL (cL (cR Ffcd_ka)))) :: .blk 1 :: .code (cR (cR Ffcd_ka)) :: .lp Ffcd_ka :: .blk 0 :: K) (sT 38 [(0,.isl false ((l_1).map I)),(1,I (lo_2)),(2,I (hi_3)),(7,I (x4)),(37,B (u8))] [] 1):=by
       intro u8 hu
       replace h:=hy82 u8 hu
       exact rf [0,1,2,7,37] [] (j7 _ (Option.some.inj h).symm :)
     have r8 : ∀ r',y8=.inl r'→∀ st,Ffcd_Q (l_1,lo_2,hi_3) r' st→Q st:=fun r' e st hq=>r7 r' (hy81 r' e) st hq
     replace h:=hy8
     refine sp 25 h rfl (fun h=>?_) (fun h=>?_)
     · refine dk 3 [28,27,26] [I ((w64 (x4 - 1))),I (x4),.isl false ((l_1).map I)] ?_
       obtain ⟨e9,he9,h⟩:=bS h
       refine dy [] [] (.iptr (I (e9)) 0) rfl (e_indexAddr rfl rfl rfl (ix_islE rfl rfl rfl rfl he9)) ?_
       refine dy [] [] (I (e9)) rfl (e_ld rfl rfl) ?_
       refine dk 2 [32,31] [I (x4),.isl false ((l_1).map I)] ?_
       obtain ⟨e10,he10,h⟩:=bS h
       refine dy [] [] (.iptr (I (e10)) 0) rfl (e_indexAddr rfl rfl rfl (ix_islE rfl rfl rfl rfl he10)) ?_
       refine dy [] [] (I (e10)) rfl (e_ld rfl rfl) ?_
       refine dk 3 [37,36,35] [B ((decide (e9 ≥ e10))),B ((decide (e9 ≥ e10))),B ((decide (e9 ≥ e10)))] ?_
       refine de 449 rfl rfl ?_
       exact rf [0,1,2,7,37] [] (j8 _ (Option.some.inj h).symm :)
     · refine dk 12 [37,36,35,34,33,32,31,30,29,28,27,26] [B (false),B (false),.und,.und,.und,.und,.und,.und,.und,.und,.und,.und] ?_
       refine de 449 rfl rfl ?_
       exact rf [0,1,2,7,37] [] (j8 _ (Option.some.inj h).symm :)
 · refine aq 1 ?_
   exact rf [] [] (hn _ (Option.some.inj h).symm :) (hk:=hK)
theorem Ffcd_run (l_1 : List Int) (lo_2 : Int) (hi_3 : Int) (r : Bool) (h : Ffcd l_1 lo_2 hi_3=some r) : RunF Ffcd_E Try.f63 [false,false,false] 0 (Ffcd_A (l_1,lo_2,hi_3)) (Ffcd_R r):=by
 show Run _ _ (Ffcd_Q (l_1,lo_2,hi_3) r) [.code Ffcd_c] _
 refine rin (n:=38) [(0,.isl false ((l_1).map I)),(1,I (lo_2)),(2,I (hi_3))] [] 1 (by kernel_rfl) (by kernel_rfl) (by kernel_rfl) rfl ?_
 unfold Ffcd at h
 refine cq 10 [7] [I (0)] 33 ?_
 obtain ⟨y11,hy11,hy111,hy112⟩:=bJ h
 refine s_loop rfl ?_
 refine rf [0,1,2,7] [] (Ffcd_la_run l_1 lo_2 hi_3 rfl 0 _ hy11 (fun r' e st hq=>by rw [hy111 r' e] at hq; exact hq) fun u11 hu=>?_)
 replace h:=hy112 u11 hu
 refine cq 4 [6] [B (true)] 17 ?_
 obtain rfl:=Option.some.inj h
 exact s_ret rfl ⟨_,fin (vs:=[B (true)]) rfl (absE (absorb_plain rfl) (absEN)) rfl (ou_f (ou_f (ou_f (ou_n)))),kl_n⟩
theorem Ffcd_good {G : Go.Ln.Ground} : Good Try.prog G 63 Ffcd_ent:=good_T (fnOf_good (gl_c spec_l1In_good (gl_n))) agree_mk (Checked.mixed Try.checked) Try.func63 (n:=3) (m:=0) ⟨rfl,rfl,by decide⟩ (fun _=>⟨rfl,rfl⟩) (fun a r h=>Ffcd_run a.1 a.2.1 a.2.2 r h)
def Ffcj_A : Calendar→List V:=oA encI_Calendar
def Ffcj_R (r : Bool) : V × List V:=(B (r),[])
noncomputable def Ffcj_ent : Ent:=entT [false] Ffcj_A Ffcj_R fun x=>Ffcj x
theorem Ffcj_F {c_1 : Calendar} {r} (h : Ffcj c_1=some r) : (Ffcj_ent).F (Ffcj_A c_1)=some (Ffcj_R r):=entT_F (oA_inj encI_Calendar_inj) h
noncomputable def Ffcj_c : Code:=bodyOf Try.f41
noncomputable def Ffcj_E : Env:=mkE Try.prog [(63,Ffcd_ent)]
def Ffcj_Q (x : Calendar) (r : Bool) : St→Prop:=QF Ffcj_E Try.f41 [false] (Ffcj_A x) (Ffcj_R r)
theorem Ffcj_run (c_1 : Calendar) (r : Bool) (h : Ffcj c_1=some r) : RunF Ffcj_E Try.f41 [false] 0 (Ffcj_A c_1) (Ffcj_R r):=by
 show Run _ _ (Ffcj_Q c_1 r) [.code Ffcj_c] _
 refine rin (n:=23) [(0,encI_Calendar c_1)] [] 1 (by kernel_rfl) (by kernel_rfl) (by kernel_rfl) rfl ?_
 unfold Ffcj at h
 refine ck 9 [1,4] [] [1] [] [.hp 1 0 [] 2 0 0,.isl false ((c_1.Weekend).map I)] [some ⟨0,2,[encI_Calendar c_1]⟩] 65 (by kernel_rfl) ?_
 refine oq 81 (I ((len c_1.Weekend))) rfl (e_len rfl rfl rfl (l_isl rfl)) ?_
 refine cq 2 [7] [B ((decide ((len c_1.Weekend) ≤ 6)))] 113 ?_
 obtain ⟨y2,hy2,hy21,hy22⟩:=bJ h
 have j2 : ∀ u2,y2=.inr u2→Run Ffcj_E 0 (Ffcj_Q c_1 r) (.code (cR (cR Ffcj_c)) :: []) (sT 23 [(2,B (u2))] [] 1):=by
   intro u2 hu
   replace h:=hy22 u2 hu
   obtain rfl:=Option.some.inj h
   exact s_ret rfl ⟨_,fin (vs:=[B (u2)]) rfl (absE (absorb_plain rfl) (absEN)) rfl (ou_f (ou_n)),kl_n⟩
 have r2 : ∀ r',y2=.inl r'→∀ st,Ffcj_Q c_1 r' st→(Ffcj_Q c_1 r) st:=fun r' e st hq=>by rw [hy21 r' e] at hq; exact hq
 replace h:=hy2
 refine sp 7 h rfl (fun h=>?_) (fun h=>?_)
 · refine cq 2 [9] [.isl false ((c_1.Weekend).map I)] 145 ?_
   obtain ⟨r3,hr3,h⟩:=bS h
   refine oy 161 (B (r3)) rfl (e_callV rfl rfl (call_P rfl rfl rfl (avS (shP rfl) (avS (shP rfl) (avS (shP rfl) (avN)))) (Ffcd_F hr3) (.inr rfl) (bl_n) rfl rfl rfl)) ?_
   refine cq 2 [12] [B (r3)] 193 ?_
   obtain ⟨y4,hy4,hy41,hy42⟩:=bL h
   have j4 : ∀ u4,y4=.inr u4→Run Ffcj_E 0 (Ffcj_Q c_1 r) (.code (cR (cR Ffcj_c)) :: []) (sT 23 [(2,B (u4))] [] 1):=by
     intro u4 hu
     replace h:=hy42 u4 hu
     exact rf [2] [] (j2 _ (Option.some.inj h).symm :)
   have r4 : ∀ r',y4=.inl r'→∀ st,Ffcj_Q c_1 r' st→(Ffcj_Q c_1 r) st:=fun r' e st hq=>r2 r' (hy41 r' e) st hq
   replace h:=hy4
   refine sp 12 h rfl (fun h=>?_) (fun h=>?_)
   · refine cq 2 [14] [.isl false ((c_1.Holidays).map I)] 225 ?_
     refine oy 241 (I ((len c_1.Holidays))) rfl (e_len rfl rfl rfl (l_isl rfl)) ?_
     refine cq 3 [18] [B ((decide ((len c_1.Holidays) ≤ 40)))] 289 ?_
     obtain ⟨y5,hy5,hy51,hy52⟩:=bL h
     have j5 : ∀ u5,y5=.inr u5→Run Ffcj_E 0 (Ffcj_Q c_1 r) (.code (cR (cR Ffcj_c)) :: []) (sT 23 [(2,B (u5))] [] 1):=by
       intro u5 hu
       replace h:=hy52 u5 hu
       exact rf [2] [] (j4 _ (Option.some.inj h).symm :)
     have r5 : ∀ r',y5=.inl r'→∀ st,Ffcj_Q c_1 r' st→(Ffcj_Q c_1 r) st:=fun r' e st hq=>r4 r' (hy51 r' e) st hq
     replace h:=hy5
     refine sp 18 h rfl (fun h=>?_) (fun h=>?_)
     · refine cq 2 [20] [.isl false ((c_1.Holidays).map I)] 321 ?_
       obtain ⟨r6,hr6,h⟩:=bS h
       refine oy 337 (B (r6)) rfl (e_callV rfl rfl (call_P rfl rfl rfl (avS (shP rfl) (avS (shP rfl) (avS (shP rfl) (avN)))) (Ffcd_F hr6) (.inr rfl) (bl_n) rfl rfl rfl)) ?_
       refine cq 3 [2] [B (r6)] 369 ?_
       exact rf [2] [] (j5 _ (Option.some.inj h).symm :)
     · refine cq 6 [2] [B (false)] 369 ?_
       exact rf [2] [] (j5 _ (Option.some.inj h).symm :)
   · refine cq 12 [2] [B (false)] 369 ?_
     exact rf [2] [] (j4 _ (Option.some.inj h).symm :)
 · refine cq 17 [2] [B (false)] 369 ?_
   exact rf [2] [] (j2 _ (Option.some.inj h).symm :)
theorem Ffcj_good {G : Go.Ln.Ground} : Good Try.prog G 41 Ffcj_ent:=good_T (fnOf_good (gl_c Ffcd_good (gl_n))) agree_mk (Checked.mixed Try.checked) Try.func41 (n:=1) (m:=0) ⟨rfl,rfl,by decide⟩ (fun _=>⟨rfl,rfl⟩) (fun a r h=>Ffcj_run a r h)
def Ffcg_A : Int→List V:=oA I
def Ffcg_R (r : Bool) : V × List V:=(B (r),[])
noncomputable def Ffcg_ent : Ent:=entT [false] Ffcg_A Ffcg_R fun x=>Ffcg x
theorem Ffcg_F {day_1 : Int} {r} (h : Ffcg day_1=some r) : (Ffcg_ent).F (Ffcg_A day_1)=some (Ffcg_R r):=entT_F (oA_inj I_inj) h
noncomputable def Ffcg_c : Code:=bodyOf Try.f29
noncomputable def Ffcg_E : Env:=mkE Try.prog [(30,spec_l1In_ent)]
def Ffcg_Q (x : Int) (r : Bool) : St→Prop:=QF Ffcg_E Try.f29 [false] (Ffcg_A x) (Ffcg_R r)
theorem Ffcg_run (day_1 : Int) (r : Bool) (h : Ffcg day_1=some r) : RunF Ffcg_E Try.f29 [false] 0 (Ffcg_A day_1) (Ffcg_R r):=by
 show Run _ _ (Ffcg_Q day_1 r) [.code Ffcg_c] _
 refine rin (n:=5) [(0,I (day_1))] [] 1 (by kernel_rfl) (by kernel_rfl) (by kernel_rfl) rfl ?_
 unfold Ffcg at h
 refine cq 7 [3] [I (day_1)] 33 ?_
 obtain ⟨r2,hr2,h⟩:=bS h
 refine oq 49 (B (r2)) rfl (e_callV rfl rfl (call_P rfl rfl rfl (avS (shP rfl) (avS (shP rfl) (avS (shP rfl) (avN)))) (spec_l1In_F hr2) (.inr rfl) (bl_n) rfl rfl rfl)) ?_
 refine cq 2 [2] [B (r2)] 65 ?_
 obtain rfl:=Option.some.inj h
 exact s_ret rfl ⟨_,fin (vs:=[B (r2)]) rfl (absE (absorb_plain rfl) (absEN)) rfl (ou_f (ou_n)),kl_n⟩
theorem Ffcg_good {G : Go.Ln.Ground} : Good Try.prog G 29 Ffcg_ent:=good_T (fnOf_good (gl_c spec_l1In_good (gl_n))) agree_mk (Checked.mixed Try.checked) Try.func29 (n:=1) (m:=0) ⟨rfl,rfl,by decide⟩ (fun _=>⟨rfl,rfl⟩) (fun a r h=>Ffcg_run a r h)
def Ffci_A : Int→List V:=oA I
def Ffci_R (r : Int) : V × List V:=(I (r),[])
noncomputable def Ffci_ent : Ent:=entT [false] Ffci_A Ffci_R fun x=>Ffci x
theorem Ffci_F {day_1 : Int} {r} (h : Ffci day_1=some r) : (Ffci_ent).F (Ffci_A day_1)=some (Ffci_R r):=entT_F (oA_inj I_inj) h
noncomputable def Ffci_c : Code:=bodyOf Try.f79
noncomputable def Ffci_E : Env:=mkE Try.prog []
def Ffci_Q (x : Int) (r : Int) : St→Prop:=QF Ffci_E Try.f79 [false] (Ffci_A x) (Ffci_R r)
theorem Ffci_run (day_1 : Int) (r : Int) (h : Ffci day_1=some r) : RunF Ffci_E Try.f79 [false] 0 (Ffci_A day_1) (Ffci_R r):=by
 show Run _ _ (Ffci_Q day_1 r) [.code Ffci_c] _
 refine rin (n:=6) [(0,I (day_1))] [] 1 (by kernel_rfl) (by kernel_rfl) (by kernel_rfl) rfl ?_
 unfold Ffci at h
 refine cq 11 [2] [I (((w64 (day_1 + 5)).tmod 7))] 81 ?_
 obtain rfl:=Option.some.inj h
 exact s_ret rfl ⟨_,fin (vs:=[I (((w64 (day_1 + 5)).tmod 7))]) rfl (absE (absorb_plain rfl) (absEN)) rfl (ou_f (ou_n)),kl_n⟩
theorem Ffci_good {G : Go.Ln.Ground} : Good Try.prog G 79 Ffci_ent:=good_T (fnOf_good (gl_n)) agree_mk (Checked.mixed Try.checked) Try.func79 (n:=1) (m:=0) ⟨rfl,rfl,by decide⟩ (fun _=>⟨rfl,rfl⟩) (fun a r h=>Ffci_run a r h)
def Ffby_A : ((List Int) × Int)→List V:=cA (slE I) (oA I)
def Ffby_R (r : Bool) : V × List V:=(B (r),[])
noncomputable def Ffby_ent : Ent:=entT [false,false] Ffby_A Ffby_R fun x=>Ffby x.1 x.2
theorem Ffby_F {l_1 : List Int} {n_2 : Int} {r} (h : Ffby l_1 n_2=some r) : (Ffby_ent).F (Ffby_A (l_1,n_2))=some (Ffby_R r):=entT_F (cA_inj (isl_inj I_inj) (oA_inj I_inj)) h
noncomputable def Ffby_c : Code:=bodyOf Try.f78
noncomputable def Ffby_E : Env:=mkE Try.prog []
def Ffby_Q (x : (List Int) × Int) (r : Bool) : St→Prop:=QF Ffby_E Try.f78 [false,false] (Ffby_A x) (Ffby_R r)
theorem Ffby_la_run (l_1 : List Int) (n_2 : Int)  {Q : St→Prop} {K : List It} (hK : noD K=true) : ∀ (x3 : Int) (y : Bool ⊕ Unit),Ffby_la l_1 n_2 x3=some y→(∀ r',y=.inl r'→∀ st,Ffby_Q (l_1,n_2) r' st→Q st)→(∀ u : Unit,y=.inr u→Run Ffby_E 0 Q K (sT 18 [] [] 1))→Run Ffby_E 0 Q (.code (cL (cL (cR (cL (cR Ffby_c))))) :: .lp (cL (cL (cR (cL (cR Ffby_c))))) :: .blk 0 :: K) (sT 18 [(0,.isl false ((l_1).map I)),(1,I (n_2)),(5,I (x3))] [] 1):=by
 refine fix_indP (Ffby_la_fin l_1 n_2) ?_
 intro self ih x3 y h hr hn
 unfold Ffby_la_F at h
 refine cq 5 [6,7] [I (x3),.isl false ((l_1).map I)] 33 ?_
 refine oq 49 (I ((len l_1))) rfl (e_len rfl rfl rfl (l_isl rfl)) ?_
 refine cq 2 [9] [B ((decide (x3 < (len l_1))))] 65 ?_
 refine sq h (fun h=>?_) (fun h=>?_)
 · refine aq 1 ?_
   refine cq 6 [12,13] [.isl false ((l_1).map I),I (x3)] 97 ?_
   obtain ⟨e4,he4,h⟩:=bS h
   refine oq 113 (.iptr (I (e4)) 0) rfl (e_indexAddr rfl rfl rfl (ix_islE rfl rfl rfl rfl he4)) ?_
   refine cq 4 [17] [B ((e4 == n_2))] 161 ?_
   refine sq h (fun h=>?_) (fun h=>?_)
   · refine cq 4 [4] [B (true)] 177 ?_
     exact s_ret rfl (hr _ (Option.some.inj h).symm _ ⟨_,fin (vs:=[B (true)]) rfl (absE (absorb_plain rfl) (absEN)) rfl (ou_f (ou_f (ou_n))),kl_n⟩)
   · refine aq 1 ?_
     refine cq 6 [5] [I ((w64 (x3 + 1)))] 209 ?_
     refine s_lp ?_
     exact rf [0,1,5] [] (ih _ _ h hr hn :)
 · refine aq 1 ?_
   exact rf [] [] (hn _ (Option.some.inj h).symm :) (hk:=hK)
theorem Ffby_run (l_1 : List Int) (n_2 : Int) (r : Bool) (h : Ffby l_1 n_2=some r) : RunF Ffby_E Try.f78 [false,false] 0 (Ffby_A (l_1,n_2)) (Ffby_R r):=by
 show Run _ _ (Ffby_Q (l_1,n_2) r) [.code Ffby_c] _
 refine rin (n:=18) [(0,.isl false ((l_1).map I)),(1,I (n_2))] [] 1 (by kernel_rfl) (by kernel_rfl) (by kernel_rfl) rfl ?_
 unfold Ffby at h
 refine cq 10 [5] [I (0)] 33 ?_
 obtain ⟨y5,hy5,hy51,hy52⟩:=bJ h
 refine s_loop rfl ?_
 refine rf [0,1,5] [] (Ffby_la_run l_1 n_2 rfl 0 _ hy5 (fun r' e st hq=>by rw [hy51 r' e] at hq; exact hq) fun u5 hu=>?_)
 replace h:=hy52 u5 hu
 refine cq 4 [4] [B (false)] 17 ?_
 obtain rfl:=Option.some.inj h
 exact s_ret rfl ⟨_,fin (vs:=[B (false)]) rfl (absE (absorb_plain rfl) (absEN)) rfl (ou_f (ou_f (ou_n))),kl_n⟩
theorem Ffby_good {G : Go.Ln.Ground} : Good Try.prog G 78 Ffby_ent:=good_T (fnOf_good (gl_n)) agree_mk (Checked.mixed Try.checked) Try.func78 (n:=2) (m:=0) ⟨rfl,rfl,by decide⟩ (fun _=>⟨rfl,rfl⟩) (fun a r h=>Ffby_run a.1 a.2 r h)
def Ffck_A : (Calendar × Int)→List V:=cA encI_Calendar (oA I)
def Ffck_R (r : Bool) : V × List V:=(B (r),[])
noncomputable def Ffck_ent : Ent:=entT [false,false] Ffck_A Ffck_R fun x=>Ffck x.1 x.2
theorem Ffck_F {c_1 : Calendar} {day_2 : Int} {r} (h : Ffck c_1 day_2=some r) : (Ffck_ent).F (Ffck_A (c_1,day_2))=some (Ffck_R r):=entT_F (cA_inj encI_Calendar_inj (oA_inj I_inj)) h
noncomputable def Ffck_c : Code:=bodyOf Try.f64
noncomputable def Ffck_E : Env:=mkE Try.prog [(79,Ffci_ent),(78,Ffby_ent)]
def Ffck_Q (x : Calendar × Int) (r : Bool) : St→Prop:=QF Ffck_E Try.f64 [false,false] (Ffck_A x) (Ffck_R r)
theorem Ffck_run (c_1 : Calendar) (day_2 : Int) (r : Bool) (h : Ffck c_1 day_2=some r) : RunF Ffck_E Try.f64 [false,false] 0 (Ffck_A (c_1,day_2)) (Ffck_R r):=by
 show Run _ _ (Ffck_Q (c_1,day_2) r) [.code Ffck_c] _
 refine rin (n:=18) [(0,encI_Calendar c_1),(1,I (day_2))] [] 1 (by kernel_rfl) (by kernel_rfl) (by kernel_rfl) rfl ?_
 unfold Ffck at h
 refine ck 6 [2] [] [1] [] [.hp 1 0 [] 2 0 0] [some ⟨0,2,[encI_Calendar c_1]⟩] 33 (by kernel_rfl) ?_
 refine s_draw [0,1,0,4,15,31,63,127,255,127,1023,2047,4095,8191] rfl (by decide +kernel) ?_
 refine dq [1] [] (.hp 1 0 [] 2 0 0) rfl (e_fieldAddr rfl rfl rfl) ?_
 refine dq [1] [] (.isl false ((c_1.Weekend).map I)) rfl (e_ld rfl rfl) ?_
 refine dk 1 [7] [I (day_2)] ?_
 obtain ⟨r3,hr3,h⟩:=bS h
 refine dq [] [] (I (r3)) rfl (e_callV rfl rfl (call_P rfl rfl rfl (avS (shP rfl) (avN)) (Ffci_F hr3) (.inr rfl) (bl_n) rfl rfl rfl)) ?_ (w_callO rfl rfl rfl rfl (avS (shP rfl) (avN)) (Ffci_F hr3) (.inr rfl) rfl)
 obtain ⟨r4,hr4,h⟩:=bS h
 refine dq [] [] (B (r4)) rfl (e_callV rfl rfl (call_P rfl rfl rfl (avS (shP rfl) (avS (shP rfl) (avN))) (Ffby_F hr4) (.inr rfl) (bl_n) rfl rfl rfl)) ?_ (w_callO rfl rfl rfl rfl (avS (shP rfl) (avS (shP rfl) (avN))) (Ffby_F hr4) (.inr rfl) rfl)
 refine dk 2 [11,10] [B ((!r4)),B ((!r4))] ?_
 obtain ⟨y5,hy5,hy51,hy52⟩:=bJ h
 have j5 : ∀ u5,y5=.inr u5→Run Ffck_E 0 (Ffck_Q (c_1,day_2) r) (.code (cR (cR Ffck_c)) :: []) (sT 18 [(4,B (u5))] [] 1):=by
   intro u5 hu
   replace h:=hy52 u5 hu
   obtain rfl:=Option.some.inj h
   exact s_ret rfl ⟨_,fin (vs:=[B (u5)]) rfl (absE (absorb_plain rfl) (absEN)) rfl (ou_f (ou_f (ou_n))),kl_n⟩
 have r5 : ∀ r',y5=.inl r'→∀ st,Ffck_Q (c_1,day_2) r' st→(Ffck_Q (c_1,day_2) r) st:=fun r' e st hq=>by rw [hy51 r' e] at hq; exact hq
 replace h:=hy5
 refine sp 11 h rfl (fun h=>?_) (fun h=>?_)
 · refine dy [1] [] (.hp 1 0 [] 2 0 1) rfl (e_fieldAddr rfl rfl rfl) ?_
   refine dy [1] [] (.isl false ((c_1.Holidays).map I)) rfl (e_ld rfl rfl) ?_
   refine dk 1 [14] [I (day_2)] ?_
   obtain ⟨r6,hr6,h⟩:=bS h
   refine dy [] [] (B (r6)) rfl (e_callV rfl rfl (call_P rfl rfl rfl (avS (shP rfl) (avS (shP rfl) (avN))) (Ffby_F hr6) (.inr rfl) (bl_n) rfl rfl rfl)) ?_ (w_callO rfl rfl rfl rfl (avS (shP rfl) (avS (shP rfl) (avN))) (Ffby_F hr6) (.inr rfl) rfl)
   refine dk 3 [4,17,16] [B ((!r6)),B ((!r6)),B ((!r6))] ?_
   refine de 257 rfl rfl ?_
   exact rf [4] [] (j5 _ (Option.some.inj h).symm :)
 · refine dk 7 [4,17,16,15,14,13,12] [B (false),B (false),.und,.und,.und,.und,.und] ?_
   refine de 257 rfl rfl ?_
   exact rf [4] [] (j5 _ (Option.some.inj h).symm :)
theorem Ffck_good {G : Go.Ln.Ground} : Good Try.prog G 64 Ffck_ent:=good_T (fnOf_good (gl_c Ffci_good (gl_c Ffby_good (gl_n)))) agree_mk (Checked.mixed Try.checked) Try.func64 (n:=2) (m:=0) ⟨rfl,rfl,by decide⟩ (fun _=>⟨rfl,rfl⟩) (fun a r h=>Ffck_run a.1 a.2 r h)
def Ffcl_A : (Calendar × Int × Int)→List V:=cA encI_Calendar (cA I (oA I))
def Ffcl_R (r : Int) : V × List V:=(I (r),[])
noncomputable def Ffcl_ent : Ent:=entT [false,false,false] Ffcl_A Ffcl_R fun x=>Ffcl x.1 x.2.1 x.2.2
theorem Ffcl_F {c_1 : Calendar} {day_2 : Int} {step_3 : Int} {r} (h : Ffcl c_1 day_2 step_3=some r) : (Ffcl_ent).F (Ffcl_A (c_1,day_2,step_3))=some (Ffcl_R r):=entT_F (cA_inj encI_Calendar_inj (cA_inj I_inj (oA_inj I_inj))) h
noncomputable def Ffcl_c : Code:=bodyOf Try.f44
noncomputable def Ffcl_E : Env:=mkE Try.prog [(29,Ffcg_ent),(64,Ffck_ent)]
def Ffcl_Q (x : Calendar × Int × Int) (r : Int) : St→Prop:=QF Ffcl_E Try.f44 [false,false,false] (Ffcl_A x) (Ffcl_R r)
theorem Ffcl_la_run (c_1 : Calendar) (day_2 : Int) (step_3 : Int)  {Q : St→Prop} {K : List It} (hK : noD K=true) : ∀ (x4 : Int) (y : Int ⊕ Unit),Ffcl_la c_1 day_2 step_3 x4=some y→(∀ r',y=.inl r'→∀ st,Ffcl_Q (c_1,day_2,step_3) r' st→Q st)→(∀ u : Unit,y=.inr u→Run Ffcl_E 0 Q K (sT 16 [] [] 1))→Run Ffcl_E 0 Q (.code (cL (cL (cL (cR Ffcl_c)))) :: .lp (cL (cL (cL (cR Ffcl_c)))) :: .blk 0 :: K) (sT 16 [(1,I (x4)),(2,I (step_3)),(3,.hp 1 0 [] 2 0 0)] [⟨0,2,[encI_Calendar c_1]⟩] 2):=by
 refine fix_indP (Ffcl_la_fin c_1 day_2 step_3) ?_
 intro self ih x4 y h hr hn
 unfold Ffcl_la_F at h
 refine cq 4 [7] [I (x4)] 18 ?_
 obtain ⟨r5,hr5,h⟩:=bS h
 refine oq 34 (B (r5)) rfl (e_callV rfl rfl (call_P rfl rfl rfl (avS (shP rfl) (avN)) (Ffcg_F hr5) (.inr rfl) (bl_n) rfl rfl rfl)) ?_
 refine aq 1 ?_
 refine sq h (fun h=>?_) (fun h=>?_)
 · refine aq 1 ?_
   refine cq 6 [9,10] [encI_Calendar c_1,I (x4)] 66 ?_
   obtain ⟨r6,hr6,h⟩:=bS h
   refine oq 82 (B (r6)) rfl (e_callV rfl rfl (call_P rfl rfl rfl (avS (shP rfl) (avS (shP rfl) (avN))) (Ffck_F hr6) (.inr rfl) (bl_n) rfl rfl rfl)) ?_
   refine aq 1 ?_
   refine sq h (fun h=>?_) (fun h=>?_)
   · refine cq 5 [6] [I (x4)] 114 ?_
     exact s_ret rfl (hr _ (Option.some.inj h).symm _ ⟨_,fin (vs:=[I (x4)]) rfl (absE (absorb_plain rfl) (absEN)) rfl (ou_f (ou_f (ou_f (ou_n)))),kl_n⟩)
   · refine aq 1 ?_
     refine cq 7 [1] [I ((w64 (x4 + step_3)))] 146 ?_
     refine s_lp ?_
     exact rf [1,2,3] [1] (ih _ _ h hr hn :)
 · refine aq 1 ?_
   exact rf [] [] (hn _ (Option.some.inj h).symm :) (hk:=hK)
theorem Ffcl_run (c_1 : Calendar) (day_2 : Int) (step_3 : Int) (r : Int) (h : Ffcl c_1 day_2 step_3=some r) : RunF Ffcl_E Try.f44 [false,false,false] 0 (Ffcl_A (c_1,day_2,step_3)) (Ffcl_R r):=by
 show Run _ _ (Ffcl_Q (c_1,day_2,step_3) r) [.code Ffcl_c] _
 refine rin (n:=16) [(0,encI_Calendar c_1),(1,I (day_2)),(2,I (step_3))] [] 1 (by kernel_rfl) (by kernel_rfl) (by kernel_rfl) rfl ?_
 unfold Ffcl at h
 refine ck 7 [3] [] [1] [] [.hp 1 0 [] 2 0 0] [some ⟨0,2,[encI_Calendar c_1]⟩] 33 (by kernel_rfl) ?_
 obtain ⟨y7,hy7,hy71,hy72⟩:=bJ h
 refine s_loop rfl ?_
 refine rf [1,2,3] [1] (Ffcl_la_run c_1 day_2 step_3 rfl day_2 _ hy7 (fun r' e st hq=>by rw [hy71 r' e] at hq; exact hq) fun u7 hu=>?_)
 replace h:=hy72 u7 hu
 refine cq 4 [6] [I ((-1))] 17 ?_
 obtain rfl:=Option.some.inj h
 exact s_ret rfl ⟨_,fin (vs:=[I ((-1))]) rfl (absE (absorb_plain rfl) (absEN)) rfl (ou_f (ou_f (ou_f (ou_n)))),kl_n⟩
theorem Ffcl_good {G : Go.Ln.Ground} : Good Try.prog G 44 Ffcl_ent:=good_T (fnOf_good (gl_c Ffcg_good (gl_c Ffck_good (gl_n)))) agree_mk (Checked.mixed Try.checked) Try.func44 (n:=3) (m:=0) ⟨rfl,rfl,by decide⟩ (fun _=>⟨rfl,rfl⟩) (fun a r h=>Ffcl_run a.1 a.2.1 a.2.2 r h)
def Ffbk_A : (Calendar × Int × Int)→List V:=cA encI_Calendar (cA I (oA I))
def Ffbk_R (r : Int × Bool) : V × List V:=(.tup [I (r.1),B (r.2)],[])
noncomputable def Ffbk_ent : Ent:=entT [false,false,false] Ffbk_A Ffbk_R fun x=>Ffbk x.1 x.2.1 x.2.2
theorem Ffbk_F {c_1 : Calendar} {day_2 : Int} {n_3 : Int} {r} (h : Ffbk c_1 day_2 n_3=some r) : (Ffbk_ent).F (Ffbk_A (c_1,day_2,n_3))=some (Ffbk_R r):=entT_F (cA_inj encI_Calendar_inj (cA_inj I_inj (oA_inj I_inj))) h
noncomputable def Ffbk_c : Code:=bodyOf Try.f16
noncomputable def Ffbk_E : Env:=mkE Try.prog [(41,Ffcj_ent),(44,Ffcl_ent),(29,Ffcg_ent),(30,spec_l1In_ent)]
def Ffbk_Q (x : Calendar × Int × Int) (r : Int × Bool) : St→Prop:=QF Ffbk_E Try.f16 [false,false,false] (Ffbk_A x) (Ffbk_R r)
theorem Ffbk_la_run (c_1 : Calendar) (day_2 : Int) (n_3 : Int) (u6 : Int × Int) {Q : St→Prop} {K : List It} (hK : noD K=true) : ∀ (x7 : Int × Int) (y : (Int × Bool) ⊕ Int),Ffbk_la c_1 day_2 n_3 u6 x7=some y→(∀ r',y=.inl r'→∀ st,Ffbk_Q (c_1,day_2,n_3) r' st→Q st)→(∀ u : Int,y=.inr u→Run Ffbk_E 0 Q K (sT 39 [(1,I (u))] [] 1))→Run Ffbk_E 0 Q (.code (cL (cL (cL (cR (cR (cR (cR Ffbk_c))))))) :: .lp (cL (cL (cL (cR (cR (cR (cR Ffbk_c))))))) :: .blk 0 :: K) (sT 39 [(1,I (x7.1)),(2,I (x7.2)),(3,.hp 1 0 [] 2 0 0),(8,I (u6.2))] [⟨0,2,[encI_Calendar c_1]⟩] 2):=by
 refine fix_indP (Ffbk_la_fin c_1 day_2 n_3 u6) ?_
 intro self ih x7 y h hr hn
 unfold Ffbk_la_F at h
 refine cq 6 [27] [B ((decide (x7.2 > 0)))] 34 ?_
 refine sq h (fun h=>?_) (fun h=>?_)
 · refine aq 1 ?_
   refine cq 9 [30,33,34] [encI_Calendar c_1,I ((w64 (x7.1 + u6.2))),I (u6.2)] 114 ?_
   obtain ⟨r8,hr8,h⟩:=bS h
   refine oq 130 (I (r8)) rfl (e_callV rfl rfl (call_P rfl rfl rfl (avS (shP rfl) (avS (shP rfl) (avS (shP rfl) (avN)))) (Ffcl_F hr8) (.inr rfl) (bl_n) rfl rfl rfl)) ?_
   refine cq 7 [1,37] [I (r8),B ((decide (r8 < 0)))] 178 ?_
   refine sq h (fun h=>?_) (fun h=>?_)
   · refine cq 5 [6,7] [I (0),B (false)] 210 ?_
     exact s_ret rfl (hr _ (Option.some.inj h).symm _ ⟨_,fin (vs:=[I (0),B (false)]) rfl (absE (absorb_plain rfl) (absE (absorb_plain rfl) (absEN))) rfl (ou_f (ou_f (ou_f (ou_n)))),kl_n⟩)
   · refine aq 1 ?_
     refine cq 6 [2] [I ((w64 (x7.2 - 1)))] 226 ?_
     refine s_lp ?_
     exact rf [1,2,3,8] [1] (ih _ _ h hr hn :)
 · refine aq 1 ?_
   exact rf [1] [] (hn _ (Option.some.inj h).symm :) (hk:=hK)
theorem Ffbk_run (c_1 : Calendar) (day_2 : Int) (n_3 : Int) (r : Int × Bool) (h : Ffbk c_1 day_2 n_3=some r) : RunF Ffbk_E Try.f16 [false,false,false] 0 (Ffbk_A (c_1,day_2,n_3)) (Ffbk_R r):=by
 show Run _ _ (Ffbk_Q (c_1,day_2,n_3) r) [.code Ffbk_c] _
 refine rin (n:=39) [(0,encI_Calendar c_1),(1,I (day_2)),(2,I (n_3))] [] 1 (by kernel_rfl) (by kernel_rfl) (by kernel_rfl) rfl ?_
 unfold Ffbk at h
 refine ck 10 [3,9] [] [1] [] [.hp 1 0 [] 2 0 0,encI_Calendar c_1] [some ⟨0,2,[encI_Calendar c_1]⟩] 65 (by kernel_rfl) ?_
 obtain ⟨r4,hr4,h⟩:=bS h
 refine oq 81 (B (r4)) rfl (e_callV rfl rfl (call_P rfl rfl rfl (avS (shP rfl) (avN)) (Ffcj_F hr4) (.inr rfl) (bl_n) rfl rfl rfl)) ?_
 refine cq 2 [12] [B ((!r4))] 113 ?_
 obtain ⟨y5,hy5,hy51,hy52⟩:=bJ h
 have j5 : ∀ u5,y5=.inr u5→Run Ffbk_E 0 (Ffbk_Q (c_1,day_2,n_3) r) (.code (cR (cL (cR Ffbk_c))) :: .code (cR (cR Ffbk_c)) :: []) (sT 39 [(1,I (day_2)),(2,I (n_3)),(3,.hp 1 0 [] 2 0 0),(21,B (u5))] [⟨0,2,[encI_Calendar c_1]⟩] 2):=by
   intro u5 hu
   replace h:=hy52 u5 hu
   refine sq h (fun h=>?_) (fun h=>?_)
   · refine cq 5 [6,7] [I (0),B (false)] 34 ?_
     obtain rfl:=Option.some.inj h
     exact s_ret rfl ⟨_,fin (vs:=[I (0),B (false)]) rfl (absE (absorb_plain rfl) (absE (absorb_plain rfl) (absEN))) rfl (ou_f (ou_f (ou_f (ou_n)))),kl_n⟩
   · refine aq 1 ?_
     refine cq 10 [8,23] [I (1),B ((decide (n_3 < 0)))] 50 ?_
     obtain ⟨u6,hu6,h⟩:=lJ h
     have j6 : Run Ffbk_E 0 (Ffbk_Q (c_1,day_2,n_3) r) (.code (cR (cR (cR (cR Ffbk_c)))) :: []) (sT 39 [(1,I (day_2)),(2,I (u6.1)),(3,.hp 1 0 [] 2 0 0),(8,I (u6.2))] [⟨0,2,[encI_Calendar c_1]⟩] 2):=by
       refine aq 2 ?_
       obtain ⟨y9,hy9,hy91,hy92⟩:=bJ h
       refine s_loop rfl ?_
       refine rf [1,2,3,8] [1] (Ffbk_la_run c_1 day_2 n_3 u6 rfl (day_2,u6.1) _ hy9 (fun r' e st hq=>by rw [hy91 r' e] at hq; exact hq) fun u9 hu=>?_)
       replace h:=hy92 u9 hu
       refine cq 6 [6,7] [I (u9),B (true)] 49 ?_
       obtain rfl:=Option.some.inj h
       exact s_ret rfl ⟨_,fin (vs:=[I (u9),B (true)]) rfl (absE (absorb_plain rfl) (absE (absorb_plain rfl) (absEN))) rfl (ou_f (ou_f (ou_f (ou_n)))),kl_n⟩
     replace h:=hu6
     clear hu6
     refine scp h rfl rfl (fun h=>?_) (fun h=>?_)
     · refine cq 9 [2,8] [I ((w64 (0 - n_3))),I ((-1))] 114 ?_
       subst h
       exact rf [1,2,3,8] [1] (j6 :)
     · refine aq 1 ?_
       subst h
       exact rf [1,2,3,8] [1] (j6 :)
 have r5 : ∀ r',y5=.inl r'→∀ st,Ffbk_Q (c_1,day_2,n_3) r' st→(Ffbk_Q (c_1,day_2,n_3) r) st:=fun r' e st hq=>by rw [hy51 r' e] at hq; exact hq
 replace h:=hy5
 refine sp 12 h rfl (fun h=>?_) (fun h=>?_)
 · refine cq 10 [21] [B (true)] 257 ?_
   exact rf [1,2,3,21] [1] (j5 _ (Option.some.inj h).symm :)
 · refine cq 1 [13] [I (day_2)] 129 ?_
   obtain ⟨r10,hr10,h⟩:=bS h
   refine oy 145 (B (r10)) rfl (e_callV rfl rfl (call_P rfl rfl rfl (avS (shP rfl) (avN)) (Ffcg_F hr10) (.inr rfl) (bl_n) rfl rfl rfl)) ?_
   refine cq 3 [17] [B ((!r10))] 193 ?_
   obtain ⟨y11,hy11,hy111,hy112⟩:=bL h
   have j11 : ∀ u11,y11=.inr u11→Run Ffbk_E 0 (Ffbk_Q (c_1,day_2,n_3) r) (.code (cR (cL (cR Ffbk_c))) :: .code (cR (cR Ffbk_c)) :: []) (sT 39 [(1,I (day_2)),(2,I (n_3)),(3,.hp 1 0 [] 2 0 0),(21,B (u11))] [⟨0,2,[encI_Calendar c_1]⟩] 2):=by
     intro u11 hu
     replace h:=hy112 u11 hu
     exact rf [1,2,3,21] [1] (j5 _ (Option.some.inj h).symm :)
   have r11 : ∀ r',y11=.inl r'→∀ st,Ffbk_Q (c_1,day_2,n_3) r' st→(Ffbk_Q (c_1,day_2,n_3) r) st:=fun r' e st hq=>r5 r' (hy111 r' e) st hq
   replace h:=hy11
   refine sp 17 h rfl (fun h=>?_) (fun h=>?_)
   · refine cq 5 [21] [B (true)] 257 ?_
     exact rf [1,2,3,21] [1] (j11 _ (Option.some.inj h).symm :)
   · refine cq 1 [18] [I (n_3)] 209 ?_
     obtain ⟨r12,hr12,h⟩:=bS h
     refine oy 225 (B (r12)) rfl (e_callV rfl rfl (call_P rfl rfl rfl (avS (shP rfl) (avS (shP rfl) (avS (shP rfl) (avN)))) (spec_l1In_F hr12) (.inr rfl) (bl_n) rfl rfl rfl)) ?_
     refine cq 3 [21] [B ((!r12))] 257 ?_
     exact rf [1,2,3,21] [1] (j11 _ (Option.some.inj h).symm :)
theorem Ffbk_good {G : Go.Ln.Ground} : Good Try.prog G 16 Ffbk_ent:=good_T (fnOf_good (gl_c Ffcj_good (gl_c Ffcl_good (gl_c Ffcg_good (gl_c spec_l1In_good (gl_n)))))) agree_mk (Checked.mixed Try.checked) Try.func16 (n:=3) (m:=0) ⟨rfl,rfl,by decide⟩ (fun _=>⟨rfl,rfl⟩) (fun a r h=>Ffbk_run a.1 a.2.1 a.2.2 r h)
def Ffd_A : (Calendar × Int × Int)→List V:=cA encI_Calendar (cA I (oA I))
def Ffd_R (r : Int × Bool) : V × List V:=(.tup [I (r.1),B (r.2)],[])
noncomputable def Ffd_ent : Ent:=entT [false,false,false] Ffd_A Ffd_R fun x=>Ffd x.1 x.2.1 x.2.2
theorem Ffd_F {c_1 : Calendar} {from_2 : Int} {to_3 : Int} {r} (h : Ffd c_1 from_2 to_3=some r) : (Ffd_ent).F (Ffd_A (c_1,from_2,to_3))=some (Ffd_R r):=entT_F (cA_inj encI_Calendar_inj (cA_inj I_inj (oA_inj I_inj))) h
noncomputable def Ffd_c : Code:=bodyOf Try.f17
noncomputable abbrev Ffd_ka : Code:=cL (cL (cR (cL (cR (cR (cR Ffd_c))))))
noncomputable def Ffd_E : Env:=mkE Try.prog [(35,Fff_ent),(49,Ffh_ent)]
def Ffd_Q (x : Calendar × Int × Int) (r : Int × Bool) : St→Prop:=QF Ffd_E Try.f17 [false,false,false] (Ffd_A x) (Ffd_R r)
theorem Ffd_la_run (c_1 : Calendar) (from_2 : Int) (to_3 : Int)  {Q : St→Prop} {K : List It} (hK : noD K=true) : ∀ (x6 : Int × Int) (y : (Int × Bool) ⊕ Int),Ffd_la c_1 from_2 to_3 x6=some y→(∀ r',y=.inl r'→∀ st,Ffd_Q (c_1,from_2,to_3) r' st→Q st)→(∀ u : Int,y=.inr u→Run Ffd_E 0 Q K (sT 38 [(8,I (u))] [] 1))→Run Ffd_E 0 Q (.code Ffd_ka :: .lp Ffd_ka :: .blk 0 :: K) (sT 38 [(2,I (to_3)),(3,.hp 1 0 [] 2 0 0),(8,I (x6.1)),(9,I (x6.2))] [⟨0,2,[encI_Calendar c_1]⟩] 2):=by
 refine fix_indP (Ffd_la_fin c_1 from_2 to_3) ?_
 intro self ih x6 y h hr hn
 unfold Ffd_la_F at h
 refine cq 7 [29] [B ((decide (x6.2 < to_3)))] 50 ?_
 refine sq h (fun h=>?_) (fun h=>?_)
 · refine aq 1 ?_
   refine cq 6 [32,33] [encI_Calendar c_1,I (x6.2)] 82 ?_
   obtain ⟨r7,hr7,h⟩:=bS h
   refine oq 98 (B (r7)) rfl (e_callV rfl rfl (call_P rfl rfl rfl (avS (shP rfl) (avS (shP rfl) (avN))) (Ffh_F hr7) (.inr rfl) (bl_n) rfl rfl rfl)) ?_
   refine aq 1 ?_
   obtain ⟨u8,hu8,h⟩:=lJ h
   have j8 : Run Ffd_E 0 Q (.blk 1 :: .code (cR (cR Ffd_ka)) :: .lp Ffd_ka :: .blk 0 :: K) (sT 38 [(2,I (to_3)),(3,.hp 1 0 [] 2 0 0),(8,I (u8)),(9,I (x6.2))] [⟨0,2,[encI_Calendar c_1]⟩] 2):=by
     refine cq 6 [9] [I ((w64 (x6.2 + 1)))] 50 ?_
     refine s_lp ?_
     exact rf [2,3,8,9] [1] (ih _ _ h hr hn :)
   replace h:=hu8
   clear hu8
   refine scp h rfl rfl (fun h=>?_) (fun h=>?_)
   · refine cq 5 [8] [I ((w64 (x6.1 + 1)))] 146 ?_
     subst h
     exact rf [2,3,8,9] [1] (j8 :)
   · refine aq 1 ?_
     subst h
     exact rf [2,3,8,9] [1] (j8 :)
 · refine aq 1 ?_
   exact rf [8] [] (hn _ (Option.some.inj h).symm :) (hk:=hK)
theorem Ffd_run (c_1 : Calendar) (from_2 : Int) (to_3 : Int) (r : Int × Bool) (h : Ffd c_1 from_2 to_3=some r) : RunF Ffd_E Try.f17 [false,false,false] 0 (Ffd_A (c_1,from_2,to_3)) (Ffd_R r):=by
 show Run _ _ (Ffd_Q (c_1,from_2,to_3) r) [.code Ffd_c] _
 refine rin (n:=38) [(0,encI_Calendar c_1),(1,I (from_2)),(2,I (to_3))] [] 1 (by kernel_rfl) (by kernel_rfl) (by kernel_rfl) rfl ?_
 unfold Ffd at h
 refine ck 10 [3,10] [] [1] [] [.hp 1 0 [] 2 0 0,encI_Calendar c_1] [some ⟨0,2,[encI_Calendar c_1]⟩] 65 (by kernel_rfl) ?_
 obtain ⟨r4,hr4,h⟩:=bS h
 refine oq 81 (B (r4)) rfl (e_callV rfl rfl (call_P rfl rfl rfl (avS (shP rfl) (avN)) (Fff_F hr4) (.inr rfl) (bl_n) rfl rfl rfl)) ?_
 refine cq 2 [13] [B ((!r4))] 113 ?_
 obtain ⟨u5,hu5,h⟩:=lJ h
 have j5 : Run Ffd_E 0 (Ffd_Q (c_1,from_2,to_3) r) (.code (cR (cL (cR Ffd_c))) :: .code (cR (cR Ffd_c)) :: []) (sT 38 [(1,I (from_2)),(2,I (to_3)),(3,.hp 1 0 [] 2 0 0),(25,B (u5))] [⟨0,2,[encI_Calendar c_1]⟩] 2):=by
   refine sq h (fun h=>?_) (fun h=>?_)
   · refine cq 5 [6,7] [I (0),B (false)] 34 ?_
     obtain rfl:=Option.some.inj h
     exact s_ret rfl ⟨_,fin (vs:=[I (0),B (false)]) rfl (absE (absorb_plain rfl) (absE (absorb_plain rfl) (absEN))) rfl (ou_f (ou_f (ou_f (ou_n)))),kl_n⟩
   · refine aq 1 ?_
     refine cq 11 [8,9] [I (0),I (from_2)] 50 ?_
     obtain ⟨y9,hy9,hy91,hy92⟩:=bJ h
     refine s_loop rfl ?_
     refine rf [2,3,8,9] [1] (Ffd_la_run c_1 from_2 to_3 rfl (0,from_2) _ hy9 (fun r' e st hq=>by rw [hy91 r' e] at hq; exact hq) fun u9 hu=>?_)
     replace h:=hy92 u9 hu
     refine cq 6 [6,7] [I (u9),B (true)] 49 ?_
     obtain rfl:=Option.some.inj h
     exact s_ret rfl ⟨_,fin (vs:=[I (u9),B (true)]) rfl (absE (absorb_plain rfl) (absE (absorb_plain rfl) (absEN))) rfl (ou_f (ou_f (ou_f (ou_n)))),kl_n⟩
 replace h:=hu5
 clear hu5
 refine sp 13 h rfl (fun h=>?_) (fun h=>?_)
 · refine cq 13 [25] [B (true)] 305 ?_
   subst h
   exact rf [1,2,3,25] [1] (j5 :)
 · refine cq 4 [17] [B ((decide (from_2 < 0)))] 177 ?_
   obtain ⟨u10,hu10,h⟩:=lJ h
   have j10 : Run Ffd_E 0 (Ffd_Q (c_1,from_2,to_3) r) (.code (cR (cL (cR Ffd_c))) :: .code (cR (cR Ffd_c)) :: []) (sT 38 [(1,I (from_2)),(2,I (to_3)),(3,.hp 1 0 [] 2 0 0),(25,B (u10))] [⟨0,2,[encI_Calendar c_1]⟩] 2):=by
     subst h
     exact rf [1,2,3,25] [1] (j5 :)
   replace h:=hu10
   clear hu10
   refine sp 17 h rfl (fun h=>?_) (fun h=>?_)
   · refine cq 9 [25] [B (true)] 305 ?_
     subst h
     exact rf [1,2,3,25] [1] (j10 :)
   · refine cq 5 [22] [B ((decide (from_2 > to_3)))] 257 ?_
     obtain ⟨u11,hu11,h⟩:=lJ h
     have j11 : Run Ffd_E 0 (Ffd_Q (c_1,from_2,to_3) r) (.code (cR (cL (cR Ffd_c))) :: .code (cR (cR Ffd_c)) :: []) (sT 38 [(1,I (from_2)),(2,I (to_3)),(3,.hp 1 0 [] 2 0 0),(25,B (u11))] [⟨0,2,[encI_Calendar c_1]⟩] 2):=by
       subst h
       exact rf [1,2,3,25] [1] (j10 :)
     replace h:=hu11
     clear hu11
     refine sp 22 h rfl (fun h=>?_) (fun h=>?_)
     · refine cq 4 [25] [B (true)] 305 ?_
       subst h
       exact rf [1,2,3,25] [1] (j11 :)
     · refine cq 4 [25] [B ((decide (to_3 > 36524)))] 305 ?_
       subst h
       exact rf [1,2,3,25] [1] (j11 :)
theorem Ffd_good {G : Go.Ln.Ground} : Good Try.prog G 17 Ffd_ent:=good_T (fnOf_good (gl_c Fff_good (gl_c Ffh_good (gl_n)))) agree_mk (Checked.mixed Try.checked) Try.func17 (n:=3) (m:=0) ⟨rfl,rfl,by decide⟩ (fun _=>⟨rfl,rfl⟩) (fun a r h=>Ffd_run a.1 a.2.1 a.2.2 r h)
def Ffbn_A : ((List Int))→List V:=oA (slE (V.int .u8))
def Ffbn_R (r : Calendar × Calendar) : V × List V:=(.tup [encO_Calendar r.1,encO_Calendar r.2],[])
noncomputable def Ffbn_ent : Ent:=entT [false] Ffbn_A Ffbn_R fun x=>Ffbn x
theorem Ffbn_F {code_1 : List Int} {r} (h : Ffbn code_1=some r) : (Ffbn_ent).F (Ffbn_A code_1)=some (Ffbn_R r):=entT_F (oA_inj (isl_inj (vint_inj (k:=.u8)))) h
noncomputable def Ffbn_c : Code:=bodyOf Try.f18
noncomputable def Ffbn_E : Env:=mkE Try.prog [(22,Ffbu_ent),(50,Ffbq_ent)]
def Ffbn_Q (x : (List Int)) (r : Calendar × Calendar) : St→Prop:=QF Ffbn_E Try.f18 [false] (Ffbn_A x) (Ffbn_R r)
theorem Ffbn_run (code_1 : List Int) (r : Calendar × Calendar) (h : Ffbn code_1=some r) : RunF Ffbn_E Try.f18 [false] 0 (Ffbn_A code_1) (Ffbn_R r):=by
 show Run _ _ (Ffbn_Q code_1 r) [.code Ffbn_c] _
 refine rin (n:=19) [(0,.isl false ((code_1).map (V.int .u8)))] [] 1 (by kernel_rfl) (by kernel_rfl) (by kernel_rfl) rfl ?_
 unfold Ffbn at h
 refine ck 3 [2] [] [1] [] [.hp 1 0 [] 2 0 0] [some ⟨0,2,[.agg [.isl true [],.isl true []]]⟩] 17 (by kernel_rfl) ?_
 refine run_row 1 [.agg [.usl 1 (([]).map I),.usl 1 (([]).map I)]] rfl rfl (cvs_c (cv_agg (cvs_c (.nil _) (cvs_c (.nil _) (cvs_n)))) cvs_n) ?_
 refine ck 1 [3] [] [17] [] [.hp 17 0 [] 2 0 0] [some ⟨0,2,[.agg [.isl true [],.isl true []]]⟩] 33 (by kernel_rfl) ?_
 refine run_row 17 [.agg [.usl 1 (([]).map I),.usl 1 (([]).map I)]] rfl rfl (cvs_c (cv_agg (cvs_c (.nil _) (cvs_c (.nil _) (cvs_n)))) cvs_n) ?_
 refine ck 11 [4,10] [] [65] [] [.hp 65 0 [] 3 0 0,.hp 65 0 [] 3 0 0] [some ⟨0,3,[.agg [.isl false ((code_1).map (V.int .u8)),I (0),.int .u64 (0)]]⟩] 113 (by kernel_rfl) ?_
 obtain ⟨r2,hr2,h⟩:=bS h
 refine oq 129 (I (r2.1)) rfl (e_callV rfl rfl (call_P rfl rfl rfl (avO (hd1 rfl (hd_hq (path:=[]) rfl rfl (ra_n))) (avN)) (Ffbu_F hr2) (.inr rfl) (bl_c rfl rfl rfl rfl (bl_n)) rfl rfl rfl)) ?_
 refine cq 6 [5,12,13] [I (r2.1),.hp 65 0 [] 3 0 0,I (r2.1)] 177 ?_
 obtain ⟨r3,hr3,h⟩:=bS h
 refine oq 193 (.agg [.hs 177 0 [] 1 0 ((r3.1.Weekend).map I).length,.hs 178 0 [] 1 0 ((r3.1.Holidays).map I).length]) rfl (e_callV rfl rfl (call_P rfl rfl rfl (avO (hd1 rfl (hd_hq (path:=[]) rfl rfl (ra_n))) (avS (shP rfl) (avN))) (Ffbq_F hr3) (.inr rfl) (bl_c rfl rfl rfl rfl (bl_n)) rfl rfl rfl)) ?_
 refine ck 1 [6] [] [193] [] [.hp 193 0 [] 2 0 0] [some ⟨0,2,[.agg [.isl true [],.isl true []]]⟩] 209 (by kernel_rfl) ?_
 refine run_row 193 [.agg [.usl 1 (([]).map I),.usl 1 (([]).map I)]] rfl rfl (cvs_c (cv_agg (cvs_c (.nil _) (cvs_c (.nil _) (cvs_n)))) cvs_n) ?_
 refine o0 225 rfl rfl (e_st rfl rfl (st_at (path:=[]) (pl:=false) (e':=encO_Calendar r3.1) (es2':=[encO_Calendar r3.1]) rfl (absA (absC (abs_hs rfl rfl) (absC (abs_hs rfl rfl) (absN)))) rfl rfl rfl (ra_n) rfl rfl rfl rfl rfl (sr_n) 2 rfl)) ?_
 refine aq 2 ?_
 refine s_draw [0,0,0,6,15,31] rfl (by decide +kernel) ?_
 refine dq [193] [] (.agg [.hs 193 2 [(0,0)] 1 0 ((r3.1.Weekend).map I).length,.hs 193 2 [(0,1)] 1 0 ((r3.1.Holidays).map I).length]) rfl (e_ld rfl rfl) ?_
 refine dk 2 [17,16] [I (r2.1),.hp 65 0 [] 3 0 0] ?_
 obtain ⟨r4,hr4,h⟩:=bS h
 refine dq [65] [65] (.agg [.hs 273 0 [] 1 0 ((r4.1.Weekend).map I).length,.hs 274 0 [] 1 0 ((r4.1.Holidays).map I).length]) rfl (e_callV rfl rfl (call_P rfl rfl rfl (avO (hd1 rfl (hd_hq (path:=[]) rfl rfl (ra_n))) (avS (shP rfl) (avN))) (Ffbq_F hr4) (.inr rfl) (bl_c rfl rfl rfl rfl (bl_n)) rfl rfl rfl)) ?_ (w_callO rfl rfl rfl rfl (avO (hd1 rfl (hd_hq (path:=[]) rfl rfl (ra_n))) (avS (shP rfl) (avN))) (Ffbq_F hr4) (.inr rfl) rfl)
 refine dz [1,193,193] [1,193,193] rfl (e_st rfl rfl (st_at (path:=[]) (pl:=false) (e':=encO_Calendar r3.1) (es2':=[encO_Calendar r3.1]) rfl (absA (absC (abs_at (path:=[(0,0)]) rfl rfl (ra_c rfl rfl (ra_n)) rfl (to_c (path:=[]) (i:=0) (k:=0) (e':=.agg [.dead,.usl 1 ((r3.1.Holidays).map I)]) (es2':=[.agg [.dead,.usl 1 ((r3.1.Holidays).map I)]]) (ra_n) rfl rfl rfl (sr_n))) (absC (abs_at (path:=[(0,1)]) rfl rfl (ra_c rfl rfl (ra_n)) rfl (to_c (path:=[]) (i:=0) (k:=1) (e':=.agg [.dead,.dead]) (es2':=[.agg [.dead,.dead]]) (ra_n) rfl rfl rfl (sr_n))) (absN)))) rfl rfl rfl (ra_n) rfl rfl rfl rfl rfl (sr_n) 2 rfl)) ?_
 refine dz [17,273,274] [17,273,274] rfl (e_st rfl rfl (st_at (path:=[]) (pl:=false) (e':=encO_Calendar r4.1) (es2':=[encO_Calendar r4.1]) rfl (absA (absC (abs_hs rfl rfl) (absC (abs_hs rfl rfl) (absN)))) rfl rfl rfl (ra_n) rfl rfl rfl rfl rfl (sr_n) 2 rfl)) ?_
 refine de 321 rfl rfl ?_
 obtain rfl:=Option.some.inj h
 exact s_ret rfl ⟨_,fin (vs:=[.agg [.hs 1 2 [(0,0)] 1 0 ((r3.1.Weekend).map I).length,.hs 1 2 [(0,1)] 1 0 ((r3.1.Holidays).map I).length],.agg [.hs 17 2 [(0,0)] 1 0 ((r4.1.Weekend).map I).length,.hs 17 2 [(0,1)] 1 0 ((r4.1.Holidays).map I).length]]) (rs_c (rs_cell rfl rfl rfl) (rs_c (rs_cell rfl rfl rfl) (rs_n))) (absE (absA (absC (abs_at (path:=[(0,0)]) rfl rfl (ra_c rfl rfl (ra_n)) rfl (to_c (path:=[]) (i:=0) (k:=0) (e':=.agg [.dead,.usl 1 ((r3.1.Holidays).map I)]) (es2':=[.agg [.dead,.usl 1 ((r3.1.Holidays).map I)]]) (ra_n) rfl rfl rfl (sr_n))) (absC (abs_at (path:=[(0,1)]) rfl rfl (ra_c rfl rfl (ra_n)) rfl (to_c (path:=[]) (i:=0) (k:=1) (e':=.agg [.dead,.dead]) (es2':=[.agg [.dead,.dead]]) (ra_n) rfl rfl rfl (sr_n))) (absN)))) (absE (absA (absC (abs_at (path:=[(0,0)]) rfl rfl (ra_c rfl rfl (ra_n)) rfl (to_c (path:=[]) (i:=0) (k:=0) (e':=.agg [.dead,.usl 1 ((r4.1.Holidays).map I)]) (es2':=[.agg [.dead,.usl 1 ((r4.1.Holidays).map I)]]) (ra_n) rfl rfl rfl (sr_n))) (absC (abs_at (path:=[(0,1)]) rfl rfl (ra_c rfl rfl (ra_n)) rfl (to_c (path:=[]) (i:=0) (k:=1) (e':=.agg [.dead,.dead]) (es2':=[.agg [.dead,.dead]]) (ra_n) rfl rfl rfl (sr_n))) (absN)))) (absEN))) rfl (ou_f (ou_n)),kl_n⟩
theorem Ffbn_good {G : Go.Ln.Ground} : Good Try.prog G 18 Ffbn_ent:=good_T (fnOf_good (gl_c Ffbu_good (gl_c Ffbq_good (gl_n)))) agree_mk (Checked.mixed Try.checked) Try.func18 (n:=1) (m:=0) ⟨rfl,rfl,by decide⟩ (fun _=>⟨rfl,rfl⟩) (fun a r h=>Ffbn_run a r h)
def Ffq_A : ((List Int))→List V:=oA (slE I)
def Ffq_R (r : (List Int)) : V × List V:=(.usl 1 ((r).map I),[])
noncomputable def Ffq_ent : Ent:=entT [false] Ffq_A Ffq_R fun x=>Ffq x
theorem Ffq_F {s_1 : List Int} {r} (h : Ffq s_1=some r) : (Ffq_ent).F (Ffq_A s_1)=some (Ffq_R r):=entT_F (oA_inj (isl_inj I_inj)) h
noncomputable def Ffq_c : Code:=bodyOf Try.f71
noncomputable def Ffq_E : Env:=mkE Try.prog []
def Ffq_Q (x : (List Int)) (r : (List Int)) : St→Prop:=QF Ffq_E Try.f71 [false] (Ffq_A x) (Ffq_R r)
theorem Ffq_run (s_1 : List Int) (r : (List Int)) (h : Ffq s_1=some r) : RunF Ffq_E Try.f71 [false] 0 (Ffq_A s_1) (Ffq_R r):=by
 show Run _ _ (Ffq_Q s_1 r) [.code Ffq_c] _
 refine rin (n:=8) [(0,.isl false ((s_1).map I))] [] 1 (by kernel_rfl) (by kernel_rfl) (by kernel_rfl) rfl ?_
 unfold Ffq at h
 refine cq 8 [3] [.isl false ((s_1).map I)] 33 ?_
 refine nq (f:=I) (xs:=s_1) true 49 rfl h rfl rfl rfl rfl (fun h=>?_) (fun h=>?_)
 · refine aq 1 ?_
   refine s_cond rfl rfl (fun _=>?_) (fun hb=>by cases hb)
   refine cq 4 [2] [.isl true []] 65 ?_
   refine run_own 2 0 1 81 (.hs 65 0 [] 1 0 0) rfl rfl rfl rfl rfl ?_
   obtain rfl:=Option.some.inj h
   exact s_ret rfl ⟨_,fin (vs:=[.hs 65 0 [] 1 0 0]) rfl (absE (abs1 rfl (abs_hs (k:=0) (es:=[]) rfl rfl)) (absEN)) rfl (ou_f (ou_n)),kl_n⟩
 · refine aq 1 ?_
   refine s_cond rfl rfl (fun hb=>by cases hb) (fun _=>?_)
   refine aq 3 ?_
   refine oq 65 (.hs 49 0 [] 1 0 0) rfl (e_buildSlice rfl (bs_mk (f:=I) (xs:=[]) (z:=I (0)) (es:=[]) (ws:=[]) rfl rfl rfl (by decide) rfl (abs_each_plain rfl) rfl)) ?_
   refine cq 1 [6] [.isl false ((s_1).map I)] 81 ?_
   obtain ⟨a2,ha2,h⟩:=bS h
   refine oq 97 (.hs 81 0 [] 1 0 ((a2).map I).length) rfl (e_append rfl rfl rfl rfl rfl (ap_hsM (path:=[]) (es0:=[]) (f:=I) (xs:=([] : List Int)) (ys:=s_1) rfl rfl (take_isl) rfl rfl rfl (rfl) rfl (by decide) I_cells ha2 rfl (to_n))) ?_
   refine cq 2 [2] [.hs 81 0 [] 1 0 ((a2).map I).length] 113 ?_
   obtain rfl:=Option.some.inj h
   exact s_ret rfl ⟨_,fin (vs:=[.hs 81 0 [] 1 0 ((a2).map I).length]) rfl (absE (abs1 rfl (abs_hs rfl rfl)) (absEN)) rfl (ou_f (ou_n)),kl_n⟩
theorem Ffq_good {G : Go.Ln.Ground} : Good Try.prog G 71 Ffq_ent:=good_T (fnOf_good (gl_n)) agree_mk (Checked.mixed Try.checked) Try.func71 (n:=1) (m:=0) ⟨rfl,rfl,by decide⟩ (fun _=>⟨rfl,rfl⟩) (fun a r h=>Ffq_run a r h)
def Ffp_A : Int→List V:=oA (V.int .u64)
def Ffp_R (r : Int) : V × List V:=(I (r),[])
noncomputable def Ffp_ent : Ent:=entT [false] Ffp_A Ffp_R fun x=>Ffp x
theorem Ffp_F {x_1 : Int} {r} (h : Ffp x_1=some r) : (Ffp_ent).F (Ffp_A x_1)=some (Ffp_R r):=entT_F (oA_inj (vint_inj (k:=.u64))) h
noncomputable def Ffp_c : Code:=bodyOf Try.f94
noncomputable def Ffp_E : Env:=mkE Try.prog []
def Ffp_Q (x : Int) (r : Int) : St→Prop:=QF Ffp_E Try.f94 [false] (Ffp_A x) (Ffp_R r)
theorem Ffp_run (x_1 : Int) (r : Int) (h : Ffp x_1=some r) : RunF Ffp_E Try.f94 [false] 0 (Ffp_A x_1) (Ffp_R r):=by
 show Run _ _ (Ffp_Q x_1 r) [.code Ffp_c] _
 refine rin (n:=25) [(0,.int .u64 (x_1))] [] 1 (by kernel_rfl) (by kernel_rfl) (by kernel_rfl) rfl ?_
 unfold Ffp at h
 refine cq 10 [2,4] [I (0),B ((decide (x_1 ≥ 4294967296)))] 49 ?_
 obtain ⟨u2,hu2,h⟩:=lJ h
 have j2 : Run Ffp_E 0 (Ffp_Q x_1 r) (.code (cR (cR Ffp_c)) :: []) (sT 25 [(0,.int .u64 (u2.1)),(2,I (u2.2))] [] 1):=by
   refine cq 6 [8] [B ((decide (u2.1 ≥ 65536)))] 33 ?_
   obtain ⟨u3,hu3,h⟩:=lJ h
   have j3 : Run Ffp_E 0 (Ffp_Q x_1 r) (.code (cR (cR (cR Ffp_c))) :: []) (sT 25 [(0,.int .u64 (u3.1)),(2,I (u3.2))] [] 1):=by
     refine cq 6 [14] [B ((decide (u3.1 ≥ 256)))] 33 ?_
     obtain ⟨u4,hu4,h⟩:=lJ h
     have j4 : Run Ffp_E 0 (Ffp_Q x_1 r) (.code (cR (cR (cR (cR Ffp_c)))) :: []) (sT 25 [(0,.int .u64 (u4.1)),(2,I (u4.2))] [] 1):=by
       refine cq 5 [19,21] [I (u4.2),.int .u8 ((IntKind.u8.wrap u4.1))] 49 ?_
       obtain ⟨c5,hc5,h⟩:=bS h
       refine oq 65 (.int .u8 ((c5.toNat : Int))) rfl (e_index rfl rfl (i_str rfl rfl hc5)) ?_
       refine cq 4 [2] [I ((w64 (u4.2 + (IntKind.i64.wrap (c5.toNat : Int)))))] 113 ?_
       obtain rfl:=Option.some.inj h
       exact s_ret rfl ⟨_,fin (vs:=[I ((w64 (u4.2 + (IntKind.i64.wrap (c5.toNat : Int)))))]) rfl (absE (absorb_plain rfl) (absEN)) rfl (ou_f (ou_n)),kl_n⟩
     replace h:=hu4
     clear hu4
     refine scp h rfl rfl (fun h=>?_) (fun h=>?_)
     · refine cq 11 [0,2] [.int .u64 ((shrI .u64 u3.1 8)),I ((w64 (u3.2 + 8)))] 129 ?_
       subst h
       exact rf [0,2] [] (j4 :)
     · refine aq 1 ?_
       subst h
       exact rf [0,2] [] (j4 :)
   replace h:=hu3
   clear hu3
   refine scp h rfl rfl (fun h=>?_) (fun h=>?_)
   · refine cq 11 [0,2] [.int .u64 ((shrI .u64 u2.1 16)),I ((w64 (u2.2 + 16)))] 129 ?_
     subst h
     exact rf [0,2] [] (j3 :)
   · refine aq 1 ?_
     subst h
     exact rf [0,2] [] (j3 :)
 replace h:=hu2
 clear hu2
 refine scp h rfl rfl (fun h=>?_) (fun h=>?_)
 · refine cq 9 [0,2] [.int .u64 ((shrI .u64 x_1 32)),I (32)] 113 ?_
   subst h
   exact rf [0,2] [] (j2 :)
 · refine aq 1 ?_
   subst h
   exact rf [0,2] [] (j2 :)
theorem Ffp_good {G : Go.Ln.Ground} : Good Try.prog G 94 Ffp_ent:=good_T (fnOf_good (gl_n)) agree_mk (Checked.mixed Try.checked) Try.func94 (n:=1) (m:=0) ⟨rfl,rfl,by decide⟩ (fun _=>⟨rfl,rfl⟩) (fun a r h=>Ffp_run a r h)
def Ffo_A : Int→List V:=oA (V.int .u64)
def Ffo_R (r : Int) : V × List V:=(I (r),[])
noncomputable def Ffo_ent : Ent:=entT [false] Ffo_A Ffo_R fun x=>Ffo x
theorem Ffo_F {x_1 : Int} {r} (h : Ffo x_1=some r) : (Ffo_ent).F (Ffo_A x_1)=some (Ffo_R r):=entT_F (oA_inj (vint_inj (k:=.u64))) h
noncomputable def Ffo_c : Code:=bodyOf Try.f82
noncomputable def Ffo_E : Env:=mkE Try.prog [(94,Ffp_ent)]
def Ffo_Q (x : Int) (r : Int) : St→Prop:=QF Ffo_E Try.f82 [false] (Ffo_A x) (Ffo_R r)
theorem Ffo_run (x_1 : Int) (r : Int) (h : Ffo x_1=some r) : RunF Ffo_E Try.f82 [false] 0 (Ffo_A x_1) (Ffo_R r):=by
 show Run _ _ (Ffo_Q x_1 r) [.code Ffo_c] _
 refine rin (n:=8) [(0,.int .u64 (x_1))] [] 1 (by kernel_rfl) (by kernel_rfl) (by kernel_rfl) rfl ?_
 unfold Ffo at h
 refine cq 5 [] [] 17 ?_
 refine s_cond rfl rfl (fun hb=>by cases hb) (fun _=>?_)
 refine cq 4 [6] [.int .u64 (x_1)] 33 ?_
 obtain ⟨r2,hr2,h⟩:=bS h
 refine oq 49 (I (r2)) rfl (e_callV rfl rfl (call_P rfl rfl rfl (avS (shP rfl) (avN)) (Ffp_F hr2) (.inr rfl) (bl_n) rfl rfl rfl)) ?_
 refine cq 2 [2] [I (r2)] 65 ?_
 obtain rfl:=Option.some.inj h
 exact s_ret rfl ⟨_,fin (vs:=[I (r2)]) rfl (absE (absorb_plain rfl) (absEN)) rfl (ou_f (ou_n)),kl_n⟩
theorem Ffo_good {G : Go.Ln.Ground} : Good Try.prog G 82 Ffo_ent:=good_T (fnOf_good (gl_c Ffp_good (gl_n))) agree_mk (Checked.mixed Try.checked) Try.func82 (n:=1) (m:=0) ⟨rfl,rfl,by decide⟩ (fun _=>⟨rfl,rfl⟩) (fun a r h=>Ffo_run a r h)
def Ffb_A : Int→List V:=oA I
def Ffb_R (r : Bool) : V × List V:=(B (r),[])
noncomputable def Ffb_ent : Ent:=entT [false] Ffb_A Ffb_R fun x=>Ffb x
theorem Ffb_F {x_1 : Int} {r} (h : Ffb x_1=some r) : (Ffb_ent).F (Ffb_A x_1)=some (Ffb_R r):=entT_F (oA_inj I_inj) h
noncomputable def Ffb_c : Code:=bodyOf Try.f100
noncomputable def Ffb_E : Env:=mkE Try.prog []
def Ffb_Q (x : Int) (r : Bool) : St→Prop:=QF Ffb_E Try.f100 [false] (Ffb_A x) (Ffb_R r)
theorem Ffb_run (x_1 : Int) (r : Bool) (h : Ffb x_1=some r) : RunF Ffb_E Try.f100 [false] 0 (Ffb_A x_1) (Ffb_R r):=by
 show Run _ _ (Ffb_Q x_1 r) [.code Ffb_c] _
 refine rin (n:=6) [(0,I (x_1))] [] 1 (by kernel_rfl) (by kernel_rfl) (by kernel_rfl) rfl ?_
 unfold Ffb at h
 refine cq 11 [2] [B ((x_1 != x_1))] 81 ?_
 obtain rfl:=Option.some.inj h
 exact s_ret rfl ⟨_,fin (vs:=[B ((x_1 != x_1))]) rfl (absE (absorb_plain rfl) (absEN)) rfl (ou_f (ou_n)),kl_n⟩
theorem Ffb_good {G : Go.Ln.Ground} : Good Try.prog G 100 Ffb_ent:=good_T (fnOf_good (gl_n)) agree_mk (Checked.mixed Try.checked) Try.func100 (n:=1) (m:=0) ⟨rfl,rfl,by decide⟩ (fun _=>⟨rfl,rfl⟩) (fun a r h=>Ffb_run a r h)
def Ffa_A : (Int × Int)→List V:=cA I (oA I)
def Ffa_R (r : Bool) : V × List V:=(B (r),[])
noncomputable def Ffa_ent : Ent:=entT [false,false] Ffa_A Ffa_R fun x=>Ffa x.1 x.2
theorem Ffa_F {x_1 : Int} {y_2 : Int} {r} (h : Ffa x_1 y_2=some r) : (Ffa_ent).F (Ffa_A (x_1,y_2))=some (Ffa_R r):=entT_F (cA_inj I_inj (oA_inj I_inj)) h
noncomputable def Ffa_c : Code:=bodyOf Try.f90
noncomputable def Ffa_E : Env:=mkE Try.prog [(100,Ffb_ent)]
def Ffa_Q (x : Int × Int) (r : Bool) : St→Prop:=QF Ffa_E Try.f90 [false,false] (Ffa_A x) (Ffa_R r)
theorem Ffa_run (x_1 : Int) (y_2 : Int) (r : Bool) (h : Ffa x_1 y_2=some r) : RunF Ffa_E Try.f90 [false,false] 0 (Ffa_A (x_1,y_2)) (Ffa_R r):=by
 show Run _ _ (Ffa_Q (x_1,y_2) r) [.code Ffa_c] _
 refine rin (n:=17) [(0,I (x_1)),(1,I (y_2))] [] 1 (by kernel_rfl) (by kernel_rfl) (by kernel_rfl) rfl ?_
 unfold Ffa at h
 refine cq 7 [5] [I (x_1)] 33 ?_
 obtain ⟨r3,hr3,h⟩:=bS h
 refine oq 49 (B (r3)) rfl (e_callV rfl rfl (call_P rfl rfl rfl (avS (shP rfl) (avN)) (Ffb_F hr3) (.inr rfl) (bl_n) rfl rfl rfl)) ?_
 refine cq 1 [7] [B (r3)] 65 ?_
 obtain ⟨y4,hy4,hy41,hy42⟩:=bJ h
 have j4 : ∀ u4,y4=.inr u4→Run Ffa_E 0 (Ffa_Q (x_1,y_2) r) (.code (cR (cR Ffa_c)) :: []) (sT 17 [(4,B (u4))] [] 1):=by
   intro u4 hu
   replace h:=hy42 u4 hu
   obtain rfl:=Option.some.inj h
   exact s_ret rfl ⟨_,fin (vs:=[B (u4)]) rfl (absE (absorb_plain rfl) (absEN)) rfl (ou_f (ou_f (ou_n))),kl_n⟩
 have r4 : ∀ r',y4=.inl r'→∀ st,Ffa_Q (x_1,y_2) r' st→(Ffa_Q (x_1,y_2) r) st:=fun r' e st hq=>by rw [hy41 r' e] at hq; exact hq
 replace h:=hy4
 refine sp 7 h rfl (fun h=>?_) (fun h=>?_)
 · refine cq 1 [8] [I (y_2)] 81 ?_
   obtain ⟨r5,hr5,h⟩:=bS h
   refine oy 97 (B (r5)) rfl (e_callV rfl rfl (call_P rfl rfl rfl (avS (shP rfl) (avN)) (Ffb_F hr5) (.inr rfl) (bl_n) rfl rfl rfl)) ?_
   refine cq 3 [12] [B ((!r5))] 145 ?_
   obtain ⟨u6,hu6,h⟩:=lJ h
   have j6 : Run Ffa_E 0 (Ffa_Q (x_1,y_2) r) (.code (cR (cR Ffa_c)) :: []) (sT 17 [(4,B (u6))] [] 1):=by
     exact rf [4] [] (j4 _ (Option.some.inj h).symm :)
   replace h:=hu6
   clear hu6
   refine sp 12 h rfl (fun h=>?_) (fun h=>?_)
   · refine cq 6 [4] [B (true)] 225 ?_
     subst h
     exact rf [4] [] (j6 :)
   · refine cq 6 [4] [B ((decide (x_1 < y_2)))] 225 ?_
     subst h
     exact rf [4] [] (j6 :)
 · refine cq 11 [4] [B ((decide (x_1 < y_2)))] 225 ?_
   exact rf [4] [] (j4 _ (Option.some.inj h).symm :)
theorem Ffa_good {G : Go.Ln.Ground} : Good Try.prog G 90 Ffa_ent:=good_T (fnOf_good (gl_c Ffb_good (gl_n))) agree_mk (Checked.mixed Try.checked) Try.func90 (n:=2) (m:=0) ⟨rfl,rfl,by decide⟩ (fun _=>⟨rfl,rfl⟩) (fun a r h=>Ffa_run a.1 a.2 r h)
def Ffy_A : ((List Int) × Int × Int)→List V:=cA (usE 1 I) (cA I (oA I))
def Ffy_R (r : (List Int)) : V × List V:=(.tup [],[.usl 1 ((r).map I)])
noncomputable def Ffy_ent : Ent:=entT [true,false,false] Ffy_A Ffy_R fun x=>Ffy x.1 x.2.1 x.2.2
theorem Ffy_F {data_15 : List Int} {a_16 : Int} {b_17 : Int} {r} (h : Ffy data_15 a_16 b_17=some r) : (Ffy_ent).F (Ffy_A (data_15,a_16,b_17))=some (Ffy_R r):=entT_F (cA_inj (usl_inj I_inj) (cA_inj I_inj (oA_inj I_inj))) h
noncomputable def Ffy_c : Code:=bodyOf Try.f84
noncomputable abbrev Ffy_ka : Code:=cL (cL (cR (cL (cL (cR (cL (cL (cR Ffy_c))))))))
noncomputable def Ffy_E : Env:=mkE Try.prog [(90,Ffa_ent)]
def Ffy_Q (x : (List Int) × Int × Int) (r : (List Int)) : St→Prop:=QF Ffy_E Try.f84 [true,false,false] (Ffy_A x) (Ffy_R r)
theorem Ffy_lb_run (data_15 : List Int) (a_16 : Int) (b_17 : Int) (x4 : Int × Int × Int × (List Int)) {Q : St→Prop} {K : List It} (hK : noD K=true) : ∀ (x5 : Int × (List Int)) (y : ((List Int)) ⊕ ((List Int))),Ffy_lb data_15 a_16 b_17 x4 x5=some y→(∀ r',y=.inl r'→∀ st,Ffy_Q (data_15,a_16,b_17) r' st→Q st)→(∀ u : (List Int),y=.inr u→Run Ffy_E 1 Q K (sT 49 [(0,.hs 1 0 [] 1 0 ((u).map I).length),(1,I (x4.1)),(2,I (x4.2.1)),(6,I (x4.2.2.1))] [⟨0,1,(u).map I⟩] 2))→Run Ffy_E 1 Q (.code Ffy_ka :: .lp Ffy_ka :: .blk 2 :: K) (sT 49 [(0,.hs 1 0 [] 1 0 ((x5.2).map I).length),(1,I (x4.1)),(2,I (x4.2.1)),(6,I (x4.2.2.1)),(7,I (x5.1))] [⟨0,1,(x5.2).map I⟩] 2):=by
 refine fix_indP (Ffy_lb_fin data_15 a_16 b_17 x4) ?_
 intro self ih x5 y h hr hn
 unfold Ffy_lb_F at h
 refine aq 2 ?_
 refine s_draw [0,0,3,7,15,15,63,127,15,15,527,1807,3855,8191,16383] rfl (by decide +kernel) ?_
 refine dk 4 [19,18,17,16] [B ((decide (x5.1 > x4.1))),B ((decide (x5.1 > x4.1))),I (x4.1),I (x5.1)] ?_
 obtain ⟨y6,hy6,hy61,hy62⟩:=bL h
 have j6 : ∀ u6,y6=.inr u6→Run Ffy_E 1 Q (.code (cR (cL Ffy_ka)) :: .code (cR Ffy_ka) :: .lp Ffy_ka :: .blk 2 :: K) (sT 49 [(0,.hs 1 0 [] 1 0 ((x5.2).map I).length),(1,I (x4.1)),(2,I (x4.2.1)),(6,I (x4.2.2.1)),(7,I (x5.1)),(30,B (u6))] [⟨0,1,(x5.2).map I⟩] 2):=by
   intro u6 hu
   replace h:=hy62 u6 hu
   refine sq h (fun h=>?_) (fun h=>?_)
   · refine aq 1 ?_
     refine aq 2 ?_
     refine s_draw [0,0,0,0,8,0,0,64,224,480,0,0,3072,7168,16355,32739,65535,131071] rfl (by decide +kernel) ?_
     refine dk 8 [40,39,38,37,36,35,34,33] [I ((w64 (x5.1 - 1))),I (x5.1),.hs 1 0 [] 1 0 ((x5.2).map I).length,I ((w64 (x5.1 - 1))),I (x5.1),.hs 1 0 [] 1 0 ((x5.2).map I).length,I (x5.1),.hs 1 0 [] 1 0 ((x5.2).map I).length] ?_
     obtain ⟨e7,he7,h⟩:=bS h
     refine dq [1] [] (.hp 1 0 [] 1 (0 + Int.toNat ((w64 (x5.1 - 1)))) 0) rfl (e_indexAddr rfl rfl rfl (ix_hsM (f:=I) (xs:=x5.2) rfl rfl rfl he7)) ?_
     refine dq [1] [] (I (e7)) rfl (e_ld rfl (ld_at (path:=[]) rfl rfl rfl (ra_n) (get_map (f:=I) (xs:=x5.2) he7) rfl rfl rfl)) ?_
     refine dk 2 [44,43] [I (x5.1),.hs 1 0 [] 1 0 ((x5.2).map I).length] ?_
     obtain ⟨e8,he8,h⟩:=bS h
     refine dq [1] [] (.hp 1 0 [] 1 (0 + Int.toNat (x5.1)) 0) rfl (e_indexAddr rfl rfl rfl (ix_hsM (f:=I) (xs:=x5.2) rfl rfl rfl he8)) ?_
     refine dq [1] [] (I (e8)) rfl (e_ld rfl (ld_at (path:=[]) rfl rfl rfl (ra_n) (get_map (f:=I) (xs:=x5.2) he8) rfl rfl rfl)) ?_
     obtain ⟨e9,he9,h⟩:=bS h
     refine dq [1] [] (.hp 1 0 [] 1 (0 + Int.toNat (x5.1)) 0) rfl (e_indexAddr rfl rfl rfl (ix_hsM (f:=I) (xs:=x5.2) rfl rfl rfl he9)) ?_
     refine dz [1] [1] rfl (e_st rfl rfl (st_at (path:=[]) (pl:=true) (e':=I (e7)) (es2':=((setI x5.2 x5.1 e7)).map I) rfl (absorb_plain rfl) rfl rfl rfl (ra_n) (get_map (f:=I) (xs:=x5.2) he9) rfl rfl rfl (set_map (f:=I) (xs:=x5.2) (y:=e7)) (sr_n) 0 rfl)) ?_
     try rw [← len_setM (f:=I) (xs:=x5.2) (i:=x5.1) (z:=e7)]
     obtain ⟨e12,he12,h⟩:=bS h
     refine dq [1] [] (.hp 1 0 [] 1 (0 + Int.toNat ((w64 (x5.1 - 1)))) 0) rfl (e_indexAddr rfl rfl rfl (ix_hsM (f:=I) (xs:=(setI x5.2 x5.1 e7)) rfl rfl rfl he12)) ?_
     refine dz [1] [1] rfl (e_st rfl rfl (st_at (path:=[]) (pl:=true) (e':=I (e8)) (es2':=((setI (setI x5.2 x5.1 e7) (w64 (x5.1 - 1)) e8)).map I) rfl (absorb_plain rfl) rfl rfl rfl (ra_n) (get_map (f:=I) (xs:=(setI x5.2 x5.1 e7)) he12) rfl rfl rfl (set_map (f:=I) (xs:=(setI x5.2 x5.1 e7)) (y:=e8)) (sr_n) 0 rfl)) ?_
     try rw [← len_setM (f:=I) (xs:=(setI x5.2 x5.1 e7)) (i:=(w64 (x5.1 - 1))) (z:=e8)]
     refine de 290 rfl rfl ?_
     refine cq 6 [7] [I ((w64 (x5.1 - 1)))] 338 ?_
     refine s_lp ?_
     exact rf [0,1,2,6,7] [1] (ih _ _ h hr hn :)
   · refine aq 1 ?_
     exact rf [0,1,2,6] [1] (hn _ (Option.some.inj h).symm :) (hk:=hK)
 have r6 : ∀ r',y6=.inl r'→∀ st,Ffy_Q (data_15,a_16,b_17) r' st→Q st:=fun r' e st hq=>hr r' (hy61 r' e) st hq
 replace h:=hy6
 refine sp 19 h rfl (fun h=>?_) (fun h=>?_)
 · refine dk 2 [21,20] [I (x5.1),.hs 1 0 [] 1 0 ((x5.2).map I).length] ?_
   obtain ⟨e16,he16,h⟩:=bS h
   refine dy [1] [] (.hp 1 0 [] 1 (0 + Int.toNat (x5.1)) 0) rfl (e_indexAddr rfl rfl rfl (ix_hsM (f:=I) (xs:=x5.2) rfl rfl rfl he16)) ?_
   refine dy [1] [] (I (e16)) rfl (e_ld rfl (ld_at (path:=[]) rfl rfl rfl (ra_n) (get_map (f:=I) (xs:=x5.2) he16) rfl rfl rfl)) ?_
   refine dk 3 [26,25,24] [I ((w64 (x5.1 - 1))),I (x5.1),.hs 1 0 [] 1 0 ((x5.2).map I).length] ?_
   obtain ⟨e17,he17,h⟩:=bS h
   refine dy [1] [] (.hp 1 0 [] 1 (0 + Int.toNat ((w64 (x5.1 - 1)))) 0) rfl (e_indexAddr rfl rfl rfl (ix_hsM (f:=I) (xs:=x5.2) rfl rfl rfl he17)) ?_
   refine dy [1] [] (I (e17)) rfl (e_ld rfl (ld_at (path:=[]) rfl rfl rfl (ra_n) (get_map (f:=I) (xs:=x5.2) he17) rfl rfl rfl)) ?_
   obtain ⟨r18,hr18,h⟩:=bS h
   refine dy [] [] (B (r18)) rfl (e_callV rfl rfl (call_P rfl rfl rfl (avS (shP rfl) (avS (shP rfl) (avN))) (Ffa_F hr18) (.inr rfl) (bl_n) rfl rfl rfl)) ?_ (w_callO rfl rfl rfl rfl (avS (shP rfl) (avS (shP rfl) (avN))) (Ffa_F hr18) (.inr rfl) rfl)
   refine dk 1 [30] [B (r18)] ?_
   refine de 242 rfl rfl ?_
   exact rf [0,1,2,6,7,30] [1] (j6 _ (Option.some.inj h).symm :)
 · refine dk 11 [30,29,28,27,26,25,24,23,22,21,20] [B (false),.und,.und,.und,.und,.und,.und,.und,.und,.und,.und] ?_
   refine de 242 rfl rfl ?_
   exact rf [0,1,2,6,7,30] [1] (j6 _ (Option.some.inj h).symm :)
theorem Ffy_la_run (data_15 : List Int) (a_16 : Int) (b_17 : Int)  {Q : St→Prop} {K : List It} (hK : noD K=true) : ∀ (x4 : Int × Int × Int × (List Int)) (y : ((List Int)) ⊕ ((List Int))),Ffy_la data_15 a_16 b_17 x4=some y→(∀ r',y=.inl r'→∀ st,Ffy_Q (data_15,a_16,b_17) r' st→Q st)→(∀ u : (List Int),y=.inr u→Run Ffy_E 1 Q K (sT 49 [] [⟨0,1,(u).map I⟩] 2))→Run Ffy_E 1 Q (.code (cL (cL (cR Ffy_c))) :: .lp (cL (cL (cR Ffy_c))) :: .blk 0 :: K) (sT 49 [(0,.hs 1 0 [] 1 0 ((x4.2.2.2).map I).length),(1,I (x4.1)),(2,I (x4.2.1)),(6,I (x4.2.2.1))] [⟨0,1,(x4.2.2.2).map I⟩] 2):=by
 refine fix_indP (Ffy_la_fin data_15 a_16 b_17) ?_
 intro self ih x4 y h hr hn
 unfold Ffy_la_F at h
 refine cq 7 [12] [B ((decide (x4.2.2.1 < x4.2.1)))] 50 ?_
 refine sq h (fun h=>?_) (fun h=>?_)
 · refine aq 1 ?_
   refine cq 8 [7] [I (x4.2.2.1)] 82 ?_
   obtain ⟨y19,hy19,hy191,hy192⟩:=bL h
   refine s_loop rfl ?_
   refine rf [0,1,2,6,7] [1] (Ffy_lb_run data_15 a_16 b_17 x4 rfl (x4.2.2.1,x4.2.2.2) _ hy19 (fun r' e st hq=>hr r' (hy191 r' e) st hq) fun u19 hu=>?_)
   replace h:=hy192 u19 hu
   refine cq 6 [6] [I ((w64 (x4.2.2.1 + 1)))] 50 ?_
   refine s_lp ?_
   exact rf [0,1,2,6] [1] (ih _ _ h hr hn :)
 · refine aq 1 ?_
   exact rf [] [1] (hn _ (Option.some.inj h).symm :) (hk:=hK)
theorem Ffy_run (data_15 : List Int) (a_16 : Int) (b_17 : Int) (r : (List Int)) (h : Ffy data_15 a_16 b_17=some r) : RunF Ffy_E Try.f84 [true,false,false] 1 (Ffy_A (data_15,a_16,b_17)) (Ffy_R r):=by
 show Run _ _ (Ffy_Q (data_15,a_16,b_17) r) [.code Ffy_c] _
 refine rin (n:=49) [(0,.hs 1 0 [] 1 0 ((data_15).map I).length),(1,I (a_16)),(2,I (b_17))] [(1,some ⟨0,1,(data_15).map I⟩)] 2 (by kernel_rfl) (by kernel_rfl) (by kernel_rfl) rfl ?_
 unfold Ffy at h
 refine cq 7 [6] [I ((w64 (a_16 + 1)))] 50 ?_
 obtain ⟨y20,hy20,hy201,hy202⟩:=bJ h
 refine s_loop rfl ?_
 refine rf [0,1,2,6] [1] (Ffy_la_run data_15 a_16 b_17 rfl (a_16,b_17,(w64 (a_16 + 1)),data_15) _ hy20 (fun r' e st hq=>by rw [hy201 r' e] at hq; exact hq) fun u20 hu=>?_)
 replace h:=hy202 u20 hu
 obtain ⟨g21,h⟩:=gG h
 obtain rfl:=Option.some.inj h
 exact s_end ⟨_,fin (vs:=[]) rfl (absEN) rfl (ou_1 rfl (oc_hsG (f:=I) (xs:=u20) (by simpa using g21) rfl) (ou_f (ou_f (ou_n)))),kl_c (kl_n)⟩
theorem Ffy_good {G : Go.Ln.Ground} : Good Try.prog G 84 Ffy_ent:=good_T (fnOf_good (gl_c Ffa_good (gl_n))) agree_mk (Checked.mixed Try.checked) Try.func84 (n:=3) (m:=1) ⟨rfl,rfl,by decide⟩ (fun _=>⟨rfl,rfl⟩) (fun a r h=>Ffy_run a.1 a.2.1 a.2.2 r h)
def Ffbi_A : ((List Int) × Int × Int × Int)→List V:=cA (usE 1 I) (cA I (cA I (oA I)))
def Ffbi_R (r : (List Int)) : V × List V:=(.tup [],[.usl 1 ((r).map I)])
noncomputable def Ffbi_ent : Ent:=entT [true,false,false,false] Ffbi_A Ffbi_R fun x=>Ffbi x.1 x.2.1 x.2.2.1 x.2.2.2
theorem Ffbi_F {data_18 : List Int} {lo_19 : Int} {hi_20 : Int} {first_21 : Int} {r} (h : Ffbi data_18 lo_19 hi_20 first_21=some r) : (Ffbi_ent).F (Ffbi_A (data_18,lo_19,hi_20,first_21))=some (Ffbi_R r):=entT_F (cA_inj (usl_inj I_inj) (cA_inj I_inj (cA_inj I_inj (oA_inj I_inj)))) h
noncomputable def Ffbi_c : Code:=bodyOf Try.f95
noncomputable def Ffbi_E : Env:=mkE Try.prog [(90,Ffa_ent)]
def Ffbi_Q (x : (List Int) × Int × Int × Int) (r : (List Int)) : St→Prop:=QF Ffbi_E Try.f95 [true,false,false,false] (Ffbi_A x) (Ffbi_R r)
theorem Ffbi_la_run (data_18 : List Int) (lo_19 : Int) (hi_20 : Int) (first_21 : Int)  {Q : St→Prop} {K : List It} (hK : noD K=true) : ∀ (x5 : Int × (List Int)) (y : ((List Int)) ⊕ ((List Int))),Ffbi_la data_18 lo_19 hi_20 first_21 x5=some y→(∀ r',y=.inl r'→∀ st,Ffbi_Q (data_18,lo_19,hi_20,first_21) r' st→Q st)→(∀ u : (List Int),y=.inr u→Run Ffbi_E 1 Q K (sT 76 [] [⟨0,1,(u).map I⟩] 2))→Run Ffbi_E 1 Q (.code (cL (cL (cR Ffbi_c))) :: .lp (cL (cL (cR Ffbi_c))) :: .blk 0 :: K) (sT 76 [(0,.hs 1 0 [] 1 0 ((x5.2).map I).length),(2,I (hi_20)),(3,I (first_21)),(8,I (x5.1))] [⟨0,1,(x5.2).map I⟩] 2):=by
 refine fix_indP (Ffbi_la_fin data_18 lo_19 hi_20 first_21) ?_
 intro self ih x5 y h hr hn
 unfold Ffbi_la_F at h
 refine cq 15 [9,16] [I ((w64 ((w64 (2 * x5.1)) + 1))),B ((decide ((w64 ((w64 (2 * x5.1)) + 1)) ≥ hi_20)))] 114 ?_
 refine sq h (fun h=>?_) (fun h=>?_)
 · refine aq 1 ?_
   exact rf [] [1] (hn _ (Option.some.inj h).symm :) (hk:=hK)
 · refine aq 1 ?_
   refine aq 2 ?_
   refine s_draw [0,1,0,7,15,31,31,31,223,511,1023,31,31,31,12319,28703,63519,129055,262143,524287] rfl (by decide +kernel) ?_
   refine dk 5 [21,20,19,18,17] [B ((decide ((w64 ((w64 ((w64 (2 * x5.1)) + 1)) + 1)) < hi_20))),B ((decide ((w64 ((w64 ((w64 (2 * x5.1)) + 1)) + 1)) < hi_20))),I (hi_20),I ((w64 ((w64 ((w64 (2 * x5.1)) + 1)) + 1))),I ((w64 ((w64 (2 * x5.1)) + 1)))] ?_
   obtain ⟨y6,hy6,hy61,hy62⟩:=bL h
   have j6 : ∀ u6,y6=.inr u6→Run Ffbi_E 1 Q (.code (cR (cL (cR (cR (cL (cL (cL (cR Ffbi_c)))))))) :: .code (cR (cR (cR (cL (cL (cL (cR Ffbi_c))))))) :: .blk 1 :: .lp (cL (cL (cR Ffbi_c))) :: .blk 0 :: K) (sT 76 [(0,.hs 1 0 [] 1 0 ((x5.2).map I).length),(2,I (hi_20)),(3,I (first_21)),(8,I (x5.1)),(9,I ((w64 ((w64 (2 * x5.1)) + 1)))),(36,B (u6))] [⟨0,1,(x5.2).map I⟩] 2):=by
     intro u6 hu
     replace h:=hy62 u6 hu
     obtain ⟨u7,hu7,h⟩:=lJ h
     have j7 : Run Ffbi_E 1 Q (.code (cR (cR (cR (cL (cL (cL (cR Ffbi_c))))))) :: .blk 1 :: .lp (cL (cL (cR Ffbi_c))) :: .blk 0 :: K) (sT 76 [(0,.hs 1 0 [] 1 0 ((x5.2).map I).length),(2,I (hi_20)),(3,I (first_21)),(8,I (x5.1)),(9,I (u7))] [⟨0,1,(x5.2).map I⟩] 2):=by
       refine aq 2 ?_
       refine s_draw [0,0,0,6,15,31,0,0,0,384,960,1984,4095,8191] rfl (by decide +kernel) ?_
       refine dk 4 [42,41,40,39] [I ((w64 (first_21 + x5.1))),I (x5.1),I (first_21),.hs 1 0 [] 1 0 ((x5.2).map I).length] ?_
       obtain ⟨e8,he8,h⟩:=bS h
       refine dq [1] [] (.hp 1 0 [] 1 (0 + Int.toNat ((w64 (first_21 + x5.1)))) 0) rfl (e_indexAddr rfl rfl rfl (ix_hsM (f:=I) (xs:=x5.2) rfl rfl rfl he8)) ?_
       refine dq [1] [] (I (e8)) rfl (e_ld rfl (ld_at (path:=[]) rfl rfl rfl (ra_n) (get_map (f:=I) (xs:=x5.2) he8) rfl rfl rfl)) ?_
       refine dk 4 [48,47,46,45] [I ((w64 (first_21 + u7))),I (u7),I (first_21),.hs 1 0 [] 1 0 ((x5.2).map I).length] ?_
       obtain ⟨e9,he9,h⟩:=bS h
       refine dq [1] [] (.hp 1 0 [] 1 (0 + Int.toNat ((w64 (first_21 + u7)))) 0) rfl (e_indexAddr rfl rfl rfl (ix_hsM (f:=I) (xs:=x5.2) rfl rfl rfl he9)) ?_
       refine dq [1] [] (I (e9)) rfl (e_ld rfl (ld_at (path:=[]) rfl rfl rfl (ra_n) (get_map (f:=I) (xs:=x5.2) he9) rfl rfl rfl)) ?_
       obtain ⟨r10,hr10,h⟩:=bS h
       refine dq [] [] (B (r10)) rfl (e_callV rfl rfl (call_P rfl rfl rfl (avS (shP rfl) (avS (shP rfl) (avN))) (Ffa_F hr10) (.inr rfl) (bl_n) rfl rfl rfl)) ?_ (w_callO rfl rfl rfl rfl (avS (shP rfl) (avS (shP rfl) (avN))) (Ffa_F hr10) (.inr rfl) rfl)
       refine dk 1 [52] [B ((!r10))] ?_
       refine de 226 rfl rfl ?_
       refine sq h (fun h=>?_) (fun h=>?_)
       · obtain ⟨g11,h⟩:=gG h
         exact s_ret rfl (hr _ (Option.some.inj h).symm _ ⟨_,fin (vs:=[]) rfl (absEN) rfl (ou_1 rfl (oc_hsG (f:=I) (xs:=x5.2) (by simpa using g11) rfl) (ou_f (ou_f (ou_f (ou_n))))),kl_c (kl_n)⟩)
       · refine aq 1 ?_
         refine aq 1 ?_
         refine s_draw [0,0,0,6,0,0,0,96,0,0,0,1536,3840,7936,0,0,0,98304,245760,507904,1048335,2096911,4194303,8388607] rfl (by decide +kernel) ?_
         refine dk 12 [64,63,62,61,60,59,58,57,56,55,54,53] [I ((w64 (first_21 + u7))),I (u7),I (first_21),.hs 1 0 [] 1 0 ((x5.2).map I).length,I ((w64 (first_21 + u7))),I (u7),I (first_21),.hs 1 0 [] 1 0 ((x5.2).map I).length,I ((w64 (first_21 + x5.1))),I (x5.1),I (first_21),.hs 1 0 [] 1 0 ((x5.2).map I).length] ?_
         obtain ⟨e12,he12,h⟩:=bS h
         refine dq [1] [] (.hp 1 0 [] 1 (0 + Int.toNat ((w64 (first_21 + u7)))) 0) rfl (e_indexAddr rfl rfl rfl (ix_hsM (f:=I) (xs:=x5.2) rfl rfl rfl he12)) ?_
         refine dq [1] [] (I (e12)) rfl (e_ld rfl (ld_at (path:=[]) rfl rfl rfl (ra_n) (get_map (f:=I) (xs:=x5.2) he12) rfl rfl rfl)) ?_
         refine dk 4 [70,69,68,67] [I ((w64 (first_21 + x5.1))),I (x5.1),I (first_21),.hs 1 0 [] 1 0 ((x5.2).map I).length] ?_
         obtain ⟨e13,he13,h⟩:=bS h
         refine dq [1] [] (.hp 1 0 [] 1 (0 + Int.toNat ((w64 (first_21 + x5.1)))) 0) rfl (e_indexAddr rfl rfl rfl (ix_hsM (f:=I) (xs:=x5.2) rfl rfl rfl he13)) ?_
         refine dq [1] [] (I (e13)) rfl (e_ld rfl (ld_at (path:=[]) rfl rfl rfl (ra_n) (get_map (f:=I) (xs:=x5.2) he13) rfl rfl rfl)) ?_
         obtain ⟨e14,he14,h⟩:=bS h
         refine dq [1] [] (.hp 1 0 [] 1 (0 + Int.toNat ((w64 (first_21 + x5.1)))) 0) rfl (e_indexAddr rfl rfl rfl (ix_hsM (f:=I) (xs:=x5.2) rfl rfl rfl he14)) ?_
         refine dz [1] [1] rfl (e_st rfl rfl (st_at (path:=[]) (pl:=true) (e':=I (e12)) (es2':=((setI x5.2 (w64 (first_21 + x5.1)) e12)).map I) rfl (absorb_plain rfl) rfl rfl rfl (ra_n) (get_map (f:=I) (xs:=x5.2) he14) rfl rfl rfl (set_map (f:=I) (xs:=x5.2) (y:=e12)) (sr_n) 0 rfl)) ?_
         try rw [← len_setM (f:=I) (xs:=x5.2) (i:=(w64 (first_21 + x5.1))) (z:=e12)]
         obtain ⟨e19,he19,h⟩:=bS h
         refine dq [1] [] (.hp 1 0 [] 1 (0 + Int.toNat ((w64 (first_21 + u7)))) 0) rfl (e_indexAddr rfl rfl rfl (ix_hsM (f:=I) (xs:=(setI x5.2 (w64 (first_21 + x5.1)) e12)) rfl rfl rfl he19)) ?_
         refine dz [1] [1] rfl (e_st rfl rfl (st_at (path:=[]) (pl:=true) (e':=I (e13)) (es2':=((setI (setI x5.2 (w64 (first_21 + x5.1)) e12) (w64 (first_21 + u7)) e13)).map I) rfl (absorb_plain rfl) rfl rfl rfl (ra_n) (get_map (f:=I) (xs:=(setI x5.2 (w64 (first_21 + x5.1)) e12)) he19) rfl rfl rfl (set_map (f:=I) (xs:=(setI x5.2 (w64 (first_21 + x5.1)) e12)) (y:=e13)) (sr_n) 0 rfl)) ?_
         try rw [← len_setM (f:=I) (xs:=(setI x5.2 (w64 (first_21 + x5.1)) e12)) (i:=(w64 (first_21 + u7))) (z:=e13)]
         refine de 610 rfl rfl ?_
         refine cq 5 [8] [I (u7)] 642 ?_
         refine s_lp ?_
         exact rf [0,2,3,8] [1] (ih _ _ h hr hn :)
     replace h:=hu7
     clear hu7
     refine scp h rfl rfl (fun h=>?_) (fun h=>?_)
     · refine cq 5 [9] [I ((w64 ((w64 ((w64 (2 * x5.1)) + 1)) + 1)))] 50 ?_
       subst h
       exact rf [0,2,3,8,9] [1] (j7 :)
     · refine aq 1 ?_
       subst h
       exact rf [0,2,3,8,9] [1] (j7 :)
   have r6 : ∀ r',y6=.inl r'→∀ st,Ffbi_Q (data_18,lo_19,hi_20,first_21) r' st→Q st:=fun r' e st hq=>hr r' (hy61 r' e) st hq
   replace h:=hy6
   refine sp 21 h rfl (fun h=>?_) (fun h=>?_)
   · refine dk 4 [25,24,23,22] [I ((w64 (first_21 + (w64 ((w64 (2 * x5.1)) + 1))))),I ((w64 ((w64 (2 * x5.1)) + 1))),I (first_21),.hs 1 0 [] 1 0 ((x5.2).map I).length] ?_
     obtain ⟨e25,he25,h⟩:=bS h
     refine dy [1] [] (.hp 1 0 [] 1 (0 + Int.toNat ((w64 (first_21 + (w64 ((w64 (2 * x5.1)) + 1)))))) 0) rfl (e_indexAddr rfl rfl rfl (ix_hsM (f:=I) (xs:=x5.2) rfl rfl rfl he25)) ?_
     refine dy [1] [] (I (e25)) rfl (e_ld rfl (ld_at (path:=[]) rfl rfl rfl (ra_n) (get_map (f:=I) (xs:=x5.2) he25) rfl rfl rfl)) ?_
     refine dk 5 [32,31,30,29,28] [I ((w64 ((w64 (first_21 + (w64 ((w64 (2 * x5.1)) + 1)))) + 1))),I ((w64 (first_21 + (w64 ((w64 (2 * x5.1)) + 1))))),I ((w64 ((w64 (2 * x5.1)) + 1))),I (first_21),.hs 1 0 [] 1 0 ((x5.2).map I).length] ?_
     obtain ⟨e26,he26,h⟩:=bS h
     refine dy [1] [] (.hp 1 0 [] 1 (0 + Int.toNat ((w64 ((w64 (first_21 + (w64 ((w64 (2 * x5.1)) + 1)))) + 1)))) 0) rfl (e_indexAddr rfl rfl rfl (ix_hsM (f:=I) (xs:=x5.2) rfl rfl rfl he26)) ?_
     refine dy [1] [] (I (e26)) rfl (e_ld rfl (ld_at (path:=[]) rfl rfl rfl (ra_n) (get_map (f:=I) (xs:=x5.2) he26) rfl rfl rfl)) ?_
     obtain ⟨r27,hr27,h⟩:=bS h
     refine dy [] [] (B (r27)) rfl (e_callV rfl rfl (call_P rfl rfl rfl (avS (shP rfl) (avS (shP rfl) (avN))) (Ffa_F hr27) (.inr rfl) (bl_n) rfl rfl rfl)) ?_ (w_callO rfl rfl rfl rfl (avS (shP rfl) (avS (shP rfl) (avN))) (Ffa_F hr27) (.inr rfl) rfl)
     refine dk 1 [36] [B (r27)] ?_
     refine de 434 rfl rfl ?_
     exact rf [0,2,3,8,9,36] [1] (j6 _ (Option.some.inj h).symm :)
   · refine dk 15 [36,35,34,33,32,31,30,29,28,27,26,25,24,23,22] [B (false),.und,.und,.und,.und,.und,.und,.und,.und,.und,.und,.und,.und,.und,.und] ?_
     refine de 434 rfl rfl ?_
     exact rf [0,2,3,8,9,36] [1] (j6 _ (Option.some.inj h).symm :)
theorem Ffbi_run (data_18 : List Int) (lo_19 : Int) (hi_20 : Int) (first_21 : Int) (r : (List Int)) (h : Ffbi data_18 lo_19 hi_20 first_21=some r) : RunF Ffbi_E Try.f95 [true,false,false,false] 1 (Ffbi_A (data_18,lo_19,hi_20,first_21)) (Ffbi_R r):=by
 show Run _ _ (Ffbi_Q (data_18,lo_19,hi_20,first_21) r) [.code Ffbi_c] _
 refine rin (n:=76) [(0,.hs 1 0 [] 1 0 ((data_18).map I).length),(1,I (lo_19)),(2,I (hi_20)),(3,I (first_21))] [(1,some ⟨0,1,(data_18).map I⟩)] 2 (by kernel_rfl) (by kernel_rfl) (by kernel_rfl) rfl ?_
 unfold Ffbi at h
 refine cq 6 [8] [I (lo_19)] 34 ?_
 obtain ⟨y28,hy28,hy281,hy282⟩:=bJ h
 refine s_loop rfl ?_
 refine rf [0,2,3,8] [1] (Ffbi_la_run data_18 lo_19 hi_20 first_21 rfl (lo_19,data_18) _ hy28 (fun r' e st hq=>by rw [hy281 r' e] at hq; exact hq) fun u28 hu=>?_)
 replace h:=hy282 u28 hu
 obtain ⟨g29,h⟩:=gG h
 obtain rfl:=Option.some.inj h
 exact s_end ⟨_,fin (vs:=[]) rfl (absEN) rfl (ou_1 rfl (oc_hsG (f:=I) (xs:=u28) (by simpa using g29) rfl) (ou_f (ou_f (ou_f (ou_n))))),kl_c (kl_n)⟩
theorem Ffbi_good {G : Go.Ln.Ground} : Good Try.prog G 95 Ffbi_ent:=good_T (fnOf_good (gl_c Ffa_good (gl_n))) agree_mk (Checked.mixed Try.checked) Try.func95 (n:=4) (m:=1) ⟨rfl,rfl,by decide⟩ (fun _=>⟨rfl,rfl⟩) (fun a r h=>Ffbi_run a.1 a.2.1 a.2.2.1 a.2.2.2 r h)
def Ffx_A : ((List Int) × Int × Int)→List V:=cA (usE 1 I) (cA I (oA I))
def Ffx_R (r : (List Int)) : V × List V:=(.tup [],[.usl 1 ((r).map I)])
noncomputable def Ffx_ent : Ent:=entT [true,false,false] Ffx_A Ffx_R fun x=>Ffx x.1 x.2.1 x.2.2
theorem Ffx_F {data_11 : List Int} {a_12 : Int} {b_13 : Int} {r} (h : Ffx data_11 a_12 b_13=some r) : (Ffx_ent).F (Ffx_A (data_11,a_12,b_13))=some (Ffx_R r):=entT_F (cA_inj (usl_inj I_inj) (cA_inj I_inj (oA_inj I_inj))) h
noncomputable def Ffx_c : Code:=bodyOf Try.f85
noncomputable def Ffx_E : Env:=mkE Try.prog [(95,Ffbi_ent)]
def Ffx_Q (x : (List Int) × Int × Int) (r : (List Int)) : St→Prop:=QF Ffx_E Try.f85 [true,false,false] (Ffx_A x) (Ffx_R r)
theorem Ffx_la_run (data_11 : List Int) (a_12 : Int) (b_13 : Int)  {Q : St→Prop} {K : List It} (hK : noD K=true) : ∀ (x4 : Int × (List Int)) (y : ((List Int)) ⊕ (Int × Int × (List Int))),Ffx_la data_11 a_12 b_13 x4=some y→(∀ r',y=.inl r'→∀ st,Ffx_Q (data_11,a_12,b_13) r' st→Q st)→(∀ u : Int × Int × (List Int),y=.inr u→Run Ffx_E 1 Q K (sT 56 [(0,.hs 1 0 [] 1 0 ((u.2.2).map I).length),(6,I (u.1)),(7,I (0)),(8,I (u.2.1))] [⟨0,1,(u.2.2).map I⟩] 2))→Run Ffx_E 1 Q (.code (cL (cL (cR (cL (cR (cR (cR Ffx_c))))))) :: .lp (cL (cL (cR (cL (cR (cR (cR Ffx_c))))))) :: .blk 0 :: K) (sT 56 [(0,.hs 1 0 [] 1 0 ((x4.2).map I).length),(6,I (a_12)),(7,I (0)),(8,I ((w64 (b_13 - a_12)))),(9,I (x4.1))] [⟨0,1,(x4.2).map I⟩] 2):=by
 refine fix_indP (Ffx_la_fin data_11 a_12 b_13) ?_
 intro self ih x4 y h hr hn
 unfold Ffx_la_F at h
 refine cq 6 [19] [B ((decide (x4.1 ≥ 0)))] 34 ?_
 refine sq h (fun h=>?_) (fun h=>?_)
 · refine aq 1 ?_
   refine cq 7 [22,23,24,25] [.hs 1 0 [] 1 0 ((x4.2).map I).length,I (x4.1),I ((w64 (b_13 - a_12))),I (a_12)] 98 ?_
   obtain ⟨r5,hr5,h⟩:=bS h
   obtain ⟨g6,h⟩:=gG h
   refine oq 114 (.tup []) rfl (e_callV rfl rfl (call_P rfl rfl rfl (avO (hd1 rfl (hd_hs (path:=[]) rfl rfl (ra_n) rfl)) (avS (shP rfl) (avS (shP rfl) (avS (shP rfl) (avN))))) (Ffbi_F hr5) (.inr rfl) (bl_c rfl rfl rfl rfl (bl_n)) rfl rfl rfl)) ?_
   try rw [len_eqM (f:=I) (xs:=x4.2) (ys:=r5) g6]
   refine cq 7 [9] [I ((w64 (x4.1 - 1)))] 162 ?_
   refine s_lp ?_
   exact rf [0,6,7,8,9] [1] (ih _ _ h hr hn :)
 · refine aq 1 ?_
   exact rf [0,6,7,8] [1] (hn _ (Option.some.inj h).symm :) (hk:=hK)
theorem Ffx_lb_run (data_11 : List Int) (a_12 : Int) (b_13 : Int) (u7 : Int × Int × (List Int)) {Q : St→Prop} {K : List It} (hK : noD K=true) : ∀ (x8 : Int × (List Int)) (y : ((List Int)) ⊕ ((List Int))),Ffx_lb data_11 a_12 b_13 u7 x8=some y→(∀ r',y=.inl r'→∀ st,Ffx_Q (data_11,a_12,b_13) r' st→Q st)→(∀ u : (List Int),y=.inr u→Run Ffx_E 1 Q K (sT 56 [] [⟨0,1,(u).map I⟩] 2))→Run Ffx_E 1 Q (.code (cL (cL (cR (cR (cR (cR (cR Ffx_c))))))) :: .lp (cL (cL (cR (cR (cR (cR (cR Ffx_c))))))) :: .blk 2 :: K) (sT 56 [(0,.hs 1 0 [] 1 0 ((x8.2).map I).length),(6,I (u7.1)),(7,I (0)),(10,I (x8.1))] [⟨0,1,(x8.2).map I⟩] 2):=by
 refine fix_indP (Ffx_lb_fin data_11 a_12 b_13 u7) ?_
 intro self ih x8 y h hr hn
 unfold Ffx_lb_F at h
 refine cq 6 [30] [B ((decide (x8.1 ≥ 0)))] 34 ?_
 refine sq h (fun h=>?_) (fun h=>?_)
 · refine aq 1 ?_
   refine aq 3 ?_
   refine s_draw [0,0,0,0,0,24,0,0,0,384,960,1984,0,0,12288,28672,65475,131011,262143,524287] rfl (by decide +kernel) ?_
   refine dk 10 [42,41,40,39,38,37,36,35,34,33] [I ((w64 (u7.1 + x8.1))),I (x8.1),I (u7.1),.hs 1 0 [] 1 0 ((x8.2).map I).length,I ((w64 (u7.1 + x8.1))),I (x8.1),I (u7.1),.hs 1 0 [] 1 0 ((x8.2).map I).length,I (u7.1),.hs 1 0 [] 1 0 ((x8.2).map I).length] ?_
   obtain ⟨e9,he9,h⟩:=bS h
   refine dq [1] [] (.hp 1 0 [] 1 (0 + Int.toNat ((w64 (u7.1 + x8.1)))) 0) rfl (e_indexAddr rfl rfl rfl (ix_hsM (f:=I) (xs:=x8.2) rfl rfl rfl he9)) ?_
   refine dq [1] [] (I (e9)) rfl (e_ld rfl (ld_at (path:=[]) rfl rfl rfl (ra_n) (get_map (f:=I) (xs:=x8.2) he9) rfl rfl rfl)) ?_
   refine dk 2 [46,45] [I (u7.1),.hs 1 0 [] 1 0 ((x8.2).map I).length] ?_
   obtain ⟨e10,he10,h⟩:=bS h
   refine dq [1] [] (.hp 1 0 [] 1 (0 + Int.toNat (u7.1)) 0) rfl (e_indexAddr rfl rfl rfl (ix_hsM (f:=I) (xs:=x8.2) rfl rfl rfl he10)) ?_
   refine dq [1] [] (I (e10)) rfl (e_ld rfl (ld_at (path:=[]) rfl rfl rfl (ra_n) (get_map (f:=I) (xs:=x8.2) he10) rfl rfl rfl)) ?_
   obtain ⟨e11,he11,h⟩:=bS h
   refine dq [1] [] (.hp 1 0 [] 1 (0 + Int.toNat (u7.1)) 0) rfl (e_indexAddr rfl rfl rfl (ix_hsM (f:=I) (xs:=x8.2) rfl rfl rfl he11)) ?_
   refine dz [1] [1] rfl (e_st rfl rfl (st_at (path:=[]) (pl:=true) (e':=I (e9)) (es2':=((setI x8.2 u7.1 e9)).map I) rfl (absorb_plain rfl) rfl rfl rfl (ra_n) (get_map (f:=I) (xs:=x8.2) he11) rfl rfl rfl (set_map (f:=I) (xs:=x8.2) (y:=e9)) (sr_n) 0 rfl)) ?_
   try rw [← len_setM (f:=I) (xs:=x8.2) (i:=u7.1) (z:=e9)]
   obtain ⟨e14,he14,h⟩:=bS h
   refine dq [1] [] (.hp 1 0 [] 1 (0 + Int.toNat ((w64 (u7.1 + x8.1)))) 0) rfl (e_indexAddr rfl rfl rfl (ix_hsM (f:=I) (xs:=(setI x8.2 u7.1 e9)) rfl rfl rfl he14)) ?_
   refine dz [1] [1] rfl (e_st rfl rfl (st_at (path:=[]) (pl:=true) (e':=I (e10)) (es2':=((setI (setI x8.2 u7.1 e9) (w64 (u7.1 + x8.1)) e10)).map I) rfl (absorb_plain rfl) rfl rfl rfl (ra_n) (get_map (f:=I) (xs:=(setI x8.2 u7.1 e9)) he14) rfl rfl rfl (set_map (f:=I) (xs:=(setI x8.2 u7.1 e9)) (y:=e10)) (sr_n) 0 rfl)) ?_
   try rw [← len_setM (f:=I) (xs:=(setI x8.2 u7.1 e9)) (i:=(w64 (u7.1 + x8.1))) (z:=e10)]
   refine de 354 rfl rfl ?_
   refine cq 5 [51,52,53,54] [.hs 1 0 [] 1 0 (((setI (setI x8.2 u7.1 e9) (w64 (u7.1 + x8.1)) e10)).map I).length,I (0),I (x8.1),I (u7.1)] 418 ?_
   obtain ⟨r18,hr18,h⟩:=bS h
   obtain ⟨g19,h⟩:=gG h
   refine oq 434 (.tup []) rfl (e_callV rfl rfl (call_P rfl rfl rfl (avO (hd1 rfl (hd_hs (path:=[]) rfl rfl (ra_n) rfl)) (avS (shP rfl) (avS (shP rfl) (avS (shP rfl) (avN))))) (Ffbi_F hr18) (.inr rfl) (bl_c rfl rfl rfl rfl (bl_n)) rfl rfl rfl)) ?_
   try rw [len_eqM (f:=I) (xs:=(setI (setI x8.2 u7.1 e9) (w64 (u7.1 + x8.1)) e10)) (ys:=r18) g19]
   refine cq 7 [10] [I ((w64 (x8.1 - 1)))] 482 ?_
   refine s_lp ?_
   exact rf [0,6,7,10] [1] (ih _ _ h hr hn :)
 · refine aq 1 ?_
   exact rf [] [1] (hn _ (Option.some.inj h).symm :) (hk:=hK)
theorem Ffx_run (data_11 : List Int) (a_12 : Int) (b_13 : Int) (r : (List Int)) (h : Ffx data_11 a_12 b_13=some r) : RunF Ffx_E Try.f85 [true,false,false] 1 (Ffx_A (data_11,a_12,b_13)) (Ffx_R r):=by
 show Run _ _ (Ffx_Q (data_11,a_12,b_13) r) [.code Ffx_c] _
 refine rin (n:=56) [(0,.hs 1 0 [] 1 0 ((data_11).map I).length),(1,I (a_12)),(2,I (b_13))] [(1,some ⟨0,1,(data_11).map I⟩)] 2 (by kernel_rfl) (by kernel_rfl) (by kernel_rfl) rfl ?_
 unfold Ffx at h
 refine cq 25 [6,7,8,9] [I (a_12),I (0),I ((w64 (b_13 - a_12))),I ((w64 ((w64 ((w64 (b_13 - a_12)) - 1)).tdiv 2)))] 178 ?_
 obtain ⟨y7,hy7,hy71,hy72⟩:=bJ h
 refine s_loop rfl ?_
 refine rf [0,6,7,8,9] [1] (Ffx_la_run data_11 a_12 b_13 rfl ((w64 ((w64 ((w64 (b_13 - a_12)) - 1)).tdiv 2)),data_11) _ hy7 (fun r' e st hq=>by rw [hy71 r' e] at hq; exact hq) fun u7 hu=>?_)
 replace h:=hy72 u7 hu
 refine cq 7 [10] [I ((w64 (u7.2.1 - 1)))] 50 ?_
 obtain ⟨y20,hy20,hy201,hy202⟩:=bJ h
 refine s_loop rfl ?_
 refine rf [0,6,7,10] [1] (Ffx_lb_run data_11 a_12 b_13 u7 rfl ((w64 (u7.2.1 - 1)),u7.2.2) _ hy20 (fun r' e st hq=>by rw [hy201 r' e] at hq; exact hq) fun u20 hu=>?_)
 replace h:=hy202 u20 hu
 obtain ⟨g21,h⟩:=gG h
 obtain rfl:=Option.some.inj h
 exact s_end ⟨_,fin (vs:=[]) rfl (absEN) rfl (ou_1 rfl (oc_hsG (f:=I) (xs:=u20) (by simpa using g21) rfl) (ou_f (ou_f (ou_n)))),kl_c (kl_n)⟩
theorem Ffx_good {G : Go.Ln.Ground} : Good Try.prog G 85 Ffx_ent:=good_T (fnOf_good (gl_c Ffbi_good (gl_n))) agree_mk (Checked.mixed Try.checked) Try.func85 (n:=3) (m:=1) ⟨rfl,rfl,by decide⟩ (fun _=>⟨rfl,rfl⟩) (fun a r h=>Ffx_run a.1 a.2.1 a.2.2 r h)
def Ffbb_A : Int→List V:=oA I
def Ffbb_R (r : Int) : V × List V:=(.int .u64 (r),[])
noncomputable def Ffbb_ent : Ent:=entT [false] Ffbb_A Ffbb_R fun x=>Ffbb x
theorem Ffbb_F {length_1 : Int} {r} (h : Ffbb length_1=some r) : (Ffbb_ent).F (Ffbb_A length_1)=some (Ffbb_R r):=entT_F (oA_inj I_inj) h
noncomputable def Ffbb_c : Code:=bodyOf Try.f96
noncomputable def Ffbb_E : Env:=mkE Try.prog [(82,Ffo_ent)]
def Ffbb_Q (x : Int) (r : Int) : St→Prop:=QF Ffbb_E Try.f96 [false] (Ffbb_A x) (Ffbb_R r)
theorem Ffbb_run (length_1 : Int) (r : Int) (h : Ffbb length_1=some r) : RunF Ffbb_E Try.f96 [false] 0 (Ffbb_A length_1) (Ffbb_R r):=by
 show Run _ _ (Ffbb_Q length_1 r) [.code Ffbb_c] _
 refine rin (n:=7) [(0,I (length_1))] [] 1 (by kernel_rfl) (by kernel_rfl) (by kernel_rfl) rfl ?_
 unfold Ffbb at h
 refine cq 8 [4] [.int .u64 ((IntKind.u64.wrap length_1))] 49 ?_
 obtain ⟨r2,hr2,h⟩:=bS h
 refine oq 65 (I (r2)) rfl (e_callV rfl rfl (call_P rfl rfl rfl (avS (shP rfl) (avN)) (Ffo_F hr2) (.inr rfl) (bl_n) rfl rfl rfl)) ?_
 obtain ⟨q3,hq3,h⟩:=bS h
 refine oq 81 (.int .u64 (q3)) rfl (e_bin rfl rfl (b_shl hq3)) ?_
 refine cq 2 [2] [.int .u64 (q3)] 97 ?_
 obtain rfl:=Option.some.inj h
 exact s_ret rfl ⟨_,fin (vs:=[.int .u64 (q3)]) rfl (absE (absorb_plain rfl) (absEN)) rfl (ou_f (ou_n)),kl_n⟩
theorem Ffbb_good {G : Go.Ln.Ground} : Good Try.prog G 96 Ffbb_ent:=good_T (fnOf_good (gl_c Ffo_good (gl_n))) agree_mk (Checked.mixed Try.checked) Try.func96 (n:=1) (m:=0) ⟨rfl,rfl,by decide⟩ (fun _=>⟨rfl,rfl⟩) (fun a r h=>Ffbb_run a r h)
def Ffbj_A : Int→List V:=oA (upE (V.int .u64))
def Ffbj_R (r : Int × Int) : V × List V:=(.int .u64 (r.1),[.uptr (.int .u64 (r.2))])
noncomputable def Ffbj_ent : Ent:=entT [true] Ffbj_A Ffbj_R fun x=>Ffbj x
theorem Ffbj_F {r_2 : Int} {r} (h : Ffbj r_2=some r) : (Ffbj_ent).F (Ffbj_A r_2)=some (Ffbj_R r):=entT_F (oA_inj (uptr_inj (vint_inj (k:=.u64)))) h
noncomputable def Ffbj_c : Code:=bodyOf Try.f97
noncomputable def Ffbj_E : Env:=mkE Try.prog []
def Ffbj_Q (x : Int) (r : Int × Int) : St→Prop:=QF Ffbj_E Try.f97 [true] (Ffbj_A x) (Ffbj_R r)
theorem Ffbj_run (r_2 : Int) (r : Int × Int) (h : Ffbj r_2=some r) : RunF Ffbj_E Try.f97 [true] 1 (Ffbj_A r_2) (Ffbj_R r):=by
 show Run _ _ (Ffbj_Q r_2 r) [.code Ffbj_c] _
 refine rin (n:=33) [(0,.hp 1 0 [] 1 0 0)] [(1,some ⟨0,1,[.int .u64 (r_2)]⟩)] 2 (by kernel_rfl) (by kernel_rfl) (by kernel_rfl) rfl ?_
 unfold Ffbj at h
 refine cq 5 [] [] 18 ?_
 refine s_draw [0,1,3,0,8,24,56,127,255,511] rfl (by decide +kernel) ?_
 refine dk 1 [3] [.hp 1 0 [] 1 0 0] ?_
 refine dq [1] [] (.hp 1 0 [] 1 0 0) rfl (e_nilCheck rfl rfl) ?_
 refine dq [1] [] (.int .u64 (r_2)) rfl (e_ld rfl rfl) ?_
 refine dk 1 [6] [.hp 1 0 [] 1 0 0] ?_
 refine dq [1] [] (.hp 1 0 [] 1 0 0) rfl (e_nilCheck rfl rfl) ?_
 refine dq [1] [] (.int .u64 (r_2)) rfl (e_ld rfl rfl) ?_
 refine dk 2 [10,9] [.int .u64 ((xorI .u64 r_2 (shlI .u64 r_2 13))),.int .u64 ((shlI .u64 r_2 13))] ?_
 refine dq [1] [] (.hp 1 0 [] 1 0 0) rfl (e_nilCheck rfl rfl) ?_
 refine dz [1] [1] rfl (e_st rfl rfl (st_at (path:=[]) (pl:=true) (e':=.int .u64 ((xorI .u64 r_2 (shlI .u64 r_2 13)))) (es2':=[.int .u64 ((xorI .u64 r_2 (shlI .u64 r_2 13)))]) rfl (absorb_plain rfl) rfl rfl rfl (ra_n) rfl rfl rfl rfl rfl (sr_n) 0 rfl)) ?_
 refine de 178 rfl rfl ?_
 refine aq 1 ?_
 refine s_draw [0,1,3,0,8,24,56,127,255,511] rfl (by decide +kernel) ?_
 refine dk 1 [12] [.hp 1 0 [] 1 0 0] ?_
 refine dq [1] [] (.hp 1 0 [] 1 0 0) rfl (e_nilCheck rfl rfl) ?_
 refine dq [1] [] (.int .u64 ((xorI .u64 r_2 (shlI .u64 r_2 13)))) rfl (e_ld rfl rfl) ?_
 refine dk 1 [15] [.hp 1 0 [] 1 0 0] ?_
 refine dq [1] [] (.hp 1 0 [] 1 0 0) rfl (e_nilCheck rfl rfl) ?_
 refine dq [1] [] (.int .u64 ((xorI .u64 r_2 (shlI .u64 r_2 13)))) rfl (e_ld rfl rfl) ?_
 refine dk 2 [19,18] [.int .u64 ((xorI .u64 (xorI .u64 r_2 (shlI .u64 r_2 13)) (shrI .u64 (xorI .u64 r_2 (shlI .u64 r_2 13)) 7))),.int .u64 ((shrI .u64 (xorI .u64 r_2 (shlI .u64 r_2 13)) 7))] ?_
 refine dq [1] [] (.hp 1 0 [] 1 0 0) rfl (e_nilCheck rfl rfl) ?_
 refine dz [1] [1] rfl (e_st rfl rfl (st_at (path:=[]) (pl:=true) (e':=.int .u64 ((xorI .u64 (xorI .u64 r_2 (shlI .u64 r_2 13)) (shrI .u64 (xorI .u64 r_2 (shlI .u64 r_2 13)) 7)))) (es2':=[.int .u64 ((xorI .u64 (xorI .u64 r_2 (shlI .u64 r_2 13)) (shrI .u64 (xorI .u64 r_2 (shlI .u64 r_2 13)) 7)))]) rfl (absorb_plain rfl) rfl rfl rfl (ra_n) rfl rfl rfl rfl rfl (sr_n) 0 rfl)) ?_
 refine de 338 rfl rfl ?_
 refine aq 1 ?_
 refine s_draw [0,1,3,0,8,24,56,127,255,511] rfl (by decide +kernel) ?_
 refine dk 1 [21] [.hp 1 0 [] 1 0 0] ?_
 refine dq [1] [] (.hp 1 0 [] 1 0 0) rfl (e_nilCheck rfl rfl) ?_
 refine dq [1] [] (.int .u64 ((xorI .u64 (xorI .u64 r_2 (shlI .u64 r_2 13)) (shrI .u64 (xorI .u64 r_2 (shlI .u64 r_2 13)) 7)))) rfl (e_ld rfl rfl) ?_
 refine dk 1 [24] [.hp 1 0 [] 1 0 0] ?_
 refine dq [1] [] (.hp 1 0 [] 1 0 0) rfl (e_nilCheck rfl rfl) ?_
 refine dq [1] [] (.int .u64 ((xorI .u64 (xorI .u64 r_2 (shlI .u64 r_2 13)) (shrI .u64 (xorI .u64 r_2 (shlI .u64 r_2 13)) 7)))) rfl (e_ld rfl rfl) ?_
 refine dk 2 [28,27] [.int .u64 ((xorI .u64 (xorI .u64 (xorI .u64 r_2 (shlI .u64 r_2 13)) (shrI .u64 (xorI .u64 r_2 (shlI .u64 r_2 13)) 7)) (shlI .u64 (xorI .u64 (xorI .u64 r_2 (shlI .u64 r_2 13)) (shrI .u64 (xorI .u64 r_2 (shlI .u64 r_2 13)) 7)) 17))),.int .u64 ((shlI .u64 (xorI .u64 (xorI .u64 r_2 (shlI .u64 r_2 13)) (shrI .u64 (xorI .u64 r_2 (shlI .u64 r_2 13)) 7)) 17))] ?_
 refine dq [1] [] (.hp 1 0 [] 1 0 0) rfl (e_nilCheck rfl rfl) ?_
 refine dz [1] [1] rfl (e_st rfl rfl (st_at (path:=[]) (pl:=true) (e':=.int .u64 ((xorI .u64 (xorI .u64 (xorI .u64 r_2 (shlI .u64 r_2 13)) (shrI .u64 (xorI .u64 r_2 (shlI .u64 r_2 13)) 7)) (shlI .u64 (xorI .u64 (xorI .u64 r_2 (shlI .u64 r_2 13)) (shrI .u64 (xorI .u64 r_2 (shlI .u64 r_2 13)) 7)) 17)))) (es2':=[.int .u64 ((xorI .u64 (xorI .u64 (xorI .u64 r_2 (shlI .u64 r_2 13)) (shrI .u64 (xorI .u64 r_2 (shlI .u64 r_2 13)) 7)) (shlI .u64 (xorI .u64 (xorI .u64 r_2 (shlI .u64 r_2 13)) (shrI .u64 (xorI .u64 r_2 (shlI .u64 r_2 13)) 7)) 17)))]) rfl (absorb_plain rfl) rfl rfl rfl (ra_n) rfl rfl rfl rfl rfl (sr_n) 0 rfl)) ?_
 refine de 498 rfl rfl ?_
 refine cq 7 [2] [.int .u64 ((xorI .u64 (xorI .u64 (xorI .u64 r_2 (shlI .u64 r_2 13)) (shrI .u64 (xorI .u64 r_2 (shlI .u64 r_2 13)) 7)) (shlI .u64 (xorI .u64 (xorI .u64 r_2 (shlI .u64 r_2 13)) (shrI .u64 (xorI .u64 r_2 (shlI .u64 r_2 13)) 7)) 17)))] 562 ?_
 obtain rfl:=Option.some.inj h
 exact s_ret rfl ⟨_,fin (vs:=[.int .u64 ((xorI .u64 (xorI .u64 (xorI .u64 r_2 (shlI .u64 r_2 13)) (shrI .u64 (xorI .u64 r_2 (shlI .u64 r_2 13)) 7)) (shlI .u64 (xorI .u64 (xorI .u64 r_2 (shlI .u64 r_2 13)) (shrI .u64 (xorI .u64 r_2 (shlI .u64 r_2 13)) 7)) 17)))]) rfl (absE (absorb_plain rfl) (absEN)) rfl (ou_1 rfl (oc_hp rfl rfl) (ou_n)),kl_c (kl_n)⟩
theorem Ffbj_good {G : Go.Ln.Ground} : Good Try.prog G 97 Ffbj_ent:=good_T (fnOf_good (gl_n)) agree_mk (Checked.mixed Try.checked) Try.func97 (n:=1) (m:=1) ⟨rfl,rfl,by decide⟩ (fun _=>⟨rfl,rfl⟩) (fun a r h=>Ffbj_run a r h)
def Ffv_A : ((List Int) × Int × Int)→List V:=cA (usE 1 I) (cA I (oA I))
def Ffv_R (r : (List Int)) : V × List V:=(.tup [],[.usl 1 ((r).map I)])
noncomputable def Ffv_ent : Ent:=entT [true,false,false] Ffv_A Ffv_R fun x=>Ffv x.1 x.2.1 x.2.2
theorem Ffv_F {data_13 : List Int} {a_14 : Int} {b_15 : Int} {r} (h : Ffv data_13 a_14 b_15=some r) : (Ffv_ent).F (Ffv_A (data_13,a_14,b_15))=some (Ffv_R r):=entT_F (cA_inj (usl_inj I_inj) (cA_inj I_inj (oA_inj I_inj))) h
noncomputable def Ffv_c : Code:=bodyOf Try.f86
noncomputable abbrev Ffv_ka : Code:=cL (cL (cR (cR (cR (cL (cR (cR Ffv_c)))))))
noncomputable def Ffv_E : Env:=mkE Try.prog [(96,Ffbb_ent),(97,Ffbj_ent)]
def Ffv_Q (x : (List Int) × Int × Int) (r : (List Int)) : St→Prop:=QF Ffv_E Try.f86 [true,false,false] (Ffv_A x) (Ffv_R r)
theorem Ffv_la_run (data_13 : List Int) (a_14 : Int) (b_15 : Int) (r6 : Int) {Q : St→Prop} {K : List It} (hK : noD K=true) : ∀ (x7 : Int × (List Int) × Int) (y : ((List Int)) ⊕ ((List Int))),Ffv_la data_13 a_14 b_15 r6 x7=some y→(∀ r',y=.inl r'→∀ st,Ffv_Q (data_13,a_14,b_15) r' st→Q st)→(∀ u : (List Int),y=.inr u→Run Ffv_E 1 Q K (sT 65 [] [⟨0,1,(u).map I⟩] 2))→Run Ffv_E 1 Q (.code Ffv_ka :: .lp Ffv_ka :: .blk 0 :: K) (sT 65 [(0,.hs 1 0 [] 1 0 ((x7.2.1).map I).length),(1,I (a_14)),(6,I ((w64 (b_15 - a_14)))),(7,.hp 2 0 [] 1 0 0),(8,.int .u64 (r6)),(9,I (x7.1))] [⟨0,1,(x7.2.1).map I⟩,⟨0,1,[.int .u64 (x7.2.2)]⟩] 3):=by
 refine fix_indP (Ffv_la_fin data_13 a_14 b_15 r6) ?_
 intro self ih x7 y h hr hn
 unfold Ffv_la_F at h
 refine cq 12 [33] [B ((decide (x7.1 ≤ (w64 ((w64 (a_14 + (w64 ((w64 ((w64 (b_15 - a_14)).tdiv 4)) * 2)))) + 1)))))] 131 ?_
 refine sq h (fun h=>?_) (fun h=>?_)
 · refine aq 1 ?_
   refine aq 4 ?_
   obtain ⟨r8,hr8,h⟩:=bS h
   refine oq 147 (.int .u64 (r8.1)) rfl (e_callV rfl rfl (call_P rfl rfl rfl (avO (hd1 rfl (hd_hq (path:=[]) rfl rfl (ra_n))) (avN)) (Ffbj_F hr8) (.inr rfl) (bl_c rfl rfl rfl rfl (bl_n)) rfl rfl rfl)) ?_
   refine cq 13 [10,43] [I ((IntKind.i64.wrap (andI .u64 r8.1 (IntKind.u64.wrap (r6 - 1))))),B ((decide ((IntKind.i64.wrap (andI .u64 r8.1 (IntKind.u64.wrap (r6 - 1)))) ≥ (w64 (b_15 - a_14)))))] 275 ?_
   obtain ⟨u9,hu9,h⟩:=lJ h
   have j9 : Run Ffv_E 1 Q (.code (cR (cR (cL (cL (cR Ffv_ka))))) :: .blk 1 :: .code (cR (cR Ffv_ka)) :: .lp Ffv_ka :: .blk 0 :: K) (sT 65 [(0,.hs 1 0 [] 1 0 ((x7.2.1).map I).length),(1,I (a_14)),(6,I ((w64 (b_15 - a_14)))),(7,.hp 2 0 [] 1 0 0),(8,.int .u64 (r6)),(9,I (x7.1)),(10,I (u9))] [⟨0,1,(x7.2.1).map I⟩,⟨0,1,[.int .u64 (r8.2)]⟩] 3):=by
     refine s_draw [0,0,0,0,0,24,0,0,0,384,960,1984,0,0,12288,28672,65475,131011,262143,524287] rfl (by decide +kernel) ?_
     refine dk 10 [56,55,54,53,52,51,50,49,48,47] [I ((w64 (a_14 + u9))),I (u9),I (a_14),.hs 1 0 [] 1 0 ((x7.2.1).map I).length,I ((w64 (a_14 + u9))),I (u9),I (a_14),.hs 1 0 [] 1 0 ((x7.2.1).map I).length,I (x7.1),.hs 1 0 [] 1 0 ((x7.2.1).map I).length] ?_
     obtain ⟨e10,he10,h⟩:=bS h
     refine dq [1] [] (.hp 1 0 [] 1 (0 + Int.toNat ((w64 (a_14 + u9)))) 0) rfl (e_indexAddr rfl rfl rfl (ix_hsM (f:=I) (xs:=x7.2.1) rfl rfl rfl he10)) ?_
     refine dq [1] [] (I (e10)) rfl (e_ld rfl (ld_at (path:=[]) rfl rfl rfl (ra_n) (get_map (f:=I) (xs:=x7.2.1) he10) rfl rfl rfl)) ?_
     refine dk 2 [60,59] [I (x7.1),.hs 1 0 [] 1 0 ((x7.2.1).map I).length] ?_
     obtain ⟨e11,he11,h⟩:=bS h
     refine dq [1] [] (.hp 1 0 [] 1 (0 + Int.toNat (x7.1)) 0) rfl (e_indexAddr rfl rfl rfl (ix_hsM (f:=I) (xs:=x7.2.1) rfl rfl rfl he11)) ?_
     refine dq [1] [] (I (e11)) rfl (e_ld rfl (ld_at (path:=[]) rfl rfl rfl (ra_n) (get_map (f:=I) (xs:=x7.2.1) he11) rfl rfl rfl)) ?_
     obtain ⟨e12,he12,h⟩:=bS h
     refine dq [1] [] (.hp 1 0 [] 1 (0 + Int.toNat (x7.1)) 0) rfl (e_indexAddr rfl rfl rfl (ix_hsM (f:=I) (xs:=x7.2.1) rfl rfl rfl he12)) ?_
     refine dz [1] [1] rfl (e_st rfl rfl (st_at (path:=[]) (pl:=true) (e':=I (e10)) (es2':=((setI x7.2.1 x7.1 e10)).map I) rfl (absorb_plain rfl) rfl rfl rfl (ra_n) (get_map (f:=I) (xs:=x7.2.1) he12) rfl rfl rfl (set_map (f:=I) (xs:=x7.2.1) (y:=e10)) (sr_n) 0 rfl)) ?_
     try rw [← len_setM (f:=I) (xs:=x7.2.1) (i:=x7.1) (z:=e10)]
     obtain ⟨e15,he15,h⟩:=bS h
     refine dq [1] [] (.hp 1 0 [] 1 (0 + Int.toNat ((w64 (a_14 + u9)))) 0) rfl (e_indexAddr rfl rfl rfl (ix_hsM (f:=I) (xs:=(setI x7.2.1 x7.1 e10)) rfl rfl rfl he15)) ?_
     refine dz [1] [1] rfl (e_st rfl rfl (st_at (path:=[]) (pl:=true) (e':=I (e11)) (es2':=((setI (setI x7.2.1 x7.1 e10) (w64 (a_14 + u9)) e11)).map I) rfl (absorb_plain rfl) rfl rfl rfl (ra_n) (get_map (f:=I) (xs:=(setI x7.2.1 x7.1 e10)) he15) rfl rfl rfl (set_map (f:=I) (xs:=(setI x7.2.1 x7.1 e10)) (y:=e11)) (sr_n) 0 rfl)) ?_
     try rw [← len_setM (f:=I) (xs:=(setI x7.2.1 x7.1 e10)) (i:=(w64 (a_14 + u9))) (z:=e11)]
     refine de 323 rfl rfl ?_
     refine cq 6 [9] [I ((w64 (x7.1 + 1)))] 371 ?_
     refine s_lp ?_
     exact rf [0,1,6,7,8,9] [1,2] (ih _ _ h hr hn :)
   replace h:=hu9
   clear hu9
   refine scp h rfl rfl (fun h=>?_) (fun h=>?_)
   · refine cq 6 [10] [I ((w64 ((IntKind.i64.wrap (andI .u64 r8.1 (IntKind.u64.wrap (r6 - 1)))) - (w64 (b_15 - a_14)))))] 339 ?_
     subst h
     exact rf [0,1,6,7,8,9,10] [1,2] (j9 :)
   · refine aq 1 ?_
     subst h
     exact rf [0,1,6,7,8,9,10] [1,2] (j9 :)
 · refine aq 1 ?_
   exact rf [] [1] (hn _ (Option.some.inj h).symm :) (hk:=hK)
theorem Ffv_run (data_13 : List Int) (a_14 : Int) (b_15 : Int) (r : (List Int)) (h : Ffv data_13 a_14 b_15=some r) : RunF Ffv_E Try.f86 [true,false,false] 1 (Ffv_A (data_13,a_14,b_15)) (Ffv_R r):=by
 show Run _ _ (Ffv_Q (data_13,a_14,b_15) r) [.code Ffv_c] _
 refine rin (n:=65) [(0,.hs 1 0 [] 1 0 ((data_13).map I).length),(1,I (a_14)),(2,I (b_15))] [(1,some ⟨0,1,(data_13).map I⟩)] 2 (by kernel_rfl) (by kernel_rfl) (by kernel_rfl) rfl ?_
 unfold Ffv at h
 refine cq 12 [6,15] [I ((w64 (b_15 - a_14))),B ((decide ((w64 (b_15 - a_14)) ≥ 8)))] 98 ?_
 obtain ⟨y4,hy4,hy41,hy42⟩:=bJ h
 have j4 : ∀ u4,y4=.inr u4→Run Ffv_E 1 (Ffv_Q (data_13,a_14,b_15) r) ([]) (sT 65 [] [⟨0,1,(u4).map I⟩] 2):=by
   intro u4 hu
   replace h:=hy42 u4 hu
   obtain ⟨g5,h⟩:=gG h
   obtain rfl:=Option.some.inj h
   exact s_end ⟨_,fin (vs:=[]) rfl (absEN) rfl (ou_1 rfl (oc_hsG (f:=I) (xs:=u4) (by simpa using g5) rfl) (ou_f (ou_f (ou_n)))),kl_c (kl_n)⟩
 have r4 : ∀ r',y4=.inl r'→∀ st,Ffv_Q (data_13,a_14,b_15) r' st→(Ffv_Q (data_13,a_14,b_15) r) st:=fun r' e st hq=>by rw [hy41 r' e] at hq; exact hq
 replace h:=hy4
 refine sq h (fun h=>?_) (fun h=>?_)
 · refine ck 10 [7,18] [] [130] [] [.hp 130 0 [] 1 0 0,I ((w64 (b_15 - a_14)))] [some ⟨0,1,[.int .u64 ((IntKind.u64.wrap (w64 (b_15 - a_14))))]⟩] 178 (by kernel_rfl) ?_
   obtain ⟨r6,hr6,h⟩:=bS h
   refine oq 194 (.int .u64 (r6)) rfl (e_callV rfl rfl (call_P rfl rfl rfl (avS (shP rfl) (avN)) (Ffbb_F hr6) (.inr rfl) (bl_n) rfl rfl rfl)) ?_
   refine cq 13 [8,9] [.int .u64 (r6),I ((w64 ((w64 (a_14 + (w64 ((w64 ((w64 (b_15 - a_14)).tdiv 4)) * 2)))) - 1)))] 322 ?_
   obtain ⟨y19,hy19,hy191,hy192⟩:=bL h
   refine s_loop rfl ?_
   refine rf [0,1,6,7,8,9] [1,130] (Ffv_la_run data_13 a_14 b_15 r6 rfl ((w64 ((w64 (a_14 + (w64 ((w64 ((w64 (b_15 - a_14)).tdiv 4)) * 2)))) - 1)),data_13,(IntKind.u64.wrap (w64 (b_15 - a_14)))) _ hy19 (fun r' e st hq=>r4 r' (hy191 r' e) st hq) fun u19 hu=>?_)
   replace h:=hy192 u19 hu
   exact rf [] [1] (j4 _ (Option.some.inj h).symm :)
 · refine aq 1 ?_
   exact rf [] [1] (j4 _ (Option.some.inj h).symm :)
theorem Ffv_good {G : Go.Ln.Ground} : Good Try.prog G 86 Ffv_ent:=good_T (fnOf_good (gl_c Ffbb_good (gl_c Ffbj_good (gl_n)))) agree_mk (Checked.mixed Try.checked) Try.func86 (n:=3) (m:=1) ⟨rfl,rfl,by decide⟩ (fun _=>⟨rfl,rfl⟩) (fun a r h=>Ffv_run a.1 a.2.1 a.2.2 r h)
def Ffbc_A : ((List Int) × Int × Int × Int)→List V:=cA (slE I) (cA I (cA I (oA (upE I))))
def Ffbc_R (r : Int × Int × Int) : V × List V:=(.tup [I (r.1),I (r.2.1)],[.uptr (I (r.2.2))])
noncomputable def Ffbc_ent : Ent:=entT [false,false,false,true] Ffbc_A Ffbc_R fun x=>Ffbc x.1 x.2.1 x.2.2.1 x.2.2.2
theorem Ffbc_F {data_9 : List Int} {a_10 : Int} {b_11 : Int} {swaps_12 : Int} {r} (h : Ffbc data_9 a_10 b_11 swaps_12=some r) : (Ffbc_ent).F (Ffbc_A (data_9,a_10,b_11,swaps_12))=some (Ffbc_R r):=entT_F (cA_inj (isl_inj I_inj) (cA_inj I_inj (cA_inj I_inj (oA_inj (uptr_inj I_inj))))) h
noncomputable def Ffbc_c : Code:=bodyOf Try.f101
noncomputable def Ffbc_E : Env:=mkE Try.prog [(90,Ffa_ent)]
def Ffbc_Q (x : (List Int) × Int × Int × Int) (r : Int × Int × Int) : St→Prop:=QF Ffbc_E Try.f101 [false,false,false,true] (Ffbc_A x) (Ffbc_R r)
theorem Ffbc_run (data_9 : List Int) (a_10 : Int) (b_11 : Int) (swaps_12 : Int) (r : Int × Int × Int) (h : Ffbc data_9 a_10 b_11 swaps_12=some r) : RunF Ffbc_E Try.f101 [false,false,false,true] 1 (Ffbc_A (data_9,a_10,b_11,swaps_12)) (Ffbc_R r):=by
 show Run _ _ (Ffbc_Q (data_9,a_10,b_11,swaps_12) r) [.code Ffbc_c] _
 refine rin (n:=28) [(0,.isl false ((data_9).map I)),(1,I (a_10)),(2,I (b_11)),(3,.hp 1 0 [] 1 0 0)] [(1,some ⟨0,1,[I (swaps_12)]⟩)] 2 (by kernel_rfl) (by kernel_rfl) (by kernel_rfl) rfl ?_
 unfold Ffbc at h
 refine cq 7 [] [] 34 ?_
 refine s_draw [0,0,3,7,0,0,48,112,255] rfl (by decide +kernel) ?_
 refine dk 2 [11,10] [I (b_11),.isl false ((data_9).map I)] ?_
 obtain ⟨e5,he5,h⟩:=bS h
 refine dq [] [] (.iptr (I (e5)) 0) rfl (e_indexAddr rfl rfl rfl (ix_islE rfl rfl rfl rfl he5)) ?_
 refine dq [] [] (I (e5)) rfl (e_ld rfl rfl) ?_
 refine dk 2 [15,14] [I (a_10),.isl false ((data_9).map I)] ?_
 obtain ⟨e6,he6,h⟩:=bS h
 refine dq [] [] (.iptr (I (e6)) 0) rfl (e_indexAddr rfl rfl rfl (ix_islE rfl rfl rfl rfl he6)) ?_
 refine dq [] [] (I (e6)) rfl (e_ld rfl rfl) ?_
 obtain ⟨r7,hr7,h⟩:=bS h
 refine dq [] [] (B (r7)) rfl (e_callV rfl rfl (call_P rfl rfl rfl (avS (shP rfl) (avS (shP rfl) (avN))) (Ffa_F hr7) (.inr rfl) (bl_n) rfl rfl rfl)) ?_ (w_callO rfl rfl rfl rfl (avS (shP rfl) (avS (shP rfl) (avN))) (Ffa_F hr7) (.inr rfl) rfl)
 refine de 178 rfl rfl ?_
 refine sq h (fun h=>?_) (fun h=>?_)
 · refine ck 16 [8,9] [] [1] [] [I (b_11),I (a_10)] [some ⟨0,1,[I ((w64 (swaps_12 + 1)))]⟩] 338 (by kernel_rfl) ?_
   obtain rfl:=Option.some.inj h
   exact s_ret rfl ⟨_,fin (vs:=[I (b_11),I (a_10)]) rfl (absE (absorb_plain rfl) (absE (absorb_plain rfl) (absEN))) rfl (ou_f (ou_f (ou_f (ou_1 rfl (oc_hp rfl rfl) (ou_n))))),kl_c (kl_n)⟩
 · refine aq 1 ?_
   refine cq 7 [8,9] [I (a_10),I (b_11)] 242 ?_
   obtain rfl:=Option.some.inj h
   exact s_ret rfl ⟨_,fin (vs:=[I (a_10),I (b_11)]) rfl (absE (absorb_plain rfl) (absE (absorb_plain rfl) (absEN))) rfl (ou_f (ou_f (ou_f (ou_1 rfl (oc_hp rfl rfl) (ou_n))))),kl_c (kl_n)⟩
theorem Ffbc_good {G : Go.Ln.Ground} : Good Try.prog G 101 Ffbc_ent:=good_T (fnOf_good (gl_c Ffa_good (gl_n))) agree_mk (Checked.mixed Try.checked) Try.func101 (n:=4) (m:=1) ⟨rfl,rfl,by decide⟩ (fun _=>⟨rfl,rfl⟩) (fun a r h=>Ffbc_run a.1 a.2.1 a.2.2.1 a.2.2.2 r h)
def Ffba_A : ((List Int) × Int × Int × Int × Int)→List V:=cA (slE I) (cA I (cA I (cA I (oA (upE I)))))
def Ffba_R (r : Int × Int) : V × List V:=(I (r.1),[.uptr (I (r.2))])
noncomputable def Ffba_ent : Ent:=entT [false,false,false,false,true] Ffba_A Ffba_R fun x=>Ffba x.1 x.2.1 x.2.2.1 x.2.2.2.1 x.2.2.2.2
theorem Ffba_F {data_6 : List Int} {a_7 : Int} {b_8 : Int} {c_9 : Int} {swaps_10 : Int} {r} (h : Ffba data_6 a_7 b_8 c_9 swaps_10=some r) : (Ffba_ent).F (Ffba_A (data_6,a_7,b_8,c_9,swaps_10))=some (Ffba_R r):=entT_F (cA_inj (isl_inj I_inj) (cA_inj I_inj (cA_inj I_inj (cA_inj I_inj (oA_inj (uptr_inj I_inj)))))) h
noncomputable def Ffba_c : Code:=bodyOf Try.f99
noncomputable def Ffba_E : Env:=mkE Try.prog [(101,Ffbc_ent)]
def Ffba_Q (x : (List Int) × Int × Int × Int × Int) (r : Int × Int) : St→Prop:=QF Ffba_E Try.f99 [false,false,false,false,true] (Ffba_A x) (Ffba_R r)
theorem Ffba_run (data_6 : List Int) (a_7 : Int) (b_8 : Int) (c_9 : Int) (swaps_10 : Int) (r : Int × Int) (h : Ffba data_6 a_7 b_8 c_9 swaps_10=some r) : RunF Ffba_E Try.f99 [false,false,false,false,true] 1 (Ffba_A (data_6,a_7,b_8,c_9,swaps_10)) (Ffba_R r):=by
 show Run _ _ (Ffba_Q (data_6,a_7,b_8,c_9,swaps_10) r) [.code Ffba_c] _
 refine rin (n:=36) [(0,.isl false ((data_6).map I)),(1,I (a_7)),(2,I (b_8)),(3,I (c_9)),(4,.hp 1 0 [] 1 0 0)] [(1,some ⟨0,1,[I (swaps_10)]⟩)] 2 (by kernel_rfl) (by kernel_rfl) (by kernel_rfl) rfl ?_
 unfold Ffba at h
 refine cq 10 [12,13,14,15] [.isl false ((data_6).map I),I (a_7),I (b_8),.hp 1 0 [] 1 0 0] 82 ?_
 obtain ⟨r6,hr6,h⟩:=bS h
 refine oq 98 (.tup [I (r6.1),I (r6.2.1)]) rfl (e_callV rfl rfl (call_P rfl rfl rfl (avS (shP rfl) (avS (shP rfl) (avS (shP rfl) (avO (hd1 rfl (hd_hq (path:=[]) rfl rfl (ra_n))) (avN))))) (Ffbc_F hr6) (.inr rfl) (bl_c rfl rfl rfl rfl (bl_n)) rfl rfl rfl)) ?_
 refine ck 12 [1,20,21,22,23] [2] [] [] [I (r6.1),.isl false ((data_6).map I),I (r6.2.1),I (c_9),.hp 1 0 [] 1 0 0] [] 242 (by kernel_rfl) ?_
 obtain ⟨r7,hr7,h⟩:=bS h
 refine oq 258 (.tup [I (r7.1),I (r7.2.1)]) rfl (e_callV rfl rfl (call_P rfl rfl rfl (avS (shP rfl) (avS (shP rfl) (avS (shP rfl) (avO (hd1 rfl (hd_hq (path:=[]) rfl rfl (ra_n))) (avN))))) (Ffbc_F hr7) (.inr rfl) (bl_c rfl rfl rfl rfl (bl_n)) rfl rfl rfl)) ?_
 refine ck 12 [28,29,30,31] [3] [] [] [.isl false ((data_6).map I),I (r6.1),I (r7.1),.hp 1 0 [] 1 0 0] [] 402 (by kernel_rfl) ?_
 obtain ⟨r8,hr8,h⟩:=bS h
 refine oq 418 (.tup [I (r8.1),I (r8.2.1)]) rfl (e_callV rfl rfl (call_P rfl rfl rfl (avS (shP rfl) (avS (shP rfl) (avS (shP rfl) (avO (hd1 rfl (hd_hq (path:=[]) rfl rfl (ra_n))) (avN))))) (Ffbc_F hr8) (.inr rfl) (bl_c rfl rfl rfl rfl (bl_n)) rfl rfl rfl)) ?_
 refine ck 11 [10] [1] [] [] [I (r8.2.1)] [] 530 (by kernel_rfl) ?_
 obtain rfl:=Option.some.inj h
 exact s_ret rfl ⟨_,fin (vs:=[I (r8.2.1)]) rfl (absE (absorb_plain rfl) (absEN)) rfl (ou_f (ou_f (ou_f (ou_f (ou_1 rfl (oc_hp rfl rfl) (ou_n)))))),kl_c (kl_n)⟩
theorem Ffba_good {G : Go.Ln.Ground} : Good Try.prog G 99 Ffba_ent:=good_T (fnOf_good (gl_c Ffbc_good (gl_n))) agree_mk (Checked.mixed Try.checked) Try.func99 (n:=5) (m:=1) ⟨rfl,rfl,by decide⟩ (fun _=>⟨rfl,rfl⟩) (fun a r h=>Ffba_run a.1 a.2.1 a.2.2.1 a.2.2.2.1 a.2.2.2.2 r h)
def Ffz_A : ((List Int) × Int × Int)→List V:=cA (slE I) (cA I (oA (upE I)))
def Ffz_R (r : Int × Int) : V × List V:=(I (r.1),[.uptr (I (r.2))])
noncomputable def Ffz_ent : Ent:=entT [false,false,true] Ffz_A Ffz_R fun x=>Ffz x.1 x.2.1 x.2.2
theorem Ffz_F {data_4 : List Int} {a_5 : Int} {swaps_6 : Int} {r} (h : Ffz data_4 a_5 swaps_6=some r) : (Ffz_ent).F (Ffz_A (data_4,a_5,swaps_6))=some (Ffz_R r):=entT_F (cA_inj (isl_inj I_inj) (cA_inj I_inj (oA_inj (uptr_inj I_inj)))) h
noncomputable def Ffz_c : Code:=bodyOf Try.f98
noncomputable def Ffz_E : Env:=mkE Try.prog [(99,Ffba_ent)]
def Ffz_Q (x : (List Int) × Int × Int) (r : Int × Int) : St→Prop:=QF Ffz_E Try.f98 [false,false,true] (Ffz_A x) (Ffz_R r)
theorem Ffz_run (data_4 : List Int) (a_5 : Int) (swaps_6 : Int) (r : Int × Int) (h : Ffz data_4 a_5 swaps_6=some r) : RunF Ffz_E Try.f98 [false,false,true] 1 (Ffz_A (data_4,a_5,swaps_6)) (Ffz_R r):=by
 show Run _ _ (Ffz_Q (data_4,a_5,swaps_6) r) [.code Ffz_c] _
 refine rin (n:=15) [(0,.isl false ((data_4).map I)),(1,I (a_5)),(2,.hp 1 0 [] 1 0 0)] [(1,some ⟨0,1,[I (swaps_6)]⟩)] 2 (by kernel_rfl) (by kernel_rfl) (by kernel_rfl) rfl ?_
 unfold Ffz at h
 refine cq 13 [7,9,10,12,13] [.isl false ((data_4).map I),I ((w64 (a_5 - 1))),I (a_5),I ((w64 (a_5 + 1))),.hp 1 0 [] 1 0 0] 130 ?_
 obtain ⟨r4,hr4,h⟩:=bS h
 refine oq 146 (I (r4.1)) rfl (e_callV rfl rfl (call_P rfl rfl rfl (avS (shP rfl) (avS (shP rfl) (avS (shP rfl) (avS (shP rfl) (avO (hd1 rfl (hd_hq (path:=[]) rfl rfl (ra_n))) (avN)))))) (Ffba_F hr4) (.inr rfl) (bl_c rfl rfl rfl rfl (bl_n)) rfl rfl rfl)) ?_
 refine cq 2 [6] [I (r4.1)] 162 ?_
 obtain rfl:=Option.some.inj h
 exact s_ret rfl ⟨_,fin (vs:=[I (r4.1)]) rfl (absE (absorb_plain rfl) (absEN)) rfl (ou_f (ou_f (ou_1 rfl (oc_hp rfl rfl) (ou_n)))),kl_c (kl_n)⟩
theorem Ffz_good {G : Go.Ln.Ground} : Good Try.prog G 98 Ffz_ent:=good_T (fnOf_good (gl_c Ffba_good (gl_n))) agree_mk (Checked.mixed Try.checked) Try.func98 (n:=3) (m:=1) ⟨rfl,rfl,by decide⟩ (fun _=>⟨rfl,rfl⟩) (fun a r h=>Ffz_run a.1 a.2.1 a.2.2 r h)
def Ffw_A : ((List Int) × Int × Int)→List V:=cA (slE I) (cA I (oA I))
def Ffw_R (r : Int × Int) : V × List V:=(.tup [I (r.1),I (r.2)],[])
noncomputable def Ffw_ent : Ent:=entT [false,false,false] Ffw_A Ffw_R fun x=>Ffw x.1 x.2.1 x.2.2
theorem Ffw_F {data_1 : List Int} {a_2 : Int} {b_3 : Int} {r} (h : Ffw data_1 a_2 b_3=some r) : (Ffw_ent).F (Ffw_A (data_1,a_2,b_3))=some (Ffw_R r):=entT_F (cA_inj (isl_inj I_inj) (cA_inj I_inj (oA_inj I_inj))) h
noncomputable def Ffw_c : Code:=bodyOf Try.f87
noncomputable def Ffw_E : Env:=mkE Try.prog [(99,Ffba_ent),(98,Ffz_ent)]
def Ffw_Q (x : (List Int) × Int × Int) (r : Int × Int) : St→Prop:=QF Ffw_E Try.f87 [false,false,false] (Ffw_A x) (Ffw_R r)
theorem Ffw_run (data_1 : List Int) (a_2 : Int) (b_3 : Int) (r : Int × Int) (h : Ffw data_1 a_2 b_3=some r) : RunF Ffw_E Try.f87 [false,false,false] 0 (Ffw_A (data_1,a_2,b_3)) (Ffw_R r):=by
 show Run _ _ (Ffw_Q (data_1,a_2,b_3) r) [.code Ffw_c] _
 refine rin (n:=57) [(0,.isl false ((data_1).map I)),(1,I (a_2)),(2,I (b_3))] [] 1 (by kernel_rfl) (by kernel_rfl) (by kernel_rfl) rfl ?_
 unfold Ffw at h
 refine ck 49 [8,9,10,11,12,32] [] [97] [] [I ((w64 (b_3 - a_2))),.hp 97 0 [] 1 0 0,I ((w64 (a_2 + (w64 ((w64 ((w64 (b_3 - a_2)).tdiv 4)) * 1))))),I ((w64 (a_2 + (w64 ((w64 ((w64 (b_3 - a_2)).tdiv 4)) * 2))))),I ((w64 (a_2 + (w64 ((w64 ((w64 (b_3 - a_2)).tdiv 4)) * 3))))),B ((decide ((w64 (b_3 - a_2)) ≥ 8)))] [some ⟨0,1,[I (0)]⟩] 433 (by kernel_rfl) ?_
 obtain ⟨y4,hy4,hy41,hy42⟩:=bJ h
 have j4 : ∀ u4,y4=.inr u4→Run Ffw_E 0 (Ffw_Q (data_1,a_2,b_3) r) (.code (cR (cR (cR (cR (cR (cR (cR Ffw_c))))))) :: []) (sT 57 [(9,.hp 1 0 [] 1 0 0),(11,I (u4.1))] [⟨0,1,[I (u4.2)]⟩] 2):=by
   intro u4 hu
   replace h:=hy42 u4 hu
   refine cq 10 [49,51] [I (u4.2),B ((u4.2 == 0))] 50 ?_
   refine sq h (fun h=>?_) (fun h=>?_)
   · refine cq 6 [6,7] [I (u4.1),I (1)] 98 ?_
     obtain rfl:=Option.some.inj h
     exact s_ret rfl ⟨_,fin (vs:=[I (u4.1),I (1)]) rfl (absE (absorb_plain rfl) (absE (absorb_plain rfl) (absEN))) rfl (ou_f (ou_f (ou_f (ou_n)))),kl_n⟩
   · refine cq 5 [54] [B ((u4.2 == 12))] 82 ?_
     refine sq h (fun h=>?_) (fun h=>?_)
     · refine cq 6 [6,7] [I (u4.1),I (2)] 130 ?_
       obtain rfl:=Option.some.inj h
       exact s_ret rfl ⟨_,fin (vs:=[I (u4.1),I (2)]) rfl (absE (absorb_plain rfl) (absE (absorb_plain rfl) (absEN))) rfl (ou_f (ou_f (ou_f (ou_n)))),kl_n⟩
     · refine cq 6 [6,7] [I (u4.1),I (0)] 130 ?_
       obtain rfl:=Option.some.inj h
       exact s_ret rfl ⟨_,fin (vs:=[I (u4.1),I (0)]) rfl (absE (absorb_plain rfl) (absE (absorb_plain rfl) (absEN))) rfl (ou_f (ou_f (ou_f (ou_n)))),kl_n⟩
 have r4 : ∀ r',y4=.inl r'→∀ st,Ffw_Q (data_1,a_2,b_3) r' st→(Ffw_Q (data_1,a_2,b_3) r) st:=fun r' e st hq=>by rw [hy41 r' e] at hq; exact hq
 replace h:=hy4
 refine sq h (fun h=>?_) (fun h=>?_)
 · refine cq 6 [34] [B ((decide ((w64 (b_3 - a_2)) ≥ 50)))] 465 ?_
   obtain ⟨y5,hy5,hy51,hy52⟩:=bL h
   have j5 : ∀ u5,y5=.inr u5→Run Ffw_E 0 (Ffw_Q (data_1,a_2,b_3) r) (.code (cR (cL (cR (cL (cR (cR (cR (cR (cR (cR Ffw_c)))))))))) :: .code (cR (cR (cR (cR (cR (cR (cR Ffw_c))))))) :: []) (sT 57 [(0,.isl false ((data_1).map I)),(9,.hp 1 0 [] 1 0 0),(10,I (u5.1)),(11,I (u5.2.1)),(12,I (u5.2.2.1))] [⟨0,1,[I (u5.2.2.2)]⟩] 2):=by
     intro u5 hu
     replace h:=hy52 u5 hu
     refine cq 5 [44,45,46,47] [.isl false ((data_1).map I),I (u5.1),I (u5.2.1),I (u5.2.2.1)] 66 ?_
     obtain ⟨r6,hr6,h⟩:=bS h
     refine oq 82 (I (r6.1)) rfl (e_callV rfl rfl (call_P rfl rfl rfl (avS (shP rfl) (avS (shP rfl) (avS (shP rfl) (avS (shP rfl) (avO (hd1 rfl (hd_hq (path:=[]) rfl rfl (ra_n))) (avN)))))) (Ffba_F hr6) (.inr rfl) (bl_c rfl rfl rfl rfl (bl_n)) rfl rfl rfl)) ?_
     refine cq 2 [11] [I (r6.1)] 98 ?_
     exact rf [9,11] [1] (j4 _ (Option.some.inj h).symm :)
   have r5 : ∀ r',y5=.inl r'→∀ st,Ffw_Q (data_1,a_2,b_3) r' st→(Ffw_Q (data_1,a_2,b_3) r) st:=fun r' e st hq=>r4 r' (hy51 r' e) st hq
   replace h:=hy5
   refine sq h (fun h=>?_) (fun h=>?_)
   · refine cq 4 [35,36] [.isl false ((data_1).map I),I ((w64 (a_2 + (w64 ((w64 ((w64 (b_3 - a_2)).tdiv 4)) * 1)))))] 497 ?_
     obtain ⟨r7,hr7,h⟩:=bS h
     refine oq 513 (I (r7.1)) rfl (e_callV rfl rfl (call_P rfl rfl rfl (avS (shP rfl) (avS (shP rfl) (avO (hd1 rfl (hd_hq (path:=[]) rfl rfl (ra_n))) (avN)))) (Ffz_F hr7) (.inr rfl) (bl_c rfl rfl rfl rfl (bl_n)) rfl rfl rfl)) ?_
     refine cq 6 [10,38,39] [I (r7.1),.isl false ((data_1).map I),I ((w64 (a_2 + (w64 ((w64 ((w64 (b_3 - a_2)).tdiv 4)) * 2)))))] 561 ?_
     obtain ⟨r8,hr8,h⟩:=bS h
     refine oq 577 (I (r8.1)) rfl (e_callV rfl rfl (call_P rfl rfl rfl (avS (shP rfl) (avS (shP rfl) (avO (hd1 rfl (hd_hq (path:=[]) rfl rfl (ra_n))) (avN)))) (Ffz_F hr8) (.inr rfl) (bl_c rfl rfl rfl rfl (bl_n)) rfl rfl rfl)) ?_
     refine cq 5 [11,41,42] [I (r8.1),.isl false ((data_1).map I),I ((w64 (a_2 + (w64 ((w64 ((w64 (b_3 - a_2)).tdiv 4)) * 3)))))] 625 ?_
     obtain ⟨r9,hr9,h⟩:=bS h
     refine oq 641 (I (r9.1)) rfl (e_callV rfl rfl (call_P rfl rfl rfl (avS (shP rfl) (avS (shP rfl) (avO (hd1 rfl (hd_hq (path:=[]) rfl rfl (ra_n))) (avN)))) (Ffz_F hr9) (.inr rfl) (bl_c rfl rfl rfl rfl (bl_n)) rfl rfl rfl)) ?_
     refine cq 2 [12] [I (r9.1)] 657 ?_
     exact rf [0,9,10,11,12] [97] (j5 _ (Option.some.inj h).symm :)
   · refine aq 1 ?_
     exact rf [0,9,10,11,12] [97] (j5 _ (Option.some.inj h).symm :)
 · refine aq 1 ?_
   exact rf [9,11] [97] (j4 _ (Option.some.inj h).symm :)
theorem Ffw_good {G : Go.Ln.Ground} : Good Try.prog G 87 Ffw_ent:=good_T (fnOf_good (gl_c Ffba_good (gl_c Ffz_good (gl_n)))) agree_mk (Checked.mixed Try.checked) Try.func87 (n:=3) (m:=0) ⟨rfl,rfl,by decide⟩ (fun _=>⟨rfl,rfl⟩) (fun a r h=>Ffw_run a.1 a.2.1 a.2.2 r h)
def Ffbh_A : ((List Int) × Int × Int)→List V:=cA (usE 1 I) (cA I (oA I))
def Ffbh_R (r : (List Int)) : V × List V:=(.tup [],[.usl 1 ((r).map I)])
noncomputable def Ffbh_ent : Ent:=entT [true,false,false] Ffbh_A Ffbh_R fun x=>Ffbh x.1 x.2.1 x.2.2
theorem Ffbh_F {data_9 : List Int} {a_10 : Int} {b_11 : Int} {r} (h : Ffbh data_9 a_10 b_11=some r) : (Ffbh_ent).F (Ffbh_A (data_9,a_10,b_11))=some (Ffbh_R r):=entT_F (cA_inj (usl_inj I_inj) (cA_inj I_inj (oA_inj I_inj))) h
noncomputable def Ffbh_c : Code:=bodyOf Try.f88
noncomputable def Ffbh_E : Env:=mkE Try.prog []
def Ffbh_Q (x : (List Int) × Int × Int) (r : (List Int)) : St→Prop:=QF Ffbh_E Try.f88 [true,false,false] (Ffbh_A x) (Ffbh_R r)
theorem Ffbh_la_run (data_9 : List Int) (a_10 : Int) (b_11 : Int)  {Q : St→Prop} {K : List It} (hK : noD K=true) : ∀ (x4 : Int × Int × (List Int)) (y : ((List Int)) ⊕ ((List Int))),Ffbh_la data_9 a_10 b_11 x4=some y→(∀ r',y=.inl r'→∀ st,Ffbh_Q (data_9,a_10,b_11) r' st→Q st)→(∀ u : (List Int),y=.inr u→Run Ffbh_E 1 Q K (sT 32 [] [⟨0,1,(u).map I⟩] 2))→Run Ffbh_E 1 Q (.code (cL (cL (cR (cR Ffbh_c)))) :: .lp (cL (cL (cR (cR Ffbh_c)))) :: .blk 0 :: K) (sT 32 [(0,.hs 1 0 [] 1 0 ((x4.2.2).map I).length),(6,I (x4.1)),(7,I (x4.2.1))] [⟨0,1,(x4.2.2).map I⟩] 2):=by
 refine fix_indP (Ffbh_la_fin data_9 a_10 b_11) ?_
 intro self ih x4 y h hr hn
 unfold Ffbh_la_F at h
 refine cq 7 [13] [B ((decide (x4.1 < x4.2.1)))] 50 ?_
 refine sq h (fun h=>?_) (fun h=>?_)
 · refine aq 1 ?_
   refine aq 2 ?_
   refine s_draw [0,0,0,0,0,0,48,112,0,0,768,1792,4083,8179,16383,32767] rfl (by decide +kernel) ?_
   refine dk 6 [19,18,17,16,15,14] [I (x4.2.1),.hs 1 0 [] 1 0 ((x4.2.2).map I).length,I (x4.2.1),.hs 1 0 [] 1 0 ((x4.2.2).map I).length,I (x4.1),.hs 1 0 [] 1 0 ((x4.2.2).map I).length] ?_
   obtain ⟨e5,he5,h⟩:=bS h
   refine dq [1] [] (.hp 1 0 [] 1 (0 + Int.toNat (x4.2.1)) 0) rfl (e_indexAddr rfl rfl rfl (ix_hsM (f:=I) (xs:=x4.2.2) rfl rfl rfl he5)) ?_
   refine dq [1] [] (I (e5)) rfl (e_ld rfl (ld_at (path:=[]) rfl rfl rfl (ra_n) (get_map (f:=I) (xs:=x4.2.2) he5) rfl rfl rfl)) ?_
   refine dk 2 [23,22] [I (x4.1),.hs 1 0 [] 1 0 ((x4.2.2).map I).length] ?_
   obtain ⟨e6,he6,h⟩:=bS h
   refine dq [1] [] (.hp 1 0 [] 1 (0 + Int.toNat (x4.1)) 0) rfl (e_indexAddr rfl rfl rfl (ix_hsM (f:=I) (xs:=x4.2.2) rfl rfl rfl he6)) ?_
   refine dq [1] [] (I (e6)) rfl (e_ld rfl (ld_at (path:=[]) rfl rfl rfl (ra_n) (get_map (f:=I) (xs:=x4.2.2) he6) rfl rfl rfl)) ?_
   obtain ⟨e7,he7,h⟩:=bS h
   refine dq [1] [] (.hp 1 0 [] 1 (0 + Int.toNat (x4.1)) 0) rfl (e_indexAddr rfl rfl rfl (ix_hsM (f:=I) (xs:=x4.2.2) rfl rfl rfl he7)) ?_
   refine dz [1] [1] rfl (e_st rfl rfl (st_at (path:=[]) (pl:=true) (e':=I (e5)) (es2':=((setI x4.2.2 x4.1 e5)).map I) rfl (absorb_plain rfl) rfl rfl rfl (ra_n) (get_map (f:=I) (xs:=x4.2.2) he7) rfl rfl rfl (set_map (f:=I) (xs:=x4.2.2) (y:=e5)) (sr_n) 0 rfl)) ?_
   try rw [← len_setM (f:=I) (xs:=x4.2.2) (i:=x4.1) (z:=e5)]
   obtain ⟨e10,he10,h⟩:=bS h
   refine dq [1] [] (.hp 1 0 [] 1 (0 + Int.toNat (x4.2.1)) 0) rfl (e_indexAddr rfl rfl rfl (ix_hsM (f:=I) (xs:=(setI x4.2.2 x4.1 e5)) rfl rfl rfl he10)) ?_
   refine dz [1] [1] rfl (e_st rfl rfl (st_at (path:=[]) (pl:=true) (e':=I (e6)) (es2':=((setI (setI x4.2.2 x4.1 e5) x4.2.1 e6)).map I) rfl (absorb_plain rfl) rfl rfl rfl (ra_n) (get_map (f:=I) (xs:=(setI x4.2.2 x4.1 e5)) he10) rfl rfl rfl (set_map (f:=I) (xs:=(setI x4.2.2 x4.1 e5)) (y:=e6)) (sr_n) 0 rfl)) ?_
   try rw [← len_setM (f:=I) (xs:=(setI x4.2.2 x4.1 e5)) (i:=x4.2.1) (z:=e6)]
   refine de 306 rfl rfl ?_
   refine cq 12 [6,7] [I ((w64 (x4.1 + 1))),I ((w64 (x4.2.1 - 1)))] 402 ?_
   refine s_lp ?_
   exact rf [0,6,7] [1] (ih _ _ h hr hn :)
 · refine aq 1 ?_
   exact rf [] [1] (hn _ (Option.some.inj h).symm :) (hk:=hK)
theorem Ffbh_run (data_9 : List Int) (a_10 : Int) (b_11 : Int) (r : (List Int)) (h : Ffbh data_9 a_10 b_11=some r) : RunF Ffbh_E Try.f88 [true,false,false] 1 (Ffbh_A (data_9,a_10,b_11)) (Ffbh_R r):=by
 show Run _ _ (Ffbh_Q (data_9,a_10,b_11) r) [.code Ffbh_c] _
 refine rin (n:=32) [(0,.hs 1 0 [] 1 0 ((data_9).map I).length),(1,I (a_10)),(2,I (b_11))] [(1,some ⟨0,1,(data_9).map I⟩)] 2 (by kernel_rfl) (by kernel_rfl) (by kernel_rfl) rfl ?_
 unfold Ffbh at h
 refine cq 12 [6,7] [I (a_10),I ((w64 (b_11 - 1)))] 82 ?_
 obtain ⟨y14,hy14,hy141,hy142⟩:=bJ h
 refine s_loop rfl ?_
 refine rf [0,6,7] [1] (Ffbh_la_run data_9 a_10 b_11 rfl (a_10,(w64 (b_11 - 1)),data_9) _ hy14 (fun r' e st hq=>by rw [hy141 r' e] at hq; exact hq) fun u14 hu=>?_)
 replace h:=hy142 u14 hu
 obtain ⟨g15,h⟩:=gG h
 obtain rfl:=Option.some.inj h
 exact s_end ⟨_,fin (vs:=[]) rfl (absEN) rfl (ou_1 rfl (oc_hsG (f:=I) (xs:=u14) (by simpa using g15) rfl) (ou_f (ou_f (ou_n)))),kl_c (kl_n)⟩
theorem Ffbh_good {G : Go.Ln.Ground} : Good Try.prog G 88 Ffbh_ent:=good_T (fnOf_good (gl_n)) agree_mk (Checked.mixed Try.checked) Try.func88 (n:=3) (m:=1) ⟨rfl,rfl,by decide⟩ (fun _=>⟨rfl,rfl⟩) (fun a r h=>Ffbh_run a.1 a.2.1 a.2.2 r h)
def Ffbd_A : ((List Int) × Int × Int)→List V:=cA (usE 1 I) (cA I (oA I))
def Ffbd_R (r : Bool × (List Int)) : V × List V:=(B (r.1),[.usl 1 ((r.2).map I)])
noncomputable def Ffbd_ent : Ent:=entT [true,false,false] Ffbd_A Ffbd_R fun x=>Ffbd x.1 x.2.1 x.2.2
theorem Ffbd_F {data_15 : List Int} {a_16 : Int} {b_17 : Int} {r} (h : Ffbd data_15 a_16 b_17=some r) : (Ffbd_ent).F (Ffbd_A (data_15,a_16,b_17))=some (Ffbd_R r):=entT_F (cA_inj (usl_inj I_inj) (cA_inj I_inj (oA_inj I_inj))) h
noncomputable def Ffbd_c : Code:=bodyOf Try.f89
noncomputable abbrev Ffbd_ka : Code:=cL (cL (cR (cL (cR (cR Ffbd_c)))))
noncomputable abbrev Ffbd_kb : Code:=cL (cL (cL (cL (cL (cR Ffbd_ka)))))
noncomputable abbrev Ffbd_kc : Code:=cL (cL (cR (cL (cR (cR (cR (cR (cR (cR (cL (cL (cR Ffbd_ka))))))))))))
noncomputable abbrev Ffbd_kd : Code:=cL (cL (cR (cL (cR (cL (cR (cR (cR (cR (cL (cL (cR Ffbd_ka))))))))))))
noncomputable def Ffbd_E : Env:=mkE Try.prog [(90,Ffa_ent)]
def Ffbd_Q (x : (List Int) × Int × Int) (r : Bool × (List Int)) : St→Prop:=QF Ffbd_E Try.f89 [true,false,false] (Ffbd_A x) (Ffbd_R r)
theorem Ffbd_lb_run (data_15 : List Int) (a_16 : Int) (b_17 : Int) (x4 : Int × Int × Int × Int × (List Int)) {Q : St→Prop} {K : List It} (hK : noD K=true) : ∀ (x5 : Int) (y : (Bool × (List Int)) ⊕ Int),Ffbd_lb data_15 a_16 b_17 x4 x5=some y→(∀ r',y=.inl r'→∀ st,Ffbd_Q (data_15,a_16,b_17) r' st→Q st)→(∀ u : Int,y=.inr u→Run Ffbd_E 1 Q K (sT 133 [(0,.hs 1 0 [] 1 0 ((x4.2.2.2.2).map I).length),(1,I (x4.1)),(2,I (x4.2.1)),(7,I (u)),(8,I (x4.2.2.2.1))] [⟨0,1,(x4.2.2.2.2).map I⟩] 2))→Run Ffbd_E 1 Q (.code Ffbd_kb :: .lp Ffbd_kb :: .blk 2 :: K) (sT 133 [(0,.hs 1 0 [] 1 0 ((x4.2.2.2.2).map I).length),(1,I (x4.1)),(2,I (x4.2.1)),(7,I (x5)),(8,I (x4.2.2.2.1))] [⟨0,1,(x4.2.2.2.2).map I⟩] 2):=by
 refine fix_indP (Ffbd_lb_fin data_15 a_16 b_17 x4) ?_
 intro self ih x5 y h hr hn
 unfold Ffbd_lb_F at h
 refine aq 2 ?_
 refine s_draw [0,0,3,7,15,15,63,127,15,15,527,1807,3855,8191,16383,32767] rfl (by decide +kernel) ?_
 refine dk 4 [20,19,18,17] [B ((decide (x5 < x4.2.1))),B ((decide (x5 < x4.2.1))),I (x4.2.1),I (x5)] ?_
 obtain ⟨y6,hy6,hy61,hy62⟩:=bL h
 have j6 : ∀ u6,y6=.inr u6→Run Ffbd_E 1 Q (.code (cR (cL Ffbd_kb)) :: .code (cR Ffbd_kb) :: .lp Ffbd_kb :: .blk 2 :: K) (sT 133 [(0,.hs 1 0 [] 1 0 ((x4.2.2.2.2).map I).length),(1,I (x4.1)),(2,I (x4.2.1)),(7,I (x5)),(8,I (x4.2.2.2.1)),(32,B (u6))] [⟨0,1,(x4.2.2.2.2).map I⟩] 2):=by
   intro u6 hu
   replace h:=hy62 u6 hu
   refine sq h (fun h=>?_) (fun h=>?_)
   · refine aq 1 ?_
     refine cq 7 [7] [I ((w64 (x5 + 1)))] 50 ?_
     refine s_lp ?_
     exact rf [0,1,2,7,8] [1] (ih _ _ h hr hn :)
   · refine aq 1 ?_
     exact rf [0,1,2,7,8] [1] (hn _ (Option.some.inj h).symm :) (hk:=hK)
 have r6 : ∀ r',y6=.inl r'→∀ st,Ffbd_Q (data_15,a_16,b_17) r' st→Q st:=fun r' e st hq=>hr r' (hy61 r' e) st hq
 replace h:=hy6
 refine sp 20 h rfl (fun h=>?_) (fun h=>?_)
 · refine dk 2 [22,21] [I (x5),.hs 1 0 [] 1 0 ((x4.2.2.2.2).map I).length] ?_
   obtain ⟨e7,he7,h⟩:=bS h
   refine dy [1] [] (.hp 1 0 [] 1 (0 + Int.toNat (x5)) 0) rfl (e_indexAddr rfl rfl rfl (ix_hsM (f:=I) (xs:=x4.2.2.2.2) rfl rfl rfl he7)) ?_
   refine dy [1] [] (I (e7)) rfl (e_ld rfl (ld_at (path:=[]) rfl rfl rfl (ra_n) (get_map (f:=I) (xs:=x4.2.2.2.2) he7) rfl rfl rfl)) ?_
   refine dk 3 [27,26,25] [I ((w64 (x5 - 1))),I (x5),.hs 1 0 [] 1 0 ((x4.2.2.2.2).map I).length] ?_
   obtain ⟨e8,he8,h⟩:=bS h
   refine dy [1] [] (.hp 1 0 [] 1 (0 + Int.toNat ((w64 (x5 - 1)))) 0) rfl (e_indexAddr rfl rfl rfl (ix_hsM (f:=I) (xs:=x4.2.2.2.2) rfl rfl rfl he8)) ?_
   refine dy [1] [] (I (e8)) rfl (e_ld rfl (ld_at (path:=[]) rfl rfl rfl (ra_n) (get_map (f:=I) (xs:=x4.2.2.2.2) he8) rfl rfl rfl)) ?_
   obtain ⟨r9,hr9,h⟩:=bS h
   refine dy [] [] (B (r9)) rfl (e_callV rfl rfl (call_P rfl rfl rfl (avS (shP rfl) (avS (shP rfl) (avN))) (Ffa_F hr9) (.inr rfl) (bl_n) rfl rfl rfl)) ?_ (w_callO rfl rfl rfl rfl (avS (shP rfl) (avS (shP rfl) (avN))) (Ffa_F hr9) (.inr rfl) rfl)
   refine dk 2 [32,31] [B ((!r9)),B ((!r9))] ?_
   refine de 258 rfl rfl ?_
   exact rf [0,1,2,7,8,32] [1] (j6 _ (Option.some.inj h).symm :)
 · refine dk 12 [32,31,30,29,28,27,26,25,24,23,22,21] [B (false),.und,.und,.und,.und,.und,.und,.und,.und,.und,.und,.und] ?_
   refine de 258 rfl rfl ?_
   exact rf [0,1,2,7,8,32] [1] (j6 _ (Option.some.inj h).symm :)
theorem Ffbd_lc_run (data_15 : List Int) (a_16 : Int) (b_17 : Int) (x4 : Int × Int × Int × Int × (List Int)) (u10 : Int) {Q : St→Prop} {K : List It} (hK : noD K=true) : ∀ (x24 : Int × (List Int)) (y : (Bool × (List Int)) ⊕ ((List Int))),Ffbd_lc data_15 a_16 b_17 x4 u10 x24=some y→(∀ r',y=.inl r'→∀ st,Ffbd_Q (data_15,a_16,b_17) r' st→Q st)→(∀ u : (List Int),y=.inr u→Run Ffbd_E 1 Q K (sT 133 [(0,.hs 1 0 [] 1 0 ((u).map I).length),(1,I (x4.1)),(2,I (x4.2.1)),(7,I (u10)),(8,I (x4.2.2.2.1))] [⟨0,1,(u).map I⟩] 2))→Run Ffbd_E 1 Q (.code Ffbd_kc :: .lp Ffbd_kc :: .blk 6 :: K) (sT 133 [(0,.hs 1 0 [] 1 0 ((x24.2).map I).length),(1,I (x4.1)),(2,I (x4.2.1)),(7,I (u10)),(8,I (x4.2.2.2.1)),(10,I (x24.1))] [⟨0,1,(x24.2).map I⟩] 2):=by
 refine fix_indP (Ffbd_lc_fin data_15 a_16 b_17 x4 u10) ?_
 intro self ih x24 y h hr hn
 unfold Ffbd_lc_F at h
 refine cq 7 [103] [B ((decide (x24.1 < x4.2.1)))] 50 ?_
 refine sq h (fun h=>?_) (fun h=>?_)
 · refine aq 1 ?_
   refine aq 4 ?_
   refine s_draw [0,0,3,7,0,0,32,112,240,511,1023] rfl (by decide +kernel) ?_
   refine dk 2 [107,106] [I (x24.1),.hs 1 0 [] 1 0 ((x24.2).map I).length] ?_
   obtain ⟨e25,he25,h⟩:=bS h
   refine dq [1] [] (.hp 1 0 [] 1 (0 + Int.toNat (x24.1)) 0) rfl (e_indexAddr rfl rfl rfl (ix_hsM (f:=I) (xs:=x24.2) rfl rfl rfl he25)) ?_
   refine dq [1] [] (I (e25)) rfl (e_ld rfl (ld_at (path:=[]) rfl rfl rfl (ra_n) (get_map (f:=I) (xs:=x24.2) he25) rfl rfl rfl)) ?_
   refine dk 3 [112,111,110] [I ((w64 (x24.1 - 1))),I (x24.1),.hs 1 0 [] 1 0 ((x24.2).map I).length] ?_
   obtain ⟨e26,he26,h⟩:=bS h
   refine dq [1] [] (.hp 1 0 [] 1 (0 + Int.toNat ((w64 (x24.1 - 1)))) 0) rfl (e_indexAddr rfl rfl rfl (ix_hsM (f:=I) (xs:=x24.2) rfl rfl rfl he26)) ?_
   refine dq [1] [] (I (e26)) rfl (e_ld rfl (ld_at (path:=[]) rfl rfl rfl (ra_n) (get_map (f:=I) (xs:=x24.2) he26) rfl rfl rfl)) ?_
   obtain ⟨r27,hr27,h⟩:=bS h
   refine dq [] [] (B (r27)) rfl (e_callV rfl rfl (call_P rfl rfl rfl (avS (shP rfl) (avS (shP rfl) (avN))) (Ffa_F hr27) (.inr rfl) (bl_n) rfl rfl rfl)) ?_ (w_callO rfl rfl rfl rfl (avS (shP rfl) (avS (shP rfl) (avN))) (Ffa_F hr27) (.inr rfl) rfl)
   refine dk 1 [116] [B ((!r27))] ?_
   refine de 226 rfl rfl ?_
   refine sq h (fun h=>?_) (fun h=>?_)
   · refine aq 1 ?_
     exact rf [0,1,2,7,8] [1] (hn _ (Option.some.inj h).symm :) (hk:=hK)
   · refine aq 1 ?_
     refine s_draw [0,0,0,0,8,0,0,64,224,480,0,0,3072,7168,16355,32739,65535,131071] rfl (by decide +kernel) ?_
     refine dk 8 [124,123,122,121,120,119,118,117] [I ((w64 (x24.1 - 1))),I (x24.1),.hs 1 0 [] 1 0 ((x24.2).map I).length,I ((w64 (x24.1 - 1))),I (x24.1),.hs 1 0 [] 1 0 ((x24.2).map I).length,I (x24.1),.hs 1 0 [] 1 0 ((x24.2).map I).length] ?_
     obtain ⟨e28,he28,h⟩:=bS h
     refine dq [1] [] (.hp 1 0 [] 1 (0 + Int.toNat ((w64 (x24.1 - 1)))) 0) rfl (e_indexAddr rfl rfl rfl (ix_hsM (f:=I) (xs:=x24.2) rfl rfl rfl he28)) ?_
     refine dq [1] [] (I (e28)) rfl (e_ld rfl (ld_at (path:=[]) rfl rfl rfl (ra_n) (get_map (f:=I) (xs:=x24.2) he28) rfl rfl rfl)) ?_
     refine dk 2 [128,127] [I (x24.1),.hs 1 0 [] 1 0 ((x24.2).map I).length] ?_
     obtain ⟨e29,he29,h⟩:=bS h
     refine dq [1] [] (.hp 1 0 [] 1 (0 + Int.toNat (x24.1)) 0) rfl (e_indexAddr rfl rfl rfl (ix_hsM (f:=I) (xs:=x24.2) rfl rfl rfl he29)) ?_
     refine dq [1] [] (I (e29)) rfl (e_ld rfl (ld_at (path:=[]) rfl rfl rfl (ra_n) (get_map (f:=I) (xs:=x24.2) he29) rfl rfl rfl)) ?_
     obtain ⟨e30,he30,h⟩:=bS h
     refine dq [1] [] (.hp 1 0 [] 1 (0 + Int.toNat (x24.1)) 0) rfl (e_indexAddr rfl rfl rfl (ix_hsM (f:=I) (xs:=x24.2) rfl rfl rfl he30)) ?_
     refine dz [1] [1] rfl (e_st rfl rfl (st_at (path:=[]) (pl:=true) (e':=I (e28)) (es2':=((setI x24.2 x24.1 e28)).map I) rfl (absorb_plain rfl) rfl rfl rfl (ra_n) (get_map (f:=I) (xs:=x24.2) he30) rfl rfl rfl (set_map (f:=I) (xs:=x24.2) (y:=e28)) (sr_n) 0 rfl)) ?_
     try rw [← len_setM (f:=I) (xs:=x24.2) (i:=x24.1) (z:=e28)]
     obtain ⟨e35,he35,h⟩:=bS h
     refine dq [1] [] (.hp 1 0 [] 1 (0 + Int.toNat ((w64 (x24.1 - 1)))) 0) rfl (e_indexAddr rfl rfl rfl (ix_hsM (f:=I) (xs:=(setI x24.2 x24.1 e28)) rfl rfl rfl he35)) ?_
     refine dz [1] [1] rfl (e_st rfl rfl (st_at (path:=[]) (pl:=true) (e':=I (e29)) (es2':=((setI (setI x24.2 x24.1 e28) (w64 (x24.1 - 1)) e29)).map I) rfl (absorb_plain rfl) rfl rfl rfl (ra_n) (get_map (f:=I) (xs:=(setI x24.2 x24.1 e28)) he35) rfl rfl rfl (set_map (f:=I) (xs:=(setI x24.2 x24.1 e28)) (y:=e29)) (sr_n) 0 rfl)) ?_
     try rw [← len_setM (f:=I) (xs:=(setI x24.2 x24.1 e28)) (i:=(w64 (x24.1 - 1))) (z:=e29)]
     refine de 514 rfl rfl ?_
     refine cq 6 [10] [I ((w64 (x24.1 + 1)))] 562 ?_
     refine s_lp ?_
     exact rf [0,1,2,7,8,10] [1] (ih _ _ h hr hn :)
 · refine aq 1 ?_
   exact rf [0,1,2,7,8] [1] (hn _ (Option.some.inj h).symm :) (hk:=hK)
theorem Ffbd_ld_run (data_15 : List Int) (a_16 : Int) (b_17 : Int) (x4 : Int × Int × Int × Int × (List Int)) (u10 : Int) {Q : St→Prop} {K : List It} (hK : noD K=true) : ∀ (x42 : Int × (List Int)) (y : (Bool × (List Int)) ⊕ ((List Int))),Ffbd_ld data_15 a_16 b_17 x4 u10 x42=some y→(∀ r',y=.inl r'→∀ st,Ffbd_Q (data_15,a_16,b_17) r' st→Q st)→(∀ u : (List Int),y=.inr u→Run Ffbd_E 1 Q K (sT 133 [(0,.hs 1 0 [] 1 0 ((u).map I).length),(1,I (x4.1)),(2,I (x4.2.1)),(7,I (u10)),(8,I (x4.2.2.2.1))] [⟨0,1,(u).map I⟩] 2))→Run Ffbd_E 1 Q (.code Ffbd_kd :: .lp Ffbd_kd :: .blk 4 :: K) (sT 133 [(0,.hs 1 0 [] 1 0 ((x42.2).map I).length),(1,I (x4.1)),(2,I (x4.2.1)),(7,I (u10)),(8,I (x4.2.2.2.1)),(9,I (x42.1))] [⟨0,1,(x42.2).map I⟩] 2):=by
 refine fix_indP (Ffbd_ld_fin data_15 a_16 b_17 x4 u10) ?_
 intro self ih x42 y h hr hn
 unfold Ffbd_ld_F at h
 refine cq 6 [65] [B ((decide (x42.1 ≥ 1)))] 34 ?_
 refine sq h (fun h=>?_) (fun h=>?_)
 · refine aq 1 ?_
   refine aq 4 ?_
   refine s_draw [0,0,3,7,0,0,32,112,240,511,1023] rfl (by decide +kernel) ?_
   refine dk 2 [69,68] [I (x42.1),.hs 1 0 [] 1 0 ((x42.2).map I).length] ?_
   obtain ⟨e43,he43,h⟩:=bS h
   refine dq [1] [] (.hp 1 0 [] 1 (0 + Int.toNat (x42.1)) 0) rfl (e_indexAddr rfl rfl rfl (ix_hsM (f:=I) (xs:=x42.2) rfl rfl rfl he43)) ?_
   refine dq [1] [] (I (e43)) rfl (e_ld rfl (ld_at (path:=[]) rfl rfl rfl (ra_n) (get_map (f:=I) (xs:=x42.2) he43) rfl rfl rfl)) ?_
   refine dk 3 [74,73,72] [I ((w64 (x42.1 - 1))),I (x42.1),.hs 1 0 [] 1 0 ((x42.2).map I).length] ?_
   obtain ⟨e44,he44,h⟩:=bS h
   refine dq [1] [] (.hp 1 0 [] 1 (0 + Int.toNat ((w64 (x42.1 - 1)))) 0) rfl (e_indexAddr rfl rfl rfl (ix_hsM (f:=I) (xs:=x42.2) rfl rfl rfl he44)) ?_
   refine dq [1] [] (I (e44)) rfl (e_ld rfl (ld_at (path:=[]) rfl rfl rfl (ra_n) (get_map (f:=I) (xs:=x42.2) he44) rfl rfl rfl)) ?_
   obtain ⟨r45,hr45,h⟩:=bS h
   refine dq [] [] (B (r45)) rfl (e_callV rfl rfl (call_P rfl rfl rfl (avS (shP rfl) (avS (shP rfl) (avN))) (Ffa_F hr45) (.inr rfl) (bl_n) rfl rfl rfl)) ?_ (w_callO rfl rfl rfl rfl (avS (shP rfl) (avS (shP rfl) (avN))) (Ffa_F hr45) (.inr rfl) rfl)
   refine dk 1 [78] [B ((!r45))] ?_
   refine de 210 rfl rfl ?_
   refine sq h (fun h=>?_) (fun h=>?_)
   · refine aq 1 ?_
     exact rf [0,1,2,7,8] [1] (hn _ (Option.some.inj h).symm :) (hk:=hK)
   · refine aq 1 ?_
     refine s_draw [0,0,0,0,8,0,0,64,224,480,0,0,3072,7168,16355,32739,65535,131071] rfl (by decide +kernel) ?_
     refine dk 8 [86,85,84,83,82,81,80,79] [I ((w64 (x42.1 - 1))),I (x42.1),.hs 1 0 [] 1 0 ((x42.2).map I).length,I ((w64 (x42.1 - 1))),I (x42.1),.hs 1 0 [] 1 0 ((x42.2).map I).length,I (x42.1),.hs 1 0 [] 1 0 ((x42.2).map I).length] ?_
     obtain ⟨e46,he46,h⟩:=bS h
     refine dq [1] [] (.hp 1 0 [] 1 (0 + Int.toNat ((w64 (x42.1 - 1)))) 0) rfl (e_indexAddr rfl rfl rfl (ix_hsM (f:=I) (xs:=x42.2) rfl rfl rfl he46)) ?_
     refine dq [1] [] (I (e46)) rfl (e_ld rfl (ld_at (path:=[]) rfl rfl rfl (ra_n) (get_map (f:=I) (xs:=x42.2) he46) rfl rfl rfl)) ?_
     refine dk 2 [90,89] [I (x42.1),.hs 1 0 [] 1 0 ((x42.2).map I).length] ?_
     obtain ⟨e47,he47,h⟩:=bS h
     refine dq [1] [] (.hp 1 0 [] 1 (0 + Int.toNat (x42.1)) 0) rfl (e_indexAddr rfl rfl rfl (ix_hsM (f:=I) (xs:=x42.2) rfl rfl rfl he47)) ?_
     refine dq [1] [] (I (e47)) rfl (e_ld rfl (ld_at (path:=[]) rfl rfl rfl (ra_n) (get_map (f:=I) (xs:=x42.2) he47) rfl rfl rfl)) ?_
     obtain ⟨e48,he48,h⟩:=bS h
     refine dq [1] [] (.hp 1 0 [] 1 (0 + Int.toNat (x42.1)) 0) rfl (e_indexAddr rfl rfl rfl (ix_hsM (f:=I) (xs:=x42.2) rfl rfl rfl he48)) ?_
     refine dz [1] [1] rfl (e_st rfl rfl (st_at (path:=[]) (pl:=true) (e':=I (e46)) (es2':=((setI x42.2 x42.1 e46)).map I) rfl (absorb_plain rfl) rfl rfl rfl (ra_n) (get_map (f:=I) (xs:=x42.2) he48) rfl rfl rfl (set_map (f:=I) (xs:=x42.2) (y:=e46)) (sr_n) 0 rfl)) ?_
     try rw [← len_setM (f:=I) (xs:=x42.2) (i:=x42.1) (z:=e46)]
     obtain ⟨e53,he53,h⟩:=bS h
     refine dq [1] [] (.hp 1 0 [] 1 (0 + Int.toNat ((w64 (x42.1 - 1)))) 0) rfl (e_indexAddr rfl rfl rfl (ix_hsM (f:=I) (xs:=(setI x42.2 x42.1 e46)) rfl rfl rfl he53)) ?_
     refine dz [1] [1] rfl (e_st rfl rfl (st_at (path:=[]) (pl:=true) (e':=I (e47)) (es2':=((setI (setI x42.2 x42.1 e46) (w64 (x42.1 - 1)) e47)).map I) rfl (absorb_plain rfl) rfl rfl rfl (ra_n) (get_map (f:=I) (xs:=(setI x42.2 x42.1 e46)) he53) rfl rfl rfl (set_map (f:=I) (xs:=(setI x42.2 x42.1 e46)) (y:=e47)) (sr_n) 0 rfl)) ?_
     try rw [← len_setM (f:=I) (xs:=(setI x42.2 x42.1 e46)) (i:=(w64 (x42.1 - 1))) (z:=e47)]
     refine de 498 rfl rfl ?_
     refine cq 6 [9] [I ((w64 (x42.1 - 1)))] 546 ?_
     refine s_lp ?_
     exact rf [0,1,2,7,8,9] [1] (ih _ _ h hr hn :)
 · refine aq 1 ?_
   exact rf [0,1,2,7,8] [1] (hn _ (Option.some.inj h).symm :) (hk:=hK)
theorem Ffbd_la_run (data_15 : List Int) (a_16 : Int) (b_17 : Int)  {Q : St→Prop} {K : List It} (hK : noD K=true) : ∀ (x4 : Int × Int × Int × Int × (List Int)) (y : (Bool × (List Int)) ⊕ ((List Int))),Ffbd_la data_15 a_16 b_17 x4=some y→(∀ r',y=.inl r'→∀ st,Ffbd_Q (data_15,a_16,b_17) r' st→Q st)→(∀ u : (List Int),y=.inr u→Run Ffbd_E 1 Q K (sT 133 [] [⟨0,1,(u).map I⟩] 2))→Run Ffbd_E 1 Q (.code Ffbd_ka :: .lp Ffbd_ka :: .blk 0 :: K) (sT 133 [(0,.hs 1 0 [] 1 0 ((x4.2.2.2.2).map I).length),(1,I (x4.1)),(2,I (x4.2.1)),(7,I (x4.2.2.1)),(8,I (x4.2.2.2.1))] [⟨0,1,(x4.2.2.2.2).map I⟩] 2):=by
 refine fix_indP (Ffbd_la_fin data_15 a_16 b_17) ?_
 intro self ih x4 y h hr hn
 unfold Ffbd_la_F at h
 refine cq 6 [14] [B ((decide (x4.2.2.2.1 < 5)))] 34 ?_
 refine sq h (fun h=>?_) (fun h=>?_)
 · refine aq 1 ?_
   refine aq 4 ?_
   obtain ⟨y10,hy10,hy101,hy102⟩:=bL h
   refine s_loop rfl ?_
   refine rf [0,1,2,7,8] [1] (Ffbd_lb_run data_15 a_16 b_17 x4 rfl x4.2.2.1 _ hy10 (fun r' e st hq=>hr r' (hy101 r' e) st hq) fun u10 hu=>?_)
   replace h:=hy102 u10 hu
   refine cq 7 [37] [B ((u10 == x4.2.1))] 50 ?_
   refine sq h (fun h=>?_) (fun h=>?_)
   · refine cq 4 [6] [B (true)] 66 ?_
     obtain ⟨g11,h⟩:=gG h
     exact s_ret rfl (hr _ (Option.some.inj h).symm _ ⟨_,fin (vs:=[B (true)]) rfl (absE (absorb_plain rfl) (absEN)) rfl (ou_1 rfl (oc_hsG (f:=I) (xs:=x4.2.2.2.2) (by simpa using g11) rfl) (ou_f (ou_f (ou_n)))),kl_c (kl_n)⟩)
   · refine aq 1 ?_
     refine cq 8 [41] [B ((decide ((w64 (x4.2.1 - x4.1)) < 50)))] 114 ?_
     refine sq h (fun h=>?_) (fun h=>?_)
     · refine cq 4 [6] [B (false)] 130 ?_
       obtain ⟨g12,h⟩:=gG h
       exact s_ret rfl (hr _ (Option.some.inj h).symm _ ⟨_,fin (vs:=[B (false)]) rfl (absE (absorb_plain rfl) (absEN)) rfl (ou_1 rfl (oc_hsG (f:=I) (xs:=x4.2.2.2.2) (by simpa using g12) rfl) (ou_f (ou_f (ou_n)))),kl_c (kl_n)⟩)
     · refine aq 1 ?_
       refine aq 1 ?_
       refine s_draw [0,0,0,0,8,0,0,64,224,480,0,0,3072,7168,16355,32739,65535,131071] rfl (by decide +kernel) ?_
       refine dk 8 [49,48,47,46,45,44,43,42] [I ((w64 (u10 - 1))),I (u10),.hs 1 0 [] 1 0 ((x4.2.2.2.2).map I).length,I ((w64 (u10 - 1))),I (u10),.hs 1 0 [] 1 0 ((x4.2.2.2.2).map I).length,I (u10),.hs 1 0 [] 1 0 ((x4.2.2.2.2).map I).length] ?_
       obtain ⟨e13,he13,h⟩:=bS h
       refine dq [1] [] (.hp 1 0 [] 1 (0 + Int.toNat ((w64 (u10 - 1)))) 0) rfl (e_indexAddr rfl rfl rfl (ix_hsM (f:=I) (xs:=x4.2.2.2.2) rfl rfl rfl he13)) ?_
       refine dq [1] [] (I (e13)) rfl (e_ld rfl (ld_at (path:=[]) rfl rfl rfl (ra_n) (get_map (f:=I) (xs:=x4.2.2.2.2) he13) rfl rfl rfl)) ?_
       refine dk 2 [53,52] [I (u10),.hs 1 0 [] 1 0 ((x4.2.2.2.2).map I).length] ?_
       obtain ⟨e14,he14,h⟩:=bS h
       refine dq [1] [] (.hp 1 0 [] 1 (0 + Int.toNat (u10)) 0) rfl (e_indexAddr rfl rfl rfl (ix_hsM (f:=I) (xs:=x4.2.2.2.2) rfl rfl rfl he14)) ?_
       refine dq [1] [] (I (e14)) rfl (e_ld rfl (ld_at (path:=[]) rfl rfl rfl (ra_n) (get_map (f:=I) (xs:=x4.2.2.2.2) he14) rfl rfl rfl)) ?_
       obtain ⟨e15,he15,h⟩:=bS h
       refine dq [1] [] (.hp 1 0 [] 1 (0 + Int.toNat (u10)) 0) rfl (e_indexAddr rfl rfl rfl (ix_hsM (f:=I) (xs:=x4.2.2.2.2) rfl rfl rfl he15)) ?_
       refine dz [1] [1] rfl (e_st rfl rfl (st_at (path:=[]) (pl:=true) (e':=I (e13)) (es2':=((setI x4.2.2.2.2 u10 e13)).map I) rfl (absorb_plain rfl) rfl rfl rfl (ra_n) (get_map (f:=I) (xs:=x4.2.2.2.2) he15) rfl rfl rfl (set_map (f:=I) (xs:=x4.2.2.2.2) (y:=e13)) (sr_n) 0 rfl)) ?_
       try rw [← len_setM (f:=I) (xs:=x4.2.2.2.2) (i:=u10) (z:=e13)]
       obtain ⟨e18,he18,h⟩:=bS h
       refine dq [1] [] (.hp 1 0 [] 1 (0 + Int.toNat ((w64 (u10 - 1)))) 0) rfl (e_indexAddr rfl rfl rfl (ix_hsM (f:=I) (xs:=(setI x4.2.2.2.2 u10 e13)) rfl rfl rfl he18)) ?_
       refine dz [1] [1] rfl (e_st rfl rfl (st_at (path:=[]) (pl:=true) (e':=I (e14)) (es2':=((setI (setI x4.2.2.2.2 u10 e13) (w64 (u10 - 1)) e14)).map I) rfl (absorb_plain rfl) rfl rfl rfl (ra_n) (get_map (f:=I) (xs:=(setI x4.2.2.2.2 u10 e13)) he18) rfl rfl rfl (set_map (f:=I) (xs:=(setI x4.2.2.2.2 u10 e13)) (y:=e14)) (sr_n) 0 rfl)) ?_
       try rw [← len_setM (f:=I) (xs:=(setI x4.2.2.2.2 u10 e13)) (i:=(w64 (u10 - 1))) (z:=e14)]
       refine de 402 rfl rfl ?_
       refine cq 8 [61] [B ((decide ((w64 (u10 - x4.1)) ≥ 2)))] 466 ?_
       obtain ⟨y22,hy22,hy221,hy222⟩:=bL h
       have j22 : ∀ u22,y22=.inr u22→Run Ffbd_E 1 Q (.code (cR (cR (cR (cR (cR (cL (cL (cR Ffbd_ka)))))))) :: .blk 1 :: .code (cR (cR Ffbd_ka)) :: .lp Ffbd_ka :: .blk 0 :: K) (sT 133 [(0,.hs 1 0 [] 1 0 ((u22).map I).length),(1,I (x4.1)),(2,I (x4.2.1)),(7,I (u10)),(8,I (x4.2.2.2.1))] [⟨0,1,(u22).map I⟩] 2):=by
         intro u22 hu
         replace h:=hy222 u22 hu
         refine cq 7 [98] [B ((decide ((w64 (x4.2.1 - u10)) ≥ 2)))] 66 ?_
         obtain ⟨y23,hy23,hy231,hy232⟩:=bL h
         have j23 : ∀ u23,y23=.inr u23→Run Ffbd_E 1 Q (.blk 1 :: .code (cR (cR Ffbd_ka)) :: .lp Ffbd_ka :: .blk 0 :: K) (sT 133 [(0,.hs 1 0 [] 1 0 ((u23).map I).length),(1,I (x4.1)),(2,I (x4.2.1)),(7,I (u10)),(8,I (x4.2.2.2.1))] [⟨0,1,(u23).map I⟩] 2):=by
           intro u23 hu
           replace h:=hy232 u23 hu
           refine cq 6 [8] [I ((w64 (x4.2.2.2.1 + 1)))] 50 ?_
           refine s_lp ?_
           exact rf [0,1,2,7,8] [1] (ih _ _ h hr hn :)
         have r23 : ∀ r',y23=.inl r'→∀ st,Ffbd_Q (data_15,a_16,b_17) r' st→Q st:=fun r' e st hq=>hr r' (hy231 r' e) st hq
         replace h:=hy23
         refine sq h (fun h=>?_) (fun h=>?_)
         · refine cq 7 [10] [I ((w64 (u10 + 1)))] 114 ?_
           obtain ⟨y41,hy41,hy411,hy412⟩:=bL h
           refine s_loop rfl ?_
           refine rf [0,1,2,7,8,10] [1] (Ffbd_lc_run data_15 a_16 b_17 x4 u10 rfl ((w64 (u10 + 1)),u22) _ hy41 (fun r' e st hq=>r23 r' (hy411 r' e) st hq) fun u41 hu=>?_)
           replace h:=hy412 u41 hu
           exact rf [0,1,2,7,8] [1] (j23 _ (Option.some.inj h).symm :)
         · refine aq 1 ?_
           exact rf [0,1,2,7,8] [1] (j23 _ (Option.some.inj h).symm :)
       have r22 : ∀ r',y22=.inl r'→∀ st,Ffbd_Q (data_15,a_16,b_17) r' st→Q st:=fun r' e st hq=>hr r' (hy221 r' e) st hq
       replace h:=hy22
       refine sq h (fun h=>?_) (fun h=>?_)
       · refine cq 7 [9] [I ((w64 (u10 - 1)))] 514 ?_
         obtain ⟨y59,hy59,hy591,hy592⟩:=bL h
         refine s_loop rfl ?_
         refine rf [0,1,2,7,8,9] [1] (Ffbd_ld_run data_15 a_16 b_17 x4 u10 rfl ((w64 (u10 - 1)),(setI (setI x4.2.2.2.2 u10 e13) (w64 (u10 - 1)) e14)) _ hy59 (fun r' e st hq=>r22 r' (hy591 r' e) st hq) fun u59 hu=>?_)
         replace h:=hy592 u59 hu
         exact rf [0,1,2,7,8] [1] (j22 _ (Option.some.inj h).symm :)
       · refine aq 1 ?_
         exact rf [0,1,2,7,8] [1] (j22 _ (Option.some.inj h).symm :)
 · refine aq 1 ?_
   exact rf [] [1] (hn _ (Option.some.inj h).symm :) (hk:=hK)
theorem Ffbd_run (data_15 : List Int) (a_16 : Int) (b_17 : Int) (r : Bool × (List Int)) (h : Ffbd data_15 a_16 b_17=some r) : RunF Ffbd_E Try.f89 [true,false,false] 1 (Ffbd_A (data_15,a_16,b_17)) (Ffbd_R r):=by
 show Run _ _ (Ffbd_Q (data_15,a_16,b_17) r) [.code Ffbd_c] _
 refine rin (n:=133) [(0,.hs 1 0 [] 1 0 ((data_15).map I).length),(1,I (a_16)),(2,I (b_17))] [(1,some ⟨0,1,(data_15).map I⟩)] 2 (by kernel_rfl) (by kernel_rfl) (by kernel_rfl) rfl ?_
 unfold Ffbd at h
 refine cq 16 [7,8] [I ((w64 (a_16 + 1))),I (0)] 82 ?_
 obtain ⟨y60,hy60,hy601,hy602⟩:=bJ h
 refine s_loop rfl ?_
 refine rf [0,1,2,7,8] [1] (Ffbd_la_run data_15 a_16 b_17 rfl (a_16,b_17,(w64 (a_16 + 1)),0,data_15) _ hy60 (fun r' e st hq=>by rw [hy601 r' e] at hq; exact hq) fun u60 hu=>?_)
 replace h:=hy602 u60 hu
 refine cq 4 [6] [B (false)] 18 ?_
 obtain ⟨g61,h⟩:=gG h
 obtain rfl:=Option.some.inj h
 exact s_ret rfl ⟨_,fin (vs:=[B (false)]) rfl (absE (absorb_plain rfl) (absEN)) rfl (ou_1 rfl (oc_hsG (f:=I) (xs:=u60) (by simpa using g61) rfl) (ou_f (ou_f (ou_n)))),kl_c (kl_n)⟩
theorem Ffbd_good {G : Go.Ln.Ground} : Good Try.prog G 89 Ffbd_ent:=good_T (fnOf_good (gl_c Ffa_good (gl_n))) agree_mk (Checked.mixed Try.checked) Try.func89 (n:=3) (m:=1) ⟨rfl,rfl,by decide⟩ (fun _=>⟨rfl,rfl⟩) (fun a r h=>Ffbd_run a.1 a.2.1 a.2.2 r h)
def Ffbe_A : ((List Int) × Int × Int × Int)→List V:=cA (usE 1 I) (cA I (cA I (oA I)))
def Ffbe_R (r : Int × (List Int)) : V × List V:=(I (r.1),[.usl 1 ((r.2).map I)])
noncomputable def Ffbe_ent : Ent:=entT [true,false,false,false] Ffbe_A Ffbe_R fun x=>Ffbe x.1 x.2.1 x.2.2.1 x.2.2.2
theorem Ffbe_F {data_8 : List Int} {a_9 : Int} {b_10 : Int} {pivot_11 : Int} {r} (h : Ffbe data_8 a_9 b_10 pivot_11=some r) : (Ffbe_ent).F (Ffbe_A (data_8,a_9,b_10,pivot_11))=some (Ffbe_R r):=entT_F (cA_inj (usl_inj I_inj) (cA_inj I_inj (cA_inj I_inj (oA_inj I_inj)))) h
noncomputable def Ffbe_c : Code:=bodyOf Try.f91
noncomputable abbrev Ffbe_ka : Code:=cL (cL (cL (cL (cL (cL (cL (cR (cR (cR Ffbe_c)))))))))
noncomputable abbrev Ffbe_kb : Code:=cL (cL (cL (cR (cL (cL (cL (cL (cR (cR (cR Ffbe_c))))))))))
noncomputable def Ffbe_E : Env:=mkE Try.prog [(90,Ffa_ent)]
def Ffbe_Q (x : (List Int) × Int × Int × Int) (r : Int × (List Int)) : St→Prop:=QF Ffbe_E Try.f91 [true,false,false,false] (Ffbe_A x) (Ffbe_R r)
theorem Ffbe_lb_run (data_8 : List Int) (a_9 : Int) (b_10 : Int) (pivot_11 : Int) (x14 : Int × Int × (List Int)) {Q : St→Prop} {K : List It} (hK : noD K=true) : ∀ (x15 : Int) (y : (Int × (List Int)) ⊕ Int),Ffbe_lb data_8 a_9 b_10 pivot_11 x14 x15=some y→(∀ r',y=.inl r'→∀ st,Ffbe_Q (data_8,a_9,b_10,pivot_11) r' st→Q st)→(∀ u : Int,y=.inr u→Run Ffbe_E 1 Q K (sT 84 [(0,.hs 1 0 [] 1 0 ((x14.2.2).map I).length),(1,I (a_9)),(9,I (u)),(10,I (x14.2.1))] [⟨0,1,(x14.2.2).map I⟩] 2))→Run Ffbe_E 1 Q (.code Ffbe_ka :: .lp Ffbe_ka :: .blk 2 :: K) (sT 84 [(0,.hs 1 0 [] 1 0 ((x14.2.2).map I).length),(1,I (a_9)),(9,I (x15)),(10,I (x14.2.1))] [⟨0,1,(x14.2.2).map I⟩] 2):=by
 refine fix_indP (Ffbe_lb_fin data_8 a_9 b_10 pivot_11 x14) ?_
 intro self ih x15 y h hr hn
 unfold Ffbe_lb_F at h
 refine aq 2 ?_
 refine s_draw [0,0,3,7,15,15,63,127,15,15,783,1807,4095,8191,16383] rfl (by decide +kernel) ?_
 refine dk 4 [32,31,30,29] [B ((decide (x15 ≤ x14.2.1))),B ((decide (x15 ≤ x14.2.1))),I (x14.2.1),I (x15)] ?_
 obtain ⟨y16,hy16,hy161,hy162⟩:=bL h
 have j16 : ∀ u16,y16=.inr u16→Run Ffbe_E 1 Q (.code (cR (cL Ffbe_ka)) :: .code (cR Ffbe_ka) :: .lp Ffbe_ka :: .blk 2 :: K) (sT 84 [(0,.hs 1 0 [] 1 0 ((x14.2.2).map I).length),(1,I (a_9)),(9,I (x15)),(10,I (x14.2.1)),(43,B (u16))] [⟨0,1,(x14.2.2).map I⟩] 2):=by
   intro u16 hu
   replace h:=hy162 u16 hu
   refine sq h (fun h=>?_) (fun h=>?_)
   · refine aq 1 ?_
     refine cq 7 [9] [I ((w64 (x15 + 1)))] 50 ?_
     refine s_lp ?_
     exact rf [0,1,9,10] [1] (ih _ _ h hr hn :)
   · refine aq 1 ?_
     exact rf [0,1,9,10] [1] (hn _ (Option.some.inj h).symm :) (hk:=hK)
 have r16 : ∀ r',y16=.inl r'→∀ st,Ffbe_Q (data_8,a_9,b_10,pivot_11) r' st→Q st:=fun r' e st hq=>hr r' (hy161 r' e) st hq
 replace h:=hy16
 refine sp 32 h rfl (fun h=>?_) (fun h=>?_)
 · refine dk 2 [34,33] [I (a_9),.hs 1 0 [] 1 0 ((x14.2.2).map I).length] ?_
   obtain ⟨e17,he17,h⟩:=bS h
   refine dy [1] [] (.hp 1 0 [] 1 (0 + Int.toNat (a_9)) 0) rfl (e_indexAddr rfl rfl rfl (ix_hsM (f:=I) (xs:=x14.2.2) rfl rfl rfl he17)) ?_
   refine dy [1] [] (I (e17)) rfl (e_ld rfl (ld_at (path:=[]) rfl rfl rfl (ra_n) (get_map (f:=I) (xs:=x14.2.2) he17) rfl rfl rfl)) ?_
   refine dk 2 [38,37] [I (x15),.hs 1 0 [] 1 0 ((x14.2.2).map I).length] ?_
   obtain ⟨e18,he18,h⟩:=bS h
   refine dy [1] [] (.hp 1 0 [] 1 (0 + Int.toNat (x15)) 0) rfl (e_indexAddr rfl rfl rfl (ix_hsM (f:=I) (xs:=x14.2.2) rfl rfl rfl he18)) ?_
   refine dy [1] [] (I (e18)) rfl (e_ld rfl (ld_at (path:=[]) rfl rfl rfl (ra_n) (get_map (f:=I) (xs:=x14.2.2) he18) rfl rfl rfl)) ?_
   obtain ⟨r19,hr19,h⟩:=bS h
   refine dy [] [] (B (r19)) rfl (e_callV rfl rfl (call_P rfl rfl rfl (avS (shP rfl) (avS (shP rfl) (avN))) (Ffa_F hr19) (.inr rfl) (bl_n) rfl rfl rfl)) ?_ (w_callO rfl rfl rfl rfl (avS (shP rfl) (avS (shP rfl) (avN))) (Ffa_F hr19) (.inr rfl) rfl)
   refine dk 2 [43,42] [B ((!r19)),B ((!r19))] ?_
   refine de 242 rfl rfl ?_
   exact rf [0,1,9,10,43] [1] (j16 _ (Option.some.inj h).symm :)
 · refine dk 11 [43,42,41,40,39,38,37,36,35,34,33] [B (false),.und,.und,.und,.und,.und,.und,.und,.und,.und,.und] ?_
   refine de 242 rfl rfl ?_
   exact rf [0,1,9,10,43] [1] (j16 _ (Option.some.inj h).symm :)
theorem Ffbe_lc_run (data_8 : List Int) (a_9 : Int) (b_10 : Int) (pivot_11 : Int) (u20 : Int) (x14 : Int × Int × (List Int)) {Q : St→Prop} {K : List It} (hK : noD K=true) : ∀ (x21 : Int) (y : (Int × (List Int)) ⊕ Int),Ffbe_lc data_8 a_9 b_10 pivot_11 u20 x14 x21=some y→(∀ r',y=.inl r'→∀ st,Ffbe_Q (data_8,a_9,b_10,pivot_11) r' st→Q st)→(∀ u : Int,y=.inr u→Run Ffbe_E 1 Q K (sT 84 [(0,.hs 1 0 [] 1 0 ((x14.2.2).map I).length),(1,I (a_9)),(9,I (u20)),(10,I (u))] [⟨0,1,(x14.2.2).map I⟩] 2))→Run Ffbe_E 1 Q (.code Ffbe_kb :: .lp Ffbe_kb :: .blk 4 :: K) (sT 84 [(0,.hs 1 0 [] 1 0 ((x14.2.2).map I).length),(1,I (a_9)),(9,I (u20)),(10,I (x21))] [⟨0,1,(x14.2.2).map I⟩] 2):=by
 refine fix_indP (Ffbe_lc_fin data_8 a_9 b_10 pivot_11 u20 x14) ?_
 intro self ih x21 y h hr hn
 unfold Ffbe_lc_F at h
 refine aq 2 ?_
 refine s_draw [0,0,3,7,15,15,63,127,15,15,783,1807,4095,8191] rfl (by decide +kernel) ?_
 refine dk 4 [49,48,47,46] [B ((decide (u20 ≤ x21))),B ((decide (u20 ≤ x21))),I (x21),I (u20)] ?_
 obtain ⟨y22,hy22,hy221,hy222⟩:=bL h
 have j22 : ∀ u22,y22=.inr u22→Run Ffbe_E 1 Q (.code (cR (cL Ffbe_kb)) :: .code (cR Ffbe_kb) :: .lp Ffbe_kb :: .blk 4 :: K) (sT 84 [(0,.hs 1 0 [] 1 0 ((x14.2.2).map I).length),(1,I (a_9)),(9,I (u20)),(10,I (x21)),(59,B (u22))] [⟨0,1,(x14.2.2).map I⟩] 2):=by
   intro u22 hu
   replace h:=hy222 u22 hu
   refine sq h (fun h=>?_) (fun h=>?_)
   · refine aq 1 ?_
     refine cq 7 [10] [I ((w64 (x21 - 1)))] 50 ?_
     refine s_lp ?_
     exact rf [0,1,9,10] [1] (ih _ _ h hr hn :)
   · refine aq 1 ?_
     exact rf [0,1,9,10] [1] (hn _ (Option.some.inj h).symm :) (hk:=hK)
 have r22 : ∀ r',y22=.inl r'→∀ st,Ffbe_Q (data_8,a_9,b_10,pivot_11) r' st→Q st:=fun r' e st hq=>hr r' (hy221 r' e) st hq
 replace h:=hy22
 refine sp 49 h rfl (fun h=>?_) (fun h=>?_)
 · refine dk 2 [51,50] [I (a_9),.hs 1 0 [] 1 0 ((x14.2.2).map I).length] ?_
   obtain ⟨e23,he23,h⟩:=bS h
   refine dy [1] [] (.hp 1 0 [] 1 (0 + Int.toNat (a_9)) 0) rfl (e_indexAddr rfl rfl rfl (ix_hsM (f:=I) (xs:=x14.2.2) rfl rfl rfl he23)) ?_
   refine dy [1] [] (I (e23)) rfl (e_ld rfl (ld_at (path:=[]) rfl rfl rfl (ra_n) (get_map (f:=I) (xs:=x14.2.2) he23) rfl rfl rfl)) ?_
   refine dk 2 [55,54] [I (x21),.hs 1 0 [] 1 0 ((x14.2.2).map I).length] ?_
   obtain ⟨e24,he24,h⟩:=bS h
   refine dy [1] [] (.hp 1 0 [] 1 (0 + Int.toNat (x21)) 0) rfl (e_indexAddr rfl rfl rfl (ix_hsM (f:=I) (xs:=x14.2.2) rfl rfl rfl he24)) ?_
   refine dy [1] [] (I (e24)) rfl (e_ld rfl (ld_at (path:=[]) rfl rfl rfl (ra_n) (get_map (f:=I) (xs:=x14.2.2) he24) rfl rfl rfl)) ?_
   obtain ⟨r25,hr25,h⟩:=bS h
   refine dy [] [] (B (r25)) rfl (e_callV rfl rfl (call_P rfl rfl rfl (avS (shP rfl) (avS (shP rfl) (avN))) (Ffa_F hr25) (.inr rfl) (bl_n) rfl rfl rfl)) ?_ (w_callO rfl rfl rfl rfl (avS (shP rfl) (avS (shP rfl) (avN))) (Ffa_F hr25) (.inr rfl) rfl)
   refine dk 1 [59] [B (r25)] ?_
   refine de 226 rfl rfl ?_
   exact rf [0,1,9,10,59] [1] (j22 _ (Option.some.inj h).symm :)
 · refine dk 10 [59,58,57,56,55,54,53,52,51,50] [B (false),.und,.und,.und,.und,.und,.und,.und,.und,.und] ?_
   refine de 226 rfl rfl ?_
   exact rf [0,1,9,10,59] [1] (j22 _ (Option.some.inj h).symm :)
theorem Ffbe_la_run (data_8 : List Int) (a_9 : Int) (b_10 : Int) (pivot_11 : Int)  {Q : St→Prop} {K : List It} (hK : noD K=true) : ∀ (x14 : Int × Int × (List Int)) (y : (Int × (List Int)) ⊕ (Int × (List Int))),Ffbe_la data_8 a_9 b_10 pivot_11 x14=some y→(∀ r',y=.inl r'→∀ st,Ffbe_Q (data_8,a_9,b_10,pivot_11) r' st→Q st)→(∀ u : Int × (List Int),y=.inr u→Run Ffbe_E 1 Q K (sT 84 [(9,I (u.1))] [⟨0,1,(u.2).map I⟩] 2))→Run Ffbe_E 1 Q (.code (cL (cL (cL (cR (cR (cR Ffbe_c)))))) :: .lp (cL (cL (cL (cR (cR (cR Ffbe_c)))))) :: .blk 0 :: K) (sT 84 [(0,.hs 1 0 [] 1 0 ((x14.2.2).map I).length),(1,I (a_9)),(9,I (x14.1)),(10,I (x14.2.1))] [⟨0,1,(x14.2.2).map I⟩] 2):=by
 refine fix_indP (Ffbe_la_fin data_8 a_9 b_10 pivot_11) ?_
 intro self ih x14 y h hr hn
 unfold Ffbe_la_F at h
 refine aq 3 ?_
 obtain ⟨y20,hy20,hy201,hy202⟩:=bL h
 refine s_loop rfl ?_
 refine rf [0,1,9,10] [1] (Ffbe_lb_run data_8 a_9 b_10 pivot_11 x14 rfl x14.1 _ hy20 (fun r' e st hq=>hr r' (hy201 r' e) st hq) fun u20 hu=>?_)
 replace h:=hy202 u20 hu
 refine aq 2 ?_
 obtain ⟨y26,hy26,hy261,hy262⟩:=bL h
 refine s_loop rfl ?_
 refine rf [0,1,9,10] [1] (Ffbe_lc_run data_8 a_9 b_10 pivot_11 u20 x14 rfl x14.2.1 _ hy26 (fun r' e st hq=>hr r' (hy261 r' e) st hq) fun u26 hu=>?_)
 replace h:=hy262 u26 hu
 refine cq 7 [64] [B ((decide (u20 > u26)))] 50 ?_
 refine sq h (fun h=>?_) (fun h=>?_)
 · refine aq 1 ?_
   exact rf [9] [1] (hn _ (Option.some.inj h).symm :) (hk:=hK)
 · refine aq 1 ?_
   refine aq 1 ?_
   refine s_draw [0,0,0,0,0,0,48,112,0,0,768,1792,4083,8179,16383,32767] rfl (by decide +kernel) ?_
   refine dk 6 [70,69,68,67,66,65] [I (u26),.hs 1 0 [] 1 0 ((x14.2.2).map I).length,I (u26),.hs 1 0 [] 1 0 ((x14.2.2).map I).length,I (u20),.hs 1 0 [] 1 0 ((x14.2.2).map I).length] ?_
   obtain ⟨e27,he27,h⟩:=bS h
   refine dq [1] [] (.hp 1 0 [] 1 (0 + Int.toNat (u26)) 0) rfl (e_indexAddr rfl rfl rfl (ix_hsM (f:=I) (xs:=x14.2.2) rfl rfl rfl he27)) ?_
   refine dq [1] [] (I (e27)) rfl (e_ld rfl (ld_at (path:=[]) rfl rfl rfl (ra_n) (get_map (f:=I) (xs:=x14.2.2) he27) rfl rfl rfl)) ?_
   refine dk 2 [74,73] [I (u20),.hs 1 0 [] 1 0 ((x14.2.2).map I).length] ?_
   obtain ⟨e28,he28,h⟩:=bS h
   refine dq [1] [] (.hp 1 0 [] 1 (0 + Int.toNat (u20)) 0) rfl (e_indexAddr rfl rfl rfl (ix_hsM (f:=I) (xs:=x14.2.2) rfl rfl rfl he28)) ?_
   refine dq [1] [] (I (e28)) rfl (e_ld rfl (ld_at (path:=[]) rfl rfl rfl (ra_n) (get_map (f:=I) (xs:=x14.2.2) he28) rfl rfl rfl)) ?_
   obtain ⟨e29,he29,h⟩:=bS h
   refine dq [1] [] (.hp 1 0 [] 1 (0 + Int.toNat (u20)) 0) rfl (e_indexAddr rfl rfl rfl (ix_hsM (f:=I) (xs:=x14.2.2) rfl rfl rfl he29)) ?_
   refine dz [1] [1] rfl (e_st rfl rfl (st_at (path:=[]) (pl:=true) (e':=I (e27)) (es2':=((setI x14.2.2 u20 e27)).map I) rfl (absorb_plain rfl) rfl rfl rfl (ra_n) (get_map (f:=I) (xs:=x14.2.2) he29) rfl rfl rfl (set_map (f:=I) (xs:=x14.2.2) (y:=e27)) (sr_n) 0 rfl)) ?_
   try rw [← len_setM (f:=I) (xs:=x14.2.2) (i:=u20) (z:=e27)]
   obtain ⟨e32,he32,h⟩:=bS h
   refine dq [1] [] (.hp 1 0 [] 1 (0 + Int.toNat (u26)) 0) rfl (e_indexAddr rfl rfl rfl (ix_hsM (f:=I) (xs:=(setI x14.2.2 u20 e27)) rfl rfl rfl he32)) ?_
   refine dz [1] [1] rfl (e_st rfl rfl (st_at (path:=[]) (pl:=true) (e':=I (e28)) (es2':=((setI (setI x14.2.2 u20 e27) u26 e28)).map I) rfl (absorb_plain rfl) rfl rfl rfl (ra_n) (get_map (f:=I) (xs:=(setI x14.2.2 u20 e27)) he32) rfl rfl rfl (set_map (f:=I) (xs:=(setI x14.2.2 u20 e27)) (y:=e28)) (sr_n) 0 rfl)) ?_
   try rw [← len_setM (f:=I) (xs:=(setI x14.2.2 u20 e27)) (i:=u26) (z:=e28)]
   refine de 306 rfl rfl ?_
   refine cq 12 [9,10] [I ((w64 (u20 + 1))),I ((w64 (u26 - 1)))] 402 ?_
   refine s_lp ?_
   exact rf [0,1,9,10] [1] (ih _ _ h hr hn :)
end Go.Ln
