/-
  Each function of the program computes its plain function.
-/
import Derived.Test.YtlgahmmileaohaaFnDayCountsFun
import Derived.Test.YtlgahmmileaohaaChecked
set_option maxHeartbeats 4000000
set_option linter.unusedVariables false
set_option linter.unusedSimpArgs false
set_option maxRecDepth 100000
namespace Go.Ln
open Go Go.Proofs
def laws_vBig_A : ((List Int))→List V:=oA (slE (V.int .u8))
def laws_vBig_R (r : Bool) : V × List V:=(B (r),[])
noncomputable def laws_vBig_ent : Ent:=entT [false] laws_vBig_A laws_vBig_R fun x=>laws_vBig x
theorem laws_vBig_F {code_1 : List Int} {r} (h : laws_vBig code_1=some r) : (laws_vBig_ent).F (laws_vBig_A code_1)=some (laws_vBig_R r):=entT_F (oA_inj (isl_inj (vint_inj (k:=.u8)))) h
noncomputable def laws_vBig_c : Code:=bodyOf Try.f5
noncomputable def laws_vBig_E : Env:=mkE Try.prog []
def laws_vBig_Q (x : (List Int)) (r : Bool) : St→Prop:=QF laws_vBig_E Try.f5 [false] (laws_vBig_A x) (laws_vBig_R r)
theorem laws_vBig_run (code_1 : List Int) (r : Bool) (h : laws_vBig code_1=some r) : RunF laws_vBig_E Try.f5 [false] 0 (laws_vBig_A code_1) (laws_vBig_R r):=by
 show Run _ _ (laws_vBig_Q code_1 r) [.code laws_vBig_c] _
 refine rin (n:=6) [(0,.isl false ((code_1).map (V.int .u8)))] [] 1 (by kernel_rfl) (by kernel_rfl) (by kernel_rfl) rfl ?_
 unfold laws_vBig at h
 refine cq 7 [3] [.isl false ((code_1).map (V.int .u8))] 33 ?_
 refine oq 49 (I ((len code_1))) rfl (e_len rfl rfl rfl (l_isl rfl)) ?_
 refine cq 3 [2] [B ((decide ((len code_1) > 65536)))] 81 ?_
 obtain rfl:=Option.some.inj h
 exact s_ret rfl ⟨_,fin (vs:=[B ((decide ((len code_1) > 65536)))]) rfl (absE (absorb_plain rfl) (absEN)) rfl (ou_f (ou_n)),kl_n⟩
theorem laws_vBig_good {G : Go.Ln.Ground} : Good Try.prog G 5 laws_vBig_ent:=good_T (fnOf_good (gl_n)) agree_mk (Checked.mixed Try.checked) Try.func5 (n:=1) (m:=0) ⟨rfl,rfl,by decide⟩ (fun _=>⟨rfl,rfl⟩) (fun a r h=>laws_vBig_run a r h)
def Ffbk_A : l1Cur→List V:=oA (upE encO_l1Cur)
def Ffbk_R (r : Int × l1Cur) : V × List V:=(I (r.1),[.uptr (encI_l1Cur r.2)])
noncomputable def Ffbk_ent : Ent:=entT [true] Ffbk_A Ffbk_R fun x=>Ffbk x
theorem Ffbk_F {c_3 : l1Cur} {r} (h : Ffbk c_3=some r) : (Ffbk_ent).F (Ffbk_A c_3)=some (Ffbk_R r):=entT_F (oA_inj (uptr_inj encO_l1Cur_inj)) h
noncomputable def Ffbk_c : Code:=bodyOf Try.f65
noncomputable def Ffbk_E : Env:=mkE Try.prog []
def Ffbk_Q (x : l1Cur) (r : Int × l1Cur) : St→Prop:=QF Ffbk_E Try.f65 [true] (Ffbk_A x) (Ffbk_R r)
theorem Ffbk_run (c_3 : l1Cur) (r : Int × l1Cur) (h : Ffbk c_3=some r) : RunF Ffbk_E Try.f65 [true] 1 (Ffbk_A c_3) (Ffbk_R r):=by
 show Run _ _ (Ffbk_Q c_3 r) [.code Ffbk_c] _
 refine rin (n:=62) [(0,.hp 1 0 [] 3 0 0)] [(1,some ⟨0,3,[encI_l1Cur c_3]⟩)] 2 (by kernel_rfl) (by kernel_rfl) (by kernel_rfl) rfl ?_
 unfold Ffbk at h
 refine cq 10 [3] [I (0)] 34 ?_
 refine s_draw [0,1,3,7,0,16,48,112,240,511] rfl (by decide +kernel) ?_
 refine dk 1 [4] [.hp 1 0 [] 3 0 0] ?_
 refine dq [1] [] (.hp 1 0 [] 3 0 0) rfl (e_nilCheck rfl rfl) ?_
 refine dq [1] [] (.hp 1 0 [] 3 0 1) rfl (e_fieldAddr rfl rfl rfl) ?_
 refine dq [1] [] (I (c_3.f_at)) rfl (e_ld rfl rfl) ?_
 refine dk 1 [8] [.hp 1 0 [] 3 0 0] ?_
 refine dq [1] [] (.hp 1 0 [] 3 0 0) rfl (e_nilCheck rfl rfl) ?_
 refine dq [1] [] (.hp 1 0 [] 3 0 0) rfl (e_fieldAddr rfl rfl rfl) ?_
 refine dq [1] [] (.isl false ((c_3.f_code).map (V.int .u8))) rfl (e_ld rfl rfl) ?_
 refine dq [] [] (I ((len c_3.f_code))) rfl (e_len rfl rfl rfl (l_isl rfl)) ?_
 refine dk 1 [13] [B ((decide (c_3.f_at < (len c_3.f_code))))] ?_
 refine de 194 rfl rfl ?_
 obtain ⟨y2,hy2,hy21,hy22⟩:=bJ h
 have j2 : ∀ u2,y2=.inr u2→Run Ffbk_E 1 (Ffbk_Q c_3 r) (.code (cR (cR (cR Ffbk_c))) :: []) (sT 62 [(0,.hp 1 0 [] 3 0 0),(3,I (u2))] [⟨0,3,[encI_l1Cur c_3]⟩] 2):=by
   intro u2 hu
   replace h:=hy22 u2 hu
   refine ck 29 [] [] [1] [] [] [some ⟨0,3,[.agg [.isl false ((c_3.f_code).map (V.int .u8)),I ((w64 (c_3.f_at + 1))),.int .u64 ((IntKind.u64.wrap ((IntKind.u64.wrap ((IntKind.u64.wrap (c_3.f_seed * 6364136223846793005)) + (IntKind.u64.wrap u2))) + 902902)))]]⟩] 338 (by kernel_rfl) ?_
   refine s_draw [0,1,3,7,0,16,48,112,240,511] rfl (by decide +kernel) ?_
   refine dk 1 [44] [.hp 1 0 [] 3 0 0] ?_
   refine dq [1] [] (.hp 1 0 [] 3 0 0) rfl (e_nilCheck rfl rfl) ?_
   refine dq [1] [] (.hp 1 0 [] 3 0 1) rfl (e_fieldAddr rfl rfl rfl) ?_
   refine dq [1] [] (I ((w64 (c_3.f_at + 1)))) rfl (e_ld rfl rfl) ?_
   refine dk 1 [48] [.hp 1 0 [] 3 0 0] ?_
   refine dq [1] [] (.hp 1 0 [] 3 0 0) rfl (e_nilCheck rfl rfl) ?_
   refine dq [1] [] (.hp 1 0 [] 3 0 0) rfl (e_fieldAddr rfl rfl rfl) ?_
   refine dq [1] [] (.isl false ((c_3.f_code).map (V.int .u8))) rfl (e_ld rfl rfl) ?_
   refine dq [] [] (I ((len c_3.f_code))) rfl (e_len rfl rfl rfl (l_isl rfl)) ?_
   refine dk 1 [53] [B ((decide ((w64 (c_3.f_at + 1)) ≤ (len c_3.f_code))))] ?_
   refine de 498 rfl rfl ?_
   refine sq h (fun h=>?_) (fun h=>?_)
   · refine cq 5 [2] [I (u2)] 530 ?_
     obtain rfl:=Option.some.inj h
     exact s_ret rfl ⟨_,fin (vs:=[I (u2)]) rfl (absE (absorb_plain rfl) (absEN)) rfl (ou_1 rfl (oc_hp rfl rfl) (ou_n)),kl_c (kl_n)⟩
   · refine aq 1 ?_
     refine cq 11 [2] [I ((IntKind.i64.wrap (andI .u64 (shrI .u64 (IntKind.u64.wrap ((IntKind.u64.wrap ((IntKind.u64.wrap (c_3.f_seed * 6364136223846793005)) + (IntKind.u64.wrap u2))) + 902902)) 40) 255)))] 626 ?_
     obtain rfl:=Option.some.inj h
     exact s_ret rfl ⟨_,fin (vs:=[I ((IntKind.i64.wrap (andI .u64 (shrI .u64 (IntKind.u64.wrap ((IntKind.u64.wrap ((IntKind.u64.wrap (c_3.f_seed * 6364136223846793005)) + (IntKind.u64.wrap u2))) + 902902)) 40) 255)))]) rfl (absE (absorb_plain rfl) (absEN)) rfl (ou_1 rfl (oc_hp rfl rfl) (ou_n)),kl_c (kl_n)⟩
 have r2 : ∀ r',y2=.inl r'→∀ st,Ffbk_Q c_3 r' st→(Ffbk_Q c_3 r) st:=fun r' e st hq=>by rw [hy21 r' e] at hq; exact hq
 replace h:=hy2
 refine sq h (fun h=>?_) (fun h=>?_)
 · refine s_draw [0,1,3,7,0,16,48,112,255,511,1023,2047] rfl (by decide +kernel) ?_
   refine dk 1 [14] [.hp 1 0 [] 3 0 0] ?_
   refine dq [1] [] (.hp 1 0 [] 3 0 0) rfl (e_nilCheck rfl rfl) ?_
   refine dq [1] [] (.hp 1 0 [] 3 0 0) rfl (e_fieldAddr rfl rfl rfl) ?_
   refine dq [1] [] (.isl false ((c_3.f_code).map (V.int .u8))) rfl (e_ld rfl rfl) ?_
   refine dk 1 [18] [.hp 1 0 [] 3 0 0] ?_
   refine dq [1] [] (.hp 1 0 [] 3 0 0) rfl (e_nilCheck rfl rfl) ?_
   refine dq [1] [] (.hp 1 0 [] 3 0 1) rfl (e_fieldAddr rfl rfl rfl) ?_
   refine dq [1] [] (I (c_3.f_at)) rfl (e_ld rfl rfl) ?_
   obtain ⟨e3,he3,h⟩:=bS h
   refine dq [] [] (.iptr (.int .u8 (e3)) 0) rfl (e_indexAddr rfl rfl rfl (ix_islE rfl rfl rfl rfl he3)) ?_
   refine dq [] [] (.int .u8 (e3)) rfl (e_ld rfl rfl) ?_
   refine dq [] [] (I ((IntKind.i64.wrap e3))) rfl (e_conv rfl rfl) ?_
   refine dk 1 [3] [I ((IntKind.i64.wrap e3))] ?_
   refine de 386 rfl rfl ?_
   exact rf [0,3] [1] (j2 _ (Option.some.inj h).symm :)
 · refine aq 1 ?_
   exact rf [0,3] [1] (j2 _ (Option.some.inj h).symm :)
theorem Ffbk_good {G : Go.Ln.Ground} : Good Try.prog G 65 Ffbk_ent:=good_T (fnOf_good (gl_n)) agree_mk (Checked.mixed Try.checked) Try.func65 (n:=1) (m:=1) ⟨rfl,rfl,by decide⟩ (fun _=>⟨rfl,rfl⟩) (fun a r h=>Ffbk_run a r h)
def Ffbm_A : (l1Cur × Int)→List V:=cA (upE encO_l1Cur) (oA I)
def Ffbm_R (r : Int × l1Cur) : V × List V:=(I (r.1),[.uptr (encI_l1Cur r.2)])
noncomputable def Ffbm_ent : Ent:=entT [true,false] Ffbm_A Ffbm_R fun x=>Ffbm x.1 x.2
theorem Ffbm_F {c_3 : l1Cur} {n_4 : Int} {r} (h : Ffbm c_3 n_4=some r) : (Ffbm_ent).F (Ffbm_A (c_3,n_4))=some (Ffbm_R r):=entT_F (cA_inj (uptr_inj encO_l1Cur_inj) (oA_inj I_inj)) h
noncomputable def Ffbm_c : Code:=bodyOf Try.f48
noncomputable def Ffbm_E : Env:=mkE Try.prog [(65,Ffbk_ent)]
def Ffbm_Q (x : l1Cur × Int) (r : Int × l1Cur) : St→Prop:=QF Ffbm_E Try.f48 [true,false] (Ffbm_A x) (Ffbm_R r)
theorem Ffbm_run (c_3 : l1Cur) (n_4 : Int) (r : Int × l1Cur) (h : Ffbm c_3 n_4=some r) : RunF Ffbm_E Try.f48 [true,false] 1 (Ffbm_A (c_3,n_4)) (Ffbm_R r):=by
 show Run _ _ (Ffbm_Q (c_3,n_4) r) [.code Ffbm_c] _
 refine rin (n:=20) [(0,.hp 1 0 [] 3 0 0),(1,I (n_4))] [(1,some ⟨0,3,[encI_l1Cur c_3]⟩)] 2 (by kernel_rfl) (by kernel_rfl) (by kernel_rfl) rfl ?_
 unfold Ffbm at h
 refine cq 10 [7] [B ((decide (n_4 ≤ 1)))] 50 ?_
 refine sq h (fun h=>?_) (fun h=>?_)
 · refine cq 4 [4] [I (0)] 66 ?_
   obtain rfl:=Option.some.inj h
   exact s_ret rfl ⟨_,fin (vs:=[I (0)]) rfl (absE (absorb_plain rfl) (absEN)) rfl (ou_1 rfl (oc_hp rfl rfl) (ou_f (ou_n))),kl_c (kl_n)⟩
 · refine aq 1 ?_
   refine cq 3 [8] [.hp 1 0 [] 3 0 0] 66 ?_
   obtain ⟨r3,hr3,h⟩:=bS h
   refine oq 82 (I (r3.1)) rfl (e_callV rfl rfl (call_P rfl rfl rfl (avO (hd1 rfl (hd_hp (path:=[]) rfl rfl (ra_n) rfl)) (avN)) (Ffbk_F hr3) (.inr rfl) (bl_c rfl rfl rfl rfl (bl_n)) rfl rfl rfl)) ?_
   refine cq 8 [5,11] [I (r3.1),B ((decide (n_4 > 200)))] 130 ?_
   obtain ⟨y4,hy4,hy41,hy42⟩:=bJ h
   have j4 : ∀ u4,y4=.inr u4→Run Ffbm_E 1 (Ffbm_Q (c_3,n_4) r) (.code (cR (cR (cR (cR Ffbm_c)))) :: []) (sT 20 [(1,I (n_4)),(5,I (u4.1))] [⟨0,3,[.agg [.isl false ((u4.2.1).map (V.int .u8)),I (u4.2.2.1),.int .u64 (u4.2.2.2)]]⟩] 2):=by
     intro u4 hu
     replace h:=hy42 u4 hu
     refine cq 4 [17,18] [I (u4.1),I (n_4)] 34 ?_
     obtain ⟨q5,hq5,h⟩:=bS h
     refine oq 50 (I (q5)) rfl (e_bin rfl rfl (b_rem hq5)) ?_
     refine cq 2 [4] [I (q5)] 66 ?_
     obtain rfl:=Option.some.inj h
     exact s_ret rfl ⟨_,fin (vs:=[I (q5)]) rfl (absE (absorb_plain rfl) (absEN)) rfl (ou_1 rfl (oc_hp rfl rfl) (ou_f (ou_n))),kl_c (kl_n)⟩
   have r4 : ∀ r',y4=.inl r'→∀ st,Ffbm_Q (c_3,n_4) r' st→(Ffbm_Q (c_3,n_4) r) st:=fun r' e st hq=>by rw [hy41 r' e] at hq; exact hq
   replace h:=hy4
   refine sq h (fun h=>?_) (fun h=>?_)
   · refine cq 4 [13,14] [I ((w64 (r3.1 * 256))),.hp 1 0 [] 3 0 0] 178 ?_
     obtain ⟨r6,hr6,h⟩:=bS h
     refine oq 194 (I (r6.1)) rfl (e_callV rfl rfl (call_P rfl rfl rfl (avO (hd1 rfl (hd_hp (path:=[]) rfl rfl (ra_n) rfl)) (avN)) (Ffbk_F hr6) (.inr rfl) (bl_c rfl rfl rfl rfl (bl_n)) rfl rfl rfl)) ?_
     refine cq 3 [5] [I ((w64 ((w64 (r3.1 * 256)) + r6.1)))] 226 ?_
     exact rf [1,5] [1] (j4 _ (Option.some.inj h).symm :)
   · refine aq 1 ?_
     exact rf [1,5] [1] (j4 _ (Option.some.inj h).symm :)
theorem Ffbm_good {G : Go.Ln.Ground} : Good Try.prog G 48 Ffbm_ent:=good_T (fnOf_good (gl_c Ffbk_good (gl_n))) agree_mk (Checked.mixed Try.checked) Try.func48 (n:=2) (m:=1) ⟨rfl,rfl,by decide⟩ (fun _=>⟨rfl,rfl⟩) (fun a r h=>Ffbm_run a.1 a.2 r h)
def Ffbe_A : (l1Cur × (List Int))→List V:=cA (upE encO_l1Cur) (oA (slE I))
def Ffbe_R (r : Int × l1Cur) : V × List V:=(I (r.1),[.uptr (encI_l1Cur r.2)])
noncomputable def Ffbe_ent : Ent:=entT [true,false] Ffbe_A Ffbe_R fun x=>Ffbe x.1 x.2
theorem Ffbe_F {c_3 : l1Cur} {list_4 : List Int} {r} (h : Ffbe c_3 list_4=some r) : (Ffbe_ent).F (Ffbe_A (c_3,list_4))=some (Ffbe_R r):=entT_F (cA_inj (uptr_inj encO_l1Cur_inj) (oA_inj (isl_inj I_inj))) h
noncomputable def Ffbe_c : Code:=bodyOf Try.f23
noncomputable def Ffbe_E : Env:=mkE Try.prog [(48,Ffbm_ent)]
def Ffbe_Q (x : l1Cur × (List Int)) (r : Int × l1Cur) : St→Prop:=QF Ffbe_E Try.f23 [true,false] (Ffbe_A x) (Ffbe_R r)
theorem Ffbe_run (c_3 : l1Cur) (list_4 : List Int) (r : Int × l1Cur) (h : Ffbe c_3 list_4=some r) : RunF Ffbe_E Try.f23 [true,false] 1 (Ffbe_A (c_3,list_4)) (Ffbe_R r):=by
 show Run _ _ (Ffbe_Q (c_3,list_4) r) [.code Ffbe_c] _
 refine rin (n:=12) [(0,.hp 1 0 [] 3 0 0),(1,.isl false ((list_4).map I))] [(1,some ⟨0,3,[encI_l1Cur c_3]⟩)] 2 (by kernel_rfl) (by kernel_rfl) (by kernel_rfl) rfl ?_
 unfold Ffbe at h
 refine cq 9 [5,6,7] [.isl false ((list_4).map I),.hp 1 0 [] 3 0 0,.isl false ((list_4).map I)] 66 ?_
 refine oq 82 (I ((len list_4))) rfl (e_len rfl rfl rfl (l_isl rfl)) ?_
 obtain ⟨r3,hr3,h⟩:=bS h
 refine oq 98 (I (r3.1)) rfl (e_callV rfl rfl (call_P rfl rfl rfl (avO (hd1 rfl (hd_hp (path:=[]) rfl rfl (ra_n) rfl)) (avS (shP rfl) (avN))) (Ffbm_F hr3) (.inr rfl) (bl_c rfl rfl rfl rfl (bl_n)) rfl rfl rfl)) ?_
 obtain ⟨e4,he4,h⟩:=bS h
 refine oq 114 (.iptr (I (e4)) 0) rfl (e_indexAddr rfl rfl rfl (ix_islE rfl rfl rfl rfl he4)) ?_
 refine cq 3 [4] [I (e4)] 146 ?_
 obtain rfl:=Option.some.inj h
 exact s_ret rfl ⟨_,fin (vs:=[I (e4)]) rfl (absE (absorb_plain rfl) (absEN)) rfl (ou_1 rfl (oc_hp rfl rfl) (ou_f (ou_n))),kl_c (kl_n)⟩
theorem Ffbe_good {G : Go.Ln.Ground} : Good Try.prog G 23 Ffbe_ent:=good_T (fnOf_good (gl_c Ffbm_good (gl_n))) agree_mk (Checked.mixed Try.checked) Try.func23 (n:=2) (m:=1) ⟨rfl,rfl,by decide⟩ (fun _=>⟨rfl,rfl⟩) (fun a r h=>Ffbe_run a.1 a.2 r h)
def Ffbi_A : l1Cur→List V:=oA (upE encO_l1Cur)
def Ffbi_R (r : Int × l1Cur) : V × List V:=(I (r.1),[.uptr (encI_l1Cur r.2)])
noncomputable def Ffbi_ent : Ent:=entT [true] Ffbi_A Ffbi_R fun x=>Ffbi x
theorem Ffbi_F {c_2 : l1Cur} {r} (h : Ffbi c_2=some r) : (Ffbi_ent).F (Ffbi_A c_2)=some (Ffbi_R r):=entT_F (oA_inj (uptr_inj encO_l1Cur_inj)) h
noncomputable def Ffbi_c : Code:=bodyOf Try.f53
noncomputable def Ffbi_E : Env:=mkE Try.prog [(48,Ffbm_ent),(23,Ffbe_ent)]
def Ffbi_Q (x : l1Cur) (r : Int × l1Cur) : St→Prop:=QF Ffbi_E Try.f53 [true] (Ffbi_A x) (Ffbi_R r)
theorem Ffbi_run (c_2 : l1Cur) (r : Int × l1Cur) (h : Ffbi c_2=some r) : RunF Ffbi_E Try.f53 [true] 1 (Ffbi_A c_2) (Ffbi_R r):=by
 show Run _ _ (Ffbi_Q c_2 r) [.code Ffbi_c] _
 refine rin (n:=16) [(0,.hp 1 0 [] 3 0 0)] [(1,some ⟨0,3,[encI_l1Cur c_2]⟩)] 2 (by kernel_rfl) (by kernel_rfl) (by kernel_rfl) rfl ?_
 unfold Ffbi at h
 refine cq 8 [3] [.hp 1 0 [] 3 0 0] 34 ?_
 obtain ⟨r2,hr2,h⟩:=bS h
 refine oq 50 (I (r2.1)) rfl (e_callV rfl rfl (call_P rfl rfl rfl (avO (hd1 rfl (hd_hp (path:=[]) rfl rfl (ra_n) rfl)) (avS (shP rfl) (avN))) (Ffbm_F hr2) (.inr rfl) (bl_c rfl rfl rfl rfl (bl_n)) rfl rfl rfl)) ?_
 refine cq 7 [5] [B ((r2.1 == 0))] 82 ?_
 refine sq h (fun h=>?_) (fun h=>?_)
 · refine cq 3 [7] [.hp 1 0 [] 3 0 0] 98 ?_
   refine oq 114 (.hs 98 0 [] 1 0 11) rfl (e_buildSlice rfl (bs_mk (f:=I) (xs:=[]) (z:=I (0)) (es:=[I (0),I (59),I (60),I (365),I (366),I (424),I (425),I (36524),I (36523),I (30),I (31)]) (ws:=[I (0),I (59),I (60),I (365),I (366),I (424),I (425),I (36524),I (36523),I (30),I (31)]) rfl rfl rfl (by decide) rfl (abs_each_plain rfl) rfl)) ?_
   obtain ⟨r3,hr3,h⟩:=bS h
   refine oK 130 (I (r3.1)) rfl rfl (e_callK rfl rfl (call_K rfl rfl rfl rfl (avO (hd1 rfl (hd_hp (path:=[]) rfl rfl (ra_n) rfl)) (avS (sh1 rfl rfl (sh_hsM (f:=I) (g:=I) (xs:=[0,59,60,365,366,424,425,36524,36523,30,31]) rfl rfl (imms_of I_imm))) (avN))) (Ffbe_F hr3) (bl_c rfl rfl rfl rfl (bl_n)) rfl rfl rfl)) ?_
   refine cq 2 [2] [I (r3.1)] 146 ?_
   obtain rfl:=Option.some.inj h
   exact s_ret rfl ⟨_,fin (vs:=[I (r3.1)]) rfl (absE (absorb_plain rfl) (absEN)) rfl (ou_1 rfl (oc_hp rfl rfl) (ou_n)),kl_c (kl_n)⟩
 · refine cq 5 [10] [B ((r2.1 == 1))] 114 ?_
   refine sq h (fun h=>?_) (fun h=>?_)
   · refine cq 3 [12] [.hp 1 0 [] 3 0 0] 130 ?_
     obtain ⟨r4,hr4,h⟩:=bS h
     refine oq 146 (I (r4.1)) rfl (e_callV rfl rfl (call_P rfl rfl rfl (avO (hd1 rfl (hd_hp (path:=[]) rfl rfl (ra_n) rfl)) (avS (shP rfl) (avN))) (Ffbm_F hr4) (.inr rfl) (bl_c rfl rfl rfl rfl (bl_n)) rfl rfl rfl)) ?_
     refine cq 2 [2] [I (r4.1)] 162 ?_
     obtain rfl:=Option.some.inj h
     exact s_ret rfl ⟨_,fin (vs:=[I (r4.1)]) rfl (absE (absorb_plain rfl) (absEN)) rfl (ou_1 rfl (oc_hp rfl rfl) (ou_n)),kl_c (kl_n)⟩
   · refine aq 1 ?_
     refine cq 4 [14] [.hp 1 0 [] 3 0 0] 130 ?_
     obtain ⟨r5,hr5,h⟩:=bS h
     refine oq 146 (I (r5.1)) rfl (e_callV rfl rfl (call_P rfl rfl rfl (avO (hd1 rfl (hd_hp (path:=[]) rfl rfl (ra_n) rfl)) (avS (shP rfl) (avN))) (Ffbm_F hr5) (.inr rfl) (bl_c rfl rfl rfl rfl (bl_n)) rfl rfl rfl)) ?_
     refine cq 2 [2] [I (r5.1)] 162 ?_
     obtain rfl:=Option.some.inj h
     exact s_ret rfl ⟨_,fin (vs:=[I (r5.1)]) rfl (absE (absorb_plain rfl) (absEN)) rfl (ou_1 rfl (oc_hp rfl rfl) (ou_n)),kl_c (kl_n)⟩
theorem Ffbi_good {G : Go.Ln.Ground} : Good Try.prog G 53 Ffbi_ent:=good_T (fnOf_good (gl_c Ffbm_good (gl_c Ffbe_good (gl_n)))) agree_mk (Checked.mixed Try.checked) Try.func53 (n:=1) (m:=1) ⟨rfl,rfl,by decide⟩ (fun _=>⟨rfl,rfl⟩) (fun a r h=>Ffbi_run a r h)
def Ffbl_A : (l1Cur × Int)→List V:=cA (upE encO_l1Cur) (oA I)
def Ffbl_R (r : Bool × l1Cur) : V × List V:=(B (r.1),[.uptr (encI_l1Cur r.2)])
noncomputable def Ffbl_ent : Ent:=entT [true,false] Ffbl_A Ffbl_R fun x=>Ffbl x.1 x.2
theorem Ffbl_F {c_3 : l1Cur} {n_4 : Int} {r} (h : Ffbl c_3 n_4=some r) : (Ffbl_ent).F (Ffbl_A (c_3,n_4))=some (Ffbl_R r):=entT_F (cA_inj (uptr_inj encO_l1Cur_inj) (oA_inj I_inj)) h
noncomputable def Ffbl_c : Code:=bodyOf Try.f24
noncomputable def Ffbl_E : Env:=mkE Try.prog [(48,Ffbm_ent)]
def Ffbl_Q (x : l1Cur × Int) (r : Bool × l1Cur) : St→Prop:=QF Ffbl_E Try.f24 [true,false] (Ffbl_A x) (Ffbl_R r)
theorem Ffbl_run (c_3 : l1Cur) (n_4 : Int) (r : Bool × l1Cur) (h : Ffbl c_3 n_4=some r) : RunF Ffbl_E Try.f24 [true,false] 1 (Ffbl_A (c_3,n_4)) (Ffbl_R r):=by
 show Run _ _ (Ffbl_Q (c_3,n_4) r) [.code Ffbl_c] _
 refine rin (n:=9) [(0,.hp 1 0 [] 3 0 0),(1,I (n_4))] [(1,some ⟨0,3,[encI_l1Cur c_3]⟩)] 2 (by kernel_rfl) (by kernel_rfl) (by kernel_rfl) rfl ?_
 unfold Ffbl at h
 refine cq 8 [5,6] [.hp 1 0 [] 3 0 0,I (n_4)] 50 ?_
 obtain ⟨r3,hr3,h⟩:=bS h
 refine oq 66 (I (r3.1)) rfl (e_callV rfl rfl (call_P rfl rfl rfl (avO (hd1 rfl (hd_hp (path:=[]) rfl rfl (ra_n) rfl)) (avS (shP rfl) (avN))) (Ffbm_F hr3) (.inr rfl) (bl_c rfl rfl rfl rfl (bl_n)) rfl rfl rfl)) ?_
 refine cq 3 [4] [B ((r3.1 == 0))] 98 ?_
 obtain rfl:=Option.some.inj h
 exact s_ret rfl ⟨_,fin (vs:=[B ((r3.1 == 0))]) rfl (absE (absorb_plain rfl) (absEN)) rfl (ou_1 rfl (oc_hp rfl rfl) (ou_f (ou_n))),kl_c (kl_n)⟩
theorem Ffbl_good {G : Go.Ln.Ground} : Good Try.prog G 24 Ffbl_ent:=good_T (fnOf_good (gl_c Ffbm_good (gl_n))) agree_mk (Checked.mixed Try.checked) Try.func24 (n:=2) (m:=1) ⟨rfl,rfl,by decide⟩ (fun _=>⟨rfl,rfl⟩) (fun a r h=>Ffbl_run a.1 a.2 r h)
def Ffbz_A : (Int × Int)→List V:=cA I (oA I)
def Ffbz_R (r : Int) : V × List V:=(I (r),[])
noncomputable def Ffbz_ent : Ent:=entT [false,false] Ffbz_A Ffbz_R fun x=>Ffbz x.1 x.2
theorem Ffbz_F {year_1 : Int} {month_2 : Int} {r} (h : Ffbz year_1 month_2=some r) : (Ffbz_ent).F (Ffbz_A (year_1,month_2))=some (Ffbz_R r):=entT_F (cA_inj I_inj (oA_inj I_inj)) h
noncomputable def Ffbz_c : Code:=bodyOf Try.f43
noncomputable def Ffbz_E : Env:=mkE Try.prog []
def Ffbz_Q (x : Int × Int) (r : Int) : St→Prop:=QF Ffbz_E Try.f43 [false,false] (Ffbz_A x) (Ffbz_R r)
theorem Ffbz_run (year_1 : Int) (month_2 : Int) (r : Int) (h : Ffbz year_1 month_2=some r) : RunF Ffbz_E Try.f43 [false,false] 0 (Ffbz_A (year_1,month_2)) (Ffbz_R r):=by
 show Run _ _ (Ffbz_Q (year_1,month_2) r) [.code Ffbz_c] _
 refine rin (n:=16) [(0,I (year_1)),(1,I (month_2))] [] 1 (by kernel_rfl) (by kernel_rfl) (by kernel_rfl) rfl ?_
 unfold Ffbz at h
 refine cq 16 [5,6] [I (month_2),B ((month_2 == 4))] 65 ?_
 obtain ⟨u3,hu3,h⟩:=lJ h
 have j3 : Run Ffbz_E 0 (Ffbz_Q (year_1,month_2) r) (.code (cR (cL (cR (cL (cR Ffbz_c))))) :: .blk 0 :: .code (cR (cR Ffbz_c)) :: []) (sT 16 [(0,I (year_1)),(5,I (month_2)),(6,B (u3))] [] 1):=by
   refine sq h (fun h=>?_) (fun h=>?_)
   · refine cq 4 [4] [I (30)] 17 ?_
     obtain rfl:=Option.some.inj h
     exact s_ret rfl ⟨_,fin (vs:=[I (30)]) rfl (absE (absorb_plain rfl) (absEN)) rfl (ou_f (ou_f (ou_n))),kl_n⟩
   · refine cq 5 [11] [B ((month_2 == 2))] 33 ?_
     refine sq h (fun h=>?_) (fun h=>?_)
     · refine cq 7 [15] [B (((year_1.tmod 4) == 0))] 81 ?_
       refine sq h (fun h=>?_) (fun h=>?_)
       · refine cq 4 [4] [I (29)] 97 ?_
         obtain rfl:=Option.some.inj h
         exact s_ret rfl ⟨_,fin (vs:=[I (29)]) rfl (absE (absorb_plain rfl) (absEN)) rfl (ou_f (ou_f (ou_n))),kl_n⟩
       · refine aq 1 ?_
         refine cq 4 [4] [I (28)] 97 ?_
         obtain rfl:=Option.some.inj h
         exact s_ret rfl ⟨_,fin (vs:=[I (28)]) rfl (absE (absorb_plain rfl) (absEN)) rfl (ou_f (ou_f (ou_n))),kl_n⟩
     · refine aq 1 ?_
       refine cq 5 [4] [I (31)] 49 ?_
       obtain rfl:=Option.some.inj h
       exact s_ret rfl ⟨_,fin (vs:=[I (31)]) rfl (absE (absorb_plain rfl) (absEN)) rfl (ou_f (ou_f (ou_n))),kl_n⟩
 replace h:=hu3
 clear hu3
 refine scp h rfl rfl (fun h=>?_) (fun h=>?_)
 · refine aq 1 ?_
   subst h
   exact rf [0,5,6] [] (j3 :)
 · refine cq 5 [6] [B ((month_2 == 6))] 97 ?_
   obtain ⟨u4,hu4,h⟩:=lJ h
   have j4 : Run Ffbz_E 0 (Ffbz_Q (year_1,month_2) r) (.code (cR (cL (cR (cL (cR Ffbz_c))))) :: .blk 0 :: .code (cR (cR Ffbz_c)) :: []) (sT 16 [(0,I (year_1)),(5,I (month_2)),(6,B (u4))] [] 1):=by
     subst h
     exact rf [0,5,6] [] (j3 :)
   replace h:=hu4
   clear hu4
   refine scp h rfl rfl (fun h=>?_) (fun h=>?_)
   · refine aq 1 ?_
     subst h
     exact rf [0,5,6] [] (j4 :)
   · refine cq 5 [6] [B ((month_2 == 9))] 129 ?_
     obtain ⟨u5,hu5,h⟩:=lJ h
     have j5 : Run Ffbz_E 0 (Ffbz_Q (year_1,month_2) r) (.code (cR (cL (cR (cL (cR Ffbz_c))))) :: .blk 0 :: .code (cR (cR Ffbz_c)) :: []) (sT 16 [(0,I (year_1)),(5,I (month_2)),(6,B (u5))] [] 1):=by
       subst h
       exact rf [0,5,6] [] (j4 :)
     replace h:=hu5
     clear hu5
     refine scp h rfl rfl (fun h=>?_) (fun h=>?_)
     · refine aq 1 ?_
       subst h
       exact rf [0,5,6] [] (j5 :)
     · refine cq 4 [6] [B ((month_2 == 11))] 161 ?_
       subst h
       exact rf [0,5,6] [] (j5 :)
theorem Ffbz_good {G : Go.Ln.Ground} : Good Try.prog G 43 Ffbz_ent:=good_T (fnOf_good (gl_n)) agree_mk (Checked.mixed Try.checked) Try.func43 (n:=2) (m:=0) ⟨rfl,rfl,by decide⟩ (fun _=>⟨rfl,rfl⟩) (fun a r h=>Ffbz_run a.1 a.2 r h)
def Ffbx_A : Date→List V:=oA enc_Date
def Ffbx_R (r : Int) : V × List V:=(I (r),[])
noncomputable def Ffbx_ent : Ent:=entT [false] Ffbx_A Ffbx_R fun x=>Ffbx x
theorem Ffbx_F {d_1 : Date} {r} (h : Ffbx d_1=some r) : (Ffbx_ent).F (Ffbx_A d_1)=some (Ffbx_R r):=entT_F (oA_inj enc_Date_inj) h
noncomputable def Ffbx_c : Code:=bodyOf Try.f45
noncomputable def Ffbx_E : Env:=mkE Try.prog [(43,Ffbz_ent)]
def Ffbx_Q (x : Date) (r : Int) : St→Prop:=QF Ffbx_E Try.f45 [false] (Ffbx_A x) (Ffbx_R r)
theorem Ffbx_la_run (d_1 : Date)  {Q : St→Prop} {K : List It} (hK : noD K=true) : ∀ (x2 : Int × Int) (y : Int ⊕ Int),Ffbx_la d_1 x2=some y→(∀ r',y=.inl r'→∀ st,Ffbx_Q d_1 r' st→Q st)→(∀ u : Int,y=.inr u→Run Ffbx_E 0 Q K (sT 32 [(1,.hp 1 0 [] 3 0 0),(4,I (u))] [⟨0,3,[enc_Date d_1]⟩] 2))→Run Ffbx_E 0 Q (.code (cL (cL (cR (cL (cR (cR (cR Ffbx_c))))))) :: .lp (cL (cL (cR (cL (cR (cR (cR Ffbx_c))))))) :: .blk 0 :: K) (sT 32 [(1,.hp 1 0 [] 3 0 0),(4,I (x2.1)),(5,I (x2.2))] [⟨0,3,[enc_Date d_1]⟩] 2):=by
 refine fix_indP (Ffbx_la_fin d_1) ?_
 intro self ih x2 y h hr hn
 unfold Ffbx_la_F at h
 refine cq 8 [18] [B ((decide (x2.2 < d_1.Month)))] 66 ?_
 refine sq h (fun h=>?_) (fun h=>?_)
 · refine aq 1 ?_
   refine cq 7 [21,23,24] [I (x2.1),I (d_1.Year),I (x2.2)] 130 ?_
   obtain ⟨r3,hr3,h⟩:=bS h
   refine oq 146 (I (r3)) rfl (e_callV rfl rfl (call_P rfl rfl rfl (avS (shP rfl) (avS (shP rfl) (avN))) (Ffbz_F hr3) (.inr rfl) (bl_n) rfl rfl rfl)) ?_
   refine cq 9 [4,5] [I ((w64 (x2.1 + r3))),I ((w64 (x2.2 + 1)))] 226 ?_
   refine s_lp ?_
   exact rf [1,4,5] [1] (ih _ _ h hr hn :)
 · refine aq 1 ?_
   exact rf [1,4] [1] (hn _ (Option.some.inj h).symm :) (hk:=hK)
theorem Ffbx_run (d_1 : Date) (r : Int) (h : Ffbx d_1=some r) : RunF Ffbx_E Try.f45 [false] 0 (Ffbx_A d_1) (Ffbx_R r):=by
 show Run _ _ (Ffbx_Q d_1 r) [.code Ffbx_c] _
 refine rin (n:=32) [(0,enc_Date d_1)] [] 1 (by kernel_rfl) (by kernel_rfl) (by kernel_rfl) rfl ?_
 unfold Ffbx at h
 refine ck 28 [1,4,5] [] [1] [] [.hp 1 0 [] 3 0 0,I ((w64 ((w64 (365 * (w64 (d_1.Year - 2000)))) + (w64 ((w64 ((w64 (d_1.Year - 2000)) + 3)).tdiv 4))))),I (1)] [some ⟨0,3,[enc_Date d_1]⟩] 225 (by kernel_rfl) ?_
 obtain ⟨y4,hy4,hy41,hy42⟩:=bJ h
 refine s_loop rfl ?_
 refine rf [1,4,5] [1] (Ffbx_la_run d_1 rfl ((w64 ((w64 (365 * (w64 (d_1.Year - 2000)))) + (w64 ((w64 ((w64 (d_1.Year - 2000)) + 3)).tdiv 4)))),1) _ hy4 (fun r' e st hq=>by rw [hy41 r' e] at hq; exact hq) fun u4 hu=>?_)
 replace h:=hy42 u4 hu
 refine cq 9 [2] [I ((w64 ((w64 (u4 + d_1.Day)) - 1)))] 98 ?_
 obtain rfl:=Option.some.inj h
 exact s_ret rfl ⟨_,fin (vs:=[I ((w64 ((w64 (u4 + d_1.Day)) - 1)))]) rfl (absE (absorb_plain rfl) (absEN)) rfl (ou_f (ou_n)),kl_n⟩
theorem Ffbx_good {G : Go.Ln.Ground} : Good Try.prog G 45 Ffbx_ent:=good_T (fnOf_good (gl_c Ffbz_good (gl_n))) agree_mk (Checked.mixed Try.checked) Try.func45 (n:=1) (m:=0) ⟨rfl,rfl,by decide⟩ (fun _=>⟨rfl,rfl⟩) (fun a r h=>Ffbx_run a r h)
def Ffbw_A : Int→List V:=oA I
def Ffbw_R (r : Date) : V × List V:=(enc_Date r,[])
noncomputable def Ffbw_ent : Ent:=entT [false] Ffbw_A Ffbw_R fun x=>Ffbw x
theorem Ffbw_F {day_1 : Int} {r} (h : Ffbw day_1=some r) : (Ffbw_ent).F (Ffbw_A day_1)=some (Ffbw_R r):=entT_F (oA_inj I_inj) h
noncomputable def Ffbw_c : Code:=bodyOf Try.f42
noncomputable abbrev Ffbw_ka : Code:=cL (cL (cL (cR (cR (cR Ffbw_c)))))
noncomputable def Ffbw_E : Env:=mkE Try.prog [(45,Ffbx_ent)]
def Ffbw_Q (x : Int) (r : Date) : St→Prop:=QF Ffbw_E Try.f42 [false] (Ffbw_A x) (Ffbw_R r)
theorem Ffbw_la_run (day_1 : Int)  {Q : St→Prop} {K : List It} (hK : noD K=true) : ∀ (x2 : Int) (y : Date ⊕ Int),Ffbw_la day_1 x2=some y→(∀ r',y=.inl r'→∀ st,Ffbw_Q day_1 r' st→Q st)→(∀ u : Int,y=.inr u→Run Ffbw_E 0 Q K (sT 46 [(0,I (day_1)),(2,.hp 1 0 [] 3 0 0),(3,.hp 2 0 [] 3 0 0)] [⟨0,3,[.agg [I (0),I (0),I (0)]]⟩,⟨0,3,[.agg [I (u),I (1),I (1)]]⟩] 3))→Run Ffbw_E 0 Q (.code (cL (cL (cL (cR (cR Ffbw_c))))) :: .lp (cL (cL (cL (cR (cR Ffbw_c))))) :: .blk 0 :: K) (sT 46 [(0,I (day_1)),(2,.hp 1 0 [] 3 0 0),(3,.hp 2 0 [] 3 0 0)] [⟨0,3,[.agg [I (0),I (0),I (0)]]⟩,⟨0,3,[.agg [I (x2),I (1),I (1)]]⟩] 3):=by
 refine fix_indP (Ffbw_la_fin day_1) ?_
 intro self ih x2 y h hr hn
 unfold Ffbw_la_F at h
 refine cq 7 [8] [B ((decide (x2 < 2099)))] 67 ?_
 obtain ⟨y3,hy3,hy31,hy32⟩:=bL h
 have j3 : ∀ u3,y3=.inr u3→Run Ffbw_E 0 Q (.code (cR (cL (cL (cL (cL (cR (cR Ffbw_c))))))) :: .code (cR (cL (cL (cL (cR (cR Ffbw_c)))))) :: .lp (cL (cL (cL (cR (cR Ffbw_c))))) :: .blk 0 :: K) (sT 46 [(0,I (day_1)),(2,.hp 1 0 [] 3 0 0),(3,.hp 2 0 [] 3 0 0),(16,B (u3))] [⟨0,3,[.agg [I (0),I (0),I (0)]]⟩,⟨0,3,[.agg [I (x2),I (1),I (1)]]⟩] 3):=by
   intro u3 hu
   replace h:=hy32 u3 hu
   refine sq h (fun h=>?_) (fun h=>?_)
   · refine aq 1 ?_
     refine ck 9 [] [] [2] [] [] [some ⟨0,3,[.agg [I ((w64 (x2 + 1))),I (1),I (1)]]⟩] 83 (by kernel_rfl) ?_
     refine s_lp ?_
     exact rf [0,2,3] [1,2] (ih _ _ h hr hn :)
   · refine aq 1 ?_
     exact rf [0,2,3] [1,2] (hn _ (Option.some.inj h).symm :) (hk:=hK)
 have r3 : ∀ r',y3=.inl r'→∀ st,Ffbw_Q day_1 r' st→Q st:=fun r' e st hq=>hr r' (hy31 r' e) st hq
 replace h:=hy3
 refine sp 8 h rfl (fun h=>?_) (fun h=>?_)
 · refine cq 4 [12] [.agg [I ((w64 (x2 + 1))),I (1),I (1)]] 131 ?_
   obtain ⟨r4,hr4,h⟩:=bS h
   refine oy 147 (I (r4)) rfl (e_callV rfl rfl (call_P rfl rfl rfl (avS (shP rfl) (avN)) (Ffbx_F hr4) (.inr rfl) (bl_n) rfl rfl rfl)) ?_
   refine cq 4 [16] [B ((decide (r4 ≤ day_1)))] 195 ?_
   exact rf [0,2,3,16] [1,2] (j3 _ (Option.some.inj h).symm :)
 · refine cq 9 [16] [B (false)] 195 ?_
   exact rf [0,2,3,16] [1,2] (j3 _ (Option.some.inj h).symm :)
theorem Ffbw_lb_run (day_1 : Int) (u5 : Int) {Q : St→Prop} {K : List It} (hK : noD K=true) : ∀ (x6 : Int) (y : Date ⊕ Int),Ffbw_lb day_1 u5 x6=some y→(∀ r',y=.inl r'→∀ st,Ffbw_Q day_1 r' st→Q st)→(∀ u : Int,y=.inr u→Run Ffbw_E 0 Q K (sT 46 [(0,I (day_1)),(2,.hp 1 0 [] 3 0 0),(3,.hp 2 0 [] 3 0 0)] [⟨0,3,[.agg [I (0),I (0),I (0)]]⟩,⟨0,3,[.agg [I (u5),I (u),I (1)]]⟩] 3))→Run Ffbw_E 0 Q (.code Ffbw_ka :: .lp Ffbw_ka :: .blk 2 :: K) (sT 46 [(0,I (day_1)),(2,.hp 1 0 [] 3 0 0),(3,.hp 2 0 [] 3 0 0)] [⟨0,3,[.agg [I (0),I (0),I (0)]]⟩,⟨0,3,[.agg [I (u5),I (x6),I (1)]]⟩] 3):=by
 refine fix_indP (Ffbw_lb_fin day_1 u5) ?_
 intro self ih x6 y h hr hn
 unfold Ffbw_lb_F at h
 refine cq 7 [24] [B ((decide (x6 < 12)))] 67 ?_
 obtain ⟨y7,hy7,hy71,hy72⟩:=bL h
 have j7 : ∀ u7,y7=.inr u7→Run Ffbw_E 0 Q (.code (cR (cL Ffbw_ka)) :: .code (cR Ffbw_ka) :: .lp Ffbw_ka :: .blk 2 :: K) (sT 46 [(0,I (day_1)),(2,.hp 1 0 [] 3 0 0),(3,.hp 2 0 [] 3 0 0),(34,B (u7))] [⟨0,3,[.agg [I (0),I (0),I (0)]]⟩,⟨0,3,[.agg [I (u5),I (x6),I (1)]]⟩] 3):=by
   intro u7 hu
   replace h:=hy72 u7 hu
   refine sq h (fun h=>?_) (fun h=>?_)
   · refine aq 1 ?_
     refine ck 9 [] [] [2] [] [] [some ⟨0,3,[.agg [I (u5),I ((w64 (x6 + 1))),I (1)]]⟩] 83 (by kernel_rfl) ?_
     refine s_lp ?_
     exact rf [0,2,3] [1,2] (ih _ _ h hr hn :)
   · refine aq 1 ?_
     exact rf [0,2,3] [1,2] (hn _ (Option.some.inj h).symm :) (hk:=hK)
 have r7 : ∀ r',y7=.inl r'→∀ st,Ffbw_Q day_1 r' st→Q st:=fun r' e st hq=>hr r' (hy71 r' e) st hq
 replace h:=hy7
 refine sp 24 h rfl (fun h=>?_) (fun h=>?_)
 · refine cq 6 [30] [.agg [I (u5),I ((w64 (x6 + 1))),I (1)]] 163 ?_
   obtain ⟨r8,hr8,h⟩:=bS h
   refine oy 179 (I (r8)) rfl (e_callV rfl rfl (call_P rfl rfl rfl (avS (shP rfl) (avN)) (Ffbx_F hr8) (.inr rfl) (bl_n) rfl rfl rfl)) ?_
   refine cq 4 [34] [B ((decide (r8 ≤ day_1)))] 227 ?_
   exact rf [0,2,3,34] [1,2] (j7 _ (Option.some.inj h).symm :)
 · refine cq 11 [34] [B (false)] 227 ?_
   exact rf [0,2,3,34] [1,2] (j7 _ (Option.some.inj h).symm :)
theorem Ffbw_run (day_1 : Int) (r : Date) (h : Ffbw day_1=some r) : RunF Ffbw_E Try.f42 [false] 0 (Ffbw_A day_1) (Ffbw_R r):=by
 show Run _ _ (Ffbw_Q day_1 r) [.code Ffbw_c] _
 refine rin (n:=46) [(0,I (day_1))] [] 1 (by kernel_rfl) (by kernel_rfl) (by kernel_rfl) rfl ?_
 unfold Ffbw at h
 refine ck 12 [2,3] [] [1,33] [] [.hp 1 0 [] 3 0 0,.hp 33 0 [] 3 0 0] [some ⟨0,3,[.agg [I (0),I (0),I (0)]]⟩,some ⟨0,3,[.agg [I (2000),I (1),I (1)]]⟩] 65 (by kernel_rfl) ?_
 obtain ⟨y5,hy5,hy51,hy52⟩:=bJ h
 refine s_loop rfl ?_
 refine rf [0,2,3] [1,33] (Ffbw_la_run day_1 rfl 2000 _ hy5 (fun r' e st hq=>by rw [hy51 r' e] at hq; exact hq) fun u5 hu=>?_)
 replace h:=hy52 u5 hu
 refine aq 2 ?_
 obtain ⟨y9,hy9,hy91,hy92⟩:=bJ h
 refine s_loop rfl ?_
 refine rf [0,2,3] [1,2] (Ffbw_lb_run day_1 u5 rfl 1 _ hy9 (fun r' e st hq=>by rw [hy91 r' e] at hq; exact hq) fun u9 hu=>?_)
 replace h:=hy92 u9 hu
 refine cq 4 [39,40] [I (day_1),.agg [I (u5),I (u9),I (1)]] 35 ?_
 obtain ⟨r10,hr10,h⟩:=bS h
 refine oq 51 (I (r10)) rfl (e_callV rfl rfl (call_P rfl rfl rfl (avS (shP rfl) (avN)) (Ffbx_F hr10) (.inr rfl) (bl_n) rfl rfl rfl)) ?_
 refine ck 10 [] [] [1,2] [] [] [some ⟨0,3,[.agg [I (u5),I (u9),I ((w64 ((w64 (day_1 - r10)) + 1)))]]⟩,some ⟨0,3,[.agg [I (u5),I (u9),I ((w64 ((w64 (day_1 - r10)) + 1)))]]⟩] 147 (by kernel_rfl) ?_
 obtain rfl:=Option.some.inj h
 exact s_ret rfl ⟨_,fin (vs:=[.agg [I (u5),I (u9),I ((w64 ((w64 (day_1 - r10)) + 1)))]]) (rs_c (rs_cell rfl rfl rfl) (rs_n)) (absE (absorb_plain rfl) (absEN)) rfl (ou_f (ou_n)),kl_n⟩
theorem Ffbw_good {G : Go.Ln.Ground} : Good Try.prog G 42 Ffbw_ent:=good_T (fnOf_good (gl_c Ffbx_good (gl_n))) agree_mk (Checked.mixed Try.checked) Try.func42 (n:=1) (m:=0) ⟨rfl,rfl,by decide⟩ (fun _=>⟨rfl,rfl⟩) (fun a r h=>Ffbw_run a r h)
def Ffbj_A : l1Cur→List V:=oA (upE encO_l1Cur)
def Ffbj_R (r : Int × l1Cur) : V × List V:=(I (r.1),[.uptr (encI_l1Cur r.2)])
noncomputable def Ffbj_ent : Ent:=entT [true] Ffbj_A Ffbj_R fun x=>Ffbj x
theorem Ffbj_F {c_2 : l1Cur} {r} (h : Ffbj c_2=some r) : (Ffbj_ent).F (Ffbj_A c_2)=some (Ffbj_R r):=entT_F (oA_inj (uptr_inj encO_l1Cur_inj)) h
noncomputable def Ffbj_c : Code:=bodyOf Try.f22
noncomputable def Ffbj_E : Env:=mkE Try.prog [(53,Ffbi_ent),(24,Ffbl_ent),(42,Ffbw_ent),(43,Ffbz_ent),(48,Ffbm_ent),(45,Ffbx_ent)]
def Ffbj_Q (x : l1Cur) (r : Int × l1Cur) : St→Prop:=QF Ffbj_E Try.f22 [true] (Ffbj_A x) (Ffbj_R r)
theorem Ffbj_run (c_2 : l1Cur) (r : Int × l1Cur) (h : Ffbj c_2=some r) : RunF Ffbj_E Try.f22 [true] 1 (Ffbj_A c_2) (Ffbj_R r):=by
 show Run _ _ (Ffbj_Q c_2 r) [.code Ffbj_c] _
 refine rin (n:=23) [(0,.hp 1 0 [] 3 0 0)] [(1,some ⟨0,3,[encI_l1Cur c_2]⟩)] 2 (by kernel_rfl) (by kernel_rfl) (by kernel_rfl) rfl ?_
 unfold Ffbj at h
 refine cq 7 [5] [.hp 1 0 [] 3 0 0] 34 ?_
 obtain ⟨r2,hr2,h⟩:=bS h
 refine oq 50 (I (r2.1)) rfl (e_callV rfl rfl (call_P rfl rfl rfl (avO (hd1 rfl (hd_hp (path:=[]) rfl rfl (ra_n) rfl)) (avN)) (Ffbi_F hr2) (.inr rfl) (bl_c rfl rfl rfl rfl (bl_n)) rfl rfl rfl)) ?_
 refine cq 6 [3,7] [I (r2.1),.hp 1 0 [] 3 0 0] 82 ?_
 obtain ⟨r3,hr3,h⟩:=bS h
 refine oq 98 (B (r3.1)) rfl (e_callV rfl rfl (call_P rfl rfl rfl (avO (hd1 rfl (hd_hp (path:=[]) rfl rfl (ra_n) rfl)) (avS (shP rfl) (avN))) (Ffbl_F hr3) (.inr rfl) (bl_c rfl rfl rfl rfl (bl_n)) rfl rfl rfl)) ?_
 refine aq 1 ?_
 obtain ⟨y4,hy4,hy41,hy42⟩:=bJ h
 have j4 : ∀ u4,y4=.inr u4→Run Ffbj_E 1 (Ffbj_Q c_2 r) (.code (cR (cR (cR Ffbj_c))) :: []) (sT 23 [(3,I (u4.1))] [⟨0,3,[.agg [.isl false ((u4.2.1).map (V.int .u8)),I (u4.2.2.1),.int .u64 (u4.2.2.2)]]⟩] 2):=by
   intro u4 hu
   replace h:=hy42 u4 hu
   refine cq 5 [2] [I (u4.1)] 34 ?_
   obtain rfl:=Option.some.inj h
   exact s_ret rfl ⟨_,fin (vs:=[I (u4.1)]) rfl (absE (absorb_plain rfl) (absEN)) rfl (ou_1 rfl (oc_hp rfl rfl) (ou_n)),kl_c (kl_n)⟩
 have r4 : ∀ r',y4=.inl r'→∀ st,Ffbj_Q c_2 r' st→(Ffbj_Q c_2 r) st:=fun r' e st hq=>by rw [hy41 r' e] at hq; exact hq
 replace h:=hy4
 refine sq h (fun h=>?_) (fun h=>?_)
 · refine cq 3 [9] [I (r2.1)] 114 ?_
   obtain ⟨r5,hr5,h⟩:=bS h
   refine oq 130 (enc_Date r5) rfl (e_callV rfl rfl (call_P rfl rfl rfl (avS (shP rfl) (avN)) (Ffbw_F hr5) (.inr rfl) (bl_n) rfl rfl rfl)) ?_
   refine ck 9 [4,12,14] [] [130] [] [.hp 130 0 [] 3 0 0,I (r5.Year),I (r5.Month)] [some ⟨0,3,[enc_Date r5]⟩] 226 (by kernel_rfl) ?_
   obtain ⟨r6,hr6,h⟩:=bS h
   refine oq 242 (I (r6)) rfl (e_callV rfl rfl (call_P rfl rfl rfl (avS (shP rfl) (avS (shP rfl) (avN))) (Ffbz_F hr6) (.inr rfl) (bl_n) rfl rfl rfl)) ?_
   refine cq 1 [16] [.hp 1 0 [] 3 0 0] 258 ?_
   obtain ⟨r7,hr7,h⟩:=bS h
   refine oq 274 (I (r7.1)) rfl (e_callV rfl rfl (call_P rfl rfl rfl (avO (hd1 rfl (hd_hp (path:=[]) rfl rfl (ra_n) rfl)) (avS (shP rfl) (avN))) (Ffbm_F hr7) (.inr rfl) (bl_c rfl rfl rfl rfl (bl_n)) rfl rfl rfl)) ?_
   refine ck 6 [20] [] [130] [] [.agg [I (r5.Year),I (r5.Month),I ((w64 (r6 - r7.1)))]] [some ⟨0,3,[.agg [I (r5.Year),I (r5.Month),I ((w64 (r6 - r7.1)))]]⟩] 338 (by kernel_rfl) ?_
   obtain ⟨r8,hr8,h⟩:=bS h
   refine oq 354 (I (r8)) rfl (e_callV rfl rfl (call_P rfl rfl rfl (avS (shP rfl) (avN)) (Ffbx_F hr8) (.inr rfl) (bl_n) rfl rfl rfl)) ?_
   refine cq 2 [3] [I (r8)] 370 ?_
   exact rf [3] [1] (j4 _ (Option.some.inj h).symm :)
 · refine aq 1 ?_
   exact rf [3] [1] (j4 _ (Option.some.inj h).symm :)
theorem Ffbj_good {G : Go.Ln.Ground} : Good Try.prog G 22 Ffbj_ent:=good_T (fnOf_good (gl_c Ffbi_good (gl_c Ffbl_good (gl_c Ffbw_good (gl_c Ffbz_good (gl_c Ffbm_good (gl_c Ffbx_good (gl_n)))))))) agree_mk (Checked.mixed Try.checked) Try.func22 (n:=1) (m:=1) ⟨rfl,rfl,by decide⟩ (fun _=>⟨rfl,rfl⟩) (fun a r h=>Ffbj_run a r h)
def Ffbg_A : l1Cur→List V:=oA (upE encO_l1Cur)
def Ffbg_R (r : Int × l1Cur) : V × List V:=(I (r.1),[.uptr (encI_l1Cur r.2)])
noncomputable def Ffbg_ent : Ent:=entT [true] Ffbg_A Ffbg_R fun x=>Ffbg x
theorem Ffbg_F {c_2 : l1Cur} {r} (h : Ffbg c_2=some r) : (Ffbg_ent).F (Ffbg_A c_2)=some (Ffbg_R r):=entT_F (oA_inj (uptr_inj encO_l1Cur_inj)) h
noncomputable def Ffbg_c : Code:=bodyOf Try.f25
noncomputable def Ffbg_E : Env:=mkE Try.prog [(24,Ffbl_ent),(23,Ffbe_ent),(53,Ffbi_ent)]
def Ffbg_Q (x : l1Cur) (r : Int × l1Cur) : St→Prop:=QF Ffbg_E Try.f25 [true] (Ffbg_A x) (Ffbg_R r)
theorem Ffbg_run (c_2 : l1Cur) (r : Int × l1Cur) (h : Ffbg c_2=some r) : RunF Ffbg_E Try.f25 [true] 1 (Ffbg_A c_2) (Ffbg_R r):=by
 show Run _ _ (Ffbg_Q c_2 r) [.code Ffbg_c] _
 refine rin (n:=10) [(0,.hp 1 0 [] 3 0 0)] [(1,some ⟨0,3,[encI_l1Cur c_2]⟩)] 2 (by kernel_rfl) (by kernel_rfl) (by kernel_rfl) rfl ?_
 unfold Ffbg at h
 refine cq 8 [3] [.hp 1 0 [] 3 0 0] 34 ?_
 obtain ⟨r2,hr2,h⟩:=bS h
 refine oq 50 (B (r2.1)) rfl (e_callV rfl rfl (call_P rfl rfl rfl (avO (hd1 rfl (hd_hp (path:=[]) rfl rfl (ra_n) rfl)) (avS (shP rfl) (avN))) (Ffbl_F hr2) (.inr rfl) (bl_c rfl rfl rfl rfl (bl_n)) rfl rfl rfl)) ?_
 refine aq 1 ?_
 refine sq h (fun h=>?_) (fun h=>?_)
 · refine cq 3 [5] [.hp 1 0 [] 3 0 0] 66 ?_
   refine oq 82 (.hs 66 0 [] 1 0 4) rfl (e_buildSlice rfl (bs_mk (f:=I) (xs:=[]) (z:=I (0)) (es:=[I ((-1)),I (36524),I (36525),I (1099511627776)]) (ws:=[I ((-1)),I (36524),I (36525),I (1099511627776)]) rfl rfl rfl (by decide) rfl (abs_each_plain rfl) rfl)) ?_
   obtain ⟨r3,hr3,h⟩:=bS h
   refine oK 98 (I (r3.1)) rfl rfl (e_callK rfl rfl (call_K rfl rfl rfl rfl (avO (hd1 rfl (hd_hp (path:=[]) rfl rfl (ra_n) rfl)) (avS (sh1 rfl rfl (sh_hsM (f:=I) (g:=I) (xs:=[(-1),36524,36525,1099511627776]) rfl rfl (imms_of I_imm))) (avN))) (Ffbe_F hr3) (bl_c rfl rfl rfl rfl (bl_n)) rfl rfl rfl)) ?_
   refine cq 2 [2] [I (r3.1)] 114 ?_
   obtain rfl:=Option.some.inj h
   exact s_ret rfl ⟨_,fin (vs:=[I (r3.1)]) rfl (absE (absorb_plain rfl) (absEN)) rfl (ou_1 rfl (oc_hp rfl rfl) (ou_n)),kl_c (kl_n)⟩
 · refine aq 1 ?_
   refine cq 3 [8] [.hp 1 0 [] 3 0 0] 66 ?_
   obtain ⟨r4,hr4,h⟩:=bS h
   refine oq 82 (I (r4.1)) rfl (e_callV rfl rfl (call_P rfl rfl rfl (avO (hd1 rfl (hd_hp (path:=[]) rfl rfl (ra_n) rfl)) (avN)) (Ffbi_F hr4) (.inr rfl) (bl_c rfl rfl rfl rfl (bl_n)) rfl rfl rfl)) ?_
   refine cq 2 [2] [I (r4.1)] 98 ?_
   obtain rfl:=Option.some.inj h
   exact s_ret rfl ⟨_,fin (vs:=[I (r4.1)]) rfl (absE (absorb_plain rfl) (absEN)) rfl (ou_1 rfl (oc_hp rfl rfl) (ou_n)),kl_c (kl_n)⟩
theorem Ffbg_good {G : Go.Ln.Ground} : Good Try.prog G 25 Ffbg_ent:=good_T (fnOf_good (gl_c Ffbl_good (gl_c Ffbe_good (gl_c Ffbi_good (gl_n))))) agree_mk (Checked.mixed Try.checked) Try.func25 (n:=1) (m:=1) ⟨rfl,rfl,by decide⟩ (fun _=>⟨rfl,rfl⟩) (fun a r h=>Ffbg_run a r h)
def Ffz_A : ((List Int))→List V:=oA (slE (V.int .u8))
def Ffz_R (r : Int × Int × Int) : V × List V:=(.tup [I (r.1),I (r.2.1),I (r.2.2)],[])
noncomputable def Ffz_ent : Ent:=entT [false] Ffz_A Ffz_R fun x=>Ffz x
theorem Ffz_F {code_1 : List Int} {r} (h : Ffz code_1=some r) : (Ffz_ent).F (Ffz_A code_1)=some (Ffz_R r):=entT_F (oA_inj (isl_inj (vint_inj (k:=.u8)))) h
noncomputable def Ffz_c : Code:=bodyOf Try.f6
noncomputable def Ffz_E : Env:=mkE Try.prog [(22,Ffbj_ent),(23,Ffbe_ent),(24,Ffbl_ent),(25,Ffbg_ent)]
def Ffz_Q (x : (List Int)) (r : Int × Int × Int) : St→Prop:=QF Ffz_E Try.f6 [false] (Ffz_A x) (Ffz_R r)
theorem Ffz_run (code_1 : List Int) (r : Int × Int × Int) (h : Ffz code_1=some r) : RunF Ffz_E Try.f6 [false] 0 (Ffz_A code_1) (Ffz_R r):=by
 show Run _ _ (Ffz_Q code_1 r) [.code Ffz_c] _
 refine rin (n:=31) [(0,.isl false ((code_1).map (V.int .u8)))] [] 1 (by kernel_rfl) (by kernel_rfl) (by kernel_rfl) rfl ?_
 unfold Ffz at h
 refine ck 16 [5,11] [] [81] [] [.hp 81 0 [] 3 0 0,.hp 81 0 [] 3 0 0] [some ⟨0,3,[.agg [.isl false ((code_1).map (V.int .u8)),I (0),.int .u64 (0)]]⟩] 129 (by kernel_rfl) ?_
 obtain ⟨r2,hr2,h⟩:=bS h
 refine oq 145 (I (r2.1)) rfl (e_callV rfl rfl (call_P rfl rfl rfl (avO (hd1 rfl (hd_hp (path:=[]) rfl rfl (ra_n) rfl)) (avN)) (Ffbj_F hr2) (.inr rfl) (bl_c rfl rfl rfl rfl (bl_n)) rfl rfl rfl)) ?_
 refine cq 6 [6,13,14] [I (r2.1),I (r2.1),.hp 81 0 [] 3 0 0] 193 ?_
 refine oq 209 (.hs 193 0 [] 1 0 12) rfl (e_buildSlice rfl (bs_mk (f:=I) (xs:=[]) (z:=I (0)) (es:=[I (0),I (1),I (28),I (30),I (31),I (59),I (90),I (181),I (365),I (366),I (900),I ((-1))]) (ws:=[I (0),I (1),I (28),I (30),I (31),I (59),I (90),I (181),I (365),I (366),I (900),I ((-1))]) rfl rfl rfl (by decide) rfl (abs_each_plain rfl) rfl)) ?_
 obtain ⟨r3,hr3,h⟩:=bS h
 refine oK 225 (I (r3.1)) rfl rfl (e_callK rfl rfl (call_K rfl rfl rfl rfl (avO (hd1 rfl (hd_hp (path:=[]) rfl rfl (ra_n) rfl)) (avS (sh1 rfl rfl (sh_hsM (f:=I) (g:=I) (xs:=[0,1,28,30,31,59,90,181,365,366,900,(-1)]) rfl rfl (imms_of I_imm))) (avN))) (Ffbe_F hr3) (bl_c rfl rfl rfl rfl (bl_n)) rfl rfl rfl)) ?_
 refine cq 7 [7,18] [I ((w64 (r2.1 + r3.1))),.hp 81 0 [] 3 0 0] 273 ?_
 obtain ⟨r4,hr4,h⟩:=bS h
 refine oq 289 (B (r4.1)) rfl (e_callV rfl rfl (call_P rfl rfl rfl (avO (hd1 rfl (hd_hp (path:=[]) rfl rfl (ra_n) rfl)) (avS (shP rfl) (avN))) (Ffbl_F hr4) (.inr rfl) (bl_c rfl rfl rfl rfl (bl_n)) rfl rfl rfl)) ?_
 refine aq 1 ?_
 obtain ⟨y5,hy5,hy51,hy52⟩:=bJ h
 have j5 : ∀ u5,y5=.inr u5→Run Ffz_E 0 (Ffz_Q code_1 r) (.code (cR (cR (cR (cR (cR Ffz_c))))) :: []) (sT 31 [(5,.hp 1 0 [] 3 0 0),(6,I (r2.1)),(7,I (u5.1))] [⟨0,3,[.agg [.isl false ((u5.2.1).map (V.int .u8)),I (u5.2.2.1),.int .u64 (u5.2.2.2)]]⟩] 2):=by
   intro u5 hu
   replace h:=hy52 u5 hu
   refine cq 4 [22] [.hp 1 0 [] 3 0 0] 18 ?_
   obtain ⟨r6,hr6,h⟩:=bS h
   refine oq 34 (B (r6.1)) rfl (e_callV rfl rfl (call_P rfl rfl rfl (avO (hd1 rfl (hd_hp (path:=[]) rfl rfl (ra_n) rfl)) (avS (shP rfl) (avN))) (Ffbl_F hr6) (.inr rfl) (bl_c rfl rfl rfl rfl (bl_n)) rfl rfl rfl)) ?_
   refine aq 1 ?_
   obtain ⟨y7,hy7,hy71,hy72⟩:=bJ h
   have j7 : ∀ u7,y7=.inr u7→Run Ffz_E 0 (Ffz_Q code_1 r) (.code (cR (cR (cR (cR (cR (cR Ffz_c)))))) :: []) (sT 31 [(5,.hp 1 0 [] 3 0 0),(6,I (r2.1)),(7,I (u7.1))] [⟨0,3,[.agg [.isl false ((u7.2.1).map (V.int .u8)),I (u7.2.2.1),.int .u64 (u7.2.2.2)]]⟩] 2):=by
     intro u7 hu
     replace h:=hy72 u7 hu
     refine cq 5 [26,27,28] [I (r2.1),I (u7.1),.hp 1 0 [] 3 0 0] 50 ?_
     refine oq 66 (.hs 50 0 [] 1 0 10) rfl (e_buildSlice rfl (bs_mk (f:=I) (xs:=[]) (z:=I (0)) (es:=[I (1),I (2),I (3),I (4),I (1),I (2),I (3),I (4),I (0),I (5)]) (ws:=[I (1),I (2),I (3),I (4),I (1),I (2),I (3),I (4),I (0),I (5)]) rfl rfl rfl (by decide) rfl (abs_each_plain rfl) rfl)) ?_
     obtain ⟨r8,hr8,h⟩:=bS h
     refine oK 82 (I (r8.1)) rfl rfl (e_callK rfl rfl (call_K rfl rfl rfl rfl (avO (hd1 rfl (hd_hp (path:=[]) rfl rfl (ra_n) rfl)) (avS (sh1 rfl rfl (sh_hsM (f:=I) (g:=I) (xs:=[1,2,3,4,1,2,3,4,0,5]) rfl rfl (imms_of I_imm))) (avN))) (Ffbe_F hr8) (bl_c rfl rfl rfl rfl (bl_n)) rfl rfl rfl)) ?_
     refine cq 4 [2,3,4] [I (r2.1),I (u7.1),I (r8.1)] 130 ?_
     obtain rfl:=Option.some.inj h
     exact s_ret rfl ⟨_,fin (vs:=[I (r2.1),I (u7.1),I (r8.1)]) rfl (absE (absorb_plain rfl) (absE (absorb_plain rfl) (absE (absorb_plain rfl) (absEN)))) rfl (ou_f (ou_n)),kl_n⟩
   have r7 : ∀ r',y7=.inl r'→∀ st,Ffz_Q code_1 r' st→(Ffz_Q code_1 r) st:=fun r' e st hq=>by rw [hy71 r' e] at hq; exact hq
   replace h:=hy7
   refine sq h (fun h=>?_) (fun h=>?_)
   · refine cq 2 [24] [.hp 1 0 [] 3 0 0] 50 ?_
     obtain ⟨r9,hr9,h⟩:=bS h
     refine oq 66 (I (r9.1)) rfl (e_callV rfl rfl (call_P rfl rfl rfl (avO (hd1 rfl (hd_hp (path:=[]) rfl rfl (ra_n) rfl)) (avN)) (Ffbg_F hr9) (.inr rfl) (bl_c rfl rfl rfl rfl (bl_n)) rfl rfl rfl)) ?_
     refine cq 2 [7] [I (r9.1)] 82 ?_
     exact rf [5,6,7] [1] (j7 _ (Option.some.inj h).symm :)
   · refine aq 1 ?_
     exact rf [5,6,7] [1] (j7 _ (Option.some.inj h).symm :)
 have r5 : ∀ r',y5=.inl r'→∀ st,Ffz_Q code_1 r' st→(Ffz_Q code_1 r) st:=fun r' e st hq=>by rw [hy51 r' e] at hq; exact hq
 replace h:=hy5
 refine sq h (fun h=>?_) (fun h=>?_)
 · refine cq 2 [20] [.hp 81 0 [] 3 0 0] 305 ?_
   obtain ⟨r10,hr10,h⟩:=bS h
   refine oq 321 (I (r10.1)) rfl (e_callV rfl rfl (call_P rfl rfl rfl (avO (hd1 rfl (hd_hp (path:=[]) rfl rfl (ra_n) rfl)) (avN)) (Ffbj_F hr10) (.inr rfl) (bl_c rfl rfl rfl rfl (bl_n)) rfl rfl rfl)) ?_
   refine cq 2 [7] [I (r10.1)] 337 ?_
   exact rf [5,6,7] [81] (j5 _ (Option.some.inj h).symm :)
 · refine aq 1 ?_
   exact rf [5,6,7] [81] (j5 _ (Option.some.inj h).symm :)
theorem Ffz_good {G : Go.Ln.Ground} : Good Try.prog G 6 Ffz_ent:=good_T (fnOf_good (gl_c Ffbj_good (gl_c Ffbe_good (gl_c Ffbl_good (gl_c Ffbg_good (gl_n)))))) agree_mk (Checked.mixed Try.checked) Try.func6 (n:=1) (m:=0) ⟨rfl,rfl,by decide⟩ (fun _=>⟨rfl,rfl⟩) (fun a r h=>Ffz_run a r h)
def Fft_A : (Int × Int × Int)→List V:=cA I (cA I (oA I))
def Fft_R (r : Bool) : V × List V:=(B (r),[])
noncomputable def Fft_ent : Ent:=entT [false,false,false] Fft_A Fft_R fun x=>Fft x.1 x.2.1 x.2.2
theorem Fft_F {n_1 : Int} {low_2 : Int} {high_3 : Int} {r} (h : Fft n_1 low_2 high_3=some r) : (Fft_ent).F (Fft_A (n_1,low_2,high_3))=some (Fft_R r):=entT_F (cA_inj I_inj (cA_inj I_inj (oA_inj I_inj))) h
noncomputable def Fft_c : Code:=bodyOf Try.f27
noncomputable def Fft_E : Env:=mkE Try.prog []
def Fft_Q (x : Int × Int × Int) (r : Bool) : St→Prop:=QF Fft_E Try.f27 [false,false,false] (Fft_A x) (Fft_R r)
theorem Fft_run (n_1 : Int) (low_2 : Int) (high_3 : Int) (r : Bool) (h : Fft n_1 low_2 high_3=some r) : RunF Fft_E Try.f27 [false,false,false] 0 (Fft_A (n_1,low_2,high_3)) (Fft_R r):=by
 show Run _ _ (Fft_Q (n_1,low_2,high_3) r) [.code Fft_c] _
 refine rin (n:=15) [(0,I (n_1)),(1,I (low_2)),(2,I (high_3))] [] 1 (by kernel_rfl) (by kernel_rfl) (by kernel_rfl) rfl ?_
 unfold Fft at h
 refine cq 10 [10] [B ((decide (n_1 ≥ low_2)))] 81 ?_
 obtain ⟨u4,hu4,h⟩:=lJ h
 have j4 : Run Fft_E 0 (Fft_Q (n_1,low_2,high_3) r) (.code (cR (cR Fft_c)) :: []) (sT 15 [(6,B (u4))] [] 1):=by
   obtain rfl:=Option.some.inj h
   exact s_ret rfl ⟨_,fin (vs:=[B (u4)]) rfl (absE (absorb_plain rfl) (absEN)) rfl (ou_f (ou_f (ou_f (ou_n)))),kl_n⟩
 replace h:=hu4
 clear hu4
 refine sp 10 h rfl (fun h=>?_) (fun h=>?_)
 · refine cq 6 [6] [B ((decide (n_1 ≤ high_3)))] 161 ?_
   subst h
   exact rf [6] [] (j4 :)
 · refine cq 6 [6] [B (false)] 161 ?_
   subst h
   exact rf [6] [] (j4 :)
theorem Fft_good {G : Go.Ln.Ground} : Good Try.prog G 27 Fft_ent:=good_T (fnOf_good (gl_n)) agree_mk (Checked.mixed Try.checked) Try.func27 (n:=3) (m:=0) ⟨rfl,rfl,by decide⟩ (fun _=>⟨rfl,rfl⟩) (fun a r h=>Fft_run a.1 a.2.1 a.2.2 r h)
def Ffn_A : Int→List V:=oA I
def Ffn_R (r : Bool) : V × List V:=(B (r),[])
noncomputable def Ffn_ent : Ent:=entT [false] Ffn_A Ffn_R fun x=>Ffn x
theorem Ffn_F {day_1 : Int} {r} (h : Ffn day_1=some r) : (Ffn_ent).F (Ffn_A day_1)=some (Ffn_R r):=entT_F (oA_inj I_inj) h
noncomputable def Ffn_c : Code:=bodyOf Try.f26
noncomputable def Ffn_E : Env:=mkE Try.prog [(27,Fft_ent)]
def Ffn_Q (x : Int) (r : Bool) : St→Prop:=QF Ffn_E Try.f26 [false] (Ffn_A x) (Ffn_R r)
theorem Ffn_run (day_1 : Int) (r : Bool) (h : Ffn day_1=some r) : RunF Ffn_E Try.f26 [false] 0 (Ffn_A day_1) (Ffn_R r):=by
 show Run _ _ (Ffn_Q day_1 r) [.code Ffn_c] _
 refine rin (n:=5) [(0,I (day_1))] [] 1 (by kernel_rfl) (by kernel_rfl) (by kernel_rfl) rfl ?_
 unfold Ffn at h
 refine cq 7 [3] [I (day_1)] 33 ?_
 obtain ⟨r2,hr2,h⟩:=bS h
 refine oq 49 (B (r2)) rfl (e_callV rfl rfl (call_P rfl rfl rfl (avS (shP rfl) (avS (shP rfl) (avS (shP rfl) (avN)))) (Fft_F hr2) (.inr rfl) (bl_n) rfl rfl rfl)) ?_
 refine cq 2 [2] [B (r2)] 65 ?_
 obtain rfl:=Option.some.inj h
 exact s_ret rfl ⟨_,fin (vs:=[B (r2)]) rfl (absE (absorb_plain rfl) (absEN)) rfl (ou_f (ou_n)),kl_n⟩
theorem Ffn_good {G : Go.Ln.Ground} : Good Try.prog G 26 Ffn_ent:=good_T (fnOf_good (gl_c Fft_good (gl_n))) agree_mk (Checked.mixed Try.checked) Try.func26 (n:=1) (m:=0) ⟨rfl,rfl,by decide⟩ (fun _=>⟨rfl,rfl⟩) (fun a r h=>Ffn_run a r h)
def impl_size_A : Int→List V:=oA I
def impl_size_R (r : Int) : V × List V:=(I (r),[])
noncomputable def impl_size_ent : Ent:=entT [false] impl_size_A impl_size_R fun x=>impl_size x
theorem impl_size_F {n_1 : Int} {r} (h : impl_size n_1=some r) : (impl_size_ent).F (impl_size_A n_1)=some (impl_size_R r):=entT_F (oA_inj I_inj) h
noncomputable def impl_size_c : Code:=bodyOf Try.f47
noncomputable def impl_size_E : Env:=mkE Try.prog []
def impl_size_Q (x : Int) (r : Int) : St→Prop:=QF impl_size_E Try.f47 [false] (impl_size_A x) (impl_size_R r)
theorem impl_size_run (n_1 : Int) (r : Int) (h : impl_size n_1=some r) : RunF impl_size_E Try.f47 [false] 0 (impl_size_A n_1) (impl_size_R r):=by
 show Run _ _ (impl_size_Q n_1 r) [.code impl_size_c] _
 refine rin (n:=7) [(0,I (n_1))] [] 1 (by kernel_rfl) (by kernel_rfl) (by kernel_rfl) rfl ?_
 unfold impl_size at h
 refine cq 12 [2] [I ((if (w64 (0 - n_1)) > n_1 then (w64 (0 - n_1)) else n_1))] 97 ?_
 obtain rfl:=Option.some.inj h
 exact s_ret rfl ⟨_,fin (vs:=[I ((if (w64 (0 - n_1)) > n_1 then (w64 (0 - n_1)) else n_1))]) rfl (absE (absorb_plain rfl) (absEN)) rfl (ou_f (ou_n)),kl_n⟩
theorem impl_size_good {G : Go.Ln.Ground} : Good Try.prog G 47 impl_size_ent:=good_T (fnOf_good (gl_n)) agree_mk (Checked.mixed Try.checked) Try.func47 (n:=1) (m:=0) ⟨rfl,rfl,by decide⟩ (fun _=>⟨rfl,rfl⟩) (fun a r h=>impl_size_run a r h)
def Ffj_A : (Int × Int)→List V:=cA I (oA I)
def Ffj_R (r : Int) : V × List V:=(I (r),[])
noncomputable def Ffj_ent : Ent:=entT [false,false] Ffj_A Ffj_R fun x=>Ffj x.1 x.2
theorem Ffj_F {a_1 : Int} {b_2 : Int} {r} (h : Ffj a_1 b_2=some r) : (Ffj_ent).F (Ffj_A (a_1,b_2))=some (Ffj_R r):=entT_F (cA_inj I_inj (oA_inj I_inj)) h
noncomputable def Ffj_c : Code:=bodyOf Try.f76
noncomputable def Ffj_E : Env:=mkE Try.prog [(47,impl_size_ent)]
def Ffj_Q (x : Int × Int) (r : Int) : St→Prop:=QF Ffj_E Try.f76 [false,false] (Ffj_A x) (Ffj_R r)
theorem Ffj_la_run (a_1 : Int) (b_2 : Int)  {Q : St→Prop} {K : List It} (hK : noD K=true) : ∀ (x3 : Int × Int) (y : Int ⊕ Int),Ffj_la a_1 b_2 x3=some y→(∀ r',y=.inl r'→∀ st,Ffj_Q (a_1,b_2) r' st→Q st)→(∀ u : Int,y=.inr u→Run Ffj_E 0 Q K (sT 13 [(0,I (u))] [] 1))→Run Ffj_E 0 Q (.code (cL (cL (cL (cR Ffj_c)))) :: .lp (cL (cL (cL (cR Ffj_c)))) :: .blk 0 :: K) (sT 13 [(0,I (x3.1)),(1,I (x3.2))] [] 1):=by
 refine fix_indP (Ffj_la_fin a_1 b_2) ?_
 intro self ih x3 y h hr hn
 unfold Ffj_la_F at h
 refine cq 6 [6] [B ((x3.2 != 0))] 33 ?_
 refine sq h (fun h=>?_) (fun h=>?_)
 · refine aq 1 ?_
   refine aq 1 ?_
   refine s_draw [0,0,0,6,3,31] rfl (by decide +kernel) ?_
   refine dk 3 [9,8,7] [I (x3.2),I (x3.1),I (x3.2)] ?_
   obtain ⟨q4,hq4,h⟩:=bS h
   refine dq [] [] (I (q4)) rfl (e_bin rfl rfl (b_rem hq4)) ?_
   refine dk 2 [1,0] [I (q4),I (x3.2)] ?_
   refine de 129 rfl rfl ?_
   refine aq 1 ?_
   refine s_lp ?_
   exact rf [0,1] [] (ih _ _ h hr hn :)
 · refine aq 1 ?_
   exact rf [0] [] (hn _ (Option.some.inj h).symm :) (hk:=hK)
theorem Ffj_run (a_1 : Int) (b_2 : Int) (r : Int) (h : Ffj a_1 b_2=some r) : RunF Ffj_E Try.f76 [false,false] 0 (Ffj_A (a_1,b_2)) (Ffj_R r):=by
 show Run _ _ (Ffj_Q (a_1,b_2) r) [.code Ffj_c] _
 refine rin (n:=13) [(0,I (a_1)),(1,I (b_2))] [] 1 (by kernel_rfl) (by kernel_rfl) (by kernel_rfl) rfl ?_
 unfold Ffj at h
 refine cq 6 [] [] 17 ?_
 obtain ⟨y5,hy5,hy51,hy52⟩:=bJ h
 refine s_loop rfl ?_
 refine rf [0,1] [] (Ffj_la_run a_1 b_2 rfl (a_1,b_2) _ hy5 (fun r' e st hq=>by rw [hy51 r' e] at hq; exact hq) fun u5 hu=>?_)
 replace h:=hy52 u5 hu
 refine cq 3 [11] [I (u5)] 17 ?_
 obtain ⟨r6,hr6,h⟩:=bS h
 refine oq 33 (I (r6)) rfl (e_callV rfl rfl (call_P rfl rfl rfl (avS (shP rfl) (avN)) (impl_size_F hr6) (.inr rfl) (bl_n) rfl rfl rfl)) ?_
 refine cq 2 [4] [I (r6)] 49 ?_
 obtain rfl:=Option.some.inj h
 exact s_ret rfl ⟨_,fin (vs:=[I (r6)]) rfl (absE (absorb_plain rfl) (absEN)) rfl (ou_f (ou_f (ou_n))),kl_n⟩
theorem Ffj_good {G : Go.Ln.Ground} : Good Try.prog G 76 Ffj_ent:=good_T (fnOf_good (gl_c impl_size_good (gl_n))) agree_mk (Checked.mixed Try.checked) Try.func76 (n:=2) (m:=0) ⟨rfl,rfl,by decide⟩ (fun _=>⟨rfl,rfl⟩) (fun a r h=>Ffj_run a.1 a.2 r h)
def Ffl_A : Int→List V:=oA I
def Ffl_R (r : Bool) : V × List V:=(B (r),[])
noncomputable def Ffl_ent : Ent:=entT [false] Ffl_A Ffl_R fun x=>Ffl x
theorem Ffl_F {x_1 : Int} {r} (h : Ffl x_1=some r) : (Ffl_ent).F (Ffl_A x_1)=some (Ffl_R r):=entT_F (oA_inj I_inj) h
noncomputable def Ffl_c : Code:=bodyOf Try.f83
noncomputable def Ffl_E : Env:=mkE Try.prog [(27,Fft_ent)]
def Ffl_Q (x : Int) (r : Bool) : St→Prop:=QF Ffl_E Try.f83 [false] (Ffl_A x) (Ffl_R r)
theorem Ffl_run (x_1 : Int) (r : Bool) (h : Ffl x_1=some r) : RunF Ffl_E Try.f83 [false] 0 (Ffl_A x_1) (Ffl_R r):=by
 show Run _ _ (Ffl_Q x_1 r) [.code Ffl_c] _
 refine rin (n:=5) [(0,I (x_1))] [] 1 (by kernel_rfl) (by kernel_rfl) (by kernel_rfl) rfl ?_
 unfold Ffl at h
 refine cq 7 [3] [I (x_1)] 33 ?_
 obtain ⟨r2,hr2,h⟩:=bS h
 refine oq 49 (B (r2)) rfl (e_callV rfl rfl (call_P rfl rfl rfl (avS (shP rfl) (avS (shP rfl) (avS (shP rfl) (avN)))) (Fft_F hr2) (.inr rfl) (bl_n) rfl rfl rfl)) ?_
 refine cq 2 [2] [B (r2)] 65 ?_
 obtain rfl:=Option.some.inj h
 exact s_ret rfl ⟨_,fin (vs:=[B (r2)]) rfl (absE (absorb_plain rfl) (absEN)) rfl (ou_f (ou_n)),kl_n⟩
theorem Ffl_good {G : Go.Ln.Ground} : Good Try.prog G 83 Ffl_ent:=good_T (fnOf_good (gl_c Fft_good (gl_n))) agree_mk (Checked.mixed Try.checked) Try.func83 (n:=1) (m:=0) ⟨rfl,rfl,by decide⟩ (fun _=>⟨rfl,rfl⟩) (fun a r h=>Ffl_run a r h)
def Ffo_A : Fraction→List V:=oA enc_Fraction
def Ffo_R (r : Bool) : V × List V:=(B (r),[])
noncomputable def Ffo_ent : Ent:=entT [false] Ffo_A Ffo_R fun x=>Ffo x
theorem Ffo_F {f_1 : Fraction} {r} (h : Ffo f_1=some r) : (Ffo_ent).F (Ffo_A f_1)=some (Ffo_R r):=entT_F (oA_inj enc_Fraction_inj) h
noncomputable def Ffo_c : Code:=bodyOf Try.f77
noncomputable def Ffo_E : Env:=mkE Try.prog [(27,Fft_ent),(83,Ffl_ent),(76,Ffj_ent)]
def Ffo_Q (x : Fraction) (r : Bool) : St→Prop:=QF Ffo_E Try.f77 [false] (Ffo_A x) (Ffo_R r)
theorem Ffo_run (f_1 : Fraction) (r : Bool) (h : Ffo f_1=some r) : RunF Ffo_E Try.f77 [false] 0 (Ffo_A f_1) (Ffo_R r):=by
 show Run _ _ (Ffo_Q f_1 r) [.code Ffo_c] _
 refine rin (n:=19) [(0,enc_Fraction f_1)] [] 1 (by kernel_rfl) (by kernel_rfl) (by kernel_rfl) rfl ?_
 unfold Ffo at h
 refine ck 9 [1,4] [] [1] [] [.hp 1 0 [] 2 0 0,I (f_1.Den)] [some ⟨0,2,[enc_Fraction f_1]⟩] 65 (by kernel_rfl) ?_
 obtain ⟨r2,hr2,h⟩:=bS h
 refine oq 81 (B (r2)) rfl (e_callV rfl rfl (call_P rfl rfl rfl (avS (shP rfl) (avS (shP rfl) (avS (shP rfl) (avN)))) (Fft_F hr2) (.inr rfl) (bl_n) rfl rfl rfl)) ?_
 refine cq 1 [6] [B (r2)] 97 ?_
 obtain ⟨y3,hy3,hy31,hy32⟩:=bJ h
 have j3 : ∀ u3,y3=.inr u3→Run Ffo_E 0 (Ffo_Q f_1 r) (.code (cR (cR Ffo_c)) :: []) (sT 19 [(2,B (u3))] [] 1):=by
   intro u3 hu
   replace h:=hy32 u3 hu
   obtain rfl:=Option.some.inj h
   exact s_ret rfl ⟨_,fin (vs:=[B (u3)]) rfl (absE (absorb_plain rfl) (absEN)) rfl (ou_f (ou_n)),kl_n⟩
 have r3 : ∀ r',y3=.inl r'→∀ st,Ffo_Q f_1 r' st→(Ffo_Q f_1 r) st:=fun r' e st hq=>by rw [hy31 r' e] at hq; exact hq
 replace h:=hy3
 refine sp 6 h rfl (fun h=>?_) (fun h=>?_)
 · refine cq 2 [8] [I (f_1.Num)] 129 ?_
   obtain ⟨r4,hr4,h⟩:=bS h
   refine oy 145 (B (r4)) rfl (e_callV rfl rfl (call_P rfl rfl rfl (avS (shP rfl) (avN)) (Ffl_F hr4) (.inr rfl) (bl_n) rfl rfl rfl)) ?_
   refine cq 2 [11] [B (r4)] 177 ?_
   obtain ⟨y5,hy5,hy51,hy52⟩:=bL h
   have j5 : ∀ u5,y5=.inr u5→Run Ffo_E 0 (Ffo_Q f_1 r) (.code (cR (cR Ffo_c)) :: []) (sT 19 [(2,B (u5))] [] 1):=by
     intro u5 hu
     replace h:=hy52 u5 hu
     exact rf [2] [] (j3 _ (Option.some.inj h).symm :)
   have r5 : ∀ r',y5=.inl r'→∀ st,Ffo_Q f_1 r' st→(Ffo_Q f_1 r) st:=fun r' e st hq=>r3 r' (hy51 r' e) st hq
   replace h:=hy5
   refine sp 11 h rfl (fun h=>?_) (fun h=>?_)
   · refine cq 4 [13,15] [I (f_1.Num),I (f_1.Den)] 241 ?_
     obtain ⟨r6,hr6,h⟩:=bS h
     refine oy 257 (I (r6)) rfl (e_callV rfl rfl (call_P rfl rfl rfl (avS (shP rfl) (avS (shP rfl) (avN))) (Ffj_F hr6) (.inr rfl) (bl_n) rfl rfl rfl)) ?_
     refine cq 4 [2] [B ((r6 == 1))] 305 ?_
     exact rf [2] [] (j5 _ (Option.some.inj h).symm :)
   · refine cq 9 [2] [B (false)] 305 ?_
     exact rf [2] [] (j5 _ (Option.some.inj h).symm :)
 · refine cq 14 [2] [B (false)] 305 ?_
   exact rf [2] [] (j3 _ (Option.some.inj h).symm :)
theorem Ffo_good {G : Go.Ln.Ground} : Good Try.prog G 77 Ffo_ent:=good_T (fnOf_good (gl_c Fft_good (gl_c Ffl_good (gl_c Ffj_good (gl_n))))) agree_mk (Checked.mixed Try.checked) Try.func77 (n:=1) (m:=0) ⟨rfl,rfl,by decide⟩ (fun _=>⟨rfl,rfl⟩) (fun a r h=>Ffo_run a r h)
def Ffk_A : (Int × Int)→List V:=cA I (oA I)
def Ffk_R (r : Fraction × Bool) : V × List V:=(.tup [enc_Fraction r.1,B (r.2)],[])
noncomputable def Ffk_ent : Ent:=entT [false,false] Ffk_A Ffk_R fun x=>Ffk x.1 x.2
theorem Ffk_F {num_1 : Int} {den_2 : Int} {r} (h : Ffk num_1 den_2=some r) : (Ffk_ent).F (Ffk_A (num_1,den_2))=some (Ffk_R r):=entT_F (cA_inj I_inj (oA_inj I_inj)) h
noncomputable def Ffk_c : Code:=bodyOf Try.f54
noncomputable def Ffk_E : Env:=mkE Try.prog [(76,Ffj_ent),(77,Ffo_ent)]
def Ffk_Q (x : Int × Int) (r : Fraction × Bool) : St→Prop:=QF Ffk_E Try.f54 [false,false] (Ffk_A x) (Ffk_R r)
theorem Ffk_run (num_1 : Int) (den_2 : Int) (r : Fraction × Bool) (h : Ffk num_1 den_2=some r) : RunF Ffk_E Try.f54 [false,false] 0 (Ffk_A (num_1,den_2)) (Ffk_R r):=by
 show Run _ _ (Ffk_Q (num_1,den_2) r) [.code Ffk_c] _
 refine rin (n:=27) [(0,I (num_1)),(1,I (den_2))] [] 1 (by kernel_rfl) (by kernel_rfl) (by kernel_rfl) rfl ?_
 unfold Ffk at h
 refine ck 9 [4,8,9] [] [1] [] [.hp 1 0 [] 2 0 0,I (num_1),I (den_2)] [some ⟨0,2,[.agg [I (0),I (0)]]⟩] 65 (by kernel_rfl) ?_
 obtain ⟨r3,hr3,h⟩:=bS h
 refine oq 81 (I (r3)) rfl (e_callV rfl rfl (call_P rfl rfl rfl (avS (shP rfl) (avS (shP rfl) (avN))) (Ffj_F hr3) (.inr rfl) (bl_n) rfl rfl rfl)) ?_
 refine cq 8 [6,12] [I (r3),B ((decide (den_2 < 0)))] 129 ?_
 obtain ⟨u4,hu4,h⟩:=lJ h
 have j4 : Run Ffk_E 0 (Ffk_Q (num_1,den_2) r) (.code (cR (cR (cR Ffk_c))) :: []) (sT 27 [(0,I (num_1)),(1,I (den_2)),(4,.hp 1 0 [] 2 0 0),(6,I (u4))] [⟨0,2,[.agg [I (0),I (0)]]⟩] 2):=by
   refine aq 1 ?_
   refine s_draw [0,0,3,0,0,24,63,0,255] rfl (by decide +kernel) ?_
   refine dk 2 [16,15] [I (u4),I (num_1)] ?_
   obtain ⟨q5,hq5,h⟩:=bS h
   refine dq [] [] (I (q5)) rfl (e_bin rfl rfl (b_quo hq5)) ?_
   refine dk 2 [19,18] [I (u4),I (den_2)] ?_
   obtain ⟨q6,hq6,h⟩:=bS h
   refine dq [] [] (I (q6)) rfl (e_bin rfl rfl (b_quo hq6)) ?_
   refine dk 1 [21] [.agg [I (q5),I (q6)]] ?_
   refine dq [] [] (.hp 114 0 [] 2 0 0) rfl (e_allocP (z:=.agg [I (0),I (0)]) rfl rfl rfl) ?_
   refine dz [114] [114] rfl (e_st rfl rfl (st_at (path:=[]) (pl:=true) (e':=.agg [I (q5),I (q6)]) (es2':=[.agg [I (q5),I (q6)]]) rfl (absorb_plain rfl) rfl rfl rfl (ra_n) rfl rfl rfl rfl rfl (sr_n) 0 rfl)) ?_
   refine de 146 rfl rfl ?_
   refine cq 4 [22] [.agg [I (q5),I (q6)]] 162 ?_
   obtain ⟨r7,hr7,h⟩:=bS h
   refine oq 178 (B (r7)) rfl (e_callV rfl rfl (call_P rfl rfl rfl (avS (shP rfl) (avN)) (Ffo_F hr7) (.inr rfl) (bl_n) rfl rfl rfl)) ?_
   refine cq 2 [24] [B ((!r7))] 194 ?_
   refine sq h (fun h=>?_) (fun h=>?_)
   · refine ck 6 [5] [] [1] [] [B (false)] [some ⟨0,2,[.agg [I (0),I (0)]]⟩] 242 (by kernel_rfl) ?_
     obtain rfl:=Option.some.inj h
     exact s_ret rfl ⟨_,fin (vs:=[.agg [I (0),I (0)],B (false)]) (rs_c (rs_cell rfl rfl rfl) (rs_c (rfl) (rs_n))) (absE (absorb_plain rfl) (absE (absorb_plain rfl) (absEN))) rfl (ou_f (ou_f (ou_n))),kl_n⟩
   · refine aq 1 ?_
     refine ck 6 [5] [] [1] [] [B (true)] [some ⟨0,2,[.agg [I (q5),I (q6)]]⟩] 242 (by kernel_rfl) ?_
     obtain rfl:=Option.some.inj h
     exact s_ret rfl ⟨_,fin (vs:=[.agg [I (q5),I (q6)],B (true)]) (rs_c (rs_cell rfl rfl rfl) (rs_c (rfl) (rs_n))) (absE (absorb_plain rfl) (absE (absorb_plain rfl) (absEN))) rfl (ou_f (ou_f (ou_n))),kl_n⟩
 replace h:=hu4
 clear hu4
 refine scp h rfl rfl (fun h=>?_) (fun h=>?_)
 · refine cq 5 [6] [I ((w64 (0 - r3)))] 177 ?_
   subst h
   exact rf [0,1,4,6] [1] (j4 :)
 · refine aq 1 ?_
   subst h
   exact rf [0,1,4,6] [1] (j4 :)
theorem Ffk_good {G : Go.Ln.Ground} : Good Try.prog G 54 Ffk_ent:=good_T (fnOf_good (gl_c Ffj_good (gl_c Ffo_good (gl_n)))) agree_mk (Checked.mixed Try.checked) Try.func54 (n:=2) (m:=0) ⟨rfl,rfl,by decide⟩ (fun _=>⟨rfl,rfl⟩) (fun a r h=>Ffk_run a.1 a.2 r h)
def Ffh_A : (Int × Int)→List V:=cA I (oA I)
def Ffh_R (r : Int) : V × List V:=(I (r),[])
noncomputable def Ffh_ent : Ent:=entT [false,false] Ffh_A Ffh_R fun x=>Ffh x.1 x.2
theorem Ffh_F {year_1 : Int} {month_2 : Int} {r} (h : Ffh year_1 month_2=some r) : (Ffh_ent).F (Ffh_A (year_1,month_2))=some (Ffh_R r):=entT_F (cA_inj I_inj (oA_inj I_inj)) h
noncomputable def Ffh_c : Code:=bodyOf Try.f37
noncomputable abbrev Ffh_ka : Code:=cR (cR (cR (cL (cR (cL (cR Ffh_c))))))
noncomputable def Ffh_E : Env:=mkE Try.prog []
def Ffh_Q (x : Int × Int) (r : Int) : St→Prop:=QF Ffh_E Try.f37 [false,false] (Ffh_A x) (Ffh_R r)
theorem Ffh_run (year_1 : Int) (month_2 : Int) (r : Int) (h : Ffh year_1 month_2=some r) : RunF Ffh_E Try.f37 [false,false] 0 (Ffh_A (year_1,month_2)) (Ffh_R r):=by
 show Run _ _ (Ffh_Q (year_1,month_2) r) [.code Ffh_c] _
 refine rin (n:=16) [(0,I (year_1)),(1,I (month_2))] [] 1 (by kernel_rfl) (by kernel_rfl) (by kernel_rfl) rfl ?_
 unfold Ffh at h
 refine cq 15 [5,6] [I (month_2),B ((month_2 == 2))] 65 ?_
 refine sq h (fun h=>?_) (fun h=>?_)
 · refine cq 7 [10] [B (((year_1.tmod 4) == 0))] 113 ?_
   refine sq h (fun h=>?_) (fun h=>?_)
   · refine cq 4 [4] [I (29)] 129 ?_
     obtain rfl:=Option.some.inj h
     exact s_ret rfl ⟨_,fin (vs:=[I (29)]) rfl (absE (absorb_plain rfl) (absEN)) rfl (ou_f (ou_f (ou_n))),kl_n⟩
   · refine aq 1 ?_
     refine cq 4 [4] [I (28)] 129 ?_
     obtain rfl:=Option.some.inj h
     exact s_ret rfl ⟨_,fin (vs:=[I (28)]) rfl (absE (absorb_plain rfl) (absEN)) rfl (ou_f (ou_f (ou_n))),kl_n⟩
 · refine cq 6 [11] [B ((month_2 == 4))] 97 ?_
   obtain ⟨u3,hu3,h⟩:=lJ h
   have j3 : Run Ffh_E 0 (Ffh_Q (year_1,month_2) r) (.code Ffh_ka :: .blk 0 :: .code (cR (cR Ffh_c)) :: []) (sT 16 [(11,B (u3))] [] 1):=by
     refine sq h (fun h=>?_) (fun h=>?_)
     · refine cq 4 [4] [I (30)] 17 ?_
       obtain rfl:=Option.some.inj h
       exact s_ret rfl ⟨_,fin (vs:=[I (30)]) rfl (absE (absorb_plain rfl) (absEN)) rfl (ou_f (ou_f (ou_n))),kl_n⟩
     · refine aq 1 ?_
       refine cq 5 [4] [I (31)] 17 ?_
       obtain rfl:=Option.some.inj h
       exact s_ret rfl ⟨_,fin (vs:=[I (31)]) rfl (absE (absorb_plain rfl) (absEN)) rfl (ou_f (ou_f (ou_n))),kl_n⟩
   replace h:=hu3
   clear hu3
   refine scp h rfl rfl (fun h=>?_) (fun h=>?_)
   · refine aq 1 ?_
     subst h
     exact rf [11] [] (j3 :)
   · refine cq 5 [11] [B ((month_2 == 6))] 129 ?_
     obtain ⟨u4,hu4,h⟩:=lJ h
     have j4 : Run Ffh_E 0 (Ffh_Q (year_1,month_2) r) (.code Ffh_ka :: .blk 0 :: .code (cR (cR Ffh_c)) :: []) (sT 16 [(11,B (u4))] [] 1):=by
       subst h
       exact rf [11] [] (j3 :)
     replace h:=hu4
     clear hu4
     refine scp h rfl rfl (fun h=>?_) (fun h=>?_)
     · refine aq 1 ?_
       subst h
       exact rf [11] [] (j4 :)
     · refine cq 5 [11] [B ((month_2 == 9))] 161 ?_
       obtain ⟨u5,hu5,h⟩:=lJ h
       have j5 : Run Ffh_E 0 (Ffh_Q (year_1,month_2) r) (.code Ffh_ka :: .blk 0 :: .code (cR (cR Ffh_c)) :: []) (sT 16 [(11,B (u5))] [] 1):=by
         subst h
         exact rf [11] [] (j4 :)
       replace h:=hu5
       clear hu5
       refine scp h rfl rfl (fun h=>?_) (fun h=>?_)
       · refine aq 1 ?_
         subst h
         exact rf [11] [] (j5 :)
       · refine cq 4 [11] [B ((month_2 == 11))] 193 ?_
         subst h
         exact rf [11] [] (j5 :)
theorem Ffh_good {G : Go.Ln.Ground} : Good Try.prog G 37 Ffh_ent:=good_T (fnOf_good (gl_n)) agree_mk (Checked.mixed Try.checked) Try.func37 (n:=2) (m:=0) ⟨rfl,rfl,by decide⟩ (fun _=>⟨rfl,rfl⟩) (fun a r h=>Ffh_run a.1 a.2 r h)
def Ffi_A : Int→List V:=oA I
def Ffi_R (r : Int) : V × List V:=(I (r),[])
noncomputable def Ffi_ent : Ent:=entT [false] Ffi_A Ffi_R fun x=>Ffi x
theorem Ffi_F {year_1 : Int} {r} (h : Ffi year_1=some r) : (Ffi_ent).F (Ffi_A year_1)=some (Ffi_R r):=entT_F (oA_inj I_inj) h
noncomputable def Ffi_c : Code:=bodyOf Try.f62
noncomputable def Ffi_E : Env:=mkE Try.prog [(37,Ffh_ent)]
def Ffi_Q (x : Int) (r : Int) : St→Prop:=QF Ffi_E Try.f62 [false] (Ffi_A x) (Ffi_R r)
theorem Ffi_run (year_1 : Int) (r : Int) (h : Ffi year_1=some r) : RunF Ffi_E Try.f62 [false] 0 (Ffi_A year_1) (Ffi_R r):=by
 show Run _ _ (Ffi_Q year_1 r) [.code Ffi_c] _
 refine rin (n:=6) [(0,I (year_1))] [] 1 (by kernel_rfl) (by kernel_rfl) (by kernel_rfl) rfl ?_
 unfold Ffi at h
 refine cq 7 [3] [I (year_1)] 33 ?_
 obtain ⟨r2,hr2,h⟩:=bS h
 refine oq 49 (I (r2)) rfl (e_callV rfl rfl (call_P rfl rfl rfl (avS (shP rfl) (avS (shP rfl) (avN))) (Ffh_F hr2) (.inr rfl) (bl_n) rfl rfl rfl)) ?_
 refine cq 3 [2] [I ((w64 (337 + r2)))] 81 ?_
 obtain rfl:=Option.some.inj h
 exact s_ret rfl ⟨_,fin (vs:=[I ((w64 (337 + r2)))]) rfl (absE (absorb_plain rfl) (absEN)) rfl (ou_f (ou_n)),kl_n⟩
theorem Ffi_good {G : Go.Ln.Ground} : Good Try.prog G 62 Ffi_ent:=good_T (fnOf_good (gl_c Ffh_good (gl_n))) agree_mk (Checked.mixed Try.checked) Try.func62 (n:=1) (m:=0) ⟨rfl,rfl,by decide⟩ (fun _=>⟨rfl,rfl⟩) (fun a r h=>Ffi_run a r h)
def Ffe_A : Int→List V:=oA I
def Ffe_R (r : Date) : V × List V:=(enc_Date r,[])
noncomputable def Ffe_ent : Ent:=entT [false] Ffe_A Ffe_R fun x=>Ffe x
theorem Ffe_F {day_1 : Int} {r} (h : Ffe day_1=some r) : (Ffe_ent).F (Ffe_A day_1)=some (Ffe_R r):=entT_F (oA_inj I_inj) h
noncomputable def Ffe_c : Code:=bodyOf Try.f36
noncomputable def Ffe_E : Env:=mkE Try.prog [(62,Ffi_ent),(37,Ffh_ent)]
def Ffe_Q (x : Int) (r : Date) : St→Prop:=QF Ffe_E Try.f36 [false] (Ffe_A x) (Ffe_R r)
theorem Ffe_la_run (day_1 : Int)  {Q : St→Prop} {K : List It} (hK : noD K=true) : ∀ (x2 : Int × Int) (y : Date ⊕ (Int × Int)),Ffe_la day_1 x2=some y→(∀ r',y=.inl r'→∀ st,Ffe_Q day_1 r' st→Q st)→(∀ u : Int × Int,y=.inr u→Run Ffe_E 0 Q K (sT 41 [(0,I (u.1)),(2,.hp 1 0 [] 3 0 0),(3,.hp 2 0 [] 3 0 0)] [⟨0,3,[.agg [I (0),I (0),I (0)]]⟩,⟨0,3,[.agg [I (u.2),I (1),I (0)]]⟩] 3))→Run Ffe_E 0 Q (.code (cL (cL (cL (cR (cR Ffe_c))))) :: .lp (cL (cL (cL (cR (cR Ffe_c))))) :: .blk 0 :: K) (sT 41 [(0,I (x2.1)),(2,.hp 1 0 [] 3 0 0),(3,.hp 2 0 [] 3 0 0)] [⟨0,3,[.agg [I (0),I (0),I (0)]]⟩,⟨0,3,[.agg [I (x2.2),I (1),I (0)]]⟩] 3):=by
 refine fix_indP (Ffe_la_fin day_1) ?_
 intro self ih x2 y h hr hn
 unfold Ffe_la_F at h
 refine cq 6 [5,7] [I (x2.1),I (x2.2)] 51 ?_
 obtain ⟨r3,hr3,h⟩:=bS h
 refine oq 67 (I (r3)) rfl (e_callV rfl rfl (call_P rfl rfl rfl (avS (shP rfl) (avN)) (Ffi_F hr3) (.inr rfl) (bl_n) rfl rfl rfl)) ?_
 refine cq 2 [9] [B ((decide (x2.1 ≥ r3)))] 83 ?_
 refine sq h (fun h=>?_) (fun h=>?_)
 · refine aq 1 ?_
   refine cq 6 [14,16] [I (x2.1),I (x2.2)] 131 ?_
   obtain ⟨r4,hr4,h⟩:=bS h
   refine oq 147 (I (r4)) rfl (e_callV rfl rfl (call_P rfl rfl rfl (avS (shP rfl) (avN)) (Ffi_F hr4) (.inr rfl) (bl_n) rfl rfl rfl)) ?_
   refine ck 11 [0] [] [2] [] [I ((w64 (x2.1 - r4)))] [some ⟨0,3,[.agg [I ((w64 (x2.2 + 1))),I (1),I (0)]]⟩] 259 (by kernel_rfl) ?_
   refine s_lp ?_
   exact rf [0,2,3] [1,2] (ih _ _ h hr hn :)
 · refine aq 1 ?_
   exact rf [0,2,3] [1,2] (hn _ (Option.some.inj h).symm :) (hk:=hK)
theorem Ffe_lb_run (day_1 : Int) (u5 : Int × Int) {Q : St→Prop} {K : List It} (hK : noD K=true) : ∀ (x6 : Int × Int) (y : Date ⊕ (Int × Int)),Ffe_lb day_1 u5 x6=some y→(∀ r',y=.inl r'→∀ st,Ffe_Q day_1 r' st→Q st)→(∀ u : Int × Int,y=.inr u→Run Ffe_E 0 Q K (sT 41 [(0,I (u.1)),(2,.hp 1 0 [] 3 0 0),(3,.hp 2 0 [] 3 0 0)] [⟨0,3,[.agg [I (0),I (0),I (0)]]⟩,⟨0,3,[.agg [I (u5.2),I (u.2),I (0)]]⟩] 3))→Run Ffe_E 0 Q (.code (cL (cL (cL (cR (cR (cR Ffe_c)))))) :: .lp (cL (cL (cL (cR (cR (cR Ffe_c)))))) :: .blk 2 :: K) (sT 41 [(0,I (x6.1)),(2,.hp 1 0 [] 3 0 0),(3,.hp 2 0 [] 3 0 0)] [⟨0,3,[.agg [I (0),I (0),I (0)]]⟩,⟨0,3,[.agg [I (u5.2),I (x6.2),I (0)]]⟩] 3):=by
 refine fix_indP (Ffe_lb_fin day_1 u5) ?_
 intro self ih x6 y h hr hn
 unfold Ffe_lb_F at h
 refine cq 8 [19,21,23] [I (x6.1),I (u5.2),I (x6.2)] 83 ?_
 obtain ⟨r7,hr7,h⟩:=bS h
 refine oq 99 (I (r7)) rfl (e_callV rfl rfl (call_P rfl rfl rfl (avS (shP rfl) (avS (shP rfl) (avN))) (Ffh_F hr7) (.inr rfl) (bl_n) rfl rfl rfl)) ?_
 refine cq 2 [25] [B ((decide (x6.1 ≥ r7)))] 115 ?_
 refine sq h (fun h=>?_) (fun h=>?_)
 · refine aq 1 ?_
   refine cq 8 [30,32,34] [I (x6.1),I (u5.2),I (x6.2)] 195 ?_
   obtain ⟨r8,hr8,h⟩:=bS h
   refine oq 211 (I (r8)) rfl (e_callV rfl rfl (call_P rfl rfl rfl (avS (shP rfl) (avS (shP rfl) (avN))) (Ffh_F hr8) (.inr rfl) (bl_n) rfl rfl rfl)) ?_
   refine ck 11 [0] [] [2] [] [I ((w64 (x6.1 - r8)))] [some ⟨0,3,[.agg [I (u5.2),I ((w64 (x6.2 + 1))),I (0)]]⟩] 323 (by kernel_rfl) ?_
   refine s_lp ?_
   exact rf [0,2,3] [1,2] (ih _ _ h hr hn :)
 · refine aq 1 ?_
   exact rf [0,2,3] [1,2] (hn _ (Option.some.inj h).symm :) (hk:=hK)
theorem Ffe_run (day_1 : Int) (r : Date) (h : Ffe day_1=some r) : RunF Ffe_E Try.f36 [false] 0 (Ffe_A day_1) (Ffe_R r):=by
 show Run _ _ (Ffe_Q day_1 r) [.code Ffe_c] _
 refine rin (n:=41) [(0,I (day_1))] [] 1 (by kernel_rfl) (by kernel_rfl) (by kernel_rfl) rfl ?_
 unfold Ffe at h
 refine ck 12 [2,3] [] [1,33] [] [.hp 1 0 [] 3 0 0,.hp 33 0 [] 3 0 0] [some ⟨0,3,[.agg [I (0),I (0),I (0)]]⟩,some ⟨0,3,[.agg [I (2000),I (1),I (0)]]⟩] 65 (by kernel_rfl) ?_
 obtain ⟨y5,hy5,hy51,hy52⟩:=bJ h
 refine s_loop rfl ?_
 refine rf [0,2,3] [1,33] (Ffe_la_run day_1 rfl (day_1,2000) _ hy5 (fun r' e st hq=>by rw [hy51 r' e] at hq; exact hq) fun u5 hu=>?_)
 replace h:=hy52 u5 hu
 refine aq 2 ?_
 obtain ⟨y9,hy9,hy91,hy92⟩:=bJ h
 refine s_loop rfl ?_
 refine rf [0,2,3] [1,2] (Ffe_lb_run day_1 u5 rfl (u5.1,1) _ hy9 (fun r' e st hq=>by rw [hy91 r' e] at hq; exact hq) fun u9 hu=>?_)
 replace h:=hy92 u9 hu
 refine ck 12 [] [] [1,2] [] [] [some ⟨0,3,[.agg [I (u5.2),I (u9.2),I ((w64 (u9.1 + 1)))]]⟩,some ⟨0,3,[.agg [I (u5.2),I (u9.2),I ((w64 (u9.1 + 1)))]]⟩] 99 (by kernel_rfl) ?_
 obtain rfl:=Option.some.inj h
 exact s_ret rfl ⟨_,fin (vs:=[.agg [I (u5.2),I (u9.2),I ((w64 (u9.1 + 1)))]]) (rs_c (rs_cell rfl rfl rfl) (rs_n)) (absE (absorb_plain rfl) (absEN)) rfl (ou_f (ou_n)),kl_n⟩
theorem Ffe_good {G : Go.Ln.Ground} : Good Try.prog G 36 Ffe_ent:=good_T (fnOf_good (gl_c Ffi_good (gl_c Ffh_good (gl_n)))) agree_mk (Checked.mixed Try.checked) Try.func36 (n:=1) (m:=0) ⟨rfl,rfl,by decide⟩ (fun _=>⟨rfl,rfl⟩) (fun a r h=>Ffe_run a r h)
def Fff_A : (Int × Int × Int)→List V:=cA I (cA I (oA I))
def Fff_R (r : Fraction × Bool) : V × List V:=(.tup [enc_Fraction r.1,B (r.2)],[])
noncomputable def Fff_ent : Ent:=entT [false,false,false] Fff_A Fff_R fun x=>Fff x.1 x.2.1 x.2.2
theorem Fff_F {from_1 : Int} {to_2 : Int} {convention_3 : Int} {r} (h : Fff from_1 to_2 convention_3=some r) : (Fff_ent).F (Fff_A (from_1,to_2,convention_3))=some (Fff_R r):=entT_F (cA_inj I_inj (cA_inj I_inj (oA_inj I_inj))) h
noncomputable def Fff_c : Code:=bodyOf Try.f28
noncomputable abbrev Fff_ka : Code:=cL (cL (cR (cL (cR (cR (cR Fff_c))))))
noncomputable def Fff_E : Env:=mkE Try.prog [(54,Ffk_ent),(36,Ffe_ent)]
def Fff_Q (x : Int × Int × Int) (r : Fraction × Bool) : St→Prop:=QF Fff_E Try.f28 [false,false,false] (Fff_A x) (Fff_R r)
theorem Fff_la_run (from_1 : Int) (to_2 : Int) (convention_3 : Int)  {Q : St→Prop} {K : List It} (hK : noD K=true) : ∀ (x9 : Int × Int) (y : (Fraction × Bool) ⊕ Int),Fff_la from_1 to_2 convention_3 x9=some y→(∀ r',y=.inl r'→∀ st,Fff_Q (from_1,to_2,convention_3) r' st→Q st)→(∀ u : Int,y=.inr u→Run Fff_E 0 Q K (sT 78 [(6,.hp 1 0 [] 2 0 0),(10,I (u))] [⟨0,2,[.agg [I (0),I (0)]]⟩] 2))→Run Fff_E 0 Q (.code Fff_ka :: .lp Fff_ka :: .blk 1 :: K) (sT 78 [(1,I (to_2)),(6,.hp 1 0 [] 2 0 0),(10,I (x9.1)),(11,I (x9.2))] [⟨0,2,[.agg [I (0),I (0)]]⟩] 2):=by
 refine fix_indP (Fff_la_fin from_1 to_2 convention_3) ?_
 intro self ih x9 y h hr hn
 unfold Fff_la_F at h
 refine cq 7 [62] [B ((decide (x9.2 < to_2)))] 50 ?_
 refine sq h (fun h=>?_) (fun h=>?_)
 · refine aq 1 ?_
   refine cq 5 [65] [I (x9.2)] 66 ?_
   obtain ⟨r10,hr10,h⟩:=bS h
   refine oq 82 (enc_Date r10) rfl (e_callV rfl rfl (call_P rfl rfl rfl (avS (shP rfl) (avN)) (Ffe_F hr10) (.inr rfl) (bl_n) rfl rfl rfl)) ?_
   refine cq 4 [69] [B (((r10.Year.tmod 4) == 0))] 130 ?_
   obtain ⟨u11,hu11,h⟩:=lJ h
   have j11 : Run Fff_E 0 Q (.blk 2 :: .code (cR (cR Fff_ka)) :: .lp Fff_ka :: .blk 1 :: K) (sT 78 [(1,I (to_2)),(6,.hp 1 0 [] 2 0 0),(10,I (u11)),(11,I (x9.2))] [⟨0,2,[.agg [I (0),I (0)]]⟩] 2):=by
     refine cq 6 [11] [I ((w64 (x9.2 + 1)))] 50 ?_
     refine s_lp ?_
     exact rf [1,6,10,11] [1] (ih _ _ h hr hn :)
   replace h:=hu11
   clear hu11
   refine scp h rfl rfl (fun h=>?_) (fun h=>?_)
   · refine cq 5 [10] [I ((w64 (x9.1 + 365)))] 178 ?_
     subst h
     exact rf [1,6,10,11] [1] (j11 :)
   · refine cq 5 [10] [I ((w64 (x9.1 + 366)))] 178 ?_
     subst h
     exact rf [1,6,10,11] [1] (j11 :)
 · refine aq 1 ?_
   exact rf [6,10] [1] (hn _ (Option.some.inj h).symm :) (hk:=hK)
theorem Fff_run (from_1 : Int) (to_2 : Int) (convention_3 : Int) (r : Fraction × Bool) (h : Fff from_1 to_2 convention_3=some r) : RunF Fff_E Try.f28 [false,false,false] 0 (Fff_A (from_1,to_2,convention_3)) (Fff_R r):=by
 show Run _ _ (Fff_Q (from_1,to_2,convention_3) r) [.code Fff_c] _
 refine rin (n:=78) [(0,I (from_1)),(1,I (to_2)),(2,I (convention_3))] [] 1 (by kernel_rfl) (by kernel_rfl) (by kernel_rfl) rfl ?_
 unfold Fff at h
 refine ck 16 [6,12,13] [] [1] [] [.hp 1 0 [] 2 0 0,I (convention_3),B ((convention_3 == 1))] [some ⟨0,2,[.agg [I (0),I (0)]]⟩] 81 (by kernel_rfl) ?_
 refine sq h (fun h=>?_) (fun h=>?_)
 · refine cq 5 [17] [I ((w64 (to_2 - from_1)))] 129 ?_
   obtain ⟨r4,hr4,h⟩:=bS h
   refine oq 145 (.tup [enc_Fraction r4.1,B (r4.2)]) rfl (e_callV rfl rfl (call_P rfl rfl rfl (avS (shP rfl) (avS (shP rfl) (avN))) (Ffk_F hr4) (.inr rfl) (bl_n) rfl rfl rfl)) ?_
   refine ck 5 [7] [] [1] [] [B (r4.2)] [some ⟨0,2,[enc_Fraction r4.1]⟩] 209 (by kernel_rfl) ?_
   obtain rfl:=Option.some.inj h
   exact s_ret rfl ⟨_,fin (vs:=[enc_Fraction r4.1,B (r4.2)]) (rs_c (rs_cell rfl rfl rfl) (rs_c (rfl) (rs_n))) (absE (absorb_plain rfl) (absE (absorb_plain rfl) (absEN))) rfl (ou_f (ou_f (ou_f (ou_n)))),kl_n⟩
 · refine cq 5 [21] [B ((convention_3 == 2))] 113 ?_
   refine sq h (fun h=>?_) (fun h=>?_)
   · refine cq 5 [25] [I ((w64 (to_2 - from_1)))] 161 ?_
     obtain ⟨r5,hr5,h⟩:=bS h
     refine oq 177 (.tup [enc_Fraction r5.1,B (r5.2)]) rfl (e_callV rfl rfl (call_P rfl rfl rfl (avS (shP rfl) (avS (shP rfl) (avN))) (Ffk_F hr5) (.inr rfl) (bl_n) rfl rfl rfl)) ?_
     refine ck 5 [7] [] [1] [] [B (r5.2)] [some ⟨0,2,[enc_Fraction r5.1]⟩] 241 (by kernel_rfl) ?_
     obtain rfl:=Option.some.inj h
     exact s_ret rfl ⟨_,fin (vs:=[enc_Fraction r5.1,B (r5.2)]) (rs_c (rs_cell rfl rfl rfl) (rs_c (rfl) (rs_n))) (absE (absorb_plain rfl) (absE (absorb_plain rfl) (absEN))) rfl (ou_f (ou_f (ou_f (ou_n)))),kl_n⟩
   · refine cq 5 [29] [B ((convention_3 == 3))] 145 ?_
     refine sq h (fun h=>?_) (fun h=>?_)
     · refine cq 3 [31] [I (from_1)] 161 ?_
       obtain ⟨r6,hr6,h⟩:=bS h
       refine oq 177 (enc_Date r6) rfl (e_callV rfl rfl (call_P rfl rfl rfl (avS (shP rfl) (avN)) (Ffe_F hr6) (.inr rfl) (bl_n) rfl rfl rfl)) ?_
       refine cq 1 [33] [I (to_2)] 193 ?_
       obtain ⟨r7,hr7,h⟩:=bS h
       refine oq 209 (enc_Date r7) rfl (e_callV rfl rfl (call_P rfl rfl rfl (avS (shP rfl) (avN)) (Ffe_F hr7) (.inr rfl) (bl_n) rfl rfl rfl)) ?_
       refine cq 28 [55] [I ((w64 ((w64 ((w64 ((w64 (360 * (w64 (r7.Year - r6.Year)))) + (w64 (30 * (w64 (r7.Month - r6.Month)))))) + (if 30 < r7.Day then 30 else r7.Day))) - (if 30 < r6.Day then 30 else r6.Day))))] 609 ?_
       obtain ⟨r8,hr8,h⟩:=bS h
       refine oq 625 (.tup [enc_Fraction r8.1,B (r8.2)]) rfl (e_callV rfl rfl (call_P rfl rfl rfl (avS (shP rfl) (avS (shP rfl) (avN))) (Ffk_F hr8) (.inr rfl) (bl_n) rfl rfl rfl)) ?_
       refine ck 5 [7] [] [1] [] [B (r8.2)] [some ⟨0,2,[enc_Fraction r8.1]⟩] 689 (by kernel_rfl) ?_
       obtain rfl:=Option.some.inj h
       exact s_ret rfl ⟨_,fin (vs:=[enc_Fraction r8.1,B (r8.2)]) (rs_c (rs_cell rfl rfl rfl) (rs_c (rfl) (rs_n))) (absE (absorb_plain rfl) (absE (absorb_plain rfl) (absEN))) rfl (ou_f (ou_f (ou_f (ou_n)))),kl_n⟩
     · refine aq 1 ?_
       refine cq 12 [10,11] [I (0),I (from_1)] 193 ?_
       obtain ⟨y12,hy12,hy121,hy122⟩:=bJ h
       refine s_loop rfl ?_
       refine rf [1,6,10,11] [1] (Fff_la_run from_1 to_2 convention_3 rfl (0,from_1) _ hy12 (fun r' e st hq=>by rw [hy121 r' e] at hq; exact hq) fun u12 hu=>?_)
       replace h:=hy122 u12 hu
       refine cq 3 [74] [I (u12)] 18 ?_
       obtain ⟨r13,hr13,h⟩:=bS h
       refine oq 34 (.tup [enc_Fraction r13.1,B (r13.2)]) rfl (e_callV rfl rfl (call_P rfl rfl rfl (avS (shP rfl) (avS (shP rfl) (avN))) (Ffk_F hr13) (.inr rfl) (bl_n) rfl rfl rfl)) ?_
       refine ck 5 [7] [] [1] [] [B (r13.2)] [some ⟨0,2,[enc_Fraction r13.1]⟩] 98 (by kernel_rfl) ?_
       obtain rfl:=Option.some.inj h
       exact s_ret rfl ⟨_,fin (vs:=[enc_Fraction r13.1,B (r13.2)]) (rs_c (rs_cell rfl rfl rfl) (rs_c (rfl) (rs_n))) (absE (absorb_plain rfl) (absE (absorb_plain rfl) (absEN))) rfl (ou_f (ou_f (ou_f (ou_n)))),kl_n⟩
theorem Fff_good {G : Go.Ln.Ground} : Good Try.prog G 28 Fff_ent:=good_T (fnOf_good (gl_c Ffk_good (gl_c Ffe_good (gl_n)))) agree_mk (Checked.mixed Try.checked) Try.func28 (n:=3) (m:=0) ⟨rfl,rfl,by decide⟩ (fun _=>⟨rfl,rfl⟩) (fun a r h=>Fff_run a.1 a.2.1 a.2.2 r h)
def Ffb_A : (Int × Int × Int)→List V:=cA I (cA I (oA I))
def Ffb_R (r : Fraction × Bool) : V × List V:=(.tup [enc_Fraction r.1,B (r.2)],[])
noncomputable def Ffb_ent : Ent:=entT [false,false,false] Ffb_A Ffb_R fun x=>Ffb x.1 x.2.1 x.2.2
theorem Ffb_F {from_1 : Int} {to_2 : Int} {convention_3 : Int} {r} (h : Ffb from_1 to_2 convention_3=some r) : (Ffb_ent).F (Ffb_A (from_1,to_2,convention_3))=some (Ffb_R r):=entT_F (cA_inj I_inj (cA_inj I_inj (oA_inj I_inj))) h
noncomputable def Ffb_c : Code:=bodyOf Try.f7
noncomputable def Ffb_E : Env:=mkE Try.prog [(26,Ffn_ent),(28,Fff_ent),(27,Fft_ent)]
def Ffb_Q (x : Int × Int × Int) (r : Fraction × Bool) : St→Prop:=QF Ffb_E Try.f7 [false,false,false] (Ffb_A x) (Ffb_R r)
theorem Ffb_run (from_1 : Int) (to_2 : Int) (convention_3 : Int) (r : Fraction × Bool) (h : Ffb from_1 to_2 convention_3=some r) : RunF Ffb_E Try.f7 [false,false,false] 0 (Ffb_A (from_1,to_2,convention_3)) (Ffb_R r):=by
 show Run _ _ (Ffb_Q (from_1,to_2,convention_3) r) [.code Ffb_c] _
 refine rin (n:=33) [(0,I (from_1)),(1,I (to_2)),(2,I (convention_3))] [] 1 (by kernel_rfl) (by kernel_rfl) (by kernel_rfl) rfl ?_
 unfold Ffb at h
 refine ck 9 [6,8] [] [1] [] [.hp 1 0 [] 2 0 0,I (from_1)] [some ⟨0,2,[.agg [I (0),I (0)]]⟩] 49 (by kernel_rfl) ?_
 obtain ⟨r4,hr4,h⟩:=bS h
 refine oq 65 (B (r4)) rfl (e_callV rfl rfl (call_P rfl rfl rfl (avS (shP rfl) (avN)) (Ffn_F hr4) (.inr rfl) (bl_n) rfl rfl rfl)) ?_
 refine cq 2 [11] [B ((!r4))] 97 ?_
 obtain ⟨y5,hy5,hy51,hy52⟩:=bJ h
 have j5 : ∀ u5,y5=.inr u5→Run Ffb_E 0 (Ffb_Q (from_1,to_2,convention_3) r) (.code (cR (cL (cR Ffb_c))) :: .code (cR (cR Ffb_c)) :: []) (sT 33 [(0,I (from_1)),(1,I (to_2)),(2,I (convention_3)),(6,.hp 1 0 [] 2 0 0),(25,B (u5))] [⟨0,2,[.agg [I (0),I (0)]]⟩] 2):=by
   intro u5 hu
   replace h:=hy52 u5 hu
   refine sq h (fun h=>?_) (fun h=>?_)
   · refine ck 6 [7] [] [1] [] [B (false)] [some ⟨0,2,[.agg [I (0),I (0)]]⟩] 50 (by kernel_rfl) ?_
     obtain rfl:=Option.some.inj h
     exact s_ret rfl ⟨_,fin (vs:=[.agg [I (0),I (0)],B (false)]) (rs_c (rs_cell rfl rfl rfl) (rs_c (rfl) (rs_n))) (absE (absorb_plain rfl) (absE (absorb_plain rfl) (absEN))) rfl (ou_f (ou_f (ou_f (ou_n)))),kl_n⟩
   · refine aq 1 ?_
     refine cq 5 [27,28,29] [I (from_1),I (to_2),I (convention_3)] 50 ?_
     obtain ⟨r6,hr6,h⟩:=bS h
     refine oq 66 (.tup [enc_Fraction r6.1,B (r6.2)]) rfl (e_callV rfl rfl (call_P rfl rfl rfl (avS (shP rfl) (avS (shP rfl) (avS (shP rfl) (avN)))) (Fff_F hr6) (.inr rfl) (bl_n) rfl rfl rfl)) ?_
     refine ck 5 [7] [] [1] [] [B (r6.2)] [some ⟨0,2,[enc_Fraction r6.1]⟩] 130 (by kernel_rfl) ?_
     obtain rfl:=Option.some.inj h
     exact s_ret rfl ⟨_,fin (vs:=[enc_Fraction r6.1,B (r6.2)]) (rs_c (rs_cell rfl rfl rfl) (rs_c (rfl) (rs_n))) (absE (absorb_plain rfl) (absE (absorb_plain rfl) (absEN))) rfl (ou_f (ou_f (ou_f (ou_n)))),kl_n⟩
 have r5 : ∀ r',y5=.inl r'→∀ st,Ffb_Q (from_1,to_2,convention_3) r' st→(Ffb_Q (from_1,to_2,convention_3) r) st:=fun r' e st hq=>by rw [hy51 r' e] at hq; exact hq
 replace h:=hy5
 refine sp 11 h rfl (fun h=>?_) (fun h=>?_)
 · refine cq 15 [25] [B (true)] 321 ?_
   exact rf [0,1,2,6,25] [1] (j5 _ (Option.some.inj h).symm :)
 · refine cq 1 [12] [I (to_2)] 113 ?_
   obtain ⟨r7,hr7,h⟩:=bS h
   refine oy 129 (B (r7)) rfl (e_callV rfl rfl (call_P rfl rfl rfl (avS (shP rfl) (avN)) (Ffn_F hr7) (.inr rfl) (bl_n) rfl rfl rfl)) ?_
   refine cq 3 [16] [B ((!r7))] 177 ?_
   obtain ⟨y8,hy8,hy81,hy82⟩:=bL h
   have j8 : ∀ u8,y8=.inr u8→Run Ffb_E 0 (Ffb_Q (from_1,to_2,convention_3) r) (.code (cR (cL (cR Ffb_c))) :: .code (cR (cR Ffb_c)) :: []) (sT 33 [(0,I (from_1)),(1,I (to_2)),(2,I (convention_3)),(6,.hp 1 0 [] 2 0 0),(25,B (u8))] [⟨0,2,[.agg [I (0),I (0)]]⟩] 2):=by
     intro u8 hu
     replace h:=hy82 u8 hu
     exact rf [0,1,2,6,25] [1] (j5 _ (Option.some.inj h).symm :)
   have r8 : ∀ r',y8=.inl r'→∀ st,Ffb_Q (from_1,to_2,convention_3) r' st→(Ffb_Q (from_1,to_2,convention_3) r) st:=fun r' e st hq=>r5 r' (hy81 r' e) st hq
   replace h:=hy8
   refine sp 16 h rfl (fun h=>?_) (fun h=>?_)
   · refine cq 10 [25] [B (true)] 321 ?_
     exact rf [0,1,2,6,25] [1] (j8 _ (Option.some.inj h).symm :)
   · refine cq 5 [21] [B ((decide (from_1 > to_2)))] 257 ?_
     obtain ⟨y9,hy9,hy91,hy92⟩:=bL h
     have j9 : ∀ u9,y9=.inr u9→Run Ffb_E 0 (Ffb_Q (from_1,to_2,convention_3) r) (.code (cR (cL (cR Ffb_c))) :: .code (cR (cR Ffb_c)) :: []) (sT 33 [(0,I (from_1)),(1,I (to_2)),(2,I (convention_3)),(6,.hp 1 0 [] 2 0 0),(25,B (u9))] [⟨0,2,[.agg [I (0),I (0)]]⟩] 2):=by
       intro u9 hu
       replace h:=hy92 u9 hu
       exact rf [0,1,2,6,25] [1] (j8 _ (Option.some.inj h).symm :)
     have r9 : ∀ r',y9=.inl r'→∀ st,Ffb_Q (from_1,to_2,convention_3) r' st→(Ffb_Q (from_1,to_2,convention_3) r) st:=fun r' e st hq=>r8 r' (hy91 r' e) st hq
     replace h:=hy9
     refine sp 21 h rfl (fun h=>?_) (fun h=>?_)
     · refine cq 5 [25] [B (true)] 321 ?_
       exact rf [0,1,2,6,25] [1] (j9 _ (Option.some.inj h).symm :)
     · refine cq 1 [22] [I (convention_3)] 273 ?_
       obtain ⟨r10,hr10,h⟩:=bS h
       refine oy 289 (B (r10)) rfl (e_callV rfl rfl (call_P rfl rfl rfl (avS (shP rfl) (avS (shP rfl) (avS (shP rfl) (avN)))) (Fft_F hr10) (.inr rfl) (bl_n) rfl rfl rfl)) ?_
       refine cq 3 [25] [B ((!r10))] 321 ?_
       exact rf [0,1,2,6,25] [1] (j9 _ (Option.some.inj h).symm :)
theorem Ffb_good {G : Go.Ln.Ground} : Good Try.prog G 7 Ffb_ent:=good_T (fnOf_good (gl_c Ffn_good (gl_c Fff_good (gl_c Fft_good (gl_n))))) agree_mk (Checked.mixed Try.checked) Try.func7 (n:=3) (m:=0) ⟨rfl,rfl,by decide⟩ (fun _=>⟨rfl,rfl⟩) (fun a r h=>Ffb_run a.1 a.2.1 a.2.2 r h)
def spec_l1In_A : (Int × Int × Int)→List V:=cA I (cA I (oA I))
def spec_l1In_R (r : Bool) : V × List V:=(B (r),[])
noncomputable def spec_l1In_ent : Ent:=entT [false,false,false] spec_l1In_A spec_l1In_R fun x=>spec_l1In x.1 x.2.1 x.2.2
theorem spec_l1In_F {x_1 : Int} {a_2 : Int} {b_3 : Int} {r} (h : spec_l1In x_1 a_2 b_3=some r) : (spec_l1In_ent).F (spec_l1In_A (x_1,a_2,b_3))=some (spec_l1In_R r):=entT_F (cA_inj I_inj (cA_inj I_inj (oA_inj I_inj))) h
noncomputable def spec_l1In_c : Code:=bodyOf Try.f30
noncomputable def spec_l1In_E : Env:=mkE Try.prog []
def spec_l1In_Q (x : Int × Int × Int) (r : Bool) : St→Prop:=QF spec_l1In_E Try.f30 [false,false,false] (spec_l1In_A x) (spec_l1In_R r)
theorem spec_l1In_run (x_1 : Int) (a_2 : Int) (b_3 : Int) (r : Bool) (h : spec_l1In x_1 a_2 b_3=some r) : RunF spec_l1In_E Try.f30 [false,false,false] 0 (spec_l1In_A (x_1,a_2,b_3)) (spec_l1In_R r):=by
 show Run _ _ (spec_l1In_Q (x_1,a_2,b_3) r) [.code spec_l1In_c] _
 refine rin (n:=15) [(0,I (x_1)),(1,I (a_2)),(2,I (b_3))] [] 1 (by kernel_rfl) (by kernel_rfl) (by kernel_rfl) rfl ?_
 unfold spec_l1In at h
 refine cq 10 [10] [B ((decide (x_1 ≥ a_2)))] 81 ?_
 obtain ⟨u4,hu4,h⟩:=lJ h
 have j4 : Run spec_l1In_E 0 (spec_l1In_Q (x_1,a_2,b_3) r) (.code (cR (cR spec_l1In_c)) :: []) (sT 15 [(6,B (u4))] [] 1):=by
   obtain rfl:=Option.some.inj h
   exact s_ret rfl ⟨_,fin (vs:=[B (u4)]) rfl (absE (absorb_plain rfl) (absEN)) rfl (ou_f (ou_f (ou_f (ou_n)))),kl_n⟩
 replace h:=hu4
 clear hu4
 refine sp 10 h rfl (fun h=>?_) (fun h=>?_)
 · refine cq 6 [6] [B ((decide (x_1 ≤ b_3)))] 161 ?_
   subst h
   exact rf [6] [] (j4 :)
 · refine cq 6 [6] [B (false)] 161 ?_
   subst h
   exact rf [6] [] (j4 :)
theorem spec_l1In_good {G : Go.Ln.Ground} : Good Try.prog G 30 spec_l1In_ent:=good_T (fnOf_good (gl_n)) agree_mk (Checked.mixed Try.checked) Try.func30 (n:=3) (m:=0) ⟨rfl,rfl,by decide⟩ (fun _=>⟨rfl,rfl⟩) (fun a r h=>spec_l1In_run a.1 a.2.1 a.2.2 r h)
def Ffby_A : Int→List V:=oA I
def Ffby_R (r : Bool) : V × List V:=(B (r),[])
noncomputable def Ffby_ent : Ent:=entT [false] Ffby_A Ffby_R fun x=>Ffby x
theorem Ffby_F {day_1 : Int} {r} (h : Ffby day_1=some r) : (Ffby_ent).F (Ffby_A day_1)=some (Ffby_R r):=entT_F (oA_inj I_inj) h
noncomputable def Ffby_c : Code:=bodyOf Try.f29
noncomputable def Ffby_E : Env:=mkE Try.prog [(30,spec_l1In_ent)]
def Ffby_Q (x : Int) (r : Bool) : St→Prop:=QF Ffby_E Try.f29 [false] (Ffby_A x) (Ffby_R r)
theorem Ffby_run (day_1 : Int) (r : Bool) (h : Ffby day_1=some r) : RunF Ffby_E Try.f29 [false] 0 (Ffby_A day_1) (Ffby_R r):=by
 show Run _ _ (Ffby_Q day_1 r) [.code Ffby_c] _
 refine rin (n:=5) [(0,I (day_1))] [] 1 (by kernel_rfl) (by kernel_rfl) (by kernel_rfl) rfl ?_
 unfold Ffby at h
 refine cq 7 [3] [I (day_1)] 33 ?_
 obtain ⟨r2,hr2,h⟩:=bS h
 refine oq 49 (B (r2)) rfl (e_callV rfl rfl (call_P rfl rfl rfl (avS (shP rfl) (avS (shP rfl) (avS (shP rfl) (avN)))) (spec_l1In_F hr2) (.inr rfl) (bl_n) rfl rfl rfl)) ?_
 refine cq 2 [2] [B (r2)] 65 ?_
 obtain rfl:=Option.some.inj h
 exact s_ret rfl ⟨_,fin (vs:=[B (r2)]) rfl (absE (absorb_plain rfl) (absEN)) rfl (ou_f (ou_n)),kl_n⟩
theorem Ffby_good {G : Go.Ln.Ground} : Good Try.prog G 29 Ffby_ent:=good_T (fnOf_good (gl_c spec_l1In_good (gl_n))) agree_mk (Checked.mixed Try.checked) Try.func29 (n:=1) (m:=0) ⟨rfl,rfl,by decide⟩ (fun _=>⟨rfl,rfl⟩) (fun a r h=>Ffby_run a r h)
def Ffbr_A : Int→List V:=oA I
def Ffbr_R (r : Int) : V × List V:=(I (r),[])
noncomputable def Ffbr_ent : Ent:=entT [false] Ffbr_A Ffbr_R fun x=>Ffbr x
theorem Ffbr_F {x_1 : Int} {r} (h : Ffbr x_1=some r) : (Ffbr_ent).F (Ffbr_A x_1)=some (Ffbr_R r):=entT_F (oA_inj I_inj) h
noncomputable def Ffbr_c : Code:=bodyOf Try.f60
noncomputable def Ffbr_E : Env:=mkE Try.prog []
def Ffbr_Q (x : Int) (r : Int) : St→Prop:=QF Ffbr_E Try.f60 [false] (Ffbr_A x) (Ffbr_R r)
theorem Ffbr_run (x_1 : Int) (r : Int) (h : Ffbr x_1=some r) : RunF Ffbr_E Try.f60 [false] 0 (Ffbr_A x_1) (Ffbr_R r):=by
 show Run _ _ (Ffbr_Q x_1 r) [.code Ffbr_c] _
 refine rin (n:=8) [(0,I (x_1))] [] 1 (by kernel_rfl) (by kernel_rfl) (by kernel_rfl) rfl ?_
 unfold Ffbr at h
 refine cq 10 [4] [B ((decide (x_1 < 0)))] 49 ?_
 refine sq h (fun h=>?_) (fun h=>?_)
 · refine cq 6 [2] [I ((w64 (0 - x_1)))] 97 ?_
   obtain rfl:=Option.some.inj h
   exact s_ret rfl ⟨_,fin (vs:=[I ((w64 (0 - x_1)))]) rfl (absE (absorb_plain rfl) (absEN)) rfl (ou_f (ou_n)),kl_n⟩
 · refine aq 1 ?_
   refine cq 5 [2] [I (x_1)] 81 ?_
   obtain rfl:=Option.some.inj h
   exact s_ret rfl ⟨_,fin (vs:=[I (x_1)]) rfl (absE (absorb_plain rfl) (absEN)) rfl (ou_f (ou_n)),kl_n⟩
theorem Ffbr_good {G : Go.Ln.Ground} : Good Try.prog G 60 Ffbr_ent:=good_T (fnOf_good (gl_n)) agree_mk (Checked.mixed Try.checked) Try.func60 (n:=1) (m:=0) ⟨rfl,rfl,by decide⟩ (fun _=>⟨rfl,rfl⟩) (fun a r h=>Ffbr_run a r h)
def Ffbu_A : (Int × Int)→List V:=cA I (oA I)
def Ffbu_R (r : Int) : V × List V:=(I (r),[])
noncomputable def Ffbu_ent : Ent:=entT [false,false] Ffbu_A Ffbu_R fun x=>Ffbu x.1 x.2
theorem Ffbu_F {a_1 : Int} {b_2 : Int} {r} (h : Ffbu a_1 b_2=some r) : (Ffbu_ent).F (Ffbu_A (a_1,b_2))=some (Ffbu_R r):=entT_F (cA_inj I_inj (oA_inj I_inj)) h
noncomputable def Ffbu_c : Code:=bodyOf Try.f59
noncomputable def Ffbu_E : Env:=mkE Try.prog []
def Ffbu_Q (x : Int × Int) (r : Int) : St→Prop:=QF Ffbu_E Try.f59 [false,false] (Ffbu_A x) (Ffbu_R r)
theorem Ffbu_la_run (a_1 : Int) (b_2 : Int)  {Q : St→Prop} {K : List It} (hK : noD K=true) : ∀ (x3 : Int × Int) (y : Int ⊕ Int),Ffbu_la a_1 b_2 x3=some y→(∀ r',y=.inl r'→∀ st,Ffbu_Q (a_1,b_2) r' st→Q st)→(∀ u : Int,y=.inr u→Run Ffbu_E 0 Q K (sT 14 [(0,I (u))] [] 1))→Run Ffbu_E 0 Q (.code (cL (cL (cL (cR Ffbu_c)))) :: .lp (cL (cL (cL (cR Ffbu_c)))) :: .blk 0 :: K) (sT 14 [(0,I (x3.1)),(1,I (x3.2))] [] 1):=by
 refine fix_indP (Ffbu_la_fin a_1 b_2) ?_
 intro self ih x3 y h hr hn
 unfold Ffbu_la_F at h
 refine cq 6 [7] [B ((x3.2 != 0))] 33 ?_
 refine sq h (fun h=>?_) (fun h=>?_)
 · refine aq 1 ?_
   refine cq 5 [8,9] [I (x3.1),I (x3.2)] 65 ?_
   obtain ⟨q4,hq4,h⟩:=bS h
   refine oq 81 (I (q4)) rfl (e_bin rfl rfl (b_rem hq4)) ?_
   refine cq 12 [0,1] [I (x3.2),I (q4)] 161 ?_
   refine s_lp ?_
   exact rf [0,1] [] (ih _ _ h hr hn :)
 · refine aq 1 ?_
   exact rf [0] [] (hn _ (Option.some.inj h).symm :) (hk:=hK)
theorem Ffbu_run (a_1 : Int) (b_2 : Int) (r : Int) (h : Ffbu a_1 b_2=some r) : RunF Ffbu_E Try.f59 [false,false] 0 (Ffbu_A (a_1,b_2)) (Ffbu_R r):=by
 show Run _ _ (Ffbu_Q (a_1,b_2) r) [.code Ffbu_c] _
 refine rin (n:=14) [(0,I (a_1)),(1,I (b_2))] [] 1 (by kernel_rfl) (by kernel_rfl) (by kernel_rfl) rfl ?_
 unfold Ffbu at h
 refine cq 6 [] [] 17 ?_
 obtain ⟨y5,hy5,hy51,hy52⟩:=bJ h
 refine s_loop rfl ?_
 refine rf [0,1] [] (Ffbu_la_run a_1 b_2 rfl (a_1,b_2) _ hy5 (fun r' e st hq=>by rw [hy51 r' e] at hq; exact hq) fun u5 hu=>?_)
 replace h:=hy52 u5 hu
 refine cq 5 [4] [I (u5)] 33 ?_
 obtain rfl:=Option.some.inj h
 exact s_ret rfl ⟨_,fin (vs:=[I (u5)]) rfl (absE (absorb_plain rfl) (absEN)) rfl (ou_f (ou_f (ou_n))),kl_n⟩
theorem Ffbu_good {G : Go.Ln.Ground} : Good Try.prog G 59 Ffbu_ent:=good_T (fnOf_good (gl_n)) agree_mk (Checked.mixed Try.checked) Try.func59 (n:=2) (m:=0) ⟨rfl,rfl,by decide⟩ (fun _=>⟨rfl,rfl⟩) (fun a r h=>Ffbu_run a.1 a.2 r h)
def Ffbs_A : Int→List V:=oA I
def Ffbs_R (r : Bool) : V × List V:=(B (r),[])
noncomputable def Ffbs_ent : Ent:=entT [false] Ffbs_A Ffbs_R fun x=>Ffbs x
theorem Ffbs_F {x_1 : Int} {r} (h : Ffbs x_1=some r) : (Ffbs_ent).F (Ffbs_A x_1)=some (Ffbs_R r):=entT_F (oA_inj I_inj) h
noncomputable def Ffbs_c : Code:=bodyOf Try.f58
noncomputable def Ffbs_E : Env:=mkE Try.prog [(30,spec_l1In_ent)]
def Ffbs_Q (x : Int) (r : Bool) : St→Prop:=QF Ffbs_E Try.f58 [false] (Ffbs_A x) (Ffbs_R r)
theorem Ffbs_run (x_1 : Int) (r : Bool) (h : Ffbs x_1=some r) : RunF Ffbs_E Try.f58 [false] 0 (Ffbs_A x_1) (Ffbs_R r):=by
 show Run _ _ (Ffbs_Q x_1 r) [.code Ffbs_c] _
 refine rin (n:=5) [(0,I (x_1))] [] 1 (by kernel_rfl) (by kernel_rfl) (by kernel_rfl) rfl ?_
 unfold Ffbs at h
 refine cq 7 [3] [I (x_1)] 33 ?_
 obtain ⟨r2,hr2,h⟩:=bS h
 refine oq 49 (B (r2)) rfl (e_callV rfl rfl (call_P rfl rfl rfl (avS (shP rfl) (avS (shP rfl) (avS (shP rfl) (avN)))) (spec_l1In_F hr2) (.inr rfl) (bl_n) rfl rfl rfl)) ?_
 refine cq 2 [2] [B (r2)] 65 ?_
 obtain rfl:=Option.some.inj h
 exact s_ret rfl ⟨_,fin (vs:=[B (r2)]) rfl (absE (absorb_plain rfl) (absEN)) rfl (ou_f (ou_n)),kl_n⟩
theorem Ffbs_good {G : Go.Ln.Ground} : Good Try.prog G 58 Ffbs_ent:=good_T (fnOf_good (gl_c spec_l1In_good (gl_n))) agree_mk (Checked.mixed Try.checked) Try.func58 (n:=1) (m:=0) ⟨rfl,rfl,by decide⟩ (fun _=>⟨rfl,rfl⟩) (fun a r h=>Ffbs_run a r h)
def Ffbt_A : Fraction→List V:=oA enc_Fraction
def Ffbt_R (r : Bool) : V × List V:=(B (r),[])
noncomputable def Ffbt_ent : Ent:=entT [false] Ffbt_A Ffbt_R fun x=>Ffbt x
theorem Ffbt_F {f_1 : Fraction} {r} (h : Ffbt f_1=some r) : (Ffbt_ent).F (Ffbt_A f_1)=some (Ffbt_R r):=entT_F (oA_inj enc_Fraction_inj) h
noncomputable def Ffbt_c : Code:=bodyOf Try.f32
noncomputable def Ffbt_E : Env:=mkE Try.prog [(30,spec_l1In_ent),(58,Ffbs_ent),(60,Ffbr_ent),(59,Ffbu_ent)]
def Ffbt_Q (x : Fraction) (r : Bool) : St→Prop:=QF Ffbt_E Try.f32 [false] (Ffbt_A x) (Ffbt_R r)
theorem Ffbt_run (f_1 : Fraction) (r : Bool) (h : Ffbt f_1=some r) : RunF Ffbt_E Try.f32 [false] 0 (Ffbt_A f_1) (Ffbt_R r):=by
 show Run _ _ (Ffbt_Q f_1 r) [.code Ffbt_c] _
 refine rin (n:=20) [(0,enc_Fraction f_1)] [] 1 (by kernel_rfl) (by kernel_rfl) (by kernel_rfl) rfl ?_
 unfold Ffbt at h
 refine ck 6 [1] [] [1] [] [.hp 1 0 [] 2 0 0] [some ⟨0,2,[enc_Fraction f_1]⟩] 33 (by kernel_rfl) ?_
 refine s_draw [0,1,3,7,15,31,63,127,255,511,1023,2047,511,4607,16383,32767,65535,131071] rfl (by decide +kernel) ?_
 refine dq [1] [] (.hp 1 0 [] 2 0 1) rfl (e_fieldAddr rfl rfl rfl) ?_
 refine dq [1] [] (I (f_1.Den)) rfl (e_ld rfl rfl) ?_
 obtain ⟨r2,hr2,h⟩:=bS h
 refine dq [] [] (B (r2)) rfl (e_callV rfl rfl (call_P rfl rfl rfl (avS (shP rfl) (avS (shP rfl) (avS (shP rfl) (avN)))) (spec_l1In_F hr2) (.inr rfl) (bl_n) rfl rfl rfl)) ?_ (w_callO rfl rfl rfl rfl (avS (shP rfl) (avS (shP rfl) (avS (shP rfl) (avN)))) (spec_l1In_F hr2) (.inr rfl) rfl)
 refine dk 1 [6] [B (r2)] ?_
 obtain ⟨y3,hy3,hy31,hy32⟩:=bJ h
 have j3 : ∀ u3,y3=.inr u3→Run Ffbt_E 0 (Ffbt_Q f_1 r) (.code (cR (cR Ffbt_c)) :: []) (sT 20 [(2,B (u3))] [] 1):=by
   intro u3 hu
   replace h:=hy32 u3 hu
   obtain rfl:=Option.some.inj h
   exact s_ret rfl ⟨_,fin (vs:=[B (u3)]) rfl (absE (absorb_plain rfl) (absEN)) rfl (ou_f (ou_n)),kl_n⟩
 have r3 : ∀ r',y3=.inl r'→∀ st,Ffbt_Q f_1 r' st→(Ffbt_Q f_1 r) st:=fun r' e st hq=>by rw [hy31 r' e] at hq; exact hq
 replace h:=hy3
 refine sp 6 h rfl (fun h=>?_) (fun h=>?_)
 · refine dy [1] [] (.hp 1 0 [] 2 0 0) rfl (e_fieldAddr rfl rfl rfl) ?_
   refine dy [1] [] (I (f_1.Num)) rfl (e_ld rfl rfl) ?_
   obtain ⟨r4,hr4,h⟩:=bS h
   refine dy [] [] (B (r4)) rfl (e_callV rfl rfl (call_P rfl rfl rfl (avS (shP rfl) (avN)) (Ffbs_F hr4) (.inr rfl) (bl_n) rfl rfl rfl)) ?_ (w_callO rfl rfl rfl rfl (avS (shP rfl) (avN)) (Ffbs_F hr4) (.inr rfl) rfl)
   refine dk 2 [11,10] [B (r4),B (r4)] ?_
   obtain ⟨y5,hy5,hy51,hy52⟩:=bL h
   have j5 : ∀ u5,y5=.inr u5→Run Ffbt_E 0 (Ffbt_Q f_1 r) (.code (cR (cR Ffbt_c)) :: []) (sT 20 [(2,B (u5))] [] 1):=by
     intro u5 hu
     replace h:=hy52 u5 hu
     exact rf [2] [] (j3 _ (Option.some.inj h).symm :)
   have r5 : ∀ r',y5=.inl r'→∀ st,Ffbt_Q f_1 r' st→(Ffbt_Q f_1 r) st:=fun r' e st hq=>r3 r' (hy51 r' e) st hq
   replace h:=hy5
   refine sp 11 h rfl (fun h=>?_) (fun h=>?_)
   · refine dy [1] [] (.hp 1 0 [] 2 0 0) rfl (e_fieldAddr rfl rfl rfl) ?_
     refine dy [1] [] (I (f_1.Num)) rfl (e_ld rfl rfl) ?_
     obtain ⟨r6,hr6,h⟩:=bS h
     refine dy [] [] (I (r6)) rfl (e_callV rfl rfl (call_P rfl rfl rfl (avS (shP rfl) (avN)) (Ffbr_F hr6) (.inr rfl) (bl_n) rfl rfl rfl)) ?_ (w_callO rfl rfl rfl rfl (avS (shP rfl) (avN)) (Ffbr_F hr6) (.inr rfl) rfl)
     refine dy [1] [] (.hp 1 0 [] 2 0 1) rfl (e_fieldAddr rfl rfl rfl) ?_
     refine dy [1] [] (I (f_1.Den)) rfl (e_ld rfl rfl) ?_
     obtain ⟨r7,hr7,h⟩:=bS h
     refine dy [] [] (I (r7)) rfl (e_callV rfl rfl (call_P rfl rfl rfl (avS (shP rfl) (avS (shP rfl) (avN))) (Ffbu_F hr7) (.inr rfl) (bl_n) rfl rfl rfl)) ?_ (w_callO rfl rfl rfl rfl (avS (shP rfl) (avS (shP rfl) (avN))) (Ffbu_F hr7) (.inr rfl) rfl)
     refine dk 3 [2,19,18] [B ((r7 == 1)),B ((r7 == 1)),B ((r7 == 1))] ?_
     refine de 321 rfl rfl ?_
     exact rf [2] [] (j5 _ (Option.some.inj h).symm :)
   · refine dk 9 [2,19,18,17,16,15,14,13,12] [B (false),B (false),.und,.und,.und,.und,.und,.und,.und] ?_
     refine de 321 rfl rfl ?_
     exact rf [2] [] (j5 _ (Option.some.inj h).symm :)
 · refine dk 14 [2,19,18,17,16,15,14,13,12,11,10,9,8,7] [B (false),B (false),.und,.und,.und,.und,.und,.und,.und,B (false),B (false),.und,.und,.und] ?_
   refine de 321 rfl rfl ?_
   exact rf [2] [] (j3 _ (Option.some.inj h).symm :)
theorem Ffbt_good {G : Go.Ln.Ground} : Good Try.prog G 32 Ffbt_ent:=good_T (fnOf_good (gl_c spec_l1In_good (gl_c Ffbs_good (gl_c Ffbr_good (gl_c Ffbu_good (gl_n)))))) agree_mk (Checked.mixed Try.checked) Try.func32 (n:=1) (m:=0) ⟨rfl,rfl,by decide⟩ (fun _=>⟨rfl,rfl⟩) (fun a r h=>Ffbt_run a r h)
def Ffbv_A : (Int × Int)→List V:=cA I (oA I)
def Ffbv_R (r : Fraction × Bool) : V × List V:=(.tup [enc_Fraction r.1,B (r.2)],[])
noncomputable def Ffbv_ent : Ent:=entT [false,false] Ffbv_A Ffbv_R fun x=>Ffbv x.1 x.2
theorem Ffbv_F {num_1 : Int} {den_2 : Int} {r} (h : Ffbv num_1 den_2=some r) : (Ffbv_ent).F (Ffbv_A (num_1,den_2))=some (Ffbv_R r):=entT_F (cA_inj I_inj (oA_inj I_inj)) h
noncomputable def Ffbv_c : Code:=bodyOf Try.f33
noncomputable def Ffbv_E : Env:=mkE Try.prog [(60,Ffbr_ent),(59,Ffbu_ent),(32,Ffbt_ent)]
def Ffbv_Q (x : Int × Int) (r : Fraction × Bool) : St→Prop:=QF Ffbv_E Try.f33 [false,false] (Ffbv_A x) (Ffbv_R r)
theorem Ffbv_run (num_1 : Int) (den_2 : Int) (r : Fraction × Bool) (h : Ffbv num_1 den_2=some r) : RunF Ffbv_E Try.f33 [false,false] 0 (Ffbv_A (num_1,den_2)) (Ffbv_R r):=by
 show Run _ _ (Ffbv_Q (num_1,den_2) r) [.code Ffbv_c] _
 refine rin (n:=30) [(0,I (num_1)),(1,I (den_2))] [] 1 (by kernel_rfl) (by kernel_rfl) (by kernel_rfl) rfl ?_
 unfold Ffbv at h
 refine ck 11 [4,9] [] [1] [] [.hp 1 0 [] 2 0 0,B ((decide (den_2 < 0)))] [some ⟨0,2,[.agg [I (0),I (0)]]⟩] 65 (by kernel_rfl) ?_
 obtain ⟨u3,hu3,h⟩:=lJ h
 have j3 : Run Ffbv_E 0 (Ffbv_Q (num_1,den_2) r) (.code (cR (cR Ffbv_c)) :: []) (sT 30 [(0,I (u3.1)),(1,I (u3.2)),(4,.hp 1 0 [] 2 0 0)] [⟨0,2,[.agg [I (0),I (0)]]⟩] 2):=by
   refine cq 3 [14] [I (u3.1)] 18 ?_
   obtain ⟨r4,hr4,h⟩:=bS h
   refine oq 34 (I (r4)) rfl (e_callV rfl rfl (call_P rfl rfl rfl (avS (shP rfl) (avN)) (Ffbr_F hr4) (.inr rfl) (bl_n) rfl rfl rfl)) ?_
   refine cq 1 [16] [I (u3.2)] 50 ?_
   obtain ⟨r5,hr5,h⟩:=bS h
   refine oq 66 (I (r5)) rfl (e_callV rfl rfl (call_P rfl rfl rfl (avS (shP rfl) (avS (shP rfl) (avN))) (Ffbu_F hr5) (.inr rfl) (bl_n) rfl rfl rfl)) ?_
   refine cq 3 [6] [I (r5)] 82 ?_
   refine s_draw [0,0,3,0,0,24,63,0,255] rfl (by decide +kernel) ?_
   refine dk 2 [19,18] [I (r5),I (u3.1)] ?_
   obtain ⟨q6,hq6,h⟩:=bS h
   refine dq [] [] (I (q6)) rfl (e_bin rfl rfl (b_quo hq6)) ?_
   refine dk 2 [22,21] [I (r5),I (u3.2)] ?_
   obtain ⟨q7,hq7,h⟩:=bS h
   refine dq [] [] (I (q7)) rfl (e_bin rfl rfl (b_quo hq7)) ?_
   refine dk 1 [24] [.agg [I (q6),I (q7)]] ?_
   refine dq [] [] (.hp 194 0 [] 2 0 0) rfl (e_allocP (z:=.agg [I (0),I (0)]) rfl rfl rfl) ?_
   refine dz [194] [194] rfl (e_st rfl rfl (st_at (path:=[]) (pl:=true) (e':=.agg [I (q6),I (q7)]) (es2':=[.agg [I (q6),I (q7)]]) rfl (absorb_plain rfl) rfl rfl rfl (ra_n) rfl rfl rfl rfl rfl (sr_n) 0 rfl)) ?_
   refine de 226 rfl rfl ?_
   refine cq 4 [25] [.agg [I (q6),I (q7)]] 242 ?_
   obtain ⟨r8,hr8,h⟩:=bS h
   refine oq 258 (B (r8)) rfl (e_callV rfl rfl (call_P rfl rfl rfl (avS (shP rfl) (avN)) (Ffbt_F hr8) (.inr rfl) (bl_n) rfl rfl rfl)) ?_
   refine cq 2 [27] [B ((!r8))] 274 ?_
   refine sq h (fun h=>?_) (fun h=>?_)
   · refine ck 6 [5] [] [1] [] [B (false)] [some ⟨0,2,[.agg [I (0),I (0)]]⟩] 322 (by kernel_rfl) ?_
     obtain rfl:=Option.some.inj h
     exact s_ret rfl ⟨_,fin (vs:=[.agg [I (0),I (0)],B (false)]) (rs_c (rs_cell rfl rfl rfl) (rs_c (rfl) (rs_n))) (absE (absorb_plain rfl) (absE (absorb_plain rfl) (absEN))) rfl (ou_f (ou_f (ou_n))),kl_n⟩
   · refine aq 1 ?_
     refine ck 6 [5] [] [1] [] [B (true)] [some ⟨0,2,[.agg [I (q6),I (q7)]]⟩] 322 (by kernel_rfl) ?_
     obtain rfl:=Option.some.inj h
     exact s_ret rfl ⟨_,fin (vs:=[.agg [I (q6),I (q7)],B (true)]) (rs_c (rs_cell rfl rfl rfl) (rs_c (rfl) (rs_n))) (absE (absorb_plain rfl) (absE (absorb_plain rfl) (absEN))) rfl (ou_f (ou_f (ou_n))),kl_n⟩
 replace h:=hu3
 clear hu3
 refine scp h rfl rfl (fun h=>?_) (fun h=>?_)
 · refine cq 11 [0,1] [I ((w64 (0 - num_1))),I ((w64 (0 - den_2)))] 161 ?_
   subst h
   exact rf [0,1,4] [1] (j3 :)
 · refine aq 1 ?_
   subst h
   exact rf [0,1,4] [1] (j3 :)
theorem Ffbv_good {G : Go.Ln.Ground} : Good Try.prog G 33 Ffbv_ent:=good_T (fnOf_good (gl_c Ffbr_good (gl_c Ffbu_good (gl_c Ffbt_good (gl_n))))) agree_mk (Checked.mixed Try.checked) Try.func33 (n:=2) (m:=0) ⟨rfl,rfl,by decide⟩ (fun _=>⟨rfl,rfl⟩) (fun a r h=>Ffbv_run a.1 a.2 r h)
def Ffbd_A : (Int × Int)→List V:=cA I (oA I)
def Ffbd_R (r : Fraction × Bool) : V × List V:=(.tup [enc_Fraction r.1,B (r.2)],[])
noncomputable def Ffbd_ent : Ent:=entT [false,false] Ffbd_A Ffbd_R fun x=>Ffbd x.1 x.2
theorem Ffbd_F {num_1 : Int} {den_2 : Int} {r} (h : Ffbd num_1 den_2=some r) : (Ffbd_ent).F (Ffbd_A (num_1,den_2))=some (Ffbd_R r):=entT_F (cA_inj I_inj (oA_inj I_inj)) h
noncomputable def Ffbd_c : Code:=bodyOf Try.f55
noncomputable def Ffbd_E : Env:=mkE Try.prog [(33,Ffbv_ent),(30,spec_l1In_ent)]
def Ffbd_Q (x : Int × Int) (r : Fraction × Bool) : St→Prop:=QF Ffbd_E Try.f55 [false,false] (Ffbd_A x) (Ffbd_R r)
theorem Ffbd_run (num_1 : Int) (den_2 : Int) (r : Fraction × Bool) (h : Ffbd num_1 den_2=some r) : RunF Ffbd_E Try.f55 [false,false] 0 (Ffbd_A (num_1,den_2)) (Ffbd_R r):=by
 show Run _ _ (Ffbd_Q (num_1,den_2) r) [.code Ffbd_c] _
 refine rin (n:=24) [(0,I (num_1)),(1,I (den_2))] [] 1 (by kernel_rfl) (by kernel_rfl) (by kernel_rfl) rfl ?_
 unfold Ffbd at h
 refine ck 11 [4,8] [] [1] [] [.hp 1 0 [] 2 0 0,B ((den_2 == 0))] [some ⟨0,2,[.agg [I (0),I (0)]]⟩] 81 (by kernel_rfl) ?_
 obtain ⟨y3,hy3,hy31,hy32⟩:=bJ h
 have j3 : ∀ u3,y3=.inr u3→Run Ffbd_E 0 (Ffbd_Q (num_1,den_2) r) (.code (cR (cL (cR Ffbd_c))) :: .code (cR (cR Ffbd_c)) :: []) (sT 24 [(0,I (num_1)),(1,I (den_2)),(4,.hp 1 0 [] 2 0 0),(17,B (u3))] [⟨0,2,[.agg [I (0),I (0)]]⟩] 2):=by
   intro u3 hu
   replace h:=hy32 u3 hu
   refine sq h (fun h=>?_) (fun h=>?_)
   · refine ck 6 [5] [] [1] [] [B (false)] [some ⟨0,2,[.agg [I (0),I (0)]]⟩] 50 (by kernel_rfl) ?_
     obtain rfl:=Option.some.inj h
     exact s_ret rfl ⟨_,fin (vs:=[.agg [I (0),I (0)],B (false)]) (rs_c (rs_cell rfl rfl rfl) (rs_c (rfl) (rs_n))) (absE (absorb_plain rfl) (absE (absorb_plain rfl) (absEN))) rfl (ou_f (ou_f (ou_n))),kl_n⟩
   · refine aq 1 ?_
     refine cq 4 [19,20] [I (num_1),I (den_2)] 34 ?_
     obtain ⟨r4,hr4,h⟩:=bS h
     refine oq 50 (.tup [enc_Fraction r4.1,B (r4.2)]) rfl (e_callV rfl rfl (call_P rfl rfl rfl (avS (shP rfl) (avS (shP rfl) (avN))) (Ffbv_F hr4) (.inr rfl) (bl_n) rfl rfl rfl)) ?_
     refine ck 5 [5] [] [1] [] [B (r4.2)] [some ⟨0,2,[enc_Fraction r4.1]⟩] 114 (by kernel_rfl) ?_
     obtain rfl:=Option.some.inj h
     exact s_ret rfl ⟨_,fin (vs:=[enc_Fraction r4.1,B (r4.2)]) (rs_c (rs_cell rfl rfl rfl) (rs_c (rfl) (rs_n))) (absE (absorb_plain rfl) (absE (absorb_plain rfl) (absEN))) rfl (ou_f (ou_f (ou_n))),kl_n⟩
 have r3 : ∀ r',y3=.inl r'→∀ st,Ffbd_Q (num_1,den_2) r' st→(Ffbd_Q (num_1,den_2) r) st:=fun r' e st hq=>by rw [hy31 r' e] at hq; exact hq
 replace h:=hy3
 refine sp 8 h rfl (fun h=>?_) (fun h=>?_)
 · refine cq 10 [17] [B (true)] 225 ?_
   exact rf [0,1,4,17] [1] (j3 _ (Option.some.inj h).symm :)
 · refine cq 1 [9] [I (num_1)] 97 ?_
   obtain ⟨r5,hr5,h⟩:=bS h
   refine oy 113 (B (r5)) rfl (e_callV rfl rfl (call_P rfl rfl rfl (avS (shP rfl) (avS (shP rfl) (avS (shP rfl) (avN)))) (spec_l1In_F hr5) (.inr rfl) (bl_n) rfl rfl rfl)) ?_
   refine cq 3 [13] [B ((!r5))] 161 ?_
   obtain ⟨y6,hy6,hy61,hy62⟩:=bL h
   have j6 : ∀ u6,y6=.inr u6→Run Ffbd_E 0 (Ffbd_Q (num_1,den_2) r) (.code (cR (cL (cR Ffbd_c))) :: .code (cR (cR Ffbd_c)) :: []) (sT 24 [(0,I (num_1)),(1,I (den_2)),(4,.hp 1 0 [] 2 0 0),(17,B (u6))] [⟨0,2,[.agg [I (0),I (0)]]⟩] 2):=by
     intro u6 hu
     replace h:=hy62 u6 hu
     exact rf [0,1,4,17] [1] (j3 _ (Option.some.inj h).symm :)
   have r6 : ∀ r',y6=.inl r'→∀ st,Ffbd_Q (num_1,den_2) r' st→(Ffbd_Q (num_1,den_2) r) st:=fun r' e st hq=>r3 r' (hy61 r' e) st hq
   replace h:=hy6
   refine sp 13 h rfl (fun h=>?_) (fun h=>?_)
   · refine cq 5 [17] [B (true)] 225 ?_
     exact rf [0,1,4,17] [1] (j6 _ (Option.some.inj h).symm :)
   · refine cq 1 [14] [I (den_2)] 177 ?_
     obtain ⟨r7,hr7,h⟩:=bS h
     refine oy 193 (B (r7)) rfl (e_callV rfl rfl (call_P rfl rfl rfl (avS (shP rfl) (avS (shP rfl) (avS (shP rfl) (avN)))) (spec_l1In_F hr7) (.inr rfl) (bl_n) rfl rfl rfl)) ?_
     refine cq 3 [17] [B ((!r7))] 225 ?_
     exact rf [0,1,4,17] [1] (j6 _ (Option.some.inj h).symm :)
theorem Ffbd_good {G : Go.Ln.Ground} : Good Try.prog G 55 Ffbd_ent:=good_T (fnOf_good (gl_c Ffbv_good (gl_c spec_l1In_good (gl_n)))) agree_mk (Checked.mixed Try.checked) Try.func55 (n:=2) (m:=0) ⟨rfl,rfl,by decide⟩ (fun _=>⟨rfl,rfl⟩) (fun a r h=>Ffbd_run a.1 a.2 r h)
def Ffbo_A : (Int × Int)→List V:=cA I (oA I)
def Ffbo_R (r : Int) : V × List V:=(I (r),[])
noncomputable def Ffbo_ent : Ent:=entT [false,false] Ffbo_A Ffbo_R fun x=>Ffbo x.1 x.2
theorem Ffbo_F {a_1 : Int} {b_2 : Int} {r} (h : Ffbo a_1 b_2=some r) : (Ffbo_ent).F (Ffbo_A (a_1,b_2))=some (Ffbo_R r):=entT_F (cA_inj I_inj (oA_inj I_inj)) h
noncomputable def Ffbo_c : Code:=bodyOf Try.f69
noncomputable def Ffbo_E : Env:=mkE Try.prog []
def Ffbo_Q (x : Int × Int) (r : Int) : St→Prop:=QF Ffbo_E Try.f69 [false,false] (Ffbo_A x) (Ffbo_R r)
theorem Ffbo_run (a_1 : Int) (b_2 : Int) (r : Int) (h : Ffbo a_1 b_2=some r) : RunF Ffbo_E Try.f69 [false,false] 0 (Ffbo_A (a_1,b_2)) (Ffbo_R r):=by
 show Run _ _ (Ffbo_Q (a_1,b_2) r) [.code Ffbo_c] _
 refine rin (n:=10) [(0,I (a_1)),(1,I (b_2))] [] 1 (by kernel_rfl) (by kernel_rfl) (by kernel_rfl) rfl ?_
 unfold Ffbo at h
 refine cq 11 [7] [B ((decide (a_1 < b_2)))] 65 ?_
 refine sq h (fun h=>?_) (fun h=>?_)
 · refine cq 5 [4] [I (a_1)] 97 ?_
   obtain rfl:=Option.some.inj h
   exact s_ret rfl ⟨_,fin (vs:=[I (a_1)]) rfl (absE (absorb_plain rfl) (absEN)) rfl (ou_f (ou_f (ou_n))),kl_n⟩
 · refine aq 1 ?_
   refine cq 5 [4] [I (b_2)] 97 ?_
   obtain rfl:=Option.some.inj h
   exact s_ret rfl ⟨_,fin (vs:=[I (b_2)]) rfl (absE (absorb_plain rfl) (absEN)) rfl (ou_f (ou_f (ou_n))),kl_n⟩
theorem Ffbo_good {G : Go.Ln.Ground} : Good Try.prog G 69 Ffbo_ent:=good_T (fnOf_good (gl_n)) agree_mk (Checked.mixed Try.checked) Try.func69 (n:=2) (m:=0) ⟨rfl,rfl,by decide⟩ (fun _=>⟨rfl,rfl⟩) (fun a r h=>Ffbo_run a.1 a.2 r h)
def Ffcg_A : (Int × Int)→List V:=cA I (oA I)
def Ffcg_R (r : Int) : V × List V:=(I (r),[])
noncomputable def Ffcg_ent : Ent:=entT [false,false] Ffcg_A Ffcg_R fun x=>Ffcg x.1 x.2
theorem Ffcg_F {from_1 : Int} {to_2 : Int} {r} (h : Ffcg from_1 to_2=some r) : (Ffcg_ent).F (Ffcg_A (from_1,to_2))=some (Ffcg_R r):=entT_F (cA_inj I_inj (oA_inj I_inj)) h
noncomputable def Ffcg_c : Code:=bodyOf Try.f56
noncomputable def Ffcg_E : Env:=mkE Try.prog [(42,Ffbw_ent),(69,Ffbo_ent)]
def Ffcg_Q (x : Int × Int) (r : Int) : St→Prop:=QF Ffcg_E Try.f56 [false,false] (Ffcg_A x) (Ffcg_R r)
theorem Ffcg_run (from_1 : Int) (to_2 : Int) (r : Int) (h : Ffcg from_1 to_2=some r) : RunF Ffcg_E Try.f56 [false,false] 0 (Ffcg_A (from_1,to_2)) (Ffcg_R r):=by
 show Run _ _ (Ffcg_Q (from_1,to_2) r) [.code Ffcg_c] _
 refine rin (n:=32) [(0,I (from_1)),(1,I (to_2))] [] 1 (by kernel_rfl) (by kernel_rfl) (by kernel_rfl) rfl ?_
 unfold Ffcg at h
 refine cq 7 [7] [I (from_1)] 33 ?_
 obtain ⟨r3,hr3,h⟩:=bS h
 refine oq 49 (enc_Date r3) rfl (e_callV rfl rfl (call_P rfl rfl rfl (avS (shP rfl) (avN)) (Ffbw_F hr3) (.inr rfl) (bl_n) rfl rfl rfl)) ?_
 refine cq 1 [9] [I (to_2)] 65 ?_
 obtain ⟨r4,hr4,h⟩:=bS h
 refine oq 81 (enc_Date r4) rfl (e_callV rfl rfl (call_P rfl rfl rfl (avS (shP rfl) (avN)) (Ffbw_F hr4) (.inr rfl) (bl_n) rfl rfl rfl)) ?_
 refine ck 6 [5,6] [] [81,97] [] [.hp 81 0 [] 3 0 0,.hp 97 0 [] 3 0 0] [some ⟨0,3,[enc_Date r3]⟩,some ⟨0,3,[enc_Date r4]⟩] 145 (by kernel_rfl) ?_
 refine s_draw [0,1,0,4,15,31,0,64,0,256,960,1984,4095,0,8192,24576,65535,0,131072,450560,1048575,2097151] rfl (by decide +kernel) ?_
 refine dq [97] [] (.hp 97 0 [] 3 0 0) rfl (e_fieldAddr rfl rfl rfl) ?_
 refine dq [97] [] (I (r4.Year)) rfl (e_ld rfl rfl) ?_
 refine dq [81] [] (.hp 81 0 [] 3 0 0) rfl (e_fieldAddr rfl rfl rfl) ?_
 refine dq [81] [] (I (r3.Year)) rfl (e_ld rfl rfl) ?_
 refine dk 2 [16,15] [I ((w64 (360 * (w64 (r4.Year - r3.Year))))),I ((w64 (r4.Year - r3.Year)))] ?_
 refine dq [97] [] (.hp 97 0 [] 3 0 1) rfl (e_fieldAddr rfl rfl rfl) ?_
 refine dq [97] [] (I (r4.Month)) rfl (e_ld rfl rfl) ?_
 refine dq [81] [] (.hp 81 0 [] 3 0 1) rfl (e_fieldAddr rfl rfl rfl) ?_
 refine dq [81] [] (I (r3.Month)) rfl (e_ld rfl rfl) ?_
 refine dk 3 [23,22,21] [I ((w64 ((w64 (360 * (w64 (r4.Year - r3.Year)))) + (w64 (30 * (w64 (r4.Month - r3.Month))))))),I ((w64 (30 * (w64 (r4.Month - r3.Month))))),I ((w64 (r4.Month - r3.Month)))] ?_
 refine dq [97] [] (.hp 97 0 [] 3 0 2) rfl (e_fieldAddr rfl rfl rfl) ?_
 refine dq [97] [] (I (r4.Day)) rfl (e_ld rfl rfl) ?_
 obtain ⟨r5,hr5,h⟩:=bS h
 refine dq [] [] (I (r5)) rfl (e_callV rfl rfl (call_P rfl rfl rfl (avS (shP rfl) (avS (shP rfl) (avN))) (Ffbo_F hr5) (.inr rfl) (bl_n) rfl rfl rfl)) ?_ (w_callO rfl rfl rfl rfl (avS (shP rfl) (avS (shP rfl) (avN))) (Ffbo_F hr5) (.inr rfl) rfl)
 refine dk 1 [27] [I ((w64 ((w64 ((w64 (360 * (w64 (r4.Year - r3.Year)))) + (w64 (30 * (w64 (r4.Month - r3.Month)))))) + r5)))] ?_
 refine dq [81] [] (.hp 81 0 [] 3 0 2) rfl (e_fieldAddr rfl rfl rfl) ?_
 refine dq [81] [] (I (r3.Day)) rfl (e_ld rfl rfl) ?_
 obtain ⟨r6,hr6,h⟩:=bS h
 refine dq [] [] (I (r6)) rfl (e_callV rfl rfl (call_P rfl rfl rfl (avS (shP rfl) (avS (shP rfl) (avN))) (Ffbo_F hr6) (.inr rfl) (bl_n) rfl rfl rfl)) ?_ (w_callO rfl rfl rfl rfl (avS (shP rfl) (avS (shP rfl) (avN))) (Ffbo_F hr6) (.inr rfl) rfl)
 refine dk 2 [4,31] [I ((w64 ((w64 ((w64 ((w64 (360 * (w64 (r4.Year - r3.Year)))) + (w64 (30 * (w64 (r4.Month - r3.Month)))))) + r5)) - r6))),I ((w64 ((w64 ((w64 ((w64 (360 * (w64 (r4.Year - r3.Year)))) + (w64 (30 * (w64 (r4.Month - r3.Month)))))) + r5)) - r6)))] ?_
 refine de 497 rfl rfl ?_
 obtain rfl:=Option.some.inj h
 exact s_ret rfl ⟨_,fin (vs:=[I ((w64 ((w64 ((w64 ((w64 (360 * (w64 (r4.Year - r3.Year)))) + (w64 (30 * (w64 (r4.Month - r3.Month)))))) + r5)) - r6)))]) rfl (absE (absorb_plain rfl) (absEN)) rfl (ou_f (ou_f (ou_n))),kl_n⟩
theorem Ffcg_good {G : Go.Ln.Ground} : Good Try.prog G 56 Ffcg_ent:=good_T (fnOf_good (gl_c Ffbw_good (gl_c Ffbo_good (gl_n)))) agree_mk (Checked.mixed Try.checked) Try.func56 (n:=2) (m:=0) ⟨rfl,rfl,by decide⟩ (fun _=>⟨rfl,rfl⟩) (fun a r h=>Ffcg_run a.1 a.2 r h)
def Ffch_A : (Int × Int)→List V:=cA I (oA I)
def Ffch_R (r : Int × Int) : V × List V:=(.tup [I (r.1),I (r.2)],[])
noncomputable def Ffch_ent : Ent:=entT [false,false] Ffch_A Ffch_R fun x=>Ffch x.1 x.2
theorem Ffch_F {from_1 : Int} {to_2 : Int} {r} (h : Ffch from_1 to_2=some r) : (Ffch_ent).F (Ffch_A (from_1,to_2))=some (Ffch_R r):=entT_F (cA_inj I_inj (oA_inj I_inj)) h
noncomputable def Ffch_c : Code:=bodyOf Try.f57
noncomputable def Ffch_E : Env:=mkE Try.prog [(42,Ffbw_ent),(45,Ffbx_ent),(69,Ffbo_ent)]
def Ffch_Q (x : Int × Int) (r : Int × Int) : St→Prop:=QF Ffch_E Try.f57 [false,false] (Ffch_A x) (Ffch_R r)
theorem Ffch_la_run (from_1 : Int) (to_2 : Int)  {Q : St→Prop} {K : List It} (hK : noD K=true) : ∀ (x3 : Int × Int × Int) (y : (Int × Int) ⊕ (Int × Int)),Ffch_la from_1 to_2 x3=some y→(∀ r',y=.inl r'→∀ st,Ffch_Q (from_1,to_2) r' st→Q st)→(∀ u : Int × Int,y=.inr u→Run Ffch_E 0 Q K (sT 38 [(6,I (u.1)),(7,I (u.2))] [] 1))→Run Ffch_E 0 Q (.code (cL (cL (cL (cR (cR Ffch_c))))) :: .lp (cL (cL (cL (cR (cR Ffch_c))))) :: .blk 0 :: K) (sT 38 [(0,I (x3.1)),(1,I (to_2)),(6,I (x3.2.1)),(7,I (x3.2.2))] [] 1):=by
 refine fix_indP (Ffch_la_fin from_1 to_2) ?_
 intro self ih x3 y h hr hn
 unfold Ffch_la_F at h
 refine cq 7 [12] [B ((decide (x3.1 < to_2)))] 49 ?_
 refine sq h (fun h=>?_) (fun h=>?_)
 · refine aq 1 ?_
   refine cq 4 [13] [I (x3.1)] 65 ?_
   obtain ⟨r4,hr4,h⟩:=bS h
   refine oq 81 (enc_Date r4) rfl (e_callV rfl rfl (call_P rfl rfl rfl (avS (shP rfl) (avN)) (Ffbw_F hr4) (.inr rfl) (bl_n) rfl rfl rfl)) ?_
   refine cq 8 [8,16,18] [I (r4.Year),I (to_2),.agg [I (r4.Year),I (12),I (31)]] 161 ?_
   obtain ⟨r5,hr5,h⟩:=bS h
   refine oq 177 (I (r5)) rfl (e_callV rfl rfl (call_P rfl rfl rfl (avS (shP rfl) (avN)) (Ffbx_F hr5) (.inr rfl) (bl_n) rfl rfl rfl)) ?_
   refine cq 1 [20] [I ((w64 (r5 + 1)))] 193 ?_
   obtain ⟨r6,hr6,h⟩:=bS h
   refine oq 209 (I (r6)) rfl (e_callV rfl rfl (call_P rfl rfl rfl (avS (shP rfl) (avS (shP rfl) (avN))) (Ffbo_F hr6) (.inr rfl) (bl_n) rfl rfl rfl)) ?_
   refine cq 9 [9,24] [I (r6),B (((r4.Year.tmod 4) == 0))] 273 ?_
   obtain ⟨u7,hu7,h⟩:=lJ h
   have j7 : Run Ffch_E 0 Q (.code (cR (cR (cR (cL (cR (cL (cL (cL (cR (cR Ffch_c)))))))))) :: .blk 1 :: .lp (cL (cL (cL (cR (cR Ffch_c))))) :: .blk 0 :: K) (sT 38 [(1,I (to_2)),(6,I (u7.1)),(7,I (u7.2)),(9,I (r6))] [] 1):=by
     refine cq 5 [0] [I (r6)] 33 ?_
     refine s_lp ?_
     exact rf [0,1,6,7] [] (ih _ _ h hr hn :)
   replace h:=hu7
   clear hu7
   refine scp h rfl rfl (fun h=>?_) (fun h=>?_)
   · refine cq 8 [6] [I ((w64 ((w64 (x3.2.1 + r6)) - x3.1)))] 369 ?_
     subst h
     exact rf [1,6,7,9] [] (j7 :)
   · refine cq 8 [7] [I ((w64 ((w64 (x3.2.2 + r6)) - x3.1)))] 369 ?_
     subst h
     exact rf [1,6,7,9] [] (j7 :)
 · refine aq 1 ?_
   exact rf [6,7] [] (hn _ (Option.some.inj h).symm :) (hk:=hK)
theorem Ffch_run (from_1 : Int) (to_2 : Int) (r : Int × Int) (h : Ffch from_1 to_2=some r) : RunF Ffch_E Try.f57 [false,false] 0 (Ffch_A (from_1,to_2)) (Ffch_R r):=by
 show Run _ _ (Ffch_Q (from_1,to_2) r) [.code Ffch_c] _
 refine rin (n:=38) [(0,I (from_1)),(1,I (to_2))] [] 1 (by kernel_rfl) (by kernel_rfl) (by kernel_rfl) rfl ?_
 unfold Ffch at h
 refine cq 12 [6,7] [I (0),I (0)] 65 ?_
 obtain ⟨y8,hy8,hy81,hy82⟩:=bJ h
 refine s_loop rfl ?_
 refine rf [0,1,6,7] [] (Ffch_la_run from_1 to_2 rfl (from_1,0,0) _ hy8 (fun r' e st hq=>by rw [hy81 r' e] at hq; exact hq) fun u8 hu=>?_)
 replace h:=hy82 u8 hu
 refine cq 7 [4,5] [I (u8.1),I (u8.2)] 65 ?_
 obtain rfl:=Option.some.inj h
 exact s_ret rfl ⟨_,fin (vs:=[I (u8.1),I (u8.2)]) rfl (absE (absorb_plain rfl) (absE (absorb_plain rfl) (absEN))) rfl (ou_f (ou_f (ou_n))),kl_n⟩
theorem Ffch_good {G : Go.Ln.Ground} : Good Try.prog G 57 Ffch_ent:=good_T (fnOf_good (gl_c Ffbw_good (gl_c Ffbx_good (gl_c Ffbo_good (gl_n))))) agree_mk (Checked.mixed Try.checked) Try.func57 (n:=2) (m:=0) ⟨rfl,rfl,by decide⟩ (fun _=>⟨rfl,rfl⟩) (fun a r h=>Ffch_run a.1 a.2 r h)
def Ffcb_A : (Int × Int × Int)→List V:=cA I (cA I (oA I))
def Ffcb_R (r : Fraction × Bool) : V × List V:=(.tup [enc_Fraction r.1,B (r.2)],[])
noncomputable def Ffcb_ent : Ent:=entT [false,false,false] Ffcb_A Ffcb_R fun x=>Ffcb x.1 x.2.1 x.2.2
theorem Ffcb_F {from_1 : Int} {to_2 : Int} {convention_3 : Int} {r} (h : Ffcb from_1 to_2 convention_3=some r) : (Ffcb_ent).F (Ffcb_A (from_1,to_2,convention_3))=some (Ffcb_R r):=entT_F (cA_inj I_inj (cA_inj I_inj (oA_inj I_inj))) h
noncomputable def Ffcb_c : Code:=bodyOf Try.f31
noncomputable def Ffcb_E : Env:=mkE Try.prog [(55,Ffbd_ent),(56,Ffcg_ent),(57,Ffch_ent)]
def Ffcb_Q (x : Int × Int × Int) (r : Fraction × Bool) : St→Prop:=QF Ffcb_E Try.f31 [false,false,false] (Ffcb_A x) (Ffcb_R r)
theorem Ffcb_run (from_1 : Int) (to_2 : Int) (convention_3 : Int) (r : Fraction × Bool) (h : Ffcb from_1 to_2 convention_3=some r) : RunF Ffcb_E Try.f31 [false,false,false] 0 (Ffcb_A (from_1,to_2,convention_3)) (Ffcb_R r):=by
 show Run _ _ (Ffcb_Q (from_1,to_2,convention_3) r) [.code Ffcb_c] _
 refine rin (n:=49) [(0,I (from_1)),(1,I (to_2)),(2,I (convention_3))] [] 1 (by kernel_rfl) (by kernel_rfl) (by kernel_rfl) rfl ?_
 unfold Ffcb at h
 refine ck 16 [6,10,11] [] [1] [] [.hp 1 0 [] 2 0 0,I (convention_3),B ((convention_3 == 1))] [some ⟨0,2,[.agg [I (0),I (0)]]⟩] 81 (by kernel_rfl) ?_
 refine sq h (fun h=>?_) (fun h=>?_)
 · refine cq 5 [15] [I ((w64 (to_2 - from_1)))] 129 ?_
   obtain ⟨r4,hr4,h⟩:=bS h
   refine oq 145 (.tup [enc_Fraction r4.1,B (r4.2)]) rfl (e_callV rfl rfl (call_P rfl rfl rfl (avS (shP rfl) (avS (shP rfl) (avN))) (Ffbd_F hr4) (.inr rfl) (bl_n) rfl rfl rfl)) ?_
   refine ck 5 [7] [] [1] [] [B (r4.2)] [some ⟨0,2,[enc_Fraction r4.1]⟩] 209 (by kernel_rfl) ?_
   obtain rfl:=Option.some.inj h
   exact s_ret rfl ⟨_,fin (vs:=[enc_Fraction r4.1,B (r4.2)]) (rs_c (rs_cell rfl rfl rfl) (rs_c (rfl) (rs_n))) (absE (absorb_plain rfl) (absE (absorb_plain rfl) (absEN))) rfl (ou_f (ou_f (ou_f (ou_n)))),kl_n⟩
 · refine cq 5 [19] [B ((convention_3 == 2))] 113 ?_
   refine sq h (fun h=>?_) (fun h=>?_)
   · refine cq 5 [23] [I ((w64 (to_2 - from_1)))] 161 ?_
     obtain ⟨r5,hr5,h⟩:=bS h
     refine oq 177 (.tup [enc_Fraction r5.1,B (r5.2)]) rfl (e_callV rfl rfl (call_P rfl rfl rfl (avS (shP rfl) (avS (shP rfl) (avN))) (Ffbd_F hr5) (.inr rfl) (bl_n) rfl rfl rfl)) ?_
     refine ck 5 [7] [] [1] [] [B (r5.2)] [some ⟨0,2,[enc_Fraction r5.1]⟩] 241 (by kernel_rfl) ?_
     obtain rfl:=Option.some.inj h
     exact s_ret rfl ⟨_,fin (vs:=[enc_Fraction r5.1,B (r5.2)]) (rs_c (rs_cell rfl rfl rfl) (rs_c (rfl) (rs_n))) (absE (absorb_plain rfl) (absE (absorb_plain rfl) (absEN))) rfl (ou_f (ou_f (ou_f (ou_n)))),kl_n⟩
   · refine cq 5 [27] [B ((convention_3 == 3))] 145 ?_
     refine sq h (fun h=>?_) (fun h=>?_)
     · refine cq 4 [29,30] [I (from_1),I (to_2)] 177 ?_
       obtain ⟨r6,hr6,h⟩:=bS h
       refine oq 193 (I (r6)) rfl (e_callV rfl rfl (call_P rfl rfl rfl (avS (shP rfl) (avS (shP rfl) (avN))) (Ffcg_F hr6) (.inr rfl) (bl_n) rfl rfl rfl)) ?_
       obtain ⟨r7,hr7,h⟩:=bS h
       refine oq 209 (.tup [enc_Fraction r7.1,B (r7.2)]) rfl (e_callV rfl rfl (call_P rfl rfl rfl (avS (shP rfl) (avS (shP rfl) (avN))) (Ffbd_F hr7) (.inr rfl) (bl_n) rfl rfl rfl)) ?_
       refine ck 5 [7] [] [1] [] [B (r7.2)] [some ⟨0,2,[enc_Fraction r7.1]⟩] 273 (by kernel_rfl) ?_
       obtain rfl:=Option.some.inj h
       exact s_ret rfl ⟨_,fin (vs:=[enc_Fraction r7.1,B (r7.2)]) (rs_c (rs_cell rfl rfl rfl) (rs_c (rfl) (rs_n))) (absE (absorb_plain rfl) (absE (absorb_plain rfl) (absEN))) rfl (ou_f (ou_f (ou_f (ou_n)))),kl_n⟩
     · refine aq 1 ?_
       refine cq 5 [36,37] [I (from_1),I (to_2)] 177 ?_
       obtain ⟨r8,hr8,h⟩:=bS h
       refine oq 193 (.tup [I (r8.1),I (r8.2)]) rfl (e_callV rfl rfl (call_P rfl rfl rfl (avS (shP rfl) (avS (shP rfl) (avN))) (Ffch_F hr8) (.inr rfl) (bl_n) rfl rfl rfl)) ?_
       refine cq 13 [45] [I ((w64 ((w64 (365 * r8.1)) + (w64 (366 * r8.2)))))] 353 ?_
       obtain ⟨r9,hr9,h⟩:=bS h
       refine oq 369 (.tup [enc_Fraction r9.1,B (r9.2)]) rfl (e_callV rfl rfl (call_P rfl rfl rfl (avS (shP rfl) (avS (shP rfl) (avN))) (Ffbd_F hr9) (.inr rfl) (bl_n) rfl rfl rfl)) ?_
       refine ck 5 [7] [] [1] [] [B (r9.2)] [some ⟨0,2,[enc_Fraction r9.1]⟩] 433 (by kernel_rfl) ?_
       obtain rfl:=Option.some.inj h
       exact s_ret rfl ⟨_,fin (vs:=[enc_Fraction r9.1,B (r9.2)]) (rs_c (rs_cell rfl rfl rfl) (rs_c (rfl) (rs_n))) (absE (absorb_plain rfl) (absE (absorb_plain rfl) (absEN))) rfl (ou_f (ou_f (ou_f (ou_n)))),kl_n⟩
theorem Ffcb_good {G : Go.Ln.Ground} : Good Try.prog G 31 Ffcb_ent:=good_T (fnOf_good (gl_c Ffbd_good (gl_c Ffcg_good (gl_c Ffch_good (gl_n))))) agree_mk (Checked.mixed Try.checked) Try.func31 (n:=3) (m:=0) ⟨rfl,rfl,by decide⟩ (fun _=>⟨rfl,rfl⟩) (fun a r h=>Ffcb_run a.1 a.2.1 a.2.2 r h)
def Ffy_A : (Int × Int × Int)→List V:=cA I (cA I (oA I))
def Ffy_R (r : Fraction × Bool) : V × List V:=(.tup [enc_Fraction r.1,B (r.2)],[])
noncomputable def Ffy_ent : Ent:=entT [false,false,false] Ffy_A Ffy_R fun x=>Ffy x.1 x.2.1 x.2.2
theorem Ffy_F {from_1 : Int} {to_2 : Int} {convention_3 : Int} {r} (h : Ffy from_1 to_2 convention_3=some r) : (Ffy_ent).F (Ffy_A (from_1,to_2,convention_3))=some (Ffy_R r):=entT_F (cA_inj I_inj (cA_inj I_inj (oA_inj I_inj))) h
noncomputable def Ffy_c : Code:=bodyOf Try.f8
noncomputable def Ffy_E : Env:=mkE Try.prog [(29,Ffby_ent),(31,Ffcb_ent),(30,spec_l1In_ent)]
def Ffy_Q (x : Int × Int × Int) (r : Fraction × Bool) : St→Prop:=QF Ffy_E Try.f8 [false,false,false] (Ffy_A x) (Ffy_R r)
theorem Ffy_run (from_1 : Int) (to_2 : Int) (convention_3 : Int) (r : Fraction × Bool) (h : Ffy from_1 to_2 convention_3=some r) : RunF Ffy_E Try.f8 [false,false,false] 0 (Ffy_A (from_1,to_2,convention_3)) (Ffy_R r):=by
 show Run _ _ (Ffy_Q (from_1,to_2,convention_3) r) [.code Ffy_c] _
 refine rin (n:=33) [(0,I (from_1)),(1,I (to_2)),(2,I (convention_3))] [] 1 (by kernel_rfl) (by kernel_rfl) (by kernel_rfl) rfl ?_
 unfold Ffy at h
 refine ck 9 [6,8] [] [1] [] [.hp 1 0 [] 2 0 0,I (from_1)] [some ⟨0,2,[.agg [I (0),I (0)]]⟩] 49 (by kernel_rfl) ?_
 obtain ⟨r4,hr4,h⟩:=bS h
 refine oq 65 (B (r4)) rfl (e_callV rfl rfl (call_P rfl rfl rfl (avS (shP rfl) (avN)) (Ffby_F hr4) (.inr rfl) (bl_n) rfl rfl rfl)) ?_
 refine cq 2 [11] [B ((!r4))] 97 ?_
 obtain ⟨y5,hy5,hy51,hy52⟩:=bJ h
 have j5 : ∀ u5,y5=.inr u5→Run Ffy_E 0 (Ffy_Q (from_1,to_2,convention_3) r) (.code (cR (cL (cR Ffy_c))) :: .code (cR (cR Ffy_c)) :: []) (sT 33 [(0,I (from_1)),(1,I (to_2)),(2,I (convention_3)),(6,.hp 1 0 [] 2 0 0),(25,B (u5))] [⟨0,2,[.agg [I (0),I (0)]]⟩] 2):=by
   intro u5 hu
   replace h:=hy52 u5 hu
   refine sq h (fun h=>?_) (fun h=>?_)
   · refine ck 6 [7] [] [1] [] [B (false)] [some ⟨0,2,[.agg [I (0),I (0)]]⟩] 50 (by kernel_rfl) ?_
     obtain rfl:=Option.some.inj h
     exact s_ret rfl ⟨_,fin (vs:=[.agg [I (0),I (0)],B (false)]) (rs_c (rs_cell rfl rfl rfl) (rs_c (rfl) (rs_n))) (absE (absorb_plain rfl) (absE (absorb_plain rfl) (absEN))) rfl (ou_f (ou_f (ou_f (ou_n)))),kl_n⟩
   · refine aq 1 ?_
     refine cq 5 [27,28,29] [I (from_1),I (to_2),I (convention_3)] 50 ?_
     obtain ⟨r6,hr6,h⟩:=bS h
     refine oq 66 (.tup [enc_Fraction r6.1,B (r6.2)]) rfl (e_callV rfl rfl (call_P rfl rfl rfl (avS (shP rfl) (avS (shP rfl) (avS (shP rfl) (avN)))) (Ffcb_F hr6) (.inr rfl) (bl_n) rfl rfl rfl)) ?_
     refine ck 5 [7] [] [1] [] [B (r6.2)] [some ⟨0,2,[enc_Fraction r6.1]⟩] 130 (by kernel_rfl) ?_
     obtain rfl:=Option.some.inj h
     exact s_ret rfl ⟨_,fin (vs:=[enc_Fraction r6.1,B (r6.2)]) (rs_c (rs_cell rfl rfl rfl) (rs_c (rfl) (rs_n))) (absE (absorb_plain rfl) (absE (absorb_plain rfl) (absEN))) rfl (ou_f (ou_f (ou_f (ou_n)))),kl_n⟩
 have r5 : ∀ r',y5=.inl r'→∀ st,Ffy_Q (from_1,to_2,convention_3) r' st→(Ffy_Q (from_1,to_2,convention_3) r) st:=fun r' e st hq=>by rw [hy51 r' e] at hq; exact hq
 replace h:=hy5
 refine sp 11 h rfl (fun h=>?_) (fun h=>?_)
 · refine cq 15 [25] [B (true)] 321 ?_
   exact rf [0,1,2,6,25] [1] (j5 _ (Option.some.inj h).symm :)
 · refine cq 1 [12] [I (to_2)] 113 ?_
   obtain ⟨r7,hr7,h⟩:=bS h
   refine oy 129 (B (r7)) rfl (e_callV rfl rfl (call_P rfl rfl rfl (avS (shP rfl) (avN)) (Ffby_F hr7) (.inr rfl) (bl_n) rfl rfl rfl)) ?_
   refine cq 3 [16] [B ((!r7))] 177 ?_
   obtain ⟨y8,hy8,hy81,hy82⟩:=bL h
   have j8 : ∀ u8,y8=.inr u8→Run Ffy_E 0 (Ffy_Q (from_1,to_2,convention_3) r) (.code (cR (cL (cR Ffy_c))) :: .code (cR (cR Ffy_c)) :: []) (sT 33 [(0,I (from_1)),(1,I (to_2)),(2,I (convention_3)),(6,.hp 1 0 [] 2 0 0),(25,B (u8))] [⟨0,2,[.agg [I (0),I (0)]]⟩] 2):=by
     intro u8 hu
     replace h:=hy82 u8 hu
     exact rf [0,1,2,6,25] [1] (j5 _ (Option.some.inj h).symm :)
   have r8 : ∀ r',y8=.inl r'→∀ st,Ffy_Q (from_1,to_2,convention_3) r' st→(Ffy_Q (from_1,to_2,convention_3) r) st:=fun r' e st hq=>r5 r' (hy81 r' e) st hq
   replace h:=hy8
   refine sp 16 h rfl (fun h=>?_) (fun h=>?_)
   · refine cq 10 [25] [B (true)] 321 ?_
     exact rf [0,1,2,6,25] [1] (j8 _ (Option.some.inj h).symm :)
   · refine cq 5 [21] [B ((decide (from_1 > to_2)))] 257 ?_
     obtain ⟨y9,hy9,hy91,hy92⟩:=bL h
     have j9 : ∀ u9,y9=.inr u9→Run Ffy_E 0 (Ffy_Q (from_1,to_2,convention_3) r) (.code (cR (cL (cR Ffy_c))) :: .code (cR (cR Ffy_c)) :: []) (sT 33 [(0,I (from_1)),(1,I (to_2)),(2,I (convention_3)),(6,.hp 1 0 [] 2 0 0),(25,B (u9))] [⟨0,2,[.agg [I (0),I (0)]]⟩] 2):=by
       intro u9 hu
       replace h:=hy92 u9 hu
       exact rf [0,1,2,6,25] [1] (j8 _ (Option.some.inj h).symm :)
     have r9 : ∀ r',y9=.inl r'→∀ st,Ffy_Q (from_1,to_2,convention_3) r' st→(Ffy_Q (from_1,to_2,convention_3) r) st:=fun r' e st hq=>r8 r' (hy91 r' e) st hq
     replace h:=hy9
     refine sp 21 h rfl (fun h=>?_) (fun h=>?_)
     · refine cq 5 [25] [B (true)] 321 ?_
       exact rf [0,1,2,6,25] [1] (j9 _ (Option.some.inj h).symm :)
     · refine cq 1 [22] [I (convention_3)] 273 ?_
       obtain ⟨r10,hr10,h⟩:=bS h
       refine oy 289 (B (r10)) rfl (e_callV rfl rfl (call_P rfl rfl rfl (avS (shP rfl) (avS (shP rfl) (avS (shP rfl) (avN)))) (spec_l1In_F hr10) (.inr rfl) (bl_n) rfl rfl rfl)) ?_
       refine cq 3 [25] [B ((!r10))] 321 ?_
       exact rf [0,1,2,6,25] [1] (j9 _ (Option.some.inj h).symm :)
theorem Ffy_good {G : Go.Ln.Ground} : Good Try.prog G 8 Ffy_ent:=good_T (fnOf_good (gl_c Ffby_good (gl_c Ffcb_good (gl_c spec_l1In_good (gl_n))))) agree_mk (Checked.mixed Try.checked) Try.func8 (n:=3) (m:=0) ⟨rfl,rfl,by decide⟩ (fun _=>⟨rfl,rfl⟩) (fun a r h=>Ffy_run a.1 a.2.1 a.2.2 r h)
def Ffw_A : (Fraction × Fraction)→List V:=cA enc_Fraction (oA enc_Fraction)
def Ffw_R (r : Fraction × Bool) : V × List V:=(.tup [enc_Fraction r.1,B (r.2)],[])
noncomputable def Ffw_ent : Ent:=entT [false,false] Ffw_A Ffw_R fun x=>Ffw x.1 x.2
theorem Ffw_F {a_1 : Fraction} {b_2 : Fraction} {r} (h : Ffw a_1 b_2=some r) : (Ffw_ent).F (Ffw_A (a_1,b_2))=some (Ffw_R r):=entT_F (cA_inj enc_Fraction_inj (oA_inj enc_Fraction_inj)) h
noncomputable def Ffw_c : Code:=bodyOf Try.f9
noncomputable def Ffw_E : Env:=mkE Try.prog [(32,Ffbt_ent),(33,Ffbv_ent)]
def Ffw_Q (x : Fraction × Fraction) (r : Fraction × Bool) : St→Prop:=QF Ffw_E Try.f9 [false,false] (Ffw_A x) (Ffw_R r)
theorem Ffw_run (a_1 : Fraction) (b_2 : Fraction) (r : Fraction × Bool) (h : Ffw a_1 b_2=some r) : RunF Ffw_E Try.f9 [false,false] 0 (Ffw_A (a_1,b_2)) (Ffw_R r):=by
 show Run _ _ (Ffw_Q (a_1,b_2) r) [.code Ffw_c] _
 refine rin (n:=34) [(0,enc_Fraction a_1),(1,enc_Fraction b_2)] [] 1 (by kernel_rfl) (by kernel_rfl) (by kernel_rfl) rfl ?_
 unfold Ffw at h
 refine ck 11 [2,3,4,6] [] [1,17,33] [] [.hp 1 0 [] 2 0 0,.hp 17 0 [] 2 0 0,.hp 33 0 [] 2 0 0,enc_Fraction a_1] [some ⟨0,2,[enc_Fraction a_1]⟩,some ⟨0,2,[enc_Fraction b_2]⟩,some ⟨0,2,[.agg [I (0),I (0)]]⟩] 81 (by kernel_rfl) ?_
 obtain ⟨r3,hr3,h⟩:=bS h
 refine oq 97 (B (r3)) rfl (e_callV rfl rfl (call_P rfl rfl rfl (avS (shP rfl) (avN)) (Ffbt_F hr3) (.inr rfl) (bl_n) rfl rfl rfl)) ?_
 refine cq 2 [9] [B ((!r3))] 129 ?_
 obtain ⟨y4,hy4,hy41,hy42⟩:=bJ h
 have j4 : ∀ u4,y4=.inr u4→Run Ffw_E 0 (Ffw_Q (a_1,b_2) r) (.code (cR (cL (cR Ffw_c))) :: .code (cR (cR Ffw_c)) :: []) (sT 34 [(2,.hp 1 0 [] 2 0 0),(3,.hp 2 0 [] 2 0 0),(4,.hp 3 0 [] 2 0 0),(13,B (u4))] [⟨0,2,[enc_Fraction a_1]⟩,⟨0,2,[enc_Fraction b_2]⟩,⟨0,2,[.agg [I (0),I (0)]]⟩] 4):=by
   intro u4 hu
   replace h:=hy42 u4 hu
   refine sq h (fun h=>?_) (fun h=>?_)
   · refine ck 6 [5] [] [3] [] [B (false)] [some ⟨0,2,[.agg [I (0),I (0)]]⟩] 52 (by kernel_rfl) ?_
     obtain rfl:=Option.some.inj h
     exact s_ret rfl ⟨_,fin (vs:=[.agg [I (0),I (0)],B (false)]) (rs_c (rs_cell rfl rfl rfl) (rs_c (rfl) (rs_n))) (absE (absorb_plain rfl) (absE (absorb_plain rfl) (absEN))) rfl (ou_f (ou_f (ou_n))),kl_n⟩
   · refine aq 1 ?_
     refine cq 18 [25,30] [I ((w64 ((w64 (a_1.Num * b_2.Den)) + (w64 (b_2.Num * a_1.Den))))),I ((w64 (a_1.Den * b_2.Den)))] 260 ?_
     obtain ⟨r5,hr5,h⟩:=bS h
     refine oq 276 (.tup [enc_Fraction r5.1,B (r5.2)]) rfl (e_callV rfl rfl (call_P rfl rfl rfl (avS (shP rfl) (avS (shP rfl) (avN))) (Ffbv_F hr5) (.inr rfl) (bl_n) rfl rfl rfl)) ?_
     refine ck 5 [5] [] [3] [] [B (r5.2)] [some ⟨0,2,[enc_Fraction r5.1]⟩] 340 (by kernel_rfl) ?_
     obtain rfl:=Option.some.inj h
     exact s_ret rfl ⟨_,fin (vs:=[enc_Fraction r5.1,B (r5.2)]) (rs_c (rs_cell rfl rfl rfl) (rs_c (rfl) (rs_n))) (absE (absorb_plain rfl) (absE (absorb_plain rfl) (absEN))) rfl (ou_f (ou_f (ou_n))),kl_n⟩
 have r4 : ∀ r',y4=.inl r'→∀ st,Ffw_Q (a_1,b_2) r' st→(Ffw_Q (a_1,b_2) r) st:=fun r' e st hq=>by rw [hy41 r' e] at hq; exact hq
 replace h:=hy4
 refine sp 9 h rfl (fun h=>?_) (fun h=>?_)
 · refine cq 5 [13] [B (true)] 193 ?_
   exact rf [2,3,4,13] [1,17,33] (j4 _ (Option.some.inj h).symm :)
 · refine cq 1 [10] [enc_Fraction b_2] 145 ?_
   obtain ⟨r6,hr6,h⟩:=bS h
   refine oy 161 (B (r6)) rfl (e_callV rfl rfl (call_P rfl rfl rfl (avS (shP rfl) (avN)) (Ffbt_F hr6) (.inr rfl) (bl_n) rfl rfl rfl)) ?_
   refine cq 3 [13] [B ((!r6))] 193 ?_
   exact rf [2,3,4,13] [1,17,33] (j4 _ (Option.some.inj h).symm :)
theorem Ffw_good {G : Go.Ln.Ground} : Good Try.prog G 9 Ffw_ent:=good_T (fnOf_good (gl_c Ffbt_good (gl_c Ffbv_good (gl_n)))) agree_mk (Checked.mixed Try.checked) Try.func9 (n:=2) (m:=0) ⟨rfl,rfl,by decide⟩ (fun _=>⟨rfl,rfl⟩) (fun a r h=>Ffw_run a.1 a.2 r h)
def Ffbp_A : (Int × Int)→List V:=cA I (oA I)
def Ffbp_R (r : Int) : V × List V:=(I (r),[])
noncomputable def Ffbp_ent : Ent:=entT [false,false] Ffbp_A Ffbp_R fun x=>Ffbp x.1 x.2
theorem Ffbp_F {a_1 : Int} {b_2 : Int} {r} (h : Ffbp a_1 b_2=some r) : (Ffbp_ent).F (Ffbp_A (a_1,b_2))=some (Ffbp_R r):=entT_F (cA_inj I_inj (oA_inj I_inj)) h
noncomputable def Ffbp_c : Code:=bodyOf Try.f70
noncomputable def Ffbp_E : Env:=mkE Try.prog []
def Ffbp_Q (x : Int × Int) (r : Int) : St→Prop:=QF Ffbp_E Try.f70 [false,false] (Ffbp_A x) (Ffbp_R r)
theorem Ffbp_run (a_1 : Int) (b_2 : Int) (r : Int) (h : Ffbp a_1 b_2=some r) : RunF Ffbp_E Try.f70 [false,false] 0 (Ffbp_A (a_1,b_2)) (Ffbp_R r):=by
 show Run _ _ (Ffbp_Q (a_1,b_2) r) [.code Ffbp_c] _
 refine rin (n:=10) [(0,I (a_1)),(1,I (b_2))] [] 1 (by kernel_rfl) (by kernel_rfl) (by kernel_rfl) rfl ?_
 unfold Ffbp at h
 refine cq 11 [7] [B ((decide (a_1 > b_2)))] 65 ?_
 refine sq h (fun h=>?_) (fun h=>?_)
 · refine cq 5 [4] [I (a_1)] 97 ?_
   obtain rfl:=Option.some.inj h
   exact s_ret rfl ⟨_,fin (vs:=[I (a_1)]) rfl (absE (absorb_plain rfl) (absEN)) rfl (ou_f (ou_f (ou_n))),kl_n⟩
 · refine aq 1 ?_
   refine cq 5 [4] [I (b_2)] 97 ?_
   obtain rfl:=Option.some.inj h
   exact s_ret rfl ⟨_,fin (vs:=[I (b_2)]) rfl (absE (absorb_plain rfl) (absEN)) rfl (ou_f (ou_f (ou_n))),kl_n⟩
theorem Ffbp_good {G : Go.Ln.Ground} : Good Try.prog G 70 Ffbp_ent:=good_T (fnOf_good (gl_n)) agree_mk (Checked.mixed Try.checked) Try.func70 (n:=2) (m:=0) ⟨rfl,rfl,by decide⟩ (fun _=>⟨rfl,rfl⟩) (fun a r h=>Ffbp_run a.1 a.2 r h)
def Ffbh_A : (l1Cur × Int)→List V:=cA (upE encO_l1Cur) (oA I)
def Ffbh_R (r : Calendar × l1Cur) : V × List V:=(encO_Calendar r.1,[.uptr (encI_l1Cur r.2)])
noncomputable def Ffbh_ent : Ent:=entT [true,false] Ffbh_A Ffbh_R fun x=>Ffbh x.1 x.2
theorem Ffbh_F {c_3 : l1Cur} {near_4 : Int} {r} (h : Ffbh c_3 near_4=some r) : (Ffbh_ent).F (Ffbh_A (c_3,near_4))=some (Ffbh_R r):=entT_F (cA_inj (uptr_inj encO_l1Cur_inj) (oA_inj I_inj)) h
noncomputable def Ffbh_c : Code:=bodyOf Try.f68
noncomputable abbrev Ffbh_ka : Code:=cL (cL (cR (cL (cR (cR (cR (cR Ffbh_c)))))))
noncomputable abbrev Ffbh_kb : Code:=cL (cL (cR (cL (cR (cR (cR (cL (cR (cL (cR (cR Ffbh_c)))))))))))
noncomputable def Ffbh_E : Env:=mkE Try.prog [(48,Ffbm_ent),(70,Ffbp_ent),(24,Ffbl_ent)]
def Ffbh_Q (x : l1Cur × Int) (r : Calendar × l1Cur) : St→Prop:=QF Ffbh_E Try.f68 [true,false] (Ffbh_A x) (Ffbh_R r)
theorem Ffbh_la_run (c_3 : l1Cur) (near_4 : Int) (u4 : Int × (List Int) × Int × Int × (List Int)) {Q : St→Prop} {K : List It} (hK : noD K=true) : ∀ (x7 : Int × Int × (List Int) × Int × Int × (List Int)) (y : (Calendar × l1Cur) ⊕ ((List Int) × Int × Int × (List Int))),Ffbh_la c_3 near_4 u4 x7=some y→(∀ r',y=.inl r'→∀ st,Ffbh_Q (c_3,near_4) r' st→Q st)→(∀ u : (List Int) × Int × Int × (List Int),y=.inr u→Run Ffbh_E 1 Q K (sT 57 [(4,.hp 2 0 [] 2 0 0),(5,.hp 3 0 [] 2 0 0)] [⟨0,3,[.agg [.isl false ((u.1).map (V.int .u8)),I (u.2.1),.int .u64 (u.2.2.1)]]⟩,⟨0,2,[.agg [.usl 1 (([]).map I),.usl 1 (([]).map I)]]⟩,⟨0,2,[.agg [.usl 1 ((u4.2.2.2.2).map I),.usl 1 ((u.2.2.2).map I)]]⟩] 4))→Run Ffbh_E 1 Q (.code Ffbh_ka :: .lp Ffbh_ka :: .blk 3 :: K) (sT 57 [(0,.hp 1 0 [] 3 0 0),(4,.hp 2 0 [] 2 0 0),(5,.hp 3 0 [] 2 0 0),(7,I (x7.1)),(8,I (x7.2.1))] [⟨0,3,[.agg [.isl false ((x7.2.2.1).map (V.int .u8)),I (x7.2.2.2.1),.int .u64 (x7.2.2.2.2.1)]]⟩,⟨0,2,[.agg [.usl 1 (([]).map I),.usl 1 (([]).map I)]]⟩,⟨0,2,[.agg [.usl 1 ((u4.2.2.2.2).map I),.usl 1 ((x7.2.2.2.2.2).map I)]]⟩] 4):=by
 refine fix_indP (Ffbh_la_fin c_3 near_4 u4) ?_
 intro self ih x7 y h hr hn
 unfold Ffbh_la_F at h
 refine cq 6 [39] [B ((decide (x7.2.1 > 0)))] 52 ?_
 obtain ⟨u8,hu8,h⟩:=lJ h
 have j8 : Run Ffbh_E 1 Q (.code (cR (cL Ffbh_ka)) :: .code (cR Ffbh_ka) :: .lp Ffbh_ka :: .blk 3 :: K) (sT 57 [(0,.hp 1 0 [] 3 0 0),(4,.hp 2 0 [] 2 0 0),(5,.hp 3 0 [] 2 0 0),(7,I (x7.1)),(8,I (x7.2.1)),(42,B (u8))] [⟨0,3,[.agg [.isl false ((x7.2.2.1).map (V.int .u8)),I (x7.2.2.2.1),.int .u64 (x7.2.2.2.2.1)]]⟩,⟨0,2,[.agg [.usl 1 (([]).map I),.usl 1 (([]).map I)]]⟩,⟨0,2,[.agg [.usl 1 ((u4.2.2.2.2).map I),.usl 1 ((x7.2.2.2.2.2).map I)]]⟩] 4):=by
   refine sq h (fun h=>?_) (fun h=>?_)
   · refine aq 1 ?_
     refine cq 7 [46,47] [.hs 3 0 [(0,1)] 1 0 ((x7.2.2.2.2.2).map I).length,I (x7.1)] 52 ?_
     refine oq 68 (.hs 52 0 [] 1 0 1) rfl (e_buildSlice rfl (bs_mk (f:=I) (xs:=[]) (z:=I (0)) (es:=[I (x7.1)]) (ws:=[I (x7.1)]) rfl rfl rfl (by decide) rfl (abs_each_plain rfl) rfl)) ?_
     obtain ⟨a9,ha9,h⟩:=bS h
     refine oq 84 (.hs 68 0 [] 1 0 ((a9).map I).length) rfl (e_append rfl rfl rfl rfl rfl (ap_hsM (path:=[(0,1)]) (f:=I) (xs:=x7.2.2.2.2.2) (ys:=[x7.1]) rfl rfl (take_hs rfl rfl rfl) rfl rfl rfl (ra_c rfl rfl (ra_n)) rfl (by decide) I_cells ha9 rfl (to_c (path:=[]) (i:=0) (k:=1) (e':=.agg [.usl 1 ((u4.2.2.2.2).map I),.dead]) (es2':=[.agg [.usl 1 ((u4.2.2.2.2).map I),.dead]]) (ra_n) rfl rfl rfl (sr_n)))) ?_
     refine cq 1 [50] [.hp 3 0 [] 2 0 1] 100 ?_
     refine o0 116 rfl rfl (e_st rfl rfl (st_at (path:=[]) (pl:=false) (e':=.agg [.usl 1 ((u4.2.2.2.2).map I),.usl 1 ((a9).map I)]) (es2':=[.agg [.usl 1 ((u4.2.2.2.2).map I),.usl 1 ((a9).map I)]]) rfl (abs1 rfl (abs_hs rfl rfl)) rfl rfl rfl (ra_n) rfl rfl rfl rfl rfl (sr_n) 1 rfl)) ?_
     refine cq 5 [52,53] [I ((w64 (x7.1 + 1))),.hp 1 0 [] 3 0 0] 164 ?_
     obtain ⟨r10,hr10,h⟩:=bS h
     refine oq 180 (I (r10.1)) rfl (e_callV rfl rfl (call_P rfl rfl rfl (avO (hd1 rfl (hd_hp (path:=[]) rfl rfl (ra_n) rfl)) (avS (shP rfl) (avN))) (Ffbm_F hr10) (.inr rfl) (bl_c rfl rfl rfl rfl (bl_n)) rfl rfl rfl)) ?_
     refine cq 9 [7,8] [I ((w64 ((w64 (x7.1 + 1)) + r10.1))),I ((w64 (x7.2.1 - 1)))] 260 ?_
     refine s_lp ?_
     exact rf [0,4,5,7,8] [1,2,3] (ih _ _ h hr hn :)
   · refine aq 1 ?_
     exact rf [4,5] [1,2,3] (hn _ (Option.some.inj h).symm :) (hk:=hK)
 replace h:=hu8
 clear hu8
 refine sp 39 h rfl (fun h=>?_) (fun h=>?_)
 · refine cq 4 [42] [B ((decide (x7.1 ≤ 36524)))] 100 ?_
   subst h
   exact rf [0,4,5,7,8,42] [1,2,3] (j8 :)
 · refine cq 4 [42] [B (false)] 100 ?_
   subst h
   exact rf [0,4,5,7,8,42] [1,2,3] (j8 :)
theorem Ffbh_lb_run (c_3 : l1Cur) (near_4 : Int)  {Q : St→Prop} {K : List It} (hK : noD K=true) : ∀ (x13 : Int × (List Int) × Int × Int × (List Int)) (y : (Calendar × l1Cur) ⊕ ((List Int) × Int × Int × (List Int))),Ffbh_lb c_3 near_4 x13=some y→(∀ r',y=.inl r'→∀ st,Ffbh_Q (c_3,near_4) r' st→Q st)→(∀ u : (List Int) × Int × Int × (List Int),y=.inr u→Run Ffbh_E 1 Q K (sT 57 [(0,.hp 1 0 [] 3 0 0),(1,I (near_4)),(4,.hp 2 0 [] 2 0 0),(5,.hp 3 0 [] 2 0 0)] [⟨0,3,[.agg [.isl false ((u.1).map (V.int .u8)),I (u.2.1),.int .u64 (u.2.2.1)]]⟩,⟨0,2,[.agg [.usl 1 (([]).map I),.usl 1 (([]).map I)]]⟩,⟨0,2,[.agg [.usl 1 ((u.2.2.2).map I),.usl 1 (([]).map I)]]⟩] 4))→Run Ffbh_E 1 Q (.code Ffbh_kb :: .lp Ffbh_kb :: .blk 1 :: K) (sT 57 [(0,.hp 1 0 [] 3 0 0),(1,I (near_4)),(4,.hp 2 0 [] 2 0 0),(5,.hp 3 0 [] 2 0 0),(6,I (x13.1))] [⟨0,3,[.agg [.isl false ((x13.2.1).map (V.int .u8)),I (x13.2.2.1),.int .u64 (x13.2.2.2.1)]]⟩,⟨0,2,[.agg [.usl 1 (([]).map I),.usl 1 (([]).map I)]]⟩,⟨0,2,[.agg [.usl 1 ((x13.2.2.2.2).map I),.usl 1 (([]).map I)]]⟩] 4):=by
 refine fix_indP (Ffbh_lb_fin c_3 near_4) ?_
 intro self ih x13 y h hr hn
 unfold Ffbh_lb_F at h
 refine cq 6 [21] [B ((decide (x13.1 < 6)))] 36 ?_
 refine sq h (fun h=>?_) (fun h=>?_)
 · refine aq 1 ?_
   refine cq 5 [24] [.hp 1 0 [] 3 0 0] 52 ?_
   obtain ⟨r14,hr14,h⟩:=bS h
   refine oq 68 (B (r14.1)) rfl (e_callV rfl rfl (call_P rfl rfl rfl (avO (hd1 rfl (hd_hp (path:=[]) rfl rfl (ra_n) rfl)) (avS (shP rfl) (avN))) (Ffbl_F hr14) (.inr rfl) (bl_c rfl rfl rfl rfl (bl_n)) rfl rfl rfl)) ?_
   refine aq 1 ?_
   obtain ⟨y15,hy15,hy151,hy152⟩:=bL h
   have j15 : ∀ u15,y15=.inr u15→Run Ffbh_E 1 Q (.blk 2 :: .code (cR (cR Ffbh_kb)) :: .lp Ffbh_kb :: .blk 1 :: K) (sT 57 [(0,.hp 1 0 [] 3 0 0),(1,I (near_4)),(4,.hp 2 0 [] 2 0 0),(5,.hp 3 0 [] 2 0 0),(6,I (x13.1))] [⟨0,3,[encI_l1Cur r14.2]⟩,⟨0,2,[.agg [.usl 1 (([]).map I),.usl 1 (([]).map I)]]⟩,⟨0,2,[.agg [.usl 1 ((u15).map I),.usl 1 (([]).map I)]]⟩] 4):=by
     intro u15 hu
     replace h:=hy152 u15 hu
     refine cq 6 [6] [I ((w64 (x13.1 + 1)))] 52 ?_
     refine s_lp ?_
     exact rf [0,1,4,5,6] [1,2,3] (ih _ _ h hr hn :)
   have r15 : ∀ r',y15=.inl r'→∀ st,Ffbh_Q (c_3,near_4) r' st→Q st:=fun r' e st hq=>hr r' (hy151 r' e) st hq
   replace h:=hy15
   refine sq h (fun h=>?_) (fun h=>?_)
   · refine cq 4 [27,28] [.hs 3 0 [(0,0)] 1 0 ((x13.2.2.2.2).map I).length,I (x13.1)] 116 ?_
     refine oq 132 (.hs 116 0 [] 1 0 1) rfl (e_buildSlice rfl (bs_mk (f:=I) (xs:=[]) (z:=I (0)) (es:=[I (x13.1)]) (ws:=[I (x13.1)]) rfl rfl rfl (by decide) rfl (abs_each_plain rfl) rfl)) ?_
     obtain ⟨a16,ha16,h⟩:=bS h
     refine oq 148 (.hs 132 0 [] 1 0 ((a16).map I).length) rfl (e_append rfl rfl rfl rfl rfl (ap_hsM (path:=[(0,0)]) (f:=I) (xs:=x13.2.2.2.2) (ys:=[x13.1]) rfl rfl (take_hs rfl rfl rfl) rfl rfl rfl (ra_c rfl rfl (ra_n)) rfl (by decide) I_cells ha16 rfl (to_c (path:=[]) (i:=0) (k:=0) (e':=.agg [.dead,.usl 1 (([]).map I)]) (es2':=[.agg [.dead,.usl 1 (([]).map I)]]) (ra_n) rfl rfl rfl (sr_n)))) ?_
     refine cq 1 [31] [.hp 3 0 [] 2 0 0] 164 ?_
     refine o0 180 rfl rfl (e_st rfl rfl (st_at (path:=[]) (pl:=false) (e':=.agg [.usl 1 ((a16).map I),.usl 1 (([]).map I)]) (es2':=[.agg [.usl 1 ((a16).map I),.usl 1 (([]).map I)]]) rfl (abs1 rfl (abs_hs rfl rfl)) rfl rfl rfl (ra_n) rfl rfl rfl rfl rfl (sr_n) 1 rfl)) ?_
     refine aq 1 ?_
     exact rf [0,1,4,5,6] [1,2,3] (j15 _ (Option.some.inj h).symm :)
   · refine aq 1 ?_
     exact rf [0,1,4,5,6] [1,2,3] (j15 _ (Option.some.inj h).symm :)
 · refine aq 1 ?_
   exact rf [0,1,4,5] [1,2,3] (hn _ (Option.some.inj h).symm :) (hk:=hK)
theorem Ffbh_run (c_3 : l1Cur) (near_4 : Int) (r : Calendar × l1Cur) (h : Ffbh c_3 near_4=some r) : RunF Ffbh_E Try.f68 [true,false] 1 (Ffbh_A (c_3,near_4)) (Ffbh_R r):=by
 show Run _ _ (Ffbh_Q (c_3,near_4) r) [.code Ffbh_c] _
 refine rin (n:=57) [(0,.hp 1 0 [] 3 0 0),(1,I (near_4))] [(1,some ⟨0,3,[encI_l1Cur c_3]⟩)] 2 (by kernel_rfl) (by kernel_rfl) (by kernel_rfl) rfl ?_
 unfold Ffbh at h
 refine ck 3 [4] [] [2] [] [.hp 2 0 [] 2 0 0] [some ⟨0,2,[.agg [.isl true [],.isl true []]]⟩] 18 (by kernel_rfl) ?_
 refine run_row 2 [.agg [.usl 1 (([]).map I),.usl 1 (([]).map I)]] rfl rfl (cvs_c (cv_agg (cvs_c (.nil _) (cvs_c (.nil _) (cvs_n)))) cvs_n) ?_
 refine ck 5 [5,9] [] [34] [] [.hp 34 0 [] 2 0 0,.agg [.isl true [],.isl true []]] [some ⟨0,2,[.agg [.isl true [],.isl true []]]⟩] 50 (by kernel_rfl) ?_
 refine run_row 34 [.agg [.usl 1 (([]).map I),.usl 1 (([]).map I)]] rfl rfl (cvs_c (cv_agg (cvs_c (.nil _) (cvs_c (.nil _) (cvs_n)))) cvs_n) ?_
 refine ck 1 [] [] [34] [] [] [some ⟨2,2,[.agg [.isl true [],.isl true []]]⟩] 66 (by kernel_rfl) ?_
 refine run_row 34 [.agg [.usl 1 (([]).map I),.usl 1 (([]).map I)]] rfl rfl (cvs_c (cv_agg (cvs_c (.nil _) (cvs_c (.nil _) (cvs_n)))) cvs_n) ?_
 refine cq 5 [10] [.hp 1 0 [] 3 0 0] 82 ?_
 obtain ⟨r3,hr3,h⟩:=bS h
 refine oq 98 (I (r3.1)) rfl (e_callV rfl rfl (call_P rfl rfl rfl (avO (hd1 rfl (hd_hp (path:=[]) rfl rfl (ra_n) rfl)) (avS (shP rfl) (avN))) (Ffbm_F hr3) (.inr rfl) (bl_c rfl rfl rfl rfl (bl_n)) rfl rfl rfl)) ?_
 refine cq 7 [14] [B ((r3.1 == 0))] 130 ?_
 obtain ⟨y4,hy4,hy41,hy42⟩:=bJ h
 have j4 : ∀ u4,y4=.inr u4→Run Ffbh_E 1 (Ffbh_Q (c_3,near_4) r) (.blk 0 :: .code (cR (cR (cR Ffbh_c))) :: []) (sT 57 [(0,.hp 1 0 [] 3 0 0),(1,I (u4.1)),(4,.hp 2 0 [] 2 0 0),(5,.hp 3 0 [] 2 0 0)] [⟨0,3,[.agg [.isl false ((u4.2.1).map (V.int .u8)),I (u4.2.2.1),.int .u64 (u4.2.2.2.1)]]⟩,⟨0,2,[.agg [.usl 1 (([]).map I),.usl 1 (([]).map I)]]⟩,⟨0,2,[.agg [.usl 1 ((u4.2.2.2.2).map I),.usl 1 (([]).map I)]]⟩] 4):=by
   intro u4 hu
   replace h:=hy42 u4 hu
   refine cq 5 [33] [I ((w64 (u4.1 - 8)))] 36 ?_
   obtain ⟨r5,hr5,h⟩:=bS h
   refine oq 52 (I (r5)) rfl (e_callV rfl rfl (call_P rfl rfl rfl (avS (shP rfl) (avS (shP rfl) (avN))) (Ffbp_F hr5) (.inr rfl) (bl_n) rfl rfl rfl)) ?_
   refine cq 6 [7,35] [I (r5),.hp 1 0 [] 3 0 0] 84 ?_
   obtain ⟨r6,hr6,h⟩:=bS h
   refine oq 100 (I (r6.1)) rfl (e_callV rfl rfl (call_P rfl rfl rfl (avO (hd1 rfl (hd_hp (path:=[]) rfl rfl (ra_n) rfl)) (avS (shP rfl) (avN))) (Ffbm_F hr6) (.inr rfl) (bl_c rfl rfl rfl rfl (bl_n)) rfl rfl rfl)) ?_
   refine cq 3 [8] [I (r6.1)] 116 ?_
   obtain ⟨y11,hy11,hy111,hy112⟩:=bJ h
   refine s_loop rfl ?_
   refine rf [0,4,5,7,8] [1,2,3] (Ffbh_la_run c_3 near_4 u4 rfl (r5,r6.1,r6.2.f_code,r6.2.f_at,r6.2.f_seed,[]) _ hy11 (fun r' e st hq=>by rw [hy111 r' e] at hq; exact hq) fun u11 hu=>?_)
   replace h:=hy112 u11 hu
   refine cq 3 [56] [.agg [.hs 3 0 [(0,0)] 1 0 ((u4.2.2.2.2).map I).length,.hs 3 0 [(0,1)] 1 0 ((u11.2.2.2).map I).length]] 20 ?_
   refine o0 36 rfl rfl (e_st rfl rfl (st_at (path:=[]) (pl:=false) (e':=.agg [.usl 1 ((u4.2.2.2.2).map I),.usl 1 ((u11.2.2.2).map I)]) (es2':=[.agg [.usl 1 ((u4.2.2.2.2).map I),.usl 1 ((u11.2.2.2).map I)]]) rfl (absA (absC (abs_at (path:=[(0,0)]) rfl rfl (ra_c rfl rfl (ra_n)) rfl (to_c (path:=[]) (i:=0) (k:=0) (e':=.agg [.dead,.usl 1 ((u11.2.2.2).map I)]) (es2':=[.agg [.dead,.usl 1 ((u11.2.2.2).map I)]]) (ra_n) rfl rfl rfl (sr_n))) (absC (abs_at (path:=[(0,1)]) rfl rfl (ra_c rfl rfl (ra_n)) rfl (to_c (path:=[]) (i:=0) (k:=1) (e':=.agg [.dead,.dead]) (es2':=[.agg [.dead,.dead]]) (ra_n) rfl rfl rfl (sr_n))) (absN)))) rfl rfl rfl (ra_n) rfl rfl rfl rfl rfl (sr_n) 1 rfl)) ?_
   refine aq 1 ?_
   obtain rfl:=Option.some.inj h
   exact s_ret rfl ⟨_,fin (vs:=[.agg [.hs 2 1 [(0,0)] 1 0 ((u4.2.2.2.2).map I).length,.hs 2 1 [(0,1)] 1 0 ((u11.2.2.2).map I).length]]) (rs_c (rs_cell rfl rfl rfl) (rs_n)) (absE (absA (absC (abs_at (path:=[(0,0)]) rfl rfl (ra_c rfl rfl (ra_n)) rfl (to_c (path:=[]) (i:=0) (k:=0) (e':=.agg [.dead,.usl 1 ((u11.2.2.2).map I)]) (es2':=[.agg [.dead,.usl 1 ((u11.2.2.2).map I)]]) (ra_n) rfl rfl rfl (sr_n))) (absC (abs_at (path:=[(0,1)]) rfl rfl (ra_c rfl rfl (ra_n)) rfl (to_c (path:=[]) (i:=0) (k:=1) (e':=.agg [.dead,.dead]) (es2':=[.agg [.dead,.dead]]) (ra_n) rfl rfl rfl (sr_n))) (absN)))) (absEN)) rfl (ou_1 rfl (oc_hp rfl rfl) (ou_f (ou_n))),kl_c (kl_n)⟩
 have r4 : ∀ r',y4=.inl r'→∀ st,Ffbh_Q (c_3,near_4) r' st→(Ffbh_Q (c_3,near_4) r) st:=fun r' e st hq=>by rw [hy41 r' e] at hq; exact hq
 replace h:=hy4
 refine sq h (fun h=>?_) (fun h=>?_)
 · refine aq 1 ?_
   refine oq 146 (.hs 130 0 [] 1 0 2) rfl (e_buildSlice rfl (bs_mk (f:=I) (xs:=[]) (z:=I (0)) (es:=[I (4),I (5)]) (ws:=[I (4),I (5)]) rfl rfl rfl (by decide) rfl (abs_each_plain rfl) rfl)) ?_
   refine cq 1 [17] [.hp 34 0 [] 2 0 0] 162 ?_
   refine o0 178 rfl rfl (e_st rfl rfl (st_at (path:=[]) (pl:=false) (e':=.agg [.usl 1 (([4,5]).map I),.usl 1 (([]).map I)]) (es2':=[.agg [.usl 1 (([4,5]).map I),.usl 1 (([]).map I)]]) rfl (abs1 rfl (abs_hs (k:=2) (es:=[I (4),I (5)]) rfl rfl)) rfl rfl rfl (ra_n) rfl rfl rfl rfl rfl (sr_n) 4 rfl)) ?_
   refine aq 1 ?_
   exact rf [0,1,4,5] [1,2,34] (j4 _ (Option.some.inj h).symm :)
 · refine cq 5 [18] [B ((r3.1 == 1))] 162 ?_
   obtain ⟨y12,hy12,hy121,hy122⟩:=bL h
   have j12 : ∀ u12,y12=.inr u12→Run Ffbh_E 1 (Ffbh_Q (c_3,near_4) r) (.blk 0 :: .code (cR (cR (cR Ffbh_c))) :: []) (sT 57 [(0,.hp 1 0 [] 3 0 0),(1,I (near_4)),(4,.hp 2 0 [] 2 0 0),(5,.hp 3 0 [] 2 0 0)] [⟨0,3,[.agg [.isl false ((u12.1).map (V.int .u8)),I (u12.2.1),.int .u64 (u12.2.2.1)]]⟩,⟨0,2,[.agg [.usl 1 (([]).map I),.usl 1 (([]).map I)]]⟩,⟨0,2,[.agg [.usl 1 ((u12.2.2.2).map I),.usl 1 (([]).map I)]]⟩] 4):=by
     intro u12 hu
     replace h:=hy122 u12 hu
     exact rf [0,1,4,5] [1,2,3] (j4 _ (Option.some.inj h).symm :)
   have r12 : ∀ r',y12=.inl r'→∀ st,Ffbh_Q (c_3,near_4) r' st→(Ffbh_Q (c_3,near_4) r) st:=fun r' e st hq=>r4 r' (hy121 r' e) st hq
   replace h:=hy12
   refine sq h (fun h=>?_) (fun h=>?_)
   · refine cq 5 [6] [I (0)] 178 ?_
     obtain ⟨y17,hy17,hy171,hy172⟩:=bL h
     refine s_loop rfl ?_
     refine rf [0,1,4,5,6] [1,2,34] (Ffbh_lb_run c_3 near_4 rfl (0,r3.2.f_code,r3.2.f_at,r3.2.f_seed,[]) _ hy17 (fun r' e st hq=>r12 r' (hy171 r' e) st hq) fun u17 hu=>?_)
     replace h:=hy172 u17 hu
     exact rf [0,1,4,5] [1,2,3] (j12 _ (Option.some.inj h).symm :)
   · refine aq 1 ?_
     refine oq 178 (.hs 162 0 [] 1 0 2) rfl (e_buildSlice rfl (bs_mk (f:=I) (xs:=[]) (z:=I (0)) (es:=[I (5),I (6)]) (ws:=[I (5),I (6)]) rfl rfl rfl (by decide) rfl (abs_each_plain rfl) rfl)) ?_
     refine cq 1 [13] [.hp 34 0 [] 2 0 0] 194 ?_
     refine o0 210 rfl rfl (e_st rfl rfl (st_at (path:=[]) (pl:=false) (e':=.agg [.usl 1 (([5,6]).map I),.usl 1 (([]).map I)]) (es2':=[.agg [.usl 1 (([5,6]).map I),.usl 1 (([]).map I)]]) rfl (abs1 rfl (abs_hs (k:=2) (es:=[I (5),I (6)]) rfl rfl)) rfl rfl rfl (ra_n) rfl rfl rfl rfl rfl (sr_n) 4 rfl)) ?_
     refine aq 1 ?_
     exact rf [0,1,4,5] [1,2,34] (j12 _ (Option.some.inj h).symm :)
theorem Ffbh_good {G : Go.Ln.Ground} : Good Try.prog G 68 Ffbh_ent:=good_T (fnOf_good (gl_c Ffbm_good (gl_c Ffbp_good (gl_c Ffbl_good (gl_n))))) agree_mk (Checked.mixed Try.checked) Try.func68 (n:=2) (m:=1) ⟨rfl,rfl,by decide⟩ (fun _=>⟨rfl,rfl⟩) (fun a r h=>Ffbh_run a.1 a.2 r h)
def Ffbf_A : (l1Cur × Int)→List V:=cA (upE encO_l1Cur) (oA I)
def Ffbf_R (r : Calendar × l1Cur) : V × List V:=(encO_Calendar r.1,[.uptr (encI_l1Cur r.2)])
noncomputable def Ffbf_ent : Ent:=entT [true,false] Ffbf_A Ffbf_R fun x=>Ffbf x.1 x.2
theorem Ffbf_F {c_3 : l1Cur} {near_4 : Int} {r} (h : Ffbf c_3 near_4=some r) : (Ffbf_ent).F (Ffbf_A (c_3,near_4))=some (Ffbf_R r):=entT_F (cA_inj (uptr_inj encO_l1Cur_inj) (oA_inj I_inj)) h
noncomputable def Ffbf_c : Code:=bodyOf Try.f50
noncomputable abbrev Ffbf_ka : Code:=cL (cL (cR (cR (cL (cR (cR (cR (cR (cR (cR (cR (cL (cR (cL (cR (cR Ffbf_c))))))))))))))))
noncomputable def Ffbf_E : Env:=mkE Try.prog [(68,Ffbh_ent),(48,Ffbm_ent),(23,Ffbe_ent),(70,Ffbp_ent),(69,Ffbo_ent)]
def Ffbf_Q (x : l1Cur × Int) (r : Calendar × l1Cur) : St→Prop:=QF Ffbf_E Try.f50 [true,false] (Ffbf_A x) (Ffbf_R r)
theorem Ffbf_la_run (c_3 : l1Cur) (near_4 : Int) (r3 : Calendar × l1Cur) {Q : St→Prop} {K : List It} (hK : noD K=true) : ∀ (x13 : Int × (List Int) × Int × Int × (List Int)) (y : (Calendar × l1Cur) ⊕ ((List Int) × Int × Int × (List Int))),Ffbf_la c_3 near_4 r3 x13=some y→(∀ r',y=.inl r'→∀ st,Ffbf_Q (c_3,near_4) r' st→Q st)→(∀ u : (List Int) × Int × Int × (List Int),y=.inr u→Run Ffbf_E 1 Q K (sT 59 [(4,.hp 2 0 [] 2 0 0),(5,.hp 3 0 [] 2 0 0)] [⟨0,3,[.agg [.isl false ((u.1).map (V.int .u8)),I (u.2.1),.int .u64 (u.2.2.1)]]⟩,⟨0,2,[.agg [.usl 1 (([]).map I),.usl 1 (([]).map I)]]⟩,⟨0,2,[.agg [.usl 1 ((r3.1.Weekend).map I),.usl 1 ((u.2.2.2).map I)]]⟩] 4))→Run Ffbf_E 1 Q (.code Ffbf_ka :: .lp Ffbf_ka :: .blk 1 :: K) (sT 59 [(0,.hp 1 0 [] 3 0 0),(1,I (near_4)),(4,.hp 2 0 [] 2 0 0),(5,.hp 3 0 [] 2 0 0),(6,I (x13.1))] [⟨0,3,[.agg [.isl false ((x13.2.1).map (V.int .u8)),I (x13.2.2.1),.int .u64 (x13.2.2.2.1)]]⟩,⟨0,2,[.agg [.usl 1 (([]).map I),.usl 1 (([]).map I)]]⟩,⟨0,2,[.agg [.usl 1 ((r3.1.Weekend).map I),.usl 1 ((x13.2.2.2.2).map I)]]⟩] 4):=by
 refine fix_indP (Ffbf_la_fin c_3 near_4 r3) ?_
 intro self ih x13 y h hr hn
 unfold Ffbf_la_F at h
 refine cq 5 [40,41] [I (x13.1),.hp 1 0 [] 3 0 0] 36 ?_
 obtain ⟨r14,hr14,h⟩:=bS h
 refine oq 52 (I (r14.1)) rfl (e_callV rfl rfl (call_P rfl rfl rfl (avO (hd1 rfl (hd_hp (path:=[]) rfl rfl (ra_n) rfl)) (avS (shP rfl) (avN))) (Ffbm_F hr14) (.inr rfl) (bl_c rfl rfl rfl rfl (bl_n)) rfl rfl rfl)) ?_
 refine cq 3 [44] [B ((decide (x13.1 < (w64 (40 + r14.1)))))] 84 ?_
 refine sq h (fun h=>?_) (fun h=>?_)
 · refine aq 1 ?_
   refine aq 2 ?_
   refine s_draw [0,1,0,4,12,28,0,124,252,511,1023,2047] rfl (by decide +kernel) ?_
   refine dq [3] [] (.hp 3 0 [] 2 0 1) rfl (e_fieldAddr rfl rfl rfl) ?_
   refine dq [3] [] (.hs 3 0 [(0,1)] 1 0 ((x13.2.2.2.2).map I).length) rfl (e_ld rfl rfl) ?_
   refine dk 2 [50,49] [I ((w64 (near_4 - 20))),I (near_4)] ?_
   obtain ⟨r15,hr15,h⟩:=bS h
   refine dq [] [] (I (r15)) rfl (e_callV rfl rfl (call_P rfl rfl rfl (avS (shP rfl) (avS (shP rfl) (avN))) (Ffbp_F hr15) (.inr rfl) (bl_n) rfl rfl rfl)) ?_ (w_callO rfl rfl rfl rfl (avS (shP rfl) (avS (shP rfl) (avN))) (Ffbp_F hr15) (.inr rfl) rfl)
   obtain ⟨r16,hr16,h⟩:=bS h
   refine dq [] [] (I (r16)) rfl (e_callV rfl rfl (call_P rfl rfl rfl (avS (shP rfl) (avS (shP rfl) (avN))) (Ffbo_F hr16) (.inr rfl) (bl_n) rfl rfl rfl)) ?_ (w_callO rfl rfl rfl rfl (avS (shP rfl) (avS (shP rfl) (avN))) (Ffbo_F hr16) (.inr rfl) rfl)
   refine dk 2 [54,53] [I ((w64 (r16 + x13.1))),I (x13.1)] ?_
   refine dq [] [] (.hs 212 0 [] 1 0 1) rfl (e_buildSlice rfl (bs_mk (f:=I) (xs:=[]) (z:=I (0)) (es:=[I ((w64 (r16 + x13.1)))]) (ws:=[I ((w64 (r16 + x13.1)))]) rfl rfl rfl (by decide) rfl (abs_each_plain rfl) rfl)) ?_
   obtain ⟨a17,ha17,h⟩:=bS h
   refine dq [3,212] [3] (.hs 228 0 [] 1 0 ((a17).map I).length) rfl (e_append rfl rfl rfl rfl rfl (ap_hsM (path:=[(0,1)]) (f:=I) (xs:=x13.2.2.2.2) (ys:=[(w64 (r16 + x13.1))]) rfl rfl (take_hs rfl rfl rfl) rfl rfl rfl (ra_c rfl rfl (ra_n)) rfl (by decide) I_cells ha17 rfl (to_c (path:=[]) (i:=0) (k:=1) (e':=.agg [.usl 1 ((r3.1.Weekend).map I),.dead]) (es2':=[.agg [.usl 1 ((r3.1.Weekend).map I),.dead]]) (ra_n) rfl rfl rfl (sr_n)))) ?_ (w_app rfl (aw_hs (path:=[]) (f:=I) (xs:=[(w64 (r16 + x13.1))]) rfl rfl (ra_n) I_flat rfl))
   refine dq [3] [] (.hp 3 0 [] 2 0 1) rfl (e_fieldAddr rfl rfl rfl) ?_
   refine dz [3,228] [3,228] rfl (e_st rfl rfl (st_at (path:=[]) (pl:=false) (e':=.agg [.usl 1 ((r3.1.Weekend).map I),.usl 1 ((a17).map I)]) (es2':=[.agg [.usl 1 ((r3.1.Weekend).map I),.usl 1 ((a17).map I)]]) rfl (abs1 rfl (abs_hs rfl rfl)) rfl rfl rfl (ra_n) rfl rfl rfl rfl rfl (sr_n) 1 rfl)) ?_
   refine de 276 rfl rfl ?_
   refine cq 6 [6] [I ((w64 (x13.1 + 1)))] 324 ?_
   refine s_lp ?_
   exact rf [0,1,4,5,6] [1,2,3] (ih _ _ h hr hn :)
 · refine aq 1 ?_
   exact rf [4,5] [1,2,3] (hn _ (Option.some.inj h).symm :) (hk:=hK)
theorem Ffbf_run (c_3 : l1Cur) (near_4 : Int) (r : Calendar × l1Cur) (h : Ffbf c_3 near_4=some r) : RunF Ffbf_E Try.f50 [true,false] 1 (Ffbf_A (c_3,near_4)) (Ffbf_R r):=by
 show Run _ _ (Ffbf_Q (c_3,near_4) r) [.code Ffbf_c] _
 refine rin (n:=59) [(0,.hp 1 0 [] 3 0 0),(1,I (near_4))] [(1,some ⟨0,3,[encI_l1Cur c_3]⟩)] 2 (by kernel_rfl) (by kernel_rfl) (by kernel_rfl) rfl ?_
 unfold Ffbf at h
 refine ck 3 [4] [] [2] [] [.hp 2 0 [] 2 0 0] [some ⟨0,2,[.agg [.isl true [],.isl true []]]⟩] 18 (by kernel_rfl) ?_
 refine run_row 2 [.agg [.usl 1 (([]).map I),.usl 1 (([]).map I)]] rfl rfl (cvs_c (cv_agg (cvs_c (.nil _) (cvs_c (.nil _) (cvs_n)))) cvs_n) ?_
 refine cq 5 [7,8] [.hp 1 0 [] 3 0 0,I (near_4)] 50 ?_
 obtain ⟨r3,hr3,h⟩:=bS h
 refine oq 66 (.agg [.hs 50 0 [] 1 0 ((r3.1.Weekend).map I).length,.hs 51 0 [] 1 0 ((r3.1.Holidays).map I).length]) rfl (e_callV rfl rfl (call_P rfl rfl rfl (avO (hd1 rfl (hd_hp (path:=[]) rfl rfl (ra_n) rfl)) (avS (shP rfl) (avN))) (Ffbh_F hr3) (.inr rfl) (bl_c rfl rfl rfl rfl (bl_n)) rfl rfl rfl)) ?_
 refine ck 1 [5] [] [66] [] [.hp 66 0 [] 2 0 0] [some ⟨0,2,[.agg [.isl true [],.isl true []]]⟩] 82 (by kernel_rfl) ?_
 refine run_row 66 [.agg [.usl 1 (([]).map I),.usl 1 (([]).map I)]] rfl rfl (cvs_c (cv_agg (cvs_c (.nil _) (cvs_c (.nil _) (cvs_n)))) cvs_n) ?_
 refine o0 98 rfl rfl (e_st rfl rfl (st_at (path:=[]) (pl:=false) (e':=encO_Calendar r3.1) (es2':=[encO_Calendar r3.1]) rfl (absA (absC (abs_hs rfl rfl) (absC (abs_hs rfl rfl) (absN)))) rfl rfl rfl (ra_n) rfl rfl rfl rfl rfl (sr_n) 2 rfl)) ?_
 refine cq 5 [10] [.hp 1 0 [] 3 0 0] 114 ?_
 obtain ⟨r4,hr4,h⟩:=bS h
 refine oq 130 (I (r4.1)) rfl (e_callV rfl rfl (call_P rfl rfl rfl (avO (hd1 rfl (hd_hp (path:=[]) rfl rfl (ra_n) rfl)) (avS (shP rfl) (avN))) (Ffbm_F hr4) (.inr rfl) (bl_c rfl rfl rfl rfl (bl_n)) rfl rfl rfl)) ?_
 refine cq 7 [12] [B ((r4.1 == 0))] 162 ?_
 obtain ⟨y5,hy5,hy51,hy52⟩:=bJ h
 have j5 : ∀ u5,y5=.inr u5→Run Ffbf_E 1 (Ffbf_Q (c_3,near_4) r) (.blk 0 :: .code (cR (cR (cR Ffbf_c))) :: []) (sT 59 [(4,.hp 2 0 [] 2 0 0),(5,.hp 3 0 [] 2 0 0)] [⟨0,3,[.agg [.isl false ((u5.1).map (V.int .u8)),I (u5.2.1),.int .u64 (u5.2.2.1)]]⟩,⟨0,2,[.agg [.usl 1 (([]).map I),.usl 1 (([]).map I)]]⟩,⟨0,2,[.agg [.usl 1 ((u5.2.2.2.1).map I),.usl 1 ((u5.2.2.2.2).map I)]]⟩] 4):=by
   intro u5 hu
   replace h:=hy52 u5 hu
   refine cq 4 [58] [.agg [.hs 3 0 [(0,0)] 1 0 ((u5.2.2.2.1).map I).length,.hs 3 0 [(0,1)] 1 0 ((u5.2.2.2.2).map I).length]] 20 ?_
   refine o0 36 rfl rfl (e_st rfl rfl (st_at (path:=[]) (pl:=false) (e':=.agg [.usl 1 ((u5.2.2.2.1).map I),.usl 1 ((u5.2.2.2.2).map I)]) (es2':=[.agg [.usl 1 ((u5.2.2.2.1).map I),.usl 1 ((u5.2.2.2.2).map I)]]) rfl (absA (absC (abs_at (path:=[(0,0)]) rfl rfl (ra_c rfl rfl (ra_n)) rfl (to_c (path:=[]) (i:=0) (k:=0) (e':=.agg [.dead,.usl 1 ((u5.2.2.2.2).map I)]) (es2':=[.agg [.dead,.usl 1 ((u5.2.2.2.2).map I)]]) (ra_n) rfl rfl rfl (sr_n))) (absC (abs_at (path:=[(0,1)]) rfl rfl (ra_c rfl rfl (ra_n)) rfl (to_c (path:=[]) (i:=0) (k:=1) (e':=.agg [.dead,.dead]) (es2':=[.agg [.dead,.dead]]) (ra_n) rfl rfl rfl (sr_n))) (absN)))) rfl rfl rfl (ra_n) rfl rfl rfl rfl rfl (sr_n) 1 rfl)) ?_
   refine aq 1 ?_
   obtain rfl:=Option.some.inj h
   exact s_ret rfl ⟨_,fin (vs:=[.agg [.hs 2 1 [(0,0)] 1 0 ((u5.2.2.2.1).map I).length,.hs 2 1 [(0,1)] 1 0 ((u5.2.2.2.2).map I).length]]) (rs_c (rs_cell rfl rfl rfl) (rs_n)) (absE (absA (absC (abs_at (path:=[(0,0)]) rfl rfl (ra_c rfl rfl (ra_n)) rfl (to_c (path:=[]) (i:=0) (k:=0) (e':=.agg [.dead,.usl 1 ((u5.2.2.2.2).map I)]) (es2':=[.agg [.dead,.usl 1 ((u5.2.2.2.2).map I)]]) (ra_n) rfl rfl rfl (sr_n))) (absC (abs_at (path:=[(0,1)]) rfl rfl (ra_c rfl rfl (ra_n)) rfl (to_c (path:=[]) (i:=0) (k:=1) (e':=.agg [.dead,.dead]) (es2':=[.agg [.dead,.dead]]) (ra_n) rfl rfl rfl (sr_n))) (absN)))) (absEN)) rfl (ou_1 rfl (oc_hp rfl rfl) (ou_f (ou_n))),kl_c (kl_n)⟩
 have r5 : ∀ r',y5=.inl r'→∀ st,Ffbf_Q (c_3,near_4) r' st→(Ffbf_Q (c_3,near_4) r) st:=fun r' e st hq=>by rw [hy51 r' e] at hq; exact hq
 replace h:=hy5
 refine sq h (fun h=>?_) (fun h=>?_)
 · refine s_draw [0,1,0,0,12,28,63,127,255] rfl (by decide +kernel) ?_
   refine dq [66] [] (.hp 66 0 [] 2 0 0) rfl (e_fieldAddr rfl rfl rfl) ?_
   refine dq [66] [] (.hs 66 2 [(0,0)] 1 0 ((r3.1.Weekend).map I).length) rfl (e_ld rfl rfl) ?_
   refine dk 1 [16] [.hp 1 0 [] 3 0 0] ?_
   refine dq [] [] (.hs 210 0 [] 1 0 3) rfl (e_buildSlice rfl (bs_mk (f:=I) (xs:=[]) (z:=I (0)) (es:=[I (6),I (7),I ((-1))]) (ws:=[I (6),I (7),I ((-1))]) rfl rfl rfl (by decide) rfl (abs_each_plain rfl) rfl)) ?_
   obtain ⟨r6,hr6,h⟩:=bS h
   refine dw [1,210] [1,210] (I (r6.1)) rfl (e_callV rfl rfl (call_D rfl rfl rfl rfl (avO (hd1 rfl (hd_hp (path:=[]) rfl rfl (ra_n) rfl)) (avS (sh1 rfl rfl (sh_hsM (f:=I) (g:=I) (xs:=[6,7,(-1)]) rfl rfl (imms_of I_imm))) (avN))) (Ffbe_F hr6) (bl_c rfl rfl rfl rfl (bl_n)) rfl rfl rfl)) ?_ (w_callD rfl rfl rfl rfl rfl rfl)
   refine dq [] [] (.hs 242 0 [] 1 0 1) rfl (e_buildSlice rfl (bs_mk (f:=I) (xs:=[]) (z:=I (0)) (es:=[I (r6.1)]) (ws:=[I (r6.1)]) rfl rfl rfl (by decide) rfl (abs_each_plain rfl) rfl)) ?_
   obtain ⟨a7,ha7,h⟩:=bS h
   refine dq [66,242] [66] (.hs 258 0 [] 1 0 ((a7).map I).length) rfl (e_append rfl rfl rfl rfl rfl (ap_hsM (path:=[(0,0)]) (f:=I) (xs:=r3.1.Weekend) (ys:=[r6.1]) rfl rfl (take_hs rfl rfl rfl) rfl rfl rfl (ra_c rfl rfl (ra_n)) rfl (by decide) I_cells ha7 rfl (to_c (path:=[]) (i:=0) (k:=0) (e':=.agg [.dead,.usl 1 ((r3.1.Holidays).map I)]) (es2':=[.agg [.dead,.usl 1 ((r3.1.Holidays).map I)]]) (ra_n) rfl rfl rfl (sr_n)))) ?_ (w_app rfl (aw_hs (path:=[]) (f:=I) (xs:=[r6.1]) rfl rfl (ra_n) I_flat rfl))
   refine dq [66] [] (.hp 66 0 [] 2 0 0) rfl (e_fieldAddr rfl rfl rfl) ?_
   refine dz [66,258] [66,258] rfl (e_st rfl rfl (st_at (path:=[]) (pl:=false) (e':=.agg [.usl 1 ((a7).map I),.usl 1 ((r3.1.Holidays).map I)]) (es2':=[.agg [.usl 1 ((a7).map I),.usl 1 ((r3.1.Holidays).map I)]]) rfl (abs1 rfl (abs_hs rfl rfl)) rfl rfl rfl (ra_n) rfl rfl rfl rfl rfl (sr_n) 3 rfl)) ?_
   refine de 306 rfl rfl ?_
   exact rf [4,5] [1,2,66] (j5 _ (Option.some.inj h).symm :)
 · refine cq 5 [22] [B ((r4.1 == 1))] 194 ?_
   obtain ⟨y8,hy8,hy81,hy82⟩:=bL h
   have j8 : ∀ u8,y8=.inr u8→Run Ffbf_E 1 (Ffbf_Q (c_3,near_4) r) (.blk 0 :: .code (cR (cR (cR Ffbf_c))) :: []) (sT 59 [(4,.hp 2 0 [] 2 0 0),(5,.hp 3 0 [] 2 0 0)] [⟨0,3,[.agg [.isl false ((u8.1).map (V.int .u8)),I (u8.2.1),.int .u64 (u8.2.2.1)]]⟩,⟨0,2,[.agg [.usl 1 (([]).map I),.usl 1 (([]).map I)]]⟩,⟨0,2,[.agg [.usl 1 ((u8.2.2.2.1).map I),.usl 1 ((u8.2.2.2.2).map I)]]⟩] 4):=by
     intro u8 hu
     replace h:=hy82 u8 hu
     exact rf [4,5] [1,2,3] (j5 _ (Option.some.inj h).symm :)
   have r8 : ∀ r',y8=.inl r'→∀ st,Ffbf_Q (c_3,near_4) r' st→(Ffbf_Q (c_3,near_4) r) st:=fun r' e st hq=>r5 r' (hy81 r' e) st hq
   replace h:=hy8
   refine sq h (fun h=>?_) (fun h=>?_)
   · refine s_draw [0,1,0,0,12,28,63,127,255] rfl (by decide +kernel) ?_
     refine dq [66] [] (.hp 66 0 [] 2 0 1) rfl (e_fieldAddr rfl rfl rfl) ?_
     refine dq [66] [] (.hs 66 2 [(0,1)] 1 0 ((r3.1.Holidays).map I).length) rfl (e_ld rfl rfl) ?_
     refine dk 1 [26] [.hp 1 0 [] 3 0 0] ?_
     refine dq [] [] (.hs 242 0 [] 1 0 3) rfl (e_buildSlice rfl (bs_mk (f:=I) (xs:=[]) (z:=I (0)) (es:=[I (36524),I (36525),I (0)]) (ws:=[I (36524),I (36525),I (0)]) rfl rfl rfl (by decide) rfl (abs_each_plain rfl) rfl)) ?_
     obtain ⟨r9,hr9,h⟩:=bS h
     refine dw [1,242] [1,242] (I (r9.1)) rfl (e_callV rfl rfl (call_D rfl rfl rfl rfl (avO (hd1 rfl (hd_hp (path:=[]) rfl rfl (ra_n) rfl)) (avS (sh1 rfl rfl (sh_hsM (f:=I) (g:=I) (xs:=[36524,36525,0]) rfl rfl (imms_of I_imm))) (avN))) (Ffbe_F hr9) (bl_c rfl rfl rfl rfl (bl_n)) rfl rfl rfl)) ?_ (w_callD rfl rfl rfl rfl rfl rfl)
     refine dq [] [] (.hs 274 0 [] 1 0 1) rfl (e_buildSlice rfl (bs_mk (f:=I) (xs:=[]) (z:=I (0)) (es:=[I (r9.1)]) (ws:=[I (r9.1)]) rfl rfl rfl (by decide) rfl (abs_each_plain rfl) rfl)) ?_
     obtain ⟨a10,ha10,h⟩:=bS h
     refine dq [66,274] [66] (.hs 290 0 [] 1 0 ((a10).map I).length) rfl (e_append rfl rfl rfl rfl rfl (ap_hsM (path:=[(0,1)]) (f:=I) (xs:=r3.1.Holidays) (ys:=[r9.1]) rfl rfl (take_hs rfl rfl rfl) rfl rfl rfl (ra_c rfl rfl (ra_n)) rfl (by decide) I_cells ha10 rfl (to_c (path:=[]) (i:=0) (k:=1) (e':=.agg [.usl 1 ((r3.1.Weekend).map I),.dead]) (es2':=[.agg [.usl 1 ((r3.1.Weekend).map I),.dead]]) (ra_n) rfl rfl rfl (sr_n)))) ?_ (w_app rfl (aw_hs (path:=[]) (f:=I) (xs:=[r9.1]) rfl rfl (ra_n) I_flat rfl))
     refine dq [66] [] (.hp 66 0 [] 2 0 1) rfl (e_fieldAddr rfl rfl rfl) ?_
     refine dz [66,290] [66,290] rfl (e_st rfl rfl (st_at (path:=[]) (pl:=false) (e':=.agg [.usl 1 ((r3.1.Weekend).map I),.usl 1 ((a10).map I)]) (es2':=[.agg [.usl 1 ((r3.1.Weekend).map I),.usl 1 ((a10).map I)]]) rfl (abs1 rfl (abs_hs rfl rfl)) rfl rfl rfl (ra_n) rfl rfl rfl rfl rfl (sr_n) 3 rfl)) ?_
     refine de 338 rfl rfl ?_
     exact rf [4,5] [1,2,66] (j8 _ (Option.some.inj h).symm :)
   · refine cq 5 [32] [B ((r4.1 == 2))] 226 ?_
     obtain ⟨y11,hy11,hy111,hy112⟩:=bL h
     have j11 : ∀ u11,y11=.inr u11→Run Ffbf_E 1 (Ffbf_Q (c_3,near_4) r) (.blk 0 :: .code (cR (cR (cR Ffbf_c))) :: []) (sT 59 [(4,.hp 2 0 [] 2 0 0),(5,.hp 3 0 [] 2 0 0)] [⟨0,3,[.agg [.isl false ((u11.1).map (V.int .u8)),I (u11.2.1),.int .u64 (u11.2.2.1)]]⟩,⟨0,2,[.agg [.usl 1 (([]).map I),.usl 1 (([]).map I)]]⟩,⟨0,2,[.agg [.usl 1 ((u11.2.2.2.1).map I),.usl 1 ((u11.2.2.2.2).map I)]]⟩] 4):=by
       intro u11 hu
       replace h:=hy112 u11 hu
       exact rf [4,5] [1,2,3] (j8 _ (Option.some.inj h).symm :)
     have r11 : ∀ r',y11=.inl r'→∀ st,Ffbf_Q (c_3,near_4) r' st→(Ffbf_Q (c_3,near_4) r) st:=fun r' e st hq=>r8 r' (hy111 r' e) st hq
     replace h:=hy11
     refine sq h (fun h=>?_) (fun h=>?_)
     · refine aq 1 ?_
       refine oq 242 (.hs 226 0 [] 1 0 7) rfl (e_buildSlice rfl (bs_mk (f:=I) (xs:=[]) (z:=I (0)) (es:=[I (0),I (1),I (2),I (3),I (4),I (5),I (6)]) (ws:=[I (0),I (1),I (2),I (3),I (4),I (5),I (6)]) rfl rfl rfl (by decide) rfl (abs_each_plain rfl) rfl)) ?_
       refine cq 1 [35] [.hp 66 0 [] 2 0 0] 258 ?_
       refine o0 274 rfl rfl (e_st rfl rfl (st_at (path:=[]) (pl:=false) (e':=.agg [.usl 1 (([0,1,2,3,4,5,6]).map I),.usl 1 ((r3.1.Holidays).map I)]) (es2':=[.agg [.usl 1 (([0,1,2,3,4,5,6]).map I),.usl 1 ((r3.1.Holidays).map I)]]) rfl (abs1 rfl (abs_hs (k:=7) (es:=[I (0),I (1),I (2),I (3),I (4),I (5),I (6)]) rfl rfl)) rfl rfl rfl (ra_n) rfl rfl rfl rfl rfl (sr_n) 3 rfl)) ?_
       refine aq 1 ?_
       exact rf [4,5] [1,2,66] (j11 _ (Option.some.inj h).symm :)
     · refine cq 5 [36] [B ((r4.1 == 3))] 258 ?_
       obtain ⟨y12,hy12,hy121,hy122⟩:=bL h
       have j12 : ∀ u12,y12=.inr u12→Run Ffbf_E 1 (Ffbf_Q (c_3,near_4) r) (.blk 0 :: .code (cR (cR (cR Ffbf_c))) :: []) (sT 59 [(4,.hp 2 0 [] 2 0 0),(5,.hp 3 0 [] 2 0 0)] [⟨0,3,[.agg [.isl false ((u12.1).map (V.int .u8)),I (u12.2.1),.int .u64 (u12.2.2.1)]]⟩,⟨0,2,[.agg [.usl 1 (([]).map I),.usl 1 (([]).map I)]]⟩,⟨0,2,[.agg [.usl 1 ((r3.1.Weekend).map I),.usl 1 ((u12.2.2.2).map I)]]⟩] 4):=by
         intro u12 hu
         replace h:=hy122 u12 hu
         exact rf [4,5] [1,2,3] (j11 _ (Option.some.inj h).symm :)
       have r12 : ∀ r',y12=.inl r'→∀ st,Ffbf_Q (c_3,near_4) r' st→(Ffbf_Q (c_3,near_4) r) st:=fun r' e st hq=>r11 r' (hy121 r' e) st hq
       replace h:=hy12
       refine sq h (fun h=>?_) (fun h=>?_)
       · refine aq 2 ?_
         refine oq 274 (.hs 258 0 [] 1 0 0) rfl (e_buildSlice rfl (bs_mk (f:=I) (xs:=[]) (z:=I (0)) (es:=[]) (ws:=[]) rfl rfl rfl (by decide) rfl (abs_each_plain rfl) rfl)) ?_
         refine cq 1 [39] [.hp 66 0 [] 2 0 1] 290 ?_
         refine o0 306 rfl rfl (e_st rfl rfl (st_at (path:=[]) (pl:=false) (e':=.agg [.usl 1 ((r3.1.Weekend).map I),.usl 1 (([]).map I)]) (es2':=[.agg [.usl 1 ((r3.1.Weekend).map I),.usl 1 (([]).map I)]]) rfl (abs1 rfl (abs_hs (k:=0) (es:=[]) rfl rfl)) rfl rfl rfl (ra_n) rfl rfl rfl rfl rfl (sr_n) 3 rfl)) ?_
         refine cq 6 [6] [I (0)] 322 ?_
         obtain ⟨y18,hy18,hy181,hy182⟩:=bL h
         refine s_loop rfl ?_
         refine rf [0,1,4,5,6] [1,2,66] (Ffbf_la_run c_3 near_4 r3 rfl (0,r4.2.f_code,r4.2.f_at,r4.2.f_seed,[]) _ hy18 (fun r' e st hq=>r12 r' (hy181 r' e) st hq) fun u18 hu=>?_)
         replace h:=hy182 u18 hu
         exact rf [4,5] [1,2,3] (j12 _ (Option.some.inj h).symm :)
       · refine aq 1 ?_
         exact rf [4,5] [1,2,66] (j12 _ (Option.some.inj h).symm :)
theorem Ffbf_good {G : Go.Ln.Ground} : Good Try.prog G 50 Ffbf_ent:=good_T (fnOf_good (gl_c Ffbh_good (gl_c Ffbm_good (gl_c Ffbe_good (gl_c Ffbp_good (gl_c Ffbo_good (gl_n))))))) agree_mk (Checked.mixed Try.checked) Try.func50 (n:=2) (m:=1) ⟨rfl,rfl,by decide⟩ (fun _=>⟨rfl,rfl⟩) (fun a r h=>Ffbf_run a.1 a.2 r h)
def Ffba_A : ((List Int))→List V:=oA (slE (V.int .u8))
def Ffba_R (r : Calendar × Int) : V × List V:=(.tup [encO_Calendar r.1,I (r.2)],[])
noncomputable def Ffba_ent : Ent:=entT [false] Ffba_A Ffba_R fun x=>Ffba x
theorem Ffba_F {code_1 : List Int} {r} (h : Ffba code_1=some r) : (Ffba_ent).F (Ffba_A code_1)=some (Ffba_R r):=entT_F (oA_inj (isl_inj (vint_inj (k:=.u8)))) h
noncomputable def Ffba_c : Code:=bodyOf Try.f34
noncomputable def Ffba_E : Env:=mkE Try.prog [(22,Ffbj_ent),(50,Ffbf_ent),(24,Ffbl_ent),(25,Ffbg_ent)]
def Ffba_Q (x : (List Int)) (r : Calendar × Int) : St→Prop:=QF Ffba_E Try.f34 [false] (Ffba_A x) (Ffba_R r)
theorem Ffba_run (code_1 : List Int) (r : Calendar × Int) (h : Ffba code_1=some r) : RunF Ffba_E Try.f34 [false] 0 (Ffba_A code_1) (Ffba_R r):=by
 show Run _ _ (Ffba_Q code_1 r) [.code Ffba_c] _
 refine rin (n:=21) [(0,.isl false ((code_1).map (V.int .u8)))] [] 1 (by kernel_rfl) (by kernel_rfl) (by kernel_rfl) rfl ?_
 unfold Ffba at h
 refine ck 3 [2] [] [1] [] [.hp 1 0 [] 2 0 0] [some ⟨0,2,[.agg [.isl true [],.isl true []]]⟩] 17 (by kernel_rfl) ?_
 refine run_row 1 [.agg [.usl 1 (([]).map I),.usl 1 (([]).map I)]] rfl rfl (cvs_c (cv_agg (cvs_c (.nil _) (cvs_c (.nil _) (cvs_n)))) cvs_n) ?_
 refine ck 12 [4,10] [] [65] [] [.hp 65 0 [] 3 0 0,.hp 65 0 [] 3 0 0] [some ⟨0,3,[.agg [.isl false ((code_1).map (V.int .u8)),I (0),.int .u64 (0)]]⟩] 113 (by kernel_rfl) ?_
 obtain ⟨r2,hr2,h⟩:=bS h
 refine oq 129 (I (r2.1)) rfl (e_callV rfl rfl (call_P rfl rfl rfl (avO (hd1 rfl (hd_hp (path:=[]) rfl rfl (ra_n) rfl)) (avN)) (Ffbj_F hr2) (.inr rfl) (bl_c rfl rfl rfl rfl (bl_n)) rfl rfl rfl)) ?_
 refine cq 6 [5,12,13] [I (r2.1),.hp 65 0 [] 3 0 0,I (r2.1)] 177 ?_
 obtain ⟨r3,hr3,h⟩:=bS h
 refine oq 193 (.agg [.hs 177 0 [] 1 0 ((r3.1.Weekend).map I).length,.hs 178 0 [] 1 0 ((r3.1.Holidays).map I).length]) rfl (e_callV rfl rfl (call_P rfl rfl rfl (avO (hd1 rfl (hd_hp (path:=[]) rfl rfl (ra_n) rfl)) (avS (shP rfl) (avN))) (Ffbf_F hr3) (.inr rfl) (bl_c rfl rfl rfl rfl (bl_n)) rfl rfl rfl)) ?_
 refine ck 1 [6] [] [193] [] [.hp 193 0 [] 2 0 0] [some ⟨0,2,[.agg [.isl true [],.isl true []]]⟩] 209 (by kernel_rfl) ?_
 refine run_row 193 [.agg [.usl 1 (([]).map I),.usl 1 (([]).map I)]] rfl rfl (cvs_c (cv_agg (cvs_c (.nil _) (cvs_c (.nil _) (cvs_n)))) cvs_n) ?_
 refine o0 225 rfl rfl (e_st rfl rfl (st_at (path:=[]) (pl:=false) (e':=encO_Calendar r3.1) (es2':=[encO_Calendar r3.1]) rfl (absA (absC (abs_hs rfl rfl) (absC (abs_hs rfl rfl) (absN)))) rfl rfl rfl (ra_n) rfl rfl rfl rfl rfl (sr_n) 2 rfl)) ?_
 refine cq 5 [15] [.hp 65 0 [] 3 0 0] 241 ?_
 obtain ⟨r4,hr4,h⟩:=bS h
 refine oq 257 (B (r4.1)) rfl (e_callV rfl rfl (call_P rfl rfl rfl (avO (hd1 rfl (hd_hp (path:=[]) rfl rfl (ra_n) rfl)) (avS (shP rfl) (avN))) (Ffbl_F hr4) (.inr rfl) (bl_c rfl rfl rfl rfl (bl_n)) rfl rfl rfl)) ?_
 refine aq 1 ?_
 obtain ⟨y5,hy5,hy51,hy52⟩:=bJ h
 have j5 : ∀ u5,y5=.inr u5→Run Ffba_E 0 (Ffba_Q code_1 r) (.code (cR (cR (cR (cR (cR Ffba_c))))) :: []) (sT 21 [(2,.hp 1 0 [] 2 0 0),(5,I (u5)),(6,.hp 2 0 [] 2 0 0)] [⟨0,2,[.agg [.usl 1 (([]).map I),.usl 1 (([]).map I)]]⟩,⟨0,2,[encO_Calendar r3.1]⟩] 3):=by
   intro u5 hu
   replace h:=hy52 u5 hu
   refine cq 4 [19,20] [.agg [.hs 2 0 [(0,0)] 1 0 ((r3.1.Weekend).map I).length,.hs 2 0 [(0,1)] 1 0 ((r3.1.Holidays).map I).length],I (u5)] 35 ?_
   refine o0 51 rfl rfl (e_st rfl rfl (st_at (path:=[]) (pl:=false) (e':=encO_Calendar r3.1) (es2':=[encO_Calendar r3.1]) rfl (absA (absC (abs_at (path:=[(0,0)]) rfl rfl (ra_c rfl rfl (ra_n)) rfl (to_c (path:=[]) (i:=0) (k:=0) (e':=.agg [.dead,.usl 1 ((r3.1.Holidays).map I)]) (es2':=[.agg [.dead,.usl 1 ((r3.1.Holidays).map I)]]) (ra_n) rfl rfl rfl (sr_n))) (absC (abs_at (path:=[(0,1)]) rfl rfl (ra_c rfl rfl (ra_n)) rfl (to_c (path:=[]) (i:=0) (k:=1) (e':=.agg [.dead,.dead]) (es2':=[.agg [.dead,.dead]]) (ra_n) rfl rfl rfl (sr_n))) (absN)))) rfl rfl rfl (ra_n) rfl rfl rfl rfl rfl (sr_n) 1 rfl)) ?_
   refine cq 2 [3] [I (u5)] 67 ?_
   obtain rfl:=Option.some.inj h
   exact s_ret rfl ⟨_,fin (vs:=[.agg [.hs 1 1 [(0,0)] 1 0 ((r3.1.Weekend).map I).length,.hs 1 1 [(0,1)] 1 0 ((r3.1.Holidays).map I).length],I (u5)]) (rs_c (rs_cell rfl rfl rfl) (rs_c (rfl) (rs_n))) (absE (absA (absC (abs_at (path:=[(0,0)]) rfl rfl (ra_c rfl rfl (ra_n)) rfl (to_c (path:=[]) (i:=0) (k:=0) (e':=.agg [.dead,.usl 1 ((r3.1.Holidays).map I)]) (es2':=[.agg [.dead,.usl 1 ((r3.1.Holidays).map I)]]) (ra_n) rfl rfl rfl (sr_n))) (absC (abs_at (path:=[(0,1)]) rfl rfl (ra_c rfl rfl (ra_n)) rfl (to_c (path:=[]) (i:=0) (k:=1) (e':=.agg [.dead,.dead]) (es2':=[.agg [.dead,.dead]]) (ra_n) rfl rfl rfl (sr_n))) (absN)))) (absE (absorb_plain rfl) (absEN))) rfl (ou_f (ou_n)),kl_n⟩
 have r5 : ∀ r',y5=.inl r'→∀ st,Ffba_Q code_1 r' st→(Ffba_Q code_1 r) st:=fun r' e st hq=>by rw [hy51 r' e] at hq; exact hq
 replace h:=hy5
 refine sq h (fun h=>?_) (fun h=>?_)
 · refine cq 2 [17] [.hp 65 0 [] 3 0 0] 273 ?_
   obtain ⟨r6,hr6,h⟩:=bS h
   refine oq 289 (I (r6.1)) rfl (e_callV rfl rfl (call_P rfl rfl rfl (avO (hd1 rfl (hd_hp (path:=[]) rfl rfl (ra_n) rfl)) (avN)) (Ffbg_F hr6) (.inr rfl) (bl_c rfl rfl rfl rfl (bl_n)) rfl rfl rfl)) ?_
   refine cq 2 [5] [I (r6.1)] 305 ?_
   exact rf [2,5,6] [1,193] (j5 _ (Option.some.inj h).symm :)
 · refine aq 1 ?_
   exact rf [2,5,6] [1,193] (j5 _ (Option.some.inj h).symm :)
theorem Ffba_good {G : Go.Ln.Ground} : Good Try.prog G 34 Ffba_ent:=good_T (fnOf_good (gl_c Ffbj_good (gl_c Ffbf_good (gl_c Ffbl_good (gl_c Ffbg_good (gl_n)))))) agree_mk (Checked.mixed Try.checked) Try.func34 (n:=1) (m:=0) ⟨rfl,rfl,by decide⟩ (fun _=>⟨rfl,rfl⟩) (fun a r h=>Ffba_run a r h)
def Ffbb_A : ((List Int))→List V:=oA (slE (V.int .u8))
def Ffbb_R (r : Calendar × Int) : V × List V:=(.tup [encO_Calendar r.1,I (r.2)],[])
noncomputable def Ffbb_ent : Ent:=entT [false] Ffbb_A Ffbb_R fun x=>Ffbb x
theorem Ffbb_F {code_1 : List Int} {r} (h : Ffbb code_1=some r) : (Ffbb_ent).F (Ffbb_A code_1)=some (Ffbb_R r):=entT_F (oA_inj (isl_inj (vint_inj (k:=.u8)))) h
noncomputable def Ffbb_c : Code:=bodyOf Try.f10
noncomputable def Ffbb_E : Env:=mkE Try.prog [(34,Ffba_ent)]
def Ffbb_Q (x : (List Int)) (r : Calendar × Int) : St→Prop:=QF Ffbb_E Try.f10 [false] (Ffbb_A x) (Ffbb_R r)
theorem Ffbb_run (code_1 : List Int) (r : Calendar × Int) (h : Ffbb code_1=some r) : RunF Ffbb_E Try.f10 [false] 0 (Ffbb_A code_1) (Ffbb_R r):=by
 show Run _ _ (Ffbb_Q code_1 r) [.code Ffbb_c] _
 refine rin (n:=8) [(0,.isl false ((code_1).map (V.int .u8)))] [] 1 (by kernel_rfl) (by kernel_rfl) (by kernel_rfl) rfl ?_
 unfold Ffbb at h
 refine ck 3 [2] [] [1] [] [.hp 1 0 [] 2 0 0] [some ⟨0,2,[.agg [.isl true [],.isl true []]]⟩] 17 (by kernel_rfl) ?_
 refine run_row 1 [.agg [.usl 1 (([]).map I),.usl 1 (([]).map I)]] rfl rfl (cvs_c (cv_agg (cvs_c (.nil _) (cvs_c (.nil _) (cvs_n)))) cvs_n) ?_
 refine cq 5 [4] [.isl false ((code_1).map (V.int .u8))] 49 ?_
 obtain ⟨r2,hr2,h⟩:=bS h
 refine oq 65 (.tup [.agg [.hs 49 0 [] 1 0 ((r2.1.Weekend).map I).length,.hs 50 0 [] 1 0 ((r2.1.Holidays).map I).length],I (r2.2)]) rfl (e_callV rfl rfl (call_P rfl rfl rfl (avS (shP rfl) (avN)) (Ffba_F hr2) (.inr rfl) (bl_n) rfl rfl rfl)) ?_
 refine cq 2 [6,7] [.agg [.hs 49 0 [] 1 0 ((r2.1.Weekend).map I).length,.hs 50 0 [] 1 0 ((r2.1.Holidays).map I).length],I (r2.2)] 97 ?_
 refine o0 113 rfl rfl (e_st rfl rfl (st_at (path:=[]) (pl:=false) (e':=encO_Calendar r2.1) (es2':=[encO_Calendar r2.1]) rfl (absA (absC (abs_hs rfl rfl) (absC (abs_hs rfl rfl) (absN)))) rfl rfl rfl (ra_n) rfl rfl rfl rfl rfl (sr_n) 2 rfl)) ?_
 refine cq 2 [3] [I (r2.2)] 129 ?_
 obtain rfl:=Option.some.inj h
 exact s_ret rfl ⟨_,fin (vs:=[.agg [.hs 1 2 [(0,0)] 1 0 ((r2.1.Weekend).map I).length,.hs 1 2 [(0,1)] 1 0 ((r2.1.Holidays).map I).length],I (r2.2)]) (rs_c (rs_cell rfl rfl rfl) (rs_c (rfl) (rs_n))) (absE (absA (absC (abs_at (path:=[(0,0)]) rfl rfl (ra_c rfl rfl (ra_n)) rfl (to_c (path:=[]) (i:=0) (k:=0) (e':=.agg [.dead,.usl 1 ((r2.1.Holidays).map I)]) (es2':=[.agg [.dead,.usl 1 ((r2.1.Holidays).map I)]]) (ra_n) rfl rfl rfl (sr_n))) (absC (abs_at (path:=[(0,1)]) rfl rfl (ra_c rfl rfl (ra_n)) rfl (to_c (path:=[]) (i:=0) (k:=1) (e':=.agg [.dead,.dead]) (es2':=[.agg [.dead,.dead]]) (ra_n) rfl rfl rfl (sr_n))) (absN)))) (absE (absorb_plain rfl) (absEN))) rfl (ou_f (ou_n)),kl_n⟩
theorem Ffbb_good {G : Go.Ln.Ground} : Good Try.prog G 10 Ffbb_ent:=good_T (fnOf_good (gl_c Ffba_good (gl_n))) agree_mk (Checked.mixed Try.checked) Try.func10 (n:=1) (m:=0) ⟨rfl,rfl,by decide⟩ (fun _=>⟨rfl,rfl⟩) (fun a r h=>Ffbb_run a r h)
def Ffp_A : ((List Int) × Int × Int × Int)→List V:=cA (slE I) (cA I (cA I (oA I)))
def Ffp_R (r : Bool) : V × List V:=(B (r),[])
noncomputable def Ffp_ent : Ent:=entT [false,false,false,false] Ffp_A Ffp_R fun x=>Ffp x.1 x.2.1 x.2.2.1 x.2.2.2
theorem Ffp_F {list_1 : List Int} {low_2 : Int} {high_3 : Int} {most_4 : Int} {r} (h : Ffp list_1 low_2 high_3 most_4=some r) : (Ffp_ent).F (Ffp_A (list_1,low_2,high_3,most_4))=some (Ffp_R r):=entT_F (cA_inj (isl_inj I_inj) (cA_inj I_inj (cA_inj I_inj (oA_inj I_inj)))) h
noncomputable def Ffp_c : Code:=bodyOf Try.f61
noncomputable abbrev Ffp_ka : Code:=cL (cL (cR (cL (cR Ffp_c))))
noncomputable abbrev Ffp_kb : Code:=cR (cR (cL (cL (cR (cR Ffp_ka)))))
noncomputable def Ffp_E : Env:=mkE Try.prog [(27,Fft_ent)]
def Ffp_Q (x : (List Int) × Int × Int × Int) (r : Bool) : St→Prop:=QF Ffp_E Try.f61 [false,false,false,false] (Ffp_A x) (Ffp_R r)
theorem Ffp_la_run (list_1 : List Int) (low_2 : Int) (high_3 : Int) (most_4 : Int)  {Q : St→Prop} {K : List It} (hK : noD K=true) : ∀ (x5 : Int) (y : Bool ⊕ Unit),Ffp_la list_1 low_2 high_3 most_4 x5=some y→(∀ r',y=.inl r'→∀ st,Ffp_Q (list_1,low_2,high_3,most_4) r' st→Q st)→(∀ u : Unit,y=.inr u→Run Ffp_E 0 Q K (sT 41 [(0,.isl false ((list_1).map I)),(3,I (most_4))] [] 1))→Run Ffp_E 0 Q (.code Ffp_ka :: .lp Ffp_ka :: .blk 0 :: K) (sT 41 [(0,.isl false ((list_1).map I)),(1,I (low_2)),(2,I (high_3)),(3,I (most_4)),(11,.isl false ((list_1).map I)),(12,I ((len list_1))),(13,I (x5))] [] 1):=by
 refine fix_indP (Ffp_la_fin list_1 low_2 high_3 most_4) ?_
 intro self ih x5 y h hr hn
 unfold Ffp_la_F at h
 refine cq 5 [14] [B ((decide (x5 < (len list_1))))] 17 ?_
 refine sq h (fun h=>?_) (fun h=>?_)
 · refine aq 1 ?_
   refine cq 5 [15] [I (x5)] 33 ?_
   obtain ⟨e6,he6,h⟩:=bS h
   refine oq 49 (.iptr (I (e6)) 0) rfl (e_indexAddr rfl rfl rfl (ix_islE rfl rfl rfl rfl he6)) ?_
   refine cq 9 [9,10,18,19,20] [I (x5),I (e6),I (e6),I (low_2),I (high_3)] 145 ?_
   obtain ⟨r7,hr7,h⟩:=bS h
   refine oq 161 (B (r7)) rfl (e_callV rfl rfl (call_P rfl rfl rfl (avS (shP rfl) (avS (shP rfl) (avS (shP rfl) (avN)))) (Fft_F hr7) (.inr rfl) (bl_n) rfl rfl rfl)) ?_
   refine cq 2 [23] [B ((!r7))] 193 ?_
   obtain ⟨y8,hy8,hy81,hy82⟩:=bL h
   have j8 : ∀ u8,y8=.inr u8→Run Ffp_E 0 Q (.code Ffp_kb :: .blk 1 :: .code (cR (cR (cR Ffp_ka))) :: .lp Ffp_ka :: .blk 0 :: K) (sT 41 [(0,.isl false ((list_1).map I)),(1,I (low_2)),(2,I (high_3)),(3,I (most_4)),(11,.isl false ((list_1).map I)),(12,I ((len list_1))),(13,I (x5)),(35,B (u8))] [] 1):=by
     intro u8 hu
     replace h:=hy82 u8 hu
     refine sq h (fun h=>?_) (fun h=>?_)
     · refine cq 4 [8] [B (false)] 17 ?_
       exact s_ret rfl (hr _ (Option.some.inj h).symm _ ⟨_,fin (vs:=[B (false)]) rfl (absE (absorb_plain rfl) (absEN)) rfl (ou_f (ou_f (ou_f (ou_f (ou_n))))),kl_n⟩)
     · refine aq 1 ?_
       refine cq 5 [13] [I ((w64 (x5 + 1)))] 33 ?_
       refine s_lp ?_
       exact rf [0,1,2,3,11,12,13] [] (ih _ _ h hr hn :)
   have r8 : ∀ r',y8=.inl r'→∀ st,Ffp_Q (list_1,low_2,high_3,most_4) r' st→Q st:=fun r' e st hq=>hr r' (hy81 r' e) st hq
   replace h:=hy8
   refine sp 23 h rfl (fun h=>?_) (fun h=>?_)
   · refine cq 13 [35] [B (true)] 385 ?_
     exact rf [0,1,2,3,11,12,13,35] [] (j8 _ (Option.some.inj h).symm :)
   · refine cq 3 [26] [B ((decide (x5 > 0)))] 241 ?_
     obtain ⟨y9,hy9,hy91,hy92⟩:=bL h
     have j9 : ∀ u9,y9=.inr u9→Run Ffp_E 0 Q (.code Ffp_kb :: .blk 1 :: .code (cR (cR (cR Ffp_ka))) :: .lp Ffp_ka :: .blk 0 :: K) (sT 41 [(0,.isl false ((list_1).map I)),(1,I (low_2)),(2,I (high_3)),(3,I (most_4)),(11,.isl false ((list_1).map I)),(12,I ((len list_1))),(13,I (x5)),(35,B (u9))] [] 1):=by
       intro u9 hu
       replace h:=hy92 u9 hu
       exact rf [0,1,2,3,11,12,13,35] [] (j8 _ (Option.some.inj h).symm :)
     have r9 : ∀ r',y9=.inl r'→∀ st,Ffp_Q (list_1,low_2,high_3,most_4) r' st→Q st:=fun r' e st hq=>r8 r' (hy91 r' e) st hq
     replace h:=hy9
     refine sp 26 h rfl (fun h=>?_) (fun h=>?_)
     · refine cq 4 [27,28,30] [I (e6),.isl false ((list_1).map I),I ((w64 (x5 - 1)))] 305 ?_
       obtain ⟨e10,he10,h⟩:=bS h
       refine oy 321 (.iptr (I (e10)) 0) rfl (e_indexAddr rfl rfl rfl (ix_islE rfl rfl rfl rfl he10)) ?_
       refine cq 5 [35] [B ((decide (e6 ≤ e10)))] 385 ?_
       exact rf [0,1,2,3,11,12,13,35] [] (j9 _ (Option.some.inj h).symm :)
     · refine cq 10 [35] [B (false)] 385 ?_
       exact rf [0,1,2,3,11,12,13,35] [] (j9 _ (Option.some.inj h).symm :)
 · refine aq 1 ?_
   exact rf [0,3] [] (hn _ (Option.some.inj h).symm :) (hk:=hK)
theorem Ffp_run (list_1 : List Int) (low_2 : Int) (high_3 : Int) (most_4 : Int) (r : Bool) (h : Ffp list_1 low_2 high_3 most_4=some r) : RunF Ffp_E Try.f61 [false,false,false,false] 0 (Ffp_A (list_1,low_2,high_3,most_4)) (Ffp_R r):=by
 show Run _ _ (Ffp_Q (list_1,low_2,high_3,most_4) r) [.code Ffp_c] _
 refine rin (n:=41) [(0,.isl false ((list_1).map I)),(1,I (low_2)),(2,I (high_3)),(3,I (most_4))] [] 1 (by kernel_rfl) (by kernel_rfl) (by kernel_rfl) rfl ?_
 unfold Ffp at h
 refine cq 8 [11] [.isl false ((list_1).map I)] 33 ?_
 refine oq 49 (I ((len list_1))) rfl (e_len rfl rfl rfl (l_isl rfl)) ?_
 refine cq 3 [13] [I (0)] 65 ?_
 obtain ⟨y11,hy11,hy111,hy112⟩:=bJ h
 refine s_loop rfl ?_
 refine rf [0,1,2,3,11,12,13] [] (Ffp_la_run list_1 low_2 high_3 most_4 rfl 0 _ hy11 (fun r' e st hq=>by rw [hy111 r' e] at hq; exact hq) fun u11 hu=>?_)
 replace h:=hy112 u11 hu
 refine cq 3 [37] [.isl false ((list_1).map I)] 17 ?_
 refine oq 33 (I ((len list_1))) rfl (e_len rfl rfl rfl (l_isl rfl)) ?_
 refine cq 4 [8] [B ((decide ((len list_1) ≤ most_4)))] 81 ?_
 obtain rfl:=Option.some.inj h
 exact s_ret rfl ⟨_,fin (vs:=[B ((decide ((len list_1) ≤ most_4)))]) rfl (absE (absorb_plain rfl) (absEN)) rfl (ou_f (ou_f (ou_f (ou_f (ou_n))))),kl_n⟩
theorem Ffp_good {G : Go.Ln.Ground} : Good Try.prog G 61 Ffp_ent:=good_T (fnOf_good (gl_c Fft_good (gl_n))) agree_mk (Checked.mixed Try.checked) Try.func61 (n:=4) (m:=0) ⟨rfl,rfl,by decide⟩ (fun _=>⟨rfl,rfl⟩) (fun a r h=>Ffp_run a.1 a.2.1 a.2.2.1 a.2.2.2 r h)
def Ffc_A : Calendar→List V:=oA encI_Calendar
def Ffc_R (r : Bool) : V × List V:=(B (r),[])
noncomputable def Ffc_ent : Ent:=entT [false] Ffc_A Ffc_R fun x=>Ffc x
theorem Ffc_F {c_1 : Calendar} {r} (h : Ffc c_1=some r) : (Ffc_ent).F (Ffc_A c_1)=some (Ffc_R r):=entT_F (oA_inj encI_Calendar_inj) h
noncomputable def Ffc_c : Code:=bodyOf Try.f35
noncomputable def Ffc_E : Env:=mkE Try.prog [(61,Ffp_ent)]
def Ffc_Q (x : Calendar) (r : Bool) : St→Prop:=QF Ffc_E Try.f35 [false] (Ffc_A x) (Ffc_R r)
theorem Ffc_run (c_1 : Calendar) (r : Bool) (h : Ffc c_1=some r) : RunF Ffc_E Try.f35 [false] 0 (Ffc_A c_1) (Ffc_R r):=by
 show Run _ _ (Ffc_Q c_1 r) [.code Ffc_c] _
 refine rin (n:=11) [(0,encI_Calendar c_1)] [] 1 (by kernel_rfl) (by kernel_rfl) (by kernel_rfl) rfl ?_
 unfold Ffc at h
 refine ck 9 [1,4] [] [1] [] [.hp 1 0 [] 2 0 0,.isl false ((c_1.Weekend).map I)] [some ⟨0,2,[encI_Calendar c_1]⟩] 65 (by kernel_rfl) ?_
 obtain ⟨r2,hr2,h⟩:=bS h
 refine oq 81 (B (r2)) rfl (e_callV rfl rfl (call_P rfl rfl rfl (avS (shP rfl) (avS (shP rfl) (avS (shP rfl) (avS (shP rfl) (avN))))) (Ffp_F hr2) (.inr rfl) (bl_n) rfl rfl rfl)) ?_
 refine cq 1 [6] [B (r2)] 97 ?_
 obtain ⟨y3,hy3,hy31,hy32⟩:=bJ h
 have j3 : ∀ u3,y3=.inr u3→Run Ffc_E 0 (Ffc_Q c_1 r) (.code (cR (cR Ffc_c)) :: []) (sT 11 [(2,B (u3))] [] 1):=by
   intro u3 hu
   replace h:=hy32 u3 hu
   obtain rfl:=Option.some.inj h
   exact s_ret rfl ⟨_,fin (vs:=[B (u3)]) rfl (absE (absorb_plain rfl) (absEN)) rfl (ou_f (ou_n)),kl_n⟩
 have r3 : ∀ r',y3=.inl r'→∀ st,Ffc_Q c_1 r' st→(Ffc_Q c_1 r) st:=fun r' e st hq=>by rw [hy31 r' e] at hq; exact hq
 replace h:=hy3
 refine sp 6 h rfl (fun h=>?_) (fun h=>?_)
 · refine cq 2 [8] [.isl false ((c_1.Holidays).map I)] 129 ?_
   obtain ⟨r4,hr4,h⟩:=bS h
   refine oy 145 (B (r4)) rfl (e_callV rfl rfl (call_P rfl rfl rfl (avS (shP rfl) (avS (shP rfl) (avS (shP rfl) (avS (shP rfl) (avN))))) (Ffp_F hr4) (.inr rfl) (bl_n) rfl rfl rfl)) ?_
   refine cq 3 [2] [B (r4)] 177 ?_
   exact rf [2] [] (j3 _ (Option.some.inj h).symm :)
 · refine cq 6 [2] [B (false)] 177 ?_
   exact rf [2] [] (j3 _ (Option.some.inj h).symm :)
theorem Ffc_good {G : Go.Ln.Ground} : Good Try.prog G 35 Ffc_ent:=good_T (fnOf_good (gl_c Ffp_good (gl_n))) agree_mk (Checked.mixed Try.checked) Try.func35 (n:=1) (m:=0) ⟨rfl,rfl,by decide⟩ (fun _=>⟨rfl,rfl⟩) (fun a r h=>Ffc_run a r h)
def Ffg_A : Date→List V:=oA enc_Date
def Ffg_R (r : Int) : V × List V:=(I (r),[])
noncomputable def Ffg_ent : Ent:=entT [false] Ffg_A Ffg_R fun x=>Ffg x
theorem Ffg_F {d_1 : Date} {r} (h : Ffg d_1=some r) : (Ffg_ent).F (Ffg_A d_1)=some (Ffg_R r):=entT_F (oA_inj enc_Date_inj) h
noncomputable def Ffg_c : Code:=bodyOf Try.f39
noncomputable def Ffg_E : Env:=mkE Try.prog [(62,Ffi_ent),(37,Ffh_ent)]
def Ffg_Q (x : Date) (r : Int) : St→Prop:=QF Ffg_E Try.f39 [false] (Ffg_A x) (Ffg_R r)
theorem Ffg_la_run (d_1 : Date)  {Q : St→Prop} {K : List It} (hK : noD K=true) : ∀ (x2 : Int × Int) (y : Int ⊕ Int),Ffg_la d_1 x2=some y→(∀ r',y=.inl r'→∀ st,Ffg_Q d_1 r' st→Q st)→(∀ u : Int,y=.inr u→Run Ffg_E 0 Q K (sT 32 [(1,.hp 1 0 [] 3 0 0),(3,I (u))] [⟨0,3,[enc_Date d_1]⟩] 2))→Run Ffg_E 0 Q (.code (cL (cL (cR (cL (cR (cR Ffg_c)))))) :: .lp (cL (cL (cR (cL (cR (cR Ffg_c)))))) :: .blk 0 :: K) (sT 32 [(1,.hp 1 0 [] 3 0 0),(3,I (x2.1)),(4,I (x2.2))] [⟨0,3,[enc_Date d_1]⟩] 2):=by
 refine fix_indP (Ffg_la_fin d_1) ?_
 intro self ih x2 y h hr hn
 unfold Ffg_la_F at h
 refine cq 8 [12] [B ((decide (x2.2 < d_1.Year)))] 66 ?_
 refine sq h (fun h=>?_) (fun h=>?_)
 · refine aq 1 ?_
   refine cq 5 [15,16] [I (x2.1),I (x2.2)] 98 ?_
   obtain ⟨r3,hr3,h⟩:=bS h
   refine oq 114 (I (r3)) rfl (e_callV rfl rfl (call_P rfl rfl rfl (avS (shP rfl) (avN)) (Ffi_F hr3) (.inr rfl) (bl_n) rfl rfl rfl)) ?_
   refine cq 9 [3,4] [I ((w64 (x2.1 + r3))),I ((w64 (x2.2 + 1)))] 194 ?_
   refine s_lp ?_
   exact rf [1,3,4] [1] (ih _ _ h hr hn :)
 · refine aq 1 ?_
   exact rf [1,3] [1] (hn _ (Option.some.inj h).symm :) (hk:=hK)
theorem Ffg_lb_run (d_1 : Date)  {Q : St→Prop} {K : List It} (hK : noD K=true) : ∀ (x5 : Int × Int) (y : Int ⊕ Int),Ffg_lb d_1 x5=some y→(∀ r',y=.inl r'→∀ st,Ffg_Q d_1 r' st→Q st)→(∀ u : Int,y=.inr u→Run Ffg_E 0 Q K (sT 32 [(3,I (u))] [] 1))→Run Ffg_E 0 Q (.code (cL (cL (cR (cL (cR (cR (cR Ffg_c))))))) :: .lp (cL (cL (cR (cL (cR (cR (cR Ffg_c))))))) :: .blk 2 :: K) (sT 32 [(1,.hp 1 0 [] 3 0 0),(3,I (x5.1)),(5,I (x5.2))] [⟨0,3,[enc_Date d_1]⟩] 2):=by
 refine fix_indP (Ffg_lb_fin d_1) ?_
 intro self ih x5 y h hr hn
 unfold Ffg_lb_F at h
 refine cq 8 [22] [B ((decide (x5.2 < d_1.Month)))] 66 ?_
 refine sq h (fun h=>?_) (fun h=>?_)
 · refine aq 1 ?_
   refine cq 7 [25,27,28] [I (x5.1),I (d_1.Year),I (x5.2)] 130 ?_
   obtain ⟨r6,hr6,h⟩:=bS h
   refine oq 146 (I (r6)) rfl (e_callV rfl rfl (call_P rfl rfl rfl (avS (shP rfl) (avS (shP rfl) (avN))) (Ffh_F hr6) (.inr rfl) (bl_n) rfl rfl rfl)) ?_
   refine cq 9 [3,5] [I ((w64 (x5.1 + r6))),I ((w64 (x5.2 + 1)))] 226 ?_
   refine s_lp ?_
   exact rf [1,3,5] [1] (ih _ _ h hr hn :)
 · refine aq 1 ?_
   exact rf [3] [] (hn _ (Option.some.inj h).symm :) (hk:=hK)
theorem Ffg_run (d_1 : Date) (r : Int) (h : Ffg d_1=some r) : RunF Ffg_E Try.f39 [false] 0 (Ffg_A d_1) (Ffg_R r):=by
 show Run _ _ (Ffg_Q d_1 r) [.code Ffg_c] _
 refine rin (n:=32) [(0,enc_Date d_1)] [] 1 (by kernel_rfl) (by kernel_rfl) (by kernel_rfl) rfl ?_
 unfold Ffg at h
 refine ck 18 [1,3,4] [] [1] [] [.hp 1 0 [] 3 0 0,I ((w64 (d_1.Day - 1))),I (2000)] [some ⟨0,3,[enc_Date d_1]⟩] 113 (by kernel_rfl) ?_
 obtain ⟨y4,hy4,hy41,hy42⟩:=bJ h
 refine s_loop rfl ?_
 refine rf [1,3,4] [1] (Ffg_la_run d_1 rfl ((w64 (d_1.Day - 1)),2000) _ hy4 (fun r' e st hq=>by rw [hy41 r' e] at hq; exact hq) fun u4 hu=>?_)
 replace h:=hy42 u4 hu
 refine cq 6 [5] [I (1)] 18 ?_
 obtain ⟨y7,hy7,hy71,hy72⟩:=bJ h
 refine s_loop rfl ?_
 refine rf [1,3,5] [1] (Ffg_lb_run d_1 rfl (u4,1) _ hy7 (fun r' e st hq=>by rw [hy71 r' e] at hq; exact hq) fun u7 hu=>?_)
 replace h:=hy72 u7 hu
 refine cq 5 [2] [I (u7)] 33 ?_
 obtain rfl:=Option.some.inj h
 exact s_ret rfl ⟨_,fin (vs:=[I (u7)]) rfl (absE (absorb_plain rfl) (absEN)) rfl (ou_f (ou_n)),kl_n⟩
theorem Ffg_good {G : Go.Ln.Ground} : Good Try.prog G 39 Ffg_ent:=good_T (fnOf_good (gl_c Ffi_good (gl_c Ffh_good (gl_n)))) agree_mk (Checked.mixed Try.checked) Try.func39 (n:=1) (m:=0) ⟨rfl,rfl,by decide⟩ (fun _=>⟨rfl,rfl⟩) (fun a r h=>Ffg_run a r h)
def Ffs_A : Int→List V:=oA I
def Ffs_R (r : Int) : V × List V:=(I (r),[])
noncomputable def Ffs_ent : Ent:=entT [false] Ffs_A Ffs_R fun x=>Ffs x
theorem Ffs_F {day_1 : Int} {r} (h : Ffs day_1=some r) : (Ffs_ent).F (Ffs_A day_1)=some (Ffs_R r):=entT_F (oA_inj I_inj) h
noncomputable def Ffs_c : Code:=bodyOf Try.f67
noncomputable def Ffs_E : Env:=mkE Try.prog []
def Ffs_Q (x : Int) (r : Int) : St→Prop:=QF Ffs_E Try.f67 [false] (Ffs_A x) (Ffs_R r)
theorem Ffs_run (day_1 : Int) (r : Int) (h : Ffs day_1=some r) : RunF Ffs_E Try.f67 [false] 0 (Ffs_A day_1) (Ffs_R r):=by
 show Run _ _ (Ffs_Q day_1 r) [.code Ffs_c] _
 refine rin (n:=6) [(0,I (day_1))] [] 1 (by kernel_rfl) (by kernel_rfl) (by kernel_rfl) rfl ?_
 unfold Ffs at h
 refine cq 11 [2] [I (((w64 (day_1 + 5)).tmod 7))] 81 ?_
 obtain rfl:=Option.some.inj h
 exact s_ret rfl ⟨_,fin (vs:=[I (((w64 (day_1 + 5)).tmod 7))]) rfl (absE (absorb_plain rfl) (absEN)) rfl (ou_f (ou_n)),kl_n⟩
theorem Ffs_good {G : Go.Ln.Ground} : Good Try.prog G 67 Ffs_ent:=good_T (fnOf_good (gl_n)) agree_mk (Checked.mixed Try.checked) Try.func67 (n:=1) (m:=0) ⟨rfl,rfl,by decide⟩ (fun _=>⟨rfl,rfl⟩) (fun a r h=>Ffs_run a r h)
def Ffv_A : ((List Int) × Int)→List V:=cA (slE I) (oA I)
def Ffv_R (r : Int) : V × List V:=(I (r),[])
noncomputable def Ffv_ent : Ent:=entT [false,false] Ffv_A Ffv_R fun x=>Ffv x.1 x.2
theorem Ffv_F {s_1 : List Int} {v_2 : Int} {r} (h : Ffv s_1 v_2=some r) : (Ffv_ent).F (Ffv_A (s_1,v_2))=some (Ffv_R r):=entT_F (cA_inj (isl_inj I_inj) (oA_inj I_inj)) h
noncomputable def Ffv_c : Code:=bodyOf Try.f80
noncomputable def Ffv_E : Env:=mkE Try.prog []
def Ffv_Q (x : (List Int) × Int) (r : Int) : St→Prop:=QF Ffv_E Try.f80 [false,false] (Ffv_A x) (Ffv_R r)
theorem Ffv_la_run (s_1 : List Int) (v_2 : Int)  {Q : St→Prop} {K : List It} (hK : noD K=true) : ∀ (x3 : Int) (y : Int ⊕ Unit),Ffv_la s_1 v_2 x3=some y→(∀ r',y=.inl r'→∀ st,Ffv_Q (s_1,v_2) r' st→Q st)→(∀ u : Unit,y=.inr u→Run Ffv_E 0 Q K (sT 19 [] [] 1))→Run Ffv_E 0 Q (.code (cL (cL (cR (cL (cR Ffv_c))))) :: .lp (cL (cL (cR (cL (cR Ffv_c))))) :: .blk 0 :: K) (sT 19 [(0,.isl false ((s_1).map I)),(1,I (v_2)),(7,I ((len s_1))),(8,I (x3))] [] 1):=by
 refine fix_indP (Ffv_la_fin s_1 v_2) ?_
 intro self ih x3 y h hr hn
 unfold Ffv_la_F at h
 refine cq 5 [9] [B ((decide (x3 < (len s_1))))] 17 ?_
 refine sq h (fun h=>?_) (fun h=>?_)
 · refine aq 1 ?_
   refine cq 12 [5,11,12,13] [I (x3),I (v_2),.isl false ((s_1).map I),I (x3)] 97 ?_
   obtain ⟨e4,he4,h⟩:=bS h
   refine oq 113 (.iptr (I (e4)) 0) rfl (e_indexAddr rfl rfl rfl (ix_islE rfl rfl rfl rfl he4)) ?_
   refine cq 3 [16] [B ((v_2 == e4))] 145 ?_
   refine sq h (fun h=>?_) (fun h=>?_)
   · refine cq 5 [4] [I (x3)] 177 ?_
     exact s_ret rfl (hr _ (Option.some.inj h).symm _ ⟨_,fin (vs:=[I (x3)]) rfl (absE (absorb_plain rfl) (absEN)) rfl (ou_f (ou_f (ou_n))),kl_n⟩)
   · refine aq 1 ?_
     refine cq 5 [8] [I ((w64 (x3 + 1)))] 177 ?_
     refine s_lp ?_
     exact rf [0,1,7,8] [] (ih _ _ h hr hn :)
 · refine aq 1 ?_
   exact rf [] [] (hn _ (Option.some.inj h).symm :) (hk:=hK)
theorem Ffv_run (s_1 : List Int) (v_2 : Int) (r : Int) (h : Ffv s_1 v_2=some r) : RunF Ffv_E Try.f80 [false,false] 0 (Ffv_A (s_1,v_2)) (Ffv_R r):=by
 show Run _ _ (Ffv_Q (s_1,v_2) r) [.code Ffv_c] _
 refine rin (n:=19) [(0,.isl false ((s_1).map I)),(1,I (v_2))] [] 1 (by kernel_rfl) (by kernel_rfl) (by kernel_rfl) rfl ?_
 unfold Ffv at h
 refine cq 8 [6] [.isl false ((s_1).map I)] 33 ?_
 refine oq 49 (I ((len s_1))) rfl (e_len rfl rfl rfl (l_isl rfl)) ?_
 refine cq 3 [8] [I (0)] 65 ?_
 obtain ⟨y5,hy5,hy51,hy52⟩:=bJ h
 refine s_loop rfl ?_
 refine rf [0,1,7,8] [] (Ffv_la_run s_1 v_2 rfl 0 _ hy5 (fun r' e st hq=>by rw [hy51 r' e] at hq; exact hq) fun u5 hu=>?_)
 replace h:=hy52 u5 hu
 refine cq 4 [4] [I ((-1))] 17 ?_
 obtain rfl:=Option.some.inj h
 exact s_ret rfl ⟨_,fin (vs:=[I ((-1))]) rfl (absE (absorb_plain rfl) (absEN)) rfl (ou_f (ou_f (ou_n))),kl_n⟩
theorem Ffv_good {G : Go.Ln.Ground} : Good Try.prog G 80 Ffv_ent:=good_T (fnOf_good (gl_n)) agree_mk (Checked.mixed Try.checked) Try.func80 (n:=2) (m:=0) ⟨rfl,rfl,by decide⟩ (fun _=>⟨rfl,rfl⟩) (fun a r h=>Ffv_run a.1 a.2 r h)
def Ffu_A : ((List Int) × Int)→List V:=cA (slE I) (oA I)
def Ffu_R (r : Bool) : V × List V:=(B (r),[])
noncomputable def Ffu_ent : Ent:=entT [false,false] Ffu_A Ffu_R fun x=>Ffu x.1 x.2
theorem Ffu_F {s_1 : List Int} {v_2 : Int} {r} (h : Ffu s_1 v_2=some r) : (Ffu_ent).F (Ffu_A (s_1,v_2))=some (Ffu_R r):=entT_F (cA_inj (isl_inj I_inj) (oA_inj I_inj)) h
noncomputable def Ffu_c : Code:=bodyOf Try.f66
noncomputable def Ffu_E : Env:=mkE Try.prog [(80,Ffv_ent)]
def Ffu_Q (x : (List Int) × Int) (r : Bool) : St→Prop:=QF Ffu_E Try.f66 [false,false] (Ffu_A x) (Ffu_R r)
theorem Ffu_run (s_1 : List Int) (v_2 : Int) (r : Bool) (h : Ffu s_1 v_2=some r) : RunF Ffu_E Try.f66 [false,false] 0 (Ffu_A (s_1,v_2)) (Ffu_R r):=by
 show Run _ _ (Ffu_Q (s_1,v_2) r) [.code Ffu_c] _
 refine rin (n:=9) [(0,.isl false ((s_1).map I)),(1,I (v_2))] [] 1 (by kernel_rfl) (by kernel_rfl) (by kernel_rfl) rfl ?_
 unfold Ffu at h
 refine cq 8 [5,6] [.isl false ((s_1).map I),I (v_2)] 49 ?_
 obtain ⟨r3,hr3,h⟩:=bS h
 refine oq 65 (I (r3)) rfl (e_callV rfl rfl (call_P rfl rfl rfl (avS (shP rfl) (avS (shP rfl) (avN))) (Ffv_F hr3) (.inr rfl) (bl_n) rfl rfl rfl)) ?_
 refine cq 3 [4] [B ((decide (r3 ≥ 0)))] 97 ?_
 obtain rfl:=Option.some.inj h
 exact s_ret rfl ⟨_,fin (vs:=[B ((decide (r3 ≥ 0)))]) rfl (absE (absorb_plain rfl) (absEN)) rfl (ou_f (ou_f (ou_n))),kl_n⟩
theorem Ffu_good {G : Go.Ln.Ground} : Good Try.prog G 66 Ffu_ent:=good_T (fnOf_good (gl_c Ffv_good (gl_n))) agree_mk (Checked.mixed Try.checked) Try.func66 (n:=2) (m:=0) ⟨rfl,rfl,by decide⟩ (fun _=>⟨rfl,rfl⟩) (fun a r h=>Ffu_run a.1 a.2 r h)
def Ffm_A : (Calendar × Int)→List V:=cA encI_Calendar (oA I)
def Ffm_R (r : Bool) : V × List V:=(B (r),[])
noncomputable def Ffm_ent : Ent:=entT [false,false] Ffm_A Ffm_R fun x=>Ffm x.1 x.2
theorem Ffm_F {c_1 : Calendar} {day_2 : Int} {r} (h : Ffm c_1 day_2=some r) : (Ffm_ent).F (Ffm_A (c_1,day_2))=some (Ffm_R r):=entT_F (cA_inj encI_Calendar_inj (oA_inj I_inj)) h
noncomputable def Ffm_c : Code:=bodyOf Try.f49
noncomputable def Ffm_E : Env:=mkE Try.prog [(67,Ffs_ent),(66,Ffu_ent)]
def Ffm_Q (x : Calendar × Int) (r : Bool) : St→Prop:=QF Ffm_E Try.f49 [false,false] (Ffm_A x) (Ffm_R r)
theorem Ffm_run (c_1 : Calendar) (day_2 : Int) (r : Bool) (h : Ffm c_1 day_2=some r) : RunF Ffm_E Try.f49 [false,false] 0 (Ffm_A (c_1,day_2)) (Ffm_R r):=by
 show Run _ _ (Ffm_Q (c_1,day_2) r) [.code Ffm_c] _
 refine rin (n:=18) [(0,encI_Calendar c_1),(1,I (day_2))] [] 1 (by kernel_rfl) (by kernel_rfl) (by kernel_rfl) rfl ?_
 unfold Ffm at h
 refine ck 6 [2] [] [1] [] [.hp 1 0 [] 2 0 0] [some ⟨0,2,[encI_Calendar c_1]⟩] 33 (by kernel_rfl) ?_
 refine s_draw [0,1,0,4,15,31,63,127,255,127,1023,2047,4095,8191] rfl (by decide +kernel) ?_
 refine dq [1] [] (.hp 1 0 [] 2 0 0) rfl (e_fieldAddr rfl rfl rfl) ?_
 refine dq [1] [] (.isl false ((c_1.Weekend).map I)) rfl (e_ld rfl rfl) ?_
 refine dk 1 [7] [I (day_2)] ?_
 obtain ⟨r3,hr3,h⟩:=bS h
 refine dq [] [] (I (r3)) rfl (e_callV rfl rfl (call_P rfl rfl rfl (avS (shP rfl) (avN)) (Ffs_F hr3) (.inr rfl) (bl_n) rfl rfl rfl)) ?_ (w_callO rfl rfl rfl rfl (avS (shP rfl) (avN)) (Ffs_F hr3) (.inr rfl) rfl)
 obtain ⟨r4,hr4,h⟩:=bS h
 refine dq [] [] (B (r4)) rfl (e_callV rfl rfl (call_P rfl rfl rfl (avS (shP rfl) (avS (shP rfl) (avN))) (Ffu_F hr4) (.inr rfl) (bl_n) rfl rfl rfl)) ?_ (w_callO rfl rfl rfl rfl (avS (shP rfl) (avS (shP rfl) (avN))) (Ffu_F hr4) (.inr rfl) rfl)
 refine dk 2 [11,10] [B ((!r4)),B ((!r4))] ?_
 obtain ⟨y5,hy5,hy51,hy52⟩:=bJ h
 have j5 : ∀ u5,y5=.inr u5→Run Ffm_E 0 (Ffm_Q (c_1,day_2) r) (.code (cR (cR Ffm_c)) :: []) (sT 18 [(4,B (u5))] [] 1):=by
   intro u5 hu
   replace h:=hy52 u5 hu
   obtain rfl:=Option.some.inj h
   exact s_ret rfl ⟨_,fin (vs:=[B (u5)]) rfl (absE (absorb_plain rfl) (absEN)) rfl (ou_f (ou_f (ou_n))),kl_n⟩
 have r5 : ∀ r',y5=.inl r'→∀ st,Ffm_Q (c_1,day_2) r' st→(Ffm_Q (c_1,day_2) r) st:=fun r' e st hq=>by rw [hy51 r' e] at hq; exact hq
 replace h:=hy5
 refine sp 11 h rfl (fun h=>?_) (fun h=>?_)
 · refine dy [1] [] (.hp 1 0 [] 2 0 1) rfl (e_fieldAddr rfl rfl rfl) ?_
   refine dy [1] [] (.isl false ((c_1.Holidays).map I)) rfl (e_ld rfl rfl) ?_
   refine dk 1 [14] [I (day_2)] ?_
   obtain ⟨r6,hr6,h⟩:=bS h
   refine dy [] [] (B (r6)) rfl (e_callV rfl rfl (call_P rfl rfl rfl (avS (shP rfl) (avS (shP rfl) (avN))) (Ffu_F hr6) (.inr rfl) (bl_n) rfl rfl rfl)) ?_ (w_callO rfl rfl rfl rfl (avS (shP rfl) (avS (shP rfl) (avN))) (Ffu_F hr6) (.inr rfl) rfl)
   refine dk 3 [4,17,16] [B ((!r6)),B ((!r6)),B ((!r6))] ?_
   refine de 257 rfl rfl ?_
   exact rf [4] [] (j5 _ (Option.some.inj h).symm :)
 · refine dk 7 [4,17,16,15,14,13,12] [B (false),B (false),.und,.und,.und,.und,.und] ?_
   refine de 257 rfl rfl ?_
   exact rf [4] [] (j5 _ (Option.some.inj h).symm :)
theorem Ffm_good {G : Go.Ln.Ground} : Good Try.prog G 49 Ffm_ent:=good_T (fnOf_good (gl_c Ffs_good (gl_c Ffu_good (gl_n)))) agree_mk (Checked.mixed Try.checked) Try.func49 (n:=2) (m:=0) ⟨rfl,rfl,by decide⟩ (fun _=>⟨rfl,rfl⟩) (fun a r h=>Ffm_run a.1 a.2 r h)
def Ffq_A : (Calendar × Int × Int)→List V:=cA encI_Calendar (cA I (oA I))
def Ffq_R (r : Int) : V × List V:=(I (r),[])
noncomputable def Ffq_ent : Ent:=entT [false,false,false] Ffq_A Ffq_R fun x=>Ffq x.1 x.2.1 x.2.2
theorem Ffq_F {c_1 : Calendar} {day_2 : Int} {step_3 : Int} {r} (h : Ffq c_1 day_2 step_3=some r) : (Ffq_ent).F (Ffq_A (c_1,day_2,step_3))=some (Ffq_R r):=entT_F (cA_inj encI_Calendar_inj (cA_inj I_inj (oA_inj I_inj))) h
noncomputable def Ffq_c : Code:=bodyOf Try.f38
noncomputable def Ffq_E : Env:=mkE Try.prog [(26,Ffn_ent),(49,Ffm_ent)]
def Ffq_Q (x : Calendar × Int × Int) (r : Int) : St→Prop:=QF Ffq_E Try.f38 [false,false,false] (Ffq_A x) (Ffq_R r)
theorem Ffq_la_run (c_1 : Calendar) (day_2 : Int) (step_3 : Int)  {Q : St→Prop} {K : List It} (hK : noD K=true) : ∀ (x4 : Int) (y : Int ⊕ Unit),Ffq_la c_1 day_2 step_3 x4=some y→(∀ r',y=.inl r'→∀ st,Ffq_Q (c_1,day_2,step_3) r' st→Q st)→(∀ u : Unit,y=.inr u→Run Ffq_E 0 Q K (sT 16 [] [] 1))→Run Ffq_E 0 Q (.code (cL (cL (cL (cR Ffq_c)))) :: .lp (cL (cL (cL (cR Ffq_c)))) :: .blk 0 :: K) (sT 16 [(1,I (x4)),(2,I (step_3)),(3,.hp 1 0 [] 2 0 0)] [⟨0,2,[encI_Calendar c_1]⟩] 2):=by
 refine fix_indP (Ffq_la_fin c_1 day_2 step_3) ?_
 intro self ih x4 y h hr hn
 unfold Ffq_la_F at h
 refine cq 4 [7] [I (x4)] 18 ?_
 obtain ⟨r5,hr5,h⟩:=bS h
 refine oq 34 (B (r5)) rfl (e_callV rfl rfl (call_P rfl rfl rfl (avS (shP rfl) (avN)) (Ffn_F hr5) (.inr rfl) (bl_n) rfl rfl rfl)) ?_
 refine aq 1 ?_
 refine sq h (fun h=>?_) (fun h=>?_)
 · refine aq 1 ?_
   refine cq 6 [9,10] [encI_Calendar c_1,I (x4)] 66 ?_
   obtain ⟨r6,hr6,h⟩:=bS h
   refine oq 82 (B (r6)) rfl (e_callV rfl rfl (call_P rfl rfl rfl (avS (shP rfl) (avS (shP rfl) (avN))) (Ffm_F hr6) (.inr rfl) (bl_n) rfl rfl rfl)) ?_
   refine aq 1 ?_
   refine sq h (fun h=>?_) (fun h=>?_)
   · refine cq 5 [6] [I (x4)] 114 ?_
     exact s_ret rfl (hr _ (Option.some.inj h).symm _ ⟨_,fin (vs:=[I (x4)]) rfl (absE (absorb_plain rfl) (absEN)) rfl (ou_f (ou_f (ou_f (ou_n)))),kl_n⟩)
   · refine aq 1 ?_
     refine cq 7 [1] [I ((w64 (x4 + step_3)))] 146 ?_
     refine s_lp ?_
     exact rf [1,2,3] [1] (ih _ _ h hr hn :)
 · refine aq 1 ?_
   exact rf [] [] (hn _ (Option.some.inj h).symm :) (hk:=hK)
theorem Ffq_run (c_1 : Calendar) (day_2 : Int) (step_3 : Int) (r : Int) (h : Ffq c_1 day_2 step_3=some r) : RunF Ffq_E Try.f38 [false,false,false] 0 (Ffq_A (c_1,day_2,step_3)) (Ffq_R r):=by
 show Run _ _ (Ffq_Q (c_1,day_2,step_3) r) [.code Ffq_c] _
 refine rin (n:=16) [(0,encI_Calendar c_1),(1,I (day_2)),(2,I (step_3))] [] 1 (by kernel_rfl) (by kernel_rfl) (by kernel_rfl) rfl ?_
 unfold Ffq at h
 refine ck 7 [3] [] [1] [] [.hp 1 0 [] 2 0 0] [some ⟨0,2,[encI_Calendar c_1]⟩] 33 (by kernel_rfl) ?_
 obtain ⟨y7,hy7,hy71,hy72⟩:=bJ h
 refine s_loop rfl ?_
 refine rf [1,2,3] [1] (Ffq_la_run c_1 day_2 step_3 rfl day_2 _ hy7 (fun r' e st hq=>by rw [hy71 r' e] at hq; exact hq) fun u7 hu=>?_)
 replace h:=hy72 u7 hu
 refine cq 4 [6] [I ((-1))] 17 ?_
 obtain rfl:=Option.some.inj h
 exact s_ret rfl ⟨_,fin (vs:=[I ((-1))]) rfl (absE (absorb_plain rfl) (absEN)) rfl (ou_f (ou_f (ou_f (ou_n)))),kl_n⟩
theorem Ffq_good {G : Go.Ln.Ground} : Good Try.prog G 38 Ffq_ent:=good_T (fnOf_good (gl_c Ffn_good (gl_c Ffm_good (gl_n)))) agree_mk (Checked.mixed Try.checked) Try.func38 (n:=3) (m:=0) ⟨rfl,rfl,by decide⟩ (fun _=>⟨rfl,rfl⟩) (fun a r h=>Ffq_run a.1 a.2.1 a.2.2 r h)
def Ffr_A : (Int × Int)→List V:=cA I (oA I)
def Ffr_R (r : Bool) : V × List V:=(B (r),[])
noncomputable def Ffr_ent : Ent:=entT [false,false] Ffr_A Ffr_R fun x=>Ffr x.1 x.2
theorem Ffr_F {a_1 : Int} {b_2 : Int} {r} (h : Ffr a_1 b_2=some r) : (Ffr_ent).F (Ffr_A (a_1,b_2))=some (Ffr_R r):=entT_F (cA_inj I_inj (oA_inj I_inj)) h
noncomputable def Ffr_c : Code:=bodyOf Try.f40
noncomputable def Ffr_E : Env:=mkE Try.prog [(36,Ffe_ent)]
def Ffr_Q (x : Int × Int) (r : Bool) : St→Prop:=QF Ffr_E Try.f40 [false,false] (Ffr_A x) (Ffr_R r)
theorem Ffr_run (a_1 : Int) (b_2 : Int) (r : Bool) (h : Ffr a_1 b_2=some r) : RunF Ffr_E Try.f40 [false,false] 0 (Ffr_A (a_1,b_2)) (Ffr_R r):=by
 show Run _ _ (Ffr_Q (a_1,b_2) r) [.code Ffr_c] _
 refine rin (n:=23) [(0,I (a_1)),(1,I (b_2))] [] 1 (by kernel_rfl) (by kernel_rfl) (by kernel_rfl) rfl ?_
 unfold Ffr at h
 refine cq 7 [7] [I (a_1)] 33 ?_
 obtain ⟨r3,hr3,h⟩:=bS h
 refine oq 49 (enc_Date r3) rfl (e_callV rfl rfl (call_P rfl rfl rfl (avS (shP rfl) (avN)) (Ffe_F hr3) (.inr rfl) (bl_n) rfl rfl rfl)) ?_
 refine cq 1 [9] [I (b_2)] 65 ?_
 obtain ⟨r4,hr4,h⟩:=bS h
 refine oq 81 (enc_Date r4) rfl (e_callV rfl rfl (call_P rfl rfl rfl (avS (shP rfl) (avN)) (Ffe_F hr4) (.inr rfl) (bl_n) rfl rfl rfl)) ?_
 refine ck 13 [5,6,16] [] [81,97] [] [.hp 81 0 [] 3 0 0,.hp 97 0 [] 3 0 0,B ((r3.Year == r4.Year))] [some ⟨0,3,[enc_Date r3]⟩,some ⟨0,3,[enc_Date r4]⟩] 241 (by kernel_rfl) ?_
 obtain ⟨u5,hu5,h⟩:=lJ h
 have j5 : Run Ffr_E 0 (Ffr_Q (a_1,b_2) r) (.code (cR (cR (cR Ffr_c))) :: []) (sT 23 [(4,B (u5))] [] 1):=by
   obtain rfl:=Option.some.inj h
   exact s_ret rfl ⟨_,fin (vs:=[B (u5)]) rfl (absE (absorb_plain rfl) (absEN)) rfl (ou_f (ou_f (ou_n))),kl_n⟩
 replace h:=hu5
 clear hu5
 refine sp 16 h rfl (fun h=>?_) (fun h=>?_)
 · refine cq 8 [4] [B ((r3.Month == r4.Month))] 353 ?_
   subst h
   exact rf [4] [] (j5 :)
 · refine cq 8 [4] [B (false)] 353 ?_
   subst h
   exact rf [4] [] (j5 :)
theorem Ffr_good {G : Go.Ln.Ground} : Good Try.prog G 40 Ffr_ent:=good_T (fnOf_good (gl_c Ffe_good (gl_n))) agree_mk (Checked.mixed Try.checked) Try.func40 (n:=2) (m:=0) ⟨rfl,rfl,by decide⟩ (fun _=>⟨rfl,rfl⟩) (fun a r h=>Ffr_run a.1 a.2 r h)
def Ffd_A : (Calendar × Int)→List V:=cA encI_Calendar (oA I)
def Ffd_R (r : Int × Bool) : V × List V:=(.tup [I (r.1),B (r.2)],[])
noncomputable def Ffd_ent : Ent:=entT [false,false] Ffd_A Ffd_R fun x=>Ffd x.1 x.2
theorem Ffd_F {c_1 : Calendar} {day_2 : Int} {r} (h : Ffd c_1 day_2=some r) : (Ffd_ent).F (Ffd_A (c_1,day_2))=some (Ffd_R r):=entT_F (cA_inj encI_Calendar_inj (oA_inj I_inj)) h
noncomputable def Ffd_c : Code:=bodyOf Try.f11
noncomputable def Ffd_E : Env:=mkE Try.prog [(35,Ffc_ent),(36,Ffe_ent),(37,Ffh_ent),(39,Ffg_ent),(38,Ffq_ent),(40,Ffr_ent),(26,Ffn_ent)]
def Ffd_Q (x : Calendar × Int) (r : Int × Bool) : St→Prop:=QF Ffd_E Try.f11 [false,false] (Ffd_A x) (Ffd_R r)
theorem Ffd_run (c_1 : Calendar) (day_2 : Int) (r : Int × Bool) (h : Ffd c_1 day_2=some r) : RunF Ffd_E Try.f11 [false,false] 0 (Ffd_A (c_1,day_2)) (Ffd_R r):=by
 show Run _ _ (Ffd_Q (c_1,day_2) r) [.code Ffd_c] _
 refine rin (n:=37) [(0,encI_Calendar c_1),(1,I (day_2))] [] 1 (by kernel_rfl) (by kernel_rfl) (by kernel_rfl) rfl ?_
 unfold Ffd at h
 refine ck 10 [2,8] [] [1] [] [.hp 1 0 [] 2 0 0,encI_Calendar c_1] [some ⟨0,2,[encI_Calendar c_1]⟩] 65 (by kernel_rfl) ?_
 obtain ⟨r3,hr3,h⟩:=bS h
 refine oq 81 (B (r3)) rfl (e_callV rfl rfl (call_P rfl rfl rfl (avS (shP rfl) (avN)) (Ffc_F hr3) (.inr rfl) (bl_n) rfl rfl rfl)) ?_
 refine cq 2 [11] [B ((!r3))] 113 ?_
 obtain ⟨y4,hy4,hy41,hy42⟩:=bJ h
 have j4 : ∀ u4,y4=.inr u4→Run Ffd_E 0 (Ffd_Q (c_1,day_2) r) (.code (cR (cL (cR Ffd_c))) :: .code (cR (cR Ffd_c)) :: []) (sT 37 [(1,I (day_2)),(2,.hp 1 0 [] 2 0 0),(15,B (u4))] [⟨0,2,[encI_Calendar c_1]⟩] 2):=by
   intro u4 hu
   replace h:=hy42 u4 hu
   refine sq h (fun h=>?_) (fun h=>?_)
   · refine cq 5 [4,5] [I (0),B (false)] 34 ?_
     obtain rfl:=Option.some.inj h
     exact s_ret rfl ⟨_,fin (vs:=[I (0),B (false)]) rfl (absE (absorb_plain rfl) (absE (absorb_plain rfl) (absEN))) rfl (ou_f (ou_f (ou_n))),kl_n⟩
   · refine aq 1 ?_
     refine cq 3 [16] [I (day_2)] 18 ?_
     obtain ⟨r5,hr5,h⟩:=bS h
     refine oq 34 (enc_Date r5) rfl (e_callV rfl rfl (call_P rfl rfl rfl (avS (shP rfl) (avN)) (Ffe_F hr5) (.inr rfl) (bl_n) rfl rfl rfl)) ?_
     refine ck 9 [6,19,21] [] [34] [] [.hp 34 0 [] 3 0 0,I (r5.Year),I (r5.Month)] [some ⟨0,3,[enc_Date r5]⟩] 130 (by kernel_rfl) ?_
     obtain ⟨r6,hr6,h⟩:=bS h
     refine oq 146 (I (r6)) rfl (e_callV rfl rfl (call_P rfl rfl rfl (avS (shP rfl) (avS (shP rfl) (avN))) (Ffh_F hr6) (.inr rfl) (bl_n) rfl rfl rfl)) ?_
     refine ck 4 [] [] [34] [] [] [some ⟨0,3,[.agg [I (r5.Year),I (r5.Month),I (r6)]]⟩] 178 (by kernel_rfl) ?_
     refine s_draw [0,0,2,7,15] rfl (by decide +kernel) ?_
     refine dq [1] [] (encI_Calendar c_1) rfl (e_ld rfl rfl) ?_
     refine dq [34] [] (.agg [I (r5.Year),I (r5.Month),I (r6)]) rfl (e_ld rfl rfl) ?_
     obtain ⟨r7,hr7,h⟩:=bS h
     refine dq [] [] (I (r7)) rfl (e_callV rfl rfl (call_P rfl rfl rfl (avS (shP rfl) (avN)) (Ffg_F hr7) (.inr rfl) (bl_n) rfl rfl rfl)) ?_ (w_callO rfl rfl rfl rfl (avS (shP rfl) (avN)) (Ffg_F hr7) (.inr rfl) rfl)
     obtain ⟨r8,hr8,h⟩:=bS h
     refine dq [] [] (I (r8)) rfl (e_callV rfl rfl (call_P rfl rfl rfl (avS (shP rfl) (avS (shP rfl) (avS (shP rfl) (avN)))) (Ffq_F hr8) (.inr rfl) (bl_n) rfl rfl rfl)) ?_ (w_callO rfl rfl rfl rfl (avS (shP rfl) (avS (shP rfl) (avS (shP rfl) (avN)))) (Ffq_F hr8) (.inr rfl) rfl)
     refine dk 1 [7] [I (r8)] ?_
     refine de 258 rfl rfl ?_
     refine cq 6 [30] [B ((decide (r8 < 0)))] 306 ?_
     obtain ⟨y9,hy9,hy91,hy92⟩:=bJ h
     have j9 : ∀ u9,y9=.inr u9→Run Ffd_E 0 (Ffd_Q (c_1,day_2) r) (.code (cR (cL (cR (cR (cR (cR (cR Ffd_c))))))) :: .code (cR (cR (cR (cR (cR (cR Ffd_c)))))) :: []) (sT 37 [(7,I (r8)),(35,B (u9))] [] 1):=by
       intro u9 hu
       replace h:=hy92 u9 hu
       refine sq h (fun h=>?_) (fun h=>?_)
       · refine cq 5 [4,5] [I (0),B (false)] 33 ?_
         obtain rfl:=Option.some.inj h
         exact s_ret rfl ⟨_,fin (vs:=[I (0),B (false)]) rfl (absE (absorb_plain rfl) (absE (absorb_plain rfl) (absEN))) rfl (ou_f (ou_f (ou_n))),kl_n⟩
       · refine aq 1 ?_
         refine cq 6 [4,5] [I (r8),B (true)] 49 ?_
         obtain rfl:=Option.some.inj h
         exact s_ret rfl ⟨_,fin (vs:=[I (r8),B (true)]) rfl (absE (absorb_plain rfl) (absE (absorb_plain rfl) (absEN))) rfl (ou_f (ou_f (ou_n))),kl_n⟩
     have r9 : ∀ r',y9=.inl r'→∀ st,Ffd_Q (c_1,day_2) r' st→(Ffd_Q (c_1,day_2) r) st:=fun r' e st hq=>by rw [hy91 r' e] at hq; exact hq
     replace h:=hy9
     refine sp 30 h rfl (fun h=>?_) (fun h=>?_)
     · refine cq 6 [35] [B (true)] 386 ?_
       exact rf [7,35] [] (j9 _ (Option.some.inj h).symm :)
     · refine cq 2 [31,32] [I (r8),I (day_2)] 338 ?_
       obtain ⟨r10,hr10,h⟩:=bS h
       refine oy 354 (B (r10)) rfl (e_callV rfl rfl (call_P rfl rfl rfl (avS (shP rfl) (avS (shP rfl) (avN))) (Ffr_F hr10) (.inr rfl) (bl_n) rfl rfl rfl)) ?_
       refine cq 3 [35] [B ((!r10))] 386 ?_
       exact rf [7,35] [] (j9 _ (Option.some.inj h).symm :)
 have r4 : ∀ r',y4=.inl r'→∀ st,Ffd_Q (c_1,day_2) r' st→(Ffd_Q (c_1,day_2) r) st:=fun r' e st hq=>by rw [hy41 r' e] at hq; exact hq
 replace h:=hy4
 refine sp 11 h rfl (fun h=>?_) (fun h=>?_)
 · refine cq 5 [15] [B (true)] 177 ?_
   exact rf [1,2,15] [1] (j4 _ (Option.some.inj h).symm :)
 · refine cq 1 [12] [I (day_2)] 129 ?_
   obtain ⟨r11,hr11,h⟩:=bS h
   refine oy 145 (B (r11)) rfl (e_callV rfl rfl (call_P rfl rfl rfl (avS (shP rfl) (avN)) (Ffn_F hr11) (.inr rfl) (bl_n) rfl rfl rfl)) ?_
   refine cq 3 [15] [B ((!r11))] 177 ?_
   exact rf [1,2,15] [1] (j4 _ (Option.some.inj h).symm :)
theorem Ffd_good {G : Go.Ln.Ground} : Good Try.prog G 11 Ffd_ent:=good_T (fnOf_good (gl_c Ffc_good (gl_c Ffe_good (gl_c Ffh_good (gl_c Ffg_good (gl_c Ffq_good (gl_c Ffr_good (gl_c Ffn_good (gl_n))))))))) agree_mk (Checked.mixed Try.checked) Try.func11 (n:=2) (m:=0) ⟨rfl,rfl,by decide⟩ (fun _=>⟨rfl,rfl⟩) (fun a r h=>Ffd_run a.1 a.2 r h)
def Ffbq_A : ((List Int) × Int × Int)→List V:=cA (slE I) (cA I (oA I))
def Ffbq_R (r : Bool) : V × List V:=(B (r),[])
noncomputable def Ffbq_ent : Ent:=entT [false,false,false] Ffbq_A Ffbq_R fun x=>Ffbq x.1 x.2.1 x.2.2
theorem Ffbq_F {l_1 : List Int} {lo_2 : Int} {hi_3 : Int} {r} (h : Ffbq l_1 lo_2 hi_3=some r) : (Ffbq_ent).F (Ffbq_A (l_1,lo_2,hi_3))=some (Ffbq_R r):=entT_F (cA_inj (isl_inj I_inj) (cA_inj I_inj (oA_inj I_inj))) h
noncomputable def Ffbq_c : Code:=bodyOf Try.f63
noncomputable abbrev Ffbq_ka : Code:=cL (cL (cR (cL (cR Ffbq_c))))
noncomputable def Ffbq_E : Env:=mkE Try.prog [(30,spec_l1In_ent)]
def Ffbq_Q (x : (List Int) × Int × Int) (r : Bool) : St→Prop:=QF Ffbq_E Try.f63 [false,false,false] (Ffbq_A x) (Ffbq_R r)
theorem Ffbq_la_run (l_1 : List Int) (lo_2 : Int) (hi_3 : Int)  {Q : St→Prop} {K : List It} (hK : noD K=true) : ∀ (x4 : Int) (y : Bool ⊕ Unit),Ffbq_la l_1 lo_2 hi_3 x4=some y→(∀ r',y=.inl r'→∀ st,Ffbq_Q (l_1,lo_2,hi_3) r' st→Q st)→(∀ u : Unit,y=.inr u→Run Ffbq_E 0 Q K (sT 38 [] [] 1))→Run Ffbq_E 0 Q (.code Ffbq_ka :: .lp Ffbq_ka :: .blk 0 :: K) (sT 38 [(0,.isl false ((l_1).map I)),(1,I (lo_2)),(2,I (hi_3)),(7,I (x4))] [] 1):=by
 refine fix_indP (Ffbq_la_fin l_1 lo_2 hi_3) ?_
 intro self ih x4 y h hr hn
 unfold Ffbq_la_F at h
 refine cq 5 [8,9] [I (x4),.isl false ((l_1).map I)] 33 ?_
 refine oq 49 (I ((len l_1))) rfl (e_len rfl rfl rfl (l_isl rfl)) ?_
 refine cq 2 [11] [B ((decide (x4 < (len l_1))))] 65 ?_
 refine sq h (fun h=>?_) (fun h=>?_)
 · refine aq 1 ?_
   refine aq 3 ?_
   refine s_draw [0,0,3,7,0,0,63,127,255,511,1023,2047,4095,4095,12287,32767,65535,4095,4095,397311,921599,2097151,4194303,8388607] rfl (by decide +kernel) ?_
   refine dk 2 [15,14] [I (x4),.isl false ((l_1).map I)] ?_
   obtain ⟨e5,he5,h⟩:=bS h
   refine dq [] [] (.iptr (I (e5)) 0) rfl (e_indexAddr rfl rfl rfl (ix_islE rfl rfl rfl rfl he5)) ?_
   refine dq [] [] (I (e5)) rfl (e_ld rfl rfl) ?_
   refine dk 2 [19,18] [I (hi_3),I (lo_2)] ?_
   obtain ⟨r6,hr6,h⟩:=bS h
   refine dq [] [] (B (r6)) rfl (e_callV rfl rfl (call_P rfl rfl rfl (avS (shP rfl) (avS (shP rfl) (avS (shP rfl) (avN)))) (spec_l1In_F hr6) (.inr rfl) (bl_n) rfl rfl rfl)) ?_ (w_callO rfl rfl rfl rfl (avS (shP rfl) (avS (shP rfl) (avS (shP rfl) (avN)))) (spec_l1In_F hr6) (.inr rfl) rfl)
   refine dk 2 [22,21] [B ((!r6)),B ((!r6))] ?_
   obtain ⟨y7,hy7,hy71,hy72⟩:=bL h
   have j7 : ∀ u7,y7=.inr u7→Run Ffbq_E 0 Q (.code (cR (cL (cL (cR Ffbq_ka)))) :: .blk 1 :: .code (cR (cR Ffbq_ka)) :: .lp Ffbq_ka :: .blk 0 :: K) (sT 38 [(0,.isl false ((l_1).map I)),(1,I (lo_2)),(2,I (hi_3)),(7,I (x4)),(37,B (u7))] [] 1):=by
     intro u7 hu
     replace h:=hy72 u7 hu
     refine sq h (fun h=>?_) (fun h=>?_)
     · refine cq 4 [6] [B (false)] 17 ?_
       exact s_ret rfl (hr _ (Option.some.inj h).symm _ ⟨_,fin (vs:=[B (false)]) rfl (absE (absorb_plain rfl) (absEN)) rfl (ou_f (ou_f (ou_f (ou_n)))),kl_n⟩)
     · refine aq 1 ?_
       refine cq 6 [7] [I ((w64 (x4 + 1)))] 49 ?_
       refine s_lp ?_
       exact rf [0,1,2,7] [] (ih _ _ h hr hn :)
   have r7 : ∀ r',y7=.inl r'→∀ st,Ffbq_Q (l_1,lo_2,hi_3) r' st→Q st:=fun r' e st hq=>hr r' (hy71 r' e) st hq
   replace h:=hy7
   refine sp 22 h rfl (fun h=>?_) (fun h=>?_)
   · refine dk 15 [37,36,35,34,33,32,31,30,29,28,27,26,25,24,23] [B (true),.und,.und,.und,.und,.und,.und,.und,.und,.und,.und,.und,.und,.und,.und] ?_
     refine de 449 rfl rfl ?_
     exact rf [0,1,2,7,37] [] (j7 _ (Option.some.inj h).symm :)
   · refine dk 3 [25,24,23] [B ((decide (x4 > 0))),B ((decide (x4 > 0))),I (x4)] ?_
     obtain ⟨y8,hy8,hy81,hy82⟩:=bL h
     have j8 : ∀ u8,y8=.inr u8→Run Ffbq_E 0 Q (.code (cR (cL (cL (cR Ffbq_ka)))) :: .blk 1 :: .code (cR (cR Ffbq_ka)) :: .lp Ffbq_ka :: .blk 0 :: K) (sT 38 [(0,.isl false ((l_1).map I)),(1,I (lo_2)),(2,I (hi_3)),(7,I (x4)),(37,B (u8))] [] 1):=by
       intro u8 hu
       replace h:=hy82 u8 hu
       exact rf [0,1,2,7,37] [] (j7 _ (Option.some.inj h).symm :)
     have r8 : ∀ r',y8=.inl r'→∀ st,Ffbq_Q (l_1,lo_2,hi_3) r' st→Q st:=fun r' e st hq=>r7 r' (hy81 r' e) st hq
     replace h:=hy8
     refine sp 25 h rfl (fun h=>?_) (fun h=>?_)
     · refine dk 3 [28,27,26] [I ((w64 (x4 - 1))),I (x4),.isl false ((l_1).map I)] ?_
       obtain ⟨e9,he9,h⟩:=bS h
       refine dy [] [] (.iptr (I (e9)) 0) rfl (e_indexAddr rfl rfl rfl (ix_islE rfl rfl rfl rfl he9)) ?_
       refine dy [] [] (I (e9)) rfl (e_ld rfl rfl) ?_
       refine dk 2 [32,31] [I (x4),.isl false ((l_1).map I)] ?_
       obtain ⟨e10,he10,h⟩:=bS h
       refine dy [] [] (.iptr (I (e10)) 0) rfl (e_indexAddr rfl rfl rfl (ix_islE rfl rfl rfl rfl he10)) ?_
       refine dy [] [] (I (e10)) rfl (e_ld rfl rfl) ?_
       refine dk 3 [37,36,35] [B ((decide (e9 ≥ e10))),B ((decide (e9 ≥ e10))),B ((decide (e9 ≥ e10)))] ?_
       refine de 449 rfl rfl ?_
       exact rf [0,1,2,7,37] [] (j8 _ (Option.some.inj h).symm :)
     · refine dk 12 [37,36,35,34,33,32,31,30,29,28,27,26] [B (false),B (false),.und,.und,.und,.und,.und,.und,.und,.und,.und,.und] ?_
       refine de 449 rfl rfl ?_
       exact rf [0,1,2,7,37] [] (j8 _ (Option.some.inj h).symm :)
 · refine aq 1 ?_
   exact rf [] [] (hn _ (Option.some.inj h).symm :) (hk:=hK)
theorem Ffbq_run (l_1 : List Int) (lo_2 : Int) (hi_3 : Int) (r : Bool) (h : Ffbq l_1 lo_2 hi_3=some r) : RunF Ffbq_E Try.f63 [false,false,false] 0 (Ffbq_A (l_1,lo_2,hi_3)) (Ffbq_R r):=by
 show Run _ _ (Ffbq_Q (l_1,lo_2,hi_3) r) [.code Ffbq_c] _
 refine rin (n:=38) [(0,.isl false ((l_1).map I)),(1,I (lo_2)),(2,I (hi_3))] [] 1 (by kernel_rfl) (by kernel_rfl) (by kernel_rfl) rfl ?_
 unfold Ffbq at h
 refine cq 10 [7] [I (0)] 33 ?_
 obtain ⟨y11,hy11,hy111,hy112⟩:=bJ h
 refine s_loop rfl ?_
 refine rf [0,1,2,7] [] (Ffbq_la_run l_1 lo_2 hi_3 rfl 0 _ hy11 (fun r' e st hq=>by rw [hy111 r' e] at hq; exact hq) fun u11 hu=>?_)
 replace h:=hy112 u11 hu
 refine cq 4 [6] [B (true)] 17 ?_
 obtain rfl:=Option.some.inj h
 exact s_ret rfl ⟨_,fin (vs:=[B (true)]) rfl (absE (absorb_plain rfl) (absEN)) rfl (ou_f (ou_f (ou_f (ou_n)))),kl_n⟩
theorem Ffbq_good {G : Go.Ln.Ground} : Good Try.prog G 63 Ffbq_ent:=good_T (fnOf_good (gl_c spec_l1In_good (gl_n))) agree_mk (Checked.mixed Try.checked) Try.func63 (n:=3) (m:=0) ⟨rfl,rfl,by decide⟩ (fun _=>⟨rfl,rfl⟩) (fun a r h=>Ffbq_run a.1 a.2.1 a.2.2 r h)
def Ffcc_A : Calendar→List V:=oA encI_Calendar
def Ffcc_R (r : Bool) : V × List V:=(B (r),[])
noncomputable def Ffcc_ent : Ent:=entT [false] Ffcc_A Ffcc_R fun x=>Ffcc x
theorem Ffcc_F {c_1 : Calendar} {r} (h : Ffcc c_1=some r) : (Ffcc_ent).F (Ffcc_A c_1)=some (Ffcc_R r):=entT_F (oA_inj encI_Calendar_inj) h
noncomputable def Ffcc_c : Code:=bodyOf Try.f41
noncomputable def Ffcc_E : Env:=mkE Try.prog [(63,Ffbq_ent)]
def Ffcc_Q (x : Calendar) (r : Bool) : St→Prop:=QF Ffcc_E Try.f41 [false] (Ffcc_A x) (Ffcc_R r)
theorem Ffcc_run (c_1 : Calendar) (r : Bool) (h : Ffcc c_1=some r) : RunF Ffcc_E Try.f41 [false] 0 (Ffcc_A c_1) (Ffcc_R r):=by
 show Run _ _ (Ffcc_Q c_1 r) [.code Ffcc_c] _
 refine rin (n:=23) [(0,encI_Calendar c_1)] [] 1 (by kernel_rfl) (by kernel_rfl) (by kernel_rfl) rfl ?_
 unfold Ffcc at h
 refine ck 9 [1,4] [] [1] [] [.hp 1 0 [] 2 0 0,.isl false ((c_1.Weekend).map I)] [some ⟨0,2,[encI_Calendar c_1]⟩] 65 (by kernel_rfl) ?_
 refine oq 81 (I ((len c_1.Weekend))) rfl (e_len rfl rfl rfl (l_isl rfl)) ?_
 refine cq 2 [7] [B ((decide ((len c_1.Weekend) ≤ 6)))] 113 ?_
 obtain ⟨y2,hy2,hy21,hy22⟩:=bJ h
 have j2 : ∀ u2,y2=.inr u2→Run Ffcc_E 0 (Ffcc_Q c_1 r) (.code (cR (cR Ffcc_c)) :: []) (sT 23 [(2,B (u2))] [] 1):=by
   intro u2 hu
   replace h:=hy22 u2 hu
   obtain rfl:=Option.some.inj h
   exact s_ret rfl ⟨_,fin (vs:=[B (u2)]) rfl (absE (absorb_plain rfl) (absEN)) rfl (ou_f (ou_n)),kl_n⟩
 have r2 : ∀ r',y2=.inl r'→∀ st,Ffcc_Q c_1 r' st→(Ffcc_Q c_1 r) st:=fun r' e st hq=>by rw [hy21 r' e] at hq; exact hq
 replace h:=hy2
 refine sp 7 h rfl (fun h=>?_) (fun h=>?_)
 · refine cq 2 [9] [.isl false ((c_1.Weekend).map I)] 145 ?_
   obtain ⟨r3,hr3,h⟩:=bS h
   refine oy 161 (B (r3)) rfl (e_callV rfl rfl (call_P rfl rfl rfl (avS (shP rfl) (avS (shP rfl) (avS (shP rfl) (avN)))) (Ffbq_F hr3) (.inr rfl) (bl_n) rfl rfl rfl)) ?_
   refine cq 2 [12] [B (r3)] 193 ?_
   obtain ⟨y4,hy4,hy41,hy42⟩:=bL h
   have j4 : ∀ u4,y4=.inr u4→Run Ffcc_E 0 (Ffcc_Q c_1 r) (.code (cR (cR Ffcc_c)) :: []) (sT 23 [(2,B (u4))] [] 1):=by
     intro u4 hu
     replace h:=hy42 u4 hu
     exact rf [2] [] (j2 _ (Option.some.inj h).symm :)
   have r4 : ∀ r',y4=.inl r'→∀ st,Ffcc_Q c_1 r' st→(Ffcc_Q c_1 r) st:=fun r' e st hq=>r2 r' (hy41 r' e) st hq
   replace h:=hy4
   refine sp 12 h rfl (fun h=>?_) (fun h=>?_)
   · refine cq 2 [14] [.isl false ((c_1.Holidays).map I)] 225 ?_
     refine oy 241 (I ((len c_1.Holidays))) rfl (e_len rfl rfl rfl (l_isl rfl)) ?_
     refine cq 3 [18] [B ((decide ((len c_1.Holidays) ≤ 40)))] 289 ?_
     obtain ⟨y5,hy5,hy51,hy52⟩:=bL h
     have j5 : ∀ u5,y5=.inr u5→Run Ffcc_E 0 (Ffcc_Q c_1 r) (.code (cR (cR Ffcc_c)) :: []) (sT 23 [(2,B (u5))] [] 1):=by
       intro u5 hu
       replace h:=hy52 u5 hu
       exact rf [2] [] (j4 _ (Option.some.inj h).symm :)
     have r5 : ∀ r',y5=.inl r'→∀ st,Ffcc_Q c_1 r' st→(Ffcc_Q c_1 r) st:=fun r' e st hq=>r4 r' (hy51 r' e) st hq
     replace h:=hy5
     refine sp 18 h rfl (fun h=>?_) (fun h=>?_)
     · refine cq 2 [20] [.isl false ((c_1.Holidays).map I)] 321 ?_
       obtain ⟨r6,hr6,h⟩:=bS h
       refine oy 337 (B (r6)) rfl (e_callV rfl rfl (call_P rfl rfl rfl (avS (shP rfl) (avS (shP rfl) (avS (shP rfl) (avN)))) (Ffbq_F hr6) (.inr rfl) (bl_n) rfl rfl rfl)) ?_
       refine cq 3 [2] [B (r6)] 369 ?_
       exact rf [2] [] (j5 _ (Option.some.inj h).symm :)
     · refine cq 6 [2] [B (false)] 369 ?_
       exact rf [2] [] (j5 _ (Option.some.inj h).symm :)
   · refine cq 12 [2] [B (false)] 369 ?_
     exact rf [2] [] (j4 _ (Option.some.inj h).symm :)
 · refine cq 17 [2] [B (false)] 369 ?_
   exact rf [2] [] (j2 _ (Option.some.inj h).symm :)
theorem Ffcc_good {G : Go.Ln.Ground} : Good Try.prog G 41 Ffcc_ent:=good_T (fnOf_good (gl_c Ffbq_good (gl_n))) agree_mk (Checked.mixed Try.checked) Try.func41 (n:=1) (m:=0) ⟨rfl,rfl,by decide⟩ (fun _=>⟨rfl,rfl⟩) (fun a r h=>Ffcc_run a r h)
def Ffca_A : Int→List V:=oA I
def Ffca_R (r : Int) : V × List V:=(I (r),[])
noncomputable def Ffca_ent : Ent:=entT [false] Ffca_A Ffca_R fun x=>Ffca x
theorem Ffca_F {day_1 : Int} {r} (h : Ffca day_1=some r) : (Ffca_ent).F (Ffca_A day_1)=some (Ffca_R r):=entT_F (oA_inj I_inj) h
noncomputable def Ffca_c : Code:=bodyOf Try.f79
noncomputable def Ffca_E : Env:=mkE Try.prog []
def Ffca_Q (x : Int) (r : Int) : St→Prop:=QF Ffca_E Try.f79 [false] (Ffca_A x) (Ffca_R r)
theorem Ffca_run (day_1 : Int) (r : Int) (h : Ffca day_1=some r) : RunF Ffca_E Try.f79 [false] 0 (Ffca_A day_1) (Ffca_R r):=by
 show Run _ _ (Ffca_Q day_1 r) [.code Ffca_c] _
 refine rin (n:=6) [(0,I (day_1))] [] 1 (by kernel_rfl) (by kernel_rfl) (by kernel_rfl) rfl ?_
 unfold Ffca at h
 refine cq 11 [2] [I (((w64 (day_1 + 5)).tmod 7))] 81 ?_
 obtain rfl:=Option.some.inj h
 exact s_ret rfl ⟨_,fin (vs:=[I (((w64 (day_1 + 5)).tmod 7))]) rfl (absE (absorb_plain rfl) (absEN)) rfl (ou_f (ou_n)),kl_n⟩
theorem Ffca_good {G : Go.Ln.Ground} : Good Try.prog G 79 Ffca_ent:=good_T (fnOf_good (gl_n)) agree_mk (Checked.mixed Try.checked) Try.func79 (n:=1) (m:=0) ⟨rfl,rfl,by decide⟩ (fun _=>⟨rfl,rfl⟩) (fun a r h=>Ffca_run a r h)
def Ffbn_A : ((List Int) × Int)→List V:=cA (slE I) (oA I)
def Ffbn_R (r : Bool) : V × List V:=(B (r),[])
noncomputable def Ffbn_ent : Ent:=entT [false,false] Ffbn_A Ffbn_R fun x=>Ffbn x.1 x.2
theorem Ffbn_F {l_1 : List Int} {n_2 : Int} {r} (h : Ffbn l_1 n_2=some r) : (Ffbn_ent).F (Ffbn_A (l_1,n_2))=some (Ffbn_R r):=entT_F (cA_inj (isl_inj I_inj) (oA_inj I_inj)) h
noncomputable def Ffbn_c : Code:=bodyOf Try.f78
noncomputable def Ffbn_E : Env:=mkE Try.prog []
def Ffbn_Q (x : (List Int) × Int) (r : Bool) : St→Prop:=QF Ffbn_E Try.f78 [false,false] (Ffbn_A x) (Ffbn_R r)
theorem Ffbn_la_run (l_1 : List Int) (n_2 : Int)  {Q : St→Prop} {K : List It} (hK : noD K=true) : ∀ (x3 : Int) (y : Bool ⊕ Unit),Ffbn_la l_1 n_2 x3=some y→(∀ r',y=.inl r'→∀ st,Ffbn_Q (l_1,n_2) r' st→Q st)→(∀ u : Unit,y=.inr u→Run Ffbn_E 0 Q K (sT 18 [] [] 1))→Run Ffbn_E 0 Q (.code (cL (cL (cR (cL (cR Ffbn_c))))) :: .lp (cL (cL (cR (cL (cR Ffbn_c))))) :: .blk 0 :: K) (sT 18 [(0,.isl false ((l_1).map I)),(1,I (n_2)),(5,I (x3))] [] 1):=by
 refine fix_indP (Ffbn_la_fin l_1 n_2) ?_
 intro self ih x3 y h hr hn
 unfold Ffbn_la_F at h
 refine cq 5 [6,7] [I (x3),.isl false ((l_1).map I)] 33 ?_
 refine oq 49 (I ((len l_1))) rfl (e_len rfl rfl rfl (l_isl rfl)) ?_
 refine cq 2 [9] [B ((decide (x3 < (len l_1))))] 65 ?_
 refine sq h (fun h=>?_) (fun h=>?_)
 · refine aq 1 ?_
   refine cq 6 [12,13] [.isl false ((l_1).map I),I (x3)] 97 ?_
   obtain ⟨e4,he4,h⟩:=bS h
   refine oq 113 (.iptr (I (e4)) 0) rfl (e_indexAddr rfl rfl rfl (ix_islE rfl rfl rfl rfl he4)) ?_
   refine cq 4 [17] [B ((e4 == n_2))] 161 ?_
   refine sq h (fun h=>?_) (fun h=>?_)
   · refine cq 4 [4] [B (true)] 177 ?_
     exact s_ret rfl (hr _ (Option.some.inj h).symm _ ⟨_,fin (vs:=[B (true)]) rfl (absE (absorb_plain rfl) (absEN)) rfl (ou_f (ou_f (ou_n))),kl_n⟩)
   · refine aq 1 ?_
     refine cq 6 [5] [I ((w64 (x3 + 1)))] 209 ?_
     refine s_lp ?_
     exact rf [0,1,5] [] (ih _ _ h hr hn :)
 · refine aq 1 ?_
   exact rf [] [] (hn _ (Option.some.inj h).symm :) (hk:=hK)
theorem Ffbn_run (l_1 : List Int) (n_2 : Int) (r : Bool) (h : Ffbn l_1 n_2=some r) : RunF Ffbn_E Try.f78 [false,false] 0 (Ffbn_A (l_1,n_2)) (Ffbn_R r):=by
 show Run _ _ (Ffbn_Q (l_1,n_2) r) [.code Ffbn_c] _
 refine rin (n:=18) [(0,.isl false ((l_1).map I)),(1,I (n_2))] [] 1 (by kernel_rfl) (by kernel_rfl) (by kernel_rfl) rfl ?_
 unfold Ffbn at h
 refine cq 10 [5] [I (0)] 33 ?_
 obtain ⟨y5,hy5,hy51,hy52⟩:=bJ h
 refine s_loop rfl ?_
 refine rf [0,1,5] [] (Ffbn_la_run l_1 n_2 rfl 0 _ hy5 (fun r' e st hq=>by rw [hy51 r' e] at hq; exact hq) fun u5 hu=>?_)
 replace h:=hy52 u5 hu
 refine cq 4 [4] [B (false)] 17 ?_
 obtain rfl:=Option.some.inj h
 exact s_ret rfl ⟨_,fin (vs:=[B (false)]) rfl (absE (absorb_plain rfl) (absEN)) rfl (ou_f (ou_f (ou_n))),kl_n⟩
theorem Ffbn_good {G : Go.Ln.Ground} : Good Try.prog G 78 Ffbn_ent:=good_T (fnOf_good (gl_n)) agree_mk (Checked.mixed Try.checked) Try.func78 (n:=2) (m:=0) ⟨rfl,rfl,by decide⟩ (fun _=>⟨rfl,rfl⟩) (fun a r h=>Ffbn_run a.1 a.2 r h)
def Ffcd_A : (Calendar × Int)→List V:=cA encI_Calendar (oA I)
def Ffcd_R (r : Bool) : V × List V:=(B (r),[])
noncomputable def Ffcd_ent : Ent:=entT [false,false] Ffcd_A Ffcd_R fun x=>Ffcd x.1 x.2
theorem Ffcd_F {c_1 : Calendar} {day_2 : Int} {r} (h : Ffcd c_1 day_2=some r) : (Ffcd_ent).F (Ffcd_A (c_1,day_2))=some (Ffcd_R r):=entT_F (cA_inj encI_Calendar_inj (oA_inj I_inj)) h
noncomputable def Ffcd_c : Code:=bodyOf Try.f64
noncomputable def Ffcd_E : Env:=mkE Try.prog [(79,Ffca_ent),(78,Ffbn_ent)]
def Ffcd_Q (x : Calendar × Int) (r : Bool) : St→Prop:=QF Ffcd_E Try.f64 [false,false] (Ffcd_A x) (Ffcd_R r)
theorem Ffcd_run (c_1 : Calendar) (day_2 : Int) (r : Bool) (h : Ffcd c_1 day_2=some r) : RunF Ffcd_E Try.f64 [false,false] 0 (Ffcd_A (c_1,day_2)) (Ffcd_R r):=by
 show Run _ _ (Ffcd_Q (c_1,day_2) r) [.code Ffcd_c] _
 refine rin (n:=18) [(0,encI_Calendar c_1),(1,I (day_2))] [] 1 (by kernel_rfl) (by kernel_rfl) (by kernel_rfl) rfl ?_
 unfold Ffcd at h
 refine ck 6 [2] [] [1] [] [.hp 1 0 [] 2 0 0] [some ⟨0,2,[encI_Calendar c_1]⟩] 33 (by kernel_rfl) ?_
 refine s_draw [0,1,0,4,15,31,63,127,255,127,1023,2047,4095,8191] rfl (by decide +kernel) ?_
 refine dq [1] [] (.hp 1 0 [] 2 0 0) rfl (e_fieldAddr rfl rfl rfl) ?_
 refine dq [1] [] (.isl false ((c_1.Weekend).map I)) rfl (e_ld rfl rfl) ?_
 refine dk 1 [7] [I (day_2)] ?_
 obtain ⟨r3,hr3,h⟩:=bS h
 refine dq [] [] (I (r3)) rfl (e_callV rfl rfl (call_P rfl rfl rfl (avS (shP rfl) (avN)) (Ffca_F hr3) (.inr rfl) (bl_n) rfl rfl rfl)) ?_ (w_callO rfl rfl rfl rfl (avS (shP rfl) (avN)) (Ffca_F hr3) (.inr rfl) rfl)
 obtain ⟨r4,hr4,h⟩:=bS h
 refine dq [] [] (B (r4)) rfl (e_callV rfl rfl (call_P rfl rfl rfl (avS (shP rfl) (avS (shP rfl) (avN))) (Ffbn_F hr4) (.inr rfl) (bl_n) rfl rfl rfl)) ?_ (w_callO rfl rfl rfl rfl (avS (shP rfl) (avS (shP rfl) (avN))) (Ffbn_F hr4) (.inr rfl) rfl)
 refine dk 2 [11,10] [B ((!r4)),B ((!r4))] ?_
 obtain ⟨y5,hy5,hy51,hy52⟩:=bJ h
 have j5 : ∀ u5,y5=.inr u5→Run Ffcd_E 0 (Ffcd_Q (c_1,day_2) r) (.code (cR (cR Ffcd_c)) :: []) (sT 18 [(4,B (u5))] [] 1):=by
   intro u5 hu
   replace h:=hy52 u5 hu
   obtain rfl:=Option.some.inj h
   exact s_ret rfl ⟨_,fin (vs:=[B (u5)]) rfl (absE (absorb_plain rfl) (absEN)) rfl (ou_f (ou_f (ou_n))),kl_n⟩
 have r5 : ∀ r',y5=.inl r'→∀ st,Ffcd_Q (c_1,day_2) r' st→(Ffcd_Q (c_1,day_2) r) st:=fun r' e st hq=>by rw [hy51 r' e] at hq; exact hq
 replace h:=hy5
 refine sp 11 h rfl (fun h=>?_) (fun h=>?_)
 · refine dy [1] [] (.hp 1 0 [] 2 0 1) rfl (e_fieldAddr rfl rfl rfl) ?_
   refine dy [1] [] (.isl false ((c_1.Holidays).map I)) rfl (e_ld rfl rfl) ?_
   refine dk 1 [14] [I (day_2)] ?_
   obtain ⟨r6,hr6,h⟩:=bS h
   refine dy [] [] (B (r6)) rfl (e_callV rfl rfl (call_P rfl rfl rfl (avS (shP rfl) (avS (shP rfl) (avN))) (Ffbn_F hr6) (.inr rfl) (bl_n) rfl rfl rfl)) ?_ (w_callO rfl rfl rfl rfl (avS (shP rfl) (avS (shP rfl) (avN))) (Ffbn_F hr6) (.inr rfl) rfl)
   refine dk 3 [4,17,16] [B ((!r6)),B ((!r6)),B ((!r6))] ?_
   refine de 257 rfl rfl ?_
   exact rf [4] [] (j5 _ (Option.some.inj h).symm :)
 · refine dk 7 [4,17,16,15,14,13,12] [B (false),B (false),.und,.und,.und,.und,.und] ?_
   refine de 257 rfl rfl ?_
   exact rf [4] [] (j5 _ (Option.some.inj h).symm :)
theorem Ffcd_good {G : Go.Ln.Ground} : Good Try.prog G 64 Ffcd_ent:=good_T (fnOf_good (gl_c Ffca_good (gl_c Ffbn_good (gl_n)))) agree_mk (Checked.mixed Try.checked) Try.func64 (n:=2) (m:=0) ⟨rfl,rfl,by decide⟩ (fun _=>⟨rfl,rfl⟩) (fun a r h=>Ffcd_run a.1 a.2 r h)
def Ffcf_A : (Calendar × Int × Int)→List V:=cA encI_Calendar (cA I (oA I))
def Ffcf_R (r : Int) : V × List V:=(I (r),[])
noncomputable def Ffcf_ent : Ent:=entT [false,false,false] Ffcf_A Ffcf_R fun x=>Ffcf x.1 x.2.1 x.2.2
theorem Ffcf_F {c_1 : Calendar} {day_2 : Int} {step_3 : Int} {r} (h : Ffcf c_1 day_2 step_3=some r) : (Ffcf_ent).F (Ffcf_A (c_1,day_2,step_3))=some (Ffcf_R r):=entT_F (cA_inj encI_Calendar_inj (cA_inj I_inj (oA_inj I_inj))) h
noncomputable def Ffcf_c : Code:=bodyOf Try.f44
noncomputable def Ffcf_E : Env:=mkE Try.prog [(29,Ffby_ent),(64,Ffcd_ent)]
def Ffcf_Q (x : Calendar × Int × Int) (r : Int) : St→Prop:=QF Ffcf_E Try.f44 [false,false,false] (Ffcf_A x) (Ffcf_R r)
theorem Ffcf_la_run (c_1 : Calendar) (day_2 : Int) (step_3 : Int)  {Q : St→Prop} {K : List It} (hK : noD K=true) : ∀ (x4 : Int) (y : Int ⊕ Unit),Ffcf_la c_1 day_2 step_3 x4=some y→(∀ r',y=.inl r'→∀ st,Ffcf_Q (c_1,day_2,step_3) r' st→Q st)→(∀ u : Unit,y=.inr u→Run Ffcf_E 0 Q K (sT 16 [] [] 1))→Run Ffcf_E 0 Q (.code (cL (cL (cL (cR Ffcf_c)))) :: .lp (cL (cL (cL (cR Ffcf_c)))) :: .blk 0 :: K) (sT 16 [(1,I (x4)),(2,I (step_3)),(3,.hp 1 0 [] 2 0 0)] [⟨0,2,[encI_Calendar c_1]⟩] 2):=by
 refine fix_indP (Ffcf_la_fin c_1 day_2 step_3) ?_
 intro self ih x4 y h hr hn
 unfold Ffcf_la_F at h
 refine cq 4 [7] [I (x4)] 18 ?_
 obtain ⟨r5,hr5,h⟩:=bS h
 refine oq 34 (B (r5)) rfl (e_callV rfl rfl (call_P rfl rfl rfl (avS (shP rfl) (avN)) (Ffby_F hr5) (.inr rfl) (bl_n) rfl rfl rfl)) ?_
 refine aq 1 ?_
 refine sq h (fun h=>?_) (fun h=>?_)
 · refine aq 1 ?_
   refine cq 6 [9,10] [encI_Calendar c_1,I (x4)] 66 ?_
   obtain ⟨r6,hr6,h⟩:=bS h
   refine oq 82 (B (r6)) rfl (e_callV rfl rfl (call_P rfl rfl rfl (avS (shP rfl) (avS (shP rfl) (avN))) (Ffcd_F hr6) (.inr rfl) (bl_n) rfl rfl rfl)) ?_
   refine aq 1 ?_
   refine sq h (fun h=>?_) (fun h=>?_)
   · refine cq 5 [6] [I (x4)] 114 ?_
     exact s_ret rfl (hr _ (Option.some.inj h).symm _ ⟨_,fin (vs:=[I (x4)]) rfl (absE (absorb_plain rfl) (absEN)) rfl (ou_f (ou_f (ou_f (ou_n)))),kl_n⟩)
   · refine aq 1 ?_
     refine cq 7 [1] [I ((w64 (x4 + step_3)))] 146 ?_
     refine s_lp ?_
     exact rf [1,2,3] [1] (ih _ _ h hr hn :)
 · refine aq 1 ?_
   exact rf [] [] (hn _ (Option.some.inj h).symm :) (hk:=hK)
theorem Ffcf_run (c_1 : Calendar) (day_2 : Int) (step_3 : Int) (r : Int) (h : Ffcf c_1 day_2 step_3=some r) : RunF Ffcf_E Try.f44 [false,false,false] 0 (Ffcf_A (c_1,day_2,step_3)) (Ffcf_R r):=by
 show Run _ _ (Ffcf_Q (c_1,day_2,step_3) r) [.code Ffcf_c] _
 refine rin (n:=16) [(0,encI_Calendar c_1),(1,I (day_2)),(2,I (step_3))] [] 1 (by kernel_rfl) (by kernel_rfl) (by kernel_rfl) rfl ?_
 unfold Ffcf at h
 refine ck 7 [3] [] [1] [] [.hp 1 0 [] 2 0 0] [some ⟨0,2,[encI_Calendar c_1]⟩] 33 (by kernel_rfl) ?_
 obtain ⟨y7,hy7,hy71,hy72⟩:=bJ h
 refine s_loop rfl ?_
 refine rf [1,2,3] [1] (Ffcf_la_run c_1 day_2 step_3 rfl day_2 _ hy7 (fun r' e st hq=>by rw [hy71 r' e] at hq; exact hq) fun u7 hu=>?_)
 replace h:=hy72 u7 hu
 refine cq 4 [6] [I ((-1))] 17 ?_
 obtain rfl:=Option.some.inj h
 exact s_ret rfl ⟨_,fin (vs:=[I ((-1))]) rfl (absE (absorb_plain rfl) (absEN)) rfl (ou_f (ou_f (ou_f (ou_n)))),kl_n⟩
theorem Ffcf_good {G : Go.Ln.Ground} : Good Try.prog G 44 Ffcf_ent:=good_T (fnOf_good (gl_c Ffby_good (gl_c Ffcd_good (gl_n)))) agree_mk (Checked.mixed Try.checked) Try.func44 (n:=3) (m:=0) ⟨rfl,rfl,by decide⟩ (fun _=>⟨rfl,rfl⟩) (fun a r h=>Ffcf_run a.1 a.2.1 a.2.2 r h)
def Ffce_A : (Int × Int)→List V:=cA I (oA I)
def Ffce_R (r : Bool) : V × List V:=(B (r),[])
noncomputable def Ffce_ent : Ent:=entT [false,false] Ffce_A Ffce_R fun x=>Ffce x.1 x.2
theorem Ffce_F {a_1 : Int} {b_2 : Int} {r} (h : Ffce a_1 b_2=some r) : (Ffce_ent).F (Ffce_A (a_1,b_2))=some (Ffce_R r):=entT_F (cA_inj I_inj (oA_inj I_inj)) h
noncomputable def Ffce_c : Code:=bodyOf Try.f46
noncomputable def Ffce_E : Env:=mkE Try.prog [(42,Ffbw_ent)]
def Ffce_Q (x : Int × Int) (r : Bool) : St→Prop:=QF Ffce_E Try.f46 [false,false] (Ffce_A x) (Ffce_R r)
theorem Ffce_run (a_1 : Int) (b_2 : Int) (r : Bool) (h : Ffce a_1 b_2=some r) : RunF Ffce_E Try.f46 [false,false] 0 (Ffce_A (a_1,b_2)) (Ffce_R r):=by
 show Run _ _ (Ffce_Q (a_1,b_2) r) [.code Ffce_c] _
 refine rin (n:=23) [(0,I (a_1)),(1,I (b_2))] [] 1 (by kernel_rfl) (by kernel_rfl) (by kernel_rfl) rfl ?_
 unfold Ffce at h
 refine cq 7 [7] [I (a_1)] 33 ?_
 obtain ⟨r3,hr3,h⟩:=bS h
 refine oq 49 (enc_Date r3) rfl (e_callV rfl rfl (call_P rfl rfl rfl (avS (shP rfl) (avN)) (Ffbw_F hr3) (.inr rfl) (bl_n) rfl rfl rfl)) ?_
 refine cq 1 [9] [I (b_2)] 65 ?_
 obtain ⟨r4,hr4,h⟩:=bS h
 refine oq 81 (enc_Date r4) rfl (e_callV rfl rfl (call_P rfl rfl rfl (avS (shP rfl) (avN)) (Ffbw_F hr4) (.inr rfl) (bl_n) rfl rfl rfl)) ?_
 refine ck 13 [5,6,16] [] [81,97] [] [.hp 81 0 [] 3 0 0,.hp 97 0 [] 3 0 0,B ((r3.Year == r4.Year))] [some ⟨0,3,[enc_Date r3]⟩,some ⟨0,3,[enc_Date r4]⟩] 241 (by kernel_rfl) ?_
 obtain ⟨u5,hu5,h⟩:=lJ h
 have j5 : Run Ffce_E 0 (Ffce_Q (a_1,b_2) r) (.code (cR (cR (cR Ffce_c))) :: []) (sT 23 [(4,B (u5))] [] 1):=by
   obtain rfl:=Option.some.inj h
   exact s_ret rfl ⟨_,fin (vs:=[B (u5)]) rfl (absE (absorb_plain rfl) (absEN)) rfl (ou_f (ou_f (ou_n))),kl_n⟩
 replace h:=hu5
 clear hu5
 refine sp 16 h rfl (fun h=>?_) (fun h=>?_)
 · refine cq 8 [4] [B ((r3.Month == r4.Month))] 353 ?_
   subst h
   exact rf [4] [] (j5 :)
 · refine cq 8 [4] [B (false)] 353 ?_
   subst h
   exact rf [4] [] (j5 :)
theorem Ffce_good {G : Go.Ln.Ground} : Good Try.prog G 46 Ffce_ent:=good_T (fnOf_good (gl_c Ffbw_good (gl_n))) agree_mk (Checked.mixed Try.checked) Try.func46 (n:=2) (m:=0) ⟨rfl,rfl,by decide⟩ (fun _=>⟨rfl,rfl⟩) (fun a r h=>Ffce_run a.1 a.2 r h)
def Ffbc_A : (Calendar × Int)→List V:=cA encI_Calendar (oA I)
def Ffbc_R (r : Int × Bool) : V × List V:=(.tup [I (r.1),B (r.2)],[])
noncomputable def Ffbc_ent : Ent:=entT [false,false] Ffbc_A Ffbc_R fun x=>Ffbc x.1 x.2
theorem Ffbc_F {c_1 : Calendar} {day_2 : Int} {r} (h : Ffbc c_1 day_2=some r) : (Ffbc_ent).F (Ffbc_A (c_1,day_2))=some (Ffbc_R r):=entT_F (cA_inj encI_Calendar_inj (oA_inj I_inj)) h
noncomputable def Ffbc_c : Code:=bodyOf Try.f12
noncomputable def Ffbc_E : Env:=mkE Try.prog [(41,Ffcc_ent),(42,Ffbw_ent),(43,Ffbz_ent),(45,Ffbx_ent),(44,Ffcf_ent),(46,Ffce_ent),(29,Ffby_ent)]
def Ffbc_Q (x : Calendar × Int) (r : Int × Bool) : St→Prop:=QF Ffbc_E Try.f12 [false,false] (Ffbc_A x) (Ffbc_R r)
theorem Ffbc_run (c_1 : Calendar) (day_2 : Int) (r : Int × Bool) (h : Ffbc c_1 day_2=some r) : RunF Ffbc_E Try.f12 [false,false] 0 (Ffbc_A (c_1,day_2)) (Ffbc_R r):=by
 show Run _ _ (Ffbc_Q (c_1,day_2) r) [.code Ffbc_c] _
 refine rin (n:=37) [(0,encI_Calendar c_1),(1,I (day_2))] [] 1 (by kernel_rfl) (by kernel_rfl) (by kernel_rfl) rfl ?_
 unfold Ffbc at h
 refine ck 10 [2,8] [] [1] [] [.hp 1 0 [] 2 0 0,encI_Calendar c_1] [some ⟨0,2,[encI_Calendar c_1]⟩] 65 (by kernel_rfl) ?_
 obtain ⟨r3,hr3,h⟩:=bS h
 refine oq 81 (B (r3)) rfl (e_callV rfl rfl (call_P rfl rfl rfl (avS (shP rfl) (avN)) (Ffcc_F hr3) (.inr rfl) (bl_n) rfl rfl rfl)) ?_
 refine cq 2 [11] [B ((!r3))] 113 ?_
 obtain ⟨y4,hy4,hy41,hy42⟩:=bJ h
 have j4 : ∀ u4,y4=.inr u4→Run Ffbc_E 0 (Ffbc_Q (c_1,day_2) r) (.code (cR (cL (cR Ffbc_c))) :: .code (cR (cR Ffbc_c)) :: []) (sT 37 [(1,I (day_2)),(2,.hp 1 0 [] 2 0 0),(15,B (u4))] [⟨0,2,[encI_Calendar c_1]⟩] 2):=by
   intro u4 hu
   replace h:=hy42 u4 hu
   refine sq h (fun h=>?_) (fun h=>?_)
   · refine cq 5 [4,5] [I (0),B (false)] 34 ?_
     obtain rfl:=Option.some.inj h
     exact s_ret rfl ⟨_,fin (vs:=[I (0),B (false)]) rfl (absE (absorb_plain rfl) (absE (absorb_plain rfl) (absEN))) rfl (ou_f (ou_f (ou_n))),kl_n⟩
   · refine aq 1 ?_
     refine cq 3 [16] [I (day_2)] 18 ?_
     obtain ⟨r5,hr5,h⟩:=bS h
     refine oq 34 (enc_Date r5) rfl (e_callV rfl rfl (call_P rfl rfl rfl (avS (shP rfl) (avN)) (Ffbw_F hr5) (.inr rfl) (bl_n) rfl rfl rfl)) ?_
     refine ck 9 [6,19,21] [] [34] [] [.hp 34 0 [] 3 0 0,I (r5.Year),I (r5.Month)] [some ⟨0,3,[enc_Date r5]⟩] 130 (by kernel_rfl) ?_
     obtain ⟨r6,hr6,h⟩:=bS h
     refine oq 146 (I (r6)) rfl (e_callV rfl rfl (call_P rfl rfl rfl (avS (shP rfl) (avS (shP rfl) (avN))) (Ffbz_F hr6) (.inr rfl) (bl_n) rfl rfl rfl)) ?_
     refine ck 4 [] [] [34] [] [] [some ⟨0,3,[.agg [I (r5.Year),I (r5.Month),I (r6)]]⟩] 178 (by kernel_rfl) ?_
     refine s_draw [0,0,2,7,15] rfl (by decide +kernel) ?_
     refine dq [1] [] (encI_Calendar c_1) rfl (e_ld rfl rfl) ?_
     refine dq [34] [] (.agg [I (r5.Year),I (r5.Month),I (r6)]) rfl (e_ld rfl rfl) ?_
     obtain ⟨r7,hr7,h⟩:=bS h
     refine dq [] [] (I (r7)) rfl (e_callV rfl rfl (call_P rfl rfl rfl (avS (shP rfl) (avN)) (Ffbx_F hr7) (.inr rfl) (bl_n) rfl rfl rfl)) ?_ (w_callO rfl rfl rfl rfl (avS (shP rfl) (avN)) (Ffbx_F hr7) (.inr rfl) rfl)
     obtain ⟨r8,hr8,h⟩:=bS h
     refine dq [] [] (I (r8)) rfl (e_callV rfl rfl (call_P rfl rfl rfl (avS (shP rfl) (avS (shP rfl) (avS (shP rfl) (avN)))) (Ffcf_F hr8) (.inr rfl) (bl_n) rfl rfl rfl)) ?_ (w_callO rfl rfl rfl rfl (avS (shP rfl) (avS (shP rfl) (avS (shP rfl) (avN)))) (Ffcf_F hr8) (.inr rfl) rfl)
     refine dk 1 [7] [I (r8)] ?_
     refine de 258 rfl rfl ?_
     refine cq 6 [30] [B ((decide (r8 < 0)))] 306 ?_
     obtain ⟨y9,hy9,hy91,hy92⟩:=bJ h
     have j9 : ∀ u9,y9=.inr u9→Run Ffbc_E 0 (Ffbc_Q (c_1,day_2) r) (.code (cR (cL (cR (cR (cR (cR (cR Ffbc_c))))))) :: .code (cR (cR (cR (cR (cR (cR Ffbc_c)))))) :: []) (sT 37 [(7,I (r8)),(35,B (u9))] [] 1):=by
       intro u9 hu
       replace h:=hy92 u9 hu
       refine sq h (fun h=>?_) (fun h=>?_)
       · refine cq 5 [4,5] [I (0),B (false)] 33 ?_
         obtain rfl:=Option.some.inj h
         exact s_ret rfl ⟨_,fin (vs:=[I (0),B (false)]) rfl (absE (absorb_plain rfl) (absE (absorb_plain rfl) (absEN))) rfl (ou_f (ou_f (ou_n))),kl_n⟩
       · refine aq 1 ?_
         refine cq 6 [4,5] [I (r8),B (true)] 49 ?_
         obtain rfl:=Option.some.inj h
         exact s_ret rfl ⟨_,fin (vs:=[I (r8),B (true)]) rfl (absE (absorb_plain rfl) (absE (absorb_plain rfl) (absEN))) rfl (ou_f (ou_f (ou_n))),kl_n⟩
     have r9 : ∀ r',y9=.inl r'→∀ st,Ffbc_Q (c_1,day_2) r' st→(Ffbc_Q (c_1,day_2) r) st:=fun r' e st hq=>by rw [hy91 r' e] at hq; exact hq
     replace h:=hy9
     refine sp 30 h rfl (fun h=>?_) (fun h=>?_)
     · refine cq 6 [35] [B (true)] 386 ?_
       exact rf [7,35] [] (j9 _ (Option.some.inj h).symm :)
     · refine cq 2 [31,32] [I (r8),I (day_2)] 338 ?_
       obtain ⟨r10,hr10,h⟩:=bS h
       refine oy 354 (B (r10)) rfl (e_callV rfl rfl (call_P rfl rfl rfl (avS (shP rfl) (avS (shP rfl) (avN))) (Ffce_F hr10) (.inr rfl) (bl_n) rfl rfl rfl)) ?_
       refine cq 3 [35] [B ((!r10))] 386 ?_
       exact rf [7,35] [] (j9 _ (Option.some.inj h).symm :)
 have r4 : ∀ r',y4=.inl r'→∀ st,Ffbc_Q (c_1,day_2) r' st→(Ffbc_Q (c_1,day_2) r) st:=fun r' e st hq=>by rw [hy41 r' e] at hq; exact hq
 replace h:=hy4
 refine sp 11 h rfl (fun h=>?_) (fun h=>?_)
 · refine cq 5 [15] [B (true)] 177 ?_
   exact rf [1,2,15] [1] (j4 _ (Option.some.inj h).symm :)
 · refine cq 1 [12] [I (day_2)] 129 ?_
   obtain ⟨r11,hr11,h⟩:=bS h
   refine oy 145 (B (r11)) rfl (e_callV rfl rfl (call_P rfl rfl rfl (avS (shP rfl) (avN)) (Ffby_F hr11) (.inr rfl) (bl_n) rfl rfl rfl)) ?_
   refine cq 3 [15] [B ((!r11))] 177 ?_
   exact rf [1,2,15] [1] (j4 _ (Option.some.inj h).symm :)
theorem Ffbc_good {G : Go.Ln.Ground} : Good Try.prog G 12 Ffbc_ent:=good_T (fnOf_good (gl_c Ffcc_good (gl_c Ffbw_good (gl_c Ffbz_good (gl_c Ffbx_good (gl_c Ffcf_good (gl_c Ffce_good (gl_c Ffby_good (gl_n))))))))) agree_mk (Checked.mixed Try.checked) Try.func12 (n:=2) (m:=0) ⟨rfl,rfl,by decide⟩ (fun _=>⟨rfl,rfl⟩) (fun a r h=>Ffbc_run a.1 a.2 r h)
def Ffa_A : (Calendar × Int × Int)→List V:=cA encI_Calendar (cA I (oA I))
def Ffa_R (r : Int × Bool) : V × List V:=(.tup [I (r.1),B (r.2)],[])
noncomputable def Ffa_ent : Ent:=entT [false,false,false] Ffa_A Ffa_R fun x=>Ffa x.1 x.2.1 x.2.2
theorem Ffa_F {c_1 : Calendar} {day_2 : Int} {n_3 : Int} {r} (h : Ffa c_1 day_2 n_3=some r) : (Ffa_ent).F (Ffa_A (c_1,day_2,n_3))=some (Ffa_R r):=entT_F (cA_inj encI_Calendar_inj (cA_inj I_inj (oA_inj I_inj))) h
noncomputable def Ffa_c : Code:=bodyOf Try.f13
noncomputable def Ffa_E : Env:=mkE Try.prog [(35,Ffc_ent),(47,impl_size_ent),(38,Ffq_ent),(26,Ffn_ent),(27,Fft_ent)]
def Ffa_Q (x : Calendar × Int × Int) (r : Int × Bool) : St→Prop:=QF Ffa_E Try.f13 [false,false,false] (Ffa_A x) (Ffa_R r)
theorem Ffa_la_run (c_1 : Calendar) (day_2 : Int) (n_3 : Int) (r7 : Int) (u6 : Int) {Q : St→Prop} {K : List It} (hK : noD K=true) : ∀ (x8 : Int × Int) (y : (Int × Bool) ⊕ Int),Ffa_la c_1 day_2 n_3 r7 u6 x8=some y→(∀ r',y=.inl r'→∀ st,Ffa_Q (c_1,day_2,n_3) r' st→Q st)→(∀ u : Int,y=.inr u→Run Ffa_E 0 Q K (sT 38 [(1,I (u))] [] 1))→Run Ffa_E 0 Q (.code (cL (cL (cR (cL (cR (cR (cR (cR Ffa_c)))))))) :: .lp (cL (cL (cR (cL (cR (cR (cR (cR Ffa_c)))))))) :: .blk 0 :: K) (sT 38 [(1,I (x8.1)),(3,.hp 1 0 [] 2 0 0),(8,I (u6)),(25,I (r7)),(26,I (x8.2))] [⟨0,2,[encI_Calendar c_1]⟩] 2):=by
 refine fix_indP (Ffa_la_fin c_1 day_2 n_3 r7 u6) ?_
 intro self ih x8 y h hr hn
 unfold Ffa_la_F at h
 refine cq 5 [27] [B ((decide (x8.2 < r7)))] 18 ?_
 refine sq h (fun h=>?_) (fun h=>?_)
 · refine aq 1 ?_
   refine cq 9 [28,31,32] [encI_Calendar c_1,I ((w64 (x8.1 + u6))),I (u6)] 98 ?_
   obtain ⟨r9,hr9,h⟩:=bS h
   refine oq 114 (I (r9)) rfl (e_callV rfl rfl (call_P rfl rfl rfl (avS (shP rfl) (avS (shP rfl) (avS (shP rfl) (avN)))) (Ffq_F hr9) (.inr rfl) (bl_n) rfl rfl rfl)) ?_
   refine cq 7 [1,35] [I (r9),B ((decide (r9 < 0)))] 162 ?_
   refine sq h (fun h=>?_) (fun h=>?_)
   · refine cq 5 [6,7] [I (0),B (false)] 194 ?_
     exact s_ret rfl (hr _ (Option.some.inj h).symm _ ⟨_,fin (vs:=[I (0),B (false)]) rfl (absE (absorb_plain rfl) (absE (absorb_plain rfl) (absEN))) rfl (ou_f (ou_f (ou_f (ou_n)))),kl_n⟩)
   · refine aq 1 ?_
     refine cq 5 [26] [I ((w64 (x8.2 + 1)))] 194 ?_
     refine s_lp ?_
     exact rf [1,3,8,25,26] [1] (ih _ _ h hr hn :)
 · refine aq 1 ?_
   exact rf [1] [] (hn _ (Option.some.inj h).symm :) (hk:=hK)
theorem Ffa_run (c_1 : Calendar) (day_2 : Int) (n_3 : Int) (r : Int × Bool) (h : Ffa c_1 day_2 n_3=some r) : RunF Ffa_E Try.f13 [false,false,false] 0 (Ffa_A (c_1,day_2,n_3)) (Ffa_R r):=by
 show Run _ _ (Ffa_Q (c_1,day_2,n_3) r) [.code Ffa_c] _
 refine rin (n:=38) [(0,encI_Calendar c_1),(1,I (day_2)),(2,I (n_3))] [] 1 (by kernel_rfl) (by kernel_rfl) (by kernel_rfl) rfl ?_
 unfold Ffa at h
 refine ck 10 [3,9] [] [1] [] [.hp 1 0 [] 2 0 0,encI_Calendar c_1] [some ⟨0,2,[encI_Calendar c_1]⟩] 65 (by kernel_rfl) ?_
 obtain ⟨r4,hr4,h⟩:=bS h
 refine oq 81 (B (r4)) rfl (e_callV rfl rfl (call_P rfl rfl rfl (avS (shP rfl) (avN)) (Ffc_F hr4) (.inr rfl) (bl_n) rfl rfl rfl)) ?_
 refine cq 2 [12] [B ((!r4))] 113 ?_
 obtain ⟨y5,hy5,hy51,hy52⟩:=bJ h
 have j5 : ∀ u5,y5=.inr u5→Run Ffa_E 0 (Ffa_Q (c_1,day_2,n_3) r) (.code (cR (cL (cR Ffa_c))) :: .code (cR (cR Ffa_c)) :: []) (sT 38 [(1,I (day_2)),(2,I (n_3)),(3,.hp 1 0 [] 2 0 0),(21,B (u5))] [⟨0,2,[encI_Calendar c_1]⟩] 2):=by
   intro u5 hu
   replace h:=hy52 u5 hu
   refine sq h (fun h=>?_) (fun h=>?_)
   · refine cq 5 [6,7] [I (0),B (false)] 34 ?_
     obtain rfl:=Option.some.inj h
     exact s_ret rfl ⟨_,fin (vs:=[I (0),B (false)]) rfl (absE (absorb_plain rfl) (absE (absorb_plain rfl) (absEN))) rfl (ou_f (ou_f (ou_f (ou_n)))),kl_n⟩
   · refine aq 1 ?_
     refine cq 10 [8,23] [I (1),B ((decide (n_3 < 0)))] 50 ?_
     obtain ⟨u6,hu6,h⟩:=lJ h
     have j6 : Run Ffa_E 0 (Ffa_Q (c_1,day_2,n_3) r) (.code (cR (cR (cR (cR Ffa_c)))) :: []) (sT 38 [(1,I (day_2)),(2,I (n_3)),(3,.hp 1 0 [] 2 0 0),(8,I (u6))] [⟨0,2,[encI_Calendar c_1]⟩] 2):=by
       refine cq 4 [24] [I (n_3)] 18 ?_
       obtain ⟨r7,hr7,h⟩:=bS h
       refine oq 34 (I (r7)) rfl (e_callV rfl rfl (call_P rfl rfl rfl (avS (shP rfl) (avN)) (impl_size_F hr7) (.inr rfl) (bl_n) rfl rfl rfl)) ?_
       refine cq 3 [26] [I (0)] 50 ?_
       obtain ⟨y10,hy10,hy101,hy102⟩:=bJ h
       refine s_loop rfl ?_
       refine rf [1,3,8,25,26] [1] (Ffa_la_run c_1 day_2 n_3 r7 u6 rfl (day_2,0) _ hy10 (fun r' e st hq=>by rw [hy101 r' e] at hq; exact hq) fun u10 hu=>?_)
       replace h:=hy102 u10 hu
       refine cq 6 [6,7] [I (u10),B (true)] 49 ?_
       obtain rfl:=Option.some.inj h
       exact s_ret rfl ⟨_,fin (vs:=[I (u10),B (true)]) rfl (absE (absorb_plain rfl) (absE (absorb_plain rfl) (absEN))) rfl (ou_f (ou_f (ou_f (ou_n)))),kl_n⟩
     replace h:=hu6
     clear hu6
     refine scp h rfl rfl (fun h=>?_) (fun h=>?_)
     · refine cq 3 [8] [I ((-1))] 66 ?_
       subst h
       exact rf [1,2,3,8] [1] (j6 :)
     · refine aq 1 ?_
       subst h
       exact rf [1,2,3,8] [1] (j6 :)
 have r5 : ∀ r',y5=.inl r'→∀ st,Ffa_Q (c_1,day_2,n_3) r' st→(Ffa_Q (c_1,day_2,n_3) r) st:=fun r' e st hq=>by rw [hy51 r' e] at hq; exact hq
 replace h:=hy5
 refine sp 12 h rfl (fun h=>?_) (fun h=>?_)
 · refine cq 10 [21] [B (true)] 257 ?_
   exact rf [1,2,3,21] [1] (j5 _ (Option.some.inj h).symm :)
 · refine cq 1 [13] [I (day_2)] 129 ?_
   obtain ⟨r11,hr11,h⟩:=bS h
   refine oy 145 (B (r11)) rfl (e_callV rfl rfl (call_P rfl rfl rfl (avS (shP rfl) (avN)) (Ffn_F hr11) (.inr rfl) (bl_n) rfl rfl rfl)) ?_
   refine cq 3 [17] [B ((!r11))] 193 ?_
   obtain ⟨y12,hy12,hy121,hy122⟩:=bL h
   have j12 : ∀ u12,y12=.inr u12→Run Ffa_E 0 (Ffa_Q (c_1,day_2,n_3) r) (.code (cR (cL (cR Ffa_c))) :: .code (cR (cR Ffa_c)) :: []) (sT 38 [(1,I (day_2)),(2,I (n_3)),(3,.hp 1 0 [] 2 0 0),(21,B (u12))] [⟨0,2,[encI_Calendar c_1]⟩] 2):=by
     intro u12 hu
     replace h:=hy122 u12 hu
     exact rf [1,2,3,21] [1] (j5 _ (Option.some.inj h).symm :)
   have r12 : ∀ r',y12=.inl r'→∀ st,Ffa_Q (c_1,day_2,n_3) r' st→(Ffa_Q (c_1,day_2,n_3) r) st:=fun r' e st hq=>r5 r' (hy121 r' e) st hq
   replace h:=hy12
   refine sp 17 h rfl (fun h=>?_) (fun h=>?_)
   · refine cq 5 [21] [B (true)] 257 ?_
     exact rf [1,2,3,21] [1] (j12 _ (Option.some.inj h).symm :)
   · refine cq 1 [18] [I (n_3)] 209 ?_
     obtain ⟨r13,hr13,h⟩:=bS h
     refine oy 225 (B (r13)) rfl (e_callV rfl rfl (call_P rfl rfl rfl (avS (shP rfl) (avS (shP rfl) (avS (shP rfl) (avN)))) (Fft_F hr13) (.inr rfl) (bl_n) rfl rfl rfl)) ?_
     refine cq 3 [21] [B ((!r13))] 257 ?_
     exact rf [1,2,3,21] [1] (j12 _ (Option.some.inj h).symm :)
theorem Ffa_good {G : Go.Ln.Ground} : Good Try.prog G 13 Ffa_ent:=good_T (fnOf_good (gl_c Ffc_good (gl_c impl_size_good (gl_c Ffq_good (gl_c Ffn_good (gl_c Fft_good (gl_n))))))) agree_mk (Checked.mixed Try.checked) Try.func13 (n:=3) (m:=0) ⟨rfl,rfl,by decide⟩ (fun _=>⟨rfl,rfl⟩) (fun a r h=>Ffa_run a.1 a.2.1 a.2.2 r h)
def Ffx_A : Int→List V:=oA I
def Ffx_R (r : Date × Bool) : V × List V:=(.tup [enc_Date r.1,B (r.2)],[])
noncomputable def Ffx_ent : Ent:=entT [false] Ffx_A Ffx_R fun x=>Ffx x
theorem Ffx_F {day_1 : Int} {r} (h : Ffx day_1=some r) : (Ffx_ent).F (Ffx_A day_1)=some (Ffx_R r):=entT_F (oA_inj I_inj) h
noncomputable def Ffx_c : Code:=bodyOf Try.f14
noncomputable def Ffx_E : Env:=mkE Try.prog [(29,Ffby_ent),(42,Ffbw_ent)]
def Ffx_Q (x : Int) (r : Date × Bool) : St→Prop:=QF Ffx_E Try.f14 [false] (Ffx_A x) (Ffx_R r)
theorem Ffx_run (day_1 : Int) (r : Date × Bool) (h : Ffx day_1=some r) : RunF Ffx_E Try.f14 [false] 0 (Ffx_A day_1) (Ffx_R r):=by
 show Run _ _ (Ffx_Q day_1 r) [.code Ffx_c] _
 refine rin (n:=10) [(0,I (day_1))] [] 1 (by kernel_rfl) (by kernel_rfl) (by kernel_rfl) rfl ?_
 unfold Ffx at h
 refine ck 9 [2,4] [] [1] [] [.hp 1 0 [] 3 0 0,I (day_1)] [some ⟨0,3,[.agg [I (0),I (0),I (0)]]⟩] 49 (by kernel_rfl) ?_
 obtain ⟨r2,hr2,h⟩:=bS h
 refine oq 65 (B (r2)) rfl (e_callV rfl rfl (call_P rfl rfl rfl (avS (shP rfl) (avN)) (Ffby_F hr2) (.inr rfl) (bl_n) rfl rfl rfl)) ?_
 refine cq 2 [6] [B ((!r2))] 81 ?_
 refine sq h (fun h=>?_) (fun h=>?_)
 · refine ck 6 [3] [] [1] [] [B (false)] [some ⟨0,3,[.agg [I (0),I (0),I (0)]]⟩] 129 (by kernel_rfl) ?_
   obtain rfl:=Option.some.inj h
   exact s_ret rfl ⟨_,fin (vs:=[.agg [I (0),I (0),I (0)],B (false)]) (rs_c (rs_cell rfl rfl rfl) (rs_c (rfl) (rs_n))) (absE (absorb_plain rfl) (absE (absorb_plain rfl) (absEN))) rfl (ou_f (ou_n)),kl_n⟩
 · refine aq 1 ?_
   refine cq 3 [8] [I (day_1)] 97 ?_
   obtain ⟨r3,hr3,h⟩:=bS h
   refine oq 113 (enc_Date r3) rfl (e_callV rfl rfl (call_P rfl rfl rfl (avS (shP rfl) (avN)) (Ffbw_F hr3) (.inr rfl) (bl_n) rfl rfl rfl)) ?_
   refine ck 3 [3] [] [1] [] [B (true)] [some ⟨0,3,[enc_Date r3]⟩] 145 (by kernel_rfl) ?_
   obtain rfl:=Option.some.inj h
   exact s_ret rfl ⟨_,fin (vs:=[enc_Date r3,B (true)]) (rs_c (rs_cell rfl rfl rfl) (rs_c (rfl) (rs_n))) (absE (absorb_plain rfl) (absE (absorb_plain rfl) (absEN))) rfl (ou_f (ou_n)),kl_n⟩
theorem Ffx_good {G : Go.Ln.Ground} : Good Try.prog G 14 Ffx_ent:=good_T (fnOf_good (gl_c Ffby_good (gl_c Ffbw_good (gl_n)))) agree_mk (Checked.mixed Try.checked) Try.func14 (n:=1) (m:=0) ⟨rfl,rfl,by decide⟩ (fun _=>⟨rfl,rfl⟩) (fun a r h=>Ffx_run a r h)
def laws_FnDayCounts_A : ((List Int))→List V:=oA (slE (V.int .u8))
def laws_FnDayCounts_R (r : Bool) : V × List V:=(B (r),[])
noncomputable def laws_FnDayCounts_ent : Ent:=entT [false] laws_FnDayCounts_A laws_FnDayCounts_R fun x=>laws_FnDayCounts x
theorem laws_FnDayCounts_F {code_1 : List Int} {r} (h : laws_FnDayCounts code_1=some r) : (laws_FnDayCounts_ent).F (laws_FnDayCounts_A code_1)=some (laws_FnDayCounts_R r):=entT_F (oA_inj (isl_inj (vint_inj (k:=.u8)))) h
noncomputable def laws_FnDayCounts_c : Code:=bodyOf Try.f3
noncomputable abbrev laws_FnDayCounts_ka : Code:=cR (cR (cR (cR (cR (cR laws_FnDayCounts_c)))))
noncomputable abbrev laws_FnDayCounts_kb : Code:=cR (cR (cR (cR laws_FnDayCounts_ka)))
noncomputable abbrev laws_FnDayCounts_kc : Code:=cR (cL (cR (cR (cR laws_FnDayCounts_ka))))
noncomputable abbrev laws_FnDayCounts_kd : Code:=cR (cR (cR (cR (cR (cL (cR (cL (cR (cR (cR (cR (cR laws_FnDayCounts_c))))))))))))
noncomputable abbrev laws_FnDayCounts_ke : Code:=cR (cR (cR (cR laws_FnDayCounts_kb)))
noncomputable def laws_FnDayCounts_E : Env:=mkE Try.prog [(5,laws_vBig_ent),(6,Ffz_ent),(7,Ffb_ent),(8,Ffy_ent),(10,Ffbb_ent),(11,Ffd_ent),(12,Ffbc_ent),(13,Ffa_ent),(14,Ffx_ent),(9,Ffw_ent)] [27]
def laws_FnDayCounts_Q (x : (List Int)) (r : Bool) : St→Prop:=QF laws_FnDayCounts_E Try.f3 [false] (laws_FnDayCounts_A x) (laws_FnDayCounts_R r)
theorem laws_FnDayCounts_run (code_1 : List Int) (r : Bool) (h : laws_FnDayCounts code_1=some r) : RunF laws_FnDayCounts_E Try.f3 [false] 0 (laws_FnDayCounts_A code_1) (laws_FnDayCounts_R r):=by
 show Run _ _ (laws_FnDayCounts_Q code_1 r) [.code laws_FnDayCounts_c] _
 refine rin (n:=173) [(0,.isl false ((code_1).map (V.int .u8)))] [] 1 (by kernel_rfl) (by kernel_rfl) (by kernel_rfl) rfl ?_
 unfold laws_FnDayCounts at h
 refine cq 8 [29] [.isl false ((code_1).map (V.int .u8))] 33 ?_
 obtain ⟨r2,hr2,h⟩:=bS h
 refine oq 49 (B (r2)) rfl (e_callV rfl rfl (call_P rfl rfl rfl (avS (shP rfl) (avN)) (laws_vBig_F hr2) (.inr rfl) (bl_n) rfl rfl rfl)) ?_
 refine aq 1 ?_
 refine sq h (fun h=>?_) (fun h=>?_)
 · refine cq 4 [2] [B (true)] 65 ?_
   obtain rfl:=Option.some.inj h
   exact s_ret rfl ⟨_,fin (vs:=[B (true)]) rfl (absE (absorb_plain rfl) (absEN)) rfl (ou_f (ou_n)),kl_n⟩
 · refine aq 1 ?_
   refine cq 3 [32] [.isl false ((code_1).map (V.int .u8))] 65 ?_
   obtain ⟨r3,hr3,h⟩:=bS h
   refine oq 81 (.tup [I (r3.1),I (r3.2.1),I (r3.2.2)]) rfl (e_callV rfl rfl (call_P rfl rfl rfl (avS (shP rfl) (avN)) (Ffz_F hr3) (.inr rfl) (bl_n) rfl rfl rfl)) ?_
   refine cq 13 [3,4,5,38,39,40] [I (r3.1),I (r3.2.1),I (r3.2.2),I (r3.1),I (r3.2.1),I (r3.2.2)] 241 ?_
   obtain ⟨r4,hr4,h⟩:=bS h
   refine oq 257 (.tup [enc_Fraction r4.1,B (r4.2)]) rfl (e_callV rfl rfl (call_P rfl rfl rfl (avS (shP rfl) (avS (shP rfl) (avS (shP rfl) (avN)))) (Ffb_F hr4) (.inr rfl) (bl_n) rfl rfl rfl)) ?_
   refine ck 13 [6,7,45,46,47] [] [305] [] [.hp 305 0 [] 2 0 0,B (r4.2),I (r3.1),I (r3.2.1),I (r3.2.2)] [some ⟨0,2,[enc_Fraction r4.1]⟩] 401 (by kernel_rfl) ?_
   obtain ⟨r5,hr5,h⟩:=bS h
   refine oq 417 (.tup [enc_Fraction r5.1,B (r5.2)]) rfl (e_callV rfl rfl (call_P rfl rfl rfl (avS (shP rfl) (avS (shP rfl) (avS (shP rfl) (avN)))) (Ffy_F hr5) (.inr rfl) (bl_n) rfl rfl rfl)) ?_
   refine cq 11 [9,51,52] [B (r5.2),enc_Fraction r4.1,enc_Fraction r5.1] 545 ?_
   refine oq 561 (B ((!(r4.1.Num == r5.1.Num && (r4.1.Den == r5.1.Den && true))))) rfl (e_bin rfl rfl (b_agne (b:=(r4.1.Num == r5.1.Num && (r4.1.Den == r5.1.Den && true))) rfl rfl rfl rfl)) ?_
   refine cq 1 [54] [B ((!(r4.1.Num == r5.1.Num && (r4.1.Den == r5.1.Den && true))))] 577 ?_
   obtain ⟨u6,hu6,h⟩:=lJ h
   have j6 : Run laws_FnDayCounts_E 0 (laws_FnDayCounts_Q code_1 r) (.code (cR (cR (cL (cR (cR (cR (cR laws_FnDayCounts_c))))))) :: .code (cR (cR (cR (cR (cR laws_FnDayCounts_c))))) :: []) (sT 173 [(0,.isl false ((code_1).map (V.int .u8))),(3,I (r3.1)),(4,I (r3.2.1)),(5,I (r3.2.2)),(6,.hp 1 0 [] 2 0 0),(7,B (r4.2)),(58,B (u6))] [⟨0,2,[enc_Fraction r4.1]⟩] 2):=by
     refine sq h (fun h=>?_) (fun h=>?_)
     · refine cq 4 [2] [B (false)] 18 ?_
       obtain rfl:=Option.some.inj h
       exact s_ret rfl ⟨_,fin (vs:=[B (false)]) rfl (absE (absorb_plain rfl) (absEN)) rfl (ou_f (ou_n)),kl_n⟩
     · refine aq 1 ?_
       refine cq 5 [60] [B (r4.2)] 34 ?_
       obtain ⟨u7,hu7,h⟩:=lJ h
       have j7 : Run laws_FnDayCounts_E 0 (laws_FnDayCounts_Q code_1 r) (.code (cR (cL (cR (cR (cR (cR (cR laws_FnDayCounts_c))))))) :: .code laws_FnDayCounts_ka :: []) (sT 173 [(0,.isl false ((code_1).map (V.int .u8))),(3,I (r3.1)),(4,I (r3.2.1)),(5,I (r3.2.2)),(6,.hp 1 0 [] 2 0 0),(63,B (u7))] [⟨0,2,[enc_Fraction r4.1]⟩] 2):=by
         obtain ⟨y8,hy8,hy81,hy82⟩:=bJ h
         have j8 : ∀ u8,y8=.inr u8→Run laws_FnDayCounts_E 0 (laws_FnDayCounts_Q code_1 r) (.code laws_FnDayCounts_ka :: []) (sT 173 [(0,.isl false ((code_1).map (V.int .u8)))] [] 1):=by
           intro u8 hu
           replace h:=hy82 u8 hu
           refine cq 3 [105] [.isl false ((code_1).map (V.int .u8))] 17 ?_
           obtain ⟨r9,hr9,h⟩:=bS h
           refine oq 33 (.tup [.agg [.hs 17 0 [] 1 0 ((r9.1.Weekend).map I).length,.hs 18 0 [] 1 0 ((r9.1.Holidays).map I).length],I (r9.2)]) rfl (e_callV rfl rfl (call_P rfl rfl rfl (avS (shP rfl) (avN)) (Ffbb_F hr9) (.inr rfl) (bl_n) rfl rfl rfl)) ?_
           refine ck 4 [17,107,108] [] [81] [] [.hp 81 0 [] 2 0 0,.agg [.hs 17 0 [] 1 0 ((r9.1.Weekend).map I).length,.hs 18 0 [] 1 0 ((r9.1.Holidays).map I).length],I (r9.2)] [some ⟨0,2,[.agg [.isl true [],.isl true []]]⟩] 97 (by kernel_rfl) ?_
           refine run_row 81 [.agg [.usl 1 (([]).map I),.usl 1 (([]).map I)]] rfl rfl (cvs_c (cv_agg (cvs_c (.nil _) (cvs_c (.nil _) (cvs_n)))) cvs_n) ?_
           refine o0 113 rfl rfl (e_st rfl rfl (st_at (path:=[]) (pl:=false) (e':=encO_Calendar r9.1) (es2':=[encO_Calendar r9.1]) rfl (absA (absC (abs_hs rfl rfl) (absC (abs_hs rfl rfl) (absN)))) rfl rfl rfl (ra_n) rfl rfl rfl rfl rfl (sr_n) 2 rfl)) ?_
           refine cq 6 [18,110,111] [I (r9.2),.agg [.hs 81 2 [(0,0)] 1 0 ((r9.1.Weekend).map I).length,.hs 81 2 [(0,1)] 1 0 ((r9.1.Holidays).map I).length],I (r9.2)] 161 ?_
           obtain ⟨r10,hr10,h⟩:=bS h
           refine oq 177 (.tup [I (r10.1),B (r10.2)]) rfl (e_callV rfl rfl (call_P rfl rfl rfl (avS (shA (shC (sh_at (path:=[(0,0)]) rfl rfl (ra_c rfl rfl (ra_n)) rfl (imms_of (f:=I) I_imm)) (shC (sh_at (path:=[(0,1)]) rfl rfl (ra_c rfl rfl (ra_n)) rfl (imms_of (f:=I) I_imm)) (shN)))) (avS (shP rfl) (avN))) (Ffd_F hr10) (.inl (rfl)) (bl_n) rfl rfl rfl)) ?_
           refine cq 10 [19,20,116,117] [I (r10.1),B (r10.2),.agg [.hs 81 2 [(0,0)] 1 0 ((r9.1.Weekend).map I).length,.hs 81 2 [(0,1)] 1 0 ((r9.1.Holidays).map I).length],I (r9.2)] 289 ?_
           obtain ⟨r11,hr11,h⟩:=bS h
           refine oq 305 (.tup [I (r11.1),B (r11.2)]) rfl (e_callV rfl rfl (call_P rfl rfl rfl (avS (shA (shC (sh_at (path:=[(0,0)]) rfl rfl (ra_c rfl rfl (ra_n)) rfl (imms_of (f:=I) I_imm)) (shC (sh_at (path:=[(0,1)]) rfl rfl (ra_c rfl rfl (ra_n)) rfl (imms_of (f:=I) I_imm)) (shN)))) (avS (shP rfl) (avN))) (Ffbc_F hr11) (.inl (rfl)) (bl_n) rfl rfl rfl)) ?_
           refine cq 13 [21,22,124] [I (r11.1),B (r11.2),B ((r10.1 != r11.1))] 449 ?_
           obtain ⟨u12,hu12,h⟩:=lJ h
           have j12 : Run laws_FnDayCounts_E 0 (laws_FnDayCounts_Q code_1 r) (.code laws_FnDayCounts_kc :: .code laws_FnDayCounts_kb :: []) (sT 173 [(17,.hp 1 0 [] 2 0 0),(19,I (r10.1)),(20,B (r10.2)),(21,I (r11.1)),(22,B (r11.2)),(132,B (u12))] [⟨0,2,[encO_Calendar r9.1]⟩] 2):=by
             refine sq h (fun h=>?_) (fun h=>?_)
             · refine cq 6 [136] [B ((r10.1 == r11.1))] 66 ?_
               obtain ⟨u13,hu13,h⟩:=lJ h
               have j13 : Run laws_FnDayCounts_E 0 (laws_FnDayCounts_Q code_1 r) (.code (cR (cL laws_FnDayCounts_kc)) :: .code laws_FnDayCounts_kb :: []) (sT 173 [(2,B (u13))] [] 1):=by
                 obtain rfl:=Option.some.inj h
                 exact s_ret rfl ⟨_,fin (vs:=[B (u13)]) rfl (absE (absorb_plain rfl) (absEN)) rfl (ou_f (ou_n)),kl_n⟩
               replace h:=hu13
               clear hu13
               refine sp 136 h rfl (fun h=>?_) (fun h=>?_)
               · refine cq 6 [2] [B ((r10.2 == r11.2))] 146 ?_
                 subst h
                 exact rf [2] [] (j13 :)
               · refine cq 6 [2] [B (false)] 146 ?_
                 subst h
                 exact rf [2] [] (j13 :)
             · refine aq 1 ?_
               refine cq 4 [142,143] [.agg [.hs 1 0 [(0,0)] 1 0 ((r9.1.Weekend).map I).length,.hs 1 0 [(0,1)] 1 0 ((r9.1.Holidays).map I).length],I (r10.1)] 34 ?_
               obtain ⟨r14,hr14,h⟩:=bS h
               refine oq 50 (.tup [I (r14.1),B (r14.2)]) rfl (e_callV rfl rfl (call_P rfl rfl rfl (avS (shA (shC (sh_at (path:=[(0,0)]) rfl rfl (ra_c rfl rfl (ra_n)) rfl (imms_of (f:=I) I_imm)) (shC (sh_at (path:=[(0,1)]) rfl rfl (ra_c rfl rfl (ra_n)) rfl (imms_of (f:=I) I_imm)) (shN)))) (avS (shP rfl) (avS (shP rfl) (avN)))) (Ffa_F hr14) (.inl (rfl)) (bl_n) rfl rfl rfl)) ?_
               refine cq 9 [23,24,148] [I (r14.1),B (r14.2),I (r10.1)] 146 ?_
               obtain ⟨r15,hr15,h⟩:=bS h
               refine oq 162 (.tup [enc_Date r15.1,B (r15.2)]) rfl (e_callV rfl rfl (call_P rfl rfl rfl (avS (shP rfl) (avN)) (Ffx_F hr15) (.inr rfl) (bl_n) rfl rfl rfl)) ?_
               refine ck 10 [25,153] [] [210] [] [.hp 210 0 [] 3 0 0,I (r14.1)] [some ⟨0,3,[enc_Date r15.1]⟩] 274 (by kernel_rfl) ?_
               obtain ⟨r16,hr16,h⟩:=bS h
               refine oq 290 (.tup [enc_Date r16.1,B (r16.2)]) rfl (e_callV rfl rfl (call_P rfl rfl rfl (avS (shP rfl) (avN)) (Ffx_F hr16) (.inr rfl) (bl_n) rfl rfl rfl)) ?_
               refine ck 12 [27,159] [] [338] [] [.hp 338 0 [] 3 0 0,B ((!r14.2))] [some ⟨0,3,[enc_Date r16.1]⟩] 434 (by kernel_rfl) ?_
               obtain ⟨u17,hu17,h⟩:=lJ h
               have j17 : Run laws_FnDayCounts_E 0 (laws_FnDayCounts_Q code_1 r) (.code laws_FnDayCounts_ke :: []) (sT 173 [(2,B (u17))] [] 1):=by
                 obtain rfl:=Option.some.inj h
                 exact s_ret rfl ⟨_,fin (vs:=[B (u17)]) rfl (absE (absorb_plain rfl) (absEN)) rfl (ou_f (ou_n)),kl_n⟩
               replace h:=hu17
               clear hu17
               refine sp 159 h rfl (fun h=>?_) (fun h=>?_)
               · refine cq 15 [2] [B (true)] 658 ?_
                 subst h
                 exact rf [2] [] (j17 :)
               · refine cq 7 [166] [B ((r15.1.Month != r16.1.Month))] 546 ?_
                 obtain ⟨u18,hu18,h⟩:=lJ h
                 have j18 : Run laws_FnDayCounts_E 0 (laws_FnDayCounts_Q code_1 r) (.code laws_FnDayCounts_ke :: []) (sT 173 [(2,B (u18))] [] 1):=by
                   subst h
                   exact rf [2] [] (j17 :)
                 replace h:=hu18
                 clear hu18
                 refine sp 166 h rfl (fun h=>?_) (fun h=>?_)
                 · refine cq 8 [2] [B (true)] 658 ?_
                   subst h
                   exact rf [2] [] (j18 :)
                 · refine cq 8 [2] [B ((r15.1.Year != r16.1.Year))] 658 ?_
                   subst h
                   exact rf [2] [] (j18 :)
           replace h:=hu12
           clear hu12
           refine sp 124 h rfl (fun h=>?_) (fun h=>?_)
           · refine cq 9 [132] [B (true)] 577 ?_
             subst h
             exact rf [17,19,20,21,22,132] [81] (j12 :)
           · refine cq 5 [129] [B ((!(r10.2 == r11.2)))] 529 ?_
             obtain ⟨u19,hu19,h⟩:=lJ h
             have j19 : Run laws_FnDayCounts_E 0 (laws_FnDayCounts_Q code_1 r) (.code laws_FnDayCounts_kc :: .code laws_FnDayCounts_kb :: []) (sT 173 [(17,.hp 1 0 [] 2 0 0),(19,I (r10.1)),(20,B (r10.2)),(21,I (r11.1)),(22,B (r11.2)),(132,B (u19))] [⟨0,2,[encO_Calendar r9.1]⟩] 2):=by
               subst h
               exact rf [17,19,20,21,22,132] [1] (j12 :)
             replace h:=hu19
             clear hu19
             refine sp 129 h rfl (fun h=>?_) (fun h=>?_)
             · refine cq 4 [132] [B (true)] 577 ?_
               subst h
               exact rf [17,19,20,21,22,132] [81] (j19 :)
             · refine cq 4 [132] [B ((!r10.2))] 577 ?_
               subst h
               exact rf [17,19,20,21,22,132] [81] (j19 :)
         have r8 : ∀ r',y8=.inl r'→∀ st,laws_FnDayCounts_Q code_1 r' st→(laws_FnDayCounts_Q code_1 r) st:=fun r' e st hq=>by rw [hy81 r' e] at hq; exact hq
         replace h:=hy8
         refine sq h (fun h=>?_) (fun h=>?_)
         · refine cq 15 [10,71,72,73] [I ((w64 (r3.1 + (w64 ((w64 (r3.2.1 - r3.1)).tdiv 2))))),I (r3.1),I ((w64 (r3.1 + (w64 ((w64 (r3.2.1 - r3.1)).tdiv 2))))),I (r3.2.2)] 162 ?_
           obtain ⟨r20,hr20,h⟩:=bS h
           refine oq 178 (.tup [enc_Fraction r20.1,B (r20.2)]) rfl (e_callV rfl rfl (call_P rfl rfl rfl (avS (shP rfl) (avS (shP rfl) (avS (shP rfl) (avN)))) (Ffb_F hr20) (.inr rfl) (bl_n) rfl rfl rfl)) ?_
           refine ck 12 [11,12,78,79,80] [] [226] [] [.hp 226 0 [] 2 0 0,B (r20.2),I ((w64 (r3.1 + (w64 ((w64 (r3.2.1 - r3.1)).tdiv 2))))),I (r3.2.1),I (r3.2.2)] [some ⟨0,2,[enc_Fraction r20.1]⟩] 322 (by kernel_rfl) ?_
           obtain ⟨r21,hr21,h⟩:=bS h
           refine oq 338 (.tup [enc_Fraction r21.1,B (r21.2)]) rfl (e_callV rfl rfl (call_P rfl rfl rfl (avS (shP rfl) (avS (shP rfl) (avS (shP rfl) (avN)))) (Ffb_F hr21) (.inr rfl) (bl_n) rfl rfl rfl)) ?_
           refine cq 11 [14,85,86] [B (r21.2),enc_Fraction r20.1,enc_Fraction r21.1] 466 ?_
           obtain ⟨r22,hr22,h⟩:=bS h
           refine oq 482 (.tup [enc_Fraction r22.1,B (r22.2)]) rfl (e_callV rfl rfl (call_P rfl rfl rfl (avS (shP rfl) (avS (shP rfl) (avN))) (Ffw_F hr22) (.inr rfl) (bl_n) rfl rfl rfl)) ?_
           refine ck 12 [15,16,92] [] [530] [] [.hp 530 0 [] 2 0 0,B (r22.2),B ((!r20.2))] [some ⟨0,2,[enc_Fraction r22.1]⟩] 626 (by kernel_rfl) ?_
           obtain ⟨u23,hu23,h⟩:=lJ h
           have j23 : Run laws_FnDayCounts_E 0 (laws_FnDayCounts_Q code_1 r) (.code laws_FnDayCounts_kd :: .code laws_FnDayCounts_ka :: []) (sT 173 [(0,.isl false ((code_1).map (V.int .u8))),(103,B (u23))] [] 1):=by
             refine sq h (fun h=>?_) (fun h=>?_)
             · refine cq 4 [2] [B (false)] 17 ?_
               exact s_ret rfl (r8 _ (Option.some.inj h).symm _ ⟨_,fin (vs:=[B (false)]) rfl (absE (absorb_plain rfl) (absEN)) rfl (ou_f (ou_n)),kl_n⟩)
             · refine aq 1 ?_
               exact rf [0] [] (j8 _ (Option.some.inj h).symm :)
           replace h:=hu23
           clear hu23
           refine sp 92 h rfl (fun h=>?_) (fun h=>?_)
           · refine cq 12 [103] [B (true)] 802 ?_
             subst h
             exact rf [0,103] [] (j23 :)
           · refine cq 4 [96] [B ((!r21.2))] 690 ?_
             obtain ⟨u24,hu24,h⟩:=lJ h
             have j24 : Run laws_FnDayCounts_E 0 (laws_FnDayCounts_Q code_1 r) (.code laws_FnDayCounts_kd :: .code laws_FnDayCounts_ka :: []) (sT 173 [(0,.isl false ((code_1).map (V.int .u8))),(103,B (u24))] [] 1):=by
               subst h
               exact rf [0,103] [] (j23 :)
             replace h:=hu24
             clear hu24
             refine sp 96 h rfl (fun h=>?_) (fun h=>?_)
             · refine cq 8 [103] [B (true)] 802 ?_
               subst h
               exact rf [0,103] [] (j24 :)
             · refine cq 2 [98] [B (r22.2)] 722 ?_
               obtain ⟨u25,hu25,h⟩:=lJ h
               have j25 : Run laws_FnDayCounts_E 0 (laws_FnDayCounts_Q code_1 r) (.code laws_FnDayCounts_kd :: .code laws_FnDayCounts_ka :: []) (sT 173 [(0,.isl false ((code_1).map (V.int .u8))),(103,B (u25))] [] 1):=by
                 subst h
                 exact rf [0,103] [] (j24 :)
               replace h:=hu25
               clear hu25
               refine sp 98 h rfl (fun h=>?_) (fun h=>?_)
               · refine cq 2 [99,100] [enc_Fraction r22.1,enc_Fraction r4.1] 754 ?_
                 refine oy 770 (B ((!(r22.1.Num == r4.1.Num && (r22.1.Den == r4.1.Den && true))))) rfl (e_bin rfl rfl (b_agne (b:=(r22.1.Num == r4.1.Num && (r22.1.Den == r4.1.Den && true))) rfl rfl rfl rfl)) ?_
                 refine cq 3 [103] [B ((!(r22.1.Num == r4.1.Num && (r22.1.Den == r4.1.Den && true))))] 802 ?_
                 subst h
                 exact rf [0,103] [] (j25 :)
               · refine cq 6 [103] [B (false)] 802 ?_
                 subst h
                 exact rf [0,103] [] (j25 :)
         · refine aq 1 ?_
           exact rf [0] [] (j8 _ (Option.some.inj h).symm :)
       replace h:=hu7
       clear hu7
       refine sp 60 h rfl (fun h=>?_) (fun h=>?_)
       · refine cq 4 [63] [B ((r3.2.2 != 3))] 82 ?_
         subst h
         exact rf [0,3,4,5,6,63] [1] (j7 :)
       · refine cq 4 [63] [B (false)] 82 ?_
         subst h
         exact rf [0,3,4,5,6,63] [1] (j7 :)
   replace h:=hu6
   clear hu6
   refine sp 54 h rfl (fun h=>?_) (fun h=>?_)
   · refine cq 5 [58] [B (true)] 641 ?_
     subst h
     exact rf [0,3,4,5,6,7,58] [305] (j6 :)
   · refine cq 5 [58] [B ((!(r4.2 == r5.2)))] 641 ?_
     subst h
     exact rf [0,3,4,5,6,7,58] [305] (j6 :)
theorem laws_FnDayCounts_good {G : Go.Ln.Ground} : Good Try.prog G 3 laws_FnDayCounts_ent := good_T (fnOf_good (gl_c laws_vBig_good (gl_c Ffz_good (gl_c Ffb_good (gl_c Ffy_good (gl_c Ffbb_good (gl_c Ffd_good (gl_c Ffbc_good (gl_c Ffa_good (gl_c Ffx_good (gl_c Ffw_good (gl_n)))))))))))) (agree_mkq (by
    intro t ht
    simp only [List.mem_cons, List.not_mem_nil, or_false] at ht
    rcases ht with rfl
    all_goals kernel_rfl)) (Checked.mixed Try.checked) Try.func3 (n := 1) (m := 0) ⟨rfl, rfl, by decide⟩ (fun _ => ⟨rfl, rfl⟩) (fun a r h => laws_FnDayCounts_run a r h)
end Go.Ln
