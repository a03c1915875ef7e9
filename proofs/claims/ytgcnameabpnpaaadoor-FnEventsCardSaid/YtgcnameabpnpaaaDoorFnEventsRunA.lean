/-
  Each function of the program computes its plain function.
-/
import Derived.Test.YtgcnameabpnpaaaDoorFnEventsFun
import Derived.Test.YtgcnameabpnpaaaDoorChecked
set_option maxHeartbeats 4000000
set_option linter.unusedVariables false
set_option linter.unusedSimpArgs false
set_option maxRecDepth 100000
namespace Go.Ln
open Go Go.Proofs
def laws_vBig_A : ((List Int))→List V:=oA (slE (V.int .u8))
def laws_vBig_R (r : Bool) : V × List V:=(B (r),[])
noncomputable def laws_vBig_ent : Ent:=entT [false] laws_vBig_A laws_vBig_R fun x=>laws_vBig x
theorem laws_vBig_F {code_1 : List Int} {r} (h : laws_vBig code_1=some r) : (laws_vBig_ent).F (laws_vBig_A code_1)=some (laws_vBig_R r):=entT_F (oA_inj (isl_inj (vint_inj (k:=.u8)))) h
noncomputable def laws_vBig_c : Code:=bodyOf Tryd.f44
noncomputable def laws_vBig_E : Env:=mkE Tryd.prog []
def laws_vBig_Q (x : (List Int)) (r : Bool) : St→Prop:=QF laws_vBig_E Tryd.f44 [false] (laws_vBig_A x) (laws_vBig_R r)
theorem laws_vBig_run (code_1 : List Int) (r : Bool) (h : laws_vBig code_1=some r) : RunF laws_vBig_E Tryd.f44 [false] 0 (laws_vBig_A code_1) (laws_vBig_R r):=by
 show Run _ _ (laws_vBig_Q code_1 r) [.code laws_vBig_c] _
 refine rin (n:=6) [(0,.isl false ((code_1).map (V.int .u8)))] [] 1 (by kernel_rfl) (by kernel_rfl) (by kernel_rfl) rfl ?_
 unfold laws_vBig at h
 refine cq 7 [3] [.isl false ((code_1).map (V.int .u8))] 33 ?_
 refine oq 49 (I ((len code_1))) rfl (e_len rfl rfl rfl (l_isl rfl)) ?_
 refine cq 3 [2] [B ((decide ((len code_1) > 65536)))] 81 ?_
 obtain rfl:=Option.some.inj h
 exact s_ret rfl ⟨_,fin (vs:=[B ((decide ((len code_1) > 65536)))]) rfl (absE (absorb_plain rfl) (absEN)) rfl (ou_f (ou_n)),kl_n⟩
theorem laws_vBig_good {G : Go.Ln.Ground} : Good Tryd.prog G 44 laws_vBig_ent:=good_T (fnOf_good (gl_n)) agree_mk (Checked.mixed Tryd.checked) Tryd.func44 (n:=1) (m:=0) ⟨rfl,rfl,by decide⟩ (fun _=>⟨rfl,rfl⟩) (fun a r h=>laws_vBig_run a r h)
def Ffce_A : l1Cur→List V:=oA (upE encO_l1Cur)
def Ffce_R (r : Int × l1Cur) : V × List V:=(I (r.1),[.uptr (encI_l1Cur r.2)])
noncomputable def Ffce_ent : Ent:=entT [true] Ffce_A Ffce_R fun x=>Ffce x
theorem Ffce_F {c_3 : l1Cur} {r} (h : Ffce c_3=some r) : (Ffce_ent).F (Ffce_A c_3)=some (Ffce_R r):=entT_F (oA_inj (uptr_inj encO_l1Cur_inj)) h
noncomputable def Ffce_c : Code:=bodyOf Tryd.f101
noncomputable def Ffce_E : Env:=mkE Tryd.prog []
def Ffce_Q (x : l1Cur) (r : Int × l1Cur) : St→Prop:=QF Ffce_E Tryd.f101 [true] (Ffce_A x) (Ffce_R r)
theorem Ffce_run (c_3 : l1Cur) (r : Int × l1Cur) (h : Ffce c_3=some r) : RunF Ffce_E Tryd.f101 [true] 1 (Ffce_A c_3) (Ffce_R r):=by
 show Run _ _ (Ffce_Q c_3 r) [.code Ffce_c] _
 refine rin (n:=62) [(0,.hp 1 0 [] 3 0 0)] [(1,some ⟨0,3,[encI_l1Cur c_3]⟩)] 2 (by kernel_rfl) (by kernel_rfl) (by kernel_rfl) rfl ?_
 unfold Ffce at h
 refine cq 10 [3] [I (0)] 34 ?_
 refine s_draw [0,1,3,7,0,16,48,112,240,511] rfl (by decide +kernel) ?_
 refine dk 1 [4] [.hp 1 0 [] 3 0 0] ?_
 refine dq [1] [] (.hp 1 0 [] 3 0 0) rfl (e_nilCheck rfl rfl) ?_
 refine dq [1] [] (.hp 1 0 [] 3 0 1) rfl (e_fieldAddr rfl rfl rfl) ?_
 refine dq [1] [] (I (c_3.f_at)) rfl (e_ld rfl rfl) ?_
 refine dk 1 [8] [.hp 1 0 [] 3 0 0] ?_
 refine dq [1] [] (.hp 1 0 [] 3 0 0) rfl (e_nilCheck rfl rfl) ?_
 refine dq [1] [] (.hp 1 0 [] 3 0 0) rfl (e_fieldAddr rfl rfl rfl) ?_
 refine dq [1] [] (.isl false ((c_3.f_code).map (V.int .u8))) rfl (e_ld rfl rfl) ?_
 refine dq [] [] (I ((len c_3.f_code))) rfl (e_len rfl rfl rfl (l_isl rfl)) ?_
 refine dk 1 [13] [B ((decide (c_3.f_at < (len c_3.f_code))))] ?_
 refine de 194 rfl rfl ?_
 obtain ⟨y2,hy2,hy21,hy22⟩:=bJ h
 have j2 : ∀ u2,y2=.inr u2→Run Ffce_E 1 (Ffce_Q c_3 r) (.code (cR (cR (cR Ffce_c))) :: []) (sT 62 [(0,.hp 1 0 [] 3 0 0),(3,I (u2))] [⟨0,3,[encI_l1Cur c_3]⟩] 2):=by
   intro u2 hu
   replace h:=hy22 u2 hu
   refine ck 29 [] [] [1] [] [] [some ⟨0,3,[.agg [.isl false ((c_3.f_code).map (V.int .u8)),I ((w64 (c_3.f_at + 1))),.int .u64 ((IntKind.u64.wrap ((IntKind.u64.wrap ((IntKind.u64.wrap (c_3.f_seed * 6364136223846793005)) + (IntKind.u64.wrap u2))) + 902902)))]]⟩] 338 (by kernel_rfl) ?_
   refine s_draw [0,1,3,7,0,16,48,112,240,511] rfl (by decide +kernel) ?_
   refine dk 1 [44] [.hp 1 0 [] 3 0 0] ?_
   refine dq [1] [] (.hp 1 0 [] 3 0 0) rfl (e_nilCheck rfl rfl) ?_
   refine dq [1] [] (.hp 1 0 [] 3 0 1) rfl (e_fieldAddr rfl rfl rfl) ?_
   refine dq [1] [] (I ((w64 (c_3.f_at + 1)))) rfl (e_ld rfl rfl) ?_
   refine dk 1 [48] [.hp 1 0 [] 3 0 0] ?_
   refine dq [1] [] (.hp 1 0 [] 3 0 0) rfl (e_nilCheck rfl rfl) ?_
   refine dq [1] [] (.hp 1 0 [] 3 0 0) rfl (e_fieldAddr rfl rfl rfl) ?_
   refine dq [1] [] (.isl false ((c_3.f_code).map (V.int .u8))) rfl (e_ld rfl rfl) ?_
   refine dq [] [] (I ((len c_3.f_code))) rfl (e_len rfl rfl rfl (l_isl rfl)) ?_
   refine dk 1 [53] [B ((decide ((w64 (c_3.f_at + 1)) ≤ (len c_3.f_code))))] ?_
   refine de 498 rfl rfl ?_
   refine sq h (fun h=>?_) (fun h=>?_)
   · refine cq 5 [2] [I (u2)] 530 ?_
     obtain rfl:=Option.some.inj h
     exact s_ret rfl ⟨_,fin (vs:=[I (u2)]) rfl (absE (absorb_plain rfl) (absEN)) rfl (ou_1 rfl (oc_hp rfl rfl) (ou_n)),kl_c (kl_n)⟩
   · refine aq 1 ?_
     refine cq 11 [2] [I ((IntKind.i64.wrap (andI .u64 (shrI .u64 (IntKind.u64.wrap ((IntKind.u64.wrap ((IntKind.u64.wrap (c_3.f_seed * 6364136223846793005)) + (IntKind.u64.wrap u2))) + 902902)) 40) 255)))] 626 ?_
     obtain rfl:=Option.some.inj h
     exact s_ret rfl ⟨_,fin (vs:=[I ((IntKind.i64.wrap (andI .u64 (shrI .u64 (IntKind.u64.wrap ((IntKind.u64.wrap ((IntKind.u64.wrap (c_3.f_seed * 6364136223846793005)) + (IntKind.u64.wrap u2))) + 902902)) 40) 255)))]) rfl (absE (absorb_plain rfl) (absEN)) rfl (ou_1 rfl (oc_hp rfl rfl) (ou_n)),kl_c (kl_n)⟩
 have r2 : ∀ r',y2=.inl r'→∀ st,Ffce_Q c_3 r' st→(Ffce_Q c_3 r) st:=fun r' e st hq=>by rw [hy21 r' e] at hq; exact hq
 replace h:=hy2
 refine sq h (fun h=>?_) (fun h=>?_)
 · refine s_draw [0,1,3,7,0,16,48,112,255,511,1023,2047] rfl (by decide +kernel) ?_
   refine dk 1 [14] [.hp 1 0 [] 3 0 0] ?_
   refine dq [1] [] (.hp 1 0 [] 3 0 0) rfl (e_nilCheck rfl rfl) ?_
   refine dq [1] [] (.hp 1 0 [] 3 0 0) rfl (e_fieldAddr rfl rfl rfl) ?_
   refine dq [1] [] (.isl false ((c_3.f_code).map (V.int .u8))) rfl (e_ld rfl rfl) ?_
   refine dk 1 [18] [.hp 1 0 [] 3 0 0] ?_
   refine dq [1] [] (.hp 1 0 [] 3 0 0) rfl (e_nilCheck rfl rfl) ?_
   refine dq [1] [] (.hp 1 0 [] 3 0 1) rfl (e_fieldAddr rfl rfl rfl) ?_
   refine dq [1] [] (I (c_3.f_at)) rfl (e_ld rfl rfl) ?_
   obtain ⟨e3,he3,h⟩:=bS h
   refine dq [] [] (.iptr (.int .u8 (e3)) 0) rfl (e_indexAddr rfl rfl rfl (ix_islE rfl rfl rfl rfl he3)) ?_
   refine dq [] [] (.int .u8 (e3)) rfl (e_ld rfl rfl) ?_
   refine dq [] [] (I ((IntKind.i64.wrap e3))) rfl (e_conv rfl rfl) ?_
   refine dk 1 [3] [I ((IntKind.i64.wrap e3))] ?_
   refine de 386 rfl rfl ?_
   exact rf [0,3] [1] (j2 _ (Option.some.inj h).symm :)
 · refine aq 1 ?_
   exact rf [0,3] [1] (j2 _ (Option.some.inj h).symm :)
theorem Ffce_good {G : Go.Ln.Ground} : Good Tryd.prog G 101 Ffce_ent:=good_T (fnOf_good (gl_n)) agree_mk (Checked.mixed Tryd.checked) Tryd.func101 (n:=1) (m:=1) ⟨rfl,rfl,by decide⟩ (fun _=>⟨rfl,rfl⟩) (fun a r h=>Ffce_run a r h)
def Ffch_A : (l1Cur × Int)→List V:=cA (upE encO_l1Cur) (oA I)
def Ffch_R (r : Int × l1Cur) : V × List V:=(I (r.1),[.uptr (encI_l1Cur r.2)])
noncomputable def Ffch_ent : Ent:=entT [true,false] Ffch_A Ffch_R fun x=>Ffch x.1 x.2
theorem Ffch_F {c_3 : l1Cur} {n_4 : Int} {r} (h : Ffch c_3 n_4=some r) : (Ffch_ent).F (Ffch_A (c_3,n_4))=some (Ffch_R r):=entT_F (cA_inj (uptr_inj encO_l1Cur_inj) (oA_inj I_inj)) h
noncomputable def Ffch_c : Code:=bodyOf Tryd.f75
noncomputable def Ffch_E : Env:=mkE Tryd.prog [(101,Ffce_ent)]
def Ffch_Q (x : l1Cur × Int) (r : Int × l1Cur) : St→Prop:=QF Ffch_E Tryd.f75 [true,false] (Ffch_A x) (Ffch_R r)
theorem Ffch_run (c_3 : l1Cur) (n_4 : Int) (r : Int × l1Cur) (h : Ffch c_3 n_4=some r) : RunF Ffch_E Tryd.f75 [true,false] 1 (Ffch_A (c_3,n_4)) (Ffch_R r):=by
 show Run _ _ (Ffch_Q (c_3,n_4) r) [.code Ffch_c] _
 refine rin (n:=20) [(0,.hp 1 0 [] 3 0 0),(1,I (n_4))] [(1,some ⟨0,3,[encI_l1Cur c_3]⟩)] 2 (by kernel_rfl) (by kernel_rfl) (by kernel_rfl) rfl ?_
 unfold Ffch at h
 refine cq 10 [7] [B ((decide (n_4 ≤ 1)))] 50 ?_
 refine sq h (fun h=>?_) (fun h=>?_)
 · refine cq 4 [4] [I (0)] 66 ?_
   obtain rfl:=Option.some.inj h
   exact s_ret rfl ⟨_,fin (vs:=[I (0)]) rfl (absE (absorb_plain rfl) (absEN)) rfl (ou_1 rfl (oc_hp rfl rfl) (ou_f (ou_n))),kl_c (kl_n)⟩
 · refine aq 1 ?_
   refine cq 3 [8] [.hp 1 0 [] 3 0 0] 66 ?_
   obtain ⟨r3,hr3,h⟩:=bS h
   refine oq 82 (I (r3.1)) rfl (e_callV rfl rfl (call_P rfl rfl rfl (avO (hd1 rfl (hd_hp (path:=[]) rfl rfl (ra_n) rfl)) (avN)) (Ffce_F hr3) (.inr rfl) (bl_c rfl rfl rfl rfl (bl_n)) rfl rfl rfl)) ?_
   refine cq 8 [5,11] [I (r3.1),B ((decide (n_4 > 200)))] 130 ?_
   obtain ⟨y4,hy4,hy41,hy42⟩:=bJ h
   have j4 : ∀ u4,y4=.inr u4→Run Ffch_E 1 (Ffch_Q (c_3,n_4) r) (.code (cR (cR (cR (cR Ffch_c)))) :: []) (sT 20 [(1,I (n_4)),(5,I (u4.1))] [⟨0,3,[.agg [.isl false ((u4.2.1).map (V.int .u8)),I (u4.2.2.1),.int .u64 (u4.2.2.2)]]⟩] 2):=by
     intro u4 hu
     replace h:=hy42 u4 hu
     refine cq 4 [17,18] [I (u4.1),I (n_4)] 34 ?_
     obtain ⟨q5,hq5,h⟩:=bS h
     refine oq 50 (I (q5)) rfl (e_bin rfl rfl (b_rem hq5)) ?_
     refine cq 2 [4] [I (q5)] 66 ?_
     obtain rfl:=Option.some.inj h
     exact s_ret rfl ⟨_,fin (vs:=[I (q5)]) rfl (absE (absorb_plain rfl) (absEN)) rfl (ou_1 rfl (oc_hp rfl rfl) (ou_f (ou_n))),kl_c (kl_n)⟩
   have r4 : ∀ r',y4=.inl r'→∀ st,Ffch_Q (c_3,n_4) r' st→(Ffch_Q (c_3,n_4) r) st:=fun r' e st hq=>by rw [hy41 r' e] at hq; exact hq
   replace h:=hy4
   refine sq h (fun h=>?_) (fun h=>?_)
   · refine cq 4 [13,14] [I ((w64 (r3.1 * 256))),.hp 1 0 [] 3 0 0] 178 ?_
     obtain ⟨r6,hr6,h⟩:=bS h
     refine oq 194 (I (r6.1)) rfl (e_callV rfl rfl (call_P rfl rfl rfl (avO (hd1 rfl (hd_hp (path:=[]) rfl rfl (ra_n) rfl)) (avN)) (Ffce_F hr6) (.inr rfl) (bl_c rfl rfl rfl rfl (bl_n)) rfl rfl rfl)) ?_
     refine cq 3 [5] [I ((w64 ((w64 (r3.1 * 256)) + r6.1)))] 226 ?_
     exact rf [1,5] [1] (j4 _ (Option.some.inj h).symm :)
   · refine aq 1 ?_
     exact rf [1,5] [1] (j4 _ (Option.some.inj h).symm :)
theorem Ffch_good {G : Go.Ln.Ground} : Good Tryd.prog G 75 Ffch_ent:=good_T (fnOf_good (gl_c Ffce_good (gl_n))) agree_mk (Checked.mixed Tryd.checked) Tryd.func75 (n:=2) (m:=1) ⟨rfl,rfl,by decide⟩ (fun _=>⟨rfl,rfl⟩) (fun a r h=>Ffch_run a.1 a.2 r h)
def Ffby_A : (l1Cur × (List Int))→List V:=cA (upE encO_l1Cur) (oA (slE I))
def Ffby_R (r : Int × l1Cur) : V × List V:=(I (r.1),[.uptr (encI_l1Cur r.2)])
noncomputable def Ffby_ent : Ent:=entT [true,false] Ffby_A Ffby_R fun x=>Ffby x.1 x.2
theorem Ffby_F {c_3 : l1Cur} {list_4 : List Int} {r} (h : Ffby c_3 list_4=some r) : (Ffby_ent).F (Ffby_A (c_3,list_4))=some (Ffby_R r):=entT_F (cA_inj (uptr_inj encO_l1Cur_inj) (oA_inj (isl_inj I_inj))) h
noncomputable def Ffby_c : Code:=bodyOf Tryd.f76
noncomputable def Ffby_E : Env:=mkE Tryd.prog [(75,Ffch_ent)]
def Ffby_Q (x : l1Cur × (List Int)) (r : Int × l1Cur) : St→Prop:=QF Ffby_E Tryd.f76 [true,false] (Ffby_A x) (Ffby_R r)
theorem Ffby_run (c_3 : l1Cur) (list_4 : List Int) (r : Int × l1Cur) (h : Ffby c_3 list_4=some r) : RunF Ffby_E Tryd.f76 [true,false] 1 (Ffby_A (c_3,list_4)) (Ffby_R r):=by
 show Run _ _ (Ffby_Q (c_3,list_4) r) [.code Ffby_c] _
 refine rin (n:=12) [(0,.hp 1 0 [] 3 0 0),(1,.isl false ((list_4).map I))] [(1,some ⟨0,3,[encI_l1Cur c_3]⟩)] 2 (by kernel_rfl) (by kernel_rfl) (by kernel_rfl) rfl ?_
 unfold Ffby at h
 refine cq 9 [5,6,7] [.isl false ((list_4).map I),.hp 1 0 [] 3 0 0,.isl false ((list_4).map I)] 66 ?_
 refine oq 82 (I ((len list_4))) rfl (e_len rfl rfl rfl (l_isl rfl)) ?_
 obtain ⟨r3,hr3,h⟩:=bS h
 refine oq 98 (I (r3.1)) rfl (e_callV rfl rfl (call_P rfl rfl rfl (avO (hd1 rfl (hd_hp (path:=[]) rfl rfl (ra_n) rfl)) (avS (shP rfl) (avN))) (Ffch_F hr3) (.inr rfl) (bl_c rfl rfl rfl rfl (bl_n)) rfl rfl rfl)) ?_
 obtain ⟨e4,he4,h⟩:=bS h
 refine oq 114 (.iptr (I (e4)) 0) rfl (e_indexAddr rfl rfl rfl (ix_islE rfl rfl rfl rfl he4)) ?_
 refine cq 3 [4] [I (e4)] 146 ?_
 obtain rfl:=Option.some.inj h
 exact s_ret rfl ⟨_,fin (vs:=[I (e4)]) rfl (absE (absorb_plain rfl) (absEN)) rfl (ou_1 rfl (oc_hp rfl rfl) (ou_f (ou_n))),kl_c (kl_n)⟩
theorem Ffby_good {G : Go.Ln.Ground} : Good Tryd.prog G 76 Ffby_ent:=good_T (fnOf_good (gl_c Ffch_good (gl_n))) agree_mk (Checked.mixed Tryd.checked) Tryd.func76 (n:=2) (m:=1) ⟨rfl,rfl,by decide⟩ (fun _=>⟨rfl,rfl⟩) (fun a r h=>Ffby_run a.1 a.2 r h)
def Ffcj_A : Unit→List V:=nA
def Ffcj_R (r : (List Str)) : V × List V:=(.usl 1 ((r).map str),[])
noncomputable def Ffcj_ent : Ent:=entT [] Ffcj_A Ffcj_R fun x=>Ffcj 
theorem Ffcj_F  {r} (h : Ffcj =some r) : (Ffcj_ent).F (Ffcj_A ())=some (Ffcj_R r):=entT_F (nA_inj) h
noncomputable def Ffcj_c : Code:=bodyOf Tryd.f126
noncomputable def Ffcj_E : Env:=mkE Tryd.prog []
def Ffcj_Q (x : Unit) (r : (List Str)) : St→Prop:=QF Ffcj_E Tryd.f126 [] (Ffcj_A x) (Ffcj_R r)
theorem Ffcj_run  (r : (List Str)) (h : Ffcj =some r) : RunF Ffcj_E Tryd.f126 [] 0 (Ffcj_A ()) (Ffcj_R r):=by
 show Run _ _ (Ffcj_Q () r) [.code Ffcj_c] _
 refine rin (n:=2) [] [] 1 (by kernel_rfl) (by kernel_rfl) (by kernel_rfl) rfl ?_
 unfold Ffcj at h
 refine cq 6 [] [] 17 ?_
 refine oq 33 (.hs 17 0 [] 1 0 5) rfl (e_buildSlice rfl (bs_mk (f:=I) (xs:=[]) (z:=str ([])) (es:=[str (([112,97,105,100] : Str)),str (([115,101,110,116] : Str)),str (([108,97,116,101] : Str)),str (([97] : Str)),str (([98] : Str))]) (ws:=[str (([112,97,105,100] : Str)),str (([115,101,110,116] : Str)),str (([108,97,116,101] : Str)),str (([97] : Str)),str (([98] : Str))]) rfl rfl rfl (by decide) rfl (abs_each_plain rfl) rfl)) ?_
 refine cq 2 [0] [.hs 17 0 [] 1 0 5] 49 ?_
 obtain rfl:=Option.some.inj h
 exact s_ret rfl ⟨_,fin (vs:=[.hs 17 0 [] 1 0 5]) rfl (absE (abs1 rfl (abs_hs rfl rfl)) (absEN)) rfl (ou_n),kl_n⟩
theorem Ffcj_good {G : Go.Ln.Ground} : Good Tryd.prog G 126 Ffcj_ent:=good_T (fnOf_good (gl_n)) agree_mk (Checked.mixed Tryd.checked) Tryd.func126 (n:=0) (m:=0) ⟨rfl,rfl,by decide⟩ (fun _=>⟨rfl,rfl⟩) (fun a r h=>Ffcj_run  r h)
def Ffcf_A : (l1Cur × (List Str))→List V:=cA (upE encO_l1Cur) (oA (slE str))
def Ffcf_R (r : Str × l1Cur) : V × List V:=(str (r.1),[.uptr (encI_l1Cur r.2)])
noncomputable def Ffcf_ent : Ent:=entT [true,false] Ffcf_A Ffcf_R fun x=>Ffcf x.1 x.2
theorem Ffcf_F {c_3 : l1Cur} {list_4 : List Str} {r} (h : Ffcf c_3 list_4=some r) : (Ffcf_ent).F (Ffcf_A (c_3,list_4))=some (Ffcf_R r):=entT_F (cA_inj (uptr_inj encO_l1Cur_inj) (oA_inj (isl_inj str_inj))) h
noncomputable def Ffcf_c : Code:=bodyOf Tryd.f100
noncomputable def Ffcf_E : Env:=mkE Tryd.prog [(75,Ffch_ent)]
def Ffcf_Q (x : l1Cur × (List Str)) (r : Str × l1Cur) : St→Prop:=QF Ffcf_E Tryd.f100 [true,false] (Ffcf_A x) (Ffcf_R r)
theorem Ffcf_run (c_3 : l1Cur) (list_4 : List Str) (r : Str × l1Cur) (h : Ffcf c_3 list_4=some r) : RunF Ffcf_E Tryd.f100 [true,false] 1 (Ffcf_A (c_3,list_4)) (Ffcf_R r):=by
 show Run _ _ (Ffcf_Q (c_3,list_4) r) [.code Ffcf_c] _
 refine rin (n:=12) [(0,.hp 1 0 [] 3 0 0),(1,.isl false ((list_4).map str))] [(1,some ⟨0,3,[encI_l1Cur c_3]⟩)] 2 (by kernel_rfl) (by kernel_rfl) (by kernel_rfl) rfl ?_
 unfold Ffcf at h
 refine cq 9 [5,6,7] [.isl false ((list_4).map str),.hp 1 0 [] 3 0 0,.isl false ((list_4).map str)] 66 ?_
 refine oq 82 (I ((len list_4))) rfl (e_len rfl rfl rfl (l_isl rfl)) ?_
 obtain ⟨r3,hr3,h⟩:=bS h
 refine oq 98 (I (r3.1)) rfl (e_callV rfl rfl (call_P rfl rfl rfl (avO (hd1 rfl (hd_hp (path:=[]) rfl rfl (ra_n) rfl)) (avS (shP rfl) (avN))) (Ffch_F hr3) (.inr rfl) (bl_c rfl rfl rfl rfl (bl_n)) rfl rfl rfl)) ?_
 obtain ⟨e4,he4,h⟩:=bS h
 refine oq 114 (.iptr (str (e4)) 0) rfl (e_indexAddr rfl rfl rfl (ix_islE rfl rfl rfl rfl he4)) ?_
 refine cq 3 [4] [str (e4)] 146 ?_
 obtain rfl:=Option.some.inj h
 exact s_ret rfl ⟨_,fin (vs:=[str (e4)]) rfl (absE (absorb_plain rfl) (absEN)) rfl (ou_1 rfl (oc_hp rfl rfl) (ou_f (ou_n))),kl_c (kl_n)⟩
theorem Ffcf_good {G : Go.Ln.Ground} : Good Tryd.prog G 100 Ffcf_ent:=good_T (fnOf_good (gl_c Ffch_good (gl_n))) agree_mk (Checked.mixed Tryd.checked) Tryd.func100 (n:=2) (m:=1) ⟨rfl,rfl,by decide⟩ (fun _=>⟨rfl,rfl⟩) (fun a r h=>Ffcf_run a.1 a.2 r h)
def Ffcc_A : l1Cur→List V:=oA (upE encO_l1Cur)
def Ffcc_R (r : Event × l1Cur) : V × List V:=(enc_Event r.1,[.uptr (encI_l1Cur r.2)])
noncomputable def Ffcc_ent : Ent:=entT [true] Ffcc_A Ffcc_R fun x=>Ffcc x
theorem Ffcc_F {c_2 : l1Cur} {r} (h : Ffcc c_2=some r) : (Ffcc_ent).F (Ffcc_A c_2)=some (Ffcc_R r):=entT_F (oA_inj (uptr_inj encO_l1Cur_inj)) h
noncomputable def Ffcc_c : Code:=bodyOf Tryd.f98
noncomputable def Ffcc_E : Env:=mkE Tryd.prog [(76,Ffby_ent),(75,Ffch_ent),(126,Ffcj_ent),(100,Ffcf_ent)]
def Ffcc_Q (x : l1Cur) (r : Event × l1Cur) : St→Prop:=QF Ffcc_E Tryd.f98 [true] (Ffcc_A x) (Ffcc_R r)
theorem Ffcc_run (c_2 : l1Cur) (r : Event × l1Cur) (h : Ffcc c_2=some r) : RunF Ffcc_E Tryd.f98 [true] 1 (Ffcc_A c_2) (Ffcc_R r):=by
 show Run _ _ (Ffcc_Q c_2 r) [.code Ffcc_c] _
 refine rin (n:=15) [(0,.hp 1 0 [] 3 0 0)] [(1,some ⟨0,3,[encI_l1Cur c_2]⟩)] 2 (by kernel_rfl) (by kernel_rfl) (by kernel_rfl) rfl ?_
 unfold Ffcc at h
 refine ck 7 [2,3] [] [2] [] [.hp 2 0 [] 4 0 0,.hp 1 0 [] 3 0 0] [some ⟨0,4,[.agg [I (0),I (0),str ([]),I (0)]]⟩] 34 (by kernel_rfl) ?_
 refine oq 50 (.hs 34 0 [] 1 0 10) rfl (e_buildSlice rfl (bs_mk (f:=I) (xs:=[]) (z:=I (0)) (es:=[I (0),I (1),I (2),I (3),I (5),I (8),I (10),I (12),I (20),I (40)]) (ws:=[I (0),I (1),I (2),I (3),I (5),I (8),I (10),I (12),I (20),I (40)]) rfl rfl rfl (by decide) rfl (abs_each_plain rfl) rfl)) ?_
 obtain ⟨r2,hr2,h⟩:=bS h
 refine oK 66 (I (r2.1)) rfl rfl (e_callK rfl rfl (call_K rfl rfl rfl rfl (avO (hd1 rfl (hd_hp (path:=[]) rfl rfl (ra_n) rfl)) (avS (sh1 rfl rfl (sh_hsM (f:=I) (g:=I) (xs:=[0,1,2,3,5,8,10,12,20,40]) rfl rfl (imms_of I_imm))) (avN))) (Ffby_F hr2) (bl_c rfl rfl rfl rfl (bl_n)) rfl rfl rfl)) ?_
 refine cq 1 [6] [.hp 1 0 [] 3 0 0] 82 ?_
 obtain ⟨r3,hr3,h⟩:=bS h
 refine oq 98 (I (r3.1)) rfl (e_callV rfl rfl (call_P rfl rfl rfl (avO (hd1 rfl (hd_hp (path:=[]) rfl rfl (ra_n) rfl)) (avS (shP rfl) (avN))) (Ffch_F hr3) (.inr rfl) (bl_c rfl rfl rfl rfl (bl_n)) rfl rfl rfl)) ?_
 refine cq 1 [8] [.hp 1 0 [] 3 0 0] 114 ?_
 obtain ⟨r4,hr4,h⟩:=bS h
 refine oq 130 (.hs 114 0 [] 1 0 ((r4).map str).length) rfl (e_callV rfl rfl (call_P rfl rfl rfl (avN) (Ffcj_F hr4) (.inr rfl) (bl_n) rfl rfl rfl)) ?_
 obtain ⟨r5,hr5,h⟩:=bS h
 refine oK 146 (str (r5.1)) rfl rfl (e_callK rfl rfl (call_K rfl rfl rfl rfl (avO (hd1 rfl (hd_hp (path:=[]) rfl rfl (ra_n) rfl)) (avS (sh1 rfl rfl (sh_hsM (f:=str) (g:=str) (xs:=r4) rfl rfl (imms_of str_imm))) (avN))) (Ffcf_F hr5) (bl_c rfl rfl rfl rfl (bl_n)) rfl rfl rfl)) ?_
 refine cq 1 [11] [.hp 1 0 [] 3 0 0] 162 ?_
 refine oq 178 (.hs 162 0 [] 1 0 5) rfl (e_buildSlice rfl (bs_mk (f:=I) (xs:=[]) (z:=I (0)) (es:=[I (0),I (0),I (50),I (100),I (250)]) (ws:=[I (0),I (0),I (50),I (100),I (250)]) rfl rfl rfl (by decide) rfl (abs_each_plain rfl) rfl)) ?_
 obtain ⟨r6,hr6,h⟩:=bS h
 refine oK 194 (I (r6.1)) rfl rfl (e_callK rfl rfl (call_K rfl rfl rfl rfl (avO (hd1 rfl (hd_hp (path:=[]) rfl rfl (ra_n) rfl)) (avS (sh1 rfl rfl (sh_hsM (f:=I) (g:=I) (xs:=[0,0,50,100,250]) rfl rfl (imms_of I_imm))) (avN))) (Ffby_F hr6) (bl_c rfl rfl rfl rfl (bl_n)) rfl rfl rfl)) ?_
 refine ck 3 [] [] [2] [] [] [some ⟨0,4,[.agg [I (r2.1),I (r3.1),str (r5.1),I (r6.1)]]⟩] 226 (by kernel_rfl) ?_
 obtain rfl:=Option.some.inj h
 exact s_ret rfl ⟨_,fin (vs:=[.agg [I (r2.1),I (r3.1),str (r5.1),I (r6.1)]]) (rs_c (rs_cell rfl rfl rfl) (rs_n)) (absE (absorb_plain rfl) (absEN)) rfl (ou_1 rfl (oc_hp rfl rfl) (ou_n)),kl_c (kl_n)⟩
theorem Ffcc_good {G : Go.Ln.Ground} : Good Tryd.prog G 98 Ffcc_ent:=good_T (fnOf_good (gl_c Ffby_good (gl_c Ffch_good (gl_c Ffcj_good (gl_c Ffcf_good (gl_n)))))) agree_mk (Checked.mixed Tryd.checked) Tryd.func98 (n:=1) (m:=1) ⟨rfl,rfl,by decide⟩ (fun _=>⟨rfl,rfl⟩) (fun a r h=>Ffcc_run a r h)
def Ffcm_A : (Event × Event)→List V:=cA enc_Event (oA enc_Event)
def Ffcm_R (r : Int) : V × List V:=(I (r),[])
noncomputable def Ffcm_ent : Ent:=entT [false,false] Ffcm_A Ffcm_R fun x=>Ffcm x.1 x.2
theorem Ffcm_F {a_1 : Event} {b_2 : Event} {r} (h : Ffcm a_1 b_2=some r) : (Ffcm_ent).F (Ffcm_A (a_1,b_2))=some (Ffcm_R r):=entT_F (cA_inj enc_Event_inj (oA_inj enc_Event_inj)) h
noncomputable def Ffcm_c : Code:=bodyOf Tryd.f77
noncomputable def Ffcm_E : Env:=mkE Tryd.prog []
def Ffcm_Q (x : Event × Event) (r : Int) : St→Prop:=QF Ffcm_E Tryd.f77 [false,false] (Ffcm_A x) (Ffcm_R r)
theorem Ffcm_run (a_1 : Event) (b_2 : Event) (r : Int) (h : Ffcm a_1 b_2=some r) : RunF Ffcm_E Tryd.f77 [false,false] 0 (Ffcm_A (a_1,b_2)) (Ffcm_R r):=by
 show Run _ _ (Ffcm_Q (a_1,b_2) r) [.code Ffcm_c] _
 refine rin (n:=51) [(0,enc_Event a_1),(1,enc_Event b_2)] [] 1 (by kernel_rfl) (by kernel_rfl) (by kernel_rfl) rfl ?_
 unfold Ffcm at h
 refine ck 7 [2,3] [] [1,17] [] [.hp 1 0 [] 4 0 0,.hp 17 0 [] 4 0 0] [some ⟨0,4,[enc_Event a_1]⟩,some ⟨0,4,[enc_Event b_2]⟩] 49 (by kernel_rfl) ?_
 refine s_draw [0,1,0,4,3,31] rfl (by decide +kernel) ?_
 refine dq [1] [] (.hp 1 0 [] 4 0 3) rfl (e_fieldAddr rfl rfl rfl) ?_
 refine dq [1] [] (I (a_1.Amount)) rfl (e_ld rfl rfl) ?_
 refine dq [17] [] (.hp 17 0 [] 4 0 3) rfl (e_fieldAddr rfl rfl rfl) ?_
 refine dq [17] [] (I (b_2.Amount)) rfl (e_ld rfl rfl) ?_
 refine dk 2 [6,5] [I (b_2.Amount),I (a_1.Amount)] ?_
 refine de 145 rfl rfl ?_
 refine cq 11 [11] [B ((a_1.Day != b_2.Day))] 241 ?_
 obtain ⟨y3,hy3,hy31,hy32⟩:=bJ h
 have j3 : ∀ u3,y3=.inr u3→Run Ffcm_E 0 (Ffcm_Q (a_1,b_2) r) (.blk 0 :: .code (cR (cR (cR Ffcm_c))) :: []) (sT 51 [(5,I (u3.1)),(6,I (u3.2))] [] 1):=by
   intro u3 hu
   replace h:=hy32 u3 hu
   refine cq 10 [43] [B ((decide (u3.1 < u3.2)))] 65 ?_
   refine sq h (fun h=>?_) (fun h=>?_)
   · refine cq 4 [4] [I ((-1))] 81 ?_
     obtain rfl:=Option.some.inj h
     exact s_ret rfl ⟨_,fin (vs:=[I ((-1))]) rfl (absE (absorb_plain rfl) (absEN)) rfl (ou_f (ou_f (ou_n))),kl_n⟩
   · refine cq 7 [47] [B ((decide (u3.1 > u3.2)))] 129 ?_
     refine sq h (fun h=>?_) (fun h=>?_)
     · refine cq 4 [4] [I (1)] 145 ?_
       obtain rfl:=Option.some.inj h
       exact s_ret rfl ⟨_,fin (vs:=[I (1)]) rfl (absE (absorb_plain rfl) (absEN)) rfl (ou_f (ou_f (ou_n))),kl_n⟩
     · refine aq 1 ?_
       refine cq 5 [4] [I (0)] 145 ?_
       obtain rfl:=Option.some.inj h
       exact s_ret rfl ⟨_,fin (vs:=[I (0)]) rfl (absE (absorb_plain rfl) (absEN)) rfl (ou_f (ou_f (ou_n))),kl_n⟩
 have r3 : ∀ r',y3=.inl r'→∀ st,Ffcm_Q (a_1,b_2) r' st→(Ffcm_Q (a_1,b_2) r) st:=fun r' e st hq=>by rw [hy31 r' e] at hq; exact hq
 replace h:=hy3
 refine sq h (fun h=>?_) (fun h=>?_)
 · refine cq 11 [5,6] [I (a_1.Day),I (b_2.Day)] 337 ?_
   exact rf [5,6] [] (j3 _ (Option.some.inj h).symm :)
 · refine cq 9 [21] [B ((a_1.Party != b_2.Party))] 337 ?_
   obtain ⟨y4,hy4,hy41,hy42⟩:=bL h
   have j4 : ∀ u4,y4=.inr u4→Run Ffcm_E 0 (Ffcm_Q (a_1,b_2) r) (.blk 0 :: .code (cR (cR (cR Ffcm_c))) :: []) (sT 51 [(5,I (u4.1)),(6,I (u4.2))] [] 1):=by
     intro u4 hu
     replace h:=hy42 u4 hu
     exact rf [5,6] [] (j3 _ (Option.some.inj h).symm :)
   have r4 : ∀ r',y4=.inl r'→∀ st,Ffcm_Q (a_1,b_2) r' st→(Ffcm_Q (a_1,b_2) r) st:=fun r' e st hq=>r3 r' (hy41 r' e) st hq
   replace h:=hy4
   refine sq h (fun h=>?_) (fun h=>?_)
   · refine cq 11 [5,6] [I (a_1.Party),I (b_2.Party)] 433 ?_
     exact rf [5,6] [] (j4 _ (Option.some.inj h).symm :)
   · refine cq 9 [31] [B ((Op.bytesLess a_1.Action b_2.Action))] 433 ?_
     refine sq h (fun h=>?_) (fun h=>?_)
     · refine cq 4 [4] [I ((-1))] 449 ?_
       exact s_ret rfl (r4 _ (Option.some.inj h).symm _ ⟨_,fin (vs:=[I ((-1))]) rfl (absE (absorb_plain rfl) (absEN)) rfl (ou_f (ou_f (ou_n))),kl_n⟩)
     · refine cq 9 [37] [B ((!(Op.bytesLess a_1.Action b_2.Action || a_1.Action == b_2.Action)))] 529 ?_
       refine sq h (fun h=>?_) (fun h=>?_)
       · refine cq 4 [4] [I (1)] 545 ?_
         exact s_ret rfl (r4 _ (Option.some.inj h).symm _ ⟨_,fin (vs:=[I (1)]) rfl (absE (absorb_plain rfl) (absEN)) rfl (ou_f (ou_f (ou_n))),kl_n⟩)
       · refine aq 1 ?_
         exact rf [5,6] [] (j4 _ (Option.some.inj h).symm :)
theorem Ffcm_good {G : Go.Ln.Ground} : Good Tryd.prog G 77 Ffcm_ent:=good_T (fnOf_good (gl_n)) agree_mk (Checked.mixed Tryd.checked) Tryd.func77 (n:=2) (m:=0) ⟨rfl,rfl,by decide⟩ (fun _=>⟨rfl,rfl⟩) (fun a r h=>Ffcm_run a.1 a.2 r h)
def Ffcp_A : ((List Event))→List V:=oA (slE enc_Event)
def Ffcp_R (r : (List Event)) : V × List V:=(.usl 4 ((r).map enc_Event),[])
noncomputable def Ffcp_ent : Ent:=entT [false] Ffcp_A Ffcp_R fun x=>Ffcp x
theorem Ffcp_F {list_1 : List Event} {r} (h : Ffcp list_1=some r) : (Ffcp_ent).F (Ffcp_A list_1)=some (Ffcp_R r):=entT_F (oA_inj (isl_inj enc_Event_inj)) h
noncomputable def Ffcp_c : Code:=bodyOf Tryd.f69
noncomputable abbrev Ffcp_ka : Code:=cL (cL (cL (cR (cL (cL (cR (cL (cL (cR (cL (cR (cR Ffcp_c))))))))))))
noncomputable def Ffcp_E : Env:=mkE Tryd.prog [(77,Ffcm_ent)]
def Ffcp_Q (x : (List Event)) (r : (List Event)) : St→Prop:=QF Ffcp_E Tryd.f69 [false] (Ffcp_A x) (Ffcp_R r)
theorem Ffcp_lb_run (list_1 : List Event) (x2 : Int × (List Event)) {Q : St→Prop} {K : List It} (hK : noD K=true) : ∀ (x3 : Int) (y : ((List Event)) ⊕ Int),Ffcp_lb list_1 x2 x3=some y→(∀ r',y=.inl r'→∀ st,Ffcp_Q list_1 r' st→Q st)→(∀ u : Int,y=.inr u→Run Ffcp_E 0 Q K (sT 48 [(0,.isl false ((list_1).map enc_Event)),(3,.hs 1 0 [] 4 0 ((x2.2).map enc_Event).length),(4,I (x2.1)),(5,I (u))] [⟨0,4,(x2.2).map enc_Event⟩] 2))→Run Ffcp_E 0 Q (.code Ffcp_ka :: .lp Ffcp_ka :: .blk 2 :: K) (sT 48 [(0,.isl false ((list_1).map enc_Event)),(3,.hs 1 0 [] 4 0 ((x2.2).map enc_Event).length),(4,I (x2.1)),(5,I (x3))] [⟨0,4,(x2.2).map enc_Event⟩] 2):=by
 refine fix_indP (Ffcp_lb_fin list_1 x2) ?_
 intro self ih x3 y h hr hn
 unfold Ffcp_lb_F at h
 refine aq 2 ?_
 refine s_draw [0,1,3,7,7,31,63,7,7,263,903,1927,4095,8191,16383] rfl (by decide +kernel) ?_
 refine dk 3 [17,16,15] [B ((decide (x3 > 0))),B ((decide (x3 > 0))),I (x3)] ?_
 obtain ⟨y4,hy4,hy41,hy42⟩:=bL h
 have j4 : ∀ u4,y4=.inr u4→Run Ffcp_E 0 Q (.code (cR (cL Ffcp_ka)) :: .code (cR Ffcp_ka) :: .lp Ffcp_ka :: .blk 2 :: K) (sT 48 [(0,.isl false ((list_1).map enc_Event)),(3,.hs 1 0 [] 4 0 ((x2.2).map enc_Event).length),(4,I (x2.1)),(5,I (x3)),(29,B (u4))] [⟨0,4,(x2.2).map enc_Event⟩] 2):=by
   intro u4 hu
   replace h:=hy42 u4 hu
   refine sq h (fun h=>?_) (fun h=>?_)
   · refine aq 1 ?_
     refine cq 7 [5] [I ((w64 (x3 - 1)))] 50 ?_
     refine s_lp ?_
     exact rf [0,3,4,5] [1] (ih _ _ h hr hn :)
   · refine aq 1 ?_
     exact rf [0,3,4,5] [1] (hn _ (Option.some.inj h).symm :) (hk:=hK)
 have r4 : ∀ r',y4=.inl r'→∀ st,Ffcp_Q list_1 r' st→Q st:=fun r' e st hq=>hr r' (hy41 r' e) st hq
 replace h:=hy4
 refine sp 17 h rfl (fun h=>?_) (fun h=>?_)
 · refine dk 2 [19,18] [I (x2.1),.isl false ((list_1).map enc_Event)] ?_
   obtain ⟨e5,he5,h⟩:=bS h
   refine dy [] [] (.iptr (enc_Event e5) 0) rfl (e_indexAddr rfl rfl rfl (ix_islE rfl rfl rfl rfl he5)) ?_
   refine dy [] [] (enc_Event e5) rfl (e_ld rfl rfl) ?_
   refine dk 3 [24,23,22] [I ((w64 (x3 - 1))),I (x3),.hs 1 0 [] 4 0 ((x2.2).map enc_Event).length] ?_
   obtain ⟨e6,he6,h⟩:=bS h
   refine dy [1] [] (.hp 1 0 [] 4 (0 + Int.toNat ((w64 (x3 - 1)))) 0) rfl (e_indexAddr rfl rfl rfl (ix_hsM (f:=enc_Event) (xs:=x2.2) rfl rfl rfl he6)) ?_
   refine dy [1] [] (enc_Event e6) rfl (e_ld rfl (ld_at (path:=[]) rfl rfl rfl (ra_n) (get_map (f:=enc_Event) (xs:=x2.2) he6) rfl rfl rfl)) ?_
   obtain ⟨r7,hr7,h⟩:=bS h
   refine dy [] [] (I (r7)) rfl (e_callV rfl rfl (call_P rfl rfl rfl (avS (shP rfl) (avS (shP rfl) (avN))) (Ffcm_F hr7) (.inr rfl) (bl_n) rfl rfl rfl)) ?_ (w_callO rfl rfl rfl rfl (avS (shP rfl) (avS (shP rfl) (avN))) (Ffcm_F hr7) (.inr rfl) rfl)
   refine dk 2 [29,28] [B ((decide (r7 < 0))),B ((decide (r7 < 0)))] ?_
   refine de 242 rfl rfl ?_
   exact rf [0,3,4,5,29] [1] (j4 _ (Option.some.inj h).symm :)
 · refine dk 12 [29,28,27,26,25,24,23,22,21,20,19,18] [B (false),.und,.und,.und,.und,.und,.und,.und,.und,.und,.und,.und] ?_
   refine de 242 rfl rfl ?_
   exact rf [0,3,4,5,29] [1] (j4 _ (Option.some.inj h).symm :)
theorem Ffcp_la_run (list_1 : List Event)  {Q : St→Prop} {K : List It} (hK : noD K=true) : ∀ (x2 : Int × (List Event)) (y : ((List Event)) ⊕ ((List Event))),Ffcp_la list_1 x2=some y→(∀ r',y=.inl r'→∀ st,Ffcp_Q list_1 r' st→Q st)→(∀ u : (List Event),y=.inr u→Run Ffcp_E 0 Q K (sT 48 [(3,.hs 1 0 [] 4 0 ((u).map enc_Event).length)] [⟨0,4,(u).map enc_Event⟩] 2))→Run Ffcp_E 0 Q (.code (cL (cL (cR (cL (cR (cR Ffcp_c)))))) :: .lp (cL (cL (cR (cL (cR (cR Ffcp_c)))))) :: .blk 0 :: K) (sT 48 [(0,.isl false ((list_1).map enc_Event)),(3,.hs 1 0 [] 4 0 ((x2.2).map enc_Event).length),(4,I (x2.1))] [⟨0,4,(x2.2).map enc_Event⟩] 2):=by
 refine fix_indP (Ffcp_la_fin list_1) ?_
 intro self ih x2 y h hr hn
 unfold Ffcp_la_F at h
 refine cq 5 [7,8] [I (x2.1),.isl false ((list_1).map enc_Event)] 34 ?_
 refine oq 50 (I ((len list_1))) rfl (e_len rfl rfl rfl (l_isl rfl)) ?_
 refine cq 2 [10] [B ((decide (x2.1 < (len list_1))))] 66 ?_
 refine sq h (fun h=>?_) (fun h=>?_)
 · refine aq 1 ?_
   refine cq 5 [13] [.hs 1 0 [] 4 0 ((x2.2).map enc_Event).length] 82 ?_
   refine oq 98 (I ((len x2.2))) rfl (e_len rfl rfl rfl (l_hsM (f:=enc_Event) (xs:=x2.2) rfl rfl)) ?_
   refine cq 4 [5] [I ((len x2.2))] 114 ?_
   obtain ⟨y8,hy8,hy81,hy82⟩:=bL h
   refine s_loop rfl ?_
   refine rf [0,3,4,5] [1] (Ffcp_lb_run list_1 x2 rfl _ _ hy8 (fun r' e st hq=>hr r' (hy81 r' e) st hq) fun u8 hu=>?_)
   replace h:=hy82 u8 hu
   refine s_draw [0,0,0,6,15,0,0,96,224,480,1023,0,0,6144,16383,32767] rfl (by decide +kernel) ?_
   refine dq [] [] (.hs 2 0 [] 4 0 0) rfl (e_buildSlice rfl (bs_mk (f:=I) (xs:=[]) (z:=.agg [I (0),I (0),str ([]),I (0)]) (es:=[]) (ws:=[]) rfl rfl rfl (by decide) rfl (abs_each_plain rfl) rfl)) ?_
   refine dk 2 [34,33] [I (u8),.hs 1 0 [] 4 0 ((x2.2).map enc_Event).length] ?_
   obtain ⟨s9,hs9,h⟩:=bS h
   refine dq [1] [] (.hs 1 0 [] 4 (0 + Int.toNat (0)) (Int.toNat (u8) - Int.toNat (0))) rfl (e_slice rfl rfl rfl rfl (sl_hsM (f:=enc_Event) (xs:=x2.2) rfl rfl rfl rfl rfl hs9)) ?_
   obtain ⟨p10,hp10,h⟩:=bS h
   obtain ⟨a11,ha11,h⟩:=bS h
   refine dq [2,1] [2] (.hs 66 0 [] 4 0 ((a11).map enc_Event).length) rfl (e_append rfl rfl rfl rfl rfl (ap_hsM (path:=[]) (es0:=[]) (f:=enc_Event) (xs:=([] : List Event)) (ys:=p10) rfl rfl (take_pt (path:=[]) (f:=enc_Event) (xs:=x2.2) rfl rfl (ra_n) hp10 enc_Event_flat) rfl rfl rfl (rfl) rfl (by decide) enc_Event_cells ha11 rfl (to_n))) ?_ (w_app rfl (aw_hs (path:=[]) (f:=enc_Event) (xs:=x2.2) rfl rfl (ra_n) enc_Event_flat rfl))
   refine dk 2 [38,37] [I (x2.1),.isl false ((list_1).map enc_Event)] ?_
   obtain ⟨e12,he12,h⟩:=bS h
   refine dq [] [] (.iptr (enc_Event e12) 0) rfl (e_indexAddr rfl rfl rfl (ix_islE rfl rfl rfl rfl he12)) ?_
   refine dq [] [] (enc_Event e12) rfl (e_ld rfl rfl) ?_
   refine dq [] [] (.hs 146 0 [] 4 0 1) rfl (e_buildSlice rfl (bs_mk (f:=I) (xs:=[]) (z:=.agg [I (0),I (0),str ([]),I (0)]) (es:=[enc_Event e12]) (ws:=[enc_Event e12]) rfl rfl rfl (by decide) rfl (abs_each_plain rfl) rfl)) ?_
   obtain ⟨a13,ha13,h⟩:=bS h
   refine dq [66,146] [66] (.hs 162 0 [] 4 0 ((a13).map enc_Event).length) rfl (e_append rfl rfl rfl rfl rfl (ap_hsM (path:=[]) (f:=enc_Event) (xs:=a11) (ys:=[e12]) rfl rfl (take_hs rfl rfl rfl) rfl rfl rfl (ra_n) rfl (by decide) enc_Event_cells ha13 rfl (to_n))) ?_ (w_app rfl (aw_hs (path:=[]) (f:=enc_Event) (xs:=[e12]) rfl rfl (ra_n) enc_Event_flat rfl))
   refine dk 2 [44,43] [I (u8),.hs 1 0 [] 4 0 ((x2.2).map enc_Event).length] ?_
   obtain ⟨s14,hs14,h⟩:=bS h
   refine dq [1] [] (.hs 1 0 [] 4 (0 + Int.toNat (u8)) (Int.toNat (len x2.2) - Int.toNat (u8))) rfl (e_slice rfl rfl rfl rfl (sl_hsM (f:=enc_Event) (xs:=x2.2) rfl rfl rfl rfl (bd_n rfl) hs14)) ?_
   obtain ⟨p15,hp15,h⟩:=bS h
   obtain ⟨a16,ha16,h⟩:=bS h
   refine dq [162,1] [162] (.hs 226 0 [] 4 0 ((a16).map enc_Event).length) rfl (e_append rfl rfl rfl rfl rfl (ap_hsM (path:=[]) (f:=enc_Event) (xs:=a13) (ys:=p15) rfl rfl (take_pt (path:=[]) (f:=enc_Event) (xs:=x2.2) rfl rfl (ra_n) hp15 enc_Event_flat) rfl rfl rfl (ra_n) rfl (by decide) enc_Event_cells ha16 rfl (to_n))) ?_ (w_app rfl (aw_hs (path:=[]) (f:=enc_Event) (xs:=x2.2) rfl rfl (ra_n) enc_Event_flat rfl))
   refine dk 1 [3] [.hs 226 0 [] 4 0 ((a16).map enc_Event).length] ?_
   refine de 258 rfl rfl ?_
   refine cq 6 [4] [I ((w64 (x2.1 + 1)))] 306 ?_
   refine s_lp ?_
   exact rf [0,3,4] [226] (ih _ _ h hr hn :)
 · refine aq 1 ?_
   exact rf [3] [1] (hn _ (Option.some.inj h).symm :) (hk:=hK)
theorem Ffcp_run (list_1 : List Event) (r : (List Event)) (h : Ffcp list_1=some r) : RunF Ffcp_E Tryd.f69 [false] 0 (Ffcp_A list_1) (Ffcp_R r):=by
 show Run _ _ (Ffcp_Q list_1 r) [.code Ffcp_c] _
 refine rin (n:=48) [(0,.isl false ((list_1).map enc_Event))] [] 1 (by kernel_rfl) (by kernel_rfl) (by kernel_rfl) rfl ?_
 unfold Ffcp at h
 refine cq 6 [] [] 17 ?_
 refine oq 33 (.hs 17 0 [] 4 0 0) rfl (e_buildSlice rfl (bs_mk (f:=I) (xs:=[]) (z:=.agg [I (0),I (0),str ([]),I (0)]) (es:=[]) (ws:=[]) rfl rfl rfl (by decide) rfl (abs_each_plain rfl) rfl)) ?_
 refine cq 8 [3,4] [.hs 17 0 [] 4 0 0,I (0)] 65 ?_
 obtain ⟨y17,hy17,hy171,hy172⟩:=bJ h
 refine s_loop rfl ?_
 refine rf [0,3,4] [17] (Ffcp_la_run list_1 rfl _ _ hy17 (fun r' e st hq=>by rw [hy171 r' e] at hq; exact hq) fun u17 hu=>?_)
 replace h:=hy172 u17 hu
 refine cq 5 [2] [.hs 1 0 [] 4 0 ((u17).map enc_Event).length] 34 ?_
 obtain rfl:=Option.some.inj h
 exact s_ret rfl ⟨_,fin (vs:=[.hs 1 0 [] 4 0 ((u17).map enc_Event).length]) rfl (absE (abs1 rfl (abs_hs rfl rfl)) (absEN)) rfl (ou_f (ou_n)),kl_n⟩
theorem Ffcp_good {G : Go.Ln.Ground} : Good Tryd.prog G 69 Ffcp_ent:=good_T (fnOf_good (gl_c Ffcm_good (gl_n))) agree_mk (Checked.mixed Tryd.checked) Tryd.func69 (n:=1) (m:=0) ⟨rfl,rfl,by decide⟩ (fun _=>⟨rfl,rfl⟩) (fun a r h=>Ffcp_run a r h)
def Ffcd_A : (l1Cur × Int)→List V:=cA (upE encO_l1Cur) (oA I)
def Ffcd_R (r : (List Event) × l1Cur) : V × List V:=(.usl 4 ((r.1).map enc_Event),[.uptr (encI_l1Cur r.2)])
noncomputable def Ffcd_ent : Ent:=entT [true,false] Ffcd_A Ffcd_R fun x=>Ffcd x.1 x.2
theorem Ffcd_F {c_3 : l1Cur} {n_4 : Int} {r} (h : Ffcd c_3 n_4=some r) : (Ffcd_ent).F (Ffcd_A (c_3,n_4))=some (Ffcd_R r):=entT_F (cA_inj (uptr_inj encO_l1Cur_inj) (oA_inj I_inj)) h
noncomputable def Ffcd_c : Code:=bodyOf Tryd.f97
noncomputable def Ffcd_E : Env:=mkE Tryd.prog [(75,Ffch_ent),(98,Ffcc_ent),(69,Ffcp_ent)]
def Ffcd_Q (x : l1Cur × Int) (r : (List Event) × l1Cur) : St→Prop:=QF Ffcd_E Tryd.f97 [true,false] (Ffcd_A x) (Ffcd_R r)
theorem Ffcd_la_run (c_3 : l1Cur) (n_4 : Int)  {Q : St→Prop} {K : List It} (hK : noD K=true) : ∀ (x4 : Int × (List Int) × Int × Int × (List Event)) (y : ((List Event) × l1Cur) ⊕ ((List Int) × Int × Int × (List Event))),Ffcd_la c_3 n_4 x4=some y→(∀ r',y=.inl r'→∀ st,Ffcd_Q (c_3,n_4) r' st→Q st)→(∀ u : (List Int) × Int × Int × (List Event),y=.inr u→Run Ffcd_E 1 Q K (sT 23 [(5,.hs 2 0 [] 4 0 ((u.2.2.2).map enc_Event).length)] [⟨0,3,[.agg [.isl false ((u.1).map (V.int .u8)),I (u.2.1),.int .u64 (u.2.2.1)]]⟩,⟨0,4,(u.2.2.2).map enc_Event⟩] 3))→Run Ffcd_E 1 Q (.code (cL (cL (cR (cL (cR (cR Ffcd_c)))))) :: .lp (cL (cL (cR (cL (cR (cR Ffcd_c)))))) :: .blk 0 :: K) (sT 23 [(0,.hp 1 0 [] 3 0 0),(5,.hs 2 0 [] 4 0 ((x4.2.2.2.2).map enc_Event).length),(6,I (x4.1))] [⟨0,3,[.agg [.isl false ((x4.2.1).map (V.int .u8)),I (x4.2.2.1),.int .u64 (x4.2.2.2.1)]]⟩,⟨0,4,(x4.2.2.2.2).map enc_Event⟩] 3):=by
 refine fix_indP (Ffcd_la_fin c_3 n_4) ?_
 intro self ih x4 y h hr hn
 unfold Ffcd_la_F at h
 refine cq 6 [13] [B ((decide (x4.1 > 0)))] 35 ?_
 refine sq h (fun h=>?_) (fun h=>?_)
 · refine aq 1 ?_
   refine cq 5 [16,17] [.hs 2 0 [] 4 0 ((x4.2.2.2.2).map enc_Event).length,.hp 1 0 [] 3 0 0] 67 ?_
   obtain ⟨r5,hr5,h⟩:=bS h
   refine oq 83 (enc_Event r5.1) rfl (e_callV rfl rfl (call_P rfl rfl rfl (avO (hd1 rfl (hd_hp (path:=[]) rfl rfl (ra_n) rfl)) (avN)) (Ffcc_F hr5) (.inr rfl) (bl_c rfl rfl rfl rfl (bl_n)) rfl rfl rfl)) ?_
   refine oq 99 (.hs 83 0 [] 4 0 1) rfl (e_buildSlice rfl (bs_mk (f:=I) (xs:=[]) (z:=.agg [I (0),I (0),str ([]),I (0)]) (es:=[enc_Event r5.1]) (ws:=[enc_Event r5.1]) rfl rfl rfl (by decide) rfl (abs_each_plain rfl) rfl)) ?_
   obtain ⟨a6,ha6,h⟩:=bS h
   refine oq 115 (.hs 99 0 [] 4 0 ((a6).map enc_Event).length) rfl (e_append rfl rfl rfl rfl rfl (ap_hsM (path:=[]) (f:=enc_Event) (xs:=x4.2.2.2.2) (ys:=[r5.1]) rfl rfl (take_hs rfl rfl rfl) rfl rfl rfl (ra_n) rfl (by decide) enc_Event_cells ha6 rfl (to_n))) ?_
   refine cq 8 [5,6] [.hs 99 0 [] 4 0 ((a6).map enc_Event).length,I ((w64 (x4.1 - 1)))] 179 ?_
   refine s_lp ?_
   exact rf [0,5,6] [1,99] (ih _ _ h hr hn :)
 · refine aq 1 ?_
   exact rf [5] [1,2] (hn _ (Option.some.inj h).symm :) (hk:=hK)
theorem Ffcd_run (c_3 : l1Cur) (n_4 : Int) (r : (List Event) × l1Cur) (h : Ffcd c_3 n_4=some r) : RunF Ffcd_E Tryd.f97 [true,false] 1 (Ffcd_A (c_3,n_4)) (Ffcd_R r):=by
 show Run _ _ (Ffcd_Q (c_3,n_4) r) [.code Ffcd_c] _
 refine rin (n:=23) [(0,.hp 1 0 [] 3 0 0),(1,I (n_4))] [(1,some ⟨0,3,[encI_l1Cur c_3]⟩)] 2 (by kernel_rfl) (by kernel_rfl) (by kernel_rfl) rfl ?_
 unfold Ffcd at h
 refine cq 6 [] [] 18 ?_
 refine oq 34 (.hs 18 0 [] 4 0 0) rfl (e_buildSlice rfl (bs_mk (f:=I) (xs:=[]) (z:=.agg [I (0),I (0),str ([]),I (0)]) (es:=[]) (ws:=[]) rfl rfl rfl (by decide) rfl (abs_each_plain rfl) rfl)) ?_
 refine cq 8 [5,8,10] [.hs 18 0 [] 4 0 0,.hp 1 0 [] 3 0 0,I ((w64 (n_4 + 1)))] 98 ?_
 obtain ⟨r3,hr3,h⟩:=bS h
 refine oq 114 (I (r3.1)) rfl (e_callV rfl rfl (call_P rfl rfl rfl (avO (hd1 rfl (hd_hp (path:=[]) rfl rfl (ra_n) rfl)) (avS (shP rfl) (avN))) (Ffch_F hr3) (.inr rfl) (bl_c rfl rfl rfl rfl (bl_n)) rfl rfl rfl)) ?_
 refine cq 3 [6] [I (r3.1)] 130 ?_
 obtain ⟨y7,hy7,hy71,hy72⟩:=bJ h
 refine s_loop rfl ?_
 refine rf [0,5,6] [1,18] (Ffcd_la_run c_3 n_4 rfl _ _ hy7 (fun r' e st hq=>by rw [hy71 r' e] at hq; exact hq) fun u7 hu=>?_)
 replace h:=hy72 u7 hu
 refine cq 3 [21] [.hs 2 0 [] 4 0 ((u7.2.2.2).map enc_Event).length] 19 ?_
 obtain ⟨r8,hr8,h⟩:=bS h
 refine oq 35 (.hs 19 0 [] 4 0 ((r8).map enc_Event).length) rfl (e_callV rfl rfl (call_P rfl rfl rfl (avS (sh1 rfl rfl (sh_hsM (f:=enc_Event) (g:=enc_Event) (xs:=u7.2.2.2) rfl rfl (imms_of enc_Event_imm))) (avN)) (Ffcp_F hr8) (.inl (by simp [hasImm,hasImms,str,himm_map (f:=enc_Event) enc_Event_himm])) (bl_n) rfl rfl rfl)) ?_
 refine cq 2 [4] [.hs 19 0 [] 4 0 ((r8).map enc_Event).length] 51 ?_
 obtain rfl:=Option.some.inj h
 exact s_ret rfl ⟨_,fin (vs:=[.hs 19 0 [] 4 0 ((r8).map enc_Event).length]) rfl (absE (abs1 rfl (abs_hs rfl rfl)) (absEN)) rfl (ou_1 rfl (oc_hp rfl rfl) (ou_f (ou_n))),kl_c (kl_n)⟩
theorem Ffcd_good {G : Go.Ln.Ground} : Good Tryd.prog G 97 Ffcd_ent:=good_T (fnOf_good (gl_c Ffch_good (gl_c Ffcc_good (gl_c Ffcp_good (gl_n))))) agree_mk (Checked.mixed Tryd.checked) Tryd.func97 (n:=2) (m:=1) ⟨rfl,rfl,by decide⟩ (fun _=>⟨rfl,rfl⟩) (fun a r h=>Ffcd_run a.1 a.2 r h)
def Ffcg_A : (l1Cur × Int)→List V:=cA (upE encO_l1Cur) (oA I)
def Ffcg_R (r : Bool × l1Cur) : V × List V:=(B (r.1),[.uptr (encI_l1Cur r.2)])
noncomputable def Ffcg_ent : Ent:=entT [true,false] Ffcg_A Ffcg_R fun x=>Ffcg x.1 x.2
theorem Ffcg_F {c_3 : l1Cur} {n_4 : Int} {r} (h : Ffcg c_3 n_4=some r) : (Ffcg_ent).F (Ffcg_A (c_3,n_4))=some (Ffcg_R r):=entT_F (cA_inj (uptr_inj encO_l1Cur_inj) (oA_inj I_inj)) h
noncomputable def Ffcg_c : Code:=bodyOf Tryd.f127
noncomputable def Ffcg_E : Env:=mkE Tryd.prog [(75,Ffch_ent)]
def Ffcg_Q (x : l1Cur × Int) (r : Bool × l1Cur) : St→Prop:=QF Ffcg_E Tryd.f127 [true,false] (Ffcg_A x) (Ffcg_R r)
theorem Ffcg_run (c_3 : l1Cur) (n_4 : Int) (r : Bool × l1Cur) (h : Ffcg c_3 n_4=some r) : RunF Ffcg_E Tryd.f127 [true,false] 1 (Ffcg_A (c_3,n_4)) (Ffcg_R r):=by
 show Run _ _ (Ffcg_Q (c_3,n_4) r) [.code Ffcg_c] _
 refine rin (n:=9) [(0,.hp 1 0 [] 3 0 0),(1,I (n_4))] [(1,some ⟨0,3,[encI_l1Cur c_3]⟩)] 2 (by kernel_rfl) (by kernel_rfl) (by kernel_rfl) rfl ?_
 unfold Ffcg at h
 refine cq 8 [5,6] [.hp 1 0 [] 3 0 0,I (n_4)] 50 ?_
 obtain ⟨r3,hr3,h⟩:=bS h
 refine oq 66 (I (r3.1)) rfl (e_callV rfl rfl (call_P rfl rfl rfl (avO (hd1 rfl (hd_hp (path:=[]) rfl rfl (ra_n) rfl)) (avS (shP rfl) (avN))) (Ffch_F hr3) (.inr rfl) (bl_c rfl rfl rfl rfl (bl_n)) rfl rfl rfl)) ?_
 refine cq 3 [4] [B ((r3.1 == 0))] 98 ?_
 obtain rfl:=Option.some.inj h
 exact s_ret rfl ⟨_,fin (vs:=[B ((r3.1 == 0))]) rfl (absE (absorb_plain rfl) (absEN)) rfl (ou_1 rfl (oc_hp rfl rfl) (ou_f (ou_n))),kl_c (kl_n)⟩
theorem Ffcg_good {G : Go.Ln.Ground} : Good Tryd.prog G 127 Ffcg_ent:=good_T (fnOf_good (gl_c Ffch_good (gl_n))) agree_mk (Checked.mixed Tryd.checked) Tryd.func127 (n:=2) (m:=1) ⟨rfl,rfl,by decide⟩ (fun _=>⟨rfl,rfl⟩) (fun a r h=>Ffcg_run a.1 a.2 r h)
def Ffcb_A : l1Cur→List V:=oA (upE encO_l1Cur)
def Ffcb_R (r : Int × l1Cur) : V × List V:=(I (r.1),[.uptr (encI_l1Cur r.2)])
noncomputable def Ffcb_ent : Ent:=entT [true] Ffcb_A Ffcb_R fun x=>Ffcb x
theorem Ffcb_F {c_2 : l1Cur} {r} (h : Ffcb c_2=some r) : (Ffcb_ent).F (Ffcb_A c_2)=some (Ffcb_R r):=entT_F (oA_inj (uptr_inj encO_l1Cur_inj)) h
noncomputable def Ffcb_c : Code:=bodyOf Tryd.f128
noncomputable def Ffcb_E : Env:=mkE Tryd.prog [(75,Ffch_ent),(76,Ffby_ent)]
def Ffcb_Q (x : l1Cur) (r : Int × l1Cur) : St→Prop:=QF Ffcb_E Tryd.f128 [true] (Ffcb_A x) (Ffcb_R r)
theorem Ffcb_run (c_2 : l1Cur) (r : Int × l1Cur) (h : Ffcb c_2=some r) : RunF Ffcb_E Tryd.f128 [true] 1 (Ffcb_A c_2) (Ffcb_R r):=by
 show Run _ _ (Ffcb_Q c_2 r) [.code Ffcb_c] _
 refine rin (n:=16) [(0,.hp 1 0 [] 3 0 0)] [(1,some ⟨0,3,[encI_l1Cur c_2]⟩)] 2 (by kernel_rfl) (by kernel_rfl) (by kernel_rfl) rfl ?_
 unfold Ffcb at h
 refine cq 8 [3] [.hp 1 0 [] 3 0 0] 34 ?_
 obtain ⟨r2,hr2,h⟩:=bS h
 refine oq 50 (I (r2.1)) rfl (e_callV rfl rfl (call_P rfl rfl rfl (avO (hd1 rfl (hd_hp (path:=[]) rfl rfl (ra_n) rfl)) (avS (shP rfl) (avN))) (Ffch_F hr2) (.inr rfl) (bl_c rfl rfl rfl rfl (bl_n)) rfl rfl rfl)) ?_
 refine cq 7 [5] [B ((r2.1 == 0))] 82 ?_
 refine sq h (fun h=>?_) (fun h=>?_)
 · refine cq 3 [7] [.hp 1 0 [] 3 0 0] 98 ?_
   refine oq 114 (.hs 98 0 [] 1 0 11) rfl (e_buildSlice rfl (bs_mk (f:=I) (xs:=[]) (z:=I (0)) (es:=[I (0),I (59),I (60),I (365),I (366),I (424),I (425),I (36524),I (36523),I (30),I (31)]) (ws:=[I (0),I (59),I (60),I (365),I (366),I (424),I (425),I (36524),I (36523),I (30),I (31)]) rfl rfl rfl (by decide) rfl (abs_each_plain rfl) rfl)) ?_
   obtain ⟨r3,hr3,h⟩:=bS h
   refine oK 130 (I (r3.1)) rfl rfl (e_callK rfl rfl (call_K rfl rfl rfl rfl (avO (hd1 rfl (hd_hp (path:=[]) rfl rfl (ra_n) rfl)) (avS (sh1 rfl rfl (sh_hsM (f:=I) (g:=I) (xs:=[0,59,60,365,366,424,425,36524,36523,30,31]) rfl rfl (imms_of I_imm))) (avN))) (Ffby_F hr3) (bl_c rfl rfl rfl rfl (bl_n)) rfl rfl rfl)) ?_
   refine cq 2 [2] [I (r3.1)] 146 ?_
   obtain rfl:=Option.some.inj h
   exact s_ret rfl ⟨_,fin (vs:=[I (r3.1)]) rfl (absE (absorb_plain rfl) (absEN)) rfl (ou_1 rfl (oc_hp rfl rfl) (ou_n)),kl_c (kl_n)⟩
 · refine cq 5 [10] [B ((r2.1 == 1))] 114 ?_
   refine sq h (fun h=>?_) (fun h=>?_)
   · refine cq 3 [12] [.hp 1 0 [] 3 0 0] 130 ?_
     obtain ⟨r4,hr4,h⟩:=bS h
     refine oq 146 (I (r4.1)) rfl (e_callV rfl rfl (call_P rfl rfl rfl (avO (hd1 rfl (hd_hp (path:=[]) rfl rfl (ra_n) rfl)) (avS (shP rfl) (avN))) (Ffch_F hr4) (.inr rfl) (bl_c rfl rfl rfl rfl (bl_n)) rfl rfl rfl)) ?_
     refine cq 2 [2] [I (r4.1)] 162 ?_
     obtain rfl:=Option.some.inj h
     exact s_ret rfl ⟨_,fin (vs:=[I (r4.1)]) rfl (absE (absorb_plain rfl) (absEN)) rfl (ou_1 rfl (oc_hp rfl rfl) (ou_n)),kl_c (kl_n)⟩
   · refine aq 1 ?_
     refine cq 4 [14] [.hp 1 0 [] 3 0 0] 130 ?_
     obtain ⟨r5,hr5,h⟩:=bS h
     refine oq 146 (I (r5.1)) rfl (e_callV rfl rfl (call_P rfl rfl rfl (avO (hd1 rfl (hd_hp (path:=[]) rfl rfl (ra_n) rfl)) (avS (shP rfl) (avN))) (Ffch_F hr5) (.inr rfl) (bl_c rfl rfl rfl rfl (bl_n)) rfl rfl rfl)) ?_
     refine cq 2 [2] [I (r5.1)] 162 ?_
     obtain rfl:=Option.some.inj h
     exact s_ret rfl ⟨_,fin (vs:=[I (r5.1)]) rfl (absE (absorb_plain rfl) (absEN)) rfl (ou_1 rfl (oc_hp rfl rfl) (ou_n)),kl_c (kl_n)⟩
theorem Ffcb_good {G : Go.Ln.Ground} : Good Tryd.prog G 128 Ffcb_ent:=good_T (fnOf_good (gl_c Ffch_good (gl_c Ffby_good (gl_n)))) agree_mk (Checked.mixed Tryd.checked) Tryd.func128 (n:=1) (m:=1) ⟨rfl,rfl,by decide⟩ (fun _=>⟨rfl,rfl⟩) (fun a r h=>Ffcb_run a r h)
def Ffbz_A : l1Cur→List V:=oA (upE encO_l1Cur)
def Ffbz_R (r : Int × l1Cur) : V × List V:=(I (r.1),[.uptr (encI_l1Cur r.2)])
noncomputable def Ffbz_ent : Ent:=entT [true] Ffbz_A Ffbz_R fun x=>Ffbz x
theorem Ffbz_F {c_2 : l1Cur} {r} (h : Ffbz c_2=some r) : (Ffbz_ent).F (Ffbz_A c_2)=some (Ffbz_R r):=entT_F (oA_inj (uptr_inj encO_l1Cur_inj)) h
noncomputable def Ffbz_c : Code:=bodyOf Tryd.f99
noncomputable def Ffbz_E : Env:=mkE Tryd.prog [(127,Ffcg_ent),(76,Ffby_ent),(128,Ffcb_ent)]
def Ffbz_Q (x : l1Cur) (r : Int × l1Cur) : St→Prop:=QF Ffbz_E Tryd.f99 [true] (Ffbz_A x) (Ffbz_R r)
theorem Ffbz_run (c_2 : l1Cur) (r : Int × l1Cur) (h : Ffbz c_2=some r) : RunF Ffbz_E Tryd.f99 [true] 1 (Ffbz_A c_2) (Ffbz_R r):=by
 show Run _ _ (Ffbz_Q c_2 r) [.code Ffbz_c] _
 refine rin (n:=10) [(0,.hp 1 0 [] 3 0 0)] [(1,some ⟨0,3,[encI_l1Cur c_2]⟩)] 2 (by kernel_rfl) (by kernel_rfl) (by kernel_rfl) rfl ?_
 unfold Ffbz at h
 refine cq 8 [3] [.hp 1 0 [] 3 0 0] 34 ?_
 obtain ⟨r2,hr2,h⟩:=bS h
 refine oq 50 (B (r2.1)) rfl (e_callV rfl rfl (call_P rfl rfl rfl (avO (hd1 rfl (hd_hp (path:=[]) rfl rfl (ra_n) rfl)) (avS (shP rfl) (avN))) (Ffcg_F hr2) (.inr rfl) (bl_c rfl rfl rfl rfl (bl_n)) rfl rfl rfl)) ?_
 refine aq 1 ?_
 refine sq h (fun h=>?_) (fun h=>?_)
 · refine cq 3 [5] [.hp 1 0 [] 3 0 0] 66 ?_
   refine oq 82 (.hs 66 0 [] 1 0 4) rfl (e_buildSlice rfl (bs_mk (f:=I) (xs:=[]) (z:=I (0)) (es:=[I ((-1)),I (36524),I (36525),I (1099511627776)]) (ws:=[I ((-1)),I (36524),I (36525),I (1099511627776)]) rfl rfl rfl (by decide) rfl (abs_each_plain rfl) rfl)) ?_
   obtain ⟨r3,hr3,h⟩:=bS h
   refine oK 98 (I (r3.1)) rfl rfl (e_callK rfl rfl (call_K rfl rfl rfl rfl (avO (hd1 rfl (hd_hp (path:=[]) rfl rfl (ra_n) rfl)) (avS (sh1 rfl rfl (sh_hsM (f:=I) (g:=I) (xs:=[(-1),36524,36525,1099511627776]) rfl rfl (imms_of I_imm))) (avN))) (Ffby_F hr3) (bl_c rfl rfl rfl rfl (bl_n)) rfl rfl rfl)) ?_
   refine cq 2 [2] [I (r3.1)] 114 ?_
   obtain rfl:=Option.some.inj h
   exact s_ret rfl ⟨_,fin (vs:=[I (r3.1)]) rfl (absE (absorb_plain rfl) (absEN)) rfl (ou_1 rfl (oc_hp rfl rfl) (ou_n)),kl_c (kl_n)⟩
 · refine aq 1 ?_
   refine cq 3 [8] [.hp 1 0 [] 3 0 0] 66 ?_
   obtain ⟨r4,hr4,h⟩:=bS h
   refine oq 82 (I (r4.1)) rfl (e_callV rfl rfl (call_P rfl rfl rfl (avO (hd1 rfl (hd_hp (path:=[]) rfl rfl (ra_n) rfl)) (avN)) (Ffcb_F hr4) (.inr rfl) (bl_c rfl rfl rfl rfl (bl_n)) rfl rfl rfl)) ?_
   refine cq 2 [2] [I (r4.1)] 98 ?_
   obtain rfl:=Option.some.inj h
   exact s_ret rfl ⟨_,fin (vs:=[I (r4.1)]) rfl (absE (absorb_plain rfl) (absEN)) rfl (ou_1 rfl (oc_hp rfl rfl) (ou_n)),kl_c (kl_n)⟩
theorem Ffbz_good {G : Go.Ln.Ground} : Good Tryd.prog G 99 Ffbz_ent:=good_T (fnOf_good (gl_c Ffcg_good (gl_c Ffby_good (gl_c Ffcb_good (gl_n))))) agree_mk (Checked.mixed Tryd.checked) Tryd.func99 (n:=1) (m:=1) ⟨rfl,rfl,by decide⟩ (fun _=>⟨rfl,rfl⟩) (fun a r h=>Ffbz_run a r h)
def Ffca_A : l1Cur→List V:=oA (upE encO_l1Cur)
def Ffca_R (r : (List Event) × l1Cur) : V × List V:=(.usl 4 ((r.1).map enc_Event),[.uptr (encI_l1Cur r.2)])
noncomputable def Ffca_ent : Ent:=entT [true] Ffca_A Ffca_R fun x=>Ffca x
theorem Ffca_F {c_2 : l1Cur} {r} (h : Ffca c_2=some r) : (Ffca_ent).F (Ffca_A c_2)=some (Ffca_R r):=entT_F (oA_inj (uptr_inj encO_l1Cur_inj)) h
noncomputable def Ffca_c : Code:=bodyOf Tryd.f74
noncomputable abbrev Ffca_ka : Code:=cL (cL (cL (cR (cR (cR (cR (cR (cL (cR (cL (cR (cR Ffca_c))))))))))))
noncomputable def Ffca_E : Env:=mkE Tryd.prog [(97,Ffcd_ent),(75,Ffch_ent),(98,Ffcc_ent),(99,Ffbz_ent),(100,Ffcf_ent),(76,Ffby_ent)]
def Ffca_Q (x : l1Cur) (r : (List Event) × l1Cur) : St→Prop:=QF Ffca_E Tryd.f74 [true] (Ffca_A x) (Ffca_R r)
theorem Ffca_la_run (c_2 : l1Cur)  {Q : St→Prop} {K : List It} (hK : noD K=true) : ∀ (x14 : (List Int) × Int × Int × (List Event)) (y : ((List Event) × l1Cur) ⊕ ((List Int) × Int × Int × (List Event))),Ffca_la c_2 x14=some y→(∀ r',y=.inl r'→∀ st,Ffca_Q c_2 r' st→Q st)→(∀ u : (List Int) × Int × Int × (List Event),y=.inr u→Run Ffca_E 1 Q K (sT 45 [(3,.hs 2 0 [] 4 0 ((u.2.2.2).map enc_Event).length)] [⟨0,3,[.agg [.isl false ((u.1).map (V.int .u8)),I (u.2.1),.int .u64 (u.2.2.1)]]⟩,⟨0,4,(u.2.2.2).map enc_Event⟩] 3))→Run Ffca_E 1 Q (.code Ffca_ka :: .lp Ffca_ka :: .blk 1 :: K) (sT 45 [(0,.hp 1 0 [] 3 0 0),(3,.hs 2 0 [] 4 0 ((x14.2.2.2).map enc_Event).length)] [⟨0,3,[.agg [.isl false ((x14.1).map (V.int .u8)),I (x14.2.1),.int .u64 (x14.2.2.1)]]⟩,⟨0,4,(x14.2.2.2).map enc_Event⟩] 3):=by
 refine fix_indP (Ffca_la_fin c_2) ?_
 intro self ih x14 y h hr hn
 unfold Ffca_la_F at h
 refine cq 4 [34] [.hs 2 0 [] 4 0 ((x14.2.2.2).map enc_Event).length] 19 ?_
 refine oq 35 (I ((len x14.2.2.2))) rfl (e_len rfl rfl rfl (l_hsM (f:=enc_Event) (xs:=x14.2.2.2) rfl rfl)) ?_
 refine cq 1 [36] [.hp 1 0 [] 3 0 0] 51 ?_
 obtain ⟨r15,hr15,h⟩:=bS h
 refine oq 67 (I (r15.1)) rfl (e_callV rfl rfl (call_P rfl rfl rfl (avO (hd1 rfl (hd_hp (path:=[]) rfl rfl (ra_n) rfl)) (avS (shP rfl) (avN))) (Ffch_F hr15) (.inr rfl) (bl_c rfl rfl rfl rfl (bl_n)) rfl rfl rfl)) ?_
 refine cq 3 [39] [B ((decide ((len x14.2.2.2) < (w64 (40 + r15.1)))))] 99 ?_
 refine sq h (fun h=>?_) (fun h=>?_)
 · refine aq 1 ?_
   refine cq 4 [40,41] [.hs 2 0 [] 4 0 ((x14.2.2.2).map enc_Event).length,.agg [I (50),I (0),str (([97] : Str)),I (0)]] 131 ?_
   refine oq 147 (.hs 131 0 [] 4 0 1) rfl (e_buildSlice rfl (bs_mk (f:=I) (xs:=[]) (z:=.agg [I (0),I (0),str ([]),I (0)]) (es:=[.agg [I (50),I (0),str (([97] : Str)),I (0)]]) (ws:=[.agg [I (50),I (0),str (([97] : Str)),I (0)]]) rfl rfl rfl (by decide) rfl (abs_each_plain rfl) rfl)) ?_
   obtain ⟨a16,ha16,h⟩:=bS h
   refine oq 163 (.hs 147 0 [] 4 0 ((a16).map enc_Event).length) rfl (e_append rfl rfl rfl rfl rfl (ap_hsM (path:=[]) (f:=enc_Event) (xs:=x14.2.2.2) (ys:=[(Event.mk 50 0 ([97] : Str) 0)]) rfl rfl (take_hs rfl rfl rfl) rfl rfl rfl (ra_n) rfl (by decide) enc_Event_cells ha16 rfl (to_n))) ?_
   refine cq 3 [3] [.hs 147 0 [] 4 0 ((a16).map enc_Event).length] 179 ?_
   refine s_lp ?_
   exact rf [0,3] [1,147] (ih _ _ h hr hn :)
 · refine aq 1 ?_
   exact rf [3] [1,2] (hn _ (Option.some.inj h).symm :) (hk:=hK)
theorem Ffca_run (c_2 : l1Cur) (r : (List Event) × l1Cur) (h : Ffca c_2=some r) : RunF Ffca_E Tryd.f74 [true] 1 (Ffca_A c_2) (Ffca_R r):=by
 show Run _ _ (Ffca_Q c_2 r) [.code Ffca_c] _
 refine rin (n:=45) [(0,.hp 1 0 [] 3 0 0)] [(1,some ⟨0,3,[encI_l1Cur c_2]⟩)] 2 (by kernel_rfl) (by kernel_rfl) (by kernel_rfl) rfl ?_
 unfold Ffca at h
 refine cq 7 [4] [.hp 1 0 [] 3 0 0] 34 ?_
 obtain ⟨r2,hr2,h⟩:=bS h
 refine oq 50 (.hs 34 0 [] 4 0 ((r2.1).map enc_Event).length) rfl (e_callV rfl rfl (call_P rfl rfl rfl (avO (hd1 rfl (hd_hp (path:=[]) rfl rfl (ra_n) rfl)) (avS (shP rfl) (avN))) (Ffcd_F hr2) (.inr rfl) (bl_c rfl rfl rfl rfl (bl_n)) rfl rfl rfl)) ?_
 refine cq 6 [3,6] [.hs 34 0 [] 4 0 ((r2.1).map enc_Event).length,.hp 1 0 [] 3 0 0] 82 ?_
 obtain ⟨r3,hr3,h⟩:=bS h
 refine oq 98 (I (r3.1)) rfl (e_callV rfl rfl (call_P rfl rfl rfl (avO (hd1 rfl (hd_hp (path:=[]) rfl rfl (ra_n) rfl)) (avS (shP rfl) (avN))) (Ffch_F hr3) (.inr rfl) (bl_c rfl rfl rfl rfl (bl_n)) rfl rfl rfl)) ?_
 refine cq 7 [8] [B ((r3.1 == 0))] 130 ?_
 obtain ⟨y4,hy4,hy41,hy42⟩:=bJ h
 have j4 : ∀ u4,y4=.inr u4→Run Ffca_E 1 (Ffca_Q c_2 r) (.blk 0 :: .code (cR (cR (cR Ffca_c))) :: []) (sT 45 [(3,.hs 2 0 [] 4 0 ((u4.2.2.2).map enc_Event).length)] [⟨0,3,[.agg [.isl false ((u4.1).map (V.int .u8)),I (u4.2.1),.int .u64 (u4.2.2.1)]]⟩,⟨0,4,(u4.2.2.2).map enc_Event⟩] 3):=by
   intro u4 hu
   replace h:=hy42 u4 hu
   refine cq 6 [2] [.hs 2 0 [] 4 0 ((u4.2.2.2).map enc_Event).length] 35 ?_
   obtain rfl:=Option.some.inj h
   exact s_ret rfl ⟨_,fin (vs:=[.hs 2 0 [] 4 0 ((u4.2.2.2).map enc_Event).length]) rfl (absE (abs1 rfl (abs_hs rfl rfl)) (absEN)) rfl (ou_1 rfl (oc_hp rfl rfl) (ou_n)),kl_c (kl_n)⟩
 have r4 : ∀ r',y4=.inl r'→∀ st,Ffca_Q c_2 r' st→(Ffca_Q c_2 r) st:=fun r' e st hq=>by rw [hy41 r' e] at hq; exact hq
 replace h:=hy4
 refine sq h (fun h=>?_) (fun h=>?_)
 · refine cq 3 [10,11] [.hs 34 0 [] 4 0 ((r2.1).map enc_Event).length,.hp 1 0 [] 3 0 0] 162 ?_
   obtain ⟨r5,hr5,h⟩:=bS h
   refine oq 178 (enc_Event r5.1) rfl (e_callV rfl rfl (call_P rfl rfl rfl (avO (hd1 rfl (hd_hp (path:=[]) rfl rfl (ra_n) rfl)) (avN)) (Ffcc_F hr5) (.inr rfl) (bl_c rfl rfl rfl rfl (bl_n)) rfl rfl rfl)) ?_
   refine oq 194 (.hs 178 0 [] 4 0 1) rfl (e_buildSlice rfl (bs_mk (f:=I) (xs:=[]) (z:=.agg [I (0),I (0),str ([]),I (0)]) (es:=[enc_Event r5.1]) (ws:=[enc_Event r5.1]) rfl rfl rfl (by decide) rfl (abs_each_plain rfl) rfl)) ?_
   obtain ⟨a6,ha6,h⟩:=bS h
   refine oq 210 (.hs 194 0 [] 4 0 ((a6).map enc_Event).length) rfl (e_append rfl rfl rfl rfl rfl (ap_hsM (path:=[]) (f:=enc_Event) (xs:=r2.1) (ys:=[r5.1]) rfl rfl (take_hs rfl rfl rfl) rfl rfl rfl (ra_n) rfl (by decide) enc_Event_cells ha6 rfl (to_n))) ?_
   refine cq 2 [3] [.hs 194 0 [] 4 0 ((a6).map enc_Event).length] 226 ?_
   exact rf [3] [1,194] (j4 _ (Option.some.inj h).symm :)
 · refine cq 5 [15] [B ((r3.1 == 1))] 162 ?_
   obtain ⟨y7,hy7,hy71,hy72⟩:=bL h
   have j7 : ∀ u7,y7=.inr u7→Run Ffca_E 1 (Ffca_Q c_2 r) (.blk 0 :: .code (cR (cR (cR Ffca_c))) :: []) (sT 45 [(3,.hs 2 0 [] 4 0 ((u7.2.2.2).map enc_Event).length)] [⟨0,3,[.agg [.isl false ((u7.1).map (V.int .u8)),I (u7.2.1),.int .u64 (u7.2.2.1)]]⟩,⟨0,4,(u7.2.2.2).map enc_Event⟩] 3):=by
     intro u7 hu
     replace h:=hy72 u7 hu
     exact rf [3] [1,2] (j4 _ (Option.some.inj h).symm :)
   have r7 : ∀ r',y7=.inl r'→∀ st,Ffca_Q c_2 r' st→(Ffca_Q c_2 r) st:=fun r' e st hq=>r4 r' (hy71 r' e) st hq
   replace h:=hy7
   refine sq h (fun h=>?_) (fun h=>?_)
   · refine cq 3 [17,18] [.hs 34 0 [] 4 0 ((r2.1).map enc_Event).length,.hp 1 0 [] 3 0 0] 194 ?_
     obtain ⟨r8,hr8,h⟩:=bS h
     refine oq 210 (I (r8.1)) rfl (e_callV rfl rfl (call_P rfl rfl rfl (avO (hd1 rfl (hd_hp (path:=[]) rfl rfl (ra_n) rfl)) (avN)) (Ffbz_F hr8) (.inr rfl) (bl_c rfl rfl rfl rfl (bl_n)) rfl rfl rfl)) ?_
     refine cq 1 [20] [.hp 1 0 [] 3 0 0] 226 ?_
     obtain ⟨r9,hr9,h⟩:=bS h
     refine oq 242 (I (r9.1)) rfl (e_callV rfl rfl (call_P rfl rfl rfl (avO (hd1 rfl (hd_hp (path:=[]) rfl rfl (ra_n) rfl)) (avS (shP rfl) (avN))) (Ffch_F hr9) (.inr rfl) (bl_c rfl rfl rfl rfl (bl_n)) rfl rfl rfl)) ?_
     refine cq 2 [22,23] [I ((w64 (r9.1 - 1))),.hp 1 0 [] 3 0 0] 274 ?_
     refine oq 290 (.hs 274 0 [] 1 0 3) rfl (e_buildSlice rfl (bs_mk (f:=I) (xs:=[]) (z:=str ([])) (es:=[str (([97] : Str)),str (([] : Str)),str (([111,114] : Str))]) (ws:=[str (([97] : Str)),str (([] : Str)),str (([111,114] : Str))]) rfl rfl rfl (by decide) rfl (abs_each_plain rfl) rfl)) ?_
     obtain ⟨r10,hr10,h⟩:=bS h
     refine oK 306 (str (r10.1)) rfl rfl (e_callK rfl rfl (call_K rfl rfl rfl rfl (avO (hd1 rfl (hd_hp (path:=[]) rfl rfl (ra_n) rfl)) (avS (sh1 rfl rfl (sh_hsM (f:=str) (g:=str) (xs:=[([97] : Str),([] : Str),([111,114] : Str)]) rfl rfl (imms_of str_imm))) (avN))) (Ffcf_F hr10) (bl_c rfl rfl rfl rfl (bl_n)) rfl rfl rfl)) ?_
     refine cq 1 [26] [.hp 1 0 [] 3 0 0] 322 ?_
     refine oq 338 (.hs 322 0 [] 1 0 4) rfl (e_buildSlice rfl (bs_mk (f:=I) (xs:=[]) (z:=I (0)) (es:=[I (0),I ((-1)),I (1000000),I (1000001)]) (ws:=[I (0),I ((-1)),I (1000000),I (1000001)]) rfl rfl rfl (by decide) rfl (abs_each_plain rfl) rfl)) ?_
     obtain ⟨r11,hr11,h⟩:=bS h
     refine oK 354 (I (r11.1)) rfl rfl (e_callK rfl rfl (call_K rfl rfl rfl rfl (avO (hd1 rfl (hd_hp (path:=[]) rfl rfl (ra_n) rfl)) (avS (sh1 rfl rfl (sh_hsM (f:=I) (g:=I) (xs:=[0,(-1),1000000,1000001]) rfl rfl (imms_of I_imm))) (avN))) (Ffby_F hr11) (bl_c rfl rfl rfl rfl (bl_n)) rfl rfl rfl)) ?_
     refine cq 1 [29] [.agg [I (r8.1),I ((w64 (r9.1 - 1))),str (r10.1),I (r11.1)]] 370 ?_
     refine oq 386 (.hs 370 0 [] 4 0 1) rfl (e_buildSlice rfl (bs_mk (f:=I) (xs:=[]) (z:=.agg [I (0),I (0),str ([]),I (0)]) (es:=[.agg [I (r8.1),I ((w64 (r9.1 - 1))),str (r10.1),I (r11.1)]]) (ws:=[.agg [I (r8.1),I ((w64 (r9.1 - 1))),str (r10.1),I (r11.1)]]) rfl rfl rfl (by decide) rfl (abs_each_plain rfl) rfl)) ?_
     obtain ⟨a12,ha12,h⟩:=bS h
     refine oq 402 (.hs 386 0 [] 4 0 ((a12).map enc_Event).length) rfl (e_append rfl rfl rfl rfl rfl (ap_hsM (path:=[]) (f:=enc_Event) (xs:=r2.1) (ys:=[(Event.mk r8.1 (w64 (r9.1 - 1)) r10.1 r11.1)]) rfl rfl (take_hs rfl rfl rfl) rfl rfl rfl (ra_n) rfl (by decide) enc_Event_cells ha12 rfl (to_n))) ?_
     refine cq 2 [3] [.hs 386 0 [] 4 0 ((a12).map enc_Event).length] 418 ?_
     exact rf [3] [1,386] (j7 _ (Option.some.inj h).symm :)
   · refine cq 5 [32] [B ((r3.1 == 2))] 194 ?_
     obtain ⟨y13,hy13,hy131,hy132⟩:=bL h
     have j13 : ∀ u13,y13=.inr u13→Run Ffca_E 1 (Ffca_Q c_2 r) (.blk 0 :: .code (cR (cR (cR Ffca_c))) :: []) (sT 45 [(3,.hs 2 0 [] 4 0 ((u13.2.2.2).map enc_Event).length)] [⟨0,3,[.agg [.isl false ((u13.1).map (V.int .u8)),I (u13.2.1),.int .u64 (u13.2.2.1)]]⟩,⟨0,4,(u13.2.2.2).map enc_Event⟩] 3):=by
       intro u13 hu
       replace h:=hy132 u13 hu
       exact rf [3] [1,2] (j7 _ (Option.some.inj h).symm :)
     have r13 : ∀ r',y13=.inl r'→∀ st,Ffca_Q c_2 r' st→(Ffca_Q c_2 r) st:=fun r' e st hq=>r7 r' (hy131 r' e) st hq
     replace h:=hy13
     refine sq h (fun h=>?_) (fun h=>?_)
     · refine aq 1 ?_
       obtain ⟨y17,hy17,hy171,hy172⟩:=bL h
       refine s_loop rfl ?_
       refine rf [0,3] [1,34] (Ffca_la_run c_2 rfl _ _ hy17 (fun r' e st hq=>r13 r' (hy171 r' e) st hq) fun u17 hu=>?_)
       replace h:=hy172 u17 hu
       exact rf [3] [1,2] (j13 _ (Option.some.inj h).symm :)
     · refine aq 1 ?_
       exact rf [3] [1,34] (j13 _ (Option.some.inj h).symm :)
theorem Ffca_good {G : Go.Ln.Ground} : Good Tryd.prog G 74 Ffca_ent:=good_T (fnOf_good (gl_c Ffcd_good (gl_c Ffch_good (gl_c Ffcc_good (gl_c Ffbz_good (gl_c Ffcf_good (gl_c Ffby_good (gl_n)))))))) agree_mk (Checked.mixed Tryd.checked) Tryd.func74 (n:=1) (m:=1) ⟨rfl,rfl,by decide⟩ (fun _=>⟨rfl,rfl⟩) (fun a r h=>Ffca_run a r h)
def Ffbu_A : ((List Int))→List V:=oA (slE (V.int .u8))
def Ffbu_R (r : (List Event) × Int) : V × List V:=(.tup [.usl 4 ((r.1).map enc_Event),I (r.2)],[])
noncomputable def Ffbu_ent : Ent:=entT [false] Ffbu_A Ffbu_R fun x=>Ffbu x
theorem Ffbu_F {code_1 : List Int} {r} (h : Ffbu code_1=some r) : (Ffbu_ent).F (Ffbu_A code_1)=some (Ffbu_R r):=entT_F (oA_inj (isl_inj (vint_inj (k:=.u8)))) h
noncomputable def Ffbu_c : Code:=bodyOf Tryd.f45
noncomputable def Ffbu_E : Env:=mkE Tryd.prog [(74,Ffca_ent),(76,Ffby_ent),(75,Ffch_ent)]
def Ffbu_Q (x : (List Int)) (r : (List Event) × Int) : St→Prop:=QF Ffbu_E Tryd.f45 [false] (Ffbu_A x) (Ffbu_R r)
theorem Ffbu_run (code_1 : List Int) (r : (List Event) × Int) (h : Ffbu code_1=some r) : RunF Ffbu_E Tryd.f45 [false] 0 (Ffbu_A code_1) (Ffbu_R r):=by
 show Run _ _ (Ffbu_Q code_1 r) [.code Ffbu_c] _
 refine rin (n:=32) [(0,.isl false ((code_1).map (V.int .u8)))] [] 1 (by kernel_rfl) (by kernel_rfl) (by kernel_rfl) rfl ?_
 unfold Ffbu at h
 refine ck 15 [4,10] [] [65] [] [.hp 65 0 [] 3 0 0,.hp 65 0 [] 3 0 0] [some ⟨0,3,[.agg [.isl false ((code_1).map (V.int .u8)),I (0),.int .u64 (0)]]⟩] 113 (by kernel_rfl) ?_
 obtain ⟨r2,hr2,h⟩:=bS h
 refine oq 129 (.hs 113 0 [] 4 0 ((r2.1).map enc_Event).length) rfl (e_callV rfl rfl (call_P rfl rfl rfl (avO (hd1 rfl (hd_hp (path:=[]) rfl rfl (ra_n) rfl)) (avN)) (Ffca_F hr2) (.inr rfl) (bl_c rfl rfl rfl rfl (bl_n)) rfl rfl rfl)) ?_
 refine cq 6 [5,12] [.hs 113 0 [] 4 0 ((r2.1).map enc_Event).length,.hs 113 0 [] 4 0 ((r2.1).map enc_Event).length] 161 ?_
 refine oq 177 (I ((len r2.1))) rfl (e_len rfl rfl rfl (l_hsM (f:=enc_Event) (xs:=r2.1) rfl rfl)) ?_
 refine cq 2 [14] [B ((decide ((len r2.1) > 1)))] 193 ?_
 obtain ⟨y3,hy3,hy31,hy32⟩:=bJ h
 have j3 : ∀ u3,y3=.inr u3→Run Ffbu_E 0 (Ffbu_Q code_1 r) (.code (cR (cR (cR (cR Ffbu_c)))) :: []) (sT 32 [(4,.hp 1 0 [] 3 0 0),(5,.hs 2 0 [] 4 0 ((u3.2.2.2).map enc_Event).length)] [⟨0,3,[.agg [.isl false ((u3.1).map (V.int .u8)),I (u3.2.1),.int .u64 (u3.2.2.1)]]⟩,⟨0,4,(u3.2.2.2).map enc_Event⟩] 3):=by
   intro u3 hu
   replace h:=hy32 u3 hu
   refine cq 4 [28,29] [.hs 2 0 [] 4 0 ((u3.2.2.2).map enc_Event).length,.hp 1 0 [] 3 0 0] 35 ?_
   refine oq 51 (.hs 35 0 [] 1 0 7) rfl (e_buildSlice rfl (bs_mk (f:=I) (xs:=[]) (z:=I (0)) (es:=[I (2),I (2),I (2),I (3),I (4),I (1),I (5)]) (ws:=[I (2),I (2),I (2),I (3),I (4),I (1),I (5)]) rfl rfl rfl (by decide) rfl (abs_each_plain rfl) rfl)) ?_
   obtain ⟨r4,hr4,h⟩:=bS h
   refine oK 67 (I (r4.1)) rfl rfl (e_callK rfl rfl (call_K rfl rfl rfl rfl (avO (hd1 rfl (hd_hp (path:=[]) rfl rfl (ra_n) rfl)) (avS (sh1 rfl rfl (sh_hsM (f:=I) (g:=I) (xs:=[2,2,2,3,4,1,5]) rfl rfl (imms_of I_imm))) (avN))) (Ffby_F hr4) (bl_c rfl rfl rfl rfl (bl_n)) rfl rfl rfl)) ?_
   refine cq 3 [2,3] [.hs 2 0 [] 4 0 ((u3.2.2.2).map enc_Event).length,I (r4.1)] 99 ?_
   obtain rfl:=Option.some.inj h
   exact s_ret rfl ⟨_,fin (vs:=[.hs 2 0 [] 4 0 ((u3.2.2.2).map enc_Event).length,I (r4.1)]) rfl (absE (abs1 rfl (abs_hs rfl rfl)) (absE (absorb_plain rfl) (absEN))) rfl (ou_f (ou_n)),kl_n⟩
 have r3 : ∀ r',y3=.inl r'→∀ st,Ffbu_Q code_1 r' st→(Ffbu_Q code_1 r) st:=fun r' e st hq=>by rw [hy31 r' e] at hq; exact hq
 replace h:=hy3
 refine sq h (fun h=>?_) (fun h=>?_)
 · refine cq 4 [15,16] [.hp 65 0 [] 3 0 0,.hs 113 0 [] 4 0 ((r2.1).map enc_Event).length] 225 ?_
   refine oq 241 (I ((len r2.1))) rfl (e_len rfl rfl rfl (l_hsM (f:=enc_Event) (xs:=r2.1) rfl rfl)) ?_
   obtain ⟨r5,hr5,h⟩:=bS h
   refine oq 257 (I (r5.1)) rfl (e_callV rfl rfl (call_P rfl rfl rfl (avO (hd1 rfl (hd_hp (path:=[]) rfl rfl (ra_n) rfl)) (avS (shP rfl) (avN))) (Ffch_F hr5) (.inr rfl) (bl_c rfl rfl rfl rfl (bl_n)) rfl rfl rfl)) ?_
   refine cq 2 [6] [I (r5.1)] 273 ?_
   refine s_draw [0,0,0,6,15,0,0,96,255,511] rfl (by decide +kernel) ?_
   refine dq [] [] (.hs 273 0 [] 4 0 0) rfl (e_buildSlice rfl (bs_mk (f:=I) (xs:=[]) (z:=.agg [I (0),I (0),str ([]),I (0)]) (es:=[]) (ws:=[]) rfl rfl rfl (by decide) rfl (abs_each_plain rfl) rfl)) ?_
   refine dk 2 [21,20] [I (r5.1),.hs 113 0 [] 4 0 ((r2.1).map enc_Event).length] ?_
   obtain ⟨s6,hs6,h⟩:=bS h
   refine dq [113] [] (.hs 113 0 [] 4 (0 + Int.toNat (r5.1)) (Int.toNat (len r2.1) - Int.toNat (r5.1))) rfl (e_slice rfl rfl rfl rfl (sl_hsM (f:=enc_Event) (xs:=r2.1) rfl rfl rfl rfl (bd_n rfl) hs6)) ?_
   obtain ⟨p7,hp7,h⟩:=bS h
   obtain ⟨a8,ha8,h⟩:=bS h
   refine dq [273,113] [273] (.hs 337 0 [] 4 0 ((a8).map enc_Event).length) rfl (e_append rfl rfl rfl rfl rfl (ap_hsM (path:=[]) (es0:=[]) (f:=enc_Event) (xs:=([] : List Event)) (ys:=p7) rfl rfl (take_pt (path:=[]) (f:=enc_Event) (xs:=r2.1) rfl rfl (ra_n) hp7 enc_Event_flat) rfl rfl rfl (rfl) rfl (by decide) enc_Event_cells ha8 rfl (to_n))) ?_ (w_app rfl (aw_hs (path:=[]) (f:=enc_Event) (xs:=r2.1) rfl rfl (ra_n) enc_Event_flat rfl))
   refine dk 2 [25,24] [I (r5.1),.hs 113 0 [] 4 0 ((r2.1).map enc_Event).length] ?_
   obtain ⟨s9,hs9,h⟩:=bS h
   refine dq [113] [] (.hs 113 0 [] 4 (0 + Int.toNat (0)) (Int.toNat (r5.1) - Int.toNat (0))) rfl (e_slice rfl rfl rfl rfl (sl_hsM (f:=enc_Event) (xs:=r2.1) rfl rfl rfl rfl rfl hs9)) ?_
   obtain ⟨p10,hp10,h⟩:=bS h
   obtain ⟨a11,ha11,h⟩:=bS h
   refine dq [337,113] [337] (.hs 401 0 [] 4 0 ((a11).map enc_Event).length) rfl (e_append rfl rfl rfl rfl rfl (ap_hsM (path:=[]) (f:=enc_Event) (xs:=a8) (ys:=p10) rfl rfl (take_pt (path:=[]) (f:=enc_Event) (xs:=r2.1) rfl rfl (ra_n) hp10 enc_Event_flat) rfl rfl rfl (ra_n) rfl (by decide) enc_Event_cells ha11 rfl (to_n))) ?_ (w_app rfl (aw_hs (path:=[]) (f:=enc_Event) (xs:=r2.1) rfl rfl (ra_n) enc_Event_flat rfl))
   refine dk 1 [5] [.hs 401 0 [] 4 0 ((a11).map enc_Event).length] ?_
   refine de 433 rfl rfl ?_
   exact rf [4,5] [65,401] (j3 _ (Option.some.inj h).symm :)
 · refine aq 1 ?_
   exact rf [4,5] [65,113] (j3 _ (Option.some.inj h).symm :)
theorem Ffbu_good {G : Go.Ln.Ground} : Good Tryd.prog G 45 Ffbu_ent:=good_T (fnOf_good (gl_c Ffca_good (gl_c Ffby_good (gl_c Ffch_good (gl_n))))) agree_mk (Checked.mixed Tryd.checked) Tryd.func45 (n:=1) (m:=0) ⟨rfl,rfl,by decide⟩ (fun _=>⟨rfl,rfl⟩) (fun a r h=>Ffbu_run a r h)
def Ffq_A : (Int × Int × Int)→List V:=cA I (cA I (oA I))
def Ffq_R (r : Bool) : V × List V:=(B (r),[])
noncomputable def Ffq_ent : Ent:=entT [false,false,false] Ffq_A Ffq_R fun x=>Ffq x.1 x.2.1 x.2.2
theorem Ffq_F {n_1 : Int} {low_2 : Int} {high_3 : Int} {r} (h : Ffq n_1 low_2 high_3=some r) : (Ffq_ent).F (Ffq_A (n_1,low_2,high_3))=some (Ffq_R r):=entT_F (cA_inj I_inj (cA_inj I_inj (oA_inj I_inj))) h
noncomputable def Ffq_c : Code:=bodyOf Tryd.f55
noncomputable def Ffq_E : Env:=mkE Tryd.prog []
def Ffq_Q (x : Int × Int × Int) (r : Bool) : St→Prop:=QF Ffq_E Tryd.f55 [false,false,false] (Ffq_A x) (Ffq_R r)
theorem Ffq_run (n_1 : Int) (low_2 : Int) (high_3 : Int) (r : Bool) (h : Ffq n_1 low_2 high_3=some r) : RunF Ffq_E Tryd.f55 [false,false,false] 0 (Ffq_A (n_1,low_2,high_3)) (Ffq_R r):=by
 show Run _ _ (Ffq_Q (n_1,low_2,high_3) r) [.code Ffq_c] _
 refine rin (n:=15) [(0,I (n_1)),(1,I (low_2)),(2,I (high_3))] [] 1 (by kernel_rfl) (by kernel_rfl) (by kernel_rfl) rfl ?_
 unfold Ffq at h
 refine cq 10 [10] [B ((decide (n_1 ≥ low_2)))] 81 ?_
 obtain ⟨u4,hu4,h⟩:=lJ h
 have j4 : Run Ffq_E 0 (Ffq_Q (n_1,low_2,high_3) r) (.code (cR (cR Ffq_c)) :: []) (sT 15 [(6,B (u4))] [] 1):=by
   obtain rfl:=Option.some.inj h
   exact s_ret rfl ⟨_,fin (vs:=[B (u4)]) rfl (absE (absorb_plain rfl) (absEN)) rfl (ou_f (ou_f (ou_f (ou_n)))),kl_n⟩
 replace h:=hu4
 clear hu4
 refine sp 10 h rfl (fun h=>?_) (fun h=>?_)
 · refine cq 6 [6] [B ((decide (n_1 ≤ high_3)))] 161 ?_
   subst h
   exact rf [6] [] (j4 :)
 · refine cq 6 [6] [B (false)] 161 ?_
   subst h
   exact rf [6] [] (j4 :)
theorem Ffq_good {G : Go.Ln.Ground} : Good Tryd.prog G 55 Ffq_ent:=good_T (fnOf_good (gl_n)) agree_mk (Checked.mixed Tryd.checked) Tryd.func55 (n:=3) (m:=0) ⟨rfl,rfl,by decide⟩ (fun _=>⟨rfl,rfl⟩) (fun a r h=>Ffq_run a.1 a.2.1 a.2.2 r h)
def Ffo_A : Int→List V:=oA I
def Ffo_R (r : Bool) : V × List V:=(B (r),[])
noncomputable def Ffo_ent : Ent:=entT [false] Ffo_A Ffo_R fun x=>Ffo x
theorem Ffo_F {day_1 : Int} {r} (h : Ffo day_1=some r) : (Ffo_ent).F (Ffo_A day_1)=some (Ffo_R r):=entT_F (oA_inj I_inj) h
noncomputable def Ffo_c : Code:=bodyOf Tryd.f91
noncomputable def Ffo_E : Env:=mkE Tryd.prog [(55,Ffq_ent)]
def Ffo_Q (x : Int) (r : Bool) : St→Prop:=QF Ffo_E Tryd.f91 [false] (Ffo_A x) (Ffo_R r)
theorem Ffo_run (day_1 : Int) (r : Bool) (h : Ffo day_1=some r) : RunF Ffo_E Tryd.f91 [false] 0 (Ffo_A day_1) (Ffo_R r):=by
 show Run _ _ (Ffo_Q day_1 r) [.code Ffo_c] _
 refine rin (n:=5) [(0,I (day_1))] [] 1 (by kernel_rfl) (by kernel_rfl) (by kernel_rfl) rfl ?_
 unfold Ffo at h
 refine cq 7 [3] [I (day_1)] 33 ?_
 obtain ⟨r2,hr2,h⟩:=bS h
 refine oq 49 (B (r2)) rfl (e_callV rfl rfl (call_P rfl rfl rfl (avS (shP rfl) (avS (shP rfl) (avS (shP rfl) (avN)))) (Ffq_F hr2) (.inr rfl) (bl_n) rfl rfl rfl)) ?_
 refine cq 2 [2] [B (r2)] 65 ?_
 obtain rfl:=Option.some.inj h
 exact s_ret rfl ⟨_,fin (vs:=[B (r2)]) rfl (absE (absorb_plain rfl) (absEN)) rfl (ou_f (ou_n)),kl_n⟩
theorem Ffo_good {G : Go.Ln.Ground} : Good Tryd.prog G 91 Ffo_ent:=good_T (fnOf_good (gl_c Ffq_good (gl_n))) agree_mk (Checked.mixed Tryd.checked) Tryd.func91 (n:=1) (m:=0) ⟨rfl,rfl,by decide⟩ (fun _=>⟨rfl,rfl⟩) (fun a r h=>Ffo_run a r h)
noncomputable def xCountString_ent : Ent:=⟨[false,false],entF2 (decBy str) (decBy (V.int .u8)) fun s c=>some (I (((Lib.countByte s c.toNat.toUInt8 : Nat) : Int)),[])⟩
theorem xCountString_F {s : Str} {c r : Int} (h : xCountString s c=some r) : xCountString_ent.F [str s,.int .u8 c]=some (I r,[]):=by
  cases h
  simp only [xCountString_ent,entF2,dec_ok str_inj,dec_ok u8_inj,Option.bind_some]
theorem xCountString_n : Extern.findNext Tryd.f147=none:=by kernel_rfl
theorem xCountString_x : Extern.find Tryd.f147=some Extern.BytealgCount.count:=by kernel_rfl
theorem xCountString_good {G : Go.Ln.Ground} : Good Tryd.prog G 147 xCountString_ent:=good_sc (g:=fun s c=>((Lib.countByte s c.toNat.toUInt8 : Nat) : Int)) Tryd.func147 rfl (by decide) xCountString_n xCountString_x fun s c w=>Lib.run_countString s c w
noncomputable def xIndexByteString_ent : Ent:=⟨[false,false],entF2 (decBy str) (decBy (V.int .u8)) fun s c=>some (I (Lib.indexByte s c.toNat.toUInt8),[])⟩
theorem xIndexByteString_F {s : Str} {c r : Int} (h : xIndexByteString s c=some r) : xIndexByteString_ent.F [str s,.int .u8 c]=some (I r,[]):=by
  cases h
  simp only [xIndexByteString_ent,entF2,dec_ok str_inj,dec_ok u8_inj,Option.bind_some]
theorem xIndexByteString_n : Extern.findNext Tryd.f162=none:=by kernel_rfl
theorem xIndexByteString_x : Extern.find Tryd.f162=some Extern.BytealgIndexByte.indexByte:=by kernel_rfl
theorem xIndexByteString_good {G : Go.Ln.Ground} : Good Tryd.prog G 162 xIndexByteString_ent:=good_sc (g:=fun s c=>Lib.indexByte s c.toNat.toUInt8) Tryd.func162 rfl (by decide) xIndexByteString_n xIndexByteString_x fun s c w=>Lib.run_indexByteString s c w
def Ffs_A : (Str × Int)→List V:=cA str (oA (V.int .u8))
def Ffs_R (r : Int) : V × List V:=(I (r),[])
noncomputable def Ffs_ent : Ent:=entT [false,false] Ffs_A Ffs_R fun x=>Ffs x.1 x.2
theorem Ffs_F {s_1 : Str} {c_2 : Int} {r} (h : Ffs s_1 c_2=some r) : (Ffs_ent).F (Ffs_A (s_1,c_2))=some (Ffs_R r):=entT_F (cA_inj str_inj (oA_inj (vint_inj (k:=.u8)))) h
noncomputable def Ffs_c : Code:=bodyOf Tryd.f154
noncomputable def Ffs_E : Env:=mkE Tryd.prog [(162,xIndexByteString_ent)]
def Ffs_Q (x : Str × Int) (r : Int) : St→Prop:=QF Ffs_E Tryd.f154 [false,false] (Ffs_A x) (Ffs_R r)
theorem Ffs_run (s_1 : Str) (c_2 : Int) (r : Int) (h : Ffs s_1 c_2=some r) : RunF Ffs_E Tryd.f154 [false,false] 0 (Ffs_A (s_1,c_2)) (Ffs_R r):=by
 show Run _ _ (Ffs_Q (s_1,c_2) r) [.code Ffs_c] _
 refine rin (n:=8) [(0,str (s_1)),(1,.int .u8 (c_2))] [] 1 (by kernel_rfl) (by kernel_rfl) (by kernel_rfl) rfl ?_
 unfold Ffs at h
 refine cq 8 [5,6] [str (s_1),.int .u8 (c_2)] 49 ?_
 obtain ⟨r3,hr3,h⟩:=bS h
 refine oq 65 (I (r3)) rfl (e_callV rfl rfl (call_P rfl rfl rfl (avS (shP rfl) (avS (shP rfl) (avN))) (xIndexByteString_F hr3) (.inr rfl) (bl_n) rfl rfl rfl)) ?_
 refine cq 2 [4] [I (r3)] 81 ?_
 obtain rfl:=Option.some.inj h
 exact s_ret rfl ⟨_,fin (vs:=[I (r3)]) rfl (absE (absorb_plain rfl) (absEN)) rfl (ou_f (ou_f (ou_n))),kl_n⟩
theorem Ffs_good {G : Go.Ln.Ground} : Good Tryd.prog G 154 Ffs_ent:=good_T (fnOf_good (gl_c xIndexByteString_good (gl_n))) agree_mk (Checked.mixed Tryd.checked) Tryd.func154 (n:=2) (m:=0) ⟨rfl,rfl,by decide⟩ (fun _=>⟨rfl,rfl⟩) (fun a r h=>Ffs_run a.1 a.2 r h)
def Ffr_A : (Str × Str)→List V:=cA str (oA str)
def Ffr_R (r : Int) : V × List V:=(I (r),[])
noncomputable def Ffr_ent : Ent:=entT [false,false] Ffr_A Ffr_R fun x=>Ffr x.1 x.2
theorem Ffr_F {s_1 : Str} {substr_2 : Str} {r} (h : Ffr s_1 substr_2=some r) : (Ffr_ent).F (Ffr_A (s_1,substr_2))=some (Ffr_R r):=entT_F (cA_inj str_inj (oA_inj str_inj)) h
noncomputable def Ffr_c : Code:=bodyOf Tryd.f148
noncomputable def Ffr_E : Env:=mkE Tryd.prog [(154,Ffs_ent)]
def Ffr_Q (x : Str × Str) (r : Int) : St→Prop:=QF Ffr_E Tryd.f148 [false,false] (Ffr_A x) (Ffr_R r)
theorem Ffr_run (s_1 : Str) (substr_2 : Str) (r : Int) (h : Ffr s_1 substr_2=some r) : RunF Ffr_E Tryd.f148 [false,false] 0 (Ffr_A (s_1,substr_2)) (Ffr_R r):=by
 show Run _ _ (Ffr_Q (s_1,substr_2) r) [.code Ffr_c] _
 refine rin (n:=143) [(0,str (s_1)),(1,str (substr_2))] [] 1 (by kernel_rfl) (by kernel_rfl) (by kernel_rfl) rfl ?_
 unfold Ffr at h
 refine cq 17 [5,19] [I ((len substr_2)),B (((len substr_2) == 0))] 113 ?_
 obtain ⟨u3,hu3,h⟩:=lJ h
 have j3 : Run Ffr_E 0 (Ffr_Q (s_1,substr_2) r) (.code (cR (cL (cL (cR (cR Ffr_c))))) :: .blk 0 :: .code (cR (cR (cR Ffr_c))) :: []) (sT 143 [(0,str (s_1)),(1,str (substr_2)),(5,I ((len substr_2))),(16,B (u3))] [] 1):=by
   refine sq h (fun h=>?_) (fun h=>?_)
   · refine cq 4 [4] [I (0)] 17 ?_
     obtain rfl:=Option.some.inj h
     exact s_ret rfl ⟨_,fin (vs:=[I (0)]) rfl (absE (absorb_plain rfl) (absEN)) rfl (ou_f (ou_f (ou_n))),kl_n⟩
   · refine cq 6 [24] [B (((len substr_2) == 1))] 49 ?_
     refine sq h (fun h=>?_) (fun h=>?_)
     · refine cq 4 [27,28] [str (s_1),str (substr_2)] 81 ?_
       obtain ⟨c4,hc4,h⟩:=bS h
       refine oq 97 (.int .u8 ((c4.toNat : Int))) rfl (e_index rfl rfl (i_str rfl rfl hc4)) ?_
       obtain ⟨r5,hr5,h⟩:=bS h
       refine oq 113 (I (r5)) rfl (e_callV rfl rfl (call_P rfl rfl rfl (avS (shP rfl) (avS (shP rfl) (avN))) (Ffs_F hr5) (.inr rfl) (bl_n) rfl rfl rfl)) ?_
       refine cq 2 [4] [I (r5)] 129 ?_
       obtain rfl:=Option.some.inj h
       exact s_ret rfl ⟨_,fin (vs:=[I (r5)]) rfl (absE (absorb_plain rfl) (absEN)) rfl (ou_f (ou_f (ou_n))),kl_n⟩
     · refine cq 8 [31] [B ((decide ((len substr_2) ≥ (len s_1))))] 129 ?_
       refine sq h (fun h=>?_) (fun h=>?_)
       · refine cq 4 [4] [I ((-1))] 145 ?_
         obtain rfl:=Option.some.inj h
         exact s_ret rfl ⟨_,fin (vs:=[I ((-1))]) rfl (absE (absorb_plain rfl) (absEN)) rfl (ou_f (ou_f (ou_n))),kl_n⟩
       · cases h
 replace h:=hu3
 clear hu3
 refine sp 19 h rfl (fun h=>?_) (fun h=>?_)
 · refine cq 6 [16] [B (true)] 193 ?_
   subst h
   exact rf [0,1,5,16] [] (j3 :)
 · refine cq 6 [16] [B ((substr_2 == s_1))] 193 ?_
   subst h
   exact rf [0,1,5,16] [] (j3 :)
theorem Ffr_good {G : Go.Ln.Ground} : Good Tryd.prog G 148 Ffr_ent:=good_T (fnOf_good (gl_c Ffs_good (gl_n))) agree_mk (Checked.mixed Tryd.checked) Tryd.func148 (n:=2) (m:=0) ⟨rfl,rfl,by decide⟩ (fun _=>⟨rfl,rfl⟩) (fun a r h=>Ffr_run a.1 a.2 r h)
def Ffcs_A : (Str × Str)→List V:=cA str (oA str)
def Ffcs_R (r : Int) : V × List V:=(I (r),[])
noncomputable def Ffcs_ent : Ent:=entT [false,false] Ffcs_A Ffcs_R fun x=>Ffcs x.1 x.2
theorem Ffcs_F {s_1 : Str} {substr_2 : Str} {r} (h : Ffcs s_1 substr_2=some r) : (Ffcs_ent).F (Ffcs_A (s_1,substr_2))=some (Ffcs_R r):=entT_F (cA_inj str_inj (oA_inj str_inj)) h
noncomputable def Ffcs_c : Code:=bodyOf Tryd.f142
noncomputable def Ffcs_E : Env:=mkE Tryd.prog [(148,Ffr_ent)]
def Ffcs_Q (x : Str × Str) (r : Int) : St→Prop:=QF Ffcs_E Tryd.f142 [false,false] (Ffcs_A x) (Ffcs_R r)
theorem Ffcs_run (s_1 : Str) (substr_2 : Str) (r : Int) (h : Ffcs s_1 substr_2=some r) : RunF Ffcs_E Tryd.f142 [false,false] 0 (Ffcs_A (s_1,substr_2)) (Ffcs_R r):=by
 show Run _ _ (Ffcs_Q (s_1,substr_2) r) [.code Ffcs_c] _
 refine rin (n:=8) [(0,str (s_1)),(1,str (substr_2))] [] 1 (by kernel_rfl) (by kernel_rfl) (by kernel_rfl) rfl ?_
 unfold Ffcs at h
 refine cq 8 [5,6] [str (s_1),str (substr_2)] 49 ?_
 obtain ⟨r3,hr3,h⟩:=bS h
 refine oq 65 (I (r3)) rfl (e_callV rfl rfl (call_P rfl rfl rfl (avS (shP rfl) (avS (shP rfl) (avN))) (Ffr_F hr3) (.inr rfl) (bl_n) rfl rfl rfl)) ?_
 refine cq 2 [4] [I (r3)] 81 ?_
 obtain rfl:=Option.some.inj h
 exact s_ret rfl ⟨_,fin (vs:=[I (r3)]) rfl (absE (absorb_plain rfl) (absEN)) rfl (ou_f (ou_f (ou_n))),kl_n⟩
theorem Ffcs_good {G : Go.Ln.Ground} : Good Tryd.prog G 142 Ffcs_ent:=good_T (fnOf_good (gl_c Ffr_good (gl_n))) agree_mk (Checked.mixed Tryd.checked) Tryd.func142 (n:=2) (m:=0) ⟨rfl,rfl,by decide⟩ (fun _=>⟨rfl,rfl⟩) (fun a r h=>Ffcs_run a.1 a.2 r h)
def Ffcr_A : (Str × Str)→List V:=cA str (oA str)
def Ffcr_R (r : Int) : V × List V:=(I (r),[])
noncomputable def Ffcr_ent : Ent:=entT [false,false] Ffcr_A Ffcr_R fun x=>Ffcr x.1 x.2
theorem Ffcr_F {s_1 : Str} {substr_2 : Str} {r} (h : Ffcr s_1 substr_2=some r) : (Ffcr_ent).F (Ffcr_A (s_1,substr_2))=some (Ffcr_R r):=entT_F (cA_inj str_inj (oA_inj str_inj)) h
noncomputable def Ffcr_c : Code:=bodyOf Tryd.f141
noncomputable def Ffcr_E : Env:=mkE Tryd.prog [(147,xCountString_ent),(142,Ffcs_ent)]
def Ffcr_Q (x : Str × Str) (r : Int) : St→Prop:=QF Ffcr_E Tryd.f141 [false,false] (Ffcr_A x) (Ffcr_R r)
theorem Ffcr_la_run (s_1 : Str) (substr_2 : Str)  {Q : St→Prop} {K : List It} (hK : noD K=true) : ∀ (x5 : Str × Int) (y : Int ⊕ Unit),Ffcr_la s_1 substr_2 x5=some y→(∀ r',y=.inl r'→∀ st,Ffcr_Q (s_1,substr_2) r' st→Q st)→(∀ u : Unit,y=.inr u→Run Ffcr_E 0 Q K (sT 34 [] [] 1))→Run Ffcr_E 0 Q (.code (cL (cL (cR (cR (cR (cR Ffcr_c)))))) :: .lp (cL (cL (cR (cR (cR (cR Ffcr_c)))))) :: .blk 0 :: K) (sT 34 [(0,str (x5.1)),(1,str (substr_2)),(5,I (x5.2))] [] 1):=by
 refine fix_indP (Ffcr_la_fin s_1 substr_2) ?_
 intro self ih x5 y h hr hn
 unfold Ffcr_la_F at h
 refine cq 5 [20,21] [str (x5.1),str (substr_2)] 33 ?_
 obtain ⟨r6,hr6,h⟩:=bS h
 refine oq 49 (I (r6)) rfl (e_callV rfl rfl (call_P rfl rfl rfl (avS (shP rfl) (avS (shP rfl) (avN))) (Ffcs_F hr6) (.inr rfl) (bl_n) rfl rfl rfl)) ?_
 refine cq 8 [6,24] [I (r6),B ((r6 == (-1)))] 97 ?_
 refine sq h (fun h=>?_) (fun h=>?_)
 · refine cq 5 [4] [I (x5.2)] 129 ?_
   exact s_ret rfl (hr _ (Option.some.inj h).symm _ ⟨_,fin (vs:=[I (x5.2)]) rfl (absE (absorb_plain rfl) (absEN)) rfl (ou_f (ou_f (ou_n))),kl_n⟩)
 · refine aq 1 ?_
   refine cq 12 [5,28,32] [I ((w64 (x5.2 + 1))),str (x5.1),I ((w64 (r6 + (len substr_2))))] 225 ?_
   obtain ⟨s7,hs7,h⟩:=bS h
   refine oq 241 (str (s7)) rfl (e_slice rfl rfl rfl rfl (sl_str rfl rfl rfl hs7)) ?_
   refine cq 3 [0] [str (s7)] 257 ?_
   refine s_lp ?_
   exact rf [0,1,5] [] (ih _ _ h hr hn :)
theorem Ffcr_run (s_1 : Str) (substr_2 : Str) (r : Int) (h : Ffcr s_1 substr_2=some r) : RunF Ffcr_E Tryd.f141 [false,false] 0 (Ffcr_A (s_1,substr_2)) (Ffcr_R r):=by
 show Run _ _ (Ffcr_Q (s_1,substr_2) r) [.code Ffcr_c] _
 refine rin (n:=34) [(0,str (s_1)),(1,str (substr_2))] [] 1 (by kernel_rfl) (by kernel_rfl) (by kernel_rfl) rfl ?_
 unfold Ffcr at h
 refine cq 11 [9] [B (((len substr_2) == 0))] 65 ?_
 refine sq h (fun h=>?_) (fun h=>?_)
 · cases h
 · refine aq 1 ?_
   refine cq 7 [15] [B (((len substr_2) == 1))] 113 ?_
   refine sq h (fun h=>?_) (fun h=>?_)
   · refine cq 4 [16,17] [str (s_1),str (substr_2)] 145 ?_
     obtain ⟨c3,hc3,h⟩:=bS h
     refine oq 161 (.int .u8 ((c3.toNat : Int))) rfl (e_index rfl rfl (i_str rfl rfl hc3)) ?_
     obtain ⟨r4,hr4,h⟩:=bS h
     refine oq 177 (I (r4)) rfl (e_callV rfl rfl (call_P rfl rfl rfl (avS (shP rfl) (avS (shP rfl) (avN))) (xCountString_F hr4) (.inr rfl) (bl_n) rfl rfl rfl)) ?_
     refine cq 2 [4] [I (r4)] 193 ?_
     obtain rfl:=Option.some.inj h
     exact s_ret rfl ⟨_,fin (vs:=[I (r4)]) rfl (absE (absorb_plain rfl) (absEN)) rfl (ou_f (ou_f (ou_n))),kl_n⟩
   · refine aq 1 ?_
     refine cq 5 [5] [I (0)] 129 ?_
     obtain ⟨y8,hy8,hy81,hy82⟩:=bJ h
     refine s_loop rfl ?_
     refine rf [0,1,5] [] (Ffcr_la_run s_1 substr_2 rfl _ _ hy8 (fun r' e st hq=>by rw [hy81 r' e] at hq; exact hq) fun u8 hu=>?_)
     replace h:=hy82 u8 hu
     cases h
theorem Ffcr_good {G : Go.Ln.Ground} : Good Tryd.prog G 141 Ffcr_ent:=good_T (fnOf_good (gl_c xCountString_good (gl_c Ffcs_good (gl_n)))) agree_mk (Checked.mixed Tryd.checked) Tryd.func141 (n:=2) (m:=0) ⟨rfl,rfl,by decide⟩ (fun _=>⟨rfl,rfl⟩) (fun a r h=>Ffcr_run a.1 a.2 r h)
def Ffcu_A : (Str × Str × Int × Int)→List V:=cA str (cA str (cA I (oA I)))
def Ffcu_R (r : (List Str)) : V × List V:=(.usl 1 ((r).map str),[])
noncomputable def Ffcu_ent : Ent:=entT [false,false,false,false] Ffcu_A Ffcu_R fun x=>Ffcu x.1 x.2.1 x.2.2.1 x.2.2.2
theorem Ffcu_F {s_1 : Str} {sep_2 : Str} {sepSave_3 : Int} {n_4 : Int} {r} (h : Ffcu s_1 sep_2 sepSave_3 n_4=some r) : (Ffcu_ent).F (Ffcu_A (s_1,sep_2,sepSave_3,n_4))=some (Ffcu_R r):=entT_F (cA_inj str_inj (cA_inj str_inj (cA_inj I_inj (oA_inj I_inj)))) h
noncomputable def Ffcu_c : Code:=bodyOf Tryd.f130
noncomputable abbrev Ffcu_ka : Code:=cL (cL (cL (cR (cR (cR (cR (cR (cR (cR (cR Ffcu_c))))))))))
noncomputable def Ffcu_E : Env:=mkE Tryd.prog [(142,Ffcs_ent),(141,Ffcr_ent)]
def Ffcu_Q (x : Str × Str × Int × Int) (r : (List Str)) : St→Prop:=QF Ffcu_E Tryd.f130 [false,false,false,false] (Ffcu_A x) (Ffcu_R r)
theorem Ffcu_la_run (s_1 : Str) (sep_2 : Str) (sepSave_3 : Int) (n_4 : Int) (u5 : Int) {Q : St→Prop} {K : List It} (hK : noD K=true) : ∀ (x7 : Str × Int × (List Str)) (y : ((List Str)) ⊕ (Str × Int × (List Str))),Ffcu_la s_1 sep_2 sepSave_3 n_4 u5 x7=some y→(∀ r',y=.inl r'→∀ st,Ffcu_Q (s_1,sep_2,sepSave_3,n_4) r' st→Q st)→(∀ u : Str × Int × (List Str),y=.inr u→Run Ffcu_E 0 Q K (sT 66 [(0,str (u.1)),(9,.hs 1 0 [] 1 0 ((u.2.2).map str).length),(10,I (u.2.1))] [⟨0,1,(u.2.2).map str⟩] 2))→Run Ffcu_E 0 Q (.code Ffcu_ka :: .lp Ffcu_ka :: .blk 0 :: K) (sT 66 [(0,str (x7.1)),(1,str (sep_2)),(2,I (sepSave_3)),(3,I ((w64 ((if (w64 ((len s_1) + 1)) < u5 then (w64 ((len s_1) + 1)) else u5) - 1)))),(9,.hs 1 0 [] 1 0 ((x7.2.2).map str).length),(10,I (x7.2.1))] [⟨0,1,(x7.2.2).map str⟩] 2):=by
 refine fix_indP (Ffcu_la_fin s_1 sep_2 sepSave_3 n_4 u5) ?_
 intro self ih x7 y h hr hn
 unfold Ffcu_la_F at h
 refine cq 7 [36] [B ((decide (x7.2.1 < (w64 ((if (w64 ((len s_1) + 1)) < u5 then (w64 ((len s_1) + 1)) else u5) - 1)))))] 50 ?_
 refine sq h (fun h=>?_) (fun h=>?_)
 · refine aq 1 ?_
   refine cq 5 [37,38] [str (x7.1),str (sep_2)] 82 ?_
   obtain ⟨r8,hr8,h⟩:=bS h
   refine oq 98 (I (r8)) rfl (e_callV rfl rfl (call_P rfl rfl rfl (avS (shP rfl) (avS (shP rfl) (avN))) (Ffcs_F hr8) (.inr rfl) (bl_n) rfl rfl rfl)) ?_
   refine cq 8 [11,41] [I (r8),B ((decide (r8 < 0)))] 146 ?_
   refine sq h (fun h=>?_) (fun h=>?_)
   · refine aq 1 ?_
     exact rf [0,9,10] [1] (hn _ (Option.some.inj h).symm :) (hk:=hK)
   · refine aq 1 ?_
     refine cq 8 [42,43,44,47] [.hs 1 0 [] 1 0 ((x7.2.2).map str).length,I (x7.2.1),str (x7.1),I ((w64 (r8 + sepSave_3)))] 242 ?_
     obtain ⟨s9,hs9,h⟩:=bS h
     refine oq 258 (str (s9)) rfl (e_slice rfl rfl rfl rfl (sl_str rfl rfl rfl hs9)) ?_
     obtain ⟨e10,he10,h⟩:=bS h
     refine oq 274 (.hp 1 0 [] 1 (0 + Int.toNat (x7.2.1)) 0) rfl (e_indexAddr rfl rfl rfl (ix_hsM (f:=str) (xs:=x7.2.2) rfl rfl rfl he10)) ?_
     refine o0 290 rfl rfl (e_st rfl rfl (st_at (path:=[]) (pl:=true) (e':=str (s9)) (es2':=((setI x7.2.2 x7.2.1 s9)).map str) rfl (absorb_plain rfl) rfl rfl rfl (ra_n) (get_map (f:=str) (xs:=x7.2.2) he10) rfl rfl rfl (set_map (f:=str) (xs:=x7.2.2) (y:=s9)) (sr_n) 0 rfl)) ?_
     try rw [← len_setM (f:=str) (xs:=x7.2.2) (i:=x7.2.1) (z:=s9)]
     refine cq 8 [50,54] [str (x7.1),I ((w64 (r8 + (len sep_2))))] 370 ?_
     obtain ⟨s11,hs11,h⟩:=bS h
     refine oq 386 (str (s11)) rfl (e_slice rfl rfl rfl rfl (sl_str rfl rfl rfl hs11)) ?_
     refine cq 8 [0,10] [str (s11),I ((w64 (x7.2.1 + 1)))] 450 ?_
     refine s_lp ?_
     exact rf [0,1,2,3,9,10] [1] (ih _ _ h hr hn :)
 · refine aq 1 ?_
   exact rf [0,9,10] [1] (hn _ (Option.some.inj h).symm :) (hk:=hK)
theorem Ffcu_run (s_1 : Str) (sep_2 : Str) (sepSave_3 : Int) (n_4 : Int) (r : (List Str)) (h : Ffcu s_1 sep_2 sepSave_3 n_4=some r) : RunF Ffcu_E Tryd.f130 [false,false,false,false] 0 (Ffcu_A (s_1,sep_2,sepSave_3,n_4)) (Ffcu_R r):=by
 show Run _ _ (Ffcu_Q (s_1,sep_2,sepSave_3,n_4) r) [.code Ffcu_c] _
 refine rin (n:=66) [(0,str (s_1)),(1,str (sep_2)),(2,I (sepSave_3)),(3,I (n_4))] [] 1 (by kernel_rfl) (by kernel_rfl) (by kernel_rfl) rfl ?_
 unfold Ffcu at h
 refine cq 10 [13] [B ((n_4 == 0))] 49 ?_
 refine sq h (fun h=>?_) (fun h=>?_)
 · refine cq 4 [8] [.isl true []] 65 ?_
   refine run_own 8 0 1 81 (.hs 65 0 [] 1 0 0) rfl rfl rfl rfl rfl ?_
   obtain rfl:=Option.some.inj h
   exact s_ret rfl ⟨_,fin (vs:=[.hs 65 0 [] 1 0 0]) rfl (absE (abs1 rfl (abs_hs rfl rfl)) (absEN)) rfl (ou_f (ou_f (ou_f (ou_f (ou_n))))),kl_n⟩
 · refine aq 1 ?_
   refine cq 6 [15] [B ((sep_2 == ([] : Str)))] 81 ?_
   refine sq h (fun h=>?_) (fun h=>?_)
   · cases h
   · refine aq 1 ?_
     refine cq 6 [20] [B ((decide (n_4 < 0)))] 113 ?_
     obtain ⟨y5,hy5,hy51,hy52⟩:=bJ h
     have j5 : ∀ u5,y5=.inr u5→Run Ffcu_E 0 (Ffcu_Q (s_1,sep_2,sepSave_3,n_4) r) (.code (cR (cR (cR (cR Ffcu_c)))) :: []) (sT 66 [(0,str (s_1)),(1,str (sep_2)),(2,I (sepSave_3)),(3,I (u5))] [] 1):=by
       intro u5 hu
       replace h:=hy52 u5 hu
       refine cq 12 [3,30] [I ((if (w64 ((len s_1) + 1)) < u5 then (w64 ((len s_1) + 1)) else u5)),I ((if (w64 ((len s_1) + 1)) < u5 then (w64 ((len s_1) + 1)) else u5))] 113 ?_
       obtain ⟨m6,hm6,h⟩:=bS h
       refine oq 129 (.hs 113 0 [] 1 0 ((m6).map str).length) rfl (e_makeSlice rfl rfl (ms_mkM (f:=str) rfl rfl rfl (by decide) hm6 rfl)) ?_
       refine cq 14 [3,9,10] [I ((w64 ((if (w64 ((len s_1) + 1)) < u5 then (w64 ((len s_1) + 1)) else u5) - 1))),.hs 113 0 [] 1 0 ((m6).map str).length,I (0)] 209 ?_
       obtain ⟨y12,hy12,hy121,hy122⟩:=bJ h
       refine s_loop rfl ?_
       refine rf [0,1,2,3,9,10] [113] (Ffcu_la_run s_1 sep_2 sepSave_3 n_4 u5 rfl _ _ hy12 (fun r' e st hq=>by rw [hy121 r' e] at hq; exact hq) fun u12 hu=>?_)
       replace h:=hy122 u12 hu
       refine cq 5 [58,59,60] [.hs 1 0 [] 1 0 ((u12.2.2).map str).length,I (u12.2.1),str (u12.1)] 50 ?_
       obtain ⟨e13,he13,h⟩:=bS h
       refine oq 66 (.hp 1 0 [] 1 (0 + Int.toNat (u12.2.1)) 0) rfl (e_indexAddr rfl rfl rfl (ix_hsM (f:=str) (xs:=u12.2.2) rfl rfl rfl he13)) ?_
       refine o0 82 rfl rfl (e_st rfl rfl (st_at (path:=[]) (pl:=true) (e':=str (u12.1)) (es2':=((setI u12.2.2 u12.2.1 u12.1)).map str) rfl (absorb_plain rfl) rfl rfl rfl (ra_n) (get_map (f:=str) (xs:=u12.2.2) he13) rfl rfl rfl (set_map (f:=str) (xs:=u12.2.2) (y:=u12.1)) (sr_n) 0 rfl)) ?_
       try rw [← len_setM (f:=str) (xs:=u12.2.2) (i:=u12.2.1) (z:=u12.1)]
       refine cq 6 [62,64] [.hs 1 0 [] 1 0 (((setI u12.2.2 u12.2.1 u12.1)).map str).length,I ((w64 (u12.2.1 + 1)))] 130 ?_
       obtain ⟨s14,hs14,h⟩:=bS h
       refine oq 146 (.hs 1 0 [] 1 (0 + Int.toNat (0)) (Int.toNat ((w64 (u12.2.1 + 1))) - Int.toNat (0))) rfl (e_slice rfl rfl rfl rfl (sl_hsM (f:=str) (xs:=(setI u12.2.2 u12.2.1 u12.1)) rfl rfl rfl rfl rfl hs14)) ?_
       refine cq 2 [8] [.hs 1 0 [] 1 (0 + Int.toNat (0)) (Int.toNat ((w64 (u12.2.1 + 1))) - Int.toNat (0))] 162 ?_
       obtain ⟨p15,hp15,h⟩:=bS h
       obtain rfl:=Option.some.inj h
       exact s_ret rfl ⟨_,fin (vs:=[.hs 1 0 [] 1 (0 + Int.toNat (0)) (Int.toNat ((w64 (u12.2.1 + 1))) - Int.toNat (0))]) rfl (absE (abs1 rfl (abs_pt (path:=[]) (f:=str) (xs:=(setI u12.2.2 u12.2.1 u12.1)) rfl rfl (ra_n) hp15 rfl (to_n))) (absEN)) rfl (ou_f (ou_f (ou_f (ou_f (ou_n))))),kl_n⟩
     have r5 : ∀ r',y5=.inl r'→∀ st,Ffcu_Q (s_1,sep_2,sepSave_3,n_4) r' st→(Ffcu_Q (s_1,sep_2,sepSave_3,n_4) r) st:=fun r' e st hq=>by rw [hy51 r' e] at hq; exact hq
     replace h:=hy5
     refine sq h (fun h=>?_) (fun h=>?_)
     · refine cq 3 [21,22] [str (s_1),str (sep_2)] 145 ?_
       obtain ⟨r16,hr16,h⟩:=bS h
       refine oq 161 (I (r16)) rfl (e_callV rfl rfl (call_P rfl rfl rfl (avS (shP rfl) (avS (shP rfl) (avN))) (Ffcr_F hr16) (.inr rfl) (bl_n) rfl rfl rfl)) ?_
       refine cq 3 [3] [I ((w64 (r16 + 1)))] 193 ?_
       exact rf [0,1,2,3] [] (j5 _ (Option.some.inj h).symm :)
     · refine aq 1 ?_
       exact rf [0,1,2,3] [] (j5 _ (Option.some.inj h).symm :)
theorem Ffcu_good {G : Go.Ln.Ground} : Good Tryd.prog G 130 Ffcu_ent:=good_T (fnOf_good (gl_c Ffcs_good (gl_c Ffcr_good (gl_n)))) agree_mk (Checked.mixed Tryd.checked) Tryd.func130 (n:=4) (m:=0) ⟨rfl,rfl,by decide⟩ (fun _=>⟨rfl,rfl⟩) (fun a r h=>Ffcu_run a.1 a.2.1 a.2.2.1 a.2.2.2 r h)
def Ffct_A : (Str × Str)→List V:=cA str (oA str)
def Ffct_R (r : (List Str)) : V × List V:=(.usl 1 ((r).map str),[])
noncomputable def Ffct_ent : Ent:=entT [false,false] Ffct_A Ffct_R fun x=>Ffct x.1 x.2
theorem Ffct_F {s_1 : Str} {sep_2 : Str} {r} (h : Ffct s_1 sep_2=some r) : (Ffct_ent).F (Ffct_A (s_1,sep_2))=some (Ffct_R r):=entT_F (cA_inj str_inj (oA_inj str_inj)) h
noncomputable def Ffct_c : Code:=bodyOf Tryd.f109
noncomputable def Ffct_E : Env:=mkE Tryd.prog [(130,Ffcu_ent)]
def Ffct_Q (x : Str × Str) (r : (List Str)) : St→Prop:=QF Ffct_E Tryd.f109 [false,false] (Ffct_A x) (Ffct_R r)
theorem Ffct_run (s_1 : Str) (sep_2 : Str) (r : (List Str)) (h : Ffct s_1 sep_2=some r) : RunF Ffct_E Tryd.f109 [false,false] 0 (Ffct_A (s_1,sep_2)) (Ffct_R r):=by
 show Run _ _ (Ffct_Q (s_1,sep_2) r) [.code Ffct_c] _
 refine rin (n:=8) [(0,str (s_1)),(1,str (sep_2))] [] 1 (by kernel_rfl) (by kernel_rfl) (by kernel_rfl) rfl ?_
 unfold Ffct at h
 refine cq 8 [5,6] [str (s_1),str (sep_2)] 49 ?_
 obtain ⟨r3,hr3,h⟩:=bS h
 refine oq 65 (.hs 49 0 [] 1 0 ((r3).map str).length) rfl (e_callV rfl rfl (call_P rfl rfl rfl (avS (shP rfl) (avS (shP rfl) (avS (shP rfl) (avS (shP rfl) (avN))))) (Ffcu_F hr3) (.inr rfl) (bl_n) rfl rfl rfl)) ?_
 refine cq 2 [4] [.hs 49 0 [] 1 0 ((r3).map str).length] 81 ?_
 obtain rfl:=Option.some.inj h
 exact s_ret rfl ⟨_,fin (vs:=[.hs 49 0 [] 1 0 ((r3).map str).length]) rfl (absE (abs1 rfl (abs_hs rfl rfl)) (absEN)) rfl (ou_f (ou_f (ou_n))),kl_n⟩
theorem Ffct_good {G : Go.Ln.Ground} : Good Tryd.prog G 109 Ffct_ent:=good_T (fnOf_good (gl_c Ffcu_good (gl_n))) agree_mk (Checked.mixed Tryd.checked) Tryd.func109 (n:=2) (m:=0) ⟨rfl,rfl,by decide⟩ (fun _=>⟨rfl,rfl⟩) (fun a r h=>Ffct_run a.1 a.2 r h)
def Ffba_A : ((List Str) × Str)→List V:=cA (slE str) (oA str)
def Ffba_R (r : Int) : V × List V:=(I (r),[])
noncomputable def Ffba_ent : Ent:=entT [false,false] Ffba_A Ffba_R fun x=>Ffba x.1 x.2
theorem Ffba_F {s_1 : List Str} {v_2 : Str} {r} (h : Ffba s_1 v_2=some r) : (Ffba_ent).F (Ffba_A (s_1,v_2))=some (Ffba_R r):=entT_F (cA_inj (isl_inj str_inj) (oA_inj str_inj)) h
noncomputable def Ffba_c : Code:=bodyOf Tryd.f110
noncomputable def Ffba_E : Env:=mkE Tryd.prog []
def Ffba_Q (x : (List Str) × Str) (r : Int) : St→Prop:=QF Ffba_E Tryd.f110 [false,false] (Ffba_A x) (Ffba_R r)
theorem Ffba_la_run (s_1 : List Str) (v_2 : Str)  {Q : St→Prop} {K : List It} (hK : noD K=true) : ∀ (x3 : Int) (y : Int ⊕ Unit),Ffba_la s_1 v_2 x3=some y→(∀ r',y=.inl r'→∀ st,Ffba_Q (s_1,v_2) r' st→Q st)→(∀ u : Unit,y=.inr u→Run Ffba_E 0 Q K (sT 19 [] [] 1))→Run Ffba_E 0 Q (.code (cL (cL (cR (cL (cR Ffba_c))))) :: .lp (cL (cL (cR (cL (cR Ffba_c))))) :: .blk 0 :: K) (sT 19 [(0,.isl false ((s_1).map str)),(1,str (v_2)),(7,I ((len s_1))),(8,I (x3))] [] 1):=by
 refine fix_indP (Ffba_la_fin s_1 v_2) ?_
 intro self ih x3 y h hr hn
 unfold Ffba_la_F at h
 refine cq 5 [9] [B ((decide (x3 < (len s_1))))] 17 ?_
 refine sq h (fun h=>?_) (fun h=>?_)
 · refine aq 1 ?_
   refine cq 12 [5,11,12,13] [I (x3),str (v_2),.isl false ((s_1).map str),I (x3)] 97 ?_
   obtain ⟨e4,he4,h⟩:=bS h
   refine oq 113 (.iptr (str (e4)) 0) rfl (e_indexAddr rfl rfl rfl (ix_islE rfl rfl rfl rfl he4)) ?_
   refine cq 3 [16] [B ((v_2 == e4))] 145 ?_
   refine sq h (fun h=>?_) (fun h=>?_)
   · refine cq 5 [4] [I (x3)] 177 ?_
     exact s_ret rfl (hr _ (Option.some.inj h).symm _ ⟨_,fin (vs:=[I (x3)]) rfl (absE (absorb_plain rfl) (absEN)) rfl (ou_f (ou_f (ou_n))),kl_n⟩)
   · refine aq 1 ?_
     refine cq 5 [8] [I ((w64 (x3 + 1)))] 177 ?_
     refine s_lp ?_
     exact rf [0,1,7,8] [] (ih _ _ h hr hn :)
 · refine aq 1 ?_
   exact rf [] [] (hn _ (Option.some.inj h).symm :) (hk:=hK)
theorem Ffba_run (s_1 : List Str) (v_2 : Str) (r : Int) (h : Ffba s_1 v_2=some r) : RunF Ffba_E Tryd.f110 [false,false] 0 (Ffba_A (s_1,v_2)) (Ffba_R r):=by
 show Run _ _ (Ffba_Q (s_1,v_2) r) [.code Ffba_c] _
 refine rin (n:=19) [(0,.isl false ((s_1).map str)),(1,str (v_2))] [] 1 (by kernel_rfl) (by kernel_rfl) (by kernel_rfl) rfl ?_
 unfold Ffba at h
 refine cq 8 [6] [.isl false ((s_1).map str)] 33 ?_
 refine oq 49 (I ((len s_1))) rfl (e_len rfl rfl rfl (l_isl rfl)) ?_
 refine cq 3 [8] [I (0)] 65 ?_
 obtain ⟨y5,hy5,hy51,hy52⟩:=bJ h
 refine s_loop rfl ?_
 refine rf [0,1,7,8] [] (Ffba_la_run s_1 v_2 rfl _ _ hy5 (fun r' e st hq=>by rw [hy51 r' e] at hq; exact hq) fun u5 hu=>?_)
 replace h:=hy52 u5 hu
 refine cq 4 [4] [I ((-1))] 17 ?_
 obtain rfl:=Option.some.inj h
 exact s_ret rfl ⟨_,fin (vs:=[I ((-1))]) rfl (absE (absorb_plain rfl) (absEN)) rfl (ou_f (ou_f (ou_n))),kl_n⟩
theorem Ffba_good {G : Go.Ln.Ground} : Good Tryd.prog G 110 Ffba_ent:=good_T (fnOf_good (gl_n)) agree_mk (Checked.mixed Tryd.checked) Tryd.func110 (n:=2) (m:=0) ⟨rfl,rfl,by decide⟩ (fun _=>⟨rfl,rfl⟩) (fun a r h=>Ffba_run a.1 a.2 r h)
def Ffy_A : ((List Str) × Str)→List V:=cA (slE str) (oA str)
def Ffy_R (r : Bool) : V × List V:=(B (r),[])
noncomputable def Ffy_ent : Ent:=entT [false,false] Ffy_A Ffy_R fun x=>Ffy x.1 x.2
theorem Ffy_F {s_1 : List Str} {v_2 : Str} {r} (h : Ffy s_1 v_2=some r) : (Ffy_ent).F (Ffy_A (s_1,v_2))=some (Ffy_R r):=entT_F (cA_inj (isl_inj str_inj) (oA_inj str_inj)) h
noncomputable def Ffy_c : Code:=bodyOf Tryd.f90
noncomputable def Ffy_E : Env:=mkE Tryd.prog [(110,Ffba_ent)]
def Ffy_Q (x : (List Str) × Str) (r : Bool) : St→Prop:=QF Ffy_E Tryd.f90 [false,false] (Ffy_A x) (Ffy_R r)
theorem Ffy_run (s_1 : List Str) (v_2 : Str) (r : Bool) (h : Ffy s_1 v_2=some r) : RunF Ffy_E Tryd.f90 [false,false] 0 (Ffy_A (s_1,v_2)) (Ffy_R r):=by
 show Run _ _ (Ffy_Q (s_1,v_2) r) [.code Ffy_c] _
 refine rin (n:=9) [(0,.isl false ((s_1).map str)),(1,str (v_2))] [] 1 (by kernel_rfl) (by kernel_rfl) (by kernel_rfl) rfl ?_
 unfold Ffy at h
 refine cq 8 [5,6] [.isl false ((s_1).map str),str (v_2)] 49 ?_
 obtain ⟨r3,hr3,h⟩:=bS h
 refine oq 65 (I (r3)) rfl (e_callV rfl rfl (call_P rfl rfl rfl (avS (shP rfl) (avS (shP rfl) (avN))) (Ffba_F hr3) (.inr rfl) (bl_n) rfl rfl rfl)) ?_
 refine cq 3 [4] [B ((decide (r3 ≥ 0)))] 97 ?_
 obtain rfl:=Option.some.inj h
 exact s_ret rfl ⟨_,fin (vs:=[B ((decide (r3 ≥ 0)))]) rfl (absE (absorb_plain rfl) (absEN)) rfl (ou_f (ou_f (ou_n))),kl_n⟩
theorem Ffy_good {G : Go.Ln.Ground} : Good Tryd.prog G 90 Ffy_ent:=good_T (fnOf_good (gl_c Ffba_good (gl_n))) agree_mk (Checked.mixed Tryd.checked) Tryd.func90 (n:=2) (m:=0) ⟨rfl,rfl,by decide⟩ (fun _=>⟨rfl,rfl⟩) (fun a r h=>Ffy_run a.1 a.2 r h)
def Ffi_A : Str→List V:=oA str
def Ffi_R (r : Bool) : V × List V:=(B (r),[])
noncomputable def Ffi_ent : Ent:=entT [false] Ffi_A Ffi_R fun x=>Ffi x
theorem Ffi_F {s_1 : Str} {r} (h : Ffi s_1=some r) : (Ffi_ent).F (Ffi_A s_1)=some (Ffi_R r):=entT_F (oA_inj str_inj) h
noncomputable def Ffi_c : Code:=bodyOf Tryd.f89
noncomputable abbrev Ffi_ka : Code:=cL (cL (cR (cL (cR (cR Ffi_c)))))
noncomputable abbrev Ffi_kb : Code:=cR (cR (cR Ffi_ka))
noncomputable abbrev Ffi_kc : Code:=cR (cR (cR (cL (cL (cR (cR Ffi_ka))))))
noncomputable def Ffi_E : Env:=mkE Tryd.prog [(55,Ffq_ent),(109,Ffct_ent),(90,Ffy_ent)]
def Ffi_Q (x : Str) (r : Bool) : St→Prop:=QF Ffi_E Tryd.f89 [false] (Ffi_A x) (Ffi_R r)
theorem Ffi_la_run (s_1 : Str)  {Q : St→Prop} {K : List It} (hK : noD K=true) : ∀ (x4 : Int) (y : Bool ⊕ Unit),Ffi_la s_1 x4=some y→(∀ r',y=.inl r'→∀ st,Ffi_Q s_1 r' st→Q st)→(∀ u : Unit,y=.inr u→Run Ffi_E 0 Q K (sT 46 [(0,str (s_1))] [] 1))→Run Ffi_E 0 Q (.code Ffi_ka :: .lp Ffi_ka :: .blk 0 :: K) (sT 46 [(0,str (s_1)),(20,I ((len s_1))),(21,I (x4))] [] 1):=by
 refine fix_indP (Ffi_la_fin s_1) ?_
 intro self ih x4 y h hr hn
 unfold Ffi_la_F at h
 refine cq 5 [22] [B ((decide (x4 < (len s_1))))] 17 ?_
 refine sq h (fun h=>?_) (fun h=>?_)
 · refine aq 1 ?_
   refine cq 11 [24,25] [str (s_1),I (x4)] 81 ?_
   obtain ⟨c5,hc5,h⟩:=bS h
   refine oq 97 (.int .u8 ((c5.toNat : Int))) rfl (e_index rfl rfl (i_str rfl rfl hc5)) ?_
   refine cq 7 [4,29] [.int .u8 ((c5.toNat : Int)),B ((decide ((c5.toNat : Int) < 97)))] 161 ?_
   obtain ⟨u6,hu6,h⟩:=lJ h
   have j6 : Run Ffi_E 0 Q (.code Ffi_kc :: .blk 1 :: .code Ffi_kb :: .lp Ffi_ka :: .blk 0 :: K) (sT 46 [(0,str (s_1)),(20,I ((len s_1))),(21,I (x4)),(40,B (u6))] [] 1):=by
     refine sq h (fun h=>?_) (fun h=>?_)
     · refine cq 4 [2] [B (false)] 17 ?_
       exact s_ret rfl (hr _ (Option.some.inj h).symm _ ⟨_,fin (vs:=[B (false)]) rfl (absE (absorb_plain rfl) (absEN)) rfl (ou_f (ou_n)),kl_n⟩)
     · refine aq 1 ?_
       refine cq 5 [21] [I ((w64 (x4 + 1)))] 33 ?_
       refine s_lp ?_
       exact rf [0,20,21] [] (ih _ _ h hr hn :)
   replace h:=hu6
   clear hu6
   refine sp 29 h rfl (fun h=>?_) (fun h=>?_)
   · refine cq 7 [33,36] [B (true),B ((decide ((c5.toNat : Int) < 48)))] 273 ?_
     obtain ⟨u7,hu7,h⟩:=lJ h
     have j7 : Run Ffi_E 0 Q (.code Ffi_kc :: .blk 1 :: .code Ffi_kb :: .lp Ffi_ka :: .blk 0 :: K) (sT 46 [(0,str (s_1)),(20,I ((len s_1))),(21,I (x4)),(40,B (u7))] [] 1):=by
       subst h
       exact rf [0,20,21,40] [] (j6 :)
     replace h:=hu7
     clear hu7
     refine sp 36 h rfl (fun h=>?_) (fun h=>?_)
     · refine cq 5 [40] [B (true)] 337 ?_
       subst h
       exact rf [0,20,21,40] [] (j7 :)
     · refine cq 5 [40] [B ((decide ((c5.toNat : Int) > 57)))] 337 ?_
       subst h
       exact rf [0,20,21,40] [] (j7 :)
   · refine cq 4 [33] [B ((decide ((c5.toNat : Int) > 122)))] 225 ?_
     obtain ⟨u8,hu8,h⟩:=lJ h
     have j8 : Run Ffi_E 0 Q (.code Ffi_kc :: .blk 1 :: .code Ffi_kb :: .lp Ffi_ka :: .blk 0 :: K) (sT 46 [(0,str (s_1)),(20,I ((len s_1))),(21,I (x4)),(40,B (u8))] [] 1):=by
       subst h
       exact rf [0,20,21,40] [] (j6 :)
     replace h:=hu8
     clear hu8
     refine sp 33 h rfl (fun h=>?_) (fun h=>?_)
     · refine cq 3 [36] [B ((decide ((c5.toNat : Int) < 48)))] 273 ?_
       obtain ⟨u9,hu9,h⟩:=lJ h
       have j9 : Run Ffi_E 0 Q (.code Ffi_kc :: .blk 1 :: .code Ffi_kb :: .lp Ffi_ka :: .blk 0 :: K) (sT 46 [(0,str (s_1)),(20,I ((len s_1))),(21,I (x4)),(40,B (u9))] [] 1):=by
         subst h
         exact rf [0,20,21,40] [] (j8 :)
       replace h:=hu9
       clear hu9
       refine sp 36 h rfl (fun h=>?_) (fun h=>?_)
       · refine cq 5 [40] [B (true)] 337 ?_
         subst h
         exact rf [0,20,21,40] [] (j9 :)
       · refine cq 5 [40] [B ((decide ((c5.toNat : Int) > 57)))] 337 ?_
         subst h
         exact rf [0,20,21,40] [] (j9 :)
     · refine cq 8 [40] [B (false)] 337 ?_
       subst h
       exact rf [0,20,21,40] [] (j8 :)
 · refine aq 1 ?_
   exact rf [0] [] (hn _ (Option.some.inj h).symm :) (hk:=hK)
theorem Ffi_run (s_1 : Str) (r : Bool) (h : Ffi s_1=some r) : RunF Ffi_E Tryd.f89 [false] 0 (Ffi_A s_1) (Ffi_R r):=by
 show Run _ _ (Ffi_Q s_1 r) [.code Ffi_c] _
 refine rin (n:=46) [(0,str (s_1))] [] 1 (by kernel_rfl) (by kernel_rfl) (by kernel_rfl) rfl ?_
 unfold Ffi at h
 refine cq 9 [6] [I ((len s_1))] 49 ?_
 obtain ⟨r2,hr2,h⟩:=bS h
 refine oq 65 (B (r2)) rfl (e_callV rfl rfl (call_P rfl rfl rfl (avS (shP rfl) (avS (shP rfl) (avS (shP rfl) (avN)))) (Ffq_F hr2) (.inr rfl) (bl_n) rfl rfl rfl)) ?_
 refine cq 2 [9] [B ((!r2))] 97 ?_
 obtain ⟨y3,hy3,hy31,hy32⟩:=bJ h
 have j3 : ∀ u3,y3=.inr u3→Run Ffi_E 0 (Ffi_Q s_1 r) (.code (cR (cL (cR Ffi_c))) :: .code (cR (cR Ffi_c)) :: []) (sT 46 [(0,str (s_1)),(18,B (u3))] [] 1):=by
   intro u3 hu
   replace h:=hy32 u3 hu
   refine sq h (fun h=>?_) (fun h=>?_)
   · refine cq 4 [2] [B (false)] 17 ?_
     obtain rfl:=Option.some.inj h
     exact s_ret rfl ⟨_,fin (vs:=[B (false)]) rfl (absE (absorb_plain rfl) (absEN)) rfl (ou_f (ou_n)),kl_n⟩
   · refine aq 1 ?_
     refine cq 8 [20,21] [I ((len s_1)),I (0)] 49 ?_
     obtain ⟨y10,hy10,hy101,hy102⟩:=bJ h
     refine s_loop rfl ?_
     refine rf [0,20,21] [] (Ffi_la_run s_1 rfl _ _ hy10 (fun r' e st hq=>by rw [hy101 r' e] at hq; exact hq) fun u10 hu=>?_)
     replace h:=hy102 u10 hu
     refine aq 2 ?_
     obtain ⟨r11,hr11,h⟩:=bS h
     refine oq 17 (.hs 1 0 [] 1 0 ((r11).map str).length) rfl (e_callV rfl rfl (call_P rfl rfl rfl (avS (shP rfl) (avS (shP rfl) (avN))) (Ffct_F hr11) (.inr rfl) (bl_n) rfl rfl rfl)) ?_
     refine cq 1 [43] [str (s_1)] 33 ?_
     obtain ⟨r12,hr12,h⟩:=bS h
     refine oq 49 (B (r12)) rfl (e_callV rfl rfl (call_P rfl rfl rfl (avS (sh1 rfl rfl (sh_hsM (f:=str) (g:=str) (xs:=r11) rfl rfl (imms_of str_imm))) (avS (shP rfl) (avN))) (Ffy_F hr12) (.inl (rfl)) (bl_n) rfl rfl rfl)) ?_
     refine cq 3 [2] [B ((!r12))] 81 ?_
     obtain rfl:=Option.some.inj h
     exact s_ret rfl ⟨_,fin (vs:=[B ((!r12))]) rfl (absE (absorb_plain rfl) (absEN)) rfl (ou_f (ou_n)),kl_n⟩
 have r3 : ∀ r',y3=.inl r'→∀ st,Ffi_Q s_1 r' st→(Ffi_Q s_1 r) st:=fun r' e st hq=>by rw [hy31 r' e] at hq; exact hq
 replace h:=hy3
 refine sp 9 h rfl (fun h=>?_) (fun h=>?_)
 · refine cq 10 [18] [B (true)] 241 ?_
   exact rf [0,18] [] (j3 _ (Option.some.inj h).symm :)
 · refine cq 1 [10] [str (s_1)] 113 ?_
   obtain ⟨c13,hc13,h⟩:=bS h
   refine oy 129 (.int .u8 ((c13.toNat : Int))) rfl (e_index rfl rfl (i_str rfl rfl hc13)) ?_
   refine cq 3 [14] [B ((decide ((c13.toNat : Int) < 97)))] 177 ?_
   obtain ⟨y14,hy14,hy141,hy142⟩:=bL h
   have j14 : ∀ u14,y14=.inr u14→Run Ffi_E 0 (Ffi_Q s_1 r) (.code (cR (cL (cR Ffi_c))) :: .code (cR (cR Ffi_c)) :: []) (sT 46 [(0,str (s_1)),(18,B (u14))] [] 1):=by
     intro u14 hu
     replace h:=hy142 u14 hu
     exact rf [0,18] [] (j3 _ (Option.some.inj h).symm :)
   have r14 : ∀ r',y14=.inl r'→∀ st,Ffi_Q s_1 r' st→(Ffi_Q s_1 r) st:=fun r' e st hq=>r3 r' (hy141 r' e) st hq
   replace h:=hy14
   refine sp 14 h rfl (fun h=>?_) (fun h=>?_)
   · refine cq 5 [18] [B (true)] 241 ?_
     exact rf [0,18] [] (j14 _ (Option.some.inj h).symm :)
   · refine cq 1 [15] [str (s_1)] 193 ?_
     obtain ⟨c15,hc15,h⟩:=bS h
     refine oy 209 (.int .u8 ((c15.toNat : Int))) rfl (e_index rfl rfl (i_str rfl rfl hc15)) ?_
     refine cq 3 [18] [B ((decide ((c15.toNat : Int) > 122)))] 241 ?_
     exact rf [0,18] [] (j14 _ (Option.some.inj h).symm :)
theorem Ffi_good {G : Go.Ln.Ground} : Good Tryd.prog G 89 Ffi_ent:=good_T (fnOf_good (gl_c Ffq_good (gl_c Ffct_good (gl_c Ffy_good (gl_n))))) agree_mk (Checked.mixed Tryd.checked) Tryd.func89 (n:=1) (m:=0) ⟨rfl,rfl,by decide⟩ (fun _=>⟨rfl,rfl⟩) (fun a r h=>Ffi_run a r h)
def Ffp_A : (Event × Int)→List V:=cA enc_Event (oA I)
def Ffp_R (r : Bool) : V × List V:=(B (r),[])
noncomputable def Ffp_ent : Ent:=entT [false,false] Ffp_A Ffp_R fun x=>Ffp x.1 x.2
theorem Ffp_F {e_1 : Event} {parties_2 : Int} {r} (h : Ffp e_1 parties_2=some r) : (Ffp_ent).F (Ffp_A (e_1,parties_2))=some (Ffp_R r):=entT_F (cA_inj enc_Event_inj (oA_inj I_inj)) h
noncomputable def Ffp_c : Code:=bodyOf Tryd.f66
noncomputable def Ffp_E : Env:=mkE Tryd.prog [(91,Ffo_ent),(55,Ffq_ent),(89,Ffi_ent)]
def Ffp_Q (x : Event × Int) (r : Bool) : St→Prop:=QF Ffp_E Tryd.f66 [false,false] (Ffp_A x) (Ffp_R r)
theorem Ffp_run (e_1 : Event) (parties_2 : Int) (r : Bool) (h : Ffp e_1 parties_2=some r) : RunF Ffp_E Tryd.f66 [false,false] 0 (Ffp_A (e_1,parties_2)) (Ffp_R r):=by
 show Run _ _ (Ffp_Q (e_1,parties_2) r) [.code Ffp_c] _
 refine rin (n:=25) [(0,enc_Event e_1),(1,I (parties_2))] [] 1 (by kernel_rfl) (by kernel_rfl) (by kernel_rfl) rfl ?_
 unfold Ffp at h
 refine ck 9 [2,6] [] [1] [] [.hp 1 0 [] 4 0 0,I (e_1.Day)] [some ⟨0,4,[enc_Event e_1]⟩] 65 (by kernel_rfl) ?_
 obtain ⟨r3,hr3,h⟩:=bS h
 refine oq 81 (B (r3)) rfl (e_callV rfl rfl (call_P rfl rfl rfl (avS (shP rfl) (avN)) (Ffo_F hr3) (.inr rfl) (bl_n) rfl rfl rfl)) ?_
 refine cq 1 [8] [B (r3)] 97 ?_
 obtain ⟨y4,hy4,hy41,hy42⟩:=bJ h
 have j4 : ∀ u4,y4=.inr u4→Run Ffp_E 0 (Ffp_Q (e_1,parties_2) r) (.code (cR (cR Ffp_c)) :: []) (sT 25 [(4,B (u4))] [] 1):=by
   intro u4 hu
   replace h:=hy42 u4 hu
   obtain rfl:=Option.some.inj h
   exact s_ret rfl ⟨_,fin (vs:=[B (u4)]) rfl (absE (absorb_plain rfl) (absEN)) rfl (ou_f (ou_f (ou_n))),kl_n⟩
 have r4 : ∀ r',y4=.inl r'→∀ st,Ffp_Q (e_1,parties_2) r' st→(Ffp_Q (e_1,parties_2) r) st:=fun r' e st hq=>by rw [hy41 r' e] at hq; exact hq
 replace h:=hy4
 refine sp 8 h rfl (fun h=>?_) (fun h=>?_)
 · refine cq 4 [10,12] [I (e_1.Party),I ((w64 (parties_2 - 1)))] 161 ?_
   obtain ⟨r5,hr5,h⟩:=bS h
   refine oy 177 (B (r5)) rfl (e_callV rfl rfl (call_P rfl rfl rfl (avS (shP rfl) (avS (shP rfl) (avS (shP rfl) (avN)))) (Ffq_F hr5) (.inr rfl) (bl_n) rfl rfl rfl)) ?_
   refine cq 2 [15] [B (r5)] 209 ?_
   obtain ⟨y6,hy6,hy61,hy62⟩:=bL h
   have j6 : ∀ u6,y6=.inr u6→Run Ffp_E 0 (Ffp_Q (e_1,parties_2) r) (.code (cR (cR Ffp_c)) :: []) (sT 25 [(4,B (u6))] [] 1):=by
     intro u6 hu
     replace h:=hy62 u6 hu
     exact rf [4] [] (j4 _ (Option.some.inj h).symm :)
   have r6 : ∀ r',y6=.inl r'→∀ st,Ffp_Q (e_1,parties_2) r' st→(Ffp_Q (e_1,parties_2) r) st:=fun r' e st hq=>r4 r' (hy61 r' e) st hq
   replace h:=hy6
   refine sp 15 h rfl (fun h=>?_) (fun h=>?_)
   · refine cq 2 [17] [str (e_1.Action)] 241 ?_
     obtain ⟨r7,hr7,h⟩:=bS h
     refine oy 257 (B (r7)) rfl (e_callV rfl rfl (call_P rfl rfl rfl (avS (shP rfl) (avN)) (Ffi_F hr7) (.inr rfl) (bl_n) rfl rfl rfl)) ?_
     refine cq 2 [20] [B (r7)] 289 ?_
     obtain ⟨y8,hy8,hy81,hy82⟩:=bL h
     have j8 : ∀ u8,y8=.inr u8→Run Ffp_E 0 (Ffp_Q (e_1,parties_2) r) (.code (cR (cR Ffp_c)) :: []) (sT 25 [(4,B (u8))] [] 1):=by
       intro u8 hu
       replace h:=hy82 u8 hu
       exact rf [4] [] (j6 _ (Option.some.inj h).symm :)
     have r8 : ∀ r',y8=.inl r'→∀ st,Ffp_Q (e_1,parties_2) r' st→(Ffp_Q (e_1,parties_2) r) st:=fun r' e st hq=>r6 r' (hy81 r' e) st hq
     replace h:=hy8
     refine sp 20 h rfl (fun h=>?_) (fun h=>?_)
     · refine cq 2 [22] [I (e_1.Amount)] 321 ?_
       obtain ⟨r9,hr9,h⟩:=bS h
       refine oy 337 (B (r9)) rfl (e_callV rfl rfl (call_P rfl rfl rfl (avS (shP rfl) (avS (shP rfl) (avS (shP rfl) (avN)))) (Ffq_F hr9) (.inr rfl) (bl_n) rfl rfl rfl)) ?_
       refine cq 3 [4] [B (r9)] 369 ?_
       exact rf [4] [] (j8 _ (Option.some.inj h).symm :)
     · refine cq 6 [4] [B (false)] 369 ?_
       exact rf [4] [] (j8 _ (Option.some.inj h).symm :)
   · refine cq 11 [4] [B (false)] 369 ?_
     exact rf [4] [] (j6 _ (Option.some.inj h).symm :)
 · refine cq 18 [4] [B (false)] 369 ?_
   exact rf [4] [] (j4 _ (Option.some.inj h).symm :)
theorem Ffp_good {G : Go.Ln.Ground} : Good Tryd.prog G 66 Ffp_ent:=good_T (fnOf_good (gl_c Ffo_good (gl_c Ffq_good (gl_c Ffi_good (gl_n))))) agree_mk (Checked.mixed Tryd.checked) Tryd.func66 (n:=2) (m:=0) ⟨rfl,rfl,by decide⟩ (fun _=>⟨rfl,rfl⟩) (fun a r h=>Ffp_run a.1 a.2 r h)
def Ffn_A : (Event × Int)→List V:=cA enc_Event (oA (fun x : Int=>.iptr (I x) 0))
def Ffn_R (r : Bool) : V × List V:=(B (r),[])
noncomputable def Ffn_ent : Ent:=entT [false,false] Ffn_A Ffn_R fun x=>Ffn x.1 x.2
theorem Ffn_F {e_1 : Event} {a_2 : Int} {r} (h : Ffn e_1 a_2=some r) : (Ffn_ent).F (Ffn_A (e_1,a_2))=some (Ffn_R r):=entT_F (cA_inj enc_Event_inj (oA_inj (iptr_inj I_inj))) h
noncomputable def Ffn_c : Code:=bodyOf Tryd.f79
noncomputable def Ffn_E : Env:=mkE Tryd.prog [(66,Ffp_ent)]
def Ffn_Q (x : Event × Int) (r : Bool) : St→Prop:=QF Ffn_E Tryd.f79 [false,false] (Ffn_A x) (Ffn_R r)
theorem Ffn_run (e_1 : Event) (a_2 : Int) (r : Bool) (h : Ffn e_1 a_2=some r) : RunF Ffn_E Tryd.f79 [false,false] 0 (Ffn_A (e_1,a_2)) (Ffn_R r):=by
 show Run _ _ (Ffn_Q (e_1,a_2) r) [.code Ffn_c] _
 refine rin (n:=8) [(0,enc_Event e_1),(1,.iptr (I (a_2)) 0)] [] 1 (by kernel_rfl) (by kernel_rfl) (by kernel_rfl) rfl ?_
 unfold Ffn at h
 refine cq 9 [4,5] [enc_Event e_1,I (a_2)] 65 ?_
 obtain ⟨r3,hr3,h⟩:=bS h
 refine oq 81 (B (r3)) rfl (e_callV rfl rfl (call_P rfl rfl rfl (avS (shP rfl) (avS (shP rfl) (avN))) (Ffp_F hr3) (.inr rfl) (bl_n) rfl rfl rfl)) ?_
 refine cq 3 [3] [B ((!r3))] 113 ?_
 obtain rfl:=Option.some.inj h
 exact s_ret rfl ⟨_,fin (vs:=[B ((!r3))]) rfl (absE (absorb_plain rfl) (absEN)) rfl (ou_f (ou_f (ou_n))),kl_n⟩
theorem Ffn_good {G : Go.Ln.Ground} : Good Tryd.prog G 79 Ffn_ent:=good_T (fnOf_good (gl_c Ffp_good (gl_n))) agree_mk (Checked.mixed Tryd.checked) Tryd.func79 (n:=2) (m:=0) ⟨rfl,rfl,by decide⟩ (fun _=>⟨rfl,rfl⟩) (fun a r h=>Ffn_run a.1 a.2 r h)
def Ffz_A : ((List Event) × Int)→List V:=cA (slE enc_Event) (oA (fun x : Int=>(.fn 79 [.iptr (I x) 0] : V)))
def Ffz_R (r : Int) : V × List V:=(I (r),[])
noncomputable def Ffz_ent : Ent:=entT [false,false] Ffz_A Ffz_R fun x=>Ffz x.1 x.2
theorem Ffz_F {s_1 : List Event} {f_2 : Int} {r} (h : Ffz s_1 f_2=some r) : (Ffz_ent).F (Ffz_A (s_1,f_2))=some (Ffz_R r):=entT_F (cA_inj (isl_inj enc_Event_inj) (oA_inj (fn_inj1 I_inj))) h
noncomputable def Ffz_c : Code:=bodyOf Tryd.f83
noncomputable def Ffz_E : Env:=mkE Tryd.prog [(79,Ffn_ent)]
def Ffz_Q (x : (List Event) × Int) (r : Int) : St→Prop:=QF Ffz_E Tryd.f83 [false,false] (Ffz_A x) (Ffz_R r)
theorem Ffz_la_run (s_1 : List Event) (f_2 : Int)  {Q : St→Prop} {K : List It} (hK : noD K=true) : ∀ (x3 : Int) (y : Int ⊕ Unit),Ffz_la s_1 f_2 x3=some y→(∀ r',y=.inl r'→∀ st,Ffz_Q (s_1,f_2) r' st→Q st)→(∀ u : Unit,y=.inr u→Run Ffz_E 0 Q K (sT 19 [] [] 1))→Run Ffz_E 0 Q (.code (cL (cL (cR (cL (cR Ffz_c))))) :: .lp (cL (cL (cR (cL (cR Ffz_c))))) :: .blk 0 :: K) (sT 19 [(0,.isl false ((s_1).map enc_Event)),(1,.fn 79 [.iptr (I (f_2)) 0]),(7,I ((len s_1))),(8,I (x3))] [] 1):=by
 refine fix_indP (Ffz_la_fin s_1 f_2) ?_
 intro self ih x3 y h hr hn
 unfold Ffz_la_F at h
 refine cq 5 [9] [B ((decide (x3 < (len s_1))))] 17 ?_
 refine sq h (fun h=>?_) (fun h=>?_)
 · refine aq 1 ?_
   refine cq 12 [5,11,12,13] [I (x3),.fn 79 [.iptr (I (f_2)) 0],.isl false ((s_1).map enc_Event),I (x3)] 97 ?_
   obtain ⟨e4,he4,h⟩:=bS h
   refine oq 113 (.iptr (enc_Event e4) 0) rfl (e_indexAddr rfl rfl rfl (ix_islE rfl rfl rfl rfl he4)) ?_
   refine cq 1 [15] [enc_Event e4] 129 ?_
   obtain ⟨r5,hr5,h⟩:=bS h
   refine oq 145 (B (r5)) rfl (e_callV rfl rfl (call_P rfl rfl rfl (avS (shP rfl) (avS (shP rfl) (avN))) (Ffn_F hr5) (.inr rfl) (bl_n) rfl rfl rfl)) ?_
   refine aq 1 ?_
   refine sq h (fun h=>?_) (fun h=>?_)
   · refine cq 5 [4] [I (x3)] 177 ?_
     exact s_ret rfl (hr _ (Option.some.inj h).symm _ ⟨_,fin (vs:=[I (x3)]) rfl (absE (absorb_plain rfl) (absEN)) rfl (ou_f (ou_f (ou_n))),kl_n⟩)
   · refine aq 1 ?_
     refine cq 5 [8] [I ((w64 (x3 + 1)))] 177 ?_
     refine s_lp ?_
     exact rf [0,1,7,8] [] (ih _ _ h hr hn :)
 · refine aq 1 ?_
   exact rf [] [] (hn _ (Option.some.inj h).symm :) (hk:=hK)
theorem Ffz_run (s_1 : List Event) (f_2 : Int) (r : Int) (h : Ffz s_1 f_2=some r) : RunF Ffz_E Tryd.f83 [false,false] 0 (Ffz_A (s_1,f_2)) (Ffz_R r):=by
 show Run _ _ (Ffz_Q (s_1,f_2) r) [.code Ffz_c] _
 refine rin (n:=19) [(0,.isl false ((s_1).map enc_Event)),(1,.fn 79 [.iptr (I (f_2)) 0])] [] 1 (by kernel_rfl) (by kernel_rfl) (by kernel_rfl) rfl ?_
 unfold Ffz at h
 refine cq 8 [6] [.isl false ((s_1).map enc_Event)] 33 ?_
 refine oq 49 (I ((len s_1))) rfl (e_len rfl rfl rfl (l_isl rfl)) ?_
 refine cq 3 [8] [I (0)] 65 ?_
 obtain ⟨y6,hy6,hy61,hy62⟩:=bJ h
 refine s_loop rfl ?_
 refine rf [0,1,7,8] [] (Ffz_la_run s_1 f_2 rfl _ _ hy6 (fun r' e st hq=>by rw [hy61 r' e] at hq; exact hq) fun u6 hu=>?_)
 replace h:=hy62 u6 hu
 refine cq 4 [4] [I ((-1))] 17 ?_
 obtain rfl:=Option.some.inj h
 exact s_ret rfl ⟨_,fin (vs:=[I ((-1))]) rfl (absE (absorb_plain rfl) (absEN)) rfl (ou_f (ou_f (ou_n))),kl_n⟩
theorem Ffz_good {G : Go.Ln.Ground} : Good Tryd.prog G 83 Ffz_ent:=good_T (fnOf_good (gl_c Ffn_good (gl_n))) agree_mk (Checked.mixed Tryd.checked) Tryd.func83 (n:=2) (m:=0) ⟨rfl,rfl,by decide⟩ (fun _=>⟨rfl,rfl⟩) (fun a r h=>Ffz_run a.1 a.2 r h)
def Ffx_A : ((List Event) × Int)→List V:=cA (slE enc_Event) (oA (fun x : Int=>(.fn 79 [.iptr (I x) 0] : V)))
def Ffx_R (r : Bool) : V × List V:=(B (r),[])
noncomputable def Ffx_ent : Ent:=entT [false,false] Ffx_A Ffx_R fun x=>Ffx x.1 x.2
theorem Ffx_F {s_1 : List Event} {f_2 : Int} {r} (h : Ffx s_1 f_2=some r) : (Ffx_ent).F (Ffx_A (s_1,f_2))=some (Ffx_R r):=entT_F (cA_inj (isl_inj enc_Event_inj) (oA_inj (fn_inj1 I_inj))) h
noncomputable def Ffx_c : Code:=bodyOf Tryd.f78
noncomputable def Ffx_E : Env:=mkE Tryd.prog [(83,Ffz_ent)]
def Ffx_Q (x : (List Event) × Int) (r : Bool) : St→Prop:=QF Ffx_E Tryd.f78 [false,false] (Ffx_A x) (Ffx_R r)
theorem Ffx_run (s_1 : List Event) (f_2 : Int) (r : Bool) (h : Ffx s_1 f_2=some r) : RunF Ffx_E Tryd.f78 [false,false] 0 (Ffx_A (s_1,f_2)) (Ffx_R r):=by
 show Run _ _ (Ffx_Q (s_1,f_2) r) [.code Ffx_c] _
 refine rin (n:=9) [(0,.isl false ((s_1).map enc_Event)),(1,.fn 79 [.iptr (I (f_2)) 0])] [] 1 (by kernel_rfl) (by kernel_rfl) (by kernel_rfl) rfl ?_
 unfold Ffx at h
 refine cq 8 [5,6] [.isl false ((s_1).map enc_Event),.fn 79 [.iptr (I (f_2)) 0]] 49 ?_
 obtain ⟨r3,hr3,h⟩:=bS h
 refine oq 65 (I (r3)) rfl (e_callV rfl rfl (call_P rfl rfl rfl (avS (shP rfl) (avS (shF (shC (sh_p rfl) (shN))) (avN))) (Ffz_F hr3) (.inr rfl) (bl_n) rfl rfl rfl)) ?_
 refine cq 3 [4] [B ((decide (r3 ≥ 0)))] 97 ?_
 obtain rfl:=Option.some.inj h
 exact s_ret rfl ⟨_,fin (vs:=[B ((decide (r3 ≥ 0)))]) rfl (absE (absorb_plain rfl) (absEN)) rfl (ou_f (ou_f (ou_n))),kl_n⟩
theorem Ffx_good {G : Go.Ln.Ground} : Good Tryd.prog G 78 Ffx_ent:=good_T (fnOf_good (gl_c Ffz_good (gl_n))) agree_mk (Checked.mixed Tryd.checked) Tryd.func78 (n:=2) (m:=0) ⟨rfl,rfl,by decide⟩ (fun _=>⟨rfl,rfl⟩) (fun a r h=>Ffx_run a.1 a.2 r h)
def Ffm_A : ((List Event) × Int)→List V:=cA (slE enc_Event) (oA I)
def Ffm_R (r : Bool) : V × List V:=(B (r),[])
noncomputable def Ffm_ent : Ent:=entT [false,false] Ffm_A Ffm_R fun x=>Ffm x.1 x.2
theorem Ffm_F {list_1 : List Event} {parties_2 : Int} {r} (h : Ffm list_1 parties_2=some r) : (Ffm_ent).F (Ffm_A (list_1,parties_2))=some (Ffm_R r):=entT_F (cA_inj (isl_inj enc_Event_inj) (oA_inj I_inj)) h
noncomputable def Ffm_c : Code:=bodyOf Tryd.f50
noncomputable def Ffm_E : Env:=mkE Tryd.prog [(55,Ffq_ent),(78,Ffx_ent)]
def Ffm_Q (x : (List Event) × Int) (r : Bool) : St→Prop:=QF Ffm_E Tryd.f50 [false,false] (Ffm_A x) (Ffm_R r)
theorem Ffm_run (list_1 : List Event) (parties_2 : Int) (r : Bool) (h : Ffm list_1 parties_2=some r) : RunF Ffm_E Tryd.f50 [false,false] 0 (Ffm_A (list_1,parties_2)) (Ffm_R r):=by
 show Run _ _ (Ffm_Q (list_1,parties_2) r) [.code Ffm_c] _
 refine rin (n:=18) [(0,.isl false ((list_1).map enc_Event)),(1,I (parties_2))] [] 1 (by kernel_rfl) (by kernel_rfl) (by kernel_rfl) rfl ?_
 unfold Ffm at h
 refine ck 8 [3,5] [] [1] [] [.hp 1 0 [] 1 0 0,I (parties_2)] [some ⟨0,1,[I (parties_2)]⟩] 49 (by kernel_rfl) ?_
 obtain ⟨r3,hr3,h⟩:=bS h
 refine oq 65 (B (r3)) rfl (e_callV rfl rfl (call_P rfl rfl rfl (avS (shP rfl) (avS (shP rfl) (avS (shP rfl) (avN)))) (Ffq_F hr3) (.inr rfl) (bl_n) rfl rfl rfl)) ?_
 refine cq 1 [7] [B (r3)] 81 ?_
 obtain ⟨y4,hy4,hy41,hy42⟩:=bJ h
 have j4 : ∀ u4,y4=.inr u4→Run Ffm_E 0 (Ffm_Q (list_1,parties_2) r) (.code (cR (cR Ffm_c)) :: []) (sT 18 [(4,B (u4))] [] 1):=by
   intro u4 hu
   replace h:=hy42 u4 hu
   obtain rfl:=Option.some.inj h
   exact s_ret rfl ⟨_,fin (vs:=[B (u4)]) rfl (absE (absorb_plain rfl) (absEN)) rfl (ou_f (ou_f (ou_n))),kl_n⟩
 have r4 : ∀ r',y4=.inl r'→∀ st,Ffm_Q (list_1,parties_2) r' st→(Ffm_Q (list_1,parties_2) r) st:=fun r' e st hq=>by rw [hy41 r' e] at hq; exact hq
 replace h:=hy4
 refine sp 7 h rfl (fun h=>?_) (fun h=>?_)
 · refine cq 1 [8] [.isl false ((list_1).map enc_Event)] 97 ?_
   refine oy 113 (I ((len list_1))) rfl (e_len rfl rfl rfl (l_isl rfl)) ?_
   refine cq 3 [12] [B ((decide ((len list_1) ≤ 40)))] 161 ?_
   obtain ⟨y5,hy5,hy51,hy52⟩:=bL h
   have j5 : ∀ u5,y5=.inr u5→Run Ffm_E 0 (Ffm_Q (list_1,parties_2) r) (.code (cR (cR Ffm_c)) :: []) (sT 18 [(4,B (u5))] [] 1):=by
     intro u5 hu
     replace h:=hy52 u5 hu
     exact rf [4] [] (j4 _ (Option.some.inj h).symm :)
   have r5 : ∀ r',y5=.inl r'→∀ st,Ffm_Q (list_1,parties_2) r' st→(Ffm_Q (list_1,parties_2) r) st:=fun r' e st hq=>r4 r' (hy51 r' e) st hq
   replace h:=hy5
   refine sp 12 h rfl (fun h=>?_) (fun h=>?_)
   · refine cq 2 [13,14] [.isl false ((list_1).map enc_Event),.fn 79 [.hp 1 0 [] 1 0 0]] 193 ?_
     obtain ⟨r6,hr6,h⟩:=bS h
     refine oy 209 (B (r6)) rfl (e_callV rfl rfl (call_P rfl rfl rfl (avS (shP rfl) (avS (shF (shC (shp_at (path:=[]) rfl rfl (ra_n) rfl (rfl)) (shN))) (avN))) (Ffx_F hr6) (.inl (rfl)) (bl_n) rfl rfl rfl)) ?_
     refine cq 4 [4] [B ((!r6))] 257 ?_
     exact rf [4] [] (j5 _ (Option.some.inj h).symm :)
   · refine cq 7 [4] [B (false)] 257 ?_
     exact rf [4] [] (j5 _ (Option.some.inj h).symm :)
 · refine cq 12 [4] [B (false)] 257 ?_
   exact rf [4] [] (j4 _ (Option.some.inj h).symm :)
theorem Ffm_good {G : Go.Ln.Ground} : Good Tryd.prog G 50 Ffm_ent:=good_T (fnOf_good (gl_c Ffq_good (gl_c Ffx_good (gl_n)))) agree_mk (Checked.mixed Tryd.checked) Tryd.func50 (n:=2) (m:=0) ⟨rfl,rfl,by decide⟩ (fun _=>⟨rfl,rfl⟩) (fun a r h=>Ffm_run a.1 a.2 r h)
def Ffw_A : ((List Event))→List V:=oA (slE enc_Event)
def Ffw_R (r : (List Event)) : V × List V:=(.usl 4 ((r).map enc_Event),[])
noncomputable def Ffw_ent : Ent:=entT [false] Ffw_A Ffw_R fun x=>Ffw x
theorem Ffw_F {s_1 : List Event} {r} (h : Ffw s_1=some r) : (Ffw_ent).F (Ffw_A s_1)=some (Ffw_R r):=entT_F (oA_inj (isl_inj enc_Event_inj)) h
noncomputable def Ffw_c : Code:=bodyOf Tryd.f56
noncomputable def Ffw_E : Env:=mkE Tryd.prog []
def Ffw_Q (x : (List Event)) (r : (List Event)) : St→Prop:=QF Ffw_E Tryd.f56 [false] (Ffw_A x) (Ffw_R r)
theorem Ffw_run (s_1 : List Event) (r : (List Event)) (h : Ffw s_1=some r) : RunF Ffw_E Tryd.f56 [false] 0 (Ffw_A s_1) (Ffw_R r):=by
 show Run _ _ (Ffw_Q s_1 r) [.code Ffw_c] _
 refine rin (n:=8) [(0,.isl false ((s_1).map enc_Event))] [] 1 (by kernel_rfl) (by kernel_rfl) (by kernel_rfl) rfl ?_
 unfold Ffw at h
 refine cq 8 [3] [.isl false ((s_1).map enc_Event)] 33 ?_
 refine nq (f:=enc_Event) (xs:=s_1) true 49 rfl h rfl rfl rfl rfl (fun h=>?_) (fun h=>?_)
 · refine aq 1 ?_
   refine s_cond rfl rfl (fun _=>?_) (fun hb=>by cases hb)
   refine cq 4 [2] [.isl true []] 65 ?_
   refine run_own 2 0 4 81 (.hs 65 0 [] 4 0 0) rfl rfl rfl rfl rfl ?_
   obtain rfl:=Option.some.inj h
   exact s_ret rfl ⟨_,fin (vs:=[.hs 65 0 [] 4 0 0]) rfl (absE (abs1 rfl (abs_hs rfl rfl)) (absEN)) rfl (ou_f (ou_n)),kl_n⟩
 · refine aq 1 ?_
   refine s_cond rfl rfl (fun hb=>by cases hb) (fun _=>?_)
   refine aq 3 ?_
   refine oq 65 (.hs 49 0 [] 4 0 0) rfl (e_buildSlice rfl (bs_mk (f:=I) (xs:=[]) (z:=.agg [I (0),I (0),str ([]),I (0)]) (es:=[]) (ws:=[]) rfl rfl rfl (by decide) rfl (abs_each_plain rfl) rfl)) ?_
   refine cq 1 [6] [.isl false ((s_1).map enc_Event)] 81 ?_
   obtain ⟨a2,ha2,h⟩:=bS h
   refine oq 97 (.hs 81 0 [] 4 0 ((a2).map enc_Event).length) rfl (e_append rfl rfl rfl rfl rfl (ap_hsM (path:=[]) (es0:=[]) (f:=enc_Event) (xs:=([] : List Event)) (ys:=s_1) rfl rfl (take_isl) rfl rfl rfl (rfl) rfl (by decide) enc_Event_cells ha2 rfl (to_n))) ?_
   refine cq 2 [2] [.hs 81 0 [] 4 0 ((a2).map enc_Event).length] 113 ?_
   obtain rfl:=Option.some.inj h
   exact s_ret rfl ⟨_,fin (vs:=[.hs 81 0 [] 4 0 ((a2).map enc_Event).length]) rfl (absE (abs1 rfl (abs_hs rfl rfl)) (absEN)) rfl (ou_f (ou_n)),kl_n⟩
theorem Ffw_good {G : Go.Ln.Ground} : Good Tryd.prog G 56 Ffw_ent:=good_T (fnOf_good (gl_n)) agree_mk (Checked.mixed Tryd.checked) Tryd.func56 (n:=1) (m:=0) ⟨rfl,rfl,by decide⟩ (fun _=>⟨rfl,rfl⟩) (fun a r h=>Ffw_run a r h)
def Ffv_A : Int→List V:=oA (V.int .u64)
def Ffv_R (r : Int) : V × List V:=(I (r),[])
noncomputable def Ffv_ent : Ent:=entT [false] Ffv_A Ffv_R fun x=>Ffv x
theorem Ffv_F {x_1 : Int} {r} (h : Ffv x_1=some r) : (Ffv_ent).F (Ffv_A x_1)=some (Ffv_R r):=entT_F (oA_inj (vint_inj (k:=.u64))) h
noncomputable def Ffv_c : Code:=bodyOf Tryd.f124
noncomputable def Ffv_E : Env:=mkE Tryd.prog []
def Ffv_Q (x : Int) (r : Int) : St→Prop:=QF Ffv_E Tryd.f124 [false] (Ffv_A x) (Ffv_R r)
theorem Ffv_run (x_1 : Int) (r : Int) (h : Ffv x_1=some r) : RunF Ffv_E Tryd.f124 [false] 0 (Ffv_A x_1) (Ffv_R r):=by
 show Run _ _ (Ffv_Q x_1 r) [.code Ffv_c] _
 refine rin (n:=25) [(0,.int .u64 (x_1))] [] 1 (by kernel_rfl) (by kernel_rfl) (by kernel_rfl) rfl ?_
 unfold Ffv at h
 refine cq 10 [2,4] [I (0),B ((decide (x_1 ≥ 4294967296)))] 49 ?_
 obtain ⟨u2,hu2,h⟩:=lJ h
 have j2 : Run Ffv_E 0 (Ffv_Q x_1 r) (.code (cR (cR Ffv_c)) :: []) (sT 25 [(0,.int .u64 (u2.1)),(2,I (u2.2))] [] 1):=by
   refine cq 6 [8] [B ((decide (u2.1 ≥ 65536)))] 33 ?_
   obtain ⟨u3,hu3,h⟩:=lJ h
   have j3 : Run Ffv_E 0 (Ffv_Q x_1 r) (.code (cR (cR (cR Ffv_c))) :: []) (sT 25 [(0,.int .u64 (u3.1)),(2,I (u3.2))] [] 1):=by
     refine cq 6 [14] [B ((decide (u3.1 ≥ 256)))] 33 ?_
     obtain ⟨u4,hu4,h⟩:=lJ h
     have j4 : Run Ffv_E 0 (Ffv_Q x_1 r) (.code (cR (cR (cR (cR Ffv_c)))) :: []) (sT 25 [(0,.int .u64 (u4.1)),(2,I (u4.2))] [] 1):=by
       refine cq 5 [19,21] [I (u4.2),.int .u8 ((IntKind.u8.wrap u4.1))] 49 ?_
       obtain ⟨c5,hc5,h⟩:=bS h
       refine oq 65 (.int .u8 ((c5.toNat : Int))) rfl (e_index rfl rfl (i_str rfl rfl hc5)) ?_
       refine cq 4 [2] [I ((w64 (u4.2 + (IntKind.i64.wrap (c5.toNat : Int)))))] 113 ?_
       obtain rfl:=Option.some.inj h
       exact s_ret rfl ⟨_,fin (vs:=[I ((w64 (u4.2 + (IntKind.i64.wrap (c5.toNat : Int)))))]) rfl (absE (absorb_plain rfl) (absEN)) rfl (ou_f (ou_n)),kl_n⟩
     replace h:=hu4
     clear hu4
     refine scp h rfl rfl (fun h=>?_) (fun h=>?_)
     · refine cq 11 [0,2] [.int .u64 ((shrI .u64 u3.1 8)),I ((w64 (u3.2 + 8)))] 129 ?_
       subst h
       exact rf [0,2] [] (j4 :)
     · refine aq 1 ?_
       subst h
       exact rf [0,2] [] (j4 :)
   replace h:=hu3
   clear hu3
   refine scp h rfl rfl (fun h=>?_) (fun h=>?_)
   · refine cq 11 [0,2] [.int .u64 ((shrI .u64 u2.1 16)),I ((w64 (u2.2 + 16)))] 129 ?_
     subst h
     exact rf [0,2] [] (j3 :)
   · refine aq 1 ?_
     subst h
     exact rf [0,2] [] (j3 :)
 replace h:=hu2
 clear hu2
 refine scp h rfl rfl (fun h=>?_) (fun h=>?_)
 · refine cq 9 [0,2] [.int .u64 ((shrI .u64 x_1 32)),I (32)] 113 ?_
   subst h
   exact rf [0,2] [] (j2 :)
 · refine aq 1 ?_
   subst h
   exact rf [0,2] [] (j2 :)
theorem Ffv_good {G : Go.Ln.Ground} : Good Tryd.prog G 124 Ffv_ent:=good_T (fnOf_good (gl_n)) agree_mk (Checked.mixed Tryd.checked) Tryd.func124 (n:=1) (m:=0) ⟨rfl,rfl,by decide⟩ (fun _=>⟨rfl,rfl⟩) (fun a r h=>Ffv_run a r h)
def Ffu_A : Int→List V:=oA (V.int .u64)
def Ffu_R (r : Int) : V × List V:=(I (r),[])
noncomputable def Ffu_ent : Ent:=entT [false] Ffu_A Ffu_R fun x=>Ffu x
theorem Ffu_F {x_1 : Int} {r} (h : Ffu x_1=some r) : (Ffu_ent).F (Ffu_A x_1)=some (Ffu_R r):=entT_F (oA_inj (vint_inj (k:=.u64))) h
noncomputable def Ffu_c : Code:=bodyOf Tryd.f95
noncomputable def Ffu_E : Env:=mkE Tryd.prog [(124,Ffv_ent)]
def Ffu_Q (x : Int) (r : Int) : St→Prop:=QF Ffu_E Tryd.f95 [false] (Ffu_A x) (Ffu_R r)
theorem Ffu_run (x_1 : Int) (r : Int) (h : Ffu x_1=some r) : RunF Ffu_E Tryd.f95 [false] 0 (Ffu_A x_1) (Ffu_R r):=by
 show Run _ _ (Ffu_Q x_1 r) [.code Ffu_c] _
 refine rin (n:=8) [(0,.int .u64 (x_1))] [] 1 (by kernel_rfl) (by kernel_rfl) (by kernel_rfl) rfl ?_
 unfold Ffu at h
 refine cq 5 [] [] 17 ?_
 refine s_cond rfl rfl (fun hb=>by cases hb) (fun _=>?_)
 refine cq 4 [6] [.int .u64 (x_1)] 33 ?_
 obtain ⟨r2,hr2,h⟩:=bS h
 refine oq 49 (I (r2)) rfl (e_callV rfl rfl (call_P rfl rfl rfl (avS (shP rfl) (avN)) (Ffv_F hr2) (.inr rfl) (bl_n) rfl rfl rfl)) ?_
 refine cq 2 [2] [I (r2)] 65 ?_
 obtain rfl:=Option.some.inj h
 exact s_ret rfl ⟨_,fin (vs:=[I (r2)]) rfl (absE (absorb_plain rfl) (absEN)) rfl (ou_f (ou_n)),kl_n⟩
theorem Ffu_good {G : Go.Ln.Ground} : Good Tryd.prog G 95 Ffu_ent:=good_T (fnOf_good (gl_c Ffv_good (gl_n))) agree_mk (Checked.mixed Tryd.checked) Tryd.func95 (n:=1) (m:=0) ⟨rfl,rfl,by decide⟩ (fun _=>⟨rfl,rfl⟩) (fun a r h=>Ffu_run a r h)
def Ffd_A : Int→List V:=oA I
def Ffd_R (r : Bool) : V × List V:=(B (r),[])
noncomputable def Ffd_ent : Ent:=entT [false] Ffd_A Ffd_R fun x=>Ffd x
theorem Ffd_F {x_1 : Int} {r} (h : Ffd x_1=some r) : (Ffd_ent).F (Ffd_A x_1)=some (Ffd_R r):=entT_F (oA_inj I_inj) h
noncomputable def Ffd_c : Code:=bodyOf Tryd.f102
noncomputable def Ffd_E : Env:=mkE Tryd.prog []
def Ffd_Q (x : Int) (r : Bool) : St→Prop:=QF Ffd_E Tryd.f102 [false] (Ffd_A x) (Ffd_R r)
theorem Ffd_run (x_1 : Int) (r : Bool) (h : Ffd x_1=some r) : RunF Ffd_E Tryd.f102 [false] 0 (Ffd_A x_1) (Ffd_R r):=by
 show Run _ _ (Ffd_Q x_1 r) [.code Ffd_c] _
 refine rin (n:=6) [(0,I (x_1))] [] 1 (by kernel_rfl) (by kernel_rfl) (by kernel_rfl) rfl ?_
 unfold Ffd at h
 refine cq 11 [2] [B ((x_1 != x_1))] 81 ?_
 obtain rfl:=Option.some.inj h
 exact s_ret rfl ⟨_,fin (vs:=[B ((x_1 != x_1))]) rfl (absE (absorb_plain rfl) (absEN)) rfl (ou_f (ou_n)),kl_n⟩
theorem Ffd_good {G : Go.Ln.Ground} : Good Tryd.prog G 102 Ffd_ent:=good_T (fnOf_good (gl_n)) agree_mk (Checked.mixed Tryd.checked) Tryd.func102 (n:=1) (m:=0) ⟨rfl,rfl,by decide⟩ (fun _=>⟨rfl,rfl⟩) (fun a r h=>Ffd_run a r h)
def Ffa_A : (Int × Int)→List V:=cA I (oA I)
def Ffa_R (r : Int) : V × List V:=(I (r),[])
noncomputable def Ffa_ent : Ent:=entT [false,false] Ffa_A Ffa_R fun x=>Ffa x.1 x.2
theorem Ffa_F {x_1 : Int} {y_2 : Int} {r} (h : Ffa x_1 y_2=some r) : (Ffa_ent).F (Ffa_A (x_1,y_2))=some (Ffa_R r):=entT_F (cA_inj I_inj (oA_inj I_inj)) h
noncomputable def Ffa_c : Code:=bodyOf Tryd.f81
noncomputable def Ffa_E : Env:=mkE Tryd.prog [(102,Ffd_ent)]
def Ffa_Q (x : Int × Int) (r : Int) : St→Prop:=QF Ffa_E Tryd.f81 [false,false] (Ffa_A x) (Ffa_R r)
theorem Ffa_run (x_1 : Int) (y_2 : Int) (r : Int) (h : Ffa x_1 y_2=some r) : RunF Ffa_E Tryd.f81 [false,false] 0 (Ffa_A (x_1,y_2)) (Ffa_R r):=by
 show Run _ _ (Ffa_Q (x_1,y_2) r) [.code Ffa_c] _
 refine rin (n:=20) [(0,I (x_1)),(1,I (y_2))] [] 1 (by kernel_rfl) (by kernel_rfl) (by kernel_rfl) rfl ?_
 unfold Ffa at h
 refine cq 7 [7] [I (x_1)] 33 ?_
 obtain ⟨r3,hr3,h⟩:=bS h
 refine oq 49 (B (r3)) rfl (e_callV rfl rfl (call_P rfl rfl rfl (avS (shP rfl) (avN)) (Ffd_F hr3) (.inr rfl) (bl_n) rfl rfl rfl)) ?_
 refine cq 5 [5,9] [B (r3),I (y_2)] 81 ?_
 obtain ⟨r4,hr4,h⟩:=bS h
 refine oq 97 (B (r4)) rfl (e_callV rfl rfl (call_P rfl rfl rfl (avS (shP rfl) (avN)) (Ffd_F hr4) (.inr rfl) (bl_n) rfl rfl rfl)) ?_
 refine cq 7 [6,11] [B (r4),B (r3)] 129 ?_
 refine sq h (fun h=>?_) (fun h=>?_)
 · refine cq 5 [12] [B (r4)] 145 ?_
   refine sq h (fun h=>?_) (fun h=>?_)
   · refine cq 4 [4] [I (0)] 161 ?_
     obtain rfl:=Option.some.inj h
     exact s_ret rfl ⟨_,fin (vs:=[I (0)]) rfl (absE (absorb_plain rfl) (absEN)) rfl (ou_f (ou_f (ou_n))),kl_n⟩
   · refine aq 1 ?_
     refine cq 4 [4] [I ((-1))] 161 ?_
     obtain rfl:=Option.some.inj h
     exact s_ret rfl ⟨_,fin (vs:=[I ((-1))]) rfl (absE (absorb_plain rfl) (absEN)) rfl (ou_f (ou_f (ou_n))),kl_n⟩
 · refine aq 1 ?_
   refine cq 5 [13] [B (r4)] 145 ?_
   refine sq h (fun h=>?_) (fun h=>?_)
   · refine cq 4 [4] [I (1)] 161 ?_
     obtain rfl:=Option.some.inj h
     exact s_ret rfl ⟨_,fin (vs:=[I (1)]) rfl (absE (absorb_plain rfl) (absEN)) rfl (ou_f (ou_f (ou_n))),kl_n⟩
   · refine aq 1 ?_
     refine cq 7 [16] [B ((decide (x_1 < y_2)))] 193 ?_
     refine sq h (fun h=>?_) (fun h=>?_)
     · refine cq 4 [4] [I ((-1))] 209 ?_
       obtain rfl:=Option.some.inj h
       exact s_ret rfl ⟨_,fin (vs:=[I ((-1))]) rfl (absE (absorb_plain rfl) (absEN)) rfl (ou_f (ou_f (ou_n))),kl_n⟩
     · refine aq 1 ?_
       refine cq 7 [19] [B ((decide (x_1 > y_2)))] 241 ?_
       refine sq h (fun h=>?_) (fun h=>?_)
       · refine cq 4 [4] [I (1)] 257 ?_
         obtain rfl:=Option.some.inj h
         exact s_ret rfl ⟨_,fin (vs:=[I (1)]) rfl (absE (absorb_plain rfl) (absEN)) rfl (ou_f (ou_f (ou_n))),kl_n⟩
       · refine aq 1 ?_
         refine cq 4 [4] [I (0)] 257 ?_
         obtain rfl:=Option.some.inj h
         exact s_ret rfl ⟨_,fin (vs:=[I (0)]) rfl (absE (absorb_plain rfl) (absEN)) rfl (ou_f (ou_f (ou_n))),kl_n⟩
theorem Ffa_good {G : Go.Ln.Ground} : Good Tryd.prog G 81 Ffa_ent:=good_T (fnOf_good (gl_c Ffd_good (gl_n))) agree_mk (Checked.mixed Tryd.checked) Tryd.func81 (n:=2) (m:=0) ⟨rfl,rfl,by decide⟩ (fun _=>⟨rfl,rfl⟩) (fun a r h=>Ffa_run a.1 a.2 r h)
def Ffe_A : Str→List V:=oA str
def Ffe_R (r : Bool) : V × List V:=(B (r),[])
noncomputable def Ffe_ent : Ent:=entT [false] Ffe_A Ffe_R fun x=>Ffe x
theorem Ffe_F {x_1 : Str} {r} (h : Ffe x_1=some r) : (Ffe_ent).F (Ffe_A x_1)=some (Ffe_R r):=entT_F (oA_inj str_inj) h
noncomputable def Ffe_c : Code:=bodyOf Tryd.f103
noncomputable def Ffe_E : Env:=mkE Tryd.prog []
def Ffe_Q (x : Str) (r : Bool) : St→Prop:=QF Ffe_E Tryd.f103 [false] (Ffe_A x) (Ffe_R r)
theorem Ffe_run (x_1 : Str) (r : Bool) (h : Ffe x_1=some r) : RunF Ffe_E Tryd.f103 [false] 0 (Ffe_A x_1) (Ffe_R r):=by
 show Run _ _ (Ffe_Q x_1 r) [.code Ffe_c] _
 refine rin (n:=6) [(0,str (x_1))] [] 1 (by kernel_rfl) (by kernel_rfl) (by kernel_rfl) rfl ?_
 unfold Ffe at h
 refine cq 11 [2] [B ((!(x_1 == x_1)))] 81 ?_
 obtain rfl:=Option.some.inj h
 exact s_ret rfl ⟨_,fin (vs:=[B ((!(x_1 == x_1)))]) rfl (absE (absorb_plain rfl) (absEN)) rfl (ou_f (ou_n)),kl_n⟩
theorem Ffe_good {G : Go.Ln.Ground} : Good Tryd.prog G 103 Ffe_ent:=good_T (fnOf_good (gl_n)) agree_mk (Checked.mixed Tryd.checked) Tryd.func103 (n:=1) (m:=0) ⟨rfl,rfl,by decide⟩ (fun _=>⟨rfl,rfl⟩) (fun a r h=>Ffe_run a r h)
def Ffb_A : (Str × Str)→List V:=cA str (oA str)
def Ffb_R (r : Int) : V × List V:=(I (r),[])
noncomputable def Ffb_ent : Ent:=entT [false,false] Ffb_A Ffb_R fun x=>Ffb x.1 x.2
theorem Ffb_F {x_1 : Str} {y_2 : Str} {r} (h : Ffb x_1 y_2=some r) : (Ffb_ent).F (Ffb_A (x_1,y_2))=some (Ffb_R r):=entT_F (cA_inj str_inj (oA_inj str_inj)) h
noncomputable def Ffb_c : Code:=bodyOf Tryd.f82
noncomputable def Ffb_E : Env:=mkE Tryd.prog [(103,Ffe_ent)]
def Ffb_Q (x : Str × Str) (r : Int) : St→Prop:=QF Ffb_E Tryd.f82 [false,false] (Ffb_A x) (Ffb_R r)
theorem Ffb_run (x_1 : Str) (y_2 : Str) (r : Int) (h : Ffb x_1 y_2=some r) : RunF Ffb_E Tryd.f82 [false,false] 0 (Ffb_A (x_1,y_2)) (Ffb_R r):=by
 show Run _ _ (Ffb_Q (x_1,y_2) r) [.code Ffb_c] _
 refine rin (n:=20) [(0,str (x_1)),(1,str (y_2))] [] 1 (by kernel_rfl) (by kernel_rfl) (by kernel_rfl) rfl ?_
 unfold Ffb at h
 refine cq 7 [7] [str (x_1)] 33 ?_
 obtain ⟨r3,hr3,h⟩:=bS h
 refine oq 49 (B (r3)) rfl (e_callV rfl rfl (call_P rfl rfl rfl (avS (shP rfl) (avN)) (Ffe_F hr3) (.inr rfl) (bl_n) rfl rfl rfl)) ?_
 refine cq 5 [5,9] [B (r3),str (y_2)] 81 ?_
 obtain ⟨r4,hr4,h⟩:=bS h
 refine oq 97 (B (r4)) rfl (e_callV rfl rfl (call_P rfl rfl rfl (avS (shP rfl) (avN)) (Ffe_F hr4) (.inr rfl) (bl_n) rfl rfl rfl)) ?_
 refine cq 7 [6,11] [B (r4),B (r3)] 129 ?_
 refine sq h (fun h=>?_) (fun h=>?_)
 · refine cq 5 [12] [B (r4)] 145 ?_
   refine sq h (fun h=>?_) (fun h=>?_)
   · refine cq 4 [4] [I (0)] 161 ?_
     obtain rfl:=Option.some.inj h
     exact s_ret rfl ⟨_,fin (vs:=[I (0)]) rfl (absE (absorb_plain rfl) (absEN)) rfl (ou_f (ou_f (ou_n))),kl_n⟩
   · refine aq 1 ?_
     refine cq 4 [4] [I ((-1))] 161 ?_
     obtain rfl:=Option.some.inj h
     exact s_ret rfl ⟨_,fin (vs:=[I ((-1))]) rfl (absE (absorb_plain rfl) (absEN)) rfl (ou_f (ou_f (ou_n))),kl_n⟩
 · refine aq 1 ?_
   refine cq 5 [13] [B (r4)] 145 ?_
   refine sq h (fun h=>?_) (fun h=>?_)
   · refine cq 4 [4] [I (1)] 161 ?_
     obtain rfl:=Option.some.inj h
     exact s_ret rfl ⟨_,fin (vs:=[I (1)]) rfl (absE (absorb_plain rfl) (absEN)) rfl (ou_f (ou_f (ou_n))),kl_n⟩
   · refine aq 1 ?_
     refine cq 7 [16] [B ((Op.bytesLess x_1 y_2))] 193 ?_
     refine sq h (fun h=>?_) (fun h=>?_)
     · refine cq 4 [4] [I ((-1))] 209 ?_
       obtain rfl:=Option.some.inj h
       exact s_ret rfl ⟨_,fin (vs:=[I ((-1))]) rfl (absE (absorb_plain rfl) (absEN)) rfl (ou_f (ou_f (ou_n))),kl_n⟩
     · refine aq 1 ?_
       refine cq 7 [19] [B ((!(Op.bytesLess x_1 y_2 || x_1 == y_2)))] 241 ?_
       refine sq h (fun h=>?_) (fun h=>?_)
       · refine cq 4 [4] [I (1)] 257 ?_
         obtain rfl:=Option.some.inj h
         exact s_ret rfl ⟨_,fin (vs:=[I (1)]) rfl (absE (absorb_plain rfl) (absEN)) rfl (ou_f (ou_f (ou_n))),kl_n⟩
       · refine aq 1 ?_
         refine cq 4 [4] [I (0)] 257 ?_
         obtain rfl:=Option.some.inj h
         exact s_ret rfl ⟨_,fin (vs:=[I (0)]) rfl (absE (absorb_plain rfl) (absEN)) rfl (ou_f (ou_f (ou_n))),kl_n⟩
theorem Ffb_good {G : Go.Ln.Ground} : Good Tryd.prog G 82 Ffb_ent:=good_T (fnOf_good (gl_c Ffe_good (gl_n))) agree_mk (Checked.mixed Tryd.checked) Tryd.func82 (n:=2) (m:=0) ⟨rfl,rfl,by decide⟩ (fun _=>⟨rfl,rfl⟩) (fun a r h=>Ffb_run a.1 a.2 r h)
def Ffc_A : ((List Int))→List V:=oA (slE I)
def Ffc_R (r : Int) : V × List V:=(I (r),[])
noncomputable def Ffc_ent : Ent:=entT [false] Ffc_A Ffc_R fun x=>Ffc x
theorem Ffc_F {vals_1 : List Int} {r} (h : Ffc vals_1=some r) : (Ffc_ent).F (Ffc_A vals_1)=some (Ffc_R r):=entT_F (oA_inj (isl_inj I_inj)) h
noncomputable def Ffc_c : Code:=bodyOf Tryd.f80
noncomputable def Ffc_E : Env:=mkE Tryd.prog []
def Ffc_Q (x : (List Int)) (r : Int) : St→Prop:=QF Ffc_E Tryd.f80 [false] (Ffc_A x) (Ffc_R r)
theorem Ffc_la_run (vals_1 : List Int)  {Q : St→Prop} {K : List It} (hK : noD K=true) : ∀ (x2 : Int) (y : Int ⊕ Unit),Ffc_la vals_1 x2=some y→(∀ r',y=.inl r'→∀ st,Ffc_Q vals_1 r' st→Q st)→(∀ u : Unit,y=.inr u→Run Ffc_E 0 Q K (sT 18 [(3,I (0))] [] 1))→Run Ffc_E 0 Q (.code (cL (cL (cR (cL (cR (cR Ffc_c)))))) :: .lp (cL (cL (cR (cL (cR (cR Ffc_c)))))) :: .blk 0 :: K) (sT 18 [(3,I (0)),(6,.isl false ((vals_1).map I)),(7,I ((len vals_1))),(8,I (x2))] [] 1):=by
 refine fix_indP (Ffc_la_fin vals_1) ?_
 intro self ih x2 y h hr hn
 unfold Ffc_la_F at h
 refine cq 5 [9] [B ((decide (x2 < (len vals_1))))] 17 ?_
 refine sq h (fun h=>?_) (fun h=>?_)
 · refine aq 1 ?_
   refine aq 4 ?_
   obtain ⟨e3,he3,h⟩:=bS h
   refine oq 33 (.iptr (I (e3)) 0) rfl (e_indexAddr rfl rfl rfl (ix_islE rfl rfl rfl rfl he3)) ?_
   refine cq 9 [5,14] [I (e3),B ((e3 != 0))] 113 ?_
   refine sq h (fun h=>?_) (fun h=>?_)
   · refine cq 5 [2] [I (e3)] 145 ?_
     exact s_ret rfl (hr _ (Option.some.inj h).symm _ ⟨_,fin (vs:=[I (e3)]) rfl (absE (absorb_plain rfl) (absEN)) rfl (ou_f (ou_n)),kl_n⟩)
   · refine aq 1 ?_
     refine cq 5 [8] [I ((w64 (x2 + 1)))] 145 ?_
     refine s_lp ?_
     exact rf [3,6,7,8] [] (ih _ _ h hr hn :)
 · refine aq 1 ?_
   exact rf [3] [] (hn _ (Option.some.inj h).symm :) (hk:=hK)
theorem Ffc_run (vals_1 : List Int) (r : Int) (h : Ffc vals_1=some r) : RunF Ffc_E Tryd.f80 [false] 0 (Ffc_A vals_1) (Ffc_R r):=by
 show Run _ _ (Ffc_Q vals_1 r) [.code Ffc_c] _
 refine rin (n:=18) [(0,.isl false ((vals_1).map I))] [] 1 (by kernel_rfl) (by kernel_rfl) (by kernel_rfl) rfl ?_
 unfold Ffc at h
 refine cq 12 [3,6] [I (0),.isl false ((vals_1).map I)] 49 ?_
 refine oq 65 (I ((len vals_1))) rfl (e_len rfl rfl rfl (l_isl rfl)) ?_
 refine cq 3 [8] [I (0)] 81 ?_
 obtain ⟨y4,hy4,hy41,hy42⟩:=bJ h
 refine s_loop rfl ?_
 refine rf [3,6,7,8] [] (Ffc_la_run vals_1 rfl _ _ hy4 (fun r' e st hq=>by rw [hy41 r' e] at hq; exact hq) fun u4 hu=>?_)
 replace h:=hy42 u4 hu
 refine cq 5 [2] [I (0)] 33 ?_
 obtain rfl:=Option.some.inj h
 exact s_ret rfl ⟨_,fin (vs:=[I (0)]) rfl (absE (absorb_plain rfl) (absEN)) rfl (ou_f (ou_n)),kl_n⟩
theorem Ffc_good {G : Go.Ln.Ground} : Good Tryd.prog G 80 Ffc_ent:=good_T (fnOf_good (gl_n)) agree_mk (Checked.mixed Tryd.checked) Tryd.func80 (n:=1) (m:=0) ⟨rfl,rfl,by decide⟩ (fun _=>⟨rfl,rfl⟩) (fun a r h=>Ffc_run a r h)
def Fff_A : (Event × Event)→List V:=cA enc_Event (oA enc_Event)
def Fff_R (r : Int) : V × List V:=(I (r),[])
noncomputable def Fff_ent : Ent:=entT [false,false] Fff_A Fff_R fun x=>Fff x.1 x.2
theorem Fff_F {a_1 : Event} {b_2 : Event} {r} (h : Fff a_1 b_2=some r) : (Fff_ent).F (Fff_A (a_1,b_2))=some (Fff_R r):=entT_F (cA_inj enc_Event_inj (oA_inj enc_Event_inj)) h
noncomputable def Fff_c : Code:=bodyOf Tryd.f52
noncomputable def Fff_E : Env:=mkE Tryd.prog [(81,Ffa_ent),(82,Ffb_ent),(80,Ffc_ent)]
def Fff_Q (x : Event × Event) (r : Int) : St→Prop:=QF Fff_E Tryd.f52 [false,false] (Fff_A x) (Fff_R r)
theorem Fff_run (a_1 : Event) (b_2 : Event) (r : Int) (h : Fff a_1 b_2=some r) : RunF Fff_E Tryd.f52 [false,false] 0 (Fff_A (a_1,b_2)) (Fff_R r):=by
 show Run _ _ (Fff_Q (a_1,b_2) r) [.code Fff_c] _
 refine rin (n:=27) [(0,enc_Event a_1),(1,enc_Event b_2)] [] 1 (by kernel_rfl) (by kernel_rfl) (by kernel_rfl) rfl ?_
 unfold Fff at h
 refine ck 7 [2,3] [] [1,17] [] [.hp 1 0 [] 4 0 0,.hp 17 0 [] 4 0 0] [some ⟨0,4,[enc_Event a_1]⟩,some ⟨0,4,[enc_Event b_2]⟩] 49 (by kernel_rfl) ?_
 refine s_draw [0,1,0,4,15,0,32,0,128,511,0,1024,0,4096,16383,0,32768,0,131072,524287,1048575,2097151,4194303] rfl (by decide +kernel) ?_
 refine dq [1] [] (.hp 1 0 [] 4 0 0) rfl (e_fieldAddr rfl rfl rfl) ?_
 refine dq [1] [] (I (a_1.Day)) rfl (e_ld rfl rfl) ?_
 refine dq [17] [] (.hp 17 0 [] 4 0 0) rfl (e_fieldAddr rfl rfl rfl) ?_
 refine dq [17] [] (I (b_2.Day)) rfl (e_ld rfl rfl) ?_
 obtain ⟨r3,hr3,h⟩:=bS h
 refine dq [] [] (I (r3)) rfl (e_callV rfl rfl (call_P rfl rfl rfl (avS (shP rfl) (avS (shP rfl) (avN))) (Ffa_F hr3) (.inr rfl) (bl_n) rfl rfl rfl)) ?_ (w_callO rfl rfl rfl rfl (avS (shP rfl) (avS (shP rfl) (avN))) (Ffa_F hr3) (.inr rfl) rfl)
 refine dq [1] [] (.hp 1 0 [] 4 0 1) rfl (e_fieldAddr rfl rfl rfl) ?_
 refine dq [1] [] (I (a_1.Party)) rfl (e_ld rfl rfl) ?_
 refine dq [17] [] (.hp 17 0 [] 4 0 1) rfl (e_fieldAddr rfl rfl rfl) ?_
 refine dq [17] [] (I (b_2.Party)) rfl (e_ld rfl rfl) ?_
 obtain ⟨r4,hr4,h⟩:=bS h
 refine dq [] [] (I (r4)) rfl (e_callV rfl rfl (call_P rfl rfl rfl (avS (shP rfl) (avS (shP rfl) (avN))) (Ffa_F hr4) (.inr rfl) (bl_n) rfl rfl rfl)) ?_ (w_callO rfl rfl rfl rfl (avS (shP rfl) (avS (shP rfl) (avN))) (Ffa_F hr4) (.inr rfl) rfl)
 refine dq [1] [] (.hp 1 0 [] 4 0 2) rfl (e_fieldAddr rfl rfl rfl) ?_
 refine dq [1] [] (str (a_1.Action)) rfl (e_ld rfl rfl) ?_
 refine dq [17] [] (.hp 17 0 [] 4 0 2) rfl (e_fieldAddr rfl rfl rfl) ?_
 refine dq [17] [] (str (b_2.Action)) rfl (e_ld rfl rfl) ?_
 obtain ⟨r5,hr5,h⟩:=bS h
 refine dq [] [] (I (r5)) rfl (e_callV rfl rfl (call_P rfl rfl rfl (avS (shP rfl) (avS (shP rfl) (avN))) (Ffb_F hr5) (.inr rfl) (bl_n) rfl rfl rfl)) ?_ (w_callO rfl rfl rfl rfl (avS (shP rfl) (avS (shP rfl) (avN))) (Ffb_F hr5) (.inr rfl) rfl)
 refine dq [1] [] (.hp 1 0 [] 4 0 3) rfl (e_fieldAddr rfl rfl rfl) ?_
 refine dq [1] [] (I (a_1.Amount)) rfl (e_ld rfl rfl) ?_
 refine dq [17] [] (.hp 17 0 [] 4 0 3) rfl (e_fieldAddr rfl rfl rfl) ?_
 refine dq [17] [] (I (b_2.Amount)) rfl (e_ld rfl rfl) ?_
 obtain ⟨r6,hr6,h⟩:=bS h
 refine dq [] [] (I (r6)) rfl (e_callV rfl rfl (call_P rfl rfl rfl (avS (shP rfl) (avS (shP rfl) (avN))) (Ffa_F hr6) (.inr rfl) (bl_n) rfl rfl rfl)) ?_ (w_callO rfl rfl rfl rfl (avS (shP rfl) (avS (shP rfl) (avN))) (Ffa_F hr6) (.inr rfl) rfl)
 refine dq [] [] (.hs 369 0 [] 1 0 4) rfl (e_buildSlice rfl (bs_mk (f:=I) (xs:=[]) (z:=I (0)) (es:=[I (r3),I (r4),I (r5),I (r6)]) (ws:=[I (r3),I (r4),I (r5),I (r6)]) rfl rfl rfl (by decide) rfl (abs_each_plain rfl) rfl)) ?_
 obtain ⟨r7,hr7,h⟩:=bS h
 refine dq [369] [] (I (r7)) rfl (e_callV rfl rfl (call_P rfl rfl rfl (avS (sh1 rfl rfl (sh_hsM (f:=I) (g:=I) (xs:=[r3,r4,r5,r6]) rfl rfl (imms_of I_imm))) (avN)) (Ffc_F hr7) (.inl (rfl)) (bl_n) rfl rfl rfl)) ?_ (w_callO rfl rfl rfl rfl (avS (sh1 rfl rfl (sh_hsM (f:=I) (g:=I) (xs:=[r3,r4,r5,r6]) rfl rfl (imms_of I_imm))) (avN)) (Ffc_F hr7) (.inl (rfl)) rfl)
 refine dk 1 [4] [I (r7)] ?_
 refine de 417 rfl rfl ?_
 obtain rfl:=Option.some.inj h
 exact s_ret rfl ⟨_,fin (vs:=[I (r7)]) rfl (absE (absorb_plain rfl) (absEN)) rfl (ou_f (ou_f (ou_n))),kl_n⟩
theorem Fff_good {G : Go.Ln.Ground} : Good Tryd.prog G 52 Fff_ent:=good_T (fnOf_good (gl_c Ffa_good (gl_c Ffb_good (gl_c Ffc_good (gl_n))))) agree_mk (Checked.mixed Tryd.checked) Tryd.func52 (n:=2) (m:=0) ⟨rfl,rfl,by decide⟩ (fun _=>⟨rfl,rfl⟩) (fun a r h=>Fff_run a.1 a.2 r h)
def Ffbg_A : ((List Event) × Int × Int × Unit)→List V:=cA (usE 4 enc_Event) (cA I (cA I (oA (fun x : Unit=>(.fn 52 [] : V)))))
def Ffbg_R (r : (List Event)) : V × List V:=(.tup [],[.usl 4 ((r).map enc_Event)])
noncomputable def Ffbg_ent : Ent:=entT [true,false,false,false] Ffbg_A Ffbg_R fun x=>Ffbg x.1 x.2.1 x.2.2.1 x.2.2.2
theorem Ffbg_F {data_16 : List Event} {a_17 : Int} {b_18 : Int} {cmp_19 : Unit} {r} (h : Ffbg data_16 a_17 b_18 cmp_19=some r) : (Ffbg_ent).F (Ffbg_A (data_16,a_17,b_18,cmp_19))=some (Ffbg_R r):=entT_F (cA_inj (usl_inj enc_Event_inj) (cA_inj I_inj (cA_inj I_inj (oA_inj (fn_inj0 ))))) h
noncomputable def Ffbg_c : Code:=bodyOf Tryd.f115
noncomputable abbrev Ffbg_ka : Code:=cL (cL (cR (cL (cL (cR (cL (cL (cR Ffbg_c))))))))
noncomputable def Ffbg_E : Env:=mkE Tryd.prog [(52,Fff_ent)]
def Ffbg_Q (x : (List Event) × Int × Int × Unit) (r : (List Event)) : St→Prop:=QF Ffbg_E Tryd.f115 [true,false,false,false] (Ffbg_A x) (Ffbg_R r)
theorem Ffbg_lb_run (data_16 : List Event) (a_17 : Int) (b_18 : Int) (cmp_19 : Unit) (x5 : Int × Int × Int × (List Event)) {Q : St→Prop} {K : List It} (hK : noD K=true) : ∀ (x6 : Int × (List Event)) (y : ((List Event)) ⊕ ((List Event))),Ffbg_lb data_16 a_17 b_18 cmp_19 x5 x6=some y→(∀ r',y=.inl r'→∀ st,Ffbg_Q (data_16,a_17,b_18,cmp_19) r' st→Q st)→(∀ u : (List Event),y=.inr u→Run Ffbg_E 1 Q K (sT 53 [(0,.hs 1 0 [] 4 0 ((u).map enc_Event).length),(1,I (x5.1)),(2,I (x5.2.1)),(3,.fn 52 []),(8,I (x5.2.2.1))] [⟨0,4,(u).map enc_Event⟩] 2))→Run Ffbg_E 1 Q (.code Ffbg_ka :: .lp Ffbg_ka :: .blk 2 :: K) (sT 53 [(0,.hs 1 0 [] 4 0 ((x6.2).map enc_Event).length),(1,I (x5.1)),(2,I (x5.2.1)),(3,.fn 52 []),(8,I (x5.2.2.1)),(9,I (x6.1))] [⟨0,4,(x6.2).map enc_Event⟩] 2):=by
 refine fix_indP (Ffbg_lb_fin data_16 a_17 b_18 cmp_19 x5) ?_
 intro self ih x6 y h hr hn
 unfold Ffbg_lb_F at h
 refine aq 2 ?_
 refine s_draw [0,0,3,7,15,15,15,111,239,15,15,1039,3599,7695,16383,32767,65535] rfl (by decide +kernel) ?_
 refine dk 4 [21,20,19,18] [B ((decide (x6.1 > x5.1))),B ((decide (x6.1 > x5.1))),I (x5.1),I (x6.1)] ?_
 obtain ⟨y7,hy7,hy71,hy72⟩:=bL h
 have j7 : ∀ u7,y7=.inr u7→Run Ffbg_E 1 Q (.code (cR (cL Ffbg_ka)) :: .code (cR Ffbg_ka) :: .lp Ffbg_ka :: .blk 2 :: K) (sT 53 [(0,.hs 1 0 [] 4 0 ((x6.2).map enc_Event).length),(1,I (x5.1)),(2,I (x5.2.1)),(3,.fn 52 []),(8,I (x5.2.2.1)),(9,I (x6.1)),(34,B (u7))] [⟨0,4,(x6.2).map enc_Event⟩] 2):=by
   intro u7 hu
   replace h:=hy72 u7 hu
   refine sq h (fun h=>?_) (fun h=>?_)
   · refine aq 1 ?_
     refine aq 2 ?_
     refine s_draw [0,0,0,0,8,0,0,64,224,480,0,0,3072,7168,16355,32739,65535,131071] rfl (by decide +kernel) ?_
     refine dk 8 [44,43,42,41,40,39,38,37] [I ((w64 (x6.1 - 1))),I (x6.1),.hs 1 0 [] 4 0 ((x6.2).map enc_Event).length,I ((w64 (x6.1 - 1))),I (x6.1),.hs 1 0 [] 4 0 ((x6.2).map enc_Event).length,I (x6.1),.hs 1 0 [] 4 0 ((x6.2).map enc_Event).length] ?_
     obtain ⟨e8,he8,h⟩:=bS h
     refine dq [1] [] (.hp 1 0 [] 4 (0 + Int.toNat ((w64 (x6.1 - 1)))) 0) rfl (e_indexAddr rfl rfl rfl (ix_hsM (f:=enc_Event) (xs:=x6.2) rfl rfl rfl he8)) ?_
     refine dq [1] [] (enc_Event e8) rfl (e_ld rfl (ld_at (path:=[]) rfl rfl rfl (ra_n) (get_map (f:=enc_Event) (xs:=x6.2) he8) rfl rfl rfl)) ?_
     refine dk 2 [48,47] [I (x6.1),.hs 1 0 [] 4 0 ((x6.2).map enc_Event).length] ?_
     obtain ⟨e9,he9,h⟩:=bS h
     refine dq [1] [] (.hp 1 0 [] 4 (0 + Int.toNat (x6.1)) 0) rfl (e_indexAddr rfl rfl rfl (ix_hsM (f:=enc_Event) (xs:=x6.2) rfl rfl rfl he9)) ?_
     refine dq [1] [] (enc_Event e9) rfl (e_ld rfl (ld_at (path:=[]) rfl rfl rfl (ra_n) (get_map (f:=enc_Event) (xs:=x6.2) he9) rfl rfl rfl)) ?_
     obtain ⟨e10,he10,h⟩:=bS h
     refine dq [1] [] (.hp 1 0 [] 4 (0 + Int.toNat (x6.1)) 0) rfl (e_indexAddr rfl rfl rfl (ix_hsM (f:=enc_Event) (xs:=x6.2) rfl rfl rfl he10)) ?_
     refine dz [1] [1] rfl (e_st rfl rfl (st_at (path:=[]) (pl:=true) (e':=enc_Event e8) (es2':=((setI x6.2 x6.1 e8)).map enc_Event) rfl (absorb_plain rfl) rfl rfl rfl (ra_n) (get_map (f:=enc_Event) (xs:=x6.2) he10) rfl rfl rfl (set_map (f:=enc_Event) (xs:=x6.2) (y:=e8)) (sr_n) 0 rfl)) ?_
     try rw [← len_setM (f:=enc_Event) (xs:=x6.2) (i:=x6.1) (z:=e8)]
     obtain ⟨e13,he13,h⟩:=bS h
     refine dq [1] [] (.hp 1 0 [] 4 (0 + Int.toNat ((w64 (x6.1 - 1)))) 0) rfl (e_indexAddr rfl rfl rfl (ix_hsM (f:=enc_Event) (xs:=(setI x6.2 x6.1 e8)) rfl rfl rfl he13)) ?_
     refine dz [1] [1] rfl (e_st rfl rfl (st_at (path:=[]) (pl:=true) (e':=enc_Event e9) (es2':=((setI (setI x6.2 x6.1 e8) (w64 (x6.1 - 1)) e9)).map enc_Event) rfl (absorb_plain rfl) rfl rfl rfl (ra_n) (get_map (f:=enc_Event) (xs:=(setI x6.2 x6.1 e8)) he13) rfl rfl rfl (set_map (f:=enc_Event) (xs:=(setI x6.2 x6.1 e8)) (y:=e9)) (sr_n) 0 rfl)) ?_
     try rw [← len_setM (f:=enc_Event) (xs:=(setI x6.2 x6.1 e8)) (i:=(w64 (x6.1 - 1))) (z:=e9)]
     refine de 290 rfl rfl ?_
     refine cq 6 [9] [I ((w64 (x6.1 - 1)))] 338 ?_
     refine s_lp ?_
     exact rf [0,1,2,3,8,9] [1] (ih _ _ h hr hn :)
   · refine aq 1 ?_
     exact rf [0,1,2,3,8] [1] (hn _ (Option.some.inj h).symm :) (hk:=hK)
 have r7 : ∀ r',y7=.inl r'→∀ st,Ffbg_Q (data_16,a_17,b_18,cmp_19) r' st→Q st:=fun r' e st hq=>hr r' (hy71 r' e) st hq
 replace h:=hy7
 refine sp 21 h rfl (fun h=>?_) (fun h=>?_)
 · refine dk 3 [24,23,22] [I (x6.1),.hs 1 0 [] 4 0 ((x6.2).map enc_Event).length,.fn 52 []] ?_
   obtain ⟨e17,he17,h⟩:=bS h
   refine dy [1] [] (.hp 1 0 [] 4 (0 + Int.toNat (x6.1)) 0) rfl (e_indexAddr rfl rfl rfl (ix_hsM (f:=enc_Event) (xs:=x6.2) rfl rfl rfl he17)) ?_
   refine dy [1] [] (enc_Event e17) rfl (e_ld rfl (ld_at (path:=[]) rfl rfl rfl (ra_n) (get_map (f:=enc_Event) (xs:=x6.2) he17) rfl rfl rfl)) ?_
   refine dk 3 [29,28,27] [I ((w64 (x6.1 - 1))),I (x6.1),.hs 1 0 [] 4 0 ((x6.2).map enc_Event).length] ?_
   obtain ⟨e18,he18,h⟩:=bS h
   refine dy [1] [] (.hp 1 0 [] 4 (0 + Int.toNat ((w64 (x6.1 - 1)))) 0) rfl (e_indexAddr rfl rfl rfl (ix_hsM (f:=enc_Event) (xs:=x6.2) rfl rfl rfl he18)) ?_
   refine dy [1] [] (enc_Event e18) rfl (e_ld rfl (ld_at (path:=[]) rfl rfl rfl (ra_n) (get_map (f:=enc_Event) (xs:=x6.2) he18) rfl rfl rfl)) ?_
   obtain ⟨r19,hr19,h⟩:=bS h
   refine dy [] [] (I (r19)) rfl (e_callV rfl rfl (call_P rfl rfl rfl (avS (shP rfl) (avS (shP rfl) (avN))) (Fff_F hr19) (.inr rfl) (bl_n) rfl rfl rfl)) ?_ (w_callO rfl rfl rfl rfl (avS (shP rfl) (avS (shP rfl) (avN))) (Fff_F hr19) (.inr rfl) rfl)
   refine dk 2 [34,33] [B ((decide (r19 < 0))),B ((decide (r19 < 0)))] ?_
   refine de 274 rfl rfl ?_
   exact rf [0,1,2,3,8,9,34] [1] (j7 _ (Option.some.inj h).symm :)
 · refine dk 13 [34,33,32,31,30,29,28,27,26,25,24,23,22] [B (false),.und,.und,.und,.und,.und,.und,.und,.und,.und,.und,.und,.und] ?_
   refine de 274 rfl rfl ?_
   exact rf [0,1,2,3,8,9,34] [1] (j7 _ (Option.some.inj h).symm :)
theorem Ffbg_la_run (data_16 : List Event) (a_17 : Int) (b_18 : Int) (cmp_19 : Unit)  {Q : St→Prop} {K : List It} (hK : noD K=true) : ∀ (x5 : Int × Int × Int × (List Event)) (y : ((List Event)) ⊕ ((List Event))),Ffbg_la data_16 a_17 b_18 cmp_19 x5=some y→(∀ r',y=.inl r'→∀ st,Ffbg_Q (data_16,a_17,b_18,cmp_19) r' st→Q st)→(∀ u : (List Event),y=.inr u→Run Ffbg_E 1 Q K (sT 53 [] [⟨0,4,(u).map enc_Event⟩] 2))→Run Ffbg_E 1 Q (.code (cL (cL (cR Ffbg_c))) :: .lp (cL (cL (cR Ffbg_c))) :: .blk 0 :: K) (sT 53 [(0,.hs 1 0 [] 4 0 ((x5.2.2.2).map enc_Event).length),(1,I (x5.1)),(2,I (x5.2.1)),(3,.fn 52 []),(8,I (x5.2.2.1))] [⟨0,4,(x5.2.2.2).map enc_Event⟩] 2):=by
 refine fix_indP (Ffbg_la_fin data_16 a_17 b_18 cmp_19) ?_
 intro self ih x5 y h hr hn
 unfold Ffbg_la_F at h
 refine cq 7 [14] [B ((decide (x5.2.2.1 < x5.2.1)))] 50 ?_
 refine sq h (fun h=>?_) (fun h=>?_)
 · refine aq 1 ?_
   refine cq 8 [9] [I (x5.2.2.1)] 82 ?_
   obtain ⟨y20,hy20,hy201,hy202⟩:=bL h
   refine s_loop rfl ?_
   refine rf [0,1,2,3,8,9] [1] (Ffbg_lb_run data_16 a_17 b_18 cmp_19 x5 rfl _ _ hy20 (fun r' e st hq=>hr r' (hy201 r' e) st hq) fun u20 hu=>?_)
   replace h:=hy202 u20 hu
   refine cq 6 [8] [I ((w64 (x5.2.2.1 + 1)))] 50 ?_
   refine s_lp ?_
   exact rf [0,1,2,3,8] [1] (ih _ _ h hr hn :)
 · refine aq 1 ?_
   exact rf [] [1] (hn _ (Option.some.inj h).symm :) (hk:=hK)
theorem Ffbg_run (data_16 : List Event) (a_17 : Int) (b_18 : Int) (cmp_19 : Unit) (r : (List Event)) (h : Ffbg data_16 a_17 b_18 cmp_19=some r) : RunF Ffbg_E Tryd.f115 [true,false,false,false] 1 (Ffbg_A (data_16,a_17,b_18,cmp_19)) (Ffbg_R r):=by
 show Run _ _ (Ffbg_Q (data_16,a_17,b_18,cmp_19) r) [.code Ffbg_c] _
 refine rin (n:=53) [(0,.hs 1 0 [] 4 0 ((data_16).map enc_Event).length),(1,I (a_17)),(2,I (b_18)),(3,.fn 52 [])] [(1,some ⟨0,4,(data_16).map enc_Event⟩)] 2 (by kernel_rfl) (by kernel_rfl) (by kernel_rfl) rfl ?_
 unfold Ffbg at h
 refine cq 7 [8] [I ((w64 (a_17 + 1)))] 50 ?_
 obtain ⟨y21,hy21,hy211,hy212⟩:=bJ h
 refine s_loop rfl ?_
 refine rf [0,1,2,3,8] [1] (Ffbg_la_run data_16 a_17 b_18 cmp_19 rfl _ _ hy21 (fun r' e st hq=>by rw [hy211 r' e] at hq; exact hq) fun u21 hu=>?_)
 replace h:=hy212 u21 hu
 obtain ⟨g22,h⟩:=gG h
 obtain rfl:=Option.some.inj h
 exact s_end ⟨_,fin (vs:=[]) rfl (absEN) rfl (ou_1 rfl (oc_hsG (f:=enc_Event) (xs:=u21) (by simpa using g22) rfl) (ou_f (ou_f (ou_f (ou_n))))),kl_c (kl_n)⟩
theorem Ffbg_good {G : Go.Ln.Ground} : Good Tryd.prog G 115 Ffbg_ent:=good_T (fnOf_good (gl_c Fff_good (gl_n))) agree_mk (Checked.mixed Tryd.checked) Tryd.func115 (n:=4) (m:=1) ⟨rfl,rfl,by decide⟩ (fun _=>⟨rfl,rfl⟩) (fun a r h=>Ffbg_run a.1 a.2.1 a.2.2.1 a.2.2.2 r h)
def Ffbq_A : ((List Event) × Int × Int × Int × Unit)→List V:=cA (usE 4 enc_Event) (cA I (cA I (cA I (oA (fun x : Unit=>(.fn 52 [] : V))))))
def Ffbq_R (r : (List Event)) : V × List V:=(.tup [],[.usl 4 ((r).map enc_Event)])
noncomputable def Ffbq_ent : Ent:=entT [true,false,false,false,false] Ffbq_A Ffbq_R fun x=>Ffbq x.1 x.2.1 x.2.2.1 x.2.2.2.1 x.2.2.2.2
theorem Ffbq_F {data_19 : List Event} {lo_20 : Int} {hi_21 : Int} {first_22 : Int} {cmp_23 : Unit} {r} (h : Ffbq data_19 lo_20 hi_21 first_22 cmp_23=some r) : (Ffbq_ent).F (Ffbq_A (data_19,lo_20,hi_21,first_22,cmp_23))=some (Ffbq_R r):=entT_F (cA_inj (usl_inj enc_Event_inj) (cA_inj I_inj (cA_inj I_inj (cA_inj I_inj (oA_inj (fn_inj0 )))))) h
noncomputable def Ffbq_c : Code:=bodyOf Tryd.f134
noncomputable def Ffbq_E : Env:=mkE Tryd.prog [(52,Fff_ent)]
def Ffbq_Q (x : (List Event) × Int × Int × Int × Unit) (r : (List Event)) : St→Prop:=QF Ffbq_E Tryd.f134 [true,false,false,false,false] (Ffbq_A x) (Ffbq_R r)
theorem Ffbq_la_run (data_19 : List Event) (lo_20 : Int) (hi_21 : Int) (first_22 : Int) (cmp_23 : Unit)  {Q : St→Prop} {K : List It} (hK : noD K=true) : ∀ (x6 : Int × (List Event)) (y : ((List Event)) ⊕ ((List Event))),Ffbq_la data_19 lo_20 hi_21 first_22 cmp_23 x6=some y→(∀ r',y=.inl r'→∀ st,Ffbq_Q (data_19,lo_20,hi_21,first_22,cmp_23) r' st→Q st)→(∀ u : (List Event),y=.inr u→Run Ffbq_E 1 Q K (sT 82 [] [⟨0,4,(u).map enc_Event⟩] 2))→Run Ffbq_E 1 Q (.code (cL (cL (cR Ffbq_c))) :: .lp (cL (cL (cR Ffbq_c))) :: .blk 0 :: K) (sT 82 [(0,.hs 1 0 [] 4 0 ((x6.2).map enc_Event).length),(2,I (hi_21)),(3,I (first_22)),(4,.fn 52 []),(10,I (x6.1))] [⟨0,4,(x6.2).map enc_Event⟩] 2):=by
 refine fix_indP (Ffbq_la_fin data_19 lo_20 hi_21 first_22 cmp_23) ?_
 intro self ih x6 y h hr hn
 unfold Ffbq_la_F at h
 refine cq 15 [11,18] [I ((w64 ((w64 (2 * x6.1)) + 1))),B ((decide ((w64 ((w64 (2 * x6.1)) + 1)) ≥ hi_21)))] 114 ?_
 refine sq h (fun h=>?_) (fun h=>?_)
 · refine aq 1 ?_
   exact rf [] [1] (hn _ (Option.some.inj h).symm :) (hk:=hK)
 · refine aq 1 ?_
   refine aq 2 ?_
   refine s_draw [0,1,0,7,15,31,31,31,31,415,991,2015,31,31,31,24607,57375,127007,258079,524287,1048575,2097151] rfl (by decide +kernel) ?_
   refine dk 5 [23,22,21,20,19] [B ((decide ((w64 ((w64 ((w64 (2 * x6.1)) + 1)) + 1)) < hi_21))),B ((decide ((w64 ((w64 ((w64 (2 * x6.1)) + 1)) + 1)) < hi_21))),I (hi_21),I ((w64 ((w64 ((w64 (2 * x6.1)) + 1)) + 1))),I ((w64 ((w64 (2 * x6.1)) + 1)))] ?_
   obtain ⟨y7,hy7,hy71,hy72⟩:=bL h
   have j7 : ∀ u7,y7=.inr u7→Run Ffbq_E 1 Q (.code (cR (cL (cR (cR (cL (cL (cL (cR Ffbq_c)))))))) :: .code (cR (cR (cR (cL (cL (cL (cR Ffbq_c))))))) :: .blk 1 :: .lp (cL (cL (cR Ffbq_c))) :: .blk 0 :: K) (sT 82 [(0,.hs 1 0 [] 4 0 ((x6.2).map enc_Event).length),(2,I (hi_21)),(3,I (first_22)),(4,.fn 52 []),(10,I (x6.1)),(11,I ((w64 ((w64 (2 * x6.1)) + 1)))),(40,B (u7))] [⟨0,4,(x6.2).map enc_Event⟩] 2):=by
     intro u7 hu
     replace h:=hy72 u7 hu
     obtain ⟨u8,hu8,h⟩:=lJ h
     have j8 : Run Ffbq_E 1 Q (.code (cR (cR (cR (cL (cL (cL (cR Ffbq_c))))))) :: .blk 1 :: .lp (cL (cL (cR Ffbq_c))) :: .blk 0 :: K) (sT 82 [(0,.hs 1 0 [] 4 0 ((x6.2).map enc_Event).length),(2,I (hi_21)),(3,I (first_22)),(4,.fn 52 []),(10,I (x6.1)),(11,I (u8))] [⟨0,4,(x6.2).map enc_Event⟩] 2):=by
       refine aq 2 ?_
       refine s_draw [0,0,0,0,12,30,62,0,0,0,768,1920,3968,8191,16383,32767] rfl (by decide +kernel) ?_
       refine dk 5 [47,46,45,44,43] [I ((w64 (first_22 + x6.1))),I (x6.1),I (first_22),.hs 1 0 [] 4 0 ((x6.2).map enc_Event).length,.fn 52 []] ?_
       obtain ⟨e9,he9,h⟩:=bS h
       refine dq [1] [] (.hp 1 0 [] 4 (0 + Int.toNat ((w64 (first_22 + x6.1)))) 0) rfl (e_indexAddr rfl rfl rfl (ix_hsM (f:=enc_Event) (xs:=x6.2) rfl rfl rfl he9)) ?_
       refine dq [1] [] (enc_Event e9) rfl (e_ld rfl (ld_at (path:=[]) rfl rfl rfl (ra_n) (get_map (f:=enc_Event) (xs:=x6.2) he9) rfl rfl rfl)) ?_
       refine dk 4 [53,52,51,50] [I ((w64 (first_22 + u8))),I (u8),I (first_22),.hs 1 0 [] 4 0 ((x6.2).map enc_Event).length] ?_
       obtain ⟨e10,he10,h⟩:=bS h
       refine dq [1] [] (.hp 1 0 [] 4 (0 + Int.toNat ((w64 (first_22 + u8)))) 0) rfl (e_indexAddr rfl rfl rfl (ix_hsM (f:=enc_Event) (xs:=x6.2) rfl rfl rfl he10)) ?_
       refine dq [1] [] (enc_Event e10) rfl (e_ld rfl (ld_at (path:=[]) rfl rfl rfl (ra_n) (get_map (f:=enc_Event) (xs:=x6.2) he10) rfl rfl rfl)) ?_
       obtain ⟨r11,hr11,h⟩:=bS h
       refine dq [] [] (I (r11)) rfl (e_callV rfl rfl (call_P rfl rfl rfl (avS (shP rfl) (avS (shP rfl) (avN))) (Fff_F hr11) (.inr rfl) (bl_n) rfl rfl rfl)) ?_ (w_callO rfl rfl rfl rfl (avS (shP rfl) (avS (shP rfl) (avN))) (Fff_F hr11) (.inr rfl) rfl)
       refine dk 2 [58,57] [B ((!(decide (r11 < 0)))),B ((decide (r11 < 0)))] ?_
       refine de 258 rfl rfl ?_
       refine sq h (fun h=>?_) (fun h=>?_)
       · obtain ⟨g12,h⟩:=gG h
         exact s_ret rfl (hr _ (Option.some.inj h).symm _ ⟨_,fin (vs:=[]) rfl (absEN) rfl (ou_1 rfl (oc_hsG (f:=enc_Event) (xs:=x6.2) (by simpa using g12) rfl) (ou_f (ou_f (ou_f (ou_f (ou_n)))))),kl_c (kl_n)⟩)
       · refine aq 1 ?_
         refine aq 1 ?_
         refine s_draw [0,0,0,6,0,0,0,96,0,0,0,1536,3840,7936,0,0,0,98304,245760,507904,1048335,2096911,4194303,8388607] rfl (by decide +kernel) ?_
         refine dk 12 [70,69,68,67,66,65,64,63,62,61,60,59] [I ((w64 (first_22 + u8))),I (u8),I (first_22),.hs 1 0 [] 4 0 ((x6.2).map enc_Event).length,I ((w64 (first_22 + u8))),I (u8),I (first_22),.hs 1 0 [] 4 0 ((x6.2).map enc_Event).length,I ((w64 (first_22 + x6.1))),I (x6.1),I (first_22),.hs 1 0 [] 4 0 ((x6.2).map enc_Event).length] ?_
         obtain ⟨e13,he13,h⟩:=bS h
         refine dq [1] [] (.hp 1 0 [] 4 (0 + Int.toNat ((w64 (first_22 + u8)))) 0) rfl (e_indexAddr rfl rfl rfl (ix_hsM (f:=enc_Event) (xs:=x6.2) rfl rfl rfl he13)) ?_
         refine dq [1] [] (enc_Event e13) rfl (e_ld rfl (ld_at (path:=[]) rfl rfl rfl (ra_n) (get_map (f:=enc_Event) (xs:=x6.2) he13) rfl rfl rfl)) ?_
         refine dk 4 [76,75,74,73] [I ((w64 (first_22 + x6.1))),I (x6.1),I (first_22),.hs 1 0 [] 4 0 ((x6.2).map enc_Event).length] ?_
         obtain ⟨e14,he14,h⟩:=bS h
         refine dq [1] [] (.hp 1 0 [] 4 (0 + Int.toNat ((w64 (first_22 + x6.1)))) 0) rfl (e_indexAddr rfl rfl rfl (ix_hsM (f:=enc_Event) (xs:=x6.2) rfl rfl rfl he14)) ?_
         refine dq [1] [] (enc_Event e14) rfl (e_ld rfl (ld_at (path:=[]) rfl rfl rfl (ra_n) (get_map (f:=enc_Event) (xs:=x6.2) he14) rfl rfl rfl)) ?_
         obtain ⟨e15,he15,h⟩:=bS h
         refine dq [1] [] (.hp 1 0 [] 4 (0 + Int.toNat ((w64 (first_22 + x6.1)))) 0) rfl (e_indexAddr rfl rfl rfl (ix_hsM (f:=enc_Event) (xs:=x6.2) rfl rfl rfl he15)) ?_
         refine dz [1] [1] rfl (e_st rfl rfl (st_at (path:=[]) (pl:=true) (e':=enc_Event e13) (es2':=((setI x6.2 (w64 (first_22 + x6.1)) e13)).map enc_Event) rfl (absorb_plain rfl) rfl rfl rfl (ra_n) (get_map (f:=enc_Event) (xs:=x6.2) he15) rfl rfl rfl (set_map (f:=enc_Event) (xs:=x6.2) (y:=e13)) (sr_n) 0 rfl)) ?_
         try rw [← len_setM (f:=enc_Event) (xs:=x6.2) (i:=(w64 (first_22 + x6.1))) (z:=e13)]
         obtain ⟨e20,he20,h⟩:=bS h
         refine dq [1] [] (.hp 1 0 [] 4 (0 + Int.toNat ((w64 (first_22 + u8)))) 0) rfl (e_indexAddr rfl rfl rfl (ix_hsM (f:=enc_Event) (xs:=(setI x6.2 (w64 (first_22 + x6.1)) e13)) rfl rfl rfl he20)) ?_
         refine dz [1] [1] rfl (e_st rfl rfl (st_at (path:=[]) (pl:=true) (e':=enc_Event e14) (es2':=((setI (setI x6.2 (w64 (first_22 + x6.1)) e13) (w64 (first_22 + u8)) e14)).map enc_Event) rfl (absorb_plain rfl) rfl rfl rfl (ra_n) (get_map (f:=enc_Event) (xs:=(setI x6.2 (w64 (first_22 + x6.1)) e13)) he20) rfl rfl rfl (set_map (f:=enc_Event) (xs:=(setI x6.2 (w64 (first_22 + x6.1)) e13)) (y:=e14)) (sr_n) 0 rfl)) ?_
         try rw [← len_setM (f:=enc_Event) (xs:=(setI x6.2 (w64 (first_22 + x6.1)) e13)) (i:=(w64 (first_22 + u8))) (z:=e14)]
         refine de 642 rfl rfl ?_
         refine cq 5 [10] [I (u8)] 674 ?_
         refine s_lp ?_
         exact rf [0,2,3,4,10] [1] (ih _ _ h hr hn :)
     replace h:=hu8
     clear hu8
     refine scp h rfl rfl (fun h=>?_) (fun h=>?_)
     · refine cq 5 [11] [I ((w64 ((w64 ((w64 (2 * x6.1)) + 1)) + 1)))] 50 ?_
       subst h
       exact rf [0,2,3,4,10,11] [1] (j8 :)
     · refine aq 1 ?_
       subst h
       exact rf [0,2,3,4,10,11] [1] (j8 :)
   have r7 : ∀ r',y7=.inl r'→∀ st,Ffbq_Q (data_19,lo_20,hi_21,first_22,cmp_23) r' st→Q st:=fun r' e st hq=>hr r' (hy71 r' e) st hq
   replace h:=hy7
   refine sp 23 h rfl (fun h=>?_) (fun h=>?_)
   · refine dk 5 [28,27,26,25,24] [I ((w64 (first_22 + (w64 ((w64 (2 * x6.1)) + 1))))),I ((w64 ((w64 (2 * x6.1)) + 1))),I (first_22),.hs 1 0 [] 4 0 ((x6.2).map enc_Event).length,.fn 52 []] ?_
     obtain ⟨e26,he26,h⟩:=bS h
     refine dy [1] [] (.hp 1 0 [] 4 (0 + Int.toNat ((w64 (first_22 + (w64 ((w64 (2 * x6.1)) + 1)))))) 0) rfl (e_indexAddr rfl rfl rfl (ix_hsM (f:=enc_Event) (xs:=x6.2) rfl rfl rfl he26)) ?_
     refine dy [1] [] (enc_Event e26) rfl (e_ld rfl (ld_at (path:=[]) rfl rfl rfl (ra_n) (get_map (f:=enc_Event) (xs:=x6.2) he26) rfl rfl rfl)) ?_
     refine dk 5 [35,34,33,32,31] [I ((w64 ((w64 (first_22 + (w64 ((w64 (2 * x6.1)) + 1)))) + 1))),I ((w64 (first_22 + (w64 ((w64 (2 * x6.1)) + 1))))),I ((w64 ((w64 (2 * x6.1)) + 1))),I (first_22),.hs 1 0 [] 4 0 ((x6.2).map enc_Event).length] ?_
     obtain ⟨e27,he27,h⟩:=bS h
     refine dy [1] [] (.hp 1 0 [] 4 (0 + Int.toNat ((w64 ((w64 (first_22 + (w64 ((w64 (2 * x6.1)) + 1)))) + 1)))) 0) rfl (e_indexAddr rfl rfl rfl (ix_hsM (f:=enc_Event) (xs:=x6.2) rfl rfl rfl he27)) ?_
     refine dy [1] [] (enc_Event e27) rfl (e_ld rfl (ld_at (path:=[]) rfl rfl rfl (ra_n) (get_map (f:=enc_Event) (xs:=x6.2) he27) rfl rfl rfl)) ?_
     obtain ⟨r28,hr28,h⟩:=bS h
     refine dy [] [] (I (r28)) rfl (e_callV rfl rfl (call_P rfl rfl rfl (avS (shP rfl) (avS (shP rfl) (avN))) (Fff_F hr28) (.inr rfl) (bl_n) rfl rfl rfl)) ?_ (w_callO rfl rfl rfl rfl (avS (shP rfl) (avS (shP rfl) (avN))) (Fff_F hr28) (.inr rfl) rfl)
     refine dk 2 [40,39] [B ((decide (r28 < 0))),B ((decide (r28 < 0)))] ?_
     refine de 466 rfl rfl ?_
     exact rf [0,2,3,4,10,11,40] [1] (j7 _ (Option.some.inj h).symm :)
   · refine dk 17 [40,39,38,37,36,35,34,33,32,31,30,29,28,27,26,25,24] [B (false),.und,.und,.und,.und,.und,.und,.und,.und,.und,.und,.und,.und,.und,.und,.und,.und] ?_
     refine de 466 rfl rfl ?_
     exact rf [0,2,3,4,10,11,40] [1] (j7 _ (Option.some.inj h).symm :)
theorem Ffbq_run (data_19 : List Event) (lo_20 : Int) (hi_21 : Int) (first_22 : Int) (cmp_23 : Unit) (r : (List Event)) (h : Ffbq data_19 lo_20 hi_21 first_22 cmp_23=some r) : RunF Ffbq_E Tryd.f134 [true,false,false,false,false] 1 (Ffbq_A (data_19,lo_20,hi_21,first_22,cmp_23)) (Ffbq_R r):=by
 show Run _ _ (Ffbq_Q (data_19,lo_20,hi_21,first_22,cmp_23) r) [.code Ffbq_c] _
 refine rin (n:=82) [(0,.hs 1 0 [] 4 0 ((data_19).map enc_Event).length),(1,I (lo_20)),(2,I (hi_21)),(3,I (first_22)),(4,.fn 52 [])] [(1,some ⟨0,4,(data_19).map enc_Event⟩)] 2 (by kernel_rfl) (by kernel_rfl) (by kernel_rfl) rfl ?_
 unfold Ffbq at h
 refine cq 6 [10] [I (lo_20)] 34 ?_
 obtain ⟨y29,hy29,hy291,hy292⟩:=bJ h
 refine s_loop rfl ?_
 refine rf [0,2,3,4,10] [1] (Ffbq_la_run data_19 lo_20 hi_21 first_22 cmp_23 rfl _ _ hy29 (fun r' e st hq=>by rw [hy291 r' e] at hq; exact hq) fun u29 hu=>?_)
 replace h:=hy292 u29 hu
 obtain ⟨g30,h⟩:=gG h
 obtain rfl:=Option.some.inj h
 exact s_end ⟨_,fin (vs:=[]) rfl (absEN) rfl (ou_1 rfl (oc_hsG (f:=enc_Event) (xs:=u29) (by simpa using g30) rfl) (ou_f (ou_f (ou_f (ou_f (ou_n)))))),kl_c (kl_n)⟩
theorem Ffbq_good {G : Go.Ln.Ground} : Good Tryd.prog G 134 Ffbq_ent:=good_T (fnOf_good (gl_c Fff_good (gl_n))) agree_mk (Checked.mixed Tryd.checked) Tryd.func134 (n:=5) (m:=1) ⟨rfl,rfl,by decide⟩ (fun _=>⟨rfl,rfl⟩) (fun a r h=>Ffbq_run a.1 a.2.1 a.2.2.1 a.2.2.2.1 a.2.2.2.2 r h)
def Ffbf_A : ((List Event) × Int × Int × Unit)→List V:=cA (usE 4 enc_Event) (cA I (cA I (oA (fun x : Unit=>(.fn 52 [] : V)))))
def Ffbf_R (r : (List Event)) : V × List V:=(.tup [],[.usl 4 ((r).map enc_Event)])
noncomputable def Ffbf_ent : Ent:=entT [true,false,false,false] Ffbf_A Ffbf_R fun x=>Ffbf x.1 x.2.1 x.2.2.1 x.2.2.2
theorem Ffbf_F {data_12 : List Event} {a_13 : Int} {b_14 : Int} {cmp_15 : Unit} {r} (h : Ffbf data_12 a_13 b_14 cmp_15=some r) : (Ffbf_ent).F (Ffbf_A (data_12,a_13,b_14,cmp_15))=some (Ffbf_R r):=entT_F (cA_inj (usl_inj enc_Event_inj) (cA_inj I_inj (cA_inj I_inj (oA_inj (fn_inj0 ))))) h
noncomputable def Ffbf_c : Code:=bodyOf Tryd.f116
noncomputable def Ffbf_E : Env:=mkE Tryd.prog [(134,Ffbq_ent)]
def Ffbf_Q (x : (List Event) × Int × Int × Unit) (r : (List Event)) : St→Prop:=QF Ffbf_E Tryd.f116 [true,false,false,false] (Ffbf_A x) (Ffbf_R r)
theorem Ffbf_la_run (data_12 : List Event) (a_13 : Int) (b_14 : Int) (cmp_15 : Unit)  {Q : St→Prop} {K : List It} (hK : noD K=true) : ∀ (x5 : Int × (List Event)) (y : ((List Event)) ⊕ (Int × Int × (List Event))),Ffbf_la data_12 a_13 b_14 cmp_15 x5=some y→(∀ r',y=.inl r'→∀ st,Ffbf_Q (data_12,a_13,b_14,cmp_15) r' st→Q st)→(∀ u : Int × Int × (List Event),y=.inr u→Run Ffbf_E 1 Q K (sT 60 [(0,.hs 1 0 [] 4 0 ((u.2.2).map enc_Event).length),(3,.fn 52 []),(8,I (u.1)),(9,I (0)),(10,I (u.2.1))] [⟨0,4,(u.2.2).map enc_Event⟩] 2))→Run Ffbf_E 1 Q (.code (cL (cL (cR (cL (cR (cR (cR Ffbf_c))))))) :: .lp (cL (cL (cR (cL (cR (cR (cR Ffbf_c))))))) :: .blk 0 :: K) (sT 60 [(0,.hs 1 0 [] 4 0 ((x5.2).map enc_Event).length),(3,.fn 52 []),(8,I (a_13)),(9,I (0)),(10,I ((w64 (b_14 - a_13)))),(11,I (x5.1))] [⟨0,4,(x5.2).map enc_Event⟩] 2):=by
 refine fix_indP (Ffbf_la_fin data_12 a_13 b_14 cmp_15) ?_
 intro self ih x5 y h hr hn
 unfold Ffbf_la_F at h
 refine cq 6 [21] [B ((decide (x5.1 ≥ 0)))] 34 ?_
 refine sq h (fun h=>?_) (fun h=>?_)
 · refine aq 1 ?_
   refine cq 8 [24,25,26,27,28] [.hs 1 0 [] 4 0 ((x5.2).map enc_Event).length,I (x5.1),I ((w64 (b_14 - a_13))),I (a_13),.fn 52 []] 114 ?_
   obtain ⟨r6,hr6,h⟩:=bS h
   obtain ⟨g7,h⟩:=gG h
   refine oq 130 (.tup []) rfl (e_callV rfl rfl (call_P rfl rfl rfl (avO (hd1 rfl (hd_hs (path:=[]) rfl rfl (ra_n) rfl)) (avS (shP rfl) (avS (shP rfl) (avS (shP rfl) (avS (shP rfl) (avN)))))) (Ffbq_F hr6) (.inr rfl) (bl_c rfl rfl rfl rfl (bl_n)) rfl rfl rfl)) ?_
   try rw [len_eqM (f:=enc_Event) (xs:=x5.2) (ys:=r6) g7]
   refine cq 7 [11] [I ((w64 (x5.1 - 1)))] 178 ?_
   refine s_lp ?_
   exact rf [0,3,8,9,10,11] [1] (ih _ _ h hr hn :)
 · refine aq 1 ?_
   exact rf [0,3,8,9,10] [1] (hn _ (Option.some.inj h).symm :) (hk:=hK)
theorem Ffbf_lb_run (data_12 : List Event) (a_13 : Int) (b_14 : Int) (cmp_15 : Unit) (u8 : Int × Int × (List Event)) {Q : St→Prop} {K : List It} (hK : noD K=true) : ∀ (x9 : Int × (List Event)) (y : ((List Event)) ⊕ ((List Event))),Ffbf_lb data_12 a_13 b_14 cmp_15 u8 x9=some y→(∀ r',y=.inl r'→∀ st,Ffbf_Q (data_12,a_13,b_14,cmp_15) r' st→Q st)→(∀ u : (List Event),y=.inr u→Run Ffbf_E 1 Q K (sT 60 [] [⟨0,4,(u).map enc_Event⟩] 2))→Run Ffbf_E 1 Q (.code (cL (cL (cR (cR (cR (cR (cR Ffbf_c))))))) :: .lp (cL (cL (cR (cR (cR (cR (cR Ffbf_c))))))) :: .blk 2 :: K) (sT 60 [(0,.hs 1 0 [] 4 0 ((x9.2).map enc_Event).length),(3,.fn 52 []),(8,I (u8.1)),(9,I (0)),(12,I (x9.1))] [⟨0,4,(x9.2).map enc_Event⟩] 2):=by
 refine fix_indP (Ffbf_lb_fin data_12 a_13 b_14 cmp_15 u8) ?_
 intro self ih x9 y h hr hn
 unfold Ffbf_lb_F at h
 refine cq 6 [33] [B ((decide (x9.1 ≥ 0)))] 34 ?_
 refine sq h (fun h=>?_) (fun h=>?_)
 · refine aq 1 ?_
   refine aq 3 ?_
   refine s_draw [0,0,0,0,0,24,0,0,0,384,960,1984,0,0,12288,28672,65475,131011,262143,524287] rfl (by decide +kernel) ?_
   refine dk 10 [45,44,43,42,41,40,39,38,37,36] [I ((w64 (u8.1 + x9.1))),I (x9.1),I (u8.1),.hs 1 0 [] 4 0 ((x9.2).map enc_Event).length,I ((w64 (u8.1 + x9.1))),I (x9.1),I (u8.1),.hs 1 0 [] 4 0 ((x9.2).map enc_Event).length,I (u8.1),.hs 1 0 [] 4 0 ((x9.2).map enc_Event).length] ?_
   obtain ⟨e10,he10,h⟩:=bS h
   refine dq [1] [] (.hp 1 0 [] 4 (0 + Int.toNat ((w64 (u8.1 + x9.1)))) 0) rfl (e_indexAddr rfl rfl rfl (ix_hsM (f:=enc_Event) (xs:=x9.2) rfl rfl rfl he10)) ?_
   refine dq [1] [] (enc_Event e10) rfl (e_ld rfl (ld_at (path:=[]) rfl rfl rfl (ra_n) (get_map (f:=enc_Event) (xs:=x9.2) he10) rfl rfl rfl)) ?_
   refine dk 2 [49,48] [I (u8.1),.hs 1 0 [] 4 0 ((x9.2).map enc_Event).length] ?_
   obtain ⟨e11,he11,h⟩:=bS h
   refine dq [1] [] (.hp 1 0 [] 4 (0 + Int.toNat (u8.1)) 0) rfl (e_indexAddr rfl rfl rfl (ix_hsM (f:=enc_Event) (xs:=x9.2) rfl rfl rfl he11)) ?_
   refine dq [1] [] (enc_Event e11) rfl (e_ld rfl (ld_at (path:=[]) rfl rfl rfl (ra_n) (get_map (f:=enc_Event) (xs:=x9.2) he11) rfl rfl rfl)) ?_
   obtain ⟨e12,he12,h⟩:=bS h
   refine dq [1] [] (.hp 1 0 [] 4 (0 + Int.toNat (u8.1)) 0) rfl (e_indexAddr rfl rfl rfl (ix_hsM (f:=enc_Event) (xs:=x9.2) rfl rfl rfl he12)) ?_
   refine dz [1] [1] rfl (e_st rfl rfl (st_at (path:=[]) (pl:=true) (e':=enc_Event e10) (es2':=((setI x9.2 u8.1 e10)).map enc_Event) rfl (absorb_plain rfl) rfl rfl rfl (ra_n) (get_map (f:=enc_Event) (xs:=x9.2) he12) rfl rfl rfl (set_map (f:=enc_Event) (xs:=x9.2) (y:=e10)) (sr_n) 0 rfl)) ?_
   try rw [← len_setM (f:=enc_Event) (xs:=x9.2) (i:=u8.1) (z:=e10)]
   obtain ⟨e15,he15,h⟩:=bS h
   refine dq [1] [] (.hp 1 0 [] 4 (0 + Int.toNat ((w64 (u8.1 + x9.1)))) 0) rfl (e_indexAddr rfl rfl rfl (ix_hsM (f:=enc_Event) (xs:=(setI x9.2 u8.1 e10)) rfl rfl rfl he15)) ?_
   refine dz [1] [1] rfl (e_st rfl rfl (st_at (path:=[]) (pl:=true) (e':=enc_Event e11) (es2':=((setI (setI x9.2 u8.1 e10) (w64 (u8.1 + x9.1)) e11)).map enc_Event) rfl (absorb_plain rfl) rfl rfl rfl (ra_n) (get_map (f:=enc_Event) (xs:=(setI x9.2 u8.1 e10)) he15) rfl rfl rfl (set_map (f:=enc_Event) (xs:=(setI x9.2 u8.1 e10)) (y:=e11)) (sr_n) 0 rfl)) ?_
   try rw [← len_setM (f:=enc_Event) (xs:=(setI x9.2 u8.1 e10)) (i:=(w64 (u8.1 + x9.1))) (z:=e11)]
   refine de 354 rfl rfl ?_
   refine cq 6 [54,55,56,57,58] [.hs 1 0 [] 4 0 (((setI (setI x9.2 u8.1 e10) (w64 (u8.1 + x9.1)) e11)).map enc_Event).length,I (0),I (x9.1),I (u8.1),.fn 52 []] 434 ?_
   obtain ⟨r19,hr19,h⟩:=bS h
   obtain ⟨g20,h⟩:=gG h
   refine oq 450 (.tup []) rfl (e_callV rfl rfl (call_P rfl rfl rfl (avO (hd1 rfl (hd_hs (path:=[]) rfl rfl (ra_n) rfl)) (avS (shP rfl) (avS (shP rfl) (avS (shP rfl) (avS (shP rfl) (avN)))))) (Ffbq_F hr19) (.inr rfl) (bl_c rfl rfl rfl rfl (bl_n)) rfl rfl rfl)) ?_
   try rw [len_eqM (f:=enc_Event) (xs:=(setI (setI x9.2 u8.1 e10) (w64 (u8.1 + x9.1)) e11)) (ys:=r19) g20]
   refine cq 7 [12] [I ((w64 (x9.1 - 1)))] 498 ?_
   refine s_lp ?_
   exact rf [0,3,8,9,12] [1] (ih _ _ h hr hn :)
 · refine aq 1 ?_
   exact rf [] [1] (hn _ (Option.some.inj h).symm :) (hk:=hK)
theorem Ffbf_run (data_12 : List Event) (a_13 : Int) (b_14 : Int) (cmp_15 : Unit) (r : (List Event)) (h : Ffbf data_12 a_13 b_14 cmp_15=some r) : RunF Ffbf_E Tryd.f116 [true,false,false,false] 1 (Ffbf_A (data_12,a_13,b_14,cmp_15)) (Ffbf_R r):=by
 show Run _ _ (Ffbf_Q (data_12,a_13,b_14,cmp_15) r) [.code Ffbf_c] _
 refine rin (n:=60) [(0,.hs 1 0 [] 4 0 ((data_12).map enc_Event).length),(1,I (a_13)),(2,I (b_14)),(3,.fn 52 [])] [(1,some ⟨0,4,(data_12).map enc_Event⟩)] 2 (by kernel_rfl) (by kernel_rfl) (by kernel_rfl) rfl ?_
 unfold Ffbf at h
 refine cq 25 [8,9,10,11] [I (a_13),I (0),I ((w64 (b_14 - a_13))),I ((w64 ((w64 ((w64 (b_14 - a_13)) - 1)).tdiv 2)))] 178 ?_
 obtain ⟨y8,hy8,hy81,hy82⟩:=bJ h
 refine s_loop rfl ?_
 refine rf [0,3,8,9,10,11] [1] (Ffbf_la_run data_12 a_13 b_14 cmp_15 rfl _ _ hy8 (fun r' e st hq=>by rw [hy81 r' e] at hq; exact hq) fun u8 hu=>?_)
 replace h:=hy82 u8 hu
 refine cq 7 [12] [I ((w64 (u8.2.1 - 1)))] 50 ?_
 obtain ⟨y21,hy21,hy211,hy212⟩:=bJ h
 refine s_loop rfl ?_
 refine rf [0,3,8,9,12] [1] (Ffbf_lb_run data_12 a_13 b_14 cmp_15 u8 rfl _ _ hy21 (fun r' e st hq=>by rw [hy211 r' e] at hq; exact hq) fun u21 hu=>?_)
 replace h:=hy212 u21 hu
 obtain ⟨g22,h⟩:=gG h
 obtain rfl:=Option.some.inj h
 exact s_end ⟨_,fin (vs:=[]) rfl (absEN) rfl (ou_1 rfl (oc_hsG (f:=enc_Event) (xs:=u21) (by simpa using g22) rfl) (ou_f (ou_f (ou_f (ou_n))))),kl_c (kl_n)⟩
theorem Ffbf_good {G : Go.Ln.Ground} : Good Tryd.prog G 116 Ffbf_ent:=good_T (fnOf_good (gl_c Ffbq_good (gl_n))) agree_mk (Checked.mixed Tryd.checked) Tryd.func116 (n:=4) (m:=1) ⟨rfl,rfl,by decide⟩ (fun _=>⟨rfl,rfl⟩) (fun a r h=>Ffbf_run a.1 a.2.1 a.2.2.1 a.2.2.2 r h)
def Ffbj_A : Int→List V:=oA I
def Ffbj_R (r : Int) : V × List V:=(.int .u64 (r),[])
noncomputable def Ffbj_ent : Ent:=entT [false] Ffbj_A Ffbj_R fun x=>Ffbj x
theorem Ffbj_F {length_1 : Int} {r} (h : Ffbj length_1=some r) : (Ffbj_ent).F (Ffbj_A length_1)=some (Ffbj_R r):=entT_F (oA_inj I_inj) h
noncomputable def Ffbj_c : Code:=bodyOf Tryd.f135
noncomputable def Ffbj_E : Env:=mkE Tryd.prog [(95,Ffu_ent)]
def Ffbj_Q (x : Int) (r : Int) : St→Prop:=QF Ffbj_E Tryd.f135 [false] (Ffbj_A x) (Ffbj_R r)
theorem Ffbj_run (length_1 : Int) (r : Int) (h : Ffbj length_1=some r) : RunF Ffbj_E Tryd.f135 [false] 0 (Ffbj_A length_1) (Ffbj_R r):=by
 show Run _ _ (Ffbj_Q length_1 r) [.code Ffbj_c] _
 refine rin (n:=7) [(0,I (length_1))] [] 1 (by kernel_rfl) (by kernel_rfl) (by kernel_rfl) rfl ?_
 unfold Ffbj at h
 refine cq 8 [4] [.int .u64 ((IntKind.u64.wrap length_1))] 49 ?_
 obtain ⟨r2,hr2,h⟩:=bS h
 refine oq 65 (I (r2)) rfl (e_callV rfl rfl (call_P rfl rfl rfl (avS (shP rfl) (avN)) (Ffu_F hr2) (.inr rfl) (bl_n) rfl rfl rfl)) ?_
 obtain ⟨q3,hq3,h⟩:=bS h
 refine oq 81 (.int .u64 (q3)) rfl (e_bin rfl rfl (b_shl hq3)) ?_
 refine cq 2 [2] [.int .u64 (q3)] 97 ?_
 obtain rfl:=Option.some.inj h
 exact s_ret rfl ⟨_,fin (vs:=[.int .u64 (q3)]) rfl (absE (absorb_plain rfl) (absEN)) rfl (ou_f (ou_n)),kl_n⟩
theorem Ffbj_good {G : Go.Ln.Ground} : Good Tryd.prog G 135 Ffbj_ent:=good_T (fnOf_good (gl_c Ffu_good (gl_n))) agree_mk (Checked.mixed Tryd.checked) Tryd.func135 (n:=1) (m:=0) ⟨rfl,rfl,by decide⟩ (fun _=>⟨rfl,rfl⟩) (fun a r h=>Ffbj_run a r h)
def Ffbr_A : Int→List V:=oA (upE (V.int .u64))
def Ffbr_R (r : Int × Int) : V × List V:=(.int .u64 (r.1),[.uptr (.int .u64 (r.2))])
noncomputable def Ffbr_ent : Ent:=entT [true] Ffbr_A Ffbr_R fun x=>Ffbr x
theorem Ffbr_F {r_2 : Int} {r} (h : Ffbr r_2=some r) : (Ffbr_ent).F (Ffbr_A r_2)=some (Ffbr_R r):=entT_F (oA_inj (uptr_inj (vint_inj (k:=.u64)))) h
noncomputable def Ffbr_c : Code:=bodyOf Tryd.f136
noncomputable def Ffbr_E : Env:=mkE Tryd.prog []
def Ffbr_Q (x : Int) (r : Int × Int) : St→Prop:=QF Ffbr_E Tryd.f136 [true] (Ffbr_A x) (Ffbr_R r)
theorem Ffbr_run (r_2 : Int) (r : Int × Int) (h : Ffbr r_2=some r) : RunF Ffbr_E Tryd.f136 [true] 1 (Ffbr_A r_2) (Ffbr_R r):=by
 show Run _ _ (Ffbr_Q r_2 r) [.code Ffbr_c] _
 refine rin (n:=33) [(0,.hp 1 0 [] 1 0 0)] [(1,some ⟨0,1,[.int .u64 (r_2)]⟩)] 2 (by kernel_rfl) (by kernel_rfl) (by kernel_rfl) rfl ?_
 unfold Ffbr at h
 refine cq 5 [] [] 18 ?_
 refine s_draw [0,1,3,0,8,24,56,127,255,511] rfl (by decide +kernel) ?_
 refine dk 1 [3] [.hp 1 0 [] 1 0 0] ?_
 refine dq [1] [] (.hp 1 0 [] 1 0 0) rfl (e_nilCheck rfl rfl) ?_
 refine dq [1] [] (.int .u64 (r_2)) rfl (e_ld rfl rfl) ?_
 refine dk 1 [6] [.hp 1 0 [] 1 0 0] ?_
 refine dq [1] [] (.hp 1 0 [] 1 0 0) rfl (e_nilCheck rfl rfl) ?_
 refine dq [1] [] (.int .u64 (r_2)) rfl (e_ld rfl rfl) ?_
 refine dk 2 [10,9] [.int .u64 ((xorI .u64 r_2 (shlI .u64 r_2 13))),.int .u64 ((shlI .u64 r_2 13))] ?_
 refine dq [1] [] (.hp 1 0 [] 1 0 0) rfl (e_nilCheck rfl rfl) ?_
 refine dz [1] [1] rfl (e_st rfl rfl (st_at (path:=[]) (pl:=true) (e':=.int .u64 ((xorI .u64 r_2 (shlI .u64 r_2 13)))) (es2':=[.int .u64 ((xorI .u64 r_2 (shlI .u64 r_2 13)))]) rfl (absorb_plain rfl) rfl rfl rfl (ra_n) rfl rfl rfl rfl rfl (sr_n) 0 rfl)) ?_
 refine de 178 rfl rfl ?_
 refine aq 1 ?_
 refine s_draw [0,1,3,0,8,24,56,127,255,511] rfl (by decide +kernel) ?_
 refine dk 1 [12] [.hp 1 0 [] 1 0 0] ?_
 refine dq [1] [] (.hp 1 0 [] 1 0 0) rfl (e_nilCheck rfl rfl) ?_
 refine dq [1] [] (.int .u64 ((xorI .u64 r_2 (shlI .u64 r_2 13)))) rfl (e_ld rfl rfl) ?_
 refine dk 1 [15] [.hp 1 0 [] 1 0 0] ?_
 refine dq [1] [] (.hp 1 0 [] 1 0 0) rfl (e_nilCheck rfl rfl) ?_
 refine dq [1] [] (.int .u64 ((xorI .u64 r_2 (shlI .u64 r_2 13)))) rfl (e_ld rfl rfl) ?_
 refine dk 2 [19,18] [.int .u64 ((xorI .u64 (xorI .u64 r_2 (shlI .u64 r_2 13)) (shrI .u64 (xorI .u64 r_2 (shlI .u64 r_2 13)) 7))),.int .u64 ((shrI .u64 (xorI .u64 r_2 (shlI .u64 r_2 13)) 7))] ?_
 refine dq [1] [] (.hp 1 0 [] 1 0 0) rfl (e_nilCheck rfl rfl) ?_
 refine dz [1] [1] rfl (e_st rfl rfl (st_at (path:=[]) (pl:=true) (e':=.int .u64 ((xorI .u64 (xorI .u64 r_2 (shlI .u64 r_2 13)) (shrI .u64 (xorI .u64 r_2 (shlI .u64 r_2 13)) 7)))) (es2':=[.int .u64 ((xorI .u64 (xorI .u64 r_2 (shlI .u64 r_2 13)) (shrI .u64 (xorI .u64 r_2 (shlI .u64 r_2 13)) 7)))]) rfl (absorb_plain rfl) rfl rfl rfl (ra_n) rfl rfl rfl rfl rfl (sr_n) 0 rfl)) ?_
 refine de 338 rfl rfl ?_
 refine aq 1 ?_
 refine s_draw [0,1,3,0,8,24,56,127,255,511] rfl (by decide +kernel) ?_
 refine dk 1 [21] [.hp 1 0 [] 1 0 0] ?_
 refine dq [1] [] (.hp 1 0 [] 1 0 0) rfl (e_nilCheck rfl rfl) ?_
 refine dq [1] [] (.int .u64 ((xorI .u64 (xorI .u64 r_2 (shlI .u64 r_2 13)) (shrI .u64 (xorI .u64 r_2 (shlI .u64 r_2 13)) 7)))) rfl (e_ld rfl rfl) ?_
 refine dk 1 [24] [.hp 1 0 [] 1 0 0] ?_
 refine dq [1] [] (.hp 1 0 [] 1 0 0) rfl (e_nilCheck rfl rfl) ?_
 refine dq [1] [] (.int .u64 ((xorI .u64 (xorI .u64 r_2 (shlI .u64 r_2 13)) (shrI .u64 (xorI .u64 r_2 (shlI .u64 r_2 13)) 7)))) rfl (e_ld rfl rfl) ?_
 refine dk 2 [28,27] [.int .u64 ((xorI .u64 (xorI .u64 (xorI .u64 r_2 (shlI .u64 r_2 13)) (shrI .u64 (xorI .u64 r_2 (shlI .u64 r_2 13)) 7)) (shlI .u64 (xorI .u64 (xorI .u64 r_2 (shlI .u64 r_2 13)) (shrI .u64 (xorI .u64 r_2 (shlI .u64 r_2 13)) 7)) 17))),.int .u64 ((shlI .u64 (xorI .u64 (xorI .u64 r_2 (shlI .u64 r_2 13)) (shrI .u64 (xorI .u64 r_2 (shlI .u64 r_2 13)) 7)) 17))] ?_
 refine dq [1] [] (.hp 1 0 [] 1 0 0) rfl (e_nilCheck rfl rfl) ?_
 refine dz [1] [1] rfl (e_st rfl rfl (st_at (path:=[]) (pl:=true) (e':=.int .u64 ((xorI .u64 (xorI .u64 (xorI .u64 r_2 (shlI .u64 r_2 13)) (shrI .u64 (xorI .u64 r_2 (shlI .u64 r_2 13)) 7)) (shlI .u64 (xorI .u64 (xorI .u64 r_2 (shlI .u64 r_2 13)) (shrI .u64 (xorI .u64 r_2 (shlI .u64 r_2 13)) 7)) 17)))) (es2':=[.int .u64 ((xorI .u64 (xorI .u64 (xorI .u64 r_2 (shlI .u64 r_2 13)) (shrI .u64 (xorI .u64 r_2 (shlI .u64 r_2 13)) 7)) (shlI .u64 (xorI .u64 (xorI .u64 r_2 (shlI .u64 r_2 13)) (shrI .u64 (xorI .u64 r_2 (shlI .u64 r_2 13)) 7)) 17)))]) rfl (absorb_plain rfl) rfl rfl rfl (ra_n) rfl rfl rfl rfl rfl (sr_n) 0 rfl)) ?_
 refine de 498 rfl rfl ?_
 refine cq 7 [2] [.int .u64 ((xorI .u64 (xorI .u64 (xorI .u64 r_2 (shlI .u64 r_2 13)) (shrI .u64 (xorI .u64 r_2 (shlI .u64 r_2 13)) 7)) (shlI .u64 (xorI .u64 (xorI .u64 r_2 (shlI .u64 r_2 13)) (shrI .u64 (xorI .u64 r_2 (shlI .u64 r_2 13)) 7)) 17)))] 562 ?_
 obtain rfl:=Option.some.inj h
 exact s_ret rfl ⟨_,fin (vs:=[.int .u64 ((xorI .u64 (xorI .u64 (xorI .u64 r_2 (shlI .u64 r_2 13)) (shrI .u64 (xorI .u64 r_2 (shlI .u64 r_2 13)) 7)) (shlI .u64 (xorI .u64 (xorI .u64 r_2 (shlI .u64 r_2 13)) (shrI .u64 (xorI .u64 r_2 (shlI .u64 r_2 13)) 7)) 17)))]) rfl (absE (absorb_plain rfl) (absEN)) rfl (ou_1 rfl (oc_hp rfl rfl) (ou_n)),kl_c (kl_n)⟩
theorem Ffbr_good {G : Go.Ln.Ground} : Good Tryd.prog G 136 Ffbr_ent:=good_T (fnOf_good (gl_n)) agree_mk (Checked.mixed Tryd.checked) Tryd.func136 (n:=1) (m:=1) ⟨rfl,rfl,by decide⟩ (fun _=>⟨rfl,rfl⟩) (fun a r h=>Ffbr_run a r h)
def Ffbd_A : ((List Event) × Int × Int × Unit)→List V:=cA (usE 4 enc_Event) (cA I (cA I (oA (fun x : Unit=>(.fn 52 [] : V)))))
def Ffbd_R (r : (List Event)) : V × List V:=(.tup [],[.usl 4 ((r).map enc_Event)])
noncomputable def Ffbd_ent : Ent:=entT [true,false,false,false] Ffbd_A Ffbd_R fun x=>Ffbd x.1 x.2.1 x.2.2.1 x.2.2.2
theorem Ffbd_F {data_14 : List Event} {a_15 : Int} {b_16 : Int} {cmp_17 : Unit} {r} (h : Ffbd data_14 a_15 b_16 cmp_17=some r) : (Ffbd_ent).F (Ffbd_A (data_14,a_15,b_16,cmp_17))=some (Ffbd_R r):=entT_F (cA_inj (usl_inj enc_Event_inj) (cA_inj I_inj (cA_inj I_inj (oA_inj (fn_inj0 ))))) h
noncomputable def Ffbd_c : Code:=bodyOf Tryd.f117
noncomputable abbrev Ffbd_ka : Code:=cL (cL (cR (cR (cR (cL (cR (cR Ffbd_c)))))))
noncomputable def Ffbd_E : Env:=mkE Tryd.prog [(135,Ffbj_ent),(136,Ffbr_ent)]
def Ffbd_Q (x : (List Event) × Int × Int × Unit) (r : (List Event)) : St→Prop:=QF Ffbd_E Tryd.f117 [true,false,false,false] (Ffbd_A x) (Ffbd_R r)
theorem Ffbd_la_run (data_14 : List Event) (a_15 : Int) (b_16 : Int) (cmp_17 : Unit) (r7 : Int) {Q : St→Prop} {K : List It} (hK : noD K=true) : ∀ (x8 : Int × (List Event) × Int) (y : ((List Event)) ⊕ ((List Event))),Ffbd_la data_14 a_15 b_16 cmp_17 r7 x8=some y→(∀ r',y=.inl r'→∀ st,Ffbd_Q (data_14,a_15,b_16,cmp_17) r' st→Q st)→(∀ u : (List Event),y=.inr u→Run Ffbd_E 1 Q K (sT 67 [] [⟨0,4,(u).map enc_Event⟩] 2))→Run Ffbd_E 1 Q (.code Ffbd_ka :: .lp Ffbd_ka :: .blk 0 :: K) (sT 67 [(0,.hs 1 0 [] 4 0 ((x8.2.1).map enc_Event).length),(1,I (a_15)),(8,I ((w64 (b_16 - a_15)))),(9,.hp 2 0 [] 1 0 0),(10,.int .u64 (r7)),(11,I (x8.1))] [⟨0,4,(x8.2.1).map enc_Event⟩,⟨0,1,[.int .u64 (x8.2.2)]⟩] 3):=by
 refine fix_indP (Ffbd_la_fin data_14 a_15 b_16 cmp_17 r7) ?_
 intro self ih x8 y h hr hn
 unfold Ffbd_la_F at h
 refine cq 12 [35] [B ((decide (x8.1 ≤ (w64 ((w64 (a_15 + (w64 ((w64 ((w64 (b_16 - a_15)).tdiv 4)) * 2)))) + 1)))))] 131 ?_
 refine sq h (fun h=>?_) (fun h=>?_)
 · refine aq 1 ?_
   refine aq 4 ?_
   obtain ⟨r9,hr9,h⟩:=bS h
   refine oq 147 (.int .u64 (r9.1)) rfl (e_callV rfl rfl (call_P rfl rfl rfl (avO (hd1 rfl (hd_hp (path:=[]) rfl rfl (ra_n) rfl)) (avN)) (Ffbr_F hr9) (.inr rfl) (bl_c rfl rfl rfl rfl (bl_n)) rfl rfl rfl)) ?_
   refine cq 13 [12,45] [I ((IntKind.i64.wrap (andI .u64 r9.1 (IntKind.u64.wrap (r7 - 1))))),B ((decide ((IntKind.i64.wrap (andI .u64 r9.1 (IntKind.u64.wrap (r7 - 1)))) ≥ (w64 (b_16 - a_15)))))] 275 ?_
   obtain ⟨u10,hu10,h⟩:=lJ h
   have j10 : Run Ffbd_E 1 Q (.code (cR (cR (cL (cL (cR Ffbd_ka))))) :: .blk 1 :: .code (cR (cR Ffbd_ka)) :: .lp Ffbd_ka :: .blk 0 :: K) (sT 67 [(0,.hs 1 0 [] 4 0 ((x8.2.1).map enc_Event).length),(1,I (a_15)),(8,I ((w64 (b_16 - a_15)))),(9,.hp 2 0 [] 1 0 0),(10,.int .u64 (r7)),(11,I (x8.1)),(12,I (u10))] [⟨0,4,(x8.2.1).map enc_Event⟩,⟨0,1,[.int .u64 (r9.2)]⟩] 3):=by
     refine s_draw [0,0,0,0,0,24,0,0,0,384,960,1984,0,0,12288,28672,65475,131011,262143,524287] rfl (by decide +kernel) ?_
     refine dk 10 [58,57,56,55,54,53,52,51,50,49] [I ((w64 (a_15 + u10))),I (u10),I (a_15),.hs 1 0 [] 4 0 ((x8.2.1).map enc_Event).length,I ((w64 (a_15 + u10))),I (u10),I (a_15),.hs 1 0 [] 4 0 ((x8.2.1).map enc_Event).length,I (x8.1),.hs 1 0 [] 4 0 ((x8.2.1).map enc_Event).length] ?_
     obtain ⟨e11,he11,h⟩:=bS h
     refine dq [1] [] (.hp 1 0 [] 4 (0 + Int.toNat ((w64 (a_15 + u10)))) 0) rfl (e_indexAddr rfl rfl rfl (ix_hsM (f:=enc_Event) (xs:=x8.2.1) rfl rfl rfl he11)) ?_
     refine dq [1] [] (enc_Event e11) rfl (e_ld rfl (ld_at (path:=[]) rfl rfl rfl (ra_n) (get_map (f:=enc_Event) (xs:=x8.2.1) he11) rfl rfl rfl)) ?_
     refine dk 2 [62,61] [I (x8.1),.hs 1 0 [] 4 0 ((x8.2.1).map enc_Event).length] ?_
     obtain ⟨e12,he12,h⟩:=bS h
     refine dq [1] [] (.hp 1 0 [] 4 (0 + Int.toNat (x8.1)) 0) rfl (e_indexAddr rfl rfl rfl (ix_hsM (f:=enc_Event) (xs:=x8.2.1) rfl rfl rfl he12)) ?_
     refine dq [1] [] (enc_Event e12) rfl (e_ld rfl (ld_at (path:=[]) rfl rfl rfl (ra_n) (get_map (f:=enc_Event) (xs:=x8.2.1) he12) rfl rfl rfl)) ?_
     obtain ⟨e13,he13,h⟩:=bS h
     refine dq [1] [] (.hp 1 0 [] 4 (0 + Int.toNat (x8.1)) 0) rfl (e_indexAddr rfl rfl rfl (ix_hsM (f:=enc_Event) (xs:=x8.2.1) rfl rfl rfl he13)) ?_
     refine dz [1] [1] rfl (e_st rfl rfl (st_at (path:=[]) (pl:=true) (e':=enc_Event e11) (es2':=((setI x8.2.1 x8.1 e11)).map enc_Event) rfl (absorb_plain rfl) rfl rfl rfl (ra_n) (get_map (f:=enc_Event) (xs:=x8.2.1) he13) rfl rfl rfl (set_map (f:=enc_Event) (xs:=x8.2.1) (y:=e11)) (sr_n) 0 rfl)) ?_
     try rw [← len_setM (f:=enc_Event) (xs:=x8.2.1) (i:=x8.1) (z:=e11)]
     obtain ⟨e16,he16,h⟩:=bS h
     refine dq [1] [] (.hp 1 0 [] 4 (0 + Int.toNat ((w64 (a_15 + u10)))) 0) rfl (e_indexAddr rfl rfl rfl (ix_hsM (f:=enc_Event) (xs:=(setI x8.2.1 x8.1 e11)) rfl rfl rfl he16)) ?_
     refine dz [1] [1] rfl (e_st rfl rfl (st_at (path:=[]) (pl:=true) (e':=enc_Event e12) (es2':=((setI (setI x8.2.1 x8.1 e11) (w64 (a_15 + u10)) e12)).map enc_Event) rfl (absorb_plain rfl) rfl rfl rfl (ra_n) (get_map (f:=enc_Event) (xs:=(setI x8.2.1 x8.1 e11)) he16) rfl rfl rfl (set_map (f:=enc_Event) (xs:=(setI x8.2.1 x8.1 e11)) (y:=e12)) (sr_n) 0 rfl)) ?_
     try rw [← len_setM (f:=enc_Event) (xs:=(setI x8.2.1 x8.1 e11)) (i:=(w64 (a_15 + u10))) (z:=e12)]
     refine de 323 rfl rfl ?_
     refine cq 6 [11] [I ((w64 (x8.1 + 1)))] 371 ?_
     refine s_lp ?_
     exact rf [0,1,8,9,10,11] [1,2] (ih _ _ h hr hn :)
   replace h:=hu10
   clear hu10
   refine scp h rfl rfl (fun h=>?_) (fun h=>?_)
   · refine cq 6 [12] [I ((w64 ((IntKind.i64.wrap (andI .u64 r9.1 (IntKind.u64.wrap (r7 - 1)))) - (w64 (b_16 - a_15)))))] 339 ?_
     subst h
     exact rf [0,1,8,9,10,11,12] [1,2] (j10 :)
   · refine aq 1 ?_
     subst h
     exact rf [0,1,8,9,10,11,12] [1,2] (j10 :)
 · refine aq 1 ?_
   exact rf [] [1] (hn _ (Option.some.inj h).symm :) (hk:=hK)
theorem Ffbd_run (data_14 : List Event) (a_15 : Int) (b_16 : Int) (cmp_17 : Unit) (r : (List Event)) (h : Ffbd data_14 a_15 b_16 cmp_17=some r) : RunF Ffbd_E Tryd.f117 [true,false,false,false] 1 (Ffbd_A (data_14,a_15,b_16,cmp_17)) (Ffbd_R r):=by
 show Run _ _ (Ffbd_Q (data_14,a_15,b_16,cmp_17) r) [.code Ffbd_c] _
 refine rin (n:=67) [(0,.hs 1 0 [] 4 0 ((data_14).map enc_Event).length),(1,I (a_15)),(2,I (b_16)),(3,.fn 52 [])] [(1,some ⟨0,4,(data_14).map enc_Event⟩)] 2 (by kernel_rfl) (by kernel_rfl) (by kernel_rfl) rfl ?_
 unfold Ffbd at h
 refine cq 12 [8,17] [I ((w64 (b_16 - a_15))),B ((decide ((w64 (b_16 - a_15)) ≥ 8)))] 98 ?_
 obtain ⟨y5,hy5,hy51,hy52⟩:=bJ h
 have j5 : ∀ u5,y5=.inr u5→Run Ffbd_E 1 (Ffbd_Q (data_14,a_15,b_16,cmp_17) r) ([]) (sT 67 [] [⟨0,4,(u5).map enc_Event⟩] 2):=by
   intro u5 hu
   replace h:=hy52 u5 hu
   obtain ⟨g6,h⟩:=gG h
   obtain rfl:=Option.some.inj h
   exact s_end ⟨_,fin (vs:=[]) rfl (absEN) rfl (ou_1 rfl (oc_hsG (f:=enc_Event) (xs:=u5) (by simpa using g6) rfl) (ou_f (ou_f (ou_f (ou_n))))),kl_c (kl_n)⟩
 have r5 : ∀ r',y5=.inl r'→∀ st,Ffbd_Q (data_14,a_15,b_16,cmp_17) r' st→(Ffbd_Q (data_14,a_15,b_16,cmp_17) r) st:=fun r' e st hq=>by rw [hy51 r' e] at hq; exact hq
 replace h:=hy5
 refine sq h (fun h=>?_) (fun h=>?_)
 · refine ck 10 [9,20] [] [130] [] [.hp 130 0 [] 1 0 0,I ((w64 (b_16 - a_15)))] [some ⟨0,1,[.int .u64 ((IntKind.u64.wrap (w64 (b_16 - a_15))))]⟩] 178 (by kernel_rfl) ?_
   obtain ⟨r7,hr7,h⟩:=bS h
   refine oq 194 (.int .u64 (r7)) rfl (e_callV rfl rfl (call_P rfl rfl rfl (avS (shP rfl) (avN)) (Ffbj_F hr7) (.inr rfl) (bl_n) rfl rfl rfl)) ?_
   refine cq 13 [10,11] [.int .u64 (r7),I ((w64 ((w64 (a_15 + (w64 ((w64 ((w64 (b_16 - a_15)).tdiv 4)) * 2)))) - 1)))] 322 ?_
   obtain ⟨y20,hy20,hy201,hy202⟩:=bL h
   refine s_loop rfl ?_
   refine rf [0,1,8,9,10,11] [1,130] (Ffbd_la_run data_14 a_15 b_16 cmp_17 r7 rfl _ _ hy20 (fun r' e st hq=>r5 r' (hy201 r' e) st hq) fun u20 hu=>?_)
   replace h:=hy202 u20 hu
   exact rf [] [1] (j5 _ (Option.some.inj h).symm :)
 · refine aq 1 ?_
   exact rf [] [1] (j5 _ (Option.some.inj h).symm :)
theorem Ffbd_good {G : Go.Ln.Ground} : Good Tryd.prog G 117 Ffbd_ent:=good_T (fnOf_good (gl_c Ffbj_good (gl_c Ffbr_good (gl_n)))) agree_mk (Checked.mixed Tryd.checked) Tryd.func117 (n:=4) (m:=1) ⟨rfl,rfl,by decide⟩ (fun _=>⟨rfl,rfl⟩) (fun a r h=>Ffbd_run a.1 a.2.1 a.2.2.1 a.2.2.2 r h)
def Ffbk_A : ((List Event) × Int × Int × Int × Unit)→List V:=cA (slE enc_Event) (cA I (cA I (cA (upE I) (oA (fun x : Unit=>(.fn 52 [] : V))))))
def Ffbk_R (r : Int × Int × Int) : V × List V:=(.tup [I (r.1),I (r.2.1)],[.uptr (I (r.2.2))])
noncomputable def Ffbk_ent : Ent:=entT [false,false,false,true,false] Ffbk_A Ffbk_R fun x=>Ffbk x.1 x.2.1 x.2.2.1 x.2.2.2.1 x.2.2.2.2
theorem Ffbk_F {data_10 : List Event} {a_11 : Int} {b_12 : Int} {swaps_13 : Int} {cmp_14 : Unit} {r} (h : Ffbk data_10 a_11 b_12 swaps_13 cmp_14=some r) : (Ffbk_ent).F (Ffbk_A (data_10,a_11,b_12,swaps_13,cmp_14))=some (Ffbk_R r):=entT_F (cA_inj (isl_inj enc_Event_inj) (cA_inj I_inj (cA_inj I_inj (cA_inj (uptr_inj I_inj) (oA_inj (fn_inj0 )))))) h
noncomputable def Ffbk_c : Code:=bodyOf Tryd.f144
noncomputable def Ffbk_E : Env:=mkE Tryd.prog [(52,Fff_ent)]
def Ffbk_Q (x : (List Event) × Int × Int × Int × Unit) (r : Int × Int × Int) : St→Prop:=QF Ffbk_E Tryd.f144 [false,false,false,true,false] (Ffbk_A x) (Ffbk_R r)
theorem Ffbk_run (data_10 : List Event) (a_11 : Int) (b_12 : Int) (swaps_13 : Int) (cmp_14 : Unit) (r : Int × Int × Int) (h : Ffbk data_10 a_11 b_12 swaps_13 cmp_14=some r) : RunF Ffbk_E Tryd.f144 [false,false,false,true,false] 1 (Ffbk_A (data_10,a_11,b_12,swaps_13,cmp_14)) (Ffbk_R r):=by
 show Run _ _ (Ffbk_Q (data_10,a_11,b_12,swaps_13,cmp_14) r) [.code Ffbk_c] _
 refine rin (n:=32) [(0,.isl false ((data_10).map enc_Event)),(1,I (a_11)),(2,I (b_12)),(3,.hp 1 0 [] 1 0 0),(4,.fn 52 [])] [(1,some ⟨0,1,[I (swaps_13)]⟩)] 2 (by kernel_rfl) (by kernel_rfl) (by kernel_rfl) rfl ?_
 unfold Ffbk at h
 refine cq 7 [] [] 34 ?_
 refine s_draw [0,0,0,6,14,0,0,96,224,511,1023] rfl (by decide +kernel) ?_
 refine dk 3 [14,13,12] [I (b_12),.isl false ((data_10).map enc_Event),.fn 52 []] ?_
 obtain ⟨e6,he6,h⟩:=bS h
 refine dq [] [] (.iptr (enc_Event e6) 0) rfl (e_indexAddr rfl rfl rfl (ix_islE rfl rfl rfl rfl he6)) ?_
 refine dq [] [] (enc_Event e6) rfl (e_ld rfl rfl) ?_
 refine dk 2 [18,17] [I (a_11),.isl false ((data_10).map enc_Event)] ?_
 obtain ⟨e7,he7,h⟩:=bS h
 refine dq [] [] (.iptr (enc_Event e7) 0) rfl (e_indexAddr rfl rfl rfl (ix_islE rfl rfl rfl rfl he7)) ?_
 refine dq [] [] (enc_Event e7) rfl (e_ld rfl rfl) ?_
 obtain ⟨r8,hr8,h⟩:=bS h
 refine dq [] [] (I (r8)) rfl (e_callV rfl rfl (call_P rfl rfl rfl (avS (shP rfl) (avS (shP rfl) (avN))) (Fff_F hr8) (.inr rfl) (bl_n) rfl rfl rfl)) ?_ (w_callO rfl rfl rfl rfl (avS (shP rfl) (avS (shP rfl) (avN))) (Fff_F hr8) (.inr rfl) rfl)
 refine dk 1 [22] [B ((decide (r8 < 0)))] ?_
 refine de 210 rfl rfl ?_
 refine sq h (fun h=>?_) (fun h=>?_)
 · refine ck 16 [10,11] [] [1] [] [I (b_12),I (a_11)] [some ⟨0,1,[I ((w64 (swaps_13 + 1)))]⟩] 370 (by kernel_rfl) ?_
   obtain rfl:=Option.some.inj h
   exact s_ret rfl ⟨_,fin (vs:=[I (b_12),I (a_11)]) rfl (absE (absorb_plain rfl) (absE (absorb_plain rfl) (absEN))) rfl (ou_f (ou_f (ou_f (ou_1 rfl (oc_hp rfl rfl) (ou_f (ou_n)))))),kl_c (kl_n)⟩
 · refine aq 1 ?_
   refine cq 7 [10,11] [I (a_11),I (b_12)] 274 ?_
   obtain rfl:=Option.some.inj h
   exact s_ret rfl ⟨_,fin (vs:=[I (a_11),I (b_12)]) rfl (absE (absorb_plain rfl) (absE (absorb_plain rfl) (absEN))) rfl (ou_f (ou_f (ou_f (ou_1 rfl (oc_hp rfl rfl) (ou_f (ou_n)))))),kl_c (kl_n)⟩
theorem Ffbk_good {G : Go.Ln.Ground} : Good Tryd.prog G 144 Ffbk_ent:=good_T (fnOf_good (gl_c Fff_good (gl_n))) agree_mk (Checked.mixed Tryd.checked) Tryd.func144 (n:=5) (m:=1) ⟨rfl,rfl,by decide⟩ (fun _=>⟨rfl,rfl⟩) (fun a r h=>Ffbk_run a.1 a.2.1 a.2.2.1 a.2.2.2.1 a.2.2.2.2 r h)
def Ffbi_A : ((List Event) × Int × Int × Int × Int × Unit)→List V:=cA (slE enc_Event) (cA I (cA I (cA I (cA (upE I) (oA (fun x : Unit=>(.fn 52 [] : V)))))))
def Ffbi_R (r : Int × Int) : V × List V:=(I (r.1),[.uptr (I (r.2))])
noncomputable def Ffbi_ent : Ent:=entT [false,false,false,false,true,false] Ffbi_A Ffbi_R fun x=>Ffbi x.1 x.2.1 x.2.2.1 x.2.2.2.1 x.2.2.2.2.1 x.2.2.2.2.2
theorem Ffbi_F {data_7 : List Event} {a_8 : Int} {b_9 : Int} {c_10 : Int} {swaps_11 : Int} {cmp_12 : Unit} {r} (h : Ffbi data_7 a_8 b_9 c_10 swaps_11 cmp_12=some r) : (Ffbi_ent).F (Ffbi_A (data_7,a_8,b_9,c_10,swaps_11,cmp_12))=some (Ffbi_R r):=entT_F (cA_inj (isl_inj enc_Event_inj) (cA_inj I_inj (cA_inj I_inj (cA_inj I_inj (cA_inj (uptr_inj I_inj) (oA_inj (fn_inj0 ))))))) h
noncomputable def Ffbi_c : Code:=bodyOf Tryd.f138
noncomputable def Ffbi_E : Env:=mkE Tryd.prog [(144,Ffbk_ent)]
def Ffbi_Q (x : (List Event) × Int × Int × Int × Int × Unit) (r : Int × Int) : St→Prop:=QF Ffbi_E Tryd.f138 [false,false,false,false,true,false] (Ffbi_A x) (Ffbi_R r)
theorem Ffbi_run (data_7 : List Event) (a_8 : Int) (b_9 : Int) (c_10 : Int) (swaps_11 : Int) (cmp_12 : Unit) (r : Int × Int) (h : Ffbi data_7 a_8 b_9 c_10 swaps_11 cmp_12=some r) : RunF Ffbi_E Tryd.f138 [false,false,false,false,true,false] 1 (Ffbi_A (data_7,a_8,b_9,c_10,swaps_11,cmp_12)) (Ffbi_R r):=by
 show Run _ _ (Ffbi_Q (data_7,a_8,b_9,c_10,swaps_11,cmp_12) r) [.code Ffbi_c] _
 refine rin (n:=41) [(0,.isl false ((data_7).map enc_Event)),(1,I (a_8)),(2,I (b_9)),(3,I (c_10)),(4,.hp 1 0 [] 1 0 0),(5,.fn 52 [])] [(1,some ⟨0,1,[I (swaps_11)]⟩)] 2 (by kernel_rfl) (by kernel_rfl) (by kernel_rfl) rfl ?_
 unfold Ffbi at h
 refine cq 11 [14,15,16,17,18] [.isl false ((data_7).map enc_Event),I (a_8),I (b_9),.hp 1 0 [] 1 0 0,.fn 52 []] 98 ?_
 obtain ⟨r7,hr7,h⟩:=bS h
 refine oq 114 (.tup [I (r7.1),I (r7.2.1)]) rfl (e_callV rfl rfl (call_P rfl rfl rfl (avS (shP rfl) (avS (shP rfl) (avS (shP rfl) (avO (hd1 rfl (hd_hp (path:=[]) rfl rfl (ra_n) rfl)) (avS (shP rfl) (avN)))))) (Ffbk_F hr7) (.inr rfl) (bl_c rfl rfl rfl rfl (bl_n)) rfl rfl rfl)) ?_
 refine ck 13 [1,23,24,25,26,27] [2] [] [] [I (r7.1),.isl false ((data_7).map enc_Event),I (r7.2.1),I (c_10),.hp 1 0 [] 1 0 0,.fn 52 []] [] 274 (by kernel_rfl) ?_
 obtain ⟨r8,hr8,h⟩:=bS h
 refine oq 290 (.tup [I (r8.1),I (r8.2.1)]) rfl (e_callV rfl rfl (call_P rfl rfl rfl (avS (shP rfl) (avS (shP rfl) (avS (shP rfl) (avO (hd1 rfl (hd_hp (path:=[]) rfl rfl (ra_n) rfl)) (avS (shP rfl) (avN)))))) (Ffbk_F hr8) (.inr rfl) (bl_c rfl rfl rfl rfl (bl_n)) rfl rfl rfl)) ?_
 refine ck 13 [32,33,34,35,36] [3] [] [] [.isl false ((data_7).map enc_Event),I (r7.1),I (r8.1),.hp 1 0 [] 1 0 0,.fn 52 []] [] 450 (by kernel_rfl) ?_
 obtain ⟨r9,hr9,h⟩:=bS h
 refine oq 466 (.tup [I (r9.1),I (r9.2.1)]) rfl (e_callV rfl rfl (call_P rfl rfl rfl (avS (shP rfl) (avS (shP rfl) (avS (shP rfl) (avO (hd1 rfl (hd_hp (path:=[]) rfl rfl (ra_n) rfl)) (avS (shP rfl) (avN)))))) (Ffbk_F hr9) (.inr rfl) (bl_c rfl rfl rfl rfl (bl_n)) rfl rfl rfl)) ?_
 refine ck 11 [12] [1] [] [] [I (r9.2.1)] [] 578 (by kernel_rfl) ?_
 obtain rfl:=Option.some.inj h
 exact s_ret rfl ⟨_,fin (vs:=[I (r9.2.1)]) rfl (absE (absorb_plain rfl) (absEN)) rfl (ou_f (ou_f (ou_f (ou_f (ou_1 rfl (oc_hp rfl rfl) (ou_f (ou_n))))))),kl_c (kl_n)⟩
theorem Ffbi_good {G : Go.Ln.Ground} : Good Tryd.prog G 138 Ffbi_ent:=good_T (fnOf_good (gl_c Ffbk_good (gl_n))) agree_mk (Checked.mixed Tryd.checked) Tryd.func138 (n:=6) (m:=1) ⟨rfl,rfl,by decide⟩ (fun _=>⟨rfl,rfl⟩) (fun a r h=>Ffbi_run a.1 a.2.1 a.2.2.1 a.2.2.2.1 a.2.2.2.2.1 a.2.2.2.2.2 r h)
def Ffbh_A : ((List Event) × Int × Int × Unit)→List V:=cA (slE enc_Event) (cA I (cA (upE I) (oA (fun x : Unit=>(.fn 52 [] : V)))))
def Ffbh_R (r : Int × Int) : V × List V:=(I (r.1),[.uptr (I (r.2))])
noncomputable def Ffbh_ent : Ent:=entT [false,false,true,false] Ffbh_A Ffbh_R fun x=>Ffbh x.1 x.2.1 x.2.2.1 x.2.2.2
theorem Ffbh_F {data_5 : List Event} {a_6 : Int} {swaps_7 : Int} {cmp_8 : Unit} {r} (h : Ffbh data_5 a_6 swaps_7 cmp_8=some r) : (Ffbh_ent).F (Ffbh_A (data_5,a_6,swaps_7,cmp_8))=some (Ffbh_R r):=entT_F (cA_inj (isl_inj enc_Event_inj) (cA_inj I_inj (cA_inj (uptr_inj I_inj) (oA_inj (fn_inj0 ))))) h
noncomputable def Ffbh_c : Code:=bodyOf Tryd.f137
noncomputable def Ffbh_E : Env:=mkE Tryd.prog [(138,Ffbi_ent)]
def Ffbh_Q (x : (List Event) × Int × Int × Unit) (r : Int × Int) : St→Prop:=QF Ffbh_E Tryd.f137 [false,false,true,false] (Ffbh_A x) (Ffbh_R r)
theorem Ffbh_run (data_5 : List Event) (a_6 : Int) (swaps_7 : Int) (cmp_8 : Unit) (r : Int × Int) (h : Ffbh data_5 a_6 swaps_7 cmp_8=some r) : RunF Ffbh_E Tryd.f137 [false,false,true,false] 1 (Ffbh_A (data_5,a_6,swaps_7,cmp_8)) (Ffbh_R r):=by
 show Run _ _ (Ffbh_Q (data_5,a_6,swaps_7,cmp_8) r) [.code Ffbh_c] _
 refine rin (n:=18) [(0,.isl false ((data_5).map enc_Event)),(1,I (a_6)),(2,.hp 1 0 [] 1 0 0),(3,.fn 52 [])] [(1,some ⟨0,1,[I (swaps_7)]⟩)] 2 (by kernel_rfl) (by kernel_rfl) (by kernel_rfl) rfl ?_
 unfold Ffbh at h
 refine cq 14 [9,11,12,14,15,16] [.isl false ((data_5).map enc_Event),I ((w64 (a_6 - 1))),I (a_6),I ((w64 (a_6 + 1))),.hp 1 0 [] 1 0 0,.fn 52 []] 146 ?_
 obtain ⟨r5,hr5,h⟩:=bS h
 refine oq 162 (I (r5.1)) rfl (e_callV rfl rfl (call_P rfl rfl rfl (avS (shP rfl) (avS (shP rfl) (avS (shP rfl) (avS (shP rfl) (avO (hd1 rfl (hd_hp (path:=[]) rfl rfl (ra_n) rfl)) (avS (shP rfl) (avN))))))) (Ffbi_F hr5) (.inr rfl) (bl_c rfl rfl rfl rfl (bl_n)) rfl rfl rfl)) ?_
 refine cq 2 [8] [I (r5.1)] 178 ?_
 obtain rfl:=Option.some.inj h
 exact s_ret rfl ⟨_,fin (vs:=[I (r5.1)]) rfl (absE (absorb_plain rfl) (absEN)) rfl (ou_f (ou_f (ou_1 rfl (oc_hp rfl rfl) (ou_f (ou_n))))),kl_c (kl_n)⟩
theorem Ffbh_good {G : Go.Ln.Ground} : Good Tryd.prog G 137 Ffbh_ent:=good_T (fnOf_good (gl_c Ffbi_good (gl_n))) agree_mk (Checked.mixed Tryd.checked) Tryd.func137 (n:=4) (m:=1) ⟨rfl,rfl,by decide⟩ (fun _=>⟨rfl,rfl⟩) (fun a r h=>Ffbh_run a.1 a.2.1 a.2.2.1 a.2.2.2 r h)
def Ffbe_A : ((List Event) × Int × Int × Unit)→List V:=cA (slE enc_Event) (cA I (cA I (oA (fun x : Unit=>(.fn 52 [] : V)))))
def Ffbe_R (r : Int × Int) : V × List V:=(.tup [I (r.1),I (r.2)],[])
noncomputable def Ffbe_ent : Ent:=entT [false,false,false,false] Ffbe_A Ffbe_R fun x=>Ffbe x.1 x.2.1 x.2.2.1 x.2.2.2
theorem Ffbe_F {data_1 : List Event} {a_2 : Int} {b_3 : Int} {cmp_4 : Unit} {r} (h : Ffbe data_1 a_2 b_3 cmp_4=some r) : (Ffbe_ent).F (Ffbe_A (data_1,a_2,b_3,cmp_4))=some (Ffbe_R r):=entT_F (cA_inj (isl_inj enc_Event_inj) (cA_inj I_inj (cA_inj I_inj (oA_inj (fn_inj0 ))))) h
noncomputable def Ffbe_c : Code:=bodyOf Tryd.f118
noncomputable def Ffbe_E : Env:=mkE Tryd.prog [(138,Ffbi_ent),(137,Ffbh_ent)]
def Ffbe_Q (x : (List Event) × Int × Int × Unit) (r : Int × Int) : St→Prop:=QF Ffbe_E Tryd.f118 [false,false,false,false] (Ffbe_A x) (Ffbe_R r)
theorem Ffbe_run (data_1 : List Event) (a_2 : Int) (b_3 : Int) (cmp_4 : Unit) (r : Int × Int) (h : Ffbe data_1 a_2 b_3 cmp_4=some r) : RunF Ffbe_E Tryd.f118 [false,false,false,false] 0 (Ffbe_A (data_1,a_2,b_3,cmp_4)) (Ffbe_R r):=by
 show Run _ _ (Ffbe_Q (data_1,a_2,b_3,cmp_4) r) [.code Ffbe_c] _
 refine rin (n:=63) [(0,.isl false ((data_1).map enc_Event)),(1,I (a_2)),(2,I (b_3)),(3,.fn 52 [])] [] 1 (by kernel_rfl) (by kernel_rfl) (by kernel_rfl) rfl ?_
 unfold Ffbe at h
 refine ck 49 [10,11,12,13,14,34] [] [97] [] [I ((w64 (b_3 - a_2))),.hp 97 0 [] 1 0 0,I ((w64 (a_2 + (w64 ((w64 ((w64 (b_3 - a_2)).tdiv 4)) * 1))))),I ((w64 (a_2 + (w64 ((w64 ((w64 (b_3 - a_2)).tdiv 4)) * 2))))),I ((w64 (a_2 + (w64 ((w64 ((w64 (b_3 - a_2)).tdiv 4)) * 3))))),B ((decide ((w64 (b_3 - a_2)) ≥ 8)))] [some ⟨0,1,[I (0)]⟩] 433 (by kernel_rfl) ?_
 obtain ⟨y5,hy5,hy51,hy52⟩:=bJ h
 have j5 : ∀ u5,y5=.inr u5→Run Ffbe_E 0 (Ffbe_Q (data_1,a_2,b_3,cmp_4) r) (.code (cR (cR (cR (cR (cR (cR (cR Ffbe_c))))))) :: []) (sT 63 [(11,.hp 1 0 [] 1 0 0),(13,I (u5.1))] [⟨0,1,[I (u5.2)]⟩] 2):=by
   intro u5 hu
   replace h:=hy52 u5 hu
   refine cq 10 [55,57] [I (u5.2),B ((u5.2 == 0))] 50 ?_
   refine sq h (fun h=>?_) (fun h=>?_)
   · refine cq 6 [8,9] [I (u5.1),I (1)] 98 ?_
     obtain rfl:=Option.some.inj h
     exact s_ret rfl ⟨_,fin (vs:=[I (u5.1),I (1)]) rfl (absE (absorb_plain rfl) (absE (absorb_plain rfl) (absEN))) rfl (ou_f (ou_f (ou_f (ou_f (ou_n))))),kl_n⟩
   · refine cq 5 [60] [B ((u5.2 == 12))] 82 ?_
     refine sq h (fun h=>?_) (fun h=>?_)
     · refine cq 6 [8,9] [I (u5.1),I (2)] 130 ?_
       obtain rfl:=Option.some.inj h
       exact s_ret rfl ⟨_,fin (vs:=[I (u5.1),I (2)]) rfl (absE (absorb_plain rfl) (absE (absorb_plain rfl) (absEN))) rfl (ou_f (ou_f (ou_f (ou_f (ou_n))))),kl_n⟩
     · refine cq 6 [8,9] [I (u5.1),I (0)] 130 ?_
       obtain rfl:=Option.some.inj h
       exact s_ret rfl ⟨_,fin (vs:=[I (u5.1),I (0)]) rfl (absE (absorb_plain rfl) (absE (absorb_plain rfl) (absEN))) rfl (ou_f (ou_f (ou_f (ou_f (ou_n))))),kl_n⟩
 have r5 : ∀ r',y5=.inl r'→∀ st,Ffbe_Q (data_1,a_2,b_3,cmp_4) r' st→(Ffbe_Q (data_1,a_2,b_3,cmp_4) r) st:=fun r' e st hq=>by rw [hy51 r' e] at hq; exact hq
 replace h:=hy5
 refine sq h (fun h=>?_) (fun h=>?_)
 · refine cq 6 [36] [B ((decide ((w64 (b_3 - a_2)) ≥ 50)))] 465 ?_
   obtain ⟨y6,hy6,hy61,hy62⟩:=bL h
   have j6 : ∀ u6,y6=.inr u6→Run Ffbe_E 0 (Ffbe_Q (data_1,a_2,b_3,cmp_4) r) (.code (cR (cL (cR (cL (cR (cR (cR (cR (cR (cR Ffbe_c)))))))))) :: .code (cR (cR (cR (cR (cR (cR (cR Ffbe_c))))))) :: []) (sT 63 [(0,.isl false ((data_1).map enc_Event)),(3,.fn 52 []),(11,.hp 1 0 [] 1 0 0),(12,I (u6.1)),(13,I (u6.2.1)),(14,I (u6.2.2.1))] [⟨0,1,[I (u6.2.2.2)]⟩] 2):=by
     intro u6 hu
     replace h:=hy62 u6 hu
     refine cq 6 [49,50,51,52,53] [.isl false ((data_1).map enc_Event),I (u6.1),I (u6.2.1),I (u6.2.2.1),.fn 52 []] 82 ?_
     obtain ⟨r7,hr7,h⟩:=bS h
     refine oq 98 (I (r7.1)) rfl (e_callV rfl rfl (call_P rfl rfl rfl (avS (shP rfl) (avS (shP rfl) (avS (shP rfl) (avS (shP rfl) (avO (hd1 rfl (hd_hp (path:=[]) rfl rfl (ra_n) rfl)) (avS (shP rfl) (avN))))))) (Ffbi_F hr7) (.inr rfl) (bl_c rfl rfl rfl rfl (bl_n)) rfl rfl rfl)) ?_
     refine cq 2 [13] [I (r7.1)] 114 ?_
     exact rf [11,13] [1] (j5 _ (Option.some.inj h).symm :)
   have r6 : ∀ r',y6=.inl r'→∀ st,Ffbe_Q (data_1,a_2,b_3,cmp_4) r' st→(Ffbe_Q (data_1,a_2,b_3,cmp_4) r) st:=fun r' e st hq=>r5 r' (hy61 r' e) st hq
   replace h:=hy6
   refine sq h (fun h=>?_) (fun h=>?_)
   · refine cq 5 [37,38,39] [.isl false ((data_1).map enc_Event),I ((w64 (a_2 + (w64 ((w64 ((w64 (b_3 - a_2)).tdiv 4)) * 1))))),.fn 52 []] 513 ?_
     obtain ⟨r8,hr8,h⟩:=bS h
     refine oq 529 (I (r8.1)) rfl (e_callV rfl rfl (call_P rfl rfl rfl (avS (shP rfl) (avS (shP rfl) (avO (hd1 rfl (hd_hp (path:=[]) rfl rfl (ra_n) rfl)) (avS (shP rfl) (avN))))) (Ffbh_F hr8) (.inr rfl) (bl_c rfl rfl rfl rfl (bl_n)) rfl rfl rfl)) ?_
     refine cq 7 [12,41,42,43] [I (r8.1),.isl false ((data_1).map enc_Event),I ((w64 (a_2 + (w64 ((w64 ((w64 (b_3 - a_2)).tdiv 4)) * 2))))),.fn 52 []] 593 ?_
     obtain ⟨r9,hr9,h⟩:=bS h
     refine oq 609 (I (r9.1)) rfl (e_callV rfl rfl (call_P rfl rfl rfl (avS (shP rfl) (avS (shP rfl) (avO (hd1 rfl (hd_hp (path:=[]) rfl rfl (ra_n) rfl)) (avS (shP rfl) (avN))))) (Ffbh_F hr9) (.inr rfl) (bl_c rfl rfl rfl rfl (bl_n)) rfl rfl rfl)) ?_
     refine cq 6 [13,45,46,47] [I (r9.1),.isl false ((data_1).map enc_Event),I ((w64 (a_2 + (w64 ((w64 ((w64 (b_3 - a_2)).tdiv 4)) * 3))))),.fn 52 []] 673 ?_
     obtain ⟨r10,hr10,h⟩:=bS h
     refine oq 689 (I (r10.1)) rfl (e_callV rfl rfl (call_P rfl rfl rfl (avS (shP rfl) (avS (shP rfl) (avO (hd1 rfl (hd_hp (path:=[]) rfl rfl (ra_n) rfl)) (avS (shP rfl) (avN))))) (Ffbh_F hr10) (.inr rfl) (bl_c rfl rfl rfl rfl (bl_n)) rfl rfl rfl)) ?_
     refine cq 2 [14] [I (r10.1)] 705 ?_
     exact rf [0,3,11,12,13,14] [97] (j6 _ (Option.some.inj h).symm :)
   · refine aq 1 ?_
     exact rf [0,3,11,12,13,14] [97] (j6 _ (Option.some.inj h).symm :)
 · refine aq 1 ?_
   exact rf [11,13] [97] (j5 _ (Option.some.inj h).symm :)
theorem Ffbe_good {G : Go.Ln.Ground} : Good Tryd.prog G 118 Ffbe_ent:=good_T (fnOf_good (gl_c Ffbi_good (gl_c Ffbh_good (gl_n)))) agree_mk (Checked.mixed Tryd.checked) Tryd.func118 (n:=4) (m:=0) ⟨rfl,rfl,by decide⟩ (fun _=>⟨rfl,rfl⟩) (fun a r h=>Ffbe_run a.1 a.2.1 a.2.2.1 a.2.2.2 r h)
def Ffbp_A : ((List Event) × Int × Int × Unit)→List V:=cA (usE 4 enc_Event) (cA I (cA I (oA (fun x : Unit=>(.fn 52 [] : V)))))
def Ffbp_R (r : (List Event)) : V × List V:=(.tup [],[.usl 4 ((r).map enc_Event)])
noncomputable def Ffbp_ent : Ent:=entT [true,false,false,false] Ffbp_A Ffbp_R fun x=>Ffbp x.1 x.2.1 x.2.2.1 x.2.2.2
theorem Ffbp_F {data_10 : List Event} {a_11 : Int} {b_12 : Int} {cmp_13 : Unit} {r} (h : Ffbp data_10 a_11 b_12 cmp_13=some r) : (Ffbp_ent).F (Ffbp_A (data_10,a_11,b_12,cmp_13))=some (Ffbp_R r):=entT_F (cA_inj (usl_inj enc_Event_inj) (cA_inj I_inj (cA_inj I_inj (oA_inj (fn_inj0 ))))) h
noncomputable def Ffbp_c : Code:=bodyOf Tryd.f119
noncomputable def Ffbp_E : Env:=mkE Tryd.prog []
def Ffbp_Q (x : (List Event) × Int × Int × Unit) (r : (List Event)) : St→Prop:=QF Ffbp_E Tryd.f119 [true,false,false,false] (Ffbp_A x) (Ffbp_R r)
theorem Ffbp_la_run (data_10 : List Event) (a_11 : Int) (b_12 : Int) (cmp_13 : Unit)  {Q : St→Prop} {K : List It} (hK : noD K=true) : ∀ (x5 : Int × Int × (List Event)) (y : ((List Event)) ⊕ ((List Event))),Ffbp_la data_10 a_11 b_12 cmp_13 x5=some y→(∀ r',y=.inl r'→∀ st,Ffbp_Q (data_10,a_11,b_12,cmp_13) r' st→Q st)→(∀ u : (List Event),y=.inr u→Run Ffbp_E 1 Q K (sT 34 [] [⟨0,4,(u).map enc_Event⟩] 2))→Run Ffbp_E 1 Q (.code (cL (cL (cR (cR Ffbp_c)))) :: .lp (cL (cL (cR (cR Ffbp_c)))) :: .blk 0 :: K) (sT 34 [(0,.hs 1 0 [] 4 0 ((x5.2.2).map enc_Event).length),(8,I (x5.1)),(9,I (x5.2.1))] [⟨0,4,(x5.2.2).map enc_Event⟩] 2):=by
 refine fix_indP (Ffbp_la_fin data_10 a_11 b_12 cmp_13) ?_
 intro self ih x5 y h hr hn
 unfold Ffbp_la_F at h
 refine cq 7 [15] [B ((decide (x5.1 < x5.2.1)))] 50 ?_
 refine sq h (fun h=>?_) (fun h=>?_)
 · refine aq 1 ?_
   refine aq 2 ?_
   refine s_draw [0,0,0,0,0,0,48,112,0,0,768,1792,4083,8179,16383,32767] rfl (by decide +kernel) ?_
   refine dk 6 [21,20,19,18,17,16] [I (x5.2.1),.hs 1 0 [] 4 0 ((x5.2.2).map enc_Event).length,I (x5.2.1),.hs 1 0 [] 4 0 ((x5.2.2).map enc_Event).length,I (x5.1),.hs 1 0 [] 4 0 ((x5.2.2).map enc_Event).length] ?_
   obtain ⟨e6,he6,h⟩:=bS h
   refine dq [1] [] (.hp 1 0 [] 4 (0 + Int.toNat (x5.2.1)) 0) rfl (e_indexAddr rfl rfl rfl (ix_hsM (f:=enc_Event) (xs:=x5.2.2) rfl rfl rfl he6)) ?_
   refine dq [1] [] (enc_Event e6) rfl (e_ld rfl (ld_at (path:=[]) rfl rfl rfl (ra_n) (get_map (f:=enc_Event) (xs:=x5.2.2) he6) rfl rfl rfl)) ?_
   refine dk 2 [25,24] [I (x5.1),.hs 1 0 [] 4 0 ((x5.2.2).map enc_Event).length] ?_
   obtain ⟨e7,he7,h⟩:=bS h
   refine dq [1] [] (.hp 1 0 [] 4 (0 + Int.toNat (x5.1)) 0) rfl (e_indexAddr rfl rfl rfl (ix_hsM (f:=enc_Event) (xs:=x5.2.2) rfl rfl rfl he7)) ?_
   refine dq [1] [] (enc_Event e7) rfl (e_ld rfl (ld_at (path:=[]) rfl rfl rfl (ra_n) (get_map (f:=enc_Event) (xs:=x5.2.2) he7) rfl rfl rfl)) ?_
   obtain ⟨e8,he8,h⟩:=bS h
   refine dq [1] [] (.hp 1 0 [] 4 (0 + Int.toNat (x5.1)) 0) rfl (e_indexAddr rfl rfl rfl (ix_hsM (f:=enc_Event) (xs:=x5.2.2) rfl rfl rfl he8)) ?_
   refine dz [1] [1] rfl (e_st rfl rfl (st_at (path:=[]) (pl:=true) (e':=enc_Event e6) (es2':=((setI x5.2.2 x5.1 e6)).map enc_Event) rfl (absorb_plain rfl) rfl rfl rfl (ra_n) (get_map (f:=enc_Event) (xs:=x5.2.2) he8) rfl rfl rfl (set_map (f:=enc_Event) (xs:=x5.2.2) (y:=e6)) (sr_n) 0 rfl)) ?_
   try rw [← len_setM (f:=enc_Event) (xs:=x5.2.2) (i:=x5.1) (z:=e6)]
   obtain ⟨e11,he11,h⟩:=bS h
   refine dq [1] [] (.hp 1 0 [] 4 (0 + Int.toNat (x5.2.1)) 0) rfl (e_indexAddr rfl rfl rfl (ix_hsM (f:=enc_Event) (xs:=(setI x5.2.2 x5.1 e6)) rfl rfl rfl he11)) ?_
   refine dz [1] [1] rfl (e_st rfl rfl (st_at (path:=[]) (pl:=true) (e':=enc_Event e7) (es2':=((setI (setI x5.2.2 x5.1 e6) x5.2.1 e7)).map enc_Event) rfl (absorb_plain rfl) rfl rfl rfl (ra_n) (get_map (f:=enc_Event) (xs:=(setI x5.2.2 x5.1 e6)) he11) rfl rfl rfl (set_map (f:=enc_Event) (xs:=(setI x5.2.2 x5.1 e6)) (y:=e7)) (sr_n) 0 rfl)) ?_
   try rw [← len_setM (f:=enc_Event) (xs:=(setI x5.2.2 x5.1 e6)) (i:=x5.2.1) (z:=e7)]
   refine de 306 rfl rfl ?_
   refine cq 12 [8,9] [I ((w64 (x5.1 + 1))),I ((w64 (x5.2.1 - 1)))] 402 ?_
   refine s_lp ?_
   exact rf [0,8,9] [1] (ih _ _ h hr hn :)
 · refine aq 1 ?_
   exact rf [] [1] (hn _ (Option.some.inj h).symm :) (hk:=hK)
theorem Ffbp_run (data_10 : List Event) (a_11 : Int) (b_12 : Int) (cmp_13 : Unit) (r : (List Event)) (h : Ffbp data_10 a_11 b_12 cmp_13=some r) : RunF Ffbp_E Tryd.f119 [true,false,false,false] 1 (Ffbp_A (data_10,a_11,b_12,cmp_13)) (Ffbp_R r):=by
 show Run _ _ (Ffbp_Q (data_10,a_11,b_12,cmp_13) r) [.code Ffbp_c] _
 refine rin (n:=34) [(0,.hs 1 0 [] 4 0 ((data_10).map enc_Event).length),(1,I (a_11)),(2,I (b_12)),(3,.fn 52 [])] [(1,some ⟨0,4,(data_10).map enc_Event⟩)] 2 (by kernel_rfl) (by kernel_rfl) (by kernel_rfl) rfl ?_
 unfold Ffbp at h
 refine cq 12 [8,9] [I (a_11),I ((w64 (b_12 - 1)))] 82 ?_
 obtain ⟨y15,hy15,hy151,hy152⟩:=bJ h
 refine s_loop rfl ?_
 refine rf [0,8,9] [1] (Ffbp_la_run data_10 a_11 b_12 cmp_13 rfl _ _ hy15 (fun r' e st hq=>by rw [hy151 r' e] at hq; exact hq) fun u15 hu=>?_)
 replace h:=hy152 u15 hu
 obtain ⟨g16,h⟩:=gG h
 obtain rfl:=Option.some.inj h
 exact s_end ⟨_,fin (vs:=[]) rfl (absEN) rfl (ou_1 rfl (oc_hsG (f:=enc_Event) (xs:=u15) (by simpa using g16) rfl) (ou_f (ou_f (ou_f (ou_n))))),kl_c (kl_n)⟩
theorem Ffbp_good {G : Go.Ln.Ground} : Good Tryd.prog G 119 Ffbp_ent:=good_T (fnOf_good (gl_n)) agree_mk (Checked.mixed Tryd.checked) Tryd.func119 (n:=4) (m:=1) ⟨rfl,rfl,by decide⟩ (fun _=>⟨rfl,rfl⟩) (fun a r h=>Ffbp_run a.1 a.2.1 a.2.2.1 a.2.2.2 r h)
def Ffbl_A : ((List Event) × Int × Int × Unit)→List V:=cA (usE 4 enc_Event) (cA I (cA I (oA (fun x : Unit=>(.fn 52 [] : V)))))
def Ffbl_R (r : Bool × (List Event)) : V × List V:=(B (r.1),[.usl 4 ((r.2).map enc_Event)])
noncomputable def Ffbl_ent : Ent:=entT [true,false,false,false] Ffbl_A Ffbl_R fun x=>Ffbl x.1 x.2.1 x.2.2.1 x.2.2.2
theorem Ffbl_F {data_16 : List Event} {a_17 : Int} {b_18 : Int} {cmp_19 : Unit} {r} (h : Ffbl data_16 a_17 b_18 cmp_19=some r) : (Ffbl_ent).F (Ffbl_A (data_16,a_17,b_18,cmp_19))=some (Ffbl_R r):=entT_F (cA_inj (usl_inj enc_Event_inj) (cA_inj I_inj (cA_inj I_inj (oA_inj (fn_inj0 ))))) h
noncomputable def Ffbl_c : Code:=bodyOf Tryd.f120
noncomputable abbrev Ffbl_ka : Code:=cL (cL (cR (cL (cR (cR Ffbl_c)))))
noncomputable abbrev Ffbl_kb : Code:=cL (cL (cL (cL (cL (cR Ffbl_ka)))))
noncomputable abbrev Ffbl_kc : Code:=cL (cL (cR (cL (cR (cR (cR (cR (cR (cR (cL (cL (cR Ffbl_ka))))))))))))
noncomputable abbrev Ffbl_kd : Code:=cL (cL (cR (cL (cR (cL (cR (cR (cR (cR (cL (cL (cR Ffbl_ka))))))))))))
noncomputable def Ffbl_E : Env:=mkE Tryd.prog [(52,Fff_ent)]
def Ffbl_Q (x : (List Event) × Int × Int × Unit) (r : Bool × (List Event)) : St→Prop:=QF Ffbl_E Tryd.f120 [true,false,false,false] (Ffbl_A x) (Ffbl_R r)
theorem Ffbl_lb_run (data_16 : List Event) (a_17 : Int) (b_18 : Int) (cmp_19 : Unit) (x5 : Int × Int × Int × Int × (List Event)) {Q : St→Prop} {K : List It} (hK : noD K=true) : ∀ (x6 : Int) (y : (Bool × (List Event)) ⊕ Int),Ffbl_lb data_16 a_17 b_18 cmp_19 x5 x6=some y→(∀ r',y=.inl r'→∀ st,Ffbl_Q (data_16,a_17,b_18,cmp_19) r' st→Q st)→(∀ u : Int,y=.inr u→Run Ffbl_E 1 Q K (sT 141 [(0,.hs 1 0 [] 4 0 ((x5.2.2.2.2).map enc_Event).length),(1,I (x5.1)),(2,I (x5.2.1)),(3,.fn 52 []),(9,I (u)),(10,I (x5.2.2.2.1))] [⟨0,4,(x5.2.2.2.2).map enc_Event⟩] 2))→Run Ffbl_E 1 Q (.code Ffbl_kb :: .lp Ffbl_kb :: .blk 2 :: K) (sT 141 [(0,.hs 1 0 [] 4 0 ((x5.2.2.2.2).map enc_Event).length),(1,I (x5.1)),(2,I (x5.2.1)),(3,.fn 52 []),(9,I (x6)),(10,I (x5.2.2.2.1))] [⟨0,4,(x5.2.2.2.2).map enc_Event⟩] 2):=by
 refine fix_indP (Ffbl_lb_fin data_16 a_17 b_18 cmp_19 x5) ?_
 intro self ih x6 y h hr hn
 unfold Ffbl_lb_F at h
 refine aq 2 ?_
 refine s_draw [0,0,3,7,15,15,15,111,239,15,15,1039,3599,7695,16383,32767,65535,131071] rfl (by decide +kernel) ?_
 refine dk 4 [22,21,20,19] [B ((decide (x6 < x5.2.1))),B ((decide (x6 < x5.2.1))),I (x5.2.1),I (x6)] ?_
 obtain ⟨y7,hy7,hy71,hy72⟩:=bL h
 have j7 : ∀ u7,y7=.inr u7→Run Ffbl_E 1 Q (.code (cR (cL Ffbl_kb)) :: .code (cR Ffbl_kb) :: .lp Ffbl_kb :: .blk 2 :: K) (sT 141 [(0,.hs 1 0 [] 4 0 ((x5.2.2.2.2).map enc_Event).length),(1,I (x5.1)),(2,I (x5.2.1)),(3,.fn 52 []),(9,I (x6)),(10,I (x5.2.2.2.1)),(36,B (u7))] [⟨0,4,(x5.2.2.2.2).map enc_Event⟩] 2):=by
   intro u7 hu
   replace h:=hy72 u7 hu
   refine sq h (fun h=>?_) (fun h=>?_)
   · refine aq 1 ?_
     refine cq 7 [9] [I ((w64 (x6 + 1)))] 50 ?_
     refine s_lp ?_
     exact rf [0,1,2,3,9,10] [1] (ih _ _ h hr hn :)
   · refine aq 1 ?_
     exact rf [0,1,2,3,9,10] [1] (hn _ (Option.some.inj h).symm :) (hk:=hK)
 have r7 : ∀ r',y7=.inl r'→∀ st,Ffbl_Q (data_16,a_17,b_18,cmp_19) r' st→Q st:=fun r' e st hq=>hr r' (hy71 r' e) st hq
 replace h:=hy7
 refine sp 22 h rfl (fun h=>?_) (fun h=>?_)
 · refine dk 3 [25,24,23] [I (x6),.hs 1 0 [] 4 0 ((x5.2.2.2.2).map enc_Event).length,.fn 52 []] ?_
   obtain ⟨e8,he8,h⟩:=bS h
   refine dy [1] [] (.hp 1 0 [] 4 (0 + Int.toNat (x6)) 0) rfl (e_indexAddr rfl rfl rfl (ix_hsM (f:=enc_Event) (xs:=x5.2.2.2.2) rfl rfl rfl he8)) ?_
   refine dy [1] [] (enc_Event e8) rfl (e_ld rfl (ld_at (path:=[]) rfl rfl rfl (ra_n) (get_map (f:=enc_Event) (xs:=x5.2.2.2.2) he8) rfl rfl rfl)) ?_
   refine dk 3 [30,29,28] [I ((w64 (x6 - 1))),I (x6),.hs 1 0 [] 4 0 ((x5.2.2.2.2).map enc_Event).length] ?_
   obtain ⟨e9,he9,h⟩:=bS h
   refine dy [1] [] (.hp 1 0 [] 4 (0 + Int.toNat ((w64 (x6 - 1)))) 0) rfl (e_indexAddr rfl rfl rfl (ix_hsM (f:=enc_Event) (xs:=x5.2.2.2.2) rfl rfl rfl he9)) ?_
   refine dy [1] [] (enc_Event e9) rfl (e_ld rfl (ld_at (path:=[]) rfl rfl rfl (ra_n) (get_map (f:=enc_Event) (xs:=x5.2.2.2.2) he9) rfl rfl rfl)) ?_
   obtain ⟨r10,hr10,h⟩:=bS h
   refine dy [] [] (I (r10)) rfl (e_callV rfl rfl (call_P rfl rfl rfl (avS (shP rfl) (avS (shP rfl) (avN))) (Fff_F hr10) (.inr rfl) (bl_n) rfl rfl rfl)) ?_ (w_callO rfl rfl rfl rfl (avS (shP rfl) (avS (shP rfl) (avN))) (Fff_F hr10) (.inr rfl) rfl)
   refine dk 3 [36,35,34] [B ((!(decide (r10 < 0)))),B ((!(decide (r10 < 0)))),B ((decide (r10 < 0)))] ?_
   refine de 290 rfl rfl ?_
   exact rf [0,1,2,3,9,10,36] [1] (j7 _ (Option.some.inj h).symm :)
 · refine dk 14 [36,35,34,33,32,31,30,29,28,27,26,25,24,23] [B (false),.und,.und,.und,.und,.und,.und,.und,.und,.und,.und,.und,.und,.und] ?_
   refine de 290 rfl rfl ?_
   exact rf [0,1,2,3,9,10,36] [1] (j7 _ (Option.some.inj h).symm :)
theorem Ffbl_lc_run (data_16 : List Event) (a_17 : Int) (b_18 : Int) (cmp_19 : Unit) (x5 : Int × Int × Int × Int × (List Event)) (u11 : Int) {Q : St→Prop} {K : List It} (hK : noD K=true) : ∀ (x25 : Int × (List Event)) (y : (Bool × (List Event)) ⊕ ((List Event))),Ffbl_lc data_16 a_17 b_18 cmp_19 x5 u11 x25=some y→(∀ r',y=.inl r'→∀ st,Ffbl_Q (data_16,a_17,b_18,cmp_19) r' st→Q st)→(∀ u : (List Event),y=.inr u→Run Ffbl_E 1 Q K (sT 141 [(0,.hs 1 0 [] 4 0 ((u).map enc_Event).length),(1,I (x5.1)),(2,I (x5.2.1)),(3,.fn 52 []),(9,I (u11)),(10,I (x5.2.2.2.1))] [⟨0,4,(u).map enc_Event⟩] 2))→Run Ffbl_E 1 Q (.code Ffbl_kc :: .lp Ffbl_kc :: .blk 6 :: K) (sT 141 [(0,.hs 1 0 [] 4 0 ((x25.2).map enc_Event).length),(1,I (x5.1)),(2,I (x5.2.1)),(3,.fn 52 []),(9,I (u11)),(10,I (x5.2.2.2.1)),(12,I (x25.1))] [⟨0,4,(x25.2).map enc_Event⟩] 2):=by
 refine fix_indP (Ffbl_lc_fin data_16 a_17 b_18 cmp_19 x5 u11) ?_
 intro self ih x25 y h hr hn
 unfold Ffbl_lc_F at h
 refine cq 7 [109] [B ((decide (x25.1 < x5.2.1)))] 50 ?_
 refine sq h (fun h=>?_) (fun h=>?_)
 · refine aq 1 ?_
   refine aq 4 ?_
   refine s_draw [0,0,0,6,14,0,0,64,224,480,1023,2047,4095] rfl (by decide +kernel) ?_
   refine dk 3 [114,113,112] [I (x25.1),.hs 1 0 [] 4 0 ((x25.2).map enc_Event).length,.fn 52 []] ?_
   obtain ⟨e26,he26,h⟩:=bS h
   refine dq [1] [] (.hp 1 0 [] 4 (0 + Int.toNat (x25.1)) 0) rfl (e_indexAddr rfl rfl rfl (ix_hsM (f:=enc_Event) (xs:=x25.2) rfl rfl rfl he26)) ?_
   refine dq [1] [] (enc_Event e26) rfl (e_ld rfl (ld_at (path:=[]) rfl rfl rfl (ra_n) (get_map (f:=enc_Event) (xs:=x25.2) he26) rfl rfl rfl)) ?_
   refine dk 3 [119,118,117] [I ((w64 (x25.1 - 1))),I (x25.1),.hs 1 0 [] 4 0 ((x25.2).map enc_Event).length] ?_
   obtain ⟨e27,he27,h⟩:=bS h
   refine dq [1] [] (.hp 1 0 [] 4 (0 + Int.toNat ((w64 (x25.1 - 1)))) 0) rfl (e_indexAddr rfl rfl rfl (ix_hsM (f:=enc_Event) (xs:=x25.2) rfl rfl rfl he27)) ?_
   refine dq [1] [] (enc_Event e27) rfl (e_ld rfl (ld_at (path:=[]) rfl rfl rfl (ra_n) (get_map (f:=enc_Event) (xs:=x25.2) he27) rfl rfl rfl)) ?_
   obtain ⟨r28,hr28,h⟩:=bS h
   refine dq [] [] (I (r28)) rfl (e_callV rfl rfl (call_P rfl rfl rfl (avS (shP rfl) (avS (shP rfl) (avN))) (Fff_F hr28) (.inr rfl) (bl_n) rfl rfl rfl)) ?_ (w_callO rfl rfl rfl rfl (avS (shP rfl) (avS (shP rfl) (avN))) (Fff_F hr28) (.inr rfl) rfl)
   refine dk 2 [124,123] [B ((!(decide (r28 < 0)))),B ((decide (r28 < 0)))] ?_
   refine de 258 rfl rfl ?_
   refine sq h (fun h=>?_) (fun h=>?_)
   · refine aq 1 ?_
     exact rf [0,1,2,3,9,10] [1] (hn _ (Option.some.inj h).symm :) (hk:=hK)
   · refine aq 1 ?_
     refine s_draw [0,0,0,0,8,0,0,64,224,480,0,0,3072,7168,16355,32739,65535,131071] rfl (by decide +kernel) ?_
     refine dk 8 [132,131,130,129,128,127,126,125] [I ((w64 (x25.1 - 1))),I (x25.1),.hs 1 0 [] 4 0 ((x25.2).map enc_Event).length,I ((w64 (x25.1 - 1))),I (x25.1),.hs 1 0 [] 4 0 ((x25.2).map enc_Event).length,I (x25.1),.hs 1 0 [] 4 0 ((x25.2).map enc_Event).length] ?_
     obtain ⟨e29,he29,h⟩:=bS h
     refine dq [1] [] (.hp 1 0 [] 4 (0 + Int.toNat ((w64 (x25.1 - 1)))) 0) rfl (e_indexAddr rfl rfl rfl (ix_hsM (f:=enc_Event) (xs:=x25.2) rfl rfl rfl he29)) ?_
     refine dq [1] [] (enc_Event e29) rfl (e_ld rfl (ld_at (path:=[]) rfl rfl rfl (ra_n) (get_map (f:=enc_Event) (xs:=x25.2) he29) rfl rfl rfl)) ?_
     refine dk 2 [136,135] [I (x25.1),.hs 1 0 [] 4 0 ((x25.2).map enc_Event).length] ?_
     obtain ⟨e30,he30,h⟩:=bS h
     refine dq [1] [] (.hp 1 0 [] 4 (0 + Int.toNat (x25.1)) 0) rfl (e_indexAddr rfl rfl rfl (ix_hsM (f:=enc_Event) (xs:=x25.2) rfl rfl rfl he30)) ?_
     refine dq [1] [] (enc_Event e30) rfl (e_ld rfl (ld_at (path:=[]) rfl rfl rfl (ra_n) (get_map (f:=enc_Event) (xs:=x25.2) he30) rfl rfl rfl)) ?_
     obtain ⟨e31,he31,h⟩:=bS h
     refine dq [1] [] (.hp 1 0 [] 4 (0 + Int.toNat (x25.1)) 0) rfl (e_indexAddr rfl rfl rfl (ix_hsM (f:=enc_Event) (xs:=x25.2) rfl rfl rfl he31)) ?_
     refine dz [1] [1] rfl (e_st rfl rfl (st_at (path:=[]) (pl:=true) (e':=enc_Event e29) (es2':=((setI x25.2 x25.1 e29)).map enc_Event) rfl (absorb_plain rfl) rfl rfl rfl (ra_n) (get_map (f:=enc_Event) (xs:=x25.2) he31) rfl rfl rfl (set_map (f:=enc_Event) (xs:=x25.2) (y:=e29)) (sr_n) 0 rfl)) ?_
     try rw [← len_setM (f:=enc_Event) (xs:=x25.2) (i:=x25.1) (z:=e29)]
     obtain ⟨e36,he36,h⟩:=bS h
     refine dq [1] [] (.hp 1 0 [] 4 (0 + Int.toNat ((w64 (x25.1 - 1)))) 0) rfl (e_indexAddr rfl rfl rfl (ix_hsM (f:=enc_Event) (xs:=(setI x25.2 x25.1 e29)) rfl rfl rfl he36)) ?_
     refine dz [1] [1] rfl (e_st rfl rfl (st_at (path:=[]) (pl:=true) (e':=enc_Event e30) (es2':=((setI (setI x25.2 x25.1 e29) (w64 (x25.1 - 1)) e30)).map enc_Event) rfl (absorb_plain rfl) rfl rfl rfl (ra_n) (get_map (f:=enc_Event) (xs:=(setI x25.2 x25.1 e29)) he36) rfl rfl rfl (set_map (f:=enc_Event) (xs:=(setI x25.2 x25.1 e29)) (y:=e30)) (sr_n) 0 rfl)) ?_
     try rw [← len_setM (f:=enc_Event) (xs:=(setI x25.2 x25.1 e29)) (i:=(w64 (x25.1 - 1))) (z:=e30)]
     refine de 546 rfl rfl ?_
     refine cq 6 [12] [I ((w64 (x25.1 + 1)))] 594 ?_
     refine s_lp ?_
     exact rf [0,1,2,3,9,10,12] [1] (ih _ _ h hr hn :)
 · refine aq 1 ?_
   exact rf [0,1,2,3,9,10] [1] (hn _ (Option.some.inj h).symm :) (hk:=hK)
theorem Ffbl_ld_run (data_16 : List Event) (a_17 : Int) (b_18 : Int) (cmp_19 : Unit) (x5 : Int × Int × Int × Int × (List Event)) (u11 : Int) {Q : St→Prop} {K : List It} (hK : noD K=true) : ∀ (x43 : Int × (List Event)) (y : (Bool × (List Event)) ⊕ ((List Event))),Ffbl_ld data_16 a_17 b_18 cmp_19 x5 u11 x43=some y→(∀ r',y=.inl r'→∀ st,Ffbl_Q (data_16,a_17,b_18,cmp_19) r' st→Q st)→(∀ u : (List Event),y=.inr u→Run Ffbl_E 1 Q K (sT 141 [(0,.hs 1 0 [] 4 0 ((u).map enc_Event).length),(1,I (x5.1)),(2,I (x5.2.1)),(3,.fn 52 []),(9,I (u11)),(10,I (x5.2.2.2.1))] [⟨0,4,(u).map enc_Event⟩] 2))→Run Ffbl_E 1 Q (.code Ffbl_kd :: .lp Ffbl_kd :: .blk 4 :: K) (sT 141 [(0,.hs 1 0 [] 4 0 ((x43.2).map enc_Event).length),(1,I (x5.1)),(2,I (x5.2.1)),(3,.fn 52 []),(9,I (u11)),(10,I (x5.2.2.2.1)),(11,I (x43.1))] [⟨0,4,(x43.2).map enc_Event⟩] 2):=by
 refine fix_indP (Ffbl_ld_fin data_16 a_17 b_18 cmp_19 x5 u11) ?_
 intro self ih x43 y h hr hn
 unfold Ffbl_ld_F at h
 refine cq 6 [69] [B ((decide (x43.1 ≥ 1)))] 34 ?_
 refine sq h (fun h=>?_) (fun h=>?_)
 · refine aq 1 ?_
   refine aq 4 ?_
   refine s_draw [0,0,0,6,14,0,0,64,224,480,1023,2047,4095] rfl (by decide +kernel) ?_
   refine dk 3 [74,73,72] [I (x43.1),.hs 1 0 [] 4 0 ((x43.2).map enc_Event).length,.fn 52 []] ?_
   obtain ⟨e44,he44,h⟩:=bS h
   refine dq [1] [] (.hp 1 0 [] 4 (0 + Int.toNat (x43.1)) 0) rfl (e_indexAddr rfl rfl rfl (ix_hsM (f:=enc_Event) (xs:=x43.2) rfl rfl rfl he44)) ?_
   refine dq [1] [] (enc_Event e44) rfl (e_ld rfl (ld_at (path:=[]) rfl rfl rfl (ra_n) (get_map (f:=enc_Event) (xs:=x43.2) he44) rfl rfl rfl)) ?_
   refine dk 3 [79,78,77] [I ((w64 (x43.1 - 1))),I (x43.1),.hs 1 0 [] 4 0 ((x43.2).map enc_Event).length] ?_
   obtain ⟨e45,he45,h⟩:=bS h
   refine dq [1] [] (.hp 1 0 [] 4 (0 + Int.toNat ((w64 (x43.1 - 1)))) 0) rfl (e_indexAddr rfl rfl rfl (ix_hsM (f:=enc_Event) (xs:=x43.2) rfl rfl rfl he45)) ?_
   refine dq [1] [] (enc_Event e45) rfl (e_ld rfl (ld_at (path:=[]) rfl rfl rfl (ra_n) (get_map (f:=enc_Event) (xs:=x43.2) he45) rfl rfl rfl)) ?_
   obtain ⟨r46,hr46,h⟩:=bS h
   refine dq [] [] (I (r46)) rfl (e_callV rfl rfl (call_P rfl rfl rfl (avS (shP rfl) (avS (shP rfl) (avN))) (Fff_F hr46) (.inr rfl) (bl_n) rfl rfl rfl)) ?_ (w_callO rfl rfl rfl rfl (avS (shP rfl) (avS (shP rfl) (avN))) (Fff_F hr46) (.inr rfl) rfl)
   refine dk 2 [84,83] [B ((!(decide (r46 < 0)))),B ((decide (r46 < 0)))] ?_
   refine de 242 rfl rfl ?_
   refine sq h (fun h=>?_) (fun h=>?_)
   · refine aq 1 ?_
     exact rf [0,1,2,3,9,10] [1] (hn _ (Option.some.inj h).symm :) (hk:=hK)
   · refine aq 1 ?_
     refine s_draw [0,0,0,0,8,0,0,64,224,480,0,0,3072,7168,16355,32739,65535,131071] rfl (by decide +kernel) ?_
     refine dk 8 [92,91,90,89,88,87,86,85] [I ((w64 (x43.1 - 1))),I (x43.1),.hs 1 0 [] 4 0 ((x43.2).map enc_Event).length,I ((w64 (x43.1 - 1))),I (x43.1),.hs 1 0 [] 4 0 ((x43.2).map enc_Event).length,I (x43.1),.hs 1 0 [] 4 0 ((x43.2).map enc_Event).length] ?_
     obtain ⟨e47,he47,h⟩:=bS h
     refine dq [1] [] (.hp 1 0 [] 4 (0 + Int.toNat ((w64 (x43.1 - 1)))) 0) rfl (e_indexAddr rfl rfl rfl (ix_hsM (f:=enc_Event) (xs:=x43.2) rfl rfl rfl he47)) ?_
     refine dq [1] [] (enc_Event e47) rfl (e_ld rfl (ld_at (path:=[]) rfl rfl rfl (ra_n) (get_map (f:=enc_Event) (xs:=x43.2) he47) rfl rfl rfl)) ?_
     refine dk 2 [96,95] [I (x43.1),.hs 1 0 [] 4 0 ((x43.2).map enc_Event).length] ?_
     obtain ⟨e48,he48,h⟩:=bS h
     refine dq [1] [] (.hp 1 0 [] 4 (0 + Int.toNat (x43.1)) 0) rfl (e_indexAddr rfl rfl rfl (ix_hsM (f:=enc_Event) (xs:=x43.2) rfl rfl rfl he48)) ?_
     refine dq [1] [] (enc_Event e48) rfl (e_ld rfl (ld_at (path:=[]) rfl rfl rfl (ra_n) (get_map (f:=enc_Event) (xs:=x43.2) he48) rfl rfl rfl)) ?_
     obtain ⟨e49,he49,h⟩:=bS h
     refine dq [1] [] (.hp 1 0 [] 4 (0 + Int.toNat (x43.1)) 0) rfl (e_indexAddr rfl rfl rfl (ix_hsM (f:=enc_Event) (xs:=x43.2) rfl rfl rfl he49)) ?_
     refine dz [1] [1] rfl (e_st rfl rfl (st_at (path:=[]) (pl:=true) (e':=enc_Event e47) (es2':=((setI x43.2 x43.1 e47)).map enc_Event) rfl (absorb_plain rfl) rfl rfl rfl (ra_n) (get_map (f:=enc_Event) (xs:=x43.2) he49) rfl rfl rfl (set_map (f:=enc_Event) (xs:=x43.2) (y:=e47)) (sr_n) 0 rfl)) ?_
     try rw [← len_setM (f:=enc_Event) (xs:=x43.2) (i:=x43.1) (z:=e47)]
     obtain ⟨e54,he54,h⟩:=bS h
     refine dq [1] [] (.hp 1 0 [] 4 (0 + Int.toNat ((w64 (x43.1 - 1)))) 0) rfl (e_indexAddr rfl rfl rfl (ix_hsM (f:=enc_Event) (xs:=(setI x43.2 x43.1 e47)) rfl rfl rfl he54)) ?_
     refine dz [1] [1] rfl (e_st rfl rfl (st_at (path:=[]) (pl:=true) (e':=enc_Event e48) (es2':=((setI (setI x43.2 x43.1 e47) (w64 (x43.1 - 1)) e48)).map enc_Event) rfl (absorb_plain rfl) rfl rfl rfl (ra_n) (get_map (f:=enc_Event) (xs:=(setI x43.2 x43.1 e47)) he54) rfl rfl rfl (set_map (f:=enc_Event) (xs:=(setI x43.2 x43.1 e47)) (y:=e48)) (sr_n) 0 rfl)) ?_
     try rw [← len_setM (f:=enc_Event) (xs:=(setI x43.2 x43.1 e47)) (i:=(w64 (x43.1 - 1))) (z:=e48)]
     refine de 530 rfl rfl ?_
     refine cq 6 [11] [I ((w64 (x43.1 - 1)))] 578 ?_
     refine s_lp ?_
     exact rf [0,1,2,3,9,10,11] [1] (ih _ _ h hr hn :)
 · refine aq 1 ?_
   exact rf [0,1,2,3,9,10] [1] (hn _ (Option.some.inj h).symm :) (hk:=hK)
theorem Ffbl_la_run (data_16 : List Event) (a_17 : Int) (b_18 : Int) (cmp_19 : Unit)  {Q : St→Prop} {K : List It} (hK : noD K=true) : ∀ (x5 : Int × Int × Int × Int × (List Event)) (y : (Bool × (List Event)) ⊕ ((List Event))),Ffbl_la data_16 a_17 b_18 cmp_19 x5=some y→(∀ r',y=.inl r'→∀ st,Ffbl_Q (data_16,a_17,b_18,cmp_19) r' st→Q st)→(∀ u : (List Event),y=.inr u→Run Ffbl_E 1 Q K (sT 141 [] [⟨0,4,(u).map enc_Event⟩] 2))→Run Ffbl_E 1 Q (.code Ffbl_ka :: .lp Ffbl_ka :: .blk 0 :: K) (sT 141 [(0,.hs 1 0 [] 4 0 ((x5.2.2.2.2).map enc_Event).length),(1,I (x5.1)),(2,I (x5.2.1)),(3,.fn 52 []),(9,I (x5.2.2.1)),(10,I (x5.2.2.2.1))] [⟨0,4,(x5.2.2.2.2).map enc_Event⟩] 2):=by
 refine fix_indP (Ffbl_la_fin data_16 a_17 b_18 cmp_19) ?_
 intro self ih x5 y h hr hn
 unfold Ffbl_la_F at h
 refine cq 6 [16] [B ((decide (x5.2.2.2.1 < 5)))] 34 ?_
 refine sq h (fun h=>?_) (fun h=>?_)
 · refine aq 1 ?_
   refine aq 4 ?_
   obtain ⟨y11,hy11,hy111,hy112⟩:=bL h
   refine s_loop rfl ?_
   refine rf [0,1,2,3,9,10] [1] (Ffbl_lb_run data_16 a_17 b_18 cmp_19 x5 rfl _ _ hy11 (fun r' e st hq=>hr r' (hy111 r' e) st hq) fun u11 hu=>?_)
   replace h:=hy112 u11 hu
   refine cq 7 [41] [B ((u11 == x5.2.1))] 50 ?_
   refine sq h (fun h=>?_) (fun h=>?_)
   · refine cq 4 [8] [B (true)] 66 ?_
     obtain ⟨g12,h⟩:=gG h
     exact s_ret rfl (hr _ (Option.some.inj h).symm _ ⟨_,fin (vs:=[B (true)]) rfl (absE (absorb_plain rfl) (absEN)) rfl (ou_1 rfl (oc_hsG (f:=enc_Event) (xs:=x5.2.2.2.2) (by simpa using g12) rfl) (ou_f (ou_f (ou_f (ou_n))))),kl_c (kl_n)⟩)
   · refine aq 1 ?_
     refine cq 8 [45] [B ((decide ((w64 (x5.2.1 - x5.1)) < 50)))] 114 ?_
     refine sq h (fun h=>?_) (fun h=>?_)
     · refine cq 4 [8] [B (false)] 130 ?_
       obtain ⟨g13,h⟩:=gG h
       exact s_ret rfl (hr _ (Option.some.inj h).symm _ ⟨_,fin (vs:=[B (false)]) rfl (absE (absorb_plain rfl) (absEN)) rfl (ou_1 rfl (oc_hsG (f:=enc_Event) (xs:=x5.2.2.2.2) (by simpa using g13) rfl) (ou_f (ou_f (ou_f (ou_n))))),kl_c (kl_n)⟩)
     · refine aq 1 ?_
       refine aq 1 ?_
       refine s_draw [0,0,0,0,8,0,0,64,224,480,0,0,3072,7168,16355,32739,65535,131071] rfl (by decide +kernel) ?_
       refine dk 8 [53,52,51,50,49,48,47,46] [I ((w64 (u11 - 1))),I (u11),.hs 1 0 [] 4 0 ((x5.2.2.2.2).map enc_Event).length,I ((w64 (u11 - 1))),I (u11),.hs 1 0 [] 4 0 ((x5.2.2.2.2).map enc_Event).length,I (u11),.hs 1 0 [] 4 0 ((x5.2.2.2.2).map enc_Event).length] ?_
       obtain ⟨e14,he14,h⟩:=bS h
       refine dq [1] [] (.hp 1 0 [] 4 (0 + Int.toNat ((w64 (u11 - 1)))) 0) rfl (e_indexAddr rfl rfl rfl (ix_hsM (f:=enc_Event) (xs:=x5.2.2.2.2) rfl rfl rfl he14)) ?_
       refine dq [1] [] (enc_Event e14) rfl (e_ld rfl (ld_at (path:=[]) rfl rfl rfl (ra_n) (get_map (f:=enc_Event) (xs:=x5.2.2.2.2) he14) rfl rfl rfl)) ?_
       refine dk 2 [57,56] [I (u11),.hs 1 0 [] 4 0 ((x5.2.2.2.2).map enc_Event).length] ?_
       obtain ⟨e15,he15,h⟩:=bS h
       refine dq [1] [] (.hp 1 0 [] 4 (0 + Int.toNat (u11)) 0) rfl (e_indexAddr rfl rfl rfl (ix_hsM (f:=enc_Event) (xs:=x5.2.2.2.2) rfl rfl rfl he15)) ?_
       refine dq [1] [] (enc_Event e15) rfl (e_ld rfl (ld_at (path:=[]) rfl rfl rfl (ra_n) (get_map (f:=enc_Event) (xs:=x5.2.2.2.2) he15) rfl rfl rfl)) ?_
       obtain ⟨e16,he16,h⟩:=bS h
       refine dq [1] [] (.hp 1 0 [] 4 (0 + Int.toNat (u11)) 0) rfl (e_indexAddr rfl rfl rfl (ix_hsM (f:=enc_Event) (xs:=x5.2.2.2.2) rfl rfl rfl he16)) ?_
       refine dz [1] [1] rfl (e_st rfl rfl (st_at (path:=[]) (pl:=true) (e':=enc_Event e14) (es2':=((setI x5.2.2.2.2 u11 e14)).map enc_Event) rfl (absorb_plain rfl) rfl rfl rfl (ra_n) (get_map (f:=enc_Event) (xs:=x5.2.2.2.2) he16) rfl rfl rfl (set_map (f:=enc_Event) (xs:=x5.2.2.2.2) (y:=e14)) (sr_n) 0 rfl)) ?_
       try rw [← len_setM (f:=enc_Event) (xs:=x5.2.2.2.2) (i:=u11) (z:=e14)]
       obtain ⟨e19,he19,h⟩:=bS h
       refine dq [1] [] (.hp 1 0 [] 4 (0 + Int.toNat ((w64 (u11 - 1)))) 0) rfl (e_indexAddr rfl rfl rfl (ix_hsM (f:=enc_Event) (xs:=(setI x5.2.2.2.2 u11 e14)) rfl rfl rfl he19)) ?_
       refine dz [1] [1] rfl (e_st rfl rfl (st_at (path:=[]) (pl:=true) (e':=enc_Event e15) (es2':=((setI (setI x5.2.2.2.2 u11 e14) (w64 (u11 - 1)) e15)).map enc_Event) rfl (absorb_plain rfl) rfl rfl rfl (ra_n) (get_map (f:=enc_Event) (xs:=(setI x5.2.2.2.2 u11 e14)) he19) rfl rfl rfl (set_map (f:=enc_Event) (xs:=(setI x5.2.2.2.2 u11 e14)) (y:=e15)) (sr_n) 0 rfl)) ?_
       try rw [← len_setM (f:=enc_Event) (xs:=(setI x5.2.2.2.2 u11 e14)) (i:=(w64 (u11 - 1))) (z:=e15)]
       refine de 402 rfl rfl ?_
       refine cq 8 [65] [B ((decide ((w64 (u11 - x5.1)) ≥ 2)))] 466 ?_
       obtain ⟨y23,hy23,hy231,hy232⟩:=bL h
       have j23 : ∀ u23,y23=.inr u23→Run Ffbl_E 1 Q (.code (cR (cR (cR (cR (cR (cL (cL (cR Ffbl_ka)))))))) :: .blk 1 :: .code (cR (cR Ffbl_ka)) :: .lp Ffbl_ka :: .blk 0 :: K) (sT 141 [(0,.hs 1 0 [] 4 0 ((u23).map enc_Event).length),(1,I (x5.1)),(2,I (x5.2.1)),(3,.fn 52 []),(9,I (u11)),(10,I (x5.2.2.2.1))] [⟨0,4,(u23).map enc_Event⟩] 2):=by
         intro u23 hu
         replace h:=hy232 u23 hu
         refine cq 7 [104] [B ((decide ((w64 (x5.2.1 - u11)) ≥ 2)))] 66 ?_
         obtain ⟨y24,hy24,hy241,hy242⟩:=bL h
         have j24 : ∀ u24,y24=.inr u24→Run Ffbl_E 1 Q (.blk 1 :: .code (cR (cR Ffbl_ka)) :: .lp Ffbl_ka :: .blk 0 :: K) (sT 141 [(0,.hs 1 0 [] 4 0 ((u24).map enc_Event).length),(1,I (x5.1)),(2,I (x5.2.1)),(3,.fn 52 []),(9,I (u11)),(10,I (x5.2.2.2.1))] [⟨0,4,(u24).map enc_Event⟩] 2):=by
           intro u24 hu
           replace h:=hy242 u24 hu
           refine cq 6 [10] [I ((w64 (x5.2.2.2.1 + 1)))] 50 ?_
           refine s_lp ?_
           exact rf [0,1,2,3,9,10] [1] (ih _ _ h hr hn :)
         have r24 : ∀ r',y24=.inl r'→∀ st,Ffbl_Q (data_16,a_17,b_18,cmp_19) r' st→Q st:=fun r' e st hq=>hr r' (hy241 r' e) st hq
         replace h:=hy24
         refine sq h (fun h=>?_) (fun h=>?_)
         · refine cq 7 [12] [I ((w64 (u11 + 1)))] 114 ?_
           obtain ⟨y42,hy42,hy421,hy422⟩:=bL h
           refine s_loop rfl ?_
           refine rf [0,1,2,3,9,10,12] [1] (Ffbl_lc_run data_16 a_17 b_18 cmp_19 x5 u11 rfl _ _ hy42 (fun r' e st hq=>r24 r' (hy421 r' e) st hq) fun u42 hu=>?_)
           replace h:=hy422 u42 hu
           exact rf [0,1,2,3,9,10] [1] (j24 _ (Option.some.inj h).symm :)
         · refine aq 1 ?_
           exact rf [0,1,2,3,9,10] [1] (j24 _ (Option.some.inj h).symm :)
       have r23 : ∀ r',y23=.inl r'→∀ st,Ffbl_Q (data_16,a_17,b_18,cmp_19) r' st→Q st:=fun r' e st hq=>hr r' (hy231 r' e) st hq
       replace h:=hy23
       refine sq h (fun h=>?_) (fun h=>?_)
       · refine cq 7 [11] [I ((w64 (u11 - 1)))] 514 ?_
         obtain ⟨y60,hy60,hy601,hy602⟩:=bL h
         refine s_loop rfl ?_
         refine rf [0,1,2,3,9,10,11] [1] (Ffbl_ld_run data_16 a_17 b_18 cmp_19 x5 u11 rfl _ _ hy60 (fun r' e st hq=>r23 r' (hy601 r' e) st hq) fun u60 hu=>?_)
         replace h:=hy602 u60 hu
         exact rf [0,1,2,3,9,10] [1] (j23 _ (Option.some.inj h).symm :)
       · refine aq 1 ?_
         exact rf [0,1,2,3,9,10] [1] (j23 _ (Option.some.inj h).symm :)
 · refine aq 1 ?_
   exact rf [] [1] (hn _ (Option.some.inj h).symm :) (hk:=hK)
theorem Ffbl_run (data_16 : List Event) (a_17 : Int) (b_18 : Int) (cmp_19 : Unit) (r : Bool × (List Event)) (h : Ffbl data_16 a_17 b_18 cmp_19=some r) : RunF Ffbl_E Tryd.f120 [true,false,false,false] 1 (Ffbl_A (data_16,a_17,b_18,cmp_19)) (Ffbl_R r):=by
 show Run _ _ (Ffbl_Q (data_16,a_17,b_18,cmp_19) r) [.code Ffbl_c] _
 refine rin (n:=141) [(0,.hs 1 0 [] 4 0 ((data_16).map enc_Event).length),(1,I (a_17)),(2,I (b_18)),(3,.fn 52 [])] [(1,some ⟨0,4,(data_16).map enc_Event⟩)] 2 (by kernel_rfl) (by kernel_rfl) (by kernel_rfl) rfl ?_
 unfold Ffbl at h
 refine cq 16 [9,10] [I ((w64 (a_17 + 1))),I (0)] 82 ?_
 obtain ⟨y61,hy61,hy611,hy612⟩:=bJ h
 refine s_loop rfl ?_
 refine rf [0,1,2,3,9,10] [1] (Ffbl_la_run data_16 a_17 b_18 cmp_19 rfl _ _ hy61 (fun r' e st hq=>by rw [hy611 r' e] at hq; exact hq) fun u61 hu=>?_)
 replace h:=hy612 u61 hu
 refine cq 4 [8] [B (false)] 18 ?_
 obtain ⟨g62,h⟩:=gG h
 obtain rfl:=Option.some.inj h
 exact s_ret rfl ⟨_,fin (vs:=[B (false)]) rfl (absE (absorb_plain rfl) (absEN)) rfl (ou_1 rfl (oc_hsG (f:=enc_Event) (xs:=u61) (by simpa using g62) rfl) (ou_f (ou_f (ou_f (ou_n))))),kl_c (kl_n)⟩
theorem Ffbl_good {G : Go.Ln.Ground} : Good Tryd.prog G 120 Ffbl_ent:=good_T (fnOf_good (gl_c Fff_good (gl_n))) agree_mk (Checked.mixed Tryd.checked) Tryd.func120 (n:=4) (m:=1) ⟨rfl,rfl,by decide⟩ (fun _=>⟨rfl,rfl⟩) (fun a r h=>Ffbl_run a.1 a.2.1 a.2.2.1 a.2.2.2 r h)
def Ffbn_A : ((List Event) × Int × Int × Int × Unit)→List V:=cA (usE 4 enc_Event) (cA I (cA I (cA I (oA (fun x : Unit=>(.fn 52 [] : V))))))
def Ffbn_R (r : Int × (List Event)) : V × List V:=(I (r.1),[.usl 4 ((r.2).map enc_Event)])
noncomputable def Ffbn_ent : Ent:=entT [true,false,false,false,false] Ffbn_A Ffbn_R fun x=>Ffbn x.1 x.2.1 x.2.2.1 x.2.2.2.1 x.2.2.2.2
theorem Ffbn_F {data_9 : List Event} {a_10 : Int} {b_11 : Int} {pivot_12 : Int} {cmp_13 : Unit} {r} (h : Ffbn data_9 a_10 b_11 pivot_12 cmp_13=some r) : (Ffbn_ent).F (Ffbn_A (data_9,a_10,b_11,pivot_12,cmp_13))=some (Ffbn_R r):=entT_F (cA_inj (usl_inj enc_Event_inj) (cA_inj I_inj (cA_inj I_inj (cA_inj I_inj (oA_inj (fn_inj0 )))))) h
noncomputable def Ffbn_c : Code:=bodyOf Tryd.f121
noncomputable abbrev Ffbn_ka : Code:=cL (cL (cL (cL (cL (cL (cL (cR (cR (cR Ffbn_c)))))))))
noncomputable abbrev Ffbn_kb : Code:=cL (cL (cL (cR (cL (cL (cL (cL (cR (cR (cR Ffbn_c))))))))))
noncomputable def Ffbn_E : Env:=mkE Tryd.prog [(52,Fff_ent)]
def Ffbn_Q (x : (List Event) × Int × Int × Int × Unit) (r : Int × (List Event)) : St→Prop:=QF Ffbn_E Tryd.f121 [true,false,false,false,false] (Ffbn_A x) (Ffbn_R r)
theorem Ffbn_lb_run (data_9 : List Event) (a_10 : Int) (b_11 : Int) (pivot_12 : Int) (cmp_13 : Unit) (x15 : Int × Int × (List Event)) {Q : St→Prop} {K : List It} (hK : noD K=true) : ∀ (x16 : Int) (y : (Int × (List Event)) ⊕ Int),Ffbn_lb data_9 a_10 b_11 pivot_12 cmp_13 x15 x16=some y→(∀ r',y=.inl r'→∀ st,Ffbn_Q (data_9,a_10,b_11,pivot_12,cmp_13) r' st→Q st)→(∀ u : Int,y=.inr u→Run Ffbn_E 1 Q K (sT 90 [(0,.hs 1 0 [] 4 0 ((x15.2.2).map enc_Event).length),(1,I (a_10)),(4,.fn 52 []),(11,I (u)),(12,I (x15.2.1))] [⟨0,4,(x15.2.2).map enc_Event⟩] 2))→Run Ffbn_E 1 Q (.code Ffbn_ka :: .lp Ffbn_ka :: .blk 2 :: K) (sT 90 [(0,.hs 1 0 [] 4 0 ((x15.2.2).map enc_Event).length),(1,I (a_10)),(4,.fn 52 []),(11,I (x16)),(12,I (x15.2.1))] [⟨0,4,(x15.2.2).map enc_Event⟩] 2):=by
 refine fix_indP (Ffbn_lb_fin data_9 a_10 b_11 pivot_12 cmp_13 x15) ?_
 intro self ih x16 y h hr hn
 unfold Ffbn_lb_F at h
 refine aq 2 ?_
 refine s_draw [0,0,3,7,15,15,15,111,239,15,15,1551,3599,8191,16383,32767,65535] rfl (by decide +kernel) ?_
 refine dk 4 [34,33,32,31] [B ((decide (x16 ≤ x15.2.1))),B ((decide (x16 ≤ x15.2.1))),I (x15.2.1),I (x16)] ?_
 obtain ⟨y17,hy17,hy171,hy172⟩:=bL h
 have j17 : ∀ u17,y17=.inr u17→Run Ffbn_E 1 Q (.code (cR (cL Ffbn_ka)) :: .code (cR Ffbn_ka) :: .lp Ffbn_ka :: .blk 2 :: K) (sT 90 [(0,.hs 1 0 [] 4 0 ((x15.2.2).map enc_Event).length),(1,I (a_10)),(4,.fn 52 []),(11,I (x16)),(12,I (x15.2.1)),(47,B (u17))] [⟨0,4,(x15.2.2).map enc_Event⟩] 2):=by
   intro u17 hu
   replace h:=hy172 u17 hu
   refine sq h (fun h=>?_) (fun h=>?_)
   · refine aq 1 ?_
     refine cq 7 [11] [I ((w64 (x16 + 1)))] 50 ?_
     refine s_lp ?_
     exact rf [0,1,4,11,12] [1] (ih _ _ h hr hn :)
   · refine aq 1 ?_
     exact rf [0,1,4,11,12] [1] (hn _ (Option.some.inj h).symm :) (hk:=hK)
 have r17 : ∀ r',y17=.inl r'→∀ st,Ffbn_Q (data_9,a_10,b_11,pivot_12,cmp_13) r' st→Q st:=fun r' e st hq=>hr r' (hy171 r' e) st hq
 replace h:=hy17
 refine sp 34 h rfl (fun h=>?_) (fun h=>?_)
 · refine dk 3 [37,36,35] [I (a_10),.hs 1 0 [] 4 0 ((x15.2.2).map enc_Event).length,.fn 52 []] ?_
   obtain ⟨e18,he18,h⟩:=bS h
   refine dy [1] [] (.hp 1 0 [] 4 (0 + Int.toNat (a_10)) 0) rfl (e_indexAddr rfl rfl rfl (ix_hsM (f:=enc_Event) (xs:=x15.2.2) rfl rfl rfl he18)) ?_
   refine dy [1] [] (enc_Event e18) rfl (e_ld rfl (ld_at (path:=[]) rfl rfl rfl (ra_n) (get_map (f:=enc_Event) (xs:=x15.2.2) he18) rfl rfl rfl)) ?_
   refine dk 2 [41,40] [I (x16),.hs 1 0 [] 4 0 ((x15.2.2).map enc_Event).length] ?_
   obtain ⟨e19,he19,h⟩:=bS h
   refine dy [1] [] (.hp 1 0 [] 4 (0 + Int.toNat (x16)) 0) rfl (e_indexAddr rfl rfl rfl (ix_hsM (f:=enc_Event) (xs:=x15.2.2) rfl rfl rfl he19)) ?_
   refine dy [1] [] (enc_Event e19) rfl (e_ld rfl (ld_at (path:=[]) rfl rfl rfl (ra_n) (get_map (f:=enc_Event) (xs:=x15.2.2) he19) rfl rfl rfl)) ?_
   obtain ⟨r20,hr20,h⟩:=bS h
   refine dy [] [] (I (r20)) rfl (e_callV rfl rfl (call_P rfl rfl rfl (avS (shP rfl) (avS (shP rfl) (avN))) (Fff_F hr20) (.inr rfl) (bl_n) rfl rfl rfl)) ?_ (w_callO rfl rfl rfl rfl (avS (shP rfl) (avS (shP rfl) (avN))) (Fff_F hr20) (.inr rfl) rfl)
   refine dk 3 [47,46,45] [B ((!(decide (r20 < 0)))),B ((!(decide (r20 < 0)))),B ((decide (r20 < 0)))] ?_
   refine de 274 rfl rfl ?_
   exact rf [0,1,4,11,12,47] [1] (j17 _ (Option.some.inj h).symm :)
 · refine dk 13 [47,46,45,44,43,42,41,40,39,38,37,36,35] [B (false),.und,.und,.und,.und,.und,.und,.und,.und,.und,.und,.und,.und] ?_
   refine de 274 rfl rfl ?_
   exact rf [0,1,4,11,12,47] [1] (j17 _ (Option.some.inj h).symm :)
theorem Ffbn_lc_run (data_9 : List Event) (a_10 : Int) (b_11 : Int) (pivot_12 : Int) (cmp_13 : Unit) (u21 : Int) (x15 : Int × Int × (List Event)) {Q : St→Prop} {K : List It} (hK : noD K=true) : ∀ (x22 : Int) (y : (Int × (List Event)) ⊕ Int),Ffbn_lc data_9 a_10 b_11 pivot_12 cmp_13 u21 x15 x22=some y→(∀ r',y=.inl r'→∀ st,Ffbn_Q (data_9,a_10,b_11,pivot_12,cmp_13) r' st→Q st)→(∀ u : Int,y=.inr u→Run Ffbn_E 1 Q K (sT 90 [(0,.hs 1 0 [] 4 0 ((x15.2.2).map enc_Event).length),(1,I (a_10)),(4,.fn 52 []),(11,I (u21)),(12,I (u))] [⟨0,4,(x15.2.2).map enc_Event⟩] 2))→Run Ffbn_E 1 Q (.code Ffbn_kb :: .lp Ffbn_kb :: .blk 4 :: K) (sT 90 [(0,.hs 1 0 [] 4 0 ((x15.2.2).map enc_Event).length),(1,I (a_10)),(4,.fn 52 []),(11,I (u21)),(12,I (x22))] [⟨0,4,(x15.2.2).map enc_Event⟩] 2):=by
 refine fix_indP (Ffbn_lc_fin data_9 a_10 b_11 pivot_12 cmp_13 u21 x15) ?_
 intro self ih x22 y h hr hn
 unfold Ffbn_lc_F at h
 refine aq 2 ?_
 refine s_draw [0,0,3,7,15,15,15,111,239,15,15,1551,3599,8191,16383,32767] rfl (by decide +kernel) ?_
 refine dk 4 [53,52,51,50] [B ((decide (u21 ≤ x22))),B ((decide (u21 ≤ x22))),I (x22),I (u21)] ?_
 obtain ⟨y23,hy23,hy231,hy232⟩:=bL h
 have j23 : ∀ u23,y23=.inr u23→Run Ffbn_E 1 Q (.code (cR (cL Ffbn_kb)) :: .code (cR Ffbn_kb) :: .lp Ffbn_kb :: .blk 4 :: K) (sT 90 [(0,.hs 1 0 [] 4 0 ((x15.2.2).map enc_Event).length),(1,I (a_10)),(4,.fn 52 []),(11,I (u21)),(12,I (x22)),(65,B (u23))] [⟨0,4,(x15.2.2).map enc_Event⟩] 2):=by
   intro u23 hu
   replace h:=hy232 u23 hu
   refine sq h (fun h=>?_) (fun h=>?_)
   · refine aq 1 ?_
     refine cq 7 [12] [I ((w64 (x22 - 1)))] 50 ?_
     refine s_lp ?_
     exact rf [0,1,4,11,12] [1] (ih _ _ h hr hn :)
   · refine aq 1 ?_
     exact rf [0,1,4,11,12] [1] (hn _ (Option.some.inj h).symm :) (hk:=hK)
 have r23 : ∀ r',y23=.inl r'→∀ st,Ffbn_Q (data_9,a_10,b_11,pivot_12,cmp_13) r' st→Q st:=fun r' e st hq=>hr r' (hy231 r' e) st hq
 replace h:=hy23
 refine sp 53 h rfl (fun h=>?_) (fun h=>?_)
 · refine dk 3 [56,55,54] [I (a_10),.hs 1 0 [] 4 0 ((x15.2.2).map enc_Event).length,.fn 52 []] ?_
   obtain ⟨e24,he24,h⟩:=bS h
   refine dy [1] [] (.hp 1 0 [] 4 (0 + Int.toNat (a_10)) 0) rfl (e_indexAddr rfl rfl rfl (ix_hsM (f:=enc_Event) (xs:=x15.2.2) rfl rfl rfl he24)) ?_
   refine dy [1] [] (enc_Event e24) rfl (e_ld rfl (ld_at (path:=[]) rfl rfl rfl (ra_n) (get_map (f:=enc_Event) (xs:=x15.2.2) he24) rfl rfl rfl)) ?_
   refine dk 2 [60,59] [I (x22),.hs 1 0 [] 4 0 ((x15.2.2).map enc_Event).length] ?_
   obtain ⟨e25,he25,h⟩:=bS h
   refine dy [1] [] (.hp 1 0 [] 4 (0 + Int.toNat (x22)) 0) rfl (e_indexAddr rfl rfl rfl (ix_hsM (f:=enc_Event) (xs:=x15.2.2) rfl rfl rfl he25)) ?_
   refine dy [1] [] (enc_Event e25) rfl (e_ld rfl (ld_at (path:=[]) rfl rfl rfl (ra_n) (get_map (f:=enc_Event) (xs:=x15.2.2) he25) rfl rfl rfl)) ?_
   obtain ⟨r26,hr26,h⟩:=bS h
   refine dy [] [] (I (r26)) rfl (e_callV rfl rfl (call_P rfl rfl rfl (avS (shP rfl) (avS (shP rfl) (avN))) (Fff_F hr26) (.inr rfl) (bl_n) rfl rfl rfl)) ?_ (w_callO rfl rfl rfl rfl (avS (shP rfl) (avS (shP rfl) (avN))) (Fff_F hr26) (.inr rfl) rfl)
   refine dk 2 [65,64] [B ((decide (r26 < 0))),B ((decide (r26 < 0)))] ?_
   refine de 258 rfl rfl ?_
   exact rf [0,1,4,11,12,65] [1] (j23 _ (Option.some.inj h).symm :)
 · refine dk 12 [65,64,63,62,61,60,59,58,57,56,55,54] [B (false),.und,.und,.und,.und,.und,.und,.und,.und,.und,.und,.und] ?_
   refine de 258 rfl rfl ?_
   exact rf [0,1,4,11,12,65] [1] (j23 _ (Option.some.inj h).symm :)
theorem Ffbn_la_run (data_9 : List Event) (a_10 : Int) (b_11 : Int) (pivot_12 : Int) (cmp_13 : Unit)  {Q : St→Prop} {K : List It} (hK : noD K=true) : ∀ (x15 : Int × Int × (List Event)) (y : (Int × (List Event)) ⊕ (Int × (List Event))),Ffbn_la data_9 a_10 b_11 pivot_12 cmp_13 x15=some y→(∀ r',y=.inl r'→∀ st,Ffbn_Q (data_9,a_10,b_11,pivot_12,cmp_13) r' st→Q st)→(∀ u : Int × (List Event),y=.inr u→Run Ffbn_E 1 Q K (sT 90 [(11,I (u.1))] [⟨0,4,(u.2).map enc_Event⟩] 2))→Run Ffbn_E 1 Q (.code (cL (cL (cL (cR (cR (cR Ffbn_c)))))) :: .lp (cL (cL (cL (cR (cR (cR Ffbn_c)))))) :: .blk 0 :: K) (sT 90 [(0,.hs 1 0 [] 4 0 ((x15.2.2).map enc_Event).length),(1,I (a_10)),(4,.fn 52 []),(11,I (x15.1)),(12,I (x15.2.1))] [⟨0,4,(x15.2.2).map enc_Event⟩] 2):=by
 refine fix_indP (Ffbn_la_fin data_9 a_10 b_11 pivot_12 cmp_13) ?_
 intro self ih x15 y h hr hn
 unfold Ffbn_la_F at h
 refine aq 3 ?_
 obtain ⟨y21,hy21,hy211,hy212⟩:=bL h
 refine s_loop rfl ?_
 refine rf [0,1,4,11,12] [1] (Ffbn_lb_run data_9 a_10 b_11 pivot_12 cmp_13 x15 rfl _ _ hy21 (fun r' e st hq=>hr r' (hy211 r' e) st hq) fun u21 hu=>?_)
 replace h:=hy212 u21 hu
 refine aq 2 ?_
 obtain ⟨y27,hy27,hy271,hy272⟩:=bL h
 refine s_loop rfl ?_
 refine rf [0,1,4,11,12] [1] (Ffbn_lc_run data_9 a_10 b_11 pivot_12 cmp_13 u21 x15 rfl _ _ hy27 (fun r' e st hq=>hr r' (hy271 r' e) st hq) fun u27 hu=>?_)
 replace h:=hy272 u27 hu
 refine cq 7 [70] [B ((decide (u21 > u27)))] 50 ?_
 refine sq h (fun h=>?_) (fun h=>?_)
 · refine aq 1 ?_
   exact rf [11] [1] (hn _ (Option.some.inj h).symm :) (hk:=hK)
 · refine aq 1 ?_
   refine aq 1 ?_
   refine s_draw [0,0,0,0,0,0,48,112,0,0,768,1792,4083,8179,16383,32767] rfl (by decide +kernel) ?_
   refine dk 6 [76,75,74,73,72,71] [I (u27),.hs 1 0 [] 4 0 ((x15.2.2).map enc_Event).length,I (u27),.hs 1 0 [] 4 0 ((x15.2.2).map enc_Event).length,I (u21),.hs 1 0 [] 4 0 ((x15.2.2).map enc_Event).length] ?_
   obtain ⟨e28,he28,h⟩:=bS h
   refine dq [1] [] (.hp 1 0 [] 4 (0 + Int.toNat (u27)) 0) rfl (e_indexAddr rfl rfl rfl (ix_hsM (f:=enc_Event) (xs:=x15.2.2) rfl rfl rfl he28)) ?_
   refine dq [1] [] (enc_Event e28) rfl (e_ld rfl (ld_at (path:=[]) rfl rfl rfl (ra_n) (get_map (f:=enc_Event) (xs:=x15.2.2) he28) rfl rfl rfl)) ?_
   refine dk 2 [80,79] [I (u21),.hs 1 0 [] 4 0 ((x15.2.2).map enc_Event).length] ?_
   obtain ⟨e29,he29,h⟩:=bS h
   refine dq [1] [] (.hp 1 0 [] 4 (0 + Int.toNat (u21)) 0) rfl (e_indexAddr rfl rfl rfl (ix_hsM (f:=enc_Event) (xs:=x15.2.2) rfl rfl rfl he29)) ?_
   refine dq [1] [] (enc_Event e29) rfl (e_ld rfl (ld_at (path:=[]) rfl rfl rfl (ra_n) (get_map (f:=enc_Event) (xs:=x15.2.2) he29) rfl rfl rfl)) ?_
   obtain ⟨e30,he30,h⟩:=bS h
   refine dq [1] [] (.hp 1 0 [] 4 (0 + Int.toNat (u21)) 0) rfl (e_indexAddr rfl rfl rfl (ix_hsM (f:=enc_Event) (xs:=x15.2.2) rfl rfl rfl he30)) ?_
   refine dz [1] [1] rfl (e_st rfl rfl (st_at (path:=[]) (pl:=true) (e':=enc_Event e28) (es2':=((setI x15.2.2 u21 e28)).map enc_Event) rfl (absorb_plain rfl) rfl rfl rfl (ra_n) (get_map (f:=enc_Event) (xs:=x15.2.2) he30) rfl rfl rfl (set_map (f:=enc_Event) (xs:=x15.2.2) (y:=e28)) (sr_n) 0 rfl)) ?_
   try rw [← len_setM (f:=enc_Event) (xs:=x15.2.2) (i:=u21) (z:=e28)]
   obtain ⟨e33,he33,h⟩:=bS h
   refine dq [1] [] (.hp 1 0 [] 4 (0 + Int.toNat (u27)) 0) rfl (e_indexAddr rfl rfl rfl (ix_hsM (f:=enc_Event) (xs:=(setI x15.2.2 u21 e28)) rfl rfl rfl he33)) ?_
   refine dz [1] [1] rfl (e_st rfl rfl (st_at (path:=[]) (pl:=true) (e':=enc_Event e29) (es2':=((setI (setI x15.2.2 u21 e28) u27 e29)).map enc_Event) rfl (absorb_plain rfl) rfl rfl rfl (ra_n) (get_map (f:=enc_Event) (xs:=(setI x15.2.2 u21 e28)) he33) rfl rfl rfl (set_map (f:=enc_Event) (xs:=(setI x15.2.2 u21 e28)) (y:=e29)) (sr_n) 0 rfl)) ?_
   try rw [← len_setM (f:=enc_Event) (xs:=(setI x15.2.2 u21 e28)) (i:=u27) (z:=e29)]
   refine de 306 rfl rfl ?_
   refine cq 12 [11,12] [I ((w64 (u21 + 1))),I ((w64 (u27 - 1)))] 402 ?_
   refine s_lp ?_
   exact rf [0,1,4,11,12] [1] (ih _ _ h hr hn :)
theorem Ffbn_run (data_9 : List Event) (a_10 : Int) (b_11 : Int) (pivot_12 : Int) (cmp_13 : Unit) (r : Int × (List Event)) (h : Ffbn data_9 a_10 b_11 pivot_12 cmp_13=some r) : RunF Ffbn_E Tryd.f121 [true,false,false,false,false] 1 (Ffbn_A (data_9,a_10,b_11,pivot_12,cmp_13)) (Ffbn_R r):=by
 show Run _ _ (Ffbn_Q (data_9,a_10,b_11,pivot_12,cmp_13) r) [.code Ffbn_c] _
 refine rin (n:=90) [(0,.hs 1 0 [] 4 0 ((data_9).map enc_Event).length),(1,I (a_10)),(2,I (b_11)),(3,I (pivot_12)),(4,.fn 52 [])] [(1,some ⟨0,4,(data_9).map enc_Event⟩)] 2 (by kernel_rfl) (by kernel_rfl) (by kernel_rfl) rfl ?_
 unfold Ffbn at h
 refine cq 5 [] [] 18 ?_
 refine s_draw [0,0,0,0,0,0,48,112,0,0,768,1792,4083,8179,16383,32767] rfl (by decide +kernel) ?_
 refine dk 6 [18,17,16,15,14,13] [I (pivot_12),.hs 1 0 [] 4 0 ((data_9).map enc_Event).length,I (pivot_12),.hs 1 0 [] 4 0 ((data_9).map enc_Event).length,I (a_10),.hs 1 0 [] 4 0 ((data_9).map enc_Event).length] ?_
 obtain ⟨e6,he6,h⟩:=bS h
 refine dq [1] [] (.hp 1 0 [] 4 (0 + Int.toNat (pivot_12)) 0) rfl (e_indexAddr rfl rfl rfl (ix_hsM (f:=enc_Event) (xs:=data_9) rfl rfl rfl he6)) ?_
 refine dq [1] [] (enc_Event e6) rfl (e_ld rfl (ld_at (path:=[]) rfl rfl rfl (ra_n) (get_map (f:=enc_Event) (xs:=data_9) he6) rfl rfl rfl)) ?_
 refine dk 2 [22,21] [I (a_10),.hs 1 0 [] 4 0 ((data_9).map enc_Event).length] ?_
 obtain ⟨e7,he7,h⟩:=bS h
 refine dq [1] [] (.hp 1 0 [] 4 (0 + Int.toNat (a_10)) 0) rfl (e_indexAddr rfl rfl rfl (ix_hsM (f:=enc_Event) (xs:=data_9) rfl rfl rfl he7)) ?_
 refine dq [1] [] (enc_Event e7) rfl (e_ld rfl (ld_at (path:=[]) rfl rfl rfl (ra_n) (get_map (f:=enc_Event) (xs:=data_9) he7) rfl rfl rfl)) ?_
 obtain ⟨e8,he8,h⟩:=bS h
 refine dq [1] [] (.hp 1 0 [] 4 (0 + Int.toNat (a_10)) 0) rfl (e_indexAddr rfl rfl rfl (ix_hsM (f:=enc_Event) (xs:=data_9) rfl rfl rfl he8)) ?_
 refine dz [1] [1] rfl (e_st rfl rfl (st_at (path:=[]) (pl:=true) (e':=enc_Event e6) (es2':=((setI data_9 a_10 e6)).map enc_Event) rfl (absorb_plain rfl) rfl rfl rfl (ra_n) (get_map (f:=enc_Event) (xs:=data_9) he8) rfl rfl rfl (set_map (f:=enc_Event) (xs:=data_9) (y:=e6)) (sr_n) 0 rfl)) ?_
 try rw [← len_setM (f:=enc_Event) (xs:=data_9) (i:=a_10) (z:=e6)]
 obtain ⟨e11,he11,h⟩:=bS h
 refine dq [1] [] (.hp 1 0 [] 4 (0 + Int.toNat (pivot_12)) 0) rfl (e_indexAddr rfl rfl rfl (ix_hsM (f:=enc_Event) (xs:=(setI data_9 a_10 e6)) rfl rfl rfl he11)) ?_
 refine dz [1] [1] rfl (e_st rfl rfl (st_at (path:=[]) (pl:=true) (e':=enc_Event e7) (es2':=((setI (setI data_9 a_10 e6) pivot_12 e7)).map enc_Event) rfl (absorb_plain rfl) rfl rfl rfl (ra_n) (get_map (f:=enc_Event) (xs:=(setI data_9 a_10 e6)) he11) rfl rfl rfl (set_map (f:=enc_Event) (xs:=(setI data_9 a_10 e6)) (y:=e7)) (sr_n) 0 rfl)) ?_
 try rw [← len_setM (f:=enc_Event) (xs:=(setI data_9 a_10 e6)) (i:=pivot_12) (z:=e7)]
 refine de 274 rfl rfl ?_
 refine cq 11 [11,12] [I ((w64 (a_10 + 1))),I ((w64 (b_11 - 1)))] 370 ?_
 obtain ⟨y37,hy37,hy371,hy372⟩:=bJ h
 refine s_loop rfl ?_
 refine rf [0,1,4,11,12] [1] (Ffbn_la_run data_9 a_10 b_11 pivot_12 cmp_13 rfl _ _ hy37 (fun r' e st hq=>by rw [hy371 r' e] at hq; exact hq) fun u37 hu=>?_)
 replace h:=hy372 u37 hu
 refine cq 5 [10] [I (u37.1)] 34 ?_
 obtain ⟨g38,h⟩:=gG h
 obtain rfl:=Option.some.inj h
 exact s_ret rfl ⟨_,fin (vs:=[I (u37.1)]) rfl (absE (absorb_plain rfl) (absEN)) rfl (ou_1 rfl (oc_hsG (f:=enc_Event) (xs:=u37.2) (by simpa using g38) rfl) (ou_f (ou_f (ou_f (ou_f (ou_n)))))),kl_c (kl_n)⟩
theorem Ffbn_good {G : Go.Ln.Ground} : Good Tryd.prog G 121 Ffbn_ent:=good_T (fnOf_good (gl_c Fff_good (gl_n))) agree_mk (Checked.mixed Tryd.checked) Tryd.func121 (n:=5) (m:=1) ⟨rfl,rfl,by decide⟩ (fun _=>⟨rfl,rfl⟩) (fun a r h=>Ffbn_run a.1 a.2.1 a.2.2.1 a.2.2.2.1 a.2.2.2.2 r h)
def Ffbm_A : ((List Event) × Int × Int × Int × Unit)→List V:=cA (usE 4 enc_Event) (cA I (cA I (cA I (oA (fun x : Unit=>(.fn 52 [] : V))))))
def Ffbm_R (r : Int × Bool × (List Event)) : V × List V:=(.tup [I (r.1),B (r.2.1)],[.usl 4 ((r.2.2).map enc_Event)])
noncomputable def Ffbm_ent : Ent:=entT [true,false,false,false,false] Ffbm_A Ffbm_R fun x=>Ffbm x.1 x.2.1 x.2.2.1 x.2.2.2.1 x.2.2.2.2
theorem Ffbm_F {data_9 : List Event} {a_10 : Int} {b_11 : Int} {pivot_12 : Int} {cmp_13 : Unit} {r} (h : Ffbm data_9 a_10 b_11 pivot_12 cmp_13=some r) : (Ffbm_ent).F (Ffbm_A (data_9,a_10,b_11,pivot_12,cmp_13))=some (Ffbm_R r):=entT_F (cA_inj (usl_inj enc_Event_inj) (cA_inj I_inj (cA_inj I_inj (cA_inj I_inj (oA_inj (fn_inj0 )))))) h
noncomputable def Ffbm_c : Code:=bodyOf Tryd.f122
noncomputable abbrev Ffbm_ka : Code:=cL (cL (cL (cR (cR (cR Ffbm_c)))))
noncomputable abbrev Ffbm_kb : Code:=cL (cL (cL (cR (cR (cR (cR Ffbm_c))))))
noncomputable abbrev Ffbm_kc : Code:=cL (cL (cL (cR (cR (cR (cR (cR (cR (cR (cR (cR Ffbm_c)))))))))))
noncomputable abbrev Ffbm_kd : Code:=cL (cL (cL (cL Ffbm_kc)))
noncomputable abbrev Ffbm_ke : Code:=cL (cL (cL (cR (cL Ffbm_kc))))
noncomputable def Ffbm_E : Env:=mkE Tryd.prog [(52,Fff_ent)]
def Ffbm_Q (x : (List Event) × Int × Int × Int × Unit) (r : Int × Bool × (List Event)) : St→Prop:=QF Ffbm_E Tryd.f122 [true,false,false,false,false] (Ffbm_A x) (Ffbm_R r)
theorem Ffbm_la_run (data_9 : List Event) (a_10 : Int) (b_11 : Int) (pivot_12 : Int) (cmp_13 : Unit) (e6 : Event) (e7 : Event) {Q : St→Prop} {K : List It} (hK : noD K=true) : ∀ (x15 : Int) (y : (Int × Bool × (List Event)) ⊕ (Int × Int)),Ffbm_la data_9 a_10 b_11 pivot_12 cmp_13 e6 e7 x15=some y→(∀ r',y=.inl r'→∀ st,Ffbm_Q (data_9,a_10,b_11,pivot_12,cmp_13) r' st→Q st)→(∀ u : Int × Int,y=.inr u→Run Ffbm_E 1 Q K (sT 178 [(0,.hs 1 0 [] 4 0 (((setI (setI data_9 a_10 e6) pivot_12 e7)).map enc_Event).length),(1,I (a_10)),(4,.fn 52 []),(12,I (u.1)),(13,I (u.2))] [⟨0,4,((setI (setI data_9 a_10 e6) pivot_12 e7)).map enc_Event⟩] 2))→Run Ffbm_E 1 Q (.code Ffbm_ka :: .lp Ffbm_ka :: .blk 0 :: K) (sT 178 [(0,.hs 1 0 [] 4 0 (((setI (setI data_9 a_10 e6) pivot_12 e7)).map enc_Event).length),(1,I (a_10)),(4,.fn 52 []),(12,I (x15)),(13,I ((w64 (b_11 - 1))))] [⟨0,4,((setI (setI data_9 a_10 e6) pivot_12 e7)).map enc_Event⟩] 2):=by
 refine fix_indP (Ffbm_la_fin data_9 a_10 b_11 pivot_12 cmp_13 e6 e7) ?_
 intro self ih x15 y h hr hn
 unfold Ffbm_la_F at h
 refine aq 2 ?_
 refine s_draw [0,0,3,7,15,15,15,111,239,15,15,1551,3599,8191,16383,32767] rfl (by decide +kernel) ?_
 refine dk 4 [35,34,33,32] [B ((decide (x15 ≤ (w64 (b_11 - 1))))),B ((decide (x15 ≤ (w64 (b_11 - 1))))),I ((w64 (b_11 - 1))),I (x15)] ?_
 obtain ⟨y16,hy16,hy161,hy162⟩:=bL h
 have j16 : ∀ u16,y16=.inr u16→Run Ffbm_E 1 Q (.code (cR (cL Ffbm_ka)) :: .code (cR Ffbm_ka) :: .lp Ffbm_ka :: .blk 0 :: K) (sT 178 [(0,.hs 1 0 [] 4 0 (((setI (setI data_9 a_10 e6) pivot_12 e7)).map enc_Event).length),(1,I (a_10)),(4,.fn 52 []),(12,I (x15)),(13,I ((w64 (b_11 - 1)))),(47,B (u16))] [⟨0,4,((setI (setI data_9 a_10 e6) pivot_12 e7)).map enc_Event⟩] 2):=by
   intro u16 hu
   replace h:=hy162 u16 hu
   refine sq h (fun h=>?_) (fun h=>?_)
   · refine aq 1 ?_
     refine cq 7 [12] [I ((w64 (x15 + 1)))] 50 ?_
     refine s_lp ?_
     exact rf [0,1,4,12,13] [1] (ih _ _ h hr hn :)
   · refine aq 1 ?_
     exact rf [0,1,4,12,13] [1] (hn _ (Option.some.inj h).symm :) (hk:=hK)
 have r16 : ∀ r',y16=.inl r'→∀ st,Ffbm_Q (data_9,a_10,b_11,pivot_12,cmp_13) r' st→Q st:=fun r' e st hq=>hr r' (hy161 r' e) st hq
 replace h:=hy16
 refine sp 35 h rfl (fun h=>?_) (fun h=>?_)
 · refine dk 3 [38,37,36] [I (x15),.hs 1 0 [] 4 0 (((setI (setI data_9 a_10 e6) pivot_12 e7)).map enc_Event).length,.fn 52 []] ?_
   obtain ⟨e17,he17,h⟩:=bS h
   refine dy [1] [] (.hp 1 0 [] 4 (0 + Int.toNat (x15)) 0) rfl (e_indexAddr rfl rfl rfl (ix_hsM (f:=enc_Event) (xs:=(setI (setI data_9 a_10 e6) pivot_12 e7)) rfl rfl rfl he17)) ?_
   refine dy [1] [] (enc_Event e17) rfl (e_ld rfl (ld_at (path:=[]) rfl rfl rfl (ra_n) (get_map (f:=enc_Event) (xs:=(setI (setI data_9 a_10 e6) pivot_12 e7)) he17) rfl rfl rfl)) ?_
   refine dk 2 [42,41] [I (a_10),.hs 1 0 [] 4 0 (((setI (setI data_9 a_10 e6) pivot_12 e7)).map enc_Event).length] ?_
   obtain ⟨e18,he18,h⟩:=bS h
   refine dy [1] [] (.hp 1 0 [] 4 (0 + Int.toNat (a_10)) 0) rfl (e_indexAddr rfl rfl rfl (ix_hsM (f:=enc_Event) (xs:=(setI (setI data_9 a_10 e6) pivot_12 e7)) rfl rfl rfl he18)) ?_
   refine dy [1] [] (enc_Event e18) rfl (e_ld rfl (ld_at (path:=[]) rfl rfl rfl (ra_n) (get_map (f:=enc_Event) (xs:=(setI (setI data_9 a_10 e6) pivot_12 e7)) he18) rfl rfl rfl)) ?_
   obtain ⟨r19,hr19,h⟩:=bS h
   refine dy [] [] (I (r19)) rfl (e_callV rfl rfl (call_P rfl rfl rfl (avS (shP rfl) (avS (shP rfl) (avN))) (Fff_F hr19) (.inr rfl) (bl_n) rfl rfl rfl)) ?_ (w_callO rfl rfl rfl rfl (avS (shP rfl) (avS (shP rfl) (avN))) (Fff_F hr19) (.inr rfl) rfl)
   refine dk 2 [47,46] [B ((decide (r19 < 0))),B ((decide (r19 < 0)))] ?_
   refine de 258 rfl rfl ?_
   exact rf [0,1,4,12,13,47] [1] (j16 _ (Option.some.inj h).symm :)
 · refine dk 12 [47,46,45,44,43,42,41,40,39,38,37,36] [B (false),.und,.und,.und,.und,.und,.und,.und,.und,.und,.und,.und] ?_
   refine de 258 rfl rfl ?_
   exact rf [0,1,4,12,13,47] [1] (j16 _ (Option.some.inj h).symm :)
theorem Ffbm_lb_run (data_9 : List Event) (a_10 : Int) (b_11 : Int) (pivot_12 : Int) (cmp_13 : Unit) (u20 : Int × Int) (e6 : Event) (e7 : Event) {Q : St→Prop} {K : List It} (hK : noD K=true) : ∀ (x21 : Int) (y : (Int × Bool × (List Event)) ⊕ Int),Ffbm_lb data_9 a_10 b_11 pivot_12 cmp_13 u20 e6 e7 x21=some y→(∀ r',y=.inl r'→∀ st,Ffbm_Q (data_9,a_10,b_11,pivot_12,cmp_13) r' st→Q st)→(∀ u : Int,y=.inr u→Run Ffbm_E 1 Q K (sT 178 [(0,.hs 1 0 [] 4 0 (((setI (setI data_9 a_10 e6) pivot_12 e7)).map enc_Event).length),(1,I (a_10)),(4,.fn 52 []),(12,I (u20.1)),(13,I (u))] [⟨0,4,((setI (setI data_9 a_10 e6) pivot_12 e7)).map enc_Event⟩] 2))→Run Ffbm_E 1 Q (.code Ffbm_kb :: .lp Ffbm_kb :: .blk 2 :: K) (sT 178 [(0,.hs 1 0 [] 4 0 (((setI (setI data_9 a_10 e6) pivot_12 e7)).map enc_Event).length),(1,I (a_10)),(4,.fn 52 []),(12,I (u20.1)),(13,I (x21))] [⟨0,4,((setI (setI data_9 a_10 e6) pivot_12 e7)).map enc_Event⟩] 2):=by
 refine fix_indP (Ffbm_lb_fin data_9 a_10 b_11 pivot_12 cmp_13 u20 e6 e7) ?_
 intro self ih x21 y h hr hn
 unfold Ffbm_lb_F at h
 refine aq 2 ?_
 refine s_draw [0,0,3,7,15,15,15,111,239,15,15,1551,3599,8191,16383,32767,65535] rfl (by decide +kernel) ?_
 refine dk 4 [53,52,51,50] [B ((decide (u20.1 ≤ x21))),B ((decide (u20.1 ≤ x21))),I (x21),I (u20.1)] ?_
 obtain ⟨y22,hy22,hy221,hy222⟩:=bL h
 have j22 : ∀ u22,y22=.inr u22→Run Ffbm_E 1 Q (.code (cR (cL Ffbm_kb)) :: .code (cR Ffbm_kb) :: .lp Ffbm_kb :: .blk 2 :: K) (sT 178 [(0,.hs 1 0 [] 4 0 (((setI (setI data_9 a_10 e6) pivot_12 e7)).map enc_Event).length),(1,I (a_10)),(4,.fn 52 []),(12,I (u20.1)),(13,I (x21)),(66,B (u22))] [⟨0,4,((setI (setI data_9 a_10 e6) pivot_12 e7)).map enc_Event⟩] 2):=by
   intro u22 hu
   replace h:=hy222 u22 hu
   refine sq h (fun h=>?_) (fun h=>?_)
   · refine aq 1 ?_
     refine cq 7 [13] [I ((w64 (x21 - 1)))] 50 ?_
     refine s_lp ?_
     exact rf [0,1,4,12,13] [1] (ih _ _ h hr hn :)
   · refine aq 1 ?_
     exact rf [0,1,4,12,13] [1] (hn _ (Option.some.inj h).symm :) (hk:=hK)
 have r22 : ∀ r',y22=.inl r'→∀ st,Ffbm_Q (data_9,a_10,b_11,pivot_12,cmp_13) r' st→Q st:=fun r' e st hq=>hr r' (hy221 r' e) st hq
 replace h:=hy22
 refine sp 53 h rfl (fun h=>?_) (fun h=>?_)
 · refine dk 3 [56,55,54] [I (x21),.hs 1 0 [] 4 0 (((setI (setI data_9 a_10 e6) pivot_12 e7)).map enc_Event).length,.fn 52 []] ?_
   obtain ⟨e23,he23,h⟩:=bS h
   refine dy [1] [] (.hp 1 0 [] 4 (0 + Int.toNat (x21)) 0) rfl (e_indexAddr rfl rfl rfl (ix_hsM (f:=enc_Event) (xs:=(setI (setI data_9 a_10 e6) pivot_12 e7)) rfl rfl rfl he23)) ?_
   refine dy [1] [] (enc_Event e23) rfl (e_ld rfl (ld_at (path:=[]) rfl rfl rfl (ra_n) (get_map (f:=enc_Event) (xs:=(setI (setI data_9 a_10 e6) pivot_12 e7)) he23) rfl rfl rfl)) ?_
   refine dk 2 [60,59] [I (a_10),.hs 1 0 [] 4 0 (((setI (setI data_9 a_10 e6) pivot_12 e7)).map enc_Event).length] ?_
   obtain ⟨e24,he24,h⟩:=bS h
   refine dy [1] [] (.hp 1 0 [] 4 (0 + Int.toNat (a_10)) 0) rfl (e_indexAddr rfl rfl rfl (ix_hsM (f:=enc_Event) (xs:=(setI (setI data_9 a_10 e6) pivot_12 e7)) rfl rfl rfl he24)) ?_
   refine dy [1] [] (enc_Event e24) rfl (e_ld rfl (ld_at (path:=[]) rfl rfl rfl (ra_n) (get_map (f:=enc_Event) (xs:=(setI (setI data_9 a_10 e6) pivot_12 e7)) he24) rfl rfl rfl)) ?_
   obtain ⟨r25,hr25,h⟩:=bS h
   refine dy [] [] (I (r25)) rfl (e_callV rfl rfl (call_P rfl rfl rfl (avS (shP rfl) (avS (shP rfl) (avN))) (Fff_F hr25) (.inr rfl) (bl_n) rfl rfl rfl)) ?_ (w_callO rfl rfl rfl rfl (avS (shP rfl) (avS (shP rfl) (avN))) (Fff_F hr25) (.inr rfl) rfl)
   refine dk 3 [66,65,64] [B ((!(decide (r25 < 0)))),B ((!(decide (r25 < 0)))),B ((decide (r25 < 0)))] ?_
   refine de 274 rfl rfl ?_
   exact rf [0,1,4,12,13,66] [1] (j22 _ (Option.some.inj h).symm :)
 · refine dk 13 [66,65,64,63,62,61,60,59,58,57,56,55,54] [B (false),.und,.und,.und,.und,.und,.und,.und,.und,.und,.und,.und,.und] ?_
   refine de 274 rfl rfl ?_
   exact rf [0,1,4,12,13,66] [1] (j22 _ (Option.some.inj h).symm :)
theorem Ffbm_ld_run (data_9 : List Event) (a_10 : Int) (b_11 : Int) (pivot_12 : Int) (cmp_13 : Unit) (x46 : Int × Int × (List Event)) {Q : St→Prop} {K : List It} (hK : noD K=true) : ∀ (x47 : Int) (y : (Int × Bool × (List Event)) ⊕ Int),Ffbm_ld data_9 a_10 b_11 pivot_12 cmp_13 x46 x47=some y→(∀ r',y=.inl r'→∀ st,Ffbm_Q (data_9,a_10,b_11,pivot_12,cmp_13) r' st→Q st)→(∀ u : Int,y=.inr u→Run Ffbm_E 1 Q K (sT 178 [(0,.hs 1 0 [] 4 0 ((x46.2.2).map enc_Event).length),(1,I (a_10)),(4,.fn 52 []),(12,I (u)),(13,I (x46.2.1))] [⟨0,4,(x46.2.2).map enc_Event⟩] 2))→Run Ffbm_E 1 Q (.code Ffbm_kd :: .lp Ffbm_kd :: .blk 6 :: K) (sT 178 [(0,.hs 1 0 [] 4 0 ((x46.2.2).map enc_Event).length),(1,I (a_10)),(4,.fn 52 []),(12,I (x47)),(13,I (x46.2.1))] [⟨0,4,(x46.2.2).map enc_Event⟩] 2):=by
 refine fix_indP (Ffbm_ld_fin data_9 a_10 b_11 pivot_12 cmp_13 x46) ?_
 intro self ih x47 y h hr hn
 unfold Ffbm_ld_F at h
 refine aq 2 ?_
 refine s_draw [0,0,3,7,15,15,15,111,239,15,15,1551,3599,8191,16383,32767] rfl (by decide +kernel) ?_
 refine dk 4 [108,107,106,105] [B ((decide (x47 ≤ x46.2.1))),B ((decide (x47 ≤ x46.2.1))),I (x46.2.1),I (x47)] ?_
 obtain ⟨y48,hy48,hy481,hy482⟩:=bL h
 have j48 : ∀ u48,y48=.inr u48→Run Ffbm_E 1 Q (.code (cR (cL Ffbm_kd)) :: .code (cR Ffbm_kd) :: .lp Ffbm_kd :: .blk 6 :: K) (sT 178 [(0,.hs 1 0 [] 4 0 ((x46.2.2).map enc_Event).length),(1,I (a_10)),(4,.fn 52 []),(12,I (x47)),(13,I (x46.2.1)),(120,B (u48))] [⟨0,4,(x46.2.2).map enc_Event⟩] 2):=by
   intro u48 hu
   replace h:=hy482 u48 hu
   refine sq h (fun h=>?_) (fun h=>?_)
   · refine aq 1 ?_
     refine cq 7 [12] [I ((w64 (x47 + 1)))] 50 ?_
     refine s_lp ?_
     exact rf [0,1,4,12,13] [1] (ih _ _ h hr hn :)
   · refine aq 1 ?_
     exact rf [0,1,4,12,13] [1] (hn _ (Option.some.inj h).symm :) (hk:=hK)
 have r48 : ∀ r',y48=.inl r'→∀ st,Ffbm_Q (data_9,a_10,b_11,pivot_12,cmp_13) r' st→Q st:=fun r' e st hq=>hr r' (hy481 r' e) st hq
 replace h:=hy48
 refine sp 108 h rfl (fun h=>?_) (fun h=>?_)
 · refine dk 3 [111,110,109] [I (x47),.hs 1 0 [] 4 0 ((x46.2.2).map enc_Event).length,.fn 52 []] ?_
   obtain ⟨e49,he49,h⟩:=bS h
   refine dy [1] [] (.hp 1 0 [] 4 (0 + Int.toNat (x47)) 0) rfl (e_indexAddr rfl rfl rfl (ix_hsM (f:=enc_Event) (xs:=x46.2.2) rfl rfl rfl he49)) ?_
   refine dy [1] [] (enc_Event e49) rfl (e_ld rfl (ld_at (path:=[]) rfl rfl rfl (ra_n) (get_map (f:=enc_Event) (xs:=x46.2.2) he49) rfl rfl rfl)) ?_
   refine dk 2 [115,114] [I (a_10),.hs 1 0 [] 4 0 ((x46.2.2).map enc_Event).length] ?_
   obtain ⟨e50,he50,h⟩:=bS h
   refine dy [1] [] (.hp 1 0 [] 4 (0 + Int.toNat (a_10)) 0) rfl (e_indexAddr rfl rfl rfl (ix_hsM (f:=enc_Event) (xs:=x46.2.2) rfl rfl rfl he50)) ?_
   refine dy [1] [] (enc_Event e50) rfl (e_ld rfl (ld_at (path:=[]) rfl rfl rfl (ra_n) (get_map (f:=enc_Event) (xs:=x46.2.2) he50) rfl rfl rfl)) ?_
   obtain ⟨r51,hr51,h⟩:=bS h
   refine dy [] [] (I (r51)) rfl (e_callV rfl rfl (call_P rfl rfl rfl (avS (shP rfl) (avS (shP rfl) (avN))) (Fff_F hr51) (.inr rfl) (bl_n) rfl rfl rfl)) ?_ (w_callO rfl rfl rfl rfl (avS (shP rfl) (avS (shP rfl) (avN))) (Fff_F hr51) (.inr rfl) rfl)
   refine dk 2 [120,119] [B ((decide (r51 < 0))),B ((decide (r51 < 0)))] ?_
   refine de 258 rfl rfl ?_
   exact rf [0,1,4,12,13,120] [1] (j48 _ (Option.some.inj h).symm :)
 · refine dk 12 [120,119,118,117,116,115,114,113,112,111,110,109] [B (false),.und,.und,.und,.und,.und,.und,.und,.und,.und,.und,.und] ?_
   refine de 258 rfl rfl ?_
   exact rf [0,1,4,12,13,120] [1] (j48 _ (Option.some.inj h).symm :)
theorem Ffbm_le_run (data_9 : List Event) (a_10 : Int) (b_11 : Int) (pivot_12 : Int) (cmp_13 : Unit) (u52 : Int) (x46 : Int × Int × (List Event)) {Q : St→Prop} {K : List It} (hK : noD K=true) : ∀ (x53 : Int) (y : (Int × Bool × (List Event)) ⊕ Int),Ffbm_le data_9 a_10 b_11 pivot_12 cmp_13 u52 x46 x53=some y→(∀ r',y=.inl r'→∀ st,Ffbm_Q (data_9,a_10,b_11,pivot_12,cmp_13) r' st→Q st)→(∀ u : Int,y=.inr u→Run Ffbm_E 1 Q K (sT 178 [(0,.hs 1 0 [] 4 0 ((x46.2.2).map enc_Event).length),(1,I (a_10)),(4,.fn 52 []),(12,I (u52)),(13,I (u))] [⟨0,4,(x46.2.2).map enc_Event⟩] 2))→Run Ffbm_E 1 Q (.code Ffbm_ke :: .lp Ffbm_ke :: .blk 8 :: K) (sT 178 [(0,.hs 1 0 [] 4 0 ((x46.2.2).map enc_Event).length),(1,I (a_10)),(4,.fn 52 []),(12,I (u52)),(13,I (x53))] [⟨0,4,(x46.2.2).map enc_Event⟩] 2):=by
 refine fix_indP (Ffbm_le_fin data_9 a_10 b_11 pivot_12 cmp_13 u52 x46) ?_
 intro self ih x53 y h hr hn
 unfold Ffbm_le_F at h
 refine aq 2 ?_
 refine s_draw [0,0,3,7,15,15,15,111,239,15,15,1551,3599,8191,16383,32767,65535] rfl (by decide +kernel) ?_
 refine dk 4 [126,125,124,123] [B ((decide (u52 ≤ x53))),B ((decide (u52 ≤ x53))),I (x53),I (u52)] ?_
 obtain ⟨y54,hy54,hy541,hy542⟩:=bL h
 have j54 : ∀ u54,y54=.inr u54→Run Ffbm_E 1 Q (.code (cR (cL Ffbm_ke)) :: .code (cR Ffbm_ke) :: .lp Ffbm_ke :: .blk 8 :: K) (sT 178 [(0,.hs 1 0 [] 4 0 ((x46.2.2).map enc_Event).length),(1,I (a_10)),(4,.fn 52 []),(12,I (u52)),(13,I (x53)),(139,B (u54))] [⟨0,4,(x46.2.2).map enc_Event⟩] 2):=by
   intro u54 hu
   replace h:=hy542 u54 hu
   refine sq h (fun h=>?_) (fun h=>?_)
   · refine aq 1 ?_
     refine cq 7 [13] [I ((w64 (x53 - 1)))] 50 ?_
     refine s_lp ?_
     exact rf [0,1,4,12,13] [1] (ih _ _ h hr hn :)
   · refine aq 1 ?_
     exact rf [0,1,4,12,13] [1] (hn _ (Option.some.inj h).symm :) (hk:=hK)
 have r54 : ∀ r',y54=.inl r'→∀ st,Ffbm_Q (data_9,a_10,b_11,pivot_12,cmp_13) r' st→Q st:=fun r' e st hq=>hr r' (hy541 r' e) st hq
 replace h:=hy54
 refine sp 126 h rfl (fun h=>?_) (fun h=>?_)
 · refine dk 3 [129,128,127] [I (x53),.hs 1 0 [] 4 0 ((x46.2.2).map enc_Event).length,.fn 52 []] ?_
   obtain ⟨e55,he55,h⟩:=bS h
   refine dy [1] [] (.hp 1 0 [] 4 (0 + Int.toNat (x53)) 0) rfl (e_indexAddr rfl rfl rfl (ix_hsM (f:=enc_Event) (xs:=x46.2.2) rfl rfl rfl he55)) ?_
   refine dy [1] [] (enc_Event e55) rfl (e_ld rfl (ld_at (path:=[]) rfl rfl rfl (ra_n) (get_map (f:=enc_Event) (xs:=x46.2.2) he55) rfl rfl rfl)) ?_
   refine dk 2 [133,132] [I (a_10),.hs 1 0 [] 4 0 ((x46.2.2).map enc_Event).length] ?_
   obtain ⟨e56,he56,h⟩:=bS h
   refine dy [1] [] (.hp 1 0 [] 4 (0 + Int.toNat (a_10)) 0) rfl (e_indexAddr rfl rfl rfl (ix_hsM (f:=enc_Event) (xs:=x46.2.2) rfl rfl rfl he56)) ?_
   refine dy [1] [] (enc_Event e56) rfl (e_ld rfl (ld_at (path:=[]) rfl rfl rfl (ra_n) (get_map (f:=enc_Event) (xs:=x46.2.2) he56) rfl rfl rfl)) ?_
   obtain ⟨r57,hr57,h⟩:=bS h
   refine dy [] [] (I (r57)) rfl (e_callV rfl rfl (call_P rfl rfl rfl (avS (shP rfl) (avS (shP rfl) (avN))) (Fff_F hr57) (.inr rfl) (bl_n) rfl rfl rfl)) ?_ (w_callO rfl rfl rfl rfl (avS (shP rfl) (avS (shP rfl) (avN))) (Fff_F hr57) (.inr rfl) rfl)
   refine dk 3 [139,138,137] [B ((!(decide (r57 < 0)))),B ((!(decide (r57 < 0)))),B ((decide (r57 < 0)))] ?_
   refine de 274 rfl rfl ?_
   exact rf [0,1,4,12,13,139] [1] (j54 _ (Option.some.inj h).symm :)
 · refine dk 13 [139,138,137,136,135,134,133,132,131,130,129,128,127] [B (false),.und,.und,.und,.und,.und,.und,.und,.und,.und,.und,.und,.und] ?_
   refine de 274 rfl rfl ?_
   exact rf [0,1,4,12,13,139] [1] (j54 _ (Option.some.inj h).symm :)
theorem Ffbm_lc_run (data_9 : List Event) (a_10 : Int) (b_11 : Int) (pivot_12 : Int) (cmp_13 : Unit)  {Q : St→Prop} {K : List It} (hK : noD K=true) : ∀ (x46 : Int × Int × (List Event)) (y : (Int × Bool × (List Event)) ⊕ (Int × (List Event))),Ffbm_lc data_9 a_10 b_11 pivot_12 cmp_13 x46=some y→(∀ r',y=.inl r'→∀ st,Ffbm_Q (data_9,a_10,b_11,pivot_12,cmp_13) r' st→Q st)→(∀ u : Int × (List Event),y=.inr u→Run Ffbm_E 1 Q K (sT 178 [(0,.hs 1 0 [] 4 0 ((u.2).map enc_Event).length),(1,I (a_10)),(13,I (u.1))] [⟨0,4,(u.2).map enc_Event⟩] 2))→Run Ffbm_E 1 Q (.code Ffbm_kc :: .lp Ffbm_kc :: .blk 4 :: K) (sT 178 [(0,.hs 1 0 [] 4 0 ((x46.2.2).map enc_Event).length),(1,I (a_10)),(4,.fn 52 []),(12,I (x46.1)),(13,I (x46.2.1))] [⟨0,4,(x46.2.2).map enc_Event⟩] 2):=by
 refine fix_indP (Ffbm_lc_fin data_9 a_10 b_11 pivot_12 cmp_13) ?_
 intro self ih x46 y h hr hn
 unfold Ffbm_lc_F at h
 refine aq 3 ?_
 obtain ⟨y52,hy52,hy521,hy522⟩:=bL h
 refine s_loop rfl ?_
 refine rf [0,1,4,12,13] [1] (Ffbm_ld_run data_9 a_10 b_11 pivot_12 cmp_13 x46 rfl _ _ hy52 (fun r' e st hq=>hr r' (hy521 r' e) st hq) fun u52 hu=>?_)
 replace h:=hy522 u52 hu
 refine aq 2 ?_
 obtain ⟨y58,hy58,hy581,hy582⟩:=bL h
 refine s_loop rfl ?_
 refine rf [0,1,4,12,13] [1] (Ffbm_le_run data_9 a_10 b_11 pivot_12 cmp_13 u52 x46 rfl _ _ hy58 (fun r' e st hq=>hr r' (hy581 r' e) st hq) fun u58 hu=>?_)
 replace h:=hy582 u58 hu
 refine cq 7 [144] [B ((decide (u52 > u58)))] 50 ?_
 refine sq h (fun h=>?_) (fun h=>?_)
 · refine aq 1 ?_
   exact rf [0,1,13] [1] (hn _ (Option.some.inj h).symm :) (hk:=hK)
 · refine aq 1 ?_
   refine aq 1 ?_
   refine s_draw [0,0,0,0,0,0,48,112,0,0,768,1792,4083,8179,16383,32767] rfl (by decide +kernel) ?_
   refine dk 6 [150,149,148,147,146,145] [I (u58),.hs 1 0 [] 4 0 ((x46.2.2).map enc_Event).length,I (u58),.hs 1 0 [] 4 0 ((x46.2.2).map enc_Event).length,I (u52),.hs 1 0 [] 4 0 ((x46.2.2).map enc_Event).length] ?_
   obtain ⟨e59,he59,h⟩:=bS h
   refine dq [1] [] (.hp 1 0 [] 4 (0 + Int.toNat (u58)) 0) rfl (e_indexAddr rfl rfl rfl (ix_hsM (f:=enc_Event) (xs:=x46.2.2) rfl rfl rfl he59)) ?_
   refine dq [1] [] (enc_Event e59) rfl (e_ld rfl (ld_at (path:=[]) rfl rfl rfl (ra_n) (get_map (f:=enc_Event) (xs:=x46.2.2) he59) rfl rfl rfl)) ?_
   refine dk 2 [154,153] [I (u52),.hs 1 0 [] 4 0 ((x46.2.2).map enc_Event).length] ?_
   obtain ⟨e60,he60,h⟩:=bS h
   refine dq [1] [] (.hp 1 0 [] 4 (0 + Int.toNat (u52)) 0) rfl (e_indexAddr rfl rfl rfl (ix_hsM (f:=enc_Event) (xs:=x46.2.2) rfl rfl rfl he60)) ?_
   refine dq [1] [] (enc_Event e60) rfl (e_ld rfl (ld_at (path:=[]) rfl rfl rfl (ra_n) (get_map (f:=enc_Event) (xs:=x46.2.2) he60) rfl rfl rfl)) ?_
   obtain ⟨e61,he61,h⟩:=bS h
   refine dq [1] [] (.hp 1 0 [] 4 (0 + Int.toNat (u52)) 0) rfl (e_indexAddr rfl rfl rfl (ix_hsM (f:=enc_Event) (xs:=x46.2.2) rfl rfl rfl he61)) ?_
   refine dz [1] [1] rfl (e_st rfl rfl (st_at (path:=[]) (pl:=true) (e':=enc_Event e59) (es2':=((setI x46.2.2 u52 e59)).map enc_Event) rfl (absorb_plain rfl) rfl rfl rfl (ra_n) (get_map (f:=enc_Event) (xs:=x46.2.2) he61) rfl rfl rfl (set_map (f:=enc_Event) (xs:=x46.2.2) (y:=e59)) (sr_n) 0 rfl)) ?_
   try rw [← len_setM (f:=enc_Event) (xs:=x46.2.2) (i:=u52) (z:=e59)]
   obtain ⟨e64,he64,h⟩:=bS h
   refine dq [1] [] (.hp 1 0 [] 4 (0 + Int.toNat (u58)) 0) rfl (e_indexAddr rfl rfl rfl (ix_hsM (f:=enc_Event) (xs:=(setI x46.2.2 u52 e59)) rfl rfl rfl he64)) ?_
   refine dz [1] [1] rfl (e_st rfl rfl (st_at (path:=[]) (pl:=true) (e':=enc_Event e60) (es2':=((setI (setI x46.2.2 u52 e59) u58 e60)).map enc_Event) rfl (absorb_plain rfl) rfl rfl rfl (ra_n) (get_map (f:=enc_Event) (xs:=(setI x46.2.2 u52 e59)) he64) rfl rfl rfl (set_map (f:=enc_Event) (xs:=(setI x46.2.2 u52 e59)) (y:=e60)) (sr_n) 0 rfl)) ?_
   try rw [← len_setM (f:=enc_Event) (xs:=(setI x46.2.2 u52 e59)) (i:=u58) (z:=e60)]
   refine de 306 rfl rfl ?_
   refine cq 12 [12,13] [I ((w64 (u52 + 1))),I ((w64 (u58 - 1)))] 402 ?_
   refine s_lp ?_
   exact rf [0,1,4,12,13] [1] (ih _ _ h hr hn :)
end Go.Ln
