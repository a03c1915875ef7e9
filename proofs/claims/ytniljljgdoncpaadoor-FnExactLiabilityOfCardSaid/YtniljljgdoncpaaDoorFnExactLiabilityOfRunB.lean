/-
  Each function of the program computes its plain function.
-/
import Derived.Test.YtniljljgdoncpaaDoorFnExactLiabilityOfRunA
set_option maxHeartbeats 4000000
set_option linter.unusedVariables false
set_option linter.unusedSimpArgs false
set_option maxRecDepth 100000
namespace Go.Ln
open Go Go.Proofs
theorem Ffbp_lb_run (s_2 : List Str) (x2 : Int) {Q : St→Prop} {K : List It} (hK : noD K=true) : ∀ (x6 : Int × Int × (List Str)) (y : ((List Str)) ⊕ (Int × (List Str))),Ffbp_lb s_2 x2 x6=some y→(∀ r',y=.inl r'→∀ st,Ffbp_Q s_2 r' st→Q st)→(∀ u : Int × (List Str),y=.inr u→Run Ffbp_E 1 Q K (sO 61 [(0,.hs 2 0 [] 1 0 ((u.2).map str).length),(3,I (u.1))] [none,some ⟨0,1,(u.2).map str⟩] 3))→Run Ffbp_E 1 Q (.code Ffbp_ka :: .lp Ffbp_ka :: .blk 2 :: K) (sO 61 [(0,.hs 2 0 [] 1 0 ((x6.2.2).map str).length),(3,I (x6.1)),(4,.hs 2 0 [] 1 (0 + Int.toNat (x2)) (Int.toNat (len s_2) - Int.toNat (x2))),(5,I (x6.2.1))] [none,some ⟨0,1,(x6.2.2).map str⟩] 3):=by
 refine fix_indP (Ffbp_lb_fin s_2 x2) ?_
 intro self ih x6 y h hr hn
 unfold Ffbp_lb_F at h
 refine cq 8 [32] [B ((decide (x6.2.1 < (((Int.toNat (len s_2) - Int.toNat (x2)) : Nat) : Int))))] 67 ?_
 refine sq h (fun h=>?_) (fun h=>?_)
 · refine aq 1 ?_
   refine aq 3 ?_
   refine s_draw [0,0,3,7,0,0,32,112,240,511] rfl (by decide +kernel) ?_
   refine dk 2 [36,35] [I (x6.2.1),.hs 2 0 [] 1 (0 + Int.toNat (x2)) (Int.toNat (len s_2) - Int.toNat (x2))] ?_
   obtain ⟨e7,he7,h⟩:=bS h
   refine dq [2] [] (.hp 2 0 [] 1 ((0 + Int.toNat (x2)) + Int.toNat (x6.2.1)) 0) rfl (e_indexAddr rfl rfl rfl (ix_pt (xs:=x6.2.2) rfl rfl he7)) ?_
   refine dq [2] [] (str (e7)) rfl (e_ld rfl (ld_at (path:=[]) rfl rfl rfl (ra_n) (get_pt (f:=str) (xs:=x6.2.2) he7) rfl rfl rfl)) ?_
   refine dk 3 [41,40,39] [I ((w64 (x6.2.1 - 1))),I (x6.2.1),.hs 2 0 [] 1 (0 + Int.toNat (x2)) (Int.toNat (len s_2) - Int.toNat (x2))] ?_
   obtain ⟨e8,he8,h⟩:=bS h
   refine dq [2] [] (.hp 2 0 [] 1 ((0 + Int.toNat (x2)) + Int.toNat ((w64 (x6.2.1 - 1)))) 0) rfl (e_indexAddr rfl rfl rfl (ix_pt (xs:=x6.2.2) rfl rfl he8)) ?_
   refine dq [2] [] (str (e8)) rfl (e_ld rfl (ld_at (path:=[]) rfl rfl rfl (ra_n) (get_pt (f:=str) (xs:=x6.2.2) he8) rfl rfl rfl)) ?_
   refine dk 1 [44] [B ((!(e7 == e8)))] ?_
   refine de 227 rfl rfl ?_
   obtain ⟨y9,hy9,hy91,hy92⟩:=bL h
   have j9 : ∀ u9,y9=.inr u9→Run Ffbp_E 1 Q (.blk 3 :: .code (cR (cR Ffbp_ka)) :: .lp Ffbp_ka :: .blk 2 :: K) (sO 61 [(0,.hs 2 0 [] 1 0 ((u9.2).map str).length),(3,I (u9.1)),(4,.hs 2 0 [] 1 (0 + Int.toNat (x2)) (Int.toNat (len s_2) - Int.toNat (x2))),(5,I (x6.2.1))] [none,some ⟨0,1,(u9.2).map str⟩] 3):=by
     intro u9 hu
     replace h:=hy92 u9 hu
     refine cq 6 [5] [I ((w64 (x6.2.1 + 1)))] 51 ?_
     refine s_lp ?_
     exact rg [0,3,4,5] [52,2] (ih _ _ h hr hn :)
   have r9 : ∀ r',y9=.inl r'→∀ st,Ffbp_Q s_2 r' st→Q st:=fun r' e st hq=>hr r' (hy91 r' e) st hq
   replace h:=hy9
   refine sq h (fun h=>?_) (fun h=>?_)
   · refine cq 6 [45,46,47,48] [.hs 2 0 [] 1 0 ((x6.2.2).map str).length,I (x6.1),.hs 2 0 [] 1 (0 + Int.toNat (x2)) (Int.toNat (len s_2) - Int.toNat (x2)),I (x6.2.1)] 291 ?_
     obtain ⟨e10,he10,h⟩:=bS h
     refine oq 307 (.hp 2 0 [] 1 ((0 + Int.toNat (x2)) + Int.toNat (x6.2.1)) 0) rfl (e_indexAddr rfl rfl rfl (ix_pt (xs:=x6.2.2) rfl rfl he10)) ?_
     refine oq 323 (str (e10)) rfl (e_ld rfl (ld_at (path:=[]) rfl rfl rfl (ra_n) (get_pt (f:=str) (xs:=x6.2.2) he10) rfl rfl rfl)) ?_
     obtain ⟨e11,he11,h⟩:=bS h
     refine oq 339 (.hp 2 0 [] 1 (0 + Int.toNat (x6.1)) 0) rfl (e_indexAddr rfl rfl rfl (ix_hsM (f:=str) (xs:=x6.2.2) rfl rfl rfl he11)) ?_
     refine o0 355 rfl rfl (e_st rfl rfl (st_at (path:=[]) (pl:=true) (e':=str (e10)) (es2':=((setI x6.2.2 x6.1 e10)).map str) rfl (absorb_plain rfl) rfl rfl rfl (ra_n) (get_map (f:=str) (xs:=x6.2.2) he11) rfl rfl rfl (set_map (f:=str) (xs:=x6.2.2) (y:=e10)) (sr_n) 0 rfl)) ?_
     try rw [← len_setM (f:=str) (xs:=x6.2.2) (i:=x6.1) (z:=e10)]
     refine cq 6 [3] [I ((w64 (x6.1 + 1)))] 403 ?_
     exact rg [0,3,4,5] [404,2] (j9 _ (Option.some.inj h).symm :)
   · refine aq 1 ?_
     exact rg [0,3,4,5] [228,2] (j9 _ (Option.some.inj h).symm :)
 · refine aq 1 ?_
   exact rg [0,3] [68,2] (hn _ (Option.some.inj h).symm :) (hk:=hK)
theorem Ffbp_la_run (s_2 : List Str)  {Q : St→Prop} {K : List It} (hK : noD K=true) : ∀ (x2 : Int) (y : ((List Str)) ⊕ ((List Str))),Ffbp_la s_2 x2=some y→(∀ r',y=.inl r'→∀ st,Ffbp_Q s_2 r' st→Q st)→(∀ u : (List Str),y=.inr u→Run Ffbp_E 1 Q K (sO 61 [(0,.hs 2 0 [] 1 0 ((u).map str).length)] [none,some ⟨0,1,(u).map str⟩] 3))→Run Ffbp_E 1 Q (.code (cL (cL (cR (cL (cR (cR Ffbp_c)))))) :: .lp (cL (cL (cR (cL (cR (cR Ffbp_c)))))) :: .blk 0 :: K) (sO 61 [(0,.hs 2 0 [] 1 0 ((s_2).map str).length),(3,I (x2))] [none,some ⟨0,1,(s_2).map str⟩] 3):=by
 refine fix_indP (Ffbp_la_fin s_2) ?_
 intro self ih x2 y h hr hn
 unfold Ffbp_la_F at h
 refine cq 5 [10,11] [I (x2),.hs 2 0 [] 1 0 ((s_2).map str).length] 35 ?_
 refine oq 51 (I ((len s_2))) rfl (e_len rfl rfl rfl (l_hsM (f:=str) (xs:=s_2) rfl rfl)) ?_
 refine cq 2 [13] [B ((decide (x2 < (len s_2))))] 67 ?_
 refine sq h (fun h=>?_) (fun h=>?_)
 · refine aq 1 ?_
   refine aq 3 ?_
   refine s_draw [0,0,3,7,0,0,32,112,240,511] rfl (by decide +kernel) ?_
   refine dk 2 [17,16] [I (x2),.hs 2 0 [] 1 0 ((s_2).map str).length] ?_
   obtain ⟨e3,he3,h⟩:=bS h
   refine dq [2] [] (.hp 2 0 [] 1 (0 + Int.toNat (x2)) 0) rfl (e_indexAddr rfl rfl rfl (ix_hsM (f:=str) (xs:=s_2) rfl rfl rfl he3)) ?_
   refine dq [2] [] (str (e3)) rfl (e_ld rfl (ld_at (path:=[]) rfl rfl rfl (ra_n) (get_map (f:=str) (xs:=s_2) he3) rfl rfl rfl)) ?_
   refine dk 3 [22,21,20] [I ((w64 (x2 - 1))),I (x2),.hs 2 0 [] 1 0 ((s_2).map str).length] ?_
   obtain ⟨e4,he4,h⟩:=bS h
   refine dq [2] [] (.hp 2 0 [] 1 (0 + Int.toNat ((w64 (x2 - 1)))) 0) rfl (e_indexAddr rfl rfl rfl (ix_hsM (f:=str) (xs:=s_2) rfl rfl rfl he4)) ?_
   refine dq [2] [] (str (e4)) rfl (e_ld rfl (ld_at (path:=[]) rfl rfl rfl (ra_n) (get_map (f:=str) (xs:=s_2) he4) rfl rfl rfl)) ?_
   refine dk 1 [25] [B ((e3 == e4))] ?_
   refine de 227 rfl rfl ?_
   refine sq h (fun h=>?_) (fun h=>?_)
   · refine cq 4 [26,27] [.hs 2 0 [] 1 0 ((s_2).map str).length,I (x2)] 259 ?_
     obtain ⟨s5,hs5,h⟩:=bS h
     refine oq 275 (.hs 2 0 [] 1 (0 + Int.toNat (x2)) (Int.toNat (len s_2) - Int.toNat (x2))) rfl (e_slice rfl rfl rfl rfl (sl_hsM (f:=str) (xs:=s_2) rfl rfl rfl rfl (bd_n rfl) hs5)) ?_
     refine cq 8 [4,5] [.hs 2 0 [] 1 (0 + Int.toNat (x2)) (Int.toNat (len s_2) - Int.toNat (x2)),I (1)] 307 ?_
     obtain ⟨y15,hy15,hy151,hy152⟩:=bL h
     refine s_loop rfl ?_
     refine rg [0,3,4,5] [308,2] (Ffbp_lb_run s_2 x2 rfl (x2,1,s_2) _ hy15 (fun r' e st hq=>hr r' (hy151 r' e) st hq) fun u15 hu=>?_)
     replace h:=hy152 u15 hu
     refine cq 4 [54,55] [.hs 2 0 [] 1 0 ((u15.2).map str).length,I (u15.1)] 35 ?_
     obtain ⟨s16,hs16,h⟩:=bS h
     refine oq 51 (.hs 2 0 [] 1 (0 + Int.toNat (u15.1)) (Int.toNat (len u15.2) - Int.toNat (u15.1))) rfl (e_slice rfl rfl rfl rfl (sl_hsM (f:=str) (xs:=u15.2) rfl rfl rfl rfl (bd_n rfl) hs16)) ?_
     obtain ⟨k17,hk17,h⟩:=bS h
     refine o0 67 rfl rfl (e_clear rfl rfl (cl_pt (f:=str) (xs:=u15.2) (z0:=[]) rfl rfl rfl rfl (by decide) str_flat hk17)) ?_
     try rw [show (u15.2.map str).length=(k17.map str).length from clr_len hk17]
     refine cq 5 [57,58] [.hs 2 0 [] 1 0 ((k17).map str).length,I (u15.1)] 99 ?_
     obtain ⟨s18,hs18,h⟩:=bS h
     refine oq 115 (.hs 2 0 [] 1 (0 + Int.toNat (0)) (Int.toNat (u15.1) - Int.toNat (0))) rfl (e_slice rfl rfl rfl rfl (sl_hsM (f:=str) (xs:=k17) rfl rfl rfl rfl rfl hs18)) ?_
     refine cq 2 [2] [.hs 2 0 [] 1 (0 + Int.toNat (0)) (Int.toNat (u15.1) - Int.toNat (0))] 131 ?_
     obtain ⟨p19,hp19,h⟩:=bS h
     exact s_ret rfl (hr _ (Option.some.inj h).symm _ ⟨_,fin (vs:=[.hs 2 0 [] 1 (0 + Int.toNat (0)) (Int.toNat (u15.1) - Int.toNat (0))]) rfl (absE (abs1 rfl (abs_pt (path:=[]) (f:=str) (xs:=k17) rfl rfl (ra_n) hp19 rfl (to_n))) (absEN)) rfl (ou_1 rfl (oc_no rfl) (ou_n)),kl_d (kl_n)⟩)
   · refine aq 1 ?_
     refine cq 6 [3] [I ((w64 (x2 + 1)))] 275 ?_
     refine s_lp ?_
     exact rg [0,3] [276,2] (ih _ _ h hr hn :)
 · refine aq 1 ?_
   exact rg [0] [68,2] (hn _ (Option.some.inj h).symm :) (hk:=hK)
theorem Ffbp_run (s_2 : List Str) (r : (List Str)) (h : Ffbp s_2=some r) : RunF Ffbp_E Tryd.f90 [true] 1 (Ffbp_A s_2) (Ffbp_R r):=by
 show Run _ _ (Ffbp_Q s_2 r) [.code Ffbp_c] _
 refine rin (n:=61) [(0,.hs 1 0 [] 1 0 ((s_2).map str).length)] [(1,some ⟨0,1,(s_2).map str⟩)] 2 (by kernel_rfl) (by kernel_rfl) (by kernel_rfl) rfl ?_
 unfold Ffbp at h
 refine cq 8 [6] [.hs 1 0 [] 1 0 ((s_2).map str).length] 34 ?_
 refine oq 50 (I ((len s_2))) rfl (e_len rfl rfl rfl (l_hsM (f:=str) (xs:=s_2) rfl rfl)) ?_
 refine cq 2 [8] [B ((decide ((len s_2) < 2)))] 66 ?_
 refine sq h (fun h=>?_) (fun h=>?_)
 · refine cq 5 [2] [.hs 1 0 [] 1 0 ((s_2).map str).length] 98 ?_
   obtain rfl:=Option.some.inj h
   exact s_ret rfl ⟨_,fin (vs:=[.hs 1 0 [] 1 0 ((s_2).map str).length]) rfl (absE (abs1 rfl (abs_hs rfl rfl)) (absEN)) rfl (ou_1 rfl (oc_no rfl) (ou_n)),kl_d (kl_n)⟩
 · refine aq 1 ?_
   refine cq 6 [3] [I (1)] 82 ?_
   obtain ⟨y20,hy20,hy201,hy202⟩:=bJ h
   refine s_loop rfl ?_
   refine rg [0,3] [83,1] (Ffbp_la_run s_2 rfl 1 _ hy20 (fun r' e st hq=>by rw [hy201 r' e] at hq; exact hq) fun u20 hu=>?_)
   replace h:=hy202 u20 hu
   refine cq 5 [2] [.hs 2 0 [] 1 0 ((u20).map str).length] 35 ?_
   obtain rfl:=Option.some.inj h
   exact s_ret rfl ⟨_,fin (vs:=[.hs 2 0 [] 1 0 ((u20).map str).length]) rfl (absE (abs1 rfl (abs_hs rfl rfl)) (absEN)) rfl (ou_1 rfl (oc_no rfl) (ou_n)),kl_d (kl_n)⟩
theorem Ffbp_good {G : Go.Ln.Ground} : Good Tryd.prog G 90 Ffbp_ent:=good_T (fnOf_good (gl_n)) agree_mk (Checked.mixed Tryd.checked) Tryd.func90 (n:=1) (m:=1) ⟨rfl,rfl,by decide⟩ (fun _=>⟨rfl,rfl⟩) (fun a r h=>Ffbp_run a r h)
def Ffn_A : ((List Str))→List V:=oA (usE 1 str)
def Ffn_R (r : (List Str)) : V × List V:=(.usl 1 ((r).map str),[.dead])
noncomputable def Ffn_ent : Ent:=entT [true] Ffn_A Ffn_R fun x=>Ffn x
theorem Ffn_F {list_5 : List Str} {r} (h : Ffn list_5=some r) : (Ffn_ent).F (Ffn_A list_5)=some (Ffn_R r):=entT_F (oA_inj (usl_inj str_inj)) h
noncomputable def Ffn_c : Code:=bodyOf Tryd.f47
noncomputable def Ffn_E : Env:=mkE Tryd.prog [(89,xSortS_ent),(90,Ffbp_ent)]
def Ffn_Q (x : (List Str)) (r : (List Str)) : St→Prop:=QF Ffn_E Tryd.f47 [true] (Ffn_A x) (Ffn_R r)
theorem Ffn_run (list_5 : List Str) (r : (List Str)) (h : Ffn list_5=some r) : RunF Ffn_E Tryd.f47 [true] 1 (Ffn_A list_5) (Ffn_R r):=by
 show Run _ _ (Ffn_Q list_5 r) [.code Ffn_c] _
 refine rin (n:=7) [(0,.hs 1 0 [] 1 0 ((list_5).map str).length)] [(1,some ⟨0,1,(list_5).map str⟩)] 2 (by kernel_rfl) (by kernel_rfl) (by kernel_rfl) rfl ?_
 unfold Ffn at h
 refine cq 7 [3] [.hs 1 0 [] 1 0 ((list_5).map str).length] 34 ?_
 obtain ⟨r2,hr2,h⟩:=bS h
 obtain ⟨g3,h⟩:=gG h
 refine oq 50 (.tup []) rfl (e_callV rfl rfl (call_P rfl rfl rfl (avO (hd1 rfl (hd_hs (path:=[]) rfl rfl (ra_n) rfl)) (avN)) (xSortS_F hr2) (.inr rfl) (bl_c rfl rfl rfl rfl (bl_n)) rfl rfl rfl)) ?_
 try rw [len_eqM (f:=str) (xs:=list_5) (ys:=r2) g3]
 refine cq 4 [5] [.hs 1 0 [] 1 0 ((r2).map str).length] 66 ?_
 obtain ⟨r4,hr4,h⟩:=bS h
 refine oq 82 (.hs 66 0 [] 1 0 ((r4).map str).length) rfl (e_callV rfl rfl (call_P rfl rfl rfl (avO (hd1 rfl (hd_hs (path:=[]) rfl rfl (ra_n) rfl)) (avN)) (Ffbp_F hr4) (.inr rfl) (bl_c rfl rfl rfl bk_dead (bl_n)) rfl rfl rfl)) ?_
 refine cq 2 [2] [.hs 66 0 [] 1 0 ((r4).map str).length] 98 ?_
 obtain rfl:=Option.some.inj h
 exact s_ret rfl ⟨_,fin (vs:=[.hs 66 0 [] 1 0 ((r4).map str).length]) rfl (absE (abs1 rfl (abs_hs rfl rfl)) (absEN)) rfl (ou_1 rfl (oc_no rfl) (ou_n)),kl_d (kl_n)⟩
theorem Ffn_good {G : Go.Ln.Ground} : Good Tryd.prog G 47 Ffn_ent:=good_T (fnOf_good (gl_c xSortS_good (gl_c Ffbp_good (gl_n)))) agree_mk (Checked.mixed Tryd.checked) Tryd.func47 (n:=1) (m:=1) ⟨rfl,rfl,by decide⟩ (fun _=>⟨rfl,rfl⟩) (fun a r h=>Ffn_run a r h)
def Ffk_A : Contract→List V:=oA encI_Contract
def Ffk_R (r : (List Str)) : V × List V:=(.usl 1 ((r).map str),[])
noncomputable def Ffk_ent : Ent:=entT [false] Ffk_A Ffk_R fun x=>Ffk x
theorem Ffk_F {c_1 : Contract} {r} (h : Ffk c_1=some r) : (Ffk_ent).F (Ffk_A c_1)=some (Ffk_R r):=entT_F (oA_inj encI_Contract_inj) h
noncomputable def Ffk_c : Code:=bodyOf Tryd.f126
noncomputable def Ffk_E : Env:=mkE Tryd.prog [(48,Fff_ent),(47,Ffn_ent)]
def Ffk_Q (x : Contract) (r : (List Str)) : St→Prop:=QF Ffk_E Tryd.f126 [false] (Ffk_A x) (Ffk_R r)
theorem Ffk_la_run (c_1 : Contract)  {Q : St→Prop} {K : List It} (hK : noD K=true) : ∀ (x2 : Int × (List Str)) (y : ((List Str)) ⊕ ((List Str))),Ffk_la c_1 x2=some y→(∀ r',y=.inl r'→∀ st,Ffk_Q c_1 r' st→Q st)→(∀ u : (List Str),y=.inr u→Run Ffk_E 0 Q K (sT 25 [(3,.hs 1 0 [] 1 0 ((u).map str).length)] [⟨0,1,(u).map str⟩] 2))→Run Ffk_E 0 Q (.code (cL (cL (cR (cL (cR (cR Ffk_c)))))) :: .lp (cL (cL (cR (cL (cR (cR Ffk_c)))))) :: .blk 0 :: K) (sT 25 [(3,.hs 1 0 [] 1 0 ((x2.2).map str).length),(8,.isl false ((c_1.Clauses).map encI_Clause)),(9,I ((len c_1.Clauses))),(10,I (x2.1))] [⟨0,1,(x2.2).map str⟩] 2):=by
 refine fix_indP (Ffk_la_fin c_1) ?_
 intro self ih x2 y h hr hn
 unfold Ffk_la_F at h
 refine cq 5 [11] [B ((decide (x2.1 < (len c_1.Clauses))))] 18 ?_
 refine sq h (fun h=>?_) (fun h=>?_)
 · refine aq 1 ?_
   refine aq 4 ?_
   obtain ⟨e3,he3,h⟩:=bS h
   refine oq 34 (.iptr (.agg [str (e3.Id),I (e3.Kind),I (e3.Party),str (e3.Action),I (e3.Other),I (e3.Amount),I (e3.When.Op),str (e3.When.Name),I (e3.When.Day),.isl false ((e3.When.Parts).map encI_Condition),I (e3.Within),str (e3.Repair)]) 0) rfl (e_indexAddr rfl rfl rfl (ix_islE rfl rfl rfl rfl he3)) ?_
   refine ck 2 [5,13] [] [50] [] [.hp 50 0 [] 12 0 0,.agg [str (e3.Id),I (e3.Kind),I (e3.Party),str (e3.Action),I (e3.Other),I (e3.Amount),I (e3.When.Op),str (e3.When.Name),I (e3.When.Day),.isl false ((e3.When.Parts).map encI_Condition),I (e3.Within),str (e3.Repair)]] [some ⟨0,12,[.agg [str ([]),I (0),I (0),str ([]),I (0),I (0),I (0),str ([]),I (0),.isl true [],I (0),str ([])]]⟩] 66 (by kernel_rfl) ?_
   refine run_row 50 [.agg [str ([]),I (0),I (0),str ([]),I (0),I (0),I (0),str ([]),I (0),.usl 4 (([]).map encO_Condition),I (0),str ([])]] rfl rfl (cvs_c (cv_agg (cvs_c (.refl _) (cvs_c (.refl _) (cvs_c (.refl _) (cvs_c (.refl _) (cvs_c (.refl _) (cvs_c (.refl _) (cvs_c (.refl _) (cvs_c (.refl _) (cvs_c (.refl _) (cvs_c (.nil _) (cvs_c (.refl _) (cvs_c (.refl _) (cvs_n)))))))))))))) cvs_n) ?_
   refine ck 2 [] [] [50] [] [] [some ⟨2,12,[.agg [str (e3.Id),I (e3.Kind),I (e3.Party),str (e3.Action),I (e3.Other),I (e3.Amount),I (e3.When.Op),str (e3.When.Name),I (e3.When.Day),.isl false ((e3.When.Parts).map encI_Condition),I (e3.Within),str (e3.Repair)]]⟩] 82 (by kernel_rfl) ?_
   refine s_draw [0,1,0,0,8,24,60,127,255] rfl (by decide +kernel) ?_
   refine dq [50] [] (.hp 50 0 [] 12 0 6) rfl (e_fieldAddr rfl rfl rfl) ?_
   refine dq [50] [] (.agg [I (e3.When.Op),str (e3.When.Name),I (e3.When.Day),.isl false ((e3.When.Parts).map encI_Condition)]) rfl (e_ld rfl rfl) ?_
   refine dk 1 [16] [.hs 1 0 [] 1 0 ((x2.2).map str).length] ?_
   refine dq [50] [] (.hp 50 0 [] 12 0 3) rfl (e_fieldAddr rfl rfl rfl) ?_
   refine dq [50] [] (str (e3.Action)) rfl (e_ld rfl rfl) ?_
   refine dq [] [] (.hs 162 0 [] 1 0 1) rfl (e_buildSlice rfl (bs_mk (f:=I) (xs:=[]) (z:=str ([])) (es:=[str (e3.Action)]) (ws:=[str (e3.Action)]) rfl rfl rfl (by decide) rfl (abs_each_plain rfl) rfl)) ?_
   obtain ⟨a4,ha4,h⟩:=bS h
   refine dq [1,162] [1] (.hs 178 0 [] 1 0 ((a4).map str).length) rfl (e_append rfl rfl rfl rfl rfl (ap_hsM (path:=[]) (f:=str) (xs:=x2.2) (ys:=[e3.Action]) rfl rfl (take_hs rfl rfl rfl) rfl rfl rfl (ra_n) rfl (by decide) str_cells ha4 rfl (to_n))) ?_ (w_app rfl (aw_hs (path:=[]) (f:=str) (xs:=[e3.Action]) rfl rfl (ra_n) str_flat rfl))
   obtain ⟨r5,hr5,h⟩:=bS h
   refine dq [178] [178] (.hs 194 0 [] 1 0 ((r5).map str).length) rfl (e_callV rfl rfl (call_P rfl rfl rfl (avS (shP rfl) (avO (hd1 rfl (hd_hs (path:=[]) rfl rfl (ra_n) rfl)) (avN))) (Fff_F hr5) (.inr rfl) (bl_c rfl rfl rfl bk_dead (bl_n)) rfl rfl rfl)) ?_ (w_callO rfl rfl rfl rfl (avS (shP rfl) (avO (hd1 rfl (hd_hs (path:=[]) rfl rfl (ra_n) rfl)) (avN))) (Fff_F hr5) (.inr rfl) rfl)
   refine dk 1 [3] [.hs 194 0 [] 1 0 ((r5).map str).length] ?_
   refine de 226 rfl rfl ?_
   refine cq 5 [10] [I ((w64 (x2.1 + 1)))] 258 ?_
   refine s_lp ?_
   exact rf [3,8,9,10] [194] (ih _ _ h hr hn :)
 · refine aq 1 ?_
   exact rf [3] [1] (hn _ (Option.some.inj h).symm :) (hk:=hK)
theorem Ffk_run (c_1 : Contract) (r : (List Str)) (h : Ffk c_1=some r) : RunF Ffk_E Tryd.f126 [false] 0 (Ffk_A c_1) (Ffk_R r):=by
 show Run _ _ (Ffk_Q c_1 r) [.code Ffk_c] _
 refine rin (n:=25) [(0,.agg [.isl false ((c_1.Parties).map str),.isl false ((c_1.Clauses).map encI_Clause)])] [] 1 (by kernel_rfl) (by kernel_rfl) (by kernel_rfl) rfl ?_
 unfold Ffk at h
 refine ck 7 [1] [] [1] [] [.hp 1 0 [] 2 0 0] [some ⟨0,2,[.agg [.isl false ((c_1.Parties).map str),.isl false ((c_1.Clauses).map encI_Clause)]]⟩] 33 (by kernel_rfl) ?_
 refine oq 49 (.hs 33 0 [] 1 0 0) rfl (e_buildSlice rfl (bs_mk (f:=I) (xs:=[]) (z:=str ([])) (es:=[]) (ws:=[]) rfl rfl rfl (by decide) rfl (abs_each_plain rfl) rfl)) ?_
 refine cq 7 [3,8] [.hs 33 0 [] 1 0 0,.isl false ((c_1.Clauses).map encI_Clause)] 97 ?_
 refine oq 113 (I ((len c_1.Clauses))) rfl (e_len rfl rfl rfl (l_isl rfl)) ?_
 refine cq 3 [10] [I (0)] 129 ?_
 obtain ⟨y6,hy6,hy61,hy62⟩:=bJ h
 refine s_loop rfl ?_
 refine rf [3,8,9,10] [33] (Ffk_la_run c_1 rfl (0,[]) _ hy6 (fun r' e st hq=>by rw [hy61 r' e] at hq; exact hq) fun u6 hu=>?_)
 replace h:=hy62 u6 hu
 refine cq 3 [23] [.hs 1 0 [] 1 0 ((u6).map str).length] 18 ?_
 obtain ⟨r7,hr7,h⟩:=bS h
 refine oq 34 (.hs 18 0 [] 1 0 ((r7).map str).length) rfl (e_callV rfl rfl (call_P rfl rfl rfl (avO (hd1 rfl (hd_hs (path:=[]) rfl rfl (ra_n) rfl)) (avN)) (Ffn_F hr7) (.inr rfl) (bl_c rfl rfl rfl bk_dead (bl_n)) rfl rfl rfl)) ?_
 refine cq 2 [2] [.hs 18 0 [] 1 0 ((r7).map str).length] 50 ?_
 obtain rfl:=Option.some.inj h
 exact s_ret rfl ⟨_,fin (vs:=[.hs 18 0 [] 1 0 ((r7).map str).length]) rfl (absE (abs1 rfl (abs_hs rfl rfl)) (absEN)) rfl (ou_f (ou_n)),kl_n⟩
theorem Ffk_good {G : Go.Ln.Ground} : Good Tryd.prog G 126 Ffk_ent:=good_T (fnOf_good (gl_c Fff_good (gl_c Ffn_good (gl_n)))) agree_mk (Checked.mixed Tryd.checked) Tryd.func126 (n:=1) (m:=0) ⟨rfl,rfl,by decide⟩ (fun _=>⟨rfl,rfl⟩) (fun a r h=>Ffk_run a r h)
def Ffb_A : Contract→List V:=oA encI_Contract
def Ffb_R (r : Bool) : V × List V:=(B (r),[])
noncomputable def Ffb_ent : Ent:=entT [false] Ffb_A Ffb_R fun x=>Ffb x
theorem Ffb_F {c_1 : Contract} {r} (h : Ffb c_1=some r) : (Ffb_ent).F (Ffb_A c_1)=some (Ffb_R r):=entT_F (oA_inj encI_Contract_inj) h
noncomputable def Ffb_c : Code:=bodyOf Tryd.f107
noncomputable def Ffb_E : Env:=mkE Tryd.prog [(124,Ffg_ent),(125,Ffl_ent),(126,Ffk_ent),(78,Ffo_ent)]
def Ffb_Q (x : Contract) (r : Bool) : St→Prop:=QF Ffb_E Tryd.f107 [false] (Ffb_A x) (Ffb_R r)
theorem Ffb_la_run (c_1 : Contract)  {Q : St→Prop} {K : List It} (hK : noD K=true) : ∀ (x4 : Int) (y : Bool ⊕ Unit),Ffb_la c_1 x4=some y→(∀ r',y=.inl r'→∀ st,Ffb_Q c_1 r' st→Q st)→(∀ u : Unit,y=.inr u→Run Ffb_E 0 Q K (sT 30 [(1,.hp 1 0 [] 2 0 0)] [⟨0,2,[.agg [.isl false ((c_1.Parties).map str),.isl false ((c_1.Clauses).map encI_Clause)]]⟩] 2))→Run Ffb_E 0 Q (.code (cL (cL (cR (cL (cR (cR Ffb_c)))))) :: .lp (cL (cL (cR (cL (cR (cR Ffb_c)))))) :: .blk 0 :: K) (sT 30 [(1,.hp 1 0 [] 2 0 0),(17,I ((len c_1.Clauses))),(18,I (x4))] [⟨0,2,[.agg [.isl false ((c_1.Parties).map str),.isl false ((c_1.Clauses).map encI_Clause)]]⟩] 2):=by
 refine fix_indP (Ffb_la_fin c_1) ?_
 intro self ih x4 y h hr hn
 unfold Ffb_la_F at h
 refine cq 5 [19] [B ((decide (x4 < (len c_1.Clauses))))] 18 ?_
 refine sq h (fun h=>?_) (fun h=>?_)
 · refine aq 1 ?_
   refine cq 11 [21,22] [.agg [.isl false ((c_1.Parties).map str),.isl false ((c_1.Clauses).map encI_Clause)],I (x4)] 82 ?_
   obtain ⟨r5,hr5,h⟩:=bS h
   refine oq 98 (B (r5)) rfl (e_callV rfl rfl (call_P rfl rfl rfl (avS (shP rfl) (avS (shP rfl) (avN))) (Ffl_F hr5) (.inr rfl) (bl_n) rfl rfl rfl)) ?_
   refine cq 2 [24] [B ((!r5))] 114 ?_
   refine sq h (fun h=>?_) (fun h=>?_)
   · refine cq 4 [2] [B (false)] 130 ?_
     exact s_ret rfl (hr _ (Option.some.inj h).symm _ ⟨_,fin (vs:=[B (false)]) rfl (absE (absorb_plain rfl) (absEN)) rfl (ou_f (ou_n)),kl_n⟩)
   · refine aq 1 ?_
     refine cq 5 [18] [I ((w64 (x4 + 1)))] 146 ?_
     refine s_lp ?_
     exact rf [1,17,18] [1] (ih _ _ h hr hn :)
 · refine aq 1 ?_
   exact rf [1] [1] (hn _ (Option.some.inj h).symm :) (hk:=hK)
theorem Ffb_run (c_1 : Contract) (r : Bool) (h : Ffb c_1=some r) : RunF Ffb_E Tryd.f107 [false] 0 (Ffb_A c_1) (Ffb_R r):=by
 show Run _ _ (Ffb_Q c_1 r) [.code Ffb_c] _
 refine rin (n:=30) [(0,.agg [.isl false ((c_1.Parties).map str),.isl false ((c_1.Clauses).map encI_Clause)])] [] 1 (by kernel_rfl) (by kernel_rfl) (by kernel_rfl) rfl ?_
 unfold Ffb at h
 refine ck 10 [1,5] [] [1] [] [.hp 1 0 [] 2 0 0,.isl false ((c_1.Parties).map str)] [some ⟨0,2,[.agg [.isl false ((c_1.Parties).map str),.isl false ((c_1.Clauses).map encI_Clause)]]⟩] 65 (by kernel_rfl) ?_
 obtain ⟨r2,hr2,h⟩:=bS h
 refine oq 81 (B (r2)) rfl (e_callV rfl rfl (call_P rfl rfl rfl (avS (shP rfl) (avN)) (Ffg_F hr2) (.inr rfl) (bl_n) rfl rfl rfl)) ?_
 refine cq 2 [8] [B ((!r2))] 113 ?_
 obtain ⟨y3,hy3,hy31,hy32⟩:=bJ h
 have j3 : ∀ u3,y3=.inr u3→Run Ffb_E 0 (Ffb_Q c_1 r) (.code (cR (cL (cR Ffb_c))) :: .code (cR (cR Ffb_c)) :: []) (sT 30 [(1,.hp 1 0 [] 2 0 0),(14,B (u3))] [⟨0,2,[.agg [.isl false ((c_1.Parties).map str),.isl false ((c_1.Clauses).map encI_Clause)]]⟩] 2):=by
   intro u3 hu
   replace h:=hy32 u3 hu
   refine sq h (fun h=>?_) (fun h=>?_)
   · refine cq 4 [2] [B (false)] 18 ?_
     obtain rfl:=Option.some.inj h
     exact s_ret rfl ⟨_,fin (vs:=[B (false)]) rfl (absE (absorb_plain rfl) (absEN)) rfl (ou_f (ou_n)),kl_n⟩
   · refine aq 1 ?_
     refine cq 5 [16] [.isl false ((c_1.Clauses).map encI_Clause)] 34 ?_
     refine oq 50 (I ((len c_1.Clauses))) rfl (e_len rfl rfl rfl (l_isl rfl)) ?_
     refine cq 3 [18] [I (0)] 66 ?_
     obtain ⟨y6,hy6,hy61,hy62⟩:=bJ h
     refine s_loop rfl ?_
     refine rf [1,17,18] [1] (Ffb_la_run c_1 rfl 0 _ hy6 (fun r' e st hq=>by rw [hy61 r' e] at hq; exact hq) fun u6 hu=>?_)
     replace h:=hy62 u6 hu
     refine cq 3 [26] [.agg [.isl false ((c_1.Parties).map str),.isl false ((c_1.Clauses).map encI_Clause)]] 18 ?_
     obtain ⟨r7,hr7,h⟩:=bS h
     refine oq 34 (.hs 18 0 [] 1 0 ((r7).map str).length) rfl (e_callV rfl rfl (call_P rfl rfl rfl (avS (shP rfl) (avN)) (Ffk_F hr7) (.inr rfl) (bl_n) rfl rfl rfl)) ?_
     refine oq 50 (I ((len r7))) rfl (e_len rfl rfl rfl (l_hsM (f:=str) (xs:=r7) rfl rfl)) ?_
     refine cq 3 [2] [B ((decide ((len r7) ≤ 16)))] 82 ?_
     obtain rfl:=Option.some.inj h
     exact s_ret rfl ⟨_,fin (vs:=[B ((decide ((len r7) ≤ 16)))]) rfl (absE (absorb_plain rfl) (absEN)) rfl (ou_f (ou_n)),kl_n⟩
 have r3 : ∀ r',y3=.inl r'→∀ st,Ffb_Q c_1 r' st→(Ffb_Q c_1 r) st:=fun r' e st hq=>by rw [hy31 r' e] at hq; exact hq
 replace h:=hy3
 refine sp 8 h rfl (fun h=>?_) (fun h=>?_)
 · refine cq 7 [14] [B (true)] 209 ?_
   exact rf [1,14] [1] (j3 _ (Option.some.inj h).symm :)
 · refine cq 2 [10] [.isl false ((c_1.Clauses).map encI_Clause)] 145 ?_
   refine oy 161 (I ((len c_1.Clauses))) rfl (e_len rfl rfl rfl (l_isl rfl)) ?_
   obtain ⟨r8,hr8,h⟩:=bS h
   refine oy 177 (B (r8)) rfl (e_callV rfl rfl (call_P rfl rfl rfl (avS (shP rfl) (avS (shP rfl) (avS (shP rfl) (avN)))) (Ffo_F hr8) (.inr rfl) (bl_n) rfl rfl rfl)) ?_
   refine cq 3 [14] [B ((!r8))] 209 ?_
   exact rf [1,14] [1] (j3 _ (Option.some.inj h).symm :)
theorem Ffb_good {G : Go.Ln.Ground} : Good Tryd.prog G 107 Ffb_ent:=good_T (fnOf_good (gl_c Ffg_good (gl_c Ffl_good (gl_c Ffk_good (gl_c Ffo_good (gl_n)))))) agree_mk (Checked.mixed Tryd.checked) Tryd.func107 (n:=1) (m:=0) ⟨rfl,rfl,by decide⟩ (fun _=>⟨rfl,rfl⟩) (fun a r h=>Ffb_run a r h)
def Ffbt_A : ((List Int) × Int)→List V:=cA (slE I) (oA I)
def Ffbt_R (r : Int) : V × List V:=(I (r),[])
noncomputable def Ffbt_ent : Ent:=entT [false,false] Ffbt_A Ffbt_R fun x=>Ffbt x.1 x.2
theorem Ffbt_F {s_1 : List Int} {v_2 : Int} {r} (h : Ffbt s_1 v_2=some r) : (Ffbt_ent).F (Ffbt_A (s_1,v_2))=some (Ffbt_R r):=entT_F (cA_inj (isl_inj I_inj) (oA_inj I_inj)) h
noncomputable def Ffbt_c : Code:=bodyOf Tryd.f129
noncomputable def Ffbt_E : Env:=mkE Tryd.prog []
def Ffbt_Q (x : (List Int) × Int) (r : Int) : St→Prop:=QF Ffbt_E Tryd.f129 [false,false] (Ffbt_A x) (Ffbt_R r)
theorem Ffbt_la_run (s_1 : List Int) (v_2 : Int)  {Q : St→Prop} {K : List It} (hK : noD K=true) : ∀ (x3 : Int) (y : Int ⊕ Unit),Ffbt_la s_1 v_2 x3=some y→(∀ r',y=.inl r'→∀ st,Ffbt_Q (s_1,v_2) r' st→Q st)→(∀ u : Unit,y=.inr u→Run Ffbt_E 0 Q K (sT 19 [] [] 1))→Run Ffbt_E 0 Q (.code (cL (cL (cR (cL (cR Ffbt_c))))) :: .lp (cL (cL (cR (cL (cR Ffbt_c))))) :: .blk 0 :: K) (sT 19 [(0,.isl false ((s_1).map I)),(1,I (v_2)),(7,I ((len s_1))),(8,I (x3))] [] 1):=by
 refine fix_indP (Ffbt_la_fin s_1 v_2) ?_
 intro self ih x3 y h hr hn
 unfold Ffbt_la_F at h
 refine cq 5 [9] [B ((decide (x3 < (len s_1))))] 17 ?_
 refine sq h (fun h=>?_) (fun h=>?_)
 · refine aq 1 ?_
   refine cq 12 [5,11,12,13] [I (x3),I (v_2),.isl false ((s_1).map I),I (x3)] 97 ?_
   obtain ⟨e4,he4,h⟩:=bS h
   refine oq 113 (.iptr (I (e4)) 0) rfl (e_indexAddr rfl rfl rfl (ix_islE rfl rfl rfl rfl he4)) ?_
   refine cq 3 [16] [B ((v_2 == e4))] 145 ?_
   refine sq h (fun h=>?_) (fun h=>?_)
   · refine cq 5 [4] [I (x3)] 177 ?_
     exact s_ret rfl (hr _ (Option.some.inj h).symm _ ⟨_,fin (vs:=[I (x3)]) rfl (absE (absorb_plain rfl) (absEN)) rfl (ou_f (ou_f (ou_n))),kl_n⟩)
   · refine aq 1 ?_
     refine cq 5 [8] [I ((w64 (x3 + 1)))] 177 ?_
     refine s_lp ?_
     exact rf [0,1,7,8] [] (ih _ _ h hr hn :)
 · refine aq 1 ?_
   exact rf [] [] (hn _ (Option.some.inj h).symm :) (hk:=hK)
theorem Ffbt_run (s_1 : List Int) (v_2 : Int) (r : Int) (h : Ffbt s_1 v_2=some r) : RunF Ffbt_E Tryd.f129 [false,false] 0 (Ffbt_A (s_1,v_2)) (Ffbt_R r):=by
 show Run _ _ (Ffbt_Q (s_1,v_2) r) [.code Ffbt_c] _
 refine rin (n:=19) [(0,.isl false ((s_1).map I)),(1,I (v_2))] [] 1 (by kernel_rfl) (by kernel_rfl) (by kernel_rfl) rfl ?_
 unfold Ffbt at h
 refine cq 8 [6] [.isl false ((s_1).map I)] 33 ?_
 refine oq 49 (I ((len s_1))) rfl (e_len rfl rfl rfl (l_isl rfl)) ?_
 refine cq 3 [8] [I (0)] 65 ?_
 obtain ⟨y5,hy5,hy51,hy52⟩:=bJ h
 refine s_loop rfl ?_
 refine rf [0,1,7,8] [] (Ffbt_la_run s_1 v_2 rfl 0 _ hy5 (fun r' e st hq=>by rw [hy51 r' e] at hq; exact hq) fun u5 hu=>?_)
 replace h:=hy52 u5 hu
 refine cq 4 [4] [I ((-1))] 17 ?_
 obtain rfl:=Option.some.inj h
 exact s_ret rfl ⟨_,fin (vs:=[I ((-1))]) rfl (absE (absorb_plain rfl) (absEN)) rfl (ou_f (ou_f (ou_n))),kl_n⟩
theorem Ffbt_good {G : Go.Ln.Ground} : Good Tryd.prog G 129 Ffbt_ent:=good_T (fnOf_good (gl_n)) agree_mk (Checked.mixed Tryd.checked) Tryd.func129 (n:=2) (m:=0) ⟨rfl,rfl,by decide⟩ (fun _=>⟨rfl,rfl⟩) (fun a r h=>Ffbt_run a.1 a.2 r h)
def Ffbq_A : ((List Int) × Int)→List V:=cA (slE I) (oA I)
def Ffbq_R (r : Bool) : V × List V:=(B (r),[])
noncomputable def Ffbq_ent : Ent:=entT [false,false] Ffbq_A Ffbq_R fun x=>Ffbq x.1 x.2
theorem Ffbq_F {s_1 : List Int} {v_2 : Int} {r} (h : Ffbq s_1 v_2=some r) : (Ffbq_ent).F (Ffbq_A (s_1,v_2))=some (Ffbq_R r):=entT_F (cA_inj (isl_inj I_inj) (oA_inj I_inj)) h
noncomputable def Ffbq_c : Code:=bodyOf Tryd.f109
noncomputable def Ffbq_E : Env:=mkE Tryd.prog [(129,Ffbt_ent)]
def Ffbq_Q (x : (List Int) × Int) (r : Bool) : St→Prop:=QF Ffbq_E Tryd.f109 [false,false] (Ffbq_A x) (Ffbq_R r)
theorem Ffbq_run (s_1 : List Int) (v_2 : Int) (r : Bool) (h : Ffbq s_1 v_2=some r) : RunF Ffbq_E Tryd.f109 [false,false] 0 (Ffbq_A (s_1,v_2)) (Ffbq_R r):=by
 show Run _ _ (Ffbq_Q (s_1,v_2) r) [.code Ffbq_c] _
 refine rin (n:=9) [(0,.isl false ((s_1).map I)),(1,I (v_2))] [] 1 (by kernel_rfl) (by kernel_rfl) (by kernel_rfl) rfl ?_
 unfold Ffbq at h
 refine cq 8 [5,6] [.isl false ((s_1).map I),I (v_2)] 49 ?_
 obtain ⟨r3,hr3,h⟩:=bS h
 refine oq 65 (I (r3)) rfl (e_callV rfl rfl (call_P rfl rfl rfl (avS (shP rfl) (avS (shP rfl) (avN))) (Ffbt_F hr3) (.inr rfl) (bl_n) rfl rfl rfl)) ?_
 refine cq 3 [4] [B ((decide (r3 ≥ 0)))] 97 ?_
 obtain rfl:=Option.some.inj h
 exact s_ret rfl ⟨_,fin (vs:=[B ((decide (r3 ≥ 0)))]) rfl (absE (absorb_plain rfl) (absEN)) rfl (ou_f (ou_f (ou_n))),kl_n⟩
theorem Ffbq_good {G : Go.Ln.Ground} : Good Tryd.prog G 109 Ffbq_ent:=good_T (fnOf_good (gl_c Ffbt_good (gl_n))) agree_mk (Checked.mixed Tryd.checked) Tryd.func109 (n:=2) (m:=0) ⟨rfl,rfl,by decide⟩ (fun _=>⟨rfl,rfl⟩) (fun a r h=>Ffbq_run a.1 a.2 r h)
def Ffe_A : (Contract × Int)→List V:=cA encI_Contract (oA I)
def Ffe_R (r : (List Int) × Bool × Bool) : V × List V:=(.tup [.usl 1 ((r.1).map I),B (r.2.1),B (r.2.2)],[])
noncomputable def Ffe_ent : Ent:=entT [false,false] Ffe_A Ffe_R fun x=>Ffe x.1 x.2
theorem Ffe_F {c_1 : Contract} {i_2 : Int} {r} (h : Ffe c_1 i_2=some r) : (Ffe_ent).F (Ffe_A (c_1,i_2))=some (Ffe_R r):=entT_F (cA_inj encI_Contract_inj (oA_inj I_inj)) h
noncomputable def Ffe_c : Code:=bodyOf Tryd.f67
noncomputable def Ffe_E : Env:=mkE Tryd.prog [(107,Ffb_ent),(108,Ffh_ent),(109,Ffbq_ent),(78,Ffo_ent)]
def Ffe_Q (x : Contract × Int) (r : (List Int) × Bool × Bool) : St→Prop:=QF Ffe_E Tryd.f67 [false,false] (Ffe_A x) (Ffe_R r)
theorem Ffe_la_run (c_1 : Contract) (i_2 : Int)  {Q : St→Prop} {K : List It} (hK : noD K=true) : ∀ (x5 : Int × (List Int)) (y : ((List Int) × Bool × Bool) ⊕ ((List Int))),Ffe_la c_1 i_2 x5=some y→(∀ r',y=.inl r'→∀ st,Ffe_Q (c_1,i_2) r' st→Q st)→(∀ u : (List Int),y=.inr u→Run Ffe_E 0 Q K (sT 46 [(7,.hs 1 0 [] 1 0 ((u).map I).length)] [⟨0,1,(u).map I⟩] 2))→Run Ffe_E 0 Q (.code (cL (cL (cL (cR (cR (cR Ffe_c)))))) :: .lp (cL (cL (cL (cR (cR (cR Ffe_c)))))) :: .blk 0 :: K) (sT 46 [(1,I (x5.1)),(2,.hp 1 0 [] 2 0 0),(7,.hs 2 0 [] 1 0 ((x5.2).map I).length)] [⟨0,2,[.agg [.isl false ((c_1.Parties).map str),.isl false ((c_1.Clauses).map encI_Clause)]]⟩,⟨0,1,(x5.2).map I⟩] 3):=by
 refine fix_indP (Ffe_la_fin c_1 i_2) ?_
 intro self ih x5 y h hr hn
 unfold Ffe_la_F at h
 refine cq 6 [23,24] [.isl false ((c_1.Clauses).map encI_Clause),I (x5.1)] 51 ?_
 obtain ⟨e6,he6,h⟩:=bS h
 refine oq 67 (.iptr (.agg [str (e6.Id),I (e6.Kind),I (e6.Party),str (e6.Action),I (e6.Other),I (e6.Amount),I (e6.When.Op),str (e6.When.Name),I (e6.When.Day),.isl false ((e6.When.Parts).map encI_Condition),I (e6.Within),str (e6.Repair)]) 0) rfl (e_indexAddr rfl rfl rfl (ix_islE rfl rfl rfl rfl he6)) ?_
 refine cq 4 [28] [B ((!(e6.Repair == ([] : Str))))] 115 ?_
 refine sq h (fun h=>?_) (fun h=>?_)
 · refine aq 1 ?_
   refine aq 3 ?_
   refine s_draw [0,0,2,0,14,30,62,127,255] rfl (by decide +kernel) ?_
   refine dq [1] [] (.agg [.isl false ((c_1.Parties).map str),.isl false ((c_1.Clauses).map encI_Clause)]) rfl (e_ld rfl rfl) ?_
   refine dq [1] [] (.hp 1 0 [] 2 0 1) rfl (e_fieldAddr rfl rfl rfl) ?_
   refine dq [1] [] (.isl false ((c_1.Clauses).map encI_Clause)) rfl (e_ld rfl rfl) ?_
   refine dk 1 [32] [I (x5.1)] ?_
   obtain ⟨e7,he7,h⟩:=bS h
   refine dq [] [] (.iptr (.agg [str (e7.Id),I (e7.Kind),I (e7.Party),str (e7.Action),I (e7.Other),I (e7.Amount),I (e7.When.Op),str (e7.When.Name),I (e7.When.Day),.isl false ((e7.When.Parts).map encI_Condition),I (e7.Within),str (e7.Repair)]) 0) rfl (e_indexAddr rfl rfl rfl (ix_islE rfl rfl rfl rfl he7)) ?_
   refine dq [] [] (.iptr (.agg [str (e7.Id),I (e7.Kind),I (e7.Party),str (e7.Action),I (e7.Other),I (e7.Amount),I (e7.When.Op),str (e7.When.Name),I (e7.When.Day),.isl false ((e7.When.Parts).map encI_Condition),I (e7.Within),str (e7.Repair)]) 11) rfl (e_fieldAddr rfl rfl rfl) ?_
   refine dq [] [] (str (e7.Repair)) rfl (e_ld rfl rfl) ?_
   obtain ⟨r8,hr8,h⟩:=bS h
   refine dq [] [] (I (r8)) rfl (e_callV rfl rfl (call_P rfl rfl rfl (avS (shP rfl) (avS (shP rfl) (avN))) (Ffh_F hr8) (.inr rfl) (bl_n) rfl rfl rfl)) ?_ (w_callO rfl rfl rfl rfl (avS (shP rfl) (avS (shP rfl) (avN))) (Ffh_F hr8) (.inr rfl) rfl)
   refine dk 1 [1] [I (r8)] ?_
   refine de 259 rfl rfl ?_
   refine cq 4 [37,38] [.hs 2 0 [] 1 0 ((x5.2).map I).length,I (r8)] 291 ?_
   obtain ⟨r9,hr9,h⟩:=bS h
   refine oq 307 (B (r9)) rfl (e_callV rfl rfl (call_P rfl rfl rfl (avS (sh1 rfl rfl (sh_hsM (f:=I) (g:=I) (xs:=x5.2) rfl rfl (imms_of I_imm))) (avS (shP rfl) (avN))) (Ffbq_F hr9) (.inl (rfl)) (bl_n) rfl rfl rfl)) ?_
   refine aq 1 ?_
   refine sq h (fun h=>?_) (fun h=>?_)
   · refine cq 7 [4,5,6] [.hs 2 0 [] 1 0 ((x5.2).map I).length,B (true),B (true)] 371 ?_
     exact s_ret rfl (hr _ (Option.some.inj h).symm _ ⟨_,fin (vs:=[.hs 2 0 [] 1 0 ((x5.2).map I).length,B (true),B (true)]) rfl (absE (abs1 rfl (abs_hs rfl rfl)) (absE (absorb_plain rfl) (absE (absorb_plain rfl) (absEN)))) rfl (ou_f (ou_f (ou_n))),kl_n⟩)
   · refine aq 1 ?_
     refine cq 3 [41,42] [.hs 2 0 [] 1 0 ((x5.2).map I).length,I (r8)] 339 ?_
     refine oq 355 (.hs 339 0 [] 1 0 1) rfl (e_buildSlice rfl (bs_mk (f:=I) (xs:=[]) (z:=I (0)) (es:=[I (r8)]) (ws:=[I (r8)]) rfl rfl rfl (by decide) rfl (abs_each_plain rfl) rfl)) ?_
     obtain ⟨a10,ha10,h⟩:=bS h
     refine oq 371 (.hs 355 0 [] 1 0 ((a10).map I).length) rfl (e_append rfl rfl rfl rfl rfl (ap_hsM (path:=[]) (f:=I) (xs:=x5.2) (ys:=[r8]) rfl rfl (take_hs rfl rfl rfl) rfl rfl rfl (ra_n) rfl (by decide) I_cells ha10 rfl (to_n))) ?_
     refine cq 3 [7] [.hs 355 0 [] 1 0 ((a10).map I).length] 387 ?_
     refine s_lp ?_
     exact rf [1,2,7] [1,355] (ih _ _ h hr hn :)
 · refine aq 1 ?_
   exact rf [7] [2] (hn _ (Option.some.inj h).symm :) (hk:=hK)
theorem Ffe_run (c_1 : Contract) (i_2 : Int) (r : (List Int) × Bool × Bool) (h : Ffe c_1 i_2=some r) : RunF Ffe_E Tryd.f67 [false,false] 0 (Ffe_A (c_1,i_2)) (Ffe_R r):=by
 show Run _ _ (Ffe_Q (c_1,i_2) r) [.code Ffe_c] _
 refine rin (n:=46) [(0,.agg [.isl false ((c_1.Parties).map str),.isl false ((c_1.Clauses).map encI_Clause)]),(1,I (i_2))] [] 1 (by kernel_rfl) (by kernel_rfl) (by kernel_rfl) rfl ?_
 unfold Ffe at h
 refine ck 11 [2,8] [] [1] [] [.hp 1 0 [] 2 0 0,.agg [.isl false ((c_1.Parties).map str),.isl false ((c_1.Clauses).map encI_Clause)]] [some ⟨0,2,[.agg [.isl false ((c_1.Parties).map str),.isl false ((c_1.Clauses).map encI_Clause)]]⟩] 81 (by kernel_rfl) ?_
 obtain ⟨r3,hr3,h⟩:=bS h
 refine oq 97 (B (r3)) rfl (e_callV rfl rfl (call_P rfl rfl rfl (avS (shP rfl) (avN)) (Ffb_F hr3) (.inr rfl) (bl_n) rfl rfl rfl)) ?_
 refine cq 2 [11] [B ((!r3))] 129 ?_
 obtain ⟨y4,hy4,hy41,hy42⟩:=bJ h
 have j4 : ∀ u4,y4=.inr u4→Run Ffe_E 0 (Ffe_Q (c_1,i_2) r) (.code (cR (cL (cR Ffe_c))) :: .code (cR (cR Ffe_c)) :: []) (sT 46 [(1,I (i_2)),(2,.hp 1 0 [] 2 0 0),(19,B (u4))] [⟨0,2,[.agg [.isl false ((c_1.Parties).map str),.isl false ((c_1.Clauses).map encI_Clause)]]⟩] 2):=by
   intro u4 hu
   replace h:=hy42 u4 hu
   refine sq h (fun h=>?_) (fun h=>?_)
   · refine cq 6 [4,5,6] [.isl true [],B (false),B (false)] 50 ?_
     refine run_own 4 0 1 66 (.hs 50 0 [] 1 0 0) rfl rfl rfl rfl rfl ?_
     obtain rfl:=Option.some.inj h
     exact s_ret rfl ⟨_,fin (vs:=[.hs 50 0 [] 1 0 0,B (false),B (false)]) rfl (absE (abs1 rfl (abs_hs (k:=0) (es:=[]) rfl rfl)) (absE (absorb_plain rfl) (absE (absorb_plain rfl) (absEN)))) rfl (ou_f (ou_f (ou_n))),kl_n⟩
   · refine aq 1 ?_
     refine cq 3 [20] [I (i_2)] 18 ?_
     refine oq 34 (.hs 18 0 [] 1 0 1) rfl (e_buildSlice rfl (bs_mk (f:=I) (xs:=[]) (z:=I (0)) (es:=[I (i_2)]) (ws:=[I (i_2)]) rfl rfl rfl (by decide) rfl (abs_each_plain rfl) rfl)) ?_
     refine cq 4 [7] [.hs 18 0 [] 1 0 1] 50 ?_
     obtain ⟨y11,hy11,hy111,hy112⟩:=bJ h
     refine s_loop rfl ?_
     refine rf [1,2,7] [1,18] (Ffe_la_run c_1 i_2 rfl (i_2,[i_2]) _ hy11 (fun r' e st hq=>by rw [hy111 r' e] at hq; exact hq) fun u11 hu=>?_)
     replace h:=hy112 u11 hu
     refine cq 7 [4,5,6] [.hs 1 0 [] 1 0 ((u11).map I).length,B (false),B (true)] 66 ?_
     obtain rfl:=Option.some.inj h
     exact s_ret rfl ⟨_,fin (vs:=[.hs 1 0 [] 1 0 ((u11).map I).length,B (false),B (true)]) rfl (absE (abs1 rfl (abs_hs rfl rfl)) (absE (absorb_plain rfl) (absE (absorb_plain rfl) (absEN)))) rfl (ou_f (ou_f (ou_n))),kl_n⟩
 have r4 : ∀ r',y4=.inl r'→∀ st,Ffe_Q (c_1,i_2) r' st→(Ffe_Q (c_1,i_2) r) st:=fun r' e st hq=>by rw [hy41 r' e] at hq; exact hq
 replace h:=hy4
 refine sp 11 h rfl (fun h=>?_) (fun h=>?_)
 · refine cq 9 [19] [B (true)] 257 ?_
   exact rf [1,2,19] [1] (j4 _ (Option.some.inj h).symm :)
 · refine cq 3 [12,14] [I (i_2),.isl false ((c_1.Clauses).map encI_Clause)] 177 ?_
   refine oy 193 (I ((len c_1.Clauses))) rfl (e_len rfl rfl rfl (l_isl rfl)) ?_
   refine cq 1 [16] [I ((w64 ((len c_1.Clauses) - 1)))] 209 ?_
   obtain ⟨r12,hr12,h⟩:=bS h
   refine oy 225 (B (r12)) rfl (e_callV rfl rfl (call_P rfl rfl rfl (avS (shP rfl) (avS (shP rfl) (avS (shP rfl) (avN)))) (Ffo_F hr12) (.inr rfl) (bl_n) rfl rfl rfl)) ?_
   refine cq 3 [19] [B ((!r12))] 257 ?_
   exact rf [1,2,19] [1] (j4 _ (Option.some.inj h).symm :)
theorem Ffe_good {G : Go.Ln.Ground} : Good Tryd.prog G 67 Ffe_ent:=good_T (fnOf_good (gl_c Ffb_good (gl_c Ffh_good (gl_c Ffbq_good (gl_c Ffo_good (gl_n)))))) agree_mk (Checked.mixed Tryd.checked) Tryd.func67 (n:=2) (m:=0) ⟨rfl,rfl,by decide⟩ (fun _=>⟨rfl,rfl⟩) (fun a r h=>Ffe_run a.1 a.2 r h)
def Ffd_A : (Contract × Int)→List V:=cA encI_Contract (oA I)
def Ffd_R (r : Int × Bool) : V × List V:=(.tup [I (r.1),B (r.2)],[])
noncomputable def Ffd_ent : Ent:=entT [false,false] Ffd_A Ffd_R fun x=>Ffd x.1 x.2
theorem Ffd_F {c_1 : Contract} {i_2 : Int} {r} (h : Ffd c_1 i_2=some r) : (Ffd_ent).F (Ffd_A (c_1,i_2))=some (Ffd_R r):=entT_F (cA_inj encI_Contract_inj (oA_inj I_inj)) h
noncomputable def Ffd_c : Code:=bodyOf Tryd.f24
noncomputable def Ffd_E : Env:=mkE Tryd.prog [(67,Ffe_ent)]
def Ffd_Q (x : Contract × Int) (r : Int × Bool) : St→Prop:=QF Ffd_E Tryd.f24 [false,false] (Ffd_A x) (Ffd_R r)
theorem Ffd_la_run (c_1 : Contract) (i_2 : Int) (r3 : (List Int) × Bool × Bool) {Q : St→Prop} {K : List It} (hK : noD K=true) : ∀ (x5 : Int × Int) (y : (Int × Bool) ⊕ Int),Ffd_la c_1 i_2 r3 x5=some y→(∀ r',y=.inl r'→∀ st,Ffd_Q (c_1,i_2) r' st→Q st)→(∀ u : Int,y=.inr u→Run Ffd_E 0 Q K (sT 40 [(9,I (u))] [] 1))→Run Ffd_E 0 Q (.code (cL (cL (cR (cL (cR (cR (cR (cR Ffd_c)))))))) :: .lp (cL (cL (cR (cL (cR (cR (cR (cR Ffd_c)))))))) :: .blk 0 :: K) (sT 40 [(2,.hp 1 0 [] 2 0 0),(9,I (x5.1)),(24,.hs 2 0 [] 1 0 ((r3.1).map I).length),(25,I ((len r3.1))),(26,I (x5.2))] [⟨0,2,[.agg [.isl false ((c_1.Parties).map str),.isl false ((c_1.Clauses).map encI_Clause)]]⟩,⟨0,1,(r3.1).map I⟩] 3):=by
 refine fix_indP (Ffd_la_fin c_1 i_2 r3) ?_
 intro self ih x5 y h hr hn
 unfold Ffd_la_F at h
 refine cq 5 [27] [B ((decide (x5.2 < (len r3.1))))] 19 ?_
 refine sq h (fun h=>?_) (fun h=>?_)
 · refine aq 1 ?_
   refine aq 4 ?_
   obtain ⟨e6,he6,h⟩:=bS h
   refine oq 35 (.hp 2 0 [] 1 (0 + Int.toNat (x5.2)) 0) rfl (e_indexAddr rfl rfl rfl (ix_hsM (f:=I) (xs:=r3.1) rfl rfl rfl he6)) ?_
   refine oq 51 (I (e6)) rfl (e_ld rfl (ld_at (path:=[]) rfl rfl rfl (ra_n) (get_map (f:=I) (xs:=r3.1) he6) rfl rfl rfl)) ?_
   refine cq 7 [30,32,33] [I (x5.1),.isl false ((c_1.Clauses).map encI_Clause),I (e6)] 131 ?_
   obtain ⟨e7,he7,h⟩:=bS h
   refine oq 147 (.iptr (.agg [str (e7.Id),I (e7.Kind),I (e7.Party),str (e7.Action),I (e7.Other),I (e7.Amount),I (e7.When.Op),str (e7.When.Name),I (e7.When.Day),.isl false ((e7.When.Parts).map encI_Condition),I (e7.Within),str (e7.Repair)]) 0) rfl (e_indexAddr rfl rfl rfl (ix_islE rfl rfl rfl rfl he7)) ?_
   refine cq 10 [9,26] [I ((w64 (x5.1 + e7.Amount))),I ((w64 (x5.2 + 1)))] 243 ?_
   refine s_lp ?_
   exact rf [2,9,24,25,26] [1,2] (ih _ _ h hr hn :)
 · refine aq 1 ?_
   exact rf [9] [] (hn _ (Option.some.inj h).symm :) (hk:=hK)
theorem Ffd_run (c_1 : Contract) (i_2 : Int) (r : Int × Bool) (h : Ffd c_1 i_2=some r) : RunF Ffd_E Tryd.f24 [false,false] 0 (Ffd_A (c_1,i_2)) (Ffd_R r):=by
 show Run _ _ (Ffd_Q (c_1,i_2) r) [.code Ffd_c] _
 refine rin (n:=40) [(0,.agg [.isl false ((c_1.Parties).map str),.isl false ((c_1.Clauses).map encI_Clause)]),(1,I (i_2))] [] 1 (by kernel_rfl) (by kernel_rfl) (by kernel_rfl) rfl ?_
 unfold Ffd at h
 refine ck 10 [2,13,14] [] [1] [] [.hp 1 0 [] 2 0 0,.agg [.isl false ((c_1.Parties).map str),.isl false ((c_1.Clauses).map encI_Clause)],I (i_2)] [some ⟨0,2,[.agg [.isl false ((c_1.Parties).map str),.isl false ((c_1.Clauses).map encI_Clause)]]⟩] 81 (by kernel_rfl) ?_
 obtain ⟨r3,hr3,h⟩:=bS h
 refine oq 97 (.tup [.hs 81 0 [] 1 0 ((r3.1).map I).length,B (r3.2.1),B (r3.2.2)]) rfl (e_callV rfl rfl (call_P rfl rfl rfl (avS (shP rfl) (avS (shP rfl) (avN))) (Ffe_F hr3) (.inr rfl) (bl_n) rfl rfl rfl)) ?_
 refine cq 14 [6,7,21] [.hs 81 0 [] 1 0 ((r3.1).map I).length,B (r3.2.1),B ((!r3.2.2))] 257 ?_
 obtain ⟨u4,hu4,h⟩:=lJ h
 have j4 : Run Ffd_E 0 (Ffd_Q (c_1,i_2) r) (.code (cR (cL (cR (cR Ffd_c)))) :: .code (cR (cR (cR Ffd_c))) :: []) (sT 40 [(2,.hp 1 0 [] 2 0 0),(6,.hs 2 0 [] 1 0 ((r3.1).map I).length),(23,B (u4))] [⟨0,2,[.agg [.isl false ((c_1.Parties).map str),.isl false ((c_1.Clauses).map encI_Clause)]]⟩,⟨0,1,(r3.1).map I⟩] 3):=by
   refine sq h (fun h=>?_) (fun h=>?_)
   · refine cq 5 [4,5] [I (0),B (false)] 35 ?_
     obtain rfl:=Option.some.inj h
     exact s_ret rfl ⟨_,fin (vs:=[I (0),B (false)]) rfl (absE (absorb_plain rfl) (absE (absorb_plain rfl) (absEN))) rfl (ou_f (ou_f (ou_n))),kl_n⟩
   · refine aq 1 ?_
     refine cq 8 [9,24] [I (0),.hs 2 0 [] 1 0 ((r3.1).map I).length] 35 ?_
     refine oq 51 (I ((len r3.1))) rfl (e_len rfl rfl rfl (l_hsM (f:=I) (xs:=r3.1) rfl rfl)) ?_
     refine cq 3 [26] [I (0)] 67 ?_
     obtain ⟨y8,hy8,hy81,hy82⟩:=bJ h
     refine s_loop rfl ?_
     refine rf [2,9,24,25,26] [1,2] (Ffd_la_run c_1 i_2 r3 rfl (0,0) _ hy8 (fun r' e st hq=>by rw [hy81 r' e] at hq; exact hq) fun u8 hu=>?_)
     replace h:=hy82 u8 hu
     refine cq 6 [4,5] [I (u8),B (true)] 49 ?_
     obtain rfl:=Option.some.inj h
     exact s_ret rfl ⟨_,fin (vs:=[I (u8),B (true)]) rfl (absE (absorb_plain rfl) (absE (absorb_plain rfl) (absEN))) rfl (ou_f (ou_f (ou_n))),kl_n⟩
 replace h:=hu4
 clear hu4
 refine sp 21 h rfl (fun h=>?_) (fun h=>?_)
 · refine cq 3 [23] [B (true)] 289 ?_
   subst h
   exact rf [2,6,23] [1,81] (j4 :)
 · refine cq 3 [23] [B (r3.2.1)] 289 ?_
   subst h
   exact rf [2,6,23] [1,81] (j4 :)
theorem Ffd_good {G : Go.Ln.Ground} : Good Tryd.prog G 24 Ffd_ent:=good_T (fnOf_good (gl_c Ffe_good (gl_n))) agree_mk (Checked.mixed Tryd.checked) Tryd.func24 (n:=2) (m:=0) ⟨rfl,rfl,by decide⟩ (fun _=>⟨rfl,rfl⟩) (fun a r h=>Ffd_run a.1 a.2 r h)
def Ffx_A : ((List Str) × (List Str))→List V:=cA (slE str) (oA (slE str))
def Ffx_R (r : Bool) : V × List V:=(B (r),[])
noncomputable def Ffx_ent : Ent:=entT [false,false] Ffx_A Ffx_R fun x=>Ffx x.1 x.2
theorem Ffx_F {a_1 : List Str} {b_2 : List Str} {r} (h : Ffx a_1 b_2=some r) : (Ffx_ent).F (Ffx_A (a_1,b_2))=some (Ffx_R r):=entT_F (cA_inj (isl_inj str_inj) (oA_inj (isl_inj str_inj))) h
noncomputable def Ffx_c : Code:=bodyOf Tryd.f68
noncomputable def Ffx_E : Env:=mkE Tryd.prog []
def Ffx_Q (x : (List Str) × (List Str)) (r : Bool) : St→Prop:=QF Ffx_E Tryd.f68 [false,false] (Ffx_A x) (Ffx_R r)
theorem Ffx_la_run (a_1 : List Str) (b_2 : List Str)  {Q : St→Prop} {K : List It} (hK : noD K=true) : ∀ (x3 : Int) (y : Bool ⊕ Unit),Ffx_la a_1 b_2 x3=some y→(∀ r',y=.inl r'→∀ st,Ffx_Q (a_1,b_2) r' st→Q st)→(∀ u : Unit,y=.inr u→Run Ffx_E 0 Q K (sT 26 [] [] 1))→Run Ffx_E 0 Q (.code (cL (cL (cR (cL (cR (cR Ffx_c)))))) :: .lp (cL (cL (cR (cL (cR (cR Ffx_c)))))) :: .blk 0 :: K) (sT 26 [(0,.isl false ((a_1).map str)),(1,.isl false ((b_2).map str)),(5,I (x3))] [] 1):=by
 refine fix_indP (Ffx_la_fin a_1 b_2) ?_
 intro self ih x3 y h hr hn
 unfold Ffx_la_F at h
 refine cq 5 [11,12] [I (x3),.isl false ((a_1).map str)] 33 ?_
 refine oq 49 (I ((len a_1))) rfl (e_len rfl rfl rfl (l_isl rfl)) ?_
 refine cq 2 [14] [B ((decide (x3 < (len a_1))))] 65 ?_
 refine sq h (fun h=>?_) (fun h=>?_)
 · refine aq 1 ?_
   refine aq 3 ?_
   refine s_draw [0,0,3,7,0,0,48,112,255] rfl (by decide +kernel) ?_
   refine dk 2 [18,17] [I (x3),.isl false ((a_1).map str)] ?_
   obtain ⟨e4,he4,h⟩:=bS h
   refine dq [] [] (.iptr (str (e4)) 0) rfl (e_indexAddr rfl rfl rfl (ix_islE rfl rfl rfl rfl he4)) ?_
   refine dq [] [] (str (e4)) rfl (e_ld rfl rfl) ?_
   refine dk 2 [22,21] [I (x3),.isl false ((b_2).map str)] ?_
   obtain ⟨e5,he5,h⟩:=bS h
   refine dq [] [] (.iptr (str (e5)) 0) rfl (e_indexAddr rfl rfl rfl (ix_islE rfl rfl rfl rfl he5)) ?_
   refine dq [] [] (str (e5)) rfl (e_ld rfl rfl) ?_
   refine dk 1 [25] [B ((!(e4 == e5)))] ?_
   refine de 209 rfl rfl ?_
   refine sq h (fun h=>?_) (fun h=>?_)
   · refine cq 4 [4] [B (false)] 225 ?_
     exact s_ret rfl (hr _ (Option.some.inj h).symm _ ⟨_,fin (vs:=[B (false)]) rfl (absE (absorb_plain rfl) (absEN)) rfl (ou_f (ou_f (ou_n))),kl_n⟩)
   · refine aq 1 ?_
     refine cq 6 [5] [I ((w64 (x3 + 1)))] 257 ?_
     refine s_lp ?_
     exact rf [0,1,5] [] (ih _ _ h hr hn :)
 · refine aq 1 ?_
   exact rf [] [] (hn _ (Option.some.inj h).symm :) (hk:=hK)
theorem Ffx_run (a_1 : List Str) (b_2 : List Str) (r : Bool) (h : Ffx a_1 b_2=some r) : RunF Ffx_E Tryd.f68 [false,false] 0 (Ffx_A (a_1,b_2)) (Ffx_R r):=by
 show Run _ _ (Ffx_Q (a_1,b_2) r) [.code Ffx_c] _
 refine rin (n:=26) [(0,.isl false ((a_1).map str)),(1,.isl false ((b_2).map str))] [] 1 (by kernel_rfl) (by kernel_rfl) (by kernel_rfl) rfl ?_
 unfold Ffx at h
 refine cq 8 [6] [.isl false ((a_1).map str)] 33 ?_
 refine oq 49 (I ((len a_1))) rfl (e_len rfl rfl rfl (l_isl rfl)) ?_
 refine cq 1 [8] [.isl false ((b_2).map str)] 65 ?_
 refine oq 81 (I ((len b_2))) rfl (e_len rfl rfl rfl (l_isl rfl)) ?_
 refine cq 2 [10] [B (((len a_1) != (len b_2)))] 97 ?_
 refine sq h (fun h=>?_) (fun h=>?_)
 · refine cq 4 [4] [B (false)] 113 ?_
   obtain rfl:=Option.some.inj h
   exact s_ret rfl ⟨_,fin (vs:=[B (false)]) rfl (absE (absorb_plain rfl) (absEN)) rfl (ou_f (ou_f (ou_n))),kl_n⟩
 · refine aq 1 ?_
   refine cq 6 [5] [I (0)] 113 ?_
   obtain ⟨y6,hy6,hy61,hy62⟩:=bJ h
   refine s_loop rfl ?_
   refine rf [0,1,5] [] (Ffx_la_run a_1 b_2 rfl 0 _ hy6 (fun r' e st hq=>by rw [hy61 r' e] at hq; exact hq) fun u6 hu=>?_)
   replace h:=hy62 u6 hu
   refine cq 4 [4] [B (true)] 17 ?_
   obtain rfl:=Option.some.inj h
   exact s_ret rfl ⟨_,fin (vs:=[B (true)]) rfl (absE (absorb_plain rfl) (absEN)) rfl (ou_f (ou_f (ou_n))),kl_n⟩
theorem Ffx_good {G : Go.Ln.Ground} : Good Tryd.prog G 68 Ffx_ent:=good_T (fnOf_good (gl_n)) agree_mk (Checked.mixed Tryd.checked) Tryd.func68 (n:=2) (m:=0) ⟨rfl,rfl,by decide⟩ (fun _=>⟨rfl,rfl⟩) (fun a r h=>Ffx_run a.1 a.2 r h)
def Fft_A : (Condition × Condition)→List V:=cA encI_Condition1 (oA encI_Condition1)
def Fft_R (r : Bool) : V × List V:=(B (r),[])
noncomputable def Fft_entS (slf_Fft : (Condition × Condition)→Option Bool) : Ent:=entT [false,false] Fft_A Fft_R slf_Fft
theorem Fft_FS (slf_Fft : (Condition × Condition)→Option Bool) {x} {r} (h : slf_Fft x=some r) : (Fft_entS slf_Fft).F (Fft_A x)=some (Fft_R r):=entT_F (cA_inj encI_Condition1_inj (oA_inj encI_Condition1_inj)) h
def Ffv_A : ((List Condition) × (List Condition))→List V:=cA (slE encI_Condition) (oA (slE encI_Condition))
def Ffv_R (r : Bool) : V × List V:=(B (r),[])
noncomputable def Ffv_ent (slf_Fft : (Condition × Condition)→Option Bool) : Ent:=entT [false,false] Ffv_A Ffv_R fun x=>Ffv slf_Fft x.1 x.2
theorem Ffv_F (slf_Fft : (Condition × Condition)→Option Bool) {a_1 : List Condition} {b_2 : List Condition} {r} (h : Ffv slf_Fft a_1 b_2=some r) : (Ffv_ent slf_Fft).F (Ffv_A (a_1,b_2))=some (Ffv_R r):=entT_F (cA_inj (isl_inj encI_Condition_inj) (oA_inj (isl_inj encI_Condition_inj))) h
noncomputable def Ffv_c : Code:=bodyOf Tryd.f42
noncomputable def Ffv_E (slf_Fft : (Condition × Condition)→Option Bool) : Env:=mkE Tryd.prog [(12,(Fft_entS slf_Fft))]
def Ffv_Q (slf_Fft : (Condition × Condition)→Option Bool) (x : (List Condition) × (List Condition)) (r : Bool) : St→Prop:=QF (Ffv_E slf_Fft) Tryd.f42 [false,false] (Ffv_A x) (Ffv_R r)
theorem Ffv_la_run (slf_Fft : (Condition × Condition)→Option Bool) (a_1 : List Condition) (b_2 : List Condition)  {Q : St→Prop} {K : List It} (hK : noD K=true) : ∀ (x3 : Int) (y : Bool ⊕ Unit),Ffv_la slf_Fft a_1 b_2 x3=some y→(∀ r',y=.inl r'→∀ st,Ffv_Q slf_Fft (a_1,b_2) r' st→Q st)→(∀ u : Unit,y=.inr u→Run (Ffv_E slf_Fft) 0 Q K (sT 27 [] [] 1))→Run (Ffv_E slf_Fft) 0 Q (.code (cL (cL (cR (cL (cR (cR Ffv_c)))))) :: .lp (cL (cL (cR (cL (cR (cR Ffv_c)))))) :: .blk 0 :: K) (sT 27 [(0,.isl false ((a_1).map encI_Condition)),(1,.isl false ((b_2).map encI_Condition)),(5,I (x3))] [] 1):=by
 refine fix_indP (Ffv_la_fin slf_Fft a_1 b_2) ?_
 intro self ih x3 y h hr hn
 unfold Ffv_la_F at h
 refine cq 5 [11,12] [I (x3),.isl false ((a_1).map encI_Condition)] 33 ?_
 refine oq 49 (I ((len a_1))) rfl (e_len rfl rfl rfl (l_isl rfl)) ?_
 refine cq 2 [14] [B ((decide (x3 < (len a_1))))] 65 ?_
 refine sq h (fun h=>?_) (fun h=>?_)
 · refine aq 1 ?_
   refine aq 3 ?_
   refine s_draw [0,0,3,7,0,0,48,112,255,511] rfl (by decide +kernel) ?_
   refine dk 2 [18,17] [I (x3),.isl false ((a_1).map encI_Condition)] ?_
   obtain ⟨e4,he4,h⟩:=bS h
   refine dq [] [] (.iptr (.agg [I (e4.Op),str (e4.Name),I (e4.Day),.isl false ((e4.Parts).map encI_Condition)]) 0) rfl (e_indexAddr rfl rfl rfl (ix_islE rfl rfl (encI_Condition_eq e4) rfl he4)) ?_
   refine dq [] [] (.agg [I (e4.Op),str (e4.Name),I (e4.Day),.isl false ((e4.Parts).map encI_Condition)]) rfl (e_ld rfl rfl) ?_
   refine dk 2 [22,21] [I (x3),.isl false ((b_2).map encI_Condition)] ?_
   obtain ⟨e5,he5,h⟩:=bS h
   refine dq [] [] (.iptr (.agg [I (e5.Op),str (e5.Name),I (e5.Day),.isl false ((e5.Parts).map encI_Condition)]) 0) rfl (e_indexAddr rfl rfl rfl (ix_islE rfl rfl (encI_Condition_eq e5) rfl he5)) ?_
   refine dq [] [] (.agg [I (e5.Op),str (e5.Name),I (e5.Day),.isl false ((e5.Parts).map encI_Condition)]) rfl (e_ld rfl rfl) ?_
   obtain ⟨r6,hr6,h⟩:=bS h
   refine dq [] [] (B (r6)) rfl (e_callV rfl rfl (call_P rfl rfl rfl (avS (shP rfl) (avS (shP rfl) (avN))) (Fft_FS slf_Fft hr6) (.inr rfl) (bl_n) rfl rfl rfl)) ?_ (w_callO rfl rfl rfl rfl (avS (shP rfl) (avS (shP rfl) (avN))) (Fft_FS slf_Fft hr6) (.inr rfl) rfl)
   refine dk 1 [26] [B ((!r6))] ?_
   refine de 225 rfl rfl ?_
   refine sq h (fun h=>?_) (fun h=>?_)
   · refine cq 4 [4] [B (false)] 241 ?_
     exact s_ret rfl (hr _ (Option.some.inj h).symm _ ⟨_,fin (vs:=[B (false)]) rfl (absE (absorb_plain rfl) (absEN)) rfl (ou_f (ou_f (ou_n))),kl_n⟩)
   · refine aq 1 ?_
     refine cq 6 [5] [I ((w64 (x3 + 1)))] 273 ?_
     refine s_lp ?_
     exact rf [0,1,5] [] (ih _ _ h hr hn :)
 · refine aq 1 ?_
   exact rf [] [] (hn _ (Option.some.inj h).symm :) (hk:=hK)
theorem Ffv_run (slf_Fft : (Condition × Condition)→Option Bool) (a_1 : List Condition) (b_2 : List Condition) (r : Bool) (h : Ffv slf_Fft a_1 b_2=some r) : RunF (Ffv_E slf_Fft) Tryd.f42 [false,false] 0 (Ffv_A (a_1,b_2)) (Ffv_R r):=by
 show Run _ _ (Ffv_Q slf_Fft (a_1,b_2) r) [.code Ffv_c] _
 refine rin (n:=27) [(0,.isl false ((a_1).map encI_Condition)),(1,.isl false ((b_2).map encI_Condition))] [] 1 (by kernel_rfl) (by kernel_rfl) (by kernel_rfl) rfl ?_
 unfold Ffv at h
 refine cq 8 [6] [.isl false ((a_1).map encI_Condition)] 33 ?_
 refine oq 49 (I ((len a_1))) rfl (e_len rfl rfl rfl (l_isl rfl)) ?_
 refine cq 1 [8] [.isl false ((b_2).map encI_Condition)] 65 ?_
 refine oq 81 (I ((len b_2))) rfl (e_len rfl rfl rfl (l_isl rfl)) ?_
 refine cq 2 [10] [B (((len a_1) != (len b_2)))] 97 ?_
 refine sq h (fun h=>?_) (fun h=>?_)
 · refine cq 4 [4] [B (false)] 113 ?_
   obtain rfl:=Option.some.inj h
   exact s_ret rfl ⟨_,fin (vs:=[B (false)]) rfl (absE (absorb_plain rfl) (absEN)) rfl (ou_f (ou_f (ou_n))),kl_n⟩
 · refine aq 1 ?_
   refine cq 6 [5] [I (0)] 113 ?_
   obtain ⟨y7,hy7,hy71,hy72⟩:=bJ h
   refine s_loop rfl ?_
   refine rf [0,1,5] [] (Ffv_la_run slf_Fft a_1 b_2 rfl 0 _ hy7 (fun r' e st hq=>by rw [hy71 r' e] at hq; exact hq) fun u7 hu=>?_)
   replace h:=hy72 u7 hu
   refine cq 4 [4] [B (true)] 17 ?_
   obtain rfl:=Option.some.inj h
   exact s_ret rfl ⟨_,fin (vs:=[B (true)]) rfl (absE (absorb_plain rfl) (absEN)) rfl (ou_f (ou_f (ou_n))),kl_n⟩
theorem Ffv_good {G : Go.Ln.Ground} (slf_Fft : (Condition × Condition)→Option Bool) (g_Fft : Good Tryd.prog G 12 (Fft_entS slf_Fft)) : Good Tryd.prog G 42 (Ffv_ent slf_Fft):=good_T (fnOf_good (gl_c g_Fft (gl_n))) agree_mk (Checked.mixed Tryd.checked) Tryd.func42 (n:=2) (m:=0) ⟨rfl,rfl,by decide⟩ (fun _=>⟨rfl,rfl⟩) (fun a r h=>Ffv_run slf_Fft a.1 a.2 r h)
noncomputable def Fft_ent : Ent:=Fft_entS (fixO Fft_G)
theorem Fft_F {a_1 : Condition} {b_2 : Condition} {r} (h : Fft a_1 b_2=some r) : Fft_ent.F (Fft_A (a_1,b_2))=some (Fft_R r):=Fft_FS (fixO Fft_G) h
noncomputable def Fft_c : Code:=bodyOf Tryd.f12
noncomputable def Fft_E (slf_Fft : (Condition × Condition)→Option Bool) : Env:=mkE Tryd.prog [(42,(Ffv_ent slf_Fft))]
def Fft_Q (slf_Fft : (Condition × Condition)→Option Bool) (x : Condition × Condition) (r : Bool) : St→Prop:=QF (Fft_E slf_Fft) Tryd.f12 [false,false] (Fft_A x) (Fft_R r)
theorem Fft_run (slf_Fft : (Condition × Condition)→Option Bool) (a_1 : Condition) (b_2 : Condition) (r : Bool) (h : Fft_B slf_Fft a_1 b_2=some r) : RunF (Fft_E slf_Fft) Tryd.f12 [false,false] 0 (Fft_A (a_1,b_2)) (Fft_R r):=by
 show Run _ _ (Fft_Q slf_Fft (a_1,b_2) r) [.code Fft_c] _
 refine rin (n:=26) [(0,.agg [I (a_1.Op),str (a_1.Name),I (a_1.Day),.isl false ((a_1.Parts).map encI_Condition)]),(1,.agg [I (b_2.Op),str (b_2.Name),I (b_2.Day),.isl false ((b_2.Parts).map encI_Condition)])] [] 1 (by kernel_rfl) (by kernel_rfl) (by kernel_rfl) rfl ?_
 unfold Fft_B at h
 refine ck 15 [2,3,9] [] [1,17] [] [.hp 1 0 [] 4 0 0,.hp 17 0 [] 4 0 0,B ((a_1.Op != b_2.Op))] [some ⟨0,4,[.agg [I (a_1.Op),str (a_1.Name),I (a_1.Day),.isl false ((a_1.Parts).map encI_Condition)]]⟩,some ⟨0,4,[.agg [I (b_2.Op),str (b_2.Name),I (b_2.Day),.isl false ((b_2.Parts).map encI_Condition)]]⟩] 129 (by kernel_rfl) ?_
 refine sq h (fun h=>?_) (fun h=>?_)
 · refine cq 4 [4] [B (false)] 145 ?_
   obtain rfl:=Option.some.inj h
   exact s_ret rfl ⟨_,fin (vs:=[B (false)]) rfl (absE (absorb_plain rfl) (absEN)) rfl (ou_f (ou_f (ou_n))),kl_n⟩
 · refine aq 1 ?_
   refine cq 9 [14] [B ((!(a_1.Name == b_2.Name)))] 209 ?_
   refine sq h (fun h=>?_) (fun h=>?_)
   · refine cq 4 [4] [B (false)] 225 ?_
     obtain rfl:=Option.some.inj h
     exact s_ret rfl ⟨_,fin (vs:=[B (false)]) rfl (absE (absorb_plain rfl) (absEN)) rfl (ou_f (ou_f (ou_n))),kl_n⟩
   · refine aq 1 ?_
     refine cq 9 [19] [B ((a_1.Day != b_2.Day))] 289 ?_
     refine sq h (fun h=>?_) (fun h=>?_)
     · refine cq 4 [4] [B (false)] 305 ?_
       obtain rfl:=Option.some.inj h
       exact s_ret rfl ⟨_,fin (vs:=[B (false)]) rfl (absE (absorb_plain rfl) (absEN)) rfl (ou_f (ou_f (ou_n))),kl_n⟩
     · refine aq 1 ?_
       refine cq 7 [21,23] [.isl false ((a_1.Parts).map encI_Condition),.isl false ((b_2.Parts).map encI_Condition)] 353 ?_
       obtain ⟨r3,hr3,h⟩:=bS h
       refine oq 369 (B (r3)) rfl (e_callV rfl rfl (call_P rfl rfl rfl (avS (shP rfl) (avS (shP rfl) (avN))) (Ffv_F slf_Fft hr3) (.inr rfl) (bl_n) rfl rfl rfl)) ?_
       refine cq 2 [25] [B ((!r3))] 385 ?_
       refine sq h (fun h=>?_) (fun h=>?_)
       · refine cq 4 [4] [B (false)] 401 ?_
         obtain rfl:=Option.some.inj h
         exact s_ret rfl ⟨_,fin (vs:=[B (false)]) rfl (absE (absorb_plain rfl) (absEN)) rfl (ou_f (ou_f (ou_n))),kl_n⟩
       · refine aq 1 ?_
         refine cq 4 [4] [B (true)] 401 ?_
         obtain rfl:=Option.some.inj h
         exact s_ret rfl ⟨_,fin (vs:=[B (true)]) rfl (absE (absorb_plain rfl) (absEN)) rfl (ou_f (ou_f (ou_n))),kl_n⟩
theorem Fft_good {G : Go.Ln.Ground} : Good Tryd.prog G 12 Fft_ent:=good_rec fun slf_Fft g_Fft=>good_T (fnOf_good (gl_c (Ffv_good slf_Fft g_Fft) (gl_n))) agree_mk (Checked.mixed Tryd.checked) Tryd.func12 (n:=2) (m:=0) ⟨rfl,rfl,by decide⟩ (fun _=>⟨rfl,rfl⟩) (fun a r h=>Fft_run slf_Fft a.1 a.2 r h)
noncomputable def Ffu_ent : Ent:=Ffv_ent (fixO Fft_G)
theorem Ffu_F {a_1 : List Condition} {b_2 : List Condition} {r} (h : Ffu a_1 b_2=some r) : Ffu_ent.F (Ffv_A (a_1,b_2))=some (Ffv_R r):=Ffv_F (fixO Fft_G) h
theorem Ffu_good {G : Go.Ln.Ground} : Good Tryd.prog G 42 Ffu_ent:=Ffv_good (fixO Fft_G) Fft_good
def Ffr_A : (Clause × Clause)→List V:=cA encI_Clause (oA encI_Clause)
def Ffr_R (r : Bool) : V × List V:=(B (r),[])
noncomputable def Ffr_ent : Ent:=entT [false,false] Ffr_A Ffr_R fun x=>Ffr x.1 x.2
theorem Ffr_F {a_1 : Clause} {b_2 : Clause} {r} (h : Ffr a_1 b_2=some r) : (Ffr_ent).F (Ffr_A (a_1,b_2))=some (Ffr_R r):=entT_F (cA_inj encI_Clause_inj (oA_inj encI_Clause_inj)) h
noncomputable def Ffr_c : Code:=bodyOf Tryd.f110
noncomputable def Ffr_E : Env:=mkE Tryd.prog [(12,Fft_ent)]
def Ffr_Q (x : Clause × Clause) (r : Bool) : St→Prop:=QF Ffr_E Tryd.f110 [false,false] (Ffr_A x) (Ffr_R r)
theorem Ffr_run (a_1 : Clause) (b_2 : Clause) (r : Bool) (h : Ffr a_1 b_2=some r) : RunF Ffr_E Tryd.f110 [false,false] 0 (Ffr_A (a_1,b_2)) (Ffr_R r):=by
 show Run _ _ (Ffr_Q (a_1,b_2) r) [.code Ffr_c] _
 refine rin (n:=51) [(0,.agg [str (a_1.Id),I (a_1.Kind),I (a_1.Party),str (a_1.Action),I (a_1.Other),I (a_1.Amount),I (a_1.When.Op),str (a_1.When.Name),I (a_1.When.Day),.isl false ((a_1.When.Parts).map encI_Condition),I (a_1.Within),str (a_1.Repair)]),(1,.agg [str (b_2.Id),I (b_2.Kind),I (b_2.Party),str (b_2.Action),I (b_2.Other),I (b_2.Amount),I (b_2.When.Op),str (b_2.When.Name),I (b_2.When.Day),.isl false ((b_2.When.Parts).map encI_Condition),I (b_2.Within),str (b_2.Repair)])] [] 1 (by kernel_rfl) (by kernel_rfl) (by kernel_rfl) rfl ?_
 unfold Ffr at h
 refine ck 15 [2,3,9] [] [1,17] [] [.hp 1 0 [] 12 0 0,.hp 17 0 [] 12 0 0,B ((!(a_1.Id == b_2.Id)))] [some ⟨0,12,[.agg [str (a_1.Id),I (a_1.Kind),I (a_1.Party),str (a_1.Action),I (a_1.Other),I (a_1.Amount),I (a_1.When.Op),str (a_1.When.Name),I (a_1.When.Day),.isl false ((a_1.When.Parts).map encI_Condition),I (a_1.Within),str (a_1.Repair)]]⟩,some ⟨0,12,[.agg [str (b_2.Id),I (b_2.Kind),I (b_2.Party),str (b_2.Action),I (b_2.Other),I (b_2.Amount),I (b_2.When.Op),str (b_2.When.Name),I (b_2.When.Day),.isl false ((b_2.When.Parts).map encI_Condition),I (b_2.Within),str (b_2.Repair)]]⟩] 129 (by kernel_rfl) ?_
 refine sq h (fun h=>?_) (fun h=>?_)
 · refine cq 4 [4] [B (false)] 145 ?_
   obtain rfl:=Option.some.inj h
   exact s_ret rfl ⟨_,fin (vs:=[B (false)]) rfl (absE (absorb_plain rfl) (absEN)) rfl (ou_f (ou_f (ou_n))),kl_n⟩
 · refine aq 1 ?_
   refine cq 9 [14] [B ((a_1.Kind != b_2.Kind))] 209 ?_
   refine sq h (fun h=>?_) (fun h=>?_)
   · refine cq 4 [4] [B (false)] 225 ?_
     obtain rfl:=Option.some.inj h
     exact s_ret rfl ⟨_,fin (vs:=[B (false)]) rfl (absE (absorb_plain rfl) (absEN)) rfl (ou_f (ou_f (ou_n))),kl_n⟩
   · refine aq 1 ?_
     refine cq 9 [19] [B ((a_1.Party != b_2.Party))] 289 ?_
     refine sq h (fun h=>?_) (fun h=>?_)
     · refine cq 4 [4] [B (false)] 305 ?_
       obtain rfl:=Option.some.inj h
       exact s_ret rfl ⟨_,fin (vs:=[B (false)]) rfl (absE (absorb_plain rfl) (absEN)) rfl (ou_f (ou_f (ou_n))),kl_n⟩
     · refine aq 1 ?_
       refine cq 9 [24] [B ((!(a_1.Action == b_2.Action)))] 369 ?_
       refine sq h (fun h=>?_) (fun h=>?_)
       · refine cq 4 [4] [B (false)] 385 ?_
         obtain rfl:=Option.some.inj h
         exact s_ret rfl ⟨_,fin (vs:=[B (false)]) rfl (absE (absorb_plain rfl) (absEN)) rfl (ou_f (ou_f (ou_n))),kl_n⟩
       · refine aq 1 ?_
         refine cq 9 [29] [B ((a_1.Other != b_2.Other))] 449 ?_
         refine sq h (fun h=>?_) (fun h=>?_)
         · refine cq 4 [4] [B (false)] 465 ?_
           obtain rfl:=Option.some.inj h
           exact s_ret rfl ⟨_,fin (vs:=[B (false)]) rfl (absE (absorb_plain rfl) (absEN)) rfl (ou_f (ou_f (ou_n))),kl_n⟩
         · refine aq 1 ?_
           refine cq 9 [34] [B ((a_1.Amount != b_2.Amount))] 529 ?_
           refine sq h (fun h=>?_) (fun h=>?_)
           · refine cq 4 [4] [B (false)] 545 ?_
             obtain rfl:=Option.some.inj h
             exact s_ret rfl ⟨_,fin (vs:=[B (false)]) rfl (absE (absorb_plain rfl) (absEN)) rfl (ou_f (ou_f (ou_n))),kl_n⟩
           · refine aq 1 ?_
             refine cq 7 [36,38] [.agg [I (a_1.When.Op),str (a_1.When.Name),I (a_1.When.Day),.isl false ((a_1.When.Parts).map encI_Condition)],.agg [I (b_2.When.Op),str (b_2.When.Name),I (b_2.When.Day),.isl false ((b_2.When.Parts).map encI_Condition)]] 593 ?_
             obtain ⟨r3,hr3,h⟩:=bS h
             refine oq 609 (B (r3)) rfl (e_callV rfl rfl (call_P rfl rfl rfl (avS (shP rfl) (avS (shP rfl) (avN))) (Fft_F hr3) (.inr rfl) (bl_n) rfl rfl rfl)) ?_
             refine cq 2 [40] [B ((!r3))] 625 ?_
             refine sq h (fun h=>?_) (fun h=>?_)
             · refine cq 4 [4] [B (false)] 641 ?_
               obtain rfl:=Option.some.inj h
               exact s_ret rfl ⟨_,fin (vs:=[B (false)]) rfl (absE (absorb_plain rfl) (absEN)) rfl (ou_f (ou_f (ou_n))),kl_n⟩
             · refine aq 1 ?_
               refine cq 9 [45] [B ((a_1.Within != b_2.Within))] 705 ?_
               refine sq h (fun h=>?_) (fun h=>?_)
               · refine cq 4 [4] [B (false)] 721 ?_
                 obtain rfl:=Option.some.inj h
                 exact s_ret rfl ⟨_,fin (vs:=[B (false)]) rfl (absE (absorb_plain rfl) (absEN)) rfl (ou_f (ou_f (ou_n))),kl_n⟩
               · refine aq 1 ?_
                 refine cq 9 [50] [B ((!(a_1.Repair == b_2.Repair)))] 785 ?_
                 refine sq h (fun h=>?_) (fun h=>?_)
                 · refine cq 4 [4] [B (false)] 801 ?_
                   obtain rfl:=Option.some.inj h
                   exact s_ret rfl ⟨_,fin (vs:=[B (false)]) rfl (absE (absorb_plain rfl) (absEN)) rfl (ou_f (ou_f (ou_n))),kl_n⟩
                 · refine aq 1 ?_
                   refine cq 4 [4] [B (true)] 801 ?_
                   obtain rfl:=Option.some.inj h
                   exact s_ret rfl ⟨_,fin (vs:=[B (true)]) rfl (absE (absorb_plain rfl) (absEN)) rfl (ou_f (ou_f (ou_n))),kl_n⟩
theorem Ffr_good {G : Go.Ln.Ground} : Good Tryd.prog G 110 Ffr_ent:=good_T (fnOf_good (gl_c Fft_good (gl_n))) agree_mk (Checked.mixed Tryd.checked) Tryd.func110 (n:=2) (m:=0) ⟨rfl,rfl,by decide⟩ (fun _=>⟨rfl,rfl⟩) (fun a r h=>Ffr_run a.1 a.2 r h)
def Ffs_A : ((List Clause) × (List Clause))→List V:=cA (slE encI_Clause) (oA (slE encI_Clause))
def Ffs_R (r : Bool) : V × List V:=(B (r),[])
noncomputable def Ffs_ent : Ent:=entT [false,false] Ffs_A Ffs_R fun x=>Ffs x.1 x.2
theorem Ffs_F {a_1 : List Clause} {b_2 : List Clause} {r} (h : Ffs a_1 b_2=some r) : (Ffs_ent).F (Ffs_A (a_1,b_2))=some (Ffs_R r):=entT_F (cA_inj (isl_inj encI_Clause_inj) (oA_inj (isl_inj encI_Clause_inj))) h
noncomputable def Ffs_c : Code:=bodyOf Tryd.f69
noncomputable def Ffs_E : Env:=mkE Tryd.prog [(110,Ffr_ent)]
def Ffs_Q (x : (List Clause) × (List Clause)) (r : Bool) : St→Prop:=QF Ffs_E Tryd.f69 [false,false] (Ffs_A x) (Ffs_R r)
theorem Ffs_la_run (a_1 : List Clause) (b_2 : List Clause)  {Q : St→Prop} {K : List It} (hK : noD K=true) : ∀ (x3 : Int) (y : Bool ⊕ Unit),Ffs_la a_1 b_2 x3=some y→(∀ r',y=.inl r'→∀ st,Ffs_Q (a_1,b_2) r' st→Q st)→(∀ u : Unit,y=.inr u→Run Ffs_E 0 Q K (sT 27 [] [] 1))→Run Ffs_E 0 Q (.code (cL (cL (cR (cL (cR (cR Ffs_c)))))) :: .lp (cL (cL (cR (cL (cR (cR Ffs_c)))))) :: .blk 0 :: K) (sT 27 [(0,.isl false ((a_1).map encI_Clause)),(1,.isl false ((b_2).map encI_Clause)),(5,I (x3))] [] 1):=by
 refine fix_indP (Ffs_la_fin a_1 b_2) ?_
 intro self ih x3 y h hr hn
 unfold Ffs_la_F at h
 refine cq 5 [11,12] [I (x3),.isl false ((a_1).map encI_Clause)] 33 ?_
 refine oq 49 (I ((len a_1))) rfl (e_len rfl rfl rfl (l_isl rfl)) ?_
 refine cq 2 [14] [B ((decide (x3 < (len a_1))))] 65 ?_
 refine sq h (fun h=>?_) (fun h=>?_)
 · refine aq 1 ?_
   refine aq 3 ?_
   refine s_draw [0,0,3,7,0,0,48,112,255,511] rfl (by decide +kernel) ?_
   refine dk 2 [18,17] [I (x3),.isl false ((a_1).map encI_Clause)] ?_
   obtain ⟨e4,he4,h⟩:=bS h
   refine dq [] [] (.iptr (.agg [str (e4.Id),I (e4.Kind),I (e4.Party),str (e4.Action),I (e4.Other),I (e4.Amount),I (e4.When.Op),str (e4.When.Name),I (e4.When.Day),.isl false ((e4.When.Parts).map encI_Condition),I (e4.Within),str (e4.Repair)]) 0) rfl (e_indexAddr rfl rfl rfl (ix_islE rfl rfl rfl rfl he4)) ?_
   refine dq [] [] (.agg [str (e4.Id),I (e4.Kind),I (e4.Party),str (e4.Action),I (e4.Other),I (e4.Amount),I (e4.When.Op),str (e4.When.Name),I (e4.When.Day),.isl false ((e4.When.Parts).map encI_Condition),I (e4.Within),str (e4.Repair)]) rfl (e_ld rfl rfl) ?_
   refine dk 2 [22,21] [I (x3),.isl false ((b_2).map encI_Clause)] ?_
   obtain ⟨e5,he5,h⟩:=bS h
   refine dq [] [] (.iptr (.agg [str (e5.Id),I (e5.Kind),I (e5.Party),str (e5.Action),I (e5.Other),I (e5.Amount),I (e5.When.Op),str (e5.When.Name),I (e5.When.Day),.isl false ((e5.When.Parts).map encI_Condition),I (e5.Within),str (e5.Repair)]) 0) rfl (e_indexAddr rfl rfl rfl (ix_islE rfl rfl rfl rfl he5)) ?_
   refine dq [] [] (.agg [str (e5.Id),I (e5.Kind),I (e5.Party),str (e5.Action),I (e5.Other),I (e5.Amount),I (e5.When.Op),str (e5.When.Name),I (e5.When.Day),.isl false ((e5.When.Parts).map encI_Condition),I (e5.Within),str (e5.Repair)]) rfl (e_ld rfl rfl) ?_
   obtain ⟨r6,hr6,h⟩:=bS h
   refine dq [] [] (B (r6)) rfl (e_callV rfl rfl (call_P rfl rfl rfl (avS (shP rfl) (avS (shP rfl) (avN))) (Ffr_F hr6) (.inr rfl) (bl_n) rfl rfl rfl)) ?_ (w_callO rfl rfl rfl rfl (avS (shP rfl) (avS (shP rfl) (avN))) (Ffr_F hr6) (.inr rfl) rfl)
   refine dk 1 [26] [B ((!r6))] ?_
   refine de 225 rfl rfl ?_
   refine sq h (fun h=>?_) (fun h=>?_)
   · refine cq 4 [4] [B (false)] 241 ?_
     exact s_ret rfl (hr _ (Option.some.inj h).symm _ ⟨_,fin (vs:=[B (false)]) rfl (absE (absorb_plain rfl) (absEN)) rfl (ou_f (ou_f (ou_n))),kl_n⟩)
   · refine aq 1 ?_
     refine cq 6 [5] [I ((w64 (x3 + 1)))] 273 ?_
     refine s_lp ?_
     exact rf [0,1,5] [] (ih _ _ h hr hn :)
 · refine aq 1 ?_
   exact rf [] [] (hn _ (Option.some.inj h).symm :) (hk:=hK)
theorem Ffs_run (a_1 : List Clause) (b_2 : List Clause) (r : Bool) (h : Ffs a_1 b_2=some r) : RunF Ffs_E Tryd.f69 [false,false] 0 (Ffs_A (a_1,b_2)) (Ffs_R r):=by
 show Run _ _ (Ffs_Q (a_1,b_2) r) [.code Ffs_c] _
 refine rin (n:=27) [(0,.isl false ((a_1).map encI_Clause)),(1,.isl false ((b_2).map encI_Clause))] [] 1 (by kernel_rfl) (by kernel_rfl) (by kernel_rfl) rfl ?_
 unfold Ffs at h
 refine cq 8 [6] [.isl false ((a_1).map encI_Clause)] 33 ?_
 refine oq 49 (I ((len a_1))) rfl (e_len rfl rfl rfl (l_isl rfl)) ?_
 refine cq 1 [8] [.isl false ((b_2).map encI_Clause)] 65 ?_
 refine oq 81 (I ((len b_2))) rfl (e_len rfl rfl rfl (l_isl rfl)) ?_
 refine cq 2 [10] [B (((len a_1) != (len b_2)))] 97 ?_
 refine sq h (fun h=>?_) (fun h=>?_)
 · refine cq 4 [4] [B (false)] 113 ?_
   obtain rfl:=Option.some.inj h
   exact s_ret rfl ⟨_,fin (vs:=[B (false)]) rfl (absE (absorb_plain rfl) (absEN)) rfl (ou_f (ou_f (ou_n))),kl_n⟩
 · refine aq 1 ?_
   refine cq 6 [5] [I (0)] 113 ?_
   obtain ⟨y7,hy7,hy71,hy72⟩:=bJ h
   refine s_loop rfl ?_
   refine rf [0,1,5] [] (Ffs_la_run a_1 b_2 rfl 0 _ hy7 (fun r' e st hq=>by rw [hy71 r' e] at hq; exact hq) fun u7 hu=>?_)
   replace h:=hy72 u7 hu
   refine cq 4 [4] [B (true)] 17 ?_
   obtain rfl:=Option.some.inj h
   exact s_ret rfl ⟨_,fin (vs:=[B (true)]) rfl (absE (absorb_plain rfl) (absEN)) rfl (ou_f (ou_f (ou_n))),kl_n⟩
theorem Ffs_good {G : Go.Ln.Ground} : Good Tryd.prog G 69 Ffs_ent:=good_T (fnOf_good (gl_c Ffr_good (gl_n))) agree_mk (Checked.mixed Tryd.checked) Tryd.func69 (n:=2) (m:=0) ⟨rfl,rfl,by decide⟩ (fun _=>⟨rfl,rfl⟩) (fun a r h=>Ffs_run a.1 a.2 r h)
def Ffw_A : (Contract × Contract)→List V:=cA encI_Contract (oA encI_Contract)
def Ffw_R (r : Bool) : V × List V:=(B (r),[])
noncomputable def Ffw_ent : Ent:=entT [false,false] Ffw_A Ffw_R fun x=>Ffw x.1 x.2
theorem Ffw_F {a_1 : Contract} {b_2 : Contract} {r} (h : Ffw a_1 b_2=some r) : (Ffw_ent).F (Ffw_A (a_1,b_2))=some (Ffw_R r):=entT_F (cA_inj encI_Contract_inj (oA_inj encI_Contract_inj)) h
noncomputable def Ffw_c : Code:=bodyOf Tryd.f25
noncomputable def Ffw_E : Env:=mkE Tryd.prog [(68,Ffx_ent),(69,Ffs_ent)]
def Ffw_Q (x : Contract × Contract) (r : Bool) : St→Prop:=QF Ffw_E Tryd.f25 [false,false] (Ffw_A x) (Ffw_R r)
theorem Ffw_run (a_1 : Contract) (b_2 : Contract) (r : Bool) (h : Ffw a_1 b_2=some r) : RunF Ffw_E Tryd.f25 [false,false] 0 (Ffw_A (a_1,b_2)) (Ffw_R r):=by
 show Run _ _ (Ffw_Q (a_1,b_2) r) [.code Ffw_c] _
 refine rin (n:=17) [(0,.agg [.isl false ((a_1.Parties).map str),.isl false ((a_1.Clauses).map encI_Clause)]),(1,.agg [.isl false ((b_2.Parties).map str),.isl false ((b_2.Clauses).map encI_Clause)])] [] 1 (by kernel_rfl) (by kernel_rfl) (by kernel_rfl) rfl ?_
 unfold Ffw at h
 refine ck 13 [2,3,6,8] [] [1,17] [] [.hp 1 0 [] 2 0 0,.hp 17 0 [] 2 0 0,.isl false ((a_1.Parties).map str),.isl false ((b_2.Parties).map str)] [some ⟨0,2,[.agg [.isl false ((a_1.Parties).map str),.isl false ((a_1.Clauses).map encI_Clause)]]⟩,some ⟨0,2,[.agg [.isl false ((b_2.Parties).map str),.isl false ((b_2.Clauses).map encI_Clause)]]⟩] 113 (by kernel_rfl) ?_
 obtain ⟨r3,hr3,h⟩:=bS h
 refine oq 129 (B (r3)) rfl (e_callV rfl rfl (call_P rfl rfl rfl (avS (shP rfl) (avS (shP rfl) (avN))) (Ffx_F hr3) (.inr rfl) (bl_n) rfl rfl rfl)) ?_
 refine cq 2 [10] [B ((!r3))] 145 ?_
 refine sq h (fun h=>?_) (fun h=>?_)
 · refine cq 4 [4] [B (false)] 161 ?_
   obtain rfl:=Option.some.inj h
   exact s_ret rfl ⟨_,fin (vs:=[B (false)]) rfl (absE (absorb_plain rfl) (absEN)) rfl (ou_f (ou_f (ou_n))),kl_n⟩
 · refine aq 1 ?_
   refine cq 7 [12,14] [.isl false ((a_1.Clauses).map encI_Clause),.isl false ((b_2.Clauses).map encI_Clause)] 209 ?_
   obtain ⟨r4,hr4,h⟩:=bS h
   refine oq 225 (B (r4)) rfl (e_callV rfl rfl (call_P rfl rfl rfl (avS (shP rfl) (avS (shP rfl) (avN))) (Ffs_F hr4) (.inr rfl) (bl_n) rfl rfl rfl)) ?_
   refine cq 2 [16] [B ((!r4))] 241 ?_
   refine sq h (fun h=>?_) (fun h=>?_)
   · refine cq 4 [4] [B (false)] 257 ?_
     obtain rfl:=Option.some.inj h
     exact s_ret rfl ⟨_,fin (vs:=[B (false)]) rfl (absE (absorb_plain rfl) (absEN)) rfl (ou_f (ou_f (ou_n))),kl_n⟩
   · refine aq 1 ?_
     refine cq 4 [4] [B (true)] 257 ?_
     obtain rfl:=Option.some.inj h
     exact s_ret rfl ⟨_,fin (vs:=[B (true)]) rfl (absE (absorb_plain rfl) (absEN)) rfl (ou_f (ou_f (ou_n))),kl_n⟩
theorem Ffw_good {G : Go.Ln.Ground} : Good Tryd.prog G 25 Ffw_ent:=good_T (fnOf_good (gl_c Ffx_good (gl_c Ffs_good (gl_n)))) agree_mk (Checked.mixed Tryd.checked) Tryd.func25 (n:=2) (m:=0) ⟨rfl,rfl,by decide⟩ (fun _=>⟨rfl,rfl⟩) (fun a r h=>Ffw_run a.1 a.2 r h)
def laws_FnExactLiabilityOf_A : (Contract × Int)→List V:=cA encI_Contract (oA I)
def laws_FnExactLiabilityOf_R (r : Bool) : V × List V:=(B (r),[])
noncomputable def laws_FnExactLiabilityOf_ent : Ent:=entT [false,false] laws_FnExactLiabilityOf_A laws_FnExactLiabilityOf_R fun x=>laws_FnExactLiabilityOf x.1 x.2
theorem laws_FnExactLiabilityOf_F {aC_1 : Contract} {aI_2 : Int} {r} (h : laws_FnExactLiabilityOf aC_1 aI_2=some r) : (laws_FnExactLiabilityOf_ent).F (laws_FnExactLiabilityOf_A (aC_1,aI_2))=some (laws_FnExactLiabilityOf_R r):=entT_F (cA_inj encI_Contract_inj (oA_inj I_inj)) h
noncomputable def laws_FnExactLiabilityOf_c : Code:=bodyOf Tryd.f5
noncomputable def laws_FnExactLiabilityOf_E : Env:=mkE Tryd.prog [(21,Ffbd_ent),(23,Ffbk_ent),(22,Ffbv_ent),(24,Ffd_ent),(25,Ffw_ent)]
def laws_FnExactLiabilityOf_Q (x : Contract × Int) (r : Bool) : St→Prop:=QF laws_FnExactLiabilityOf_E Tryd.f5 [false,false] (laws_FnExactLiabilityOf_A x) (laws_FnExactLiabilityOf_R r)
theorem laws_FnExactLiabilityOf_run (aC_1 : Contract) (aI_2 : Int) (r : Bool) (h : laws_FnExactLiabilityOf aC_1 aI_2=some r) : RunF laws_FnExactLiabilityOf_E Tryd.f5 [false,false] 0 (laws_FnExactLiabilityOf_A (aC_1,aI_2)) (laws_FnExactLiabilityOf_R r):=by
 show Run _ _ (laws_FnExactLiabilityOf_Q (aC_1,aI_2) r) [.code laws_FnExactLiabilityOf_c] _
 refine rin (n:=44) [(0,encI_Contract aC_1),(1,I (aI_2))] [] 1 (by kernel_rfl) (by kernel_rfl) (by kernel_rfl) rfl ?_
 unfold laws_FnExactLiabilityOf at h
 refine ck 13 [2,11,12] [] [1] [] [.hp 1 0 [] 2 0 0,encI_Contract aC_1,I (1048576)] [some ⟨0,2,[encI_Contract aC_1]⟩] 81 (by kernel_rfl) ?_
 obtain ⟨r3,hr3,h⟩:=bS h
 refine oq 97 (I (r3)) rfl (e_callV rfl rfl (call_P rfl rfl rfl (avS (shP rfl) (avS (shP rfl) (avN))) (Ffbd_F hr3) (.inr rfl) (bl_n) rfl rfl rfl)) ?_
 refine cq 8 [15] [B ((decide (r3 < 0)))] 145 ?_
 refine sq h (fun h=>?_) (fun h=>?_)
 · refine cq 4 [4] [B (true)] 161 ?_
   obtain rfl:=Option.some.inj h
   exact s_ret rfl ⟨_,fin (vs:=[B (true)]) rfl (absE (absorb_plain rfl) (absEN)) rfl (ou_f (ou_f (ou_n))),kl_n⟩
 · refine aq 1 ?_
   refine cq 3 [17] [encI_Contract aC_1] 161 ?_
   obtain ⟨r4,hr4,h⟩:=bS h
   refine oq 177 (.agg [.hs 161 0 [] 1 0 ((r4.Parties).map str).length,.hs 162 0 [] 12 0 ((r4.Clauses).map encO_Clause).length]) rfl (e_callV rfl rfl (call_P rfl rfl rfl (avS (shP rfl) (avN)) (Ffbk_F hr4) (.inr rfl) (bl_n) rfl rfl rfl)) ?_
   refine cq 1 [19] [I (aI_2)] 193 ?_
   obtain ⟨r5,hr5,h⟩:=bS h
   refine oq 209 (.tup [I (r5.1),B (r5.2)]) rfl (e_callV rfl rfl (call_P rfl rfl rfl (avS (shA (shC (sh_hsM (f:=str) (g:=str) (xs:=r4.Parties) rfl rfl (imms_of str_imm)) (shC (sh_hsM (f:=encO_Clause) (g:=encI_Clause) (xs:=r4.Clauses) rfl rfl (imms_of encO_Clause_imm)) (shN)))) (avS (shP rfl) (avN))) (Ffbv_F hr5) (.inl (rfl)) (bl_n) rfl rfl rfl)) ?_
   refine cq 9 [6,7,23] [I (r5.1),B (r5.2),encI_Contract aC_1] 305 ?_
   obtain ⟨r6,hr6,h⟩:=bS h
   refine oq 321 (.agg [.hs 305 0 [] 1 0 ((r6.Parties).map str).length,.hs 306 0 [] 12 0 ((r6.Clauses).map encO_Clause).length]) rfl (e_callV rfl rfl (call_P rfl rfl rfl (avS (shP rfl) (avN)) (Ffbk_F hr6) (.inr rfl) (bl_n) rfl rfl rfl)) ?_
   refine ck 1 [8] [] [321] [] [.hp 321 0 [] 2 0 0] [some ⟨0,2,[.agg [.isl true [],.isl true []]]⟩] 337 (by kernel_rfl) ?_
   refine run_row 321 [.agg [.usl 1 (([]).map str),.usl 12 (([]).map encO_Clause)]] rfl rfl (cvs_c (cv_agg (cvs_c (.nil _) (cvs_c (.nil _) (cvs_n)))) cvs_n) ?_
   refine o0 353 rfl rfl (e_st rfl rfl (st_at (path:=[]) (pl:=false) (e':=.agg [.usl 1 ((r6.Parties).map str),.usl 12 ((r6.Clauses).map encO_Clause)]) (es2':=[.agg [.usl 1 ((r6.Parties).map str),.usl 12 ((r6.Clauses).map encO_Clause)]]) rfl (absA (absC (abs_hs rfl rfl) (absC (abs_hs rfl rfl) (absN)))) rfl rfl rfl (ra_n) rfl rfl rfl rfl rfl (sr_n) 2 rfl)) ?_
   refine cq 5 [26,27] [.agg [.hs 321 2 [(0,0)] 1 0 ((r6.Parties).map str).length,.hs 321 2 [(0,1)] 12 0 ((r6.Clauses).map encO_Clause).length],I (aI_2)] 385 ?_
   obtain ⟨r7,hr7,h⟩:=bS h
   refine oq 401 (.tup [I (r7.1),B (r7.2)]) rfl (e_callV rfl rfl (call_P rfl rfl rfl (avS (shA (shC (sh_at (path:=[(0,0)]) rfl rfl (ra_c rfl rfl (ra_n)) rfl (imms_of (f:=str) str_imm)) (shC (sh_at (path:=[(0,1)]) rfl rfl (ra_c rfl rfl (ra_n)) rfl (imms_of (f:=encO_Clause) encO_Clause_imm)) (shN)))) (avS (shP rfl) (avN))) (Ffd_F hr7) (.inl (rfl)) (bl_n) rfl rfl rfl)) ?_
   refine cq 13 [10,34] [B (r7.2),B ((r7.1 != r5.1))] 545 ?_
   obtain ⟨u8,hu8,h⟩:=lJ h
   have j8 : Run laws_FnExactLiabilityOf_E 0 (laws_FnExactLiabilityOf_Q (aC_1,aI_2) r) (.code (cR (cL (cR (cR (cR (cR (cR (cR (cR laws_FnExactLiabilityOf_c))))))))) :: .code (cR (cR (cR (cR (cR (cR (cR (cR laws_FnExactLiabilityOf_c)))))))) :: []) (sT 44 [(2,.hp 1 0 [] 2 0 0),(8,.hp 2 0 [] 2 0 0),(38,B (u8))] [⟨0,2,[encI_Contract aC_1]⟩,⟨0,2,[.agg [.usl 1 ((r6.Parties).map str),.usl 12 ((r6.Clauses).map encO_Clause)]]⟩] 3):=by
     refine sq h (fun h=>?_) (fun h=>?_)
     · refine cq 4 [4] [B (false)] 19 ?_
       obtain rfl:=Option.some.inj h
       exact s_ret rfl ⟨_,fin (vs:=[B (false)]) rfl (absE (absorb_plain rfl) (absEN)) rfl (ou_f (ou_f (ou_n))),kl_n⟩
     · refine aq 1 ?_
       refine aq 2 ?_
       refine s_draw [0,0,2,7,15] rfl (by decide +kernel) ?_
       refine dq [2] [] (.agg [.hs 2 0 [(0,0)] 1 0 ((r6.Parties).map str).length,.hs 2 0 [(0,1)] 12 0 ((r6.Clauses).map encO_Clause).length]) rfl (e_ld rfl rfl) ?_
       refine dq [1] [] (encI_Contract aC_1) rfl (e_ld rfl rfl) ?_
       obtain ⟨r9,hr9,h⟩:=bS h
       refine dq [] [] (.agg [.hs 35 0 [] 1 0 ((r9.Parties).map str).length,.hs 36 0 [] 12 0 ((r9.Clauses).map encO_Clause).length]) rfl (e_callV rfl rfl (call_P rfl rfl rfl (avS (shP rfl) (avN)) (Ffbk_F hr9) (.inr rfl) (bl_n) rfl rfl rfl)) ?_ (w_callO rfl rfl rfl rfl (avS (shP rfl) (avN)) (Ffbk_F hr9) (.inr rfl) rfl)
       obtain ⟨r10,hr10,h⟩:=bS h
       refine dq [2,2,35,36] [] (B (r10)) rfl (e_callV rfl rfl (call_P rfl rfl rfl (avS (shA (shC (sh_at (path:=[(0,0)]) rfl rfl (ra_c rfl rfl (ra_n)) rfl (imms_of (f:=str) str_imm)) (shC (sh_at (path:=[(0,1)]) rfl rfl (ra_c rfl rfl (ra_n)) rfl (imms_of (f:=encO_Clause) encO_Clause_imm)) (shN)))) (avS (shA (shC (sh_hsM (f:=str) (g:=str) (xs:=r9.Parties) rfl rfl (imms_of str_imm)) (shC (sh_hsM (f:=encO_Clause) (g:=encI_Clause) (xs:=r9.Clauses) rfl rfl (imms_of encO_Clause_imm)) (shN)))) (avN))) (Ffw_F hr10) (.inl (rfl)) (bl_n) rfl rfl rfl)) ?_ (w_callO rfl rfl rfl rfl (avS (shA (shC (sh_at (path:=[(0,0)]) rfl rfl (ra_c rfl rfl (ra_n)) rfl (imms_of (f:=str) str_imm)) (shC (sh_at (path:=[(0,1)]) rfl rfl (ra_c rfl rfl (ra_n)) rfl (imms_of (f:=encO_Clause) encO_Clause_imm)) (shN)))) (avS (shA (shC (sh_hsM (f:=str) (g:=str) (xs:=r9.Parties) rfl rfl (imms_of str_imm)) (shC (sh_hsM (f:=encO_Clause) (g:=encI_Clause) (xs:=r9.Clauses) rfl rfl (imms_of encO_Clause_imm)) (shN)))) (avN))) (Ffw_F hr10) (.inl (rfl)) rfl)
       refine dk 1 [43] [B ((!r10))] ?_
       refine de 83 rfl rfl ?_
       refine sq h (fun h=>?_) (fun h=>?_)
       · refine cq 4 [4] [B (false)] 99 ?_
         obtain rfl:=Option.some.inj h
         exact s_ret rfl ⟨_,fin (vs:=[B (false)]) rfl (absE (absorb_plain rfl) (absEN)) rfl (ou_f (ou_f (ou_n))),kl_n⟩
       · refine aq 1 ?_
         refine cq 4 [4] [B (true)] 99 ?_
         obtain rfl:=Option.some.inj h
         exact s_ret rfl ⟨_,fin (vs:=[B (true)]) rfl (absE (absorb_plain rfl) (absEN)) rfl (ou_f (ou_f (ou_n))),kl_n⟩
   replace h:=hu8
   clear hu8
   refine sp 34 h rfl (fun h=>?_) (fun h=>?_)
   · refine cq 5 [38] [B (true)] 609 ?_
     subst h
     exact rf [2,8,38] [1,321] (j8 :)
   · refine cq 5 [38] [B ((!(r7.2 == r5.2)))] 609 ?_
     subst h
     exact rf [2,8,38] [1,321] (j8 :)
theorem laws_FnExactLiabilityOf_good {G : Go.Ln.Ground} : Good Tryd.prog G 5 laws_FnExactLiabilityOf_ent:=good_T (fnOf_good (gl_c Ffbd_good (gl_c Ffbk_good (gl_c Ffbv_good (gl_c Ffd_good (gl_c Ffw_good (gl_n))))))) agree_mk (Checked.mixed Tryd.checked) Tryd.func5 (n:=2) (m:=0) ⟨rfl,rfl,by decide⟩ (fun _=>⟨rfl,rfl⟩) (fun a r h=>laws_FnExactLiabilityOf_run a.1 a.2 r h)
end Go.Ln
