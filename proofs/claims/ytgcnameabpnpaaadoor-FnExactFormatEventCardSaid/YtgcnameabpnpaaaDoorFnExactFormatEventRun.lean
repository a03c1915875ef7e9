/-
  Each function of the program computes its plain function.
-/
import Derived.Test.YtgcnameabpnpaaaDoorFnExactFormatEventFun
import Derived.Test.YtgcnameabpnpaaaDoorChecked
set_option maxHeartbeats 4000000
set_option linter.unusedVariables false
set_option linter.unusedSimpArgs false
set_option maxRecDepth 100000
namespace Go.Ln
open Go Go.Proofs
def Ffq_A : (Event × Int)→List V:=cA enc_Event (oA I)
def Ffq_R (r : Int) : V × List V:=(I (r),[])
noncomputable def Ffq_ent : Ent:=entT [false,false] Ffq_A Ffq_R fun x=>Ffq x.1 x.2
theorem Ffq_F {a_1 : Event} {left_2 : Int} {r} (h : Ffq a_1 left_2=some r) : (Ffq_ent).F (Ffq_A (a_1,left_2))=some (Ffq_R r):=entT_F (cA_inj enc_Event_inj (oA_inj I_inj)) h
noncomputable def Ffq_c : Code:=bodyOf Tryd.f31
noncomputable def Ffq_E : Env:=mkE Tryd.prog []
def Ffq_Q (x : Event × Int) (r : Int) : St→Prop:=QF Ffq_E Tryd.f31 [false,false] (Ffq_A x) (Ffq_R r)
theorem Ffq_run (a_1 : Event) (left_2 : Int) (r : Int) (h : Ffq a_1 left_2=some r) : RunF Ffq_E Tryd.f31 [false,false] 0 (Ffq_A (a_1,left_2)) (Ffq_R r):=by
 show Run _ _ (Ffq_Q (a_1,left_2) r) [.code Ffq_c] _
 refine rin (n:=13) [(0,enc_Event a_1),(1,I (left_2))] [] 1 (by kernel_rfl) (by kernel_rfl) (by kernel_rfl) rfl ?_
 unfold Ffq at h
 refine cq 20 [1,11] [I ((w64 (left_2 - (len a_1.Action)))),B ((decide ((w64 (left_2 - (len a_1.Action))) < 0)))] 161 ?_
 refine sq h (fun h=>?_) (fun h=>?_)
 · refine cq 4 [4] [I ((-1))] 177 ?_
   obtain rfl:=Option.some.inj h
   exact s_ret rfl ⟨_,fin (vs:=[I ((-1))]) rfl (absE (absorb_plain rfl) (absEN)) rfl (ou_f (ou_f (ou_n))),kl_n⟩
 · refine aq 1 ?_
   refine cq 5 [4] [I ((w64 (left_2 - (len a_1.Action))))] 193 ?_
   obtain rfl:=Option.some.inj h
   exact s_ret rfl ⟨_,fin (vs:=[I ((w64 (left_2 - (len a_1.Action))))]) rfl (absE (absorb_plain rfl) (absEN)) rfl (ou_f (ou_f (ou_n))),kl_n⟩
theorem Ffq_good {G : Go.Ln.Ground} [TabG Tryd.prog G] : Good Tryd.prog G 31 Ffq_ent:=good_T (fnOf_good (gl_n)) agree_mk (Checked.mixed Tryd.checked) Tryd.func31 (n:=2) (m:=0) ⟨rfl,rfl,by decide⟩ (fun _=>⟨rfl,rfl⟩) (fun a r h=>Ffq_run a.1 a.2 r h)
def Ffr_A : ((List Str) × Int)→List V:=cA (slE str) (oA I)
def Ffr_R (r : Int) : V × List V:=(I (r),[])
noncomputable def Ffr_ent : Ent:=entT [false,false] Ffr_A Ffr_R fun x=>Ffr x.1 x.2
theorem Ffr_F {a_1 : List Str} {left_2 : Int} {r} (h : Ffr a_1 left_2=some r) : (Ffr_ent).F (Ffr_A (a_1,left_2))=some (Ffr_R r):=entT_F (cA_inj (isl_inj str_inj) (oA_inj I_inj)) h
noncomputable def Ffr_c : Code:=bodyOf Tryd.f32
noncomputable def Ffr_E : Env:=mkE Tryd.prog []
def Ffr_Q (x : (List Str) × Int) (r : Int) : St→Prop:=QF Ffr_E Tryd.f32 [false,false] (Ffr_A x) (Ffr_R r)
theorem Ffr_la_run (a_1 : List Str) (left_2 : Int)  {Q : St→Prop} {K : List It} (hK : noD K=true) : ∀ (x3 : Int × Int) (y : Int ⊕ Int),Ffr_la a_1 left_2 x3=some y→(∀ r',y=.inl r'→∀ st,Ffr_Q (a_1,left_2) r' st→Q st)→(∀ u : Int,y=.inr u→Run Ffr_E 0 Q K (sT 28 [(1,I (u))] [] 1))→Run Ffr_E 0 Q (.code (cL (cL (cR (cL (cR (cR (cR Ffr_c))))))) :: .lp (cL (cL (cR (cL (cR (cR (cR Ffr_c))))))) :: .blk 0 :: K) (sT 28 [(0,.isl false ((a_1).map str)),(1,I (x3.1)),(5,I (x3.2))] [] 1):=by
 refine fix_indP (Ffr_la_fin a_1 left_2) ?_
 intro self ih x3 y h hr hn
 unfold Ffr_la_F at h
 refine cq 5 [12,13] [I (x3.2),.isl false ((a_1).map str)] 33 ?_
 refine oq 49 (I ((len a_1))) rfl (e_len rfl rfl rfl (l_isl rfl)) ?_
 refine cq 2 [15] [B ((decide (x3.2 < (len a_1))))] 65 ?_
 refine sq h (fun h=>?_) (fun h=>?_)
 · refine aq 1 ?_
   refine cq 7 [18,19,20] [I (x3.1),.isl false ((a_1).map str),I (x3.2)] 113 ?_
   obtain ⟨e4,he4,h⟩:=bS h
   refine oq 129 (.iptr (str (e4)) 0) rfl (e_indexAddr rfl rfl rfl (ix_islE rfl rfl rfl rfl he4)) ?_
   refine cq 10 [1,26] [I ((w64 (x3.1 - (len e4)))),B ((decide ((w64 (x3.1 - (len e4))) < 0)))] 225 ?_
   refine sq h (fun h=>?_) (fun h=>?_)
   · refine cq 4 [4] [I ((-1))] 241 ?_
     exact s_ret rfl (hr _ (Option.some.inj h).symm _ ⟨_,fin (vs:=[I ((-1))]) rfl (absE (absorb_plain rfl) (absEN)) rfl (ou_f (ou_f (ou_n))),kl_n⟩)
   · refine aq 1 ?_
     refine cq 6 [5] [I ((w64 (x3.2 + 1)))] 273 ?_
     refine s_lp ?_
     exact rf [0,1,5] [] (ih _ _ h hr hn :)
 · refine aq 1 ?_
   exact rf [1] [] (hn _ (Option.some.inj h).symm :) (hk:=hK)
theorem Ffr_run (a_1 : List Str) (left_2 : Int) (r : Int) (h : Ffr a_1 left_2=some r) : RunF Ffr_E Tryd.f32 [false,false] 0 (Ffr_A (a_1,left_2)) (Ffr_R r):=by
 show Run _ _ (Ffr_Q (a_1,left_2) r) [.code Ffr_c] _
 refine rin (n:=28) [(0,.isl false ((a_1).map str)),(1,I (left_2))] [] 1 (by kernel_rfl) (by kernel_rfl) (by kernel_rfl) rfl ?_
 unfold Ffr at h
 refine cq 8 [6,7] [I (left_2),.isl false ((a_1).map str)] 49 ?_
 refine oq 65 (I ((len a_1))) rfl (e_len rfl rfl rfl (l_isl rfl)) ?_
 refine cq 9 [1,11] [I ((w64 (left_2 - (len a_1)))),B ((decide ((w64 (left_2 - (len a_1))) < 0)))] 129 ?_
 refine sq h (fun h=>?_) (fun h=>?_)
 · refine cq 4 [4] [I ((-1))] 145 ?_
   obtain rfl:=Option.some.inj h
   exact s_ret rfl ⟨_,fin (vs:=[I ((-1))]) rfl (absE (absorb_plain rfl) (absEN)) rfl (ou_f (ou_f (ou_n))),kl_n⟩
 · refine aq 1 ?_
   refine cq 6 [5] [I (0)] 145 ?_
   obtain ⟨y5,hy5,hy51,hy52⟩:=bJ h
   refine s_loop rfl ?_
   refine rf [0,1,5] [] (Ffr_la_run a_1 left_2 rfl ((w64 (left_2 - (len a_1))),0) _ hy5 (fun r' e st hq=>by rw [hy51 r' e] at hq; exact hq) fun u5 hu=>?_)
   replace h:=hy52 u5 hu
   refine cq 5 [4] [I (u5)] 33 ?_
   obtain rfl:=Option.some.inj h
   exact s_ret rfl ⟨_,fin (vs:=[I (u5)]) rfl (absE (absorb_plain rfl) (absEN)) rfl (ou_f (ou_f (ou_n))),kl_n⟩
theorem Ffr_good {G : Go.Ln.Ground} [TabG Tryd.prog G] : Good Tryd.prog G 32 Ffr_ent:=good_T (fnOf_good (gl_n)) agree_mk (Checked.mixed Tryd.checked) Tryd.func32 (n:=2) (m:=0) ⟨rfl,rfl,by decide⟩ (fun _=>⟨rfl,rfl⟩) (fun a r h=>Ffr_run a.1 a.2 r h)
def Ffs_A : Event→List V:=oA enc_Event
def Ffs_R (r : Event) : V × List V:=(enc_Event r,[])
noncomputable def Ffs_ent : Ent:=entT [false] Ffs_A Ffs_R fun x=>Ffs x
theorem Ffs_F {a_1 : Event} {r} (h : Ffs a_1=some r) : (Ffs_ent).F (Ffs_A a_1)=some (Ffs_R r):=entT_F (oA_inj enc_Event_inj) h
noncomputable def Ffs_c : Code:=bodyOf Tryd.f34
noncomputable def Ffs_E : Env:=mkE Tryd.prog []
def Ffs_Q (x : Event) (r : Event) : St→Prop:=QF Ffs_E Tryd.f34 [false] (Ffs_A x) (Ffs_R r)
theorem Ffs_run (a_1 : Event) (r : Event) (h : Ffs a_1=some r) : RunF Ffs_E Tryd.f34 [false] 0 (Ffs_A a_1) (Ffs_R r):=by
 show Run _ _ (Ffs_Q a_1 r) [.code Ffs_c] _
 refine rin (n:=17) [(0,enc_Event a_1)] [] 1 (by kernel_rfl) (by kernel_rfl) (by kernel_rfl) rfl ?_
 unfold Ffs at h
 refine ck 42 [2] [] [17] [] [.hp 17 0 [] 4 0 0] [some ⟨0,4,[enc_Event a_1]⟩] 337 (by kernel_rfl) ?_
 obtain rfl:=Option.some.inj h
 exact s_ret rfl ⟨_,fin (vs:=[enc_Event a_1]) (rs_c (rs_cell rfl rfl rfl) (rs_n)) (absE (absorb_plain rfl) (absEN)) rfl (ou_f (ou_n)),kl_n⟩
theorem Ffs_good {G : Go.Ln.Ground} [TabG Tryd.prog G] : Good Tryd.prog G 34 Ffs_ent:=good_T (fnOf_good (gl_n)) agree_mk (Checked.mixed Tryd.checked) Tryd.func34 (n:=1) (m:=0) ⟨rfl,rfl,by decide⟩ (fun _=>⟨rfl,rfl⟩) (fun a r h=>Ffs_run a r h)
def Fft_A : ((List Str))→List V:=oA (slE str)
def Fft_R (r : (List Str)) : V × List V:=(.usl 1 ((r).map str),[])
noncomputable def Fft_ent : Ent:=entT [false] Fft_A Fft_R fun x=>Fft x
theorem Fft_F {a_1 : List Str} {r} (h : Fft a_1=some r) : (Fft_ent).F (Fft_A a_1)=some (Fft_R r):=entT_F (oA_inj (isl_inj str_inj)) h
noncomputable def Fft_c : Code:=bodyOf Tryd.f35
noncomputable def Fft_E : Env:=mkE Tryd.prog []
def Fft_Q (x : (List Str)) (r : (List Str)) : St→Prop:=QF Fft_E Tryd.f35 [false] (Fft_A x) (Fft_R r)
theorem Fft_la_run (a_1 : List Str)  {Q : St→Prop} {K : List It} (hK : noD K=true) : ∀ (x3 : Int × (List Str)) (y : ((List Str)) ⊕ ((List Str))),Fft_la a_1 x3=some y→(∀ r',y=.inl r'→∀ st,Fft_Q a_1 r' st→Q st)→(∀ u : (List Str),y=.inr u→Run Fft_E 0 Q K (sT 22 [(3,.hs 1 0 [] 1 0 ((u).map str).length)] [⟨0,1,(u).map str⟩] 2))→Run Fft_E 0 Q (.code (cL (cL (cR (cL (cR (cR Fft_c)))))) :: .lp (cL (cL (cR (cL (cR (cR Fft_c)))))) :: .blk 0 :: K) (sT 22 [(0,.isl false ((a_1).map str)),(3,.hs 1 0 [] 1 0 ((x3.2).map str).length),(4,I (x3.1))] [⟨0,1,(x3.2).map str⟩] 2):=by
 refine fix_indP (Fft_la_fin a_1) ?_
 intro self ih x3 y h hr hn
 unfold Fft_la_F at h
 refine cq 5 [8,9] [I (x3.1),.isl false ((a_1).map str)] 34 ?_
 refine oq 50 (I ((len a_1))) rfl (e_len rfl rfl rfl (l_isl rfl)) ?_
 refine cq 2 [11] [B ((decide (x3.1 < (len a_1))))] 66 ?_
 refine sq h (fun h=>?_) (fun h=>?_)
 · refine aq 1 ?_
   refine cq 7 [14,15,16,17] [.hs 1 0 [] 1 0 ((x3.2).map str).length,I (x3.1),.isl false ((a_1).map str),I (x3.1)] 130 ?_
   obtain ⟨e4,he4,h⟩:=bS h
   refine oq 146 (.iptr (str (e4)) 0) rfl (e_indexAddr rfl rfl rfl (ix_islE rfl rfl rfl rfl he4)) ?_
   refine cq 1 [19] [str (e4)] 162 ?_
   obtain ⟨e5,he5,h⟩:=bS h
   refine oq 178 (.hp 1 0 [] 1 (0 + Int.toNat (x3.1)) 0) rfl (e_indexAddr rfl rfl rfl (ix_hsM (f:=str) (xs:=x3.2) rfl rfl rfl he5)) ?_
   refine o0 194 rfl rfl (e_st rfl rfl (st_at (path:=[]) (pl:=true) (e':=str (e4)) (es2':=((setI x3.2 x3.1 e4)).map str) rfl (absorb_plain rfl) rfl rfl rfl (ra_n) (get_map (f:=str) (xs:=x3.2) he5) rfl rfl rfl (set_map (f:=str) (xs:=x3.2) (y:=e4)) (sr_n) 0 rfl)) ?_
   try rw [← len_setM (f:=str) (xs:=x3.2) (i:=x3.1) (z:=e4)]
   refine cq 7 [4] [I ((w64 (x3.1 + 1)))] 242 ?_
   refine s_lp ?_
   exact rf [0,3,4] [1] (ih _ _ h hr hn :)
 · refine aq 1 ?_
   exact rf [3] [1] (hn _ (Option.some.inj h).symm :) (hk:=hK)
theorem Fft_run (a_1 : List Str) (r : (List Str)) (h : Fft a_1=some r) : RunF Fft_E Tryd.f35 [false] 0 (Fft_A a_1) (Fft_R r):=by
 show Run _ _ (Fft_Q a_1 r) [.code Fft_c] _
 refine rin (n:=22) [(0,.isl false ((a_1).map str))] [] 1 (by kernel_rfl) (by kernel_rfl) (by kernel_rfl) rfl ?_
 unfold Fft at h
 refine cq 7 [5] [.isl false ((a_1).map str)] 33 ?_
 refine oq 49 (I ((len a_1))) rfl (e_len rfl rfl rfl (l_isl rfl)) ?_
 obtain ⟨m2,hm2,h⟩:=bS h
 refine oq 65 (.hs 49 0 [] 1 0 ((m2).map str).length) rfl (e_makeSlice rfl rfl (ms_mkM (f:=str) rfl rfl rfl (by decide) hm2 rfl)) ?_
 refine cq 8 [3,4] [.hs 49 0 [] 1 0 ((m2).map str).length,I (0)] 97 ?_
 obtain ⟨y6,hy6,hy61,hy62⟩:=bJ h
 refine s_loop rfl ?_
 refine rf [0,3,4] [49] (Fft_la_run a_1 rfl (0,m2) _ hy6 (fun r' e st hq=>by rw [hy61 r' e] at hq; exact hq) fun u6 hu=>?_)
 replace h:=hy62 u6 hu
 refine cq 5 [2] [.hs 1 0 [] 1 0 ((u6).map str).length] 34 ?_
 obtain rfl:=Option.some.inj h
 exact s_ret rfl ⟨_,fin (vs:=[.hs 1 0 [] 1 0 ((u6).map str).length]) rfl (absE (abs1 rfl (abs_hs rfl rfl)) (absEN)) rfl (ou_f (ou_n)),kl_n⟩
theorem Fft_good {G : Go.Ln.Ground} [TabG Tryd.prog G] : Good Tryd.prog G 35 Fft_ent:=good_T (fnOf_good (gl_n)) agree_mk (Checked.mixed Tryd.checked) Tryd.func35 (n:=1) (m:=0) ⟨rfl,rfl,by decide⟩ (fun _=>⟨rfl,rfl⟩) (fun a r h=>Fft_run a r h)
def spec_l1In_A : (Int × Int × Int)→List V:=cA I (cA I (oA I))
def spec_l1In_R (r : Bool) : V × List V:=(B (r),[])
noncomputable def spec_l1In_ent : Ent:=entT [false,false,false] spec_l1In_A spec_l1In_R fun x=>spec_l1In x.1 x.2.1 x.2.2
theorem spec_l1In_F {x_1 : Int} {a_2 : Int} {b_3 : Int} {r} (h : spec_l1In x_1 a_2 b_3=some r) : (spec_l1In_ent).F (spec_l1In_A (x_1,a_2,b_3))=some (spec_l1In_R r):=entT_F (cA_inj I_inj (cA_inj I_inj (oA_inj I_inj))) h
noncomputable def spec_l1In_c : Code:=bodyOf Tryd.f54
noncomputable def spec_l1In_E : Env:=mkE Tryd.prog []
def spec_l1In_Q (x : Int × Int × Int) (r : Bool) : St→Prop:=QF spec_l1In_E Tryd.f54 [false,false,false] (spec_l1In_A x) (spec_l1In_R r)
theorem spec_l1In_run (x_1 : Int) (a_2 : Int) (b_3 : Int) (r : Bool) (h : spec_l1In x_1 a_2 b_3=some r) : RunF spec_l1In_E Tryd.f54 [false,false,false] 0 (spec_l1In_A (x_1,a_2,b_3)) (spec_l1In_R r):=by
 show Run _ _ (spec_l1In_Q (x_1,a_2,b_3) r) [.code spec_l1In_c] _
 refine rin (n:=15) [(0,I (x_1)),(1,I (a_2)),(2,I (b_3))] [] 1 (by kernel_rfl) (by kernel_rfl) (by kernel_rfl) rfl ?_
 unfold spec_l1In at h
 refine cq 10 [10] [B ((decide (x_1 ≥ a_2)))] 81 ?_
 obtain ⟨u4,hu4,h⟩:=lJ h
 have j4 : Run spec_l1In_E 0 (spec_l1In_Q (x_1,a_2,b_3) r) (.code (cR (cR spec_l1In_c)) :: []) (sT 15 [(6,B (u4))] [] 1):=by
   obtain rfl:=Option.some.inj h
   exact s_ret rfl ⟨_,fin (vs:=[B (u4)]) rfl (absE (absorb_plain rfl) (absEN)) rfl (ou_f (ou_f (ou_f (ou_n)))),kl_n⟩
 replace h:=hu4
 clear hu4
 refine sp 10 h rfl (fun h=>?_) (fun h=>?_)
 · refine cq 6 [6] [B ((decide (x_1 ≤ b_3)))] 161 ?_
   subst h
   exact rf [6] [] (j4 :)
 · refine cq 6 [6] [B (false)] 161 ?_
   subst h
   exact rf [6] [] (j4 :)
theorem spec_l1In_good {G : Go.Ln.Ground} [TabG Tryd.prog G] : Good Tryd.prog G 54 spec_l1In_ent:=good_T (fnOf_good (gl_n)) agree_mk (Checked.mixed Tryd.checked) Tryd.func54 (n:=3) (m:=0) ⟨rfl,rfl,by decide⟩ (fun _=>⟨rfl,rfl⟩) (fun a r h=>spec_l1In_run a.1 a.2.1 a.2.2 r h)
def Ffbh_A : Int→List V:=oA (V.int .u8)
def Ffbh_R (r : Bool) : V × List V:=(B (r),[])
noncomputable def Ffbh_ent : Ent:=entT [false] Ffbh_A Ffbh_R fun x=>Ffbh x
theorem Ffbh_F {b_1 : Int} {r} (h : Ffbh b_1=some r) : (Ffbh_ent).F (Ffbh_A b_1)=some (Ffbh_R r):=entT_F (oA_inj (vint_inj (k:=.u8))) h
noncomputable def Ffbh_c : Code:=bodyOf Tryd.f105
noncomputable def Ffbh_E : Env:=mkE Tryd.prog []
def Ffbh_Q (x : Int) (r : Bool) : St→Prop:=QF Ffbh_E Tryd.f105 [false] (Ffbh_A x) (Ffbh_R r)
theorem Ffbh_run (b_1 : Int) (r : Bool) (h : Ffbh b_1=some r) : RunF Ffbh_E Tryd.f105 [false] 0 (Ffbh_A b_1) (Ffbh_R r):=by
 show Run _ _ (Ffbh_Q b_1 r) [.code Ffbh_c] _
 refine rin (n:=17) [(0,.int .u8 (b_1))] [] 1 (by kernel_rfl) (by kernel_rfl) (by kernel_rfl) rfl ?_
 unfold Ffbh at h
 refine cq 9 [5] [B ((decide (b_1 ≥ 97)))] 65 ?_
 obtain ⟨u2,hu2,h⟩:=lJ h
 have j2 : Run Ffbh_E 0 (Ffbh_Q b_1 r) (.code (cR (cR Ffbh_c)) :: []) (sT 17 [(2,B (u2))] [] 1):=by
   obtain rfl:=Option.some.inj h
   exact s_ret rfl ⟨_,fin (vs:=[B (u2)]) rfl (absE (absorb_plain rfl) (absEN)) rfl (ou_f (ou_n)),kl_n⟩
 replace h:=hu2
 clear hu2
 refine sp 5 h rfl (fun h=>?_) (fun h=>?_)
 · refine cq 4 [9] [B ((decide (b_1 ≤ 122)))] 129 ?_
   obtain ⟨u3,hu3,h⟩:=lJ h
   have j3 : Run Ffbh_E 0 (Ffbh_Q b_1 r) (.code (cR (cR Ffbh_c)) :: []) (sT 17 [(2,B (u3))] [] 1):=by
     subst h
     exact rf [2] [] (j2 :)
   replace h:=hu3
   clear hu3
   refine sp 9 h rfl (fun h=>?_) (fun h=>?_)
   · refine cq 9 [2] [B (true)] 257 ?_
     subst h
     exact rf [2] [] (j3 :)
   · refine cq 3 [12] [B ((decide (b_1 ≥ 48)))] 177 ?_
     obtain ⟨u4,hu4,h⟩:=lJ h
     have j4 : Run Ffbh_E 0 (Ffbh_Q b_1 r) (.code (cR (cR Ffbh_c)) :: []) (sT 17 [(2,B (u4))] [] 1):=by
       subst h
       exact rf [2] [] (j3 :)
     replace h:=hu4
     clear hu4
     refine sp 12 h rfl (fun h=>?_) (fun h=>?_)
     · refine cq 6 [2] [B ((decide (b_1 ≤ 57)))] 257 ?_
       subst h
       exact rf [2] [] (j4 :)
     · refine cq 6 [2] [B (false)] 257 ?_
       subst h
       exact rf [2] [] (j4 :)
 · refine cq 7 [9,12] [B (false),B ((decide (b_1 ≥ 48)))] 177 ?_
   obtain ⟨u5,hu5,h⟩:=lJ h
   have j5 : Run Ffbh_E 0 (Ffbh_Q b_1 r) (.code (cR (cR Ffbh_c)) :: []) (sT 17 [(2,B (u5))] [] 1):=by
     subst h
     exact rf [2] [] (j2 :)
   replace h:=hu5
   clear hu5
   refine sp 12 h rfl (fun h=>?_) (fun h=>?_)
   · refine cq 6 [2] [B ((decide (b_1 ≤ 57)))] 257 ?_
     subst h
     exact rf [2] [] (j5 :)
   · refine cq 6 [2] [B (false)] 257 ?_
     subst h
     exact rf [2] [] (j5 :)
theorem Ffbh_good {G : Go.Ln.Ground} [TabG Tryd.prog G] : Good Tryd.prog G 105 Ffbh_ent:=good_T (fnOf_good (gl_n)) agree_mk (Checked.mixed Tryd.checked) Tryd.func105 (n:=1) (m:=0) ⟨rfl,rfl,by decide⟩ (fun _=>⟨rfl,rfl⟩) (fun a r h=>Ffbh_run a r h)
def Ffbg_A : Str→List V:=oA str
def Ffbg_R (r : Bool) : V × List V:=(B (r),[])
noncomputable def Ffbg_ent : Ent:=entT [false] Ffbg_A Ffbg_R fun x=>Ffbg x
theorem Ffbg_F {s_1 : Str} {r} (h : Ffbg s_1=some r) : (Ffbg_ent).F (Ffbg_A s_1)=some (Ffbg_R r):=entT_F (oA_inj str_inj) h
noncomputable def Ffbg_c : Code:=bodyOf Tryd.f86
noncomputable abbrev Ffbg_ka : Code:=cR (cR (cR (cR Ffbg_c)))
noncomputable abbrev Ffbg_kb : Code:=cR (cL (cR (cL (cR (cR (cR Ffbg_c))))))
noncomputable def Ffbg_E : Env:=mkE Tryd.prog [(54,spec_l1In_ent),(105,Ffbh_ent)]
def Ffbg_Q (x : Str) (r : Bool) : St→Prop:=QF Ffbg_E Tryd.f86 [false] (Ffbg_A x) (Ffbg_R r)
theorem Ffbg_la_run (s_1 : Str)  {Q : St→Prop} {K : List It} (hK : noD K=true) : ∀ (x4 : Int) (y : Bool ⊕ Unit),Ffbg_la s_1 x4=some y→(∀ r',y=.inl r'→∀ st,Ffbg_Q s_1 r' st→Q st)→(∀ u : Unit,y=.inr u→Run Ffbg_E 0 Q K (sT 40 [(0,str (s_1))] [] 1))→Run Ffbg_E 0 Q (.code (cL (cL (cR (cL (cR (cR Ffbg_c)))))) :: .lp (cL (cL (cR (cL (cR (cR Ffbg_c)))))) :: .blk 0 :: K) (sT 40 [(0,str (s_1)),(3,I (x4))] [] 1):=by
 refine fix_indP (Ffbg_la_fin s_1) ?_
 intro self ih x4 y h hr hn
 unfold Ffbg_la_F at h
 refine cq 8 [21] [B ((decide (x4 < (len s_1))))] 65 ?_
 refine sq h (fun h=>?_) (fun h=>?_)
 · refine aq 1 ?_
   refine cq 6 [24,25] [str (s_1),I (x4)] 97 ?_
   obtain ⟨c5,hc5,h⟩:=bS h
   refine oq 113 (.int .u8 ((c5.toNat : Int))) rfl (e_index rfl rfl (i_str rfl rfl hc5)) ?_
   obtain ⟨r6,hr6,h⟩:=bS h
   refine oq 129 (B (r6)) rfl (e_callV rfl rfl (call_P rfl rfl rfl (avS (shP rfl) (avN)) (Ffbh_F hr6) (.inr rfl) (bl_n) rfl rfl rfl)) ?_
   refine cq 2 [28] [B ((!r6))] 145 ?_
   refine sq h (fun h=>?_) (fun h=>?_)
   · refine cq 4 [2] [B (false)] 161 ?_
     exact s_ret rfl (hr _ (Option.some.inj h).symm _ ⟨_,fin (vs:=[B (false)]) rfl (absE (absorb_plain rfl) (absEN)) rfl (ou_f (ou_n)),kl_n⟩)
   · refine aq 1 ?_
     refine cq 6 [3] [I ((w64 (x4 + 1)))] 193 ?_
     refine s_lp ?_
     exact rf [0,3] [] (ih _ _ h hr hn :)
 · refine aq 1 ?_
   exact rf [0] [] (hn _ (Option.some.inj h).symm :) (hk:=hK)
theorem Ffbg_run (s_1 : Str) (r : Bool) (h : Ffbg s_1=some r) : RunF Ffbg_E Tryd.f86 [false] 0 (Ffbg_A s_1) (Ffbg_R r):=by
 show Run _ _ (Ffbg_Q s_1 r) [.code Ffbg_c] _
 refine rin (n:=40) [(0,str (s_1))] [] 1 (by kernel_rfl) (by kernel_rfl) (by kernel_rfl) rfl ?_
 unfold Ffbg at h
 refine cq 9 [5] [I ((len s_1))] 49 ?_
 obtain ⟨r2,hr2,h⟩:=bS h
 refine oq 65 (B (r2)) rfl (e_callV rfl rfl (call_P rfl rfl rfl (avS (shP rfl) (avS (shP rfl) (avS (shP rfl) (avN)))) (spec_l1In_F hr2) (.inr rfl) (bl_n) rfl rfl rfl)) ?_
 refine cq 2 [8] [B ((!r2))] 97 ?_
 obtain ⟨y3,hy3,hy31,hy32⟩:=bJ h
 have j3 : ∀ u3,y3=.inr u3→Run Ffbg_E 0 (Ffbg_Q s_1 r) (.code (cR (cL (cR Ffbg_c))) :: .code (cR (cR Ffbg_c)) :: []) (sT 40 [(0,str (s_1)),(17,B (u3))] [] 1):=by
   intro u3 hu
   replace h:=hy32 u3 hu
   refine sq h (fun h=>?_) (fun h=>?_)
   · refine cq 4 [2] [B (false)] 17 ?_
     obtain rfl:=Option.some.inj h
     exact s_ret rfl ⟨_,fin (vs:=[B (false)]) rfl (absE (absorb_plain rfl) (absEN)) rfl (ou_f (ou_n)),kl_n⟩
   · refine aq 1 ?_
     refine cq 6 [3] [I (0)] 17 ?_
     obtain ⟨y7,hy7,hy71,hy72⟩:=bJ h
     refine s_loop rfl ?_
     refine rf [0,3] [] (Ffbg_la_run s_1 rfl 0 _ hy7 (fun r' e st hq=>by rw [hy71 r' e] at hq; exact hq) fun u7 hu=>?_)
     replace h:=hy72 u7 hu
     refine cq 12 [29,30] [str (s_1),B ((s_1 == ([116,114,117,101] : Str)))] 49 ?_
     obtain ⟨u8,hu8,h⟩:=lJ h
     have j8 : Run Ffbg_E 0 (Ffbg_Q s_1 r) (.code Ffbg_kb :: .blk 2 :: .code Ffbg_ka :: []) (sT 40 [(30,B (u8))] [] 1):=by
       refine sq h (fun h=>?_) (fun h=>?_)
       · refine cq 4 [2] [B (false)] 17 ?_
         obtain rfl:=Option.some.inj h
         exact s_ret rfl ⟨_,fin (vs:=[B (false)]) rfl (absE (absorb_plain rfl) (absEN)) rfl (ou_f (ou_n)),kl_n⟩
       · refine aq 1 ?_
         refine cq 5 [2] [B (true)] 17 ?_
         obtain rfl:=Option.some.inj h
         exact s_ret rfl ⟨_,fin (vs:=[B (true)]) rfl (absE (absorb_plain rfl) (absEN)) rfl (ou_f (ou_n)),kl_n⟩
     replace h:=hu8
     clear hu8
     refine scp h rfl rfl (fun h=>?_) (fun h=>?_)
     · refine aq 1 ?_
       subst h
       exact rf [30] [] (j8 :)
     · refine cq 5 [30] [B ((s_1 == ([102,114,111,109] : Str)))] 81 ?_
       obtain ⟨u9,hu9,h⟩:=lJ h
       have j9 : Run Ffbg_E 0 (Ffbg_Q s_1 r) (.code Ffbg_kb :: .blk 2 :: .code Ffbg_ka :: []) (sT 40 [(30,B (u9))] [] 1):=by
         subst h
         exact rf [30] [] (j8 :)
       replace h:=hu9
       clear hu9
       refine scp h rfl rfl (fun h=>?_) (fun h=>?_)
       · refine aq 1 ?_
         subst h
         exact rf [30] [] (j9 :)
       · refine cq 5 [30] [B ((s_1 == ([110,111,116] : Str)))] 113 ?_
         obtain ⟨u10,hu10,h⟩:=lJ h
         have j10 : Run Ffbg_E 0 (Ffbg_Q s_1 r) (.code Ffbg_kb :: .blk 2 :: .code Ffbg_ka :: []) (sT 40 [(30,B (u10))] [] 1):=by
           subst h
           exact rf [30] [] (j9 :)
         replace h:=hu10
         clear hu10
         refine scp h rfl rfl (fun h=>?_) (fun h=>?_)
         · refine aq 1 ?_
           subst h
           exact rf [30] [] (j10 :)
         · refine cq 5 [30] [B ((s_1 == ([97,110,100] : Str)))] 145 ?_
           obtain ⟨u11,hu11,h⟩:=lJ h
           have j11 : Run Ffbg_E 0 (Ffbg_Q s_1 r) (.code Ffbg_kb :: .blk 2 :: .code Ffbg_ka :: []) (sT 40 [(30,B (u11))] [] 1):=by
             subst h
             exact rf [30] [] (j10 :)
           replace h:=hu11
           clear hu11
           refine scp h rfl rfl (fun h=>?_) (fun h=>?_)
           · refine aq 1 ?_
             subst h
             exact rf [30] [] (j11 :)
           · refine cq 5 [30] [B ((s_1 == ([111,114] : Str)))] 177 ?_
             obtain ⟨u12,hu12,h⟩:=lJ h
             have j12 : Run Ffbg_E 0 (Ffbg_Q s_1 r) (.code Ffbg_kb :: .blk 2 :: .code Ffbg_ka :: []) (sT 40 [(30,B (u12))] [] 1):=by
               subst h
               exact rf [30] [] (j11 :)
             replace h:=hu12
             clear hu12
             refine scp h rfl rfl (fun h=>?_) (fun h=>?_)
             · refine aq 1 ?_
               subst h
               exact rf [30] [] (j12 :)
             · refine cq 5 [30] [B ((s_1 == ([98,111,116,104] : Str)))] 209 ?_
               obtain ⟨u13,hu13,h⟩:=lJ h
               have j13 : Run Ffbg_E 0 (Ffbg_Q s_1 r) (.code Ffbg_kb :: .blk 2 :: .code Ffbg_ka :: []) (sT 40 [(30,B (u13))] [] 1):=by
                 subst h
                 exact rf [30] [] (j12 :)
               replace h:=hu13
               clear hu13
               refine scp h rfl rfl (fun h=>?_) (fun h=>?_)
               · refine aq 1 ?_
                 subst h
                 exact rf [30] [] (j13 :)
               · refine cq 5 [30] [B ((s_1 == ([101,105,116,104,101,114] : Str)))] 241 ?_
                 obtain ⟨u14,hu14,h⟩:=lJ h
                 have j14 : Run Ffbg_E 0 (Ffbg_Q s_1 r) (.code Ffbg_kb :: .blk 2 :: .code Ffbg_ka :: []) (sT 40 [(30,B (u14))] [] 1):=by
                   subst h
                   exact rf [30] [] (j13 :)
                 replace h:=hu14
                 clear hu14
                 refine scp h rfl rfl (fun h=>?_) (fun h=>?_)
                 · refine aq 1 ?_
                   subst h
                   exact rf [30] [] (j14 :)
                 · refine cq 5 [30] [B ((s_1 == ([105,116] : Str)))] 273 ?_
                   obtain ⟨u15,hu15,h⟩:=lJ h
                   have j15 : Run Ffbg_E 0 (Ffbg_Q s_1 r) (.code Ffbg_kb :: .blk 2 :: .code Ffbg_ka :: []) (sT 40 [(30,B (u15))] [] 1):=by
                     subst h
                     exact rf [30] [] (j14 :)
                   replace h:=hu15
                   clear hu15
                   refine scp h rfl rfl (fun h=>?_) (fun h=>?_)
                   · refine aq 1 ?_
                     subst h
                     exact rf [30] [] (j15 :)
                   · refine cq 4 [30] [B ((s_1 == ([105,110] : Str)))] 305 ?_
                     subst h
                     exact rf [30] [] (j15 :)
 have r3 : ∀ r',y3=.inl r'→∀ st,Ffbg_Q s_1 r' st→(Ffbg_Q s_1 r) st:=fun r' e st hq=>by rw [hy31 r' e] at hq; exact hq
 replace h:=hy3
 refine sp 8 h rfl (fun h=>?_) (fun h=>?_)
 · refine cq 10 [17] [B (true)] 241 ?_
   exact rf [0,17] [] (j3 _ (Option.some.inj h).symm :)
 · refine cq 1 [9] [str (s_1)] 113 ?_
   obtain ⟨c16,hc16,h⟩:=bS h
   refine oy 129 (.int .u8 ((c16.toNat : Int))) rfl (e_index rfl rfl (i_str rfl rfl hc16)) ?_
   refine cq 3 [13] [B ((decide ((c16.toNat : Int) < 97)))] 177 ?_
   obtain ⟨y17,hy17,hy171,hy172⟩:=bL h
   have j17 : ∀ u17,y17=.inr u17→Run Ffbg_E 0 (Ffbg_Q s_1 r) (.code (cR (cL (cR Ffbg_c))) :: .code (cR (cR Ffbg_c)) :: []) (sT 40 [(0,str (s_1)),(17,B (u17))] [] 1):=by
     intro u17 hu
     replace h:=hy172 u17 hu
     exact rf [0,17] [] (j3 _ (Option.some.inj h).symm :)
   have r17 : ∀ r',y17=.inl r'→∀ st,Ffbg_Q s_1 r' st→(Ffbg_Q s_1 r) st:=fun r' e st hq=>r3 r' (hy171 r' e) st hq
   replace h:=hy17
   refine sp 13 h rfl (fun h=>?_) (fun h=>?_)
   · refine cq 5 [17] [B (true)] 241 ?_
     exact rf [0,17] [] (j17 _ (Option.some.inj h).symm :)
   · refine cq 1 [14] [str (s_1)] 193 ?_
     obtain ⟨c18,hc18,h⟩:=bS h
     refine oy 209 (.int .u8 ((c18.toNat : Int))) rfl (e_index rfl rfl (i_str rfl rfl hc18)) ?_
     refine cq 3 [17] [B ((decide ((c18.toNat : Int) > 122)))] 241 ?_
     exact rf [0,17] [] (j17 _ (Option.some.inj h).symm :)
theorem Ffbg_good {G : Go.Ln.Ground} [TabG Tryd.prog G] : Good Tryd.prog G 86 Ffbg_ent:=good_T (fnOf_good (gl_c spec_l1In_good (gl_c Ffbh_good (gl_n)))) agree_mk (Checked.mixed Tryd.checked) Tryd.func86 (n:=1) (m:=0) ⟨rfl,rfl,by decide⟩ (fun _=>⟨rfl,rfl⟩) (fun a r h=>Ffbg_run a r h)
def Ffbf_A : ((List Str) × Str)→List V:=cA (slE str) (oA str)
def Ffbf_R (r : Bool) : V × List V:=(B (r),[])
noncomputable def Ffbf_ent : Ent:=entT [false,false] Ffbf_A Ffbf_R fun x=>Ffbf x.1 x.2
theorem Ffbf_F {list_1 : List Str} {name_2 : Str} {r} (h : Ffbf list_1 name_2=some r) : (Ffbf_ent).F (Ffbf_A (list_1,name_2))=some (Ffbf_R r):=entT_F (cA_inj (isl_inj str_inj) (oA_inj str_inj)) h
noncomputable def Ffbf_c : Code:=bodyOf Tryd.f104
noncomputable def Ffbf_E : Env:=mkE Tryd.prog []
def Ffbf_Q (x : (List Str) × Str) (r : Bool) : St→Prop:=QF Ffbf_E Tryd.f104 [false,false] (Ffbf_A x) (Ffbf_R r)
theorem Ffbf_la_run (list_1 : List Str) (name_2 : Str)  {Q : St→Prop} {K : List It} (hK : noD K=true) : ∀ (x3 : Int) (y : Bool ⊕ Unit),Ffbf_la list_1 name_2 x3=some y→(∀ r',y=.inl r'→∀ st,Ffbf_Q (list_1,name_2) r' st→Q st)→(∀ u : Unit,y=.inr u→Run Ffbf_E 0 Q K (sT 18 [] [] 1))→Run Ffbf_E 0 Q (.code (cL (cL (cR (cL (cR Ffbf_c))))) :: .lp (cL (cL (cR (cL (cR Ffbf_c))))) :: .blk 0 :: K) (sT 18 [(0,.isl false ((list_1).map str)),(1,str (name_2)),(5,I (x3))] [] 1):=by
 refine fix_indP (Ffbf_la_fin list_1 name_2) ?_
 intro self ih x3 y h hr hn
 unfold Ffbf_la_F at h
 refine cq 5 [6,7] [I (x3),.isl false ((list_1).map str)] 33 ?_
 refine oq 49 (I ((len list_1))) rfl (e_len rfl rfl rfl (l_isl rfl)) ?_
 refine cq 2 [9] [B ((decide (x3 < (len list_1))))] 65 ?_
 refine sq h (fun h=>?_) (fun h=>?_)
 · refine aq 1 ?_
   refine cq 6 [12,13] [.isl false ((list_1).map str),I (x3)] 97 ?_
   obtain ⟨e4,he4,h⟩:=bS h
   refine oq 113 (.iptr (str (e4)) 0) rfl (e_indexAddr rfl rfl rfl (ix_islE rfl rfl rfl rfl he4)) ?_
   refine cq 4 [17] [B ((e4 == name_2))] 161 ?_
   refine sq h (fun h=>?_) (fun h=>?_)
   · refine cq 4 [4] [B (true)] 177 ?_
     exact s_ret rfl (hr _ (Option.some.inj h).symm _ ⟨_,fin (vs:=[B (true)]) rfl (absE (absorb_plain rfl) (absEN)) rfl (ou_f (ou_f (ou_n))),kl_n⟩)
   · refine aq 1 ?_
     refine cq 6 [5] [I ((w64 (x3 + 1)))] 209 ?_
     refine s_lp ?_
     exact rf [0,1,5] [] (ih _ _ h hr hn :)
 · refine aq 1 ?_
   exact rf [] [] (hn _ (Option.some.inj h).symm :) (hk:=hK)
theorem Ffbf_run (list_1 : List Str) (name_2 : Str) (r : Bool) (h : Ffbf list_1 name_2=some r) : RunF Ffbf_E Tryd.f104 [false,false] 0 (Ffbf_A (list_1,name_2)) (Ffbf_R r):=by
 show Run _ _ (Ffbf_Q (list_1,name_2) r) [.code Ffbf_c] _
 refine rin (n:=18) [(0,.isl false ((list_1).map str)),(1,str (name_2))] [] 1 (by kernel_rfl) (by kernel_rfl) (by kernel_rfl) rfl ?_
 unfold Ffbf at h
 refine cq 10 [5] [I (0)] 33 ?_
 obtain ⟨y5,hy5,hy51,hy52⟩:=bJ h
 refine s_loop rfl ?_
 refine rf [0,1,5] [] (Ffbf_la_run list_1 name_2 rfl 0 _ hy5 (fun r' e st hq=>by rw [hy51 r' e] at hq; exact hq) fun u5 hu=>?_)
 replace h:=hy52 u5 hu
 refine cq 4 [4] [B (false)] 17 ?_
 obtain rfl:=Option.some.inj h
 exact s_ret rfl ⟨_,fin (vs:=[B (false)]) rfl (absE (absorb_plain rfl) (absEN)) rfl (ou_f (ou_f (ou_n))),kl_n⟩
theorem Ffbf_good {G : Go.Ln.Ground} [TabG Tryd.prog G] : Good Tryd.prog G 104 Ffbf_ent:=good_T (fnOf_good (gl_n)) agree_mk (Checked.mixed Tryd.checked) Tryd.func104 (n:=2) (m:=0) ⟨rfl,rfl,by decide⟩ (fun _=>⟨rfl,rfl⟩) (fun a r h=>Ffbf_run a.1 a.2 r h)
def Ffbi_A : Contract→List V:=oA encI_Contract
def Ffbi_R (r : Bool) : V × List V:=(B (r),[])
noncomputable def Ffbi_ent : Ent:=entT [false] Ffbi_A Ffbi_R fun x=>Ffbi x
theorem Ffbi_F {c_1 : Contract} {r} (h : Ffbi c_1=some r) : (Ffbi_ent).F (Ffbi_A c_1)=some (Ffbi_R r):=entT_F (oA_inj encI_Contract_inj) h
noncomputable def Ffbi_c : Code:=bodyOf Tryd.f84
noncomputable def Ffbi_E : Env:=mkE Tryd.prog [(86,Ffbg_ent),(104,Ffbf_ent),(54,spec_l1In_ent)]
def Ffbi_Q (x : Contract) (r : Bool) : St→Prop:=QF Ffbi_E Tryd.f84 [false] (Ffbi_A x) (Ffbi_R r)
theorem Ffbi_la_run (c_1 : Contract)  {Q : St→Prop} {K : List It} (hK : noD K=true) : ∀ (x2 : Int) (y : Bool ⊕ Unit),Ffbi_la c_1 x2=some y→(∀ r',y=.inl r'→∀ st,Ffbi_Q c_1 r' st→Q st)→(∀ u : Unit,y=.inr u→Run Ffbi_E 0 Q K (sT 34 [(1,.hp 1 0 [] 2 0 0)] [⟨0,2,[encI_Contract c_1]⟩] 2))→Run Ffbi_E 0 Q (.code (cL (cL (cR (cL (cR Ffbi_c))))) :: .lp (cL (cL (cR (cL (cR Ffbi_c))))) :: .blk 0 :: K) (sT 34 [(1,.hp 1 0 [] 2 0 0),(3,I (x2))] [⟨0,2,[encI_Contract c_1]⟩] 2):=by
 refine fix_indP (Ffbi_la_fin c_1) ?_
 intro self ih x2 y h hr hn
 unfold Ffbi_la_F at h
 refine cq 6 [4,6] [I (x2),.isl false ((c_1.Parties).map str)] 50 ?_
 refine oq 66 (I ((len c_1.Parties))) rfl (e_len rfl rfl rfl (l_isl rfl)) ?_
 refine cq 2 [8] [B ((decide (x2 < (len c_1.Parties))))] 82 ?_
 refine sq h (fun h=>?_) (fun h=>?_)
 · refine aq 1 ?_
   refine aq 3 ?_
   refine s_draw [0,1,0,7,15,31,63,127,255,511,255,2047,255,4351,255,28927,61695,131071,262143] rfl (by decide +kernel) ?_
   refine dq [1] [] (.hp 1 0 [] 2 0 0) rfl (e_fieldAddr rfl rfl rfl) ?_
   refine dq [1] [] (.isl false ((c_1.Parties).map str)) rfl (e_ld rfl rfl) ?_
   refine dk 1 [13] [I (x2)] ?_
   obtain ⟨e3,he3,h⟩:=bS h
   refine dq [] [] (.iptr (str (e3)) 0) rfl (e_indexAddr rfl rfl rfl (ix_islE rfl rfl rfl rfl he3)) ?_
   refine dq [] [] (str (e3)) rfl (e_ld rfl rfl) ?_
   obtain ⟨r4,hr4,h⟩:=bS h
   refine dq [] [] (B (r4)) rfl (e_callV rfl rfl (call_P rfl rfl rfl (avS (shP rfl) (avN)) (Ffbg_F hr4) (.inr rfl) (bl_n) rfl rfl rfl)) ?_ (w_callO rfl rfl rfl rfl (avS (shP rfl) (avN)) (Ffbg_F hr4) (.inr rfl) rfl)
   refine dk 2 [18,17] [B ((!r4)),B ((!r4))] ?_
   obtain ⟨y5,hy5,hy51,hy52⟩:=bL h
   have j5 : ∀ u5,y5=.inr u5→Run Ffbi_E 0 Q (.code (cR (cL (cL (cR (cL (cL (cR (cL (cR Ffbi_c))))))))) :: .blk 1 :: .code (cR (cR (cL (cL (cR (cL (cR Ffbi_c))))))) :: .lp (cL (cL (cR (cL (cR Ffbi_c))))) :: .blk 0 :: K) (sT 34 [(1,.hp 1 0 [] 2 0 0),(3,I (x2)),(29,B (u5))] [⟨0,2,[encI_Contract c_1]⟩] 2):=by
     intro u5 hu
     replace h:=hy52 u5 hu
     refine sq h (fun h=>?_) (fun h=>?_)
     · refine cq 4 [2] [B (false)] 18 ?_
       exact s_ret rfl (hr _ (Option.some.inj h).symm _ ⟨_,fin (vs:=[B (false)]) rfl (absE (absorb_plain rfl) (absEN)) rfl (ou_f (ou_n)),kl_n⟩)
     · refine aq 1 ?_
       refine cq 6 [3] [I ((w64 (x2 + 1)))] 50 ?_
       refine s_lp ?_
       exact rf [1,3] [1] (ih _ _ h hr hn :)
   have r5 : ∀ r',y5=.inl r'→∀ st,Ffbi_Q c_1 r' st→Q st:=fun r' e st hq=>hr r' (hy51 r' e) st hq
   replace h:=hy5
   refine sp 18 h rfl (fun h=>?_) (fun h=>?_)
   · refine dk 11 [29,28,27,26,25,24,23,22,21,20,19] [B (true),.und,.und,.und,.und,.und,.und,.und,.und,.und,.und] ?_
     refine de 386 rfl rfl ?_
     exact rf [1,3,29] [1] (j5 _ (Option.some.inj h).symm :)
   · refine dy [1] [] (.hp 1 0 [] 2 0 0) rfl (e_fieldAddr rfl rfl rfl) ?_
     refine dy [1] [] (.isl false ((c_1.Parties).map str)) rfl (e_ld rfl rfl) ?_
     refine dk 1 [21] [I (x2)] ?_
     obtain ⟨s6,hs6,h⟩:=bS h
     refine dy [] [] (.isl false ((s6).map str)) rfl (e_slice rfl rfl rfl rfl (sl_isl rfl rfl (fun y=>(str_cells y).1) rfl rfl hs6)) ?_
     refine dy [1] [] (.hp 1 0 [] 2 0 0) rfl (e_fieldAddr rfl rfl rfl) ?_
     refine dy [1] [] (.isl false ((c_1.Parties).map str)) rfl (e_ld rfl rfl) ?_
     refine dk 1 [25] [I (x2)] ?_
     obtain ⟨e7,he7,h⟩:=bS h
     refine dy [] [] (.iptr (str (e7)) 0) rfl (e_indexAddr rfl rfl rfl (ix_islE rfl rfl rfl rfl he7)) ?_
     refine dy [] [] (str (e7)) rfl (e_ld rfl rfl) ?_
     obtain ⟨r8,hr8,h⟩:=bS h
     refine dy [] [] (B (r8)) rfl (e_callV rfl rfl (call_P rfl rfl rfl (avS (shP rfl) (avS (shP rfl) (avN))) (Ffbf_F hr8) (.inr rfl) (bl_n) rfl rfl rfl)) ?_ (w_callO rfl rfl rfl rfl (avS (shP rfl) (avS (shP rfl) (avN))) (Ffbf_F hr8) (.inr rfl) rfl)
     refine dk 1 [29] [B (r8)] ?_
     refine de 386 rfl rfl ?_
     exact rf [1,3,29] [1] (j5 _ (Option.some.inj h).symm :)
 · refine aq 1 ?_
   exact rf [1] [1] (hn _ (Option.some.inj h).symm :) (hk:=hK)
theorem Ffbi_run (c_1 : Contract) (r : Bool) (h : Ffbi c_1=some r) : RunF Ffbi_E Tryd.f84 [false] 0 (Ffbi_A c_1) (Ffbi_R r):=by
 show Run _ _ (Ffbi_Q c_1 r) [.code Ffbi_c] _
 refine rin (n:=34) [(0,encI_Contract c_1)] [] 1 (by kernel_rfl) (by kernel_rfl) (by kernel_rfl) rfl ?_
 unfold Ffbi at h
 refine ck 11 [1,3] [] [1] [] [.hp 1 0 [] 2 0 0,I (0)] [some ⟨0,2,[encI_Contract c_1]⟩] 49 (by kernel_rfl) ?_
 obtain ⟨y9,hy9,hy91,hy92⟩:=bJ h
 refine s_loop rfl ?_
 refine rf [1,3] [1] (Ffbi_la_run c_1 rfl 0 _ hy9 (fun r' e st hq=>by rw [hy91 r' e] at hq; exact hq) fun u9 hu=>?_)
 replace h:=hy92 u9 hu
 refine cq 4 [31] [.isl false ((c_1.Parties).map str)] 34 ?_
 refine oq 50 (I ((len c_1.Parties))) rfl (e_len rfl rfl rfl (l_isl rfl)) ?_
 obtain ⟨r10,hr10,h⟩:=bS h
 refine oq 66 (B (r10)) rfl (e_callV rfl rfl (call_P rfl rfl rfl (avS (shP rfl) (avS (shP rfl) (avS (shP rfl) (avN)))) (spec_l1In_F hr10) (.inr rfl) (bl_n) rfl rfl rfl)) ?_
 refine cq 2 [2] [B (r10)] 82 ?_
 obtain rfl:=Option.some.inj h
 exact s_ret rfl ⟨_,fin (vs:=[B (r10)]) rfl (absE (absorb_plain rfl) (absEN)) rfl (ou_f (ou_n)),kl_n⟩
theorem Ffbi_good {G : Go.Ln.Ground} [TabG Tryd.prog G] : Good Tryd.prog G 84 Ffbi_ent:=good_T (fnOf_good (gl_c Ffbg_good (gl_c Ffbf_good (gl_c spec_l1In_good (gl_n))))) agree_mk (Checked.mixed Tryd.checked) Tryd.func84 (n:=1) (m:=0) ⟨rfl,rfl,by decide⟩ (fun _=>⟨rfl,rfl⟩) (fun a r h=>Ffbi_run a r h)
def Ffbk_A : ((List Str))→List V:=oA (slE str)
def Ffbk_R (r : Bool) : V × List V:=(B (r),[])
noncomputable def Ffbk_ent : Ent:=entT [false] Ffbk_A Ffbk_R fun x=>Ffbk x
theorem Ffbk_F {parties_1 : List Str} {r} (h : Ffbk parties_1=some r) : (Ffbk_ent).F (Ffbk_A parties_1)=some (Ffbk_R r):=entT_F (oA_inj (isl_inj str_inj)) h
noncomputable def Ffbk_c : Code:=bodyOf Tryd.f62
noncomputable def Ffbk_E : Env:=mkE Tryd.prog [(84,Ffbi_ent)]
def Ffbk_Q (x : (List Str)) (r : Bool) : St→Prop:=QF Ffbk_E Tryd.f62 [false] (Ffbk_A x) (Ffbk_R r)
theorem Ffbk_run (parties_1 : List Str) (r : Bool) (h : Ffbk parties_1=some r) : RunF Ffbk_E Tryd.f62 [false] 0 (Ffbk_A parties_1) (Ffbk_R r):=by
 show Run _ _ (Ffbk_Q parties_1 r) [.code Ffbk_c] _
 refine rin (n:=6) [(0,.isl false ((parties_1).map str))] [] 1 (by kernel_rfl) (by kernel_rfl) (by kernel_rfl) rfl ?_
 unfold Ffbk at h
 refine cq 8 [4] [.agg [.isl false ((parties_1).map str),.isl true []]] 49 ?_
 obtain ⟨r2,hr2,h⟩:=bS h
 refine oq 65 (B (r2)) rfl (e_callV rfl rfl (call_P rfl rfl rfl (avS (shP rfl) (avN)) (Ffbi_F hr2) (.inr rfl) (bl_n) rfl rfl rfl)) ?_
 refine cq 2 [2] [B (r2)] 81 ?_
 obtain rfl:=Option.some.inj h
 exact s_ret rfl ⟨_,fin (vs:=[B (r2)]) rfl (absE (absorb_plain rfl) (absEN)) rfl (ou_f (ou_n)),kl_n⟩
theorem Ffbk_good {G : Go.Ln.Ground} [TabG Tryd.prog G] : Good Tryd.prog G 62 Ffbk_ent:=good_T (fnOf_good (gl_c Ffbi_good (gl_n))) agree_mk (Checked.mixed Tryd.checked) Tryd.func62 (n:=1) (m:=0) ⟨rfl,rfl,by decide⟩ (fun _=>⟨rfl,rfl⟩) (fun a r h=>Ffbk_run a r h)
def Ffbb_A : Int→List V:=oA I
def Ffbb_R (r : Bool) : V × List V:=(B (r),[])
noncomputable def Ffbb_ent : Ent:=entT [false] Ffbb_A Ffbb_R fun x=>Ffbb x
theorem Ffbb_F {day_1 : Int} {r} (h : Ffbb day_1=some r) : (Ffbb_ent).F (Ffbb_A day_1)=some (Ffbb_R r):=entT_F (oA_inj I_inj) h
noncomputable def Ffbb_c : Code:=bodyOf Tryd.f85
noncomputable def Ffbb_E : Env:=mkE Tryd.prog [(54,spec_l1In_ent)]
def Ffbb_Q (x : Int) (r : Bool) : St→Prop:=QF Ffbb_E Tryd.f85 [false] (Ffbb_A x) (Ffbb_R r)
theorem Ffbb_run (day_1 : Int) (r : Bool) (h : Ffbb day_1=some r) : RunF Ffbb_E Tryd.f85 [false] 0 (Ffbb_A day_1) (Ffbb_R r):=by
 show Run _ _ (Ffbb_Q day_1 r) [.code Ffbb_c] _
 refine rin (n:=5) [(0,I (day_1))] [] 1 (by kernel_rfl) (by kernel_rfl) (by kernel_rfl) rfl ?_
 unfold Ffbb at h
 refine cq 7 [3] [I (day_1)] 33 ?_
 obtain ⟨r2,hr2,h⟩:=bS h
 refine oq 49 (B (r2)) rfl (e_callV rfl rfl (call_P rfl rfl rfl (avS (shP rfl) (avS (shP rfl) (avS (shP rfl) (avN)))) (spec_l1In_F hr2) (.inr rfl) (bl_n) rfl rfl rfl)) ?_
 refine cq 2 [2] [B (r2)] 65 ?_
 obtain rfl:=Option.some.inj h
 exact s_ret rfl ⟨_,fin (vs:=[B (r2)]) rfl (absE (absorb_plain rfl) (absEN)) rfl (ou_f (ou_n)),kl_n⟩
theorem Ffbb_good {G : Go.Ln.Ground} [TabG Tryd.prog G] : Good Tryd.prog G 85 Ffbb_ent:=good_T (fnOf_good (gl_c spec_l1In_good (gl_n))) agree_mk (Checked.mixed Tryd.checked) Tryd.func85 (n:=1) (m:=0) ⟨rfl,rfl,by decide⟩ (fun _=>⟨rfl,rfl⟩) (fun a r h=>Ffbb_run a r h)
def Ffbl_A : (Event × Int)→List V:=cA enc_Event (oA I)
def Ffbl_R (r : Bool) : V × List V:=(B (r),[])
noncomputable def Ffbl_ent : Ent:=entT [false,false] Ffbl_A Ffbl_R fun x=>Ffbl x.1 x.2
theorem Ffbl_F {e_1 : Event} {parties_2 : Int} {r} (h : Ffbl e_1 parties_2=some r) : (Ffbl_ent).F (Ffbl_A (e_1,parties_2))=some (Ffbl_R r):=entT_F (cA_inj enc_Event_inj (oA_inj I_inj)) h
noncomputable def Ffbl_c : Code:=bodyOf Tryd.f63
noncomputable def Ffbl_E : Env:=mkE Tryd.prog [(85,Ffbb_ent),(54,spec_l1In_ent),(86,Ffbg_ent)]
def Ffbl_Q (x : Event × Int) (r : Bool) : St→Prop:=QF Ffbl_E Tryd.f63 [false,false] (Ffbl_A x) (Ffbl_R r)
theorem Ffbl_run (e_1 : Event) (parties_2 : Int) (r : Bool) (h : Ffbl e_1 parties_2=some r) : RunF Ffbl_E Tryd.f63 [false,false] 0 (Ffbl_A (e_1,parties_2)) (Ffbl_R r):=by
 show Run _ _ (Ffbl_Q (e_1,parties_2) r) [.code Ffbl_c] _
 refine rin (n:=25) [(0,enc_Event e_1),(1,I (parties_2))] [] 1 (by kernel_rfl) (by kernel_rfl) (by kernel_rfl) rfl ?_
 unfold Ffbl at h
 refine ck 9 [2,6] [] [1] [] [.hp 1 0 [] 4 0 0,I (e_1.Day)] [some ⟨0,4,[enc_Event e_1]⟩] 65 (by kernel_rfl) ?_
 obtain ⟨r3,hr3,h⟩:=bS h
 refine oq 81 (B (r3)) rfl (e_callV rfl rfl (call_P rfl rfl rfl (avS (shP rfl) (avN)) (Ffbb_F hr3) (.inr rfl) (bl_n) rfl rfl rfl)) ?_
 refine cq 1 [8] [B (r3)] 97 ?_
 obtain ⟨y4,hy4,hy41,hy42⟩:=bJ h
 have j4 : ∀ u4,y4=.inr u4→Run Ffbl_E 0 (Ffbl_Q (e_1,parties_2) r) (.code (cR (cR Ffbl_c)) :: []) (sT 25 [(4,B (u4))] [] 1):=by
   intro u4 hu
   replace h:=hy42 u4 hu
   obtain rfl:=Option.some.inj h
   exact s_ret rfl ⟨_,fin (vs:=[B (u4)]) rfl (absE (absorb_plain rfl) (absEN)) rfl (ou_f (ou_f (ou_n))),kl_n⟩
 have r4 : ∀ r',y4=.inl r'→∀ st,Ffbl_Q (e_1,parties_2) r' st→(Ffbl_Q (e_1,parties_2) r) st:=fun r' e st hq=>by rw [hy41 r' e] at hq; exact hq
 replace h:=hy4
 refine sp 8 h rfl (fun h=>?_) (fun h=>?_)
 · refine cq 4 [10,12] [I (e_1.Party),I ((w64 (parties_2 - 1)))] 161 ?_
   obtain ⟨r5,hr5,h⟩:=bS h
   refine oy 177 (B (r5)) rfl (e_callV rfl rfl (call_P rfl rfl rfl (avS (shP rfl) (avS (shP rfl) (avS (shP rfl) (avN)))) (spec_l1In_F hr5) (.inr rfl) (bl_n) rfl rfl rfl)) ?_
   refine cq 2 [15] [B (r5)] 209 ?_
   obtain ⟨y6,hy6,hy61,hy62⟩:=bL h
   have j6 : ∀ u6,y6=.inr u6→Run Ffbl_E 0 (Ffbl_Q (e_1,parties_2) r) (.code (cR (cR Ffbl_c)) :: []) (sT 25 [(4,B (u6))] [] 1):=by
     intro u6 hu
     replace h:=hy62 u6 hu
     exact rf [4] [] (j4 _ (Option.some.inj h).symm :)
   have r6 : ∀ r',y6=.inl r'→∀ st,Ffbl_Q (e_1,parties_2) r' st→(Ffbl_Q (e_1,parties_2) r) st:=fun r' e st hq=>r4 r' (hy61 r' e) st hq
   replace h:=hy6
   refine sp 15 h rfl (fun h=>?_) (fun h=>?_)
   · refine cq 2 [17] [str (e_1.Action)] 241 ?_
     obtain ⟨r7,hr7,h⟩:=bS h
     refine oy 257 (B (r7)) rfl (e_callV rfl rfl (call_P rfl rfl rfl (avS (shP rfl) (avN)) (Ffbg_F hr7) (.inr rfl) (bl_n) rfl rfl rfl)) ?_
     refine cq 2 [20] [B (r7)] 289 ?_
     obtain ⟨y8,hy8,hy81,hy82⟩:=bL h
     have j8 : ∀ u8,y8=.inr u8→Run Ffbl_E 0 (Ffbl_Q (e_1,parties_2) r) (.code (cR (cR Ffbl_c)) :: []) (sT 25 [(4,B (u8))] [] 1):=by
       intro u8 hu
       replace h:=hy82 u8 hu
       exact rf [4] [] (j6 _ (Option.some.inj h).symm :)
     have r8 : ∀ r',y8=.inl r'→∀ st,Ffbl_Q (e_1,parties_2) r' st→(Ffbl_Q (e_1,parties_2) r) st:=fun r' e st hq=>r6 r' (hy81 r' e) st hq
     replace h:=hy8
     refine sp 20 h rfl (fun h=>?_) (fun h=>?_)
     · refine cq 2 [22] [I (e_1.Amount)] 321 ?_
       obtain ⟨r9,hr9,h⟩:=bS h
       refine oy 337 (B (r9)) rfl (e_callV rfl rfl (call_P rfl rfl rfl (avS (shP rfl) (avS (shP rfl) (avS (shP rfl) (avN)))) (spec_l1In_F hr9) (.inr rfl) (bl_n) rfl rfl rfl)) ?_
       refine cq 3 [4] [B (r9)] 369 ?_
       exact rf [4] [] (j8 _ (Option.some.inj h).symm :)
     · refine cq 6 [4] [B (false)] 369 ?_
       exact rf [4] [] (j8 _ (Option.some.inj h).symm :)
   · refine cq 11 [4] [B (false)] 369 ?_
     exact rf [4] [] (j6 _ (Option.some.inj h).symm :)
 · refine cq 18 [4] [B (false)] 369 ?_
   exact rf [4] [] (j4 _ (Option.some.inj h).symm :)
theorem Ffbl_good {G : Go.Ln.Ground} [TabG Tryd.prog G] : Good Tryd.prog G 63 Ffbl_ent:=good_T (fnOf_good (gl_c Ffbb_good (gl_c spec_l1In_good (gl_c Ffbg_good (gl_n))))) agree_mk (Checked.mixed Tryd.checked) Tryd.func63 (n:=2) (m:=0) ⟨rfl,rfl,by decide⟩ (fun _=>⟨rfl,rfl⟩) (fun a r h=>Ffbl_run a.1 a.2 r h)
def Ffbc_A : (Int × Int)→List V:=cA I (oA I)
def Ffbc_R (r : Int) : V × List V:=(I (r),[])
noncomputable def Ffbc_ent : Ent:=entT [false,false] Ffbc_A Ffbc_R fun x=>Ffbc x.1 x.2
theorem Ffbc_F {year_1 : Int} {month_2 : Int} {r} (h : Ffbc year_1 month_2=some r) : (Ffbc_ent).F (Ffbc_A (year_1,month_2))=some (Ffbc_R r):=entT_F (cA_inj I_inj (oA_inj I_inj)) h
noncomputable def Ffbc_c : Code:=bodyOf Tryd.f139
noncomputable def Ffbc_E : Env:=mkE Tryd.prog []
def Ffbc_Q (x : Int × Int) (r : Int) : St→Prop:=QF Ffbc_E Tryd.f139 [false,false] (Ffbc_A x) (Ffbc_R r)
theorem Ffbc_run (year_1 : Int) (month_2 : Int) (r : Int) (h : Ffbc year_1 month_2=some r) : RunF Ffbc_E Tryd.f139 [false,false] 0 (Ffbc_A (year_1,month_2)) (Ffbc_R r):=by
 show Run _ _ (Ffbc_Q (year_1,month_2) r) [.code Ffbc_c] _
 refine rin (n:=16) [(0,I (year_1)),(1,I (month_2))] [] 1 (by kernel_rfl) (by kernel_rfl) (by kernel_rfl) rfl ?_
 unfold Ffbc at h
 refine cq 16 [5,6] [I (month_2),B ((month_2 == 4))] 65 ?_
 obtain ⟨u3,hu3,h⟩:=lJ h
 have j3 : Run Ffbc_E 0 (Ffbc_Q (year_1,month_2) r) (.code (cR (cL (cR (cL (cR Ffbc_c))))) :: .blk 0 :: .code (cR (cR Ffbc_c)) :: []) (sT 16 [(0,I (year_1)),(5,I (month_2)),(6,B (u3))] [] 1):=by
   refine sq h (fun h=>?_) (fun h=>?_)
   · refine cq 4 [4] [I (30)] 17 ?_
     obtain rfl:=Option.some.inj h
     exact s_ret rfl ⟨_,fin (vs:=[I (30)]) rfl (absE (absorb_plain rfl) (absEN)) rfl (ou_f (ou_f (ou_n))),kl_n⟩
   · refine cq 5 [11] [B ((month_2 == 2))] 33 ?_
     refine sq h (fun h=>?_) (fun h=>?_)
     · refine cq 7 [15] [B (((year_1.tmod 4) == 0))] 81 ?_
       refine sq h (fun h=>?_) (fun h=>?_)
       · refine cq 4 [4] [I (29)] 97 ?_
         obtain rfl:=Option.some.inj h
         exact s_ret rfl ⟨_,fin (vs:=[I (29)]) rfl (absE (absorb_plain rfl) (absEN)) rfl (ou_f (ou_f (ou_n))),kl_n⟩
       · refine aq 1 ?_
         refine cq 4 [4] [I (28)] 97 ?_
         obtain rfl:=Option.some.inj h
         exact s_ret rfl ⟨_,fin (vs:=[I (28)]) rfl (absE (absorb_plain rfl) (absEN)) rfl (ou_f (ou_f (ou_n))),kl_n⟩
     · refine aq 1 ?_
       refine cq 5 [4] [I (31)] 49 ?_
       obtain rfl:=Option.some.inj h
       exact s_ret rfl ⟨_,fin (vs:=[I (31)]) rfl (absE (absorb_plain rfl) (absEN)) rfl (ou_f (ou_f (ou_n))),kl_n⟩
 replace h:=hu3
 clear hu3
 refine scp h rfl rfl (fun h=>?_) (fun h=>?_)
 · refine aq 1 ?_
   subst h
   exact rf [0,5,6] [] (j3 :)
 · refine cq 5 [6] [B ((month_2 == 6))] 97 ?_
   obtain ⟨u4,hu4,h⟩:=lJ h
   have j4 : Run Ffbc_E 0 (Ffbc_Q (year_1,month_2) r) (.code (cR (cL (cR (cL (cR Ffbc_c))))) :: .blk 0 :: .code (cR (cR Ffbc_c)) :: []) (sT 16 [(0,I (year_1)),(5,I (month_2)),(6,B (u4))] [] 1):=by
     subst h
     exact rf [0,5,6] [] (j3 :)
   replace h:=hu4
   clear hu4
   refine scp h rfl rfl (fun h=>?_) (fun h=>?_)
   · refine aq 1 ?_
     subst h
     exact rf [0,5,6] [] (j4 :)
   · refine cq 5 [6] [B ((month_2 == 9))] 129 ?_
     obtain ⟨u5,hu5,h⟩:=lJ h
     have j5 : Run Ffbc_E 0 (Ffbc_Q (year_1,month_2) r) (.code (cR (cL (cR (cL (cR Ffbc_c))))) :: .blk 0 :: .code (cR (cR Ffbc_c)) :: []) (sT 16 [(0,I (year_1)),(5,I (month_2)),(6,B (u5))] [] 1):=by
       subst h
       exact rf [0,5,6] [] (j4 :)
     replace h:=hu5
     clear hu5
     refine scp h rfl rfl (fun h=>?_) (fun h=>?_)
     · refine aq 1 ?_
       subst h
       exact rf [0,5,6] [] (j5 :)
     · refine cq 4 [6] [B ((month_2 == 11))] 161 ?_
       subst h
       exact rf [0,5,6] [] (j5 :)
theorem Ffbc_good {G : Go.Ln.Ground} [TabG Tryd.prog G] : Good Tryd.prog G 139 Ffbc_ent:=good_T (fnOf_good (gl_n)) agree_mk (Checked.mixed Tryd.checked) Tryd.func139 (n:=2) (m:=0) ⟨rfl,rfl,by decide⟩ (fun _=>⟨rfl,rfl⟩) (fun a r h=>Ffbc_run a.1 a.2 r h)
def Ffba_A : Date→List V:=oA enc_Date
def Ffba_R (r : Int) : V × List V:=(I (r),[])
noncomputable def Ffba_ent : Ent:=entT [false] Ffba_A Ffba_R fun x=>Ffba x
theorem Ffba_F {d_1 : Date} {r} (h : Ffba d_1=some r) : (Ffba_ent).F (Ffba_A d_1)=some (Ffba_R r):=entT_F (oA_inj enc_Date_inj) h
noncomputable def Ffba_c : Code:=bodyOf Tryd.f129
noncomputable def Ffba_E : Env:=mkE Tryd.prog [(139,Ffbc_ent)]
def Ffba_Q (x : Date) (r : Int) : St→Prop:=QF Ffba_E Tryd.f129 [false] (Ffba_A x) (Ffba_R r)
theorem Ffba_la_run (d_1 : Date)  {Q : St→Prop} {K : List It} (hK : noD K=true) : ∀ (x2 : Int × Int) (y : Int ⊕ Int),Ffba_la d_1 x2=some y→(∀ r',y=.inl r'→∀ st,Ffba_Q d_1 r' st→Q st)→(∀ u : Int,y=.inr u→Run Ffba_E 0 Q K (sT 32 [(1,.hp 1 0 [] 3 0 0),(4,I (u))] [⟨0,3,[enc_Date d_1]⟩] 2))→Run Ffba_E 0 Q (.code (cL (cL (cR (cL (cR (cR (cR Ffba_c))))))) :: .lp (cL (cL (cR (cL (cR (cR (cR Ffba_c))))))) :: .blk 0 :: K) (sT 32 [(1,.hp 1 0 [] 3 0 0),(4,I (x2.1)),(5,I (x2.2))] [⟨0,3,[enc_Date d_1]⟩] 2):=by
 refine fix_indP (Ffba_la_fin d_1) ?_
 intro self ih x2 y h hr hn
 unfold Ffba_la_F at h
 refine cq 8 [18] [B ((decide (x2.2 < d_1.Month)))] 66 ?_
 refine sq h (fun h=>?_) (fun h=>?_)
 · refine aq 1 ?_
   refine cq 7 [21,23,24] [I (x2.1),I (d_1.Year),I (x2.2)] 130 ?_
   obtain ⟨r3,hr3,h⟩:=bS h
   refine oq 146 (I (r3)) rfl (e_callV rfl rfl (call_P rfl rfl rfl (avS (shP rfl) (avS (shP rfl) (avN))) (Ffbc_F hr3) (.inr rfl) (bl_n) rfl rfl rfl)) ?_
   refine cq 9 [4,5] [I ((w64 (x2.1 + r3))),I ((w64 (x2.2 + 1)))] 226 ?_
   refine s_lp ?_
   exact rf [1,4,5] [1] (ih _ _ h hr hn :)
 · refine aq 1 ?_
   exact rf [1,4] [1] (hn _ (Option.some.inj h).symm :) (hk:=hK)
theorem Ffba_run (d_1 : Date) (r : Int) (h : Ffba d_1=some r) : RunF Ffba_E Tryd.f129 [false] 0 (Ffba_A d_1) (Ffba_R r):=by
 show Run _ _ (Ffba_Q d_1 r) [.code Ffba_c] _
 refine rin (n:=32) [(0,enc_Date d_1)] [] 1 (by kernel_rfl) (by kernel_rfl) (by kernel_rfl) rfl ?_
 unfold Ffba at h
 refine ck 28 [1,4,5] [] [1] [] [.hp 1 0 [] 3 0 0,I ((w64 ((w64 (365 * (w64 (d_1.Year - 2000)))) + (w64 ((w64 ((w64 (d_1.Year - 2000)) + 3)).tdiv 4))))),I (1)] [some ⟨0,3,[enc_Date d_1]⟩] 225 (by kernel_rfl) ?_
 obtain ⟨y4,hy4,hy41,hy42⟩:=bJ h
 refine s_loop rfl ?_
 refine rf [1,4,5] [1] (Ffba_la_run d_1 rfl ((w64 ((w64 (365 * (w64 (d_1.Year - 2000)))) + (w64 ((w64 ((w64 (d_1.Year - 2000)) + 3)).tdiv 4)))),1) _ hy4 (fun r' e st hq=>by rw [hy41 r' e] at hq; exact hq) fun u4 hu=>?_)
 replace h:=hy42 u4 hu
 refine cq 9 [2] [I ((w64 ((w64 (u4 + d_1.Day)) - 1)))] 98 ?_
 obtain rfl:=Option.some.inj h
 exact s_ret rfl ⟨_,fin (vs:=[I ((w64 ((w64 (u4 + d_1.Day)) - 1)))]) rfl (absE (absorb_plain rfl) (absEN)) rfl (ou_f (ou_n)),kl_n⟩
theorem Ffba_good {G : Go.Ln.Ground} [TabG Tryd.prog G] : Good Tryd.prog G 129 Ffba_ent:=good_T (fnOf_good (gl_c Ffbc_good (gl_n))) agree_mk (Checked.mixed Tryd.checked) Tryd.func129 (n:=1) (m:=0) ⟨rfl,rfl,by decide⟩ (fun _=>⟨rfl,rfl⟩) (fun a r h=>Ffba_run a r h)
def Ffz_A : Int→List V:=oA I
def Ffz_R (r : Date) : V × List V:=(enc_Date r,[])
noncomputable def Ffz_ent : Ent:=entT [false] Ffz_A Ffz_R fun x=>Ffz x
theorem Ffz_F {day_1 : Int} {r} (h : Ffz day_1=some r) : (Ffz_ent).F (Ffz_A day_1)=some (Ffz_R r):=entT_F (oA_inj I_inj) h
noncomputable def Ffz_c : Code:=bodyOf Tryd.f106
noncomputable abbrev Ffz_ka : Code:=cL (cL (cL (cR (cR (cR Ffz_c)))))
noncomputable def Ffz_E : Env:=mkE Tryd.prog [(129,Ffba_ent)]
def Ffz_Q (x : Int) (r : Date) : St→Prop:=QF Ffz_E Tryd.f106 [false] (Ffz_A x) (Ffz_R r)
theorem Ffz_la_run (day_1 : Int)  {Q : St→Prop} {K : List It} (hK : noD K=true) : ∀ (x2 : Int) (y : Date ⊕ Int),Ffz_la day_1 x2=some y→(∀ r',y=.inl r'→∀ st,Ffz_Q day_1 r' st→Q st)→(∀ u : Int,y=.inr u→Run Ffz_E 0 Q K (sT 46 [(0,I (day_1)),(2,.hp 1 0 [] 3 0 0),(3,.hp 2 0 [] 3 0 0)] [⟨0,3,[.agg [I (0),I (0),I (0)]]⟩,⟨0,3,[.agg [I (u),I (1),I (1)]]⟩] 3))→Run Ffz_E 0 Q (.code (cL (cL (cL (cR (cR Ffz_c))))) :: .lp (cL (cL (cL (cR (cR Ffz_c))))) :: .blk 0 :: K) (sT 46 [(0,I (day_1)),(2,.hp 1 0 [] 3 0 0),(3,.hp 2 0 [] 3 0 0)] [⟨0,3,[.agg [I (0),I (0),I (0)]]⟩,⟨0,3,[.agg [I (x2),I (1),I (1)]]⟩] 3):=by
 refine fix_indP (Ffz_la_fin day_1) ?_
 intro self ih x2 y h hr hn
 unfold Ffz_la_F at h
 refine cq 7 [8] [B ((decide (x2 < 2099)))] 67 ?_
 obtain ⟨y3,hy3,hy31,hy32⟩:=bL h
 have j3 : ∀ u3,y3=.inr u3→Run Ffz_E 0 Q (.code (cR (cL (cL (cL (cL (cR (cR Ffz_c))))))) :: .code (cR (cL (cL (cL (cR (cR Ffz_c)))))) :: .lp (cL (cL (cL (cR (cR Ffz_c))))) :: .blk 0 :: K) (sT 46 [(0,I (day_1)),(2,.hp 1 0 [] 3 0 0),(3,.hp 2 0 [] 3 0 0),(16,B (u3))] [⟨0,3,[.agg [I (0),I (0),I (0)]]⟩,⟨0,3,[.agg [I (x2),I (1),I (1)]]⟩] 3):=by
   intro u3 hu
   replace h:=hy32 u3 hu
   refine sq h (fun h=>?_) (fun h=>?_)
   · refine aq 1 ?_
     refine ck 9 [] [] [2] [] [] [some ⟨0,3,[.agg [I ((w64 (x2 + 1))),I (1),I (1)]]⟩] 83 (by kernel_rfl) ?_
     refine s_lp ?_
     exact rf [0,2,3] [1,2] (ih _ _ h hr hn :)
   · refine aq 1 ?_
     exact rf [0,2,3] [1,2] (hn _ (Option.some.inj h).symm :) (hk:=hK)
 have r3 : ∀ r',y3=.inl r'→∀ st,Ffz_Q day_1 r' st→Q st:=fun r' e st hq=>hr r' (hy31 r' e) st hq
 replace h:=hy3
 refine sp 8 h rfl (fun h=>?_) (fun h=>?_)
 · refine cq 4 [12] [.agg [I ((w64 (x2 + 1))),I (1),I (1)]] 131 ?_
   obtain ⟨r4,hr4,h⟩:=bS h
   refine oy 147 (I (r4)) rfl (e_callV rfl rfl (call_P rfl rfl rfl (avS (shP rfl) (avN)) (Ffba_F hr4) (.inr rfl) (bl_n) rfl rfl rfl)) ?_
   refine cq 4 [16] [B ((decide (r4 ≤ day_1)))] 195 ?_
   exact rf [0,2,3,16] [1,2] (j3 _ (Option.some.inj h).symm :)
 · refine cq 9 [16] [B (false)] 195 ?_
   exact rf [0,2,3,16] [1,2] (j3 _ (Option.some.inj h).symm :)
theorem Ffz_lb_run (day_1 : Int) (u5 : Int) {Q : St→Prop} {K : List It} (hK : noD K=true) : ∀ (x6 : Int) (y : Date ⊕ Int),Ffz_lb day_1 u5 x6=some y→(∀ r',y=.inl r'→∀ st,Ffz_Q day_1 r' st→Q st)→(∀ u : Int,y=.inr u→Run Ffz_E 0 Q K (sT 46 [(0,I (day_1)),(2,.hp 1 0 [] 3 0 0),(3,.hp 2 0 [] 3 0 0)] [⟨0,3,[.agg [I (0),I (0),I (0)]]⟩,⟨0,3,[.agg [I (u5),I (u),I (1)]]⟩] 3))→Run Ffz_E 0 Q (.code Ffz_ka :: .lp Ffz_ka :: .blk 2 :: K) (sT 46 [(0,I (day_1)),(2,.hp 1 0 [] 3 0 0),(3,.hp 2 0 [] 3 0 0)] [⟨0,3,[.agg [I (0),I (0),I (0)]]⟩,⟨0,3,[.agg [I (u5),I (x6),I (1)]]⟩] 3):=by
 refine fix_indP (Ffz_lb_fin day_1 u5) ?_
 intro self ih x6 y h hr hn
 unfold Ffz_lb_F at h
 refine cq 7 [24] [B ((decide (x6 < 12)))] 67 ?_
 obtain ⟨y7,hy7,hy71,hy72⟩:=bL h
 have j7 : ∀ u7,y7=.inr u7→Run Ffz_E 0 Q (.code (cR (cL Ffz_ka)) :: .code (cR Ffz_ka) :: .lp Ffz_ka :: .blk 2 :: K) (sT 46 [(0,I (day_1)),(2,.hp 1 0 [] 3 0 0),(3,.hp 2 0 [] 3 0 0),(34,B (u7))] [⟨0,3,[.agg [I (0),I (0),I (0)]]⟩,⟨0,3,[.agg [I (u5),I (x6),I (1)]]⟩] 3):=by
   intro u7 hu
   replace h:=hy72 u7 hu
   refine sq h (fun h=>?_) (fun h=>?_)
   · refine aq 1 ?_
     refine ck 9 [] [] [2] [] [] [some ⟨0,3,[.agg [I (u5),I ((w64 (x6 + 1))),I (1)]]⟩] 83 (by kernel_rfl) ?_
     refine s_lp ?_
     exact rf [0,2,3] [1,2] (ih _ _ h hr hn :)
   · refine aq 1 ?_
     exact rf [0,2,3] [1,2] (hn _ (Option.some.inj h).symm :) (hk:=hK)
 have r7 : ∀ r',y7=.inl r'→∀ st,Ffz_Q day_1 r' st→Q st:=fun r' e st hq=>hr r' (hy71 r' e) st hq
 replace h:=hy7
 refine sp 24 h rfl (fun h=>?_) (fun h=>?_)
 · refine cq 6 [30] [.agg [I (u5),I ((w64 (x6 + 1))),I (1)]] 163 ?_
   obtain ⟨r8,hr8,h⟩:=bS h
   refine oy 179 (I (r8)) rfl (e_callV rfl rfl (call_P rfl rfl rfl (avS (shP rfl) (avN)) (Ffba_F hr8) (.inr rfl) (bl_n) rfl rfl rfl)) ?_
   refine cq 4 [34] [B ((decide (r8 ≤ day_1)))] 227 ?_
   exact rf [0,2,3,34] [1,2] (j7 _ (Option.some.inj h).symm :)
 · refine cq 11 [34] [B (false)] 227 ?_
   exact rf [0,2,3,34] [1,2] (j7 _ (Option.some.inj h).symm :)
theorem Ffz_run (day_1 : Int) (r : Date) (h : Ffz day_1=some r) : RunF Ffz_E Tryd.f106 [false] 0 (Ffz_A day_1) (Ffz_R r):=by
 show Run _ _ (Ffz_Q day_1 r) [.code Ffz_c] _
 refine rin (n:=46) [(0,I (day_1))] [] 1 (by kernel_rfl) (by kernel_rfl) (by kernel_rfl) rfl ?_
 unfold Ffz at h
 refine ck 12 [2,3] [] [1,33] [] [.hp 1 0 [] 3 0 0,.hp 33 0 [] 3 0 0] [some ⟨0,3,[.agg [I (0),I (0),I (0)]]⟩,some ⟨0,3,[.agg [I (2000),I (1),I (1)]]⟩] 65 (by kernel_rfl) ?_
 obtain ⟨y5,hy5,hy51,hy52⟩:=bJ h
 refine s_loop rfl ?_
 refine rf [0,2,3] [1,33] (Ffz_la_run day_1 rfl 2000 _ hy5 (fun r' e st hq=>by rw [hy51 r' e] at hq; exact hq) fun u5 hu=>?_)
 replace h:=hy52 u5 hu
 refine aq 2 ?_
 obtain ⟨y9,hy9,hy91,hy92⟩:=bJ h
 refine s_loop rfl ?_
 refine rf [0,2,3] [1,2] (Ffz_lb_run day_1 u5 rfl 1 _ hy9 (fun r' e st hq=>by rw [hy91 r' e] at hq; exact hq) fun u9 hu=>?_)
 replace h:=hy92 u9 hu
 refine cq 4 [39,40] [I (day_1),.agg [I (u5),I (u9),I (1)]] 35 ?_
 obtain ⟨r10,hr10,h⟩:=bS h
 refine oq 51 (I (r10)) rfl (e_callV rfl rfl (call_P rfl rfl rfl (avS (shP rfl) (avN)) (Ffba_F hr10) (.inr rfl) (bl_n) rfl rfl rfl)) ?_
 refine ck 10 [] [] [1,2] [] [] [some ⟨0,3,[.agg [I (u5),I (u9),I ((w64 ((w64 (day_1 - r10)) + 1)))]]⟩,some ⟨0,3,[.agg [I (u5),I (u9),I ((w64 ((w64 (day_1 - r10)) + 1)))]]⟩] 147 (by kernel_rfl) ?_
 obtain rfl:=Option.some.inj h
 exact s_ret rfl ⟨_,fin (vs:=[.agg [I (u5),I (u9),I ((w64 ((w64 (day_1 - r10)) + 1)))]]) (rs_c (rs_cell rfl rfl rfl) (rs_n)) (absE (absorb_plain rfl) (absEN)) rfl (ou_f (ou_n)),kl_n⟩
theorem Ffz_good {G : Go.Ln.Ground} [TabG Tryd.prog G] : Good Tryd.prog G 106 Ffz_ent:=good_T (fnOf_good (gl_c Ffba_good (gl_n))) agree_mk (Checked.mixed Tryd.checked) Tryd.func106 (n:=1) (m:=0) ⟨rfl,rfl,by decide⟩ (fun _=>⟨rfl,rfl⟩) (fun a r h=>Ffz_run a r h)
def Ffx_A : Int→List V:=oA I
def Ffx_R (r : Str) : V × List V:=(str (r),[])
noncomputable def Ffx_entS (slf_Ffx : Int→Option Str) : Ent:=entT [false] Ffx_A Ffx_R slf_Ffx
theorem Ffx_FS (slf_Ffx : Int→Option Str) {x} {r} (h : slf_Ffx x=some r) : (Ffx_entS slf_Ffx).F (Ffx_A x)=some (Ffx_R r):=entT_F (oA_inj I_inj) h
noncomputable def Ffx_ent : Ent:=Ffx_entS (fixO Ffx_G)
theorem Ffx_F {n_1 : Int} {r} (h : Ffx n_1=some r) : Ffx_ent.F (Ffx_A n_1)=some (Ffx_R r):=Ffx_FS (fixO Ffx_G) h
noncomputable def Ffx_c : Code:=bodyOf Tryd.f107
noncomputable def Ffx_E (slf_Ffx : Int→Option Str) : Env:=mkE Tryd.prog [(107,(Ffx_entS slf_Ffx))]
def Ffx_Q (slf_Ffx : Int→Option Str) (x : Int) (r : Str) : St→Prop:=QF (Ffx_E slf_Ffx) Tryd.f107 [false] (Ffx_A x) (Ffx_R r)
theorem Ffx_run (slf_Ffx : Int→Option Str) (n_1 : Int) (r : Str) (h : Ffx_B slf_Ffx n_1=some r) : RunF (Ffx_E slf_Ffx) Tryd.f107 [false] 0 (Ffx_A n_1) (Ffx_R r):=by
 show Run _ _ (Ffx_Q slf_Ffx n_1 r) [.code Ffx_c] _
 refine rin (n:=25) [(0,I (n_1))] [] 1 (by kernel_rfl) (by kernel_rfl) (by kernel_rfl) rfl ?_
 unfold Ffx_B at h
 refine cq 10 [4] [B ((decide (n_1 < 0)))] 49 ?_
 refine sq h (fun h=>?_) (fun h=>?_)
 · refine cq 4 [6] [I ((w64 (0 - n_1)))] 81 ?_
   obtain ⟨r2,hr2,h⟩:=bS h
   refine oq 97 (str (r2)) rfl (e_callV rfl rfl (call_P rfl rfl rfl (avS (shP rfl) (avN)) (Ffx_FS slf_Ffx hr2) (.inr rfl) (bl_n) rfl rfl rfl)) ?_
   obtain ⟨s3,hs3,h⟩:=bS h
   refine oq 113 (str (s3)) rfl (e_bin rfl rfl (b_cat hs3)) ?_
   refine cq 2 [2] [str (s3)] 129 ?_
   obtain rfl:=Option.some.inj h
   exact s_ret rfl ⟨_,fin (vs:=[str (s3)]) rfl (absE (absorb_plain rfl) (absEN)) rfl (ou_f (ou_n)),kl_n⟩
 · refine aq 1 ?_
   refine cq 6 [10] [B ((decide (n_1 < 10)))] 81 ?_
   refine sq h (fun h=>?_) (fun h=>?_)
   · refine cq 5 [11,13] [I (n_1),I ((w64 (n_1 + 1)))] 129 ?_
     obtain ⟨s4,hs4,h⟩:=bS h
     refine oq 145 (str (s4)) rfl (e_slice rfl rfl rfl rfl (sl_str rfl rfl rfl hs4)) ?_
     refine cq 2 [2] [str (s4)] 161 ?_
     obtain rfl:=Option.some.inj h
     exact s_ret rfl ⟨_,fin (vs:=[str (s4)]) rfl (absE (absorb_plain rfl) (absEN)) rfl (ou_f (ou_n)),kl_n⟩
   · refine aq 1 ?_
     refine aq 1 ?_
     refine s_draw [0,1,3,0,8,0,32,96,248,511,1023] rfl (by decide +kernel) ?_
     refine dk 2 [16,15] [I ((w64 (n_1.tdiv 10))),I (n_1)] ?_
     obtain ⟨r5,hr5,h⟩:=bS h
     refine dq [] [] (str (r5)) rfl (e_callV rfl rfl (call_P rfl rfl rfl (avS (shP rfl) (avN)) (Ffx_FS slf_Ffx hr5) (.inr rfl) (bl_n) rfl rfl rfl)) ?_ (w_callO rfl rfl rfl rfl (avS (shP rfl) (avN)) (Ffx_FS slf_Ffx hr5) (.inr rfl) rfl)
     refine dk 5 [22,21,20,19,18] [I ((w64 ((n_1.tmod 10) + 1))),I ((n_1.tmod 10)),I (n_1),I ((n_1.tmod 10)),I (n_1)] ?_
     obtain ⟨s6,hs6,h⟩:=bS h
     refine dq [] [] (str (s6)) rfl (e_slice rfl rfl rfl rfl (sl_str rfl rfl rfl hs6)) ?_
     obtain ⟨s7,hs7,h⟩:=bS h
     refine dq [] [] (str (s7)) rfl (e_bin rfl rfl (b_cat hs7)) ?_
     refine dk 1 [2] [str (s7)] ?_
     refine de 257 rfl rfl ?_
     obtain rfl:=Option.some.inj h
     exact s_ret rfl ⟨_,fin (vs:=[str (s7)]) rfl (absE (absorb_plain rfl) (absEN)) rfl (ou_f (ou_n)),kl_n⟩
theorem Ffx_good {G : Go.Ln.Ground} [TabG Tryd.prog G] : Good Tryd.prog G 107 Ffx_ent:=good_rec fun slf_Ffx g_Ffx=>good_T (fnOf_good (gl_c g_Ffx (gl_n))) agree_mk (Checked.mixed Tryd.checked) Tryd.func107 (n:=1) (m:=0) ⟨rfl,rfl,by decide⟩ (fun _=>⟨rfl,rfl⟩) (fun a r h=>Ffx_run slf_Ffx a r h)
def Ffbe_A : Int→List V:=oA I
def Ffbe_R (r : Str) : V × List V:=(str (r),[])
noncomputable def Ffbe_ent : Ent:=entT [false] Ffbe_A Ffbe_R fun x=>Ffbe x
theorem Ffbe_F {n_1 : Int} {r} (h : Ffbe n_1=some r) : (Ffbe_ent).F (Ffbe_A n_1)=some (Ffbe_R r):=entT_F (oA_inj I_inj) h
noncomputable def Ffbe_c : Code:=bodyOf Tryd.f108
noncomputable def Ffbe_E : Env:=mkE Tryd.prog [(107,Ffx_ent)]
def Ffbe_Q (x : Int) (r : Str) : St→Prop:=QF Ffbe_E Tryd.f108 [false] (Ffbe_A x) (Ffbe_R r)
theorem Ffbe_run (n_1 : Int) (r : Str) (h : Ffbe n_1=some r) : RunF Ffbe_E Tryd.f108 [false] 0 (Ffbe_A n_1) (Ffbe_R r):=by
 show Run _ _ (Ffbe_Q n_1 r) [.code Ffbe_c] _
 refine rin (n:=10) [(0,I (n_1))] [] 1 (by kernel_rfl) (by kernel_rfl) (by kernel_rfl) rfl ?_
 unfold Ffbe at h
 refine cq 10 [4] [B ((decide (n_1 < 10)))] 49 ?_
 refine sq h (fun h=>?_) (fun h=>?_)
 · refine cq 3 [5] [I (n_1)] 65 ?_
   obtain ⟨r2,hr2,h⟩:=bS h
   refine oq 81 (str (r2)) rfl (e_callV rfl rfl (call_P rfl rfl rfl (avS (shP rfl) (avN)) (Ffx_F hr2) (.inr rfl) (bl_n) rfl rfl rfl)) ?_
   obtain ⟨s3,hs3,h⟩:=bS h
   refine oq 97 (str (s3)) rfl (e_bin rfl rfl (b_cat hs3)) ?_
   refine cq 2 [2] [str (s3)] 113 ?_
   obtain rfl:=Option.some.inj h
   exact s_ret rfl ⟨_,fin (vs:=[str (s3)]) rfl (absE (absorb_plain rfl) (absEN)) rfl (ou_f (ou_n)),kl_n⟩
 · refine aq 1 ?_
   refine cq 3 [8] [I (n_1)] 65 ?_
   obtain ⟨r4,hr4,h⟩:=bS h
   refine oq 81 (str (r4)) rfl (e_callV rfl rfl (call_P rfl rfl rfl (avS (shP rfl) (avN)) (Ffx_F hr4) (.inr rfl) (bl_n) rfl rfl rfl)) ?_
   refine cq 2 [2] [str (r4)] 97 ?_
   obtain rfl:=Option.some.inj h
   exact s_ret rfl ⟨_,fin (vs:=[str (r4)]) rfl (absE (absorb_plain rfl) (absEN)) rfl (ou_f (ou_n)),kl_n⟩
theorem Ffbe_good {G : Go.Ln.Ground} [TabG Tryd.prog G] : Good Tryd.prog G 108 Ffbe_ent:=good_T (fnOf_good (gl_c Ffx_good (gl_n))) agree_mk (Checked.mixed Tryd.checked) Tryd.func108 (n:=1) (m:=0) ⟨rfl,rfl,by decide⟩ (fun _=>⟨rfl,rfl⟩) (fun a r h=>Ffbe_run a r h)
def Ffbd_A : Int→List V:=oA I
def Ffbd_R (r : Str) : V × List V:=(str (r),[])
noncomputable def Ffbd_ent : Ent:=entT [false] Ffbd_A Ffbd_R fun x=>Ffbd x
theorem Ffbd_F {day_1 : Int} {r} (h : Ffbd day_1=some r) : (Ffbd_ent).F (Ffbd_A day_1)=some (Ffbd_R r):=entT_F (oA_inj I_inj) h
noncomputable def Ffbd_c : Code:=bodyOf Tryd.f87
noncomputable def Ffbd_E : Env:=mkE Tryd.prog [(106,Ffz_ent),(107,Ffx_ent),(108,Ffbe_ent)]
def Ffbd_Q (x : Int) (r : Str) : St→Prop:=QF Ffbd_E Tryd.f87 [false] (Ffbd_A x) (Ffbd_R r)
theorem Ffbd_run (day_1 : Int) (r : Str) (h : Ffbd day_1=some r) : RunF Ffbd_E Tryd.f87 [false] 0 (Ffbd_A day_1) (Ffbd_R r):=by
 show Run _ _ (Ffbd_Q day_1 r) [.code Ffbd_c] _
 refine rin (n:=19) [(0,I (day_1))] [] 1 (by kernel_rfl) (by kernel_rfl) (by kernel_rfl) rfl ?_
 unfold Ffbd at h
 refine cq 7 [4] [I (day_1)] 33 ?_
 obtain ⟨r2,hr2,h⟩:=bS h
 refine oq 49 (enc_Date r2) rfl (e_callV rfl rfl (call_P rfl rfl rfl (avS (shP rfl) (avN)) (Ffz_F hr2) (.inr rfl) (bl_n) rfl rfl rfl)) ?_
 refine ck 4 [3] [] [49] [] [.hp 49 0 [] 3 0 0] [some ⟨0,3,[enc_Date r2]⟩] 81 (by kernel_rfl) ?_
 refine s_draw [0,1,3,7,0,16,55,127,255,0,512,1655,4095,8191] rfl (by decide +kernel) ?_
 refine dq [49] [] (.hp 49 0 [] 3 0 0) rfl (e_fieldAddr rfl rfl rfl) ?_
 refine dq [49] [] (I (r2.Year)) rfl (e_ld rfl rfl) ?_
 obtain ⟨r3,hr3,h⟩:=bS h
 refine dq [] [] (str (r3)) rfl (e_callV rfl rfl (call_P rfl rfl rfl (avS (shP rfl) (avN)) (Ffx_F hr3) (.inr rfl) (bl_n) rfl rfl rfl)) ?_ (w_callO rfl rfl rfl rfl (avS (shP rfl) (avN)) (Ffx_F hr3) (.inr rfl) rfl)
 obtain ⟨s4,hs4,h⟩:=bS h
 refine dq [] [] (str (s4)) rfl (e_bin rfl rfl (b_cat hs4)) ?_
 refine dq [49] [] (.hp 49 0 [] 3 0 1) rfl (e_fieldAddr rfl rfl rfl) ?_
 refine dq [49] [] (I (r2.Month)) rfl (e_ld rfl rfl) ?_
 obtain ⟨r5,hr5,h⟩:=bS h
 refine dq [] [] (str (r5)) rfl (e_callV rfl rfl (call_P rfl rfl rfl (avS (shP rfl) (avN)) (Ffbe_F hr5) (.inr rfl) (bl_n) rfl rfl rfl)) ?_ (w_callO rfl rfl rfl rfl (avS (shP rfl) (avN)) (Ffbe_F hr5) (.inr rfl) rfl)
 obtain ⟨s6,hs6,h⟩:=bS h
 refine dq [] [] (str (s6)) rfl (e_bin rfl rfl (b_cat hs6)) ?_
 obtain ⟨s7,hs7,h⟩:=bS h
 refine dq [] [] (str (s7)) rfl (e_bin rfl rfl (b_cat hs7)) ?_
 refine dq [49] [] (.hp 49 0 [] 3 0 2) rfl (e_fieldAddr rfl rfl rfl) ?_
 refine dq [49] [] (I (r2.Day)) rfl (e_ld rfl rfl) ?_
 obtain ⟨r8,hr8,h⟩:=bS h
 refine dq [] [] (str (r8)) rfl (e_callV rfl rfl (call_P rfl rfl rfl (avS (shP rfl) (avN)) (Ffbe_F hr8) (.inr rfl) (bl_n) rfl rfl rfl)) ?_ (w_callO rfl rfl rfl rfl (avS (shP rfl) (avN)) (Ffbe_F hr8) (.inr rfl) rfl)
 obtain ⟨s9,hs9,h⟩:=bS h
 refine dq [] [] (str (s9)) rfl (e_bin rfl rfl (b_cat hs9)) ?_
 refine dk 1 [2] [str (s9)] ?_
 refine de 305 rfl rfl ?_
 obtain rfl:=Option.some.inj h
 exact s_ret rfl ⟨_,fin (vs:=[str (s9)]) rfl (absE (absorb_plain rfl) (absEN)) rfl (ou_f (ou_n)),kl_n⟩
theorem Ffbd_good {G : Go.Ln.Ground} [TabG Tryd.prog G] : Good Tryd.prog G 87 Ffbd_ent:=good_T (fnOf_good (gl_c Ffz_good (gl_c Ffx_good (gl_c Ffbe_good (gl_n))))) agree_mk (Checked.mixed Tryd.checked) Tryd.func87 (n:=1) (m:=0) ⟨rfl,rfl,by decide⟩ (fun _=>⟨rfl,rfl⟩) (fun a r h=>Ffbd_run a r h)
def Ffy_A : Int→List V:=oA I
def Ffy_R (r : Str) : V × List V:=(str (r),[])
noncomputable def Ffy_ent : Ent:=entT [false] Ffy_A Ffy_R fun x=>Ffy x
theorem Ffy_F {x_1 : Int} {r} (h : Ffy x_1=some r) : (Ffy_ent).F (Ffy_A x_1)=some (Ffy_R r):=entT_F (oA_inj I_inj) h
noncomputable def Ffy_c : Code:=bodyOf Tryd.f88
noncomputable def Ffy_E : Env:=mkE Tryd.prog [(107,Ffx_ent)]
def Ffy_Q (x : Int) (r : Str) : St→Prop:=QF Ffy_E Tryd.f88 [false] (Ffy_A x) (Ffy_R r)
theorem Ffy_run (x_1 : Int) (r : Str) (h : Ffy x_1=some r) : RunF Ffy_E Tryd.f88 [false] 0 (Ffy_A x_1) (Ffy_R r):=by
 show Run _ _ (Ffy_Q x_1 r) [.code Ffy_c] _
 refine rin (n:=24) [(0,I (x_1))] [] 1 (by kernel_rfl) (by kernel_rfl) (by kernel_rfl) rfl ?_
 unfold Ffy at h
 refine cq 14 [3,5] [str (([] : Str)),B ((decide (x_1 < 0)))] 65 ?_
 obtain ⟨u2,hu2,h⟩:=lJ h
 have j2 : Run Ffy_E 0 (Ffy_Q x_1 r) (.code (cR (cR (cR Ffy_c))) :: []) (sT 24 [(0,I (u2.1)),(3,str (u2.2))] [] 1):=by
   refine cq 5 [8,10] [str (u2.2),I ((w64 (u2.1.tdiv 100)))] 49 ?_
   obtain ⟨r3,hr3,h⟩:=bS h
   refine oq 65 (str (r3)) rfl (e_callV rfl rfl (call_P rfl rfl rfl (avS (shP rfl) (avN)) (Ffx_F hr3) (.inr rfl) (bl_n) rfl rfl rfl)) ?_
   obtain ⟨s4,hs4,h⟩:=bS h
   refine oq 81 (str (s4)) rfl (e_bin rfl rfl (b_cat hs4)) ?_
   obtain ⟨s5,hs5,h⟩:=bS h
   refine oq 97 (str (s5)) rfl (e_bin rfl rfl (b_cat hs5)) ?_
   refine cq 9 [3,16] [str (s5),B ((decide ((u2.1.tmod 100) < 10)))] 161 ?_
   obtain ⟨y6,hy6,hy61,hy62⟩:=bJ h
   have j6 : ∀ u6,y6=.inr u6→Run Ffy_E 0 (Ffy_Q x_1 r) (.code (cR (cR (cR (cR (cR Ffy_c))))) :: []) (sT 24 [(0,I (u2.1)),(3,str (u6))] [] 1):=by
     intro u6 hu
     replace h:=hy62 u6 hu
     refine cq 5 [19,21] [str (u6),I ((u2.1.tmod 100))] 49 ?_
     obtain ⟨r7,hr7,h⟩:=bS h
     refine oq 65 (str (r7)) rfl (e_callV rfl rfl (call_P rfl rfl rfl (avS (shP rfl) (avN)) (Ffx_F hr7) (.inr rfl) (bl_n) rfl rfl rfl)) ?_
     obtain ⟨s8,hs8,h⟩:=bS h
     refine oq 81 (str (s8)) rfl (e_bin rfl rfl (b_cat hs8)) ?_
     refine cq 2 [2] [str (s8)] 97 ?_
     obtain rfl:=Option.some.inj h
     exact s_ret rfl ⟨_,fin (vs:=[str (s8)]) rfl (absE (absorb_plain rfl) (absEN)) rfl (ou_f (ou_n)),kl_n⟩
   have r6 : ∀ r',y6=.inl r'→∀ st,Ffy_Q x_1 r' st→(Ffy_Q x_1 r) st:=fun r' e st hq=>by rw [hy61 r' e] at hq; exact hq
   replace h:=hy6
   refine sq h (fun h=>?_) (fun h=>?_)
   · refine cq 2 [17] [str (s5)] 177 ?_
     obtain ⟨s9,hs9,h⟩:=bS h
     refine oq 193 (str (s9)) rfl (e_bin rfl rfl (b_cat hs9)) ?_
     refine cq 2 [3] [str (s9)] 209 ?_
     exact rf [0,3] [] (j6 _ (Option.some.inj h).symm :)
   · refine aq 1 ?_
     exact rf [0,3] [] (j6 _ (Option.some.inj h).symm :)
 replace h:=hu2
 clear hu2
 refine scp h rfl rfl (fun h=>?_) (fun h=>?_)
 · refine cq 9 [0,3] [I ((w64 (0 - x_1))),str (([45] : Str))] 129 ?_
   subst h
   exact rf [0,3] [] (j2 :)
 · refine aq 1 ?_
   subst h
   exact rf [0,3] [] (j2 :)
theorem Ffy_good {G : Go.Ln.Ground} [TabG Tryd.prog G] : Good Tryd.prog G 88 Ffy_ent:=good_T (fnOf_good (gl_c Ffx_good (gl_n))) agree_mk (Checked.mixed Tryd.checked) Tryd.func88 (n:=1) (m:=0) ⟨rfl,rfl,by decide⟩ (fun _=>⟨rfl,rfl⟩) (fun a r h=>Ffy_run a r h)
def Ffbj_A : (Event × (List Str))→List V:=cA enc_Event (oA (slE str))
def Ffbj_R (r : Str) : V × List V:=(str (r),[])
noncomputable def Ffbj_ent : Ent:=entT [false,false] Ffbj_A Ffbj_R fun x=>Ffbj x.1 x.2
theorem Ffbj_F {e_1 : Event} {parties_2 : List Str} {r} (h : Ffbj e_1 parties_2=some r) : (Ffbj_ent).F (Ffbj_A (e_1,parties_2))=some (Ffbj_R r):=entT_F (cA_inj enc_Event_inj (oA_inj (isl_inj str_inj))) h
noncomputable def Ffbj_c : Code:=bodyOf Tryd.f64
noncomputable def Ffbj_E : Env:=mkE Tryd.prog [(87,Ffbd_ent),(88,Ffy_ent)]
def Ffbj_Q (x : Event × (List Str)) (r : Str) : St→Prop:=QF Ffbj_E Tryd.f64 [false,false] (Ffbj_A x) (Ffbj_R r)
theorem Ffbj_run (e_1 : Event) (parties_2 : List Str) (r : Str) (h : Ffbj e_1 parties_2=some r) : RunF Ffbj_E Tryd.f64 [false,false] 0 (Ffbj_A (e_1,parties_2)) (Ffbj_R r):=by
 show Run _ _ (Ffbj_Q (e_1,parties_2) r) [.code Ffbj_c] _
 refine rin (n:=30) [(0,enc_Event e_1),(1,.isl false ((parties_2).map str))] [] 1 (by kernel_rfl) (by kernel_rfl) (by kernel_rfl) rfl ?_
 unfold Ffbj at h
 refine ck 6 [2] [] [1] [] [.hp 1 0 [] 4 0 0] [some ⟨0,4,[enc_Event e_1]⟩] 33 (by kernel_rfl) ?_
 refine s_draw [0,1,3,7,0,0,32,112,240,511,1023,0,2048,8191,16383] rfl (by decide +kernel) ?_
 refine dq [1] [] (.hp 1 0 [] 4 0 0) rfl (e_fieldAddr rfl rfl rfl) ?_
 refine dq [1] [] (I (e_1.Day)) rfl (e_ld rfl rfl) ?_
 obtain ⟨r3,hr3,h⟩:=bS h
 refine dq [] [] (str (r3)) rfl (e_callV rfl rfl (call_P rfl rfl rfl (avS (shP rfl) (avN)) (Ffbd_F hr3) (.inr rfl) (bl_n) rfl rfl rfl)) ?_ (w_callO rfl rfl rfl rfl (avS (shP rfl) (avN)) (Ffbd_F hr3) (.inr rfl) rfl)
 obtain ⟨s4,hs4,h⟩:=bS h
 refine dq [] [] (str (s4)) rfl (e_bin rfl rfl (b_cat hs4)) ?_
 refine dk 1 [10] [.isl false ((parties_2).map str)] ?_
 refine dq [1] [] (.hp 1 0 [] 4 0 1) rfl (e_fieldAddr rfl rfl rfl) ?_
 refine dq [1] [] (I (e_1.Party)) rfl (e_ld rfl rfl) ?_
 obtain ⟨e5,he5,h⟩:=bS h
 refine dq [] [] (.iptr (str (e5)) 0) rfl (e_indexAddr rfl rfl rfl (ix_islE rfl rfl rfl rfl he5)) ?_
 refine dq [] [] (str (e5)) rfl (e_ld rfl rfl) ?_
 obtain ⟨s6,hs6,h⟩:=bS h
 refine dq [] [] (str (s6)) rfl (e_bin rfl rfl (b_cat hs6)) ?_
 obtain ⟨s7,hs7,h⟩:=bS h
 refine dq [] [] (str (s7)) rfl (e_bin rfl rfl (b_cat hs7)) ?_
 refine dq [1] [] (.hp 1 0 [] 4 0 2) rfl (e_fieldAddr rfl rfl rfl) ?_
 refine dq [1] [] (str (e_1.Action)) rfl (e_ld rfl rfl) ?_
 obtain ⟨s8,hs8,h⟩:=bS h
 refine dq [] [] (str (s8)) rfl (e_bin rfl rfl (b_cat hs8)) ?_
 refine dk 1 [5] [str (s8)] ?_
 refine de 273 rfl rfl ?_
 refine cq 7 [22] [B ((decide (e_1.Amount > 0)))] 321 ?_
 obtain ⟨y9,hy9,hy91,hy92⟩:=bJ h
 have j9 : ∀ u9,y9=.inr u9→Run Ffbj_E 0 (Ffbj_Q (e_1,parties_2) r) (.code (cR (cR (cR Ffbj_c))) :: []) (sT 30 [(5,str (u9))] [] 1):=by
   intro u9 hu
   replace h:=hy92 u9 hu
   refine cq 5 [4] [str (u9)] 33 ?_
   obtain rfl:=Option.some.inj h
   exact s_ret rfl ⟨_,fin (vs:=[str (u9)]) rfl (absE (absorb_plain rfl) (absEN)) rfl (ou_f (ou_f (ou_n))),kl_n⟩
 have r9 : ∀ r',y9=.inl r'→∀ st,Ffbj_Q (e_1,parties_2) r' st→(Ffbj_Q (e_1,parties_2) r) st:=fun r' e st hq=>by rw [hy91 r' e] at hq; exact hq
 replace h:=hy9
 refine sq h (fun h=>?_) (fun h=>?_)
 · refine cq 2 [23] [str (s8)] 337 ?_
   obtain ⟨s10,hs10,h⟩:=bS h
   refine oq 353 (str (s10)) rfl (e_bin rfl rfl (b_cat hs10)) ?_
   refine cq 2 [26] [I (e_1.Amount)] 385 ?_
   obtain ⟨r11,hr11,h⟩:=bS h
   refine oq 401 (str (r11)) rfl (e_callV rfl rfl (call_P rfl rfl rfl (avS (shP rfl) (avN)) (Ffy_F hr11) (.inr rfl) (bl_n) rfl rfl rfl)) ?_
   obtain ⟨s12,hs12,h⟩:=bS h
   refine oq 417 (str (s12)) rfl (e_bin rfl rfl (b_cat hs12)) ?_
   refine cq 2 [5] [str (s12)] 433 ?_
   exact rf [5] [] (j9 _ (Option.some.inj h).symm :)
 · refine aq 1 ?_
   exact rf [5] [] (j9 _ (Option.some.inj h).symm :)
theorem Ffbj_good {G : Go.Ln.Ground} [TabG Tryd.prog G] : Good Tryd.prog G 64 Ffbj_ent:=good_T (fnOf_good (gl_c Ffbd_good (gl_c Ffy_good (gl_n)))) agree_mk (Checked.mixed Tryd.checked) Tryd.func64 (n:=2) (m:=0) ⟨rfl,rfl,by decide⟩ (fun _=>⟨rfl,rfl⟩) (fun a r h=>Ffbj_run a.1 a.2 r h)
def Ffw_A : (Event × (List Str))→List V:=cA enc_Event (oA (slE str))
def Ffw_R (r : Str × Bool) : V × List V:=(.tup [str (r.1),B (r.2)],[])
noncomputable def Ffw_ent : Ent:=entT [false,false] Ffw_A Ffw_R fun x=>Ffw x.1 x.2
theorem Ffw_F {e_1 : Event} {parties_2 : List Str} {r} (h : Ffw e_1 parties_2=some r) : (Ffw_ent).F (Ffw_A (e_1,parties_2))=some (Ffw_R r):=entT_F (cA_inj enc_Event_inj (oA_inj (isl_inj str_inj))) h
noncomputable def Ffw_c : Code:=bodyOf Tryd.f33
noncomputable def Ffw_E : Env:=mkE Tryd.prog [(62,Ffbk_ent),(64,Ffbj_ent),(63,Ffbl_ent)]
def Ffw_Q (x : Event × (List Str)) (r : Str × Bool) : St→Prop:=QF Ffw_E Tryd.f33 [false,false] (Ffw_A x) (Ffw_R r)
theorem Ffw_run (e_1 : Event) (parties_2 : List Str) (r : Str × Bool) (h : Ffw e_1 parties_2=some r) : RunF Ffw_E Tryd.f33 [false,false] 0 (Ffw_A (e_1,parties_2)) (Ffw_R r):=by
 show Run _ _ (Ffw_Q (e_1,parties_2) r) [.code Ffw_c] _
 refine rin (n:=19) [(0,enc_Event e_1),(1,.isl false ((parties_2).map str))] [] 1 (by kernel_rfl) (by kernel_rfl) (by kernel_rfl) rfl ?_
 unfold Ffw at h
 refine ck 10 [2,6] [] [1] [] [.hp 1 0 [] 4 0 0,.isl false ((parties_2).map str)] [some ⟨0,4,[enc_Event e_1]⟩] 65 (by kernel_rfl) ?_
 obtain ⟨r3,hr3,h⟩:=bS h
 refine oq 81 (B (r3)) rfl (e_callV rfl rfl (call_P rfl rfl rfl (avS (shP rfl) (avN)) (Ffbk_F hr3) (.inr rfl) (bl_n) rfl rfl rfl)) ?_
 refine cq 2 [9] [B ((!r3))] 113 ?_
 obtain ⟨y4,hy4,hy41,hy42⟩:=bJ h
 have j4 : ∀ u4,y4=.inr u4→Run Ffw_E 0 (Ffw_Q (e_1,parties_2) r) (.code (cR (cL (cR Ffw_c))) :: .code (cR (cR Ffw_c)) :: []) (sT 19 [(1,.isl false ((parties_2).map str)),(2,.hp 1 0 [] 4 0 0),(15,B (u4))] [⟨0,4,[enc_Event e_1]⟩] 2):=by
   intro u4 hu
   replace h:=hy42 u4 hu
   refine sq h (fun h=>?_) (fun h=>?_)
   · refine cq 5 [4,5] [str (([] : Str)),B (false)] 34 ?_
     obtain rfl:=Option.some.inj h
     exact s_ret rfl ⟨_,fin (vs:=[str (([] : Str)),B (false)]) rfl (absE (absorb_plain rfl) (absE (absorb_plain rfl) (absEN))) rfl (ou_f (ou_f (ou_n))),kl_n⟩
   · refine aq 1 ?_
     refine cq 4 [16,17] [enc_Event e_1,.isl false ((parties_2).map str)] 34 ?_
     obtain ⟨r5,hr5,h⟩:=bS h
     refine oq 50 (str (r5)) rfl (e_callV rfl rfl (call_P rfl rfl rfl (avS (shP rfl) (avS (shP rfl) (avN))) (Ffbj_F hr5) (.inr rfl) (bl_n) rfl rfl rfl)) ?_
     refine cq 3 [4,5] [str (r5),B (true)] 82 ?_
     obtain rfl:=Option.some.inj h
     exact s_ret rfl ⟨_,fin (vs:=[str (r5),B (true)]) rfl (absE (absorb_plain rfl) (absE (absorb_plain rfl) (absEN))) rfl (ou_f (ou_f (ou_n))),kl_n⟩
 have r4 : ∀ r',y4=.inl r'→∀ st,Ffw_Q (e_1,parties_2) r' st→(Ffw_Q (e_1,parties_2) r) st:=fun r' e st hq=>by rw [hy41 r' e] at hq; exact hq
 replace h:=hy4
 refine sp 9 h rfl (fun h=>?_) (fun h=>?_)
 · refine cq 7 [15] [B (true)] 209 ?_
   exact rf [1,2,15] [1] (j4 _ (Option.some.inj h).symm :)
 · refine cq 2 [10,11] [enc_Event e_1,.isl false ((parties_2).map str)] 145 ?_
   refine oy 161 (I ((len parties_2))) rfl (e_len rfl rfl rfl (l_isl rfl)) ?_
   obtain ⟨r6,hr6,h⟩:=bS h
   refine oy 177 (B (r6)) rfl (e_callV rfl rfl (call_P rfl rfl rfl (avS (shP rfl) (avS (shP rfl) (avN))) (Ffbl_F hr6) (.inr rfl) (bl_n) rfl rfl rfl)) ?_
   refine cq 3 [15] [B ((!r6))] 209 ?_
   exact rf [1,2,15] [1] (j4 _ (Option.some.inj h).symm :)
theorem Ffw_good {G : Go.Ln.Ground} [TabG Tryd.prog G] : Good Tryd.prog G 33 Ffw_ent:=good_T (fnOf_good (gl_c Ffbk_good (gl_c Ffbj_good (gl_c Ffbl_good (gl_n))))) agree_mk (Checked.mixed Tryd.checked) Tryd.func33 (n:=2) (m:=0) ⟨rfl,rfl,by decide⟩ (fun _=>⟨rfl,rfl⟩) (fun a r h=>Ffw_run a.1 a.2 r h)
def Ffm_A : (Int × Int × Int)→List V:=cA I (cA I (oA I))
def Ffm_R (r : Bool) : V × List V:=(B (r),[])
noncomputable def Ffm_ent : Ent:=entT [false,false,false] Ffm_A Ffm_R fun x=>Ffm x.1 x.2.1 x.2.2
theorem Ffm_F {n_1 : Int} {low_2 : Int} {high_3 : Int} {r} (h : Ffm n_1 low_2 high_3=some r) : (Ffm_ent).F (Ffm_A (n_1,low_2,high_3))=some (Ffm_R r):=entT_F (cA_inj I_inj (cA_inj I_inj (oA_inj I_inj))) h
noncomputable def Ffm_c : Code:=bodyOf Tryd.f55
noncomputable def Ffm_E : Env:=mkE Tryd.prog []
def Ffm_Q (x : Int × Int × Int) (r : Bool) : St→Prop:=QF Ffm_E Tryd.f55 [false,false,false] (Ffm_A x) (Ffm_R r)
theorem Ffm_run (n_1 : Int) (low_2 : Int) (high_3 : Int) (r : Bool) (h : Ffm n_1 low_2 high_3=some r) : RunF Ffm_E Tryd.f55 [false,false,false] 0 (Ffm_A (n_1,low_2,high_3)) (Ffm_R r):=by
 show Run _ _ (Ffm_Q (n_1,low_2,high_3) r) [.code Ffm_c] _
 refine rin (n:=15) [(0,I (n_1)),(1,I (low_2)),(2,I (high_3))] [] 1 (by kernel_rfl) (by kernel_rfl) (by kernel_rfl) rfl ?_
 unfold Ffm at h
 refine cq 10 [10] [B ((decide (n_1 ≥ low_2)))] 81 ?_
 obtain ⟨u4,hu4,h⟩:=lJ h
 have j4 : Run Ffm_E 0 (Ffm_Q (n_1,low_2,high_3) r) (.code (cR (cR Ffm_c)) :: []) (sT 15 [(6,B (u4))] [] 1):=by
   obtain rfl:=Option.some.inj h
   exact s_ret rfl ⟨_,fin (vs:=[B (u4)]) rfl (absE (absorb_plain rfl) (absEN)) rfl (ou_f (ou_f (ou_f (ou_n)))),kl_n⟩
 replace h:=hu4
 clear hu4
 refine sp 10 h rfl (fun h=>?_) (fun h=>?_)
 · refine cq 6 [6] [B ((decide (n_1 ≤ high_3)))] 161 ?_
   subst h
   exact rf [6] [] (j4 :)
 · refine cq 6 [6] [B (false)] 161 ?_
   subst h
   exact rf [6] [] (j4 :)
theorem Ffm_good {G : Go.Ln.Ground} [TabG Tryd.prog G] : Good Tryd.prog G 55 Ffm_ent:=good_T (fnOf_good (gl_n)) agree_mk (Checked.mixed Tryd.checked) Tryd.func55 (n:=3) (m:=0) ⟨rfl,rfl,by decide⟩ (fun _=>⟨rfl,rfl⟩) (fun a r h=>Ffm_run a.1 a.2.1 a.2.2 r h)
noncomputable def xCountString_ent : Ent:=⟨[false,false],entF2 (decBy str) (decBy (V.int .u8)) fun s c=>some (I (((Lib.countByte s c.toNat.toUInt8 : Nat) : Int)),[])⟩
theorem xCountString_F {s : Str} {c r : Int} (h : xCountString s c=some r) : xCountString_ent.F [str s,.int .u8 c]=some (I r,[]):=by
  cases h
  simp only [xCountString_ent,entF2,dec_ok str_inj,dec_ok u8_inj,Option.bind_some]
theorem xCountString_n : Extern.findNext Tryd.f147=none:=by kernel_rfl
theorem xCountString_x : Extern.find Tryd.f147=some Extern.BytealgCount.count:=by kernel_rfl
theorem xCountString_good {G : Go.Ln.Ground} [TabG Tryd.prog G] : Good Tryd.prog G 147 xCountString_ent:=good_sc (g:=fun s c=>((Lib.countByte s c.toNat.toUInt8 : Nat) : Int)) Tryd.func147 rfl (by decide) xCountString_n xCountString_x fun s c w=>Lib.run_countString s c w
noncomputable def xIndexByteString_ent : Ent:=⟨[false,false],entF2 (decBy str) (decBy (V.int .u8)) fun s c=>some (I (Lib.indexByte s c.toNat.toUInt8),[])⟩
theorem xIndexByteString_F {s : Str} {c r : Int} (h : xIndexByteString s c=some r) : xIndexByteString_ent.F [str s,.int .u8 c]=some (I r,[]):=by
  cases h
  simp only [xIndexByteString_ent,entF2,dec_ok str_inj,dec_ok u8_inj,Option.bind_some]
theorem xIndexByteString_n : Extern.findNext Tryd.f162=none:=by kernel_rfl
theorem xIndexByteString_x : Extern.find Tryd.f162=some Extern.BytealgIndexByte.indexByte:=by kernel_rfl
theorem xIndexByteString_good {G : Go.Ln.Ground} [TabG Tryd.prog G] : Good Tryd.prog G 162 xIndexByteString_ent:=good_sc (g:=fun s c=>Lib.indexByte s c.toNat.toUInt8) Tryd.func162 rfl (by decide) xIndexByteString_n xIndexByteString_x fun s c w=>Lib.run_indexByteString s c w
def Ffo_A : (Str × Int)→List V:=cA str (oA (V.int .u8))
def Ffo_R (r : Int) : V × List V:=(I (r),[])
noncomputable def Ffo_ent : Ent:=entT [false,false] Ffo_A Ffo_R fun x=>Ffo x.1 x.2
theorem Ffo_F {s_1 : Str} {c_2 : Int} {r} (h : Ffo s_1 c_2=some r) : (Ffo_ent).F (Ffo_A (s_1,c_2))=some (Ffo_R r):=entT_F (cA_inj str_inj (oA_inj (vint_inj (k:=.u8)))) h
noncomputable def Ffo_c : Code:=bodyOf Tryd.f154
noncomputable def Ffo_E : Env:=mkE Tryd.prog [(162,xIndexByteString_ent)]
def Ffo_Q (x : Str × Int) (r : Int) : St→Prop:=QF Ffo_E Tryd.f154 [false,false] (Ffo_A x) (Ffo_R r)
theorem Ffo_run (s_1 : Str) (c_2 : Int) (r : Int) (h : Ffo s_1 c_2=some r) : RunF Ffo_E Tryd.f154 [false,false] 0 (Ffo_A (s_1,c_2)) (Ffo_R r):=by
 show Run _ _ (Ffo_Q (s_1,c_2) r) [.code Ffo_c] _
 refine rin (n:=8) [(0,str (s_1)),(1,.int .u8 (c_2))] [] 1 (by kernel_rfl) (by kernel_rfl) (by kernel_rfl) rfl ?_
 unfold Ffo at h
 refine cq 8 [5,6] [str (s_1),.int .u8 (c_2)] 49 ?_
 obtain ⟨r3,hr3,h⟩:=bS h
 refine oq 65 (I (r3)) rfl (e_callV rfl rfl (call_P rfl rfl rfl (avS (shP rfl) (avS (shP rfl) (avN))) (xIndexByteString_F hr3) (.inr rfl) (bl_n) rfl rfl rfl)) ?_
 refine cq 2 [4] [I (r3)] 81 ?_
 obtain rfl:=Option.some.inj h
 exact s_ret rfl ⟨_,fin (vs:=[I (r3)]) rfl (absE (absorb_plain rfl) (absEN)) rfl (ou_f (ou_f (ou_n))),kl_n⟩
theorem Ffo_good {G : Go.Ln.Ground} [TabG Tryd.prog G] : Good Tryd.prog G 154 Ffo_ent:=good_T (fnOf_good (gl_c xIndexByteString_good (gl_n))) agree_mk (Checked.mixed Tryd.checked) Tryd.func154 (n:=2) (m:=0) ⟨rfl,rfl,by decide⟩ (fun _=>⟨rfl,rfl⟩) (fun a r h=>Ffo_run a.1 a.2 r h)
def Ffn_A : (Str × Str)→List V:=cA str (oA str)
def Ffn_R (r : Int) : V × List V:=(I (r),[])
noncomputable def Ffn_ent : Ent:=entT [false,false] Ffn_A Ffn_R fun x=>Ffn x.1 x.2
theorem Ffn_F {s_1 : Str} {substr_2 : Str} {r} (h : Ffn s_1 substr_2=some r) : (Ffn_ent).F (Ffn_A (s_1,substr_2))=some (Ffn_R r):=entT_F (cA_inj str_inj (oA_inj str_inj)) h
noncomputable def Ffn_c : Code:=bodyOf Tryd.f148
noncomputable def Ffn_E : Env:=mkE Tryd.prog [(154,Ffo_ent)]
def Ffn_Q (x : Str × Str) (r : Int) : St→Prop:=QF Ffn_E Tryd.f148 [false,false] (Ffn_A x) (Ffn_R r)
theorem Ffn_run (s_1 : Str) (substr_2 : Str) (r : Int) (h : Ffn s_1 substr_2=some r) : RunF Ffn_E Tryd.f148 [false,false] 0 (Ffn_A (s_1,substr_2)) (Ffn_R r):=by
 show Run _ _ (Ffn_Q (s_1,substr_2) r) [.code Ffn_c] _
 refine rin (n:=143) [(0,str (s_1)),(1,str (substr_2))] [] 1 (by kernel_rfl) (by kernel_rfl) (by kernel_rfl) rfl ?_
 unfold Ffn at h
 refine cq 17 [5,19] [I ((len substr_2)),B (((len substr_2) == 0))] 113 ?_
 obtain ⟨u3,hu3,h⟩:=lJ h
 have j3 : Run Ffn_E 0 (Ffn_Q (s_1,substr_2) r) (.code (cR (cL (cL (cR (cR Ffn_c))))) :: .blk 0 :: .code (cR (cR (cR Ffn_c))) :: []) (sT 143 [(0,str (s_1)),(1,str (substr_2)),(5,I ((len substr_2))),(16,B (u3))] [] 1):=by
   refine sq h (fun h=>?_) (fun h=>?_)
   · refine cq 4 [4] [I (0)] 17 ?_
     obtain rfl:=Option.some.inj h
     exact s_ret rfl ⟨_,fin (vs:=[I (0)]) rfl (absE (absorb_plain rfl) (absEN)) rfl (ou_f (ou_f (ou_n))),kl_n⟩
   · refine cq 6 [24] [B (((len substr_2) == 1))] 49 ?_
     refine sq h (fun h=>?_) (fun h=>?_)
     · refine cq 4 [27,28] [str (s_1),str (substr_2)] 81 ?_
       obtain ⟨c4,hc4,h⟩:=bS h
       refine oq 97 (.int .u8 ((c4.toNat : Int))) rfl (e_index rfl rfl (i_str rfl rfl hc4)) ?_
       obtain ⟨r5,hr5,h⟩:=bS h
       refine oq 113 (I (r5)) rfl (e_callV rfl rfl (call_P rfl rfl rfl (avS (shP rfl) (avS (shP rfl) (avN))) (Ffo_F hr5) (.inr rfl) (bl_n) rfl rfl rfl)) ?_
       refine cq 2 [4] [I (r5)] 129 ?_
       obtain rfl:=Option.some.inj h
       exact s_ret rfl ⟨_,fin (vs:=[I (r5)]) rfl (absE (absorb_plain rfl) (absEN)) rfl (ou_f (ou_f (ou_n))),kl_n⟩
     · refine cq 8 [31] [B ((decide ((len substr_2) ≥ (len s_1))))] 129 ?_
       refine sq h (fun h=>?_) (fun h=>?_)
       · refine cq 4 [4] [I ((-1))] 145 ?_
         obtain rfl:=Option.some.inj h
         exact s_ret rfl ⟨_,fin (vs:=[I ((-1))]) rfl (absE (absorb_plain rfl) (absEN)) rfl (ou_f (ou_f (ou_n))),kl_n⟩
       · cases h
 replace h:=hu3
 clear hu3
 refine sp 19 h rfl (fun h=>?_) (fun h=>?_)
 · refine cq 6 [16] [B (true)] 193 ?_
   subst h
   exact rf [0,1,5,16] [] (j3 :)
 · refine cq 6 [16] [B ((substr_2 == s_1))] 193 ?_
   subst h
   exact rf [0,1,5,16] [] (j3 :)
theorem Ffn_good {G : Go.Ln.Ground} [TabG Tryd.prog G] : Good Tryd.prog G 148 Ffn_ent:=good_T (fnOf_good (gl_c Ffo_good (gl_n))) agree_mk (Checked.mixed Tryd.checked) Tryd.func148 (n:=2) (m:=0) ⟨rfl,rfl,by decide⟩ (fun _=>⟨rfl,rfl⟩) (fun a r h=>Ffn_run a.1 a.2 r h)
def Ffbn_A : (Str × Str)→List V:=cA str (oA str)
def Ffbn_R (r : Int) : V × List V:=(I (r),[])
noncomputable def Ffbn_ent : Ent:=entT [false,false] Ffbn_A Ffbn_R fun x=>Ffbn x.1 x.2
theorem Ffbn_F {s_1 : Str} {substr_2 : Str} {r} (h : Ffbn s_1 substr_2=some r) : (Ffbn_ent).F (Ffbn_A (s_1,substr_2))=some (Ffbn_R r):=entT_F (cA_inj str_inj (oA_inj str_inj)) h
noncomputable def Ffbn_c : Code:=bodyOf Tryd.f142
noncomputable def Ffbn_E : Env:=mkE Tryd.prog [(148,Ffn_ent)]
def Ffbn_Q (x : Str × Str) (r : Int) : St→Prop:=QF Ffbn_E Tryd.f142 [false,false] (Ffbn_A x) (Ffbn_R r)
theorem Ffbn_run (s_1 : Str) (substr_2 : Str) (r : Int) (h : Ffbn s_1 substr_2=some r) : RunF Ffbn_E Tryd.f142 [false,false] 0 (Ffbn_A (s_1,substr_2)) (Ffbn_R r):=by
 show Run _ _ (Ffbn_Q (s_1,substr_2) r) [.code Ffbn_c] _
 refine rin (n:=8) [(0,str (s_1)),(1,str (substr_2))] [] 1 (by kernel_rfl) (by kernel_rfl) (by kernel_rfl) rfl ?_
 unfold Ffbn at h
 refine cq 8 [5,6] [str (s_1),str (substr_2)] 49 ?_
 obtain ⟨r3,hr3,h⟩:=bS h
 refine oq 65 (I (r3)) rfl (e_callV rfl rfl (call_P rfl rfl rfl (avS (shP rfl) (avS (shP rfl) (avN))) (Ffn_F hr3) (.inr rfl) (bl_n) rfl rfl rfl)) ?_
 refine cq 2 [4] [I (r3)] 81 ?_
 obtain rfl:=Option.some.inj h
 exact s_ret rfl ⟨_,fin (vs:=[I (r3)]) rfl (absE (absorb_plain rfl) (absEN)) rfl (ou_f (ou_f (ou_n))),kl_n⟩
theorem Ffbn_good {G : Go.Ln.Ground} [TabG Tryd.prog G] : Good Tryd.prog G 142 Ffbn_ent:=good_T (fnOf_good (gl_c Ffn_good (gl_n))) agree_mk (Checked.mixed Tryd.checked) Tryd.func142 (n:=2) (m:=0) ⟨rfl,rfl,by decide⟩ (fun _=>⟨rfl,rfl⟩) (fun a r h=>Ffbn_run a.1 a.2 r h)
def Ffbm_A : (Str × Str)→List V:=cA str (oA str)
def Ffbm_R (r : Int) : V × List V:=(I (r),[])
noncomputable def Ffbm_ent : Ent:=entT [false,false] Ffbm_A Ffbm_R fun x=>Ffbm x.1 x.2
theorem Ffbm_F {s_1 : Str} {substr_2 : Str} {r} (h : Ffbm s_1 substr_2=some r) : (Ffbm_ent).F (Ffbm_A (s_1,substr_2))=some (Ffbm_R r):=entT_F (cA_inj str_inj (oA_inj str_inj)) h
noncomputable def Ffbm_c : Code:=bodyOf Tryd.f141
noncomputable def Ffbm_E : Env:=mkE Tryd.prog [(147,xCountString_ent),(142,Ffbn_ent)]
def Ffbm_Q (x : Str × Str) (r : Int) : St→Prop:=QF Ffbm_E Tryd.f141 [false,false] (Ffbm_A x) (Ffbm_R r)
theorem Ffbm_la_run (s_1 : Str) (substr_2 : Str)  {Q : St→Prop} {K : List It} (hK : noD K=true) : ∀ (x5 : Str × Int) (y : Int ⊕ Unit),Ffbm_la s_1 substr_2 x5=some y→(∀ r',y=.inl r'→∀ st,Ffbm_Q (s_1,substr_2) r' st→Q st)→(∀ u : Unit,y=.inr u→Run Ffbm_E 0 Q K (sT 34 [] [] 1))→Run Ffbm_E 0 Q (.code (cL (cL (cR (cR (cR (cR Ffbm_c)))))) :: .lp (cL (cL (cR (cR (cR (cR Ffbm_c)))))) :: .blk 0 :: K) (sT 34 [(0,str (x5.1)),(1,str (substr_2)),(5,I (x5.2))] [] 1):=by
 refine fix_indP (Ffbm_la_fin s_1 substr_2) ?_
 intro self ih x5 y h hr hn
 unfold Ffbm_la_F at h
 refine cq 5 [20,21] [str (x5.1),str (substr_2)] 33 ?_
 obtain ⟨r6,hr6,h⟩:=bS h
 refine oq 49 (I (r6)) rfl (e_callV rfl rfl (call_P rfl rfl rfl (avS (shP rfl) (avS (shP rfl) (avN))) (Ffbn_F hr6) (.inr rfl) (bl_n) rfl rfl rfl)) ?_
 refine cq 8 [6,24] [I (r6),B ((r6 == (-1)))] 97 ?_
 refine sq h (fun h=>?_) (fun h=>?_)
 · refine cq 5 [4] [I (x5.2)] 129 ?_
   exact s_ret rfl (hr _ (Option.some.inj h).symm _ ⟨_,fin (vs:=[I (x5.2)]) rfl (absE (absorb_plain rfl) (absEN)) rfl (ou_f (ou_f (ou_n))),kl_n⟩)
 · refine aq 1 ?_
   refine cq 12 [5,28,32] [I ((w64 (x5.2 + 1))),str (x5.1),I ((w64 (r6 + (len substr_2))))] 225 ?_
   obtain ⟨s7,hs7,h⟩:=bS h
   refine oq 241 (str (s7)) rfl (e_slice rfl rfl rfl rfl (sl_str rfl rfl rfl hs7)) ?_
   refine cq 3 [0] [str (s7)] 257 ?_
   refine s_lp ?_
   exact rf [0,1,5] [] (ih _ _ h hr hn :)
theorem Ffbm_run (s_1 : Str) (substr_2 : Str) (r : Int) (h : Ffbm s_1 substr_2=some r) : RunF Ffbm_E Tryd.f141 [false,false] 0 (Ffbm_A (s_1,substr_2)) (Ffbm_R r):=by
 show Run _ _ (Ffbm_Q (s_1,substr_2) r) [.code Ffbm_c] _
 refine rin (n:=34) [(0,str (s_1)),(1,str (substr_2))] [] 1 (by kernel_rfl) (by kernel_rfl) (by kernel_rfl) rfl ?_
 unfold Ffbm at h
 refine cq 11 [9] [B (((len substr_2) == 0))] 65 ?_
 refine sq h (fun h=>?_) (fun h=>?_)
 · cases h
 · refine aq 1 ?_
   refine cq 7 [15] [B (((len substr_2) == 1))] 113 ?_
   refine sq h (fun h=>?_) (fun h=>?_)
   · refine cq 4 [16,17] [str (s_1),str (substr_2)] 145 ?_
     obtain ⟨c3,hc3,h⟩:=bS h
     refine oq 161 (.int .u8 ((c3.toNat : Int))) rfl (e_index rfl rfl (i_str rfl rfl hc3)) ?_
     obtain ⟨r4,hr4,h⟩:=bS h
     refine oq 177 (I (r4)) rfl (e_callV rfl rfl (call_P rfl rfl rfl (avS (shP rfl) (avS (shP rfl) (avN))) (xCountString_F hr4) (.inr rfl) (bl_n) rfl rfl rfl)) ?_
     refine cq 2 [4] [I (r4)] 193 ?_
     obtain rfl:=Option.some.inj h
     exact s_ret rfl ⟨_,fin (vs:=[I (r4)]) rfl (absE (absorb_plain rfl) (absEN)) rfl (ou_f (ou_f (ou_n))),kl_n⟩
   · refine aq 1 ?_
     refine cq 5 [5] [I (0)] 129 ?_
     obtain ⟨y8,hy8,hy81,hy82⟩:=bJ h
     refine s_loop rfl ?_
     refine rf [0,1,5] [] (Ffbm_la_run s_1 substr_2 rfl (s_1,0) _ hy8 (fun r' e st hq=>by rw [hy81 r' e] at hq; exact hq) fun u8 hu=>?_)
     replace h:=hy82 u8 hu
     cases h
theorem Ffbm_good {G : Go.Ln.Ground} [TabG Tryd.prog G] : Good Tryd.prog G 141 Ffbm_ent:=good_T (fnOf_good (gl_c xCountString_good (gl_c Ffbn_good (gl_n)))) agree_mk (Checked.mixed Tryd.checked) Tryd.func141 (n:=2) (m:=0) ⟨rfl,rfl,by decide⟩ (fun _=>⟨rfl,rfl⟩) (fun a r h=>Ffbm_run a.1 a.2 r h)
def Ffbp_A : (Str × Str × Int × Int)→List V:=cA str (cA str (cA I (oA I)))
def Ffbp_R (r : (List Str)) : V × List V:=(.usl 1 ((r).map str),[])
noncomputable def Ffbp_ent : Ent:=entT [false,false,false,false] Ffbp_A Ffbp_R fun x=>Ffbp x.1 x.2.1 x.2.2.1 x.2.2.2
theorem Ffbp_F {s_1 : Str} {sep_2 : Str} {sepSave_3 : Int} {n_4 : Int} {r} (h : Ffbp s_1 sep_2 sepSave_3 n_4=some r) : (Ffbp_ent).F (Ffbp_A (s_1,sep_2,sepSave_3,n_4))=some (Ffbp_R r):=entT_F (cA_inj str_inj (cA_inj str_inj (cA_inj I_inj (oA_inj I_inj)))) h
noncomputable def Ffbp_c : Code:=bodyOf Tryd.f130
noncomputable abbrev Ffbp_ka : Code:=cL (cL (cL (cR (cR (cR (cR (cR (cR (cR (cR Ffbp_c))))))))))
noncomputable def Ffbp_E : Env:=mkE Tryd.prog [(142,Ffbn_ent),(141,Ffbm_ent)]
def Ffbp_Q (x : Str × Str × Int × Int) (r : (List Str)) : St→Prop:=QF Ffbp_E Tryd.f130 [false,false,false,false] (Ffbp_A x) (Ffbp_R r)
theorem Ffbp_la_run (s_1 : Str) (sep_2 : Str) (sepSave_3 : Int) (n_4 : Int) (u5 : Int) {Q : St→Prop} {K : List It} (hK : noD K=true) : ∀ (x7 : Str × Int × (List Str)) (y : ((List Str)) ⊕ (Str × Int × (List Str))),Ffbp_la s_1 sep_2 sepSave_3 n_4 u5 x7=some y→(∀ r',y=.inl r'→∀ st,Ffbp_Q (s_1,sep_2,sepSave_3,n_4) r' st→Q st)→(∀ u : Str × Int × (List Str),y=.inr u→Run Ffbp_E 0 Q K (sT 66 [(0,str (u.1)),(9,.hs 1 0 [] 1 0 ((u.2.2).map str).length),(10,I (u.2.1))] [⟨0,1,(u.2.2).map str⟩] 2))→Run Ffbp_E 0 Q (.code Ffbp_ka :: .lp Ffbp_ka :: .blk 0 :: K) (sT 66 [(0,str (x7.1)),(1,str (sep_2)),(2,I (sepSave_3)),(3,I ((w64 ((if (w64 ((len s_1) + 1)) < u5 then (w64 ((len s_1) + 1)) else u5) - 1)))),(9,.hs 1 0 [] 1 0 ((x7.2.2).map str).length),(10,I (x7.2.1))] [⟨0,1,(x7.2.2).map str⟩] 2):=by
 refine fix_indP (Ffbp_la_fin s_1 sep_2 sepSave_3 n_4 u5) ?_
 intro self ih x7 y h hr hn
 unfold Ffbp_la_F at h
 refine cq 7 [36] [B ((decide (x7.2.1 < (w64 ((if (w64 ((len s_1) + 1)) < u5 then (w64 ((len s_1) + 1)) else u5) - 1)))))] 50 ?_
 refine sq h (fun h=>?_) (fun h=>?_)
 · refine aq 1 ?_
   refine cq 5 [37,38] [str (x7.1),str (sep_2)] 82 ?_
   obtain ⟨r8,hr8,h⟩:=bS h
   refine oq 98 (I (r8)) rfl (e_callV rfl rfl (call_P rfl rfl rfl (avS (shP rfl) (avS (shP rfl) (avN))) (Ffbn_F hr8) (.inr rfl) (bl_n) rfl rfl rfl)) ?_
   refine cq 8 [11,41] [I (r8),B ((decide (r8 < 0)))] 146 ?_
   refine sq h (fun h=>?_) (fun h=>?_)
   · refine aq 1 ?_
     exact rf [0,9,10] [1] (hn _ (Option.some.inj h).symm :) (hk:=hK)
   · refine aq 1 ?_
     refine cq 8 [42,43,44,47] [.hs 1 0 [] 1 0 ((x7.2.2).map str).length,I (x7.2.1),str (x7.1),I ((w64 (r8 + sepSave_3)))] 242 ?_
     obtain ⟨s9,hs9,h⟩:=bS h
     refine oq 258 (str (s9)) rfl (e_slice rfl rfl rfl rfl (sl_str rfl rfl rfl hs9)) ?_
     obtain ⟨e10,he10,h⟩:=bS h
     refine oq 274 (.hp 1 0 [] 1 (0 + Int.toNat (x7.2.1)) 0) rfl (e_indexAddr rfl rfl rfl (ix_hsM (f:=str) (xs:=x7.2.2) rfl rfl rfl he10)) ?_
     refine o0 290 rfl rfl (e_st rfl rfl (st_at (path:=[]) (pl:=true) (e':=str (s9)) (es2':=((setI x7.2.2 x7.2.1 s9)).map str) rfl (absorb_plain rfl) rfl rfl rfl (ra_n) (get_map (f:=str) (xs:=x7.2.2) he10) rfl rfl rfl (set_map (f:=str) (xs:=x7.2.2) (y:=s9)) (sr_n) 0 rfl)) ?_
     try rw [← len_setM (f:=str) (xs:=x7.2.2) (i:=x7.2.1) (z:=s9)]
     refine cq 8 [50,54] [str (x7.1),I ((w64 (r8 + (len sep_2))))] 370 ?_
     obtain ⟨s11,hs11,h⟩:=bS h
     refine oq 386 (str (s11)) rfl (e_slice rfl rfl rfl rfl (sl_str rfl rfl rfl hs11)) ?_
     refine cq 8 [0,10] [str (s11),I ((w64 (x7.2.1 + 1)))] 450 ?_
     refine s_lp ?_
     exact rf [0,1,2,3,9,10] [1] (ih _ _ h hr hn :)
 · refine aq 1 ?_
   exact rf [0,9,10] [1] (hn _ (Option.some.inj h).symm :) (hk:=hK)
theorem Ffbp_run (s_1 : Str) (sep_2 : Str) (sepSave_3 : Int) (n_4 : Int) (r : (List Str)) (h : Ffbp s_1 sep_2 sepSave_3 n_4=some r) : RunF Ffbp_E Tryd.f130 [false,false,false,false] 0 (Ffbp_A (s_1,sep_2,sepSave_3,n_4)) (Ffbp_R r):=by
 show Run _ _ (Ffbp_Q (s_1,sep_2,sepSave_3,n_4) r) [.code Ffbp_c] _
 refine rin (n:=66) [(0,str (s_1)),(1,str (sep_2)),(2,I (sepSave_3)),(3,I (n_4))] [] 1 (by kernel_rfl) (by kernel_rfl) (by kernel_rfl) rfl ?_
 unfold Ffbp at h
 refine cq 10 [13] [B ((n_4 == 0))] 49 ?_
 refine sq h (fun h=>?_) (fun h=>?_)
 · refine cq 4 [8] [.isl true []] 65 ?_
   refine run_own 8 0 1 81 (.hs 65 0 [] 1 0 0) rfl rfl rfl rfl rfl ?_
   obtain rfl:=Option.some.inj h
   exact s_ret rfl ⟨_,fin (vs:=[.hs 65 0 [] 1 0 0]) rfl (absE (abs1 rfl (abs_hs rfl rfl)) (absEN)) rfl (ou_f (ou_f (ou_f (ou_f (ou_n))))),kl_n⟩
 · refine aq 1 ?_
   refine cq 6 [15] [B ((sep_2 == ([] : Str)))] 81 ?_
   refine sq h (fun h=>?_) (fun h=>?_)
   · cases h
   · refine aq 1 ?_
     refine cq 6 [20] [B ((decide (n_4 < 0)))] 113 ?_
     obtain ⟨y5,hy5,hy51,hy52⟩:=bJ h
     have j5 : ∀ u5,y5=.inr u5→Run Ffbp_E 0 (Ffbp_Q (s_1,sep_2,sepSave_3,n_4) r) (.code (cR (cR (cR (cR Ffbp_c)))) :: []) (sT 66 [(0,str (s_1)),(1,str (sep_2)),(2,I (sepSave_3)),(3,I (u5))] [] 1):=by
       intro u5 hu
       replace h:=hy52 u5 hu
       refine cq 12 [3,30] [I ((if (w64 ((len s_1) + 1)) < u5 then (w64 ((len s_1) + 1)) else u5)),I ((if (w64 ((len s_1) + 1)) < u5 then (w64 ((len s_1) + 1)) else u5))] 113 ?_
       obtain ⟨m6,hm6,h⟩:=bS h
       refine oq 129 (.hs 113 0 [] 1 0 ((m6).map str).length) rfl (e_makeSlice rfl rfl (ms_mkM (f:=str) rfl rfl rfl (by decide) hm6 rfl)) ?_
       refine cq 14 [3,9,10] [I ((w64 ((if (w64 ((len s_1) + 1)) < u5 then (w64 ((len s_1) + 1)) else u5) - 1))),.hs 113 0 [] 1 0 ((m6).map str).length,I (0)] 209 ?_
       obtain ⟨y12,hy12,hy121,hy122⟩:=bJ h
       refine s_loop rfl ?_
       refine rf [0,1,2,3,9,10] [113] (Ffbp_la_run s_1 sep_2 sepSave_3 n_4 u5 rfl (s_1,0,m6) _ hy12 (fun r' e st hq=>by rw [hy121 r' e] at hq; exact hq) fun u12 hu=>?_)
       replace h:=hy122 u12 hu
       refine cq 5 [58,59,60] [.hs 1 0 [] 1 0 ((u12.2.2).map str).length,I (u12.2.1),str (u12.1)] 50 ?_
       obtain ⟨e13,he13,h⟩:=bS h
       refine oq 66 (.hp 1 0 [] 1 (0 + Int.toNat (u12.2.1)) 0) rfl (e_indexAddr rfl rfl rfl (ix_hsM (f:=str) (xs:=u12.2.2) rfl rfl rfl he13)) ?_
       refine o0 82 rfl rfl (e_st rfl rfl (st_at (path:=[]) (pl:=true) (e':=str (u12.1)) (es2':=((setI u12.2.2 u12.2.1 u12.1)).map str) rfl (absorb_plain rfl) rfl rfl rfl (ra_n) (get_map (f:=str) (xs:=u12.2.2) he13) rfl rfl rfl (set_map (f:=str) (xs:=u12.2.2) (y:=u12.1)) (sr_n) 0 rfl)) ?_
       try rw [← len_setM (f:=str) (xs:=u12.2.2) (i:=u12.2.1) (z:=u12.1)]
       refine cq 6 [62,64] [.hs 1 0 [] 1 0 (((setI u12.2.2 u12.2.1 u12.1)).map str).length,I ((w64 (u12.2.1 + 1)))] 130 ?_
       obtain ⟨s14,hs14,h⟩:=bS h
       refine oq 146 (.hs 1 0 [] 1 (0 + Int.toNat (0)) (Int.toNat ((w64 (u12.2.1 + 1))) - Int.toNat (0))) rfl (e_slice rfl rfl rfl rfl (sl_hsM (f:=str) (xs:=(setI u12.2.2 u12.2.1 u12.1)) rfl rfl rfl rfl rfl hs14)) ?_
       refine cq 2 [8] [.hs 1 0 [] 1 (0 + Int.toNat (0)) (Int.toNat ((w64 (u12.2.1 + 1))) - Int.toNat (0))] 162 ?_
       obtain ⟨p15,hp15,h⟩:=bS h
       obtain rfl:=Option.some.inj h
       exact s_ret rfl ⟨_,fin (vs:=[.hs 1 0 [] 1 (0 + Int.toNat (0)) (Int.toNat ((w64 (u12.2.1 + 1))) - Int.toNat (0))]) rfl (absE (abs1 rfl (abs_pt (path:=[]) (f:=str) (xs:=(setI u12.2.2 u12.2.1 u12.1)) rfl rfl (ra_n) hp15 rfl (to_n))) (absEN)) rfl (ou_f (ou_f (ou_f (ou_f (ou_n))))),kl_n⟩
     have r5 : ∀ r',y5=.inl r'→∀ st,Ffbp_Q (s_1,sep_2,sepSave_3,n_4) r' st→(Ffbp_Q (s_1,sep_2,sepSave_3,n_4) r) st:=fun r' e st hq=>by rw [hy51 r' e] at hq; exact hq
     replace h:=hy5
     refine sq h (fun h=>?_) (fun h=>?_)
     · refine cq 3 [21,22] [str (s_1),str (sep_2)] 145 ?_
       obtain ⟨r16,hr16,h⟩:=bS h
       refine oq 161 (I (r16)) rfl (e_callV rfl rfl (call_P rfl rfl rfl (avS (shP rfl) (avS (shP rfl) (avN))) (Ffbm_F hr16) (.inr rfl) (bl_n) rfl rfl rfl)) ?_
       refine cq 3 [3] [I ((w64 (r16 + 1)))] 193 ?_
       exact rf [0,1,2,3] [] (j5 _ (Option.some.inj h).symm :)
     · refine aq 1 ?_
       exact rf [0,1,2,3] [] (j5 _ (Option.some.inj h).symm :)
theorem Ffbp_good {G : Go.Ln.Ground} [TabG Tryd.prog G] : Good Tryd.prog G 130 Ffbp_ent:=good_T (fnOf_good (gl_c Ffbn_good (gl_c Ffbm_good (gl_n)))) agree_mk (Checked.mixed Tryd.checked) Tryd.func130 (n:=4) (m:=0) ⟨rfl,rfl,by decide⟩ (fun _=>⟨rfl,rfl⟩) (fun a r h=>Ffbp_run a.1 a.2.1 a.2.2.1 a.2.2.2 r h)
def Ffbo_A : (Str × Str)→List V:=cA str (oA str)
def Ffbo_R (r : (List Str)) : V × List V:=(.usl 1 ((r).map str),[])
noncomputable def Ffbo_ent : Ent:=entT [false,false] Ffbo_A Ffbo_R fun x=>Ffbo x.1 x.2
theorem Ffbo_F {s_1 : Str} {sep_2 : Str} {r} (h : Ffbo s_1 sep_2=some r) : (Ffbo_ent).F (Ffbo_A (s_1,sep_2))=some (Ffbo_R r):=entT_F (cA_inj str_inj (oA_inj str_inj)) h
noncomputable def Ffbo_c : Code:=bodyOf Tryd.f109
noncomputable def Ffbo_E : Env:=mkE Tryd.prog [(130,Ffbp_ent)]
def Ffbo_Q (x : Str × Str) (r : (List Str)) : St→Prop:=QF Ffbo_E Tryd.f109 [false,false] (Ffbo_A x) (Ffbo_R r)
theorem Ffbo_run (s_1 : Str) (sep_2 : Str) (r : (List Str)) (h : Ffbo s_1 sep_2=some r) : RunF Ffbo_E Tryd.f109 [false,false] 0 (Ffbo_A (s_1,sep_2)) (Ffbo_R r):=by
 show Run _ _ (Ffbo_Q (s_1,sep_2) r) [.code Ffbo_c] _
 refine rin (n:=8) [(0,str (s_1)),(1,str (sep_2))] [] 1 (by kernel_rfl) (by kernel_rfl) (by kernel_rfl) rfl ?_
 unfold Ffbo at h
 refine cq 8 [5,6] [str (s_1),str (sep_2)] 49 ?_
 obtain ⟨r3,hr3,h⟩:=bS h
 refine oq 65 (.hs 49 0 [] 1 0 ((r3).map str).length) rfl (e_callV rfl rfl (call_P rfl rfl rfl (avS (shP rfl) (avS (shP rfl) (avS (shP rfl) (avS (shP rfl) (avN))))) (Ffbp_F hr3) (.inr rfl) (bl_n) rfl rfl rfl)) ?_
 refine cq 2 [4] [.hs 49 0 [] 1 0 ((r3).map str).length] 81 ?_
 obtain rfl:=Option.some.inj h
 exact s_ret rfl ⟨_,fin (vs:=[.hs 49 0 [] 1 0 ((r3).map str).length]) rfl (absE (abs1 rfl (abs_hs rfl rfl)) (absEN)) rfl (ou_f (ou_f (ou_n))),kl_n⟩
theorem Ffbo_good {G : Go.Ln.Ground} [TabG Tryd.prog G] : Good Tryd.prog G 109 Ffbo_ent:=good_T (fnOf_good (gl_c Ffbp_good (gl_n))) agree_mk (Checked.mixed Tryd.checked) Tryd.func109 (n:=2) (m:=0) ⟨rfl,rfl,by decide⟩ (fun _=>⟨rfl,rfl⟩) (fun a r h=>Ffbo_run a.1 a.2 r h)
def Ffv_A : ((List Str) × Str)→List V:=cA (slE str) (oA str)
def Ffv_R (r : Int) : V × List V:=(I (r),[])
noncomputable def Ffv_ent : Ent:=entT [false,false] Ffv_A Ffv_R fun x=>Ffv x.1 x.2
theorem Ffv_F {s_1 : List Str} {v_2 : Str} {r} (h : Ffv s_1 v_2=some r) : (Ffv_ent).F (Ffv_A (s_1,v_2))=some (Ffv_R r):=entT_F (cA_inj (isl_inj str_inj) (oA_inj str_inj)) h
noncomputable def Ffv_c : Code:=bodyOf Tryd.f110
noncomputable def Ffv_E : Env:=mkE Tryd.prog []
def Ffv_Q (x : (List Str) × Str) (r : Int) : St→Prop:=QF Ffv_E Tryd.f110 [false,false] (Ffv_A x) (Ffv_R r)
theorem Ffv_la_run (s_1 : List Str) (v_2 : Str)  {Q : St→Prop} {K : List It} (hK : noD K=true) : ∀ (x3 : Int) (y : Int ⊕ Unit),Ffv_la s_1 v_2 x3=some y→(∀ r',y=.inl r'→∀ st,Ffv_Q (s_1,v_2) r' st→Q st)→(∀ u : Unit,y=.inr u→Run Ffv_E 0 Q K (sT 19 [] [] 1))→Run Ffv_E 0 Q (.code (cL (cL (cR (cL (cR Ffv_c))))) :: .lp (cL (cL (cR (cL (cR Ffv_c))))) :: .blk 0 :: K) (sT 19 [(0,.isl false ((s_1).map str)),(1,str (v_2)),(7,I ((len s_1))),(8,I (x3))] [] 1):=by
 refine fix_indP (Ffv_la_fin s_1 v_2) ?_
 intro self ih x3 y h hr hn
 unfold Ffv_la_F at h
 refine cq 5 [9] [B ((decide (x3 < (len s_1))))] 17 ?_
 refine sq h (fun h=>?_) (fun h=>?_)
 · refine aq 1 ?_
   refine cq 12 [5,11,12,13] [I (x3),str (v_2),.isl false ((s_1).map str),I (x3)] 97 ?_
   obtain ⟨e4,he4,h⟩:=bS h
   refine oq 113 (.iptr (str (e4)) 0) rfl (e_indexAddr rfl rfl rfl (ix_islE rfl rfl rfl rfl he4)) ?_
   refine cq 3 [16] [B ((v_2 == e4))] 145 ?_
   refine sq h (fun h=>?_) (fun h=>?_)
   · refine cq 5 [4] [I (x3)] 177 ?_
     exact s_ret rfl (hr _ (Option.some.inj h).symm _ ⟨_,fin (vs:=[I (x3)]) rfl (absE (absorb_plain rfl) (absEN)) rfl (ou_f (ou_f (ou_n))),kl_n⟩)
   · refine aq 1 ?_
     refine cq 5 [8] [I ((w64 (x3 + 1)))] 177 ?_
     refine s_lp ?_
     exact rf [0,1,7,8] [] (ih _ _ h hr hn :)
 · refine aq 1 ?_
   exact rf [] [] (hn _ (Option.some.inj h).symm :) (hk:=hK)
theorem Ffv_run (s_1 : List Str) (v_2 : Str) (r : Int) (h : Ffv s_1 v_2=some r) : RunF Ffv_E Tryd.f110 [false,false] 0 (Ffv_A (s_1,v_2)) (Ffv_R r):=by
 show Run _ _ (Ffv_Q (s_1,v_2) r) [.code Ffv_c] _
 refine rin (n:=19) [(0,.isl false ((s_1).map str)),(1,str (v_2))] [] 1 (by kernel_rfl) (by kernel_rfl) (by kernel_rfl) rfl ?_
 unfold Ffv at h
 refine cq 8 [6] [.isl false ((s_1).map str)] 33 ?_
 refine oq 49 (I ((len s_1))) rfl (e_len rfl rfl rfl (l_isl rfl)) ?_
 refine cq 3 [8] [I (0)] 65 ?_
 obtain ⟨y5,hy5,hy51,hy52⟩:=bJ h
 refine s_loop rfl ?_
 refine rf [0,1,7,8] [] (Ffv_la_run s_1 v_2 rfl 0 _ hy5 (fun r' e st hq=>by rw [hy51 r' e] at hq; exact hq) fun u5 hu=>?_)
 replace h:=hy52 u5 hu
 refine cq 4 [4] [I ((-1))] 17 ?_
 obtain rfl:=Option.some.inj h
 exact s_ret rfl ⟨_,fin (vs:=[I ((-1))]) rfl (absE (absorb_plain rfl) (absEN)) rfl (ou_f (ou_f (ou_n))),kl_n⟩
theorem Ffv_good {G : Go.Ln.Ground} [TabG Tryd.prog G] : Good Tryd.prog G 110 Ffv_ent:=good_T (fnOf_good (gl_n)) agree_mk (Checked.mixed Tryd.checked) Tryd.func110 (n:=2) (m:=0) ⟨rfl,rfl,by decide⟩ (fun _=>⟨rfl,rfl⟩) (fun a r h=>Ffv_run a.1 a.2 r h)
def Ffu_A : ((List Str) × Str)→List V:=cA (slE str) (oA str)
def Ffu_R (r : Bool) : V × List V:=(B (r),[])
noncomputable def Ffu_ent : Ent:=entT [false,false] Ffu_A Ffu_R fun x=>Ffu x.1 x.2
theorem Ffu_F {s_1 : List Str} {v_2 : Str} {r} (h : Ffu s_1 v_2=some r) : (Ffu_ent).F (Ffu_A (s_1,v_2))=some (Ffu_R r):=entT_F (cA_inj (isl_inj str_inj) (oA_inj str_inj)) h
noncomputable def Ffu_c : Code:=bodyOf Tryd.f90
noncomputable def Ffu_E : Env:=mkE Tryd.prog [(110,Ffv_ent)]
def Ffu_Q (x : (List Str) × Str) (r : Bool) : St→Prop:=QF Ffu_E Tryd.f90 [false,false] (Ffu_A x) (Ffu_R r)
theorem Ffu_run (s_1 : List Str) (v_2 : Str) (r : Bool) (h : Ffu s_1 v_2=some r) : RunF Ffu_E Tryd.f90 [false,false] 0 (Ffu_A (s_1,v_2)) (Ffu_R r):=by
 show Run _ _ (Ffu_Q (s_1,v_2) r) [.code Ffu_c] _
 refine rin (n:=9) [(0,.isl false ((s_1).map str)),(1,str (v_2))] [] 1 (by kernel_rfl) (by kernel_rfl) (by kernel_rfl) rfl ?_
 unfold Ffu at h
 refine cq 8 [5,6] [.isl false ((s_1).map str),str (v_2)] 49 ?_
 obtain ⟨r3,hr3,h⟩:=bS h
 refine oq 65 (I (r3)) rfl (e_callV rfl rfl (call_P rfl rfl rfl (avS (shP rfl) (avS (shP rfl) (avN))) (Ffv_F hr3) (.inr rfl) (bl_n) rfl rfl rfl)) ?_
 refine cq 3 [4] [B ((decide (r3 ≥ 0)))] 97 ?_
 obtain rfl:=Option.some.inj h
 exact s_ret rfl ⟨_,fin (vs:=[B ((decide (r3 ≥ 0)))]) rfl (absE (absorb_plain rfl) (absEN)) rfl (ou_f (ou_f (ou_n))),kl_n⟩
theorem Ffu_good {G : Go.Ln.Ground} [TabG Tryd.prog G] : Good Tryd.prog G 90 Ffu_ent:=good_T (fnOf_good (gl_c Ffv_good (gl_n))) agree_mk (Checked.mixed Tryd.checked) Tryd.func90 (n:=2) (m:=0) ⟨rfl,rfl,by decide⟩ (fun _=>⟨rfl,rfl⟩) (fun a r h=>Ffu_run a.1 a.2 r h)
def Ffb_A : Str→List V:=oA str
def Ffb_R (r : Bool) : V × List V:=(B (r),[])
noncomputable def Ffb_ent : Ent:=entT [false] Ffb_A Ffb_R fun x=>Ffb x
theorem Ffb_F {s_1 : Str} {r} (h : Ffb s_1=some r) : (Ffb_ent).F (Ffb_A s_1)=some (Ffb_R r):=entT_F (oA_inj str_inj) h
noncomputable def Ffb_c : Code:=bodyOf Tryd.f89
noncomputable abbrev Ffb_ka : Code:=cL (cL (cR (cL (cR (cR Ffb_c)))))
noncomputable abbrev Ffb_kb : Code:=cR (cR (cR Ffb_ka))
noncomputable abbrev Ffb_kc : Code:=cR (cR (cR (cL (cL (cR (cR Ffb_ka))))))
noncomputable def Ffb_E : Env:=mkE Tryd.prog [(55,Ffm_ent),(109,Ffbo_ent),(90,Ffu_ent)]
def Ffb_Q (x : Str) (r : Bool) : St→Prop:=QF Ffb_E Tryd.f89 [false] (Ffb_A x) (Ffb_R r)
theorem Ffb_la_run (s_1 : Str)  {Q : St→Prop} {K : List It} (hK : noD K=true) : ∀ (x4 : Int) (y : Bool ⊕ Unit),Ffb_la s_1 x4=some y→(∀ r',y=.inl r'→∀ st,Ffb_Q s_1 r' st→Q st)→(∀ u : Unit,y=.inr u→Run Ffb_E 0 Q K (sT 46 [(0,str (s_1))] [] 1))→Run Ffb_E 0 Q (.code Ffb_ka :: .lp Ffb_ka :: .blk 0 :: K) (sT 46 [(0,str (s_1)),(20,I ((len s_1))),(21,I (x4))] [] 1):=by
 refine fix_indP (Ffb_la_fin s_1) ?_
 intro self ih x4 y h hr hn
 unfold Ffb_la_F at h
 refine cq 5 [22] [B ((decide (x4 < (len s_1))))] 17 ?_
 refine sq h (fun h=>?_) (fun h=>?_)
 · refine aq 1 ?_
   refine cq 11 [24,25] [str (s_1),I (x4)] 81 ?_
   obtain ⟨c5,hc5,h⟩:=bS h
   refine oq 97 (.int .u8 ((c5.toNat : Int))) rfl (e_index rfl rfl (i_str rfl rfl hc5)) ?_
   refine cq 7 [4,29] [.int .u8 ((c5.toNat : Int)),B ((decide ((c5.toNat : Int) < 97)))] 161 ?_
   obtain ⟨u6,hu6,h⟩:=lJ h
   have j6 : Run Ffb_E 0 Q (.code Ffb_kc :: .blk 1 :: .code Ffb_kb :: .lp Ffb_ka :: .blk 0 :: K) (sT 46 [(0,str (s_1)),(20,I ((len s_1))),(21,I (x4)),(40,B (u6))] [] 1):=by
     refine sq h (fun h=>?_) (fun h=>?_)
     · refine cq 4 [2] [B (false)] 17 ?_
       exact s_ret rfl (hr _ (Option.some.inj h).symm _ ⟨_,fin (vs:=[B (false)]) rfl (absE (absorb_plain rfl) (absEN)) rfl (ou_f (ou_n)),kl_n⟩)
     · refine aq 1 ?_
       refine cq 5 [21] [I ((w64 (x4 + 1)))] 33 ?_
       refine s_lp ?_
       exact rf [0,20,21] [] (ih _ _ h hr hn :)
   replace h:=hu6
   clear hu6
   refine sp 29 h rfl (fun h=>?_) (fun h=>?_)
   · refine cq 7 [33,36] [B (true),B ((decide ((c5.toNat : Int) < 48)))] 273 ?_
     obtain ⟨u7,hu7,h⟩:=lJ h
     have j7 : Run Ffb_E 0 Q (.code Ffb_kc :: .blk 1 :: .code Ffb_kb :: .lp Ffb_ka :: .blk 0 :: K) (sT 46 [(0,str (s_1)),(20,I ((len s_1))),(21,I (x4)),(40,B (u7))] [] 1):=by
       subst h
       exact rf [0,20,21,40] [] (j6 :)
     replace h:=hu7
     clear hu7
     refine sp 36 h rfl (fun h=>?_) (fun h=>?_)
     · refine cq 5 [40] [B (true)] 337 ?_
       subst h
       exact rf [0,20,21,40] [] (j7 :)
     · refine cq 5 [40] [B ((decide ((c5.toNat : Int) > 57)))] 337 ?_
       subst h
       exact rf [0,20,21,40] [] (j7 :)
   · refine cq 4 [33] [B ((decide ((c5.toNat : Int) > 122)))] 225 ?_
     obtain ⟨u8,hu8,h⟩:=lJ h
     have j8 : Run Ffb_E 0 Q (.code Ffb_kc :: .blk 1 :: .code Ffb_kb :: .lp Ffb_ka :: .blk 0 :: K) (sT 46 [(0,str (s_1)),(20,I ((len s_1))),(21,I (x4)),(40,B (u8))] [] 1):=by
       subst h
       exact rf [0,20,21,40] [] (j6 :)
     replace h:=hu8
     clear hu8
     refine sp 33 h rfl (fun h=>?_) (fun h=>?_)
     · refine cq 3 [36] [B ((decide ((c5.toNat : Int) < 48)))] 273 ?_
       obtain ⟨u9,hu9,h⟩:=lJ h
       have j9 : Run Ffb_E 0 Q (.code Ffb_kc :: .blk 1 :: .code Ffb_kb :: .lp Ffb_ka :: .blk 0 :: K) (sT 46 [(0,str (s_1)),(20,I ((len s_1))),(21,I (x4)),(40,B (u9))] [] 1):=by
         subst h
         exact rf [0,20,21,40] [] (j8 :)
       replace h:=hu9
       clear hu9
       refine sp 36 h rfl (fun h=>?_) (fun h=>?_)
       · refine cq 5 [40] [B (true)] 337 ?_
         subst h
         exact rf [0,20,21,40] [] (j9 :)
       · refine cq 5 [40] [B ((decide ((c5.toNat : Int) > 57)))] 337 ?_
         subst h
         exact rf [0,20,21,40] [] (j9 :)
     · refine cq 8 [40] [B (false)] 337 ?_
       subst h
       exact rf [0,20,21,40] [] (j8 :)
 · refine aq 1 ?_
   exact rf [0] [] (hn _ (Option.some.inj h).symm :) (hk:=hK)
theorem Ffb_run (s_1 : Str) (r : Bool) (h : Ffb s_1=some r) : RunF Ffb_E Tryd.f89 [false] 0 (Ffb_A s_1) (Ffb_R r):=by
 show Run _ _ (Ffb_Q s_1 r) [.code Ffb_c] _
 refine rin (n:=46) [(0,str (s_1))] [] 1 (by kernel_rfl) (by kernel_rfl) (by kernel_rfl) rfl ?_
 unfold Ffb at h
 refine cq 9 [6] [I ((len s_1))] 49 ?_
 obtain ⟨r2,hr2,h⟩:=bS h
 refine oq 65 (B (r2)) rfl (e_callV rfl rfl (call_P rfl rfl rfl (avS (shP rfl) (avS (shP rfl) (avS (shP rfl) (avN)))) (Ffm_F hr2) (.inr rfl) (bl_n) rfl rfl rfl)) ?_
 refine cq 2 [9] [B ((!r2))] 97 ?_
 obtain ⟨y3,hy3,hy31,hy32⟩:=bJ h
 have j3 : ∀ u3,y3=.inr u3→Run Ffb_E 0 (Ffb_Q s_1 r) (.code (cR (cL (cR Ffb_c))) :: .code (cR (cR Ffb_c)) :: []) (sT 46 [(0,str (s_1)),(18,B (u3))] [] 1):=by
   intro u3 hu
   replace h:=hy32 u3 hu
   refine sq h (fun h=>?_) (fun h=>?_)
   · refine cq 4 [2] [B (false)] 17 ?_
     obtain rfl:=Option.some.inj h
     exact s_ret rfl ⟨_,fin (vs:=[B (false)]) rfl (absE (absorb_plain rfl) (absEN)) rfl (ou_f (ou_n)),kl_n⟩
   · refine aq 1 ?_
     refine cq 8 [20,21] [I ((len s_1)),I (0)] 49 ?_
     obtain ⟨y10,hy10,hy101,hy102⟩:=bJ h
     refine s_loop rfl ?_
     refine rf [0,20,21] [] (Ffb_la_run s_1 rfl 0 _ hy10 (fun r' e st hq=>by rw [hy101 r' e] at hq; exact hq) fun u10 hu=>?_)
     replace h:=hy102 u10 hu
     refine aq 2 ?_
     obtain ⟨r11,hr11,h⟩:=bS h
     refine oq 17 (.hs 1 0 [] 1 0 ((r11).map str).length) rfl (e_callV rfl rfl (call_P rfl rfl rfl (avS (shP rfl) (avS (shP rfl) (avN))) (Ffbo_F hr11) (.inr rfl) (bl_n) rfl rfl rfl)) ?_
     refine cq 1 [43] [str (s_1)] 33 ?_
     obtain ⟨r12,hr12,h⟩:=bS h
     refine oq 49 (B (r12)) rfl (e_callV rfl rfl (call_P rfl rfl rfl (avS (sh1 rfl rfl (sh_hsM (f:=str) (g:=str) (xs:=r11) rfl rfl (imms_of str_imm))) (avS (shP rfl) (avN))) (Ffu_F hr12) (.inl (rfl)) (bl_n) rfl rfl rfl)) ?_
     refine cq 3 [2] [B ((!r12))] 81 ?_
     obtain rfl:=Option.some.inj h
     exact s_ret rfl ⟨_,fin (vs:=[B ((!r12))]) rfl (absE (absorb_plain rfl) (absEN)) rfl (ou_f (ou_n)),kl_n⟩
 have r3 : ∀ r',y3=.inl r'→∀ st,Ffb_Q s_1 r' st→(Ffb_Q s_1 r) st:=fun r' e st hq=>by rw [hy31 r' e] at hq; exact hq
 replace h:=hy3
 refine sp 9 h rfl (fun h=>?_) (fun h=>?_)
 · refine cq 10 [18] [B (true)] 241 ?_
   exact rf [0,18] [] (j3 _ (Option.some.inj h).symm :)
 · refine cq 1 [10] [str (s_1)] 113 ?_
   obtain ⟨c13,hc13,h⟩:=bS h
   refine oy 129 (.int .u8 ((c13.toNat : Int))) rfl (e_index rfl rfl (i_str rfl rfl hc13)) ?_
   refine cq 3 [14] [B ((decide ((c13.toNat : Int) < 97)))] 177 ?_
   obtain ⟨y14,hy14,hy141,hy142⟩:=bL h
   have j14 : ∀ u14,y14=.inr u14→Run Ffb_E 0 (Ffb_Q s_1 r) (.code (cR (cL (cR Ffb_c))) :: .code (cR (cR Ffb_c)) :: []) (sT 46 [(0,str (s_1)),(18,B (u14))] [] 1):=by
     intro u14 hu
     replace h:=hy142 u14 hu
     exact rf [0,18] [] (j3 _ (Option.some.inj h).symm :)
   have r14 : ∀ r',y14=.inl r'→∀ st,Ffb_Q s_1 r' st→(Ffb_Q s_1 r) st:=fun r' e st hq=>r3 r' (hy141 r' e) st hq
   replace h:=hy14
   refine sp 14 h rfl (fun h=>?_) (fun h=>?_)
   · refine cq 5 [18] [B (true)] 241 ?_
     exact rf [0,18] [] (j14 _ (Option.some.inj h).symm :)
   · refine cq 1 [15] [str (s_1)] 193 ?_
     obtain ⟨c15,hc15,h⟩:=bS h
     refine oy 209 (.int .u8 ((c15.toNat : Int))) rfl (e_index rfl rfl (i_str rfl rfl hc15)) ?_
     refine cq 3 [18] [B ((decide ((c15.toNat : Int) > 122)))] 241 ?_
     exact rf [0,18] [] (j14 _ (Option.some.inj h).symm :)
theorem Ffb_good {G : Go.Ln.Ground} [TabG Tryd.prog G] : Good Tryd.prog G 89 Ffb_ent:=good_T (fnOf_good (gl_c Ffm_good (gl_c Ffbo_good (gl_c Ffu_good (gl_n))))) agree_mk (Checked.mixed Tryd.checked) Tryd.func89 (n:=1) (m:=0) ⟨rfl,rfl,by decide⟩ (fun _=>⟨rfl,rfl⟩) (fun a r h=>Ffb_run a r h)
def Ffd_A : ((List Str))→List V:=oA (slE str)
def Ffd_R (r : Bool) : V × List V:=(B (r),[])
noncomputable def Ffd_ent : Ent:=entT [false] Ffd_A Ffd_R fun x=>Ffd x
theorem Ffd_F {list_1 : List Str} {r} (h : Ffd list_1=some r) : (Ffd_ent).F (Ffd_A list_1)=some (Ffd_R r):=entT_F (oA_inj (isl_inj str_inj)) h
noncomputable def Ffd_c : Code:=bodyOf Tryd.f65
noncomputable def Ffd_E : Env:=mkE Tryd.prog [(89,Ffb_ent),(90,Ffu_ent),(55,Ffm_ent)]
def Ffd_Q (x : (List Str)) (r : Bool) : St→Prop:=QF Ffd_E Tryd.f65 [false] (Ffd_A x) (Ffd_R r)
theorem Ffd_la_run (list_1 : List Str)  {Q : St→Prop} {K : List It} (hK : noD K=true) : ∀ (x2 : Int) (y : Bool ⊕ Unit),Ffd_la list_1 x2=some y→(∀ r',y=.inl r'→∀ st,Ffd_Q list_1 r' st→Q st)→(∀ u : Unit,y=.inr u→Run Ffd_E 0 Q K (sT 26 [(0,.isl false ((list_1).map str))] [] 1))→Run Ffd_E 0 Q (.code (cL (cL (cR (cL (cR Ffd_c))))) :: .lp (cL (cL (cR (cL (cR Ffd_c))))) :: .blk 0 :: K) (sT 26 [(0,.isl false ((list_1).map str)),(5,.isl false ((list_1).map str)),(6,I ((len list_1))),(7,I (x2))] [] 1):=by
 refine fix_indP (Ffd_la_fin list_1) ?_
 intro self ih x2 y h hr hn
 unfold Ffd_la_F at h
 refine cq 5 [8] [B ((decide (x2 < (len list_1))))] 17 ?_
 refine sq h (fun h=>?_) (fun h=>?_)
 · refine aq 1 ?_
   refine cq 5 [9] [I (x2)] 33 ?_
   obtain ⟨e3,he3,h⟩:=bS h
   refine oq 49 (.iptr (str (e3)) 0) rfl (e_indexAddr rfl rfl rfl (ix_islE rfl rfl rfl rfl he3)) ?_
   refine cq 7 [3,4,12] [I (x2),str (e3),str (e3)] 113 ?_
   obtain ⟨r4,hr4,h⟩:=bS h
   refine oq 129 (B (r4)) rfl (e_callV rfl rfl (call_P rfl rfl rfl (avS (shP rfl) (avN)) (Ffb_F hr4) (.inr rfl) (bl_n) rfl rfl rfl)) ?_
   refine cq 2 [15] [B ((!r4))] 161 ?_
   obtain ⟨y5,hy5,hy51,hy52⟩:=bL h
   have j5 : ∀ u5,y5=.inr u5→Run Ffd_E 0 Q (.code (cR (cR (cL (cL (cR (cR (cL (cL (cR (cL (cR Ffd_c))))))))))) :: .blk 1 :: .code (cR (cR (cR (cL (cL (cR (cL (cR Ffd_c)))))))) :: .lp (cL (cL (cR (cL (cR Ffd_c))))) :: .blk 0 :: K) (sT 26 [(0,.isl false ((list_1).map str)),(5,.isl false ((list_1).map str)),(6,I ((len list_1))),(7,I (x2)),(21,B (u5))] [] 1):=by
     intro u5 hu
     replace h:=hy52 u5 hu
     refine sq h (fun h=>?_) (fun h=>?_)
     · refine cq 4 [2] [B (false)] 17 ?_
       exact s_ret rfl (hr _ (Option.some.inj h).symm _ ⟨_,fin (vs:=[B (false)]) rfl (absE (absorb_plain rfl) (absEN)) rfl (ou_f (ou_n)),kl_n⟩)
     · refine aq 1 ?_
       refine cq 5 [7] [I ((w64 (x2 + 1)))] 33 ?_
       refine s_lp ?_
       exact rf [0,5,6,7] [] (ih _ _ h hr hn :)
   have r5 : ∀ r',y5=.inl r'→∀ st,Ffd_Q list_1 r' st→Q st:=fun r' e st hq=>hr r' (hy51 r' e) st hq
   replace h:=hy5
   refine sp 15 h rfl (fun h=>?_) (fun h=>?_)
   · refine cq 7 [21] [B (true)] 257 ?_
     exact rf [0,5,6,7,21] [] (j5 _ (Option.some.inj h).symm :)
   · refine cq 2 [16,17] [.isl false ((list_1).map str),I (x2)] 193 ?_
     obtain ⟨s6,hs6,h⟩:=bS h
     refine oy 209 (.isl false ((s6).map str)) rfl (e_slice rfl rfl rfl rfl (sl_isl rfl rfl (fun y=>(str_cells y).1) rfl rfl hs6)) ?_
     refine cq 1 [19] [str (e3)] 225 ?_
     obtain ⟨r7,hr7,h⟩:=bS h
     refine oy 241 (B (r7)) rfl (e_callV rfl rfl (call_P rfl rfl rfl (avS (shP rfl) (avS (shP rfl) (avN))) (Ffu_F hr7) (.inr rfl) (bl_n) rfl rfl rfl)) ?_
     refine cq 2 [21] [B (r7)] 257 ?_
     exact rf [0,5,6,7,21] [] (j5 _ (Option.some.inj h).symm :)
 · refine aq 1 ?_
   exact rf [0] [] (hn _ (Option.some.inj h).symm :) (hk:=hK)
theorem Ffd_run (list_1 : List Str) (r : Bool) (h : Ffd list_1=some r) : RunF Ffd_E Tryd.f65 [false] 0 (Ffd_A list_1) (Ffd_R r):=by
 show Run _ _ (Ffd_Q list_1 r) [.code Ffd_c] _
 refine rin (n:=26) [(0,.isl false ((list_1).map str))] [] 1 (by kernel_rfl) (by kernel_rfl) (by kernel_rfl) rfl ?_
 unfold Ffd at h
 refine cq 8 [5] [.isl false ((list_1).map str)] 33 ?_
 refine oq 49 (I ((len list_1))) rfl (e_len rfl rfl rfl (l_isl rfl)) ?_
 refine cq 3 [7] [I (0)] 65 ?_
 obtain ⟨y8,hy8,hy81,hy82⟩:=bJ h
 refine s_loop rfl ?_
 refine rf [0,5,6,7] [] (Ffd_la_run list_1 rfl 0 _ hy8 (fun r' e st hq=>by rw [hy81 r' e] at hq; exact hq) fun u8 hu=>?_)
 replace h:=hy82 u8 hu
 refine cq 3 [23] [.isl false ((list_1).map str)] 17 ?_
 refine oq 33 (I ((len list_1))) rfl (e_len rfl rfl rfl (l_isl rfl)) ?_
 obtain ⟨r9,hr9,h⟩:=bS h
 refine oq 49 (B (r9)) rfl (e_callV rfl rfl (call_P rfl rfl rfl (avS (shP rfl) (avS (shP rfl) (avS (shP rfl) (avN)))) (Ffm_F hr9) (.inr rfl) (bl_n) rfl rfl rfl)) ?_
 refine cq 2 [2] [B (r9)] 65 ?_
 obtain rfl:=Option.some.inj h
 exact s_ret rfl ⟨_,fin (vs:=[B (r9)]) rfl (absE (absorb_plain rfl) (absEN)) rfl (ou_f (ou_n)),kl_n⟩
theorem Ffd_good {G : Go.Ln.Ground} [TabG Tryd.prog G] : Good Tryd.prog G 65 Ffd_ent:=good_T (fnOf_good (gl_c Ffb_good (gl_c Ffu_good (gl_c Ffm_good (gl_n))))) agree_mk (Checked.mixed Tryd.checked) Tryd.func65 (n:=1) (m:=0) ⟨rfl,rfl,by decide⟩ (fun _=>⟨rfl,rfl⟩) (fun a r h=>Ffd_run a r h)
def Ffj_A : Int→List V:=oA I
def Ffj_R (r : Bool) : V × List V:=(B (r),[])
noncomputable def Ffj_ent : Ent:=entT [false] Ffj_A Ffj_R fun x=>Ffj x
theorem Ffj_F {day_1 : Int} {r} (h : Ffj day_1=some r) : (Ffj_ent).F (Ffj_A day_1)=some (Ffj_R r):=entT_F (oA_inj I_inj) h
noncomputable def Ffj_c : Code:=bodyOf Tryd.f91
noncomputable def Ffj_E : Env:=mkE Tryd.prog [(55,Ffm_ent)]
def Ffj_Q (x : Int) (r : Bool) : St→Prop:=QF Ffj_E Tryd.f91 [false] (Ffj_A x) (Ffj_R r)
theorem Ffj_run (day_1 : Int) (r : Bool) (h : Ffj day_1=some r) : RunF Ffj_E Tryd.f91 [false] 0 (Ffj_A day_1) (Ffj_R r):=by
 show Run _ _ (Ffj_Q day_1 r) [.code Ffj_c] _
 refine rin (n:=5) [(0,I (day_1))] [] 1 (by kernel_rfl) (by kernel_rfl) (by kernel_rfl) rfl ?_
 unfold Ffj at h
 refine cq 7 [3] [I (day_1)] 33 ?_
 obtain ⟨r2,hr2,h⟩:=bS h
 refine oq 49 (B (r2)) rfl (e_callV rfl rfl (call_P rfl rfl rfl (avS (shP rfl) (avS (shP rfl) (avS (shP rfl) (avN)))) (Ffm_F hr2) (.inr rfl) (bl_n) rfl rfl rfl)) ?_
 refine cq 2 [2] [B (r2)] 65 ?_
 obtain rfl:=Option.some.inj h
 exact s_ret rfl ⟨_,fin (vs:=[B (r2)]) rfl (absE (absorb_plain rfl) (absEN)) rfl (ou_f (ou_n)),kl_n⟩
theorem Ffj_good {G : Go.Ln.Ground} [TabG Tryd.prog G] : Good Tryd.prog G 91 Ffj_ent:=good_T (fnOf_good (gl_c Ffm_good (gl_n))) agree_mk (Checked.mixed Tryd.checked) Tryd.func91 (n:=1) (m:=0) ⟨rfl,rfl,by decide⟩ (fun _=>⟨rfl,rfl⟩) (fun a r h=>Ffj_run a r h)
def Ffk_A : (Event × Int)→List V:=cA enc_Event (oA I)
def Ffk_R (r : Bool) : V × List V:=(B (r),[])
noncomputable def Ffk_ent : Ent:=entT [false,false] Ffk_A Ffk_R fun x=>Ffk x.1 x.2
theorem Ffk_F {e_1 : Event} {parties_2 : Int} {r} (h : Ffk e_1 parties_2=some r) : (Ffk_ent).F (Ffk_A (e_1,parties_2))=some (Ffk_R r):=entT_F (cA_inj enc_Event_inj (oA_inj I_inj)) h
noncomputable def Ffk_c : Code:=bodyOf Tryd.f66
noncomputable def Ffk_E : Env:=mkE Tryd.prog [(91,Ffj_ent),(55,Ffm_ent),(89,Ffb_ent)]
def Ffk_Q (x : Event × Int) (r : Bool) : St→Prop:=QF Ffk_E Tryd.f66 [false,false] (Ffk_A x) (Ffk_R r)
theorem Ffk_run (e_1 : Event) (parties_2 : Int) (r : Bool) (h : Ffk e_1 parties_2=some r) : RunF Ffk_E Tryd.f66 [false,false] 0 (Ffk_A (e_1,parties_2)) (Ffk_R r):=by
 show Run _ _ (Ffk_Q (e_1,parties_2) r) [.code Ffk_c] _
 refine rin (n:=25) [(0,enc_Event e_1),(1,I (parties_2))] [] 1 (by kernel_rfl) (by kernel_rfl) (by kernel_rfl) rfl ?_
 unfold Ffk at h
 refine ck 9 [2,6] [] [1] [] [.hp 1 0 [] 4 0 0,I (e_1.Day)] [some ⟨0,4,[enc_Event e_1]⟩] 65 (by kernel_rfl) ?_
 obtain ⟨r3,hr3,h⟩:=bS h
 refine oq 81 (B (r3)) rfl (e_callV rfl rfl (call_P rfl rfl rfl (avS (shP rfl) (avN)) (Ffj_F hr3) (.inr rfl) (bl_n) rfl rfl rfl)) ?_
 refine cq 1 [8] [B (r3)] 97 ?_
 obtain ⟨y4,hy4,hy41,hy42⟩:=bJ h
 have j4 : ∀ u4,y4=.inr u4→Run Ffk_E 0 (Ffk_Q (e_1,parties_2) r) (.code (cR (cR Ffk_c)) :: []) (sT 25 [(4,B (u4))] [] 1):=by
   intro u4 hu
   replace h:=hy42 u4 hu
   obtain rfl:=Option.some.inj h
   exact s_ret rfl ⟨_,fin (vs:=[B (u4)]) rfl (absE (absorb_plain rfl) (absEN)) rfl (ou_f (ou_f (ou_n))),kl_n⟩
 have r4 : ∀ r',y4=.inl r'→∀ st,Ffk_Q (e_1,parties_2) r' st→(Ffk_Q (e_1,parties_2) r) st:=fun r' e st hq=>by rw [hy41 r' e] at hq; exact hq
 replace h:=hy4
 refine sp 8 h rfl (fun h=>?_) (fun h=>?_)
 · refine cq 4 [10,12] [I (e_1.Party),I ((w64 (parties_2 - 1)))] 161 ?_
   obtain ⟨r5,hr5,h⟩:=bS h
   refine oy 177 (B (r5)) rfl (e_callV rfl rfl (call_P rfl rfl rfl (avS (shP rfl) (avS (shP rfl) (avS (shP rfl) (avN)))) (Ffm_F hr5) (.inr rfl) (bl_n) rfl rfl rfl)) ?_
   refine cq 2 [15] [B (r5)] 209 ?_
   obtain ⟨y6,hy6,hy61,hy62⟩:=bL h
   have j6 : ∀ u6,y6=.inr u6→Run Ffk_E 0 (Ffk_Q (e_1,parties_2) r) (.code (cR (cR Ffk_c)) :: []) (sT 25 [(4,B (u6))] [] 1):=by
     intro u6 hu
     replace h:=hy62 u6 hu
     exact rf [4] [] (j4 _ (Option.some.inj h).symm :)
   have r6 : ∀ r',y6=.inl r'→∀ st,Ffk_Q (e_1,parties_2) r' st→(Ffk_Q (e_1,parties_2) r) st:=fun r' e st hq=>r4 r' (hy61 r' e) st hq
   replace h:=hy6
   refine sp 15 h rfl (fun h=>?_) (fun h=>?_)
   · refine cq 2 [17] [str (e_1.Action)] 241 ?_
     obtain ⟨r7,hr7,h⟩:=bS h
     refine oy 257 (B (r7)) rfl (e_callV rfl rfl (call_P rfl rfl rfl (avS (shP rfl) (avN)) (Ffb_F hr7) (.inr rfl) (bl_n) rfl rfl rfl)) ?_
     refine cq 2 [20] [B (r7)] 289 ?_
     obtain ⟨y8,hy8,hy81,hy82⟩:=bL h
     have j8 : ∀ u8,y8=.inr u8→Run Ffk_E 0 (Ffk_Q (e_1,parties_2) r) (.code (cR (cR Ffk_c)) :: []) (sT 25 [(4,B (u8))] [] 1):=by
       intro u8 hu
       replace h:=hy82 u8 hu
       exact rf [4] [] (j6 _ (Option.some.inj h).symm :)
     have r8 : ∀ r',y8=.inl r'→∀ st,Ffk_Q (e_1,parties_2) r' st→(Ffk_Q (e_1,parties_2) r) st:=fun r' e st hq=>r6 r' (hy81 r' e) st hq
     replace h:=hy8
     refine sp 20 h rfl (fun h=>?_) (fun h=>?_)
     · refine cq 2 [22] [I (e_1.Amount)] 321 ?_
       obtain ⟨r9,hr9,h⟩:=bS h
       refine oy 337 (B (r9)) rfl (e_callV rfl rfl (call_P rfl rfl rfl (avS (shP rfl) (avS (shP rfl) (avS (shP rfl) (avN)))) (Ffm_F hr9) (.inr rfl) (bl_n) rfl rfl rfl)) ?_
       refine cq 3 [4] [B (r9)] 369 ?_
       exact rf [4] [] (j8 _ (Option.some.inj h).symm :)
     · refine cq 6 [4] [B (false)] 369 ?_
       exact rf [4] [] (j8 _ (Option.some.inj h).symm :)
   · refine cq 11 [4] [B (false)] 369 ?_
     exact rf [4] [] (j6 _ (Option.some.inj h).symm :)
 · refine cq 18 [4] [B (false)] 369 ?_
   exact rf [4] [] (j4 _ (Option.some.inj h).symm :)
theorem Ffk_good {G : Go.Ln.Ground} [TabG Tryd.prog G] : Good Tryd.prog G 66 Ffk_ent:=good_T (fnOf_good (gl_c Ffj_good (gl_c Ffm_good (gl_c Ffb_good (gl_n))))) agree_mk (Checked.mixed Tryd.checked) Tryd.func66 (n:=2) (m:=0) ⟨rfl,rfl,by decide⟩ (fun _=>⟨rfl,rfl⟩) (fun a r h=>Ffk_run a.1 a.2 r h)
def Ffg_A : (Int × Int)→List V:=cA I (oA I)
def Ffg_R (r : Int) : V × List V:=(I (r),[])
noncomputable def Ffg_ent : Ent:=entT [false,false] Ffg_A Ffg_R fun x=>Ffg x.1 x.2
theorem Ffg_F {year_1 : Int} {month_2 : Int} {r} (h : Ffg year_1 month_2=some r) : (Ffg_ent).F (Ffg_A (year_1,month_2))=some (Ffg_R r):=entT_F (cA_inj I_inj (oA_inj I_inj)) h
noncomputable def Ffg_c : Code:=bodyOf Tryd.f132
noncomputable abbrev Ffg_ka : Code:=cR (cR (cR (cL (cR (cL (cR Ffg_c))))))
noncomputable def Ffg_E : Env:=mkE Tryd.prog []
def Ffg_Q (x : Int × Int) (r : Int) : St→Prop:=QF Ffg_E Tryd.f132 [false,false] (Ffg_A x) (Ffg_R r)
theorem Ffg_run (year_1 : Int) (month_2 : Int) (r : Int) (h : Ffg year_1 month_2=some r) : RunF Ffg_E Tryd.f132 [false,false] 0 (Ffg_A (year_1,month_2)) (Ffg_R r):=by
 show Run _ _ (Ffg_Q (year_1,month_2) r) [.code Ffg_c] _
 refine rin (n:=16) [(0,I (year_1)),(1,I (month_2))] [] 1 (by kernel_rfl) (by kernel_rfl) (by kernel_rfl) rfl ?_
 unfold Ffg at h
 refine cq 15 [5,6] [I (month_2),B ((month_2 == 2))] 65 ?_
 refine sq h (fun h=>?_) (fun h=>?_)
 · refine cq 7 [10] [B (((year_1.tmod 4) == 0))] 113 ?_
   refine sq h (fun h=>?_) (fun h=>?_)
   · refine cq 4 [4] [I (29)] 129 ?_
     obtain rfl:=Option.some.inj h
     exact s_ret rfl ⟨_,fin (vs:=[I (29)]) rfl (absE (absorb_plain rfl) (absEN)) rfl (ou_f (ou_f (ou_n))),kl_n⟩
   · refine aq 1 ?_
     refine cq 4 [4] [I (28)] 129 ?_
     obtain rfl:=Option.some.inj h
     exact s_ret rfl ⟨_,fin (vs:=[I (28)]) rfl (absE (absorb_plain rfl) (absEN)) rfl (ou_f (ou_f (ou_n))),kl_n⟩
 · refine cq 6 [11] [B ((month_2 == 4))] 97 ?_
   obtain ⟨u3,hu3,h⟩:=lJ h
   have j3 : Run Ffg_E 0 (Ffg_Q (year_1,month_2) r) (.code Ffg_ka :: .blk 0 :: .code (cR (cR Ffg_c)) :: []) (sT 16 [(11,B (u3))] [] 1):=by
     refine sq h (fun h=>?_) (fun h=>?_)
     · refine cq 4 [4] [I (30)] 17 ?_
       obtain rfl:=Option.some.inj h
       exact s_ret rfl ⟨_,fin (vs:=[I (30)]) rfl (absE (absorb_plain rfl) (absEN)) rfl (ou_f (ou_f (ou_n))),kl_n⟩
     · refine aq 1 ?_
       refine cq 5 [4] [I (31)] 17 ?_
       obtain rfl:=Option.some.inj h
       exact s_ret rfl ⟨_,fin (vs:=[I (31)]) rfl (absE (absorb_plain rfl) (absEN)) rfl (ou_f (ou_f (ou_n))),kl_n⟩
   replace h:=hu3
   clear hu3
   refine scp h rfl rfl (fun h=>?_) (fun h=>?_)
   · refine aq 1 ?_
     subst h
     exact rf [11] [] (j3 :)
   · refine cq 5 [11] [B ((month_2 == 6))] 129 ?_
     obtain ⟨u4,hu4,h⟩:=lJ h
     have j4 : Run Ffg_E 0 (Ffg_Q (year_1,month_2) r) (.code Ffg_ka :: .blk 0 :: .code (cR (cR Ffg_c)) :: []) (sT 16 [(11,B (u4))] [] 1):=by
       subst h
       exact rf [11] [] (j3 :)
     replace h:=hu4
     clear hu4
     refine scp h rfl rfl (fun h=>?_) (fun h=>?_)
     · refine aq 1 ?_
       subst h
       exact rf [11] [] (j4 :)
     · refine cq 5 [11] [B ((month_2 == 9))] 161 ?_
       obtain ⟨u5,hu5,h⟩:=lJ h
       have j5 : Run Ffg_E 0 (Ffg_Q (year_1,month_2) r) (.code Ffg_ka :: .blk 0 :: .code (cR (cR Ffg_c)) :: []) (sT 16 [(11,B (u5))] [] 1):=by
         subst h
         exact rf [11] [] (j4 :)
       replace h:=hu5
       clear hu5
       refine scp h rfl rfl (fun h=>?_) (fun h=>?_)
       · refine aq 1 ?_
         subst h
         exact rf [11] [] (j5 :)
       · refine cq 4 [11] [B ((month_2 == 11))] 193 ?_
         subst h
         exact rf [11] [] (j5 :)
theorem Ffg_good {G : Go.Ln.Ground} [TabG Tryd.prog G] : Good Tryd.prog G 132 Ffg_ent:=good_T (fnOf_good (gl_n)) agree_mk (Checked.mixed Tryd.checked) Tryd.func132 (n:=2) (m:=0) ⟨rfl,rfl,by decide⟩ (fun _=>⟨rfl,rfl⟩) (fun a r h=>Ffg_run a.1 a.2 r h)
def Ffh_A : Int→List V:=oA I
def Ffh_R (r : Int) : V × List V:=(I (r),[])
noncomputable def Ffh_ent : Ent:=entT [false] Ffh_A Ffh_R fun x=>Ffh x
theorem Ffh_F {year_1 : Int} {r} (h : Ffh year_1=some r) : (Ffh_ent).F (Ffh_A year_1)=some (Ffh_R r):=entT_F (oA_inj I_inj) h
noncomputable def Ffh_c : Code:=bodyOf Tryd.f131
noncomputable def Ffh_E : Env:=mkE Tryd.prog [(132,Ffg_ent)]
def Ffh_Q (x : Int) (r : Int) : St→Prop:=QF Ffh_E Tryd.f131 [false] (Ffh_A x) (Ffh_R r)
theorem Ffh_run (year_1 : Int) (r : Int) (h : Ffh year_1=some r) : RunF Ffh_E Tryd.f131 [false] 0 (Ffh_A year_1) (Ffh_R r):=by
 show Run _ _ (Ffh_Q year_1 r) [.code Ffh_c] _
 refine rin (n:=6) [(0,I (year_1))] [] 1 (by kernel_rfl) (by kernel_rfl) (by kernel_rfl) rfl ?_
 unfold Ffh at h
 refine cq 7 [3] [I (year_1)] 33 ?_
 obtain ⟨r2,hr2,h⟩:=bS h
 refine oq 49 (I (r2)) rfl (e_callV rfl rfl (call_P rfl rfl rfl (avS (shP rfl) (avS (shP rfl) (avN))) (Ffg_F hr2) (.inr rfl) (bl_n) rfl rfl rfl)) ?_
 refine cq 3 [2] [I ((w64 (337 + r2)))] 81 ?_
 obtain rfl:=Option.some.inj h
 exact s_ret rfl ⟨_,fin (vs:=[I ((w64 (337 + r2)))]) rfl (absE (absorb_plain rfl) (absEN)) rfl (ou_f (ou_n)),kl_n⟩
theorem Ffh_good {G : Go.Ln.Ground} [TabG Tryd.prog G] : Good Tryd.prog G 131 Ffh_ent:=good_T (fnOf_good (gl_c Ffg_good (gl_n))) agree_mk (Checked.mixed Tryd.checked) Tryd.func131 (n:=1) (m:=0) ⟨rfl,rfl,by decide⟩ (fun _=>⟨rfl,rfl⟩) (fun a r h=>Ffh_run a r h)
def Ffe_A : Int→List V:=oA I
def Ffe_R (r : Date) : V × List V:=(enc_Date r,[])
noncomputable def Ffe_ent : Ent:=entT [false] Ffe_A Ffe_R fun x=>Ffe x
theorem Ffe_F {day_1 : Int} {r} (h : Ffe day_1=some r) : (Ffe_ent).F (Ffe_A day_1)=some (Ffe_R r):=entT_F (oA_inj I_inj) h
noncomputable def Ffe_c : Code:=bodyOf Tryd.f111
noncomputable def Ffe_E : Env:=mkE Tryd.prog [(131,Ffh_ent),(132,Ffg_ent)]
def Ffe_Q (x : Int) (r : Date) : St→Prop:=QF Ffe_E Tryd.f111 [false] (Ffe_A x) (Ffe_R r)
theorem Ffe_la_run (day_1 : Int)  {Q : St→Prop} {K : List It} (hK : noD K=true) : ∀ (x2 : Int × Int) (y : Date ⊕ (Int × Int)),Ffe_la day_1 x2=some y→(∀ r',y=.inl r'→∀ st,Ffe_Q day_1 r' st→Q st)→(∀ u : Int × Int,y=.inr u→Run Ffe_E 0 Q K (sT 41 [(0,I (u.1)),(2,.hp 1 0 [] 3 0 0),(3,.hp 2 0 [] 3 0 0)] [⟨0,3,[.agg [I (0),I (0),I (0)]]⟩,⟨0,3,[.agg [I (u.2),I (1),I (0)]]⟩] 3))→Run Ffe_E 0 Q (.code (cL (cL (cL (cR (cR Ffe_c))))) :: .lp (cL (cL (cL (cR (cR Ffe_c))))) :: .blk 0 :: K) (sT 41 [(0,I (x2.1)),(2,.hp 1 0 [] 3 0 0),(3,.hp 2 0 [] 3 0 0)] [⟨0,3,[.agg [I (0),I (0),I (0)]]⟩,⟨0,3,[.agg [I (x2.2),I (1),I (0)]]⟩] 3):=by
 refine fix_indP (Ffe_la_fin day_1) ?_
 intro self ih x2 y h hr hn
 unfold Ffe_la_F at h
 refine cq 6 [5,7] [I (x2.1),I (x2.2)] 51 ?_
 obtain ⟨r3,hr3,h⟩:=bS h
 refine oq 67 (I (r3)) rfl (e_callV rfl rfl (call_P rfl rfl rfl (avS (shP rfl) (avN)) (Ffh_F hr3) (.inr rfl) (bl_n) rfl rfl rfl)) ?_
 refine cq 2 [9] [B ((decide (x2.1 ≥ r3)))] 83 ?_
 refine sq h (fun h=>?_) (fun h=>?_)
 · refine aq 1 ?_
   refine cq 6 [14,16] [I (x2.1),I (x2.2)] 131 ?_
   obtain ⟨r4,hr4,h⟩:=bS h
   refine oq 147 (I (r4)) rfl (e_callV rfl rfl (call_P rfl rfl rfl (avS (shP rfl) (avN)) (Ffh_F hr4) (.inr rfl) (bl_n) rfl rfl rfl)) ?_
   refine ck 11 [0] [] [2] [] [I ((w64 (x2.1 - r4)))] [some ⟨0,3,[.agg [I ((w64 (x2.2 + 1))),I (1),I (0)]]⟩] 259 (by kernel_rfl) ?_
   refine s_lp ?_
   exact rf [0,2,3] [1,2] (ih _ _ h hr hn :)
 · refine aq 1 ?_
   exact rf [0,2,3] [1,2] (hn _ (Option.some.inj h).symm :) (hk:=hK)
theorem Ffe_lb_run (day_1 : Int) (u5 : Int × Int) {Q : St→Prop} {K : List It} (hK : noD K=true) : ∀ (x6 : Int × Int) (y : Date ⊕ (Int × Int)),Ffe_lb day_1 u5 x6=some y→(∀ r',y=.inl r'→∀ st,Ffe_Q day_1 r' st→Q st)→(∀ u : Int × Int,y=.inr u→Run Ffe_E 0 Q K (sT 41 [(0,I (u.1)),(2,.hp 1 0 [] 3 0 0),(3,.hp 2 0 [] 3 0 0)] [⟨0,3,[.agg [I (0),I (0),I (0)]]⟩,⟨0,3,[.agg [I (u5.2),I (u.2),I (0)]]⟩] 3))→Run Ffe_E 0 Q (.code (cL (cL (cL (cR (cR (cR Ffe_c)))))) :: .lp (cL (cL (cL (cR (cR (cR Ffe_c)))))) :: .blk 2 :: K) (sT 41 [(0,I (x6.1)),(2,.hp 1 0 [] 3 0 0),(3,.hp 2 0 [] 3 0 0)] [⟨0,3,[.agg [I (0),I (0),I (0)]]⟩,⟨0,3,[.agg [I (u5.2),I (x6.2),I (0)]]⟩] 3):=by
 refine fix_indP (Ffe_lb_fin day_1 u5) ?_
 intro self ih x6 y h hr hn
 unfold Ffe_lb_F at h
 refine cq 8 [19,21,23] [I (x6.1),I (u5.2),I (x6.2)] 83 ?_
 obtain ⟨r7,hr7,h⟩:=bS h
 refine oq 99 (I (r7)) rfl (e_callV rfl rfl (call_P rfl rfl rfl (avS (shP rfl) (avS (shP rfl) (avN))) (Ffg_F hr7) (.inr rfl) (bl_n) rfl rfl rfl)) ?_
 refine cq 2 [25] [B ((decide (x6.1 ≥ r7)))] 115 ?_
 refine sq h (fun h=>?_) (fun h=>?_)
 · refine aq 1 ?_
   refine cq 8 [30,32,34] [I (x6.1),I (u5.2),I (x6.2)] 195 ?_
   obtain ⟨r8,hr8,h⟩:=bS h
   refine oq 211 (I (r8)) rfl (e_callV rfl rfl (call_P rfl rfl rfl (avS (shP rfl) (avS (shP rfl) (avN))) (Ffg_F hr8) (.inr rfl) (bl_n) rfl rfl rfl)) ?_
   refine ck 11 [0] [] [2] [] [I ((w64 (x6.1 - r8)))] [some ⟨0,3,[.agg [I (u5.2),I ((w64 (x6.2 + 1))),I (0)]]⟩] 323 (by kernel_rfl) ?_
   refine s_lp ?_
   exact rf [0,2,3] [1,2] (ih _ _ h hr hn :)
 · refine aq 1 ?_
   exact rf [0,2,3] [1,2] (hn _ (Option.some.inj h).symm :) (hk:=hK)
theorem Ffe_run (day_1 : Int) (r : Date) (h : Ffe day_1=some r) : RunF Ffe_E Tryd.f111 [false] 0 (Ffe_A day_1) (Ffe_R r):=by
 show Run _ _ (Ffe_Q day_1 r) [.code Ffe_c] _
 refine rin (n:=41) [(0,I (day_1))] [] 1 (by kernel_rfl) (by kernel_rfl) (by kernel_rfl) rfl ?_
 unfold Ffe at h
 refine ck 12 [2,3] [] [1,33] [] [.hp 1 0 [] 3 0 0,.hp 33 0 [] 3 0 0] [some ⟨0,3,[.agg [I (0),I (0),I (0)]]⟩,some ⟨0,3,[.agg [I (2000),I (1),I (0)]]⟩] 65 (by kernel_rfl) ?_
 obtain ⟨y5,hy5,hy51,hy52⟩:=bJ h
 refine s_loop rfl ?_
 refine rf [0,2,3] [1,33] (Ffe_la_run day_1 rfl (day_1,2000) _ hy5 (fun r' e st hq=>by rw [hy51 r' e] at hq; exact hq) fun u5 hu=>?_)
 replace h:=hy52 u5 hu
 refine aq 2 ?_
 obtain ⟨y9,hy9,hy91,hy92⟩:=bJ h
 refine s_loop rfl ?_
 refine rf [0,2,3] [1,2] (Ffe_lb_run day_1 u5 rfl (u5.1,1) _ hy9 (fun r' e st hq=>by rw [hy91 r' e] at hq; exact hq) fun u9 hu=>?_)
 replace h:=hy92 u9 hu
 refine ck 12 [] [] [1,2] [] [] [some ⟨0,3,[.agg [I (u5.2),I (u9.2),I ((w64 (u9.1 + 1)))]]⟩,some ⟨0,3,[.agg [I (u5.2),I (u9.2),I ((w64 (u9.1 + 1)))]]⟩] 99 (by kernel_rfl) ?_
 obtain rfl:=Option.some.inj h
 exact s_ret rfl ⟨_,fin (vs:=[.agg [I (u5.2),I (u9.2),I ((w64 (u9.1 + 1)))]]) (rs_c (rs_cell rfl rfl rfl) (rs_n)) (absE (absorb_plain rfl) (absEN)) rfl (ou_f (ou_n)),kl_n⟩
theorem Ffe_good {G : Go.Ln.Ground} [TabG Tryd.prog G] : Good Tryd.prog G 111 Ffe_ent:=good_T (fnOf_good (gl_c Ffh_good (gl_c Ffg_good (gl_n)))) agree_mk (Checked.mixed Tryd.checked) Tryd.func111 (n:=1) (m:=0) ⟨rfl,rfl,by decide⟩ (fun _=>⟨rfl,rfl⟩) (fun a r h=>Ffe_run a r h)
def xItoa_L_ren : Shelf.Ren:=⟨fun | 171=>113 | 243=>133 | 246=>143 | 283=>149 | 284=>150 | 285=>151 | 286=>152 | 129=>124 | 317=>158 | 318=>159 | 319=>160 | 320=>161 | 337=>164 | 338=>165 | n=>n,fun | 3=>3 | 9=>9 | 2=>2 | 4=>4 | 171=>156 | 0=>0 | 53=>92 | 37=>60 | 5=>5 | 173=>158 | 212=>161 | 51=>134 | 20=>20 | 213=>162 | 46=>112 | 232=>169 | 233=>170 | n=>n,fun | 17=>1 | 18=>4 | 19=>5 | n=>n⟩
theorem xItoa_L : Go.Proofs.LaysM.n171 Tryd.prog xItoa_L_ren where
  mixed:=by kernel_rfl
  f129:=Tryd.func124.trans (congrArg some (by kernel_rfl))
  f171:=Tryd.func113.trans (congrArg some (by kernel_rfl))
  f243:=Tryd.func133.trans (congrArg some (by kernel_rfl))
  f246:=Tryd.func143.trans (congrArg some (by kernel_rfl))
  f283:=Tryd.func149.trans (congrArg some (by kernel_rfl))
  f284:=Tryd.func150.trans (congrArg some (by kernel_rfl))
  f285:=Tryd.func151.trans (congrArg some (by kernel_rfl))
  f286:=Tryd.func152.trans (congrArg some (by kernel_rfl))
  f317:=Tryd.func158.trans (congrArg some (by kernel_rfl))
  f318:=Tryd.func159.trans (congrArg some (by kernel_rfl))
  f319:=Tryd.func160.trans (congrArg some (by kernel_rfl))
  f320:=Tryd.func161.trans (congrArg some (by kernel_rfl))
  f337:=Tryd.func164.trans (congrArg some (by kernel_rfl))
  f338:=Tryd.func165.trans (congrArg some (by kernel_rfl))
  t0:=Tryd.underlying0
  a0:=Tryd.isAgg0
  z0:=Tryd.sizeOf0
  v0:=Tryd.zeroValue0
  t2:=Tryd.underlying2
  a2:=Tryd.isAgg2
  z2:=Tryd.sizeOf2
  v2:=Tryd.zeroValue2
  t3:=Tryd.underlying3
  a3:=Tryd.isAgg3
  z3:=Tryd.sizeOf3
  v3:=Tryd.zeroValue3
  t4:=Tryd.underlying4
  a4:=Tryd.isAgg4
  z4:=Tryd.sizeOf4
  v4:=Tryd.zeroValue4
  t5:=Tryd.underlying5
  a5:=Tryd.isAgg5
  z5:=Tryd.sizeOf5
  v5:=Tryd.zeroValue5
  t9:=Tryd.underlying9
  a9:=Tryd.isAgg9
  z9:=Tryd.sizeOf9
  v9:=Tryd.zeroValue9
  t20:=Tryd.underlying20
  a20:=Tryd.isAgg20
  z20:=Tryd.sizeOf20
  v20:=Tryd.zeroValue20
  t37:=Tryd.underlying60
  a37:=Tryd.isAgg60
  z37:=Tryd.sizeOf60
  v37:=Tryd.zeroValue60
  t46:=Tryd.underlying112
  a46:=Tryd.isAgg112
  z46:=Tryd.sizeOf112
  v46:=Tryd.zeroValue112
  t51:=Tryd.underlying134
  a51:=Tryd.isAgg134
  z51:=Tryd.sizeOf134
  v51:=Tryd.zeroValue134
  t53:=Tryd.underlying92
  a53:=Tryd.isAgg92
  z53:=Tryd.sizeOf92
  v53:=Tryd.zeroValue92
  t171:=Tryd.underlying156
  a171:=Tryd.isAgg156
  z171:=Tryd.sizeOf156
  v171:=Tryd.zeroValue156
  t173:=Tryd.underlying158
  a173:=Tryd.isAgg158
  z173:=Tryd.sizeOf158
  v173:=Tryd.zeroValue158
  t212:=Tryd.underlying161
  a212:=Tryd.isAgg161
  z212:=Tryd.sizeOf161
  v212:=Tryd.zeroValue161
  t213:=Tryd.underlying162
  a213:=Tryd.isAgg162
  z213:=Tryd.sizeOf162
  t232:=Tryd.underlying169
  a232:=Tryd.isAgg169
  z232:=Tryd.sizeOf169
  v232:=Tryd.zeroValue169
  t233:=Tryd.underlying170
  a233:=Tryd.isAgg170
  z233:=Tryd.sizeOf170
  v233:=Tryd.zeroValue170
  g17:=by kernel_rfl
  g18:=by kernel_rfl
  g19:=by kernel_rfl
  i0:=by kernel_rfl
  i2:=by kernel_rfl
  i3:=by kernel_rfl
  i4:=by kernel_rfl
  i5:=by kernel_rfl
  i9:=by kernel_rfl
  i20:=by kernel_rfl
  i37:=by kernel_rfl
  i46:=by kernel_rfl
  i51:=by kernel_rfl
  i53:=by kernel_rfl
  i171:=by kernel_rfl
  i173:=by kernel_rfl
  i212:=by kernel_rfl
  i232:=by kernel_rfl
  i233:=by kernel_rfl
  m17:=by kernel_rfl
  m18:=by kernel_rfl
  m19:=by kernel_rfl
noncomputable def xItoa_ent : Ent:=entT [false] (oA I) (fun r=>(str r,[])) xItoa
theorem xItoa_F {n : Int} {r} (h : xItoa n=some r) : xItoa_ent.F [I n]=some (str r,[]):=entT_F (ea:=oA I) (oA_inj I_inj) h
theorem xItoa_good {G : Go.Ln.Ground} [TabG Tryd.prog G] : Good Tryd.prog G 113 xItoa_ent:=good_itoa xItoa_L
def Ffl_A : (Int × Int)→List V:=cA I (oA I)
def Ffl_R (r : Str) : V × List V:=(str (r),[])
noncomputable def Ffl_ent : Ent:=entT [false,false] Ffl_A Ffl_R fun x=>Ffl x.1 x.2
theorem Ffl_F {n_1 : Int} {digits_2 : Int} {r} (h : Ffl n_1 digits_2=some r) : (Ffl_ent).F (Ffl_A (n_1,digits_2))=some (Ffl_R r):=entT_F (cA_inj I_inj (oA_inj I_inj)) h
noncomputable def Ffl_c : Code:=bodyOf Tryd.f112
noncomputable def Ffl_E : Env:=mkE Tryd.prog [(113,xItoa_ent)]
def Ffl_Q (x : Int × Int) (r : Str) : St→Prop:=QF Ffl_E Tryd.f112 [false,false] (Ffl_A x) (Ffl_R r)
theorem Ffl_la_run (n_1 : Int) (digits_2 : Int)  {Q : St→Prop} {K : List It} (hK : noD K=true) : ∀ (x4 : Str) (y : Str ⊕ Str),Ffl_la n_1 digits_2 x4=some y→(∀ r',y=.inl r'→∀ st,Ffl_Q (n_1,digits_2) r' st→Q st)→(∀ u : Str,y=.inr u→Run Ffl_E 0 Q K (sT 15 [(5,str (u))] [] 1))→Run Ffl_E 0 Q (.code (cL (cL (cL (cR (cR Ffl_c))))) :: .lp (cL (cL (cL (cR (cR Ffl_c))))) :: .blk 0 :: K) (sT 15 [(1,I (digits_2)),(5,str (x4))] [] 1):=by
 refine fix_indP (Ffl_la_fin n_1 digits_2) ?_
 intro self ih x4 y h hr hn
 unfold Ffl_la_F at h
 refine cq 8 [11] [B ((decide ((len x4) < digits_2)))] 65 ?_
 refine sq h (fun h=>?_) (fun h=>?_)
 · refine aq 1 ?_
   refine cq 3 [12] [str (x4)] 81 ?_
   obtain ⟨s5,hs5,h⟩:=bS h
   refine oq 97 (str (s5)) rfl (e_bin rfl rfl (b_cat hs5)) ?_
   refine cq 3 [5] [str (s5)] 113 ?_
   refine s_lp ?_
   exact rf [1,5] [] (ih _ _ h hr hn :)
 · refine aq 1 ?_
   exact rf [5] [] (hn _ (Option.some.inj h).symm :) (hk:=hK)
theorem Ffl_run (n_1 : Int) (digits_2 : Int) (r : Str) (h : Ffl n_1 digits_2=some r) : RunF Ffl_E Tryd.f112 [false,false] 0 (Ffl_A (n_1,digits_2)) (Ffl_R r):=by
 show Run _ _ (Ffl_Q (n_1,digits_2) r) [.code Ffl_c] _
 refine rin (n:=15) [(0,I (n_1)),(1,I (digits_2))] [] 1 (by kernel_rfl) (by kernel_rfl) (by kernel_rfl) rfl ?_
 unfold Ffl at h
 refine cq 7 [6] [I (n_1)] 33 ?_
 obtain ⟨r3,hr3,h⟩:=bS h
 refine oq 49 (str (r3)) rfl (e_callV rfl rfl (call_P rfl rfl rfl (avS (shP rfl) (avN)) (xItoa_F hr3) (.inr rfl) (bl_n) rfl rfl rfl)) ?_
 refine cq 4 [5] [str (r3)] 65 ?_
 obtain ⟨y6,hy6,hy61,hy62⟩:=bJ h
 refine s_loop rfl ?_
 refine rf [1,5] [] (Ffl_la_run n_1 digits_2 rfl r3 _ hy6 (fun r' e st hq=>by rw [hy61 r' e] at hq; exact hq) fun u6 hu=>?_)
 replace h:=hy62 u6 hu
 refine cq 5 [4] [str (u6)] 33 ?_
 obtain rfl:=Option.some.inj h
 exact s_ret rfl ⟨_,fin (vs:=[str (u6)]) rfl (absE (absorb_plain rfl) (absEN)) rfl (ou_f (ou_f (ou_n))),kl_n⟩
theorem Ffl_good {G : Go.Ln.Ground} [TabG Tryd.prog G] : Good Tryd.prog G 112 Ffl_ent:=good_T (fnOf_good (gl_c xItoa_good (gl_n))) agree_mk (Checked.mixed Tryd.checked) Tryd.func112 (n:=2) (m:=0) ⟨rfl,rfl,by decide⟩ (fun _=>⟨rfl,rfl⟩) (fun a r h=>Ffl_run a.1 a.2 r h)
def Fff_A : Int→List V:=oA I
def Fff_R (r : Str) : V × List V:=(str (r),[])
noncomputable def Fff_ent : Ent:=entT [false] Fff_A Fff_R fun x=>Fff x
theorem Fff_F {day_1 : Int} {r} (h : Fff day_1=some r) : (Fff_ent).F (Fff_A day_1)=some (Fff_R r):=entT_F (oA_inj I_inj) h
noncomputable def Fff_c : Code:=bodyOf Tryd.f92
noncomputable def Fff_E : Env:=mkE Tryd.prog [(111,Ffe_ent),(112,Ffl_ent)]
def Fff_Q (x : Int) (r : Str) : St→Prop:=QF Fff_E Tryd.f92 [false] (Fff_A x) (Fff_R r)
theorem Fff_run (day_1 : Int) (r : Str) (h : Fff day_1=some r) : RunF Fff_E Tryd.f92 [false] 0 (Fff_A day_1) (Fff_R r):=by
 show Run _ _ (Fff_Q day_1 r) [.code Fff_c] _
 refine rin (n:=19) [(0,I (day_1))] [] 1 (by kernel_rfl) (by kernel_rfl) (by kernel_rfl) rfl ?_
 unfold Fff at h
 refine cq 7 [4] [I (day_1)] 33 ?_
 obtain ⟨r2,hr2,h⟩:=bS h
 refine oq 49 (enc_Date r2) rfl (e_callV rfl rfl (call_P rfl rfl rfl (avS (shP rfl) (avN)) (Ffe_F hr2) (.inr rfl) (bl_n) rfl rfl rfl)) ?_
 refine ck 4 [3] [] [49] [] [.hp 49 0 [] 3 0 0] [some ⟨0,3,[enc_Date r2]⟩] 81 (by kernel_rfl) ?_
 refine s_draw [0,1,3,7,0,16,55,127,255,0,512,1655,4095,8191] rfl (by decide +kernel) ?_
 refine dq [49] [] (.hp 49 0 [] 3 0 0) rfl (e_fieldAddr rfl rfl rfl) ?_
 refine dq [49] [] (I (r2.Year)) rfl (e_ld rfl rfl) ?_
 obtain ⟨r3,hr3,h⟩:=bS h
 refine dq [] [] (str (r3)) rfl (e_callV rfl rfl (call_P rfl rfl rfl (avS (shP rfl) (avS (shP rfl) (avN))) (Ffl_F hr3) (.inr rfl) (bl_n) rfl rfl rfl)) ?_ (w_callO rfl rfl rfl rfl (avS (shP rfl) (avS (shP rfl) (avN))) (Ffl_F hr3) (.inr rfl) rfl)
 obtain ⟨s4,hs4,h⟩:=bS h
 refine dq [] [] (str (s4)) rfl (e_bin rfl rfl (b_cat hs4)) ?_
 refine dq [49] [] (.hp 49 0 [] 3 0 1) rfl (e_fieldAddr rfl rfl rfl) ?_
 refine dq [49] [] (I (r2.Month)) rfl (e_ld rfl rfl) ?_
 obtain ⟨r5,hr5,h⟩:=bS h
 refine dq [] [] (str (r5)) rfl (e_callV rfl rfl (call_P rfl rfl rfl (avS (shP rfl) (avS (shP rfl) (avN))) (Ffl_F hr5) (.inr rfl) (bl_n) rfl rfl rfl)) ?_ (w_callO rfl rfl rfl rfl (avS (shP rfl) (avS (shP rfl) (avN))) (Ffl_F hr5) (.inr rfl) rfl)
 obtain ⟨s6,hs6,h⟩:=bS h
 refine dq [] [] (str (s6)) rfl (e_bin rfl rfl (b_cat hs6)) ?_
 obtain ⟨s7,hs7,h⟩:=bS h
 refine dq [] [] (str (s7)) rfl (e_bin rfl rfl (b_cat hs7)) ?_
 refine dq [49] [] (.hp 49 0 [] 3 0 2) rfl (e_fieldAddr rfl rfl rfl) ?_
 refine dq [49] [] (I (r2.Day)) rfl (e_ld rfl rfl) ?_
 obtain ⟨r8,hr8,h⟩:=bS h
 refine dq [] [] (str (r8)) rfl (e_callV rfl rfl (call_P rfl rfl rfl (avS (shP rfl) (avS (shP rfl) (avN))) (Ffl_F hr8) (.inr rfl) (bl_n) rfl rfl rfl)) ?_ (w_callO rfl rfl rfl rfl (avS (shP rfl) (avS (shP rfl) (avN))) (Ffl_F hr8) (.inr rfl) rfl)
 obtain ⟨s9,hs9,h⟩:=bS h
 refine dq [] [] (str (s9)) rfl (e_bin rfl rfl (b_cat hs9)) ?_
 refine dk 1 [2] [str (s9)] ?_
 refine de 305 rfl rfl ?_
 obtain rfl:=Option.some.inj h
 exact s_ret rfl ⟨_,fin (vs:=[str (s9)]) rfl (absE (absorb_plain rfl) (absEN)) rfl (ou_f (ou_n)),kl_n⟩
theorem Fff_good {G : Go.Ln.Ground} [TabG Tryd.prog G] : Good Tryd.prog G 92 Fff_ent:=good_T (fnOf_good (gl_c Ffe_good (gl_c Ffl_good (gl_n)))) agree_mk (Checked.mixed Tryd.checked) Tryd.func92 (n:=1) (m:=0) ⟨rfl,rfl,by decide⟩ (fun _=>⟨rfl,rfl⟩) (fun a r h=>Fff_run a r h)
def impl_size_A : Int→List V:=oA I
def impl_size_R (r : Int) : V × List V:=(I (r),[])
noncomputable def impl_size_ent : Ent:=entT [false] impl_size_A impl_size_R fun x=>impl_size x
theorem impl_size_F {n_1 : Int} {r} (h : impl_size n_1=some r) : (impl_size_ent).F (impl_size_A n_1)=some (impl_size_R r):=entT_F (oA_inj I_inj) h
noncomputable def impl_size_c : Code:=bodyOf Tryd.f114
noncomputable def impl_size_E : Env:=mkE Tryd.prog []
def impl_size_Q (x : Int) (r : Int) : St→Prop:=QF impl_size_E Tryd.f114 [false] (impl_size_A x) (impl_size_R r)
theorem impl_size_run (n_1 : Int) (r : Int) (h : impl_size n_1=some r) : RunF impl_size_E Tryd.f114 [false] 0 (impl_size_A n_1) (impl_size_R r):=by
 show Run _ _ (impl_size_Q n_1 r) [.code impl_size_c] _
 refine rin (n:=7) [(0,I (n_1))] [] 1 (by kernel_rfl) (by kernel_rfl) (by kernel_rfl) rfl ?_
 unfold impl_size at h
 refine cq 12 [2] [I ((if (w64 (0 - n_1)) > n_1 then (w64 (0 - n_1)) else n_1))] 97 ?_
 obtain rfl:=Option.some.inj h
 exact s_ret rfl ⟨_,fin (vs:=[I ((if (w64 (0 - n_1)) > n_1 then (w64 (0 - n_1)) else n_1))]) rfl (absE (absorb_plain rfl) (absEN)) rfl (ou_f (ou_n)),kl_n⟩
theorem impl_size_good {G : Go.Ln.Ground} [TabG Tryd.prog G] : Good Tryd.prog G 114 impl_size_ent:=good_T (fnOf_good (gl_n)) agree_mk (Checked.mixed Tryd.checked) Tryd.func114 (n:=1) (m:=0) ⟨rfl,rfl,by decide⟩ (fun _=>⟨rfl,rfl⟩) (fun a r h=>impl_size_run a r h)
def Ffc_A : Int→List V:=oA I
def Ffc_R (r : Str) : V × List V:=(str (r),[])
noncomputable def Ffc_ent : Ent:=entT [false] Ffc_A Ffc_R fun x=>Ffc x
theorem Ffc_F {x_1 : Int} {r} (h : Ffc x_1=some r) : (Ffc_ent).F (Ffc_A x_1)=some (Ffc_R r):=entT_F (oA_inj I_inj) h
noncomputable def Ffc_c : Code:=bodyOf Tryd.f93
noncomputable def Ffc_E : Env:=mkE Tryd.prog [(114,impl_size_ent),(113,xItoa_ent),(112,Ffl_ent)]
def Ffc_Q (x : Int) (r : Str) : St→Prop:=QF Ffc_E Tryd.f93 [false] (Ffc_A x) (Ffc_R r)
theorem Ffc_run (x_1 : Int) (r : Str) (h : Ffc x_1=some r) : RunF Ffc_E Tryd.f93 [false] 0 (Ffc_A x_1) (Ffc_R r):=by
 show Run _ _ (Ffc_Q x_1 r) [.code Ffc_c] _
 refine rin (n:=18) [(0,I (x_1))] [] 1 (by kernel_rfl) (by kernel_rfl) (by kernel_rfl) rfl ?_
 unfold Ffc at h
 refine cq 14 [3,5] [str (([] : Str)),B ((decide (x_1 < 0)))] 65 ?_
 obtain ⟨u2,hu2,h⟩:=lJ h
 have j2 : Run Ffc_E 0 (Ffc_Q x_1 r) (.code (cR (cR (cR Ffc_c))) :: []) (sT 18 [(0,I (x_1)),(3,str (u2))] [] 1):=by
   refine cq 4 [6,7] [str (u2),I (x_1)] 33 ?_
   obtain ⟨r3,hr3,h⟩:=bS h
   refine oq 49 (I (r3)) rfl (e_callV rfl rfl (call_P rfl rfl rfl (avS (shP rfl) (avN)) (impl_size_F hr3) (.inr rfl) (bl_n) rfl rfl rfl)) ?_
   refine cq 1 [9] [I ((w64 (r3.tdiv 100)))] 65 ?_
   obtain ⟨r4,hr4,h⟩:=bS h
   refine oq 81 (str (r4)) rfl (e_callV rfl rfl (call_P rfl rfl rfl (avS (shP rfl) (avN)) (xItoa_F hr4) (.inr rfl) (bl_n) rfl rfl rfl)) ?_
   obtain ⟨s5,hs5,h⟩:=bS h
   refine oq 97 (str (s5)) rfl (e_bin rfl rfl (b_cat hs5)) ?_
   obtain ⟨s6,hs6,h⟩:=bS h
   refine oq 113 (str (s6)) rfl (e_bin rfl rfl (b_cat hs6)) ?_
   refine cq 1 [13] [I (x_1)] 129 ?_
   obtain ⟨r7,hr7,h⟩:=bS h
   refine oq 145 (I (r7)) rfl (e_callV rfl rfl (call_P rfl rfl rfl (avS (shP rfl) (avN)) (impl_size_F hr7) (.inr rfl) (bl_n) rfl rfl rfl)) ?_
   refine cq 1 [15] [I ((r7.tmod 100))] 161 ?_
   obtain ⟨r8,hr8,h⟩:=bS h
   refine oq 177 (str (r8)) rfl (e_callV rfl rfl (call_P rfl rfl rfl (avS (shP rfl) (avS (shP rfl) (avN))) (Ffl_F hr8) (.inr rfl) (bl_n) rfl rfl rfl)) ?_
   obtain ⟨s9,hs9,h⟩:=bS h
   refine oq 193 (str (s9)) rfl (e_bin rfl rfl (b_cat hs9)) ?_
   refine cq 2 [2] [str (s9)] 209 ?_
   obtain rfl:=Option.some.inj h
   exact s_ret rfl ⟨_,fin (vs:=[str (s9)]) rfl (absE (absorb_plain rfl) (absEN)) rfl (ou_f (ou_n)),kl_n⟩
 replace h:=hu2
 clear hu2
 refine scp h rfl rfl (fun h=>?_) (fun h=>?_)
 · refine cq 3 [3] [str (([45] : Str))] 81 ?_
   subst h
   exact rf [0,3] [] (j2 :)
 · refine aq 1 ?_
   subst h
   exact rf [0,3] [] (j2 :)
theorem Ffc_good {G : Go.Ln.Ground} [TabG Tryd.prog G] : Good Tryd.prog G 93 Ffc_ent:=good_T (fnOf_good (gl_c impl_size_good (gl_c xItoa_good (gl_c Ffl_good (gl_n))))) agree_mk (Checked.mixed Tryd.checked) Tryd.func93 (n:=1) (m:=0) ⟨rfl,rfl,by decide⟩ (fun _=>⟨rfl,rfl⟩) (fun a r h=>Ffc_run a r h)
def Ffi_A : (Event × (List Str))→List V:=cA enc_Event (oA (slE str))
def Ffi_R (r : Str) : V × List V:=(str (r),[])
noncomputable def Ffi_ent : Ent:=entT [false,false] Ffi_A Ffi_R fun x=>Ffi x.1 x.2
theorem Ffi_F {e_1 : Event} {parties_2 : List Str} {r} (h : Ffi e_1 parties_2=some r) : (Ffi_ent).F (Ffi_A (e_1,parties_2))=some (Ffi_R r):=entT_F (cA_inj enc_Event_inj (oA_inj (isl_inj str_inj))) h
noncomputable def Ffi_c : Code:=bodyOf Tryd.f67
noncomputable def Ffi_E : Env:=mkE Tryd.prog [(92,Fff_ent),(93,Ffc_ent)]
def Ffi_Q (x : Event × (List Str)) (r : Str) : St→Prop:=QF Ffi_E Tryd.f67 [false,false] (Ffi_A x) (Ffi_R r)
theorem Ffi_run (e_1 : Event) (parties_2 : List Str) (r : Str) (h : Ffi e_1 parties_2=some r) : RunF Ffi_E Tryd.f67 [false,false] 0 (Ffi_A (e_1,parties_2)) (Ffi_R r):=by
 show Run _ _ (Ffi_Q (e_1,parties_2) r) [.code Ffi_c] _
 refine rin (n:=30) [(0,enc_Event e_1),(1,.isl false ((parties_2).map str))] [] 1 (by kernel_rfl) (by kernel_rfl) (by kernel_rfl) rfl ?_
 unfold Ffi at h
 refine ck 6 [2] [] [1] [] [.hp 1 0 [] 4 0 0] [some ⟨0,4,[enc_Event e_1]⟩] 33 (by kernel_rfl) ?_
 refine s_draw [0,1,3,7,0,0,32,112,240,511,1023,0,2048,8191,16383] rfl (by decide +kernel) ?_
 refine dq [1] [] (.hp 1 0 [] 4 0 0) rfl (e_fieldAddr rfl rfl rfl) ?_
 refine dq [1] [] (I (e_1.Day)) rfl (e_ld rfl rfl) ?_
 obtain ⟨r3,hr3,h⟩:=bS h
 refine dq [] [] (str (r3)) rfl (e_callV rfl rfl (call_P rfl rfl rfl (avS (shP rfl) (avN)) (Fff_F hr3) (.inr rfl) (bl_n) rfl rfl rfl)) ?_ (w_callO rfl rfl rfl rfl (avS (shP rfl) (avN)) (Fff_F hr3) (.inr rfl) rfl)
 obtain ⟨s4,hs4,h⟩:=bS h
 refine dq [] [] (str (s4)) rfl (e_bin rfl rfl (b_cat hs4)) ?_
 refine dk 1 [10] [.isl false ((parties_2).map str)] ?_
 refine dq [1] [] (.hp 1 0 [] 4 0 1) rfl (e_fieldAddr rfl rfl rfl) ?_
 refine dq [1] [] (I (e_1.Party)) rfl (e_ld rfl rfl) ?_
 obtain ⟨e5,he5,h⟩:=bS h
 refine dq [] [] (.iptr (str (e5)) 0) rfl (e_indexAddr rfl rfl rfl (ix_islE rfl rfl rfl rfl he5)) ?_
 refine dq [] [] (str (e5)) rfl (e_ld rfl rfl) ?_
 obtain ⟨s6,hs6,h⟩:=bS h
 refine dq [] [] (str (s6)) rfl (e_bin rfl rfl (b_cat hs6)) ?_
 obtain ⟨s7,hs7,h⟩:=bS h
 refine dq [] [] (str (s7)) rfl (e_bin rfl rfl (b_cat hs7)) ?_
 refine dq [1] [] (.hp 1 0 [] 4 0 2) rfl (e_fieldAddr rfl rfl rfl) ?_
 refine dq [1] [] (str (e_1.Action)) rfl (e_ld rfl rfl) ?_
 obtain ⟨s8,hs8,h⟩:=bS h
 refine dq [] [] (str (s8)) rfl (e_bin rfl rfl (b_cat hs8)) ?_
 refine dk 1 [5] [str (s8)] ?_
 refine de 273 rfl rfl ?_
 refine cq 7 [22] [B ((decide (e_1.Amount > 0)))] 321 ?_
 obtain ⟨y9,hy9,hy91,hy92⟩:=bJ h
 have j9 : ∀ u9,y9=.inr u9→Run Ffi_E 0 (Ffi_Q (e_1,parties_2) r) (.code (cR (cR (cR Ffi_c))) :: []) (sT 30 [(5,str (u9))] [] 1):=by
   intro u9 hu
   replace h:=hy92 u9 hu
   refine cq 5 [4] [str (u9)] 33 ?_
   obtain rfl:=Option.some.inj h
   exact s_ret rfl ⟨_,fin (vs:=[str (u9)]) rfl (absE (absorb_plain rfl) (absEN)) rfl (ou_f (ou_f (ou_n))),kl_n⟩
 have r9 : ∀ r',y9=.inl r'→∀ st,Ffi_Q (e_1,parties_2) r' st→(Ffi_Q (e_1,parties_2) r) st:=fun r' e st hq=>by rw [hy91 r' e] at hq; exact hq
 replace h:=hy9
 refine sq h (fun h=>?_) (fun h=>?_)
 · refine cq 4 [23,25] [str (s8),I (e_1.Amount)] 369 ?_
   obtain ⟨r10,hr10,h⟩:=bS h
   refine oq 385 (str (r10)) rfl (e_callV rfl rfl (call_P rfl rfl rfl (avS (shP rfl) (avN)) (Ffc_F hr10) (.inr rfl) (bl_n) rfl rfl rfl)) ?_
   obtain ⟨s11,hs11,h⟩:=bS h
   refine oq 401 (str (s11)) rfl (e_bin rfl rfl (b_cat hs11)) ?_
   obtain ⟨s12,hs12,h⟩:=bS h
   refine oq 417 (str (s12)) rfl (e_bin rfl rfl (b_cat hs12)) ?_
   refine cq 2 [5] [str (s12)] 433 ?_
   exact rf [5] [] (j9 _ (Option.some.inj h).symm :)
 · refine aq 1 ?_
   exact rf [5] [] (j9 _ (Option.some.inj h).symm :)
theorem Ffi_good {G : Go.Ln.Ground} [TabG Tryd.prog G] : Good Tryd.prog G 67 Ffi_ent:=good_T (fnOf_good (gl_c Fff_good (gl_c Ffc_good (gl_n)))) agree_mk (Checked.mixed Tryd.checked) Tryd.func67 (n:=2) (m:=0) ⟨rfl,rfl,by decide⟩ (fun _=>⟨rfl,rfl⟩) (fun a r h=>Ffi_run a.1 a.2 r h)
def Ffa_A : (Event × (List Str))→List V:=cA enc_Event (oA (slE str))
def Ffa_R (r : Str × Bool) : V × List V:=(.tup [str (r.1),B (r.2)],[])
noncomputable def Ffa_ent : Ent:=entT [false,false] Ffa_A Ffa_R fun x=>Ffa x.1 x.2
theorem Ffa_F {e_1 : Event} {parties_2 : List Str} {r} (h : Ffa e_1 parties_2=some r) : (Ffa_ent).F (Ffa_A (e_1,parties_2))=some (Ffa_R r):=entT_F (cA_inj enc_Event_inj (oA_inj (isl_inj str_inj))) h
noncomputable def Ffa_c : Code:=bodyOf Tryd.f36
noncomputable def Ffa_E : Env:=mkE Tryd.prog [(65,Ffd_ent),(67,Ffi_ent),(66,Ffk_ent)]
def Ffa_Q (x : Event × (List Str)) (r : Str × Bool) : St→Prop:=QF Ffa_E Tryd.f36 [false,false] (Ffa_A x) (Ffa_R r)
theorem Ffa_run (e_1 : Event) (parties_2 : List Str) (r : Str × Bool) (h : Ffa e_1 parties_2=some r) : RunF Ffa_E Tryd.f36 [false,false] 0 (Ffa_A (e_1,parties_2)) (Ffa_R r):=by
 show Run _ _ (Ffa_Q (e_1,parties_2) r) [.code Ffa_c] _
 refine rin (n:=19) [(0,enc_Event e_1),(1,.isl false ((parties_2).map str))] [] 1 (by kernel_rfl) (by kernel_rfl) (by kernel_rfl) rfl ?_
 unfold Ffa at h
 refine ck 10 [2,6] [] [1] [] [.hp 1 0 [] 4 0 0,.isl false ((parties_2).map str)] [some ⟨0,4,[enc_Event e_1]⟩] 65 (by kernel_rfl) ?_
 obtain ⟨r3,hr3,h⟩:=bS h
 refine oq 81 (B (r3)) rfl (e_callV rfl rfl (call_P rfl rfl rfl (avS (shP rfl) (avN)) (Ffd_F hr3) (.inr rfl) (bl_n) rfl rfl rfl)) ?_
 refine cq 2 [9] [B ((!r3))] 113 ?_
 obtain ⟨y4,hy4,hy41,hy42⟩:=bJ h
 have j4 : ∀ u4,y4=.inr u4→Run Ffa_E 0 (Ffa_Q (e_1,parties_2) r) (.code (cR (cL (cR Ffa_c))) :: .code (cR (cR Ffa_c)) :: []) (sT 19 [(1,.isl false ((parties_2).map str)),(2,.hp 1 0 [] 4 0 0),(15,B (u4))] [⟨0,4,[enc_Event e_1]⟩] 2):=by
   intro u4 hu
   replace h:=hy42 u4 hu
   refine sq h (fun h=>?_) (fun h=>?_)
   · refine cq 5 [4,5] [str (([] : Str)),B (false)] 34 ?_
     obtain rfl:=Option.some.inj h
     exact s_ret rfl ⟨_,fin (vs:=[str (([] : Str)),B (false)]) rfl (absE (absorb_plain rfl) (absE (absorb_plain rfl) (absEN))) rfl (ou_f (ou_f (ou_n))),kl_n⟩
   · refine aq 1 ?_
     refine cq 4 [16,17] [enc_Event e_1,.isl false ((parties_2).map str)] 34 ?_
     obtain ⟨r5,hr5,h⟩:=bS h
     refine oq 50 (str (r5)) rfl (e_callV rfl rfl (call_P rfl rfl rfl (avS (shP rfl) (avS (shP rfl) (avN))) (Ffi_F hr5) (.inr rfl) (bl_n) rfl rfl rfl)) ?_
     refine cq 3 [4,5] [str (r5),B (true)] 82 ?_
     obtain rfl:=Option.some.inj h
     exact s_ret rfl ⟨_,fin (vs:=[str (r5),B (true)]) rfl (absE (absorb_plain rfl) (absE (absorb_plain rfl) (absEN))) rfl (ou_f (ou_f (ou_n))),kl_n⟩
 have r4 : ∀ r',y4=.inl r'→∀ st,Ffa_Q (e_1,parties_2) r' st→(Ffa_Q (e_1,parties_2) r) st:=fun r' e st hq=>by rw [hy41 r' e] at hq; exact hq
 replace h:=hy4
 refine sp 9 h rfl (fun h=>?_) (fun h=>?_)
 · refine cq 7 [15] [B (true)] 209 ?_
   exact rf [1,2,15] [1] (j4 _ (Option.some.inj h).symm :)
 · refine cq 2 [10,11] [enc_Event e_1,.isl false ((parties_2).map str)] 145 ?_
   refine oy 161 (I ((len parties_2))) rfl (e_len rfl rfl rfl (l_isl rfl)) ?_
   obtain ⟨r6,hr6,h⟩:=bS h
   refine oy 177 (B (r6)) rfl (e_callV rfl rfl (call_P rfl rfl rfl (avS (shP rfl) (avS (shP rfl) (avN))) (Ffk_F hr6) (.inr rfl) (bl_n) rfl rfl rfl)) ?_
   refine cq 3 [15] [B ((!r6))] 209 ?_
   exact rf [1,2,15] [1] (j4 _ (Option.some.inj h).symm :)
theorem Ffa_good {G : Go.Ln.Ground} [TabG Tryd.prog G] : Good Tryd.prog G 36 Ffa_ent:=good_T (fnOf_good (gl_c Ffd_good (gl_c Ffi_good (gl_c Ffk_good (gl_n))))) agree_mk (Checked.mixed Tryd.checked) Tryd.func36 (n:=2) (m:=0) ⟨rfl,rfl,by decide⟩ (fun _=>⟨rfl,rfl⟩) (fun a r h=>Ffa_run a.1 a.2 r h)
def Ffp_A : ((List Str) × (List Str))→List V:=cA (slE str) (oA (slE str))
def Ffp_R (r : Bool) : V × List V:=(B (r),[])
noncomputable def Ffp_ent : Ent:=entT [false,false] Ffp_A Ffp_R fun x=>Ffp x.1 x.2
theorem Ffp_F {a_1 : List Str} {b_2 : List Str} {r} (h : Ffp a_1 b_2=some r) : (Ffp_ent).F (Ffp_A (a_1,b_2))=some (Ffp_R r):=entT_F (cA_inj (isl_inj str_inj) (oA_inj (isl_inj str_inj))) h
noncomputable def Ffp_c : Code:=bodyOf Tryd.f37
noncomputable def Ffp_E : Env:=mkE Tryd.prog []
def Ffp_Q (x : (List Str) × (List Str)) (r : Bool) : St→Prop:=QF Ffp_E Tryd.f37 [false,false] (Ffp_A x) (Ffp_R r)
theorem Ffp_la_run (a_1 : List Str) (b_2 : List Str)  {Q : St→Prop} {K : List It} (hK : noD K=true) : ∀ (x3 : Int) (y : Bool ⊕ Unit),Ffp_la a_1 b_2 x3=some y→(∀ r',y=.inl r'→∀ st,Ffp_Q (a_1,b_2) r' st→Q st)→(∀ u : Unit,y=.inr u→Run Ffp_E 0 Q K (sT 26 [] [] 1))→Run Ffp_E 0 Q (.code (cL (cL (cR (cL (cR (cR Ffp_c)))))) :: .lp (cL (cL (cR (cL (cR (cR Ffp_c)))))) :: .blk 0 :: K) (sT 26 [(0,.isl false ((a_1).map str)),(1,.isl false ((b_2).map str)),(5,I (x3))] [] 1):=by
 refine fix_indP (Ffp_la_fin a_1 b_2) ?_
 intro self ih x3 y h hr hn
 unfold Ffp_la_F at h
 refine cq 5 [11,12] [I (x3),.isl false ((a_1).map str)] 33 ?_
 refine oq 49 (I ((len a_1))) rfl (e_len rfl rfl rfl (l_isl rfl)) ?_
 refine cq 2 [14] [B ((decide (x3 < (len a_1))))] 65 ?_
 refine sq h (fun h=>?_) (fun h=>?_)
 · refine aq 1 ?_
   refine aq 3 ?_
   refine s_draw [0,0,3,7,0,0,48,112,255] rfl (by decide +kernel) ?_
   refine dk 2 [18,17] [I (x3),.isl false ((a_1).map str)] ?_
   obtain ⟨e4,he4,h⟩:=bS h
   refine dq [] [] (.iptr (str (e4)) 0) rfl (e_indexAddr rfl rfl rfl (ix_islE rfl rfl rfl rfl he4)) ?_
   refine dq [] [] (str (e4)) rfl (e_ld rfl rfl) ?_
   refine dk 2 [22,21] [I (x3),.isl false ((b_2).map str)] ?_
   obtain ⟨e5,he5,h⟩:=bS h
   refine dq [] [] (.iptr (str (e5)) 0) rfl (e_indexAddr rfl rfl rfl (ix_islE rfl rfl rfl rfl he5)) ?_
   refine dq [] [] (str (e5)) rfl (e_ld rfl rfl) ?_
   refine dk 1 [25] [B ((!(e4 == e5)))] ?_
   refine de 209 rfl rfl ?_
   refine sq h (fun h=>?_) (fun h=>?_)
   · refine cq 4 [4] [B (false)] 225 ?_
     exact s_ret rfl (hr _ (Option.some.inj h).symm _ ⟨_,fin (vs:=[B (false)]) rfl (absE (absorb_plain rfl) (absEN)) rfl (ou_f (ou_f (ou_n))),kl_n⟩)
   · refine aq 1 ?_
     refine cq 6 [5] [I ((w64 (x3 + 1)))] 257 ?_
     refine s_lp ?_
     exact rf [0,1,5] [] (ih _ _ h hr hn :)
 · refine aq 1 ?_
   exact rf [] [] (hn _ (Option.some.inj h).symm :) (hk:=hK)
theorem Ffp_run (a_1 : List Str) (b_2 : List Str) (r : Bool) (h : Ffp a_1 b_2=some r) : RunF Ffp_E Tryd.f37 [false,false] 0 (Ffp_A (a_1,b_2)) (Ffp_R r):=by
 show Run _ _ (Ffp_Q (a_1,b_2) r) [.code Ffp_c] _
 refine rin (n:=26) [(0,.isl false ((a_1).map str)),(1,.isl false ((b_2).map str))] [] 1 (by kernel_rfl) (by kernel_rfl) (by kernel_rfl) rfl ?_
 unfold Ffp at h
 refine cq 8 [6] [.isl false ((a_1).map str)] 33 ?_
 refine oq 49 (I ((len a_1))) rfl (e_len rfl rfl rfl (l_isl rfl)) ?_
 refine cq 1 [8] [.isl false ((b_2).map str)] 65 ?_
 refine oq 81 (I ((len b_2))) rfl (e_len rfl rfl rfl (l_isl rfl)) ?_
 refine cq 2 [10] [B (((len a_1) != (len b_2)))] 97 ?_
 refine sq h (fun h=>?_) (fun h=>?_)
 · refine cq 4 [4] [B (false)] 113 ?_
   obtain rfl:=Option.some.inj h
   exact s_ret rfl ⟨_,fin (vs:=[B (false)]) rfl (absE (absorb_plain rfl) (absEN)) rfl (ou_f (ou_f (ou_n))),kl_n⟩
 · refine aq 1 ?_
   refine cq 6 [5] [I (0)] 113 ?_
   obtain ⟨y6,hy6,hy61,hy62⟩:=bJ h
   refine s_loop rfl ?_
   refine rf [0,1,5] [] (Ffp_la_run a_1 b_2 rfl 0 _ hy6 (fun r' e st hq=>by rw [hy61 r' e] at hq; exact hq) fun u6 hu=>?_)
   replace h:=hy62 u6 hu
   refine cq 4 [4] [B (true)] 17 ?_
   obtain rfl:=Option.some.inj h
   exact s_ret rfl ⟨_,fin (vs:=[B (true)]) rfl (absE (absorb_plain rfl) (absEN)) rfl (ou_f (ou_f (ou_n))),kl_n⟩
theorem Ffp_good {G : Go.Ln.Ground} [TabG Tryd.prog G] : Good Tryd.prog G 37 Ffp_ent:=good_T (fnOf_good (gl_n)) agree_mk (Checked.mixed Tryd.checked) Tryd.func37 (n:=2) (m:=0) ⟨rfl,rfl,by decide⟩ (fun _=>⟨rfl,rfl⟩) (fun a r h=>Ffp_run a.1 a.2 r h)
def laws_FnExactFormatEvent_A : (Event × (List Str))→List V:=cA enc_Event (oA (slE str))
def laws_FnExactFormatEvent_R (r : Bool) : V × List V:=(B (r),[])
noncomputable def laws_FnExactFormatEvent_ent : Ent:=entT [false,false] laws_FnExactFormatEvent_A laws_FnExactFormatEvent_R fun x=>laws_FnExactFormatEvent x.1 x.2
theorem laws_FnExactFormatEvent_F {aE_1 : Event} {aParties_2 : List Str} {r} (h : laws_FnExactFormatEvent aE_1 aParties_2=some r) : (laws_FnExactFormatEvent_ent).F (laws_FnExactFormatEvent_A (aE_1,aParties_2))=some (laws_FnExactFormatEvent_R r):=entT_F (cA_inj enc_Event_inj (oA_inj (isl_inj str_inj))) h
noncomputable def laws_FnExactFormatEvent_c : Code:=bodyOf Tryd.f8
noncomputable def laws_FnExactFormatEvent_E : Env:=mkE Tryd.prog [(31,Ffq_ent),(32,Ffr_ent),(34,Ffs_ent),(35,Fft_ent),(33,Ffw_ent),(36,Ffa_ent),(37,Ffp_ent)]
def laws_FnExactFormatEvent_Q (x : Event × (List Str)) (r : Bool) : St→Prop:=QF laws_FnExactFormatEvent_E Tryd.f8 [false,false] (laws_FnExactFormatEvent_A x) (laws_FnExactFormatEvent_R r)
theorem laws_FnExactFormatEvent_run (aE_1 : Event) (aParties_2 : List Str) (r : Bool) (h : laws_FnExactFormatEvent aE_1 aParties_2=some r) : RunF laws_FnExactFormatEvent_E Tryd.f8 [false,false] 0 (laws_FnExactFormatEvent_A (aE_1,aParties_2)) (laws_FnExactFormatEvent_R r):=by
 show Run _ _ (laws_FnExactFormatEvent_Q (aE_1,aParties_2) r) [.code laws_FnExactFormatEvent_c] _
 refine rin (n:=51) [(0,enc_Event aE_1),(1,.isl false ((aParties_2).map str))] [] 1 (by kernel_rfl) (by kernel_rfl) (by kernel_rfl) rfl ?_
 unfold laws_FnExactFormatEvent at h
 refine ck 13 [2,11,12] [] [1] [] [.hp 1 0 [] 4 0 0,enc_Event aE_1,I (1048576)] [some ⟨0,4,[enc_Event aE_1]⟩] 81 (by kernel_rfl) ?_
 obtain ⟨r3,hr3,h⟩:=bS h
 refine oq 97 (I (r3)) rfl (e_callV rfl rfl (call_P rfl rfl rfl (avS (shP rfl) (avS (shP rfl) (avN))) (Ffq_F hr3) (.inr rfl) (bl_n) rfl rfl rfl)) ?_
 refine cq 8 [5,15] [I (r3),B ((decide (r3 < 0)))] 145 ?_
 refine sq h (fun h=>?_) (fun h=>?_)
 · refine cq 4 [4] [B (true)] 161 ?_
   obtain rfl:=Option.some.inj h
   exact s_ret rfl ⟨_,fin (vs:=[B (true)]) rfl (absE (absorb_plain rfl) (absEN)) rfl (ou_f (ou_f (ou_n))),kl_n⟩
 · refine aq 1 ?_
   refine cq 4 [16,17] [.isl false ((aParties_2).map str),I (r3)] 177 ?_
   obtain ⟨r4,hr4,h⟩:=bS h
   refine oq 193 (I (r4)) rfl (e_callV rfl rfl (call_P rfl rfl rfl (avS (shP rfl) (avS (shP rfl) (avN))) (Ffr_F hr4) (.inr rfl) (bl_n) rfl rfl rfl)) ?_
   refine ck 8 [20] [5] [] [] [B ((decide (r4 < 0)))] [] 241 (by kernel_rfl) ?_
   refine sq h (fun h=>?_) (fun h=>?_)
   · refine cq 4 [4] [B (true)] 257 ?_
     obtain rfl:=Option.some.inj h
     exact s_ret rfl ⟨_,fin (vs:=[B (true)]) rfl (absE (absorb_plain rfl) (absEN)) rfl (ou_f (ou_f (ou_n))),kl_n⟩
   · refine aq 1 ?_
     refine cq 3 [22] [enc_Event aE_1] 257 ?_
     obtain ⟨r5,hr5,h⟩:=bS h
     refine oq 273 (enc_Event r5) rfl (e_callV rfl rfl (call_P rfl rfl rfl (avS (shP rfl) (avN)) (Ffs_F hr5) (.inr rfl) (bl_n) rfl rfl rfl)) ?_
     refine cq 1 [24] [.isl false ((aParties_2).map str)] 289 ?_
     obtain ⟨r6,hr6,h⟩:=bS h
     refine oq 305 (.hs 289 0 [] 1 0 ((r6).map str).length) rfl (e_callV rfl rfl (call_P rfl rfl rfl (avS (shP rfl) (avN)) (Fft_F hr6) (.inr rfl) (bl_n) rfl rfl rfl)) ?_
     obtain ⟨r7,hr7,h⟩:=bS h
     refine oq 321 (.tup [str (r7.1),B (r7.2)]) rfl (e_callV rfl rfl (call_P rfl rfl rfl (avS (shP rfl) (avS (sh1 rfl rfl (sh_hsM (f:=str) (g:=str) (xs:=r6) rfl rfl (imms_of str_imm))) (avN))) (Ffw_F hr7) (.inl (rfl)) (bl_n) rfl rfl rfl)) ?_
     refine cq 9 [6,7,29] [str (r7.1),B (r7.2),.isl false ((aParties_2).map str)] 417 ?_
     obtain ⟨r8,hr8,h⟩:=bS h
     refine oq 433 (.hs 417 0 [] 1 0 ((r8).map str).length) rfl (e_callV rfl rfl (call_P rfl rfl rfl (avS (shP rfl) (avN)) (Fft_F hr8) (.inr rfl) (bl_n) rfl rfl rfl)) ?_
     refine cq 5 [8,32] [.hs 417 0 [] 1 0 ((r8).map str).length,enc_Event aE_1] 465 ?_
     obtain ⟨r9,hr9,h⟩:=bS h
     refine oq 481 (enc_Event r9) rfl (e_callV rfl rfl (call_P rfl rfl rfl (avS (shP rfl) (avN)) (Ffs_F hr9) (.inr rfl) (bl_n) rfl rfl rfl)) ?_
     refine cq 1 [34] [.hs 417 0 [] 1 0 ((r8).map str).length] 497 ?_
     obtain ⟨r10,hr10,h⟩:=bS h
     refine oq 513 (.tup [str (r10.1),B (r10.2)]) rfl (e_callV rfl rfl (call_P rfl rfl rfl (avS (shP rfl) (avS (sh1 rfl rfl (sh_hsM (f:=str) (g:=str) (xs:=r8) rfl rfl (imms_of str_imm))) (avN))) (Ffa_F hr10) (.inl (rfl)) (bl_n) rfl rfl rfl)) ?_
     refine cq 13 [10,41] [B (r10.2),B ((!(r10.1 == r7.1)))] 657 ?_
     obtain ⟨u11,hu11,h⟩:=lJ h
     have j11 : Run laws_FnExactFormatEvent_E 0 (laws_FnExactFormatEvent_Q (aE_1,aParties_2) r) (.code (cR (cL (cR (cR (cR (cR (cR (cR (cR (cR (cR laws_FnExactFormatEvent_c))))))))))) :: .code (cR (cR (cR (cR (cR (cR (cR (cR (cR (cR laws_FnExactFormatEvent_c)))))))))) :: []) (sT 51 [(1,.isl false ((aParties_2).map str)),(8,.hs 1 0 [] 1 0 ((r8).map str).length),(45,B (u11))] [⟨0,1,(r8).map str⟩] 2):=by
       refine sq h (fun h=>?_) (fun h=>?_)
       · refine cq 4 [4] [B (false)] 18 ?_
         obtain rfl:=Option.some.inj h
         exact s_ret rfl ⟨_,fin (vs:=[B (false)]) rfl (absE (absorb_plain rfl) (absEN)) rfl (ou_f (ou_f (ou_n))),kl_n⟩
       · refine aq 1 ?_
         refine cq 5 [46,47] [.hs 1 0 [] 1 0 ((r8).map str).length,.isl false ((aParties_2).map str)] 34 ?_
         obtain ⟨r12,hr12,h⟩:=bS h
         refine oq 50 (.hs 34 0 [] 1 0 ((r12).map str).length) rfl (e_callV rfl rfl (call_P rfl rfl rfl (avS (shP rfl) (avN)) (Fft_F hr12) (.inr rfl) (bl_n) rfl rfl rfl)) ?_
         obtain ⟨r13,hr13,h⟩:=bS h
         refine oq 66 (B (r13)) rfl (e_callV rfl rfl (call_P rfl rfl rfl (avS (sh1 rfl rfl (sh_hsM (f:=str) (g:=str) (xs:=r8) rfl rfl (imms_of str_imm))) (avS (sh1 rfl rfl (sh_hsM (f:=str) (g:=str) (xs:=r12) rfl rfl (imms_of str_imm))) (avN))) (Ffp_F hr13) (.inl (rfl)) (bl_n) rfl rfl rfl)) ?_
         refine cq 2 [50] [B ((!r13))] 82 ?_
         refine sq h (fun h=>?_) (fun h=>?_)
         · refine cq 4 [4] [B (false)] 98 ?_
           obtain rfl:=Option.some.inj h
           exact s_ret rfl ⟨_,fin (vs:=[B (false)]) rfl (absE (absorb_plain rfl) (absEN)) rfl (ou_f (ou_f (ou_n))),kl_n⟩
         · refine aq 1 ?_
           refine cq 4 [4] [B (true)] 98 ?_
           obtain rfl:=Option.some.inj h
           exact s_ret rfl ⟨_,fin (vs:=[B (true)]) rfl (absE (absorb_plain rfl) (absEN)) rfl (ou_f (ou_f (ou_n))),kl_n⟩
     replace h:=hu11
     clear hu11
     refine sp 41 h rfl (fun h=>?_) (fun h=>?_)
     · refine cq 5 [45] [B (true)] 721 ?_
       subst h
       exact rf [1,8,45] [417] (j11 :)
     · refine cq 5 [45] [B ((!(r10.2 == r7.2)))] 721 ?_
       subst h
       exact rf [1,8,45] [417] (j11 :)
theorem laws_FnExactFormatEvent_good {G : Go.Ln.Ground} [TabG Tryd.prog G] : Good Tryd.prog G 8 laws_FnExactFormatEvent_ent:=good_T (fnOf_good (gl_c Ffq_good (gl_c Ffr_good (gl_c Ffs_good (gl_c Fft_good (gl_c Ffw_good (gl_c Ffa_good (gl_c Ffp_good (gl_n))))))))) agree_mk (Checked.mixed Tryd.checked) Tryd.func8 (n:=2) (m:=0) ⟨rfl,rfl,by decide⟩ (fun _=>⟨rfl,rfl⟩) (fun a r h=>laws_FnExactFormatEvent_run a.1 a.2 r h)
end Go.Ln
