/-
  Each function of the program computes its plain function.
-/
import Derived.Test.YtgcnameabpnpaaaDoorFnEventsRunA
set_option maxHeartbeats 4000000
set_option linter.unusedVariables false
set_option linter.unusedSimpArgs false
set_option maxRecDepth 100000
namespace Go.Ln
open Go Go.Proofs
theorem Ffbm_run (data_9 : List Event) (a_10 : Int) (b_11 : Int) (pivot_12 : Int) (cmp_13 : Unit) (r : Int × Bool × (List Event)) (h : Ffbm data_9 a_10 b_11 pivot_12 cmp_13=some r) : RunF Ffbm_E Tryd.f122 [true,false,false,false,false] 1 (Ffbm_A (data_9,a_10,b_11,pivot_12,cmp_13)) (Ffbm_R r):=by
 show Run _ _ (Ffbm_Q (data_9,a_10,b_11,pivot_12,cmp_13) r) [.code Ffbm_c] _
 refine rin (n:=178) [(0,.hs 1 0 [] 4 0 ((data_9).map enc_Event).length),(1,I (a_10)),(2,I (b_11)),(3,I (pivot_12)),(4,.fn 52 [])] [(1,some ⟨0,4,(data_9).map enc_Event⟩)] 2 (by kernel_rfl) (by kernel_rfl) (by kernel_rfl) rfl ?_
 unfold Ffbm at h
 refine cq 6 [] [] 34 ?_
 refine s_draw [0,0,0,0,0,0,48,112,0,0,768,1792,4083,8179,16383,32767] rfl (by decide +kernel) ?_
 refine dk 6 [19,18,17,16,15,14] [I (pivot_12),.hs 1 0 [] 4 0 ((data_9).map enc_Event).length,I (pivot_12),.hs 1 0 [] 4 0 ((data_9).map enc_Event).length,I (a_10),.hs 1 0 [] 4 0 ((data_9).map enc_Event).length] ?_
 obtain ⟨e6,he6,h⟩:=bS h
 refine dq [1] [] (.hp 1 0 [] 4 (0 + Int.toNat (pivot_12)) 0) rfl (e_indexAddr rfl rfl rfl (ix_hsM (f:=enc_Event) (xs:=data_9) rfl rfl rfl he6)) ?_
 refine dq [1] [] (enc_Event e6) rfl (e_ld rfl (ld_at (path:=[]) rfl rfl rfl (ra_n) (get_map (f:=enc_Event) (xs:=data_9) he6) rfl rfl rfl)) ?_
 refine dk 2 [23,22] [I (a_10),.hs 1 0 [] 4 0 ((data_9).map enc_Event).length] ?_
 obtain ⟨e7,he7,h⟩:=bS h
 refine dq [1] [] (.hp 1 0 [] 4 (0 + Int.toNat (a_10)) 0) rfl (e_indexAddr rfl rfl rfl (ix_hsM (f:=enc_Event) (xs:=data_9) rfl rfl rfl he7)) ?_
 refine dq [1] [] (enc_Event e7) rfl (e_ld rfl (ld_at (path:=[]) rfl rfl rfl (ra_n) (get_map (f:=enc_Event) (xs:=data_9) he7) rfl rfl rfl)) ?_
 obtain ⟨e8,he8,h⟩:=bS h
 refine dq [1] [] (.hp 1 0 [] 4 (0 + Int.toNat (a_10)) 0) rfl (e_indexAddr rfl rfl rfl (ix_hsM (f:=enc_Event) (xs:=data_9) rfl rfl rfl he8)) ?_
 refine dz [1] [1] rfl (e_st rfl rfl (st_at (path:=[]) (pl:=true) (e':=enc_Event e6) (es2':=((setI data_9 a_10 e6)).map enc_Event) rfl (absorb_plain rfl) rfl rfl rfl (ra_n) (get_map (f:=enc_Event) (xs:=data_9) he8) rfl rfl rfl (set_map (f:=enc_Event) (xs:=data_9) (y:=e6)) (sr_n) 0 rfl)) ?_
 try rw [← len_setM (f:=enc_Event) (xs:=data_9) (i:=a_10) (z:=e6)]
 obtain ⟨e11,he11,h⟩:=bS h
 refine dq [1] [] (.hp 1 0 [] 4 (0 + Int.toNat (pivot_12)) 0) rfl (e_indexAddr rfl rfl rfl (ix_hsM (f:=enc_Event) (xs:=(setI data_9 a_10 e6)) rfl rfl rfl he11)) ?_
 refine dz [1] [1] rfl (e_st rfl rfl (st_at (path:=[]) (pl:=true) (e':=enc_Event e7) (es2':=((setI (setI data_9 a_10 e6) pivot_12 e7)).map enc_Event) rfl (absorb_plain rfl) rfl rfl rfl (ra_n) (get_map (f:=enc_Event) (xs:=(setI data_9 a_10 e6)) he11) rfl rfl rfl (set_map (f:=enc_Event) (xs:=(setI data_9 a_10 e6)) (y:=e7)) (sr_n) 0 rfl)) ?_
 try rw [← len_setM (f:=enc_Event) (xs:=(setI data_9 a_10 e6)) (i:=pivot_12) (z:=e7)]
 refine de 290 rfl rfl ?_
 refine cq 11 [12,13] [I ((w64 (a_10 + 1))),I ((w64 (b_11 - 1)))] 386 ?_
 obtain ⟨y20,hy20,hy201,hy202⟩:=bJ h
 refine s_loop rfl ?_
 refine rf [0,1,4,12,13] [1] (Ffbm_la_run data_9 a_10 b_11 pivot_12 cmp_13 e6 e7 rfl _ _ hy20 (fun r' e st hq=>by rw [hy201 r' e] at hq; exact hq) fun u20 hu=>?_)
 replace h:=hy202 u20 hu
 refine aq 2 ?_
 obtain ⟨y26,hy26,hy261,hy262⟩:=bJ h
 refine s_loop rfl ?_
 refine rf [0,1,4,12,13] [1] (Ffbm_lb_run data_9 a_10 b_11 pivot_12 cmp_13 u20 e6 e7 rfl _ _ hy26 (fun r' e st hq=>by rw [hy261 r' e] at hq; exact hq) fun u26 hu=>?_)
 replace h:=hy262 u26 hu
 refine cq 7 [71] [B ((decide (u20.1 > u26)))] 50 ?_
 refine sq h (fun h=>?_) (fun h=>?_)
 · refine aq 1 ?_
   refine s_draw [0,0,0,0,0,0,48,112,0,0,768,1792,4083,8179,16383,32767] rfl (by decide +kernel) ?_
   refine dk 6 [77,76,75,74,73,72] [I (a_10),.hs 1 0 [] 4 0 (((setI (setI data_9 a_10 e6) pivot_12 e7)).map enc_Event).length,I (a_10),.hs 1 0 [] 4 0 (((setI (setI data_9 a_10 e6) pivot_12 e7)).map enc_Event).length,I (u26),.hs 1 0 [] 4 0 (((setI (setI data_9 a_10 e6) pivot_12 e7)).map enc_Event).length] ?_
   obtain ⟨e27,he27,h⟩:=bS h
   refine dq [1] [] (.hp 1 0 [] 4 (0 + Int.toNat (a_10)) 0) rfl (e_indexAddr rfl rfl rfl (ix_hsM (f:=enc_Event) (xs:=(setI (setI data_9 a_10 e6) pivot_12 e7)) rfl rfl rfl he27)) ?_
   refine dq [1] [] (enc_Event e27) rfl (e_ld rfl (ld_at (path:=[]) rfl rfl rfl (ra_n) (get_map (f:=enc_Event) (xs:=(setI (setI data_9 a_10 e6) pivot_12 e7)) he27) rfl rfl rfl)) ?_
   refine dk 2 [81,80] [I (u26),.hs 1 0 [] 4 0 (((setI (setI data_9 a_10 e6) pivot_12 e7)).map enc_Event).length] ?_
   obtain ⟨e28,he28,h⟩:=bS h
   refine dq [1] [] (.hp 1 0 [] 4 (0 + Int.toNat (u26)) 0) rfl (e_indexAddr rfl rfl rfl (ix_hsM (f:=enc_Event) (xs:=(setI (setI data_9 a_10 e6) pivot_12 e7)) rfl rfl rfl he28)) ?_
   refine dq [1] [] (enc_Event e28) rfl (e_ld rfl (ld_at (path:=[]) rfl rfl rfl (ra_n) (get_map (f:=enc_Event) (xs:=(setI (setI data_9 a_10 e6) pivot_12 e7)) he28) rfl rfl rfl)) ?_
   obtain ⟨e29,he29,h⟩:=bS h
   refine dq [1] [] (.hp 1 0 [] 4 (0 + Int.toNat (u26)) 0) rfl (e_indexAddr rfl rfl rfl (ix_hsM (f:=enc_Event) (xs:=(setI (setI data_9 a_10 e6) pivot_12 e7)) rfl rfl rfl he29)) ?_
   refine dz [1] [1] rfl (e_st rfl rfl (st_at (path:=[]) (pl:=true) (e':=enc_Event e27) (es2':=((setI (setI (setI data_9 a_10 e6) pivot_12 e7) u26 e27)).map enc_Event) rfl (absorb_plain rfl) rfl rfl rfl (ra_n) (get_map (f:=enc_Event) (xs:=(setI (setI data_9 a_10 e6) pivot_12 e7)) he29) rfl rfl rfl (set_map (f:=enc_Event) (xs:=(setI (setI data_9 a_10 e6) pivot_12 e7)) (y:=e27)) (sr_n) 0 rfl)) ?_
   try rw [← len_setM (f:=enc_Event) (xs:=(setI (setI data_9 a_10 e6) pivot_12 e7)) (i:=u26) (z:=e27)]
   obtain ⟨e32,he32,h⟩:=bS h
   refine dq [1] [] (.hp 1 0 [] 4 (0 + Int.toNat (a_10)) 0) rfl (e_indexAddr rfl rfl rfl (ix_hsM (f:=enc_Event) (xs:=(setI (setI (setI data_9 a_10 e6) pivot_12 e7) u26 e27)) rfl rfl rfl he32)) ?_
   refine dz [1] [1] rfl (e_st rfl rfl (st_at (path:=[]) (pl:=true) (e':=enc_Event e28) (es2':=((setI (setI (setI (setI data_9 a_10 e6) pivot_12 e7) u26 e27) a_10 e28)).map enc_Event) rfl (absorb_plain rfl) rfl rfl rfl (ra_n) (get_map (f:=enc_Event) (xs:=(setI (setI (setI data_9 a_10 e6) pivot_12 e7) u26 e27)) he32) rfl rfl rfl (set_map (f:=enc_Event) (xs:=(setI (setI (setI data_9 a_10 e6) pivot_12 e7) u26 e27)) (y:=e28)) (sr_n) 0 rfl)) ?_
   try rw [← len_setM (f:=enc_Event) (xs:=(setI (setI (setI data_9 a_10 e6) pivot_12 e7) u26 e27)) (i:=a_10) (z:=e28)]
   refine de 306 rfl rfl ?_
   refine cq 6 [10,11] [I (u26),B (true)] 354 ?_
   obtain ⟨g36,h⟩:=gG h
   obtain rfl:=Option.some.inj h
   exact s_ret rfl ⟨_,fin (vs:=[I (u26),B (true)]) rfl (absE (absorb_plain rfl) (absE (absorb_plain rfl) (absEN))) rfl (ou_1 rfl (oc_hsG (f:=enc_Event) (xs:=(setI (setI (setI (setI data_9 a_10 e6) pivot_12 e7) u26 e27) a_10 e28)) (by simpa using g36) rfl) (ou_f (ou_f (ou_f (ou_f (ou_n)))))),kl_c (kl_n)⟩
 · refine aq 1 ?_
   refine aq 1 ?_
   refine s_draw [0,0,0,0,0,0,48,112,0,0,768,1792,4083,8179,16383,32767] rfl (by decide +kernel) ?_
   refine dk 6 [92,91,90,89,88,87] [I (u26),.hs 1 0 [] 4 0 (((setI (setI data_9 a_10 e6) pivot_12 e7)).map enc_Event).length,I (u26),.hs 1 0 [] 4 0 (((setI (setI data_9 a_10 e6) pivot_12 e7)).map enc_Event).length,I (u20.1),.hs 1 0 [] 4 0 (((setI (setI data_9 a_10 e6) pivot_12 e7)).map enc_Event).length] ?_
   obtain ⟨e37,he37,h⟩:=bS h
   refine dq [1] [] (.hp 1 0 [] 4 (0 + Int.toNat (u26)) 0) rfl (e_indexAddr rfl rfl rfl (ix_hsM (f:=enc_Event) (xs:=(setI (setI data_9 a_10 e6) pivot_12 e7)) rfl rfl rfl he37)) ?_
   refine dq [1] [] (enc_Event e37) rfl (e_ld rfl (ld_at (path:=[]) rfl rfl rfl (ra_n) (get_map (f:=enc_Event) (xs:=(setI (setI data_9 a_10 e6) pivot_12 e7)) he37) rfl rfl rfl)) ?_
   refine dk 2 [96,95] [I (u20.1),.hs 1 0 [] 4 0 (((setI (setI data_9 a_10 e6) pivot_12 e7)).map enc_Event).length] ?_
   obtain ⟨e38,he38,h⟩:=bS h
   refine dq [1] [] (.hp 1 0 [] 4 (0 + Int.toNat (u20.1)) 0) rfl (e_indexAddr rfl rfl rfl (ix_hsM (f:=enc_Event) (xs:=(setI (setI data_9 a_10 e6) pivot_12 e7)) rfl rfl rfl he38)) ?_
   refine dq [1] [] (enc_Event e38) rfl (e_ld rfl (ld_at (path:=[]) rfl rfl rfl (ra_n) (get_map (f:=enc_Event) (xs:=(setI (setI data_9 a_10 e6) pivot_12 e7)) he38) rfl rfl rfl)) ?_
   obtain ⟨e39,he39,h⟩:=bS h
   refine dq [1] [] (.hp 1 0 [] 4 (0 + Int.toNat (u20.1)) 0) rfl (e_indexAddr rfl rfl rfl (ix_hsM (f:=enc_Event) (xs:=(setI (setI data_9 a_10 e6) pivot_12 e7)) rfl rfl rfl he39)) ?_
   refine dz [1] [1] rfl (e_st rfl rfl (st_at (path:=[]) (pl:=true) (e':=enc_Event e37) (es2':=((setI (setI (setI data_9 a_10 e6) pivot_12 e7) u20.1 e37)).map enc_Event) rfl (absorb_plain rfl) rfl rfl rfl (ra_n) (get_map (f:=enc_Event) (xs:=(setI (setI data_9 a_10 e6) pivot_12 e7)) he39) rfl rfl rfl (set_map (f:=enc_Event) (xs:=(setI (setI data_9 a_10 e6) pivot_12 e7)) (y:=e37)) (sr_n) 0 rfl)) ?_
   try rw [← len_setM (f:=enc_Event) (xs:=(setI (setI data_9 a_10 e6) pivot_12 e7)) (i:=u20.1) (z:=e37)]
   obtain ⟨e42,he42,h⟩:=bS h
   refine dq [1] [] (.hp 1 0 [] 4 (0 + Int.toNat (u26)) 0) rfl (e_indexAddr rfl rfl rfl (ix_hsM (f:=enc_Event) (xs:=(setI (setI (setI data_9 a_10 e6) pivot_12 e7) u20.1 e37)) rfl rfl rfl he42)) ?_
   refine dz [1] [1] rfl (e_st rfl rfl (st_at (path:=[]) (pl:=true) (e':=enc_Event e38) (es2':=((setI (setI (setI (setI data_9 a_10 e6) pivot_12 e7) u20.1 e37) u26 e38)).map enc_Event) rfl (absorb_plain rfl) rfl rfl rfl (ra_n) (get_map (f:=enc_Event) (xs:=(setI (setI (setI data_9 a_10 e6) pivot_12 e7) u20.1 e37)) he42) rfl rfl rfl (set_map (f:=enc_Event) (xs:=(setI (setI (setI data_9 a_10 e6) pivot_12 e7) u20.1 e37)) (y:=e38)) (sr_n) 0 rfl)) ?_
   try rw [← len_setM (f:=enc_Event) (xs:=(setI (setI (setI data_9 a_10 e6) pivot_12 e7) u20.1 e37)) (i:=u26) (z:=e38)]
   refine de 306 rfl rfl ?_
   refine cq 14 [12,13] [I ((w64 (u20.1 + 1))),I ((w64 (u26 - 1)))] 402 ?_
   obtain ⟨y68,hy68,hy681,hy682⟩:=bJ h
   refine s_loop rfl ?_
   refine rf [0,1,4,12,13] [1] (Ffbm_lc_run data_9 a_10 b_11 pivot_12 cmp_13 rfl _ _ hy68 (fun r' e st hq=>by rw [hy681 r' e] at hq; exact hq) fun u68 hu=>?_)
   replace h:=hy682 u68 hu
   refine aq 1 ?_
   refine s_draw [0,0,0,0,0,0,48,112,0,0,768,1792,4083,8179,16383,32767] rfl (by decide +kernel) ?_
   refine dk 6 [168,167,166,165,164,163] [I (a_10),.hs 1 0 [] 4 0 ((u68.2).map enc_Event).length,I (a_10),.hs 1 0 [] 4 0 ((u68.2).map enc_Event).length,I (u68.1),.hs 1 0 [] 4 0 ((u68.2).map enc_Event).length] ?_
   obtain ⟨e69,he69,h⟩:=bS h
   refine dq [1] [] (.hp 1 0 [] 4 (0 + Int.toNat (a_10)) 0) rfl (e_indexAddr rfl rfl rfl (ix_hsM (f:=enc_Event) (xs:=u68.2) rfl rfl rfl he69)) ?_
   refine dq [1] [] (enc_Event e69) rfl (e_ld rfl (ld_at (path:=[]) rfl rfl rfl (ra_n) (get_map (f:=enc_Event) (xs:=u68.2) he69) rfl rfl rfl)) ?_
   refine dk 2 [172,171] [I (u68.1),.hs 1 0 [] 4 0 ((u68.2).map enc_Event).length] ?_
   obtain ⟨e70,he70,h⟩:=bS h
   refine dq [1] [] (.hp 1 0 [] 4 (0 + Int.toNat (u68.1)) 0) rfl (e_indexAddr rfl rfl rfl (ix_hsM (f:=enc_Event) (xs:=u68.2) rfl rfl rfl he70)) ?_
   refine dq [1] [] (enc_Event e70) rfl (e_ld rfl (ld_at (path:=[]) rfl rfl rfl (ra_n) (get_map (f:=enc_Event) (xs:=u68.2) he70) rfl rfl rfl)) ?_
   obtain ⟨e71,he71,h⟩:=bS h
   refine dq [1] [] (.hp 1 0 [] 4 (0 + Int.toNat (u68.1)) 0) rfl (e_indexAddr rfl rfl rfl (ix_hsM (f:=enc_Event) (xs:=u68.2) rfl rfl rfl he71)) ?_
   refine dz [1] [1] rfl (e_st rfl rfl (st_at (path:=[]) (pl:=true) (e':=enc_Event e69) (es2':=((setI u68.2 u68.1 e69)).map enc_Event) rfl (absorb_plain rfl) rfl rfl rfl (ra_n) (get_map (f:=enc_Event) (xs:=u68.2) he71) rfl rfl rfl (set_map (f:=enc_Event) (xs:=u68.2) (y:=e69)) (sr_n) 0 rfl)) ?_
   try rw [← len_setM (f:=enc_Event) (xs:=u68.2) (i:=u68.1) (z:=e69)]
   obtain ⟨e74,he74,h⟩:=bS h
   refine dq [1] [] (.hp 1 0 [] 4 (0 + Int.toNat (a_10)) 0) rfl (e_indexAddr rfl rfl rfl (ix_hsM (f:=enc_Event) (xs:=(setI u68.2 u68.1 e69)) rfl rfl rfl he74)) ?_
   refine dz [1] [1] rfl (e_st rfl rfl (st_at (path:=[]) (pl:=true) (e':=enc_Event e70) (es2':=((setI (setI u68.2 u68.1 e69) a_10 e70)).map enc_Event) rfl (absorb_plain rfl) rfl rfl rfl (ra_n) (get_map (f:=enc_Event) (xs:=(setI u68.2 u68.1 e69)) he74) rfl rfl rfl (set_map (f:=enc_Event) (xs:=(setI u68.2 u68.1 e69)) (y:=e70)) (sr_n) 0 rfl)) ?_
   try rw [← len_setM (f:=enc_Event) (xs:=(setI u68.2 u68.1 e69)) (i:=a_10) (z:=e70)]
   refine de 258 rfl rfl ?_
   refine cq 6 [10,11] [I (u68.1),B (false)] 306 ?_
   obtain ⟨g78,h⟩:=gG h
   obtain rfl:=Option.some.inj h
   exact s_ret rfl ⟨_,fin (vs:=[I (u68.1),B (false)]) rfl (absE (absorb_plain rfl) (absE (absorb_plain rfl) (absEN))) rfl (ou_1 rfl (oc_hsG (f:=enc_Event) (xs:=(setI (setI u68.2 u68.1 e69) a_10 e70)) (by simpa using g78) rfl) (ou_f (ou_f (ou_f (ou_f (ou_n)))))),kl_c (kl_n)⟩
theorem Ffbm_good {G : Go.Ln.Ground} : Good Tryd.prog G 122 Ffbm_ent:=good_T (fnOf_good (gl_c Fff_good (gl_n))) agree_mk (Checked.mixed Tryd.checked) Tryd.func122 (n:=5) (m:=1) ⟨rfl,rfl,by decide⟩ (fun _=>⟨rfl,rfl⟩) (fun a r h=>Ffbm_run a.1 a.2.1 a.2.2.1 a.2.2.2.1 a.2.2.2.2 r h)
def Ffbo_A : ((List Event) × Int × Int × Int × Unit)→List V:=cA (usE 4 enc_Event) (cA I (cA I (cA I (oA (fun x : Unit=>(.fn 52 [] : V))))))
def Ffbo_R (r : (List Event)) : V × List V:=(.tup [],[.usl 4 ((r).map enc_Event)])
noncomputable def Ffbo_entS (slf_Ffbo : ((List Event) × Int × Int × Int × Unit)→Option ((List Event))) : Ent:=entT [true,false,false,false,false] Ffbo_A Ffbo_R slf_Ffbo
theorem Ffbo_FS (slf_Ffbo : ((List Event) × Int × Int × Int × Unit)→Option ((List Event))) {x} {r} (h : slf_Ffbo x=some r) : (Ffbo_entS slf_Ffbo).F (Ffbo_A x)=some (Ffbo_R r):=entT_F (cA_inj (usl_inj enc_Event_inj) (cA_inj I_inj (cA_inj I_inj (cA_inj I_inj (oA_inj (fn_inj0 )))))) h
noncomputable def Ffbo_ent : Ent:=Ffbo_entS (fixO Ffbo_G)
theorem Ffbo_F {data_8 : List Event} {a_9 : Int} {b_10 : Int} {limit_11 : Int} {cmp_12 : Unit} {r} (h : Ffbo data_8 a_9 b_10 limit_11 cmp_12=some r) : Ffbo_ent.F (Ffbo_A (data_8,a_9,b_10,limit_11,cmp_12))=some (Ffbo_R r):=Ffbo_FS (fixO Ffbo_G) h
noncomputable def Ffbo_c : Code:=bodyOf Tryd.f94
noncomputable abbrev Ffbo_ka : Code:=cL (cL (cR (cR Ffbo_c)))
noncomputable abbrev Ffbo_kb : Code:=cR (cR (cR (cR (cR (cR (cR (cL Ffbo_ka)))))))
noncomputable abbrev Ffbo_kc : Code:=cR (cL (cR (cR (cR (cR (cR (cR (cL Ffbo_ka))))))))
noncomputable def Ffbo_E (slf_Ffbo : ((List Event) × Int × Int × Int × Unit)→Option ((List Event))) : Env:=mkE Tryd.prog [(115,Ffbg_ent),(116,Ffbf_ent),(118,Ffbe_ent),(121,Ffbn_ent),(122,Ffbm_ent),(94,(Ffbo_entS slf_Ffbo)),(52,Fff_ent),(120,Ffbl_ent),(119,Ffbp_ent),(117,Ffbd_ent)]
def Ffbo_Q (slf_Ffbo : ((List Event) × Int × Int × Int × Unit)→Option ((List Event))) (x : (List Event) × Int × Int × Int × Unit) (r : (List Event)) : St→Prop:=QF (Ffbo_E slf_Ffbo) Tryd.f94 [true,false,false,false,false] (Ffbo_A x) (Ffbo_R r)
theorem Ffbo_la_run (slf_Ffbo : ((List Event) × Int × Int × Int × Unit)→Option ((List Event))) (data_8 : List Event) (a_9 : Int) (b_10 : Int) (limit_11 : Int) (cmp_12 : Unit)  {Q : St→Prop} {K : List It} (hK : noD K=true) : ∀ (x6 : Int × Int × Int × Bool × Bool × (List Event)) (y : ((List Event)) ⊕ Unit),Ffbo_la slf_Ffbo data_8 a_9 b_10 limit_11 cmp_12 x6=some y→(∀ r',y=.inl r'→∀ st,Ffbo_Q slf_Ffbo (data_8,a_9,b_10,limit_11,cmp_12) r' st→Q st)→(∀ u : Unit,y=.inr u→Run (Ffbo_E slf_Ffbo) 1 Q K (sT 148 [] [] 1))→Run (Ffbo_E slf_Ffbo) 1 Q (.code Ffbo_ka :: .lp Ffbo_ka :: .blk 0 :: K) (sT 148 [(0,.hs 1 0 [] 4 0 ((x6.2.2.2.2.2).map enc_Event).length),(1,I (x6.1)),(2,I (x6.2.1)),(3,I (x6.2.2.1)),(4,.fn 52 []),(10,B (x6.2.2.2.1)),(11,B (x6.2.2.2.2.1))] [⟨0,4,(x6.2.2.2.2.2).map enc_Event⟩] 2):=by
 refine fix_indP (Ffbo_la_fin slf_Ffbo data_8 a_9 b_10 limit_11 cmp_12) ?_
 intro self ih x6 y h hr hn
 unfold Ffbo_la_F at h
 refine cq 14 [12,25] [I ((w64 (x6.2.1 - x6.1))),B ((decide ((w64 (x6.2.1 - x6.1)) ≤ 12)))] 98 ?_
 refine sq h (fun h=>?_) (fun h=>?_)
 · refine cq 6 [26,27,28,29] [.hs 1 0 [] 4 0 ((x6.2.2.2.2.2).map enc_Event).length,I (x6.1),I (x6.2.1),.fn 52 []] 162 ?_
   obtain ⟨r7,hr7,h⟩:=bS h
   obtain ⟨g8,h⟩:=gG h
   refine oq 178 (.tup []) rfl (e_callV rfl rfl (call_P rfl rfl rfl (avO (hd1 rfl (hd_hs (path:=[]) rfl rfl (ra_n) rfl)) (avS (shP rfl) (avS (shP rfl) (avS (shP rfl) (avN))))) (Ffbg_F hr7) (.inr rfl) (bl_c rfl rfl rfl rfl (bl_n)) rfl rfl rfl)) ?_
   try rw [len_eqM (f:=enc_Event) (xs:=x6.2.2.2.2.2) (ys:=r7) g8]
   refine aq 1 ?_
   obtain ⟨g9,h⟩:=gG h
   exact s_ret rfl (hr _ (Option.some.inj h).symm _ ⟨_,fin (vs:=[]) rfl (absEN) rfl (ou_1 rfl (oc_hsG (f:=enc_Event) (xs:=r7) (by simpa using g9) rfl) (ou_f (ou_f (ou_f (ou_f (ou_n)))))),kl_c (kl_n)⟩)
 · refine aq 1 ?_
   refine cq 6 [32] [B ((x6.2.2.1 == 0))] 130 ?_
   refine sq h (fun h=>?_) (fun h=>?_)
   · refine cq 6 [33,34,35,36] [.hs 1 0 [] 4 0 ((x6.2.2.2.2.2).map enc_Event).length,I (x6.1),I (x6.2.1),.fn 52 []] 194 ?_
     obtain ⟨r10,hr10,h⟩:=bS h
     obtain ⟨g11,h⟩:=gG h
     refine oq 210 (.tup []) rfl (e_callV rfl rfl (call_P rfl rfl rfl (avO (hd1 rfl (hd_hs (path:=[]) rfl rfl (ra_n) rfl)) (avS (shP rfl) (avS (shP rfl) (avS (shP rfl) (avN))))) (Ffbf_F hr10) (.inr rfl) (bl_c rfl rfl rfl rfl (bl_n)) rfl rfl rfl)) ?_
     try rw [len_eqM (f:=enc_Event) (xs:=x6.2.2.2.2.2) (ys:=r10) g11]
     refine aq 1 ?_
     obtain ⟨g12,h⟩:=gG h
     exact s_ret rfl (hr _ (Option.some.inj h).symm _ ⟨_,fin (vs:=[]) rfl (absEN) rfl (ou_1 rfl (oc_hsG (f:=enc_Event) (xs:=r10) (by simpa using g12) rfl) (ou_f (ou_f (ou_f (ou_f (ou_n)))))),kl_c (kl_n)⟩)
   · refine aq 1 ?_
     refine cq 6 [39] [B ((!x6.2.2.2.1))] 162 ?_
     obtain ⟨y13,hy13,hy131,hy132⟩:=bL h
     have j13 : ∀ u13,y13=.inr u13→Run (Ffbo_E slf_Ffbo) 1 Q (.code (cR (cR (cR (cR (cL Ffbo_ka))))) :: .blk 1 :: .lp Ffbo_ka :: .blk 0 :: K) (sT 148 [(0,.hs 1 0 [] 4 0 ((u13.2).map enc_Event).length),(1,I (x6.1)),(2,I (x6.2.1)),(3,I (u13.1)),(4,.fn 52 []),(10,B (x6.2.2.2.1)),(11,B (x6.2.2.2.2.1)),(12,I ((w64 (x6.2.1 - x6.1))))] [⟨0,4,(u13.2).map enc_Event⟩] 2):=by
       intro u13 hu
       replace h:=hy132 u13 hu
       refine cq 6 [48,49,50,51] [.hs 1 0 [] 4 0 ((u13.2).map enc_Event).length,I (x6.1),I (x6.2.1),.fn 52 []] 66 ?_
       obtain ⟨r14,hr14,h⟩:=bS h
       refine oq 82 (.tup [I (r14.1),I (r14.2)]) rfl (e_callV rfl rfl (call_P rfl rfl rfl (avS (sh1 rfl rfl (sh_hsM (f:=enc_Event) (g:=enc_Event) (xs:=u13.2) rfl rfl (imms_of enc_Event_imm))) (avS (shP rfl) (avS (shP rfl) (avS (shP rfl) (avN))))) (Ffbe_F hr14) (.inl (rfl)) (bl_n) rfl rfl rfl)) ?_
       refine cq 12 [13,14,56] [I (r14.1),I (r14.2),B ((r14.2 == 2))] 194 ?_
       obtain ⟨y15,hy15,hy151,hy152⟩:=bL h
       have j15 : ∀ u15,y15=.inr u15→Run (Ffbo_E slf_Ffbo) 1 Q (.code (cR (cR (cR (cR (cR (cR (cL Ffbo_ka))))))) :: .blk 1 :: .lp Ffbo_ka :: .blk 0 :: K) (sT 148 [(0,.hs 1 0 [] 4 0 ((u15.2.2).map enc_Event).length),(1,I (x6.1)),(2,I (x6.2.1)),(3,I (u13.1)),(4,.fn 52 []),(10,B (x6.2.2.2.1)),(11,B (x6.2.2.2.2.1)),(12,I ((w64 (x6.2.1 - x6.1)))),(13,I (u15.1)),(14,I (u15.2.1))] [⟨0,4,(u15.2.2).map enc_Event⟩] 2):=by
         intro u15 hu
         replace h:=hy152 u15 hu
         refine cq 5 [69] [B (x6.2.2.2.1)] 34 ?_
         obtain ⟨u16,hu16,h⟩:=lJ h
         have j16 : Run (Ffbo_E slf_Ffbo) 1 Q (.code Ffbo_kc :: .code Ffbo_kb :: .blk 1 :: .lp Ffbo_ka :: .blk 0 :: K) (sT 148 [(0,.hs 1 0 [] 4 0 ((u15.2.2).map enc_Event).length),(1,I (x6.1)),(2,I (x6.2.1)),(3,I (u13.1)),(4,.fn 52 []),(10,B (x6.2.2.2.1)),(11,B (x6.2.2.2.2.1)),(12,I ((w64 (x6.2.1 - x6.1)))),(13,I (u15.1)),(75,B (u16))] [⟨0,4,(u15.2.2).map enc_Event⟩] 2):=by
           obtain ⟨y17,hy17,hy171,hy172⟩:=bL h
           have j17 : ∀ u17,y17=.inr u17→Run (Ffbo_E slf_Ffbo) 1 Q (.code Ffbo_kb :: .blk 1 :: .lp Ffbo_ka :: .blk 0 :: K) (sT 148 [(0,.hs 1 0 [] 4 0 ((u17).map enc_Event).length),(1,I (x6.1)),(2,I (x6.2.1)),(3,I (u13.1)),(4,.fn 52 []),(10,B (x6.2.2.2.1)),(11,B (x6.2.2.2.2.1)),(12,I ((w64 (x6.2.1 - x6.1)))),(13,I (u15.1))] [⟨0,4,(u17).map enc_Event⟩] 2):=by
             intro u17 hu
             replace h:=hy172 u17 hu
             refine aq 2 ?_
             refine s_draw [0,1,3,7,7,7,39,119,247,7,7,1543,3591,8191,16383,32767,65535] rfl (by decide +kernel) ?_
             refine dk 3 [83,82,81] [B ((decide (x6.1 > 0))),B ((decide (x6.1 > 0))),I (x6.1)] ?_
             obtain ⟨y18,hy18,hy181,hy182⟩:=bL h
             have j18 : ∀ u18,y18=.inr u18→Run (Ffbo_E slf_Ffbo) 1 Q (.code (cR (cL Ffbo_kb)) :: .code (cR Ffbo_kb) :: .blk 1 :: .lp Ffbo_ka :: .blk 0 :: K) (sT 148 [(0,.hs 1 0 [] 4 0 ((u17).map enc_Event).length),(1,I (x6.1)),(2,I (x6.2.1)),(3,I (u13.1)),(4,.fn 52 []),(10,B (x6.2.2.2.1)),(11,B (x6.2.2.2.2.1)),(12,I ((w64 (x6.2.1 - x6.1)))),(13,I (u15.1)),(97,B (u18))] [⟨0,4,(u17).map enc_Event⟩] 2):=by
               intro u18 hu
               replace h:=hy182 u18 hu
               refine sq h (fun h=>?_) (fun h=>?_)
               · refine cq 7 [98,99,100,101,102] [.hs 1 0 [] 4 0 ((u17).map enc_Event).length,I (x6.1),I (x6.2.1),I (u15.1),.fn 52 []] 82 ?_
                 obtain ⟨r19,hr19,h⟩:=bS h
                 obtain ⟨g20,h⟩:=gG h
                 refine oq 98 (I (r19.1)) rfl (e_callV rfl rfl (call_P rfl rfl rfl (avO (hd1 rfl (hd_hs (path:=[]) rfl rfl (ra_n) rfl)) (avS (shP rfl) (avS (shP rfl) (avS (shP rfl) (avS (shP rfl) (avN)))))) (Ffbn_F hr19) (.inr rfl) (bl_c rfl rfl rfl rfl (bl_n)) rfl rfl rfl)) ?_
                 try rw [len_eqM (f:=enc_Event) (xs:=u17) (ys:=r19.2) g20]
                 refine cq 8 [1] [I (r19.1)] 146 ?_
                 refine s_lp ?_
                 exact rf [0,1,2,3,4,10,11] [1] (ih _ _ h hr hn :)
               · refine aq 1 ?_
                 refine cq 7 [106,107,108,109,110] [.hs 1 0 [] 4 0 ((u17).map enc_Event).length,I (x6.1),I (x6.2.1),I (u15.1),.fn 52 []] 82 ?_
                 obtain ⟨r21,hr21,h⟩:=bS h
                 obtain ⟨g22,h⟩:=gG h
                 refine oq 98 (.tup [I (r21.1),B (r21.2.1)]) rfl (e_callV rfl rfl (call_P rfl rfl rfl (avO (hd1 rfl (hd_hs (path:=[]) rfl rfl (ra_n) rfl)) (avS (shP rfl) (avS (shP rfl) (avS (shP rfl) (avS (shP rfl) (avN)))))) (Ffbm_F hr21) (.inr rfl) (bl_c rfl rfl rfl rfl (bl_n)) rfl rfl rfl)) ?_
                 try rw [len_eqM (f:=enc_Event) (xs:=u17) (ys:=r21.2.2) g22]
                 refine cq 34 [11,16,18,19,20,125] [B (r21.2.1),I (r21.1),I ((w64 (r21.1 - x6.1))),I ((w64 (x6.2.1 - r21.1))),I ((w64 ((w64 (x6.2.1 - x6.1)).tdiv 8))),B ((decide ((w64 (r21.1 - x6.1)) < (w64 (x6.2.1 - r21.1)))))] 434 ?_
                 obtain ⟨y23,hy23,hy231,hy232⟩:=bL h
                 have j23 : ∀ u23,y23=.inr u23→Run (Ffbo_E slf_Ffbo) 1 Q (.blk 1 :: .lp Ffbo_ka :: .blk 0 :: K) (sT 148 [(0,.hs 1 0 [] 4 0 ((u23.2.2.2).map enc_Event).length),(1,I (u23.1)),(2,I (u23.2.1)),(3,I (u13.1)),(4,.fn 52 []),(10,B (u23.2.2.1)),(11,B (r21.2.1))] [⟨0,4,(u23.2.2.2).map enc_Event⟩] 2):=by
                   intro u23 hu
                   replace h:=hy232 u23 hu
                   refine aq 1 ?_
                   refine s_lp ?_
                   exact rf [0,1,2,3,4,10,11] [1] (ih _ _ h hr hn :)
                 have r23 : ∀ r',y23=.inl r'→∀ st,Ffbo_Q slf_Ffbo (data_8,a_9,b_10,limit_11,cmp_12) r' st→Q st:=fun r' e st hq=>hr r' (hy231 r' e) st hq
                 replace h:=hy23
                 refine sq h (fun h=>?_) (fun h=>?_)
                 · refine cq 14 [10,129,130,131,132,133] [B ((decide ((w64 (r21.1 - x6.1)) ≥ (w64 ((w64 (x6.2.1 - x6.1)).tdiv 8))))),.hs 1 0 [] 4 0 ((r21.2.2).map enc_Event).length,I (x6.1),I (r21.1),I (u13.1),.fn 52 []] 578 ?_
                   obtain ⟨r24,hr24,h⟩:=bS h
                   obtain ⟨g25,h⟩:=gG h
                   refine oq 594 (.tup []) rfl (e_callV rfl rfl (call_P rfl rfl rfl (avO (hd1 rfl (hd_hs (path:=[]) rfl rfl (ra_n) rfl)) (avS (shP rfl) (avS (shP rfl) (avS (shP rfl) (avS (shP rfl) (avN)))))) (Ffbo_FS slf_Ffbo hr24) (.inr rfl) (bl_c rfl rfl rfl rfl (bl_n)) rfl rfl rfl)) ?_
                   try rw [len_eqM (f:=enc_Event) (xs:=r21.2.2) (ys:=r24) g25]
                   refine cq 6 [1] [I ((w64 (r21.1 + 1)))] 642 ?_
                   exact rf [0,1,2,3,4,10,11] [1] (j23 _ (Option.some.inj h).symm :)
                 · refine cq 15 [10,140,142,143,144,145] [B ((decide ((w64 (x6.2.1 - r21.1)) ≥ (w64 ((w64 (x6.2.1 - x6.1)).tdiv 8))))),.hs 1 0 [] 4 0 ((r21.2.2).map enc_Event).length,I ((w64 (r21.1 + 1))),I (x6.2.1),I (u13.1),.fn 52 []] 594 ?_
                   obtain ⟨r26,hr26,h⟩:=bS h
                   obtain ⟨g27,h⟩:=gG h
                   refine oq 610 (.tup []) rfl (e_callV rfl rfl (call_P rfl rfl rfl (avO (hd1 rfl (hd_hs (path:=[]) rfl rfl (ra_n) rfl)) (avS (shP rfl) (avS (shP rfl) (avS (shP rfl) (avS (shP rfl) (avN)))))) (Ffbo_FS slf_Ffbo hr26) (.inr rfl) (bl_c rfl rfl rfl rfl (bl_n)) rfl rfl rfl)) ?_
                   try rw [len_eqM (f:=enc_Event) (xs:=r21.2.2) (ys:=r26) g27]
                   refine cq 5 [2] [I (r21.1)] 642 ?_
                   exact rf [0,1,2,3,4,10,11] [1] (j23 _ (Option.some.inj h).symm :)
             have r18 : ∀ r',y18=.inl r'→∀ st,Ffbo_Q slf_Ffbo (data_8,a_9,b_10,limit_11,cmp_12) r' st→Q st:=fun r' e st hq=>hr r' (hy181 r' e) st hq
             replace h:=hy18
             refine sp 83 h rfl (fun h=>?_) (fun h=>?_)
             · refine dk 4 [87,86,85,84] [I ((w64 (x6.1 - 1))),I (x6.1),.hs 1 0 [] 4 0 ((u17).map enc_Event).length,.fn 52 []] ?_
               obtain ⟨e28,he28,h⟩:=bS h
               refine dy [1] [] (.hp 1 0 [] 4 (0 + Int.toNat ((w64 (x6.1 - 1)))) 0) rfl (e_indexAddr rfl rfl rfl (ix_hsM (f:=enc_Event) (xs:=u17) rfl rfl rfl he28)) ?_
               refine dy [1] [] (enc_Event e28) rfl (e_ld rfl (ld_at (path:=[]) rfl rfl rfl (ra_n) (get_map (f:=enc_Event) (xs:=u17) he28) rfl rfl rfl)) ?_
               refine dk 2 [91,90] [I (u15.1),.hs 1 0 [] 4 0 ((u17).map enc_Event).length] ?_
               obtain ⟨e29,he29,h⟩:=bS h
               refine dy [1] [] (.hp 1 0 [] 4 (0 + Int.toNat (u15.1)) 0) rfl (e_indexAddr rfl rfl rfl (ix_hsM (f:=enc_Event) (xs:=u17) rfl rfl rfl he29)) ?_
               refine dy [1] [] (enc_Event e29) rfl (e_ld rfl (ld_at (path:=[]) rfl rfl rfl (ra_n) (get_map (f:=enc_Event) (xs:=u17) he29) rfl rfl rfl)) ?_
               obtain ⟨r30,hr30,h⟩:=bS h
               refine dy [] [] (I (r30)) rfl (e_callV rfl rfl (call_P rfl rfl rfl (avS (shP rfl) (avS (shP rfl) (avN))) (Fff_F hr30) (.inr rfl) (bl_n) rfl rfl rfl)) ?_ (w_callO rfl rfl rfl rfl (avS (shP rfl) (avS (shP rfl) (avN))) (Fff_F hr30) (.inr rfl) rfl)
               refine dk 3 [97,96,95] [B ((!(decide (r30 < 0)))),B ((!(decide (r30 < 0)))),B ((decide (r30 < 0)))] ?_
               refine de 274 rfl rfl ?_
               exact rf [0,1,2,3,4,10,11,12,13,97] [1] (j18 _ (Option.some.inj h).symm :)
             · refine dk 14 [97,96,95,94,93,92,91,90,89,88,87,86,85,84] [B (false),.und,.und,.und,.und,.und,.und,.und,.und,.und,.und,.und,.und,.und] ?_
               refine de 274 rfl rfl ?_
               exact rf [0,1,2,3,4,10,11,12,13,97] [1] (j18 _ (Option.some.inj h).symm :)
           have r17 : ∀ r',y17=.inl r'→∀ st,Ffbo_Q slf_Ffbo (data_8,a_9,b_10,limit_11,cmp_12) r' st→Q st:=fun r' e st hq=>hr r' (hy171 r' e) st hq
           replace h:=hy17
           refine sq h (fun h=>?_) (fun h=>?_)
           · refine cq 6 [76,77,78,79] [.hs 1 0 [] 4 0 ((u15.2.2).map enc_Event).length,I (x6.1),I (x6.2.1),.fn 52 []] 66 ?_
             obtain ⟨r31,hr31,h⟩:=bS h
             obtain ⟨g32,h⟩:=gG h
             refine oq 82 (B (r31.1)) rfl (e_callV rfl rfl (call_P rfl rfl rfl (avO (hd1 rfl (hd_hs (path:=[]) rfl rfl (ra_n) rfl)) (avS (shP rfl) (avS (shP rfl) (avS (shP rfl) (avN))))) (Ffbl_F hr31) (.inr rfl) (bl_c rfl rfl rfl rfl (bl_n)) rfl rfl rfl)) ?_
             try rw [len_eqM (f:=enc_Event) (xs:=u15.2.2) (ys:=r31.2) g32]
             refine aq 1 ?_
             refine sq h (fun h=>?_) (fun h=>?_)
             · obtain ⟨g33,h⟩:=gG h
               exact s_ret rfl (r17 _ (Option.some.inj h).symm _ ⟨_,fin (vs:=[]) rfl (absEN) rfl (ou_1 rfl (oc_hsG (f:=enc_Event) (xs:=r31.2) (by simpa using g33) rfl) (ou_f (ou_f (ou_f (ou_f (ou_n)))))),kl_c (kl_n)⟩)
             · refine aq 1 ?_
               exact rf [0,1,2,3,4,10,11,12,13] [1] (j17 _ (Option.some.inj h).symm :)
           · refine aq 1 ?_
             exact rf [0,1,2,3,4,10,11,12,13] [1] (j17 _ (Option.some.inj h).symm :)
         replace h:=hu16
         clear hu16
         refine sp 69 h rfl (fun h=>?_) (fun h=>?_)
         · refine cq 3 [72] [B (x6.2.2.2.2.1)] 82 ?_
           obtain ⟨u34,hu34,h⟩:=lJ h
           have j34 : Run (Ffbo_E slf_Ffbo) 1 Q (.code Ffbo_kc :: .code Ffbo_kb :: .blk 1 :: .lp Ffbo_ka :: .blk 0 :: K) (sT 148 [(0,.hs 1 0 [] 4 0 ((u15.2.2).map enc_Event).length),(1,I (x6.1)),(2,I (x6.2.1)),(3,I (u13.1)),(4,.fn 52 []),(10,B (x6.2.2.2.1)),(11,B (x6.2.2.2.2.1)),(12,I ((w64 (x6.2.1 - x6.1)))),(13,I (u15.1)),(75,B (u34))] [⟨0,4,(u15.2.2).map enc_Event⟩] 2):=by
             subst h
             exact rf [0,1,2,3,4,10,11,12,13,75] [1] (j16 :)
           replace h:=hu34
           clear hu34
           refine sp 72 h rfl (fun h=>?_) (fun h=>?_)
           · refine cq 4 [75] [B ((u15.2.1 == 1))] 130 ?_
             subst h
             exact rf [0,1,2,3,4,10,11,12,13,75] [1] (j34 :)
           · refine cq 4 [75] [B (false)] 130 ?_
             subst h
             exact rf [0,1,2,3,4,10,11,12,13,75] [1] (j34 :)
         · refine cq 7 [75] [B (false)] 130 ?_
           subst h
           exact rf [0,1,2,3,4,10,11,12,13,75] [1] (j16 :)
       have r15 : ∀ r',y15=.inl r'→∀ st,Ffbo_Q slf_Ffbo (data_8,a_9,b_10,limit_11,cmp_12) r' st→Q st:=fun r' e st hq=>hr r' (hy151 r' e) st hq
       replace h:=hy15
       refine sq h (fun h=>?_) (fun h=>?_)
       · refine cq 6 [57,58,59,60] [.hs 1 0 [] 4 0 ((u13.2).map enc_Event).length,I (x6.1),I (x6.2.1),.fn 52 []] 258 ?_
         obtain ⟨r35,hr35,h⟩:=bS h
         obtain ⟨g36,h⟩:=gG h
         refine oq 274 (.tup []) rfl (e_callV rfl rfl (call_P rfl rfl rfl (avO (hd1 rfl (hd_hs (path:=[]) rfl rfl (ra_n) rfl)) (avS (shP rfl) (avS (shP rfl) (avS (shP rfl) (avN))))) (Ffbp_F hr35) (.inr rfl) (bl_c rfl rfl rfl rfl (bl_n)) rfl rfl rfl)) ?_
         try rw [len_eqM (f:=enc_Event) (xs:=u13.2) (ys:=r35) g36]
         refine cq 14 [13,14] [I ((w64 ((w64 (x6.2.1 - 1)) - (w64 (r14.1 - x6.1))))),I (1)] 402 ?_
         exact rf [0,1,2,3,4,10,11,12,13,14] [1] (j15 _ (Option.some.inj h).symm :)
       · refine aq 1 ?_
         exact rf [0,1,2,3,4,10,11,12,13,14] [1] (j15 _ (Option.some.inj h).symm :)
     have r13 : ∀ r',y13=.inl r'→∀ st,Ffbo_Q slf_Ffbo (data_8,a_9,b_10,limit_11,cmp_12) r' st→Q st:=fun r' e st hq=>hr r' (hy131 r' e) st hq
     replace h:=hy13
     refine sq h (fun h=>?_) (fun h=>?_)
     · refine cq 6 [40,41,42,43] [.hs 1 0 [] 4 0 ((x6.2.2.2.2.2).map enc_Event).length,I (x6.1),I (x6.2.1),.fn 52 []] 226 ?_
       obtain ⟨r37,hr37,h⟩:=bS h
       obtain ⟨g38,h⟩:=gG h
       refine oq 242 (.tup []) rfl (e_callV rfl rfl (call_P rfl rfl rfl (avO (hd1 rfl (hd_hs (path:=[]) rfl rfl (ra_n) rfl)) (avS (shP rfl) (avS (shP rfl) (avS (shP rfl) (avN))))) (Ffbd_F hr37) (.inr rfl) (bl_c rfl rfl rfl rfl (bl_n)) rfl rfl rfl)) ?_
       try rw [len_eqM (f:=enc_Event) (xs:=x6.2.2.2.2.2) (ys:=r37) g38]
       refine cq 6 [3] [I ((w64 (x6.2.2.1 - 1)))] 290 ?_
       exact rf [0,1,2,3,4,10,11,12] [1] (j13 _ (Option.some.inj h).symm :)
     · refine aq 1 ?_
       exact rf [0,1,2,3,4,10,11,12] [1] (j13 _ (Option.some.inj h).symm :)
theorem Ffbo_run (slf_Ffbo : ((List Event) × Int × Int × Int × Unit)→Option ((List Event))) (data_8 : List Event) (a_9 : Int) (b_10 : Int) (limit_11 : Int) (cmp_12 : Unit) (r : (List Event)) (h : Ffbo_B slf_Ffbo data_8 a_9 b_10 limit_11 cmp_12=some r) : RunF (Ffbo_E slf_Ffbo) Tryd.f94 [true,false,false,false,false] 1 (Ffbo_A (data_8,a_9,b_10,limit_11,cmp_12)) (Ffbo_R r):=by
 show Run _ _ (Ffbo_Q slf_Ffbo (data_8,a_9,b_10,limit_11,cmp_12) r) [.code Ffbo_c] _
 refine rin (n:=148) [(0,.hs 1 0 [] 4 0 ((data_8).map enc_Event).length),(1,I (a_9)),(2,I (b_10)),(3,I (limit_11)),(4,.fn 52 [])] [(1,some ⟨0,4,(data_8).map enc_Event⟩)] 2 (by kernel_rfl) (by kernel_rfl) (by kernel_rfl) rfl ?_
 unfold Ffbo_B at h
 refine cq 9 [10,11] [B (true),B (true)] 34 ?_
 obtain ⟨y39,hy39,hy391,hy392⟩:=bJ h
 refine s_loop rfl ?_
 refine rf [0,1,2,3,4,10,11] [1] (Ffbo_la_run slf_Ffbo data_8 a_9 b_10 limit_11 cmp_12 rfl _ _ hy39 (fun r' e st hq=>by rw [hy391 r' e] at hq; exact hq) fun u39 hu=>?_)
 replace h:=hy392 u39 hu
 cases h
theorem Ffbo_good {G : Go.Ln.Ground} : Good Tryd.prog G 94 Ffbo_ent:=good_rec fun slf_Ffbo g_Ffbo=>good_T (fnOf_good (gl_c Ffbg_good (gl_c Ffbf_good (gl_c Ffbe_good (gl_c Ffbn_good (gl_c Ffbm_good (gl_c g_Ffbo (gl_c Fff_good (gl_c Ffbl_good (gl_c Ffbp_good (gl_c Ffbd_good (gl_n)))))))))))) agree_mk (Checked.mixed Tryd.checked) Tryd.func94 (n:=5) (m:=1) ⟨rfl,rfl,by decide⟩ (fun _=>⟨rfl,rfl⟩) (fun a r h=>Ffbo_run slf_Ffbo a.1 a.2.1 a.2.2.1 a.2.2.2.1 a.2.2.2.2 r h)
def Ffbc_A : ((List Event) × Unit)→List V:=cA (usE 4 enc_Event) (oA (fun x : Unit=>(.fn 52 [] : V)))
def Ffbc_R (r : (List Event)) : V × List V:=(.tup [],[.usl 4 ((r).map enc_Event)])
noncomputable def Ffbc_ent : Ent:=entT [true,false] Ffbc_A Ffbc_R fun x=>Ffbc x.1 x.2
theorem Ffbc_F {x_4 : List Event} {cmp_5 : Unit} {r} (h : Ffbc x_4 cmp_5=some r) : (Ffbc_ent).F (Ffbc_A (x_4,cmp_5))=some (Ffbc_R r):=entT_F (cA_inj (usl_inj enc_Event_inj) (oA_inj (fn_inj0 ))) h
noncomputable def Ffbc_c : Code:=bodyOf Tryd.f70
noncomputable def Ffbc_E : Env:=mkE Tryd.prog [(95,Ffu_ent),(94,Ffbo_ent)]
def Ffbc_Q (x : (List Event) × Unit) (r : (List Event)) : St→Prop:=QF Ffbc_E Tryd.f70 [true,false] (Ffbc_A x) (Ffbc_R r)
theorem Ffbc_run (x_4 : List Event) (cmp_5 : Unit) (r : (List Event)) (h : Ffbc x_4 cmp_5=some r) : RunF Ffbc_E Tryd.f70 [true,false] 1 (Ffbc_A (x_4,cmp_5)) (Ffbc_R r):=by
 show Run _ _ (Ffbc_Q (x_4,cmp_5) r) [.code Ffbc_c] _
 refine rin (n:=14) [(0,.hs 1 0 [] 4 0 ((x_4).map enc_Event).length),(1,.fn 52 [])] [(1,some ⟨0,4,(x_4).map enc_Event⟩)] 2 (by kernel_rfl) (by kernel_rfl) (by kernel_rfl) rfl ?_
 unfold Ffbc at h
 refine cq 3 [5] [.hs 1 0 [] 4 0 ((x_4).map enc_Event).length] 18 ?_
 refine oq 34 (I ((len x_4))) rfl (e_len rfl rfl rfl (l_hsM (f:=enc_Event) (xs:=x_4) rfl rfl)) ?_
 refine cq 7 [7,8,10] [.hs 1 0 [] 4 0 ((x_4).map enc_Event).length,I ((len x_4)),.int .u64 ((IntKind.u64.wrap (len x_4)))] 114 ?_
 obtain ⟨r3,hr3,h⟩:=bS h
 refine oq 130 (I (r3)) rfl (e_callV rfl rfl (call_P rfl rfl rfl (avS (shP rfl) (avN)) (Ffu_F hr3) (.inr rfl) (bl_n) rfl rfl rfl)) ?_
 refine cq 1 [12] [.fn 52 []] 146 ?_
 obtain ⟨r4,hr4,h⟩:=bS h
 obtain ⟨g5,h⟩:=gG h
 refine oq 162 (.tup []) rfl (e_callV rfl rfl (call_P rfl rfl rfl (avO (hd1 rfl (hd_hs (path:=[]) rfl rfl (ra_n) rfl)) (avS (shP rfl) (avS (shP rfl) (avS (shP rfl) (avS (shP rfl) (avN)))))) (Ffbo_F hr4) (.inr rfl) (bl_c rfl rfl rfl rfl (bl_n)) rfl rfl rfl)) ?_
 try rw [len_eqM (f:=enc_Event) (xs:=x_4) (ys:=r4) g5]
 refine aq 1 ?_
 obtain ⟨g6,h⟩:=gG h
 obtain rfl:=Option.some.inj h
 exact s_end ⟨_,fin (vs:=[]) rfl (absEN) rfl (ou_1 rfl (oc_hsG (f:=enc_Event) (xs:=r4) (by simpa using g6) rfl) (ou_f (ou_n))),kl_c (kl_n)⟩
theorem Ffbc_good {G : Go.Ln.Ground} : Good Tryd.prog G 70 Ffbc_ent:=good_T (fnOf_good (gl_c Ffu_good (gl_c Ffbo_good (gl_n)))) agree_mk (Checked.mixed Tryd.checked) Tryd.func70 (n:=2) (m:=1) ⟨rfl,rfl,by decide⟩ (fun _=>⟨rfl,rfl⟩) (fun a r h=>Ffbc_run a.1 a.2 r h)
def Ffl_A : ((List Event) × Int)→List V:=cA (slE enc_Event) (oA I)
def Ffl_R (r : (List Event) × Bool) : V × List V:=(.tup [.usl 4 ((r.1).map enc_Event),B (r.2)],[])
noncomputable def Ffl_ent : Ent:=entT [false,false] Ffl_A Ffl_R fun x=>Ffl x.1 x.2
theorem Ffl_F {list_1 : List Event} {parties_2 : Int} {r} (h : Ffl list_1 parties_2=some r) : (Ffl_ent).F (Ffl_A (list_1,parties_2))=some (Ffl_R r):=entT_F (cA_inj (isl_inj enc_Event_inj) (oA_inj I_inj)) h
noncomputable def Ffl_c : Code:=bodyOf Tryd.f39
noncomputable def Ffl_E : Env:=mkE Tryd.prog [(50,Ffm_ent),(56,Ffw_ent),(70,Ffbc_ent)]
def Ffl_Q (x : (List Event) × Int) (r : (List Event) × Bool) : St→Prop:=QF Ffl_E Tryd.f39 [false,false] (Ffl_A x) (Ffl_R r)
theorem Ffl_run (list_1 : List Event) (parties_2 : Int) (r : (List Event) × Bool) (h : Ffl list_1 parties_2=some r) : RunF Ffl_E Tryd.f39 [false,false] 0 (Ffl_A (list_1,parties_2)) (Ffl_R r):=by
 show Run _ _ (Ffl_Q (list_1,parties_2) r) [.code Ffl_c] _
 refine rin (n:=16) [(0,.isl false ((list_1).map enc_Event)),(1,I (parties_2))] [] 1 (by kernel_rfl) (by kernel_rfl) (by kernel_rfl) rfl ?_
 unfold Ffl at h
 refine cq 10 [7,8] [.isl false ((list_1).map enc_Event),I (parties_2)] 65 ?_
 obtain ⟨r3,hr3,h⟩:=bS h
 refine oq 81 (B (r3)) rfl (e_callV rfl rfl (call_P rfl rfl rfl (avS (shP rfl) (avS (shP rfl) (avN))) (Ffm_F hr3) (.inr rfl) (bl_n) rfl rfl rfl)) ?_
 refine cq 2 [10] [B ((!r3))] 97 ?_
 refine sq h (fun h=>?_) (fun h=>?_)
 · refine cq 5 [4,5] [.isl true [],B (false)] 129 ?_
   refine run_own 4 0 4 145 (.hs 129 0 [] 4 0 0) rfl rfl rfl rfl rfl ?_
   obtain rfl:=Option.some.inj h
   exact s_ret rfl ⟨_,fin (vs:=[.hs 129 0 [] 4 0 0,B (false)]) rfl (absE (abs1 rfl (abs_hs rfl rfl)) (absE (absorb_plain rfl) (absEN))) rfl (ou_f (ou_f (ou_n))),kl_n⟩
 · refine aq 1 ?_
   refine cq 3 [11] [.isl false ((list_1).map enc_Event)] 113 ?_
   obtain ⟨r4,hr4,h⟩:=bS h
   refine oq 129 (.hs 113 0 [] 4 0 ((r4).map enc_Event).length) rfl (e_callV rfl rfl (call_P rfl rfl rfl (avS (shP rfl) (avN)) (Ffw_F hr4) (.inr rfl) (bl_n) rfl rfl rfl)) ?_
   refine cq 5 [6,13] [.hs 113 0 [] 4 0 ((r4).map enc_Event).length,.hs 113 0 [] 4 0 ((r4).map enc_Event).length] 161 ?_
   obtain ⟨r5,hr5,h⟩:=bS h
   obtain ⟨g6,h⟩:=gG h
   refine oq 177 (.tup []) rfl (e_callV rfl rfl (call_P rfl rfl rfl (avO (hd1 rfl (hd_hs (path:=[]) rfl rfl (ra_n) rfl)) (avS (shP rfl) (avN))) (Ffbc_F hr5) (.inr rfl) (bl_c rfl rfl rfl rfl (bl_n)) rfl rfl rfl)) ?_
   try rw [len_eqM (f:=enc_Event) (xs:=r4) (ys:=r5) g6]
   refine cq 7 [4,5] [.hs 113 0 [] 4 0 ((r5).map enc_Event).length,B (true)] 225 ?_
   obtain rfl:=Option.some.inj h
   exact s_ret rfl ⟨_,fin (vs:=[.hs 113 0 [] 4 0 ((r5).map enc_Event).length,B (true)]) rfl (absE (abs1 rfl (abs_hs rfl rfl)) (absE (absorb_plain rfl) (absEN))) rfl (ou_f (ou_f (ou_n))),kl_n⟩
theorem Ffl_good {G : Go.Ln.Ground} : Good Tryd.prog G 39 Ffl_ent:=good_T (fnOf_good (gl_c Ffm_good (gl_c Ffw_good (gl_c Ffbc_good (gl_n))))) agree_mk (Checked.mixed Tryd.checked) Tryd.func39 (n:=2) (m:=0) ⟨rfl,rfl,by decide⟩ (fun _=>⟨rfl,rfl⟩) (fun a r h=>Ffl_run a.1 a.2 r h)
def spec_l1In_A : (Int × Int × Int)→List V:=cA I (cA I (oA I))
def spec_l1In_R (r : Bool) : V × List V:=(B (r),[])
noncomputable def spec_l1In_ent : Ent:=entT [false,false,false] spec_l1In_A spec_l1In_R fun x=>spec_l1In x.1 x.2.1 x.2.2
theorem spec_l1In_F {x_1 : Int} {a_2 : Int} {b_3 : Int} {r} (h : spec_l1In x_1 a_2 b_3=some r) : (spec_l1In_ent).F (spec_l1In_A (x_1,a_2,b_3))=some (spec_l1In_R r):=entT_F (cA_inj I_inj (cA_inj I_inj (oA_inj I_inj))) h
noncomputable def spec_l1In_c : Code:=bodyOf Tryd.f54
noncomputable def spec_l1In_E : Env:=mkE Tryd.prog []
def spec_l1In_Q (x : Int × Int × Int) (r : Bool) : St→Prop:=QF spec_l1In_E Tryd.f54 [false,false,false] (spec_l1In_A x) (spec_l1In_R r)
theorem spec_l1In_run (x_1 : Int) (a_2 : Int) (b_3 : Int) (r : Bool) (h : spec_l1In x_1 a_2 b_3=some r) : RunF spec_l1In_E Tryd.f54 [false,false,false] 0 (spec_l1In_A (x_1,a_2,b_3)) (spec_l1In_R r):=by
 show Run _ _ (spec_l1In_Q (x_1,a_2,b_3) r) [.code spec_l1In_c] _
 refine rin (n:=15) [(0,I (x_1)),(1,I (a_2)),(2,I (b_3))] [] 1 (by kernel_rfl) (by kernel_rfl) (by kernel_rfl) rfl ?_
 unfold spec_l1In at h
 refine cq 10 [10] [B ((decide (x_1 ≥ a_2)))] 81 ?_
 obtain ⟨u4,hu4,h⟩:=lJ h
 have j4 : Run spec_l1In_E 0 (spec_l1In_Q (x_1,a_2,b_3) r) (.code (cR (cR spec_l1In_c)) :: []) (sT 15 [(6,B (u4))] [] 1):=by
   obtain rfl:=Option.some.inj h
   exact s_ret rfl ⟨_,fin (vs:=[B (u4)]) rfl (absE (absorb_plain rfl) (absEN)) rfl (ou_f (ou_f (ou_f (ou_n)))),kl_n⟩
 replace h:=hu4
 clear hu4
 refine sp 10 h rfl (fun h=>?_) (fun h=>?_)
 · refine cq 6 [6] [B ((decide (x_1 ≤ b_3)))] 161 ?_
   subst h
   exact rf [6] [] (j4 :)
 · refine cq 6 [6] [B (false)] 161 ?_
   subst h
   exact rf [6] [] (j4 :)
theorem spec_l1In_good {G : Go.Ln.Ground} : Good Tryd.prog G 54 spec_l1In_ent:=good_T (fnOf_good (gl_n)) agree_mk (Checked.mixed Tryd.checked) Tryd.func54 (n:=3) (m:=0) ⟨rfl,rfl,by decide⟩ (fun _=>⟨rfl,rfl⟩) (fun a r h=>spec_l1In_run a.1 a.2.1 a.2.2 r h)
def Ffci_A : Int→List V:=oA I
def Ffci_R (r : Bool) : V × List V:=(B (r),[])
noncomputable def Ffci_ent : Ent:=entT [false] Ffci_A Ffci_R fun x=>Ffci x
theorem Ffci_F {day_1 : Int} {r} (h : Ffci day_1=some r) : (Ffci_ent).F (Ffci_A day_1)=some (Ffci_R r):=entT_F (oA_inj I_inj) h
noncomputable def Ffci_c : Code:=bodyOf Tryd.f85
noncomputable def Ffci_E : Env:=mkE Tryd.prog [(54,spec_l1In_ent)]
def Ffci_Q (x : Int) (r : Bool) : St→Prop:=QF Ffci_E Tryd.f85 [false] (Ffci_A x) (Ffci_R r)
theorem Ffci_run (day_1 : Int) (r : Bool) (h : Ffci day_1=some r) : RunF Ffci_E Tryd.f85 [false] 0 (Ffci_A day_1) (Ffci_R r):=by
 show Run _ _ (Ffci_Q day_1 r) [.code Ffci_c] _
 refine rin (n:=5) [(0,I (day_1))] [] 1 (by kernel_rfl) (by kernel_rfl) (by kernel_rfl) rfl ?_
 unfold Ffci at h
 refine cq 7 [3] [I (day_1)] 33 ?_
 obtain ⟨r2,hr2,h⟩:=bS h
 refine oq 49 (B (r2)) rfl (e_callV rfl rfl (call_P rfl rfl rfl (avS (shP rfl) (avS (shP rfl) (avS (shP rfl) (avN)))) (spec_l1In_F hr2) (.inr rfl) (bl_n) rfl rfl rfl)) ?_
 refine cq 2 [2] [B (r2)] 65 ?_
 obtain rfl:=Option.some.inj h
 exact s_ret rfl ⟨_,fin (vs:=[B (r2)]) rfl (absE (absorb_plain rfl) (absEN)) rfl (ou_f (ou_n)),kl_n⟩
theorem Ffci_good {G : Go.Ln.Ground} : Good Tryd.prog G 85 Ffci_ent:=good_T (fnOf_good (gl_c spec_l1In_good (gl_n))) agree_mk (Checked.mixed Tryd.checked) Tryd.func85 (n:=1) (m:=0) ⟨rfl,rfl,by decide⟩ (fun _=>⟨rfl,rfl⟩) (fun a r h=>Ffci_run a r h)
def Ffcl_A : Int→List V:=oA (V.int .u8)
def Ffcl_R (r : Bool) : V × List V:=(B (r),[])
noncomputable def Ffcl_ent : Ent:=entT [false] Ffcl_A Ffcl_R fun x=>Ffcl x
theorem Ffcl_F {b_1 : Int} {r} (h : Ffcl b_1=some r) : (Ffcl_ent).F (Ffcl_A b_1)=some (Ffcl_R r):=entT_F (oA_inj (vint_inj (k:=.u8))) h
noncomputable def Ffcl_c : Code:=bodyOf Tryd.f105
noncomputable def Ffcl_E : Env:=mkE Tryd.prog []
def Ffcl_Q (x : Int) (r : Bool) : St→Prop:=QF Ffcl_E Tryd.f105 [false] (Ffcl_A x) (Ffcl_R r)
theorem Ffcl_run (b_1 : Int) (r : Bool) (h : Ffcl b_1=some r) : RunF Ffcl_E Tryd.f105 [false] 0 (Ffcl_A b_1) (Ffcl_R r):=by
 show Run _ _ (Ffcl_Q b_1 r) [.code Ffcl_c] _
 refine rin (n:=17) [(0,.int .u8 (b_1))] [] 1 (by kernel_rfl) (by kernel_rfl) (by kernel_rfl) rfl ?_
 unfold Ffcl at h
 refine cq 9 [5] [B ((decide (b_1 ≥ 97)))] 65 ?_
 obtain ⟨u2,hu2,h⟩:=lJ h
 have j2 : Run Ffcl_E 0 (Ffcl_Q b_1 r) (.code (cR (cR Ffcl_c)) :: []) (sT 17 [(2,B (u2))] [] 1):=by
   obtain rfl:=Option.some.inj h
   exact s_ret rfl ⟨_,fin (vs:=[B (u2)]) rfl (absE (absorb_plain rfl) (absEN)) rfl (ou_f (ou_n)),kl_n⟩
 replace h:=hu2
 clear hu2
 refine sp 5 h rfl (fun h=>?_) (fun h=>?_)
 · refine cq 4 [9] [B ((decide (b_1 ≤ 122)))] 129 ?_
   obtain ⟨u3,hu3,h⟩:=lJ h
   have j3 : Run Ffcl_E 0 (Ffcl_Q b_1 r) (.code (cR (cR Ffcl_c)) :: []) (sT 17 [(2,B (u3))] [] 1):=by
     subst h
     exact rf [2] [] (j2 :)
   replace h:=hu3
   clear hu3
   refine sp 9 h rfl (fun h=>?_) (fun h=>?_)
   · refine cq 9 [2] [B (true)] 257 ?_
     subst h
     exact rf [2] [] (j3 :)
   · refine cq 3 [12] [B ((decide (b_1 ≥ 48)))] 177 ?_
     obtain ⟨u4,hu4,h⟩:=lJ h
     have j4 : Run Ffcl_E 0 (Ffcl_Q b_1 r) (.code (cR (cR Ffcl_c)) :: []) (sT 17 [(2,B (u4))] [] 1):=by
       subst h
       exact rf [2] [] (j3 :)
     replace h:=hu4
     clear hu4
     refine sp 12 h rfl (fun h=>?_) (fun h=>?_)
     · refine cq 6 [2] [B ((decide (b_1 ≤ 57)))] 257 ?_
       subst h
       exact rf [2] [] (j4 :)
     · refine cq 6 [2] [B (false)] 257 ?_
       subst h
       exact rf [2] [] (j4 :)
 · refine cq 7 [9,12] [B (false),B ((decide (b_1 ≥ 48)))] 177 ?_
   obtain ⟨u5,hu5,h⟩:=lJ h
   have j5 : Run Ffcl_E 0 (Ffcl_Q b_1 r) (.code (cR (cR Ffcl_c)) :: []) (sT 17 [(2,B (u5))] [] 1):=by
     subst h
     exact rf [2] [] (j2 :)
   replace h:=hu5
   clear hu5
   refine sp 12 h rfl (fun h=>?_) (fun h=>?_)
   · refine cq 6 [2] [B ((decide (b_1 ≤ 57)))] 257 ?_
     subst h
     exact rf [2] [] (j5 :)
   · refine cq 6 [2] [B (false)] 257 ?_
     subst h
     exact rf [2] [] (j5 :)
theorem Ffcl_good {G : Go.Ln.Ground} : Good Tryd.prog G 105 Ffcl_ent:=good_T (fnOf_good (gl_n)) agree_mk (Checked.mixed Tryd.checked) Tryd.func105 (n:=1) (m:=0) ⟨rfl,rfl,by decide⟩ (fun _=>⟨rfl,rfl⟩) (fun a r h=>Ffcl_run a r h)
def Ffck_A : Str→List V:=oA str
def Ffck_R (r : Bool) : V × List V:=(B (r),[])
noncomputable def Ffck_ent : Ent:=entT [false] Ffck_A Ffck_R fun x=>Ffck x
theorem Ffck_F {s_1 : Str} {r} (h : Ffck s_1=some r) : (Ffck_ent).F (Ffck_A s_1)=some (Ffck_R r):=entT_F (oA_inj str_inj) h
noncomputable def Ffck_c : Code:=bodyOf Tryd.f86
noncomputable abbrev Ffck_ka : Code:=cR (cR (cR (cR Ffck_c)))
noncomputable abbrev Ffck_kb : Code:=cR (cL (cR (cL (cR (cR (cR Ffck_c))))))
noncomputable def Ffck_E : Env:=mkE Tryd.prog [(54,spec_l1In_ent),(105,Ffcl_ent)]
def Ffck_Q (x : Str) (r : Bool) : St→Prop:=QF Ffck_E Tryd.f86 [false] (Ffck_A x) (Ffck_R r)
theorem Ffck_la_run (s_1 : Str)  {Q : St→Prop} {K : List It} (hK : noD K=true) : ∀ (x4 : Int) (y : Bool ⊕ Unit),Ffck_la s_1 x4=some y→(∀ r',y=.inl r'→∀ st,Ffck_Q s_1 r' st→Q st)→(∀ u : Unit,y=.inr u→Run Ffck_E 0 Q K (sT 40 [(0,str (s_1))] [] 1))→Run Ffck_E 0 Q (.code (cL (cL (cR (cL (cR (cR Ffck_c)))))) :: .lp (cL (cL (cR (cL (cR (cR Ffck_c)))))) :: .blk 0 :: K) (sT 40 [(0,str (s_1)),(3,I (x4))] [] 1):=by
 refine fix_indP (Ffck_la_fin s_1) ?_
 intro self ih x4 y h hr hn
 unfold Ffck_la_F at h
 refine cq 8 [21] [B ((decide (x4 < (len s_1))))] 65 ?_
 refine sq h (fun h=>?_) (fun h=>?_)
 · refine aq 1 ?_
   refine cq 6 [24,25] [str (s_1),I (x4)] 97 ?_
   obtain ⟨c5,hc5,h⟩:=bS h
   refine oq 113 (.int .u8 ((c5.toNat : Int))) rfl (e_index rfl rfl (i_str rfl rfl hc5)) ?_
   obtain ⟨r6,hr6,h⟩:=bS h
   refine oq 129 (B (r6)) rfl (e_callV rfl rfl (call_P rfl rfl rfl (avS (shP rfl) (avN)) (Ffcl_F hr6) (.inr rfl) (bl_n) rfl rfl rfl)) ?_
   refine cq 2 [28] [B ((!r6))] 145 ?_
   refine sq h (fun h=>?_) (fun h=>?_)
   · refine cq 4 [2] [B (false)] 161 ?_
     exact s_ret rfl (hr _ (Option.some.inj h).symm _ ⟨_,fin (vs:=[B (false)]) rfl (absE (absorb_plain rfl) (absEN)) rfl (ou_f (ou_n)),kl_n⟩)
   · refine aq 1 ?_
     refine cq 6 [3] [I ((w64 (x4 + 1)))] 193 ?_
     refine s_lp ?_
     exact rf [0,3] [] (ih _ _ h hr hn :)
 · refine aq 1 ?_
   exact rf [0] [] (hn _ (Option.some.inj h).symm :) (hk:=hK)
theorem Ffck_run (s_1 : Str) (r : Bool) (h : Ffck s_1=some r) : RunF Ffck_E Tryd.f86 [false] 0 (Ffck_A s_1) (Ffck_R r):=by
 show Run _ _ (Ffck_Q s_1 r) [.code Ffck_c] _
 refine rin (n:=40) [(0,str (s_1))] [] 1 (by kernel_rfl) (by kernel_rfl) (by kernel_rfl) rfl ?_
 unfold Ffck at h
 refine cq 9 [5] [I ((len s_1))] 49 ?_
 obtain ⟨r2,hr2,h⟩:=bS h
 refine oq 65 (B (r2)) rfl (e_callV rfl rfl (call_P rfl rfl rfl (avS (shP rfl) (avS (shP rfl) (avS (shP rfl) (avN)))) (spec_l1In_F hr2) (.inr rfl) (bl_n) rfl rfl rfl)) ?_
 refine cq 2 [8] [B ((!r2))] 97 ?_
 obtain ⟨y3,hy3,hy31,hy32⟩:=bJ h
 have j3 : ∀ u3,y3=.inr u3→Run Ffck_E 0 (Ffck_Q s_1 r) (.code (cR (cL (cR Ffck_c))) :: .code (cR (cR Ffck_c)) :: []) (sT 40 [(0,str (s_1)),(17,B (u3))] [] 1):=by
   intro u3 hu
   replace h:=hy32 u3 hu
   refine sq h (fun h=>?_) (fun h=>?_)
   · refine cq 4 [2] [B (false)] 17 ?_
     obtain rfl:=Option.some.inj h
     exact s_ret rfl ⟨_,fin (vs:=[B (false)]) rfl (absE (absorb_plain rfl) (absEN)) rfl (ou_f (ou_n)),kl_n⟩
   · refine aq 1 ?_
     refine cq 6 [3] [I (0)] 17 ?_
     obtain ⟨y7,hy7,hy71,hy72⟩:=bJ h
     refine s_loop rfl ?_
     refine rf [0,3] [] (Ffck_la_run s_1 rfl _ _ hy7 (fun r' e st hq=>by rw [hy71 r' e] at hq; exact hq) fun u7 hu=>?_)
     replace h:=hy72 u7 hu
     refine cq 12 [29,30] [str (s_1),B ((s_1 == ([116,114,117,101] : Str)))] 49 ?_
     obtain ⟨u8,hu8,h⟩:=lJ h
     have j8 : Run Ffck_E 0 (Ffck_Q s_1 r) (.code Ffck_kb :: .blk 2 :: .code Ffck_ka :: []) (sT 40 [(30,B (u8))] [] 1):=by
       refine sq h (fun h=>?_) (fun h=>?_)
       · refine cq 4 [2] [B (false)] 17 ?_
         obtain rfl:=Option.some.inj h
         exact s_ret rfl ⟨_,fin (vs:=[B (false)]) rfl (absE (absorb_plain rfl) (absEN)) rfl (ou_f (ou_n)),kl_n⟩
       · refine aq 1 ?_
         refine cq 5 [2] [B (true)] 17 ?_
         obtain rfl:=Option.some.inj h
         exact s_ret rfl ⟨_,fin (vs:=[B (true)]) rfl (absE (absorb_plain rfl) (absEN)) rfl (ou_f (ou_n)),kl_n⟩
     replace h:=hu8
     clear hu8
     refine scp h rfl rfl (fun h=>?_) (fun h=>?_)
     · refine aq 1 ?_
       subst h
       exact rf [30] [] (j8 :)
     · refine cq 5 [30] [B ((s_1 == ([102,114,111,109] : Str)))] 81 ?_
       obtain ⟨u9,hu9,h⟩:=lJ h
       have j9 : Run Ffck_E 0 (Ffck_Q s_1 r) (.code Ffck_kb :: .blk 2 :: .code Ffck_ka :: []) (sT 40 [(30,B (u9))] [] 1):=by
         subst h
         exact rf [30] [] (j8 :)
       replace h:=hu9
       clear hu9
       refine scp h rfl rfl (fun h=>?_) (fun h=>?_)
       · refine aq 1 ?_
         subst h
         exact rf [30] [] (j9 :)
       · refine cq 5 [30] [B ((s_1 == ([110,111,116] : Str)))] 113 ?_
         obtain ⟨u10,hu10,h⟩:=lJ h
         have j10 : Run Ffck_E 0 (Ffck_Q s_1 r) (.code Ffck_kb :: .blk 2 :: .code Ffck_ka :: []) (sT 40 [(30,B (u10))] [] 1):=by
           subst h
           exact rf [30] [] (j9 :)
         replace h:=hu10
         clear hu10
         refine scp h rfl rfl (fun h=>?_) (fun h=>?_)
         · refine aq 1 ?_
           subst h
           exact rf [30] [] (j10 :)
         · refine cq 5 [30] [B ((s_1 == ([97,110,100] : Str)))] 145 ?_
           obtain ⟨u11,hu11,h⟩:=lJ h
           have j11 : Run Ffck_E 0 (Ffck_Q s_1 r) (.code Ffck_kb :: .blk 2 :: .code Ffck_ka :: []) (sT 40 [(30,B (u11))] [] 1):=by
             subst h
             exact rf [30] [] (j10 :)
           replace h:=hu11
           clear hu11
           refine scp h rfl rfl (fun h=>?_) (fun h=>?_)
           · refine aq 1 ?_
             subst h
             exact rf [30] [] (j11 :)
           · refine cq 5 [30] [B ((s_1 == ([111,114] : Str)))] 177 ?_
             obtain ⟨u12,hu12,h⟩:=lJ h
             have j12 : Run Ffck_E 0 (Ffck_Q s_1 r) (.code Ffck_kb :: .blk 2 :: .code Ffck_ka :: []) (sT 40 [(30,B (u12))] [] 1):=by
               subst h
               exact rf [30] [] (j11 :)
             replace h:=hu12
             clear hu12
             refine scp h rfl rfl (fun h=>?_) (fun h=>?_)
             · refine aq 1 ?_
               subst h
               exact rf [30] [] (j12 :)
             · refine cq 5 [30] [B ((s_1 == ([98,111,116,104] : Str)))] 209 ?_
               obtain ⟨u13,hu13,h⟩:=lJ h
               have j13 : Run Ffck_E 0 (Ffck_Q s_1 r) (.code Ffck_kb :: .blk 2 :: .code Ffck_ka :: []) (sT 40 [(30,B (u13))] [] 1):=by
                 subst h
                 exact rf [30] [] (j12 :)
               replace h:=hu13
               clear hu13
               refine scp h rfl rfl (fun h=>?_) (fun h=>?_)
               · refine aq 1 ?_
                 subst h
                 exact rf [30] [] (j13 :)
               · refine cq 5 [30] [B ((s_1 == ([101,105,116,104,101,114] : Str)))] 241 ?_
                 obtain ⟨u14,hu14,h⟩:=lJ h
                 have j14 : Run Ffck_E 0 (Ffck_Q s_1 r) (.code Ffck_kb :: .blk 2 :: .code Ffck_ka :: []) (sT 40 [(30,B (u14))] [] 1):=by
                   subst h
                   exact rf [30] [] (j13 :)
                 replace h:=hu14
                 clear hu14
                 refine scp h rfl rfl (fun h=>?_) (fun h=>?_)
                 · refine aq 1 ?_
                   subst h
                   exact rf [30] [] (j14 :)
                 · refine cq 5 [30] [B ((s_1 == ([105,116] : Str)))] 273 ?_
                   obtain ⟨u15,hu15,h⟩:=lJ h
                   have j15 : Run Ffck_E 0 (Ffck_Q s_1 r) (.code Ffck_kb :: .blk 2 :: .code Ffck_ka :: []) (sT 40 [(30,B (u15))] [] 1):=by
                     subst h
                     exact rf [30] [] (j14 :)
                   replace h:=hu15
                   clear hu15
                   refine scp h rfl rfl (fun h=>?_) (fun h=>?_)
                   · refine aq 1 ?_
                     subst h
                     exact rf [30] [] (j15 :)
                   · refine cq 4 [30] [B ((s_1 == ([105,110] : Str)))] 305 ?_
                     subst h
                     exact rf [30] [] (j15 :)
 have r3 : ∀ r',y3=.inl r'→∀ st,Ffck_Q s_1 r' st→(Ffck_Q s_1 r) st:=fun r' e st hq=>by rw [hy31 r' e] at hq; exact hq
 replace h:=hy3
 refine sp 8 h rfl (fun h=>?_) (fun h=>?_)
 · refine cq 10 [17] [B (true)] 241 ?_
   exact rf [0,17] [] (j3 _ (Option.some.inj h).symm :)
 · refine cq 1 [9] [str (s_1)] 113 ?_
   obtain ⟨c16,hc16,h⟩:=bS h
   refine oy 129 (.int .u8 ((c16.toNat : Int))) rfl (e_index rfl rfl (i_str rfl rfl hc16)) ?_
   refine cq 3 [13] [B ((decide ((c16.toNat : Int) < 97)))] 177 ?_
   obtain ⟨y17,hy17,hy171,hy172⟩:=bL h
   have j17 : ∀ u17,y17=.inr u17→Run Ffck_E 0 (Ffck_Q s_1 r) (.code (cR (cL (cR Ffck_c))) :: .code (cR (cR Ffck_c)) :: []) (sT 40 [(0,str (s_1)),(17,B (u17))] [] 1):=by
     intro u17 hu
     replace h:=hy172 u17 hu
     exact rf [0,17] [] (j3 _ (Option.some.inj h).symm :)
   have r17 : ∀ r',y17=.inl r'→∀ st,Ffck_Q s_1 r' st→(Ffck_Q s_1 r) st:=fun r' e st hq=>r3 r' (hy171 r' e) st hq
   replace h:=hy17
   refine sp 13 h rfl (fun h=>?_) (fun h=>?_)
   · refine cq 5 [17] [B (true)] 241 ?_
     exact rf [0,17] [] (j17 _ (Option.some.inj h).symm :)
   · refine cq 1 [14] [str (s_1)] 193 ?_
     obtain ⟨c18,hc18,h⟩:=bS h
     refine oy 209 (.int .u8 ((c18.toNat : Int))) rfl (e_index rfl rfl (i_str rfl rfl hc18)) ?_
     refine cq 3 [17] [B ((decide ((c18.toNat : Int) > 122)))] 241 ?_
     exact rf [0,17] [] (j17 _ (Option.some.inj h).symm :)
theorem Ffck_good {G : Go.Ln.Ground} : Good Tryd.prog G 86 Ffck_ent:=good_T (fnOf_good (gl_c spec_l1In_good (gl_c Ffcl_good (gl_n)))) agree_mk (Checked.mixed Tryd.checked) Tryd.func86 (n:=1) (m:=0) ⟨rfl,rfl,by decide⟩ (fun _=>⟨rfl,rfl⟩) (fun a r h=>Ffck_run a r h)
def Ffcn_A : (Event × Int)→List V:=cA enc_Event (oA I)
def Ffcn_R (r : Bool) : V × List V:=(B (r),[])
noncomputable def Ffcn_ent : Ent:=entT [false,false] Ffcn_A Ffcn_R fun x=>Ffcn x.1 x.2
theorem Ffcn_F {e_1 : Event} {parties_2 : Int} {r} (h : Ffcn e_1 parties_2=some r) : (Ffcn_ent).F (Ffcn_A (e_1,parties_2))=some (Ffcn_R r):=entT_F (cA_inj enc_Event_inj (oA_inj I_inj)) h
noncomputable def Ffcn_c : Code:=bodyOf Tryd.f63
noncomputable def Ffcn_E : Env:=mkE Tryd.prog [(85,Ffci_ent),(54,spec_l1In_ent),(86,Ffck_ent)]
def Ffcn_Q (x : Event × Int) (r : Bool) : St→Prop:=QF Ffcn_E Tryd.f63 [false,false] (Ffcn_A x) (Ffcn_R r)
theorem Ffcn_run (e_1 : Event) (parties_2 : Int) (r : Bool) (h : Ffcn e_1 parties_2=some r) : RunF Ffcn_E Tryd.f63 [false,false] 0 (Ffcn_A (e_1,parties_2)) (Ffcn_R r):=by
 show Run _ _ (Ffcn_Q (e_1,parties_2) r) [.code Ffcn_c] _
 refine rin (n:=25) [(0,enc_Event e_1),(1,I (parties_2))] [] 1 (by kernel_rfl) (by kernel_rfl) (by kernel_rfl) rfl ?_
 unfold Ffcn at h
 refine ck 9 [2,6] [] [1] [] [.hp 1 0 [] 4 0 0,I (e_1.Day)] [some ⟨0,4,[enc_Event e_1]⟩] 65 (by kernel_rfl) ?_
 obtain ⟨r3,hr3,h⟩:=bS h
 refine oq 81 (B (r3)) rfl (e_callV rfl rfl (call_P rfl rfl rfl (avS (shP rfl) (avN)) (Ffci_F hr3) (.inr rfl) (bl_n) rfl rfl rfl)) ?_
 refine cq 1 [8] [B (r3)] 97 ?_
 obtain ⟨y4,hy4,hy41,hy42⟩:=bJ h
 have j4 : ∀ u4,y4=.inr u4→Run Ffcn_E 0 (Ffcn_Q (e_1,parties_2) r) (.code (cR (cR Ffcn_c)) :: []) (sT 25 [(4,B (u4))] [] 1):=by
   intro u4 hu
   replace h:=hy42 u4 hu
   obtain rfl:=Option.some.inj h
   exact s_ret rfl ⟨_,fin (vs:=[B (u4)]) rfl (absE (absorb_plain rfl) (absEN)) rfl (ou_f (ou_f (ou_n))),kl_n⟩
 have r4 : ∀ r',y4=.inl r'→∀ st,Ffcn_Q (e_1,parties_2) r' st→(Ffcn_Q (e_1,parties_2) r) st:=fun r' e st hq=>by rw [hy41 r' e] at hq; exact hq
 replace h:=hy4
 refine sp 8 h rfl (fun h=>?_) (fun h=>?_)
 · refine cq 4 [10,12] [I (e_1.Party),I ((w64 (parties_2 - 1)))] 161 ?_
   obtain ⟨r5,hr5,h⟩:=bS h
   refine oy 177 (B (r5)) rfl (e_callV rfl rfl (call_P rfl rfl rfl (avS (shP rfl) (avS (shP rfl) (avS (shP rfl) (avN)))) (spec_l1In_F hr5) (.inr rfl) (bl_n) rfl rfl rfl)) ?_
   refine cq 2 [15] [B (r5)] 209 ?_
   obtain ⟨y6,hy6,hy61,hy62⟩:=bL h
   have j6 : ∀ u6,y6=.inr u6→Run Ffcn_E 0 (Ffcn_Q (e_1,parties_2) r) (.code (cR (cR Ffcn_c)) :: []) (sT 25 [(4,B (u6))] [] 1):=by
     intro u6 hu
     replace h:=hy62 u6 hu
     exact rf [4] [] (j4 _ (Option.some.inj h).symm :)
   have r6 : ∀ r',y6=.inl r'→∀ st,Ffcn_Q (e_1,parties_2) r' st→(Ffcn_Q (e_1,parties_2) r) st:=fun r' e st hq=>r4 r' (hy61 r' e) st hq
   replace h:=hy6
   refine sp 15 h rfl (fun h=>?_) (fun h=>?_)
   · refine cq 2 [17] [str (e_1.Action)] 241 ?_
     obtain ⟨r7,hr7,h⟩:=bS h
     refine oy 257 (B (r7)) rfl (e_callV rfl rfl (call_P rfl rfl rfl (avS (shP rfl) (avN)) (Ffck_F hr7) (.inr rfl) (bl_n) rfl rfl rfl)) ?_
     refine cq 2 [20] [B (r7)] 289 ?_
     obtain ⟨y8,hy8,hy81,hy82⟩:=bL h
     have j8 : ∀ u8,y8=.inr u8→Run Ffcn_E 0 (Ffcn_Q (e_1,parties_2) r) (.code (cR (cR Ffcn_c)) :: []) (sT 25 [(4,B (u8))] [] 1):=by
       intro u8 hu
       replace h:=hy82 u8 hu
       exact rf [4] [] (j6 _ (Option.some.inj h).symm :)
     have r8 : ∀ r',y8=.inl r'→∀ st,Ffcn_Q (e_1,parties_2) r' st→(Ffcn_Q (e_1,parties_2) r) st:=fun r' e st hq=>r6 r' (hy81 r' e) st hq
     replace h:=hy8
     refine sp 20 h rfl (fun h=>?_) (fun h=>?_)
     · refine cq 2 [22] [I (e_1.Amount)] 321 ?_
       obtain ⟨r9,hr9,h⟩:=bS h
       refine oy 337 (B (r9)) rfl (e_callV rfl rfl (call_P rfl rfl rfl (avS (shP rfl) (avS (shP rfl) (avS (shP rfl) (avN)))) (spec_l1In_F hr9) (.inr rfl) (bl_n) rfl rfl rfl)) ?_
       refine cq 3 [4] [B (r9)] 369 ?_
       exact rf [4] [] (j8 _ (Option.some.inj h).symm :)
     · refine cq 6 [4] [B (false)] 369 ?_
       exact rf [4] [] (j8 _ (Option.some.inj h).symm :)
   · refine cq 11 [4] [B (false)] 369 ?_
     exact rf [4] [] (j6 _ (Option.some.inj h).symm :)
 · refine cq 18 [4] [B (false)] 369 ?_
   exact rf [4] [] (j4 _ (Option.some.inj h).symm :)
theorem Ffcn_good {G : Go.Ln.Ground} : Good Tryd.prog G 63 Ffcn_ent:=good_T (fnOf_good (gl_c Ffci_good (gl_c spec_l1In_good (gl_c Ffck_good (gl_n))))) agree_mk (Checked.mixed Tryd.checked) Tryd.func63 (n:=2) (m:=0) ⟨rfl,rfl,by decide⟩ (fun _=>⟨rfl,rfl⟩) (fun a r h=>Ffcn_run a.1 a.2 r h)
def Ffcq_A : ((List Event) × Int)→List V:=cA (slE enc_Event) (oA I)
def Ffcq_R (r : Bool) : V × List V:=(B (r),[])
noncomputable def Ffcq_ent : Ent:=entT [false,false] Ffcq_A Ffcq_R fun x=>Ffcq x.1 x.2
theorem Ffcq_F {list_1 : List Event} {parties_2 : Int} {r} (h : Ffcq list_1 parties_2=some r) : (Ffcq_ent).F (Ffcq_A (list_1,parties_2))=some (Ffcq_R r):=entT_F (cA_inj (isl_inj enc_Event_inj) (oA_inj I_inj)) h
noncomputable def Ffcq_c : Code:=bodyOf Tryd.f68
noncomputable def Ffcq_E : Env:=mkE Tryd.prog [(63,Ffcn_ent),(54,spec_l1In_ent)]
def Ffcq_Q (x : (List Event) × Int) (r : Bool) : St→Prop:=QF Ffcq_E Tryd.f68 [false,false] (Ffcq_A x) (Ffcq_R r)
theorem Ffcq_la_run (list_1 : List Event) (parties_2 : Int)  {Q : St→Prop} {K : List It} (hK : noD K=true) : ∀ (x3 : Int) (y : Bool ⊕ Unit),Ffcq_la list_1 parties_2 x3=some y→(∀ r',y=.inl r'→∀ st,Ffcq_Q (list_1,parties_2) r' st→Q st)→(∀ u : Unit,y=.inr u→Run Ffcq_E 0 Q K (sT 30 [(0,.isl false ((list_1).map enc_Event)),(1,I (parties_2))] [] 1))→Run Ffcq_E 0 Q (.code (cL (cL (cR (cL (cR Ffcq_c))))) :: .lp (cL (cL (cR (cL (cR Ffcq_c))))) :: .blk 0 :: K) (sT 30 [(0,.isl false ((list_1).map enc_Event)),(1,I (parties_2)),(5,I (x3))] [] 1):=by
 refine fix_indP (Ffcq_la_fin list_1 parties_2) ?_
 intro self ih x3 y h hr hn
 unfold Ffcq_la_F at h
 refine cq 5 [6,7] [I (x3),.isl false ((list_1).map enc_Event)] 33 ?_
 refine oq 49 (I ((len list_1))) rfl (e_len rfl rfl rfl (l_isl rfl)) ?_
 refine cq 2 [10] [B ((decide (x3 < (len list_1))))] 81 ?_
 obtain ⟨u4,hu4,h⟩:=lJ h
 have j4 : Run Ffcq_E 0 Q (.code (cR (cL (cL (cL (cR (cL (cR Ffcq_c))))))) :: .code (cR (cL (cL (cR (cL (cR Ffcq_c)))))) :: .lp (cL (cL (cR (cL (cR Ffcq_c))))) :: .blk 0 :: K) (sT 30 [(0,.isl false ((list_1).map enc_Event)),(1,I (parties_2)),(5,I (x3)),(13,B (u4))] [] 1):=by
   refine sq h (fun h=>?_) (fun h=>?_)
   · refine aq 1 ?_
     refine cq 6 [16,17] [.isl false ((list_1).map enc_Event),I (x3)] 33 ?_
     obtain ⟨e5,he5,h⟩:=bS h
     refine oq 49 (.iptr (enc_Event e5) 0) rfl (e_indexAddr rfl rfl rfl (ix_islE rfl rfl rfl rfl he5)) ?_
     refine cq 2 [19,20] [enc_Event e5,I (parties_2)] 81 ?_
     obtain ⟨r6,hr6,h⟩:=bS h
     refine oq 97 (B (r6)) rfl (e_callV rfl rfl (call_P rfl rfl rfl (avS (shP rfl) (avS (shP rfl) (avN))) (Ffcn_F hr6) (.inr rfl) (bl_n) rfl rfl rfl)) ?_
     refine cq 2 [22] [B ((!r6))] 113 ?_
     refine sq h (fun h=>?_) (fun h=>?_)
     · refine cq 4 [4] [B (false)] 129 ?_
       exact s_ret rfl (hr _ (Option.some.inj h).symm _ ⟨_,fin (vs:=[B (false)]) rfl (absE (absorb_plain rfl) (absEN)) rfl (ou_f (ou_f (ou_n))),kl_n⟩)
     · refine aq 1 ?_
       refine cq 6 [5] [I ((w64 (x3 + 1)))] 161 ?_
       refine s_lp ?_
       exact rf [0,1,5] [] (ih _ _ h hr hn :)
   · refine aq 1 ?_
     exact rf [0,1] [] (hn _ (Option.some.inj h).symm :) (hk:=hK)
 replace h:=hu4
 clear hu4
 refine sp 10 h rfl (fun h=>?_) (fun h=>?_)
 · refine cq 4 [13] [B ((decide (x3 ≤ 40)))] 129 ?_
   subst h
   exact rf [0,1,5,13] [] (j4 :)
 · refine cq 4 [13] [B (false)] 129 ?_
   subst h
   exact rf [0,1,5,13] [] (j4 :)
theorem Ffcq_run (list_1 : List Event) (parties_2 : Int) (r : Bool) (h : Ffcq list_1 parties_2=some r) : RunF Ffcq_E Tryd.f68 [false,false] 0 (Ffcq_A (list_1,parties_2)) (Ffcq_R r):=by
 show Run _ _ (Ffcq_Q (list_1,parties_2) r) [.code Ffcq_c] _
 refine rin (n:=30) [(0,.isl false ((list_1).map enc_Event)),(1,I (parties_2))] [] 1 (by kernel_rfl) (by kernel_rfl) (by kernel_rfl) rfl ?_
 unfold Ffcq at h
 refine cq 10 [5] [I (0)] 33 ?_
 obtain ⟨y7,hy7,hy71,hy72⟩:=bJ h
 refine s_loop rfl ?_
 refine rf [0,1,5] [] (Ffcq_la_run list_1 parties_2 rfl _ _ hy7 (fun r' e st hq=>by rw [hy71 r' e] at hq; exact hq) fun u7 hu=>?_)
 replace h:=hy72 u7 hu
 refine cq 3 [23] [.isl false ((list_1).map enc_Event)] 17 ?_
 refine oq 33 (I ((len list_1))) rfl (e_len rfl rfl rfl (l_isl rfl)) ?_
 refine cq 2 [26] [B ((decide ((len list_1) ≤ 40)))] 65 ?_
 obtain ⟨y8,hy8,hy81,hy82⟩:=bJ h
 have j8 : ∀ u8,y8=.inr u8→Run Ffcq_E 0 (Ffcq_Q (list_1,parties_2) r) (.code (cR (cR (cR Ffcq_c))) :: []) (sT 30 [(4,B (u8))] [] 1):=by
   intro u8 hu
   replace h:=hy82 u8 hu
   obtain rfl:=Option.some.inj h
   exact s_ret rfl ⟨_,fin (vs:=[B (u8)]) rfl (absE (absorb_plain rfl) (absEN)) rfl (ou_f (ou_f (ou_n))),kl_n⟩
 have r8 : ∀ r',y8=.inl r'→∀ st,Ffcq_Q (list_1,parties_2) r' st→(Ffcq_Q (list_1,parties_2) r) st:=fun r' e st hq=>by rw [hy81 r' e] at hq; exact hq
 replace h:=hy8
 refine sp 26 h rfl (fun h=>?_) (fun h=>?_)
 · refine cq 1 [27] [I (parties_2)] 81 ?_
   obtain ⟨r9,hr9,h⟩:=bS h
   refine oy 97 (B (r9)) rfl (e_callV rfl rfl (call_P rfl rfl rfl (avS (shP rfl) (avS (shP rfl) (avS (shP rfl) (avN)))) (spec_l1In_F hr9) (.inr rfl) (bl_n) rfl rfl rfl)) ?_
   refine cq 3 [4] [B (r9)] 129 ?_
   exact rf [4] [] (j8 _ (Option.some.inj h).symm :)
 · refine cq 5 [4] [B (false)] 129 ?_
   exact rf [4] [] (j8 _ (Option.some.inj h).symm :)
theorem Ffcq_good {G : Go.Ln.Ground} : Good Tryd.prog G 68 Ffcq_ent:=good_T (fnOf_good (gl_c Ffcn_good (gl_c spec_l1In_good (gl_n)))) agree_mk (Checked.mixed Tryd.checked) Tryd.func68 (n:=2) (m:=0) ⟨rfl,rfl,by decide⟩ (fun _=>⟨rfl,rfl⟩) (fun a r h=>Ffcq_run a.1 a.2 r h)
def Ffbx_A : ((List Event) × Int)→List V:=cA (slE enc_Event) (oA I)
def Ffbx_R (r : (List Event) × Bool) : V × List V:=(.tup [.usl 4 ((r.1).map enc_Event),B (r.2)],[])
noncomputable def Ffbx_ent : Ent:=entT [false,false] Ffbx_A Ffbx_R fun x=>Ffbx x.1 x.2
theorem Ffbx_F {list_1 : List Event} {parties_2 : Int} {r} (h : Ffbx list_1 parties_2=some r) : (Ffbx_ent).F (Ffbx_A (list_1,parties_2))=some (Ffbx_R r):=entT_F (cA_inj (isl_inj enc_Event_inj) (oA_inj I_inj)) h
noncomputable def Ffbx_c : Code:=bodyOf Tryd.f38
noncomputable def Ffbx_E : Env:=mkE Tryd.prog [(68,Ffcq_ent),(69,Ffcp_ent)]
def Ffbx_Q (x : (List Event) × Int) (r : (List Event) × Bool) : St→Prop:=QF Ffbx_E Tryd.f38 [false,false] (Ffbx_A x) (Ffbx_R r)
theorem Ffbx_run (list_1 : List Event) (parties_2 : Int) (r : (List Event) × Bool) (h : Ffbx list_1 parties_2=some r) : RunF Ffbx_E Tryd.f38 [false,false] 0 (Ffbx_A (list_1,parties_2)) (Ffbx_R r):=by
 show Run _ _ (Ffbx_Q (list_1,parties_2) r) [.code Ffbx_c] _
 refine rin (n:=13) [(0,.isl false ((list_1).map enc_Event)),(1,I (parties_2))] [] 1 (by kernel_rfl) (by kernel_rfl) (by kernel_rfl) rfl ?_
 unfold Ffbx at h
 refine cq 10 [6,7] [.isl false ((list_1).map enc_Event),I (parties_2)] 65 ?_
 obtain ⟨r3,hr3,h⟩:=bS h
 refine oq 81 (B (r3)) rfl (e_callV rfl rfl (call_P rfl rfl rfl (avS (shP rfl) (avS (shP rfl) (avN))) (Ffcq_F hr3) (.inr rfl) (bl_n) rfl rfl rfl)) ?_
 refine cq 2 [9] [B ((!r3))] 97 ?_
 refine sq h (fun h=>?_) (fun h=>?_)
 · refine aq 2 ?_
   refine oq 113 (.hs 97 0 [] 4 0 0) rfl (e_buildSlice rfl (bs_mk (f:=I) (xs:=[]) (z:=.agg [I (0),I (0),str ([]),I (0)]) (es:=[]) (ws:=[]) rfl rfl rfl (by decide) rfl (abs_each_plain rfl) rfl)) ?_
   refine cq 3 [4,5] [.hs 97 0 [] 4 0 0,B (false)] 145 ?_
   obtain rfl:=Option.some.inj h
   exact s_ret rfl ⟨_,fin (vs:=[.hs 97 0 [] 4 0 0,B (false)]) rfl (absE (abs1 rfl (abs_hs rfl rfl)) (absE (absorb_plain rfl) (absEN))) rfl (ou_f (ou_f (ou_n))),kl_n⟩
 · refine aq 1 ?_
   refine cq 3 [11] [.isl false ((list_1).map enc_Event)] 113 ?_
   obtain ⟨r4,hr4,h⟩:=bS h
   refine oq 129 (.hs 113 0 [] 4 0 ((r4).map enc_Event).length) rfl (e_callV rfl rfl (call_P rfl rfl rfl (avS (shP rfl) (avN)) (Ffcp_F hr4) (.inr rfl) (bl_n) rfl rfl rfl)) ?_
   refine cq 3 [4,5] [.hs 113 0 [] 4 0 ((r4).map enc_Event).length,B (true)] 161 ?_
   obtain rfl:=Option.some.inj h
   exact s_ret rfl ⟨_,fin (vs:=[.hs 113 0 [] 4 0 ((r4).map enc_Event).length,B (true)]) rfl (absE (abs1 rfl (abs_hs rfl rfl)) (absE (absorb_plain rfl) (absEN))) rfl (ou_f (ou_f (ou_n))),kl_n⟩
theorem Ffbx_good {G : Go.Ln.Ground} : Good Tryd.prog G 38 Ffbx_ent:=good_T (fnOf_good (gl_c Ffcq_good (gl_c Ffcp_good (gl_n)))) agree_mk (Checked.mixed Tryd.checked) Tryd.func38 (n:=2) (m:=0) ⟨rfl,rfl,by decide⟩ (fun _=>⟨rfl,rfl⟩) (fun a r h=>Ffbx_run a.1 a.2 r h)
def Ffbb_A : ((List Event) × Unit)→List V:=cA (slE enc_Event) (oA (fun x : Unit=>(.fn 52 [] : V)))
def Ffbb_R (r : Bool) : V × List V:=(B (r),[])
noncomputable def Ffbb_ent : Ent:=entT [false,false] Ffbb_A Ffbb_R fun x=>Ffbb x.1 x.2
theorem Ffbb_F {x_1 : List Event} {cmp_2 : Unit} {r} (h : Ffbb x_1 cmp_2=some r) : (Ffbb_ent).F (Ffbb_A (x_1,cmp_2))=some (Ffbb_R r):=entT_F (cA_inj (isl_inj enc_Event_inj) (oA_inj (fn_inj0 ))) h
noncomputable def Ffbb_c : Code:=bodyOf Tryd.f51
noncomputable def Ffbb_E : Env:=mkE Tryd.prog [(52,Fff_ent)]
def Ffbb_Q (x : (List Event) × Unit) (r : Bool) : St→Prop:=QF Ffbb_E Tryd.f51 [false,false] (Ffbb_A x) (Ffbb_R r)
theorem Ffbb_la_run (x_1 : List Event) (cmp_2 : Unit)  {Q : St→Prop} {K : List It} (hK : noD K=true) : ∀ (x3 : Int) (y : Bool ⊕ Unit),Ffbb_la x_1 cmp_2 x3=some y→(∀ r',y=.inl r'→∀ st,Ffbb_Q (x_1,cmp_2) r' st→Q st)→(∀ u : Unit,y=.inr u→Run Ffbb_E 0 Q K (sT 25 [] [] 1))→Run Ffbb_E 0 Q (.code (cL (cL (cR (cL (cR Ffbb_c))))) :: .lp (cL (cL (cR (cL (cR Ffbb_c))))) :: .blk 0 :: K) (sT 25 [(0,.isl false ((x_1).map enc_Event)),(1,.fn 52 []),(5,I (x3))] [] 1):=by
 refine fix_indP (Ffbb_la_fin x_1 cmp_2) ?_
 intro self ih x3 y h hr hn
 unfold Ffbb_la_F at h
 refine cq 6 [10] [B ((decide (x3 > 0)))] 33 ?_
 refine sq h (fun h=>?_) (fun h=>?_)
 · refine aq 1 ?_
   refine aq 3 ?_
   refine s_draw [0,0,0,6,14,0,0,64,224,480,1023,2047] rfl (by decide +kernel) ?_
   refine dk 3 [15,14,13] [I (x3),.isl false ((x_1).map enc_Event),.fn 52 []] ?_
   obtain ⟨e4,he4,h⟩:=bS h
   refine dq [] [] (.iptr (enc_Event e4) 0) rfl (e_indexAddr rfl rfl rfl (ix_islE rfl rfl rfl rfl he4)) ?_
   refine dq [] [] (enc_Event e4) rfl (e_ld rfl rfl) ?_
   refine dk 3 [20,19,18] [I ((w64 (x3 - 1))),I (x3),.isl false ((x_1).map enc_Event)] ?_
   obtain ⟨e5,he5,h⟩:=bS h
   refine dq [] [] (.iptr (enc_Event e5) 0) rfl (e_indexAddr rfl rfl rfl (ix_islE rfl rfl rfl rfl he5)) ?_
   refine dq [] [] (enc_Event e5) rfl (e_ld rfl rfl) ?_
   obtain ⟨r6,hr6,h⟩:=bS h
   refine dq [] [] (I (r6)) rfl (e_callV rfl rfl (call_P rfl rfl rfl (avS (shP rfl) (avS (shP rfl) (avN))) (Fff_F hr6) (.inr rfl) (bl_n) rfl rfl rfl)) ?_ (w_callO rfl rfl rfl rfl (avS (shP rfl) (avS (shP rfl) (avN))) (Fff_F hr6) (.inr rfl) rfl)
   refine dk 1 [24] [B ((decide (r6 < 0)))] ?_
   refine de 225 rfl rfl ?_
   refine sq h (fun h=>?_) (fun h=>?_)
   · refine cq 4 [4] [B (false)] 241 ?_
     exact s_ret rfl (hr _ (Option.some.inj h).symm _ ⟨_,fin (vs:=[B (false)]) rfl (absE (absorb_plain rfl) (absEN)) rfl (ou_f (ou_f (ou_n))),kl_n⟩)
   · refine aq 1 ?_
     refine cq 6 [5] [I ((w64 (x3 - 1)))] 273 ?_
     refine s_lp ?_
     exact rf [0,1,5] [] (ih _ _ h hr hn :)
 · refine aq 1 ?_
   exact rf [] [] (hn _ (Option.some.inj h).symm :) (hk:=hK)
theorem Ffbb_run (x_1 : List Event) (cmp_2 : Unit) (r : Bool) (h : Ffbb x_1 cmp_2=some r) : RunF Ffbb_E Tryd.f51 [false,false] 0 (Ffbb_A (x_1,cmp_2)) (Ffbb_R r):=by
 show Run _ _ (Ffbb_Q (x_1,cmp_2) r) [.code Ffbb_c] _
 refine rin (n:=25) [(0,.isl false ((x_1).map enc_Event)),(1,.fn 52 [])] [] 1 (by kernel_rfl) (by kernel_rfl) (by kernel_rfl) rfl ?_
 unfold Ffbb at h
 refine cq 8 [6] [.isl false ((x_1).map enc_Event)] 33 ?_
 refine oq 49 (I ((len x_1))) rfl (e_len rfl rfl rfl (l_isl rfl)) ?_
 refine cq 4 [5] [I ((w64 ((len x_1) - 1)))] 81 ?_
 obtain ⟨y7,hy7,hy71,hy72⟩:=bJ h
 refine s_loop rfl ?_
 refine rf [0,1,5] [] (Ffbb_la_run x_1 cmp_2 rfl _ _ hy7 (fun r' e st hq=>by rw [hy71 r' e] at hq; exact hq) fun u7 hu=>?_)
 replace h:=hy72 u7 hu
 refine cq 4 [4] [B (true)] 17 ?_
 obtain rfl:=Option.some.inj h
 exact s_ret rfl ⟨_,fin (vs:=[B (true)]) rfl (absE (absorb_plain rfl) (absEN)) rfl (ou_f (ou_f (ou_n))),kl_n⟩
theorem Ffbb_good {G : Go.Ln.Ground} : Good Tryd.prog G 51 Ffbb_ent:=good_T (fnOf_good (gl_c Fff_good (gl_n))) agree_mk (Checked.mixed Tryd.checked) Tryd.func51 (n:=2) (m:=0) ⟨rfl,rfl,by decide⟩ (fun _=>⟨rfl,rfl⟩) (fun a r h=>Ffbb_run a.1 a.2 r h)
def Ffh_A : ((List Event) × Int)→List V:=cA (slE enc_Event) (oA I)
def Ffh_R (r : Bool) : V × List V:=(B (r),[])
noncomputable def Ffh_ent : Ent:=entT [false,false] Ffh_A Ffh_R fun x=>Ffh x.1 x.2
theorem Ffh_F {list_1 : List Event} {parties_2 : Int} {r} (h : Ffh list_1 parties_2=some r) : (Ffh_ent).F (Ffh_A (list_1,parties_2))=some (Ffh_R r):=entT_F (cA_inj (isl_inj enc_Event_inj) (oA_inj I_inj)) h
noncomputable def Ffh_c : Code:=bodyOf Tryd.f16
noncomputable def Ffh_E : Env:=mkE Tryd.prog [(50,Ffm_ent),(51,Ffbb_ent)]
def Ffh_Q (x : (List Event) × Int) (r : Bool) : St→Prop:=QF Ffh_E Tryd.f16 [false,false] (Ffh_A x) (Ffh_R r)
theorem Ffh_run (list_1 : List Event) (parties_2 : Int) (r : Bool) (h : Ffh list_1 parties_2=some r) : RunF Ffh_E Tryd.f16 [false,false] 0 (Ffh_A (list_1,parties_2)) (Ffh_R r):=by
 show Run _ _ (Ffh_Q (list_1,parties_2) r) [.code Ffh_c] _
 refine rin (n:=12) [(0,.isl false ((list_1).map enc_Event)),(1,I (parties_2))] [] 1 (by kernel_rfl) (by kernel_rfl) (by kernel_rfl) rfl ?_
 unfold Ffh at h
 refine cq 8 [5,6] [.isl false ((list_1).map enc_Event),I (parties_2)] 49 ?_
 obtain ⟨r3,hr3,h⟩:=bS h
 refine oq 65 (B (r3)) rfl (e_callV rfl rfl (call_P rfl rfl rfl (avS (shP rfl) (avS (shP rfl) (avN))) (Ffm_F hr3) (.inr rfl) (bl_n) rfl rfl rfl)) ?_
 refine cq 1 [8] [B (r3)] 81 ?_
 obtain ⟨y4,hy4,hy41,hy42⟩:=bJ h
 have j4 : ∀ u4,y4=.inr u4→Run Ffh_E 0 (Ffh_Q (list_1,parties_2) r) (.code (cR (cR Ffh_c)) :: []) (sT 12 [(4,B (u4))] [] 1):=by
   intro u4 hu
   replace h:=hy42 u4 hu
   obtain rfl:=Option.some.inj h
   exact s_ret rfl ⟨_,fin (vs:=[B (u4)]) rfl (absE (absorb_plain rfl) (absEN)) rfl (ou_f (ou_f (ou_n))),kl_n⟩
 have r4 : ∀ r',y4=.inl r'→∀ st,Ffh_Q (list_1,parties_2) r' st→(Ffh_Q (list_1,parties_2) r) st:=fun r' e st hq=>by rw [hy41 r' e] at hq; exact hq
 replace h:=hy4
 refine sp 8 h rfl (fun h=>?_) (fun h=>?_)
 · refine cq 1 [9] [.isl false ((list_1).map enc_Event)] 97 ?_
   obtain ⟨r5,hr5,h⟩:=bS h
   refine oy 113 (B (r5)) rfl (e_callV rfl rfl (call_P rfl rfl rfl (avS (shP rfl) (avS (shP rfl) (avN))) (Ffbb_F hr5) (.inr rfl) (bl_n) rfl rfl rfl)) ?_
   refine cq 3 [4] [B (r5)] 145 ?_
   exact rf [4] [] (j4 _ (Option.some.inj h).symm :)
 · refine cq 5 [4] [B (false)] 145 ?_
   exact rf [4] [] (j4 _ (Option.some.inj h).symm :)
theorem Ffh_good {G : Go.Ln.Ground} : Good Tryd.prog G 16 Ffh_ent:=good_T (fnOf_good (gl_c Ffm_good (gl_c Ffbb_good (gl_n)))) agree_mk (Checked.mixed Tryd.checked) Tryd.func16 (n:=2) (m:=0) ⟨rfl,rfl,by decide⟩ (fun _=>⟨rfl,rfl⟩) (fun a r h=>Ffh_run a.1 a.2 r h)
def Ffbs_A : ((List Int))→List V:=oA (slE (V.int .u8))
def Ffbs_R (r : (List Event) × (List Event) × Int) : V × List V:=(.tup [.usl 4 ((r.1).map enc_Event),.usl 4 ((r.2.1).map enc_Event),I (r.2.2)],[])
noncomputable def Ffbs_ent : Ent:=entT [false] Ffbs_A Ffbs_R fun x=>Ffbs x
theorem Ffbs_F {code_1 : List Int} {r} (h : Ffbs code_1=some r) : (Ffbs_ent).F (Ffbs_A code_1)=some (Ffbs_R r):=entT_F (oA_inj (isl_inj (vint_inj (k:=.u8)))) h
noncomputable def Ffbs_c : Code:=bodyOf Tryd.f46
noncomputable def Ffbs_E : Env:=mkE Tryd.prog [(74,Ffca_ent),(76,Ffby_ent)]
def Ffbs_Q (x : (List Int)) (r : (List Event) × (List Event) × Int) : St→Prop:=QF Ffbs_E Tryd.f46 [false] (Ffbs_A x) (Ffbs_R r)
theorem Ffbs_run (code_1 : List Int) (r : (List Event) × (List Event) × Int) (h : Ffbs code_1=some r) : RunF Ffbs_E Tryd.f46 [false] 0 (Ffbs_A code_1) (Ffbs_R r):=by
 show Run _ _ (Ffbs_Q code_1 r) [.code Ffbs_c] _
 refine rin (n:=16) [(0,.isl false ((code_1).map (V.int .u8)))] [] 1 (by kernel_rfl) (by kernel_rfl) (by kernel_rfl) rfl ?_
 unfold Ffbs at h
 refine ck 16 [5,9] [] [81] [] [.hp 81 0 [] 3 0 0,.hp 81 0 [] 3 0 0] [some ⟨0,3,[.agg [.isl false ((code_1).map (V.int .u8)),I (0),.int .u64 (0)]]⟩] 129 (by kernel_rfl) ?_
 obtain ⟨r2,hr2,h⟩:=bS h
 refine oq 145 (.hs 129 0 [] 4 0 ((r2.1).map enc_Event).length) rfl (e_callV rfl rfl (call_P rfl rfl rfl (avO (hd1 rfl (hd_hp (path:=[]) rfl rfl (ra_n) rfl)) (avN)) (Ffca_F hr2) (.inr rfl) (bl_c rfl rfl rfl rfl (bl_n)) rfl rfl rfl)) ?_
 refine cq 1 [11] [.hp 81 0 [] 3 0 0] 161 ?_
 obtain ⟨r3,hr3,h⟩:=bS h
 refine oq 177 (.hs 161 0 [] 4 0 ((r3.1).map enc_Event).length) rfl (e_callV rfl rfl (call_P rfl rfl rfl (avO (hd1 rfl (hd_hp (path:=[]) rfl rfl (ra_n) rfl)) (avN)) (Ffca_F hr3) (.inr rfl) (bl_c rfl rfl rfl rfl (bl_n)) rfl rfl rfl)) ?_
 refine cq 1 [13] [.hp 81 0 [] 3 0 0] 193 ?_
 refine oq 209 (.hs 193 0 [] 1 0 5) rfl (e_buildSlice rfl (bs_mk (f:=I) (xs:=[]) (z:=I (0)) (es:=[I (2),I (2),I (2),I (3),I (1)]) (ws:=[I (2),I (2),I (2),I (3),I (1)]) rfl rfl rfl (by decide) rfl (abs_each_plain rfl) rfl)) ?_
 obtain ⟨r4,hr4,h⟩:=bS h
 refine oK 225 (I (r4.1)) rfl rfl (e_callK rfl rfl (call_K rfl rfl rfl rfl (avO (hd1 rfl (hd_hp (path:=[]) rfl rfl (ra_n) rfl)) (avS (sh1 rfl rfl (sh_hsM (f:=I) (g:=I) (xs:=[2,2,2,3,1]) rfl rfl (imms_of I_imm))) (avN))) (Ffby_F hr4) (bl_c rfl rfl rfl rfl (bl_n)) rfl rfl rfl)) ?_
 refine cq 4 [2,3,4] [.hs 129 0 [] 4 0 ((r2.1).map enc_Event).length,.hs 161 0 [] 4 0 ((r3.1).map enc_Event).length,I (r4.1)] 273 ?_
 obtain rfl:=Option.some.inj h
 exact s_ret rfl ⟨_,fin (vs:=[.hs 129 0 [] 4 0 ((r2.1).map enc_Event).length,.hs 161 0 [] 4 0 ((r3.1).map enc_Event).length,I (r4.1)]) rfl (absE (abs1 rfl (abs_hs rfl rfl)) (absE (abs1 rfl (abs_hs rfl rfl)) (absE (absorb_plain rfl) (absEN)))) rfl (ou_f (ou_n)),kl_n⟩
theorem Ffbs_good {G : Go.Ln.Ground} : Good Tryd.prog G 46 Ffbs_ent:=good_T (fnOf_good (gl_c Ffca_good (gl_c Ffby_good (gl_n)))) agree_mk (Checked.mixed Tryd.checked) Tryd.func46 (n:=1) (m:=0) ⟨rfl,rfl,by decide⟩ (fun _=>⟨rfl,rfl⟩) (fun a r h=>Ffbs_run a r h)
def Ffj_A : ((List Event) × (List Event) × Int)→List V:=cA (slE enc_Event) (cA (slE enc_Event) (oA I))
def Ffj_R (r : (List Event) × Bool) : V × List V:=(.tup [.usl 4 ((r.1).map enc_Event),B (r.2)],[])
noncomputable def Ffj_ent : Ent:=entT [false,false,false] Ffj_A Ffj_R fun x=>Ffj x.1 x.2.1 x.2.2
theorem Ffj_F {a_1 : List Event} {b_2 : List Event} {parties_3 : Int} {r} (h : Ffj a_1 b_2 parties_3=some r) : (Ffj_ent).F (Ffj_A (a_1,b_2,parties_3))=some (Ffj_R r):=entT_F (cA_inj (isl_inj enc_Event_inj) (cA_inj (isl_inj enc_Event_inj) (oA_inj I_inj))) h
noncomputable def Ffj_c : Code:=bodyOf Tryd.f41
noncomputable def Ffj_E : Env:=mkE Tryd.prog [(16,Ffh_ent),(56,Ffw_ent),(39,Ffl_ent)]
def Ffj_Q (x : (List Event) × (List Event) × Int) (r : (List Event) × Bool) : St→Prop:=QF Ffj_E Tryd.f41 [false,false,false] (Ffj_A x) (Ffj_R r)
theorem Ffj_run (a_1 : List Event) (b_2 : List Event) (parties_3 : Int) (r : (List Event) × Bool) (h : Ffj a_1 b_2 parties_3=some r) : RunF Ffj_E Tryd.f41 [false,false,false] 0 (Ffj_A (a_1,b_2,parties_3)) (Ffj_R r):=by
 show Run _ _ (Ffj_Q (a_1,b_2,parties_3) r) [.code Ffj_c] _
 refine rin (n:=26) [(0,.isl false ((a_1).map enc_Event)),(1,.isl false ((b_2).map enc_Event)),(2,I (parties_3))] [] 1 (by kernel_rfl) (by kernel_rfl) (by kernel_rfl) rfl ?_
 unfold Ffj at h
 refine cq 10 [8,9] [.isl false ((a_1).map enc_Event),I (parties_3)] 65 ?_
 obtain ⟨r4,hr4,h⟩:=bS h
 refine oq 81 (B (r4)) rfl (e_callV rfl rfl (call_P rfl rfl rfl (avS (shP rfl) (avS (shP rfl) (avN))) (Ffh_F hr4) (.inr rfl) (bl_n) rfl rfl rfl)) ?_
 refine cq 2 [12] [B ((!r4))] 113 ?_
 obtain ⟨y5,hy5,hy51,hy52⟩:=bJ h
 have j5 : ∀ u5,y5=.inr u5→Run Ffj_E 0 (Ffj_Q (a_1,b_2,parties_3) r) (.code (cR (cL (cR Ffj_c))) :: .code (cR (cR Ffj_c)) :: []) (sT 26 [(0,.isl false ((a_1).map enc_Event)),(1,.isl false ((b_2).map enc_Event)),(2,I (parties_3)),(17,B (u5))] [] 1):=by
   intro u5 hu
   replace h:=hy52 u5 hu
   refine sq h (fun h=>?_) (fun h=>?_)
   · refine cq 5 [6,7] [.isl true [],B (false)] 33 ?_
     refine run_own 6 0 4 49 (.hs 33 0 [] 4 0 0) rfl rfl rfl rfl rfl ?_
     obtain rfl:=Option.some.inj h
     exact s_ret rfl ⟨_,fin (vs:=[.hs 33 0 [] 4 0 0,B (false)]) rfl (absE (abs1 rfl (abs_hs rfl rfl)) (absE (absorb_plain rfl) (absEN))) rfl (ou_f (ou_f (ou_f (ou_n)))),kl_n⟩
   · refine aq 1 ?_
     refine cq 3 [18] [.isl false ((a_1).map enc_Event)] 17 ?_
     obtain ⟨r6,hr6,h⟩:=bS h
     refine oq 33 (.hs 17 0 [] 4 0 ((r6).map enc_Event).length) rfl (e_callV rfl rfl (call_P rfl rfl rfl (avS (shP rfl) (avN)) (Ffw_F hr6) (.inr rfl) (bl_n) rfl rfl rfl)) ?_
     refine cq 1 [20] [.isl false ((b_2).map enc_Event)] 49 ?_
     obtain ⟨a7,ha7,h⟩:=bS h
     refine oq 65 (.hs 49 0 [] 4 0 ((a7).map enc_Event).length) rfl (e_append rfl rfl rfl rfl rfl (ap_hsM (path:=[]) (f:=enc_Event) (xs:=r6) (ys:=b_2) rfl rfl (take_isl) rfl rfl rfl (ra_n) rfl (by decide) enc_Event_cells ha7 rfl (to_n))) ?_
     refine cq 1 [22] [I (parties_3)] 81 ?_
     obtain ⟨r8,hr8,h⟩:=bS h
     refine oq 97 (.tup [.hs 81 0 [] 4 0 ((r8.1).map enc_Event).length,B (r8.2)]) rfl (e_callV rfl rfl (call_P rfl rfl rfl (avS (sh1 rfl rfl (sh_hsM (f:=enc_Event) (g:=enc_Event) (xs:=a7) rfl rfl (imms_of enc_Event_imm))) (avS (shP rfl) (avN))) (Ffl_F hr8) (.inl (by simp [hasImm,hasImms,str,himm_map (f:=enc_Event) enc_Event_himm])) (bl_n) rfl rfl rfl)) ?_
     refine cq 5 [6,7] [.hs 81 0 [] 4 0 ((r8.1).map enc_Event).length,B (r8.2)] 161 ?_
     obtain rfl:=Option.some.inj h
     exact s_ret rfl ⟨_,fin (vs:=[.hs 81 0 [] 4 0 ((r8.1).map enc_Event).length,B (r8.2)]) rfl (absE (abs1 rfl (abs_hs rfl rfl)) (absE (absorb_plain rfl) (absEN))) rfl (ou_f (ou_f (ou_f (ou_n)))),kl_n⟩
 have r5 : ∀ r',y5=.inl r'→∀ st,Ffj_Q (a_1,b_2,parties_3) r' st→(Ffj_Q (a_1,b_2,parties_3) r) st:=fun r' e st hq=>by rw [hy51 r' e] at hq; exact hq
 replace h:=hy5
 refine sp 12 h rfl (fun h=>?_) (fun h=>?_)
 · refine cq 6 [17] [B (true)] 193 ?_
   exact rf [0,1,2,17] [] (j5 _ (Option.some.inj h).symm :)
 · refine cq 2 [13,14] [.isl false ((b_2).map enc_Event),I (parties_3)] 145 ?_
   obtain ⟨r9,hr9,h⟩:=bS h
   refine oy 161 (B (r9)) rfl (e_callV rfl rfl (call_P rfl rfl rfl (avS (shP rfl) (avS (shP rfl) (avN))) (Ffh_F hr9) (.inr rfl) (bl_n) rfl rfl rfl)) ?_
   refine cq 3 [17] [B ((!r9))] 193 ?_
   exact rf [0,1,2,17] [] (j5 _ (Option.some.inj h).symm :)
theorem Ffj_good {G : Go.Ln.Ground} : Good Tryd.prog G 41 Ffj_ent:=good_T (fnOf_good (gl_c Ffh_good (gl_c Ffw_good (gl_c Ffl_good (gl_n))))) agree_mk (Checked.mixed Tryd.checked) Tryd.func41 (n:=3) (m:=0) ⟨rfl,rfl,by decide⟩ (fun _=>⟨rfl,rfl⟩) (fun a r h=>Ffj_run a.1 a.2.1 a.2.2 r h)
def Ffco_A : ((List Event) × Int)→List V:=cA (slE enc_Event) (oA I)
def Ffco_R (r : Bool) : V × List V:=(B (r),[])
noncomputable def Ffco_ent : Ent:=entT [false,false] Ffco_A Ffco_R fun x=>Ffco x.1 x.2
theorem Ffco_F {list_1 : List Event} {parties_2 : Int} {r} (h : Ffco list_1 parties_2=some r) : (Ffco_ent).F (Ffco_A (list_1,parties_2))=some (Ffco_R r):=entT_F (cA_inj (isl_inj enc_Event_inj) (oA_inj I_inj)) h
noncomputable def Ffco_c : Code:=bodyOf Tryd.f49
noncomputable def Ffco_E : Env:=mkE Tryd.prog [(77,Ffcm_ent),(68,Ffcq_ent)]
def Ffco_Q (x : (List Event) × Int) (r : Bool) : St→Prop:=QF Ffco_E Tryd.f49 [false,false] (Ffco_A x) (Ffco_R r)
theorem Ffco_la_run (list_1 : List Event) (parties_2 : Int)  {Q : St→Prop} {K : List It} (hK : noD K=true) : ∀ (x3 : Int) (y : Bool ⊕ Unit),Ffco_la list_1 parties_2 x3=some y→(∀ r',y=.inl r'→∀ st,Ffco_Q (list_1,parties_2) r' st→Q st)→(∀ u : Unit,y=.inr u→Run Ffco_E 0 Q K (sT 30 [(0,.isl false ((list_1).map enc_Event)),(1,I (parties_2))] [] 1))→Run Ffco_E 0 Q (.code (cL (cL (cR (cL (cR Ffco_c))))) :: .lp (cL (cL (cR (cL (cR Ffco_c))))) :: .blk 0 :: K) (sT 30 [(0,.isl false ((list_1).map enc_Event)),(1,I (parties_2)),(5,I (x3))] [] 1):=by
 refine fix_indP (Ffco_la_fin list_1 parties_2) ?_
 intro self ih x3 y h hr hn
 unfold Ffco_la_F at h
 refine cq 5 [6,7] [I (x3),.isl false ((list_1).map enc_Event)] 33 ?_
 refine oq 49 (I ((len list_1))) rfl (e_len rfl rfl rfl (l_isl rfl)) ?_
 refine cq 2 [10] [B ((decide (x3 < (len list_1))))] 81 ?_
 obtain ⟨u4,hu4,h⟩:=lJ h
 have j4 : Run Ffco_E 0 Q (.code (cR (cL (cL (cL (cR (cL (cR Ffco_c))))))) :: .code (cR (cL (cL (cR (cL (cR Ffco_c)))))) :: .lp (cL (cL (cR (cL (cR Ffco_c))))) :: .blk 0 :: K) (sT 30 [(0,.isl false ((list_1).map enc_Event)),(1,I (parties_2)),(5,I (x3)),(13,B (u4))] [] 1):=by
   refine sq h (fun h=>?_) (fun h=>?_)
   · refine aq 1 ?_
     refine aq 3 ?_
     refine s_draw [0,0,2,7,15,0,0,96,224,511,1023] rfl (by decide +kernel) ?_
     refine dk 3 [18,17,16] [I ((w64 (x3 - 1))),I (x3),.isl false ((list_1).map enc_Event)] ?_
     obtain ⟨e5,he5,h⟩:=bS h
     refine dq [] [] (.iptr (enc_Event e5) 0) rfl (e_indexAddr rfl rfl rfl (ix_islE rfl rfl rfl rfl he5)) ?_
     refine dq [] [] (enc_Event e5) rfl (e_ld rfl rfl) ?_
     refine dk 2 [22,21] [I (x3),.isl false ((list_1).map enc_Event)] ?_
     obtain ⟨e6,he6,h⟩:=bS h
     refine dq [] [] (.iptr (enc_Event e6) 0) rfl (e_indexAddr rfl rfl rfl (ix_islE rfl rfl rfl rfl he6)) ?_
     refine dq [] [] (enc_Event e6) rfl (e_ld rfl rfl) ?_
     obtain ⟨r7,hr7,h⟩:=bS h
     refine dq [] [] (I (r7)) rfl (e_callV rfl rfl (call_P rfl rfl rfl (avS (shP rfl) (avS (shP rfl) (avN))) (Ffcm_F hr7) (.inr rfl) (bl_n) rfl rfl rfl)) ?_ (w_callO rfl rfl rfl rfl (avS (shP rfl) (avS (shP rfl) (avN))) (Ffcm_F hr7) (.inr rfl) rfl)
     refine dk 1 [26] [B ((decide (r7 > 0)))] ?_
     refine de 177 rfl rfl ?_
     refine sq h (fun h=>?_) (fun h=>?_)
     · refine cq 4 [4] [B (false)] 193 ?_
       exact s_ret rfl (hr _ (Option.some.inj h).symm _ ⟨_,fin (vs:=[B (false)]) rfl (absE (absorb_plain rfl) (absEN)) rfl (ou_f (ou_f (ou_n))),kl_n⟩)
     · refine aq 1 ?_
       refine cq 6 [5] [I ((w64 (x3 + 1)))] 225 ?_
       refine s_lp ?_
       exact rf [0,1,5] [] (ih _ _ h hr hn :)
   · refine aq 1 ?_
     exact rf [0,1] [] (hn _ (Option.some.inj h).symm :) (hk:=hK)
 replace h:=hu4
 clear hu4
 refine sp 10 h rfl (fun h=>?_) (fun h=>?_)
 · refine cq 4 [13] [B ((decide (x3 ≤ 40)))] 129 ?_
   subst h
   exact rf [0,1,5,13] [] (j4 :)
 · refine cq 4 [13] [B (false)] 129 ?_
   subst h
   exact rf [0,1,5,13] [] (j4 :)
theorem Ffco_run (list_1 : List Event) (parties_2 : Int) (r : Bool) (h : Ffco list_1 parties_2=some r) : RunF Ffco_E Tryd.f49 [false,false] 0 (Ffco_A (list_1,parties_2)) (Ffco_R r):=by
 show Run _ _ (Ffco_Q (list_1,parties_2) r) [.code Ffco_c] _
 refine rin (n:=30) [(0,.isl false ((list_1).map enc_Event)),(1,I (parties_2))] [] 1 (by kernel_rfl) (by kernel_rfl) (by kernel_rfl) rfl ?_
 unfold Ffco at h
 refine cq 10 [5] [I (1)] 33 ?_
 obtain ⟨y8,hy8,hy81,hy82⟩:=bJ h
 refine s_loop rfl ?_
 refine rf [0,1,5] [] (Ffco_la_run list_1 parties_2 rfl _ _ hy8 (fun r' e st hq=>by rw [hy81 r' e] at hq; exact hq) fun u8 hu=>?_)
 replace h:=hy82 u8 hu
 refine cq 4 [27,28] [.isl false ((list_1).map enc_Event),I (parties_2)] 33 ?_
 obtain ⟨r9,hr9,h⟩:=bS h
 refine oq 49 (B (r9)) rfl (e_callV rfl rfl (call_P rfl rfl rfl (avS (shP rfl) (avS (shP rfl) (avN))) (Ffcq_F hr9) (.inr rfl) (bl_n) rfl rfl rfl)) ?_
 refine cq 2 [4] [B (r9)] 65 ?_
 obtain rfl:=Option.some.inj h
 exact s_ret rfl ⟨_,fin (vs:=[B (r9)]) rfl (absE (absorb_plain rfl) (absEN)) rfl (ou_f (ou_f (ou_n))),kl_n⟩
theorem Ffco_good {G : Go.Ln.Ground} : Good Tryd.prog G 49 Ffco_ent:=good_T (fnOf_good (gl_c Ffcm_good (gl_c Ffcq_good (gl_n)))) agree_mk (Checked.mixed Tryd.checked) Tryd.func49 (n:=2) (m:=0) ⟨rfl,rfl,by decide⟩ (fun _=>⟨rfl,rfl⟩) (fun a r h=>Ffco_run a.1 a.2 r h)
def Ffbv_A : ((List Event) × (List Event) × Int)→List V:=cA (slE enc_Event) (cA (slE enc_Event) (oA I))
def Ffbv_R (r : (List Event) × Bool) : V × List V:=(.tup [.usl 4 ((r.1).map enc_Event),B (r.2)],[])
noncomputable def Ffbv_ent : Ent:=entT [false,false,false] Ffbv_A Ffbv_R fun x=>Ffbv x.1 x.2.1 x.2.2
theorem Ffbv_F {a_1 : List Event} {b_2 : List Event} {parties_3 : Int} {r} (h : Ffbv a_1 b_2 parties_3=some r) : (Ffbv_ent).F (Ffbv_A (a_1,b_2,parties_3))=some (Ffbv_R r):=entT_F (cA_inj (isl_inj enc_Event_inj) (cA_inj (isl_inj enc_Event_inj) (oA_inj I_inj))) h
noncomputable def Ffbv_c : Code:=bodyOf Tryd.f40
noncomputable def Ffbv_E : Env:=mkE Tryd.prog [(49,Ffco_ent),(69,Ffcp_ent)]
def Ffbv_Q (x : (List Event) × (List Event) × Int) (r : (List Event) × Bool) : St→Prop:=QF Ffbv_E Tryd.f40 [false,false,false] (Ffbv_A x) (Ffbv_R r)
theorem Ffbv_run (a_1 : List Event) (b_2 : List Event) (parties_3 : Int) (r : (List Event) × Bool) (h : Ffbv a_1 b_2 parties_3=some r) : RunF Ffbv_E Tryd.f40 [false,false,false] 0 (Ffbv_A (a_1,b_2,parties_3)) (Ffbv_R r):=by
 show Run _ _ (Ffbv_Q (a_1,b_2,parties_3) r) [.code Ffbv_c] _
 refine rin (n:=33) [(0,.isl false ((a_1).map enc_Event)),(1,.isl false ((b_2).map enc_Event)),(2,I (parties_3))] [] 1 (by kernel_rfl) (by kernel_rfl) (by kernel_rfl) rfl ?_
 unfold Ffbv at h
 refine cq 10 [8,9] [.isl false ((a_1).map enc_Event),I (parties_3)] 65 ?_
 obtain ⟨r4,hr4,h⟩:=bS h
 refine oq 81 (B (r4)) rfl (e_callV rfl rfl (call_P rfl rfl rfl (avS (shP rfl) (avS (shP rfl) (avN))) (Ffco_F hr4) (.inr rfl) (bl_n) rfl rfl rfl)) ?_
 refine cq 2 [12] [B ((!r4))] 113 ?_
 obtain ⟨y5,hy5,hy51,hy52⟩:=bJ h
 have j5 : ∀ u5,y5=.inr u5→Run Ffbv_E 0 (Ffbv_Q (a_1,b_2,parties_3) r) (.code (cR (cL (cR Ffbv_c))) :: .code (cR (cR Ffbv_c)) :: []) (sT 33 [(0,.isl false ((a_1).map enc_Event)),(1,.isl false ((b_2).map enc_Event)),(25,B (u5))] [] 1):=by
   intro u5 hu
   replace h:=hy52 u5 hu
   refine sq h (fun h=>?_) (fun h=>?_)
   · refine aq 2 ?_
     refine oq 17 (.hs 1 0 [] 4 0 0) rfl (e_buildSlice rfl (bs_mk (f:=I) (xs:=[]) (z:=.agg [I (0),I (0),str ([]),I (0)]) (es:=[]) (ws:=[]) rfl rfl rfl (by decide) rfl (abs_each_plain rfl) rfl)) ?_
     refine cq 3 [6,7] [.hs 1 0 [] 4 0 0,B (false)] 49 ?_
     obtain rfl:=Option.some.inj h
     exact s_ret rfl ⟨_,fin (vs:=[.hs 1 0 [] 4 0 0,B (false)]) rfl (absE (abs1 rfl (abs_hs rfl rfl)) (absE (absorb_plain rfl) (absEN))) rfl (ou_f (ou_f (ou_f (ou_n)))),kl_n⟩
   · refine aq 1 ?_
     refine aq 2 ?_
     refine oq 17 (.hs 1 0 [] 4 0 0) rfl (e_buildSlice rfl (bs_mk (f:=I) (xs:=[]) (z:=.agg [I (0),I (0),str ([]),I (0)]) (es:=[]) (ws:=[]) rfl rfl rfl (by decide) rfl (abs_each_plain rfl) rfl)) ?_
     refine cq 1 [28] [.isl false ((a_1).map enc_Event)] 33 ?_
     obtain ⟨a6,ha6,h⟩:=bS h
     refine oq 49 (.hs 33 0 [] 4 0 ((a6).map enc_Event).length) rfl (e_append rfl rfl rfl rfl rfl (ap_hsM (path:=[]) (es0:=[]) (f:=enc_Event) (xs:=([] : List Event)) (ys:=a_1) rfl rfl (take_isl) rfl rfl rfl (rfl) rfl (by decide) enc_Event_cells ha6 rfl (to_n))) ?_
     refine cq 1 [30] [.isl false ((b_2).map enc_Event)] 65 ?_
     obtain ⟨a7,ha7,h⟩:=bS h
     refine oq 81 (.hs 65 0 [] 4 0 ((a7).map enc_Event).length) rfl (e_append rfl rfl rfl rfl rfl (ap_hsM (path:=[]) (f:=enc_Event) (xs:=a6) (ys:=b_2) rfl rfl (take_isl) rfl rfl rfl (ra_n) rfl (by decide) enc_Event_cells ha7 rfl (to_n))) ?_
     obtain ⟨r8,hr8,h⟩:=bS h
     refine oq 97 (.hs 81 0 [] 4 0 ((r8).map enc_Event).length) rfl (e_callV rfl rfl (call_P rfl rfl rfl (avS (sh1 rfl rfl (sh_hsM (f:=enc_Event) (g:=enc_Event) (xs:=a7) rfl rfl (imms_of enc_Event_imm))) (avN)) (Ffcp_F hr8) (.inl (by simp [hasImm,hasImms,str,himm_map (f:=enc_Event) enc_Event_himm])) (bl_n) rfl rfl rfl)) ?_
     refine cq 3 [6,7] [.hs 81 0 [] 4 0 ((r8).map enc_Event).length,B (true)] 129 ?_
     obtain rfl:=Option.some.inj h
     exact s_ret rfl ⟨_,fin (vs:=[.hs 81 0 [] 4 0 ((r8).map enc_Event).length,B (true)]) rfl (absE (abs1 rfl (abs_hs rfl rfl)) (absE (absorb_plain rfl) (absEN))) rfl (ou_f (ou_f (ou_f (ou_n)))),kl_n⟩
 have r5 : ∀ r',y5=.inl r'→∀ st,Ffbv_Q (a_1,b_2,parties_3) r' st→(Ffbv_Q (a_1,b_2,parties_3) r) st:=fun r' e st hq=>by rw [hy51 r' e] at hq; exact hq
 replace h:=hy5
 refine sp 12 h rfl (fun h=>?_) (fun h=>?_)
 · refine cq 14 [25] [B (true)] 321 ?_
   exact rf [0,1,25] [] (j5 _ (Option.some.inj h).symm :)
 · refine cq 2 [13,14] [.isl false ((b_2).map enc_Event),I (parties_3)] 145 ?_
   obtain ⟨r9,hr9,h⟩:=bS h
   refine oy 161 (B (r9)) rfl (e_callV rfl rfl (call_P rfl rfl rfl (avS (shP rfl) (avS (shP rfl) (avN))) (Ffco_F hr9) (.inr rfl) (bl_n) rfl rfl rfl)) ?_
   refine cq 3 [18] [B ((!r9))] 209 ?_
   obtain ⟨u10,hu10,h⟩:=lJ h
   have j10 : Run Ffbv_E 0 (Ffbv_Q (a_1,b_2,parties_3) r) (.code (cR (cL (cR Ffbv_c))) :: .code (cR (cR Ffbv_c)) :: []) (sT 33 [(0,.isl false ((a_1).map enc_Event)),(1,.isl false ((b_2).map enc_Event)),(25,B (u10))] [] 1):=by
     exact rf [0,1,25] [] (j5 _ (Option.some.inj h).symm :)
   replace h:=hu10
   clear hu10
   refine sp 18 h rfl (fun h=>?_) (fun h=>?_)
   · refine cq 8 [25] [B (true)] 321 ?_
     subst h
     exact rf [0,1,25] [] (j10 :)
   · refine cq 1 [19] [.isl false ((a_1).map enc_Event)] 225 ?_
     refine oy 241 (I ((len a_1))) rfl (e_len rfl rfl rfl (l_isl rfl)) ?_
     refine cq 1 [21] [.isl false ((b_2).map enc_Event)] 257 ?_
     refine oy 273 (I ((len b_2))) rfl (e_len rfl rfl rfl (l_isl rfl)) ?_
     refine cq 4 [25] [B ((decide ((w64 ((len a_1) + (len b_2))) > 40)))] 321 ?_
     subst h
     exact rf [0,1,25] [] (j10 :)
theorem Ffbv_good {G : Go.Ln.Ground} : Good Tryd.prog G 40 Ffbv_ent:=good_T (fnOf_good (gl_c Ffco_good (gl_c Ffcp_good (gl_n)))) agree_mk (Checked.mixed Tryd.checked) Tryd.func40 (n:=3) (m:=0) ⟨rfl,rfl,by decide⟩ (fun _=>⟨rfl,rfl⟩) (fun a r h=>Ffbv_run a.1 a.2.1 a.2.2 r h)
def Ffg_A : ((List Event) × Int × Int × Str)→List V:=cA (slE enc_Event) (cA I (cA I (oA str)))
def Ffg_R (r : Int × Int × Bool) : V × List V:=(.tup [I (r.1),I (r.2.1),B (r.2.2)],[])
noncomputable def Ffg_ent : Ent:=entT [false,false,false,false] Ffg_A Ffg_R fun x=>Ffg x.1 x.2.1 x.2.2.1 x.2.2.2
theorem Ffg_F {list_1 : List Event} {parties_2 : Int} {party_3 : Int} {action_4 : Str} {r} (h : Ffg list_1 parties_2 party_3 action_4=some r) : (Ffg_ent).F (Ffg_A (list_1,parties_2,party_3,action_4))=some (Ffg_R r):=entT_F (cA_inj (isl_inj enc_Event_inj) (cA_inj I_inj (cA_inj I_inj (oA_inj str_inj)))) h
noncomputable def Ffg_c : Code:=bodyOf Tryd.f19
noncomputable abbrev Ffg_ka : Code:=cL (cL (cR (cL (cR (cR (cR Ffg_c))))))
noncomputable abbrev Ffg_kb : Code:=cR (cR (cR Ffg_ka))
noncomputable def Ffg_E : Env:=mkE Tryd.prog [(16,Ffh_ent)]
def Ffg_Q (x : (List Event) × Int × Int × Str) (r : Int × Int × Bool) : St→Prop:=QF Ffg_E Tryd.f19 [false,false,false,false] (Ffg_A x) (Ffg_R r)
theorem Ffg_la_run (list_1 : List Event) (parties_2 : Int) (party_3 : Int) (action_4 : Str)  {Q : St→Prop} {K : List It} (hK : noD K=true) : ∀ (x6 : Int × Int × Int) (y : (Int × Int × Bool) ⊕ (Int × Int)),Ffg_la list_1 parties_2 party_3 action_4 x6=some y→(∀ r',y=.inl r'→∀ st,Ffg_Q (list_1,parties_2,party_3,action_4) r' st→Q st)→(∀ u : Int × Int,y=.inr u→Run Ffg_E 0 Q K (sT 44 [(11,I (u.1)),(12,I (u.2))] [] 1))→Run Ffg_E 0 Q (.code Ffg_ka :: .lp Ffg_ka :: .blk 0 :: K) (sT 44 [(2,I (party_3)),(3,str (action_4)),(11,I (x6.1)),(12,I (x6.2.1)),(19,.isl false ((list_1).map enc_Event)),(20,I ((len list_1))),(21,I (x6.2.2))] [] 1):=by
 refine fix_indP (Ffg_la_fin list_1 parties_2 party_3 action_4) ?_
 intro self ih x6 y h hr hn
 unfold Ffg_la_F at h
 refine cq 5 [22] [B ((decide (x6.2.2 < (len list_1))))] 17 ?_
 refine sq h (fun h=>?_) (fun h=>?_)
 · refine aq 1 ?_
   refine aq 4 ?_
   obtain ⟨e7,he7,h⟩:=bS h
   refine oq 33 (.iptr (enc_Event e7) 0) rfl (e_indexAddr rfl rfl rfl (ix_islE rfl rfl rfl rfl he7)) ?_
   refine ck 11 [14,29] [] [49] [] [.hp 49 0 [] 4 0 0,B ((e7.Party == party_3))] [some ⟨0,4,[enc_Event e7]⟩] 161 (by kernel_rfl) ?_
   obtain ⟨u8,hu8,h⟩:=lJ h
   have j8 : Run Ffg_E 0 Q (.code (cR (cR (cL (cL (cR (cR Ffg_ka)))))) :: .blk 1 :: .code Ffg_kb :: .lp Ffg_ka :: .blk 0 :: K) (sT 44 [(2,I (party_3)),(3,str (action_4)),(11,I (x6.1)),(12,I (x6.2.1)),(14,.hp 1 0 [] 4 0 0),(19,.isl false ((list_1).map enc_Event)),(20,I ((len list_1))),(21,I (x6.2.2)),(34,B (u8))] [⟨0,4,[enc_Event e7]⟩] 2):=by
     obtain ⟨u9,hu9,h⟩:=lJ h
     have j9 : Run Ffg_E 0 Q (.blk 1 :: .code Ffg_kb :: .lp Ffg_ka :: .blk 0 :: K) (sT 44 [(2,I (party_3)),(3,str (action_4)),(11,I (u9.1)),(12,I (u9.2)),(19,.isl false ((list_1).map enc_Event)),(20,I ((len list_1))),(21,I (x6.2.2))] [] 1):=by
       refine cq 5 [21] [I ((w64 (x6.2.2 + 1)))] 33 ?_
       refine s_lp ?_
       exact rf [2,3,11,12,19,20,21] [] (ih _ _ h hr hn :)
     replace h:=hu9
     clear hu9
     refine scp h rfl rfl (fun h=>?_) (fun h=>?_)
     · refine cq 13 [11,12] [I ((w64 (x6.1 + 1))),I ((w64 (x6.2.1 + e7.Amount)))] 130 ?_
       subst h
       exact rf [2,3,11,12,19,20,21] [] (j9 :)
     · refine aq 1 ?_
       subst h
       exact rf [2,3,11,12,19,20,21] [] (j9 :)
   replace h:=hu8
   clear hu8
   refine sp 29 h rfl (fun h=>?_) (fun h=>?_)
   · refine cq 6 [34] [B ((e7.Action == action_4))] 241 ?_
     subst h
     exact rf [2,3,11,12,14,19,20,21,34] [49] (j8 :)
   · refine cq 6 [34] [B (false)] 241 ?_
     subst h
     exact rf [2,3,11,12,14,19,20,21,34] [49] (j8 :)
 · refine aq 1 ?_
   exact rf [11,12] [] (hn _ (Option.some.inj h).symm :) (hk:=hK)
theorem Ffg_run (list_1 : List Event) (parties_2 : Int) (party_3 : Int) (action_4 : Str) (r : Int × Int × Bool) (h : Ffg list_1 parties_2 party_3 action_4=some r) : RunF Ffg_E Tryd.f19 [false,false,false,false] 0 (Ffg_A (list_1,parties_2,party_3,action_4)) (Ffg_R r):=by
 show Run _ _ (Ffg_Q (list_1,parties_2,party_3,action_4) r) [.code Ffg_c] _
 refine rin (n:=44) [(0,.isl false ((list_1).map enc_Event)),(1,I (parties_2)),(2,I (party_3)),(3,str (action_4))] [] 1 (by kernel_rfl) (by kernel_rfl) (by kernel_rfl) rfl ?_
 unfold Ffg at h
 refine cq 11 [15,16] [.isl false ((list_1).map enc_Event),I (parties_2)] 81 ?_
 obtain ⟨r5,hr5,h⟩:=bS h
 refine oq 97 (B (r5)) rfl (e_callV rfl rfl (call_P rfl rfl rfl (avS (shP rfl) (avS (shP rfl) (avN))) (Ffh_F hr5) (.inr rfl) (bl_n) rfl rfl rfl)) ?_
 refine cq 2 [18] [B ((!r5))] 113 ?_
 refine sq h (fun h=>?_) (fun h=>?_)
 · refine cq 6 [8,9,10] [I (0),I (0),B (false)] 161 ?_
   obtain rfl:=Option.some.inj h
   exact s_ret rfl ⟨_,fin (vs:=[I (0),I (0),B (false)]) rfl (absE (absorb_plain rfl) (absE (absorb_plain rfl) (absE (absorb_plain rfl) (absEN)))) rfl (ou_f (ou_f (ou_f (ou_f (ou_n))))),kl_n⟩
 · refine aq 1 ?_
   refine cq 9 [11,12,19] [I (0),I (0),.isl false ((list_1).map enc_Event)] 161 ?_
   refine oq 177 (I ((len list_1))) rfl (e_len rfl rfl rfl (l_isl rfl)) ?_
   refine cq 3 [21] [I (0)] 193 ?_
   obtain ⟨y10,hy10,hy101,hy102⟩:=bJ h
   refine s_loop rfl ?_
   refine rf [2,3,11,12,19,20,21] [] (Ffg_la_run list_1 parties_2 party_3 action_4 rfl _ _ hy10 (fun r' e st hq=>by rw [hy101 r' e] at hq; exact hq) fun u10 hu=>?_)
   replace h:=hy102 u10 hu
   refine cq 8 [8,9,10] [I (u10.1),I (u10.2),B (true)] 81 ?_
   obtain rfl:=Option.some.inj h
   exact s_ret rfl ⟨_,fin (vs:=[I (u10.1),I (u10.2),B (true)]) rfl (absE (absorb_plain rfl) (absE (absorb_plain rfl) (absE (absorb_plain rfl) (absEN)))) rfl (ou_f (ou_f (ou_f (ou_f (ou_n))))),kl_n⟩
theorem Ffg_good {G : Go.Ln.Ground} : Good Tryd.prog G 19 Ffg_ent:=good_T (fnOf_good (gl_c Ffh_good (gl_n))) agree_mk (Checked.mixed Tryd.checked) Tryd.func19 (n:=4) (m:=0) ⟨rfl,rfl,by decide⟩ (fun _=>⟨rfl,rfl⟩) (fun a r h=>Ffg_run a.1 a.2.1 a.2.2.1 a.2.2.2 r h)
def Ffbt_A : ((List Int))→List V:=oA (slE (V.int .u8))
def Ffbt_R (r : (List Event) × Int × Int) : V × List V:=(.tup [.usl 4 ((r.1).map enc_Event),I (r.2.1),I (r.2.2)],[])
noncomputable def Ffbt_ent : Ent:=entT [false] Ffbt_A Ffbt_R fun x=>Ffbt x
theorem Ffbt_F {code_1 : List Int} {r} (h : Ffbt code_1=some r) : (Ffbt_ent).F (Ffbt_A code_1)=some (Ffbt_R r):=entT_F (oA_inj (isl_inj (vint_inj (k:=.u8)))) h
noncomputable def Ffbt_c : Code:=bodyOf Tryd.f47
noncomputable def Ffbt_E : Env:=mkE Tryd.prog [(74,Ffca_ent),(76,Ffby_ent)]
def Ffbt_Q (x : (List Int)) (r : (List Event) × Int × Int) : St→Prop:=QF Ffbt_E Tryd.f47 [false] (Ffbt_A x) (Ffbt_R r)
theorem Ffbt_run (code_1 : List Int) (r : (List Event) × Int × Int) (h : Ffbt code_1=some r) : RunF Ffbt_E Tryd.f47 [false] 0 (Ffbt_A code_1) (Ffbt_R r):=by
 show Run _ _ (Ffbt_Q code_1 r) [.code Ffbt_c] _
 refine rin (n:=17) [(0,.isl false ((code_1).map (V.int .u8)))] [] 1 (by kernel_rfl) (by kernel_rfl) (by kernel_rfl) rfl ?_
 unfold Ffbt at h
 refine ck 16 [5,9] [] [81] [] [.hp 81 0 [] 3 0 0,.hp 81 0 [] 3 0 0] [some ⟨0,3,[.agg [.isl false ((code_1).map (V.int .u8)),I (0),.int .u64 (0)]]⟩] 129 (by kernel_rfl) ?_
 obtain ⟨r2,hr2,h⟩:=bS h
 refine oq 145 (.hs 129 0 [] 4 0 ((r2.1).map enc_Event).length) rfl (e_callV rfl rfl (call_P rfl rfl rfl (avO (hd1 rfl (hd_hp (path:=[]) rfl rfl (ra_n) rfl)) (avN)) (Ffca_F hr2) (.inr rfl) (bl_c rfl rfl rfl rfl (bl_n)) rfl rfl rfl)) ?_
 refine cq 1 [11] [.hp 81 0 [] 3 0 0] 161 ?_
 refine oq 177 (.hs 161 0 [] 1 0 4) rfl (e_buildSlice rfl (bs_mk (f:=I) (xs:=[]) (z:=I (0)) (es:=[I (2),I (2),I (3),I (1)]) (ws:=[I (2),I (2),I (3),I (1)]) rfl rfl rfl (by decide) rfl (abs_each_plain rfl) rfl)) ?_
 obtain ⟨r3,hr3,h⟩:=bS h
 refine oK 193 (I (r3.1)) rfl rfl (e_callK rfl rfl (call_K rfl rfl rfl rfl (avO (hd1 rfl (hd_hp (path:=[]) rfl rfl (ra_n) rfl)) (avS (sh1 rfl rfl (sh_hsM (f:=I) (g:=I) (xs:=[2,2,3,1]) rfl rfl (imms_of I_imm))) (avN))) (Ffby_F hr3) (bl_c rfl rfl rfl rfl (bl_n)) rfl rfl rfl)) ?_
 refine cq 1 [14] [.hp 81 0 [] 3 0 0] 209 ?_
 refine oq 225 (.hs 209 0 [] 1 0 8) rfl (e_buildSlice rfl (bs_mk (f:=I) (xs:=[]) (z:=I (0)) (es:=[I (0),I (1),I ((-1)),I (30),I ((-3)),I (36524),I (36525),I (36500)]) (ws:=[I (0),I (1),I ((-1)),I (30),I ((-3)),I (36524),I (36525),I (36500)]) rfl rfl rfl (by decide) rfl (abs_each_plain rfl) rfl)) ?_
 obtain ⟨r4,hr4,h⟩:=bS h
 refine oK 241 (I (r4.1)) rfl rfl (e_callK rfl rfl (call_K rfl rfl rfl rfl (avO (hd1 rfl (hd_hp (path:=[]) rfl rfl (ra_n) rfl)) (avS (sh1 rfl rfl (sh_hsM (f:=I) (g:=I) (xs:=[0,1,(-1),30,(-3),36524,36525,36500]) rfl rfl (imms_of I_imm))) (avN))) (Ffby_F hr4) (bl_c rfl rfl rfl rfl (bl_n)) rfl rfl rfl)) ?_
 refine cq 4 [2,3,4] [.hs 129 0 [] 4 0 ((r2.1).map enc_Event).length,I (r3.1),I (r4.1)] 289 ?_
 obtain rfl:=Option.some.inj h
 exact s_ret rfl ⟨_,fin (vs:=[.hs 129 0 [] 4 0 ((r2.1).map enc_Event).length,I (r3.1),I (r4.1)]) rfl (absE (abs1 rfl (abs_hs rfl rfl)) (absE (absorb_plain rfl) (absE (absorb_plain rfl) (absEN)))) rfl (ou_f (ou_n)),kl_n⟩
theorem Ffbt_good {G : Go.Ln.Ground} : Good Tryd.prog G 47 Ffbt_ent:=good_T (fnOf_good (gl_c Ffca_good (gl_c Ffby_good (gl_n)))) agree_mk (Checked.mixed Tryd.checked) Tryd.func47 (n:=1) (m:=0) ⟨rfl,rfl,by decide⟩ (fun _=>⟨rfl,rfl⟩) (fun a r h=>Ffbt_run a r h)
def Ffk_A : ((List Event) × Int × Int)→List V:=cA (slE enc_Event) (cA I (oA I))
def Ffk_R (r : (List Event) × Bool) : V × List V:=(.tup [.usl 4 ((r.1).map enc_Event),B (r.2)],[])
noncomputable def Ffk_ent : Ent:=entT [false,false,false] Ffk_A Ffk_R fun x=>Ffk x.1 x.2.1 x.2.2
theorem Ffk_F {list_1 : List Event} {parties_2 : Int} {days_3 : Int} {r} (h : Ffk list_1 parties_2 days_3=some r) : (Ffk_ent).F (Ffk_A (list_1,parties_2,days_3))=some (Ffk_R r):=entT_F (cA_inj (isl_inj enc_Event_inj) (cA_inj I_inj (oA_inj I_inj))) h
noncomputable def Ffk_c : Code:=bodyOf Tryd.f21
noncomputable def Ffk_E : Env:=mkE Tryd.prog [(16,Ffh_ent),(56,Ffw_ent),(55,Ffq_ent)]
def Ffk_Q (x : (List Event) × Int × Int) (r : (List Event) × Bool) : St→Prop:=QF Ffk_E Tryd.f21 [false,false,false] (Ffk_A x) (Ffk_R r)
theorem Ffk_la_run (list_1 : List Event) (parties_2 : Int) (days_3 : Int) (r6 : (List Event)) {Q : St→Prop} {K : List It} (hK : noD K=true) : ∀ (x7 : Int × (List Event)) (y : ((List Event) × Bool) ⊕ ((List Event))),Ffk_la list_1 parties_2 days_3 r6 x7=some y→(∀ r',y=.inl r'→∀ st,Ffk_Q (list_1,parties_2,days_3) r' st→Q st)→(∀ u : (List Event),y=.inr u→Run Ffk_E 0 Q K (sT 41 [(1,I (parties_2)),(8,.hs 1 0 [] 4 0 ((u).map enc_Event).length)] [⟨0,4,(u).map enc_Event⟩] 2))→Run Ffk_E 0 Q (.code (cL (cL (cR (cL (cR (cR (cR Ffk_c))))))) :: .lp (cL (cL (cR (cL (cR (cR (cR Ffk_c))))))) :: .blk 0 :: K) (sT 41 [(1,I (parties_2)),(2,I (days_3)),(8,.hs 1 0 [] 4 0 ((x7.2).map enc_Event).length),(22,I ((len r6))),(23,I (x7.1))] [⟨0,4,(x7.2).map enc_Event⟩] 2):=by
 refine fix_indP (Ffk_la_fin list_1 parties_2 days_3 r6) ?_
 intro self ih x7 y h hr hn
 unfold Ffk_la_F at h
 refine cq 5 [24] [B ((decide (x7.1 < (len r6))))] 18 ?_
 refine sq h (fun h=>?_) (fun h=>?_)
 · refine aq 1 ?_
   refine cq 10 [26,27] [.hs 1 0 [] 4 0 ((x7.2).map enc_Event).length,I (x7.1)] 82 ?_
   obtain ⟨e8,he8,h⟩:=bS h
   refine oq 98 (.hp 1 0 [] 4 (0 + Int.toNat (x7.1)) 0) rfl (e_indexAddr rfl rfl rfl (ix_hsM (f:=enc_Event) (xs:=x7.2) rfl rfl rfl he8)) ?_
   refine cq 1 [29] [.hp 1 0 [] 4 (0 + Int.toNat (x7.1)) 0] 114 ?_
   refine oq 130 (I (e8.Day)) rfl (e_ld rfl (ld_at (path:=[]) rfl rfl rfl (ra_n) (get_map (f:=enc_Event) (xs:=x7.2) he8) rfl rfl rfl)) ?_
   refine cq 2 [32] [I ((w64 (e8.Day + days_3)))] 162 ?_
   obtain ⟨e9,he9,h⟩:=bS h
   refine oq 178 (.hp 1 0 [] 4 (0 + Int.toNat (x7.1)) 0) rfl (e_indexAddr rfl rfl rfl (ix_hsM (f:=enc_Event) (xs:=x7.2) rfl rfl rfl he9)) ?_
   refine cq 1 [34] [.hp 1 0 [] 4 (0 + Int.toNat (x7.1)) 0] 194 ?_
   refine o0 210 rfl rfl (e_st rfl rfl (st_at (path:=[]) (pl:=true) (e':=.agg [I ((w64 (e8.Day + days_3))),I (e9.Party),str (e9.Action),I (e9.Amount)]) (es2':=((setI x7.2 x7.1 (Event.mk (w64 (e8.Day + days_3)) e9.Party e9.Action e9.Amount))).map enc_Event) rfl (absorb_plain rfl) rfl rfl rfl (ra_n) (get_map (f:=enc_Event) (xs:=x7.2) he9) rfl rfl rfl (set_map (f:=enc_Event) (xs:=x7.2) (y:=(Event.mk (w64 (e8.Day + days_3)) e9.Party e9.Action e9.Amount))) (sr_n) 0 rfl)) ?_
   try rw [← len_setM (f:=enc_Event) (xs:=x7.2) (i:=x7.1) (z:=(Event.mk (w64 (e8.Day + days_3)) e9.Party e9.Action e9.Amount))]
   refine cq 6 [23] [I ((w64 (x7.1 + 1)))] 242 ?_
   refine s_lp ?_
   exact rf [1,2,8,22,23] [1] (ih _ _ h hr hn :)
 · refine aq 1 ?_
   exact rf [1,8] [1] (hn _ (Option.some.inj h).symm :) (hk:=hK)
theorem Ffk_run (list_1 : List Event) (parties_2 : Int) (days_3 : Int) (r : (List Event) × Bool) (h : Ffk list_1 parties_2 days_3=some r) : RunF Ffk_E Tryd.f21 [false,false,false] 0 (Ffk_A (list_1,parties_2,days_3)) (Ffk_R r):=by
 show Run _ _ (Ffk_Q (list_1,parties_2,days_3) r) [.code Ffk_c] _
 refine rin (n:=41) [(0,.isl false ((list_1).map enc_Event)),(1,I (parties_2)),(2,I (days_3))] [] 1 (by kernel_rfl) (by kernel_rfl) (by kernel_rfl) rfl ?_
 unfold Ffk at h
 refine cq 10 [10,11] [.isl false ((list_1).map enc_Event),I (parties_2)] 65 ?_
 obtain ⟨r4,hr4,h⟩:=bS h
 refine oq 81 (B (r4)) rfl (e_callV rfl rfl (call_P rfl rfl rfl (avS (shP rfl) (avS (shP rfl) (avN))) (Ffh_F hr4) (.inr rfl) (bl_n) rfl rfl rfl)) ?_
 refine cq 2 [14] [B ((!r4))] 113 ?_
 obtain ⟨y5,hy5,hy51,hy52⟩:=bJ h
 have j5 : ∀ u5,y5=.inr u5→Run Ffk_E 0 (Ffk_Q (list_1,parties_2,days_3) r) (.code (cR (cL (cR Ffk_c))) :: .code (cR (cR Ffk_c)) :: []) (sT 41 [(0,.isl false ((list_1).map enc_Event)),(1,I (parties_2)),(2,I (days_3)),(18,B (u5))] [] 1):=by
   intro u5 hu
   replace h:=hy52 u5 hu
   refine sq h (fun h=>?_) (fun h=>?_)
   · refine cq 5 [6,7] [.isl true [],B (false)] 33 ?_
     refine run_own 6 0 4 49 (.hs 33 0 [] 4 0 0) rfl rfl rfl rfl rfl ?_
     obtain rfl:=Option.some.inj h
     exact s_ret rfl ⟨_,fin (vs:=[.hs 33 0 [] 4 0 0,B (false)]) rfl (absE (abs1 rfl (abs_hs rfl rfl)) (absE (absorb_plain rfl) (absEN))) rfl (ou_f (ou_f (ou_f (ou_n)))),kl_n⟩
   · refine aq 1 ?_
     refine cq 3 [19] [.isl false ((list_1).map enc_Event)] 17 ?_
     obtain ⟨r6,hr6,h⟩:=bS h
     refine oq 33 (.hs 17 0 [] 4 0 ((r6).map enc_Event).length) rfl (e_callV rfl rfl (call_P rfl rfl rfl (avS (shP rfl) (avN)) (Ffw_F hr6) (.inr rfl) (bl_n) rfl rfl rfl)) ?_
     refine cq 6 [8,21] [.hs 17 0 [] 4 0 ((r6).map enc_Event).length,.hs 17 0 [] 4 0 ((r6).map enc_Event).length] 65 ?_
     refine oq 81 (I ((len r6))) rfl (e_len rfl rfl rfl (l_hsM (f:=enc_Event) (xs:=r6) rfl rfl)) ?_
     refine cq 3 [23] [I (0)] 97 ?_
     obtain ⟨y11,hy11,hy111,hy112⟩:=bJ h
     refine s_loop rfl ?_
     refine rf [1,2,8,22,23] [17] (Ffk_la_run list_1 parties_2 days_3 r6 rfl _ _ hy11 (fun r' e st hq=>by rw [hy111 r' e] at hq; exact hq) fun u11 hu=>?_)
     replace h:=hy112 u11 hu
     refine cq 5 [36,37] [.hs 1 0 [] 4 0 ((u11).map enc_Event).length,I (parties_2)] 34 ?_
     obtain ⟨r12,hr12,h⟩:=bS h
     refine oq 50 (B (r12)) rfl (e_callV rfl rfl (call_P rfl rfl rfl (avS (sh1 rfl rfl (sh_hsM (f:=enc_Event) (g:=enc_Event) (xs:=u11) rfl rfl (imms_of enc_Event_imm))) (avS (shP rfl) (avN))) (Ffh_F hr12) (.inl (rfl)) (bl_n) rfl rfl rfl)) ?_
     refine cq 2 [39] [B ((!r12))] 66 ?_
     refine sq h (fun h=>?_) (fun h=>?_)
     · refine cq 5 [6,7] [.isl true [],B (false)] 98 ?_
       refine run_own 6 0 4 114 (.hs 98 0 [] 4 0 0) rfl rfl rfl rfl rfl ?_
       obtain rfl:=Option.some.inj h
       exact s_ret rfl ⟨_,fin (vs:=[.hs 98 0 [] 4 0 0,B (false)]) rfl (absE (abs1 rfl (abs_hs rfl rfl)) (absE (absorb_plain rfl) (absEN))) rfl (ou_f (ou_f (ou_f (ou_n)))),kl_n⟩
     · refine aq 1 ?_
       refine cq 6 [6,7] [.hs 1 0 [] 4 0 ((u11).map enc_Event).length,B (true)] 114 ?_
       obtain rfl:=Option.some.inj h
       exact s_ret rfl ⟨_,fin (vs:=[.hs 1 0 [] 4 0 ((u11).map enc_Event).length,B (true)]) rfl (absE (abs1 rfl (abs_hs rfl rfl)) (absE (absorb_plain rfl) (absEN))) rfl (ou_f (ou_f (ou_f (ou_n)))),kl_n⟩
 have r5 : ∀ r',y5=.inl r'→∀ st,Ffk_Q (list_1,parties_2,days_3) r' st→(Ffk_Q (list_1,parties_2,days_3) r) st:=fun r' e st hq=>by rw [hy51 r' e] at hq; exact hq
 replace h:=hy5
 refine sp 14 h rfl (fun h=>?_) (fun h=>?_)
 · refine cq 5 [18] [B (true)] 177 ?_
   exact rf [0,1,2,18] [] (j5 _ (Option.some.inj h).symm :)
 · refine cq 1 [15] [I (days_3)] 129 ?_
   obtain ⟨r13,hr13,h⟩:=bS h
   refine oy 145 (B (r13)) rfl (e_callV rfl rfl (call_P rfl rfl rfl (avS (shP rfl) (avS (shP rfl) (avS (shP rfl) (avN)))) (Ffq_F hr13) (.inr rfl) (bl_n) rfl rfl rfl)) ?_
   refine cq 3 [18] [B ((!r13))] 177 ?_
   exact rf [0,1,2,18] [] (j5 _ (Option.some.inj h).symm :)
theorem Ffk_good {G : Go.Ln.Ground} : Good Tryd.prog G 21 Ffk_ent:=good_T (fnOf_good (gl_c Ffh_good (gl_c Ffw_good (gl_c Ffq_good (gl_n))))) agree_mk (Checked.mixed Tryd.checked) Tryd.func21 (n:=3) (m:=0) ⟨rfl,rfl,by decide⟩ (fun _=>⟨rfl,rfl⟩) (fun a r h=>Ffk_run a.1 a.2.1 a.2.2 r h)
def Ffbw_A : ((List Event) × Int × Int)→List V:=cA (slE enc_Event) (cA I (oA I))
def Ffbw_R (r : (List Event) × Bool) : V × List V:=(.tup [.usl 4 ((r.1).map enc_Event),B (r.2)],[])
noncomputable def Ffbw_ent : Ent:=entT [false,false,false] Ffbw_A Ffbw_R fun x=>Ffbw x.1 x.2.1 x.2.2
theorem Ffbw_F {list_1 : List Event} {parties_2 : Int} {days_3 : Int} {r} (h : Ffbw list_1 parties_2 days_3=some r) : (Ffbw_ent).F (Ffbw_A (list_1,parties_2,days_3))=some (Ffbw_R r):=entT_F (cA_inj (isl_inj enc_Event_inj) (cA_inj I_inj (oA_inj I_inj))) h
noncomputable def Ffbw_c : Code:=bodyOf Tryd.f20
noncomputable def Ffbw_E : Env:=mkE Tryd.prog [(49,Ffco_ent),(54,spec_l1In_ent)]
def Ffbw_Q (x : (List Event) × Int × Int) (r : (List Event) × Bool) : St→Prop:=QF Ffbw_E Tryd.f20 [false,false,false] (Ffbw_A x) (Ffbw_R r)
theorem Ffbw_la_run (list_1 : List Event) (parties_2 : Int) (days_3 : Int)  {Q : St→Prop} {K : List It} (hK : noD K=true) : ∀ (x6 : Int × (List Event)) (y : ((List Event) × Bool) ⊕ ((List Event))),Ffbw_la list_1 parties_2 days_3 x6=some y→(∀ r',y=.inl r'→∀ st,Ffbw_Q (list_1,parties_2,days_3) r' st→Q st)→(∀ u : (List Event),y=.inr u→Run Ffbw_E 0 Q K (sT 47 [(1,I (parties_2)),(8,.hs 1 0 [] 4 0 ((u).map enc_Event).length)] [⟨0,4,(u).map enc_Event⟩] 2))→Run Ffbw_E 0 Q (.code (cL (cL (cR (cL (cR (cR (cR Ffbw_c))))))) :: .lp (cL (cL (cR (cL (cR (cR (cR Ffbw_c))))))) :: .blk 0 :: K) (sT 47 [(0,.isl false ((list_1).map enc_Event)),(1,I (parties_2)),(2,I (days_3)),(8,.hs 1 0 [] 4 0 ((x6.2).map enc_Event).length),(9,I (x6.1))] [⟨0,4,(x6.2).map enc_Event⟩] 2):=by
 refine fix_indP (Ffbw_la_fin list_1 parties_2 days_3) ?_
 intro self ih x6 y h hr hn
 unfold Ffbw_la_F at h
 refine cq 5 [22,23] [I (x6.1),.isl false ((list_1).map enc_Event)] 34 ?_
 refine oq 50 (I ((len list_1))) rfl (e_len rfl rfl rfl (l_isl rfl)) ?_
 refine cq 2 [25] [B ((decide (x6.1 < (len list_1))))] 66 ?_
 refine sq h (fun h=>?_) (fun h=>?_)
 · refine aq 1 ?_
   refine cq 6 [28,29] [.isl false ((list_1).map enc_Event),I (x6.1)] 98 ?_
   obtain ⟨e7,he7,h⟩:=bS h
   refine oq 114 (.iptr (enc_Event e7) 0) rfl (e_indexAddr rfl rfl rfl (ix_islE rfl rfl rfl rfl he7)) ?_
   refine cq 16 [37,38] [.hs 1 0 [] 4 0 ((x6.2).map enc_Event).length,.agg [I ((w64 (e7.Day + days_3))),I (e7.Party),str (e7.Action),I (e7.Amount)]] 290 ?_
   refine oq 306 (.hs 290 0 [] 4 0 1) rfl (e_buildSlice rfl (bs_mk (f:=I) (xs:=[]) (z:=.agg [I (0),I (0),str ([]),I (0)]) (es:=[.agg [I ((w64 (e7.Day + days_3))),I (e7.Party),str (e7.Action),I (e7.Amount)]]) (ws:=[.agg [I ((w64 (e7.Day + days_3))),I (e7.Party),str (e7.Action),I (e7.Amount)]]) rfl rfl rfl (by decide) rfl (abs_each_plain rfl) rfl)) ?_
   obtain ⟨a8,ha8,h⟩:=bS h
   refine oq 322 (.hs 306 0 [] 4 0 ((a8).map enc_Event).length) rfl (e_append rfl rfl rfl rfl rfl (ap_hsM (path:=[]) (f:=enc_Event) (xs:=x6.2) (ys:=[(Event.mk (w64 (e7.Day + days_3)) e7.Party e7.Action e7.Amount)]) rfl rfl (take_hs rfl rfl rfl) rfl rfl rfl (ra_n) rfl (by decide) enc_Event_cells ha8 rfl (to_n))) ?_
   refine cq 8 [8,9] [.hs 306 0 [] 4 0 ((a8).map enc_Event).length,I ((w64 (x6.1 + 1)))] 386 ?_
   refine s_lp ?_
   exact rf [0,1,2,8,9] [306] (ih _ _ h hr hn :)
 · refine aq 1 ?_
   exact rf [1,8] [1] (hn _ (Option.some.inj h).symm :) (hk:=hK)
theorem Ffbw_run (list_1 : List Event) (parties_2 : Int) (days_3 : Int) (r : (List Event) × Bool) (h : Ffbw list_1 parties_2 days_3=some r) : RunF Ffbw_E Tryd.f20 [false,false,false] 0 (Ffbw_A (list_1,parties_2,days_3)) (Ffbw_R r):=by
 show Run _ _ (Ffbw_Q (list_1,parties_2,days_3) r) [.code Ffbw_c] _
 refine rin (n:=47) [(0,.isl false ((list_1).map enc_Event)),(1,I (parties_2)),(2,I (days_3))] [] 1 (by kernel_rfl) (by kernel_rfl) (by kernel_rfl) rfl ?_
 unfold Ffbw at h
 refine cq 7 [] [] 33 ?_
 refine oq 49 (.hs 33 0 [] 4 0 0) rfl (e_buildSlice rfl (bs_mk (f:=I) (xs:=[]) (z:=.agg [I (0),I (0),str ([]),I (0)]) (es:=[]) (ws:=[]) rfl rfl rfl (by decide) rfl (abs_each_plain rfl) rfl)) ?_
 refine cq 7 [8,12,13] [.hs 33 0 [] 4 0 0,.isl false ((list_1).map enc_Event),I (parties_2)] 97 ?_
 obtain ⟨r4,hr4,h⟩:=bS h
 refine oq 113 (B (r4)) rfl (e_callV rfl rfl (call_P rfl rfl rfl (avS (shP rfl) (avS (shP rfl) (avN))) (Ffco_F hr4) (.inr rfl) (bl_n) rfl rfl rfl)) ?_
 refine cq 2 [16] [B ((!r4))] 145 ?_
 obtain ⟨y5,hy5,hy51,hy52⟩:=bJ h
 have j5 : ∀ u5,y5=.inr u5→Run Ffbw_E 0 (Ffbw_Q (list_1,parties_2,days_3) r) (.code (cR (cL (cR (cR Ffbw_c)))) :: .code (cR (cR (cR Ffbw_c))) :: []) (sT 47 [(0,.isl false ((list_1).map enc_Event)),(1,I (parties_2)),(2,I (days_3)),(8,.hs 1 0 [] 4 0 0),(20,B (u5))] [⟨0,4,[]⟩] 2):=by
   intro u5 hu
   replace h:=hy52 u5 hu
   refine sq h (fun h=>?_) (fun h=>?_)
   · refine cq 6 [6,7] [.hs 1 0 [] 4 0 0,B (false)] 50 ?_
     obtain rfl:=Option.some.inj h
     exact s_ret rfl ⟨_,fin (vs:=[.hs 1 0 [] 4 0 0,B (false)]) rfl (absE (abs1 rfl (abs_hs rfl rfl)) (absE (absorb_plain rfl) (absEN))) rfl (ou_f (ou_f (ou_f (ou_n)))),kl_n⟩
   · refine aq 1 ?_
     refine cq 6 [9] [I (0)] 18 ?_
     obtain ⟨y9,hy9,hy91,hy92⟩:=bJ h
     refine s_loop rfl ?_
     refine rf [0,1,2,8,9] [1] (Ffbw_la_run list_1 parties_2 days_3 rfl _ _ hy9 (fun r' e st hq=>by rw [hy91 r' e] at hq; exact hq) fun u9 hu=>?_)
     replace h:=hy92 u9 hu
     refine cq 5 [41,42] [.hs 1 0 [] 4 0 ((u9).map enc_Event).length,I (parties_2)] 34 ?_
     obtain ⟨r10,hr10,h⟩:=bS h
     refine oq 50 (B (r10)) rfl (e_callV rfl rfl (call_P rfl rfl rfl (avS (sh1 rfl rfl (sh_hsM (f:=enc_Event) (g:=enc_Event) (xs:=u9) rfl rfl (imms_of enc_Event_imm))) (avS (shP rfl) (avN))) (Ffco_F hr10) (.inl (rfl)) (bl_n) rfl rfl rfl)) ?_
     refine cq 2 [44] [B ((!r10))] 66 ?_
     refine sq h (fun h=>?_) (fun h=>?_)
     · refine aq 2 ?_
       refine oq 82 (.hs 66 0 [] 4 0 0) rfl (e_buildSlice rfl (bs_mk (f:=I) (xs:=[]) (z:=.agg [I (0),I (0),str ([]),I (0)]) (es:=[]) (ws:=[]) rfl rfl rfl (by decide) rfl (abs_each_plain rfl) rfl)) ?_
       refine cq 3 [6,7] [.hs 66 0 [] 4 0 0,B (false)] 114 ?_
       obtain rfl:=Option.some.inj h
       exact s_ret rfl ⟨_,fin (vs:=[.hs 66 0 [] 4 0 0,B (false)]) rfl (absE (abs1 rfl (abs_hs rfl rfl)) (absE (absorb_plain rfl) (absEN))) rfl (ou_f (ou_f (ou_f (ou_n)))),kl_n⟩
     · refine aq 1 ?_
       refine cq 6 [6,7] [.hs 1 0 [] 4 0 ((u9).map enc_Event).length,B (true)] 114 ?_
       obtain rfl:=Option.some.inj h
       exact s_ret rfl ⟨_,fin (vs:=[.hs 1 0 [] 4 0 ((u9).map enc_Event).length,B (true)]) rfl (absE (abs1 rfl (abs_hs rfl rfl)) (absE (absorb_plain rfl) (absEN))) rfl (ou_f (ou_f (ou_f (ou_n)))),kl_n⟩
 have r5 : ∀ r',y5=.inl r'→∀ st,Ffbw_Q (list_1,parties_2,days_3) r' st→(Ffbw_Q (list_1,parties_2,days_3) r) st:=fun r' e st hq=>by rw [hy51 r' e] at hq; exact hq
 replace h:=hy5
 refine sp 16 h rfl (fun h=>?_) (fun h=>?_)
 · refine cq 5 [20] [B (true)] 209 ?_
   exact rf [0,1,2,8,20] [33] (j5 _ (Option.some.inj h).symm :)
 · refine cq 1 [17] [I (days_3)] 161 ?_
   obtain ⟨r11,hr11,h⟩:=bS h
   refine oy 177 (B (r11)) rfl (e_callV rfl rfl (call_P rfl rfl rfl (avS (shP rfl) (avS (shP rfl) (avS (shP rfl) (avN)))) (spec_l1In_F hr11) (.inr rfl) (bl_n) rfl rfl rfl)) ?_
   refine cq 3 [20] [B ((!r11))] 209 ?_
   exact rf [0,1,2,8,20] [33] (j5 _ (Option.some.inj h).symm :)
theorem Ffbw_good {G : Go.Ln.Ground} : Good Tryd.prog G 20 Ffbw_ent:=good_T (fnOf_good (gl_c Ffco_good (gl_c spec_l1In_good (gl_n)))) agree_mk (Checked.mixed Tryd.checked) Tryd.func20 (n:=3) (m:=0) ⟨rfl,rfl,by decide⟩ (fun _=>⟨rfl,rfl⟩) (fun a r h=>Ffbw_run a.1 a.2.1 a.2.2 r h)
def Fft_A : ((List Event) × (List Event))→List V:=cA (slE enc_Event) (oA (slE enc_Event))
def Fft_R (r : Bool) : V × List V:=(B (r),[])
noncomputable def Fft_ent : Ent:=entT [false,false] Fft_A Fft_R fun x=>Fft x.1 x.2
theorem Fft_F {a_1 : List Event} {b_2 : List Event} {r} (h : Fft a_1 b_2=some r) : (Fft_ent).F (Fft_A (a_1,b_2))=some (Fft_R r):=entT_F (cA_inj (isl_inj enc_Event_inj) (oA_inj (isl_inj enc_Event_inj))) h
noncomputable def Fft_c : Code:=bodyOf Tryd.f48
noncomputable def Fft_E : Env:=mkE Tryd.prog [] [50]
def Fft_Q (x : (List Event) × (List Event)) (r : Bool) : St→Prop:=QF Fft_E Tryd.f48 [false,false] (Fft_A x) (Fft_R r)
theorem Fft_la_run (a_1 : List Event) (b_2 : List Event)  {Q : St→Prop} {K : List It} (hK : noD K=true) : ∀ (x3 : Int) (y : Bool ⊕ Unit),Fft_la a_1 b_2 x3=some y→(∀ r',y=.inl r'→∀ st,Fft_Q (a_1,b_2) r' st→Q st)→(∀ u : Unit,y=.inr u→Run Fft_E 0 Q K (sT 26 [] [] 1))→Run Fft_E 0 Q (.code (cL (cL (cR (cL (cR (cR Fft_c)))))) :: .lp (cL (cL (cR (cL (cR (cR Fft_c)))))) :: .blk 0 :: K) (sT 26 [(0,.isl false ((a_1).map enc_Event)),(1,.isl false ((b_2).map enc_Event)),(5,I (x3))] [] 1):=by
 refine fix_indP (Fft_la_fin a_1 b_2) ?_
 intro self ih x3 y h hr hn
 unfold Fft_la_F at h
 refine cq 5 [11,12] [I (x3),.isl false ((a_1).map enc_Event)] 33 ?_
 refine oq 49 (I ((len a_1))) rfl (e_len rfl rfl rfl (l_isl rfl)) ?_
 refine cq 2 [14] [B ((decide (x3 < (len a_1))))] 65 ?_
 refine sq h (fun h=>?_) (fun h=>?_)
 · refine aq 1 ?_
   refine aq 3 ?_
   refine s_draw [0,0,3,7,0,0,48,112,255] rfl (by decide +kernel) ?_
   refine dk 2 [18,17] [I (x3),.isl false ((a_1).map enc_Event)] ?_
   obtain ⟨e4,he4,h⟩:=bS h
   refine dq [] [] (.iptr (enc_Event e4) 0) rfl (e_indexAddr rfl rfl rfl (ix_islE rfl rfl rfl rfl he4)) ?_
   refine dq [] [] (enc_Event e4) rfl (e_ld rfl rfl) ?_
   refine dk 2 [22,21] [I (x3),.isl false ((b_2).map enc_Event)] ?_
   obtain ⟨e5,he5,h⟩:=bS h
   refine dq [] [] (.iptr (enc_Event e5) 0) rfl (e_indexAddr rfl rfl rfl (ix_islE rfl rfl rfl rfl he5)) ?_
   refine dq [] [] (enc_Event e5) rfl (e_ld rfl rfl) ?_
   refine dq [] [] (B ((!(e4.Day == e5.Day && (e4.Party == e5.Party && (e4.Action == e5.Action && (e4.Amount == e5.Amount && true))))))) rfl (e_bin rfl rfl (b_agne (b:=(e4.Day == e5.Day && (e4.Party == e5.Party && (e4.Action == e5.Action && (e4.Amount == e5.Amount && true))))) rfl rfl rfl rfl)) ?_
   refine de 209 rfl rfl ?_
   refine sq h (fun h=>?_) (fun h=>?_)
   · refine cq 4 [4] [B (false)] 225 ?_
     exact s_ret rfl (hr _ (Option.some.inj h).symm _ ⟨_,fin (vs:=[B (false)]) rfl (absE (absorb_plain rfl) (absEN)) rfl (ou_f (ou_f (ou_n))),kl_n⟩)
   · refine aq 1 ?_
     refine cq 6 [5] [I ((w64 (x3 + 1)))] 257 ?_
     refine s_lp ?_
     exact rf [0,1,5] [] (ih _ _ h hr hn :)
 · refine aq 1 ?_
   exact rf [] [] (hn _ (Option.some.inj h).symm :) (hk:=hK)
theorem Fft_run (a_1 : List Event) (b_2 : List Event) (r : Bool) (h : Fft a_1 b_2=some r) : RunF Fft_E Tryd.f48 [false,false] 0 (Fft_A (a_1,b_2)) (Fft_R r):=by
 show Run _ _ (Fft_Q (a_1,b_2) r) [.code Fft_c] _
 refine rin (n:=26) [(0,.isl false ((a_1).map enc_Event)),(1,.isl false ((b_2).map enc_Event))] [] 1 (by kernel_rfl) (by kernel_rfl) (by kernel_rfl) rfl ?_
 unfold Fft at h
 refine cq 8 [6] [.isl false ((a_1).map enc_Event)] 33 ?_
 refine oq 49 (I ((len a_1))) rfl (e_len rfl rfl rfl (l_isl rfl)) ?_
 refine cq 1 [8] [.isl false ((b_2).map enc_Event)] 65 ?_
 refine oq 81 (I ((len b_2))) rfl (e_len rfl rfl rfl (l_isl rfl)) ?_
 refine cq 2 [10] [B (((len a_1) != (len b_2)))] 97 ?_
 refine sq h (fun h=>?_) (fun h=>?_)
 · refine cq 4 [4] [B (false)] 113 ?_
   obtain rfl:=Option.some.inj h
   exact s_ret rfl ⟨_,fin (vs:=[B (false)]) rfl (absE (absorb_plain rfl) (absEN)) rfl (ou_f (ou_f (ou_n))),kl_n⟩
 · refine aq 1 ?_
   refine cq 6 [5] [I (0)] 113 ?_
   obtain ⟨y6,hy6,hy61,hy62⟩:=bJ h
   refine s_loop rfl ?_
   refine rf [0,1,5] [] (Fft_la_run a_1 b_2 rfl _ _ hy6 (fun r' e st hq=>by rw [hy61 r' e] at hq; exact hq) fun u6 hu=>?_)
   replace h:=hy62 u6 hu
   refine cq 4 [4] [B (true)] 17 ?_
   obtain rfl:=Option.some.inj h
   exact s_ret rfl ⟨_,fin (vs:=[B (true)]) rfl (absE (absorb_plain rfl) (absEN)) rfl (ou_f (ou_f (ou_n))),kl_n⟩
theorem Fft_good {G : Go.Ln.Ground} : Good Tryd.prog G 48 Fft_ent := good_T (fnOf_good (gl_n)) (agree_mkq (by
    intro t ht
    simp only [List.mem_cons, List.not_mem_nil, or_false] at ht
    rcases ht with rfl
    all_goals kernel_rfl)) (Checked.mixed Tryd.checked) Tryd.func48 (n := 2) (m := 0) ⟨rfl, rfl, by decide⟩ (fun _ => ⟨rfl, rfl⟩) (fun a r h => Fft_run a.1 a.2 r h)
def laws_FnEvents_A : ((List Int))→List V:=oA (slE (V.int .u8))
def laws_FnEvents_R (r : Bool) : V × List V:=(B (r),[])
noncomputable def laws_FnEvents_ent : Ent:=entT [false] laws_FnEvents_A laws_FnEvents_R fun x=>laws_FnEvents x
theorem laws_FnEvents_F {code_1 : List Int} {r} (h : laws_FnEvents code_1=some r) : (laws_FnEvents_ent).F (laws_FnEvents_A code_1)=some (laws_FnEvents_R r):=entT_F (oA_inj (isl_inj (vint_inj (k:=.u8)))) h
noncomputable def laws_FnEvents_c : Code:=bodyOf Tryd.f12
noncomputable abbrev laws_FnEvents_ka : Code:=cR (cR (cL (cR (cR (cR (cR laws_FnEvents_c))))))
noncomputable abbrev laws_FnEvents_kb : Code:=cR (cR (cR (cR (cR (cR (cR (cR (cR laws_FnEvents_c))))))))
noncomputable abbrev laws_FnEvents_kc : Code:=cR (cR (cR (cR (cR laws_FnEvents_kb))))
noncomputable abbrev laws_FnEvents_kd : Code:=cR (cR (cR (cR (cL (cR (cL (cR (cR (cR (cR (cR (cR (cR (cR laws_FnEvents_c))))))))))))))
noncomputable def laws_FnEvents_E : Env:=mkE Tryd.prog [(44,laws_vBig_ent),(45,Ffbu_ent),(39,Ffl_ent),(38,Ffbx_ent),(46,Ffbs_ent),(41,Ffj_ent),(40,Ffbv_ent),(47,Ffbt_ent),(21,Ffk_ent),(20,Ffbw_ent),(48,Fft_ent),(19,Ffg_ent),(16,Ffh_ent)]
def laws_FnEvents_Q (x : (List Int)) (r : Bool) : St→Prop:=QF laws_FnEvents_E Tryd.f12 [false] (laws_FnEvents_A x) (laws_FnEvents_R r)
theorem laws_FnEvents_run (code_1 : List Int) (r : Bool) (h : laws_FnEvents code_1=some r) : RunF laws_FnEvents_E Tryd.f12 [false] 0 (laws_FnEvents_A code_1) (laws_FnEvents_R r):=by
 show Run _ _ (laws_FnEvents_Q code_1 r) [.code laws_FnEvents_c] _
 refine rin (n:=184) [(0,.isl false ((code_1).map (V.int .u8)))] [] 1 (by kernel_rfl) (by kernel_rfl) (by kernel_rfl) rfl ?_
 unfold laws_FnEvents at h
 refine cq 8 [34] [.isl false ((code_1).map (V.int .u8))] 33 ?_
 obtain ⟨r2,hr2,h⟩:=bS h
 refine oq 49 (B (r2)) rfl (e_callV rfl rfl (call_P rfl rfl rfl (avS (shP rfl) (avN)) (laws_vBig_F hr2) (.inr rfl) (bl_n) rfl rfl rfl)) ?_
 refine aq 1 ?_
 refine sq h (fun h=>?_) (fun h=>?_)
 · refine cq 4 [2] [B (true)] 65 ?_
   obtain rfl:=Option.some.inj h
   exact s_ret rfl ⟨_,fin (vs:=[B (true)]) rfl (absE (absorb_plain rfl) (absEN)) rfl (ou_f (ou_n)),kl_n⟩
 · refine aq 1 ?_
   refine cq 3 [37] [.isl false ((code_1).map (V.int .u8))] 65 ?_
   obtain ⟨r3,hr3,h⟩:=bS h
   refine oq 81 (.tup [.hs 65 0 [] 4 0 ((r3.1).map enc_Event).length,I (r3.2)]) rfl (e_callV rfl rfl (call_P rfl rfl rfl (avS (shP rfl) (avN)) (Ffbu_F hr3) (.inr rfl) (bl_n) rfl rfl rfl)) ?_
   refine cq 10 [3,4,42,43] [.hs 65 0 [] 4 0 ((r3.1).map enc_Event).length,I (r3.2),.hs 65 0 [] 4 0 ((r3.1).map enc_Event).length,I (r3.2)] 193 ?_
   obtain ⟨r4,hr4,h⟩:=bS h
   refine oq 209 (.tup [.hs 193 0 [] 4 0 ((r4.1).map enc_Event).length,B (r4.2)]) rfl (e_callV rfl rfl (call_P rfl rfl rfl (avS (sh1 rfl rfl (sh_hsM (f:=enc_Event) (g:=enc_Event) (xs:=r3.1) rfl rfl (imms_of enc_Event_imm))) (avS (shP rfl) (avN))) (Ffl_F hr4) (.inl (by simp [hasImm,hasImms,str,himm_map (f:=enc_Event) enc_Event_himm])) (bl_n) rfl rfl rfl)) ?_
   refine cq 11 [5,6,48,49] [.hs 193 0 [] 4 0 ((r4.1).map enc_Event).length,B (r4.2),.hs 65 0 [] 4 0 ((r3.1).map enc_Event).length,I (r3.2)] 321 ?_
   obtain ⟨r5,hr5,h⟩:=bS h
   refine oq 337 (.tup [.hs 321 0 [] 4 0 ((r5.1).map enc_Event).length,B (r5.2)]) rfl (e_callV rfl rfl (call_P rfl rfl rfl (avS (sh1 rfl rfl (sh_hsM (f:=enc_Event) (g:=enc_Event) (xs:=r3.1) rfl rfl (imms_of enc_Event_imm))) (avS (shP rfl) (avN))) (Ffbx_F hr5) (.inl (by simp [hasImm,hasImms,str,himm_map (f:=enc_Event) enc_Event_himm])) (bl_n) rfl rfl rfl)) ?_
   refine cq 12 [56] [B ((!(r4.2 == r5.2)))] 481 ?_
   obtain ⟨y6,hy6,hy61,hy62⟩:=bJ h
   have j6 : ∀ u6,y6=.inr u6→Run laws_FnEvents_E 0 (laws_FnEvents_Q code_1 r) (.code laws_FnEvents_ka :: .code (cR (cR (cR (cR (cR laws_FnEvents_c))))) :: []) (sT 184 [(0,.isl false ((code_1).map (V.int .u8))),(71,B (u6))] [] 1):=by
     intro u6 hu
     replace h:=hy62 u6 hu
     refine sq h (fun h=>?_) (fun h=>?_)
     · refine cq 4 [2] [B (false)] 17 ?_
       obtain rfl:=Option.some.inj h
       exact s_ret rfl ⟨_,fin (vs:=[B (false)]) rfl (absE (absorb_plain rfl) (absEN)) rfl (ou_f (ou_n)),kl_n⟩
     · refine aq 1 ?_
       refine cq 3 [73] [.isl false ((code_1).map (V.int .u8))] 17 ?_
       obtain ⟨r7,hr7,h⟩:=bS h
       refine oq 33 (.tup [.hs 17 0 [] 4 0 ((r7.1).map enc_Event).length,.hs 18 0 [] 4 0 ((r7.2.1).map enc_Event).length,I (r7.2.2)]) rfl (e_callV rfl rfl (call_P rfl rfl rfl (avS (shP rfl) (avN)) (Ffbs_F hr7) (.inr rfl) (bl_n) rfl rfl rfl)) ?_
       refine cq 13 [9,10,11,79,80,81] [.hs 17 0 [] 4 0 ((r7.1).map enc_Event).length,.hs 18 0 [] 4 0 ((r7.2.1).map enc_Event).length,I (r7.2.2),.hs 17 0 [] 4 0 ((r7.1).map enc_Event).length,.hs 18 0 [] 4 0 ((r7.2.1).map enc_Event).length,I (r7.2.2)] 193 ?_
       obtain ⟨r8,hr8,h⟩:=bS h
       refine oq 209 (.tup [.hs 193 0 [] 4 0 ((r8.1).map enc_Event).length,B (r8.2)]) rfl (e_callV rfl rfl (call_P rfl rfl rfl (avS (sh1 rfl rfl (sh_hsM (f:=enc_Event) (g:=enc_Event) (xs:=r7.1) rfl rfl (imms_of enc_Event_imm))) (avS (sh1 rfl rfl (sh_hsM (f:=enc_Event) (g:=enc_Event) (xs:=r7.2.1) rfl rfl (imms_of enc_Event_imm))) (avS (shP rfl) (avN)))) (Ffj_F hr8) (.inl (by simp [hasImm,hasImms,str,himm_map (f:=enc_Event) enc_Event_himm])) (bl_n) rfl rfl rfl)) ?_
       refine cq 12 [12,13,86,87,88] [.hs 193 0 [] 4 0 ((r8.1).map enc_Event).length,B (r8.2),.hs 17 0 [] 4 0 ((r7.1).map enc_Event).length,.hs 18 0 [] 4 0 ((r7.2.1).map enc_Event).length,I (r7.2.2)] 337 ?_
       obtain ⟨r9,hr9,h⟩:=bS h
       refine oq 353 (.tup [.hs 337 0 [] 4 0 ((r9.1).map enc_Event).length,B (r9.2)]) rfl (e_callV rfl rfl (call_P rfl rfl rfl (avS (sh1 rfl rfl (sh_hsM (f:=enc_Event) (g:=enc_Event) (xs:=r7.1) rfl rfl (imms_of enc_Event_imm))) (avS (sh1 rfl rfl (sh_hsM (f:=enc_Event) (g:=enc_Event) (xs:=r7.2.1) rfl rfl (imms_of enc_Event_imm))) (avS (shP rfl) (avN)))) (Ffbv_F hr9) (.inl (by simp [hasImm,hasImms,str,himm_map (f:=enc_Event) enc_Event_himm])) (bl_n) rfl rfl rfl)) ?_
       refine cq 12 [94] [B ((!(r8.2 == r9.2)))] 481 ?_
       refine sq h (fun h=>?_) (fun h=>?_)
       · refine cq 4 [2] [B (false)] 497 ?_
         obtain rfl:=Option.some.inj h
         exact s_ret rfl ⟨_,fin (vs:=[B (false)]) rfl (absE (absorb_plain rfl) (absEN)) rfl (ou_f (ou_n)),kl_n⟩
       · refine aq 1 ?_
         refine cq 5 [95] [B (r8.2)] 497 ?_
         obtain ⟨y10,hy10,hy101,hy102⟩:=bJ h
         have j10 : ∀ u10,y10=.inr u10→Run laws_FnEvents_E 0 (laws_FnEvents_Q code_1 r) (.code laws_FnEvents_kb :: []) (sT 184 [(0,.isl false ((code_1).map (V.int .u8)))] [] 1):=by
           intro u10 hu
           replace h:=hy102 u10 hu
           refine cq 3 [144] [.isl false ((code_1).map (V.int .u8))] 17 ?_
           obtain ⟨r11,hr11,h⟩:=bS h
           refine oq 33 (.tup [.hs 17 0 [] 4 0 ((r11.1).map enc_Event).length,I (r11.2.1),I (r11.2.2)]) rfl (e_callV rfl rfl (call_P rfl rfl rfl (avS (shP rfl) (avN)) (Ffbt_F hr11) (.inr rfl) (bl_n) rfl rfl rfl)) ?_
           refine cq 13 [25,26,27,150,151,152] [.hs 17 0 [] 4 0 ((r11.1).map enc_Event).length,I (r11.2.1),I (r11.2.2),.hs 17 0 [] 4 0 ((r11.1).map enc_Event).length,I (r11.2.1),I (r11.2.2)] 193 ?_
           obtain ⟨r12,hr12,h⟩:=bS h
           refine oq 209 (.tup [.hs 193 0 [] 4 0 ((r12.1).map enc_Event).length,B (r12.2)]) rfl (e_callV rfl rfl (call_P rfl rfl rfl (avS (sh1 rfl rfl (sh_hsM (f:=enc_Event) (g:=enc_Event) (xs:=r11.1) rfl rfl (imms_of enc_Event_imm))) (avS (shP rfl) (avS (shP rfl) (avN)))) (Ffk_F hr12) (.inl (by simp [hasImm,hasImms,str,himm_map (f:=enc_Event) enc_Event_himm])) (bl_n) rfl rfl rfl)) ?_
           refine cq 12 [28,29,157,158,159] [.hs 193 0 [] 4 0 ((r12.1).map enc_Event).length,B (r12.2),.hs 17 0 [] 4 0 ((r11.1).map enc_Event).length,I (r11.2.1),I (r11.2.2)] 337 ?_
           obtain ⟨r13,hr13,h⟩:=bS h
           refine oq 353 (.tup [.hs 337 0 [] 4 0 ((r13.1).map enc_Event).length,B (r13.2)]) rfl (e_callV rfl rfl (call_P rfl rfl rfl (avS (sh1 rfl rfl (sh_hsM (f:=enc_Event) (g:=enc_Event) (xs:=r11.1) rfl rfl (imms_of enc_Event_imm))) (avS (shP rfl) (avS (shP rfl) (avN)))) (Ffbw_F hr13) (.inl (by simp [hasImm,hasImms,str,himm_map (f:=enc_Event) enc_Event_himm])) (bl_n) rfl rfl rfl)) ?_
           refine cq 12 [165] [B ((!(r12.2 == r13.2)))] 481 ?_
           refine sq h (fun h=>?_) (fun h=>?_)
           · refine cq 4 [2] [B (false)] 497 ?_
             obtain rfl:=Option.some.inj h
             exact s_ret rfl ⟨_,fin (vs:=[B (false)]) rfl (absE (absorb_plain rfl) (absEN)) rfl (ou_f (ou_n)),kl_n⟩
           · refine aq 1 ?_
             refine cq 6 [167,168,170] [.hs 193 0 [] 4 0 ((r12.1).map enc_Event).length,I (r11.2.1),I ((w64 (0 - r11.2.2)))] 545 ?_
             obtain ⟨r14,hr14,h⟩:=bS h
             refine oq 561 (.tup [.hs 545 0 [] 4 0 ((r14.1).map enc_Event).length,B (r14.2)]) rfl (e_callV rfl rfl (call_P rfl rfl rfl (avS (sh1 rfl rfl (sh_hsM (f:=enc_Event) (g:=enc_Event) (xs:=r12.1) rfl rfl (imms_of enc_Event_imm))) (avS (shP rfl) (avS (shP rfl) (avN)))) (Ffk_F hr14) (.inl (by simp [hasImm,hasImms,str,himm_map (f:=enc_Event) enc_Event_himm])) (bl_n) rfl rfl rfl)) ?_
             refine cq 11 [32,33,176] [.hs 545 0 [] 4 0 ((r14.1).map enc_Event).length,B (r14.2),B ((!r12.2))] 689 ?_
             obtain ⟨y15,hy15,hy151,hy152⟩:=bJ h
             have j15 : ∀ u15,y15=.inr u15→Run laws_FnEvents_E 0 (laws_FnEvents_Q code_1 r) (.code laws_FnEvents_kc :: []) (sT 184 [(2,B (u15))] [] 1):=by
               intro u15 hu
               replace h:=hy152 u15 hu
               obtain rfl:=Option.some.inj h
               exact s_ret rfl ⟨_,fin (vs:=[B (u15)]) rfl (absE (absorb_plain rfl) (absEN)) rfl (ou_f (ou_n)),kl_n⟩
             have r15 : ∀ r',y15=.inl r'→∀ st,laws_FnEvents_Q code_1 r' st→(laws_FnEvents_Q code_1 r) st:=fun r' e st hq=>by rw [hy151 r' e] at hq; exact hq
             replace h:=hy15
             refine sp 176 h rfl (fun h=>?_) (fun h=>?_)
             · refine cq 9 [2] [B (true)] 817 ?_
               exact rf [2] [] (j15 _ (Option.some.inj h).symm :)
             · refine cq 2 [178] [B (r14.2)] 721 ?_
               obtain ⟨y16,hy16,hy161,hy162⟩:=bL h
               have j16 : ∀ u16,y16=.inr u16→Run laws_FnEvents_E 0 (laws_FnEvents_Q code_1 r) (.code laws_FnEvents_kc :: []) (sT 184 [(2,B (u16))] [] 1):=by
                 intro u16 hu
                 replace h:=hy162 u16 hu
                 exact rf [2] [] (j15 _ (Option.some.inj h).symm :)
               have r16 : ∀ r',y16=.inl r'→∀ st,laws_FnEvents_Q code_1 r' st→(laws_FnEvents_Q code_1 r) st:=fun r' e st hq=>r15 r' (hy161 r' e) st hq
               replace h:=hy16
               refine sp 178 h rfl (fun h=>?_) (fun h=>?_)
               · refine cq 2 [179,180] [.hs 17 0 [] 4 0 ((r11.1).map enc_Event).length,.hs 545 0 [] 4 0 ((r14.1).map enc_Event).length] 753 ?_
                 obtain ⟨r17,hr17,h⟩:=bS h
                 refine oy 769 (B (r17)) rfl (e_callV rfl rfl (call_P rfl rfl rfl (avS (sh1 rfl rfl (sh_hsM (f:=enc_Event) (g:=enc_Event) (xs:=r11.1) rfl rfl (imms_of enc_Event_imm))) (avS (sh1 rfl rfl (sh_hsM (f:=enc_Event) (g:=enc_Event) (xs:=r14.1) rfl rfl (imms_of enc_Event_imm))) (avN))) (Fft_F hr17) (.inl (rfl)) (bl_n) rfl rfl rfl)) ?_
                 refine cq 4 [2] [B (r17)] 817 ?_
                 exact rf [2] [] (j16 _ (Option.some.inj h).symm :)
               · refine cq 7 [2] [B (false)] 817 ?_
                 exact rf [2] [] (j16 _ (Option.some.inj h).symm :)
         have r10 : ∀ r',y10=.inl r'→∀ st,laws_FnEvents_Q code_1 r' st→(laws_FnEvents_Q code_1 r) st:=fun r' e st hq=>by rw [hy101 r' e] at hq; exact hq
         replace h:=hy10
         refine sq h (fun h=>?_) (fun h=>?_)
         · refine cq 4 [97,98] [.hs 17 0 [] 4 0 ((r7.1).map enc_Event).length,I (r7.2.2)] 529 ?_
           obtain ⟨r18,hr18,h⟩:=bS h
           refine oq 545 (.tup [I (r18.1),I (r18.2.1),B (r18.2.2)]) rfl (e_callV rfl rfl (call_P rfl rfl rfl (avS (sh1 rfl rfl (sh_hsM (f:=enc_Event) (g:=enc_Event) (xs:=r7.1) rfl rfl (imms_of enc_Event_imm))) (avS (shP rfl) (avS (shP rfl) (avS (shP rfl) (avN))))) (Ffg_F hr18) (.inl (rfl)) (bl_n) rfl rfl rfl)) ?_
           refine cq 12 [16,17,104,105] [I (r18.1),I (r18.2.1),.hs 18 0 [] 4 0 ((r7.2.1).map enc_Event).length,I (r7.2.2)] 689 ?_
           obtain ⟨r19,hr19,h⟩:=bS h
           refine oq 705 (.tup [I (r19.1),I (r19.2.1),B (r19.2.2)]) rfl (e_callV rfl rfl (call_P rfl rfl rfl (avS (sh1 rfl rfl (sh_hsM (f:=enc_Event) (g:=enc_Event) (xs:=r7.2.1) rfl rfl (imms_of enc_Event_imm))) (avS (shP rfl) (avS (shP rfl) (avS (shP rfl) (avN))))) (Ffg_F hr19) (.inl (rfl)) (bl_n) rfl rfl rfl)) ?_
           refine cq 12 [19,20,111,112] [I (r19.1),I (r19.2.1),.hs 193 0 [] 4 0 ((r8.1).map enc_Event).length,I (r7.2.2)] 849 ?_
           obtain ⟨r20,hr20,h⟩:=bS h
           refine oq 865 (.tup [I (r20.1),I (r20.2.1),B (r20.2.2)]) rfl (e_callV rfl rfl (call_P rfl rfl rfl (avS (sh1 rfl rfl (sh_hsM (f:=enc_Event) (g:=enc_Event) (xs:=r8.1) rfl rfl (imms_of enc_Event_imm))) (avS (shP rfl) (avS (shP rfl) (avS (shP rfl) (avN))))) (Ffg_F hr20) (.inl (rfl)) (bl_n) rfl rfl rfl)) ?_
           refine cq 13 [22,23,119] [I (r20.1),I (r20.2.1),B ((!r20.2.2))] 1025 ?_
           obtain ⟨u21,hu21,h⟩:=lJ h
           have j21 : Run laws_FnEvents_E 0 (laws_FnEvents_Q code_1 r) (.code laws_FnEvents_kd :: .code laws_FnEvents_kb :: []) (sT 184 [(0,.isl false ((code_1).map (V.int .u8))),(142,B (u21))] [] 1):=by
             refine sq h (fun h=>?_) (fun h=>?_)
             · refine cq 4 [2] [B (false)] 17 ?_
               exact s_ret rfl (r10 _ (Option.some.inj h).symm _ ⟨_,fin (vs:=[B (false)]) rfl (absE (absorb_plain rfl) (absEN)) rfl (ou_f (ou_n)),kl_n⟩)
             · refine aq 1 ?_
               exact rf [0] [] (j10 _ (Option.some.inj h).symm :)
           replace h:=hu21
           clear hu21
           refine sp 119 h rfl (fun h=>?_) (fun h=>?_)
           · refine cq 24 [142] [B (true)] 1393 ?_
             subst h
             exact rf [0,142] [] (j21 :)
           · refine cq 7 [126] [B (((w64 (r18.1 + r19.1)) != r20.1))] 1137 ?_
             obtain ⟨u22,hu22,h⟩:=lJ h
             have j22 : Run laws_FnEvents_E 0 (laws_FnEvents_Q code_1 r) (.code laws_FnEvents_kd :: .code laws_FnEvents_kb :: []) (sT 184 [(0,.isl false ((code_1).map (V.int .u8))),(142,B (u22))] [] 1):=by
               subst h
               exact rf [0,142] [] (j21 :)
             replace h:=hu22
             clear hu22
             refine sp 126 h rfl (fun h=>?_) (fun h=>?_)
             · refine cq 17 [142] [B (true)] 1393 ?_
               subst h
               exact rf [0,142] [] (j22 :)
             · refine cq 7 [133] [B (((w64 (r18.2.1 + r19.2.1)) != r20.2.1))] 1249 ?_
               obtain ⟨u23,hu23,h⟩:=lJ h
               have j23 : Run laws_FnEvents_E 0 (laws_FnEvents_Q code_1 r) (.code laws_FnEvents_kd :: .code laws_FnEvents_kb :: []) (sT 184 [(0,.isl false ((code_1).map (V.int .u8))),(142,B (u23))] [] 1):=by
                 subst h
                 exact rf [0,142] [] (j22 :)
               replace h:=hu23
               clear hu23
               refine sp 133 h rfl (fun h=>?_) (fun h=>?_)
               · refine cq 10 [142] [B (true)] 1393 ?_
                 subst h
                 exact rf [0,142] [] (j23 :)
               · refine cq 1 [134] [.hs 193 0 [] 4 0 ((r8.1).map enc_Event).length] 1265 ?_
                 refine oy 1281 (I ((len r8.1))) rfl (e_len rfl rfl rfl (l_hsM (f:=enc_Event) (xs:=r8.1) rfl rfl)) ?_
                 refine cq 1 [136] [.hs 17 0 [] 4 0 ((r7.1).map enc_Event).length] 1297 ?_
                 refine oy 1313 (I ((len r7.1))) rfl (e_len rfl rfl rfl (l_hsM (f:=enc_Event) (xs:=r7.1) rfl rfl)) ?_
                 refine cq 1 [138] [.hs 18 0 [] 4 0 ((r7.2.1).map enc_Event).length] 1329 ?_
                 refine oy 1345 (I ((len r7.2.1))) rfl (e_len rfl rfl rfl (l_hsM (f:=enc_Event) (xs:=r7.2.1) rfl rfl)) ?_
                 refine cq 4 [142] [B (((len r8.1) != (w64 ((len r7.1) + (len r7.2.1)))))] 1393 ?_
                 subst h
                 exact rf [0,142] [] (j23 :)
         · refine aq 1 ?_
           exact rf [0] [] (j10 _ (Option.some.inj h).symm :)
   have r6 : ∀ r',y6=.inl r'→∀ st,laws_FnEvents_Q code_1 r' st→(laws_FnEvents_Q code_1 r) st:=fun r' e st hq=>by rw [hy61 r' e] at hq; exact hq
   replace h:=hy6
   refine sp 56 h rfl (fun h=>?_) (fun h=>?_)
   · refine cq 16 [71] [B (true)] 721 ?_
     exact rf [0,71] [] (j6 _ (Option.some.inj h).symm :)
   · refine cq 2 [58] [B (r4.2)] 513 ?_
     obtain ⟨y24,hy24,hy241,hy242⟩:=bL h
     have j24 : ∀ u24,y24=.inr u24→Run laws_FnEvents_E 0 (laws_FnEvents_Q code_1 r) (.code laws_FnEvents_ka :: .code (cR (cR (cR (cR (cR laws_FnEvents_c))))) :: []) (sT 184 [(0,.isl false ((code_1).map (V.int .u8))),(71,B (u24))] [] 1):=by
       intro u24 hu
       replace h:=hy242 u24 hu
       exact rf [0,71] [] (j6 _ (Option.some.inj h).symm :)
     have r24 : ∀ r',y24=.inl r'→∀ st,laws_FnEvents_Q code_1 r' st→(laws_FnEvents_Q code_1 r) st:=fun r' e st hq=>r6 r' (hy241 r' e) st hq
     replace h:=hy24
     refine sp 58 h rfl (fun h=>?_) (fun h=>?_)
     · refine cq 2 [59,60] [.hs 193 0 [] 4 0 ((r4.1).map enc_Event).length,I (r3.2)] 545 ?_
       obtain ⟨r25,hr25,h⟩:=bS h
       refine oy 561 (B (r25)) rfl (e_callV rfl rfl (call_P rfl rfl rfl (avS (sh1 rfl rfl (sh_hsM (f:=enc_Event) (g:=enc_Event) (xs:=r4.1) rfl rfl (imms_of enc_Event_imm))) (avS (shP rfl) (avN))) (Ffh_F hr25) (.inl (rfl)) (bl_n) rfl rfl rfl)) ?_
       refine cq 2 [63] [B ((!r25))] 593 ?_
       obtain ⟨u26,hu26,h⟩:=lJ h
       have j26 : Run laws_FnEvents_E 0 (laws_FnEvents_Q code_1 r) (.code laws_FnEvents_ka :: .code (cR (cR (cR (cR (cR laws_FnEvents_c))))) :: []) (sT 184 [(0,.isl false ((code_1).map (V.int .u8))),(71,B (u26))] [] 1):=by
         exact rf [0,71] [] (j24 _ (Option.some.inj h).symm :)
       replace h:=hu26
       clear hu26
       refine sp 63 h rfl (fun h=>?_) (fun h=>?_)
       · refine cq 9 [71] [B (true)] 721 ?_
         subst h
         exact rf [0,71] [] (j26 :)
       · refine cq 1 [64] [.hs 193 0 [] 4 0 ((r4.1).map enc_Event).length] 609 ?_
         refine oy 625 (I ((len r4.1))) rfl (e_len rfl rfl rfl (l_hsM (f:=enc_Event) (xs:=r4.1) rfl rfl)) ?_
         refine cq 1 [66] [.hs 65 0 [] 4 0 ((r3.1).map enc_Event).length] 641 ?_
         refine oy 657 (I ((len r3.1))) rfl (e_len rfl rfl rfl (l_hsM (f:=enc_Event) (xs:=r3.1) rfl rfl)) ?_
         refine cq 5 [71] [B (((len r4.1) != (len r3.1)))] 721 ?_
         subst h
         exact rf [0,71] [] (j26 :)
     · refine cq 14 [71] [B (false)] 721 ?_
       exact rf [0,71] [] (j24 _ (Option.some.inj h).symm :)
theorem laws_FnEvents_good {G : Go.Ln.Ground} : Good Tryd.prog G 12 laws_FnEvents_ent:=good_T (fnOf_good (gl_c laws_vBig_good (gl_c Ffbu_good (gl_c Ffl_good (gl_c Ffbx_good (gl_c Ffbs_good (gl_c Ffj_good (gl_c Ffbv_good (gl_c Ffbt_good (gl_c Ffk_good (gl_c Ffbw_good (gl_c Fft_good (gl_c Ffg_good (gl_c Ffh_good (gl_n))))))))))))))) agree_mk (Checked.mixed Tryd.checked) Tryd.func12 (n:=1) (m:=0) ⟨rfl,rfl,by decide⟩ (fun _=>⟨rfl,rfl⟩) (fun a r h=>laws_FnEvents_run a r h)
end Go.Ln
