/-
  Each function of the program computes its plain function.
-/
import Derived.Test.YtgcnameabpnpaaaDoorFnExactSortEventsRunA
set_option maxHeartbeats 4000000
set_option linter.unusedVariables false
set_option linter.unusedSimpArgs false
set_option maxRecDepth 100000
namespace Go.Ln
open Go Go.Proofs
theorem Ffbo_ld_run (data_16 : List Event) (a_17 : Int) (b_18 : Int) (cmp_19 : Unit) (x5 : Int × Int × Int × Int × (List Event)) (u11 : Int) {Q : St → Prop} {K : List It} (hK : noD K = true) {x43 : Int × (List Event)} {y : (Bool × (List Event)) ⊕ ((List Event))} (h : Ffbo_ld data_16 a_17 b_18 cmp_19 x5 u11 x43 = some y) : (∀ r', y = .inl r' → ∀ st, Ffbo_Q (data_16, a_17, b_18, cmp_19) r' st → Q st) → (∀ u : (List Event), y = .inr u → Run Ffbo_E 1 Q K ⟨mkTm .dead 141 [(0, .hs 1 0 [] 4 0 ((u).map enc_Event).length), (1, I (x5.1)), (2, I (x5.2.1)), (3, .fn 52 []), (9, I (u11)), (10, I (x5.2.2.2.1))], mkS (rtL [⟨0, 4, (u).map enc_Event⟩] 1), 2⟩) → Run Ffbo_E 1 Q (.code (cL (cL (cR (cL (cR (cL (cR (cR (cR (cR (cL (cL (cR (cL (cL (cR (cL (cR (cR Ffbo_c))))))))))))))))))) :: .lp (cL (cL (cR (cL (cR (cL (cR (cR (cR (cR (cL (cL (cR (cL (cL (cR (cL (cR (cR Ffbo_c))))))))))))))))))) :: .blk 4 :: K) ⟨mkTm .dead 141 [(0, .hs 1 0 [] 4 0 ((x43.2).map enc_Event).length), (1, I (x5.1)), (2, I (x5.2.1)), (3, .fn 52 []), (9, I (u11)), (10, I (x5.2.2.2.1)), (11, I (x43.1))], mkS (rtL [⟨0, 4, (x43.2).map enc_Event⟩] 1), 2⟩ := by
 refine fix_ind (P := fun (x43 : Int × (List Event)) (y : (Bool × (List Event)) ⊕ ((List Event))) => (∀ r', y = .inl r' → ∀ st, Ffbo_Q (data_16, a_17, b_18, cmp_19) r' st → Q st) → (∀ u : (List Event), y = .inr u → Run Ffbo_E 1 Q K ⟨mkTm .dead 141 [(0, .hs 1 0 [] 4 0 ((u).map enc_Event).length), (1, I (x5.1)), (2, I (x5.2.1)), (3, .fn 52 []), (9, I (u11)), (10, I (x5.2.2.2.1))], mkS (rtL [⟨0, 4, (u).map enc_Event⟩] 1), 2⟩) → Run Ffbo_E 1 Q (.code (cL (cL (cR (cL (cR (cL (cR (cR (cR (cR (cL (cL (cR (cL (cL (cR (cL (cR (cR Ffbo_c))))))))))))))))))) :: .lp (cL (cL (cR (cL (cR (cL (cR (cR (cR (cR (cL (cL (cR (cL (cL (cR (cL (cR (cR Ffbo_c))))))))))))))))))) :: .blk 4 :: K) ⟨mkTm .dead 141 [(0, .hs 1 0 [] 4 0 ((x43.2).map enc_Event).length), (1, I (x5.1)), (2, I (x5.2.1)), (3, .fn 52 []), (9, I (u11)), (10, I (x5.2.2.2.1)), (11, I (x43.1))], mkS (rtL [⟨0, 4, (x43.2).map enc_Event⟩] 1), 2⟩) (Ffbo_ld_fin data_16 a_17 b_18 cmp_19 x5 u11) ?_ h
 clear h y x43
 intro self ih x43 y h hr hn
 unfold Ffbo_ld_F at h
 refine c0 6 [69] [B ((decide (x43.1 ≥ 1)))] 34 (by kernel_rfl) ?_
 refine sc h rfl rfl (fun h => ?_) (fun h => ?_)
 · refine ad 1 rfl ?_
   refine ad 4 rfl ?_
   refine s_draw [0, 0, 0, 6, 14, 0, 0, 64, 224, 480, 1023, 2047, 4095] rfl (by decide +kernel) ?_
   refine dp [] [] (.fn 52 []) rfl (e_move rfl) rfl (rfl) (by decide) ?_
   refine dp [] [] (.hs 1 0 [] 4 0 ((x43.2).map enc_Event).length) rfl (e_move rfl) rfl (rfl) (by decide) ?_
   refine dp [] [] (I (x43.1)) rfl (e_move rfl) rfl (rfl) (by decide) ?_
   obtain ⟨e44, he44, h⟩ := bS h
   refine dp [1] [] (.hp 1 0 [] 4 (0 + Int.toNat (x43.1)) 0) rfl (e_indexAddr rfl rfl rfl (ix_hsM (f := enc_Event) (xs := x43.2) rfl rfl rfl he44)) rfl (rfl) (by decide) ?_
   refine dp [1] [] (enc_Event e44) rfl (e_ld rfl (ld_at (path := []) rfl rfl rfl (ra_n) (get_map (f := enc_Event) (xs := x43.2) he44) rfl rfl rfl)) rfl (rfl) (by decide) ?_
   refine dp [] [] (.hs 1 0 [] 4 0 ((x43.2).map enc_Event).length) rfl (e_move rfl) rfl (rfl) (by decide) ?_
   refine dp [] [] (I (x43.1)) rfl (e_move rfl) rfl (rfl) (by decide) ?_
   refine dp [] [] (I ((w64 (x43.1 - 1)))) rfl (e_bin rfl rfl rfl) rfl (rfl) (by decide) ?_
   obtain ⟨e45, he45, h⟩ := bS h
   refine dp [1] [] (.hp 1 0 [] 4 (0 + Int.toNat ((w64 (x43.1 - 1)))) 0) rfl (e_indexAddr rfl rfl rfl (ix_hsM (f := enc_Event) (xs := x43.2) rfl rfl rfl he45)) rfl (rfl) (by decide) ?_
   refine dp [1] [] (enc_Event e45) rfl (e_ld rfl (ld_at (path := []) rfl rfl rfl (ra_n) (get_map (f := enc_Event) (xs := x43.2) he45) rfl rfl rfl)) rfl (rfl) (by decide) ?_
   obtain ⟨r46, hr46, h⟩ := bS h
   refine dp [] [] (I (r46)) rfl (e_callV rfl rfl (call_P rfl rfl rfl (avS (shP rfl) (avS (shP rfl) (avN))) (Fff_F hr46) (.inr rfl) (bl_n) rfl rfl rfl)) rfl (w_callO rfl rfl rfl rfl (avS (shP rfl) (avS (shP rfl) (avN))) (Fff_F hr46) (.inr rfl) rfl) (by decide) ?_
   refine dp [] [] (B ((decide (r46 < 0)))) rfl (e_bin rfl rfl rfl) rfl (rfl) (by decide) ?_
   refine dp [] [] (B ((!(decide (r46 < 0))))) rfl (e_un rfl rfl) rfl (rfl) (by decide) ?_
   refine de 242 rfl rfl ?_
   refine sc h rfl rfl (fun h => ?_) (fun h => ?_)
   · refine ad 1 rfl ?_
     refine run_forget [0, 1, 2, 3, 9, 10] [1] [⟨0, 4, (x43.2).map enc_Event⟩] rfl rfl rfl hK ?_
     exact hn _ (Option.some.inj h).symm
   · refine ad 1 rfl ?_
     refine s_draw [0, 0, 0, 0, 8, 0, 0, 64, 224, 480, 0, 0, 3072, 7168, 16355, 32739, 65535, 131071] rfl (by decide +kernel) ?_
     refine dp [] [] (.hs 1 0 [] 4 0 ((x43.2).map enc_Event).length) rfl (e_move rfl) rfl (rfl) (by decide) ?_
     refine dp [] [] (I (x43.1)) rfl (e_move rfl) rfl (rfl) (by decide) ?_
     refine dp [] [] (.hs 1 0 [] 4 0 ((x43.2).map enc_Event).length) rfl (e_move rfl) rfl (rfl) (by decide) ?_
     refine dp [] [] (I (x43.1)) rfl (e_move rfl) rfl (rfl) (by decide) ?_
     refine dp [] [] (I ((w64 (x43.1 - 1)))) rfl (e_bin rfl rfl rfl) rfl (rfl) (by decide) ?_
     refine dp [] [] (.hs 1 0 [] 4 0 ((x43.2).map enc_Event).length) rfl (e_move rfl) rfl (rfl) (by decide) ?_
     refine dp [] [] (I (x43.1)) rfl (e_move rfl) rfl (rfl) (by decide) ?_
     refine dp [] [] (I ((w64 (x43.1 - 1)))) rfl (e_bin rfl rfl rfl) rfl (rfl) (by decide) ?_
     obtain ⟨e47, he47, h⟩ := bS h
     refine dp [1] [] (.hp 1 0 [] 4 (0 + Int.toNat ((w64 (x43.1 - 1)))) 0) rfl (e_indexAddr rfl rfl rfl (ix_hsM (f := enc_Event) (xs := x43.2) rfl rfl rfl he47)) rfl (rfl) (by decide) ?_
     refine dp [1] [] (enc_Event e47) rfl (e_ld rfl (ld_at (path := []) rfl rfl rfl (ra_n) (get_map (f := enc_Event) (xs := x43.2) he47) rfl rfl rfl)) rfl (rfl) (by decide) ?_
     refine dp [] [] (.hs 1 0 [] 4 0 ((x43.2).map enc_Event).length) rfl (e_move rfl) rfl (rfl) (by decide) ?_
     refine dp [] [] (I (x43.1)) rfl (e_move rfl) rfl (rfl) (by decide) ?_
     obtain ⟨e48, he48, h⟩ := bS h
     refine dp [1] [] (.hp 1 0 [] 4 (0 + Int.toNat (x43.1)) 0) rfl (e_indexAddr rfl rfl rfl (ix_hsM (f := enc_Event) (xs := x43.2) rfl rfl rfl he48)) rfl (rfl) (by decide) ?_
     refine dp [1] [] (enc_Event e48) rfl (e_ld rfl (ld_at (path := []) rfl rfl rfl (ra_n) (get_map (f := enc_Event) (xs := x43.2) he48) rfl rfl rfl)) rfl (rfl) (by decide) ?_
     obtain ⟨e49, he49, h⟩ := bS h
     refine dp [1] [] (.hp 1 0 [] 4 (0 + Int.toNat (x43.1)) 0) rfl (e_indexAddr rfl rfl rfl (ix_hsM (f := enc_Event) (xs := x43.2) rfl rfl rfl he49)) rfl (rfl) (by decide) ?_
     obtain ⟨w50, hw50⟩ : ∃ w, getI (setI x43.2 x43.1 e47) x43.1 = some w := get_exI he44
     obtain ⟨w51, hw51⟩ : ∃ w, getI (setI x43.2 x43.1 e47) (w64 (x43.1 - 1)) = some w := get_exI he45
     obtain ⟨w52, hw52⟩ : ∃ w, getI (setI x43.2 x43.1 e47) (w64 (x43.1 - 1)) = some w := get_exI he47
     obtain ⟨w53, hw53⟩ : ∃ w, getI (setI x43.2 x43.1 e47) x43.1 = some w := get_exI he48
     refine dp0 [1] [1] rfl (e_st rfl rfl (st_at (path := []) (pl := true) (e' := enc_Event e47) (es2' := ((setI x43.2 x43.1 e47)).map enc_Event) rfl (absorb_plain rfl) rfl rfl rfl (ra_n) (get_map (f := enc_Event) (xs := x43.2) he49) rfl rfl rfl (set_map (f := enc_Event) (xs := x43.2) (y := e47)) (sr_n) 0 rfl)) rfl (rfl) (by decide) ?_
     try rw [← len_setM (f := enc_Event) (xs := x43.2) (i := x43.1) (z := e47)]
     obtain ⟨e54, he54, h⟩ := bS h
     refine dp [1] [] (.hp 1 0 [] 4 (0 + Int.toNat ((w64 (x43.1 - 1)))) 0) rfl (e_indexAddr rfl rfl rfl (ix_hsM (f := enc_Event) (xs := (setI x43.2 x43.1 e47)) rfl rfl rfl he54)) rfl (rfl) (by decide) ?_
     obtain ⟨w55, hw55⟩ : ∃ w, getI (setI (setI x43.2 x43.1 e47) (w64 (x43.1 - 1)) e48) x43.1 = some w := get_exI hw50
     obtain ⟨w56, hw56⟩ : ∃ w, getI (setI (setI x43.2 x43.1 e47) (w64 (x43.1 - 1)) e48) (w64 (x43.1 - 1)) = some w := get_exI hw51
     obtain ⟨w57, hw57⟩ : ∃ w, getI (setI (setI x43.2 x43.1 e47) (w64 (x43.1 - 1)) e48) (w64 (x43.1 - 1)) = some w := get_exI hw52
     obtain ⟨w58, hw58⟩ : ∃ w, getI (setI (setI x43.2 x43.1 e47) (w64 (x43.1 - 1)) e48) x43.1 = some w := get_exI hw53
     obtain ⟨w59, hw59⟩ : ∃ w, getI (setI (setI x43.2 x43.1 e47) (w64 (x43.1 - 1)) e48) x43.1 = some w := get_exI (get_set he49)
     refine dp0 [1] [1] rfl (e_st rfl rfl (st_at (path := []) (pl := true) (e' := enc_Event e48) (es2' := ((setI (setI x43.2 x43.1 e47) (w64 (x43.1 - 1)) e48)).map enc_Event) rfl (absorb_plain rfl) rfl rfl rfl (ra_n) (get_map (f := enc_Event) (xs := (setI x43.2 x43.1 e47)) he54) rfl rfl rfl (set_map (f := enc_Event) (xs := (setI x43.2 x43.1 e47)) (y := e48)) (sr_n) 0 rfl)) rfl (rfl) (by decide) ?_
     try rw [← len_setM (f := enc_Event) (xs := (setI x43.2 x43.1 e47)) (i := (w64 (x43.1 - 1))) (z := e48)]
     refine de 530 rfl rfl ?_
     refine c0 6 [11] [I ((w64 (x43.1 - 1)))] 578 (by kernel_rfl) ?_
     refine s_lp ?_
     refine run_forget [0, 1, 2, 3, 9, 10, 11] [1] [⟨0, 4, ((setI (setI x43.2 x43.1 e47) (w64 (x43.1 - 1)) e48)).map enc_Event⟩] rfl rfl rfl rfl ?_
     exact ih _ _ h hr hn
 · refine ad 1 rfl ?_
   refine run_forget [0, 1, 2, 3, 9, 10] [1] [⟨0, 4, (x43.2).map enc_Event⟩] rfl rfl rfl hK ?_
   exact hn _ (Option.some.inj h).symm
theorem Ffbo_la_run (data_16 : List Event) (a_17 : Int) (b_18 : Int) (cmp_19 : Unit)  {Q : St → Prop} {K : List It} (hK : noD K = true) {x5 : Int × Int × Int × Int × (List Event)} {y : (Bool × (List Event)) ⊕ ((List Event))} (h : Ffbo_la data_16 a_17 b_18 cmp_19 x5 = some y) : (∀ r', y = .inl r' → ∀ st, Ffbo_Q (data_16, a_17, b_18, cmp_19) r' st → Q st) → (∀ u : (List Event), y = .inr u → Run Ffbo_E 1 Q K ⟨mkTm .dead 141 [], mkS (rtL [⟨0, 4, (u).map enc_Event⟩] 1), 2⟩) → Run Ffbo_E 1 Q (.code (cL (cL (cR (cL (cR (cR Ffbo_c)))))) :: .lp (cL (cL (cR (cL (cR (cR Ffbo_c)))))) :: .blk 0 :: K) ⟨mkTm .dead 141 [(0, .hs 1 0 [] 4 0 ((x5.2.2.2.2).map enc_Event).length), (1, I (x5.1)), (2, I (x5.2.1)), (3, .fn 52 []), (9, I (x5.2.2.1)), (10, I (x5.2.2.2.1))], mkS (rtL [⟨0, 4, (x5.2.2.2.2).map enc_Event⟩] 1), 2⟩ := by
 refine fix_ind (P := fun (x5 : Int × Int × Int × Int × (List Event)) (y : (Bool × (List Event)) ⊕ ((List Event))) => (∀ r', y = .inl r' → ∀ st, Ffbo_Q (data_16, a_17, b_18, cmp_19) r' st → Q st) → (∀ u : (List Event), y = .inr u → Run Ffbo_E 1 Q K ⟨mkTm .dead 141 [], mkS (rtL [⟨0, 4, (u).map enc_Event⟩] 1), 2⟩) → Run Ffbo_E 1 Q (.code (cL (cL (cR (cL (cR (cR Ffbo_c)))))) :: .lp (cL (cL (cR (cL (cR (cR Ffbo_c)))))) :: .blk 0 :: K) ⟨mkTm .dead 141 [(0, .hs 1 0 [] 4 0 ((x5.2.2.2.2).map enc_Event).length), (1, I (x5.1)), (2, I (x5.2.1)), (3, .fn 52 []), (9, I (x5.2.2.1)), (10, I (x5.2.2.2.1))], mkS (rtL [⟨0, 4, (x5.2.2.2.2).map enc_Event⟩] 1), 2⟩) (Ffbo_la_fin data_16 a_17 b_18 cmp_19) ?_ h
 clear h y x5
 intro self ih x5 y h hr hn
 unfold Ffbo_la_F at h
 refine c0 6 [16] [B ((decide (x5.2.2.2.1 < 5)))] 34 (by kernel_rfl) ?_
 refine sc h rfl rfl (fun h => ?_) (fun h => ?_)
 · refine ad 1 rfl ?_
   refine ad 4 rfl ?_
   obtain ⟨y11, hy11, hy111, hy112⟩ := bL h
   refine s_loop rfl ?_
   refine run_forget [0, 1, 2, 3, 9, 10] [1] [⟨0, 4, (x5.2.2.2.2).map enc_Event⟩] rfl rfl rfl rfl ?_
   refine Ffbo_lb_run data_16 a_17 b_18 cmp_19 x5 rfl hy11 (fun r' e st hq => hr r' (hy111 r' e) st hq) (fun u11 hu => ?_)
   replace h := hy112 u11 hu
   refine c0 7 [41] [B ((u11 == x5.2.1))] 50 (by kernel_rfl) ?_
   refine sc h rfl rfl (fun h => ?_) (fun h => ?_)
   · refine c0 4 [8] [B (true)] 66 (by kernel_rfl) ?_
     obtain ⟨g12, h⟩ := gG h
     exact s_ret rfl (hr _ (Option.some.inj h).symm _ ⟨_, fin (vs := [B (true)]) rfl (absE (absorb_plain rfl) (absEN)) rfl (ou_1 rfl (oc_hsG (f := enc_Event) (xs := x5.2.2.2.2) (by simpa using g12) rfl) (ou_f (ou_f (ou_f (ou_n))))), kl_c (kl_n)⟩)
   · refine ad 1 rfl ?_
     refine c0 8 [45] [B ((decide ((w64 (x5.2.1 - x5.1)) < 50)))] 114 (by kernel_rfl) ?_
     refine sc h rfl rfl (fun h => ?_) (fun h => ?_)
     · refine c0 4 [8] [B (false)] 130 (by kernel_rfl) ?_
       obtain ⟨g13, h⟩ := gG h
       exact s_ret rfl (hr _ (Option.some.inj h).symm _ ⟨_, fin (vs := [B (false)]) rfl (absE (absorb_plain rfl) (absEN)) rfl (ou_1 rfl (oc_hsG (f := enc_Event) (xs := x5.2.2.2.2) (by simpa using g13) rfl) (ou_f (ou_f (ou_f (ou_n))))), kl_c (kl_n)⟩)
     · refine ad 1 rfl ?_
       refine ad 1 rfl ?_
       refine s_draw [0, 0, 0, 0, 8, 0, 0, 64, 224, 480, 0, 0, 3072, 7168, 16355, 32739, 65535, 131071] rfl (by decide +kernel) ?_
       refine dp [] [] (.hs 1 0 [] 4 0 ((x5.2.2.2.2).map enc_Event).length) rfl (e_move rfl) rfl (rfl) (by decide) ?_
       refine dp [] [] (I (u11)) rfl (e_move rfl) rfl (rfl) (by decide) ?_
       refine dp [] [] (.hs 1 0 [] 4 0 ((x5.2.2.2.2).map enc_Event).length) rfl (e_move rfl) rfl (rfl) (by decide) ?_
       refine dp [] [] (I (u11)) rfl (e_move rfl) rfl (rfl) (by decide) ?_
       refine dp [] [] (I ((w64 (u11 - 1)))) rfl (e_bin rfl rfl rfl) rfl (rfl) (by decide) ?_
       refine dp [] [] (.hs 1 0 [] 4 0 ((x5.2.2.2.2).map enc_Event).length) rfl (e_move rfl) rfl (rfl) (by decide) ?_
       refine dp [] [] (I (u11)) rfl (e_move rfl) rfl (rfl) (by decide) ?_
       refine dp [] [] (I ((w64 (u11 - 1)))) rfl (e_bin rfl rfl rfl) rfl (rfl) (by decide) ?_
       obtain ⟨e14, he14, h⟩ := bS h
       refine dp [1] [] (.hp 1 0 [] 4 (0 + Int.toNat ((w64 (u11 - 1)))) 0) rfl (e_indexAddr rfl rfl rfl (ix_hsM (f := enc_Event) (xs := x5.2.2.2.2) rfl rfl rfl he14)) rfl (rfl) (by decide) ?_
       refine dp [1] [] (enc_Event e14) rfl (e_ld rfl (ld_at (path := []) rfl rfl rfl (ra_n) (get_map (f := enc_Event) (xs := x5.2.2.2.2) he14) rfl rfl rfl)) rfl (rfl) (by decide) ?_
       refine dp [] [] (.hs 1 0 [] 4 0 ((x5.2.2.2.2).map enc_Event).length) rfl (e_move rfl) rfl (rfl) (by decide) ?_
       refine dp [] [] (I (u11)) rfl (e_move rfl) rfl (rfl) (by decide) ?_
       obtain ⟨e15, he15, h⟩ := bS h
       refine dp [1] [] (.hp 1 0 [] 4 (0 + Int.toNat (u11)) 0) rfl (e_indexAddr rfl rfl rfl (ix_hsM (f := enc_Event) (xs := x5.2.2.2.2) rfl rfl rfl he15)) rfl (rfl) (by decide) ?_
       refine dp [1] [] (enc_Event e15) rfl (e_ld rfl (ld_at (path := []) rfl rfl rfl (ra_n) (get_map (f := enc_Event) (xs := x5.2.2.2.2) he15) rfl rfl rfl)) rfl (rfl) (by decide) ?_
       obtain ⟨e16, he16, h⟩ := bS h
       refine dp [1] [] (.hp 1 0 [] 4 (0 + Int.toNat (u11)) 0) rfl (e_indexAddr rfl rfl rfl (ix_hsM (f := enc_Event) (xs := x5.2.2.2.2) rfl rfl rfl he16)) rfl (rfl) (by decide) ?_
       obtain ⟨w17, hw17⟩ : ∃ w, getI (setI x5.2.2.2.2 u11 e14) (w64 (u11 - 1)) = some w := get_exI he14
       obtain ⟨w18, hw18⟩ : ∃ w, getI (setI x5.2.2.2.2 u11 e14) u11 = some w := get_exI he15
       refine dp0 [1] [1] rfl (e_st rfl rfl (st_at (path := []) (pl := true) (e' := enc_Event e14) (es2' := ((setI x5.2.2.2.2 u11 e14)).map enc_Event) rfl (absorb_plain rfl) rfl rfl rfl (ra_n) (get_map (f := enc_Event) (xs := x5.2.2.2.2) he16) rfl rfl rfl (set_map (f := enc_Event) (xs := x5.2.2.2.2) (y := e14)) (sr_n) 0 rfl)) rfl (rfl) (by decide) ?_
       try rw [← len_setM (f := enc_Event) (xs := x5.2.2.2.2) (i := u11) (z := e14)]
       obtain ⟨e19, he19, h⟩ := bS h
       refine dp [1] [] (.hp 1 0 [] 4 (0 + Int.toNat ((w64 (u11 - 1)))) 0) rfl (e_indexAddr rfl rfl rfl (ix_hsM (f := enc_Event) (xs := (setI x5.2.2.2.2 u11 e14)) rfl rfl rfl he19)) rfl (rfl) (by decide) ?_
       obtain ⟨w20, hw20⟩ : ∃ w, getI (setI (setI x5.2.2.2.2 u11 e14) (w64 (u11 - 1)) e15) (w64 (u11 - 1)) = some w := get_exI hw17
       obtain ⟨w21, hw21⟩ : ∃ w, getI (setI (setI x5.2.2.2.2 u11 e14) (w64 (u11 - 1)) e15) u11 = some w := get_exI hw18
       obtain ⟨w22, hw22⟩ : ∃ w, getI (setI (setI x5.2.2.2.2 u11 e14) (w64 (u11 - 1)) e15) u11 = some w := get_exI (get_set he16)
       refine dp0 [1] [1] rfl (e_st rfl rfl (st_at (path := []) (pl := true) (e' := enc_Event e15) (es2' := ((setI (setI x5.2.2.2.2 u11 e14) (w64 (u11 - 1)) e15)).map enc_Event) rfl (absorb_plain rfl) rfl rfl rfl (ra_n) (get_map (f := enc_Event) (xs := (setI x5.2.2.2.2 u11 e14)) he19) rfl rfl rfl (set_map (f := enc_Event) (xs := (setI x5.2.2.2.2 u11 e14)) (y := e15)) (sr_n) 0 rfl)) rfl (rfl) (by decide) ?_
       try rw [← len_setM (f := enc_Event) (xs := (setI x5.2.2.2.2 u11 e14)) (i := (w64 (u11 - 1))) (z := e15)]
       refine de 402 rfl rfl ?_
       refine c0 8 [65] [B ((decide ((w64 (u11 - x5.1)) ≥ 2)))] 466 (by kernel_rfl) ?_
       obtain ⟨y23, hy23, hy231, hy232⟩ := bL h
       have j23 : ∀ u23, y23 = .inr u23 → Run Ffbo_E 1 Q (.code (cR (cR (cR (cR (cR (cL (cL (cR (cL (cL (cR (cL (cR (cR Ffbo_c)))))))))))))) :: .blk 1 :: .code (cR (cR (cL (cL (cR (cL (cR (cR Ffbo_c)))))))) :: .lp (cL (cL (cR (cL (cR (cR Ffbo_c)))))) :: .blk 0 :: K) ⟨mkTm .dead 141 [(0, .hs 1 0 [] 4 0 ((u23).map enc_Event).length), (1, I (x5.1)), (2, I (x5.2.1)), (3, .fn 52 []), (9, I (u11)), (10, I (x5.2.2.2.1))], mkS (rtL [⟨0, 4, (u23).map enc_Event⟩] 1), 2⟩ := by
         intro u23 hu
         replace h := hy232 u23 hu
         refine c0 7 [104] [B ((decide ((w64 (x5.2.1 - u11)) ≥ 2)))] 66 (by kernel_rfl) ?_
         obtain ⟨y24, hy24, hy241, hy242⟩ := bL h
         have j24 : ∀ u24, y24 = .inr u24 → Run Ffbo_E 1 Q (.blk 1 :: .code (cR (cR (cL (cL (cR (cL (cR (cR Ffbo_c)))))))) :: .lp (cL (cL (cR (cL (cR (cR Ffbo_c)))))) :: .blk 0 :: K) ⟨mkTm .dead 141 [(0, .hs 1 0 [] 4 0 ((u24).map enc_Event).length), (1, I (x5.1)), (2, I (x5.2.1)), (3, .fn 52 []), (9, I (u11)), (10, I (x5.2.2.2.1))], mkS (rtL [⟨0, 4, (u24).map enc_Event⟩] 1), 2⟩ := by
           intro u24 hu
           replace h := hy242 u24 hu
           refine c0 6 [10] [I ((w64 (x5.2.2.2.1 + 1)))] 50 (by kernel_rfl) ?_
           refine s_lp ?_
           refine run_forget [0, 1, 2, 3, 9, 10] [1] [⟨0, 4, (u24).map enc_Event⟩] rfl rfl rfl rfl ?_
           exact ih _ _ h hr hn
         have r24 : ∀ r', y24 = .inl r' → ∀ st, Ffbo_Q (data_16, a_17, b_18, cmp_19) r' st → Q st := fun r' e st hq => hr r' (hy241 r' e) st hq
         replace h := hy24
         refine sc h rfl rfl (fun h => ?_) (fun h => ?_)
         · refine c0 7 [12] [I ((w64 (u11 + 1)))] 114 (by kernel_rfl) ?_
           obtain ⟨y42, hy42, hy421, hy422⟩ := bL h
           refine s_loop rfl ?_
           refine run_forget [0, 1, 2, 3, 9, 10, 12] [1] [⟨0, 4, (u23).map enc_Event⟩] rfl rfl rfl rfl ?_
           refine Ffbo_lc_run data_16 a_17 b_18 cmp_19 x5 u11 rfl hy42 (fun r' e st hq => r24 r' (hy421 r' e) st hq) (fun u42 hu => ?_)
           replace h := hy422 u42 hu
           refine run_forget [0, 1, 2, 3, 9, 10] [1] [⟨0, 4, (u42).map enc_Event⟩] rfl rfl rfl rfl ?_
           exact j24 _ (Option.some.inj h).symm
         · refine ad 1 rfl ?_
           refine run_forget [0, 1, 2, 3, 9, 10] [1] [⟨0, 4, (u23).map enc_Event⟩] rfl rfl rfl rfl ?_
           exact j24 _ (Option.some.inj h).symm
       have r23 : ∀ r', y23 = .inl r' → ∀ st, Ffbo_Q (data_16, a_17, b_18, cmp_19) r' st → Q st := fun r' e st hq => hr r' (hy231 r' e) st hq
       replace h := hy23
       refine sc h rfl rfl (fun h => ?_) (fun h => ?_)
       · refine c0 7 [11] [I ((w64 (u11 - 1)))] 514 (by kernel_rfl) ?_
         obtain ⟨y60, hy60, hy601, hy602⟩ := bL h
         refine s_loop rfl ?_
         refine run_forget [0, 1, 2, 3, 9, 10, 11] [1] [⟨0, 4, ((setI (setI x5.2.2.2.2 u11 e14) (w64 (u11 - 1)) e15)).map enc_Event⟩] rfl rfl rfl rfl ?_
         refine Ffbo_ld_run data_16 a_17 b_18 cmp_19 x5 u11 rfl hy60 (fun r' e st hq => r23 r' (hy601 r' e) st hq) (fun u60 hu => ?_)
         replace h := hy602 u60 hu
         refine run_forget [0, 1, 2, 3, 9, 10] [1] [⟨0, 4, (u60).map enc_Event⟩] rfl rfl rfl rfl ?_
         exact j23 _ (Option.some.inj h).symm
       · refine ad 1 rfl ?_
         refine run_forget [0, 1, 2, 3, 9, 10] [1] [⟨0, 4, ((setI (setI x5.2.2.2.2 u11 e14) (w64 (u11 - 1)) e15)).map enc_Event⟩] rfl rfl rfl rfl ?_
         exact j23 _ (Option.some.inj h).symm
 · refine ad 1 rfl ?_
   refine run_forget [] [1] [⟨0, 4, (x5.2.2.2.2).map enc_Event⟩] rfl rfl rfl hK ?_
   exact hn _ (Option.some.inj h).symm
theorem Ffbo_run (data_16 : List Event) (a_17 : Int) (b_18 : Int) (cmp_19 : Unit) (r : Bool × (List Event)) (h : Ffbo data_16 a_17 b_18 cmp_19 = some r) : RunF Ffbo_E Tryd.f120 [true, false, false, false] 1 (Ffbo_A (data_16, a_17, b_18, cmp_19)) (Ffbo_R r) := by
 show Run _ _ (Ffbo_Q (data_16, a_17, b_18, cmp_19) r) [.code Ffbo_c] _
 refine rin (n := 141) [(0, .hs 1 0 [] 4 0 ((data_16).map enc_Event).length), (1, I (a_17)), (2, I (b_18)), (3, .fn 52 [])] [(1, some ⟨0, 4, (data_16).map enc_Event⟩)] 2 (by kernel_rfl) (by kernel_rfl) (by kernel_rfl) rfl ?_
 unfold Ffbo at h
 refine c0 16 [9, 10] [I ((w64 (a_17 + 1))), I (0)] 82 (by kernel_rfl) ?_
 obtain ⟨y61, hy61, hy611, hy612⟩ := bJ h
 refine s_loop rfl ?_
 refine run_forget [0, 1, 2, 3, 9, 10] [1] [⟨0, 4, (data_16).map enc_Event⟩] rfl rfl rfl rfl ?_
 refine Ffbo_la_run data_16 a_17 b_18 cmp_19 rfl hy61 (fun r' e st hq => by rw [hy611 r' e] at hq; exact hq) (fun u61 hu => ?_)
 replace h := hy612 u61 hu
 refine c0 4 [8] [B (false)] 18 (by kernel_rfl) ?_
 obtain ⟨g62, h⟩ := gG h
 obtain rfl := Option.some.inj h
 exact s_ret rfl ⟨_, fin (vs := [B (false)]) rfl (absE (absorb_plain rfl) (absEN)) rfl (ou_1 rfl (oc_hsG (f := enc_Event) (xs := u61) (by simpa using g62) rfl) (ou_f (ou_f (ou_f (ou_n))))), kl_c (kl_n)⟩
theorem Ffbo_good {G : Go.Ln.Ground} : Good Tryd.prog G 120 Ffbo_ent := good_T (fnOf_good (gl_c Fff_good (gl_n))) agree_mk (Checked.mixed Tryd.checked) Tryd.func120 (n := 4) (m := 1) ⟨rfl, rfl, by decide⟩ (fun _ => ⟨rfl, rfl⟩) (fun a r h => Ffbo_run a.1 a.2.1 a.2.2.1 a.2.2.2 r h)
def Ffbq_A : ((List Event) × Int × Int × Int × Unit) → List V := cA (usE 4 enc_Event) (cA I (cA I (cA I (oA (fun x : Unit => (.fn 52 [] : V))))))
def Ffbq_R (r : Int × (List Event)) : V × List V := (I (r.1), [.usl 4 ((r.2).map enc_Event)])
noncomputable def Ffbq_ent : Ent := entT [true, false, false, false, false] Ffbq_A Ffbq_R fun x => Ffbq x.1 x.2.1 x.2.2.1 x.2.2.2.1 x.2.2.2.2
theorem Ffbq_F {data_9 : List Event} {a_10 : Int} {b_11 : Int} {pivot_12 : Int} {cmp_13 : Unit} {r} (h : Ffbq data_9 a_10 b_11 pivot_12 cmp_13 = some r) : (Ffbq_ent).F (Ffbq_A (data_9, a_10, b_11, pivot_12, cmp_13)) = some (Ffbq_R r) := entT_F (cA_inj (usl_inj enc_Event_inj) (cA_inj I_inj (cA_inj I_inj (cA_inj I_inj (oA_inj (fn_inj0 )))))) h
noncomputable def Ffbq_c : Code := bodyOf Tryd.f121
noncomputable def Ffbq_E : Env := mkE Tryd.prog [(52, Fff_ent)]
def Ffbq_Q (x : (List Event) × Int × Int × Int × Unit) (r : Int × (List Event)) : St → Prop := QF Ffbq_E Tryd.f121 [true, false, false, false, false] (Ffbq_A x) (Ffbq_R r)
theorem Ffbq_lb_run (data_9 : List Event) (a_10 : Int) (b_11 : Int) (pivot_12 : Int) (cmp_13 : Unit) (x15 : Int × Int × (List Event)) {Q : St → Prop} {K : List It} (hK : noD K = true) {x16 : Int} {y : (Int × (List Event)) ⊕ Int} (h : Ffbq_lb data_9 a_10 b_11 pivot_12 cmp_13 x15 x16 = some y) : (∀ r', y = .inl r' → ∀ st, Ffbq_Q (data_9, a_10, b_11, pivot_12, cmp_13) r' st → Q st) → (∀ u : Int, y = .inr u → Run Ffbq_E 1 Q K ⟨mkTm .dead 90 [(0, .hs 1 0 [] 4 0 ((x15.2.2).map enc_Event).length), (1, I (a_10)), (4, .fn 52 []), (11, I (u)), (12, I (x15.2.1))], mkS (rtL [⟨0, 4, (x15.2.2).map enc_Event⟩] 1), 2⟩) → Run Ffbq_E 1 Q (.code (cL (cL (cL (cL (cL (cL (cL (cR (cR (cR Ffbq_c)))))))))) :: .lp (cL (cL (cL (cL (cL (cL (cL (cR (cR (cR Ffbq_c)))))))))) :: .blk 2 :: K) ⟨mkTm .dead 90 [(0, .hs 1 0 [] 4 0 ((x15.2.2).map enc_Event).length), (1, I (a_10)), (4, .fn 52 []), (11, I (x16)), (12, I (x15.2.1))], mkS (rtL [⟨0, 4, (x15.2.2).map enc_Event⟩] 1), 2⟩ := by
 refine fix_ind (P := fun (x16 : Int) (y : (Int × (List Event)) ⊕ Int) => (∀ r', y = .inl r' → ∀ st, Ffbq_Q (data_9, a_10, b_11, pivot_12, cmp_13) r' st → Q st) → (∀ u : Int, y = .inr u → Run Ffbq_E 1 Q K ⟨mkTm .dead 90 [(0, .hs 1 0 [] 4 0 ((x15.2.2).map enc_Event).length), (1, I (a_10)), (4, .fn 52 []), (11, I (u)), (12, I (x15.2.1))], mkS (rtL [⟨0, 4, (x15.2.2).map enc_Event⟩] 1), 2⟩) → Run Ffbq_E 1 Q (.code (cL (cL (cL (cL (cL (cL (cL (cR (cR (cR Ffbq_c)))))))))) :: .lp (cL (cL (cL (cL (cL (cL (cL (cR (cR (cR Ffbq_c)))))))))) :: .blk 2 :: K) ⟨mkTm .dead 90 [(0, .hs 1 0 [] 4 0 ((x15.2.2).map enc_Event).length), (1, I (a_10)), (4, .fn 52 []), (11, I (x16)), (12, I (x15.2.1))], mkS (rtL [⟨0, 4, (x15.2.2).map enc_Event⟩] 1), 2⟩) (Ffbq_lb_fin data_9 a_10 b_11 pivot_12 cmp_13 x15) ?_ h
 clear h y x16
 intro self ih x16 y h hr hn
 unfold Ffbq_lb_F at h
 refine ad 2 rfl ?_
 refine s_draw [0, 0, 3, 7, 15, 15, 15, 111, 239, 15, 15, 1551, 3599, 8191, 16383, 32767, 65535] rfl (by decide +kernel) ?_
 refine dp [] [] (I (x16)) rfl (e_move rfl) rfl (rfl) (by decide) ?_
 refine dp [] [] (I (x15.2.1)) rfl (e_move rfl) rfl (rfl) (by decide) ?_
 refine dp [] [] (B ((decide (x16 ≤ x15.2.1)))) rfl (e_bin rfl rfl rfl) rfl (rfl) (by decide) ?_
 refine dp [] [] (B ((decide (x16 ≤ x15.2.1)))) rfl (e_move rfl) rfl (rfl) (by decide) ?_
 obtain ⟨y17, hy17, hy171, hy172⟩ := bL h
 have j17 : ∀ u17, y17 = .inr u17 → Run Ffbq_E 1 Q (.code (cR (cL (cL (cL (cL (cL (cL (cL (cL (cR (cR (cR Ffbq_c)))))))))))) :: .code (cR (cL (cL (cL (cL (cL (cL (cL (cR (cR (cR Ffbq_c))))))))))) :: .lp (cL (cL (cL (cL (cL (cL (cL (cR (cR (cR Ffbq_c)))))))))) :: .blk 2 :: K) ⟨mkTm .dead 90 [(0, .hs 1 0 [] 4 0 ((x15.2.2).map enc_Event).length), (1, I (a_10)), (4, .fn 52 []), (11, I (x16)), (12, I (x15.2.1)), (47, B (u17))], mkS (rtL [⟨0, 4, (x15.2.2).map enc_Event⟩] 1), 2⟩ := by
   intro u17 hu
   replace h := hy172 u17 hu
   refine sc h rfl rfl (fun h => ?_) (fun h => ?_)
   · refine ad 1 rfl ?_
     refine c0 7 [11] [I ((w64 (x16 + 1)))] 50 (by kernel_rfl) ?_
     refine s_lp ?_
     refine run_forget [0, 1, 4, 11, 12] [1] [⟨0, 4, (x15.2.2).map enc_Event⟩] rfl rfl rfl rfl ?_
     exact ih _ _ h hr hn
   · refine ad 1 rfl ?_
     refine run_forget [0, 1, 4, 11, 12] [1] [⟨0, 4, (x15.2.2).map enc_Event⟩] rfl rfl rfl hK ?_
     exact hn _ (Option.some.inj h).symm
 have r17 : ∀ r', y17 = .inl r' → ∀ st, Ffbq_Q (data_9, a_10, b_11, pivot_12, cmp_13) r' st → Q st := fun r' e st hq => hr r' (hy171 r' e) st hq
 replace h := hy17
 refine sp 34 h rfl (fun h => ?_) (fun h => ?_)
 · refine dg [] [] (.fn 52 []) rfl rfl rfl (e_move rfl) rfl (rfl) (by decide) ?_
   refine dg [] [] (.hs 1 0 [] 4 0 ((x15.2.2).map enc_Event).length) rfl rfl rfl (e_move rfl) rfl (rfl) (by decide) ?_
   refine dg [] [] (I (a_10)) rfl rfl rfl (e_move rfl) rfl (rfl) (by decide) ?_
   obtain ⟨e18, he18, h⟩ := bS h
   refine dg [1] [] (.hp 1 0 [] 4 (0 + Int.toNat (a_10)) 0) rfl rfl rfl (e_indexAddr rfl rfl rfl (ix_hsM (f := enc_Event) (xs := x15.2.2) rfl rfl rfl he18)) rfl (rfl) (by decide) ?_
   refine dg [1] [] (enc_Event e18) rfl rfl rfl (e_ld rfl (ld_at (path := []) rfl rfl rfl (ra_n) (get_map (f := enc_Event) (xs := x15.2.2) he18) rfl rfl rfl)) rfl (rfl) (by decide) ?_
   refine dg [] [] (.hs 1 0 [] 4 0 ((x15.2.2).map enc_Event).length) rfl rfl rfl (e_move rfl) rfl (rfl) (by decide) ?_
   refine dg [] [] (I (x16)) rfl rfl rfl (e_move rfl) rfl (rfl) (by decide) ?_
   obtain ⟨e19, he19, h⟩ := bS h
   refine dg [1] [] (.hp 1 0 [] 4 (0 + Int.toNat (x16)) 0) rfl rfl rfl (e_indexAddr rfl rfl rfl (ix_hsM (f := enc_Event) (xs := x15.2.2) rfl rfl rfl he19)) rfl (rfl) (by decide) ?_
   refine dg [1] [] (enc_Event e19) rfl rfl rfl (e_ld rfl (ld_at (path := []) rfl rfl rfl (ra_n) (get_map (f := enc_Event) (xs := x15.2.2) he19) rfl rfl rfl)) rfl (rfl) (by decide) ?_
   obtain ⟨r20, hr20, h⟩ := bS h
   refine dg [] [] (I (r20)) rfl rfl rfl (e_callV rfl rfl (call_P rfl rfl rfl (avS (shP rfl) (avS (shP rfl) (avN))) (Fff_F hr20) (.inr rfl) (bl_n) rfl rfl rfl)) rfl (w_callO rfl rfl rfl rfl (avS (shP rfl) (avS (shP rfl) (avN))) (Fff_F hr20) (.inr rfl) rfl) (by decide) ?_
   refine dg [] [] (B ((decide (r20 < 0)))) rfl rfl rfl (e_bin rfl rfl rfl) rfl (rfl) (by decide) ?_
   refine dg [] [] (B ((!(decide (r20 < 0))))) rfl rfl rfl (e_un rfl rfl) rfl (rfl) (by decide) ?_
   refine dp [] [] (B ((!(decide (r20 < 0))))) rfl (e_pickT rfl rfl) rfl (rfl) (by decide) ?_
   refine de 274 rfl rfl ?_
   refine run_forget [0, 1, 4, 11, 12, 47] [1] [⟨0, 4, (x15.2.2).map enc_Event⟩] rfl rfl rfl rfl ?_
   exact j17 _ (Option.some.inj h).symm
 · refine ds rfl rfl rfl (by decide) ?_
   refine ds rfl rfl rfl (by decide) ?_
   refine ds rfl rfl rfl (by decide) ?_
   refine ds rfl rfl rfl (by decide) ?_
   refine ds rfl rfl rfl (by decide) ?_
   refine ds rfl rfl rfl (by decide) ?_
   refine ds rfl rfl rfl (by decide) ?_
   refine ds rfl rfl rfl (by decide) ?_
   refine ds rfl rfl rfl (by decide) ?_
   refine ds rfl rfl rfl (by decide) ?_
   refine ds rfl rfl rfl (by decide) ?_
   refine ds rfl rfl rfl (by decide) ?_
   refine dp [] [] (B (false)) rfl (e_pickF rfl rfl) rfl (rfl) (by decide) ?_
   refine de 274 rfl rfl ?_
   refine run_forget [0, 1, 4, 11, 12, 47] [1] [⟨0, 4, (x15.2.2).map enc_Event⟩] rfl rfl rfl rfl ?_
   exact j17 _ (Option.some.inj h).symm
theorem Ffbq_lc_run (data_9 : List Event) (a_10 : Int) (b_11 : Int) (pivot_12 : Int) (cmp_13 : Unit) (u21 : Int) (x15 : Int × Int × (List Event)) {Q : St → Prop} {K : List It} (hK : noD K = true) {x22 : Int} {y : (Int × (List Event)) ⊕ Int} (h : Ffbq_lc data_9 a_10 b_11 pivot_12 cmp_13 u21 x15 x22 = some y) : (∀ r', y = .inl r' → ∀ st, Ffbq_Q (data_9, a_10, b_11, pivot_12, cmp_13) r' st → Q st) → (∀ u : Int, y = .inr u → Run Ffbq_E 1 Q K ⟨mkTm .dead 90 [(0, .hs 1 0 [] 4 0 ((x15.2.2).map enc_Event).length), (1, I (a_10)), (4, .fn 52 []), (11, I (u21)), (12, I (u))], mkS (rtL [⟨0, 4, (x15.2.2).map enc_Event⟩] 1), 2⟩) → Run Ffbq_E 1 Q (.code (cL (cL (cL (cR (cL (cL (cL (cL (cR (cR (cR Ffbq_c))))))))))) :: .lp (cL (cL (cL (cR (cL (cL (cL (cL (cR (cR (cR Ffbq_c))))))))))) :: .blk 4 :: K) ⟨mkTm .dead 90 [(0, .hs 1 0 [] 4 0 ((x15.2.2).map enc_Event).length), (1, I (a_10)), (4, .fn 52 []), (11, I (u21)), (12, I (x22))], mkS (rtL [⟨0, 4, (x15.2.2).map enc_Event⟩] 1), 2⟩ := by
 refine fix_ind (P := fun (x22 : Int) (y : (Int × (List Event)) ⊕ Int) => (∀ r', y = .inl r' → ∀ st, Ffbq_Q (data_9, a_10, b_11, pivot_12, cmp_13) r' st → Q st) → (∀ u : Int, y = .inr u → Run Ffbq_E 1 Q K ⟨mkTm .dead 90 [(0, .hs 1 0 [] 4 0 ((x15.2.2).map enc_Event).length), (1, I (a_10)), (4, .fn 52 []), (11, I (u21)), (12, I (u))], mkS (rtL [⟨0, 4, (x15.2.2).map enc_Event⟩] 1), 2⟩) → Run Ffbq_E 1 Q (.code (cL (cL (cL (cR (cL (cL (cL (cL (cR (cR (cR Ffbq_c))))))))))) :: .lp (cL (cL (cL (cR (cL (cL (cL (cL (cR (cR (cR Ffbq_c))))))))))) :: .blk 4 :: K) ⟨mkTm .dead 90 [(0, .hs 1 0 [] 4 0 ((x15.2.2).map enc_Event).length), (1, I (a_10)), (4, .fn 52 []), (11, I (u21)), (12, I (x22))], mkS (rtL [⟨0, 4, (x15.2.2).map enc_Event⟩] 1), 2⟩) (Ffbq_lc_fin data_9 a_10 b_11 pivot_12 cmp_13 u21 x15) ?_ h
 clear h y x22
 intro self ih x22 y h hr hn
 unfold Ffbq_lc_F at h
 refine ad 2 rfl ?_
 refine s_draw [0, 0, 3, 7, 15, 15, 15, 111, 239, 15, 15, 1551, 3599, 8191, 16383, 32767] rfl (by decide +kernel) ?_
 refine dp [] [] (I (u21)) rfl (e_move rfl) rfl (rfl) (by decide) ?_
 refine dp [] [] (I (x22)) rfl (e_move rfl) rfl (rfl) (by decide) ?_
 refine dp [] [] (B ((decide (u21 ≤ x22)))) rfl (e_bin rfl rfl rfl) rfl (rfl) (by decide) ?_
 refine dp [] [] (B ((decide (u21 ≤ x22)))) rfl (e_move rfl) rfl (rfl) (by decide) ?_
 obtain ⟨y23, hy23, hy231, hy232⟩ := bL h
 have j23 : ∀ u23, y23 = .inr u23 → Run Ffbq_E 1 Q (.code (cR (cL (cL (cL (cL (cR (cL (cL (cL (cL (cR (cR (cR Ffbq_c))))))))))))) :: .code (cR (cL (cL (cL (cR (cL (cL (cL (cL (cR (cR (cR Ffbq_c)))))))))))) :: .lp (cL (cL (cL (cR (cL (cL (cL (cL (cR (cR (cR Ffbq_c))))))))))) :: .blk 4 :: K) ⟨mkTm .dead 90 [(0, .hs 1 0 [] 4 0 ((x15.2.2).map enc_Event).length), (1, I (a_10)), (4, .fn 52 []), (11, I (u21)), (12, I (x22)), (65, B (u23))], mkS (rtL [⟨0, 4, (x15.2.2).map enc_Event⟩] 1), 2⟩ := by
   intro u23 hu
   replace h := hy232 u23 hu
   refine sc h rfl rfl (fun h => ?_) (fun h => ?_)
   · refine ad 1 rfl ?_
     refine c0 7 [12] [I ((w64 (x22 - 1)))] 50 (by kernel_rfl) ?_
     refine s_lp ?_
     refine run_forget [0, 1, 4, 11, 12] [1] [⟨0, 4, (x15.2.2).map enc_Event⟩] rfl rfl rfl rfl ?_
     exact ih _ _ h hr hn
   · refine ad 1 rfl ?_
     refine run_forget [0, 1, 4, 11, 12] [1] [⟨0, 4, (x15.2.2).map enc_Event⟩] rfl rfl rfl hK ?_
     exact hn _ (Option.some.inj h).symm
 have r23 : ∀ r', y23 = .inl r' → ∀ st, Ffbq_Q (data_9, a_10, b_11, pivot_12, cmp_13) r' st → Q st := fun r' e st hq => hr r' (hy231 r' e) st hq
 replace h := hy23
 refine sp 53 h rfl (fun h => ?_) (fun h => ?_)
 · refine dg [] [] (.fn 52 []) rfl rfl rfl (e_move rfl) rfl (rfl) (by decide) ?_
   refine dg [] [] (.hs 1 0 [] 4 0 ((x15.2.2).map enc_Event).length) rfl rfl rfl (e_move rfl) rfl (rfl) (by decide) ?_
   refine dg [] [] (I (a_10)) rfl rfl rfl (e_move rfl) rfl (rfl) (by decide) ?_
   obtain ⟨e24, he24, h⟩ := bS h
   refine dg [1] [] (.hp 1 0 [] 4 (0 + Int.toNat (a_10)) 0) rfl rfl rfl (e_indexAddr rfl rfl rfl (ix_hsM (f := enc_Event) (xs := x15.2.2) rfl rfl rfl he24)) rfl (rfl) (by decide) ?_
   refine dg [1] [] (enc_Event e24) rfl rfl rfl (e_ld rfl (ld_at (path := []) rfl rfl rfl (ra_n) (get_map (f := enc_Event) (xs := x15.2.2) he24) rfl rfl rfl)) rfl (rfl) (by decide) ?_
   refine dg [] [] (.hs 1 0 [] 4 0 ((x15.2.2).map enc_Event).length) rfl rfl rfl (e_move rfl) rfl (rfl) (by decide) ?_
   refine dg [] [] (I (x22)) rfl rfl rfl (e_move rfl) rfl (rfl) (by decide) ?_
   obtain ⟨e25, he25, h⟩ := bS h
   refine dg [1] [] (.hp 1 0 [] 4 (0 + Int.toNat (x22)) 0) rfl rfl rfl (e_indexAddr rfl rfl rfl (ix_hsM (f := enc_Event) (xs := x15.2.2) rfl rfl rfl he25)) rfl (rfl) (by decide) ?_
   refine dg [1] [] (enc_Event e25) rfl rfl rfl (e_ld rfl (ld_at (path := []) rfl rfl rfl (ra_n) (get_map (f := enc_Event) (xs := x15.2.2) he25) rfl rfl rfl)) rfl (rfl) (by decide) ?_
   obtain ⟨r26, hr26, h⟩ := bS h
   refine dg [] [] (I (r26)) rfl rfl rfl (e_callV rfl rfl (call_P rfl rfl rfl (avS (shP rfl) (avS (shP rfl) (avN))) (Fff_F hr26) (.inr rfl) (bl_n) rfl rfl rfl)) rfl (w_callO rfl rfl rfl rfl (avS (shP rfl) (avS (shP rfl) (avN))) (Fff_F hr26) (.inr rfl) rfl) (by decide) ?_
   refine dg [] [] (B ((decide (r26 < 0)))) rfl rfl rfl (e_bin rfl rfl rfl) rfl (rfl) (by decide) ?_
   refine dp [] [] (B ((decide (r26 < 0)))) rfl (e_pickT rfl rfl) rfl (rfl) (by decide) ?_
   refine de 258 rfl rfl ?_
   refine run_forget [0, 1, 4, 11, 12, 65] [1] [⟨0, 4, (x15.2.2).map enc_Event⟩] rfl rfl rfl rfl ?_
   exact j23 _ (Option.some.inj h).symm
 · refine ds rfl rfl rfl (by decide) ?_
   refine ds rfl rfl rfl (by decide) ?_
   refine ds rfl rfl rfl (by decide) ?_
   refine ds rfl rfl rfl (by decide) ?_
   refine ds rfl rfl rfl (by decide) ?_
   refine ds rfl rfl rfl (by decide) ?_
   refine ds rfl rfl rfl (by decide) ?_
   refine ds rfl rfl rfl (by decide) ?_
   refine ds rfl rfl rfl (by decide) ?_
   refine ds rfl rfl rfl (by decide) ?_
   refine ds rfl rfl rfl (by decide) ?_
   refine dp [] [] (B (false)) rfl (e_pickF rfl rfl) rfl (rfl) (by decide) ?_
   refine de 258 rfl rfl ?_
   refine run_forget [0, 1, 4, 11, 12, 65] [1] [⟨0, 4, (x15.2.2).map enc_Event⟩] rfl rfl rfl rfl ?_
   exact j23 _ (Option.some.inj h).symm
theorem Ffbq_la_run (data_9 : List Event) (a_10 : Int) (b_11 : Int) (pivot_12 : Int) (cmp_13 : Unit)  {Q : St → Prop} {K : List It} (hK : noD K = true) {x15 : Int × Int × (List Event)} {y : (Int × (List Event)) ⊕ (Int × (List Event))} (h : Ffbq_la data_9 a_10 b_11 pivot_12 cmp_13 x15 = some y) : (∀ r', y = .inl r' → ∀ st, Ffbq_Q (data_9, a_10, b_11, pivot_12, cmp_13) r' st → Q st) → (∀ u : Int × (List Event), y = .inr u → Run Ffbq_E 1 Q K ⟨mkTm .dead 90 [(11, I (u.1))], mkS (rtL [⟨0, 4, (u.2).map enc_Event⟩] 1), 2⟩) → Run Ffbq_E 1 Q (.code (cL (cL (cL (cR (cR (cR Ffbq_c)))))) :: .lp (cL (cL (cL (cR (cR (cR Ffbq_c)))))) :: .blk 0 :: K) ⟨mkTm .dead 90 [(0, .hs 1 0 [] 4 0 ((x15.2.2).map enc_Event).length), (1, I (a_10)), (4, .fn 52 []), (11, I (x15.1)), (12, I (x15.2.1))], mkS (rtL [⟨0, 4, (x15.2.2).map enc_Event⟩] 1), 2⟩ := by
 refine fix_ind (P := fun (x15 : Int × Int × (List Event)) (y : (Int × (List Event)) ⊕ (Int × (List Event))) => (∀ r', y = .inl r' → ∀ st, Ffbq_Q (data_9, a_10, b_11, pivot_12, cmp_13) r' st → Q st) → (∀ u : Int × (List Event), y = .inr u → Run Ffbq_E 1 Q K ⟨mkTm .dead 90 [(11, I (u.1))], mkS (rtL [⟨0, 4, (u.2).map enc_Event⟩] 1), 2⟩) → Run Ffbq_E 1 Q (.code (cL (cL (cL (cR (cR (cR Ffbq_c)))))) :: .lp (cL (cL (cL (cR (cR (cR Ffbq_c)))))) :: .blk 0 :: K) ⟨mkTm .dead 90 [(0, .hs 1 0 [] 4 0 ((x15.2.2).map enc_Event).length), (1, I (a_10)), (4, .fn 52 []), (11, I (x15.1)), (12, I (x15.2.1))], mkS (rtL [⟨0, 4, (x15.2.2).map enc_Event⟩] 1), 2⟩) (Ffbq_la_fin data_9 a_10 b_11 pivot_12 cmp_13) ?_ h
 clear h y x15
 intro self ih x15 y h hr hn
 unfold Ffbq_la_F at h
 refine ad 3 rfl ?_
 obtain ⟨y21, hy21, hy211, hy212⟩ := bL h
 refine s_loop rfl ?_
 refine run_forget [0, 1, 4, 11, 12] [1] [⟨0, 4, (x15.2.2).map enc_Event⟩] rfl rfl rfl rfl ?_
 refine Ffbq_lb_run data_9 a_10 b_11 pivot_12 cmp_13 x15 rfl hy21 (fun r' e st hq => hr r' (hy211 r' e) st hq) (fun u21 hu => ?_)
 replace h := hy212 u21 hu
 refine ad 2 rfl ?_
 obtain ⟨y27, hy27, hy271, hy272⟩ := bL h
 refine s_loop rfl ?_
 refine run_forget [0, 1, 4, 11, 12] [1] [⟨0, 4, (x15.2.2).map enc_Event⟩] rfl rfl rfl rfl ?_
 refine Ffbq_lc_run data_9 a_10 b_11 pivot_12 cmp_13 u21 x15 rfl hy27 (fun r' e st hq => hr r' (hy271 r' e) st hq) (fun u27 hu => ?_)
 replace h := hy272 u27 hu
 refine c0 7 [70] [B ((decide (u21 > u27)))] 50 (by kernel_rfl) ?_
 refine sc h rfl rfl (fun h => ?_) (fun h => ?_)
 · refine ad 1 rfl ?_
   refine run_forget [11] [1] [⟨0, 4, (x15.2.2).map enc_Event⟩] rfl rfl rfl hK ?_
   exact hn _ (Option.some.inj h).symm
 · refine ad 1 rfl ?_
   refine ad 1 rfl ?_
   refine s_draw [0, 0, 0, 0, 0, 0, 48, 112, 0, 0, 768, 1792, 4083, 8179, 16383, 32767] rfl (by decide +kernel) ?_
   refine dp [] [] (.hs 1 0 [] 4 0 ((x15.2.2).map enc_Event).length) rfl (e_move rfl) rfl (rfl) (by decide) ?_
   refine dp [] [] (I (u21)) rfl (e_move rfl) rfl (rfl) (by decide) ?_
   refine dp [] [] (.hs 1 0 [] 4 0 ((x15.2.2).map enc_Event).length) rfl (e_move rfl) rfl (rfl) (by decide) ?_
   refine dp [] [] (I (u27)) rfl (e_move rfl) rfl (rfl) (by decide) ?_
   refine dp [] [] (.hs 1 0 [] 4 0 ((x15.2.2).map enc_Event).length) rfl (e_move rfl) rfl (rfl) (by decide) ?_
   refine dp [] [] (I (u27)) rfl (e_move rfl) rfl (rfl) (by decide) ?_
   obtain ⟨e28, he28, h⟩ := bS h
   refine dp [1] [] (.hp 1 0 [] 4 (0 + Int.toNat (u27)) 0) rfl (e_indexAddr rfl rfl rfl (ix_hsM (f := enc_Event) (xs := x15.2.2) rfl rfl rfl he28)) rfl (rfl) (by decide) ?_
   refine dp [1] [] (enc_Event e28) rfl (e_ld rfl (ld_at (path := []) rfl rfl rfl (ra_n) (get_map (f := enc_Event) (xs := x15.2.2) he28) rfl rfl rfl)) rfl (rfl) (by decide) ?_
   refine dp [] [] (.hs 1 0 [] 4 0 ((x15.2.2).map enc_Event).length) rfl (e_move rfl) rfl (rfl) (by decide) ?_
   refine dp [] [] (I (u21)) rfl (e_move rfl) rfl (rfl) (by decide) ?_
   obtain ⟨e29, he29, h⟩ := bS h
   refine dp [1] [] (.hp 1 0 [] 4 (0 + Int.toNat (u21)) 0) rfl (e_indexAddr rfl rfl rfl (ix_hsM (f := enc_Event) (xs := x15.2.2) rfl rfl rfl he29)) rfl (rfl) (by decide) ?_
   refine dp [1] [] (enc_Event e29) rfl (e_ld rfl (ld_at (path := []) rfl rfl rfl (ra_n) (get_map (f := enc_Event) (xs := x15.2.2) he29) rfl rfl rfl)) rfl (rfl) (by decide) ?_
   obtain ⟨e30, he30, h⟩ := bS h
   refine dp [1] [] (.hp 1 0 [] 4 (0 + Int.toNat (u21)) 0) rfl (e_indexAddr rfl rfl rfl (ix_hsM (f := enc_Event) (xs := x15.2.2) rfl rfl rfl he30)) rfl (rfl) (by decide) ?_
   obtain ⟨w31, hw31⟩ : ∃ w, getI (setI x15.2.2 u21 e28) u27 = some w := get_exI he28
   obtain ⟨w32, hw32⟩ : ∃ w, getI (setI x15.2.2 u21 e28) u21 = some w := get_exI he29
   refine dp0 [1] [1] rfl (e_st rfl rfl (st_at (path := []) (pl := true) (e' := enc_Event e28) (es2' := ((setI x15.2.2 u21 e28)).map enc_Event) rfl (absorb_plain rfl) rfl rfl rfl (ra_n) (get_map (f := enc_Event) (xs := x15.2.2) he30) rfl rfl rfl (set_map (f := enc_Event) (xs := x15.2.2) (y := e28)) (sr_n) 0 rfl)) rfl (rfl) (by decide) ?_
   try rw [← len_setM (f := enc_Event) (xs := x15.2.2) (i := u21) (z := e28)]
   obtain ⟨e33, he33, h⟩ := bS h
   refine dp [1] [] (.hp 1 0 [] 4 (0 + Int.toNat (u27)) 0) rfl (e_indexAddr rfl rfl rfl (ix_hsM (f := enc_Event) (xs := (setI x15.2.2 u21 e28)) rfl rfl rfl he33)) rfl (rfl) (by decide) ?_
   obtain ⟨w34, hw34⟩ : ∃ w, getI (setI (setI x15.2.2 u21 e28) u27 e29) u27 = some w := get_exI hw31
   obtain ⟨w35, hw35⟩ : ∃ w, getI (setI (setI x15.2.2 u21 e28) u27 e29) u21 = some w := get_exI hw32
   obtain ⟨w36, hw36⟩ : ∃ w, getI (setI (setI x15.2.2 u21 e28) u27 e29) u21 = some w := get_exI (get_set he30)
   refine dp0 [1] [1] rfl (e_st rfl rfl (st_at (path := []) (pl := true) (e' := enc_Event e29) (es2' := ((setI (setI x15.2.2 u21 e28) u27 e29)).map enc_Event) rfl (absorb_plain rfl) rfl rfl rfl (ra_n) (get_map (f := enc_Event) (xs := (setI x15.2.2 u21 e28)) he33) rfl rfl rfl (set_map (f := enc_Event) (xs := (setI x15.2.2 u21 e28)) (y := e29)) (sr_n) 0 rfl)) rfl (rfl) (by decide) ?_
   try rw [← len_setM (f := enc_Event) (xs := (setI x15.2.2 u21 e28)) (i := u27) (z := e29)]
   refine de 306 rfl rfl ?_
   refine c0 12 [11, 12] [I ((w64 (u21 + 1))), I ((w64 (u27 - 1)))] 402 (by kernel_rfl) ?_
   refine s_lp ?_
   refine run_forget [0, 1, 4, 11, 12] [1] [⟨0, 4, ((setI (setI x15.2.2 u21 e28) u27 e29)).map enc_Event⟩] rfl rfl rfl rfl ?_
   exact ih _ _ h hr hn
theorem Ffbq_run (data_9 : List Event) (a_10 : Int) (b_11 : Int) (pivot_12 : Int) (cmp_13 : Unit) (r : Int × (List Event)) (h : Ffbq data_9 a_10 b_11 pivot_12 cmp_13 = some r) : RunF Ffbq_E Tryd.f121 [true, false, false, false, false] 1 (Ffbq_A (data_9, a_10, b_11, pivot_12, cmp_13)) (Ffbq_R r) := by
 show Run _ _ (Ffbq_Q (data_9, a_10, b_11, pivot_12, cmp_13) r) [.code Ffbq_c] _
 refine rin (n := 90) [(0, .hs 1 0 [] 4 0 ((data_9).map enc_Event).length), (1, I (a_10)), (2, I (b_11)), (3, I (pivot_12)), (4, .fn 52 [])] [(1, some ⟨0, 4, (data_9).map enc_Event⟩)] 2 (by kernel_rfl) (by kernel_rfl) (by kernel_rfl) rfl ?_
 unfold Ffbq at h
 refine c0 5 [] [] 18 (by kernel_rfl) ?_
 refine s_draw [0, 0, 0, 0, 0, 0, 48, 112, 0, 0, 768, 1792, 4083, 8179, 16383, 32767] rfl (by decide +kernel) ?_
 refine dp [] [] (.hs 1 0 [] 4 0 ((data_9).map enc_Event).length) rfl (e_move rfl) rfl (rfl) (by decide) ?_
 refine dp [] [] (I (a_10)) rfl (e_move rfl) rfl (rfl) (by decide) ?_
 refine dp [] [] (.hs 1 0 [] 4 0 ((data_9).map enc_Event).length) rfl (e_move rfl) rfl (rfl) (by decide) ?_
 refine dp [] [] (I (pivot_12)) rfl (e_move rfl) rfl (rfl) (by decide) ?_
 refine dp [] [] (.hs 1 0 [] 4 0 ((data_9).map enc_Event).length) rfl (e_move rfl) rfl (rfl) (by decide) ?_
 refine dp [] [] (I (pivot_12)) rfl (e_move rfl) rfl (rfl) (by decide) ?_
 obtain ⟨e6, he6, h⟩ := bS h
 refine dp [1] [] (.hp 1 0 [] 4 (0 + Int.toNat (pivot_12)) 0) rfl (e_indexAddr rfl rfl rfl (ix_hsM (f := enc_Event) (xs := data_9) rfl rfl rfl he6)) rfl (rfl) (by decide) ?_
 refine dp [1] [] (enc_Event e6) rfl (e_ld rfl (ld_at (path := []) rfl rfl rfl (ra_n) (get_map (f := enc_Event) (xs := data_9) he6) rfl rfl rfl)) rfl (rfl) (by decide) ?_
 refine dp [] [] (.hs 1 0 [] 4 0 ((data_9).map enc_Event).length) rfl (e_move rfl) rfl (rfl) (by decide) ?_
 refine dp [] [] (I (a_10)) rfl (e_move rfl) rfl (rfl) (by decide) ?_
 obtain ⟨e7, he7, h⟩ := bS h
 refine dp [1] [] (.hp 1 0 [] 4 (0 + Int.toNat (a_10)) 0) rfl (e_indexAddr rfl rfl rfl (ix_hsM (f := enc_Event) (xs := data_9) rfl rfl rfl he7)) rfl (rfl) (by decide) ?_
 refine dp [1] [] (enc_Event e7) rfl (e_ld rfl (ld_at (path := []) rfl rfl rfl (ra_n) (get_map (f := enc_Event) (xs := data_9) he7) rfl rfl rfl)) rfl (rfl) (by decide) ?_
 obtain ⟨e8, he8, h⟩ := bS h
 refine dp [1] [] (.hp 1 0 [] 4 (0 + Int.toNat (a_10)) 0) rfl (e_indexAddr rfl rfl rfl (ix_hsM (f := enc_Event) (xs := data_9) rfl rfl rfl he8)) rfl (rfl) (by decide) ?_
 obtain ⟨w9, hw9⟩ : ∃ w, getI (setI data_9 a_10 e6) pivot_12 = some w := get_exI he6
 obtain ⟨w10, hw10⟩ : ∃ w, getI (setI data_9 a_10 e6) a_10 = some w := get_exI he7
 refine dp0 [1] [1] rfl (e_st rfl rfl (st_at (path := []) (pl := true) (e' := enc_Event e6) (es2' := ((setI data_9 a_10 e6)).map enc_Event) rfl (absorb_plain rfl) rfl rfl rfl (ra_n) (get_map (f := enc_Event) (xs := data_9) he8) rfl rfl rfl (set_map (f := enc_Event) (xs := data_9) (y := e6)) (sr_n) 0 rfl)) rfl (rfl) (by decide) ?_
 try rw [← len_setM (f := enc_Event) (xs := data_9) (i := a_10) (z := e6)]
 obtain ⟨e11, he11, h⟩ := bS h
 refine dp [1] [] (.hp 1 0 [] 4 (0 + Int.toNat (pivot_12)) 0) rfl (e_indexAddr rfl rfl rfl (ix_hsM (f := enc_Event) (xs := (setI data_9 a_10 e6)) rfl rfl rfl he11)) rfl (rfl) (by decide) ?_
 obtain ⟨w12, hw12⟩ : ∃ w, getI (setI (setI data_9 a_10 e6) pivot_12 e7) pivot_12 = some w := get_exI hw9
 obtain ⟨w13, hw13⟩ : ∃ w, getI (setI (setI data_9 a_10 e6) pivot_12 e7) a_10 = some w := get_exI hw10
 obtain ⟨w14, hw14⟩ : ∃ w, getI (setI (setI data_9 a_10 e6) pivot_12 e7) a_10 = some w := get_exI (get_set he8)
 refine dp0 [1] [1] rfl (e_st rfl rfl (st_at (path := []) (pl := true) (e' := enc_Event e7) (es2' := ((setI (setI data_9 a_10 e6) pivot_12 e7)).map enc_Event) rfl (absorb_plain rfl) rfl rfl rfl (ra_n) (get_map (f := enc_Event) (xs := (setI data_9 a_10 e6)) he11) rfl rfl rfl (set_map (f := enc_Event) (xs := (setI data_9 a_10 e6)) (y := e7)) (sr_n) 0 rfl)) rfl (rfl) (by decide) ?_
 try rw [← len_setM (f := enc_Event) (xs := (setI data_9 a_10 e6)) (i := pivot_12) (z := e7)]
 refine de 274 rfl rfl ?_
 refine c0 11 [11, 12] [I ((w64 (a_10 + 1))), I ((w64 (b_11 - 1)))] 370 (by kernel_rfl) ?_
 obtain ⟨y37, hy37, hy371, hy372⟩ := bJ h
 refine s_loop rfl ?_
 refine run_forget [0, 1, 4, 11, 12] [1] [⟨0, 4, ((setI (setI data_9 a_10 e6) pivot_12 e7)).map enc_Event⟩] rfl rfl rfl rfl ?_
 refine Ffbq_la_run data_9 a_10 b_11 pivot_12 cmp_13 rfl hy37 (fun r' e st hq => by rw [hy371 r' e] at hq; exact hq) (fun u37 hu => ?_)
 replace h := hy372 u37 hu
 refine c0 5 [10] [I (u37.1)] 34 (by kernel_rfl) ?_
 obtain ⟨g38, h⟩ := gG h
 obtain rfl := Option.some.inj h
 exact s_ret rfl ⟨_, fin (vs := [I (u37.1)]) rfl (absE (absorb_plain rfl) (absEN)) rfl (ou_1 rfl (oc_hsG (f := enc_Event) (xs := u37.2) (by simpa using g38) rfl) (ou_f (ou_f (ou_f (ou_f (ou_n)))))), kl_c (kl_n)⟩
theorem Ffbq_good {G : Go.Ln.Ground} : Good Tryd.prog G 121 Ffbq_ent := good_T (fnOf_good (gl_c Fff_good (gl_n))) agree_mk (Checked.mixed Tryd.checked) Tryd.func121 (n := 5) (m := 1) ⟨rfl, rfl, by decide⟩ (fun _ => ⟨rfl, rfl⟩) (fun a r h => Ffbq_run a.1 a.2.1 a.2.2.1 a.2.2.2.1 a.2.2.2.2 r h)
def Ffbp_A : ((List Event) × Int × Int × Int × Unit) → List V := cA (usE 4 enc_Event) (cA I (cA I (cA I (oA (fun x : Unit => (.fn 52 [] : V))))))
def Ffbp_R (r : Int × Bool × (List Event)) : V × List V := (.tup [I (r.1), B (r.2.1)], [.usl 4 ((r.2.2).map enc_Event)])
noncomputable def Ffbp_ent : Ent := entT [true, false, false, false, false] Ffbp_A Ffbp_R fun x => Ffbp x.1 x.2.1 x.2.2.1 x.2.2.2.1 x.2.2.2.2
theorem Ffbp_F {data_9 : List Event} {a_10 : Int} {b_11 : Int} {pivot_12 : Int} {cmp_13 : Unit} {r} (h : Ffbp data_9 a_10 b_11 pivot_12 cmp_13 = some r) : (Ffbp_ent).F (Ffbp_A (data_9, a_10, b_11, pivot_12, cmp_13)) = some (Ffbp_R r) := entT_F (cA_inj (usl_inj enc_Event_inj) (cA_inj I_inj (cA_inj I_inj (cA_inj I_inj (oA_inj (fn_inj0 )))))) h
noncomputable def Ffbp_c : Code := bodyOf Tryd.f122
noncomputable def Ffbp_E : Env := mkE Tryd.prog [(52, Fff_ent)]
def Ffbp_Q (x : (List Event) × Int × Int × Int × Unit) (r : Int × Bool × (List Event)) : St → Prop := QF Ffbp_E Tryd.f122 [true, false, false, false, false] (Ffbp_A x) (Ffbp_R r)
theorem Ffbp_la_run (data_9 : List Event) (a_10 : Int) (b_11 : Int) (pivot_12 : Int) (cmp_13 : Unit) (e6 : Event) (e7 : Event) {Q : St → Prop} {K : List It} (hK : noD K = true) {x15 : Int} {y : (Int × Bool × (List Event)) ⊕ (Int × Int)} (h : Ffbp_la data_9 a_10 b_11 pivot_12 cmp_13 e6 e7 x15 = some y) : (∀ r', y = .inl r' → ∀ st, Ffbp_Q (data_9, a_10, b_11, pivot_12, cmp_13) r' st → Q st) → (∀ u : Int × Int, y = .inr u → Run Ffbp_E 1 Q K ⟨mkTm .dead 178 [(0, .hs 1 0 [] 4 0 (((setI (setI data_9 a_10 e6) pivot_12 e7)).map enc_Event).length), (1, I (a_10)), (4, .fn 52 []), (12, I (u.1)), (13, I (u.2))], mkS (rtL [⟨0, 4, ((setI (setI data_9 a_10 e6) pivot_12 e7)).map enc_Event⟩] 1), 2⟩) → Run Ffbp_E 1 Q (.code (cL (cL (cL (cR (cR (cR Ffbp_c)))))) :: .lp (cL (cL (cL (cR (cR (cR Ffbp_c)))))) :: .blk 0 :: K) ⟨mkTm .dead 178 [(0, .hs 1 0 [] 4 0 (((setI (setI data_9 a_10 e6) pivot_12 e7)).map enc_Event).length), (1, I (a_10)), (4, .fn 52 []), (12, I (x15)), (13, I ((w64 (b_11 - 1))))], mkS (rtL [⟨0, 4, ((setI (setI data_9 a_10 e6) pivot_12 e7)).map enc_Event⟩] 1), 2⟩ := by
 refine fix_ind (P := fun (x15 : Int) (y : (Int × Bool × (List Event)) ⊕ (Int × Int)) => (∀ r', y = .inl r' → ∀ st, Ffbp_Q (data_9, a_10, b_11, pivot_12, cmp_13) r' st → Q st) → (∀ u : Int × Int, y = .inr u → Run Ffbp_E 1 Q K ⟨mkTm .dead 178 [(0, .hs 1 0 [] 4 0 (((setI (setI data_9 a_10 e6) pivot_12 e7)).map enc_Event).length), (1, I (a_10)), (4, .fn 52 []), (12, I (u.1)), (13, I (u.2))], mkS (rtL [⟨0, 4, ((setI (setI data_9 a_10 e6) pivot_12 e7)).map enc_Event⟩] 1), 2⟩) → Run Ffbp_E 1 Q (.code (cL (cL (cL (cR (cR (cR Ffbp_c)))))) :: .lp (cL (cL (cL (cR (cR (cR Ffbp_c)))))) :: .blk 0 :: K) ⟨mkTm .dead 178 [(0, .hs 1 0 [] 4 0 (((setI (setI data_9 a_10 e6) pivot_12 e7)).map enc_Event).length), (1, I (a_10)), (4, .fn 52 []), (12, I (x15)), (13, I ((w64 (b_11 - 1))))], mkS (rtL [⟨0, 4, ((setI (setI data_9 a_10 e6) pivot_12 e7)).map enc_Event⟩] 1), 2⟩) (Ffbp_la_fin data_9 a_10 b_11 pivot_12 cmp_13 e6 e7) ?_ h
 clear h y x15
 intro self ih x15 y h hr hn
 unfold Ffbp_la_F at h
 refine ad 2 rfl ?_
 refine s_draw [0, 0, 3, 7, 15, 15, 15, 111, 239, 15, 15, 1551, 3599, 8191, 16383, 32767] rfl (by decide +kernel) ?_
 refine dp [] [] (I (x15)) rfl (e_move rfl) rfl (rfl) (by decide) ?_
 refine dp [] [] (I ((w64 (b_11 - 1)))) rfl (e_move rfl) rfl (rfl) (by decide) ?_
 refine dp [] [] (B ((decide (x15 ≤ (w64 (b_11 - 1)))))) rfl (e_bin rfl rfl rfl) rfl (rfl) (by decide) ?_
 refine dp [] [] (B ((decide (x15 ≤ (w64 (b_11 - 1)))))) rfl (e_move rfl) rfl (rfl) (by decide) ?_
 obtain ⟨y16, hy16, hy161, hy162⟩ := bL h
 have j16 : ∀ u16, y16 = .inr u16 → Run Ffbp_E 1 Q (.code (cR (cL (cL (cL (cL (cR (cR (cR Ffbp_c)))))))) :: .code (cR (cL (cL (cL (cR (cR (cR Ffbp_c))))))) :: .lp (cL (cL (cL (cR (cR (cR Ffbp_c)))))) :: .blk 0 :: K) ⟨mkTm .dead 178 [(0, .hs 1 0 [] 4 0 (((setI (setI data_9 a_10 e6) pivot_12 e7)).map enc_Event).length), (1, I (a_10)), (4, .fn 52 []), (12, I (x15)), (13, I ((w64 (b_11 - 1)))), (47, B (u16))], mkS (rtL [⟨0, 4, ((setI (setI data_9 a_10 e6) pivot_12 e7)).map enc_Event⟩] 1), 2⟩ := by
   intro u16 hu
   replace h := hy162 u16 hu
   refine sc h rfl rfl (fun h => ?_) (fun h => ?_)
   · refine ad 1 rfl ?_
     refine c0 7 [12] [I ((w64 (x15 + 1)))] 50 (by kernel_rfl) ?_
     refine s_lp ?_
     refine run_forget [0, 1, 4, 12, 13] [1] [⟨0, 4, ((setI (setI data_9 a_10 e6) pivot_12 e7)).map enc_Event⟩] rfl rfl rfl rfl ?_
     exact ih _ _ h hr hn
   · refine ad 1 rfl ?_
     refine run_forget [0, 1, 4, 12, 13] [1] [⟨0, 4, ((setI (setI data_9 a_10 e6) pivot_12 e7)).map enc_Event⟩] rfl rfl rfl hK ?_
     exact hn _ (Option.some.inj h).symm
 have r16 : ∀ r', y16 = .inl r' → ∀ st, Ffbp_Q (data_9, a_10, b_11, pivot_12, cmp_13) r' st → Q st := fun r' e st hq => hr r' (hy161 r' e) st hq
 replace h := hy16
 refine sp 35 h rfl (fun h => ?_) (fun h => ?_)
 · refine dg [] [] (.fn 52 []) rfl rfl rfl (e_move rfl) rfl (rfl) (by decide) ?_
   refine dg [] [] (.hs 1 0 [] 4 0 (((setI (setI data_9 a_10 e6) pivot_12 e7)).map enc_Event).length) rfl rfl rfl (e_move rfl) rfl (rfl) (by decide) ?_
   refine dg [] [] (I (x15)) rfl rfl rfl (e_move rfl) rfl (rfl) (by decide) ?_
   obtain ⟨e17, he17, h⟩ := bS h
   refine dg [1] [] (.hp 1 0 [] 4 (0 + Int.toNat (x15)) 0) rfl rfl rfl (e_indexAddr rfl rfl rfl (ix_hsM (f := enc_Event) (xs := (setI (setI data_9 a_10 e6) pivot_12 e7)) rfl rfl rfl he17)) rfl (rfl) (by decide) ?_
   refine dg [1] [] (enc_Event e17) rfl rfl rfl (e_ld rfl (ld_at (path := []) rfl rfl rfl (ra_n) (get_map (f := enc_Event) (xs := (setI (setI data_9 a_10 e6) pivot_12 e7)) he17) rfl rfl rfl)) rfl (rfl) (by decide) ?_
   refine dg [] [] (.hs 1 0 [] 4 0 (((setI (setI data_9 a_10 e6) pivot_12 e7)).map enc_Event).length) rfl rfl rfl (e_move rfl) rfl (rfl) (by decide) ?_
   refine dg [] [] (I (a_10)) rfl rfl rfl (e_move rfl) rfl (rfl) (by decide) ?_
   obtain ⟨e18, he18, h⟩ := bS h
   refine dg [1] [] (.hp 1 0 [] 4 (0 + Int.toNat (a_10)) 0) rfl rfl rfl (e_indexAddr rfl rfl rfl (ix_hsM (f := enc_Event) (xs := (setI (setI data_9 a_10 e6) pivot_12 e7)) rfl rfl rfl he18)) rfl (rfl) (by decide) ?_
   refine dg [1] [] (enc_Event e18) rfl rfl rfl (e_ld rfl (ld_at (path := []) rfl rfl rfl (ra_n) (get_map (f := enc_Event) (xs := (setI (setI data_9 a_10 e6) pivot_12 e7)) he18) rfl rfl rfl)) rfl (rfl) (by decide) ?_
   obtain ⟨r19, hr19, h⟩ := bS h
   refine dg [] [] (I (r19)) rfl rfl rfl (e_callV rfl rfl (call_P rfl rfl rfl (avS (shP rfl) (avS (shP rfl) (avN))) (Fff_F hr19) (.inr rfl) (bl_n) rfl rfl rfl)) rfl (w_callO rfl rfl rfl rfl (avS (shP rfl) (avS (shP rfl) (avN))) (Fff_F hr19) (.inr rfl) rfl) (by decide) ?_
   refine dg [] [] (B ((decide (r19 < 0)))) rfl rfl rfl (e_bin rfl rfl rfl) rfl (rfl) (by decide) ?_
   refine dp [] [] (B ((decide (r19 < 0)))) rfl (e_pickT rfl rfl) rfl (rfl) (by decide) ?_
   refine de 258 rfl rfl ?_
   refine run_forget [0, 1, 4, 12, 13, 47] [1] [⟨0, 4, ((setI (setI data_9 a_10 e6) pivot_12 e7)).map enc_Event⟩] rfl rfl rfl rfl ?_
   exact j16 _ (Option.some.inj h).symm
 · refine ds rfl rfl rfl (by decide) ?_
   refine ds rfl rfl rfl (by decide) ?_
   refine ds rfl rfl rfl (by decide) ?_
   refine ds rfl rfl rfl (by decide) ?_
   refine ds rfl rfl rfl (by decide) ?_
   refine ds rfl rfl rfl (by decide) ?_
   refine ds rfl rfl rfl (by decide) ?_
   refine ds rfl rfl rfl (by decide) ?_
   refine ds rfl rfl rfl (by decide) ?_
   refine ds rfl rfl rfl (by decide) ?_
   refine ds rfl rfl rfl (by decide) ?_
   refine dp [] [] (B (false)) rfl (e_pickF rfl rfl) rfl (rfl) (by decide) ?_
   refine de 258 rfl rfl ?_
   refine run_forget [0, 1, 4, 12, 13, 47] [1] [⟨0, 4, ((setI (setI data_9 a_10 e6) pivot_12 e7)).map enc_Event⟩] rfl rfl rfl rfl ?_
   exact j16 _ (Option.some.inj h).symm
theorem Ffbp_lb_run (data_9 : List Event) (a_10 : Int) (b_11 : Int) (pivot_12 : Int) (cmp_13 : Unit) (u20 : Int × Int) (e6 : Event) (e7 : Event) {Q : St → Prop} {K : List It} (hK : noD K = true) {x21 : Int} {y : (Int × Bool × (List Event)) ⊕ Int} (h : Ffbp_lb data_9 a_10 b_11 pivot_12 cmp_13 u20 e6 e7 x21 = some y) : (∀ r', y = .inl r' → ∀ st, Ffbp_Q (data_9, a_10, b_11, pivot_12, cmp_13) r' st → Q st) → (∀ u : Int, y = .inr u → Run Ffbp_E 1 Q K ⟨mkTm .dead 178 [(0, .hs 1 0 [] 4 0 (((setI (setI data_9 a_10 e6) pivot_12 e7)).map enc_Event).length), (1, I (a_10)), (4, .fn 52 []), (12, I (u20.1)), (13, I (u))], mkS (rtL [⟨0, 4, ((setI (setI data_9 a_10 e6) pivot_12 e7)).map enc_Event⟩] 1), 2⟩) → Run Ffbp_E 1 Q (.code (cL (cL (cL (cR (cR (cR (cR Ffbp_c))))))) :: .lp (cL (cL (cL (cR (cR (cR (cR Ffbp_c))))))) :: .blk 2 :: K) ⟨mkTm .dead 178 [(0, .hs 1 0 [] 4 0 (((setI (setI data_9 a_10 e6) pivot_12 e7)).map enc_Event).length), (1, I (a_10)), (4, .fn 52 []), (12, I (u20.1)), (13, I (x21))], mkS (rtL [⟨0, 4, ((setI (setI data_9 a_10 e6) pivot_12 e7)).map enc_Event⟩] 1), 2⟩ := by
 refine fix_ind (P := fun (x21 : Int) (y : (Int × Bool × (List Event)) ⊕ Int) => (∀ r', y = .inl r' → ∀ st, Ffbp_Q (data_9, a_10, b_11, pivot_12, cmp_13) r' st → Q st) → (∀ u : Int, y = .inr u → Run Ffbp_E 1 Q K ⟨mkTm .dead 178 [(0, .hs 1 0 [] 4 0 (((setI (setI data_9 a_10 e6) pivot_12 e7)).map enc_Event).length), (1, I (a_10)), (4, .fn 52 []), (12, I (u20.1)), (13, I (u))], mkS (rtL [⟨0, 4, ((setI (setI data_9 a_10 e6) pivot_12 e7)).map enc_Event⟩] 1), 2⟩) → Run Ffbp_E 1 Q (.code (cL (cL (cL (cR (cR (cR (cR Ffbp_c))))))) :: .lp (cL (cL (cL (cR (cR (cR (cR Ffbp_c))))))) :: .blk 2 :: K) ⟨mkTm .dead 178 [(0, .hs 1 0 [] 4 0 (((setI (setI data_9 a_10 e6) pivot_12 e7)).map enc_Event).length), (1, I (a_10)), (4, .fn 52 []), (12, I (u20.1)), (13, I (x21))], mkS (rtL [⟨0, 4, ((setI (setI data_9 a_10 e6) pivot_12 e7)).map enc_Event⟩] 1), 2⟩) (Ffbp_lb_fin data_9 a_10 b_11 pivot_12 cmp_13 u20 e6 e7) ?_ h
 clear h y x21
 intro self ih x21 y h hr hn
 unfold Ffbp_lb_F at h
 refine ad 2 rfl ?_
 refine s_draw [0, 0, 3, 7, 15, 15, 15, 111, 239, 15, 15, 1551, 3599, 8191, 16383, 32767, 65535] rfl (by decide +kernel) ?_
 refine dp [] [] (I (u20.1)) rfl (e_move rfl) rfl (rfl) (by decide) ?_
 refine dp [] [] (I (x21)) rfl (e_move rfl) rfl (rfl) (by decide) ?_
 refine dp [] [] (B ((decide (u20.1 ≤ x21)))) rfl (e_bin rfl rfl rfl) rfl (rfl) (by decide) ?_
 refine dp [] [] (B ((decide (u20.1 ≤ x21)))) rfl (e_move rfl) rfl (rfl) (by decide) ?_
 obtain ⟨y22, hy22, hy221, hy222⟩ := bL h
 have j22 : ∀ u22, y22 = .inr u22 → Run Ffbp_E 1 Q (.code (cR (cL (cL (cL (cL (cR (cR (cR (cR Ffbp_c))))))))) :: .code (cR (cL (cL (cL (cR (cR (cR (cR Ffbp_c)))))))) :: .lp (cL (cL (cL (cR (cR (cR (cR Ffbp_c))))))) :: .blk 2 :: K) ⟨mkTm .dead 178 [(0, .hs 1 0 [] 4 0 (((setI (setI data_9 a_10 e6) pivot_12 e7)).map enc_Event).length), (1, I (a_10)), (4, .fn 52 []), (12, I (u20.1)), (13, I (x21)), (66, B (u22))], mkS (rtL [⟨0, 4, ((setI (setI data_9 a_10 e6) pivot_12 e7)).map enc_Event⟩] 1), 2⟩ := by
   intro u22 hu
   replace h := hy222 u22 hu
   refine sc h rfl rfl (fun h => ?_) (fun h => ?_)
   · refine ad 1 rfl ?_
     refine c0 7 [13] [I ((w64 (x21 - 1)))] 50 (by kernel_rfl) ?_
     refine s_lp ?_
     refine run_forget [0, 1, 4, 12, 13] [1] [⟨0, 4, ((setI (setI data_9 a_10 e6) pivot_12 e7)).map enc_Event⟩] rfl rfl rfl rfl ?_
     exact ih _ _ h hr hn
   · refine ad 1 rfl ?_
     refine run_forget [0, 1, 4, 12, 13] [1] [⟨0, 4, ((setI (setI data_9 a_10 e6) pivot_12 e7)).map enc_Event⟩] rfl rfl rfl hK ?_
     exact hn _ (Option.some.inj h).symm
 have r22 : ∀ r', y22 = .inl r' → ∀ st, Ffbp_Q (data_9, a_10, b_11, pivot_12, cmp_13) r' st → Q st := fun r' e st hq => hr r' (hy221 r' e) st hq
 replace h := hy22
 refine sp 53 h rfl (fun h => ?_) (fun h => ?_)
 · refine dg [] [] (.fn 52 []) rfl rfl rfl (e_move rfl) rfl (rfl) (by decide) ?_
   refine dg [] [] (.hs 1 0 [] 4 0 (((setI (setI data_9 a_10 e6) pivot_12 e7)).map enc_Event).length) rfl rfl rfl (e_move rfl) rfl (rfl) (by decide) ?_
   refine dg [] [] (I (x21)) rfl rfl rfl (e_move rfl) rfl (rfl) (by decide) ?_
   obtain ⟨e23, he23, h⟩ := bS h
   refine dg [1] [] (.hp 1 0 [] 4 (0 + Int.toNat (x21)) 0) rfl rfl rfl (e_indexAddr rfl rfl rfl (ix_hsM (f := enc_Event) (xs := (setI (setI data_9 a_10 e6) pivot_12 e7)) rfl rfl rfl he23)) rfl (rfl) (by decide) ?_
   refine dg [1] [] (enc_Event e23) rfl rfl rfl (e_ld rfl (ld_at (path := []) rfl rfl rfl (ra_n) (get_map (f := enc_Event) (xs := (setI (setI data_9 a_10 e6) pivot_12 e7)) he23) rfl rfl rfl)) rfl (rfl) (by decide) ?_
   refine dg [] [] (.hs 1 0 [] 4 0 (((setI (setI data_9 a_10 e6) pivot_12 e7)).map enc_Event).length) rfl rfl rfl (e_move rfl) rfl (rfl) (by decide) ?_
   refine dg [] [] (I (a_10)) rfl rfl rfl (e_move rfl) rfl (rfl) (by decide) ?_
   obtain ⟨e24, he24, h⟩ := bS h
   refine dg [1] [] (.hp 1 0 [] 4 (0 + Int.toNat (a_10)) 0) rfl rfl rfl (e_indexAddr rfl rfl rfl (ix_hsM (f := enc_Event) (xs := (setI (setI data_9 a_10 e6) pivot_12 e7)) rfl rfl rfl he24)) rfl (rfl) (by decide) ?_
   refine dg [1] [] (enc_Event e24) rfl rfl rfl (e_ld rfl (ld_at (path := []) rfl rfl rfl (ra_n) (get_map (f := enc_Event) (xs := (setI (setI data_9 a_10 e6) pivot_12 e7)) he24) rfl rfl rfl)) rfl (rfl) (by decide) ?_
   obtain ⟨r25, hr25, h⟩ := bS h
   refine dg [] [] (I (r25)) rfl rfl rfl (e_callV rfl rfl (call_P rfl rfl rfl (avS (shP rfl) (avS (shP rfl) (avN))) (Fff_F hr25) (.inr rfl) (bl_n) rfl rfl rfl)) rfl (w_callO rfl rfl rfl rfl (avS (shP rfl) (avS (shP rfl) (avN))) (Fff_F hr25) (.inr rfl) rfl) (by decide) ?_
   refine dg [] [] (B ((decide (r25 < 0)))) rfl rfl rfl (e_bin rfl rfl rfl) rfl (rfl) (by decide) ?_
   refine dg [] [] (B ((!(decide (r25 < 0))))) rfl rfl rfl (e_un rfl rfl) rfl (rfl) (by decide) ?_
   refine dp [] [] (B ((!(decide (r25 < 0))))) rfl (e_pickT rfl rfl) rfl (rfl) (by decide) ?_
   refine de 274 rfl rfl ?_
   refine run_forget [0, 1, 4, 12, 13, 66] [1] [⟨0, 4, ((setI (setI data_9 a_10 e6) pivot_12 e7)).map enc_Event⟩] rfl rfl rfl rfl ?_
   exact j22 _ (Option.some.inj h).symm
 · refine ds rfl rfl rfl (by decide) ?_
   refine ds rfl rfl rfl (by decide) ?_
   refine ds rfl rfl rfl (by decide) ?_
   refine ds rfl rfl rfl (by decide) ?_
   refine ds rfl rfl rfl (by decide) ?_
   refine ds rfl rfl rfl (by decide) ?_
   refine ds rfl rfl rfl (by decide) ?_
   refine ds rfl rfl rfl (by decide) ?_
   refine ds rfl rfl rfl (by decide) ?_
   refine ds rfl rfl rfl (by decide) ?_
   refine ds rfl rfl rfl (by decide) ?_
   refine ds rfl rfl rfl (by decide) ?_
   refine dp [] [] (B (false)) rfl (e_pickF rfl rfl) rfl (rfl) (by decide) ?_
   refine de 274 rfl rfl ?_
   refine run_forget [0, 1, 4, 12, 13, 66] [1] [⟨0, 4, ((setI (setI data_9 a_10 e6) pivot_12 e7)).map enc_Event⟩] rfl rfl rfl rfl ?_
   exact j22 _ (Option.some.inj h).symm
theorem Ffbp_ld_run (data_9 : List Event) (a_10 : Int) (b_11 : Int) (pivot_12 : Int) (cmp_13 : Unit) (x46 : Int × Int × (List Event)) {Q : St → Prop} {K : List It} (hK : noD K = true) {x47 : Int} {y : (Int × Bool × (List Event)) ⊕ Int} (h : Ffbp_ld data_9 a_10 b_11 pivot_12 cmp_13 x46 x47 = some y) : (∀ r', y = .inl r' → ∀ st, Ffbp_Q (data_9, a_10, b_11, pivot_12, cmp_13) r' st → Q st) → (∀ u : Int, y = .inr u → Run Ffbp_E 1 Q K ⟨mkTm .dead 178 [(0, .hs 1 0 [] 4 0 ((x46.2.2).map enc_Event).length), (1, I (a_10)), (4, .fn 52 []), (12, I (u)), (13, I (x46.2.1))], mkS (rtL [⟨0, 4, (x46.2.2).map enc_Event⟩] 1), 2⟩) → Run Ffbp_E 1 Q (.code (cL (cL (cL (cL (cL (cL (cL (cR (cR (cR (cR (cR (cR (cR (cR (cR Ffbp_c)))))))))))))))) :: .lp (cL (cL (cL (cL (cL (cL (cL (cR (cR (cR (cR (cR (cR (cR (cR (cR Ffbp_c)))))))))))))))) :: .blk 6 :: K) ⟨mkTm .dead 178 [(0, .hs 1 0 [] 4 0 ((x46.2.2).map enc_Event).length), (1, I (a_10)), (4, .fn 52 []), (12, I (x47)), (13, I (x46.2.1))], mkS (rtL [⟨0, 4, (x46.2.2).map enc_Event⟩] 1), 2⟩ := by
 refine fix_ind (P := fun (x47 : Int) (y : (Int × Bool × (List Event)) ⊕ Int) => (∀ r', y = .inl r' → ∀ st, Ffbp_Q (data_9, a_10, b_11, pivot_12, cmp_13) r' st → Q st) → (∀ u : Int, y = .inr u → Run Ffbp_E 1 Q K ⟨mkTm .dead 178 [(0, .hs 1 0 [] 4 0 ((x46.2.2).map enc_Event).length), (1, I (a_10)), (4, .fn 52 []), (12, I (u)), (13, I (x46.2.1))], mkS (rtL [⟨0, 4, (x46.2.2).map enc_Event⟩] 1), 2⟩) → Run Ffbp_E 1 Q (.code (cL (cL (cL (cL (cL (cL (cL (cR (cR (cR (cR (cR (cR (cR (cR (cR Ffbp_c)))))))))))))))) :: .lp (cL (cL (cL (cL (cL (cL (cL (cR (cR (cR (cR (cR (cR (cR (cR (cR Ffbp_c)))))))))))))))) :: .blk 6 :: K) ⟨mkTm .dead 178 [(0, .hs 1 0 [] 4 0 ((x46.2.2).map enc_Event).length), (1, I (a_10)), (4, .fn 52 []), (12, I (x47)), (13, I (x46.2.1))], mkS (rtL [⟨0, 4, (x46.2.2).map enc_Event⟩] 1), 2⟩) (Ffbp_ld_fin data_9 a_10 b_11 pivot_12 cmp_13 x46) ?_ h
 clear h y x47
 intro self ih x47 y h hr hn
 unfold Ffbp_ld_F at h
 refine ad 2 rfl ?_
 refine s_draw [0, 0, 3, 7, 15, 15, 15, 111, 239, 15, 15, 1551, 3599, 8191, 16383, 32767] rfl (by decide +kernel) ?_
 refine dp [] [] (I (x47)) rfl (e_move rfl) rfl (rfl) (by decide) ?_
 refine dp [] [] (I (x46.2.1)) rfl (e_move rfl) rfl (rfl) (by decide) ?_
 refine dp [] [] (B ((decide (x47 ≤ x46.2.1)))) rfl (e_bin rfl rfl rfl) rfl (rfl) (by decide) ?_
 refine dp [] [] (B ((decide (x47 ≤ x46.2.1)))) rfl (e_move rfl) rfl (rfl) (by decide) ?_
 obtain ⟨y48, hy48, hy481, hy482⟩ := bL h
 have j48 : ∀ u48, y48 = .inr u48 → Run Ffbp_E 1 Q (.code (cR (cL (cL (cL (cL (cL (cL (cL (cL (cR (cR (cR (cR (cR (cR (cR (cR (cR Ffbp_c)))))))))))))))))) :: .code (cR (cL (cL (cL (cL (cL (cL (cL (cR (cR (cR (cR (cR (cR (cR (cR (cR Ffbp_c))))))))))))))))) :: .lp (cL (cL (cL (cL (cL (cL (cL (cR (cR (cR (cR (cR (cR (cR (cR (cR Ffbp_c)))))))))))))))) :: .blk 6 :: K) ⟨mkTm .dead 178 [(0, .hs 1 0 [] 4 0 ((x46.2.2).map enc_Event).length), (1, I (a_10)), (4, .fn 52 []), (12, I (x47)), (13, I (x46.2.1)), (120, B (u48))], mkS (rtL [⟨0, 4, (x46.2.2).map enc_Event⟩] 1), 2⟩ := by
   intro u48 hu
   replace h := hy482 u48 hu
   refine sc h rfl rfl (fun h => ?_) (fun h => ?_)
   · refine ad 1 rfl ?_
     refine c0 7 [12] [I ((w64 (x47 + 1)))] 50 (by kernel_rfl) ?_
     refine s_lp ?_
     refine run_forget [0, 1, 4, 12, 13] [1] [⟨0, 4, (x46.2.2).map enc_Event⟩] rfl rfl rfl rfl ?_
     exact ih _ _ h hr hn
   · refine ad 1 rfl ?_
     refine run_forget [0, 1, 4, 12, 13] [1] [⟨0, 4, (x46.2.2).map enc_Event⟩] rfl rfl rfl hK ?_
     exact hn _ (Option.some.inj h).symm
 have r48 : ∀ r', y48 = .inl r' → ∀ st, Ffbp_Q (data_9, a_10, b_11, pivot_12, cmp_13) r' st → Q st := fun r' e st hq => hr r' (hy481 r' e) st hq
 replace h := hy48
 refine sp 108 h rfl (fun h => ?_) (fun h => ?_)
 · refine dg [] [] (.fn 52 []) rfl rfl rfl (e_move rfl) rfl (rfl) (by decide) ?_
   refine dg [] [] (.hs 1 0 [] 4 0 ((x46.2.2).map enc_Event).length) rfl rfl rfl (e_move rfl) rfl (rfl) (by decide) ?_
   refine dg [] [] (I (x47)) rfl rfl rfl (e_move rfl) rfl (rfl) (by decide) ?_
   obtain ⟨e49, he49, h⟩ := bS h
   refine dg [1] [] (.hp 1 0 [] 4 (0 + Int.toNat (x47)) 0) rfl rfl rfl (e_indexAddr rfl rfl rfl (ix_hsM (f := enc_Event) (xs := x46.2.2) rfl rfl rfl he49)) rfl (rfl) (by decide) ?_
   refine dg [1] [] (enc_Event e49) rfl rfl rfl (e_ld rfl (ld_at (path := []) rfl rfl rfl (ra_n) (get_map (f := enc_Event) (xs := x46.2.2) he49) rfl rfl rfl)) rfl (rfl) (by decide) ?_
   refine dg [] [] (.hs 1 0 [] 4 0 ((x46.2.2).map enc_Event).length) rfl rfl rfl (e_move rfl) rfl (rfl) (by decide) ?_
   refine dg [] [] (I (a_10)) rfl rfl rfl (e_move rfl) rfl (rfl) (by decide) ?_
   obtain ⟨e50, he50, h⟩ := bS h
   refine dg [1] [] (.hp 1 0 [] 4 (0 + Int.toNat (a_10)) 0) rfl rfl rfl (e_indexAddr rfl rfl rfl (ix_hsM (f := enc_Event) (xs := x46.2.2) rfl rfl rfl he50)) rfl (rfl) (by decide) ?_
   refine dg [1] [] (enc_Event e50) rfl rfl rfl (e_ld rfl (ld_at (path := []) rfl rfl rfl (ra_n) (get_map (f := enc_Event) (xs := x46.2.2) he50) rfl rfl rfl)) rfl (rfl) (by decide) ?_
   obtain ⟨r51, hr51, h⟩ := bS h
   refine dg [] [] (I (r51)) rfl rfl rfl (e_callV rfl rfl (call_P rfl rfl rfl (avS (shP rfl) (avS (shP rfl) (avN))) (Fff_F hr51) (.inr rfl) (bl_n) rfl rfl rfl)) rfl (w_callO rfl rfl rfl rfl (avS (shP rfl) (avS (shP rfl) (avN))) (Fff_F hr51) (.inr rfl) rfl) (by decide) ?_
   refine dg [] [] (B ((decide (r51 < 0)))) rfl rfl rfl (e_bin rfl rfl rfl) rfl (rfl) (by decide) ?_
   refine dp [] [] (B ((decide (r51 < 0)))) rfl (e_pickT rfl rfl) rfl (rfl) (by decide) ?_
   refine de 258 rfl rfl ?_
   refine run_forget [0, 1, 4, 12, 13, 120] [1] [⟨0, 4, (x46.2.2).map enc_Event⟩] rfl rfl rfl rfl ?_
   exact j48 _ (Option.some.inj h).symm
 · refine ds rfl rfl rfl (by decide) ?_
   refine ds rfl rfl rfl (by decide) ?_
   refine ds rfl rfl rfl (by decide) ?_
   refine ds rfl rfl rfl (by decide) ?_
   refine ds rfl rfl rfl (by decide) ?_
   refine ds rfl rfl rfl (by decide) ?_
   refine ds rfl rfl rfl (by decide) ?_
   refine ds rfl rfl rfl (by decide) ?_
   refine ds rfl rfl rfl (by decide) ?_
   refine ds rfl rfl rfl (by decide) ?_
   refine ds rfl rfl rfl (by decide) ?_
   refine dp [] [] (B (false)) rfl (e_pickF rfl rfl) rfl (rfl) (by decide) ?_
   refine de 258 rfl rfl ?_
   refine run_forget [0, 1, 4, 12, 13, 120] [1] [⟨0, 4, (x46.2.2).map enc_Event⟩] rfl rfl rfl rfl ?_
   exact j48 _ (Option.some.inj h).symm
theorem Ffbp_le_run (data_9 : List Event) (a_10 : Int) (b_11 : Int) (pivot_12 : Int) (cmp_13 : Unit) (u52 : Int) (x46 : Int × Int × (List Event)) {Q : St → Prop} {K : List It} (hK : noD K = true) {x53 : Int} {y : (Int × Bool × (List Event)) ⊕ Int} (h : Ffbp_le data_9 a_10 b_11 pivot_12 cmp_13 u52 x46 x53 = some y) : (∀ r', y = .inl r' → ∀ st, Ffbp_Q (data_9, a_10, b_11, pivot_12, cmp_13) r' st → Q st) → (∀ u : Int, y = .inr u → Run Ffbp_E 1 Q K ⟨mkTm .dead 178 [(0, .hs 1 0 [] 4 0 ((x46.2.2).map enc_Event).length), (1, I (a_10)), (4, .fn 52 []), (12, I (u52)), (13, I (u))], mkS (rtL [⟨0, 4, (x46.2.2).map enc_Event⟩] 1), 2⟩) → Run Ffbp_E 1 Q (.code (cL (cL (cL (cR (cL (cL (cL (cL (cR (cR (cR (cR (cR (cR (cR (cR (cR Ffbp_c))))))))))))))))) :: .lp (cL (cL (cL (cR (cL (cL (cL (cL (cR (cR (cR (cR (cR (cR (cR (cR (cR Ffbp_c))))))))))))))))) :: .blk 8 :: K) ⟨mkTm .dead 178 [(0, .hs 1 0 [] 4 0 ((x46.2.2).map enc_Event).length), (1, I (a_10)), (4, .fn 52 []), (12, I (u52)), (13, I (x53))], mkS (rtL [⟨0, 4, (x46.2.2).map enc_Event⟩] 1), 2⟩ := by
 refine fix_ind (P := fun (x53 : Int) (y : (Int × Bool × (List Event)) ⊕ Int) => (∀ r', y = .inl r' → ∀ st, Ffbp_Q (data_9, a_10, b_11, pivot_12, cmp_13) r' st → Q st) → (∀ u : Int, y = .inr u → Run Ffbp_E 1 Q K ⟨mkTm .dead 178 [(0, .hs 1 0 [] 4 0 ((x46.2.2).map enc_Event).length), (1, I (a_10)), (4, .fn 52 []), (12, I (u52)), (13, I (u))], mkS (rtL [⟨0, 4, (x46.2.2).map enc_Event⟩] 1), 2⟩) → Run Ffbp_E 1 Q (.code (cL (cL (cL (cR (cL (cL (cL (cL (cR (cR (cR (cR (cR (cR (cR (cR (cR Ffbp_c))))))))))))))))) :: .lp (cL (cL (cL (cR (cL (cL (cL (cL (cR (cR (cR (cR (cR (cR (cR (cR (cR Ffbp_c))))))))))))))))) :: .blk 8 :: K) ⟨mkTm .dead 178 [(0, .hs 1 0 [] 4 0 ((x46.2.2).map enc_Event).length), (1, I (a_10)), (4, .fn 52 []), (12, I (u52)), (13, I (x53))], mkS (rtL [⟨0, 4, (x46.2.2).map enc_Event⟩] 1), 2⟩) (Ffbp_le_fin data_9 a_10 b_11 pivot_12 cmp_13 u52 x46) ?_ h
 clear h y x53
 intro self ih x53 y h hr hn
 unfold Ffbp_le_F at h
 refine ad 2 rfl ?_
 refine s_draw [0, 0, 3, 7, 15, 15, 15, 111, 239, 15, 15, 1551, 3599, 8191, 16383, 32767, 65535] rfl (by decide +kernel) ?_
 refine dp [] [] (I (u52)) rfl (e_move rfl) rfl (rfl) (by decide) ?_
 refine dp [] [] (I (x53)) rfl (e_move rfl) rfl (rfl) (by decide) ?_
 refine dp [] [] (B ((decide (u52 ≤ x53)))) rfl (e_bin rfl rfl rfl) rfl (rfl) (by decide) ?_
 refine dp [] [] (B ((decide (u52 ≤ x53)))) rfl (e_move rfl) rfl (rfl) (by decide) ?_
 obtain ⟨y54, hy54, hy541, hy542⟩ := bL h
 have j54 : ∀ u54, y54 = .inr u54 → Run Ffbp_E 1 Q (.code (cR (cL (cL (cL (cL (cR (cL (cL (cL (cL (cR (cR (cR (cR (cR (cR (cR (cR (cR Ffbp_c))))))))))))))))))) :: .code (cR (cL (cL (cL (cR (cL (cL (cL (cL (cR (cR (cR (cR (cR (cR (cR (cR (cR Ffbp_c)))))))))))))))))) :: .lp (cL (cL (cL (cR (cL (cL (cL (cL (cR (cR (cR (cR (cR (cR (cR (cR (cR Ffbp_c))))))))))))))))) :: .blk 8 :: K) ⟨mkTm .dead 178 [(0, .hs 1 0 [] 4 0 ((x46.2.2).map enc_Event).length), (1, I (a_10)), (4, .fn 52 []), (12, I (u52)), (13, I (x53)), (139, B (u54))], mkS (rtL [⟨0, 4, (x46.2.2).map enc_Event⟩] 1), 2⟩ := by
   intro u54 hu
   replace h := hy542 u54 hu
   refine sc h rfl rfl (fun h => ?_) (fun h => ?_)
   · refine ad 1 rfl ?_
     refine c0 7 [13] [I ((w64 (x53 - 1)))] 50 (by kernel_rfl) ?_
     refine s_lp ?_
     refine run_forget [0, 1, 4, 12, 13] [1] [⟨0, 4, (x46.2.2).map enc_Event⟩] rfl rfl rfl rfl ?_
     exact ih _ _ h hr hn
   · refine ad 1 rfl ?_
     refine run_forget [0, 1, 4, 12, 13] [1] [⟨0, 4, (x46.2.2).map enc_Event⟩] rfl rfl rfl hK ?_
     exact hn _ (Option.some.inj h).symm
 have r54 : ∀ r', y54 = .inl r' → ∀ st, Ffbp_Q (data_9, a_10, b_11, pivot_12, cmp_13) r' st → Q st := fun r' e st hq => hr r' (hy541 r' e) st hq
 replace h := hy54
 refine sp 126 h rfl (fun h => ?_) (fun h => ?_)
 · refine dg [] [] (.fn 52 []) rfl rfl rfl (e_move rfl) rfl (rfl) (by decide) ?_
   refine dg [] [] (.hs 1 0 [] 4 0 ((x46.2.2).map enc_Event).length) rfl rfl rfl (e_move rfl) rfl (rfl) (by decide) ?_
   refine dg [] [] (I (x53)) rfl rfl rfl (e_move rfl) rfl (rfl) (by decide) ?_
   obtain ⟨e55, he55, h⟩ := bS h
   refine dg [1] [] (.hp 1 0 [] 4 (0 + Int.toNat (x53)) 0) rfl rfl rfl (e_indexAddr rfl rfl rfl (ix_hsM (f := enc_Event) (xs := x46.2.2) rfl rfl rfl he55)) rfl (rfl) (by decide) ?_
   refine dg [1] [] (enc_Event e55) rfl rfl rfl (e_ld rfl (ld_at (path := []) rfl rfl rfl (ra_n) (get_map (f := enc_Event) (xs := x46.2.2) he55) rfl rfl rfl)) rfl (rfl) (by decide) ?_
   refine dg [] [] (.hs 1 0 [] 4 0 ((x46.2.2).map enc_Event).length) rfl rfl rfl (e_move rfl) rfl (rfl) (by decide) ?_
   refine dg [] [] (I (a_10)) rfl rfl rfl (e_move rfl) rfl (rfl) (by decide) ?_
   obtain ⟨e56, he56, h⟩ := bS h
   refine dg [1] [] (.hp 1 0 [] 4 (0 + Int.toNat (a_10)) 0) rfl rfl rfl (e_indexAddr rfl rfl rfl (ix_hsM (f := enc_Event) (xs := x46.2.2) rfl rfl rfl he56)) rfl (rfl) (by decide) ?_
   refine dg [1] [] (enc_Event e56) rfl rfl rfl (e_ld rfl (ld_at (path := []) rfl rfl rfl (ra_n) (get_map (f := enc_Event) (xs := x46.2.2) he56) rfl rfl rfl)) rfl (rfl) (by decide) ?_
   obtain ⟨r57, hr57, h⟩ := bS h
   refine dg [] [] (I (r57)) rfl rfl rfl (e_callV rfl rfl (call_P rfl rfl rfl (avS (shP rfl) (avS (shP rfl) (avN))) (Fff_F hr57) (.inr rfl) (bl_n) rfl rfl rfl)) rfl (w_callO rfl rfl rfl rfl (avS (shP rfl) (avS (shP rfl) (avN))) (Fff_F hr57) (.inr rfl) rfl) (by decide) ?_
   refine dg [] [] (B ((decide (r57 < 0)))) rfl rfl rfl (e_bin rfl rfl rfl) rfl (rfl) (by decide) ?_
   refine dg [] [] (B ((!(decide (r57 < 0))))) rfl rfl rfl (e_un rfl rfl) rfl (rfl) (by decide) ?_
   refine dp [] [] (B ((!(decide (r57 < 0))))) rfl (e_pickT rfl rfl) rfl (rfl) (by decide) ?_
   refine de 274 rfl rfl ?_
   refine run_forget [0, 1, 4, 12, 13, 139] [1] [⟨0, 4, (x46.2.2).map enc_Event⟩] rfl rfl rfl rfl ?_
   exact j54 _ (Option.some.inj h).symm
 · refine ds rfl rfl rfl (by decide) ?_
   refine ds rfl rfl rfl (by decide) ?_
   refine ds rfl rfl rfl (by decide) ?_
   refine ds rfl rfl rfl (by decide) ?_
   refine ds rfl rfl rfl (by decide) ?_
   refine ds rfl rfl rfl (by decide) ?_
   refine ds rfl rfl rfl (by decide) ?_
   refine ds rfl rfl rfl (by decide) ?_
   refine ds rfl rfl rfl (by decide) ?_
   refine ds rfl rfl rfl (by decide) ?_
   refine ds rfl rfl rfl (by decide) ?_
   refine ds rfl rfl rfl (by decide) ?_
   refine dp [] [] (B (false)) rfl (e_pickF rfl rfl) rfl (rfl) (by decide) ?_
   refine de 274 rfl rfl ?_
   refine run_forget [0, 1, 4, 12, 13, 139] [1] [⟨0, 4, (x46.2.2).map enc_Event⟩] rfl rfl rfl rfl ?_
   exact j54 _ (Option.some.inj h).symm
theorem Ffbp_lc_run (data_9 : List Event) (a_10 : Int) (b_11 : Int) (pivot_12 : Int) (cmp_13 : Unit)  {Q : St → Prop} {K : List It} (hK : noD K = true) {x46 : Int × Int × (List Event)} {y : (Int × Bool × (List Event)) ⊕ (Int × (List Event))} (h : Ffbp_lc data_9 a_10 b_11 pivot_12 cmp_13 x46 = some y) : (∀ r', y = .inl r' → ∀ st, Ffbp_Q (data_9, a_10, b_11, pivot_12, cmp_13) r' st → Q st) → (∀ u : Int × (List Event), y = .inr u → Run Ffbp_E 1 Q K ⟨mkTm .dead 178 [(0, .hs 1 0 [] 4 0 ((u.2).map enc_Event).length), (1, I (a_10)), (13, I (u.1))], mkS (rtL [⟨0, 4, (u.2).map enc_Event⟩] 1), 2⟩) → Run Ffbp_E 1 Q (.code (cL (cL (cL (cR (cR (cR (cR (cR (cR (cR (cR (cR Ffbp_c)))))))))))) :: .lp (cL (cL (cL (cR (cR (cR (cR (cR (cR (cR (cR (cR Ffbp_c)))))))))))) :: .blk 4 :: K) ⟨mkTm .dead 178 [(0, .hs 1 0 [] 4 0 ((x46.2.2).map enc_Event).length), (1, I (a_10)), (4, .fn 52 []), (12, I (x46.1)), (13, I (x46.2.1))], mkS (rtL [⟨0, 4, (x46.2.2).map enc_Event⟩] 1), 2⟩ := by
 refine fix_ind (P := fun (x46 : Int × Int × (List Event)) (y : (Int × Bool × (List Event)) ⊕ (Int × (List Event))) => (∀ r', y = .inl r' → ∀ st, Ffbp_Q (data_9, a_10, b_11, pivot_12, cmp_13) r' st → Q st) → (∀ u : Int × (List Event), y = .inr u → Run Ffbp_E 1 Q K ⟨mkTm .dead 178 [(0, .hs 1 0 [] 4 0 ((u.2).map enc_Event).length), (1, I (a_10)), (13, I (u.1))], mkS (rtL [⟨0, 4, (u.2).map enc_Event⟩] 1), 2⟩) → Run Ffbp_E 1 Q (.code (cL (cL (cL (cR (cR (cR (cR (cR (cR (cR (cR (cR Ffbp_c)))))))))))) :: .lp (cL (cL (cL (cR (cR (cR (cR (cR (cR (cR (cR (cR Ffbp_c)))))))))))) :: .blk 4 :: K) ⟨mkTm .dead 178 [(0, .hs 1 0 [] 4 0 ((x46.2.2).map enc_Event).length), (1, I (a_10)), (4, .fn 52 []), (12, I (x46.1)), (13, I (x46.2.1))], mkS (rtL [⟨0, 4, (x46.2.2).map enc_Event⟩] 1), 2⟩) (Ffbp_lc_fin data_9 a_10 b_11 pivot_12 cmp_13) ?_ h
 clear h y x46
 intro self ih x46 y h hr hn
 unfold Ffbp_lc_F at h
 refine ad 3 rfl ?_
 obtain ⟨y52, hy52, hy521, hy522⟩ := bL h
 refine s_loop rfl ?_
 refine run_forget [0, 1, 4, 12, 13] [1] [⟨0, 4, (x46.2.2).map enc_Event⟩] rfl rfl rfl rfl ?_
 refine Ffbp_ld_run data_9 a_10 b_11 pivot_12 cmp_13 x46 rfl hy52 (fun r' e st hq => hr r' (hy521 r' e) st hq) (fun u52 hu => ?_)
 replace h := hy522 u52 hu
 refine ad 2 rfl ?_
 obtain ⟨y58, hy58, hy581, hy582⟩ := bL h
 refine s_loop rfl ?_
 refine run_forget [0, 1, 4, 12, 13] [1] [⟨0, 4, (x46.2.2).map enc_Event⟩] rfl rfl rfl rfl ?_
 refine Ffbp_le_run data_9 a_10 b_11 pivot_12 cmp_13 u52 x46 rfl hy58 (fun r' e st hq => hr r' (hy581 r' e) st hq) (fun u58 hu => ?_)
 replace h := hy582 u58 hu
 refine c0 7 [144] [B ((decide (u52 > u58)))] 50 (by kernel_rfl) ?_
 refine sc h rfl rfl (fun h => ?_) (fun h => ?_)
 · refine ad 1 rfl ?_
   refine run_forget [0, 1, 13] [1] [⟨0, 4, (x46.2.2).map enc_Event⟩] rfl rfl rfl hK ?_
   exact hn _ (Option.some.inj h).symm
 · refine ad 1 rfl ?_
   refine ad 1 rfl ?_
   refine s_draw [0, 0, 0, 0, 0, 0, 48, 112, 0, 0, 768, 1792, 4083, 8179, 16383, 32767] rfl (by decide +kernel) ?_
   refine dp [] [] (.hs 1 0 [] 4 0 ((x46.2.2).map enc_Event).length) rfl (e_move rfl) rfl (rfl) (by decide) ?_
   refine dp [] [] (I (u52)) rfl (e_move rfl) rfl (rfl) (by decide) ?_
   refine dp [] [] (.hs 1 0 [] 4 0 ((x46.2.2).map enc_Event).length) rfl (e_move rfl) rfl (rfl) (by decide) ?_
   refine dp [] [] (I (u58)) rfl (e_move rfl) rfl (rfl) (by decide) ?_
   refine dp [] [] (.hs 1 0 [] 4 0 ((x46.2.2).map enc_Event).length) rfl (e_move rfl) rfl (rfl) (by decide) ?_
   refine dp [] [] (I (u58)) rfl (e_move rfl) rfl (rfl) (by decide) ?_
   obtain ⟨e59, he59, h⟩ := bS h
   refine dp [1] [] (.hp 1 0 [] 4 (0 + Int.toNat (u58)) 0) rfl (e_indexAddr rfl rfl rfl (ix_hsM (f := enc_Event) (xs := x46.2.2) rfl rfl rfl he59)) rfl (rfl) (by decide) ?_
   refine dp [1] [] (enc_Event e59) rfl (e_ld rfl (ld_at (path := []) rfl rfl rfl (ra_n) (get_map (f := enc_Event) (xs := x46.2.2) he59) rfl rfl rfl)) rfl (rfl) (by decide) ?_
   refine dp [] [] (.hs 1 0 [] 4 0 ((x46.2.2).map enc_Event).length) rfl (e_move rfl) rfl (rfl) (by decide) ?_
   refine dp [] [] (I (u52)) rfl (e_move rfl) rfl (rfl) (by decide) ?_
   obtain ⟨e60, he60, h⟩ := bS h
   refine dp [1] [] (.hp 1 0 [] 4 (0 + Int.toNat (u52)) 0) rfl (e_indexAddr rfl rfl rfl (ix_hsM (f := enc_Event) (xs := x46.2.2) rfl rfl rfl he60)) rfl (rfl) (by decide) ?_
   refine dp [1] [] (enc_Event e60) rfl (e_ld rfl (ld_at (path := []) rfl rfl rfl (ra_n) (get_map (f := enc_Event) (xs := x46.2.2) he60) rfl rfl rfl)) rfl (rfl) (by decide) ?_
   obtain ⟨e61, he61, h⟩ := bS h
   refine dp [1] [] (.hp 1 0 [] 4 (0 + Int.toNat (u52)) 0) rfl (e_indexAddr rfl rfl rfl (ix_hsM (f := enc_Event) (xs := x46.2.2) rfl rfl rfl he61)) rfl (rfl) (by decide) ?_
   obtain ⟨w62, hw62⟩ : ∃ w, getI (setI x46.2.2 u52 e59) u58 = some w := get_exI he59
   obtain ⟨w63, hw63⟩ : ∃ w, getI (setI x46.2.2 u52 e59) u52 = some w := get_exI he60
   refine dp0 [1] [1] rfl (e_st rfl rfl (st_at (path := []) (pl := true) (e' := enc_Event e59) (es2' := ((setI x46.2.2 u52 e59)).map enc_Event) rfl (absorb_plain rfl) rfl rfl rfl (ra_n) (get_map (f := enc_Event) (xs := x46.2.2) he61) rfl rfl rfl (set_map (f := enc_Event) (xs := x46.2.2) (y := e59)) (sr_n) 0 rfl)) rfl (rfl) (by decide) ?_
   try rw [← len_setM (f := enc_Event) (xs := x46.2.2) (i := u52) (z := e59)]
   obtain ⟨e64, he64, h⟩ := bS h
   refine dp [1] [] (.hp 1 0 [] 4 (0 + Int.toNat (u58)) 0) rfl (e_indexAddr rfl rfl rfl (ix_hsM (f := enc_Event) (xs := (setI x46.2.2 u52 e59)) rfl rfl rfl he64)) rfl (rfl) (by decide) ?_
   obtain ⟨w65, hw65⟩ : ∃ w, getI (setI (setI x46.2.2 u52 e59) u58 e60) u58 = some w := get_exI hw62
   obtain ⟨w66, hw66⟩ : ∃ w, getI (setI (setI x46.2.2 u52 e59) u58 e60) u52 = some w := get_exI hw63
   obtain ⟨w67, hw67⟩ : ∃ w, getI (setI (setI x46.2.2 u52 e59) u58 e60) u52 = some w := get_exI (get_set he61)
   refine dp0 [1] [1] rfl (e_st rfl rfl (st_at (path := []) (pl := true) (e' := enc_Event e60) (es2' := ((setI (setI x46.2.2 u52 e59) u58 e60)).map enc_Event) rfl (absorb_plain rfl) rfl rfl rfl (ra_n) (get_map (f := enc_Event) (xs := (setI x46.2.2 u52 e59)) he64) rfl rfl rfl (set_map (f := enc_Event) (xs := (setI x46.2.2 u52 e59)) (y := e60)) (sr_n) 0 rfl)) rfl (rfl) (by decide) ?_
   try rw [← len_setM (f := enc_Event) (xs := (setI x46.2.2 u52 e59)) (i := u58) (z := e60)]
   refine de 306 rfl rfl ?_
   refine c0 12 [12, 13] [I ((w64 (u52 + 1))), I ((w64 (u58 - 1)))] 402 (by kernel_rfl) ?_
   refine s_lp ?_
   refine run_forget [0, 1, 4, 12, 13] [1] [⟨0, 4, ((setI (setI x46.2.2 u52 e59) u58 e60)).map enc_Event⟩] rfl rfl rfl rfl ?_
   exact ih _ _ h hr hn
theorem Ffbp_run (data_9 : List Event) (a_10 : Int) (b_11 : Int) (pivot_12 : Int) (cmp_13 : Unit) (r : Int × Bool × (List Event)) (h : Ffbp data_9 a_10 b_11 pivot_12 cmp_13 = some r) : RunF Ffbp_E Tryd.f122 [true, false, false, false, false] 1 (Ffbp_A (data_9, a_10, b_11, pivot_12, cmp_13)) (Ffbp_R r) := by
 show Run _ _ (Ffbp_Q (data_9, a_10, b_11, pivot_12, cmp_13) r) [.code Ffbp_c] _
 refine rin (n := 178) [(0, .hs 1 0 [] 4 0 ((data_9).map enc_Event).length), (1, I (a_10)), (2, I (b_11)), (3, I (pivot_12)), (4, .fn 52 [])] [(1, some ⟨0, 4, (data_9).map enc_Event⟩)] 2 (by kernel_rfl) (by kernel_rfl) (by kernel_rfl) rfl ?_
 unfold Ffbp at h
 refine c0 6 [] [] 34 (by kernel_rfl) ?_
 refine s_draw [0, 0, 0, 0, 0, 0, 48, 112, 0, 0, 768, 1792, 4083, 8179, 16383, 32767] rfl (by decide +kernel) ?_
 refine dp [] [] (.hs 1 0 [] 4 0 ((data_9).map enc_Event).length) rfl (e_move rfl) rfl (rfl) (by decide) ?_
 refine dp [] [] (I (a_10)) rfl (e_move rfl) rfl (rfl) (by decide) ?_
 refine dp [] [] (.hs 1 0 [] 4 0 ((data_9).map enc_Event).length) rfl (e_move rfl) rfl (rfl) (by decide) ?_
 refine dp [] [] (I (pivot_12)) rfl (e_move rfl) rfl (rfl) (by decide) ?_
 refine dp [] [] (.hs 1 0 [] 4 0 ((data_9).map enc_Event).length) rfl (e_move rfl) rfl (rfl) (by decide) ?_
 refine dp [] [] (I (pivot_12)) rfl (e_move rfl) rfl (rfl) (by decide) ?_
 obtain ⟨e6, he6, h⟩ := bS h
 refine dp [1] [] (.hp 1 0 [] 4 (0 + Int.toNat (pivot_12)) 0) rfl (e_indexAddr rfl rfl rfl (ix_hsM (f := enc_Event) (xs := data_9) rfl rfl rfl he6)) rfl (rfl) (by decide) ?_
 refine dp [1] [] (enc_Event e6) rfl (e_ld rfl (ld_at (path := []) rfl rfl rfl (ra_n) (get_map (f := enc_Event) (xs := data_9) he6) rfl rfl rfl)) rfl (rfl) (by decide) ?_
 refine dp [] [] (.hs 1 0 [] 4 0 ((data_9).map enc_Event).length) rfl (e_move rfl) rfl (rfl) (by decide) ?_
 refine dp [] [] (I (a_10)) rfl (e_move rfl) rfl (rfl) (by decide) ?_
 obtain ⟨e7, he7, h⟩ := bS h
 refine dp [1] [] (.hp 1 0 [] 4 (0 + Int.toNat (a_10)) 0) rfl (e_indexAddr rfl rfl rfl (ix_hsM (f := enc_Event) (xs := data_9) rfl rfl rfl he7)) rfl (rfl) (by decide) ?_
 refine dp [1] [] (enc_Event e7) rfl (e_ld rfl (ld_at (path := []) rfl rfl rfl (ra_n) (get_map (f := enc_Event) (xs := data_9) he7) rfl rfl rfl)) rfl (rfl) (by decide) ?_
 obtain ⟨e8, he8, h⟩ := bS h
 refine dp [1] [] (.hp 1 0 [] 4 (0 + Int.toNat (a_10)) 0) rfl (e_indexAddr rfl rfl rfl (ix_hsM (f := enc_Event) (xs := data_9) rfl rfl rfl he8)) rfl (rfl) (by decide) ?_
 obtain ⟨w9, hw9⟩ : ∃ w, getI (setI data_9 a_10 e6) pivot_12 = some w := get_exI he6
 obtain ⟨w10, hw10⟩ : ∃ w, getI (setI data_9 a_10 e6) a_10 = some w := get_exI he7
 refine dp0 [1] [1] rfl (e_st rfl rfl (st_at (path := []) (pl := true) (e' := enc_Event e6) (es2' := ((setI data_9 a_10 e6)).map enc_Event) rfl (absorb_plain rfl) rfl rfl rfl (ra_n) (get_map (f := enc_Event) (xs := data_9) he8) rfl rfl rfl (set_map (f := enc_Event) (xs := data_9) (y := e6)) (sr_n) 0 rfl)) rfl (rfl) (by decide) ?_
 try rw [← len_setM (f := enc_Event) (xs := data_9) (i := a_10) (z := e6)]
 obtain ⟨e11, he11, h⟩ := bS h
 refine dp [1] [] (.hp 1 0 [] 4 (0 + Int.toNat (pivot_12)) 0) rfl (e_indexAddr rfl rfl rfl (ix_hsM (f := enc_Event) (xs := (setI data_9 a_10 e6)) rfl rfl rfl he11)) rfl (rfl) (by decide) ?_
 obtain ⟨w12, hw12⟩ : ∃ w, getI (setI (setI data_9 a_10 e6) pivot_12 e7) pivot_12 = some w := get_exI hw9
 obtain ⟨w13, hw13⟩ : ∃ w, getI (setI (setI data_9 a_10 e6) pivot_12 e7) a_10 = some w := get_exI hw10
 obtain ⟨w14, hw14⟩ : ∃ w, getI (setI (setI data_9 a_10 e6) pivot_12 e7) a_10 = some w := get_exI (get_set he8)
 refine dp0 [1] [1] rfl (e_st rfl rfl (st_at (path := []) (pl := true) (e' := enc_Event e7) (es2' := ((setI (setI data_9 a_10 e6) pivot_12 e7)).map enc_Event) rfl (absorb_plain rfl) rfl rfl rfl (ra_n) (get_map (f := enc_Event) (xs := (setI data_9 a_10 e6)) he11) rfl rfl rfl (set_map (f := enc_Event) (xs := (setI data_9 a_10 e6)) (y := e7)) (sr_n) 0 rfl)) rfl (rfl) (by decide) ?_
 try rw [← len_setM (f := enc_Event) (xs := (setI data_9 a_10 e6)) (i := pivot_12) (z := e7)]
 refine de 290 rfl rfl ?_
 refine c0 11 [12, 13] [I ((w64 (a_10 + 1))), I ((w64 (b_11 - 1)))] 386 (by kernel_rfl) ?_
 obtain ⟨y20, hy20, hy201, hy202⟩ := bJ h
 refine s_loop rfl ?_
 refine run_forget [0, 1, 4, 12, 13] [1] [⟨0, 4, ((setI (setI data_9 a_10 e6) pivot_12 e7)).map enc_Event⟩] rfl rfl rfl rfl ?_
 refine Ffbp_la_run data_9 a_10 b_11 pivot_12 cmp_13 e6 e7 rfl hy20 (fun r' e st hq => by rw [hy201 r' e] at hq; exact hq) (fun u20 hu => ?_)
 replace h := hy202 u20 hu
 refine ad 2 rfl ?_
 obtain ⟨y26, hy26, hy261, hy262⟩ := bJ h
 refine s_loop rfl ?_
 refine run_forget [0, 1, 4, 12, 13] [1] [⟨0, 4, ((setI (setI data_9 a_10 e6) pivot_12 e7)).map enc_Event⟩] rfl rfl rfl rfl ?_
 refine Ffbp_lb_run data_9 a_10 b_11 pivot_12 cmp_13 u20 e6 e7 rfl hy26 (fun r' e st hq => by rw [hy261 r' e] at hq; exact hq) (fun u26 hu => ?_)
 replace h := hy262 u26 hu
 refine c0 7 [71] [B ((decide (u20.1 > u26)))] 50 (by kernel_rfl) ?_
 refine sc h rfl rfl (fun h => ?_) (fun h => ?_)
 · refine ad 1 rfl ?_
   refine s_draw [0, 0, 0, 0, 0, 0, 48, 112, 0, 0, 768, 1792, 4083, 8179, 16383, 32767] rfl (by decide +kernel) ?_
   refine dp [] [] (.hs 1 0 [] 4 0 (((setI (setI data_9 a_10 e6) pivot_12 e7)).map enc_Event).length) rfl (e_move rfl) rfl (rfl) (by decide) ?_
   refine dp [] [] (I (u26)) rfl (e_move rfl) rfl (rfl) (by decide) ?_
   refine dp [] [] (.hs 1 0 [] 4 0 (((setI (setI data_9 a_10 e6) pivot_12 e7)).map enc_Event).length) rfl (e_move rfl) rfl (rfl) (by decide) ?_
   refine dp [] [] (I (a_10)) rfl (e_move rfl) rfl (rfl) (by decide) ?_
   refine dp [] [] (.hs 1 0 [] 4 0 (((setI (setI data_9 a_10 e6) pivot_12 e7)).map enc_Event).length) rfl (e_move rfl) rfl (rfl) (by decide) ?_
   refine dp [] [] (I (a_10)) rfl (e_move rfl) rfl (rfl) (by decide) ?_
   obtain ⟨e27, he27, h⟩ := bS h
   refine dp [1] [] (.hp 1 0 [] 4 (0 + Int.toNat (a_10)) 0) rfl (e_indexAddr rfl rfl rfl (ix_hsM (f := enc_Event) (xs := (setI (setI data_9 a_10 e6) pivot_12 e7)) rfl rfl rfl he27)) rfl (rfl) (by decide) ?_
   refine dp [1] [] (enc_Event e27) rfl (e_ld rfl (ld_at (path := []) rfl rfl rfl (ra_n) (get_map (f := enc_Event) (xs := (setI (setI data_9 a_10 e6) pivot_12 e7)) he27) rfl rfl rfl)) rfl (rfl) (by decide) ?_
   refine dp [] [] (.hs 1 0 [] 4 0 (((setI (setI data_9 a_10 e6) pivot_12 e7)).map enc_Event).length) rfl (e_move rfl) rfl (rfl) (by decide) ?_
   refine dp [] [] (I (u26)) rfl (e_move rfl) rfl (rfl) (by decide) ?_
   obtain ⟨e28, he28, h⟩ := bS h
   refine dp [1] [] (.hp 1 0 [] 4 (0 + Int.toNat (u26)) 0) rfl (e_indexAddr rfl rfl rfl (ix_hsM (f := enc_Event) (xs := (setI (setI data_9 a_10 e6) pivot_12 e7)) rfl rfl rfl he28)) rfl (rfl) (by decide) ?_
   refine dp [1] [] (enc_Event e28) rfl (e_ld rfl (ld_at (path := []) rfl rfl rfl (ra_n) (get_map (f := enc_Event) (xs := (setI (setI data_9 a_10 e6) pivot_12 e7)) he28) rfl rfl rfl)) rfl (rfl) (by decide) ?_
   obtain ⟨e29, he29, h⟩ := bS h
   refine dp [1] [] (.hp 1 0 [] 4 (0 + Int.toNat (u26)) 0) rfl (e_indexAddr rfl rfl rfl (ix_hsM (f := enc_Event) (xs := (setI (setI data_9 a_10 e6) pivot_12 e7)) rfl rfl rfl he29)) rfl (rfl) (by decide) ?_
   obtain ⟨w30, hw30⟩ : ∃ w, getI (setI (setI (setI data_9 a_10 e6) pivot_12 e7) u26 e27) a_10 = some w := get_exI he27
   obtain ⟨w31, hw31⟩ : ∃ w, getI (setI (setI (setI data_9 a_10 e6) pivot_12 e7) u26 e27) u26 = some w := get_exI he28
   refine dp0 [1] [1] rfl (e_st rfl rfl (st_at (path := []) (pl := true) (e' := enc_Event e27) (es2' := ((setI (setI (setI data_9 a_10 e6) pivot_12 e7) u26 e27)).map enc_Event) rfl (absorb_plain rfl) rfl rfl rfl (ra_n) (get_map (f := enc_Event) (xs := (setI (setI data_9 a_10 e6) pivot_12 e7)) he29) rfl rfl rfl (set_map (f := enc_Event) (xs := (setI (setI data_9 a_10 e6) pivot_12 e7)) (y := e27)) (sr_n) 0 rfl)) rfl (rfl) (by decide) ?_
   try rw [← len_setM (f := enc_Event) (xs := (setI (setI data_9 a_10 e6) pivot_12 e7)) (i := u26) (z := e27)]
   obtain ⟨e32, he32, h⟩ := bS h
   refine dp [1] [] (.hp 1 0 [] 4 (0 + Int.toNat (a_10)) 0) rfl (e_indexAddr rfl rfl rfl (ix_hsM (f := enc_Event) (xs := (setI (setI (setI data_9 a_10 e6) pivot_12 e7) u26 e27)) rfl rfl rfl he32)) rfl (rfl) (by decide) ?_
   obtain ⟨w33, hw33⟩ : ∃ w, getI (setI (setI (setI (setI data_9 a_10 e6) pivot_12 e7) u26 e27) a_10 e28) a_10 = some w := get_exI hw30
   obtain ⟨w34, hw34⟩ : ∃ w, getI (setI (setI (setI (setI data_9 a_10 e6) pivot_12 e7) u26 e27) a_10 e28) u26 = some w := get_exI hw31
   obtain ⟨w35, hw35⟩ : ∃ w, getI (setI (setI (setI (setI data_9 a_10 e6) pivot_12 e7) u26 e27) a_10 e28) u26 = some w := get_exI (get_set he29)
   refine dp0 [1] [1] rfl (e_st rfl rfl (st_at (path := []) (pl := true) (e' := enc_Event e28) (es2' := ((setI (setI (setI (setI data_9 a_10 e6) pivot_12 e7) u26 e27) a_10 e28)).map enc_Event) rfl (absorb_plain rfl) rfl rfl rfl (ra_n) (get_map (f := enc_Event) (xs := (setI (setI (setI data_9 a_10 e6) pivot_12 e7) u26 e27)) he32) rfl rfl rfl (set_map (f := enc_Event) (xs := (setI (setI (setI data_9 a_10 e6) pivot_12 e7) u26 e27)) (y := e28)) (sr_n) 0 rfl)) rfl (rfl) (by decide) ?_
   try rw [← len_setM (f := enc_Event) (xs := (setI (setI (setI data_9 a_10 e6) pivot_12 e7) u26 e27)) (i := a_10) (z := e28)]
   refine de 306 rfl rfl ?_
   refine c0 6 [10, 11] [I (u26), B (true)] 354 (by kernel_rfl) ?_
   obtain ⟨g36, h⟩ := gG h
   obtain rfl := Option.some.inj h
   exact s_ret rfl ⟨_, fin (vs := [I (u26), B (true)]) rfl (absE (absorb_plain rfl) (absE (absorb_plain rfl) (absEN))) rfl (ou_1 rfl (oc_hsG (f := enc_Event) (xs := (setI (setI (setI (setI data_9 a_10 e6) pivot_12 e7) u26 e27) a_10 e28)) (by simpa using g36) rfl) (ou_f (ou_f (ou_f (ou_f (ou_n)))))), kl_c (kl_n)⟩
 · refine ad 1 rfl ?_
   refine ad 1 rfl ?_
   refine s_draw [0, 0, 0, 0, 0, 0, 48, 112, 0, 0, 768, 1792, 4083, 8179, 16383, 32767] rfl (by decide +kernel) ?_
   refine dp [] [] (.hs 1 0 [] 4 0 (((setI (setI data_9 a_10 e6) pivot_12 e7)).map enc_Event).length) rfl (e_move rfl) rfl (rfl) (by decide) ?_
   refine dp [] [] (I (u20.1)) rfl (e_move rfl) rfl (rfl) (by decide) ?_
   refine dp [] [] (.hs 1 0 [] 4 0 (((setI (setI data_9 a_10 e6) pivot_12 e7)).map enc_Event).length) rfl (e_move rfl) rfl (rfl) (by decide) ?_
   refine dp [] [] (I (u26)) rfl (e_move rfl) rfl (rfl) (by decide) ?_
   refine dp [] [] (.hs 1 0 [] 4 0 (((setI (setI data_9 a_10 e6) pivot_12 e7)).map enc_Event).length) rfl (e_move rfl) rfl (rfl) (by decide) ?_
   refine dp [] [] (I (u26)) rfl (e_move rfl) rfl (rfl) (by decide) ?_
   obtain ⟨e37, he37, h⟩ := bS h
   refine dp [1] [] (.hp 1 0 [] 4 (0 + Int.toNat (u26)) 0) rfl (e_indexAddr rfl rfl rfl (ix_hsM (f := enc_Event) (xs := (setI (setI data_9 a_10 e6) pivot_12 e7)) rfl rfl rfl he37)) rfl (rfl) (by decide) ?_
   refine dp [1] [] (enc_Event e37) rfl (e_ld rfl (ld_at (path := []) rfl rfl rfl (ra_n) (get_map (f := enc_Event) (xs := (setI (setI data_9 a_10 e6) pivot_12 e7)) he37) rfl rfl rfl)) rfl (rfl) (by decide) ?_
   refine dp [] [] (.hs 1 0 [] 4 0 (((setI (setI data_9 a_10 e6) pivot_12 e7)).map enc_Event).length) rfl (e_move rfl) rfl (rfl) (by decide) ?_
   refine dp [] [] (I (u20.1)) rfl (e_move rfl) rfl (rfl) (by decide) ?_
   obtain ⟨e38, he38, h⟩ := bS h
   refine dp [1] [] (.hp 1 0 [] 4 (0 + Int.toNat (u20.1)) 0) rfl (e_indexAddr rfl rfl rfl (ix_hsM (f := enc_Event) (xs := (setI (setI data_9 a_10 e6) pivot_12 e7)) rfl rfl rfl he38)) rfl (rfl) (by decide) ?_
   refine dp [1] [] (enc_Event e38) rfl (e_ld rfl (ld_at (path := []) rfl rfl rfl (ra_n) (get_map (f := enc_Event) (xs := (setI (setI data_9 a_10 e6) pivot_12 e7)) he38) rfl rfl rfl)) rfl (rfl) (by decide) ?_
   obtain ⟨e39, he39, h⟩ := bS h
   refine dp [1] [] (.hp 1 0 [] 4 (0 + Int.toNat (u20.1)) 0) rfl (e_indexAddr rfl rfl rfl (ix_hsM (f := enc_Event) (xs := (setI (setI data_9 a_10 e6) pivot_12 e7)) rfl rfl rfl he39)) rfl (rfl) (by decide) ?_
   obtain ⟨w40, hw40⟩ : ∃ w, getI (setI (setI (setI data_9 a_10 e6) pivot_12 e7) u20.1 e37) u26 = some w := get_exI he37
   obtain ⟨w41, hw41⟩ : ∃ w, getI (setI (setI (setI data_9 a_10 e6) pivot_12 e7) u20.1 e37) u20.1 = some w := get_exI he38
   refine dp0 [1] [1] rfl (e_st rfl rfl (st_at (path := []) (pl := true) (e' := enc_Event e37) (es2' := ((setI (setI (setI data_9 a_10 e6) pivot_12 e7) u20.1 e37)).map enc_Event) rfl (absorb_plain rfl) rfl rfl rfl (ra_n) (get_map (f := enc_Event) (xs := (setI (setI data_9 a_10 e6) pivot_12 e7)) he39) rfl rfl rfl (set_map (f := enc_Event) (xs := (setI (setI data_9 a_10 e6) pivot_12 e7)) (y := e37)) (sr_n) 0 rfl)) rfl (rfl) (by decide) ?_
   try rw [← len_setM (f := enc_Event) (xs := (setI (setI data_9 a_10 e6) pivot_12 e7)) (i := u20.1) (z := e37)]
   obtain ⟨e42, he42, h⟩ := bS h
   refine dp [1] [] (.hp 1 0 [] 4 (0 + Int.toNat (u26)) 0) rfl (e_indexAddr rfl rfl rfl (ix_hsM (f := enc_Event) (xs := (setI (setI (setI data_9 a_10 e6) pivot_12 e7) u20.1 e37)) rfl rfl rfl he42)) rfl (rfl) (by decide) ?_
   obtain ⟨w43, hw43⟩ : ∃ w, getI (setI (setI (setI (setI data_9 a_10 e6) pivot_12 e7) u20.1 e37) u26 e38) u26 = some w := get_exI hw40
   obtain ⟨w44, hw44⟩ : ∃ w, getI (setI (setI (setI (setI data_9 a_10 e6) pivot_12 e7) u20.1 e37) u26 e38) u20.1 = some w := get_exI hw41
   obtain ⟨w45, hw45⟩ : ∃ w, getI (setI (setI (setI (setI data_9 a_10 e6) pivot_12 e7) u20.1 e37) u26 e38) u20.1 = some w := get_exI (get_set he39)
   refine dp0 [1] [1] rfl (e_st rfl rfl (st_at (path := []) (pl := true) (e' := enc_Event e38) (es2' := ((setI (setI (setI (setI data_9 a_10 e6) pivot_12 e7) u20.1 e37) u26 e38)).map enc_Event) rfl (absorb_plain rfl) rfl rfl rfl (ra_n) (get_map (f := enc_Event) (xs := (setI (setI (setI data_9 a_10 e6) pivot_12 e7) u20.1 e37)) he42) rfl rfl rfl (set_map (f := enc_Event) (xs := (setI (setI (setI data_9 a_10 e6) pivot_12 e7) u20.1 e37)) (y := e38)) (sr_n) 0 rfl)) rfl (rfl) (by decide) ?_
   try rw [← len_setM (f := enc_Event) (xs := (setI (setI (setI data_9 a_10 e6) pivot_12 e7) u20.1 e37)) (i := u26) (z := e38)]
   refine de 306 rfl rfl ?_
   refine c0 14 [12, 13] [I ((w64 (u20.1 + 1))), I ((w64 (u26 - 1)))] 402 (by kernel_rfl) ?_
   obtain ⟨y68, hy68, hy681, hy682⟩ := bJ h
   refine s_loop rfl ?_
   refine run_forget [0, 1, 4, 12, 13] [1] [⟨0, 4, ((setI (setI (setI (setI data_9 a_10 e6) pivot_12 e7) u20.1 e37) u26 e38)).map enc_Event⟩] rfl rfl rfl rfl ?_
   refine Ffbp_lc_run data_9 a_10 b_11 pivot_12 cmp_13 rfl hy68 (fun r' e st hq => by rw [hy681 r' e] at hq; exact hq) (fun u68 hu => ?_)
   replace h := hy682 u68 hu
   refine ad 1 rfl ?_
   refine s_draw [0, 0, 0, 0, 0, 0, 48, 112, 0, 0, 768, 1792, 4083, 8179, 16383, 32767] rfl (by decide +kernel) ?_
   refine dp [] [] (.hs 1 0 [] 4 0 ((u68.2).map enc_Event).length) rfl (e_move rfl) rfl (rfl) (by decide) ?_
   refine dp [] [] (I (u68.1)) rfl (e_move rfl) rfl (rfl) (by decide) ?_
   refine dp [] [] (.hs 1 0 [] 4 0 ((u68.2).map enc_Event).length) rfl (e_move rfl) rfl (rfl) (by decide) ?_
   refine dp [] [] (I (a_10)) rfl (e_move rfl) rfl (rfl) (by decide) ?_
   refine dp [] [] (.hs 1 0 [] 4 0 ((u68.2).map enc_Event).length) rfl (e_move rfl) rfl (rfl) (by decide) ?_
   refine dp [] [] (I (a_10)) rfl (e_move rfl) rfl (rfl) (by decide) ?_
   obtain ⟨e69, he69, h⟩ := bS h
   refine dp [1] [] (.hp 1 0 [] 4 (0 + Int.toNat (a_10)) 0) rfl (e_indexAddr rfl rfl rfl (ix_hsM (f := enc_Event) (xs := u68.2) rfl rfl rfl he69)) rfl (rfl) (by decide) ?_
   refine dp [1] [] (enc_Event e69) rfl (e_ld rfl (ld_at (path := []) rfl rfl rfl (ra_n) (get_map (f := enc_Event) (xs := u68.2) he69) rfl rfl rfl)) rfl (rfl) (by decide) ?_
   refine dp [] [] (.hs 1 0 [] 4 0 ((u68.2).map enc_Event).length) rfl (e_move rfl) rfl (rfl) (by decide) ?_
   refine dp [] [] (I (u68.1)) rfl (e_move rfl) rfl (rfl) (by decide) ?_
   obtain ⟨e70, he70, h⟩ := bS h
   refine dp [1] [] (.hp 1 0 [] 4 (0 + Int.toNat (u68.1)) 0) rfl (e_indexAddr rfl rfl rfl (ix_hsM (f := enc_Event) (xs := u68.2) rfl rfl rfl he70)) rfl (rfl) (by decide) ?_
   refine dp [1] [] (enc_Event e70) rfl (e_ld rfl (ld_at (path := []) rfl rfl rfl (ra_n) (get_map (f := enc_Event) (xs := u68.2) he70) rfl rfl rfl)) rfl (rfl) (by decide) ?_
   obtain ⟨e71, he71, h⟩ := bS h
   refine dp [1] [] (.hp 1 0 [] 4 (0 + Int.toNat (u68.1)) 0) rfl (e_indexAddr rfl rfl rfl (ix_hsM (f := enc_Event) (xs := u68.2) rfl rfl rfl he71)) rfl (rfl) (by decide) ?_
   obtain ⟨w72, hw72⟩ : ∃ w, getI (setI u68.2 u68.1 e69) a_10 = some w := get_exI he69
   obtain ⟨w73, hw73⟩ : ∃ w, getI (setI u68.2 u68.1 e69) u68.1 = some w := get_exI he70
   refine dp0 [1] [1] rfl (e_st rfl rfl (st_at (path := []) (pl := true) (e' := enc_Event e69) (es2' := ((setI u68.2 u68.1 e69)).map enc_Event) rfl (absorb_plain rfl) rfl rfl rfl (ra_n) (get_map (f := enc_Event) (xs := u68.2) he71) rfl rfl rfl (set_map (f := enc_Event) (xs := u68.2) (y := e69)) (sr_n) 0 rfl)) rfl (rfl) (by decide) ?_
   try rw [← len_setM (f := enc_Event) (xs := u68.2) (i := u68.1) (z := e69)]
   obtain ⟨e74, he74, h⟩ := bS h
   refine dp [1] [] (.hp 1 0 [] 4 (0 + Int.toNat (a_10)) 0) rfl (e_indexAddr rfl rfl rfl (ix_hsM (f := enc_Event) (xs := (setI u68.2 u68.1 e69)) rfl rfl rfl he74)) rfl (rfl) (by decide) ?_
   obtain ⟨w75, hw75⟩ : ∃ w, getI (setI (setI u68.2 u68.1 e69) a_10 e70) a_10 = some w := get_exI hw72
   obtain ⟨w76, hw76⟩ : ∃ w, getI (setI (setI u68.2 u68.1 e69) a_10 e70) u68.1 = some w := get_exI hw73
   obtain ⟨w77, hw77⟩ : ∃ w, getI (setI (setI u68.2 u68.1 e69) a_10 e70) u68.1 = some w := get_exI (get_set he71)
   refine dp0 [1] [1] rfl (e_st rfl rfl (st_at (path := []) (pl := true) (e' := enc_Event e70) (es2' := ((setI (setI u68.2 u68.1 e69) a_10 e70)).map enc_Event) rfl (absorb_plain rfl) rfl rfl rfl (ra_n) (get_map (f := enc_Event) (xs := (setI u68.2 u68.1 e69)) he74) rfl rfl rfl (set_map (f := enc_Event) (xs := (setI u68.2 u68.1 e69)) (y := e70)) (sr_n) 0 rfl)) rfl (rfl) (by decide) ?_
   try rw [← len_setM (f := enc_Event) (xs := (setI u68.2 u68.1 e69)) (i := a_10) (z := e70)]
   refine de 258 rfl rfl ?_
   refine c0 6 [10, 11] [I (u68.1), B (false)] 306 (by kernel_rfl) ?_
   obtain ⟨g78, h⟩ := gG h
   obtain rfl := Option.some.inj h
   exact s_ret rfl ⟨_, fin (vs := [I (u68.1), B (false)]) rfl (absE (absorb_plain rfl) (absE (absorb_plain rfl) (absEN))) rfl (ou_1 rfl (oc_hsG (f := enc_Event) (xs := (setI (setI u68.2 u68.1 e69) a_10 e70)) (by simpa using g78) rfl) (ou_f (ou_f (ou_f (ou_f (ou_n)))))), kl_c (kl_n)⟩
theorem Ffbp_good {G : Go.Ln.Ground} : Good Tryd.prog G 122 Ffbp_ent := good_T (fnOf_good (gl_c Fff_good (gl_n))) agree_mk (Checked.mixed Tryd.checked) Tryd.func122 (n := 5) (m := 1) ⟨rfl, rfl, by decide⟩ (fun _ => ⟨rfl, rfl⟩) (fun a r h => Ffbp_run a.1 a.2.1 a.2.2.1 a.2.2.2.1 a.2.2.2.2 r h)
def Ffbr_A : ((List Event) × Int × Int × Int × Unit) → List V := cA (usE 4 enc_Event) (cA I (cA I (cA I (oA (fun x : Unit => (.fn 52 [] : V))))))
def Ffbr_R (r : (List Event)) : V × List V := (.tup [], [.usl 4 ((r).map enc_Event)])
noncomputable def Ffbr_entS (slf_Ffbr : ((List Event) × Int × Int × Int × Unit) → Option ((List Event))) : Ent := entT [true, false, false, false, false] Ffbr_A Ffbr_R slf_Ffbr
theorem Ffbr_FS (slf_Ffbr : ((List Event) × Int × Int × Int × Unit) → Option ((List Event))) {x} {r} (h : slf_Ffbr x = some r) : (Ffbr_entS slf_Ffbr).F (Ffbr_A x) = some (Ffbr_R r) := entT_F (cA_inj (usl_inj enc_Event_inj) (cA_inj I_inj (cA_inj I_inj (cA_inj I_inj (oA_inj (fn_inj0 )))))) h
noncomputable def Ffbr_ent : Ent := Ffbr_entS (fixO Ffbr_G)
theorem Ffbr_F {data_8 : List Event} {a_9 : Int} {b_10 : Int} {limit_11 : Int} {cmp_12 : Unit} {r} (h : Ffbr data_8 a_9 b_10 limit_11 cmp_12 = some r) : Ffbr_ent.F (Ffbr_A (data_8, a_9, b_10, limit_11, cmp_12)) = some (Ffbr_R r) := Ffbr_FS (fixO Ffbr_G) h
noncomputable def Ffbr_c : Code := bodyOf Tryd.f94
noncomputable def Ffbr_E (slf_Ffbr : ((List Event) × Int × Int × Int × Unit) → Option ((List Event))) : Env := mkE Tryd.prog [(115, Ffbj_ent), (116, Ffbi_ent), (118, Ffbh_ent), (121, Ffbq_ent), (122, Ffbp_ent), (94, (Ffbr_entS slf_Ffbr)), (52, Fff_ent), (120, Ffbo_ent), (119, Ffbs_ent), (117, Ffbg_ent)]
def Ffbr_Q (slf_Ffbr : ((List Event) × Int × Int × Int × Unit) → Option ((List Event))) (x : (List Event) × Int × Int × Int × Unit) (r : (List Event)) : St → Prop := QF (Ffbr_E slf_Ffbr) Tryd.f94 [true, false, false, false, false] (Ffbr_A x) (Ffbr_R r)
theorem Ffbr_la_run (slf_Ffbr : ((List Event) × Int × Int × Int × Unit) → Option ((List Event))) (data_8 : List Event) (a_9 : Int) (b_10 : Int) (limit_11 : Int) (cmp_12 : Unit)  {Q : St → Prop} {K : List It} (hK : noD K = true) {x6 : Int × Int × Int × Bool × Bool × (List Event)} {y : ((List Event)) ⊕ Unit} (h : Ffbr_la slf_Ffbr data_8 a_9 b_10 limit_11 cmp_12 x6 = some y) : (∀ r', y = .inl r' → ∀ st, Ffbr_Q slf_Ffbr (data_8, a_9, b_10, limit_11, cmp_12) r' st → Q st) → (∀ u : Unit, y = .inr u → Run (Ffbr_E slf_Ffbr) 1 Q K ⟨mkTm .dead 148 [], mkS (rtL [] 1), 1⟩) → Run (Ffbr_E slf_Ffbr) 1 Q (.code (cL (cL (cR (cR Ffbr_c)))) :: .lp (cL (cL (cR (cR Ffbr_c)))) :: .blk 0 :: K) ⟨mkTm .dead 148 [(0, .hs 1 0 [] 4 0 ((x6.2.2.2.2.2).map enc_Event).length), (1, I (x6.1)), (2, I (x6.2.1)), (3, I (x6.2.2.1)), (4, .fn 52 []), (10, B (x6.2.2.2.1)), (11, B (x6.2.2.2.2.1))], mkS (rtL [⟨0, 4, (x6.2.2.2.2.2).map enc_Event⟩] 1), 2⟩ := by
 refine fix_ind (P := fun (x6 : Int × Int × Int × Bool × Bool × (List Event)) (y : ((List Event)) ⊕ Unit) => (∀ r', y = .inl r' → ∀ st, Ffbr_Q slf_Ffbr (data_8, a_9, b_10, limit_11, cmp_12) r' st → Q st) → (∀ u : Unit, y = .inr u → Run (Ffbr_E slf_Ffbr) 1 Q K ⟨mkTm .dead 148 [], mkS (rtL [] 1), 1⟩) → Run (Ffbr_E slf_Ffbr) 1 Q (.code (cL (cL (cR (cR Ffbr_c)))) :: .lp (cL (cL (cR (cR Ffbr_c)))) :: .blk 0 :: K) ⟨mkTm .dead 148 [(0, .hs 1 0 [] 4 0 ((x6.2.2.2.2.2).map enc_Event).length), (1, I (x6.1)), (2, I (x6.2.1)), (3, I (x6.2.2.1)), (4, .fn 52 []), (10, B (x6.2.2.2.1)), (11, B (x6.2.2.2.2.1))], mkS (rtL [⟨0, 4, (x6.2.2.2.2.2).map enc_Event⟩] 1), 2⟩) (Ffbr_la_fin slf_Ffbr data_8 a_9 b_10 limit_11 cmp_12) ?_ h
 clear h y x6
 intro self ih x6 y h hr hn
 unfold Ffbr_la_F at h
 refine c0 14 [12, 25] [I ((w64 (x6.2.1 - x6.1))), B ((decide ((w64 (x6.2.1 - x6.1)) ≤ 12)))] 98 (by kernel_rfl) ?_
 refine sc h rfl rfl (fun h => ?_) (fun h => ?_)
 · refine c0 6 [26, 27, 28, 29] [.hs 1 0 [] 4 0 ((x6.2.2.2.2.2).map enc_Event).length, I (x6.1), I (x6.2.1), .fn 52 []] 162 (by kernel_rfl) ?_
   obtain ⟨r7, hr7, h⟩ := bS h
   obtain ⟨g8, h⟩ := gG h
   refine o 178 (.tup []) rfl rfl (e_callV rfl rfl (call_P rfl rfl rfl (avO (hd1 rfl (hd_hs (path := []) rfl rfl (ra_n) rfl)) (avS (shP rfl) (avS (shP rfl) (avS (shP rfl) (avN))))) (Ffbj_F hr7) (.inr rfl) (bl_c rfl rfl rfl rfl (bl_n)) rfl rfl rfl)) ?_
   try rw [len_eqM (f := enc_Event) (xs := x6.2.2.2.2.2) (ys := r7) g8]
   refine ad 1 rfl ?_
   obtain ⟨g9, h⟩ := gG h
   exact s_ret rfl (hr _ (Option.some.inj h).symm _ ⟨_, fin (vs := []) rfl (absEN) rfl (ou_1 rfl (oc_hsG (f := enc_Event) (xs := r7) (by simpa using g9) rfl) (ou_f (ou_f (ou_f (ou_f (ou_n)))))), kl_c (kl_n)⟩)
 · refine ad 1 rfl ?_
   refine c0 6 [32] [B ((x6.2.2.1 == 0))] 130 (by kernel_rfl) ?_
   refine sc h rfl rfl (fun h => ?_) (fun h => ?_)
   · refine c0 6 [33, 34, 35, 36] [.hs 1 0 [] 4 0 ((x6.2.2.2.2.2).map enc_Event).length, I (x6.1), I (x6.2.1), .fn 52 []] 194 (by kernel_rfl) ?_
     obtain ⟨r10, hr10, h⟩ := bS h
     obtain ⟨g11, h⟩ := gG h
     refine o 210 (.tup []) rfl rfl (e_callV rfl rfl (call_P rfl rfl rfl (avO (hd1 rfl (hd_hs (path := []) rfl rfl (ra_n) rfl)) (avS (shP rfl) (avS (shP rfl) (avS (shP rfl) (avN))))) (Ffbi_F hr10) (.inr rfl) (bl_c rfl rfl rfl rfl (bl_n)) rfl rfl rfl)) ?_
     try rw [len_eqM (f := enc_Event) (xs := x6.2.2.2.2.2) (ys := r10) g11]
     refine ad 1 rfl ?_
     obtain ⟨g12, h⟩ := gG h
     exact s_ret rfl (hr _ (Option.some.inj h).symm _ ⟨_, fin (vs := []) rfl (absEN) rfl (ou_1 rfl (oc_hsG (f := enc_Event) (xs := r10) (by simpa using g12) rfl) (ou_f (ou_f (ou_f (ou_f (ou_n)))))), kl_c (kl_n)⟩)
   · refine ad 1 rfl ?_
     refine c0 6 [39] [B ((!x6.2.2.2.1))] 162 (by kernel_rfl) ?_
     obtain ⟨y13, hy13, hy131, hy132⟩ := bL h
     have j13 : ∀ u13, y13 = .inr u13 → Run (Ffbr_E slf_Ffbr) 1 Q (.code (cR (cR (cR (cR (cL (cL (cL (cR (cR Ffbr_c))))))))) :: .blk 1 :: .lp (cL (cL (cR (cR Ffbr_c)))) :: .blk 0 :: K) ⟨mkTm .dead 148 [(0, .hs 1 0 [] 4 0 ((u13.2).map enc_Event).length), (1, I (x6.1)), (2, I (x6.2.1)), (3, I (u13.1)), (4, .fn 52 []), (10, B (x6.2.2.2.1)), (11, B (x6.2.2.2.2.1)), (12, I ((w64 (x6.2.1 - x6.1))))], mkS (rtL [⟨0, 4, (u13.2).map enc_Event⟩] 1), 2⟩ := by
       intro u13 hu
       replace h := hy132 u13 hu
       refine c0 6 [48, 49, 50, 51] [.hs 1 0 [] 4 0 ((u13.2).map enc_Event).length, I (x6.1), I (x6.2.1), .fn 52 []] 66 (by kernel_rfl) ?_
       obtain ⟨r14, hr14, h⟩ := bS h
       refine o 82 (.tup [I (r14.1), I (r14.2)]) rfl rfl (e_callV rfl rfl (call_P rfl rfl rfl (avS (sh1 rfl rfl (sh_hsM (f := enc_Event) (g := enc_Event) (xs := u13.2) rfl rfl (imms_of enc_Event_imm))) (avS (shP rfl) (avS (shP rfl) (avS (shP rfl) (avN))))) (Ffbh_F hr14) (.inl (rfl)) (bl_n) rfl rfl rfl)) ?_
       refine c0 12 [13, 14, 56] [I (r14.1), I (r14.2), B ((r14.2 == 2))] 194 (by kernel_rfl) ?_
       obtain ⟨y15, hy15, hy151, hy152⟩ := bL h
       have j15 : ∀ u15, y15 = .inr u15 → Run (Ffbr_E slf_Ffbr) 1 Q (.code (cR (cR (cR (cR (cR (cR (cL (cL (cL (cR (cR Ffbr_c))))))))))) :: .blk 1 :: .lp (cL (cL (cR (cR Ffbr_c)))) :: .blk 0 :: K) ⟨mkTm .dead 148 [(0, .hs 1 0 [] 4 0 ((u15.2.2).map enc_Event).length), (1, I (x6.1)), (2, I (x6.2.1)), (3, I (u13.1)), (4, .fn 52 []), (10, B (x6.2.2.2.1)), (11, B (x6.2.2.2.2.1)), (12, I ((w64 (x6.2.1 - x6.1)))), (13, I (u15.1)), (14, I (u15.2.1))], mkS (rtL [⟨0, 4, (u15.2.2).map enc_Event⟩] 1), 2⟩ := by
         intro u15 hu
         replace h := hy152 u15 hu
         refine c0 5 [69] [B (x6.2.2.2.1)] 34 (by kernel_rfl) ?_
         obtain ⟨u16, hu16, h⟩ := lJ h
         have j16 : Run (Ffbr_E slf_Ffbr) 1 Q (.code (cR (cL (cR (cR (cR (cR (cR (cR (cL (cL (cL (cR (cR Ffbr_c))))))))))))) :: .code (cR (cR (cR (cR (cR (cR (cR (cL (cL (cL (cR (cR Ffbr_c)))))))))))) :: .blk 1 :: .lp (cL (cL (cR (cR Ffbr_c)))) :: .blk 0 :: K) ⟨mkTm .dead 148 [(0, .hs 1 0 [] 4 0 ((u15.2.2).map enc_Event).length), (1, I (x6.1)), (2, I (x6.2.1)), (3, I (u13.1)), (4, .fn 52 []), (10, B (x6.2.2.2.1)), (11, B (x6.2.2.2.2.1)), (12, I ((w64 (x6.2.1 - x6.1)))), (13, I (u15.1)), (75, B (u16))], mkS (rtL [⟨0, 4, (u15.2.2).map enc_Event⟩] 1), 2⟩ := by
           obtain ⟨y17, hy17, hy171, hy172⟩ := bL h
           have j17 : ∀ u17, y17 = .inr u17 → Run (Ffbr_E slf_Ffbr) 1 Q (.code (cR (cR (cR (cR (cR (cR (cR (cL (cL (cL (cR (cR Ffbr_c)))))))))))) :: .blk 1 :: .lp (cL (cL (cR (cR Ffbr_c)))) :: .blk 0 :: K) ⟨mkTm .dead 148 [(0, .hs 1 0 [] 4 0 ((u17).map enc_Event).length), (1, I (x6.1)), (2, I (x6.2.1)), (3, I (u13.1)), (4, .fn 52 []), (10, B (x6.2.2.2.1)), (11, B (x6.2.2.2.2.1)), (12, I ((w64 (x6.2.1 - x6.1)))), (13, I (u15.1))], mkS (rtL [⟨0, 4, (u17).map enc_Event⟩] 1), 2⟩ := by
             intro u17 hu
             replace h := hy172 u17 hu
             refine ad 2 rfl ?_
             refine s_draw [0, 1, 3, 7, 7, 7, 39, 119, 247, 7, 7, 1543, 3591, 8191, 16383, 32767, 65535] rfl (by decide +kernel) ?_
             refine dp [] [] (I (x6.1)) rfl (e_move rfl) rfl (rfl) (by decide) ?_
             refine dp [] [] (B ((decide (x6.1 > 0)))) rfl (e_bin rfl rfl rfl) rfl (rfl) (by decide) ?_
             refine dp [] [] (B ((decide (x6.1 > 0)))) rfl (e_move rfl) rfl (rfl) (by decide) ?_
             obtain ⟨y18, hy18, hy181, hy182⟩ := bL h
             have j18 : ∀ u18, y18 = .inr u18 → Run (Ffbr_E slf_Ffbr) 1 Q (.code (cR (cL (cR (cR (cR (cR (cR (cR (cR (cL (cL (cL (cR (cR Ffbr_c)))))))))))))) :: .code (cR (cR (cR (cR (cR (cR (cR (cR (cL (cL (cL (cR (cR Ffbr_c))))))))))))) :: .blk 1 :: .lp (cL (cL (cR (cR Ffbr_c)))) :: .blk 0 :: K) ⟨mkTm .dead 148 [(0, .hs 1 0 [] 4 0 ((u17).map enc_Event).length), (1, I (x6.1)), (2, I (x6.2.1)), (3, I (u13.1)), (4, .fn 52 []), (10, B (x6.2.2.2.1)), (11, B (x6.2.2.2.2.1)), (12, I ((w64 (x6.2.1 - x6.1)))), (13, I (u15.1)), (97, B (u18))], mkS (rtL [⟨0, 4, (u17).map enc_Event⟩] 1), 2⟩ := by
               intro u18 hu
               replace h := hy182 u18 hu
               refine sc h rfl rfl (fun h => ?_) (fun h => ?_)
               · refine c0 7 [98, 99, 100, 101, 102] [.hs 1 0 [] 4 0 ((u17).map enc_Event).length, I (x6.1), I (x6.2.1), I (u15.1), .fn 52 []] 82 (by kernel_rfl) ?_
                 obtain ⟨r19, hr19, h⟩ := bS h
                 obtain ⟨g20, h⟩ := gG h
                 refine o 98 (I (r19.1)) rfl rfl (e_callV rfl rfl (call_P rfl rfl rfl (avO (hd1 rfl (hd_hs (path := []) rfl rfl (ra_n) rfl)) (avS (shP rfl) (avS (shP rfl) (avS (shP rfl) (avS (shP rfl) (avN)))))) (Ffbq_F hr19) (.inr rfl) (bl_c rfl rfl rfl rfl (bl_n)) rfl rfl rfl)) ?_
                 try rw [len_eqM (f := enc_Event) (xs := u17) (ys := r19.2) g20]
                 refine c0 8 [1] [I (r19.1)] 146 (by kernel_rfl) ?_
                 refine s_lp ?_
                 refine run_forget [0, 1, 2, 3, 4, 10, 11] [1] [⟨1, 4, (r19.2).map enc_Event⟩] rfl rfl rfl rfl ?_
                 exact ih _ _ h hr hn
               · refine ad 1 rfl ?_
                 refine c0 7 [106, 107, 108, 109, 110] [.hs 1 0 [] 4 0 ((u17).map enc_Event).length, I (x6.1), I (x6.2.1), I (u15.1), .fn 52 []] 82 (by kernel_rfl) ?_
                 obtain ⟨r21, hr21, h⟩ := bS h
                 obtain ⟨g22, h⟩ := gG h
                 refine o 98 (.tup [I (r21.1), B (r21.2.1)]) rfl rfl (e_callV rfl rfl (call_P rfl rfl rfl (avO (hd1 rfl (hd_hs (path := []) rfl rfl (ra_n) rfl)) (avS (shP rfl) (avS (shP rfl) (avS (shP rfl) (avS (shP rfl) (avN)))))) (Ffbp_F hr21) (.inr rfl) (bl_c rfl rfl rfl rfl (bl_n)) rfl rfl rfl)) ?_
                 try rw [len_eqM (f := enc_Event) (xs := u17) (ys := r21.2.2) g22]
                 refine c0 34 [11, 16, 18, 19, 20, 125] [B (r21.2.1), I (r21.1), I ((w64 (r21.1 - x6.1))), I ((w64 (x6.2.1 - r21.1))), I ((w64 ((w64 (x6.2.1 - x6.1)).tdiv 8))), B ((decide ((w64 (r21.1 - x6.1)) < (w64 (x6.2.1 - r21.1)))))] 434 (by kernel_rfl) ?_
                 obtain ⟨y23, hy23, hy231, hy232⟩ := bL h
                 have j23 : ∀ u23, y23 = .inr u23 → Run (Ffbr_E slf_Ffbr) 1 Q (.blk 1 :: .lp (cL (cL (cR (cR Ffbr_c)))) :: .blk 0 :: K) ⟨mkTm .dead 148 [(0, .hs 1 0 [] 4 0 ((u23.2.2.2).map enc_Event).length), (1, I (u23.1)), (2, I (u23.2.1)), (3, I (u13.1)), (4, .fn 52 []), (10, B (u23.2.2.1)), (11, B (r21.2.1))], mkS (rtL [⟨0, 4, (u23.2.2.2).map enc_Event⟩] 1), 2⟩ := by
                   intro u23 hu
                   replace h := hy232 u23 hu
                   refine ad 1 rfl ?_
                   refine s_lp ?_
                   refine run_forget [0, 1, 2, 3, 4, 10, 11] [1] [⟨0, 4, (u23.2.2.2).map enc_Event⟩] rfl rfl rfl rfl ?_
                   exact ih _ _ h hr hn
                 have r23 : ∀ r', y23 = .inl r' → ∀ st, Ffbr_Q slf_Ffbr (data_8, a_9, b_10, limit_11, cmp_12) r' st → Q st := fun r' e st hq => hr r' (hy231 r' e) st hq
                 replace h := hy23
                 refine sc h rfl rfl (fun h => ?_) (fun h => ?_)
                 · refine c0 14 [10, 129, 130, 131, 132, 133] [B ((decide ((w64 (r21.1 - x6.1)) ≥ (w64 ((w64 (x6.2.1 - x6.1)).tdiv 8))))), .hs 1 0 [] 4 0 ((r21.2.2).map enc_Event).length, I (x6.1), I (r21.1), I (u13.1), .fn 52 []] 578 (by kernel_rfl) ?_
                   obtain ⟨r24, hr24, h⟩ := bS h
                   obtain ⟨g25, h⟩ := gG h
                   refine o 594 (.tup []) rfl rfl (e_callV rfl rfl (call_P rfl rfl rfl (avO (hd1 rfl (hd_hs (path := []) rfl rfl (ra_n) rfl)) (avS (shP rfl) (avS (shP rfl) (avS (shP rfl) (avS (shP rfl) (avN)))))) (Ffbr_FS slf_Ffbr hr24) (.inr rfl) (bl_c rfl rfl rfl rfl (bl_n)) rfl rfl rfl)) ?_
                   try rw [len_eqM (f := enc_Event) (xs := r21.2.2) (ys := r24) g25]
                   refine c0 6 [1] [I ((w64 (r21.1 + 1)))] 642 (by kernel_rfl) ?_
                   refine run_forget [0, 1, 2, 3, 4, 10, 11] [1] [⟨2, 4, (r24).map enc_Event⟩] rfl rfl rfl rfl ?_
                   exact j23 _ (Option.some.inj h).symm
                 · refine c0 15 [10, 140, 142, 143, 144, 145] [B ((decide ((w64 (x6.2.1 - r21.1)) ≥ (w64 ((w64 (x6.2.1 - x6.1)).tdiv 8))))), .hs 1 0 [] 4 0 ((r21.2.2).map enc_Event).length, I ((w64 (r21.1 + 1))), I (x6.2.1), I (u13.1), .fn 52 []] 594 (by kernel_rfl) ?_
                   obtain ⟨r26, hr26, h⟩ := bS h
                   obtain ⟨g27, h⟩ := gG h
                   refine o 610 (.tup []) rfl rfl (e_callV rfl rfl (call_P rfl rfl rfl (avO (hd1 rfl (hd_hs (path := []) rfl rfl (ra_n) rfl)) (avS (shP rfl) (avS (shP rfl) (avS (shP rfl) (avS (shP rfl) (avN)))))) (Ffbr_FS slf_Ffbr hr26) (.inr rfl) (bl_c rfl rfl rfl rfl (bl_n)) rfl rfl rfl)) ?_
                   try rw [len_eqM (f := enc_Event) (xs := r21.2.2) (ys := r26) g27]
                   refine c0 5 [2] [I (r21.1)] 642 (by kernel_rfl) ?_
                   refine run_forget [0, 1, 2, 3, 4, 10, 11] [1] [⟨2, 4, (r26).map enc_Event⟩] rfl rfl rfl rfl ?_
                   exact j23 _ (Option.some.inj h).symm
             have r18 : ∀ r', y18 = .inl r' → ∀ st, Ffbr_Q slf_Ffbr (data_8, a_9, b_10, limit_11, cmp_12) r' st → Q st := fun r' e st hq => hr r' (hy181 r' e) st hq
             replace h := hy18
             refine sp 83 h rfl (fun h => ?_) (fun h => ?_)
             · refine dg [] [] (.fn 52 []) rfl rfl rfl (e_move rfl) rfl (rfl) (by decide) ?_
               refine dg [] [] (.hs 1 0 [] 4 0 ((u17).map enc_Event).length) rfl rfl rfl (e_move rfl) rfl (rfl) (by decide) ?_
               refine dg [] [] (I (x6.1)) rfl rfl rfl (e_move rfl) rfl (rfl) (by decide) ?_
               refine dg [] [] (I ((w64 (x6.1 - 1)))) rfl rfl rfl (e_bin rfl rfl rfl) rfl (rfl) (by decide) ?_
               obtain ⟨e28, he28, h⟩ := bS h
               refine dg [1] [] (.hp 1 0 [] 4 (0 + Int.toNat ((w64 (x6.1 - 1)))) 0) rfl rfl rfl (e_indexAddr rfl rfl rfl (ix_hsM (f := enc_Event) (xs := u17) rfl rfl rfl he28)) rfl (rfl) (by decide) ?_
               refine dg [1] [] (enc_Event e28) rfl rfl rfl (e_ld rfl (ld_at (path := []) rfl rfl rfl (ra_n) (get_map (f := enc_Event) (xs := u17) he28) rfl rfl rfl)) rfl (rfl) (by decide) ?_
               refine dg [] [] (.hs 1 0 [] 4 0 ((u17).map enc_Event).length) rfl rfl rfl (e_move rfl) rfl (rfl) (by decide) ?_
               refine dg [] [] (I (u15.1)) rfl rfl rfl (e_move rfl) rfl (rfl) (by decide) ?_
               obtain ⟨e29, he29, h⟩ := bS h
               refine dg [1] [] (.hp 1 0 [] 4 (0 + Int.toNat (u15.1)) 0) rfl rfl rfl (e_indexAddr rfl rfl rfl (ix_hsM (f := enc_Event) (xs := u17) rfl rfl rfl he29)) rfl (rfl) (by decide) ?_
               refine dg [1] [] (enc_Event e29) rfl rfl rfl (e_ld rfl (ld_at (path := []) rfl rfl rfl (ra_n) (get_map (f := enc_Event) (xs := u17) he29) rfl rfl rfl)) rfl (rfl) (by decide) ?_
               obtain ⟨r30, hr30, h⟩ := bS h
               refine dg [] [] (I (r30)) rfl rfl rfl (e_callV rfl rfl (call_P rfl rfl rfl (avS (shP rfl) (avS (shP rfl) (avN))) (Fff_F hr30) (.inr rfl) (bl_n) rfl rfl rfl)) rfl (w_callO rfl rfl rfl rfl (avS (shP rfl) (avS (shP rfl) (avN))) (Fff_F hr30) (.inr rfl) rfl) (by decide) ?_
               refine dg [] [] (B ((decide (r30 < 0)))) rfl rfl rfl (e_bin rfl rfl rfl) rfl (rfl) (by decide) ?_
               refine dg [] [] (B ((!(decide (r30 < 0))))) rfl rfl rfl (e_un rfl rfl) rfl (rfl) (by decide) ?_
               refine dp [] [] (B ((!(decide (r30 < 0))))) rfl (e_pickT rfl rfl) rfl (rfl) (by decide) ?_
               refine de 274 rfl rfl ?_
               refine run_forget [0, 1, 2, 3, 4, 10, 11, 12, 13, 97] [1] [⟨0, 4, (u17).map enc_Event⟩] rfl rfl rfl rfl ?_
               exact j18 _ (Option.some.inj h).symm
             · refine ds rfl rfl rfl (by decide) ?_
               refine ds rfl rfl rfl (by decide) ?_
               refine ds rfl rfl rfl (by decide) ?_
               refine ds rfl rfl rfl (by decide) ?_
               refine ds rfl rfl rfl (by decide) ?_
               refine ds rfl rfl rfl (by decide) ?_
               refine ds rfl rfl rfl (by decide) ?_
               refine ds rfl rfl rfl (by decide) ?_
               refine ds rfl rfl rfl (by decide) ?_
               refine ds rfl rfl rfl (by decide) ?_
               refine ds rfl rfl rfl (by decide) ?_
               refine ds rfl rfl rfl (by decide) ?_
               refine ds rfl rfl rfl (by decide) ?_
               refine dp [] [] (B (false)) rfl (e_pickF rfl rfl) rfl (rfl) (by decide) ?_
               refine de 274 rfl rfl ?_
               refine run_forget [0, 1, 2, 3, 4, 10, 11, 12, 13, 97] [1] [⟨0, 4, (u17).map enc_Event⟩] rfl rfl rfl rfl ?_
               exact j18 _ (Option.some.inj h).symm
           have r17 : ∀ r', y17 = .inl r' → ∀ st, Ffbr_Q slf_Ffbr (data_8, a_9, b_10, limit_11, cmp_12) r' st → Q st := fun r' e st hq => hr r' (hy171 r' e) st hq
           replace h := hy17
           refine sc h rfl rfl (fun h => ?_) (fun h => ?_)
           · refine c0 6 [76, 77, 78, 79] [.hs 1 0 [] 4 0 ((u15.2.2).map enc_Event).length, I (x6.1), I (x6.2.1), .fn 52 []] 66 (by kernel_rfl) ?_
             obtain ⟨r31, hr31, h⟩ := bS h
             obtain ⟨g32, h⟩ := gG h
             refine o 82 (B (r31.1)) rfl rfl (e_callV rfl rfl (call_P rfl rfl rfl (avO (hd1 rfl (hd_hs (path := []) rfl rfl (ra_n) rfl)) (avS (shP rfl) (avS (shP rfl) (avS (shP rfl) (avN))))) (Ffbo_F hr31) (.inr rfl) (bl_c rfl rfl rfl rfl (bl_n)) rfl rfl rfl)) ?_
             try rw [len_eqM (f := enc_Event) (xs := u15.2.2) (ys := r31.2) g32]
             refine ad 1 rfl ?_
             refine sc h rfl rfl (fun h => ?_) (fun h => ?_)
             · obtain ⟨g33, h⟩ := gG h
               exact s_ret rfl (r17 _ (Option.some.inj h).symm _ ⟨_, fin (vs := []) rfl (absEN) rfl (ou_1 rfl (oc_hsG (f := enc_Event) (xs := r31.2) (by simpa using g33) rfl) (ou_f (ou_f (ou_f (ou_f (ou_n)))))), kl_c (kl_n)⟩)
             · refine ad 1 rfl ?_
               refine run_forget [0, 1, 2, 3, 4, 10, 11, 12, 13] [1] [⟨1, 4, (r31.2).map enc_Event⟩] rfl rfl rfl rfl ?_
               exact j17 _ (Option.some.inj h).symm
           · refine ad 1 rfl ?_
             refine run_forget [0, 1, 2, 3, 4, 10, 11, 12, 13] [1] [⟨0, 4, (u15.2.2).map enc_Event⟩] rfl rfl rfl rfl ?_
             exact j17 _ (Option.some.inj h).symm
         replace h := hu16
         clear hu16
         refine sp 69 h rfl (fun h => ?_) (fun h => ?_)
         · refine c0 3 [72] [B (x6.2.2.2.2.1)] 82 (by kernel_rfl) ?_
           obtain ⟨u34, hu34, h⟩ := lJ h
           have j34 : Run (Ffbr_E slf_Ffbr) 1 Q (.code (cR (cL (cR (cR (cR (cR (cR (cR (cL (cL (cL (cR (cR Ffbr_c))))))))))))) :: .code (cR (cR (cR (cR (cR (cR (cR (cL (cL (cL (cR (cR Ffbr_c)))))))))))) :: .blk 1 :: .lp (cL (cL (cR (cR Ffbr_c)))) :: .blk 0 :: K) ⟨mkTm .dead 148 [(0, .hs 1 0 [] 4 0 ((u15.2.2).map enc_Event).length), (1, I (x6.1)), (2, I (x6.2.1)), (3, I (u13.1)), (4, .fn 52 []), (10, B (x6.2.2.2.1)), (11, B (x6.2.2.2.2.1)), (12, I ((w64 (x6.2.1 - x6.1)))), (13, I (u15.1)), (75, B (u34))], mkS (rtL [⟨0, 4, (u15.2.2).map enc_Event⟩] 1), 2⟩ := by
             refine run_forget [0, 1, 2, 3, 4, 10, 11, 12, 13, 75] [1] [⟨0, 4, (u15.2.2).map enc_Event⟩] rfl rfl rfl rfl ?_
             subst h
             exact j16
           replace h := hu34
           clear hu34
           refine sp 72 h rfl (fun h => ?_) (fun h => ?_)
           · refine c0 4 [75] [B ((u15.2.1 == 1))] 130 (by kernel_rfl) ?_
             refine run_forget [0, 1, 2, 3, 4, 10, 11, 12, 13, 75] [1] [⟨0, 4, (u15.2.2).map enc_Event⟩] rfl rfl rfl rfl ?_
             subst h
             exact j34
           · refine c0 4 [75] [B (false)] 130 (by kernel_rfl) ?_
             refine run_forget [0, 1, 2, 3, 4, 10, 11, 12, 13, 75] [1] [⟨0, 4, (u15.2.2).map enc_Event⟩] rfl rfl rfl rfl ?_
             subst h
             exact j34
         · refine c0 7 [75] [B (false)] 130 (by kernel_rfl) ?_
           refine run_forget [0, 1, 2, 3, 4, 10, 11, 12, 13, 75] [1] [⟨0, 4, (u15.2.2).map enc_Event⟩] rfl rfl rfl rfl ?_
           subst h
           exact j16
       have r15 : ∀ r', y15 = .inl r' → ∀ st, Ffbr_Q slf_Ffbr (data_8, a_9, b_10, limit_11, cmp_12) r' st → Q st := fun r' e st hq => hr r' (hy151 r' e) st hq
       replace h := hy15
       refine sc h rfl rfl (fun h => ?_) (fun h => ?_)
       · refine c0 6 [57, 58, 59, 60] [.hs 1 0 [] 4 0 ((u13.2).map enc_Event).length, I (x6.1), I (x6.2.1), .fn 52 []] 258 (by kernel_rfl) ?_
         obtain ⟨r35, hr35, h⟩ := bS h
         obtain ⟨g36, h⟩ := gG h
         refine o 274 (.tup []) rfl rfl (e_callV rfl rfl (call_P rfl rfl rfl (avO (hd1 rfl (hd_hs (path := []) rfl rfl (ra_n) rfl)) (avS (shP rfl) (avS (shP rfl) (avS (shP rfl) (avN))))) (Ffbs_F hr35) (.inr rfl) (bl_c rfl rfl rfl rfl (bl_n)) rfl rfl rfl)) ?_
         try rw [len_eqM (f := enc_Event) (xs := u13.2) (ys := r35) g36]
         refine c0 14 [13, 14] [I ((w64 ((w64 (x6.2.1 - 1)) - (w64 (r14.1 - x6.1))))), I (1)] 402 (by kernel_rfl) ?_
         refine run_forget [0, 1, 2, 3, 4, 10, 11, 12, 13, 14] [1] [⟨1, 4, (r35).map enc_Event⟩] rfl rfl rfl rfl ?_
         exact j15 _ (Option.some.inj h).symm
       · refine ad 1 rfl ?_
         refine run_forget [0, 1, 2, 3, 4, 10, 11, 12, 13, 14] [1] [⟨0, 4, (u13.2).map enc_Event⟩] rfl rfl rfl rfl ?_
         exact j15 _ (Option.some.inj h).symm
     have r13 : ∀ r', y13 = .inl r' → ∀ st, Ffbr_Q slf_Ffbr (data_8, a_9, b_10, limit_11, cmp_12) r' st → Q st := fun r' e st hq => hr r' (hy131 r' e) st hq
     replace h := hy13
     refine sc h rfl rfl (fun h => ?_) (fun h => ?_)
     · refine c0 6 [40, 41, 42, 43] [.hs 1 0 [] 4 0 ((x6.2.2.2.2.2).map enc_Event).length, I (x6.1), I (x6.2.1), .fn 52 []] 226 (by kernel_rfl) ?_
       obtain ⟨r37, hr37, h⟩ := bS h
       obtain ⟨g38, h⟩ := gG h
       refine o 242 (.tup []) rfl rfl (e_callV rfl rfl (call_P rfl rfl rfl (avO (hd1 rfl (hd_hs (path := []) rfl rfl (ra_n) rfl)) (avS (shP rfl) (avS (shP rfl) (avS (shP rfl) (avN))))) (Ffbg_F hr37) (.inr rfl) (bl_c rfl rfl rfl rfl (bl_n)) rfl rfl rfl)) ?_
       try rw [len_eqM (f := enc_Event) (xs := x6.2.2.2.2.2) (ys := r37) g38]
       refine c0 6 [3] [I ((w64 (x6.2.2.1 - 1)))] 290 (by kernel_rfl) ?_
       refine run_forget [0, 1, 2, 3, 4, 10, 11, 12] [1] [⟨1, 4, (r37).map enc_Event⟩] rfl rfl rfl rfl ?_
       exact j13 _ (Option.some.inj h).symm
     · refine ad 1 rfl ?_
       refine run_forget [0, 1, 2, 3, 4, 10, 11, 12] [1] [⟨0, 4, (x6.2.2.2.2.2).map enc_Event⟩] rfl rfl rfl rfl ?_
       exact j13 _ (Option.some.inj h).symm
theorem Ffbr_run (slf_Ffbr : ((List Event) × Int × Int × Int × Unit) → Option ((List Event))) (data_8 : List Event) (a_9 : Int) (b_10 : Int) (limit_11 : Int) (cmp_12 : Unit) (r : (List Event)) (h : Ffbr_B slf_Ffbr data_8 a_9 b_10 limit_11 cmp_12 = some r) : RunF (Ffbr_E slf_Ffbr) Tryd.f94 [true, false, false, false, false] 1 (Ffbr_A (data_8, a_9, b_10, limit_11, cmp_12)) (Ffbr_R r) := by
 show Run _ _ (Ffbr_Q slf_Ffbr (data_8, a_9, b_10, limit_11, cmp_12) r) [.code Ffbr_c] _
 refine rin (n := 148) [(0, .hs 1 0 [] 4 0 ((data_8).map enc_Event).length), (1, I (a_9)), (2, I (b_10)), (3, I (limit_11)), (4, .fn 52 [])] [(1, some ⟨0, 4, (data_8).map enc_Event⟩)] 2 (by kernel_rfl) (by kernel_rfl) (by kernel_rfl) rfl ?_
 unfold Ffbr_B at h
 refine c0 9 [10, 11] [B (true), B (true)] 34 (by kernel_rfl) ?_
 obtain ⟨y39, hy39, hy391, hy392⟩ := bJ h
 refine s_loop rfl ?_
 refine run_forget [0, 1, 2, 3, 4, 10, 11] [1] [⟨0, 4, (data_8).map enc_Event⟩] rfl rfl rfl rfl ?_
 refine Ffbr_la_run slf_Ffbr data_8 a_9 b_10 limit_11 cmp_12 rfl hy39 (fun r' e st hq => by rw [hy391 r' e] at hq; exact hq) (fun u39 hu => ?_)
 replace h := hy392 u39 hu
 cases h
theorem Ffbr_good {G : Go.Ln.Ground} : Good Tryd.prog G 94 Ffbr_ent := good_rec fun slf_Ffbr g_Ffbr => good_T (fnOf_good (gl_c Ffbj_good (gl_c Ffbi_good (gl_c Ffbh_good (gl_c Ffbq_good (gl_c Ffbp_good (gl_c g_Ffbr (gl_c Fff_good (gl_c Ffbo_good (gl_c Ffbs_good (gl_c Ffbg_good (gl_n)))))))))))) agree_mk (Checked.mixed Tryd.checked) Tryd.func94 (n := 5) (m := 1) ⟨rfl, rfl, by decide⟩ (fun _ => ⟨rfl, rfl⟩) (fun a r h => Ffbr_run slf_Ffbr a.1 a.2.1 a.2.2.1 a.2.2.2.1 a.2.2.2.2 r h)
def Ffbf_A : ((List Event) × Unit) → List V := cA (usE 4 enc_Event) (oA (fun x : Unit => (.fn 52 [] : V)))
def Ffbf_R (r : (List Event)) : V × List V := (.tup [], [.usl 4 ((r).map enc_Event)])
noncomputable def Ffbf_ent : Ent := entT [true, false] Ffbf_A Ffbf_R fun x => Ffbf x.1 x.2
theorem Ffbf_F {x_4 : List Event} {cmp_5 : Unit} {r} (h : Ffbf x_4 cmp_5 = some r) : (Ffbf_ent).F (Ffbf_A (x_4, cmp_5)) = some (Ffbf_R r) := entT_F (cA_inj (usl_inj enc_Event_inj) (oA_inj (fn_inj0 ))) h
noncomputable def Ffbf_c : Code := bodyOf Tryd.f70
noncomputable def Ffbf_E : Env := mkE Tryd.prog [(95, Ffy_ent), (94, Ffbr_ent)]
def Ffbf_Q (x : (List Event) × Unit) (r : (List Event)) : St → Prop := QF Ffbf_E Tryd.f70 [true, false] (Ffbf_A x) (Ffbf_R r)
theorem Ffbf_run (x_4 : List Event) (cmp_5 : Unit) (r : (List Event)) (h : Ffbf x_4 cmp_5 = some r) : RunF Ffbf_E Tryd.f70 [true, false] 1 (Ffbf_A (x_4, cmp_5)) (Ffbf_R r) := by
 show Run _ _ (Ffbf_Q (x_4, cmp_5) r) [.code Ffbf_c] _
 refine rin (n := 14) [(0, .hs 1 0 [] 4 0 ((x_4).map enc_Event).length), (1, .fn 52 [])] [(1, some ⟨0, 4, (x_4).map enc_Event⟩)] 2 (by kernel_rfl) (by kernel_rfl) (by kernel_rfl) rfl ?_
 unfold Ffbf at h
 refine c0 3 [5] [.hs 1 0 [] 4 0 ((x_4).map enc_Event).length] 18 (by kernel_rfl) ?_
 refine o 34 (I ((len x_4))) rfl rfl (e_len rfl rfl rfl (l_hsM (f := enc_Event) (xs := x_4) rfl rfl)) ?_
 refine c0 7 [7, 8, 10] [.hs 1 0 [] 4 0 ((x_4).map enc_Event).length, I ((len x_4)), .int .u64 ((IntKind.u64.wrap (len x_4)))] 114 (by kernel_rfl) ?_
 obtain ⟨r3, hr3, h⟩ := bS h
 refine o 130 (I (r3)) rfl rfl (e_callV rfl rfl (call_P rfl rfl rfl (avS (shP rfl) (avN)) (Ffy_F hr3) (.inr rfl) (bl_n) rfl rfl rfl)) ?_
 refine c0 1 [12] [.fn 52 []] 146 (by kernel_rfl) ?_
 obtain ⟨r4, hr4, h⟩ := bS h
 obtain ⟨g5, h⟩ := gG h
 refine o 162 (.tup []) rfl rfl (e_callV rfl rfl (call_P rfl rfl rfl (avO (hd1 rfl (hd_hs (path := []) rfl rfl (ra_n) rfl)) (avS (shP rfl) (avS (shP rfl) (avS (shP rfl) (avS (shP rfl) (avN)))))) (Ffbr_F hr4) (.inr rfl) (bl_c rfl rfl rfl rfl (bl_n)) rfl rfl rfl)) ?_
 try rw [len_eqM (f := enc_Event) (xs := x_4) (ys := r4) g5]
 refine ad 1 rfl ?_
 obtain ⟨g6, h⟩ := gG h
 obtain rfl := Option.some.inj h
 exact s_end ⟨_, fin (vs := []) rfl (absEN) rfl (ou_1 rfl (oc_hsG (f := enc_Event) (xs := r4) (by simpa using g6) rfl) (ou_f (ou_n))), kl_c (kl_n)⟩
theorem Ffbf_good {G : Go.Ln.Ground} : Good Tryd.prog G 70 Ffbf_ent := good_T (fnOf_good (gl_c Ffy_good (gl_c Ffbr_good (gl_n)))) agree_mk (Checked.mixed Tryd.checked) Tryd.func70 (n := 2) (m := 1) ⟨rfl, rfl, by decide⟩ (fun _ => ⟨rfl, rfl⟩) (fun a r h => Ffbf_run a.1 a.2 r h)
def Ffh_A : ((List Event) × Int) → List V := cA (slE enc_Event) (oA I)
def Ffh_R (r : (List Event) × Bool) : V × List V := (.tup [.usl 4 ((r.1).map enc_Event), B (r.2)], [])
noncomputable def Ffh_ent : Ent := entT [false, false] Ffh_A Ffh_R fun x => Ffh x.1 x.2
theorem Ffh_F {list_1 : List Event} {parties_2 : Int} {r} (h : Ffh list_1 parties_2 = some r) : (Ffh_ent).F (Ffh_A (list_1, parties_2)) = some (Ffh_R r) := entT_F (cA_inj (isl_inj enc_Event_inj) (oA_inj I_inj)) h
noncomputable def Ffh_c : Code := bodyOf Tryd.f39
noncomputable def Ffh_E : Env := mkE Tryd.prog [(50, Ffi_ent), (56, Ffba_ent), (70, Ffbf_ent)]
def Ffh_Q (x : (List Event) × Int) (r : (List Event) × Bool) : St → Prop := QF Ffh_E Tryd.f39 [false, false] (Ffh_A x) (Ffh_R r)
theorem Ffh_run (list_1 : List Event) (parties_2 : Int) (r : (List Event) × Bool) (h : Ffh list_1 parties_2 = some r) : RunF Ffh_E Tryd.f39 [false, false] 0 (Ffh_A (list_1, parties_2)) (Ffh_R r) := by
 show Run _ _ (Ffh_Q (list_1, parties_2) r) [.code Ffh_c] _
 refine rin (n := 16) [(0, .isl false ((list_1).map enc_Event)), (1, I (parties_2))] [] 1 (by kernel_rfl) (by kernel_rfl) (by kernel_rfl) rfl ?_
 unfold Ffh at h
 refine c0 10 [7, 8] [.isl false ((list_1).map enc_Event), I (parties_2)] 65 (by kernel_rfl) ?_
 obtain ⟨r3, hr3, h⟩ := bS h
 refine o 81 (B (r3)) rfl rfl (e_callV rfl rfl (call_P rfl rfl rfl (avS (shP rfl) (avS (shP rfl) (avN))) (Ffi_F hr3) (.inr rfl) (bl_n) rfl rfl rfl)) ?_
 refine c0 2 [10] [B ((!r3))] 97 (by kernel_rfl) ?_
 refine sc h rfl rfl (fun h => ?_) (fun h => ?_)
 · refine c0 5 [4, 5] [.isl true [], B (false)] 129 (by kernel_rfl) ?_
   refine run_own 4 0 4 145 (.hs 129 0 [] 4 0 0) rfl rfl rfl rfl rfl ?_
   obtain rfl := Option.some.inj h
   exact s_ret rfl ⟨_, fin (vs := [.hs 129 0 [] 4 0 0, B (false)]) rfl (absE (abs1 rfl (abs_hs rfl rfl)) (absE (absorb_plain rfl) (absEN))) rfl (ou_f (ou_f (ou_n))), kl_n⟩
 · refine ad 1 rfl ?_
   refine c0 3 [11] [.isl false ((list_1).map enc_Event)] 113 (by kernel_rfl) ?_
   obtain ⟨r4, hr4, h⟩ := bS h
   refine o 129 (.hs 113 0 [] 4 0 ((r4).map enc_Event).length) rfl rfl (e_callV rfl rfl (call_P rfl rfl rfl (avS (shP rfl) (avN)) (Ffba_F hr4) (.inr rfl) (bl_n) rfl rfl rfl)) ?_
   refine c0 5 [6, 13] [.hs 113 0 [] 4 0 ((r4).map enc_Event).length, .hs 113 0 [] 4 0 ((r4).map enc_Event).length] 161 (by kernel_rfl) ?_
   obtain ⟨r5, hr5, h⟩ := bS h
   obtain ⟨g6, h⟩ := gG h
   refine o 177 (.tup []) rfl rfl (e_callV rfl rfl (call_P rfl rfl rfl (avO (hd1 rfl (hd_hs (path := []) rfl rfl (ra_n) rfl)) (avS (shP rfl) (avN))) (Ffbf_F hr5) (.inr rfl) (bl_c rfl rfl rfl rfl (bl_n)) rfl rfl rfl)) ?_
   try rw [len_eqM (f := enc_Event) (xs := r4) (ys := r5) g6]
   refine c0 7 [4, 5] [.hs 113 0 [] 4 0 ((r5).map enc_Event).length, B (true)] 225 (by kernel_rfl) ?_
   obtain rfl := Option.some.inj h
   exact s_ret rfl ⟨_, fin (vs := [.hs 113 0 [] 4 0 ((r5).map enc_Event).length, B (true)]) rfl (absE (abs1 rfl (abs_hs rfl rfl)) (absE (absorb_plain rfl) (absEN))) rfl (ou_f (ou_f (ou_n))), kl_n⟩
theorem Ffh_good {G : Go.Ln.Ground} : Good Tryd.prog G 39 Ffh_ent := good_T (fnOf_good (gl_c Ffi_good (gl_c Ffba_good (gl_c Ffbf_good (gl_n))))) agree_mk (Checked.mixed Tryd.checked) Tryd.func39 (n := 2) (m := 0) ⟨rfl, rfl, by decide⟩ (fun _ => ⟨rfl, rfl⟩) (fun a r h => Ffh_run a.1 a.2 r h)
def Ffp_A : (Event × Event) → List V := cA enc_Event (oA enc_Event)
def Ffp_R (r : Bool) : V × List V := (B (r), [])
noncomputable def Ffp_ent : Ent := entT [false, false] Ffp_A Ffp_R fun x => Ffp x.1 x.2
theorem Ffp_F {a_1 : Event} {b_2 : Event} {r} (h : Ffp a_1 b_2 = some r) : (Ffp_ent).F (Ffp_A (a_1, b_2)) = some (Ffp_R r) := entT_F (cA_inj enc_Event_inj (oA_inj enc_Event_inj)) h
noncomputable def Ffp_c : Code := bodyOf Tryd.f53
noncomputable def Ffp_E : Env := mkE Tryd.prog []
def Ffp_Q (x : Event × Event) (r : Bool) : St → Prop := QF Ffp_E Tryd.f53 [false, false] (Ffp_A x) (Ffp_R r)
theorem Ffp_run (a_1 : Event) (b_2 : Event) (r : Bool) (h : Ffp a_1 b_2 = some r) : RunF Ffp_E Tryd.f53 [false, false] 0 (Ffp_A (a_1, b_2)) (Ffp_R r) := by
 show Run _ _ (Ffp_Q (a_1, b_2) r) [.code Ffp_c] _
 refine rin (n := 25) [(0, enc_Event a_1), (1, enc_Event b_2)] [] 1 (by kernel_rfl) (by kernel_rfl) (by kernel_rfl) rfl ?_
 unfold Ffp at h
 refine ck 15 [2, 3, 9] [] [1, 17] [] [.hp 1 0 [] 4 0 0, .hp 17 0 [] 4 0 0, B ((a_1.Day != b_2.Day))] [some ⟨0, 4, [enc_Event a_1]⟩, some ⟨0, 4, [enc_Event b_2]⟩] 129 (by kernel_rfl) ?_
 refine sc h rfl rfl (fun h => ?_) (fun h => ?_)
 · refine c0 4 [4] [B (false)] 145 (by kernel_rfl) ?_
   obtain rfl := Option.some.inj h
   exact s_ret rfl ⟨_, fin (vs := [B (false)]) rfl (absE (absorb_plain rfl) (absEN)) rfl (ou_f (ou_f (ou_n))), kl_n⟩
 · refine ad 1 rfl ?_
   refine c0 9 [14] [B ((a_1.Party != b_2.Party))] 209 (by kernel_rfl) ?_
   refine sc h rfl rfl (fun h => ?_) (fun h => ?_)
   · refine c0 4 [4] [B (false)] 225 (by kernel_rfl) ?_
     obtain rfl := Option.some.inj h
     exact s_ret rfl ⟨_, fin (vs := [B (false)]) rfl (absE (absorb_plain rfl) (absEN)) rfl (ou_f (ou_f (ou_n))), kl_n⟩
   · refine ad 1 rfl ?_
     refine c0 9 [19] [B ((!(a_1.Action == b_2.Action)))] 289 (by kernel_rfl) ?_
     refine sc h rfl rfl (fun h => ?_) (fun h => ?_)
     · refine c0 4 [4] [B (false)] 305 (by kernel_rfl) ?_
       obtain rfl := Option.some.inj h
       exact s_ret rfl ⟨_, fin (vs := [B (false)]) rfl (absE (absorb_plain rfl) (absEN)) rfl (ou_f (ou_f (ou_n))), kl_n⟩
     · refine ad 1 rfl ?_
       refine c0 9 [24] [B ((a_1.Amount != b_2.Amount))] 369 (by kernel_rfl) ?_
       refine sc h rfl rfl (fun h => ?_) (fun h => ?_)
       · refine c0 4 [4] [B (false)] 385 (by kernel_rfl) ?_
         obtain rfl := Option.some.inj h
         exact s_ret rfl ⟨_, fin (vs := [B (false)]) rfl (absE (absorb_plain rfl) (absEN)) rfl (ou_f (ou_f (ou_n))), kl_n⟩
       · refine ad 1 rfl ?_
         refine c0 4 [4] [B (true)] 385 (by kernel_rfl) ?_
         obtain rfl := Option.some.inj h
         exact s_ret rfl ⟨_, fin (vs := [B (true)]) rfl (absE (absorb_plain rfl) (absEN)) rfl (ou_f (ou_f (ou_n))), kl_n⟩
theorem Ffp_good {G : Go.Ln.Ground} : Good Tryd.prog G 53 Ffp_ent := good_T (fnOf_good (gl_n)) agree_mk (Checked.mixed Tryd.checked) Tryd.func53 (n := 2) (m := 0) ⟨rfl, rfl, by decide⟩ (fun _ => ⟨rfl, rfl⟩) (fun a r h => Ffp_run a.1 a.2 r h)
def Ffq_A : ((List Event) × (List Event)) → List V := cA (slE enc_Event) (oA (slE enc_Event))
def Ffq_R (r : Bool) : V × List V := (B (r), [])
noncomputable def Ffq_ent : Ent := entT [false, false] Ffq_A Ffq_R fun x => Ffq x.1 x.2
theorem Ffq_F {a_1 : List Event} {b_2 : List Event} {r} (h : Ffq a_1 b_2 = some r) : (Ffq_ent).F (Ffq_A (a_1, b_2)) = some (Ffq_R r) := entT_F (cA_inj (isl_inj enc_Event_inj) (oA_inj (isl_inj enc_Event_inj))) h
noncomputable def Ffq_c : Code := bodyOf Tryd.f17
noncomputable def Ffq_E : Env := mkE Tryd.prog [(53, Ffp_ent)]
def Ffq_Q (x : (List Event) × (List Event)) (r : Bool) : St → Prop := QF Ffq_E Tryd.f17 [false, false] (Ffq_A x) (Ffq_R r)
theorem Ffq_la_run (a_1 : List Event) (b_2 : List Event)  {Q : St → Prop} {K : List It} (hK : noD K = true) {x3 : Int} {y : Bool ⊕ Unit} (h : Ffq_la a_1 b_2 x3 = some y) : (∀ r', y = .inl r' → ∀ st, Ffq_Q (a_1, b_2) r' st → Q st) → (∀ u : Unit, y = .inr u → Run Ffq_E 0 Q K ⟨mkTm .dead 27 [], mkS (rtL [] 1), 1⟩) → Run Ffq_E 0 Q (.code (cL (cL (cR (cL (cR (cR Ffq_c)))))) :: .lp (cL (cL (cR (cL (cR (cR Ffq_c)))))) :: .blk 0 :: K) ⟨mkTm .dead 27 [(0, .isl false ((a_1).map enc_Event)), (1, .isl false ((b_2).map enc_Event)), (5, I (x3))], mkS (rtL [] 1), 1⟩ := by
 refine fix_ind (P := fun (x3 : Int) (y : Bool ⊕ Unit) => (∀ r', y = .inl r' → ∀ st, Ffq_Q (a_1, b_2) r' st → Q st) → (∀ u : Unit, y = .inr u → Run Ffq_E 0 Q K ⟨mkTm .dead 27 [], mkS (rtL [] 1), 1⟩) → Run Ffq_E 0 Q (.code (cL (cL (cR (cL (cR (cR Ffq_c)))))) :: .lp (cL (cL (cR (cL (cR (cR Ffq_c)))))) :: .blk 0 :: K) ⟨mkTm .dead 27 [(0, .isl false ((a_1).map enc_Event)), (1, .isl false ((b_2).map enc_Event)), (5, I (x3))], mkS (rtL [] 1), 1⟩) (Ffq_la_fin a_1 b_2) ?_ h
 clear h y x3
 intro self ih x3 y h hr hn
 unfold Ffq_la_F at h
 refine c0 5 [11, 12] [I (x3), .isl false ((a_1).map enc_Event)] 33 (by kernel_rfl) ?_
 refine o 49 (I ((len a_1))) rfl rfl (e_len rfl rfl rfl (l_isl rfl)) ?_
 refine c0 2 [14] [B ((decide (x3 < (len a_1))))] 65 (by kernel_rfl) ?_
 refine sc h rfl rfl (fun h => ?_) (fun h => ?_)
 · refine ad 1 rfl ?_
   refine ad 3 rfl ?_
   refine s_draw [0, 0, 3, 7, 0, 0, 48, 112, 255, 511] rfl (by decide +kernel) ?_
   refine dp [] [] (.isl false ((a_1).map enc_Event)) rfl (e_move rfl) rfl (rfl) (by decide) ?_
   refine dp [] [] (I (x3)) rfl (e_move rfl) rfl (rfl) (by decide) ?_
   obtain ⟨e4, he4, h⟩ := bS h
   refine dp [] [] (.iptr (enc_Event e4) 0) rfl (e_indexAddr rfl rfl rfl (ix_islE rfl rfl rfl rfl he4)) rfl (rfl) (by decide) ?_
   refine dp [] [] (enc_Event e4) rfl (e_ld rfl rfl) rfl (rfl) (by decide) ?_
   refine dp [] [] (.isl false ((b_2).map enc_Event)) rfl (e_move rfl) rfl (rfl) (by decide) ?_
   refine dp [] [] (I (x3)) rfl (e_move rfl) rfl (rfl) (by decide) ?_
   obtain ⟨e5, he5, h⟩ := bS h
   refine dp [] [] (.iptr (enc_Event e5) 0) rfl (e_indexAddr rfl rfl rfl (ix_islE rfl rfl rfl rfl he5)) rfl (rfl) (by decide) ?_
   refine dp [] [] (enc_Event e5) rfl (e_ld rfl rfl) rfl (rfl) (by decide) ?_
   obtain ⟨r6, hr6, h⟩ := bS h
   refine dp [] [] (B (r6)) rfl (e_callV rfl rfl (call_P rfl rfl rfl (avS (shP rfl) (avS (shP rfl) (avN))) (Ffp_F hr6) (.inr rfl) (bl_n) rfl rfl rfl)) rfl (w_callO rfl rfl rfl rfl (avS (shP rfl) (avS (shP rfl) (avN))) (Ffp_F hr6) (.inr rfl) rfl) (by decide) ?_
   refine dp [] [] (B ((!r6))) rfl (e_un rfl rfl) rfl (rfl) (by decide) ?_
   refine de 225 rfl rfl ?_
   refine sc h rfl rfl (fun h => ?_) (fun h => ?_)
   · refine c0 4 [4] [B (false)] 241 (by kernel_rfl) ?_
     exact s_ret rfl (hr _ (Option.some.inj h).symm _ ⟨_, fin (vs := [B (false)]) rfl (absE (absorb_plain rfl) (absEN)) rfl (ou_f (ou_f (ou_n))), kl_n⟩)
   · refine ad 1 rfl ?_
     refine c0 6 [5] [I ((w64 (x3 + 1)))] 273 (by kernel_rfl) ?_
     refine s_lp ?_
     refine run_forget [0, 1, 5] [] [] rfl rfl rfl rfl ?_
     exact ih _ _ h hr hn
 · refine ad 1 rfl ?_
   refine run_forget [] [] [] rfl rfl rfl hK ?_
   exact hn _ (Option.some.inj h).symm
theorem Ffq_run (a_1 : List Event) (b_2 : List Event) (r : Bool) (h : Ffq a_1 b_2 = some r) : RunF Ffq_E Tryd.f17 [false, false] 0 (Ffq_A (a_1, b_2)) (Ffq_R r) := by
 show Run _ _ (Ffq_Q (a_1, b_2) r) [.code Ffq_c] _
 refine rin (n := 27) [(0, .isl false ((a_1).map enc_Event)), (1, .isl false ((b_2).map enc_Event))] [] 1 (by kernel_rfl) (by kernel_rfl) (by kernel_rfl) rfl ?_
 unfold Ffq at h
 refine c0 8 [6] [.isl false ((a_1).map enc_Event)] 33 (by kernel_rfl) ?_
 refine o 49 (I ((len a_1))) rfl rfl (e_len rfl rfl rfl (l_isl rfl)) ?_
 refine c0 1 [8] [.isl false ((b_2).map enc_Event)] 65 (by kernel_rfl) ?_
 refine o 81 (I ((len b_2))) rfl rfl (e_len rfl rfl rfl (l_isl rfl)) ?_
 refine c0 2 [10] [B (((len a_1) != (len b_2)))] 97 (by kernel_rfl) ?_
 refine sc h rfl rfl (fun h => ?_) (fun h => ?_)
 · refine c0 4 [4] [B (false)] 113 (by kernel_rfl) ?_
   obtain rfl := Option.some.inj h
   exact s_ret rfl ⟨_, fin (vs := [B (false)]) rfl (absE (absorb_plain rfl) (absEN)) rfl (ou_f (ou_f (ou_n))), kl_n⟩
 · refine ad 1 rfl ?_
   refine c0 6 [5] [I (0)] 113 (by kernel_rfl) ?_
   obtain ⟨y7, hy7, hy71, hy72⟩ := bJ h
   refine s_loop rfl ?_
   refine run_forget [0, 1, 5] [] [] rfl rfl rfl rfl ?_
   refine Ffq_la_run a_1 b_2 rfl hy7 (fun r' e st hq => by rw [hy71 r' e] at hq; exact hq) (fun u7 hu => ?_)
   replace h := hy72 u7 hu
   refine c0 4 [4] [B (true)] 17 (by kernel_rfl) ?_
   obtain rfl := Option.some.inj h
   exact s_ret rfl ⟨_, fin (vs := [B (true)]) rfl (absE (absorb_plain rfl) (absEN)) rfl (ou_f (ou_f (ou_n))), kl_n⟩
theorem Ffq_good {G : Go.Ln.Ground} : Good Tryd.prog G 17 Ffq_ent := good_T (fnOf_good (gl_c Ffp_good (gl_n))) agree_mk (Checked.mixed Tryd.checked) Tryd.func17 (n := 2) (m := 0) ⟨rfl, rfl, by decide⟩ (fun _ => ⟨rfl, rfl⟩) (fun a r h => Ffq_run a.1 a.2 r h)
def Fft_A : Int → List V := oA I
def Fft_R (r : Str) : V × List V := (str (r), [])
noncomputable def Fft_ent : Ent := entT [false] Fft_A Fft_R fun x => Fft x
theorem Fft_F {k_1 : Int} {r} (h : Fft k_1 = some r) : (Fft_ent).F (Fft_A k_1) = some (Fft_R r) := entT_F (oA_inj I_inj) h
noncomputable def Fft_c : Code := bodyOf Tryd.f57
noncomputable def Fft_E : Env := mkE Tryd.prog []
def Fft_Q (x : Int) (r : Str) : St → Prop := QF Fft_E Tryd.f57 [false] (Fft_A x) (Fft_R r)
theorem Fft_la_run (k_1 : Int)  {Q : St → Prop} {K : List It} (hK : noD K = true) {x2 : Int × Str} {y : Str ⊕ Str} (h : Fft_la k_1 x2 = some y) : (∀ r', y = .inl r' → ∀ st, Fft_Q k_1 r' st → Q st) → (∀ u : Str, y = .inr u → Run Fft_E 0 Q K ⟨mkTm .dead 20 [(3, str (u))], mkS (rtL [] 1), 1⟩) → Run Fft_E 0 Q (.code (cL (cL (cL (cR (cR (cR Fft_c)))))) :: .lp (cL (cL (cL (cR (cR (cR Fft_c)))))) :: .blk 0 :: K) ⟨mkTm .dead 20 [(0, I (x2.1)), (3, str (x2.2))], mkS (rtL [] 1), 1⟩ := by
 refine fix_ind (P := fun (x2 : Int × Str) (y : Str ⊕ Str) => (∀ r', y = .inl r' → ∀ st, Fft_Q k_1 r' st → Q st) → (∀ u : Str, y = .inr u → Run Fft_E 0 Q K ⟨mkTm .dead 20 [(3, str (u))], mkS (rtL [] 1), 1⟩) → Run Fft_E 0 Q (.code (cL (cL (cL (cR (cR (cR Fft_c)))))) :: .lp (cL (cL (cL (cR (cR (cR Fft_c)))))) :: .blk 0 :: K) ⟨mkTm .dead 20 [(0, I (x2.1)), (3, str (x2.2))], mkS (rtL [] 1), 1⟩) (Fft_la_fin k_1) ?_ h
 clear h y x2
 intro self ih x2 y h hr hn
 unfold Fft_la_F at h
 refine c0 6 [7] [B ((decide (x2.1 > 0)))] 33 (by kernel_rfl) ?_
 refine sc h rfl rfl (fun h => ?_) (fun h => ?_)
 · refine ad 1 rfl ?_
   refine c0 7 [11] [.int .u8 ((IntKind.u8.wrap (w64 (48 + (x2.1.tmod 10)))))] 97 (by kernel_rfl) ?_
   refine o 113 (.hs 97 0 [] 1 0 1) rfl rfl (e_buildSlice rfl (bs_mk (f := I) (xs := []) (z := .int .u8 (0)) (es := [.int .u8 ((IntKind.u8.wrap (w64 (48 + (x2.1.tmod 10)))))]) (ws := [.int .u8 ((IntKind.u8.wrap (w64 (48 + (x2.1.tmod 10)))))]) rfl rfl rfl (by decide) rfl (abs_each_plain rfl) rfl)) ?_
   refine o 129 (str (([(IntKind.u8.wrap (w64 (48 + (x2.1.tmod 10))))].map fun n => UInt8.ofNat n.toNat))) rfl rfl (e_conv rfl (cv_bytes (xs := [(IntKind.u8.wrap (w64 (48 + (x2.1.tmod 10))))]) rfl rfl rfl (rw_hs (path := []) rfl rfl (ra_n) rfl))) ?_
   refine c0 1 [14] [str (x2.2)] 145 (by kernel_rfl) ?_
   obtain ⟨s3, hs3, h⟩ := bS h
   refine o 161 (str (s3)) rfl rfl (e_bin rfl rfl (b_cat hs3)) ?_
   refine c0 8 [0, 3] [I ((w64 (x2.1.tdiv 10))), str (s3)] 225 (by kernel_rfl) ?_
   refine s_lp ?_
   refine run_forget [0, 3] [] [] rfl rfl rfl rfl ?_
   exact ih _ _ h hr hn
 · refine ad 1 rfl ?_
   refine run_forget [3] [] [] rfl rfl rfl hK ?_
   exact hn _ (Option.some.inj h).symm
theorem Fft_run (k_1 : Int) (r : Str) (h : Fft k_1 = some r) : RunF Fft_E Tryd.f57 [false] 0 (Fft_A k_1) (Fft_R r) := by
 show Run _ _ (Fft_Q k_1 r) [.code Fft_c] _
 refine rin (n := 20) [(0, I (k_1))] [] 1 (by kernel_rfl) (by kernel_rfl) (by kernel_rfl) rfl ?_
 unfold Fft at h
 refine c0 10 [5] [B ((decide (k_1 ≤ 0)))] 49 (by kernel_rfl) ?_
 refine sc h rfl rfl (fun h => ?_) (fun h => ?_)
 · refine c0 4 [2] [str (([109, 48] : Str))] 65 (by kernel_rfl) ?_
   obtain rfl := Option.some.inj h
   exact s_ret rfl ⟨_, fin (vs := [str (([109, 48] : Str))]) rfl (absE (absorb_plain rfl) (absEN)) rfl (ou_f (ou_n)), kl_n⟩
 · refine ad 1 rfl ?_
   refine c0 6 [3] [str (([] : Str))] 65 (by kernel_rfl) ?_
   obtain ⟨y4, hy4, hy41, hy42⟩ := bJ h
   refine s_loop rfl ?_
   refine run_forget [0, 3] [] [] rfl rfl rfl rfl ?_
   refine Fft_la_run k_1 rfl hy4 (fun r' e st hq => by rw [hy41 r' e] at hq; exact hq) (fun u4 hu => ?_)
   replace h := hy42 u4 hu
   refine c0 3 [18] [str (u4)] 17 (by kernel_rfl) ?_
   obtain ⟨s5, hs5, h⟩ := bS h
   refine o 33 (str (s5)) rfl rfl (e_bin rfl rfl (b_cat hs5)) ?_
   refine c0 2 [2] [str (s5)] 49 (by kernel_rfl) ?_
   obtain rfl := Option.some.inj h
   exact s_ret rfl ⟨_, fin (vs := [str (s5)]) rfl (absE (absorb_plain rfl) (absEN)) rfl (ou_f (ou_n)), kl_n⟩
theorem Fft_good {G : Go.Ln.Ground} : Good Tryd.prog G 57 Fft_ent := good_T (fnOf_good (gl_n)) agree_mk (Checked.mixed Tryd.checked) Tryd.func57 (n := 1) (m := 0) ⟨rfl, rfl, by decide⟩ (fun _ => ⟨rfl, rfl⟩) (fun a r h => Fft_run a r h)
def Ffs_A : ((List Event) × Int) → List V := cA (usE 4 enc_Event) (oA I)
def Ffs_R (r : Int × (List Event)) : V × List V := (I (r.1), [.usl 4 ((r.2).map enc_Event)])
noncomputable def Ffs_ent : Ent := entT [true, false] Ffs_A Ffs_R fun x => Ffs x.1 x.2
theorem Ffs_F {a_6 : List Event} {k_7 : Int} {r} (h : Ffs a_6 k_7 = some r) : (Ffs_ent).F (Ffs_A (a_6, k_7)) = some (Ffs_R r) := entT_F (cA_inj (usl_inj enc_Event_inj) (oA_inj I_inj)) h
noncomputable def Ffs_c : Code := bodyOf Tryd.f22
noncomputable def Ffs_E : Env := mkE Tryd.prog [(57, Fft_ent)]
def Ffs_Q (x : (List Event) × Int) (r : Int × (List Event)) : St → Prop := QF Ffs_E Tryd.f22 [true, false] (Ffs_A x) (Ffs_R r)
theorem Ffs_la_run (a_6 : List Event) (k_7 : Int)  {Q : St → Prop} {K : List It} (hK : noD K = true) {x3 : Int × Int × (List Event)} {y : (Int × (List Event)) ⊕ (Int × (List Event))} (h : Ffs_la a_6 k_7 x3 = some y) : (∀ r', y = .inl r' → ∀ st, Ffs_Q (a_6, k_7) r' st → Q st) → (∀ u : Int × (List Event), y = .inr u → Run Ffs_E 1 Q K ⟨mkTm .dead 42 [(1, I (u.1))], mkS (rtL [⟨0, 4, (u.2).map enc_Event⟩] 1), 2⟩) → Run Ffs_E 1 Q (.code (cL (cL (cR (cL (cR Ffs_c))))) :: .lp (cL (cL (cR (cL (cR Ffs_c))))) :: .blk 0 :: K) ⟨mkTm .dead 42 [(0, .hs 1 0 [] 4 0 ((x3.2.2).map enc_Event).length), (1, I (x3.1)), (5, I (x3.2.1))], mkS (rtL [⟨0, 4, (x3.2.2).map enc_Event⟩] 1), 2⟩ := by
 refine fix_ind (P := fun (x3 : Int × Int × (List Event)) (y : (Int × (List Event)) ⊕ (Int × (List Event))) => (∀ r', y = .inl r' → ∀ st, Ffs_Q (a_6, k_7) r' st → Q st) → (∀ u : Int × (List Event), y = .inr u → Run Ffs_E 1 Q K ⟨mkTm .dead 42 [(1, I (u.1))], mkS (rtL [⟨0, 4, (u.2).map enc_Event⟩] 1), 2⟩) → Run Ffs_E 1 Q (.code (cL (cL (cR (cL (cR Ffs_c))))) :: .lp (cL (cL (cR (cL (cR Ffs_c))))) :: .blk 0 :: K) ⟨mkTm .dead 42 [(0, .hs 1 0 [] 4 0 ((x3.2.2).map enc_Event).length), (1, I (x3.1)), (5, I (x3.2.1))], mkS (rtL [⟨0, 4, (x3.2.2).map enc_Event⟩] 1), 2⟩) (Ffs_la_fin a_6 k_7) ?_ h
 clear h y x3
 intro self ih x3 y h hr hn
 unfold Ffs_la_F at h
 refine c0 5 [6, 7] [I (x3.2.1), .hs 1 0 [] 4 0 ((x3.2.2).map enc_Event).length] 34 (by kernel_rfl) ?_
 refine o 50 (I ((len x3.2.2))) rfl rfl (e_len rfl rfl rfl (l_hsM (f := enc_Event) (xs := x3.2.2) rfl rfl)) ?_
 refine c0 2 [9] [B ((decide (x3.2.1 < (len x3.2.2))))] 66 (by kernel_rfl) ?_
 refine sc h rfl rfl (fun h => ?_) (fun h => ?_)
 · refine ad 1 rfl ?_
   refine c0 7 [12, 13, 14] [.hs 1 0 [] 4 0 ((x3.2.2).map enc_Event).length, I (x3.2.1), I (x3.1)] 114 (by kernel_rfl) ?_
   obtain ⟨e4, he4, h⟩ := bS h
   refine o 130 (.hp 1 0 [] 4 (0 + Int.toNat (x3.2.1)) 0) rfl rfl (e_indexAddr rfl rfl rfl (ix_hsM (f := enc_Event) (xs := x3.2.2) rfl rfl rfl he4)) ?_
   refine c0 1 [16] [.hp 1 0 [] 4 (0 + Int.toNat (x3.2.1)) 0] 146 (by kernel_rfl) ?_
   refine o0 162 rfl rfl (e_st rfl rfl (st_at (path := []) (pl := true) (e' := .agg [I (x3.1), I (e4.Party), str (e4.Action), I (e4.Amount)]) (es2' := ((setI x3.2.2 x3.2.1 (Event.mk x3.1 e4.Party e4.Action e4.Amount))).map enc_Event) rfl (absorb_plain rfl) rfl rfl rfl (ra_n) (get_map (f := enc_Event) (xs := x3.2.2) he4) rfl rfl rfl (set_map (f := enc_Event) (xs := x3.2.2) (y := (Event.mk x3.1 e4.Party e4.Action e4.Amount))) (sr_n) 0 rfl)) ?_
   try rw [← len_setM (f := enc_Event) (xs := x3.2.2) (i := x3.2.1) (z := (Event.mk x3.1 e4.Party e4.Action e4.Amount))]
   refine c0 12 [1, 19, 20, 21] [I ((w64 (x3.1 + 1))), .hs 1 0 [] 4 0 (((setI x3.2.2 x3.2.1 (Event.mk x3.1 e4.Party e4.Action e4.Amount))).map enc_Event).length, I (x3.2.1), I ((w64 (x3.1 + 1)))] 258 (by kernel_rfl) ?_
   obtain ⟨e5, he5, h⟩ := bS h
   refine o 274 (.hp 1 0 [] 4 (0 + Int.toNat (x3.2.1)) 0) rfl rfl (e_indexAddr rfl rfl rfl (ix_hsM (f := enc_Event) (xs := (setI x3.2.2 x3.2.1 (Event.mk x3.1 e4.Party e4.Action e4.Amount))) rfl rfl rfl he5)) ?_
   refine c0 1 [23] [.hp 1 0 [] 4 (0 + Int.toNat (x3.2.1)) 1] 290 (by kernel_rfl) ?_
   obtain ⟨w6, hw6⟩ : ∃ w, getI (setI (setI x3.2.2 x3.2.1 (Event.mk x3.1 e4.Party e4.Action e4.Amount)) x3.2.1 (Event.mk e5.Day (w64 (x3.1 + 1)) e5.Action e5.Amount)) x3.2.1 = some w := get_exI (get_set he4)
   refine o0 306 rfl rfl (e_st rfl rfl (st_at (path := []) (pl := true) (e' := .agg [I (e5.Day), I ((w64 (x3.1 + 1))), str (e5.Action), I (e5.Amount)]) (es2' := ((setI (setI x3.2.2 x3.2.1 (Event.mk x3.1 e4.Party e4.Action e4.Amount)) x3.2.1 (Event.mk e5.Day (w64 (x3.1 + 1)) e5.Action e5.Amount))).map enc_Event) rfl (absorb_plain rfl) rfl rfl rfl (ra_n) (get_map (f := enc_Event) (xs := (setI x3.2.2 x3.2.1 (Event.mk x3.1 e4.Party e4.Action e4.Amount))) he5) rfl rfl rfl (set_map (f := enc_Event) (xs := (setI x3.2.2 x3.2.1 (Event.mk x3.1 e4.Party e4.Action e4.Amount))) (y := (Event.mk e5.Day (w64 (x3.1 + 1)) e5.Action e5.Amount))) (sr_n) 0 rfl)) ?_
   try rw [← len_setM (f := enc_Event) (xs := (setI x3.2.2 x3.2.1 (Event.mk x3.1 e4.Party e4.Action e4.Amount))) (i := x3.2.1) (z := (Event.mk e5.Day (w64 (x3.1 + 1)) e5.Action e5.Amount))]
   refine c0 12 [1, 26, 27, 28] [I ((w64 ((w64 (x3.1 + 1)) + 1))), .hs 1 0 [] 4 0 (((setI (setI x3.2.2 x3.2.1 (Event.mk x3.1 e4.Party e4.Action e4.Amount)) x3.2.1 (Event.mk e5.Day (w64 (x3.1 + 1)) e5.Action e5.Amount))).map enc_Event).length, I (x3.2.1), I ((w64 ((w64 (x3.1 + 1)) + 1)))] 402 (by kernel_rfl) ?_
   obtain ⟨r7, hr7, h⟩ := bS h
   refine o 418 (str (r7)) rfl rfl (e_callV rfl rfl (call_P rfl rfl rfl (avS (shP rfl) (avN)) (Fft_F hr7) (.inr rfl) (bl_n) rfl rfl rfl)) ?_
   obtain ⟨e8, he8, h⟩ := bS h
   refine o 434 (.hp 1 0 [] 4 (0 + Int.toNat (x3.2.1)) 0) rfl rfl (e_indexAddr rfl rfl rfl (ix_hsM (f := enc_Event) (xs := (setI (setI x3.2.2 x3.2.1 (Event.mk x3.1 e4.Party e4.Action e4.Amount)) x3.2.1 (Event.mk e5.Day (w64 (x3.1 + 1)) e5.Action e5.Amount))) rfl rfl rfl he8)) ?_
   refine c0 1 [31] [.hp 1 0 [] 4 (0 + Int.toNat (x3.2.1)) 2] 450 (by kernel_rfl) ?_
   obtain ⟨w9, hw9⟩ : ∃ w, getI (setI (setI (setI x3.2.2 x3.2.1 (Event.mk x3.1 e4.Party e4.Action e4.Amount)) x3.2.1 (Event.mk e5.Day (w64 (x3.1 + 1)) e5.Action e5.Amount)) x3.2.1 (Event.mk e8.Day e8.Party r7 e8.Amount)) x3.2.1 = some w := get_exI hw6
   obtain ⟨w10, hw10⟩ : ∃ w, getI (setI (setI (setI x3.2.2 x3.2.1 (Event.mk x3.1 e4.Party e4.Action e4.Amount)) x3.2.1 (Event.mk e5.Day (w64 (x3.1 + 1)) e5.Action e5.Amount)) x3.2.1 (Event.mk e8.Day e8.Party r7 e8.Amount)) x3.2.1 = some w := get_exI (get_set he5)
   refine o0 466 rfl rfl (e_st rfl rfl (st_at (path := []) (pl := true) (e' := .agg [I (e8.Day), I (e8.Party), str (r7), I (e8.Amount)]) (es2' := ((setI (setI (setI x3.2.2 x3.2.1 (Event.mk x3.1 e4.Party e4.Action e4.Amount)) x3.2.1 (Event.mk e5.Day (w64 (x3.1 + 1)) e5.Action e5.Amount)) x3.2.1 (Event.mk e8.Day e8.Party r7 e8.Amount))).map enc_Event) rfl (absorb_plain rfl) rfl rfl rfl (ra_n) (get_map (f := enc_Event) (xs := (setI (setI x3.2.2 x3.2.1 (Event.mk x3.1 e4.Party e4.Action e4.Amount)) x3.2.1 (Event.mk e5.Day (w64 (x3.1 + 1)) e5.Action e5.Amount))) he8) rfl rfl rfl (set_map (f := enc_Event) (xs := (setI (setI x3.2.2 x3.2.1 (Event.mk x3.1 e4.Party e4.Action e4.Amount)) x3.2.1 (Event.mk e5.Day (w64 (x3.1 + 1)) e5.Action e5.Amount))) (y := (Event.mk e8.Day e8.Party r7 e8.Amount))) (sr_n) 0 rfl)) ?_
   try rw [← len_setM (f := enc_Event) (xs := (setI (setI x3.2.2 x3.2.1 (Event.mk x3.1 e4.Party e4.Action e4.Amount)) x3.2.1 (Event.mk e5.Day (w64 (x3.1 + 1)) e5.Action e5.Amount))) (i := x3.2.1) (z := (Event.mk e8.Day e8.Party r7 e8.Amount))]
   refine c0 12 [1, 34, 35, 36] [I ((w64 ((w64 ((w64 (x3.1 + 1)) + 1)) + 1))), .hs 1 0 [] 4 0 (((setI (setI (setI x3.2.2 x3.2.1 (Event.mk x3.1 e4.Party e4.Action e4.Amount)) x3.2.1 (Event.mk e5.Day (w64 (x3.1 + 1)) e5.Action e5.Amount)) x3.2.1 (Event.mk e8.Day e8.Party r7 e8.Amount))).map enc_Event).length, I (x3.2.1), I ((w64 ((w64 ((w64 (x3.1 + 1)) + 1)) + 1)))] 562 (by kernel_rfl) ?_
   obtain ⟨e11, he11, h⟩ := bS h
   refine o 578 (.hp 1 0 [] 4 (0 + Int.toNat (x3.2.1)) 0) rfl rfl (e_indexAddr rfl rfl rfl (ix_hsM (f := enc_Event) (xs := (setI (setI (setI x3.2.2 x3.2.1 (Event.mk x3.1 e4.Party e4.Action e4.Amount)) x3.2.1 (Event.mk e5.Day (w64 (x3.1 + 1)) e5.Action e5.Amount)) x3.2.1 (Event.mk e8.Day e8.Party r7 e8.Amount))) rfl rfl rfl he11)) ?_
   refine c0 1 [38] [.hp 1 0 [] 4 (0 + Int.toNat (x3.2.1)) 3] 594 (by kernel_rfl) ?_
   obtain ⟨w12, hw12⟩ : ∃ w, getI (setI (setI (setI (setI x3.2.2 x3.2.1 (Event.mk x3.1 e4.Party e4.Action e4.Amount)) x3.2.1 (Event.mk e5.Day (w64 (x3.1 + 1)) e5.Action e5.Amount)) x3.2.1 (Event.mk e8.Day e8.Party r7 e8.Amount)) x3.2.1 (Event.mk e11.Day e11.Party e11.Action (w64 ((w64 ((w64 (x3.1 + 1)) + 1)) + 1)))) x3.2.1 = some w := get_exI hw9
   obtain ⟨w13, hw13⟩ : ∃ w, getI (setI (setI (setI (setI x3.2.2 x3.2.1 (Event.mk x3.1 e4.Party e4.Action e4.Amount)) x3.2.1 (Event.mk e5.Day (w64 (x3.1 + 1)) e5.Action e5.Amount)) x3.2.1 (Event.mk e8.Day e8.Party r7 e8.Amount)) x3.2.1 (Event.mk e11.Day e11.Party e11.Action (w64 ((w64 ((w64 (x3.1 + 1)) + 1)) + 1)))) x3.2.1 = some w := get_exI hw10
   obtain ⟨w14, hw14⟩ : ∃ w, getI (setI (setI (setI (setI x3.2.2 x3.2.1 (Event.mk x3.1 e4.Party e4.Action e4.Amount)) x3.2.1 (Event.mk e5.Day (w64 (x3.1 + 1)) e5.Action e5.Amount)) x3.2.1 (Event.mk e8.Day e8.Party r7 e8.Amount)) x3.2.1 (Event.mk e11.Day e11.Party e11.Action (w64 ((w64 ((w64 (x3.1 + 1)) + 1)) + 1)))) x3.2.1 = some w := get_exI (get_set he8)
   refine o0 610 rfl rfl (e_st rfl rfl (st_at (path := []) (pl := true) (e' := .agg [I (e11.Day), I (e11.Party), str (e11.Action), I ((w64 ((w64 ((w64 (x3.1 + 1)) + 1)) + 1)))]) (es2' := ((setI (setI (setI (setI x3.2.2 x3.2.1 (Event.mk x3.1 e4.Party e4.Action e4.Amount)) x3.2.1 (Event.mk e5.Day (w64 (x3.1 + 1)) e5.Action e5.Amount)) x3.2.1 (Event.mk e8.Day e8.Party r7 e8.Amount)) x3.2.1 (Event.mk e11.Day e11.Party e11.Action (w64 ((w64 ((w64 (x3.1 + 1)) + 1)) + 1))))).map enc_Event) rfl (absorb_plain rfl) rfl rfl rfl (ra_n) (get_map (f := enc_Event) (xs := (setI (setI (setI x3.2.2 x3.2.1 (Event.mk x3.1 e4.Party e4.Action e4.Amount)) x3.2.1 (Event.mk e5.Day (w64 (x3.1 + 1)) e5.Action e5.Amount)) x3.2.1 (Event.mk e8.Day e8.Party r7 e8.Amount))) he11) rfl rfl rfl (set_map (f := enc_Event) (xs := (setI (setI (setI x3.2.2 x3.2.1 (Event.mk x3.1 e4.Party e4.Action e4.Amount)) x3.2.1 (Event.mk e5.Day (w64 (x3.1 + 1)) e5.Action e5.Amount)) x3.2.1 (Event.mk e8.Day e8.Party r7 e8.Amount))) (y := (Event.mk e11.Day e11.Party e11.Action (w64 ((w64 ((w64 (x3.1 + 1)) + 1)) + 1))))) (sr_n) 0 rfl)) ?_
   try rw [← len_setM (f := enc_Event) (xs := (setI (setI (setI x3.2.2 x3.2.1 (Event.mk x3.1 e4.Party e4.Action e4.Amount)) x3.2.1 (Event.mk e5.Day (w64 (x3.1 + 1)) e5.Action e5.Amount)) x3.2.1 (Event.mk e8.Day e8.Party r7 e8.Amount))) (i := x3.2.1) (z := (Event.mk e11.Day e11.Party e11.Action (w64 ((w64 ((w64 (x3.1 + 1)) + 1)) + 1))))]
   refine c0 12 [1, 5] [I ((w64 ((w64 ((w64 ((w64 (x3.1 + 1)) + 1)) + 1)) + 1))), I ((w64 (x3.2.1 + 1)))] 706 (by kernel_rfl) ?_
   refine s_lp ?_
   refine run_forget [0, 1, 5] [1] [⟨0, 4, ((setI (setI (setI (setI x3.2.2 x3.2.1 (Event.mk x3.1 e4.Party e4.Action e4.Amount)) x3.2.1 (Event.mk e5.Day (w64 (x3.1 + 1)) e5.Action e5.Amount)) x3.2.1 (Event.mk e8.Day e8.Party r7 e8.Amount)) x3.2.1 (Event.mk e11.Day e11.Party e11.Action (w64 ((w64 ((w64 (x3.1 + 1)) + 1)) + 1))))).map enc_Event⟩] rfl rfl rfl rfl ?_
   exact ih _ _ h hr hn
 · refine ad 1 rfl ?_
   refine run_forget [1] [1] [⟨0, 4, (x3.2.2).map enc_Event⟩] rfl rfl rfl hK ?_
   exact hn _ (Option.some.inj h).symm
theorem Ffs_run (a_6 : List Event) (k_7 : Int) (r : Int × (List Event)) (h : Ffs a_6 k_7 = some r) : RunF Ffs_E Tryd.f22 [true, false] 1 (Ffs_A (a_6, k_7)) (Ffs_R r) := by
 show Run _ _ (Ffs_Q (a_6, k_7) r) [.code Ffs_c] _
 refine rin (n := 42) [(0, .hs 1 0 [] 4 0 ((a_6).map enc_Event).length), (1, I (k_7))] [(1, some ⟨0, 4, (a_6).map enc_Event⟩)] 2 (by kernel_rfl) (by kernel_rfl) (by kernel_rfl) rfl ?_
 unfold Ffs at h
 refine c0 10 [5] [I (0)] 34 (by kernel_rfl) ?_
 obtain ⟨y15, hy15, hy151, hy152⟩ := bJ h
 refine s_loop rfl ?_
 refine run_forget [0, 1, 5] [1] [⟨0, 4, (a_6).map enc_Event⟩] rfl rfl rfl rfl ?_
 refine Ffs_la_run a_6 k_7 rfl hy15 (fun r' e st hq => by rw [hy151 r' e] at hq; exact hq) (fun u15 hu => ?_)
 replace h := hy152 u15 hu
 refine c0 5 [4] [I (u15.1)] 34 (by kernel_rfl) ?_
 obtain ⟨g16, h⟩ := gG h
 obtain rfl := Option.some.inj h
 exact s_ret rfl ⟨_, fin (vs := [I (u15.1)]) rfl (absE (absorb_plain rfl) (absEN)) rfl (ou_1 rfl (oc_hsG (f := enc_Event) (xs := u15.2) (by simpa using g16) rfl) (ou_f (ou_n))), kl_c (kl_n)⟩
theorem Ffs_good {G : Go.Ln.Ground} : Good Tryd.prog G 22 Ffs_ent := good_T (fnOf_good (gl_c Fft_good (gl_n))) agree_mk (Checked.mixed Tryd.checked) Tryd.func22 (n := 2) (m := 1) ⟨rfl, rfl, by decide⟩ (fun _ => ⟨rfl, rfl⟩) (fun a r h => Ffs_run a.1 a.2 r h)
def Ffr_A : ((List Event) × Int) → List V := cA (slE enc_Event) (oA I)
def Ffr_R (r : Int) : V × List V := (I (r), [])
noncomputable def Ffr_ent : Ent := entT [false, false] Ffr_A Ffr_R fun x => Ffr x.1 x.2
theorem Ffr_F {a_1 : List Event} {k_2 : Int} {r} (h : Ffr a_1 k_2 = some r) : (Ffr_ent).F (Ffr_A (a_1, k_2)) = some (Ffr_R r) := entT_F (cA_inj (isl_inj enc_Event_inj) (oA_inj I_inj)) h
noncomputable def Ffr_c : Code := bodyOf Tryd.f23
noncomputable def Ffr_E : Env := mkE Tryd.prog [(57, Fft_ent)]
def Ffr_Q (x : (List Event) × Int) (r : Int) : St → Prop := QF Ffr_E Tryd.f23 [false, false] (Ffr_A x) (Ffr_R r)
theorem Ffr_la_run (a_1 : List Event) (k_2 : Int)  {Q : St → Prop} {K : List It} (hK : noD K = true) {x3 : Int × Int} {y : Int ⊕ Int} (h : Ffr_la a_1 k_2 x3 = some y) : (∀ r', y = .inl r' → ∀ st, Ffr_Q (a_1, k_2) r' st → Q st) → (∀ u : Int, y = .inr u → Run Ffr_E 0 Q K ⟨mkTm .dead 50 [(1, I (u))], mkS (rtL [] 1), 1⟩) → Run Ffr_E 0 Q (.code (cL (cL (cR (cL (cR Ffr_c))))) :: .lp (cL (cL (cR (cL (cR Ffr_c))))) :: .blk 0 :: K) ⟨mkTm .dead 50 [(0, .isl false ((a_1).map enc_Event)), (1, I (x3.1)), (5, I (x3.2))], mkS (rtL [] 1), 1⟩ := by
 refine fix_ind (P := fun (x3 : Int × Int) (y : Int ⊕ Int) => (∀ r', y = .inl r' → ∀ st, Ffr_Q (a_1, k_2) r' st → Q st) → (∀ u : Int, y = .inr u → Run Ffr_E 0 Q K ⟨mkTm .dead 50 [(1, I (u))], mkS (rtL [] 1), 1⟩) → Run Ffr_E 0 Q (.code (cL (cL (cR (cL (cR Ffr_c))))) :: .lp (cL (cL (cR (cL (cR Ffr_c))))) :: .blk 0 :: K) ⟨mkTm .dead 50 [(0, .isl false ((a_1).map enc_Event)), (1, I (x3.1)), (5, I (x3.2))], mkS (rtL [] 1), 1⟩) (Ffr_la_fin a_1 k_2) ?_ h
 clear h y x3
 intro self ih x3 y h hr hn
 unfold Ffr_la_F at h
 refine c0 5 [6, 7] [I (x3.2), .isl false ((a_1).map enc_Event)] 33 (by kernel_rfl) ?_
 refine o 49 (I ((len a_1))) rfl rfl (e_len rfl rfl rfl (l_isl rfl)) ?_
 refine c0 2 [9] [B ((decide (x3.2 < (len a_1))))] 65 (by kernel_rfl) ?_
 refine sc h rfl rfl (fun h => ?_) (fun h => ?_)
 · refine ad 1 rfl ?_
   refine c0 7 [12, 13] [.isl false ((a_1).map enc_Event), I (x3.2)] 97 (by kernel_rfl) ?_
   obtain ⟨e4, he4, h⟩ := bS h
   refine o 113 (.iptr (enc_Event e4) 0) rfl rfl (e_indexAddr rfl rfl rfl (ix_islE rfl rfl rfl rfl he4)) ?_
   refine c0 5 [18] [B ((e4.Day != x3.1))] 177 (by kernel_rfl) ?_
   refine sc h rfl rfl (fun h => ?_) (fun h => ?_)
   · refine c0 4 [4] [I ((-1))] 193 (by kernel_rfl) ?_
     exact s_ret rfl (hr _ (Option.some.inj h).symm _ ⟨_, fin (vs := [I ((-1))]) rfl (absE (absorb_plain rfl) (absEN)) rfl (ou_f (ou_f (ou_n))), kl_n⟩)
   · refine ad 1 rfl ?_
     refine c0 11 [1, 21, 22] [I ((w64 (x3.1 + 1))), .isl false ((a_1).map enc_Event), I (x3.2)] 257 (by kernel_rfl) ?_
     obtain ⟨e5, he5, h⟩ := bS h
     refine o 273 (.iptr (enc_Event e5) 0) rfl rfl (e_indexAddr rfl rfl rfl (ix_islE rfl rfl rfl rfl he5)) ?_
     refine c0 5 [27] [B ((e5.Party != (w64 (x3.1 + 1))))] 337 (by kernel_rfl) ?_
     refine sc h rfl rfl (fun h => ?_) (fun h => ?_)
     · refine c0 4 [4] [I ((-1))] 353 (by kernel_rfl) ?_
       exact s_ret rfl (hr _ (Option.some.inj h).symm _ ⟨_, fin (vs := [I ((-1))]) rfl (absE (absorb_plain rfl) (absEN)) rfl (ou_f (ou_f (ou_n))), kl_n⟩)
     · refine ad 1 rfl ?_
       refine c0 8 [1] [I ((w64 ((w64 (x3.1 + 1)) + 1)))] 385 (by kernel_rfl) ?_
       refine s_draw [0, 0, 3, 7, 15, 0, 32, 127] rfl (by decide +kernel) ?_
       refine dp [] [] (.isl false ((a_1).map enc_Event)) rfl (e_move rfl) rfl (rfl) (by decide) ?_
       refine dp [] [] (I (x3.2)) rfl (e_move rfl) rfl (rfl) (by decide) ?_
       obtain ⟨e6, he6, h⟩ := bS h
       refine dp [] [] (.iptr (enc_Event e6) 0) rfl (e_indexAddr rfl rfl rfl (ix_islE rfl rfl rfl rfl he6)) rfl (rfl) (by decide) ?_
       refine dp [] [] (.iptr (enc_Event e6) 2) rfl (e_fieldAddr rfl rfl rfl) rfl (rfl) (by decide) ?_
       refine dp [] [] (str (e6.Action)) rfl (e_ld rfl rfl) rfl (rfl) (by decide) ?_
       refine dp [] [] (I ((w64 ((w64 (x3.1 + 1)) + 1)))) rfl (e_move rfl) rfl (rfl) (by decide) ?_
       obtain ⟨r7, hr7, h⟩ := bS h
       refine dp [] [] (str (r7)) rfl (e_callV rfl rfl (call_P rfl rfl rfl (avS (shP rfl) (avN)) (Fft_F hr7) (.inr rfl) (bl_n) rfl rfl rfl)) rfl (w_callO rfl rfl rfl rfl (avS (shP rfl) (avN)) (Fft_F hr7) (.inr rfl) rfl) (by decide) ?_
       refine dp [] [] (B ((!(e6.Action == r7)))) rfl (e_bin rfl rfl rfl) rfl (rfl) (by decide) ?_
       refine de 513 rfl rfl ?_
       refine sc h rfl rfl (fun h => ?_) (fun h => ?_)
       · refine c0 4 [4] [I ((-1))] 529 (by kernel_rfl) ?_
         exact s_ret rfl (hr _ (Option.some.inj h).symm _ ⟨_, fin (vs := [I ((-1))]) rfl (absE (absorb_plain rfl) (absEN)) rfl (ou_f (ou_f (ou_n))), kl_n⟩)
       · refine ad 1 rfl ?_
         refine c0 11 [1, 40, 41] [I ((w64 ((w64 ((w64 (x3.1 + 1)) + 1)) + 1))), .isl false ((a_1).map enc_Event), I (x3.2)] 593 (by kernel_rfl) ?_
         obtain ⟨e8, he8, h⟩ := bS h
         refine o 609 (.iptr (enc_Event e8) 0) rfl rfl (e_indexAddr rfl rfl rfl (ix_islE rfl rfl rfl rfl he8)) ?_
         refine c0 5 [46] [B ((e8.Amount != (w64 ((w64 ((w64 (x3.1 + 1)) + 1)) + 1))))] 673 (by kernel_rfl) ?_
         refine sc h rfl rfl (fun h => ?_) (fun h => ?_)
         · refine c0 4 [4] [I ((-1))] 689 (by kernel_rfl) ?_
           exact s_ret rfl (hr _ (Option.some.inj h).symm _ ⟨_, fin (vs := [I ((-1))]) rfl (absE (absorb_plain rfl) (absEN)) rfl (ou_f (ou_f (ou_n))), kl_n⟩)
         · refine ad 1 rfl ?_
           refine c0 11 [1, 5] [I ((w64 ((w64 ((w64 ((w64 (x3.1 + 1)) + 1)) + 1)) + 1))), I ((w64 (x3.2 + 1)))] 769 (by kernel_rfl) ?_
           refine s_lp ?_
           refine run_forget [0, 1, 5] [] [] rfl rfl rfl rfl ?_
           exact ih _ _ h hr hn
 · refine ad 1 rfl ?_
   refine run_forget [1] [] [] rfl rfl rfl hK ?_
   exact hn _ (Option.some.inj h).symm
theorem Ffr_run (a_1 : List Event) (k_2 : Int) (r : Int) (h : Ffr a_1 k_2 = some r) : RunF Ffr_E Tryd.f23 [false, false] 0 (Ffr_A (a_1, k_2)) (Ffr_R r) := by
 show Run _ _ (Ffr_Q (a_1, k_2) r) [.code Ffr_c] _
 refine rin (n := 50) [(0, .isl false ((a_1).map enc_Event)), (1, I (k_2))] [] 1 (by kernel_rfl) (by kernel_rfl) (by kernel_rfl) rfl ?_
 unfold Ffr at h
 refine c0 10 [5] [I (0)] 33 (by kernel_rfl) ?_
 obtain ⟨y9, hy9, hy91, hy92⟩ := bJ h
 refine s_loop rfl ?_
 refine run_forget [0, 1, 5] [] [] rfl rfl rfl rfl ?_
 refine Ffr_la_run a_1 k_2 rfl hy9 (fun r' e st hq => by rw [hy91 r' e] at hq; exact hq) (fun u9 hu => ?_)
 replace h := hy92 u9 hu
 refine c0 5 [4] [I (u9)] 33 (by kernel_rfl) ?_
 obtain rfl := Option.some.inj h
 exact s_ret rfl ⟨_, fin (vs := [I (u9)]) rfl (absE (absorb_plain rfl) (absEN)) rfl (ou_f (ou_f (ou_n))), kl_n⟩
theorem Ffr_good {G : Go.Ln.Ground} : Good Tryd.prog G 23 Ffr_ent := good_T (fnOf_good (gl_c Fft_good (gl_n))) agree_mk (Checked.mixed Tryd.checked) Tryd.func23 (n := 2) (m := 0) ⟨rfl, rfl, by decide⟩ (fun _ => ⟨rfl, rfl⟩) (fun a r h => Ffr_run a.1 a.2 r h)
def laws_FnExactSortEvents_A : ((List Event) × Int) → List V := cA (slE enc_Event) (oA I)
def laws_FnExactSortEvents_R (r : Bool) : V × List V := (B (r), [])
noncomputable def laws_FnExactSortEvents_ent : Ent := entT [false, false] laws_FnExactSortEvents_A laws_FnExactSortEvents_R fun x => laws_FnExactSortEvents x.1 x.2
theorem laws_FnExactSortEvents_F {aList_1 : List Event} {aParties_2 : Int} {r} (h : laws_FnExactSortEvents aList_1 aParties_2 = some r) : (laws_FnExactSortEvents_ent).F (laws_FnExactSortEvents_A (aList_1, aParties_2)) = some (laws_FnExactSortEvents_R r) := entT_F (cA_inj (isl_inj enc_Event_inj) (oA_inj I_inj)) h
noncomputable def laws_FnExactSortEvents_c : Code := bodyOf Tryd.f9
noncomputable def laws_FnExactSortEvents_E : Env := mkE Tryd.prog [(13, Ffv_ent), (15, Ffx_ent), (38, Ffbv_ent), (39, Ffh_ent), (17, Ffq_ent), (22, Ffs_ent), (23, Ffr_ent)]
def laws_FnExactSortEvents_Q (x : (List Event) × Int) (r : Bool) : St → Prop := QF laws_FnExactSortEvents_E Tryd.f9 [false, false] (laws_FnExactSortEvents_A x) (laws_FnExactSortEvents_R r)
theorem laws_FnExactSortEvents_run (aList_1 : List Event) (aParties_2 : Int) (r : Bool) (h : laws_FnExactSortEvents aList_1 aParties_2 = some r) : RunF laws_FnExactSortEvents_E Tryd.f9 [false, false] 0 (laws_FnExactSortEvents_A (aList_1, aParties_2)) (laws_FnExactSortEvents_R r) := by
 show Run _ _ (laws_FnExactSortEvents_Q (aList_1, aParties_2) r) [.code laws_FnExactSortEvents_c] _
 refine rin (n := 101) [(0, .isl false ((aList_1).map enc_Event)), (1, I (aParties_2))] [] 1 (by kernel_rfl) (by kernel_rfl) (by kernel_rfl) rfl ?_
 unfold laws_FnExactSortEvents at h
 refine c0 12 [16, 17] [.isl false ((aList_1).map enc_Event), I (1048576)] 65 (by kernel_rfl) ?_
 obtain ⟨r3, hr3, h⟩ := bS h
 refine o 81 (I (r3)) rfl rfl (e_callV rfl rfl (call_P rfl rfl rfl (avS (shP rfl) (avS (shP rfl) (avN))) (Ffv_F hr3) (.inr rfl) (bl_n) rfl rfl rfl)) ?_
 refine c0 8 [20] [B ((decide (r3 < 0)))] 129 (by kernel_rfl) ?_
 refine sc h rfl rfl (fun h => ?_) (fun h => ?_)
 · refine c0 4 [4] [B (true)] 145 (by kernel_rfl) ?_
   obtain rfl := Option.some.inj h
   exact s_ret rfl ⟨_, fin (vs := [B (true)]) rfl (absE (absorb_plain rfl) (absEN)) rfl (ou_f (ou_f (ou_n))), kl_n⟩
 · refine ad 1 rfl ?_
   refine c0 3 [22] [.isl false ((aList_1).map enc_Event)] 145 (by kernel_rfl) ?_
   obtain ⟨r4, hr4, h⟩ := bS h
   refine o 161 (.hs 145 0 [] 4 0 ((r4).map enc_Event).length) rfl rfl (e_callV rfl rfl (call_P rfl rfl rfl (avS (shP rfl) (avN)) (Ffx_F hr4) (.inr rfl) (bl_n) rfl rfl rfl)) ?_
   refine c0 1 [24] [I (aParties_2)] 177 (by kernel_rfl) ?_
   obtain ⟨r5, hr5, h⟩ := bS h
   refine o 193 (.tup [.hs 177 0 [] 4 0 ((r5.1).map enc_Event).length, B (r5.2)]) rfl rfl (e_callV rfl rfl (call_P rfl rfl rfl (avS (sh1 rfl rfl (sh_hsM (f := enc_Event) (g := enc_Event) (xs := r4) rfl rfl (imms_of enc_Event_imm))) (avS (shP rfl) (avN))) (Ffbv_F hr5) (.inl (by simp [hasImm, hasImms, str, himm_map (f := enc_Event) enc_Event_himm])) (bl_n) rfl rfl rfl)) ?_
   refine c0 9 [6, 7, 28] [.hs 177 0 [] 4 0 ((r5.1).map enc_Event).length, B (r5.2), .isl false ((aList_1).map enc_Event)] 289 (by kernel_rfl) ?_
   obtain ⟨r6, hr6, h⟩ := bS h
   refine o 305 (.hs 289 0 [] 4 0 ((r6).map enc_Event).length) rfl rfl (e_callV rfl rfl (call_P rfl rfl rfl (avS (shP rfl) (avN)) (Ffx_F hr6) (.inr rfl) (bl_n) rfl rfl rfl)) ?_
   refine c0 6 [8, 31, 32] [.hs 289 0 [] 4 0 ((r6).map enc_Event).length, .hs 289 0 [] 4 0 ((r6).map enc_Event).length, I (aParties_2)] 353 (by kernel_rfl) ?_
   obtain ⟨r7, hr7, h⟩ := bS h
   refine o 369 (.tup [.hs 353 0 [] 4 0 ((r7.1).map enc_Event).length, B (r7.2)]) rfl rfl (e_callV rfl rfl (call_P rfl rfl rfl (avS (sh1 rfl rfl (sh_hsM (f := enc_Event) (g := enc_Event) (xs := r6) rfl rfl (imms_of enc_Event_imm))) (avS (shP rfl) (avN))) (Ffh_F hr7) (.inl (by simp [hasImm, hasImms, str, himm_map (f := enc_Event) enc_Event_himm])) (bl_n) rfl rfl rfl)) ?_
   refine c0 11 [9, 10, 36, 37] [.hs 353 0 [] 4 0 ((r7.1).map enc_Event).length, B (r7.2), .hs 353 0 [] 4 0 ((r7.1).map enc_Event).length, .hs 177 0 [] 4 0 ((r5.1).map enc_Event).length] 481 (by kernel_rfl) ?_
   obtain ⟨r8, hr8, h⟩ := bS h
   refine o 497 (B (r8)) rfl rfl (e_callV rfl rfl (call_P rfl rfl rfl (avS (sh1 rfl rfl (sh_hsM (f := enc_Event) (g := enc_Event) (xs := r7.1) rfl rfl (imms_of enc_Event_imm))) (avS (sh1 rfl rfl (sh_hsM (f := enc_Event) (g := enc_Event) (xs := r5.1) rfl rfl (imms_of enc_Event_imm))) (avN))) (Ffq_F hr8) (.inl (rfl)) (bl_n) rfl rfl rfl)) ?_
   refine c0 2 [40] [B ((!r8))] 529 (by kernel_rfl) ?_
   obtain ⟨u9, hu9, h⟩ := lJ h
   have j9 : Run laws_FnExactSortEvents_E 0 (laws_FnExactSortEvents_Q (aList_1, aParties_2) r) (.code (cR (cL (cR (cR (cR (cR (cR (cR (cR laws_FnExactSortEvents_c))))))))) :: .code (cR (cR (cR (cR (cR (cR (cR (cR laws_FnExactSortEvents_c)))))))) :: []) ⟨mkTm .dead 101 [(0, .isl false ((aList_1).map enc_Event)), (1, I (aParties_2)), (6, .hs 1 0 [] 4 0 ((r5.1).map enc_Event).length), (7, B (r5.2)), (8, .hs 2 0 [] 4 0 ((r6).map enc_Event).length), (9, .hs 3 0 [] 4 0 ((r7.1).map enc_Event).length), (10, B (r7.2)), (44, B (u9))], mkS (rtL [⟨0, 4, (r5.1).map enc_Event⟩, ⟨0, 4, (r6).map enc_Event⟩, ⟨0, 4, (r7.1).map enc_Event⟩] 1), 4⟩ := by
     refine sc h rfl rfl (fun h => ?_) (fun h => ?_)
     · refine c0 4 [4] [B (false)] 20 (by kernel_rfl) ?_
       obtain rfl := Option.some.inj h
       exact s_ret rfl ⟨_, fin (vs := [B (false)]) rfl (absE (absorb_plain rfl) (absEN)) rfl (ou_f (ou_f (ou_n))), kl_n⟩
     · refine ad 1 rfl ?_
       refine c0 5 [45, 46] [.hs 2 0 [] 4 0 ((r6).map enc_Event).length, .isl false ((aList_1).map enc_Event)] 36 (by kernel_rfl) ?_
       obtain ⟨r10, hr10, h⟩ := bS h
       refine o 52 (.hs 36 0 [] 4 0 ((r10).map enc_Event).length) rfl rfl (e_callV rfl rfl (call_P rfl rfl rfl (avS (shP rfl) (avN)) (Ffx_F hr10) (.inr rfl) (bl_n) rfl rfl rfl)) ?_
       obtain ⟨r11, hr11, h⟩ := bS h
       refine o 68 (B (r11)) rfl rfl (e_callV rfl rfl (call_P rfl rfl rfl (avS (sh1 rfl rfl (sh_hsM (f := enc_Event) (g := enc_Event) (xs := r6) rfl rfl (imms_of enc_Event_imm))) (avS (sh1 rfl rfl (sh_hsM (f := enc_Event) (g := enc_Event) (xs := r10) rfl rfl (imms_of enc_Event_imm))) (avN))) (Ffq_F hr11) (.inl (rfl)) (bl_n) rfl rfl rfl)) ?_
       refine c0 2 [49] [B ((!r11))] 84 (by kernel_rfl) ?_
       refine sc h rfl rfl (fun h => ?_) (fun h => ?_)
       · refine c0 4 [4] [B (false)] 100 (by kernel_rfl) ?_
         obtain rfl := Option.some.inj h
         exact s_ret rfl ⟨_, fin (vs := [B (false)]) rfl (absE (absorb_plain rfl) (absEN)) rfl (ou_f (ou_f (ou_n))), kl_n⟩
       · refine ad 1 rfl ?_
         refine c0 8 [50, 51] [.hs 2 0 [] 4 0 ((r6).map enc_Event).length, I (1)] 132 (by kernel_rfl) ?_
         obtain ⟨r12, hr12, h⟩ := bS h
         obtain ⟨g13, h⟩ := gG h
         refine o 148 (I (r12.1)) rfl rfl (e_callV rfl rfl (call_P rfl rfl rfl (avO (hd1 rfl (hd_hs (path := []) rfl rfl (ra_n) rfl)) (avS (shP rfl) (avN))) (Ffs_F hr12) (.inr rfl) (bl_c rfl rfl rfl rfl (bl_n)) rfl rfl rfl)) ?_
         try rw [len_eqM (f := enc_Event) (xs := r6) (ys := r12.2) g13]
         refine c0 8 [55] [B ((decide (r12.1 < 0)))] 212 (by kernel_rfl) ?_
         obtain ⟨y14, hy14, hy141, hy142⟩ := bJ h
         have j14 : ∀ u14, y14 = .inr u14 → Run laws_FnExactSortEvents_E 0 (laws_FnExactSortEvents_Q (aList_1, aParties_2) r) (.code (cR (cL (cR (cR (cR (cR (cR (cR (cR (cR (cR (cR (cR laws_FnExactSortEvents_c))))))))))))) :: .code (cR (cR (cR (cR (cR (cR (cR (cR (cR (cR (cR (cR laws_FnExactSortEvents_c)))))))))))) :: []) ⟨mkTm .dead 101 [(0, .isl false ((aList_1).map enc_Event)), (1, I (aParties_2)), (6, .hs 1 0 [] 4 0 ((r5.1).map enc_Event).length), (7, B (r5.2)), (9, .hs 2 0 [] 4 0 ((r7.1).map enc_Event).length), (65, B (u14))], mkS (rtL [⟨0, 4, (r5.1).map enc_Event⟩, ⟨0, 4, (r7.1).map enc_Event⟩] 1), 3⟩ := by
           intro u14 hu
           replace h := hy142 u14 hu
           refine sc h rfl rfl (fun h => ?_) (fun h => ?_)
           · refine c0 4 [4] [B (false)] 19 (by kernel_rfl) ?_
             obtain rfl := Option.some.inj h
             exact s_ret rfl ⟨_, fin (vs := [B (false)]) rfl (absE (absorb_plain rfl) (absEN)) rfl (ou_f (ou_f (ou_n))), kl_n⟩
           · refine ad 1 rfl ?_
             refine c0 8 [66, 67] [.hs 2 0 [] 4 0 ((r7.1).map enc_Event).length, I (1)] 51 (by kernel_rfl) ?_
             obtain ⟨r15, hr15, h⟩ := bS h
             obtain ⟨g16, h⟩ := gG h
             refine o 67 (I (r15.1)) rfl rfl (e_callV rfl rfl (call_P rfl rfl rfl (avO (hd1 rfl (hd_hs (path := []) rfl rfl (ra_n) rfl)) (avS (shP rfl) (avN))) (Ffs_F hr15) (.inr rfl) (bl_c rfl rfl rfl rfl (bl_n)) rfl rfl rfl)) ?_
             try rw [len_eqM (f := enc_Event) (xs := r7.1) (ys := r15.2) g16]
             refine c0 10 [12, 69, 70] [I (r15.1), .hs 2 0 [] 4 0 ((r15.2).map enc_Event).length, I (1)] 131 (by kernel_rfl) ?_
             obtain ⟨r17, hr17, h⟩ := bS h
             refine o 147 (I (r17)) rfl rfl (e_callV rfl rfl (call_P rfl rfl rfl (avS (sh1 rfl rfl (sh_hsM (f := enc_Event) (g := enc_Event) (xs := r15.2) rfl rfl (imms_of enc_Event_imm))) (avS (shP rfl) (avN))) (Ffr_F hr17) (.inl (rfl)) (bl_n) rfl rfl rfl)) ?_
             refine c0 8 [13, 73] [I (r17), B ((decide (r17 < 0)))] 195 (by kernel_rfl) ?_
             refine sc h rfl rfl (fun h => ?_) (fun h => ?_)
             · refine c0 4 [4] [B (false)] 211 (by kernel_rfl) ?_
               obtain rfl := Option.some.inj h
               exact s_ret rfl ⟨_, fin (vs := [B (false)]) rfl (absE (absorb_plain rfl) (absEN)) rfl (ou_f (ou_f (ou_n))), kl_n⟩
             · refine ad 1 rfl ?_
               refine c0 7 [76] [B ((r17 != r15.1))] 243 (by kernel_rfl) ?_
               refine sc h rfl rfl (fun h => ?_) (fun h => ?_)
               · refine c0 4 [4] [B (false)] 259 (by kernel_rfl) ?_
                 obtain rfl := Option.some.inj h
                 exact s_ret rfl ⟨_, fin (vs := [B (false)]) rfl (absE (absorb_plain rfl) (absEN)) rfl (ou_f (ou_f (ou_n))), kl_n⟩
               · refine ad 1 rfl ?_
                 refine c0 3 [78] [.isl false ((aList_1).map enc_Event)] 259 (by kernel_rfl) ?_
                 obtain ⟨r18, hr18, h⟩ := bS h
                 refine o 275 (.hs 259 0 [] 4 0 ((r18).map enc_Event).length) rfl rfl (e_callV rfl rfl (call_P rfl rfl rfl (avS (shP rfl) (avN)) (Ffx_F hr18) (.inr rfl) (bl_n) rfl rfl rfl)) ?_
                 refine c0 1 [80] [I (aParties_2)] 291 (by kernel_rfl) ?_
                 obtain ⟨r19, hr19, h⟩ := bS h
                 refine o 307 (.tup [.hs 291 0 [] 4 0 ((r19.1).map enc_Event).length, B (r19.2)]) rfl rfl (e_callV rfl rfl (call_P rfl rfl rfl (avS (sh1 rfl rfl (sh_hsM (f := enc_Event) (g := enc_Event) (xs := r18) rfl rfl (imms_of enc_Event_imm))) (avS (shP rfl) (avN))) (Ffh_F hr19) (.inl (by simp [hasImm, hasImms, str, himm_map (f := enc_Event) enc_Event_himm])) (bl_n) rfl rfl rfl)) ?_
                 refine c0 11 [15, 84, 85] [B (r19.2), .hs 291 0 [] 4 0 ((r19.1).map enc_Event).length, .hs 1 0 [] 4 0 ((r5.1).map enc_Event).length] 419 (by kernel_rfl) ?_
                 obtain ⟨r20, hr20, h⟩ := bS h
                 refine o 435 (B (r20)) rfl rfl (e_callV rfl rfl (call_P rfl rfl rfl (avS (sh1 rfl rfl (sh_hsM (f := enc_Event) (g := enc_Event) (xs := r19.1) rfl rfl (imms_of enc_Event_imm))) (avS (sh1 rfl rfl (sh_hsM (f := enc_Event) (g := enc_Event) (xs := r5.1) rfl rfl (imms_of enc_Event_imm))) (avN))) (Ffq_F hr20) (.inl (rfl)) (bl_n) rfl rfl rfl)) ?_
                 refine c0 2 [88] [B ((!r20))] 467 (by kernel_rfl) ?_
                 obtain ⟨u21, hu21, h⟩ := lJ h
                 have j21 : Run laws_FnExactSortEvents_E 0 (laws_FnExactSortEvents_Q (aList_1, aParties_2) r) (.code (cR (cL (cR (cR (cR (cR (cR (cR (cR (cR (cR (cR (cR (cR (cR (cR (cR (cR (cR (cR (cR laws_FnExactSortEvents_c))))))))))))))))))))) :: .code (cR (cR (cR (cR (cR (cR (cR (cR (cR (cR (cR (cR (cR (cR (cR (cR (cR (cR (cR (cR laws_FnExactSortEvents_c)))))))))))))))))))) :: []) ⟨mkTm .dead 101 [(9, .hs 1 0 [] 4 0 ((r15.2).map enc_Event).length), (12, I (r15.1)), (92, B (u21))], mkS (rtL [⟨0, 4, (r15.2).map enc_Event⟩] 1), 2⟩ := by
                   refine sc h rfl rfl (fun h => ?_) (fun h => ?_)
                   · refine c0 4 [4] [B (false)] 18 (by kernel_rfl) ?_
                     obtain rfl := Option.some.inj h
                     exact s_ret rfl ⟨_, fin (vs := [B (false)]) rfl (absE (absorb_plain rfl) (absEN)) rfl (ou_f (ou_f (ou_n))), kl_n⟩
                   · refine ad 1 rfl ?_
                     refine c0 8 [93, 94] [.hs 1 0 [] 4 0 ((r15.2).map enc_Event).length, I (1)] 50 (by kernel_rfl) ?_
                     obtain ⟨r22, hr22, h⟩ := bS h
                     refine o 66 (I (r22)) rfl rfl (e_callV rfl rfl (call_P rfl rfl rfl (avS (sh1 rfl rfl (sh_hsM (f := enc_Event) (g := enc_Event) (xs := r15.2) rfl rfl (imms_of enc_Event_imm))) (avS (shP rfl) (avN))) (Ffr_F hr22) (.inl (rfl)) (bl_n) rfl rfl rfl)) ?_
                     refine c0 8 [13, 97] [I (r22), B ((decide (r22 < 0)))] 114 (by kernel_rfl) ?_
                     refine sc h rfl rfl (fun h => ?_) (fun h => ?_)
                     · refine c0 4 [4] [B (false)] 130 (by kernel_rfl) ?_
                       obtain rfl := Option.some.inj h
                       exact s_ret rfl ⟨_, fin (vs := [B (false)]) rfl (absE (absorb_plain rfl) (absEN)) rfl (ou_f (ou_f (ou_n))), kl_n⟩
                     · refine ad 1 rfl ?_
                       refine c0 7 [100] [B ((r22 != r15.1))] 162 (by kernel_rfl) ?_
                       refine sc h rfl rfl (fun h => ?_) (fun h => ?_)
                       · refine c0 4 [4] [B (false)] 178 (by kernel_rfl) ?_
                         obtain rfl := Option.some.inj h
                         exact s_ret rfl ⟨_, fin (vs := [B (false)]) rfl (absE (absorb_plain rfl) (absEN)) rfl (ou_f (ou_f (ou_n))), kl_n⟩
                       · refine ad 1 rfl ?_
                         refine c0 4 [4] [B (true)] 178 (by kernel_rfl) ?_
                         obtain rfl := Option.some.inj h
                         exact s_ret rfl ⟨_, fin (vs := [B (true)]) rfl (absE (absorb_plain rfl) (absEN)) rfl (ou_f (ou_f (ou_n))), kl_n⟩
                 replace h := hu21
                 clear hu21
                 refine sp 88 h rfl (fun h => ?_) (fun h => ?_)
                 · refine c0 5 [92] [B (true)] 531 (by kernel_rfl) ?_
                   refine run_forget [9, 12, 92] [2] [⟨1, 4, (r15.2).map enc_Event⟩] rfl rfl rfl rfl ?_
                   subst h
                   exact j21
                 · refine c0 5 [92] [B ((!(r19.2 == r5.2)))] 531 (by kernel_rfl) ?_
                   refine run_forget [9, 12, 92] [2] [⟨1, 4, (r15.2).map enc_Event⟩] rfl rfl rfl rfl ?_
                   subst h
                   exact j21
         have r14 : ∀ r', y14 = .inl r' → ∀ st, laws_FnExactSortEvents_Q (aList_1, aParties_2) r' st → (laws_FnExactSortEvents_Q (aList_1, aParties_2) r) st := fun r' e st hq => by rw [hy141 r' e] at hq; exact hq
         replace h := hy14
         refine sp 55 h rfl (fun h => ?_) (fun h => ?_)
         · refine c0 11 [65] [B (true)] 372 (by kernel_rfl) ?_
           refine run_forget [0, 1, 6, 7, 9, 65] [1, 3] [⟨0, 4, (r5.1).map enc_Event⟩, ⟨0, 4, (r7.1).map enc_Event⟩] rfl rfl rfl rfl ?_
           exact j14 _ (Option.some.inj h).symm
         · refine c0 2 [56, 57] [.hs 3 0 [] 4 0 ((r7.1).map enc_Event).length, .hs 1 0 [] 4 0 ((r5.1).map enc_Event).length] 244 (by kernel_rfl) ?_
           obtain ⟨r23, hr23, h⟩ := bS h
           refine og 260 (B (r23)) rfl rfl rfl rfl (e_callV rfl rfl (call_P rfl rfl rfl (avS (sh1 rfl rfl (sh_hsM (f := enc_Event) (g := enc_Event) (xs := r7.1) rfl rfl (imms_of enc_Event_imm))) (avS (sh1 rfl rfl (sh_hsM (f := enc_Event) (g := enc_Event) (xs := r5.1) rfl rfl (imms_of enc_Event_imm))) (avN))) (Ffq_F hr23) (.inl (rfl)) (bl_n) rfl rfl rfl)) ?_
           refine c0 3 [61] [B ((!r23))] 308 (by kernel_rfl) ?_
           obtain ⟨u24, hu24, h⟩ := lJ h
           have j24 : Run laws_FnExactSortEvents_E 0 (laws_FnExactSortEvents_Q (aList_1, aParties_2) r) (.code (cR (cL (cR (cR (cR (cR (cR (cR (cR (cR (cR (cR (cR laws_FnExactSortEvents_c))))))))))))) :: .code (cR (cR (cR (cR (cR (cR (cR (cR (cR (cR (cR (cR laws_FnExactSortEvents_c)))))))))))) :: []) ⟨mkTm .dead 101 [(0, .isl false ((aList_1).map enc_Event)), (1, I (aParties_2)), (6, .hs 1 0 [] 4 0 ((r5.1).map enc_Event).length), (7, B (r5.2)), (9, .hs 2 0 [] 4 0 ((r7.1).map enc_Event).length), (65, B (u24))], mkS (rtL [⟨0, 4, (r5.1).map enc_Event⟩, ⟨0, 4, (r7.1).map enc_Event⟩] 1), 3⟩ := by
             refine run_forget [0, 1, 6, 7, 9, 65] [1, 2] [⟨0, 4, (r5.1).map enc_Event⟩, ⟨0, 4, (r7.1).map enc_Event⟩] rfl rfl rfl rfl ?_
             exact j14 _ (Option.some.inj h).symm
           replace h := hu24
           clear hu24
           refine sp 61 h rfl (fun h => ?_) (fun h => ?_)
           · refine c0 5 [65] [B (true)] 372 (by kernel_rfl) ?_
             refine run_forget [0, 1, 6, 7, 9, 65] [1, 3] [⟨0, 4, (r5.1).map enc_Event⟩, ⟨0, 4, (r7.1).map enc_Event⟩] rfl rfl rfl rfl ?_
             subst h
             exact j24
           · refine c0 5 [65] [B ((!(r7.2 == r5.2)))] 372 (by kernel_rfl) ?_
             refine run_forget [0, 1, 6, 7, 9, 65] [1, 3] [⟨0, 4, (r5.1).map enc_Event⟩, ⟨0, 4, (r7.1).map enc_Event⟩] rfl rfl rfl rfl ?_
             subst h
             exact j24
   replace h := hu9
   clear hu9
   refine sp 40 h rfl (fun h => ?_) (fun h => ?_)
   · refine c0 5 [44] [B (true)] 593 (by kernel_rfl) ?_
     refine run_forget [0, 1, 6, 7, 8, 9, 10, 44] [177, 289, 353] [⟨0, 4, (r5.1).map enc_Event⟩, ⟨0, 4, (r6).map enc_Event⟩, ⟨0, 4, (r7.1).map enc_Event⟩] rfl rfl rfl rfl ?_
     subst h
     exact j9
   · refine c0 5 [44] [B ((!(r7.2 == r5.2)))] 593 (by kernel_rfl) ?_
     refine run_forget [0, 1, 6, 7, 8, 9, 10, 44] [177, 289, 353] [⟨0, 4, (r5.1).map enc_Event⟩, ⟨0, 4, (r6).map enc_Event⟩, ⟨0, 4, (r7.1).map enc_Event⟩] rfl rfl rfl rfl ?_
     subst h
     exact j9
theorem laws_FnExactSortEvents_good {G : Go.Ln.Ground} : Good Tryd.prog G 9 laws_FnExactSortEvents_ent := good_T (fnOf_good (gl_c Ffv_good (gl_c Ffx_good (gl_c Ffbv_good (gl_c Ffh_good (gl_c Ffq_good (gl_c Ffs_good (gl_c Ffr_good (gl_n))))))))) agree_mk (Checked.mixed Tryd.checked) Tryd.func9 (n := 2) (m := 0) ⟨rfl, rfl, by decide⟩ (fun _ => ⟨rfl, rfl⟩) (fun a r h => laws_FnExactSortEvents_run a.1 a.2 r h)
end Go.Ln
