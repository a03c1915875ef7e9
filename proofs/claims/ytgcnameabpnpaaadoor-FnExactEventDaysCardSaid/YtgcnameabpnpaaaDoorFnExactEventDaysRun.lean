/-
  Each function of the program computes its plain function.
-/
import Derived.Test.YtgcnameabpnpaaaDoorFnExactEventDaysFun
import Derived.Test.YtgcnameabpnpaaaDoorChecked
set_option maxHeartbeats 4000000
set_option linter.unusedVariables false
set_option linter.unusedSimpArgs false
set_option maxRecDepth 100000
namespace Go.Ln
open Go Go.Proofs
def laws_szEvent_A : (Event × Int) → List V := cA enc_Event (oA I)
def laws_szEvent_R (r : Int) : V × List V := (I (r), [])
noncomputable def laws_szEvent_ent : Ent := entT [false, false] laws_szEvent_A laws_szEvent_R fun x => laws_szEvent x.1 x.2
theorem laws_szEvent_F {a_1 : Event} {left_2 : Int} {r} (h : laws_szEvent a_1 left_2 = some r) : (laws_szEvent_ent).F (laws_szEvent_A (a_1, left_2)) = some (laws_szEvent_R r) := entT_F (cA_inj enc_Event_inj (oA_inj I_inj)) h
noncomputable def laws_szEvent_c : Code := bodyOf Tryd.f31
noncomputable def laws_szEvent_E : Env := mkE Tryd.prog []
def laws_szEvent_Q (x : Event × Int) (r : Int) : St → Prop := QF laws_szEvent_E Tryd.f31 [false, false] (laws_szEvent_A x) (laws_szEvent_R r)
theorem laws_szEvent_run (a_1 : Event) (left_2 : Int) (r : Int) (h : laws_szEvent a_1 left_2 = some r) : RunF laws_szEvent_E Tryd.f31 [false, false] 0 (laws_szEvent_A (a_1, left_2)) (laws_szEvent_R r) := by
 show Run _ _ (laws_szEvent_Q (a_1, left_2) r) [.code laws_szEvent_c] _
 refine rin (n := 13) [(0, enc_Event a_1), (1, I (left_2))] [] 1 (by kernel_rfl) (by kernel_rfl) (by kernel_rfl) rfl ?_
 unfold laws_szEvent at h
 refine c0 20 [1, 11] [I ((w64 (left_2 - (len a_1.Action)))), B ((decide ((w64 (left_2 - (len a_1.Action))) < 0)))] 161 (by kernel_rfl) ?_
 refine sc h rfl rfl (fun h => ?_) (fun h => ?_)
 · refine c0 4 [4] [I ((-1))] 177 (by kernel_rfl) ?_
   obtain rfl := Option.some.inj h
   exact s_ret rfl ⟨_, fin (vs := [I ((-1))]) rfl (absE (absorb_plain rfl) (absEN)) rfl (ou_f (ou_f (ou_n))), kl_n⟩
 · refine ad 1 rfl ?_
   refine c0 5 [4] [I ((w64 (left_2 - (len a_1.Action))))] 193 (by kernel_rfl) ?_
   obtain rfl := Option.some.inj h
   exact s_ret rfl ⟨_, fin (vs := [I ((w64 (left_2 - (len a_1.Action))))]) rfl (absE (absorb_plain rfl) (absEN)) rfl (ou_f (ou_f (ou_n))), kl_n⟩
theorem laws_szEvent_good {G : Go.Ln.Ground} : Good Tryd.prog G 31 laws_szEvent_ent := good_T (fnOf_good (gl_n)) agree_mk (Checked.mixed Tryd.checked) Tryd.func31 (n := 2) (m := 0) ⟨rfl, rfl, by decide⟩ (fun _ => ⟨rfl, rfl⟩) (fun a r h => laws_szEvent_run a.1 a.2 r h)
def laws_szEventS_A : ((List Event) × Int) → List V := cA (slE enc_Event) (oA I)
def laws_szEventS_R (r : Int) : V × List V := (I (r), [])
noncomputable def laws_szEventS_ent : Ent := entT [false, false] laws_szEventS_A laws_szEventS_R fun x => laws_szEventS x.1 x.2
theorem laws_szEventS_F {a_1 : List Event} {left_2 : Int} {r} (h : laws_szEventS a_1 left_2 = some r) : (laws_szEventS_ent).F (laws_szEventS_A (a_1, left_2)) = some (laws_szEventS_R r) := entT_F (cA_inj (isl_inj enc_Event_inj) (oA_inj I_inj)) h
noncomputable def laws_szEventS_c : Code := bodyOf Tryd.f13
noncomputable def laws_szEventS_E : Env := mkE Tryd.prog [(31, laws_szEvent_ent)]
def laws_szEventS_Q (x : (List Event) × Int) (r : Int) : St → Prop := QF laws_szEventS_E Tryd.f13 [false, false] (laws_szEventS_A x) (laws_szEventS_R r)
theorem laws_szEventS_la_run (a_1 : List Event) (left_2 : Int)  {Q : St → Prop} {K : List It} (hK : noD K = true) {x3 : Int × Int} {y : Int ⊕ Int} (h : laws_szEventS_la a_1 left_2 x3 = some y) : (∀ r', y = .inl r' → ∀ st, laws_szEventS_Q (a_1, left_2) r' st → Q st) → (∀ u : Int, y = .inr u → Run laws_szEventS_E 0 Q K ⟨mkTm .dead 27 [(1, I (u))], mkS (rtL [] 1), 1⟩) → Run laws_szEventS_E 0 Q (.code (cL (cL (cR (cL (cR (cR (cR laws_szEventS_c))))))) :: .lp (cL (cL (cR (cL (cR (cR (cR laws_szEventS_c))))))) :: .blk 0 :: K) ⟨mkTm .dead 27 [(0, .isl false ((a_1).map enc_Event)), (1, I (x3.1)), (5, I (x3.2))], mkS (rtL [] 1), 1⟩ := by
 refine fix_ind (P := fun (x3 : Int × Int) (y : Int ⊕ Int) => (∀ r', y = .inl r' → ∀ st, laws_szEventS_Q (a_1, left_2) r' st → Q st) → (∀ u : Int, y = .inr u → Run laws_szEventS_E 0 Q K ⟨mkTm .dead 27 [(1, I (u))], mkS (rtL [] 1), 1⟩) → Run laws_szEventS_E 0 Q (.code (cL (cL (cR (cL (cR (cR (cR laws_szEventS_c))))))) :: .lp (cL (cL (cR (cL (cR (cR (cR laws_szEventS_c))))))) :: .blk 0 :: K) ⟨mkTm .dead 27 [(0, .isl false ((a_1).map enc_Event)), (1, I (x3.1)), (5, I (x3.2))], mkS (rtL [] 1), 1⟩) (laws_szEventS_la_fin a_1 left_2) ?_ h
 clear h y x3
 intro self ih x3 y h hr hn
 unfold laws_szEventS_la_F at h
 refine c0 5 [12, 13] [I (x3.2), .isl false ((a_1).map enc_Event)] 33 (by kernel_rfl) ?_
 refine o 49 (I ((len a_1))) rfl rfl (e_len rfl rfl rfl (l_isl rfl)) ?_
 refine c0 2 [15] [B ((decide (x3.2 < (len a_1))))] 65 (by kernel_rfl) ?_
 refine sc h rfl rfl (fun h => ?_) (fun h => ?_)
 · refine ad 1 rfl ?_
   refine c0 6 [18, 19] [.isl false ((a_1).map enc_Event), I (x3.2)] 97 (by kernel_rfl) ?_
   obtain ⟨e4, he4, h⟩ := bS h
   refine o 113 (.iptr (enc_Event e4) 0) rfl rfl (e_indexAddr rfl rfl rfl (ix_islE rfl rfl rfl rfl he4)) ?_
   refine c0 2 [21, 22] [enc_Event e4, I (x3.1)] 145 (by kernel_rfl) ?_
   obtain ⟨r5, hr5, h⟩ := bS h
   refine o 161 (I (r5)) rfl rfl (e_callV rfl rfl (call_P rfl rfl rfl (avS (shP rfl) (avS (shP rfl) (avN))) (laws_szEvent_F hr5) (.inr rfl) (bl_n) rfl rfl rfl)) ?_
   refine c0 7 [1, 25] [I (r5), B ((decide (r5 < 0)))] 209 (by kernel_rfl) ?_
   refine sc h rfl rfl (fun h => ?_) (fun h => ?_)
   · refine c0 4 [4] [I ((-1))] 225 (by kernel_rfl) ?_
     exact s_ret rfl (hr _ (Option.some.inj h).symm _ ⟨_, fin (vs := [I ((-1))]) rfl (absE (absorb_plain rfl) (absEN)) rfl (ou_f (ou_f (ou_n))), kl_n⟩)
   · refine ad 1 rfl ?_
     refine c0 6 [5] [I ((w64 (x3.2 + 1)))] 257 (by kernel_rfl) ?_
     refine s_lp ?_
     refine run_forget [0, 1, 5] [] [] rfl rfl rfl rfl ?_
     exact ih _ _ h hr hn
 · refine ad 1 rfl ?_
   refine run_forget [1] [] [] rfl rfl rfl hK ?_
   exact hn _ (Option.some.inj h).symm
theorem laws_szEventS_run (a_1 : List Event) (left_2 : Int) (r : Int) (h : laws_szEventS a_1 left_2 = some r) : RunF laws_szEventS_E Tryd.f13 [false, false] 0 (laws_szEventS_A (a_1, left_2)) (laws_szEventS_R r) := by
 show Run _ _ (laws_szEventS_Q (a_1, left_2) r) [.code laws_szEventS_c] _
 refine rin (n := 27) [(0, .isl false ((a_1).map enc_Event)), (1, I (left_2))] [] 1 (by kernel_rfl) (by kernel_rfl) (by kernel_rfl) rfl ?_
 unfold laws_szEventS at h
 refine c0 8 [6, 7] [I (left_2), .isl false ((a_1).map enc_Event)] 49 (by kernel_rfl) ?_
 refine o 65 (I ((len a_1))) rfl rfl (e_len rfl rfl rfl (l_isl rfl)) ?_
 refine c0 9 [1, 11] [I ((w64 (left_2 - (len a_1)))), B ((decide ((w64 (left_2 - (len a_1))) < 0)))] 129 (by kernel_rfl) ?_
 refine sc h rfl rfl (fun h => ?_) (fun h => ?_)
 · refine c0 4 [4] [I ((-1))] 145 (by kernel_rfl) ?_
   obtain rfl := Option.some.inj h
   exact s_ret rfl ⟨_, fin (vs := [I ((-1))]) rfl (absE (absorb_plain rfl) (absEN)) rfl (ou_f (ou_f (ou_n))), kl_n⟩
 · refine ad 1 rfl ?_
   refine c0 6 [5] [I (0)] 145 (by kernel_rfl) ?_
   obtain ⟨y6, hy6, hy61, hy62⟩ := bJ h
   refine s_loop rfl ?_
   refine run_forget [0, 1, 5] [] [] rfl rfl rfl rfl ?_
   refine laws_szEventS_la_run a_1 left_2 rfl hy6 (fun r' e st hq => by rw [hy61 r' e] at hq; exact hq) (fun u6 hu => ?_)
   replace h := hy62 u6 hu
   refine c0 5 [4] [I (u6)] 33 (by kernel_rfl) ?_
   obtain rfl := Option.some.inj h
   exact s_ret rfl ⟨_, fin (vs := [I (u6)]) rfl (absE (absorb_plain rfl) (absEN)) rfl (ou_f (ou_f (ou_n))), kl_n⟩
theorem laws_szEventS_good {G : Go.Ln.Ground} : Good Tryd.prog G 13 laws_szEventS_ent := good_T (fnOf_good (gl_c laws_szEvent_good (gl_n))) agree_mk (Checked.mixed Tryd.checked) Tryd.func13 (n := 2) (m := 0) ⟨rfl, rfl, by decide⟩ (fun _ => ⟨rfl, rfl⟩) (fun a r h => laws_szEventS_run a.1 a.2 r h)
def laws_toEvent_A : Event → List V := oA enc_Event
def laws_toEvent_R (r : Event) : V × List V := (enc_Event r, [])
noncomputable def laws_toEvent_ent : Ent := entT [false] laws_toEvent_A laws_toEvent_R fun x => laws_toEvent x
theorem laws_toEvent_F {a_1 : Event} {r} (h : laws_toEvent a_1 = some r) : (laws_toEvent_ent).F (laws_toEvent_A a_1) = some (laws_toEvent_R r) := entT_F (oA_inj enc_Event_inj) h
noncomputable def laws_toEvent_c : Code := bodyOf Tryd.f34
noncomputable def laws_toEvent_E : Env := mkE Tryd.prog []
def laws_toEvent_Q (x : Event) (r : Event) : St → Prop := QF laws_toEvent_E Tryd.f34 [false] (laws_toEvent_A x) (laws_toEvent_R r)
theorem laws_toEvent_run (a_1 : Event) (r : Event) (h : laws_toEvent a_1 = some r) : RunF laws_toEvent_E Tryd.f34 [false] 0 (laws_toEvent_A a_1) (laws_toEvent_R r) := by
 show Run _ _ (laws_toEvent_Q a_1 r) [.code laws_toEvent_c] _
 refine rin (n := 17) [(0, enc_Event a_1)] [] 1 (by kernel_rfl) (by kernel_rfl) (by kernel_rfl) rfl ?_
 unfold laws_toEvent at h
 refine ck 42 [2] [] [17] [] [.hp 17 0 [] 4 0 0] [some ⟨0, 4, [enc_Event a_1]⟩] 337 (by kernel_rfl) ?_
 obtain rfl := Option.some.inj h
 exact s_ret rfl ⟨_, fin (vs := [enc_Event a_1]) (rs_c (rs_cell rfl rfl rfl) (rs_n)) (absE (absorb_plain rfl) (absEN)) rfl (ou_f (ou_n)), kl_n⟩
theorem laws_toEvent_good {G : Go.Ln.Ground} : Good Tryd.prog G 34 laws_toEvent_ent := good_T (fnOf_good (gl_n)) agree_mk (Checked.mixed Tryd.checked) Tryd.func34 (n := 1) (m := 0) ⟨rfl, rfl, by decide⟩ (fun _ => ⟨rfl, rfl⟩) (fun a r h => laws_toEvent_run a r h)
def laws_toEventS_A : ((List Event)) → List V := oA (slE enc_Event)
def laws_toEventS_R (r : (List Event)) : V × List V := (.usl 4 ((r).map enc_Event), [])
noncomputable def laws_toEventS_ent : Ent := entT [false] laws_toEventS_A laws_toEventS_R fun x => laws_toEventS x
theorem laws_toEventS_F {a_1 : List Event} {r} (h : laws_toEventS a_1 = some r) : (laws_toEventS_ent).F (laws_toEventS_A a_1) = some (laws_toEventS_R r) := entT_F (oA_inj (isl_inj enc_Event_inj)) h
noncomputable def laws_toEventS_c : Code := bodyOf Tryd.f15
noncomputable def laws_toEventS_E : Env := mkE Tryd.prog [(34, laws_toEvent_ent)]
def laws_toEventS_Q (x : (List Event)) (r : (List Event)) : St → Prop := QF laws_toEventS_E Tryd.f15 [false] (laws_toEventS_A x) (laws_toEventS_R r)
theorem laws_toEventS_la_run (a_1 : List Event)  {Q : St → Prop} {K : List It} (hK : noD K = true) {x3 : Int × (List Event)} {y : ((List Event)) ⊕ ((List Event))} (h : laws_toEventS_la a_1 x3 = some y) : (∀ r', y = .inl r' → ∀ st, laws_toEventS_Q a_1 r' st → Q st) → (∀ u : (List Event), y = .inr u → Run laws_toEventS_E 0 Q K ⟨mkTm .dead 23 [(3, .hs 1 0 [] 4 0 ((u).map enc_Event).length)], mkS (rtL [⟨0, 4, (u).map enc_Event⟩] 1), 2⟩) → Run laws_toEventS_E 0 Q (.code (cL (cL (cR (cL (cR (cR laws_toEventS_c)))))) :: .lp (cL (cL (cR (cL (cR (cR laws_toEventS_c)))))) :: .blk 0 :: K) ⟨mkTm .dead 23 [(0, .isl false ((a_1).map enc_Event)), (3, .hs 1 0 [] 4 0 ((x3.2).map enc_Event).length), (4, I (x3.1))], mkS (rtL [⟨0, 4, (x3.2).map enc_Event⟩] 1), 2⟩ := by
 refine fix_ind (P := fun (x3 : Int × (List Event)) (y : ((List Event)) ⊕ ((List Event))) => (∀ r', y = .inl r' → ∀ st, laws_toEventS_Q a_1 r' st → Q st) → (∀ u : (List Event), y = .inr u → Run laws_toEventS_E 0 Q K ⟨mkTm .dead 23 [(3, .hs 1 0 [] 4 0 ((u).map enc_Event).length)], mkS (rtL [⟨0, 4, (u).map enc_Event⟩] 1), 2⟩) → Run laws_toEventS_E 0 Q (.code (cL (cL (cR (cL (cR (cR laws_toEventS_c)))))) :: .lp (cL (cL (cR (cL (cR (cR laws_toEventS_c)))))) :: .blk 0 :: K) ⟨mkTm .dead 23 [(0, .isl false ((a_1).map enc_Event)), (3, .hs 1 0 [] 4 0 ((x3.2).map enc_Event).length), (4, I (x3.1))], mkS (rtL [⟨0, 4, (x3.2).map enc_Event⟩] 1), 2⟩) (laws_toEventS_la_fin a_1) ?_ h
 clear h y x3
 intro self ih x3 y h hr hn
 unfold laws_toEventS_la_F at h
 refine c0 5 [8, 9] [I (x3.1), .isl false ((a_1).map enc_Event)] 34 (by kernel_rfl) ?_
 refine o 50 (I ((len a_1))) rfl rfl (e_len rfl rfl rfl (l_isl rfl)) ?_
 refine c0 2 [11] [B ((decide (x3.1 < (len a_1))))] 66 (by kernel_rfl) ?_
 refine sc h rfl rfl (fun h => ?_) (fun h => ?_)
 · refine ad 1 rfl ?_
   refine c0 7 [14, 15, 16, 17] [.hs 1 0 [] 4 0 ((x3.2).map enc_Event).length, I (x3.1), .isl false ((a_1).map enc_Event), I (x3.1)] 130 (by kernel_rfl) ?_
   obtain ⟨e4, he4, h⟩ := bS h
   refine o 146 (.iptr (enc_Event e4) 0) rfl rfl (e_indexAddr rfl rfl rfl (ix_islE rfl rfl rfl rfl he4)) ?_
   refine c0 1 [19] [enc_Event e4] 162 (by kernel_rfl) ?_
   obtain ⟨r5, hr5, h⟩ := bS h
   refine o 178 (enc_Event r5) rfl rfl (e_callV rfl rfl (call_P rfl rfl rfl (avS (shP rfl) (avN)) (laws_toEvent_F hr5) (.inr rfl) (bl_n) rfl rfl rfl)) ?_
   obtain ⟨e6, he6, h⟩ := bS h
   refine o 194 (.hp 1 0 [] 4 (0 + Int.toNat (x3.1)) 0) rfl rfl (e_indexAddr rfl rfl rfl (ix_hsM (f := enc_Event) (xs := x3.2) rfl rfl rfl he6)) ?_
   refine o0 210 rfl rfl (e_st rfl rfl (st_at (path := []) (pl := true) (e' := enc_Event r5) (es2' := ((setI x3.2 x3.1 r5)).map enc_Event) rfl (absorb_plain rfl) rfl rfl rfl (ra_n) (get_map (f := enc_Event) (xs := x3.2) he6) rfl rfl rfl (set_map (f := enc_Event) (xs := x3.2) (y := r5)) (sr_n) 0 rfl)) ?_
   try rw [← len_setM (f := enc_Event) (xs := x3.2) (i := x3.1) (z := r5)]
   refine c0 7 [4] [I ((w64 (x3.1 + 1)))] 258 (by kernel_rfl) ?_
   refine s_lp ?_
   refine run_forget [0, 3, 4] [1] [⟨0, 4, ((setI x3.2 x3.1 r5)).map enc_Event⟩] rfl rfl rfl rfl ?_
   exact ih _ _ h hr hn
 · refine ad 1 rfl ?_
   refine run_forget [3] [1] [⟨0, 4, (x3.2).map enc_Event⟩] rfl rfl rfl hK ?_
   exact hn _ (Option.some.inj h).symm
theorem laws_toEventS_run (a_1 : List Event) (r : (List Event)) (h : laws_toEventS a_1 = some r) : RunF laws_toEventS_E Tryd.f15 [false] 0 (laws_toEventS_A a_1) (laws_toEventS_R r) := by
 show Run _ _ (laws_toEventS_Q a_1 r) [.code laws_toEventS_c] _
 refine rin (n := 23) [(0, .isl false ((a_1).map enc_Event))] [] 1 (by kernel_rfl) (by kernel_rfl) (by kernel_rfl) rfl ?_
 unfold laws_toEventS at h
 refine c0 7 [5] [.isl false ((a_1).map enc_Event)] 33 (by kernel_rfl) ?_
 refine o 49 (I ((len a_1))) rfl rfl (e_len rfl rfl rfl (l_isl rfl)) ?_
 obtain ⟨m2, hm2, h⟩ := bS h
 refine o 65 (.hs 49 0 [] 4 0 ((m2).map enc_Event).length) rfl rfl (e_makeSlice rfl rfl (ms_mkM (f := enc_Event) rfl rfl rfl (by decide) hm2 rfl)) ?_
 refine c0 8 [3, 4] [.hs 49 0 [] 4 0 ((m2).map enc_Event).length, I (0)] 97 (by kernel_rfl) ?_
 obtain ⟨y7, hy7, hy71, hy72⟩ := bJ h
 refine s_loop rfl ?_
 refine run_forget [0, 3, 4] [49] [⟨0, 4, (m2).map enc_Event⟩] rfl rfl rfl rfl ?_
 refine laws_toEventS_la_run a_1 rfl hy7 (fun r' e st hq => by rw [hy71 r' e] at hq; exact hq) (fun u7 hu => ?_)
 replace h := hy72 u7 hu
 refine c0 5 [2] [.hs 1 0 [] 4 0 ((u7).map enc_Event).length] 34 (by kernel_rfl) ?_
 obtain rfl := Option.some.inj h
 exact s_ret rfl ⟨_, fin (vs := [.hs 1 0 [] 4 0 ((u7).map enc_Event).length]) rfl (absE (abs1 rfl (abs_hs rfl rfl)) (absEN)) rfl (ou_f (ou_n)), kl_n⟩
theorem laws_toEventS_good {G : Go.Ln.Ground} : Good Tryd.prog G 15 laws_toEventS_ent := good_T (fnOf_good (gl_c laws_toEvent_good (gl_n))) agree_mk (Checked.mixed Tryd.checked) Tryd.func15 (n := 1) (m := 0) ⟨rfl, rfl, by decide⟩ (fun _ => ⟨rfl, rfl⟩) (fun a r h => laws_toEventS_run a r h)
def spec_l8Compare_A : (Event × Event) → List V := cA enc_Event (oA enc_Event)
def spec_l8Compare_R (r : Int) : V × List V := (I (r), [])
noncomputable def spec_l8Compare_ent : Ent := entT [false, false] spec_l8Compare_A spec_l8Compare_R fun x => spec_l8Compare x.1 x.2
theorem spec_l8Compare_F {a_1 : Event} {b_2 : Event} {r} (h : spec_l8Compare a_1 b_2 = some r) : (spec_l8Compare_ent).F (spec_l8Compare_A (a_1, b_2)) = some (spec_l8Compare_R r) := entT_F (cA_inj enc_Event_inj (oA_inj enc_Event_inj)) h
noncomputable def spec_l8Compare_c : Code := bodyOf Tryd.f77
noncomputable def spec_l8Compare_E : Env := mkE Tryd.prog []
def spec_l8Compare_Q (x : Event × Event) (r : Int) : St → Prop := QF spec_l8Compare_E Tryd.f77 [false, false] (spec_l8Compare_A x) (spec_l8Compare_R r)
theorem spec_l8Compare_run (a_1 : Event) (b_2 : Event) (r : Int) (h : spec_l8Compare a_1 b_2 = some r) : RunF spec_l8Compare_E Tryd.f77 [false, false] 0 (spec_l8Compare_A (a_1, b_2)) (spec_l8Compare_R r) := by
 show Run _ _ (spec_l8Compare_Q (a_1, b_2) r) [.code spec_l8Compare_c] _
 refine rin (n := 51) [(0, enc_Event a_1), (1, enc_Event b_2)] [] 1 (by kernel_rfl) (by kernel_rfl) (by kernel_rfl) rfl ?_
 unfold spec_l8Compare at h
 refine ck 7 [2, 3] [] [1, 17] [] [.hp 1 0 [] 4 0 0, .hp 17 0 [] 4 0 0] [some ⟨0, 4, [enc_Event a_1]⟩, some ⟨0, 4, [enc_Event b_2]⟩] 49 (by kernel_rfl) ?_
 refine s_draw [0, 1, 0, 4, 3, 31] rfl (by decide +kernel) ?_
 refine dp [1] [] (.hp 1 0 [] 4 0 3) rfl (e_fieldAddr rfl rfl rfl) rfl (rfl) (by decide) ?_
 refine dp [1] [] (I (a_1.Amount)) rfl (e_ld rfl rfl) rfl (rfl) (by decide) ?_
 refine dp [17] [] (.hp 17 0 [] 4 0 3) rfl (e_fieldAddr rfl rfl rfl) rfl (rfl) (by decide) ?_
 refine dp [17] [] (I (b_2.Amount)) rfl (e_ld rfl rfl) rfl (rfl) (by decide) ?_
 refine dp [] [] (I (a_1.Amount)) rfl (e_assign rfl) rfl (rfl) (by decide) ?_
 refine dp [] [] (I (b_2.Amount)) rfl (e_assign rfl) rfl (rfl) (by decide) ?_
 refine de 145 rfl rfl ?_
 refine c0 11 [11] [B ((a_1.Day != b_2.Day))] 241 (by kernel_rfl) ?_
 obtain ⟨y3, hy3, hy31, hy32⟩ := bJ h
 have j3 : ∀ u3, y3 = .inr u3 → Run spec_l8Compare_E 0 (spec_l8Compare_Q (a_1, b_2) r) (.blk 0 :: .code (cR (cR (cR spec_l8Compare_c))) :: []) ⟨mkTm .dead 51 [(5, I (u3.1)), (6, I (u3.2))], mkS (rtL [] 1), 1⟩ := by
   intro u3 hu
   replace h := hy32 u3 hu
   refine c0 10 [43] [B ((decide (u3.1 < u3.2)))] 65 (by kernel_rfl) ?_
   refine sc h rfl rfl (fun h => ?_) (fun h => ?_)
   · refine c0 4 [4] [I ((-1))] 81 (by kernel_rfl) ?_
     obtain rfl := Option.some.inj h
     exact s_ret rfl ⟨_, fin (vs := [I ((-1))]) rfl (absE (absorb_plain rfl) (absEN)) rfl (ou_f (ou_f (ou_n))), kl_n⟩
   · refine c0 7 [47] [B ((decide (u3.1 > u3.2)))] 129 (by kernel_rfl) ?_
     refine sc h rfl rfl (fun h => ?_) (fun h => ?_)
     · refine c0 4 [4] [I (1)] 145 (by kernel_rfl) ?_
       obtain rfl := Option.some.inj h
       exact s_ret rfl ⟨_, fin (vs := [I (1)]) rfl (absE (absorb_plain rfl) (absEN)) rfl (ou_f (ou_f (ou_n))), kl_n⟩
     · refine ad 1 rfl ?_
       refine c0 5 [4] [I (0)] 145 (by kernel_rfl) ?_
       obtain rfl := Option.some.inj h
       exact s_ret rfl ⟨_, fin (vs := [I (0)]) rfl (absE (absorb_plain rfl) (absEN)) rfl (ou_f (ou_f (ou_n))), kl_n⟩
 have r3 : ∀ r', y3 = .inl r' → ∀ st, spec_l8Compare_Q (a_1, b_2) r' st → (spec_l8Compare_Q (a_1, b_2) r) st := fun r' e st hq => by rw [hy31 r' e] at hq; exact hq
 replace h := hy3
 refine sc h rfl rfl (fun h => ?_) (fun h => ?_)
 · refine c0 11 [5, 6] [I (a_1.Day), I (b_2.Day)] 337 (by kernel_rfl) ?_
   refine run_forget [5, 6] [] [] rfl rfl rfl rfl ?_
   exact j3 _ (Option.some.inj h).symm
 · refine c0 9 [21] [B ((a_1.Party != b_2.Party))] 337 (by kernel_rfl) ?_
   obtain ⟨y4, hy4, hy41, hy42⟩ := bL h
   have j4 : ∀ u4, y4 = .inr u4 → Run spec_l8Compare_E 0 (spec_l8Compare_Q (a_1, b_2) r) (.blk 0 :: .code (cR (cR (cR spec_l8Compare_c))) :: []) ⟨mkTm .dead 51 [(5, I (u4.1)), (6, I (u4.2))], mkS (rtL [] 1), 1⟩ := by
     intro u4 hu
     replace h := hy42 u4 hu
     refine run_forget [5, 6] [] [] rfl rfl rfl rfl ?_
     exact j3 _ (Option.some.inj h).symm
   have r4 : ∀ r', y4 = .inl r' → ∀ st, spec_l8Compare_Q (a_1, b_2) r' st → (spec_l8Compare_Q (a_1, b_2) r) st := fun r' e st hq => r3 r' (hy41 r' e) st hq
   replace h := hy4
   refine sc h rfl rfl (fun h => ?_) (fun h => ?_)
   · refine c0 11 [5, 6] [I (a_1.Party), I (b_2.Party)] 433 (by kernel_rfl) ?_
     refine run_forget [5, 6] [] [] rfl rfl rfl rfl ?_
     exact j4 _ (Option.some.inj h).symm
   · refine c0 9 [31] [B ((Op.bytesLess a_1.Action b_2.Action))] 433 (by kernel_rfl) ?_
     refine sc h rfl rfl (fun h => ?_) (fun h => ?_)
     · refine c0 4 [4] [I ((-1))] 449 (by kernel_rfl) ?_
       exact s_ret rfl (r4 _ (Option.some.inj h).symm _ ⟨_, fin (vs := [I ((-1))]) rfl (absE (absorb_plain rfl) (absEN)) rfl (ou_f (ou_f (ou_n))), kl_n⟩)
     · refine c0 9 [37] [B ((!(Op.bytesLess a_1.Action b_2.Action || a_1.Action == b_2.Action)))] 529 (by kernel_rfl) ?_
       refine sc h rfl rfl (fun h => ?_) (fun h => ?_)
       · refine c0 4 [4] [I (1)] 545 (by kernel_rfl) ?_
         exact s_ret rfl (r4 _ (Option.some.inj h).symm _ ⟨_, fin (vs := [I (1)]) rfl (absE (absorb_plain rfl) (absEN)) rfl (ou_f (ou_f (ou_n))), kl_n⟩)
       · refine ad 1 rfl ?_
         refine run_forget [5, 6] [] [] rfl rfl rfl rfl ?_
         exact j4 _ (Option.some.inj h).symm
theorem spec_l8Compare_good {G : Go.Ln.Ground} : Good Tryd.prog G 77 spec_l8Compare_ent := good_T (fnOf_good (gl_n)) agree_mk (Checked.mixed Tryd.checked) Tryd.func77 (n := 2) (m := 0) ⟨rfl, rfl, by decide⟩ (fun _ => ⟨rfl, rfl⟩) (fun a r h => spec_l8Compare_run a.1 a.2 r h)
def spec_l1In_A : (Int × Int × Int) → List V := cA I (cA I (oA I))
def spec_l1In_R (r : Bool) : V × List V := (B (r), [])
noncomputable def spec_l1In_ent : Ent := entT [false, false, false] spec_l1In_A spec_l1In_R fun x => spec_l1In x.1 x.2.1 x.2.2
theorem spec_l1In_F {x_1 : Int} {a_2 : Int} {b_3 : Int} {r} (h : spec_l1In x_1 a_2 b_3 = some r) : (spec_l1In_ent).F (spec_l1In_A (x_1, a_2, b_3)) = some (spec_l1In_R r) := entT_F (cA_inj I_inj (cA_inj I_inj (oA_inj I_inj))) h
noncomputable def spec_l1In_c : Code := bodyOf Tryd.f54
noncomputable def spec_l1In_E : Env := mkE Tryd.prog []
def spec_l1In_Q (x : Int × Int × Int) (r : Bool) : St → Prop := QF spec_l1In_E Tryd.f54 [false, false, false] (spec_l1In_A x) (spec_l1In_R r)
theorem spec_l1In_run (x_1 : Int) (a_2 : Int) (b_3 : Int) (r : Bool) (h : spec_l1In x_1 a_2 b_3 = some r) : RunF spec_l1In_E Tryd.f54 [false, false, false] 0 (spec_l1In_A (x_1, a_2, b_3)) (spec_l1In_R r) := by
 show Run _ _ (spec_l1In_Q (x_1, a_2, b_3) r) [.code spec_l1In_c] _
 refine rin (n := 15) [(0, I (x_1)), (1, I (a_2)), (2, I (b_3))] [] 1 (by kernel_rfl) (by kernel_rfl) (by kernel_rfl) rfl ?_
 unfold spec_l1In at h
 refine c0 10 [10] [B ((decide (x_1 ≥ a_2)))] 81 (by kernel_rfl) ?_
 obtain ⟨u4, hu4, h⟩ := lJ h
 have j4 : Run spec_l1In_E 0 (spec_l1In_Q (x_1, a_2, b_3) r) (.code (cR (cR spec_l1In_c)) :: []) ⟨mkTm .dead 15 [(6, B (u4))], mkS (rtL [] 1), 1⟩ := by
   obtain rfl := Option.some.inj h
   exact s_ret rfl ⟨_, fin (vs := [B (u4)]) rfl (absE (absorb_plain rfl) (absEN)) rfl (ou_f (ou_f (ou_f (ou_n)))), kl_n⟩
 replace h := hu4
 clear hu4
 refine sp 10 h rfl (fun h => ?_) (fun h => ?_)
 · refine c0 6 [6] [B ((decide (x_1 ≤ b_3)))] 161 (by kernel_rfl) ?_
   refine run_forget [6] [] [] rfl rfl rfl rfl ?_
   subst h
   exact j4
 · refine c0 6 [6] [B (false)] 161 (by kernel_rfl) ?_
   refine run_forget [6] [] [] rfl rfl rfl rfl ?_
   subst h
   exact j4
theorem spec_l1In_good {G : Go.Ln.Ground} : Good Tryd.prog G 54 spec_l1In_ent := good_T (fnOf_good (gl_n)) agree_mk (Checked.mixed Tryd.checked) Tryd.func54 (n := 3) (m := 0) ⟨rfl, rfl, by decide⟩ (fun _ => ⟨rfl, rfl⟩) (fun a r h => spec_l1In_run a.1 a.2.1 a.2.2 r h)
def spec_l3Good_A : Int → List V := oA I
def spec_l3Good_R (r : Bool) : V × List V := (B (r), [])
noncomputable def spec_l3Good_ent : Ent := entT [false] spec_l3Good_A spec_l3Good_R fun x => spec_l3Good x
theorem spec_l3Good_F {day_1 : Int} {r} (h : spec_l3Good day_1 = some r) : (spec_l3Good_ent).F (spec_l3Good_A day_1) = some (spec_l3Good_R r) := entT_F (oA_inj I_inj) h
noncomputable def spec_l3Good_c : Code := bodyOf Tryd.f85
noncomputable def spec_l3Good_E : Env := mkE Tryd.prog [(54, spec_l1In_ent)]
def spec_l3Good_Q (x : Int) (r : Bool) : St → Prop := QF spec_l3Good_E Tryd.f85 [false] (spec_l3Good_A x) (spec_l3Good_R r)
theorem spec_l3Good_run (day_1 : Int) (r : Bool) (h : spec_l3Good day_1 = some r) : RunF spec_l3Good_E Tryd.f85 [false] 0 (spec_l3Good_A day_1) (spec_l3Good_R r) := by
 show Run _ _ (spec_l3Good_Q day_1 r) [.code spec_l3Good_c] _
 refine rin (n := 5) [(0, I (day_1))] [] 1 (by kernel_rfl) (by kernel_rfl) (by kernel_rfl) rfl ?_
 unfold spec_l3Good at h
 refine c0 7 [3] [I (day_1)] 33 (by kernel_rfl) ?_
 obtain ⟨r2, hr2, h⟩ := bS h
 refine o 49 (B (r2)) rfl rfl (e_callV rfl rfl (call_P rfl rfl rfl (avS (shP rfl) (avS (shP rfl) (avS (shP rfl) (avN)))) (spec_l1In_F hr2) (.inr rfl) (bl_n) rfl rfl rfl)) ?_
 refine c0 2 [2] [B (r2)] 65 (by kernel_rfl) ?_
 obtain rfl := Option.some.inj h
 exact s_ret rfl ⟨_, fin (vs := [B (r2)]) rfl (absE (absorb_plain rfl) (absEN)) rfl (ou_f (ou_n)), kl_n⟩
theorem spec_l3Good_good {G : Go.Ln.Ground} : Good Tryd.prog G 85 spec_l3Good_ent := good_T (fnOf_good (gl_c spec_l1In_good (gl_n))) agree_mk (Checked.mixed Tryd.checked) Tryd.func85 (n := 1) (m := 0) ⟨rfl, rfl, by decide⟩ (fun _ => ⟨rfl, rfl⟩) (fun a r h => spec_l3Good_run a r h)
def spec_l5Sign_A : Int → List V := oA (V.int .u8)
def spec_l5Sign_R (r : Bool) : V × List V := (B (r), [])
noncomputable def spec_l5Sign_ent : Ent := entT [false] spec_l5Sign_A spec_l5Sign_R fun x => spec_l5Sign x
theorem spec_l5Sign_F {b_1 : Int} {r} (h : spec_l5Sign b_1 = some r) : (spec_l5Sign_ent).F (spec_l5Sign_A b_1) = some (spec_l5Sign_R r) := entT_F (oA_inj (vint_inj (k := .u8))) h
noncomputable def spec_l5Sign_c : Code := bodyOf Tryd.f105
noncomputable def spec_l5Sign_E : Env := mkE Tryd.prog []
def spec_l5Sign_Q (x : Int) (r : Bool) : St → Prop := QF spec_l5Sign_E Tryd.f105 [false] (spec_l5Sign_A x) (spec_l5Sign_R r)
theorem spec_l5Sign_run (b_1 : Int) (r : Bool) (h : spec_l5Sign b_1 = some r) : RunF spec_l5Sign_E Tryd.f105 [false] 0 (spec_l5Sign_A b_1) (spec_l5Sign_R r) := by
 show Run _ _ (spec_l5Sign_Q b_1 r) [.code spec_l5Sign_c] _
 refine rin (n := 17) [(0, .int .u8 (b_1))] [] 1 (by kernel_rfl) (by kernel_rfl) (by kernel_rfl) rfl ?_
 unfold spec_l5Sign at h
 refine c0 9 [5] [B ((decide (b_1 ≥ 97)))] 65 (by kernel_rfl) ?_
 obtain ⟨u2, hu2, h⟩ := lJ h
 have j2 : Run spec_l5Sign_E 0 (spec_l5Sign_Q b_1 r) (.code (cR (cR spec_l5Sign_c)) :: []) ⟨mkTm .dead 17 [(2, B (u2))], mkS (rtL [] 1), 1⟩ := by
   obtain rfl := Option.some.inj h
   exact s_ret rfl ⟨_, fin (vs := [B (u2)]) rfl (absE (absorb_plain rfl) (absEN)) rfl (ou_f (ou_n)), kl_n⟩
 replace h := hu2
 clear hu2
 refine sp 5 h rfl (fun h => ?_) (fun h => ?_)
 · refine c0 4 [9] [B ((decide (b_1 ≤ 122)))] 129 (by kernel_rfl) ?_
   obtain ⟨u3, hu3, h⟩ := lJ h
   have j3 : Run spec_l5Sign_E 0 (spec_l5Sign_Q b_1 r) (.code (cR (cR spec_l5Sign_c)) :: []) ⟨mkTm .dead 17 [(2, B (u3))], mkS (rtL [] 1), 1⟩ := by
     refine run_forget [2] [] [] rfl rfl rfl rfl ?_
     subst h
     exact j2
   replace h := hu3
   clear hu3
   refine sp 9 h rfl (fun h => ?_) (fun h => ?_)
   · refine c0 9 [2] [B (true)] 257 (by kernel_rfl) ?_
     refine run_forget [2] [] [] rfl rfl rfl rfl ?_
     subst h
     exact j3
   · refine c0 3 [12] [B ((decide (b_1 ≥ 48)))] 177 (by kernel_rfl) ?_
     obtain ⟨u4, hu4, h⟩ := lJ h
     have j4 : Run spec_l5Sign_E 0 (spec_l5Sign_Q b_1 r) (.code (cR (cR spec_l5Sign_c)) :: []) ⟨mkTm .dead 17 [(2, B (u4))], mkS (rtL [] 1), 1⟩ := by
       refine run_forget [2] [] [] rfl rfl rfl rfl ?_
       subst h
       exact j3
     replace h := hu4
     clear hu4
     refine sp 12 h rfl (fun h => ?_) (fun h => ?_)
     · refine c0 6 [2] [B ((decide (b_1 ≤ 57)))] 257 (by kernel_rfl) ?_
       refine run_forget [2] [] [] rfl rfl rfl rfl ?_
       subst h
       exact j4
     · refine c0 6 [2] [B (false)] 257 (by kernel_rfl) ?_
       refine run_forget [2] [] [] rfl rfl rfl rfl ?_
       subst h
       exact j4
 · refine c0 7 [9, 12] [B (false), B ((decide (b_1 ≥ 48)))] 177 (by kernel_rfl) ?_
   obtain ⟨u5, hu5, h⟩ := lJ h
   have j5 : Run spec_l5Sign_E 0 (spec_l5Sign_Q b_1 r) (.code (cR (cR spec_l5Sign_c)) :: []) ⟨mkTm .dead 17 [(2, B (u5))], mkS (rtL [] 1), 1⟩ := by
     refine run_forget [2] [] [] rfl rfl rfl rfl ?_
     subst h
     exact j2
   replace h := hu5
   clear hu5
   refine sp 12 h rfl (fun h => ?_) (fun h => ?_)
   · refine c0 6 [2] [B ((decide (b_1 ≤ 57)))] 257 (by kernel_rfl) ?_
     refine run_forget [2] [] [] rfl rfl rfl rfl ?_
     subst h
     exact j5
   · refine c0 6 [2] [B (false)] 257 (by kernel_rfl) ?_
     refine run_forget [2] [] [] rfl rfl rfl rfl ?_
     subst h
     exact j5
theorem spec_l5Sign_good {G : Go.Ln.Ground} : Good Tryd.prog G 105 spec_l5Sign_ent := good_T (fnOf_good (gl_n)) agree_mk (Checked.mixed Tryd.checked) Tryd.func105 (n := 1) (m := 0) ⟨rfl, rfl, by decide⟩ (fun _ => ⟨rfl, rfl⟩) (fun a r h => spec_l5Sign_run a r h)
def spec_l5Name_A : Str → List V := oA str
def spec_l5Name_R (r : Bool) : V × List V := (B (r), [])
noncomputable def spec_l5Name_ent : Ent := entT [false] spec_l5Name_A spec_l5Name_R fun x => spec_l5Name x
theorem spec_l5Name_F {s_1 : Str} {r} (h : spec_l5Name s_1 = some r) : (spec_l5Name_ent).F (spec_l5Name_A s_1) = some (spec_l5Name_R r) := entT_F (oA_inj str_inj) h
noncomputable def spec_l5Name_c : Code := bodyOf Tryd.f86
noncomputable def spec_l5Name_E : Env := mkE Tryd.prog [(54, spec_l1In_ent), (105, spec_l5Sign_ent)]
def spec_l5Name_Q (x : Str) (r : Bool) : St → Prop := QF spec_l5Name_E Tryd.f86 [false] (spec_l5Name_A x) (spec_l5Name_R r)
theorem spec_l5Name_la_run (s_1 : Str)  {Q : St → Prop} {K : List It} (hK : noD K = true) {x4 : Int} {y : Bool ⊕ Unit} (h : spec_l5Name_la s_1 x4 = some y) : (∀ r', y = .inl r' → ∀ st, spec_l5Name_Q s_1 r' st → Q st) → (∀ u : Unit, y = .inr u → Run spec_l5Name_E 0 Q K ⟨mkTm .dead 40 [(0, str (s_1))], mkS (rtL [] 1), 1⟩) → Run spec_l5Name_E 0 Q (.code (cL (cL (cR (cL (cR (cR spec_l5Name_c)))))) :: .lp (cL (cL (cR (cL (cR (cR spec_l5Name_c)))))) :: .blk 0 :: K) ⟨mkTm .dead 40 [(0, str (s_1)), (3, I (x4))], mkS (rtL [] 1), 1⟩ := by
 refine fix_ind (P := fun (x4 : Int) (y : Bool ⊕ Unit) => (∀ r', y = .inl r' → ∀ st, spec_l5Name_Q s_1 r' st → Q st) → (∀ u : Unit, y = .inr u → Run spec_l5Name_E 0 Q K ⟨mkTm .dead 40 [(0, str (s_1))], mkS (rtL [] 1), 1⟩) → Run spec_l5Name_E 0 Q (.code (cL (cL (cR (cL (cR (cR spec_l5Name_c)))))) :: .lp (cL (cL (cR (cL (cR (cR spec_l5Name_c)))))) :: .blk 0 :: K) ⟨mkTm .dead 40 [(0, str (s_1)), (3, I (x4))], mkS (rtL [] 1), 1⟩) (spec_l5Name_la_fin s_1) ?_ h
 clear h y x4
 intro self ih x4 y h hr hn
 unfold spec_l5Name_la_F at h
 refine c0 8 [21] [B ((decide (x4 < (len s_1))))] 65 (by kernel_rfl) ?_
 refine sc h rfl rfl (fun h => ?_) (fun h => ?_)
 · refine ad 1 rfl ?_
   refine c0 6 [24, 25] [str (s_1), I (x4)] 97 (by kernel_rfl) ?_
   obtain ⟨c5, hc5, h⟩ := bS h
   refine o 113 (.int .u8 ((c5.toNat : Int))) rfl rfl (e_index rfl rfl (i_str rfl rfl hc5)) ?_
   obtain ⟨r6, hr6, h⟩ := bS h
   refine o 129 (B (r6)) rfl rfl (e_callV rfl rfl (call_P rfl rfl rfl (avS (shP rfl) (avN)) (spec_l5Sign_F hr6) (.inr rfl) (bl_n) rfl rfl rfl)) ?_
   refine c0 2 [28] [B ((!r6))] 145 (by kernel_rfl) ?_
   refine sc h rfl rfl (fun h => ?_) (fun h => ?_)
   · refine c0 4 [2] [B (false)] 161 (by kernel_rfl) ?_
     exact s_ret rfl (hr _ (Option.some.inj h).symm _ ⟨_, fin (vs := [B (false)]) rfl (absE (absorb_plain rfl) (absEN)) rfl (ou_f (ou_n)), kl_n⟩)
   · refine ad 1 rfl ?_
     refine c0 6 [3] [I ((w64 (x4 + 1)))] 193 (by kernel_rfl) ?_
     refine s_lp ?_
     refine run_forget [0, 3] [] [] rfl rfl rfl rfl ?_
     exact ih _ _ h hr hn
 · refine ad 1 rfl ?_
   refine run_forget [0] [] [] rfl rfl rfl hK ?_
   exact hn _ (Option.some.inj h).symm
theorem spec_l5Name_run (s_1 : Str) (r : Bool) (h : spec_l5Name s_1 = some r) : RunF spec_l5Name_E Tryd.f86 [false] 0 (spec_l5Name_A s_1) (spec_l5Name_R r) := by
 show Run _ _ (spec_l5Name_Q s_1 r) [.code spec_l5Name_c] _
 refine rin (n := 40) [(0, str (s_1))] [] 1 (by kernel_rfl) (by kernel_rfl) (by kernel_rfl) rfl ?_
 unfold spec_l5Name at h
 refine c0 9 [5] [I ((len s_1))] 49 (by kernel_rfl) ?_
 obtain ⟨r2, hr2, h⟩ := bS h
 refine o 65 (B (r2)) rfl rfl (e_callV rfl rfl (call_P rfl rfl rfl (avS (shP rfl) (avS (shP rfl) (avS (shP rfl) (avN)))) (spec_l1In_F hr2) (.inr rfl) (bl_n) rfl rfl rfl)) ?_
 refine c0 2 [8] [B ((!r2))] 97 (by kernel_rfl) ?_
 obtain ⟨y3, hy3, hy31, hy32⟩ := bJ h
 have j3 : ∀ u3, y3 = .inr u3 → Run spec_l5Name_E 0 (spec_l5Name_Q s_1 r) (.code (cR (cL (cR spec_l5Name_c))) :: .code (cR (cR spec_l5Name_c)) :: []) ⟨mkTm .dead 40 [(0, str (s_1)), (17, B (u3))], mkS (rtL [] 1), 1⟩ := by
   intro u3 hu
   replace h := hy32 u3 hu
   refine sc h rfl rfl (fun h => ?_) (fun h => ?_)
   · refine c0 4 [2] [B (false)] 17 (by kernel_rfl) ?_
     obtain rfl := Option.some.inj h
     exact s_ret rfl ⟨_, fin (vs := [B (false)]) rfl (absE (absorb_plain rfl) (absEN)) rfl (ou_f (ou_n)), kl_n⟩
   · refine ad 1 rfl ?_
     refine c0 6 [3] [I (0)] 17 (by kernel_rfl) ?_
     obtain ⟨y7, hy7, hy71, hy72⟩ := bJ h
     refine s_loop rfl ?_
     refine run_forget [0, 3] [] [] rfl rfl rfl rfl ?_
     refine spec_l5Name_la_run s_1 rfl hy7 (fun r' e st hq => by rw [hy71 r' e] at hq; exact hq) (fun u7 hu => ?_)
     replace h := hy72 u7 hu
     refine c0 12 [29, 30] [str (s_1), B ((s_1 == ([116, 114, 117, 101] : Str)))] 49 (by kernel_rfl) ?_
     obtain ⟨u8, hu8, h⟩ := lJ h
     have j8 : Run spec_l5Name_E 0 (spec_l5Name_Q s_1 r) (.code (cR (cL (cR (cL (cR (cR (cR spec_l5Name_c))))))) :: .blk 2 :: .code (cR (cR (cR (cR spec_l5Name_c)))) :: []) ⟨mkTm .dead 40 [(30, B (u8))], mkS (rtL [] 1), 1⟩ := by
       refine sc h rfl rfl (fun h => ?_) (fun h => ?_)
       · refine c0 4 [2] [B (false)] 17 (by kernel_rfl) ?_
         obtain rfl := Option.some.inj h
         exact s_ret rfl ⟨_, fin (vs := [B (false)]) rfl (absE (absorb_plain rfl) (absEN)) rfl (ou_f (ou_n)), kl_n⟩
       · refine ad 1 rfl ?_
         refine c0 5 [2] [B (true)] 17 (by kernel_rfl) ?_
         obtain rfl := Option.some.inj h
         exact s_ret rfl ⟨_, fin (vs := [B (true)]) rfl (absE (absorb_plain rfl) (absEN)) rfl (ou_f (ou_n)), kl_n⟩
     replace h := hu8
     clear hu8
     refine scp h rfl rfl (fun h => ?_) (fun h => ?_)
     · refine ad 1 rfl ?_
       refine run_forget [30] [] [] rfl rfl rfl rfl ?_
       subst h
       exact j8
     · refine c0 5 [30] [B ((s_1 == ([102, 114, 111, 109] : Str)))] 81 (by kernel_rfl) ?_
       obtain ⟨u9, hu9, h⟩ := lJ h
       have j9 : Run spec_l5Name_E 0 (spec_l5Name_Q s_1 r) (.code (cR (cL (cR (cL (cR (cR (cR spec_l5Name_c))))))) :: .blk 2 :: .code (cR (cR (cR (cR spec_l5Name_c)))) :: []) ⟨mkTm .dead 40 [(30, B (u9))], mkS (rtL [] 1), 1⟩ := by
         refine run_forget [30] [] [] rfl rfl rfl rfl ?_
         subst h
         exact j8
       replace h := hu9
       clear hu9
       refine scp h rfl rfl (fun h => ?_) (fun h => ?_)
       · refine ad 1 rfl ?_
         refine run_forget [30] [] [] rfl rfl rfl rfl ?_
         subst h
         exact j9
       · refine c0 5 [30] [B ((s_1 == ([110, 111, 116] : Str)))] 113 (by kernel_rfl) ?_
         obtain ⟨u10, hu10, h⟩ := lJ h
         have j10 : Run spec_l5Name_E 0 (spec_l5Name_Q s_1 r) (.code (cR (cL (cR (cL (cR (cR (cR spec_l5Name_c))))))) :: .blk 2 :: .code (cR (cR (cR (cR spec_l5Name_c)))) :: []) ⟨mkTm .dead 40 [(30, B (u10))], mkS (rtL [] 1), 1⟩ := by
           refine run_forget [30] [] [] rfl rfl rfl rfl ?_
           subst h
           exact j9
         replace h := hu10
         clear hu10
         refine scp h rfl rfl (fun h => ?_) (fun h => ?_)
         · refine ad 1 rfl ?_
           refine run_forget [30] [] [] rfl rfl rfl rfl ?_
           subst h
           exact j10
         · refine c0 5 [30] [B ((s_1 == ([97, 110, 100] : Str)))] 145 (by kernel_rfl) ?_
           obtain ⟨u11, hu11, h⟩ := lJ h
           have j11 : Run spec_l5Name_E 0 (spec_l5Name_Q s_1 r) (.code (cR (cL (cR (cL (cR (cR (cR spec_l5Name_c))))))) :: .blk 2 :: .code (cR (cR (cR (cR spec_l5Name_c)))) :: []) ⟨mkTm .dead 40 [(30, B (u11))], mkS (rtL [] 1), 1⟩ := by
             refine run_forget [30] [] [] rfl rfl rfl rfl ?_
             subst h
             exact j10
           replace h := hu11
           clear hu11
           refine scp h rfl rfl (fun h => ?_) (fun h => ?_)
           · refine ad 1 rfl ?_
             refine run_forget [30] [] [] rfl rfl rfl rfl ?_
             subst h
             exact j11
           · refine c0 5 [30] [B ((s_1 == ([111, 114] : Str)))] 177 (by kernel_rfl) ?_
             obtain ⟨u12, hu12, h⟩ := lJ h
             have j12 : Run spec_l5Name_E 0 (spec_l5Name_Q s_1 r) (.code (cR (cL (cR (cL (cR (cR (cR spec_l5Name_c))))))) :: .blk 2 :: .code (cR (cR (cR (cR spec_l5Name_c)))) :: []) ⟨mkTm .dead 40 [(30, B (u12))], mkS (rtL [] 1), 1⟩ := by
               refine run_forget [30] [] [] rfl rfl rfl rfl ?_
               subst h
               exact j11
             replace h := hu12
             clear hu12
             refine scp h rfl rfl (fun h => ?_) (fun h => ?_)
             · refine ad 1 rfl ?_
               refine run_forget [30] [] [] rfl rfl rfl rfl ?_
               subst h
               exact j12
             · refine c0 5 [30] [B ((s_1 == ([98, 111, 116, 104] : Str)))] 209 (by kernel_rfl) ?_
               obtain ⟨u13, hu13, h⟩ := lJ h
               have j13 : Run spec_l5Name_E 0 (spec_l5Name_Q s_1 r) (.code (cR (cL (cR (cL (cR (cR (cR spec_l5Name_c))))))) :: .blk 2 :: .code (cR (cR (cR (cR spec_l5Name_c)))) :: []) ⟨mkTm .dead 40 [(30, B (u13))], mkS (rtL [] 1), 1⟩ := by
                 refine run_forget [30] [] [] rfl rfl rfl rfl ?_
                 subst h
                 exact j12
               replace h := hu13
               clear hu13
               refine scp h rfl rfl (fun h => ?_) (fun h => ?_)
               · refine ad 1 rfl ?_
                 refine run_forget [30] [] [] rfl rfl rfl rfl ?_
                 subst h
                 exact j13
               · refine c0 5 [30] [B ((s_1 == ([101, 105, 116, 104, 101, 114] : Str)))] 241 (by kernel_rfl) ?_
                 obtain ⟨u14, hu14, h⟩ := lJ h
                 have j14 : Run spec_l5Name_E 0 (spec_l5Name_Q s_1 r) (.code (cR (cL (cR (cL (cR (cR (cR spec_l5Name_c))))))) :: .blk 2 :: .code (cR (cR (cR (cR spec_l5Name_c)))) :: []) ⟨mkTm .dead 40 [(30, B (u14))], mkS (rtL [] 1), 1⟩ := by
                   refine run_forget [30] [] [] rfl rfl rfl rfl ?_
                   subst h
                   exact j13
                 replace h := hu14
                 clear hu14
                 refine scp h rfl rfl (fun h => ?_) (fun h => ?_)
                 · refine ad 1 rfl ?_
                   refine run_forget [30] [] [] rfl rfl rfl rfl ?_
                   subst h
                   exact j14
                 · refine c0 5 [30] [B ((s_1 == ([105, 116] : Str)))] 273 (by kernel_rfl) ?_
                   obtain ⟨u15, hu15, h⟩ := lJ h
                   have j15 : Run spec_l5Name_E 0 (spec_l5Name_Q s_1 r) (.code (cR (cL (cR (cL (cR (cR (cR spec_l5Name_c))))))) :: .blk 2 :: .code (cR (cR (cR (cR spec_l5Name_c)))) :: []) ⟨mkTm .dead 40 [(30, B (u15))], mkS (rtL [] 1), 1⟩ := by
                     refine run_forget [30] [] [] rfl rfl rfl rfl ?_
                     subst h
                     exact j14
                   replace h := hu15
                   clear hu15
                   refine scp h rfl rfl (fun h => ?_) (fun h => ?_)
                   · refine ad 1 rfl ?_
                     refine run_forget [30] [] [] rfl rfl rfl rfl ?_
                     subst h
                     exact j15
                   · refine c0 4 [30] [B ((s_1 == ([105, 110] : Str)))] 305 (by kernel_rfl) ?_
                     refine run_forget [30] [] [] rfl rfl rfl rfl ?_
                     subst h
                     exact j15
 have r3 : ∀ r', y3 = .inl r' → ∀ st, spec_l5Name_Q s_1 r' st → (spec_l5Name_Q s_1 r) st := fun r' e st hq => by rw [hy31 r' e] at hq; exact hq
 replace h := hy3
 refine sp 8 h rfl (fun h => ?_) (fun h => ?_)
 · refine c0 10 [17] [B (true)] 241 (by kernel_rfl) ?_
   refine run_forget [0, 17] [] [] rfl rfl rfl rfl ?_
   exact j3 _ (Option.some.inj h).symm
 · refine c0 1 [9] [str (s_1)] 113 (by kernel_rfl) ?_
   obtain ⟨c16, hc16, h⟩ := bS h
   refine og 129 (.int .u8 ((c16.toNat : Int))) rfl rfl rfl rfl (e_index rfl rfl (i_str rfl rfl hc16)) ?_
   refine c0 3 [13] [B ((decide ((c16.toNat : Int) < 97)))] 177 (by kernel_rfl) ?_
   obtain ⟨y17, hy17, hy171, hy172⟩ := bL h
   have j17 : ∀ u17, y17 = .inr u17 → Run spec_l5Name_E 0 (spec_l5Name_Q s_1 r) (.code (cR (cL (cR spec_l5Name_c))) :: .code (cR (cR spec_l5Name_c)) :: []) ⟨mkTm .dead 40 [(0, str (s_1)), (17, B (u17))], mkS (rtL [] 1), 1⟩ := by
     intro u17 hu
     replace h := hy172 u17 hu
     refine run_forget [0, 17] [] [] rfl rfl rfl rfl ?_
     exact j3 _ (Option.some.inj h).symm
   have r17 : ∀ r', y17 = .inl r' → ∀ st, spec_l5Name_Q s_1 r' st → (spec_l5Name_Q s_1 r) st := fun r' e st hq => r3 r' (hy171 r' e) st hq
   replace h := hy17
   refine sp 13 h rfl (fun h => ?_) (fun h => ?_)
   · refine c0 5 [17] [B (true)] 241 (by kernel_rfl) ?_
     refine run_forget [0, 17] [] [] rfl rfl rfl rfl ?_
     exact j17 _ (Option.some.inj h).symm
   · refine c0 1 [14] [str (s_1)] 193 (by kernel_rfl) ?_
     obtain ⟨c18, hc18, h⟩ := bS h
     refine og 209 (.int .u8 ((c18.toNat : Int))) rfl rfl rfl rfl (e_index rfl rfl (i_str rfl rfl hc18)) ?_
     refine c0 3 [17] [B ((decide ((c18.toNat : Int) > 122)))] 241 (by kernel_rfl) ?_
     refine run_forget [0, 17] [] [] rfl rfl rfl rfl ?_
     exact j17 _ (Option.some.inj h).symm
theorem spec_l5Name_good {G : Go.Ln.Ground} : Good Tryd.prog G 86 spec_l5Name_ent := good_T (fnOf_good (gl_c spec_l1In_good (gl_c spec_l5Sign_good (gl_n)))) agree_mk (Checked.mixed Tryd.checked) Tryd.func86 (n := 1) (m := 0) ⟨rfl, rfl, by decide⟩ (fun _ => ⟨rfl, rfl⟩) (fun a r h => spec_l5Name_run a r h)
def spec_l8Event_A : (Event × Int) → List V := cA enc_Event (oA I)
def spec_l8Event_R (r : Bool) : V × List V := (B (r), [])
noncomputable def spec_l8Event_ent : Ent := entT [false, false] spec_l8Event_A spec_l8Event_R fun x => spec_l8Event x.1 x.2
theorem spec_l8Event_F {e_1 : Event} {parties_2 : Int} {r} (h : spec_l8Event e_1 parties_2 = some r) : (spec_l8Event_ent).F (spec_l8Event_A (e_1, parties_2)) = some (spec_l8Event_R r) := entT_F (cA_inj enc_Event_inj (oA_inj I_inj)) h
noncomputable def spec_l8Event_c : Code := bodyOf Tryd.f63
noncomputable def spec_l8Event_E : Env := mkE Tryd.prog [(85, spec_l3Good_ent), (54, spec_l1In_ent), (86, spec_l5Name_ent)]
def spec_l8Event_Q (x : Event × Int) (r : Bool) : St → Prop := QF spec_l8Event_E Tryd.f63 [false, false] (spec_l8Event_A x) (spec_l8Event_R r)
theorem spec_l8Event_run (e_1 : Event) (parties_2 : Int) (r : Bool) (h : spec_l8Event e_1 parties_2 = some r) : RunF spec_l8Event_E Tryd.f63 [false, false] 0 (spec_l8Event_A (e_1, parties_2)) (spec_l8Event_R r) := by
 show Run _ _ (spec_l8Event_Q (e_1, parties_2) r) [.code spec_l8Event_c] _
 refine rin (n := 25) [(0, enc_Event e_1), (1, I (parties_2))] [] 1 (by kernel_rfl) (by kernel_rfl) (by kernel_rfl) rfl ?_
 unfold spec_l8Event at h
 refine ck 9 [2, 6] [] [1] [] [.hp 1 0 [] 4 0 0, I (e_1.Day)] [some ⟨0, 4, [enc_Event e_1]⟩] 65 (by kernel_rfl) ?_
 obtain ⟨r3, hr3, h⟩ := bS h
 refine o 81 (B (r3)) rfl rfl (e_callV rfl rfl (call_P rfl rfl rfl (avS (shP rfl) (avN)) (spec_l3Good_F hr3) (.inr rfl) (bl_n) rfl rfl rfl)) ?_
 refine c0 1 [8] [B (r3)] 97 (by kernel_rfl) ?_
 obtain ⟨y4, hy4, hy41, hy42⟩ := bJ h
 have j4 : ∀ u4, y4 = .inr u4 → Run spec_l8Event_E 0 (spec_l8Event_Q (e_1, parties_2) r) (.code (cR (cR spec_l8Event_c)) :: []) ⟨mkTm .dead 25 [(4, B (u4))], mkS (rtL [] 1), 1⟩ := by
   intro u4 hu
   replace h := hy42 u4 hu
   obtain rfl := Option.some.inj h
   exact s_ret rfl ⟨_, fin (vs := [B (u4)]) rfl (absE (absorb_plain rfl) (absEN)) rfl (ou_f (ou_f (ou_n))), kl_n⟩
 have r4 : ∀ r', y4 = .inl r' → ∀ st, spec_l8Event_Q (e_1, parties_2) r' st → (spec_l8Event_Q (e_1, parties_2) r) st := fun r' e st hq => by rw [hy41 r' e] at hq; exact hq
 replace h := hy4
 refine sp 8 h rfl (fun h => ?_) (fun h => ?_)
 · refine c0 4 [10, 12] [I (e_1.Party), I ((w64 (parties_2 - 1)))] 161 (by kernel_rfl) ?_
   obtain ⟨r5, hr5, h⟩ := bS h
   refine og 177 (B (r5)) rfl rfl rfl rfl (e_callV rfl rfl (call_P rfl rfl rfl (avS (shP rfl) (avS (shP rfl) (avS (shP rfl) (avN)))) (spec_l1In_F hr5) (.inr rfl) (bl_n) rfl rfl rfl)) ?_
   refine c0 2 [15] [B (r5)] 209 (by kernel_rfl) ?_
   obtain ⟨y6, hy6, hy61, hy62⟩ := bL h
   have j6 : ∀ u6, y6 = .inr u6 → Run spec_l8Event_E 0 (spec_l8Event_Q (e_1, parties_2) r) (.code (cR (cR spec_l8Event_c)) :: []) ⟨mkTm .dead 25 [(4, B (u6))], mkS (rtL [] 1), 1⟩ := by
     intro u6 hu
     replace h := hy62 u6 hu
     refine run_forget [4] [] [] rfl rfl rfl rfl ?_
     exact j4 _ (Option.some.inj h).symm
   have r6 : ∀ r', y6 = .inl r' → ∀ st, spec_l8Event_Q (e_1, parties_2) r' st → (spec_l8Event_Q (e_1, parties_2) r) st := fun r' e st hq => r4 r' (hy61 r' e) st hq
   replace h := hy6
   refine sp 15 h rfl (fun h => ?_) (fun h => ?_)
   · refine c0 2 [17] [str (e_1.Action)] 241 (by kernel_rfl) ?_
     obtain ⟨r7, hr7, h⟩ := bS h
     refine og 257 (B (r7)) rfl rfl rfl rfl (e_callV rfl rfl (call_P rfl rfl rfl (avS (shP rfl) (avN)) (spec_l5Name_F hr7) (.inr rfl) (bl_n) rfl rfl rfl)) ?_
     refine c0 2 [20] [B (r7)] 289 (by kernel_rfl) ?_
     obtain ⟨y8, hy8, hy81, hy82⟩ := bL h
     have j8 : ∀ u8, y8 = .inr u8 → Run spec_l8Event_E 0 (spec_l8Event_Q (e_1, parties_2) r) (.code (cR (cR spec_l8Event_c)) :: []) ⟨mkTm .dead 25 [(4, B (u8))], mkS (rtL [] 1), 1⟩ := by
       intro u8 hu
       replace h := hy82 u8 hu
       refine run_forget [4] [] [] rfl rfl rfl rfl ?_
       exact j6 _ (Option.some.inj h).symm
     have r8 : ∀ r', y8 = .inl r' → ∀ st, spec_l8Event_Q (e_1, parties_2) r' st → (spec_l8Event_Q (e_1, parties_2) r) st := fun r' e st hq => r6 r' (hy81 r' e) st hq
     replace h := hy8
     refine sp 20 h rfl (fun h => ?_) (fun h => ?_)
     · refine c0 2 [22] [I (e_1.Amount)] 321 (by kernel_rfl) ?_
       obtain ⟨r9, hr9, h⟩ := bS h
       refine og 337 (B (r9)) rfl rfl rfl rfl (e_callV rfl rfl (call_P rfl rfl rfl (avS (shP rfl) (avS (shP rfl) (avS (shP rfl) (avN)))) (spec_l1In_F hr9) (.inr rfl) (bl_n) rfl rfl rfl)) ?_
       refine c0 3 [4] [B (r9)] 369 (by kernel_rfl) ?_
       refine run_forget [4] [] [] rfl rfl rfl rfl ?_
       exact j8 _ (Option.some.inj h).symm
     · refine c0 6 [4] [B (false)] 369 (by kernel_rfl) ?_
       refine run_forget [4] [] [] rfl rfl rfl rfl ?_
       exact j8 _ (Option.some.inj h).symm
   · refine c0 11 [4] [B (false)] 369 (by kernel_rfl) ?_
     refine run_forget [4] [] [] rfl rfl rfl rfl ?_
     exact j6 _ (Option.some.inj h).symm
 · refine c0 18 [4] [B (false)] 369 (by kernel_rfl) ?_
   refine run_forget [4] [] [] rfl rfl rfl rfl ?_
   exact j4 _ (Option.some.inj h).symm
theorem spec_l8Event_good {G : Go.Ln.Ground} : Good Tryd.prog G 63 spec_l8Event_ent := good_T (fnOf_good (gl_c spec_l3Good_good (gl_c spec_l1In_good (gl_c spec_l5Name_good (gl_n))))) agree_mk (Checked.mixed Tryd.checked) Tryd.func63 (n := 2) (m := 0) ⟨rfl, rfl, by decide⟩ (fun _ => ⟨rfl, rfl⟩) (fun a r h => spec_l8Event_run a.1 a.2 r h)
def spec_l8Valid_A : ((List Event) × Int) → List V := cA (slE enc_Event) (oA I)
def spec_l8Valid_R (r : Bool) : V × List V := (B (r), [])
noncomputable def spec_l8Valid_ent : Ent := entT [false, false] spec_l8Valid_A spec_l8Valid_R fun x => spec_l8Valid x.1 x.2
theorem spec_l8Valid_F {list_1 : List Event} {parties_2 : Int} {r} (h : spec_l8Valid list_1 parties_2 = some r) : (spec_l8Valid_ent).F (spec_l8Valid_A (list_1, parties_2)) = some (spec_l8Valid_R r) := entT_F (cA_inj (isl_inj enc_Event_inj) (oA_inj I_inj)) h
noncomputable def spec_l8Valid_c : Code := bodyOf Tryd.f68
noncomputable def spec_l8Valid_E : Env := mkE Tryd.prog [(63, spec_l8Event_ent), (54, spec_l1In_ent)]
def spec_l8Valid_Q (x : (List Event) × Int) (r : Bool) : St → Prop := QF spec_l8Valid_E Tryd.f68 [false, false] (spec_l8Valid_A x) (spec_l8Valid_R r)
theorem spec_l8Valid_la_run (list_1 : List Event) (parties_2 : Int)  {Q : St → Prop} {K : List It} (hK : noD K = true) {x3 : Int} {y : Bool ⊕ Unit} (h : spec_l8Valid_la list_1 parties_2 x3 = some y) : (∀ r', y = .inl r' → ∀ st, spec_l8Valid_Q (list_1, parties_2) r' st → Q st) → (∀ u : Unit, y = .inr u → Run spec_l8Valid_E 0 Q K ⟨mkTm .dead 30 [(0, .isl false ((list_1).map enc_Event)), (1, I (parties_2))], mkS (rtL [] 1), 1⟩) → Run spec_l8Valid_E 0 Q (.code (cL (cL (cR (cL (cR spec_l8Valid_c))))) :: .lp (cL (cL (cR (cL (cR spec_l8Valid_c))))) :: .blk 0 :: K) ⟨mkTm .dead 30 [(0, .isl false ((list_1).map enc_Event)), (1, I (parties_2)), (5, I (x3))], mkS (rtL [] 1), 1⟩ := by
 refine fix_ind (P := fun (x3 : Int) (y : Bool ⊕ Unit) => (∀ r', y = .inl r' → ∀ st, spec_l8Valid_Q (list_1, parties_2) r' st → Q st) → (∀ u : Unit, y = .inr u → Run spec_l8Valid_E 0 Q K ⟨mkTm .dead 30 [(0, .isl false ((list_1).map enc_Event)), (1, I (parties_2))], mkS (rtL [] 1), 1⟩) → Run spec_l8Valid_E 0 Q (.code (cL (cL (cR (cL (cR spec_l8Valid_c))))) :: .lp (cL (cL (cR (cL (cR spec_l8Valid_c))))) :: .blk 0 :: K) ⟨mkTm .dead 30 [(0, .isl false ((list_1).map enc_Event)), (1, I (parties_2)), (5, I (x3))], mkS (rtL [] 1), 1⟩) (spec_l8Valid_la_fin list_1 parties_2) ?_ h
 clear h y x3
 intro self ih x3 y h hr hn
 unfold spec_l8Valid_la_F at h
 refine c0 5 [6, 7] [I (x3), .isl false ((list_1).map enc_Event)] 33 (by kernel_rfl) ?_
 refine o 49 (I ((len list_1))) rfl rfl (e_len rfl rfl rfl (l_isl rfl)) ?_
 refine c0 2 [10] [B ((decide (x3 < (len list_1))))] 81 (by kernel_rfl) ?_
 obtain ⟨u4, hu4, h⟩ := lJ h
 have j4 : Run spec_l8Valid_E 0 Q (.code (cR (cL (cL (cL (cR (cL (cR spec_l8Valid_c))))))) :: .code (cR (cL (cL (cR (cL (cR spec_l8Valid_c)))))) :: .lp (cL (cL (cR (cL (cR spec_l8Valid_c))))) :: .blk 0 :: K) ⟨mkTm .dead 30 [(0, .isl false ((list_1).map enc_Event)), (1, I (parties_2)), (5, I (x3)), (13, B (u4))], mkS (rtL [] 1), 1⟩ := by
   refine sc h rfl rfl (fun h => ?_) (fun h => ?_)
   · refine ad 1 rfl ?_
     refine c0 6 [16, 17] [.isl false ((list_1).map enc_Event), I (x3)] 33 (by kernel_rfl) ?_
     obtain ⟨e5, he5, h⟩ := bS h
     refine o 49 (.iptr (enc_Event e5) 0) rfl rfl (e_indexAddr rfl rfl rfl (ix_islE rfl rfl rfl rfl he5)) ?_
     refine c0 2 [19, 20] [enc_Event e5, I (parties_2)] 81 (by kernel_rfl) ?_
     obtain ⟨r6, hr6, h⟩ := bS h
     refine o 97 (B (r6)) rfl rfl (e_callV rfl rfl (call_P rfl rfl rfl (avS (shP rfl) (avS (shP rfl) (avN))) (spec_l8Event_F hr6) (.inr rfl) (bl_n) rfl rfl rfl)) ?_
     refine c0 2 [22] [B ((!r6))] 113 (by kernel_rfl) ?_
     refine sc h rfl rfl (fun h => ?_) (fun h => ?_)
     · refine c0 4 [4] [B (false)] 129 (by kernel_rfl) ?_
       exact s_ret rfl (hr _ (Option.some.inj h).symm _ ⟨_, fin (vs := [B (false)]) rfl (absE (absorb_plain rfl) (absEN)) rfl (ou_f (ou_f (ou_n))), kl_n⟩)
     · refine ad 1 rfl ?_
       refine c0 6 [5] [I ((w64 (x3 + 1)))] 161 (by kernel_rfl) ?_
       refine s_lp ?_
       refine run_forget [0, 1, 5] [] [] rfl rfl rfl rfl ?_
       exact ih _ _ h hr hn
   · refine ad 1 rfl ?_
     refine run_forget [0, 1] [] [] rfl rfl rfl hK ?_
     exact hn _ (Option.some.inj h).symm
 replace h := hu4
 clear hu4
 refine sp 10 h rfl (fun h => ?_) (fun h => ?_)
 · refine c0 4 [13] [B ((decide (x3 ≤ 40)))] 129 (by kernel_rfl) ?_
   refine run_forget [0, 1, 5, 13] [] [] rfl rfl rfl rfl ?_
   subst h
   exact j4
 · refine c0 4 [13] [B (false)] 129 (by kernel_rfl) ?_
   refine run_forget [0, 1, 5, 13] [] [] rfl rfl rfl rfl ?_
   subst h
   exact j4
theorem spec_l8Valid_run (list_1 : List Event) (parties_2 : Int) (r : Bool) (h : spec_l8Valid list_1 parties_2 = some r) : RunF spec_l8Valid_E Tryd.f68 [false, false] 0 (spec_l8Valid_A (list_1, parties_2)) (spec_l8Valid_R r) := by
 show Run _ _ (spec_l8Valid_Q (list_1, parties_2) r) [.code spec_l8Valid_c] _
 refine rin (n := 30) [(0, .isl false ((list_1).map enc_Event)), (1, I (parties_2))] [] 1 (by kernel_rfl) (by kernel_rfl) (by kernel_rfl) rfl ?_
 unfold spec_l8Valid at h
 refine c0 10 [5] [I (0)] 33 (by kernel_rfl) ?_
 obtain ⟨y7, hy7, hy71, hy72⟩ := bJ h
 refine s_loop rfl ?_
 refine run_forget [0, 1, 5] [] [] rfl rfl rfl rfl ?_
 refine spec_l8Valid_la_run list_1 parties_2 rfl hy7 (fun r' e st hq => by rw [hy71 r' e] at hq; exact hq) (fun u7 hu => ?_)
 replace h := hy72 u7 hu
 refine c0 3 [23] [.isl false ((list_1).map enc_Event)] 17 (by kernel_rfl) ?_
 refine o 33 (I ((len list_1))) rfl rfl (e_len rfl rfl rfl (l_isl rfl)) ?_
 refine c0 2 [26] [B ((decide ((len list_1) ≤ 40)))] 65 (by kernel_rfl) ?_
 obtain ⟨y8, hy8, hy81, hy82⟩ := bJ h
 have j8 : ∀ u8, y8 = .inr u8 → Run spec_l8Valid_E 0 (spec_l8Valid_Q (list_1, parties_2) r) (.code (cR (cR (cR spec_l8Valid_c))) :: []) ⟨mkTm .dead 30 [(4, B (u8))], mkS (rtL [] 1), 1⟩ := by
   intro u8 hu
   replace h := hy82 u8 hu
   obtain rfl := Option.some.inj h
   exact s_ret rfl ⟨_, fin (vs := [B (u8)]) rfl (absE (absorb_plain rfl) (absEN)) rfl (ou_f (ou_f (ou_n))), kl_n⟩
 have r8 : ∀ r', y8 = .inl r' → ∀ st, spec_l8Valid_Q (list_1, parties_2) r' st → (spec_l8Valid_Q (list_1, parties_2) r) st := fun r' e st hq => by rw [hy81 r' e] at hq; exact hq
 replace h := hy8
 refine sp 26 h rfl (fun h => ?_) (fun h => ?_)
 · refine c0 1 [27] [I (parties_2)] 81 (by kernel_rfl) ?_
   obtain ⟨r9, hr9, h⟩ := bS h
   refine og 97 (B (r9)) rfl rfl rfl rfl (e_callV rfl rfl (call_P rfl rfl rfl (avS (shP rfl) (avS (shP rfl) (avS (shP rfl) (avN)))) (spec_l1In_F hr9) (.inr rfl) (bl_n) rfl rfl rfl)) ?_
   refine c0 3 [4] [B (r9)] 129 (by kernel_rfl) ?_
   refine run_forget [4] [] [] rfl rfl rfl rfl ?_
   exact j8 _ (Option.some.inj h).symm
 · refine c0 5 [4] [B (false)] 129 (by kernel_rfl) ?_
   refine run_forget [4] [] [] rfl rfl rfl rfl ?_
   exact j8 _ (Option.some.inj h).symm
theorem spec_l8Valid_good {G : Go.Ln.Ground} : Good Tryd.prog G 68 spec_l8Valid_ent := good_T (fnOf_good (gl_c spec_l8Event_good (gl_c spec_l1In_good (gl_n)))) agree_mk (Checked.mixed Tryd.checked) Tryd.func68 (n := 2) (m := 0) ⟨rfl, rfl, by decide⟩ (fun _ => ⟨rfl, rfl⟩) (fun a r h => spec_l8Valid_run a.1 a.2 r h)
def spec_l8Good_A : ((List Event) × Int) → List V := cA (slE enc_Event) (oA I)
def spec_l8Good_R (r : Bool) : V × List V := (B (r), [])
noncomputable def spec_l8Good_ent : Ent := entT [false, false] spec_l8Good_A spec_l8Good_R fun x => spec_l8Good x.1 x.2
theorem spec_l8Good_F {list_1 : List Event} {parties_2 : Int} {r} (h : spec_l8Good list_1 parties_2 = some r) : (spec_l8Good_ent).F (spec_l8Good_A (list_1, parties_2)) = some (spec_l8Good_R r) := entT_F (cA_inj (isl_inj enc_Event_inj) (oA_inj I_inj)) h
noncomputable def spec_l8Good_c : Code := bodyOf Tryd.f49
noncomputable def spec_l8Good_E : Env := mkE Tryd.prog [(77, spec_l8Compare_ent), (68, spec_l8Valid_ent)]
def spec_l8Good_Q (x : (List Event) × Int) (r : Bool) : St → Prop := QF spec_l8Good_E Tryd.f49 [false, false] (spec_l8Good_A x) (spec_l8Good_R r)
theorem spec_l8Good_la_run (list_1 : List Event) (parties_2 : Int)  {Q : St → Prop} {K : List It} (hK : noD K = true) {x3 : Int} {y : Bool ⊕ Unit} (h : spec_l8Good_la list_1 parties_2 x3 = some y) : (∀ r', y = .inl r' → ∀ st, spec_l8Good_Q (list_1, parties_2) r' st → Q st) → (∀ u : Unit, y = .inr u → Run spec_l8Good_E 0 Q K ⟨mkTm .dead 30 [(0, .isl false ((list_1).map enc_Event)), (1, I (parties_2))], mkS (rtL [] 1), 1⟩) → Run spec_l8Good_E 0 Q (.code (cL (cL (cR (cL (cR spec_l8Good_c))))) :: .lp (cL (cL (cR (cL (cR spec_l8Good_c))))) :: .blk 0 :: K) ⟨mkTm .dead 30 [(0, .isl false ((list_1).map enc_Event)), (1, I (parties_2)), (5, I (x3))], mkS (rtL [] 1), 1⟩ := by
 refine fix_ind (P := fun (x3 : Int) (y : Bool ⊕ Unit) => (∀ r', y = .inl r' → ∀ st, spec_l8Good_Q (list_1, parties_2) r' st → Q st) → (∀ u : Unit, y = .inr u → Run spec_l8Good_E 0 Q K ⟨mkTm .dead 30 [(0, .isl false ((list_1).map enc_Event)), (1, I (parties_2))], mkS (rtL [] 1), 1⟩) → Run spec_l8Good_E 0 Q (.code (cL (cL (cR (cL (cR spec_l8Good_c))))) :: .lp (cL (cL (cR (cL (cR spec_l8Good_c))))) :: .blk 0 :: K) ⟨mkTm .dead 30 [(0, .isl false ((list_1).map enc_Event)), (1, I (parties_2)), (5, I (x3))], mkS (rtL [] 1), 1⟩) (spec_l8Good_la_fin list_1 parties_2) ?_ h
 clear h y x3
 intro self ih x3 y h hr hn
 unfold spec_l8Good_la_F at h
 refine c0 5 [6, 7] [I (x3), .isl false ((list_1).map enc_Event)] 33 (by kernel_rfl) ?_
 refine o 49 (I ((len list_1))) rfl rfl (e_len rfl rfl rfl (l_isl rfl)) ?_
 refine c0 2 [10] [B ((decide (x3 < (len list_1))))] 81 (by kernel_rfl) ?_
 obtain ⟨u4, hu4, h⟩ := lJ h
 have j4 : Run spec_l8Good_E 0 Q (.code (cR (cL (cL (cL (cR (cL (cR spec_l8Good_c))))))) :: .code (cR (cL (cL (cR (cL (cR spec_l8Good_c)))))) :: .lp (cL (cL (cR (cL (cR spec_l8Good_c))))) :: .blk 0 :: K) ⟨mkTm .dead 30 [(0, .isl false ((list_1).map enc_Event)), (1, I (parties_2)), (5, I (x3)), (13, B (u4))], mkS (rtL [] 1), 1⟩ := by
   refine sc h rfl rfl (fun h => ?_) (fun h => ?_)
   · refine ad 1 rfl ?_
     refine ad 3 rfl ?_
     refine s_draw [0, 0, 2, 7, 15, 0, 0, 96, 224, 511, 1023] rfl (by decide +kernel) ?_
     refine dp [] [] (.isl false ((list_1).map enc_Event)) rfl (e_move rfl) rfl (rfl) (by decide) ?_
     refine dp [] [] (I (x3)) rfl (e_move rfl) rfl (rfl) (by decide) ?_
     refine dp [] [] (I ((w64 (x3 - 1)))) rfl (e_bin rfl rfl rfl) rfl (rfl) (by decide) ?_
     obtain ⟨e5, he5, h⟩ := bS h
     refine dp [] [] (.iptr (enc_Event e5) 0) rfl (e_indexAddr rfl rfl rfl (ix_islE rfl rfl rfl rfl he5)) rfl (rfl) (by decide) ?_
     refine dp [] [] (enc_Event e5) rfl (e_ld rfl rfl) rfl (rfl) (by decide) ?_
     refine dp [] [] (.isl false ((list_1).map enc_Event)) rfl (e_move rfl) rfl (rfl) (by decide) ?_
     refine dp [] [] (I (x3)) rfl (e_move rfl) rfl (rfl) (by decide) ?_
     obtain ⟨e6, he6, h⟩ := bS h
     refine dp [] [] (.iptr (enc_Event e6) 0) rfl (e_indexAddr rfl rfl rfl (ix_islE rfl rfl rfl rfl he6)) rfl (rfl) (by decide) ?_
     refine dp [] [] (enc_Event e6) rfl (e_ld rfl rfl) rfl (rfl) (by decide) ?_
     obtain ⟨r7, hr7, h⟩ := bS h
     refine dp [] [] (I (r7)) rfl (e_callV rfl rfl (call_P rfl rfl rfl (avS (shP rfl) (avS (shP rfl) (avN))) (spec_l8Compare_F hr7) (.inr rfl) (bl_n) rfl rfl rfl)) rfl (w_callO rfl rfl rfl rfl (avS (shP rfl) (avS (shP rfl) (avN))) (spec_l8Compare_F hr7) (.inr rfl) rfl) (by decide) ?_
     refine dp [] [] (B ((decide (r7 > 0)))) rfl (e_bin rfl rfl rfl) rfl (rfl) (by decide) ?_
     refine de 177 rfl rfl ?_
     refine sc h rfl rfl (fun h => ?_) (fun h => ?_)
     · refine c0 4 [4] [B (false)] 193 (by kernel_rfl) ?_
       exact s_ret rfl (hr _ (Option.some.inj h).symm _ ⟨_, fin (vs := [B (false)]) rfl (absE (absorb_plain rfl) (absEN)) rfl (ou_f (ou_f (ou_n))), kl_n⟩)
     · refine ad 1 rfl ?_
       refine c0 6 [5] [I ((w64 (x3 + 1)))] 225 (by kernel_rfl) ?_
       refine s_lp ?_
       refine run_forget [0, 1, 5] [] [] rfl rfl rfl rfl ?_
       exact ih _ _ h hr hn
   · refine ad 1 rfl ?_
     refine run_forget [0, 1] [] [] rfl rfl rfl hK ?_
     exact hn _ (Option.some.inj h).symm
 replace h := hu4
 clear hu4
 refine sp 10 h rfl (fun h => ?_) (fun h => ?_)
 · refine c0 4 [13] [B ((decide (x3 ≤ 40)))] 129 (by kernel_rfl) ?_
   refine run_forget [0, 1, 5, 13] [] [] rfl rfl rfl rfl ?_
   subst h
   exact j4
 · refine c0 4 [13] [B (false)] 129 (by kernel_rfl) ?_
   refine run_forget [0, 1, 5, 13] [] [] rfl rfl rfl rfl ?_
   subst h
   exact j4
theorem spec_l8Good_run (list_1 : List Event) (parties_2 : Int) (r : Bool) (h : spec_l8Good list_1 parties_2 = some r) : RunF spec_l8Good_E Tryd.f49 [false, false] 0 (spec_l8Good_A (list_1, parties_2)) (spec_l8Good_R r) := by
 show Run _ _ (spec_l8Good_Q (list_1, parties_2) r) [.code spec_l8Good_c] _
 refine rin (n := 30) [(0, .isl false ((list_1).map enc_Event)), (1, I (parties_2))] [] 1 (by kernel_rfl) (by kernel_rfl) (by kernel_rfl) rfl ?_
 unfold spec_l8Good at h
 refine c0 10 [5] [I (1)] 33 (by kernel_rfl) ?_
 obtain ⟨y8, hy8, hy81, hy82⟩ := bJ h
 refine s_loop rfl ?_
 refine run_forget [0, 1, 5] [] [] rfl rfl rfl rfl ?_
 refine spec_l8Good_la_run list_1 parties_2 rfl hy8 (fun r' e st hq => by rw [hy81 r' e] at hq; exact hq) (fun u8 hu => ?_)
 replace h := hy82 u8 hu
 refine c0 4 [27, 28] [.isl false ((list_1).map enc_Event), I (parties_2)] 33 (by kernel_rfl) ?_
 obtain ⟨r9, hr9, h⟩ := bS h
 refine o 49 (B (r9)) rfl rfl (e_callV rfl rfl (call_P rfl rfl rfl (avS (shP rfl) (avS (shP rfl) (avN))) (spec_l8Valid_F hr9) (.inr rfl) (bl_n) rfl rfl rfl)) ?_
 refine c0 2 [4] [B (r9)] 65 (by kernel_rfl) ?_
 obtain rfl := Option.some.inj h
 exact s_ret rfl ⟨_, fin (vs := [B (r9)]) rfl (absE (absorb_plain rfl) (absEN)) rfl (ou_f (ou_f (ou_n))), kl_n⟩
theorem spec_l8Good_good {G : Go.Ln.Ground} : Good Tryd.prog G 49 spec_l8Good_ent := good_T (fnOf_good (gl_c spec_l8Compare_good (gl_c spec_l8Valid_good (gl_n)))) agree_mk (Checked.mixed Tryd.checked) Tryd.func49 (n := 2) (m := 0) ⟨rfl, rfl, by decide⟩ (fun _ => ⟨rfl, rfl⟩) (fun a r h => spec_l8Good_run a.1 a.2 r h)
def spec_l1Put_A : ((List Int) × Int) → List V := cA (usE 1 I) (oA I)
def spec_l1Put_R (r : (List Int)) : V × List V := (.usl 1 ((r).map I), [.dead])
noncomputable def spec_l1Put_ent : Ent := entT [true, false] spec_l1Put_A spec_l1Put_R fun x => spec_l1Put x.1 x.2
theorem spec_l1Put_F {l_8 : List Int} {n_9 : Int} {r} (h : spec_l1Put l_8 n_9 = some r) : (spec_l1Put_ent).F (spec_l1Put_A (l_8, n_9)) = some (spec_l1Put_R r) := entT_F (cA_inj (usl_inj I_inj) (oA_inj I_inj)) h
noncomputable def spec_l1Put_c : Code := bodyOf Tryd.f60
noncomputable def spec_l1Put_E : Env := mkE Tryd.prog []
def spec_l1Put_Q (x : (List Int) × Int) (r : (List Int)) : St → Prop := QF spec_l1Put_E Tryd.f60 [true, false] (spec_l1Put_A x) (spec_l1Put_R r)
theorem spec_l1Put_la_run (l_8 : List Int) (n_9 : Int)  {Q : St → Prop} {K : List It} (hK : noD K = true) {x3 : Int} {y : ((List Int)) ⊕ (Int × Int × (List Int))} (h : spec_l1Put_la l_8 n_9 x3 = some y) : (∀ r', y = .inl r' → ∀ st, spec_l1Put_Q (l_8, n_9) r' st → Q st) → (∀ u : Int × Int × (List Int), y = .inr u → Run spec_l1Put_E 1 Q K ⟨mkTm .dead 45 [(0, .hs 1 0 [] 1 0 ((u.2.2).map I).length), (1, I (u.1)), (5, I (u.2.1))], mkS (rtL [⟨0, 1, (u.2.2).map I⟩] 1), 2⟩) → Run spec_l1Put_E 1 Q (.code (cL (cL (cL (cR (cR spec_l1Put_c))))) :: .lp (cL (cL (cL (cR (cR spec_l1Put_c))))) :: .blk 0 :: K) ⟨mkTm .dead 45 [(0, .hs 1 0 [] 1 0 ((l_8).map I).length), (1, I (n_9)), (5, I (x3))], mkS (rtL [⟨0, 1, (l_8).map I⟩] 1), 2⟩ := by
 refine fix_ind (P := fun (x3 : Int) (y : ((List Int)) ⊕ (Int × Int × (List Int))) => (∀ r', y = .inl r' → ∀ st, spec_l1Put_Q (l_8, n_9) r' st → Q st) → (∀ u : Int × Int × (List Int), y = .inr u → Run spec_l1Put_E 1 Q K ⟨mkTm .dead 45 [(0, .hs 1 0 [] 1 0 ((u.2.2).map I).length), (1, I (u.1)), (5, I (u.2.1))], mkS (rtL [⟨0, 1, (u.2.2).map I⟩] 1), 2⟩) → Run spec_l1Put_E 1 Q (.code (cL (cL (cL (cR (cR spec_l1Put_c))))) :: .lp (cL (cL (cL (cR (cR spec_l1Put_c))))) :: .blk 0 :: K) ⟨mkTm .dead 45 [(0, .hs 1 0 [] 1 0 ((l_8).map I).length), (1, I (n_9)), (5, I (x3))], mkS (rtL [⟨0, 1, (l_8).map I⟩] 1), 2⟩) (spec_l1Put_la_fin l_8 n_9) ?_ h
 clear h y x3
 intro self ih x3 y h hr hn
 unfold spec_l1Put_la_F at h
 refine c0 5 [6, 7] [I (x3), .hs 1 0 [] 1 0 ((l_8).map I).length] 34 (by kernel_rfl) ?_
 refine o 50 (I ((len l_8))) rfl rfl (e_len rfl rfl rfl (l_hsM (f := I) (xs := l_8) rfl rfl)) ?_
 refine c0 2 [10] [B ((decide (x3 < (len l_8))))] 82 (by kernel_rfl) ?_
 obtain ⟨y4, hy4, hy41, hy42⟩ := bL h
 have j4 : ∀ u4, y4 = .inr u4 → Run spec_l1Put_E 1 Q (.code (cR (cL (cL (cL (cL (cR (cR spec_l1Put_c))))))) :: .code (cR (cL (cL (cL (cR (cR spec_l1Put_c)))))) :: .lp (cL (cL (cL (cR (cR spec_l1Put_c))))) :: .blk 0 :: K) ⟨mkTm .dead 45 [(0, .hs 1 0 [] 1 0 ((l_8).map I).length), (1, I (n_9)), (5, I (x3)), (17, B (u4))], mkS (rtL [⟨0, 1, (l_8).map I⟩] 1), 2⟩ := by
   intro u4 hu
   replace h := hy42 u4 hu
   refine sc h rfl rfl (fun h => ?_) (fun h => ?_)
   · refine ad 1 rfl ?_
     refine c0 7 [5] [I ((w64 (x3 + 1)))] 50 (by kernel_rfl) ?_
     refine s_lp ?_
     refine run_forget [0, 1, 5] [1] [⟨0, 1, (l_8).map I⟩] rfl rfl rfl rfl ?_
     exact ih _ _ h hr hn
   · refine ad 1 rfl ?_
     refine run_forget [0, 1, 5] [1] [⟨0, 1, (l_8).map I⟩] rfl rfl rfl hK ?_
     exact hn _ (Option.some.inj h).symm
 have r4 : ∀ r', y4 = .inl r' → ∀ st, spec_l1Put_Q (l_8, n_9) r' st → Q st := fun r' e st hq => hr r' (hy41 r' e) st hq
 replace h := hy4
 refine sp 10 h rfl (fun h => ?_) (fun h => ?_)
 · refine c0 2 [11, 12] [.hs 1 0 [] 1 0 ((l_8).map I).length, I (x3)] 114 (by kernel_rfl) ?_
   obtain ⟨e5, he5, h⟩ := bS h
   refine og 130 (.hp 1 0 [] 1 (0 + Int.toNat (x3)) 0) rfl rfl rfl rfl (e_indexAddr rfl rfl rfl (ix_hsM (f := I) (xs := l_8) rfl rfl rfl he5)) ?_
   refine og 146 (I (e5)) rfl rfl rfl rfl (e_ld rfl (ld_at (path := []) rfl rfl rfl (ra_n) (get_map (f := I) (xs := l_8) he5) rfl rfl rfl)) ?_
   refine c0 4 [17] [B ((decide (e5 < n_9)))] 194 (by kernel_rfl) ?_
   refine run_forget [0, 1, 5, 17] [1] [⟨0, 1, (l_8).map I⟩] rfl rfl rfl rfl ?_
   exact j4 _ (Option.some.inj h).symm
 · refine c0 8 [17] [B (false)] 194 (by kernel_rfl) ?_
   refine run_forget [0, 1, 5, 17] [1] [⟨0, 1, (l_8).map I⟩] rfl rfl rfl rfl ?_
   exact j4 _ (Option.some.inj h).symm
theorem spec_l1Put_run (l_8 : List Int) (n_9 : Int) (r : (List Int)) (h : spec_l1Put l_8 n_9 = some r) : RunF spec_l1Put_E Tryd.f60 [true, false] 1 (spec_l1Put_A (l_8, n_9)) (spec_l1Put_R r) := by
 show Run _ _ (spec_l1Put_Q (l_8, n_9) r) [.code spec_l1Put_c] _
 refine rin (n := 45) [(0, .hs 1 0 [] 1 0 ((l_8).map I).length), (1, I (n_9))] [(1, some ⟨0, 1, (l_8).map I⟩)] 2 (by kernel_rfl) (by kernel_rfl) (by kernel_rfl) rfl ?_
 unfold spec_l1Put at h
 refine c0 10 [5] [I (0)] 34 (by kernel_rfl) ?_
 obtain ⟨y6, hy6, hy61, hy62⟩ := bJ h
 refine s_loop rfl ?_
 refine run_forget [0, 1, 5] [1] [⟨0, 1, (l_8).map I⟩] rfl rfl rfl rfl ?_
 refine spec_l1Put_la_run l_8 n_9 rfl hy6 (fun r' e st hq => by rw [hy61 r' e] at hq; exact hq) (fun u6 hu => ?_)
 replace h := hy62 u6 hu
 refine c0 5 [20, 21] [I (u6.2.1), .hs 1 0 [] 1 0 ((u6.2.2).map I).length] 34 (by kernel_rfl) ?_
 refine o 50 (I ((len u6.2.2))) rfl rfl (e_len rfl rfl rfl (l_hsM (f := I) (xs := u6.2.2) rfl rfl)) ?_
 refine c0 2 [24] [B ((decide (u6.2.1 < (len u6.2.2))))] 82 (by kernel_rfl) ?_
 obtain ⟨y7, hy7, hy71, hy72⟩ := bJ h
 have j7 : ∀ u7, y7 = .inr u7 → Run spec_l1Put_E 1 (spec_l1Put_Q (l_8, n_9) r) (.code (cR (cL (cR (cR (cR spec_l1Put_c))))) :: .code (cR (cR (cR (cR spec_l1Put_c)))) :: []) ⟨mkTm .dead 45 [(0, .hs 1 0 [] 1 0 ((u6.2.2).map I).length), (1, I (u6.1)), (5, I (u6.2.1)), (31, B (u7))], mkS (rtL [⟨0, 1, (u6.2.2).map I⟩] 1), 2⟩ := by
   intro u7 hu
   replace h := hy72 u7 hu
   refine sc h rfl rfl (fun h => ?_) (fun h => ?_)
   · refine c0 5 [4] [.hs 1 0 [] 1 0 ((u6.2.2).map I).length] 34 (by kernel_rfl) ?_
     obtain rfl := Option.some.inj h
     exact s_ret rfl ⟨_, fin (vs := [.hs 1 0 [] 1 0 ((u6.2.2).map I).length]) rfl (absE (abs1 rfl (abs_hs rfl rfl)) (absEN)) rfl (ou_1 rfl (oc_no rfl) (ou_f (ou_n))), kl_d (kl_n)⟩
   · refine ad 1 rfl ?_
     refine ad 1 rfl ?_
     refine s_draw [0, 0, 0, 6, 15, 0, 32, 127, 0, 0, 768, 2047, 4095] rfl (by decide +kernel) ?_
     refine dp [] [] (.hs 2 0 [] 1 0 0) rfl (e_buildSlice rfl (bs_mk (f := I) (xs := []) (z := I (0)) (es := []) (ws := []) rfl rfl rfl (by decide) rfl (abs_each_plain rfl) rfl)) rfl (rfl) (by decide) ?_
     refine dp [] [] (.hs 1 0 [] 1 0 ((u6.2.2).map I).length) rfl (e_move rfl) rfl (rfl) (by decide) ?_
     refine dp [] [] (I (u6.2.1)) rfl (e_move rfl) rfl (rfl) (by decide) ?_
     obtain ⟨s8, hs8, h⟩ := bS h
     refine dp [1] [] (.hs 1 0 [] 1 (0 + Int.toNat (0)) (Int.toNat (u6.2.1) - Int.toNat (0))) rfl (e_slice rfl rfl rfl rfl (sl_hsM (f := I) (xs := u6.2.2) rfl rfl rfl rfl rfl hs8)) rfl (rfl) (by decide) ?_
     obtain ⟨p9, hp9, h⟩ := bS h
     obtain ⟨a10, ha10, h⟩ := bS h
     refine dp [2, 1] [2] (.hs 66 0 [] 1 0 ((a10).map I).length) rfl (e_append rfl rfl rfl rfl rfl (ap_hsM (path := []) (es0 := []) (f := I) (xs := ([] : List Int)) (ys := p9) rfl rfl (take_pt (path := []) (f := I) (xs := u6.2.2) rfl rfl (ra_n) hp9 I_flat) rfl rfl rfl (rfl) rfl (by decide) I_cells ha10 rfl (to_n))) rfl (w_app rfl (aw_hs (path := []) (f := I) (xs := u6.2.2) rfl rfl (ra_n) I_flat rfl)) (by decide) ?_
     refine dp [] [] (I (u6.1)) rfl (e_move rfl) rfl (rfl) (by decide) ?_
     refine dp [] [] (.hs 98 0 [] 1 0 1) rfl (e_buildSlice rfl (bs_mk (f := I) (xs := []) (z := I (0)) (es := [I (u6.1)]) (ws := [I (u6.1)]) rfl rfl rfl (by decide) rfl (abs_each_plain rfl) rfl)) rfl (rfl) (by decide) ?_
     obtain ⟨a11, ha11, h⟩ := bS h
     refine dp [66, 98] [66] (.hs 114 0 [] 1 0 ((a11).map I).length) rfl (e_append rfl rfl rfl rfl rfl (ap_hsM (path := []) (f := I) (xs := a10) (ys := [u6.1]) rfl rfl (take_hs rfl rfl rfl) rfl rfl rfl (ra_n) rfl (by decide) I_cells ha11 rfl (to_n))) rfl (w_app rfl (aw_hs (path := []) (f := I) (xs := [u6.1]) rfl rfl (ra_n) I_flat rfl)) (by decide) ?_
     refine dp [] [] (.hs 1 0 [] 1 0 ((u6.2.2).map I).length) rfl (e_move rfl) rfl (rfl) (by decide) ?_
     refine dp [] [] (I (u6.2.1)) rfl (e_move rfl) rfl (rfl) (by decide) ?_
     obtain ⟨s12, hs12, h⟩ := bS h
     refine dp [1] [] (.hs 1 0 [] 1 (0 + Int.toNat (u6.2.1)) (Int.toNat (len u6.2.2) - Int.toNat (u6.2.1))) rfl (e_slice rfl rfl rfl rfl (sl_hsM (f := I) (xs := u6.2.2) rfl rfl rfl rfl (bd_n rfl) hs12)) rfl (rfl) (by decide) ?_
     obtain ⟨p13, hp13, h⟩ := bS h
     obtain ⟨a14, ha14, h⟩ := bS h
     refine dp [114, 1] [114] (.hs 178 0 [] 1 0 ((a14).map I).length) rfl (e_append rfl rfl rfl rfl rfl (ap_hsM (path := []) (f := I) (xs := a11) (ys := p13) rfl rfl (take_pt (path := []) (f := I) (xs := u6.2.2) rfl rfl (ra_n) hp13 I_flat) rfl rfl rfl (ra_n) rfl (by decide) I_cells ha14 rfl (to_n))) rfl (w_app rfl (aw_hs (path := []) (f := I) (xs := u6.2.2) rfl rfl (ra_n) I_flat rfl)) (by decide) ?_
     refine dp [] [] (.hs 178 0 [] 1 0 ((a14).map I).length) rfl (e_assign rfl) rfl (rfl) (by decide) ?_
     refine de 210 rfl rfl ?_
     obtain ⟨g15, h⟩ := gG h
     obtain rfl := Option.some.inj h
     exact s_ret rfl ⟨_, fin (vs := [.hs 178 0 [] 1 0 ((a14).map I).length]) rfl (absE (abs1 rfl (abs_hs rfl rfl)) (absEN)) rfl (ou_1 rfl (oc_hsG (f := I) (xs := u6.2.2) (by simpa using g15) rfl) (ou_f (ou_n))), kl_d (kl_n)⟩
 have r7 : ∀ r', y7 = .inl r' → ∀ st, spec_l1Put_Q (l_8, n_9) r' st → (spec_l1Put_Q (l_8, n_9) r) st := fun r' e st hq => by rw [hy71 r' e] at hq; exact hq
 replace h := hy7
 refine sp 24 h rfl (fun h => ?_) (fun h => ?_)
 · refine c0 2 [25, 26] [.hs 1 0 [] 1 0 ((u6.2.2).map I).length, I (u6.2.1)] 114 (by kernel_rfl) ?_
   obtain ⟨e16, he16, h⟩ := bS h
   refine og 130 (.hp 1 0 [] 1 (0 + Int.toNat (u6.2.1)) 0) rfl rfl rfl rfl (e_indexAddr rfl rfl rfl (ix_hsM (f := I) (xs := u6.2.2) rfl rfl rfl he16)) ?_
   refine og 146 (I (e16)) rfl rfl rfl rfl (e_ld rfl (ld_at (path := []) rfl rfl rfl (ra_n) (get_map (f := I) (xs := u6.2.2) he16) rfl rfl rfl)) ?_
   refine c0 4 [31] [B ((e16 == u6.1))] 194 (by kernel_rfl) ?_
   refine run_forget [0, 1, 5, 31] [1] [⟨0, 1, (u6.2.2).map I⟩] rfl rfl rfl rfl ?_
   exact j7 _ (Option.some.inj h).symm
 · refine c0 8 [31] [B (false)] 194 (by kernel_rfl) ?_
   refine run_forget [0, 1, 5, 31] [1] [⟨0, 1, (u6.2.2).map I⟩] rfl rfl rfl rfl ?_
   exact j7 _ (Option.some.inj h).symm
theorem spec_l1Put_good {G : Go.Ln.Ground} : Good Tryd.prog G 60 spec_l1Put_ent := good_T (fnOf_good (gl_n)) agree_mk (Checked.mixed Tryd.checked) Tryd.func60 (n := 2) (m := 1) ⟨rfl, rfl, by decide⟩ (fun _ => ⟨rfl, rfl⟩) (fun a r h => spec_l1Put_run a.1 a.2 r h)
def spec_EventDays_A : ((List Event) × Int) → List V := cA (slE enc_Event) (oA I)
def spec_EventDays_R (r : (List Int) × Bool) : V × List V := (.tup [.usl 1 ((r.1).map I), B (r.2)], [])
noncomputable def spec_EventDays_ent : Ent := entT [false, false] spec_EventDays_A spec_EventDays_R fun x => spec_EventDays x.1 x.2
theorem spec_EventDays_F {list_1 : List Event} {parties_2 : Int} {r} (h : spec_EventDays list_1 parties_2 = some r) : (spec_EventDays_ent).F (spec_EventDays_A (list_1, parties_2)) = some (spec_EventDays_R r) := entT_F (cA_inj (isl_inj enc_Event_inj) (oA_inj I_inj)) h
noncomputable def spec_EventDays_c : Code := bodyOf Tryd.f26
noncomputable def spec_EventDays_E : Env := mkE Tryd.prog [(49, spec_l8Good_ent), (60, spec_l1Put_ent)]
def spec_EventDays_Q (x : (List Event) × Int) (r : (List Int) × Bool) : St → Prop := QF spec_EventDays_E Tryd.f26 [false, false] (spec_EventDays_A x) (spec_EventDays_R r)
theorem spec_EventDays_la_run (list_1 : List Event) (parties_2 : Int)  {Q : St → Prop} {K : List It} (hK : noD K = true) {x4 : Int × (List Int)} {y : ((List Int) × Bool) ⊕ ((List Int))} (h : spec_EventDays_la list_1 parties_2 x4 = some y) : (∀ r', y = .inl r' → ∀ st, spec_EventDays_Q (list_1, parties_2) r' st → Q st) → (∀ u : (List Int), y = .inr u → Run spec_EventDays_E 0 Q K ⟨mkTm .dead 28 [(6, .hs 1 0 [] 1 0 ((u).map I).length)], mkS (rtL [⟨0, 1, (u).map I⟩] 1), 2⟩) → Run spec_EventDays_E 0 Q (.code (cL (cL (cR (cL (cR (cR (cR spec_EventDays_c))))))) :: .lp (cL (cL (cR (cL (cR (cR (cR spec_EventDays_c))))))) :: .blk 0 :: K) ⟨mkTm .dead 28 [(0, .isl false ((list_1).map enc_Event)), (6, .hs 1 0 [] 1 0 ((x4.2).map I).length), (7, I (x4.1))], mkS (rtL [⟨0, 1, (x4.2).map I⟩] 1), 2⟩ := by
 refine fix_ind (P := fun (x4 : Int × (List Int)) (y : ((List Int) × Bool) ⊕ ((List Int))) => (∀ r', y = .inl r' → ∀ st, spec_EventDays_Q (list_1, parties_2) r' st → Q st) → (∀ u : (List Int), y = .inr u → Run spec_EventDays_E 0 Q K ⟨mkTm .dead 28 [(6, .hs 1 0 [] 1 0 ((u).map I).length)], mkS (rtL [⟨0, 1, (u).map I⟩] 1), 2⟩) → Run spec_EventDays_E 0 Q (.code (cL (cL (cR (cL (cR (cR (cR spec_EventDays_c))))))) :: .lp (cL (cL (cR (cL (cR (cR (cR spec_EventDays_c))))))) :: .blk 0 :: K) ⟨mkTm .dead 28 [(0, .isl false ((list_1).map enc_Event)), (6, .hs 1 0 [] 1 0 ((x4.2).map I).length), (7, I (x4.1))], mkS (rtL [⟨0, 1, (x4.2).map I⟩] 1), 2⟩) (spec_EventDays_la_fin list_1 parties_2) ?_ h
 clear h y x4
 intro self ih x4 y h hr hn
 unfold spec_EventDays_la_F at h
 refine c0 5 [14, 15] [I (x4.1), .isl false ((list_1).map enc_Event)] 34 (by kernel_rfl) ?_
 refine o 50 (I ((len list_1))) rfl rfl (e_len rfl rfl rfl (l_isl rfl)) ?_
 refine c0 2 [17] [B ((decide (x4.1 < (len list_1))))] 66 (by kernel_rfl) ?_
 refine sc h rfl rfl (fun h => ?_) (fun h => ?_)
 · refine ad 1 rfl ?_
   refine c0 6 [20, 21, 22] [.hs 1 0 [] 1 0 ((x4.2).map I).length, .isl false ((list_1).map enc_Event), I (x4.1)] 114 (by kernel_rfl) ?_
   obtain ⟨e5, he5, h⟩ := bS h
   refine o 130 (.iptr (enc_Event e5) 0) rfl rfl (e_indexAddr rfl rfl rfl (ix_islE rfl rfl rfl rfl he5)) ?_
   refine c0 2 [25] [I (e5.Day)] 162 (by kernel_rfl) ?_
   obtain ⟨r6, hr6, h⟩ := bS h
   refine o 178 (.hs 162 0 [] 1 0 ((r6).map I).length) rfl rfl (e_callV rfl rfl (call_P rfl rfl rfl (avO (hd1 rfl (hd_hs (path := []) rfl rfl (ra_n) rfl)) (avS (shP rfl) (avN))) (spec_l1Put_F hr6) (.inr rfl) (bl_c rfl rfl rfl bk_dead (bl_n)) rfl rfl rfl)) ?_
   refine c0 8 [6, 7] [.hs 162 0 [] 1 0 ((r6).map I).length, I ((w64 (x4.1 + 1)))] 242 (by kernel_rfl) ?_
   refine s_lp ?_
   refine run_forget [0, 6, 7] [162] [⟨0, 1, (r6).map I⟩] rfl rfl rfl rfl ?_
   exact ih _ _ h hr hn
 · refine ad 1 rfl ?_
   refine run_forget [6] [1] [⟨0, 1, (x4.2).map I⟩] rfl rfl rfl hK ?_
   exact hn _ (Option.some.inj h).symm
theorem spec_EventDays_run (list_1 : List Event) (parties_2 : Int) (r : (List Int) × Bool) (h : spec_EventDays list_1 parties_2 = some r) : RunF spec_EventDays_E Tryd.f26 [false, false] 0 (spec_EventDays_A (list_1, parties_2)) (spec_EventDays_R r) := by
 show Run _ _ (spec_EventDays_Q (list_1, parties_2) r) [.code spec_EventDays_c] _
 refine rin (n := 28) [(0, .isl false ((list_1).map enc_Event)), (1, I (parties_2))] [] 1 (by kernel_rfl) (by kernel_rfl) (by kernel_rfl) rfl ?_
 unfold spec_EventDays at h
 refine c0 7 [] [] 33 (by kernel_rfl) ?_
 refine o 49 (.hs 33 0 [] 1 0 0) rfl rfl (e_buildSlice rfl (bs_mk (f := I) (xs := []) (z := I (0)) (es := []) (ws := []) rfl rfl rfl (by decide) rfl (abs_each_plain rfl) rfl)) ?_
 refine c0 7 [6, 9, 10] [.hs 33 0 [] 1 0 0, .isl false ((list_1).map enc_Event), I (parties_2)] 97 (by kernel_rfl) ?_
 obtain ⟨r3, hr3, h⟩ := bS h
 refine o 113 (B (r3)) rfl rfl (e_callV rfl rfl (call_P rfl rfl rfl (avS (shP rfl) (avS (shP rfl) (avN))) (spec_l8Good_F hr3) (.inr rfl) (bl_n) rfl rfl rfl)) ?_
 refine c0 2 [12] [B ((!r3))] 129 (by kernel_rfl) ?_
 refine sc h rfl rfl (fun h => ?_) (fun h => ?_)
 · refine c0 6 [4, 5] [.hs 33 0 [] 1 0 0, B (false)] 177 (by kernel_rfl) ?_
   obtain rfl := Option.some.inj h
   exact s_ret rfl ⟨_, fin (vs := [.hs 33 0 [] 1 0 0, B (false)]) rfl (absE (abs1 rfl (abs_hs rfl rfl)) (absE (absorb_plain rfl) (absEN))) rfl (ou_f (ou_f (ou_n))), kl_n⟩
 · refine ad 1 rfl ?_
   refine c0 6 [7] [I (0)] 145 (by kernel_rfl) ?_
   obtain ⟨y7, hy7, hy71, hy72⟩ := bJ h
   refine s_loop rfl ?_
   refine run_forget [0, 6, 7] [33] [⟨0, 1, []⟩] rfl rfl rfl rfl ?_
   refine spec_EventDays_la_run list_1 parties_2 rfl hy7 (fun r' e st hq => by rw [hy71 r' e] at hq; exact hq) (fun u7 hu => ?_)
   replace h := hy72 u7 hu
   refine c0 6 [4, 5] [.hs 1 0 [] 1 0 ((u7).map I).length, B (true)] 50 (by kernel_rfl) ?_
   obtain rfl := Option.some.inj h
   exact s_ret rfl ⟨_, fin (vs := [.hs 1 0 [] 1 0 ((u7).map I).length, B (true)]) rfl (absE (abs1 rfl (abs_hs rfl rfl)) (absE (absorb_plain rfl) (absEN))) rfl (ou_f (ou_f (ou_n))), kl_n⟩
theorem spec_EventDays_good {G : Go.Ln.Ground} : Good Tryd.prog G 26 spec_EventDays_ent := good_T (fnOf_good (gl_c spec_l8Good_good (gl_c spec_l1Put_good (gl_n)))) agree_mk (Checked.mixed Tryd.checked) Tryd.func26 (n := 2) (m := 0) ⟨rfl, rfl, by decide⟩ (fun _ => ⟨rfl, rfl⟩) (fun a r h => spec_EventDays_run a.1 a.2 r h)
def impl_within_A : (Int × Int × Int) → List V := cA I (cA I (oA I))
def impl_within_R (r : Bool) : V × List V := (B (r), [])
noncomputable def impl_within_ent : Ent := entT [false, false, false] impl_within_A impl_within_R fun x => impl_within x.1 x.2.1 x.2.2
theorem impl_within_F {n_1 : Int} {low_2 : Int} {high_3 : Int} {r} (h : impl_within n_1 low_2 high_3 = some r) : (impl_within_ent).F (impl_within_A (n_1, low_2, high_3)) = some (impl_within_R r) := entT_F (cA_inj I_inj (cA_inj I_inj (oA_inj I_inj))) h
noncomputable def impl_within_c : Code := bodyOf Tryd.f55
noncomputable def impl_within_E : Env := mkE Tryd.prog []
def impl_within_Q (x : Int × Int × Int) (r : Bool) : St → Prop := QF impl_within_E Tryd.f55 [false, false, false] (impl_within_A x) (impl_within_R r)
theorem impl_within_run (n_1 : Int) (low_2 : Int) (high_3 : Int) (r : Bool) (h : impl_within n_1 low_2 high_3 = some r) : RunF impl_within_E Tryd.f55 [false, false, false] 0 (impl_within_A (n_1, low_2, high_3)) (impl_within_R r) := by
 show Run _ _ (impl_within_Q (n_1, low_2, high_3) r) [.code impl_within_c] _
 refine rin (n := 15) [(0, I (n_1)), (1, I (low_2)), (2, I (high_3))] [] 1 (by kernel_rfl) (by kernel_rfl) (by kernel_rfl) rfl ?_
 unfold impl_within at h
 refine c0 10 [10] [B ((decide (n_1 ≥ low_2)))] 81 (by kernel_rfl) ?_
 obtain ⟨u4, hu4, h⟩ := lJ h
 have j4 : Run impl_within_E 0 (impl_within_Q (n_1, low_2, high_3) r) (.code (cR (cR impl_within_c)) :: []) ⟨mkTm .dead 15 [(6, B (u4))], mkS (rtL [] 1), 1⟩ := by
   obtain rfl := Option.some.inj h
   exact s_ret rfl ⟨_, fin (vs := [B (u4)]) rfl (absE (absorb_plain rfl) (absEN)) rfl (ou_f (ou_f (ou_f (ou_n)))), kl_n⟩
 replace h := hu4
 clear hu4
 refine sp 10 h rfl (fun h => ?_) (fun h => ?_)
 · refine c0 6 [6] [B ((decide (n_1 ≤ high_3)))] 161 (by kernel_rfl) ?_
   refine run_forget [6] [] [] rfl rfl rfl rfl ?_
   subst h
   exact j4
 · refine c0 6 [6] [B (false)] 161 (by kernel_rfl) ?_
   refine run_forget [6] [] [] rfl rfl rfl rfl ?_
   subst h
   exact j4
theorem impl_within_good {G : Go.Ln.Ground} : Good Tryd.prog G 55 impl_within_ent := good_T (fnOf_good (gl_n)) agree_mk (Checked.mixed Tryd.checked) Tryd.func55 (n := 3) (m := 0) ⟨rfl, rfl, by decide⟩ (fun _ => ⟨rfl, rfl⟩) (fun a r h => impl_within_run a.1 a.2.1 a.2.2 r h)
def impl_isDay_A : Int → List V := oA I
def impl_isDay_R (r : Bool) : V × List V := (B (r), [])
noncomputable def impl_isDay_ent : Ent := entT [false] impl_isDay_A impl_isDay_R fun x => impl_isDay x
theorem impl_isDay_F {day_1 : Int} {r} (h : impl_isDay day_1 = some r) : (impl_isDay_ent).F (impl_isDay_A day_1) = some (impl_isDay_R r) := entT_F (oA_inj I_inj) h
noncomputable def impl_isDay_c : Code := bodyOf Tryd.f91
noncomputable def impl_isDay_E : Env := mkE Tryd.prog [(55, impl_within_ent)]
def impl_isDay_Q (x : Int) (r : Bool) : St → Prop := QF impl_isDay_E Tryd.f91 [false] (impl_isDay_A x) (impl_isDay_R r)
theorem impl_isDay_run (day_1 : Int) (r : Bool) (h : impl_isDay day_1 = some r) : RunF impl_isDay_E Tryd.f91 [false] 0 (impl_isDay_A day_1) (impl_isDay_R r) := by
 show Run _ _ (impl_isDay_Q day_1 r) [.code impl_isDay_c] _
 refine rin (n := 5) [(0, I (day_1))] [] 1 (by kernel_rfl) (by kernel_rfl) (by kernel_rfl) rfl ?_
 unfold impl_isDay at h
 refine c0 7 [3] [I (day_1)] 33 (by kernel_rfl) ?_
 obtain ⟨r2, hr2, h⟩ := bS h
 refine o 49 (B (r2)) rfl rfl (e_callV rfl rfl (call_P rfl rfl rfl (avS (shP rfl) (avS (shP rfl) (avS (shP rfl) (avN)))) (impl_within_F hr2) (.inr rfl) (bl_n) rfl rfl rfl)) ?_
 refine c0 2 [2] [B (r2)] 65 (by kernel_rfl) ?_
 obtain rfl := Option.some.inj h
 exact s_ret rfl ⟨_, fin (vs := [B (r2)]) rfl (absE (absorb_plain rfl) (absEN)) rfl (ou_f (ou_n)), kl_n⟩
theorem impl_isDay_good {G : Go.Ln.Ground} : Good Tryd.prog G 91 impl_isDay_ent := good_T (fnOf_good (gl_c impl_within_good (gl_n))) agree_mk (Checked.mixed Tryd.checked) Tryd.func91 (n := 1) (m := 0) ⟨rfl, rfl, by decide⟩ (fun _ => ⟨rfl, rfl⟩) (fun a r h => impl_isDay_run a r h)
noncomputable def xCountString_ent : Ent := ⟨[false, false], entF2 (decBy str) (decBy (V.int .u8)) fun s c => some (I (((Lib.countByte s c.toNat.toUInt8 : Nat) : Int)), [])⟩
theorem xCountString_F {s : Str} {c r : Int} (h : xCountString s c = some r) : xCountString_ent.F [str s, .int .u8 c] = some (I r, []) := by
  cases h
  simp only [xCountString_ent, entF2, dec_ok str_inj, dec_ok u8_inj, Option.bind_some]
theorem xCountString_n : Extern.findNext Tryd.f147 = none := by kernel_rfl
theorem xCountString_x : Extern.find Tryd.f147 = some Extern.BytealgCount.count := by kernel_rfl
theorem xCountString_good {G : Go.Ln.Ground} : Good Tryd.prog G 147 xCountString_ent := good_sc (g := fun s c => ((Lib.countByte s c.toNat.toUInt8 : Nat) : Int)) Tryd.func147 rfl (by decide) xCountString_n xCountString_x fun s c w => Lib.run_countString s c w
noncomputable def xIndexByteString_ent : Ent := ⟨[false, false], entF2 (decBy str) (decBy (V.int .u8)) fun s c => some (I (Lib.indexByte s c.toNat.toUInt8), [])⟩
theorem xIndexByteString_F {s : Str} {c r : Int} (h : xIndexByteString s c = some r) : xIndexByteString_ent.F [str s, .int .u8 c] = some (I r, []) := by
  cases h
  simp only [xIndexByteString_ent, entF2, dec_ok str_inj, dec_ok u8_inj, Option.bind_some]
theorem xIndexByteString_n : Extern.findNext Tryd.f162 = none := by kernel_rfl
theorem xIndexByteString_x : Extern.find Tryd.f162 = some Extern.BytealgIndexByte.indexByte := by kernel_rfl
theorem xIndexByteString_good {G : Go.Ln.Ground} : Good Tryd.prog G 162 xIndexByteString_ent := good_sc (g := fun s c => Lib.indexByte s c.toNat.toUInt8) Tryd.func162 rfl (by decide) xIndexByteString_n xIndexByteString_x fun s c w => Lib.run_indexByteString s c w
def internal_stringslite_IndexByte_A : (Str × Int) → List V := cA str (oA (V.int .u8))
def internal_stringslite_IndexByte_R (r : Int) : V × List V := (I (r), [])
noncomputable def internal_stringslite_IndexByte_ent : Ent := entT [false, false] internal_stringslite_IndexByte_A internal_stringslite_IndexByte_R fun x => internal_stringslite_IndexByte x.1 x.2
theorem internal_stringslite_IndexByte_F {s_1 : Str} {c_2 : Int} {r} (h : internal_stringslite_IndexByte s_1 c_2 = some r) : (internal_stringslite_IndexByte_ent).F (internal_stringslite_IndexByte_A (s_1, c_2)) = some (internal_stringslite_IndexByte_R r) := entT_F (cA_inj str_inj (oA_inj (vint_inj (k := .u8)))) h
noncomputable def internal_stringslite_IndexByte_c : Code := bodyOf Tryd.f154
noncomputable def internal_stringslite_IndexByte_E : Env := mkE Tryd.prog [(162, xIndexByteString_ent)]
def internal_stringslite_IndexByte_Q (x : Str × Int) (r : Int) : St → Prop := QF internal_stringslite_IndexByte_E Tryd.f154 [false, false] (internal_stringslite_IndexByte_A x) (internal_stringslite_IndexByte_R r)
theorem internal_stringslite_IndexByte_run (s_1 : Str) (c_2 : Int) (r : Int) (h : internal_stringslite_IndexByte s_1 c_2 = some r) : RunF internal_stringslite_IndexByte_E Tryd.f154 [false, false] 0 (internal_stringslite_IndexByte_A (s_1, c_2)) (internal_stringslite_IndexByte_R r) := by
 show Run _ _ (internal_stringslite_IndexByte_Q (s_1, c_2) r) [.code internal_stringslite_IndexByte_c] _
 refine rin (n := 8) [(0, str (s_1)), (1, .int .u8 (c_2))] [] 1 (by kernel_rfl) (by kernel_rfl) (by kernel_rfl) rfl ?_
 unfold internal_stringslite_IndexByte at h
 refine c0 8 [5, 6] [str (s_1), .int .u8 (c_2)] 49 (by kernel_rfl) ?_
 obtain ⟨r3, hr3, h⟩ := bS h
 refine o 65 (I (r3)) rfl rfl (e_callV rfl rfl (call_P rfl rfl rfl (avS (shP rfl) (avS (shP rfl) (avN))) (xIndexByteString_F hr3) (.inr rfl) (bl_n) rfl rfl rfl)) ?_
 refine c0 2 [4] [I (r3)] 81 (by kernel_rfl) ?_
 obtain rfl := Option.some.inj h
 exact s_ret rfl ⟨_, fin (vs := [I (r3)]) rfl (absE (absorb_plain rfl) (absEN)) rfl (ou_f (ou_f (ou_n))), kl_n⟩
theorem internal_stringslite_IndexByte_good {G : Go.Ln.Ground} : Good Tryd.prog G 154 internal_stringslite_IndexByte_ent := good_T (fnOf_good (gl_c xIndexByteString_good (gl_n))) agree_mk (Checked.mixed Tryd.checked) Tryd.func154 (n := 2) (m := 0) ⟨rfl, rfl, by decide⟩ (fun _ => ⟨rfl, rfl⟩) (fun a r h => internal_stringslite_IndexByte_run a.1 a.2 r h)
def internal_stringslite_Index_A : (Str × Str) → List V := cA str (oA str)
def internal_stringslite_Index_R (r : Int) : V × List V := (I (r), [])
noncomputable def internal_stringslite_Index_ent : Ent := entT [false, false] internal_stringslite_Index_A internal_stringslite_Index_R fun x => internal_stringslite_Index x.1 x.2
theorem internal_stringslite_Index_F {s_1 : Str} {substr_2 : Str} {r} (h : internal_stringslite_Index s_1 substr_2 = some r) : (internal_stringslite_Index_ent).F (internal_stringslite_Index_A (s_1, substr_2)) = some (internal_stringslite_Index_R r) := entT_F (cA_inj str_inj (oA_inj str_inj)) h
noncomputable def internal_stringslite_Index_c : Code := bodyOf Tryd.f148
noncomputable def internal_stringslite_Index_E : Env := mkE Tryd.prog [(154, internal_stringslite_IndexByte_ent)]
def internal_stringslite_Index_Q (x : Str × Str) (r : Int) : St → Prop := QF internal_stringslite_Index_E Tryd.f148 [false, false] (internal_stringslite_Index_A x) (internal_stringslite_Index_R r)
theorem internal_stringslite_Index_run (s_1 : Str) (substr_2 : Str) (r : Int) (h : internal_stringslite_Index s_1 substr_2 = some r) : RunF internal_stringslite_Index_E Tryd.f148 [false, false] 0 (internal_stringslite_Index_A (s_1, substr_2)) (internal_stringslite_Index_R r) := by
 show Run _ _ (internal_stringslite_Index_Q (s_1, substr_2) r) [.code internal_stringslite_Index_c] _
 refine rin (n := 143) [(0, str (s_1)), (1, str (substr_2))] [] 1 (by kernel_rfl) (by kernel_rfl) (by kernel_rfl) rfl ?_
 unfold internal_stringslite_Index at h
 refine c0 17 [5, 19] [I ((len substr_2)), B (((len substr_2) == 0))] 113 (by kernel_rfl) ?_
 obtain ⟨u3, hu3, h⟩ := lJ h
 have j3 : Run internal_stringslite_Index_E 0 (internal_stringslite_Index_Q (s_1, substr_2) r) (.code (cR (cL (cL (cR (cR internal_stringslite_Index_c))))) :: .blk 0 :: .code (cR (cR (cR internal_stringslite_Index_c))) :: []) ⟨mkTm .dead 143 [(0, str (s_1)), (1, str (substr_2)), (5, I ((len substr_2))), (16, B (u3))], mkS (rtL [] 1), 1⟩ := by
   refine sc h rfl rfl (fun h => ?_) (fun h => ?_)
   · refine c0 4 [4] [I (0)] 17 (by kernel_rfl) ?_
     obtain rfl := Option.some.inj h
     exact s_ret rfl ⟨_, fin (vs := [I (0)]) rfl (absE (absorb_plain rfl) (absEN)) rfl (ou_f (ou_f (ou_n))), kl_n⟩
   · refine c0 6 [24] [B (((len substr_2) == 1))] 49 (by kernel_rfl) ?_
     refine sc h rfl rfl (fun h => ?_) (fun h => ?_)
     · refine c0 4 [27, 28] [str (s_1), str (substr_2)] 81 (by kernel_rfl) ?_
       obtain ⟨c4, hc4, h⟩ := bS h
       refine o 97 (.int .u8 ((c4.toNat : Int))) rfl rfl (e_index rfl rfl (i_str rfl rfl hc4)) ?_
       obtain ⟨r5, hr5, h⟩ := bS h
       refine o 113 (I (r5)) rfl rfl (e_callV rfl rfl (call_P rfl rfl rfl (avS (shP rfl) (avS (shP rfl) (avN))) (internal_stringslite_IndexByte_F hr5) (.inr rfl) (bl_n) rfl rfl rfl)) ?_
       refine c0 2 [4] [I (r5)] 129 (by kernel_rfl) ?_
       obtain rfl := Option.some.inj h
       exact s_ret rfl ⟨_, fin (vs := [I (r5)]) rfl (absE (absorb_plain rfl) (absEN)) rfl (ou_f (ou_f (ou_n))), kl_n⟩
     · refine c0 8 [31] [B ((decide ((len substr_2) ≥ (len s_1))))] 129 (by kernel_rfl) ?_
       refine sc h rfl rfl (fun h => ?_) (fun h => ?_)
       · refine c0 4 [4] [I ((-1))] 145 (by kernel_rfl) ?_
         obtain rfl := Option.some.inj h
         exact s_ret rfl ⟨_, fin (vs := [I ((-1))]) rfl (absE (absorb_plain rfl) (absEN)) rfl (ou_f (ou_f (ou_n))), kl_n⟩
       · cases h
 replace h := hu3
 clear hu3
 refine sp 19 h rfl (fun h => ?_) (fun h => ?_)
 · refine c0 6 [16] [B (true)] 193 (by kernel_rfl) ?_
   refine run_forget [0, 1, 5, 16] [] [] rfl rfl rfl rfl ?_
   subst h
   exact j3
 · refine c0 6 [16] [B ((substr_2 == s_1))] 193 (by kernel_rfl) ?_
   refine run_forget [0, 1, 5, 16] [] [] rfl rfl rfl rfl ?_
   subst h
   exact j3
theorem internal_stringslite_Index_good {G : Go.Ln.Ground} : Good Tryd.prog G 148 internal_stringslite_Index_ent := good_T (fnOf_good (gl_c internal_stringslite_IndexByte_good (gl_n))) agree_mk (Checked.mixed Tryd.checked) Tryd.func148 (n := 2) (m := 0) ⟨rfl, rfl, by decide⟩ (fun _ => ⟨rfl, rfl⟩) (fun a r h => internal_stringslite_Index_run a.1 a.2 r h)
def strings_Index_A : (Str × Str) → List V := cA str (oA str)
def strings_Index_R (r : Int) : V × List V := (I (r), [])
noncomputable def strings_Index_ent : Ent := entT [false, false] strings_Index_A strings_Index_R fun x => strings_Index x.1 x.2
theorem strings_Index_F {s_1 : Str} {substr_2 : Str} {r} (h : strings_Index s_1 substr_2 = some r) : (strings_Index_ent).F (strings_Index_A (s_1, substr_2)) = some (strings_Index_R r) := entT_F (cA_inj str_inj (oA_inj str_inj)) h
noncomputable def strings_Index_c : Code := bodyOf Tryd.f142
noncomputable def strings_Index_E : Env := mkE Tryd.prog [(148, internal_stringslite_Index_ent)]
def strings_Index_Q (x : Str × Str) (r : Int) : St → Prop := QF strings_Index_E Tryd.f142 [false, false] (strings_Index_A x) (strings_Index_R r)
theorem strings_Index_run (s_1 : Str) (substr_2 : Str) (r : Int) (h : strings_Index s_1 substr_2 = some r) : RunF strings_Index_E Tryd.f142 [false, false] 0 (strings_Index_A (s_1, substr_2)) (strings_Index_R r) := by
 show Run _ _ (strings_Index_Q (s_1, substr_2) r) [.code strings_Index_c] _
 refine rin (n := 8) [(0, str (s_1)), (1, str (substr_2))] [] 1 (by kernel_rfl) (by kernel_rfl) (by kernel_rfl) rfl ?_
 unfold strings_Index at h
 refine c0 8 [5, 6] [str (s_1), str (substr_2)] 49 (by kernel_rfl) ?_
 obtain ⟨r3, hr3, h⟩ := bS h
 refine o 65 (I (r3)) rfl rfl (e_callV rfl rfl (call_P rfl rfl rfl (avS (shP rfl) (avS (shP rfl) (avN))) (internal_stringslite_Index_F hr3) (.inr rfl) (bl_n) rfl rfl rfl)) ?_
 refine c0 2 [4] [I (r3)] 81 (by kernel_rfl) ?_
 obtain rfl := Option.some.inj h
 exact s_ret rfl ⟨_, fin (vs := [I (r3)]) rfl (absE (absorb_plain rfl) (absEN)) rfl (ou_f (ou_f (ou_n))), kl_n⟩
theorem strings_Index_good {G : Go.Ln.Ground} : Good Tryd.prog G 142 strings_Index_ent := good_T (fnOf_good (gl_c internal_stringslite_Index_good (gl_n))) agree_mk (Checked.mixed Tryd.checked) Tryd.func142 (n := 2) (m := 0) ⟨rfl, rfl, by decide⟩ (fun _ => ⟨rfl, rfl⟩) (fun a r h => strings_Index_run a.1 a.2 r h)
def strings_Count_A : (Str × Str) → List V := cA str (oA str)
def strings_Count_R (r : Int) : V × List V := (I (r), [])
noncomputable def strings_Count_ent : Ent := entT [false, false] strings_Count_A strings_Count_R fun x => strings_Count x.1 x.2
theorem strings_Count_F {s_1 : Str} {substr_2 : Str} {r} (h : strings_Count s_1 substr_2 = some r) : (strings_Count_ent).F (strings_Count_A (s_1, substr_2)) = some (strings_Count_R r) := entT_F (cA_inj str_inj (oA_inj str_inj)) h
noncomputable def strings_Count_c : Code := bodyOf Tryd.f141
noncomputable def strings_Count_E : Env := mkE Tryd.prog [(147, xCountString_ent), (142, strings_Index_ent)]
def strings_Count_Q (x : Str × Str) (r : Int) : St → Prop := QF strings_Count_E Tryd.f141 [false, false] (strings_Count_A x) (strings_Count_R r)
theorem strings_Count_la_run (s_1 : Str) (substr_2 : Str)  {Q : St → Prop} {K : List It} (hK : noD K = true) {x5 : Str × Int} {y : Int ⊕ Unit} (h : strings_Count_la s_1 substr_2 x5 = some y) : (∀ r', y = .inl r' → ∀ st, strings_Count_Q (s_1, substr_2) r' st → Q st) → (∀ u : Unit, y = .inr u → Run strings_Count_E 0 Q K ⟨mkTm .dead 34 [], mkS (rtL [] 1), 1⟩) → Run strings_Count_E 0 Q (.code (cL (cL (cR (cR (cR (cR strings_Count_c)))))) :: .lp (cL (cL (cR (cR (cR (cR strings_Count_c)))))) :: .blk 0 :: K) ⟨mkTm .dead 34 [(0, str (x5.1)), (1, str (substr_2)), (5, I (x5.2))], mkS (rtL [] 1), 1⟩ := by
 refine fix_ind (P := fun (x5 : Str × Int) (y : Int ⊕ Unit) => (∀ r', y = .inl r' → ∀ st, strings_Count_Q (s_1, substr_2) r' st → Q st) → (∀ u : Unit, y = .inr u → Run strings_Count_E 0 Q K ⟨mkTm .dead 34 [], mkS (rtL [] 1), 1⟩) → Run strings_Count_E 0 Q (.code (cL (cL (cR (cR (cR (cR strings_Count_c)))))) :: .lp (cL (cL (cR (cR (cR (cR strings_Count_c)))))) :: .blk 0 :: K) ⟨mkTm .dead 34 [(0, str (x5.1)), (1, str (substr_2)), (5, I (x5.2))], mkS (rtL [] 1), 1⟩) (strings_Count_la_fin s_1 substr_2) ?_ h
 clear h y x5
 intro self ih x5 y h hr hn
 unfold strings_Count_la_F at h
 refine c0 5 [20, 21] [str (x5.1), str (substr_2)] 33 (by kernel_rfl) ?_
 obtain ⟨r6, hr6, h⟩ := bS h
 refine o 49 (I (r6)) rfl rfl (e_callV rfl rfl (call_P rfl rfl rfl (avS (shP rfl) (avS (shP rfl) (avN))) (strings_Index_F hr6) (.inr rfl) (bl_n) rfl rfl rfl)) ?_
 refine c0 8 [6, 24] [I (r6), B ((r6 == (-1)))] 97 (by kernel_rfl) ?_
 refine sc h rfl rfl (fun h => ?_) (fun h => ?_)
 · refine c0 5 [4] [I (x5.2)] 129 (by kernel_rfl) ?_
   exact s_ret rfl (hr _ (Option.some.inj h).symm _ ⟨_, fin (vs := [I (x5.2)]) rfl (absE (absorb_plain rfl) (absEN)) rfl (ou_f (ou_f (ou_n))), kl_n⟩)
 · refine ad 1 rfl ?_
   refine c0 12 [5, 28, 32] [I ((w64 (x5.2 + 1))), str (x5.1), I ((w64 (r6 + (len substr_2))))] 225 (by kernel_rfl) ?_
   obtain ⟨s7, hs7, h⟩ := bS h
   refine o 241 (str (s7)) rfl rfl (e_slice rfl rfl rfl rfl (sl_str rfl rfl rfl hs7)) ?_
   refine c0 3 [0] [str (s7)] 257 (by kernel_rfl) ?_
   refine s_lp ?_
   refine run_forget [0, 1, 5] [] [] rfl rfl rfl rfl ?_
   exact ih _ _ h hr hn
theorem strings_Count_run (s_1 : Str) (substr_2 : Str) (r : Int) (h : strings_Count s_1 substr_2 = some r) : RunF strings_Count_E Tryd.f141 [false, false] 0 (strings_Count_A (s_1, substr_2)) (strings_Count_R r) := by
 show Run _ _ (strings_Count_Q (s_1, substr_2) r) [.code strings_Count_c] _
 refine rin (n := 34) [(0, str (s_1)), (1, str (substr_2))] [] 1 (by kernel_rfl) (by kernel_rfl) (by kernel_rfl) rfl ?_
 unfold strings_Count at h
 refine c0 11 [9] [B (((len substr_2) == 0))] 65 (by kernel_rfl) ?_
 refine sc h rfl rfl (fun h => ?_) (fun h => ?_)
 · cases h
 · refine ad 1 rfl ?_
   refine c0 7 [15] [B (((len substr_2) == 1))] 113 (by kernel_rfl) ?_
   refine sc h rfl rfl (fun h => ?_) (fun h => ?_)
   · refine c0 4 [16, 17] [str (s_1), str (substr_2)] 145 (by kernel_rfl) ?_
     obtain ⟨c3, hc3, h⟩ := bS h
     refine o 161 (.int .u8 ((c3.toNat : Int))) rfl rfl (e_index rfl rfl (i_str rfl rfl hc3)) ?_
     obtain ⟨r4, hr4, h⟩ := bS h
     refine o 177 (I (r4)) rfl rfl (e_callV rfl rfl (call_P rfl rfl rfl (avS (shP rfl) (avS (shP rfl) (avN))) (xCountString_F hr4) (.inr rfl) (bl_n) rfl rfl rfl)) ?_
     refine c0 2 [4] [I (r4)] 193 (by kernel_rfl) ?_
     obtain rfl := Option.some.inj h
     exact s_ret rfl ⟨_, fin (vs := [I (r4)]) rfl (absE (absorb_plain rfl) (absEN)) rfl (ou_f (ou_f (ou_n))), kl_n⟩
   · refine ad 1 rfl ?_
     refine c0 5 [5] [I (0)] 129 (by kernel_rfl) ?_
     obtain ⟨y8, hy8, hy81, hy82⟩ := bJ h
     refine s_loop rfl ?_
     refine run_forget [0, 1, 5] [] [] rfl rfl rfl rfl ?_
     refine strings_Count_la_run s_1 substr_2 rfl hy8 (fun r' e st hq => by rw [hy81 r' e] at hq; exact hq) (fun u8 hu => ?_)
     replace h := hy82 u8 hu
     cases h
theorem strings_Count_good {G : Go.Ln.Ground} : Good Tryd.prog G 141 strings_Count_ent := good_T (fnOf_good (gl_c xCountString_good (gl_c strings_Index_good (gl_n)))) agree_mk (Checked.mixed Tryd.checked) Tryd.func141 (n := 2) (m := 0) ⟨rfl, rfl, by decide⟩ (fun _ => ⟨rfl, rfl⟩) (fun a r h => strings_Count_run a.1 a.2 r h)
def strings_genSplit_A : (Str × Str × Int × Int) → List V := cA str (cA str (cA I (oA I)))
def strings_genSplit_R (r : (List Str)) : V × List V := (.usl 1 ((r).map str), [])
noncomputable def strings_genSplit_ent : Ent := entT [false, false, false, false] strings_genSplit_A strings_genSplit_R fun x => strings_genSplit x.1 x.2.1 x.2.2.1 x.2.2.2
theorem strings_genSplit_F {s_1 : Str} {sep_2 : Str} {sepSave_3 : Int} {n_4 : Int} {r} (h : strings_genSplit s_1 sep_2 sepSave_3 n_4 = some r) : (strings_genSplit_ent).F (strings_genSplit_A (s_1, sep_2, sepSave_3, n_4)) = some (strings_genSplit_R r) := entT_F (cA_inj str_inj (cA_inj str_inj (cA_inj I_inj (oA_inj I_inj)))) h
noncomputable def strings_genSplit_c : Code := bodyOf Tryd.f130
noncomputable def strings_genSplit_E : Env := mkE Tryd.prog [(142, strings_Index_ent), (141, strings_Count_ent)]
def strings_genSplit_Q (x : Str × Str × Int × Int) (r : (List Str)) : St → Prop := QF strings_genSplit_E Tryd.f130 [false, false, false, false] (strings_genSplit_A x) (strings_genSplit_R r)
theorem strings_genSplit_la_run (s_1 : Str) (sep_2 : Str) (sepSave_3 : Int) (n_4 : Int) (u5 : Int) {Q : St → Prop} {K : List It} (hK : noD K = true) {x7 : Str × Int × (List Str)} {y : ((List Str)) ⊕ (Str × Int × (List Str))} (h : strings_genSplit_la s_1 sep_2 sepSave_3 n_4 u5 x7 = some y) : (∀ r', y = .inl r' → ∀ st, strings_genSplit_Q (s_1, sep_2, sepSave_3, n_4) r' st → Q st) → (∀ u : Str × Int × (List Str), y = .inr u → Run strings_genSplit_E 0 Q K ⟨mkTm .dead 66 [(0, str (u.1)), (9, .hs 1 0 [] 1 0 ((u.2.2).map str).length), (10, I (u.2.1))], mkS (rtL [⟨0, 1, (u.2.2).map str⟩] 1), 2⟩) → Run strings_genSplit_E 0 Q (.code (cL (cL (cL (cR (cR (cR (cR (cR (cR (cR (cR strings_genSplit_c))))))))))) :: .lp (cL (cL (cL (cR (cR (cR (cR (cR (cR (cR (cR strings_genSplit_c))))))))))) :: .blk 0 :: K) ⟨mkTm .dead 66 [(0, str (x7.1)), (1, str (sep_2)), (2, I (sepSave_3)), (3, I ((w64 ((if (w64 ((len s_1) + 1)) < u5 then (w64 ((len s_1) + 1)) else u5) - 1)))), (9, .hs 1 0 [] 1 0 ((x7.2.2).map str).length), (10, I (x7.2.1))], mkS (rtL [⟨0, 1, (x7.2.2).map str⟩] 1), 2⟩ := by
 refine fix_ind (P := fun (x7 : Str × Int × (List Str)) (y : ((List Str)) ⊕ (Str × Int × (List Str))) => (∀ r', y = .inl r' → ∀ st, strings_genSplit_Q (s_1, sep_2, sepSave_3, n_4) r' st → Q st) → (∀ u : Str × Int × (List Str), y = .inr u → Run strings_genSplit_E 0 Q K ⟨mkTm .dead 66 [(0, str (u.1)), (9, .hs 1 0 [] 1 0 ((u.2.2).map str).length), (10, I (u.2.1))], mkS (rtL [⟨0, 1, (u.2.2).map str⟩] 1), 2⟩) → Run strings_genSplit_E 0 Q (.code (cL (cL (cL (cR (cR (cR (cR (cR (cR (cR (cR strings_genSplit_c))))))))))) :: .lp (cL (cL (cL (cR (cR (cR (cR (cR (cR (cR (cR strings_genSplit_c))))))))))) :: .blk 0 :: K) ⟨mkTm .dead 66 [(0, str (x7.1)), (1, str (sep_2)), (2, I (sepSave_3)), (3, I ((w64 ((if (w64 ((len s_1) + 1)) < u5 then (w64 ((len s_1) + 1)) else u5) - 1)))), (9, .hs 1 0 [] 1 0 ((x7.2.2).map str).length), (10, I (x7.2.1))], mkS (rtL [⟨0, 1, (x7.2.2).map str⟩] 1), 2⟩) (strings_genSplit_la_fin s_1 sep_2 sepSave_3 n_4 u5) ?_ h
 clear h y x7
 intro self ih x7 y h hr hn
 unfold strings_genSplit_la_F at h
 refine c0 7 [36] [B ((decide (x7.2.1 < (w64 ((if (w64 ((len s_1) + 1)) < u5 then (w64 ((len s_1) + 1)) else u5) - 1)))))] 50 (by kernel_rfl) ?_
 refine sc h rfl rfl (fun h => ?_) (fun h => ?_)
 · refine ad 1 rfl ?_
   refine c0 5 [37, 38] [str (x7.1), str (sep_2)] 82 (by kernel_rfl) ?_
   obtain ⟨r8, hr8, h⟩ := bS h
   refine o 98 (I (r8)) rfl rfl (e_callV rfl rfl (call_P rfl rfl rfl (avS (shP rfl) (avS (shP rfl) (avN))) (strings_Index_F hr8) (.inr rfl) (bl_n) rfl rfl rfl)) ?_
   refine c0 8 [11, 41] [I (r8), B ((decide (r8 < 0)))] 146 (by kernel_rfl) ?_
   refine sc h rfl rfl (fun h => ?_) (fun h => ?_)
   · refine ad 1 rfl ?_
     refine run_forget [0, 9, 10] [1] [⟨0, 1, (x7.2.2).map str⟩] rfl rfl rfl hK ?_
     exact hn _ (Option.some.inj h).symm
   · refine ad 1 rfl ?_
     refine c0 8 [42, 43, 44, 47] [.hs 1 0 [] 1 0 ((x7.2.2).map str).length, I (x7.2.1), str (x7.1), I ((w64 (r8 + sepSave_3)))] 242 (by kernel_rfl) ?_
     obtain ⟨s9, hs9, h⟩ := bS h
     refine o 258 (str (s9)) rfl rfl (e_slice rfl rfl rfl rfl (sl_str rfl rfl rfl hs9)) ?_
     obtain ⟨e10, he10, h⟩ := bS h
     refine o 274 (.hp 1 0 [] 1 (0 + Int.toNat (x7.2.1)) 0) rfl rfl (e_indexAddr rfl rfl rfl (ix_hsM (f := str) (xs := x7.2.2) rfl rfl rfl he10)) ?_
     refine o0 290 rfl rfl (e_st rfl rfl (st_at (path := []) (pl := true) (e' := str (s9)) (es2' := ((setI x7.2.2 x7.2.1 s9)).map str) rfl (absorb_plain rfl) rfl rfl rfl (ra_n) (get_map (f := str) (xs := x7.2.2) he10) rfl rfl rfl (set_map (f := str) (xs := x7.2.2) (y := s9)) (sr_n) 0 rfl)) ?_
     try rw [← len_setM (f := str) (xs := x7.2.2) (i := x7.2.1) (z := s9)]
     refine c0 8 [50, 54] [str (x7.1), I ((w64 (r8 + (len sep_2))))] 370 (by kernel_rfl) ?_
     obtain ⟨s11, hs11, h⟩ := bS h
     refine o 386 (str (s11)) rfl rfl (e_slice rfl rfl rfl rfl (sl_str rfl rfl rfl hs11)) ?_
     refine c0 8 [0, 10] [str (s11), I ((w64 (x7.2.1 + 1)))] 450 (by kernel_rfl) ?_
     refine s_lp ?_
     refine run_forget [0, 1, 2, 3, 9, 10] [1] [⟨0, 1, ((setI x7.2.2 x7.2.1 s9)).map str⟩] rfl rfl rfl rfl ?_
     exact ih _ _ h hr hn
 · refine ad 1 rfl ?_
   refine run_forget [0, 9, 10] [1] [⟨0, 1, (x7.2.2).map str⟩] rfl rfl rfl hK ?_
   exact hn _ (Option.some.inj h).symm
theorem strings_genSplit_run (s_1 : Str) (sep_2 : Str) (sepSave_3 : Int) (n_4 : Int) (r : (List Str)) (h : strings_genSplit s_1 sep_2 sepSave_3 n_4 = some r) : RunF strings_genSplit_E Tryd.f130 [false, false, false, false] 0 (strings_genSplit_A (s_1, sep_2, sepSave_3, n_4)) (strings_genSplit_R r) := by
 show Run _ _ (strings_genSplit_Q (s_1, sep_2, sepSave_3, n_4) r) [.code strings_genSplit_c] _
 refine rin (n := 66) [(0, str (s_1)), (1, str (sep_2)), (2, I (sepSave_3)), (3, I (n_4))] [] 1 (by kernel_rfl) (by kernel_rfl) (by kernel_rfl) rfl ?_
 unfold strings_genSplit at h
 refine c0 10 [13] [B ((n_4 == 0))] 49 (by kernel_rfl) ?_
 refine sc h rfl rfl (fun h => ?_) (fun h => ?_)
 · refine c0 4 [8] [.isl true []] 65 (by kernel_rfl) ?_
   refine run_own 8 0 1 81 (.hs 65 0 [] 1 0 0) rfl rfl rfl rfl rfl ?_
   obtain rfl := Option.some.inj h
   exact s_ret rfl ⟨_, fin (vs := [.hs 65 0 [] 1 0 0]) rfl (absE (abs1 rfl (abs_hs rfl rfl)) (absEN)) rfl (ou_f (ou_f (ou_f (ou_f (ou_n))))), kl_n⟩
 · refine ad 1 rfl ?_
   refine c0 6 [15] [B ((sep_2 == ([] : Str)))] 81 (by kernel_rfl) ?_
   refine sc h rfl rfl (fun h => ?_) (fun h => ?_)
   · cases h
   · refine ad 1 rfl ?_
     refine c0 6 [20] [B ((decide (n_4 < 0)))] 113 (by kernel_rfl) ?_
     obtain ⟨y5, hy5, hy51, hy52⟩ := bJ h
     have j5 : ∀ u5, y5 = .inr u5 → Run strings_genSplit_E 0 (strings_genSplit_Q (s_1, sep_2, sepSave_3, n_4) r) (.code (cR (cR (cR (cR strings_genSplit_c)))) :: []) ⟨mkTm .dead 66 [(0, str (s_1)), (1, str (sep_2)), (2, I (sepSave_3)), (3, I (u5))], mkS (rtL [] 1), 1⟩ := by
       intro u5 hu
       replace h := hy52 u5 hu
       refine c0 12 [3, 30] [I ((if (w64 ((len s_1) + 1)) < u5 then (w64 ((len s_1) + 1)) else u5)), I ((if (w64 ((len s_1) + 1)) < u5 then (w64 ((len s_1) + 1)) else u5))] 113 (by kernel_rfl) ?_
       obtain ⟨m6, hm6, h⟩ := bS h
       refine o 129 (.hs 113 0 [] 1 0 ((m6).map str).length) rfl rfl (e_makeSlice rfl rfl (ms_mkM (f := str) rfl rfl rfl (by decide) hm6 rfl)) ?_
       refine c0 14 [3, 9, 10] [I ((w64 ((if (w64 ((len s_1) + 1)) < u5 then (w64 ((len s_1) + 1)) else u5) - 1))), .hs 113 0 [] 1 0 ((m6).map str).length, I (0)] 209 (by kernel_rfl) ?_
       obtain ⟨y12, hy12, hy121, hy122⟩ := bJ h
       refine s_loop rfl ?_
       refine run_forget [0, 1, 2, 3, 9, 10] [113] [⟨0, 1, (m6).map str⟩] rfl rfl rfl rfl ?_
       refine strings_genSplit_la_run s_1 sep_2 sepSave_3 n_4 u5 rfl hy12 (fun r' e st hq => by rw [hy121 r' e] at hq; exact hq) (fun u12 hu => ?_)
       replace h := hy122 u12 hu
       refine c0 5 [58, 59, 60] [.hs 1 0 [] 1 0 ((u12.2.2).map str).length, I (u12.2.1), str (u12.1)] 50 (by kernel_rfl) ?_
       obtain ⟨e13, he13, h⟩ := bS h
       refine o 66 (.hp 1 0 [] 1 (0 + Int.toNat (u12.2.1)) 0) rfl rfl (e_indexAddr rfl rfl rfl (ix_hsM (f := str) (xs := u12.2.2) rfl rfl rfl he13)) ?_
       refine o0 82 rfl rfl (e_st rfl rfl (st_at (path := []) (pl := true) (e' := str (u12.1)) (es2' := ((setI u12.2.2 u12.2.1 u12.1)).map str) rfl (absorb_plain rfl) rfl rfl rfl (ra_n) (get_map (f := str) (xs := u12.2.2) he13) rfl rfl rfl (set_map (f := str) (xs := u12.2.2) (y := u12.1)) (sr_n) 0 rfl)) ?_
       try rw [← len_setM (f := str) (xs := u12.2.2) (i := u12.2.1) (z := u12.1)]
       refine c0 6 [62, 64] [.hs 1 0 [] 1 0 (((setI u12.2.2 u12.2.1 u12.1)).map str).length, I ((w64 (u12.2.1 + 1)))] 130 (by kernel_rfl) ?_
       obtain ⟨s14, hs14, h⟩ := bS h
       refine o 146 (.hs 1 0 [] 1 (0 + Int.toNat (0)) (Int.toNat ((w64 (u12.2.1 + 1))) - Int.toNat (0))) rfl rfl (e_slice rfl rfl rfl rfl (sl_hsM (f := str) (xs := (setI u12.2.2 u12.2.1 u12.1)) rfl rfl rfl rfl rfl hs14)) ?_
       refine c0 2 [8] [.hs 1 0 [] 1 (0 + Int.toNat (0)) (Int.toNat ((w64 (u12.2.1 + 1))) - Int.toNat (0))] 162 (by kernel_rfl) ?_
       obtain ⟨p15, hp15, h⟩ := bS h
       obtain rfl := Option.some.inj h
       exact s_ret rfl ⟨_, fin (vs := [.hs 1 0 [] 1 (0 + Int.toNat (0)) (Int.toNat ((w64 (u12.2.1 + 1))) - Int.toNat (0))]) rfl (absE (abs1 rfl (abs_pt (path := []) (f := str) (xs := (setI u12.2.2 u12.2.1 u12.1)) rfl rfl (ra_n) hp15 rfl (to_n))) (absEN)) rfl (ou_f (ou_f (ou_f (ou_f (ou_n))))), kl_n⟩
     have r5 : ∀ r', y5 = .inl r' → ∀ st, strings_genSplit_Q (s_1, sep_2, sepSave_3, n_4) r' st → (strings_genSplit_Q (s_1, sep_2, sepSave_3, n_4) r) st := fun r' e st hq => by rw [hy51 r' e] at hq; exact hq
     replace h := hy5
     refine sc h rfl rfl (fun h => ?_) (fun h => ?_)
     · refine c0 3 [21, 22] [str (s_1), str (sep_2)] 145 (by kernel_rfl) ?_
       obtain ⟨r16, hr16, h⟩ := bS h
       refine o 161 (I (r16)) rfl rfl (e_callV rfl rfl (call_P rfl rfl rfl (avS (shP rfl) (avS (shP rfl) (avN))) (strings_Count_F hr16) (.inr rfl) (bl_n) rfl rfl rfl)) ?_
       refine c0 3 [3] [I ((w64 (r16 + 1)))] 193 (by kernel_rfl) ?_
       refine run_forget [0, 1, 2, 3] [] [] rfl rfl rfl rfl ?_
       exact j5 _ (Option.some.inj h).symm
     · refine ad 1 rfl ?_
       refine run_forget [0, 1, 2, 3] [] [] rfl rfl rfl rfl ?_
       exact j5 _ (Option.some.inj h).symm
theorem strings_genSplit_good {G : Go.Ln.Ground} : Good Tryd.prog G 130 strings_genSplit_ent := good_T (fnOf_good (gl_c strings_Index_good (gl_c strings_Count_good (gl_n)))) agree_mk (Checked.mixed Tryd.checked) Tryd.func130 (n := 4) (m := 0) ⟨rfl, rfl, by decide⟩ (fun _ => ⟨rfl, rfl⟩) (fun a r h => strings_genSplit_run a.1 a.2.1 a.2.2.1 a.2.2.2 r h)
def strings_Split_A : (Str × Str) → List V := cA str (oA str)
def strings_Split_R (r : (List Str)) : V × List V := (.usl 1 ((r).map str), [])
noncomputable def strings_Split_ent : Ent := entT [false, false] strings_Split_A strings_Split_R fun x => strings_Split x.1 x.2
theorem strings_Split_F {s_1 : Str} {sep_2 : Str} {r} (h : strings_Split s_1 sep_2 = some r) : (strings_Split_ent).F (strings_Split_A (s_1, sep_2)) = some (strings_Split_R r) := entT_F (cA_inj str_inj (oA_inj str_inj)) h
noncomputable def strings_Split_c : Code := bodyOf Tryd.f109
noncomputable def strings_Split_E : Env := mkE Tryd.prog [(130, strings_genSplit_ent)]
def strings_Split_Q (x : Str × Str) (r : (List Str)) : St → Prop := QF strings_Split_E Tryd.f109 [false, false] (strings_Split_A x) (strings_Split_R r)
theorem strings_Split_run (s_1 : Str) (sep_2 : Str) (r : (List Str)) (h : strings_Split s_1 sep_2 = some r) : RunF strings_Split_E Tryd.f109 [false, false] 0 (strings_Split_A (s_1, sep_2)) (strings_Split_R r) := by
 show Run _ _ (strings_Split_Q (s_1, sep_2) r) [.code strings_Split_c] _
 refine rin (n := 8) [(0, str (s_1)), (1, str (sep_2))] [] 1 (by kernel_rfl) (by kernel_rfl) (by kernel_rfl) rfl ?_
 unfold strings_Split at h
 refine c0 8 [5, 6] [str (s_1), str (sep_2)] 49 (by kernel_rfl) ?_
 obtain ⟨r3, hr3, h⟩ := bS h
 refine o 65 (.hs 49 0 [] 1 0 ((r3).map str).length) rfl rfl (e_callV rfl rfl (call_P rfl rfl rfl (avS (shP rfl) (avS (shP rfl) (avS (shP rfl) (avS (shP rfl) (avN))))) (strings_genSplit_F hr3) (.inr rfl) (bl_n) rfl rfl rfl)) ?_
 refine c0 2 [4] [.hs 49 0 [] 1 0 ((r3).map str).length] 81 (by kernel_rfl) ?_
 obtain rfl := Option.some.inj h
 exact s_ret rfl ⟨_, fin (vs := [.hs 49 0 [] 1 0 ((r3).map str).length]) rfl (absE (abs1 rfl (abs_hs rfl rfl)) (absEN)) rfl (ou_f (ou_f (ou_n))), kl_n⟩
theorem strings_Split_good {G : Go.Ln.Ground} : Good Tryd.prog G 109 strings_Split_ent := good_T (fnOf_good (gl_c strings_genSplit_good (gl_n))) agree_mk (Checked.mixed Tryd.checked) Tryd.func109 (n := 2) (m := 0) ⟨rfl, rfl, by decide⟩ (fun _ => ⟨rfl, rfl⟩) (fun a r h => strings_Split_run a.1 a.2 r h)
def slices_Index_string_string_A : ((List Str) × Str) → List V := cA (slE str) (oA str)
def slices_Index_string_string_R (r : Int) : V × List V := (I (r), [])
noncomputable def slices_Index_string_string_ent : Ent := entT [false, false] slices_Index_string_string_A slices_Index_string_string_R fun x => slices_Index_string_string x.1 x.2
theorem slices_Index_string_string_F {s_1 : List Str} {v_2 : Str} {r} (h : slices_Index_string_string s_1 v_2 = some r) : (slices_Index_string_string_ent).F (slices_Index_string_string_A (s_1, v_2)) = some (slices_Index_string_string_R r) := entT_F (cA_inj (isl_inj str_inj) (oA_inj str_inj)) h
noncomputable def slices_Index_string_string_c : Code := bodyOf Tryd.f110
noncomputable def slices_Index_string_string_E : Env := mkE Tryd.prog []
def slices_Index_string_string_Q (x : (List Str) × Str) (r : Int) : St → Prop := QF slices_Index_string_string_E Tryd.f110 [false, false] (slices_Index_string_string_A x) (slices_Index_string_string_R r)
theorem slices_Index_string_string_la_run (s_1 : List Str) (v_2 : Str)  {Q : St → Prop} {K : List It} (hK : noD K = true) {x3 : Int} {y : Int ⊕ Unit} (h : slices_Index_string_string_la s_1 v_2 x3 = some y) : (∀ r', y = .inl r' → ∀ st, slices_Index_string_string_Q (s_1, v_2) r' st → Q st) → (∀ u : Unit, y = .inr u → Run slices_Index_string_string_E 0 Q K ⟨mkTm .dead 19 [], mkS (rtL [] 1), 1⟩) → Run slices_Index_string_string_E 0 Q (.code (cL (cL (cR (cL (cR slices_Index_string_string_c))))) :: .lp (cL (cL (cR (cL (cR slices_Index_string_string_c))))) :: .blk 0 :: K) ⟨mkTm .dead 19 [(0, .isl false ((s_1).map str)), (1, str (v_2)), (7, I ((len s_1))), (8, I (x3))], mkS (rtL [] 1), 1⟩ := by
 refine fix_ind (P := fun (x3 : Int) (y : Int ⊕ Unit) => (∀ r', y = .inl r' → ∀ st, slices_Index_string_string_Q (s_1, v_2) r' st → Q st) → (∀ u : Unit, y = .inr u → Run slices_Index_string_string_E 0 Q K ⟨mkTm .dead 19 [], mkS (rtL [] 1), 1⟩) → Run slices_Index_string_string_E 0 Q (.code (cL (cL (cR (cL (cR slices_Index_string_string_c))))) :: .lp (cL (cL (cR (cL (cR slices_Index_string_string_c))))) :: .blk 0 :: K) ⟨mkTm .dead 19 [(0, .isl false ((s_1).map str)), (1, str (v_2)), (7, I ((len s_1))), (8, I (x3))], mkS (rtL [] 1), 1⟩) (slices_Index_string_string_la_fin s_1 v_2) ?_ h
 clear h y x3
 intro self ih x3 y h hr hn
 unfold slices_Index_string_string_la_F at h
 refine c0 5 [9] [B ((decide (x3 < (len s_1))))] 17 (by kernel_rfl) ?_
 refine sc h rfl rfl (fun h => ?_) (fun h => ?_)
 · refine ad 1 rfl ?_
   refine c0 12 [5, 11, 12, 13] [I (x3), str (v_2), .isl false ((s_1).map str), I (x3)] 97 (by kernel_rfl) ?_
   obtain ⟨e4, he4, h⟩ := bS h
   refine o 113 (.iptr (str (e4)) 0) rfl rfl (e_indexAddr rfl rfl rfl (ix_islE rfl rfl rfl rfl he4)) ?_
   refine c0 3 [16] [B ((v_2 == e4))] 145 (by kernel_rfl) ?_
   refine sc h rfl rfl (fun h => ?_) (fun h => ?_)
   · refine c0 5 [4] [I (x3)] 177 (by kernel_rfl) ?_
     exact s_ret rfl (hr _ (Option.some.inj h).symm _ ⟨_, fin (vs := [I (x3)]) rfl (absE (absorb_plain rfl) (absEN)) rfl (ou_f (ou_f (ou_n))), kl_n⟩)
   · refine ad 1 rfl ?_
     refine c0 5 [8] [I ((w64 (x3 + 1)))] 177 (by kernel_rfl) ?_
     refine s_lp ?_
     refine run_forget [0, 1, 7, 8] [] [] rfl rfl rfl rfl ?_
     exact ih _ _ h hr hn
 · refine ad 1 rfl ?_
   refine run_forget [] [] [] rfl rfl rfl hK ?_
   exact hn _ (Option.some.inj h).symm
theorem slices_Index_string_string_run (s_1 : List Str) (v_2 : Str) (r : Int) (h : slices_Index_string_string s_1 v_2 = some r) : RunF slices_Index_string_string_E Tryd.f110 [false, false] 0 (slices_Index_string_string_A (s_1, v_2)) (slices_Index_string_string_R r) := by
 show Run _ _ (slices_Index_string_string_Q (s_1, v_2) r) [.code slices_Index_string_string_c] _
 refine rin (n := 19) [(0, .isl false ((s_1).map str)), (1, str (v_2))] [] 1 (by kernel_rfl) (by kernel_rfl) (by kernel_rfl) rfl ?_
 unfold slices_Index_string_string at h
 refine c0 8 [6] [.isl false ((s_1).map str)] 33 (by kernel_rfl) ?_
 refine o 49 (I ((len s_1))) rfl rfl (e_len rfl rfl rfl (l_isl rfl)) ?_
 refine c0 3 [8] [I (0)] 65 (by kernel_rfl) ?_
 obtain ⟨y5, hy5, hy51, hy52⟩ := bJ h
 refine s_loop rfl ?_
 refine run_forget [0, 1, 7, 8] [] [] rfl rfl rfl rfl ?_
 refine slices_Index_string_string_la_run s_1 v_2 rfl hy5 (fun r' e st hq => by rw [hy51 r' e] at hq; exact hq) (fun u5 hu => ?_)
 replace h := hy52 u5 hu
 refine c0 4 [4] [I ((-1))] 17 (by kernel_rfl) ?_
 obtain rfl := Option.some.inj h
 exact s_ret rfl ⟨_, fin (vs := [I ((-1))]) rfl (absE (absorb_plain rfl) (absEN)) rfl (ou_f (ou_f (ou_n))), kl_n⟩
theorem slices_Index_string_string_good {G : Go.Ln.Ground} : Good Tryd.prog G 110 slices_Index_string_string_ent := good_T (fnOf_good (gl_n)) agree_mk (Checked.mixed Tryd.checked) Tryd.func110 (n := 2) (m := 0) ⟨rfl, rfl, by decide⟩ (fun _ => ⟨rfl, rfl⟩) (fun a r h => slices_Index_string_string_run a.1 a.2 r h)
def slices_Contains_string_string_A : ((List Str) × Str) → List V := cA (slE str) (oA str)
def slices_Contains_string_string_R (r : Bool) : V × List V := (B (r), [])
noncomputable def slices_Contains_string_string_ent : Ent := entT [false, false] slices_Contains_string_string_A slices_Contains_string_string_R fun x => slices_Contains_string_string x.1 x.2
theorem slices_Contains_string_string_F {s_1 : List Str} {v_2 : Str} {r} (h : slices_Contains_string_string s_1 v_2 = some r) : (slices_Contains_string_string_ent).F (slices_Contains_string_string_A (s_1, v_2)) = some (slices_Contains_string_string_R r) := entT_F (cA_inj (isl_inj str_inj) (oA_inj str_inj)) h
noncomputable def slices_Contains_string_string_c : Code := bodyOf Tryd.f90
noncomputable def slices_Contains_string_string_E : Env := mkE Tryd.prog [(110, slices_Index_string_string_ent)]
def slices_Contains_string_string_Q (x : (List Str) × Str) (r : Bool) : St → Prop := QF slices_Contains_string_string_E Tryd.f90 [false, false] (slices_Contains_string_string_A x) (slices_Contains_string_string_R r)
theorem slices_Contains_string_string_run (s_1 : List Str) (v_2 : Str) (r : Bool) (h : slices_Contains_string_string s_1 v_2 = some r) : RunF slices_Contains_string_string_E Tryd.f90 [false, false] 0 (slices_Contains_string_string_A (s_1, v_2)) (slices_Contains_string_string_R r) := by
 show Run _ _ (slices_Contains_string_string_Q (s_1, v_2) r) [.code slices_Contains_string_string_c] _
 refine rin (n := 9) [(0, .isl false ((s_1).map str)), (1, str (v_2))] [] 1 (by kernel_rfl) (by kernel_rfl) (by kernel_rfl) rfl ?_
 unfold slices_Contains_string_string at h
 refine c0 8 [5, 6] [.isl false ((s_1).map str), str (v_2)] 49 (by kernel_rfl) ?_
 obtain ⟨r3, hr3, h⟩ := bS h
 refine o 65 (I (r3)) rfl rfl (e_callV rfl rfl (call_P rfl rfl rfl (avS (shP rfl) (avS (shP rfl) (avN))) (slices_Index_string_string_F hr3) (.inr rfl) (bl_n) rfl rfl rfl)) ?_
 refine c0 3 [4] [B ((decide (r3 ≥ 0)))] 97 (by kernel_rfl) ?_
 obtain rfl := Option.some.inj h
 exact s_ret rfl ⟨_, fin (vs := [B ((decide (r3 ≥ 0)))]) rfl (absE (absorb_plain rfl) (absEN)) rfl (ou_f (ou_f (ou_n))), kl_n⟩
theorem slices_Contains_string_string_good {G : Go.Ln.Ground} : Good Tryd.prog G 90 slices_Contains_string_string_ent := good_T (fnOf_good (gl_c slices_Index_string_string_good (gl_n))) agree_mk (Checked.mixed Tryd.checked) Tryd.func90 (n := 2) (m := 0) ⟨rfl, rfl, by decide⟩ (fun _ => ⟨rfl, rfl⟩) (fun a r h => slices_Contains_string_string_run a.1 a.2 r h)
def impl_IsValidName_A : Str → List V := oA str
def impl_IsValidName_R (r : Bool) : V × List V := (B (r), [])
noncomputable def impl_IsValidName_ent : Ent := entT [false] impl_IsValidName_A impl_IsValidName_R fun x => impl_IsValidName x
theorem impl_IsValidName_F {s_1 : Str} {r} (h : impl_IsValidName s_1 = some r) : (impl_IsValidName_ent).F (impl_IsValidName_A s_1) = some (impl_IsValidName_R r) := entT_F (oA_inj str_inj) h
noncomputable def impl_IsValidName_c : Code := bodyOf Tryd.f89
noncomputable def impl_IsValidName_E : Env := mkE Tryd.prog [(55, impl_within_ent), (109, strings_Split_ent), (90, slices_Contains_string_string_ent)]
def impl_IsValidName_Q (x : Str) (r : Bool) : St → Prop := QF impl_IsValidName_E Tryd.f89 [false] (impl_IsValidName_A x) (impl_IsValidName_R r)
theorem impl_IsValidName_la_run (s_1 : Str)  {Q : St → Prop} {K : List It} (hK : noD K = true) {x4 : Int} {y : Bool ⊕ Unit} (h : impl_IsValidName_la s_1 x4 = some y) : (∀ r', y = .inl r' → ∀ st, impl_IsValidName_Q s_1 r' st → Q st) → (∀ u : Unit, y = .inr u → Run impl_IsValidName_E 0 Q K ⟨mkTm .dead 46 [(0, str (s_1))], mkS (rtL [] 1), 1⟩) → Run impl_IsValidName_E 0 Q (.code (cL (cL (cR (cL (cR (cR impl_IsValidName_c)))))) :: .lp (cL (cL (cR (cL (cR (cR impl_IsValidName_c)))))) :: .blk 0 :: K) ⟨mkTm .dead 46 [(0, str (s_1)), (20, I ((len s_1))), (21, I (x4))], mkS (rtL [] 1), 1⟩ := by
 refine fix_ind (P := fun (x4 : Int) (y : Bool ⊕ Unit) => (∀ r', y = .inl r' → ∀ st, impl_IsValidName_Q s_1 r' st → Q st) → (∀ u : Unit, y = .inr u → Run impl_IsValidName_E 0 Q K ⟨mkTm .dead 46 [(0, str (s_1))], mkS (rtL [] 1), 1⟩) → Run impl_IsValidName_E 0 Q (.code (cL (cL (cR (cL (cR (cR impl_IsValidName_c)))))) :: .lp (cL (cL (cR (cL (cR (cR impl_IsValidName_c)))))) :: .blk 0 :: K) ⟨mkTm .dead 46 [(0, str (s_1)), (20, I ((len s_1))), (21, I (x4))], mkS (rtL [] 1), 1⟩) (impl_IsValidName_la_fin s_1) ?_ h
 clear h y x4
 intro self ih x4 y h hr hn
 unfold impl_IsValidName_la_F at h
 refine c0 5 [22] [B ((decide (x4 < (len s_1))))] 17 (by kernel_rfl) ?_
 refine sc h rfl rfl (fun h => ?_) (fun h => ?_)
 · refine ad 1 rfl ?_
   refine c0 11 [24, 25] [str (s_1), I (x4)] 81 (by kernel_rfl) ?_
   obtain ⟨c5, hc5, h⟩ := bS h
   refine o 97 (.int .u8 ((c5.toNat : Int))) rfl rfl (e_index rfl rfl (i_str rfl rfl hc5)) ?_
   refine c0 7 [4, 29] [.int .u8 ((c5.toNat : Int)), B ((decide ((c5.toNat : Int) < 97)))] 161 (by kernel_rfl) ?_
   obtain ⟨u6, hu6, h⟩ := lJ h
   have j6 : Run impl_IsValidName_E 0 Q (.code (cR (cR (cR (cL (cL (cR (cR (cL (cL (cR (cL (cR (cR impl_IsValidName_c))))))))))))) :: .blk 1 :: .code (cR (cR (cR (cL (cL (cR (cL (cR (cR impl_IsValidName_c))))))))) :: .lp (cL (cL (cR (cL (cR (cR impl_IsValidName_c)))))) :: .blk 0 :: K) ⟨mkTm .dead 46 [(0, str (s_1)), (20, I ((len s_1))), (21, I (x4)), (40, B (u6))], mkS (rtL [] 1), 1⟩ := by
     refine sc h rfl rfl (fun h => ?_) (fun h => ?_)
     · refine c0 4 [2] [B (false)] 17 (by kernel_rfl) ?_
       exact s_ret rfl (hr _ (Option.some.inj h).symm _ ⟨_, fin (vs := [B (false)]) rfl (absE (absorb_plain rfl) (absEN)) rfl (ou_f (ou_n)), kl_n⟩)
     · refine ad 1 rfl ?_
       refine c0 5 [21] [I ((w64 (x4 + 1)))] 33 (by kernel_rfl) ?_
       refine s_lp ?_
       refine run_forget [0, 20, 21] [] [] rfl rfl rfl rfl ?_
       exact ih _ _ h hr hn
   replace h := hu6
   clear hu6
   refine sp 29 h rfl (fun h => ?_) (fun h => ?_)
   · refine c0 7 [33, 36] [B (true), B ((decide ((c5.toNat : Int) < 48)))] 273 (by kernel_rfl) ?_
     obtain ⟨u7, hu7, h⟩ := lJ h
     have j7 : Run impl_IsValidName_E 0 Q (.code (cR (cR (cR (cL (cL (cR (cR (cL (cL (cR (cL (cR (cR impl_IsValidName_c))))))))))))) :: .blk 1 :: .code (cR (cR (cR (cL (cL (cR (cL (cR (cR impl_IsValidName_c))))))))) :: .lp (cL (cL (cR (cL (cR (cR impl_IsValidName_c)))))) :: .blk 0 :: K) ⟨mkTm .dead 46 [(0, str (s_1)), (20, I ((len s_1))), (21, I (x4)), (40, B (u7))], mkS (rtL [] 1), 1⟩ := by
       refine run_forget [0, 20, 21, 40] [] [] rfl rfl rfl rfl ?_
       subst h
       exact j6
     replace h := hu7
     clear hu7
     refine sp 36 h rfl (fun h => ?_) (fun h => ?_)
     · refine c0 5 [40] [B (true)] 337 (by kernel_rfl) ?_
       refine run_forget [0, 20, 21, 40] [] [] rfl rfl rfl rfl ?_
       subst h
       exact j7
     · refine c0 5 [40] [B ((decide ((c5.toNat : Int) > 57)))] 337 (by kernel_rfl) ?_
       refine run_forget [0, 20, 21, 40] [] [] rfl rfl rfl rfl ?_
       subst h
       exact j7
   · refine c0 4 [33] [B ((decide ((c5.toNat : Int) > 122)))] 225 (by kernel_rfl) ?_
     obtain ⟨u8, hu8, h⟩ := lJ h
     have j8 : Run impl_IsValidName_E 0 Q (.code (cR (cR (cR (cL (cL (cR (cR (cL (cL (cR (cL (cR (cR impl_IsValidName_c))))))))))))) :: .blk 1 :: .code (cR (cR (cR (cL (cL (cR (cL (cR (cR impl_IsValidName_c))))))))) :: .lp (cL (cL (cR (cL (cR (cR impl_IsValidName_c)))))) :: .blk 0 :: K) ⟨mkTm .dead 46 [(0, str (s_1)), (20, I ((len s_1))), (21, I (x4)), (40, B (u8))], mkS (rtL [] 1), 1⟩ := by
       refine run_forget [0, 20, 21, 40] [] [] rfl rfl rfl rfl ?_
       subst h
       exact j6
     replace h := hu8
     clear hu8
     refine sp 33 h rfl (fun h => ?_) (fun h => ?_)
     · refine c0 3 [36] [B ((decide ((c5.toNat : Int) < 48)))] 273 (by kernel_rfl) ?_
       obtain ⟨u9, hu9, h⟩ := lJ h
       have j9 : Run impl_IsValidName_E 0 Q (.code (cR (cR (cR (cL (cL (cR (cR (cL (cL (cR (cL (cR (cR impl_IsValidName_c))))))))))))) :: .blk 1 :: .code (cR (cR (cR (cL (cL (cR (cL (cR (cR impl_IsValidName_c))))))))) :: .lp (cL (cL (cR (cL (cR (cR impl_IsValidName_c)))))) :: .blk 0 :: K) ⟨mkTm .dead 46 [(0, str (s_1)), (20, I ((len s_1))), (21, I (x4)), (40, B (u9))], mkS (rtL [] 1), 1⟩ := by
         refine run_forget [0, 20, 21, 40] [] [] rfl rfl rfl rfl ?_
         subst h
         exact j8
       replace h := hu9
       clear hu9
       refine sp 36 h rfl (fun h => ?_) (fun h => ?_)
       · refine c0 5 [40] [B (true)] 337 (by kernel_rfl) ?_
         refine run_forget [0, 20, 21, 40] [] [] rfl rfl rfl rfl ?_
         subst h
         exact j9
       · refine c0 5 [40] [B ((decide ((c5.toNat : Int) > 57)))] 337 (by kernel_rfl) ?_
         refine run_forget [0, 20, 21, 40] [] [] rfl rfl rfl rfl ?_
         subst h
         exact j9
     · refine c0 8 [40] [B (false)] 337 (by kernel_rfl) ?_
       refine run_forget [0, 20, 21, 40] [] [] rfl rfl rfl rfl ?_
       subst h
       exact j8
 · refine ad 1 rfl ?_
   refine run_forget [0] [] [] rfl rfl rfl hK ?_
   exact hn _ (Option.some.inj h).symm
theorem impl_IsValidName_run (s_1 : Str) (r : Bool) (h : impl_IsValidName s_1 = some r) : RunF impl_IsValidName_E Tryd.f89 [false] 0 (impl_IsValidName_A s_1) (impl_IsValidName_R r) := by
 show Run _ _ (impl_IsValidName_Q s_1 r) [.code impl_IsValidName_c] _
 refine rin (n := 46) [(0, str (s_1))] [] 1 (by kernel_rfl) (by kernel_rfl) (by kernel_rfl) rfl ?_
 unfold impl_IsValidName at h
 refine c0 9 [6] [I ((len s_1))] 49 (by kernel_rfl) ?_
 obtain ⟨r2, hr2, h⟩ := bS h
 refine o 65 (B (r2)) rfl rfl (e_callV rfl rfl (call_P rfl rfl rfl (avS (shP rfl) (avS (shP rfl) (avS (shP rfl) (avN)))) (impl_within_F hr2) (.inr rfl) (bl_n) rfl rfl rfl)) ?_
 refine c0 2 [9] [B ((!r2))] 97 (by kernel_rfl) ?_
 obtain ⟨y3, hy3, hy31, hy32⟩ := bJ h
 have j3 : ∀ u3, y3 = .inr u3 → Run impl_IsValidName_E 0 (impl_IsValidName_Q s_1 r) (.code (cR (cL (cR impl_IsValidName_c))) :: .code (cR (cR impl_IsValidName_c)) :: []) ⟨mkTm .dead 46 [(0, str (s_1)), (18, B (u3))], mkS (rtL [] 1), 1⟩ := by
   intro u3 hu
   replace h := hy32 u3 hu
   refine sc h rfl rfl (fun h => ?_) (fun h => ?_)
   · refine c0 4 [2] [B (false)] 17 (by kernel_rfl) ?_
     obtain rfl := Option.some.inj h
     exact s_ret rfl ⟨_, fin (vs := [B (false)]) rfl (absE (absorb_plain rfl) (absEN)) rfl (ou_f (ou_n)), kl_n⟩
   · refine ad 1 rfl ?_
     refine c0 8 [20, 21] [I ((len s_1)), I (0)] 49 (by kernel_rfl) ?_
     obtain ⟨y10, hy10, hy101, hy102⟩ := bJ h
     refine s_loop rfl ?_
     refine run_forget [0, 20, 21] [] [] rfl rfl rfl rfl ?_
     refine impl_IsValidName_la_run s_1 rfl hy10 (fun r' e st hq => by rw [hy101 r' e] at hq; exact hq) (fun u10 hu => ?_)
     replace h := hy102 u10 hu
     refine ad 2 rfl ?_
     obtain ⟨r11, hr11, h⟩ := bS h
     refine o 17 (.hs 1 0 [] 1 0 ((r11).map str).length) rfl rfl (e_callV rfl rfl (call_P rfl rfl rfl (avS (shP rfl) (avS (shP rfl) (avN))) (strings_Split_F hr11) (.inr rfl) (bl_n) rfl rfl rfl)) ?_
     refine c0 1 [43] [str (s_1)] 33 (by kernel_rfl) ?_
     obtain ⟨r12, hr12, h⟩ := bS h
     refine o 49 (B (r12)) rfl rfl (e_callV rfl rfl (call_P rfl rfl rfl (avS (sh1 rfl rfl (sh_hsM (f := str) (g := str) (xs := r11) rfl rfl (imms_of str_imm))) (avS (shP rfl) (avN))) (slices_Contains_string_string_F hr12) (.inl (rfl)) (bl_n) rfl rfl rfl)) ?_
     refine c0 3 [2] [B ((!r12))] 81 (by kernel_rfl) ?_
     obtain rfl := Option.some.inj h
     exact s_ret rfl ⟨_, fin (vs := [B ((!r12))]) rfl (absE (absorb_plain rfl) (absEN)) rfl (ou_f (ou_n)), kl_n⟩
 have r3 : ∀ r', y3 = .inl r' → ∀ st, impl_IsValidName_Q s_1 r' st → (impl_IsValidName_Q s_1 r) st := fun r' e st hq => by rw [hy31 r' e] at hq; exact hq
 replace h := hy3
 refine sp 9 h rfl (fun h => ?_) (fun h => ?_)
 · refine c0 10 [18] [B (true)] 241 (by kernel_rfl) ?_
   refine run_forget [0, 18] [] [] rfl rfl rfl rfl ?_
   exact j3 _ (Option.some.inj h).symm
 · refine c0 1 [10] [str (s_1)] 113 (by kernel_rfl) ?_
   obtain ⟨c13, hc13, h⟩ := bS h
   refine og 129 (.int .u8 ((c13.toNat : Int))) rfl rfl rfl rfl (e_index rfl rfl (i_str rfl rfl hc13)) ?_
   refine c0 3 [14] [B ((decide ((c13.toNat : Int) < 97)))] 177 (by kernel_rfl) ?_
   obtain ⟨y14, hy14, hy141, hy142⟩ := bL h
   have j14 : ∀ u14, y14 = .inr u14 → Run impl_IsValidName_E 0 (impl_IsValidName_Q s_1 r) (.code (cR (cL (cR impl_IsValidName_c))) :: .code (cR (cR impl_IsValidName_c)) :: []) ⟨mkTm .dead 46 [(0, str (s_1)), (18, B (u14))], mkS (rtL [] 1), 1⟩ := by
     intro u14 hu
     replace h := hy142 u14 hu
     refine run_forget [0, 18] [] [] rfl rfl rfl rfl ?_
     exact j3 _ (Option.some.inj h).symm
   have r14 : ∀ r', y14 = .inl r' → ∀ st, impl_IsValidName_Q s_1 r' st → (impl_IsValidName_Q s_1 r) st := fun r' e st hq => r3 r' (hy141 r' e) st hq
   replace h := hy14
   refine sp 14 h rfl (fun h => ?_) (fun h => ?_)
   · refine c0 5 [18] [B (true)] 241 (by kernel_rfl) ?_
     refine run_forget [0, 18] [] [] rfl rfl rfl rfl ?_
     exact j14 _ (Option.some.inj h).symm
   · refine c0 1 [15] [str (s_1)] 193 (by kernel_rfl) ?_
     obtain ⟨c15, hc15, h⟩ := bS h
     refine og 209 (.int .u8 ((c15.toNat : Int))) rfl rfl rfl rfl (e_index rfl rfl (i_str rfl rfl hc15)) ?_
     refine c0 3 [18] [B ((decide ((c15.toNat : Int) > 122)))] 241 (by kernel_rfl) ?_
     refine run_forget [0, 18] [] [] rfl rfl rfl rfl ?_
     exact j14 _ (Option.some.inj h).symm
theorem impl_IsValidName_good {G : Go.Ln.Ground} : Good Tryd.prog G 89 impl_IsValidName_ent := good_T (fnOf_good (gl_c impl_within_good (gl_c strings_Split_good (gl_c slices_Contains_string_string_good (gl_n))))) agree_mk (Checked.mixed Tryd.checked) Tryd.func89 (n := 1) (m := 0) ⟨rfl, rfl, by decide⟩ (fun _ => ⟨rfl, rfl⟩) (fun a r h => impl_IsValidName_run a r h)
def impl_isEvent_A : (Event × Int) → List V := cA enc_Event (oA I)
def impl_isEvent_R (r : Bool) : V × List V := (B (r), [])
noncomputable def impl_isEvent_ent : Ent := entT [false, false] impl_isEvent_A impl_isEvent_R fun x => impl_isEvent x.1 x.2
theorem impl_isEvent_F {e_1 : Event} {parties_2 : Int} {r} (h : impl_isEvent e_1 parties_2 = some r) : (impl_isEvent_ent).F (impl_isEvent_A (e_1, parties_2)) = some (impl_isEvent_R r) := entT_F (cA_inj enc_Event_inj (oA_inj I_inj)) h
noncomputable def impl_isEvent_c : Code := bodyOf Tryd.f66
noncomputable def impl_isEvent_E : Env := mkE Tryd.prog [(91, impl_isDay_ent), (55, impl_within_ent), (89, impl_IsValidName_ent)]
def impl_isEvent_Q (x : Event × Int) (r : Bool) : St → Prop := QF impl_isEvent_E Tryd.f66 [false, false] (impl_isEvent_A x) (impl_isEvent_R r)
theorem impl_isEvent_run (e_1 : Event) (parties_2 : Int) (r : Bool) (h : impl_isEvent e_1 parties_2 = some r) : RunF impl_isEvent_E Tryd.f66 [false, false] 0 (impl_isEvent_A (e_1, parties_2)) (impl_isEvent_R r) := by
 show Run _ _ (impl_isEvent_Q (e_1, parties_2) r) [.code impl_isEvent_c] _
 refine rin (n := 25) [(0, enc_Event e_1), (1, I (parties_2))] [] 1 (by kernel_rfl) (by kernel_rfl) (by kernel_rfl) rfl ?_
 unfold impl_isEvent at h
 refine ck 9 [2, 6] [] [1] [] [.hp 1 0 [] 4 0 0, I (e_1.Day)] [some ⟨0, 4, [enc_Event e_1]⟩] 65 (by kernel_rfl) ?_
 obtain ⟨r3, hr3, h⟩ := bS h
 refine o 81 (B (r3)) rfl rfl (e_callV rfl rfl (call_P rfl rfl rfl (avS (shP rfl) (avN)) (impl_isDay_F hr3) (.inr rfl) (bl_n) rfl rfl rfl)) ?_
 refine c0 1 [8] [B (r3)] 97 (by kernel_rfl) ?_
 obtain ⟨y4, hy4, hy41, hy42⟩ := bJ h
 have j4 : ∀ u4, y4 = .inr u4 → Run impl_isEvent_E 0 (impl_isEvent_Q (e_1, parties_2) r) (.code (cR (cR impl_isEvent_c)) :: []) ⟨mkTm .dead 25 [(4, B (u4))], mkS (rtL [] 1), 1⟩ := by
   intro u4 hu
   replace h := hy42 u4 hu
   obtain rfl := Option.some.inj h
   exact s_ret rfl ⟨_, fin (vs := [B (u4)]) rfl (absE (absorb_plain rfl) (absEN)) rfl (ou_f (ou_f (ou_n))), kl_n⟩
 have r4 : ∀ r', y4 = .inl r' → ∀ st, impl_isEvent_Q (e_1, parties_2) r' st → (impl_isEvent_Q (e_1, parties_2) r) st := fun r' e st hq => by rw [hy41 r' e] at hq; exact hq
 replace h := hy4
 refine sp 8 h rfl (fun h => ?_) (fun h => ?_)
 · refine c0 4 [10, 12] [I (e_1.Party), I ((w64 (parties_2 - 1)))] 161 (by kernel_rfl) ?_
   obtain ⟨r5, hr5, h⟩ := bS h
   refine og 177 (B (r5)) rfl rfl rfl rfl (e_callV rfl rfl (call_P rfl rfl rfl (avS (shP rfl) (avS (shP rfl) (avS (shP rfl) (avN)))) (impl_within_F hr5) (.inr rfl) (bl_n) rfl rfl rfl)) ?_
   refine c0 2 [15] [B (r5)] 209 (by kernel_rfl) ?_
   obtain ⟨y6, hy6, hy61, hy62⟩ := bL h
   have j6 : ∀ u6, y6 = .inr u6 → Run impl_isEvent_E 0 (impl_isEvent_Q (e_1, parties_2) r) (.code (cR (cR impl_isEvent_c)) :: []) ⟨mkTm .dead 25 [(4, B (u6))], mkS (rtL [] 1), 1⟩ := by
     intro u6 hu
     replace h := hy62 u6 hu
     refine run_forget [4] [] [] rfl rfl rfl rfl ?_
     exact j4 _ (Option.some.inj h).symm
   have r6 : ∀ r', y6 = .inl r' → ∀ st, impl_isEvent_Q (e_1, parties_2) r' st → (impl_isEvent_Q (e_1, parties_2) r) st := fun r' e st hq => r4 r' (hy61 r' e) st hq
   replace h := hy6
   refine sp 15 h rfl (fun h => ?_) (fun h => ?_)
   · refine c0 2 [17] [str (e_1.Action)] 241 (by kernel_rfl) ?_
     obtain ⟨r7, hr7, h⟩ := bS h
     refine og 257 (B (r7)) rfl rfl rfl rfl (e_callV rfl rfl (call_P rfl rfl rfl (avS (shP rfl) (avN)) (impl_IsValidName_F hr7) (.inr rfl) (bl_n) rfl rfl rfl)) ?_
     refine c0 2 [20] [B (r7)] 289 (by kernel_rfl) ?_
     obtain ⟨y8, hy8, hy81, hy82⟩ := bL h
     have j8 : ∀ u8, y8 = .inr u8 → Run impl_isEvent_E 0 (impl_isEvent_Q (e_1, parties_2) r) (.code (cR (cR impl_isEvent_c)) :: []) ⟨mkTm .dead 25 [(4, B (u8))], mkS (rtL [] 1), 1⟩ := by
       intro u8 hu
       replace h := hy82 u8 hu
       refine run_forget [4] [] [] rfl rfl rfl rfl ?_
       exact j6 _ (Option.some.inj h).symm
     have r8 : ∀ r', y8 = .inl r' → ∀ st, impl_isEvent_Q (e_1, parties_2) r' st → (impl_isEvent_Q (e_1, parties_2) r) st := fun r' e st hq => r6 r' (hy81 r' e) st hq
     replace h := hy8
     refine sp 20 h rfl (fun h => ?_) (fun h => ?_)
     · refine c0 2 [22] [I (e_1.Amount)] 321 (by kernel_rfl) ?_
       obtain ⟨r9, hr9, h⟩ := bS h
       refine og 337 (B (r9)) rfl rfl rfl rfl (e_callV rfl rfl (call_P rfl rfl rfl (avS (shP rfl) (avS (shP rfl) (avS (shP rfl) (avN)))) (impl_within_F hr9) (.inr rfl) (bl_n) rfl rfl rfl)) ?_
       refine c0 3 [4] [B (r9)] 369 (by kernel_rfl) ?_
       refine run_forget [4] [] [] rfl rfl rfl rfl ?_
       exact j8 _ (Option.some.inj h).symm
     · refine c0 6 [4] [B (false)] 369 (by kernel_rfl) ?_
       refine run_forget [4] [] [] rfl rfl rfl rfl ?_
       exact j8 _ (Option.some.inj h).symm
   · refine c0 11 [4] [B (false)] 369 (by kernel_rfl) ?_
     refine run_forget [4] [] [] rfl rfl rfl rfl ?_
     exact j6 _ (Option.some.inj h).symm
 · refine c0 18 [4] [B (false)] 369 (by kernel_rfl) ?_
   refine run_forget [4] [] [] rfl rfl rfl rfl ?_
   exact j4 _ (Option.some.inj h).symm
theorem impl_isEvent_good {G : Go.Ln.Ground} : Good Tryd.prog G 66 impl_isEvent_ent := good_T (fnOf_good (gl_c impl_isDay_good (gl_c impl_within_good (gl_c impl_IsValidName_good (gl_n))))) agree_mk (Checked.mixed Tryd.checked) Tryd.func66 (n := 2) (m := 0) ⟨rfl, rfl, by decide⟩ (fun _ => ⟨rfl, rfl⟩) (fun a r h => impl_isEvent_run a.1 a.2 r h)
def impl_areEvents_1_A : (Event × Int) → List V := cA enc_Event (oA (fun x : Int => .iptr (I x) 0))
def impl_areEvents_1_R (r : Bool) : V × List V := (B (r), [])
noncomputable def impl_areEvents_1_ent : Ent := entT [false, false] impl_areEvents_1_A impl_areEvents_1_R fun x => impl_areEvents_1 x.1 x.2
theorem impl_areEvents_1_F {e_1 : Event} {a_2 : Int} {r} (h : impl_areEvents_1 e_1 a_2 = some r) : (impl_areEvents_1_ent).F (impl_areEvents_1_A (e_1, a_2)) = some (impl_areEvents_1_R r) := entT_F (cA_inj enc_Event_inj (oA_inj (iptr_inj I_inj))) h
noncomputable def impl_areEvents_1_c : Code := bodyOf Tryd.f79
noncomputable def impl_areEvents_1_E : Env := mkE Tryd.prog [(66, impl_isEvent_ent)]
def impl_areEvents_1_Q (x : Event × Int) (r : Bool) : St → Prop := QF impl_areEvents_1_E Tryd.f79 [false, false] (impl_areEvents_1_A x) (impl_areEvents_1_R r)
theorem impl_areEvents_1_run (e_1 : Event) (a_2 : Int) (r : Bool) (h : impl_areEvents_1 e_1 a_2 = some r) : RunF impl_areEvents_1_E Tryd.f79 [false, false] 0 (impl_areEvents_1_A (e_1, a_2)) (impl_areEvents_1_R r) := by
 show Run _ _ (impl_areEvents_1_Q (e_1, a_2) r) [.code impl_areEvents_1_c] _
 refine rin (n := 8) [(0, enc_Event e_1), (1, .iptr (I (a_2)) 0)] [] 1 (by kernel_rfl) (by kernel_rfl) (by kernel_rfl) rfl ?_
 unfold impl_areEvents_1 at h
 refine c0 9 [4, 5] [enc_Event e_1, I (a_2)] 65 (by kernel_rfl) ?_
 obtain ⟨r3, hr3, h⟩ := bS h
 refine o 81 (B (r3)) rfl rfl (e_callV rfl rfl (call_P rfl rfl rfl (avS (shP rfl) (avS (shP rfl) (avN))) (impl_isEvent_F hr3) (.inr rfl) (bl_n) rfl rfl rfl)) ?_
 refine c0 3 [3] [B ((!r3))] 113 (by kernel_rfl) ?_
 obtain rfl := Option.some.inj h
 exact s_ret rfl ⟨_, fin (vs := [B ((!r3))]) rfl (absE (absorb_plain rfl) (absEN)) rfl (ou_f (ou_f (ou_n))), kl_n⟩
theorem impl_areEvents_1_good {G : Go.Ln.Ground} : Good Tryd.prog G 79 impl_areEvents_1_ent := good_T (fnOf_good (gl_c impl_isEvent_good (gl_n))) agree_mk (Checked.mixed Tryd.checked) Tryd.func79 (n := 2) (m := 0) ⟨rfl, rfl, by decide⟩ (fun _ => ⟨rfl, rfl⟩) (fun a r h => impl_areEvents_1_run a.1 a.2 r h)
def slices_IndexFunc_impl_Event_impl_Event_w_impl_areEvents_1_A : ((List Event) × Int) → List V := cA (slE enc_Event) (oA (fun x : Int => (.fn 79 [.iptr (I x) 0] : V)))
def slices_IndexFunc_impl_Event_impl_Event_w_impl_areEvents_1_R (r : Int) : V × List V := (I (r), [])
noncomputable def slices_IndexFunc_impl_Event_impl_Event_w_impl_areEvents_1_ent : Ent := entT [false, false] slices_IndexFunc_impl_Event_impl_Event_w_impl_areEvents_1_A slices_IndexFunc_impl_Event_impl_Event_w_impl_areEvents_1_R fun x => slices_IndexFunc_impl_Event_impl_Event_w_impl_areEvents_1 x.1 x.2
theorem slices_IndexFunc_impl_Event_impl_Event_w_impl_areEvents_1_F {s_1 : List Event} {f_2 : Int} {r} (h : slices_IndexFunc_impl_Event_impl_Event_w_impl_areEvents_1 s_1 f_2 = some r) : (slices_IndexFunc_impl_Event_impl_Event_w_impl_areEvents_1_ent).F (slices_IndexFunc_impl_Event_impl_Event_w_impl_areEvents_1_A (s_1, f_2)) = some (slices_IndexFunc_impl_Event_impl_Event_w_impl_areEvents_1_R r) := entT_F (cA_inj (isl_inj enc_Event_inj) (oA_inj (fn_inj1 I_inj))) h
noncomputable def slices_IndexFunc_impl_Event_impl_Event_w_impl_areEvents_1_c : Code := bodyOf Tryd.f83
noncomputable def slices_IndexFunc_impl_Event_impl_Event_w_impl_areEvents_1_E : Env := mkE Tryd.prog [(79, impl_areEvents_1_ent)]
def slices_IndexFunc_impl_Event_impl_Event_w_impl_areEvents_1_Q (x : (List Event) × Int) (r : Int) : St → Prop := QF slices_IndexFunc_impl_Event_impl_Event_w_impl_areEvents_1_E Tryd.f83 [false, false] (slices_IndexFunc_impl_Event_impl_Event_w_impl_areEvents_1_A x) (slices_IndexFunc_impl_Event_impl_Event_w_impl_areEvents_1_R r)
theorem slices_IndexFunc_impl_Event_impl_Event_w_impl_areEvents_1_la_run (s_1 : List Event) (f_2 : Int)  {Q : St → Prop} {K : List It} (hK : noD K = true) {x3 : Int} {y : Int ⊕ Unit} (h : slices_IndexFunc_impl_Event_impl_Event_w_impl_areEvents_1_la s_1 f_2 x3 = some y) : (∀ r', y = .inl r' → ∀ st, slices_IndexFunc_impl_Event_impl_Event_w_impl_areEvents_1_Q (s_1, f_2) r' st → Q st) → (∀ u : Unit, y = .inr u → Run slices_IndexFunc_impl_Event_impl_Event_w_impl_areEvents_1_E 0 Q K ⟨mkTm .dead 19 [], mkS (rtL [] 1), 1⟩) → Run slices_IndexFunc_impl_Event_impl_Event_w_impl_areEvents_1_E 0 Q (.code (cL (cL (cR (cL (cR slices_IndexFunc_impl_Event_impl_Event_w_impl_areEvents_1_c))))) :: .lp (cL (cL (cR (cL (cR slices_IndexFunc_impl_Event_impl_Event_w_impl_areEvents_1_c))))) :: .blk 0 :: K) ⟨mkTm .dead 19 [(0, .isl false ((s_1).map enc_Event)), (1, .fn 79 [.iptr (I (f_2)) 0]), (7, I ((len s_1))), (8, I (x3))], mkS (rtL [] 1), 1⟩ := by
 refine fix_ind (P := fun (x3 : Int) (y : Int ⊕ Unit) => (∀ r', y = .inl r' → ∀ st, slices_IndexFunc_impl_Event_impl_Event_w_impl_areEvents_1_Q (s_1, f_2) r' st → Q st) → (∀ u : Unit, y = .inr u → Run slices_IndexFunc_impl_Event_impl_Event_w_impl_areEvents_1_E 0 Q K ⟨mkTm .dead 19 [], mkS (rtL [] 1), 1⟩) → Run slices_IndexFunc_impl_Event_impl_Event_w_impl_areEvents_1_E 0 Q (.code (cL (cL (cR (cL (cR slices_IndexFunc_impl_Event_impl_Event_w_impl_areEvents_1_c))))) :: .lp (cL (cL (cR (cL (cR slices_IndexFunc_impl_Event_impl_Event_w_impl_areEvents_1_c))))) :: .blk 0 :: K) ⟨mkTm .dead 19 [(0, .isl false ((s_1).map enc_Event)), (1, .fn 79 [.iptr (I (f_2)) 0]), (7, I ((len s_1))), (8, I (x3))], mkS (rtL [] 1), 1⟩) (slices_IndexFunc_impl_Event_impl_Event_w_impl_areEvents_1_la_fin s_1 f_2) ?_ h
 clear h y x3
 intro self ih x3 y h hr hn
 unfold slices_IndexFunc_impl_Event_impl_Event_w_impl_areEvents_1_la_F at h
 refine c0 5 [9] [B ((decide (x3 < (len s_1))))] 17 (by kernel_rfl) ?_
 refine sc h rfl rfl (fun h => ?_) (fun h => ?_)
 · refine ad 1 rfl ?_
   refine c0 12 [5, 11, 12, 13] [I (x3), .fn 79 [.iptr (I (f_2)) 0], .isl false ((s_1).map enc_Event), I (x3)] 97 (by kernel_rfl) ?_
   obtain ⟨e4, he4, h⟩ := bS h
   refine o 113 (.iptr (enc_Event e4) 0) rfl rfl (e_indexAddr rfl rfl rfl (ix_islE rfl rfl rfl rfl he4)) ?_
   refine c0 1 [15] [enc_Event e4] 129 (by kernel_rfl) ?_
   obtain ⟨r5, hr5, h⟩ := bS h
   refine o 145 (B (r5)) rfl rfl (e_callV rfl rfl (call_P rfl rfl rfl (avS (shP rfl) (avS (shP rfl) (avN))) (impl_areEvents_1_F hr5) (.inr rfl) (bl_n) rfl rfl rfl)) ?_
   refine ad 1 rfl ?_
   refine sc h rfl rfl (fun h => ?_) (fun h => ?_)
   · refine c0 5 [4] [I (x3)] 177 (by kernel_rfl) ?_
     exact s_ret rfl (hr _ (Option.some.inj h).symm _ ⟨_, fin (vs := [I (x3)]) rfl (absE (absorb_plain rfl) (absEN)) rfl (ou_f (ou_f (ou_n))), kl_n⟩)
   · refine ad 1 rfl ?_
     refine c0 5 [8] [I ((w64 (x3 + 1)))] 177 (by kernel_rfl) ?_
     refine s_lp ?_
     refine run_forget [0, 1, 7, 8] [] [] rfl rfl rfl rfl ?_
     exact ih _ _ h hr hn
 · refine ad 1 rfl ?_
   refine run_forget [] [] [] rfl rfl rfl hK ?_
   exact hn _ (Option.some.inj h).symm
theorem slices_IndexFunc_impl_Event_impl_Event_w_impl_areEvents_1_run (s_1 : List Event) (f_2 : Int) (r : Int) (h : slices_IndexFunc_impl_Event_impl_Event_w_impl_areEvents_1 s_1 f_2 = some r) : RunF slices_IndexFunc_impl_Event_impl_Event_w_impl_areEvents_1_E Tryd.f83 [false, false] 0 (slices_IndexFunc_impl_Event_impl_Event_w_impl_areEvents_1_A (s_1, f_2)) (slices_IndexFunc_impl_Event_impl_Event_w_impl_areEvents_1_R r) := by
 show Run _ _ (slices_IndexFunc_impl_Event_impl_Event_w_impl_areEvents_1_Q (s_1, f_2) r) [.code slices_IndexFunc_impl_Event_impl_Event_w_impl_areEvents_1_c] _
 refine rin (n := 19) [(0, .isl false ((s_1).map enc_Event)), (1, .fn 79 [.iptr (I (f_2)) 0])] [] 1 (by kernel_rfl) (by kernel_rfl) (by kernel_rfl) rfl ?_
 unfold slices_IndexFunc_impl_Event_impl_Event_w_impl_areEvents_1 at h
 refine c0 8 [6] [.isl false ((s_1).map enc_Event)] 33 (by kernel_rfl) ?_
 refine o 49 (I ((len s_1))) rfl rfl (e_len rfl rfl rfl (l_isl rfl)) ?_
 refine c0 3 [8] [I (0)] 65 (by kernel_rfl) ?_
 obtain ⟨y6, hy6, hy61, hy62⟩ := bJ h
 refine s_loop rfl ?_
 refine run_forget [0, 1, 7, 8] [] [] rfl rfl rfl rfl ?_
 refine slices_IndexFunc_impl_Event_impl_Event_w_impl_areEvents_1_la_run s_1 f_2 rfl hy6 (fun r' e st hq => by rw [hy61 r' e] at hq; exact hq) (fun u6 hu => ?_)
 replace h := hy62 u6 hu
 refine c0 4 [4] [I ((-1))] 17 (by kernel_rfl) ?_
 obtain rfl := Option.some.inj h
 exact s_ret rfl ⟨_, fin (vs := [I ((-1))]) rfl (absE (absorb_plain rfl) (absEN)) rfl (ou_f (ou_f (ou_n))), kl_n⟩
theorem slices_IndexFunc_impl_Event_impl_Event_w_impl_areEvents_1_good {G : Go.Ln.Ground} : Good Tryd.prog G 83 slices_IndexFunc_impl_Event_impl_Event_w_impl_areEvents_1_ent := good_T (fnOf_good (gl_c impl_areEvents_1_good (gl_n))) agree_mk (Checked.mixed Tryd.checked) Tryd.func83 (n := 2) (m := 0) ⟨rfl, rfl, by decide⟩ (fun _ => ⟨rfl, rfl⟩) (fun a r h => slices_IndexFunc_impl_Event_impl_Event_w_impl_areEvents_1_run a.1 a.2 r h)
def slices_ContainsFunc_impl_Event_impl_Event_w_impl_areEvents_1_A : ((List Event) × Int) → List V := cA (slE enc_Event) (oA (fun x : Int => (.fn 79 [.iptr (I x) 0] : V)))
def slices_ContainsFunc_impl_Event_impl_Event_w_impl_areEvents_1_R (r : Bool) : V × List V := (B (r), [])
noncomputable def slices_ContainsFunc_impl_Event_impl_Event_w_impl_areEvents_1_ent : Ent := entT [false, false] slices_ContainsFunc_impl_Event_impl_Event_w_impl_areEvents_1_A slices_ContainsFunc_impl_Event_impl_Event_w_impl_areEvents_1_R fun x => slices_ContainsFunc_impl_Event_impl_Event_w_impl_areEvents_1 x.1 x.2
theorem slices_ContainsFunc_impl_Event_impl_Event_w_impl_areEvents_1_F {s_1 : List Event} {f_2 : Int} {r} (h : slices_ContainsFunc_impl_Event_impl_Event_w_impl_areEvents_1 s_1 f_2 = some r) : (slices_ContainsFunc_impl_Event_impl_Event_w_impl_areEvents_1_ent).F (slices_ContainsFunc_impl_Event_impl_Event_w_impl_areEvents_1_A (s_1, f_2)) = some (slices_ContainsFunc_impl_Event_impl_Event_w_impl_areEvents_1_R r) := entT_F (cA_inj (isl_inj enc_Event_inj) (oA_inj (fn_inj1 I_inj))) h
noncomputable def slices_ContainsFunc_impl_Event_impl_Event_w_impl_areEvents_1_c : Code := bodyOf Tryd.f78
noncomputable def slices_ContainsFunc_impl_Event_impl_Event_w_impl_areEvents_1_E : Env := mkE Tryd.prog [(83, slices_IndexFunc_impl_Event_impl_Event_w_impl_areEvents_1_ent)]
def slices_ContainsFunc_impl_Event_impl_Event_w_impl_areEvents_1_Q (x : (List Event) × Int) (r : Bool) : St → Prop := QF slices_ContainsFunc_impl_Event_impl_Event_w_impl_areEvents_1_E Tryd.f78 [false, false] (slices_ContainsFunc_impl_Event_impl_Event_w_impl_areEvents_1_A x) (slices_ContainsFunc_impl_Event_impl_Event_w_impl_areEvents_1_R r)
theorem slices_ContainsFunc_impl_Event_impl_Event_w_impl_areEvents_1_run (s_1 : List Event) (f_2 : Int) (r : Bool) (h : slices_ContainsFunc_impl_Event_impl_Event_w_impl_areEvents_1 s_1 f_2 = some r) : RunF slices_ContainsFunc_impl_Event_impl_Event_w_impl_areEvents_1_E Tryd.f78 [false, false] 0 (slices_ContainsFunc_impl_Event_impl_Event_w_impl_areEvents_1_A (s_1, f_2)) (slices_ContainsFunc_impl_Event_impl_Event_w_impl_areEvents_1_R r) := by
 show Run _ _ (slices_ContainsFunc_impl_Event_impl_Event_w_impl_areEvents_1_Q (s_1, f_2) r) [.code slices_ContainsFunc_impl_Event_impl_Event_w_impl_areEvents_1_c] _
 refine rin (n := 9) [(0, .isl false ((s_1).map enc_Event)), (1, .fn 79 [.iptr (I (f_2)) 0])] [] 1 (by kernel_rfl) (by kernel_rfl) (by kernel_rfl) rfl ?_
 unfold slices_ContainsFunc_impl_Event_impl_Event_w_impl_areEvents_1 at h
 refine c0 8 [5, 6] [.isl false ((s_1).map enc_Event), .fn 79 [.iptr (I (f_2)) 0]] 49 (by kernel_rfl) ?_
 obtain ⟨r3, hr3, h⟩ := bS h
 refine o 65 (I (r3)) rfl rfl (e_callV rfl rfl (call_P rfl rfl rfl (avS (shP rfl) (avS (shF (shC (sh_p rfl) (shN))) (avN))) (slices_IndexFunc_impl_Event_impl_Event_w_impl_areEvents_1_F hr3) (.inr rfl) (bl_n) rfl rfl rfl)) ?_
 refine c0 3 [4] [B ((decide (r3 ≥ 0)))] 97 (by kernel_rfl) ?_
 obtain rfl := Option.some.inj h
 exact s_ret rfl ⟨_, fin (vs := [B ((decide (r3 ≥ 0)))]) rfl (absE (absorb_plain rfl) (absEN)) rfl (ou_f (ou_f (ou_n))), kl_n⟩
theorem slices_ContainsFunc_impl_Event_impl_Event_w_impl_areEvents_1_good {G : Go.Ln.Ground} : Good Tryd.prog G 78 slices_ContainsFunc_impl_Event_impl_Event_w_impl_areEvents_1_ent := good_T (fnOf_good (gl_c slices_IndexFunc_impl_Event_impl_Event_w_impl_areEvents_1_good (gl_n))) agree_mk (Checked.mixed Tryd.checked) Tryd.func78 (n := 2) (m := 0) ⟨rfl, rfl, by decide⟩ (fun _ => ⟨rfl, rfl⟩) (fun a r h => slices_ContainsFunc_impl_Event_impl_Event_w_impl_areEvents_1_run a.1 a.2 r h)
def impl_areEvents_A : ((List Event) × Int) → List V := cA (slE enc_Event) (oA I)
def impl_areEvents_R (r : Bool) : V × List V := (B (r), [])
noncomputable def impl_areEvents_ent : Ent := entT [false, false] impl_areEvents_A impl_areEvents_R fun x => impl_areEvents x.1 x.2
theorem impl_areEvents_F {list_1 : List Event} {parties_2 : Int} {r} (h : impl_areEvents list_1 parties_2 = some r) : (impl_areEvents_ent).F (impl_areEvents_A (list_1, parties_2)) = some (impl_areEvents_R r) := entT_F (cA_inj (isl_inj enc_Event_inj) (oA_inj I_inj)) h
noncomputable def impl_areEvents_c : Code := bodyOf Tryd.f50
noncomputable def impl_areEvents_E : Env := mkE Tryd.prog [(55, impl_within_ent), (78, slices_ContainsFunc_impl_Event_impl_Event_w_impl_areEvents_1_ent)]
def impl_areEvents_Q (x : (List Event) × Int) (r : Bool) : St → Prop := QF impl_areEvents_E Tryd.f50 [false, false] (impl_areEvents_A x) (impl_areEvents_R r)
theorem impl_areEvents_run (list_1 : List Event) (parties_2 : Int) (r : Bool) (h : impl_areEvents list_1 parties_2 = some r) : RunF impl_areEvents_E Tryd.f50 [false, false] 0 (impl_areEvents_A (list_1, parties_2)) (impl_areEvents_R r) := by
 show Run _ _ (impl_areEvents_Q (list_1, parties_2) r) [.code impl_areEvents_c] _
 refine rin (n := 18) [(0, .isl false ((list_1).map enc_Event)), (1, I (parties_2))] [] 1 (by kernel_rfl) (by kernel_rfl) (by kernel_rfl) rfl ?_
 unfold impl_areEvents at h
 refine ck 8 [3, 5] [] [1] [] [.hp 1 0 [] 1 0 0, I (parties_2)] [some ⟨0, 1, [I (parties_2)]⟩] 49 (by kernel_rfl) ?_
 obtain ⟨r3, hr3, h⟩ := bS h
 refine o 65 (B (r3)) rfl rfl (e_callV rfl rfl (call_P rfl rfl rfl (avS (shP rfl) (avS (shP rfl) (avS (shP rfl) (avN)))) (impl_within_F hr3) (.inr rfl) (bl_n) rfl rfl rfl)) ?_
 refine c0 1 [7] [B (r3)] 81 (by kernel_rfl) ?_
 obtain ⟨y4, hy4, hy41, hy42⟩ := bJ h
 have j4 : ∀ u4, y4 = .inr u4 → Run impl_areEvents_E 0 (impl_areEvents_Q (list_1, parties_2) r) (.code (cR (cR impl_areEvents_c)) :: []) ⟨mkTm .dead 18 [(4, B (u4))], mkS (rtL [] 1), 1⟩ := by
   intro u4 hu
   replace h := hy42 u4 hu
   obtain rfl := Option.some.inj h
   exact s_ret rfl ⟨_, fin (vs := [B (u4)]) rfl (absE (absorb_plain rfl) (absEN)) rfl (ou_f (ou_f (ou_n))), kl_n⟩
 have r4 : ∀ r', y4 = .inl r' → ∀ st, impl_areEvents_Q (list_1, parties_2) r' st → (impl_areEvents_Q (list_1, parties_2) r) st := fun r' e st hq => by rw [hy41 r' e] at hq; exact hq
 replace h := hy4
 refine sp 7 h rfl (fun h => ?_) (fun h => ?_)
 · refine c0 1 [8] [.isl false ((list_1).map enc_Event)] 97 (by kernel_rfl) ?_
   refine og 113 (I ((len list_1))) rfl rfl rfl rfl (e_len rfl rfl rfl (l_isl rfl)) ?_
   refine c0 3 [12] [B ((decide ((len list_1) ≤ 40)))] 161 (by kernel_rfl) ?_
   obtain ⟨y5, hy5, hy51, hy52⟩ := bL h
   have j5 : ∀ u5, y5 = .inr u5 → Run impl_areEvents_E 0 (impl_areEvents_Q (list_1, parties_2) r) (.code (cR (cR impl_areEvents_c)) :: []) ⟨mkTm .dead 18 [(4, B (u5))], mkS (rtL [] 1), 1⟩ := by
     intro u5 hu
     replace h := hy52 u5 hu
     refine run_forget [4] [] [] rfl rfl rfl rfl ?_
     exact j4 _ (Option.some.inj h).symm
   have r5 : ∀ r', y5 = .inl r' → ∀ st, impl_areEvents_Q (list_1, parties_2) r' st → (impl_areEvents_Q (list_1, parties_2) r) st := fun r' e st hq => r4 r' (hy51 r' e) st hq
   replace h := hy5
   refine sp 12 h rfl (fun h => ?_) (fun h => ?_)
   · refine c0 2 [13, 14] [.isl false ((list_1).map enc_Event), .fn 79 [.hp 1 0 [] 1 0 0]] 193 (by kernel_rfl) ?_
     obtain ⟨r6, hr6, h⟩ := bS h
     refine og 209 (B (r6)) rfl rfl rfl rfl (e_callV rfl rfl (call_P rfl rfl rfl (avS (shP rfl) (avS (shF (shC (shp_at (path := []) rfl rfl (ra_n) rfl (rfl)) (shN))) (avN))) (slices_ContainsFunc_impl_Event_impl_Event_w_impl_areEvents_1_F hr6) (.inl (rfl)) (bl_n) rfl rfl rfl)) ?_
     refine c0 4 [4] [B ((!r6))] 257 (by kernel_rfl) ?_
     refine run_forget [4] [] [] rfl rfl rfl rfl ?_
     exact j5 _ (Option.some.inj h).symm
   · refine c0 7 [4] [B (false)] 257 (by kernel_rfl) ?_
     refine run_forget [4] [] [] rfl rfl rfl rfl ?_
     exact j5 _ (Option.some.inj h).symm
 · refine c0 12 [4] [B (false)] 257 (by kernel_rfl) ?_
   refine run_forget [4] [] [] rfl rfl rfl rfl ?_
   exact j4 _ (Option.some.inj h).symm
theorem impl_areEvents_good {G : Go.Ln.Ground} : Good Tryd.prog G 50 impl_areEvents_ent := good_T (fnOf_good (gl_c impl_within_good (gl_c slices_ContainsFunc_impl_Event_impl_Event_w_impl_areEvents_1_good (gl_n)))) agree_mk (Checked.mixed Tryd.checked) Tryd.func50 (n := 2) (m := 0) ⟨rfl, rfl, by decide⟩ (fun _ => ⟨rfl, rfl⟩) (fun a r h => impl_areEvents_run a.1 a.2 r h)
def cmp_isNaN_int_A : Int → List V := oA I
def cmp_isNaN_int_R (r : Bool) : V × List V := (B (r), [])
noncomputable def cmp_isNaN_int_ent : Ent := entT [false] cmp_isNaN_int_A cmp_isNaN_int_R fun x => cmp_isNaN_int x
theorem cmp_isNaN_int_F {x_1 : Int} {r} (h : cmp_isNaN_int x_1 = some r) : (cmp_isNaN_int_ent).F (cmp_isNaN_int_A x_1) = some (cmp_isNaN_int_R r) := entT_F (oA_inj I_inj) h
noncomputable def cmp_isNaN_int_c : Code := bodyOf Tryd.f102
noncomputable def cmp_isNaN_int_E : Env := mkE Tryd.prog []
def cmp_isNaN_int_Q (x : Int) (r : Bool) : St → Prop := QF cmp_isNaN_int_E Tryd.f102 [false] (cmp_isNaN_int_A x) (cmp_isNaN_int_R r)
theorem cmp_isNaN_int_run (x_1 : Int) (r : Bool) (h : cmp_isNaN_int x_1 = some r) : RunF cmp_isNaN_int_E Tryd.f102 [false] 0 (cmp_isNaN_int_A x_1) (cmp_isNaN_int_R r) := by
 show Run _ _ (cmp_isNaN_int_Q x_1 r) [.code cmp_isNaN_int_c] _
 refine rin (n := 6) [(0, I (x_1))] [] 1 (by kernel_rfl) (by kernel_rfl) (by kernel_rfl) rfl ?_
 unfold cmp_isNaN_int at h
 refine c0 11 [2] [B ((x_1 != x_1))] 81 (by kernel_rfl) ?_
 obtain rfl := Option.some.inj h
 exact s_ret rfl ⟨_, fin (vs := [B ((x_1 != x_1))]) rfl (absE (absorb_plain rfl) (absEN)) rfl (ou_f (ou_n)), kl_n⟩
theorem cmp_isNaN_int_good {G : Go.Ln.Ground} : Good Tryd.prog G 102 cmp_isNaN_int_ent := good_T (fnOf_good (gl_n)) agree_mk (Checked.mixed Tryd.checked) Tryd.func102 (n := 1) (m := 0) ⟨rfl, rfl, by decide⟩ (fun _ => ⟨rfl, rfl⟩) (fun a r h => cmp_isNaN_int_run a r h)
def cmp_Compare_int_A : (Int × Int) → List V := cA I (oA I)
def cmp_Compare_int_R (r : Int) : V × List V := (I (r), [])
noncomputable def cmp_Compare_int_ent : Ent := entT [false, false] cmp_Compare_int_A cmp_Compare_int_R fun x => cmp_Compare_int x.1 x.2
theorem cmp_Compare_int_F {x_1 : Int} {y_2 : Int} {r} (h : cmp_Compare_int x_1 y_2 = some r) : (cmp_Compare_int_ent).F (cmp_Compare_int_A (x_1, y_2)) = some (cmp_Compare_int_R r) := entT_F (cA_inj I_inj (oA_inj I_inj)) h
noncomputable def cmp_Compare_int_c : Code := bodyOf Tryd.f81
noncomputable def cmp_Compare_int_E : Env := mkE Tryd.prog [(102, cmp_isNaN_int_ent)]
def cmp_Compare_int_Q (x : Int × Int) (r : Int) : St → Prop := QF cmp_Compare_int_E Tryd.f81 [false, false] (cmp_Compare_int_A x) (cmp_Compare_int_R r)
theorem cmp_Compare_int_run (x_1 : Int) (y_2 : Int) (r : Int) (h : cmp_Compare_int x_1 y_2 = some r) : RunF cmp_Compare_int_E Tryd.f81 [false, false] 0 (cmp_Compare_int_A (x_1, y_2)) (cmp_Compare_int_R r) := by
 show Run _ _ (cmp_Compare_int_Q (x_1, y_2) r) [.code cmp_Compare_int_c] _
 refine rin (n := 20) [(0, I (x_1)), (1, I (y_2))] [] 1 (by kernel_rfl) (by kernel_rfl) (by kernel_rfl) rfl ?_
 unfold cmp_Compare_int at h
 refine c0 7 [7] [I (x_1)] 33 (by kernel_rfl) ?_
 obtain ⟨r3, hr3, h⟩ := bS h
 refine o 49 (B (r3)) rfl rfl (e_callV rfl rfl (call_P rfl rfl rfl (avS (shP rfl) (avN)) (cmp_isNaN_int_F hr3) (.inr rfl) (bl_n) rfl rfl rfl)) ?_
 refine c0 5 [5, 9] [B (r3), I (y_2)] 81 (by kernel_rfl) ?_
 obtain ⟨r4, hr4, h⟩ := bS h
 refine o 97 (B (r4)) rfl rfl (e_callV rfl rfl (call_P rfl rfl rfl (avS (shP rfl) (avN)) (cmp_isNaN_int_F hr4) (.inr rfl) (bl_n) rfl rfl rfl)) ?_
 refine c0 7 [6, 11] [B (r4), B (r3)] 129 (by kernel_rfl) ?_
 refine sc h rfl rfl (fun h => ?_) (fun h => ?_)
 · refine c0 5 [12] [B (r4)] 145 (by kernel_rfl) ?_
   refine sc h rfl rfl (fun h => ?_) (fun h => ?_)
   · refine c0 4 [4] [I (0)] 161 (by kernel_rfl) ?_
     obtain rfl := Option.some.inj h
     exact s_ret rfl ⟨_, fin (vs := [I (0)]) rfl (absE (absorb_plain rfl) (absEN)) rfl (ou_f (ou_f (ou_n))), kl_n⟩
   · refine ad 1 rfl ?_
     refine c0 4 [4] [I ((-1))] 161 (by kernel_rfl) ?_
     obtain rfl := Option.some.inj h
     exact s_ret rfl ⟨_, fin (vs := [I ((-1))]) rfl (absE (absorb_plain rfl) (absEN)) rfl (ou_f (ou_f (ou_n))), kl_n⟩
 · refine ad 1 rfl ?_
   refine c0 5 [13] [B (r4)] 145 (by kernel_rfl) ?_
   refine sc h rfl rfl (fun h => ?_) (fun h => ?_)
   · refine c0 4 [4] [I (1)] 161 (by kernel_rfl) ?_
     obtain rfl := Option.some.inj h
     exact s_ret rfl ⟨_, fin (vs := [I (1)]) rfl (absE (absorb_plain rfl) (absEN)) rfl (ou_f (ou_f (ou_n))), kl_n⟩
   · refine ad 1 rfl ?_
     refine c0 7 [16] [B ((decide (x_1 < y_2)))] 193 (by kernel_rfl) ?_
     refine sc h rfl rfl (fun h => ?_) (fun h => ?_)
     · refine c0 4 [4] [I ((-1))] 209 (by kernel_rfl) ?_
       obtain rfl := Option.some.inj h
       exact s_ret rfl ⟨_, fin (vs := [I ((-1))]) rfl (absE (absorb_plain rfl) (absEN)) rfl (ou_f (ou_f (ou_n))), kl_n⟩
     · refine ad 1 rfl ?_
       refine c0 7 [19] [B ((decide (x_1 > y_2)))] 241 (by kernel_rfl) ?_
       refine sc h rfl rfl (fun h => ?_) (fun h => ?_)
       · refine c0 4 [4] [I (1)] 257 (by kernel_rfl) ?_
         obtain rfl := Option.some.inj h
         exact s_ret rfl ⟨_, fin (vs := [I (1)]) rfl (absE (absorb_plain rfl) (absEN)) rfl (ou_f (ou_f (ou_n))), kl_n⟩
       · refine ad 1 rfl ?_
         refine c0 4 [4] [I (0)] 257 (by kernel_rfl) ?_
         obtain rfl := Option.some.inj h
         exact s_ret rfl ⟨_, fin (vs := [I (0)]) rfl (absE (absorb_plain rfl) (absEN)) rfl (ou_f (ou_f (ou_n))), kl_n⟩
theorem cmp_Compare_int_good {G : Go.Ln.Ground} : Good Tryd.prog G 81 cmp_Compare_int_ent := good_T (fnOf_good (gl_c cmp_isNaN_int_good (gl_n))) agree_mk (Checked.mixed Tryd.checked) Tryd.func81 (n := 2) (m := 0) ⟨rfl, rfl, by decide⟩ (fun _ => ⟨rfl, rfl⟩) (fun a r h => cmp_Compare_int_run a.1 a.2 r h)
def cmp_isNaN_string_A : Str → List V := oA str
def cmp_isNaN_string_R (r : Bool) : V × List V := (B (r), [])
noncomputable def cmp_isNaN_string_ent : Ent := entT [false] cmp_isNaN_string_A cmp_isNaN_string_R fun x => cmp_isNaN_string x
theorem cmp_isNaN_string_F {x_1 : Str} {r} (h : cmp_isNaN_string x_1 = some r) : (cmp_isNaN_string_ent).F (cmp_isNaN_string_A x_1) = some (cmp_isNaN_string_R r) := entT_F (oA_inj str_inj) h
noncomputable def cmp_isNaN_string_c : Code := bodyOf Tryd.f103
noncomputable def cmp_isNaN_string_E : Env := mkE Tryd.prog []
def cmp_isNaN_string_Q (x : Str) (r : Bool) : St → Prop := QF cmp_isNaN_string_E Tryd.f103 [false] (cmp_isNaN_string_A x) (cmp_isNaN_string_R r)
theorem cmp_isNaN_string_run (x_1 : Str) (r : Bool) (h : cmp_isNaN_string x_1 = some r) : RunF cmp_isNaN_string_E Tryd.f103 [false] 0 (cmp_isNaN_string_A x_1) (cmp_isNaN_string_R r) := by
 show Run _ _ (cmp_isNaN_string_Q x_1 r) [.code cmp_isNaN_string_c] _
 refine rin (n := 6) [(0, str (x_1))] [] 1 (by kernel_rfl) (by kernel_rfl) (by kernel_rfl) rfl ?_
 unfold cmp_isNaN_string at h
 refine c0 11 [2] [B ((!(x_1 == x_1)))] 81 (by kernel_rfl) ?_
 obtain rfl := Option.some.inj h
 exact s_ret rfl ⟨_, fin (vs := [B ((!(x_1 == x_1)))]) rfl (absE (absorb_plain rfl) (absEN)) rfl (ou_f (ou_n)), kl_n⟩
theorem cmp_isNaN_string_good {G : Go.Ln.Ground} : Good Tryd.prog G 103 cmp_isNaN_string_ent := good_T (fnOf_good (gl_n)) agree_mk (Checked.mixed Tryd.checked) Tryd.func103 (n := 1) (m := 0) ⟨rfl, rfl, by decide⟩ (fun _ => ⟨rfl, rfl⟩) (fun a r h => cmp_isNaN_string_run a r h)
def cmp_Compare_string_A : (Str × Str) → List V := cA str (oA str)
def cmp_Compare_string_R (r : Int) : V × List V := (I (r), [])
noncomputable def cmp_Compare_string_ent : Ent := entT [false, false] cmp_Compare_string_A cmp_Compare_string_R fun x => cmp_Compare_string x.1 x.2
theorem cmp_Compare_string_F {x_1 : Str} {y_2 : Str} {r} (h : cmp_Compare_string x_1 y_2 = some r) : (cmp_Compare_string_ent).F (cmp_Compare_string_A (x_1, y_2)) = some (cmp_Compare_string_R r) := entT_F (cA_inj str_inj (oA_inj str_inj)) h
noncomputable def cmp_Compare_string_c : Code := bodyOf Tryd.f82
noncomputable def cmp_Compare_string_E : Env := mkE Tryd.prog [(103, cmp_isNaN_string_ent)]
def cmp_Compare_string_Q (x : Str × Str) (r : Int) : St → Prop := QF cmp_Compare_string_E Tryd.f82 [false, false] (cmp_Compare_string_A x) (cmp_Compare_string_R r)
theorem cmp_Compare_string_run (x_1 : Str) (y_2 : Str) (r : Int) (h : cmp_Compare_string x_1 y_2 = some r) : RunF cmp_Compare_string_E Tryd.f82 [false, false] 0 (cmp_Compare_string_A (x_1, y_2)) (cmp_Compare_string_R r) := by
 show Run _ _ (cmp_Compare_string_Q (x_1, y_2) r) [.code cmp_Compare_string_c] _
 refine rin (n := 20) [(0, str (x_1)), (1, str (y_2))] [] 1 (by kernel_rfl) (by kernel_rfl) (by kernel_rfl) rfl ?_
 unfold cmp_Compare_string at h
 refine c0 7 [7] [str (x_1)] 33 (by kernel_rfl) ?_
 obtain ⟨r3, hr3, h⟩ := bS h
 refine o 49 (B (r3)) rfl rfl (e_callV rfl rfl (call_P rfl rfl rfl (avS (shP rfl) (avN)) (cmp_isNaN_string_F hr3) (.inr rfl) (bl_n) rfl rfl rfl)) ?_
 refine c0 5 [5, 9] [B (r3), str (y_2)] 81 (by kernel_rfl) ?_
 obtain ⟨r4, hr4, h⟩ := bS h
 refine o 97 (B (r4)) rfl rfl (e_callV rfl rfl (call_P rfl rfl rfl (avS (shP rfl) (avN)) (cmp_isNaN_string_F hr4) (.inr rfl) (bl_n) rfl rfl rfl)) ?_
 refine c0 7 [6, 11] [B (r4), B (r3)] 129 (by kernel_rfl) ?_
 refine sc h rfl rfl (fun h => ?_) (fun h => ?_)
 · refine c0 5 [12] [B (r4)] 145 (by kernel_rfl) ?_
   refine sc h rfl rfl (fun h => ?_) (fun h => ?_)
   · refine c0 4 [4] [I (0)] 161 (by kernel_rfl) ?_
     obtain rfl := Option.some.inj h
     exact s_ret rfl ⟨_, fin (vs := [I (0)]) rfl (absE (absorb_plain rfl) (absEN)) rfl (ou_f (ou_f (ou_n))), kl_n⟩
   · refine ad 1 rfl ?_
     refine c0 4 [4] [I ((-1))] 161 (by kernel_rfl) ?_
     obtain rfl := Option.some.inj h
     exact s_ret rfl ⟨_, fin (vs := [I ((-1))]) rfl (absE (absorb_plain rfl) (absEN)) rfl (ou_f (ou_f (ou_n))), kl_n⟩
 · refine ad 1 rfl ?_
   refine c0 5 [13] [B (r4)] 145 (by kernel_rfl) ?_
   refine sc h rfl rfl (fun h => ?_) (fun h => ?_)
   · refine c0 4 [4] [I (1)] 161 (by kernel_rfl) ?_
     obtain rfl := Option.some.inj h
     exact s_ret rfl ⟨_, fin (vs := [I (1)]) rfl (absE (absorb_plain rfl) (absEN)) rfl (ou_f (ou_f (ou_n))), kl_n⟩
   · refine ad 1 rfl ?_
     refine c0 7 [16] [B ((Op.bytesLess x_1 y_2))] 193 (by kernel_rfl) ?_
     refine sc h rfl rfl (fun h => ?_) (fun h => ?_)
     · refine c0 4 [4] [I ((-1))] 209 (by kernel_rfl) ?_
       obtain rfl := Option.some.inj h
       exact s_ret rfl ⟨_, fin (vs := [I ((-1))]) rfl (absE (absorb_plain rfl) (absEN)) rfl (ou_f (ou_f (ou_n))), kl_n⟩
     · refine ad 1 rfl ?_
       refine c0 7 [19] [B ((!(Op.bytesLess x_1 y_2 || x_1 == y_2)))] 241 (by kernel_rfl) ?_
       refine sc h rfl rfl (fun h => ?_) (fun h => ?_)
       · refine c0 4 [4] [I (1)] 257 (by kernel_rfl) ?_
         obtain rfl := Option.some.inj h
         exact s_ret rfl ⟨_, fin (vs := [I (1)]) rfl (absE (absorb_plain rfl) (absEN)) rfl (ou_f (ou_f (ou_n))), kl_n⟩
       · refine ad 1 rfl ?_
         refine c0 4 [4] [I (0)] 257 (by kernel_rfl) ?_
         obtain rfl := Option.some.inj h
         exact s_ret rfl ⟨_, fin (vs := [I (0)]) rfl (absE (absorb_plain rfl) (absEN)) rfl (ou_f (ou_f (ou_n))), kl_n⟩
theorem cmp_Compare_string_good {G : Go.Ln.Ground} : Good Tryd.prog G 82 cmp_Compare_string_ent := good_T (fnOf_good (gl_c cmp_isNaN_string_good (gl_n))) agree_mk (Checked.mixed Tryd.checked) Tryd.func82 (n := 2) (m := 0) ⟨rfl, rfl, by decide⟩ (fun _ => ⟨rfl, rfl⟩) (fun a r h => cmp_Compare_string_run a.1 a.2 r h)
def cmp_Or_int_A : ((List Int)) → List V := oA (slE I)
def cmp_Or_int_R (r : Int) : V × List V := (I (r), [])
noncomputable def cmp_Or_int_ent : Ent := entT [false] cmp_Or_int_A cmp_Or_int_R fun x => cmp_Or_int x
theorem cmp_Or_int_F {vals_1 : List Int} {r} (h : cmp_Or_int vals_1 = some r) : (cmp_Or_int_ent).F (cmp_Or_int_A vals_1) = some (cmp_Or_int_R r) := entT_F (oA_inj (isl_inj I_inj)) h
noncomputable def cmp_Or_int_c : Code := bodyOf Tryd.f80
noncomputable def cmp_Or_int_E : Env := mkE Tryd.prog []
def cmp_Or_int_Q (x : (List Int)) (r : Int) : St → Prop := QF cmp_Or_int_E Tryd.f80 [false] (cmp_Or_int_A x) (cmp_Or_int_R r)
theorem cmp_Or_int_la_run (vals_1 : List Int)  {Q : St → Prop} {K : List It} (hK : noD K = true) {x2 : Int} {y : Int ⊕ Unit} (h : cmp_Or_int_la vals_1 x2 = some y) : (∀ r', y = .inl r' → ∀ st, cmp_Or_int_Q vals_1 r' st → Q st) → (∀ u : Unit, y = .inr u → Run cmp_Or_int_E 0 Q K ⟨mkTm .dead 18 [(3, I (0))], mkS (rtL [] 1), 1⟩) → Run cmp_Or_int_E 0 Q (.code (cL (cL (cR (cL (cR (cR cmp_Or_int_c)))))) :: .lp (cL (cL (cR (cL (cR (cR cmp_Or_int_c)))))) :: .blk 0 :: K) ⟨mkTm .dead 18 [(3, I (0)), (6, .isl false ((vals_1).map I)), (7, I ((len vals_1))), (8, I (x2))], mkS (rtL [] 1), 1⟩ := by
 refine fix_ind (P := fun (x2 : Int) (y : Int ⊕ Unit) => (∀ r', y = .inl r' → ∀ st, cmp_Or_int_Q vals_1 r' st → Q st) → (∀ u : Unit, y = .inr u → Run cmp_Or_int_E 0 Q K ⟨mkTm .dead 18 [(3, I (0))], mkS (rtL [] 1), 1⟩) → Run cmp_Or_int_E 0 Q (.code (cL (cL (cR (cL (cR (cR cmp_Or_int_c)))))) :: .lp (cL (cL (cR (cL (cR (cR cmp_Or_int_c)))))) :: .blk 0 :: K) ⟨mkTm .dead 18 [(3, I (0)), (6, .isl false ((vals_1).map I)), (7, I ((len vals_1))), (8, I (x2))], mkS (rtL [] 1), 1⟩) (cmp_Or_int_la_fin vals_1) ?_ h
 clear h y x2
 intro self ih x2 y h hr hn
 unfold cmp_Or_int_la_F at h
 refine c0 5 [9] [B ((decide (x2 < (len vals_1))))] 17 (by kernel_rfl) ?_
 refine sc h rfl rfl (fun h => ?_) (fun h => ?_)
 · refine ad 1 rfl ?_
   refine ad 4 rfl ?_
   obtain ⟨e3, he3, h⟩ := bS h
   refine o 33 (.iptr (I (e3)) 0) rfl rfl (e_indexAddr rfl rfl rfl (ix_islE rfl rfl rfl rfl he3)) ?_
   refine c0 9 [5, 14] [I (e3), B ((e3 != 0))] 113 (by kernel_rfl) ?_
   refine sc h rfl rfl (fun h => ?_) (fun h => ?_)
   · refine c0 5 [2] [I (e3)] 145 (by kernel_rfl) ?_
     exact s_ret rfl (hr _ (Option.some.inj h).symm _ ⟨_, fin (vs := [I (e3)]) rfl (absE (absorb_plain rfl) (absEN)) rfl (ou_f (ou_n)), kl_n⟩)
   · refine ad 1 rfl ?_
     refine c0 5 [8] [I ((w64 (x2 + 1)))] 145 (by kernel_rfl) ?_
     refine s_lp ?_
     refine run_forget [3, 6, 7, 8] [] [] rfl rfl rfl rfl ?_
     exact ih _ _ h hr hn
 · refine ad 1 rfl ?_
   refine run_forget [3] [] [] rfl rfl rfl hK ?_
   exact hn _ (Option.some.inj h).symm
theorem cmp_Or_int_run (vals_1 : List Int) (r : Int) (h : cmp_Or_int vals_1 = some r) : RunF cmp_Or_int_E Tryd.f80 [false] 0 (cmp_Or_int_A vals_1) (cmp_Or_int_R r) := by
 show Run _ _ (cmp_Or_int_Q vals_1 r) [.code cmp_Or_int_c] _
 refine rin (n := 18) [(0, .isl false ((vals_1).map I))] [] 1 (by kernel_rfl) (by kernel_rfl) (by kernel_rfl) rfl ?_
 unfold cmp_Or_int at h
 refine c0 12 [3, 6] [I (0), .isl false ((vals_1).map I)] 49 (by kernel_rfl) ?_
 refine o 65 (I ((len vals_1))) rfl rfl (e_len rfl rfl rfl (l_isl rfl)) ?_
 refine c0 3 [8] [I (0)] 81 (by kernel_rfl) ?_
 obtain ⟨y4, hy4, hy41, hy42⟩ := bJ h
 refine s_loop rfl ?_
 refine run_forget [3, 6, 7, 8] [] [] rfl rfl rfl rfl ?_
 refine cmp_Or_int_la_run vals_1 rfl hy4 (fun r' e st hq => by rw [hy41 r' e] at hq; exact hq) (fun u4 hu => ?_)
 replace h := hy42 u4 hu
 refine c0 5 [2] [I (0)] 33 (by kernel_rfl) ?_
 obtain rfl := Option.some.inj h
 exact s_ret rfl ⟨_, fin (vs := [I (0)]) rfl (absE (absorb_plain rfl) (absEN)) rfl (ou_f (ou_n)), kl_n⟩
theorem cmp_Or_int_good {G : Go.Ln.Ground} : Good Tryd.prog G 80 cmp_Or_int_ent := good_T (fnOf_good (gl_n)) agree_mk (Checked.mixed Tryd.checked) Tryd.func80 (n := 1) (m := 0) ⟨rfl, rfl, by decide⟩ (fun _ => ⟨rfl, rfl⟩) (fun a r h => cmp_Or_int_run a r h)
def impl_CompareEvents_A : (Event × Event) → List V := cA enc_Event (oA enc_Event)
def impl_CompareEvents_R (r : Int) : V × List V := (I (r), [])
noncomputable def impl_CompareEvents_ent : Ent := entT [false, false] impl_CompareEvents_A impl_CompareEvents_R fun x => impl_CompareEvents x.1 x.2
theorem impl_CompareEvents_F {a_1 : Event} {b_2 : Event} {r} (h : impl_CompareEvents a_1 b_2 = some r) : (impl_CompareEvents_ent).F (impl_CompareEvents_A (a_1, b_2)) = some (impl_CompareEvents_R r) := entT_F (cA_inj enc_Event_inj (oA_inj enc_Event_inj)) h
noncomputable def impl_CompareEvents_c : Code := bodyOf Tryd.f52
noncomputable def impl_CompareEvents_E : Env := mkE Tryd.prog [(81, cmp_Compare_int_ent), (82, cmp_Compare_string_ent), (80, cmp_Or_int_ent)]
def impl_CompareEvents_Q (x : Event × Event) (r : Int) : St → Prop := QF impl_CompareEvents_E Tryd.f52 [false, false] (impl_CompareEvents_A x) (impl_CompareEvents_R r)
theorem impl_CompareEvents_run (a_1 : Event) (b_2 : Event) (r : Int) (h : impl_CompareEvents a_1 b_2 = some r) : RunF impl_CompareEvents_E Tryd.f52 [false, false] 0 (impl_CompareEvents_A (a_1, b_2)) (impl_CompareEvents_R r) := by
 show Run _ _ (impl_CompareEvents_Q (a_1, b_2) r) [.code impl_CompareEvents_c] _
 refine rin (n := 27) [(0, enc_Event a_1), (1, enc_Event b_2)] [] 1 (by kernel_rfl) (by kernel_rfl) (by kernel_rfl) rfl ?_
 unfold impl_CompareEvents at h
 refine ck 7 [2, 3] [] [1, 17] [] [.hp 1 0 [] 4 0 0, .hp 17 0 [] 4 0 0] [some ⟨0, 4, [enc_Event a_1]⟩, some ⟨0, 4, [enc_Event b_2]⟩] 49 (by kernel_rfl) ?_
 refine s_draw [0, 1, 0, 4, 15, 0, 32, 0, 128, 511, 0, 1024, 0, 4096, 16383, 0, 32768, 0, 131072, 524287, 1048575, 2097151, 4194303] rfl (by decide +kernel) ?_
 refine dp [1] [] (.hp 1 0 [] 4 0 0) rfl (e_fieldAddr rfl rfl rfl) rfl (rfl) (by decide) ?_
 refine dp [1] [] (I (a_1.Day)) rfl (e_ld rfl rfl) rfl (rfl) (by decide) ?_
 refine dp [17] [] (.hp 17 0 [] 4 0 0) rfl (e_fieldAddr rfl rfl rfl) rfl (rfl) (by decide) ?_
 refine dp [17] [] (I (b_2.Day)) rfl (e_ld rfl rfl) rfl (rfl) (by decide) ?_
 obtain ⟨r3, hr3, h⟩ := bS h
 refine dp [] [] (I (r3)) rfl (e_callV rfl rfl (call_P rfl rfl rfl (avS (shP rfl) (avS (shP rfl) (avN))) (cmp_Compare_int_F hr3) (.inr rfl) (bl_n) rfl rfl rfl)) rfl (w_callO rfl rfl rfl rfl (avS (shP rfl) (avS (shP rfl) (avN))) (cmp_Compare_int_F hr3) (.inr rfl) rfl) (by decide) ?_
 refine dp [1] [] (.hp 1 0 [] 4 0 1) rfl (e_fieldAddr rfl rfl rfl) rfl (rfl) (by decide) ?_
 refine dp [1] [] (I (a_1.Party)) rfl (e_ld rfl rfl) rfl (rfl) (by decide) ?_
 refine dp [17] [] (.hp 17 0 [] 4 0 1) rfl (e_fieldAddr rfl rfl rfl) rfl (rfl) (by decide) ?_
 refine dp [17] [] (I (b_2.Party)) rfl (e_ld rfl rfl) rfl (rfl) (by decide) ?_
 obtain ⟨r4, hr4, h⟩ := bS h
 refine dp [] [] (I (r4)) rfl (e_callV rfl rfl (call_P rfl rfl rfl (avS (shP rfl) (avS (shP rfl) (avN))) (cmp_Compare_int_F hr4) (.inr rfl) (bl_n) rfl rfl rfl)) rfl (w_callO rfl rfl rfl rfl (avS (shP rfl) (avS (shP rfl) (avN))) (cmp_Compare_int_F hr4) (.inr rfl) rfl) (by decide) ?_
 refine dp [1] [] (.hp 1 0 [] 4 0 2) rfl (e_fieldAddr rfl rfl rfl) rfl (rfl) (by decide) ?_
 refine dp [1] [] (str (a_1.Action)) rfl (e_ld rfl rfl) rfl (rfl) (by decide) ?_
 refine dp [17] [] (.hp 17 0 [] 4 0 2) rfl (e_fieldAddr rfl rfl rfl) rfl (rfl) (by decide) ?_
 refine dp [17] [] (str (b_2.Action)) rfl (e_ld rfl rfl) rfl (rfl) (by decide) ?_
 obtain ⟨r5, hr5, h⟩ := bS h
 refine dp [] [] (I (r5)) rfl (e_callV rfl rfl (call_P rfl rfl rfl (avS (shP rfl) (avS (shP rfl) (avN))) (cmp_Compare_string_F hr5) (.inr rfl) (bl_n) rfl rfl rfl)) rfl (w_callO rfl rfl rfl rfl (avS (shP rfl) (avS (shP rfl) (avN))) (cmp_Compare_string_F hr5) (.inr rfl) rfl) (by decide) ?_
 refine dp [1] [] (.hp 1 0 [] 4 0 3) rfl (e_fieldAddr rfl rfl rfl) rfl (rfl) (by decide) ?_
 refine dp [1] [] (I (a_1.Amount)) rfl (e_ld rfl rfl) rfl (rfl) (by decide) ?_
 refine dp [17] [] (.hp 17 0 [] 4 0 3) rfl (e_fieldAddr rfl rfl rfl) rfl (rfl) (by decide) ?_
 refine dp [17] [] (I (b_2.Amount)) rfl (e_ld rfl rfl) rfl (rfl) (by decide) ?_
 obtain ⟨r6, hr6, h⟩ := bS h
 refine dp [] [] (I (r6)) rfl (e_callV rfl rfl (call_P rfl rfl rfl (avS (shP rfl) (avS (shP rfl) (avN))) (cmp_Compare_int_F hr6) (.inr rfl) (bl_n) rfl rfl rfl)) rfl (w_callO rfl rfl rfl rfl (avS (shP rfl) (avS (shP rfl) (avN))) (cmp_Compare_int_F hr6) (.inr rfl) rfl) (by decide) ?_
 refine dp [] [] (.hs 369 0 [] 1 0 4) rfl (e_buildSlice rfl (bs_mk (f := I) (xs := []) (z := I (0)) (es := [I (r3), I (r4), I (r5), I (r6)]) (ws := [I (r3), I (r4), I (r5), I (r6)]) rfl rfl rfl (by decide) rfl (abs_each_plain rfl) rfl)) rfl (rfl) (by decide) ?_
 obtain ⟨r7, hr7, h⟩ := bS h
 refine dp [369] [] (I (r7)) rfl (e_callV rfl rfl (call_P rfl rfl rfl (avS (sh1 rfl rfl (sh_hsM (f := I) (g := I) (xs := [r3, r4, r5, r6]) rfl rfl (imms_of I_imm))) (avN)) (cmp_Or_int_F hr7) (.inl (rfl)) (bl_n) rfl rfl rfl)) rfl (w_callO rfl rfl rfl rfl (avS (sh1 rfl rfl (sh_hsM (f := I) (g := I) (xs := [r3, r4, r5, r6]) rfl rfl (imms_of I_imm))) (avN)) (cmp_Or_int_F hr7) (.inl (rfl)) rfl) (by decide) ?_
 refine dp [] [] (I (r7)) rfl (e_assign rfl) rfl (rfl) (by decide) ?_
 refine de 417 rfl rfl ?_
 obtain rfl := Option.some.inj h
 exact s_ret rfl ⟨_, fin (vs := [I (r7)]) rfl (absE (absorb_plain rfl) (absEN)) rfl (ou_f (ou_f (ou_n))), kl_n⟩
theorem impl_CompareEvents_good {G : Go.Ln.Ground} : Good Tryd.prog G 52 impl_CompareEvents_ent := good_T (fnOf_good (gl_c cmp_Compare_int_good (gl_c cmp_Compare_string_good (gl_c cmp_Or_int_good (gl_n))))) agree_mk (Checked.mixed Tryd.checked) Tryd.func52 (n := 2) (m := 0) ⟨rfl, rfl, by decide⟩ (fun _ => ⟨rfl, rfl⟩) (fun a r h => impl_CompareEvents_run a.1 a.2 r h)
def slices_IsSortedFunc_impl_Event_impl_Event_w_impl_CompareEvents_A : ((List Event) × Unit) → List V := cA (slE enc_Event) (oA (fun x : Unit => (.fn 52 [] : V)))
def slices_IsSortedFunc_impl_Event_impl_Event_w_impl_CompareEvents_R (r : Bool) : V × List V := (B (r), [])
noncomputable def slices_IsSortedFunc_impl_Event_impl_Event_w_impl_CompareEvents_ent : Ent := entT [false, false] slices_IsSortedFunc_impl_Event_impl_Event_w_impl_CompareEvents_A slices_IsSortedFunc_impl_Event_impl_Event_w_impl_CompareEvents_R fun x => slices_IsSortedFunc_impl_Event_impl_Event_w_impl_CompareEvents x.1 x.2
theorem slices_IsSortedFunc_impl_Event_impl_Event_w_impl_CompareEvents_F {x_1 : List Event} {cmp_2 : Unit} {r} (h : slices_IsSortedFunc_impl_Event_impl_Event_w_impl_CompareEvents x_1 cmp_2 = some r) : (slices_IsSortedFunc_impl_Event_impl_Event_w_impl_CompareEvents_ent).F (slices_IsSortedFunc_impl_Event_impl_Event_w_impl_CompareEvents_A (x_1, cmp_2)) = some (slices_IsSortedFunc_impl_Event_impl_Event_w_impl_CompareEvents_R r) := entT_F (cA_inj (isl_inj enc_Event_inj) (oA_inj (fn_inj0 ))) h
noncomputable def slices_IsSortedFunc_impl_Event_impl_Event_w_impl_CompareEvents_c : Code := bodyOf Tryd.f51
noncomputable def slices_IsSortedFunc_impl_Event_impl_Event_w_impl_CompareEvents_E : Env := mkE Tryd.prog [(52, impl_CompareEvents_ent)]
def slices_IsSortedFunc_impl_Event_impl_Event_w_impl_CompareEvents_Q (x : (List Event) × Unit) (r : Bool) : St → Prop := QF slices_IsSortedFunc_impl_Event_impl_Event_w_impl_CompareEvents_E Tryd.f51 [false, false] (slices_IsSortedFunc_impl_Event_impl_Event_w_impl_CompareEvents_A x) (slices_IsSortedFunc_impl_Event_impl_Event_w_impl_CompareEvents_R r)
theorem slices_IsSortedFunc_impl_Event_impl_Event_w_impl_CompareEvents_la_run (x_1 : List Event) (cmp_2 : Unit)  {Q : St → Prop} {K : List It} (hK : noD K = true) {x3 : Int} {y : Bool ⊕ Unit} (h : slices_IsSortedFunc_impl_Event_impl_Event_w_impl_CompareEvents_la x_1 cmp_2 x3 = some y) : (∀ r', y = .inl r' → ∀ st, slices_IsSortedFunc_impl_Event_impl_Event_w_impl_CompareEvents_Q (x_1, cmp_2) r' st → Q st) → (∀ u : Unit, y = .inr u → Run slices_IsSortedFunc_impl_Event_impl_Event_w_impl_CompareEvents_E 0 Q K ⟨mkTm .dead 25 [], mkS (rtL [] 1), 1⟩) → Run slices_IsSortedFunc_impl_Event_impl_Event_w_impl_CompareEvents_E 0 Q (.code (cL (cL (cR (cL (cR slices_IsSortedFunc_impl_Event_impl_Event_w_impl_CompareEvents_c))))) :: .lp (cL (cL (cR (cL (cR slices_IsSortedFunc_impl_Event_impl_Event_w_impl_CompareEvents_c))))) :: .blk 0 :: K) ⟨mkTm .dead 25 [(0, .isl false ((x_1).map enc_Event)), (1, .fn 52 []), (5, I (x3))], mkS (rtL [] 1), 1⟩ := by
 refine fix_ind (P := fun (x3 : Int) (y : Bool ⊕ Unit) => (∀ r', y = .inl r' → ∀ st, slices_IsSortedFunc_impl_Event_impl_Event_w_impl_CompareEvents_Q (x_1, cmp_2) r' st → Q st) → (∀ u : Unit, y = .inr u → Run slices_IsSortedFunc_impl_Event_impl_Event_w_impl_CompareEvents_E 0 Q K ⟨mkTm .dead 25 [], mkS (rtL [] 1), 1⟩) → Run slices_IsSortedFunc_impl_Event_impl_Event_w_impl_CompareEvents_E 0 Q (.code (cL (cL (cR (cL (cR slices_IsSortedFunc_impl_Event_impl_Event_w_impl_CompareEvents_c))))) :: .lp (cL (cL (cR (cL (cR slices_IsSortedFunc_impl_Event_impl_Event_w_impl_CompareEvents_c))))) :: .blk 0 :: K) ⟨mkTm .dead 25 [(0, .isl false ((x_1).map enc_Event)), (1, .fn 52 []), (5, I (x3))], mkS (rtL [] 1), 1⟩) (slices_IsSortedFunc_impl_Event_impl_Event_w_impl_CompareEvents_la_fin x_1 cmp_2) ?_ h
 clear h y x3
 intro self ih x3 y h hr hn
 unfold slices_IsSortedFunc_impl_Event_impl_Event_w_impl_CompareEvents_la_F at h
 refine c0 6 [10] [B ((decide (x3 > 0)))] 33 (by kernel_rfl) ?_
 refine sc h rfl rfl (fun h => ?_) (fun h => ?_)
 · refine ad 1 rfl ?_
   refine ad 3 rfl ?_
   refine s_draw [0, 0, 0, 6, 14, 0, 0, 64, 224, 480, 1023, 2047] rfl (by decide +kernel) ?_
   refine dp [] [] (.fn 52 []) rfl (e_move rfl) rfl (rfl) (by decide) ?_
   refine dp [] [] (.isl false ((x_1).map enc_Event)) rfl (e_move rfl) rfl (rfl) (by decide) ?_
   refine dp [] [] (I (x3)) rfl (e_move rfl) rfl (rfl) (by decide) ?_
   obtain ⟨e4, he4, h⟩ := bS h
   refine dp [] [] (.iptr (enc_Event e4) 0) rfl (e_indexAddr rfl rfl rfl (ix_islE rfl rfl rfl rfl he4)) rfl (rfl) (by decide) ?_
   refine dp [] [] (enc_Event e4) rfl (e_ld rfl rfl) rfl (rfl) (by decide) ?_
   refine dp [] [] (.isl false ((x_1).map enc_Event)) rfl (e_move rfl) rfl (rfl) (by decide) ?_
   refine dp [] [] (I (x3)) rfl (e_move rfl) rfl (rfl) (by decide) ?_
   refine dp [] [] (I ((w64 (x3 - 1)))) rfl (e_bin rfl rfl rfl) rfl (rfl) (by decide) ?_
   obtain ⟨e5, he5, h⟩ := bS h
   refine dp [] [] (.iptr (enc_Event e5) 0) rfl (e_indexAddr rfl rfl rfl (ix_islE rfl rfl rfl rfl he5)) rfl (rfl) (by decide) ?_
   refine dp [] [] (enc_Event e5) rfl (e_ld rfl rfl) rfl (rfl) (by decide) ?_
   obtain ⟨r6, hr6, h⟩ := bS h
   refine dp [] [] (I (r6)) rfl (e_callV rfl rfl (call_P rfl rfl rfl (avS (shP rfl) (avS (shP rfl) (avN))) (impl_CompareEvents_F hr6) (.inr rfl) (bl_n) rfl rfl rfl)) rfl (w_callO rfl rfl rfl rfl (avS (shP rfl) (avS (shP rfl) (avN))) (impl_CompareEvents_F hr6) (.inr rfl) rfl) (by decide) ?_
   refine dp [] [] (B ((decide (r6 < 0)))) rfl (e_bin rfl rfl rfl) rfl (rfl) (by decide) ?_
   refine de 225 rfl rfl ?_
   refine sc h rfl rfl (fun h => ?_) (fun h => ?_)
   · refine c0 4 [4] [B (false)] 241 (by kernel_rfl) ?_
     exact s_ret rfl (hr _ (Option.some.inj h).symm _ ⟨_, fin (vs := [B (false)]) rfl (absE (absorb_plain rfl) (absEN)) rfl (ou_f (ou_f (ou_n))), kl_n⟩)
   · refine ad 1 rfl ?_
     refine c0 6 [5] [I ((w64 (x3 - 1)))] 273 (by kernel_rfl) ?_
     refine s_lp ?_
     refine run_forget [0, 1, 5] [] [] rfl rfl rfl rfl ?_
     exact ih _ _ h hr hn
 · refine ad 1 rfl ?_
   refine run_forget [] [] [] rfl rfl rfl hK ?_
   exact hn _ (Option.some.inj h).symm
theorem slices_IsSortedFunc_impl_Event_impl_Event_w_impl_CompareEvents_run (x_1 : List Event) (cmp_2 : Unit) (r : Bool) (h : slices_IsSortedFunc_impl_Event_impl_Event_w_impl_CompareEvents x_1 cmp_2 = some r) : RunF slices_IsSortedFunc_impl_Event_impl_Event_w_impl_CompareEvents_E Tryd.f51 [false, false] 0 (slices_IsSortedFunc_impl_Event_impl_Event_w_impl_CompareEvents_A (x_1, cmp_2)) (slices_IsSortedFunc_impl_Event_impl_Event_w_impl_CompareEvents_R r) := by
 show Run _ _ (slices_IsSortedFunc_impl_Event_impl_Event_w_impl_CompareEvents_Q (x_1, cmp_2) r) [.code slices_IsSortedFunc_impl_Event_impl_Event_w_impl_CompareEvents_c] _
 refine rin (n := 25) [(0, .isl false ((x_1).map enc_Event)), (1, .fn 52 [])] [] 1 (by kernel_rfl) (by kernel_rfl) (by kernel_rfl) rfl ?_
 unfold slices_IsSortedFunc_impl_Event_impl_Event_w_impl_CompareEvents at h
 refine c0 8 [6] [.isl false ((x_1).map enc_Event)] 33 (by kernel_rfl) ?_
 refine o 49 (I ((len x_1))) rfl rfl (e_len rfl rfl rfl (l_isl rfl)) ?_
 refine c0 4 [5] [I ((w64 ((len x_1) - 1)))] 81 (by kernel_rfl) ?_
 obtain ⟨y7, hy7, hy71, hy72⟩ := bJ h
 refine s_loop rfl ?_
 refine run_forget [0, 1, 5] [] [] rfl rfl rfl rfl ?_
 refine slices_IsSortedFunc_impl_Event_impl_Event_w_impl_CompareEvents_la_run x_1 cmp_2 rfl hy7 (fun r' e st hq => by rw [hy71 r' e] at hq; exact hq) (fun u7 hu => ?_)
 replace h := hy72 u7 hu
 refine c0 4 [4] [B (true)] 17 (by kernel_rfl) ?_
 obtain rfl := Option.some.inj h
 exact s_ret rfl ⟨_, fin (vs := [B (true)]) rfl (absE (absorb_plain rfl) (absEN)) rfl (ou_f (ou_f (ou_n))), kl_n⟩
theorem slices_IsSortedFunc_impl_Event_impl_Event_w_impl_CompareEvents_good {G : Go.Ln.Ground} : Good Tryd.prog G 51 slices_IsSortedFunc_impl_Event_impl_Event_w_impl_CompareEvents_ent := good_T (fnOf_good (gl_c impl_CompareEvents_good (gl_n))) agree_mk (Checked.mixed Tryd.checked) Tryd.func51 (n := 2) (m := 0) ⟨rfl, rfl, by decide⟩ (fun _ => ⟨rfl, rfl⟩) (fun a r h => slices_IsSortedFunc_impl_Event_impl_Event_w_impl_CompareEvents_run a.1 a.2 r h)
def impl_IsValidEvents_A : ((List Event) × Int) → List V := cA (slE enc_Event) (oA I)
def impl_IsValidEvents_R (r : Bool) : V × List V := (B (r), [])
noncomputable def impl_IsValidEvents_ent : Ent := entT [false, false] impl_IsValidEvents_A impl_IsValidEvents_R fun x => impl_IsValidEvents x.1 x.2
theorem impl_IsValidEvents_F {list_1 : List Event} {parties_2 : Int} {r} (h : impl_IsValidEvents list_1 parties_2 = some r) : (impl_IsValidEvents_ent).F (impl_IsValidEvents_A (list_1, parties_2)) = some (impl_IsValidEvents_R r) := entT_F (cA_inj (isl_inj enc_Event_inj) (oA_inj I_inj)) h
noncomputable def impl_IsValidEvents_c : Code := bodyOf Tryd.f16
noncomputable def impl_IsValidEvents_E : Env := mkE Tryd.prog [(50, impl_areEvents_ent), (51, slices_IsSortedFunc_impl_Event_impl_Event_w_impl_CompareEvents_ent)]
def impl_IsValidEvents_Q (x : (List Event) × Int) (r : Bool) : St → Prop := QF impl_IsValidEvents_E Tryd.f16 [false, false] (impl_IsValidEvents_A x) (impl_IsValidEvents_R r)
theorem impl_IsValidEvents_run (list_1 : List Event) (parties_2 : Int) (r : Bool) (h : impl_IsValidEvents list_1 parties_2 = some r) : RunF impl_IsValidEvents_E Tryd.f16 [false, false] 0 (impl_IsValidEvents_A (list_1, parties_2)) (impl_IsValidEvents_R r) := by
 show Run _ _ (impl_IsValidEvents_Q (list_1, parties_2) r) [.code impl_IsValidEvents_c] _
 refine rin (n := 12) [(0, .isl false ((list_1).map enc_Event)), (1, I (parties_2))] [] 1 (by kernel_rfl) (by kernel_rfl) (by kernel_rfl) rfl ?_
 unfold impl_IsValidEvents at h
 refine c0 8 [5, 6] [.isl false ((list_1).map enc_Event), I (parties_2)] 49 (by kernel_rfl) ?_
 obtain ⟨r3, hr3, h⟩ := bS h
 refine o 65 (B (r3)) rfl rfl (e_callV rfl rfl (call_P rfl rfl rfl (avS (shP rfl) (avS (shP rfl) (avN))) (impl_areEvents_F hr3) (.inr rfl) (bl_n) rfl rfl rfl)) ?_
 refine c0 1 [8] [B (r3)] 81 (by kernel_rfl) ?_
 obtain ⟨y4, hy4, hy41, hy42⟩ := bJ h
 have j4 : ∀ u4, y4 = .inr u4 → Run impl_IsValidEvents_E 0 (impl_IsValidEvents_Q (list_1, parties_2) r) (.code (cR (cR impl_IsValidEvents_c)) :: []) ⟨mkTm .dead 12 [(4, B (u4))], mkS (rtL [] 1), 1⟩ := by
   intro u4 hu
   replace h := hy42 u4 hu
   obtain rfl := Option.some.inj h
   exact s_ret rfl ⟨_, fin (vs := [B (u4)]) rfl (absE (absorb_plain rfl) (absEN)) rfl (ou_f (ou_f (ou_n))), kl_n⟩
 have r4 : ∀ r', y4 = .inl r' → ∀ st, impl_IsValidEvents_Q (list_1, parties_2) r' st → (impl_IsValidEvents_Q (list_1, parties_2) r) st := fun r' e st hq => by rw [hy41 r' e] at hq; exact hq
 replace h := hy4
 refine sp 8 h rfl (fun h => ?_) (fun h => ?_)
 · refine c0 1 [9] [.isl false ((list_1).map enc_Event)] 97 (by kernel_rfl) ?_
   obtain ⟨r5, hr5, h⟩ := bS h
   refine og 113 (B (r5)) rfl rfl rfl rfl (e_callV rfl rfl (call_P rfl rfl rfl (avS (shP rfl) (avS (shP rfl) (avN))) (slices_IsSortedFunc_impl_Event_impl_Event_w_impl_CompareEvents_F hr5) (.inr rfl) (bl_n) rfl rfl rfl)) ?_
   refine c0 3 [4] [B (r5)] 145 (by kernel_rfl) ?_
   refine run_forget [4] [] [] rfl rfl rfl rfl ?_
   exact j4 _ (Option.some.inj h).symm
 · refine c0 5 [4] [B (false)] 145 (by kernel_rfl) ?_
   refine run_forget [4] [] [] rfl rfl rfl rfl ?_
   exact j4 _ (Option.some.inj h).symm
theorem impl_IsValidEvents_good {G : Go.Ln.Ground} : Good Tryd.prog G 16 impl_IsValidEvents_ent := good_T (fnOf_good (gl_c impl_areEvents_good (gl_c slices_IsSortedFunc_impl_Event_impl_Event_w_impl_CompareEvents_good (gl_n)))) agree_mk (Checked.mixed Tryd.checked) Tryd.func16 (n := 2) (m := 0) ⟨rfl, rfl, by decide⟩ (fun _ => ⟨rfl, rfl⟩) (fun a r h => impl_IsValidEvents_run a.1 a.2 r h)
def slices_Compact_int_int_A : ((List Int)) → List V := oA (usE 1 I)
def slices_Compact_int_int_R (r : (List Int)) : V × List V := (.usl 1 ((r).map I), [.dead])
noncomputable def slices_Compact_int_int_ent : Ent := entT [true] slices_Compact_int_int_A slices_Compact_int_int_R fun x => slices_Compact_int_int x
theorem slices_Compact_int_int_F {s_2 : List Int} {r} (h : slices_Compact_int_int s_2 = some r) : (slices_Compact_int_int_ent).F (slices_Compact_int_int_A s_2) = some (slices_Compact_int_int_R r) := entT_F (oA_inj (usl_inj I_inj)) h
noncomputable def slices_Compact_int_int_c : Code := bodyOf Tryd.f61
noncomputable def slices_Compact_int_int_E : Env := mkE Tryd.prog []
def slices_Compact_int_int_Q (x : (List Int)) (r : (List Int)) : St → Prop := QF slices_Compact_int_int_E Tryd.f61 [true] (slices_Compact_int_int_A x) (slices_Compact_int_int_R r)
theorem slices_Compact_int_int_lb_run (s_2 : List Int) (x2 : Int) {Q : St → Prop} {K : List It} (hK : noD K = true) {x6 : Int × Int × (List Int)} {y : ((List Int)) ⊕ (Int × (List Int))} (h : slices_Compact_int_int_lb s_2 x2 x6 = some y) : (∀ r', y = .inl r' → ∀ st, slices_Compact_int_int_Q s_2 r' st → Q st) → (∀ u : Int × (List Int), y = .inr u → Run slices_Compact_int_int_E 1 Q K ⟨mkTm .dead 61 [(0, .hs 1 0 [] 1 0 ((u.2).map I).length), (3, I (u.1))], mkS (rtL [⟨0, 1, (u.2).map I⟩] 1), 2⟩) → Run slices_Compact_int_int_E 1 Q (.code (cL (cL (cR (cL (cR (cL (cR (cL (cL (cR (cL (cL (cR (cL (cR (cR slices_Compact_int_int_c)))))))))))))))) :: .lp (cL (cL (cR (cL (cR (cL (cR (cL (cL (cR (cL (cL (cR (cL (cR (cR slices_Compact_int_int_c)))))))))))))))) :: .blk 2 :: K) ⟨mkTm .dead 61 [(0, .hs 1 0 [] 1 0 ((x6.2.2).map I).length), (3, I (x6.1)), (4, .hs 1 0 [] 1 (0 + Int.toNat (x2)) (Int.toNat (len s_2) - Int.toNat (x2))), (5, I (x6.2.1))], mkS (rtL [⟨0, 1, (x6.2.2).map I⟩] 1), 2⟩ := by
 refine fix_ind (P := fun (x6 : Int × Int × (List Int)) (y : ((List Int)) ⊕ (Int × (List Int))) => (∀ r', y = .inl r' → ∀ st, slices_Compact_int_int_Q s_2 r' st → Q st) → (∀ u : Int × (List Int), y = .inr u → Run slices_Compact_int_int_E 1 Q K ⟨mkTm .dead 61 [(0, .hs 1 0 [] 1 0 ((u.2).map I).length), (3, I (u.1))], mkS (rtL [⟨0, 1, (u.2).map I⟩] 1), 2⟩) → Run slices_Compact_int_int_E 1 Q (.code (cL (cL (cR (cL (cR (cL (cR (cL (cL (cR (cL (cL (cR (cL (cR (cR slices_Compact_int_int_c)))))))))))))))) :: .lp (cL (cL (cR (cL (cR (cL (cR (cL (cL (cR (cL (cL (cR (cL (cR (cR slices_Compact_int_int_c)))))))))))))))) :: .blk 2 :: K) ⟨mkTm .dead 61 [(0, .hs 1 0 [] 1 0 ((x6.2.2).map I).length), (3, I (x6.1)), (4, .hs 1 0 [] 1 (0 + Int.toNat (x2)) (Int.toNat (len s_2) - Int.toNat (x2))), (5, I (x6.2.1))], mkS (rtL [⟨0, 1, (x6.2.2).map I⟩] 1), 2⟩) (slices_Compact_int_int_lb_fin s_2 x2) ?_ h
 clear h y x6
 intro self ih x6 y h hr hn
 unfold slices_Compact_int_int_lb_F at h
 refine c0 8 [32] [B ((decide (x6.2.1 < (((Int.toNat (len s_2) - Int.toNat (x2)) : Nat) : Int))))] 66 (by kernel_rfl) ?_
 refine sc h rfl rfl (fun h => ?_) (fun h => ?_)
 · refine ad 1 rfl ?_
   refine ad 3 rfl ?_
   refine s_draw [0, 0, 3, 7, 0, 0, 32, 112, 240, 511] rfl (by decide +kernel) ?_
   refine dp [] [] (.hs 1 0 [] 1 (0 + Int.toNat (x2)) (Int.toNat (len s_2) - Int.toNat (x2))) rfl (e_move rfl) rfl (rfl) (by decide) ?_
   refine dp [] [] (I (x6.2.1)) rfl (e_move rfl) rfl (rfl) (by decide) ?_
   obtain ⟨e7, he7, h⟩ := bS h
   refine dp [1] [] (.hp 1 0 [] 1 ((0 + Int.toNat (x2)) + Int.toNat (x6.2.1)) 0) rfl (e_indexAddr rfl rfl rfl (ix_pt (xs := x6.2.2) rfl rfl he7)) rfl (rfl) (by decide) ?_
   refine dp [1] [] (I (e7)) rfl (e_ld rfl (ld_at (path := []) rfl rfl rfl (ra_n) (get_pt (f := I) (xs := x6.2.2) he7) rfl rfl rfl)) rfl (rfl) (by decide) ?_
   refine dp [] [] (.hs 1 0 [] 1 (0 + Int.toNat (x2)) (Int.toNat (len s_2) - Int.toNat (x2))) rfl (e_move rfl) rfl (rfl) (by decide) ?_
   refine dp [] [] (I (x6.2.1)) rfl (e_move rfl) rfl (rfl) (by decide) ?_
   refine dp [] [] (I ((w64 (x6.2.1 - 1)))) rfl (e_bin rfl rfl rfl) rfl (rfl) (by decide) ?_
   obtain ⟨e8, he8, h⟩ := bS h
   refine dp [1] [] (.hp 1 0 [] 1 ((0 + Int.toNat (x2)) + Int.toNat ((w64 (x6.2.1 - 1)))) 0) rfl (e_indexAddr rfl rfl rfl (ix_pt (xs := x6.2.2) rfl rfl he8)) rfl (rfl) (by decide) ?_
   refine dp [1] [] (I (e8)) rfl (e_ld rfl (ld_at (path := []) rfl rfl rfl (ra_n) (get_pt (f := I) (xs := x6.2.2) he8) rfl rfl rfl)) rfl (rfl) (by decide) ?_
   refine dp [] [] (B ((e7 != e8))) rfl (e_bin rfl rfl rfl) rfl (rfl) (by decide) ?_
   refine de 226 rfl rfl ?_
   obtain ⟨y9, hy9, hy91, hy92⟩ := bL h
   have j9 : ∀ u9, y9 = .inr u9 → Run slices_Compact_int_int_E 1 Q (.blk 3 :: .code (cR (cR (cL (cL (cR (cL (cR (cL (cR (cL (cL (cR (cL (cL (cR (cL (cR (cR slices_Compact_int_int_c)))))))))))))))))) :: .lp (cL (cL (cR (cL (cR (cL (cR (cL (cL (cR (cL (cL (cR (cL (cR (cR slices_Compact_int_int_c)))))))))))))))) :: .blk 2 :: K) ⟨mkTm .dead 61 [(0, .hs 1 0 [] 1 0 ((u9.2).map I).length), (3, I (u9.1)), (4, .hs 1 0 [] 1 (0 + Int.toNat (x2)) (Int.toNat (len s_2) - Int.toNat (x2))), (5, I (x6.2.1))], mkS (rtL [⟨0, 1, (u9.2).map I⟩] 1), 2⟩ := by
     intro u9 hu
     replace h := hy92 u9 hu
     refine c0 6 [5] [I ((w64 (x6.2.1 + 1)))] 50 (by kernel_rfl) ?_
     refine s_lp ?_
     refine run_forget [0, 3, 4, 5] [1] [⟨0, 1, (u9.2).map I⟩] rfl rfl rfl rfl ?_
     exact ih _ _ h hr hn
   have r9 : ∀ r', y9 = .inl r' → ∀ st, slices_Compact_int_int_Q s_2 r' st → Q st := fun r' e st hq => hr r' (hy91 r' e) st hq
   replace h := hy9
   refine sc h rfl rfl (fun h => ?_) (fun h => ?_)
   · refine c0 6 [45, 46, 47, 48] [.hs 1 0 [] 1 0 ((x6.2.2).map I).length, I (x6.1), .hs 1 0 [] 1 (0 + Int.toNat (x2)) (Int.toNat (len s_2) - Int.toNat (x2)), I (x6.2.1)] 290 (by kernel_rfl) ?_
     obtain ⟨e10, he10, h⟩ := bS h
     refine o 306 (.hp 1 0 [] 1 ((0 + Int.toNat (x2)) + Int.toNat (x6.2.1)) 0) rfl rfl (e_indexAddr rfl rfl rfl (ix_pt (xs := x6.2.2) rfl rfl he10)) ?_
     refine o 322 (I (e10)) rfl rfl (e_ld rfl (ld_at (path := []) rfl rfl rfl (ra_n) (get_pt (f := I) (xs := x6.2.2) he10) rfl rfl rfl)) ?_
     obtain ⟨e11, he11, h⟩ := bS h
     refine o 338 (.hp 1 0 [] 1 (0 + Int.toNat (x6.1)) 0) rfl rfl (e_indexAddr rfl rfl rfl (ix_hsM (f := I) (xs := x6.2.2) rfl rfl rfl he11)) ?_
     obtain ⟨w12, hw12⟩ : ∃ w, getP (setI x6.2.2 x6.1 e10) (0 + Int.toNat (x2)) (Int.toNat (len s_2) - Int.toNat (x2)) x6.2.1 = some w := get_exP he7
     obtain ⟨w13, hw13⟩ : ∃ w, getP (setI x6.2.2 x6.1 e10) (0 + Int.toNat (x2)) (Int.toNat (len s_2) - Int.toNat (x2)) (w64 (x6.2.1 - 1)) = some w := get_exP he8
     obtain ⟨w14, hw14⟩ : ∃ w, getP (setI x6.2.2 x6.1 e10) (0 + Int.toNat (x2)) (Int.toNat (len s_2) - Int.toNat (x2)) x6.2.1 = some w := get_exP he10
     refine o0 354 rfl rfl (e_st rfl rfl (st_at (path := []) (pl := true) (e' := I (e10)) (es2' := ((setI x6.2.2 x6.1 e10)).map I) rfl (absorb_plain rfl) rfl rfl rfl (ra_n) (get_map (f := I) (xs := x6.2.2) he11) rfl rfl rfl (set_map (f := I) (xs := x6.2.2) (y := e10)) (sr_n) 0 rfl)) ?_
     try rw [← len_setM (f := I) (xs := x6.2.2) (i := x6.1) (z := e10)]
     refine c0 6 [3] [I ((w64 (x6.1 + 1)))] 402 (by kernel_rfl) ?_
     refine run_forget [0, 3, 4, 5] [1] [⟨0, 1, ((setI x6.2.2 x6.1 e10)).map I⟩] rfl rfl rfl rfl ?_
     exact j9 _ (Option.some.inj h).symm
   · refine ad 1 rfl ?_
     refine run_forget [0, 3, 4, 5] [1] [⟨0, 1, (x6.2.2).map I⟩] rfl rfl rfl rfl ?_
     exact j9 _ (Option.some.inj h).symm
 · refine ad 1 rfl ?_
   refine run_forget [0, 3] [1] [⟨0, 1, (x6.2.2).map I⟩] rfl rfl rfl hK ?_
   exact hn _ (Option.some.inj h).symm
theorem slices_Compact_int_int_la_run (s_2 : List Int)  {Q : St → Prop} {K : List It} (hK : noD K = true) {x2 : Int} {y : ((List Int)) ⊕ ((List Int))} (h : slices_Compact_int_int_la s_2 x2 = some y) : (∀ r', y = .inl r' → ∀ st, slices_Compact_int_int_Q s_2 r' st → Q st) → (∀ u : (List Int), y = .inr u → Run slices_Compact_int_int_E 1 Q K ⟨mkTm .dead 61 [(0, .hs 1 0 [] 1 0 ((u).map I).length)], mkS (rtL [⟨0, 1, (u).map I⟩] 1), 2⟩) → Run slices_Compact_int_int_E 1 Q (.code (cL (cL (cR (cL (cR (cR slices_Compact_int_int_c)))))) :: .lp (cL (cL (cR (cL (cR (cR slices_Compact_int_int_c)))))) :: .blk 0 :: K) ⟨mkTm .dead 61 [(0, .hs 1 0 [] 1 0 ((s_2).map I).length), (3, I (x2))], mkS (rtL [⟨0, 1, (s_2).map I⟩] 1), 2⟩ := by
 refine fix_ind (P := fun (x2 : Int) (y : ((List Int)) ⊕ ((List Int))) => (∀ r', y = .inl r' → ∀ st, slices_Compact_int_int_Q s_2 r' st → Q st) → (∀ u : (List Int), y = .inr u → Run slices_Compact_int_int_E 1 Q K ⟨mkTm .dead 61 [(0, .hs 1 0 [] 1 0 ((u).map I).length)], mkS (rtL [⟨0, 1, (u).map I⟩] 1), 2⟩) → Run slices_Compact_int_int_E 1 Q (.code (cL (cL (cR (cL (cR (cR slices_Compact_int_int_c)))))) :: .lp (cL (cL (cR (cL (cR (cR slices_Compact_int_int_c)))))) :: .blk 0 :: K) ⟨mkTm .dead 61 [(0, .hs 1 0 [] 1 0 ((s_2).map I).length), (3, I (x2))], mkS (rtL [⟨0, 1, (s_2).map I⟩] 1), 2⟩) (slices_Compact_int_int_la_fin s_2) ?_ h
 clear h y x2
 intro self ih x2 y h hr hn
 unfold slices_Compact_int_int_la_F at h
 refine c0 5 [10, 11] [I (x2), .hs 1 0 [] 1 0 ((s_2).map I).length] 34 (by kernel_rfl) ?_
 refine o 50 (I ((len s_2))) rfl rfl (e_len rfl rfl rfl (l_hsM (f := I) (xs := s_2) rfl rfl)) ?_
 refine c0 2 [13] [B ((decide (x2 < (len s_2))))] 66 (by kernel_rfl) ?_
 refine sc h rfl rfl (fun h => ?_) (fun h => ?_)
 · refine ad 1 rfl ?_
   refine ad 3 rfl ?_
   refine s_draw [0, 0, 3, 7, 0, 0, 32, 112, 240, 511] rfl (by decide +kernel) ?_
   refine dp [] [] (.hs 1 0 [] 1 0 ((s_2).map I).length) rfl (e_move rfl) rfl (rfl) (by decide) ?_
   refine dp [] [] (I (x2)) rfl (e_move rfl) rfl (rfl) (by decide) ?_
   obtain ⟨e3, he3, h⟩ := bS h
   refine dp [1] [] (.hp 1 0 [] 1 (0 + Int.toNat (x2)) 0) rfl (e_indexAddr rfl rfl rfl (ix_hsM (f := I) (xs := s_2) rfl rfl rfl he3)) rfl (rfl) (by decide) ?_
   refine dp [1] [] (I (e3)) rfl (e_ld rfl (ld_at (path := []) rfl rfl rfl (ra_n) (get_map (f := I) (xs := s_2) he3) rfl rfl rfl)) rfl (rfl) (by decide) ?_
   refine dp [] [] (.hs 1 0 [] 1 0 ((s_2).map I).length) rfl (e_move rfl) rfl (rfl) (by decide) ?_
   refine dp [] [] (I (x2)) rfl (e_move rfl) rfl (rfl) (by decide) ?_
   refine dp [] [] (I ((w64 (x2 - 1)))) rfl (e_bin rfl rfl rfl) rfl (rfl) (by decide) ?_
   obtain ⟨e4, he4, h⟩ := bS h
   refine dp [1] [] (.hp 1 0 [] 1 (0 + Int.toNat ((w64 (x2 - 1)))) 0) rfl (e_indexAddr rfl rfl rfl (ix_hsM (f := I) (xs := s_2) rfl rfl rfl he4)) rfl (rfl) (by decide) ?_
   refine dp [1] [] (I (e4)) rfl (e_ld rfl (ld_at (path := []) rfl rfl rfl (ra_n) (get_map (f := I) (xs := s_2) he4) rfl rfl rfl)) rfl (rfl) (by decide) ?_
   refine dp [] [] (B ((e3 == e4))) rfl (e_bin rfl rfl rfl) rfl (rfl) (by decide) ?_
   refine de 226 rfl rfl ?_
   refine sc h rfl rfl (fun h => ?_) (fun h => ?_)
   · refine c0 4 [26, 27] [.hs 1 0 [] 1 0 ((s_2).map I).length, I (x2)] 258 (by kernel_rfl) ?_
     obtain ⟨s5, hs5, h⟩ := bS h
     refine o 274 (.hs 1 0 [] 1 (0 + Int.toNat (x2)) (Int.toNat (len s_2) - Int.toNat (x2))) rfl rfl (e_slice rfl rfl rfl rfl (sl_hsM (f := I) (xs := s_2) rfl rfl rfl rfl (bd_n rfl) hs5)) ?_
     refine c0 8 [4, 5] [.hs 1 0 [] 1 (0 + Int.toNat (x2)) (Int.toNat (len s_2) - Int.toNat (x2)), I (1)] 306 (by kernel_rfl) ?_
     obtain ⟨y15, hy15, hy151, hy152⟩ := bL h
     refine s_loop rfl ?_
     refine run_forget [0, 3, 4, 5] [1] [⟨0, 1, (s_2).map I⟩] rfl rfl rfl rfl ?_
     refine slices_Compact_int_int_lb_run s_2 x2 rfl hy15 (fun r' e st hq => hr r' (hy151 r' e) st hq) (fun u15 hu => ?_)
     replace h := hy152 u15 hu
     refine c0 4 [54, 55] [.hs 1 0 [] 1 0 ((u15.2).map I).length, I (u15.1)] 34 (by kernel_rfl) ?_
     obtain ⟨s16, hs16, h⟩ := bS h
     refine o 50 (.hs 1 0 [] 1 (0 + Int.toNat (u15.1)) (Int.toNat (len u15.2) - Int.toNat (u15.1))) rfl rfl (e_slice rfl rfl rfl rfl (sl_hsM (f := I) (xs := u15.2) rfl rfl rfl rfl (bd_n rfl) hs16)) ?_
     obtain ⟨k17, hk17, h⟩ := bS h
     refine o0 66 rfl rfl (e_clear rfl rfl (cl_pt (f := I) (xs := u15.2) (z0 := 0) rfl rfl rfl rfl (by decide) I_flat hk17)) ?_
     try rw [show (u15.2.map I).length = (k17.map I).length from clr_len hk17]
     refine c0 5 [57, 58] [.hs 1 0 [] 1 0 ((k17).map I).length, I (u15.1)] 98 (by kernel_rfl) ?_
     obtain ⟨s18, hs18, h⟩ := bS h
     refine o 114 (.hs 1 0 [] 1 (0 + Int.toNat (0)) (Int.toNat (u15.1) - Int.toNat (0))) rfl rfl (e_slice rfl rfl rfl rfl (sl_hsM (f := I) (xs := k17) rfl rfl rfl rfl rfl hs18)) ?_
     refine c0 2 [2] [.hs 1 0 [] 1 (0 + Int.toNat (0)) (Int.toNat (u15.1) - Int.toNat (0))] 130 (by kernel_rfl) ?_
     obtain ⟨p19, hp19, h⟩ := bS h
     exact s_ret rfl (hr _ (Option.some.inj h).symm _ ⟨_, fin (vs := [.hs 1 0 [] 1 (0 + Int.toNat (0)) (Int.toNat (u15.1) - Int.toNat (0))]) rfl (absE (abs1 rfl (abs_pt (path := []) (f := I) (xs := k17) rfl rfl (ra_n) hp19 rfl (to_n))) (absEN)) rfl (ou_1 rfl (oc_no rfl) (ou_n)), kl_d (kl_n)⟩)
   · refine ad 1 rfl ?_
     refine c0 6 [3] [I ((w64 (x2 + 1)))] 274 (by kernel_rfl) ?_
     refine s_lp ?_
     refine run_forget [0, 3] [1] [⟨0, 1, (s_2).map I⟩] rfl rfl rfl rfl ?_
     exact ih _ _ h hr hn
 · refine ad 1 rfl ?_
   refine run_forget [0] [1] [⟨0, 1, (s_2).map I⟩] rfl rfl rfl hK ?_
   exact hn _ (Option.some.inj h).symm
theorem slices_Compact_int_int_run (s_2 : List Int) (r : (List Int)) (h : slices_Compact_int_int s_2 = some r) : RunF slices_Compact_int_int_E Tryd.f61 [true] 1 (slices_Compact_int_int_A s_2) (slices_Compact_int_int_R r) := by
 show Run _ _ (slices_Compact_int_int_Q s_2 r) [.code slices_Compact_int_int_c] _
 refine rin (n := 61) [(0, .hs 1 0 [] 1 0 ((s_2).map I).length)] [(1, some ⟨0, 1, (s_2).map I⟩)] 2 (by kernel_rfl) (by kernel_rfl) (by kernel_rfl) rfl ?_
 unfold slices_Compact_int_int at h
 refine c0 8 [6] [.hs 1 0 [] 1 0 ((s_2).map I).length] 34 (by kernel_rfl) ?_
 refine o 50 (I ((len s_2))) rfl rfl (e_len rfl rfl rfl (l_hsM (f := I) (xs := s_2) rfl rfl)) ?_
 refine c0 2 [8] [B ((decide ((len s_2) < 2)))] 66 (by kernel_rfl) ?_
 refine sc h rfl rfl (fun h => ?_) (fun h => ?_)
 · refine c0 5 [2] [.hs 1 0 [] 1 0 ((s_2).map I).length] 98 (by kernel_rfl) ?_
   obtain rfl := Option.some.inj h
   exact s_ret rfl ⟨_, fin (vs := [.hs 1 0 [] 1 0 ((s_2).map I).length]) rfl (absE (abs1 rfl (abs_hs rfl rfl)) (absEN)) rfl (ou_1 rfl (oc_no rfl) (ou_n)), kl_d (kl_n)⟩
 · refine ad 1 rfl ?_
   refine c0 6 [3] [I (1)] 82 (by kernel_rfl) ?_
   obtain ⟨y20, hy20, hy201, hy202⟩ := bJ h
   refine s_loop rfl ?_
   refine run_forget [0, 3] [1] [⟨0, 1, (s_2).map I⟩] rfl rfl rfl rfl ?_
   refine slices_Compact_int_int_la_run s_2 rfl hy20 (fun r' e st hq => by rw [hy201 r' e] at hq; exact hq) (fun u20 hu => ?_)
   replace h := hy202 u20 hu
   refine c0 5 [2] [.hs 1 0 [] 1 0 ((u20).map I).length] 34 (by kernel_rfl) ?_
   obtain rfl := Option.some.inj h
   exact s_ret rfl ⟨_, fin (vs := [.hs 1 0 [] 1 0 ((u20).map I).length]) rfl (absE (abs1 rfl (abs_hs rfl rfl)) (absEN)) rfl (ou_1 rfl (oc_no rfl) (ou_n)), kl_d (kl_n)⟩
theorem slices_Compact_int_int_good {G : Go.Ln.Ground} : Good Tryd.prog G 61 slices_Compact_int_int_ent := good_T (fnOf_good (gl_n)) agree_mk (Checked.mixed Tryd.checked) Tryd.func61 (n := 1) (m := 1) ⟨rfl, rfl, by decide⟩ (fun _ => ⟨rfl, rfl⟩) (fun a r h => slices_Compact_int_int_run a r h)
def impl_EventDays_A : ((List Event) × Int) → List V := cA (slE enc_Event) (oA I)
def impl_EventDays_R (r : (List Int) × Bool) : V × List V := (.tup [.usl 1 ((r.1).map I), B (r.2)], [])
noncomputable def impl_EventDays_ent : Ent := entT [false, false] impl_EventDays_A impl_EventDays_R fun x => impl_EventDays x.1 x.2
theorem impl_EventDays_F {list_1 : List Event} {parties_2 : Int} {r} (h : impl_EventDays list_1 parties_2 = some r) : (impl_EventDays_ent).F (impl_EventDays_A (list_1, parties_2)) = some (impl_EventDays_R r) := entT_F (cA_inj (isl_inj enc_Event_inj) (oA_inj I_inj)) h
noncomputable def impl_EventDays_c : Code := bodyOf Tryd.f27
noncomputable def impl_EventDays_E : Env := mkE Tryd.prog [(16, impl_IsValidEvents_ent), (61, slices_Compact_int_int_ent)]
def impl_EventDays_Q (x : (List Event) × Int) (r : (List Int) × Bool) : St → Prop := QF impl_EventDays_E Tryd.f27 [false, false] (impl_EventDays_A x) (impl_EventDays_R r)
theorem impl_EventDays_la_run (list_1 : List Event) (parties_2 : Int)  {Q : St → Prop} {K : List It} (hK : noD K = true) {x4 : Int × (List Int)} {y : ((List Int) × Bool) ⊕ ((List Int))} (h : impl_EventDays_la list_1 parties_2 x4 = some y) : (∀ r', y = .inl r' → ∀ st, impl_EventDays_Q (list_1, parties_2) r' st → Q st) → (∀ u : (List Int), y = .inr u → Run impl_EventDays_E 0 Q K ⟨mkTm .dead 28 [(6, .hs 1 0 [] 1 0 ((u).map I).length)], mkS (rtL [⟨0, 1, (u).map I⟩] 1), 2⟩) → Run impl_EventDays_E 0 Q (.code (cL (cL (cR (cL (cR (cR (cR impl_EventDays_c))))))) :: .lp (cL (cL (cR (cL (cR (cR (cR impl_EventDays_c))))))) :: .blk 0 :: K) ⟨mkTm .dead 28 [(6, .hs 1 0 [] 1 0 ((x4.2).map I).length), (14, .isl false ((list_1).map enc_Event)), (15, I ((len list_1))), (16, I (x4.1))], mkS (rtL [⟨0, 1, (x4.2).map I⟩] 1), 2⟩ := by
 refine fix_ind (P := fun (x4 : Int × (List Int)) (y : ((List Int) × Bool) ⊕ ((List Int))) => (∀ r', y = .inl r' → ∀ st, impl_EventDays_Q (list_1, parties_2) r' st → Q st) → (∀ u : (List Int), y = .inr u → Run impl_EventDays_E 0 Q K ⟨mkTm .dead 28 [(6, .hs 1 0 [] 1 0 ((u).map I).length)], mkS (rtL [⟨0, 1, (u).map I⟩] 1), 2⟩) → Run impl_EventDays_E 0 Q (.code (cL (cL (cR (cL (cR (cR (cR impl_EventDays_c))))))) :: .lp (cL (cL (cR (cL (cR (cR (cR impl_EventDays_c))))))) :: .blk 0 :: K) ⟨mkTm .dead 28 [(6, .hs 1 0 [] 1 0 ((x4.2).map I).length), (14, .isl false ((list_1).map enc_Event)), (15, I ((len list_1))), (16, I (x4.1))], mkS (rtL [⟨0, 1, (x4.2).map I⟩] 1), 2⟩) (impl_EventDays_la_fin list_1 parties_2) ?_ h
 clear h y x4
 intro self ih x4 y h hr hn
 unfold impl_EventDays_la_F at h
 refine c0 5 [17] [B ((decide (x4.1 < (len list_1))))] 18 (by kernel_rfl) ?_
 refine sc h rfl rfl (fun h => ?_) (fun h => ?_)
 · refine ad 1 rfl ?_
   refine ad 4 rfl ?_
   obtain ⟨e5, he5, h⟩ := bS h
   refine o 34 (.iptr (enc_Event e5) 0) rfl rfl (e_indexAddr rfl rfl rfl (ix_islE rfl rfl rfl rfl he5)) ?_
   refine c0 8 [20, 22] [.hs 1 0 [] 1 0 ((x4.2).map I).length, I (e5.Day)] 130 (by kernel_rfl) ?_
   refine o 146 (.hs 130 0 [] 1 0 1) rfl rfl (e_buildSlice rfl (bs_mk (f := I) (xs := []) (z := I (0)) (es := [I (e5.Day)]) (ws := [I (e5.Day)]) rfl rfl rfl (by decide) rfl (abs_each_plain rfl) rfl)) ?_
   obtain ⟨a6, ha6, h⟩ := bS h
   refine o 162 (.hs 146 0 [] 1 0 ((a6).map I).length) rfl rfl (e_append rfl rfl rfl rfl rfl (ap_hsM (path := []) (f := I) (xs := x4.2) (ys := [e5.Day]) rfl rfl (take_hs rfl rfl rfl) rfl rfl rfl (ra_n) rfl (by decide) I_cells ha6 rfl (to_n))) ?_
   refine c0 7 [6, 16] [.hs 146 0 [] 1 0 ((a6).map I).length, I ((w64 (x4.1 + 1)))] 210 (by kernel_rfl) ?_
   refine s_lp ?_
   refine run_forget [6, 14, 15, 16] [146] [⟨0, 1, (a6).map I⟩] rfl rfl rfl rfl ?_
   exact ih _ _ h hr hn
 · refine ad 1 rfl ?_
   refine run_forget [6] [1] [⟨0, 1, (x4.2).map I⟩] rfl rfl rfl hK ?_
   exact hn _ (Option.some.inj h).symm
theorem impl_EventDays_run (list_1 : List Event) (parties_2 : Int) (r : (List Int) × Bool) (h : impl_EventDays list_1 parties_2 = some r) : RunF impl_EventDays_E Tryd.f27 [false, false] 0 (impl_EventDays_A (list_1, parties_2)) (impl_EventDays_R r) := by
 show Run _ _ (impl_EventDays_Q (list_1, parties_2) r) [.code impl_EventDays_c] _
 refine rin (n := 28) [(0, .isl false ((list_1).map enc_Event)), (1, I (parties_2))] [] 1 (by kernel_rfl) (by kernel_rfl) (by kernel_rfl) rfl ?_
 unfold impl_EventDays at h
 refine c0 10 [9, 10] [.isl false ((list_1).map enc_Event), I (parties_2)] 65 (by kernel_rfl) ?_
 obtain ⟨r3, hr3, h⟩ := bS h
 refine o 81 (B (r3)) rfl rfl (e_callV rfl rfl (call_P rfl rfl rfl (avS (shP rfl) (avS (shP rfl) (avN))) (impl_IsValidEvents_F hr3) (.inr rfl) (bl_n) rfl rfl rfl)) ?_
 refine c0 2 [12] [B ((!r3))] 97 (by kernel_rfl) ?_
 refine sc h rfl rfl (fun h => ?_) (fun h => ?_)
 · refine c0 5 [4, 5] [.isl true [], B (false)] 129 (by kernel_rfl) ?_
   refine run_own 4 0 1 145 (.hs 129 0 [] 1 0 0) rfl rfl rfl rfl rfl ?_
   obtain rfl := Option.some.inj h
   exact s_ret rfl ⟨_, fin (vs := [.hs 129 0 [] 1 0 0, B (false)]) rfl (absE (abs1 rfl (abs_hs rfl rfl)) (absE (absorb_plain rfl) (absEN))) rfl (ou_f (ou_f (ou_n))), kl_n⟩
 · refine ad 1 rfl ?_
   refine ad 2 rfl ?_
   refine o 113 (.hs 97 0 [] 1 0 0) rfl rfl (e_buildSlice rfl (bs_mk (f := I) (xs := []) (z := I (0)) (es := []) (ws := []) rfl rfl rfl (by decide) rfl (abs_each_plain rfl) rfl)) ?_
   refine c0 6 [6, 14] [.hs 97 0 [] 1 0 0, .isl false ((list_1).map enc_Event)] 145 (by kernel_rfl) ?_
   refine o 161 (I ((len list_1))) rfl rfl (e_len rfl rfl rfl (l_isl rfl)) ?_
   refine c0 3 [16] [I (0)] 177 (by kernel_rfl) ?_
   obtain ⟨y7, hy7, hy71, hy72⟩ := bJ h
   refine s_loop rfl ?_
   refine run_forget [6, 14, 15, 16] [97] [⟨0, 1, []⟩] rfl rfl rfl rfl ?_
   refine impl_EventDays_la_run list_1 parties_2 rfl hy7 (fun r' e st hq => by rw [hy71 r' e] at hq; exact hq) (fun u7 hu => ?_)
   replace h := hy72 u7 hu
   refine c0 3 [26] [.hs 1 0 [] 1 0 ((u7).map I).length] 18 (by kernel_rfl) ?_
   obtain ⟨r8, hr8, h⟩ := bS h
   refine o 34 (.hs 18 0 [] 1 0 ((r8).map I).length) rfl rfl (e_callV rfl rfl (call_P rfl rfl rfl (avO (hd1 rfl (hd_hs (path := []) rfl rfl (ra_n) rfl)) (avN)) (slices_Compact_int_int_F hr8) (.inr rfl) (bl_c rfl rfl rfl bk_dead (bl_n)) rfl rfl rfl)) ?_
   refine c0 3 [4, 5] [.hs 18 0 [] 1 0 ((r8).map I).length, B (true)] 66 (by kernel_rfl) ?_
   obtain rfl := Option.some.inj h
   exact s_ret rfl ⟨_, fin (vs := [.hs 18 0 [] 1 0 ((r8).map I).length, B (true)]) rfl (absE (abs1 rfl (abs_hs rfl rfl)) (absE (absorb_plain rfl) (absEN))) rfl (ou_f (ou_f (ou_n))), kl_n⟩
theorem impl_EventDays_good {G : Go.Ln.Ground} : Good Tryd.prog G 27 impl_EventDays_ent := good_T (fnOf_good (gl_c impl_IsValidEvents_good (gl_c slices_Compact_int_int_good (gl_n)))) agree_mk (Checked.mixed Tryd.checked) Tryd.func27 (n := 2) (m := 0) ⟨rfl, rfl, by decide⟩ (fun _ => ⟨rfl, rfl⟩) (fun a r h => impl_EventDays_run a.1 a.2 r h)
def laws_eqIntS_A : ((List Int) × (List Int)) → List V := cA (slE I) (oA (slE I))
def laws_eqIntS_R (r : Bool) : V × List V := (B (r), [])
noncomputable def laws_eqIntS_ent : Ent := entT [false, false] laws_eqIntS_A laws_eqIntS_R fun x => laws_eqIntS x.1 x.2
theorem laws_eqIntS_F {a_1 : List Int} {b_2 : List Int} {r} (h : laws_eqIntS a_1 b_2 = some r) : (laws_eqIntS_ent).F (laws_eqIntS_A (a_1, b_2)) = some (laws_eqIntS_R r) := entT_F (cA_inj (isl_inj I_inj) (oA_inj (isl_inj I_inj))) h
noncomputable def laws_eqIntS_c : Code := bodyOf Tryd.f28
noncomputable def laws_eqIntS_E : Env := mkE Tryd.prog []
def laws_eqIntS_Q (x : (List Int) × (List Int)) (r : Bool) : St → Prop := QF laws_eqIntS_E Tryd.f28 [false, false] (laws_eqIntS_A x) (laws_eqIntS_R r)
theorem laws_eqIntS_la_run (a_1 : List Int) (b_2 : List Int)  {Q : St → Prop} {K : List It} (hK : noD K = true) {x3 : Int} {y : Bool ⊕ Unit} (h : laws_eqIntS_la a_1 b_2 x3 = some y) : (∀ r', y = .inl r' → ∀ st, laws_eqIntS_Q (a_1, b_2) r' st → Q st) → (∀ u : Unit, y = .inr u → Run laws_eqIntS_E 0 Q K ⟨mkTm .dead 26 [], mkS (rtL [] 1), 1⟩) → Run laws_eqIntS_E 0 Q (.code (cL (cL (cR (cL (cR (cR laws_eqIntS_c)))))) :: .lp (cL (cL (cR (cL (cR (cR laws_eqIntS_c)))))) :: .blk 0 :: K) ⟨mkTm .dead 26 [(0, .isl false ((a_1).map I)), (1, .isl false ((b_2).map I)), (5, I (x3))], mkS (rtL [] 1), 1⟩ := by
 refine fix_ind (P := fun (x3 : Int) (y : Bool ⊕ Unit) => (∀ r', y = .inl r' → ∀ st, laws_eqIntS_Q (a_1, b_2) r' st → Q st) → (∀ u : Unit, y = .inr u → Run laws_eqIntS_E 0 Q K ⟨mkTm .dead 26 [], mkS (rtL [] 1), 1⟩) → Run laws_eqIntS_E 0 Q (.code (cL (cL (cR (cL (cR (cR laws_eqIntS_c)))))) :: .lp (cL (cL (cR (cL (cR (cR laws_eqIntS_c)))))) :: .blk 0 :: K) ⟨mkTm .dead 26 [(0, .isl false ((a_1).map I)), (1, .isl false ((b_2).map I)), (5, I (x3))], mkS (rtL [] 1), 1⟩) (laws_eqIntS_la_fin a_1 b_2) ?_ h
 clear h y x3
 intro self ih x3 y h hr hn
 unfold laws_eqIntS_la_F at h
 refine c0 5 [11, 12] [I (x3), .isl false ((a_1).map I)] 33 (by kernel_rfl) ?_
 refine o 49 (I ((len a_1))) rfl rfl (e_len rfl rfl rfl (l_isl rfl)) ?_
 refine c0 2 [14] [B ((decide (x3 < (len a_1))))] 65 (by kernel_rfl) ?_
 refine sc h rfl rfl (fun h => ?_) (fun h => ?_)
 · refine ad 1 rfl ?_
   refine ad 3 rfl ?_
   refine s_draw [0, 0, 3, 7, 0, 0, 48, 112, 255] rfl (by decide +kernel) ?_
   refine dp [] [] (.isl false ((a_1).map I)) rfl (e_move rfl) rfl (rfl) (by decide) ?_
   refine dp [] [] (I (x3)) rfl (e_move rfl) rfl (rfl) (by decide) ?_
   obtain ⟨e4, he4, h⟩ := bS h
   refine dp [] [] (.iptr (I (e4)) 0) rfl (e_indexAddr rfl rfl rfl (ix_islE rfl rfl rfl rfl he4)) rfl (rfl) (by decide) ?_
   refine dp [] [] (I (e4)) rfl (e_ld rfl rfl) rfl (rfl) (by decide) ?_
   refine dp [] [] (.isl false ((b_2).map I)) rfl (e_move rfl) rfl (rfl) (by decide) ?_
   refine dp [] [] (I (x3)) rfl (e_move rfl) rfl (rfl) (by decide) ?_
   obtain ⟨e5, he5, h⟩ := bS h
   refine dp [] [] (.iptr (I (e5)) 0) rfl (e_indexAddr rfl rfl rfl (ix_islE rfl rfl rfl rfl he5)) rfl (rfl) (by decide) ?_
   refine dp [] [] (I (e5)) rfl (e_ld rfl rfl) rfl (rfl) (by decide) ?_
   refine dp [] [] (B ((e4 != e5))) rfl (e_bin rfl rfl rfl) rfl (rfl) (by decide) ?_
   refine de 209 rfl rfl ?_
   refine sc h rfl rfl (fun h => ?_) (fun h => ?_)
   · refine c0 4 [4] [B (false)] 225 (by kernel_rfl) ?_
     exact s_ret rfl (hr _ (Option.some.inj h).symm _ ⟨_, fin (vs := [B (false)]) rfl (absE (absorb_plain rfl) (absEN)) rfl (ou_f (ou_f (ou_n))), kl_n⟩)
   · refine ad 1 rfl ?_
     refine c0 6 [5] [I ((w64 (x3 + 1)))] 257 (by kernel_rfl) ?_
     refine s_lp ?_
     refine run_forget [0, 1, 5] [] [] rfl rfl rfl rfl ?_
     exact ih _ _ h hr hn
 · refine ad 1 rfl ?_
   refine run_forget [] [] [] rfl rfl rfl hK ?_
   exact hn _ (Option.some.inj h).symm
theorem laws_eqIntS_run (a_1 : List Int) (b_2 : List Int) (r : Bool) (h : laws_eqIntS a_1 b_2 = some r) : RunF laws_eqIntS_E Tryd.f28 [false, false] 0 (laws_eqIntS_A (a_1, b_2)) (laws_eqIntS_R r) := by
 show Run _ _ (laws_eqIntS_Q (a_1, b_2) r) [.code laws_eqIntS_c] _
 refine rin (n := 26) [(0, .isl false ((a_1).map I)), (1, .isl false ((b_2).map I))] [] 1 (by kernel_rfl) (by kernel_rfl) (by kernel_rfl) rfl ?_
 unfold laws_eqIntS at h
 refine c0 8 [6] [.isl false ((a_1).map I)] 33 (by kernel_rfl) ?_
 refine o 49 (I ((len a_1))) rfl rfl (e_len rfl rfl rfl (l_isl rfl)) ?_
 refine c0 1 [8] [.isl false ((b_2).map I)] 65 (by kernel_rfl) ?_
 refine o 81 (I ((len b_2))) rfl rfl (e_len rfl rfl rfl (l_isl rfl)) ?_
 refine c0 2 [10] [B (((len a_1) != (len b_2)))] 97 (by kernel_rfl) ?_
 refine sc h rfl rfl (fun h => ?_) (fun h => ?_)
 · refine c0 4 [4] [B (false)] 113 (by kernel_rfl) ?_
   obtain rfl := Option.some.inj h
   exact s_ret rfl ⟨_, fin (vs := [B (false)]) rfl (absE (absorb_plain rfl) (absEN)) rfl (ou_f (ou_f (ou_n))), kl_n⟩
 · refine ad 1 rfl ?_
   refine c0 6 [5] [I (0)] 113 (by kernel_rfl) ?_
   obtain ⟨y6, hy6, hy61, hy62⟩ := bJ h
   refine s_loop rfl ?_
   refine run_forget [0, 1, 5] [] [] rfl rfl rfl rfl ?_
   refine laws_eqIntS_la_run a_1 b_2 rfl hy6 (fun r' e st hq => by rw [hy61 r' e] at hq; exact hq) (fun u6 hu => ?_)
   replace h := hy62 u6 hu
   refine c0 4 [4] [B (true)] 17 (by kernel_rfl) ?_
   obtain rfl := Option.some.inj h
   exact s_ret rfl ⟨_, fin (vs := [B (true)]) rfl (absE (absorb_plain rfl) (absEN)) rfl (ou_f (ou_f (ou_n))), kl_n⟩
theorem laws_eqIntS_good {G : Go.Ln.Ground} : Good Tryd.prog G 28 laws_eqIntS_ent := good_T (fnOf_good (gl_n)) agree_mk (Checked.mixed Tryd.checked) Tryd.func28 (n := 2) (m := 0) ⟨rfl, rfl, by decide⟩ (fun _ => ⟨rfl, rfl⟩) (fun a r h => laws_eqIntS_run a.1 a.2 r h)
def laws_eqEvent_A : (Event × Event) → List V := cA enc_Event (oA enc_Event)
def laws_eqEvent_R (r : Bool) : V × List V := (B (r), [])
noncomputable def laws_eqEvent_ent : Ent := entT [false, false] laws_eqEvent_A laws_eqEvent_R fun x => laws_eqEvent x.1 x.2
theorem laws_eqEvent_F {a_1 : Event} {b_2 : Event} {r} (h : laws_eqEvent a_1 b_2 = some r) : (laws_eqEvent_ent).F (laws_eqEvent_A (a_1, b_2)) = some (laws_eqEvent_R r) := entT_F (cA_inj enc_Event_inj (oA_inj enc_Event_inj)) h
noncomputable def laws_eqEvent_c : Code := bodyOf Tryd.f53
noncomputable def laws_eqEvent_E : Env := mkE Tryd.prog []
def laws_eqEvent_Q (x : Event × Event) (r : Bool) : St → Prop := QF laws_eqEvent_E Tryd.f53 [false, false] (laws_eqEvent_A x) (laws_eqEvent_R r)
theorem laws_eqEvent_run (a_1 : Event) (b_2 : Event) (r : Bool) (h : laws_eqEvent a_1 b_2 = some r) : RunF laws_eqEvent_E Tryd.f53 [false, false] 0 (laws_eqEvent_A (a_1, b_2)) (laws_eqEvent_R r) := by
 show Run _ _ (laws_eqEvent_Q (a_1, b_2) r) [.code laws_eqEvent_c] _
 refine rin (n := 25) [(0, enc_Event a_1), (1, enc_Event b_2)] [] 1 (by kernel_rfl) (by kernel_rfl) (by kernel_rfl) rfl ?_
 unfold laws_eqEvent at h
 refine ck 15 [2, 3, 9] [] [1, 17] [] [.hp 1 0 [] 4 0 0, .hp 17 0 [] 4 0 0, B ((a_1.Day != b_2.Day))] [some ⟨0, 4, [enc_Event a_1]⟩, some ⟨0, 4, [enc_Event b_2]⟩] 129 (by kernel_rfl) ?_
 refine sc h rfl rfl (fun h => ?_) (fun h => ?_)
 · refine c0 4 [4] [B (false)] 145 (by kernel_rfl) ?_
   obtain rfl := Option.some.inj h
   exact s_ret rfl ⟨_, fin (vs := [B (false)]) rfl (absE (absorb_plain rfl) (absEN)) rfl (ou_f (ou_f (ou_n))), kl_n⟩
 · refine ad 1 rfl ?_
   refine c0 9 [14] [B ((a_1.Party != b_2.Party))] 209 (by kernel_rfl) ?_
   refine sc h rfl rfl (fun h => ?_) (fun h => ?_)
   · refine c0 4 [4] [B (false)] 225 (by kernel_rfl) ?_
     obtain rfl := Option.some.inj h
     exact s_ret rfl ⟨_, fin (vs := [B (false)]) rfl (absE (absorb_plain rfl) (absEN)) rfl (ou_f (ou_f (ou_n))), kl_n⟩
   · refine ad 1 rfl ?_
     refine c0 9 [19] [B ((!(a_1.Action == b_2.Action)))] 289 (by kernel_rfl) ?_
     refine sc h rfl rfl (fun h => ?_) (fun h => ?_)
     · refine c0 4 [4] [B (false)] 305 (by kernel_rfl) ?_
       obtain rfl := Option.some.inj h
       exact s_ret rfl ⟨_, fin (vs := [B (false)]) rfl (absE (absorb_plain rfl) (absEN)) rfl (ou_f (ou_f (ou_n))), kl_n⟩
     · refine ad 1 rfl ?_
       refine c0 9 [24] [B ((a_1.Amount != b_2.Amount))] 369 (by kernel_rfl) ?_
       refine sc h rfl rfl (fun h => ?_) (fun h => ?_)
       · refine c0 4 [4] [B (false)] 385 (by kernel_rfl) ?_
         obtain rfl := Option.some.inj h
         exact s_ret rfl ⟨_, fin (vs := [B (false)]) rfl (absE (absorb_plain rfl) (absEN)) rfl (ou_f (ou_f (ou_n))), kl_n⟩
       · refine ad 1 rfl ?_
         refine c0 4 [4] [B (true)] 385 (by kernel_rfl) ?_
         obtain rfl := Option.some.inj h
         exact s_ret rfl ⟨_, fin (vs := [B (true)]) rfl (absE (absorb_plain rfl) (absEN)) rfl (ou_f (ou_f (ou_n))), kl_n⟩
theorem laws_eqEvent_good {G : Go.Ln.Ground} : Good Tryd.prog G 53 laws_eqEvent_ent := good_T (fnOf_good (gl_n)) agree_mk (Checked.mixed Tryd.checked) Tryd.func53 (n := 2) (m := 0) ⟨rfl, rfl, by decide⟩ (fun _ => ⟨rfl, rfl⟩) (fun a r h => laws_eqEvent_run a.1 a.2 r h)
def laws_eqEventS_A : ((List Event) × (List Event)) → List V := cA (slE enc_Event) (oA (slE enc_Event))
def laws_eqEventS_R (r : Bool) : V × List V := (B (r), [])
noncomputable def laws_eqEventS_ent : Ent := entT [false, false] laws_eqEventS_A laws_eqEventS_R fun x => laws_eqEventS x.1 x.2
theorem laws_eqEventS_F {a_1 : List Event} {b_2 : List Event} {r} (h : laws_eqEventS a_1 b_2 = some r) : (laws_eqEventS_ent).F (laws_eqEventS_A (a_1, b_2)) = some (laws_eqEventS_R r) := entT_F (cA_inj (isl_inj enc_Event_inj) (oA_inj (isl_inj enc_Event_inj))) h
noncomputable def laws_eqEventS_c : Code := bodyOf Tryd.f17
noncomputable def laws_eqEventS_E : Env := mkE Tryd.prog [(53, laws_eqEvent_ent)]
def laws_eqEventS_Q (x : (List Event) × (List Event)) (r : Bool) : St → Prop := QF laws_eqEventS_E Tryd.f17 [false, false] (laws_eqEventS_A x) (laws_eqEventS_R r)
theorem laws_eqEventS_la_run (a_1 : List Event) (b_2 : List Event)  {Q : St → Prop} {K : List It} (hK : noD K = true) {x3 : Int} {y : Bool ⊕ Unit} (h : laws_eqEventS_la a_1 b_2 x3 = some y) : (∀ r', y = .inl r' → ∀ st, laws_eqEventS_Q (a_1, b_2) r' st → Q st) → (∀ u : Unit, y = .inr u → Run laws_eqEventS_E 0 Q K ⟨mkTm .dead 27 [], mkS (rtL [] 1), 1⟩) → Run laws_eqEventS_E 0 Q (.code (cL (cL (cR (cL (cR (cR laws_eqEventS_c)))))) :: .lp (cL (cL (cR (cL (cR (cR laws_eqEventS_c)))))) :: .blk 0 :: K) ⟨mkTm .dead 27 [(0, .isl false ((a_1).map enc_Event)), (1, .isl false ((b_2).map enc_Event)), (5, I (x3))], mkS (rtL [] 1), 1⟩ := by
 refine fix_ind (P := fun (x3 : Int) (y : Bool ⊕ Unit) => (∀ r', y = .inl r' → ∀ st, laws_eqEventS_Q (a_1, b_2) r' st → Q st) → (∀ u : Unit, y = .inr u → Run laws_eqEventS_E 0 Q K ⟨mkTm .dead 27 [], mkS (rtL [] 1), 1⟩) → Run laws_eqEventS_E 0 Q (.code (cL (cL (cR (cL (cR (cR laws_eqEventS_c)))))) :: .lp (cL (cL (cR (cL (cR (cR laws_eqEventS_c)))))) :: .blk 0 :: K) ⟨mkTm .dead 27 [(0, .isl false ((a_1).map enc_Event)), (1, .isl false ((b_2).map enc_Event)), (5, I (x3))], mkS (rtL [] 1), 1⟩) (laws_eqEventS_la_fin a_1 b_2) ?_ h
 clear h y x3
 intro self ih x3 y h hr hn
 unfold laws_eqEventS_la_F at h
 refine c0 5 [11, 12] [I (x3), .isl false ((a_1).map enc_Event)] 33 (by kernel_rfl) ?_
 refine o 49 (I ((len a_1))) rfl rfl (e_len rfl rfl rfl (l_isl rfl)) ?_
 refine c0 2 [14] [B ((decide (x3 < (len a_1))))] 65 (by kernel_rfl) ?_
 refine sc h rfl rfl (fun h => ?_) (fun h => ?_)
 · refine ad 1 rfl ?_
   refine ad 3 rfl ?_
   refine s_draw [0, 0, 3, 7, 0, 0, 48, 112, 255, 511] rfl (by decide +kernel) ?_
   refine dp [] [] (.isl false ((a_1).map enc_Event)) rfl (e_move rfl) rfl (rfl) (by decide) ?_
   refine dp [] [] (I (x3)) rfl (e_move rfl) rfl (rfl) (by decide) ?_
   obtain ⟨e4, he4, h⟩ := bS h
   refine dp [] [] (.iptr (enc_Event e4) 0) rfl (e_indexAddr rfl rfl rfl (ix_islE rfl rfl rfl rfl he4)) rfl (rfl) (by decide) ?_
   refine dp [] [] (enc_Event e4) rfl (e_ld rfl rfl) rfl (rfl) (by decide) ?_
   refine dp [] [] (.isl false ((b_2).map enc_Event)) rfl (e_move rfl) rfl (rfl) (by decide) ?_
   refine dp [] [] (I (x3)) rfl (e_move rfl) rfl (rfl) (by decide) ?_
   obtain ⟨e5, he5, h⟩ := bS h
   refine dp [] [] (.iptr (enc_Event e5) 0) rfl (e_indexAddr rfl rfl rfl (ix_islE rfl rfl rfl rfl he5)) rfl (rfl) (by decide) ?_
   refine dp [] [] (enc_Event e5) rfl (e_ld rfl rfl) rfl (rfl) (by decide) ?_
   obtain ⟨r6, hr6, h⟩ := bS h
   refine dp [] [] (B (r6)) rfl (e_callV rfl rfl (call_P rfl rfl rfl (avS (shP rfl) (avS (shP rfl) (avN))) (laws_eqEvent_F hr6) (.inr rfl) (bl_n) rfl rfl rfl)) rfl (w_callO rfl rfl rfl rfl (avS (shP rfl) (avS (shP rfl) (avN))) (laws_eqEvent_F hr6) (.inr rfl) rfl) (by decide) ?_
   refine dp [] [] (B ((!r6))) rfl (e_un rfl rfl) rfl (rfl) (by decide) ?_
   refine de 225 rfl rfl ?_
   refine sc h rfl rfl (fun h => ?_) (fun h => ?_)
   · refine c0 4 [4] [B (false)] 241 (by kernel_rfl) ?_
     exact s_ret rfl (hr _ (Option.some.inj h).symm _ ⟨_, fin (vs := [B (false)]) rfl (absE (absorb_plain rfl) (absEN)) rfl (ou_f (ou_f (ou_n))), kl_n⟩)
   · refine ad 1 rfl ?_
     refine c0 6 [5] [I ((w64 (x3 + 1)))] 273 (by kernel_rfl) ?_
     refine s_lp ?_
     refine run_forget [0, 1, 5] [] [] rfl rfl rfl rfl ?_
     exact ih _ _ h hr hn
 · refine ad 1 rfl ?_
   refine run_forget [] [] [] rfl rfl rfl hK ?_
   exact hn _ (Option.some.inj h).symm
theorem laws_eqEventS_run (a_1 : List Event) (b_2 : List Event) (r : Bool) (h : laws_eqEventS a_1 b_2 = some r) : RunF laws_eqEventS_E Tryd.f17 [false, false] 0 (laws_eqEventS_A (a_1, b_2)) (laws_eqEventS_R r) := by
 show Run _ _ (laws_eqEventS_Q (a_1, b_2) r) [.code laws_eqEventS_c] _
 refine rin (n := 27) [(0, .isl false ((a_1).map enc_Event)), (1, .isl false ((b_2).map enc_Event))] [] 1 (by kernel_rfl) (by kernel_rfl) (by kernel_rfl) rfl ?_
 unfold laws_eqEventS at h
 refine c0 8 [6] [.isl false ((a_1).map enc_Event)] 33 (by kernel_rfl) ?_
 refine o 49 (I ((len a_1))) rfl rfl (e_len rfl rfl rfl (l_isl rfl)) ?_
 refine c0 1 [8] [.isl false ((b_2).map enc_Event)] 65 (by kernel_rfl) ?_
 refine o 81 (I ((len b_2))) rfl rfl (e_len rfl rfl rfl (l_isl rfl)) ?_
 refine c0 2 [10] [B (((len a_1) != (len b_2)))] 97 (by kernel_rfl) ?_
 refine sc h rfl rfl (fun h => ?_) (fun h => ?_)
 · refine c0 4 [4] [B (false)] 113 (by kernel_rfl) ?_
   obtain rfl := Option.some.inj h
   exact s_ret rfl ⟨_, fin (vs := [B (false)]) rfl (absE (absorb_plain rfl) (absEN)) rfl (ou_f (ou_f (ou_n))), kl_n⟩
 · refine ad 1 rfl ?_
   refine c0 6 [5] [I (0)] 113 (by kernel_rfl) ?_
   obtain ⟨y7, hy7, hy71, hy72⟩ := bJ h
   refine s_loop rfl ?_
   refine run_forget [0, 1, 5] [] [] rfl rfl rfl rfl ?_
   refine laws_eqEventS_la_run a_1 b_2 rfl hy7 (fun r' e st hq => by rw [hy71 r' e] at hq; exact hq) (fun u7 hu => ?_)
   replace h := hy72 u7 hu
   refine c0 4 [4] [B (true)] 17 (by kernel_rfl) ?_
   obtain rfl := Option.some.inj h
   exact s_ret rfl ⟨_, fin (vs := [B (true)]) rfl (absE (absorb_plain rfl) (absEN)) rfl (ou_f (ou_f (ou_n))), kl_n⟩
theorem laws_eqEventS_good {G : Go.Ln.Ground} : Good Tryd.prog G 17 laws_eqEventS_ent := good_T (fnOf_good (gl_c laws_eqEvent_good (gl_n))) agree_mk (Checked.mixed Tryd.checked) Tryd.func17 (n := 2) (m := 0) ⟨rfl, rfl, by decide⟩ (fun _ => ⟨rfl, rfl⟩) (fun a r h => laws_eqEventS_run a.1 a.2 r h)
def laws_markText_A : Int → List V := oA I
def laws_markText_R (r : Str) : V × List V := (str (r), [])
noncomputable def laws_markText_ent : Ent := entT [false] laws_markText_A laws_markText_R fun x => laws_markText x
theorem laws_markText_F {k_1 : Int} {r} (h : laws_markText k_1 = some r) : (laws_markText_ent).F (laws_markText_A k_1) = some (laws_markText_R r) := entT_F (oA_inj I_inj) h
noncomputable def laws_markText_c : Code := bodyOf Tryd.f57
noncomputable def laws_markText_E : Env := mkE Tryd.prog []
def laws_markText_Q (x : Int) (r : Str) : St → Prop := QF laws_markText_E Tryd.f57 [false] (laws_markText_A x) (laws_markText_R r)
theorem laws_markText_la_run (k_1 : Int)  {Q : St → Prop} {K : List It} (hK : noD K = true) {x2 : Int × Str} {y : Str ⊕ Str} (h : laws_markText_la k_1 x2 = some y) : (∀ r', y = .inl r' → ∀ st, laws_markText_Q k_1 r' st → Q st) → (∀ u : Str, y = .inr u → Run laws_markText_E 0 Q K ⟨mkTm .dead 20 [(3, str (u))], mkS (rtL [] 1), 1⟩) → Run laws_markText_E 0 Q (.code (cL (cL (cL (cR (cR (cR laws_markText_c)))))) :: .lp (cL (cL (cL (cR (cR (cR laws_markText_c)))))) :: .blk 0 :: K) ⟨mkTm .dead 20 [(0, I (x2.1)), (3, str (x2.2))], mkS (rtL [] 1), 1⟩ := by
 refine fix_ind (P := fun (x2 : Int × Str) (y : Str ⊕ Str) => (∀ r', y = .inl r' → ∀ st, laws_markText_Q k_1 r' st → Q st) → (∀ u : Str, y = .inr u → Run laws_markText_E 0 Q K ⟨mkTm .dead 20 [(3, str (u))], mkS (rtL [] 1), 1⟩) → Run laws_markText_E 0 Q (.code (cL (cL (cL (cR (cR (cR laws_markText_c)))))) :: .lp (cL (cL (cL (cR (cR (cR laws_markText_c)))))) :: .blk 0 :: K) ⟨mkTm .dead 20 [(0, I (x2.1)), (3, str (x2.2))], mkS (rtL [] 1), 1⟩) (laws_markText_la_fin k_1) ?_ h
 clear h y x2
 intro self ih x2 y h hr hn
 unfold laws_markText_la_F at h
 refine c0 6 [7] [B ((decide (x2.1 > 0)))] 33 (by kernel_rfl) ?_
 refine sc h rfl rfl (fun h => ?_) (fun h => ?_)
 · refine ad 1 rfl ?_
   refine c0 7 [11] [.int .u8 ((IntKind.u8.wrap (w64 (48 + (x2.1.tmod 10)))))] 97 (by kernel_rfl) ?_
   refine o 113 (.hs 97 0 [] 1 0 1) rfl rfl (e_buildSlice rfl (bs_mk (f := I) (xs := []) (z := .int .u8 (0)) (es := [.int .u8 ((IntKind.u8.wrap (w64 (48 + (x2.1.tmod 10)))))]) (ws := [.int .u8 ((IntKind.u8.wrap (w64 (48 + (x2.1.tmod 10)))))]) rfl rfl rfl (by decide) rfl (abs_each_plain rfl) rfl)) ?_
   refine o 129 (str (([(IntKind.u8.wrap (w64 (48 + (x2.1.tmod 10))))].map fun n => UInt8.ofNat n.toNat))) rfl rfl (e_conv rfl (cv_bytes (xs := [(IntKind.u8.wrap (w64 (48 + (x2.1.tmod 10))))]) rfl rfl rfl (rw_hs (path := []) rfl rfl (ra_n) rfl))) ?_
   refine c0 1 [14] [str (x2.2)] 145 (by kernel_rfl) ?_
   obtain ⟨s3, hs3, h⟩ := bS h
   refine o 161 (str (s3)) rfl rfl (e_bin rfl rfl (b_cat hs3)) ?_
   refine c0 8 [0, 3] [I ((w64 (x2.1.tdiv 10))), str (s3)] 225 (by kernel_rfl) ?_
   refine s_lp ?_
   refine run_forget [0, 3] [] [] rfl rfl rfl rfl ?_
   exact ih _ _ h hr hn
 · refine ad 1 rfl ?_
   refine run_forget [3] [] [] rfl rfl rfl hK ?_
   exact hn _ (Option.some.inj h).symm
theorem laws_markText_run (k_1 : Int) (r : Str) (h : laws_markText k_1 = some r) : RunF laws_markText_E Tryd.f57 [false] 0 (laws_markText_A k_1) (laws_markText_R r) := by
 show Run _ _ (laws_markText_Q k_1 r) [.code laws_markText_c] _
 refine rin (n := 20) [(0, I (k_1))] [] 1 (by kernel_rfl) (by kernel_rfl) (by kernel_rfl) rfl ?_
 unfold laws_markText at h
 refine c0 10 [5] [B ((decide (k_1 ≤ 0)))] 49 (by kernel_rfl) ?_
 refine sc h rfl rfl (fun h => ?_) (fun h => ?_)
 · refine c0 4 [2] [str (([109, 48] : Str))] 65 (by kernel_rfl) ?_
   obtain rfl := Option.some.inj h
   exact s_ret rfl ⟨_, fin (vs := [str (([109, 48] : Str))]) rfl (absE (absorb_plain rfl) (absEN)) rfl (ou_f (ou_n)), kl_n⟩
 · refine ad 1 rfl ?_
   refine c0 6 [3] [str (([] : Str))] 65 (by kernel_rfl) ?_
   obtain ⟨y4, hy4, hy41, hy42⟩ := bJ h
   refine s_loop rfl ?_
   refine run_forget [0, 3] [] [] rfl rfl rfl rfl ?_
   refine laws_markText_la_run k_1 rfl hy4 (fun r' e st hq => by rw [hy41 r' e] at hq; exact hq) (fun u4 hu => ?_)
   replace h := hy42 u4 hu
   refine c0 3 [18] [str (u4)] 17 (by kernel_rfl) ?_
   obtain ⟨s5, hs5, h⟩ := bS h
   refine o 33 (str (s5)) rfl rfl (e_bin rfl rfl (b_cat hs5)) ?_
   refine c0 2 [2] [str (s5)] 49 (by kernel_rfl) ?_
   obtain rfl := Option.some.inj h
   exact s_ret rfl ⟨_, fin (vs := [str (s5)]) rfl (absE (absorb_plain rfl) (absEN)) rfl (ou_f (ou_n)), kl_n⟩
theorem laws_markText_good {G : Go.Ln.Ground} : Good Tryd.prog G 57 laws_markText_ent := good_T (fnOf_good (gl_n)) agree_mk (Checked.mixed Tryd.checked) Tryd.func57 (n := 1) (m := 0) ⟨rfl, rfl, by decide⟩ (fun _ => ⟨rfl, rfl⟩) (fun a r h => laws_markText_run a r h)
def laws_markEventS_A : ((List Event) × Int) → List V := cA (usE 4 enc_Event) (oA I)
def laws_markEventS_R (r : Int × (List Event)) : V × List V := (I (r.1), [.usl 4 ((r.2).map enc_Event)])
noncomputable def laws_markEventS_ent : Ent := entT [true, false] laws_markEventS_A laws_markEventS_R fun x => laws_markEventS x.1 x.2
theorem laws_markEventS_F {a_6 : List Event} {k_7 : Int} {r} (h : laws_markEventS a_6 k_7 = some r) : (laws_markEventS_ent).F (laws_markEventS_A (a_6, k_7)) = some (laws_markEventS_R r) := entT_F (cA_inj (usl_inj enc_Event_inj) (oA_inj I_inj)) h
noncomputable def laws_markEventS_c : Code := bodyOf Tryd.f22
noncomputable def laws_markEventS_E : Env := mkE Tryd.prog [(57, laws_markText_ent)]
def laws_markEventS_Q (x : (List Event) × Int) (r : Int × (List Event)) : St → Prop := QF laws_markEventS_E Tryd.f22 [true, false] (laws_markEventS_A x) (laws_markEventS_R r)
theorem laws_markEventS_la_run (a_6 : List Event) (k_7 : Int)  {Q : St → Prop} {K : List It} (hK : noD K = true) {x3 : Int × Int × (List Event)} {y : (Int × (List Event)) ⊕ (Int × (List Event))} (h : laws_markEventS_la a_6 k_7 x3 = some y) : (∀ r', y = .inl r' → ∀ st, laws_markEventS_Q (a_6, k_7) r' st → Q st) → (∀ u : Int × (List Event), y = .inr u → Run laws_markEventS_E 1 Q K ⟨mkTm .dead 42 [(1, I (u.1))], mkS (rtL [⟨0, 4, (u.2).map enc_Event⟩] 1), 2⟩) → Run laws_markEventS_E 1 Q (.code (cL (cL (cR (cL (cR laws_markEventS_c))))) :: .lp (cL (cL (cR (cL (cR laws_markEventS_c))))) :: .blk 0 :: K) ⟨mkTm .dead 42 [(0, .hs 1 0 [] 4 0 ((x3.2.2).map enc_Event).length), (1, I (x3.1)), (5, I (x3.2.1))], mkS (rtL [⟨0, 4, (x3.2.2).map enc_Event⟩] 1), 2⟩ := by
 refine fix_ind (P := fun (x3 : Int × Int × (List Event)) (y : (Int × (List Event)) ⊕ (Int × (List Event))) => (∀ r', y = .inl r' → ∀ st, laws_markEventS_Q (a_6, k_7) r' st → Q st) → (∀ u : Int × (List Event), y = .inr u → Run laws_markEventS_E 1 Q K ⟨mkTm .dead 42 [(1, I (u.1))], mkS (rtL [⟨0, 4, (u.2).map enc_Event⟩] 1), 2⟩) → Run laws_markEventS_E 1 Q (.code (cL (cL (cR (cL (cR laws_markEventS_c))))) :: .lp (cL (cL (cR (cL (cR laws_markEventS_c))))) :: .blk 0 :: K) ⟨mkTm .dead 42 [(0, .hs 1 0 [] 4 0 ((x3.2.2).map enc_Event).length), (1, I (x3.1)), (5, I (x3.2.1))], mkS (rtL [⟨0, 4, (x3.2.2).map enc_Event⟩] 1), 2⟩) (laws_markEventS_la_fin a_6 k_7) ?_ h
 clear h y x3
 intro self ih x3 y h hr hn
 unfold laws_markEventS_la_F at h
 refine c0 5 [6, 7] [I (x3.2.1), .hs 1 0 [] 4 0 ((x3.2.2).map enc_Event).length] 34 (by kernel_rfl) ?_
 refine o 50 (I ((len x3.2.2))) rfl rfl (e_len rfl rfl rfl (l_hsM (f := enc_Event) (xs := x3.2.2) rfl rfl)) ?_
 refine c0 2 [9] [B ((decide (x3.2.1 < (len x3.2.2))))] 66 (by kernel_rfl) ?_
 refine sc h rfl rfl (fun h => ?_) (fun h => ?_)
 · refine ad 1 rfl ?_
   refine c0 7 [12, 13, 14] [.hs 1 0 [] 4 0 ((x3.2.2).map enc_Event).length, I (x3.2.1), I (x3.1)] 114 (by kernel_rfl) ?_
   obtain ⟨e4, he4, h⟩ := bS h
   refine o 130 (.hp 1 0 [] 4 (0 + Int.toNat (x3.2.1)) 0) rfl rfl (e_indexAddr rfl rfl rfl (ix_hsM (f := enc_Event) (xs := x3.2.2) rfl rfl rfl he4)) ?_
   refine c0 1 [16] [.hp 1 0 [] 4 (0 + Int.toNat (x3.2.1)) 0] 146 (by kernel_rfl) ?_
   refine o0 162 rfl rfl (e_st rfl rfl (st_at (path := []) (pl := true) (e' := .agg [I (x3.1), I (e4.Party), str (e4.Action), I (e4.Amount)]) (es2' := ((setI x3.2.2 x3.2.1 (Event.mk x3.1 e4.Party e4.Action e4.Amount))).map enc_Event) rfl (absorb_plain rfl) rfl rfl rfl (ra_n) (get_map (f := enc_Event) (xs := x3.2.2) he4) rfl rfl rfl (set_map (f := enc_Event) (xs := x3.2.2) (y := (Event.mk x3.1 e4.Party e4.Action e4.Amount))) (sr_n) 0 rfl)) ?_
   try rw [← len_setM (f := enc_Event) (xs := x3.2.2) (i := x3.2.1) (z := (Event.mk x3.1 e4.Party e4.Action e4.Amount))]
   refine c0 12 [1, 19, 20, 21] [I ((w64 (x3.1 + 1))), .hs 1 0 [] 4 0 (((setI x3.2.2 x3.2.1 (Event.mk x3.1 e4.Party e4.Action e4.Amount))).map enc_Event).length, I (x3.2.1), I ((w64 (x3.1 + 1)))] 258 (by kernel_rfl) ?_
   obtain ⟨e5, he5, h⟩ := bS h
   refine o 274 (.hp 1 0 [] 4 (0 + Int.toNat (x3.2.1)) 0) rfl rfl (e_indexAddr rfl rfl rfl (ix_hsM (f := enc_Event) (xs := (setI x3.2.2 x3.2.1 (Event.mk x3.1 e4.Party e4.Action e4.Amount))) rfl rfl rfl he5)) ?_
   refine c0 1 [23] [.hp 1 0 [] 4 (0 + Int.toNat (x3.2.1)) 1] 290 (by kernel_rfl) ?_
   obtain ⟨w6, hw6⟩ : ∃ w, getI (setI (setI x3.2.2 x3.2.1 (Event.mk x3.1 e4.Party e4.Action e4.Amount)) x3.2.1 (Event.mk e5.Day (w64 (x3.1 + 1)) e5.Action e5.Amount)) x3.2.1 = some w := get_exI (get_set he4)
   refine o0 306 rfl rfl (e_st rfl rfl (st_at (path := []) (pl := true) (e' := .agg [I (e5.Day), I ((w64 (x3.1 + 1))), str (e5.Action), I (e5.Amount)]) (es2' := ((setI (setI x3.2.2 x3.2.1 (Event.mk x3.1 e4.Party e4.Action e4.Amount)) x3.2.1 (Event.mk e5.Day (w64 (x3.1 + 1)) e5.Action e5.Amount))).map enc_Event) rfl (absorb_plain rfl) rfl rfl rfl (ra_n) (get_map (f := enc_Event) (xs := (setI x3.2.2 x3.2.1 (Event.mk x3.1 e4.Party e4.Action e4.Amount))) he5) rfl rfl rfl (set_map (f := enc_Event) (xs := (setI x3.2.2 x3.2.1 (Event.mk x3.1 e4.Party e4.Action e4.Amount))) (y := (Event.mk e5.Day (w64 (x3.1 + 1)) e5.Action e5.Amount))) (sr_n) 0 rfl)) ?_
   try rw [← len_setM (f := enc_Event) (xs := (setI x3.2.2 x3.2.1 (Event.mk x3.1 e4.Party e4.Action e4.Amount))) (i := x3.2.1) (z := (Event.mk e5.Day (w64 (x3.1 + 1)) e5.Action e5.Amount))]
   refine c0 12 [1, 26, 27, 28] [I ((w64 ((w64 (x3.1 + 1)) + 1))), .hs 1 0 [] 4 0 (((setI (setI x3.2.2 x3.2.1 (Event.mk x3.1 e4.Party e4.Action e4.Amount)) x3.2.1 (Event.mk e5.Day (w64 (x3.1 + 1)) e5.Action e5.Amount))).map enc_Event).length, I (x3.2.1), I ((w64 ((w64 (x3.1 + 1)) + 1)))] 402 (by kernel_rfl) ?_
   obtain ⟨r7, hr7, h⟩ := bS h
   refine o 418 (str (r7)) rfl rfl (e_callV rfl rfl (call_P rfl rfl rfl (avS (shP rfl) (avN)) (laws_markText_F hr7) (.inr rfl) (bl_n) rfl rfl rfl)) ?_
   obtain ⟨e8, he8, h⟩ := bS h
   refine o 434 (.hp 1 0 [] 4 (0 + Int.toNat (x3.2.1)) 0) rfl rfl (e_indexAddr rfl rfl rfl (ix_hsM (f := enc_Event) (xs := (setI (setI x3.2.2 x3.2.1 (Event.mk x3.1 e4.Party e4.Action e4.Amount)) x3.2.1 (Event.mk e5.Day (w64 (x3.1 + 1)) e5.Action e5.Amount))) rfl rfl rfl he8)) ?_
   refine c0 1 [31] [.hp 1 0 [] 4 (0 + Int.toNat (x3.2.1)) 2] 450 (by kernel_rfl) ?_
   obtain ⟨w9, hw9⟩ : ∃ w, getI (setI (setI (setI x3.2.2 x3.2.1 (Event.mk x3.1 e4.Party e4.Action e4.Amount)) x3.2.1 (Event.mk e5.Day (w64 (x3.1 + 1)) e5.Action e5.Amount)) x3.2.1 (Event.mk e8.Day e8.Party r7 e8.Amount)) x3.2.1 = some w := get_exI hw6
   obtain ⟨w10, hw10⟩ : ∃ w, getI (setI (setI (setI x3.2.2 x3.2.1 (Event.mk x3.1 e4.Party e4.Action e4.Amount)) x3.2.1 (Event.mk e5.Day (w64 (x3.1 + 1)) e5.Action e5.Amount)) x3.2.1 (Event.mk e8.Day e8.Party r7 e8.Amount)) x3.2.1 = some w := get_exI (get_set he5)
   refine o0 466 rfl rfl (e_st rfl rfl (st_at (path := []) (pl := true) (e' := .agg [I (e8.Day), I (e8.Party), str (r7), I (e8.Amount)]) (es2' := ((setI (setI (setI x3.2.2 x3.2.1 (Event.mk x3.1 e4.Party e4.Action e4.Amount)) x3.2.1 (Event.mk e5.Day (w64 (x3.1 + 1)) e5.Action e5.Amount)) x3.2.1 (Event.mk e8.Day e8.Party r7 e8.Amount))).map enc_Event) rfl (absorb_plain rfl) rfl rfl rfl (ra_n) (get_map (f := enc_Event) (xs := (setI (setI x3.2.2 x3.2.1 (Event.mk x3.1 e4.Party e4.Action e4.Amount)) x3.2.1 (Event.mk e5.Day (w64 (x3.1 + 1)) e5.Action e5.Amount))) he8) rfl rfl rfl (set_map (f := enc_Event) (xs := (setI (setI x3.2.2 x3.2.1 (Event.mk x3.1 e4.Party e4.Action e4.Amount)) x3.2.1 (Event.mk e5.Day (w64 (x3.1 + 1)) e5.Action e5.Amount))) (y := (Event.mk e8.Day e8.Party r7 e8.Amount))) (sr_n) 0 rfl)) ?_
   try rw [← len_setM (f := enc_Event) (xs := (setI (setI x3.2.2 x3.2.1 (Event.mk x3.1 e4.Party e4.Action e4.Amount)) x3.2.1 (Event.mk e5.Day (w64 (x3.1 + 1)) e5.Action e5.Amount))) (i := x3.2.1) (z := (Event.mk e8.Day e8.Party r7 e8.Amount))]
   refine c0 12 [1, 34, 35, 36] [I ((w64 ((w64 ((w64 (x3.1 + 1)) + 1)) + 1))), .hs 1 0 [] 4 0 (((setI (setI (setI x3.2.2 x3.2.1 (Event.mk x3.1 e4.Party e4.Action e4.Amount)) x3.2.1 (Event.mk e5.Day (w64 (x3.1 + 1)) e5.Action e5.Amount)) x3.2.1 (Event.mk e8.Day e8.Party r7 e8.Amount))).map enc_Event).length, I (x3.2.1), I ((w64 ((w64 ((w64 (x3.1 + 1)) + 1)) + 1)))] 562 (by kernel_rfl) ?_
   obtain ⟨e11, he11, h⟩ := bS h
   refine o 578 (.hp 1 0 [] 4 (0 + Int.toNat (x3.2.1)) 0) rfl rfl (e_indexAddr rfl rfl rfl (ix_hsM (f := enc_Event) (xs := (setI (setI (setI x3.2.2 x3.2.1 (Event.mk x3.1 e4.Party e4.Action e4.Amount)) x3.2.1 (Event.mk e5.Day (w64 (x3.1 + 1)) e5.Action e5.Amount)) x3.2.1 (Event.mk e8.Day e8.Party r7 e8.Amount))) rfl rfl rfl he11)) ?_
   refine c0 1 [38] [.hp 1 0 [] 4 (0 + Int.toNat (x3.2.1)) 3] 594 (by kernel_rfl) ?_
   obtain ⟨w12, hw12⟩ : ∃ w, getI (setI (setI (setI (setI x3.2.2 x3.2.1 (Event.mk x3.1 e4.Party e4.Action e4.Amount)) x3.2.1 (Event.mk e5.Day (w64 (x3.1 + 1)) e5.Action e5.Amount)) x3.2.1 (Event.mk e8.Day e8.Party r7 e8.Amount)) x3.2.1 (Event.mk e11.Day e11.Party e11.Action (w64 ((w64 ((w64 (x3.1 + 1)) + 1)) + 1)))) x3.2.1 = some w := get_exI hw9
   obtain ⟨w13, hw13⟩ : ∃ w, getI (setI (setI (setI (setI x3.2.2 x3.2.1 (Event.mk x3.1 e4.Party e4.Action e4.Amount)) x3.2.1 (Event.mk e5.Day (w64 (x3.1 + 1)) e5.Action e5.Amount)) x3.2.1 (Event.mk e8.Day e8.Party r7 e8.Amount)) x3.2.1 (Event.mk e11.Day e11.Party e11.Action (w64 ((w64 ((w64 (x3.1 + 1)) + 1)) + 1)))) x3.2.1 = some w := get_exI hw10
   obtain ⟨w14, hw14⟩ : ∃ w, getI (setI (setI (setI (setI x3.2.2 x3.2.1 (Event.mk x3.1 e4.Party e4.Action e4.Amount)) x3.2.1 (Event.mk e5.Day (w64 (x3.1 + 1)) e5.Action e5.Amount)) x3.2.1 (Event.mk e8.Day e8.Party r7 e8.Amount)) x3.2.1 (Event.mk e11.Day e11.Party e11.Action (w64 ((w64 ((w64 (x3.1 + 1)) + 1)) + 1)))) x3.2.1 = some w := get_exI (get_set he8)
   refine o0 610 rfl rfl (e_st rfl rfl (st_at (path := []) (pl := true) (e' := .agg [I (e11.Day), I (e11.Party), str (e11.Action), I ((w64 ((w64 ((w64 (x3.1 + 1)) + 1)) + 1)))]) (es2' := ((setI (setI (setI (setI x3.2.2 x3.2.1 (Event.mk x3.1 e4.Party e4.Action e4.Amount)) x3.2.1 (Event.mk e5.Day (w64 (x3.1 + 1)) e5.Action e5.Amount)) x3.2.1 (Event.mk e8.Day e8.Party r7 e8.Amount)) x3.2.1 (Event.mk e11.Day e11.Party e11.Action (w64 ((w64 ((w64 (x3.1 + 1)) + 1)) + 1))))).map enc_Event) rfl (absorb_plain rfl) rfl rfl rfl (ra_n) (get_map (f := enc_Event) (xs := (setI (setI (setI x3.2.2 x3.2.1 (Event.mk x3.1 e4.Party e4.Action e4.Amount)) x3.2.1 (Event.mk e5.Day (w64 (x3.1 + 1)) e5.Action e5.Amount)) x3.2.1 (Event.mk e8.Day e8.Party r7 e8.Amount))) he11) rfl rfl rfl (set_map (f := enc_Event) (xs := (setI (setI (setI x3.2.2 x3.2.1 (Event.mk x3.1 e4.Party e4.Action e4.Amount)) x3.2.1 (Event.mk e5.Day (w64 (x3.1 + 1)) e5.Action e5.Amount)) x3.2.1 (Event.mk e8.Day e8.Party r7 e8.Amount))) (y := (Event.mk e11.Day e11.Party e11.Action (w64 ((w64 ((w64 (x3.1 + 1)) + 1)) + 1))))) (sr_n) 0 rfl)) ?_
   try rw [← len_setM (f := enc_Event) (xs := (setI (setI (setI x3.2.2 x3.2.1 (Event.mk x3.1 e4.Party e4.Action e4.Amount)) x3.2.1 (Event.mk e5.Day (w64 (x3.1 + 1)) e5.Action e5.Amount)) x3.2.1 (Event.mk e8.Day e8.Party r7 e8.Amount))) (i := x3.2.1) (z := (Event.mk e11.Day e11.Party e11.Action (w64 ((w64 ((w64 (x3.1 + 1)) + 1)) + 1))))]
   refine c0 12 [1, 5] [I ((w64 ((w64 ((w64 ((w64 (x3.1 + 1)) + 1)) + 1)) + 1))), I ((w64 (x3.2.1 + 1)))] 706 (by kernel_rfl) ?_
   refine s_lp ?_
   refine run_forget [0, 1, 5] [1] [⟨0, 4, ((setI (setI (setI (setI x3.2.2 x3.2.1 (Event.mk x3.1 e4.Party e4.Action e4.Amount)) x3.2.1 (Event.mk e5.Day (w64 (x3.1 + 1)) e5.Action e5.Amount)) x3.2.1 (Event.mk e8.Day e8.Party r7 e8.Amount)) x3.2.1 (Event.mk e11.Day e11.Party e11.Action (w64 ((w64 ((w64 (x3.1 + 1)) + 1)) + 1))))).map enc_Event⟩] rfl rfl rfl rfl ?_
   exact ih _ _ h hr hn
 · refine ad 1 rfl ?_
   refine run_forget [1] [1] [⟨0, 4, (x3.2.2).map enc_Event⟩] rfl rfl rfl hK ?_
   exact hn _ (Option.some.inj h).symm
theorem laws_markEventS_run (a_6 : List Event) (k_7 : Int) (r : Int × (List Event)) (h : laws_markEventS a_6 k_7 = some r) : RunF laws_markEventS_E Tryd.f22 [true, false] 1 (laws_markEventS_A (a_6, k_7)) (laws_markEventS_R r) := by
 show Run _ _ (laws_markEventS_Q (a_6, k_7) r) [.code laws_markEventS_c] _
 refine rin (n := 42) [(0, .hs 1 0 [] 4 0 ((a_6).map enc_Event).length), (1, I (k_7))] [(1, some ⟨0, 4, (a_6).map enc_Event⟩)] 2 (by kernel_rfl) (by kernel_rfl) (by kernel_rfl) rfl ?_
 unfold laws_markEventS at h
 refine c0 10 [5] [I (0)] 34 (by kernel_rfl) ?_
 obtain ⟨y15, hy15, hy151, hy152⟩ := bJ h
 refine s_loop rfl ?_
 refine run_forget [0, 1, 5] [1] [⟨0, 4, (a_6).map enc_Event⟩] rfl rfl rfl rfl ?_
 refine laws_markEventS_la_run a_6 k_7 rfl hy15 (fun r' e st hq => by rw [hy151 r' e] at hq; exact hq) (fun u15 hu => ?_)
 replace h := hy152 u15 hu
 refine c0 5 [4] [I (u15.1)] 34 (by kernel_rfl) ?_
 obtain ⟨g16, h⟩ := gG h
 obtain rfl := Option.some.inj h
 exact s_ret rfl ⟨_, fin (vs := [I (u15.1)]) rfl (absE (absorb_plain rfl) (absEN)) rfl (ou_1 rfl (oc_hsG (f := enc_Event) (xs := u15.2) (by simpa using g16) rfl) (ou_f (ou_n))), kl_c (kl_n)⟩
theorem laws_markEventS_good {G : Go.Ln.Ground} : Good Tryd.prog G 22 laws_markEventS_ent := good_T (fnOf_good (gl_c laws_markText_good (gl_n))) agree_mk (Checked.mixed Tryd.checked) Tryd.func22 (n := 2) (m := 1) ⟨rfl, rfl, by decide⟩ (fun _ => ⟨rfl, rfl⟩) (fun a r h => laws_markEventS_run a.1 a.2 r h)
def laws_markIntS_A : ((List Int) × Int) → List V := cA (usE 1 I) (oA I)
def laws_markIntS_R (r : Int × (List Int)) : V × List V := (I (r.1), [.usl 1 ((r.2).map I)])
noncomputable def laws_markIntS_ent : Ent := entT [true, false] laws_markIntS_A laws_markIntS_R fun x => laws_markIntS x.1 x.2
theorem laws_markIntS_F {a_6 : List Int} {k_7 : Int} {r} (h : laws_markIntS a_6 k_7 = some r) : (laws_markIntS_ent).F (laws_markIntS_A (a_6, k_7)) = some (laws_markIntS_R r) := entT_F (cA_inj (usl_inj I_inj) (oA_inj I_inj)) h
noncomputable def laws_markIntS_c : Code := bodyOf Tryd.f29
noncomputable def laws_markIntS_E : Env := mkE Tryd.prog []
def laws_markIntS_Q (x : (List Int) × Int) (r : Int × (List Int)) : St → Prop := QF laws_markIntS_E Tryd.f29 [true, false] (laws_markIntS_A x) (laws_markIntS_R r)
theorem laws_markIntS_la_run (a_6 : List Int) (k_7 : Int)  {Q : St → Prop} {K : List It} (hK : noD K = true) {x3 : Int × Int × (List Int)} {y : (Int × (List Int)) ⊕ (Int × (List Int))} (h : laws_markIntS_la a_6 k_7 x3 = some y) : (∀ r', y = .inl r' → ∀ st, laws_markIntS_Q (a_6, k_7) r' st → Q st) → (∀ u : Int × (List Int), y = .inr u → Run laws_markIntS_E 1 Q K ⟨mkTm .dead 19 [(1, I (u.1))], mkS (rtL [⟨0, 1, (u.2).map I⟩] 1), 2⟩) → Run laws_markIntS_E 1 Q (.code (cL (cL (cR (cL (cR laws_markIntS_c))))) :: .lp (cL (cL (cR (cL (cR laws_markIntS_c))))) :: .blk 0 :: K) ⟨mkTm .dead 19 [(0, .hs 1 0 [] 1 0 ((x3.2.2).map I).length), (1, I (x3.1)), (5, I (x3.2.1))], mkS (rtL [⟨0, 1, (x3.2.2).map I⟩] 1), 2⟩ := by
 refine fix_ind (P := fun (x3 : Int × Int × (List Int)) (y : (Int × (List Int)) ⊕ (Int × (List Int))) => (∀ r', y = .inl r' → ∀ st, laws_markIntS_Q (a_6, k_7) r' st → Q st) → (∀ u : Int × (List Int), y = .inr u → Run laws_markIntS_E 1 Q K ⟨mkTm .dead 19 [(1, I (u.1))], mkS (rtL [⟨0, 1, (u.2).map I⟩] 1), 2⟩) → Run laws_markIntS_E 1 Q (.code (cL (cL (cR (cL (cR laws_markIntS_c))))) :: .lp (cL (cL (cR (cL (cR laws_markIntS_c))))) :: .blk 0 :: K) ⟨mkTm .dead 19 [(0, .hs 1 0 [] 1 0 ((x3.2.2).map I).length), (1, I (x3.1)), (5, I (x3.2.1))], mkS (rtL [⟨0, 1, (x3.2.2).map I⟩] 1), 2⟩) (laws_markIntS_la_fin a_6 k_7) ?_ h
 clear h y x3
 intro self ih x3 y h hr hn
 unfold laws_markIntS_la_F at h
 refine c0 5 [6, 7] [I (x3.2.1), .hs 1 0 [] 1 0 ((x3.2.2).map I).length] 34 (by kernel_rfl) ?_
 refine o 50 (I ((len x3.2.2))) rfl rfl (e_len rfl rfl rfl (l_hsM (f := I) (xs := x3.2.2) rfl rfl)) ?_
 refine c0 2 [9] [B ((decide (x3.2.1 < (len x3.2.2))))] 66 (by kernel_rfl) ?_
 refine sc h rfl rfl (fun h => ?_) (fun h => ?_)
 · refine ad 1 rfl ?_
   refine c0 7 [12, 13, 14] [.hs 1 0 [] 1 0 ((x3.2.2).map I).length, I (x3.2.1), I (x3.1)] 114 (by kernel_rfl) ?_
   obtain ⟨e4, he4, h⟩ := bS h
   refine o 130 (.hp 1 0 [] 1 (0 + Int.toNat (x3.2.1)) 0) rfl rfl (e_indexAddr rfl rfl rfl (ix_hsM (f := I) (xs := x3.2.2) rfl rfl rfl he4)) ?_
   refine o0 146 rfl rfl (e_st rfl rfl (st_at (path := []) (pl := true) (e' := I (x3.1)) (es2' := ((setI x3.2.2 x3.2.1 x3.1)).map I) rfl (absorb_plain rfl) rfl rfl rfl (ra_n) (get_map (f := I) (xs := x3.2.2) he4) rfl rfl rfl (set_map (f := I) (xs := x3.2.2) (y := x3.1)) (sr_n) 0 rfl)) ?_
   try rw [← len_setM (f := I) (xs := x3.2.2) (i := x3.2.1) (z := x3.1)]
   refine c0 12 [1, 5] [I ((w64 (x3.1 + 1))), I ((w64 (x3.2.1 + 1)))] 242 (by kernel_rfl) ?_
   refine s_lp ?_
   refine run_forget [0, 1, 5] [1] [⟨0, 1, ((setI x3.2.2 x3.2.1 x3.1)).map I⟩] rfl rfl rfl rfl ?_
   exact ih _ _ h hr hn
 · refine ad 1 rfl ?_
   refine run_forget [1] [1] [⟨0, 1, (x3.2.2).map I⟩] rfl rfl rfl hK ?_
   exact hn _ (Option.some.inj h).symm
theorem laws_markIntS_run (a_6 : List Int) (k_7 : Int) (r : Int × (List Int)) (h : laws_markIntS a_6 k_7 = some r) : RunF laws_markIntS_E Tryd.f29 [true, false] 1 (laws_markIntS_A (a_6, k_7)) (laws_markIntS_R r) := by
 show Run _ _ (laws_markIntS_Q (a_6, k_7) r) [.code laws_markIntS_c] _
 refine rin (n := 19) [(0, .hs 1 0 [] 1 0 ((a_6).map I).length), (1, I (k_7))] [(1, some ⟨0, 1, (a_6).map I⟩)] 2 (by kernel_rfl) (by kernel_rfl) (by kernel_rfl) rfl ?_
 unfold laws_markIntS at h
 refine c0 10 [5] [I (0)] 34 (by kernel_rfl) ?_
 obtain ⟨y5, hy5, hy51, hy52⟩ := bJ h
 refine s_loop rfl ?_
 refine run_forget [0, 1, 5] [1] [⟨0, 1, (a_6).map I⟩] rfl rfl rfl rfl ?_
 refine laws_markIntS_la_run a_6 k_7 rfl hy5 (fun r' e st hq => by rw [hy51 r' e] at hq; exact hq) (fun u5 hu => ?_)
 replace h := hy52 u5 hu
 refine c0 5 [4] [I (u5.1)] 34 (by kernel_rfl) ?_
 obtain ⟨g6, h⟩ := gG h
 obtain rfl := Option.some.inj h
 exact s_ret rfl ⟨_, fin (vs := [I (u5.1)]) rfl (absE (absorb_plain rfl) (absEN)) rfl (ou_1 rfl (oc_hsG (f := I) (xs := u5.2) (by simpa using g6) rfl) (ou_f (ou_n))), kl_c (kl_n)⟩
theorem laws_markIntS_good {G : Go.Ln.Ground} : Good Tryd.prog G 29 laws_markIntS_ent := good_T (fnOf_good (gl_n)) agree_mk (Checked.mixed Tryd.checked) Tryd.func29 (n := 2) (m := 1) ⟨rfl, rfl, by decide⟩ (fun _ => ⟨rfl, rfl⟩) (fun a r h => laws_markIntS_run a.1 a.2 r h)
def laws_heldIntS_A : ((List Int) × Int) → List V := cA (slE I) (oA I)
def laws_heldIntS_R (r : Int) : V × List V := (I (r), [])
noncomputable def laws_heldIntS_ent : Ent := entT [false, false] laws_heldIntS_A laws_heldIntS_R fun x => laws_heldIntS x.1 x.2
theorem laws_heldIntS_F {a_1 : List Int} {k_2 : Int} {r} (h : laws_heldIntS a_1 k_2 = some r) : (laws_heldIntS_ent).F (laws_heldIntS_A (a_1, k_2)) = some (laws_heldIntS_R r) := entT_F (cA_inj (isl_inj I_inj) (oA_inj I_inj)) h
noncomputable def laws_heldIntS_c : Code := bodyOf Tryd.f30
noncomputable def laws_heldIntS_E : Env := mkE Tryd.prog []
def laws_heldIntS_Q (x : (List Int) × Int) (r : Int) : St → Prop := QF laws_heldIntS_E Tryd.f30 [false, false] (laws_heldIntS_A x) (laws_heldIntS_R r)
theorem laws_heldIntS_la_run (a_1 : List Int) (k_2 : Int)  {Q : St → Prop} {K : List It} (hK : noD K = true) {x3 : Int × Int} {y : Int ⊕ Int} (h : laws_heldIntS_la a_1 k_2 x3 = some y) : (∀ r', y = .inl r' → ∀ st, laws_heldIntS_Q (a_1, k_2) r' st → Q st) → (∀ u : Int, y = .inr u → Run laws_heldIntS_E 0 Q K ⟨mkTm .dead 21 [(1, I (u))], mkS (rtL [] 1), 1⟩) → Run laws_heldIntS_E 0 Q (.code (cL (cL (cR (cL (cR laws_heldIntS_c))))) :: .lp (cL (cL (cR (cL (cR laws_heldIntS_c))))) :: .blk 0 :: K) ⟨mkTm .dead 21 [(0, .isl false ((a_1).map I)), (1, I (x3.1)), (5, I (x3.2))], mkS (rtL [] 1), 1⟩ := by
 refine fix_ind (P := fun (x3 : Int × Int) (y : Int ⊕ Int) => (∀ r', y = .inl r' → ∀ st, laws_heldIntS_Q (a_1, k_2) r' st → Q st) → (∀ u : Int, y = .inr u → Run laws_heldIntS_E 0 Q K ⟨mkTm .dead 21 [(1, I (u))], mkS (rtL [] 1), 1⟩) → Run laws_heldIntS_E 0 Q (.code (cL (cL (cR (cL (cR laws_heldIntS_c))))) :: .lp (cL (cL (cR (cL (cR laws_heldIntS_c))))) :: .blk 0 :: K) ⟨mkTm .dead 21 [(0, .isl false ((a_1).map I)), (1, I (x3.1)), (5, I (x3.2))], mkS (rtL [] 1), 1⟩) (laws_heldIntS_la_fin a_1 k_2) ?_ h
 clear h y x3
 intro self ih x3 y h hr hn
 unfold laws_heldIntS_la_F at h
 refine c0 5 [6, 7] [I (x3.2), .isl false ((a_1).map I)] 33 (by kernel_rfl) ?_
 refine o 49 (I ((len a_1))) rfl rfl (e_len rfl rfl rfl (l_isl rfl)) ?_
 refine c0 2 [9] [B ((decide (x3.2 < (len a_1))))] 65 (by kernel_rfl) ?_
 refine sc h rfl rfl (fun h => ?_) (fun h => ?_)
 · refine ad 1 rfl ?_
   refine c0 7 [12, 13] [.isl false ((a_1).map I), I (x3.2)] 97 (by kernel_rfl) ?_
   obtain ⟨e4, he4, h⟩ := bS h
   refine o 113 (.iptr (I (e4)) 0) rfl rfl (e_indexAddr rfl rfl rfl (ix_islE rfl rfl rfl rfl he4)) ?_
   refine c0 4 [17] [B ((e4 != x3.1))] 161 (by kernel_rfl) ?_
   refine sc h rfl rfl (fun h => ?_) (fun h => ?_)
   · refine c0 4 [4] [I ((-1))] 177 (by kernel_rfl) ?_
     exact s_ret rfl (hr _ (Option.some.inj h).symm _ ⟨_, fin (vs := [I ((-1))]) rfl (absE (absorb_plain rfl) (absEN)) rfl (ou_f (ou_f (ou_n))), kl_n⟩)
   · refine ad 1 rfl ?_
     refine c0 11 [1, 5] [I ((w64 (x3.1 + 1))), I ((w64 (x3.2 + 1)))] 257 (by kernel_rfl) ?_
     refine s_lp ?_
     refine run_forget [0, 1, 5] [] [] rfl rfl rfl rfl ?_
     exact ih _ _ h hr hn
 · refine ad 1 rfl ?_
   refine run_forget [1] [] [] rfl rfl rfl hK ?_
   exact hn _ (Option.some.inj h).symm
theorem laws_heldIntS_run (a_1 : List Int) (k_2 : Int) (r : Int) (h : laws_heldIntS a_1 k_2 = some r) : RunF laws_heldIntS_E Tryd.f30 [false, false] 0 (laws_heldIntS_A (a_1, k_2)) (laws_heldIntS_R r) := by
 show Run _ _ (laws_heldIntS_Q (a_1, k_2) r) [.code laws_heldIntS_c] _
 refine rin (n := 21) [(0, .isl false ((a_1).map I)), (1, I (k_2))] [] 1 (by kernel_rfl) (by kernel_rfl) (by kernel_rfl) rfl ?_
 unfold laws_heldIntS at h
 refine c0 10 [5] [I (0)] 33 (by kernel_rfl) ?_
 obtain ⟨y5, hy5, hy51, hy52⟩ := bJ h
 refine s_loop rfl ?_
 refine run_forget [0, 1, 5] [] [] rfl rfl rfl rfl ?_
 refine laws_heldIntS_la_run a_1 k_2 rfl hy5 (fun r' e st hq => by rw [hy51 r' e] at hq; exact hq) (fun u5 hu => ?_)
 replace h := hy52 u5 hu
 refine c0 5 [4] [I (u5)] 33 (by kernel_rfl) ?_
 obtain rfl := Option.some.inj h
 exact s_ret rfl ⟨_, fin (vs := [I (u5)]) rfl (absE (absorb_plain rfl) (absEN)) rfl (ou_f (ou_f (ou_n))), kl_n⟩
theorem laws_heldIntS_good {G : Go.Ln.Ground} : Good Tryd.prog G 30 laws_heldIntS_ent := good_T (fnOf_good (gl_n)) agree_mk (Checked.mixed Tryd.checked) Tryd.func30 (n := 2) (m := 0) ⟨rfl, rfl, by decide⟩ (fun _ => ⟨rfl, rfl⟩) (fun a r h => laws_heldIntS_run a.1 a.2 r h)
def laws_FnExactEventDays_A : ((List Event) × Int) → List V := cA (slE enc_Event) (oA I)
def laws_FnExactEventDays_R (r : Bool) : V × List V := (B (r), [])
noncomputable def laws_FnExactEventDays_ent : Ent := entT [false, false] laws_FnExactEventDays_A laws_FnExactEventDays_R fun x => laws_FnExactEventDays x.1 x.2
theorem laws_FnExactEventDays_F {aList_1 : List Event} {aParties_2 : Int} {r} (h : laws_FnExactEventDays aList_1 aParties_2 = some r) : (laws_FnExactEventDays_ent).F (laws_FnExactEventDays_A (aList_1, aParties_2)) = some (laws_FnExactEventDays_R r) := entT_F (cA_inj (isl_inj enc_Event_inj) (oA_inj I_inj)) h
noncomputable def laws_FnExactEventDays_c : Code := bodyOf Tryd.f7
noncomputable def laws_FnExactEventDays_E : Env := mkE Tryd.prog [(13, laws_szEventS_ent), (15, laws_toEventS_ent), (26, spec_EventDays_ent), (27, impl_EventDays_ent), (28, laws_eqIntS_ent), (17, laws_eqEventS_ent), (22, laws_markEventS_ent), (29, laws_markIntS_ent), (30, laws_heldIntS_ent)]
def laws_FnExactEventDays_Q (x : (List Event) × Int) (r : Bool) : St → Prop := QF laws_FnExactEventDays_E Tryd.f7 [false, false] (laws_FnExactEventDays_A x) (laws_FnExactEventDays_R r)
theorem laws_FnExactEventDays_run (aList_1 : List Event) (aParties_2 : Int) (r : Bool) (h : laws_FnExactEventDays aList_1 aParties_2 = some r) : RunF laws_FnExactEventDays_E Tryd.f7 [false, false] 0 (laws_FnExactEventDays_A (aList_1, aParties_2)) (laws_FnExactEventDays_R r) := by
 show Run _ _ (laws_FnExactEventDays_Q (aList_1, aParties_2) r) [.code laws_FnExactEventDays_c] _
 refine rin (n := 101) [(0, .isl false ((aList_1).map enc_Event)), (1, I (aParties_2))] [] 1 (by kernel_rfl) (by kernel_rfl) (by kernel_rfl) rfl ?_
 unfold laws_FnExactEventDays at h
 refine c0 12 [16, 17] [.isl false ((aList_1).map enc_Event), I (1048576)] 65 (by kernel_rfl) ?_
 obtain ⟨r3, hr3, h⟩ := bS h
 refine o 81 (I (r3)) rfl rfl (e_callV rfl rfl (call_P rfl rfl rfl (avS (shP rfl) (avS (shP rfl) (avN))) (laws_szEventS_F hr3) (.inr rfl) (bl_n) rfl rfl rfl)) ?_
 refine c0 8 [20] [B ((decide (r3 < 0)))] 129 (by kernel_rfl) ?_
 refine sc h rfl rfl (fun h => ?_) (fun h => ?_)
 · refine c0 4 [4] [B (true)] 145 (by kernel_rfl) ?_
   obtain rfl := Option.some.inj h
   exact s_ret rfl ⟨_, fin (vs := [B (true)]) rfl (absE (absorb_plain rfl) (absEN)) rfl (ou_f (ou_f (ou_n))), kl_n⟩
 · refine ad 1 rfl ?_
   refine c0 3 [22] [.isl false ((aList_1).map enc_Event)] 145 (by kernel_rfl) ?_
   obtain ⟨r4, hr4, h⟩ := bS h
   refine o 161 (.hs 145 0 [] 4 0 ((r4).map enc_Event).length) rfl rfl (e_callV rfl rfl (call_P rfl rfl rfl (avS (shP rfl) (avN)) (laws_toEventS_F hr4) (.inr rfl) (bl_n) rfl rfl rfl)) ?_
   refine c0 1 [24] [I (aParties_2)] 177 (by kernel_rfl) ?_
   obtain ⟨r5, hr5, h⟩ := bS h
   refine o 193 (.tup [.hs 177 0 [] 1 0 ((r5.1).map I).length, B (r5.2)]) rfl rfl (e_callV rfl rfl (call_P rfl rfl rfl (avS (sh1 rfl rfl (sh_hsM (f := enc_Event) (g := enc_Event) (xs := r4) rfl rfl (imms_of enc_Event_imm))) (avS (shP rfl) (avN))) (spec_EventDays_F hr5) (.inl (by simp [hasImm, hasImms, str, himm_map (f := I) I_himm])) (bl_n) rfl rfl rfl)) ?_
   refine c0 9 [6, 7, 28] [.hs 177 0 [] 1 0 ((r5.1).map I).length, B (r5.2), .isl false ((aList_1).map enc_Event)] 289 (by kernel_rfl) ?_
   obtain ⟨r6, hr6, h⟩ := bS h
   refine o 305 (.hs 289 0 [] 4 0 ((r6).map enc_Event).length) rfl rfl (e_callV rfl rfl (call_P rfl rfl rfl (avS (shP rfl) (avN)) (laws_toEventS_F hr6) (.inr rfl) (bl_n) rfl rfl rfl)) ?_
   refine c0 6 [8, 31, 32] [.hs 289 0 [] 4 0 ((r6).map enc_Event).length, .hs 289 0 [] 4 0 ((r6).map enc_Event).length, I (aParties_2)] 353 (by kernel_rfl) ?_
   obtain ⟨r7, hr7, h⟩ := bS h
   refine o 369 (.tup [.hs 353 0 [] 1 0 ((r7.1).map I).length, B (r7.2)]) rfl rfl (e_callV rfl rfl (call_P rfl rfl rfl (avS (sh1 rfl rfl (sh_hsM (f := enc_Event) (g := enc_Event) (xs := r6) rfl rfl (imms_of enc_Event_imm))) (avS (shP rfl) (avN))) (impl_EventDays_F hr7) (.inl (by simp [hasImm, hasImms, str, himm_map (f := I) I_himm])) (bl_n) rfl rfl rfl)) ?_
   refine c0 11 [9, 10, 36, 37] [.hs 353 0 [] 1 0 ((r7.1).map I).length, B (r7.2), .hs 353 0 [] 1 0 ((r7.1).map I).length, .hs 177 0 [] 1 0 ((r5.1).map I).length] 481 (by kernel_rfl) ?_
   obtain ⟨r8, hr8, h⟩ := bS h
   refine o 497 (B (r8)) rfl rfl (e_callV rfl rfl (call_P rfl rfl rfl (avS (sh1 rfl rfl (sh_hsM (f := I) (g := I) (xs := r7.1) rfl rfl (imms_of I_imm))) (avS (sh1 rfl rfl (sh_hsM (f := I) (g := I) (xs := r5.1) rfl rfl (imms_of I_imm))) (avN))) (laws_eqIntS_F hr8) (.inl (rfl)) (bl_n) rfl rfl rfl)) ?_
   refine c0 2 [40] [B ((!r8))] 529 (by kernel_rfl) ?_
   obtain ⟨u9, hu9, h⟩ := lJ h
   have j9 : Run laws_FnExactEventDays_E 0 (laws_FnExactEventDays_Q (aList_1, aParties_2) r) (.code (cR (cL (cR (cR (cR (cR (cR (cR (cR laws_FnExactEventDays_c))))))))) :: .code (cR (cR (cR (cR (cR (cR (cR (cR laws_FnExactEventDays_c)))))))) :: []) ⟨mkTm .dead 101 [(0, .isl false ((aList_1).map enc_Event)), (1, I (aParties_2)), (6, .hs 1 0 [] 1 0 ((r5.1).map I).length), (7, B (r5.2)), (8, .hs 2 0 [] 4 0 ((r6).map enc_Event).length), (9, .hs 3 0 [] 1 0 ((r7.1).map I).length), (10, B (r7.2)), (44, B (u9))], mkS (rtL [⟨0, 1, (r5.1).map I⟩, ⟨0, 4, (r6).map enc_Event⟩, ⟨0, 1, (r7.1).map I⟩] 1), 4⟩ := by
     refine sc h rfl rfl (fun h => ?_) (fun h => ?_)
     · refine c0 4 [4] [B (false)] 20 (by kernel_rfl) ?_
       obtain rfl := Option.some.inj h
       exact s_ret rfl ⟨_, fin (vs := [B (false)]) rfl (absE (absorb_plain rfl) (absEN)) rfl (ou_f (ou_f (ou_n))), kl_n⟩
     · refine ad 1 rfl ?_
       refine c0 5 [45, 46] [.hs 2 0 [] 4 0 ((r6).map enc_Event).length, .isl false ((aList_1).map enc_Event)] 36 (by kernel_rfl) ?_
       obtain ⟨r10, hr10, h⟩ := bS h
       refine o 52 (.hs 36 0 [] 4 0 ((r10).map enc_Event).length) rfl rfl (e_callV rfl rfl (call_P rfl rfl rfl (avS (shP rfl) (avN)) (laws_toEventS_F hr10) (.inr rfl) (bl_n) rfl rfl rfl)) ?_
       obtain ⟨r11, hr11, h⟩ := bS h
       refine o 68 (B (r11)) rfl rfl (e_callV rfl rfl (call_P rfl rfl rfl (avS (sh1 rfl rfl (sh_hsM (f := enc_Event) (g := enc_Event) (xs := r6) rfl rfl (imms_of enc_Event_imm))) (avS (sh1 rfl rfl (sh_hsM (f := enc_Event) (g := enc_Event) (xs := r10) rfl rfl (imms_of enc_Event_imm))) (avN))) (laws_eqEventS_F hr11) (.inl (rfl)) (bl_n) rfl rfl rfl)) ?_
       refine c0 2 [49] [B ((!r11))] 84 (by kernel_rfl) ?_
       refine sc h rfl rfl (fun h => ?_) (fun h => ?_)
       · refine c0 4 [4] [B (false)] 100 (by kernel_rfl) ?_
         obtain rfl := Option.some.inj h
         exact s_ret rfl ⟨_, fin (vs := [B (false)]) rfl (absE (absorb_plain rfl) (absEN)) rfl (ou_f (ou_f (ou_n))), kl_n⟩
       · refine ad 1 rfl ?_
         refine c0 8 [50, 51] [.hs 2 0 [] 4 0 ((r6).map enc_Event).length, I (1)] 132 (by kernel_rfl) ?_
         obtain ⟨r12, hr12, h⟩ := bS h
         obtain ⟨g13, h⟩ := gG h
         refine o 148 (I (r12.1)) rfl rfl (e_callV rfl rfl (call_P rfl rfl rfl (avO (hd1 rfl (hd_hs (path := []) rfl rfl (ra_n) rfl)) (avS (shP rfl) (avN))) (laws_markEventS_F hr12) (.inr rfl) (bl_c rfl rfl rfl rfl (bl_n)) rfl rfl rfl)) ?_
         try rw [len_eqM (f := enc_Event) (xs := r6) (ys := r12.2) g13]
         refine c0 8 [55] [B ((decide (r12.1 < 0)))] 212 (by kernel_rfl) ?_
         obtain ⟨y14, hy14, hy141, hy142⟩ := bJ h
         have j14 : ∀ u14, y14 = .inr u14 → Run laws_FnExactEventDays_E 0 (laws_FnExactEventDays_Q (aList_1, aParties_2) r) (.code (cR (cL (cR (cR (cR (cR (cR (cR (cR (cR (cR (cR (cR laws_FnExactEventDays_c))))))))))))) :: .code (cR (cR (cR (cR (cR (cR (cR (cR (cR (cR (cR (cR laws_FnExactEventDays_c)))))))))))) :: []) ⟨mkTm .dead 101 [(0, .isl false ((aList_1).map enc_Event)), (1, I (aParties_2)), (6, .hs 1 0 [] 1 0 ((r5.1).map I).length), (7, B (r5.2)), (9, .hs 2 0 [] 1 0 ((r7.1).map I).length), (65, B (u14))], mkS (rtL [⟨0, 1, (r5.1).map I⟩, ⟨0, 1, (r7.1).map I⟩] 1), 3⟩ := by
           intro u14 hu
           replace h := hy142 u14 hu
           refine sc h rfl rfl (fun h => ?_) (fun h => ?_)
           · refine c0 4 [4] [B (false)] 19 (by kernel_rfl) ?_
             obtain rfl := Option.some.inj h
             exact s_ret rfl ⟨_, fin (vs := [B (false)]) rfl (absE (absorb_plain rfl) (absEN)) rfl (ou_f (ou_f (ou_n))), kl_n⟩
           · refine ad 1 rfl ?_
             refine c0 8 [66, 67] [.hs 2 0 [] 1 0 ((r7.1).map I).length, I (1)] 51 (by kernel_rfl) ?_
             obtain ⟨r15, hr15, h⟩ := bS h
             obtain ⟨g16, h⟩ := gG h
             refine o 67 (I (r15.1)) rfl rfl (e_callV rfl rfl (call_P rfl rfl rfl (avO (hd1 rfl (hd_hs (path := []) rfl rfl (ra_n) rfl)) (avS (shP rfl) (avN))) (laws_markIntS_F hr15) (.inr rfl) (bl_c rfl rfl rfl rfl (bl_n)) rfl rfl rfl)) ?_
             try rw [len_eqM (f := I) (xs := r7.1) (ys := r15.2) g16]
             refine c0 10 [12, 69, 70] [I (r15.1), .hs 2 0 [] 1 0 ((r15.2).map I).length, I (1)] 131 (by kernel_rfl) ?_
             obtain ⟨r17, hr17, h⟩ := bS h
             refine o 147 (I (r17)) rfl rfl (e_callV rfl rfl (call_P rfl rfl rfl (avS (sh1 rfl rfl (sh_hsM (f := I) (g := I) (xs := r15.2) rfl rfl (imms_of I_imm))) (avS (shP rfl) (avN))) (laws_heldIntS_F hr17) (.inl (rfl)) (bl_n) rfl rfl rfl)) ?_
             refine c0 8 [13, 73] [I (r17), B ((decide (r17 < 0)))] 195 (by kernel_rfl) ?_
             refine sc h rfl rfl (fun h => ?_) (fun h => ?_)
             · refine c0 4 [4] [B (false)] 211 (by kernel_rfl) ?_
               obtain rfl := Option.some.inj h
               exact s_ret rfl ⟨_, fin (vs := [B (false)]) rfl (absE (absorb_plain rfl) (absEN)) rfl (ou_f (ou_f (ou_n))), kl_n⟩
             · refine ad 1 rfl ?_
               refine c0 7 [76] [B ((r17 != r15.1))] 243 (by kernel_rfl) ?_
               refine sc h rfl rfl (fun h => ?_) (fun h => ?_)
               · refine c0 4 [4] [B (false)] 259 (by kernel_rfl) ?_
                 obtain rfl := Option.some.inj h
                 exact s_ret rfl ⟨_, fin (vs := [B (false)]) rfl (absE (absorb_plain rfl) (absEN)) rfl (ou_f (ou_f (ou_n))), kl_n⟩
               · refine ad 1 rfl ?_
                 refine c0 3 [78] [.isl false ((aList_1).map enc_Event)] 259 (by kernel_rfl) ?_
                 obtain ⟨r18, hr18, h⟩ := bS h
                 refine o 275 (.hs 259 0 [] 4 0 ((r18).map enc_Event).length) rfl rfl (e_callV rfl rfl (call_P rfl rfl rfl (avS (shP rfl) (avN)) (laws_toEventS_F hr18) (.inr rfl) (bl_n) rfl rfl rfl)) ?_
                 refine c0 1 [80] [I (aParties_2)] 291 (by kernel_rfl) ?_
                 obtain ⟨r19, hr19, h⟩ := bS h
                 refine o 307 (.tup [.hs 291 0 [] 1 0 ((r19.1).map I).length, B (r19.2)]) rfl rfl (e_callV rfl rfl (call_P rfl rfl rfl (avS (sh1 rfl rfl (sh_hsM (f := enc_Event) (g := enc_Event) (xs := r18) rfl rfl (imms_of enc_Event_imm))) (avS (shP rfl) (avN))) (impl_EventDays_F hr19) (.inl (by simp [hasImm, hasImms, str, himm_map (f := I) I_himm])) (bl_n) rfl rfl rfl)) ?_
                 refine c0 11 [15, 84, 85] [B (r19.2), .hs 291 0 [] 1 0 ((r19.1).map I).length, .hs 1 0 [] 1 0 ((r5.1).map I).length] 419 (by kernel_rfl) ?_
                 obtain ⟨r20, hr20, h⟩ := bS h
                 refine o 435 (B (r20)) rfl rfl (e_callV rfl rfl (call_P rfl rfl rfl (avS (sh1 rfl rfl (sh_hsM (f := I) (g := I) (xs := r19.1) rfl rfl (imms_of I_imm))) (avS (sh1 rfl rfl (sh_hsM (f := I) (g := I) (xs := r5.1) rfl rfl (imms_of I_imm))) (avN))) (laws_eqIntS_F hr20) (.inl (rfl)) (bl_n) rfl rfl rfl)) ?_
                 refine c0 2 [88] [B ((!r20))] 467 (by kernel_rfl) ?_
                 obtain ⟨u21, hu21, h⟩ := lJ h
                 have j21 : Run laws_FnExactEventDays_E 0 (laws_FnExactEventDays_Q (aList_1, aParties_2) r) (.code (cR (cL (cR (cR (cR (cR (cR (cR (cR (cR (cR (cR (cR (cR (cR (cR (cR (cR (cR (cR (cR laws_FnExactEventDays_c))))))))))))))))))))) :: .code (cR (cR (cR (cR (cR (cR (cR (cR (cR (cR (cR (cR (cR (cR (cR (cR (cR (cR (cR (cR laws_FnExactEventDays_c)))))))))))))))))))) :: []) ⟨mkTm .dead 101 [(9, .hs 1 0 [] 1 0 ((r15.2).map I).length), (12, I (r15.1)), (92, B (u21))], mkS (rtL [⟨0, 1, (r15.2).map I⟩] 1), 2⟩ := by
                   refine sc h rfl rfl (fun h => ?_) (fun h => ?_)
                   · refine c0 4 [4] [B (false)] 18 (by kernel_rfl) ?_
                     obtain rfl := Option.some.inj h
                     exact s_ret rfl ⟨_, fin (vs := [B (false)]) rfl (absE (absorb_plain rfl) (absEN)) rfl (ou_f (ou_f (ou_n))), kl_n⟩
                   · refine ad 1 rfl ?_
                     refine c0 8 [93, 94] [.hs 1 0 [] 1 0 ((r15.2).map I).length, I (1)] 50 (by kernel_rfl) ?_
                     obtain ⟨r22, hr22, h⟩ := bS h
                     refine o 66 (I (r22)) rfl rfl (e_callV rfl rfl (call_P rfl rfl rfl (avS (sh1 rfl rfl (sh_hsM (f := I) (g := I) (xs := r15.2) rfl rfl (imms_of I_imm))) (avS (shP rfl) (avN))) (laws_heldIntS_F hr22) (.inl (rfl)) (bl_n) rfl rfl rfl)) ?_
                     refine c0 8 [13, 97] [I (r22), B ((decide (r22 < 0)))] 114 (by kernel_rfl) ?_
                     refine sc h rfl rfl (fun h => ?_) (fun h => ?_)
                     · refine c0 4 [4] [B (false)] 130 (by kernel_rfl) ?_
                       obtain rfl := Option.some.inj h
                       exact s_ret rfl ⟨_, fin (vs := [B (false)]) rfl (absE (absorb_plain rfl) (absEN)) rfl (ou_f (ou_f (ou_n))), kl_n⟩
                     · refine ad 1 rfl ?_
                       refine c0 7 [100] [B ((r22 != r15.1))] 162 (by kernel_rfl) ?_
                       refine sc h rfl rfl (fun h => ?_) (fun h => ?_)
                       · refine c0 4 [4] [B (false)] 178 (by kernel_rfl) ?_
                         obtain rfl := Option.some.inj h
                         exact s_ret rfl ⟨_, fin (vs := [B (false)]) rfl (absE (absorb_plain rfl) (absEN)) rfl (ou_f (ou_f (ou_n))), kl_n⟩
                       · refine ad 1 rfl ?_
                         refine c0 4 [4] [B (true)] 178 (by kernel_rfl) ?_
                         obtain rfl := Option.some.inj h
                         exact s_ret rfl ⟨_, fin (vs := [B (true)]) rfl (absE (absorb_plain rfl) (absEN)) rfl (ou_f (ou_f (ou_n))), kl_n⟩
                 replace h := hu21
                 clear hu21
                 refine sp 88 h rfl (fun h => ?_) (fun h => ?_)
                 · refine c0 5 [92] [B (true)] 531 (by kernel_rfl) ?_
                   refine run_forget [9, 12, 92] [2] [⟨1, 1, (r15.2).map I⟩] rfl rfl rfl rfl ?_
                   subst h
                   exact j21
                 · refine c0 5 [92] [B ((!(r19.2 == r5.2)))] 531 (by kernel_rfl) ?_
                   refine run_forget [9, 12, 92] [2] [⟨1, 1, (r15.2).map I⟩] rfl rfl rfl rfl ?_
                   subst h
                   exact j21
         have r14 : ∀ r', y14 = .inl r' → ∀ st, laws_FnExactEventDays_Q (aList_1, aParties_2) r' st → (laws_FnExactEventDays_Q (aList_1, aParties_2) r) st := fun r' e st hq => by rw [hy141 r' e] at hq; exact hq
         replace h := hy14
         refine sp 55 h rfl (fun h => ?_) (fun h => ?_)
         · refine c0 11 [65] [B (true)] 372 (by kernel_rfl) ?_
           refine run_forget [0, 1, 6, 7, 9, 65] [1, 3] [⟨0, 1, (r5.1).map I⟩, ⟨0, 1, (r7.1).map I⟩] rfl rfl rfl rfl ?_
           exact j14 _ (Option.some.inj h).symm
         · refine c0 2 [56, 57] [.hs 3 0 [] 1 0 ((r7.1).map I).length, .hs 1 0 [] 1 0 ((r5.1).map I).length] 244 (by kernel_rfl) ?_
           obtain ⟨r23, hr23, h⟩ := bS h
           refine og 260 (B (r23)) rfl rfl rfl rfl (e_callV rfl rfl (call_P rfl rfl rfl (avS (sh1 rfl rfl (sh_hsM (f := I) (g := I) (xs := r7.1) rfl rfl (imms_of I_imm))) (avS (sh1 rfl rfl (sh_hsM (f := I) (g := I) (xs := r5.1) rfl rfl (imms_of I_imm))) (avN))) (laws_eqIntS_F hr23) (.inl (rfl)) (bl_n) rfl rfl rfl)) ?_
           refine c0 3 [61] [B ((!r23))] 308 (by kernel_rfl) ?_
           obtain ⟨u24, hu24, h⟩ := lJ h
           have j24 : Run laws_FnExactEventDays_E 0 (laws_FnExactEventDays_Q (aList_1, aParties_2) r) (.code (cR (cL (cR (cR (cR (cR (cR (cR (cR (cR (cR (cR (cR laws_FnExactEventDays_c))))))))))))) :: .code (cR (cR (cR (cR (cR (cR (cR (cR (cR (cR (cR (cR laws_FnExactEventDays_c)))))))))))) :: []) ⟨mkTm .dead 101 [(0, .isl false ((aList_1).map enc_Event)), (1, I (aParties_2)), (6, .hs 1 0 [] 1 0 ((r5.1).map I).length), (7, B (r5.2)), (9, .hs 2 0 [] 1 0 ((r7.1).map I).length), (65, B (u24))], mkS (rtL [⟨0, 1, (r5.1).map I⟩, ⟨0, 1, (r7.1).map I⟩] 1), 3⟩ := by
             refine run_forget [0, 1, 6, 7, 9, 65] [1, 2] [⟨0, 1, (r5.1).map I⟩, ⟨0, 1, (r7.1).map I⟩] rfl rfl rfl rfl ?_
             exact j14 _ (Option.some.inj h).symm
           replace h := hu24
           clear hu24
           refine sp 61 h rfl (fun h => ?_) (fun h => ?_)
           · refine c0 5 [65] [B (true)] 372 (by kernel_rfl) ?_
             refine run_forget [0, 1, 6, 7, 9, 65] [1, 3] [⟨0, 1, (r5.1).map I⟩, ⟨0, 1, (r7.1).map I⟩] rfl rfl rfl rfl ?_
             subst h
             exact j24
           · refine c0 5 [65] [B ((!(r7.2 == r5.2)))] 372 (by kernel_rfl) ?_
             refine run_forget [0, 1, 6, 7, 9, 65] [1, 3] [⟨0, 1, (r5.1).map I⟩, ⟨0, 1, (r7.1).map I⟩] rfl rfl rfl rfl ?_
             subst h
             exact j24
   replace h := hu9
   clear hu9
   refine sp 40 h rfl (fun h => ?_) (fun h => ?_)
   · refine c0 5 [44] [B (true)] 593 (by kernel_rfl) ?_
     refine run_forget [0, 1, 6, 7, 8, 9, 10, 44] [177, 289, 353] [⟨0, 1, (r5.1).map I⟩, ⟨0, 4, (r6).map enc_Event⟩, ⟨0, 1, (r7.1).map I⟩] rfl rfl rfl rfl ?_
     subst h
     exact j9
   · refine c0 5 [44] [B ((!(r7.2 == r5.2)))] 593 (by kernel_rfl) ?_
     refine run_forget [0, 1, 6, 7, 8, 9, 10, 44] [177, 289, 353] [⟨0, 1, (r5.1).map I⟩, ⟨0, 4, (r6).map enc_Event⟩, ⟨0, 1, (r7.1).map I⟩] rfl rfl rfl rfl ?_
     subst h
     exact j9
theorem laws_FnExactEventDays_good {G : Go.Ln.Ground} : Good Tryd.prog G 7 laws_FnExactEventDays_ent := good_T (fnOf_good (gl_c laws_szEventS_good (gl_c laws_toEventS_good (gl_c spec_EventDays_good (gl_c impl_EventDays_good (gl_c laws_eqIntS_good (gl_c laws_eqEventS_good (gl_c laws_markEventS_good (gl_c laws_markIntS_good (gl_c laws_heldIntS_good (gl_n))))))))))) agree_mk (Checked.mixed Tryd.checked) Tryd.func7 (n := 2) (m := 0) ⟨rfl, rfl, by decide⟩ (fun _ => ⟨rfl, rfl⟩) (fun a r h => laws_FnExactEventDays_run a.1 a.2 r h)
end Go.Ln
