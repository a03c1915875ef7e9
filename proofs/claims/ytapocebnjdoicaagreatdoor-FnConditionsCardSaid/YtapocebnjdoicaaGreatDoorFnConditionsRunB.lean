/-
  The walks.
-/
import Derived.Test.YtapocebnjdoicaaGreatDoorFnConditionsRunA
set_option maxHeartbeats 4000000
set_option linter.unusedVariables false
set_option linter.unusedSimpArgs false
set_option maxRecDepth 100000
namespace Go.Ln
open Go Go.Proofs
theorem Px (aK:conditionReader→Option (Condition×conditionReader))(r_2:conditionReader)(r:Condition×conditionReader)(h:mp aK r_2=some r):b7 (kT aK) Tryz.f27 [true] 1 (AJ r_2) (AK r):=by
 show Run _ _ (ix aK r_2 r) [.code vB] _
 refine rI 166 [(0,.hp 1 0 [] 3 0 0)] [(1,some ⟨0,3,[bM r_2]⟩)] 2 ?_
 unfold mp at h
 refine ck 3 [2] [] [2] [] [.hp 2 0 [] 4 0 0] [some ⟨0,4,[.agg [I (0),str ([]),I (0),.isl true []]]⟩] 18 (by kernel_rfl) ?_
 refine cG 2 [.agg [I (0),str ([]),I (0),.usl 4 (([]).map aa)]] rfl rfl (ao (dC (ao (.refl _) (ao (.refl _) (ao (.refl _) (ao (.nil _) bv))))) bv) ?_
 refine ck 20 [19] [] [1] [] [B r_2.f_failed] [some ⟨0,3,[.agg [str r_2.f_rest,I (aF (r_2.f_count+1)),B r_2.f_failed]]⟩] 226 (by kernel_rfl) ?_
 obtain⟨u2,hu2,h⟩:=lJ h
 have j2:Run (kT aK) 1 (ix aK r_2 r) (.code (cR (cL (cR (cR vB))))::.code (cR (cR (cR vB)))::[]) (sT 166 [(0,.hp 1 0 [] 3 0 0),(2,.hp 2 0 [] 4 0 0),(25,B u2)] [⟨0,3,[.agg [str r_2.f_rest,I (aF (r_2.f_count+1)),B r_2.f_failed]]⟩,⟨0,4,[.agg [I (0),str ([]),I (0),.usl 4 (([]).map aa)]]⟩] 3):=by
  refine sq h ?_ ?_<;>intro h
  ·refine ck 11 [] [] [1,2] [] [] [some ⟨0,3,[.agg [str r_2.f_rest,I (aF (r_2.f_count+1)),B true]]⟩,some ⟨1,4,[.agg [I (0),str ([]),I (0),.isl true []]]⟩] 99 (by kernel_rfl) ?_
   refine cG 2 [.agg [I (0),str ([]),I (0),.usl 4 (([]).map aa)]] rfl rfl (ao (dC (ao (.refl _) (ao (.refl _) (ao (.refl _) (ao (.nil _) bv))))) bv) ?_
   refine aq 1 ?_
   obtain rfl:=sI h
   exact bH rfl ⟨_,fin (vs:=[.agg [I (0),str ([]),I (0),.hs 2 2 [(0,3)] 4 0 (([]).map aa).length]]) (eO (dh rfl rfl rfl) fx) (cn (dY (au (aA rfl) (au (aA rfl) (au (aA rfl) (au (eu (path:=[(0,3)]) rfl rfl (dm rfl rfl aB) rfl (fG (path:=[]) (i:=0) (k:=3) (e':=.agg [I (0),str ([]),I (0),.dead]) (es2':=[.agg [I (0),str ([]),I (0),.dead]]) aB rfl rfl rfl dt)) dZ))))) bT) rfl (fw rfl (eQ rfl rfl) dG),fQ dw⟩
  ·refine aq 1 ?_
   refine cq 5 [31] [.hp 1 0 [] 3 0 0] 19 ?_
   obtain⟨r3,hr3,h⟩:=bS h
   refine oq 35 (B r3.1) rfl (aH rfl rfl (aP rfl rfl rfl (eG (ey rfl (cB (path:=[]) rfl rfl aB)) (bd (bx rfl) bE)) (vC hr3) (.inr rfl) (dM rfl rfl rfl rfl bm) rfl rfl rfl)) ?_
   refine cq 2 [30] [B r3.1] 51 ?_
   refine sq h ?_ ?_<;>intro h
   ·refine cq 3 [33] [.hp 1 0 [] 3 0 0] 67 ?_
    obtain⟨r4,hr4,h⟩:=bS h
    refine oq 83 (.agg [I r4.1.Op,str r4.1.Name,I r4.1.Day,.hs 67 0 [] 4 0 (r4.1.Parts.map aa).length]) rfl (aH rfl rfl (aP rfl rfl rfl (eG (ey rfl (cB (path:=[]) rfl rfl aB)) bE) (uk aK hr4) (.inr rfl) (dM rfl rfl rfl rfl bm) rfl rfl rfl)) ?_
    refine oq 99 (.hs 83 0 [] 4 0 1) rfl (cf rfl (fV (f:=I) (xs:=[]) (z:=.agg [I (0),str ([]),I (0),.isl true []]) (es:=[.agg [I r4.1.Op,str r4.1.Name,I r4.1.Day,.hs 67 0 [] 4 0 (r4.1.Parts.map aa).length]]) (ws:=[ar r4.1]) rfl rfl rfl (by decide) rfl (cn (dY (au (aA rfl) (au (aA rfl) (au (aA rfl) (au (ec rfl rfl) dZ))))) bT) rfl)) ?_
    refine cq 1 [36] [.agg [I (4),str ([]),I (0),.hs 83 0 [] 4 0 1]] 115 ?_
    refine o0 131 rfl rfl (gH rfl rfl (fP (path:=[]) (pl:=false) (e':=.agg [I (4),str ([]),I (0),.usl 4 (([r4.1]).map aa)]) (es2':=[.agg [I (4),str ([]),I (0),.usl 4 (([r4.1]).map aa)]]) rfl (dY (au (aA rfl) (au (aA rfl) (au (aA rfl) (au (rj (k:=1) (es:=[ar r4.1]) (f:=aa) (xs:=[r4.1]) rfl rfl (HY (eb r4.1).symm L1)) dZ))))) rfl rfl rfl aB rfl rfl rfl rfl rfl dt 1 rfl)) ?_
    refine aq 1 ?_
    obtain rfl:=sI h
    exact bH rfl ⟨_,fin (vs:=[.agg [I (4),str ([]),I (0),.hs 2 1 [(0,3)] 4 0 (([r4.1]).map aa).length]]) (eO (dh rfl rfl rfl) fx) (cn (dY (au (aA rfl) (au (aA rfl) (au (aA rfl) (au (eu (path:=[(0,3)]) rfl rfl (dm rfl rfl aB) rfl (fG (path:=[]) (i:=0) (k:=3) (e':=.agg [I (4),str ([]),I (0),.dead]) (es2':=[.agg [I (4),str ([]),I (0),.dead]]) aB rfl rfl rfl dt)) dZ))))) bT) rfl (fw rfl (eQ rfl rfl) dG),fQ dw⟩
   ·refine cq 3 [38] [.hp 1 0 [] 3 0 0] 67 ?_
    obtain⟨r5,hr5,h⟩:=bS h
    refine oq 83 (B r5.1) rfl (aH rfl rfl (aP rfl rfl rfl (eG (ey rfl (cB (path:=[]) rfl rfl aB)) (bd (bx rfl) bE)) (vC hr5) (.inr rfl) (dM rfl rfl rfl rfl bm) rfl rfl rfl)) ?_
    refine cq 2 [37] [B r5.1] 99 ?_
    refine sq h ?_ ?_<;>intro h
    ·refine cq 10 [45] [B (decide ((len r5.2.f_rest)<10))] 195 ?_
     refine sq h ?_ ?_<;>intro h
     ·refine cq 7 [6] [I (0)] 211 ?_
      obtain⟨y11,hy11,hy111,hy112⟩:=bJ h
      refine ep rfl ?_
      refine rf [0,2,6] [1,2] (IG aK r_2 r5 rfl 0 _ hy11 (fun r' e st hq=>by rw[hy111 r' e] at hq;exact hq) fun u11 hu=>?_)
      replace h:=hy112 u11 hu
      refine cq 7 [149,150] [str r5.2.f_rest,I u11] 83 ?_
      obtain⟨s12,hs12,h⟩:=bS h
      refine oq 99 (str s12) rfl (fi rfl rfl rfl rfl (hM rfl rfl rfl hs12)) ?_
      refine cq 10 [7,152,156,157] [str s12,.hp 1 0 [] 3 0 0,str r5.2.f_rest,I u11] 211 ?_
      obtain⟨s13,hs13,h⟩:=bS h
      refine oq 227 (str s13) rfl (fi rfl rfl rfl rfl (hM rfl rfl rfl hs13)) ?_
      refine ck 10 [162] [] [1] [] [B (s12==([116,114,117,101]:ae))] [some ⟨0,3,[.agg [str s13,I r5.2.f_count,B r5.2.f_failed]]⟩] 307 (by kernel_rfl) ?_
      refine sq h ?_ ?_<;>intro h
      ·refine ck 4 [] [] [2] [] [] [some ⟨1,4,[.agg [I (1),str ([]),I (0),.isl true []]]⟩] 339 (by kernel_rfl) ?_
       refine cG 2 [.agg [I (1),str ([]),I (0),.usl 4 (([]).map aa)]] rfl rfl (ao (dC (ao (.refl _) (ao (.refl _) (ao (.refl _) (ao (.nil _) bv))))) bv) ?_
       refine aq 1 ?_
       obtain rfl:=sI h
       exact bH rfl ⟨_,fin (vs:=[.agg [I (1),str ([]),I (0),.hs 2 2 [(0,3)] 4 0 (([]).map aa).length]]) (eO (dh rfl rfl rfl) fx) (cn (dY (au (aA rfl) (au (aA rfl) (au (aA rfl) (au (eu (path:=[(0,3)]) rfl rfl (dm rfl rfl aB) rfl (fG (path:=[]) (i:=0) (k:=3) (e':=.agg [I (1),str ([]),I (0),.dead]) (es2':=[.agg [I (1),str ([]),I (0),.dead]]) aB rfl rfl rfl dt)) dZ))))) bT) rfl (fw rfl (eQ rfl rfl) dG),fQ dw⟩
      ·refine aq 1 ?_
       refine ck 5 [] [] [2] [] [] [some ⟨1,4,[.agg [I (2),str s12,I (0),.isl true []]]⟩] 355 (by kernel_rfl) ?_
       refine cG 2 [.agg [I (2),str s12,I (0),.usl 4 (([]).map aa)]] rfl rfl (ao (dC (ao (.refl _) (ao (.refl _) (ao (.refl _) (ao (.nil _) bv))))) bv) ?_
       refine aq 1 ?_
       obtain rfl:=sI h
       exact bH rfl ⟨_,fin (vs:=[.agg [I (2),str s12,I (0),.hs 2 2 [(0,3)] 4 0 (([]).map aa).length]]) (eO (dh rfl rfl rfl) fx) (cn (dY (au (aA rfl) (au (aA rfl) (au (aA rfl) (au (eu (path:=[(0,3)]) rfl rfl (dm rfl rfl aB) rfl (fG (path:=[]) (i:=0) (k:=3) (e':=.agg [I (2),str s12,I (0),.dead]) (es2':=[.agg [I (2),str s12,I (0),.dead]]) aB rfl rfl rfl dt)) dZ))))) bT) rfl (fw rfl (eQ rfl rfl) dG),fQ dw⟩
     ·refine aq 1 ?_
      refine cq 6 [50] [str r5.2.f_rest] 259 ?_
      obtain⟨s14,hs14,h⟩:=bS h
      refine oq 275 (str s14) rfl (fi rfl rfl rfl rfl (hM rfl rfl rfl hs14)) ?_
      obtain⟨r15,hr15,h⟩:=bS h
      refine oq 291 (.tup [I r15.1,B r15.2]) rfl (cP (SL hr15)) ?_
      refine cq 13 [3,4,55,59] [I r15.1,B r15.2,.hp 1 0 [] 3 0 0,str r5.2.f_rest] 451 ?_
      obtain⟨s16,hs16,h⟩:=bS h
      refine oq 467 (str s16) rfl (fi rfl rfl rfl rfl (hM rfl rfl rfl hs16)) ?_
      refine ck 12 [63,68] [] [1] [] [.hp 1 0 [] 3 0 0,B r5.2.f_failed] [some ⟨2,3,[.agg [str s16,I r5.2.f_count,B r5.2.f_failed]]⟩] 611 (by kernel_rfl) ?_
      obtain⟨u17,hu17,h⟩:=lJ h
      have j17:Run (kT aK) 1 (ix aK r_2 r) (.code (cR (cR (cR (cR (cL (cR (cR (cR (cL (cL (cR (cR (cR vB)))))))))))))::.blk 0::.code ul::[]) (sT 166 [(2,.hp 2 0 [] 4 0 0),(3,I r15.1)] [⟨0,3,[.agg [str s16,I r5.2.f_count,B u17]]⟩,⟨0,4,[.agg [I (0),str ([]),I (0),.usl 4 (([]).map aa)]]⟩] 3):=by
       refine ck 5 [] [] [2] [] [] [some ⟨1,4,[.agg [I (3),str ([]),I r15.1,.isl true []]]⟩] 51 (by kernel_rfl) ?_
       refine cG 2 [.agg [I (3),str ([]),I r15.1,.usl 4 (([]).map aa)]] rfl rfl (ao (dC (ao (.refl _) (ao (.refl _) (ao (.refl _) (ao (.nil _) bv))))) bv) ?_
       refine aq 1 ?_
       obtain rfl:=sI h
       exact bH rfl ⟨_,fin (vs:=[.agg [I (3),str ([]),I r15.1,.hs 2 2 [(0,3)] 4 0 (([]).map aa).length]]) (eO (dh rfl rfl rfl) fx) (cn (dY (au (aA rfl) (au (aA rfl) (au (aA rfl) (au (eu (path:=[(0,3)]) rfl rfl (dm rfl rfl aB) rfl (fG (path:=[]) (i:=0) (k:=3) (e':=.agg [I (3),str ([]),I r15.1,.dead]) (es2':=[.agg [I (3),str ([]),I r15.1,.dead]]) aB rfl rfl rfl dt)) dZ))))) bT) rfl (fw rfl (eQ rfl rfl) dG),fQ dw⟩
      replace h:=hu17
      clear hu17
      refine sp 68 h rfl ?_ ?_<;>intro h
      ·refine ck 7 [] [] [1] [] [] [some ⟨2,3,[.agg [str s16,I r5.2.f_count,B true]]⟩] 707 (by kernel_rfl) ?_
       subst h
       exact rf [2,3] [1,2] (j17 :)
      ·refine ck 7 [] [] [1] [] [] [some ⟨2,3,[.agg [str s16,I r5.2.f_count,B (!r15.2)]]⟩] 707 (by kernel_rfl) ?_
       subst h
       exact rf [2,3] [1,2] (j17 :)
    ·refine cq 3 [77] [.hp 1 0 [] 3 0 0] 115 ?_
     obtain⟨r18,hr18,h⟩:=bS h
     refine oq 131 (B r18.1) rfl (aH rfl rfl (aP rfl rfl rfl (eG (ey rfl (cB (path:=[]) rfl rfl aB)) (bd (bx rfl) bE)) (vC hr18) (.inr rfl) (dM rfl rfl rfl rfl bm) rfl rfl rfl)) ?_
     refine cq 2 [76] [B r18.1] 147 ?_
     refine sq h ?_ ?_<;>intro h
     ·refine cq 3 [79] [.hp 1 0 [] 3 0 0] 163 ?_
      obtain⟨r19,hr19,h⟩:=bS h
      refine oq 179 (.agg [I r19.1.Op,str r19.1.Name,I r19.1.Day,.hs 163 0 [] 4 0 (r19.1.Parts.map aa).length]) rfl (aH rfl rfl (aP rfl rfl rfl (eG (ey rfl (cB (path:=[]) rfl rfl aB)) bE) (uk aK hr19) (.inr rfl) (dM rfl rfl rfl rfl bm) rfl rfl rfl)) ?_
      refine oq 195 (.hs 179 0 [] 4 0 1) rfl (cf rfl (fV (f:=I) (xs:=[]) (z:=.agg [I (0),str ([]),I (0),.isl true []]) (es:=[.agg [I r19.1.Op,str r19.1.Name,I r19.1.Day,.hs 163 0 [] 4 0 (r19.1.Parts.map aa).length]]) (ws:=[ar r19.1]) rfl rfl rfl (by decide) rfl (cn (dY (au (aA rfl) (au (aA rfl) (au (aA rfl) (au (ec rfl rfl) dZ))))) bT) rfl)) ?_
      refine ck 2 [5,82] [] [211] [] [.hp 211 0 [] 4 0 0,.agg [I (5),str ([]),I (0),.hs 179 0 [] 4 0 1]] [some ⟨0,4,[.agg [I (0),str ([]),I (0),.isl true []]]⟩] 227 (by kernel_rfl) ?_
      refine cG 211 [.agg [I (0),str ([]),I (0),.usl 4 (([]).map aa)]] rfl rfl (ao (dC (ao (.refl _) (ao (.refl _) (ao (.refl _) (ao (.nil _) bv))))) bv) ?_
      refine o0 243 rfl rfl (gH rfl rfl (fP (path:=[]) (pl:=false) (e':=.agg [I (5),str ([]),I (0),.usl 4 (([r19.1]).map aa)]) (es2':=[.agg [I (5),str ([]),I (0),.usl 4 (([r19.1]).map aa)]]) rfl (dY (au (aA rfl) (au (aA rfl) (au (aA rfl) (au (rj (k:=1) (es:=[ar r19.1]) (f:=aa) (xs:=[r19.1]) rfl rfl (HY (eb r19.1).symm L1)) dZ))))) rfl rfl rfl aB rfl rfl rfl rfl rfl dt 2 rfl)) ?_
      refine cq 5 [83] [.hp 1 0 [] 3 0 0] 259 ?_
      obtain⟨r20,hr20,h⟩:=bS h
      refine oq 275 (B r20.1) rfl (aH rfl rfl (aP rfl rfl rfl (eG (ey rfl (cB (path:=[]) rfl rfl aB)) (bd (bx rfl) bE)) (vC hr20) (.inr rfl) (dM rfl rfl rfl rfl bm) rfl rfl rfl)) ?_
      refine cq 2 [85] [B (!r20.1)] 291 ?_
      obtain⟨y21,hy21,hy211,hy212⟩:=bJ h
      have j21:∀u21,y21=.inr u21→Run (kT aK) 1 (ix aK r_2 r) (.code FA::.blk 0::.code ul::[]) (sT 166 [(0,.hp 1 0 [] 3 0 0),(2,.hp 2 0 [] 4 0 0),(5,.hp 3 0 [] 4 0 0)] [⟨0,3,[.agg [str u21.1,I u21.2.1,B u21.2.2.1]]⟩,⟨0,4,[.agg [I (0),str ([]),I (0),.usl 4 (([]).map aa)]]⟩,⟨0,4,[.agg [I u21.2.2.2,str ([]),I (0),.usl 4 (([r19.1]).map aa)]]⟩] 4):=by
       intro u21 hu
       replace h:=hy212 u21 hu
       refine aq 1 ?_
       refine gN [0,1,0,4,12,31,63,127] rfl (by decide +kernel) ?_
       refine dq [3] [] (.hp 3 0 [] 4 0 3) rfl (bn rfl rfl rfl) ?_
       refine dq [3] [] (.hs 3 0 [(0,3)] 4 0 (([r19.1]).map aa).length) rfl (dD rfl rfl) ?_
       refine dk 1 [101] [.hp 1 0 [] 3 0 0] ?_
       obtain⟨r22,hr22,h⟩:=bS h
       refine dq [1] [1] (.agg [I r22.1.Op,str r22.1.Name,I r22.1.Day,.hs 52 0 [] 4 0 (r22.1.Parts.map aa).length]) rfl (aH rfl rfl (aP rfl rfl rfl (eG (ey rfl (cB (path:=[]) rfl rfl aB)) bE) (uk aK hr22) (.inr rfl) (dM rfl rfl rfl rfl bm) rfl rfl rfl)) ?_ (fb rfl rfl rfl rfl (eG (ey rfl (cB (path:=[]) rfl rfl aB)) bE) (uk aK hr22) (.inr rfl) rfl)
       refine dq [52] [52] (.hs 68 0 [] 4 0 1) rfl (cf rfl (fV (f:=I) (xs:=[]) (z:=.agg [I (0),str ([]),I (0),.isl true []]) (es:=[.agg [I r22.1.Op,str r22.1.Name,I r22.1.Day,.hs 52 0 [] 4 0 (r22.1.Parts.map aa).length]]) (ws:=[ar r22.1]) rfl rfl rfl (by decide) rfl (cn (dY (au (aA rfl) (au (aA rfl) (au (aA rfl) (au (ec rfl rfl) dZ))))) bT) rfl)) ?_
       obtain⟨a23,ha23,h⟩:=bS h
       refine dq [3,68] [3,68] (.hs 84 0 [] 4 0 (a23.map aa).length) rfl (kD rfl rfl rfl rfl rfl (nY (path:=[(0,3)]) (f:=aa) (xs:=[r19.1]) (ys:=[r22.1]) rfl rfl (C0 rfl rfl rfl) (congrArg (fun w=>[w]) (eb r22.1).symm) rfl rfl (dm rfl rfl aB) rfl (by decide) jD ha23 rfl (fG (path:=[]) (i:=0) (k:=3) (e':=.agg [I u21.2.2.2,str ([]),I (0),.dead]) (es2':=[.agg [I u21.2.2.2,str ([]),I (0),.dead]]) aB rfl rfl rfl dt))) ?_ (ta rfl (Jb rfl rfl rfl rfl))
       refine dq [3] [] (.hp 3 0 [] 4 0 3) rfl (bn rfl rfl rfl) ?_
       refine dz [3,84] [3,84] rfl (gH rfl rfl (fP (path:=[]) (pl:=false) (e':=.agg [I u21.2.2.2,str ([]),I (0),.usl 4 (a23.map aa)]) (es2':=[.agg [I u21.2.2.2,str ([]),I (0),.usl 4 (a23.map aa)]]) rfl (ni rfl (ec rfl rfl)) rfl rfl rfl aB rfl rfl rfl rfl rfl dt 1 rfl)) ?_
       refine de 132 rfl rfl ?_
       refine cq 8 [106,111] [.hp 1 0 [] 3 0 0,B r22.2.f_failed] 228 ?_
       obtain⟨y24,hy24,hy241,hy242⟩:=bJ h
       have j24:∀u24,y24=.inr u24→Run (kT aK) 1 (ix aK r_2 r) (.code (cR (cR FA))::.blk 0::.code ul::[]) (sT 166 [(2,.hp 2 0 [] 4 0 0),(5,.hp 3 0 [] 4 0 0)] [⟨0,3,[.agg [str u24.1,I u24.2.1,B u24.2.2]]⟩,⟨0,4,[.agg [I (0),str ([]),I (0),.usl 4 (([]).map aa)]]⟩,⟨0,4,[.agg [I u21.2.2.2,str ([]),I (0),.usl 4 (a23.map aa)]]⟩] 4):=by
        intro u24 hu
        replace h:=hy242 u24 hu
        refine cq 3 [118] [.agg [I u21.2.2.2,str ([]),I (0),.hs 3 0 [(0,3)] 4 0 (a23.map aa).length]] 20 ?_
        refine o0 36 rfl rfl (gH rfl rfl (fP (path:=[]) (pl:=false) (e':=.agg [I u21.2.2.2,str ([]),I (0),.usl 4 (a23.map aa)]) (es2':=[.agg [I u21.2.2.2,str ([]),I (0),.usl 4 (a23.map aa)]]) rfl (dY (au (aA rfl) (au (aA rfl) (au (aA rfl) (au (eu (path:=[(0,3)]) rfl rfl (dm rfl rfl aB) rfl (fG (path:=[]) (i:=0) (k:=3) (e':=.agg [I u21.2.2.2,str ([]),I (0),.dead]) (es2':=[.agg [I u21.2.2.2,str ([]),I (0),.dead]]) aB rfl rfl rfl dt)) dZ))))) rfl rfl rfl aB rfl rfl rfl rfl rfl dt 1 rfl)) ?_
        refine aq 1 ?_
        obtain rfl:=sI h
        exact bH rfl ⟨_,fin (vs:=[.agg [I u21.2.2.2,str ([]),I (0),.hs 2 1 [(0,3)] 4 0 (a23.map aa).length]]) (eO (dh rfl rfl rfl) fx) (cn (dY (au (aA rfl) (au (aA rfl) (au (aA rfl) (au (eu (path:=[(0,3)]) rfl rfl (dm rfl rfl aB) rfl (fG (path:=[]) (i:=0) (k:=3) (e':=.agg [I u21.2.2.2,str ([]),I (0),.dead]) (es2':=[.agg [I u21.2.2.2,str ([]),I (0),.dead]]) aB rfl rfl rfl dt)) dZ))))) bT) rfl (fw rfl (eQ rfl rfl) dG),fQ dw⟩
       have r24:∀r',y24=.inl r'→∀st,ix aK r_2 r' st→(ix aK r_2 r) st:=fun r' e st hq=>by rw[hy241 r' e] at hq;exact hq
       replace h:=hy24
       refine sp 111 h rfl ?_ ?_<;>intro h
       ·refine ck 8 [] [] [1] [] [] [some ⟨1,3,[.agg [str r22.2.f_rest,I r22.2.f_count,B true]]⟩] 340 (by kernel_rfl) ?_
        exact rf [2,5] [1,2,3] (j24 _ (ak h) :)
       ·refine cq 1 [112] [.hp 1 0 [] 3 0 0] 244 ?_
        obtain⟨r25,hr25,h⟩:=bS h
        refine oy 260 (B r25.1) rfl (aH rfl rfl (aP rfl rfl rfl (eG (ey rfl (cB (path:=[]) rfl rfl aB)) (bd (bx rfl) bE)) (vC hr25) (.inr rfl) (dM rfl rfl rfl rfl bm) rfl rfl rfl)) ?_
        refine ck 6 [] [] [1] [] [] [some ⟨2,3,[.agg [str r25.2.f_rest,I r25.2.f_count,B (!r25.1)]]⟩] 340 (by kernel_rfl) ?_
        exact rf [2,5] [1,2,3] (j24 _ (ak h) :)
      have r21:∀r',y21=.inl r'→∀st,ix aK r_2 r' st→(ix aK r_2 r) st:=fun r' e st hq=>by rw[hy211 r' e] at hq;exact hq
      replace h:=hy21
      refine sq h ?_ ?_<;>intro h
      ·refine ck 12 [87,92] [] [211] [] [.hp 1 0 [] 3 0 0,B r20.2.f_failed] [some ⟨2,4,[.agg [I (6),str ([]),I (0),.usl 4 (([r19.1]).map aa)]]⟩] 419 (by kernel_rfl) ?_
       obtain⟨y26,hy26,hy261,hy262⟩:=bL h
       have j26:∀u26,y26=.inr u26→Run (kT aK) 1 (ix aK r_2 r) (.code FA::.blk 0::.code ul::[]) (sT 166 [(0,.hp 1 0 [] 3 0 0),(2,.hp 2 0 [] 4 0 0),(5,.hp 3 0 [] 4 0 0)] [⟨0,3,[.agg [str u26.1,I u26.2.1,B u26.2.2]]⟩,⟨0,4,[.agg [I (0),str ([]),I (0),.usl 4 (([]).map aa)]]⟩,⟨0,4,[.agg [I (6),str ([]),I (0),.usl 4 (([r19.1]).map aa)]]⟩] 4):=by
        intro u26 hu
        replace h:=hy262 u26 hu
        exact rf [0,2,5] [1,2,3] (j21 _ (ak h) :)
       have r26:∀r',y26=.inl r'→∀st,ix aK r_2 r' st→(ix aK r_2 r) st:=fun r' e st hq=>r21 r' (hy261 r' e) st hq
       replace h:=hy26
       refine sp 92 h rfl ?_ ?_<;>intro h
       ·refine ck 8 [] [] [1] [] [] [some ⟨5,3,[.agg [str r20.2.f_rest,I r20.2.f_count,B true]]⟩] 531 (by kernel_rfl) ?_
        exact rf [0,2,5] [1,2,211] (j26 _ (ak h) :)
       ·refine cq 1 [93] [.hp 1 0 [] 3 0 0] 435 ?_
        obtain⟨r27,hr27,h⟩:=bS h
        refine oy 451 (B r27.1) rfl (aH rfl rfl (aP rfl rfl rfl (eG (ey rfl (cB (path:=[]) rfl rfl aB)) (bd (bx rfl) bE)) (vC hr27) (.inr rfl) (dM rfl rfl rfl rfl bm) rfl rfl rfl)) ?_
        refine ck 6 [] [] [1] [] [] [some ⟨6,3,[.agg [str r27.2.f_rest,I r27.2.f_count,B (!r27.1)]]⟩] 531 (by kernel_rfl) ?_
        exact rf [0,2,5] [1,2,211] (j26 _ (ak h) :)
      ·refine aq 1 ?_
       exact rf [0,2,5] [1,2,211] (j21 _ (ak h) :)
     ·refine aq 1 ?_
      refine cq 7 [6] [I (0)] 163 ?_
      obtain⟨y33,hy33,hy331,hy332⟩:=bJ h
      refine ep rfl ?_
      refine rf [0,2,6] [1,2] (IH aK r_2 r18 rfl 0 _ hy33 (fun r' e st hq=>by rw[hy331 r' e] at hq;exact hq) fun u33 hu=>?_)
      replace h:=hy332 u33 hu
      refine cq 7 [149,150] [str r18.2.f_rest,I u33] 83 ?_
      obtain⟨s34,hs34,h⟩:=bS h
      refine oq 99 (str s34) rfl (fi rfl rfl rfl rfl (hM rfl rfl rfl hs34)) ?_
      refine cq 10 [7,152,156,157] [str s34,.hp 1 0 [] 3 0 0,str r18.2.f_rest,I u33] 211 ?_
      obtain⟨s35,hs35,h⟩:=bS h
      refine oq 227 (str s35) rfl (fi rfl rfl rfl rfl (hM rfl rfl rfl hs35)) ?_
      refine ck 10 [162] [] [1] [] [B (s34==([116,114,117,101]:ae))] [some ⟨0,3,[.agg [str s35,I r18.2.f_count,B r18.2.f_failed]]⟩] 307 (by kernel_rfl) ?_
      refine sq h ?_ ?_<;>intro h
      ·refine ck 4 [] [] [2] [] [] [some ⟨1,4,[.agg [I (1),str ([]),I (0),.isl true []]]⟩] 339 (by kernel_rfl) ?_
       refine cG 2 [.agg [I (1),str ([]),I (0),.usl 4 (([]).map aa)]] rfl rfl (ao (dC (ao (.refl _) (ao (.refl _) (ao (.refl _) (ao (.nil _) bv))))) bv) ?_
       refine aq 1 ?_
       obtain rfl:=sI h
       exact bH rfl ⟨_,fin (vs:=[.agg [I (1),str ([]),I (0),.hs 2 2 [(0,3)] 4 0 (([]).map aa).length]]) (eO (dh rfl rfl rfl) fx) (cn (dY (au (aA rfl) (au (aA rfl) (au (aA rfl) (au (eu (path:=[(0,3)]) rfl rfl (dm rfl rfl aB) rfl (fG (path:=[]) (i:=0) (k:=3) (e':=.agg [I (1),str ([]),I (0),.dead]) (es2':=[.agg [I (1),str ([]),I (0),.dead]]) aB rfl rfl rfl dt)) dZ))))) bT) rfl (fw rfl (eQ rfl rfl) dG),fQ dw⟩
      ·refine aq 1 ?_
       refine ck 5 [] [] [2] [] [] [some ⟨1,4,[.agg [I (2),str s34,I (0),.isl true []]]⟩] 355 (by kernel_rfl) ?_
       refine cG 2 [.agg [I (2),str s34,I (0),.usl 4 (([]).map aa)]] rfl rfl (ao (dC (ao (.refl _) (ao (.refl _) (ao (.refl _) (ao (.nil _) bv))))) bv) ?_
       refine aq 1 ?_
       obtain rfl:=sI h
       exact bH rfl ⟨_,fin (vs:=[.agg [I (2),str s34,I (0),.hs 2 2 [(0,3)] 4 0 (([]).map aa).length]]) (eO (dh rfl rfl rfl) fx) (cn (dY (au (aA rfl) (au (aA rfl) (au (aA rfl) (au (eu (path:=[(0,3)]) rfl rfl (dm rfl rfl aB) rfl (fG (path:=[]) (i:=0) (k:=3) (e':=.agg [I (2),str s34,I (0),.dead]) (es2':=[.agg [I (2),str s34,I (0),.dead]]) aB rfl rfl rfl dt)) dZ))))) bT) rfl (fw rfl (eQ rfl rfl) dG),fQ dw⟩
 replace h:=hu2
 clear hu2
 refine sp 19 h rfl ?_ ?_<;>intro h
 ·refine cq 7 [25] [B true] 322 ?_
  subst h
  exact rf [0,2,25] [1,2] (j2 :)
 ·refine cq 7 [25] [B (decide ((aF (r_2.f_count+1))>15))] 322 ?_
  subst h
  exact rf [0,2,25] [1,2] (j2 :)
theorem Nq {G:cW}[TabG Tryz.prog G]:cX G 27 Cp:=gq fun aK g_Ffi=>gT 1 1 (aQ Nr (aQ g_Ffi (aQ No ch))) dF Tryz.func27 (fun a r h=>Px aK a r h)
def Eo:ae→List V:=oA str
def Ep (r:Condition×Bool):V×List V:=(.tup [ar r.1,B r.2],[])
noncomputable def Cm :=bu [false] Eo Ep fun x=>Fy x
theorem SK {s_1:ae}{r}(h:Fy s_1=some r):Cm.F (Eo s_1)=some (Ep r):=ba (bb bU) h
noncomputable def sb :=aY Tryz.f12
noncomputable def AH :=dE [(27,Cp),(16,pe),(26,vD)]
def nC (x:ae)(r:Condition×Bool):St→Prop:=QF AH Tryz.f12 [false] (Eo x) (Ep r)
theorem Pt (s_1:ae)(r:Condition×Bool)(h:Fy s_1=some r):b7 AH Tryz.f12 [false] 0 (Eo s_1) (Ep r):=by
 show Run _ _ (nC s_1 r) [.code sb] _
 refine rI 35 [(0,str s_1)] [] 1 ?_
 unfold Fy at h
 refine ck 3 [2] [] [1] [] [.hp 1 0 [] 4 0 0] [some ⟨0,4,[.agg [I (0),str ([]),I (0),.isl true []]]⟩] 17 (by kernel_rfl) ?_
 refine cG 1 [.agg [I (0),str ([]),I (0),.usl 4 (([]).map aa)]] rfl rfl (ao (dC (ao (.refl _) (ao (.refl _) (ao (.refl _) (ao (.nil _) bv))))) bv) ?_
 refine ck 12 [4,9] [] [65] [] [.hp 65 0 [] 3 0 0,.hp 65 0 [] 3 0 0] [some ⟨0,3,[.agg [str s_1,I (0),B false]]⟩] 113 (by kernel_rfl) ?_
 obtain⟨r2,hr2,h⟩:=bS h
 refine oq 129 (.agg [I r2.1.Op,str r2.1.Name,I r2.1.Day,.hs 113 0 [] 4 0 (r2.1.Parts.map aa).length]) rfl (aH rfl rfl (aP rfl rfl rfl (eG (ey rfl (cB (path:=[]) rfl rfl aB)) bE) (SO hr2) (.inr rfl) (dM rfl rfl rfl rfl bm) rfl rfl rfl)) ?_
 refine ck 1 [5] [] [129] [] [.hp 129 0 [] 4 0 0] [some ⟨0,4,[.agg [I (0),str ([]),I (0),.isl true []]]⟩] 145 (by kernel_rfl) ?_
 refine cG 129 [.agg [I (0),str ([]),I (0),.usl 4 (([]).map aa)]] rfl rfl (ao (dC (ao (.refl _) (ao (.refl _) (ao (.refl _) (ao (.nil _) bv))))) bv) ?_
 refine o0 161 rfl rfl (gH rfl rfl (fP (path:=[]) (pl:=false) (e':=ar r2.1) (es2':=[ar r2.1]) rfl (dY (au (aA rfl) (au (aA rfl) (au (aA rfl) (au (ec rfl rfl) dZ))))) rfl rfl rfl aB rfl rfl rfl rfl rfl dt 2 rfl)) ?_
 refine cq 9 [15] [B r2.2.f_failed] 241 ?_
 obtain⟨y3,hy3,hy31,hy32⟩:=bJ h
 have j3:∀u3,y3=.inr u3→Run AH 0 (nC s_1 r) (.code (cR (cL (cR (cR (cR sb)))))::.code (cR (cR (cR (cR sb))))::[]) (sT 35 [(2,.hp 1 0 [] 4 0 0),(5,.hp 2 0 [] 4 0 0),(32,B u3)] [⟨0,4,[.agg [I (0),str ([]),I (0),.usl 4 (([]).map aa)]]⟩,⟨0,4,[ar r2.1]⟩] 3):=by
  intro u3 hu
  replace h:=hy32 u3 hu
  refine sq h ?_ ?_<;>intro h
  ·refine ck 4 [] [] [1] [] [] [some ⟨1,4,[.agg [I (0),str ([]),I (0),.isl true []]]⟩] 35 (by kernel_rfl) ?_
   refine cG 1 [.agg [I (0),str ([]),I (0),.usl 4 (([]).map aa)]] rfl rfl (ao (dC (ao (.refl _) (ao (.refl _) (ao (.refl _) (ao (.nil _) bv))))) bv) ?_
   refine cq 2 [3] [B false] 51 ?_
   obtain rfl:=sI h
   exact bH rfl ⟨_,fin (vs:=[.agg [I (0),str ([]),I (0),.hs 1 2 [(0,3)] 4 0 (([]).map aa).length],B false]) (eO (dh rfl rfl rfl) (eO rfl fx)) (cn (dY (au (aA rfl) (au (aA rfl) (au (aA rfl) (au (eu (path:=[(0,3)]) rfl rfl (dm rfl rfl aB) rfl (fG (path:=[]) (i:=0) (k:=3) (e':=.agg [I (0),str ([]),I (0),.dead]) (es2':=[.agg [I (0),str ([]),I (0),.dead]]) aB rfl rfl rfl dt)) dZ))))) (cn (be rfl) bT)) rfl (eF dG),dw⟩
  ·refine aq 1 ?_
   refine cq 3 [34] [.agg [I r2.1.Op,str r2.1.Name,I r2.1.Day,.hs 2 0 [(0,3)] 4 0 (r2.1.Parts.map aa).length]] 19 ?_
   refine o0 35 rfl rfl (gH rfl rfl (fP (path:=[]) (pl:=false) (e':=ar r2.1) (es2':=[ar r2.1]) rfl (dY (au (aA rfl) (au (aA rfl) (au (aA rfl) (au (eu (path:=[(0,3)]) rfl rfl (dm rfl rfl aB) rfl (fG (path:=[]) (i:=0) (k:=3) (e':=.agg [I r2.1.Op,str r2.1.Name,I r2.1.Day,.dead]) (es2':=[.agg [I r2.1.Op,str r2.1.Name,I r2.1.Day,.dead]]) aB rfl rfl rfl dt)) dZ))))) rfl rfl rfl aB rfl rfl rfl rfl rfl dt 1 rfl)) ?_
   refine cq 2 [3] [B true] 51 ?_
   obtain rfl:=sI h
   exact bH rfl ⟨_,fin (vs:=[.agg [I r2.1.Op,str r2.1.Name,I r2.1.Day,.hs 1 1 [(0,3)] 4 0 (r2.1.Parts.map aa).length],B true]) (eO (dh rfl rfl rfl) (eO rfl fx)) (cn (dY (au (aA rfl) (au (aA rfl) (au (aA rfl) (au (eu (path:=[(0,3)]) rfl rfl (dm rfl rfl aB) rfl (fG (path:=[]) (i:=0) (k:=3) (e':=.agg [I r2.1.Op,str r2.1.Name,I r2.1.Day,.dead]) (es2':=[.agg [I r2.1.Op,str r2.1.Name,I r2.1.Day,.dead]]) aB rfl rfl rfl dt)) dZ))))) (cn (be rfl) bT)) rfl (eF dG),dw⟩
 have r3:∀r',y3=.inl r'→∀st,nC s_1 r' st→(nC s_1 r) st:=fun r' e st hq=>by rw[hy31 r' e] at hq;exact hq
 replace h:=hy3
 refine sp 15 h rfl ?_ ?_<;>intro h
 ·refine cq 18 [32] [B true] 513 ?_
  exact rf [2,5,32] [1,129] (j3 _ (ak h) :)
 ·refine cq 7 [22] [B (!(r2.2.f_rest==([]:ae)))] 353 ?_
  obtain⟨y4,hy4,hy41,hy42⟩:=bL h
  have j4:∀u4,y4=.inr u4→Run AH 0 (nC s_1 r) (.code (cR (cL (cR (cR (cR sb)))))::.code (cR (cR (cR (cR sb))))::[]) (sT 35 [(2,.hp 1 0 [] 4 0 0),(5,.hp 2 0 [] 4 0 0),(32,B u4)] [⟨0,4,[.agg [I (0),str ([]),I (0),.usl 4 (([]).map aa)]]⟩,⟨0,4,[ar r2.1]⟩] 3):=by
   intro u4 hu
   replace h:=hy42 u4 hu
   exact rf [2,5,32] [1,2] (j3 _ (ak h) :)
  have r4:∀r',y4=.inl r'→∀st,nC s_1 r' st→(nC s_1 r) st:=fun r' e st hq=>r3 r' (hy41 r' e) st hq
  replace h:=hy4
  refine sp 22 h rfl ?_ ?_<;>intro h
  ·refine cq 11 [32] [B true] 513 ?_
   exact rf [2,5,32] [1,129] (j4 _ (ak h) :)
  ·refine cq 1 [23] [.agg [I r2.1.Op,str r2.1.Name,I r2.1.Day,.hs 129 2 [(0,3)] 4 0 (r2.1.Parts.map aa).length]] 369 ?_
   obtain⟨r5,hr5,h⟩:=bS h
   refine oy 385 (B r5) rfl (aH rfl rfl (aP rfl rfl rfl (bd (oo (dX (dT rfl) (dX (dT rfl) (dX (dT rfl) (dX (jc (path:=[(0,3)]) rfl rfl (dm rfl rfl aB) rfl (dB (f:=aa) bK)) oH))))) bE) (Eh hr5) (.inl rfl) bm rfl rfl rfl)) ?_
   refine cq 3 [27] [B (!r5)] 433 ?_
   obtain⟨y6,hy6,hy61,hy62⟩:=bL h
   have j6:∀u6,y6=.inr u6→Run AH 0 (nC s_1 r) (.code (cR (cL (cR (cR (cR sb)))))::.code (cR (cR (cR (cR sb))))::[]) (sT 35 [(2,.hp 1 0 [] 4 0 0),(5,.hp 2 0 [] 4 0 0),(32,B u6)] [⟨0,4,[.agg [I (0),str ([]),I (0),.usl 4 (([]).map aa)]]⟩,⟨0,4,[ar r2.1]⟩] 3):=by
    intro u6 hu
    replace h:=hy62 u6 hu
    exact rf [2,5,32] [1,2] (j4 _ (ak h) :)
   have r6:∀r',y6=.inl r'→∀st,nC s_1 r' st→(nC s_1 r) st:=fun r' e st hq=>r4 r' (hy61 r' e) st hq
   replace h:=hy6
   refine sp 27 h rfl ?_ ?_<;>intro h
   ·refine cq 6 [32] [B true] 513 ?_
    exact rf [2,5,32] [1,129] (j6 _ (ak h) :)
   ·refine cq 1 [28] [.agg [I r2.1.Op,str r2.1.Name,I r2.1.Day,.hs 129 2 [(0,3)] 4 0 (r2.1.Parts.map aa).length]] 449 ?_
    obtain⟨r7,hr7,h⟩:=bS h
    refine oy 465 (str r7) rfl (aH rfl rfl (aP rfl rfl rfl (bd (oo (dX (dT rfl) (dX (dT rfl) (dX (dT rfl) (dX (jc (path:=[(0,3)]) rfl rfl (dm rfl rfl aB) rfl (dB (f:=aa) bK)) oH))))) bE) (OK hr7) (.inl rfl) bm rfl rfl rfl)) ?_
    refine cq 4 [32] [B (!(r7==s_1))] 513 ?_
    exact rf [2,5,32] [1,129] (j6 _ (ak h) :)
theorem Nn {G:cW}[TabG Tryz.prog G]:cX G 12 Cm:=gT 1 0 (aQ Nq (aQ rQ (aQ FC ch))) dF Tryz.func12 (fun a r h=>Pt a r h)
def iA:(List Int)→List V:=oA (oI (V.int .u8))
def iB (r:Bool):V×List V:=(B r,[])
noncomputable def jq :=bu [false] iA iB fun x=>gc x
theorem tw {bo:List Int}{r}(h:gc bo=some r):jq.F (iA bo)=some (iB r):=ba (bb (fK (l5 (k:=.u8)))) h
noncomputable def fu :=aY Tryz.f3
noncomputable abbrev fk :=cR (cR (cR (cR (cR (cR (cR (cR (cR (cR fu)))))))))
noncomputable abbrev fZ :=cR (cL (cR (cR (cR (cR (cR (cR (cR (cR (cR fu))))))))))
noncomputable abbrev mC :=cR (cR (cR fk))
noncomputable def dK :=dE [(4,oz),(5,xi),(6,Ce),(7,Co),(8,xk),(11,Cf),(12,Cm),(10,xc),(9,xm)]
def aV (x:(List Int))(r:Bool):St→Prop:=QF dK Tryz.f3 [false] (iA x) (iB r)
theorem rx (bo:List Int)(r:Bool)(h:gc bo=some r):b7 dK Tryz.f3 [false] 0 (iA bo) (iB r):=by
 show Run _ _ (aV bo r) [.code fu] _
 refine rI 112 [(0,.isl false (bo.map (V.int .u8)))] [] 1 ?_
 unfold gc at h
 refine cq 8 [20] [.isl false (bo.map (V.int .u8))] 33 ?_
 obtain⟨r2,hr2,h⟩:=bS h
 refine oq 49 (B r2) rfl (cP (He hr2)) ?_
 refine aq 1 ?_
 refine sq h ?_ ?_<;>intro h
 ·refine cq 4 [2] [B true] 65 ?_
  obtain rfl:=sI h
  exact rP [B true]
 ·refine aq 1 ?_
  refine cq 3 [23] [.isl false (bo.map (V.int .u8))] 65 ?_
  obtain⟨r3,hr3,h⟩:=bS h
  refine oq 81 (.tup [.agg [I r3.1.Op,str r3.1.Name,I r3.1.Day,.hs 65 0 [] 4 0 (r3.1.Parts.map aa).length],.hs 66 0 [] 1 0 (r3.2.1.map str).length,I r3.2.2]) rfl (cP (Q1 hr3)) ?_
  refine ck 5 [3,25,26,27] [] [145] [] [.hp 145 0 [] 4 0 0,.agg [I r3.1.Op,str r3.1.Name,I r3.1.Day,.hs 65 0 [] 4 0 (r3.1.Parts.map aa).length],.hs 66 0 [] 1 0 (r3.2.1.map str).length,I r3.2.2] [some ⟨0,4,[.agg [I (0),str ([]),I (0),.isl true []]]⟩] 161 (by kernel_rfl) ?_
  refine cG 145 [.agg [I (0),str ([]),I (0),.usl 4 (([]).map aa)]] rfl rfl (ao (dC (ao (.refl _) (ao (.refl _) (ao (.refl _) (ao (.nil _) bv))))) bv) ?_
  refine o0 177 rfl rfl (gH rfl rfl (fP (path:=[]) (pl:=false) (e':=ar r3.1) (es2':=[ar r3.1]) rfl (dY (au (aA rfl) (au (aA rfl) (au (aA rfl) (au (ec rfl rfl) dZ))))) rfl rfl rfl aB rfl rfl rfl rfl rfl dt 2 rfl)) ?_
  refine cq 8 [4,5,29,30,31] [.hs 66 0 [] 1 0 (r3.2.1.map str).length,I r3.2.2,.agg [I r3.1.Op,str r3.1.Name,I r3.1.Day,.hs 145 2 [(0,3)] 4 0 (r3.1.Parts.map aa).length],.hs 66 0 [] 1 0 (r3.2.1.map str).length,I r3.2.2] 257 ?_
  obtain⟨r4,hr4,h⟩:=bS h
  refine oq 273 (.tup [B r4.1,B r4.2]) rfl (aH rfl rfl (aP rfl rfl rfl (bd (oo (dX (dT rfl) (dX (dT rfl) (dX (dT rfl) (dX (jc (path:=[(0,3)]) rfl rfl (dm rfl rfl aB) rfl (dB (f:=aa) bK)) oH))))) (bd (tj rfl rfl (jR (f:=str) (g:=str) (xs:=r3.2.1) rfl rfl (dB mm))) (bd (bx rfl) bE))) (OA hr4) (.inl rfl) bm rfl rfl rfl)) ?_
  refine cq 9 [6,7,36] [B r4.1,B r4.2,.agg [I r3.1.Op,str r3.1.Name,I r3.1.Day,.hs 145 2 [(0,3)] 4 0 (r3.1.Parts.map aa).length]] 369 ?_
  obtain⟨r5,hr5,h⟩:=bS h
  refine oq 385 (.tup [.agg [I r5.1.Op,str r5.1.Name,I r5.1.Day,.hs 369 0 [] 4 0 (r5.1.Parts.map aa).length],B r5.2]) rfl (aH rfl rfl (aP rfl rfl rfl (bd (oo (dX (dT rfl) (dX (dT rfl) (dX (dT rfl) (dX (jc (path:=[(0,3)]) rfl rfl (dm rfl rfl aB) rfl (dB (f:=aa) bK)) oH))))) bE) (OG hr5) (.inl (by simp[cy,cY,str,yk (f:=aa) ke,ar])) bm rfl rfl rfl)) ?_
  refine ck 4 [8,38,39] [] [433] [] [.hp 433 0 [] 4 0 0,.agg [I r5.1.Op,str r5.1.Name,I r5.1.Day,.hs 369 0 [] 4 0 (r5.1.Parts.map aa).length],B r5.2] [some ⟨0,4,[.agg [I (0),str ([]),I (0),.isl true []]]⟩] 449 (by kernel_rfl) ?_
  refine cG 433 [.agg [I (0),str ([]),I (0),.usl 4 (([]).map aa)]] rfl rfl (ao (dC (ao (.refl _) (ao (.refl _) (ao (.refl _) (ao (.nil _) bv))))) bv) ?_
  refine o0 465 rfl rfl (gH rfl rfl (fP (path:=[]) (pl:=false) (e':=ar r5.1) (es2':=[ar r5.1]) rfl (dY (au (aA rfl) (au (aA rfl) (au (aA rfl) (au (ec rfl rfl) dZ))))) rfl rfl rfl aB rfl rfl rfl rfl rfl dt 2 rfl)) ?_
  refine cq 8 [9,41,42,43] [B r5.2,.agg [I r3.1.Op,str r3.1.Name,I r3.1.Day,.hs 145 2 [(0,3)] 4 0 (r3.1.Parts.map aa).length],.hs 66 0 [] 1 0 (r3.2.1.map str).length,I r3.2.2] 529 ?_
  obtain⟨r6,hr6,h⟩:=bS h
  refine oq 545 (.tup [B r6.1,B r6.2]) rfl (aH rfl rfl (aP rfl rfl rfl (bd (oo (dX (dT rfl) (dX (dT rfl) (dX (dT rfl) (dX (jc (path:=[(0,3)]) rfl rfl (dm rfl rfl aB) rfl (dB (f:=aa) bK)) oH))))) (bd (tj rfl rfl (jR (f:=str) (g:=str) (xs:=r3.2.1) rfl rfl (dB mm))) (bd (bx rfl) bE))) (Q4 hr6) (.inl rfl) bm rfl rfl rfl)) ?_
  refine cq 12 [50] [B (!(r4.2==r6.2))] 689 ?_
  obtain⟨y7,hy7,hy71,hy72⟩:=bJ h
  have j7:∀u7,y7=.inr u7→Run dK 0 (aV bo r) (.code (cR (cR (cL (cR (cR (cR (cR (cR fu))))))))::.code (cR (cR (cR (cR (cR (cR fu))))))::[]) (sT 112 [(3,.hp 1 0 [] 4 0 0),(4,.hs 2 0 [] 1 0 (r3.2.1.map str).length),(5,I r3.2.2),(6,B r4.1),(7,B r4.2),(8,.hp 3 0 [] 4 0 0),(9,B r5.2),(55,B u7)] [⟨0,4,[ar r3.1]⟩,⟨0,1,r3.2.1.map str⟩,⟨0,4,[ar r5.1]⟩] 4):=by
   intro u7 hu
   replace h:=hy72 u7 hu
   refine sq h ?_ ?_<;>intro h
   ·refine cq 4 [2] [B false] 20 ?_
    obtain rfl:=sI h
    exact rP [B false]
   ·refine aq 1 ?_
    refine cq 6 [57] [B (!r5.2)] 36 ?_
    refine sq h ?_ ?_<;>intro h
    ·refine cq 7 [2] [B (r5.1.Op==0)] 100 ?_
     obtain rfl:=sI h
     exact rP [B (r5.1.Op==0)]
    ·refine aq 1 ?_
     refine cq 5 [62,63,64] [.agg [I r5.1.Op,str r5.1.Name,I r5.1.Day,.hs 3 0 [(0,3)] 4 0 (r5.1.Parts.map aa).length],.hs 2 0 [] 1 0 (r3.2.1.map str).length,I r3.2.2] 84 ?_
     obtain⟨r8,hr8,h⟩:=bS h
     refine oq 100 (.tup [B r8.1,B r8.2]) rfl (aH rfl rfl (aP rfl rfl rfl (bd (oo (dX (dT rfl) (dX (dT rfl) (dX (dT rfl) (dX (jc (path:=[(0,3)]) rfl rfl (dm rfl rfl aB) rfl (dB (f:=aa) bK)) oH))))) (bd (tj rfl rfl (jR (f:=str) (g:=str) (xs:=r3.2.1) rfl rfl (dB mm))) (bd (bx rfl) bE))) (OA hr8) (.inl rfl) bm rfl rfl rfl)) ?_
     refine cq 9 [12,13,69] [B r8.1,B r8.2,.agg [I r5.1.Op,str r5.1.Name,I r5.1.Day,.hs 3 0 [(0,3)] 4 0 (r5.1.Parts.map aa).length]] 196 ?_
     obtain⟨r9,hr9,h⟩:=bS h
     refine oq 212 (.tup [.agg [I r9.1.Op,str r9.1.Name,I r9.1.Day,.hs 196 0 [] 4 0 (r9.1.Parts.map aa).length],B r9.2]) rfl (aH rfl rfl (aP rfl rfl rfl (bd (oo (dX (dT rfl) (dX (dT rfl) (dX (dT rfl) (dX (jc (path:=[(0,3)]) rfl rfl (dm rfl rfl aB) rfl (dB (f:=aa) bK)) oH))))) bE) (OG hr9) (.inl (by simp[cy,cY,str,yk (f:=aa) ke,ar])) bm rfl rfl rfl)) ?_
     refine ck 4 [14,71,72] [] [260] [] [.hp 260 0 [] 4 0 0,.agg [I r9.1.Op,str r9.1.Name,I r9.1.Day,.hs 196 0 [] 4 0 (r9.1.Parts.map aa).length],B r9.2] [some ⟨0,4,[.agg [I (0),str ([]),I (0),.isl true []]]⟩] 276 (by kernel_rfl) ?_
     refine cG 260 [.agg [I (0),str ([]),I (0),.usl 4 (([]).map aa)]] rfl rfl (ao (dC (ao (.refl _) (ao (.refl _) (ao (.refl _) (ao (.nil _) bv))))) bv) ?_
     refine o0 292 rfl rfl (gH rfl rfl (fP (path:=[]) (pl:=false) (e':=ar r9.1) (es2':=[ar r9.1]) rfl (dY (au (aA rfl) (au (aA rfl) (au (aA rfl) (au (ec rfl rfl) dZ))))) rfl rfl rfl aB rfl rfl rfl rfl rfl dt 2 rfl)) ?_
     refine cq 7 [15,74] [B r9.2,B r4.2] 340 ?_
     obtain⟨y10,hy10,hy101,hy102⟩:=bJ h
     have j10:∀u10,y10=.inr u10→Run dK 0 (aV bo r) (.code fZ::.code fk::[]) (sT 112 [(3,.hp 1 0 [] 4 0 0),(92,B u10)] [⟨0,4,[ar r3.1]⟩] 2):=by
      intro u10 hu
      replace h:=hy102 u10 hu
      refine sq h ?_ ?_<;>intro h
      ·refine cq 4 [2] [B false] 18 ?_
       obtain rfl:=sI h
       exact rP [B false]
      ·refine aq 1 ?_
       refine cq 3 [94] [.agg [I r3.1.Op,str r3.1.Name,I r3.1.Day,.hs 1 0 [(0,3)] 4 0 (r3.1.Parts.map aa).length]] 18 ?_
       obtain⟨r11,hr11,h⟩:=bS h
       refine oq 34 (.tup [str r11.1,B r11.2]) rfl (aH rfl rfl (aP rfl rfl rfl (bd (oo (dX (dT rfl) (dX (dT rfl) (dX (dT rfl) (dX (jc (path:=[(0,3)]) rfl rfl (dm rfl rfl aB) rfl (dB (f:=aa) bK)) oH))))) bE) (SE hr11) (.inl rfl) bm rfl rfl rfl)) ?_
       refine cq 9 [17,99] [B r11.2,str r11.1] 130 ?_
       obtain⟨r12,hr12,h⟩:=bS h
       refine oq 146 (.tup [.agg [I r12.1.Op,str r12.1.Name,I r12.1.Day,.hs 130 0 [] 4 0 (r12.1.Parts.map aa).length],B r12.2]) rfl (cP (SK hr12)) ?_
       refine ck 4 [18,101,102] [] [194] [] [.hp 194 0 [] 4 0 0,.agg [I r12.1.Op,str r12.1.Name,I r12.1.Day,.hs 130 0 [] 4 0 (r12.1.Parts.map aa).length],B r12.2] [some ⟨0,4,[.agg [I (0),str ([]),I (0),.isl true []]]⟩] 210 (by kernel_rfl) ?_
       refine cG 194 [.agg [I (0),str ([]),I (0),.usl 4 (([]).map aa)]] rfl rfl (ao (dC (ao (.refl _) (ao (.refl _) (ao (.refl _) (ao (.nil _) bv))))) bv) ?_
       refine o0 226 rfl rfl (gH rfl rfl (fP (path:=[]) (pl:=false) (e':=ar r12.1) (es2':=[ar r12.1]) rfl (dY (au (aA rfl) (au (aA rfl) (au (aA rfl) (au (ec rfl rfl) dZ))))) rfl rfl rfl aB rfl rfl rfl rfl rfl dt 2 rfl)) ?_
       refine cq 6 [19,104] [B r12.2,B r11.2] 274 ?_
       obtain⟨y13,hy13,hy131,hy132⟩:=bJ h
       have j13:∀u13,y13=.inr u13→Run dK 0 (aV bo r) (.code mC::[]) (sT 112 [(2,B u13)] [] 1):=by
        intro u13 hu
        replace h:=hy132 u13 hu
        obtain rfl:=sI h
        exact rP [B u13]
       have r13:∀r',y13=.inl r'→∀st,aV bo r' st→(aV bo r) st:=fun r' e st hq=>by rw[hy131 r' e] at hq;exact hq
       replace h:=hy13
       refine sp 104 h rfl ?_ ?_<;>intro h
       ·refine cq 3 [107] [B r12.2] 322 ?_
        obtain⟨y14,hy14,hy141,hy142⟩:=bL h
        have j14:∀u14,y14=.inr u14→Run dK 0 (aV bo r) (.code mC::[]) (sT 112 [(2,B u14)] [] 1):=by
         intro u14 hu
         replace h:=hy142 u14 hu
         exact rf [2] [] (j13 _ (ak h) :)
        have r14:∀r',y14=.inl r'→∀st,aV bo r' st→(aV bo r) st:=fun r' e st hq=>r13 r' (hy141 r' e) st hq
        replace h:=hy14
        refine sp 107 h rfl ?_ ?_<;>intro h
        ·refine cq 2 [108,109] [.agg [I r12.1.Op,str r12.1.Name,I r12.1.Day,.hs 194 2 [(0,3)] 4 0 (r12.1.Parts.map aa).length],.agg [I r3.1.Op,str r3.1.Name,I r3.1.Day,.hs 1 0 [(0,3)] 4 0 (r3.1.Parts.map aa).length]] 354 ?_
         obtain⟨r15,hr15,h⟩:=bS h
         refine oy 370 (B r15) rfl (aH rfl rfl (aP rfl rfl rfl (bd (oo (dX (dT rfl) (dX (dT rfl) (dX (dT rfl) (dX (jc (path:=[(0,3)]) rfl rfl (dm rfl rfl aB) rfl (dB (f:=aa) bK)) oH))))) (bd (oo (dX (dT rfl) (dX (dT rfl) (dX (dT rfl) (dX (jc (path:=[(0,3)]) rfl rfl (dm rfl rfl aB) rfl (dB (f:=aa) bK)) oH))))) bE)) (Fd hr15) (.inl rfl) bm rfl rfl rfl)) ?_
         refine cq 3 [2] [B r15] 402 ?_
         exact rf [2] [] (j14 _ (ak h) :)
        ·refine cq 6 [2] [B false] 402 ?_
         exact rf [2] [] (j14 _ (ak h) :)
       ·refine cq 9 [2] [B false] 402 ?_
        exact rf [2] [] (j13 _ (ak h) :)
     have r10:∀r',y10=.inl r'→∀st,aV bo r' st→(aV bo r) st:=fun r' e st hq=>by rw[hy101 r' e] at hq;exact hq
     replace h:=hy10
     refine sp 74 h rfl ?_ ?_<;>intro h
     ·refine cq 3 [77] [B (!r8.2)] 388 ?_
      obtain⟨y16,hy16,hy161,hy162⟩:=bL h
      have j16:∀u16,y16=.inr u16→Run dK 0 (aV bo r) (.code fZ::.code fk::[]) (sT 112 [(3,.hp 1 0 [] 4 0 0),(92,B u16)] [⟨0,4,[ar r3.1]⟩] 2):=by
       intro u16 hu
       replace h:=hy162 u16 hu
       exact rf [3,92] [1] (j10 _ (ak h) :)
      have r16:∀r',y16=.inl r'→∀st,aV bo r' st→(aV bo r) st:=fun r' e st hq=>r10 r' (hy161 r' e) st hq
      replace h:=hy16
      refine sp 77 h rfl ?_ ?_<;>intro h
      ·refine cq 16 [92] [B true] 628 ?_
       exact rf [3,92] [1] (j16 _ (ak h) :)
      ·refine cq 6 [83] [B (!(r8.1==r4.1))] 484 ?_
       obtain⟨y17,hy17,hy171,hy172⟩:=bL h
       have j17:∀u17,y17=.inr u17→Run dK 0 (aV bo r) (.code fZ::.code fk::[]) (sT 112 [(3,.hp 1 0 [] 4 0 0),(92,B u17)] [⟨0,4,[ar r3.1]⟩] 2):=by
        intro u17 hu
        replace h:=hy172 u17 hu
        exact rf [3,92] [1] (j16 _ (ak h) :)
       have r17:∀r',y17=.inl r'→∀st,aV bo r' st→(aV bo r) st:=fun r' e st hq=>r16 r' (hy171 r' e) st hq
       replace h:=hy17
       refine sp 83 h rfl ?_ ?_<;>intro h
       ·refine cq 10 [92] [B true] 628 ?_
        exact rf [3,92] [1] (j17 _ (ak h) :)
       ·refine cq 4 [87] [B (!r9.2)] 548 ?_
        obtain⟨y18,hy18,hy181,hy182⟩:=bL h
        have j18:∀u18,y18=.inr u18→Run dK 0 (aV bo r) (.code fZ::.code fk::[]) (sT 112 [(3,.hp 1 0 [] 4 0 0),(92,B u18)] [⟨0,4,[ar r3.1]⟩] 2):=by
         intro u18 hu
         replace h:=hy182 u18 hu
         exact rf [3,92] [1] (j17 _ (ak h) :)
        have r18:∀r',y18=.inl r'→∀st,aV bo r' st→(aV bo r) st:=fun r' e st hq=>r17 r' (hy181 r' e) st hq
        replace h:=hy18
        refine sp 87 h rfl ?_ ?_<;>intro h
        ·refine cq 6 [92] [B true] 628 ?_
         exact rf [3,92] [1] (j18 _ (ak h) :)
        ·refine cq 2 [88,89] [.agg [I r9.1.Op,str r9.1.Name,I r9.1.Day,.hs 260 2 [(0,3)] 4 0 (r9.1.Parts.map aa).length],.agg [I r5.1.Op,str r5.1.Name,I r5.1.Day,.hs 3 0 [(0,3)] 4 0 (r5.1.Parts.map aa).length]] 580 ?_
         obtain⟨r19,hr19,h⟩:=bS h
         refine oy 596 (B r19) rfl (aH rfl rfl (aP rfl rfl rfl (bd (oo (dX (dT rfl) (dX (dT rfl) (dX (dT rfl) (dX (jc (path:=[(0,3)]) rfl rfl (dm rfl rfl aB) rfl (dB (f:=aa) bK)) oH))))) (bd (oo (dX (dT rfl) (dX (dT rfl) (dX (dT rfl) (dX (jc (path:=[(0,3)]) rfl rfl (dm rfl rfl aB) rfl (dB (f:=aa) bK)) oH))))) bE)) (Fd hr19) (.inl rfl) bm rfl rfl rfl)) ?_
         refine cq 3 [92] [B (!r19)] 628 ?_
         exact rf [3,92] [1] (j18 _ (ak h) :)
     ·refine cq 13 [87] [B (!r9.2)] 548 ?_
      obtain⟨y20,hy20,hy201,hy202⟩:=bL h
      have j20:∀u20,y20=.inr u20→Run dK 0 (aV bo r) (.code fZ::.code fk::[]) (sT 112 [(3,.hp 1 0 [] 4 0 0),(92,B u20)] [⟨0,4,[ar r3.1]⟩] 2):=by
       intro u20 hu
       replace h:=hy202 u20 hu
       exact rf [3,92] [1] (j10 _ (ak h) :)
      have r20:∀r',y20=.inl r'→∀st,aV bo r' st→(aV bo r) st:=fun r' e st hq=>r10 r' (hy201 r' e) st hq
      replace h:=hy20
      refine sp 87 h rfl ?_ ?_<;>intro h
      ·refine cq 6 [92] [B true] 628 ?_
       exact rf [3,92] [1] (j20 _ (ak h) :)
      ·refine cq 2 [88,89] [.agg [I r9.1.Op,str r9.1.Name,I r9.1.Day,.hs 260 2 [(0,3)] 4 0 (r9.1.Parts.map aa).length],.agg [I r5.1.Op,str r5.1.Name,I r5.1.Day,.hs 3 0 [(0,3)] 4 0 (r5.1.Parts.map aa).length]] 580 ?_
       obtain⟨r21,hr21,h⟩:=bS h
       refine oy 596 (B r21) rfl (aH rfl rfl (aP rfl rfl rfl (bd (oo (dX (dT rfl) (dX (dT rfl) (dX (dT rfl) (dX (jc (path:=[(0,3)]) rfl rfl (dm rfl rfl aB) rfl (dB (f:=aa) bK)) oH))))) (bd (oo (dX (dT rfl) (dX (dT rfl) (dX (dT rfl) (dX (jc (path:=[(0,3)]) rfl rfl (dm rfl rfl aB) rfl (dB (f:=aa) bK)) oH))))) bE)) (Fd hr21) (.inl rfl) bm rfl rfl rfl)) ?_
       refine cq 3 [92] [B (!r21)] 628 ?_
       exact rf [3,92] [1] (j20 _ (ak h) :)
  have r7:∀r',y7=.inl r'→∀st,aV bo r' st→(aV bo r) st:=fun r' e st hq=>by rw[hy71 r' e] at hq;exact hq
  replace h:=hy7
  refine sp 50 h rfl ?_ ?_<;>intro h
  ·refine cq 6 [55] [B true] 769 ?_
   exact rf [3,4,5,6,7,8,9,55] [145,66,433] (j7 _ (ak h) :)
  ·refine cq 2 [51,52] [B r5.2,.agg [I r3.1.Op,str r3.1.Name,I r3.1.Day,.hs 145 2 [(0,3)] 4 0 (r3.1.Parts.map aa).length]] 721 ?_
   obtain⟨r22,hr22,h⟩:=bS h
   refine oy 737 (B r22) rfl (aH rfl rfl (aP rfl rfl rfl (bd (oo (dX (dT rfl) (dX (dT rfl) (dX (dT rfl) (dX (jc (path:=[(0,3)]) rfl rfl (dm rfl rfl aB) rfl (dB (f:=aa) bK)) oH))))) bE) (Q5 hr22) (.inl rfl) bm rfl rfl rfl)) ?_
   refine cq 3 [55] [B (!(r5.2==r22))] 769 ?_
   exact rf [3,4,5,6,7,8,9,55] [145,66,433] (j7 _ (ak h) :)
theorem qw {G:cW}[TabG Tryz.prog G]:cX G 3 jq:=gT 1 0 (aQ CN (aQ Kd (aQ Mx (aQ Np (aQ Ke (aQ My (aQ Nn (aQ J2 (aQ Kg ch))))))))) dF Tryz.func3 (fun a r h=>rx a r h)
end Go.Ln
