/-
  The walks.
-/
import Derived.Test.YtoghefkinobihaaDoorFnImplicationsRunA
set_option maxHeartbeats 4000000
set_option linter.unusedVariables false
set_option linter.unusedSimpArgs false
set_option maxRecDepth 100000
namespace Go.Ln
open Go Go.Proofs
theorem pY (aI:List Int)(r:Bool)(h:ft aI=some r):ct bh Tryd.f3 [false] 0 (gJ aI) (gK r):=by
 show Run _ _ (bp aI r) [.code gL] _
 refine rI 147 [(0,.isl false (aI.map (V.int .u8)))] [] 1 ?_
 unfold ft at h
 refine cq 8 [23] [.isl false (aI.map (V.int .u8))] 33 ?_
 obtain⟨r2,hr2,h⟩:=bS h
 refine oq 49 (B r2) rfl (cP (GD hr2)) ?_
 refine aq 1 ?_
 refine sq h ?_ ?_<;>intro h
 ·refine cq 4 [2] [B true] 65 ?_
  obtain rfl:=sI h
  exact rP [B true]
 ·refine aq 1 ?_
  refine cq 3 [26] [.isl false (aI.map (V.int .u8))] 65 ?_
  obtain⟨r3,hr3,h⟩:=bS h
  refine oq 81 (.tup [.agg [I r3.1.Op,str r3.1.Name,I r3.1.Day,.hs 65 0 [] 4 0 (r3.1.Parts.map ae).length],.agg [I r3.2.Op,str r3.2.Name,I r3.2.Day,.hs 66 0 [] 4 0 (r3.2.Parts.map ae).length]]) rfl (cP (QP hr3)) ?_
  refine ck 4 [3,28,29] [] [129] [] [.hp 129 0 [] 4 0 0,.agg [I r3.1.Op,str r3.1.Name,I r3.1.Day,.hs 65 0 [] 4 0 (r3.1.Parts.map ae).length],.agg [I r3.2.Op,str r3.2.Name,I r3.2.Day,.hs 66 0 [] 4 0 (r3.2.Parts.map ae).length]] [some ⟨0,4,[.agg [I (0),str ([]),I (0),.isl true []]]⟩] 145 (by kernel_rfl) ?_
  refine eS 129 [.agg [I (0),str ([]),I (0),.usl 4 (([]).map ae)]] rfl rfl (aO (fC (aO (.refl _) (aO (.refl _) (aO (.refl _) (aO (.nil _) dH))))) dH) ?_
  refine ck 1 [4] [] [145] [] [.hp 145 0 [] 4 0 0] [some ⟨0,4,[.agg [I (0),str ([]),I (0),.isl true []]]⟩] 161 (by kernel_rfl) ?_
  refine eS 145 [.agg [I (0),str ([]),I (0),.usl 4 (([]).map ae)]] rfl rfl (aO (fC (aO (.refl _) (aO (.refl _) (aO (.refl _) (aO (.nil _) dH))))) dH) ?_
  refine o0 177 rfl rfl (ie rfl rfl (fM (path:=[]) (pl:=false) (e':=ai r3.1) (es2':=[ai r3.1]) rfl (ec (au (ay rfl) (au (ay rfl) (au (ay rfl) (au (cG rfl rfl) ed))))) rfl rfl rfl al rfl rfl rfl rfl rfl d5 2 rfl)) ?_
  refine o0 193 rfl rfl (ie rfl rfl (fM (path:=[]) (pl:=false) (e':=ai r3.2) (es2':=[ai r3.2]) rfl (ec (au (ay rfl) (au (ay rfl) (au (ay rfl) (au (cG rfl rfl) ed))))) rfl rfl rfl al rfl rfl rfl rfl rfl d5 2 rfl)) ?_
  refine cq 5 [31,32] [.agg [I r3.1.Op,str r3.1.Name,I r3.1.Day,.hs 129 2 [(0,3)] 4 0 (r3.1.Parts.map ae).length],.agg [I r3.2.Op,str r3.2.Name,I r3.2.Day,.hs 145 2 [(0,3)] 4 0 (r3.2.Parts.map ae).length]] 225 ?_
  obtain⟨r4,hr4,h⟩:=bS h
  refine oq 241 (.tup [B r4.1,B r4.2]) rfl (ao rfl rfl (aB rfl rfl rfl (aM (oG (d6 (dX rfl) (d6 (dX rfl) (d6 (dX rfl) (d6 (jE (path:=[(0,3)]) rfl rfl (eL rfl rfl al) rfl (ci (f:=ae) bM)) pS))))) (aM (oG (d6 (dX rfl) (d6 (dX rfl) (d6 (dX rfl) (d6 (jE (path:=[(0,3)]) rfl rfl (eL rfl rfl al) rfl (ci (f:=ae) bM)) pS))))) bb)) (Qr hr4) (.inl rfl) aY rfl rfl rfl)) ?_
  refine cq 11 [5,6,37,38] [B r4.1,B r4.2,.agg [I r3.1.Op,str r3.1.Name,I r3.1.Day,.hs 129 2 [(0,3)] 4 0 (r3.1.Parts.map ae).length],.agg [I r3.2.Op,str r3.2.Name,I r3.2.Day,.hs 145 2 [(0,3)] 4 0 (r3.2.Parts.map ae).length]] 353 ?_
  obtain⟨r5,hr5,h⟩:=bS h
  refine oq 369 (.tup [B r5.1,B r5.2]) rfl (ao rfl rfl (aB rfl rfl rfl (aM (oG (d6 (dX rfl) (d6 (dX rfl) (d6 (dX rfl) (d6 (jE (path:=[(0,3)]) rfl rfl (eL rfl rfl al) rfl (ci (f:=ae) bM)) pS))))) (aM (oG (d6 (dX rfl) (d6 (dX rfl) (d6 (dX rfl) (d6 (jE (path:=[(0,3)]) rfl rfl (eL rfl rfl al) rfl (ci (f:=ae) bM)) pS))))) bb)) (QS hr5) (.inl rfl) aY rfl rfl rfl)) ?_
  refine cq 12 [44] [B (!(r4.2==r5.2))] 497 ?_
  refine sq h ?_ ?_<;>intro h
  ·refine cq 4 [2] [B false] 513 ?_
   obtain rfl:=sI h
   exact rP [B false]
  ·refine aq 1 ?_
   refine cq 3 [46] [.isl false (aI.map (V.int .u8))] 513 ?_
   obtain⟨r6,hr6,h⟩:=bS h
   refine oq 529 (.hs 513 0 [] 1 0 (r6.map (V.int .u8)).length) rfl (cP (GG hr6)) ?_
   obtain⟨r7,hr7,h⟩:=bS h
   refine oq 545 (.tup [.agg [I r7.1.Op,str r7.1.Name,I r7.1.Day,.hs 529 0 [] 4 0 (r7.1.Parts.map ae).length],.hs 530 0 [] 1 0 (r7.2.1.map str).length,I r7.2.2]) rfl (ao rfl rfl (aB rfl rfl rfl (aM (la rfl rfl (fi (f:=(V.int .u8)) (g:=(V.int .u8)) (xs:=r6) rfl rfl (ci (fun _=>rfl)))) bb) (QM hr7) (.inl (by simp[bW,cy,str,ky (f:=ae) fq,ky (f:=str) F9,ai])) aY rfl rfl rfl)) ?_
   refine ck 5 [9,49,50,51] [] [609] [] [.hp 609 0 [] 4 0 0,.agg [I r7.1.Op,str r7.1.Name,I r7.1.Day,.hs 529 0 [] 4 0 (r7.1.Parts.map ae).length],.hs 530 0 [] 1 0 (r7.2.1.map str).length,I r7.2.2] [some ⟨0,4,[.agg [I (0),str ([]),I (0),.isl true []]]⟩] 625 (by kernel_rfl) ?_
   refine eS 609 [.agg [I (0),str ([]),I (0),.usl 4 (([]).map ae)]] rfl rfl (aO (fC (aO (.refl _) (aO (.refl _) (aO (.refl _) (aO (.nil _) dH))))) dH) ?_
   refine o0 641 rfl rfl (ie rfl rfl (fM (path:=[]) (pl:=false) (e':=ai r7.1) (es2':=[ai r7.1]) rfl (ec (au (ay rfl) (au (ay rfl) (au (ay rfl) (au (cG rfl rfl) ed))))) rfl rfl rfl al rfl rfl rfl rfl rfl d5 2 rfl)) ?_
   refine cq 8 [10,11,53,54,55] [.hs 530 0 [] 1 0 (r7.2.1.map str).length,I r7.2.2,.agg [I r3.1.Op,str r3.1.Name,I r3.1.Day,.hs 129 2 [(0,3)] 4 0 (r3.1.Parts.map ae).length],.hs 530 0 [] 1 0 (r7.2.1.map str).length,I r7.2.2] 721 ?_
   obtain⟨r8,hr8,h⟩:=bS h
   refine oq 737 (.tup [B r8.1,B r8.2]) rfl (ao rfl rfl (aB rfl rfl rfl (aM (oG (d6 (dX rfl) (d6 (dX rfl) (d6 (dX rfl) (d6 (jE (path:=[(0,3)]) rfl rfl (eL rfl rfl al) rfl (ci (f:=ae) bM)) pS))))) (aM (la rfl rfl (fi (f:=str) (g:=str) (xs:=r7.2.1) rfl rfl (ci fE))) (aM (bd rfl) bb))) (Ie hr8) (.inl rfl) aY rfl rfl rfl)) ?_
   refine cq 11 [12,13,60,61,62] [B r8.1,B r8.2,.agg [I r3.2.Op,str r3.2.Name,I r3.2.Day,.hs 145 2 [(0,3)] 4 0 (r3.2.Parts.map ae).length],.hs 530 0 [] 1 0 (r7.2.1.map str).length,I r7.2.2] 865 ?_
   obtain⟨r9,hr9,h⟩:=bS h
   refine oq 881 (.tup [B r9.1,B r9.2]) rfl (ao rfl rfl (aB rfl rfl rfl (aM (oG (d6 (dX rfl) (d6 (dX rfl) (d6 (dX rfl) (d6 (jE (path:=[(0,3)]) rfl rfl (eL rfl rfl al) rfl (ci (f:=ae) bM)) pS))))) (aM (la rfl rfl (fi (f:=str) (g:=str) (xs:=r7.2.1) rfl rfl (ci fE))) (aM (bd rfl) bb))) (Ie hr9) (.inl rfl) aY rfl rfl rfl)) ?_
   refine cq 11 [14,15,67] [B r9.1,B r9.2,B r4.2] 993 ?_
   obtain⟨u10,hu10,h⟩:=lJ h
   have j10:Run bh 0 (bp aI r) (.code fu::.code ee::[]) (sT 147 [(3,.hp 1 0 [] 4 0 0),(4,.hp 2 0 [] 4 0 0),(10,.hs 3 0 [] 1 0 (r7.2.1.map str).length),(11,I r7.2.2),(12,B r8.1),(13,B r8.2),(14,B r9.1),(15,B r9.2),(82,B u10)] [⟨0,4,[ai r3.1]⟩,⟨0,4,[ai r3.2]⟩,⟨0,1,r7.2.1.map str⟩] 4):=by
    refine sq h ?_ ?_<;>intro h
    ·refine cq 4 [2] [B false] 20 ?_
     obtain rfl:=sI h
     exact rP [B false]
    ·refine aq 1 ?_
     refine cq 4 [84,85] [.agg [I r3.1.Op,str r3.1.Name,I r3.1.Day,.hs 1 0 [(0,3)] 4 0 (r3.1.Parts.map ae).length],.agg [I r3.2.Op,str r3.2.Name,I r3.2.Day,.hs 2 0 [(0,3)] 4 0 (r3.2.Parts.map ae).length]] 36 ?_
     obtain⟨r11,hr11,h⟩:=bS h
     refine oq 52 (.tup [B r11.1,B r11.2]) rfl (ao rfl rfl (aB rfl rfl rfl (aM (oG (d6 (dX rfl) (d6 (dX rfl) (d6 (dX rfl) (d6 (jE (path:=[(0,3)]) rfl rfl (eL rfl rfl al) rfl (ci (f:=ae) bM)) pS))))) (aM (oG (d6 (dX rfl) (d6 (dX rfl) (d6 (dX rfl) (d6 (jE (path:=[(0,3)]) rfl rfl (eL rfl rfl al) rfl (ci (f:=ae) bM)) pS))))) bb)) (Qq hr11) (.inl rfl) aY rfl rfl rfl)) ?_
     refine cq 11 [16,90] [B r11.1,B r11.2] 164 ?_
     obtain⟨u12,hu12,h⟩:=lJ h
     have j12:Run bh 0 (bp aI r) (.code fw::.code dm::[]) (sT 147 [(3,.hp 1 0 [] 4 0 0),(10,.hs 2 0 [] 1 0 (r7.2.1.map str).length),(11,I r7.2.2),(12,B r8.1),(13,B r8.2),(105,B u12)] [⟨0,4,[ai r3.1]⟩,⟨0,1,r7.2.1.map str⟩] 3):=by
      refine sq h ?_ ?_<;>intro h
      ·refine cq 4 [2] [B false] 19 ?_
       obtain rfl:=sI h
       exact rP [B false]
      ·refine aq 1 ?_
       refine cq 4 [107,108] [.agg [I r3.1.Op,str r3.1.Name,I r3.1.Day,.hs 1 0 [(0,3)] 4 0 (r3.1.Parts.map ae).length],I r7.2.2] 35 ?_
       obtain⟨r13,hr13,h⟩:=bS h
       refine oq 51 (.tup [I r13.1,B r13.2]) rfl (ao rfl rfl (aB rfl rfl rfl (aM (oG (d6 (dX rfl) (d6 (dX rfl) (d6 (dX rfl) (d6 (jE (path:=[(0,3)]) rfl rfl (eL rfl rfl al) rfl (ci (f:=ae) bM)) pS))))) (aM (bd rfl) bb)) (Qv hr13) (.inl rfl) aY rfl rfl rfl)) ?_
       refine cq 12 [18,114] [I r13.1,B (!r13.2)] 179 ?_
       obtain⟨u14,hu14,h⟩:=lJ h
       have j14:Run bh 0 (bp aI r) (.code (cR (cL (cR dm)))::.code (cR (cR dm))::[]) (sT 147 [(3,.hp 1 0 [] 4 0 0),(10,.hs 2 0 [] 1 0 (r7.2.1.map str).length),(11,I r7.2.2),(12,B r8.1),(13,B r8.2),(18,I r13.1),(117,B u14)] [⟨0,4,[ai r3.1]⟩,⟨0,1,r7.2.1.map str⟩] 3):=by
        refine sq h ?_ ?_<;>intro h
        ·refine cq 6 [2] [B (r13.1==0)] 51 ?_
         obtain rfl:=sI h
         exact rP [B (r13.1==0)]
        ·refine aq 1 ?_
         refine cq 12 [20,123] [I (aG (r13.1 - 1)),B (decide (r13.1<0))] 83 ?_
         obtain⟨u15,hu15,h⟩:=lJ h
         have j15:Run bh 0 (bp aI r) (.code (cR (cR (cR (cR dm))))::[]) (sT 147 [(3,.hp 1 0 [] 4 0 0),(10,.hs 2 0 [] 1 0 (r7.2.1.map str).length),(11,I r7.2.2),(12,B r8.1),(13,B r8.2),(20,I u15)] [⟨0,4,[ai r3.1]⟩,⟨0,1,r7.2.1.map str⟩] 3):=by
          refine cq 5 [125,126,127] [.agg [I r3.1.Op,str r3.1.Name,I r3.1.Day,.hs 1 0 [(0,3)] 4 0 (r3.1.Parts.map ae).length],.hs 2 0 [] 1 0 (r7.2.1.map str).length,I u15] 51 ?_
          obtain⟨r16,hr16,h⟩:=bS h
          refine oq 67 (.tup [B r16.1,B r16.2]) rfl (ao rfl rfl (aB rfl rfl rfl (aM (oG (d6 (dX rfl) (d6 (dX rfl) (d6 (dX rfl) (d6 (jE (path:=[(0,3)]) rfl rfl (eL rfl rfl al) rfl (ci (f:=ae) bM)) pS))))) (aM (la rfl rfl (fi (f:=str) (g:=str) (xs:=r7.2.1) rfl rfl (ci fE))) (aM (bd rfl) bb))) (Ie hr16) (.inl rfl) aY rfl rfl rfl)) ?_
          refine cq 11 [21,22,133] [B r16.1,B r16.2,B (!r8.2)] 195 ?_
          obtain⟨u17,hu17,h⟩:=lJ h
          have j17:Run bh 0 (bp aI r) (.code iP::[]) (sT 147 [(2,B u17)] [] 1):=by
           obtain rfl:=sI h
           exact rP [B u17]
          replace h:=hu17
          clear hu17
          refine sp 133 h rfl ?_ ?_<;>intro h
          ·refine cq 15 [2] [B true] 419 ?_
           subst h
           exact rf [2] [] (j17 :)
          ·refine cq 4 [137] [B (!r16.2)] 259 ?_
           obtain⟨u18,hu18,h⟩:=lJ h
           have j18:Run bh 0 (bp aI r) (.code iP::[]) (sT 147 [(2,B u18)] [] 1):=by
            subst h
            exact rf [2] [] (j17 :)
           replace h:=hu18
           clear hu18
           refine sp 137 h rfl ?_ ?_<;>intro h
           ·refine cq 11 [2] [B true] 419 ?_
            subst h
            exact rf [2] [] (j18 :)
           ·refine cq 5 [142] [B (decide (u15<r7.2.2))] 339 ?_
            obtain⟨u19,hu19,h⟩:=lJ h
            have j19:Run bh 0 (bp aI r) (.code iP::[]) (sT 147 [(2,B u19)] [] 1):=by
             subst h
             exact rf [2] [] (j18 :)
            replace h:=hu19
            clear hu19
            refine sp 142 h rfl ?_ ?_<;>intro h
            ·refine cq 6 [2] [B true] 419 ?_
             subst h
             exact rf [2] [] (j19 :)
            ·refine cq 6 [2] [B (r16.1==r8.1)] 419 ?_
             subst h
             exact rf [2] [] (j19 :)
         replace h:=hu15
         clear hu15
         refine rD h rfl rfl ?_ ?_<;>intro h
         ·refine cq 3 [20] [I (36524)] 99 ?_
          subst h
          exact rf [3,10,11,12,13,20] [1,2] (j15 :)
         ·refine aq 1 ?_
          subst h
          exact rf [3,10,11,12,13,20] [1,2] (j15 :)
       replace h:=hu14
       clear hu14
       refine sp 114 h rfl ?_ ?_<;>intro h
       ·refine cq 4 [117] [B true] 227 ?_
        subst h
        exact rf [3,10,11,12,13,18,117] [1,2] (j14 :)
       ·refine cq 4 [117] [B (r13.1==0)] 227 ?_
        subst h
        exact rf [3,10,11,12,13,18,117] [1,2] (j14 :)
     replace h:=hu12
     clear hu12
     refine sp 90 h rfl ?_ ?_<;>intro h
     ·refine cq 3 [93] [B r8.2] 212 ?_
      obtain⟨u20,hu20,h⟩:=lJ h
      have j20:Run bh 0 (bp aI r) (.code fw::.code dm::[]) (sT 147 [(3,.hp 1 0 [] 4 0 0),(10,.hs 2 0 [] 1 0 (r7.2.1.map str).length),(11,I r7.2.2),(12,B r8.1),(13,B r8.2),(105,B u20)] [⟨0,4,[ai r3.1]⟩,⟨0,1,r7.2.1.map str⟩] 3):=by
       subst h
       exact rf [3,10,11,12,13,105] [1,2] (j12 :)
      replace h:=hu20
      clear hu20
      refine sp 93 h rfl ?_ ?_<;>intro h
      ·refine cq 3 [96] [B r9.2] 260 ?_
       obtain⟨u21,hu21,h⟩:=lJ h
       have j21:Run bh 0 (bp aI r) (.code fw::.code dm::[]) (sT 147 [(3,.hp 1 0 [] 4 0 0),(10,.hs 2 0 [] 1 0 (r7.2.1.map str).length),(11,I r7.2.2),(12,B r8.1),(13,B r8.2),(105,B u21)] [⟨0,4,[ai r3.1]⟩,⟨0,1,r7.2.1.map str⟩] 3):=by
        subst h
        exact rf [3,10,11,12,13,105] [1,2] (j20 :)
       replace h:=hu21
       clear hu21
       refine sp 96 h rfl ?_ ?_<;>intro h
       ·refine cq 3 [99] [B r8.1] 308 ?_
        obtain⟨u22,hu22,h⟩:=lJ h
        have j22:Run bh 0 (bp aI r) (.code fw::.code dm::[]) (sT 147 [(3,.hp 1 0 [] 4 0 0),(10,.hs 2 0 [] 1 0 (r7.2.1.map str).length),(11,I r7.2.2),(12,B r8.1),(13,B r8.2),(105,B u22)] [⟨0,4,[ai r3.1]⟩,⟨0,1,r7.2.1.map str⟩] 3):=by
         subst h
         exact rf [3,10,11,12,13,105] [1,2] (j21 :)
        replace h:=hu22
        clear hu22
        refine sp 99 h rfl ?_ ?_<;>intro h
        ·refine cq 3 [102] [B r9.1] 356 ?_
         obtain⟨u23,hu23,h⟩:=lJ h
         have j23:Run bh 0 (bp aI r) (.code fw::.code dm::[]) (sT 147 [(3,.hp 1 0 [] 4 0 0),(10,.hs 2 0 [] 1 0 (r7.2.1.map str).length),(11,I r7.2.2),(12,B r8.1),(13,B r8.2),(105,B u23)] [⟨0,4,[ai r3.1]⟩,⟨0,1,r7.2.1.map str⟩] 3):=by
          subst h
          exact rf [3,10,11,12,13,105] [1,2] (j22 :)
         replace h:=hu23
         clear hu23
         refine sp 102 h rfl ?_ ?_<;>intro h
         ·refine cq 4 [105] [B (!r11.1)] 404 ?_
          subst h
          exact rf [3,10,11,12,13,105] [1,3] (j23 :)
         ·refine cq 4 [105] [B false] 404 ?_
          subst h
          exact rf [3,10,11,12,13,105] [1,3] (j23 :)
        ·refine cq 7 [105] [B false] 404 ?_
         subst h
         exact rf [3,10,11,12,13,105] [1,3] (j22 :)
       ·refine cq 10 [105] [B false] 404 ?_
        subst h
        exact rf [3,10,11,12,13,105] [1,3] (j21 :)
      ·refine cq 13 [105] [B false] 404 ?_
       subst h
       exact rf [3,10,11,12,13,105] [1,3] (j20 :)
     ·refine cq 16 [105] [B false] 404 ?_
      subst h
      exact rf [3,10,11,12,13,105] [1,3] (j12 :)
   replace h:=hu10
   clear hu10
   refine sp 67 h rfl ?_ ?_<;>intro h
   ·refine cq 3 [70] [B r4.1] 1041 ?_
    obtain⟨u24,hu24,h⟩:=lJ h
    have j24:Run bh 0 (bp aI r) (.code fu::.code ee::[]) (sT 147 [(3,.hp 1 0 [] 4 0 0),(4,.hp 2 0 [] 4 0 0),(10,.hs 3 0 [] 1 0 (r7.2.1.map str).length),(11,I r7.2.2),(12,B r8.1),(13,B r8.2),(14,B r9.1),(15,B r9.2),(82,B u24)] [⟨0,4,[ai r3.1]⟩,⟨0,4,[ai r3.2]⟩,⟨0,1,r7.2.1.map str⟩] 4):=by
     subst h
     exact rf [3,4,10,11,12,13,14,15,82] [1,2,3] (j10 :)
    replace h:=hu24
    clear hu24
    refine sp 70 h rfl ?_ ?_<;>intro h
    ·refine cq 3 [73] [B r8.2] 1089 ?_
     obtain⟨u25,hu25,h⟩:=lJ h
     have j25:Run bh 0 (bp aI r) (.code fu::.code ee::[]) (sT 147 [(3,.hp 1 0 [] 4 0 0),(4,.hp 2 0 [] 4 0 0),(10,.hs 3 0 [] 1 0 (r7.2.1.map str).length),(11,I r7.2.2),(12,B r8.1),(13,B r8.2),(14,B r9.1),(15,B r9.2),(82,B u25)] [⟨0,4,[ai r3.1]⟩,⟨0,4,[ai r3.2]⟩,⟨0,1,r7.2.1.map str⟩] 4):=by
      subst h
      exact rf [3,4,10,11,12,13,14,15,82] [1,2,3] (j24 :)
     replace h:=hu25
     clear hu25
     refine sp 73 h rfl ?_ ?_<;>intro h
     ·refine cq 3 [76] [B r9.2] 1137 ?_
      obtain⟨u26,hu26,h⟩:=lJ h
      have j26:Run bh 0 (bp aI r) (.code fu::.code ee::[]) (sT 147 [(3,.hp 1 0 [] 4 0 0),(4,.hp 2 0 [] 4 0 0),(10,.hs 3 0 [] 1 0 (r7.2.1.map str).length),(11,I r7.2.2),(12,B r8.1),(13,B r8.2),(14,B r9.1),(15,B r9.2),(82,B u26)] [⟨0,4,[ai r3.1]⟩,⟨0,4,[ai r3.2]⟩,⟨0,1,r7.2.1.map str⟩] 4):=by
       subst h
       exact rf [3,4,10,11,12,13,14,15,82] [1,2,3] (j25 :)
      replace h:=hu26
      clear hu26
      refine sp 76 h rfl ?_ ?_<;>intro h
      ·refine cq 3 [79] [B r8.1] 1185 ?_
       obtain⟨u27,hu27,h⟩:=lJ h
       have j27:Run bh 0 (bp aI r) (.code fu::.code ee::[]) (sT 147 [(3,.hp 1 0 [] 4 0 0),(4,.hp 2 0 [] 4 0 0),(10,.hs 3 0 [] 1 0 (r7.2.1.map str).length),(11,I r7.2.2),(12,B r8.1),(13,B r8.2),(14,B r9.1),(15,B r9.2),(82,B u27)] [⟨0,4,[ai r3.1]⟩,⟨0,4,[ai r3.2]⟩,⟨0,1,r7.2.1.map str⟩] 4):=by
        subst h
        exact rf [3,4,10,11,12,13,14,15,82] [1,2,3] (j26 :)
       replace h:=hu27
       clear hu27
       refine sp 79 h rfl ?_ ?_<;>intro h
       ·refine cq 4 [82] [B (!r9.1)] 1233 ?_
        subst h
        exact rf [3,4,10,11,12,13,14,15,82] [129,145,530] (j27 :)
       ·refine cq 4 [82] [B false] 1233 ?_
        subst h
        exact rf [3,4,10,11,12,13,14,15,82] [129,145,530] (j27 :)
      ·refine cq 7 [82] [B false] 1233 ?_
       subst h
       exact rf [3,4,10,11,12,13,14,15,82] [129,145,530] (j26 :)
     ·refine cq 10 [82] [B false] 1233 ?_
      subst h
      exact rf [3,4,10,11,12,13,14,15,82] [129,145,530] (j25 :)
    ·refine cq 13 [82] [B false] 1233 ?_
     subst h
     exact rf [3,4,10,11,12,13,14,15,82] [129,145,530] (j24 :)
   ·refine cq 16 [82] [B false] 1233 ?_
    subst h
    exact rf [3,4,10,11,12,13,14,15,82] [129,145,530] (j10 :)
theorem pM {G:dN}:dS G 3 iw:=gT 1 0 (aV B9 (aV Ma (aV Lh (aV Mc (aV Ca (aV L9 (aV Mb (aV Lg (aV L0 cJ))))))))) d3 Tryd.func3 (fun a r h=>pY a r h)
end Go.Ln
