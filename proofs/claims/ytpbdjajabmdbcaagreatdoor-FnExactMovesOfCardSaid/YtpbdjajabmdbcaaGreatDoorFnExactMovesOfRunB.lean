/-
  The walks.
-/
import Derived.Test.YtpbdjajabmdbcaaGreatDoorFnExactMovesOfRunA
set_option maxHeartbeats 4000000
set_option linter.unusedVariables false
set_option linter.unusedSimpArgs false
set_option maxRecDepth 100000
namespace Go.Ln
open Go Go.Proofs
theorem L3 (aJ:List Event)(bE:Int)(bK:Int)(aZ:Unit)(x5:Int×Int×Int×Int×(List Event))(u11:Int):cf nG 1 (px (aJ,bE,bK,aZ)) Xl 6 (Nc aJ bE bK aZ x5 u11) (fun u=>(sT 141 [(0,.hs 1 0 [] 4 0 (u.map aa).length),(1,I x5.1),(2,I x5.2.1),(3,.fn 80 []),(9,I u11),(10,I x5.2.2.2.1)] [⟨0,4,u.map aa⟩] 2)) fun x26=>(sT 141 [(0,.hs 1 0 [] 4 0 (x26.2.map aa).length),(1,I x5.1),(2,I x5.2.1),(3,.fn 80 []),(9,I u11),(10,I x5.2.2.2.1),(12,I x26.1)] [⟨0,4,x26.2.map aa⟩] 2):=eu (L1 aJ bE bK aZ x5 u11) fun {Q K} hK self ih x26 y h hr hn=>by
 unfold rE at h
 refine cq 7 [109] [B (decide (x26.1<x5.2.1))] 50 ?_
 refine sq h ?_ ?_<;>intro h
 ·refine aq 1 ?_
  refine aq 4 ?_
  refine cn [0,0,0,6,14,0,0,64,224,480,1023,2047,4095] rfl (by decide +kernel) ?_
  refine dk 3 [114,113,112] [I x26.1,.hs 1 0 [] 4 0 (x26.2.map aa).length,.fn 80 []] ?_
  obtain⟨e27,he27,h⟩:=bS h
  refine dq [1] [] (.hp 1 0 [] 4 (0+Int.toNat x26.1) 0) rfl (ah rfl rfl rfl (aL (f:=aa) (xs:=x26.2) rfl rfl rfl he27)) ?_
  refine dq [1] [] (aa e27) rfl (bm rfl (bZ (path:=[]) rfl rfl rfl aw (aB (f:=aa) (xs:=x26.2) he27) rfl rfl rfl)) ?_
  refine dk 3 [119,118,117] [I (ac (x26.1 - 1)),I x26.1,.hs 1 0 [] 4 0 (x26.2.map aa).length] ?_
  obtain⟨e28,he28,h⟩:=bS h
  refine dq [1] [] (.hp 1 0 [] 4 (0+Int.toNat (ac (x26.1 - 1))) 0) rfl (ah rfl rfl rfl (aL (f:=aa) (xs:=x26.2) rfl rfl rfl he28)) ?_
  refine dq [1] [] (aa e28) rfl (bm rfl (bZ (path:=[]) rfl rfl rfl aw (aB (f:=aa) (xs:=x26.2) he28) rfl rfl rfl)) ?_
  obtain⟨r29,hr29,h⟩:=bS h
  refine dq [] [] (I r29) rfl (cP (fF hr29)) ?_ (dK rfl rfl rfl rfl (ba (bl rfl) (ba (bl rfl) cS)) (fF hr29) (.inr rfl) rfl)
  refine dk 2 [124,123] [B (!(decide (r29<0))),B (decide (r29<0))] ?_
  refine de 258 rfl rfl ?_
  refine sq h ?_ ?_<;>intro h
  ·refine aq 1 ?_
   exact rf [0,1,2,3,9,10] [1] (hn _ (al h) :) (hk:=hK)
  ·refine aq 1 ?_
   refine cn [0,0,0,0,8,0,0,64,224,480,0,0,3072,7168,16355,32739,65535,131071] rfl (by decide +kernel) ?_
   refine dk 8 [132,131,130,129,128,127,126,125] [I (ac (x26.1 - 1)),I x26.1,.hs 1 0 [] 4 0 (x26.2.map aa).length,I (ac (x26.1 - 1)),I x26.1,.hs 1 0 [] 4 0 (x26.2.map aa).length,I x26.1,.hs 1 0 [] 4 0 (x26.2.map aa).length] ?_
   obtain⟨e30,he30,h⟩:=bS h
   refine dq [1] [] (.hp 1 0 [] 4 (0+Int.toNat (ac (x26.1 - 1))) 0) rfl (ah rfl rfl rfl (aL (f:=aa) (xs:=x26.2) rfl rfl rfl he30)) ?_
   refine dq [1] [] (aa e30) rfl (bm rfl (bZ (path:=[]) rfl rfl rfl aw (aB (f:=aa) (xs:=x26.2) he30) rfl rfl rfl)) ?_
   refine dk 2 [136,135] [I x26.1,.hs 1 0 [] 4 0 (x26.2.map aa).length] ?_
   obtain⟨e31,he31,h⟩:=bS h
   refine dq [1] [] (.hp 1 0 [] 4 (0+Int.toNat x26.1) 0) rfl (ah rfl rfl rfl (aL (f:=aa) (xs:=x26.2) rfl rfl rfl he31)) ?_
   refine dq [1] [] (aa e31) rfl (bm rfl (bZ (path:=[]) rfl rfl rfl aw (aB (f:=aa) (xs:=x26.2) he31) rfl rfl rfl)) ?_
   obtain⟨e32,he32,h⟩:=bS h
   refine dq [1] [] (.hp 1 0 [] 4 (0+Int.toNat x26.1) 0) rfl (ah rfl rfl rfl (aL (f:=aa) (xs:=x26.2) rfl rfl rfl he32)) ?_
   refine dz [1] [1] rfl (dl rfl rfl (ch (path:=[]) (pl:=true) (e':=aa e30) (es2':=(aK x26.2 x26.1 e30).map aa) rfl (ap rfl) rfl rfl rfl aw (aB (f:=aa) (xs:=x26.2) he32) rfl rfl rfl (eK (f:=aa) (xs:=x26.2) (y:=e30)) cl 0 rfl)) ?_
   try rw[←ep (f:=aa) (xs:=x26.2) (i:=x26.1) (z:=e30)]
   obtain⟨e37,he37,h⟩:=bS h
   refine dq [1] [] (.hp 1 0 [] 4 (0+Int.toNat (ac (x26.1 - 1))) 0) rfl (ah rfl rfl rfl (aL (f:=aa) (xs:=(aK x26.2 x26.1 e30)) rfl rfl rfl he37)) ?_
   obtain⟨rw38,hrw38,h⟩:=lJ h
   refine dz [1] [1] rfl (dl rfl rfl (ch (path:=[]) (pl:=true) (e':=aa e31) (es2':=(rw38).map aa) rfl (ap rfl) rfl rfl rfl aw (aB (f:=aa) (xs:=(aK x26.2 x26.1 e30)) he37) rfl rfl rfl (dB (f:=aa) (xs:=(aK x26.2 x26.1 e30)) (y:=e31) hrw38) cl 0 rfl)) ?_
   try rw[←cu hrw38 (f:=aa) (xs:=(aK x26.2 x26.1 e30))]
   refine de 546 rfl rfl ?_
   refine cq 6 [12] [I (ac (x26.1+1))] 594 ?_
   refine dm ?_
   exact rf [0,1,2,3,9,10,12] [1] (ih _ _ h hr hn :)
 ·refine aq 1 ?_
  exact rf [0,1,2,3,9,10] [1] (hn _ (al h) :) (hk:=hK)
theorem L5 (aJ:List Event)(bE:Int)(bK:Int)(aZ:Unit)(x5:Int×Int×Int×Int×(List Event))(u11:Int):cf nG 1 (px (aJ,bE,bK,aZ)) Xm 4 (Nd aJ bE bK aZ x5 u11) (fun u=>(sT 141 [(0,.hs 1 0 [] 4 0 (u.map aa).length),(1,I x5.1),(2,I x5.2.1),(3,.fn 80 []),(9,I u11),(10,I x5.2.2.2.1)] [⟨0,4,u.map aa⟩] 2)) fun x45=>(sT 141 [(0,.hs 1 0 [] 4 0 (x45.2.map aa).length),(1,I x5.1),(2,I x5.2.1),(3,.fn 80 []),(9,I u11),(10,I x5.2.2.2.1),(11,I x45.1)] [⟨0,4,x45.2.map aa⟩] 2):=eu (L4 aJ bE bK aZ x5 u11) fun {Q K} hK self ih x45 y h hr hn=>by
 unfold rF at h
 refine cq 6 [69] [B (decide (x45.1≥1))] 34 ?_
 refine sq h ?_ ?_<;>intro h
 ·refine aq 1 ?_
  refine aq 4 ?_
  refine cn [0,0,0,6,14,0,0,64,224,480,1023,2047,4095] rfl (by decide +kernel) ?_
  refine dk 3 [74,73,72] [I x45.1,.hs 1 0 [] 4 0 (x45.2.map aa).length,.fn 80 []] ?_
  obtain⟨e46,he46,h⟩:=bS h
  refine dq [1] [] (.hp 1 0 [] 4 (0+Int.toNat x45.1) 0) rfl (ah rfl rfl rfl (aL (f:=aa) (xs:=x45.2) rfl rfl rfl he46)) ?_
  refine dq [1] [] (aa e46) rfl (bm rfl (bZ (path:=[]) rfl rfl rfl aw (aB (f:=aa) (xs:=x45.2) he46) rfl rfl rfl)) ?_
  refine dk 3 [79,78,77] [I (ac (x45.1 - 1)),I x45.1,.hs 1 0 [] 4 0 (x45.2.map aa).length] ?_
  obtain⟨e47,he47,h⟩:=bS h
  refine dq [1] [] (.hp 1 0 [] 4 (0+Int.toNat (ac (x45.1 - 1))) 0) rfl (ah rfl rfl rfl (aL (f:=aa) (xs:=x45.2) rfl rfl rfl he47)) ?_
  refine dq [1] [] (aa e47) rfl (bm rfl (bZ (path:=[]) rfl rfl rfl aw (aB (f:=aa) (xs:=x45.2) he47) rfl rfl rfl)) ?_
  obtain⟨r48,hr48,h⟩:=bS h
  refine dq [] [] (I r48) rfl (cP (fF hr48)) ?_ (dK rfl rfl rfl rfl (ba (bl rfl) (ba (bl rfl) cS)) (fF hr48) (.inr rfl) rfl)
  refine dk 2 [84,83] [B (!(decide (r48<0))),B (decide (r48<0))] ?_
  refine de 242 rfl rfl ?_
  refine sq h ?_ ?_<;>intro h
  ·refine aq 1 ?_
   exact rf [0,1,2,3,9,10] [1] (hn _ (al h) :) (hk:=hK)
  ·refine aq 1 ?_
   refine cn [0,0,0,0,8,0,0,64,224,480,0,0,3072,7168,16355,32739,65535,131071] rfl (by decide +kernel) ?_
   refine dk 8 [92,91,90,89,88,87,86,85] [I (ac (x45.1 - 1)),I x45.1,.hs 1 0 [] 4 0 (x45.2.map aa).length,I (ac (x45.1 - 1)),I x45.1,.hs 1 0 [] 4 0 (x45.2.map aa).length,I x45.1,.hs 1 0 [] 4 0 (x45.2.map aa).length] ?_
   obtain⟨e49,he49,h⟩:=bS h
   refine dq [1] [] (.hp 1 0 [] 4 (0+Int.toNat (ac (x45.1 - 1))) 0) rfl (ah rfl rfl rfl (aL (f:=aa) (xs:=x45.2) rfl rfl rfl he49)) ?_
   refine dq [1] [] (aa e49) rfl (bm rfl (bZ (path:=[]) rfl rfl rfl aw (aB (f:=aa) (xs:=x45.2) he49) rfl rfl rfl)) ?_
   refine dk 2 [96,95] [I x45.1,.hs 1 0 [] 4 0 (x45.2.map aa).length] ?_
   obtain⟨e50,he50,h⟩:=bS h
   refine dq [1] [] (.hp 1 0 [] 4 (0+Int.toNat x45.1) 0) rfl (ah rfl rfl rfl (aL (f:=aa) (xs:=x45.2) rfl rfl rfl he50)) ?_
   refine dq [1] [] (aa e50) rfl (bm rfl (bZ (path:=[]) rfl rfl rfl aw (aB (f:=aa) (xs:=x45.2) he50) rfl rfl rfl)) ?_
   obtain⟨e51,he51,h⟩:=bS h
   refine dq [1] [] (.hp 1 0 [] 4 (0+Int.toNat x45.1) 0) rfl (ah rfl rfl rfl (aL (f:=aa) (xs:=x45.2) rfl rfl rfl he51)) ?_
   refine dz [1] [1] rfl (dl rfl rfl (ch (path:=[]) (pl:=true) (e':=aa e49) (es2':=(aK x45.2 x45.1 e49).map aa) rfl (ap rfl) rfl rfl rfl aw (aB (f:=aa) (xs:=x45.2) he51) rfl rfl rfl (eK (f:=aa) (xs:=x45.2) (y:=e49)) cl 0 rfl)) ?_
   try rw[←ep (f:=aa) (xs:=x45.2) (i:=x45.1) (z:=e49)]
   obtain⟨e56,he56,h⟩:=bS h
   refine dq [1] [] (.hp 1 0 [] 4 (0+Int.toNat (ac (x45.1 - 1))) 0) rfl (ah rfl rfl rfl (aL (f:=aa) (xs:=(aK x45.2 x45.1 e49)) rfl rfl rfl he56)) ?_
   obtain⟨rw57,hrw57,h⟩:=lJ h
   refine dz [1] [1] rfl (dl rfl rfl (ch (path:=[]) (pl:=true) (e':=aa e50) (es2':=(rw57).map aa) rfl (ap rfl) rfl rfl rfl aw (aB (f:=aa) (xs:=(aK x45.2 x45.1 e49)) he56) rfl rfl rfl (dB (f:=aa) (xs:=(aK x45.2 x45.1 e49)) (y:=e50) hrw57) cl 0 rfl)) ?_
   try rw[←cu hrw57 (f:=aa) (xs:=(aK x45.2 x45.1 e49))]
   refine de 530 rfl rfl ?_
   refine cq 6 [11] [I (ac (x45.1 - 1))] 578 ?_
   refine dm ?_
   exact rf [0,1,2,3,9,10,11] [1] (ih _ _ h hr hn :)
 ·refine aq 1 ?_
  exact rf [0,1,2,3,9,10] [1] (hn _ (al h) :) (hk:=hK)
theorem LY (aJ:List Event)(bE:Int)(bK:Int)(aZ:Unit):cf nG 1 (px (aJ,bE,bK,aZ)) lV 0 (Na aJ bE bK aZ) (fun u=>(sT 141 [] [⟨0,4,u.map aa⟩] 2)) fun x5=>(sT 141 [(0,.hs 1 0 [] 4 0 (x5.2.2.2.2.map aa).length),(1,I x5.1),(2,I x5.2.1),(3,.fn 80 []),(9,I x5.2.2.1),(10,I x5.2.2.2.1)] [⟨0,4,x5.2.2.2.2.map aa⟩] 2):=eu (LX aJ bE bK aZ) fun {Q K} hK self ih x5 y h hr hn=>by
 unfold rC at h
 refine cq 6 [16] [B (decide (x5.2.2.2.1<5))] 34 ?_
 refine sq h ?_ ?_<;>intro h
 ·refine aq 1 ?_
  refine aq 4 ?_
  obtain⟨y11,hy11,hy111,hy112⟩:=bL h
  refine bO rfl ?_
  refine rf [0,1,2,3,9,10] [1] (L0 aJ bE bK aZ x5 rfl x5.2.2.1 _ hy11 (fun r' e st hq=>hr r' (hy111 r' e) st hq) fun u11 hu=>?_)
  replace h:=hy112 u11 hu
  refine cq 7 [41] [B (u11==x5.2.1)] 50 ?_
  refine sq h ?_ ?_<;>intro h
  ·refine cq 4 [8] [B true] 66 ?_
   obtain⟨g12,h⟩:=gG h
   exact bR rfl (hr _ (al h) _ ⟨_,fin (vs:=[B true]) rfl (d6 (ap rfl) cX) rfl (fy rfl (gp (f:=aa) (xs:=x5.2.2.2.2) (by simpa using g12) rfl) (bH (bH (bH d4)))),iA dX⟩)
  ·refine aq 1 ?_
   refine cq 8 [45] [B (decide ((ac (x5.2.1 - x5.1))<50))] 114 ?_
   refine sq h ?_ ?_<;>intro h
   ·refine cq 4 [8] [B false] 130 ?_
    obtain⟨g13,h⟩:=gG h
    exact bR rfl (hr _ (al h) _ ⟨_,fin (vs:=[B false]) rfl (d6 (ap rfl) cX) rfl (fy rfl (gp (f:=aa) (xs:=x5.2.2.2.2) (by simpa using g13) rfl) (bH (bH (bH d4)))),iA dX⟩)
   ·refine aq 1 ?_
    refine aq 1 ?_
    refine cn [0,0,0,0,8,0,0,64,224,480,0,0,3072,7168,16355,32739,65535,131071] rfl (by decide +kernel) ?_
    refine dk 8 [53,52,51,50,49,48,47,46] [I (ac (u11 - 1)),I u11,.hs 1 0 [] 4 0 (x5.2.2.2.2.map aa).length,I (ac (u11 - 1)),I u11,.hs 1 0 [] 4 0 (x5.2.2.2.2.map aa).length,I u11,.hs 1 0 [] 4 0 (x5.2.2.2.2.map aa).length] ?_
    obtain⟨e14,he14,h⟩:=bS h
    refine dq [1] [] (.hp 1 0 [] 4 (0+Int.toNat (ac (u11 - 1))) 0) rfl (ah rfl rfl rfl (aL (f:=aa) (xs:=x5.2.2.2.2) rfl rfl rfl he14)) ?_
    refine dq [1] [] (aa e14) rfl (bm rfl (bZ (path:=[]) rfl rfl rfl aw (aB (f:=aa) (xs:=x5.2.2.2.2) he14) rfl rfl rfl)) ?_
    refine dk 2 [57,56] [I u11,.hs 1 0 [] 4 0 (x5.2.2.2.2.map aa).length] ?_
    obtain⟨e15,he15,h⟩:=bS h
    refine dq [1] [] (.hp 1 0 [] 4 (0+Int.toNat u11) 0) rfl (ah rfl rfl rfl (aL (f:=aa) (xs:=x5.2.2.2.2) rfl rfl rfl he15)) ?_
    refine dq [1] [] (aa e15) rfl (bm rfl (bZ (path:=[]) rfl rfl rfl aw (aB (f:=aa) (xs:=x5.2.2.2.2) he15) rfl rfl rfl)) ?_
    obtain⟨e16,he16,h⟩:=bS h
    refine dq [1] [] (.hp 1 0 [] 4 (0+Int.toNat u11) 0) rfl (ah rfl rfl rfl (aL (f:=aa) (xs:=x5.2.2.2.2) rfl rfl rfl he16)) ?_
    refine dz [1] [1] rfl (dl rfl rfl (ch (path:=[]) (pl:=true) (e':=aa e14) (es2':=(aK x5.2.2.2.2 u11 e14).map aa) rfl (ap rfl) rfl rfl rfl aw (aB (f:=aa) (xs:=x5.2.2.2.2) he16) rfl rfl rfl (eK (f:=aa) (xs:=x5.2.2.2.2) (y:=e14)) cl 0 rfl)) ?_
    try rw[←ep (f:=aa) (xs:=x5.2.2.2.2) (i:=u11) (z:=e14)]
    obtain⟨e19,he19,h⟩:=bS h
    refine dq [1] [] (.hp 1 0 [] 4 (0+Int.toNat (ac (u11 - 1))) 0) rfl (ah rfl rfl rfl (aL (f:=aa) (xs:=(aK x5.2.2.2.2 u11 e14)) rfl rfl rfl he19)) ?_
    obtain⟨rw20,hrw20,h⟩:=lJ h
    refine dz [1] [1] rfl (dl rfl rfl (ch (path:=[]) (pl:=true) (e':=aa e15) (es2':=(rw20).map aa) rfl (ap rfl) rfl rfl rfl aw (aB (f:=aa) (xs:=(aK x5.2.2.2.2 u11 e14)) he19) rfl rfl rfl (dB (f:=aa) (xs:=(aK x5.2.2.2.2 u11 e14)) (y:=e15) hrw20) cl 0 rfl)) ?_
    try rw[←cu hrw20 (f:=aa) (xs:=(aK x5.2.2.2.2 u11 e14))]
    refine de 402 rfl rfl ?_
    refine cq 8 [65] [B (decide ((ac (u11 - x5.1))≥2))] 466 ?_
    obtain⟨y24,hy24,hy241,hy242⟩:=bL h
    have j24:∀u24,y24=.inr u24→Run nG 1 Q (.code (cR (cR (cR (cR (cR (cL (cL (cR lV))))))))::.blk 1::.code (cR (cR lV))::.lp lV::.blk 0::K) (sT 141 [(0,.hs 1 0 [] 4 0 (u24.map aa).length),(1,I x5.1),(2,I x5.2.1),(3,.fn 80 []),(9,I u11),(10,I x5.2.2.2.1)] [⟨0,4,u24.map aa⟩] 2):=by
     intro u24 hu
     replace h:=hy242 u24 hu
     refine cq 7 [104] [B (decide ((ac (x5.2.1 - u11))≥2))] 66 ?_
     obtain⟨y25,hy25,hy251,hy252⟩:=bL h
     have j25:∀u25,y25=.inr u25→Run nG 1 Q (.blk 1::.code (cR (cR lV))::.lp lV::.blk 0::K) (sT 141 [(0,.hs 1 0 [] 4 0 (u25.map aa).length),(1,I x5.1),(2,I x5.2.1),(3,.fn 80 []),(9,I u11),(10,I x5.2.2.2.1)] [⟨0,4,u25.map aa⟩] 2):=by
      intro u25 hu
      replace h:=hy252 u25 hu
      refine cq 6 [10] [I (ac (x5.2.2.2.1+1))] 50 ?_
      refine dm ?_
      exact rf [0,1,2,3,9,10] [1] (ih _ _ h hr hn :)
     have r25:∀r',y25=.inl r'→∀st,px (aJ,bE,bK,aZ) r' st→Q st:=fun r' e st hq=>hr r' (hy251 r' e) st hq
     replace h:=hy25
     refine sq h ?_ ?_<;>intro h
     ·refine cq 7 [12] [I (ac (u11+1))] 114 ?_
      obtain⟨y44,hy44,hy441,hy442⟩:=bL h
      refine bO rfl ?_
      refine rf [0,1,2,3,9,10,12] [1] (L3 aJ bE bK aZ x5 u11 rfl ((ac (u11+1)),u24) _ hy44 (fun r' e st hq=>r25 r' (hy441 r' e) st hq) fun u44 hu=>?_)
      replace h:=hy442 u44 hu
      exact rf [0,1,2,3,9,10] [1] (j25 _ (al h) :)
     ·refine aq 1 ?_
      exact rf [0,1,2,3,9,10] [1] (j25 _ (al h) :)
    have r24:∀r',y24=.inl r'→∀st,px (aJ,bE,bK,aZ) r' st→Q st:=fun r' e st hq=>hr r' (hy241 r' e) st hq
    replace h:=hy24
    refine sq h ?_ ?_<;>intro h
    ·refine cq 7 [11] [I (ac (u11 - 1))] 514 ?_
     obtain⟨y63,hy63,hy631,hy632⟩:=bL h
     refine bO rfl ?_
     refine rf [0,1,2,3,9,10,11] [1] (L5 aJ bE bK aZ x5 u11 rfl ((ac (u11 - 1)),rw20) _ hy63 (fun r' e st hq=>r24 r' (hy631 r' e) st hq) fun u63 hu=>?_)
     replace h:=hy632 u63 hu
     exact rf [0,1,2,3,9,10] [1] (j24 _ (al h) :)
    ·refine aq 1 ?_
     exact rf [0,1,2,3,9,10] [1] (j24 _ (al h) :)
 ·refine aq 1 ?_
  exact rf [] [1] (hn _ (al h) :) (hk:=hK)
theorem Uu (aJ:List Event)(bE:Int)(bK:Int)(aZ:Unit)(r:Bool×(List Event))(h:Jv aJ bE bK aZ=some r):bN nG Tryz.f122 [true,false,false,false] 1 (DC (aJ,bE,bK,aZ)) (DD r):=by
 show Run _ _ (px (aJ,bE,bK,aZ) r) [.code Rc] _
 refine rI 141 [(0,.hs 1 0 [] 4 0 (aJ.map aa).length),(1,I bE),(2,I bK),(3,.fn 80 [])] [(1,some ⟨0,4,aJ.map aa⟩)] 2 ?_
 unfold Jv at h
 refine cq 16 [9,10] [I (ac (bE+1)),I (0)] 82 ?_
 obtain⟨y64,hy64,hy641,hy642⟩:=bJ h
 refine bO rfl ?_
 refine rf [0,1,2,3,9,10] [1] (LY aJ bE bK aZ rfl (bE,bK,(ac (bE+1)),0,aJ) _ hy64 (fun r' e st hq=>by rw[hy641 r' e] at hq;exact hq) fun u64 hu=>?_)
 replace h:=hy642 u64 hu
 refine cq 4 [8] [B false] 18 ?_
 obtain⟨g65,h⟩:=gG h
 obtain rfl:=sI h
 exact bR rfl ⟨_,fin (vs:=[B false]) rfl (d6 (ap rfl) cX) rfl (fy rfl (gp (f:=aa) (xs:=u64) (by simpa using g65) rfl) (bH (bH (bH d4)))),iA dX⟩
theorem Re {G:cD}:ct G 122 AW:=gT 4 1 (bb mN bP) cJ Tryz.func122 (fun a r h=>Uu a.1 a.2.1 a.2.2.1 a.2.2.2 r h)
def DH:((List Event)×Int×Int×Int×Unit)→List V:=cA (kM 4 aa) (cA I (cA I (cA I (oA (fun x:Unit=>(.fn 80 []:V))))))
def DI (r:Int×(List Event)):V×List V:=(I r.1,[.usl 4 (r.2.map aa)])
noncomputable def AY :=bA [true,false,false,false,false] DH DI fun x=>Jx x.1 x.2.1 x.2.2.1 x.2.2.2.1 x.2.2.2.2
theorem ZA {au:List Event}{aE:Int}{bo:Int}{ar:Int}{aH:Unit}{r}(h:Jx au aE bo ar aH=some r):AY.F (DH (au,aE,bo,ar,aH))=some (DI r):=aV (aY (eL ca) (aY bF (aY bF (aY bF (aW (im )))))) h
noncomputable def DJ :=aQ Tryz.f123
noncomputable abbrev xH :=cL (cL (cL (cL (cL (cL (cL (cR (cR (cR DJ)))))))))
noncomputable abbrev xI :=cL (cL (cL (cR (cL (cL (cL (cL (cR (cR (cR DJ))))))))))
noncomputable def qD :=cI [(80,lZ)]
def tz (x:(List Event)×Int×Int×Int×Unit)(r:Int×(List Event)):St→Prop:=QF qD Tryz.f123 [true,false,false,false,false] (DH x) (DI r)
theorem Mj (au:List Event)(aE:Int)(bo:Int)(ar:Int)(aH:Unit)(x16:Int×Int×(List Event)):cf qD 1 (tz (au,aE,bo,ar,aH)) xH 2 (Nl au aE bo ar aH x16) (fun u=>(sT 90 [(0,.hs 1 0 [] 4 0 (x16.2.2.map aa).length),(1,I aE),(4,.fn 80 []),(11,I u),(12,I x16.2.1)] [⟨0,4,x16.2.2.map aa⟩] 2)) fun x17=>(sT 90 [(0,.hs 1 0 [] 4 0 (x16.2.2.map aa).length),(1,I aE),(4,.fn 80 []),(11,I x17),(12,I x16.2.1)] [⟨0,4,x16.2.2.map aa⟩] 2):=eu (Mi au aE bo ar aH x16) fun {Q K} hK self ih x17 y h hr hn=>by
 unfold rN at h
 refine aq 2 ?_
 refine cn [0,0,3,7,15,15,15,111,239,15,15,1551,3599,8191,16383,32767,65535] rfl (by decide +kernel) ?_
 refine dk 4 [34,33,32,31] [B (decide (x17≤x16.2.1)),B (decide (x17≤x16.2.1)),I x16.2.1,I x17] ?_
 obtain⟨y18,hy18,hy181,hy182⟩:=bL h
 have j18:∀u18,y18=.inr u18→Run qD 1 Q (.code (cR (cL xH))::.code (cR xH)::.lp xH::.blk 2::K) (sT 90 [(0,.hs 1 0 [] 4 0 (x16.2.2.map aa).length),(1,I aE),(4,.fn 80 []),(11,I x17),(12,I x16.2.1),(47,B u18)] [⟨0,4,x16.2.2.map aa⟩] 2):=by
  intro u18 hu
  replace h:=hy182 u18 hu
  refine sq h ?_ ?_<;>intro h
  ·refine aq 1 ?_
   refine cq 7 [11] [I (ac (x17+1))] 50 ?_
   refine dm ?_
   exact rf [0,1,4,11,12] [1] (ih _ _ h hr hn :)
  ·refine aq 1 ?_
   exact rf [0,1,4,11,12] [1] (hn _ (al h) :) (hk:=hK)
 have r18:∀r',y18=.inl r'→∀st,tz (au,aE,bo,ar,aH) r' st→Q st:=fun r' e st hq=>hr r' (hy181 r' e) st hq
 replace h:=hy18
 refine sp 34 h rfl ?_ ?_<;>intro h
 ·refine dk 3 [37,36,35] [I aE,.hs 1 0 [] 4 0 (x16.2.2.map aa).length,.fn 80 []] ?_
  obtain⟨e19,he19,h⟩:=bS h
  refine dy [1] [] (.hp 1 0 [] 4 (0+Int.toNat aE) 0) rfl (ah rfl rfl rfl (aL (f:=aa) (xs:=x16.2.2) rfl rfl rfl he19)) ?_
  refine dy [1] [] (aa e19) rfl (bm rfl (bZ (path:=[]) rfl rfl rfl aw (aB (f:=aa) (xs:=x16.2.2) he19) rfl rfl rfl)) ?_
  refine dk 2 [41,40] [I x17,.hs 1 0 [] 4 0 (x16.2.2.map aa).length] ?_
  obtain⟨e20,he20,h⟩:=bS h
  refine dy [1] [] (.hp 1 0 [] 4 (0+Int.toNat x17) 0) rfl (ah rfl rfl rfl (aL (f:=aa) (xs:=x16.2.2) rfl rfl rfl he20)) ?_
  refine dy [1] [] (aa e20) rfl (bm rfl (bZ (path:=[]) rfl rfl rfl aw (aB (f:=aa) (xs:=x16.2.2) he20) rfl rfl rfl)) ?_
  obtain⟨r21,hr21,h⟩:=bS h
  refine dy [] [] (I r21) rfl (cP (fF hr21)) ?_ (dK rfl rfl rfl rfl (ba (bl rfl) (ba (bl rfl) cS)) (fF hr21) (.inr rfl) rfl)
  refine dk 3 [47,46,45] [B (!(decide (r21<0))),B (!(decide (r21<0))),B (decide (r21<0))] ?_
  refine de 274 rfl rfl ?_
  exact rf [0,1,4,11,12,47] [1] (j18 _ (al h) :)
 ·refine dk 13 [47,46,45,44,43,42,41,40,39,38,37,36,35] [B false,.und,.und,.und,.und,.und,.und,.und,.und,.und,.und,.und,.und] ?_
  refine de 274 rfl rfl ?_
  exact rf [0,1,4,11,12,47] [1] (j18 _ (al h) :)
theorem Ml (au:List Event)(aE:Int)(bo:Int)(ar:Int)(aH:Unit)(u22:Int)(x16:Int×Int×(List Event)):cf qD 1 (tz (au,aE,bo,ar,aH)) xI 4 (Nm au aE bo ar aH u22 x16) (fun u=>(sT 90 [(0,.hs 1 0 [] 4 0 (x16.2.2.map aa).length),(1,I aE),(4,.fn 80 []),(11,I u22),(12,I u)] [⟨0,4,x16.2.2.map aa⟩] 2)) fun x23=>(sT 90 [(0,.hs 1 0 [] 4 0 (x16.2.2.map aa).length),(1,I aE),(4,.fn 80 []),(11,I u22),(12,I x23)] [⟨0,4,x16.2.2.map aa⟩] 2):=eu (Mk au aE bo ar aH u22 x16) fun {Q K} hK self ih x23 y h hr hn=>by
 unfold rO at h
 refine aq 2 ?_
 refine cn [0,0,3,7,15,15,15,111,239,15,15,1551,3599,8191,16383,32767] rfl (by decide +kernel) ?_
 refine dk 4 [53,52,51,50] [B (decide (u22≤x23)),B (decide (u22≤x23)),I x23,I u22] ?_
 obtain⟨y24,hy24,hy241,hy242⟩:=bL h
 have j24:∀u24,y24=.inr u24→Run qD 1 Q (.code (cR (cL xI))::.code (cR xI)::.lp xI::.blk 4::K) (sT 90 [(0,.hs 1 0 [] 4 0 (x16.2.2.map aa).length),(1,I aE),(4,.fn 80 []),(11,I u22),(12,I x23),(65,B u24)] [⟨0,4,x16.2.2.map aa⟩] 2):=by
  intro u24 hu
  replace h:=hy242 u24 hu
  refine sq h ?_ ?_<;>intro h
  ·refine aq 1 ?_
   refine cq 7 [12] [I (ac (x23 - 1))] 50 ?_
   refine dm ?_
   exact rf [0,1,4,11,12] [1] (ih _ _ h hr hn :)
  ·refine aq 1 ?_
   exact rf [0,1,4,11,12] [1] (hn _ (al h) :) (hk:=hK)
 have r24:∀r',y24=.inl r'→∀st,tz (au,aE,bo,ar,aH) r' st→Q st:=fun r' e st hq=>hr r' (hy241 r' e) st hq
 replace h:=hy24
 refine sp 53 h rfl ?_ ?_<;>intro h
 ·refine dk 3 [56,55,54] [I aE,.hs 1 0 [] 4 0 (x16.2.2.map aa).length,.fn 80 []] ?_
  obtain⟨e25,he25,h⟩:=bS h
  refine dy [1] [] (.hp 1 0 [] 4 (0+Int.toNat aE) 0) rfl (ah rfl rfl rfl (aL (f:=aa) (xs:=x16.2.2) rfl rfl rfl he25)) ?_
  refine dy [1] [] (aa e25) rfl (bm rfl (bZ (path:=[]) rfl rfl rfl aw (aB (f:=aa) (xs:=x16.2.2) he25) rfl rfl rfl)) ?_
  refine dk 2 [60,59] [I x23,.hs 1 0 [] 4 0 (x16.2.2.map aa).length] ?_
  obtain⟨e26,he26,h⟩:=bS h
  refine dy [1] [] (.hp 1 0 [] 4 (0+Int.toNat x23) 0) rfl (ah rfl rfl rfl (aL (f:=aa) (xs:=x16.2.2) rfl rfl rfl he26)) ?_
  refine dy [1] [] (aa e26) rfl (bm rfl (bZ (path:=[]) rfl rfl rfl aw (aB (f:=aa) (xs:=x16.2.2) he26) rfl rfl rfl)) ?_
  obtain⟨r27,hr27,h⟩:=bS h
  refine dy [] [] (I r27) rfl (cP (fF hr27)) ?_ (dK rfl rfl rfl rfl (ba (bl rfl) (ba (bl rfl) cS)) (fF hr27) (.inr rfl) rfl)
  refine dk 2 [65,64] [B (decide (r27<0)),B (decide (r27<0))] ?_
  refine de 258 rfl rfl ?_
  exact rf [0,1,4,11,12,65] [1] (j24 _ (al h) :)
 ·refine dk 12 [65,64,63,62,61,60,59,58,57,56,55,54] [B false,.und,.und,.und,.und,.und,.und,.und,.und,.und,.und,.und] ?_
  refine de 258 rfl rfl ?_
  exact rf [0,1,4,11,12,65] [1] (j24 _ (al h) :)
theorem Mh (au:List Event)(aE:Int)(bo:Int)(ar:Int)(aH:Unit):cf qD 1 (tz (au,aE,bo,ar,aH)) (cL (cL (cL (cR (cR (cR DJ)))))) 0 (Nk au aE bo ar aH) (fun u=>(sT 90 [(11,I u.1)] [⟨0,4,u.2.map aa⟩] 2)) fun x16=>(sT 90 [(0,.hs 1 0 [] 4 0 (x16.2.2.map aa).length),(1,I aE),(4,.fn 80 []),(11,I x16.1),(12,I x16.2.1)] [⟨0,4,x16.2.2.map aa⟩] 2):=eu (Mg au aE bo ar aH) fun {Q K} hK self ih x16 y h hr hn=>by
 unfold rM at h
 refine aq 3 ?_
 obtain⟨y22,hy22,hy221,hy222⟩:=bL h
 refine bO rfl ?_
 refine rf [0,1,4,11,12] [1] (Mj au aE bo ar aH x16 rfl x16.1 _ hy22 (fun r' e st hq=>hr r' (hy221 r' e) st hq) fun u22 hu=>?_)
 replace h:=hy222 u22 hu
 refine aq 2 ?_
 obtain⟨y28,hy28,hy281,hy282⟩:=bL h
 refine bO rfl ?_
 refine rf [0,1,4,11,12] [1] (Ml au aE bo ar aH u22 x16 rfl x16.2.1 _ hy28 (fun r' e st hq=>hr r' (hy281 r' e) st hq) fun u28 hu=>?_)
 replace h:=hy282 u28 hu
 refine cq 7 [70] [B (decide (u22>u28))] 50 ?_
 refine sq h ?_ ?_<;>intro h
 ·refine aq 1 ?_
  exact rf [11] [1] (hn _ (al h) :) (hk:=hK)
 ·refine aq 1 ?_
  refine aq 1 ?_
  refine cn [0,0,0,0,0,0,48,112,0,0,768,1792,4083,8179,16383,32767] rfl (by decide +kernel) ?_
  refine dk 6 [76,75,74,73,72,71] [I u28,.hs 1 0 [] 4 0 (x16.2.2.map aa).length,I u28,.hs 1 0 [] 4 0 (x16.2.2.map aa).length,I u22,.hs 1 0 [] 4 0 (x16.2.2.map aa).length] ?_
  obtain⟨e29,he29,h⟩:=bS h
  refine dq [1] [] (.hp 1 0 [] 4 (0+Int.toNat u28) 0) rfl (ah rfl rfl rfl (aL (f:=aa) (xs:=x16.2.2) rfl rfl rfl he29)) ?_
  refine dq [1] [] (aa e29) rfl (bm rfl (bZ (path:=[]) rfl rfl rfl aw (aB (f:=aa) (xs:=x16.2.2) he29) rfl rfl rfl)) ?_
  refine dk 2 [80,79] [I u22,.hs 1 0 [] 4 0 (x16.2.2.map aa).length] ?_
  obtain⟨e30,he30,h⟩:=bS h
  refine dq [1] [] (.hp 1 0 [] 4 (0+Int.toNat u22) 0) rfl (ah rfl rfl rfl (aL (f:=aa) (xs:=x16.2.2) rfl rfl rfl he30)) ?_
  refine dq [1] [] (aa e30) rfl (bm rfl (bZ (path:=[]) rfl rfl rfl aw (aB (f:=aa) (xs:=x16.2.2) he30) rfl rfl rfl)) ?_
  obtain⟨e31,he31,h⟩:=bS h
  refine dq [1] [] (.hp 1 0 [] 4 (0+Int.toNat u22) 0) rfl (ah rfl rfl rfl (aL (f:=aa) (xs:=x16.2.2) rfl rfl rfl he31)) ?_
  refine dz [1] [1] rfl (dl rfl rfl (ch (path:=[]) (pl:=true) (e':=aa e29) (es2':=(aK x16.2.2 u22 e29).map aa) rfl (ap rfl) rfl rfl rfl aw (aB (f:=aa) (xs:=x16.2.2) he31) rfl rfl rfl (eK (f:=aa) (xs:=x16.2.2) (y:=e29)) cl 0 rfl)) ?_
  try rw[←ep (f:=aa) (xs:=x16.2.2) (i:=u22) (z:=e29)]
  obtain⟨e34,he34,h⟩:=bS h
  refine dq [1] [] (.hp 1 0 [] 4 (0+Int.toNat u28) 0) rfl (ah rfl rfl rfl (aL (f:=aa) (xs:=(aK x16.2.2 u22 e29)) rfl rfl rfl he34)) ?_
  obtain⟨rw35,hrw35,h⟩:=lJ h
  refine dz [1] [1] rfl (dl rfl rfl (ch (path:=[]) (pl:=true) (e':=aa e30) (es2':=(rw35).map aa) rfl (ap rfl) rfl rfl rfl aw (aB (f:=aa) (xs:=(aK x16.2.2 u22 e29)) he34) rfl rfl rfl (dB (f:=aa) (xs:=(aK x16.2.2 u22 e29)) (y:=e30) hrw35) cl 0 rfl)) ?_
  try rw[←cu hrw35 (f:=aa) (xs:=(aK x16.2.2 u22 e29))]
  refine de 306 rfl rfl ?_
  refine cq 12 [11,12] [I (ac (u22+1)),I (ac (u28 - 1))] 402 ?_
  refine dm ?_
  exact rf [0,1,4,11,12] [1] (ih _ _ h hr hn :)
theorem Uw (au:List Event)(aE:Int)(bo:Int)(ar:Int)(aH:Unit)(r:Int×(List Event))(h:Jx au aE bo ar aH=some r):bN qD Tryz.f123 [true,false,false,false,false] 1 (DH (au,aE,bo,ar,aH)) (DI r):=by
 show Run _ _ (tz (au,aE,bo,ar,aH) r) [.code DJ] _
 refine rI 90 [(0,.hs 1 0 [] 4 0 (au.map aa).length),(1,I aE),(2,I bo),(3,I ar),(4,.fn 80 [])] [(1,some ⟨0,4,au.map aa⟩)] 2 ?_
 unfold Jx at h
 refine cq 5 [] [] 18 ?_
 refine cn [0,0,0,0,0,0,48,112,0,0,768,1792,4083,8179,16383,32767] rfl (by decide +kernel) ?_
 refine dk 6 [18,17,16,15,14,13] [I ar,.hs 1 0 [] 4 0 (au.map aa).length,I ar,.hs 1 0 [] 4 0 (au.map aa).length,I aE,.hs 1 0 [] 4 0 (au.map aa).length] ?_
 obtain⟨e6,he6,h⟩:=bS h
 refine dq [1] [] (.hp 1 0 [] 4 (0+Int.toNat ar) 0) rfl (ah rfl rfl rfl (aL (f:=aa) (xs:=au) rfl rfl rfl he6)) ?_
 refine dq [1] [] (aa e6) rfl (bm rfl (bZ (path:=[]) rfl rfl rfl aw (aB (f:=aa) (xs:=au) he6) rfl rfl rfl)) ?_
 refine dk 2 [22,21] [I aE,.hs 1 0 [] 4 0 (au.map aa).length] ?_
 obtain⟨e7,he7,h⟩:=bS h
 refine dq [1] [] (.hp 1 0 [] 4 (0+Int.toNat aE) 0) rfl (ah rfl rfl rfl (aL (f:=aa) (xs:=au) rfl rfl rfl he7)) ?_
 refine dq [1] [] (aa e7) rfl (bm rfl (bZ (path:=[]) rfl rfl rfl aw (aB (f:=aa) (xs:=au) he7) rfl rfl rfl)) ?_
 obtain⟨e8,he8,h⟩:=bS h
 refine dq [1] [] (.hp 1 0 [] 4 (0+Int.toNat aE) 0) rfl (ah rfl rfl rfl (aL (f:=aa) (xs:=au) rfl rfl rfl he8)) ?_
 refine dz [1] [1] rfl (dl rfl rfl (ch (path:=[]) (pl:=true) (e':=aa e6) (es2':=(aK au aE e6).map aa) rfl (ap rfl) rfl rfl rfl aw (aB (f:=aa) (xs:=au) he8) rfl rfl rfl (eK (f:=aa) (xs:=au) (y:=e6)) cl 0 rfl)) ?_
 try rw[←ep (f:=aa) (xs:=au) (i:=aE) (z:=e6)]
 obtain⟨e11,he11,h⟩:=bS h
 refine dq [1] [] (.hp 1 0 [] 4 (0+Int.toNat ar) 0) rfl (ah rfl rfl rfl (aL (f:=aa) (xs:=(aK au aE e6)) rfl rfl rfl he11)) ?_
 obtain⟨rw12,hrw12,h⟩:=lJ h
 refine dz [1] [1] rfl (dl rfl rfl (ch (path:=[]) (pl:=true) (e':=aa e7) (es2':=(rw12).map aa) rfl (ap rfl) rfl rfl rfl aw (aB (f:=aa) (xs:=(aK au aE e6)) he11) rfl rfl rfl (dB (f:=aa) (xs:=(aK au aE e6)) (y:=e7) hrw12) cl 0 rfl)) ?_
 try rw[←cu hrw12 (f:=aa) (xs:=(aK au aE e6))]
 refine de 274 rfl rfl ?_
 refine cq 11 [11,12] [I (ac (aE+1)),I (ac (bo - 1))] 370 ?_
 obtain⟨y39,hy39,hy391,hy392⟩:=bJ h
 refine bO rfl ?_
 refine rf [0,1,4,11,12] [1] (Mh au aE bo ar aH rfl ((ac (aE+1)),(ac (bo - 1)),rw12) _ hy39 (fun r' e st hq=>by rw[hy391 r' e] at hq;exact hq) fun u39 hu=>?_)
 replace h:=hy392 u39 hu
 refine cq 5 [10] [I u39.1] 34 ?_
 obtain⟨g40,h⟩:=gG h
 obtain rfl:=sI h
 exact bR rfl ⟨_,fin (vs:=[I u39.1]) rfl (d6 (ap rfl) cX) rfl (fy rfl (gp (f:=aa) (xs:=u39.2) (by simpa using g40) rfl) (bH (bH (bH (bH d4))))),iA dX⟩
theorem Rg {G:cD}:ct G 123 AY:=gT 5 1 (bb mN bP) cJ Tryz.func123 (fun a r h=>Uw a.1 a.2.1 a.2.2.1 a.2.2.2.1 a.2.2.2.2 r h)
def DE:((List Event)×Int×Int×Int×Unit)→List V:=cA (kM 4 aa) (cA I (cA I (cA I (oA (fun x:Unit=>(.fn 80 []:V))))))
def DF (r:Int×Bool×(List Event)):V×List V:=(.tup [I r.1,B r.2.1],[.usl 4 (r.2.2.map aa)])
noncomputable def AX :=bA [true,false,false,false,false] DE DF fun x=>Jw x.1 x.2.1 x.2.2.1 x.2.2.2.1 x.2.2.2.2
theorem Zz {au:List Event}{aE:Int}{bo:Int}{ar:Int}{aH:Unit}{r}(h:Jw au aE bo ar aH=some r):AX.F (DE (au,aE,bo,ar,aH))=some (DF r):=aV (aY (eL ca) (aY bF (aY bF (aY bF (aW (im )))))) h
noncomputable def DG :=aQ Tryz.f124
noncomputable abbrev xD :=cL (cL (cL (cR (cR (cR DG)))))
noncomputable abbrev xE :=cL (cL (cL (cR (cR (cR (cR DG))))))
noncomputable abbrev F1 :=cL (cL (cL (cR (cR (cR (cR (cR (cR (cR (cR (cR DG)))))))))))
noncomputable abbrev xF :=cL (cL (cL (cL F1)))
noncomputable abbrev xG :=cL (cL (cL (cR (cL F1))))
noncomputable def lf :=cI [(80,lZ)]
def mp (x:(List Event)×Int×Int×Int×Unit)(r:Int×Bool×(List Event)):St→Prop:=QF lf Tryz.f124 [true,false,false,false,false] (DE x) (DF r)
theorem L7 (au:List Event)(aE:Int)(bo:Int)(ar:Int)(aH:Unit)(rw12:List Event):cf lf 1 (mp (au,aE,bo,ar,aH)) xD 0 (Nf au aE bo ar aH rw12) (fun u=>(sT 178 [(0,.hs 1 0 [] 4 0 (rw12.map aa).length),(1,I aE),(4,.fn 80 []),(12,I u.1),(13,I u.2)] [⟨0,4,rw12.map aa⟩] 2)) fun x16=>(sT 178 [(0,.hs 1 0 [] 4 0 (rw12.map aa).length),(1,I aE),(4,.fn 80 []),(12,I x16),(13,I (ac (bo - 1)))] [⟨0,4,rw12.map aa⟩] 2):=eu (L6 au aE bo ar aH rw12) fun {Q K} hK self ih x16 y h hr hn=>by
 unfold rG at h
 refine aq 2 ?_
 refine cn [0,0,3,7,15,15,15,111,239,15,15,1551,3599,8191,16383,32767] rfl (by decide +kernel) ?_
 refine dk 4 [35,34,33,32] [B (decide (x16≤(ac (bo - 1)))),B (decide (x16≤(ac (bo - 1)))),I (ac (bo - 1)),I x16] ?_
 obtain⟨y17,hy17,hy171,hy172⟩:=bL h
 have j17:∀u17,y17=.inr u17→Run lf 1 Q (.code (cR (cL xD))::.code (cR xD)::.lp xD::.blk 0::K) (sT 178 [(0,.hs 1 0 [] 4 0 (rw12.map aa).length),(1,I aE),(4,.fn 80 []),(12,I x16),(13,I (ac (bo - 1))),(47,B u17)] [⟨0,4,rw12.map aa⟩] 2):=by
  intro u17 hu
  replace h:=hy172 u17 hu
  refine sq h ?_ ?_<;>intro h
  ·refine aq 1 ?_
   refine cq 7 [12] [I (ac (x16+1))] 50 ?_
   refine dm ?_
   exact rf [0,1,4,12,13] [1] (ih _ _ h hr hn :)
  ·refine aq 1 ?_
   exact rf [0,1,4,12,13] [1] (hn _ (al h) :) (hk:=hK)
 have r17:∀r',y17=.inl r'→∀st,mp (au,aE,bo,ar,aH) r' st→Q st:=fun r' e st hq=>hr r' (hy171 r' e) st hq
 replace h:=hy17
 refine sp 35 h rfl ?_ ?_<;>intro h
 ·refine dk 3 [38,37,36] [I x16,.hs 1 0 [] 4 0 (rw12.map aa).length,.fn 80 []] ?_
  obtain⟨e18,he18,h⟩:=bS h
  refine dy [1] [] (.hp 1 0 [] 4 (0+Int.toNat x16) 0) rfl (ah rfl rfl rfl (aL (f:=aa) (xs:=rw12) rfl rfl rfl he18)) ?_
  refine dy [1] [] (aa e18) rfl (bm rfl (bZ (path:=[]) rfl rfl rfl aw (aB (f:=aa) (xs:=rw12) he18) rfl rfl rfl)) ?_
  refine dk 2 [42,41] [I aE,.hs 1 0 [] 4 0 (rw12.map aa).length] ?_
  obtain⟨e19,he19,h⟩:=bS h
  refine dy [1] [] (.hp 1 0 [] 4 (0+Int.toNat aE) 0) rfl (ah rfl rfl rfl (aL (f:=aa) (xs:=rw12) rfl rfl rfl he19)) ?_
  refine dy [1] [] (aa e19) rfl (bm rfl (bZ (path:=[]) rfl rfl rfl aw (aB (f:=aa) (xs:=rw12) he19) rfl rfl rfl)) ?_
  obtain⟨r20,hr20,h⟩:=bS h
  refine dy [] [] (I r20) rfl (cP (fF hr20)) ?_ (dK rfl rfl rfl rfl (ba (bl rfl) (ba (bl rfl) cS)) (fF hr20) (.inr rfl) rfl)
  refine dk 2 [47,46] [B (decide (r20<0)),B (decide (r20<0))] ?_
  refine de 258 rfl rfl ?_
  exact rf [0,1,4,12,13,47] [1] (j17 _ (al h) :)
 ·refine dk 12 [47,46,45,44,43,42,41,40,39,38,37,36] [B false,.und,.und,.und,.und,.und,.und,.und,.und,.und,.und,.und] ?_
  refine de 258 rfl rfl ?_
  exact rf [0,1,4,12,13,47] [1] (j17 _ (al h) :)
theorem L9 (au:List Event)(aE:Int)(bo:Int)(ar:Int)(aH:Unit)(u21:Int×Int)(rw12:List Event):cf lf 1 (mp (au,aE,bo,ar,aH)) xE 2 (Ng au aE bo ar aH u21 rw12) (fun u=>(sT 178 [(0,.hs 1 0 [] 4 0 (rw12.map aa).length),(1,I aE),(4,.fn 80 []),(12,I u21.1),(13,I u)] [⟨0,4,rw12.map aa⟩] 2)) fun x22=>(sT 178 [(0,.hs 1 0 [] 4 0 (rw12.map aa).length),(1,I aE),(4,.fn 80 []),(12,I u21.1),(13,I x22)] [⟨0,4,rw12.map aa⟩] 2):=eu (L8 au aE bo ar aH u21 rw12) fun {Q K} hK self ih x22 y h hr hn=>by
 unfold rH at h
 refine aq 2 ?_
 refine cn [0,0,3,7,15,15,15,111,239,15,15,1551,3599,8191,16383,32767,65535] rfl (by decide +kernel) ?_
 refine dk 4 [53,52,51,50] [B (decide (u21.1≤x22)),B (decide (u21.1≤x22)),I x22,I u21.1] ?_
 obtain⟨y23,hy23,hy231,hy232⟩:=bL h
 have j23:∀u23,y23=.inr u23→Run lf 1 Q (.code (cR (cL xE))::.code (cR xE)::.lp xE::.blk 2::K) (sT 178 [(0,.hs 1 0 [] 4 0 (rw12.map aa).length),(1,I aE),(4,.fn 80 []),(12,I u21.1),(13,I x22),(66,B u23)] [⟨0,4,rw12.map aa⟩] 2):=by
  intro u23 hu
  replace h:=hy232 u23 hu
  refine sq h ?_ ?_<;>intro h
  ·refine aq 1 ?_
   refine cq 7 [13] [I (ac (x22 - 1))] 50 ?_
   refine dm ?_
   exact rf [0,1,4,12,13] [1] (ih _ _ h hr hn :)
  ·refine aq 1 ?_
   exact rf [0,1,4,12,13] [1] (hn _ (al h) :) (hk:=hK)
 have r23:∀r',y23=.inl r'→∀st,mp (au,aE,bo,ar,aH) r' st→Q st:=fun r' e st hq=>hr r' (hy231 r' e) st hq
 replace h:=hy23
 refine sp 53 h rfl ?_ ?_<;>intro h
 ·refine dk 3 [56,55,54] [I x22,.hs 1 0 [] 4 0 (rw12.map aa).length,.fn 80 []] ?_
  obtain⟨e24,he24,h⟩:=bS h
  refine dy [1] [] (.hp 1 0 [] 4 (0+Int.toNat x22) 0) rfl (ah rfl rfl rfl (aL (f:=aa) (xs:=rw12) rfl rfl rfl he24)) ?_
  refine dy [1] [] (aa e24) rfl (bm rfl (bZ (path:=[]) rfl rfl rfl aw (aB (f:=aa) (xs:=rw12) he24) rfl rfl rfl)) ?_
  refine dk 2 [60,59] [I aE,.hs 1 0 [] 4 0 (rw12.map aa).length] ?_
  obtain⟨e25,he25,h⟩:=bS h
  refine dy [1] [] (.hp 1 0 [] 4 (0+Int.toNat aE) 0) rfl (ah rfl rfl rfl (aL (f:=aa) (xs:=rw12) rfl rfl rfl he25)) ?_
  refine dy [1] [] (aa e25) rfl (bm rfl (bZ (path:=[]) rfl rfl rfl aw (aB (f:=aa) (xs:=rw12) he25) rfl rfl rfl)) ?_
  obtain⟨r26,hr26,h⟩:=bS h
  refine dy [] [] (I r26) rfl (cP (fF hr26)) ?_ (dK rfl rfl rfl rfl (ba (bl rfl) (ba (bl rfl) cS)) (fF hr26) (.inr rfl) rfl)
  refine dk 3 [66,65,64] [B (!(decide (r26<0))),B (!(decide (r26<0))),B (decide (r26<0))] ?_
  refine de 274 rfl rfl ?_
  exact rf [0,1,4,12,13,66] [1] (j23 _ (al h) :)
 ·refine dk 13 [66,65,64,63,62,61,60,59,58,57,56,55,54] [B false,.und,.und,.und,.und,.und,.und,.und,.und,.und,.und,.und,.und] ?_
  refine de 274 rfl rfl ?_
  exact rf [0,1,4,12,13,66] [1] (j23 _ (al h) :)
theorem Md (au:List Event)(aE:Int)(bo:Int)(ar:Int)(aH:Unit)(x51:Int×Int×(List Event)):cf lf 1 (mp (au,aE,bo,ar,aH)) xF 6 (Ni au aE bo ar aH x51) (fun u=>(sT 178 [(0,.hs 1 0 [] 4 0 (x51.2.2.map aa).length),(1,I aE),(4,.fn 80 []),(12,I u),(13,I x51.2.1)] [⟨0,4,x51.2.2.map aa⟩] 2)) fun x52=>(sT 178 [(0,.hs 1 0 [] 4 0 (x51.2.2.map aa).length),(1,I aE),(4,.fn 80 []),(12,I x52),(13,I x51.2.1)] [⟨0,4,x51.2.2.map aa⟩] 2):=eu (Mc au aE bo ar aH x51) fun {Q K} hK self ih x52 y h hr hn=>by
 unfold rK at h
 refine aq 2 ?_
 refine cn [0,0,3,7,15,15,15,111,239,15,15,1551,3599,8191,16383,32767] rfl (by decide +kernel) ?_
 refine dk 4 [108,107,106,105] [B (decide (x52≤x51.2.1)),B (decide (x52≤x51.2.1)),I x51.2.1,I x52] ?_
 obtain⟨y53,hy53,hy531,hy532⟩:=bL h
 have j53:∀u53,y53=.inr u53→Run lf 1 Q (.code (cR (cL xF))::.code (cR xF)::.lp xF::.blk 6::K) (sT 178 [(0,.hs 1 0 [] 4 0 (x51.2.2.map aa).length),(1,I aE),(4,.fn 80 []),(12,I x52),(13,I x51.2.1),(120,B u53)] [⟨0,4,x51.2.2.map aa⟩] 2):=by
  intro u53 hu
  replace h:=hy532 u53 hu
  refine sq h ?_ ?_<;>intro h
  ·refine aq 1 ?_
   refine cq 7 [12] [I (ac (x52+1))] 50 ?_
   refine dm ?_
   exact rf [0,1,4,12,13] [1] (ih _ _ h hr hn :)
  ·refine aq 1 ?_
   exact rf [0,1,4,12,13] [1] (hn _ (al h) :) (hk:=hK)
 have r53:∀r',y53=.inl r'→∀st,mp (au,aE,bo,ar,aH) r' st→Q st:=fun r' e st hq=>hr r' (hy531 r' e) st hq
 replace h:=hy53
 refine sp 108 h rfl ?_ ?_<;>intro h
 ·refine dk 3 [111,110,109] [I x52,.hs 1 0 [] 4 0 (x51.2.2.map aa).length,.fn 80 []] ?_
  obtain⟨e54,he54,h⟩:=bS h
  refine dy [1] [] (.hp 1 0 [] 4 (0+Int.toNat x52) 0) rfl (ah rfl rfl rfl (aL (f:=aa) (xs:=x51.2.2) rfl rfl rfl he54)) ?_
  refine dy [1] [] (aa e54) rfl (bm rfl (bZ (path:=[]) rfl rfl rfl aw (aB (f:=aa) (xs:=x51.2.2) he54) rfl rfl rfl)) ?_
  refine dk 2 [115,114] [I aE,.hs 1 0 [] 4 0 (x51.2.2.map aa).length] ?_
  obtain⟨e55,he55,h⟩:=bS h
  refine dy [1] [] (.hp 1 0 [] 4 (0+Int.toNat aE) 0) rfl (ah rfl rfl rfl (aL (f:=aa) (xs:=x51.2.2) rfl rfl rfl he55)) ?_
  refine dy [1] [] (aa e55) rfl (bm rfl (bZ (path:=[]) rfl rfl rfl aw (aB (f:=aa) (xs:=x51.2.2) he55) rfl rfl rfl)) ?_
  obtain⟨r56,hr56,h⟩:=bS h
  refine dy [] [] (I r56) rfl (cP (fF hr56)) ?_ (dK rfl rfl rfl rfl (ba (bl rfl) (ba (bl rfl) cS)) (fF hr56) (.inr rfl) rfl)
  refine dk 2 [120,119] [B (decide (r56<0)),B (decide (r56<0))] ?_
  refine de 258 rfl rfl ?_
  exact rf [0,1,4,12,13,120] [1] (j53 _ (al h) :)
 ·refine dk 12 [120,119,118,117,116,115,114,113,112,111,110,109] [B false,.und,.und,.und,.und,.und,.und,.und,.und,.und,.und,.und] ?_
  refine de 258 rfl rfl ?_
  exact rf [0,1,4,12,13,120] [1] (j53 _ (al h) :)
theorem Mf (au:List Event)(aE:Int)(bo:Int)(ar:Int)(aH:Unit)(u57:Int)(x51:Int×Int×(List Event)):cf lf 1 (mp (au,aE,bo,ar,aH)) xG 8 (Nj au aE bo ar aH u57 x51) (fun u=>(sT 178 [(0,.hs 1 0 [] 4 0 (x51.2.2.map aa).length),(1,I aE),(4,.fn 80 []),(12,I u57),(13,I u)] [⟨0,4,x51.2.2.map aa⟩] 2)) fun x58=>(sT 178 [(0,.hs 1 0 [] 4 0 (x51.2.2.map aa).length),(1,I aE),(4,.fn 80 []),(12,I u57),(13,I x58)] [⟨0,4,x51.2.2.map aa⟩] 2):=eu (Me au aE bo ar aH u57 x51) fun {Q K} hK self ih x58 y h hr hn=>by
 unfold rL at h
 refine aq 2 ?_
 refine cn [0,0,3,7,15,15,15,111,239,15,15,1551,3599,8191,16383,32767,65535] rfl (by decide +kernel) ?_
 refine dk 4 [126,125,124,123] [B (decide (u57≤x58)),B (decide (u57≤x58)),I x58,I u57] ?_
 obtain⟨y59,hy59,hy591,hy592⟩:=bL h
 have j59:∀u59,y59=.inr u59→Run lf 1 Q (.code (cR (cL xG))::.code (cR xG)::.lp xG::.blk 8::K) (sT 178 [(0,.hs 1 0 [] 4 0 (x51.2.2.map aa).length),(1,I aE),(4,.fn 80 []),(12,I u57),(13,I x58),(139,B u59)] [⟨0,4,x51.2.2.map aa⟩] 2):=by
  intro u59 hu
  replace h:=hy592 u59 hu
  refine sq h ?_ ?_<;>intro h
  ·refine aq 1 ?_
   refine cq 7 [13] [I (ac (x58 - 1))] 50 ?_
   refine dm ?_
   exact rf [0,1,4,12,13] [1] (ih _ _ h hr hn :)
  ·refine aq 1 ?_
   exact rf [0,1,4,12,13] [1] (hn _ (al h) :) (hk:=hK)
 have r59:∀r',y59=.inl r'→∀st,mp (au,aE,bo,ar,aH) r' st→Q st:=fun r' e st hq=>hr r' (hy591 r' e) st hq
 replace h:=hy59
 refine sp 126 h rfl ?_ ?_<;>intro h
 ·refine dk 3 [129,128,127] [I x58,.hs 1 0 [] 4 0 (x51.2.2.map aa).length,.fn 80 []] ?_
  obtain⟨e60,he60,h⟩:=bS h
  refine dy [1] [] (.hp 1 0 [] 4 (0+Int.toNat x58) 0) rfl (ah rfl rfl rfl (aL (f:=aa) (xs:=x51.2.2) rfl rfl rfl he60)) ?_
  refine dy [1] [] (aa e60) rfl (bm rfl (bZ (path:=[]) rfl rfl rfl aw (aB (f:=aa) (xs:=x51.2.2) he60) rfl rfl rfl)) ?_
  refine dk 2 [133,132] [I aE,.hs 1 0 [] 4 0 (x51.2.2.map aa).length] ?_
  obtain⟨e61,he61,h⟩:=bS h
  refine dy [1] [] (.hp 1 0 [] 4 (0+Int.toNat aE) 0) rfl (ah rfl rfl rfl (aL (f:=aa) (xs:=x51.2.2) rfl rfl rfl he61)) ?_
  refine dy [1] [] (aa e61) rfl (bm rfl (bZ (path:=[]) rfl rfl rfl aw (aB (f:=aa) (xs:=x51.2.2) he61) rfl rfl rfl)) ?_
  obtain⟨r62,hr62,h⟩:=bS h
  refine dy [] [] (I r62) rfl (cP (fF hr62)) ?_ (dK rfl rfl rfl rfl (ba (bl rfl) (ba (bl rfl) cS)) (fF hr62) (.inr rfl) rfl)
  refine dk 3 [139,138,137] [B (!(decide (r62<0))),B (!(decide (r62<0))),B (decide (r62<0))] ?_
  refine de 274 rfl rfl ?_
  exact rf [0,1,4,12,13,139] [1] (j59 _ (al h) :)
 ·refine dk 13 [139,138,137,136,135,134,133,132,131,130,129,128,127] [B false,.und,.und,.und,.und,.und,.und,.und,.und,.und,.und,.und,.und] ?_
  refine de 274 rfl rfl ?_
  exact rf [0,1,4,12,13,139] [1] (j59 _ (al h) :)
theorem Mb (au:List Event)(aE:Int)(bo:Int)(ar:Int)(aH:Unit):cf lf 1 (mp (au,aE,bo,ar,aH)) F1 4 (Nh au aE bo ar aH) (fun u=>(sT 178 [(0,.hs 1 0 [] 4 0 (u.2.map aa).length),(1,I aE),(13,I u.1)] [⟨0,4,u.2.map aa⟩] 2)) fun x51=>(sT 178 [(0,.hs 1 0 [] 4 0 (x51.2.2.map aa).length),(1,I aE),(4,.fn 80 []),(12,I x51.1),(13,I x51.2.1)] [⟨0,4,x51.2.2.map aa⟩] 2):=eu (Ma au aE bo ar aH) fun {Q K} hK self ih x51 y h hr hn=>by
 unfold rJ at h
 refine aq 3 ?_
 obtain⟨y57,hy57,hy571,hy572⟩:=bL h
 refine bO rfl ?_
 refine rf [0,1,4,12,13] [1] (Md au aE bo ar aH x51 rfl x51.1 _ hy57 (fun r' e st hq=>hr r' (hy571 r' e) st hq) fun u57 hu=>?_)
 replace h:=hy572 u57 hu
 refine aq 2 ?_
 obtain⟨y63,hy63,hy631,hy632⟩:=bL h
 refine bO rfl ?_
 refine rf [0,1,4,12,13] [1] (Mf au aE bo ar aH u57 x51 rfl x51.2.1 _ hy63 (fun r' e st hq=>hr r' (hy631 r' e) st hq) fun u63 hu=>?_)
 replace h:=hy632 u63 hu
 refine cq 7 [144] [B (decide (u57>u63))] 50 ?_
 refine sq h ?_ ?_<;>intro h
 ·refine aq 1 ?_
  exact rf [0,1,13] [1] (hn _ (al h) :) (hk:=hK)
 ·refine aq 1 ?_
  refine aq 1 ?_
  refine cn [0,0,0,0,0,0,48,112,0,0,768,1792,4083,8179,16383,32767] rfl (by decide +kernel) ?_
  refine dk 6 [150,149,148,147,146,145] [I u63,.hs 1 0 [] 4 0 (x51.2.2.map aa).length,I u63,.hs 1 0 [] 4 0 (x51.2.2.map aa).length,I u57,.hs 1 0 [] 4 0 (x51.2.2.map aa).length] ?_
  obtain⟨e64,he64,h⟩:=bS h
  refine dq [1] [] (.hp 1 0 [] 4 (0+Int.toNat u63) 0) rfl (ah rfl rfl rfl (aL (f:=aa) (xs:=x51.2.2) rfl rfl rfl he64)) ?_
  refine dq [1] [] (aa e64) rfl (bm rfl (bZ (path:=[]) rfl rfl rfl aw (aB (f:=aa) (xs:=x51.2.2) he64) rfl rfl rfl)) ?_
  refine dk 2 [154,153] [I u57,.hs 1 0 [] 4 0 (x51.2.2.map aa).length] ?_
  obtain⟨e65,he65,h⟩:=bS h
  refine dq [1] [] (.hp 1 0 [] 4 (0+Int.toNat u57) 0) rfl (ah rfl rfl rfl (aL (f:=aa) (xs:=x51.2.2) rfl rfl rfl he65)) ?_
  refine dq [1] [] (aa e65) rfl (bm rfl (bZ (path:=[]) rfl rfl rfl aw (aB (f:=aa) (xs:=x51.2.2) he65) rfl rfl rfl)) ?_
  obtain⟨e66,he66,h⟩:=bS h
  refine dq [1] [] (.hp 1 0 [] 4 (0+Int.toNat u57) 0) rfl (ah rfl rfl rfl (aL (f:=aa) (xs:=x51.2.2) rfl rfl rfl he66)) ?_
  refine dz [1] [1] rfl (dl rfl rfl (ch (path:=[]) (pl:=true) (e':=aa e64) (es2':=(aK x51.2.2 u57 e64).map aa) rfl (ap rfl) rfl rfl rfl aw (aB (f:=aa) (xs:=x51.2.2) he66) rfl rfl rfl (eK (f:=aa) (xs:=x51.2.2) (y:=e64)) cl 0 rfl)) ?_
  try rw[←ep (f:=aa) (xs:=x51.2.2) (i:=u57) (z:=e64)]
  obtain⟨e69,he69,h⟩:=bS h
  refine dq [1] [] (.hp 1 0 [] 4 (0+Int.toNat u63) 0) rfl (ah rfl rfl rfl (aL (f:=aa) (xs:=(aK x51.2.2 u57 e64)) rfl rfl rfl he69)) ?_
  obtain⟨rw70,hrw70,h⟩:=lJ h
  refine dz [1] [1] rfl (dl rfl rfl (ch (path:=[]) (pl:=true) (e':=aa e65) (es2':=(rw70).map aa) rfl (ap rfl) rfl rfl rfl aw (aB (f:=aa) (xs:=(aK x51.2.2 u57 e64)) he69) rfl rfl rfl (dB (f:=aa) (xs:=(aK x51.2.2 u57 e64)) (y:=e65) hrw70) cl 0 rfl)) ?_
  try rw[←cu hrw70 (f:=aa) (xs:=(aK x51.2.2 u57 e64))]
  refine de 306 rfl rfl ?_
  refine cq 12 [12,13] [I (ac (u57+1)),I (ac (u63 - 1))] 402 ?_
  refine dm ?_
  exact rf [0,1,4,12,13] [1] (ih _ _ h hr hn :)
theorem Uv (au:List Event)(aE:Int)(bo:Int)(ar:Int)(aH:Unit)(r:Int×Bool×(List Event))(h:Jw au aE bo ar aH=some r):bN lf Tryz.f124 [true,false,false,false,false] 1 (DE (au,aE,bo,ar,aH)) (DF r):=by
 show Run _ _ (mp (au,aE,bo,ar,aH) r) [.code DG] _
 refine rI 178 [(0,.hs 1 0 [] 4 0 (au.map aa).length),(1,I aE),(2,I bo),(3,I ar),(4,.fn 80 [])] [(1,some ⟨0,4,au.map aa⟩)] 2 ?_
 unfold Jw at h
 refine cq 6 [] [] 34 ?_
 refine cn [0,0,0,0,0,0,48,112,0,0,768,1792,4083,8179,16383,32767] rfl (by decide +kernel) ?_
 refine dk 6 [19,18,17,16,15,14] [I ar,.hs 1 0 [] 4 0 (au.map aa).length,I ar,.hs 1 0 [] 4 0 (au.map aa).length,I aE,.hs 1 0 [] 4 0 (au.map aa).length] ?_
 obtain⟨e6,he6,h⟩:=bS h
 refine dq [1] [] (.hp 1 0 [] 4 (0+Int.toNat ar) 0) rfl (ah rfl rfl rfl (aL (f:=aa) (xs:=au) rfl rfl rfl he6)) ?_
 refine dq [1] [] (aa e6) rfl (bm rfl (bZ (path:=[]) rfl rfl rfl aw (aB (f:=aa) (xs:=au) he6) rfl rfl rfl)) ?_
 refine dk 2 [23,22] [I aE,.hs 1 0 [] 4 0 (au.map aa).length] ?_
 obtain⟨e7,he7,h⟩:=bS h
 refine dq [1] [] (.hp 1 0 [] 4 (0+Int.toNat aE) 0) rfl (ah rfl rfl rfl (aL (f:=aa) (xs:=au) rfl rfl rfl he7)) ?_
 refine dq [1] [] (aa e7) rfl (bm rfl (bZ (path:=[]) rfl rfl rfl aw (aB (f:=aa) (xs:=au) he7) rfl rfl rfl)) ?_
 obtain⟨e8,he8,h⟩:=bS h
 refine dq [1] [] (.hp 1 0 [] 4 (0+Int.toNat aE) 0) rfl (ah rfl rfl rfl (aL (f:=aa) (xs:=au) rfl rfl rfl he8)) ?_
 refine dz [1] [1] rfl (dl rfl rfl (ch (path:=[]) (pl:=true) (e':=aa e6) (es2':=(aK au aE e6).map aa) rfl (ap rfl) rfl rfl rfl aw (aB (f:=aa) (xs:=au) he8) rfl rfl rfl (eK (f:=aa) (xs:=au) (y:=e6)) cl 0 rfl)) ?_
 try rw[←ep (f:=aa) (xs:=au) (i:=aE) (z:=e6)]
 obtain⟨e11,he11,h⟩:=bS h
 refine dq [1] [] (.hp 1 0 [] 4 (0+Int.toNat ar) 0) rfl (ah rfl rfl rfl (aL (f:=aa) (xs:=(aK au aE e6)) rfl rfl rfl he11)) ?_
 obtain⟨rw12,hrw12,h⟩:=lJ h
 refine dz [1] [1] rfl (dl rfl rfl (ch (path:=[]) (pl:=true) (e':=aa e7) (es2':=(rw12).map aa) rfl (ap rfl) rfl rfl rfl aw (aB (f:=aa) (xs:=(aK au aE e6)) he11) rfl rfl rfl (dB (f:=aa) (xs:=(aK au aE e6)) (y:=e7) hrw12) cl 0 rfl)) ?_
 try rw[←cu hrw12 (f:=aa) (xs:=(aK au aE e6))]
 refine de 290 rfl rfl ?_
 refine cq 11 [12,13] [I (ac (aE+1)),I (ac (bo - 1))] 386 ?_
 obtain⟨y21,hy21,hy211,hy212⟩:=bJ h
 refine bO rfl ?_
 refine rf [0,1,4,12,13] [1] (L7 au aE bo ar aH rw12 rfl (ac (aE+1)) _ hy21 (fun r' e st hq=>by rw[hy211 r' e] at hq;exact hq) fun u21 hu=>?_)
 replace h:=hy212 u21 hu
 refine aq 2 ?_
 obtain⟨y27,hy27,hy271,hy272⟩:=bJ h
 refine bO rfl ?_
 refine rf [0,1,4,12,13] [1] (L9 au aE bo ar aH u21 rw12 rfl u21.2 _ hy27 (fun r' e st hq=>by rw[hy271 r' e] at hq;exact hq) fun u27 hu=>?_)
 replace h:=hy272 u27 hu
 refine cq 7 [71] [B (decide (u21.1>u27))] 50 ?_
 refine sq h ?_ ?_<;>intro h
 ·refine aq 1 ?_
  refine cn [0,0,0,0,0,0,48,112,0,0,768,1792,4083,8179,16383,32767] rfl (by decide +kernel) ?_
  refine dk 6 [77,76,75,74,73,72] [I aE,.hs 1 0 [] 4 0 (rw12.map aa).length,I aE,.hs 1 0 [] 4 0 (rw12.map aa).length,I u27,.hs 1 0 [] 4 0 (rw12.map aa).length] ?_
  obtain⟨e28,he28,h⟩:=bS h
  refine dq [1] [] (.hp 1 0 [] 4 (0+Int.toNat aE) 0) rfl (ah rfl rfl rfl (aL (f:=aa) (xs:=rw12) rfl rfl rfl he28)) ?_
  refine dq [1] [] (aa e28) rfl (bm rfl (bZ (path:=[]) rfl rfl rfl aw (aB (f:=aa) (xs:=rw12) he28) rfl rfl rfl)) ?_
  refine dk 2 [81,80] [I u27,.hs 1 0 [] 4 0 (rw12.map aa).length] ?_
  obtain⟨e29,he29,h⟩:=bS h
  refine dq [1] [] (.hp 1 0 [] 4 (0+Int.toNat u27) 0) rfl (ah rfl rfl rfl (aL (f:=aa) (xs:=rw12) rfl rfl rfl he29)) ?_
  refine dq [1] [] (aa e29) rfl (bm rfl (bZ (path:=[]) rfl rfl rfl aw (aB (f:=aa) (xs:=rw12) he29) rfl rfl rfl)) ?_
  obtain⟨e30,he30,h⟩:=bS h
  refine dq [1] [] (.hp 1 0 [] 4 (0+Int.toNat u27) 0) rfl (ah rfl rfl rfl (aL (f:=aa) (xs:=rw12) rfl rfl rfl he30)) ?_
  obtain⟨rw31,hrw31,h⟩:=lJ h
  refine dz [1] [1] rfl (dl rfl rfl (ch (path:=[]) (pl:=true) (e':=aa e28) (es2':=(rw31).map aa) rfl (ap rfl) rfl rfl rfl aw (aB (f:=aa) (xs:=rw12) he30) rfl rfl rfl (dB (f:=aa) (xs:=rw12) (y:=e28) hrw31) cl 0 rfl)) ?_
  try rw[←cu hrw31 (f:=aa) (xs:=rw12)]
  obtain⟨e34,he34,h⟩:=bS h
  refine dq [1] [] (.hp 1 0 [] 4 (0+Int.toNat aE) 0) rfl (ah rfl rfl rfl (aL (f:=aa) (xs:=rw31) rfl rfl rfl he34)) ?_
  obtain⟨rw35,hrw35,h⟩:=lJ h
  refine dz [1] [1] rfl (dl rfl rfl (ch (path:=[]) (pl:=true) (e':=aa e29) (es2':=(rw35).map aa) rfl (ap rfl) rfl rfl rfl aw (aB (f:=aa) (xs:=rw31) he34) rfl rfl rfl (dB (f:=aa) (xs:=rw31) (y:=e29) hrw35) cl 0 rfl)) ?_
  try rw[←cu hrw35 (f:=aa) (xs:=rw31)]
  refine de 306 rfl rfl ?_
  refine cq 6 [10,11] [I u27,B true] 354 ?_
  obtain⟨g39,h⟩:=gG h
  obtain rfl:=sI h
  exact bR rfl ⟨_,fin (vs:=[I u27,B true]) rfl (d6 (ap rfl) (d6 (ap rfl) cX)) rfl (fy rfl (gp (f:=aa) (xs:=rw35) (by simpa using g39) rfl) (bH (bH (bH (bH d4))))),iA dX⟩
 ·refine aq 1 ?_
  refine aq 1 ?_
  refine cn [0,0,0,0,0,0,48,112,0,0,768,1792,4083,8179,16383,32767] rfl (by decide +kernel) ?_
  refine dk 6 [92,91,90,89,88,87] [I u27,.hs 1 0 [] 4 0 (rw12.map aa).length,I u27,.hs 1 0 [] 4 0 (rw12.map aa).length,I u21.1,.hs 1 0 [] 4 0 (rw12.map aa).length] ?_
  obtain⟨e40,he40,h⟩:=bS h
  refine dq [1] [] (.hp 1 0 [] 4 (0+Int.toNat u27) 0) rfl (ah rfl rfl rfl (aL (f:=aa) (xs:=rw12) rfl rfl rfl he40)) ?_
  refine dq [1] [] (aa e40) rfl (bm rfl (bZ (path:=[]) rfl rfl rfl aw (aB (f:=aa) (xs:=rw12) he40) rfl rfl rfl)) ?_
  refine dk 2 [96,95] [I u21.1,.hs 1 0 [] 4 0 (rw12.map aa).length] ?_
  obtain⟨e41,he41,h⟩:=bS h
  refine dq [1] [] (.hp 1 0 [] 4 (0+Int.toNat u21.1) 0) rfl (ah rfl rfl rfl (aL (f:=aa) (xs:=rw12) rfl rfl rfl he41)) ?_
  refine dq [1] [] (aa e41) rfl (bm rfl (bZ (path:=[]) rfl rfl rfl aw (aB (f:=aa) (xs:=rw12) he41) rfl rfl rfl)) ?_
  obtain⟨e42,he42,h⟩:=bS h
  refine dq [1] [] (.hp 1 0 [] 4 (0+Int.toNat u21.1) 0) rfl (ah rfl rfl rfl (aL (f:=aa) (xs:=rw12) rfl rfl rfl he42)) ?_
  obtain⟨rw43,hrw43,h⟩:=lJ h
  refine dz [1] [1] rfl (dl rfl rfl (ch (path:=[]) (pl:=true) (e':=aa e40) (es2':=(rw43).map aa) rfl (ap rfl) rfl rfl rfl aw (aB (f:=aa) (xs:=rw12) he42) rfl rfl rfl (dB (f:=aa) (xs:=rw12) (y:=e40) hrw43) cl 0 rfl)) ?_
  try rw[←cu hrw43 (f:=aa) (xs:=rw12)]
  obtain⟨e46,he46,h⟩:=bS h
  refine dq [1] [] (.hp 1 0 [] 4 (0+Int.toNat u27) 0) rfl (ah rfl rfl rfl (aL (f:=aa) (xs:=rw43) rfl rfl rfl he46)) ?_
  obtain⟨rw47,hrw47,h⟩:=lJ h
  refine dz [1] [1] rfl (dl rfl rfl (ch (path:=[]) (pl:=true) (e':=aa e41) (es2':=(rw47).map aa) rfl (ap rfl) rfl rfl rfl aw (aB (f:=aa) (xs:=rw43) he46) rfl rfl rfl (dB (f:=aa) (xs:=rw43) (y:=e41) hrw47) cl 0 rfl)) ?_
  try rw[←cu hrw47 (f:=aa) (xs:=rw43)]
  refine de 306 rfl rfl ?_
  refine cq 14 [12,13] [I (ac (u21.1+1)),I (ac (u27 - 1))] 402 ?_
  obtain⟨y74,hy74,hy741,hy742⟩:=bJ h
  refine bO rfl ?_
  refine rf [0,1,4,12,13] [1] (Mb au aE bo ar aH rfl ((ac (u21.1+1)),(ac (u27 - 1)),rw47) _ hy74 (fun r' e st hq=>by rw[hy741 r' e] at hq;exact hq) fun u74 hu=>?_)
  replace h:=hy742 u74 hu
  refine aq 1 ?_
  refine cn [0,0,0,0,0,0,48,112,0,0,768,1792,4083,8179,16383,32767] rfl (by decide +kernel) ?_
  refine dk 6 [168,167,166,165,164,163] [I aE,.hs 1 0 [] 4 0 (u74.2.map aa).length,I aE,.hs 1 0 [] 4 0 (u74.2.map aa).length,I u74.1,.hs 1 0 [] 4 0 (u74.2.map aa).length] ?_
  obtain⟨e75,he75,h⟩:=bS h
  refine dq [1] [] (.hp 1 0 [] 4 (0+Int.toNat aE) 0) rfl (ah rfl rfl rfl (aL (f:=aa) (xs:=u74.2) rfl rfl rfl he75)) ?_
  refine dq [1] [] (aa e75) rfl (bm rfl (bZ (path:=[]) rfl rfl rfl aw (aB (f:=aa) (xs:=u74.2) he75) rfl rfl rfl)) ?_
  refine dk 2 [172,171] [I u74.1,.hs 1 0 [] 4 0 (u74.2.map aa).length] ?_
  obtain⟨e76,he76,h⟩:=bS h
  refine dq [1] [] (.hp 1 0 [] 4 (0+Int.toNat u74.1) 0) rfl (ah rfl rfl rfl (aL (f:=aa) (xs:=u74.2) rfl rfl rfl he76)) ?_
  refine dq [1] [] (aa e76) rfl (bm rfl (bZ (path:=[]) rfl rfl rfl aw (aB (f:=aa) (xs:=u74.2) he76) rfl rfl rfl)) ?_
  obtain⟨e77,he77,h⟩:=bS h
  refine dq [1] [] (.hp 1 0 [] 4 (0+Int.toNat u74.1) 0) rfl (ah rfl rfl rfl (aL (f:=aa) (xs:=u74.2) rfl rfl rfl he77)) ?_
  refine dz [1] [1] rfl (dl rfl rfl (ch (path:=[]) (pl:=true) (e':=aa e75) (es2':=(aK u74.2 u74.1 e75).map aa) rfl (ap rfl) rfl rfl rfl aw (aB (f:=aa) (xs:=u74.2) he77) rfl rfl rfl (eK (f:=aa) (xs:=u74.2) (y:=e75)) cl 0 rfl)) ?_
  try rw[←ep (f:=aa) (xs:=u74.2) (i:=u74.1) (z:=e75)]
  obtain⟨e80,he80,h⟩:=bS h
  refine dq [1] [] (.hp 1 0 [] 4 (0+Int.toNat aE) 0) rfl (ah rfl rfl rfl (aL (f:=aa) (xs:=(aK u74.2 u74.1 e75)) rfl rfl rfl he80)) ?_
  obtain⟨rw81,hrw81,h⟩:=lJ h
  refine dz [1] [1] rfl (dl rfl rfl (ch (path:=[]) (pl:=true) (e':=aa e76) (es2':=(rw81).map aa) rfl (ap rfl) rfl rfl rfl aw (aB (f:=aa) (xs:=(aK u74.2 u74.1 e75)) he80) rfl rfl rfl (dB (f:=aa) (xs:=(aK u74.2 u74.1 e75)) (y:=e76) hrw81) cl 0 rfl)) ?_
  try rw[←cu hrw81 (f:=aa) (xs:=(aK u74.2 u74.1 e75))]
  refine de 258 rfl rfl ?_
  refine cq 6 [10,11] [I u74.1,B false] 306 ?_
  obtain⟨g85,h⟩:=gG h
  obtain rfl:=sI h
  exact bR rfl ⟨_,fin (vs:=[I u74.1,B false]) rfl (d6 (ap rfl) (d6 (ap rfl) cX)) rfl (fy rfl (gp (f:=aa) (xs:=rw81) (by simpa using g85) rfl) (bH (bH (bH (bH d4))))),iA dX⟩
theorem Rf {G:cD}:ct G 124 AX:=gT 5 1 (bb mN bP) cJ Tryz.func124 (fun a r h=>Uv a.1 a.2.1 a.2.2.1 a.2.2.2.1 a.2.2.2.2 r h)
def vY:((List Event)×Int×Int×Int×Unit)→List V:=cA (kM 4 aa) (cA I (cA I (cA I (oA (fun x:Unit=>(.fn 80 []:V))))))
def vZ (r:(List Event)):V×List V:=(.tup [],[.usl 4 (r.map aa)])
noncomputable def v6 (bI:((List Event)×Int×Int×Int×Unit)→Option (List Event)):Ent:=bA [true,false,false,false,false] vY vZ bI
theorem F2 (bI:((List Event)×Int×Int×Int×Unit)→Option (List Event)){x}{r}(h:bI x=some r):(v6 bI).F (vY x)=some (vZ r):=aV (aY (eL ca) (aY bF (aY bF (aY bF (aW (im )))))) h
noncomputable def AZ :=v6 (aP nH)
theorem ZB {dF:List Event}{a_9:Int}{fx:Int}{cF:Int}{dx:Unit}{r}(h:Jy dF a_9 fx cF dx=some r):AZ.F (vY (dF,a_9,fx,cF,dx))=some (vZ r):=F2 (aP nH) h
noncomputable def Rh :=aQ Tryz.f100
noncomputable abbrev jd :=cL (cL (cR (cR Rh)))
noncomputable abbrev tB :=cR (cR (cR (cR (cR (cR (cR (cL jd)))))))
noncomputable abbrev Nn :=cR (cL (cR (cR (cR (cR (cR (cR (cL jd))))))))
noncomputable def mq (bI:((List Event)×Int×Int×Int×Unit)→Option (List Event)):Env:=cI [(117,AO),(118,AM),(120,AL),(123,AY),(124,AX),(100,(v6 bI)),(80,lZ),(122,AW),(121,A3),(119,AK)]
def qE (bI:((List Event)×Int×Int×Int×Unit)→Option (List Event))(x:(List Event)×Int×Int×Int×Unit)(r:(List Event)):St→Prop:=QF (mq bI) Tryz.f100 [true,false,false,false,false] (vY x) (vZ r)
theorem Mm (bI:((List Event)×Int×Int×Int×Unit)→Option (List Event))(dF:List Event)(a_9:Int)(fx:Int)(cF:Int)(dx:Unit):cf (mq bI) 1 (qE bI (dF,a_9,fx,cF,dx)) jd 0 (oK bI dF a_9 fx cF dx) (fun u=>(sT 148 [] [] 1)) fun x6=>(sT 148 [(0,.hs 1 0 [] 4 0 (x6.2.2.2.2.2.map aa).length),(1,I x6.1),(2,I x6.2.1),(3,I x6.2.2.1),(4,.fn 80 []),(10,B x6.2.2.2.1),(11,B x6.2.2.2.2.1)] [⟨0,4,x6.2.2.2.2.2.map aa⟩] 2):=eu (yV bI dF a_9 fx cF dx) fun {Q K} hK self ih x6 y h hr hn=>by
 unfold lg at h
 refine cq 14 [12,25] [I (ac (x6.2.1 - x6.1)),B (decide ((ac (x6.2.1 - x6.1))≤12))] 98 ?_
 refine sq h ?_ ?_<;>intro h
 ·refine cq 6 [26,27,28,29] [.hs 1 0 [] 4 0 (x6.2.2.2.2.2.map aa).length,I x6.1,I x6.2.1,.fn 80 []] 162 ?_
  obtain⟨r7,hr7,h⟩:=bS h
  obtain⟨g8,h⟩:=gG h
  refine oq 178 (.tup []) rfl (bC rfl rfl (bW rfl rfl rfl (gm (ge rfl (eP (path:=[]) rfl rfl aw rfl)) (ba (bl rfl) (ba (bl rfl) (ba (bl rfl) cS)))) (Zo hr7) (.inr rfl) (fi rfl rfl rfl rfl dE) rfl rfl rfl)) ?_
  try rw[eU (f:=aa) (xs:=x6.2.2.2.2.2) (ys:=r7) g8]
  refine aq 1 ?_
  obtain⟨g9,h⟩:=gG h
  exact bR rfl (hr _ (al h) _ ⟨_,fin (vs:=[]) rfl cX rfl (fy rfl (gp (f:=aa) (xs:=r7) (by simpa using g9) rfl) (bH (bH (bH (bH d4))))),iA dX⟩)
 ·refine aq 1 ?_
  refine cq 6 [32] [B (x6.2.2.1==0)] 130 ?_
  refine sq h ?_ ?_<;>intro h
  ·refine cq 6 [33,34,35,36] [.hs 1 0 [] 4 0 (x6.2.2.2.2.2.map aa).length,I x6.1,I x6.2.1,.fn 80 []] 194 ?_
   obtain⟨r10,hr10,h⟩:=bS h
   obtain⟨g11,h⟩:=gG h
   refine oq 210 (.tup []) rfl (bC rfl rfl (bW rfl rfl rfl (gm (ge rfl (eP (path:=[]) rfl rfl aw rfl)) (ba (bl rfl) (ba (bl rfl) (ba (bl rfl) cS)))) (Zn hr10) (.inr rfl) (fi rfl rfl rfl rfl dE) rfl rfl rfl)) ?_
   try rw[eU (f:=aa) (xs:=x6.2.2.2.2.2) (ys:=r10) g11]
   refine aq 1 ?_
   obtain⟨g12,h⟩:=gG h
   exact bR rfl (hr _ (al h) _ ⟨_,fin (vs:=[]) rfl cX rfl (fy rfl (gp (f:=aa) (xs:=r10) (by simpa using g12) rfl) (bH (bH (bH (bH d4))))),iA dX⟩)
  ·refine aq 1 ?_
   refine cq 6 [39] [B (!x6.2.2.2.1)] 162 ?_
   obtain⟨y13,hy13,hy131,hy132⟩:=bL h
   have j13:∀u13,y13=.inr u13→Run (mq bI) 1 Q (.code (cR (cR (cR (cR (cL jd)))))::.blk 1::.lp jd::.blk 0::K) (sT 148 [(0,.hs 1 0 [] 4 0 (u13.2.map aa).length),(1,I x6.1),(2,I x6.2.1),(3,I u13.1),(4,.fn 80 []),(10,B x6.2.2.2.1),(11,B x6.2.2.2.2.1),(12,I (ac (x6.2.1 - x6.1)))] [⟨0,4,u13.2.map aa⟩] 2):=by
    intro u13 hu
    replace h:=hy132 u13 hu
    refine cq 6 [48,49,50,51] [.hs 1 0 [] 4 0 (u13.2.map aa).length,I x6.1,I x6.2.1,.fn 80 []] 66 ?_
    obtain⟨r14,hr14,h⟩:=bS h
    refine oq 82 (.tup [I r14.1,I r14.2]) rfl (bC rfl rfl (bW rfl rfl rfl (ba (ul rfl rfl (f9 (f:=aa) (g:=aa) (xs:=u13.2) rfl rfl (eh fK))) (ba (bl rfl) (ba (bl rfl) (ba (bl rfl) cS)))) (Zm hr14) (.inl rfl) dE rfl rfl rfl)) ?_
    refine cq 12 [13,14,56] [I r14.1,I r14.2,B (r14.2==2)] 194 ?_
    obtain⟨y15,hy15,hy151,hy152⟩:=bL h
    have j15:∀u15,y15=.inr u15→Run (mq bI) 1 Q (.code (cR (cR (cR (cR (cR (cR (cL jd)))))))::.blk 1::.lp jd::.blk 0::K) (sT 148 [(0,.hs 1 0 [] 4 0 (u15.2.2.map aa).length),(1,I x6.1),(2,I x6.2.1),(3,I u13.1),(4,.fn 80 []),(10,B x6.2.2.2.1),(11,B x6.2.2.2.2.1),(12,I (ac (x6.2.1 - x6.1))),(13,I u15.1),(14,I u15.2.1)] [⟨0,4,u15.2.2.map aa⟩] 2):=by
     intro u15 hu
     replace h:=hy152 u15 hu
     refine cq 5 [69] [B x6.2.2.2.1] 34 ?_
     obtain⟨u16,hu16,h⟩:=lJ h
     have j16:Run (mq bI) 1 Q (.code Nn::.code tB::.blk 1::.lp jd::.blk 0::K) (sT 148 [(0,.hs 1 0 [] 4 0 (u15.2.2.map aa).length),(1,I x6.1),(2,I x6.2.1),(3,I u13.1),(4,.fn 80 []),(10,B x6.2.2.2.1),(11,B x6.2.2.2.2.1),(12,I (ac (x6.2.1 - x6.1))),(13,I u15.1),(75,B u16)] [⟨0,4,u15.2.2.map aa⟩] 2):=by
      obtain⟨y17,hy17,hy171,hy172⟩:=bL h
      have j17:∀u17,y17=.inr u17→Run (mq bI) 1 Q (.code tB::.blk 1::.lp jd::.blk 0::K) (sT 148 [(0,.hs 1 0 [] 4 0 (u17.map aa).length),(1,I x6.1),(2,I x6.2.1),(3,I u13.1),(4,.fn 80 []),(10,B x6.2.2.2.1),(11,B x6.2.2.2.2.1),(12,I (ac (x6.2.1 - x6.1))),(13,I u15.1)] [⟨0,4,u17.map aa⟩] 2):=by
       intro u17 hu
       replace h:=hy172 u17 hu
       refine aq 2 ?_
       refine cn [0,1,3,7,7,7,39,119,247,7,7,1543,3591,8191,16383,32767,65535] rfl (by decide +kernel) ?_
       refine dk 3 [83,82,81] [B (decide (x6.1>0)),B (decide (x6.1>0)),I x6.1] ?_
       obtain⟨y18,hy18,hy181,hy182⟩:=bL h
       have j18:∀u18,y18=.inr u18→Run (mq bI) 1 Q (.code (cR (cL tB))::.code (cR tB)::.blk 1::.lp jd::.blk 0::K) (sT 148 [(0,.hs 1 0 [] 4 0 (u17.map aa).length),(1,I x6.1),(2,I x6.2.1),(3,I u13.1),(4,.fn 80 []),(10,B x6.2.2.2.1),(11,B x6.2.2.2.2.1),(12,I (ac (x6.2.1 - x6.1))),(13,I u15.1),(97,B u18)] [⟨0,4,u17.map aa⟩] 2):=by
        intro u18 hu
        replace h:=hy182 u18 hu
        refine sq h ?_ ?_<;>intro h
        ·refine cq 7 [98,99,100,101,102] [.hs 1 0 [] 4 0 (u17.map aa).length,I x6.1,I x6.2.1,I u15.1,.fn 80 []] 82 ?_
         obtain⟨r19,hr19,h⟩:=bS h
         obtain⟨g20,h⟩:=gG h
         refine oq 98 (I r19.1) rfl (bC rfl rfl (bW rfl rfl rfl (gm (ge rfl (eP (path:=[]) rfl rfl aw rfl)) (ba (bl rfl) (ba (bl rfl) (ba (bl rfl) (ba (bl rfl) cS))))) (ZA hr19) (.inr rfl) (fi rfl rfl rfl rfl dE) rfl rfl rfl)) ?_
         try rw[eU (f:=aa) (xs:=u17) (ys:=r19.2) g20]
         refine cq 8 [1] [I r19.1] 146 ?_
         refine dm ?_
         exact rf [0,1,2,3,4,10,11] [1] (ih _ _ h hr hn :)
        ·refine aq 1 ?_
         refine cq 7 [106,107,108,109,110] [.hs 1 0 [] 4 0 (u17.map aa).length,I x6.1,I x6.2.1,I u15.1,.fn 80 []] 82 ?_
         obtain⟨r21,hr21,h⟩:=bS h
         obtain⟨g22,h⟩:=gG h
         refine oq 98 (.tup [I r21.1,B r21.2.1]) rfl (bC rfl rfl (bW rfl rfl rfl (gm (ge rfl (eP (path:=[]) rfl rfl aw rfl)) (ba (bl rfl) (ba (bl rfl) (ba (bl rfl) (ba (bl rfl) cS))))) (Zz hr21) (.inr rfl) (fi rfl rfl rfl rfl dE) rfl rfl rfl)) ?_
         try rw[eU (f:=aa) (xs:=u17) (ys:=r21.2.2) g22]
         refine cq 34 [11,16,18,19,20,125] [B r21.2.1,I r21.1,I (ac (r21.1 - x6.1)),I (ac (x6.2.1 - r21.1)),I (ac ((ac (x6.2.1 - x6.1)).tdiv 8)),B (decide ((ac (r21.1 - x6.1))<(ac (x6.2.1 - r21.1))))] 434 ?_
         obtain⟨y23,hy23,hy231,hy232⟩:=bL h
         have j23:∀u23,y23=.inr u23→Run (mq bI) 1 Q (.blk 1::.lp jd::.blk 0::K) (sT 148 [(0,.hs 1 0 [] 4 0 (u23.2.2.2.map aa).length),(1,I u23.1),(2,I u23.2.1),(3,I u13.1),(4,.fn 80 []),(10,B u23.2.2.1),(11,B r21.2.1)] [⟨0,4,u23.2.2.2.map aa⟩] 2):=by
          intro u23 hu
          replace h:=hy232 u23 hu
          refine aq 1 ?_
          refine dm ?_
          exact rf [0,1,2,3,4,10,11] [1] (ih _ _ h hr hn :)
         have r23:∀r',y23=.inl r'→∀st,qE bI (dF,a_9,fx,cF,dx) r' st→Q st:=fun r' e st hq=>hr r' (hy231 r' e) st hq
         replace h:=hy23
         refine sq h ?_ ?_<;>intro h
         ·refine cq 14 [10,129,130,131,132,133] [B (decide ((ac (r21.1 - x6.1))≥(ac ((ac (x6.2.1 - x6.1)).tdiv 8)))),.hs 1 0 [] 4 0 (r21.2.2.map aa).length,I x6.1,I r21.1,I u13.1,.fn 80 []] 578 ?_
          obtain⟨r24,hr24,h⟩:=bS h
          obtain⟨g25,h⟩:=gG h
          refine oq 594 (.tup []) rfl (bC rfl rfl (bW rfl rfl rfl (gm (ge rfl (eP (path:=[]) rfl rfl aw rfl)) (ba (bl rfl) (ba (bl rfl) (ba (bl rfl) (ba (bl rfl) cS))))) (F2 bI hr24) (.inr rfl) (fi rfl rfl rfl rfl dE) rfl rfl rfl)) ?_
          try rw[eU (f:=aa) (xs:=r21.2.2) (ys:=r24) g25]
          refine cq 6 [1] [I (ac (r21.1+1))] 642 ?_
          exact rf [0,1,2,3,4,10,11] [1] (j23 _ (al h) :)
         ·refine cq 15 [10,140,142,143,144,145] [B (decide ((ac (x6.2.1 - r21.1))≥(ac ((ac (x6.2.1 - x6.1)).tdiv 8)))),.hs 1 0 [] 4 0 (r21.2.2.map aa).length,I (ac (r21.1+1)),I x6.2.1,I u13.1,.fn 80 []] 594 ?_
          obtain⟨r26,hr26,h⟩:=bS h
          obtain⟨g27,h⟩:=gG h
          refine oq 610 (.tup []) rfl (bC rfl rfl (bW rfl rfl rfl (gm (ge rfl (eP (path:=[]) rfl rfl aw rfl)) (ba (bl rfl) (ba (bl rfl) (ba (bl rfl) (ba (bl rfl) cS))))) (F2 bI hr26) (.inr rfl) (fi rfl rfl rfl rfl dE) rfl rfl rfl)) ?_
          try rw[eU (f:=aa) (xs:=r21.2.2) (ys:=r26) g27]
          refine cq 5 [2] [I r21.1] 642 ?_
          exact rf [0,1,2,3,4,10,11] [1] (j23 _ (al h) :)
       have r18:∀r',y18=.inl r'→∀st,qE bI (dF,a_9,fx,cF,dx) r' st→Q st:=fun r' e st hq=>hr r' (hy181 r' e) st hq
       replace h:=hy18
       refine sp 83 h rfl ?_ ?_<;>intro h
       ·refine dk 4 [87,86,85,84] [I (ac (x6.1 - 1)),I x6.1,.hs 1 0 [] 4 0 (u17.map aa).length,.fn 80 []] ?_
        obtain⟨e28,he28,h⟩:=bS h
        refine dy [1] [] (.hp 1 0 [] 4 (0+Int.toNat (ac (x6.1 - 1))) 0) rfl (ah rfl rfl rfl (aL (f:=aa) (xs:=u17) rfl rfl rfl he28)) ?_
        refine dy [1] [] (aa e28) rfl (bm rfl (bZ (path:=[]) rfl rfl rfl aw (aB (f:=aa) (xs:=u17) he28) rfl rfl rfl)) ?_
        refine dk 2 [91,90] [I u15.1,.hs 1 0 [] 4 0 (u17.map aa).length] ?_
        obtain⟨e29,he29,h⟩:=bS h
        refine dy [1] [] (.hp 1 0 [] 4 (0+Int.toNat u15.1) 0) rfl (ah rfl rfl rfl (aL (f:=aa) (xs:=u17) rfl rfl rfl he29)) ?_
        refine dy [1] [] (aa e29) rfl (bm rfl (bZ (path:=[]) rfl rfl rfl aw (aB (f:=aa) (xs:=u17) he29) rfl rfl rfl)) ?_
        obtain⟨r30,hr30,h⟩:=bS h
        refine dy [] [] (I r30) rfl (cP (fF hr30)) ?_ (dK rfl rfl rfl rfl (ba (bl rfl) (ba (bl rfl) cS)) (fF hr30) (.inr rfl) rfl)
        refine dk 3 [97,96,95] [B (!(decide (r30<0))),B (!(decide (r30<0))),B (decide (r30<0))] ?_
        refine de 274 rfl rfl ?_
        exact rf [0,1,2,3,4,10,11,12,13,97] [1] (j18 _ (al h) :)
       ·refine dk 14 [97,96,95,94,93,92,91,90,89,88,87,86,85,84] [B false,.und,.und,.und,.und,.und,.und,.und,.und,.und,.und,.und,.und,.und] ?_
        refine de 274 rfl rfl ?_
        exact rf [0,1,2,3,4,10,11,12,13,97] [1] (j18 _ (al h) :)
      have r17:∀r',y17=.inl r'→∀st,qE bI (dF,a_9,fx,cF,dx) r' st→Q st:=fun r' e st hq=>hr r' (hy171 r' e) st hq
      replace h:=hy17
      refine sq h ?_ ?_<;>intro h
      ·refine cq 6 [76,77,78,79] [.hs 1 0 [] 4 0 (u15.2.2.map aa).length,I x6.1,I x6.2.1,.fn 80 []] 66 ?_
       obtain⟨r31,hr31,h⟩:=bS h
       obtain⟨g32,h⟩:=gG h
       refine oq 82 (B r31.1) rfl (bC rfl rfl (bW rfl rfl rfl (gm (ge rfl (eP (path:=[]) rfl rfl aw rfl)) (ba (bl rfl) (ba (bl rfl) (ba (bl rfl) cS)))) (Zy hr31) (.inr rfl) (fi rfl rfl rfl rfl dE) rfl rfl rfl)) ?_
       try rw[eU (f:=aa) (xs:=u15.2.2) (ys:=r31.2) g32]
       refine aq 1 ?_
       refine sq h ?_ ?_<;>intro h
       ·obtain⟨g33,h⟩:=gG h
        exact bR rfl (r17 _ (al h) _ ⟨_,fin (vs:=[]) rfl cX rfl (fy rfl (gp (f:=aa) (xs:=r31.2) (by simpa using g33) rfl) (bH (bH (bH (bH d4))))),iA dX⟩)
       ·refine aq 1 ?_
        exact rf [0,1,2,3,4,10,11,12,13] [1] (j17 _ (al h) :)
      ·refine aq 1 ?_
       exact rf [0,1,2,3,4,10,11,12,13] [1] (j17 _ (al h) :)
     replace h:=hu16
     clear hu16
     refine sp 69 h rfl ?_ ?_<;>intro h
     ·refine cq 3 [72] [B x6.2.2.2.2.1] 82 ?_
      obtain⟨u34,hu34,h⟩:=lJ h
      have j34:Run (mq bI) 1 Q (.code Nn::.code tB::.blk 1::.lp jd::.blk 0::K) (sT 148 [(0,.hs 1 0 [] 4 0 (u15.2.2.map aa).length),(1,I x6.1),(2,I x6.2.1),(3,I u13.1),(4,.fn 80 []),(10,B x6.2.2.2.1),(11,B x6.2.2.2.2.1),(12,I (ac (x6.2.1 - x6.1))),(13,I u15.1),(75,B u34)] [⟨0,4,u15.2.2.map aa⟩] 2):=by
       subst h
       exact rf [0,1,2,3,4,10,11,12,13,75] [1] (j16 :)
      replace h:=hu34
      clear hu34
      refine sp 72 h rfl ?_ ?_<;>intro h
      ·refine cq 4 [75] [B (u15.2.1==1)] 130 ?_
       subst h
       exact rf [0,1,2,3,4,10,11,12,13,75] [1] (j34 :)
      ·refine cq 4 [75] [B false] 130 ?_
       subst h
       exact rf [0,1,2,3,4,10,11,12,13,75] [1] (j34 :)
     ·refine cq 7 [75] [B false] 130 ?_
      subst h
      exact rf [0,1,2,3,4,10,11,12,13,75] [1] (j16 :)
    have r15:∀r',y15=.inl r'→∀st,qE bI (dF,a_9,fx,cF,dx) r' st→Q st:=fun r' e st hq=>hr r' (hy151 r' e) st hq
    replace h:=hy15
    refine sq h ?_ ?_<;>intro h
    ·refine cq 6 [57,58,59,60] [.hs 1 0 [] 4 0 (u13.2.map aa).length,I x6.1,I x6.2.1,.fn 80 []] 258 ?_
     obtain⟨r35,hr35,h⟩:=bS h
     obtain⟨g36,h⟩:=gG h
     refine oq 274 (.tup []) rfl (bC rfl rfl (bW rfl rfl rfl (gm (ge rfl (eP (path:=[]) rfl rfl aw rfl)) (ba (bl rfl) (ba (bl rfl) (ba (bl rfl) cS)))) (ZC hr35) (.inr rfl) (fi rfl rfl rfl rfl dE) rfl rfl rfl)) ?_
     try rw[eU (f:=aa) (xs:=u13.2) (ys:=r35) g36]
     refine cq 14 [13,14] [I (ac ((ac (x6.2.1 - 1)) - (ac (r14.1 - x6.1)))),I (1)] 402 ?_
     exact rf [0,1,2,3,4,10,11,12,13,14] [1] (j15 _ (al h) :)
    ·refine aq 1 ?_
     exact rf [0,1,2,3,4,10,11,12,13,14] [1] (j15 _ (al h) :)
   have r13:∀r',y13=.inl r'→∀st,qE bI (dF,a_9,fx,cF,dx) r' st→Q st:=fun r' e st hq=>hr r' (hy131 r' e) st hq
   replace h:=hy13
   refine sq h ?_ ?_<;>intro h
   ·refine cq 6 [40,41,42,43] [.hs 1 0 [] 4 0 (x6.2.2.2.2.2.map aa).length,I x6.1,I x6.2.1,.fn 80 []] 226 ?_
    obtain⟨r37,hr37,h⟩:=bS h
    obtain⟨g38,h⟩:=gG h
    refine oq 242 (.tup []) rfl (bC rfl rfl (bW rfl rfl rfl (gm (ge rfl (eP (path:=[]) rfl rfl aw rfl)) (ba (bl rfl) (ba (bl rfl) (ba (bl rfl) cS)))) (Zl hr37) (.inr rfl) (fi rfl rfl rfl rfl dE) rfl rfl rfl)) ?_
    try rw[eU (f:=aa) (xs:=x6.2.2.2.2.2) (ys:=r37) g38]
    refine cq 6 [3] [I (ac (x6.2.2.1 - 1))] 290 ?_
    exact rf [0,1,2,3,4,10,11,12] [1] (j13 _ (al h) :)
   ·refine aq 1 ?_
    exact rf [0,1,2,3,4,10,11,12] [1] (j13 _ (al h) :)
theorem Uy (bI:((List Event)×Int×Int×Int×Unit)→Option (List Event))(dF:List Event)(a_9:Int)(fx:Int)(cF:Int)(dx:Unit)(r:(List Event))(h:tA bI dF a_9 fx cF dx=some r):bN (mq bI) Tryz.f100 [true,false,false,false,false] 1 (vY (dF,a_9,fx,cF,dx)) (vZ r):=by
 show Run _ _ (qE bI (dF,a_9,fx,cF,dx) r) [.code Rh] _
 refine rI 148 [(0,.hs 1 0 [] 4 0 (dF.map aa).length),(1,I a_9),(2,I fx),(3,I cF),(4,.fn 80 [])] [(1,some ⟨0,4,dF.map aa⟩)] 2 ?_
 unfold tA at h
 refine cq 9 [10,11] [B true,B true] 34 ?_
 obtain⟨y39,hy39,hy391,hy392⟩:=bJ h
 refine bO rfl ?_
 refine rf [0,1,2,3,4,10,11] [1] (Mm bI dF a_9 fx cF dx rfl (a_9,fx,cF,true,true,dF) _ hy39 (fun r' e st hq=>by rw[hy391 r' e] at hq;exact hq) fun u39 hu=>?_)
 replace h:=hy392 u39 hu
 cases h
theorem Ri {G:cD}:ct G 100 AZ:=jt fun bI g_Ffcu=>gT 5 1 (bb Q3 (bb Q2 (bb Q1 (bb Rg (bb Rf (bb g_Ffcu (bb mN (bb Re (bb Rl (bb Q0 bP)))))))))) cJ Tryz.func100 (fun a r h=>Uy bI a.1 a.2.1 a.2.2.1 a.2.2.2.1 a.2.2.2.2 r h)
def Dd:((List Event)×Unit)→List V:=cA (kM 4 aa) (oA (fun x:Unit=>(.fn 80 []:V)))
def De (r:(List Event)):V×List V:=(.tup [],[.usl 4 (r.map aa)])
noncomputable def AJ :=bA [true,false] Dd De fun x=>vU x.1 x.2
theorem Zi {x_4:List Event}{uL:Unit}{r}(h:vU x_4 uL=some r):AJ.F (Dd (x_4,uL))=some (De r):=aV (aY (eL ca) (aW (im ))) h
noncomputable def Zk :=aQ Tryz.f79
noncomputable def QX :=cI [(101,uu),(100,AZ)]
def Zj (x:(List Event)×Unit)(r:(List Event)):St→Prop:=QF QX Tryz.f79 [true,false] (Dd x) (De r)
theorem Uj (x_4:List Event)(uL:Unit)(r:(List Event))(h:vU x_4 uL=some r):bN QX Tryz.f79 [true,false] 1 (Dd (x_4,uL)) (De r):=by
 show Run _ _ (Zj (x_4,uL) r) [.code Zk] _
 refine rI 14 [(0,.hs 1 0 [] 4 0 (x_4.map aa).length),(1,.fn 80 [])] [(1,some ⟨0,4,x_4.map aa⟩)] 2 ?_
 unfold vU at h
 refine cq 3 [5] [.hs 1 0 [] 4 0 (x_4.map aa).length] 18 ?_
 refine oq 34 (I (len x_4)) rfl (cg rfl rfl rfl (kd (f:=aa) (xs:=x_4) rfl rfl)) ?_
 refine cq 7 [7,8,10] [.hs 1 0 [] 4 0 (x_4.map aa).length,I (len x_4),.int .u64 (IntKind.u64.wrap (len x_4))] 114 ?_
 obtain⟨r3,hr3,h⟩:=bS h
 refine oq 130 (I r3) rfl (cP (QL hr3)) ?_
 refine cq 1 [12] [.fn 80 []] 146 ?_
 obtain⟨r4,hr4,h⟩:=bS h
 obtain⟨g5,h⟩:=gG h
 refine oq 162 (.tup []) rfl (bC rfl rfl (bW rfl rfl rfl (gm (ge rfl (eP (path:=[]) rfl rfl aw rfl)) (ba (bl rfl) (ba (bl rfl) (ba (bl rfl) (ba (bl rfl) cS))))) (ZB hr4) (.inr rfl) (fi rfl rfl rfl rfl dE) rfl rfl rfl)) ?_
 try rw[eU (f:=aa) (xs:=x_4) (ys:=r4) g5]
 refine aq 1 ?_
 obtain⟨g6,h⟩:=gG h
 obtain rfl:=sI h
 exact yj ⟨_,fin (vs:=[]) rfl cX rfl (fy rfl (gp (f:=aa) (xs:=r4) (by simpa using g6) rfl) (bH d4)),iA dX⟩
theorem QY {G:cD}:ct G 79 AJ:=gT 2 1 (bb GU (bb Ri bP)) cJ Tryz.func79 (fun a r h=>Uj a.1 a.2 r h)
def CW:(List Event)→List V:=oA (kM 4 aa)
def CY (r:(List Event)):V×List V:=(.usl 4 (r.map aa),[.dead])
noncomputable def AD :=bA [true] CW CY fun x=>AC x
theorem Zc {s_2:List Event}{r}(h:AC s_2=some r):AD.F (CW s_2)=some (CY r):=aV (aW (eL ca)) h
noncomputable def Ji :=aQ Tryz.f81
noncomputable abbrev FX :=cL (cL (cR (cL (cR (cL (cR (cL (cL (cR (cL (cL (cR (cL (cR (cR Ji)))))))))))))))
noncomputable def vS :=S2 Tryz.prog [] [77]
def CX (x:(List Event))(r:(List Event)):St→Prop:=QF vS Tryz.f81 [true] (CW x) (CY r)
theorem LK (s_2:List Event)(x2:Int):cf vS 1 (CX s_2) FX 2 (ky s_2 x2) (fun u=>(sO 61 [(0,.hs 2 0 [] 4 0 (u.2.map aa).length),(3,I u.1)] [none,some ⟨0,4,u.2.map aa⟩] 3)) fun x6=>(sO 61 [(0,.hs 2 0 [] 4 0 (x6.2.2.map aa).length),(3,I x6.1),(4,.hs 2 0 [] 4 (0+Int.toNat x2) (Int.toNat (len s_2) - Int.toNat x2)),(5,I x6.2.1)] [none,some ⟨0,4,x6.2.2.map aa⟩] 3):=eu (yO s_2 x2) fun {Q K} hK self ih x6 y h hr hn=>by
 unfold kY at h
 refine cq 8 [32] [B (decide (x6.2.1<(((Int.toNat (len s_2) - Int.toNat x2):Nat):Int)))] 67 ?_
 refine sq h ?_ ?_<;>intro h
 ·refine aq 1 ?_
  refine aq 3 ?_
  refine cn [0,0,3,7,0,0,32,112,240,511] rfl (by decide +kernel) ?_
  refine dk 2 [36,35] [I x6.2.1,.hs 2 0 [] 4 (0+Int.toNat x2) (Int.toNat (len s_2) - Int.toNat x2)] ?_
  obtain⟨e7,he7,h⟩:=bS h
  refine dq [2] [] (.hp 2 0 [] 4 ((0+Int.toNat x2)+Int.toNat x6.2.1) 0) rfl (ah rfl rfl rfl (yd (xs:=x6.2.2) rfl rfl he7)) ?_
  refine dq [2] [] (aa e7) rfl (bm rfl (bZ (path:=[]) rfl rfl rfl aw (tX (f:=aa) (xs:=x6.2.2) he7) rfl rfl rfl)) ?_
  refine dk 3 [41,40,39] [I (ac (x6.2.1 - 1)),I x6.2.1,.hs 2 0 [] 4 (0+Int.toNat x2) (Int.toNat (len s_2) - Int.toNat x2)] ?_
  obtain⟨e8,he8,h⟩:=bS h
  refine dq [2] [] (.hp 2 0 [] 4 ((0+Int.toNat x2)+Int.toNat (ac (x6.2.1 - 1))) 0) rfl (ah rfl rfl rfl (yd (xs:=x6.2.2) rfl rfl he8)) ?_
  refine dq [2] [] (aa e8) rfl (bm rfl (bZ (path:=[]) rfl rfl rfl aw (tX (f:=aa) (xs:=x6.2.2) he8) rfl rfl rfl)) ?_
  refine dq [] [] (B (!(e7.Day==e8.Day&&(e7.Party==e8.Party&&(e7.Action==e8.Action&&(e7.Amount==e8.Amount&&true)))))) rfl (xT rfl rfl (Z9 (b:=(e7.Day==e8.Day&&(e7.Party==e8.Party&&(e7.Action==e8.Action&&(e7.Amount==e8.Amount&&true))))) rfl rfl rfl rfl)) ?_
  refine de 227 rfl rfl ?_
  obtain⟨y9,hy9,hy91,hy92⟩:=bL h
  have j9:∀u9,y9=.inr u9→Run vS 1 Q (.blk 3::.code (cR (cR FX))::.lp FX::.blk 2::K) (sO 61 [(0,.hs 2 0 [] 4 0 (u9.2.map aa).length),(3,I u9.1),(4,.hs 2 0 [] 4 (0+Int.toNat x2) (Int.toNat (len s_2) - Int.toNat x2)),(5,I x6.2.1)] [none,some ⟨0,4,u9.2.map aa⟩] 3):=by
   intro u9 hu
   replace h:=hy92 u9 hu
   refine cq 6 [5] [I (ac (x6.2.1+1))] 51 ?_
   refine dm ?_
   exact rg [0,3,4,5] [52,2] (ih _ _ h hr hn :)
  have r9:∀r',y9=.inl r'→∀st,CX s_2 r' st→Q st:=fun r' e st hq=>hr r' (hy91 r' e) st hq
  replace h:=hy9
  refine sq h ?_ ?_<;>intro h
  ·refine cq 6 [45,46,47,48] [.hs 2 0 [] 4 0 (x6.2.2.map aa).length,I x6.1,.hs 2 0 [] 4 (0+Int.toNat x2) (Int.toNat (len s_2) - Int.toNat x2),I x6.2.1] 291 ?_
   obtain⟨e10,he10,h⟩:=bS h
   refine oq 307 (.hp 2 0 [] 4 ((0+Int.toNat x2)+Int.toNat x6.2.1) 0) rfl (ah rfl rfl rfl (yd (xs:=x6.2.2) rfl rfl he10)) ?_
   refine oq 323 (aa e10) rfl (bm rfl (bZ (path:=[]) rfl rfl rfl aw (tX (f:=aa) (xs:=x6.2.2) he10) rfl rfl rfl)) ?_
   obtain⟨e11,he11,h⟩:=bS h
   refine oq 339 (.hp 2 0 [] 4 (0+Int.toNat x6.1) 0) rfl (ah rfl rfl rfl (aL (f:=aa) (xs:=x6.2.2) rfl rfl rfl he11)) ?_
   refine o0 355 rfl rfl (dl rfl rfl (ch (path:=[]) (pl:=true) (e':=aa e10) (es2':=(aK x6.2.2 x6.1 e10).map aa) rfl (ap rfl) rfl rfl rfl aw (aB (f:=aa) (xs:=x6.2.2) he11) rfl rfl rfl (eK (f:=aa) (xs:=x6.2.2) (y:=e10)) cl 0 rfl)) ?_
   try rw[←ep (f:=aa) (xs:=x6.2.2) (i:=x6.1) (z:=e10)]
   refine cq 6 [3] [I (ac (x6.1+1))] 403 ?_
   exact rg [0,3,4,5] [404,2] (j9 _ (al h) :)
  ·refine aq 1 ?_
   exact rg [0,3,4,5] [228,2] (j9 _ (al h) :)
 ·refine aq 1 ?_
  exact rg [0,3] [68,2] (hn _ (al h) :) (hk:=hK)
theorem LJ (s_2:List Event):cf vS 1 (CX s_2) (cL (cL (cR (cL (cR (cR Ji)))))) 0 (qo s_2) (fun u=>(sO 61 [(0,.hs 2 0 [] 4 0 (u.map aa).length)] [none,some ⟨0,4,u.map aa⟩] 3)) fun x2=>(sO 61 [(0,.hs 2 0 [] 4 0 (s_2.map aa).length),(3,I x2)] [none,some ⟨0,4,s_2.map aa⟩] 3):=eu (yN s_2) fun {Q K} hK self ih x2 y h hr hn=>by
 unfold kX at h
 refine cq 5 [10,11] [I x2,.hs 2 0 [] 4 0 (s_2.map aa).length] 35 ?_
 refine oq 51 (I (len s_2)) rfl (cg rfl rfl rfl (kd (f:=aa) (xs:=s_2) rfl rfl)) ?_
 refine cq 2 [13] [B (decide (x2<(len s_2)))] 67 ?_
 refine sq h ?_ ?_<;>intro h
 ·refine aq 1 ?_
  refine aq 3 ?_
  refine cn [0,0,3,7,0,0,32,112,240,511] rfl (by decide +kernel) ?_
  refine dk 2 [17,16] [I x2,.hs 2 0 [] 4 0 (s_2.map aa).length] ?_
  obtain⟨e3,he3,h⟩:=bS h
  refine dq [2] [] (.hp 2 0 [] 4 (0+Int.toNat x2) 0) rfl (ah rfl rfl rfl (aL (f:=aa) (xs:=s_2) rfl rfl rfl he3)) ?_
  refine dq [2] [] (aa e3) rfl (bm rfl (bZ (path:=[]) rfl rfl rfl aw (aB (f:=aa) (xs:=s_2) he3) rfl rfl rfl)) ?_
  refine dk 3 [22,21,20] [I (ac (x2 - 1)),I x2,.hs 2 0 [] 4 0 (s_2.map aa).length] ?_
  obtain⟨e4,he4,h⟩:=bS h
  refine dq [2] [] (.hp 2 0 [] 4 (0+Int.toNat (ac (x2 - 1))) 0) rfl (ah rfl rfl rfl (aL (f:=aa) (xs:=s_2) rfl rfl rfl he4)) ?_
  refine dq [2] [] (aa e4) rfl (bm rfl (bZ (path:=[]) rfl rfl rfl aw (aB (f:=aa) (xs:=s_2) he4) rfl rfl rfl)) ?_
  refine dq [] [] (B (e3.Day==e4.Day&&(e3.Party==e4.Party&&(e3.Action==e4.Action&&(e3.Amount==e4.Amount&&true))))) rfl (xT rfl rfl (Sq (b:=(e3.Day==e4.Day&&(e3.Party==e4.Party&&(e3.Action==e4.Action&&(e3.Amount==e4.Amount&&true))))) rfl rfl rfl rfl)) ?_
  refine de 227 rfl rfl ?_
  refine sq h ?_ ?_<;>intro h
  ·refine cq 4 [26,27] [.hs 2 0 [] 4 0 (s_2.map aa).length,I x2] 259 ?_
   obtain⟨s5,hs5,h⟩:=bS h
   refine oq 275 (.hs 2 0 [] 4 (0+Int.toNat x2) (Int.toNat (len s_2) - Int.toNat x2)) rfl (gI rfl rfl rfl rfl (lO (f:=aa) (xs:=s_2) rfl rfl rfl rfl (Gx rfl) hs5)) ?_
   refine cq 8 [4,5] [.hs 2 0 [] 4 (0+Int.toNat x2) (Int.toNat (len s_2) - Int.toNat x2),I (1)] 307 ?_
   obtain⟨y15,hy15,hy151,hy152⟩:=bL h
   refine bO rfl ?_
   refine rg [0,3,4,5] [308,2] (LK s_2 x2 rfl (x2,1,s_2) _ hy15 (fun r' e st hq=>hr r' (hy151 r' e) st hq) fun u15 hu=>?_)
   replace h:=hy152 u15 hu
   refine cq 4 [54,55] [.hs 2 0 [] 4 0 (u15.2.map aa).length,I u15.1] 35 ?_
   obtain⟨s16,hs16,h⟩:=bS h
   refine oq 51 (.hs 2 0 [] 4 (0+Int.toNat u15.1) (Int.toNat (len u15.2) - Int.toNat u15.1)) rfl (gI rfl rfl rfl rfl (lO (f:=aa) (xs:=u15.2) rfl rfl rfl rfl (Gx rfl) hs16)) ?_
   obtain⟨k17,hk17,h⟩:=bS h
   refine o0 67 rfl rfl (ND rfl rfl (W2 (f:=aa) (xs:=u15.2) (z0:=(Event.mk 0 0 [] 0)) rfl rfl rfl rfl (by decide) iW hk17)) ?_
   try rw[show (u15.2.map aa).length=(k17.map aa).length from Nz hk17]
   refine cq 5 [57,58] [.hs 2 0 [] 4 0 (k17.map aa).length,I u15.1] 99 ?_
   obtain⟨s18,hs18,h⟩:=bS h
   refine oq 115 (.hs 2 0 [] 4 (0+Int.toNat (0)) (Int.toNat u15.1 - Int.toNat (0))) rfl (gI rfl rfl rfl rfl (lO (f:=aa) (xs:=k17) rfl rfl rfl rfl rfl hs18)) ?_
   refine cq 2 [2] [.hs 2 0 [] 4 (0+Int.toNat (0)) (Int.toNat u15.1 - Int.toNat (0))] 131 ?_
   obtain⟨p19,hp19,h⟩:=bS h
   exact bR rfl (hr _ (al h) _ ⟨_,fin (vs:=[.hs 2 0 [] 4 (0+Int.toNat (0)) (Int.toNat u15.1 - Int.toNat (0))]) rfl (d6 (gt rfl (Ke (path:=[]) (f:=aa) (xs:=k17) rfl rfl aw hp19 rfl o9)) cX) rfl (fy rfl (kJ rfl) d4),oZ dX⟩)
  ·refine aq 1 ?_
   refine cq 6 [3] [I (ac (x2+1))] 275 ?_
   refine dm ?_
   exact rg [0,3] [276,2] (ih _ _ h hr hn :)
 ·refine aq 1 ?_
  exact rg [0] [68,2] (hn _ (al h) :) (hk:=hK)
theorem Ue (s_2:List Event)(r:(List Event))(h:AC s_2=some r):bN vS Tryz.f81 [true] 1 (CW s_2) (CY r):=by
 show Run _ _ (CX s_2 r) [.code Ji] _
 refine rI 61 [(0,.hs 1 0 [] 4 0 (s_2.map aa).length)] [(1,some ⟨0,4,s_2.map aa⟩)] 2 ?_
 unfold AC at h
 refine cq 8 [6] [.hs 1 0 [] 4 0 (s_2.map aa).length] 34 ?_
 refine oq 50 (I (len s_2)) rfl (cg rfl rfl rfl (kd (f:=aa) (xs:=s_2) rfl rfl)) ?_
 refine cq 2 [8] [B (decide ((len s_2)<2))] 66 ?_
 refine sq h ?_ ?_<;>intro h
 ·refine cq 5 [2] [.hs 1 0 [] 4 0 (s_2.map aa).length] 98 ?_
  obtain rfl:=sI h
  exact bR rfl ⟨_,fin (vs:=[.hs 1 0 [] 4 0 (s_2.map aa).length]) rfl (d6 (gt rfl (eg rfl rfl)) cX) rfl (fy rfl (kJ rfl) d4),oZ dX⟩
 ·refine aq 1 ?_
  refine cq 6 [3] [I (1)] 82 ?_
  obtain⟨y20,hy20,hy201,hy202⟩:=bJ h
  refine bO rfl ?_
  refine rg [0,3] [83,1] (LJ s_2 rfl 1 _ hy20 (fun r' e st hq=>by rw[hy201 r' e] at hq;exact hq) fun u20 hu=>?_)
  replace h:=hy202 u20 hu
  refine cq 5 [2] [.hs 2 0 [] 4 0 (u20.map aa).length] 35 ?_
  obtain rfl:=sI h
  exact bR rfl ⟨_,fin (vs:=[.hs 2 0 [] 4 0 (u20.map aa).length]) rfl (d6 (gt rfl (eg rfl rfl)) cX) rfl (fy rfl (kJ rfl) d4),oZ dX⟩
theorem QN {G:cD}:ct G 81 AD:=KE (sb bP) (wN (by
 intro t ht
 simp only[List.mem_cons,List.not_mem_nil,or_false] at ht
 rcases ht with rfl
 all_goals kernel_rfl)) cJ Tryz.func81 (n:=1) (m:=1) ⟨rfl,rfl,by decide⟩ (fun _=>⟨rfl,rfl⟩) (fun a r h=>Ue a r h)
def Iz:Contract→List V:=oA bn
def IA (r:(List Event)):V×List V:=(.usl 4 (r.map aa),[])
noncomputable def Gm :=bA [false] Iz IA fun x=>J6 x
theorem aa4 {c_1:Contract}{r}(h:J6 c_1=some r):Gm.F (Iz c_1)=some (IA r):=aV (aW co) h
noncomputable def WJ :=aQ Tryz.f51
noncomputable def OC :=cI [(79,AJ),(81,AD)]
def WI (x:Contract)(r:(List Event)):St→Prop:=QF OC Tryz.f51 [false] (Iz x) (IA r)
theorem OD (c_1:Contract):cf OC 0 (WI c_1) (cL (cL (cR (cL (cR (cR WJ)))))) 0 (nM c_1) (fun u=>(sT 29 [(3,.hs 1 0 [] 4 0 (u.map aa).length)] [⟨0,4,u.map aa⟩] 2)) fun x2=>(sT 29 [(3,.hs 1 0 [] 4 0 (x2.2.map aa).length),(8,.isl false (c_1.Clauses.map aA)),(9,I (len c_1.Clauses)),(10,I x2.1)] [⟨0,4,x2.2.map aa⟩] 2):=eu (E3 c_1) fun {Q K} hK self ih x2 y h hr hn=>by
 unfold mR at h
 refine cq 5 [11] [B (decide (x2.1<(len c_1.Clauses)))] 18 ?_
 refine sq h ?_ ?_<;>intro h
 ·refine aq 1 ?_
  refine aq 4 ?_
  obtain⟨e3,he3,h⟩:=bS h
  refine oq 34 (.iptr (aG e3) 0) rfl (ah rfl rfl rfl (cp rfl rfl rfl rfl he3)) ?_
  refine ck 2 [5,13] [] [50] [] [.hp 50 0 [] 12 0 0,aG e3] [some ⟨0,12,[.agg [str ([]),I (0),I (0),str ([]),I (0),I (0),I (0),str ([]),I (0),.isl true [],I (0),str ([])]]⟩] 66 (by kernel_rfl) ?_
  refine gJ 50 [.agg [str ([]),I (0),I (0),str ([]),I (0),I (0),I (0),str ([]),I (0),.usl 4 (([]).map ai),I (0),str ([])]] rfl rfl (aN (iH (aN (.refl _) (aN (.refl _) (aN (.refl _) (aN (.refl _) (aN (.refl _) (aN (.refl _) (aN (.refl _) (aN (.refl _) (aN (.refl _) (aN (.nil _) (aN (.refl _) (aN (.refl _) fp))))))))))))) fp) ?_
  refine ck 11 [14,21] [] [50] [] [.hs 1 0 [] 4 0 (x2.2.map aa).length,.agg [I (0),I e3.Party,str e3.Action,I e3.Amount]] [some ⟨2,12,[aG e3]⟩] 210 (by kernel_rfl) ?_
  refine oq 226 (.hs 210 0 [] 4 0 1) rfl (ec rfl (jh (f:=I) (xs:=[]) (z:=.agg [I (0),I (0),str ([]),I (0)]) (es:=[.agg [I (0),I e3.Party,str e3.Action,I e3.Amount]]) (ws:=[.agg [I (0),I e3.Party,str e3.Action,I e3.Amount]]) rfl rfl rfl (by decide) rfl (dt rfl) rfl)) ?_
  obtain⟨a4,ha4,h⟩:=bS h
  refine oq 242 (.hs 226 0 [] 4 0 (a4.map aa).length) rfl (jq rfl rfl rfl rfl rfl (mu (path:=[]) (f:=aa) (xs:=x2.2) (ys:=[(Event.mk 0 e3.Party e3.Action e3.Amount)]) rfl rfl (qB rfl rfl rfl) rfl rfl rfl aw rfl (by decide) jj ha4 rfl o9)) ?_
  refine cq 7 [3,10] [.hs 226 0 [] 4 0 (a4.map aa).length,I (ac (x2.1+1))] 290 ?_
  refine dm ?_
  exact rf [3,8,9,10] [226] (ih _ _ h hr hn :)
 ·refine aq 1 ?_
  exact rf [3] [1] (hn _ (al h) :) (hk:=hK)
theorem XJ (c_1:Contract)(r:(List Event))(h:J6 c_1=some r):bN OC Tryz.f51 [false] 0 (Iz c_1) (IA r):=by
 show Run _ _ (WI c_1 r) [.code WJ] _
 refine rI 29 [(0,ak c_1)] [] 1 ?_
 unfold J6 at h
 refine ck 7 [1] [] [1] [] [.hp 1 0 [] 2 0 0] [some ⟨0,2,[ak c_1]⟩] 33 (by kernel_rfl) ?_
 refine oq 49 (.hs 33 0 [] 4 0 0) rfl (ec rfl (jh (f:=I) (xs:=[]) (z:=.agg [I (0),I (0),str ([]),I (0)]) (es:=[]) (ws:=[]) rfl rfl rfl (by decide) rfl (dt rfl) rfl)) ?_
 refine cq 7 [3,8] [.hs 33 0 [] 4 0 0,.isl false (c_1.Clauses.map aA)] 97 ?_
 refine oq 113 (I (len c_1.Clauses)) rfl (cg rfl rfl rfl (du rfl)) ?_
 refine cq 3 [10] [I (0)] 129 ?_
 obtain⟨y5,hy5,hy51,hy52⟩:=bJ h
 refine bO rfl ?_
 refine rf [3,8,9,10] [33] (OD c_1 rfl (0,[]) _ hy5 (fun r' e st hq=>by rw[hy51 r' e] at hq;exact hq) fun u5 hu=>?_)
 replace h:=hy52 u5 hu
 refine cq 3 [25] [.hs 1 0 [] 4 0 (u5.map aa).length] 18 ?_
 obtain⟨r6,hr6,h⟩:=bS h
 obtain⟨g7,h⟩:=gG h
 refine oq 34 (.tup []) rfl (bC rfl rfl (bW rfl rfl rfl (gm (ge rfl (eP (path:=[]) rfl rfl aw rfl)) (ba (bl rfl) cS)) (Zi hr6) (.inr rfl) (fi rfl rfl rfl rfl dE) rfl rfl rfl)) ?_
 try rw[eU (f:=aa) (xs:=u5) (ys:=r6) g7]
 refine cq 4 [27] [.hs 1 0 [] 4 0 (r6.map aa).length] 50 ?_
 obtain⟨r8,hr8,h⟩:=bS h
 refine oq 66 (.hs 50 0 [] 4 0 (r8.map aa).length) rfl (bC rfl rfl (bW rfl rfl rfl (gm (ge rfl (eP (path:=[]) rfl rfl aw rfl)) cS) (Zc hr8) (.inr rfl) (fi rfl rfl rfl kB dE) rfl rfl rfl)) ?_
 refine cq 2 [2] [.hs 50 0 [] 4 0 (r8.map aa).length] 82 ?_
 obtain rfl:=sI h
 exact bR rfl ⟨_,fin (vs:=[.hs 50 0 [] 4 0 (r8.map aa).length]) rfl (d6 (gt rfl (eg rfl rfl)) cX) rfl (bH d4),dX⟩
theorem Vg {G:cD}:ct G 51 Gm:=gT 1 0 (bb QY (bb QN bP)) cJ Tryz.func51 (fun a r h=>XJ a r h)
def Ie:Contract→List V:=oA bn
def Ig (r:(List Event)×Bool):V×List V:=(.tup [.usl 4 (r.1.map aa),B r.2],[])
noncomputable def Gd :=bA [false] Ie Ig fun x=>G3 x
theorem WA {c_1:Contract}{r}(h:G3 c_1=some r):Gd.F (Ie c_1)=some (Ig r):=aV (aW co) h
noncomputable def aaS :=aQ Tryz.f22
noncomputable def Wz :=cI [(34,Gc),(51,Gm)]
def aaR (x:Contract)(r:(List Event)×Bool):St→Prop:=QF Wz Tryz.f22 [false] (Ie x) (Ig r)
theorem Xy (c_1:Contract)(r:(List Event)×Bool)(h:G3 c_1=some r):bN Wz Tryz.f22 [false] 0 (Ie c_1) (Ig r):=by
 show Run _ _ (aaR c_1 r) [.code aaS] _
 refine rI 9 [(0,ak c_1)] [] 1 ?_
 unfold G3 at h
 refine ck 10 [1,4] [] [1] [] [.hp 1 0 [] 2 0 0,ak c_1] [some ⟨0,2,[ak c_1]⟩] 65 (by kernel_rfl) ?_
 obtain⟨r2,hr2,h⟩:=bS h
 refine oq 81 (B r2) rfl (cP (aaQ hr2)) ?_
 refine cq 2 [6] [B (!r2)] 97 ?_
 refine sq h ?_ ?_<;>intro h
 ·refine cq 5 [2,3] [.isl true [],B false] 129 ?_
  refine N1 2 0 4 145 (.hs 129 0 [] 4 0 0) rfl rfl rfl rfl rfl ?_
  obtain rfl:=sI h
  exact bR rfl ⟨_,fin (vs:=[.hs 129 0 [] 4 0 0,B false]) rfl (d6 (gt rfl (eg (k:=0) (es:=[]) rfl rfl)) (d6 (ap rfl) cX)) rfl (bH d4),dX⟩
 ·refine aq 1 ?_
  refine cq 3 [7] [ak c_1] 113 ?_
  obtain⟨r3,hr3,h⟩:=bS h
  refine oq 129 (.hs 113 0 [] 4 0 (r3.map aa).length) rfl (cP (aa4 hr3)) ?_
  refine cq 3 [2,3] [.hs 113 0 [] 4 0 (r3.map aa).length,B true] 161 ?_
  obtain rfl:=sI h
  exact bR rfl ⟨_,fin (vs:=[.hs 113 0 [] 4 0 (r3.map aa).length,B true]) rfl (d6 (gt rfl (eg rfl rfl)) (d6 (ap rfl) cX)) rfl (bH d4),dX⟩
theorem U7 {G:cD}:ct G 22 Gd:=gT 1 0 (bb U6 (bb Vg bP)) cJ Tryz.func22 (fun a r h=>Xy a r h)
def B4:(Event×Event)→List V:=cA aa (oA aa)
def B5 (r:Bool):V×List V:=(B r,[])
noncomputable def zP :=bA [false,false] B4 B5 fun x=>vB x.1 x.2
theorem PN {a_1:Event}{b_2:Event}{r}(h:vB a_1 b_2=some r):zP.F (B4 (a_1,b_2))=some (B5 r):=aV (aY ca (aW ca)) h
noncomputable def YD :=aQ Tryz.f52
noncomputable def PM :=cI []
def YC (x:Event×Event)(r:Bool):St→Prop:=QF PM Tryz.f52 [false,false] (B4 x) (B5 r)
theorem TH (a_1:Event)(b_2:Event)(r:Bool)(h:vB a_1 b_2=some r):bN PM Tryz.f52 [false,false] 0 (B4 (a_1,b_2)) (B5 r):=by
 show Run _ _ (YC (a_1,b_2) r) [.code YD] _
 refine rI 25 [(0,aa a_1),(1,aa b_2)] [] 1 ?_
 unfold vB at h
 refine ck 15 [2,3,9] [] [1,17] [] [.hp 1 0 [] 4 0 0,.hp 17 0 [] 4 0 0,B (a_1.Day != b_2.Day)] [some ⟨0,4,[aa a_1]⟩,some ⟨0,4,[aa b_2]⟩] 129 (by kernel_rfl) ?_
 refine sq h ?_ ?_<;>intro h
 ·refine cq 4 [4] [B false] 145 ?_
  obtain rfl:=sI h
  exact rP [B false]
 ·refine aq 1 ?_
  refine cq 9 [14] [B (a_1.Party != b_2.Party)] 209 ?_
  refine sq h ?_ ?_<;>intro h
  ·refine cq 4 [4] [B false] 225 ?_
   obtain rfl:=sI h
   exact rP [B false]
  ·refine aq 1 ?_
   refine cq 9 [19] [B (!(a_1.Action==b_2.Action))] 289 ?_
   refine sq h ?_ ?_<;>intro h
   ·refine cq 4 [4] [B false] 305 ?_
    obtain rfl:=sI h
    exact rP [B false]
   ·refine aq 1 ?_
    refine cq 9 [24] [B (a_1.Amount != b_2.Amount)] 369 ?_
    refine sq h ?_ ?_<;>intro h
    ·refine cq 4 [4] [B false] 385 ?_
     obtain rfl:=sI h
     exact rP [B false]
    ·refine aq 1 ?_
     refine cq 4 [4] [B true] 385 ?_
     obtain rfl:=sI h
     exact rP [B true]
theorem PO {G:cD}:ct G 52 zP:=gT 2 0 bP cJ Tryz.func52 (fun a r h=>TH a.1 a.2 r h)
def B6:((List Event)×(List Event))→List V:=cA (jX aa) (oA (jX aa))
def B7 (r:Bool):V×List V:=(B r,[])
noncomputable def zQ :=bA [false,false] B6 B7 fun x=>ur x.1 x.2
theorem I0 {a_1:List Event}{b_2:List Event}{r}(h:ur a_1 b_2=some r):zQ.F (B6 (a_1,b_2))=some (B7 r):=aV (aY (ek ca) (aW (ek ca))) h
noncomputable def PQ :=aQ Tryz.f23
noncomputable def IZ :=cI [(52,zP)]
def PP (x:(List Event)×(List Event))(r:Bool):St→Prop:=QF IZ Tryz.f23 [false,false] (B6 x) (B7 r)
theorem Lv (a_1:List Event)(b_2:List Event):cf IZ 0 (PP (a_1,b_2)) (cL (cL (cR (cL (cR (cR PQ)))))) 0 (ta a_1 b_2) (fun u=>(sT 27 [] [] 1)) fun x3=>(sT 27 [(0,.isl false (a_1.map aa)),(1,.isl false (b_2.map aa)),(5,I x3)] [] 1):=eu (yz a_1 b_2) fun {Q K} hK self ih x3 y h hr hn=>by
 unfold mW at h
 refine cq 5 [11,12] [I x3,.isl false (a_1.map aa)] 33 ?_
 refine oq 49 (I (len a_1)) rfl (cg rfl rfl rfl (du rfl)) ?_
 refine cq 2 [14] [B (decide (x3<(len a_1)))] 65 ?_
 refine sq h ?_ ?_<;>intro h
 ·refine aq 1 ?_
  refine aq 3 ?_
  refine cn [0,0,3,7,0,0,48,112,255,511] rfl (by decide +kernel) ?_
  refine dk 2 [18,17] [I x3,.isl false (a_1.map aa)] ?_
  obtain⟨e4,he4,h⟩:=bS h
  refine dq [] [] (.iptr (aa e4) 0) rfl (ah rfl rfl rfl (cp rfl rfl rfl rfl he4)) ?_
  refine dq [] [] (aa e4) rfl (bm rfl rfl) ?_
  refine dk 2 [22,21] [I x3,.isl false (b_2.map aa)] ?_
  obtain⟨e5,he5,h⟩:=bS h
  refine dq [] [] (.iptr (aa e5) 0) rfl (ah rfl rfl rfl (cp rfl rfl rfl rfl he5)) ?_
  refine dq [] [] (aa e5) rfl (bm rfl rfl) ?_
  obtain⟨r6,hr6,h⟩:=bS h
  refine dq [] [] (B r6) rfl (cP (PN hr6)) ?_ (dK rfl rfl rfl rfl (ba (bl rfl) (ba (bl rfl) cS)) (PN hr6) (.inr rfl) rfl)
  refine dk 1 [26] [B (!r6)] ?_
  refine de 225 rfl rfl ?_
  refine sq h ?_ ?_<;>intro h
  ·refine cq 4 [4] [B false] 241 ?_
   exact bR rfl (hr _ (al h) _ (qp [B false]))
  ·refine aq 1 ?_
   refine cq 6 [5] [I (ac (x3+1))] 273 ?_
   refine dm ?_
   exact rf [0,1,5] [] (ih _ _ h hr hn :)
 ·refine aq 1 ?_
  exact rf [] [] (hn _ (al h) :) (hk:=hK)
theorem TJ (a_1:List Event)(b_2:List Event)(r:Bool)(h:ur a_1 b_2=some r):bN IZ Tryz.f23 [false,false] 0 (B6 (a_1,b_2)) (B7 r):=by
 show Run _ _ (PP (a_1,b_2) r) [.code PQ] _
 refine rI 27 [(0,.isl false (a_1.map aa)),(1,.isl false (b_2.map aa))] [] 1 ?_
 unfold ur at h
 refine cq 8 [6] [.isl false (a_1.map aa)] 33 ?_
 refine oq 49 (I (len a_1)) rfl (cg rfl rfl rfl (du rfl)) ?_
 refine cq 1 [8] [.isl false (b_2.map aa)] 65 ?_
 refine oq 81 (I (len b_2)) rfl (cg rfl rfl rfl (du rfl)) ?_
 refine cq 2 [10] [B ((len a_1) != (len b_2))] 97 ?_
 refine sq h ?_ ?_<;>intro h
 ·refine cq 4 [4] [B false] 113 ?_
  obtain rfl:=sI h
  exact rP [B false]
 ·refine aq 1 ?_
  refine cq 6 [5] [I (0)] 113 ?_
  obtain⟨y7,hy7,hy71,hy72⟩:=bJ h
  refine bO rfl ?_
  refine rf [0,1,5] [] (Lv a_1 b_2 rfl 0 _ hy7 (fun r' e st hq=>by rw[hy71 r' e] at hq;exact hq) fun u7 hu=>?_)
  replace h:=hy72 u7 hu
  refine cq 4 [4] [B true] 17 ?_
  obtain rfl:=sI h
  exact rP [B true]
theorem PR {G:cD}:ct G 23 zQ:=gT 2 0 (bb PO bP) cJ Tryz.func23 (fun a r h=>TJ a.1 a.2 r h)
def B8:((List ae)×(List ae))→List V:=cA (jX str) (oA (jX str))
def B9 (r:Bool):V×List V:=(B r,[])
noncomputable def zS :=bA [false,false] B8 B9 fun x=>zR x.1 x.2
theorem YE {a_1:List ae}{b_2:List ae}{r}(h:zR a_1 b_2=some r):zS.F (B8 (a_1,b_2))=some (B9 r):=aV (aY (ek bT) (aW (ek bT))) h
noncomputable def PT :=aQ Tryz.f38
noncomputable def I1 :=cI []
def PS (x:(List ae)×(List ae))(r:Bool):St→Prop:=QF I1 Tryz.f38 [false,false] (B8 x) (B9 r)
theorem Lw (a_1:List ae)(b_2:List ae):cf I1 0 (PS (a_1,b_2)) (cL (cL (cR (cL (cR (cR PT)))))) 0 (tc a_1 b_2) (fun u=>(sT 26 [] [] 1)) fun x3=>(sT 26 [(0,.isl false (a_1.map str)),(1,.isl false (b_2.map str)),(5,I x3)] [] 1):=eu (yA a_1 b_2) fun {Q K} hK self ih x3 y h hr hn=>by
 unfold mX at h
 refine cq 5 [11,12] [I x3,.isl false (a_1.map str)] 33 ?_
 refine oq 49 (I (len a_1)) rfl (cg rfl rfl rfl (du rfl)) ?_
 refine cq 2 [14] [B (decide (x3<(len a_1)))] 65 ?_
 refine sq h ?_ ?_<;>intro h
 ·refine aq 1 ?_
  refine aq 3 ?_
  refine cn [0,0,3,7,0,0,48,112,255] rfl (by decide +kernel) ?_
  refine dk 2 [18,17] [I x3,.isl false (a_1.map str)] ?_
  obtain⟨e4,he4,h⟩:=bS h
  refine dq [] [] (.iptr (str e4) 0) rfl (ah rfl rfl rfl (cp rfl rfl rfl rfl he4)) ?_
  refine dq [] [] (str e4) rfl (bm rfl rfl) ?_
  refine dk 2 [22,21] [I x3,.isl false (b_2.map str)] ?_
  obtain⟨e5,he5,h⟩:=bS h
  refine dq [] [] (.iptr (str e5) 0) rfl (ah rfl rfl rfl (cp rfl rfl rfl rfl he5)) ?_
  refine dq [] [] (str e5) rfl (bm rfl rfl) ?_
  refine dk 1 [25] [B (!(e4==e5))] ?_
  refine de 209 rfl rfl ?_
  refine sq h ?_ ?_<;>intro h
  ·refine cq 4 [4] [B false] 225 ?_
   exact bR rfl (hr _ (al h) _ (qp [B false]))
  ·refine aq 1 ?_
   refine cq 6 [5] [I (ac (x3+1))] 257 ?_
   refine dm ?_
   exact rf [0,1,5] [] (ih _ _ h hr hn :)
 ·refine aq 1 ?_
  exact rf [] [] (hn _ (al h) :) (hk:=hK)
theorem TK (a_1:List ae)(b_2:List ae)(r:Bool)(h:zR a_1 b_2=some r):bN I1 Tryz.f38 [false,false] 0 (B8 (a_1,b_2)) (B9 r):=by
 show Run _ _ (PS (a_1,b_2) r) [.code PT] _
 refine rI 26 [(0,.isl false (a_1.map str)),(1,.isl false (b_2.map str))] [] 1 ?_
 unfold zR at h
 refine cq 8 [6] [.isl false (a_1.map str)] 33 ?_
 refine oq 49 (I (len a_1)) rfl (cg rfl rfl rfl (du rfl)) ?_
 refine cq 1 [8] [.isl false (b_2.map str)] 65 ?_
 refine oq 81 (I (len b_2)) rfl (cg rfl rfl rfl (du rfl)) ?_
 refine cq 2 [10] [B ((len a_1) != (len b_2))] 97 ?_
 refine sq h ?_ ?_<;>intro h
 ·refine cq 4 [4] [B false] 113 ?_
  obtain rfl:=sI h
  exact rP [B false]
 ·refine aq 1 ?_
  refine cq 6 [5] [I (0)] 113 ?_
  obtain⟨y6,hy6,hy61,hy62⟩:=bJ h
  refine bO rfl ?_
  refine rf [0,1,5] [] (Lw a_1 b_2 rfl 0 _ hy6 (fun r' e st hq=>by rw[hy61 r' e] at hq;exact hq) fun u6 hu=>?_)
  replace h:=hy62 u6 hu
  refine cq 4 [4] [B true] 17 ?_
  obtain rfl:=sI h
  exact rP [B true]
theorem PU {G:cD}:ct G 38 zS:=gT 2 0 bP cJ Tryz.func38 (fun a r h=>TK a.1 a.2 r h)
def E5:(Condition×Condition)→List V:=cA bB (oA bB)
def E6 (r:Bool):V×List V:=(B r,[])
noncomputable def uG (bG:(Condition×Condition)→Option Bool):Ent:=bA [false,false] E5 E6 bG
theorem Ka (bG:(Condition×Condition)→Option Bool){x}{r}(h:bG x=some r):(uG bG).F (E5 x)=some (E6 r):=aV (aY dH (aW dH)) h
def B0:((List Condition)×(List Condition))→List V:=cA (jX aF) (oA (jX aF))
def B1 (r:Bool):V×List V:=(B r,[])
noncomputable def zM (bG:(Condition×Condition)→Option Bool):Ent:=bA [false,false] B0 B1 fun x=>vA bG x.1 x.2
theorem Yz (bG:(Condition×Condition)→Option Bool){a_1:List Condition}{b_2:List Condition}{r}(h:vA bG a_1 b_2=some r):(zM bG).F (B0 (a_1,b_2))=some (B1 r):=aV (aY (ek fH) (aW (ek fH))) h
noncomputable def PH :=aQ Tryz.f116
noncomputable def IY (bG:(Condition×Condition)→Option Bool):Env:=cI [(98,(uG bG))]
def PG (bG:(Condition×Condition)→Option Bool)(x:(List Condition)×(List Condition))(r:Bool):St→Prop:=QF (IY bG) Tryz.f116 [false,false] (B0 x) (B1 r)
theorem Lu (bG:(Condition×Condition)→Option Bool)(a_1:List Condition)(b_2:List Condition):cf (IY bG) 0 (PG bG (a_1,b_2)) (cL (cL (cR (cL (cR (cR PH)))))) 0 (ql bG a_1 b_2) (fun u=>(sT 27 [] [] 1)) fun x3=>(sT 27 [(0,.isl false (a_1.map aF)),(1,.isl false (b_2.map aF)),(5,I x3)] [] 1):=eu (yy bG a_1 b_2) fun {Q K} hK self ih x3 y h hr hn=>by
 unfold kO at h
 refine cq 5 [11,12] [I x3,.isl false (a_1.map aF)] 33 ?_
 refine oq 49 (I (len a_1)) rfl (cg rfl rfl rfl (du rfl)) ?_
 refine cq 2 [14] [B (decide (x3<(len a_1)))] 65 ?_
 refine sq h ?_ ?_<;>intro h
 ·refine aq 1 ?_
  refine aq 3 ?_
  refine cn [0,0,3,7,0,0,48,112,255,511] rfl (by decide +kernel) ?_
  refine dk 2 [18,17] [I x3,.isl false (a_1.map aF)] ?_
  obtain⟨e4,he4,h⟩:=bS h
  refine dq [] [] (.iptr (ao e4) 0) rfl (ah rfl rfl rfl (cp rfl rfl (dC e4) rfl he4)) ?_
  refine dq [] [] (ao e4) rfl (bm rfl rfl) ?_
  refine dk 2 [22,21] [I x3,.isl false (b_2.map aF)] ?_
  obtain⟨e5,he5,h⟩:=bS h
  refine dq [] [] (.iptr (ao e5) 0) rfl (ah rfl rfl rfl (cp rfl rfl (dC e5) rfl he5)) ?_
  refine dq [] [] (ao e5) rfl (bm rfl rfl) ?_
  obtain⟨r6,hr6,h⟩:=bS h
  refine dq [] [] (B r6) rfl (bC rfl rfl (bW rfl rfl rfl (ba (bl rfl) (ba (bl rfl) cS)) (Ka bG hr6) (.inr rfl) dE rfl rfl rfl)) ?_ (dK rfl rfl rfl rfl (ba (bl rfl) (ba (bl rfl) cS)) (Ka bG hr6) (.inr rfl) rfl)
  refine dk 1 [26] [B (!r6)] ?_
  refine de 225 rfl rfl ?_
  refine sq h ?_ ?_<;>intro h
  ·refine cq 4 [4] [B false] 241 ?_
   exact bR rfl (hr _ (al h) _ (qp [B false]))
  ·refine aq 1 ?_
   refine cq 6 [5] [I (ac (x3+1))] 273 ?_
   refine dm ?_
   exact rf [0,1,5] [] (ih _ _ h hr hn :)
 ·refine aq 1 ?_
  exact rf [] [] (hn _ (al h) :) (hk:=hK)
theorem TF (bG:(Condition×Condition)→Option Bool)(a_1:List Condition)(b_2:List Condition)(r:Bool)(h:vA bG a_1 b_2=some r):bN (IY bG) Tryz.f116 [false,false] 0 (B0 (a_1,b_2)) (B1 r):=by
 show Run _ _ (PG bG (a_1,b_2) r) [.code PH] _
 refine rI 27 [(0,.isl false (a_1.map aF)),(1,.isl false (b_2.map aF))] [] 1 ?_
 unfold vA at h
 refine cq 8 [6] [.isl false (a_1.map aF)] 33 ?_
 refine oq 49 (I (len a_1)) rfl (cg rfl rfl rfl (du rfl)) ?_
 refine cq 1 [8] [.isl false (b_2.map aF)] 65 ?_
 refine oq 81 (I (len b_2)) rfl (cg rfl rfl rfl (du rfl)) ?_
 refine cq 2 [10] [B ((len a_1) != (len b_2))] 97 ?_
 refine sq h ?_ ?_<;>intro h
 ·refine cq 4 [4] [B false] 113 ?_
  obtain rfl:=sI h
  exact rP [B false]
 ·refine aq 1 ?_
  refine cq 6 [5] [I (0)] 113 ?_
  obtain⟨y7,hy7,hy71,hy72⟩:=bJ h
  refine bO rfl ?_
  refine rf [0,1,5] [] (Lu bG a_1 b_2 rfl 0 _ hy7 (fun r' e st hq=>by rw[hy71 r' e] at hq;exact hq) fun u7 hu=>?_)
  replace h:=hy72 u7 hu
  refine cq 4 [4] [B true] 17 ?_
  obtain rfl:=sI h
  exact rP [B true]
theorem PI {G:cD}(bG:(Condition×Condition)→Option Bool)(O4:ct G 98 (uG bG)):ct G 116 (zM bG):=gT 2 0 (bb O4 bP) cJ Tryz.func116 (fun a r h=>TF bG a.1 a.2 r h)
noncomputable def Gt :=uG (aP rV)
theorem abf {a_1:Condition}{b_2:Condition}{r}(h:J9 a_1 b_2=some r):Gt.F (E5 (a_1,b_2))=some (E6 r):=Ka (aP rV) h
noncomputable def abh :=aQ Tryz.f98
noncomputable def WT (bG:(Condition×Condition)→Option Bool):Env:=cI [(116,(zM bG))]
def abg (bG:(Condition×Condition)→Option Bool)(x:Condition×Condition)(r:Bool):St→Prop:=QF (WT bG) Tryz.f98 [false,false] (E5 x) (E6 r)
theorem XS (bG:(Condition×Condition)→Option Bool)(a_1:Condition)(b_2:Condition)(r:Bool)(h:xR bG a_1 b_2=some r):bN (WT bG) Tryz.f98 [false,false] 0 (E5 (a_1,b_2)) (E6 r):=by
 show Run _ _ (abg bG (a_1,b_2) r) [.code abh] _
 refine rI 26 [(0,ao a_1),(1,ao b_2)] [] 1 ?_
 unfold xR at h
 refine ck 15 [2,3,9] [] [1,17] [] [.hp 1 0 [] 4 0 0,.hp 17 0 [] 4 0 0,B (a_1.Op != b_2.Op)] [some ⟨0,4,[ao a_1]⟩,some ⟨0,4,[ao b_2]⟩] 129 (by kernel_rfl) ?_
 refine sq h ?_ ?_<;>intro h
 ·refine cq 4 [4] [B false] 145 ?_
  obtain rfl:=sI h
  exact rP [B false]
 ·refine aq 1 ?_
  refine cq 9 [14] [B (!(a_1.Name==b_2.Name))] 209 ?_
  refine sq h ?_ ?_<;>intro h
  ·refine cq 4 [4] [B false] 225 ?_
   obtain rfl:=sI h
   exact rP [B false]
  ·refine aq 1 ?_
   refine cq 9 [19] [B (a_1.Day != b_2.Day)] 289 ?_
   refine sq h ?_ ?_<;>intro h
   ·refine cq 4 [4] [B false] 305 ?_
    obtain rfl:=sI h
    exact rP [B false]
   ·refine aq 1 ?_
    refine cq 7 [21,23] [.isl false (a_1.Parts.map aF),.isl false (b_2.Parts.map aF)] 353 ?_
    obtain⟨r3,hr3,h⟩:=bS h
    refine oq 369 (B r3) rfl (bC rfl rfl (bW rfl rfl rfl (ba (bl rfl) (ba (bl rfl) cS)) (Yz bG hr3) (.inr rfl) dE rfl rfl rfl)) ?_
    refine cq 2 [25] [B (!r3)] 385 ?_
    refine sq h ?_ ?_<;>intro h
    ·refine cq 4 [4] [B false] 401 ?_
     obtain rfl:=sI h
     exact rP [B false]
    ·refine aq 1 ?_
     refine cq 4 [4] [B true] 401 ?_
     obtain rfl:=sI h
     exact rP [B true]
theorem Vm {G:cD}:ct G 98 Gt:=jt fun bG O4=>gT 2 0 (bb (PI bG O4) bP) cJ Tryz.func98 (fun a r h=>XS bG a.1 a.2 r h)
def IK:(Clause×Clause)→List V:=cA aA (oA aA)
def IL (r:Bool):V×List V:=(B r,[])
noncomputable def Gr :=bA [false,false] IK IL fun x=>G9 x.1 x.2
theorem WQ {a_1:Clause}{b_2:Clause}{r}(h:G9 a_1 b_2=some r):Gr.F (IK (a_1,b_2))=some (IL r):=aV (aY eG (aW eG)) h
noncomputable def abd :=aQ Tryz.f72
noncomputable def WP :=cI [(98,Gt)]
def abc (x:Clause×Clause)(r:Bool):St→Prop:=QF WP Tryz.f72 [false,false] (IK x) (IL r)
theorem XP (a_1:Clause)(b_2:Clause)(r:Bool)(h:G9 a_1 b_2=some r):bN WP Tryz.f72 [false,false] 0 (IK (a_1,b_2)) (IL r):=by
 show Run _ _ (abc (a_1,b_2) r) [.code abd] _
 refine rI 51 [(0,aG a_1),(1,aG b_2)] [] 1 ?_
 unfold G9 at h
 refine ck 15 [2,3,9] [] [1,17] [] [.hp 1 0 [] 12 0 0,.hp 17 0 [] 12 0 0,B (!(a_1.Id==b_2.Id))] [some ⟨0,12,[aG a_1]⟩,some ⟨0,12,[aG b_2]⟩] 129 (by kernel_rfl) ?_
 refine sq h ?_ ?_<;>intro h
 ·refine cq 4 [4] [B false] 145 ?_
  obtain rfl:=sI h
  exact rP [B false]
 ·refine aq 1 ?_
  refine cq 9 [14] [B (a_1.Kind != b_2.Kind)] 209 ?_
  refine sq h ?_ ?_<;>intro h
  ·refine cq 4 [4] [B false] 225 ?_
   obtain rfl:=sI h
   exact rP [B false]
  ·refine aq 1 ?_
   refine cq 9 [19] [B (a_1.Party != b_2.Party)] 289 ?_
   refine sq h ?_ ?_<;>intro h
   ·refine cq 4 [4] [B false] 305 ?_
    obtain rfl:=sI h
    exact rP [B false]
   ·refine aq 1 ?_
    refine cq 9 [24] [B (!(a_1.Action==b_2.Action))] 369 ?_
    refine sq h ?_ ?_<;>intro h
    ·refine cq 4 [4] [B false] 385 ?_
     obtain rfl:=sI h
     exact rP [B false]
    ·refine aq 1 ?_
     refine cq 9 [29] [B (a_1.Other != b_2.Other)] 449 ?_
     refine sq h ?_ ?_<;>intro h
     ·refine cq 4 [4] [B false] 465 ?_
      obtain rfl:=sI h
      exact rP [B false]
     ·refine aq 1 ?_
      refine cq 9 [34] [B (a_1.Amount != b_2.Amount)] 529 ?_
      refine sq h ?_ ?_<;>intro h
      ·refine cq 4 [4] [B false] 545 ?_
       obtain rfl:=sI h
       exact rP [B false]
      ·refine aq 1 ?_
       refine cq 7 [36,38] [ao a_1.When,ao b_2.When] 593 ?_
       obtain⟨r3,hr3,h⟩:=bS h
       refine oq 609 (B r3) rfl (cP (abf hr3)) ?_
       refine cq 2 [40] [B (!r3)] 625 ?_
       refine sq h ?_ ?_<;>intro h
       ·refine cq 4 [4] [B false] 641 ?_
        obtain rfl:=sI h
        exact rP [B false]
       ·refine aq 1 ?_
        refine cq 9 [45] [B (a_1.Within != b_2.Within)] 705 ?_
        refine sq h ?_ ?_<;>intro h
        ·refine cq 4 [4] [B false] 721 ?_
         obtain rfl:=sI h
         exact rP [B false]
        ·refine aq 1 ?_
         refine cq 9 [50] [B (!(a_1.Repair==b_2.Repair))] 785 ?_
         refine sq h ?_ ?_<;>intro h
         ·refine cq 4 [4] [B false] 801 ?_
          obtain rfl:=sI h
          exact rP [B false]
         ·refine aq 1 ?_
          refine cq 4 [4] [B true] 801 ?_
          obtain rfl:=sI h
          exact rP [B true]
theorem Vk {G:cD}:ct G 72 Gr:=gT 2 0 (bb Vm bP) cJ Tryz.func72 (fun a r h=>XP a.1 a.2 r h)
def IM:((List Clause)×(List Clause))→List V:=cA (jX aA) (oA (jX aA))
def IO (r:Bool):V×List V:=(B r,[])
noncomputable def Gs :=bA [false,false] IM IO fun x=>J8 x.1 x.2
theorem abe {a_1:List Clause}{b_2:List Clause}{r}(h:J8 a_1 b_2=some r):Gs.F (IM (a_1,b_2))=some (IO r):=aV (aY (ek eG) (aW (ek eG))) h
noncomputable def WS :=aQ Tryz.f39
noncomputable def OI :=cI [(72,Gr)]
def WR (x:(List Clause)×(List Clause))(r:Bool):St→Prop:=QF OI Tryz.f39 [false,false] (IM x) (IO r)
theorem OJ (a_1:List Clause)(b_2:List Clause):cf OI 0 (WR (a_1,b_2)) (cL (cL (cR (cL (cR (cR WS)))))) 0 (wG a_1 b_2) (fun u=>(sT 27 [] [] 1)) fun x3=>(sT 27 [(0,.isl false (a_1.map aA)),(1,.isl false (b_2.map aA)),(5,I x3)] [] 1):=eu (E4 a_1 b_2) fun {Q K} hK self ih x3 y h hr hn=>by
 unfold oO at h
 refine cq 5 [11,12] [I x3,.isl false (a_1.map aA)] 33 ?_
 refine oq 49 (I (len a_1)) rfl (cg rfl rfl rfl (du rfl)) ?_
 refine cq 2 [14] [B (decide (x3<(len a_1)))] 65 ?_
 refine sq h ?_ ?_<;>intro h
 ·refine aq 1 ?_
  refine aq 3 ?_
  refine cn [0,0,3,7,0,0,48,112,255,511] rfl (by decide +kernel) ?_
  refine dk 2 [18,17] [I x3,.isl false (a_1.map aA)] ?_
  obtain⟨e4,he4,h⟩:=bS h
  refine dq [] [] (.iptr (aG e4) 0) rfl (ah rfl rfl rfl (cp rfl rfl rfl rfl he4)) ?_
  refine dq [] [] (aG e4) rfl (bm rfl rfl) ?_
  refine dk 2 [22,21] [I x3,.isl false (b_2.map aA)] ?_
  obtain⟨e5,he5,h⟩:=bS h
  refine dq [] [] (.iptr (aG e5) 0) rfl (ah rfl rfl rfl (cp rfl rfl rfl rfl he5)) ?_
  refine dq [] [] (aG e5) rfl (bm rfl rfl) ?_
  obtain⟨r6,hr6,h⟩:=bS h
  refine dq [] [] (B r6) rfl (cP (WQ hr6)) ?_ (dK rfl rfl rfl rfl (ba (bl rfl) (ba (bl rfl) cS)) (WQ hr6) (.inr rfl) rfl)
  refine dk 1 [26] [B (!r6)] ?_
  refine de 225 rfl rfl ?_
  refine sq h ?_ ?_<;>intro h
  ·refine cq 4 [4] [B false] 241 ?_
   exact bR rfl (hr _ (al h) _ (qp [B false]))
  ·refine aq 1 ?_
   refine cq 6 [5] [I (ac (x3+1))] 273 ?_
   refine dm ?_
   exact rf [0,1,5] [] (ih _ _ h hr hn :)
 ·refine aq 1 ?_
  exact rf [] [] (hn _ (al h) :) (hk:=hK)
theorem XQ (a_1:List Clause)(b_2:List Clause)(r:Bool)(h:J8 a_1 b_2=some r):bN OI Tryz.f39 [false,false] 0 (IM (a_1,b_2)) (IO r):=by
 show Run _ _ (WR (a_1,b_2) r) [.code WS] _
 refine rI 27 [(0,.isl false (a_1.map aA)),(1,.isl false (b_2.map aA))] [] 1 ?_
 unfold J8 at h
 refine cq 8 [6] [.isl false (a_1.map aA)] 33 ?_
 refine oq 49 (I (len a_1)) rfl (cg rfl rfl rfl (du rfl)) ?_
 refine cq 1 [8] [.isl false (b_2.map aA)] 65 ?_
 refine oq 81 (I (len b_2)) rfl (cg rfl rfl rfl (du rfl)) ?_
 refine cq 2 [10] [B ((len a_1) != (len b_2))] 97 ?_
 refine sq h ?_ ?_<;>intro h
 ·refine cq 4 [4] [B false] 113 ?_
  obtain rfl:=sI h
  exact rP [B false]
 ·refine aq 1 ?_
  refine cq 6 [5] [I (0)] 113 ?_
  obtain⟨y7,hy7,hy71,hy72⟩:=bJ h
  refine bO rfl ?_
  refine rf [0,1,5] [] (OJ a_1 b_2 rfl 0 _ hy7 (fun r' e st hq=>by rw[hy71 r' e] at hq;exact hq) fun u7 hu=>?_)
  replace h:=hy72 u7 hu
  refine cq 4 [4] [B true] 17 ?_
  obtain rfl:=sI h
  exact rP [B true]
theorem Vl {G:cD}:ct G 39 Gs:=gT 2 0 (bb Vk bP) cJ Tryz.func39 (fun a r h=>XQ a.1 a.2 r h)
def B2:(Contract×Contract)→List V:=cA bn (oA bn)
def B3 (r:Bool):V×List V:=(B r,[])
noncomputable def zO :=bA [false,false] B2 B3 fun x=>zN x.1 x.2
theorem PK {a_1:Contract}{b_2:Contract}{r}(h:zN a_1 b_2=some r):zO.F (B2 (a_1,b_2))=some (B3 r):=aV (aY co (aW co)) h
noncomputable def YB :=aQ Tryz.f11
noncomputable def PJ :=cI [(38,zS),(39,Gs)]
def YA (x:Contract×Contract)(r:Bool):St→Prop:=QF PJ Tryz.f11 [false,false] (B2 x) (B3 r)
theorem TG (a_1:Contract)(b_2:Contract)(r:Bool)(h:zN a_1 b_2=some r):bN PJ Tryz.f11 [false,false] 0 (B2 (a_1,b_2)) (B3 r):=by
 show Run _ _ (YA (a_1,b_2) r) [.code YB] _
 refine rI 17 [(0,ak a_1),(1,ak b_2)] [] 1 ?_
 unfold zN at h
 refine ck 13 [2,3,6,8] [] [1,17] [] [.hp 1 0 [] 2 0 0,.hp 17 0 [] 2 0 0,.isl false (a_1.Parties.map str),.isl false (b_2.Parties.map str)] [some ⟨0,2,[ak a_1]⟩,some ⟨0,2,[ak b_2]⟩] 113 (by kernel_rfl) ?_
 obtain⟨r3,hr3,h⟩:=bS h
 refine oq 129 (B r3) rfl (cP (YE hr3)) ?_
 refine cq 2 [10] [B (!r3)] 145 ?_
 refine sq h ?_ ?_<;>intro h
 ·refine cq 4 [4] [B false] 161 ?_
  obtain rfl:=sI h
  exact rP [B false]
 ·refine aq 1 ?_
  refine cq 7 [12,14] [.isl false (a_1.Clauses.map aA),.isl false (b_2.Clauses.map aA)] 209 ?_
  obtain⟨r4,hr4,h⟩:=bS h
  refine oq 225 (B r4) rfl (cP (abe hr4)) ?_
  refine cq 2 [16] [B (!r4)] 241 ?_
  refine sq h ?_ ?_<;>intro h
  ·refine cq 4 [4] [B false] 257 ?_
   obtain rfl:=sI h
   exact rP [B false]
  ·refine aq 1 ?_
   refine cq 4 [4] [B true] 257 ?_
   obtain rfl:=sI h
   exact rP [B true]
theorem PL {G:cD}:ct G 11 zO:=gT 2 0 (bb PU (bb Vl bP)) cJ Tryz.func11 (fun a r h=>TG a.1 a.2 r h)
def Cq:Int→List V:=oA I
def Cr (r:ae):V×List V:=(str r,[])
noncomputable def mL :=bA [false] Cq Cr fun x=>mo x
theorem nF {k_1:Int}{r}(h:mo k_1=some r):mL.F (Cq k_1)=some (Cr r):=aV (aW bF) h
noncomputable def Qe :=aQ Tryz.f53
noncomputable def I7 :=cI []
def Qd (x:Int)(r:ae):St→Prop:=QF I7 Tryz.f53 [false] (Cq x) (Cr r)
theorem LC (k_1:Int):cf I7 0 (Qd k_1) (cL (cL (cL (cR (cR (cR Qe)))))) 0 (tj k_1) (fun u=>(sT 20 [(3,str u)] [] 1)) fun x2=>(sT 20 [(0,I x2.1),(3,str x2.2)] [] 1):=eu (yG k_1) fun {Q K} hK self ih x2 y h hr hn=>by
 unfold kU at h
 refine cq 6 [7] [B (decide (x2.1>0))] 33 ?_
 refine sq h ?_ ?_<;>intro h
 ·refine aq 1 ?_
  refine cq 7 [11] [.int .u8 (IntKind.u8.wrap (ac (48+(x2.1.tmod 10))))] 97 ?_
  refine oq 113 (.hs 97 0 [] 1 0 1) rfl (ec rfl (jh (f:=I) (xs:=[]) (z:=.int .u8 (0)) (es:=[.int .u8 (IntKind.u8.wrap (ac (48+(x2.1.tmod 10))))]) (ws:=[.int .u8 (IntKind.u8.wrap (ac (48+(x2.1.tmod 10))))]) rfl rfl rfl (by decide) rfl (dt rfl) rfl)) ?_
  refine oq 129 (str ([(IntKind.u8.wrap (ac (48+(x2.1.tmod 10))))].map fun n=>UInt8.ofNat n.toNat)) rfl (aah rfl (Vy (xs:=[(IntKind.u8.wrap (ac (48+(x2.1.tmod 10))))]) rfl rfl rfl (aby (path:=[]) rfl rfl aw rfl))) ?_
  refine cq 1 [14] [str x2.2] 145 ?_
  obtain⟨s3,hs3,h⟩:=bS h
  refine oq 161 (str s3) rfl (xT rfl rfl (WX hs3)) ?_
  refine cq 8 [0,3] [I (ac (x2.1.tdiv 10)),str s3] 225 ?_
  refine dm ?_
  exact rf [0,3] [] (ih _ _ h hr hn :)
 ·refine aq 1 ?_
  exact rf [3] [] (hn _ (al h) :) (hk:=hK)
theorem TU (k_1:Int)(r:ae)(h:mo k_1=some r):bN I7 Tryz.f53 [false] 0 (Cq k_1) (Cr r):=by
 show Run _ _ (Qd k_1 r) [.code Qe] _
 refine rI 20 [(0,I k_1)] [] 1 ?_
 unfold mo at h
 refine cq 10 [5] [B (decide (k_1≤0))] 49 ?_
 refine sq h ?_ ?_<;>intro h
 ·refine cq 4 [2] [str ([109,48]:ae)] 65 ?_
  obtain rfl:=sI h
  exact rP [str ([109,48]:ae)]
 ·refine aq 1 ?_
  refine cq 6 [3] [str ([]:ae)] 65 ?_
  obtain⟨y4,hy4,hy41,hy42⟩:=bJ h
  refine bO rfl ?_
  refine rf [0,3] [] (LC k_1 rfl (k_1,([]:ae)) _ hy4 (fun r' e st hq=>by rw[hy41 r' e] at hq;exact hq) fun u4 hu=>?_)
  replace h:=hy42 u4 hu
  refine cq 3 [18] [str u4] 17 ?_
  obtain⟨s5,hs5,h⟩:=bS h
  refine oq 33 (str s5) rfl (xT rfl rfl (WX hs5)) ?_
  refine cq 2 [2] [str s5] 49 ?_
  obtain rfl:=sI h
  exact rP [str s5]
theorem pr {G:cD}:ct G 53 mL:=gT 1 0 bP cJ Tryz.func53 (fun a r h=>TU a r h)
def Cn:((List ae)×Int)→List V:=cA (kM 1 str) (oA I)
def Co (r:Int×(List ae)):V×List V:=(I r.1,[.usl 1 (r.2.map str)])
noncomputable def Ac :=bA [true,false] Cn Co fun x=>Ab x.1 x.2
theorem YL {a_7:List ae}{k_8:Int}{r}(h:Ab a_7 k_8=some r):Ac.F (Cn (a_7,k_8))=some (Co r):=aV (aY (eL bT) (aW bF)) h
noncomputable def Qb :=aQ Tryz.f40
noncomputable def I6 :=cI [(53,mL)]
def Qa (x:(List ae)×Int)(r:Int×(List ae)):St→Prop:=QF I6 Tryz.f40 [true,false] (Cn x) (Co r)
theorem LB (a_7:List ae)(k_8:Int):cf I6 1 (Qa (a_7,k_8)) (cL (cL (cR (cL (cR Qb))))) 0 (th a_7 k_8) (fun u=>(sT 20 [(1,I u.1)] [⟨0,1,u.2.map str⟩] 2)) fun x3=>(sT 20 [(0,.hs 1 0 [] 1 0 (x3.2.2.map str).length),(1,I x3.1),(5,I x3.2.1)] [⟨0,1,x3.2.2.map str⟩] 2):=eu (yF a_7 k_8) fun {Q K} hK self ih x3 y h hr hn=>by
 unfold kT at h
 refine cq 5 [6,7] [I x3.2.1,.hs 1 0 [] 1 0 (x3.2.2.map str).length] 34 ?_
 refine oq 50 (I (len x3.2.2)) rfl (cg rfl rfl rfl (kd (f:=str) (xs:=x3.2.2) rfl rfl)) ?_
 refine cq 2 [9] [B (decide (x3.2.1<(len x3.2.2)))] 66 ?_
 refine sq h ?_ ?_<;>intro h
 ·refine aq 1 ?_
  refine cq 7 [12,13,14] [.hs 1 0 [] 1 0 (x3.2.2.map str).length,I x3.2.1,I x3.1] 114 ?_
  obtain⟨r4,hr4,h⟩:=bS h
  refine oq 130 (str r4) rfl (cP (nF hr4)) ?_
  obtain⟨e5,he5,h⟩:=bS h
  refine oq 146 (.hp 1 0 [] 1 (0+Int.toNat x3.2.1) 0) rfl (ah rfl rfl rfl (aL (f:=str) (xs:=x3.2.2) rfl rfl rfl he5)) ?_
  refine o0 162 rfl rfl (dl rfl rfl (ch (path:=[]) (pl:=true) (e':=str r4) (es2':=(aK x3.2.2 x3.2.1 r4).map str) rfl (ap rfl) rfl rfl rfl aw (aB (f:=str) (xs:=x3.2.2) he5) rfl rfl rfl (eK (f:=str) (xs:=x3.2.2) (y:=r4)) cl 0 rfl)) ?_
  try rw[←ep (f:=str) (xs:=x3.2.2) (i:=x3.2.1) (z:=r4)]
  refine cq 12 [1,5] [I (ac (x3.1+1)),I (ac (x3.2.1+1))] 258 ?_
  refine dm ?_
  exact rf [0,1,5] [1] (ih _ _ h hr hn :)
 ·refine aq 1 ?_
  exact rf [1] [1] (hn _ (al h) :) (hk:=hK)
theorem TS (a_7:List ae)(k_8:Int)(r:Int×(List ae))(h:Ab a_7 k_8=some r):bN I6 Tryz.f40 [true,false] 1 (Cn (a_7,k_8)) (Co r):=by
 show Run _ _ (Qa (a_7,k_8) r) [.code Qb] _
 refine rI 20 [(0,.hs 1 0 [] 1 0 (a_7.map str).length),(1,I k_8)] [(1,some ⟨0,1,a_7.map str⟩)] 2 ?_
 unfold Ab at h
 refine cq 10 [5] [I (0)] 34 ?_
 obtain⟨y6,hy6,hy61,hy62⟩:=bJ h
 refine bO rfl ?_
 refine rf [0,1,5] [1] (LB a_7 k_8 rfl (k_8,0,a_7) _ hy6 (fun r' e st hq=>by rw[hy61 r' e] at hq;exact hq) fun u6 hu=>?_)
 replace h:=hy62 u6 hu
 refine cq 5 [4] [I u6.1] 34 ?_
 obtain⟨g7,h⟩:=gG h
 obtain rfl:=sI h
 exact bR rfl ⟨_,fin (vs:=[I u6.1]) rfl (d6 (ap rfl) cX) rfl (fy rfl (gp (f:=str) (xs:=u6.2) (by simpa using g7) rfl) (bH d4)),iA dX⟩
theorem Qc {G:cD}:ct G 40 Ac:=gT 2 1 (bb pr bP) cJ Tryz.func40 (fun a r h=>TS a.1 a.2 r h)
def vD:((List Condition)×Int)→List V:=cA (kM 4 ai) (oA I)
def vE (r:Int×(List Condition)):V×List V:=(I r.1,[.usl 4 (r.2.map ai)])
noncomputable def vF (cw:((List Condition)×Int)→Option (Int×(List Condition))):Ent:=bA [true,false] vD vE cw
theorem M4 (cw:((List Condition)×Int)→Option (Int×(List Condition))){x}{r}(h:cw x=some r):(vF cw).F (vD x)=some (vE r):=aV (aY (eL lD) (aW bF)) h
noncomputable def zW :=vF (aP kR)
theorem YG {a_6:List Condition}{k_7:Int}{r}(h:N9 a_6 k_7=some r):zW.F (vD (a_6,k_7))=some (vE r):=M4 (aP kR) h
noncomputable def P3 :=aQ Tryz.f73
noncomputable def I4 (cw:((List Condition)×Int)→Option (Int×(List Condition))):Env:=cI [(53,mL),(73,(vF cw))]
def P2 (cw:((List Condition)×Int)→Option (Int×(List Condition)))(x:(List Condition)×Int)(r:Int×(List Condition)):St→Prop:=QF (I4 cw) Tryz.f73 [true,false] (vD x) (vE r)
theorem Lz (cw:((List Condition)×Int)→Option (Int×(List Condition)))(a_6:List Condition)(k_7:Int):cf (I4 cw) 1 (P2 cw (a_6,k_7)) (cL (cL (cR (cL (cR P3))))) 0 (lU cw a_6 k_7) (fun u=>(sT 42 [(1,I u.1)] [⟨0,4,u.2.map ai⟩] 2)) fun x3=>(sT 42 [(0,.hs 1 0 [] 4 0 (x3.2.2.map ai).length),(1,I x3.1),(5,I x3.2.1)] [⟨0,4,x3.2.2.map ai⟩] 2):=eu (yD cw a_6 k_7) fun {Q K} hK self ih x3 y h hr hn=>by
 unfold jR at h
 refine cq 5 [6,7] [I x3.2.1,.hs 1 0 [] 4 0 (x3.2.2.map ai).length] 34 ?_
 refine oq 50 (I (len x3.2.2)) rfl (cg rfl rfl rfl (kd (f:=ai) (xs:=x3.2.2) rfl rfl)) ?_
 refine cq 2 [9] [B (decide (x3.2.1<(len x3.2.2)))] 66 ?_
 refine sq h ?_ ?_<;>intro h
 ·refine aq 1 ?_
  refine cq 7 [12,13,14] [.hs 1 0 [] 4 0 (x3.2.2.map ai).length,I x3.2.1,I x3.1] 114 ?_
  obtain⟨e4,he4,h⟩:=bS h
  refine oq 130 (.hp 1 0 [] 4 (0+Int.toNat x3.2.1) 0) rfl (ah rfl rfl rfl (aL (f:=ai) (xs:=x3.2.2) rfl rfl rfl he4)) ?_
  refine cq 1 [16] [.hp 1 0 [] 4 (0+Int.toNat x3.2.1) 0] 146 ?_
  refine o0 162 rfl rfl (dl rfl rfl (ch (path:=[]) (pl:=true) (e':=.agg [I x3.1,str e4.Name,I e4.Day,.usl 4 (e4.Parts.map ai)]) (es2':=(aK x3.2.2 x3.2.1 (Condition.mk x3.1 e4.Name e4.Day e4.Parts)).map ai) rfl (ap rfl) rfl rfl rfl aw (lF (f:=ai) (xs:=x3.2.2) (dD e4) he4) rfl rfl rfl (BU (f:=ai) (xs:=x3.2.2) (dD (Condition.mk x3.1 e4.Name e4.Day e4.Parts))) cl 0 rfl)) ?_
  try rw[←ep (f:=ai) (xs:=x3.2.2) (i:=x3.2.1) (z:=(Condition.mk x3.1 e4.Name e4.Day e4.Parts))]
  refine cq 12 [1,19,20,21] [I (ac (x3.1+1)),.hs 1 0 [] 4 0 ((aK x3.2.2 x3.2.1 (Condition.mk x3.1 e4.Name e4.Day e4.Parts)).map ai).length,I x3.2.1,I (ac (x3.1+1))] 258 ?_
  obtain⟨r5,hr5,h⟩:=bS h
  refine oq 274 (str r5) rfl (cP (nF hr5)) ?_
  obtain⟨e6,he6,h⟩:=bS h
  refine oq 290 (.hp 1 0 [] 4 (0+Int.toNat x3.2.1) 0) rfl (ah rfl rfl rfl (aL (f:=ai) (xs:=(aK x3.2.2 x3.2.1 (Condition.mk x3.1 e4.Name e4.Day e4.Parts))) rfl rfl rfl he6)) ?_
  refine cq 1 [24] [.hp 1 0 [] 4 (0+Int.toNat x3.2.1) 1] 306 ?_
  obtain⟨rw7,hrw7,h⟩:=lJ h
  refine o0 322 rfl rfl (dl rfl rfl (ch (path:=[]) (pl:=true) (e':=.agg [I e6.Op,str r5,I e6.Day,.usl 4 (e6.Parts.map ai)]) (es2':=(rw7).map ai) rfl (ap rfl) rfl rfl rfl aw (lF (f:=ai) (xs:=(aK x3.2.2 x3.2.1 (Condition.mk x3.1 e4.Name e4.Day e4.Parts))) (dD e6) he6) rfl rfl rfl (xq (f:=ai) (xs:=(aK x3.2.2 x3.2.1 (Condition.mk x3.1 e4.Name e4.Day e4.Parts))) (dD (Condition.mk e6.Op r5 e6.Day e6.Parts)) hrw7) cl 0 rfl)) ?_
  try rw[←cu hrw7 (f:=ai) (xs:=(aK x3.2.2 x3.2.1 (Condition.mk x3.1 e4.Name e4.Day e4.Parts)))]
  refine cq 12 [1,27,28,29] [I (ac ((ac (x3.1+1))+1)),.hs 1 0 [] 4 0 (rw7.map ai).length,I x3.2.1,I (ac ((ac (x3.1+1))+1))] 418 ?_
  obtain⟨e9,he9,h⟩:=bS h
  refine oq 434 (.hp 1 0 [] 4 (0+Int.toNat x3.2.1) 0) rfl (ah rfl rfl rfl (aL (f:=ai) (xs:=rw7) rfl rfl rfl he9)) ?_
  refine cq 1 [31] [.hp 1 0 [] 4 (0+Int.toNat x3.2.1) 2] 450 ?_
  obtain⟨rw10,hrw10,h⟩:=lJ h
  refine o0 466 rfl rfl (dl rfl rfl (ch (path:=[]) (pl:=true) (e':=.agg [I e9.Op,str e9.Name,I (ac ((ac (x3.1+1))+1)),.usl 4 (e9.Parts.map ai)]) (es2':=(rw10).map ai) rfl (ap rfl) rfl rfl rfl aw (lF (f:=ai) (xs:=rw7) (dD e9) he9) rfl rfl rfl (xq (f:=ai) (xs:=rw7) (dD (Condition.mk e9.Op e9.Name (ac ((ac (x3.1+1))+1)) e9.Parts)) hrw10) cl 0 rfl)) ?_
  try rw[←cu hrw10 (f:=ai) (xs:=rw7)]
  refine cq 10 [1,34,35] [I (ac ((ac ((ac (x3.1+1))+1))+1)),.hs 1 0 [] 4 0 (rw10.map ai).length,I x3.2.1] 546 ?_
  obtain⟨e13,he13,h⟩:=bS h
  refine oq 562 (.hp 1 0 [] 4 (0+Int.toNat x3.2.1) 0) rfl (ah rfl rfl rfl (aL (f:=ai) (xs:=rw10) rfl rfl rfl he13)) ?_
  refine cq 1 [37] [.hp 1 0 [] 4 (0+Int.toNat x3.2.1) 3] 578 ?_
  refine oq 594 (.hs 1 0 [((0+Int.toNat x3.2.1),3)] 4 0 (e13.Parts.map ai).length) rfl (bm rfl (bZ (path:=[]) rfl rfl rfl aw (lF (f:=ai) (xs:=rw10) (dD e13) he13) rfl rfl rfl)) ?_
  refine cq 1 [39] [I (ac ((ac ((ac (x3.1+1))+1))+1))] 610 ?_
  obtain⟨r14,hr14,h⟩:=bS h
  obtain⟨g15,h⟩:=gG h
  obtain⟨rw16,hrw16,h⟩:=lJ h
  refine oq 626 (I r14.1) rfl (bC rfl rfl (bW rfl rfl rfl (gm (ge rfl (eP (path:=[((0+Int.toNat x3.2.1),3)]) rfl rfl (iO (lF (f:=ai) (xs:=rw10) (dD e13) he13) rfl aw) rfl)) (ba (bl rfl) cS)) (M4 cw hr14) (.inr rfl) (fi rfl rfl rfl (OT (iO (lF (f:=ai) (xs:=rw10) (dD e13) he13) rfl aw) (eU (f:=ai) (xs:=e13.Parts) (ys:=r14.2) g15).symm (Pu (lF (f:=ai) (xs:=rw10) (dD e13) he13) rfl cl (rfl:(_:V)=.agg [I e13.Op,str e13.Name,I e13.Day,.usl 4 (r14.2.map ai)]) (xq (f:=ai) (xs:=rw10) (dD (Condition.mk e13.Op e13.Name e13.Day r14.2)) hrw16))) dE) rfl rfl rfl)) ?_
  try rw[eU (f:=ai) (xs:=e13.Parts) (ys:=r14.2) g15]
  try rw[←cu hrw16 (f:=ai) (xs:=rw10)]
  refine cq 8 [1,5] [I r14.1,I (ac (x3.2.1+1))] 690 ?_
  refine dm ?_
  exact rf [0,1,5] [1] (ih _ _ h hr hn :)
 ·refine aq 1 ?_
  exact rf [1] [1] (hn _ (al h) :) (hk:=hK)
theorem TP (cw:((List Condition)×Int)→Option (Int×(List Condition)))(a_6:List Condition)(k_7:Int)(r:Int×(List Condition))(h:tf cw a_6 k_7=some r):bN (I4 cw) Tryz.f73 [true,false] 1 (vD (a_6,k_7)) (vE r):=by
 show Run _ _ (P2 cw (a_6,k_7) r) [.code P3] _
 refine rI 42 [(0,.hs 1 0 [] 4 0 (a_6.map ai).length),(1,I k_7)] [(1,some ⟨0,4,a_6.map ai⟩)] 2 ?_
 unfold tf at h
 refine cq 10 [5] [I (0)] 34 ?_
 obtain⟨y20,hy20,hy201,hy202⟩:=bJ h
 refine bO rfl ?_
 refine rf [0,1,5] [1] (Lz cw a_6 k_7 rfl (k_7,0,a_6) _ hy20 (fun r' e st hq=>by rw[hy201 r' e] at hq;exact hq) fun u20 hu=>?_)
 replace h:=hy202 u20 hu
 refine cq 5 [4] [I u20.1] 34 ?_
 obtain⟨g21,h⟩:=gG h
 obtain rfl:=sI h
 exact bR rfl ⟨_,fin (vs:=[I u20.1]) rfl (d6 (ap rfl) cX) rfl (fy rfl (gp (f:=ai) (xs:=u20.2) (by simpa using g21) rfl) (bH d4)),iA dX⟩
theorem P4 {G:cD}:ct G 73 zW:=jt fun cw g_Ffbh=>gT 2 1 (bb pr (bb g_Ffbh bP)) cJ Tryz.func73 (fun a r h=>TP cw a.1 a.2 r h)
def Cd:((List Clause)×Int)→List V:=cA (kM 12 aj) (oA I)
def Ce (r:Int×(List Clause)):V×List V:=(I r.1,[.usl 12 (r.2.map aj)])
noncomputable def zV :=bA [true,false] Cd Ce fun x=>zU x.1 x.2
theorem YF {a_7:List Clause}{k_8:Int}{r}(h:zU a_7 k_8=some r):zV.F (Cd (a_7,k_8))=some (Ce r):=aV (aY (eL rZ) (aW bF)) h
noncomputable def P0 :=aQ Tryz.f41
noncomputable def I3 :=cI [(53,mL),(73,zW)]
def PZ (x:(List Clause)×Int)(r:Int×(List Clause)):St→Prop:=QF I3 Tryz.f41 [true,false] (Cd x) (Ce r)
theorem Ly (a_7:List Clause)(k_8:Int):cf I3 1 (PZ (a_7,k_8)) (cL (cL (cR (cL (cR P0))))) 0 (mY a_7 k_8) (fun u=>(sT 105 [(1,I u.1)] [⟨0,12,u.2.map aj⟩] 2)) fun x3=>(sT 105 [(0,.hs 1 0 [] 12 0 (x3.2.2.map aj).length),(1,I x3.1),(5,I x3.2.1)] [⟨0,12,x3.2.2.map aj⟩] 2):=eu (yC a_7 k_8) fun {Q K} hK self ih x3 y h hr hn=>by
 unfold kQ at h
 refine cq 5 [6,7] [I x3.2.1,.hs 1 0 [] 12 0 (x3.2.2.map aj).length] 34 ?_
 refine oq 50 (I (len x3.2.2)) rfl (cg rfl rfl rfl (kd (f:=aj) (xs:=x3.2.2) rfl rfl)) ?_
 refine cq 2 [9] [B (decide (x3.2.1<(len x3.2.2)))] 66 ?_
 refine sq h ?_ ?_<;>intro h
 ·refine aq 1 ?_
  refine cq 7 [12,13,14] [.hs 1 0 [] 12 0 (x3.2.2.map aj).length,I x3.2.1,I x3.1] 114 ?_
  obtain⟨r4,hr4,h⟩:=bS h
  refine oq 130 (str r4) rfl (cP (nF hr4)) ?_
  obtain⟨e5,he5,h⟩:=bS h
  refine oq 146 (.hp 1 0 [] 12 (0+Int.toNat x3.2.1) 0) rfl (ah rfl rfl rfl (aL (f:=aj) (xs:=x3.2.2) rfl rfl rfl he5)) ?_
  refine cq 1 [17] [.hp 1 0 [] 12 (0+Int.toNat x3.2.1) 0] 162 ?_
  refine o0 178 rfl rfl (dl rfl rfl (ch (path:=[]) (pl:=true) (e':=.agg [str r4,I e5.Kind,I e5.Party,str e5.Action,I e5.Other,I e5.Amount,I e5.When.Op,str e5.When.Name,I e5.When.Day,.usl 4 (e5.When.Parts.map ai),I e5.Within,str e5.Repair]) (es2':=(aK x3.2.2 x3.2.1 (Clause.mk r4 e5.Kind e5.Party e5.Action e5.Other e5.Amount e5.When e5.Within e5.Repair)).map aj) rfl (ap rfl) rfl rfl rfl aw (aB (f:=aj) (xs:=x3.2.2) he5) rfl rfl rfl (eK (f:=aj) (xs:=x3.2.2) (y:=(Clause.mk r4 e5.Kind e5.Party e5.Action e5.Other e5.Amount e5.When e5.Within e5.Repair))) cl 0 rfl)) ?_
  try rw[←ep (f:=aj) (xs:=x3.2.2) (i:=x3.2.1) (z:=(Clause.mk r4 e5.Kind e5.Party e5.Action e5.Other e5.Amount e5.When e5.Within e5.Repair))]
  refine cq 12 [1,20,21,22] [I (ac (x3.1+1)),.hs 1 0 [] 12 0 ((aK x3.2.2 x3.2.1 (Clause.mk r4 e5.Kind e5.Party e5.Action e5.Other e5.Amount e5.When e5.Within e5.Repair)).map aj).length,I x3.2.1,I (ac (x3.1+1))] 274 ?_
  obtain⟨e6,he6,h⟩:=bS h
  refine oq 290 (.hp 1 0 [] 12 (0+Int.toNat x3.2.1) 0) rfl (ah rfl rfl rfl (aL (f:=aj) (xs:=(aK x3.2.2 x3.2.1 (Clause.mk r4 e5.Kind e5.Party e5.Action e5.Other e5.Amount e5.When e5.Within e5.Repair))) rfl rfl rfl he6)) ?_
  refine cq 1 [24] [.hp 1 0 [] 12 (0+Int.toNat x3.2.1) 1] 306 ?_
  obtain⟨rw7,hrw7,h⟩:=lJ h
  refine o0 322 rfl rfl (dl rfl rfl (ch (path:=[]) (pl:=true) (e':=.agg [str e6.Id,I (ac (x3.1+1)),I e6.Party,str e6.Action,I e6.Other,I e6.Amount,I e6.When.Op,str e6.When.Name,I e6.When.Day,.usl 4 (e6.When.Parts.map ai),I e6.Within,str e6.Repair]) (es2':=(rw7).map aj) rfl (ap rfl) rfl rfl rfl aw (aB (f:=aj) (xs:=(aK x3.2.2 x3.2.1 (Clause.mk r4 e5.Kind e5.Party e5.Action e5.Other e5.Amount e5.When e5.Within e5.Repair))) he6) rfl rfl rfl (dB (f:=aj) (xs:=(aK x3.2.2 x3.2.1 (Clause.mk r4 e5.Kind e5.Party e5.Action e5.Other e5.Amount e5.When e5.Within e5.Repair))) (y:=(Clause.mk e6.Id (ac (x3.1+1)) e6.Party e6.Action e6.Other e6.Amount e6.When e6.Within e6.Repair)) hrw7) cl 0 rfl)) ?_
  try rw[←cu hrw7 (f:=aj) (xs:=(aK x3.2.2 x3.2.1 (Clause.mk r4 e5.Kind e5.Party e5.Action e5.Other e5.Amount e5.When e5.Within e5.Repair)))]
  refine cq 12 [1,27,28,29] [I (ac ((ac (x3.1+1))+1)),.hs 1 0 [] 12 0 (rw7.map aj).length,I x3.2.1,I (ac ((ac (x3.1+1))+1))] 418 ?_
  obtain⟨e9,he9,h⟩:=bS h
  refine oq 434 (.hp 1 0 [] 12 (0+Int.toNat x3.2.1) 0) rfl (ah rfl rfl rfl (aL (f:=aj) (xs:=rw7) rfl rfl rfl he9)) ?_
  refine cq 1 [31] [.hp 1 0 [] 12 (0+Int.toNat x3.2.1) 2] 450 ?_
  obtain⟨rw10,hrw10,h⟩:=lJ h
  refine o0 466 rfl rfl (dl rfl rfl (ch (path:=[]) (pl:=true) (e':=.agg [str e9.Id,I e9.Kind,I (ac ((ac (x3.1+1))+1)),str e9.Action,I e9.Other,I e9.Amount,I e9.When.Op,str e9.When.Name,I e9.When.Day,.usl 4 (e9.When.Parts.map ai),I e9.Within,str e9.Repair]) (es2':=(rw10).map aj) rfl (ap rfl) rfl rfl rfl aw (aB (f:=aj) (xs:=rw7) he9) rfl rfl rfl (dB (f:=aj) (xs:=rw7) (y:=(Clause.mk e9.Id e9.Kind (ac ((ac (x3.1+1))+1)) e9.Action e9.Other e9.Amount e9.When e9.Within e9.Repair)) hrw10) cl 0 rfl)) ?_
  try rw[←cu hrw10 (f:=aj) (xs:=rw7)]
  refine cq 12 [1,34,35,36] [I (ac ((ac ((ac (x3.1+1))+1))+1)),.hs 1 0 [] 12 0 (rw10.map aj).length,I x3.2.1,I (ac ((ac ((ac (x3.1+1))+1))+1))] 562 ?_
  obtain⟨r13,hr13,h⟩:=bS h
  refine oq 578 (str r13) rfl (cP (nF hr13)) ?_
  obtain⟨e14,he14,h⟩:=bS h
  refine oq 594 (.hp 1 0 [] 12 (0+Int.toNat x3.2.1) 0) rfl (ah rfl rfl rfl (aL (f:=aj) (xs:=rw10) rfl rfl rfl he14)) ?_
  refine cq 1 [39] [.hp 1 0 [] 12 (0+Int.toNat x3.2.1) 3] 610 ?_
  obtain⟨rw15,hrw15,h⟩:=lJ h
  refine o0 626 rfl rfl (dl rfl rfl (ch (path:=[]) (pl:=true) (e':=.agg [str e14.Id,I e14.Kind,I e14.Party,str r13,I e14.Other,I e14.Amount,I e14.When.Op,str e14.When.Name,I e14.When.Day,.usl 4 (e14.When.Parts.map ai),I e14.Within,str e14.Repair]) (es2':=(rw15).map aj) rfl (ap rfl) rfl rfl rfl aw (aB (f:=aj) (xs:=rw10) he14) rfl rfl rfl (dB (f:=aj) (xs:=rw10) (y:=(Clause.mk e14.Id e14.Kind e14.Party r13 e14.Other e14.Amount e14.When e14.Within e14.Repair)) hrw15) cl 0 rfl)) ?_
  try rw[←cu hrw15 (f:=aj) (xs:=rw10)]
  refine cq 12 [1,42,43,44] [I (ac ((ac ((ac ((ac (x3.1+1))+1))+1))+1)),.hs 1 0 [] 12 0 (rw15.map aj).length,I x3.2.1,I (ac ((ac ((ac ((ac (x3.1+1))+1))+1))+1))] 722 ?_
  obtain⟨e19,he19,h⟩:=bS h
  refine oq 738 (.hp 1 0 [] 12 (0+Int.toNat x3.2.1) 0) rfl (ah rfl rfl rfl (aL (f:=aj) (xs:=rw15) rfl rfl rfl he19)) ?_
  refine cq 1 [46] [.hp 1 0 [] 12 (0+Int.toNat x3.2.1) 4] 754 ?_
  obtain⟨rw20,hrw20,h⟩:=lJ h
  refine o0 770 rfl rfl (dl rfl rfl (ch (path:=[]) (pl:=true) (e':=.agg [str e19.Id,I e19.Kind,I e19.Party,str e19.Action,I (ac ((ac ((ac ((ac (x3.1+1))+1))+1))+1)),I e19.Amount,I e19.When.Op,str e19.When.Name,I e19.When.Day,.usl 4 (e19.When.Parts.map ai),I e19.Within,str e19.Repair]) (es2':=(rw20).map aj) rfl (ap rfl) rfl rfl rfl aw (aB (f:=aj) (xs:=rw15) he19) rfl rfl rfl (dB (f:=aj) (xs:=rw15) (y:=(Clause.mk e19.Id e19.Kind e19.Party e19.Action (ac ((ac ((ac ((ac (x3.1+1))+1))+1))+1)) e19.Amount e19.When e19.Within e19.Repair)) hrw20) cl 0 rfl)) ?_
  try rw[←cu hrw20 (f:=aj) (xs:=rw15)]
  refine cq 12 [1,49,50,51] [I (ac ((ac ((ac ((ac ((ac (x3.1+1))+1))+1))+1))+1)),.hs 1 0 [] 12 0 (rw20.map aj).length,I x3.2.1,I (ac ((ac ((ac ((ac ((ac (x3.1+1))+1))+1))+1))+1))] 866 ?_
  obtain⟨e25,he25,h⟩:=bS h
  refine oq 882 (.hp 1 0 [] 12 (0+Int.toNat x3.2.1) 0) rfl (ah rfl rfl rfl (aL (f:=aj) (xs:=rw20) rfl rfl rfl he25)) ?_
  refine cq 1 [53] [.hp 1 0 [] 12 (0+Int.toNat x3.2.1) 5] 898 ?_
  obtain⟨rw26,hrw26,h⟩:=lJ h
  refine o0 914 rfl rfl (dl rfl rfl (ch (path:=[]) (pl:=true) (e':=.agg [str e25.Id,I e25.Kind,I e25.Party,str e25.Action,I e25.Other,I (ac ((ac ((ac ((ac ((ac (x3.1+1))+1))+1))+1))+1)),I e25.When.Op,str e25.When.Name,I e25.When.Day,.usl 4 (e25.When.Parts.map ai),I e25.Within,str e25.Repair]) (es2':=(rw26).map aj) rfl (ap rfl) rfl rfl rfl aw (aB (f:=aj) (xs:=rw20) he25) rfl rfl rfl (dB (f:=aj) (xs:=rw20) (y:=(Clause.mk e25.Id e25.Kind e25.Party e25.Action e25.Other (ac ((ac ((ac ((ac ((ac (x3.1+1))+1))+1))+1))+1)) e25.When e25.Within e25.Repair)) hrw26) cl 0 rfl)) ?_
  try rw[←cu hrw26 (f:=aj) (xs:=rw20)]
  refine cq 12 [1,56,57,58] [I (ac ((ac ((ac ((ac ((ac ((ac (x3.1+1))+1))+1))+1))+1))+1)),.hs 1 0 [] 12 0 (rw26.map aj).length,I x3.2.1,I (ac ((ac ((ac ((ac ((ac ((ac (x3.1+1))+1))+1))+1))+1))+1))] 1010 ?_
  obtain⟨e32,he32,h⟩:=bS h
  refine oq 1026 (.hp 1 0 [] 12 (0+Int.toNat x3.2.1) 0) rfl (ah rfl rfl rfl (aL (f:=aj) (xs:=rw26) rfl rfl rfl he32)) ?_
  refine cq 2 [61] [.hp 1 0 [] 12 (0+Int.toNat x3.2.1) 6] 1058 ?_
  obtain⟨rw33,hrw33,h⟩:=lJ h
  refine o0 1074 rfl rfl (dl rfl rfl (ch (path:=[]) (pl:=true) (e':=.agg [str e32.Id,I e32.Kind,I e32.Party,str e32.Action,I e32.Other,I e32.Amount,I (ac ((ac ((ac ((ac ((ac ((ac (x3.1+1))+1))+1))+1))+1))+1)),str e32.When.Name,I e32.When.Day,.usl 4 (e32.When.Parts.map ai),I e32.Within,str e32.Repair]) (es2':=(rw33).map aj) rfl (ap rfl) rfl rfl rfl aw (aB (f:=aj) (xs:=rw26) he32) rfl rfl rfl (dB (f:=aj) (xs:=rw26) (y:=(Clause.mk e32.Id e32.Kind e32.Party e32.Action e32.Other e32.Amount (Condition.mk (ac ((ac ((ac ((ac ((ac ((ac (x3.1+1))+1))+1))+1))+1))+1)) e32.When.Name e32.When.Day e32.When.Parts) e32.Within e32.Repair)) hrw33) cl 0 rfl)) ?_
  try rw[←cu hrw33 (f:=aj) (xs:=rw26)]
  refine cq 12 [1,64,65,66] [I (ac ((ac ((ac ((ac ((ac ((ac ((ac (x3.1+1))+1))+1))+1))+1))+1))+1)),.hs 1 0 [] 12 0 (rw33.map aj).length,I x3.2.1,I (ac ((ac ((ac ((ac ((ac ((ac ((ac (x3.1+1))+1))+1))+1))+1))+1))+1))] 1170 ?_
  obtain⟨r40,hr40,h⟩:=bS h
  refine oq 1186 (str r40) rfl (cP (nF hr40)) ?_
  obtain⟨e41,he41,h⟩:=bS h
  refine oq 1202 (.hp 1 0 [] 12 (0+Int.toNat x3.2.1) 0) rfl (ah rfl rfl rfl (aL (f:=aj) (xs:=rw33) rfl rfl rfl he41)) ?_
  refine cq 2 [70] [.hp 1 0 [] 12 (0+Int.toNat x3.2.1) 7] 1234 ?_
  obtain⟨rw42,hrw42,h⟩:=lJ h
  refine o0 1250 rfl rfl (dl rfl rfl (ch (path:=[]) (pl:=true) (e':=.agg [str e41.Id,I e41.Kind,I e41.Party,str e41.Action,I e41.Other,I e41.Amount,I e41.When.Op,str r40,I e41.When.Day,.usl 4 (e41.When.Parts.map ai),I e41.Within,str e41.Repair]) (es2':=(rw42).map aj) rfl (ap rfl) rfl rfl rfl aw (aB (f:=aj) (xs:=rw33) he41) rfl rfl rfl (dB (f:=aj) (xs:=rw33) (y:=(Clause.mk e41.Id e41.Kind e41.Party e41.Action e41.Other e41.Amount (Condition.mk e41.When.Op r40 e41.When.Day e41.When.Parts) e41.Within e41.Repair)) hrw42) cl 0 rfl)) ?_
  try rw[←cu hrw42 (f:=aj) (xs:=rw33)]
  refine cq 12 [1,73,74,75] [I (ac ((ac ((ac ((ac ((ac ((ac ((ac ((ac (x3.1+1))+1))+1))+1))+1))+1))+1))+1)),.hs 1 0 [] 12 0 (rw42.map aj).length,I x3.2.1,I (ac ((ac ((ac ((ac ((ac ((ac ((ac ((ac (x3.1+1))+1))+1))+1))+1))+1))+1))+1))] 1346 ?_
  obtain⟨e50,he50,h⟩:=bS h
  refine oq 1362 (.hp 1 0 [] 12 (0+Int.toNat x3.2.1) 0) rfl (ah rfl rfl rfl (aL (f:=aj) (xs:=rw42) rfl rfl rfl he50)) ?_
  refine cq 2 [78] [.hp 1 0 [] 12 (0+Int.toNat x3.2.1) 8] 1394 ?_
  obtain⟨rw51,hrw51,h⟩:=lJ h
  refine o0 1410 rfl rfl (dl rfl rfl (ch (path:=[]) (pl:=true) (e':=.agg [str e50.Id,I e50.Kind,I e50.Party,str e50.Action,I e50.Other,I e50.Amount,I e50.When.Op,str e50.When.Name,I (ac ((ac ((ac ((ac ((ac ((ac ((ac ((ac (x3.1+1))+1))+1))+1))+1))+1))+1))+1)),.usl 4 (e50.When.Parts.map ai),I e50.Within,str e50.Repair]) (es2':=(rw51).map aj) rfl (ap rfl) rfl rfl rfl aw (aB (f:=aj) (xs:=rw42) he50) rfl rfl rfl (dB (f:=aj) (xs:=rw42) (y:=(Clause.mk e50.Id e50.Kind e50.Party e50.Action e50.Other e50.Amount (Condition.mk e50.When.Op e50.When.Name (ac ((ac ((ac ((ac ((ac ((ac ((ac ((ac (x3.1+1))+1))+1))+1))+1))+1))+1))+1)) e50.When.Parts) e50.Within e50.Repair)) hrw51) cl 0 rfl)) ?_
  try rw[←cu hrw51 (f:=aj) (xs:=rw42)]
  refine cq 11 [1,81,82] [I (ac ((ac ((ac ((ac ((ac ((ac ((ac ((ac ((ac (x3.1+1))+1))+1))+1))+1))+1))+1))+1))+1)),.hs 1 0 [] 12 0 (rw51.map aj).length,I x3.2.1] 1490 ?_
  obtain⟨e60,he60,h⟩:=bS h
  refine oq 1506 (.hp 1 0 [] 12 (0+Int.toNat x3.2.1) 0) rfl (ah rfl rfl rfl (aL (f:=aj) (xs:=rw51) rfl rfl rfl he60)) ?_
  refine cq 2 [85] [.hp 1 0 [] 12 (0+Int.toNat x3.2.1) 9] 1538 ?_
  refine oq 1554 (.hs 1 0 [((0+Int.toNat x3.2.1),9)] 4 0 (e60.When.Parts.map ai).length) rfl (bm rfl (bZ (path:=[]) rfl rfl rfl aw (aB (f:=aj) (xs:=rw51) he60) rfl rfl rfl)) ?_
  refine cq 1 [87] [I (ac ((ac ((ac ((ac ((ac ((ac ((ac ((ac ((ac (x3.1+1))+1))+1))+1))+1))+1))+1))+1))+1))] 1570 ?_
  obtain⟨r61,hr61,h⟩:=bS h
  obtain⟨g62,h⟩:=gG h
  obtain⟨rw63,hrw63,h⟩:=lJ h
  refine oq 1586 (I r61.1) rfl (bC rfl rfl (bW rfl rfl rfl (gm (ge rfl (eP (path:=[((0+Int.toNat x3.2.1),9)]) rfl rfl (iO (aB (f:=aj) (xs:=rw51) he60) rfl aw) rfl)) (ba (bl rfl) cS)) (YG hr61) (.inr rfl) (fi rfl rfl rfl (OT (iO (aB (f:=aj) (xs:=rw51) he60) rfl aw) (eU (f:=ai) (xs:=e60.When.Parts) (ys:=r61.2) g62).symm (Pu (aB (f:=aj) (xs:=rw51) he60) rfl cl (rfl:(_:V)=.agg [str e60.Id,I e60.Kind,I e60.Party,str e60.Action,I e60.Other,I e60.Amount,I e60.When.Op,str e60.When.Name,I e60.When.Day,.usl 4 (r61.2.map ai),I e60.Within,str e60.Repair]) (dB (f:=aj) (xs:=rw51) (y:=(Clause.mk e60.Id e60.Kind e60.Party e60.Action e60.Other e60.Amount (Condition.mk e60.When.Op e60.When.Name e60.When.Day r61.2) e60.Within e60.Repair)) hrw63))) dE) rfl rfl rfl)) ?_
  try rw[eU (f:=ai) (xs:=e60.When.Parts) (ys:=r61.2) g62]
  try rw[←cu hrw63 (f:=aj) (xs:=rw51)]
  refine cq 7 [1,89,90,91] [I r61.1,.hs 1 0 [] 12 0 (rw63.map aj).length,I x3.2.1,I r61.1] 1650 ?_
  obtain⟨e73,he73,h⟩:=bS h
  refine oq 1666 (.hp 1 0 [] 12 (0+Int.toNat x3.2.1) 0) rfl (ah rfl rfl rfl (aL (f:=aj) (xs:=rw63) rfl rfl rfl he73)) ?_
  refine cq 1 [93] [.hp 1 0 [] 12 (0+Int.toNat x3.2.1) 10] 1682 ?_
  obtain⟨rw74,hrw74,h⟩:=lJ h
  refine o0 1698 rfl rfl (dl rfl rfl (ch (path:=[]) (pl:=true) (e':=.agg [str e73.Id,I e73.Kind,I e73.Party,str e73.Action,I e73.Other,I e73.Amount,I e73.When.Op,str e73.When.Name,I e73.When.Day,.usl 4 (e73.When.Parts.map ai),I r61.1,str e73.Repair]) (es2':=(rw74).map aj) rfl (ap rfl) rfl rfl rfl aw (aB (f:=aj) (xs:=rw63) he73) rfl rfl rfl (dB (f:=aj) (xs:=rw63) (y:=(Clause.mk e73.Id e73.Kind e73.Party e73.Action e73.Other e73.Amount e73.When r61.1 e73.Repair)) hrw74) cl 1 rfl)) ?_
  try rw[←cu hrw74 (f:=aj) (xs:=rw63)]
  refine cq 12 [1,96,97,98] [I (ac (r61.1+1)),.hs 1 0 [] 12 0 (rw74.map aj).length,I x3.2.1,I (ac (r61.1+1))] 1794 ?_
  obtain⟨r85,hr85,h⟩:=bS h
  refine oq 1810 (str r85) rfl (cP (nF hr85)) ?_
  obtain⟨e86,he86,h⟩:=bS h
  refine oq 1826 (.hp 1 0 [] 12 (0+Int.toNat x3.2.1) 0) rfl (ah rfl rfl rfl (aL (f:=aj) (xs:=rw74) rfl rfl rfl he86)) ?_
  refine cq 1 [101] [.hp 1 0 [] 12 (0+Int.toNat x3.2.1) 11] 1842 ?_
  obtain⟨rw87,hrw87,h⟩:=lJ h
  refine o0 1858 rfl rfl (dl rfl rfl (ch (path:=[]) (pl:=true) (e':=.agg [str e86.Id,I e86.Kind,I e86.Party,str e86.Action,I e86.Other,I e86.Amount,I e86.When.Op,str e86.When.Name,I e86.When.Day,.usl 4 (e86.When.Parts.map ai),I e86.Within,str r85]) (es2':=(rw87).map aj) rfl (ap rfl) rfl rfl rfl aw (aB (f:=aj) (xs:=rw74) he86) rfl rfl rfl (dB (f:=aj) (xs:=rw74) (y:=(Clause.mk e86.Id e86.Kind e86.Party e86.Action e86.Other e86.Amount e86.When e86.Within r85)) hrw87) cl 1 rfl)) ?_
  try rw[←cu hrw87 (f:=aj) (xs:=rw74)]
  refine cq 12 [1,5] [I (ac ((ac (r61.1+1))+1)),I (ac (x3.2.1+1))] 1954 ?_
  refine dm ?_
  exact rf [0,1,5] [1] (ih _ _ h hr hn :)
 ·refine aq 1 ?_
  exact rf [1] [1] (hn _ (al h) :) (hk:=hK)
theorem TM (a_7:List Clause)(k_8:Int)(r:Int×(List Clause))(h:zU a_7 k_8=some r):bN I3 Tryz.f41 [true,false] 1 (Cd (a_7,k_8)) (Ce r):=by
 show Run _ _ (PZ (a_7,k_8) r) [.code P0] _
 refine rI 105 [(0,.hs 1 0 [] 12 0 (a_7.map aj).length),(1,I k_8)] [(1,some ⟨0,12,a_7.map aj⟩)] 2 ?_
 unfold zU at h
 refine cq 10 [5] [I (0)] 34 ?_
 obtain⟨y99,hy99,hy991,hy992⟩:=bJ h
 refine bO rfl ?_
 refine rf [0,1,5] [1] (Ly a_7 k_8 rfl (k_8,0,a_7) _ hy99 (fun r' e st hq=>by rw[hy991 r' e] at hq;exact hq) fun u99 hu=>?_)
 replace h:=hy992 u99 hu
 refine cq 5 [4] [I u99.1] 34 ?_
 obtain⟨g100,h⟩:=gG h
 obtain rfl:=sI h
 exact bR rfl ⟨_,fin (vs:=[I u99.1]) rfl (d6 (ap rfl) cX) rfl (fy rfl (gp (f:=aj) (xs:=u99.2) (by simpa using g100) rfl) (bH d4)),iA dX⟩
theorem P1 {G:cD}:ct G 41 zV:=gT 2 1 (bb pr (bb P4 bP)) cJ Tryz.func41 (fun a r h=>TM a.1 a.2 r h)
def Ci:(Contract×Int)→List V:=cA pP (oA I)
def Cj (r:Int):V×List V:=(I r,[.dead])
noncomputable def zY :=bA [true,false] Ci Cj fun x=>zX x.1 x.2
theorem YH {a_7:Contract}{k_8:Int}{r}(h:zX a_7 k_8=some r):zY.F (Ci (a_7,k_8))=some (Cj r):=aV (aY yw (aW bF)) h
noncomputable def YJ :=aQ Tryz.f12
noncomputable def P5 :=cI [(40,Ac),(41,zV)]
def YI (x:Contract×Int)(r:Int):St→Prop:=QF P5 Tryz.f12 [true,false] (Ci x) (Cj r)
theorem TQ (a_7:Contract)(k_8:Int)(r:Int)(h:zX a_7 k_8=some r):bN P5 Tryz.f12 [true,false] 2 (Ci (a_7,k_8)) (Cj r):=by
 show Run _ _ (YI (a_7,k_8) r) [.code YJ] _
 refine rI 14 [(0,.agg [.hs 1 0 [] 1 0 (a_7.Parties.map str).length,.hs 2 0 [] 12 0 (a_7.Clauses.map aj).length]),(1,I k_8)] [(1,some ⟨0,1,a_7.Parties.map str⟩),(2,some ⟨0,12,a_7.Clauses.map aj⟩)] 3 ?_
 unfold zX at h
 refine aq 2 ?_
 refine oq 19 (.hp 3 0 [] 2 0 0) rfl (aag rfl (qO (dM (eg rfl rfl) (dM (eg rfl rfl) qP))) rfl) ?_
 refine cq 7 [6,7] [.hs 3 0 [(0,0)] 1 0 (a_7.Parties.map str).length,I k_8] 83 ?_
 obtain⟨r3,hr3,h⟩:=bS h
 obtain⟨g4,h⟩:=gG h
 refine oq 99 (I r3.1) rfl (bC rfl rfl (bW rfl rfl rfl (gm (ge rfl (eP (path:=[(0,0)]) rfl rfl (iO rfl rfl aw) rfl)) (ba (bl rfl) cS)) (YL hr3) (.inr rfl) (fi rfl rfl rfl (OT (iO rfl rfl aw) (eU (f:=str) (xs:=a_7.Parties) (ys:=r3.2) g4).symm (Pu rfl rfl cl (rfl:(_:V)=.agg [.usl 1 (r3.2.map str),.usl 12 (a_7.Clauses.map aj)]) rfl)) dE) rfl rfl rfl)) ?_
 try rw[eU (f:=str) (xs:=a_7.Parties) (ys:=r3.2) g4]
 refine ck 7 [10,11] [1] [] [] [.hs 3 1 [(0,1)] 12 0 (a_7.Clauses.map aj).length,I r3.1] [] 163 (by kernel_rfl) ?_
 obtain⟨r5,hr5,h⟩:=bS h
 obtain⟨g6,h⟩:=gG h
 refine oq 179 (I r5.1) rfl (bC rfl rfl (bW rfl rfl rfl (gm (ge rfl (eP (path:=[(0,1)]) rfl rfl (iO rfl rfl aw) rfl)) (ba (bl rfl) cS)) (YF hr5) (.inr rfl) (fi rfl rfl rfl (OT (iO rfl rfl aw) (eU (f:=aj) (xs:=a_7.Clauses) (ys:=r5.2) g6).symm (Pu rfl rfl cl (rfl:(_:V)=.agg [.usl 1 (r3.2.map str),.usl 12 (r5.2.map aj)]) rfl)) dE) rfl rfl rfl)) ?_
 try rw[eU (f:=aj) (xs:=a_7.Clauses) (ys:=r5.2) g6]
 refine cq 7 [4] [I r5.1] 227 ?_
 obtain rfl:=sI h
 exact bR rfl ⟨_,fin (vs:=[I r5.1]) rfl (d6 (ap rfl) cX) rfl (abO (mc (kJ rfl) (mc (kJ rfl) mn)) (bH d4)),oZ dX⟩
theorem P6 {G:cD}:ct G 12 zY:=gT 2 2 (bb Qc (bb P1 bP)) cJ Tryz.func12 (fun a r h=>TQ a.1 a.2 r h)
def Ck:((List Event)×Int)→List V:=cA (kM 4 aa) (oA I)
def Cl (r:Int×(List Event)):V×List V:=(I r.1,[.usl 4 (r.2.map aa)])
noncomputable def Aa :=bA [true,false] Ck Cl fun x=>zZ x.1 x.2
theorem YK {a_6:List Event}{k_7:Int}{r}(h:zZ a_6 k_7=some r):Aa.F (Ck (a_6,k_7))=some (Cl r):=aV (aY (eL ca) (aW bF)) h
noncomputable def P8 :=aQ Tryz.f24
noncomputable def I5 :=cI [(53,mL)]
def P7 (x:(List Event)×Int)(r:Int×(List Event)):St→Prop:=QF I5 Tryz.f24 [true,false] (Ck x) (Cl r)
theorem LA (a_6:List Event)(k_7:Int):cf I5 1 (P7 (a_6,k_7)) (cL (cL (cR (cL (cR P8))))) 0 (tg a_6 k_7) (fun u=>(sT 42 [(1,I u.1)] [⟨0,4,u.2.map aa⟩] 2)) fun x3=>(sT 42 [(0,.hs 1 0 [] 4 0 (x3.2.2.map aa).length),(1,I x3.1),(5,I x3.2.1)] [⟨0,4,x3.2.2.map aa⟩] 2):=eu (yE a_6 k_7) fun {Q K} hK self ih x3 y h hr hn=>by
 unfold kS at h
 refine cq 5 [6,7] [I x3.2.1,.hs 1 0 [] 4 0 (x3.2.2.map aa).length] 34 ?_
 refine oq 50 (I (len x3.2.2)) rfl (cg rfl rfl rfl (kd (f:=aa) (xs:=x3.2.2) rfl rfl)) ?_
 refine cq 2 [9] [B (decide (x3.2.1<(len x3.2.2)))] 66 ?_
 refine sq h ?_ ?_<;>intro h
 ·refine aq 1 ?_
  refine cq 7 [12,13,14] [.hs 1 0 [] 4 0 (x3.2.2.map aa).length,I x3.2.1,I x3.1] 114 ?_
  obtain⟨e4,he4,h⟩:=bS h
  refine oq 130 (.hp 1 0 [] 4 (0+Int.toNat x3.2.1) 0) rfl (ah rfl rfl rfl (aL (f:=aa) (xs:=x3.2.2) rfl rfl rfl he4)) ?_
  refine cq 1 [16] [.hp 1 0 [] 4 (0+Int.toNat x3.2.1) 0] 146 ?_
  refine o0 162 rfl rfl (dl rfl rfl (ch (path:=[]) (pl:=true) (e':=.agg [I x3.1,I e4.Party,str e4.Action,I e4.Amount]) (es2':=(aK x3.2.2 x3.2.1 (Event.mk x3.1 e4.Party e4.Action e4.Amount)).map aa) rfl (ap rfl) rfl rfl rfl aw (aB (f:=aa) (xs:=x3.2.2) he4) rfl rfl rfl (eK (f:=aa) (xs:=x3.2.2) (y:=(Event.mk x3.1 e4.Party e4.Action e4.Amount))) cl 0 rfl)) ?_
  try rw[←ep (f:=aa) (xs:=x3.2.2) (i:=x3.2.1) (z:=(Event.mk x3.1 e4.Party e4.Action e4.Amount))]
  refine cq 12 [1,19,20,21] [I (ac (x3.1+1)),.hs 1 0 [] 4 0 ((aK x3.2.2 x3.2.1 (Event.mk x3.1 e4.Party e4.Action e4.Amount)).map aa).length,I x3.2.1,I (ac (x3.1+1))] 258 ?_
  obtain⟨e5,he5,h⟩:=bS h
  refine oq 274 (.hp 1 0 [] 4 (0+Int.toNat x3.2.1) 0) rfl (ah rfl rfl rfl (aL (f:=aa) (xs:=(aK x3.2.2 x3.2.1 (Event.mk x3.1 e4.Party e4.Action e4.Amount))) rfl rfl rfl he5)) ?_
  refine cq 1 [23] [.hp 1 0 [] 4 (0+Int.toNat x3.2.1) 1] 290 ?_
  obtain⟨rw6,hrw6,h⟩:=lJ h
  refine o0 306 rfl rfl (dl rfl rfl (ch (path:=[]) (pl:=true) (e':=.agg [I e5.Day,I (ac (x3.1+1)),str e5.Action,I e5.Amount]) (es2':=(rw6).map aa) rfl (ap rfl) rfl rfl rfl aw (aB (f:=aa) (xs:=(aK x3.2.2 x3.2.1 (Event.mk x3.1 e4.Party e4.Action e4.Amount))) he5) rfl rfl rfl (dB (f:=aa) (xs:=(aK x3.2.2 x3.2.1 (Event.mk x3.1 e4.Party e4.Action e4.Amount))) (y:=(Event.mk e5.Day (ac (x3.1+1)) e5.Action e5.Amount)) hrw6) cl 0 rfl)) ?_
  try rw[←cu hrw6 (f:=aa) (xs:=(aK x3.2.2 x3.2.1 (Event.mk x3.1 e4.Party e4.Action e4.Amount)))]
  refine cq 12 [1,26,27,28] [I (ac ((ac (x3.1+1))+1)),.hs 1 0 [] 4 0 (rw6.map aa).length,I x3.2.1,I (ac ((ac (x3.1+1))+1))] 402 ?_
  obtain⟨r8,hr8,h⟩:=bS h
  refine oq 418 (str r8) rfl (cP (nF hr8)) ?_
  obtain⟨e9,he9,h⟩:=bS h
  refine oq 434 (.hp 1 0 [] 4 (0+Int.toNat x3.2.1) 0) rfl (ah rfl rfl rfl (aL (f:=aa) (xs:=rw6) rfl rfl rfl he9)) ?_
  refine cq 1 [31] [.hp 1 0 [] 4 (0+Int.toNat x3.2.1) 2] 450 ?_
  obtain⟨rw10,hrw10,h⟩:=lJ h
  refine o0 466 rfl rfl (dl rfl rfl (ch (path:=[]) (pl:=true) (e':=.agg [I e9.Day,I e9.Party,str r8,I e9.Amount]) (es2':=(rw10).map aa) rfl (ap rfl) rfl rfl rfl aw (aB (f:=aa) (xs:=rw6) he9) rfl rfl rfl (dB (f:=aa) (xs:=rw6) (y:=(Event.mk e9.Day e9.Party r8 e9.Amount)) hrw10) cl 0 rfl)) ?_
  try rw[←cu hrw10 (f:=aa) (xs:=rw6)]
  refine cq 12 [1,34,35,36] [I (ac ((ac ((ac (x3.1+1))+1))+1)),.hs 1 0 [] 4 0 (rw10.map aa).length,I x3.2.1,I (ac ((ac ((ac (x3.1+1))+1))+1))] 562 ?_
  obtain⟨e13,he13,h⟩:=bS h
  refine oq 578 (.hp 1 0 [] 4 (0+Int.toNat x3.2.1) 0) rfl (ah rfl rfl rfl (aL (f:=aa) (xs:=rw10) rfl rfl rfl he13)) ?_
  refine cq 1 [38] [.hp 1 0 [] 4 (0+Int.toNat x3.2.1) 3] 594 ?_
  obtain⟨rw14,hrw14,h⟩:=lJ h
  refine o0 610 rfl rfl (dl rfl rfl (ch (path:=[]) (pl:=true) (e':=.agg [I e13.Day,I e13.Party,str e13.Action,I (ac ((ac ((ac (x3.1+1))+1))+1))]) (es2':=(rw14).map aa) rfl (ap rfl) rfl rfl rfl aw (aB (f:=aa) (xs:=rw10) he13) rfl rfl rfl (dB (f:=aa) (xs:=rw10) (y:=(Event.mk e13.Day e13.Party e13.Action (ac ((ac ((ac (x3.1+1))+1))+1)))) hrw14) cl 0 rfl)) ?_
  try rw[←cu hrw14 (f:=aa) (xs:=rw10)]
  refine cq 12 [1,5] [I (ac ((ac ((ac ((ac (x3.1+1))+1))+1))+1)),I (ac (x3.2.1+1))] 706 ?_
  refine dm ?_
  exact rf [0,1,5] [1] (ih _ _ h hr hn :)
 ·refine aq 1 ?_
  exact rf [1] [1] (hn _ (al h) :) (hk:=hK)
theorem TR (a_6:List Event)(k_7:Int)(r:Int×(List Event))(h:zZ a_6 k_7=some r):bN I5 Tryz.f24 [true,false] 1 (Ck (a_6,k_7)) (Cl r):=by
 show Run _ _ (P7 (a_6,k_7) r) [.code P8] _
 refine rI 42 [(0,.hs 1 0 [] 4 0 (a_6.map aa).length),(1,I k_7)] [(1,some ⟨0,4,a_6.map aa⟩)] 2 ?_
 unfold zZ at h
 refine cq 10 [5] [I (0)] 34 ?_
 obtain⟨y18,hy18,hy181,hy182⟩:=bJ h
 refine bO rfl ?_
 refine rf [0,1,5] [1] (LA a_6 k_7 rfl (k_7,0,a_6) _ hy18 (fun r' e st hq=>by rw[hy181 r' e] at hq;exact hq) fun u18 hu=>?_)
 replace h:=hy182 u18 hu
 refine cq 5 [4] [I u18.1] 34 ?_
 obtain⟨g19,h⟩:=gG h
 obtain rfl:=sI h
 exact bR rfl ⟨_,fin (vs:=[I u18.1]) rfl (d6 (ap rfl) cX) rfl (fy rfl (gp (f:=aa) (xs:=u18.2) (by simpa using g19) rfl) (bH d4)),iA dX⟩
theorem P9 {G:cD}:ct G 24 Aa:=gT 2 1 (bb pr bP) cJ Tryz.func24 (fun a r h=>TR a.1 a.2 r h)
def Ca:((List Event)×Int)→List V:=cA (jX aa) (oA I)
def Cb (r:Int):V×List V:=(I r,[])
noncomputable def zT :=bA [false,false] Ca Cb fun x=>vC x.1 x.2
theorem PV {a_1:List Event}{k_2:Int}{r}(h:vC a_1 k_2=some r):zT.F (Ca (a_1,k_2))=some (Cb r):=aV (aY (ek ca) (aW bF)) h
noncomputable def PX :=aQ Tryz.f25
noncomputable def I2 :=cI [(53,mL)]
def PW (x:(List Event)×Int)(r:Int):St→Prop:=QF I2 Tryz.f25 [false,false] (Ca x) (Cb r)
theorem Lx (a_1:List Event)(k_2:Int):cf I2 0 (PW (a_1,k_2)) (cL (cL (cR (cL (cR PX))))) 0 (te a_1 k_2) (fun u=>(sT 50 [(1,I u)] [] 1)) fun x3=>(sT 50 [(0,.isl false (a_1.map aa)),(1,I x3.1),(5,I x3.2)] [] 1):=eu (yB a_1 k_2) fun {Q K} hK self ih x3 y h hr hn=>by
 unfold kP at h
 refine cq 5 [6,7] [I x3.2,.isl false (a_1.map aa)] 33 ?_
 refine oq 49 (I (len a_1)) rfl (cg rfl rfl rfl (du rfl)) ?_
 refine cq 2 [9] [B (decide (x3.2<(len a_1)))] 65 ?_
 refine sq h ?_ ?_<;>intro h
 ·refine aq 1 ?_
  refine cq 7 [12,13] [.isl false (a_1.map aa),I x3.2] 97 ?_
  obtain⟨e4,he4,h⟩:=bS h
  refine oq 113 (.iptr (aa e4) 0) rfl (ah rfl rfl rfl (cp rfl rfl rfl rfl he4)) ?_
  refine cq 5 [18] [B (e4.Day != x3.1)] 177 ?_
  refine sq h ?_ ?_<;>intro h
  ·refine cq 4 [4] [I (-1)] 193 ?_
   exact bR rfl (hr _ (al h) _ (qp [I (-1)]))
  ·refine aq 1 ?_
   refine cq 11 [1,21,22] [I (ac (x3.1+1)),.isl false (a_1.map aa),I x3.2] 257 ?_
   obtain⟨e5,he5,h⟩:=bS h
   refine oq 273 (.iptr (aa e5) 0) rfl (ah rfl rfl rfl (cp rfl rfl rfl rfl he5)) ?_
   refine cq 5 [27] [B (e5.Party != (ac (x3.1+1)))] 337 ?_
   refine sq h ?_ ?_<;>intro h
   ·refine cq 4 [4] [I (-1)] 353 ?_
    exact bR rfl (hr _ (al h) _ (qp [I (-1)]))
   ·refine aq 1 ?_
    refine cq 8 [1] [I (ac ((ac (x3.1+1))+1))] 385 ?_
    refine cn [0,0,3,7,15,0,32,127] rfl (by decide +kernel) ?_
    refine dk 2 [31,30] [I x3.2,.isl false (a_1.map aa)] ?_
    obtain⟨e6,he6,h⟩:=bS h
    refine dq [] [] (.iptr (aa e6) 0) rfl (ah rfl rfl rfl (cp rfl rfl rfl rfl he6)) ?_
    refine dq [] [] (.iptr (aa e6) 2) rfl (cW rfl rfl rfl) ?_
    refine dq [] [] (str e6.Action) rfl (bm rfl rfl) ?_
    refine dk 1 [35] [I (ac ((ac (x3.1+1))+1))] ?_
    obtain⟨r7,hr7,h⟩:=bS h
    refine dq [] [] (str r7) rfl (cP (nF hr7)) ?_ (dK rfl rfl rfl rfl (ba (bl rfl) cS) (nF hr7) (.inr rfl) rfl)
    refine dk 1 [37] [B (!(e6.Action==r7))] ?_
    refine de 513 rfl rfl ?_
    refine sq h ?_ ?_<;>intro h
    ·refine cq 4 [4] [I (-1)] 529 ?_
     exact bR rfl (hr _ (al h) _ (qp [I (-1)]))
    ·refine aq 1 ?_
     refine cq 11 [1,40,41] [I (ac ((ac ((ac (x3.1+1))+1))+1)),.isl false (a_1.map aa),I x3.2] 593 ?_
     obtain⟨e8,he8,h⟩:=bS h
     refine oq 609 (.iptr (aa e8) 0) rfl (ah rfl rfl rfl (cp rfl rfl rfl rfl he8)) ?_
     refine cq 5 [46] [B (e8.Amount != (ac ((ac ((ac (x3.1+1))+1))+1)))] 673 ?_
     refine sq h ?_ ?_<;>intro h
     ·refine cq 4 [4] [I (-1)] 689 ?_
      exact bR rfl (hr _ (al h) _ (qp [I (-1)]))
     ·refine aq 1 ?_
      refine cq 11 [1,5] [I (ac ((ac ((ac ((ac (x3.1+1))+1))+1))+1)),I (ac (x3.2+1))] 769 ?_
      refine dm ?_
      exact rf [0,1,5] [] (ih _ _ h hr hn :)
 ·refine aq 1 ?_
  exact rf [1] [] (hn _ (al h) :) (hk:=hK)
theorem TL (a_1:List Event)(k_2:Int)(r:Int)(h:vC a_1 k_2=some r):bN I2 Tryz.f25 [false,false] 0 (Ca (a_1,k_2)) (Cb r):=by
 show Run _ _ (PW (a_1,k_2) r) [.code PX] _
 refine rI 50 [(0,.isl false (a_1.map aa)),(1,I k_2)] [] 1 ?_
 unfold vC at h
 refine cq 10 [5] [I (0)] 33 ?_
 obtain⟨y9,hy9,hy91,hy92⟩:=bJ h
 refine bO rfl ?_
 refine rf [0,1,5] [] (Lx a_1 k_2 rfl (k_2,0) _ hy9 (fun r' e st hq=>by rw[hy91 r' e] at hq;exact hq) fun u9 hu=>?_)
 replace h:=hy92 u9 hu
 refine cq 5 [4] [I u9] 33 ?_
 obtain rfl:=sI h
 exact rP [I u9]
theorem PY {G:cD}:ct G 25 zT:=gT 2 0 (bb pr bP) cJ Tryz.func25 (fun a r h=>TL a.1 a.2 r h)
def iq:Contract→List V:=oA bn
def ir (r:Bool):V×List V:=(B r,[])
noncomputable def jc :=bA [false] iq ir fun x=>fX x
theorem ue {gN:Contract}{r}(h:fX gN=some r):jc.F (iq gN)=some (ir r):=aV (aW co) h
noncomputable def fE :=aQ Tryz.f5
noncomputable abbrev hZ :=cR (cR (cR (cR (cR (cR (cR (cR (cR (cR (cR (cR fE)))))))))))
noncomputable abbrev my :=cR (cL (cR (cR (cR (cR (cR (cR (cR (cR (cR (cR (cR fE))))))))))))
noncomputable def fD :=cI [(6,Al),(8,Aw),(21,A7),(22,Gd),(23,zQ),(11,zO),(12,zY),(24,Aa),(25,zT)]
def eT (x:Contract)(r:Bool):St→Prop:=QF fD Tryz.f5 [false] (iq x) (ir r)
theorem ru (gN:Contract)(r:Bool)(h:fX gN=some r):bN fD Tryz.f5 [false] 0 (iq gN) (ir r):=by
 show Run _ _ (eT gN r) [.code fE] _
 refine rI 96 [(0,bn gN)] [] 1 ?_
 unfold fX at h
 refine ck 13 [1,14,15] [] [1] [] [.hp 1 0 [] 2 0 0,bn gN,I (1048576)] [some ⟨0,2,[bn gN]⟩] 81 (by kernel_rfl) ?_
 obtain⟨r2,hr2,h⟩:=bS h
 refine oq 97 (I r2) rfl (cP (YU hr2)) ?_
 refine cq 8 [18] [B (decide (r2<0))] 145 ?_
 refine sq h ?_ ?_<;>intro h
 ·refine cq 4 [2] [B true] 161 ?_
  obtain rfl:=sI h
  exact rP [B true]
 ·refine aq 1 ?_
  refine cq 3 [20] [bn gN] 161 ?_
  obtain⟨r3,hr3,h⟩:=bS h
  refine oq 177 (.agg [.hs 161 0 [] 1 0 (r3.Parties.map str).length,.hs 162 0 [] 12 0 (r3.Clauses.map aj).length]) rfl (cP (vO hr3)) ?_
  obtain⟨r4,hr4,h⟩:=bS h
  refine oq 193 (.tup [.hs 177 0 [] 4 0 (r4.1.map aa).length,B r4.2]) rfl (bC rfl rfl (bW rfl rfl rfl (ba (HA (pT (f9 (f:=str) (g:=str) (xs:=r3.Parties) rfl rfl (eh nC)) (pT (f9 (f:=aj) (g:=aA) (xs:=r3.Clauses) rfl rfl (eh gB)) HB))) cS) (ZG hr4) (.inl (by simp[di,dR,str,qY (f:=aa) l8])) dE rfl rfl rfl)) ?_
  refine cq 9 [4,5,25] [.hs 177 0 [] 4 0 (r4.1.map aa).length,B r4.2,bn gN] 289 ?_
  obtain⟨r5,hr5,h⟩:=bS h
  refine oq 305 (.agg [.hs 289 0 [] 1 0 (r5.Parties.map str).length,.hs 290 0 [] 12 0 (r5.Clauses.map aj).length]) rfl (cP (vO hr5)) ?_
  refine ck 1 [6] [] [305] [] [.hp 305 0 [] 2 0 0] [some ⟨0,2,[.agg [.isl true [],.isl true []]]⟩] 321 (by kernel_rfl) ?_
  refine gJ 305 [.agg [.usl 1 (([]).map str),.usl 12 (([]).map aj)]] rfl rfl (aN (iH (aN (.nil _) (aN (.nil _) fp))) fp) ?_
  refine o0 337 rfl rfl (dl rfl rfl (ch (path:=[]) (pl:=false) (e':=ko r5) (es2':=[ko r5]) rfl (qO (dM (eg rfl rfl) (dM (eg rfl rfl) qP))) rfl rfl rfl aw rfl rfl rfl rfl rfl cl 2 rfl)) ?_
  refine cq 4 [28] [.agg [.hs 305 2 [(0,0)] 1 0 (r5.Parties.map str).length,.hs 305 2 [(0,1)] 12 0 (r5.Clauses.map aj).length]] 353 ?_
  obtain⟨r6,hr6,h⟩:=bS h
  refine oq 369 (.tup [.hs 353 0 [] 4 0 (r6.1.map aa).length,B r6.2]) rfl (bC rfl rfl (bW rfl rfl rfl (ba (HA (pT (yk (path:=[(0,0)]) rfl rfl (iO rfl rfl aw) rfl (eh (f:=str) nC)) (pT (yk (path:=[(0,1)]) rfl rfl (iO rfl rfl aw) rfl (eh (f:=aj) gB)) HB))) cS) (WA hr6) (.inl (by simp[di,dR,str,qY (f:=aa) l8])) dE rfl rfl rfl)) ?_
  refine cq 11 [7,8,32,33] [.hs 353 0 [] 4 0 (r6.1.map aa).length,B r6.2,.hs 353 0 [] 4 0 (r6.1.map aa).length,.hs 177 0 [] 4 0 (r4.1.map aa).length] 481 ?_
  obtain⟨r7,hr7,h⟩:=bS h
  refine oq 497 (B r7) rfl (bC rfl rfl (bW rfl rfl rfl (ba (ul rfl rfl (f9 (f:=aa) (g:=aa) (xs:=r6.1) rfl rfl (eh fK))) (ba (ul rfl rfl (f9 (f:=aa) (g:=aa) (xs:=r4.1) rfl rfl (eh fK))) cS)) (I0 hr7) (.inl rfl) dE rfl rfl rfl)) ?_
  refine cq 2 [36] [B (!r7)] 529 ?_
  obtain⟨u8,hu8,h⟩:=lJ h
  have j8:Run fD 0 (eT gN r) (.code (cR (cL (cR (cR (cR (cR (cR (cR (cR fE)))))))))::.code (cR (cR (cR (cR (cR (cR (cR (cR fE))))))))::[]) (sT 96 [(1,.hp 1 0 [] 2 0 0),(4,.hs 2 0 [] 4 0 (r4.1.map aa).length),(5,B r4.2),(6,.hp 3 0 [] 2 0 0),(7,.hs 4 0 [] 4 0 (r6.1.map aa).length),(8,B r6.2),(40,B u8)] [⟨0,2,[bn gN]⟩,⟨0,4,r4.1.map aa⟩,⟨0,2,[ko r5]⟩,⟨0,4,r6.1.map aa⟩] 5):=by
   refine sq h ?_ ?_<;>intro h
   ·refine cq 4 [2] [B false] 21 ?_
    obtain rfl:=sI h
    exact rP [B false]
   ·refine aq 1 ?_
    refine aq 2 ?_
    refine cn [0,0,2,7,15] rfl (by decide +kernel) ?_
    refine dq [3] [] (.agg [.hs 3 0 [(0,0)] 1 0 (r5.Parties.map str).length,.hs 3 0 [(0,1)] 12 0 (r5.Clauses.map aj).length]) rfl (bm rfl rfl) ?_
    refine dq [1] [] (bn gN) rfl (bm rfl rfl) ?_
    obtain⟨r9,hr9,h⟩:=bS h
    refine dq [] [] (.agg [.hs 37 0 [] 1 0 (r9.Parties.map str).length,.hs 38 0 [] 12 0 (r9.Clauses.map aj).length]) rfl (cP (vO hr9)) ?_ (dK rfl rfl rfl rfl (ba (bl rfl) cS) (vO hr9) (.inr rfl) rfl)
    obtain⟨r10,hr10,h⟩:=bS h
    refine dq [3,3,37,38] [] (B r10) rfl (bC rfl rfl (bW rfl rfl rfl (ba (HA (pT (yk (path:=[(0,0)]) rfl rfl (iO rfl rfl aw) rfl (eh (f:=str) nC)) (pT (yk (path:=[(0,1)]) rfl rfl (iO rfl rfl aw) rfl (eh (f:=aj) gB)) HB))) (ba (HA (pT (f9 (f:=str) (g:=str) (xs:=r9.Parties) rfl rfl (eh nC)) (pT (f9 (f:=aj) (g:=aA) (xs:=r9.Clauses) rfl rfl (eh gB)) HB))) cS)) (PK hr10) (.inl rfl) dE rfl rfl rfl)) ?_ (dK rfl rfl rfl rfl (ba (HA (pT (yk (path:=[(0,0)]) rfl rfl (iO rfl rfl aw) rfl (eh (f:=str) nC)) (pT (yk (path:=[(0,1)]) rfl rfl (iO rfl rfl aw) rfl (eh (f:=aj) gB)) HB))) (ba (HA (pT (f9 (f:=str) (g:=str) (xs:=r9.Parties) rfl rfl (eh nC)) (pT (f9 (f:=aj) (g:=aA) (xs:=r9.Clauses) rfl rfl (eh gB)) HB))) cS)) (PK hr10) (.inl rfl) rfl)
    refine dk 1 [45] [B (!r10)] ?_
    refine de 85 rfl rfl ?_
    refine sq h ?_ ?_<;>intro h
    ·refine cq 4 [2] [B false] 101 ?_
     obtain rfl:=sI h
     exact rP [B false]
    ·refine aq 1 ?_
     refine cq 8 [46,47] [.agg [.hs 3 0 [(0,0)] 1 0 (r5.Parties.map str).length,.hs 3 0 [(0,1)] 12 0 (r5.Clauses.map aj).length],I (1)] 133 ?_
     obtain⟨r11,hr11,h⟩:=bS h
     refine Lb 46 0 (path:=[(0,0)]) (.agg [.hs 133 0 [] 1 0 (r5.Parties.map str).length,.hs 3 0 [(0,1)] 12 0 (r5.Clauses.map aj).length]) 149 rfl rfl rfl rfl rfl (iO rfl rfl aw) (sY (path:=[]) (i:=0) (k:=0) (e':=.agg [.dead,.usl 12 (r5.Clauses.map aj)]) (es2':=[.agg [.dead,.usl 12 (r5.Clauses.map aj)]]) aw rfl rfl rfl cl) rfl rfl ?_
     refine Lb 46 1 (path:=[(0,1)]) (.agg [.hs 133 0 [] 1 0 (r5.Parties.map str).length,.hs 149 0 [] 12 0 (r5.Clauses.map aj).length]) 165 rfl rfl rfl rfl rfl (iO rfl rfl aw) (sY (path:=[]) (i:=0) (k:=1) (e':=.agg [.dead,.dead]) (es2':=[.agg [.dead,.dead]]) aw rfl rfl rfl cl) rfl rfl ?_
     refine oq 181 (I r11) rfl (bC rfl rfl (bW rfl rfl rfl (gm (hdA (hdC (eP (path:=[]) rfl rfl aw rfl) (hdC (eP (path:=[]) rfl rfl aw rfl) hdN))) (ba (bl rfl) cS)) (YH hr11) (.inr rfl) (fi rfl rfl rfl kB (abH rfl rfl rfl dE)) rfl rfl rfl)) ?_
     refine cq 8 [51] [B (decide (r11<0))] 245 ?_
     obtain⟨y12,hy12,hy121,hy122⟩:=bJ h
     have j12:∀u12,y12=.inr u12→Run fD 0 (eT gN r) (.code my::.code hZ::[]) (sT 96 [(1,.hp 1 0 [] 2 0 0),(4,.hs 2 0 [] 4 0 (r4.1.map aa).length),(5,B r4.2),(7,.hs 3 0 [] 4 0 (r6.1.map aa).length),(61,B u12)] [⟨0,2,[bn gN]⟩,⟨0,4,r4.1.map aa⟩,⟨0,4,r6.1.map aa⟩] 4):=by
      intro u12 hu
      replace h:=hy122 u12 hu
      refine sq h ?_ ?_<;>intro h
      ·refine cq 4 [2] [B false] 20 ?_
       obtain rfl:=sI h
       exact rP [B false]
      ·refine aq 1 ?_
       refine cq 8 [62,63] [.hs 3 0 [] 4 0 (r6.1.map aa).length,I (1)] 52 ?_
       obtain⟨r13,hr13,h⟩:=bS h
       obtain⟨g14,h⟩:=gG h
       refine oq 68 (I r13.1) rfl (bC rfl rfl (bW rfl rfl rfl (gm (ge rfl (eP (path:=[]) rfl rfl aw rfl)) (ba (bl rfl) cS)) (YK hr13) (.inr rfl) (fi rfl rfl rfl rfl dE) rfl rfl rfl)) ?_
       try rw[eU (f:=aa) (xs:=r6.1) (ys:=r13.2) g14]
       refine cq 10 [10,65,66] [I r13.1,.hs 3 0 [] 4 0 (r13.2.map aa).length,I (1)] 132 ?_
       obtain⟨r15,hr15,h⟩:=bS h
       refine oq 148 (I r15) rfl (bC rfl rfl (bW rfl rfl rfl (ba (ul rfl rfl (f9 (f:=aa) (g:=aa) (xs:=r13.2) rfl rfl (eh fK))) (ba (bl rfl) cS)) (PV hr15) (.inl rfl) dE rfl rfl rfl)) ?_
       refine cq 8 [11,69] [I r15,B (decide (r15<0))] 196 ?_
       refine sq h ?_ ?_<;>intro h
       ·refine cq 4 [2] [B false] 212 ?_
        obtain rfl:=sI h
        exact rP [B false]
       ·refine aq 1 ?_
        refine cq 7 [72] [B (r15 != r13.1)] 244 ?_
        refine sq h ?_ ?_<;>intro h
        ·refine cq 4 [2] [B false] 260 ?_
         obtain rfl:=sI h
         exact rP [B false]
        ·refine aq 1 ?_
         refine cq 3 [74] [bn gN] 260 ?_
         obtain⟨r16,hr16,h⟩:=bS h
         refine oq 276 (.agg [.hs 260 0 [] 1 0 (r16.Parties.map str).length,.hs 261 0 [] 12 0 (r16.Clauses.map aj).length]) rfl (cP (vO hr16)) ?_
         obtain⟨r17,hr17,h⟩:=bS h
         refine oq 292 (.tup [.hs 276 0 [] 4 0 (r17.1.map aa).length,B r17.2]) rfl (bC rfl rfl (bW rfl rfl rfl (ba (HA (pT (f9 (f:=str) (g:=str) (xs:=r16.Parties) rfl rfl (eh nC)) (pT (f9 (f:=aj) (g:=aA) (xs:=r16.Clauses) rfl rfl (eh gB)) HB))) cS) (WA hr17) (.inl (by simp[di,dR,str,qY (f:=aa) l8])) dE rfl rfl rfl)) ?_
         refine cq 11 [13,79,80] [B r17.2,.hs 276 0 [] 4 0 (r17.1.map aa).length,.hs 2 0 [] 4 0 (r4.1.map aa).length] 404 ?_
         obtain⟨r18,hr18,h⟩:=bS h
         refine oq 420 (B r18) rfl (bC rfl rfl (bW rfl rfl rfl (ba (ul rfl rfl (f9 (f:=aa) (g:=aa) (xs:=r17.1) rfl rfl (eh fK))) (ba (ul rfl rfl (f9 (f:=aa) (g:=aa) (xs:=r4.1) rfl rfl (eh fK))) cS)) (I0 hr18) (.inl rfl) dE rfl rfl rfl)) ?_
         refine cq 2 [83] [B (!r18)] 452 ?_
         obtain⟨u19,hu19,h⟩:=lJ h
         have j19:Run fD 0 (eT gN r) (.code (cR (cL (cR (cR (cR (cR (cR (cR (cR hZ)))))))))::.code (cR (cR (cR (cR (cR (cR (cR (cR hZ))))))))::[]) (sT 96 [(7,.hs 1 0 [] 4 0 (r13.2.map aa).length),(10,I r13.1),(87,B u19)] [⟨0,4,r13.2.map aa⟩] 2):=by
          refine sq h ?_ ?_<;>intro h
          ·refine cq 4 [2] [B false] 18 ?_
           obtain rfl:=sI h
           exact rP [B false]
          ·refine aq 1 ?_
           refine cq 8 [88,89] [.hs 1 0 [] 4 0 (r13.2.map aa).length,I (1)] 50 ?_
           obtain⟨r20,hr20,h⟩:=bS h
           refine oq 66 (I r20) rfl (bC rfl rfl (bW rfl rfl rfl (ba (ul rfl rfl (f9 (f:=aa) (g:=aa) (xs:=r13.2) rfl rfl (eh fK))) (ba (bl rfl) cS)) (PV hr20) (.inl rfl) dE rfl rfl rfl)) ?_
           refine cq 8 [11,92] [I r20,B (decide (r20<0))] 114 ?_
           refine sq h ?_ ?_<;>intro h
           ·refine cq 4 [2] [B false] 130 ?_
            obtain rfl:=sI h
            exact rP [B false]
           ·refine aq 1 ?_
            refine cq 7 [95] [B (r20 != r13.1)] 162 ?_
            refine sq h ?_ ?_<;>intro h
            ·refine cq 4 [2] [B false] 178 ?_
             obtain rfl:=sI h
             exact rP [B false]
            ·refine aq 1 ?_
             refine cq 4 [2] [B true] 178 ?_
             obtain rfl:=sI h
             exact rP [B true]
         replace h:=hu19
         clear hu19
         refine sp 83 h rfl ?_ ?_<;>intro h
         ·refine cq 5 [87] [B true] 516 ?_
          subst h
          exact rf [7,10,87] [3] (j19 :)
         ·refine cq 5 [87] [B (!(r17.2==r4.2))] 516 ?_
          subst h
          exact rf [7,10,87] [3] (j19 :)
     have r12:∀r',y12=.inl r'→∀st,eT gN r' st→(eT gN r) st:=fun r' e st hq=>by rw[hy121 r' e] at hq;exact hq
     replace h:=hy12
     refine sp 51 h rfl ?_ ?_<;>intro h
     ·refine cq 11 [61] [B true] 405 ?_
      exact rf [1,4,5,7,61] [1,2,4] (j12 _ (al h) :)
     ·refine cq 2 [52,53] [.hs 4 0 [] 4 0 (r6.1.map aa).length,.hs 2 0 [] 4 0 (r4.1.map aa).length] 277 ?_
      obtain⟨r21,hr21,h⟩:=bS h
      refine oy 293 (B r21) rfl (bC rfl rfl (bW rfl rfl rfl (ba (ul rfl rfl (f9 (f:=aa) (g:=aa) (xs:=r6.1) rfl rfl (eh fK))) (ba (ul rfl rfl (f9 (f:=aa) (g:=aa) (xs:=r4.1) rfl rfl (eh fK))) cS)) (I0 hr21) (.inl rfl) dE rfl rfl rfl)) ?_
      refine cq 3 [57] [B (!r21)] 341 ?_
      obtain⟨u22,hu22,h⟩:=lJ h
      have j22:Run fD 0 (eT gN r) (.code my::.code hZ::[]) (sT 96 [(1,.hp 1 0 [] 2 0 0),(4,.hs 2 0 [] 4 0 (r4.1.map aa).length),(5,B r4.2),(7,.hs 3 0 [] 4 0 (r6.1.map aa).length),(61,B u22)] [⟨0,2,[bn gN]⟩,⟨0,4,r4.1.map aa⟩,⟨0,4,r6.1.map aa⟩] 4):=by
       exact rf [1,4,5,7,61] [1,2,3] (j12 _ (al h) :)
      replace h:=hu22
      clear hu22
      refine sp 57 h rfl ?_ ?_<;>intro h
      ·refine cq 5 [61] [B true] 405 ?_
       subst h
       exact rf [1,4,5,7,61] [1,2,4] (j22 :)
      ·refine cq 5 [61] [B (!(r6.2==r4.2))] 405 ?_
       subst h
       exact rf [1,4,5,7,61] [1,2,4] (j22 :)
  replace h:=hu8
  clear hu8
  refine sp 36 h rfl ?_ ?_<;>intro h
  ·refine cq 5 [40] [B true] 593 ?_
   subst h
   exact rf [1,4,5,6,7,8,40] [1,177,305,353] (j8 :)
  ·refine cq 5 [40] [B (!(r6.2==r4.2))] 593 ?_
   subst h
   exact rf [1,4,5,6,7,8,40] [1,177,305,353] (j8 :)
theorem rd {G:cD}:ct G 5 jc:=gT 1 0 (bb Qq (bb QG (bb Rr (bb U7 (bb PR (bb PL (bb P6 (bb P9 (bb PY bP))))))))) cJ Tryz.func5 (fun a r h=>ru a r h)
end Go.Ln
