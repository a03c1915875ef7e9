/-
  The walks.
-/
import Derived.Test.YtoghefkinobihaaDoorFnImplicationsFun
import Derived.Test.YtoghefkinobihaaDoorChecked
set_option maxHeartbeats 4000000
set_option linter.unusedVariables false
set_option linter.unusedSimpArgs false
set_option maxRecDepth 100000
namespace Go.Ln
open Go Go.Proofs
noncomputable abbrev d3:=Checked.mixed Tryd.checked
abbrev dN:=Go.Ln.Ground
abbrev dS (G:dN):=fk Tryd.prog G
noncomputable abbrev dZ:=KL Tryd.prog
def nG:(List Int)→List V:=oA (pU (V.int .u8))
def nH (r:Bool):V×List V:=(B r,[])
noncomputable def ou :=bI [false] nG nH fun x=>mb x
theorem GD {aI:List Int}{r}(h:mb aI=some r):ou.F (nG aI)=some (nH r):=bg (bl (fN (jF (k:=.u8)))) h
noncomputable def GF :=bc Tryd.f4
noncomputable def wI :=dZ []
def GE (x:(List Int))(r:Bool):St→Prop:=QF wI Tryd.f4 [false] (nG x) (nH r)
theorem Dr (aI:List Int)(r:Bool)(h:mb aI=some r):ct wI Tryd.f4 [false] 0 (nG aI) (nH r):=by
 show Run _ _ (GE aI r) [.code GF] _
 refine rI 6 [(0,.isl false (aI.map (V.int .u8)))] [] 1 ?_
 unfold mb at h
 refine cq 7 [3] [.isl false (aI.map (V.int .u8))] 33 ?_
 refine oq 49 (I (len aI)) rfl (dD rfl rfl rfl (fX rfl)) ?_
 refine cq 3 [2] [B (decide ((len aI)>65536))] 81 ?_
 obtain rfl:=sI h
 exact rP [B (decide ((len aI)>65536))]
theorem B9 {G:dN}:dS G 4 ou:=gT 1 0 cJ d3 Tryd.func4 (fun a r h=>Dr a r h)
def yM:l1Cur→List V:=oA (tq eR)
def yO (r:Int×l1Cur):V×List V:=(I r.1,[.uptr (bZ r.2)])
noncomputable def xj :=bI [true] yM yO fun x=>tD x
theorem Jg {c_3:l1Cur}{r}(h:tD c_3=some r):xj.F (yM c_3)=some (yO r):=bg (bl (gS d9)) h
noncomputable def Jh :=bc Tryd.f37
noncomputable def EG :=dZ []
def yN (x:l1Cur)(r:Int×l1Cur):St→Prop:=QF EG Tryd.f37 [true] (yM x) (yO r)
theorem Lq (c_3:l1Cur)(r:Int×l1Cur)(h:tD c_3=some r):ct EG Tryd.f37 [true] 1 (yM c_3) (yO r):=by
 show Run _ _ (yN c_3 r) [.code Jh] _
 refine rI 62 [(0,.hp 1 0 [] 3 0 0)] [(1,some ⟨0,3,[bZ c_3]⟩)] 2 ?_
 unfold tD at h
 refine cq 10 [3] [I (0)] 34 ?_
 refine eX [0,1,3,7,0,16,48,112,240,511] rfl (by decide +kernel) ?_
 refine dk 1 [4] [.hp 1 0 [] 3 0 0] ?_
 refine dq [1] [] (.hp 1 0 [] 3 0 0) rfl (kN rfl rfl) ?_
 refine dq [1] [] (.hp 1 0 [] 3 0 1) rfl (ez rfl rfl rfl) ?_
 refine dq [1] [] (I c_3.f_at) rfl (cZ rfl rfl) ?_
 refine dk 1 [8] [.hp 1 0 [] 3 0 0] ?_
 refine dq [1] [] (.hp 1 0 [] 3 0 0) rfl (kN rfl rfl) ?_
 refine dq [1] [] (.hp 1 0 [] 3 0 0) rfl (ez rfl rfl rfl) ?_
 refine dq [1] [] (.isl false (c_3.f_code.map (V.int .u8))) rfl (cZ rfl rfl) ?_
 refine dq [] [] (I (len c_3.f_code)) rfl (dD rfl rfl rfl (fX rfl)) ?_
 refine dk 1 [13] [B (decide (c_3.f_at<(len c_3.f_code)))] ?_
 refine de 194 rfl rfl ?_
 obtain⟨y2,hy2,hy21,hy22⟩:=bJ h
 have j2:∀u2,y2=.inr u2→Run EG 1 (yN c_3 r) (.code (cR (cR (cR Jh)))::[]) (sT 62 [(0,.hp 1 0 [] 3 0 0),(3,I u2)] [⟨0,3,[bZ c_3]⟩] 2):=by
  intro u2 hu
  replace h:=hy22 u2 hu
  refine ck 29 [] [] [1] [] [] [some ⟨0,3,[.agg [.isl false (c_3.f_code.map (V.int .u8)),I (aG (c_3.f_at+1)),.int .u64 (IntKind.u64.wrap ((IntKind.u64.wrap ((IntKind.u64.wrap (c_3.f_seed*6364136223846793005))+(IntKind.u64.wrap u2)))+902902))]]⟩] 338 (by kernel_rfl) ?_
  refine eX [0,1,3,7,0,16,48,112,240,511] rfl (by decide +kernel) ?_
  refine dk 1 [44] [.hp 1 0 [] 3 0 0] ?_
  refine dq [1] [] (.hp 1 0 [] 3 0 0) rfl (kN rfl rfl) ?_
  refine dq [1] [] (.hp 1 0 [] 3 0 1) rfl (ez rfl rfl rfl) ?_
  refine dq [1] [] (I (aG (c_3.f_at+1))) rfl (cZ rfl rfl) ?_
  refine dk 1 [48] [.hp 1 0 [] 3 0 0] ?_
  refine dq [1] [] (.hp 1 0 [] 3 0 0) rfl (kN rfl rfl) ?_
  refine dq [1] [] (.hp 1 0 [] 3 0 0) rfl (ez rfl rfl rfl) ?_
  refine dq [1] [] (.isl false (c_3.f_code.map (V.int .u8))) rfl (cZ rfl rfl) ?_
  refine dq [] [] (I (len c_3.f_code)) rfl (dD rfl rfl rfl (fX rfl)) ?_
  refine dk 1 [53] [B (decide ((aG (c_3.f_at+1))≤(len c_3.f_code)))] ?_
  refine de 498 rfl rfl ?_
  refine sq h ?_ ?_<;>intro h
  ·refine cq 5 [2] [I u2] 530 ?_
   obtain rfl:=sI h
   exact bV rfl ⟨_,fin (vs:=[I u2]) rfl (cF (dh rfl) cl) rfl (eV rfl (gq rfl rfl) d4),iO dW⟩
  ·refine aq 1 ?_
   refine cq 11 [2] [I (IntKind.i64.wrap (lc .u64 (oC .u64 (IntKind.u64.wrap ((IntKind.u64.wrap ((IntKind.u64.wrap (c_3.f_seed*6364136223846793005))+(IntKind.u64.wrap u2)))+902902)) 40) 255))] 626 ?_
   obtain rfl:=sI h
   exact bV rfl ⟨_,fin (vs:=[I (IntKind.i64.wrap (lc .u64 (oC .u64 (IntKind.u64.wrap ((IntKind.u64.wrap ((IntKind.u64.wrap (c_3.f_seed*6364136223846793005))+(IntKind.u64.wrap u2)))+902902)) 40) 255))]) rfl (cF (dh rfl) cl) rfl (eV rfl (gq rfl rfl) d4),iO dW⟩
 have r2:∀r',y2=.inl r'→∀st,yN c_3 r' st→(yN c_3 r) st:=fun r' e st hq=>by rw[hy21 r' e] at hq;exact hq
 replace h:=hy2
 refine sq h ?_ ?_<;>intro h
 ·refine eX [0,1,3,7,0,16,48,112,255,511,1023,2047] rfl (by decide +kernel) ?_
  refine dk 1 [14] [.hp 1 0 [] 3 0 0] ?_
  refine dq [1] [] (.hp 1 0 [] 3 0 0) rfl (kN rfl rfl) ?_
  refine dq [1] [] (.hp 1 0 [] 3 0 0) rfl (ez rfl rfl rfl) ?_
  refine dq [1] [] (.isl false (c_3.f_code.map (V.int .u8))) rfl (cZ rfl rfl) ?_
  refine dk 1 [18] [.hp 1 0 [] 3 0 0] ?_
  refine dq [1] [] (.hp 1 0 [] 3 0 0) rfl (kN rfl rfl) ?_
  refine dq [1] [] (.hp 1 0 [] 3 0 1) rfl (ez rfl rfl rfl) ?_
  refine dq [1] [] (I c_3.f_at) rfl (cZ rfl rfl) ?_
  obtain⟨e3,he3,h⟩:=bS h
  refine dq [] [] (.iptr (.int .u8 e3) 0) rfl (aJ rfl rfl rfl (dV rfl rfl rfl rfl he3)) ?_
  refine dq [] [] (.int .u8 e3) rfl (cZ rfl rfl) ?_
  refine dq [] [] (I (IntKind.i64.wrap e3)) rfl (P1 rfl rfl) ?_
  refine dk 1 [3] [I (IntKind.i64.wrap e3)] ?_
  refine de 386 rfl rfl ?_
  exact rf [0,3] [1] (j2 _ (an h) :)
 ·refine aq 1 ?_
  exact rf [0,3] [1] (j2 _ (an h) :)
theorem Ji {G:dN}:dS G 37 xj:=gT 1 1 cJ d3 Tryd.func37 (fun a r h=>Lq a r h)
def yU:(l1Cur×Int)→List V:=cA (tq eR) (oA I)
def yW (r:Int×l1Cur):V×List V:=(I r.1,[.uptr (bZ r.2)])
noncomputable def gO :=bI [true,false] yU yW fun x=>gN x.1 x.2
theorem gU {c_3:l1Cur}{n_4:Int}{r}(h:gN c_3 n_4=some r):gO.F (yU (c_3,n_4))=some (yW r):=bg (cr (gS d9) (bl ey)) h
noncomputable def Jl :=bc Tryd.f14
noncomputable def EI :=dZ [(37,xj)]
def yV (x:l1Cur×Int)(r:Int×l1Cur):St→Prop:=QF EI Tryd.f14 [true,false] (yU x) (yW r)
theorem Lu (c_3:l1Cur)(n_4:Int)(r:Int×l1Cur)(h:gN c_3 n_4=some r):ct EI Tryd.f14 [true,false] 1 (yU (c_3,n_4)) (yW r):=by
 show Run _ _ (yV (c_3,n_4) r) [.code Jl] _
 refine rI 20 [(0,.hp 1 0 [] 3 0 0),(1,I n_4)] [(1,some ⟨0,3,[bZ c_3]⟩)] 2 ?_
 unfold gN at h
 refine cq 10 [7] [B (decide (n_4≤1))] 50 ?_
 refine sq h ?_ ?_<;>intro h
 ·refine cq 4 [4] [I (0)] 66 ?_
  obtain rfl:=sI h
  exact bV rfl ⟨_,fin (vs:=[I (0)]) rfl (cF (dh rfl) cl) rfl (eV rfl (gq rfl rfl) (eI d4)),iO dW⟩
 ·refine aq 1 ?_
  refine cq 3 [8] [.hp 1 0 [] 3 0 0] 66 ?_
  obtain⟨r3,hr3,h⟩:=bS h
  refine oq 82 (I r3.1) rfl (ao rfl rfl (aB rfl rfl rfl (cd (b7 rfl (cO (path:=[]) rfl rfl al)) bb) (Jg hr3) (.inr rfl) (cf rfl rfl rfl rfl aY) rfl rfl rfl)) ?_
  refine cq 8 [5,11] [I r3.1,B (decide (n_4>200))] 130 ?_
  obtain⟨y4,hy4,hy41,hy42⟩:=bJ h
  have j4:∀u4,y4=.inr u4→Run EI 1 (yV (c_3,n_4) r) (.code (cR (cR (cR (cR Jl))))::[]) (sT 20 [(1,I n_4),(5,I u4.1)] [⟨0,3,[.agg [.isl false (u4.2.1.map (V.int .u8)),I u4.2.2.1,.int .u64 u4.2.2.2]]⟩] 2):=by
   intro u4 hu
   replace h:=hy42 u4 hu
   refine cq 4 [17,18] [I u4.1,I n_4] 34 ?_
   obtain⟨q5,hq5,h⟩:=bS h
   refine oq 50 (I q5) rfl (nD rfl rfl (QY hq5)) ?_
   refine cq 2 [4] [I q5] 66 ?_
   obtain rfl:=sI h
   exact bV rfl ⟨_,fin (vs:=[I q5]) rfl (cF (dh rfl) cl) rfl (eV rfl (gq rfl rfl) (eI d4)),iO dW⟩
  have r4:∀r',y4=.inl r'→∀st,yV (c_3,n_4) r' st→(yV (c_3,n_4) r) st:=fun r' e st hq=>by rw[hy41 r' e] at hq;exact hq
  replace h:=hy4
  refine sq h ?_ ?_<;>intro h
  ·refine cq 4 [13,14] [I (aG (r3.1*256)),.hp 1 0 [] 3 0 0] 178 ?_
   obtain⟨r6,hr6,h⟩:=bS h
   refine oq 194 (I r6.1) rfl (ao rfl rfl (aB rfl rfl rfl (cd (b7 rfl (cO (path:=[]) rfl rfl al)) bb) (Jg hr6) (.inr rfl) (cf rfl rfl rfl rfl aY) rfl rfl rfl)) ?_
   refine cq 3 [5] [I (aG ((aG (r3.1*256))+r6.1))] 226 ?_
   exact rf [1,5] [1] (j4 _ (an h) :)
  ·refine aq 1 ?_
   exact rf [1,5] [1] (j4 _ (an h) :)
theorem hY {G:dN}:dS G 14 gO:=gT 2 1 (aV Ji cJ) d3 Tryd.func14 (fun a r h=>Lu a.1 a.2 r h)
def yS:(l1Cur×Int)→List V:=cA (tq eR) (oA I)
def yT (r:Bool×l1Cur):V×List V:=(B r.1,[.uptr (bZ r.2)])
noncomputable def rK :=bI [true,false] yS yT fun x=>pi x.1 x.2
theorem EH {c_3:l1Cur}{n_4:Int}{r}(h:pi c_3 n_4=some r):rK.F (yS (c_3,n_4))=some (yT r):=bg (cr (gS d9) (bl ey)) h
noncomputable def Pq :=bc Tryd.f38
noncomputable def Jk :=dZ [(14,gO)]
def Pp (x:l1Cur×Int)(r:Bool×l1Cur):St→Prop:=QF Jk Tryd.f38 [true,false] (yS x) (yT r)
theorem Ls (c_3:l1Cur)(n_4:Int)(r:Bool×l1Cur)(h:pi c_3 n_4=some r):ct Jk Tryd.f38 [true,false] 1 (yS (c_3,n_4)) (yT r):=by
 show Run _ _ (Pp (c_3,n_4) r) [.code Pq] _
 refine rI 9 [(0,.hp 1 0 [] 3 0 0),(1,I n_4)] [(1,some ⟨0,3,[bZ c_3]⟩)] 2 ?_
 unfold pi at h
 refine cq 8 [5,6] [.hp 1 0 [] 3 0 0,I n_4] 50 ?_
 obtain⟨r3,hr3,h⟩:=bS h
 refine oq 66 (I r3.1) rfl (ao rfl rfl (aB rfl rfl rfl (cd (b7 rfl (cO (path:=[]) rfl rfl al)) (aM (bd rfl) bb)) (gU hr3) (.inr rfl) (cf rfl rfl rfl rfl aY) rfl rfl rfl)) ?_
 refine cq 3 [4] [B (r3.1==0)] 98 ?_
 obtain rfl:=sI h
 exact bV rfl ⟨_,fin (vs:=[B (r3.1==0)]) rfl (cF (dh rfl) cl) rfl (eV rfl (gq rfl rfl) (eI d4)),iO dW⟩
theorem Cu {G:dN}:dS G 38 rK:=gT 2 1 (aV hY cJ) d3 Tryd.func38 (fun a r h=>Ls a.1 a.2 r h)
def Ek:(l1Cur×(List Int))→List V:=cA (tq eR) (oA (pU I))
def Em (r:Int×l1Cur):V×List V:=(I r.1,[.uptr (bZ r.2)])
noncomputable def pe :=bI [true,false] Ek Em fun x=>uu x.1 x.2
theorem El {c_3:l1Cur}{az:List Int}{r}(h:uu c_3 az=some r):pe.F (Ek (c_3,az))=some (Em r):=bg (cr (gS d9) (bl (fN ey))) h
noncomputable def QU :=bc Tryd.f26
noncomputable def Np :=dZ [(14,gO)]
def QT (x:l1Cur×(List Int))(r:Int×l1Cur):St→Prop:=QF Np Tryd.f26 [true,false] (Ek x) (Em r)
theorem Oj (c_3:l1Cur)(az:List Int)(r:Int×l1Cur)(h:uu c_3 az=some r):ct Np Tryd.f26 [true,false] 1 (Ek (c_3,az)) (Em r):=by
 show Run _ _ (QT (c_3,az) r) [.code QU] _
 refine rI 12 [(0,.hp 1 0 [] 3 0 0),(1,.isl false (az.map I))] [(1,some ⟨0,3,[bZ c_3]⟩)] 2 ?_
 unfold uu at h
 refine cq 9 [5,6,7] [.isl false (az.map I),.hp 1 0 [] 3 0 0,.isl false (az.map I)] 66 ?_
 refine oq 82 (I (len az)) rfl (dD rfl rfl rfl (fX rfl)) ?_
 obtain⟨r3,hr3,h⟩:=bS h
 refine oq 98 (I r3.1) rfl (ao rfl rfl (aB rfl rfl rfl (cd (b7 rfl (cO (path:=[]) rfl rfl al)) (aM (bd rfl) bb)) (gU hr3) (.inr rfl) (cf rfl rfl rfl rfl aY) rfl rfl rfl)) ?_
 obtain⟨e4,he4,h⟩:=bS h
 refine oq 114 (.iptr (I e4) 0) rfl (aJ rfl rfl rfl (dV rfl rfl rfl rfl he4)) ?_
 refine cq 3 [4] [I e4] 146 ?_
 obtain rfl:=sI h
 exact bV rfl ⟨_,fin (vs:=[I e4]) rfl (cF (dh rfl) cl) rfl (eV rfl (gq rfl rfl) (eI d4)),iO dW⟩
theorem sn {G:dN}:dS G 26 pe:=gT 2 1 (aV hY cJ) d3 Tryd.func26 (fun a r h=>Oj a.1 a.2 r h)
def zc:Unit→List V:=nA
def zd (r:(List ac)):V×List V:=(.usl 1 (r.map str),[])
noncomputable def rQ :=bI [] zc zd fun x=>rO 
theorem Jr {r}(h:rO =some r):rQ.F (zc ())=some (zd r):=bg P9 h
noncomputable def Px :=bc Tryd.f39
noncomputable def Jq :=dZ []
def Pw (x:Unit)(r:(List ac)):St→Prop:=QF Jq Tryd.f39 [] (zc x) (zd r)
theorem Lz (r:(List ac))(h:rO =some r):ct Jq Tryd.f39 [] 0 (zc ()) (zd r):=by
 show Run _ _ (Pw () r) [.code Px] _
 refine rI 2 [] [] 1 ?_
 unfold rO at h
 refine cq 6 [] [] 17 ?_
 refine oq 33 (.hs 17 0 [] 1 0 5) rfl (aZ rfl (d8 (f:=I) (xs:=[]) (z:=str ([])) (es:=[str ([112,97,105,100]:ac),str ([115,101,110,116]:ac),str ([108,97,116,101]:ac),str ([97]:ac),str ([98]:ac)]) (ws:=[str ([112,97,105,100]:ac),str ([115,101,110,116]:ac),str ([108,97,116,101]:ac),str ([97]:ac),str ([98]:ac)]) rfl rfl rfl (by decide) rfl (ba rfl) rfl)) ?_
 refine cq 2 [0] [.hs 17 0 [] 1 0 5] 49 ?_
 obtain rfl:=sI h
 exact bV rfl ⟨_,fin (vs:=[.hs 17 0 [] 1 0 5]) rfl (cF (gP rfl (cG (k:=5) (es:=[str ([112,97,105,100]:ac),str ([115,101,110,116]:ac),str ([108,97,116,101]:ac),str ([97]:ac),str ([98]:ac)]) rfl rfl)) cl) rfl d4,dW⟩
theorem Cy {G:dN}:dS G 39 rQ:=gT 0 0 cJ d3 Tryd.func39 (fun a r h=>Lz  r h)
def yP:(l1Cur×(List ac))→List V:=cA (tq eR) (oA (pU str))
def yR (r:ac×l1Cur):V×List V:=(str r.1,[.uptr (bZ r.2)])
noncomputable def mY :=bI [true,false] yP yR fun x=>om x.1 x.2
theorem yQ {c_3:l1Cur}{az:List ac}{r}(h:om c_3 az=some r):mY.F (yP (c_3,az))=some (yR r):=bg (cr (gS d9) (bl (fN cz))) h
noncomputable def Po :=bc Tryd.f34
noncomputable def Jj :=dZ [(14,gO)]
def Pn (x:l1Cur×(List ac))(r:ac×l1Cur):St→Prop:=QF Jj Tryd.f34 [true,false] (yP x) (yR r)
theorem Lr (c_3:l1Cur)(az:List ac)(r:ac×l1Cur)(h:om c_3 az=some r):ct Jj Tryd.f34 [true,false] 1 (yP (c_3,az)) (yR r):=by
 show Run _ _ (Pn (c_3,az) r) [.code Po] _
 refine rI 12 [(0,.hp 1 0 [] 3 0 0),(1,.isl false (az.map str))] [(1,some ⟨0,3,[bZ c_3]⟩)] 2 ?_
 unfold om at h
 refine cq 9 [5,6,7] [.isl false (az.map str),.hp 1 0 [] 3 0 0,.isl false (az.map str)] 66 ?_
 refine oq 82 (I (len az)) rfl (dD rfl rfl rfl (fX rfl)) ?_
 obtain⟨r3,hr3,h⟩:=bS h
 refine oq 98 (I r3.1) rfl (ao rfl rfl (aB rfl rfl rfl (cd (b7 rfl (cO (path:=[]) rfl rfl al)) (aM (bd rfl) bb)) (gU hr3) (.inr rfl) (cf rfl rfl rfl rfl aY) rfl rfl rfl)) ?_
 obtain⟨e4,he4,h⟩:=bS h
 refine oq 114 (.iptr (str e4) 0) rfl (aJ rfl rfl rfl (dV rfl rfl rfl rfl he4)) ?_
 refine cq 3 [4] [str e4] 146 ?_
 obtain rfl:=sI h
 exact bV rfl ⟨_,fin (vs:=[str e4]) rfl (cF (dh rfl) cl) rfl (eV rfl (gq rfl rfl) (eI d4)),iO dW⟩
theorem p6 {G:dN}:dS G 34 mY:=gT 2 1 (aV hY cJ) d3 Tryd.func34 (fun a r h=>Lr a.1 a.2 r h)
def tw:(l1Cur×Int)→List V:=cA (tq eR) (oA I)
def tA (r:Condition×l1Cur):V×List V:=(ai r.1,[.uptr (bZ r.2)])
noncomputable def tB (cE:(l1Cur×Int)→Option (Condition×l1Cur)):Ent:=bI [true,false] tw tA cE
theorem vq (cE:(l1Cur×Int)→Option (Condition×l1Cur)){x}{r}(h:cE x=some r):(tB cE).F (tw x)=some (tA r):=bg (cr (gS d9) (bl ey)) h
noncomputable def rJ :=tB (aC jZ)
theorem tx {c_3:l1Cur}{dU:Int}{r}(h:xd c_3 dU=some r):rJ.F (tw (c_3,dU))=some (tA r):=vq (aC jZ) h
noncomputable def qL :=bc Tryd.f15
noncomputable def yE (cE:(l1Cur×Int)→Option (Condition×l1Cur)):Env:=dZ [(14,gO),(26,pe),(39,rQ),(34,mY),(38,rK),(15,(tB cE))]
def tz (cE:(l1Cur×Int)→Option (Condition×l1Cur))(x:l1Cur×Int)(r:Condition×l1Cur):St→Prop:=QF (yE cE) Tryd.f15 [true,false] (tw x) (tA r)
theorem Ll (cE:(l1Cur×Int)→Option (Condition×l1Cur))(c_3:l1Cur)(dU:Int)(r:Condition×l1Cur)(h:ph cE c_3 dU=some r):ct (yE cE) Tryd.f15 [true,false] 1 (tw (c_3,dU)) (tA r):=by
 show Run _ _ (tz cE (c_3,dU) r) [.code qL] _
 refine rI 48 [(0,.hp 1 0 [] 3 0 0),(1,I dU)] [(1,some ⟨0,3,[bZ c_3]⟩)] 2 ?_
 unfold ph at h
 refine ck 3 [4] [] [2] [] [.hp 2 0 [] 4 0 0] [some ⟨0,4,[.agg [I (0),str ([]),I (0),.isl true []]]⟩] 18 (by kernel_rfl) ?_
 refine eS 2 [.agg [I (0),str ([]),I (0),.usl 4 (([]).map ae)]] rfl rfl (aO (fC (aO (.refl _) (aO (.refl _) (aO (.refl _) (aO (.nil _) dH))))) dH) ?_
 refine cq 7 [7] [B (decide (dU≤1))] 66 ?_
 obtain⟨y3,hy3,hy31,hy32⟩:=bJ h
 have j3:∀u3,y3=.inr u3→Run (yE cE) 1 (tz cE (c_3,dU) r) (.code (cR (cL (cR qL)))::.code (cR (cR qL))::[]) (sT 48 [(0,.hp 1 0 [] 3 0 0),(1,I dU),(4,.hp 2 0 [] 4 0 0),(10,B u3.1)] [⟨0,3,[.agg [.isl false (u3.2.1.map (V.int .u8)),I u3.2.2.1,.int .u64 u3.2.2.2]]⟩,⟨0,4,[.agg [I (0),str ([]),I (0),.usl 4 (([]).map ae)]]⟩] 3):=by
  intro u3 hu
  replace h:=hy32 u3 hu
  refine sq h ?_ ?_<;>intro h
  ·refine cq 4 [11] [.hp 1 0 [] 3 0 0] 19 ?_
   obtain⟨r4,hr4,h⟩:=bS h
   refine oq 35 (I r4.1) rfl (ao rfl rfl (aB rfl rfl rfl (cd (b7 rfl (cO (path:=[]) rfl rfl al)) (aM (bd rfl) bb)) (gU hr4) (.inr rfl) (cf rfl rfl rfl rfl aY) rfl rfl rfl)) ?_
   refine cq 7 [13] [B (r4.1==0)] 67 ?_
   refine sq h ?_ ?_<;>intro h
   ·refine ck 4 [] [] [2] [] [] [some ⟨1,4,[.agg [I (1),str ([]),I (0),.isl true []]]⟩] 99 (by kernel_rfl) ?_
    refine eS 2 [.agg [I (1),str ([]),I (0),.usl 4 (([]).map ae)]] rfl rfl (aO (fC (aO (.refl _) (aO (.refl _) (aO (.refl _) (aO (.nil _) dH))))) dH) ?_
    refine aq 1 ?_
    obtain rfl:=sI h
    exact bV rfl ⟨_,fin (vs:=[.agg [I (1),str ([]),I (0),.hs 2 2 [(0,3)] 4 0 (([]).map ae).length]]) (kE (gl rfl rfl rfl) oz) (cF (ec (au (ay rfl) (au (ay rfl) (au (ay rfl) (au (fh (path:=[(0,3)]) rfl rfl (eL rfl rfl al) rfl (ir (path:=[]) (i:=0) (k:=3) (e':=.agg [I (1),str ([]),I (0),.dead]) (es2':=[.agg [I (1),str ([]),I (0),.dead]]) al rfl rfl rfl d5)) ed))))) cl) rfl (eV rfl (gq rfl rfl) (eI d4)),iO dW⟩
   ·refine cq 6 [16] [B (r4.1==1)] 99 ?_
    obtain⟨u5,hu5,h⟩:=lJ h
    have j5:Run (yE cE) 1 (tz cE (c_3,dU) r) (.code (cR (cR (cR (cL (cR (cL (cL (cR (cL (cR qL))))))))))::.blk 0::.code (cR (cL (cR (cL (cR qL)))))::.code (cR (cR qL))::[]) (sT 48 [(0,.hp 1 0 [] 3 0 0),(4,.hp 2 0 [] 4 0 0),(16,B u5)] [⟨0,3,[bZ r4.2]⟩,⟨0,4,[.agg [I (0),str ([]),I (0),.usl 4 (([]).map ae)]]⟩] 3):=by
     refine sq h ?_ ?_<;>intro h
     ·refine cq 3 [19] [.hp 1 0 [] 3 0 0] 19 ?_
      refine oq 35 (.hs 19 0 [] 1 0 5) rfl (aZ rfl (d8 (f:=I) (xs:=[]) (z:=I (0)) (es:=[I (0),I (3),I (10),I (40),I (366)]) (ws:=[I (0),I (3),I (10),I (40),I (366)]) rfl rfl rfl (by decide) rfl (ba rfl) rfl)) ?_
      obtain⟨r6,hr6,h⟩:=bS h
      refine oK 51 (I r6.1) rfl rfl (l5 rfl rfl (nU rfl rfl rfl rfl (cd (b7 rfl (cO (path:=[]) rfl rfl al)) (aM (la rfl rfl (fi (f:=I) (g:=I) (xs:=[0,3,10,40,366]) rfl rfl (ci Es))) bb)) (El hr6) (cf rfl rfl rfl rfl aY) rfl rfl rfl)) ?_
      refine ck 2 [] [] [2] [] [] [some ⟨1,4,[.agg [I (3),str ([]),I r6.1,.isl true []]]⟩] 83 (by kernel_rfl) ?_
      refine eS 2 [.agg [I (3),str ([]),I r6.1,.usl 4 (([]).map ae)]] rfl rfl (aO (fC (aO (.refl _) (aO (.refl _) (aO (.refl _) (aO (.nil _) dH))))) dH) ?_
      refine aq 1 ?_
      obtain rfl:=sI h
      exact bV rfl ⟨_,fin (vs:=[.agg [I (3),str ([]),I r6.1,.hs 2 2 [(0,3)] 4 0 (([]).map ae).length]]) (kE (gl rfl rfl rfl) oz) (cF (ec (au (ay rfl) (au (ay rfl) (au (ay rfl) (au (fh (path:=[(0,3)]) rfl rfl (eL rfl rfl al) rfl (ir (path:=[]) (i:=0) (k:=3) (e':=.agg [I (3),str ([]),I r6.1,.dead]) (es2':=[.agg [I (3),str ([]),I r6.1,.dead]]) al rfl rfl rfl d5)) ed))))) cl) rfl (eV rfl (gq rfl rfl) (eI d4)),iO dW⟩
     ·refine aq 1 ?_
      refine cq 4 [23] [.hp 1 0 [] 3 0 0] 19 ?_
      obtain⟨r7,hr7,h⟩:=bS h
      refine oq 35 (.hs 19 0 [] 1 0 (r7.map str).length) rfl (ao rfl rfl (aB rfl rfl rfl bb (Jr hr7) (.inr rfl) aY rfl rfl rfl)) ?_
      obtain⟨r8,hr8,h⟩:=bS h
      refine oK 51 (str r8.1) rfl rfl (l5 rfl rfl (nU rfl rfl rfl rfl (cd (b7 rfl (cO (path:=[]) rfl rfl al)) (aM (la rfl rfl (fi (f:=str) (g:=str) (xs:=r7) rfl rfl (ci fE))) bb)) (yQ hr8) (cf rfl rfl rfl rfl aY) rfl rfl rfl)) ?_
      refine ck 2 [] [] [2] [] [] [some ⟨1,4,[.agg [I (2),str r8.1,I (0),.isl true []]]⟩] 83 (by kernel_rfl) ?_
      refine eS 2 [.agg [I (2),str r8.1,I (0),.usl 4 (([]).map ae)]] rfl rfl (aO (fC (aO (.refl _) (aO (.refl _) (aO (.refl _) (aO (.nil _) dH))))) dH) ?_
      refine aq 1 ?_
      obtain rfl:=sI h
      exact bV rfl ⟨_,fin (vs:=[.agg [I (2),str r8.1,I (0),.hs 2 2 [(0,3)] 4 0 (([]).map ae).length]]) (kE (gl rfl rfl rfl) oz) (cF (ec (au (ay rfl) (au (ay rfl) (au (ay rfl) (au (fh (path:=[(0,3)]) rfl rfl (eL rfl rfl al) rfl (ir (path:=[]) (i:=0) (k:=3) (e':=.agg [I (2),str r8.1,I (0),.dead]) (es2':=[.agg [I (2),str r8.1,I (0),.dead]]) al rfl rfl rfl d5)) ed))))) cl) rfl (eV rfl (gq rfl rfl) (eI d4)),iO dW⟩
    replace h:=hu5
    clear hu5
    refine rD h rfl rfl ?_ ?_<;>intro h
    ·refine aq 1 ?_
     subst h
     exact rf [0,4,16] [1,2] (j5 :)
    ·refine cq 4 [16] [B (r4.1==2)] 131 ?_
     subst h
     exact rf [0,4,16] [1,2] (j5 :)
  ·refine aq 1 ?_
   refine cq 4 [27] [.hp 1 0 [] 3 0 0] 19 ?_
   obtain⟨r9,hr9,h⟩:=bS h
   refine oq 35 (B r9.1) rfl (ao rfl rfl (aB rfl rfl rfl (cd (b7 rfl (cO (path:=[]) rfl rfl al)) (aM (bd rfl) bb)) (EH hr9) (.inr rfl) (cf rfl rfl rfl rfl aY) rfl rfl rfl)) ?_
   refine aq 1 ?_
   refine sq h ?_ ?_<;>intro h
   ·refine cq 5 [29,31] [.hp 1 0 [] 3 0 0,I (aG (dU - 1))] 83 ?_
    obtain⟨r10,hr10,h⟩:=bS h
    refine oq 99 (.agg [I r10.1.Op,str r10.1.Name,I r10.1.Day,.hs 83 0 [] 4 0 (r10.1.Parts.map ae).length]) rfl (ao rfl rfl (aB rfl rfl rfl (cd (b7 rfl (cO (path:=[]) rfl rfl al)) (aM (bd rfl) bb)) (vq cE hr10) (.inr rfl) (cf rfl rfl rfl rfl aY) rfl rfl rfl)) ?_
    refine oq 115 (.hs 99 0 [] 4 0 1) rfl (aZ rfl (d8 (f:=I) (xs:=[]) (z:=.agg [I (0),str ([]),I (0),.isl true []]) (es:=[.agg [I r10.1.Op,str r10.1.Name,I r10.1.Day,.hs 83 0 [] 4 0 (r10.1.Parts.map ae).length]]) (ws:=[ai r10.1]) rfl rfl rfl (by decide) rfl (cF (ec (au (ay rfl) (au (ay rfl) (au (ay rfl) (au (cG rfl rfl) ed))))) cl) rfl)) ?_
    refine cq 1 [34] [.agg [I (4),str ([]),I (0),.hs 99 0 [] 4 0 1]] 131 ?_
    refine o0 147 rfl rfl (ie rfl rfl (fM (path:=[]) (pl:=false) (e':=.agg [I (4),str ([]),I (0),.usl 4 (([r10.1]).map ae)]) (es2':=[.agg [I (4),str ([]),I (0),.usl 4 (([r10.1]).map ae)]]) rfl (ec (au (ay rfl) (au (ay rfl) (au (ay rfl) (au (rm (k:=1) (es:=[ai r10.1]) (f:=ae) (xs:=[r10.1]) rfl rfl (C5 (dK r10.1).symm KM)) ed))))) rfl rfl rfl al rfl rfl rfl rfl rfl d5 1 rfl)) ?_
    refine aq 1 ?_
    obtain rfl:=sI h
    exact bV rfl ⟨_,fin (vs:=[.agg [I (4),str ([]),I (0),.hs 2 1 [(0,3)] 4 0 (([r10.1]).map ae).length]]) (kE (gl rfl rfl rfl) oz) (cF (ec (au (ay rfl) (au (ay rfl) (au (ay rfl) (au (fh (path:=[(0,3)]) rfl rfl (eL rfl rfl al) rfl (ir (path:=[]) (i:=0) (k:=3) (e':=.agg [I (4),str ([]),I (0),.dead]) (es2':=[.agg [I (4),str ([]),I (0),.dead]]) al rfl rfl rfl d5)) ed))))) cl) rfl (eV rfl (gq rfl rfl) (eI d4)),iO dW⟩
   ·refine aq 1 ?_
    refine cq 3 [35] [.hp 1 0 [] 3 0 0] 51 ?_
    obtain⟨r11,hr11,h⟩:=bS h
    refine oq 67 (I r11.1) rfl (ao rfl rfl (aB rfl rfl rfl (cd (b7 rfl (cO (path:=[]) rfl rfl al)) (aM (bd rfl) bb)) (gU hr11) (.inr rfl) (cf rfl rfl rfl rfl aY) rfl rfl rfl)) ?_
    refine cq 4 [37,38,40] [I (aG (5+r11.1)),.hp 1 0 [] 3 0 0,I (aG (dU - 1))] 131 ?_
    obtain⟨r12,hr12,h⟩:=bS h
    refine oq 147 (.agg [I r12.1.Op,str r12.1.Name,I r12.1.Day,.hs 131 0 [] 4 0 (r12.1.Parts.map ae).length]) rfl (ao rfl rfl (aB rfl rfl rfl (cd (b7 rfl (cO (path:=[]) rfl rfl al)) (aM (bd rfl) bb)) (vq cE hr12) (.inr rfl) (cf rfl rfl rfl rfl aY) rfl rfl rfl)) ?_
    refine cq 3 [42,44] [.hp 1 0 [] 3 0 0,I (aG (dU - 1))] 195 ?_
    obtain⟨r13,hr13,h⟩:=bS h
    refine oq 211 (.agg [I r13.1.Op,str r13.1.Name,I r13.1.Day,.hs 195 0 [] 4 0 (r13.1.Parts.map ae).length]) rfl (ao rfl rfl (aB rfl rfl rfl (cd (b7 rfl (cO (path:=[]) rfl rfl al)) (aM (bd rfl) bb)) (vq cE hr13) (.inr rfl) (cf rfl rfl rfl rfl aY) rfl rfl rfl)) ?_
    refine oq 227 (.hs 211 0 [] 4 0 2) rfl (aZ rfl (d8 (f:=I) (xs:=[]) (z:=.agg [I (0),str ([]),I (0),.isl true []]) (es:=[.agg [I r12.1.Op,str r12.1.Name,I r12.1.Day,.hs 131 0 [] 4 0 (r12.1.Parts.map ae).length],.agg [I r13.1.Op,str r13.1.Name,I r13.1.Day,.hs 195 0 [] 4 0 (r13.1.Parts.map ae).length]]) (ws:=[ai r12.1,ai r13.1]) rfl rfl rfl (by decide) rfl (cF (ec (au (ay rfl) (au (ay rfl) (au (ay rfl) (au (cG rfl rfl) ed))))) (cF (ec (au (ay rfl) (au (ay rfl) (au (ay rfl) (au (cG rfl rfl) ed))))) cl)) rfl)) ?_
    refine cq 1 [47] [.agg [I (aG (5+r11.1)),str ([]),I (0),.hs 211 0 [] 4 0 2]] 243 ?_
    refine o0 259 rfl rfl (ie rfl rfl (fM (path:=[]) (pl:=false) (e':=.agg [I (aG (5+r11.1)),str ([]),I (0),.usl 4 (([r12.1,r13.1]).map ae)]) (es2':=[.agg [I (aG (5+r11.1)),str ([]),I (0),.usl 4 (([r12.1,r13.1]).map ae)]]) rfl (ec (au (ay rfl) (au (ay rfl) (au (ay rfl) (au (rm (k:=2) (es:=[ai r12.1,ai r13.1]) (f:=ae) (xs:=[r12.1,r13.1]) rfl rfl (C5 (dK r12.1).symm (C5 (dK r13.1).symm KM))) ed))))) rfl rfl rfl al rfl rfl rfl rfl rfl d5 1 rfl)) ?_
    refine aq 1 ?_
    obtain rfl:=sI h
    exact bV rfl ⟨_,fin (vs:=[.agg [I (aG (5+r11.1)),str ([]),I (0),.hs 2 1 [(0,3)] 4 0 (([r12.1,r13.1]).map ae).length]]) (kE (gl rfl rfl rfl) oz) (cF (ec (au (ay rfl) (au (ay rfl) (au (ay rfl) (au (fh (path:=[(0,3)]) rfl rfl (eL rfl rfl al) rfl (ir (path:=[]) (i:=0) (k:=3) (e':=.agg [I (aG (5+r11.1)),str ([]),I (0),.dead]) (es2':=[.agg [I (aG (5+r11.1)),str ([]),I (0),.dead]]) al rfl rfl rfl d5)) ed))))) cl) rfl (eV rfl (gq rfl rfl) (eI d4)),iO dW⟩
 have r3:∀r',y3=.inl r'→∀st,tz cE (c_3,dU) r' st→(tz cE (c_3,dU) r) st:=fun r' e st hq=>by rw[hy31 r' e] at hq;exact hq
 replace h:=hy3
 refine sp 7 h rfl ?_ ?_<;>intro h
 ·refine cq 4 [10] [B true] 114 ?_
  exact rf [0,1,4,10] [1,2] (j3 _ (an h) :)
 ·refine cq 1 [8] [.hp 1 0 [] 3 0 0] 82 ?_
  obtain⟨r14,hr14,h⟩:=bS h
  refine oy 98 (B r14.1) rfl (ao rfl rfl (aB rfl rfl rfl (cd (b7 rfl (cO (path:=[]) rfl rfl al)) (aM (bd rfl) bb)) (EH hr14) (.inr rfl) (cf rfl rfl rfl rfl aY) rfl rfl rfl)) ?_
  refine cq 2 [10] [B r14.1] 114 ?_
  exact rf [0,1,4,10] [1,2] (j3 _ (an h) :)
theorem Ct {G:dN}:dS G 15 rJ:=gQ fun cE g_Ffbb=>gT 2 1 (aV hY (aV sn (aV Cy (aV p6 (aV Cu (aV g_Ffbb cJ)))))) d3 Tryd.func15 (fun a r h=>Ll cE a.1 a.2 r h)
def yF:l1Cur→List V:=oA (tq eR)
def yG (r:Condition×l1Cur):V×List V:=(ai r.1,[.uptr (bZ r.2)])
noncomputable def xe :=bI [true] yF yG fun x=>tC x
theorem EE {c_2:l1Cur}{r}(h:tC c_2=some r):xe.F (yF c_2)=some (yG r):=bg (bl (gS d9)) h
noncomputable def Ph :=bc Tryd.f33
noncomputable def I9 :=dZ [(14,gO),(15,rJ)]
def Pg (x:l1Cur)(r:Condition×l1Cur):St→Prop:=QF I9 Tryd.f33 [true] (yF x) (yG r)
theorem Lm (c_2:l1Cur)(r:Condition×l1Cur)(h:tC c_2=some r):ct I9 Tryd.f33 [true] 1 (yF c_2) (yG r):=by
 show Run _ _ (Pg c_2 r) [.code Ph] _
 refine rI 8 [(0,.hp 1 0 [] 3 0 0)] [(1,some ⟨0,3,[bZ c_2]⟩)] 2 ?_
 unfold tC at h
 refine ck 3 [2] [] [2] [] [.hp 2 0 [] 4 0 0] [some ⟨0,4,[.agg [I (0),str ([]),I (0),.isl true []]]⟩] 18 (by kernel_rfl) ?_
 refine eS 2 [.agg [I (0),str ([]),I (0),.usl 4 (([]).map ae)]] rfl rfl (aO (fC (aO (.refl _) (aO (.refl _) (aO (.refl _) (aO (.nil _) dH))))) dH) ?_
 refine cq 5 [3,4] [.hp 1 0 [] 3 0 0,.hp 1 0 [] 3 0 0] 50 ?_
 obtain⟨r2,hr2,h⟩:=bS h
 refine oq 66 (I r2.1) rfl (ao rfl rfl (aB rfl rfl rfl (cd (b7 rfl (cO (path:=[]) rfl rfl al)) (aM (bd rfl) bb)) (gU hr2) (.inr rfl) (cf rfl rfl rfl rfl aY) rfl rfl rfl)) ?_
 refine cq 1 [6] [I (aG (1+r2.1))] 82 ?_
 obtain⟨r3,hr3,h⟩:=bS h
 refine oq 98 (.agg [I r3.1.Op,str r3.1.Name,I r3.1.Day,.hs 82 0 [] 4 0 (r3.1.Parts.map ae).length]) rfl (ao rfl rfl (aB rfl rfl rfl (cd (b7 rfl (cO (path:=[]) rfl rfl al)) (aM (bd rfl) bb)) (tx hr3) (.inr rfl) (cf rfl rfl rfl rfl aY) rfl rfl rfl)) ?_
 refine o0 114 rfl rfl (ie rfl rfl (fM (path:=[]) (pl:=false) (e':=ai r3.1) (es2':=[ai r3.1]) rfl (ec (au (ay rfl) (au (ay rfl) (au (ay rfl) (au (cG rfl rfl) ed))))) rfl rfl rfl al rfl rfl rfl rfl rfl d5 2 rfl)) ?_
 refine aq 1 ?_
 obtain rfl:=sI h
 exact bV rfl ⟨_,fin (vs:=[.agg [I r3.1.Op,str r3.1.Name,I r3.1.Day,.hs 2 2 [(0,3)] 4 0 (r3.1.Parts.map ae).length]]) (kE (gl rfl rfl rfl) oz) (cF (ec (au (ay rfl) (au (ay rfl) (au (ay rfl) (au (fh (path:=[(0,3)]) rfl rfl (eL rfl rfl al) rfl (ir (path:=[]) (i:=0) (k:=3) (e':=.agg [I r3.1.Op,str r3.1.Name,I r3.1.Day,.dead]) (es2':=[.agg [I r3.1.Op,str r3.1.Name,I r3.1.Day,.dead]]) al rfl rfl rfl d5)) ed))))) cl) rfl (eV rfl (gq rfl rfl) d4),iO dW⟩
theorem Ja {G:dN}:dS G 33 xe:=gT 1 1 (aV hY (aV Ct cJ)) d3 Tryd.func33 (fun a r h=>Lm a r h)
def yH:l1Cur→List V:=oA (tq eR)
def yI (r:Int×l1Cur):V×List V:=(I r.1,[.uptr (bZ r.2)])
noncomputable def xg :=bI [true] yH yI fun x=>xf x
theorem Pi {c_2:l1Cur}{r}(h:xf c_2=some r):xg.F (yH c_2)=some (yI r):=bg (bl (gS d9)) h
noncomputable def Pk :=bc Tryd.f55
noncomputable def Jb :=dZ [(14,gO),(26,pe)]
def Pj (x:l1Cur)(r:Int×l1Cur):St→Prop:=QF Jb Tryd.f55 [true] (yH x) (yI r)
theorem Lo (c_2:l1Cur)(r:Int×l1Cur)(h:xf c_2=some r):ct Jb Tryd.f55 [true] 1 (yH c_2) (yI r):=by
 show Run _ _ (Pj c_2 r) [.code Pk] _
 refine rI 16 [(0,.hp 1 0 [] 3 0 0)] [(1,some ⟨0,3,[bZ c_2]⟩)] 2 ?_
 unfold xf at h
 refine cq 8 [3] [.hp 1 0 [] 3 0 0] 34 ?_
 obtain⟨r2,hr2,h⟩:=bS h
 refine oq 50 (I r2.1) rfl (ao rfl rfl (aB rfl rfl rfl (cd (b7 rfl (cO (path:=[]) rfl rfl al)) (aM (bd rfl) bb)) (gU hr2) (.inr rfl) (cf rfl rfl rfl rfl aY) rfl rfl rfl)) ?_
 refine cq 7 [5] [B (r2.1==0)] 82 ?_
 refine sq h ?_ ?_<;>intro h
 ·refine cq 3 [7] [.hp 1 0 [] 3 0 0] 98 ?_
  refine oq 114 (.hs 98 0 [] 1 0 11) rfl (aZ rfl (d8 (f:=I) (xs:=[]) (z:=I (0)) (es:=[I (0),I (59),I (60),I (365),I (366),I (424),I (425),I (36524),I (36523),I (30),I (31)]) (ws:=[I (0),I (59),I (60),I (365),I (366),I (424),I (425),I (36524),I (36523),I (30),I (31)]) rfl rfl rfl (by decide) rfl (ba rfl) rfl)) ?_
  obtain⟨r3,hr3,h⟩:=bS h
  refine oK 130 (I r3.1) rfl rfl (l5 rfl rfl (nU rfl rfl rfl rfl (cd (b7 rfl (cO (path:=[]) rfl rfl al)) (aM (la rfl rfl (fi (f:=I) (g:=I) (xs:=[0,59,60,365,366,424,425,36524,36523,30,31]) rfl rfl (ci Es))) bb)) (El hr3) (cf rfl rfl rfl rfl aY) rfl rfl rfl)) ?_
  refine cq 2 [2] [I r3.1] 146 ?_
  obtain rfl:=sI h
  exact bV rfl ⟨_,fin (vs:=[I r3.1]) rfl (cF (dh rfl) cl) rfl (eV rfl (gq rfl rfl) d4),iO dW⟩
 ·refine cq 5 [10] [B (r2.1==1)] 114 ?_
  refine sq h ?_ ?_<;>intro h
  ·refine cq 3 [12] [.hp 1 0 [] 3 0 0] 130 ?_
   obtain⟨r4,hr4,h⟩:=bS h
   refine oq 146 (I r4.1) rfl (ao rfl rfl (aB rfl rfl rfl (cd (b7 rfl (cO (path:=[]) rfl rfl al)) (aM (bd rfl) bb)) (gU hr4) (.inr rfl) (cf rfl rfl rfl rfl aY) rfl rfl rfl)) ?_
   refine cq 2 [2] [I r4.1] 162 ?_
   obtain rfl:=sI h
   exact bV rfl ⟨_,fin (vs:=[I r4.1]) rfl (cF (dh rfl) cl) rfl (eV rfl (gq rfl rfl) d4),iO dW⟩
  ·refine aq 1 ?_
   refine cq 4 [14] [.hp 1 0 [] 3 0 0] 130 ?_
   obtain⟨r5,hr5,h⟩:=bS h
   refine oq 146 (I r5.1) rfl (ao rfl rfl (aB rfl rfl rfl (cd (b7 rfl (cO (path:=[]) rfl rfl al)) (aM (bd rfl) bb)) (gU hr5) (.inr rfl) (cf rfl rfl rfl rfl aY) rfl rfl rfl)) ?_
   refine cq 2 [2] [I r5.1] 162 ?_
   obtain rfl:=sI h
   exact bV rfl ⟨_,fin (vs:=[I r5.1]) rfl (cF (dh rfl) cl) rfl (eV rfl (gq rfl rfl) d4),iO dW⟩
theorem Jc {G:dN}:dS G 55 xg:=gT 1 1 (aV hY (aV sn cJ)) d3 Tryd.func55 (fun a r h=>Lo a r h)
def Eq:l1Cur→List V:=oA (tq eR)
def Er (r:Int×l1Cur):V×List V:=(I r.1,[.uptr (bZ r.2)])
noncomputable def B0 :=bI [true] Eq Er fun x=>Fg x
theorem QV {c_2:l1Cur}{r}(h:Fg c_2=some r):B0.F (Eq c_2)=some (Er r):=bg (bl (gS d9)) h
noncomputable def QX :=bc Tryd.f35
noncomputable def Nq :=dZ [(38,rK),(26,pe),(55,xg)]
def QW (x:l1Cur)(r:Int×l1Cur):St→Prop:=QF Nq Tryd.f35 [true] (Eq x) (Er r)
theorem Ol (c_2:l1Cur)(r:Int×l1Cur)(h:Fg c_2=some r):ct Nq Tryd.f35 [true] 1 (Eq c_2) (Er r):=by
 show Run _ _ (QW c_2 r) [.code QX] _
 refine rI 10 [(0,.hp 1 0 [] 3 0 0)] [(1,some ⟨0,3,[bZ c_2]⟩)] 2 ?_
 unfold Fg at h
 refine cq 8 [3] [.hp 1 0 [] 3 0 0] 34 ?_
 obtain⟨r2,hr2,h⟩:=bS h
 refine oq 50 (B r2.1) rfl (ao rfl rfl (aB rfl rfl rfl (cd (b7 rfl (cO (path:=[]) rfl rfl al)) (aM (bd rfl) bb)) (EH hr2) (.inr rfl) (cf rfl rfl rfl rfl aY) rfl rfl rfl)) ?_
 refine aq 1 ?_
 refine sq h ?_ ?_<;>intro h
 ·refine cq 3 [5] [.hp 1 0 [] 3 0 0] 66 ?_
  refine oq 82 (.hs 66 0 [] 1 0 4) rfl (aZ rfl (d8 (f:=I) (xs:=[]) (z:=I (0)) (es:=[I (-1),I (36524),I (36525),I (1099511627776)]) (ws:=[I (-1),I (36524),I (36525),I (1099511627776)]) rfl rfl rfl (by decide) rfl (ba rfl) rfl)) ?_
  obtain⟨r3,hr3,h⟩:=bS h
  refine oK 98 (I r3.1) rfl rfl (l5 rfl rfl (nU rfl rfl rfl rfl (cd (b7 rfl (cO (path:=[]) rfl rfl al)) (aM (la rfl rfl (fi (f:=I) (g:=I) (xs:=[(-1),36524,36525,1099511627776]) rfl rfl (ci Es))) bb)) (El hr3) (cf rfl rfl rfl rfl aY) rfl rfl rfl)) ?_
  refine cq 2 [2] [I r3.1] 114 ?_
  obtain rfl:=sI h
  exact bV rfl ⟨_,fin (vs:=[I r3.1]) rfl (cF (dh rfl) cl) rfl (eV rfl (gq rfl rfl) d4),iO dW⟩
 ·refine aq 1 ?_
  refine cq 3 [8] [.hp 1 0 [] 3 0 0] 66 ?_
  obtain⟨r4,hr4,h⟩:=bS h
  refine oq 82 (I r4.1) rfl (ao rfl rfl (aB rfl rfl rfl (cd (b7 rfl (cO (path:=[]) rfl rfl al)) bb) (Pi hr4) (.inr rfl) (cf rfl rfl rfl rfl aY) rfl rfl rfl)) ?_
  refine cq 2 [2] [I r4.1] 98 ?_
  obtain rfl:=sI h
  exact bV rfl ⟨_,fin (vs:=[I r4.1]) rfl (cF (dh rfl) cl) rfl (eV rfl (gq rfl rfl) d4),iO dW⟩
theorem Md {G:dN}:dS G 35 B0:=gT 1 1 (aV Cu (aV sn (aV Jc cJ))) d3 Tryd.func35 (fun a r h=>Ol a r h)
def um:Condition→List V:=oA aa
def un (r:Int):V×List V:=(I r,[])
noncomputable def uo (bG:Condition→Option Int):Ent:=bI [false] um un bG
theorem GZ (bG:Condition→Option Int){x}{r}(h:bG x=some r):(uo bG).F (um x)=some (un r):=bg (bl aN) h
noncomputable def rZ :=uo (aC kn)
theorem JM {c_1:Condition}{r}(h:xC c_1=some r):rZ.F (um c_1)=some (un r):=GZ (aC kn) h
noncomputable def JO :=bc Tryd.f36
noncomputable def EU (bG:Condition→Option Int):Env:=dZ [(36,(uo bG))]
def JN (bG:Condition→Option Int)(x:Condition)(r:Int):St→Prop:=QF (EU bG) Tryd.f36 [false] (um x) (un r)
theorem Gt (bG:Condition→Option Int)(c_1:Condition):eo (EU bG) 0 (JN bG c_1) (cL (cL (cR (cL (cR (cR JO)))))) 0 (kK bG c_1) (fun u=>(sT 21 [(3,I u)] [] 1)) fun x2=>(sT 21 [(1,.hp 1 0 [] 4 0 0),(3,I x2.1),(4,I x2.2)] [⟨0,4,[aa c_1]⟩] 2):=hZ (wn bG c_1) fun {Q K} hK self ih x2 y h hr hn=>by
 unfold ji at h
 refine cq 6 [5,7] [I x2.2,.isl false (c_1.Parts.map aF)] 50 ?_
 refine oq 66 (I (len c_1.Parts)) rfl (dD rfl rfl rfl (fX rfl)) ?_
 refine cq 2 [9] [B (decide (x2.2<(len c_1.Parts)))] 82 ?_
 refine sq h ?_ ?_<;>intro h
 ·refine aq 1 ?_
  refine cq 7 [12,14,15] [I x2.1,.isl false (c_1.Parts.map aF),I x2.2] 146 ?_
  obtain⟨e3,he3,h⟩:=bS h
  refine oq 162 (.iptr (aa e3) 0) rfl (aJ rfl rfl rfl (dV rfl rfl (bo e3) rfl he3)) ?_
  refine cq 1 [17] [aa e3] 178 ?_
  obtain⟨r4,hr4,h⟩:=bS h
  refine oq 194 (I r4) rfl (ao rfl rfl (aB rfl rfl rfl (aM (bd rfl) bb) (GZ bG hr4) (.inr rfl) aY rfl rfl rfl)) ?_
  refine cq 9 [3,4] [I (aG (x2.1+r4)),I (aG (x2.2+1))] 274 ?_
  refine fx ?_
  exact rf [1,3,4] [1] (ih _ _ h hr hn :)
 ·refine aq 1 ?_
  exact rf [3] [] (hn _ (an h) :) (hk:=hK)
theorem LT (bG:Condition→Option Int)(c_1:Condition)(r:Int)(h:rd bG c_1=some r):ct (EU bG) Tryd.f36 [false] 0 (um c_1) (un r):=by
 show Run _ _ (JN bG c_1 r) [.code JO] _
 refine rI 21 [(0,aa c_1)] [] 1 ?_
 unfold rd at h
 refine ck 15 [1,3,4] [] [1] [] [.hp 1 0 [] 4 0 0,I (1),I (0)] [some ⟨0,4,[aa c_1]⟩] 65 (by kernel_rfl) ?_
 obtain⟨y5,hy5,hy51,hy52⟩:=bJ h
 refine dT rfl ?_
 refine rf [1,3,4] [1] (Gt bG c_1 rfl (1,0) _ hy5 (fun r' e st hq=>by rw[hy51 r' e] at hq;exact hq) fun u5 hu=>?_)
 replace h:=hy52 u5 hu
 refine cq 5 [2] [I u5] 33 ?_
 obtain rfl:=sI h
 exact rP [I u5]
theorem CD {G:dN}:dS G 36 rZ:=gQ fun bG g_Ffca=>gT 1 0 (aV g_Ffca cJ) d3 Tryd.func36 (fun a r h=>LT bG a r h)
def En:l1Cur→List V:=oA (tq eR)
def Ep (r:Condition×l1Cur):V×List V:=(ai r.1,[.uptr (bZ r.2)])
noncomputable def vF :=bI [true] En Ep fun x=>AK x
theorem Eo {c_2:l1Cur}{r}(h:AK c_2=some r):vF.F (En c_2)=some (Ep r):=bg (bl (gS d9)) h
noncomputable def Ig :=bc Tryd.f13
noncomputable abbrev uw :=cR (cR (cR Ig))
noncomputable abbrev PP :=cL (cL (cR (cL (cR (cR (cR (cR (cR (cR (cR (cR (cR (cL (cR (cL (cR (cR Ig)))))))))))))))))
noncomputable def qc :=dZ [(33,xe),(14,gO),(34,mY),(35,B0),(36,rZ)]
def iz (x:l1Cur)(r:Condition×l1Cur):St→Prop:=QF qc Tryd.f13 [true] (En x) (Ep r)
theorem Ih (c_2:l1Cur)(r14:Int×l1Cur):eo qc 1 (iz c_2) PP 1 (uz c_2 r14) (fun u=>(sT 47 [(2,.hp 2 0 [] 4 0 0),(3,.hp 3 0 [] 4 0 0)] [⟨0,3,[bZ r14.2]⟩,⟨0,4,[.agg [I (0),str ([]),I (0),.usl 4 (([]).map ae)]]⟩,⟨0,4,[.agg [I u.1,str u.2.1,I u.2.2.1,.usl 4 (u.2.2.2.map ae)]]⟩] 4)) fun x15=>(sT 47 [(2,.hp 2 0 [] 4 0 0),(3,.hp 3 0 [] 4 0 0),(4,I (aG (14+r14.1)))] [⟨0,3,[bZ r14.2]⟩,⟨0,4,[.agg [I (0),str ([]),I (0),.usl 4 (([]).map ae)]]⟩,⟨0,4,[.agg [I x15.1,str x15.2.1,I x15.2.2.1,.usl 4 (x15.2.2.2.map ae)]]⟩] 4):=hZ (AL c_2 r14) fun {Q K} hK self ih x15 y h hr hn=>by
 unfold nc at h
 refine cq 4 [39] [.agg [I x15.1,str x15.2.1,I x15.2.2.1,.hs 3 0 [(0,3)] 4 0 (x15.2.2.2.map ae).length]] 20 ?_
 obtain⟨r16,hr16,h⟩:=bS h
 refine oq 36 (I r16) rfl (ao rfl rfl (aB rfl rfl rfl (aM (oG (d6 (dX rfl) (d6 (dX rfl) (d6 (dX rfl) (d6 (jE (path:=[(0,3)]) rfl rfl (eL rfl rfl al) rfl (ci (f:=ae) bM)) pS))))) bb) (JM hr16) (.inl rfl) aY rfl rfl rfl)) ?_
 refine cq 3 [42] [B (decide (r16<(aG (14+r14.1))))] 68 ?_
 refine sq h ?_ ?_<;>intro h
 ·refine aq 1 ?_
  refine cq 3 [43] [.agg [I x15.1,str x15.2.1,I x15.2.2.1,.hs 3 0 [(0,3)] 4 0 (x15.2.2.2.map ae).length]] 84 ?_
  refine oq 100 (.hs 84 0 [] 4 0 1) rfl (aZ rfl (d8 (f:=I) (xs:=[]) (z:=.agg [I (0),str ([]),I (0),.isl true []]) (es:=[.agg [I x15.1,str x15.2.1,I x15.2.2.1,.hs 3 0 [(0,3)] 4 0 (x15.2.2.2.map ae).length]]) (ws:=[.agg [I x15.1,str x15.2.1,I x15.2.2.1,.usl 4 (x15.2.2.2.map ae)]]) rfl rfl rfl (by decide) rfl (cF (ec (au (ay rfl) (au (ay rfl) (au (ay rfl) (au (fh (path:=[(0,3)]) rfl rfl (eL rfl rfl al) rfl (ir (path:=[]) (i:=0) (k:=3) (e':=.agg [I x15.1,str x15.2.1,I x15.2.2.1,.dead]) (es2':=[.agg [I x15.1,str x15.2.1,I x15.2.2.1,.dead]]) al rfl rfl rfl d5)) ed))))) cl) rfl)) ?_
  refine cq 1 [45] [.agg [I (4),str ([]),I (0),.hs 84 0 [] 4 0 1]] 116 ?_
  refine o0 132 rfl rfl (ie rfl rfl (fM (path:=[]) (pl:=false) (e':=.agg [I (4),str ([]),I (0),.usl 4 (([(Condition.mk x15.1 x15.2.1 x15.2.2.1 x15.2.2.2)]).map ae)]) (es2':=[.agg [I (4),str ([]),I (0),.usl 4 (([(Condition.mk x15.1 x15.2.1 x15.2.2.1 x15.2.2.2)]).map ae)]]) rfl (ec (au (ay rfl) (au (ay rfl) (au (ay rfl) (au (rm (k:=1) (es:=[.agg [I x15.1,str x15.2.1,I x15.2.2.1,.usl 4 (x15.2.2.2.map ae)]]) (f:=ae) (xs:=[(Condition.mk x15.1 x15.2.1 x15.2.2.1 x15.2.2.2)]) rfl rfl (C5 (dK (Condition.mk x15.1 x15.2.1 x15.2.2.1 x15.2.2.2)).symm KM)) ed))))) rfl rfl rfl al rfl rfl rfl rfl rfl d5 1 rfl)) ?_
  refine aq 2 ?_
  refine fx ?_
  exact rf [2,3,4] [1,2,3] (ih _ _ h hr hn :)
 ·refine aq 1 ?_
  exact rf [2,3] [1,2,3] (hn _ (an h) :) (hk:=hK)
theorem Ok (c_2:l1Cur)(r:Condition×l1Cur)(h:AK c_2=some r):ct qc Tryd.f13 [true] 1 (En c_2) (Ep r):=by
 show Run _ _ (iz c_2 r) [.code Ig] _
 refine rI 47 [(0,.hp 1 0 [] 3 0 0)] [(1,some ⟨0,3,[bZ c_2]⟩)] 2 ?_
 unfold AK at h
 refine ck 3 [2] [] [2] [] [.hp 2 0 [] 4 0 0] [some ⟨0,4,[.agg [I (0),str ([]),I (0),.isl true []]]⟩] 18 (by kernel_rfl) ?_
 refine eS 2 [.agg [I (0),str ([]),I (0),.usl 4 (([]).map ae)]] rfl rfl (aO (fC (aO (.refl _) (aO (.refl _) (aO (.refl _) (aO (.nil _) dH))))) dH) ?_
 refine cq 4 [5] [.hp 1 0 [] 3 0 0] 34 ?_
 obtain⟨r2,hr2,h⟩:=bS h
 refine oq 50 (.agg [I r2.1.Op,str r2.1.Name,I r2.1.Day,.hs 34 0 [] 4 0 (r2.1.Parts.map ae).length]) rfl (ao rfl rfl (aB rfl rfl rfl (cd (b7 rfl (cO (path:=[]) rfl rfl al)) bb) (EE hr2) (.inr rfl) (cf rfl rfl rfl rfl aY) rfl rfl rfl)) ?_
 refine ck 1 [3] [] [50] [] [.hp 50 0 [] 4 0 0] [some ⟨0,4,[.agg [I (0),str ([]),I (0),.isl true []]]⟩] 66 (by kernel_rfl) ?_
 refine eS 50 [.agg [I (0),str ([]),I (0),.usl 4 (([]).map ae)]] rfl rfl (aO (fC (aO (.refl _) (aO (.refl _) (aO (.refl _) (aO (.nil _) dH))))) dH) ?_
 refine o0 82 rfl rfl (ie rfl rfl (fM (path:=[]) (pl:=false) (e':=ai r2.1) (es2':=[ai r2.1]) rfl (ec (au (ay rfl) (au (ay rfl) (au (ay rfl) (au (cG rfl rfl) ed))))) rfl rfl rfl al rfl rfl rfl rfl rfl d5 2 rfl)) ?_
 refine cq 5 [7] [.hp 1 0 [] 3 0 0] 98 ?_
 obtain⟨r3,hr3,h⟩:=bS h
 refine oq 114 (I r3.1) rfl (ao rfl rfl (aB rfl rfl rfl (cd (b7 rfl (cO (path:=[]) rfl rfl al)) (aM (bd rfl) bb)) (gU hr3) (.inr rfl) (cf rfl rfl rfl rfl aY) rfl rfl rfl)) ?_
 refine cq 7 [9] [B (r3.1==0)] 146 ?_
 obtain⟨y4,hy4,hy41,hy42⟩:=bJ h
 have j4:∀u4,y4=.inr u4→Run qc 1 (iz c_2 r) (.blk 0::.code uw::[]) (sT 47 [(2,.hp 2 0 [] 4 0 0),(3,.hp 3 0 [] 4 0 0)] [⟨0,3,[.agg [.isl false (u4.1.map (V.int .u8)),I u4.2.1,.int .u64 u4.2.2.1]]⟩,⟨0,4,[.agg [I (0),str ([]),I (0),.usl 4 (([]).map ae)]]⟩,⟨0,4,[.agg [I u4.2.2.2.1,str u4.2.2.2.2.1,I u4.2.2.2.2.2.1,.usl 4 (u4.2.2.2.2.2.2.map ae)]]⟩] 4):=by
  intro u4 hu
  replace h:=hy42 u4 hu
  refine cq 4 [46] [.agg [I u4.2.2.2.1,str u4.2.2.2.2.1,I u4.2.2.2.2.2.1,.hs 3 0 [(0,3)] 4 0 (u4.2.2.2.2.2.2.map ae).length]] 20 ?_
  refine o0 36 rfl rfl (ie rfl rfl (fM (path:=[]) (pl:=false) (e':=.agg [I u4.2.2.2.1,str u4.2.2.2.2.1,I u4.2.2.2.2.2.1,.usl 4 (u4.2.2.2.2.2.2.map ae)]) (es2':=[.agg [I u4.2.2.2.1,str u4.2.2.2.2.1,I u4.2.2.2.2.2.1,.usl 4 (u4.2.2.2.2.2.2.map ae)]]) rfl (ec (au (ay rfl) (au (ay rfl) (au (ay rfl) (au (fh (path:=[(0,3)]) rfl rfl (eL rfl rfl al) rfl (ir (path:=[]) (i:=0) (k:=3) (e':=.agg [I u4.2.2.2.1,str u4.2.2.2.2.1,I u4.2.2.2.2.2.1,.dead]) (es2':=[.agg [I u4.2.2.2.1,str u4.2.2.2.2.1,I u4.2.2.2.2.2.1,.dead]]) al rfl rfl rfl d5)) ed))))) rfl rfl rfl al rfl rfl rfl rfl rfl d5 1 rfl)) ?_
  refine aq 1 ?_
  obtain rfl:=sI h
  exact bV rfl ⟨_,fin (vs:=[.agg [I u4.2.2.2.1,str u4.2.2.2.2.1,I u4.2.2.2.2.2.1,.hs 2 1 [(0,3)] 4 0 (u4.2.2.2.2.2.2.map ae).length]]) (kE (gl rfl rfl rfl) oz) (cF (ec (au (ay rfl) (au (ay rfl) (au (ay rfl) (au (fh (path:=[(0,3)]) rfl rfl (eL rfl rfl al) rfl (ir (path:=[]) (i:=0) (k:=3) (e':=.agg [I u4.2.2.2.1,str u4.2.2.2.2.1,I u4.2.2.2.2.2.1,.dead]) (es2':=[.agg [I u4.2.2.2.1,str u4.2.2.2.2.1,I u4.2.2.2.2.2.1,.dead]]) al rfl rfl rfl d5)) ed))))) cl) rfl (eV rfl (gq rfl rfl) d4),iO dW⟩
 have r4:∀r',y4=.inl r'→∀st,iz c_2 r' st→(iz c_2 r) st:=fun r' e st hq=>by rw[hy41 r' e] at hq;exact hq
 replace h:=hy4
 refine sq h ?_ ?_<;>intro h
 ·refine cq 2 [11] [.hp 1 0 [] 3 0 0] 162 ?_
  obtain⟨r5,hr5,h⟩:=bS h
  refine oq 178 (I r5.1) rfl (ao rfl rfl (aB rfl rfl rfl (cd (b7 rfl (cO (path:=[]) rfl rfl al)) (aM (bd rfl) bb)) (gU hr5) (.inr rfl) (cf rfl rfl rfl rfl aY) rfl rfl rfl)) ?_
  refine ck 3 [] [] [50] [] [] [some ⟨2,4,[.agg [I r5.1,str r2.1.Name,I r2.1.Day,.usl 4 (r2.1.Parts.map ae)]]⟩] 210 (by kernel_rfl) ?_
  exact rf [2,3] [1,2,50] (j4 _ (an h) :)
 ·refine cq 5 [14] [B (r3.1==1)] 178 ?_
  obtain⟨y6,hy6,hy61,hy62⟩:=bL h
  have j6:∀u6,y6=.inr u6→Run qc 1 (iz c_2 r) (.blk 0::.code uw::[]) (sT 47 [(2,.hp 2 0 [] 4 0 0),(3,.hp 3 0 [] 4 0 0)] [⟨0,3,[.agg [.isl false (u6.1.map (V.int .u8)),I u6.2.1,.int .u64 u6.2.2.1]]⟩,⟨0,4,[.agg [I (0),str ([]),I (0),.usl 4 (([]).map ae)]]⟩,⟨0,4,[.agg [I u6.2.2.2.1,str u6.2.2.2.2.1,I u6.2.2.2.2.2.1,.usl 4 (u6.2.2.2.2.2.2.map ae)]]⟩] 4):=by
   intro u6 hu
   replace h:=hy62 u6 hu
   exact rf [2,3] [1,2,3] (j4 _ (an h) :)
  have r6:∀r',y6=.inl r'→∀st,iz c_2 r' st→(iz c_2 r) st:=fun r' e st hq=>r4 r' (hy61 r' e) st hq
  replace h:=hy6
  refine sq h ?_ ?_<;>intro h
  ·refine cq 2 [16] [.hp 1 0 [] 3 0 0] 194 ?_
   refine oq 210 (.hs 194 0 [] 1 0 6) rfl (aZ rfl (d8 (f:=I) (xs:=[]) (z:=str ([])) (es:=[str ([]:ac),str ([65]:ac),str ([97,98,99,100,101,102,103,104]:ac),str ([97,98,99,100,101,102,103,104,105]:ac),str ([116,114,117,101]:ac),str ([120,57]:ac)]) (ws:=[str ([]:ac),str ([65]:ac),str ([97,98,99,100,101,102,103,104]:ac),str ([97,98,99,100,101,102,103,104,105]:ac),str ([116,114,117,101]:ac),str ([120,57]:ac)]) rfl rfl rfl (by decide) rfl (ba rfl) rfl)) ?_
   obtain⟨r7,hr7,h⟩:=bS h
   refine oK 226 (str r7.1) rfl rfl (l5 rfl rfl (nU rfl rfl rfl rfl (cd (b7 rfl (cO (path:=[]) rfl rfl al)) (aM (la rfl rfl (fi (f:=str) (g:=str) (xs:=[([]:ac),([65]:ac),([97,98,99,100,101,102,103,104]:ac),([97,98,99,100,101,102,103,104,105]:ac),([116,114,117,101]:ac),([120,57]:ac)]) rfl rfl (ci fE))) bb)) (yQ hr7) (cf rfl rfl rfl rfl aY) rfl rfl rfl)) ?_
   refine ck 3 [] [] [50] [] [] [some ⟨2,4,[.agg [I r2.1.Op,str r7.1,I r2.1.Day,.usl 4 (r2.1.Parts.map ae)]]⟩] 258 (by kernel_rfl) ?_
   exact rf [2,3] [1,2,50] (j6 _ (an h) :)
  ·refine cq 5 [20] [B (r3.1==2)] 210 ?_
   obtain⟨y8,hy8,hy81,hy82⟩:=bL h
   have j8:∀u8,y8=.inr u8→Run qc 1 (iz c_2 r) (.blk 0::.code uw::[]) (sT 47 [(2,.hp 2 0 [] 4 0 0),(3,.hp 3 0 [] 4 0 0)] [⟨0,3,[.agg [.isl false (u8.1.map (V.int .u8)),I u8.2.1,.int .u64 u8.2.2.1]]⟩,⟨0,4,[.agg [I (0),str ([]),I (0),.usl 4 (([]).map ae)]]⟩,⟨0,4,[.agg [I u8.2.2.2.1,str u8.2.2.2.2.1,I u8.2.2.2.2.2.1,.usl 4 (u8.2.2.2.2.2.2.map ae)]]⟩] 4):=by
    intro u8 hu
    replace h:=hy82 u8 hu
    exact rf [2,3] [1,2,3] (j6 _ (an h) :)
   have r8:∀r',y8=.inl r'→∀st,iz c_2 r' st→(iz c_2 r) st:=fun r' e st hq=>r6 r' (hy81 r' e) st hq
   replace h:=hy8
   refine sq h ?_ ?_<;>intro h
   ·refine cq 2 [22] [.hp 1 0 [] 3 0 0] 226 ?_
    obtain⟨r9,hr9,h⟩:=bS h
    refine oq 242 (I r9.1) rfl (ao rfl rfl (aB rfl rfl rfl (cd (b7 rfl (cO (path:=[]) rfl rfl al)) bb) (QV hr9) (.inr rfl) (cf rfl rfl rfl rfl aY) rfl rfl rfl)) ?_
    refine ck 3 [] [] [50] [] [] [some ⟨2,4,[.agg [I r2.1.Op,str r2.1.Name,I r9.1,.usl 4 (r2.1.Parts.map ae)]]⟩] 274 (by kernel_rfl) ?_
    exact rf [2,3] [1,2,50] (j8 _ (an h) :)
   ·refine cq 5 [25] [B (r3.1==3)] 242 ?_
    obtain⟨y10,hy10,hy101,hy102⟩:=bL h
    have j10:∀u10,y10=.inr u10→Run qc 1 (iz c_2 r) (.blk 0::.code uw::[]) (sT 47 [(2,.hp 2 0 [] 4 0 0),(3,.hp 3 0 [] 4 0 0)] [⟨0,3,[.agg [.isl false (u10.1.map (V.int .u8)),I u10.2.1,.int .u64 u10.2.2.1]]⟩,⟨0,4,[.agg [I (0),str ([]),I (0),.usl 4 (([]).map ae)]]⟩,⟨0,4,[.agg [I u10.2.2.2.1,str u10.2.2.2.2.1,I u10.2.2.2.2.2.1,.usl 4 (u10.2.2.2.2.2.2.map ae)]]⟩] 4):=by
     intro u10 hu
     replace h:=hy102 u10 hu
     exact rf [2,3] [1,2,3] (j8 _ (an h) :)
    have r10:∀r',y10=.inl r'→∀st,iz c_2 r' st→(iz c_2 r) st:=fun r' e st hq=>r8 r' (hy101 r' e) st hq
    replace h:=hy10
    refine sq h ?_ ?_<;>intro h
    ·refine eX [0,1,0,4,12,31,63,127] rfl (by decide +kernel) ?_
     refine dq [50] [] (.hp 50 0 [] 4 0 3) rfl (ez rfl rfl rfl) ?_
     refine dq [50] [] (.hs 50 2 [(0,3)] 4 0 (r2.1.Parts.map ae).length) rfl (cZ rfl rfl) ?_
     refine dk 1 [29] [.hp 1 0 [] 3 0 0] ?_
     obtain⟨r11,hr11,h⟩:=bS h
     refine dq [1] [1] (.agg [I r11.1.Op,str r11.1.Name,I r11.1.Day,.hs 290 0 [] 4 0 (r11.1.Parts.map ae).length]) rfl (ao rfl rfl (aB rfl rfl rfl (cd (b7 rfl (cO (path:=[]) rfl rfl al)) bb) (EE hr11) (.inr rfl) (cf rfl rfl rfl rfl aY) rfl rfl rfl)) ?_ (dj rfl rfl rfl rfl (cd (b7 rfl (cO (path:=[]) rfl rfl al)) bb) (EE hr11) (.inr rfl) rfl)
     refine dq [290] [290] (.hs 306 0 [] 4 0 1) rfl (aZ rfl (d8 (f:=I) (xs:=[]) (z:=.agg [I (0),str ([]),I (0),.isl true []]) (es:=[.agg [I r11.1.Op,str r11.1.Name,I r11.1.Day,.hs 290 0 [] 4 0 (r11.1.Parts.map ae).length]]) (ws:=[ai r11.1]) rfl rfl rfl (by decide) rfl (cF (ec (au (ay rfl) (au (ay rfl) (au (ay rfl) (au (cG rfl rfl) ed))))) cl) rfl)) ?_
     obtain⟨a12,ha12,h⟩:=bS h
     refine dq [50,306] [50,306] (.hs 322 0 [] 4 0 (a12.map ae).length) rfl (fm rfl rfl rfl rfl rfl (gW (path:=[(0,3)]) (f:=ae) (xs:=r2.1.Parts) (ys:=[r11.1]) rfl rfl (HJ rfl rfl rfl) (congrArg (fun w=>[w]) (dK r11.1).symm) rfl rfl (eL rfl rfl al) rfl (by decide) mw ha12 rfl (ir (path:=[]) (i:=0) (k:=3) (e':=.agg [I r2.1.Op,str r2.1.Name,I r2.1.Day,.dead]) (es2':=[.agg [I r2.1.Op,str r2.1.Name,I r2.1.Day,.dead]]) al rfl rfl rfl d5))) ?_ (qq rfl (Nt rfl rfl rfl rfl))
     refine dq [50] [] (.hp 50 0 [] 4 0 3) rfl (ez rfl rfl rfl) ?_
     refine dz [50,322] [50,322] rfl (ie rfl rfl (fM (path:=[]) (pl:=false) (e':=.agg [I r2.1.Op,str r2.1.Name,I r2.1.Day,.usl 4 (a12.map ae)]) (es2':=[.agg [I r2.1.Op,str r2.1.Name,I r2.1.Day,.usl 4 (a12.map ae)]]) rfl (gP rfl (cG rfl rfl)) rfl rfl rfl al rfl rfl rfl rfl rfl d5 3 rfl)) ?_
     refine de 370 rfl rfl ?_
     exact rf [2,3] [1,2,50] (j10 _ (an h) :)
    ·refine cq 5 [34] [B (r3.1==4)] 274 ?_
     obtain⟨y13,hy13,hy131,hy132⟩:=bL h
     have j13:∀u13,y13=.inr u13→Run qc 1 (iz c_2 r) (.blk 0::.code uw::[]) (sT 47 [(2,.hp 2 0 [] 4 0 0),(3,.hp 3 0 [] 4 0 0)] [⟨0,3,[.agg [.isl false (u13.1.map (V.int .u8)),I u13.2.1,.int .u64 u13.2.2.1]]⟩,⟨0,4,[.agg [I (0),str ([]),I (0),.usl 4 (([]).map ae)]]⟩,⟨0,4,[.agg [I u13.2.2.2.1,str u13.2.2.2.2.1,I u13.2.2.2.2.2.1,.usl 4 (u13.2.2.2.2.2.2.map ae)]]⟩] 4):=by
      intro u13 hu
      replace h:=hy132 u13 hu
      exact rf [2,3] [1,2,3] (j10 _ (an h) :)
     have r13:∀r',y13=.inl r'→∀st,iz c_2 r' st→(iz c_2 r) st:=fun r' e st hq=>r10 r' (hy131 r' e) st hq
     replace h:=hy13
     refine sq h ?_ ?_<;>intro h
     ·refine cq 3 [36] [.hp 1 0 [] 3 0 0] 290 ?_
      obtain⟨r14,hr14,h⟩:=bS h
      refine oq 306 (I r14.1) rfl (ao rfl rfl (aB rfl rfl rfl (cd (b7 rfl (cO (path:=[]) rfl rfl al)) (aM (bd rfl) bb)) (gU hr14) (.inr rfl) (cf rfl rfl rfl rfl aY) rfl rfl rfl)) ?_
      refine cq 4 [4] [I (aG (14+r14.1))] 338 ?_
      obtain⟨y17,hy17,hy171,hy172⟩:=bL h
      refine dT rfl ?_
      refine rf [2,3,4] [1,2,50] (Ih c_2 r14 rfl (r2.1.Op,r2.1.Name,r2.1.Day,r2.1.Parts) _ hy17 (fun r' e st hq=>r13 r' (hy171 r' e) st hq) fun u17 hu=>?_)
      replace h:=hy172 u17 hu
      exact rf [2,3] [1,2,3] (j13 _ (an h) :)
     ·refine aq 1 ?_
      exact rf [2,3] [1,2,50] (j13 _ (an h) :)
theorem Ff {G:dN}:dS G 13 vF:=gT 1 1 (aV Ja (aV hY (aV p6 (aV Md (aV CD cJ))))) d3 Tryd.func13 (fun a r h=>Ok a r h)
def ub:Condition→List V:=oA aa
def uc (r:Condition):V×List V:=(ai r,[])
noncomputable def ue (bx:Condition→Option Condition):Ent:=bI [false] ub uc bx
theorem BI (bx:Condition→Option Condition){x}{r}(h:bx x=some r):(ue bx).F (ub x)=some (uc r):=bg (bl aN) h
noncomputable def xz :=ue (aC mf)
theorem zD {c_1:Condition}{r}(h:BH c_1=some r):xz.F (ub c_1)=some (uc r):=BI (aC mf) h
noncomputable def JJ :=bc Tryd.f16
noncomputable def ES (bx:Condition→Option Condition):Env:=dZ [(16,(ue bx))]
def JI (bx:Condition→Option Condition)(x:Condition)(r:Condition):St→Prop:=QF (ES bx) Tryd.f16 [false] (ub x) (uc r)
theorem Gr (bx:Condition→Option Condition)(c_1:Condition):eo (ES bx) 0 (JI bx c_1) (cL (cL (cR (cL (cR (cR JJ)))))) 0 (mZ bx c_1) (fun u=>(sT 31 [(2,.hp 1 0 [] 4 0 0),(3,.hp 2 0 [] 4 0 0)] [⟨0,4,[.agg [I (0),str ([]),I (0),.usl 4 (([]).map ae)]]⟩,⟨0,4,[.agg [I c_1.Op,str c_1.Name,I c_1.Day,.usl 4 (u.map ae)]]⟩] 3)) fun x2=>(sT 31 [(1,.hp 1 0 [] 4 0 0),(2,.hp 2 0 [] 4 0 0),(3,.hp 3 0 [] 4 0 0),(4,I x2.1)] [⟨0,4,[aa c_1]⟩,⟨0,4,[.agg [I (0),str ([]),I (0),.usl 4 (([]).map ae)]]⟩,⟨0,4,[.agg [I c_1.Op,str c_1.Name,I c_1.Day,.usl 4 (x2.2.map ae)]]⟩] 4):=hZ (wl bx c_1) fun {Q K} hK self ih x2 y h hr hn=>by
 unfold jh at h
 refine cq 6 [12,14] [I x2.1,.isl false (c_1.Parts.map aF)] 52 ?_
 refine oq 68 (I (len c_1.Parts)) rfl (dD rfl rfl rfl (fX rfl)) ?_
 refine cq 2 [16] [B (decide (x2.1<(len c_1.Parts)))] 84 ?_
 refine sq h ?_ ?_<;>intro h
 ·refine aq 1 ?_
  refine aq 2 ?_
  refine eX [0,1,0,4,0,28,60,124,252,511,1023,2047] rfl (by decide +kernel) ?_
  refine dq [3] [] (.hp 3 0 [] 4 0 3) rfl (ez rfl rfl rfl) ?_
  refine dq [3] [] (.hs 3 0 [(0,3)] 4 0 (x2.2.map ae).length) rfl (cZ rfl rfl) ?_
  refine dq [1] [] (.hp 1 0 [] 4 0 3) rfl (ez rfl rfl rfl) ?_
  refine dq [1] [] (.isl false (c_1.Parts.map aF)) rfl (cZ rfl rfl) ?_
  refine dk 1 [23] [I x2.1] ?_
  obtain⟨e3,he3,h⟩:=bS h
  refine dq [] [] (.iptr (aa e3) 0) rfl (aJ rfl rfl rfl (dV rfl rfl (bo e3) rfl he3)) ?_
  refine dq [] [] (aa e3) rfl (cZ rfl rfl) ?_
  obtain⟨r4,hr4,h⟩:=bS h
  refine dq [] [] (.agg [I r4.Op,str r4.Name,I r4.Day,.hs 196 0 [] 4 0 (r4.Parts.map ae).length]) rfl (ao rfl rfl (aB rfl rfl rfl (aM (bd rfl) bb) (BI bx hr4) (.inr rfl) aY rfl rfl rfl)) ?_ (dj rfl rfl rfl rfl (aM (bd rfl) bb) (BI bx hr4) (.inr rfl) rfl)
  refine dq [196] [196] (.hs 212 0 [] 4 0 1) rfl (aZ rfl (d8 (f:=I) (xs:=[]) (z:=.agg [I (0),str ([]),I (0),.isl true []]) (es:=[.agg [I r4.Op,str r4.Name,I r4.Day,.hs 196 0 [] 4 0 (r4.Parts.map ae).length]]) (ws:=[ai r4]) rfl rfl rfl (by decide) rfl (cF (ec (au (ay rfl) (au (ay rfl) (au (ay rfl) (au (cG rfl rfl) ed))))) cl) rfl)) ?_
  obtain⟨a5,ha5,h⟩:=bS h
  refine dq [3,212] [3,212] (.hs 228 0 [] 4 0 (a5.map ae).length) rfl (fm rfl rfl rfl rfl rfl (gW (path:=[(0,3)]) (f:=ae) (xs:=x2.2) (ys:=[r4]) rfl rfl (HJ rfl rfl rfl) (congrArg (fun w=>[w]) (dK r4).symm) rfl rfl (eL rfl rfl al) rfl (by decide) mw ha5 rfl (ir (path:=[]) (i:=0) (k:=3) (e':=.agg [I c_1.Op,str c_1.Name,I c_1.Day,.dead]) (es2':=[.agg [I c_1.Op,str c_1.Name,I c_1.Day,.dead]]) al rfl rfl rfl d5))) ?_ (qq rfl (Nt rfl rfl rfl rfl))
  refine dq [3] [] (.hp 3 0 [] 4 0 3) rfl (ez rfl rfl rfl) ?_
  refine dz [3,228] [3,228] rfl (ie rfl rfl (fM (path:=[]) (pl:=false) (e':=.agg [I c_1.Op,str c_1.Name,I c_1.Day,.usl 4 (a5.map ae)]) (es2':=[.agg [I c_1.Op,str c_1.Name,I c_1.Day,.usl 4 (a5.map ae)]]) rfl (gP rfl (cG rfl rfl)) rfl rfl rfl al rfl rfl rfl rfl rfl d5 1 rfl)) ?_
  refine de 276 rfl rfl ?_
  refine cq 6 [4] [I (aG (x2.1+1))] 324 ?_
  refine fx ?_
  exact rf [1,2,3,4] [1,2,3] (ih _ _ h hr hn :)
 ·refine aq 1 ?_
  exact rf [2,3] [2,3] (hn _ (an h) :) (hk:=hK)
theorem LP (bx:Condition→Option Condition)(c_1:Condition)(r:Condition)(h:qW bx c_1=some r):ct (ES bx) Tryd.f16 [false] 0 (ub c_1) (uc r):=by
 show Run _ _ (JI bx c_1 r) [.code JJ] _
 refine rI 31 [(0,aa c_1)] [] 1 ?_
 unfold qW at h
 refine ck 4 [1,2] [] [1,17] [] [.hp 1 0 [] 4 0 0,.hp 17 0 [] 4 0 0] [some ⟨0,4,[aa c_1]⟩,some ⟨0,4,[.agg [I (0),str ([]),I (0),.isl true []]]⟩] 33 (by kernel_rfl) ?_
 refine eS 17 [.agg [I (0),str ([]),I (0),.usl 4 (([]).map ae)]] rfl rfl (aO (fC (aO (.refl _) (aO (.refl _) (aO (.refl _) (aO (.nil _) dH))))) dH) ?_
 refine ck 11 [3,11] [] [145] [] [.hp 145 0 [] 4 0 0,.agg [I c_1.Op,str c_1.Name,I c_1.Day,.isl true []]] [some ⟨0,4,[.agg [I (0),str ([]),I (0),.isl true []]]⟩] 161 (by kernel_rfl) ?_
 refine eS 145 [.agg [I (0),str ([]),I (0),.usl 4 (([]).map ae)]] rfl rfl (aO (fC (aO (.refl _) (aO (.refl _) (aO (.refl _) (aO (.nil _) dH))))) dH) ?_
 refine ck 1 [] [] [145] [] [] [some ⟨2,4,[.agg [I c_1.Op,str c_1.Name,I c_1.Day,.isl true []]]⟩] 177 (by kernel_rfl) ?_
 refine eS 145 [.agg [I c_1.Op,str c_1.Name,I c_1.Day,.usl 4 (([]).map ae)]] rfl rfl (aO (fC (aO (.refl _) (aO (.refl _) (aO (.refl _) (aO (.nil _) dH))))) dH) ?_
 refine cq 7 [4] [I (0)] 193 ?_
 obtain⟨y6,hy6,hy61,hy62⟩:=bJ h
 refine dT rfl ?_
 refine rf [1,2,3,4] [1,17,145] (Gr bx c_1 rfl (0,[]) _ hy6 (fun r' e st hq=>by rw[hy61 r' e] at hq;exact hq) fun u6 hu=>?_)
 replace h:=hy62 u6 hu
 refine cq 3 [30] [.agg [I c_1.Op,str c_1.Name,I c_1.Day,.hs 2 0 [(0,3)] 4 0 (u6.map ae).length]] 19 ?_
 refine o0 35 rfl rfl (ie rfl rfl (fM (path:=[]) (pl:=false) (e':=.agg [I c_1.Op,str c_1.Name,I c_1.Day,.usl 4 (u6.map ae)]) (es2':=[.agg [I c_1.Op,str c_1.Name,I c_1.Day,.usl 4 (u6.map ae)]]) rfl (ec (au (ay rfl) (au (ay rfl) (au (ay rfl) (au (fh (path:=[(0,3)]) rfl rfl (eL rfl rfl al) rfl (ir (path:=[]) (i:=0) (k:=3) (e':=.agg [I c_1.Op,str c_1.Name,I c_1.Day,.dead]) (es2':=[.agg [I c_1.Op,str c_1.Name,I c_1.Day,.dead]]) al rfl rfl rfl d5)) ed))))) rfl rfl rfl al rfl rfl rfl rfl rfl d5 1 rfl)) ?_
 refine aq 1 ?_
 obtain rfl:=sI h
 exact bV rfl ⟨_,fin (vs:=[.agg [I c_1.Op,str c_1.Name,I c_1.Day,.hs 1 1 [(0,3)] 4 0 (u6.map ae).length]]) (kE (gl rfl rfl rfl) oz) (cF (ec (au (ay rfl) (au (ay rfl) (au (ay rfl) (au (fh (path:=[(0,3)]) rfl rfl (eL rfl rfl al) rfl (ir (path:=[]) (i:=0) (k:=3) (e':=.agg [I c_1.Op,str c_1.Name,I c_1.Day,.dead]) (es2':=[.agg [I c_1.Op,str c_1.Name,I c_1.Day,.dead]]) al rfl rfl rfl d5)) ed))))) cl) rfl (eI d4),dW⟩
theorem JK {G:dN}:dS G 16 xz:=gQ fun bx g_Ffbx=>gT 1 0 (aV g_Ffbx cJ) d3 Tryd.func16 (fun a r h=>LP bx a r h)
def Ec:(List Int)→List V:=oA (pU (V.int .u8))
def Ed (r:Condition×Condition):V×List V:=(.tup [ai r.1,ai r.2],[])
noncomputable def BW :=bI [false] Ec Ed fun x=>Fd x
theorem QP {aI:List Int}{r}(h:Fd aI=some r):BW.F (Ec aI)=some (Ed r):=bg (bl (fN (jF (k:=.u8)))) h
noncomputable def QR :=bc Tryd.f5
noncomputable def No :=dZ [(13,vF),(14,gO),(15,rJ),(16,xz)]
def QQ (x:(List Int))(r:Condition×Condition):St→Prop:=QF No Tryd.f5 [false] (Ec x) (Ed r)
theorem Og (aI:List Int)(r:Condition×Condition)(h:Fd aI=some r):ct No Tryd.f5 [false] 0 (Ec aI) (Ed r):=by
 show Run _ _ (QQ aI r) [.code QR] _
 refine rI 34 [(0,.isl false (aI.map (V.int .u8)))] [] 1 ?_
 unfold Fd at h
 refine ck 3 [2] [] [1] [] [.hp 1 0 [] 4 0 0] [some ⟨0,4,[.agg [I (0),str ([]),I (0),.isl true []]]⟩] 17 (by kernel_rfl) ?_
 refine eS 1 [.agg [I (0),str ([]),I (0),.usl 4 (([]).map ae)]] rfl rfl (aO (fC (aO (.refl _) (aO (.refl _) (aO (.refl _) (aO (.nil _) dH))))) dH) ?_
 refine ck 1 [3] [] [17] [] [.hp 17 0 [] 4 0 0] [some ⟨0,4,[.agg [I (0),str ([]),I (0),.isl true []]]⟩] 33 (by kernel_rfl) ?_
 refine eS 17 [.agg [I (0),str ([]),I (0),.usl 4 (([]).map ae)]] rfl rfl (aO (fC (aO (.refl _) (aO (.refl _) (aO (.refl _) (aO (.nil _) dH))))) dH) ?_
 refine ck 11 [4,9] [] [65] [] [.hp 65 0 [] 3 0 0,.hp 65 0 [] 3 0 0] [some ⟨0,3,[.agg [.isl false (aI.map (V.int .u8)),I (0),.int .u64 (0)]]⟩] 113 (by kernel_rfl) ?_
 obtain⟨r2,hr2,h⟩:=bS h
 refine oq 129 (.agg [I r2.1.Op,str r2.1.Name,I r2.1.Day,.hs 113 0 [] 4 0 (r2.1.Parts.map ae).length]) rfl (ao rfl rfl (aB rfl rfl rfl (cd (b7 rfl (cO (path:=[]) rfl rfl al)) bb) (Eo hr2) (.inr rfl) (cf rfl rfl rfl rfl aY) rfl rfl rfl)) ?_
 refine ck 1 [5] [] [129] [] [.hp 129 0 [] 4 0 0] [some ⟨0,4,[.agg [I (0),str ([]),I (0),.isl true []]]⟩] 145 (by kernel_rfl) ?_
 refine eS 129 [.agg [I (0),str ([]),I (0),.usl 4 (([]).map ae)]] rfl rfl (aO (fC (aO (.refl _) (aO (.refl _) (aO (.refl _) (aO (.nil _) dH))))) dH) ?_
 refine o0 161 rfl rfl (ie rfl rfl (fM (path:=[]) (pl:=false) (e':=ai r2.1) (es2':=[ai r2.1]) rfl (ec (au (ay rfl) (au (ay rfl) (au (ay rfl) (au (cG rfl rfl) ed))))) rfl rfl rfl al rfl rfl rfl rfl rfl d5 2 rfl)) ?_
 refine cq 5 [11] [.hp 65 0 [] 3 0 0] 177 ?_
 obtain⟨r3,hr3,h⟩:=bS h
 refine oq 193 (I r3.1) rfl (ao rfl rfl (aB rfl rfl rfl (cd (b7 rfl (cO (path:=[]) rfl rfl al)) (aM (bd rfl) bb)) (gU hr3) (.inr rfl) (cf rfl rfl rfl rfl aY) rfl rfl rfl)) ?_
 refine cq 7 [13] [B (r3.1==0)] 225 ?_
 refine sq h ?_ ?_<;>intro h
 ·refine aq 1 ?_
  refine eX [0,0,2,0,14,30,62,31,255] rfl (by decide +kernel) ?_
  refine dq [129] [] (.agg [I r2.1.Op,str r2.1.Name,I r2.1.Day,.hs 129 2 [(0,3)] 4 0 (r2.1.Parts.map ae).length]) rfl (cZ rfl rfl) ?_
  refine dk 1 [16] [.hp 65 0 [] 3 0 0] ?_
  obtain⟨r4,hr4,h⟩:=bS h
  refine dq [65] [65] (.agg [I r4.1.Op,str r4.1.Name,I r4.1.Day,.hs 257 0 [] 4 0 (r4.1.Parts.map ae).length]) rfl (ao rfl rfl (aB rfl rfl rfl (cd (b7 rfl (cO (path:=[]) rfl rfl al)) (aM (bd rfl) bb)) (tx hr4) (.inr rfl) (cf rfl rfl rfl rfl aY) rfl rfl rfl)) ?_ (dj rfl rfl rfl rfl (cd (b7 rfl (cO (path:=[]) rfl rfl al)) (aM (bd rfl) bb)) (tx hr4) (.inr rfl) rfl)
  refine dq [129] [] (.agg [I r2.1.Op,str r2.1.Name,I r2.1.Day,.hs 129 2 [(0,3)] 4 0 (r2.1.Parts.map ae).length]) rfl (cZ rfl rfl) ?_
  obtain⟨r5,hr5,h⟩:=bS h
  refine dq [129] [] (.agg [I r5.Op,str r5.Name,I r5.Day,.hs 289 0 [] 4 0 (r5.Parts.map ae).length]) rfl (ao rfl rfl (aB rfl rfl rfl (aM (oG (d6 (dX rfl) (d6 (dX rfl) (d6 (dX rfl) (d6 (jE (path:=[(0,3)]) rfl rfl (eL rfl rfl al) rfl (ci (f:=ae) bM)) pS))))) bb) (zD hr5) (.inl (by simp[bW,cy,str,ky (f:=ae) fq,ai])) aY rfl rfl rfl)) ?_ (dj rfl rfl rfl rfl (aM (oG (d6 (dX rfl) (d6 (dX rfl) (d6 (dX rfl) (d6 (jE (path:=[(0,3)]) rfl rfl (eL rfl rfl al) rfl (ci (f:=ae) bM)) pS))))) bb) (zD hr5) (.inl (by simp[bW,cy,str,ky (f:=ae) fq,ai])) rfl)
  refine dq [257,289] [257,289] (.hs 305 0 [] 4 0 2) rfl (aZ rfl (d8 (f:=I) (xs:=[]) (z:=.agg [I (0),str ([]),I (0),.isl true []]) (es:=[.agg [I r4.1.Op,str r4.1.Name,I r4.1.Day,.hs 257 0 [] 4 0 (r4.1.Parts.map ae).length],.agg [I r5.Op,str r5.Name,I r5.Day,.hs 289 0 [] 4 0 (r5.Parts.map ae).length]]) (ws:=[ai r4.1,ai r5]) rfl rfl rfl (by decide) rfl (cF (ec (au (ay rfl) (au (ay rfl) (au (ay rfl) (au (cG rfl rfl) ed))))) (cF (ec (au (ay rfl) (au (ay rfl) (au (ay rfl) (au (cG rfl rfl) ed))))) cl)) rfl)) ?_
  refine dk 1 [21] [.agg [I (6),str ([]),I (0),.hs 305 0 [] 4 0 2]] ?_
  refine dz [1,129] [1,129] rfl (ie rfl rfl (fM (path:=[]) (pl:=false) (e':=ai r2.1) (es2':=[ai r2.1]) rfl (ec (au (ay rfl) (au (ay rfl) (au (ay rfl) (au (fh (path:=[(0,3)]) rfl rfl (eL rfl rfl al) rfl (ir (path:=[]) (i:=0) (k:=3) (e':=.agg [I r2.1.Op,str r2.1.Name,I r2.1.Day,.dead]) (es2':=[.agg [I r2.1.Op,str r2.1.Name,I r2.1.Day,.dead]]) al rfl rfl rfl d5)) ed))))) rfl rfl rfl al rfl rfl rfl rfl rfl d5 2 rfl)) ?_
  refine dz [17,305] [17,305] rfl (ie rfl rfl (fM (path:=[]) (pl:=false) (e':=.agg [I (6),str ([]),I (0),.usl 4 (([r4.1,r5]).map ae)]) (es2':=[.agg [I (6),str ([]),I (0),.usl 4 (([r4.1,r5]).map ae)]]) rfl (ec (au (ay rfl) (au (ay rfl) (au (ay rfl) (au (rm (k:=2) (es:=[ai r4.1,ai r5]) (f:=ae) (xs:=[r4.1,r5]) rfl rfl (C5 (dK r4.1).symm (C5 (dK r5).symm KM))) ed))))) rfl rfl rfl al rfl rfl rfl rfl rfl d5 2 rfl)) ?_
  refine de 369 rfl rfl ?_
  obtain rfl:=sI h
  exact bV rfl ⟨_,fin (vs:=[.agg [I r2.1.Op,str r2.1.Name,I r2.1.Day,.hs 1 2 [(0,3)] 4 0 (r2.1.Parts.map ae).length],.agg [I (6),str ([]),I (0),.hs 17 2 [(0,3)] 4 0 (([r4.1,r5]).map ae).length]]) (kE (gl rfl rfl rfl) (kE (gl rfl rfl rfl) oz)) (cF (ec (au (ay rfl) (au (ay rfl) (au (ay rfl) (au (fh (path:=[(0,3)]) rfl rfl (eL rfl rfl al) rfl (ir (path:=[]) (i:=0) (k:=3) (e':=.agg [I r2.1.Op,str r2.1.Name,I r2.1.Day,.dead]) (es2':=[.agg [I r2.1.Op,str r2.1.Name,I r2.1.Day,.dead]]) al rfl rfl rfl d5)) ed))))) (cF (ec (au (ay rfl) (au (ay rfl) (au (ay rfl) (au (fh (path:=[(0,3)]) rfl rfl (eL rfl rfl al) rfl (ir (path:=[]) (i:=0) (k:=3) (e':=.agg [I (6),str ([]),I (0),.dead]) (es2':=[.agg [I (6),str ([]),I (0),.dead]]) al rfl rfl rfl d5)) ed))))) cl)) rfl (eI d4),dW⟩
 ·refine cq 5 [22] [B (r3.1==1)] 257 ?_
  refine sq h ?_ ?_<;>intro h
  ·refine aq 1 ?_
   refine eX [0,1,0,7,15,31,0,63,255] rfl (by decide +kernel) ?_
   refine dq [129] [] (.agg [I r2.1.Op,str r2.1.Name,I r2.1.Day,.hs 129 2 [(0,3)] 4 0 (r2.1.Parts.map ae).length]) rfl (cZ rfl rfl) ?_
   obtain⟨r6,hr6,h⟩:=bS h
   refine dq [129] [] (.agg [I r6.Op,str r6.Name,I r6.Day,.hs 273 0 [] 4 0 (r6.Parts.map ae).length]) rfl (ao rfl rfl (aB rfl rfl rfl (aM (oG (d6 (dX rfl) (d6 (dX rfl) (d6 (dX rfl) (d6 (jE (path:=[(0,3)]) rfl rfl (eL rfl rfl al) rfl (ci (f:=ae) bM)) pS))))) bb) (zD hr6) (.inl (by simp[bW,cy,str,ky (f:=ae) fq,ai])) aY rfl rfl rfl)) ?_ (dj rfl rfl rfl rfl (aM (oG (d6 (dX rfl) (d6 (dX rfl) (d6 (dX rfl) (d6 (jE (path:=[(0,3)]) rfl rfl (eL rfl rfl al) rfl (ci (f:=ae) bM)) pS))))) bb) (zD hr6) (.inl (by simp[bW,cy,str,ky (f:=ae) fq,ai])) rfl)
   refine dk 1 [26] [.hp 65 0 [] 3 0 0] ?_
   obtain⟨r7,hr7,h⟩:=bS h
   refine dq [65] [65] (.agg [I r7.1.Op,str r7.1.Name,I r7.1.Day,.hs 305 0 [] 4 0 (r7.1.Parts.map ae).length]) rfl (ao rfl rfl (aB rfl rfl rfl (cd (b7 rfl (cO (path:=[]) rfl rfl al)) (aM (bd rfl) bb)) (tx hr7) (.inr rfl) (cf rfl rfl rfl rfl aY) rfl rfl rfl)) ?_ (dj rfl rfl rfl rfl (cd (b7 rfl (cO (path:=[]) rfl rfl al)) (aM (bd rfl) bb)) (tx hr7) (.inr rfl) rfl)
   refine dq [273,305] [273,305] (.hs 321 0 [] 4 0 2) rfl (aZ rfl (d8 (f:=I) (xs:=[]) (z:=.agg [I (0),str ([]),I (0),.isl true []]) (es:=[.agg [I r6.Op,str r6.Name,I r6.Day,.hs 273 0 [] 4 0 (r6.Parts.map ae).length],.agg [I r7.1.Op,str r7.1.Name,I r7.1.Day,.hs 305 0 [] 4 0 (r7.1.Parts.map ae).length]]) (ws:=[ai r6,ai r7.1]) rfl rfl rfl (by decide) rfl (cF (ec (au (ay rfl) (au (ay rfl) (au (ay rfl) (au (cG rfl rfl) ed))))) (cF (ec (au (ay rfl) (au (ay rfl) (au (ay rfl) (au (cG rfl rfl) ed))))) cl)) rfl)) ?_
   refine dk 1 [29] [.agg [I (5),str ([]),I (0),.hs 321 0 [] 4 0 2]] ?_
   refine dq [129] [] (.agg [I r2.1.Op,str r2.1.Name,I r2.1.Day,.hs 129 2 [(0,3)] 4 0 (r2.1.Parts.map ae).length]) rfl (cZ rfl rfl) ?_
   refine dz [1,321] [1,321] rfl (ie rfl rfl (fM (path:=[]) (pl:=false) (e':=.agg [I (5),str ([]),I (0),.usl 4 (([r6,r7.1]).map ae)]) (es2':=[.agg [I (5),str ([]),I (0),.usl 4 (([r6,r7.1]).map ae)]]) rfl (ec (au (ay rfl) (au (ay rfl) (au (ay rfl) (au (rm (k:=2) (es:=[ai r6,ai r7.1]) (f:=ae) (xs:=[r6,r7.1]) rfl rfl (C5 (dK r6).symm (C5 (dK r7.1).symm KM))) ed))))) rfl rfl rfl al rfl rfl rfl rfl rfl d5 2 rfl)) ?_
   refine dz [17,129] [17,129] rfl (ie rfl rfl (fM (path:=[]) (pl:=false) (e':=ai r2.1) (es2':=[ai r2.1]) rfl (ec (au (ay rfl) (au (ay rfl) (au (ay rfl) (au (fh (path:=[(0,3)]) rfl rfl (eL rfl rfl al) rfl (ir (path:=[]) (i:=0) (k:=3) (e':=.agg [I r2.1.Op,str r2.1.Name,I r2.1.Day,.dead]) (es2':=[.agg [I r2.1.Op,str r2.1.Name,I r2.1.Day,.dead]]) al rfl rfl rfl d5)) ed))))) rfl rfl rfl al rfl rfl rfl rfl rfl d5 2 rfl)) ?_
   refine de 401 rfl rfl ?_
   obtain rfl:=sI h
   exact bV rfl ⟨_,fin (vs:=[.agg [I (5),str ([]),I (0),.hs 1 2 [(0,3)] 4 0 (([r6,r7.1]).map ae).length],.agg [I r2.1.Op,str r2.1.Name,I r2.1.Day,.hs 17 2 [(0,3)] 4 0 (r2.1.Parts.map ae).length]]) (kE (gl rfl rfl rfl) (kE (gl rfl rfl rfl) oz)) (cF (ec (au (ay rfl) (au (ay rfl) (au (ay rfl) (au (fh (path:=[(0,3)]) rfl rfl (eL rfl rfl al) rfl (ir (path:=[]) (i:=0) (k:=3) (e':=.agg [I (5),str ([]),I (0),.dead]) (es2':=[.agg [I (5),str ([]),I (0),.dead]]) al rfl rfl rfl d5)) ed))))) (cF (ec (au (ay rfl) (au (ay rfl) (au (ay rfl) (au (fh (path:=[(0,3)]) rfl rfl (eL rfl rfl al) rfl (ir (path:=[]) (i:=0) (k:=3) (e':=.agg [I r2.1.Op,str r2.1.Name,I r2.1.Day,.dead]) (es2':=[.agg [I r2.1.Op,str r2.1.Name,I r2.1.Day,.dead]]) al rfl rfl rfl d5)) ed))))) cl)) rfl (eI d4),dW⟩
  ·refine aq 1 ?_
   refine aq 2 ?_
   refine eX [0,0,2,7,15] rfl (by decide +kernel) ?_
   refine dq [129] [] (.agg [I r2.1.Op,str r2.1.Name,I r2.1.Day,.hs 129 2 [(0,3)] 4 0 (r2.1.Parts.map ae).length]) rfl (cZ rfl rfl) ?_
   refine dk 1 [32] [.hp 65 0 [] 3 0 0] ?_
   obtain⟨r8,hr8,h⟩:=bS h
   refine dq [65] [65] (.agg [I r8.1.Op,str r8.1.Name,I r8.1.Day,.hs 289 0 [] 4 0 (r8.1.Parts.map ae).length]) rfl (ao rfl rfl (aB rfl rfl rfl (cd (b7 rfl (cO (path:=[]) rfl rfl al)) bb) (Eo hr8) (.inr rfl) (cf rfl rfl rfl rfl aY) rfl rfl rfl)) ?_ (dj rfl rfl rfl rfl (cd (b7 rfl (cO (path:=[]) rfl rfl al)) bb) (Eo hr8) (.inr rfl) rfl)
   refine dz [1,129] [1,129] rfl (ie rfl rfl (fM (path:=[]) (pl:=false) (e':=ai r2.1) (es2':=[ai r2.1]) rfl (ec (au (ay rfl) (au (ay rfl) (au (ay rfl) (au (fh (path:=[(0,3)]) rfl rfl (eL rfl rfl al) rfl (ir (path:=[]) (i:=0) (k:=3) (e':=.agg [I r2.1.Op,str r2.1.Name,I r2.1.Day,.dead]) (es2':=[.agg [I r2.1.Op,str r2.1.Name,I r2.1.Day,.dead]]) al rfl rfl rfl d5)) ed))))) rfl rfl rfl al rfl rfl rfl rfl rfl d5 2 rfl)) ?_
   refine dz [17,289] [17,289] rfl (ie rfl rfl (fM (path:=[]) (pl:=false) (e':=ai r8.1) (es2':=[ai r8.1]) rfl (ec (au (ay rfl) (au (ay rfl) (au (ay rfl) (au (cG rfl rfl) ed))))) rfl rfl rfl al rfl rfl rfl rfl rfl d5 2 rfl)) ?_
   refine de 337 rfl rfl ?_
   obtain rfl:=sI h
   exact bV rfl ⟨_,fin (vs:=[.agg [I r2.1.Op,str r2.1.Name,I r2.1.Day,.hs 1 2 [(0,3)] 4 0 (r2.1.Parts.map ae).length],.agg [I r8.1.Op,str r8.1.Name,I r8.1.Day,.hs 17 2 [(0,3)] 4 0 (r8.1.Parts.map ae).length]]) (kE (gl rfl rfl rfl) (kE (gl rfl rfl rfl) oz)) (cF (ec (au (ay rfl) (au (ay rfl) (au (ay rfl) (au (fh (path:=[(0,3)]) rfl rfl (eL rfl rfl al) rfl (ir (path:=[]) (i:=0) (k:=3) (e':=.agg [I r2.1.Op,str r2.1.Name,I r2.1.Day,.dead]) (es2':=[.agg [I r2.1.Op,str r2.1.Name,I r2.1.Day,.dead]]) al rfl rfl rfl d5)) ed))))) (cF (ec (au (ay rfl) (au (ay rfl) (au (ay rfl) (au (fh (path:=[(0,3)]) rfl rfl (eL rfl rfl al) rfl (ir (path:=[]) (i:=0) (k:=3) (e':=.agg [I r8.1.Op,str r8.1.Name,I r8.1.Day,.dead]) (es2':=[.agg [I r8.1.Op,str r8.1.Name,I r8.1.Day,.dead]]) al rfl rfl rfl d5)) ed))))) cl)) rfl (eI d4),dW⟩
theorem Ma {G:dN}:dS G 5 BW:=gT 1 0 (aV Ff (aV hY (aV Ct (aV JK cJ)))) d3 Tryd.func5 (fun a r h=>Og a r h)
def DW:(Int×Int×Int)→List V:=cA I (cA I (oA I))
def DY (r:Bool):V×List V:=(B r,[])
noncomputable def rj :=bI [false,false,false] DW DY fun x=>ut x.1 x.2.1 x.2.2
theorem DX {n_1:Int}{mG:Int}{kx:Int}{r}(h:ut n_1 mG kx=some r):rj.F (DW (n_1,mG,kx))=some (DY r):=bg (cr ey (cr ey (bl ey))) h
noncomputable def Ng :=bc Tryd.f54
noncomputable def H6 :=dZ []
def Nf (x:Int×Int×Int)(r:Bool):St→Prop:=QF H6 Tryd.f54 [false,false,false] (DW x) (DY r)
theorem N8 (n_1:Int)(mG:Int)(kx:Int)(r:Bool)(h:ut n_1 mG kx=some r):ct H6 Tryd.f54 [false,false,false] 0 (DW (n_1,mG,kx)) (DY r):=by
 show Run _ _ (Nf (n_1,mG,kx) r) [.code Ng] _
 refine rI 15 [(0,I n_1),(1,I mG),(2,I kx)] [] 1 ?_
 unfold ut at h
 refine cq 10 [10] [B (decide (n_1≥mG))] 81 ?_
 obtain⟨u4,hu4,h⟩:=lJ h
 have j4:Run H6 0 (Nf (n_1,mG,kx) r) (.code (cR (cR Ng))::[]) (sT 15 [(6,B u4)] [] 1):=by
  obtain rfl:=sI h
  exact rP [B u4]
 replace h:=hu4
 clear hu4
 refine sp 10 h rfl ?_ ?_<;>intro h
 ·refine cq 6 [6] [B (decide (n_1≤kx))] 161 ?_
  subst h
  exact rf [6] [] (j4 :)
 ·refine cq 6 [6] [B false] 161 ?_
  subst h
  exact rf [6] [] (j4 :)
theorem xO {G:dN}:dS G 54 rj:=gT 3 0 cJ d3 Tryd.func54 (fun a r h=>N8 a.1 a.2.1 a.2.2 r h)
noncomputable def jG:Ent:=⟨[false,false],sB (nC str) (nC (V.int .u8)) fun s c=>some (I ((Lib.countByte s c.toNat.toUInt8:Nat):Int),[])⟩
theorem Cm {s:ac}{c r:Int}(h:vl s c=some r):jG.F [str s,.int .u8 c]=some (I r,[]):=by
 cases h
 simp only[jG,sB,AZ cz,AZ Lb,Option.bind_some]
theorem Cn:Extern.findNext Tryd.f87=none:=by kernel_rfl
theorem Co:Extern.find Tryd.f87=some Extern.BytealgCount.count:=by kernel_rfl
theorem v6 {G:dN}:dS G 87 jG:=Hf (g:=fun s c=>((Lib.countByte s c.toNat.toUInt8:Nat):Int)) Tryd.func87 rfl (by decide) Cn Co fun s c w=>Lib.run_countString s c w
noncomputable def hJ:Ent:=⟨[false,false],sB (nC str) (nC (V.int .u8)) fun s c=>some (I (Lib.indexByte s c.toNat.toUInt8),[])⟩
theorem vm {s:ac}{c r:Int}(h:pW s c=some r):hJ.F [str s,.int .u8 c]=some (I r,[]):=by
 cases h
 simp only[hJ,sB,AZ cz,AZ Lb,Option.bind_some]
theorem vn:Extern.findNext Tryd.f94=none:=by kernel_rfl
theorem vo:Extern.find Tryd.f94=some Extern.BytealgIndexByte.indexByte:=by kernel_rfl
theorem rG {G:dN}:dS G 94 hJ:=Hf (g:=fun s c=>Lib.indexByte s c.toNat.toUInt8) Tryd.func94 rfl (by decide) vn vo fun s c w=>Lib.run_indexByteString s c w
def D1:(ac×Int)→List V:=cA str (oA (V.int .u8))
def D2 (r:Int):V×List V:=(I r,[])
noncomputable def BS :=bI [false,false] D1 D2 fun x=>J8 x.1 x.2
theorem QE {s_1:ac}{c_2:Int}{r}(h:J8 s_1 c_2=some r):BS.F (D1 (s_1,c_2))=some (D2 r):=bg (cr cz (bl (jF (k:=.u8)))) h
noncomputable def QH :=bc Tryd.f90
noncomputable def Ni :=dZ [(94,hJ)]
def QG (x:ac×Int)(r:Int):St→Prop:=QF Ni Tryd.f90 [false,false] (D1 x) (D2 r)
theorem Oa (s_1:ac)(c_2:Int)(r:Int)(h:J8 s_1 c_2=some r):ct Ni Tryd.f90 [false,false] 0 (D1 (s_1,c_2)) (D2 r):=by
 show Run _ _ (QG (s_1,c_2) r) [.code QH] _
 refine rI 8 [(0,str s_1),(1,.int .u8 c_2)] [] 1 ?_
 unfold J8 at h
 refine cq 8 [5,6] [str s_1,.int .u8 c_2] 49 ?_
 obtain⟨r3,hr3,h⟩:=bS h
 refine oq 65 (I r3) rfl (cP (vm hr3)) ?_
 refine cq 2 [4] [I r3] 81 ?_
 obtain rfl:=sI h
 exact rP [I r3]
theorem L6 {G:dN}:dS G 90 BS:=gT 2 0 (aV rG cJ) d3 Tryd.func90 (fun a r h=>Oa a.1 a.2 r h)
def DZ:(ac×ac)→List V:=cA str (oA str)
def D0 (r:Int):V×List V:=(I r,[])
noncomputable def BR :=bI [false,false] DZ D0 fun x=>J7 x.1 x.2
theorem QD {s_1:ac}{aL:ac}{r}(h:J7 s_1 aL=some r):BR.F (DZ (s_1,aL))=some (D0 r):=bg (cr cz (bl cz)) h
noncomputable def H8 :=bc Tryd.f88
noncomputable def H7 :=dZ [(90,BS)]
def Nh (x:ac×ac)(r:Int):St→Prop:=QF H7 Tryd.f88 [false,false] (DZ x) (D0 r)
theorem N9 (s_1:ac)(aL:ac)(r:Int)(h:J7 s_1 aL=some r):ct H7 Tryd.f88 [false,false] 0 (DZ (s_1,aL)) (D0 r):=by
 show Run _ _ (Nh (s_1,aL) r) [.code H8] _
 refine rI 143 [(0,str s_1),(1,str aL)] [] 1 ?_
 unfold J7 at h
 refine cq 17 [5,19] [I (len aL),B ((len aL)==0)] 113 ?_
 obtain⟨u3,hu3,h⟩:=lJ h
 have j3:Run H7 0 (Nh (s_1,aL) r) (.code (cR (cL (cL (cR (cR H8)))))::.blk 0::.code (cR (cR (cR H8)))::[]) (sT 143 [(0,str s_1),(1,str aL),(5,I (len aL)),(16,B u3)] [] 1):=by
  refine sq h ?_ ?_<;>intro h
  ·refine cq 4 [4] [I (0)] 17 ?_
   obtain rfl:=sI h
   exact rP [I (0)]
  ·refine cq 6 [24] [B ((len aL)==1)] 49 ?_
   refine sq h ?_ ?_<;>intro h
   ·refine cq 4 [27,28] [str s_1,str aL] 81 ?_
    obtain⟨c4,hc4,h⟩:=bS h
    refine oq 97 (.int .u8 (c4.toNat:Int)) rfl (l6 rfl rfl (qh rfl rfl hc4)) ?_
    obtain⟨r5,hr5,h⟩:=bS h
    refine oq 113 (I r5) rfl (cP (QE hr5)) ?_
    refine cq 2 [4] [I r5] 129 ?_
    obtain rfl:=sI h
    exact rP [I r5]
   ·refine cq 8 [31] [B (decide ((len aL)≥(len s_1)))] 129 ?_
    refine sq h ?_ ?_<;>intro h
    ·refine cq 4 [4] [I (-1)] 145 ?_
     obtain rfl:=sI h
     exact rP [I (-1)]
    ·cases h
 replace h:=hu3
 clear hu3
 refine sp 19 h rfl ?_ ?_<;>intro h
 ·refine cq 6 [16] [B true] 193 ?_
  subst h
  exact rf [0,1,5,16] [] (j3 :)
 ·refine cq 6 [16] [B (aL==s_1)] 193 ?_
  subst h
  exact rf [0,1,5,16] [] (j3 :)
theorem L5 {G:dN}:dS G 88 BR:=gT 2 0 (aV L6 cJ) d3 Tryd.func88 (fun a r h=>N9 a.1 a.2 r h)
def zS:(ac×ac)→List V:=cA str (oA str)
def zT (r:Int):V×List V:=(I r,[])
noncomputable def sd :=bI [false,false] zS zT fun x=>BL x.1 x.2
theorem JV {s_1:ac}{aL:ac}{r}(h:BL s_1 aL=some r):sd.F (zS (s_1,aL))=some (zT r):=bg (cr cz (bl cz)) h
noncomputable def PH :=bc Tryd.f83
noncomputable def JU :=dZ [(88,BR)]
def PG (x:ac×ac)(r:Int):St→Prop:=QF JU Tryd.f83 [false,false] (zS x) (zT r)
theorem LW (s_1:ac)(aL:ac)(r:Int)(h:BL s_1 aL=some r):ct JU Tryd.f83 [false,false] 0 (zS (s_1,aL)) (zT r):=by
 show Run _ _ (PG (s_1,aL) r) [.code PH] _
 refine rI 8 [(0,str s_1),(1,str aL)] [] 1 ?_
 unfold BL at h
 refine cq 8 [5,6] [str s_1,str aL] 49 ?_
 obtain⟨r3,hr3,h⟩:=bS h
 refine oq 65 (I r3) rfl (cP (QD hr3)) ?_
 refine cq 2 [4] [I r3] 81 ?_
 obtain rfl:=sI h
 exact rP [I r3]
theorem CE {G:dN}:dS G 83 sd:=gT 2 0 (aV L5 cJ) d3 Tryd.func83 (fun a r h=>LW a.1 a.2 r h)
def zQ:(ac×ac)→List V:=cA str (oA str)
def zR (r:Int):V×List V:=(I r,[])
noncomputable def xF :=bI [false,false] zQ zR fun x=>EW x.1 x.2
theorem PF {s_1:ac}{aL:ac}{r}(h:EW s_1 aL=some r):xF.F (zQ (s_1,aL))=some (zR r):=bg (cr cz (bl cz)) h
noncomputable def JS :=bc Tryd.f82
noncomputable def EX :=dZ [(87,jG),(83,sd)]
def JR (x:ac×ac)(r:Int):St→Prop:=QF EX Tryd.f82 [false,false] (zQ x) (zR r)
theorem Gw (s_1:ac)(aL:ac):eo EX 0 (JR (s_1,aL)) (cL (cL (cR (cR (cR (cR JS)))))) 0 (G1 s_1 aL) (fun u=>(sT 34 [] [] 1)) fun x5=>(sT 34 [(0,str x5.1),(1,str aL),(5,I x5.2)] [] 1):=hZ (Gv s_1 aL) fun {Q K} hK self ih x5 y h hr hn=>by
 unfold p7 at h
 refine cq 5 [20,21] [str x5.1,str aL] 33 ?_
 obtain⟨r6,hr6,h⟩:=bS h
 refine oq 49 (I r6) rfl (cP (JV hr6)) ?_
 refine cq 8 [6,24] [I r6,B (r6==(-1))] 97 ?_
 refine sq h ?_ ?_<;>intro h
 ·refine cq 5 [4] [I x5.2] 129 ?_
  exact bV rfl (hr _ (an h) _ (qp [I x5.2]))
 ·refine aq 1 ?_
  refine cq 12 [5,28,32] [I (aG (x5.2+1)),str x5.1,I (aG (r6+(len aL)))] 225 ?_
  obtain⟨s7,hs7,h⟩:=bS h
  refine oq 241 (str s7) rfl (gH rfl rfl rfl rfl (vh rfl rfl rfl hs7)) ?_
  refine cq 3 [0] [str s7] 257 ?_
  refine fx ?_
  exact rf [0,1,5] [] (ih _ _ h hr hn :)
theorem LV (s_1:ac)(aL:ac)(r:Int)(h:EW s_1 aL=some r):ct EX Tryd.f82 [false,false] 0 (zQ (s_1,aL)) (zR r):=by
 show Run _ _ (JR (s_1,aL) r) [.code JS] _
 refine rI 34 [(0,str s_1),(1,str aL)] [] 1 ?_
 unfold EW at h
 refine cq 11 [9] [B ((len aL)==0)] 65 ?_
 refine sq h ?_ ?_<;>intro h
 ·cases h
 ·refine aq 1 ?_
  refine cq 7 [15] [B ((len aL)==1)] 113 ?_
  refine sq h ?_ ?_<;>intro h
  ·refine cq 4 [16,17] [str s_1,str aL] 145 ?_
   obtain⟨c3,hc3,h⟩:=bS h
   refine oq 161 (.int .u8 (c3.toNat:Int)) rfl (l6 rfl rfl (qh rfl rfl hc3)) ?_
   obtain⟨r4,hr4,h⟩:=bS h
   refine oq 177 (I r4) rfl (cP (Cm hr4)) ?_
   refine cq 2 [4] [I r4] 193 ?_
   obtain rfl:=sI h
   exact rP [I r4]
  ·refine aq 1 ?_
   refine cq 5 [5] [I (0)] 129 ?_
   obtain⟨y8,hy8,hy81,hy82⟩:=bJ h
   refine dT rfl ?_
   refine rf [0,1,5] [] (Gw s_1 aL rfl (s_1,0) _ hy8 (fun r' e st hq=>by rw[hy81 r' e] at hq;exact hq) fun u8 hu=>?_)
   replace h:=hy82 u8 hu
   cases h
theorem JT {G:dN}:dS G 82 xF:=gT 2 0 (aV v6 (aV CE cJ)) d3 Tryd.func82 (fun a r h=>LV a.1 a.2 r h)
def zW:(ac×ac×Int×Int)→List V:=cA str (cA str (cA I (oA I)))
def zY (r:(List ac)):V×List V:=(.usl 1 (r.map str),[])
noncomputable def xI :=bI [false,false,false,false] zW zY fun x=>EY x.1 x.2.1 x.2.2.1 x.2.2.2
theorem PL {s_1:ac}{dt:ac}{cS:Int}{n_4:Int}{r}(h:EY s_1 dt cS n_4=some r):xI.F (zW (s_1,dt,cS,n_4))=some (zY r):=bg (cr cz (cr cz (cr ey (bl ey)))) h
noncomputable def EZ :=bc Tryd.f74
noncomputable abbrev NT :=cL (cL (cL (cR (cR (cR (cR (cR (cR (cR (cR EZ))))))))))
noncomputable def zX :=dZ [(83,sd),(82,xF)]
def uq (x:ac×ac×Int×Int)(r:(List ac)):St→Prop:=QF zX Tryd.f74 [false,false,false,false] (zW x) (zY r)
theorem Gx (s_1:ac)(dt:ac)(cS:Int)(n_4:Int)(u5:Int):eo zX 0 (uq (s_1,dt,cS,n_4)) NT 0 (vu s_1 dt cS n_4 u5) (fun u=>(sT 66 [(0,str u.1),(9,.hs 1 0 [] 1 0 (u.2.2.map str).length),(10,I u.2.1)] [⟨0,1,u.2.2.map str⟩] 2)) fun x7=>(sT 66 [(0,str x7.1),(1,str dt),(2,I cS),(3,I (aG ((if (aG ((len s_1)+1))<u5 then (aG ((len s_1)+1)) else u5) - 1))),(9,.hs 1 0 [] 1 0 (x7.2.2.map str).length),(10,I x7.2.1)] [⟨0,1,x7.2.2.map str⟩] 2):=hZ (wq s_1 dt cS n_4 u5) fun {Q K} hK self ih x7 y h hr hn=>by
 unfold p8 at h
 refine cq 7 [36] [B (decide (x7.2.1<(aG ((if (aG ((len s_1)+1))<u5 then (aG ((len s_1)+1)) else u5) - 1))))] 50 ?_
 refine sq h ?_ ?_<;>intro h
 ·refine aq 1 ?_
  refine cq 5 [37,38] [str x7.1,str dt] 82 ?_
  obtain⟨r8,hr8,h⟩:=bS h
  refine oq 98 (I r8) rfl (cP (JV hr8)) ?_
  refine cq 8 [11,41] [I r8,B (decide (r8<0))] 146 ?_
  refine sq h ?_ ?_<;>intro h
  ·refine aq 1 ?_
   exact rf [0,9,10] [1] (hn _ (an h) :) (hk:=hK)
  ·refine aq 1 ?_
   refine cq 8 [42,43,44,47] [.hs 1 0 [] 1 0 (x7.2.2.map str).length,I x7.2.1,str x7.1,I (aG (r8+cS))] 242 ?_
   obtain⟨s9,hs9,h⟩:=bS h
   refine oq 258 (str s9) rfl (gH rfl rfl rfl rfl (vh rfl rfl rfl hs9)) ?_
   obtain⟨e10,he10,h⟩:=bS h
   refine oq 274 (.hp 1 0 [] 1 (0+Int.toNat x7.2.1) 0) rfl (aJ rfl rfl rfl (gB (f:=str) (xs:=x7.2.2) rfl rfl rfl he10)) ?_
   refine o0 290 rfl rfl (ie rfl rfl (fM (path:=[]) (pl:=true) (e':=str s9) (es2':=(jT x7.2.2 x7.2.1 s9).map str) rfl (dh rfl) rfl rfl rfl al (fD (f:=str) (xs:=x7.2.2) he10) rfl rfl rfl (Cj (f:=str) (xs:=x7.2.2) (y:=s9)) d5 0 rfl)) ?_
   try rw[←xY (f:=str) (xs:=x7.2.2) (i:=x7.2.1) (z:=s9)]
   refine cq 8 [50,54] [str x7.1,I (aG (r8+(len dt)))] 370 ?_
   obtain⟨s11,hs11,h⟩:=bS h
   refine oq 386 (str s11) rfl (gH rfl rfl rfl rfl (vh rfl rfl rfl hs11)) ?_
   refine cq 8 [0,10] [str s11,I (aG (x7.2.1+1))] 450 ?_
   refine fx ?_
   exact rf [0,1,2,3,9,10] [1] (ih _ _ h hr hn :)
 ·refine aq 1 ?_
  exact rf [0,9,10] [1] (hn _ (an h) :) (hk:=hK)
theorem LY (s_1:ac)(dt:ac)(cS:Int)(n_4:Int)(r:(List ac))(h:EY s_1 dt cS n_4=some r):ct zX Tryd.f74 [false,false,false,false] 0 (zW (s_1,dt,cS,n_4)) (zY r):=by
 show Run _ _ (uq (s_1,dt,cS,n_4) r) [.code EZ] _
 refine rI 66 [(0,str s_1),(1,str dt),(2,I cS),(3,I n_4)] [] 1 ?_
 unfold EY at h
 refine cq 10 [13] [B (n_4==0)] 49 ?_
 refine sq h ?_ ?_<;>intro h
 ·refine cq 4 [8] [.isl true []] 65 ?_
  refine O6 8 0 1 81 (.hs 65 0 [] 1 0 0) rfl rfl rfl rfl rfl ?_
  obtain rfl:=sI h
  exact bV rfl ⟨_,fin (vs:=[.hs 65 0 [] 1 0 0]) rfl (cF (gP rfl (cG (k:=0) (es:=[]) rfl rfl)) cl) rfl (eI (eI (eI (eI d4)))),dW⟩
 ·refine aq 1 ?_
  refine cq 6 [15] [B (dt==([]:ac))] 81 ?_
  refine sq h ?_ ?_<;>intro h
  ·cases h
  ·refine aq 1 ?_
   refine cq 6 [20] [B (decide (n_4<0))] 113 ?_
   obtain⟨y5,hy5,hy51,hy52⟩:=bJ h
   have j5:∀u5,y5=.inr u5→Run zX 0 (uq (s_1,dt,cS,n_4) r) (.code (cR (cR (cR (cR EZ))))::[]) (sT 66 [(0,str s_1),(1,str dt),(2,I cS),(3,I u5)] [] 1):=by
    intro u5 hu
    replace h:=hy52 u5 hu
    refine cq 12 [3,30] [I (if (aG ((len s_1)+1))<u5 then (aG ((len s_1)+1)) else u5),I (if (aG ((len s_1)+1))<u5 then (aG ((len s_1)+1)) else u5)] 113 ?_
    obtain⟨m6,hm6,h⟩:=bS h
    refine oq 129 (.hs 113 0 [] 1 0 (m6.map str).length) rfl (GA rfl rfl (P8 (f:=str) rfl rfl rfl (by decide) hm6 rfl)) ?_
    refine cq 14 [3,9,10] [I (aG ((if (aG ((len s_1)+1))<u5 then (aG ((len s_1)+1)) else u5) - 1)),.hs 113 0 [] 1 0 (m6.map str).length,I (0)] 209 ?_
    obtain⟨y12,hy12,hy121,hy122⟩:=bJ h
    refine dT rfl ?_
    refine rf [0,1,2,3,9,10] [113] (Gx s_1 dt cS n_4 u5 rfl (s_1,0,m6) _ hy12 (fun r' e st hq=>by rw[hy121 r' e] at hq;exact hq) fun u12 hu=>?_)
    replace h:=hy122 u12 hu
    refine cq 5 [58,59,60] [.hs 1 0 [] 1 0 (u12.2.2.map str).length,I u12.2.1,str u12.1] 50 ?_
    obtain⟨e13,he13,h⟩:=bS h
    refine oq 66 (.hp 1 0 [] 1 (0+Int.toNat u12.2.1) 0) rfl (aJ rfl rfl rfl (gB (f:=str) (xs:=u12.2.2) rfl rfl rfl he13)) ?_
    refine o0 82 rfl rfl (ie rfl rfl (fM (path:=[]) (pl:=true) (e':=str u12.1) (es2':=(jT u12.2.2 u12.2.1 u12.1).map str) rfl (dh rfl) rfl rfl rfl al (fD (f:=str) (xs:=u12.2.2) he13) rfl rfl rfl (Cj (f:=str) (xs:=u12.2.2) (y:=u12.1)) d5 0 rfl)) ?_
    try rw[←xY (f:=str) (xs:=u12.2.2) (i:=u12.2.1) (z:=u12.1)]
    refine cq 6 [62,64] [.hs 1 0 [] 1 0 ((jT u12.2.2 u12.2.1 u12.1).map str).length,I (aG (u12.2.1+1))] 130 ?_
    obtain⟨s14,hs14,h⟩:=bS h
    refine oq 146 (.hs 1 0 [] 1 (0+Int.toNat (0)) (Int.toNat (aG (u12.2.1+1)) - Int.toNat (0))) rfl (gH rfl rfl rfl rfl (oh (f:=str) (xs:=(jT u12.2.2 u12.2.1 u12.1)) rfl rfl rfl rfl rfl hs14)) ?_
    refine cq 2 [8] [.hs 1 0 [] 1 (0+Int.toNat (0)) (Int.toNat (aG (u12.2.1+1)) - Int.toNat (0))] 162 ?_
    obtain⟨p15,hp15,h⟩:=bS h
    obtain rfl:=sI h
    exact bV rfl ⟨_,fin (vs:=[.hs 1 0 [] 1 (0+Int.toNat (0)) (Int.toNat (aG (u12.2.1+1)) - Int.toNat (0))]) rfl (cF (gP rfl (Kb (path:=[]) (f:=str) (xs:=(jT u12.2.2 u12.2.1 u12.1)) rfl rfl al hp15 rfl ld)) cl) rfl (eI (eI (eI (eI d4)))),dW⟩
   have r5:∀r',y5=.inl r'→∀st,uq (s_1,dt,cS,n_4) r' st→(uq (s_1,dt,cS,n_4) r) st:=fun r' e st hq=>by rw[hy51 r' e] at hq;exact hq
   replace h:=hy5
   refine sq h ?_ ?_<;>intro h
   ·refine cq 3 [21,22] [str s_1,str dt] 145 ?_
    obtain⟨r16,hr16,h⟩:=bS h
    refine oq 161 (I r16) rfl (cP (PF hr16)) ?_
    refine cq 3 [3] [I (aG (r16+1))] 193 ?_
    exact rf [0,1,2,3] [] (j5 _ (an h) :)
   ·refine aq 1 ?_
    exact rf [0,1,2,3] [] (j5 _ (an h) :)
theorem JY {G:dN}:dS G 74 xI:=gT 4 0 (aV CE (aV JT cJ)) d3 Tryd.func74 (fun a r h=>LY a.1 a.2.1 a.2.2.1 a.2.2.2 r h)
def zU:(ac×ac)→List V:=cA str (oA str)
def zV (r:(List ac)):V×List V:=(.usl 1 (r.map str),[])
noncomputable def xH :=bI [false,false] zU zV fun x=>xG x.1 x.2
theorem PI {s_1:ac}{dt:ac}{r}(h:xG s_1 dt=some r):xH.F (zU (s_1,dt))=some (zV r):=bg (cr cz (bl cz)) h
noncomputable def PK :=bc Tryd.f62
noncomputable def JW :=dZ [(74,xI)]
def PJ (x:ac×ac)(r:(List ac)):St→Prop:=QF JW Tryd.f62 [false,false] (zU x) (zV r)
theorem LX (s_1:ac)(dt:ac)(r:(List ac))(h:xG s_1 dt=some r):ct JW Tryd.f62 [false,false] 0 (zU (s_1,dt)) (zV r):=by
 show Run _ _ (PJ (s_1,dt) r) [.code PK] _
 refine rI 8 [(0,str s_1),(1,str dt)] [] 1 ?_
 unfold xG at h
 refine cq 8 [5,6] [str s_1,str dt] 49 ?_
 obtain⟨r3,hr3,h⟩:=bS h
 refine oq 65 (.hs 49 0 [] 1 0 (r3.map str).length) rfl (cP (PL hr3)) ?_
 refine cq 2 [4] [.hs 49 0 [] 1 0 (r3.map str).length] 81 ?_
 obtain rfl:=sI h
 exact bV rfl ⟨_,fin (vs:=[.hs 49 0 [] 1 0 (r3.map str).length]) rfl (cF (gP rfl (cG rfl rfl)) cl) rfl (eI (eI d4)),dW⟩
theorem JX {G:dN}:dS G 62 xH:=gT 2 0 (aV JY cJ) d3 Tryd.func62 (fun a r h=>LX a.1 a.2 r h)
def D8:((List ac)×ac)→List V:=cA (pU str) (oA str)
def D9 (r:Int):V×List V:=(I r,[])
noncomputable def BU :=bI [false,false] D8 D9 fun x=>Fb x.1 x.2
theorem QL {s_1:List ac}{v_2:ac}{r}(h:Fb s_1 v_2=some r):BU.F (D8 (s_1,v_2))=some (D9 r):=bg (cr (fN cz) (bl cz)) h
noncomputable def Nm :=bc Tryd.f59
noncomputable def Ic :=dZ []
def Nl (x:(List ac)×ac)(r:Int):St→Prop:=QF Ic Tryd.f59 [false,false] (D8 x) (D9 r)
theorem Id (s_1:List ac)(v_2:ac):eo Ic 0 (Nl (s_1,v_2)) (cL (cL (cR (cL (cR Nm))))) 0 (rl s_1 v_2) (fun u=>(sT 19 [] [] 1)) fun x3=>(sT 19 [(0,.isl false (s_1.map str)),(1,str v_2),(7,I (len s_1)),(8,I x3)] [] 1):=hZ (AG s_1 v_2) fun {Q K} hK self ih x3 y h hr hn=>by
 unfold lO at h
 refine cq 5 [9] [B (decide (x3<(len s_1)))] 17 ?_
 refine sq h ?_ ?_<;>intro h
 ·refine aq 1 ?_
  refine cq 12 [5,11,12,13] [I x3,str v_2,.isl false (s_1.map str),I x3] 97 ?_
  obtain⟨e4,he4,h⟩:=bS h
  refine oq 113 (.iptr (str e4) 0) rfl (aJ rfl rfl rfl (dV rfl rfl rfl rfl he4)) ?_
  refine cq 3 [16] [B (v_2==e4)] 145 ?_
  refine sq h ?_ ?_<;>intro h
  ·refine cq 5 [4] [I x3] 177 ?_
   exact bV rfl (hr _ (an h) _ (qp [I x3]))
  ·refine aq 1 ?_
   refine cq 5 [8] [I (aG (x3+1))] 177 ?_
   refine fx ?_
   exact rf [0,1,7,8] [] (ih _ _ h hr hn :)
 ·refine aq 1 ?_
  exact rf [] [] (hn _ (an h) :) (hk:=hK)
theorem Od (s_1:List ac)(v_2:ac)(r:Int)(h:Fb s_1 v_2=some r):ct Ic Tryd.f59 [false,false] 0 (D8 (s_1,v_2)) (D9 r):=by
 show Run _ _ (Nl (s_1,v_2) r) [.code Nm] _
 refine rI 19 [(0,.isl false (s_1.map str)),(1,str v_2)] [] 1 ?_
 unfold Fb at h
 refine cq 8 [6] [.isl false (s_1.map str)] 33 ?_
 refine oq 49 (I (len s_1)) rfl (dD rfl rfl rfl (fX rfl)) ?_
 refine cq 3 [8] [I (0)] 65 ?_
 obtain⟨y5,hy5,hy51,hy52⟩:=bJ h
 refine dT rfl ?_
 refine rf [0,1,7,8] [] (Id s_1 v_2 rfl 0 _ hy5 (fun r' e st hq=>by rw[hy51 r' e] at hq;exact hq) fun u5 hu=>?_)
 replace h:=hy52 u5 hu
 refine cq 4 [4] [I (-1)] 17 ?_
 obtain rfl:=sI h
 exact rP [I (-1)]
theorem L8 {G:dN}:dS G 59 BU:=gT 2 0 cJ d3 Tryd.func59 (fun a r h=>Od a.1 a.2 r h)
def D6:((List ac)×ac)→List V:=cA (pU str) (oA str)
def D7 (r:Bool):V×List V:=(B r,[])
noncomputable def vE :=bI [false,false] D6 D7 fun x=>wu x.1 x.2
theorem Nk {s_1:List ac}{v_2:ac}{r}(h:wu s_1 v_2=some r):vE.F (D6 (s_1,v_2))=some (D7 r):=bg (cr (fN cz) (bl cz)) h
noncomputable def QK :=bc Tryd.f43
noncomputable def Nj :=dZ [(59,BU)]
def QJ (x:(List ac)×ac)(r:Bool):St→Prop:=QF Nj Tryd.f43 [false,false] (D6 x) (D7 r)
theorem Oc (s_1:List ac)(v_2:ac)(r:Bool)(h:wu s_1 v_2=some r):ct Nj Tryd.f43 [false,false] 0 (D6 (s_1,v_2)) (D7 r):=by
 show Run _ _ (QJ (s_1,v_2) r) [.code QK] _
 refine rI 9 [(0,.isl false (s_1.map str)),(1,str v_2)] [] 1 ?_
 unfold wu at h
 refine cq 8 [5,6] [.isl false (s_1.map str),str v_2] 49 ?_
 obtain⟨r3,hr3,h⟩:=bS h
 refine oq 65 (I r3) rfl (cP (QL hr3)) ?_
 refine cq 3 [4] [B (decide (r3≥0))] 97 ?_
 obtain rfl:=sI h
 exact rP [B (decide (r3≥0))]
theorem Fa {G:dN}:dS G 43 vE:=gT 2 0 (aV L8 cJ) d3 Tryd.func43 (fun a r h=>Oc a.1 a.2 r h)
def DC:ac→List V:=oA str
def DD (r:Bool):V×List V:=(B r,[])
noncomputable def BM :=bI [false] DC DD fun x=>CF x
theorem Qu {s_1:ac}{r}(h:CF s_1=some r):BM.F (DC s_1)=some (DD r):=bg (bl cz) h
noncomputable def vv :=bc Tryd.f56
noncomputable abbrev pt :=cL (cL (cR (cL (cR (cR vv)))))
noncomputable abbrev zZ :=cR (cR (cR pt))
noncomputable abbrev Aa :=cR (cR (cR (cL (cL (cR (cR pt))))))
noncomputable def oJ :=dZ [(54,rj),(62,xH),(43,vE)]
def qa (x:ac)(r:Bool):St→Prop:=QF oJ Tryd.f56 [false] (DC x) (DD r)
theorem HU (s_1:ac):eo oJ 0 (qa s_1) pt 0 (ur s_1) (fun u=>(sT 46 [(0,str s_1)] [] 1)) fun x4=>(sT 46 [(0,str s_1),(20,I (len s_1)),(21,I x4)] [] 1):=hZ (Ab s_1) fun {Q K} hK self ih x4 y h hr hn=>by
 unfold na at h
 refine cq 5 [22] [B (decide (x4<(len s_1)))] 17 ?_
 refine sq h ?_ ?_<;>intro h
 ·refine aq 1 ?_
  refine cq 11 [24,25] [str s_1,I x4] 81 ?_
  obtain⟨c5,hc5,h⟩:=bS h
  refine oq 97 (.int .u8 (c5.toNat:Int)) rfl (l6 rfl rfl (qh rfl rfl hc5)) ?_
  refine cq 7 [4,29] [.int .u8 (c5.toNat:Int),B (decide ((c5.toNat:Int)<97))] 161 ?_
  obtain⟨u6,hu6,h⟩:=lJ h
  have j6:Run oJ 0 Q (.code Aa::.blk 1::.code zZ::.lp pt::.blk 0::K) (sT 46 [(0,str s_1),(20,I (len s_1)),(21,I x4),(40,B u6)] [] 1):=by
   refine sq h ?_ ?_<;>intro h
   ·refine cq 4 [2] [B false] 17 ?_
    exact bV rfl (hr _ (an h) _ (qp [B false]))
   ·refine aq 1 ?_
    refine cq 5 [21] [I (aG (x4+1))] 33 ?_
    refine fx ?_
    exact rf [0,20,21] [] (ih _ _ h hr hn :)
  replace h:=hu6
  clear hu6
  refine sp 29 h rfl ?_ ?_<;>intro h
  ·refine cq 7 [33,36] [B true,B (decide ((c5.toNat:Int)<48))] 273 ?_
   obtain⟨u7,hu7,h⟩:=lJ h
   have j7:Run oJ 0 Q (.code Aa::.blk 1::.code zZ::.lp pt::.blk 0::K) (sT 46 [(0,str s_1),(20,I (len s_1)),(21,I x4),(40,B u7)] [] 1):=by
    subst h
    exact rf [0,20,21,40] [] (j6 :)
   replace h:=hu7
   clear hu7
   refine sp 36 h rfl ?_ ?_<;>intro h
   ·refine cq 5 [40] [B true] 337 ?_
    subst h
    exact rf [0,20,21,40] [] (j7 :)
   ·refine cq 5 [40] [B (decide ((c5.toNat:Int)>57))] 337 ?_
    subst h
    exact rf [0,20,21,40] [] (j7 :)
  ·refine cq 4 [33] [B (decide ((c5.toNat:Int)>122))] 225 ?_
   obtain⟨u8,hu8,h⟩:=lJ h
   have j8:Run oJ 0 Q (.code Aa::.blk 1::.code zZ::.lp pt::.blk 0::K) (sT 46 [(0,str s_1),(20,I (len s_1)),(21,I x4),(40,B u8)] [] 1):=by
    subst h
    exact rf [0,20,21,40] [] (j6 :)
   replace h:=hu8
   clear hu8
   refine sp 33 h rfl ?_ ?_<;>intro h
   ·refine cq 3 [36] [B (decide ((c5.toNat:Int)<48))] 273 ?_
    obtain⟨u9,hu9,h⟩:=lJ h
    have j9:Run oJ 0 Q (.code Aa::.blk 1::.code zZ::.lp pt::.blk 0::K) (sT 46 [(0,str s_1),(20,I (len s_1)),(21,I x4),(40,B u9)] [] 1):=by
     subst h
     exact rf [0,20,21,40] [] (j8 :)
    replace h:=hu9
    clear hu9
    refine sp 36 h rfl ?_ ?_<;>intro h
    ·refine cq 5 [40] [B true] 337 ?_
     subst h
     exact rf [0,20,21,40] [] (j9 :)
    ·refine cq 5 [40] [B (decide ((c5.toNat:Int)>57))] 337 ?_
     subst h
     exact rf [0,20,21,40] [] (j9 :)
   ·refine cq 8 [40] [B false] 337 ?_
    subst h
    exact rf [0,20,21,40] [] (j8 :)
 ·refine aq 1 ?_
  exact rf [0] [] (hn _ (an h) :) (hk:=hK)
theorem NU (s_1:ac)(r:Bool)(h:CF s_1=some r):ct oJ Tryd.f56 [false] 0 (DC s_1) (DD r):=by
 show Run _ _ (qa s_1 r) [.code vv] _
 refine rI 46 [(0,str s_1)] [] 1 ?_
 unfold CF at h
 refine cq 9 [6] [I (len s_1)] 49 ?_
 obtain⟨r2,hr2,h⟩:=bS h
 refine oq 65 (B r2) rfl (cP (DX hr2)) ?_
 refine cq 2 [9] [B (!r2)] 97 ?_
 obtain⟨y3,hy3,hy31,hy32⟩:=bJ h
 have j3:∀u3,y3=.inr u3→Run oJ 0 (qa s_1 r) (.code (cR (cL (cR vv)))::.code (cR (cR vv))::[]) (sT 46 [(0,str s_1),(18,B u3)] [] 1):=by
  intro u3 hu
  replace h:=hy32 u3 hu
  refine sq h ?_ ?_<;>intro h
  ·refine cq 4 [2] [B false] 17 ?_
   obtain rfl:=sI h
   exact rP [B false]
  ·refine aq 1 ?_
   refine cq 8 [20,21] [I (len s_1),I (0)] 49 ?_
   obtain⟨y10,hy10,hy101,hy102⟩:=bJ h
   refine dT rfl ?_
   refine rf [0,20,21] [] (HU s_1 rfl 0 _ hy10 (fun r' e st hq=>by rw[hy101 r' e] at hq;exact hq) fun u10 hu=>?_)
   replace h:=hy102 u10 hu
   refine aq 2 ?_
   obtain⟨r11,hr11,h⟩:=bS h
   refine oq 17 (.hs 1 0 [] 1 0 (r11.map str).length) rfl (cP (PI hr11)) ?_
   refine cq 1 [43] [str s_1] 33 ?_
   obtain⟨r12,hr12,h⟩:=bS h
   refine oq 49 (B r12) rfl (ao rfl rfl (aB rfl rfl rfl (aM (la rfl rfl (fi (f:=str) (g:=str) (xs:=r11) rfl rfl (ci fE))) (aM (bd rfl) bb)) (Nk hr12) (.inl rfl) aY rfl rfl rfl)) ?_
   refine cq 3 [2] [B (!r12)] 81 ?_
   obtain rfl:=sI h
   exact rP [B (!r12)]
 have r3:∀r',y3=.inl r'→∀st,qa s_1 r' st→(qa s_1 r) st:=fun r' e st hq=>by rw[hy31 r' e] at hq;exact hq
 replace h:=hy3
 refine sp 9 h rfl ?_ ?_<;>intro h
 ·refine cq 10 [18] [B true] 241 ?_
  exact rf [0,18] [] (j3 _ (an h) :)
 ·refine cq 1 [10] [str s_1] 113 ?_
  obtain⟨c13,hc13,h⟩:=bS h
  refine oy 129 (.int .u8 (c13.toNat:Int)) rfl (l6 rfl rfl (qh rfl rfl hc13)) ?_
  refine cq 3 [14] [B (decide ((c13.toNat:Int)<97))] 177 ?_
  obtain⟨y14,hy14,hy141,hy142⟩:=bL h
  have j14:∀u14,y14=.inr u14→Run oJ 0 (qa s_1 r) (.code (cR (cL (cR vv)))::.code (cR (cR vv))::[]) (sT 46 [(0,str s_1),(18,B u14)] [] 1):=by
   intro u14 hu
   replace h:=hy142 u14 hu
   exact rf [0,18] [] (j3 _ (an h) :)
  have r14:∀r',y14=.inl r'→∀st,qa s_1 r' st→(qa s_1 r) st:=fun r' e st hq=>r3 r' (hy141 r' e) st hq
  replace h:=hy14
  refine sp 14 h rfl ?_ ?_<;>intro h
  ·refine cq 5 [18] [B true] 241 ?_
   exact rf [0,18] [] (j14 _ (an h) :)
  ·refine cq 1 [15] [str s_1] 193 ?_
   obtain⟨c15,hc15,h⟩:=bS h
   refine oy 209 (.int .u8 (c15.toNat:Int)) rfl (l6 rfl rfl (qh rfl rfl hc15)) ?_
   refine cq 3 [18] [B (decide ((c15.toNat:Int)>122))] 241 ?_
   exact rf [0,18] [] (j14 _ (an h) :)
theorem LZ {G:dN}:dS G 56 BM:=gT 1 0 (aV xO (aV JX (aV Fa cJ))) d3 Tryd.func56 (fun a r h=>NU a r h)
def DL:Int→List V:=oA I
def DM (r:Bool):V×List V:=(B r,[])
noncomputable def vA :=bI [false] DL DM fun x=>oD x
theorem Av {gn:Int}{r}(h:oD gn=some r):vA.F (DL gn)=some (DM r):=bg (bl ey) h
noncomputable def Qy :=bc Tryd.f31
noncomputable def Na :=dZ [(54,rj)]
def Qx (x:Int)(r:Bool):St→Prop:=QF Na Tryd.f31 [false] (DL x) (DM r)
theorem N4 (gn:Int)(r:Bool)(h:oD gn=some r):ct Na Tryd.f31 [false] 0 (DL gn) (DM r):=by
 show Run _ _ (Qx gn r) [.code Qy] _
 refine rI 5 [(0,I gn)] [] 1 ?_
 unfold oD at h
 refine cq 7 [3] [I gn] 33 ?_
 obtain⟨r2,hr2,h⟩:=bS h
 refine oq 49 (B r2) rfl (cP (DX hr2)) ?_
 refine cq 2 [2] [B r2] 65 ?_
 obtain rfl:=sI h
 exact rP [B r2]
theorem E3 {G:dN}:dS G 31 vA:=gT 1 0 (aV xO cJ) d3 Tryd.func31 (fun a r h=>N4 a r h)
def An:(Condition×Int)→List V:=cA aa (oA I)
def Ao (r:Int):V×List V:=(I r,[])
noncomputable def xM (aK:(Condition×Int)→Option Int):Ent:=bI [false,false] An Ao aK
theorem J4 (aK:(Condition×Int)→Option Int){x}{r}(h:aK x=some r):(xM aK).F (An x)=some (Ao r):=bg (cr aN (bl ey)) h
noncomputable def BO :=xM (aC lu)
theorem Qw {c_1:Condition}{bR:Int}{r}(h:J2 c_1 bR=some r):BO.F (An (c_1,bR))=some (Ao r):=J4 (aC lu) h
noncomputable def se :=bc Tryd.f40
noncomputable abbrev nS :=cR (cR (cR (cR (cR se))))
noncomputable abbrev px :=cR (cL (cR (cR (cR (cR se)))))
noncomputable def ls (aK:(Condition×Int)→Option Int):Env:=dZ [(40,(xM aK)),(56,BM),(31,vA),(54,rj)]
def eQ (aK:(Condition×Int)→Option Int)(x:Condition×Int)(r:Int):St→Prop:=QF (ls aK) Tryd.f40 [false,false] (An x) (Ao r)
theorem H1 (aK:(Condition×Int)→Option Int)(c_1:Condition)(bR:Int):eo (ls aK) 0 (eQ aK (c_1,bR)) (cL (cL (cR (cL nS)))) 0 (lg aK c_1 bR) (fun u=>(sT 78 [(1,I u)] [] 1)) fun x5=>(sT 78 [(1,I x5.1),(65,.isl false (c_1.Parts.map aF)),(66,I (len c_1.Parts)),(67,I x5.2)] [] 1):=hZ (Ap aK c_1 bR) fun {Q K} hK self ih x5 y h hr hn=>by
 unfold ks at h
 refine cq 5 [68] [B (decide (x5.2<(len c_1.Parts)))] 17 ?_
 refine sq h ?_ ?_<;>intro h
 ·refine aq 1 ?_
  refine aq 4 ?_
  obtain⟨e6,he6,h⟩:=bS h
  refine oq 33 (.iptr (aa e6) 0) rfl (aJ rfl rfl rfl (dV rfl rfl (bo e6) rfl he6)) ?_
  refine ck 2 [7,70] [] [49] [] [.hp 49 0 [] 4 0 0,aa e6] [some ⟨0,4,[.agg [I (0),str ([]),I (0),.isl true []]]⟩] 65 (by kernel_rfl) ?_
  refine eS 49 [.agg [I (0),str ([]),I (0),.usl 4 (([]).map ae)]] rfl rfl (aO (fC (aO (.refl _) (aO (.refl _) (aO (.refl _) (aO (.nil _) dH))))) dH) ?_
  refine ck 6 [71,72] [] [49] [] [aa e6,I x5.1] [some ⟨2,4,[aa e6]⟩] 113 (by kernel_rfl) ?_
  obtain⟨r7,hr7,h⟩:=bS h
  refine oq 129 (I r7) rfl (ao rfl rfl (aB rfl rfl rfl (aM (bd rfl) (aM (bd rfl) bb)) (J4 aK hr7) (.inr rfl) aY rfl rfl rfl)) ?_
  refine cq 7 [1,75] [I r7,B (decide (r7<0))] 177 ?_
  refine sq h ?_ ?_<;>intro h
  ·refine cq 4 [4] [I (-1)] 193 ?_
   exact bV rfl (hr _ (an h) _ (qp [I (-1)]))
  ·refine aq 1 ?_
   refine cq 5 [67] [I (aG (x5.2+1))] 209 ?_
   refine fx ?_
   exact rf [1,65,66,67] [] (ih _ _ h hr hn :)
 ·refine aq 1 ?_
  exact rf [1] [] (hn _ (an h) :) (hk:=hK)
theorem N1 (aK:(Condition×Int)→Option Int)(c_1:Condition)(bR:Int)(r:Int)(h:vy aK c_1 bR=some r):ct (ls aK) Tryd.f40 [false,false] 0 (An (c_1,bR)) (Ao r):=by
 show Run _ _ (eQ aK (c_1,bR) r) [.code se] _
 refine rI 78 [(0,aa c_1),(1,I bR)] [] 1 ?_
 unfold vy at h
 refine ck 13 [1,2] [] [1] [] [I (aG (bR+1)),.hp 1 0 [] 4 0 0] [some ⟨0,4,[aa c_1]⟩] 81 (by kernel_rfl) ?_
 refine oq 97 (.hs 81 0 [] 1 0 7) rfl (aZ rfl (d8 (f:=I) (xs:=[]) (z:=I (0)) (es:=[I (-1),I (0),I (0),I (0),I (1),I (2),I (2)]) (ws:=[I (-1),I (0),I (0),I (0),I (1),I (2),I (2)]) rfl rfl rfl (by decide) rfl (ba rfl) rfl)) ?_
 refine cq 4 [5] [.hs 81 0 [] 1 0 7] 113 ?_
 refine eX [0,1,3,7,15,31,63,127,255,511,1023,2047,511,511,8703,29183,61951,131071,262143] rfl (by decide +kernel) ?_
 refine dk 3 [13,12,11] [B (decide ((aG (bR+1))>15)),B (decide ((aG (bR+1))>15)),I (aG (bR+1))] ?_
 obtain⟨y3,hy3,hy31,hy32⟩:=bJ h
 have j3:∀u3,y3=.inr u3→Run (ls aK) 0 (eQ aK (c_1,bR) r) (.code (cR (cL (cR (cR (cR se)))))::.code (cR (cR (cR (cR se))))::[]) (sT 78 [(1,I (aG (bR+1))),(2,.hp 1 0 [] 4 0 0),(29,B u3)] [⟨0,4,[aa c_1]⟩] 2):=by
  intro u3 hu
  replace h:=hy32 u3 hu
  refine sq h ?_ ?_<;>intro h
  ·refine cq 4 [4] [I (-1)] 18 ?_
   obtain rfl:=sI h
   exact rP [I (-1)]
  ·refine aq 1 ?_
   refine cq 11 [37] [B (!((c_1.Op==2)==(!(c_1.Name==([]:ac)))))] 130 ?_
   obtain⟨y4,hy4,hy41,hy42⟩:=bJ h
   have j4:∀u4,y4=.inr u4→Run (ls aK) 0 (eQ aK (c_1,bR) r) (.code px::.code nS::[]) (sT 78 [(1,I (aG (bR+1))),(2,.hp 1 0 [] 4 0 0),(63,B u4)] [⟨0,4,[aa c_1]⟩] 2):=by
    intro u4 hu
    replace h:=hy42 u4 hu
    refine sq h ?_ ?_<;>intro h
    ·refine cq 4 [4] [I (-1)] 18 ?_
     obtain rfl:=sI h
     exact rP [I (-1)]
    ·refine aq 1 ?_
     refine cq 5 [65] [.isl false (c_1.Parts.map aF)] 34 ?_
     refine oq 50 (I (len c_1.Parts)) rfl (dD rfl rfl rfl (fX rfl)) ?_
     refine cq 3 [67] [I (0)] 66 ?_
     obtain⟨y8,hy8,hy81,hy82⟩:=bJ h
     refine dT rfl ?_
     refine rf [1,65,66,67] [] (H1 aK c_1 bR rfl ((aG (bR+1)),0) _ hy8 (fun r' e st hq=>by rw[hy81 r' e] at hq;exact hq) fun u8 hu=>?_)
     replace h:=hy82 u8 hu
     refine cq 5 [4] [I u8] 33 ?_
     obtain rfl:=sI h
     exact rP [I u8]
   have r4:∀r',y4=.inl r'→∀st,eQ aK (c_1,bR) r' st→(eQ aK (c_1,bR) r) st:=fun r' e st hq=>by rw[hy41 r' e] at hq;exact hq
   replace h:=hy4
   refine sp 37 h rfl ?_ ?_<;>intro h
   ·refine cq 27 [63] [B true] 546 ?_
    exact rf [1,2,63] [1] (j4 _ (an h) :)
   ·refine cq 4 [41] [B (c_1.Op==2)] 194 ?_
    obtain⟨y9,hy9,hy91,hy92⟩:=bL h
    have j9:∀u9,y9=.inr u9→Run (ls aK) 0 (eQ aK (c_1,bR) r) (.code px::.code nS::[]) (sT 78 [(1,I (aG (bR+1))),(2,.hp 1 0 [] 4 0 0),(63,B u9)] [⟨0,4,[aa c_1]⟩] 2):=by
     intro u9 hu
     replace h:=hy92 u9 hu
     exact rf [1,2,63] [1] (j4 _ (an h) :)
    have r9:∀r',y9=.inl r'→∀st,eQ aK (c_1,bR) r' st→(eQ aK (c_1,bR) r) st:=fun r' e st hq=>r4 r' (hy91 r' e) st hq
    replace h:=hy9
    refine sp 41 h rfl ?_ ?_<;>intro h
    ·refine cq 2 [43] [str c_1.Name] 226 ?_
     obtain⟨r10,hr10,h⟩:=bS h
     refine oy 242 (B r10) rfl (cP (Qu hr10)) ?_
     refine cq 4 [48] [B (!r10)] 306 ?_
     obtain⟨y11,hy11,hy111,hy112⟩:=bL h
     have j11:∀u11,y11=.inr u11→Run (ls aK) 0 (eQ aK (c_1,bR) r) (.code px::.code nS::[]) (sT 78 [(1,I (aG (bR+1))),(2,.hp 1 0 [] 4 0 0),(63,B u11)] [⟨0,4,[aa c_1]⟩] 2):=by
      intro u11 hu
      replace h:=hy112 u11 hu
      exact rf [1,2,63] [1] (j9 _ (an h) :)
     have r11:∀r',y11=.inl r'→∀st,eQ aK (c_1,bR) r' st→(eQ aK (c_1,bR) r) st:=fun r' e st hq=>r9 r' (hy111 r' e) st hq
     replace h:=hy11
     refine sp 48 h rfl ?_ ?_<;>intro h
     ·refine cq 16 [63] [B true] 546 ?_
      exact rf [1,2,63] [1] (j11 _ (an h) :)
     ·refine cq 4 [52] [B (c_1.Op != 3)] 370 ?_
      obtain⟨y12,hy12,hy121,hy122⟩:=bL h
      have j12:∀u12,y12=.inr u12→Run (ls aK) 0 (eQ aK (c_1,bR) r) (.code px::.code nS::[]) (sT 78 [(1,I (aG (bR+1))),(2,.hp 1 0 [] 4 0 0),(63,B u12)] [⟨0,4,[aa c_1]⟩] 2):=by
       intro u12 hu
       replace h:=hy122 u12 hu
       exact rf [1,2,63] [1] (j11 _ (an h) :)
      have r12:∀r',y12=.inl r'→∀st,eQ aK (c_1,bR) r' st→(eQ aK (c_1,bR) r) st:=fun r' e st hq=>r11 r' (hy121 r' e) st hq
      replace h:=hy12
      refine sp 52 h rfl ?_ ?_<;>intro h
      ·refine cq 6 [58] [B (c_1.Day != 0)] 466 ?_
       obtain⟨y13,hy13,hy131,hy132⟩:=bL h
       have j13:∀u13,y13=.inr u13→Run (ls aK) 0 (eQ aK (c_1,bR) r) (.code px::.code nS::[]) (sT 78 [(1,I (aG (bR+1))),(2,.hp 1 0 [] 4 0 0),(63,B u13)] [⟨0,4,[aa c_1]⟩] 2):=by
        intro u13 hu
        replace h:=hy132 u13 hu
        exact rf [1,2,63] [1] (j12 _ (an h) :)
       have r13:∀r',y13=.inl r'→∀st,eQ aK (c_1,bR) r' st→(eQ aK (c_1,bR) r) st:=fun r' e st hq=>r12 r' (hy131 r' e) st hq
       replace h:=hy13
       refine sp 58 h rfl ?_ ?_<;>intro h
       ·refine cq 6 [63] [B true] 546 ?_
        exact rf [1,2,63] [1] (j13 _ (an h) :)
       ·refine cq 2 [60] [I c_1.Day] 498 ?_
        obtain⟨r14,hr14,h⟩:=bS h
        refine oy 514 (B r14) rfl (cP (Av hr14)) ?_
        refine cq 3 [63] [B (!r14)] 546 ?_
        exact rf [1,2,63] [1] (j13 _ (an h) :)
      ·refine cq 8 [58,60] [B false,I c_1.Day] 498 ?_
       obtain⟨r15,hr15,h⟩:=bS h
       refine oy 514 (B r15) rfl (cP (Av hr15)) ?_
       refine cq 3 [63] [B (!r15)] 546 ?_
       exact rf [1,2,63] [1] (j12 _ (an h) :)
    ·refine cq 11 [48,52] [B false,B (c_1.Op != 3)] 370 ?_
     obtain⟨y16,hy16,hy161,hy162⟩:=bL h
     have j16:∀u16,y16=.inr u16→Run (ls aK) 0 (eQ aK (c_1,bR) r) (.code px::.code nS::[]) (sT 78 [(1,I (aG (bR+1))),(2,.hp 1 0 [] 4 0 0),(63,B u16)] [⟨0,4,[aa c_1]⟩] 2):=by
      intro u16 hu
      replace h:=hy162 u16 hu
      exact rf [1,2,63] [1] (j9 _ (an h) :)
     have r16:∀r',y16=.inl r'→∀st,eQ aK (c_1,bR) r' st→(eQ aK (c_1,bR) r) st:=fun r' e st hq=>r9 r' (hy161 r' e) st hq
     replace h:=hy16
     refine sp 52 h rfl ?_ ?_<;>intro h
     ·refine cq 6 [58] [B (c_1.Day != 0)] 466 ?_
      obtain⟨y17,hy17,hy171,hy172⟩:=bL h
      have j17:∀u17,y17=.inr u17→Run (ls aK) 0 (eQ aK (c_1,bR) r) (.code px::.code nS::[]) (sT 78 [(1,I (aG (bR+1))),(2,.hp 1 0 [] 4 0 0),(63,B u17)] [⟨0,4,[aa c_1]⟩] 2):=by
       intro u17 hu
       replace h:=hy172 u17 hu
       exact rf [1,2,63] [1] (j16 _ (an h) :)
      have r17:∀r',y17=.inl r'→∀st,eQ aK (c_1,bR) r' st→(eQ aK (c_1,bR) r) st:=fun r' e st hq=>r16 r' (hy171 r' e) st hq
      replace h:=hy17
      refine sp 58 h rfl ?_ ?_<;>intro h
      ·refine cq 6 [63] [B true] 546 ?_
       exact rf [1,2,63] [1] (j17 _ (an h) :)
      ·refine cq 2 [60] [I c_1.Day] 498 ?_
       obtain⟨r18,hr18,h⟩:=bS h
       refine oy 514 (B r18) rfl (cP (Av hr18)) ?_
       refine cq 3 [63] [B (!r18)] 546 ?_
       exact rf [1,2,63] [1] (j17 _ (an h) :)
     ·refine cq 8 [58,60] [B false,I c_1.Day] 498 ?_
      obtain⟨r19,hr19,h⟩:=bS h
      refine oy 514 (B r19) rfl (cP (Av hr19)) ?_
      refine cq 3 [63] [B (!r19)] 546 ?_
      exact rf [1,2,63] [1] (j16 _ (an h) :)
 have r3:∀r',y3=.inl r'→∀st,eQ aK (c_1,bR) r' st→(eQ aK (c_1,bR) r) st:=fun r' e st hq=>by rw[hy31 r' e] at hq;exact hq
 replace h:=hy3
 refine sp 13 h rfl ?_ ?_<;>intro h
 ·refine dk 16 [29,28,27,26,25,24,23,22,21,20,19,18,17,16,15,14] [B true,.und,.und,.und,.und,.und,.und,.und,.und,.und,B true,B true,.und,.und,.und,.und] ?_
  refine de 417 rfl rfl ?_
  exact rf [1,2,29] [1] (j3 _ (an h) :)
 ·refine dy [1] [] (.hp 1 0 [] 4 0 0) rfl (ez rfl rfl rfl) ?_
  refine dy [1] [] (I c_1.Op) rfl (cZ rfl rfl) ?_
  obtain⟨r20,hr20,h⟩:=bS h
  refine dy [] [] (B r20) rfl (cP (DX hr20)) ?_ (dj rfl rfl rfl rfl (aM (bd rfl) (aM (bd rfl) (aM (bd rfl) bb))) (DX hr20) (.inr rfl) rfl)
  refine dk 3 [19,18,17] [B (!r20),B (!r20),B (!r20)] ?_
  obtain⟨y21,hy21,hy211,hy212⟩:=bL h
  have j21:∀u21,y21=.inr u21→Run (ls aK) 0 (eQ aK (c_1,bR) r) (.code (cR (cL (cR (cR (cR se)))))::.code (cR (cR (cR (cR se))))::[]) (sT 78 [(1,I (aG (bR+1))),(2,.hp 1 0 [] 4 0 0),(29,B u21)] [⟨0,4,[aa c_1]⟩] 2):=by
   intro u21 hu
   replace h:=hy212 u21 hu
   exact rf [1,2,29] [1] (j3 _ (an h) :)
  have r21:∀r',y21=.inl r'→∀st,eQ aK (c_1,bR) r' st→(eQ aK (c_1,bR) r) st:=fun r' e st hq=>r3 r' (hy211 r' e) st hq
  replace h:=hy21
  refine sp 19 h rfl ?_ ?_<;>intro h
  ·refine dk 10 [29,28,27,26,25,24,23,22,21,20] [B true,.und,.und,.und,.und,.und,.und,.und,.und,.und] ?_
   refine de 417 rfl rfl ?_
   exact rf [1,2,29] [1] (j21 _ (an h) :)
  ·refine dy [1] [] (.hp 1 0 [] 4 0 3) rfl (ez rfl rfl rfl) ?_
   refine dy [1] [] (.isl false (c_1.Parts.map aF)) rfl (cZ rfl rfl) ?_
   refine dy [] [] (I (len c_1.Parts)) rfl (dD rfl rfl rfl (fX rfl)) ?_
   refine dk 1 [23] [.hs 81 0 [] 1 0 7] ?_
   refine dy [1] [] (.hp 1 0 [] 4 0 0) rfl (ez rfl rfl rfl) ?_
   refine dy [1] [] (I c_1.Op) rfl (cZ rfl rfl) ?_
   obtain⟨e22,he22,h⟩:=bS h
   refine dy [81] [] (.hp 81 0 [] 1 (0+Int.toNat c_1.Op) 0) rfl (aJ rfl rfl rfl (gB (f:=I) (xs:=[(-1),0,0,0,1,2,2]) rfl rfl rfl he22)) ?_
   refine dy [81] [] (I e22) rfl (cZ rfl (iE (path:=[]) rfl rfl rfl al (fD (f:=I) (xs:=[(-1),0,0,0,1,2,2]) he22) rfl rfl rfl)) ?_
   refine dk 2 [29,28] [B ((len c_1.Parts) != e22),B ((len c_1.Parts) != e22)] ?_
   refine de 417 rfl rfl ?_
   exact rf [1,2,29] [1] (j21 _ (an h) :)
theorem L1 {G:dN}:dS G 40 BO:=gQ fun aK g_Ffh=>gT 2 0 (aV g_Ffh (aV LZ (aV E3 (aV xO cJ)))) d3 Tryd.func40 (fun a r h=>N1 aK a.1 a.2 r h)
def DA:Condition→List V:=oA aa
def DB (r:Bool):V×List V:=(B r,[])
noncomputable def rc :=bI [false] DA DB fun x=>ul x
theorem zK {c_1:Condition}{r}(h:ul c_1=some r):rc.F (DA c_1)=some (DB r):=bg (bl aN) h
noncomputable def Qt :=bc Tryd.f17
noncomputable def M9 :=dZ [(40,BO)]
def Qs (x:Condition)(r:Bool):St→Prop:=QF M9 Tryd.f17 [false] (DA x) (DB r)
theorem NR (c_1:Condition)(r:Bool)(h:ul c_1=some r):ct M9 Tryd.f17 [false] 0 (DA c_1) (DB r):=by
 show Run _ _ (Qs c_1 r) [.code Qt] _
 refine rI 6 [(0,aa c_1)] [] 1 ?_
 unfold ul at h
 refine cq 8 [3] [aa c_1] 49 ?_
 obtain⟨r2,hr2,h⟩:=bS h
 refine oq 65 (I r2) rfl (cP (Qw hr2)) ?_
 refine cq 3 [2] [B (decide (r2>0))] 97 ?_
 obtain rfl:=sI h
 exact rP [B (decide (r2>0))]
theorem xB {G:dN}:dS G 17 rc:=gT 1 0 (aV L1 cJ) d3 Tryd.func17 (fun a r h=>NR a r h)
def Aj:(Condition×(List ac))→List V:=cA aa (oA (tt 1 str))
def Al (r:(List ac)):V×List V:=(.usl 1 (r.map str),[.dead])
noncomputable def xL (bP:(Condition×(List ac))→Option (List ac)):Ent:=bI [false,true] Aj Al bP
theorem J1 (bP:(Condition×(List ac))→Option (List ac)){x}{r}(h:bP x=some r):(xL bP).F (Aj x)=some (Al r):=bg (cr aN (bl (kY cz))) h
noncomputable def lY :=Mq [none,some 1] (xL (aC mi))
theorem qb {c_3:Condition}{az:List ac}{r}(h:CH c_3 az=some r):lY.F (Aj (c_3,az))=some (Al r):=J1 (aC mi) h
noncomputable def HZ :=bc Tryd.f19
noncomputable def DI (bP:(Condition×(List ac))→Option (List ac)):Env:=dZ [(19,(xL bP))]
def Ak (bP:(Condition×(List ac))→Option (List ac))(x:Condition×(List ac))(r:(List ac)):St→Prop:=QF (DI bP) Tryd.f19 [false,true] (Aj x) (Al r)
theorem H0 (bP:(Condition×(List ac))→Option (List ac))(c_3:Condition)(az:List ac):eo (DI bP) 1 (Ak bP (c_3,az)) (cL (cL (cR (cL (cR (cR HZ)))))) 0 (mj bP c_3 az) (fun u=>(sO 27 [(1,.hs 2 0 [] 1 0 (u.map str).length)] [none,some ⟨0,1,u.map str⟩] 3)) fun x4=>(sO 27 [(1,.hs 2 0 [] 1 0 (x4.2.map str).length),(16,.isl false (c_3.Parts.map aF)),(17,I (len c_3.Parts)),(18,I x4.1)] [none,some ⟨0,1,x4.2.map str⟩] 3):=hZ (Am bP c_3 az) fun {Q K} hK self ih x4 y h hr hn=>by
 unfold kr at h
 refine cq 5 [19] [B (decide (x4.1<(len c_3.Parts)))] 19 ?_
 refine sq h ?_ ?_<;>intro h
 ·refine aq 1 ?_
  refine aq 4 ?_
  obtain⟨e5,he5,h⟩:=bS h
  refine oq 35 (.iptr (aa e5) 0) rfl (aJ rfl rfl rfl (dV rfl rfl (bo e5) rfl he5)) ?_
  refine ck 2 [6,21] [] [51] [] [.hp 51 0 [] 4 0 0,aa e5] [some ⟨0,4,[.agg [I (0),str ([]),I (0),.isl true []]]⟩] 67 (by kernel_rfl) ?_
  refine eS 51 [.agg [I (0),str ([]),I (0),.usl 4 (([]).map ae)]] rfl rfl (aO (fC (aO (.refl _) (aO (.refl _) (aO (.refl _) (aO (.nil _) dH))))) dH) ?_
  refine ck 5 [22,23] [] [51] [] [aa e5,.hs 2 0 [] 1 0 (x4.2.map str).length] [some ⟨2,4,[aa e5]⟩] 115 (by kernel_rfl) ?_
  obtain⟨r6,hr6,h⟩:=bS h
  refine oq 131 (.hs 115 0 [] 1 0 (r6.map str).length) rfl (ao rfl rfl (aB rfl rfl rfl (aM (bd rfl) (cd (b7 rfl (dI (path:=[]) rfl rfl al rfl)) bb)) (J1 bP hr6) (.inr rfl) (cf rfl rfl rfl eg aY) rfl rfl rfl)) ?_
  refine cq 7 [1,18] [.hs 115 0 [] 1 0 (r6.map str).length,I (aG (x4.1+1))] 179 ?_
  refine fx ?_
  exact rg [1,16,17,18] [180,115] (ih _ _ h hr hn :)
 ·refine aq 1 ?_
  exact rg [1] [20,2] (hn _ (an h) :) (hk:=hK)
theorem NZ (bP:(Condition×(List ac))→Option (List ac))(c_3:Condition)(az:List ac)(r:(List ac))(h:vx bP c_3 az=some r):ct (DI bP) Tryd.f19 [false,true] 1 (Aj (c_3,az)) (Al r):=by
 show Run _ _ (Ak bP (c_3,az) r) [.code HZ] _
 refine rI 27 [(0,aa c_3),(1,.hs 1 0 [] 1 0 (az.map str).length)] [(1,some ⟨0,1,az.map str⟩)] 2 ?_
 unfold vx at h
 refine ck 12 [2,9] [] [2] [] [.hp 2 0 [] 4 0 0,B (c_3.Op==2)] [some ⟨0,4,[aa c_3]⟩] 82 (by kernel_rfl) ?_
 obtain⟨y3,hy3,hy31,hy32⟩:=bJ h
 have j3:∀u3,y3=.inr u3→Run (DI bP) 1 (Ak bP (c_3,az) r) (.code (cR (cR HZ))::[]) (sO 27 [(1,.hs 2 0 [] 1 0 (u3.map str).length),(2,.hp 3 0 [] 4 0 0)] [none,some ⟨0,1,u3.map str⟩,some ⟨0,4,[aa c_3]⟩] 4):=by
  intro u3 hu
  replace h:=hy32 u3 hu
  refine cq 5 [16] [.isl false (c_3.Parts.map aF)] 36 ?_
  refine oq 52 (I (len c_3.Parts)) rfl (dD rfl rfl rfl (fX rfl)) ?_
  refine cq 3 [18] [I (0)] 68 ?_
  obtain⟨y7,hy7,hy71,hy72⟩:=bJ h
  refine dT rfl ?_
  refine rg [1,16,17,18] [69,2] (H0 bP c_3 az rfl (0,u3) _ hy7 (fun r' e st hq=>by rw[hy71 r' e] at hq;exact hq) fun u7 hu=>?_)
  replace h:=hy72 u7 hu
  refine cq 5 [4] [.hs 2 0 [] 1 0 (u7.map str).length] 35 ?_
  obtain rfl:=sI h
  exact bV rfl ⟨_,fin (vs:=[.hs 2 0 [] 1 0 (u7.map str).length]) rfl (cF (gP rfl (cG rfl rfl)) cl) rfl (eI (eV rfl (jV rfl) d4)),mD dW⟩
 have r3:∀r',y3=.inl r'→∀st,Ak bP (c_3,az) r' st→(Ak bP (c_3,az) r) st:=fun r' e st hq=>by rw[hy31 r' e] at hq;exact hq
 replace h:=hy3
 refine sq h ?_ ?_<;>intro h
 ·refine cq 4 [10,12] [.hs 1 0 [] 1 0 (az.map str).length,str c_3.Name] 130 ?_
  refine oq 146 (.hs 130 0 [] 1 0 1) rfl (aZ rfl (d8 (f:=I) (xs:=[]) (z:=str ([])) (es:=[str c_3.Name]) (ws:=[str c_3.Name]) rfl rfl rfl (by decide) rfl (ba rfl) rfl)) ?_
  obtain⟨a8,ha8,h⟩:=bS h
  refine oq 162 (.hs 146 0 [] 1 0 (a8.map str).length) rfl (fm rfl rfl rfl rfl rfl (gW (path:=[]) (f:=str) (xs:=az) (ys:=[c_3.Name]) rfl rfl (kX rfl rfl rfl) rfl rfl rfl al rfl (by decide) js ha8 rfl ld)) ?_
  refine cq 2 [1] [.hs 146 0 [] 1 0 (a8.map str).length] 178 ?_
  exact rg [1,2] [179,146,2] (j3 _ (an h) :)
 ·refine aq 1 ?_
  exact rg [1,2] [83,1,2] (j3 _ (an h) :)
theorem E1 {G:dN}:dS G 19 lY:=Kx [none,some 1] (gQ fun bP g_Ffg=>gT 2 1 (aV g_Ffg cJ) d3 Tryd.func19 (fun a r h=>NZ bP a.1 a.2 r h))
def Ge:Shelf.Ren:=⟨fun | 190=>41 | 125=>58 | 258=>57 | 128=>72 | 129=>73 | 302=>63 | 303=>64 | 304=>65 | 305=>66 | 306=>67 | 307=>68 | 308=>69 | 309=>70 | 310=>71 | 333=>75 | 329=>76 | 330=>77 | 334=>78 | 335=>79 | 336=>80 | 344=>84 | n=>n,fun | 31=>31 | 9=>9 | 3=>3 | 46=>68 | 0=>0 | 51=>87 | 53=>39 | 4=>4 | 183=>80 | 182=>79 | 131=>36 | 5=>5 | 218=>90 | 222=>94 | 228=>98 | 229=>99 | n=>n,fun | n=>n⟩
theorem M6:Go.Proofs.Lays.n190 Tryd.prog Ge where
 mixed:=by kernel_rfl
 f125:=Tryd.func58.trans (congrArg some (by kernel_rfl))
 f128:=Tryd.func72.trans (congrArg some (by kernel_rfl))
 f129:=Tryd.func73.trans (congrArg some (by kernel_rfl))
 f190:=Tryd.func41.trans (congrArg some (by kernel_rfl))
 f258:=Tryd.func57.trans (congrArg some (by kernel_rfl))
 f302:=Tryd.func63.trans (congrArg some (by kernel_rfl))
 f303:=Tryd.func64.trans (congrArg some (by kernel_rfl))
 f304:=Tryd.func65.trans (congrArg some (by kernel_rfl))
 f305:=Tryd.func66.trans (congrArg some (by kernel_rfl))
 f306:=Tryd.func67.trans (congrArg some (by kernel_rfl))
 f307:=Tryd.func68.trans (congrArg some (by kernel_rfl))
 f308:=Tryd.func69.trans (congrArg some (by kernel_rfl))
 f309:=Tryd.func70.trans (congrArg some (by kernel_rfl))
 f310:=Tryd.func71.trans (congrArg some (by kernel_rfl))
 f329:=Tryd.func76.trans (congrArg some (by kernel_rfl))
 f330:=Tryd.func77.trans (congrArg some (by kernel_rfl))
 f333:=Tryd.func75.trans (congrArg some (by kernel_rfl))
 f334:=Tryd.func78.trans (congrArg some (by kernel_rfl))
 f335:=Tryd.func79.trans (congrArg some (by kernel_rfl))
 f336:=Tryd.func80.trans (congrArg some (by kernel_rfl))
 f344:=Tryd.func84.trans (congrArg some (by kernel_rfl))
 t0:=Tryd.underlying0
 a0:=Tryd.isAgg0
 z0:=Tryd.sizeOf0
 v0:=Tryd.zeroValue0
 t3:=Tryd.underlying3
 a3:=Tryd.isAgg3
 z3:=Tryd.sizeOf3
 v3:=Tryd.zeroValue3
 t4:=Tryd.underlying4
 a4:=Tryd.isAgg4
 z4:=Tryd.sizeOf4
 v4:=Tryd.zeroValue4
 t5:=Tryd.underlying5
 a5:=Tryd.isAgg5
 z5:=Tryd.sizeOf5
 v5:=Tryd.zeroValue5
 t9:=Tryd.underlying9
 a9:=Tryd.isAgg9
 z9:=Tryd.sizeOf9
 v9:=Tryd.zeroValue9
 t31:=Tryd.underlying31
 a31:=Tryd.isAgg31
 z31:=Tryd.sizeOf31
 v31:=Tryd.zeroValue31
 t46:=Tryd.underlying68
 a46:=Tryd.isAgg68
 z46:=Tryd.sizeOf68
 v46:=Tryd.zeroValue68
 t51:=Tryd.underlying87
 a51:=Tryd.isAgg87
 z51:=Tryd.sizeOf87
 v51:=Tryd.zeroValue87
 t53:=Tryd.underlying39
 a53:=Tryd.isAgg39
 z53:=Tryd.sizeOf39
 v53:=Tryd.zeroValue39
 t131:=Tryd.underlying36
 a131:=Tryd.isAgg36
 z131:=Tryd.sizeOf36
 v131:=Tryd.zeroValue36
 t182:=Tryd.underlying79
 a182:=Tryd.isAgg79
 z182:=Tryd.sizeOf79
 v182:=Tryd.zeroValue79
 t183:=Tryd.underlying80
 a183:=Tryd.isAgg80
 z183:=Tryd.sizeOf80
 v183:=Tryd.zeroValue80
 t218:=Tryd.underlying90
 a218:=Tryd.isAgg90
 z218:=Tryd.sizeOf90
 v218:=Tryd.zeroValue90
 t222:=Tryd.underlying94
 a222:=Tryd.isAgg94
 z222:=Tryd.sizeOf94
 v222:=Tryd.zeroValue94
 t228:=Tryd.underlying98
 a228:=Tryd.isAgg98
 z228:=Tryd.sizeOf98
 v228:=Tryd.zeroValue98
 t229:=Tryd.underlying99
 a229:=Tryd.isAgg99
 z229:=Tryd.sizeOf99
 v229:=Tryd.zeroValue99
noncomputable def te :=bI [true] (oA (tt 1 str)) (fun r=>(.tup [],[.usl 1 (r.map str)])) rH
theorem M5 {l:List ac}{r}(h:rH l=some r):te.F [.usl 1 (l.map str)]=some (.tup [],[.usl 1 (r.map str)]):=bg (ea:=oA (tt 1 str)) (bl (kY cz)) h
theorem GP {G:dN}:dS G 41 te:=IH M6
def D3:(List ac)→List V:=oA (tt 1 str)
def D5 (r:(List ac)):V×List V:=(.usl 1 (r.map str),[.dead])
noncomputable def BT :=bI [true] D3 D5 fun x=>E8 x
theorem QI {s_2:List ac}{r}(h:E8 s_2=some r):BT.F (D3 s_2)=some (D5 r):=bg (bl (kY cz)) h
noncomputable def H9 :=bc Tryd.f42
noncomputable abbrev E9 :=cL (cL (cR (cL (cR (cL (cR (cL (cL (cR (cL (cL (cR (cL (cR (cR H9)))))))))))))))
noncomputable def AD :=dZ []
def D4 (x:(List ac))(r:(List ac)):St→Prop:=QF AD Tryd.f42 [true] (D3 x) (D5 r)
theorem Ib (s_2:List ac)(x2:Int):eo AD 1 (D4 s_2) E9 2 (lh s_2 x2) (fun u=>(sO 61 [(0,.hs 2 0 [] 1 0 (u.2.map str).length),(3,I u.1)] [none,some ⟨0,1,u.2.map str⟩] 3)) fun x6=>(sO 61 [(0,.hs 2 0 [] 1 0 (x6.2.2.map str).length),(3,I x6.1),(4,.hs 2 0 [] 1 (0+Int.toNat x2) (Int.toNat (len s_2) - Int.toNat x2)),(5,I x6.2.1)] [none,some ⟨0,1,x6.2.2.map str⟩] 3):=hZ (AF s_2 x2) fun {Q K} hK self ih x6 y h hr hn=>by
 unfold lN at h
 refine cq 8 [32] [B (decide (x6.2.1<(((Int.toNat (len s_2) - Int.toNat x2):Nat):Int)))] 67 ?_
 refine sq h ?_ ?_<;>intro h
 ·refine aq 1 ?_
  refine aq 3 ?_
  refine eX [0,0,3,7,0,0,32,112,240,511] rfl (by decide +kernel) ?_
  refine dk 2 [36,35] [I x6.2.1,.hs 2 0 [] 1 (0+Int.toNat x2) (Int.toNat (len s_2) - Int.toNat x2)] ?_
  obtain⟨e7,he7,h⟩:=bS h
  refine dq [2] [] (.hp 2 0 [] 1 ((0+Int.toNat x2)+Int.toNat x6.2.1) 0) rfl (aJ rfl rfl rfl (IP (xs:=x6.2.2) rfl rfl he7)) ?_
  refine dq [2] [] (str e7) rfl (cZ rfl (iE (path:=[]) rfl rfl rfl al (FE (f:=str) (xs:=x6.2.2) he7) rfl rfl rfl)) ?_
  refine dk 3 [41,40,39] [I (aG (x6.2.1 - 1)),I x6.2.1,.hs 2 0 [] 1 (0+Int.toNat x2) (Int.toNat (len s_2) - Int.toNat x2)] ?_
  obtain⟨e8,he8,h⟩:=bS h
  refine dq [2] [] (.hp 2 0 [] 1 ((0+Int.toNat x2)+Int.toNat (aG (x6.2.1 - 1))) 0) rfl (aJ rfl rfl rfl (IP (xs:=x6.2.2) rfl rfl he8)) ?_
  refine dq [2] [] (str e8) rfl (cZ rfl (iE (path:=[]) rfl rfl rfl al (FE (f:=str) (xs:=x6.2.2) he8) rfl rfl rfl)) ?_
  refine dk 1 [44] [B (!(e7==e8))] ?_
  refine de 227 rfl rfl ?_
  obtain⟨y9,hy9,hy91,hy92⟩:=bL h
  have j9:∀u9,y9=.inr u9→Run AD 1 Q (.blk 3::.code (cR (cR E9))::.lp E9::.blk 2::K) (sO 61 [(0,.hs 2 0 [] 1 0 (u9.2.map str).length),(3,I u9.1),(4,.hs 2 0 [] 1 (0+Int.toNat x2) (Int.toNat (len s_2) - Int.toNat x2)),(5,I x6.2.1)] [none,some ⟨0,1,u9.2.map str⟩] 3):=by
   intro u9 hu
   replace h:=hy92 u9 hu
   refine cq 6 [5] [I (aG (x6.2.1+1))] 51 ?_
   refine fx ?_
   exact rg [0,3,4,5] [52,2] (ih _ _ h hr hn :)
  have r9:∀r',y9=.inl r'→∀st,D4 s_2 r' st→Q st:=fun r' e st hq=>hr r' (hy91 r' e) st hq
  replace h:=hy9
  refine sq h ?_ ?_<;>intro h
  ·refine cq 6 [45,46,47,48] [.hs 2 0 [] 1 0 (x6.2.2.map str).length,I x6.1,.hs 2 0 [] 1 (0+Int.toNat x2) (Int.toNat (len s_2) - Int.toNat x2),I x6.2.1] 291 ?_
   obtain⟨e10,he10,h⟩:=bS h
   refine oq 307 (.hp 2 0 [] 1 ((0+Int.toNat x2)+Int.toNat x6.2.1) 0) rfl (aJ rfl rfl rfl (IP (xs:=x6.2.2) rfl rfl he10)) ?_
   refine oq 323 (str e10) rfl (cZ rfl (iE (path:=[]) rfl rfl rfl al (FE (f:=str) (xs:=x6.2.2) he10) rfl rfl rfl)) ?_
   obtain⟨e11,he11,h⟩:=bS h
   refine oq 339 (.hp 2 0 [] 1 (0+Int.toNat x6.1) 0) rfl (aJ rfl rfl rfl (gB (f:=str) (xs:=x6.2.2) rfl rfl rfl he11)) ?_
   refine o0 355 rfl rfl (ie rfl rfl (fM (path:=[]) (pl:=true) (e':=str e10) (es2':=(jT x6.2.2 x6.1 e10).map str) rfl (dh rfl) rfl rfl rfl al (fD (f:=str) (xs:=x6.2.2) he11) rfl rfl rfl (Cj (f:=str) (xs:=x6.2.2) (y:=e10)) d5 0 rfl)) ?_
   try rw[←xY (f:=str) (xs:=x6.2.2) (i:=x6.1) (z:=e10)]
   refine cq 6 [3] [I (aG (x6.1+1))] 403 ?_
   exact rg [0,3,4,5] [404,2] (j9 _ (an h) :)
  ·refine aq 1 ?_
   exact rg [0,3,4,5] [228,2] (j9 _ (an h) :)
 ·refine aq 1 ?_
  exact rg [0,3] [68,2] (hn _ (an h) :) (hk:=hK)
theorem Ia (s_2:List ac):eo AD 1 (D4 s_2) (cL (cL (cR (cL (cR (cR H9)))))) 0 (rk s_2) (fun u=>(sO 61 [(0,.hs 2 0 [] 1 0 (u.map str).length)] [none,some ⟨0,1,u.map str⟩] 3)) fun x2=>(sO 61 [(0,.hs 2 0 [] 1 0 (s_2.map str).length),(3,I x2)] [none,some ⟨0,1,s_2.map str⟩] 3):=hZ (AE s_2) fun {Q K} hK self ih x2 y h hr hn=>by
 unfold lM at h
 refine cq 5 [10,11] [I x2,.hs 2 0 [] 1 0 (s_2.map str).length] 35 ?_
 refine oq 51 (I (len s_2)) rfl (dD rfl rfl rfl (hI (f:=str) (xs:=s_2) rfl rfl)) ?_
 refine cq 2 [13] [B (decide (x2<(len s_2)))] 67 ?_
 refine sq h ?_ ?_<;>intro h
 ·refine aq 1 ?_
  refine aq 3 ?_
  refine eX [0,0,3,7,0,0,32,112,240,511] rfl (by decide +kernel) ?_
  refine dk 2 [17,16] [I x2,.hs 2 0 [] 1 0 (s_2.map str).length] ?_
  obtain⟨e3,he3,h⟩:=bS h
  refine dq [2] [] (.hp 2 0 [] 1 (0+Int.toNat x2) 0) rfl (aJ rfl rfl rfl (gB (f:=str) (xs:=s_2) rfl rfl rfl he3)) ?_
  refine dq [2] [] (str e3) rfl (cZ rfl (iE (path:=[]) rfl rfl rfl al (fD (f:=str) (xs:=s_2) he3) rfl rfl rfl)) ?_
  refine dk 3 [22,21,20] [I (aG (x2 - 1)),I x2,.hs 2 0 [] 1 0 (s_2.map str).length] ?_
  obtain⟨e4,he4,h⟩:=bS h
  refine dq [2] [] (.hp 2 0 [] 1 (0+Int.toNat (aG (x2 - 1))) 0) rfl (aJ rfl rfl rfl (gB (f:=str) (xs:=s_2) rfl rfl rfl he4)) ?_
  refine dq [2] [] (str e4) rfl (cZ rfl (iE (path:=[]) rfl rfl rfl al (fD (f:=str) (xs:=s_2) he4) rfl rfl rfl)) ?_
  refine dk 1 [25] [B (e3==e4)] ?_
  refine de 227 rfl rfl ?_
  refine sq h ?_ ?_<;>intro h
  ·refine cq 4 [26,27] [.hs 2 0 [] 1 0 (s_2.map str).length,I x2] 259 ?_
   obtain⟨s5,hs5,h⟩:=bS h
   refine oq 275 (.hs 2 0 [] 1 (0+Int.toNat x2) (Int.toNat (len s_2) - Int.toNat x2)) rfl (gH rfl rfl rfl rfl (oh (f:=str) (xs:=s_2) rfl rfl rfl rfl (Iu rfl) hs5)) ?_
   refine cq 8 [4,5] [.hs 2 0 [] 1 (0+Int.toNat x2) (Int.toNat (len s_2) - Int.toNat x2),I (1)] 307 ?_
   obtain⟨y15,hy15,hy151,hy152⟩:=bL h
   refine dT rfl ?_
   refine rg [0,3,4,5] [308,2] (Ib s_2 x2 rfl (x2,1,s_2) _ hy15 (fun r' e st hq=>hr r' (hy151 r' e) st hq) fun u15 hu=>?_)
   replace h:=hy152 u15 hu
   refine cq 4 [54,55] [.hs 2 0 [] 1 0 (u15.2.map str).length,I u15.1] 35 ?_
   obtain⟨s16,hs16,h⟩:=bS h
   refine oq 51 (.hs 2 0 [] 1 (0+Int.toNat u15.1) (Int.toNat (len u15.2) - Int.toNat u15.1)) rfl (gH rfl rfl rfl rfl (oh (f:=str) (xs:=u15.2) rfl rfl rfl rfl (Iu rfl) hs16)) ?_
   obtain⟨k17,hk17,h⟩:=bS h
   refine o0 67 rfl rfl (OC rfl rfl (QZ (f:=str) (xs:=u15.2) (z0:=[]) rfl rfl rfl rfl (by decide) nr hk17)) ?_
   try rw[show (u15.2.map str).length=(k17.map str).length from Oy hk17]
   refine cq 5 [57,58] [.hs 2 0 [] 1 0 (k17.map str).length,I u15.1] 99 ?_
   obtain⟨s18,hs18,h⟩:=bS h
   refine oq 115 (.hs 2 0 [] 1 (0+Int.toNat (0)) (Int.toNat u15.1 - Int.toNat (0))) rfl (gH rfl rfl rfl rfl (oh (f:=str) (xs:=k17) rfl rfl rfl rfl rfl hs18)) ?_
   refine cq 2 [2] [.hs 2 0 [] 1 (0+Int.toNat (0)) (Int.toNat u15.1 - Int.toNat (0))] 131 ?_
   obtain⟨p19,hp19,h⟩:=bS h
   exact bV rfl (hr _ (an h) _ ⟨_,fin (vs:=[.hs 2 0 [] 1 (0+Int.toNat (0)) (Int.toNat u15.1 - Int.toNat (0))]) rfl (cF (gP rfl (Kb (path:=[]) (f:=str) (xs:=k17) rfl rfl al hp19 rfl ld)) cl) rfl (eV rfl (jV rfl) d4),mD dW⟩)
  ·refine aq 1 ?_
   refine cq 6 [3] [I (aG (x2+1))] 275 ?_
   refine fx ?_
   exact rg [0,3] [276,2] (ih _ _ h hr hn :)
 ·refine aq 1 ?_
  exact rg [0] [68,2] (hn _ (an h) :) (hk:=hK)
theorem Ob (s_2:List ac)(r:(List ac))(h:E8 s_2=some r):ct AD Tryd.f42 [true] 1 (D3 s_2) (D5 r):=by
 show Run _ _ (D4 s_2 r) [.code H9] _
 refine rI 61 [(0,.hs 1 0 [] 1 0 (s_2.map str).length)] [(1,some ⟨0,1,s_2.map str⟩)] 2 ?_
 unfold E8 at h
 refine cq 8 [6] [.hs 1 0 [] 1 0 (s_2.map str).length] 34 ?_
 refine oq 50 (I (len s_2)) rfl (dD rfl rfl rfl (hI (f:=str) (xs:=s_2) rfl rfl)) ?_
 refine cq 2 [8] [B (decide ((len s_2)<2))] 66 ?_
 refine sq h ?_ ?_<;>intro h
 ·refine cq 5 [2] [.hs 1 0 [] 1 0 (s_2.map str).length] 98 ?_
  obtain rfl:=sI h
  exact bV rfl ⟨_,fin (vs:=[.hs 1 0 [] 1 0 (s_2.map str).length]) rfl (cF (gP rfl (cG rfl rfl)) cl) rfl (eV rfl (jV rfl) d4),mD dW⟩
 ·refine aq 1 ?_
  refine cq 6 [3] [I (1)] 82 ?_
  obtain⟨y20,hy20,hy201,hy202⟩:=bJ h
  refine dT rfl ?_
  refine rg [0,3] [83,1] (Ia s_2 rfl 1 _ hy20 (fun r' e st hq=>by rw[hy201 r' e] at hq;exact hq) fun u20 hu=>?_)
  replace h:=hy202 u20 hu
  refine cq 5 [2] [.hs 2 0 [] 1 0 (u20.map str).length] 35 ?_
  obtain rfl:=sI h
  exact bV rfl ⟨_,fin (vs:=[.hs 2 0 [] 1 0 (u20.map str).length]) rfl (cF (gP rfl (cG rfl rfl)) cl) rfl (eV rfl (jV rfl) d4),mD dW⟩
theorem L7 {G:dN}:dS G 42 BT:=gT 1 1 cJ d3 Tryd.func42 (fun a r h=>Ob a r h)
def DQ:(List ac)→List V:=oA (tt 1 str)
def DS (r:(List ac)):V×List V:=(.usl 1 (r.map str),[.dead])
noncomputable def vC :=bI [true] DQ DS fun x=>wt x
theorem DR {ja:List ac}{r}(h:wt ja=some r):vC.F (DQ ja)=some (DS r):=bg (bl (kY cz)) h
noncomputable def QB :=bc Tryd.f18
noncomputable def Nd :=dZ [(41,te),(42,BT)]
def QA (x:(List ac))(r:(List ac)):St→Prop:=QF Nd Tryd.f18 [true] (DQ x) (DS r)
theorem N6 (ja:List ac)(r:(List ac))(h:wt ja=some r):ct Nd Tryd.f18 [true] 1 (DQ ja) (DS r):=by
 show Run _ _ (QA ja r) [.code QB] _
 refine rI 7 [(0,.hs 1 0 [] 1 0 (ja.map str).length)] [(1,some ⟨0,1,ja.map str⟩)] 2 ?_
 unfold wt at h
 refine cq 7 [3] [.hs 1 0 [] 1 0 (ja.map str).length] 34 ?_
 obtain⟨r2,hr2,h⟩:=bS h
 obtain⟨g3,h⟩:=gG h
 refine oq 50 (.tup []) rfl (ao rfl rfl (aB rfl rfl rfl (cd (b7 rfl (dI (path:=[]) rfl rfl al rfl)) bb) (M5 hr2) (.inr rfl) (cf rfl rfl rfl rfl aY) rfl rfl rfl)) ?_
 try rw[OS (f:=str) (xs:=ja) (ys:=r2) g3]
 refine cq 4 [5] [.hs 1 0 [] 1 0 (r2.map str).length] 66 ?_
 obtain⟨r4,hr4,h⟩:=bS h
 refine oq 82 (.hs 66 0 [] 1 0 (r4.map str).length) rfl (ao rfl rfl (aB rfl rfl rfl (cd (b7 rfl (dI (path:=[]) rfl rfl al rfl)) bb) (QI hr4) (.inr rfl) (cf rfl rfl rfl eg aY) rfl rfl rfl)) ?_
 refine cq 2 [2] [.hs 66 0 [] 1 0 (r4.map str).length] 98 ?_
 obtain rfl:=sI h
 exact bV rfl ⟨_,fin (vs:=[.hs 66 0 [] 1 0 (r4.map str).length]) rfl (cF (gP rfl (cG rfl rfl)) cl) rfl (eV rfl (jV rfl) d4),mD dW⟩
theorem E5 {G:dN}:dS G 18 vC:=gT 1 1 (aV GP (aV L7 cJ)) d3 Tryd.func18 (fun a r h=>N6 a r h)
def Ae:(Condition×(List Int))→List V:=cA aa (oA (tt 1 I))
def Ah (r:(List Int)):V×List V:=(.usl 1 (r.map I),[.dead])
noncomputable def xJ (bO:(Condition×(List Int))→Option (List Int)):Ent:=bI [false,true] Ae Ah bO
theorem J0 (bO:(Condition×(List Int))→Option (List Int)){x}{r}(h:bO x=some r):(xJ bO).F (Ae x)=some (Ah r):=bg (cr aN (bl (kY ey))) h
noncomputable def pd :=Mq [none,some 1] (xJ (aC mg))
theorem oL {c_3:Condition}{az:List Int}{r}(h:Ac c_3 az=some r):pd.F (Ae (c_3,az))=some (Ah r):=J0 (aC mg) h
noncomputable def HX :=bc Tryd.f20
noncomputable def DH (bO:(Condition×(List Int))→Option (List Int)):Env:=dZ [(20,(xJ bO))]
def Af (bO:(Condition×(List Int))→Option (List Int))(x:Condition×(List Int))(r:(List Int)):St→Prop:=QF (DH bO) Tryd.f20 [false,true] (Ae x) (Ah r)
theorem HY (bO:(Condition×(List Int))→Option (List Int))(c_3:Condition)(az:List Int):eo (DH bO) 1 (Af bO (c_3,az)) (cL (cL (cR (cL (cR (cR HX)))))) 0 (mh bO c_3 az) (fun u=>(sO 27 [(1,.hs 2 0 [] 1 0 (u.map I).length)] [none,some ⟨0,1,u.map I⟩] 3)) fun x4=>(sO 27 [(1,.hs 2 0 [] 1 0 (x4.2.map I).length),(16,.isl false (c_3.Parts.map aF)),(17,I (len c_3.Parts)),(18,I x4.1)] [none,some ⟨0,1,x4.2.map I⟩] 3):=hZ (Ai bO c_3 az) fun {Q K} hK self ih x4 y h hr hn=>by
 unfold kq at h
 refine cq 5 [19] [B (decide (x4.1<(len c_3.Parts)))] 19 ?_
 refine sq h ?_ ?_<;>intro h
 ·refine aq 1 ?_
  refine aq 4 ?_
  obtain⟨e5,he5,h⟩:=bS h
  refine oq 35 (.iptr (aa e5) 0) rfl (aJ rfl rfl rfl (dV rfl rfl (bo e5) rfl he5)) ?_
  refine ck 2 [6,21] [] [51] [] [.hp 51 0 [] 4 0 0,aa e5] [some ⟨0,4,[.agg [I (0),str ([]),I (0),.isl true []]]⟩] 67 (by kernel_rfl) ?_
  refine eS 51 [.agg [I (0),str ([]),I (0),.usl 4 (([]).map ae)]] rfl rfl (aO (fC (aO (.refl _) (aO (.refl _) (aO (.refl _) (aO (.nil _) dH))))) dH) ?_
  refine ck 5 [22,23] [] [51] [] [aa e5,.hs 2 0 [] 1 0 (x4.2.map I).length] [some ⟨2,4,[aa e5]⟩] 115 (by kernel_rfl) ?_
  obtain⟨r6,hr6,h⟩:=bS h
  refine oq 131 (.hs 115 0 [] 1 0 (r6.map I).length) rfl (ao rfl rfl (aB rfl rfl rfl (aM (bd rfl) (cd (b7 rfl (dI (path:=[]) rfl rfl al rfl)) bb)) (J0 bO hr6) (.inr rfl) (cf rfl rfl rfl eg aY) rfl rfl rfl)) ?_
  refine cq 7 [1,18] [.hs 115 0 [] 1 0 (r6.map I).length,I (aG (x4.1+1))] 179 ?_
  refine fx ?_
  exact rg [1,16,17,18] [180,115] (ih _ _ h hr hn :)
 ·refine aq 1 ?_
  exact rg [1] [20,2] (hn _ (an h) :) (hk:=hK)
theorem NX (bO:(Condition×(List Int))→Option (List Int))(c_3:Condition)(az:List Int)(r:(List Int))(h:vw bO c_3 az=some r):ct (DH bO) Tryd.f20 [false,true] 1 (Ae (c_3,az)) (Ah r):=by
 show Run _ _ (Af bO (c_3,az) r) [.code HX] _
 refine rI 27 [(0,aa c_3),(1,.hs 1 0 [] 1 0 (az.map I).length)] [(1,some ⟨0,1,az.map I⟩)] 2 ?_
 unfold vw at h
 refine ck 12 [2,9] [] [2] [] [.hp 2 0 [] 4 0 0,B (c_3.Op==3)] [some ⟨0,4,[aa c_3]⟩] 82 (by kernel_rfl) ?_
 obtain⟨y3,hy3,hy31,hy32⟩:=bJ h
 have j3:∀u3,y3=.inr u3→Run (DH bO) 1 (Af bO (c_3,az) r) (.code (cR (cR HX))::[]) (sO 27 [(1,.hs 2 0 [] 1 0 (u3.map I).length),(2,.hp 3 0 [] 4 0 0)] [none,some ⟨0,1,u3.map I⟩,some ⟨0,4,[aa c_3]⟩] 4):=by
  intro u3 hu
  replace h:=hy32 u3 hu
  refine cq 5 [16] [.isl false (c_3.Parts.map aF)] 36 ?_
  refine oq 52 (I (len c_3.Parts)) rfl (dD rfl rfl rfl (fX rfl)) ?_
  refine cq 3 [18] [I (0)] 68 ?_
  obtain⟨y7,hy7,hy71,hy72⟩:=bJ h
  refine dT rfl ?_
  refine rg [1,16,17,18] [69,2] (HY bO c_3 az rfl (0,u3) _ hy7 (fun r' e st hq=>by rw[hy71 r' e] at hq;exact hq) fun u7 hu=>?_)
  replace h:=hy72 u7 hu
  refine cq 5 [4] [.hs 2 0 [] 1 0 (u7.map I).length] 35 ?_
  obtain rfl:=sI h
  exact bV rfl ⟨_,fin (vs:=[.hs 2 0 [] 1 0 (u7.map I).length]) rfl (cF (gP rfl (cG rfl rfl)) cl) rfl (eI (eV rfl (jV rfl) d4)),mD dW⟩
 have r3:∀r',y3=.inl r'→∀st,Af bO (c_3,az) r' st→(Af bO (c_3,az) r) st:=fun r' e st hq=>by rw[hy31 r' e] at hq;exact hq
 replace h:=hy3
 refine sq h ?_ ?_<;>intro h
 ·refine cq 4 [10,12] [.hs 1 0 [] 1 0 (az.map I).length,I c_3.Day] 130 ?_
  refine oq 146 (.hs 130 0 [] 1 0 1) rfl (aZ rfl (d8 (f:=I) (xs:=[]) (z:=I (0)) (es:=[I c_3.Day]) (ws:=[I c_3.Day]) rfl rfl rfl (by decide) rfl (ba rfl) rfl)) ?_
  obtain⟨a8,ha8,h⟩:=bS h
  refine oq 162 (.hs 146 0 [] 1 0 (a8.map I).length) rfl (fm rfl rfl rfl rfl rfl (gW (path:=[]) (f:=I) (xs:=az) (ys:=[c_3.Day]) rfl rfl (kX rfl rfl rfl) rfl rfl rfl al rfl (by decide) vG ha8 rfl ld)) ?_
  refine cq 2 [1] [.hs 146 0 [] 1 0 (a8.map I).length] 178 ?_
  exact rg [1,2] [179,146,2] (j3 _ (an h) :)
 ·refine aq 1 ?_
  exact rg [1,2] [83,1,2] (j3 _ (an h) :)
theorem xK {G:dN}:dS G 20 pd:=Kx [none,some 1] (gQ fun bO g_Fff=>gT 2 1 (aV g_Fff cJ) d3 Tryd.func20 (fun a r h=>NX bO a.1 a.2 r h))
def Aq:(Condition×(List ac)×Int)→List V:=cA aa (cA (pU str) (oA I))
def Ar (r:Bool):V×List V:=(B r,[])
noncomputable def xN (cp:(Condition×(List ac)×Int)→Option Bool):Ent:=bI [false,false,false] Aq Ar cp
theorem re (cp:(Condition×(List ac)×Int)→Option Bool){x}{r}(h:cp x=some r):(xN cp).F (Aq x)=some (Ar r):=bg (cr aN (cr (fN cz) (bl ey))) h
noncomputable def vz :=xN (aC lw)
theorem DK {c_1:Condition}{aD:List ac}{aX:Int}{r}(h:wr c_1 aD aX=some r):vz.F (Aq (c_1,aD,aX))=some (Ar r):=re (aC lw) h
noncomputable def Au :=bc Tryd.f21
noncomputable def DJ (cp:(Condition×(List ac)×Int)→Option Bool):Env:=dZ [(43,vE),(21,(xN cp))]
def sh (cp:(Condition×(List ac)×Int)→Option Bool)(x:Condition×(List ac)×Int)(r:Bool):St→Prop:=QF (DJ cp) Tryd.f21 [false,false,false] (Aq x) (Ar r)
theorem N3 (cp:(Condition×(List ac)×Int)→Option Bool)(c_1:Condition)(aD:List ac)(aX:Int)(r:Bool)(h:sf cp c_1 aD aX=some r):ct (DJ cp) Tryd.f21 [false,false,false] 0 (Aq (c_1,aD,aX)) (Ar r):=by
 show Run _ _ (sh cp (c_1,aD,aX) r) [.code Au] _
 refine rI 67 [(0,aa c_1),(1,.isl false (aD.map str)),(2,I aX)] [] 1 ?_
 unfold sf at h
 refine ck 17 [3,8,9] [] [1] [] [.hp 1 0 [] 4 0 0,I c_1.Op,B (c_1.Op==2)] [some ⟨0,4,[aa c_1]⟩] 97 (by kernel_rfl) ?_
 refine sq h ?_ ?_<;>intro h
 ·refine cq 5 [11,13] [.isl false (aD.map str),str c_1.Name] 145 ?_
  obtain⟨r4,hr4,h⟩:=bS h
  refine oq 161 (B r4) rfl (cP (Nk hr4)) ?_
  refine cq 2 [6] [B r4] 177 ?_
  obtain rfl:=sI h
  exact rP [B r4]
 ·refine cq 5 [15] [B (c_1.Op==3)] 129 ?_
  refine sq h ?_ ?_<;>intro h
  ·refine cq 8 [6] [B (decide (aX≥c_1.Day))] 209 ?_
   obtain rfl:=sI h
   exact rP [B (decide (aX≥c_1.Day))]
  ·refine cq 5 [21] [B (c_1.Op==4)] 161 ?_
   refine sq h ?_ ?_<;>intro h
   ·refine cq 4 [24] [.isl false (c_1.Parts.map aF)] 193 ?_
    obtain⟨e5,he5,h⟩:=bS h
    refine oq 209 (.iptr (aa e5) 0) rfl (aJ rfl rfl rfl (dV rfl rfl (bo e5) rfl he5)) ?_
    refine cq 3 [26,27,28] [aa e5,.isl false (aD.map str),I aX] 257 ?_
    obtain⟨r6,hr6,h⟩:=bS h
    refine oq 273 (B r6) rfl (ao rfl rfl (aB rfl rfl rfl (aM (bd rfl) (aM (bd rfl) (aM (bd rfl) bb))) (re cp hr6) (.inr rfl) aY rfl rfl rfl)) ?_
    refine cq 3 [6] [B (!r6)] 305 ?_
    obtain rfl:=sI h
    exact rP [B (!r6)]
   ·refine cq 5 [31] [B (c_1.Op==5)] 193 ?_
    refine sq h ?_ ?_<;>intro h
    ·refine cq 4 [34] [.isl false (c_1.Parts.map aF)] 225 ?_
     obtain⟨e7,he7,h⟩:=bS h
     refine oq 241 (.iptr (aa e7) 0) rfl (aJ rfl rfl rfl (dV rfl rfl (bo e7) rfl he7)) ?_
     refine cq 3 [36,37,38] [aa e7,.isl false (aD.map str),I aX] 289 ?_
     obtain⟨r8,hr8,h⟩:=bS h
     refine oq 305 (B r8) rfl (ao rfl rfl (aB rfl rfl rfl (aM (bd rfl) (aM (bd rfl) (aM (bd rfl) bb))) (re cp hr8) (.inr rfl) aY rfl rfl rfl)) ?_
     refine cq 1 [40] [B r8] 321 ?_
     obtain⟨y9,hy9,hy91,hy92⟩:=bJ h
     have j9:∀u9,y9=.inr u9→Run (DJ cp) 0 (sh cp (c_1,aD,aX) r) (.code (cR (cL (cR (cR (cR (cR (cR (cR (cR (cL (cR (cL (cR Au)))))))))))))::.blk 0::.code (cR (cR Au))::[]) (sT 67 [(6,B u9)] [] 1):=by
      intro u9 hu
      replace h:=hy92 u9 hu
      obtain rfl:=sI h
      exact rP [B u9]
     have r9:∀r',y9=.inl r'→∀st,sh cp (c_1,aD,aX) r' st→(sh cp (c_1,aD,aX) r) st:=fun r' e st hq=>by rw[hy91 r' e] at hq;exact hq
     replace h:=hy9
     refine sp 40 h rfl ?_ ?_<;>intro h
     ·refine cq 2 [42] [.isl false (c_1.Parts.map aF)] 353 ?_
      obtain⟨e10,he10,h⟩:=bS h
      refine oy 369 (.iptr (aa e10) 0) rfl (aJ rfl rfl rfl (dV rfl rfl (bo e10) rfl he10)) ?_
      refine cq 3 [44,45,46] [aa e10,.isl false (aD.map str),I aX] 417 ?_
      obtain⟨r11,hr11,h⟩:=bS h
      refine oy 433 (B r11) rfl (ao rfl rfl (aB rfl rfl rfl (aM (bd rfl) (aM (bd rfl) (aM (bd rfl) bb))) (re cp hr11) (.inr rfl) aY rfl rfl rfl)) ?_
      refine cq 3 [6] [B r11] 465 ?_
      exact rf [6] [] (j9 _ (an h) :)
     ·refine cq 10 [6] [B false] 465 ?_
      exact rf [6] [] (j9 _ (an h) :)
    ·refine cq 5 [49] [B (c_1.Op==6)] 225 ?_
     refine sq h ?_ ?_<;>intro h
     ·refine cq 4 [52] [.isl false (c_1.Parts.map aF)] 257 ?_
      obtain⟨e12,he12,h⟩:=bS h
      refine oq 273 (.iptr (aa e12) 0) rfl (aJ rfl rfl rfl (dV rfl rfl (bo e12) rfl he12)) ?_
      refine cq 3 [54,55,56] [aa e12,.isl false (aD.map str),I aX] 321 ?_
      obtain⟨r13,hr13,h⟩:=bS h
      refine oq 337 (B r13) rfl (ao rfl rfl (aB rfl rfl rfl (aM (bd rfl) (aM (bd rfl) (aM (bd rfl) bb))) (re cp hr13) (.inr rfl) aY rfl rfl rfl)) ?_
      refine cq 1 [58] [B r13] 353 ?_
      obtain⟨y14,hy14,hy141,hy142⟩:=bJ h
      have j14:∀u14,y14=.inr u14→Run (DJ cp) 0 (sh cp (c_1,aD,aX) r) (.code (cR (cL (cR (cR (cR (cR (cR (cR (cR (cR (cR (cL (cR (cL (cR Au)))))))))))))))::.blk 0::.code (cR (cR Au))::[]) (sT 67 [(6,B u14)] [] 1):=by
       intro u14 hu
       replace h:=hy142 u14 hu
       obtain rfl:=sI h
       exact rP [B u14]
      have r14:∀r',y14=.inl r'→∀st,sh cp (c_1,aD,aX) r' st→(sh cp (c_1,aD,aX) r) st:=fun r' e st hq=>by rw[hy141 r' e] at hq;exact hq
      replace h:=hy14
      refine sp 58 h rfl ?_ ?_<;>intro h
      ·refine cq 10 [6] [B true] 497 ?_
       exact rf [6] [] (j14 _ (an h) :)
      ·refine cq 2 [60] [.isl false (c_1.Parts.map aF)] 385 ?_
       obtain⟨e15,he15,h⟩:=bS h
       refine oy 401 (.iptr (aa e15) 0) rfl (aJ rfl rfl rfl (dV rfl rfl (bo e15) rfl he15)) ?_
       refine cq 3 [62,63,64] [aa e15,.isl false (aD.map str),I aX] 449 ?_
       obtain⟨r16,hr16,h⟩:=bS h
       refine oy 465 (B r16) rfl (ao rfl rfl (aB rfl rfl rfl (aM (bd rfl) (aM (bd rfl) (aM (bd rfl) bb))) (re cp hr16) (.inr rfl) aY rfl rfl rfl)) ?_
       refine cq 3 [6] [B r16] 497 ?_
       exact rf [6] [] (j14 _ (an h) :)
     ·refine aq 1 ?_
      refine cq 5 [6] [B true] 241 ?_
      obtain rfl:=sI h
      exact rP [B true]
theorem E2 {G:dN}:dS G 21 vz:=gQ fun cp g_Ffi=>gT 3 0 (aV Fa (aV g_Ffi cJ)) d3 Tryd.func21 (fun a r h=>N3 cp a.1 a.2.1 a.2.2 r h)
def Dy:(Condition×Condition)→List V:=cA aa (oA aa)
def Dz (r:Bool×Bool):V×List V:=(.tup [B r.1,B r.2],[])
noncomputable def BE :=bI [false,false] Dy Dz fun x=>EC x.1 x.2
theorem Qr {a_1:Condition}{b_2:Condition}{r}(h:EC a_1 b_2=some r):BE.F (Dy (a_1,b_2))=some (Dz r):=bg (cr aN (bl aN)) h
noncomputable def vp :=bc Tryd.f6
noncomputable abbrev ED :=cL (cL (cR (cL (cR (cR (cL (cL (cR (cR (cL (cL (cR (cL (cR (cR (cR (cR (cR vp))))))))))))))))))
noncomputable abbrev yx :=cL (cL (cR (cR (cR (cR (cL (cL (cR (cR (cL (cL (cR (cL (cR (cR (cR (cR (cR vp))))))))))))))))))
noncomputable def pZ :=dZ [(17,rc),(19,lY),(18,vC),(20,pd),(21,vz)]
def oI (x:Condition×Condition)(r:Bool×Bool):St→Prop:=QF pZ Tryd.f6 [false,false] (Dy x) (Dz r)
theorem HO (a_1:Condition)(b_2:Condition)(r7:(List ac))(x11:Int)(r9:(List Int))(q10:Int):eo pZ 0 (oI (a_1,b_2)) ED 2 (qK a_1 b_2 r7 x11 r9 q10) (fun u=>(sT 78 [(2,.hp 1 0 [] 4 0 0),(3,.hp 2 0 [] 4 0 0),(6,.hs 3 0 [] 1 0 (r7.map str).length),(7,.hs 4 0 [] 1 0 (r9.map I).length),(9,.hs 5 0 [] 1 0 (u.map str).length),(37,I q10),(38,I x11)] [⟨0,4,[aa a_1]⟩,⟨0,4,[aa b_2]⟩,⟨0,1,r7.map str⟩,⟨0,1,r9.map I⟩,⟨0,1,u.map str⟩] 6)) fun x12=>(sT 78 [(2,.hp 1 0 [] 4 0 0),(3,.hp 2 0 [] 4 0 0),(6,.hs 3 0 [] 1 0 (r7.map str).length),(7,.hs 4 0 [] 1 0 (r9.map I).length),(8,I x11),(9,.hs 5 0 [] 1 0 (x12.2.map str).length),(37,I q10),(38,I x11),(42,.hs 3 0 [] 1 0 (r7.map str).length),(43,I (len r7)),(44,I x12.1)] [⟨0,4,[aa a_1]⟩,⟨0,4,[aa b_2]⟩,⟨0,1,r7.map str⟩,⟨0,1,r9.map I⟩,⟨0,1,x12.2.map str⟩] 6):=hZ (yz a_1 b_2 r7 x11 r9 q10) fun {Q K} hK self ih x12 y h hr hn=>by
 unfold lF at h
 refine cq 5 [45] [B (decide (x12.1<(len r7)))] 22 ?_
 refine sq h ?_ ?_<;>intro h
 ·refine aq 1 ?_
  refine cq 5 [46] [I x12.1] 38 ?_
  obtain⟨e13,he13,h⟩:=bS h
  refine oq 54 (.hp 3 0 [] 1 (0+Int.toNat x12.1) 0) rfl (aJ rfl rfl rfl (gB (f:=str) (xs:=r7) rfl rfl rfl he13)) ?_
  refine oq 70 (str e13) rfl (cZ rfl (iE (path:=[]) rfl rfl rfl al (fD (f:=str) (xs:=r7) he13) rfl rfl rfl)) ?_
  refine cq 7 [11,49,50] [str e13,I x11,I x12.1] 134 ?_
  obtain⟨q14,hq14,h⟩:=bS h
  refine oq 150 (I q14) rfl (nD rfl rfl (Ir hq14)) ?_
  refine cq 3 [53] [B ((lc .i64 q14 1)==1)] 182 ?_
  obtain⟨y15,hy15,hy151,hy152⟩:=bL h
  have j15:∀u15,y15=.inr u15→Run pZ 0 Q (.blk 3::.code (cR (cR (cR ED)))::.lp ED::.blk 2::K) (sT 78 [(2,.hp 1 0 [] 4 0 0),(3,.hp 2 0 [] 4 0 0),(6,.hs 3 0 [] 1 0 (r7.map str).length),(7,.hs 4 0 [] 1 0 (r9.map I).length),(8,I x11),(9,.hs 5 0 [] 1 0 (u15.map str).length),(37,I q10),(38,I x11),(42,.hs 3 0 [] 1 0 (r7.map str).length),(43,I (len r7)),(44,I x12.1)] [⟨0,4,[aa a_1]⟩,⟨0,4,[aa b_2]⟩,⟨0,1,r7.map str⟩,⟨0,1,r9.map I⟩,⟨0,1,u15.map str⟩] 6):=by
   intro u15 hu
   replace h:=hy152 u15 hu
   refine cq 5 [44] [I (aG (x12.1+1))] 38 ?_
   refine fx ?_
   exact rf [2,3,6,7,8,9,37,38,42,43,44] [1,2,3,4,5] (ih _ _ h hr hn :)
  have r15:∀r',y15=.inl r'→∀st,oI (a_1,b_2) r' st→Q st:=fun r' e st hq=>hr r' (hy151 r' e) st hq
  replace h:=hy15
  refine sq h ?_ ?_<;>intro h
  ·refine cq 3 [54,55] [.hs 5 0 [] 1 0 (x12.2.map str).length,str e13] 214 ?_
   refine oq 230 (.hs 214 0 [] 1 0 1) rfl (aZ rfl (d8 (f:=I) (xs:=[]) (z:=str ([])) (es:=[str e13]) (ws:=[str e13]) rfl rfl rfl (by decide) rfl (ba rfl) rfl)) ?_
   obtain⟨a16,ha16,h⟩:=bS h
   refine oq 246 (.hs 230 0 [] 1 0 (a16.map str).length) rfl (fm rfl rfl rfl rfl rfl (gW (path:=[]) (f:=str) (xs:=x12.2) (ys:=[e13]) rfl rfl (kX rfl rfl rfl) rfl rfl rfl al rfl (by decide) js ha16 rfl ld)) ?_
   refine cq 2 [9] [.hs 230 0 [] 1 0 (a16.map str).length] 262 ?_
   exact rf [2,3,6,7,8,9,37,38,42,43,44] [1,2,3,4,230] (j15 _ (an h) :)
  ·refine aq 1 ?_
   exact rf [2,3,6,7,8,9,37,38,42,43,44] [1,2,3,4,5] (j15 _ (an h) :)
 ·refine aq 1 ?_
  exact rf [2,3,6,7,9,37,38] [1,2,3,4,5] (hn _ (an h) :) (hk:=hK)
theorem HP (a_1:Condition)(b_2:Condition)(r9:(List Int))(u17:(List ac))(r7:(List ac))(q10:Int)(x11:Int):eo pZ 0 (oI (a_1,b_2)) yx 4 (pg a_1 b_2 r9 u17 r7 q10 x11) (fun u=>(sT 78 [(2,.hp 1 0 [] 4 0 0),(3,.hp 2 0 [] 4 0 0),(6,.hs 3 0 [] 1 0 (r7.map str).length),(7,.hs 4 0 [] 1 0 (r9.map I).length),(37,I q10),(38,I x11)] [⟨0,4,[aa a_1]⟩,⟨0,4,[aa b_2]⟩,⟨0,1,r7.map str⟩,⟨0,1,r9.map I⟩] 5)) fun x18=>(sT 78 [(2,.hp 1 0 [] 4 0 0),(3,.hp 2 0 [] 4 0 0),(6,.hs 3 0 [] 1 0 (r7.map str).length),(7,.hs 4 0 [] 1 0 (r9.map I).length),(9,.hs 5 0 [] 1 0 (u17.map str).length),(37,I q10),(38,I x11),(59,.hs 4 0 [] 1 0 (r9.map I).length),(60,I (len r9)),(61,I x18)] [⟨0,4,[aa a_1]⟩,⟨0,4,[aa b_2]⟩,⟨0,1,r7.map str⟩,⟨0,1,r9.map I⟩,⟨0,1,u17.map str⟩] 6):=hZ (yA a_1 b_2 r9 u17 r7 q10 x11) fun {Q K} hK self ih x18 y h hr hn=>by
 unfold lG at h
 refine cq 5 [62] [B (decide (x18<(len r9)))] 22 ?_
 refine sq h ?_ ?_<;>intro h
 ·refine aq 1 ?_
  refine aq 4 ?_
  obtain⟨e19,he19,h⟩:=bS h
  refine oq 38 (.hp 4 0 [] 1 (0+Int.toNat x18) 0) rfl (aJ rfl rfl rfl (gB (f:=I) (xs:=r9) rfl rfl rfl he19)) ?_
  refine oq 54 (I e19) rfl (cZ rfl (iE (path:=[]) rfl rfl rfl al (fD (f:=I) (xs:=r9) he19) rfl rfl rfl)) ?_
  refine cq 7 [13,65,66,67] [I e19,aa a_1,.hs 5 0 [] 1 0 (u17.map str).length,I e19] 118 ?_
  obtain⟨r20,hr20,h⟩:=bS h
  refine oq 134 (B r20) rfl (ao rfl rfl (aB rfl rfl rfl (aM (bd rfl) (aM (la rfl rfl (fi (f:=str) (g:=str) (xs:=u17) rfl rfl (ci fE))) (aM (bd rfl) bb))) (DK hr20) (.inl rfl) aY rfl rfl rfl)) ?_
  refine cq 1 [69] [B r20] 150 ?_
  obtain⟨y21,hy21,hy211,hy212⟩:=bL h
  have j21:∀u21,y21=.inr u21→Run pZ 0 Q (.code (cR (cR (cL (cL (cR (cR yx))))))::.blk 5::.code (cR (cR (cR yx)))::.lp yx::.blk 4::K) (sT 78 [(2,.hp 1 0 [] 4 0 0),(3,.hp 2 0 [] 4 0 0),(6,.hs 3 0 [] 1 0 (r7.map str).length),(7,.hs 4 0 [] 1 0 (r9.map I).length),(9,.hs 5 0 [] 1 0 (u17.map str).length),(37,I q10),(38,I x11),(59,.hs 4 0 [] 1 0 (r9.map I).length),(60,I (len r9)),(61,I x18),(75,B u21)] [⟨0,4,[aa a_1]⟩,⟨0,4,[aa b_2]⟩,⟨0,1,r7.map str⟩,⟨0,1,r9.map I⟩,⟨0,1,u17.map str⟩] 6):=by
   intro u21 hu
   replace h:=hy212 u21 hu
   refine sq h ?_ ?_<;>intro h
   ·refine cq 5 [4,5] [B false,B true] 38 ?_
    exact bV rfl (hr _ (an h) _ (qp [B false,B true]))
   ·refine aq 1 ?_
    refine cq 5 [61] [I (aG (x18+1))] 38 ?_
    refine fx ?_
    exact rf [2,3,6,7,9,37,38,59,60,61] [1,2,3,4,5] (ih _ _ h hr hn :)
  have r21:∀r',y21=.inl r'→∀st,oI (a_1,b_2) r' st→Q st:=fun r' e st hq=>hr r' (hy211 r' e) st hq
  replace h:=hy21
  refine sp 69 h rfl ?_ ?_<;>intro h
  ·refine cq 3 [70,71,72] [aa b_2,.hs 5 0 [] 1 0 (u17.map str).length,I e19] 198 ?_
   obtain⟨r22,hr22,h⟩:=bS h
   refine oy 214 (B r22) rfl (ao rfl rfl (aB rfl rfl rfl (aM (bd rfl) (aM (la rfl rfl (fi (f:=str) (g:=str) (xs:=u17) rfl rfl (ci fE))) (aM (bd rfl) bb))) (DK hr22) (.inl rfl) aY rfl rfl rfl)) ?_
   refine cq 3 [75] [B (!r22)] 246 ?_
   exact rf [2,3,6,7,9,37,38,59,60,61,75] [1,2,3,4,5] (j21 _ (an h) :)
  ·refine cq 7 [75] [B false] 246 ?_
   exact rf [2,3,6,7,9,37,38,59,60,61,75] [1,2,3,4,5] (j21 _ (an h) :)
 ·refine aq 1 ?_
  exact rf [2,3,6,7,37,38] [1,2,3,4] (hn _ (an h) :) (hk:=hK)
theorem HN (a_1:Condition)(b_2:Condition)(q10:Int)(r7:(List ac))(r9:(List Int)):eo pZ 0 (oI (a_1,b_2)) (cL (cL (cR (cL (cR (cR (cR (cR (cR vp))))))))) 0 (pf a_1 b_2 q10 r7 r9) (fun u=>(sT 78 [] [] 1)) fun x11=>(sT 78 [(2,.hp 1 0 [] 4 0 0),(3,.hp 2 0 [] 4 0 0),(6,.hs 3 0 [] 1 0 (r7.map str).length),(7,.hs 4 0 [] 1 0 (r9.map I).length),(37,I q10),(38,I x11)] [⟨0,4,[aa a_1]⟩,⟨0,4,[aa b_2]⟩,⟨0,1,r7.map str⟩,⟨0,1,r9.map I⟩] 5):=hZ (yy a_1 b_2 q10 r7 r9) fun {Q K} hK self ih x11 y h hr hn=>by
 unfold lE at h
 refine cq 5 [39] [B (decide (x11<q10))] 21 ?_
 refine sq h ?_ ?_<;>intro h
 ·refine aq 1 ?_
  refine cq 9 [8] [I x11] 53 ?_
  refine oq 69 (.hs 53 0 [] 1 0 0) rfl (aZ rfl (d8 (f:=I) (xs:=[]) (z:=str ([])) (es:=[]) (ws:=[]) rfl rfl rfl (by decide) rfl (ba rfl) rfl)) ?_
  refine cq 6 [9,42] [.hs 53 0 [] 1 0 0,.hs 3 0 [] 1 0 (r7.map str).length] 101 ?_
  refine oq 117 (I (len r7)) rfl (dD rfl rfl rfl (hI (f:=str) (xs:=r7) rfl rfl)) ?_
  refine cq 3 [44] [I (0)] 133 ?_
  obtain⟨y17,hy17,hy171,hy172⟩:=bL h
  refine dT rfl ?_
  refine rf [2,3,6,7,8,9,37,38,42,43,44] [1,2,3,4,53] (HO a_1 b_2 r7 x11 r9 q10 rfl (0,[]) _ hy17 (fun r' e st hq=>hr r' (hy171 r' e) st hq) fun u17 hu=>?_)
  replace h:=hy172 u17 hu
  refine cq 3 [59] [.hs 4 0 [] 1 0 (r9.map I).length] 22 ?_
  refine oq 38 (I (len r9)) rfl (dD rfl rfl rfl (hI (f:=I) (xs:=r9) rfl rfl)) ?_
  refine cq 3 [61] [I (0)] 54 ?_
  obtain⟨y23,hy23,hy231,hy232⟩:=bL h
  refine dT rfl ?_
  refine rf [2,3,6,7,9,37,38,59,60,61] [1,2,3,4,5] (HP a_1 b_2 r9 u17 r7 q10 x11 rfl 0 _ hy23 (fun r' e st hq=>hr r' (hy231 r' e) st hq) fun u23 hu=>?_)
  replace h:=hy232 u23 hu
  refine cq 5 [38] [I (aG (x11+1))] 37 ?_
  refine fx ?_
  exact rf [2,3,6,7,37,38] [1,2,3,4] (ih _ _ h hr hn :)
 ·refine aq 1 ?_
  exact rf [] [] (hn _ (an h) :) (hk:=hK)
theorem NK (a_1:Condition)(b_2:Condition)(r:Bool×Bool)(h:EC a_1 b_2=some r):ct pZ Tryd.f6 [false,false] 0 (Dy (a_1,b_2)) (Dz r):=by
 show Run _ _ (oI (a_1,b_2) r) [.code vp] _
 refine rI 78 [(0,aa a_1),(1,aa b_2)] [] 1 ?_
 unfold EC at h
 refine ck 11 [2,3,14] [] [1,17] [] [.hp 1 0 [] 4 0 0,.hp 17 0 [] 4 0 0,aa a_1] [some ⟨0,4,[aa a_1]⟩,some ⟨0,4,[aa b_2]⟩] 81 (by kernel_rfl) ?_
 obtain⟨r3,hr3,h⟩:=bS h
 refine oq 97 (B r3) rfl (cP (zK hr3)) ?_
 refine cq 2 [17] [B (!r3)] 129 ?_
 obtain⟨y4,hy4,hy41,hy42⟩:=bJ h
 have j4:∀u4,y4=.inr u4→Run pZ 0 (oI (a_1,b_2) r) (.code (cR (cL (cR vp)))::.code (cR (cR vp))::[]) (sT 78 [(2,.hp 1 0 [] 4 0 0),(3,.hp 2 0 [] 4 0 0),(21,B u4)] [⟨0,4,[aa a_1]⟩,⟨0,4,[aa b_2]⟩] 3):=by
  intro u4 hu
  replace h:=hy42 u4 hu
  refine sq h ?_ ?_<;>intro h
  ·refine cq 5 [4,5] [B false,B false] 35 ?_
   obtain rfl:=sI h
   exact rP [B false,B false]
  ·refine aq 1 ?_
   refine aq 1 ?_
   refine eX [0,0,2,7,15,31] rfl (by decide +kernel) ?_
   refine dq [2] [] (aa b_2) rfl (cZ rfl rfl) ?_
   refine dq [1] [] (aa a_1) rfl (cZ rfl rfl) ?_
   obtain⟨r5,hr5,h⟩:=bS h
   refine dq [] [] (.hs 35 0 [] 1 0 (r5.map str).length) rfl (ao rfl rfl (aB rfl rfl rfl (aM (bd rfl) (cd (b7 rfl (FG rfl)) bb)) (show lY.F [aa a_1,.isl true []]=some _ from qb hr5) (.inr rfl) aY rfl rfl rfl)) ?_ (dj rfl rfl rfl rfl (aM (bd rfl) (cd (b7 rfl (FG rfl)) bb)) (show lY.F [aa a_1,.isl true []]=some _ from qb hr5) (.inr rfl) rfl)
   obtain⟨r6,hr6,h⟩:=bS h
   refine dq [35] [35] (.hs 51 0 [] 1 0 (r6.map str).length) rfl (ao rfl rfl (aB rfl rfl rfl (aM (bd rfl) (cd (b7 rfl (dI (path:=[]) rfl rfl al rfl)) bb)) (qb hr6) (.inr rfl) (cf rfl rfl rfl eg aY) rfl rfl rfl)) ?_ (dj rfl rfl rfl rfl (aM (bd rfl) (cd (b7 rfl (dI (path:=[]) rfl rfl al rfl)) bb)) (qb hr6) (.inr rfl) rfl)
   obtain⟨r7,hr7,h⟩:=bS h
   refine dq [51] [51] (.hs 67 0 [] 1 0 (r7.map str).length) rfl (ao rfl rfl (aB rfl rfl rfl (cd (b7 rfl (dI (path:=[]) rfl rfl al rfl)) bb) (DR hr7) (.inr rfl) (cf rfl rfl rfl eg aY) rfl rfl rfl)) ?_ (dj rfl rfl rfl rfl (cd (b7 rfl (dI (path:=[]) rfl rfl al rfl)) bb) (DR hr7) (.inr rfl) rfl)
   refine dk 1 [6] [.hs 67 0 [] 1 0 (r7.map str).length] ?_
   refine de 99 rfl rfl ?_
   refine cq 4 [27] [.hs 67 0 [] 1 0 (r7.map str).length] 115 ?_
   refine oq 131 (I (len r7)) rfl (dD rfl rfl rfl (hI (f:=str) (xs:=r7) rfl rfl)) ?_
   refine cq 2 [29] [B (decide ((len r7)>10))] 147 ?_
   refine sq h ?_ ?_<;>intro h
   ·refine cq 5 [4,5] [B false,B false] 179 ?_
    obtain rfl:=sI h
    exact rP [B false,B false]
   ·refine aq 1 ?_
    refine aq 1 ?_
    refine eX [0,0,0,6,15,31] rfl (by decide +kernel) ?_
    refine dq [2] [] (aa b_2) rfl (cZ rfl rfl) ?_
    refine dq [1] [] (aa a_1) rfl (cZ rfl rfl) ?_
    refine dq [] [] (.hs 179 0 [] 1 0 1) rfl (aZ rfl (d8 (f:=I) (xs:=[]) (z:=I (0)) (es:=[I (0)]) (ws:=[I (0)]) rfl rfl rfl (by decide) rfl (ba rfl) rfl)) ?_
    obtain⟨r8,hr8,h⟩:=bS h
    refine dq [179] [179] (.hs 195 0 [] 1 0 (r8.map I).length) rfl (ao rfl rfl (aB rfl rfl rfl (aM (bd rfl) (cd (b7 rfl (dI (path:=[]) (m:=1) (es2:=[I (0)]) rfl rfl al rfl)) bb)) (oL hr8) (.inr rfl) (cf rfl rfl rfl eg aY) rfl rfl rfl)) ?_ (dj rfl rfl rfl rfl (aM (bd rfl) (cd (b7 rfl (dI (path:=[]) (m:=1) (es2:=[I (0)]) rfl rfl al rfl)) bb)) (oL hr8) (.inr rfl) rfl)
    obtain⟨r9,hr9,h⟩:=bS h
    refine dq [195] [195] (.hs 211 0 [] 1 0 (r9.map I).length) rfl (ao rfl rfl (aB rfl rfl rfl (aM (bd rfl) (cd (b7 rfl (dI (path:=[]) rfl rfl al rfl)) bb)) (oL hr9) (.inr rfl) (cf rfl rfl rfl eg aY) rfl rfl rfl)) ?_ (dj rfl rfl rfl rfl (aM (bd rfl) (cd (b7 rfl (dI (path:=[]) rfl rfl al rfl)) bb)) (oL hr9) (.inr rfl) rfl)
    refine dk 1 [7] [.hs 211 0 [] 1 0 (r9.map I).length] ?_
    refine de 243 rfl rfl ?_
    refine cq 4 [35] [.hs 67 0 [] 1 0 (r7.map str).length] 259 ?_
    refine oq 275 (I (len r7)) rfl (dD rfl rfl rfl (hI (f:=str) (xs:=r7) rfl rfl)) ?_
    obtain⟨q10,hq10,h⟩:=bS h
    refine oq 291 (I q10) rfl (nD rfl rfl (Iq hq10)) ?_
    refine cq 3 [38] [I (0)] 307 ?_
    obtain⟨y24,hy24,hy241,hy242⟩:=bJ h
    refine dT rfl ?_
    refine rf [2,3,6,7,37,38] [1,2,67,211] (HN a_1 b_2 q10 r7 r9 rfl 0 _ hy24 (fun r' e st hq=>by rw[hy241 r' e] at hq;exact hq) fun u24 hu=>?_)
    replace h:=hy242 u24 hu
    refine cq 5 [4,5] [B true,B true] 33 ?_
    obtain rfl:=sI h
    exact rP [B true,B true]
 have r4:∀r',y4=.inl r'→∀st,oI (a_1,b_2) r' st→(oI (a_1,b_2) r) st:=fun r' e st hq=>by rw[hy41 r' e] at hq;exact hq
 replace h:=hy4
 refine sp 17 h rfl ?_ ?_<;>intro h
 ·refine cq 5 [21] [B true] 193 ?_
  exact rf [2,3,21] [1,17] (j4 _ (an h) :)
 ·refine cq 1 [18] [aa b_2] 145 ?_
  obtain⟨r25,hr25,h⟩:=bS h
  refine oy 161 (B r25) rfl (cP (zK hr25)) ?_
  refine cq 3 [21] [B (!r25)] 193 ?_
  exact rf [2,3,21] [1,17] (j4 _ (an h) :)
theorem Lh {G:dN}:dS G 6 BE:=gT 2 0 (aV xB (aV E1 (aV E5 (aV xK (aV E2 cJ))))) d3 Tryd.func6 (fun a r h=>NK a.1 a.2 r h)
def nN:(Int×Int×Int)→List V:=cA I (cA I (oA I))
def nO (r:Bool):V×List V:=(B r,[])
noncomputable def lD :=bI [false,false,false] nN nO fun x=>iI x.1 x.2.1 x.2.2
theorem wV {x_1:Int}{a_2:Int}{b_3:Int}{r}(h:iI x_1 a_2 b_3=some r):lD.F (nN (x_1,a_2,b_3))=some (nO r):=bg (cr ey (cr ey (bl ey))) h
noncomputable def wX :=bc Tryd.f52
noncomputable def qI :=dZ []
def wW (x:Int×Int×Int)(r:Bool):St→Prop:=QF qI Tryd.f52 [false,false,false] (nN x) (nO r)
theorem Du (x_1:Int)(a_2:Int)(b_3:Int)(r:Bool)(h:iI x_1 a_2 b_3=some r):ct qI Tryd.f52 [false,false,false] 0 (nN (x_1,a_2,b_3)) (nO r):=by
 show Run _ _ (wW (x_1,a_2,b_3) r) [.code wX] _
 refine rI 15 [(0,I x_1),(1,I a_2),(2,I b_3)] [] 1 ?_
 unfold iI at h
 refine cq 10 [10] [B (decide (x_1≥a_2))] 81 ?_
 obtain⟨u4,hu4,h⟩:=lJ h
 have j4:Run qI 0 (wW (x_1,a_2,b_3) r) (.code (cR (cR wX))::[]) (sT 15 [(6,B u4)] [] 1):=by
  obtain rfl:=sI h
  exact rP [B u4]
 replace h:=hu4
 clear hu4
 refine sp 10 h rfl ?_ ?_<;>intro h
 ·refine cq 6 [6] [B (decide (x_1≤b_3))] 161 ?_
  subst h
  exact rf [6] [] (j4 :)
 ·refine cq 6 [6] [B false] 161 ?_
  subst h
  exact rf [6] [] (j4 :)
theorem rF {G:dN}:dS G 52 lD:=gT 3 0 cJ d3 Tryd.func52 (fun a r h=>Du a.1 a.2.1 a.2.2 r h)
def zI:Int→List V:=oA (V.int .u8)
def zJ (r:Bool):V×List V:=(B r,[])
noncomputable def xA :=bI [false] zI zJ fun x=>ui x
theorem PD {b_1:Int}{r}(h:ui b_1=some r):xA.F (zI b_1)=some (zJ r):=bg (bl (jF (k:=.u8))) h
noncomputable def uk :=bc Tryd.f61
noncomputable def qZ :=dZ []
def uj (x:Int)(r:Bool):St→Prop:=QF qZ Tryd.f61 [false] (zI x) (zJ r)
theorem LR (b_1:Int)(r:Bool)(h:ui b_1=some r):ct qZ Tryd.f61 [false] 0 (zI b_1) (zJ r):=by
 show Run _ _ (uj b_1 r) [.code uk] _
 refine rI 17 [(0,.int .u8 b_1)] [] 1 ?_
 unfold ui at h
 refine cq 9 [5] [B (decide (b_1≥97))] 65 ?_
 obtain⟨u2,hu2,h⟩:=lJ h
 have j2:Run qZ 0 (uj b_1 r) (.code (cR (cR uk))::[]) (sT 17 [(2,B u2)] [] 1):=by
  obtain rfl:=sI h
  exact rP [B u2]
 replace h:=hu2
 clear hu2
 refine sp 5 h rfl ?_ ?_<;>intro h
 ·refine cq 4 [9] [B (decide (b_1≤122))] 129 ?_
  obtain⟨u3,hu3,h⟩:=lJ h
  have j3:Run qZ 0 (uj b_1 r) (.code (cR (cR uk))::[]) (sT 17 [(2,B u3)] [] 1):=by
   subst h
   exact rf [2] [] (j2 :)
  replace h:=hu3
  clear hu3
  refine sp 9 h rfl ?_ ?_<;>intro h
  ·refine cq 9 [2] [B true] 257 ?_
   subst h
   exact rf [2] [] (j3 :)
  ·refine cq 3 [12] [B (decide (b_1≥48))] 177 ?_
   obtain⟨u4,hu4,h⟩:=lJ h
   have j4:Run qZ 0 (uj b_1 r) (.code (cR (cR uk))::[]) (sT 17 [(2,B u4)] [] 1):=by
    subst h
    exact rf [2] [] (j3 :)
   replace h:=hu4
   clear hu4
   refine sp 12 h rfl ?_ ?_<;>intro h
   ·refine cq 6 [2] [B (decide (b_1≤57))] 257 ?_
    subst h
    exact rf [2] [] (j4 :)
   ·refine cq 6 [2] [B false] 257 ?_
    subst h
    exact rf [2] [] (j4 :)
 ·refine cq 7 [9,12] [B false,B (decide (b_1≥48))] 177 ?_
  obtain⟨u5,hu5,h⟩:=lJ h
  have j5:Run qZ 0 (uj b_1 r) (.code (cR (cR uk))::[]) (sT 17 [(2,B u5)] [] 1):=by
   subst h
   exact rf [2] [] (j2 :)
  replace h:=hu5
  clear hu5
  refine sp 12 h rfl ?_ ?_<;>intro h
  ·refine cq 6 [2] [B (decide (b_1≤57))] 257 ?_
   subst h
   exact rf [2] [] (j5 :)
  ·refine cq 6 [2] [B false] 257 ?_
   subst h
   exact rf [2] [] (j5 :)
theorem JL {G:dN}:dS G 61 xA:=gT 1 0 cJ d3 Tryd.func61 (fun a r h=>LR a r h)
def zA:ac→List V:=oA str
def zB (r:Bool):V×List V:=(B r,[])
noncomputable def rV :=bI [false] zA zB fun x=>tX x
theorem EQ {s_1:ac}{r}(h:tX s_1=some r):rV.F (zA s_1)=some (zB r):=bg (bl cz) h
noncomputable def nQ :=bc Tryd.f51
noncomputable abbrev lV :=cR (cR (cR (cR nQ)))
noncomputable abbrev lW :=cR (cL (cR (cL (cR (cR (cR nQ))))))
noncomputable def iZ :=dZ [(52,lD),(61,xA)]
def gV (x:ac)(r:Bool):St→Prop:=QF iZ Tryd.f51 [false] (zA x) (zB r)
theorem Gp (s_1:ac):eo iZ 0 (gV s_1) (cL (cL (cR (cL (cR (cR nQ)))))) 0 (qU s_1) (fun u=>(sT 40 [(0,str s_1)] [] 1)) fun x4=>(sT 40 [(0,str s_1),(3,I x4)] [] 1):=hZ (wi s_1) fun {Q K} hK self ih x4 y h hr hn=>by
 unfold lX at h
 refine cq 8 [21] [B (decide (x4<(len s_1)))] 65 ?_
 refine sq h ?_ ?_<;>intro h
 ·refine aq 1 ?_
  refine cq 6 [24,25] [str s_1,I x4] 97 ?_
  obtain⟨c5,hc5,h⟩:=bS h
  refine oq 113 (.int .u8 (c5.toNat:Int)) rfl (l6 rfl rfl (qh rfl rfl hc5)) ?_
  obtain⟨r6,hr6,h⟩:=bS h
  refine oq 129 (B r6) rfl (cP (PD hr6)) ?_
  refine cq 2 [28] [B (!r6)] 145 ?_
  refine sq h ?_ ?_<;>intro h
  ·refine cq 4 [2] [B false] 161 ?_
   exact bV rfl (hr _ (an h) _ (qp [B false]))
  ·refine aq 1 ?_
   refine cq 6 [3] [I (aG (x4+1))] 193 ?_
   refine fx ?_
   exact rf [0,3] [] (ih _ _ h hr hn :)
 ·refine aq 1 ?_
  exact rf [0] [] (hn _ (an h) :) (hk:=hK)
theorem LL (s_1:ac)(r:Bool)(h:tX s_1=some r):ct iZ Tryd.f51 [false] 0 (zA s_1) (zB r):=by
 show Run _ _ (gV s_1 r) [.code nQ] _
 refine rI 40 [(0,str s_1)] [] 1 ?_
 unfold tX at h
 refine cq 9 [5] [I (len s_1)] 49 ?_
 obtain⟨r2,hr2,h⟩:=bS h
 refine oq 65 (B r2) rfl (cP (wV hr2)) ?_
 refine cq 2 [8] [B (!r2)] 97 ?_
 obtain⟨y3,hy3,hy31,hy32⟩:=bJ h
 have j3:∀u3,y3=.inr u3→Run iZ 0 (gV s_1 r) (.code (cR (cL (cR nQ)))::.code (cR (cR nQ))::[]) (sT 40 [(0,str s_1),(17,B u3)] [] 1):=by
  intro u3 hu
  replace h:=hy32 u3 hu
  refine sq h ?_ ?_<;>intro h
  ·refine cq 4 [2] [B false] 17 ?_
   obtain rfl:=sI h
   exact rP [B false]
  ·refine aq 1 ?_
   refine cq 6 [3] [I (0)] 17 ?_
   obtain⟨y7,hy7,hy71,hy72⟩:=bJ h
   refine dT rfl ?_
   refine rf [0,3] [] (Gp s_1 rfl 0 _ hy7 (fun r' e st hq=>by rw[hy71 r' e] at hq;exact hq) fun u7 hu=>?_)
   replace h:=hy72 u7 hu
   refine cq 12 [29,30] [str s_1,B (s_1==([116,114,117,101]:ac))] 49 ?_
   obtain⟨u8,hu8,h⟩:=lJ h
   have j8:Run iZ 0 (gV s_1 r) (.code lW::.blk 2::.code lV::[]) (sT 40 [(30,B u8)] [] 1):=by
    refine sq h ?_ ?_<;>intro h
    ·refine cq 4 [2] [B false] 17 ?_
     obtain rfl:=sI h
     exact rP [B false]
    ·refine aq 1 ?_
     refine cq 5 [2] [B true] 17 ?_
     obtain rfl:=sI h
     exact rP [B true]
   replace h:=hu8
   clear hu8
   refine rD h rfl rfl ?_ ?_<;>intro h
   ·refine aq 1 ?_
    subst h
    exact rf [30] [] (j8 :)
   ·refine cq 5 [30] [B (s_1==([102,114,111,109]:ac))] 81 ?_
    obtain⟨u9,hu9,h⟩:=lJ h
    have j9:Run iZ 0 (gV s_1 r) (.code lW::.blk 2::.code lV::[]) (sT 40 [(30,B u9)] [] 1):=by
     subst h
     exact rf [30] [] (j8 :)
    replace h:=hu9
    clear hu9
    refine rD h rfl rfl ?_ ?_<;>intro h
    ·refine aq 1 ?_
     subst h
     exact rf [30] [] (j9 :)
    ·refine cq 5 [30] [B (s_1==([110,111,116]:ac))] 113 ?_
     obtain⟨u10,hu10,h⟩:=lJ h
     have j10:Run iZ 0 (gV s_1 r) (.code lW::.blk 2::.code lV::[]) (sT 40 [(30,B u10)] [] 1):=by
      subst h
      exact rf [30] [] (j9 :)
     replace h:=hu10
     clear hu10
     refine rD h rfl rfl ?_ ?_<;>intro h
     ·refine aq 1 ?_
      subst h
      exact rf [30] [] (j10 :)
     ·refine cq 5 [30] [B (s_1==([97,110,100]:ac))] 145 ?_
      obtain⟨u11,hu11,h⟩:=lJ h
      have j11:Run iZ 0 (gV s_1 r) (.code lW::.blk 2::.code lV::[]) (sT 40 [(30,B u11)] [] 1):=by
       subst h
       exact rf [30] [] (j10 :)
      replace h:=hu11
      clear hu11
      refine rD h rfl rfl ?_ ?_<;>intro h
      ·refine aq 1 ?_
       subst h
       exact rf [30] [] (j11 :)
      ·refine cq 5 [30] [B (s_1==([111,114]:ac))] 177 ?_
       obtain⟨u12,hu12,h⟩:=lJ h
       have j12:Run iZ 0 (gV s_1 r) (.code lW::.blk 2::.code lV::[]) (sT 40 [(30,B u12)] [] 1):=by
        subst h
        exact rf [30] [] (j11 :)
       replace h:=hu12
       clear hu12
       refine rD h rfl rfl ?_ ?_<;>intro h
       ·refine aq 1 ?_
        subst h
        exact rf [30] [] (j12 :)
       ·refine cq 5 [30] [B (s_1==([98,111,116,104]:ac))] 209 ?_
        obtain⟨u13,hu13,h⟩:=lJ h
        have j13:Run iZ 0 (gV s_1 r) (.code lW::.blk 2::.code lV::[]) (sT 40 [(30,B u13)] [] 1):=by
         subst h
         exact rf [30] [] (j12 :)
        replace h:=hu13
        clear hu13
        refine rD h rfl rfl ?_ ?_<;>intro h
        ·refine aq 1 ?_
         subst h
         exact rf [30] [] (j13 :)
        ·refine cq 5 [30] [B (s_1==([101,105,116,104,101,114]:ac))] 241 ?_
         obtain⟨u14,hu14,h⟩:=lJ h
         have j14:Run iZ 0 (gV s_1 r) (.code lW::.blk 2::.code lV::[]) (sT 40 [(30,B u14)] [] 1):=by
          subst h
          exact rf [30] [] (j13 :)
         replace h:=hu14
         clear hu14
         refine rD h rfl rfl ?_ ?_<;>intro h
         ·refine aq 1 ?_
          subst h
          exact rf [30] [] (j14 :)
         ·refine cq 5 [30] [B (s_1==([105,116]:ac))] 273 ?_
          obtain⟨u15,hu15,h⟩:=lJ h
          have j15:Run iZ 0 (gV s_1 r) (.code lW::.blk 2::.code lV::[]) (sT 40 [(30,B u15)] [] 1):=by
           subst h
           exact rf [30] [] (j14 :)
          replace h:=hu15
          clear hu15
          refine rD h rfl rfl ?_ ?_<;>intro h
          ·refine aq 1 ?_
           subst h
           exact rf [30] [] (j15 :)
          ·refine cq 4 [30] [B (s_1==([105,110]:ac))] 305 ?_
           subst h
           exact rf [30] [] (j15 :)
 have r3:∀r',y3=.inl r'→∀st,gV s_1 r' st→(gV s_1 r) st:=fun r' e st hq=>by rw[hy31 r' e] at hq;exact hq
 replace h:=hy3
 refine sp 8 h rfl ?_ ?_<;>intro h
 ·refine cq 10 [17] [B true] 241 ?_
  exact rf [0,17] [] (j3 _ (an h) :)
 ·refine cq 1 [9] [str s_1] 113 ?_
  obtain⟨c16,hc16,h⟩:=bS h
  refine oy 129 (.int .u8 (c16.toNat:Int)) rfl (l6 rfl rfl (qh rfl rfl hc16)) ?_
  refine cq 3 [13] [B (decide ((c16.toNat:Int)<97))] 177 ?_
  obtain⟨y17,hy17,hy171,hy172⟩:=bL h
  have j17:∀u17,y17=.inr u17→Run iZ 0 (gV s_1 r) (.code (cR (cL (cR nQ)))::.code (cR (cR nQ))::[]) (sT 40 [(0,str s_1),(17,B u17)] [] 1):=by
   intro u17 hu
   replace h:=hy172 u17 hu
   exact rf [0,17] [] (j3 _ (an h) :)
  have r17:∀r',y17=.inl r'→∀st,gV s_1 r' st→(gV s_1 r) st:=fun r' e st hq=>r3 r' (hy171 r' e) st hq
  replace h:=hy17
  refine sp 13 h rfl ?_ ?_<;>intro h
  ·refine cq 5 [17] [B true] 241 ?_
   exact rf [0,17] [] (j17 _ (an h) :)
  ·refine cq 1 [14] [str s_1] 193 ?_
   obtain⟨c18,hc18,h⟩:=bS h
   refine oy 209 (.int .u8 (c18.toNat:Int)) rfl (l6 rfl rfl (qh rfl rfl hc18)) ?_
   refine cq 3 [17] [B (decide ((c18.toNat:Int)>122))] 241 ?_
   exact rf [0,17] [] (j17 _ (an h) :)
theorem CB {G:dN}:dS G 51 rV:=gT 1 0 (aV rF (aV JL cJ)) d3 Tryd.func51 (fun a r h=>LL a r h)
def za:Int→List V:=oA I
def zb (r:Bool):V×List V:=(B r,[])
noncomputable def rN :=bI [false] za zb fun x=>rM x
theorem Jp {gn:Int}{r}(h:rM gn=some r):rN.F (za gn)=some (zb r):=bg (bl ey) h
noncomputable def Pv :=bc Tryd.f28
noncomputable def Jo :=dZ [(52,lD)]
def Pu (x:Int)(r:Bool):St→Prop:=QF Jo Tryd.f28 [false] (za x) (zb r)
theorem Ly (gn:Int)(r:Bool)(h:rM gn=some r):ct Jo Tryd.f28 [false] 0 (za gn) (zb r):=by
 show Run _ _ (Pu gn r) [.code Pv] _
 refine rI 5 [(0,I gn)] [] 1 ?_
 unfold rM at h
 refine cq 7 [3] [I gn] 33 ?_
 obtain⟨r2,hr2,h⟩:=bS h
 refine oq 49 (B r2) rfl (cP (wV hr2)) ?_
 refine cq 2 [2] [B r2] 65 ?_
 obtain rfl:=sI h
 exact rP [B r2]
theorem Cx {G:dN}:dS G 28 rN:=gT 1 0 (aV rF cJ) d3 Tryd.func28 (fun a r h=>Ly a r h)
def zj:Condition→List V:=oA aa
def zk (r:Bool):V×List V:=(B r,[])
noncomputable def xq :=bI [false] zj zk fun x=>xp x
theorem Pz {c_1:Condition}{r}(h:xp c_1=some r):xq.F (zj c_1)=some (zk r):=bg (bl aN) h
noncomputable def me :=bc Tryd.f60
noncomputable abbrev iY :=cR (cR (cR me))
noncomputable abbrev GT :=cR (cL (cR (cR (cR (cL (cR (cL (cR (cR me)))))))))
noncomputable abbrev GU :=cR (cL (cR (cR (cR (cR (cR (cL (cR (cL (cR (cR me)))))))))))
noncomputable abbrev GV :=cR (cL (cR (cR (cR (cR (cR (cR (cR (cL (cR (cL (cR (cR me)))))))))))))
noncomputable abbrev GW :=cR (cL (cR (cR (cR (cR (cR (cR (cR (cR (cR (cL (cR (cL (cR (cR me)))))))))))))))
noncomputable def iX :=dZ [(51,rV),(28,rN)]
def ga (x:Condition)(r:Bool):St→Prop:=QF iX Tryd.f60 [false] (zj x) (zk r)
theorem LD (c_1:Condition)(r:Bool)(h:xp c_1=some r):ct iX Tryd.f60 [false] 0 (zj c_1) (zk r):=by
 show Run _ _ (ga c_1 r) [.code me] _
 refine rI 80 [(0,aa c_1)] [] 1 ?_
 unfold xp at h
 refine ck 9 [1,5] [] [1] [] [.hp 1 0 [] 4 0 0,.isl false (c_1.Parts.map aF)] [some ⟨0,4,[aa c_1]⟩] 65 (by kernel_rfl) ?_
 refine oq 81 (I (len c_1.Parts)) rfl (dD rfl rfl rfl (fX rfl)) ?_
 refine cq 14 [3,8,9] [I (len c_1.Parts),I c_1.Op,B (c_1.Op==1)] 161 ?_
 refine sq h ?_ ?_<;>intro h
 ·refine cq 5 [13] [B ((len c_1.Parts)==0)] 209 ?_
  obtain⟨u2,hu2,h⟩:=lJ h
  have j2:Run iX 0 (ga c_1 r) (.code (cR (cL (cR (cL (cR (cL (cR (cR me))))))))::.blk 0::.code iY::[]) (sT 80 [(2,B u2)] [] 1):=by
   obtain rfl:=sI h
   exact rP [B u2]
  replace h:=hu2
  clear hu2
  refine sp 13 h rfl ?_ ?_<;>intro h
  ·refine cq 5 [18] [B (c_1.Name==([]:ac))] 289 ?_
   obtain⟨u3,hu3,h⟩:=lJ h
   have j3:Run iX 0 (ga c_1 r) (.code (cR (cL (cR (cL (cR (cL (cR (cR me))))))))::.blk 0::.code iY::[]) (sT 80 [(2,B u3)] [] 1):=by
    subst h
    exact rf [2] [] (j2 :)
   replace h:=hu3
   clear hu3
   refine sp 18 h rfl ?_ ?_<;>intro h
   ·refine cq 6 [2] [B (c_1.Day==0)] 369 ?_
    subst h
    exact rf [2] [] (j3 :)
   ·refine cq 6 [2] [B false] 369 ?_
    subst h
    exact rf [2] [] (j3 :)
  ·refine cq 11 [2] [B false] 369 ?_
   subst h
   exact rf [2] [] (j2 :)
 ·refine cq 5 [23] [B (c_1.Op==2)] 193 ?_
  refine sq h ?_ ?_<;>intro h
  ·refine cq 5 [27] [B ((len c_1.Parts)==0)] 241 ?_
   obtain⟨y4,hy4,hy41,hy42⟩:=bJ h
   have j4:∀u4,y4=.inr u4→Run iX 0 (ga c_1 r) (.code GT::.blk 0::.code iY::[]) (sT 80 [(2,B u4)] [] 1):=by
    intro u4 hu
    replace h:=hy42 u4 hu
    obtain rfl:=sI h
    exact rP [B u4]
   have r4:∀r',y4=.inl r'→∀st,ga c_1 r' st→(ga c_1 r) st:=fun r' e st hq=>by rw[hy41 r' e] at hq;exact hq
   replace h:=hy4
   refine sp 27 h rfl ?_ ?_<;>intro h
   ·refine cq 2 [29] [str c_1.Name] 273 ?_
    obtain⟨r5,hr5,h⟩:=bS h
    refine oy 289 (B r5) rfl (cP (EQ hr5)) ?_
    refine cq 2 [32] [B r5] 321 ?_
    obtain⟨u6,hu6,h⟩:=lJ h
    have j6:Run iX 0 (ga c_1 r) (.code GT::.blk 0::.code iY::[]) (sT 80 [(2,B u6)] [] 1):=by
     exact rf [2] [] (j4 _ (an h) :)
    replace h:=hu6
    clear hu6
    refine sp 32 h rfl ?_ ?_<;>intro h
    ·refine cq 6 [2] [B (c_1.Day==0)] 401 ?_
     subst h
     exact rf [2] [] (j6 :)
    ·refine cq 6 [2] [B false] 401 ?_
     subst h
     exact rf [2] [] (j6 :)
   ·refine cq 11 [2] [B false] 401 ?_
    exact rf [2] [] (j4 _ (an h) :)
  ·refine cq 5 [37] [B (c_1.Op==3)] 225 ?_
   refine sq h ?_ ?_<;>intro h
   ·refine cq 5 [41] [B ((len c_1.Parts)==0)] 273 ?_
    obtain⟨y7,hy7,hy71,hy72⟩:=bJ h
    have j7:∀u7,y7=.inr u7→Run iX 0 (ga c_1 r) (.code GU::.blk 0::.code iY::[]) (sT 80 [(2,B u7)] [] 1):=by
     intro u7 hu
     replace h:=hy72 u7 hu
     obtain rfl:=sI h
     exact rP [B u7]
    have r7:∀r',y7=.inl r'→∀st,ga c_1 r' st→(ga c_1 r) st:=fun r' e st hq=>by rw[hy71 r' e] at hq;exact hq
    replace h:=hy7
    refine sp 41 h rfl ?_ ?_<;>intro h
    ·refine cq 5 [46] [B (c_1.Name==([]:ac))] 353 ?_
     obtain⟨y8,hy8,hy81,hy82⟩:=bL h
     have j8:∀u8,y8=.inr u8→Run iX 0 (ga c_1 r) (.code GU::.blk 0::.code iY::[]) (sT 80 [(2,B u8)] [] 1):=by
      intro u8 hu
      replace h:=hy82 u8 hu
      exact rf [2] [] (j7 _ (an h) :)
     have r8:∀r',y8=.inl r'→∀st,ga c_1 r' st→(ga c_1 r) st:=fun r' e st hq=>r7 r' (hy81 r' e) st hq
     replace h:=hy8
     refine sp 46 h rfl ?_ ?_<;>intro h
     ·refine cq 2 [48] [I c_1.Day] 385 ?_
      obtain⟨r9,hr9,h⟩:=bS h
      refine oy 401 (B r9) rfl (cP (Jp hr9)) ?_
      refine cq 3 [2] [B r9] 433 ?_
      exact rf [2] [] (j8 _ (an h) :)
     ·refine cq 6 [2] [B false] 433 ?_
      exact rf [2] [] (j8 _ (an h) :)
    ·refine cq 11 [2] [B false] 433 ?_
     exact rf [2] [] (j7 _ (an h) :)
   ·refine cq 5 [51] [B (c_1.Op==4)] 257 ?_
    refine sq h ?_ ?_<;>intro h
    ·refine cq 5 [55] [B ((len c_1.Parts)==1)] 305 ?_
     obtain⟨u10,hu10,h⟩:=lJ h
     have j10:Run iX 0 (ga c_1 r) (.code GV::.blk 0::.code iY::[]) (sT 80 [(2,B u10)] [] 1):=by
      obtain rfl:=sI h
      exact rP [B u10]
     replace h:=hu10
     clear hu10
     refine sp 55 h rfl ?_ ?_<;>intro h
     ·refine cq 5 [60] [B (c_1.Name==([]:ac))] 385 ?_
      obtain⟨u11,hu11,h⟩:=lJ h
      have j11:Run iX 0 (ga c_1 r) (.code GV::.blk 0::.code iY::[]) (sT 80 [(2,B u11)] [] 1):=by
       subst h
       exact rf [2] [] (j10 :)
      replace h:=hu11
      clear hu11
      refine sp 60 h rfl ?_ ?_<;>intro h
      ·refine cq 6 [2] [B (c_1.Day==0)] 465 ?_
       subst h
       exact rf [2] [] (j11 :)
      ·refine cq 6 [2] [B false] 465 ?_
       subst h
       exact rf [2] [] (j11 :)
     ·refine cq 11 [2] [B false] 465 ?_
      subst h
      exact rf [2] [] (j10 :)
    ·refine cq 6 [65] [B (c_1.Op==5)] 289 ?_
     obtain⟨u12,hu12,h⟩:=lJ h
     have j12:Run iX 0 (ga c_1 r) (.code (cR (cR (cR (cR (cR (cR (cR (cR (cR (cL (cR (cL (cR (cR me))))))))))))))::.blk 0::.code iY::[]) (sT 80 [(1,.hp 1 0 [] 4 0 0),(3,I (len c_1.Parts)),(65,B u12)] [⟨0,4,[aa c_1]⟩] 2):=by
      refine sq h ?_ ?_<;>intro h
      ·refine cq 5 [70] [B ((len c_1.Parts)==2)] 50 ?_
       obtain⟨u13,hu13,h⟩:=lJ h
       have j13:Run iX 0 (ga c_1 r) (.code GW::.blk 0::.code iY::[]) (sT 80 [(2,B u13)] [] 1):=by
        obtain rfl:=sI h
        exact rP [B u13]
       replace h:=hu13
       clear hu13
       refine sp 70 h rfl ?_ ?_<;>intro h
       ·refine cq 5 [75] [B (c_1.Name==([]:ac))] 130 ?_
        obtain⟨u14,hu14,h⟩:=lJ h
        have j14:Run iX 0 (ga c_1 r) (.code GW::.blk 0::.code iY::[]) (sT 80 [(2,B u14)] [] 1):=by
         subst h
         exact rf [2] [] (j13 :)
        replace h:=hu14
        clear hu14
        refine sp 75 h rfl ?_ ?_<;>intro h
        ·refine cq 6 [2] [B (c_1.Day==0)] 210 ?_
         subst h
         exact rf [2] [] (j14 :)
        ·refine cq 6 [2] [B false] 210 ?_
         subst h
         exact rf [2] [] (j14 :)
       ·refine cq 11 [2] [B false] 210 ?_
        subst h
        exact rf [2] [] (j13 :)
      ·refine aq 1 ?_
       refine cq 5 [2] [B false] 18 ?_
       obtain rfl:=sI h
       exact rP [B false]
     replace h:=hu12
     clear hu12
     refine rD h rfl rfl ?_ ?_<;>intro h
     ·refine aq 1 ?_
      subst h
      exact rf [1,3,65] [1] (j12 :)
     ·refine cq 4 [65] [B (c_1.Op==6)] 321 ?_
      subst h
      exact rf [1,3,65] [1] (j12 :)
theorem Jx {G:dN}:dS G 60 xq:=gT 1 0 (aV CB (aV Cx cJ)) d3 Tryd.func60 (fun a r h=>LD a r h)
def tM:Condition→List V:=oA aa
def tN (r:Bool):V×List V:=(B r,[])
noncomputable def tP (bE:Condition→Option Bool):Ent:=bI [false] tM tN bE
theorem GX (bE:Condition→Option Bool){x}{r}(h:bE x=some r):(tP bE).F (tM x)=some (tN r):=bg (bl aN) h
noncomputable def xr :=tP (aC pn)
theorem PA {c_1:Condition}{r}(h:BG c_1=some r):xr.F (tM c_1)=some (tN r):=GX (aC pn) h
noncomputable def Jz :=bc Tryd.f44
noncomputable def EM (bE:Condition→Option Bool):Env:=dZ [(60,xq),(44,(tP bE))]
def Jy (bE:Condition→Option Bool)(x:Condition)(r:Bool):St→Prop:=QF (EM bE) Tryd.f44 [false] (tM x) (tN r)
theorem Gk (bE:Condition→Option Bool)(c_1:Condition):eo (EM bE) 0 (Jy bE c_1) (cL (cL (cR (cL (cR (cR Jz)))))) 0 (o8 bE c_1) (fun u=>(sT 21 [] [] 1)) fun x3=>(sT 21 [(1,.hp 1 0 [] 4 0 0),(3,I x3)] [⟨0,4,[aa c_1]⟩] 2):=hZ (wd bE c_1) fun {Q K} hK self ih x3 y h hr hn=>by
 unfold kf at h
 refine cq 6 [7,9] [I x3,.isl false (c_1.Parts.map aF)] 50 ?_
 refine oq 66 (I (len c_1.Parts)) rfl (dD rfl rfl rfl (fX rfl)) ?_
 refine cq 2 [11] [B (decide (x3<(len c_1.Parts)))] 82 ?_
 refine sq h ?_ ?_<;>intro h
 ·refine aq 1 ?_
  refine cq 7 [15,16] [.isl false (c_1.Parts.map aF),I x3] 130 ?_
  obtain⟨e4,he4,h⟩:=bS h
  refine oq 146 (.iptr (aa e4) 0) rfl (aJ rfl rfl rfl (dV rfl rfl (bo e4) rfl he4)) ?_
  refine cq 1 [18] [aa e4] 162 ?_
  obtain⟨r5,hr5,h⟩:=bS h
  refine oq 178 (B r5) rfl (ao rfl rfl (aB rfl rfl rfl (aM (bd rfl) bb) (GX bE hr5) (.inr rfl) aY rfl rfl rfl)) ?_
  refine cq 2 [20] [B (!r5)] 194 ?_
  refine sq h ?_ ?_<;>intro h
  ·refine cq 4 [2] [B false] 210 ?_
   exact bV rfl (hr _ (an h) _ (qp [B false]))
  ·refine aq 1 ?_
   refine cq 6 [3] [I (aG (x3+1))] 242 ?_
   refine fx ?_
   exact rf [1,3] [1] (ih _ _ h hr hn :)
 ·refine aq 1 ?_
  exact rf [] [] (hn _ (an h) :) (hk:=hK)
theorem LF (bE:Condition→Option Bool)(c_1:Condition)(r:Bool)(h:qR bE c_1=some r):ct (EM bE) Tryd.f44 [false] 0 (tM c_1) (tN r):=by
 show Run _ _ (Jy bE c_1 r) [.code Jz] _
 refine rI 21 [(0,aa c_1)] [] 1 ?_
 unfold qR at h
 refine ck 9 [1,4] [] [1] [] [.hp 1 0 [] 4 0 0,aa c_1] [some ⟨0,4,[aa c_1]⟩] 49 (by kernel_rfl) ?_
 obtain⟨r2,hr2,h⟩:=bS h
 refine oq 65 (B r2) rfl (cP (Pz hr2)) ?_
 refine cq 2 [6] [B (!r2)] 81 ?_
 refine sq h ?_ ?_<;>intro h
 ·refine cq 4 [2] [B false] 97 ?_
  obtain rfl:=sI h
  exact rP [B false]
 ·refine aq 1 ?_
  refine cq 6 [3] [I (0)] 97 ?_
  obtain⟨y6,hy6,hy61,hy62⟩:=bJ h
  refine dT rfl ?_
  refine rf [1,3] [1] (Gk bE c_1 rfl 0 _ hy6 (fun r' e st hq=>by rw[hy61 r' e] at hq;exact hq) fun u6 hu=>?_)
  replace h:=hy62 u6 hu
  refine cq 4 [2] [B true] 17 ?_
  obtain rfl:=sI h
  exact rP [B true]
theorem JA {G:dN}:dS G 44 xr:=gQ fun bE g_Ffbq=>gT 1 0 (aV Jx (aV g_Ffbq cJ)) d3 Tryd.func44 (fun a r h=>LF bE a r h)
def zl:Condition→List V:=oA aa
def zn (r:Bool):V×List V:=(B r,[])
noncomputable def rT :=bI [false] zl zn fun x=>rS x
theorem tQ {c_1:Condition}{r}(h:rS c_1=some r):rT.F (zl c_1)=some (zn r):=bg (bl aN) h
noncomputable def JB :=bc Tryd.f22
noncomputable def EN :=dZ [(44,xr),(36,rZ)]
def zm (x:Condition)(r:Bool):St→Prop:=QF EN Tryd.f22 [false] (zl x) (zn r)
theorem LG (c_1:Condition)(r:Bool)(h:rS c_1=some r):ct EN Tryd.f22 [false] 0 (zl c_1) (zn r):=by
 show Run _ _ (zm c_1 r) [.code JB] _
 refine rI 10 [(0,aa c_1)] [] 1 ?_
 unfold rS at h
 refine ck 8 [1,3] [] [1] [] [.hp 1 0 [] 4 0 0,aa c_1] [some ⟨0,4,[aa c_1]⟩] 49 (by kernel_rfl) ?_
 obtain⟨r2,hr2,h⟩:=bS h
 refine oq 65 (B r2) rfl (cP (PA hr2)) ?_
 refine cq 1 [5] [B r2] 81 ?_
 obtain⟨y3,hy3,hy31,hy32⟩:=bJ h
 have j3:∀u3,y3=.inr u3→Run EN 0 (zm c_1 r) (.code (cR (cR JB))::[]) (sT 10 [(2,B u3)] [] 1):=by
  intro u3 hu
  replace h:=hy32 u3 hu
  obtain rfl:=sI h
  exact rP [B u3]
 have r3:∀r',y3=.inl r'→∀st,zm c_1 r' st→(zm c_1 r) st:=fun r' e st hq=>by rw[hy31 r' e] at hq;exact hq
 replace h:=hy3
 refine sp 5 h rfl ?_ ?_<;>intro h
 ·refine cq 1 [6] [aa c_1] 97 ?_
  obtain⟨r4,hr4,h⟩:=bS h
  refine oy 113 (I r4) rfl (cP (JM hr4)) ?_
  refine cq 4 [2] [B (decide (r4≤15))] 161 ?_
  exact rf [2] [] (j3 _ (an h) :)
 ·refine cq 6 [2] [B false] 161 ?_
  exact rf [2] [] (j3 _ (an h) :)
theorem Cz {G:dN}:dS G 22 rT:=gT 1 0 (aV JA (aV CD cJ)) d3 Tryd.func22 (fun a r h=>LG a r h)
def zF:((List ac)×ac)→List V:=cA (tt 1 str) (oA str)
def zG (r:(List ac)):V×List V:=(.usl 1 (r.map str),[.dead])
noncomputable def pr :=bI [true,false] zF zG fun x=>rY x.1 x.2
theorem ET {l_8:List ac}{s_9:ac}{r}(h:rY l_8 s_9=some r):pr.F (zF (l_8,s_9))=some (zG r):=bg (cr (kY cz) (bl cz)) h
noncomputable def pq :=bc Tryd.f45
noncomputable def ug :=dZ []
def qX (x:(List ac)×ac)(r:(List ac)):St→Prop:=QF ug Tryd.f45 [true,false] (zF x) (zG r)
theorem Gs (l_8:List ac)(s_9:ac):eo ug 1 (qX (l_8,s_9)) (cL (cL (cL (cR (cR pq))))) 0 (qY l_8 s_9) (fun u=>(sO 45 [(0,.hs 2 0 [] 1 0 (u.2.2.map str).length),(1,str u.1),(5,I u.2.1)] [none,some ⟨0,1,u.2.2.map str⟩] 3)) fun x3=>(sO 45 [(0,.hs 2 0 [] 1 0 (l_8.map str).length),(1,str s_9),(5,I x3)] [none,some ⟨0,1,l_8.map str⟩] 3):=hZ (wm l_8 s_9) fun {Q K} hK self ih x3 y h hr hn=>by
 unfold km at h
 refine cq 5 [6,7] [I x3,.hs 2 0 [] 1 0 (l_8.map str).length] 35 ?_
 refine oq 51 (I (len l_8)) rfl (dD rfl rfl rfl (hI (f:=str) (xs:=l_8) rfl rfl)) ?_
 refine cq 2 [10] [B (decide (x3<(len l_8)))] 83 ?_
 obtain⟨y4,hy4,hy41,hy42⟩:=bL h
 have j4:∀u4,y4=.inr u4→Run ug 1 Q (.code (cR (cL (cL (cL (cL (cR (cR pq)))))))::.code (cR (cL (cL (cL (cR (cR pq))))))::.lp (cL (cL (cL (cR (cR pq)))))::.blk 0::K) (sO 45 [(0,.hs 2 0 [] 1 0 (l_8.map str).length),(1,str s_9),(5,I x3),(17,B u4)] [none,some ⟨0,1,l_8.map str⟩] 3):=by
  intro u4 hu
  replace h:=hy42 u4 hu
  refine sq h ?_ ?_<;>intro h
  ·refine aq 1 ?_
   refine cq 7 [5] [I (aG (x3+1))] 51 ?_
   refine fx ?_
   exact rg [0,1,5] [52,2] (ih _ _ h hr hn :)
  ·refine aq 1 ?_
   exact rg [0,1,5] [4,2] (hn _ (an h) :) (hk:=hK)
 have r4:∀r',y4=.inl r'→∀st,qX (l_8,s_9) r' st→Q st:=fun r' e st hq=>hr r' (hy41 r' e) st hq
 replace h:=hy4
 refine sp 10 h rfl ?_ ?_<;>intro h
 ·refine cq 2 [11,12] [.hs 2 0 [] 1 0 (l_8.map str).length,I x3] 115 ?_
  obtain⟨e5,he5,h⟩:=bS h
  refine oy 131 (.hp 2 0 [] 1 (0+Int.toNat x3) 0) rfl (aJ rfl rfl rfl (gB (f:=str) (xs:=l_8) rfl rfl rfl he5)) ?_
  refine oy 147 (str e5) rfl (cZ rfl (iE (path:=[]) rfl rfl rfl al (fD (f:=str) (xs:=l_8) he5) rfl rfl rfl)) ?_
  refine cq 4 [17] [B (Op.bytesLess e5 s_9)] 195 ?_
  exact rg [0,1,5,17] [196,2] (j4 _ (an h) :)
 ·refine cq 8 [17] [B false] 195 ?_
  exact rg [0,1,5,17] [196,2] (j4 _ (an h) :)
theorem LQ (l_8:List ac)(s_9:ac)(r:(List ac))(h:rY l_8 s_9=some r):ct ug Tryd.f45 [true,false] 1 (zF (l_8,s_9)) (zG r):=by
 show Run _ _ (qX (l_8,s_9) r) [.code pq] _
 refine rI 45 [(0,.hs 1 0 [] 1 0 (l_8.map str).length),(1,str s_9)] [(1,some ⟨0,1,l_8.map str⟩)] 2 ?_
 unfold rY at h
 refine cq 10 [5] [I (0)] 34 ?_
 obtain⟨y6,hy6,hy61,hy62⟩:=bJ h
 refine dT rfl ?_
 refine rg [0,1,5] [35,1] (Gs l_8 s_9 rfl 0 _ hy6 (fun r' e st hq=>by rw[hy61 r' e] at hq;exact hq) fun u6 hu=>?_)
 replace h:=hy62 u6 hu
 refine cq 5 [20,21] [I u6.2.1,.hs 2 0 [] 1 0 (u6.2.2.map str).length] 35 ?_
 refine oq 51 (I (len u6.2.2)) rfl (dD rfl rfl rfl (hI (f:=str) (xs:=u6.2.2) rfl rfl)) ?_
 refine cq 2 [24] [B (decide (u6.2.1<(len u6.2.2)))] 83 ?_
 obtain⟨y7,hy7,hy71,hy72⟩:=bJ h
 have j7:∀u7,y7=.inr u7→Run ug 1 (qX (l_8,s_9) r) (.code (cR (cL (cR (cR (cR pq)))))::.code (cR (cR (cR (cR pq))))::[]) (sO 45 [(0,.hs 2 0 [] 1 0 (u6.2.2.map str).length),(1,str u6.1),(5,I u6.2.1),(31,B u7)] [none,some ⟨0,1,u6.2.2.map str⟩] 3):=by
  intro u7 hu
  replace h:=hy72 u7 hu
  refine sq h ?_ ?_<;>intro h
  ·refine cq 5 [4] [.hs 2 0 [] 1 0 (u6.2.2.map str).length] 35 ?_
   obtain rfl:=sI h
   exact bV rfl ⟨_,fin (vs:=[.hs 2 0 [] 1 0 (u6.2.2.map str).length]) rfl (cF (gP rfl (cG rfl rfl)) cl) rfl (eV rfl (jV rfl) (eI d4)),mD dW⟩
  ·refine aq 1 ?_
   refine aq 1 ?_
   refine eX [0,0,0,6,15,0,32,127,0,0,768,2047,4095] rfl (by decide +kernel) ?_
   refine dq [] [] (.hs 3 0 [] 1 0 0) rfl (aZ rfl (d8 (f:=I) (xs:=[]) (z:=str ([])) (es:=[]) (ws:=[]) rfl rfl rfl (by decide) rfl (ba rfl) rfl)) ?_
   refine dk 2 [35,34] [I u6.2.1,.hs 2 0 [] 1 0 (u6.2.2.map str).length] ?_
   obtain⟨s8,hs8,h⟩:=bS h
   refine dq [2] [] (.hs 2 0 [] 1 (0+Int.toNat (0)) (Int.toNat u6.2.1 - Int.toNat (0))) rfl (gH rfl rfl rfl rfl (oh (f:=str) (xs:=u6.2.2) rfl rfl rfl rfl rfl hs8)) ?_
   obtain⟨p9,hp9,h⟩:=bS h
   obtain⟨a10,ha10,h⟩:=bS h
   refine dq [3,2] [3] (.hs 67 0 [] 1 0 (a10.map str).length) rfl (fm rfl rfl rfl rfl rfl (gW (path:=[]) (es0:=[]) (f:=str) (xs:=([]:List ac)) (ys:=p9) rfl rfl (vY (path:=[]) (f:=str) (xs:=u6.2.2) rfl rfl al hp9 nr) rfl rfl rfl rfl rfl (by decide) js ha10 rfl ld)) ?_ (qq rfl (vH (path:=[]) (f:=str) (xs:=u6.2.2) rfl rfl al nr rfl))
   refine dk 1 [38] [str u6.1] ?_
   refine dq [] [] (.hs 99 0 [] 1 0 1) rfl (aZ rfl (d8 (f:=I) (xs:=[]) (z:=str ([])) (es:=[str u6.1]) (ws:=[str u6.1]) rfl rfl rfl (by decide) rfl (ba rfl) rfl)) ?_
   obtain⟨a11,ha11,h⟩:=bS h
   refine dq [67,99] [67] (.hs 115 0 [] 1 0 (a11.map str).length) rfl (fm rfl rfl rfl rfl rfl (gW (path:=[]) (f:=str) (xs:=a10) (ys:=[u6.1]) rfl rfl (kX rfl rfl rfl) rfl rfl rfl al rfl (by decide) js ha11 rfl ld)) ?_ (qq rfl (vH (path:=[]) (f:=str) (xs:=[u6.1]) rfl rfl al nr rfl))
   refine dk 2 [42,41] [I u6.2.1,.hs 2 0 [] 1 0 (u6.2.2.map str).length] ?_
   obtain⟨s12,hs12,h⟩:=bS h
   refine dq [2] [] (.hs 2 0 [] 1 (0+Int.toNat u6.2.1) (Int.toNat (len u6.2.2) - Int.toNat u6.2.1)) rfl (gH rfl rfl rfl rfl (oh (f:=str) (xs:=u6.2.2) rfl rfl rfl rfl (Iu rfl) hs12)) ?_
   obtain⟨p13,hp13,h⟩:=bS h
   obtain⟨a14,ha14,h⟩:=bS h
   refine dq [115,2] [115] (.hs 179 0 [] 1 0 (a14.map str).length) rfl (fm rfl rfl rfl rfl rfl (gW (path:=[]) (f:=str) (xs:=a11) (ys:=p13) rfl rfl (vY (path:=[]) (f:=str) (xs:=u6.2.2) rfl rfl al hp13 nr) rfl rfl rfl al rfl (by decide) js ha14 rfl ld)) ?_ (qq rfl (vH (path:=[]) (f:=str) (xs:=u6.2.2) rfl rfl al nr rfl))
   refine dk 1 [4] [.hs 179 0 [] 1 0 (a14.map str).length] ?_
   refine de 211 rfl rfl ?_
   obtain rfl:=sI h
   exact bV rfl ⟨_,fin (vs:=[.hs 179 0 [] 1 0 (a14.map str).length]) rfl (cF (gP rfl (cG rfl rfl)) cl) rfl (eV rfl (jV rfl) (eI d4)),mD dW⟩
 have r7:∀r',y7=.inl r'→∀st,qX (l_8,s_9) r' st→(qX (l_8,s_9) r) st:=fun r' e st hq=>by rw[hy71 r' e] at hq;exact hq
 replace h:=hy7
 refine sp 24 h rfl ?_ ?_<;>intro h
 ·refine cq 2 [25,26] [.hs 2 0 [] 1 0 (u6.2.2.map str).length,I u6.2.1] 115 ?_
  obtain⟨e15,he15,h⟩:=bS h
  refine oy 131 (.hp 2 0 [] 1 (0+Int.toNat u6.2.1) 0) rfl (aJ rfl rfl rfl (gB (f:=str) (xs:=u6.2.2) rfl rfl rfl he15)) ?_
  refine oy 147 (str e15) rfl (cZ rfl (iE (path:=[]) rfl rfl rfl al (fD (f:=str) (xs:=u6.2.2) he15) rfl rfl rfl)) ?_
  refine cq 4 [31] [B (e15==u6.1)] 195 ?_
  exact rg [0,1,5,31] [196,2] (j7 _ (an h) :)
 ·refine cq 8 [31] [B false] 195 ?_
  exact rg [0,1,5,31] [196,2] (j7 _ (an h) :)
theorem uh {G:dN}:dS G 45 pr:=gT 2 1 cJ d3 Tryd.func45 (fun a r h=>LQ a.1 a.2 r h)
def tY:((List ac)×Condition)→List V:=cA (tt 1 str) (oA aa)
def tZ (r:(List ac)):V×List V:=(.usl 1 (r.map str),[.dead])
noncomputable def ua (bF:((List ac)×Condition)→Option (List ac)):Ent:=bI [true,false] tY tZ bF
theorem GY (bF:((List ac)×Condition)→Option (List ac)){x}{r}(h:bF x=some r):(ua bF).F (tY x)=some (tZ r):=bg (cr (kY cz) (bl aN)) h
noncomputable def rX :=ua (aC kj)
theorem nR {l_4:List ac}{c_5:Condition}{r}(h:qt l_4 c_5=some r):rX.F (tY (l_4,c_5))=some (tZ r):=GY (aC kj) h
noncomputable def JH :=bc Tryd.f23
noncomputable def ER (bF:((List ac)×Condition)→Option (List ac)):Env:=dZ [(45,pr),(23,(ua bF))]
def JG (bF:((List ac)×Condition)→Option (List ac))(x:(List ac)×Condition)(r:(List ac)):St→Prop:=QF (ER bF) Tryd.f23 [true,false] (tY x) (tZ r)
theorem Gq (bF:((List ac)×Condition)→Option (List ac))(l_4:List ac)(c_5:Condition):eo (ER bF) 1 (JG bF (l_4,c_5)) (cL (cL (cR (cL (cR (cR JH)))))) 0 (kJ bF l_4 c_5) (fun u=>(sO 28 [(0,.hs 2 0 [] 1 0 (u.map str).length)] [none,some ⟨0,1,u.map str⟩] 3)) fun x4=>(sO 28 [(0,.hs 2 0 [] 1 0 (x4.2.map str).length),(3,.hp 3 0 [] 4 0 0),(5,I x4.1)] [none,some ⟨0,1,x4.2.map str⟩,some ⟨0,4,[aa c_5]⟩] 4):=hZ (wj bF l_4 c_5) fun {Q K} hK self ih x4 y h hr hn=>by
 unfold jg at h
 refine cq 6 [13,15] [I x4.1,.isl false (c_5.Parts.map aF)] 52 ?_
 refine oq 68 (I (len c_5.Parts)) rfl (dD rfl rfl rfl (fX rfl)) ?_
 refine cq 2 [17] [B (decide (x4.1<(len c_5.Parts)))] 84 ?_
 refine sq h ?_ ?_<;>intro h
 ·refine aq 1 ?_
  refine cq 7 [20,22,23] [.hs 2 0 [] 1 0 (x4.2.map str).length,.isl false (c_5.Parts.map aF),I x4.1] 148 ?_
  obtain⟨e5,he5,h⟩:=bS h
  refine oq 164 (.iptr (aa e5) 0) rfl (aJ rfl rfl rfl (dV rfl rfl (bo e5) rfl he5)) ?_
  refine cq 1 [25] [aa e5] 180 ?_
  obtain⟨r6,hr6,h⟩:=bS h
  refine oq 196 (.hs 180 0 [] 1 0 (r6.map str).length) rfl (ao rfl rfl (aB rfl rfl rfl (cd (b7 rfl (dI (path:=[]) rfl rfl al rfl)) (aM (bd rfl) bb)) (GY bF hr6) (.inr rfl) (cf rfl rfl rfl eg aY) rfl rfl rfl)) ?_
  refine cq 8 [0,5] [.hs 180 0 [] 1 0 (r6.map str).length,I (aG (x4.1+1))] 260 ?_
  refine fx ?_
  exact rg [0,3,5] [261,180,3] (ih _ _ h hr hn :)
 ·refine aq 1 ?_
  exact rg [0] [85,2] (hn _ (an h) :) (hk:=hK)
theorem LN (bF:((List ac)×Condition)→Option (List ac))(l_4:List ac)(c_5:Condition)(r:(List ac))(h:qV bF l_4 c_5=some r):ct (ER bF) Tryd.f23 [true,false] 1 (tY (l_4,c_5)) (tZ r):=by
 show Run _ _ (JG bF (l_4,c_5) r) [.code JH] _
 refine rI 28 [(0,.hs 1 0 [] 1 0 (l_4.map str).length),(1,aa c_5)] [(1,some ⟨0,1,l_4.map str⟩)] 2 ?_
 unfold qV at h
 refine ck 12 [3,8] [] [2] [] [.hp 2 0 [] 4 0 0,B (c_5.Op==2)] [some ⟨0,4,[aa c_5]⟩] 82 (by kernel_rfl) ?_
 refine sq h ?_ ?_<;>intro h
 ·refine cq 5 [9,11] [.hs 1 0 [] 1 0 (l_4.map str).length,str c_5.Name] 130 ?_
  obtain⟨r3,hr3,h⟩:=bS h
  refine oq 146 (.hs 130 0 [] 1 0 (r3.map str).length) rfl (ao rfl rfl (aB rfl rfl rfl (cd (b7 rfl (dI (path:=[]) rfl rfl al rfl)) (aM (bd rfl) bb)) (ET hr3) (.inr rfl) (cf rfl rfl rfl eg aY) rfl rfl rfl)) ?_
  refine cq 2 [4] [.hs 130 0 [] 1 0 (r3.map str).length] 162 ?_
  obtain rfl:=sI h
  exact bV rfl ⟨_,fin (vs:=[.hs 130 0 [] 1 0 (r3.map str).length]) rfl (cF (gP rfl (cG rfl rfl)) cl) rfl (eV rfl (jV rfl) (eI d4)),mD dW⟩
 ·refine aq 1 ?_
  refine cq 6 [5] [I (0)] 98 ?_
  obtain⟨y7,hy7,hy71,hy72⟩:=bJ h
  refine dT rfl ?_
  refine rg [0,3,5] [99,1,2] (Gq bF l_4 c_5 rfl (0,l_4) _ hy7 (fun r' e st hq=>by rw[hy71 r' e] at hq;exact hq) fun u7 hu=>?_)
  replace h:=hy72 u7 hu
  refine cq 5 [4] [.hs 2 0 [] 1 0 (u7.map str).length] 35 ?_
  obtain rfl:=sI h
  exact bV rfl ⟨_,fin (vs:=[.hs 2 0 [] 1 0 (u7.map str).length]) rfl (cF (gP rfl (cG rfl rfl)) cl) rfl (eV rfl (jV rfl) (eI d4)),mD dW⟩
theorem CC {G:dN}:dS G 23 rX:=gQ fun bF g_Ffbw=>gT 2 1 (aV uh (aV g_Ffbw cJ)) d3 Tryd.func23 (fun a r h=>LN bF a.1 a.2 r h)
def yX:((List Int)×Int)→List V:=cA (tt 1 I) (oA I)
def yY (r:(List Int)):V×List V:=(.usl 1 (r.map I),[.dead])
noncomputable def rL :=bI [true,false] yX yY fun x=>tH x.1 x.2
theorem EK {l_8:List Int}{n_9:Int}{r}(h:tH l_8 n_9=some r):rL.F (yX (l_8,n_9))=some (yY r):=bg (cr (kY ey) (bl ey)) h
noncomputable def pm :=bc Tryd.f46
noncomputable def tI :=dZ []
def qN (x:(List Int)×Int)(r:(List Int)):St→Prop:=QF tI Tryd.f46 [true,false] (yX x) (yY r)
theorem Gh (l_8:List Int)(n_9:Int):eo tI 1 (qN (l_8,n_9)) (cL (cL (cL (cR (cR pm))))) 0 (qO l_8 n_9) (fun u=>(sO 45 [(0,.hs 2 0 [] 1 0 (u.2.2.map I).length),(1,I u.1),(5,I u.2.1)] [none,some ⟨0,1,u.2.2.map I⟩] 3)) fun x3=>(sO 45 [(0,.hs 2 0 [] 1 0 (l_8.map I).length),(1,I n_9),(5,I x3)] [none,some ⟨0,1,l_8.map I⟩] 3):=hZ (wa l_8 n_9) fun {Q K} hK self ih x3 y h hr hn=>by
 unfold kd at h
 refine cq 5 [6,7] [I x3,.hs 2 0 [] 1 0 (l_8.map I).length] 35 ?_
 refine oq 51 (I (len l_8)) rfl (dD rfl rfl rfl (hI (f:=I) (xs:=l_8) rfl rfl)) ?_
 refine cq 2 [10] [B (decide (x3<(len l_8)))] 83 ?_
 obtain⟨y4,hy4,hy41,hy42⟩:=bL h
 have j4:∀u4,y4=.inr u4→Run tI 1 Q (.code (cR (cL (cL (cL (cL (cR (cR pm)))))))::.code (cR (cL (cL (cL (cR (cR pm))))))::.lp (cL (cL (cL (cR (cR pm)))))::.blk 0::K) (sO 45 [(0,.hs 2 0 [] 1 0 (l_8.map I).length),(1,I n_9),(5,I x3),(17,B u4)] [none,some ⟨0,1,l_8.map I⟩] 3):=by
  intro u4 hu
  replace h:=hy42 u4 hu
  refine sq h ?_ ?_<;>intro h
  ·refine aq 1 ?_
   refine cq 7 [5] [I (aG (x3+1))] 51 ?_
   refine fx ?_
   exact rg [0,1,5] [52,2] (ih _ _ h hr hn :)
  ·refine aq 1 ?_
   exact rg [0,1,5] [4,2] (hn _ (an h) :) (hk:=hK)
 have r4:∀r',y4=.inl r'→∀st,qN (l_8,n_9) r' st→Q st:=fun r' e st hq=>hr r' (hy41 r' e) st hq
 replace h:=hy4
 refine sp 10 h rfl ?_ ?_<;>intro h
 ·refine cq 2 [11,12] [.hs 2 0 [] 1 0 (l_8.map I).length,I x3] 115 ?_
  obtain⟨e5,he5,h⟩:=bS h
  refine oy 131 (.hp 2 0 [] 1 (0+Int.toNat x3) 0) rfl (aJ rfl rfl rfl (gB (f:=I) (xs:=l_8) rfl rfl rfl he5)) ?_
  refine oy 147 (I e5) rfl (cZ rfl (iE (path:=[]) rfl rfl rfl al (fD (f:=I) (xs:=l_8) he5) rfl rfl rfl)) ?_
  refine cq 4 [17] [B (decide (e5<n_9))] 195 ?_
  exact rg [0,1,5,17] [196,2] (j4 _ (an h) :)
 ·refine cq 8 [17] [B false] 195 ?_
  exact rg [0,1,5,17] [196,2] (j4 _ (an h) :)
theorem Lx (l_8:List Int)(n_9:Int)(r:(List Int))(h:tH l_8 n_9=some r):ct tI Tryd.f46 [true,false] 1 (yX (l_8,n_9)) (yY r):=by
 show Run _ _ (qN (l_8,n_9) r) [.code pm] _
 refine rI 45 [(0,.hs 1 0 [] 1 0 (l_8.map I).length),(1,I n_9)] [(1,some ⟨0,1,l_8.map I⟩)] 2 ?_
 unfold tH at h
 refine cq 10 [5] [I (0)] 34 ?_
 obtain⟨y6,hy6,hy61,hy62⟩:=bJ h
 refine dT rfl ?_
 refine rg [0,1,5] [35,1] (Gh l_8 n_9 rfl 0 _ hy6 (fun r' e st hq=>by rw[hy61 r' e] at hq;exact hq) fun u6 hu=>?_)
 replace h:=hy62 u6 hu
 refine cq 5 [20,21] [I u6.2.1,.hs 2 0 [] 1 0 (u6.2.2.map I).length] 35 ?_
 refine oq 51 (I (len u6.2.2)) rfl (dD rfl rfl rfl (hI (f:=I) (xs:=u6.2.2) rfl rfl)) ?_
 refine cq 2 [24] [B (decide (u6.2.1<(len u6.2.2)))] 83 ?_
 obtain⟨y7,hy7,hy71,hy72⟩:=bJ h
 have j7:∀u7,y7=.inr u7→Run tI 1 (qN (l_8,n_9) r) (.code (cR (cL (cR (cR (cR pm)))))::.code (cR (cR (cR (cR pm))))::[]) (sO 45 [(0,.hs 2 0 [] 1 0 (u6.2.2.map I).length),(1,I u6.1),(5,I u6.2.1),(31,B u7)] [none,some ⟨0,1,u6.2.2.map I⟩] 3):=by
  intro u7 hu
  replace h:=hy72 u7 hu
  refine sq h ?_ ?_<;>intro h
  ·refine cq 5 [4] [.hs 2 0 [] 1 0 (u6.2.2.map I).length] 35 ?_
   obtain rfl:=sI h
   exact bV rfl ⟨_,fin (vs:=[.hs 2 0 [] 1 0 (u6.2.2.map I).length]) rfl (cF (gP rfl (cG rfl rfl)) cl) rfl (eV rfl (jV rfl) (eI d4)),mD dW⟩
  ·refine aq 1 ?_
   refine aq 1 ?_
   refine eX [0,0,0,6,15,0,32,127,0,0,768,2047,4095] rfl (by decide +kernel) ?_
   refine dq [] [] (.hs 3 0 [] 1 0 0) rfl (aZ rfl (d8 (f:=I) (xs:=[]) (z:=I (0)) (es:=[]) (ws:=[]) rfl rfl rfl (by decide) rfl (ba rfl) rfl)) ?_
   refine dk 2 [35,34] [I u6.2.1,.hs 2 0 [] 1 0 (u6.2.2.map I).length] ?_
   obtain⟨s8,hs8,h⟩:=bS h
   refine dq [2] [] (.hs 2 0 [] 1 (0+Int.toNat (0)) (Int.toNat u6.2.1 - Int.toNat (0))) rfl (gH rfl rfl rfl rfl (oh (f:=I) (xs:=u6.2.2) rfl rfl rfl rfl rfl hs8)) ?_
   obtain⟨p9,hp9,h⟩:=bS h
   obtain⟨a10,ha10,h⟩:=bS h
   refine dq [3,2] [3] (.hs 67 0 [] 1 0 (a10.map I).length) rfl (fm rfl rfl rfl rfl rfl (gW (path:=[]) (es0:=[]) (f:=I) (xs:=([]:List Int)) (ys:=p9) rfl rfl (vY (path:=[]) (f:=I) (xs:=u6.2.2) rfl rfl al hp9 uA) rfl rfl rfl rfl rfl (by decide) vG ha10 rfl ld)) ?_ (qq rfl (vH (path:=[]) (f:=I) (xs:=u6.2.2) rfl rfl al uA rfl))
   refine dk 1 [38] [I u6.1] ?_
   refine dq [] [] (.hs 99 0 [] 1 0 1) rfl (aZ rfl (d8 (f:=I) (xs:=[]) (z:=I (0)) (es:=[I u6.1]) (ws:=[I u6.1]) rfl rfl rfl (by decide) rfl (ba rfl) rfl)) ?_
   obtain⟨a11,ha11,h⟩:=bS h
   refine dq [67,99] [67] (.hs 115 0 [] 1 0 (a11.map I).length) rfl (fm rfl rfl rfl rfl rfl (gW (path:=[]) (f:=I) (xs:=a10) (ys:=[u6.1]) rfl rfl (kX rfl rfl rfl) rfl rfl rfl al rfl (by decide) vG ha11 rfl ld)) ?_ (qq rfl (vH (path:=[]) (f:=I) (xs:=[u6.1]) rfl rfl al uA rfl))
   refine dk 2 [42,41] [I u6.2.1,.hs 2 0 [] 1 0 (u6.2.2.map I).length] ?_
   obtain⟨s12,hs12,h⟩:=bS h
   refine dq [2] [] (.hs 2 0 [] 1 (0+Int.toNat u6.2.1) (Int.toNat (len u6.2.2) - Int.toNat u6.2.1)) rfl (gH rfl rfl rfl rfl (oh (f:=I) (xs:=u6.2.2) rfl rfl rfl rfl (Iu rfl) hs12)) ?_
   obtain⟨p13,hp13,h⟩:=bS h
   obtain⟨a14,ha14,h⟩:=bS h
   refine dq [115,2] [115] (.hs 179 0 [] 1 0 (a14.map I).length) rfl (fm rfl rfl rfl rfl rfl (gW (path:=[]) (f:=I) (xs:=a11) (ys:=p13) rfl rfl (vY (path:=[]) (f:=I) (xs:=u6.2.2) rfl rfl al hp13 uA) rfl rfl rfl al rfl (by decide) vG ha14 rfl ld)) ?_ (qq rfl (vH (path:=[]) (f:=I) (xs:=u6.2.2) rfl rfl al uA rfl))
   refine dk 1 [4] [.hs 179 0 [] 1 0 (a14.map I).length] ?_
   refine de 211 rfl rfl ?_
   obtain rfl:=sI h
   exact bV rfl ⟨_,fin (vs:=[.hs 179 0 [] 1 0 (a14.map I).length]) rfl (cF (gP rfl (cG rfl rfl)) cl) rfl (eV rfl (jV rfl) (eI d4)),mD dW⟩
 have r7:∀r',y7=.inl r'→∀st,qN (l_8,n_9) r' st→(qN (l_8,n_9) r) st:=fun r' e st hq=>by rw[hy71 r' e] at hq;exact hq
 replace h:=hy7
 refine sp 24 h rfl ?_ ?_<;>intro h
 ·refine cq 2 [25,26] [.hs 2 0 [] 1 0 (u6.2.2.map I).length,I u6.2.1] 115 ?_
  obtain⟨e15,he15,h⟩:=bS h
  refine oy 131 (.hp 2 0 [] 1 (0+Int.toNat u6.2.1) 0) rfl (aJ rfl rfl rfl (gB (f:=I) (xs:=u6.2.2) rfl rfl rfl he15)) ?_
  refine oy 147 (I e15) rfl (cZ rfl (iE (path:=[]) rfl rfl rfl al (fD (f:=I) (xs:=u6.2.2) he15) rfl rfl rfl)) ?_
  refine cq 4 [31] [B (e15==u6.1)] 195 ?_
  exact rg [0,1,5,31] [196,2] (j7 _ (an h) :)
 ·refine cq 8 [31] [B false] 195 ?_
  exact rg [0,1,5,31] [196,2] (j7 _ (an h) :)
theorem Cw {G:dN}:dS G 46 rL:=gT 2 1 cJ d3 Tryd.func46 (fun a r h=>Lx a.1 a.2 r h)
def tJ:((List Int)×Condition)→List V:=cA (tt 1 I) (oA aa)
def tK (r:(List Int)):V×List V:=(.usl 1 (r.map I),[.dead])
noncomputable def tL (bD:((List Int)×Condition)→Option (List Int)):Ent:=bI [true,false] tJ tK bD
theorem GS (bD:((List Int)×Condition)→Option (List Int)){x}{r}(h:bD x=some r):(tL bD).F (tJ x)=some (tK r):=bg (cr (kY ey) (bl aN)) h
noncomputable def xl :=tL (aC ke)
theorem ze {l_4:List Int}{c_5:Condition}{r}(h:BF l_4 c_5=some r):xl.F (tJ (l_4,c_5))=some (tK r):=GS (aC ke) h
noncomputable def Jt :=bc Tryd.f47
noncomputable def EL (bD:((List Int)×Condition)→Option (List Int)):Env:=dZ [(46,rL),(47,(tL bD))]
def Js (bD:((List Int)×Condition)→Option (List Int))(x:(List Int)×Condition)(r:(List Int)):St→Prop:=QF (EL bD) Tryd.f47 [true,false] (tJ x) (tK r)
theorem Gi (bD:((List Int)×Condition)→Option (List Int))(l_4:List Int)(c_5:Condition):eo (EL bD) 1 (Js bD (l_4,c_5)) (cL (cL (cR (cL (cR (cR Jt)))))) 0 (kI bD l_4 c_5) (fun u=>(sO 28 [(0,.hs 2 0 [] 1 0 (u.map I).length)] [none,some ⟨0,1,u.map I⟩] 3)) fun x4=>(sO 28 [(0,.hs 2 0 [] 1 0 (x4.2.map I).length),(3,.hp 3 0 [] 4 0 0),(5,I x4.1)] [none,some ⟨0,1,x4.2.map I⟩,some ⟨0,4,[aa c_5]⟩] 4):=hZ (wb bD l_4 c_5) fun {Q K} hK self ih x4 y h hr hn=>by
 unfold je at h
 refine cq 6 [13,15] [I x4.1,.isl false (c_5.Parts.map aF)] 52 ?_
 refine oq 68 (I (len c_5.Parts)) rfl (dD rfl rfl rfl (fX rfl)) ?_
 refine cq 2 [17] [B (decide (x4.1<(len c_5.Parts)))] 84 ?_
 refine sq h ?_ ?_<;>intro h
 ·refine aq 1 ?_
  refine cq 7 [20,22,23] [.hs 2 0 [] 1 0 (x4.2.map I).length,.isl false (c_5.Parts.map aF),I x4.1] 148 ?_
  obtain⟨e5,he5,h⟩:=bS h
  refine oq 164 (.iptr (aa e5) 0) rfl (aJ rfl rfl rfl (dV rfl rfl (bo e5) rfl he5)) ?_
  refine cq 1 [25] [aa e5] 180 ?_
  obtain⟨r6,hr6,h⟩:=bS h
  refine oq 196 (.hs 180 0 [] 1 0 (r6.map I).length) rfl (ao rfl rfl (aB rfl rfl rfl (cd (b7 rfl (dI (path:=[]) rfl rfl al rfl)) (aM (bd rfl) bb)) (GS bD hr6) (.inr rfl) (cf rfl rfl rfl eg aY) rfl rfl rfl)) ?_
  refine cq 8 [0,5] [.hs 180 0 [] 1 0 (r6.map I).length,I (aG (x4.1+1))] 260 ?_
  refine fx ?_
  exact rg [0,3,5] [261,180,3] (ih _ _ h hr hn :)
 ·refine aq 1 ?_
  exact rg [0] [85,2] (hn _ (an h) :) (hk:=hK)
theorem LB (bD:((List Int)×Condition)→Option (List Int))(l_4:List Int)(c_5:Condition)(r:(List Int))(h:qP bD l_4 c_5=some r):ct (EL bD) Tryd.f47 [true,false] 1 (tJ (l_4,c_5)) (tK r):=by
 show Run _ _ (Js bD (l_4,c_5) r) [.code Jt] _
 refine rI 28 [(0,.hs 1 0 [] 1 0 (l_4.map I).length),(1,aa c_5)] [(1,some ⟨0,1,l_4.map I⟩)] 2 ?_
 unfold qP at h
 refine ck 12 [3,8] [] [2] [] [.hp 2 0 [] 4 0 0,B (c_5.Op==3)] [some ⟨0,4,[aa c_5]⟩] 82 (by kernel_rfl) ?_
 refine sq h ?_ ?_<;>intro h
 ·refine cq 5 [9,11] [.hs 1 0 [] 1 0 (l_4.map I).length,I c_5.Day] 130 ?_
  obtain⟨r3,hr3,h⟩:=bS h
  refine oq 146 (.hs 130 0 [] 1 0 (r3.map I).length) rfl (ao rfl rfl (aB rfl rfl rfl (cd (b7 rfl (dI (path:=[]) rfl rfl al rfl)) (aM (bd rfl) bb)) (EK hr3) (.inr rfl) (cf rfl rfl rfl eg aY) rfl rfl rfl)) ?_
  refine cq 2 [4] [.hs 130 0 [] 1 0 (r3.map I).length] 162 ?_
  obtain rfl:=sI h
  exact bV rfl ⟨_,fin (vs:=[.hs 130 0 [] 1 0 (r3.map I).length]) rfl (cF (gP rfl (cG rfl rfl)) cl) rfl (eV rfl (jV rfl) (eI d4)),mD dW⟩
 ·refine aq 1 ?_
  refine cq 6 [5] [I (0)] 98 ?_
  obtain⟨y7,hy7,hy71,hy72⟩:=bJ h
  refine dT rfl ?_
  refine rg [0,3,5] [99,1,2] (Gi bD l_4 c_5 rfl (0,l_4) _ hy7 (fun r' e st hq=>by rw[hy71 r' e] at hq;exact hq) fun u7 hu=>?_)
  replace h:=hy72 u7 hu
  refine cq 5 [4] [.hs 2 0 [] 1 0 (u7.map I).length] 35 ?_
  obtain rfl:=sI h
  exact bV rfl ⟨_,fin (vs:=[.hs 2 0 [] 1 0 (u7.map I).length]) rfl (cF (gP rfl (cG rfl rfl)) cl) rfl (eV rfl (jV rfl) (eI d4)),mD dW⟩
theorem Ju {G:dN}:dS G 47 xl:=gQ fun bD g_Ffbn=>gT 2 1 (aV Cw (aV g_Ffbn cJ)) d3 Tryd.func47 (fun a r h=>LB bD a.1 a.2 r h)
def zM:((List ac)×Int)→List V:=cA (pU str) (oA I)
def zO (r:(List ac)):V×List V:=(.usl 1 (r.map str),[])
noncomputable def xE :=bI [false,false] zM zO fun x=>xD x.1 x.2
theorem PE {cW:List ac}{eb:Int}{r}(h:xD cW eb=some r):xE.F (zM (cW,eb))=some (zO r):=bg (cr (fN cz) (bl ey)) h
noncomputable def JP :=bc Tryd.f48
noncomputable abbrev BK :=cL (cL (cR (cL (cR (cR JP)))))
noncomputable def zN :=dZ []
def EV (x:(List ac)×Int)(r:(List ac)):St→Prop:=QF zN Tryd.f48 [false,false] (zM x) (zO r)
theorem Gu (cW:List ac)(eb:Int):eo zN 0 (EV (cW,eb)) BK 0 (pc cW eb) (fun u=>(sT 28 [(5,.hs 1 0 [] 1 0 (u.map str).length)] [⟨0,1,u.map str⟩] 2)) fun x3=>(sT 28 [(0,.isl false (cW.map str)),(1,I eb),(5,.hs 1 0 [] 1 0 (x3.2.map str).length),(6,I x3.1)] [⟨0,1,x3.2.map str⟩] 2):=hZ (wo cW eb) fun {Q K} hK self ih x3 y h hr hn=>by
 unfold ko at h
 refine cq 5 [8,9] [I x3.1,.isl false (cW.map str)] 34 ?_
 refine oq 50 (I (len cW)) rfl (dD rfl rfl rfl (fX rfl)) ?_
 refine cq 2 [11] [B (decide (x3.1<(len cW)))] 66 ?_
 refine sq h ?_ ?_<;>intro h
 ·refine aq 1 ?_
  refine cq 7 [14,16] [I eb,.int .u64 (IntKind.u64.wrap x3.1)] 114 ?_
  obtain⟨q4,hq4,h⟩:=bS h
  refine oq 130 (I q4) rfl (nD rfl rfl (Ir hq4)) ?_
  refine cq 3 [19] [B ((lc .i64 q4 1)==1)] 162 ?_
  obtain⟨y5,hy5,hy51,hy52⟩:=bL h
  have j5:∀u5,y5=.inr u5→Run zN 0 Q (.blk 1::.code (cR (cR BK))::.lp BK::.blk 0::K) (sT 28 [(0,.isl false (cW.map str)),(1,I eb),(5,.hs 1 0 [] 1 0 (u5.map str).length),(6,I x3.1)] [⟨0,1,u5.map str⟩] 2):=by
   intro u5 hu
   replace h:=hy52 u5 hu
   refine cq 6 [6] [I (aG (x3.1+1))] 50 ?_
   refine fx ?_
   exact rf [0,1,5,6] [1] (ih _ _ h hr hn :)
  have r5:∀r',y5=.inl r'→∀st,EV (cW,eb) r' st→Q st:=fun r' e st hq=>hr r' (hy51 r' e) st hq
  replace h:=hy5
  refine sq h ?_ ?_<;>intro h
  ·refine cq 4 [20,21,22] [.hs 1 0 [] 1 0 (x3.2.map str).length,.isl false (cW.map str),I x3.1] 210 ?_
   obtain⟨e6,he6,h⟩:=bS h
   refine oq 226 (.iptr (str e6) 0) rfl (aJ rfl rfl rfl (dV rfl rfl rfl rfl he6)) ?_
   refine cq 1 [24] [str e6] 242 ?_
   refine oq 258 (.hs 242 0 [] 1 0 1) rfl (aZ rfl (d8 (f:=I) (xs:=[]) (z:=str ([])) (es:=[str e6]) (ws:=[str e6]) rfl rfl rfl (by decide) rfl (ba rfl) rfl)) ?_
   obtain⟨a7,ha7,h⟩:=bS h
   refine oq 274 (.hs 258 0 [] 1 0 (a7.map str).length) rfl (fm rfl rfl rfl rfl rfl (gW (path:=[]) (f:=str) (xs:=x3.2) (ys:=[e6]) rfl rfl (kX rfl rfl rfl) rfl rfl rfl al rfl (by decide) js ha7 rfl ld)) ?_
   refine cq 2 [5] [.hs 258 0 [] 1 0 (a7.map str).length] 290 ?_
   exact rf [0,1,5,6] [258] (j5 _ (an h) :)
  ·refine aq 1 ?_
   exact rf [0,1,5,6] [1] (j5 _ (an h) :)
 ·refine aq 1 ?_
  exact rf [5] [1] (hn _ (an h) :) (hk:=hK)
theorem LU (cW:List ac)(eb:Int)(r:(List ac))(h:xD cW eb=some r):ct zN Tryd.f48 [false,false] 0 (zM (cW,eb)) (zO r):=by
 show Run _ _ (EV (cW,eb) r) [.code JP] _
 refine rI 28 [(0,.isl false (cW.map str)),(1,I eb)] [] 1 ?_
 unfold xD at h
 refine cq 6 [] [] 17 ?_
 refine oq 33 (.hs 17 0 [] 1 0 0) rfl (aZ rfl (d8 (f:=I) (xs:=[]) (z:=str ([])) (es:=[]) (ws:=[]) rfl rfl rfl (by decide) rfl (ba rfl) rfl)) ?_
 refine cq 8 [5,6] [.hs 17 0 [] 1 0 0,I (0)] 65 ?_
 obtain⟨y8,hy8,hy81,hy82⟩:=bJ h
 refine dT rfl ?_
 refine rf [0,1,5,6] [17] (Gu cW eb rfl (0,[]) _ hy8 (fun r' e st hq=>by rw[hy81 r' e] at hq;exact hq) fun u8 hu=>?_)
 replace h:=hy82 u8 hu
 refine cq 5 [4] [.hs 1 0 [] 1 0 (u8.map str).length] 34 ?_
 obtain rfl:=sI h
 exact bV rfl ⟨_,fin (vs:=[.hs 1 0 [] 1 0 (u8.map str).length]) rfl (cF (gP rfl (cG rfl rfl)) cl) rfl (eI (eI d4)),dW⟩
theorem JQ {G:dN}:dS G 48 xE:=gT 2 0 cJ d3 Tryd.func48 (fun a r h=>LU a.1 a.2 r h)
def zo:((List ac)×ac)→List V:=cA (pU str) (oA str)
def zp (r:Bool):V×List V:=(B r,[])
noncomputable def xu :=bI [false,false] zo zp fun x=>xt x.1 x.2
theorem PB {aR:List ac}{eu:ac}{r}(h:xt aR eu=some r):xu.F (zo (aR,eu))=some (zp r):=bg (cr (fN cz) (bl cz)) h
noncomputable def JD :=bc Tryd.f53
noncomputable def EO :=dZ []
def JC (x:(List ac)×ac)(r:Bool):St→Prop:=QF EO Tryd.f53 [false,false] (zo x) (zp r)
theorem Gl (aR:List ac)(eu:ac):eo EO 0 (JC (aR,eu)) (cL (cL (cR (cL (cR JD))))) 0 (qS aR eu) (fun u=>(sT 18 [] [] 1)) fun x3=>(sT 18 [(0,.isl false (aR.map str)),(1,str eu),(5,I x3)] [] 1):=hZ (we aR eu) fun {Q K} hK self ih x3 y h hr hn=>by
 unfold lU at h
 refine cq 5 [6,7] [I x3,.isl false (aR.map str)] 33 ?_
 refine oq 49 (I (len aR)) rfl (dD rfl rfl rfl (fX rfl)) ?_
 refine cq 2 [9] [B (decide (x3<(len aR)))] 65 ?_
 refine sq h ?_ ?_<;>intro h
 ·refine aq 1 ?_
  refine cq 6 [12,13] [.isl false (aR.map str),I x3] 97 ?_
  obtain⟨e4,he4,h⟩:=bS h
  refine oq 113 (.iptr (str e4) 0) rfl (aJ rfl rfl rfl (dV rfl rfl rfl rfl he4)) ?_
  refine cq 4 [17] [B (e4==eu)] 161 ?_
  refine sq h ?_ ?_<;>intro h
  ·refine cq 4 [4] [B true] 177 ?_
   exact bV rfl (hr _ (an h) _ (qp [B true]))
  ·refine aq 1 ?_
   refine cq 6 [5] [I (aG (x3+1))] 209 ?_
   refine fx ?_
   exact rf [0,1,5] [] (ih _ _ h hr hn :)
 ·refine aq 1 ?_
  exact rf [] [] (hn _ (an h) :) (hk:=hK)
theorem LH (aR:List ac)(eu:ac)(r:Bool)(h:xt aR eu=some r):ct EO Tryd.f53 [false,false] 0 (zo (aR,eu)) (zp r):=by
 show Run _ _ (JC (aR,eu) r) [.code JD] _
 refine rI 18 [(0,.isl false (aR.map str)),(1,str eu)] [] 1 ?_
 unfold xt at h
 refine cq 10 [5] [I (0)] 33 ?_
 obtain⟨y5,hy5,hy51,hy52⟩:=bJ h
 refine dT rfl ?_
 refine rf [0,1,5] [] (Gl aR eu rfl 0 _ hy5 (fun r' e st hq=>by rw[hy51 r' e] at hq;exact hq) fun u5 hu=>?_)
 replace h:=hy52 u5 hu
 refine cq 4 [4] [B false] 17 ?_
 obtain rfl:=sI h
 exact rP [B false]
theorem JE {G:dN}:dS G 53 xu:=gT 2 0 cJ d3 Tryd.func53 (fun a r h=>LH a.1 a.2 r h)
def tS:(Condition×(List ac)×Int)→List V:=cA aa (cA (pU str) (oA I))
def tU (r:Bool):V×List V:=(B r,[])
noncomputable def tV (bN:(Condition×(List ac)×Int)→Option Bool):Ent:=bI [false,false,false] tS tU bN
theorem o9 (bN:(Condition×(List ac)×Int)→Option Bool){x}{r}(h:bN x=some r):(tV bN).F (tS x)=some (tU r):=bg (cr aN (cr (fN cz) (bl ey))) h
noncomputable def rU :=tV (aC kg)
theorem tT {c_1:Condition}{aD:List ac}{aX:Int}{r}(h:tR c_1 aD aX=some r):rU.F (tS (c_1,aD,aX))=some (tU r):=o9 (aC kg) h
noncomputable def zr :=bc Tryd.f29
noncomputable def zq (bN:(Condition×(List ac)×Int)→Option Bool):Env:=dZ [(53,xu),(29,(tV bN))]
def po (bN:(Condition×(List ac)×Int)→Option Bool)(x:Condition×(List ac)×Int)(r:Bool):St→Prop:=QF (zq bN) Tryd.f29 [false,false,false] (tS x) (tU r)
theorem LJ (bN:(Condition×(List ac)×Int)→Option Bool)(c_1:Condition)(aD:List ac)(aX:Int)(r:Bool)(h:qT bN c_1 aD aX=some r):ct (zq bN) Tryd.f29 [false,false,false] 0 (tS (c_1,aD,aX)) (tU r):=by
 show Run _ _ (po bN (c_1,aD,aX) r) [.code zr] _
 refine rI 67 [(0,aa c_1),(1,.isl false (aD.map str)),(2,I aX)] [] 1 ?_
 unfold qT at h
 refine ck 17 [3,8,9] [] [1] [] [.hp 1 0 [] 4 0 0,I c_1.Op,B (c_1.Op==1)] [some ⟨0,4,[aa c_1]⟩] 97 (by kernel_rfl) ?_
 refine sq h ?_ ?_<;>intro h
 ·refine cq 4 [6] [B true] 113 ?_
  obtain rfl:=sI h
  exact rP [B true]
 ·refine cq 5 [11] [B (c_1.Op==2)] 129 ?_
  refine sq h ?_ ?_<;>intro h
  ·refine cq 5 [13,15] [.isl false (aD.map str),str c_1.Name] 177 ?_
   obtain⟨r4,hr4,h⟩:=bS h
   refine oq 193 (B r4) rfl (cP (PB hr4)) ?_
   refine cq 2 [6] [B r4] 209 ?_
   obtain rfl:=sI h
   exact rP [B r4]
  ·refine cq 5 [17] [B (c_1.Op==3)] 161 ?_
   refine sq h ?_ ?_<;>intro h
   ·refine cq 8 [6] [B (decide (aX≥c_1.Day))] 241 ?_
    obtain rfl:=sI h
    exact rP [B (decide (aX≥c_1.Day))]
   ·refine cq 5 [23] [B (c_1.Op==4)] 193 ?_
    refine sq h ?_ ?_<;>intro h
    ·refine cq 4 [26] [.isl false (c_1.Parts.map aF)] 225 ?_
     obtain⟨e5,he5,h⟩:=bS h
     refine oq 241 (.iptr (aa e5) 0) rfl (aJ rfl rfl rfl (dV rfl rfl (bo e5) rfl he5)) ?_
     refine cq 3 [28,29,30] [aa e5,.isl false (aD.map str),I aX] 289 ?_
     obtain⟨r6,hr6,h⟩:=bS h
     refine oq 305 (B r6) rfl (ao rfl rfl (aB rfl rfl rfl (aM (bd rfl) (aM (bd rfl) (aM (bd rfl) bb))) (o9 bN hr6) (.inr rfl) aY rfl rfl rfl)) ?_
     refine cq 3 [6] [B (!r6)] 337 ?_
     obtain rfl:=sI h
     exact rP [B (!r6)]
    ·refine cq 5 [33] [B (c_1.Op==5)] 225 ?_
     refine sq h ?_ ?_<;>intro h
     ·refine cq 4 [36] [.isl false (c_1.Parts.map aF)] 257 ?_
      obtain⟨e7,he7,h⟩:=bS h
      refine oq 273 (.iptr (aa e7) 0) rfl (aJ rfl rfl rfl (dV rfl rfl (bo e7) rfl he7)) ?_
      refine cq 3 [38,39,40] [aa e7,.isl false (aD.map str),I aX] 321 ?_
      obtain⟨r8,hr8,h⟩:=bS h
      refine oq 337 (B r8) rfl (ao rfl rfl (aB rfl rfl rfl (aM (bd rfl) (aM (bd rfl) (aM (bd rfl) bb))) (o9 bN hr8) (.inr rfl) aY rfl rfl rfl)) ?_
      refine cq 1 [42] [B r8] 353 ?_
      obtain⟨y9,hy9,hy91,hy92⟩:=bJ h
      have j9:∀u9,y9=.inr u9→Run (zq bN) 0 (po bN (c_1,aD,aX) r) (.code (cR (cL (cR (cR (cR (cR (cR (cR (cR (cR (cR (cL (cR (cL (cR zr)))))))))))))))::.blk 0::.code (cR (cR zr))::[]) (sT 67 [(6,B u9)] [] 1):=by
       intro u9 hu
       replace h:=hy92 u9 hu
       obtain rfl:=sI h
       exact rP [B u9]
      have r9:∀r',y9=.inl r'→∀st,po bN (c_1,aD,aX) r' st→(po bN (c_1,aD,aX) r) st:=fun r' e st hq=>by rw[hy91 r' e] at hq;exact hq
      replace h:=hy9
      refine sp 42 h rfl ?_ ?_<;>intro h
      ·refine cq 2 [44] [.isl false (c_1.Parts.map aF)] 385 ?_
       obtain⟨e10,he10,h⟩:=bS h
       refine oy 401 (.iptr (aa e10) 0) rfl (aJ rfl rfl rfl (dV rfl rfl (bo e10) rfl he10)) ?_
       refine cq 3 [46,47,48] [aa e10,.isl false (aD.map str),I aX] 449 ?_
       obtain⟨r11,hr11,h⟩:=bS h
       refine oy 465 (B r11) rfl (ao rfl rfl (aB rfl rfl rfl (aM (bd rfl) (aM (bd rfl) (aM (bd rfl) bb))) (o9 bN hr11) (.inr rfl) aY rfl rfl rfl)) ?_
       refine cq 3 [6] [B r11] 497 ?_
       exact rf [6] [] (j9 _ (an h) :)
      ·refine cq 10 [6] [B false] 497 ?_
       exact rf [6] [] (j9 _ (an h) :)
     ·refine aq 1 ?_
      refine cq 5 [52] [.isl false (c_1.Parts.map aF)] 257 ?_
      obtain⟨e12,he12,h⟩:=bS h
      refine oq 273 (.iptr (aa e12) 0) rfl (aJ rfl rfl rfl (dV rfl rfl (bo e12) rfl he12)) ?_
      refine cq 3 [54,55,56] [aa e12,.isl false (aD.map str),I aX] 321 ?_
      obtain⟨r13,hr13,h⟩:=bS h
      refine oq 337 (B r13) rfl (ao rfl rfl (aB rfl rfl rfl (aM (bd rfl) (aM (bd rfl) (aM (bd rfl) bb))) (o9 bN hr13) (.inr rfl) aY rfl rfl rfl)) ?_
      refine cq 1 [58] [B r13] 353 ?_
      obtain⟨y14,hy14,hy141,hy142⟩:=bJ h
      have j14:∀u14,y14=.inr u14→Run (zq bN) 0 (po bN (c_1,aD,aX) r) (.code (cR (cR (cR zr)))::[]) (sT 67 [(6,B u14)] [] 1):=by
       intro u14 hu
       replace h:=hy142 u14 hu
       obtain rfl:=sI h
       exact rP [B u14]
      have r14:∀r',y14=.inl r'→∀st,po bN (c_1,aD,aX) r' st→(po bN (c_1,aD,aX) r) st:=fun r' e st hq=>by rw[hy141 r' e] at hq;exact hq
      replace h:=hy14
      refine sp 58 h rfl ?_ ?_<;>intro h
      ·refine cq 10 [6] [B true] 497 ?_
       exact rf [6] [] (j14 _ (an h) :)
      ·refine cq 2 [60] [.isl false (c_1.Parts.map aF)] 385 ?_
       obtain⟨e15,he15,h⟩:=bS h
       refine oy 401 (.iptr (aa e15) 0) rfl (aJ rfl rfl rfl (dV rfl rfl (bo e15) rfl he15)) ?_
       refine cq 3 [62,63,64] [aa e15,.isl false (aD.map str),I aX] 449 ?_
       obtain⟨r16,hr16,h⟩:=bS h
       refine oy 465 (B r16) rfl (ao rfl rfl (aB rfl rfl rfl (aM (bd rfl) (aM (bd rfl) (aM (bd rfl) bb))) (o9 bN hr16) (.inr rfl) aY rfl rfl rfl)) ?_
       refine cq 3 [6] [B r16] 497 ?_
       exact rf [6] [] (j14 _ (an h) :)
theorem CA {G:dN}:dS G 29 rU:=gQ fun bN g_Ffbt=>gT 3 0 (aV JE (aV g_Ffbt cJ)) d3 Tryd.func29 (fun a r h=>LJ bN a.1 a.2.1 a.2.2 r h)
def zt:(Condition×Condition)→List V:=cA aa (oA aa)
def zw (r:Bool):V×List V:=(B r,[])
noncomputable def xy :=bI [false,false] zt zw fun x=>xw x.1 x.2
theorem PC {a_1:Condition}{b_2:Condition}{r}(h:xw a_1 b_2=some r):xy.F (zt (a_1,b_2))=some (zw r):=bg (cr aN (bl aN)) h
noncomputable def EP :=bc Tryd.f24
noncomputable abbrev vt :=cL (cL (cR (cR (cL (cL (cR (cL (cL (cR (cL (cR (cR (cR EP)))))))))))))
noncomputable def tW :=dZ [(23,rX),(47,xl),(46,rL),(48,xE),(29,rU)]
def zu (x:Condition×Condition)(r:Bool):St→Prop:=QF tW Tryd.f24 [false,false] (zt x) (zw r)
theorem Gn (a_1:Condition)(b_2:Condition)(r7:(List Int))(r10:(List ac))(r4:(List ac))(x8:Int):eo tW 0 (zu (a_1,b_2)) vt 2 (pb a_1 b_2 r7 r10 r4 x8) (fun u=>(sT 55 [(2,.hp 1 0 [] 4 0 0),(3,.hp 2 0 [] 4 0 0),(5,.hs 3 0 [] 1 0 (r4.map str).length),(6,.hs 4 0 [] 1 0 (r7.map I).length),(7,I x8)] [⟨0,4,[aa a_1]⟩,⟨0,4,[aa b_2]⟩,⟨0,1,r4.map str⟩,⟨0,1,r7.map I⟩] 5)) fun x11=>(sT 55 [(2,.hp 1 0 [] 4 0 0),(3,.hp 2 0 [] 4 0 0),(5,.hs 3 0 [] 1 0 (r4.map str).length),(6,.hs 4 0 [] 1 0 (r7.map I).length),(7,I x8),(8,.hs 5 0 [] 1 0 (r10.map str).length),(9,I x11)] [⟨0,4,[aa a_1]⟩,⟨0,4,[aa b_2]⟩,⟨0,1,r4.map str⟩,⟨0,1,r7.map I⟩,⟨0,1,r10.map str⟩] 6):=hZ (wh a_1 b_2 r7 r10 r4 x8) fun {Q K} hK self ih x11 y h hr hn=>by
 unfold ki at h
 refine cq 5 [32,33] [I x11,.hs 4 0 [] 1 0 (r7.map I).length] 38 ?_
 refine oq 54 (I (len r7)) rfl (dD rfl rfl rfl (hI (f:=I) (xs:=r7) rfl rfl)) ?_
 refine cq 2 [35] [B (decide (x11<(len r7)))] 70 ?_
 refine sq h ?_ ?_<;>intro h
 ·refine aq 1 ?_
  refine aq 3 ?_
  refine eX [0,0,0,0,12,28,63,127,255,255,255,255,3327,7423,16383,32767,65535] rfl (by decide +kernel) ?_
  refine dq [1] [] (aa a_1) rfl (cZ rfl rfl) ?_
  refine dk 3 [41,40,39] [I x11,.hs 4 0 [] 1 0 (r7.map I).length,.hs 5 0 [] 1 0 (r10.map str).length] ?_
  obtain⟨e12,he12,h⟩:=bS h
  refine dq [4] [] (.hp 4 0 [] 1 (0+Int.toNat x11) 0) rfl (aJ rfl rfl rfl (gB (f:=I) (xs:=r7) rfl rfl rfl he12)) ?_
  refine dq [4] [] (I e12) rfl (cZ rfl (iE (path:=[]) rfl rfl rfl al (fD (f:=I) (xs:=r7) he12) rfl rfl rfl)) ?_
  obtain⟨r13,hr13,h⟩:=bS h
  refine dq [5] [] (B r13) rfl (ao rfl rfl (aB rfl rfl rfl (aM (bd rfl) (aM (la rfl rfl (fi (f:=str) (g:=str) (xs:=r10) rfl rfl (ci fE))) (aM (bd rfl) bb))) (tT hr13) (.inl rfl) aY rfl rfl rfl)) ?_ (dj rfl rfl rfl rfl (aM (bd rfl) (aM (la rfl rfl (fi (f:=str) (g:=str) (xs:=r10) rfl rfl (ci fE))) (aM (bd rfl) bb))) (tT hr13) (.inl rfl) rfl)
  refine dk 1 [45] [B r13] ?_
  obtain⟨y14,hy14,hy141,hy142⟩:=bL h
  have j14:∀u14,y14=.inr u14→Run tW 0 Q (.code (cR (cL (cL (cR vt))))::.blk 3::.code (cR (cR vt))::.lp vt::.blk 2::K) (sT 55 [(2,.hp 1 0 [] 4 0 0),(3,.hp 2 0 [] 4 0 0),(5,.hs 3 0 [] 1 0 (r4.map str).length),(6,.hs 4 0 [] 1 0 (r7.map I).length),(7,I x8),(8,.hs 5 0 [] 1 0 (r10.map str).length),(9,I x11),(54,B u14)] [⟨0,4,[aa a_1]⟩,⟨0,4,[aa b_2]⟩,⟨0,1,r4.map str⟩,⟨0,1,r7.map I⟩,⟨0,1,r10.map str⟩] 6):=by
   intro u14 hu
   replace h:=hy142 u14 hu
   refine sq h ?_ ?_<;>intro h
   ·refine cq 4 [4] [B false] 22 ?_
    exact bV rfl (hr _ (an h) _ (qp [B false]))
   ·refine aq 1 ?_
    refine cq 6 [9] [I (aG (x11+1))] 54 ?_
    refine fx ?_
    exact rf [2,3,5,6,7,8,9] [1,2,3,4,5] (ih _ _ h hr hn :)
  have r14:∀r',y14=.inl r'→∀st,zu (a_1,b_2) r' st→Q st:=fun r' e st hq=>hr r' (hy141 r' e) st hq
  replace h:=hy14
  refine sp 45 h rfl ?_ ?_<;>intro h
  ·refine dy [2] [] (aa b_2) rfl (cZ rfl rfl) ?_
   refine dk 3 [49,48,47] [I x11,.hs 4 0 [] 1 0 (r7.map I).length,.hs 5 0 [] 1 0 (r10.map str).length] ?_
   obtain⟨e15,he15,h⟩:=bS h
   refine dy [4] [] (.hp 4 0 [] 1 (0+Int.toNat x11) 0) rfl (aJ rfl rfl rfl (gB (f:=I) (xs:=r7) rfl rfl rfl he15)) ?_
   refine dy [4] [] (I e15) rfl (cZ rfl (iE (path:=[]) rfl rfl rfl al (fD (f:=I) (xs:=r7) he15) rfl rfl rfl)) ?_
   obtain⟨r16,hr16,h⟩:=bS h
   refine dy [5] [] (B r16) rfl (ao rfl rfl (aB rfl rfl rfl (aM (bd rfl) (aM (la rfl rfl (fi (f:=str) (g:=str) (xs:=r10) rfl rfl (ci fE))) (aM (bd rfl) bb))) (tT hr16) (.inl rfl) aY rfl rfl rfl)) ?_ (dj rfl rfl rfl rfl (aM (bd rfl) (aM (la rfl rfl (fi (f:=str) (g:=str) (xs:=r10) rfl rfl (ci fE))) (aM (bd rfl) bb))) (tT hr16) (.inl rfl) rfl)
   refine dk 2 [54,53] [B (!r16),B (!r16)] ?_
   refine de 342 rfl rfl ?_
   exact rf [2,3,5,6,7,8,9,54] [1,2,3,4,5] (j14 _ (an h) :)
  ·refine dk 9 [54,53,52,51,50,49,48,47,46] [B false,.und,.und,.und,.und,.und,.und,.und,.und] ?_
   refine de 342 rfl rfl ?_
   exact rf [2,3,5,6,7,8,9,54] [1,2,3,4,5] (j14 _ (an h) :)
 ·refine aq 1 ?_
  exact rf [2,3,5,6,7] [1,2,3,4] (hn _ (an h) :) (hk:=hK)
theorem Gm (a_1:Condition)(b_2:Condition)(r4:(List ac))(r7:(List Int)):eo tW 0 (zu (a_1,b_2)) (cL (cL (cR (cL (cR (cR (cR EP))))))) 0 (pa a_1 b_2 r4 r7) (fun u=>(sT 55 [] [] 1)) fun x8=>(sT 55 [(2,.hp 1 0 [] 4 0 0),(3,.hp 2 0 [] 4 0 0),(5,.hs 3 0 [] 1 0 (r4.map str).length),(6,.hs 4 0 [] 1 0 (r7.map I).length),(7,I x8)] [⟨0,4,[aa a_1]⟩,⟨0,4,[aa b_2]⟩,⟨0,1,r4.map str⟩,⟨0,1,r7.map I⟩] 5):=hZ (wg a_1 b_2 r4 r7) fun {Q K} hK self ih x8 y h hr hn=>by
 unfold kh at h
 refine cq 5 [21,22] [I x8,.hs 3 0 [] 1 0 (r4.map str).length] 37 ?_
 refine oq 53 (I (len r4)) rfl (dD rfl rfl rfl (hI (f:=str) (xs:=r4) rfl rfl)) ?_
 refine cq 1 [24] [.int .u64 (IntKind.u64.wrap (len r4))] 69 ?_
 obtain⟨q9,hq9,h⟩:=bS h
 refine oq 85 (I q9) rfl (nD rfl rfl (Iq hq9)) ?_
 refine cq 2 [26] [B (decide (x8<q9))] 101 ?_
 refine sq h ?_ ?_<;>intro h
 ·refine aq 1 ?_
  refine cq 6 [29,30] [.hs 3 0 [] 1 0 (r4.map str).length,I x8] 133 ?_
  obtain⟨r10,hr10,h⟩:=bS h
  refine oq 149 (.hs 133 0 [] 1 0 (r10.map str).length) rfl (ao rfl rfl (aB rfl rfl rfl (aM (la rfl rfl (fi (f:=str) (g:=str) (xs:=r4) rfl rfl (ci fE))) (aM (bd rfl) bb)) (PE hr10) (.inl (by simp[bW,cy,str,ky (f:=str) F9])) aY rfl rfl rfl)) ?_
  refine cq 7 [8,9] [.hs 133 0 [] 1 0 (r10.map str).length,I (0)] 181 ?_
  obtain⟨y17,hy17,hy171,hy172⟩:=bL h
  refine dT rfl ?_
  refine rf [2,3,5,6,7,8,9] [1,2,3,4,133] (Gn a_1 b_2 r7 r10 r4 x8 rfl 0 _ hy17 (fun r' e st hq=>hr r' (hy171 r' e) st hq) fun u17 hu=>?_)
  replace h:=hy172 u17 hu
  refine cq 6 [7] [I (aG (x8+1))] 53 ?_
  refine fx ?_
  exact rf [2,3,5,6,7] [1,2,3,4] (ih _ _ h hr hn :)
 ·refine aq 1 ?_
  exact rf [] [] (hn _ (an h) :) (hk:=hK)
theorem LK (a_1:Condition)(b_2:Condition)(r:Bool)(h:xw a_1 b_2=some r):ct tW Tryd.f24 [false,false] 0 (zt (a_1,b_2)) (zw r):=by
 show Run _ _ (zu (a_1,b_2) r) [.code EP] _
 refine rI 55 [(0,aa a_1),(1,aa b_2)] [] 1 ?_
 unfold xw at h
 refine ck 7 [2,3] [] [1,17] [] [.hp 1 0 [] 4 0 0,.hp 17 0 [] 4 0 0] [some ⟨0,4,[aa a_1]⟩,some ⟨0,4,[aa b_2]⟩] 49 (by kernel_rfl) ?_
 refine eX [0,0,3,0,15,31] rfl (by decide +kernel) ?_
 refine dq [] [] (.hs 49 0 [] 1 0 0) rfl (aZ rfl (d8 (f:=I) (xs:=[]) (z:=str ([])) (es:=[]) (ws:=[]) rfl rfl rfl (by decide) rfl (ba rfl) rfl)) ?_
 refine dq [1] [] (aa a_1) rfl (cZ rfl rfl) ?_
 obtain⟨r3,hr3,h⟩:=bS h
 refine dq [49] [49] (.hs 81 0 [] 1 0 (r3.map str).length) rfl (ao rfl rfl (aB rfl rfl rfl (cd (b7 rfl (dI (path:=[]) (m:=0) (es2:=[]) rfl rfl al rfl)) (aM (bd rfl) bb)) (nR hr3) (.inr rfl) (cf rfl rfl rfl eg aY) rfl rfl rfl)) ?_ (dj rfl rfl rfl rfl (cd (b7 rfl (dI (path:=[]) (m:=0) (es2:=[]) rfl rfl al rfl)) (aM (bd rfl) bb)) (nR hr3) (.inr rfl) rfl)
 refine dq [17] [] (aa b_2) rfl (cZ rfl rfl) ?_
 obtain⟨r4,hr4,h⟩:=bS h
 refine dq [81] [81] (.hs 113 0 [] 1 0 (r4.map str).length) rfl (ao rfl rfl (aB rfl rfl rfl (cd (b7 rfl (dI (path:=[]) rfl rfl al rfl)) (aM (bd rfl) bb)) (nR hr4) (.inr rfl) (cf rfl rfl rfl eg aY) rfl rfl rfl)) ?_ (dj rfl rfl rfl rfl (cd (b7 rfl (dI (path:=[]) rfl rfl al rfl)) (aM (bd rfl) bb)) (nR hr4) (.inr rfl) rfl)
 refine dk 1 [5] [.hs 113 0 [] 1 0 (r4.map str).length] ?_
 refine de 145 rfl rfl ?_
 refine aq 1 ?_
 refine eX [0,0,3,0,15,31,63] rfl (by decide +kernel) ?_
 refine dq [] [] (.hs 145 0 [] 1 0 0) rfl (aZ rfl (d8 (f:=I) (xs:=[]) (z:=I (0)) (es:=[]) (ws:=[]) rfl rfl rfl (by decide) rfl (ba rfl) rfl)) ?_
 refine dq [1] [] (aa a_1) rfl (cZ rfl rfl) ?_
 obtain⟨r5,hr5,h⟩:=bS h
 refine dq [145] [145] (.hs 177 0 [] 1 0 (r5.map I).length) rfl (ao rfl rfl (aB rfl rfl rfl (cd (b7 rfl (dI (path:=[]) (m:=0) (es2:=[]) rfl rfl al rfl)) (aM (bd rfl) bb)) (ze hr5) (.inr rfl) (cf rfl rfl rfl eg aY) rfl rfl rfl)) ?_ (dj rfl rfl rfl rfl (cd (b7 rfl (dI (path:=[]) (m:=0) (es2:=[]) rfl rfl al rfl)) (aM (bd rfl) bb)) (ze hr5) (.inr rfl) rfl)
 refine dq [17] [] (aa b_2) rfl (cZ rfl rfl) ?_
 obtain⟨r6,hr6,h⟩:=bS h
 refine dq [177] [177] (.hs 209 0 [] 1 0 (r6.map I).length) rfl (ao rfl rfl (aB rfl rfl rfl (cd (b7 rfl (dI (path:=[]) rfl rfl al rfl)) (aM (bd rfl) bb)) (ze hr6) (.inr rfl) (cf rfl rfl rfl eg aY) rfl rfl rfl)) ?_ (dj rfl rfl rfl rfl (cd (b7 rfl (dI (path:=[]) rfl rfl al rfl)) (aM (bd rfl) bb)) (ze hr6) (.inr rfl) rfl)
 obtain⟨r7,hr7,h⟩:=bS h
 refine dq [209] [209] (.hs 225 0 [] 1 0 (r7.map I).length) rfl (ao rfl rfl (aB rfl rfl rfl (cd (b7 rfl (dI (path:=[]) rfl rfl al rfl)) (aM (bd rfl) bb)) (EK hr7) (.inr rfl) (cf rfl rfl rfl eg aY) rfl rfl rfl)) ?_ (dj rfl rfl rfl rfl (cd (b7 rfl (dI (path:=[]) rfl rfl al rfl)) (aM (bd rfl) bb)) (EK hr7) (.inr rfl) rfl)
 refine dk 1 [6] [.hs 225 0 [] 1 0 (r7.map I).length] ?_
 refine de 257 rfl rfl ?_
 refine cq 6 [7] [I (0)] 273 ?_
 obtain⟨y18,hy18,hy181,hy182⟩:=bJ h
 refine dT rfl ?_
 refine rf [2,3,5,6,7] [1,17,113,225] (Gm a_1 b_2 r4 r7 rfl 0 _ hy18 (fun r' e st hq=>by rw[hy181 r' e] at hq;exact hq) fun u18 hu=>?_)
 replace h:=hy182 u18 hu
 refine cq 4 [4] [B true] 17 ?_
 obtain rfl:=sI h
 exact rP [B true]
theorem JF {G:dN}:dS G 24 xy:=gT 2 0 (aV CC (aV Ju (aV Cw (aV JQ (aV CA cJ))))) d3 Tryd.func24 (fun a r h=>LK a.1 a.2 r h)
def Eh:(Condition×Condition)→List V:=cA aa (oA aa)
def Ej (r:Bool×Bool):V×List V:=(.tup [B r.1,B r.2],[])
noncomputable def BZ :=bI [false,false] Eh Ej fun x=>Fe x.1 x.2
theorem QS {a_1:Condition}{b_2:Condition}{r}(h:Fe a_1 b_2=some r):BZ.F (Eh (a_1,b_2))=some (Ej r):=bg (cr aN (bl aN)) h
noncomputable def AJ :=bc Tryd.f7
noncomputable def Ei :=dZ [(22,rT),(24,xy),(23,rX)]
def sk (x:Condition×Condition)(r:Bool×Bool):St→Prop:=QF Ei Tryd.f7 [false,false] (Eh x) (Ej r)
theorem Oi (a_1:Condition)(b_2:Condition)(r:Bool×Bool)(h:Fe a_1 b_2=some r):ct Ei Tryd.f7 [false,false] 0 (Eh (a_1,b_2)) (Ej r):=by
 show Run _ _ (sk (a_1,b_2) r) [.code AJ] _
 refine rI 26 [(0,aa a_1),(1,aa b_2)] [] 1 ?_
 unfold Fe at h
 refine ck 9 [2,3] [] [1,17] [] [.hp 1 0 [] 4 0 0,.hp 17 0 [] 4 0 0] [some ⟨0,4,[aa a_1]⟩,some ⟨0,4,[aa b_2]⟩] 65 (by kernel_rfl) ?_
 refine eX [0,1,3,7,15,31,63,127,255,511,511,2047,511,8191,16383,32767,65535] rfl (by decide +kernel) ?_
 refine dq [1] [] (aa a_1) rfl (cZ rfl rfl) ?_
 obtain⟨r3,hr3,h⟩:=bS h
 refine dq [] [] (B r3) rfl (cP (tQ hr3)) ?_ (dj rfl rfl rfl rfl (aM (bd rfl) bb) (tQ hr3) (.inr rfl) rfl)
 refine dk 2 [9,8] [B (!r3),B (!r3)] ?_
 obtain⟨y4,hy4,hy41,hy42⟩:=bJ h
 have j4:∀u4,y4=.inr u4→Run Ei 0 (sk (a_1,b_2) r) (.code (cR (cL (cR AJ)))::.code (cR (cR AJ))::[]) (sT 26 [(2,.hp 1 0 [] 4 0 0),(3,.hp 2 0 [] 4 0 0),(22,B u4)] [⟨0,4,[aa a_1]⟩,⟨0,4,[aa b_2]⟩] 3):=by
  intro u4 hu
  replace h:=hy42 u4 hu
  refine sq h ?_ ?_<;>intro h
  ·refine cq 5 [4,5] [B false,B false] 35 ?_
   obtain rfl:=sI h
   exact rP [B false,B false]
  ·refine aq 1 ?_
   refine cq 4 [23,24] [aa a_1,aa b_2] 35 ?_
   obtain⟨r5,hr5,h⟩:=bS h
   refine oq 51 (B r5) rfl (cP (PC hr5)) ?_
   refine cq 3 [4,5] [B r5,B true] 83 ?_
   obtain rfl:=sI h
   exact rP [B r5,B true]
 have r4:∀r',y4=.inl r'→∀st,sk (a_1,b_2) r' st→(sk (a_1,b_2) r) st:=fun r' e st hq=>by rw[hy41 r' e] at hq;exact hq
 replace h:=hy4
 refine sp 9 h rfl ?_ ?_<;>intro h
 ·refine dk 13 [22,21,20,19,18,17,16,15,14,13,12,11,10] [B true,.und,.und,.und,.und,.und,.und,.und,B true,B true,.und,.und,.und] ?_
  refine de 337 rfl rfl ?_
  exact rf [2,3,22] [1,17] (j4 _ (an h) :)
 ·refine dy [17] [] (aa b_2) rfl (cZ rfl rfl) ?_
  obtain⟨r6,hr6,h⟩:=bS h
  refine dy [] [] (B r6) rfl (cP (tQ hr6)) ?_ (dj rfl rfl rfl rfl (aM (bd rfl) bb) (tQ hr6) (.inr rfl) rfl)
  refine dk 3 [14,13,12] [B (!r6),B (!r6),B (!r6)] ?_
  obtain⟨y7,hy7,hy71,hy72⟩:=bL h
  have j7:∀u7,y7=.inr u7→Run Ei 0 (sk (a_1,b_2) r) (.code (cR (cL (cR AJ)))::.code (cR (cR AJ))::[]) (sT 26 [(2,.hp 1 0 [] 4 0 0),(3,.hp 2 0 [] 4 0 0),(22,B u7)] [⟨0,4,[aa a_1]⟩,⟨0,4,[aa b_2]⟩] 3):=by
   intro u7 hu
   replace h:=hy72 u7 hu
   exact rf [2,3,22] [1,2] (j4 _ (an h) :)
  have r7:∀r',y7=.inl r'→∀st,sk (a_1,b_2) r' st→(sk (a_1,b_2) r) st:=fun r' e st hq=>r4 r' (hy71 r' e) st hq
  replace h:=hy7
  refine sp 14 h rfl ?_ ?_<;>intro h
  ·refine dk 8 [22,21,20,19,18,17,16,15] [B true,.und,.und,.und,.und,.und,.und,.und] ?_
   refine de 337 rfl rfl ?_
   exact rf [2,3,22] [1,17] (j7 _ (an h) :)
  ·refine dy [] [] (.hs 209 0 [] 1 0 0) rfl (aZ rfl (d8 (f:=I) (xs:=[]) (z:=str ([])) (es:=[]) (ws:=[]) rfl rfl rfl (by decide) rfl (ba rfl) rfl)) ?_
   refine dy [1] [] (aa a_1) rfl (cZ rfl rfl) ?_
   obtain⟨r8,hr8,h⟩:=bS h
   refine dy [209] [209] (.hs 241 0 [] 1 0 (r8.map str).length) rfl (ao rfl rfl (aB rfl rfl rfl (cd (b7 rfl (dI (path:=[]) (m:=0) (es2:=[]) rfl rfl al rfl)) (aM (bd rfl) bb)) (nR hr8) (.inr rfl) (cf rfl rfl rfl eg aY) rfl rfl rfl)) ?_ (dj rfl rfl rfl rfl (cd (b7 rfl (dI (path:=[]) (m:=0) (es2:=[]) rfl rfl al rfl)) (aM (bd rfl) bb)) (nR hr8) (.inr rfl) rfl)
   refine dy [17] [] (aa b_2) rfl (cZ rfl rfl) ?_
   obtain⟨r9,hr9,h⟩:=bS h
   refine dy [241] [241] (.hs 273 0 [] 1 0 (r9.map str).length) rfl (ao rfl rfl (aB rfl rfl rfl (cd (b7 rfl (dI (path:=[]) rfl rfl al rfl)) (aM (bd rfl) bb)) (nR hr9) (.inr rfl) (cf rfl rfl rfl eg aY) rfl rfl rfl)) ?_ (dj rfl rfl rfl rfl (cd (b7 rfl (dI (path:=[]) rfl rfl al rfl)) (aM (bd rfl) bb)) (nR hr9) (.inr rfl) rfl)
   refine dy [273] [] (I (len r9)) rfl (dD rfl rfl rfl (hI (f:=str) (xs:=r9) rfl rfl)) ?_
   refine dk 2 [22,21] [B (decide ((len r9)>10)),B (decide ((len r9)>10))] ?_
   refine de 337 rfl rfl ?_
   exact rf [2,3,22] [1,17] (j7 _ (an h) :)
theorem Mc {G:dN}:dS G 7 BZ:=gT 2 0 (aV Cz (aV JF (aV CC cJ))) d3 Tryd.func7 (fun a r h=>Oi a.1 a.2 r h)
def nI:((List Int)×Int)→List V:=cA (pU (V.int .u8)) (oA I)
def nJ (r:(List Int)):V×List V:=(.usl 1 (r.map (V.int .u8)),[])
noncomputable def ov :=bI [false,false] nI nJ fun x=>kA x.1 x.2
theorem GG {aI:List Int}{n_2:Int}{r}(h:kA aI n_2=some r):ov.F (nI (aI,n_2))=some (nJ r):=bg (cr (fN (jF (k:=.u8))) (bl ey)) h
noncomputable def wK :=bc Tryd.f9
noncomputable def qx :=dZ []
def wJ (x:(List Int)×Int)(r:(List Int)):St→Prop:=QF qx Tryd.f9 [false,false] (nI x) (nJ r)
theorem Ds (aI:List Int)(n_2:Int)(r:(List Int))(h:kA aI n_2=some r):ct qx Tryd.f9 [false,false] 0 (nI (aI,n_2)) (nJ r):=by
 show Run _ _ (wJ (aI,n_2) r) [.code wK] _
 refine rI 20 [(0,.isl false (aI.map (V.int .u8))),(1,I n_2)] [] 1 ?_
 unfold kA at h
 refine cq 9 [5,6] [I n_2,.isl false (aI.map (V.int .u8))] 49 ?_
 refine oq 65 (I (len aI)) rfl (dD rfl rfl rfl (fX rfl)) ?_
 refine cq 2 [8] [B (decide (n_2>(len aI)))] 81 ?_
 obtain⟨u3,hu3,h⟩:=lJ h
 have j3:Run qx 0 (wJ (aI,n_2) r) (.code (cR (cR wK))::[]) (sT 20 [(0,.isl false (aI.map (V.int .u8))),(1,I u3)] [] 1):=by
  refine aq 2 ?_
  refine oq 17 (.hs 1 0 [] 1 0 0) rfl (aZ rfl (d8 (f:=I) (xs:=[]) (z:=.int .u8 (0)) (es:=[]) (ws:=[]) rfl rfl rfl (by decide) rfl (ba rfl) rfl)) ?_
  refine cq 2 [12,13] [.isl false (aI.map (V.int .u8)),I u3] 49 ?_
  obtain⟨s4,hs4,h⟩:=bS h
  refine oq 65 (.isl false (s4.map (V.int .u8))) rfl (gH rfl rfl rfl rfl (Qm rfl rfl (fun _=>rfl) rfl rfl hs4)) ?_
  obtain⟨a5,ha5,h⟩:=bS h
  refine oq 81 (.hs 65 0 [] 1 0 (a5.map (V.int .u8)).length) rfl (fm rfl rfl rfl rfl rfl (gW (path:=[]) (es0:=[]) (f:=(V.int .u8)) (xs:=([]:List Int)) (ys:=s4) rfl rfl MY rfl rfl rfl rfl rfl (by decide) (fun _=>⟨rfl,rfl⟩) ha5 rfl ld)) ?_
  refine cq 2 [17] [.int .u8 (IntKind.u8.wrap u3)] 113 ?_
  refine oq 129 (.hs 113 0 [] 1 0 1) rfl (aZ rfl (d8 (f:=I) (xs:=[]) (z:=.int .u8 (0)) (es:=[.int .u8 (IntKind.u8.wrap u3)]) (ws:=[.int .u8 (IntKind.u8.wrap u3)]) rfl rfl rfl (by decide) rfl (ba rfl) rfl)) ?_
  obtain⟨a6,ha6,h⟩:=bS h
  refine oq 145 (.hs 129 0 [] 1 0 (a6.map (V.int .u8)).length) rfl (fm rfl rfl rfl rfl rfl (gW (path:=[]) (f:=(V.int .u8)) (xs:=a5) (ys:=[(IntKind.u8.wrap u3)]) rfl rfl (kX rfl rfl rfl) rfl rfl rfl al rfl (by decide) (fun _=>⟨rfl,rfl⟩) ha6 rfl ld)) ?_
  refine cq 2 [4] [.hs 129 0 [] 1 0 (a6.map (V.int .u8)).length] 161 ?_
  obtain rfl:=sI h
  exact bV rfl ⟨_,fin (vs:=[.hs 129 0 [] 1 0 (a6.map (V.int .u8)).length]) rfl (cF (gP rfl (cG rfl rfl)) cl) rfl (eI (eI d4)),dW⟩
 replace h:=hu3
 clear hu3
 refine rD h rfl rfl ?_ ?_<;>intro h
 ·refine cq 2 [9] [.isl false (aI.map (V.int .u8))] 97 ?_
  refine oq 113 (I (len aI)) rfl (dD rfl rfl rfl (fX rfl)) ?_
  refine cq 2 [1] [I (len aI)] 129 ?_
  subst h
  exact rf [0,1] [] (j3 :)
 ·refine aq 1 ?_
  subst h
  exact rf [0,1] [] (j3 :)
theorem Ca {G:dN}:dS G 9 ov:=gT 2 0 cJ d3 Tryd.func9 (fun a r h=>Ds a.1 a.2 r h)
def yJ:l1Cur→List V:=oA (tq eR)
def yK (r:(List ac)×l1Cur):V×List V:=(.usl 1 (r.1.map str),[.uptr (bZ r.2)])
noncomputable def xi :=bI [true] yJ yK fun x=>xh x
theorem Pm {c_2:l1Cur}{r}(h:xh c_2=some r):xi.F (yJ c_2)=some (yK r):=bg (bl (gS d9)) h
noncomputable def Je :=bc Tryd.f49
noncomputable def EF :=dZ [(14,gO),(39,rQ),(34,mY),(45,pr)]
def Jd (x:l1Cur)(r:(List ac)×l1Cur):St→Prop:=QF EF Tryd.f49 [true] (yJ x) (yK r)
theorem Gg (c_2:l1Cur):eo EF 1 (Jd c_2) (cL (cL (cR (cL (cR (cR Je)))))) 0 (qM c_2) (fun u=>(sT 18 [(3,.hs 2 0 [] 1 0 (u.2.2.2.map str).length)] [⟨0,3,[.agg [.isl false (u.1.map (V.int .u8)),I u.2.1,.int .u64 u.2.2.1]]⟩,⟨0,1,u.2.2.2.map str⟩] 3)) fun x3=>(sT 18 [(0,.hp 1 0 [] 3 0 0),(3,.hs 2 0 [] 1 0 (x3.2.2.2.2.map str).length),(4,I x3.1)] [⟨0,3,[.agg [.isl false (x3.2.1.map (V.int .u8)),I x3.2.2.1,.int .u64 x3.2.2.2.1]]⟩,⟨0,1,x3.2.2.2.2.map str⟩] 3):=hZ (v8 c_2) fun {Q K} hK self ih x3 y h hr hn=>by
 unfold kc at h
 refine cq 6 [9] [B (decide (x3.1>0))] 35 ?_
 refine sq h ?_ ?_<;>intro h
 ·refine aq 1 ?_
  refine cq 5 [12,13] [.hs 2 0 [] 1 0 (x3.2.2.2.2.map str).length,.hp 1 0 [] 3 0 0] 67 ?_
  obtain⟨r4,hr4,h⟩:=bS h
  refine oq 83 (.hs 67 0 [] 1 0 (r4.map str).length) rfl (ao rfl rfl (aB rfl rfl rfl bb (Jr hr4) (.inr rfl) aY rfl rfl rfl)) ?_
  obtain⟨r5,hr5,h⟩:=bS h
  refine oK 99 (str r5.1) rfl rfl (l5 rfl rfl (nU rfl rfl rfl rfl (cd (b7 rfl (cO (path:=[]) rfl rfl al)) (aM (la rfl rfl (fi (f:=str) (g:=str) (xs:=r4) rfl rfl (ci fE))) bb)) (yQ hr5) (cf rfl rfl rfl rfl aY) rfl rfl rfl)) ?_
  obtain⟨r6,hr6,h⟩:=bS h
  refine oq 115 (.hs 99 0 [] 1 0 (r6.map str).length) rfl (ao rfl rfl (aB rfl rfl rfl (cd (b7 rfl (dI (path:=[]) rfl rfl al rfl)) (aM (bd rfl) bb)) (ET hr6) (.inr rfl) (cf rfl rfl rfl eg aY) rfl rfl rfl)) ?_
  refine cq 8 [3,4] [.hs 99 0 [] 1 0 (r6.map str).length,I (aG (x3.1 - 1))] 179 ?_
  refine fx ?_
  exact rf [0,3,4] [1,99] (ih _ _ h hr hn :)
 ·refine aq 1 ?_
  exact rf [3] [1,2] (hn _ (an h) :) (hk:=hK)
theorem Lp (c_2:l1Cur)(r:(List ac)×l1Cur)(h:xh c_2=some r):ct EF Tryd.f49 [true] 1 (yJ c_2) (yK r):=by
 show Run _ _ (Jd c_2 r) [.code Je] _
 refine rI 18 [(0,.hp 1 0 [] 3 0 0)] [(1,some ⟨0,3,[bZ c_2]⟩)] 2 ?_
 unfold xh at h
 refine cq 6 [] [] 18 ?_
 refine oq 34 (.hs 18 0 [] 1 0 0) rfl (aZ rfl (d8 (f:=I) (xs:=[]) (z:=str ([])) (es:=[]) (ws:=[]) rfl rfl rfl (by decide) rfl (ba rfl) rfl)) ?_
 refine cq 6 [3,6] [.hs 18 0 [] 1 0 0,.hp 1 0 [] 3 0 0] 66 ?_
 obtain⟨r2,hr2,h⟩:=bS h
 refine oq 82 (I r2.1) rfl (ao rfl rfl (aB rfl rfl rfl (cd (b7 rfl (cO (path:=[]) rfl rfl al)) (aM (bd rfl) bb)) (gU hr2) (.inr rfl) (cf rfl rfl rfl rfl aY) rfl rfl rfl)) ?_
 refine cq 3 [4] [I r2.1] 98 ?_
 obtain⟨y7,hy7,hy71,hy72⟩:=bJ h
 refine dT rfl ?_
 refine rf [0,3,4] [1,18] (Gg c_2 rfl (r2.1,r2.2.f_code,r2.2.f_at,r2.2.f_seed,[]) _ hy7 (fun r' e st hq=>by rw[hy71 r' e] at hq;exact hq) fun u7 hu=>?_)
 replace h:=hy72 u7 hu
 refine cq 5 [2] [.hs 2 0 [] 1 0 (u7.2.2.2.map str).length] 35 ?_
 obtain rfl:=sI h
 exact bV rfl ⟨_,fin (vs:=[.hs 2 0 [] 1 0 (u7.2.2.2.map str).length]) rfl (cF (gP rfl (cG rfl rfl)) cl) rfl (eV rfl (gq rfl rfl) d4),iO dW⟩
theorem Jf {G:dN}:dS G 49 xi:=gT 1 1 (aV hY (aV Cy (aV p6 (aV uh cJ)))) d3 Tryd.func49 (fun a r h=>Lp a r h)
def tE:Int→List V:=oA I
def tF (r:ac):V×List V:=(str r,[])
noncomputable def tG (dR:Int→Option ac):Ent:=bI [false] tE tF dR
theorem vr (dR:Int→Option ac){x}{r}(h:dR x=some r):(tG dR).F (tE x)=some (tF r):=bg (bl ey) h
noncomputable def xk :=tG (aC pk)
theorem Pr {n_1:Int}{r}(h:EJ n_1=some r):xk.F (tE n_1)=some (tF r):=vr (aC pk) h
noncomputable def Pt :=bc Tryd.f50
noncomputable def Jm (dR:Int→Option ac):Env:=dZ [(50,(tG dR))]
def Ps (dR:Int→Option ac)(x:Int)(r:ac):St→Prop:=QF (Jm dR) Tryd.f50 [false] (tE x) (tF r)
theorem Lw (dR:Int→Option ac)(n_1:Int)(r:ac)(h:pj dR n_1=some r):ct (Jm dR) Tryd.f50 [false] 0 (tE n_1) (tF r):=by
 show Run _ _ (Ps dR n_1 r) [.code Pt] _
 refine rI 25 [(0,I n_1)] [] 1 ?_
 unfold pj at h
 refine cq 10 [4] [B (decide (n_1<0))] 49 ?_
 refine sq h ?_ ?_<;>intro h
 ·refine cq 4 [6] [I (aG (0 - n_1))] 81 ?_
  obtain⟨r2,hr2,h⟩:=bS h
  refine oq 97 (str r2) rfl (ao rfl rfl (aB rfl rfl rfl (aM (bd rfl) bb) (vr dR hr2) (.inr rfl) aY rfl rfl rfl)) ?_
  obtain⟨s3,hs3,h⟩:=bS h
  refine oq 113 (str s3) rfl (nD rfl rfl (Ip hs3)) ?_
  refine cq 2 [2] [str s3] 129 ?_
  obtain rfl:=sI h
  exact rP [str s3]
 ·refine aq 1 ?_
  refine cq 6 [10] [B (decide (n_1<10))] 81 ?_
  refine sq h ?_ ?_<;>intro h
  ·refine cq 5 [11,13] [I n_1,I (aG (n_1+1))] 129 ?_
   obtain⟨s4,hs4,h⟩:=bS h
   refine oq 145 (str s4) rfl (gH rfl rfl rfl rfl (vh rfl rfl rfl hs4)) ?_
   refine cq 2 [2] [str s4] 161 ?_
   obtain rfl:=sI h
   exact rP [str s4]
  ·refine aq 1 ?_
   refine aq 1 ?_
   refine eX [0,1,3,0,8,0,32,96,248,511,1023] rfl (by decide +kernel) ?_
   refine dk 2 [16,15] [I (aG (n_1.tdiv 10)),I n_1] ?_
   obtain⟨r5,hr5,h⟩:=bS h
   refine dq [] [] (str r5) rfl (ao rfl rfl (aB rfl rfl rfl (aM (bd rfl) bb) (vr dR hr5) (.inr rfl) aY rfl rfl rfl)) ?_ (dj rfl rfl rfl rfl (aM (bd rfl) bb) (vr dR hr5) (.inr rfl) rfl)
   refine dk 5 [22,21,20,19,18] [I (aG ((n_1.tmod 10)+1)),I (n_1.tmod 10),I n_1,I (n_1.tmod 10),I n_1] ?_
   obtain⟨s6,hs6,h⟩:=bS h
   refine dq [] [] (str s6) rfl (gH rfl rfl rfl rfl (vh rfl rfl rfl hs6)) ?_
   obtain⟨s7,hs7,h⟩:=bS h
   refine dq [] [] (str s7) rfl (nD rfl rfl (Ip hs7)) ?_
   refine dk 1 [2] [str s7] ?_
   refine de 257 rfl rfl ?_
   obtain rfl:=sI h
   exact rP [str s7]
theorem Jn {G:dN}:dS G 50 xk:=gQ fun dR g_Ffbj=>gT 1 0 (aV g_Ffbj cJ) d3 Tryd.func50 (fun a r h=>Lw dR a r h)
def yB:l1Cur→List V:=oA (tq eR)
def yC (r:(List ac)×l1Cur):V×List V:=(.usl 1 (r.1.map str),[.uptr (bZ r.2)])
noncomputable def xc :=bI [true] yB yC fun x=>xb x
theorem Pf {c_2:l1Cur}{r}(h:xb c_2=some r):xc.F (yB c_2)=some (yC r):=bg (bl (gS d9)) h
noncomputable def yD :=bc Tryd.f25
noncomputable abbrev NL :=cL (cL (cR (cL (cR (cR (cR (cL (cR (cL (cR (cR yD)))))))))))
noncomputable def tv :=dZ [(49,xi),(14,gO),(34,mY),(50,xk),(45,pr)]
def nP (x:l1Cur)(r:(List ac)×l1Cur):St→Prop:=QF tv Tryd.f25 [true] (yB x) (yC r)
theorem Gf (c_2:l1Cur):eo tv 1 (nP c_2) NL 1 (o7 c_2) (fun u=>(sT 33 [(3,.hs 2 0 [] 1 0 (u.2.2.2.map str).length)] [⟨0,3,[.agg [.isl false (u.1.map (V.int .u8)),I u.2.1,.int .u64 u.2.2.1]]⟩,⟨0,1,u.2.2.2.map str⟩] 3)) fun x8=>(sT 33 [(0,.hp 1 0 [] 3 0 0),(3,.hs 2 0 [] 1 0 (x8.2.2.2.2.map str).length),(4,I x8.1)] [⟨0,3,[.agg [.isl false (x8.2.1.map (V.int .u8)),I x8.2.2.1,.int .u64 x8.2.2.2.1]]⟩,⟨0,1,x8.2.2.2.2.map str⟩] 3):=hZ (v7 c_2) fun {Q K} hK self ih x8 y h hr hn=>by
 unfold lT at h
 refine cq 4 [19] [.hs 2 0 [] 1 0 (x8.2.2.2.2.map str).length] 19 ?_
 refine oq 35 (I (len x8.2.2.2.2)) rfl (dD rfl rfl rfl (hI (f:=str) (xs:=x8.2.2.2.2) rfl rfl)) ?_
 refine cq 1 [21] [.hp 1 0 [] 3 0 0] 51 ?_
 obtain⟨r9,hr9,h⟩:=bS h
 refine oq 67 (I r9.1) rfl (ao rfl rfl (aB rfl rfl rfl (cd (b7 rfl (cO (path:=[]) rfl rfl al)) (aM (bd rfl) bb)) (gU hr9) (.inr rfl) (cf rfl rfl rfl rfl aY) rfl rfl rfl)) ?_
 refine cq 3 [24] [B (decide ((len x8.2.2.2.2)<(aG (16+r9.1))))] 99 ?_
 refine sq h ?_ ?_<;>intro h
 ·refine aq 1 ?_
  refine cq 5 [27,28] [.hs 2 0 [] 1 0 (x8.2.2.2.2.map str).length,I x8.1] 131 ?_
  obtain⟨r10,hr10,h⟩:=bS h
  refine oq 147 (str r10) rfl (cP (Pr hr10)) ?_
  obtain⟨s11,hs11,h⟩:=bS h
  refine oq 163 (str s11) rfl (nD rfl rfl (Ip hs11)) ?_
  obtain⟨r12,hr12,h⟩:=bS h
  refine oq 179 (.hs 163 0 [] 1 0 (r12.map str).length) rfl (ao rfl rfl (aB rfl rfl rfl (cd (b7 rfl (dI (path:=[]) rfl rfl al rfl)) (aM (bd rfl) bb)) (ET hr12) (.inr rfl) (cf rfl rfl rfl eg aY) rfl rfl rfl)) ?_
  refine cq 8 [3,4] [.hs 163 0 [] 1 0 (r12.map str).length,I (aG (x8.1+1))] 243 ?_
  refine fx ?_
  exact rf [0,3,4] [1,163] (ih _ _ h hr hn :)
 ·refine aq 1 ?_
  exact rf [3] [1,2] (hn _ (an h) :) (hk:=hK)
theorem Li (c_2:l1Cur)(r:(List ac)×l1Cur)(h:xb c_2=some r):ct tv Tryd.f25 [true] 1 (yB c_2) (yC r):=by
 show Run _ _ (nP c_2 r) [.code yD] _
 refine rI 33 [(0,.hp 1 0 [] 3 0 0)] [(1,some ⟨0,3,[bZ c_2]⟩)] 2 ?_
 unfold xb at h
 refine cq 7 [5] [.hp 1 0 [] 3 0 0] 34 ?_
 obtain⟨r2,hr2,h⟩:=bS h
 refine oq 50 (.hs 34 0 [] 1 0 (r2.1.map str).length) rfl (ao rfl rfl (aB rfl rfl rfl (cd (b7 rfl (cO (path:=[]) rfl rfl al)) bb) (Pm hr2) (.inr rfl) (cf rfl rfl rfl rfl aY) rfl rfl rfl)) ?_
 refine cq 6 [3,7] [.hs 34 0 [] 1 0 (r2.1.map str).length,.hp 1 0 [] 3 0 0] 82 ?_
 obtain⟨r3,hr3,h⟩:=bS h
 refine oq 98 (I r3.1) rfl (ao rfl rfl (aB rfl rfl rfl (cd (b7 rfl (cO (path:=[]) rfl rfl al)) (aM (bd rfl) bb)) (gU hr3) (.inr rfl) (cf rfl rfl rfl rfl aY) rfl rfl rfl)) ?_
 refine cq 7 [9] [B (r3.1==0)] 130 ?_
 obtain⟨y4,hy4,hy41,hy42⟩:=bJ h
 have j4:∀u4,y4=.inr u4→Run tv 1 (nP c_2 r) (.blk 0::.code (cR (cR (cR yD)))::[]) (sT 33 [(3,.hs 2 0 [] 1 0 (u4.2.2.2.map str).length)] [⟨0,3,[.agg [.isl false (u4.1.map (V.int .u8)),I u4.2.1,.int .u64 u4.2.2.1]]⟩,⟨0,1,u4.2.2.2.map str⟩] 3):=by
  intro u4 hu
  replace h:=hy42 u4 hu
  refine cq 6 [2] [.hs 2 0 [] 1 0 (u4.2.2.2.map str).length] 35 ?_
  obtain rfl:=sI h
  exact bV rfl ⟨_,fin (vs:=[.hs 2 0 [] 1 0 (u4.2.2.2.map str).length]) rfl (cF (gP rfl (cG rfl rfl)) cl) rfl (eV rfl (gq rfl rfl) d4),iO dW⟩
 have r4:∀r',y4=.inl r'→∀st,nP c_2 r' st→(nP c_2 r) st:=fun r' e st hq=>by rw[hy41 r' e] at hq;exact hq
 replace h:=hy4
 refine sq h ?_ ?_<;>intro h
 ·refine cq 3 [11,12] [.hs 34 0 [] 1 0 (r2.1.map str).length,.hp 1 0 [] 3 0 0] 162 ?_
  refine oq 178 (.hs 162 0 [] 1 0 4) rfl (aZ rfl (d8 (f:=I) (xs:=[]) (z:=str ([])) (es:=[str ([97]:ac),str ([122,122]:ac),str ([]:ac),str ([111,114]:ac)]) (ws:=[str ([97]:ac),str ([122,122]:ac),str ([]:ac),str ([111,114]:ac)]) rfl rfl rfl (by decide) rfl (ba rfl) rfl)) ?_
  obtain⟨r5,hr5,h⟩:=bS h
  refine oK 194 (str r5.1) rfl rfl (l5 rfl rfl (nU rfl rfl rfl rfl (cd (b7 rfl (cO (path:=[]) rfl rfl al)) (aM (la rfl rfl (fi (f:=str) (g:=str) (xs:=[([97]:ac),([122,122]:ac),([]:ac),([111,114]:ac)]) rfl rfl (ci fE))) bb)) (yQ hr5) (cf rfl rfl rfl rfl aY) rfl rfl rfl)) ?_
  refine oq 210 (.hs 194 0 [] 1 0 1) rfl (aZ rfl (d8 (f:=I) (xs:=[]) (z:=str ([])) (es:=[str r5.1]) (ws:=[str r5.1]) rfl rfl rfl (by decide) rfl (ba rfl) rfl)) ?_
  obtain⟨a6,ha6,h⟩:=bS h
  refine oq 226 (.hs 210 0 [] 1 0 (a6.map str).length) rfl (fm rfl rfl rfl rfl rfl (gW (path:=[]) (f:=str) (xs:=r2.1) (ys:=[r5.1]) rfl rfl (kX rfl rfl rfl) rfl rfl rfl al rfl (by decide) js ha6 rfl ld)) ?_
  refine cq 2 [3] [.hs 210 0 [] 1 0 (a6.map str).length] 242 ?_
  exact rf [3] [1,210] (j4 _ (an h) :)
 ·refine cq 5 [17] [B (r3.1==1)] 162 ?_
  obtain⟨y7,hy7,hy71,hy72⟩:=bL h
  have j7:∀u7,y7=.inr u7→Run tv 1 (nP c_2 r) (.blk 0::.code (cR (cR (cR yD)))::[]) (sT 33 [(3,.hs 2 0 [] 1 0 (u7.2.2.2.map str).length)] [⟨0,3,[.agg [.isl false (u7.1.map (V.int .u8)),I u7.2.1,.int .u64 u7.2.2.1]]⟩,⟨0,1,u7.2.2.2.map str⟩] 3):=by
   intro u7 hu
   replace h:=hy72 u7 hu
   exact rf [3] [1,2] (j4 _ (an h) :)
  have r7:∀r',y7=.inl r'→∀st,nP c_2 r' st→(nP c_2 r) st:=fun r' e st hq=>r4 r' (hy71 r' e) st hq
  replace h:=hy7
  refine sq h ?_ ?_<;>intro h
  ·refine cq 5 [4] [I (0)] 178 ?_
   obtain⟨y13,hy13,hy131,hy132⟩:=bL h
   refine dT rfl ?_
   refine rf [0,3,4] [1,34] (Gf c_2 rfl (0,r3.2.f_code,r3.2.f_at,r3.2.f_seed,r2.1) _ hy13 (fun r' e st hq=>r7 r' (hy131 r' e) st hq) fun u13 hu=>?_)
   replace h:=hy132 u13 hu
   exact rf [3] [1,2] (j7 _ (an h) :)
  ·refine aq 1 ?_
   exact rf [3] [1,34] (j7 _ (an h) :)
theorem I8 {G:dN}:dS G 25 xc:=gT 1 1 (aV Jf (aV hY (aV p6 (aV Jn (aV uh cJ))))) d3 Tryd.func25 (fun a r h=>Li a r h)
def Ea:(List Int)→List V:=oA (pU (V.int .u8))
def Eb (r:Condition×(List ac)×Int):V×List V:=(.tup [ai r.1,.usl 1 (r.2.1.map str),I r.2.2],[])
noncomputable def BV :=bI [false] Ea Eb fun x=>Fc x
theorem QM {aI:List Int}{r}(h:Fc aI=some r):BV.F (Ea aI)=some (Eb r):=bg (bl (fN (jF (k:=.u8)))) h
noncomputable def QO :=bc Tryd.f8
noncomputable def Nn :=dZ [(13,vF),(25,xc),(26,pe)]
def QN (x:(List Int))(r:Condition×(List ac)×Int):St→Prop:=QF Nn Tryd.f8 [false] (Ea x) (Eb r)
theorem Oe (aI:List Int)(r:Condition×(List ac)×Int)(h:Fc aI=some r):ct Nn Tryd.f8 [false] 0 (Ea aI) (Eb r):=by
 show Run _ _ (QN aI r) [.code QO] _
 refine rI 16 [(0,.isl false (aI.map (V.int .u8)))] [] 1 ?_
 unfold Fc at h
 refine ck 3 [2] [] [1] [] [.hp 1 0 [] 4 0 0] [some ⟨0,4,[.agg [I (0),str ([]),I (0),.isl true []]]⟩] 17 (by kernel_rfl) ?_
 refine eS 1 [.agg [I (0),str ([]),I (0),.usl 4 (([]).map ae)]] rfl rfl (aO (fC (aO (.refl _) (aO (.refl _) (aO (.refl _) (aO (.nil _) dH))))) dH) ?_
 refine ck 13 [5,9] [] [81] [] [.hp 81 0 [] 3 0 0,.hp 81 0 [] 3 0 0] [some ⟨0,3,[.agg [.isl false (aI.map (V.int .u8)),I (0),.int .u64 (0)]]⟩] 129 (by kernel_rfl) ?_
 obtain⟨r2,hr2,h⟩:=bS h
 refine oq 145 (.agg [I r2.1.Op,str r2.1.Name,I r2.1.Day,.hs 129 0 [] 4 0 (r2.1.Parts.map ae).length]) rfl (ao rfl rfl (aB rfl rfl rfl (cd (b7 rfl (cO (path:=[]) rfl rfl al)) bb) (Eo hr2) (.inr rfl) (cf rfl rfl rfl rfl aY) rfl rfl rfl)) ?_
 refine cq 1 [11] [.hp 81 0 [] 3 0 0] 161 ?_
 obtain⟨r3,hr3,h⟩:=bS h
 refine oq 177 (.hs 161 0 [] 1 0 (r3.1.map str).length) rfl (ao rfl rfl (aB rfl rfl rfl (cd (b7 rfl (cO (path:=[]) rfl rfl al)) bb) (Pf hr3) (.inr rfl) (cf rfl rfl rfl rfl aY) rfl rfl rfl)) ?_
 refine cq 1 [13] [.hp 81 0 [] 3 0 0] 193 ?_
 refine oq 209 (.hs 193 0 [] 1 0 11) rfl (aZ rfl (d8 (f:=I) (xs:=[]) (z:=I (0)) (es:=[I (0),I (2),I (3),I (9),I (10),I (11),I (40),I (366),I (-1),I (36524),I (36525)]) (ws:=[I (0),I (2),I (3),I (9),I (10),I (11),I (40),I (366),I (-1),I (36524),I (36525)]) rfl rfl rfl (by decide) rfl (ba rfl) rfl)) ?_
 obtain⟨r4,hr4,h⟩:=bS h
 refine oK 225 (I r4.1) rfl rfl (l5 rfl rfl (nU rfl rfl rfl rfl (cd (b7 rfl (cO (path:=[]) rfl rfl al)) (aM (la rfl rfl (fi (f:=I) (g:=I) (xs:=[0,2,3,9,10,11,40,366,(-1),36524,36525]) rfl rfl (ci Es))) bb)) (El hr4) (cf rfl rfl rfl rfl aY) rfl rfl rfl)) ?_
 refine o0 241 rfl rfl (ie rfl rfl (fM (path:=[]) (pl:=false) (e':=ai r2.1) (es2':=[ai r2.1]) rfl (ec (au (ay rfl) (au (ay rfl) (au (ay rfl) (au (cG rfl rfl) ed))))) rfl rfl rfl al rfl rfl rfl rfl rfl d5 2 rfl)) ?_
 refine cq 3 [3,4] [.hs 161 0 [] 1 0 (r3.1.map str).length,I r4.1] 273 ?_
 obtain rfl:=sI h
 exact bV rfl ⟨_,fin (vs:=[.agg [I r2.1.Op,str r2.1.Name,I r2.1.Day,.hs 1 2 [(0,3)] 4 0 (r2.1.Parts.map ae).length],.hs 161 0 [] 1 0 (r3.1.map str).length,I r4.1]) (kE (gl rfl rfl rfl) (kE rfl (kE rfl oz))) (cF (ec (au (ay rfl) (au (ay rfl) (au (ay rfl) (au (fh (path:=[(0,3)]) rfl rfl (eL rfl rfl al) rfl (ir (path:=[]) (i:=0) (k:=3) (e':=.agg [I r2.1.Op,str r2.1.Name,I r2.1.Day,.dead]) (es2':=[.agg [I r2.1.Op,str r2.1.Name,I r2.1.Day,.dead]]) al rfl rfl rfl d5)) ed))))) (cF (gP rfl (cG rfl rfl)) (cF (dh rfl) cl))) rfl (eI d4),dW⟩
theorem L9 {G:dN}:dS G 8 BV:=gT 1 0 (aV Ff (aV I8 (aV sn cJ))) d3 Tryd.func8 (fun a r h=>Oe a r h)
def zg:(List ac)→List V:=oA (pU str)
def zi (r:Bool):V×List V:=(B r,[])
noncomputable def xo :=bI [false] zg zi fun x=>xm x
theorem Py {aR:List ac}{r}(h:xm aR=some r):xo.F (zg aR)=some (zi r):=bg (bl (fN cz)) h
noncomputable def Jv :=bc Tryd.f27
noncomputable abbrev jM :=cL (cL (cR (cL (cR Jv))))
noncomputable def qQ :=dZ [(51,rV)]
def zh (x:(List ac))(r:Bool):St→Prop:=QF qQ Tryd.f27 [false] (zg x) (zi r)
theorem Gj (aR:List ac):eo qQ 0 (zh aR) jM 0 (ix aR) (fun u=>(sT 39 [(0,.isl false (aR.map str))] [] 1)) fun x2=>(sT 39 [(0,.isl false (aR.map str)),(3,I x2)] [] 1):=hZ (wc aR) fun {Q K} hK self ih x2 y h hr hn=>by
 unfold jf at h
 refine cq 5 [4,5] [I x2,.isl false (aR.map str)] 33 ?_
 refine oq 49 (I (len aR)) rfl (dD rfl rfl rfl (fX rfl)) ?_
 refine cq 2 [8] [B (decide (x2<(len aR)))] 81 ?_
 obtain⟨u3,hu3,h⟩:=lJ h
 have j3:Run qQ 0 Q (.code (cR (cL jM))::.code (cR jM)::.lp jM::.blk 0::K) (sT 39 [(0,.isl false (aR.map str)),(3,I x2),(11,B u3)] [] 1):=by
  refine sq h ?_ ?_<;>intro h
  ·refine aq 1 ?_
   refine aq 3 ?_
   refine eX [0,0,3,7,15,31,63,127,255,511,1023,1023,3071,8191,16383,1023,1023,99327,230399,524287,1048575,2097151] rfl (by decide +kernel) ?_
   refine dk 2 [15,14] [I x2,.isl false (aR.map str)] ?_
   obtain⟨e4,he4,h⟩:=bS h
   refine dq [] [] (.iptr (str e4) 0) rfl (aJ rfl rfl rfl (dV rfl rfl rfl rfl he4)) ?_
   refine dq [] [] (str e4) rfl (cZ rfl rfl) ?_
   obtain⟨r5,hr5,h⟩:=bS h
   refine dq [] [] (B r5) rfl (cP (EQ hr5)) ?_ (dj rfl rfl rfl rfl (aM (bd rfl) bb) (EQ hr5) (.inr rfl) rfl)
   refine dk 2 [20,19] [B (!r5),B (!r5)] ?_
   obtain⟨y6,hy6,hy61,hy62⟩:=bL h
   have j6:∀u6,y6=.inr u6→Run qQ 0 Q (.code (cR (cL (cL (cR jM))))::.blk 1::.code (cR (cR jM))::.lp jM::.blk 0::K) (sT 39 [(0,.isl false (aR.map str)),(3,I x2),(35,B u6)] [] 1):=by
    intro u6 hu
    replace h:=hy62 u6 hu
    refine sq h ?_ ?_<;>intro h
    ·refine cq 4 [2] [B false] 17 ?_
     exact bV rfl (hr _ (an h) _ (qp [B false]))
    ·refine aq 1 ?_
     refine cq 6 [3] [I (aG (x2+1))] 49 ?_
     refine fx ?_
     exact rf [0,3] [] (ih _ _ h hr hn :)
   have r6:∀r',y6=.inl r'→∀st,zh aR r' st→Q st:=fun r' e st hq=>hr r' (hy61 r' e) st hq
   replace h:=hy6
   refine sp 20 h rfl ?_ ?_<;>intro h
   ·refine dk 15 [35,34,33,32,31,30,29,28,27,26,25,24,23,22,21] [B true,.und,.und,.und,.und,.und,.und,.und,.und,.und,.und,.und,.und,.und,.und] ?_
    refine de 353 rfl rfl ?_
    exact rf [0,3,35] [] (j6 _ (an h) :)
   ·refine dk 3 [23,22,21] [B (decide (x2>0)),B (decide (x2>0)),I x2] ?_
    obtain⟨y7,hy7,hy71,hy72⟩:=bL h
    have j7:∀u7,y7=.inr u7→Run qQ 0 Q (.code (cR (cL (cL (cR jM))))::.blk 1::.code (cR (cR jM))::.lp jM::.blk 0::K) (sT 39 [(0,.isl false (aR.map str)),(3,I x2),(35,B u7)] [] 1):=by
     intro u7 hu
     replace h:=hy72 u7 hu
     exact rf [0,3,35] [] (j6 _ (an h) :)
    have r7:∀r',y7=.inl r'→∀st,zh aR r' st→Q st:=fun r' e st hq=>r6 r' (hy71 r' e) st hq
    replace h:=hy7
    refine sp 23 h rfl ?_ ?_<;>intro h
    ·refine dk 3 [26,25,24] [I (aG (x2 - 1)),I x2,.isl false (aR.map str)] ?_
     obtain⟨e8,he8,h⟩:=bS h
     refine dy [] [] (.iptr (str e8) 0) rfl (aJ rfl rfl rfl (dV rfl rfl rfl rfl he8)) ?_
     refine dy [] [] (str e8) rfl (cZ rfl rfl) ?_
     refine dk 2 [30,29] [I x2,.isl false (aR.map str)] ?_
     obtain⟨e9,he9,h⟩:=bS h
     refine dy [] [] (.iptr (str e9) 0) rfl (aJ rfl rfl rfl (dV rfl rfl rfl rfl he9)) ?_
     refine dy [] [] (str e9) rfl (cZ rfl rfl) ?_
     refine dk 3 [35,34,33] [B (!(Op.bytesLess e8 e9)),B (!(Op.bytesLess e8 e9)),B (!(Op.bytesLess e8 e9))] ?_
     refine de 353 rfl rfl ?_
     exact rf [0,3,35] [] (j7 _ (an h) :)
    ·refine dk 12 [35,34,33,32,31,30,29,28,27,26,25,24] [B false,B false,.und,.und,.und,.und,.und,.und,.und,.und,.und,.und] ?_
     refine de 353 rfl rfl ?_
     exact rf [0,3,35] [] (j7 _ (an h) :)
  ·refine aq 1 ?_
   exact rf [0] [] (hn _ (an h) :) (hk:=hK)
 replace h:=hu3
 clear hu3
 refine sp 8 h rfl ?_ ?_<;>intro h
 ·refine cq 4 [11] [B (decide (x2≤16))] 129 ?_
  subst h
  exact rf [0,3,11] [] (j3 :)
 ·refine cq 4 [11] [B false] 129 ?_
  subst h
  exact rf [0,3,11] [] (j3 :)
theorem LC (aR:List ac)(r:Bool)(h:xm aR=some r):ct qQ Tryd.f27 [false] 0 (zg aR) (zi r):=by
 show Run _ _ (zh aR r) [.code Jv] _
 refine rI 39 [(0,.isl false (aR.map str))] [] 1 ?_
 unfold xm at h
 refine cq 10 [3] [I (0)] 33 ?_
 obtain⟨y10,hy10,hy101,hy102⟩:=bJ h
 refine dT rfl ?_
 refine rf [0,3] [] (Gj aR rfl 0 _ hy10 (fun r' e st hq=>by rw[hy101 r' e] at hq;exact hq) fun u10 hu=>?_)
 replace h:=hy102 u10 hu
 refine cq 3 [36] [.isl false (aR.map str)] 17 ?_
 refine oq 33 (I (len aR)) rfl (dD rfl rfl rfl (fX rfl)) ?_
 refine cq 3 [2] [B (decide ((len aR)≤16))] 65 ?_
 obtain rfl:=sI h
 exact rP [B (decide ((len aR)≤16))]
theorem Jw {G:dN}:dS G 27 xo:=gT 1 0 (aV CB cJ) d3 Tryd.func27 (fun a r h=>LC a r h)
def Ee:(Condition×(List ac)×Int)→List V:=cA aa (cA (pU str) (oA I))
def Eg (r:Bool×Bool):V×List V:=(.tup [B r.1,B r.2],[])
noncomputable def BX :=bI [false,false,false] Ee Eg fun x=>AH x.1 x.2.1 x.2.2
theorem Ie {c_1:Condition}{aD:List ac}{aX:Int}{r}(h:AH c_1 aD aX=some r):BX.F (Ee (c_1,aD,aX))=some (Eg r):=bg (cr aN (cr (fN cz) (bl ey))) h
noncomputable def AI :=bc Tryd.f10
noncomputable def Ef :=dZ [(22,rT),(29,rU),(27,xo),(28,rN)]
def sj (x:Condition×(List ac)×Int)(r:Bool×Bool):St→Prop:=QF Ef Tryd.f10 [false,false,false] (Ee x) (Eg r)
theorem Oh (c_1:Condition)(aD:List ac)(aX:Int)(r:Bool×Bool)(h:AH c_1 aD aX=some r):ct Ef Tryd.f10 [false,false,false] 0 (Ee (c_1,aD,aX)) (Eg r):=by
 show Run _ _ (sj (c_1,aD,aX) r) [.code AI] _
 refine rI 25 [(0,aa c_1),(1,.isl false (aD.map str)),(2,I aX)] [] 1 ?_
 unfold AH at h
 refine ck 10 [3,8] [] [1] [] [.hp 1 0 [] 4 0 0,aa c_1] [some ⟨0,4,[aa c_1]⟩] 65 (by kernel_rfl) ?_
 obtain⟨r4,hr4,h⟩:=bS h
 refine oq 81 (B r4) rfl (cP (tQ hr4)) ?_
 refine cq 2 [11] [B (!r4)] 113 ?_
 obtain⟨y5,hy5,hy51,hy52⟩:=bJ h
 have j5:∀u5,y5=.inr u5→Run Ef 0 (sj (c_1,aD,aX) r) (.code (cR (cL (cR AI)))::.code (cR (cR AI))::[]) (sT 25 [(1,.isl false (aD.map str)),(2,I aX),(3,.hp 1 0 [] 4 0 0),(20,B u5)] [⟨0,4,[aa c_1]⟩] 2):=by
  intro u5 hu
  replace h:=hy52 u5 hu
  refine sq h ?_ ?_<;>intro h
  ·refine cq 5 [6,7] [B false,B false] 34 ?_
   obtain rfl:=sI h
   exact rP [B false,B false]
  ·refine aq 1 ?_
   refine cq 5 [21,22,23] [aa c_1,.isl false (aD.map str),I aX] 50 ?_
   obtain⟨r6,hr6,h⟩:=bS h
   refine oq 66 (B r6) rfl (cP (tT hr6)) ?_
   refine cq 3 [6,7] [B r6,B true] 98 ?_
   obtain rfl:=sI h
   exact rP [B r6,B true]
 have r5:∀r',y5=.inl r'→∀st,sj (c_1,aD,aX) r' st→(sj (c_1,aD,aX) r) st:=fun r' e st hq=>by rw[hy51 r' e] at hq;exact hq
 replace h:=hy5
 refine sp 11 h rfl ?_ ?_<;>intro h
 ·refine cq 10 [20] [B true] 257 ?_
  exact rf [1,2,3,20] [1] (j5 _ (an h) :)
 ·refine cq 1 [12] [.isl false (aD.map str)] 129 ?_
  obtain⟨r7,hr7,h⟩:=bS h
  refine oy 145 (B r7) rfl (cP (Py hr7)) ?_
  refine cq 3 [16] [B (!r7)] 193 ?_
  obtain⟨y8,hy8,hy81,hy82⟩:=bL h
  have j8:∀u8,y8=.inr u8→Run Ef 0 (sj (c_1,aD,aX) r) (.code (cR (cL (cR AI)))::.code (cR (cR AI))::[]) (sT 25 [(1,.isl false (aD.map str)),(2,I aX),(3,.hp 1 0 [] 4 0 0),(20,B u8)] [⟨0,4,[aa c_1]⟩] 2):=by
   intro u8 hu
   replace h:=hy82 u8 hu
   exact rf [1,2,3,20] [1] (j5 _ (an h) :)
  have r8:∀r',y8=.inl r'→∀st,sj (c_1,aD,aX) r' st→(sj (c_1,aD,aX) r) st:=fun r' e st hq=>r5 r' (hy81 r' e) st hq
  replace h:=hy8
  refine sp 16 h rfl ?_ ?_<;>intro h
  ·refine cq 5 [20] [B true] 257 ?_
   exact rf [1,2,3,20] [1] (j8 _ (an h) :)
  ·refine cq 1 [17] [I aX] 209 ?_
   obtain⟨r9,hr9,h⟩:=bS h
   refine oy 225 (B r9) rfl (cP (Jp hr9)) ?_
   refine cq 3 [20] [B (!r9)] 257 ?_
   exact rf [1,2,3,20] [1] (j8 _ (an h) :)
theorem Mb {G:dN}:dS G 10 BX:=gT 3 0 (aV Cz (aV CA (aV Jw (aV Cx cJ)))) d3 Tryd.func10 (fun a r h=>Oh a.1 a.2.1 a.2.2 r h)
def DT:(Condition×Condition×Bool)→List V:=cA aa (cA aa (oA B))
def DU (r:Bool×Bool):V×List V:=(.tup [B r.1,B r.2],[])
noncomputable def BQ :=bI [false,false,false] DT DU fun x=>E6 x.1 x.2.1 x.2.2
theorem QC {a_1:Condition}{b_2:Condition}{aQ:Bool}{r}(h:E6 a_1 b_2 aQ=some r):BQ.F (DT (a_1,b_2,aQ))=some (DU r):=bg (cr aN (cr aN (bl Qp))) h
noncomputable def DV :=bc Tryd.f30
noncomputable abbrev E7 :=cL (cL (cR (cL (cR (cR (cL (cL (cR (cR (cL (cL (cR (cL (cR (cR (cR (cR DV)))))))))))))))))
noncomputable abbrev Ay :=cL (cL (cR (cR (cR (cR (cL (cL (cR (cR (cL (cL (cR (cL (cR (cR (cR (cR DV)))))))))))))))))
noncomputable def si :=dZ [(19,lY),(18,vC),(20,pd),(21,vz)]
def vD (x:Condition×Condition×Bool)(r:Bool×Bool):St→Prop:=QF si Tryd.f30 [false,false,false] (DT x) (DU r)
theorem H4 (a_1:Condition)(b_2:Condition)(aQ:Bool)(r6:(List ac))(x10:Int)(r8:(List Int))(q9:Int):eo si 0 (vD (a_1,b_2,aQ)) E7 2 (ri a_1 b_2 aQ r6 x10 r8 q9) (fun u=>(sT 73 [(2,B aQ),(3,.hp 1 0 [] 4 0 0),(4,.hp 2 0 [] 4 0 0),(8,.hs 3 0 [] 1 0 (r6.map str).length),(9,.hs 4 0 [] 1 0 (r8.map I).length),(11,.hs 5 0 [] 1 0 (u.map str).length),(31,I q9),(32,I x10)] [⟨0,4,[aa a_1]⟩,⟨0,4,[aa b_2]⟩,⟨0,1,r6.map str⟩,⟨0,1,r8.map I⟩,⟨0,1,u.map str⟩] 6)) fun x11=>(sT 73 [(2,B aQ),(3,.hp 1 0 [] 4 0 0),(4,.hp 2 0 [] 4 0 0),(8,.hs 3 0 [] 1 0 (r6.map str).length),(9,.hs 4 0 [] 1 0 (r8.map I).length),(10,I x10),(11,.hs 5 0 [] 1 0 (x11.2.map str).length),(31,I q9),(32,I x10),(36,.hs 3 0 [] 1 0 (r6.map str).length),(37,I (len r6)),(38,I x11.1)] [⟨0,4,[aa a_1]⟩,⟨0,4,[aa b_2]⟩,⟨0,1,r6.map str⟩,⟨0,1,r8.map I⟩,⟨0,1,x11.2.map str⟩] 6):=hZ (AB a_1 b_2 aQ r6 x10 r8 q9) fun {Q K} hK self ih x11 y h hr hn=>by
 unfold lK at h
 refine cq 5 [39] [B (decide (x11.1<(len r6)))] 22 ?_
 refine sq h ?_ ?_<;>intro h
 ·refine aq 1 ?_
  refine cq 5 [40] [I x11.1] 38 ?_
  obtain⟨e12,he12,h⟩:=bS h
  refine oq 54 (.hp 3 0 [] 1 (0+Int.toNat x11.1) 0) rfl (aJ rfl rfl rfl (gB (f:=str) (xs:=r6) rfl rfl rfl he12)) ?_
  refine oq 70 (str e12) rfl (cZ rfl (iE (path:=[]) rfl rfl rfl al (fD (f:=str) (xs:=r6) he12) rfl rfl rfl)) ?_
  refine cq 7 [13,43,44] [str e12,I x10,I x11.1] 134 ?_
  obtain⟨q13,hq13,h⟩:=bS h
  refine oq 150 (I q13) rfl (nD rfl rfl (Ir hq13)) ?_
  refine cq 3 [47] [B ((lc .i64 q13 1)==1)] 182 ?_
  obtain⟨y14,hy14,hy141,hy142⟩:=bL h
  have j14:∀u14,y14=.inr u14→Run si 0 Q (.blk 3::.code (cR (cR (cR E7)))::.lp E7::.blk 2::K) (sT 73 [(2,B aQ),(3,.hp 1 0 [] 4 0 0),(4,.hp 2 0 [] 4 0 0),(8,.hs 3 0 [] 1 0 (r6.map str).length),(9,.hs 4 0 [] 1 0 (r8.map I).length),(10,I x10),(11,.hs 5 0 [] 1 0 (u14.map str).length),(31,I q9),(32,I x10),(36,.hs 3 0 [] 1 0 (r6.map str).length),(37,I (len r6)),(38,I x11.1)] [⟨0,4,[aa a_1]⟩,⟨0,4,[aa b_2]⟩,⟨0,1,r6.map str⟩,⟨0,1,r8.map I⟩,⟨0,1,u14.map str⟩] 6):=by
   intro u14 hu
   replace h:=hy142 u14 hu
   refine cq 5 [38] [I (aG (x11.1+1))] 38 ?_
   refine fx ?_
   exact rf [2,3,4,8,9,10,11,31,32,36,37,38] [1,2,3,4,5] (ih _ _ h hr hn :)
  have r14:∀r',y14=.inl r'→∀st,vD (a_1,b_2,aQ) r' st→Q st:=fun r' e st hq=>hr r' (hy141 r' e) st hq
  replace h:=hy14
  refine sq h ?_ ?_<;>intro h
  ·refine cq 3 [48,49] [.hs 5 0 [] 1 0 (x11.2.map str).length,str e12] 214 ?_
   refine oq 230 (.hs 214 0 [] 1 0 1) rfl (aZ rfl (d8 (f:=I) (xs:=[]) (z:=str ([])) (es:=[str e12]) (ws:=[str e12]) rfl rfl rfl (by decide) rfl (ba rfl) rfl)) ?_
   obtain⟨a15,ha15,h⟩:=bS h
   refine oq 246 (.hs 230 0 [] 1 0 (a15.map str).length) rfl (fm rfl rfl rfl rfl rfl (gW (path:=[]) (f:=str) (xs:=x11.2) (ys:=[e12]) rfl rfl (kX rfl rfl rfl) rfl rfl rfl al rfl (by decide) js ha15 rfl ld)) ?_
   refine cq 2 [11] [.hs 230 0 [] 1 0 (a15.map str).length] 262 ?_
   exact rf [2,3,4,8,9,10,11,31,32,36,37,38] [1,2,3,4,230] (j14 _ (an h) :)
  ·refine aq 1 ?_
   exact rf [2,3,4,8,9,10,11,31,32,36,37,38] [1,2,3,4,5] (j14 _ (an h) :)
 ·refine aq 1 ?_
  exact rf [2,3,4,8,9,11,31,32] [1,2,3,4,5] (hn _ (an h) :) (hk:=hK)
theorem H5 (a_1:Condition)(b_2:Condition)(aQ:Bool)(r8:(List Int))(u16:(List ac))(r6:(List ac))(q9:Int)(x10:Int):eo si 0 (vD (a_1,b_2,aQ)) Ay 4 (pz a_1 b_2 aQ r8 u16 r6 q9 x10) (fun u=>(sT 73 [(2,B aQ),(3,.hp 1 0 [] 4 0 0),(4,.hp 2 0 [] 4 0 0),(8,.hs 3 0 [] 1 0 (r6.map str).length),(9,.hs 4 0 [] 1 0 (r8.map I).length),(31,I q9),(32,I x10)] [⟨0,4,[aa a_1]⟩,⟨0,4,[aa b_2]⟩,⟨0,1,r6.map str⟩,⟨0,1,r8.map I⟩] 5)) fun x17=>(sT 73 [(2,B aQ),(3,.hp 1 0 [] 4 0 0),(4,.hp 2 0 [] 4 0 0),(8,.hs 3 0 [] 1 0 (r6.map str).length),(9,.hs 4 0 [] 1 0 (r8.map I).length),(11,.hs 5 0 [] 1 0 (u16.map str).length),(31,I q9),(32,I x10),(53,.hs 4 0 [] 1 0 (r8.map I).length),(54,I (len r8)),(55,I x17)] [⟨0,4,[aa a_1]⟩,⟨0,4,[aa b_2]⟩,⟨0,1,r6.map str⟩,⟨0,1,r8.map I⟩,⟨0,1,u16.map str⟩] 6):=hZ (AC a_1 b_2 aQ r8 u16 r6 q9 x10) fun {Q K} hK self ih x17 y h hr hn=>by
 unfold lL at h
 refine cq 5 [56] [B (decide (x17<(len r8)))] 22 ?_
 refine sq h ?_ ?_<;>intro h
 ·refine aq 1 ?_
  refine aq 4 ?_
  obtain⟨e18,he18,h⟩:=bS h
  refine oq 38 (.hp 4 0 [] 1 (0+Int.toNat x17) 0) rfl (aJ rfl rfl rfl (gB (f:=I) (xs:=r8) rfl rfl rfl he18)) ?_
  refine oq 54 (I e18) rfl (cZ rfl (iE (path:=[]) rfl rfl rfl al (fD (f:=I) (xs:=r8) he18) rfl rfl rfl)) ?_
  refine cq 7 [15,59,60,61] [I e18,aa a_1,.hs 5 0 [] 1 0 (u16.map str).length,I e18] 118 ?_
  obtain⟨r19,hr19,h⟩:=bS h
  refine oq 134 (B r19) rfl (ao rfl rfl (aB rfl rfl rfl (aM (bd rfl) (aM (la rfl rfl (fi (f:=str) (g:=str) (xs:=u16) rfl rfl (ci fE))) (aM (bd rfl) bb))) (DK hr19) (.inl rfl) aY rfl rfl rfl)) ?_
  refine cq 1 [63] [B r19] 150 ?_
  obtain⟨y20,hy20,hy201,hy202⟩:=bL h
  have j20:∀u20,y20=.inr u20→Run si 0 Q (.code (cR (cR (cL (cL (cR (cR Ay))))))::.blk 5::.code (cR (cR (cR Ay)))::.lp Ay::.blk 4::K) (sT 73 [(2,B aQ),(3,.hp 1 0 [] 4 0 0),(4,.hp 2 0 [] 4 0 0),(8,.hs 3 0 [] 1 0 (r6.map str).length),(9,.hs 4 0 [] 1 0 (r8.map I).length),(11,.hs 5 0 [] 1 0 (u16.map str).length),(31,I q9),(32,I x10),(53,.hs 4 0 [] 1 0 (r8.map I).length),(54,I (len r8)),(55,I x17),(70,B u20)] [⟨0,4,[aa a_1]⟩,⟨0,4,[aa b_2]⟩,⟨0,1,r6.map str⟩,⟨0,1,r8.map I⟩,⟨0,1,u16.map str⟩] 6):=by
   intro u20 hu
   replace h:=hy202 u20 hu
   refine sq h ?_ ?_<;>intro h
   ·refine cq 5 [6,7] [B true,B true] 38 ?_
    exact bV rfl (hr _ (an h) _ (qp [B true,B true]))
   ·refine aq 1 ?_
    refine cq 5 [55] [I (aG (x17+1))] 38 ?_
    refine fx ?_
    exact rf [2,3,4,8,9,11,31,32,53,54,55] [1,2,3,4,5] (ih _ _ h hr hn :)
  have r20:∀r',y20=.inl r'→∀st,vD (a_1,b_2,aQ) r' st→Q st:=fun r' e st hq=>hr r' (hy201 r' e) st hq
  replace h:=hy20
  refine sp 63 h rfl ?_ ?_<;>intro h
  ·refine cq 3 [64,65,66] [aa b_2,.hs 5 0 [] 1 0 (u16.map str).length,I e18] 198 ?_
   obtain⟨r21,hr21,h⟩:=bS h
   refine oy 214 (B r21) rfl (ao rfl rfl (aB rfl rfl rfl (aM (bd rfl) (aM (la rfl rfl (fi (f:=str) (g:=str) (xs:=u16) rfl rfl (ci fE))) (aM (bd rfl) bb))) (DK hr21) (.inl rfl) aY rfl rfl rfl)) ?_
   refine cq 4 [70] [B (r21==aQ)] 262 ?_
   exact rf [2,3,4,8,9,11,31,32,53,54,55,70] [1,2,3,4,5] (j20 _ (an h) :)
  ·refine cq 8 [70] [B false] 262 ?_
   exact rf [2,3,4,8,9,11,31,32,53,54,55,70] [1,2,3,4,5] (j20 _ (an h) :)
 ·refine aq 1 ?_
  exact rf [2,3,4,8,9,31,32] [1,2,3,4] (hn _ (an h) :) (hk:=hK)
theorem H3 (a_1:Condition)(b_2:Condition)(aQ:Bool)(q9:Int)(r6:(List ac))(r8:(List Int)):eo si 0 (vD (a_1,b_2,aQ)) (cL (cL (cR (cL (cR (cR (cR (cR DV)))))))) 0 (py a_1 b_2 aQ q9 r6 r8) (fun u=>(sT 73 [] [] 1)) fun x10=>(sT 73 [(2,B aQ),(3,.hp 1 0 [] 4 0 0),(4,.hp 2 0 [] 4 0 0),(8,.hs 3 0 [] 1 0 (r6.map str).length),(9,.hs 4 0 [] 1 0 (r8.map I).length),(31,I q9),(32,I x10)] [⟨0,4,[aa a_1]⟩,⟨0,4,[aa b_2]⟩,⟨0,1,r6.map str⟩,⟨0,1,r8.map I⟩] 5):=hZ (Az a_1 b_2 aQ q9 r6 r8) fun {Q K} hK self ih x10 y h hr hn=>by
 unfold lI at h
 refine cq 5 [33] [B (decide (x10<q9))] 21 ?_
 refine sq h ?_ ?_<;>intro h
 ·refine aq 1 ?_
  refine cq 9 [10] [I x10] 53 ?_
  refine oq 69 (.hs 53 0 [] 1 0 0) rfl (aZ rfl (d8 (f:=I) (xs:=[]) (z:=str ([])) (es:=[]) (ws:=[]) rfl rfl rfl (by decide) rfl (ba rfl) rfl)) ?_
  refine cq 6 [11,36] [.hs 53 0 [] 1 0 0,.hs 3 0 [] 1 0 (r6.map str).length] 101 ?_
  refine oq 117 (I (len r6)) rfl (dD rfl rfl rfl (hI (f:=str) (xs:=r6) rfl rfl)) ?_
  refine cq 3 [38] [I (0)] 133 ?_
  obtain⟨y16,hy16,hy161,hy162⟩:=bL h
  refine dT rfl ?_
  refine rf [2,3,4,8,9,10,11,31,32,36,37,38] [1,2,3,4,53] (H4 a_1 b_2 aQ r6 x10 r8 q9 rfl (0,[]) _ hy16 (fun r' e st hq=>hr r' (hy161 r' e) st hq) fun u16 hu=>?_)
  replace h:=hy162 u16 hu
  refine cq 3 [53] [.hs 4 0 [] 1 0 (r8.map I).length] 22 ?_
  refine oq 38 (I (len r8)) rfl (dD rfl rfl rfl (hI (f:=I) (xs:=r8) rfl rfl)) ?_
  refine cq 3 [55] [I (0)] 54 ?_
  obtain⟨y22,hy22,hy221,hy222⟩:=bL h
  refine dT rfl ?_
  refine rf [2,3,4,8,9,11,31,32,53,54,55] [1,2,3,4,5] (H5 a_1 b_2 aQ r8 u16 r6 q9 x10 rfl 0 _ hy22 (fun r' e st hq=>hr r' (hy221 r' e) st hq) fun u22 hu=>?_)
  replace h:=hy222 u22 hu
  refine cq 5 [32] [I (aG (x10+1))] 37 ?_
  refine fx ?_
  exact rf [2,3,4,8,9,31,32] [1,2,3,4] (ih _ _ h hr hn :)
 ·refine aq 1 ?_
  exact rf [] [] (hn _ (an h) :) (hk:=hK)
theorem N7 (a_1:Condition)(b_2:Condition)(aQ:Bool)(r:Bool×Bool)(h:E6 a_1 b_2 aQ=some r):ct si Tryd.f30 [false,false,false] 0 (DT (a_1,b_2,aQ)) (DU r):=by
 show Run _ _ (vD (a_1,b_2,aQ) r) [.code DV] _
 refine rI 73 [(0,aa a_1),(1,aa b_2),(2,B aQ)] [] 1 ?_
 unfold E6 at h
 refine ck 8 [3,4] [] [1,17] [] [.hp 1 0 [] 4 0 0,.hp 17 0 [] 4 0 0] [some ⟨0,4,[aa a_1]⟩,some ⟨0,4,[aa b_2]⟩] 65 (by kernel_rfl) ?_
 refine eX [0,0,2,7,15,31] rfl (by decide +kernel) ?_
 refine dq [17] [] (aa b_2) rfl (cZ rfl rfl) ?_
 refine dq [1] [] (aa a_1) rfl (cZ rfl rfl) ?_
 obtain⟨r4,hr4,h⟩:=bS h
 refine dq [] [] (.hs 97 0 [] 1 0 (r4.map str).length) rfl (ao rfl rfl (aB rfl rfl rfl (aM (bd rfl) (cd (b7 rfl (FG rfl)) bb)) (show lY.F [aa a_1,.isl true []]=some _ from qb hr4) (.inr rfl) aY rfl rfl rfl)) ?_ (dj rfl rfl rfl rfl (aM (bd rfl) (cd (b7 rfl (FG rfl)) bb)) (show lY.F [aa a_1,.isl true []]=some _ from qb hr4) (.inr rfl) rfl)
 obtain⟨r5,hr5,h⟩:=bS h
 refine dq [97] [97] (.hs 113 0 [] 1 0 (r5.map str).length) rfl (ao rfl rfl (aB rfl rfl rfl (aM (bd rfl) (cd (b7 rfl (dI (path:=[]) rfl rfl al rfl)) bb)) (qb hr5) (.inr rfl) (cf rfl rfl rfl eg aY) rfl rfl rfl)) ?_ (dj rfl rfl rfl rfl (aM (bd rfl) (cd (b7 rfl (dI (path:=[]) rfl rfl al rfl)) bb)) (qb hr5) (.inr rfl) rfl)
 obtain⟨r6,hr6,h⟩:=bS h
 refine dq [113] [113] (.hs 129 0 [] 1 0 (r6.map str).length) rfl (ao rfl rfl (aB rfl rfl rfl (cd (b7 rfl (dI (path:=[]) rfl rfl al rfl)) bb) (DR hr6) (.inr rfl) (cf rfl rfl rfl eg aY) rfl rfl rfl)) ?_ (dj rfl rfl rfl rfl (cd (b7 rfl (dI (path:=[]) rfl rfl al rfl)) bb) (DR hr6) (.inr rfl) rfl)
 refine dk 1 [8] [.hs 129 0 [] 1 0 (r6.map str).length] ?_
 refine de 161 rfl rfl ?_
 refine cq 4 [21] [.hs 129 0 [] 1 0 (r6.map str).length] 177 ?_
 refine oq 193 (I (len r6)) rfl (dD rfl rfl rfl (hI (f:=str) (xs:=r6) rfl rfl)) ?_
 refine cq 2 [23] [B (decide ((len r6)>10))] 209 ?_
 refine sq h ?_ ?_<;>intro h
 ·refine cq 5 [6,7] [B false,B false] 241 ?_
  obtain rfl:=sI h
  exact rP [B false,B false]
 ·refine aq 1 ?_
  refine aq 1 ?_
  refine eX [0,0,0,6,15,31] rfl (by decide +kernel) ?_
  refine dq [17] [] (aa b_2) rfl (cZ rfl rfl) ?_
  refine dq [1] [] (aa a_1) rfl (cZ rfl rfl) ?_
  refine dq [] [] (.hs 241 0 [] 1 0 1) rfl (aZ rfl (d8 (f:=I) (xs:=[]) (z:=I (0)) (es:=[I (0)]) (ws:=[I (0)]) rfl rfl rfl (by decide) rfl (ba rfl) rfl)) ?_
  obtain⟨r7,hr7,h⟩:=bS h
  refine dq [241] [241] (.hs 257 0 [] 1 0 (r7.map I).length) rfl (ao rfl rfl (aB rfl rfl rfl (aM (bd rfl) (cd (b7 rfl (dI (path:=[]) (m:=1) (es2:=[I (0)]) rfl rfl al rfl)) bb)) (oL hr7) (.inr rfl) (cf rfl rfl rfl eg aY) rfl rfl rfl)) ?_ (dj rfl rfl rfl rfl (aM (bd rfl) (cd (b7 rfl (dI (path:=[]) (m:=1) (es2:=[I (0)]) rfl rfl al rfl)) bb)) (oL hr7) (.inr rfl) rfl)
  obtain⟨r8,hr8,h⟩:=bS h
  refine dq [257] [257] (.hs 273 0 [] 1 0 (r8.map I).length) rfl (ao rfl rfl (aB rfl rfl rfl (aM (bd rfl) (cd (b7 rfl (dI (path:=[]) rfl rfl al rfl)) bb)) (oL hr8) (.inr rfl) (cf rfl rfl rfl eg aY) rfl rfl rfl)) ?_ (dj rfl rfl rfl rfl (aM (bd rfl) (cd (b7 rfl (dI (path:=[]) rfl rfl al rfl)) bb)) (oL hr8) (.inr rfl) rfl)
  refine dk 1 [9] [.hs 273 0 [] 1 0 (r8.map I).length] ?_
  refine de 305 rfl rfl ?_
  refine cq 4 [29] [.hs 129 0 [] 1 0 (r6.map str).length] 321 ?_
  refine oq 337 (I (len r6)) rfl (dD rfl rfl rfl (hI (f:=str) (xs:=r6) rfl rfl)) ?_
  obtain⟨q9,hq9,h⟩:=bS h
  refine oq 353 (I q9) rfl (nD rfl rfl (Iq hq9)) ?_
  refine cq 3 [32] [I (0)] 369 ?_
  obtain⟨y23,hy23,hy231,hy232⟩:=bJ h
  refine dT rfl ?_
  refine rf [2,3,4,8,9,31,32] [1,17,129,273] (H3 a_1 b_2 aQ q9 r6 r8 rfl 0 _ hy23 (fun r' e st hq=>by rw[hy231 r' e] at hq;exact hq) fun u23 hu=>?_)
  replace h:=hy232 u23 hu
  refine cq 5 [6,7] [B false,B true] 33 ?_
  obtain rfl:=sI h
  exact rP [B false,B true]
theorem L4 {G:dN}:dS G 30 BQ:=gT 3 0 (aV E1 (aV E5 (aV xK (aV E2 cJ)))) d3 Tryd.func30 (fun a r h=>N7 a.1 a.2.1 a.2.2 r h)
def Dv:(Condition×Condition)→List V:=cA aa (oA aa)
def Dx (r:Bool×Bool):V×List V:=(.tup [B r.1,B r.2],[])
noncomputable def BD :=bI [false,false] Dv Dx fun x=>EB x.1 x.2
theorem Qq {a_1:Condition}{b_2:Condition}{r}(h:EB a_1 b_2=some r):BD.F (Dv (a_1,b_2))=some (Dx r):=bg (cr aN (bl aN)) h
noncomputable def HM :=bc Tryd.f11
noncomputable def HL :=dZ [(17,rc),(30,BQ)]
def Dw (x:Condition×Condition)(r:Bool×Bool):St→Prop:=QF HL Tryd.f11 [false,false] (Dv x) (Dx r)
theorem NJ (a_1:Condition)(b_2:Condition)(r:Bool×Bool)(h:EB a_1 b_2=some r):ct HL Tryd.f11 [false,false] 0 (Dv (a_1,b_2)) (Dx r):=by
 show Run _ _ (Dw (a_1,b_2) r) [.code HM] _
 refine rI 19 [(0,aa a_1),(1,aa b_2)] [] 1 ?_
 unfold EB at h
 refine ck 11 [2,3,6] [] [1,17] [] [.hp 1 0 [] 4 0 0,.hp 17 0 [] 4 0 0,aa a_1] [some ⟨0,4,[aa a_1]⟩,some ⟨0,4,[aa b_2]⟩] 81 (by kernel_rfl) ?_
 obtain⟨r3,hr3,h⟩:=bS h
 refine oq 97 (B r3) rfl (cP (zK hr3)) ?_
 refine cq 2 [9] [B (!r3)] 129 ?_
 obtain⟨y4,hy4,hy41,hy42⟩:=bJ h
 have j4:∀u4,y4=.inr u4→Run HL 0 (Dw (a_1,b_2) r) (.code (cR (cL (cR HM)))::.code (cR (cR HM))::[]) (sT 19 [(2,.hp 1 0 [] 4 0 0),(3,.hp 2 0 [] 4 0 0),(13,B u4)] [⟨0,4,[aa a_1]⟩,⟨0,4,[aa b_2]⟩] 3):=by
  intro u4 hu
  replace h:=hy42 u4 hu
  refine sq h ?_ ?_<;>intro h
  ·refine cq 5 [4,5] [B false,B false] 35 ?_
   obtain rfl:=sI h
   exact rP [B false,B false]
  ·refine aq 1 ?_
   refine cq 4 [14,15] [aa a_1,aa b_2] 35 ?_
   obtain⟨r5,hr5,h⟩:=bS h
   refine oq 51 (.tup [B r5.1,B r5.2]) rfl (cP (QC hr5)) ?_
   refine cq 5 [4,5] [B r5.1,B r5.2] 115 ?_
   obtain rfl:=sI h
   exact rP [B r5.1,B r5.2]
 have r4:∀r',y4=.inl r'→∀st,Dw (a_1,b_2) r' st→(Dw (a_1,b_2) r) st:=fun r' e st hq=>by rw[hy41 r' e] at hq;exact hq
 replace h:=hy4
 refine sp 9 h rfl ?_ ?_<;>intro h
 ·refine cq 5 [13] [B true] 193 ?_
  exact rf [2,3,13] [1,17] (j4 _ (an h) :)
 ·refine cq 1 [10] [aa b_2] 145 ?_
  obtain⟨r6,hr6,h⟩:=bS h
  refine oy 161 (B r6) rfl (cP (zK hr6)) ?_
  refine cq 3 [13] [B (!r6)] 193 ?_
  exact rf [2,3,13] [1,17] (j4 _ (an h) :)
theorem Lg {G:dN}:dS G 11 BD:=gT 2 0 (aV xB (aV L4 cJ)) d3 Tryd.func11 (fun a r h=>NJ a.1 a.2 r h)
def DN:(Condition×Int)→List V:=cA aa (oA I)
def DP (r:Int):V×List V:=(I r,[])
noncomputable def BP :=bI [false,false] DN DP fun x=>G2 x.1 x.2
theorem Qz {c_1:Condition}{cT:Int}{r}(h:G2 c_1 cT=some r):BP.F (DN (c_1,cT))=some (DP r):=bg (cr aN (bl ey)) h
noncomputable def Nc :=bc Tryd.f32
noncomputable abbrev rh :=cL (cL (cR (cL (cR (cR Nc)))))
noncomputable abbrev E4 :=cR (cR (cR rh))
noncomputable abbrev J6 :=cR (cR (cL (cL (cR (cR rh)))))
noncomputable def vB :=dZ [(20,pd)]
def Nb (x:Condition×Int)(r:Int):St→Prop:=QF vB Tryd.f32 [false,false] (DN x) (DP r)
theorem H2 (c_1:Condition)(cT:Int)(r3:(List Int)):eo vB 0 (Nb (c_1,cT)) rh 0 (nT c_1 cT r3) (fun u=>(sT 30 [(5,I u)] [] 1)) fun x4=>(sT 30 [(1,I cT),(5,I x4.1),(9,.hs 1 0 [] 1 0 (r3.map I).length),(10,I (len r3)),(11,I x4.2)] [⟨0,1,r3.map I⟩] 2):=hZ (Aw c_1 cT r3) fun {Q K} hK self ih x4 y h hr hn=>by
 unfold lH at h
 refine cq 5 [12] [B (decide (x4.2<(len r3)))] 18 ?_
 refine sq h ?_ ?_<;>intro h
 ·refine aq 1 ?_
  refine aq 4 ?_
  obtain⟨e5,he5,h⟩:=bS h
  refine oq 34 (.hp 1 0 [] 1 (0+Int.toNat x4.2) 0) rfl (aJ rfl rfl rfl (gB (f:=I) (xs:=r3) rfl rfl rfl he5)) ?_
  refine oq 50 (I e5) rfl (cZ rfl (iE (path:=[]) rfl rfl rfl al (fD (f:=I) (xs:=r3) he5) rfl rfl rfl)) ?_
  refine cq 8 [7,18] [I e5,B (decide (e5>cT))] 130 ?_
  obtain⟨u6,hu6,h⟩:=lJ h
  have j6:Run vB 0 Q (.code J6::.blk 1::.code E4::.lp rh::.blk 0::K) (sT 30 [(1,I cT),(5,I x4.1),(7,I e5),(9,.hs 1 0 [] 1 0 (r3.map I).length),(10,I (len r3)),(11,I x4.2),(26,B u6)] [⟨0,1,r3.map I⟩] 2):=by
   obtain⟨u7,hu7,h⟩:=lJ h
   have j7:Run vB 0 Q (.blk 1::.code E4::.lp rh::.blk 0::K) (sT 30 [(1,I cT),(5,I u7),(9,.hs 1 0 [] 1 0 (r3.map I).length),(10,I (len r3)),(11,I x4.2)] [⟨0,1,r3.map I⟩] 2):=by
    refine cq 5 [11] [I (aG (x4.2+1))] 34 ?_
    refine fx ?_
    exact rf [1,5,9,10,11] [1] (ih _ _ h hr hn :)
   replace h:=hu7
   clear hu7
   refine rD h rfl rfl ?_ ?_<;>intro h
   ·refine cq 4 [5] [I e5] 34 ?_
    subst h
    exact rf [1,5,9,10,11] [1] (j7 :)
   ·refine aq 1 ?_
    subst h
    exact rf [1,5,9,10,11] [1] (j7 :)
  replace h:=hu6
  clear hu6
  refine sp 18 h rfl ?_ ?_<;>intro h
  ·refine cq 3 [21] [B (decide (x4.1<0))] 178 ?_
   obtain⟨u8,hu8,h⟩:=lJ h
   have j8:Run vB 0 Q (.code J6::.blk 1::.code E4::.lp rh::.blk 0::K) (sT 30 [(1,I cT),(5,I x4.1),(7,I e5),(9,.hs 1 0 [] 1 0 (r3.map I).length),(10,I (len r3)),(11,I x4.2),(26,B u8)] [⟨0,1,r3.map I⟩] 2):=by
    subst h
    exact rf [1,5,7,9,10,11,26] [1] (j6 :)
   replace h:=hu8
   clear hu8
   refine sp 21 h rfl ?_ ?_<;>intro h
   ·refine cq 6 [26] [B true] 258 ?_
    subst h
    exact rf [1,5,7,9,10,11,26] [1] (j8 :)
   ·refine cq 6 [26] [B (decide (e5<x4.1))] 258 ?_
    subst h
    exact rf [1,5,7,9,10,11,26] [1] (j8 :)
  ·refine cq 9 [26] [B false] 258 ?_
   subst h
   exact rf [1,5,7,9,10,11,26] [1] (j6 :)
 ·refine aq 1 ?_
  exact rf [5] [] (hn _ (an h) :) (hk:=hK)
theorem N5 (c_1:Condition)(cT:Int)(r:Int)(h:G2 c_1 cT=some r):ct vB Tryd.f32 [false,false] 0 (DN (c_1,cT)) (DP r):=by
 show Run _ _ (Nb (c_1,cT) r) [.code Nc] _
 refine rI 30 [(0,aa c_1),(1,I cT)] [] 1 ?_
 unfold G2 at h
 refine cq 13 [5,8] [I (-1),aa c_1] 65 ?_
 obtain⟨r3,hr3,h⟩:=bS h
 refine oq 81 (.hs 65 0 [] 1 0 (r3.map I).length) rfl (ao rfl rfl (aB rfl rfl rfl (aM (bd rfl) (cd (b7 rfl (FG rfl)) bb)) (show pd.F [aa c_1,.isl true []]=some _ from oL hr3) (.inr rfl) aY rfl rfl rfl)) ?_
 refine oq 97 (I (len r3)) rfl (dD rfl rfl rfl (hI (f:=I) (xs:=r3) rfl rfl)) ?_
 refine cq 3 [11] [I (0)] 113 ?_
 obtain⟨y9,hy9,hy91,hy92⟩:=bJ h
 refine dT rfl ?_
 refine rf [1,5,9,10,11] [65] (H2 c_1 cT r3 rfl ((-1),0) _ hy9 (fun r' e st hq=>by rw[hy91 r' e] at hq;exact hq) fun u9 hu=>?_)
 replace h:=hy92 u9 hu
 refine cq 5 [4] [I u9] 33 ?_
 obtain rfl:=sI h
 exact rP [I u9]
theorem L3 {G:dN}:dS G 32 BP:=gT 2 0 (aV xK cJ) d3 Tryd.func32 (fun a r h=>N5 a.1 a.2 r h)
def DE:(Condition×Int)→List V:=cA aa (oA I)
def DG (r:Int×Bool):V×List V:=(.tup [I r.1,B r.2],[])
noncomputable def BN :=bI [false,false] DE DG fun x=>E0 x.1 x.2
theorem Qv {c_1:Condition}{cT:Int}{r}(h:E0 c_1 cT=some r):BN.F (DE (c_1,cT))=some (DG r):=bg (cr aN (bl ey)) h
noncomputable def HW :=bc Tryd.f12
noncomputable def HV :=dZ [(17,rc),(32,BP),(31,vA)]
def DF (x:Condition×Int)(r:Int×Bool):St→Prop:=QF HV Tryd.f12 [false,false] (DE x) (DG r)
theorem NV (c_1:Condition)(cT:Int)(r:Int×Bool)(h:E0 c_1 cT=some r):ct HV Tryd.f12 [false,false] 0 (DE (c_1,cT)) (DG r):=by
 show Run _ _ (DF (c_1,cT) r) [.code HW] _
 refine rI 17 [(0,aa c_1),(1,I cT)] [] 1 ?_
 unfold E0 at h
 refine ck 10 [2,6] [] [1] [] [.hp 1 0 [] 4 0 0,aa c_1] [some ⟨0,4,[aa c_1]⟩] 65 (by kernel_rfl) ?_
 obtain⟨r3,hr3,h⟩:=bS h
 refine oq 81 (B r3) rfl (cP (zK hr3)) ?_
 refine cq 2 [9] [B (!r3)] 113 ?_
 obtain⟨y4,hy4,hy41,hy42⟩:=bJ h
 have j4:∀u4,y4=.inr u4→Run HV 0 (DF (c_1,cT) r) (.code (cR (cL (cR HW)))::.code (cR (cR HW))::[]) (sT 17 [(1,I cT),(2,.hp 1 0 [] 4 0 0),(13,B u4)] [⟨0,4,[aa c_1]⟩] 2):=by
  intro u4 hu
  replace h:=hy42 u4 hu
  refine sq h ?_ ?_<;>intro h
  ·refine cq 5 [4,5] [I (0),B false] 34 ?_
   obtain rfl:=sI h
   exact rP [I (0),B false]
  ·refine aq 1 ?_
   refine cq 4 [14,15] [aa c_1,I cT] 34 ?_
   obtain⟨r5,hr5,h⟩:=bS h
   refine oq 50 (I r5) rfl (cP (Qz hr5)) ?_
   refine cq 3 [4,5] [I r5,B true] 82 ?_
   obtain rfl:=sI h
   exact rP [I r5,B true]
 have r4:∀r',y4=.inl r'→∀st,DF (c_1,cT) r' st→(DF (c_1,cT) r) st:=fun r' e st hq=>by rw[hy41 r' e] at hq;exact hq
 replace h:=hy4
 refine sp 9 h rfl ?_ ?_<;>intro h
 ·refine cq 5 [13] [B true] 177 ?_
  exact rf [1,2,13] [1] (j4 _ (an h) :)
 ·refine cq 1 [10] [I cT] 129 ?_
  obtain⟨r6,hr6,h⟩:=bS h
  refine oy 145 (B r6) rfl (cP (Av hr6)) ?_
  refine cq 3 [13] [B (!r6)] 177 ?_
  exact rf [1,2,13] [1] (j4 _ (an h) :)
theorem L0 {G:dN}:dS G 12 BN:=gT 2 0 (aV xB (aV L3 (aV E3 cJ))) d3 Tryd.func12 (fun a r h=>NV a.1 a.2 r h)
def gJ:(List Int)→List V:=oA (pU (V.int .u8))
def gK (r:Bool):V×List V:=(B r,[])
noncomputable def iw :=bI [false] gJ gK fun x=>ft x
theorem ry {aI:List Int}{r}(h:ft aI=some r):iw.F (gJ aI)=some (gK r):=bg (bl (fN (jF (k:=.u8)))) h
noncomputable def gL :=bc Tryd.f3
noncomputable abbrev ee :=cR (cR (cR (cR (cR (cR (cR (cR (cR gL))))))))
noncomputable abbrev fu :=cR (cL (cR (cR (cR (cR (cR (cR (cR (cR gL)))))))))
noncomputable abbrev dm :=cR (cR ee)
noncomputable abbrev fw :=cR (cL (cR ee))
noncomputable abbrev iP :=cR (cR (cR (cR (cR (cR dm)))))
noncomputable def bh :=dZ [(4,ou),(5,BW),(6,BE),(7,BZ),(9,ov),(8,BV),(10,BX),(11,BD),(12,BN)]
def bp (x:(List Int))(r:Bool):St→Prop:=QF bh Tryd.f3 [false] (gJ x) (gK r)
end Go.Ln
