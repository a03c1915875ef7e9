/-
  The walks.
-/
import Derived.Test.YtcfddlacocdpoaaGreatDoorFnExactPartyReportRunA
set_option maxHeartbeats 4000000
set_option linter.unusedVariables false
set_option linter.unusedSimpArgs false
set_option maxRecDepth 100000
namespace Go.Ln
open Go Go.Proofs
noncomputable def CQ :=bb [true] FJ FL fun x=>CP x
theorem ae1 {s_2:List ac}{r}(h:CP s_2=some r):CQ.F (FJ s_2)=some (FL r):=aF (aG (jo b8)) h
noncomputable def M1 :=aD Tryz.f178
noncomputable abbrev Jo :=cL (cL (cR (cL (cR (cL (cR (cL (cL (cR (cL (cL (cR (cL (cR (cR M1)))))))))))))))
noncomputable def xu :=bV []
def FK (x:(List ac))(r:(List ac)):St→Prop:=QF xu Tryz.f178 [true] (FJ x) (FL r)
theorem Pw (s_2:List ac)(x2:Int):cj xu 1 (FK s_2) Jo 2 (lf s_2 x2) (fun u=>(sO 61 [(0,.hs 2 0 [] 1 0 (u.2.map str).length),(3,I u.1)] [none,some ⟨0,1,u.2.map str⟩] 3)) fun x6=>(sO 61 [(0,.hs 2 0 [] 1 0 (x6.2.2.map str).length),(3,I x6.1),(4,.hs 2 0 [] 1 (0+Int.toNat x2) (Int.toNat (len s_2) - Int.toNat x2)),(5,I x6.2.1)] [none,some ⟨0,1,x6.2.2.map str⟩] 3):=ee (Ao s_2 x2) fun {Q K} hK self ih x6 y h hr hn=>by
 unfold lQ at h
 refine cq 8 [32] [B (decide (x6.2.1<(((Int.toNat (len s_2) - Int.toNat x2):Nat):Int)))] 67 ?_
 refine sq h ?_ ?_<;>intro h
 ·refine aq 1 ?_
  refine aq 3 ?_
  refine dt [0,0,3,7,0,0,32,112,240,511] rfl (by decide +kernel) ?_
  refine dk 2 [36,35] [I x6.2.1,.hs 2 0 [] 1 (0+Int.toNat x2) (Int.toNat (len s_2) - Int.toNat x2)] ?_
  obtain⟨e7,he7,h⟩:=bS h
  refine dq [2] [] (.hp 2 0 [] 1 ((0+Int.toNat x2)+Int.toNat x6.2.1) 0) rfl (aj rfl rfl rfl (SH (xs:=x6.2.2) rfl rfl he7)) ?_
  refine dq [2] [] (str e7) rfl (aK rfl (gt (path:=[]) rfl rfl rfl aU (Ol (f:=str) (xs:=x6.2.2) he7) rfl rfl rfl)) ?_
  refine dk 3 [41,40,39] [I (ai (x6.2.1 - 1)),I x6.2.1,.hs 2 0 [] 1 (0+Int.toNat x2) (Int.toNat (len s_2) - Int.toNat x2)] ?_
  obtain⟨e8,he8,h⟩:=bS h
  refine dq [2] [] (.hp 2 0 [] 1 ((0+Int.toNat x2)+Int.toNat (ai (x6.2.1 - 1))) 0) rfl (aj rfl rfl rfl (SH (xs:=x6.2.2) rfl rfl he8)) ?_
  refine dq [2] [] (str e8) rfl (aK rfl (gt (path:=[]) rfl rfl rfl aU (Ol (f:=str) (xs:=x6.2.2) he8) rfl rfl rfl)) ?_
  refine dk 1 [44] [B (!(e7==e8))] ?_
  refine de 227 rfl rfl ?_
  obtain⟨y9,hy9,hy91,hy92⟩:=bL h
  have j9:∀u9,y9=.inr u9→Run xu 1 Q (.blk 3::.code (cR (cR Jo))::.lp Jo::.blk 2::K) (sO 61 [(0,.hs 2 0 [] 1 0 (u9.2.map str).length),(3,I u9.1),(4,.hs 2 0 [] 1 (0+Int.toNat x2) (Int.toNat (len s_2) - Int.toNat x2)),(5,I x6.2.1)] [none,some ⟨0,1,u9.2.map str⟩] 3):=by
   intro u9 hu
   replace h:=hy92 u9 hu
   refine cq 6 [5] [I (ai (x6.2.1+1))] 51 ?_
   refine dh ?_
   exact rg [0,3,4,5] [52,2] (ih _ _ h hr hn :)
  have r9:∀r',y9=.inl r'→∀st,FK s_2 r' st→Q st:=fun r' e st hq=>hr r' (hy91 r' e) st hq
  replace h:=hy9
  refine sq h ?_ ?_<;>intro h
  ·refine cq 6 [45,46,47,48] [.hs 2 0 [] 1 0 (x6.2.2.map str).length,I x6.1,.hs 2 0 [] 1 (0+Int.toNat x2) (Int.toNat (len s_2) - Int.toNat x2),I x6.2.1] 291 ?_
   obtain⟨e10,he10,h⟩:=bS h
   refine oq 307 (.hp 2 0 [] 1 ((0+Int.toNat x2)+Int.toNat x6.2.1) 0) rfl (aj rfl rfl rfl (SH (xs:=x6.2.2) rfl rfl he10)) ?_
   refine oq 323 (str e10) rfl (aK rfl (gt (path:=[]) rfl rfl rfl aU (Ol (f:=str) (xs:=x6.2.2) he10) rfl rfl rfl)) ?_
   obtain⟨e11,he11,h⟩:=bS h
   refine oq 339 (.hp 2 0 [] 1 (0+Int.toNat x6.1) 0) rfl (aj rfl rfl rfl (dW (f:=str) (xs:=x6.2.2) rfl rfl rfl he11)) ?_
   refine o0 355 rfl rfl (gb rfl rfl (fm (path:=[]) (pl:=true) (e':=str e10) (es2':=(dw x6.2.2 x6.1 e10).map str) rfl (dV rfl) rfl rfl rfl aU (du (f:=str) (xs:=x6.2.2) he11) rfl rfl rfl (iP (f:=str) (xs:=x6.2.2) (y:=e10)) eK 0 rfl)) ?_
   try rw[←hY (f:=str) (xs:=x6.2.2) (i:=x6.1) (z:=e10)]
   refine cq 6 [3] [I (ai (x6.1+1))] 403 ?_
   exact rg [0,3,4,5] [404,2] (j9 _ (ak h) :)
  ·refine aq 1 ?_
   exact rg [0,3,4,5] [228,2] (j9 _ (ak h) :)
 ·refine aq 1 ?_
  exact rg [0,3] [68,2] (hn _ (ak h) :) (hk:=hK)
theorem Pv (s_2:List ac):cj xu 1 (FK s_2) (cL (cL (cR (cL (cR (cR M1)))))) 0 (rF s_2) (fun u=>(sO 61 [(0,.hs 2 0 [] 1 0 (u.map str).length)] [none,some ⟨0,1,u.map str⟩] 3)) fun x2=>(sO 61 [(0,.hs 2 0 [] 1 0 (s_2.map str).length),(3,I x2)] [none,some ⟨0,1,s_2.map str⟩] 3):=ee (An s_2) fun {Q K} hK self ih x2 y h hr hn=>by
 unfold lP at h
 refine cq 5 [10,11] [I x2,.hs 2 0 [] 1 0 (s_2.map str).length] 35 ?_
 refine oq 51 (I (len s_2)) rfl (bv rfl rfl rfl (ri (f:=str) (xs:=s_2) rfl rfl)) ?_
 refine cq 2 [13] [B (decide (x2<(len s_2)))] 67 ?_
 refine sq h ?_ ?_<;>intro h
 ·refine aq 1 ?_
  refine aq 3 ?_
  refine dt [0,0,3,7,0,0,32,112,240,511] rfl (by decide +kernel) ?_
  refine dk 2 [17,16] [I x2,.hs 2 0 [] 1 0 (s_2.map str).length] ?_
  obtain⟨e3,he3,h⟩:=bS h
  refine dq [2] [] (.hp 2 0 [] 1 (0+Int.toNat x2) 0) rfl (aj rfl rfl rfl (dW (f:=str) (xs:=s_2) rfl rfl rfl he3)) ?_
  refine dq [2] [] (str e3) rfl (aK rfl (gt (path:=[]) rfl rfl rfl aU (du (f:=str) (xs:=s_2) he3) rfl rfl rfl)) ?_
  refine dk 3 [22,21,20] [I (ai (x2 - 1)),I x2,.hs 2 0 [] 1 0 (s_2.map str).length] ?_
  obtain⟨e4,he4,h⟩:=bS h
  refine dq [2] [] (.hp 2 0 [] 1 (0+Int.toNat (ai (x2 - 1))) 0) rfl (aj rfl rfl rfl (dW (f:=str) (xs:=s_2) rfl rfl rfl he4)) ?_
  refine dq [2] [] (str e4) rfl (aK rfl (gt (path:=[]) rfl rfl rfl aU (du (f:=str) (xs:=s_2) he4) rfl rfl rfl)) ?_
  refine dk 1 [25] [B (e3==e4)] ?_
  refine de 227 rfl rfl ?_
  refine sq h ?_ ?_<;>intro h
  ·refine cq 4 [26,27] [.hs 2 0 [] 1 0 (s_2.map str).length,I x2] 259 ?_
   obtain⟨s5,hs5,h⟩:=bS h
   refine oq 275 (.hs 2 0 [] 1 (0+Int.toNat x2) (Int.toNat (len s_2) - Int.toNat x2)) rfl (gH rfl rfl rfl rfl (vt (f:=str) (xs:=s_2) rfl rfl rfl rfl (aak rfl) hs5)) ?_
   refine cq 8 [4,5] [.hs 2 0 [] 1 (0+Int.toNat x2) (Int.toNat (len s_2) - Int.toNat x2),I (1)] 307 ?_
   obtain⟨y15,hy15,hy151,hy152⟩:=bL h
   refine bP rfl ?_
   refine rg [0,3,4,5] [308,2] (Pw s_2 x2 rfl (x2,1,s_2) _ hy15 (fun r' e st hq=>hr r' (hy151 r' e) st hq) fun u15 hu=>?_)
   replace h:=hy152 u15 hu
   refine cq 4 [54,55] [.hs 2 0 [] 1 0 (u15.2.map str).length,I u15.1] 35 ?_
   obtain⟨s16,hs16,h⟩:=bS h
   refine oq 51 (.hs 2 0 [] 1 (0+Int.toNat u15.1) (Int.toNat (len u15.2) - Int.toNat u15.1)) rfl (gH rfl rfl rfl rfl (vt (f:=str) (xs:=u15.2) rfl rfl rfl rfl (aak rfl) hs16)) ?_
   obtain⟨k17,hk17,h⟩:=bS h
   refine o0 67 rfl rfl (acY rfl rfl (ahf (f:=str) (xs:=u15.2) (z0:=[]) rfl rfl rfl rfl (by decide) nB hk17)) ?_
   try rw[show (u15.2.map str).length=(k17.map str).length from acT hk17]
   refine cq 5 [57,58] [.hs 2 0 [] 1 0 (k17.map str).length,I u15.1] 99 ?_
   obtain⟨s18,hs18,h⟩:=bS h
   refine oq 115 (.hs 2 0 [] 1 (0+Int.toNat (0)) (Int.toNat u15.1 - Int.toNat (0))) rfl (gH rfl rfl rfl rfl (vt (f:=str) (xs:=k17) rfl rfl rfl rfl rfl hs18)) ?_
   refine cq 2 [2] [.hs 2 0 [] 1 (0+Int.toNat (0)) (Int.toNat u15.1 - Int.toNat (0))] 131 ?_
   obtain⟨p19,hp19,h⟩:=bS h
   exact cu rfl (hr _ (ak h) _ ⟨_,fin (vs:=[.hs 2 0 [] 1 (0+Int.toNat (0)) (Int.toNat u15.1 - Int.toNat (0))]) rfl (f9 (fZ rfl (WT (path:=[]) (f:=str) (xs:=k17) rfl rfl aU hp19 rfl qQ)) eA) rfl (mj rfl (ro rfl) ft),wn fj⟩)
  ·refine aq 1 ?_
   refine cq 6 [3] [I (ai (x2+1))] 275 ?_
   refine dh ?_
   exact rg [0,3] [276,2] (ih _ _ h hr hn :)
 ·refine aq 1 ?_
  exact rg [0] [68,2] (hn _ (ak h) :) (hk:=hK)
theorem YZ (s_2:List ac)(r:(List ac))(h:CP s_2=some r):bq xu Tryz.f178 [true] 1 (FJ s_2) (FL r):=by
 show Run _ _ (FK s_2 r) [.code M1] _
 refine rI 61 [(0,.hs 1 0 [] 1 0 (s_2.map str).length)] [(1,some ⟨0,1,s_2.map str⟩)] 2 ?_
 unfold CP at h
 refine cq 8 [6] [.hs 1 0 [] 1 0 (s_2.map str).length] 34 ?_
 refine oq 50 (I (len s_2)) rfl (bv rfl rfl rfl (ri (f:=str) (xs:=s_2) rfl rfl)) ?_
 refine cq 2 [8] [B (decide ((len s_2)<2))] 66 ?_
 refine sq h ?_ ?_<;>intro h
 ·refine cq 5 [2] [.hs 1 0 [] 1 0 (s_2.map str).length] 98 ?_
  obtain rfl:=sI h
  exact cu rfl ⟨_,fin (vs:=[.hs 1 0 [] 1 0 (s_2.map str).length]) rfl (f9 (fZ rfl (dR rfl rfl)) eA) rfl (mj rfl (ro rfl) ft),wn fj⟩
 ·refine aq 1 ?_
  refine cq 6 [3] [I (1)] 82 ?_
  obtain⟨y20,hy20,hy201,hy202⟩:=bJ h
  refine bP rfl ?_
  refine rg [0,3] [83,1] (Pv s_2 rfl 1 _ hy20 (fun r' e st hq=>by rw[hy201 r' e] at hq;exact hq) fun u20 hu=>?_)
  replace h:=hy202 u20 hu
  refine cq 5 [2] [.hs 2 0 [] 1 0 (u20.map str).length] 35 ?_
  obtain rfl:=sI h
  exact cu rfl ⟨_,fin (vs:=[.hs 2 0 [] 1 0 (u20.map str).length]) rfl (f9 (fZ rfl (dR rfl rfl)) eA) rfl (mj rfl (ro rfl) ft),wn fj⟩
theorem U0 {G:bT}[TabG Tryz.prog G]:bQ G 178 CQ:=gT 1 1 bu bW Tryz.func178 (fun a r h=>YZ a r h)
def EJ:(List ac)→List V:=oA (sG 1 str)
def EK (r:(List ac)):V×List V:=(.usl 1 (r.map str),[.dead])
noncomputable def B3 :=bb [true] EJ EK fun x=>B2 x
theorem ad3 {km:List ac}{r}(h:B2 km=some r):B3.F (EJ km)=some (EK r):=aF (aG (jo b8)) h
noncomputable def ad5 :=aD Tryz.f143
noncomputable def Tv :=bV [(177,wI),(178,CQ)]
def ad4 (x:(List ac))(r:(List ac)):St→Prop:=QF Tv Tryz.f143 [true] (EJ x) (EK r)
theorem Yl (km:List ac)(r:(List ac))(h:B2 km=some r):bq Tv Tryz.f143 [true] 1 (EJ km) (EK r):=by
 show Run _ _ (ad4 km r) [.code ad5] _
 refine rI 7 [(0,.hs 1 0 [] 1 0 (km.map str).length)] [(1,some ⟨0,1,km.map str⟩)] 2 ?_
 unfold B2 at h
 refine cq 7 [3] [.hs 1 0 [] 1 0 (km.map str).length] 34 ?_
 obtain⟨r2,hr2,h⟩:=bS h
 obtain⟨g3,h⟩:=gG h
 refine oq 50 (.tup []) rfl (bR rfl rfl (cn rfl rfl rfl (kV (ki rfl (f8 (path:=[]) rfl rfl aU rfl)) cz) (abe hr2) (.inr rfl) (jj rfl rfl rfl rfl dT) rfl rfl rfl)) ?_
 try rw[iA (f:=str) (xs:=km) (ys:=r2) g3]
 refine cq 4 [5] [.hs 1 0 [] 1 0 (r2.map str).length] 66 ?_
 obtain⟨r4,hr4,h⟩:=bS h
 refine oq 82 (.hs 66 0 [] 1 0 (r4.map str).length) rfl (bR rfl rfl (cn rfl rfl rfl (kV (ki rfl (f8 (path:=[]) rfl rfl aU rfl)) cz) (ae1 hr4) (.inr rfl) (jj rfl rfl rfl ot dT) rfl rfl rfl)) ?_
 refine cq 2 [2] [.hs 66 0 [] 1 0 (r4.map str).length] 98 ?_
 obtain rfl:=sI h
 exact cu rfl ⟨_,fin (vs:=[.hs 66 0 [] 1 0 (r4.map str).length]) rfl (f9 (fZ rfl (dR rfl rfl)) eA) rfl (mj rfl (ro rfl) ft),wn fj⟩
theorem Tw {G:bT}[TabG Tryz.prog G]:bQ G 143 B3:=gT 1 1 (aL Qx (aL U0 bu)) bW Tryz.func143 (fun a r h=>Yl a r h)
def Mo:Contract→List V:=oA aM
def Mp (r:(List ac)):V×List V:=(.usl 1 (r.map str),[])
noncomputable def zy :=bb [false] Mo Mp fun x=>yi x
theorem abN {c_1:Contract}{r}(h:yi c_1=some r):zy.F (Mo c_1)=some (Mp r):=aF (aG aP) h
noncomputable def abP :=aD Tryz.f101
noncomputable def Sd :=bV [(142,JL),(143,B3)]
def abO (x:Contract)(r:(List ac)):St→Prop:=QF Sd Tryz.f101 [false] (Mo x) (Mp r)
theorem Se (c_1:Contract):cj Sd 0 (abO c_1) (cL (cL (cR (cL (cR (cR abP)))))) 0 (qu c_1) (fun u=>(sT 25 [(3,.hs 1 0 [] 1 0 (u.map str).length)] [⟨0,1,u.map str⟩] 2)) fun x2=>(sT 25 [(3,.hs 1 0 [] 1 0 (x2.2.map str).length),(8,.isl false (c_1.Clauses.map ap)),(9,I (len c_1.Clauses)),(10,I x2.1)] [⟨0,1,x2.2.map str⟩] 2):=ee (Ig c_1) fun {Q K} hK self ih x2 y h hr hn=>by
 unfold ny at h
 refine cq 5 [11] [B (decide (x2.1<(len c_1.Clauses)))] 18 ?_
 refine sq h ?_ ?_<;>intro h
 ·refine aq 1 ?_
  refine aq 4 ?_
  obtain⟨e3,he3,h⟩:=bS h
  refine oq 34 (.iptr (ao e3) 0) rfl (aj rfl rfl rfl (aZ rfl rfl rfl rfl he3)) ?_
  refine ck 2 [5,13] [] [50] [] [.hp 50 0 [] 12 0 0,ao e3] [some ⟨0,12,[.agg [str ([]),I (0),I (0),str ([]),I (0),I (0),I (0),str ([]),I (0),.isl true [],I (0),str ([])]]⟩] 66 (by kernel_rfl) ?_
  refine fY 50 [.agg [str ([]),I (0),I (0),str ([]),I (0),I (0),I (0),str ([]),I (0),.usl 4 (([]).map aC),I (0),str ([])]] rfl rfl (aR (im (aR (.refl _) (aR (.refl _) (aR (.refl _) (aR (.refl _) (aR (.refl _) (aR (.refl _) (aR (.refl _) (aR (.refl _) (aR (.refl _) (aR (.nil _) (aR (.refl _) (aR (.refl _) eV))))))))))))) eV) ?_
  refine ck 2 [] [] [50] [] [] [some ⟨2,12,[ao e3]⟩] 82 (by kernel_rfl) ?_
  refine dt [0,1,0,0,8,24,60,127,255] rfl (by decide +kernel) ?_
  refine dq [50] [] (.hp 50 0 [] 12 0 6) rfl (al rfl rfl rfl) ?_
  refine dq [50] [] (au e3.When) rfl (aK rfl rfl) ?_
  refine dk 1 [16] [.hs 1 0 [] 1 0 (x2.2.map str).length] ?_
  refine dq [50] [] (.hp 50 0 [] 12 0 3) rfl (al rfl rfl rfl) ?_
  refine dq [50] [] (str e3.Action) rfl (aK rfl rfl) ?_
  refine dq [] [] (.hs 162 0 [] 1 0 1) rfl (eD rfl (kG (f:=I) (xs:=[]) (z:=str ([])) (es:=[str e3.Action]) (ws:=[str e3.Action]) rfl rfl rfl (by decide) rfl (dM rfl) rfl)) ?_
  obtain⟨a4,ha4,h⟩:=bS h
  refine dq [1,162] [1] (.hs 178 0 [] 1 0 (a4.map str).length) rfl (jJ rfl rfl rfl rfl rfl (mW (path:=[]) (f:=str) (xs:=x2.2) (ys:=[e3.Action]) rfl rfl (rN rfl rfl rfl) rfl rfl rfl aU rfl (by decide) mq ha4 rfl qQ)) ?_ (Jh rfl (Ip (path:=[]) (f:=str) (xs:=[e3.Action]) rfl rfl aU nB rfl))
  obtain⟨r5,hr5,h⟩:=bS h
  refine dq [178] [178] (.hs 194 0 [] 1 0 (r5.map str).length) rfl (bR rfl rfl (cn rfl rfl rfl (aQ (bx rfl) (kV (ki rfl (f8 (path:=[]) rfl rfl aU rfl)) cz)) (abq hr5) (.inr rfl) (jj rfl rfl rfl ot dT) rfl rfl rfl)) ?_ (cm rfl rfl rfl rfl (aQ (bx rfl) (kV (ki rfl (f8 (path:=[]) rfl rfl aU rfl)) cz)) (abq hr5) (.inr rfl) rfl)
  refine dk 1 [3] [.hs 194 0 [] 1 0 (r5.map str).length] ?_
  refine de 226 rfl rfl ?_
  refine cq 5 [10] [I (ai (x2.1+1))] 258 ?_
  refine dh ?_
  exact rf [3,8,9,10] [194] (ih _ _ h hr hn :)
 ·refine aq 1 ?_
  exact rf [3] [1] (hn _ (ak h) :) (hk:=hK)
theorem acG (c_1:Contract)(r:(List ac))(h:yi c_1=some r):bq Sd Tryz.f101 [false] 0 (Mo c_1) (Mp r):=by
 show Run _ _ (abO c_1 r) [.code abP] _
 refine rI 25 [(0,aa c_1)] [] 1 ?_
 unfold yi at h
 refine ck 7 [1] [] [1] [] [.hp 1 0 [] 2 0 0] [some ⟨0,2,[aa c_1]⟩] 33 (by kernel_rfl) ?_
 refine oq 49 (.hs 33 0 [] 1 0 0) rfl (eD rfl (kG (f:=I) (xs:=[]) (z:=str ([])) (es:=[]) (ws:=[]) rfl rfl rfl (by decide) rfl (dM rfl) rfl)) ?_
 refine cq 7 [3,8] [.hs 33 0 [] 1 0 0,.isl false (c_1.Clauses.map ap)] 97 ?_
 refine oq 113 (I (len c_1.Clauses)) rfl (bv rfl rfl rfl (bK rfl)) ?_
 refine cq 3 [10] [I (0)] 129 ?_
 obtain⟨y6,hy6,hy61,hy62⟩:=bJ h
 refine bP rfl ?_
 refine rf [3,8,9,10] [33] (Se c_1 rfl (0,[]) _ hy6 (fun r' e st hq=>by rw[hy61 r' e] at hq;exact hq) fun u6 hu=>?_)
 replace h:=hy62 u6 hu
 refine cq 3 [23] [.hs 1 0 [] 1 0 (u6.map str).length] 18 ?_
 obtain⟨r7,hr7,h⟩:=bS h
 refine oq 34 (.hs 18 0 [] 1 0 (r7.map str).length) rfl (bR rfl rfl (cn rfl rfl rfl (kV (ki rfl (f8 (path:=[]) rfl rfl aU rfl)) cz) (ad3 hr7) (.inr rfl) (jj rfl rfl rfl ot dT) rfl rfl rfl)) ?_
 refine cq 2 [2] [.hs 18 0 [] 1 0 (r7.map str).length] 50 ?_
 obtain rfl:=sI h
 exact cu rfl ⟨_,fin (vs:=[.hs 18 0 [] 1 0 (r7.map str).length]) rfl (f9 (fZ rfl (dR rfl rfl)) eA) rfl (cQ ft),fj⟩
theorem NP {G:bT}[TabG Tryz.prog G]:bQ G 101 zy:=gT 1 0 (aL ZZ (aL Tw bu)) bW Tryz.func101 (fun a r h=>acG a r h)
def LE:Contract→List V:=oA aM
def LG (r:Bool):V×List V:=(B r,[])
noncomputable def Jr :=bb [false] LE LG fun x=>M2 x
theorem agJ {c_1:Contract}{r}(h:M2 c_1=some r):Jr.F (LE c_1)=some (LG r):=aF (aG aP) h
noncomputable def LH :=aD Tryz.f47
noncomputable def LF :=bV [(98,JN),(100,JZ),(101,zy),(99,iT)]
def FS (x:Contract)(r:Bool):St→Prop:=QF LF Tryz.f47 [false] (LE x) (LG r)
theorem RH (c_1:Contract):cj LF 0 (FS c_1) (cL (cL (cR (cL (cR (cR LH)))))) 0 (oH c_1) (fun u=>(sT 30 [(1,.hp 1 0 [] 2 0 0)] [⟨0,2,[aa c_1]⟩] 2)) fun x4=>(sT 30 [(1,.hp 1 0 [] 2 0 0),(17,I (len c_1.Clauses)),(18,I x4)] [⟨0,2,[aa c_1]⟩] 2):=ee (FT c_1) fun {Q K} hK self ih x4 y h hr hn=>by
 unfold nq at h
 refine cq 5 [19] [B (decide (x4<(len c_1.Clauses)))] 18 ?_
 refine sq h ?_ ?_<;>intro h
 ·refine aq 1 ?_
  refine cq 11 [21,22] [aa c_1,I x4] 82 ?_
  obtain⟨r5,hr5,h⟩:=bS h
  refine oq 98 (B r5) rfl (cP (ahe hr5)) ?_
  refine cq 2 [24] [B (!r5)] 114 ?_
  refine sq h ?_ ?_<;>intro h
  ·refine cq 4 [2] [B false] 130 ?_
   exact cu rfl (hr _ (ak h) _ (qp [B false]))
  ·refine aq 1 ?_
   refine cq 5 [18] [I (ai (x4+1))] 146 ?_
   refine dh ?_
   exact rf [1,17,18] [1] (ih _ _ h hr hn :)
 ·refine aq 1 ?_
  exact rf [1] [1] (hn _ (ak h) :) (hk:=hK)
theorem ab9 (c_1:Contract)(r:Bool)(h:M2 c_1=some r):bq LF Tryz.f47 [false] 0 (LE c_1) (LG r):=by
 show Run _ _ (FS c_1 r) [.code LH] _
 refine rI 30 [(0,aa c_1)] [] 1 ?_
 unfold M2 at h
 refine ck 10 [1,5] [] [1] [] [.hp 1 0 [] 2 0 0,.isl false (c_1.Parties.map str)] [some ⟨0,2,[aa c_1]⟩] 65 (by kernel_rfl) ?_
 obtain⟨r2,hr2,h⟩:=bS h
 refine oq 81 (B r2) rfl (cP (agQ hr2)) ?_
 refine cq 2 [8] [B (!r2)] 113 ?_
 obtain⟨y3,hy3,hy31,hy32⟩:=bJ h
 have j3:∀u3,y3=.inr u3→Run LF 0 (FS c_1 r) (.code (cR (cL (cR LH)))::.code (cR (cR LH))::[]) (sT 30 [(1,.hp 1 0 [] 2 0 0),(14,B u3)] [⟨0,2,[aa c_1]⟩] 2):=by
  intro u3 hu
  replace h:=hy32 u3 hu
  refine sq h ?_ ?_<;>intro h
  ·refine cq 4 [2] [B false] 18 ?_
   obtain rfl:=sI h
   exact rP [B false]
  ·refine aq 1 ?_
   refine cq 5 [16] [.isl false (c_1.Clauses.map ap)] 34 ?_
   refine oq 50 (I (len c_1.Clauses)) rfl (bv rfl rfl rfl (bK rfl)) ?_
   refine cq 3 [18] [I (0)] 66 ?_
   obtain⟨y6,hy6,hy61,hy62⟩:=bJ h
   refine bP rfl ?_
   refine rf [1,17,18] [1] (RH c_1 rfl 0 _ hy6 (fun r' e st hq=>by rw[hy61 r' e] at hq;exact hq) fun u6 hu=>?_)
   replace h:=hy62 u6 hu
   refine cq 3 [26] [aa c_1] 18 ?_
   obtain⟨r7,hr7,h⟩:=bS h
   refine oq 34 (.hs 18 0 [] 1 0 (r7.map str).length) rfl (cP (abN hr7)) ?_
   refine oq 50 (I (len r7)) rfl (bv rfl rfl rfl (ri (f:=str) (xs:=r7) rfl rfl)) ?_
   refine cq 3 [2] [B (decide ((len r7)≤16))] 82 ?_
   obtain rfl:=sI h
   exact rP [B (decide ((len r7)≤16))]
 have r3:∀r',y3=.inl r'→∀st,FS c_1 r' st→(FS c_1 r) st:=fun r' e st hq=>by rw[hy31 r' e] at hq;exact hq
 replace h:=hy3
 refine sp 8 h rfl ?_ ?_<;>intro h
 ·refine cq 7 [14] [B true] 209 ?_
  exact rf [1,14] [1] (j3 _ (ak h) :)
 ·refine cq 2 [10] [.isl false (c_1.Clauses.map ap)] 145 ?_
  refine oy 161 (I (len c_1.Clauses)) rfl (bv rfl rfl rfl (bK rfl)) ?_
  obtain⟨r8,hr8,h⟩:=bS h
  refine oy 177 (B r8) rfl (cP (iR hr8)) ?_
  refine cq 3 [14] [B (!r8)] 209 ?_
  exact rf [1,14] [1] (j3 _ (ak h) :)
theorem Y2 {G:bT}[TabG Tryz.prog G]:bQ G 47 Jr:=gT 1 0 (aL Z1 (aL aad (aL NP (aL jq bu)))) bW Tryz.func47 (fun a r h=>ab9 a r h)
def Eq:(List ac)→List V:=oA (fM str)
def Es (r:Bool):V×List V:=(B r,[])
noncomputable def BO :=bb [false] Eq Es fun x=>BN x
theorem adQ {cp:List ac}{r}(h:BN cp=some r):BO.F (Eq cp)=some (Es r):=aF (aG (b7 b8)) h
noncomputable def Tg :=aD Tryz.f158
noncomputable abbrev rB :=cL (cL (cR (cL (cR Tg))))
noncomputable abbrev Qy :=cR (cR (cL (cL (cR (cR rB)))))
noncomputable def wY :=bV [(81,rK)]
def Er (x:(List ac))(r:Bool):St→Prop:=QF wY Tryz.f158 [false] (Eq x) (Es r)
theorem Pc (cp:List ac):cj wY 0 (Er cp) rB 0 (mu cp) (fun u=>(sT 32 [(0,.isl false (cp.map str))] [] 1)) fun x2=>(sT 32 [(0,.isl false (cp.map str)),(5,.isl false (cp.map str)),(6,I (len cp)),(7,I x2)] [] 1):=ee (zV cp) fun {Q K} hK self ih x2 y h hr hn=>by
 unfold lI at h
 refine cq 5 [8] [B (decide (x2<(len cp)))] 17 ?_
 refine sq h ?_ ?_<;>intro h
 ·refine aq 1 ?_
  refine cq 5 [9] [I x2] 33 ?_
  obtain⟨e3,he3,h⟩:=bS h
  refine oq 49 (.iptr (str e3) 0) rfl (aj rfl rfl rfl (aZ rfl rfl rfl rfl he3)) ?_
  refine cq 7 [3,4,12] [I x2,str e3,str e3] 113 ?_
  obtain⟨r4,hr4,h⟩:=bS h
  refine oq 129 (B r4) rfl (cP (G0 hr4)) ?_
  refine cq 2 [15] [B (!r4)] 161 ?_
  obtain⟨y5,hy5,hy51,hy52⟩:=bL h
  have j5:∀u5,y5=.inr u5→Run wY 0 Q (.code Qy::.blk 1::.code (cR (cR (cR rB)))::.lp rB::.blk 0::K) (sT 32 [(0,.isl false (cp.map str)),(5,.isl false (cp.map str)),(6,I (len cp)),(7,I x2),(27,B u5)] [] 1):=by
   intro u5 hu
   replace h:=hy52 u5 hu
   refine sq h ?_ ?_<;>intro h
   ·refine cq 4 [2] [B false] 17 ?_
    exact cu rfl (hr _ (ak h) _ (qp [B false]))
   ·refine aq 1 ?_
    refine cq 5 [7] [I (ai (x2+1))] 33 ?_
    refine dh ?_
    exact rf [0,5,6,7] [] (ih _ _ h hr hn :)
  have r5:∀r',y5=.inl r'→∀st,Er cp r' st→Q st:=fun r' e st hq=>hr r' (hy51 r' e) st hq
  replace h:=hy5
  refine sp 15 h rfl ?_ ?_<;>intro h
  ·refine cq 13 [27] [B true] 353 ?_
   exact rf [0,5,6,7,27] [] (j5 _ (ak h) :)
  ·refine cq 3 [18] [B (decide (x2>0))] 209 ?_
   obtain⟨y6,hy6,hy61,hy62⟩:=bL h
   have j6:∀u6,y6=.inr u6→Run wY 0 Q (.code Qy::.blk 1::.code (cR (cR (cR rB)))::.lp rB::.blk 0::K) (sT 32 [(0,.isl false (cp.map str)),(5,.isl false (cp.map str)),(6,I (len cp)),(7,I x2),(27,B u6)] [] 1):=by
    intro u6 hu
    replace h:=hy62 u6 hu
    exact rf [0,5,6,7,27] [] (j5 _ (ak h) :)
   have r6:∀r',y6=.inl r'→∀st,Er cp r' st→Q st:=fun r' e st hq=>r5 r' (hy61 r' e) st hq
   replace h:=hy6
   refine sp 18 h rfl ?_ ?_<;>intro h
   ·refine cq 4 [19,20,22] [str e3,.isl false (cp.map str),I (ai (x2 - 1))] 273 ?_
    obtain⟨e7,he7,h⟩:=bS h
    refine oy 289 (.iptr (str e7) 0) rfl (aj rfl rfl rfl (aZ rfl rfl rfl rfl he7)) ?_
    refine cq 5 [27] [B (Op.bytesLess e3 e7||e3==e7)] 353 ?_
    exact rf [0,5,6,7,27] [] (j6 _ (ak h) :)
   ·refine cq 10 [27] [B false] 353 ?_
    exact rf [0,5,6,7,27] [] (j6 _ (ak h) :)
 ·refine aq 1 ?_
  exact rf [0] [] (hn _ (ak h) :) (hk:=hK)
theorem Ye (cp:List ac)(r:Bool)(h:BN cp=some r):bq wY Tryz.f158 [false] 0 (Eq cp) (Es r):=by
 show Run _ _ (Er cp r) [.code Tg] _
 refine rI 32 [(0,.isl false (cp.map str))] [] 1 ?_
 unfold BN at h
 refine cq 8 [5] [.isl false (cp.map str)] 33 ?_
 refine oq 49 (I (len cp)) rfl (bv rfl rfl rfl (bK rfl)) ?_
 refine cq 3 [7] [I (0)] 65 ?_
 obtain⟨y8,hy8,hy81,hy82⟩:=bJ h
 refine bP rfl ?_
 refine rf [0,5,6,7] [] (Pc cp rfl 0 _ hy8 (fun r' e st hq=>by rw[hy81 r' e] at hq;exact hq) fun u8 hu=>?_)
 replace h:=hy82 u8 hu
 refine cq 3 [29] [.isl false (cp.map str)] 17 ?_
 refine oq 33 (I (len cp)) rfl (bv rfl rfl rfl (bK rfl)) ?_
 refine cq 3 [2] [B (decide ((len cp)≤16))] 65 ?_
 obtain rfl:=sI h
 exact rP [B (decide ((len cp)≤16))]
theorem Th {G:bT}[TabG Tryz.prog G]:bQ G 158 BO:=gT 1 0 (aL vN bu) bW Tryz.func158 (fun a r h=>Ye a r h)
def EC:(ac×(List ac))→List V:=cA str (oA (fun x:List ac=>.iptr ((fM str) x) 0))
def ED (r:Bool):V×List V:=(B r,[])
noncomputable def BW :=bb [false,false] EC ED fun x=>BV x.1 x.2
theorem adW {f_1:ac}{a_2:List ac}{r}(h:BV f_1 a_2=some r):BW.F (EC (f_1,a_2))=some (ED r):=aF (aJ b8 (aG (i8 (b7 b8)))) h
noncomputable def adY :=aD Tryz.f160
noncomputable def Tn :=bV [(129,rT)]
def adX (x:ac×(List ac))(r:Bool):St→Prop:=QF Tn Tryz.f160 [false,false] (EC x) (ED r)
theorem Yi (f_1:ac)(a_2:List ac)(r:Bool)(h:BV f_1 a_2=some r):bq Tn Tryz.f160 [false,false] 0 (EC (f_1,a_2)) (ED r):=by
 show Run _ _ (adX (f_1,a_2) r) [.code adY] _
 refine rI 8 [(0,str f_1),(1,.iptr (.isl false (a_2.map str)) 0)] [] 1 ?_
 unfold BV at h
 refine cq 8 [4,5] [.isl false (a_2.map str),str f_1] 49 ?_
 obtain⟨r3,hr3,h⟩:=bS h
 refine oq 65 (B r3) rfl (cP (M3 hr3)) ?_
 refine cq 3 [3] [B (!r3)] 97 ?_
 obtain rfl:=sI h
 exact rP [B (!r3)]
theorem Tp {G:bT}[TabG Tryz.prog G]:bQ G 160 BW:=gT 2 0 (aL xw bu) bW Tryz.func160 (fun a r h=>Yi a.1 a.2 r h)
def Gc:((List ac)×(List ac))→List V:=cA (fM str) (oA (fun x:(List ac)=>(.fn 160 [.iptr ((fM str) x) 0]:V)))
def Gd (r:Int):V×List V:=(I r,[])
noncomputable def C1 :=bb [false,false] Gc Gd fun x=>JA x.1 x.2
theorem afo {s_1:List ac}{f_2:(List ac)}{r}(h:JA s_1 f_2=some r):C1.F (Gc (s_1,f_2))=some (Gd r):=aF (aJ (b7 b8) (aG (hP (b7 b8)))) h
noncomputable def Vs :=aD Tryz.f182
noncomputable def M9 :=bV [(160,BW)]
def Vr (x:(List ac)×(List ac))(r:Int):St→Prop:=QF M9 Tryz.f182 [false,false] (Gc x) (Gd r)
theorem PC (s_1:List ac)(f_2:(List ac)):cj M9 0 (Vr (s_1,f_2)) (cL (cL (cR (cL (cR Vs))))) 0 (uo s_1 f_2) (fun u=>(sT 19 [] [] 1)) fun x3=>(sT 19 [(0,.isl false (s_1.map str)),(1,.fn 160 [.iptr (.isl false (f_2.map str)) 0]),(7,I (len s_1)),(8,I x3)] [] 1):=ee (Aw s_1 f_2) fun {Q K} hK self ih x3 y h hr hn=>by
 unfold nU at h
 refine cq 5 [9] [B (decide (x3<(len s_1)))] 17 ?_
 refine sq h ?_ ?_<;>intro h
 ·refine aq 1 ?_
  refine cq 12 [5,11,12,13] [I x3,.fn 160 [.iptr (.isl false (f_2.map str)) 0],.isl false (s_1.map str),I x3] 97 ?_
  obtain⟨e4,he4,h⟩:=bS h
  refine oq 113 (.iptr (str e4) 0) rfl (aj rfl rfl rfl (aZ rfl rfl rfl rfl he4)) ?_
  refine cq 1 [15] [str e4] 129 ?_
  obtain⟨r5,hr5,h⟩:=bS h
  refine oq 145 (B r5) rfl (cP (adW hr5)) ?_
  refine aq 1 ?_
  refine sq h ?_ ?_<;>intro h
  ·refine cq 5 [4] [I x3] 177 ?_
   exact cu rfl (hr _ (ak h) _ (qp [I x3]))
  ·refine aq 1 ?_
   refine cq 5 [8] [I (ai (x3+1))] 177 ?_
   refine dh ?_
   exact rf [0,1,7,8] [] (ih _ _ h hr hn :)
 ·refine aq 1 ?_
  exact rf [] [] (hn _ (ak h) :) (hk:=hK)
theorem Zc (s_1:List ac)(f_2:(List ac))(r:Int)(h:JA s_1 f_2=some r):bq M9 Tryz.f182 [false,false] 0 (Gc (s_1,f_2)) (Gd r):=by
 show Run _ _ (Vr (s_1,f_2) r) [.code Vs] _
 refine rI 19 [(0,.isl false (s_1.map str)),(1,.fn 160 [.iptr (.isl false (f_2.map str)) 0])] [] 1 ?_
 unfold JA at h
 refine cq 8 [6] [.isl false (s_1.map str)] 33 ?_
 refine oq 49 (I (len s_1)) rfl (bv rfl rfl rfl (bK rfl)) ?_
 refine cq 3 [8] [I (0)] 65 ?_
 obtain⟨y6,hy6,hy61,hy62⟩:=bJ h
 refine bP rfl ?_
 refine rf [0,1,7,8] [] (PC s_1 f_2 rfl 0 _ hy6 (fun r' e st hq=>by rw[hy61 r' e] at hq;exact hq) fun u6 hu=>?_)
 replace h:=hy62 u6 hu
 refine cq 4 [4] [I (-1)] 17 ?_
 obtain rfl:=sI h
 exact rP [I (-1)]
theorem Vt {G:bT}[TabG Tryz.prog G]:bQ G 182 C1:=gT 2 0 (aL Tp bu) bW Tryz.func182 (fun a r h=>Zc a.1 a.2 r h)
def FY:((List ac)×(List ac))→List V:=cA (fM str) (oA (fun x:(List ac)=>(.fn 160 [.iptr ((fM str) x) 0]:V)))
def FZ (r:Bool):V×List V:=(B r,[])
noncomputable def CV :=bb [false,false] FY FZ fun x=>Ju x.1 x.2
theorem afe {s_1:List ac}{f_2:(List ac)}{r}(h:Ju s_1 f_2=some r):CV.F (FY (s_1,f_2))=some (FZ r):=aF (aJ (b7 b8) (aG (hP (b7 b8)))) h
noncomputable def afg :=aD Tryz.f159
noncomputable def U9 :=bV [(182,C1)]
def aff (x:(List ac)×(List ac))(r:Bool):St→Prop:=QF U9 Tryz.f159 [false,false] (FY x) (FZ r)
theorem Y5 (s_1:List ac)(f_2:(List ac))(r:Bool)(h:Ju s_1 f_2=some r):bq U9 Tryz.f159 [false,false] 0 (FY (s_1,f_2)) (FZ r):=by
 show Run _ _ (aff (s_1,f_2) r) [.code afg] _
 refine rI 9 [(0,.isl false (s_1.map str)),(1,.fn 160 [.iptr (.isl false (f_2.map str)) 0])] [] 1 ?_
 unfold Ju at h
 refine cq 8 [5,6] [.isl false (s_1.map str),.fn 160 [.iptr (.isl false (f_2.map str)) 0]] 49 ?_
 obtain⟨r3,hr3,h⟩:=bS h
 refine oq 65 (I r3) rfl (bR rfl rfl (cn rfl rfl rfl (aQ (bx rfl) (aQ (lE (dU (f7 rfl) gL)) cz)) (afo hr3) (.inr rfl) dT rfl rfl rfl)) ?_
 refine cq 3 [4] [B (decide (r3≥0))] 97 ?_
 obtain rfl:=sI h
 exact rP [B (decide (r3≥0))]
theorem Va {G:bT}[TabG Tryz.prog G]:bQ G 159 CV:=gT 2 0 (aL Vt bu) bW Tryz.func159 (fun a r h=>Y5 a.1 a.2 r h)
def EL:(List Int)→List V:=oA (fM I)
def EM (r:Int):V×List V:=(I r,[])
noncomputable def B4 :=bb [false] EL EM fun x=>wZ x
theorem ad6 {an:List Int}{r}(h:wZ an=some r):B4.F (EL an)=some (EM r):=aF (aG (b7 bi)) h
noncomputable def Ty :=aD Tryz.f161
noncomputable def ME :=bV []
def Tx (x:(List Int))(r:Int):St→Prop:=QF ME Tryz.f161 [false] (EL x) (EM r)
theorem Pg (an:List Int):cj ME 0 (Tx an) (cL (cL (cR (cL (cR (cR Ty)))))) 0 (Jl an) (fun u=>(sT 17 [(3,I u)] [] 1)) fun x2=>(sT 17 [(3,I x2.1),(6,.isl false (an.map I)),(7,I (len an)),(8,I x2.2)] [] 1):=ee (Pf an) fun {Q K} hK self ih x2 y h hr hn=>by
 unfold sK at h
 refine cq 5 [9] [B (decide (x2.2<(len an)))] 17 ?_
 refine sq h ?_ ?_<;>intro h
 ·refine aq 1 ?_
  refine aq 4 ?_
  obtain⟨e3,he3,h⟩:=bS h
  refine oq 33 (.iptr (I e3) 0) rfl (aj rfl rfl rfl (aZ rfl rfl rfl rfl he3)) ?_
  refine cq 14 [3,8] [I (ai (x2.1+e3)),I (ai (x2.2+1))] 161 ?_
  refine dh ?_
  exact rf [3,6,7,8] [] (ih _ _ h hr hn :)
 ·refine aq 1 ?_
  exact rf [3] [] (hn _ (ak h) :) (hk:=hK)
theorem Yn (an:List Int)(r:Int)(h:wZ an=some r):bq ME Tryz.f161 [false] 0 (EL an) (EM r):=by
 show Run _ _ (Tx an r) [.code Ty] _
 refine rI 17 [(0,.isl false (an.map I))] [] 1 ?_
 unfold wZ at h
 refine cq 12 [3,6] [I (0),.isl false (an.map I)] 49 ?_
 refine oq 65 (I (len an)) rfl (bv rfl rfl rfl (bK rfl)) ?_
 refine cq 3 [8] [I (0)] 81 ?_
 obtain⟨y4,hy4,hy41,hy42⟩:=bJ h
 refine bP rfl ?_
 refine rf [3,6,7,8] [] (Pg an rfl (0,0) _ hy4 (fun r' e st hq=>by rw[hy41 r' e] at hq;exact hq) fun u4 hu=>?_)
 replace h:=hy42 u4 hu
 refine cq 5 [2] [I u4] 33 ?_
 obtain rfl:=sI h
 exact rP [I u4]
theorem Tz {G:bT}[TabG Tryz.prog G]:bQ G 161 B4:=gT 1 0 bu bW Tryz.func161 (fun a r h=>Yn a r h)
def Ek:(Clause×Contract×Int)→List V:=cA ap (cA (fun x:Contract=>.iptr (aM x) 0) (oA (fun x:Int=>.iptr (I x) 0)))
def El (r:Bool):V×List V:=(B r,[])
noncomputable def BI :=bb [false,false,false] Ek El fun x=>BH x.1 x.2.1 x.2.2
theorem adJ {x_1:Clause}{a_2:Contract}{a_3:Int}{r}(h:BH x_1 a_2 a_3=some r):BI.F (Ek (x_1,a_2,a_3))=some (El r):=aF (aJ dC (aJ (i8 aP) (aG (i8 bi)))) h
noncomputable def adL :=aD Tryz.f195
noncomputable def Tb :=bV []
def adK (x:Clause×Contract×Int)(r:Bool):St→Prop:=QF Tb Tryz.f195 [false,false,false] (Ek x) (El r)
theorem Yb (x_1:Clause)(a_2:Contract)(a_3:Int)(r:Bool)(h:BH x_1 a_2 a_3=some r):bq Tb Tryz.f195 [false,false,false] 0 (Ek (x_1,a_2,a_3)) (El r):=by
 show Run _ _ (adK (x_1,a_2,a_3) r) [.code adL] _
 refine rI 14 [(0,ao x_1),(1,.iptr (aa a_2) 0),(2,.iptr (I a_3) 0)] [] 1 ?_
 unfold BH at h
 refine ck 6 [3] [] [1] [] [.hp 1 0 [] 12 0 0] [some ⟨0,12,[ao x_1]⟩] 33 (by kernel_rfl) ?_
 refine dt [0,1,0,4,0,28,60,124,255,511] rfl (by decide +kernel) ?_
 refine dq [1] [] (.hp 1 0 [] 12 0 11) rfl (al rfl rfl rfl) ?_
 refine dq [1] [] (str x_1.Repair) rfl (aK rfl rfl) ?_
 refine dq [] [] (.iptr (aa a_2) 1) rfl (al rfl rfl rfl) ?_
 refine dq [] [] (.isl false (a_2.Clauses.map ap)) rfl (aK rfl rfl) ?_
 refine dq [] [] (I a_3) rfl (aK rfl rfl) ?_
 obtain⟨e4,he4,h⟩:=bS h
 refine dq [] [] (.iptr (ao e4) 0) rfl (aj rfl rfl rfl (aZ rfl rfl rfl rfl he4)) ?_
 refine dq [] [] (.iptr (ao e4) 0) rfl (al rfl rfl rfl) ?_
 refine dq [] [] (str e4.Id) rfl (aK rfl rfl) ?_
 refine dk 2 [4,13] [B (x_1.Repair==e4.Id),B (x_1.Repair==e4.Id)] ?_
 refine de 193 rfl rfl ?_
 obtain rfl:=sI h
 exact rP [B (x_1.Repair==e4.Id)]
theorem Tc {G:bT}[TabG Tryz.prog G]:bQ G 195 BI:=gT 3 0 bu bW Tryz.func195 (fun a r h=>Yb a.1 a.2.1 a.2.2 r h)
def F4:((List Clause)×(Contract×Int))→List V:=cA (fM ap) (oA (fun x:Contract×Int=>(.fn 195 [.iptr (aM x.1) 0,.iptr (I x.2) 0]:V)))
def F5 (r:Int):V×List V:=(I r,[])
noncomputable def CX :=bb [false,false] F4 F5 fun x=>Jw x.1 x.2
theorem afk {s_1:List Clause}{f_2:Contract×Int}{r}(h:Jw s_1 f_2=some r):CX.F (F4 (s_1,f_2))=some (F5 r):=aF (aJ (b7 dC) (aG (Q1 aP bi))) h
noncomputable def Vg :=aD Tryz.f110
noncomputable def M5 :=bV [(195,BI)]
def Vf (x:(List Clause)×(Contract×Int))(r:Int):St→Prop:=QF M5 Tryz.f110 [false,false] (F4 x) (F5 r)
theorem Py (s_1:List Clause)(f_2:Contract×Int):cj M5 0 (Vf (s_1,f_2)) (cL (cL (cR (cL (cR Vg))))) 0 (uk s_1 f_2) (fun u=>(sT 19 [] [] 1)) fun x3=>(sT 19 [(0,.isl false (s_1.map ap)),(1,.fn 195 [.iptr (aa f_2.1) 0,.iptr (I f_2.2) 0]),(7,I (len s_1)),(8,I x3)] [] 1):=ee (Aq s_1 f_2) fun {Q K} hK self ih x3 y h hr hn=>by
 unfold nQ at h
 refine cq 5 [9] [B (decide (x3<(len s_1)))] 17 ?_
 refine sq h ?_ ?_<;>intro h
 ·refine aq 1 ?_
  refine cq 12 [5,11,12,13] [I x3,.fn 195 [.iptr (aa f_2.1) 0,.iptr (I f_2.2) 0],.isl false (s_1.map ap),I x3] 97 ?_
  obtain⟨e4,he4,h⟩:=bS h
  refine oq 113 (.iptr (ao e4) 0) rfl (aj rfl rfl rfl (aZ rfl rfl rfl rfl he4)) ?_
  refine cq 1 [15] [ao e4] 129 ?_
  obtain⟨r5,hr5,h⟩:=bS h
  refine oq 145 (B r5) rfl (cP (adJ hr5)) ?_
  refine aq 1 ?_
  refine sq h ?_ ?_<;>intro h
  ·refine cq 5 [4] [I x3] 177 ?_
   exact cu rfl (hr _ (ak h) _ (qp [I x3]))
  ·refine aq 1 ?_
   refine cq 5 [8] [I (ai (x3+1))] 177 ?_
   refine dh ?_
   exact rf [0,1,7,8] [] (ih _ _ h hr hn :)
 ·refine aq 1 ?_
  exact rf [] [] (hn _ (ak h) :) (hk:=hK)
theorem Y8 (s_1:List Clause)(f_2:Contract×Int)(r:Int)(h:Jw s_1 f_2=some r):bq M5 Tryz.f110 [false,false] 0 (F4 (s_1,f_2)) (F5 r):=by
 show Run _ _ (Vf (s_1,f_2) r) [.code Vg] _
 refine rI 19 [(0,.isl false (s_1.map ap)),(1,.fn 195 [.iptr (aa f_2.1) 0,.iptr (I f_2.2) 0])] [] 1 ?_
 unfold Jw at h
 refine cq 8 [6] [.isl false (s_1.map ap)] 33 ?_
 refine oq 49 (I (len s_1)) rfl (bv rfl rfl rfl (bK rfl)) ?_
 refine cq 3 [8] [I (0)] 65 ?_
 obtain⟨y6,hy6,hy61,hy62⟩:=bJ h
 refine bP rfl ?_
 refine rf [0,1,7,8] [] (Py s_1 f_2 rfl 0 _ hy6 (fun r' e st hq=>by rw[hy61 r' e] at hq;exact hq) fun u6 hu=>?_)
 replace h:=hy62 u6 hu
 refine cq 4 [4] [I (-1)] 17 ?_
 obtain rfl:=sI h
 exact rP [I (-1)]
theorem Vh {G:bT}[TabG Tryz.prog G]:bQ G 110 CX:=gT 2 0 (aL Tc bu) bW Tryz.func110 (fun a r h=>Y8 a.1 a.2 r h)
def FO:((List Clause)×(Contract×Int))→List V:=cA (fM ap) (oA (fun x:Contract×Int=>(.fn 195 [.iptr (aM x.1) 0,.iptr (I x.2) 0]:V)))
def FP (r:Bool):V×List V:=(B r,[])
noncomputable def CR :=bb [false,false] FO FP fun x=>Jp x.1 x.2
theorem ae2 {s_1:List Clause}{f_2:Contract×Int}{r}(h:Jp s_1 f_2=some r):CR.F (FO (s_1,f_2))=some (FP r):=aF (aJ (b7 dC) (aG (Q1 aP bi))) h
noncomputable def ae4 :=aD Tryz.f194
noncomputable def U1 :=bV [(110,CX)]
def ae3 (x:(List Clause)×(Contract×Int))(r:Bool):St→Prop:=QF U1 Tryz.f194 [false,false] (FO x) (FP r)
theorem Y0 (s_1:List Clause)(f_2:Contract×Int)(r:Bool)(h:Jp s_1 f_2=some r):bq U1 Tryz.f194 [false,false] 0 (FO (s_1,f_2)) (FP r):=by
 show Run _ _ (ae3 (s_1,f_2) r) [.code ae4] _
 refine rI 9 [(0,.isl false (s_1.map ap)),(1,.fn 195 [.iptr (aa f_2.1) 0,.iptr (I f_2.2) 0])] [] 1 ?_
 unfold Jp at h
 refine cq 8 [5,6] [.isl false (s_1.map ap),.fn 195 [.iptr (aa f_2.1) 0,.iptr (I f_2.2) 0]] 49 ?_
 obtain⟨r3,hr3,h⟩:=bS h
 refine oq 65 (I r3) rfl (bR rfl rfl (cn rfl rfl rfl (aQ (bx rfl) (aQ (lE (dU (f7 rfl) (dU (f7 rfl) gL))) cz)) (afk hr3) (.inr rfl) dT rfl rfl rfl)) ?_
 refine cq 3 [4] [B (decide (r3≥0))] 97 ?_
 obtain rfl:=sI h
 exact rP [B (decide (r3≥0))]
theorem U2 {G:bT}[TabG Tryz.prog G]:bQ G 194 CR:=gT 2 0 (aL Vh bu) bW Tryz.func194 (fun a r h=>Y0 a.1 a.2 r h)
def Ei:(Contract×Int)→List V:=cA aM (oA I)
def Ej (r:Bool):V×List V:=(B r,[])
noncomputable def BG :=bb [false,false] Ei Ej fun x=>BF x.1 x.2
theorem adG {c_1:Contract}{i_2:Int}{r}(h:BF c_1 i_2=some r):BG.F (Ei (c_1,i_2))=some (Ej r):=aF (aJ aP (aG bi)) h
noncomputable def adI :=aD Tryz.f183
noncomputable def S9 :=bV [(194,CR)]
def adH (x:Contract×Int)(r:Bool):St→Prop:=QF S9 Tryz.f183 [false,false] (Ei x) (Ej r)
theorem Ya (c_1:Contract)(i_2:Int)(r:Bool)(h:BF c_1 i_2=some r):bq S9 Tryz.f183 [false,false] 0 (Ei (c_1,i_2)) (Ej r):=by
 show Run _ _ (adH (c_1,i_2) r) [.code adI] _
 refine rI 9 [(0,aa c_1),(1,I i_2)] [] 1 ?_
 unfold BF at h
 refine ck 11 [6,7] [] [1,17] [] [.isl false (c_1.Clauses.map ap),.fn 195 [.hp 1 0 [] 2 0 0,.hp 17 0 [] 1 0 0]] [some ⟨0,2,[aa c_1]⟩,some ⟨0,1,[I i_2]⟩] 97 (by kernel_rfl) ?_
 obtain⟨r3,hr3,h⟩:=bS h
 refine oq 113 (B r3) rfl (bR rfl rfl (cn rfl rfl rfl (aQ (bx rfl) (aQ (lE (dU (gW (path:=[]) rfl rfl aU rfl rfl) (dU (gW (path:=[]) rfl rfl aU rfl rfl) gL))) cz)) (ae2 hr3) (.inl rfl) dT rfl rfl rfl)) ?_
 refine cq 2 [4] [B r3] 129 ?_
 obtain rfl:=sI h
 exact rP [B r3]
theorem Ta {G:bT}[TabG Tryz.prog G]:bQ G 183 BG:=gT 2 0 (aL U2 bu) bW Tryz.func183 (fun a r h=>Ya a.1 a.2 r h)
def Eo:(Duty×Duty)→List V:=cA ah (oA (fun x:Duty=>.iptr (ah x) 0))
def Ep (r:Bool):V×List V:=(B r,[])
noncomputable def BM :=bb [false,false] Eo Ep fun x=>Jk x.1 x.2
theorem adN {kq:Duty}{a_2:Duty}{r}(h:Jk kq a_2=some r):BM.F (Eo (kq,a_2))=some (Ep r):=aF (aJ eh (aG (i8 eh))) h
noncomputable def adP :=aD Tryz.f185
noncomputable def Te :=bV []
def adO (x:Duty×Duty)(r:Bool):St→Prop:=QF Te Tryz.f185 [false,false] (Eo x) (Ep r)
theorem Yd (kq:Duty)(a_2:Duty)(r:Bool)(h:Jk kq a_2=some r):bq Te Tryz.f185 [false,false] 0 (Eo (kq,a_2)) (Ep r):=by
 show Run _ _ (adO (kq,a_2) r) [.code adP] _
 refine rI 9 [(0,ah kq),(1,.iptr (ah a_2) 0)] [] 1 ?_
 unfold Jk at h
 refine cq 14 [3] [B (kq.Clause==a_2.Clause)] 129 ?_
 obtain rfl:=sI h
 exact rP [B (kq.Clause==a_2.Clause)]
theorem Tf {G:bT}[TabG Tryz.prog G]:bQ G 185 BM:=gT 2 0 bu bW Tryz.func185 (fun a r h=>Yd a.1 a.2 r h)
def F6:((List Duty)×Duty)→List V:=cA (fM ah) (oA (fun x:Duty=>(.fn 185 [.iptr (ah x) 0]:V)))
def F7 (r:Int):V×List V:=(I r,[])
noncomputable def CY :=bb [false,false] F6 F7 fun x=>Jx x.1 x.2
theorem afl {s_1:List Duty}{f_2:Duty}{r}(h:Jx s_1 f_2=some r):CY.F (F6 (s_1,f_2))=some (F7 r):=aF (aJ (b7 eh) (aG (hP eh))) h
noncomputable def Vj :=aD Tryz.f196
noncomputable def M6 :=bV [(185,BM)]
def Vi (x:(List Duty)×Duty)(r:Int):St→Prop:=QF M6 Tryz.f196 [false,false] (F6 x) (F7 r)
theorem Pz (s_1:List Duty)(f_2:Duty):cj M6 0 (Vi (s_1,f_2)) (cL (cL (cR (cL (cR Vj))))) 0 (ul s_1 f_2) (fun u=>(sT 19 [] [] 1)) fun x3=>(sT 19 [(0,.isl false (s_1.map ah)),(1,.fn 185 [.iptr (ah f_2) 0]),(7,I (len s_1)),(8,I x3)] [] 1):=ee (Ar s_1 f_2) fun {Q K} hK self ih x3 y h hr hn=>by
 unfold nR at h
 refine cq 5 [9] [B (decide (x3<(len s_1)))] 17 ?_
 refine sq h ?_ ?_<;>intro h
 ·refine aq 1 ?_
  refine cq 12 [5,11,12,13] [I x3,.fn 185 [.iptr (ah f_2) 0],.isl false (s_1.map ah),I x3] 97 ?_
  obtain⟨e4,he4,h⟩:=bS h
  refine oq 113 (.iptr (ah e4) 0) rfl (aj rfl rfl rfl (aZ rfl rfl rfl rfl he4)) ?_
  refine cq 1 [15] [ah e4] 129 ?_
  obtain⟨r5,hr5,h⟩:=bS h
  refine oq 145 (B r5) rfl (cP (adN hr5)) ?_
  refine aq 1 ?_
  refine sq h ?_ ?_<;>intro h
  ·refine cq 5 [4] [I x3] 177 ?_
   exact cu rfl (hr _ (ak h) _ (qp [I x3]))
  ·refine aq 1 ?_
   refine cq 5 [8] [I (ai (x3+1))] 177 ?_
   refine dh ?_
   exact rf [0,1,7,8] [] (ih _ _ h hr hn :)
 ·refine aq 1 ?_
  exact rf [] [] (hn _ (ak h) :) (hk:=hK)
theorem Y9 (s_1:List Duty)(f_2:Duty)(r:Int)(h:Jx s_1 f_2=some r):bq M6 Tryz.f196 [false,false] 0 (F6 (s_1,f_2)) (F7 r):=by
 show Run _ _ (Vi (s_1,f_2) r) [.code Vj] _
 refine rI 19 [(0,.isl false (s_1.map ah)),(1,.fn 185 [.iptr (ah f_2) 0])] [] 1 ?_
 unfold Jx at h
 refine cq 8 [6] [.isl false (s_1.map ah)] 33 ?_
 refine oq 49 (I (len s_1)) rfl (bv rfl rfl rfl (bK rfl)) ?_
 refine cq 3 [8] [I (0)] 65 ?_
 obtain⟨y6,hy6,hy61,hy62⟩:=bJ h
 refine bP rfl ?_
 refine rf [0,1,7,8] [] (Pz s_1 f_2 rfl 0 _ hy6 (fun r' e st hq=>by rw[hy61 r' e] at hq;exact hq) fun u6 hu=>?_)
 replace h:=hy62 u6 hu
 refine cq 4 [4] [I (-1)] 17 ?_
 obtain rfl:=sI h
 exact rP [I (-1)]
theorem Vk {G:bT}[TabG Tryz.prog G]:bQ G 196 CY:=gT 2 0 (aL Tf bu) bW Tryz.func196 (fun a r h=>Y9 a.1 a.2 r h)
def FQ:((List Duty)×Duty)→List V:=cA (fM ah) (oA (fun x:Duty=>(.fn 185 [.iptr (ah x) 0]:V)))
def FR (r:Bool):V×List V:=(B r,[])
noncomputable def CS :=bb [false,false] FQ FR fun x=>Jq x.1 x.2
theorem ae5 {s_1:List Duty}{f_2:Duty}{r}(h:Jq s_1 f_2=some r):CS.F (FQ (s_1,f_2))=some (FR r):=aF (aJ (b7 eh) (aG (hP eh))) h
noncomputable def ae7 :=aD Tryz.f184
noncomputable def U3 :=bV [(196,CY)]
def ae6 (x:(List Duty)×Duty)(r:Bool):St→Prop:=QF U3 Tryz.f184 [false,false] (FQ x) (FR r)
theorem Y1 (s_1:List Duty)(f_2:Duty)(r:Bool)(h:Jq s_1 f_2=some r):bq U3 Tryz.f184 [false,false] 0 (FQ (s_1,f_2)) (FR r):=by
 show Run _ _ (ae6 (s_1,f_2) r) [.code ae7] _
 refine rI 9 [(0,.isl false (s_1.map ah)),(1,.fn 185 [.iptr (ah f_2) 0])] [] 1 ?_
 unfold Jq at h
 refine cq 8 [5,6] [.isl false (s_1.map ah),.fn 185 [.iptr (ah f_2) 0]] 49 ?_
 obtain⟨r3,hr3,h⟩:=bS h
 refine oq 65 (I r3) rfl (bR rfl rfl (cn rfl rfl rfl (aQ (bx rfl) (aQ (lE (dU (f7 rfl) gL)) cz)) (afl hr3) (.inr rfl) dT rfl rfl rfl)) ?_
 refine cq 3 [4] [B (decide (r3≥0))] 97 ?_
 obtain rfl:=sI h
 exact rP [B (decide (r3≥0))]
theorem U4 {G:bT}[TabG Tryz.prog G]:bQ G 184 CS:=gT 2 0 (aL Vk bu) bW Tryz.func184 (fun a r h=>Y1 a.1 a.2 r h)
def Em:(Contract×State×Int)→List V:=cA aM (cA bA (oA I))
def En (r:Bool):V×List V:=(B r,[])
noncomputable def BL :=bb [false,false,false] Em En fun x=>BK x.1 x.2.1 x.2.2
theorem adM {c_1:Contract}{s_2:State}{i_3:Int}{r}(h:BK c_1 s_2 i_3=some r):BL.F (Em (c_1,s_2,i_3))=some (En r):=aF (aJ aP (aJ bN (aG bi))) h
noncomputable def iQ :=aD Tryz.f162
noncomputable def oG :=bV [(99,iT),(183,BG),(184,CS),(78,rQ)]
def gf (x:Contract×State×Int)(r:Bool):St→Prop:=QF oG Tryz.f162 [false,false,false] (Em x) (En r)
theorem Yc (c_1:Contract)(s_2:State)(i_3:Int)(r:Bool)(h:BK c_1 s_2 i_3=some r):bq oG Tryz.f162 [false,false,false] 0 (Em (c_1,s_2,i_3)) (En r):=by
 show Run _ _ (gf (c_1,s_2,i_3) r) [.code iQ] _
 refine rI 114 [(0,aa c_1),(1,ae s_2),(2,I i_3)] [] 1 ?_
 unfold BK at h
 refine ck 11 [3,4,9,10] [] [1,17] [] [.hp 1 0 [] 2 0 0,.hp 17 0 [] 5 0 0,.isl false (s_2.Duties.map ah),I i_3] [some ⟨0,2,[aa c_1]⟩,some ⟨0,5,[ae s_2]⟩] 97 (by kernel_rfl) ?_
 obtain⟨e4,he4,h⟩:=bS h
 refine oq 113 (.iptr (ah e4) 0) rfl (aj rfl rfl rfl (aZ rfl rfl rfl rfl he4)) ?_
 refine ck 11 [7,14,16] [] [129] [] [.hp 129 0 [] 4 0 0,I e4.Clause,.isl false (c_1.Clauses.map ap)] [some ⟨0,4,[ah e4]⟩] 225 (by kernel_rfl) ?_
 refine oq 241 (I (len c_1.Clauses)) rfl (bv rfl rfl rfl (bK rfl)) ?_
 refine cq 1 [18] [I (ai ((len c_1.Clauses) - 1))] 257 ?_
 obtain⟨r5,hr5,h⟩:=bS h
 refine oq 273 (B r5) rfl (cP (iR hr5)) ?_
 refine cq 2 [21] [B (!r5)] 305 ?_
 obtain⟨y6,hy6,hy61,hy62⟩:=bJ h
 have j6:∀u6,y6=.inr u6→Run oG 0 (gf (c_1,s_2,i_3) r) (.code (cR (cL (cR (cR iQ))))::.code (cR (cR (cR iQ)))::[]) (sT 114 [(2,I i_3),(3,.hp 1 0 [] 2 0 0),(4,.hp 2 0 [] 5 0 0),(7,.hp 3 0 [] 4 0 0),(38,B u6)] [⟨0,2,[aa c_1]⟩,⟨0,5,[ae s_2]⟩,⟨0,4,[ah e4]⟩] 4):=by
  intro u6 hu
  replace h:=hy62 u6 hu
  refine sq h ?_ ?_<;>intro h
  ·refine cq 4 [6] [B false] 20 ?_
   obtain rfl:=sI h
   exact rP [B false]
  ·refine aq 1 ?_
   refine aq 2 ?_
   refine dt [0,1,0,4,0,16,0,64,240,496,1008,2044,4095,8191,16383,32767,65535,131071,262143,524287,1048575,2097151,4194303,8388607,16777215,8388607,41943039,8388607,142606335,511705087,1048575999,2122317823,4294967295,8589934591,17179869183] rfl (by decide +kernel) ?_
   refine dq [3] [] (.hp 3 0 [] 4 0 2) rfl (al rfl rfl rfl) ?_
   refine dq [3] [] (I e4.Due) rfl (aK rfl rfl) ?_
   refine dq [3] [] (.hp 3 0 [] 4 0 1) rfl (al rfl rfl rfl) ?_
   refine dq [3] [] (I e4.Since) rfl (aK rfl rfl) ?_
   refine dq [1] [] (.hp 1 0 [] 2 0 1) rfl (al rfl rfl rfl) ?_
   refine dq [1] [] (.isl false (c_1.Clauses.map ap)) rfl (aK rfl rfl) ?_
   refine dq [3] [] (.hp 3 0 [] 4 0 0) rfl (al rfl rfl rfl) ?_
   refine dq [3] [] (I e4.Clause) rfl (aK rfl rfl) ?_
   obtain⟨e7,he7,h⟩:=bS h
   refine dq [] [] (.iptr (ao e7) 0) rfl (aj rfl rfl rfl (aZ rfl rfl rfl rfl he7)) ?_
   refine dq [] [] (.iptr (ao e7) 10) rfl (al rfl rfl rfl) ?_
   refine dq [] [] (I e7.Within) rfl (aK rfl rfl) ?_
   refine dk 3 [52,51,50] [B (e4.Due != (ai (e4.Since+e7.Within))),B (e4.Due != (ai (e4.Since+e7.Within))),I (ai (e4.Since+e7.Within))] ?_
   obtain⟨y8,hy8,hy81,hy82⟩:=bJ h
   have j8:∀u8,y8=.inr u8→Run oG 0 (gf (c_1,s_2,i_3) r) (.code (cR (cL (cR (cR (cR iQ)))))::.code (cR (cR (cR (cR iQ))))::[]) (sT 114 [(2,I i_3),(3,.hp 1 0 [] 2 0 0),(4,.hp 2 0 [] 5 0 0),(7,.hp 3 0 [] 4 0 0),(73,B u8)] [⟨0,2,[aa c_1]⟩,⟨0,5,[ae s_2]⟩,⟨0,4,[ah e4]⟩] 4):=by
    intro u8 hu
    replace h:=hy82 u8 hu
    refine sq h ?_ ?_<;>intro h
    ·refine cq 4 [6] [B false] 20 ?_
     obtain rfl:=sI h
     exact rP [B false]
    ·refine aq 1 ?_
     refine cq 6 [74,76] [aa c_1,I e4.Clause] 52 ?_
     obtain⟨r9,hr9,h⟩:=bS h
     refine oq 68 (B r9) rfl (cP (adG hr9)) ?_
     refine cq 2 [79] [B (!r9)] 100 ?_
     obtain⟨y10,hy10,hy101,hy102⟩:=bJ h
     have j10:∀u10,y10=.inr u10→Run oG 0 (gf (c_1,s_2,i_3) r) (.code (cR (cL (cR (cR (cR (cR iQ))))))::.code (cR (cR (cR (cR (cR iQ)))))::[]) (sT 114 [(4,.hp 1 0 [] 5 0 0),(7,.hp 2 0 [] 4 0 0),(86,B u10)] [⟨0,5,[ae s_2]⟩,⟨0,4,[ah e4]⟩] 3):=by
      intro u10 hu
      replace h:=hy102 u10 hu
      refine sq h ?_ ?_<;>intro h
      ·refine cq 4 [6] [B false] 19 ?_
       obtain rfl:=sI h
       exact rP [B false]
      ·refine aq 1 ?_
       refine cq 12 [88,89] [I e4.Status,B (e4.Status==1)] 67 ?_
       refine sq h ?_ ?_<;>intro h
       ·refine cq 8 [96] [B (decide (e4.Due≥s_2.Day))] 163 ?_
        obtain⟨u11,hu11,h⟩:=lJ h
        have j11:Run oG 0 (gf (c_1,s_2,i_3) r) (.code (cR (cL (cR (cL (cR (cL (cR (cR (cR (cR (cR iQ)))))))))))::.blk 0::.code (cR (cR (cR (cR (cR (cR iQ))))))::[]) (sT 114 [(6,B u11)] [] 1):=by
         obtain rfl:=sI h
         exact rP [B u11]
        replace h:=hu11
        clear hu11
        refine sp 96 h rfl ?_ ?_<;>intro h
        ·refine cq 6 [6] [B (!s_2.Over)] 243 ?_
         subst h
         exact rf [6] [] (j11 :)
        ·refine cq 6 [6] [B false] 243 ?_
         subst h
         exact rf [6] [] (j11 :)
       ·refine cq 5 [101] [B (e4.Status==2)] 99 ?_
        refine sq h ?_ ?_<;>intro h
        ·refine cq 4 [6] [B true] 115 ?_
         obtain rfl:=sI h
         exact rP [B true]
        ·refine cq 5 [103] [B (e4.Status==3)] 131 ?_
         refine sq h ?_ ?_<;>intro h
         ·refine cq 9 [6] [B (decide (e4.Due<s_2.Day))] 227 ?_
          obtain rfl:=sI h
          exact rP [B (decide (e4.Due<s_2.Day))]
         ·refine cq 5 [110] [B (e4.Status==4)] 163 ?_
          refine sq h ?_ ?_<;>intro h
          ·refine cq 6 [6] [B s_2.Over] 211 ?_
           obtain rfl:=sI h
           exact rP [B s_2.Over]
          ·refine aq 1 ?_
           refine cq 5 [6] [B false] 179 ?_
           obtain rfl:=sI h
           exact rP [B false]
     have r10:∀r',y10=.inl r'→∀st,gf (c_1,s_2,i_3) r' st→(gf (c_1,s_2,i_3) r) st:=fun r' e st hq=>by rw[hy101 r' e] at hq;exact hq
     replace h:=hy10
     refine sp 79 h rfl ?_ ?_<;>intro h
     ·refine cq 3 [81,82] [.isl false (s_2.Duties.map ah),I i_3] 148 ?_
      obtain⟨s12,hs12,h⟩:=bS h
      refine oy 164 (.isl false (s12.map ah)) rfl (gH rfl rfl rfl rfl (zb rfl rfl (fun y=>(J7 y).1) rfl rfl hs12)) ?_
      refine cq 1 [84] [.fn 185 [.hp 3 0 [] 4 0 0]] 180 ?_
      obtain⟨r13,hr13,h⟩:=bS h
      refine oy 196 (B r13) rfl (bR rfl rfl (cn rfl rfl rfl (aQ (bx rfl) (aQ (lE (dU (gW (path:=[]) rfl rfl aU rfl rfl) gL)) cz)) (ae5 hr13) (.inl rfl) dT rfl rfl rfl)) ?_
      refine cq 2 [86] [B r13] 212 ?_
      exact rf [4,7,86] [2,3] (j10 _ (ak h) :)
     ·refine cq 8 [86] [B false] 212 ?_
      exact rf [4,7,86] [2,3] (j10 _ (ak h) :)
   have r8:∀r',y8=.inl r'→∀st,gf (c_1,s_2,i_3) r' st→(gf (c_1,s_2,i_3) r) st:=fun r' e st hq=>by rw[hy81 r' e] at hq;exact hq
   replace h:=hy8
   refine sp 52 h rfl ?_ ?_<;>intro h
   ·refine dk 21 [73,72,71,70,69,68,67,66,65,64,63,62,61,60,59,58,57,56,55,54,53] [B true,.und,.und,.und,.und,.und,.und,.und,.und,.und,.und,.und,.und,.und,.und,B true,B true,.und,.und,.und,.und] ?_
    refine de 564 rfl rfl ?_
    exact rf [2,3,4,7,73] [1,2,3] (j8 _ (ak h) :)
   ·refine dy [3] [] (.hp 3 0 [] 4 0 2) rfl (al rfl rfl rfl) ?_
    refine dy [3] [] (I e4.Due) rfl (aK rfl rfl) ?_
    obtain⟨r14,hr14,h⟩:=bS h
    refine dy [] [] (B r14) rfl (cP (rO hr14)) ?_ (cm rfl rfl rfl rfl (aQ (bx rfl) cz) (rO hr14) (.inr rfl) rfl)
    refine dk 3 [58,57,56] [B (!r14),B (!r14),B (!r14)] ?_
    obtain⟨y15,hy15,hy151,hy152⟩:=bL h
    have j15:∀u15,y15=.inr u15→Run oG 0 (gf (c_1,s_2,i_3) r) (.code (cR (cL (cR (cR (cR iQ)))))::.code (cR (cR (cR (cR iQ))))::[]) (sT 114 [(2,I i_3),(3,.hp 1 0 [] 2 0 0),(4,.hp 2 0 [] 5 0 0),(7,.hp 3 0 [] 4 0 0),(73,B u15)] [⟨0,2,[aa c_1]⟩,⟨0,5,[ae s_2]⟩,⟨0,4,[ah e4]⟩] 4):=by
     intro u15 hu
     replace h:=hy152 u15 hu
     exact rf [2,3,4,7,73] [1,2,3] (j8 _ (ak h) :)
    have r15:∀r',y15=.inl r'→∀st,gf (c_1,s_2,i_3) r' st→(gf (c_1,s_2,i_3) r) st:=fun r' e st hq=>r8 r' (hy151 r' e) st hq
    replace h:=hy15
    refine sp 58 h rfl ?_ ?_<;>intro h
    ·refine dk 15 [73,72,71,70,69,68,67,66,65,64,63,62,61,60,59] [B true,.und,.und,.und,.und,.und,.und,.und,.und,.und,.und,.und,.und,.und,.und] ?_
     refine de 564 rfl rfl ?_
     exact rf [2,3,4,7,73] [1,2,3] (j15 _ (ak h) :)
    ·refine dk 3 [61,60,59] [B (decide (i_3>0)),B (decide (i_3>0)),I i_3] ?_
     obtain⟨y16,hy16,hy161,hy162⟩:=bL h
     have j16:∀u16,y16=.inr u16→Run oG 0 (gf (c_1,s_2,i_3) r) (.code (cR (cL (cR (cR (cR iQ)))))::.code (cR (cR (cR (cR iQ))))::[]) (sT 114 [(2,I i_3),(3,.hp 1 0 [] 2 0 0),(4,.hp 2 0 [] 5 0 0),(7,.hp 3 0 [] 4 0 0),(73,B u16)] [⟨0,2,[aa c_1]⟩,⟨0,5,[ae s_2]⟩,⟨0,4,[ah e4]⟩] 4):=by
      intro u16 hu
      replace h:=hy162 u16 hu
      exact rf [2,3,4,7,73] [1,2,3] (j15 _ (ak h) :)
     have r16:∀r',y16=.inl r'→∀st,gf (c_1,s_2,i_3) r' st→(gf (c_1,s_2,i_3) r) st:=fun r' e st hq=>r15 r' (hy161 r' e) st hq
     replace h:=hy16
     refine sp 61 h rfl ?_ ?_<;>intro h
     ·refine dy [3] [] (.hp 3 0 [] 4 0 1) rfl (al rfl rfl rfl) ?_
      refine dy [3] [] (I e4.Since) rfl (aK rfl rfl) ?_
      refine dy [2] [] (.hp 2 0 [] 5 0 2) rfl (al rfl rfl rfl) ?_
      refine dy [2] [] (.isl false (s_2.Duties.map ah)) rfl (aK rfl rfl) ?_
      refine dk 2 [67,66] [I (ai (i_3 - 1)),I i_3] ?_
      obtain⟨e17,he17,h⟩:=bS h
      refine dy [] [] (.iptr (ah e17) 0) rfl (aj rfl rfl rfl (aZ rfl rfl rfl rfl he17)) ?_
      refine dy [] [] (.iptr (ah e17) 1) rfl (al rfl rfl rfl) ?_
      refine dy [] [] (I e17.Since) rfl (aK rfl rfl) ?_
      refine dk 3 [73,72,71] [B (decide (e4.Since<e17.Since)),B (decide (e4.Since<e17.Since)),B (decide (e4.Since<e17.Since))] ?_
      refine de 564 rfl rfl ?_
      exact rf [2,3,4,7,73] [1,2,3] (j16 _ (ak h) :)
     ·refine dk 12 [73,72,71,70,69,68,67,66,65,64,63,62] [B false,B false,.und,.und,.und,.und,.und,.und,.und,.und,.und,.und] ?_
      refine de 564 rfl rfl ?_
      exact rf [2,3,4,7,73] [1,2,3] (j16 _ (ak h) :)
 have r6:∀r',y6=.inl r'→∀st,gf (c_1,s_2,i_3) r' st→(gf (c_1,s_2,i_3) r) st:=fun r' e st hq=>by rw[hy61 r' e] at hq;exact hq
 replace h:=hy6
 refine sp 21 h rfl ?_ ?_<;>intro h
 ·refine cq 18 [38] [B true] 577 ?_
  exact rf [2,3,4,7,38] [1,17,129] (j6 _ (ak h) :)
 ·refine cq 4 [23,25] [.isl false (c_1.Clauses.map ap),I e4.Clause] 369 ?_
  obtain⟨e18,he18,h⟩:=bS h
  refine oy 385 (.iptr (ao e18) 0) rfl (aj rfl rfl rfl (aZ rfl rfl rfl rfl he18)) ?_
  refine cq 5 [31] [B (e18.Kind != 1)] 465 ?_
  obtain⟨y19,hy19,hy191,hy192⟩:=bL h
  have j19:∀u19,y19=.inr u19→Run oG 0 (gf (c_1,s_2,i_3) r) (.code (cR (cL (cR (cR iQ))))::.code (cR (cR (cR iQ)))::[]) (sT 114 [(2,I i_3),(3,.hp 1 0 [] 2 0 0),(4,.hp 2 0 [] 5 0 0),(7,.hp 3 0 [] 4 0 0),(38,B u19)] [⟨0,2,[aa c_1]⟩,⟨0,5,[ae s_2]⟩,⟨0,4,[ah e4]⟩] 4):=by
   intro u19 hu
   replace h:=hy192 u19 hu
   exact rf [2,3,4,7,38] [1,2,3] (j6 _ (ak h) :)
  have r19:∀r',y19=.inl r'→∀st,gf (c_1,s_2,i_3) r' st→(gf (c_1,s_2,i_3) r) st:=fun r' e st hq=>r6 r' (hy191 r' e) st hq
  replace h:=hy19
  refine sp 31 h rfl ?_ ?_<;>intro h
  ·refine cq 8 [38] [B true] 577 ?_
   exact rf [2,3,4,7,38] [1,17,129] (j19 _ (ak h) :)
  ·refine cq 4 [33,35] [I e4.Since,I s_2.Day] 529 ?_
   obtain⟨r20,hr20,h⟩:=bS h
   refine oy 545 (B r20) rfl (cP (iR hr20)) ?_
   refine cq 3 [38] [B (!r20)] 577 ?_
   exact rf [2,3,4,7,38] [1,17,129] (j19 _ (ak h) :)
theorem Td {G:bT}[TabG Tryz.prog G]:bQ G 162 BL:=gT 3 0 (aL jq (aL Ta (aL U4 (aL wX bu)))) bW Tryz.func162 (fun a r h=>Yc a.1 a.2.1 a.2.2 r h)
def Mq:Int→List V:=oA I
def Mr (r:Bool):V×List V:=(B r,[])
noncomputable def JY :=bb [false] Mq Mr fun x=>QS x
theorem ahb {x_1:Int}{r}(h:QS x_1=some r):JY.F (Mq x_1)=some (Mr r):=aF (aG bi) h
noncomputable def ahd :=aD Tryz.f164
noncomputable def abQ :=bV [(99,iT)]
def ahc (x:Int)(r:Bool):St→Prop:=QF abQ Tryz.f164 [false] (Mq x) (Mr r)
theorem acH (x_1:Int)(r:Bool)(h:QS x_1=some r):bq abQ Tryz.f164 [false] 0 (Mq x_1) (Mr r):=by
 show Run _ _ (ahc x_1 r) [.code ahd] _
 refine rI 5 [(0,I x_1)] [] 1 ?_
 unfold QS at h
 refine cq 7 [3] [I x_1] 33 ?_
 obtain⟨r2,hr2,h⟩:=bS h
 refine oq 49 (B r2) rfl (cP (iR hr2)) ?_
 refine cq 2 [2] [B r2] 65 ?_
 obtain rfl:=sI h
 exact rP [B r2]
theorem aac {G:bT}[TabG Tryz.prog G]:bQ G 164 JY:=gT 1 0 (aL jq bu) bW Tryz.func164 (fun a r h=>acH a r h)
def EE:Int→List V:=oA I
def EF (r:Bool):V×List V:=(B r,[])
noncomputable def BZ :=bb [false] EE EF fun x=>BX x
theorem adZ {b_1:Int}{r}(h:BX b_1=some r):BZ.F (EE b_1)=some (EF r):=aF (aG bi) h
noncomputable def ad1 :=aD Tryz.f163
noncomputable def Tq :=bV [(164,JY)]
def ad0 (x:Int)(r:Bool):St→Prop:=QF Tq Tryz.f163 [false] (EE x) (EF r)
theorem Yj (b_1:Int)(r:Bool)(h:BX b_1=some r):bq Tq Tryz.f163 [false] 0 (EE b_1) (EF r):=by
 show Run _ _ (ad0 b_1 r) [.code ad1] _
 refine rI 6 [(0,I b_1)] [] 1 ?_
 unfold BX at h
 refine cq 7 [3] [I b_1] 33 ?_
 obtain⟨r2,hr2,h⟩:=bS h
 refine oq 49 (B r2) rfl (cP (ahb hr2)) ?_
 refine cq 3 [2] [B (!r2)] 81 ?_
 obtain rfl:=sI h
 exact rP [B (!r2)]
theorem Tr {G:bT}[TabG Tryz.prog G]:bQ G 163 BZ:=gT 1 0 (aL aac bu) bW Tryz.func163 (fun a r h=>Yj a r h)
def Ga:((List Int)×Unit)→List V:=cA (fM I) (oA (fun x:Unit=>(.fn 163 []:V)))
def Gb (r:Int):V×List V:=(I r,[])
noncomputable def C0 :=bb [false,false] Ga Gb fun x=>Jz x.1 x.2
theorem afn {s_1:List Int}{f_2:Unit}{r}(h:Jz s_1 f_2=some r):C0.F (Ga (s_1,f_2))=some (Gb r):=aF (aJ (b7 bi) (aG (Q0 ))) h
noncomputable def Vp :=aD Tryz.f153
noncomputable def M8 :=bV [(163,BZ)]
def Vo (x:(List Int)×Unit)(r:Int):St→Prop:=QF M8 Tryz.f153 [false,false] (Ga x) (Gb r)
theorem PB (s_1:List Int)(f_2:Unit):cj M8 0 (Vo (s_1,f_2)) (cL (cL (cR (cL (cR Vp))))) 0 (un s_1 f_2) (fun u=>(sT 19 [] [] 1)) fun x3=>(sT 19 [(0,.isl false (s_1.map I)),(1,.fn 163 []),(7,I (len s_1)),(8,I x3)] [] 1):=ee (Av s_1 f_2) fun {Q K} hK self ih x3 y h hr hn=>by
 unfold nT at h
 refine cq 5 [9] [B (decide (x3<(len s_1)))] 17 ?_
 refine sq h ?_ ?_<;>intro h
 ·refine aq 1 ?_
  refine cq 12 [5,11,12,13] [I x3,.fn 163 [],.isl false (s_1.map I),I x3] 97 ?_
  obtain⟨e4,he4,h⟩:=bS h
  refine oq 113 (.iptr (I e4) 0) rfl (aj rfl rfl rfl (aZ rfl rfl rfl rfl he4)) ?_
  refine cq 1 [15] [I e4] 129 ?_
  obtain⟨r5,hr5,h⟩:=bS h
  refine oq 145 (B r5) rfl (cP (adZ hr5)) ?_
  refine aq 1 ?_
  refine sq h ?_ ?_<;>intro h
  ·refine cq 5 [4] [I x3] 177 ?_
   exact cu rfl (hr _ (ak h) _ (qp [I x3]))
  ·refine aq 1 ?_
   refine cq 5 [8] [I (ai (x3+1))] 177 ?_
   refine dh ?_
   exact rf [0,1,7,8] [] (ih _ _ h hr hn :)
 ·refine aq 1 ?_
  exact rf [] [] (hn _ (ak h) :) (hk:=hK)
theorem Zb (s_1:List Int)(f_2:Unit)(r:Int)(h:Jz s_1 f_2=some r):bq M8 Tryz.f153 [false,false] 0 (Ga (s_1,f_2)) (Gb r):=by
 show Run _ _ (Vo (s_1,f_2) r) [.code Vp] _
 refine rI 19 [(0,.isl false (s_1.map I)),(1,.fn 163 [])] [] 1 ?_
 unfold Jz at h
 refine cq 8 [6] [.isl false (s_1.map I)] 33 ?_
 refine oq 49 (I (len s_1)) rfl (bv rfl rfl rfl (bK rfl)) ?_
 refine cq 3 [8] [I (0)] 65 ?_
 obtain⟨y6,hy6,hy61,hy62⟩:=bJ h
 refine bP rfl ?_
 refine rf [0,1,7,8] [] (PB s_1 f_2 rfl 0 _ hy6 (fun r' e st hq=>by rw[hy61 r' e] at hq;exact hq) fun u6 hu=>?_)
 replace h:=hy62 u6 hu
 refine cq 4 [4] [I (-1)] 17 ?_
 obtain rfl:=sI h
 exact rP [I (-1)]
theorem Vq {G:bT}[TabG Tryz.prog G]:bQ G 153 C0:=gT 2 0 (aL Tr bu) bW Tryz.func153 (fun a r h=>Zb a.1 a.2 r h)
def FW:((List Int)×Unit)→List V:=cA (fM I) (oA (fun x:Unit=>(.fn 163 []:V)))
def FX (r:Bool):V×List V:=(B r,[])
noncomputable def CU :=bb [false,false] FW FX fun x=>Jt x.1 x.2
theorem afb {s_1:List Int}{f_2:Unit}{r}(h:Jt s_1 f_2=some r):CU.F (FW (s_1,f_2))=some (FX r):=aF (aJ (b7 bi) (aG (Q0 ))) h
noncomputable def afd :=aD Tryz.f115
noncomputable def U7 :=bV [(153,C0)]
def afc (x:(List Int)×Unit)(r:Bool):St→Prop:=QF U7 Tryz.f115 [false,false] (FW x) (FX r)
theorem Y4 (s_1:List Int)(f_2:Unit)(r:Bool)(h:Jt s_1 f_2=some r):bq U7 Tryz.f115 [false,false] 0 (FW (s_1,f_2)) (FX r):=by
 show Run _ _ (afc (s_1,f_2) r) [.code afd] _
 refine rI 9 [(0,.isl false (s_1.map I)),(1,.fn 163 [])] [] 1 ?_
 unfold Jt at h
 refine cq 8 [5,6] [.isl false (s_1.map I),.fn 163 []] 49 ?_
 obtain⟨r3,hr3,h⟩:=bS h
 refine oq 65 (I r3) rfl (cP (afn hr3)) ?_
 refine cq 3 [4] [B (decide (r3≥0))] 97 ?_
 obtain rfl:=sI h
 exact rP [B (decide (r3≥0))]
theorem U8 {G:bT}[TabG Tryz.prog G]:bQ G 115 CU:=gT 2 0 (aL Vq bu) bW Tryz.func115 (fun a r h=>Y4 a.1 a.2 r h)
def Eu:(Contract×State)→List V:=cA aM (oA bA)
def Ev (r:Bool):V×List V:=(B r,[])
noncomputable def BQ :=bb [false,false] Eu Ev fun x=>BP x.1 x.2
theorem adR {c_1:Contract}{s_2:State}{r}(h:BP c_1 s_2=some r):BQ.F (Eu (c_1,s_2))=some (Ev r):=aF (aJ aP (aG bN)) h
noncomputable def mU :=aD Tryz.f127
noncomputable def rR :=bV [(101,zy),(78,rQ),(162,BL),(115,CU),(161,B4),(158,BO),(159,CV)]
def jp (x:Contract×State)(r:Bool):St→Prop:=QF rR Tryz.f127 [false,false] (Eu x) (Ev r)
theorem Pd (c_1:Contract)(s_2:State):cj rR 0 (jp (c_1,s_2)) (cL (cL (cR (cL (cR (cR (cR (cR mU)))))))) 0 (nE c_1 s_2) (fun u=>(sT 60 [(3,.hp 1 0 [] 5 0 0)] [⟨0,5,[ae s_2]⟩] 2)) fun x7=>(sT 60 [(2,.hp 1 0 [] 2 0 0),(3,.hp 2 0 [] 5 0 0),(46,I (len s_2.Duties)),(47,I x7)] [⟨0,2,[aa c_1]⟩,⟨0,5,[ae s_2]⟩] 3):=ee (zW c_1 s_2) fun {Q K} hK self ih x7 y h hr hn=>by
 unfold lK at h
 refine cq 5 [48] [B (decide (x7<(len s_2.Duties)))] 19 ?_
 refine sq h ?_ ?_<;>intro h
 ·refine aq 1 ?_
  refine cq 12 [50,51,52] [aa c_1,ae s_2,I x7] 99 ?_
  obtain⟨r8,hr8,h⟩:=bS h
  refine oq 115 (B r8) rfl (cP (adM hr8)) ?_
  refine cq 2 [54] [B (!r8)] 131 ?_
  refine sq h ?_ ?_<;>intro h
  ·refine cq 4 [4] [B false] 147 ?_
   exact cu rfl (hr _ (ak h) _ (qp [B false]))
  ·refine aq 1 ?_
   refine cq 5 [47] [I (ai (x7+1))] 163 ?_
   refine dh ?_
   exact rf [2,3,46,47] [1,2] (ih _ _ h hr hn :)
 ·refine aq 1 ?_
  exact rf [3] [2] (hn _ (ak h) :) (hk:=hK)
theorem Yf (c_1:Contract)(s_2:State)(r:Bool)(h:BP c_1 s_2=some r):bq rR Tryz.f127 [false,false] 0 (Eu (c_1,s_2)) (Ev r):=by
 show Run _ _ (jp (c_1,s_2) r) [.code mU] _
 refine rI 60 [(0,aa c_1),(1,ae s_2)] [] 1 ?_
 unfold BP at h
 refine ck 9 [2,3,7] [] [1,17] [] [.hp 1 0 [] 2 0 0,.hp 17 0 [] 5 0 0,aa c_1] [some ⟨0,2,[aa c_1]⟩,some ⟨0,5,[ae s_2]⟩] 65 (by kernel_rfl) ?_
 obtain⟨r3,hr3,h⟩:=bS h
 refine oq 81 (.hs 65 0 [] 1 0 (r3.map str).length) rfl (cP (abN hr3)) ?_
 refine ck 1 [5] [] [81] [] [.hp 81 0 [] 1 0 0] [some ⟨0,1,[.isl true []]⟩] 97 (by kernel_rfl) ?_
 refine fY 81 [.usl 1 (([]).map str)] rfl rfl (aR (.nil _) eV) ?_
 refine o0 113 rfl rfl (gb rfl rfl (fm (path:=[]) (pl:=false) (e':=.usl 1 (r3.map str)) (es2':=[.usl 1 (r3.map str)]) rfl (fZ rfl (dR rfl rfl)) rfl rfl rfl aU rfl rfl rfl rfl rfl eK 2 rfl)) ?_
 refine cq 6 [10] [I s_2.Day] 145 ?_
 obtain⟨r4,hr4,h⟩:=bS h
 refine oq 161 (B r4) rfl (cP (rO hr4)) ?_
 refine cq 2 [13] [B (!r4)] 193 ?_
 obtain⟨y5,hy5,hy51,hy52⟩:=bJ h
 have j5:∀u5,y5=.inr u5→Run rR 0 (jp (c_1,s_2) r) (.code (cR (cL (cR (cR mU))))::.code (cR (cR (cR mU)))::[]) (sT 60 [(2,.hp 1 0 [] 2 0 0),(3,.hp 2 0 [] 5 0 0),(24,B u5)] [⟨0,2,[aa c_1]⟩,⟨0,5,[ae s_2]⟩] 3):=by
  intro u5 hu
  replace h:=hy52 u5 hu
  refine sq h ?_ ?_<;>intro h
  ·refine cq 4 [4] [B false] 19 ?_
   obtain rfl:=sI h
   exact rP [B false]
  ·refine aq 1 ?_
   refine cq 5 [26] [.isl false (s_2.Duties.map ah)] 35 ?_
   refine oq 51 (I (len s_2.Duties)) rfl (bv rfl rfl rfl (bK rfl)) ?_
   refine cq 2 [29] [B (decide ((len s_2.Duties)>24))] 83 ?_
   obtain⟨y6,hy6,hy61,hy62⟩:=bJ h
   have j6:∀u6,y6=.inr u6→Run rR 0 (jp (c_1,s_2) r) (.code (cR (cL (cR (cR (cR mU)))))::.code (cR (cR (cR (cR mU))))::[]) (sT 60 [(2,.hp 1 0 [] 2 0 0),(3,.hp 2 0 [] 5 0 0),(43,B u6)] [⟨0,2,[aa c_1]⟩,⟨0,5,[ae s_2]⟩] 3):=by
    intro u6 hu
    replace h:=hy62 u6 hu
    refine sq h ?_ ?_<;>intro h
    ·refine cq 4 [4] [B false] 19 ?_
     obtain rfl:=sI h
     exact rP [B false]
    ·refine aq 1 ?_
     refine cq 5 [45] [.isl false (s_2.Duties.map ah)] 35 ?_
     refine oq 51 (I (len s_2.Duties)) rfl (bv rfl rfl rfl (bK rfl)) ?_
     refine cq 3 [47] [I (0)] 67 ?_
     obtain⟨y9,hy9,hy91,hy92⟩:=bJ h
     refine bP rfl ?_
     refine rf [2,3,46,47] [1,2] (Pd c_1 s_2 rfl 0 _ hy9 (fun r' e st hq=>by rw[hy91 r' e] at hq;exact hq) fun u9 hu=>?_)
     replace h:=hy92 u9 hu
     refine cq 4 [57] [.isl false (s_2.Balances.map I)] 34 ?_
     obtain⟨r10,hr10,h⟩:=bS h
     refine oq 50 (B r10) rfl (cP (afb hr10)) ?_
     refine cq 3 [4] [B (!r10)] 82 ?_
     obtain rfl:=sI h
     exact rP [B (!r10)]
   have r6:∀r',y6=.inl r'→∀st,jp (c_1,s_2) r' st→(jp (c_1,s_2) r) st:=fun r' e st hq=>by rw[hy61 r' e] at hq;exact hq
   replace h:=hy6
   refine sp 29 h rfl ?_ ?_<;>intro h
   ·refine cq 15 [43] [B true] 307 ?_
    exact rf [2,3,43] [1,2] (j6 _ (ak h) :)
   ·refine cq 2 [31] [.isl false (s_2.Balances.map I)] 115 ?_
    refine oy 131 (I (len s_2.Balances)) rfl (bv rfl rfl rfl (bK rfl)) ?_
    refine cq 2 [34] [.isl false (c_1.Parties.map str)] 163 ?_
    refine oy 179 (I (len c_1.Parties)) rfl (bv rfl rfl rfl (bK rfl)) ?_
    refine cq 3 [38] [B ((len s_2.Balances) != (len c_1.Parties))] 227 ?_
    obtain⟨y11,hy11,hy111,hy112⟩:=bL h
    have j11:∀u11,y11=.inr u11→Run rR 0 (jp (c_1,s_2) r) (.code (cR (cL (cR (cR (cR mU)))))::.code (cR (cR (cR (cR mU))))::[]) (sT 60 [(2,.hp 1 0 [] 2 0 0),(3,.hp 2 0 [] 5 0 0),(43,B u11)] [⟨0,2,[aa c_1]⟩,⟨0,5,[ae s_2]⟩] 3):=by
     intro u11 hu
     replace h:=hy112 u11 hu
     exact rf [2,3,43] [1,2] (j6 _ (ak h) :)
    have r11:∀r',y11=.inl r'→∀st,jp (c_1,s_2) r' st→(jp (c_1,s_2) r) st:=fun r' e st hq=>r6 r' (hy111 r' e) st hq
    replace h:=hy11
    refine sp 38 h rfl ?_ ?_<;>intro h
    ·refine cq 6 [43] [B true] 307 ?_
     exact rf [2,3,43] [1,2] (j11 _ (ak h) :)
    ·refine cq 2 [40] [.isl false (s_2.Balances.map I)] 259 ?_
     obtain⟨r12,hr12,h⟩:=bS h
     refine oy 275 (I r12) rfl (cP (ad6 hr12)) ?_
     refine cq 3 [43] [B (r12 != 0)] 307 ?_
     exact rf [2,3,43] [1,2] (j11 _ (ak h) :)
 have r5:∀r',y5=.inl r'→∀st,jp (c_1,s_2) r' st→(jp (c_1,s_2) r) st:=fun r' e st hq=>by rw[hy51 r' e] at hq;exact hq
 replace h:=hy5
 refine sp 13 h rfl ?_ ?_<;>intro h
 ·refine cq 12 [24] [B true] 369 ?_
  exact rf [2,3,24] [1,17] (j5 _ (ak h) :)
 ·refine cq 2 [15] [.isl false (s_2.Facts.map str)] 225 ?_
  obtain⟨r13,hr13,h⟩:=bS h
  refine oy 241 (B r13) rfl (cP (adQ hr13)) ?_
  refine cq 3 [19] [B (!r13)] 289 ?_
  obtain⟨y14,hy14,hy141,hy142⟩:=bL h
  have j14:∀u14,y14=.inr u14→Run rR 0 (jp (c_1,s_2) r) (.code (cR (cL (cR (cR mU))))::.code (cR (cR (cR mU)))::[]) (sT 60 [(2,.hp 1 0 [] 2 0 0),(3,.hp 2 0 [] 5 0 0),(24,B u14)] [⟨0,2,[aa c_1]⟩,⟨0,5,[ae s_2]⟩] 3):=by
   intro u14 hu
   replace h:=hy142 u14 hu
   exact rf [2,3,24] [1,2] (j5 _ (ak h) :)
  have r14:∀r',y14=.inl r'→∀st,jp (c_1,s_2) r' st→(jp (c_1,s_2) r) st:=fun r' e st hq=>r5 r' (hy141 r' e) st hq
  replace h:=hy14
  refine sp 19 h rfl ?_ ?_<;>intro h
  ·refine cq 6 [24] [B true] 369 ?_
   exact rf [2,3,24] [1,17] (j14 _ (ak h) :)
  ·refine cq 3 [21,22] [.isl false (s_2.Facts.map str),.fn 160 [.hp 81 0 [] 1 0 0]] 337 ?_
   obtain⟨r15,hr15,h⟩:=bS h
   refine oy 353 (B r15) rfl (bR rfl rfl (cn rfl rfl rfl (aQ (bx rfl) (aQ (lE (dU (gW (path:=[]) rfl rfl aU rfl (abV (ci gl))) gL)) cz)) (afe hr15) (.inl rfl) dT rfl rfl rfl)) ?_
   refine cq 2 [24] [B r15] 369 ?_
   exact rf [2,3,24] [1,17] (j14 _ (ak h) :)
theorem Ti {G:bT}[TabG Tryz.prog G]:bQ G 127 BQ:=gT 2 0 (aL NP (aL wX (aL Td (aL U8 (aL Tz (aL Th (aL Va bu))))))) bW Tryz.func127 (fun a r h=>Yf a.1 a.2 r h)
def LK:(Contract×State)→List V:=cA aM (oA bA)
def LM (r:Bool):V×List V:=(B r,[])
noncomputable def JI :=bb [false,false] LK LM fun x=>KD x.1 x.2
theorem agK {c_1:Contract}{s_2:State}{r}(h:KD c_1 s_2=some r):JI.F (LK (c_1,s_2))=some (LM r):=aF (aJ aP (aG bN)) h
noncomputable def abn :=aD Tryz.f77
noncomputable def RZ :=bV [(47,Jr),(127,BQ)]
def LL (x:Contract×State)(r:Bool):St→Prop:=QF RZ Tryz.f77 [false,false] (LK x) (LM r)
theorem acl (c_1:Contract)(s_2:State)(r:Bool)(h:KD c_1 s_2=some r):bq RZ Tryz.f77 [false,false] 0 (LK (c_1,s_2)) (LM r):=by
 show Run _ _ (LL (c_1,s_2) r) [.code abn] _
 refine rI 12 [(0,aa c_1),(1,ae s_2)] [] 1 ?_
 unfold KD at h
 refine ck 9 [2,3,5] [] [1,17] [] [.hp 1 0 [] 2 0 0,.hp 17 0 [] 5 0 0,aa c_1] [some ⟨0,2,[aa c_1]⟩,some ⟨0,5,[ae s_2]⟩] 65 (by kernel_rfl) ?_
 obtain⟨r3,hr3,h⟩:=bS h
 refine oq 81 (B r3) rfl (cP (agJ hr3)) ?_
 refine cq 1 [7] [B r3] 97 ?_
 obtain⟨y4,hy4,hy41,hy42⟩:=bJ h
 have j4:∀u4,y4=.inr u4→Run RZ 0 (LL (c_1,s_2) r) (.code (cR (cR abn))::[]) (sT 12 [(4,B u4)] [] 1):=by
  intro u4 hu
  replace h:=hy42 u4 hu
  obtain rfl:=sI h
  exact rP [B u4]
 have r4:∀r',y4=.inl r'→∀st,LL (c_1,s_2) r' st→(LL (c_1,s_2) r) st:=fun r' e st hq=>by rw[hy41 r' e] at hq;exact hq
 replace h:=hy4
 refine sp 7 h rfl ?_ ?_<;>intro h
 ·refine cq 2 [8,9] [aa c_1,ae s_2] 129 ?_
  obtain⟨r5,hr5,h⟩:=bS h
  refine oy 145 (B r5) rfl (cP (adR hr5)) ?_
  refine cq 3 [4] [B r5] 177 ?_
  exact rf [4] [] (j4 _ (ak h) :)
 ·refine cq 6 [4] [B false] 177 ?_
  exact rf [4] [] (j4 _ (ak h) :)
theorem ZW {G:bT}[TabG Tryz.prog G]:bQ G 77 JI:=gT 2 0 (aL Y2 (aL Ti bu)) bW Tryz.func77 (fun a r h=>acl a.1 a.2 r h)
def EA:(Int×Contract)→List V:=cA I (oA (fun x:Contract=>.iptr (aM x) 0))
def EB (r:Bool):V×List V:=(B r,[])
noncomputable def BU :=bb [false,false] EA EB fun x=>BT x.1 x.2
theorem adT {p_1:Int}{a_2:Contract}{r}(h:BT p_1 a_2=some r):BU.F (EA (p_1,a_2))=some (EB r):=aF (aJ bi (aG (i8 aP))) h
noncomputable def adV :=aD Tryz.f116
noncomputable def Tl :=bV [(99,iT)]
def adU (x:Int×Contract)(r:Bool):St→Prop:=QF Tl Tryz.f116 [false,false] (EA x) (EB r)
theorem Yh (p_1:Int)(a_2:Contract)(r:Bool)(h:BT p_1 a_2=some r):bq Tl Tryz.f116 [false,false] 0 (EA (p_1,a_2)) (EB r):=by
 show Run _ _ (adU (p_1,a_2) r) [.code adV] _
 refine rI 11 [(0,I p_1),(1,.iptr (aa a_2) 0)] [] 1 ?_
 unfold BT at h
 refine cq 9 [4,6] [I p_1,.isl false (a_2.Parties.map str)] 65 ?_
 refine oq 81 (I (len a_2.Parties)) rfl (bv rfl rfl rfl (bK rfl)) ?_
 refine cq 1 [8] [I (ai ((len a_2.Parties) - 1))] 97 ?_
 obtain⟨r3,hr3,h⟩:=bS h
 refine oq 113 (B r3) rfl (cP (iR hr3)) ?_
 refine cq 3 [3] [B (!r3)] 145 ?_
 obtain rfl:=sI h
 exact rP [B (!r3)]
theorem Tm {G:bT}[TabG Tryz.prog G]:bQ G 116 BU:=gT 2 0 (aL jq bu) bW Tryz.func116 (fun a r h=>Yh a.1 a.2 r h)
def F8:((List Int)×Contract)→List V:=cA (fM I) (oA (fun x:Contract=>(.fn 116 [.iptr (aM x) 0]:V)))
def F9 (r:Int):V×List V:=(I r,[])
noncomputable def CZ :=bb [false,false] F8 F9 fun x=>Jy x.1 x.2
theorem afm {s_1:List Int}{f_2:Contract}{r}(h:Jy s_1 f_2=some r):CZ.F (F8 (s_1,f_2))=some (F9 r):=aF (aJ (b7 bi) (aG (hP aP))) h
noncomputable def Vm :=aD Tryz.f153
noncomputable def M7 :=bV [(116,BU)]
def Vl (x:(List Int)×Contract)(r:Int):St→Prop:=QF M7 Tryz.f153 [false,false] (F8 x) (F9 r)
theorem PA (s_1:List Int)(f_2:Contract):cj M7 0 (Vl (s_1,f_2)) (cL (cL (cR (cL (cR Vm))))) 0 (um s_1 f_2) (fun u=>(sT 19 [] [] 1)) fun x3=>(sT 19 [(0,.isl false (s_1.map I)),(1,.fn 116 [.iptr (aa f_2) 0]),(7,I (len s_1)),(8,I x3)] [] 1):=ee (Au s_1 f_2) fun {Q K} hK self ih x3 y h hr hn=>by
 unfold nS at h
 refine cq 5 [9] [B (decide (x3<(len s_1)))] 17 ?_
 refine sq h ?_ ?_<;>intro h
 ·refine aq 1 ?_
  refine cq 12 [5,11,12,13] [I x3,.fn 116 [.iptr (aa f_2) 0],.isl false (s_1.map I),I x3] 97 ?_
  obtain⟨e4,he4,h⟩:=bS h
  refine oq 113 (.iptr (I e4) 0) rfl (aj rfl rfl rfl (aZ rfl rfl rfl rfl he4)) ?_
  refine cq 1 [15] [I e4] 129 ?_
  obtain⟨r5,hr5,h⟩:=bS h
  refine oq 145 (B r5) rfl (cP (adT hr5)) ?_
  refine aq 1 ?_
  refine sq h ?_ ?_<;>intro h
  ·refine cq 5 [4] [I x3] 177 ?_
   exact cu rfl (hr _ (ak h) _ (qp [I x3]))
  ·refine aq 1 ?_
   refine cq 5 [8] [I (ai (x3+1))] 177 ?_
   refine dh ?_
   exact rf [0,1,7,8] [] (ih _ _ h hr hn :)
 ·refine aq 1 ?_
  exact rf [] [] (hn _ (ak h) :) (hk:=hK)
theorem Za (s_1:List Int)(f_2:Contract)(r:Int)(h:Jy s_1 f_2=some r):bq M7 Tryz.f153 [false,false] 0 (F8 (s_1,f_2)) (F9 r):=by
 show Run _ _ (Vl (s_1,f_2) r) [.code Vm] _
 refine rI 19 [(0,.isl false (s_1.map I)),(1,.fn 116 [.iptr (aa f_2) 0])] [] 1 ?_
 unfold Jy at h
 refine cq 8 [6] [.isl false (s_1.map I)] 33 ?_
 refine oq 49 (I (len s_1)) rfl (bv rfl rfl rfl (bK rfl)) ?_
 refine cq 3 [8] [I (0)] 65 ?_
 obtain⟨y6,hy6,hy61,hy62⟩:=bJ h
 refine bP rfl ?_
 refine rf [0,1,7,8] [] (PA s_1 f_2 rfl 0 _ hy6 (fun r' e st hq=>by rw[hy61 r' e] at hq;exact hq) fun u6 hu=>?_)
 replace h:=hy62 u6 hu
 refine cq 4 [4] [I (-1)] 17 ?_
 obtain rfl:=sI h
 exact rP [I (-1)]
theorem Vn {G:bT}[TabG Tryz.prog G]:bQ G 153 CZ:=gT 2 0 (aL Tm bu) bW Tryz.func153 (fun a r h=>Za a.1 a.2 r h)
def FU:((List Int)×Contract)→List V:=cA (fM I) (oA (fun x:Contract=>(.fn 116 [.iptr (aM x) 0]:V)))
def FV (r:Bool):V×List V:=(B r,[])
noncomputable def CT :=bb [false,false] FU FV fun x=>Js x.1 x.2
theorem ae8 {s_1:List Int}{f_2:Contract}{r}(h:Js s_1 f_2=some r):CT.F (FU (s_1,f_2))=some (FV r):=aF (aJ (b7 bi) (aG (hP aP))) h
noncomputable def afa :=aD Tryz.f115
noncomputable def U5 :=bV [(153,CZ)]
def ae9 (x:(List Int)×Contract)(r:Bool):St→Prop:=QF U5 Tryz.f115 [false,false] (FU x) (FV r)
theorem Y3 (s_1:List Int)(f_2:Contract)(r:Bool)(h:Js s_1 f_2=some r):bq U5 Tryz.f115 [false,false] 0 (FU (s_1,f_2)) (FV r):=by
 show Run _ _ (ae9 (s_1,f_2) r) [.code afa] _
 refine rI 9 [(0,.isl false (s_1.map I)),(1,.fn 116 [.iptr (aa f_2) 0])] [] 1 ?_
 unfold Js at h
 refine cq 8 [5,6] [.isl false (s_1.map I),.fn 116 [.iptr (aa f_2) 0]] 49 ?_
 obtain⟨r3,hr3,h⟩:=bS h
 refine oq 65 (I r3) rfl (bR rfl rfl (cn rfl rfl rfl (aQ (bx rfl) (aQ (lE (dU (f7 rfl) gL)) cz)) (afm hr3) (.inr rfl) dT rfl rfl rfl)) ?_
 refine cq 3 [4] [B (decide (r3≥0))] 97 ?_
 obtain rfl:=sI h
 exact rP [B (decide (r3≥0))]
theorem U6 {G:bT}[TabG Tryz.prog G]:bQ G 115 CT:=gT 2 0 (aL Vn bu) bW Tryz.func115 (fun a r h=>Y3 a.1 a.2 r h)
def Ex:(Contract×State×(List Int))→List V:=cA aM (cA bA (oA (fM I)))
def Ez (r:Bool):V×List V:=(B r,[])
noncomputable def BS :=bb [false,false,false] Ex Ez fun x=>BR x.1 x.2.1 x.2.2
theorem adS {c_1:Contract}{s_2:State}{gj:List Int}{r}(h:BR c_1 s_2 gj=some r):BS.F (Ex (c_1,s_2,gj))=some (Ez r):=aF (aJ aP (aJ bN (aG (b7 bi)))) h
noncomputable def Tj :=aD Tryz.f68
noncomputable def MC :=bV [(77,JI),(115,CT)]
def Ey (x:Contract×State×(List Int))(r:Bool):St→Prop:=QF MC Tryz.f68 [false,false,false] (Ex x) (Ez r)
theorem Yg (c_1:Contract)(s_2:State)(gj:List Int)(r:Bool)(h:BR c_1 s_2 gj=some r):bq MC Tryz.f68 [false,false,false] 0 (Ex (c_1,s_2,gj)) (Ez r):=by
 show Run _ _ (Ey (c_1,s_2,gj) r) [.code Tj] _
 refine rI 16 [(0,aa c_1),(1,ae s_2),(2,.isl false (gj.map I))] [] 1 ?_
 unfold BR at h
 refine ck 10 [3,7,8] [] [1] [] [.hp 1 0 [] 2 0 0,aa c_1,ae s_2] [some ⟨0,2,[aa c_1]⟩] 81 (by kernel_rfl) ?_
 obtain⟨r4,hr4,h⟩:=bS h
 refine oq 97 (B r4) rfl (cP (agK hr4)) ?_
 refine cq 1 [10] [B r4] 113 ?_
 obtain⟨y5,hy5,hy51,hy52⟩:=bJ h
 have j5:∀u5,y5=.inr u5→Run MC 0 (Ey (c_1,s_2,gj) r) (.code (cR (cR Tj))::[]) (sT 16 [(6,B u5)] [] 1):=by
  intro u5 hu
  replace h:=hy52 u5 hu
  obtain rfl:=sI h
  exact rP [B u5]
 have r5:∀r',y5=.inl r'→∀st,Ey (c_1,s_2,gj) r' st→(Ey (c_1,s_2,gj) r) st:=fun r' e st hq=>by rw[hy51 r' e] at hq;exact hq
 replace h:=hy5
 refine sp 10 h rfl ?_ ?_<;>intro h
 ·refine cq 2 [11,12] [.isl false (gj.map I),.fn 116 [.hp 1 0 [] 2 0 0]] 145 ?_
  obtain⟨r6,hr6,h⟩:=bS h
  refine oy 161 (B r6) rfl (bR rfl rfl (cn rfl rfl rfl (aQ (bx rfl) (aQ (lE (dU (gW (path:=[]) rfl rfl aU rfl rfl) gL)) cz)) (ae8 hr6) (.inl rfl) dT rfl rfl rfl)) ?_
  refine cq 4 [6] [B (!r6)] 209 ?_
  exact rf [6] [] (j5 _ (ak h) :)
 ·refine cq 7 [6] [B false] 209 ?_
  exact rf [6] [] (j5 _ (ak h) :)
theorem Tk {G:bT}[TabG Tryz.prog G]:bQ G 68 BS:=gT 3 0 (aL ZW (aL U6 bu)) bW Tryz.func68 (fun a r h=>Yg a.1 a.2.1 a.2.2 r h)
def Me:(Duty×Clause×Int)→List V:=cA ah (cA ap (oA (fun x:Int=>.iptr (I x) 0)))
def Mf (r:Bool):V×List V:=(B r,[])
noncomputable def JV :=bb [false,false,false] Me Mf fun x=>QR x.1 x.2.1 x.2.2
theorem abJ {d_1:Duty}{x_2:Clause}{a_3:Int}{r}(h:QR d_1 x_2 a_3=some r):JV.F (Me (d_1,x_2,a_3))=some (Mf r):=aF (aJ eh (aJ dC (aG (i8 bi)))) h
noncomputable def ag6 :=aD Tryz.f120
noncomputable def abI :=bV []
def ag5 (x:Duty×Clause×Int)(r:Bool):St→Prop:=QF abI Tryz.f120 [false,false,false] (Me x) (Mf r)
theorem acC (d_1:Duty)(x_2:Clause)(a_3:Int)(r:Bool)(h:QR d_1 x_2 a_3=some r):bq abI Tryz.f120 [false,false,false] 0 (Me (d_1,x_2,a_3)) (Mf r):=by
 show Run _ _ (ag5 (d_1,x_2,a_3) r) [.code ag6] _
 refine rI 10 [(0,ah d_1),(1,ao x_2),(2,.iptr (I a_3) 0)] [] 1 ?_
 unfold QR at h
 refine cq 14 [5] [B (x_2.Party==a_3)] 129 ?_
 obtain rfl:=sI h
 exact rP [B (x_2.Party==a_3)]
theorem Z9 {G:bT}[TabG Tryz.prog G]:bQ G 120 JV:=gT 3 0 bu bW Tryz.func120 (fun a r h=>acC a.1 a.2.1 a.2.2 r h)
def LA:Int→List V:=oA I
def LB (r:Bool):V×List V:=(B r,[])
noncomputable def Jj :=bb [false] LA LB fun x=>MB x
theorem abl {x_1:Int}{r}(h:MB x_1=some r):Jj.F (LA x_1)=some (LB r):=aF (aG bi) h
noncomputable def agF :=aD Tryz.f155
noncomputable def abk :=bV []
def agE (x:Int)(r:Bool):St→Prop:=QF abk Tryz.f155 [false] (LA x) (LB r)
theorem ab4 (x_1:Int)(r:Bool)(h:MB x_1=some r):bq abk Tryz.f155 [false] 0 (LA x_1) (LB r):=by
 show Run _ _ (agE x_1 r) [.code agF] _
 refine rI 6 [(0,I x_1)] [] 1 ?_
 unfold MB at h
 refine cq 11 [2] [B (x_1 != x_1)] 81 ?_
 obtain rfl:=sI h
 exact rP [B (x_1 != x_1)]
theorem X8 {G:bT}[TabG Tryz.prog G]:bQ G 155 Jj:=gT 1 0 bu bW Tryz.func155 (fun a r h=>ab4 a r h)
def Ly:(Int×Int)→List V:=cA I (oA I)
def Lz (r:Int):V×List V:=(I r,[])
noncomputable def Ji :=bb [false,false] Ly Lz fun x=>MA x.1 x.2
theorem abj {x_1:Int}{y_2:Int}{r}(h:MA x_1 y_2=some r):Ji.F (Ly (x_1,y_2))=some (Lz r):=aF (aJ bi (aG bi)) h
noncomputable def agD :=aD Tryz.f119
noncomputable def abi :=bV [(155,Jj)]
def agC (x:Int×Int)(r:Int):St→Prop:=QF abi Tryz.f119 [false,false] (Ly x) (Lz r)
theorem ab3 (x_1:Int)(y_2:Int)(r:Int)(h:MA x_1 y_2=some r):bq abi Tryz.f119 [false,false] 0 (Ly (x_1,y_2)) (Lz r):=by
 show Run _ _ (agC (x_1,y_2) r) [.code agD] _
 refine rI 20 [(0,I x_1),(1,I y_2)] [] 1 ?_
 unfold MA at h
 refine cq 7 [7] [I x_1] 33 ?_
 obtain⟨r3,hr3,h⟩:=bS h
 refine oq 49 (B r3) rfl (cP (abl hr3)) ?_
 refine cq 5 [5,9] [B r3,I y_2] 81 ?_
 obtain⟨r4,hr4,h⟩:=bS h
 refine oq 97 (B r4) rfl (cP (abl hr4)) ?_
 refine cq 7 [6,11] [B r4,B r3] 129 ?_
 refine sq h ?_ ?_<;>intro h
 ·refine cq 5 [12] [B r4] 145 ?_
  refine sq h ?_ ?_<;>intro h
  ·refine cq 4 [4] [I (0)] 161 ?_
   obtain rfl:=sI h
   exact rP [I (0)]
  ·refine aq 1 ?_
   refine cq 4 [4] [I (-1)] 161 ?_
   obtain rfl:=sI h
   exact rP [I (-1)]
 ·refine aq 1 ?_
  refine cq 5 [13] [B r4] 145 ?_
  refine sq h ?_ ?_<;>intro h
  ·refine cq 4 [4] [I (1)] 161 ?_
   obtain rfl:=sI h
   exact rP [I (1)]
  ·refine aq 1 ?_
   refine cq 7 [16] [B (decide (x_1<y_2))] 193 ?_
   refine sq h ?_ ?_<;>intro h
   ·refine cq 4 [4] [I (-1)] 209 ?_
    obtain rfl:=sI h
    exact rP [I (-1)]
   ·refine aq 1 ?_
    refine cq 7 [19] [B (decide (x_1>y_2))] 241 ?_
    refine sq h ?_ ?_<;>intro h
    ·refine cq 4 [4] [I (1)] 257 ?_
     obtain rfl:=sI h
     exact rP [I (1)]
    ·refine aq 1 ?_
     refine cq 4 [4] [I (0)] 257 ?_
     obtain rfl:=sI h
     exact rP [I (0)]
theorem X7 {G:bT}[TabG Tryz.prog G]:bQ G 119 Ji:=gT 2 0 (aL X8 bu) bW Tryz.func119 (fun a r h=>ab3 a.1 a.2 r h)
def Mg:(Int×Int×State)→List V:=cA I (cA I (oA (fun x:State=>.iptr (bA x) 0)))
def Mh (r:Int):V×List V:=(I r,[])
noncomputable def zx :=bb [false,false,false] Mg Mh fun x=>Be x.1 x.2.1 x.2.2
theorem sU {i_1:Int}{k_2:Int}{a_3:State}{r}(h:Be i_1 k_2 a_3=some r):zx.F (Mg (i_1,k_2,a_3))=some (Mh r):=aF (aJ bi (aJ bi (aG (i8 bN)))) h
noncomputable def ag8 :=aD Tryz.f118
noncomputable def abK :=bV [(119,Ji)]
def ag7 (x:Int×Int×State)(r:Int):St→Prop:=QF abK Tryz.f118 [false,false,false] (Mg x) (Mh r)
theorem acD (i_1:Int)(k_2:Int)(a_3:State)(r:Int)(h:Be i_1 k_2 a_3=some r):bq abK Tryz.f118 [false,false,false] 0 (Mg (i_1,k_2,a_3)) (Mh r):=by
 show Run _ _ (ag7 (i_1,k_2,a_3) r) [.code ag8] _
 refine rI 19 [(0,I i_1),(1,I k_2),(2,.iptr (ae a_3) 0)] [] 1 ?_
 unfold Be at h
 refine cq 5 [] [] 17 ?_
 refine dt [0,1,0,7,15,31,0,64,0,448,960,1984,4095,8191] rfl (by decide +kernel) ?_
 refine dq [] [] (.iptr (ae a_3) 2) rfl (al rfl rfl rfl) ?_
 refine dq [] [] (.isl false (a_3.Duties.map ah)) rfl (aK rfl rfl) ?_
 refine dk 1 [8] [I i_1] ?_
 obtain⟨e4,he4,h⟩:=bS h
 refine dq [] [] (.iptr (ah e4) 0) rfl (aj rfl rfl rfl (aZ rfl rfl rfl rfl he4)) ?_
 refine dq [] [] (.iptr (ah e4) 2) rfl (al rfl rfl rfl) ?_
 refine dq [] [] (I e4.Due) rfl (aK rfl rfl) ?_
 refine dq [] [] (.iptr (ae a_3) 2) rfl (al rfl rfl rfl) ?_
 refine dq [] [] (.isl false (a_3.Duties.map ah)) rfl (aK rfl rfl) ?_
 refine dk 1 [14] [I k_2] ?_
 obtain⟨e5,he5,h⟩:=bS h
 refine dq [] [] (.iptr (ah e5) 0) rfl (aj rfl rfl rfl (aZ rfl rfl rfl rfl he5)) ?_
 refine dq [] [] (.iptr (ah e5) 2) rfl (al rfl rfl rfl) ?_
 refine dq [] [] (I e5.Due) rfl (aK rfl rfl) ?_
 obtain⟨r6,hr6,h⟩:=bS h
 refine dq [] [] (I r6) rfl (cP (abj hr6)) ?_ (cm rfl rfl rfl rfl (aQ (bx rfl) (aQ (bx rfl) cz)) (abj hr6) (.inr rfl) rfl)
 refine dk 1 [5] [I r6] ?_
 refine de 241 rfl rfl ?_
 obtain rfl:=sI h
 exact rP [I r6]
theorem NM {G:bT}[TabG Tryz.prog G]:bQ G 118 zx:=gT 3 0 (aL X7 bu) bW Tryz.func118 (fun a r h=>acD a.1 a.2.1 a.2.2 r h)
def Gj:((List Int)×Int×Int×State)→List V:=cA (sG 1 I) (cA I (cA I (oA (fun x:State=>(.fn 118 [.iptr (bA x) 0]:V)))))
def Gl (r:(List Int)):V×List V:=(.tup [],[.usl 1 (r.map I)])
noncomputable def C4 :=bb [true,false,false,false] Gj Gl fun x=>rU x.1 x.2.1 x.2.2.1 x.2.2.2
theorem Vz {cw:List Int}{eI:Int}{eN:Int}{cT:State}{r}(h:rU cw eI eN cT=some r):C4.F (Gj (cw,eI,eN,cT))=some (Gl r):=aF (aJ (jo bi) (aJ bi (aJ bi (aG (hP bN))))) h
noncomputable def Nb :=aD Tryz.f180
noncomputable abbrev zk :=cL (cL (cR (cL (cL (cR (cL (cL (cR Nb))))))))
noncomputable def xy :=bV [(118,zx)]
def Gk (x:(List Int)×Int×Int×State)(r:(List Int)):St→Prop:=QF xy Tryz.f180 [true,false,false,false] (Gj x) (Gl r)
theorem PF (cw:List Int)(eI:Int)(eN:Int)(cT:State)(x5:Int×Int×Int×(List Int)):cj xy 1 (Gk (cw,eI,eN,cT)) zk 2 (lg cw eI eN cT x5) (fun u=>(sT 53 [(0,.hs 1 0 [] 1 0 (u.map I).length),(1,I x5.1),(2,I x5.2.1),(3,.fn 118 [.iptr (ae cT) 0]),(8,I x5.2.2.1)] [⟨0,1,u.map I⟩] 2)) fun x6=>(sT 53 [(0,.hs 1 0 [] 1 0 (x6.2.map I).length),(1,I x5.1),(2,I x5.2.1),(3,.fn 118 [.iptr (ae cT) 0]),(8,I x5.2.2.1),(9,I x6.1)] [⟨0,1,x6.2.map I⟩] 2):=ee (AB cw eI eN cT x5) fun {Q K} hK self ih x6 y h hr hn=>by
 unfold ku at h
 refine aq 2 ?_
 refine dt [0,0,3,7,15,15,15,111,239,15,15,1039,3599,7695,16383,32767,65535] rfl (by decide +kernel) ?_
 refine dk 4 [21,20,19,18] [B (decide (x6.1>x5.1)),B (decide (x6.1>x5.1)),I x5.1,I x6.1] ?_
 obtain⟨y7,hy7,hy71,hy72⟩:=bL h
 have j7:∀u7,y7=.inr u7→Run xy 1 Q (.code (cR (cL zk))::.code (cR zk)::.lp zk::.blk 2::K) (sT 53 [(0,.hs 1 0 [] 1 0 (x6.2.map I).length),(1,I x5.1),(2,I x5.2.1),(3,.fn 118 [.iptr (ae cT) 0]),(8,I x5.2.2.1),(9,I x6.1),(34,B u7)] [⟨0,1,x6.2.map I⟩] 2):=by
  intro u7 hu
  replace h:=hy72 u7 hu
  refine sq h ?_ ?_<;>intro h
  ·refine aq 1 ?_
   refine aq 2 ?_
   refine dt [0,0,0,0,8,0,0,64,224,480,0,0,3072,7168,16355,32739,65535,131071] rfl (by decide +kernel) ?_
   refine dk 8 [44,43,42,41,40,39,38,37] [I (ai (x6.1 - 1)),I x6.1,.hs 1 0 [] 1 0 (x6.2.map I).length,I (ai (x6.1 - 1)),I x6.1,.hs 1 0 [] 1 0 (x6.2.map I).length,I x6.1,.hs 1 0 [] 1 0 (x6.2.map I).length] ?_
   obtain⟨e8,he8,h⟩:=bS h
   refine dq [1] [] (.hp 1 0 [] 1 (0+Int.toNat (ai (x6.1 - 1))) 0) rfl (aj rfl rfl rfl (dW (f:=I) (xs:=x6.2) rfl rfl rfl he8)) ?_
   refine dq [1] [] (I e8) rfl (aK rfl (gt (path:=[]) rfl rfl rfl aU (du (f:=I) (xs:=x6.2) he8) rfl rfl rfl)) ?_
   refine dk 2 [48,47] [I x6.1,.hs 1 0 [] 1 0 (x6.2.map I).length] ?_
   obtain⟨e9,he9,h⟩:=bS h
   refine dq [1] [] (.hp 1 0 [] 1 (0+Int.toNat x6.1) 0) rfl (aj rfl rfl rfl (dW (f:=I) (xs:=x6.2) rfl rfl rfl he9)) ?_
   refine dq [1] [] (I e9) rfl (aK rfl (gt (path:=[]) rfl rfl rfl aU (du (f:=I) (xs:=x6.2) he9) rfl rfl rfl)) ?_
   obtain⟨e10,he10,h⟩:=bS h
   refine dq [1] [] (.hp 1 0 [] 1 (0+Int.toNat x6.1) 0) rfl (aj rfl rfl rfl (dW (f:=I) (xs:=x6.2) rfl rfl rfl he10)) ?_
   refine dz [1] [1] rfl (gb rfl rfl (fm (path:=[]) (pl:=true) (e':=I e8) (es2':=(dw x6.2 x6.1 e8).map I) rfl (dV rfl) rfl rfl rfl aU (du (f:=I) (xs:=x6.2) he10) rfl rfl rfl (iP (f:=I) (xs:=x6.2) (y:=e8)) eK 0 rfl)) ?_
   try rw[←hY (f:=I) (xs:=x6.2) (i:=x6.1) (z:=e8)]
   obtain⟨e13,he13,h⟩:=bS h
   refine dq [1] [] (.hp 1 0 [] 1 (0+Int.toNat (ai (x6.1 - 1))) 0) rfl (aj rfl rfl rfl (dW (f:=I) (xs:=(dw x6.2 x6.1 e8)) rfl rfl rfl he13)) ?_
   obtain⟨rw14,hrw14,h⟩:=lJ h
   refine dz [1] [1] rfl (gb rfl rfl (fm (path:=[]) (pl:=true) (e':=I e9) (es2':=(rw14).map I) rfl (dV rfl) rfl rfl rfl aU (du (f:=I) (xs:=(dw x6.2 x6.1 e8)) he13) rfl rfl rfl (wB (f:=I) (xs:=(dw x6.2 x6.1 e8)) (y:=e9) hrw14) eK 0 rfl)) ?_
   try rw[←te hrw14 (f:=I) (xs:=(dw x6.2 x6.1 e8))]
   refine de 290 rfl rfl ?_
   refine cq 6 [9] [I (ai (x6.1 - 1))] 338 ?_
   refine dh ?_
   exact rf [0,1,2,3,8,9] [1] (ih _ _ h hr hn :)
  ·refine aq 1 ?_
   exact rf [0,1,2,3,8] [1] (hn _ (ak h) :) (hk:=hK)
 have r7:∀r',y7=.inl r'→∀st,Gk (cw,eI,eN,cT) r' st→Q st:=fun r' e st hq=>hr r' (hy71 r' e) st hq
 replace h:=hy7
 refine sp 21 h rfl ?_ ?_<;>intro h
 ·refine dk 3 [24,23,22] [I x6.1,.hs 1 0 [] 1 0 (x6.2.map I).length,.fn 118 [.iptr (ae cT) 0]] ?_
  obtain⟨e18,he18,h⟩:=bS h
  refine dy [1] [] (.hp 1 0 [] 1 (0+Int.toNat x6.1) 0) rfl (aj rfl rfl rfl (dW (f:=I) (xs:=x6.2) rfl rfl rfl he18)) ?_
  refine dy [1] [] (I e18) rfl (aK rfl (gt (path:=[]) rfl rfl rfl aU (du (f:=I) (xs:=x6.2) he18) rfl rfl rfl)) ?_
  refine dk 3 [29,28,27] [I (ai (x6.1 - 1)),I x6.1,.hs 1 0 [] 1 0 (x6.2.map I).length] ?_
  obtain⟨e19,he19,h⟩:=bS h
  refine dy [1] [] (.hp 1 0 [] 1 (0+Int.toNat (ai (x6.1 - 1))) 0) rfl (aj rfl rfl rfl (dW (f:=I) (xs:=x6.2) rfl rfl rfl he19)) ?_
  refine dy [1] [] (I e19) rfl (aK rfl (gt (path:=[]) rfl rfl rfl aU (du (f:=I) (xs:=x6.2) he19) rfl rfl rfl)) ?_
  obtain⟨r20,hr20,h⟩:=bS h
  refine dy [] [] (I r20) rfl (cP (sU hr20)) ?_ (cm rfl rfl rfl rfl (aQ (bx rfl) (aQ (bx rfl) (aQ (bx rfl) cz))) (sU hr20) (.inr rfl) rfl)
  refine dk 2 [34,33] [B (decide (r20<0)),B (decide (r20<0))] ?_
  refine de 274 rfl rfl ?_
  exact rf [0,1,2,3,8,9,34] [1] (j7 _ (ak h) :)
 ·refine dk 13 [34,33,32,31,30,29,28,27,26,25,24,23,22] [B false,.und,.und,.und,.und,.und,.und,.und,.und,.und,.und,.und,.und] ?_
  refine de 274 rfl rfl ?_
  exact rf [0,1,2,3,8,9,34] [1] (j7 _ (ak h) :)
theorem PE (cw:List Int)(eI:Int)(eN:Int)(cT:State):cj xy 1 (Gk (cw,eI,eN,cT)) (cL (cL (cR Nb))) 0 (mw cw eI eN cT) (fun u=>(sT 53 [] [⟨0,1,u.map I⟩] 2)) fun x5=>(sT 53 [(0,.hs 1 0 [] 1 0 (x5.2.2.2.map I).length),(1,I x5.1),(2,I x5.2.1),(3,.fn 118 [.iptr (ae cT) 0]),(8,I x5.2.2.1)] [⟨0,1,x5.2.2.2.map I⟩] 2):=ee (Az cw eI eN cT) fun {Q K} hK self ih x5 y h hr hn=>by
 unfold kt at h
 refine cq 7 [14] [B (decide (x5.2.2.1<x5.2.1))] 50 ?_
 refine sq h ?_ ?_<;>intro h
 ·refine aq 1 ?_
  refine cq 8 [9] [I x5.2.2.1] 82 ?_
  obtain⟨y21,hy21,hy211,hy212⟩:=bL h
  refine bP rfl ?_
  refine rf [0,1,2,3,8,9] [1] (PF cw eI eN cT x5 rfl (x5.2.2.1,x5.2.2.2) _ hy21 (fun r' e st hq=>hr r' (hy211 r' e) st hq) fun u21 hu=>?_)
  replace h:=hy212 u21 hu
  refine cq 6 [8] [I (ai (x5.2.2.1+1))] 50 ?_
  refine dh ?_
  exact rf [0,1,2,3,8] [1] (ih _ _ h hr hn :)
 ·refine aq 1 ?_
  exact rf [] [1] (hn _ (ak h) :) (hk:=hK)
theorem Zf (cw:List Int)(eI:Int)(eN:Int)(cT:State)(r:(List Int))(h:rU cw eI eN cT=some r):bq xy Tryz.f180 [true,false,false,false] 1 (Gj (cw,eI,eN,cT)) (Gl r):=by
 show Run _ _ (Gk (cw,eI,eN,cT) r) [.code Nb] _
 refine rI 53 [(0,.hs 1 0 [] 1 0 (cw.map I).length),(1,I eI),(2,I eN),(3,.fn 118 [.iptr (ae cT) 0])] [(1,some ⟨0,1,cw.map I⟩)] 2 ?_
 unfold rU at h
 refine cq 7 [8] [I (ai (eI+1))] 50 ?_
 obtain⟨y22,hy22,hy221,hy222⟩:=bJ h
 refine bP rfl ?_
 refine rf [0,1,2,3,8] [1] (PE cw eI eN cT rfl (eI,eN,(ai (eI+1)),cw) _ hy22 (fun r' e st hq=>by rw[hy221 r' e] at hq;exact hq) fun u22 hu=>?_)
 replace h:=hy222 u22 hu
 obtain⟨g23,h⟩:=gG h
 obtain rfl:=sI h
 exact zO ⟨_,fin (vs:=[]) rfl eA rfl (mj rfl (qC (f:=I) (xs:=u22) (by simpa using g23) rfl) (cQ (cQ (cQ ft)))),yN fj⟩
theorem VA {G:bT}[TabG Tryz.prog G]:bQ G 180 C4:=gT 4 1 (aL NM bu) bW Tryz.func180 (fun a r h=>Zf a.1 a.2.1 a.2.2.1 a.2.2.2 r h)
def Gs:((List Int)×Int×Int×Int×State)→List V:=cA (sG 1 I) (cA I (cA I (cA I (oA (fun x:State=>(.fn 118 [.iptr (bA x) 0]:V))))))
def Gt (r:(List Int)):V×List V:=(.tup [],[.usl 1 (r.map I)])
noncomputable def C8 :=bb [true,false,false,false,false] Gs Gt fun x=>vI x.1 x.2.1 x.2.2.1 x.2.2.2.1 x.2.2.2.2
theorem Nh {eo:List Int}{eX:Int}{fP:Int}{hZ:Int}{fE:State}{r}(h:vI eo eX fP hZ fE=some r):C8.F (Gs (eo,eX,fP,hZ,fE))=some (Gt r):=aF (aJ (jo bi) (aJ bi (aJ bi (aJ bi (aG (hP bN)))))) h
noncomputable def VE :=aD Tryz.f216
noncomputable def Ng :=bV []
def VD (x:(List Int)×Int×Int×Int×State)(r:(List Int)):St→Prop:=QF Ng Tryz.f216 [true,false,false,false,false] (Gs x) (Gt r)
theorem PK (eo:List Int)(eX:Int)(fP:Int)(hZ:Int)(fE:State):cj Ng 1 (VD (eo,eX,fP,hZ,fE)) (cL (cL (cR VE))) 0 (my eo eX fP hZ fE) (fun u=>(sT 38 [] [⟨0,1,u.map I⟩] 2)) fun x6=>(sT 38 [(0,.hs 1 0 [] 1 0 (x6.2.map I).length),(1,I eX),(2,I fP),(3,I hZ),(10,I x6.1)] [⟨0,1,x6.2.map I⟩] 2):=ee (AG eo eX fP hZ fE) fun {Q K} hK self ih x6 y h hr hn=>by
 unfold lS at h
 refine cq 7 [13] [B (decide (x6.1<hZ))] 50 ?_
 refine sq h ?_ ?_<;>intro h
 ·refine aq 1 ?_
  refine aq 2 ?_
  refine dt [0,0,0,6,0,0,0,96,0,0,0,1536,3840,7936,0,0,0,98304,245760,507904,1048335,2096911,4194303,8388607] rfl (by decide +kernel) ?_
  refine dk 12 [27,26,25,24,23,22,21,20,19,18,17,16] [I (ai (fP+x6.1)),I x6.1,I fP,.hs 1 0 [] 1 0 (x6.2.map I).length,I (ai (fP+x6.1)),I x6.1,I fP,.hs 1 0 [] 1 0 (x6.2.map I).length,I (ai (eX+x6.1)),I x6.1,I eX,.hs 1 0 [] 1 0 (x6.2.map I).length] ?_
  obtain⟨e7,he7,h⟩:=bS h
  refine dq [1] [] (.hp 1 0 [] 1 (0+Int.toNat (ai (fP+x6.1))) 0) rfl (aj rfl rfl rfl (dW (f:=I) (xs:=x6.2) rfl rfl rfl he7)) ?_
  refine dq [1] [] (I e7) rfl (aK rfl (gt (path:=[]) rfl rfl rfl aU (du (f:=I) (xs:=x6.2) he7) rfl rfl rfl)) ?_
  refine dk 4 [33,32,31,30] [I (ai (eX+x6.1)),I x6.1,I eX,.hs 1 0 [] 1 0 (x6.2.map I).length] ?_
  obtain⟨e8,he8,h⟩:=bS h
  refine dq [1] [] (.hp 1 0 [] 1 (0+Int.toNat (ai (eX+x6.1))) 0) rfl (aj rfl rfl rfl (dW (f:=I) (xs:=x6.2) rfl rfl rfl he8)) ?_
  refine dq [1] [] (I e8) rfl (aK rfl (gt (path:=[]) rfl rfl rfl aU (du (f:=I) (xs:=x6.2) he8) rfl rfl rfl)) ?_
  obtain⟨e9,he9,h⟩:=bS h
  refine dq [1] [] (.hp 1 0 [] 1 (0+Int.toNat (ai (eX+x6.1))) 0) rfl (aj rfl rfl rfl (dW (f:=I) (xs:=x6.2) rfl rfl rfl he9)) ?_
  refine dz [1] [1] rfl (gb rfl rfl (fm (path:=[]) (pl:=true) (e':=I e7) (es2':=(dw x6.2 (ai (eX+x6.1)) e7).map I) rfl (dV rfl) rfl rfl rfl aU (du (f:=I) (xs:=x6.2) he9) rfl rfl rfl (iP (f:=I) (xs:=x6.2) (y:=e7)) eK 0 rfl)) ?_
  try rw[←hY (f:=I) (xs:=x6.2) (i:=(ai (eX+x6.1))) (z:=e7)]
  obtain⟨e12,he12,h⟩:=bS h
  refine dq [1] [] (.hp 1 0 [] 1 (0+Int.toNat (ai (fP+x6.1))) 0) rfl (aj rfl rfl rfl (dW (f:=I) (xs:=(dw x6.2 (ai (eX+x6.1)) e7)) rfl rfl rfl he12)) ?_
  obtain⟨rw13,hrw13,h⟩:=lJ h
  refine dz [1] [1] rfl (gb rfl rfl (fm (path:=[]) (pl:=true) (e':=I e8) (es2':=(rw13).map I) rfl (dV rfl) rfl rfl rfl aU (du (f:=I) (xs:=(dw x6.2 (ai (eX+x6.1)) e7)) he12) rfl rfl rfl (wB (f:=I) (xs:=(dw x6.2 (ai (eX+x6.1)) e7)) (y:=e8) hrw13) eK 0 rfl)) ?_
  try rw[←te hrw13 (f:=I) (xs:=(dw x6.2 (ai (eX+x6.1)) e7))]
  refine de 434 rfl rfl ?_
  refine cq 6 [10] [I (ai (x6.1+1))] 482 ?_
  refine dh ?_
  exact rf [0,1,2,3,10] [1] (ih _ _ h hr hn :)
 ·refine aq 1 ?_
  exact rf [] [1] (hn _ (ak h) :) (hk:=hK)
theorem Zi (eo:List Int)(eX:Int)(fP:Int)(hZ:Int)(fE:State)(r:(List Int))(h:vI eo eX fP hZ fE=some r):bq Ng Tryz.f216 [true,false,false,false,false] 1 (Gs (eo,eX,fP,hZ,fE)) (Gt r):=by
 show Run _ _ (VD (eo,eX,fP,hZ,fE) r) [.code VE] _
 refine rI 38 [(0,.hs 1 0 [] 1 0 (eo.map I).length),(1,I eX),(2,I fP),(3,I hZ),(4,.fn 118 [.iptr (ae fE) 0])] [(1,some ⟨0,1,eo.map I⟩)] 2 ?_
 unfold vI at h
 refine cq 5 [10] [I (0)] 18 ?_
 obtain⟨y17,hy17,hy171,hy172⟩:=bJ h
 refine bP rfl ?_
 refine rf [0,1,2,3,10] [1] (PK eo eX fP hZ fE rfl (0,eo) _ hy17 (fun r' e st hq=>by rw[hy171 r' e] at hq;exact hq) fun u17 hu=>?_)
 replace h:=hy172 u17 hu
 obtain⟨g18,h⟩:=gG h
 obtain rfl:=sI h
 exact zO ⟨_,fin (vs:=[]) rfl eA rfl (mj rfl (qC (f:=I) (xs:=u17) (by simpa using g18) rfl) (cQ (cQ (cQ (cQ ft))))),yN fj⟩
theorem VF {G:bT}[TabG Tryz.prog G]:bQ G 216 C8:=gT 5 1 bu bW Tryz.func216 (fun a r h=>Zi a.1 a.2.1 a.2.2.1 a.2.2.2.1 a.2.2.2.2 r h)
def Gm:((List Int)×Int×Int×Int×State)→List V:=cA (sG 1 I) (cA I (cA I (cA I (oA (fun x:State=>(.fn 118 [.iptr (bA x) 0]:V))))))
def Gp (r:(List Int)):V×List V:=(.tup [],[.usl 1 (r.map I)])
noncomputable def C5 :=bb [true,false,false,false,false] Gm Gp fun x=>xz x.1 x.2.1 x.2.2.1 x.2.2.2.1 x.2.2.2.2
theorem afs {eM:List Int}{a_9:Int}{eT:Int}{gM:Int}{ec:State}{r}(h:xz eM a_9 eT gM ec=some r):C5.F (Gm (eM,a_9,eT,gM,ec))=some (Gp r):=aF (aJ (jo bi) (aJ bi (aJ bi (aJ bi (aG (hP bN)))))) h
noncomputable def Nd :=aD Tryz.f193
noncomputable def Gn :=bV [(216,C8)]
def Nc (x:(List Int)×Int×Int×Int×State)(r:(List Int)):St→Prop:=QF Gn Tryz.f193 [true,false,false,false,false] (Gm x) (Gp r)
theorem PG (eM:List Int)(a_9:Int)(eT:Int)(gM:Int)(ec:State):cj Gn 1 (Nc (eM,a_9,eT,gM,ec)) (cL (cL (cL (cR (cR Nd))))) 0 (uq eM a_9 eT gM ec) (fun u=>(sT 58 [(0,.hs 1 0 [] 1 0 (u.2.2.map I).length),(2,I u.1),(4,.fn 118 [.iptr (ae ec) 0]),(10,I u.2.1)] [⟨0,1,u.2.2.map I⟩] 2)) fun x6=>(sT 58 [(0,.hs 1 0 [] 1 0 (x6.2.2.map I).length),(2,I eT),(4,.fn 118 [.iptr (ae ec) 0]),(10,I x6.1),(11,I x6.2.1)] [⟨0,1,x6.2.2.map I⟩] 2):=ee (AC eM a_9 eT gM ec) fun {Q K} hK self ih x6 y h hr hn=>by
 unfold nV at h
 refine cq 7 [20] [B (x6.1 != x6.2.1)] 50 ?_
 refine sq h ?_ ?_<;>intro h
 ·refine aq 1 ?_
  refine cq 7 [23] [B (decide (x6.1>x6.2.1))] 98 ?_
  obtain⟨y7,hy7,hy71,hy72⟩:=bL h
  have j7:∀u7,y7=.inr u7→Run Gn 1 Q (.blk 1::.lp (cL (cL (cL (cR (cR Nd)))))::.blk 0::K) (sT 58 [(0,.hs 1 0 [] 1 0 (u7.2.2.map I).length),(2,I eT),(4,.fn 118 [.iptr (ae ec) 0]),(10,I u7.1),(11,I u7.2.1)] [⟨0,1,u7.2.2.map I⟩] 2):=by
   intro u7 hu
   replace h:=hy72 u7 hu
   refine aq 1 ?_
   refine dh ?_
   exact rf [0,2,4,10,11] [1] (ih _ _ h hr hn :)
  have r7:∀r',y7=.inl r'→∀st,Nc (eM,a_9,eT,gM,ec) r' st→Q st:=fun r' e st hq=>hr r' (hy71 r' e) st hq
  replace h:=hy7
  refine sq h ?_ ?_<;>intro h
  ·refine cq 9 [24,27,28,29,30] [.hs 1 0 [] 1 0 (x6.2.2.map I).length,I (ai (eT - x6.1)),I eT,I x6.2.1,.fn 118 [.iptr (ae ec) 0]] 210 ?_
   obtain⟨r8,hr8,h⟩:=bS h
   obtain⟨g9,h⟩:=gG h
   refine oq 226 (.tup []) rfl (bR rfl rfl (cn rfl rfl rfl (kV (ki rfl (f8 (path:=[]) rfl rfl aU rfl)) (aQ (bx rfl) (aQ (bx rfl) (aQ (bx rfl) (aQ (lE (dU (f7 rfl) gL)) cz))))) (Nh hr8) (.inr rfl) (jj rfl rfl rfl rfl dT) rfl rfl rfl)) ?_
   try rw[iA (f:=I) (xs:=x6.2.2) (ys:=r8) g9]
   refine cq 7 [10] [I (ai (x6.1 - x6.2.1))] 290 ?_
   exact rf [0,2,4,10,11] [1] (j7 _ (ak h) :)
  ·refine cq 13 [35,38,43,44,45] [.hs 1 0 [] 1 0 (x6.2.2.map I).length,I (ai (eT - x6.1)),I (ai ((ai (eT+x6.2.1)) - x6.1)),I x6.1,.fn 118 [.iptr (ae ec) 0]] 274 ?_
   obtain⟨r10,hr10,h⟩:=bS h
   obtain⟨g11,h⟩:=gG h
   refine oq 290 (.tup []) rfl (bR rfl rfl (cn rfl rfl rfl (kV (ki rfl (f8 (path:=[]) rfl rfl aU rfl)) (aQ (bx rfl) (aQ (bx rfl) (aQ (bx rfl) (aQ (lE (dU (f7 rfl) gL)) cz))))) (Nh hr10) (.inr rfl) (jj rfl rfl rfl rfl dT) rfl rfl rfl)) ?_
   try rw[iA (f:=I) (xs:=x6.2.2) (ys:=r10) g11]
   refine cq 7 [11] [I (ai (x6.2.1 - x6.1))] 354 ?_
   exact rf [0,2,4,10,11] [1] (j7 _ (ak h) :)
 ·refine aq 1 ?_
  exact rf [0,2,4,10] [1] (hn _ (ak h) :) (hk:=hK)
theorem Zg (eM:List Int)(a_9:Int)(eT:Int)(gM:Int)(ec:State)(r:(List Int))(h:xz eM a_9 eT gM ec=some r):bq Gn Tryz.f193 [true,false,false,false,false] 1 (Gm (eM,a_9,eT,gM,ec)) (Gp r):=by
 show Run _ _ (Nc (eM,a_9,eT,gM,ec) r) [.code Nd] _
 refine rI 58 [(0,.hs 1 0 [] 1 0 (eM.map I).length),(1,I a_9),(2,I eT),(3,I gM),(4,.fn 118 [.iptr (ae ec) 0])] [(1,some ⟨0,1,eM.map I⟩)] 2 ?_
 unfold xz at h
 refine cq 16 [10,11] [I (ai (eT - a_9)),I (ai (gM - eT))] 130 ?_
 obtain⟨y12,hy12,hy121,hy122⟩:=bJ h
 refine bP rfl ?_
 refine rf [0,2,4,10,11] [1] (PG eM a_9 eT gM ec rfl ((ai (eT - a_9)),(ai (gM - eT)),eM) _ hy12 (fun r' e st hq=>by rw[hy121 r' e] at hq;exact hq) fun u12 hu=>?_)
 replace h:=hy122 u12 hu
 refine cq 8 [50,53,54,55,56] [.hs 1 0 [] 1 0 (u12.2.2.map I).length,I (ai (u12.1 - u12.2.1)),I u12.1,I u12.2.1,.fn 118 [.iptr (ae ec) 0]] 114 ?_
 obtain⟨r13,hr13,h⟩:=bS h
 obtain⟨g14,h⟩:=gG h
 refine oq 130 (.tup []) rfl (bR rfl rfl (cn rfl rfl rfl (kV (ki rfl (f8 (path:=[]) rfl rfl aU rfl)) (aQ (bx rfl) (aQ (bx rfl) (aQ (bx rfl) (aQ (lE (dU (f7 rfl) gL)) cz))))) (Nh hr13) (.inr rfl) (jj rfl rfl rfl rfl dT) rfl rfl rfl)) ?_
 try rw[iA (f:=I) (xs:=u12.2.2) (ys:=r13) g14]
 refine aq 1 ?_
 obtain⟨g15,h⟩:=gG h
 obtain rfl:=sI h
 exact zO ⟨_,fin (vs:=[]) rfl eA rfl (mj rfl (qC (f:=I) (xs:=r13) (by simpa using g15) rfl) (cQ (cQ (cQ (cQ ft))))),yN fj⟩
theorem VB {G:bT}[TabG Tryz.prog G]:bQ G 193 C5:=gT 5 1 (aL VF bu) bW Tryz.func193 (fun a r h=>Zg a.1 a.2.1 a.2.2.1 a.2.2.2.1 a.2.2.2.2 r h)
def xB:((List Int)×Int×Int×Int×State)→List V:=cA (sG 1 I) (cA I (cA I (cA I (oA (fun x:State=>(.fn 118 [.iptr (bA x) 0]:V))))))
def xC (r:(List Int)):V×List V:=(.tup [],[.usl 1 (r.map I)])
noncomputable def xD (az:((List Int)×Int×Int×Int×State)→Option (List Int)):Ent:=bb [true,false,false,false,false] xB xC az
theorem JC (az:((List Int)×Int×Int×Int×State)→Option (List Int)){x}{r}(h:az x=some r):(xD az).F (xB x)=some (xC r):=aF (aJ (jo bi) (aJ bi (aJ bi (aJ bi (aG (hP bN)))))) h
noncomputable def C9 :=xD (aN fI)
theorem VG {ar:List Int}{aW:Int}{aY:Int}{bc:Int}{aE:State}{r}(h:JB ar aW aY bc aE=some r):C9.F (xB (ar,aW,aY,bc,aE))=some (xC r):=JC (aN fI) h
noncomputable def oI :=aD Tryz.f181
noncomputable abbrev QB :=cL (cL (cL (cR (cR (cL (cR (cL oI)))))))
noncomputable abbrev QC :=cL (cL (cL (cR (cR (cL (cR (cL (cR oI))))))))
noncomputable abbrev acd :=cL (cL (cR (cL (cR (cR (cR (cL (cR (cL oI)))))))))
noncomputable abbrev QD :=cL (cL (cL (cR (cR (cR (cR (cR (cR (cR oI)))))))))
noncomputable abbrev zm :=cR (cR (cR (cR (cR (cR (cR (cR (cR (cR oI)))))))))
noncomputable abbrev ace :=cL (cL (cR (cL (cR (cR (cR (cL (cR (cL (cR oI))))))))))
noncomputable abbrev JD :=cR zm
noncomputable def ii (az:((List Int)×Int×Int×Int×State)→Option (List Int)):Env:=bV [(118,zx),(181,(xD az)),(193,C5)]
def gy (az:((List Int)×Int×Int×Int×State)→Option (List Int))(x:(List Int)×Int×Int×Int×State)(r:(List Int)):St→Prop:=QF (ii az) Tryz.f181 [true,false,false,false,false] (xB x) (xC r)
theorem PL (az:((List Int)×Int×Int×Int×State)→Option (List Int))(ar:List Int)(aW:Int)(aY:Int)(bc:Int)(aE:State):cj (ii az) 1 (gy az (ar,aW,aY,bc,aE)) QB 0 (pw az ar aW aY bc aE) (fun u=>(sT 220 [(0,.hs 1 0 [] 1 0 (u.2.2.map I).length),(1,I u.1),(10,I u.2.1)] [⟨0,1,u.2.2.map I⟩] 2)) fun x6=>(sT 220 [(0,.hs 1 0 [] 1 0 (ar.map I).length),(1,I aW),(4,.fn 118 [.iptr (ae aE) 0]),(10,I x6.1),(11,I x6.2)] [⟨0,1,ar.map I⟩] 2):=ee (AH az ar aW aY bc aE) fun {Q K} hK self ih x6 y h hr hn=>by
 unfold js at h
 refine cq 7 [33] [B (decide (x6.1<x6.2))] 50 ?_
 refine sq h ?_ ?_<;>intro h
 ·refine aq 1 ?_
  refine cq 12 [12] [I (IntKind.i64.wrap (d8 .u64 (IntKind.u64.wrap (ai (x6.1+x6.2))) 1))] 162 ?_
  refine dt [0,0,0,6,14,0,0,96,224,511,1023] rfl (by decide +kernel) ?_
  refine dk 3 [42,41,40] [I (IntKind.i64.wrap (d8 .u64 (IntKind.u64.wrap (ai (x6.1+x6.2))) 1)),.hs 1 0 [] 1 0 (ar.map I).length,.fn 118 [.iptr (ae aE) 0]] ?_
  obtain⟨e7,he7,h⟩:=bS h
  refine dq [1] [] (.hp 1 0 [] 1 (0+Int.toNat (IntKind.i64.wrap (d8 .u64 (IntKind.u64.wrap (ai (x6.1+x6.2))) 1))) 0) rfl (aj rfl rfl rfl (dW (f:=I) (xs:=ar) rfl rfl rfl he7)) ?_
  refine dq [1] [] (I e7) rfl (aK rfl (gt (path:=[]) rfl rfl rfl aU (du (f:=I) (xs:=ar) he7) rfl rfl rfl)) ?_
  refine dk 2 [46,45] [I aW,.hs 1 0 [] 1 0 (ar.map I).length] ?_
  obtain⟨e8,he8,h⟩:=bS h
  refine dq [1] [] (.hp 1 0 [] 1 (0+Int.toNat aW) 0) rfl (aj rfl rfl rfl (dW (f:=I) (xs:=ar) rfl rfl rfl he8)) ?_
  refine dq [1] [] (I e8) rfl (aK rfl (gt (path:=[]) rfl rfl rfl aU (du (f:=I) (xs:=ar) he8) rfl rfl rfl)) ?_
  obtain⟨r9,hr9,h⟩:=bS h
  refine dq [] [] (I r9) rfl (cP (sU hr9)) ?_ (cm rfl rfl rfl rfl (aQ (bx rfl) (aQ (bx rfl) (aQ (bx rfl) cz))) (sU hr9) (.inr rfl) rfl)
  refine dk 1 [50] [B (decide (r9<0))] ?_
  refine de 338 rfl rfl ?_
  obtain⟨u10,hu10,h⟩:=lJ h
  have j10:Run (ii az) 1 Q (.blk 1::.lp QB::.blk 0::K) (sT 220 [(0,.hs 1 0 [] 1 0 (ar.map I).length),(1,I aW),(4,.fn 118 [.iptr (ae aE) 0]),(10,I u10.1),(11,I u10.2)] [⟨0,1,ar.map I⟩] 2):=by
   refine aq 1 ?_
   refine dh ?_
   exact rf [0,1,4,10,11] [1] (ih _ _ h hr hn :)
  replace h:=hu10
  clear hu10
  refine qS h rfl rfl ?_ ?_<;>intro h
  ·refine cq 5 [10] [I (ai ((IntKind.i64.wrap (d8 .u64 (IntKind.u64.wrap (ai (x6.1+x6.2))) 1))+1))] 386 ?_
   subst h
   exact rf [0,1,4,10,11] [1] (j10 :)
  ·refine cq 4 [11] [I (IntKind.i64.wrap (d8 .u64 (IntKind.u64.wrap (ai (x6.1+x6.2))) 1))] 370 ?_
   subst h
   exact rf [0,1,4,10,11] [1] (j10 :)
 ·refine aq 1 ?_
  exact rf [0,1,10] [1] (hn _ (ak h) :) (hk:=hK)
theorem PM (az:((List Int)×Int×Int×Int×State)→Option (List Int))(ar:List Int)(aW:Int)(aY:Int)(bc:Int)(aE:State)(u11:Int×Int×(List Int)):cj (ii az) 1 (gy az (ar,aW,aY,bc,aE)) acd 2 (jX az ar aW aY bc aE u11) (fun u=>(sT 220 [] [⟨0,1,u.map I⟩] 2)) fun x12=>(sT 220 [(0,.hs 1 0 [] 1 0 (x12.2.map I).length),(10,I u11.2.1),(13,I x12.1)] [⟨0,1,x12.2.map I⟩] 2):=ee (AI az ar aW aY bc aE u11) fun {Q K} hK self ih x12 y h hr hn=>by
 unfold jt at h
 refine cq 8 [58] [B (decide (x12.1<(ai (u11.2.1 - 1))))] 66 ?_
 refine sq h ?_ ?_<;>intro h
 ·refine aq 1 ?_
  refine aq 2 ?_
  refine dt [0,0,0,0,8,0,0,64,224,480,0,0,3072,7168,16355,32739,65535,131071] rfl (by decide +kernel) ?_
  refine dk 8 [68,67,66,65,64,63,62,61] [I (ai (x12.1+1)),I x12.1,.hs 1 0 [] 1 0 (x12.2.map I).length,I (ai (x12.1+1)),I x12.1,.hs 1 0 [] 1 0 (x12.2.map I).length,I x12.1,.hs 1 0 [] 1 0 (x12.2.map I).length] ?_
  obtain⟨e13,he13,h⟩:=bS h
  refine dq [1] [] (.hp 1 0 [] 1 (0+Int.toNat (ai (x12.1+1))) 0) rfl (aj rfl rfl rfl (dW (f:=I) (xs:=x12.2) rfl rfl rfl he13)) ?_
  refine dq [1] [] (I e13) rfl (aK rfl (gt (path:=[]) rfl rfl rfl aU (du (f:=I) (xs:=x12.2) he13) rfl rfl rfl)) ?_
  refine dk 2 [72,71] [I x12.1,.hs 1 0 [] 1 0 (x12.2.map I).length] ?_
  obtain⟨e14,he14,h⟩:=bS h
  refine dq [1] [] (.hp 1 0 [] 1 (0+Int.toNat x12.1) 0) rfl (aj rfl rfl rfl (dW (f:=I) (xs:=x12.2) rfl rfl rfl he14)) ?_
  refine dq [1] [] (I e14) rfl (aK rfl (gt (path:=[]) rfl rfl rfl aU (du (f:=I) (xs:=x12.2) he14) rfl rfl rfl)) ?_
  obtain⟨e15,he15,h⟩:=bS h
  refine dq [1] [] (.hp 1 0 [] 1 (0+Int.toNat x12.1) 0) rfl (aj rfl rfl rfl (dW (f:=I) (xs:=x12.2) rfl rfl rfl he15)) ?_
  refine dz [1] [1] rfl (gb rfl rfl (fm (path:=[]) (pl:=true) (e':=I e13) (es2':=(dw x12.2 x12.1 e13).map I) rfl (dV rfl) rfl rfl rfl aU (du (f:=I) (xs:=x12.2) he15) rfl rfl rfl (iP (f:=I) (xs:=x12.2) (y:=e13)) eK 0 rfl)) ?_
  try rw[←hY (f:=I) (xs:=x12.2) (i:=x12.1) (z:=e13)]
  obtain⟨e18,he18,h⟩:=bS h
  refine dq [1] [] (.hp 1 0 [] 1 (0+Int.toNat (ai (x12.1+1))) 0) rfl (aj rfl rfl rfl (dW (f:=I) (xs:=(dw x12.2 x12.1 e13)) rfl rfl rfl he18)) ?_
  obtain⟨rw19,hrw19,h⟩:=lJ h
  refine dz [1] [1] rfl (gb rfl rfl (fm (path:=[]) (pl:=true) (e':=I e14) (es2':=(rw19).map I) rfl (dV rfl) rfl rfl rfl aU (du (f:=I) (xs:=(dw x12.2 x12.1 e13)) he18) rfl rfl rfl (wB (f:=I) (xs:=(dw x12.2 x12.1 e13)) (y:=e14) hrw19) eK 0 rfl)) ?_
  try rw[←te hrw19 (f:=I) (xs:=(dw x12.2 x12.1 e13))]
  refine de 354 rfl rfl ?_
  refine cq 6 [13] [I (ai (x12.1+1))] 402 ?_
  refine dh ?_
  exact rf [0,10,13] [1] (ih _ _ h hr hn :)
 ·refine aq 1 ?_
  exact rf [] [1] (hn _ (ak h) :) (hk:=hK)
theorem PN (az:((List Int)×Int×Int×Int×State)→Option (List Int))(ar:List Int)(aW:Int)(aY:Int)(bc:Int)(aE:State):cj (ii az) 1 (gy az (ar,aW,aY,bc,aE)) QC 4 (px az ar aW aY bc aE) (fun u=>(sT 220 [(0,.hs 1 0 [] 1 0 (u.2.2.map I).length),(2,I u.1),(14,I u.2.1)] [⟨0,1,u.2.2.map I⟩] 2)) fun x25=>(sT 220 [(0,.hs 1 0 [] 1 0 (ar.map I).length),(2,I aY),(4,.fn 118 [.iptr (ae aE) 0]),(14,I x25.1),(15,I x25.2)] [⟨0,1,ar.map I⟩] 2):=ee (AJ az ar aW aY bc aE) fun {Q K} hK self ih x25 y h hr hn=>by
 unfold ju at h
 refine cq 7 [85] [B (decide (x25.1<x25.2))] 50 ?_
 refine sq h ?_ ?_<;>intro h
 ·refine aq 1 ?_
  refine cq 12 [16] [I (IntKind.i64.wrap (d8 .u64 (IntKind.u64.wrap (ai (x25.1+x25.2))) 1))] 162 ?_
  refine dt [0,0,0,6,14,0,0,96,224,511,1023,2047] rfl (by decide +kernel) ?_
  refine dk 3 [94,93,92] [I aY,.hs 1 0 [] 1 0 (ar.map I).length,.fn 118 [.iptr (ae aE) 0]] ?_
  obtain⟨e26,he26,h⟩:=bS h
  refine dq [1] [] (.hp 1 0 [] 1 (0+Int.toNat aY) 0) rfl (aj rfl rfl rfl (dW (f:=I) (xs:=ar) rfl rfl rfl he26)) ?_
  refine dq [1] [] (I e26) rfl (aK rfl (gt (path:=[]) rfl rfl rfl aU (du (f:=I) (xs:=ar) he26) rfl rfl rfl)) ?_
  refine dk 2 [98,97] [I (IntKind.i64.wrap (d8 .u64 (IntKind.u64.wrap (ai (x25.1+x25.2))) 1)),.hs 1 0 [] 1 0 (ar.map I).length] ?_
  obtain⟨e27,he27,h⟩:=bS h
  refine dq [1] [] (.hp 1 0 [] 1 (0+Int.toNat (IntKind.i64.wrap (d8 .u64 (IntKind.u64.wrap (ai (x25.1+x25.2))) 1))) 0) rfl (aj rfl rfl rfl (dW (f:=I) (xs:=ar) rfl rfl rfl he27)) ?_
  refine dq [1] [] (I e27) rfl (aK rfl (gt (path:=[]) rfl rfl rfl aU (du (f:=I) (xs:=ar) he27) rfl rfl rfl)) ?_
  obtain⟨r28,hr28,h⟩:=bS h
  refine dq [] [] (I r28) rfl (cP (sU hr28)) ?_ (cm rfl rfl rfl rfl (aQ (bx rfl) (aQ (bx rfl) (aQ (bx rfl) cz))) (sU hr28) (.inr rfl) rfl)
  refine dk 2 [103,102] [B (!(decide (r28<0))),B (decide (r28<0))] ?_
  refine de 354 rfl rfl ?_
  obtain⟨u29,hu29,h⟩:=lJ h
  have j29:Run (ii az) 1 Q (.blk 5::.lp QC::.blk 4::K) (sT 220 [(0,.hs 1 0 [] 1 0 (ar.map I).length),(2,I aY),(4,.fn 118 [.iptr (ae aE) 0]),(14,I u29.1),(15,I u29.2)] [⟨0,1,ar.map I⟩] 2):=by
   refine aq 1 ?_
   refine dh ?_
   exact rf [0,2,4,14,15] [1] (ih _ _ h hr hn :)
  replace h:=hu29
  clear hu29
  refine qS h rfl rfl ?_ ?_<;>intro h
  ·refine cq 5 [14] [I (ai ((IntKind.i64.wrap (d8 .u64 (IntKind.u64.wrap (ai (x25.1+x25.2))) 1))+1))] 402 ?_
   subst h
   exact rf [0,2,4,14,15] [1] (j29 :)
  ·refine cq 4 [15] [I (IntKind.i64.wrap (d8 .u64 (IntKind.u64.wrap (ai (x25.1+x25.2))) 1))] 386 ?_
   subst h
   exact rf [0,2,4,14,15] [1] (j29 :)
 ·refine aq 1 ?_
  exact rf [0,2,14] [1] (hn _ (ak h) :) (hk:=hK)
theorem PO (az:((List Int)×Int×Int×Int×State)→Option (List Int))(ar:List Int)(aW:Int)(aY:Int)(bc:Int)(aE:State)(u30:Int×Int×(List Int)):cj (ii az) 1 (gy az (ar,aW,aY,bc,aE)) ace 6 (jY az ar aW aY bc aE u30) (fun u=>(sT 220 [] [⟨0,1,u.map I⟩] 2)) fun x31=>(sT 220 [(0,.hs 1 0 [] 1 0 (x31.2.map I).length),(14,I u30.2.1),(17,I x31.1)] [⟨0,1,x31.2.map I⟩] 2):=ee (AK az ar aW aY bc aE u30) fun {Q K} hK self ih x31 y h hr hn=>by
 unfold jv at h
 refine cq 7 [110] [B (decide (x31.1>u30.2.1))] 50 ?_
 refine sq h ?_ ?_<;>intro h
 ·refine aq 1 ?_
  refine aq 2 ?_
  refine dt [0,0,0,0,8,0,0,64,224,480,0,0,3072,7168,16355,32739,65535,131071] rfl (by decide +kernel) ?_
  refine dk 8 [120,119,118,117,116,115,114,113] [I (ai (x31.1 - 1)),I x31.1,.hs 1 0 [] 1 0 (x31.2.map I).length,I (ai (x31.1 - 1)),I x31.1,.hs 1 0 [] 1 0 (x31.2.map I).length,I x31.1,.hs 1 0 [] 1 0 (x31.2.map I).length] ?_
  obtain⟨e32,he32,h⟩:=bS h
  refine dq [1] [] (.hp 1 0 [] 1 (0+Int.toNat (ai (x31.1 - 1))) 0) rfl (aj rfl rfl rfl (dW (f:=I) (xs:=x31.2) rfl rfl rfl he32)) ?_
  refine dq [1] [] (I e32) rfl (aK rfl (gt (path:=[]) rfl rfl rfl aU (du (f:=I) (xs:=x31.2) he32) rfl rfl rfl)) ?_
  refine dk 2 [124,123] [I x31.1,.hs 1 0 [] 1 0 (x31.2.map I).length] ?_
  obtain⟨e33,he33,h⟩:=bS h
  refine dq [1] [] (.hp 1 0 [] 1 (0+Int.toNat x31.1) 0) rfl (aj rfl rfl rfl (dW (f:=I) (xs:=x31.2) rfl rfl rfl he33)) ?_
  refine dq [1] [] (I e33) rfl (aK rfl (gt (path:=[]) rfl rfl rfl aU (du (f:=I) (xs:=x31.2) he33) rfl rfl rfl)) ?_
  obtain⟨e34,he34,h⟩:=bS h
  refine dq [1] [] (.hp 1 0 [] 1 (0+Int.toNat x31.1) 0) rfl (aj rfl rfl rfl (dW (f:=I) (xs:=x31.2) rfl rfl rfl he34)) ?_
  refine dz [1] [1] rfl (gb rfl rfl (fm (path:=[]) (pl:=true) (e':=I e32) (es2':=(dw x31.2 x31.1 e32).map I) rfl (dV rfl) rfl rfl rfl aU (du (f:=I) (xs:=x31.2) he34) rfl rfl rfl (iP (f:=I) (xs:=x31.2) (y:=e32)) eK 0 rfl)) ?_
  try rw[←hY (f:=I) (xs:=x31.2) (i:=x31.1) (z:=e32)]
  obtain⟨e37,he37,h⟩:=bS h
  refine dq [1] [] (.hp 1 0 [] 1 (0+Int.toNat (ai (x31.1 - 1))) 0) rfl (aj rfl rfl rfl (dW (f:=I) (xs:=(dw x31.2 x31.1 e32)) rfl rfl rfl he37)) ?_
  obtain⟨rw38,hrw38,h⟩:=lJ h
  refine dz [1] [1] rfl (gb rfl rfl (fm (path:=[]) (pl:=true) (e':=I e33) (es2':=(rw38).map I) rfl (dV rfl) rfl rfl rfl aU (du (f:=I) (xs:=(dw x31.2 x31.1 e32)) he37) rfl rfl rfl (wB (f:=I) (xs:=(dw x31.2 x31.1 e32)) (y:=e33) hrw38) eK 0 rfl)) ?_
  try rw[←te hrw38 (f:=I) (xs:=(dw x31.2 x31.1 e32))]
  refine de 338 rfl rfl ?_
  refine cq 6 [17] [I (ai (x31.1 - 1))] 386 ?_
  refine dh ?_
  exact rf [0,14,17] [1] (ih _ _ h hr hn :)
 ·refine aq 1 ?_
  exact rf [] [1] (hn _ (ak h) :) (hk:=hK)
theorem PP (az:((List Int)×Int×Int×Int×State)→Option (List Int))(ar:List Int)(aW:Int)(aY:Int)(bc:Int)(aE:State):cj (ii az) 1 (gy az (ar,aW,aY,bc,aE)) QD 8 (rH az ar aW aY bc aE) (fun u=>(sT 220 [(0,.hs 1 0 [] 1 0 (ar.map I).length),(1,I aW),(2,I aY),(3,I u.1),(4,.fn 118 [.iptr (ae aE) 0]),(18,I u.2.1),(19,I u.2.2.1),(20,I u.2.2.2)] [⟨0,1,ar.map I⟩] 2)) fun x45=>(sT 220 [(0,.hs 1 0 [] 1 0 (ar.map I).length),(1,I aW),(2,I aY),(3,I bc),(4,.fn 118 [.iptr (ae aE) 0]),(18,I (IntKind.i64.wrap (d8 .u64 (IntKind.u64.wrap (ai (aW+bc))) 1))),(19,I (ai ((IntKind.i64.wrap (d8 .u64 (IntKind.u64.wrap (ai (aW+bc))) 1))+aY))),(20,I x45.1),(21,I x45.2),(22,I (ai ((ai ((IntKind.i64.wrap (d8 .u64 (IntKind.u64.wrap (ai (aW+bc))) 1))+aY)) - 1)))] [⟨0,1,ar.map I⟩] 2):=ee (AL az ar aW aY bc aE) fun {Q K} hK self ih x45 y h hr hn=>by
 unfold kw at h
 refine cq 7 [151] [B (decide (x45.1<x45.2))] 50 ?_
 refine sq h ?_ ?_<;>intro h
 ·refine aq 1 ?_
  refine cq 12 [23] [I (IntKind.i64.wrap (d8 .u64 (IntKind.u64.wrap (ai (x45.1+x45.2))) 1))] 162 ?_
  refine dt [0,0,0,0,12,30,62,0,0,384,896,2047,4095,8191] rfl (by decide +kernel) ?_
  refine dk 5 [162,161,160,159,158] [I (ai ((ai ((ai ((IntKind.i64.wrap (d8 .u64 (IntKind.u64.wrap (ai (aW+bc))) 1))+aY)) - 1)) - (IntKind.i64.wrap (d8 .u64 (IntKind.u64.wrap (ai (x45.1+x45.2))) 1)))),I (IntKind.i64.wrap (d8 .u64 (IntKind.u64.wrap (ai (x45.1+x45.2))) 1)),I (ai ((ai ((IntKind.i64.wrap (d8 .u64 (IntKind.u64.wrap (ai (aW+bc))) 1))+aY)) - 1)),.hs 1 0 [] 1 0 (ar.map I).length,.fn 118 [.iptr (ae aE) 0]] ?_
  obtain⟨e46,he46,h⟩:=bS h
  refine dq [1] [] (.hp 1 0 [] 1 (0+Int.toNat (ai ((ai ((ai ((IntKind.i64.wrap (d8 .u64 (IntKind.u64.wrap (ai (aW+bc))) 1))+aY)) - 1)) - (IntKind.i64.wrap (d8 .u64 (IntKind.u64.wrap (ai (x45.1+x45.2))) 1))))) 0) rfl (aj rfl rfl rfl (dW (f:=I) (xs:=ar) rfl rfl rfl he46)) ?_
  refine dq [1] [] (I e46) rfl (aK rfl (gt (path:=[]) rfl rfl rfl aU (du (f:=I) (xs:=ar) he46) rfl rfl rfl)) ?_
  refine dk 2 [166,165] [I (IntKind.i64.wrap (d8 .u64 (IntKind.u64.wrap (ai (x45.1+x45.2))) 1)),.hs 1 0 [] 1 0 (ar.map I).length] ?_
  obtain⟨e47,he47,h⟩:=bS h
  refine dq [1] [] (.hp 1 0 [] 1 (0+Int.toNat (IntKind.i64.wrap (d8 .u64 (IntKind.u64.wrap (ai (x45.1+x45.2))) 1))) 0) rfl (aj rfl rfl rfl (dW (f:=I) (xs:=ar) rfl rfl rfl he47)) ?_
  refine dq [1] [] (I e47) rfl (aK rfl (gt (path:=[]) rfl rfl rfl aU (du (f:=I) (xs:=ar) he47) rfl rfl rfl)) ?_
  obtain⟨r48,hr48,h⟩:=bS h
  refine dq [] [] (I r48) rfl (cP (sU hr48)) ?_ (cm rfl rfl rfl rfl (aQ (bx rfl) (aQ (bx rfl) (aQ (bx rfl) cz))) (sU hr48) (.inr rfl) rfl)
  refine dk 2 [171,170] [B (!(decide (r48<0))),B (decide (r48<0))] ?_
  refine de 386 rfl rfl ?_
  obtain⟨u49,hu49,h⟩:=lJ h
  have j49:Run (ii az) 1 Q (.blk 9::.lp QD::.blk 8::K) (sT 220 [(0,.hs 1 0 [] 1 0 (ar.map I).length),(1,I aW),(2,I aY),(3,I bc),(4,.fn 118 [.iptr (ae aE) 0]),(18,I (IntKind.i64.wrap (d8 .u64 (IntKind.u64.wrap (ai (aW+bc))) 1))),(19,I (ai ((IntKind.i64.wrap (d8 .u64 (IntKind.u64.wrap (ai (aW+bc))) 1))+aY))),(20,I u49.1),(21,I u49.2),(22,I (ai ((ai ((IntKind.i64.wrap (d8 .u64 (IntKind.u64.wrap (ai (aW+bc))) 1))+aY)) - 1)))] [⟨0,1,ar.map I⟩] 2):=by
   refine aq 1 ?_
   refine dh ?_
   exact rf [0,1,2,3,4,18,19,20,21,22] [1] (ih _ _ h hr hn :)
  replace h:=hu49
  clear hu49
  refine qS h rfl rfl ?_ ?_<;>intro h
  ·refine cq 5 [20] [I (ai ((IntKind.i64.wrap (d8 .u64 (IntKind.u64.wrap (ai (x45.1+x45.2))) 1))+1))] 434 ?_
   subst h
   exact rf [0,1,2,3,4,18,19,20,21,22] [1] (j49 :)
  ·refine cq 4 [21] [I (IntKind.i64.wrap (d8 .u64 (IntKind.u64.wrap (ai (x45.1+x45.2))) 1))] 418 ?_
   subst h
   exact rf [0,1,2,3,4,18,19,20,21,22] [1] (j49 :)
 ·refine aq 1 ?_
  exact rf [0,1,2,3,4,18,19,20] [1] (hn _ (ak h) :) (hk:=hK)
theorem Zk (az:((List Int)×Int×Int×Int×State)→Option (List Int))(ar:List Int)(aW:Int)(aY:Int)(bc:Int)(aE:State)(r:(List Int))(h:uz az ar aW aY bc aE=some r):bq (ii az) Tryz.f181 [true,false,false,false,false] 1 (xB (ar,aW,aY,bc,aE)) (xC r):=by
 show Run _ _ (gy az (ar,aW,aY,bc,aE) r) [.code oI] _
 refine rI 220 [(0,.hs 1 0 [] 1 0 (ar.map I).length),(1,I aW),(2,I aY),(3,I bc),(4,.fn 118 [.iptr (ae aE) 0])] [(1,some ⟨0,1,ar.map I⟩)] 2 ?_
 unfold uz at h
 refine cq 8 [28] [B ((ai (aY - aW))==1)] 66 ?_
 refine sq h ?_ ?_<;>intro h
 ·refine cq 12 [10,11] [I aY,I bc] 130 ?_
  obtain⟨y11,hy11,hy111,hy112⟩:=bJ h
  refine bP rfl ?_
  refine rf [0,1,4,10,11] [1] (PL az ar aW aY bc aE rfl (aY,bc) _ hy11 (fun r' e st hq=>by rw[hy111 r' e] at hq;exact hq) fun u11 hu=>?_)
  replace h:=hy112 u11 hu
  refine cq 7 [13] [I u11.1] 34 ?_
  obtain⟨y23,hy23,hy231,hy232⟩:=bJ h
  refine bP rfl ?_
  refine rf [0,10,13] [1] (PM az ar aW aY bc aE u11 rfl (u11.1,u11.2.2) _ hy23 (fun r' e st hq=>by rw[hy231 r' e] at hq;exact hq) fun u23 hu=>?_)
  replace h:=hy232 u23 hu
  obtain⟨g24,h⟩:=gG h
  obtain rfl:=sI h
  exact cu rfl ⟨_,fin (vs:=[]) rfl eA rfl (mj rfl (qC (f:=I) (xs:=u23) (by simpa using g24) rfl) (cQ (cQ (cQ (cQ ft))))),yN fj⟩
 ·refine aq 1 ?_
  refine cq 8 [80] [B ((ai (bc - aY))==1)] 130 ?_
  refine sq h ?_ ?_<;>intro h
  ·refine cq 12 [14,15] [I aW,I aY] 194 ?_
   obtain⟨y30,hy30,hy301,hy302⟩:=bJ h
   refine bP rfl ?_
   refine rf [0,2,4,14,15] [1] (PN az ar aW aY bc aE rfl (aW,aY) _ hy30 (fun r' e st hq=>by rw[hy301 r' e] at hq;exact hq) fun u30 hu=>?_)
   replace h:=hy302 u30 hu
   refine cq 7 [17] [I u30.1] 34 ?_
   obtain⟨y42,hy42,hy421,hy422⟩:=bJ h
   refine bP rfl ?_
   refine rf [0,14,17] [1] (PO az ar aW aY bc aE u30 rfl (u30.1,u30.2.2) _ hy42 (fun r' e st hq=>by rw[hy421 r' e] at hq;exact hq) fun u42 hu=>?_)
   replace h:=hy422 u42 hu
   obtain⟨g43,h⟩:=gG h
   obtain rfl:=sI h
   exact cu rfl ⟨_,fin (vs:=[]) rfl eA rfl (mj rfl (qC (f:=I) (xs:=u42) (by simpa using g43) rfl) (cQ (cQ (cQ (cQ ft))))),yN fj⟩
  ·refine aq 1 ?_
   refine cq 29 [18,19,140] [I (IntKind.i64.wrap (d8 .u64 (IntKind.u64.wrap (ai (aW+bc))) 1)),I (ai ((IntKind.i64.wrap (d8 .u64 (IntKind.u64.wrap (ai (aW+bc))) 1))+aY)),B (decide (aY>(IntKind.i64.wrap (d8 .u64 (IntKind.u64.wrap (ai (aW+bc))) 1))))] 386 ?_
   obtain⟨u44,hu44,h⟩:=lJ h
   have j44:Run (ii az) 1 (gy az (ar,aW,aY,bc,aE) r) (.code (cR (cR (cR (cR (cR (cR oI))))))::[]) (sT 220 [(0,.hs 1 0 [] 1 0 (ar.map I).length),(1,I aW),(2,I aY),(3,I bc),(4,.fn 118 [.iptr (ae aE) 0]),(18,I (IntKind.i64.wrap (d8 .u64 (IntKind.u64.wrap (ai (aW+bc))) 1))),(19,I (ai ((IntKind.i64.wrap (d8 .u64 (IntKind.u64.wrap (ai (aW+bc))) 1))+aY))),(20,I u44.1),(21,I u44.2)] [⟨0,1,ar.map I⟩] 2):=by
    refine cq 8 [22] [I (ai ((ai ((IntKind.i64.wrap (d8 .u64 (IntKind.u64.wrap (ai (aW+bc))) 1))+aY)) - 1))] 50 ?_
    obtain⟨y50,hy50,hy501,hy502⟩:=bJ h
    refine bP rfl ?_
    refine rf [0,1,2,3,4,18,19,20,21,22] [1] (PP az ar aW aY bc aE rfl (u44.1,u44.2) _ hy50 (fun r' e st hq=>by rw[hy501 r' e] at hq;exact hq) fun u50 hu=>?_)
    replace h:=hy502 u50 hu
    refine cq 14 [24,181] [I (ai (u50.2.2.1 - u50.2.2.2)),B (decide (u50.2.2.2<aY))] 130 ?_
    obtain⟨u51,hu51,h⟩:=lJ h
    have j51:Run (ii az) 1 (gy az (ar,aW,aY,bc,aE) r) (.code (cR (cL (cR (cR (cR (cR (cR (cR (cR (cR (cR oI)))))))))))::.code zm::[]) (sT 220 [(0,.hs 1 0 [] 1 0 (ar.map I).length),(1,I aW),(2,I aY),(3,I u50.1),(4,.fn 118 [.iptr (ae aE) 0]),(18,I u50.2.1),(20,I u50.2.2.2),(24,I (ai (u50.2.2.1 - u50.2.2.2))),(185,B u51)] [⟨0,1,ar.map I⟩] 2):=by
     obtain⟨y52,hy52,hy521,hy522⟩:=bJ h
     have j52:∀u52,y52=.inr u52→Run (ii az) 1 (gy az (ar,aW,aY,bc,aE) r) (.code zm::[]) (sT 220 [(0,.hs 1 0 [] 1 0 (u52.map I).length),(1,I aW),(3,I u50.1),(4,.fn 118 [.iptr (ae aE) 0]),(18,I u50.2.1),(20,I u50.2.2.2),(24,I (ai (u50.2.2.1 - u50.2.2.2)))] [⟨0,1,u52.map I⟩] 2):=by
      intro u52 hu
      replace h:=hy522 u52 hu
      refine cq 7 [195] [B (decide (aW<u50.2.2.2))] 66 ?_
      obtain⟨u53,hu53,h⟩:=lJ h
      have j53:Run (ii az) 1 (gy az (ar,aW,aY,bc,aE) r) (.code (cR (cL zm))::.code JD::[]) (sT 220 [(0,.hs 1 0 [] 1 0 (u52.map I).length),(1,I aW),(3,I u50.1),(4,.fn 118 [.iptr (ae aE) 0]),(18,I u50.2.1),(20,I u50.2.2.2),(24,I (ai (u50.2.2.1 - u50.2.2.2))),(199,B u53)] [⟨0,1,u52.map I⟩] 2):=by
       obtain⟨y54,hy54,hy541,hy542⟩:=bJ h
       have j54:∀u54,y54=.inr u54→Run (ii az) 1 (gy az (ar,aW,aY,bc,aE) r) (.code JD::[]) (sT 220 [(0,.hs 1 0 [] 1 0 (u54.map I).length),(3,I u50.1),(4,.fn 118 [.iptr (ae aE) 0]),(18,I u50.2.1),(24,I (ai (u50.2.2.1 - u50.2.2.2)))] [⟨0,1,u54.map I⟩] 2):=by
        intro u54 hu
        replace h:=hy542 u54 hu
        refine cq 6 [209] [B (decide (u50.2.1<(ai (u50.2.2.1 - u50.2.2.2))))] 66 ?_
        obtain⟨u55,hu55,h⟩:=lJ h
        have j55:Run (ii az) 1 (gy az (ar,aW,aY,bc,aE) r) (.code (cR JD)::[]) (sT 220 [(0,.hs 1 0 [] 1 0 (u54.map I).length),(3,I u50.1),(4,.fn 118 [.iptr (ae aE) 0]),(18,I u50.2.1),(24,I (ai (u50.2.2.1 - u50.2.2.2))),(213,B u55)] [⟨0,1,u54.map I⟩] 2):=by
         obtain⟨y56,hy56,hy561,hy562⟩:=bJ h
         have j56:∀u56,y56=.inr u56→Run (ii az) 1 (gy az (ar,aW,aY,bc,aE) r) ([]) (sT 220 [] [⟨0,1,u56.map I⟩] 2):=by
          intro u56 hu
          replace h:=hy562 u56 hu
          obtain⟨g57,h⟩:=gG h
          obtain rfl:=sI h
          exact zO ⟨_,fin (vs:=[]) rfl eA rfl (mj rfl (qC (f:=I) (xs:=u56) (by simpa using g57) rfl) (cQ (cQ (cQ (cQ ft))))),yN fj⟩
         have r56:∀r',y56=.inl r'→∀st,gy az (ar,aW,aY,bc,aE) r' st→(gy az (ar,aW,aY,bc,aE) r) st:=fun r' e st hq=>by rw[hy561 r' e] at hq;exact hq
         replace h:=hy56
         refine sq h ?_ ?_<;>intro h
         ·refine cq 6 [214,215,216,217,218] [.hs 1 0 [] 1 0 (u54.map I).length,I u50.2.1,I (ai (u50.2.2.1 - u50.2.2.2)),I u50.1,.fn 118 [.iptr (ae aE) 0]] 82 ?_
          obtain⟨r58,hr58,h⟩:=bS h
          obtain⟨g59,h⟩:=gG h
          refine oq 98 (.tup []) rfl (bR rfl rfl (cn rfl rfl rfl (kV (ki rfl (f8 (path:=[]) rfl rfl aU rfl)) (aQ (bx rfl) (aQ (bx rfl) (aQ (bx rfl) (aQ (lE (dU (f7 rfl) gL)) cz))))) (JC az hr58) (.inr rfl) (jj rfl rfl rfl rfl dT) rfl rfl rfl)) ?_
          try rw[iA (f:=I) (xs:=u54) (ys:=r58) g59]
          refine aq 1 ?_
          exact rf [] [1] (j56 _ (ak h) :)
         ·refine aq 1 ?_
          exact rf [] [1] (j56 _ (ak h) :)
        replace h:=hu55
        clear hu55
        refine sp 209 h rfl ?_ ?_<;>intro h
        ·refine cq 5 [213] [B (decide ((ai (u50.2.2.1 - u50.2.2.2))<u50.1))] 130 ?_
         subst h
         exact rf [0,3,4,18,24,213] [1] (j55 :)
        ·refine cq 5 [213] [B false] 130 ?_
         subst h
         exact rf [0,3,4,18,24,213] [1] (j55 :)
       have r54:∀r',y54=.inl r'→∀st,gy az (ar,aW,aY,bc,aE) r' st→(gy az (ar,aW,aY,bc,aE) r) st:=fun r' e st hq=>by rw[hy541 r' e] at hq;exact hq
       replace h:=hy54
       refine sq h ?_ ?_<;>intro h
       ·refine cq 6 [200,201,202,203,204] [.hs 1 0 [] 1 0 (u52.map I).length,I aW,I u50.2.2.2,I u50.2.1,.fn 118 [.iptr (ae aE) 0]] 82 ?_
        obtain⟨r60,hr60,h⟩:=bS h
        obtain⟨g61,h⟩:=gG h
        refine oq 98 (.tup []) rfl (bR rfl rfl (cn rfl rfl rfl (kV (ki rfl (f8 (path:=[]) rfl rfl aU rfl)) (aQ (bx rfl) (aQ (bx rfl) (aQ (bx rfl) (aQ (lE (dU (f7 rfl) gL)) cz))))) (JC az hr60) (.inr rfl) (jj rfl rfl rfl rfl dT) rfl rfl rfl)) ?_
        try rw[iA (f:=I) (xs:=u52) (ys:=r60) g61]
        refine aq 1 ?_
        exact rf [0,3,4,18,24] [1] (j54 _ (ak h) :)
       ·refine aq 1 ?_
        exact rf [0,3,4,18,24] [1] (j54 _ (ak h) :)
      replace h:=hu53
      clear hu53
      refine sp 195 h rfl ?_ ?_<;>intro h
      ·refine cq 5 [199] [B (decide (u50.2.2.2<u50.2.1))] 130 ?_
       subst h
       exact rf [0,1,3,4,18,20,24,199] [1] (j53 :)
      ·refine cq 5 [199] [B false] 130 ?_
       subst h
       exact rf [0,1,3,4,18,20,24,199] [1] (j53 :)
     have r52:∀r',y52=.inl r'→∀st,gy az (ar,aW,aY,bc,aE) r' st→(gy az (ar,aW,aY,bc,aE) r) st:=fun r' e st hq=>by rw[hy521 r' e] at hq;exact hq
     replace h:=hy52
     refine sq h ?_ ?_<;>intro h
     ·refine cq 6 [186,187,188,189,190] [.hs 1 0 [] 1 0 (ar.map I).length,I u50.2.2.2,I aY,I (ai (u50.2.2.1 - u50.2.2.2)),.fn 118 [.iptr (ae aE) 0]] 82 ?_
      obtain⟨r62,hr62,h⟩:=bS h
      obtain⟨g63,h⟩:=gG h
      refine oq 98 (.tup []) rfl (bR rfl rfl (cn rfl rfl rfl (kV (ki rfl (f8 (path:=[]) rfl rfl aU rfl)) (aQ (bx rfl) (aQ (bx rfl) (aQ (bx rfl) (aQ (lE (dU (f7 rfl) gL)) cz))))) (afs hr62) (.inr rfl) (jj rfl rfl rfl rfl dT) rfl rfl rfl)) ?_
      try rw[iA (f:=I) (xs:=ar) (ys:=r62) g63]
      refine aq 1 ?_
      exact rf [0,1,3,4,18,20,24] [1] (j52 _ (ak h) :)
     ·refine aq 1 ?_
      exact rf [0,1,3,4,18,20,24] [1] (j52 _ (ak h) :)
    replace h:=hu51
    clear hu51
    refine sp 181 h rfl ?_ ?_<;>intro h
    ·refine cq 5 [185] [B (decide (aY<(ai (u50.2.2.1 - u50.2.2.2))))] 194 ?_
     subst h
     exact rf [0,1,2,3,4,18,20,24,185] [1] (j51 :)
    ·refine cq 5 [185] [B false] 194 ?_
     subst h
     exact rf [0,1,2,3,4,18,20,24,185] [1] (j51 :)
   replace h:=hu44
   clear hu44
   refine qS h rfl rfl ?_ ?_<;>intro h
   ·refine cq 11 [20,21] [I (ai ((ai ((IntKind.i64.wrap (d8 .u64 (IntKind.u64.wrap (ai (aW+bc))) 1))+aY)) - bc)),I (IntKind.i64.wrap (d8 .u64 (IntKind.u64.wrap (ai (aW+bc))) 1))] 482 ?_
    subst h
    exact rf [0,1,2,3,4,18,19,20,21] [1] (j44 :)
   ·refine cq 9 [20,21] [I aW,I aY] 450 ?_
    subst h
    exact rf [0,1,2,3,4,18,19,20,21] [1] (j44 :)
theorem VH {G:bT}[TabG Tryz.prog G]:bQ G 181 C9:=jL fun az g_Ffdq=>gT 5 1 (aL NM (aL g_Ffdq (aL VB bu))) bW Tryz.func181 (fun a r h=>Zk az a.1 a.2.1 a.2.2.1 a.2.2.2.1 a.2.2.2.2 r h)
def Gq:((List Int)×Int×State)→List V:=cA (sG 1 I) (cA I (oA (fun x:State=>(.fn 118 [.iptr (bA x) 0]:V))))
def Gr (r:(List Int)):V×List V:=(.tup [],[.usl 1 (r.map I)])
noncomputable def C7 :=bb [true,false,false] Gq Gr fun x=>C6 x.1 x.2.1 x.2.2
theorem aft {b9:List Int}{n_7:Int}{cg:State}{r}(h:C6 b9 n_7 cg=some r):C7.F (Gq (b9,n_7,cg))=some (Gr r):=aF (aJ (jo bi) (aJ bi (aG (hP bN)))) h
noncomputable def Nf :=aD Tryz.f154
noncomputable abbrev zl :=cL (cL (cR (cR (cR (cR Nf)))))
noncomputable abbrev aca :=cL (cL (cL (cR (cL (cR zl)))))
noncomputable def ur :=bV [(180,C4),(181,C9)]
def xA (x:(List Int)×Int×State)(r:(List Int)):St→Prop:=QF ur Tryz.f154 [true,false,false] (Gq x) (Gr r)
theorem PH (b9:List Int)(n_7:Int)(cg:State):cj ur 1 (xA (b9,n_7,cg)) (cL (cL (cL (cR (cR Nf))))) 0 (ut b9 n_7 cg) (fun u=>(sT 63 [(0,.hs 1 0 [] 1 0 (u.2.2.map I).length),(1,I u.1),(2,.fn 118 [.iptr (ae cg) 0]),(6,I (20)),(7,I u.2.1)] [⟨0,1,u.2.2.map I⟩] 2)) fun x4=>(sT 63 [(0,.hs 1 0 [] 1 0 (x4.2.2.map I).length),(1,I n_7),(2,.fn 118 [.iptr (ae cg) 0]),(6,I (20)),(7,I x4.1),(8,I x4.2.1)] [⟨0,1,x4.2.2.map I⟩] 2):=ee (AD b9 n_7 cg) fun {Q K} hK self ih x4 y h hr hn=>by
 unfold kv at h
 refine cq 7 [13] [B (decide (x4.2.1≤n_7))] 50 ?_
 refine sq h ?_ ?_<;>intro h
 ·refine aq 1 ?_
  refine cq 7 [14,15,16,17] [.hs 1 0 [] 1 0 (x4.2.2.map I).length,I x4.1,I x4.2.1,.fn 118 [.iptr (ae cg) 0]] 114 ?_
  obtain⟨r5,hr5,h⟩:=bS h
  obtain⟨g6,h⟩:=gG h
  refine oq 130 (.tup []) rfl (bR rfl rfl (cn rfl rfl rfl (kV (ki rfl (f8 (path:=[]) rfl rfl aU rfl)) (aQ (bx rfl) (aQ (bx rfl) (aQ (lE (dU (f7 rfl) gL)) cz)))) (Vz hr5) (.inr rfl) (jj rfl rfl rfl rfl dT) rfl rfl rfl)) ?_
  try rw[iA (f:=I) (xs:=x4.2.2) (ys:=r5) g6]
  refine cq 13 [7,8] [I x4.2.1,I (ai (x4.2.1+20))] 226 ?_
  refine dh ?_
  exact rf [0,1,2,6,7,8] [1] (ih _ _ h hr hn :)
 ·refine aq 1 ?_
  exact rf [0,1,2,6,7] [1] (hn _ (ak h) :) (hk:=hK)
theorem PJ (b9:List Int)(n_7:Int)(cg:State)(u7:Int×Int×(List Int))(x10:Int×(List Int)):cj ur 1 (xA (b9,n_7,cg)) aca 4 (uw b9 n_7 cg u7 x10) (fun u=>(sT 63 [(0,.hs 1 0 [] 1 0 (u.2.map I).length),(1,I u7.1),(2,.fn 118 [.iptr (ae cg) 0]),(6,I x10.1),(7,I u.1)] [⟨0,1,u.2.map I⟩] 2)) fun x11=>(sT 63 [(0,.hs 1 0 [] 1 0 (x11.2.2.map I).length),(1,I u7.1),(2,.fn 118 [.iptr (ae cg) 0]),(6,I x10.1),(7,I x11.1),(8,I x11.2.1)] [⟨0,1,x11.2.2.map I⟩] 2):=ee (AF b9 n_7 cg u7 x10) fun {Q K} hK self ih x11 y h hr hn=>by
 unfold nW at h
 refine cq 7 [35] [B (decide (x11.2.1≤u7.1))] 50 ?_
 refine sq h ?_ ?_<;>intro h
 ·refine aq 1 ?_
  refine cq 10 [36,37,40,41,42] [.hs 1 0 [] 1 0 (x11.2.2.map I).length,I x11.1,I (ai (x11.1+x10.1)),I x11.2.1,.fn 118 [.iptr (ae cg) 0]] 162 ?_
  obtain⟨r12,hr12,h⟩:=bS h
  obtain⟨g13,h⟩:=gG h
  refine oq 178 (.tup []) rfl (bR rfl rfl (cn rfl rfl rfl (kV (ki rfl (f8 (path:=[]) rfl rfl aU rfl)) (aQ (bx rfl) (aQ (bx rfl) (aQ (bx rfl) (aQ (lE (dU (f7 rfl) gL)) cz))))) (VG hr12) (.inr rfl) (jj rfl rfl rfl rfl dT) rfl rfl rfl)) ?_
  try rw[iA (f:=I) (xs:=x11.2.2) (ys:=r12) g13]
  refine cq 14 [7,8] [I x11.2.1,I (ai (x11.2.1+(ai (2*x10.1))))] 290 ?_
  refine dh ?_
  exact rf [0,1,2,6,7,8] [1] (ih _ _ h hr hn :)
 ·refine aq 1 ?_
  exact rf [0,1,2,6,7] [1] (hn _ (ak h) :) (hk:=hK)
theorem PI (b9:List Int)(n_7:Int)(cg:State)(u7:Int×Int×(List Int)):cj ur 1 (xA (b9,n_7,cg)) zl 2 (uu b9 n_7 cg u7) (fun u=>(sT 63 [] [⟨0,1,u.map I⟩] 2)) fun x10=>(sT 63 [(0,.hs 1 0 [] 1 0 (x10.2.map I).length),(1,I u7.1),(2,.fn 118 [.iptr (ae cg) 0]),(6,I x10.1)] [⟨0,1,x10.2.map I⟩] 2):=ee (AE b9 n_7 cg u7) fun {Q K} hK self ih x10 y h hr hn=>by
 unfold jr at h
 refine cq 7 [30] [B (decide (x10.1<u7.1))] 50 ?_
 refine sq h ?_ ?_<;>intro h
 ·refine aq 1 ?_
  refine cq 10 [7,8] [I (0),I (ai (2*x10.1))] 114 ?_
  obtain⟨y14,hy14,hy141,hy142⟩:=bL h
  refine bP rfl ?_
  refine rf [0,1,2,6,7,8] [1] (PJ b9 n_7 cg u7 x10 rfl (0,(ai (2*x10.1)),x10.2) _ hy14 (fun r' e st hq=>hr r' (hy141 r' e) st hq) fun u14 hu=>?_)
  replace h:=hy142 u14 hu
  refine cq 14 [9,54] [I (ai (u14.1+x10.1)),B (decide ((ai (u14.1+x10.1))<u7.1))] 114 ?_
  obtain⟨y15,hy15,hy151,hy152⟩:=bL h
  have j15:∀u15,y15=.inr u15→Run ur 1 Q (.code (cR (cR (cR (cL (cR zl)))))::.blk 3::.lp zl::.blk 2::K) (sT 63 [(0,.hs 1 0 [] 1 0 (u15.map I).length),(1,I u7.1),(2,.fn 118 [.iptr (ae cg) 0]),(6,I x10.1)] [⟨0,1,u15.map I⟩] 2):=by
   intro u15 hu
   replace h:=hy152 u15 hu
   refine cq 6 [6] [I (ai (x10.1*2))] 50 ?_
   refine dh ?_
   exact rf [0,1,2,6] [1] (ih _ _ h hr hn :)
  have r15:∀r',y15=.inl r'→∀st,xA (b9,n_7,cg) r' st→Q st:=fun r' e st hq=>hr r' (hy151 r' e) st hq
  replace h:=hy15
  refine sq h ?_ ?_<;>intro h
  ·refine cq 6 [55,56,57,58,59] [.hs 1 0 [] 1 0 (u14.2.map I).length,I u14.1,I (ai (u14.1+x10.1)),I u7.1,.fn 118 [.iptr (ae cg) 0]] 194 ?_
   obtain⟨r16,hr16,h⟩:=bS h
   obtain⟨g17,h⟩:=gG h
   refine oq 210 (.tup []) rfl (bR rfl rfl (cn rfl rfl rfl (kV (ki rfl (f8 (path:=[]) rfl rfl aU rfl)) (aQ (bx rfl) (aQ (bx rfl) (aQ (bx rfl) (aQ (lE (dU (f7 rfl) gL)) cz))))) (VG hr16) (.inr rfl) (jj rfl rfl rfl rfl dT) rfl rfl rfl)) ?_
   try rw[iA (f:=I) (xs:=u14.2) (ys:=r16) g17]
   refine aq 1 ?_
   exact rf [0,1,2,6] [1] (j15 _ (ak h) :)
  ·refine aq 1 ?_
   exact rf [0,1,2,6] [1] (j15 _ (ak h) :)
 ·refine aq 1 ?_
  exact rf [] [1] (hn _ (ak h) :) (hk:=hK)
theorem Zh (b9:List Int)(n_7:Int)(cg:State)(r:(List Int))(h:C6 b9 n_7 cg=some r):bq ur Tryz.f154 [true,false,false] 1 (Gq (b9,n_7,cg)) (Gr r):=by
 show Run _ _ (xA (b9,n_7,cg) r) [.code Nf] _
 refine rI 63 [(0,.hs 1 0 [] 1 0 (b9.map I).length),(1,I n_7),(2,.fn 118 [.iptr (ae cg) 0])] [(1,some ⟨0,1,b9.map I⟩)] 2 ?_
 unfold C6 at h
 refine cq 12 [6,7,8] [I (20),I (0),I (20)] 66 ?_
 obtain⟨y7,hy7,hy71,hy72⟩:=bJ h
 refine bP rfl ?_
 refine rf [0,1,2,6,7,8] [1] (PH b9 n_7 cg rfl (0,20,b9) _ hy7 (fun r' e st hq=>by rw[hy71 r' e] at hq;exact hq) fun u7 hu=>?_)
 replace h:=hy72 u7 hu
 refine cq 6 [23,24,25,26] [.hs 1 0 [] 1 0 (u7.2.2.map I).length,I u7.2.1,I u7.1,.fn 118 [.iptr (ae cg) 0]] 66 ?_
 obtain⟨r8,hr8,h⟩:=bS h
 obtain⟨g9,h⟩:=gG h
 refine oq 82 (.tup []) rfl (bR rfl rfl (cn rfl rfl rfl (kV (ki rfl (f8 (path:=[]) rfl rfl aU rfl)) (aQ (bx rfl) (aQ (bx rfl) (aQ (lE (dU (f7 rfl) gL)) cz)))) (Vz hr8) (.inr rfl) (jj rfl rfl rfl rfl dT) rfl rfl rfl)) ?_
 try rw[iA (f:=I) (xs:=u7.2.2) (ys:=r8) g9]
 refine aq 2 ?_
 obtain⟨y18,hy18,hy181,hy182⟩:=bJ h
 refine bP rfl ?_
 refine rf [0,1,2,6] [1] (PI b9 n_7 cg u7 rfl (20,r8) _ hy18 (fun r' e st hq=>by rw[hy181 r' e] at hq;exact hq) fun u18 hu=>?_)
 replace h:=hy182 u18 hu
 obtain⟨g19,h⟩:=gG h
 obtain rfl:=sI h
 exact zO ⟨_,fin (vs:=[]) rfl eA rfl (mj rfl (qC (f:=I) (xs:=u18) (by simpa using g19) rfl) (cQ (cQ ft))),yN fj⟩
theorem VC {G:bT}[TabG Tryz.prog G]:bQ G 154 C7:=gT 3 1 (aL VA (aL VH bu)) bW Tryz.func154 (fun a r h=>Zh a.1 a.2.1 a.2.2 r h)
def Gh:((List Int)×State)→List V:=cA (sG 1 I) (oA (fun x:State=>(.fn 118 [.iptr (bA x) 0]:V)))
def Gi (r:(List Int)):V×List V:=(.tup [],[.usl 1 (r.map I)])
noncomputable def vE :=bb [true,false] Gh Gi fun x=>tw x.1 x.2
theorem Vy {x_3:List Int}{qa:State}{r}(h:tw x_3 qa=some r):vE.F (Gh (x_3,qa))=some (Gi r):=aF (aJ (jo bi) (aG (hP bN))) h
noncomputable def afr :=aD Tryz.f117
noncomputable def Vx :=bV [(154,C7)]
def afq (x:(List Int)×State)(r:(List Int)):St→Prop:=QF Vx Tryz.f117 [true,false] (Gh x) (Gi r)
theorem Ze (x_3:List Int)(qa:State)(r:(List Int))(h:tw x_3 qa=some r):bq Vx Tryz.f117 [true,false] 1 (Gh (x_3,qa)) (Gi r):=by
 show Run _ _ (afq (x_3,qa) r) [.code afr] _
 refine rI 9 [(0,.hs 1 0 [] 1 0 (x_3.map I).length),(1,.fn 118 [.iptr (ae qa) 0])] [(1,some ⟨0,1,x_3.map I⟩)] 2 ?_
 unfold tw at h
 refine cq 3 [4,5] [.hs 1 0 [] 1 0 (x_3.map I).length,.hs 1 0 [] 1 0 (x_3.map I).length] 34 ?_
 refine oq 50 (I (len x_3)) rfl (bv rfl rfl rfl (ri (f:=I) (xs:=x_3) rfl rfl)) ?_
 refine cq 1 [7] [.fn 118 [.iptr (ae qa) 0]] 66 ?_
 obtain⟨r3,hr3,h⟩:=bS h
 obtain⟨g4,h⟩:=gG h
 refine oq 82 (.tup []) rfl (bR rfl rfl (cn rfl rfl rfl (kV (ki rfl (f8 (path:=[]) rfl rfl aU rfl)) (aQ (bx rfl) (aQ (lE (dU (f7 rfl) gL)) cz))) (aft hr3) (.inr rfl) (jj rfl rfl rfl rfl dT) rfl rfl rfl)) ?_
 try rw[iA (f:=I) (xs:=x_3) (ys:=r3) g4]
 refine aq 1 ?_
 obtain⟨g5,h⟩:=gG h
 obtain rfl:=sI h
 exact zO ⟨_,fin (vs:=[]) rfl eA rfl (mj rfl (qC (f:=I) (xs:=r3) (by simpa using g5) rfl) (cQ ft)),yN fj⟩
theorem Kw {G:bT}[TabG Tryz.prog G]:bQ G 117 vE:=gT 2 1 (aL VC bu) bW Tryz.func117 (fun a r h=>Ze a.1 a.2 r h)
def Ml:(Contract×State×Int)→List V:=cA aM (cA bA (oA (fun x:Int=>(.fn 120 [.iptr (I x) 0]:V))))
def Mn (r:(List Int)):V×List V:=(.usl 1 (r.map I),[])
noncomputable def JX :=bb [false,false,false] Ml Mn fun x=>NO x.1 x.2.1 x.2.2
theorem aha {c_1:Contract}{s_2:State}{bO:Int}{r}(h:NO c_1 s_2 bO=some r):JX.F (Ml (c_1,s_2,bO))=some (Mn r):=aF (aJ aP (aJ bN (aG (hP bi)))) h
noncomputable def abM :=aD Tryz.f70
noncomputable abbrev uX :=cL (cL (cR (cL (cR (cR abM)))))
noncomputable def Ic :=bV [(120,JV),(117,vE)]
def Mm (x:Contract×State×Int)(r:(List Int)):St→Prop:=QF Ic Tryz.f70 [false,false,false] (Ml x) (Mn r)
theorem Sc (c_1:Contract)(s_2:State)(bO:Int):cj Ic 0 (Mm (c_1,s_2,bO)) uX 0 (qt c_1 s_2 bO) (fun u=>(sT 42 [(4,.hp 1 0 [] 5 0 0),(7,.hs 2 0 [] 1 0 (u.map I).length)] [⟨0,5,[ae s_2]⟩,⟨0,1,u.map I⟩] 3)) fun x4=>(sT 42 [(2,.fn 120 [.iptr (I bO) 0]),(3,.hp 1 0 [] 2 0 0),(4,.hp 2 0 [] 5 0 0),(7,.hs 3 0 [] 1 0 (x4.2.map I).length),(12,.isl false (s_2.Duties.map ah)),(13,I (len s_2.Duties)),(14,I x4.1)] [⟨0,2,[aa c_1]⟩,⟨0,5,[ae s_2]⟩,⟨0,1,x4.2.map I⟩] 4):=ee (Ie c_1 s_2 bO) fun {Q K} hK self ih x4 y h hr hn=>by
 unfold nu at h
 refine cq 5 [15] [B (decide (x4.1<(len s_2.Duties)))] 20 ?_
 refine sq h ?_ ?_<;>intro h
 ·refine aq 1 ?_
  refine cq 5 [16] [I x4.1] 36 ?_
  obtain⟨e5,he5,h⟩:=bS h
  refine oq 52 (.iptr (ah e5) 0) rfl (aj rfl rfl rfl (aZ rfl rfl rfl rfl he5)) ?_
  refine ck 6 [8,9] [] [68] [] [I x4.1,.hp 68 0 [] 4 0 0] [some ⟨0,4,[ah e5]⟩] 116 (by kernel_rfl) ?_
  refine dt [0,1,3,7,15,15,15,79,15,271,975,1999,4095,8191] rfl (by decide +kernel) ?_
  refine dq [68] [] (.hp 68 0 [] 4 0 3) rfl (al rfl rfl rfl) ?_
  refine dq [68] [] (I e5.Status) rfl (aK rfl rfl) ?_
  refine dk 2 [22,21] [B (e5.Status==1),B (e5.Status==1)] ?_
  obtain⟨y6,hy6,hy61,hy62⟩:=bL h
  have j6:∀u6,y6=.inr u6→Run Ic 0 Q (.code (cR (cR (cL (cL (cR (cR uX))))))::.blk 1::.code (cR (cR (cR uX)))::.lp uX::.blk 0::K) (sT 42 [(2,.fn 120 [.iptr (I bO) 0]),(3,.hp 1 0 [] 2 0 0),(4,.hp 2 0 [] 5 0 0),(7,.hs 3 0 [] 1 0 (x4.2.map I).length),(8,I x4.1),(12,.isl false (s_2.Duties.map ah)),(13,I (len s_2.Duties)),(14,I x4.1),(32,B u6)] [⟨0,2,[aa c_1]⟩,⟨0,5,[ae s_2]⟩,⟨0,1,x4.2.map I⟩] 4):=by
   intro u6 hu
   replace h:=hy62 u6 hu
   obtain⟨y7,hy7,hy71,hy72⟩:=bL h
   have j7:∀u7,y7=.inr u7→Run Ic 0 Q (.blk 1::.code (cR (cR (cR uX)))::.lp uX::.blk 0::K) (sT 42 [(2,.fn 120 [.iptr (I bO) 0]),(3,.hp 1 0 [] 2 0 0),(4,.hp 2 0 [] 5 0 0),(7,.hs 3 0 [] 1 0 (u7.map I).length),(12,.isl false (s_2.Duties.map ah)),(13,I (len s_2.Duties)),(14,I x4.1)] [⟨0,2,[aa c_1]⟩,⟨0,5,[ae s_2]⟩,⟨0,1,u7.map I⟩] 4):=by
    intro u7 hu
    replace h:=hy72 u7 hu
    refine cq 5 [14] [I (ai (x4.1+1))] 36 ?_
    refine dh ?_
    exact rf [2,3,4,7,12,13,14] [1,2,3] (ih _ _ h hr hn :)
   have r7:∀r',y7=.inl r'→∀st,Mm (c_1,s_2,bO) r' st→Q st:=fun r' e st hq=>hr r' (hy71 r' e) st hq
   replace h:=hy7
   refine sq h ?_ ?_<;>intro h
   ·refine cq 3 [33,34] [.hs 3 0 [] 1 0 (x4.2.map I).length,I x4.1] 36 ?_
    refine oq 52 (.hs 36 0 [] 1 0 1) rfl (eD rfl (kG (f:=I) (xs:=[]) (z:=I (0)) (es:=[I x4.1]) (ws:=[I x4.1]) rfl rfl rfl (by decide) rfl (dM rfl) rfl)) ?_
    obtain⟨a8,ha8,h⟩:=bS h
    refine oq 68 (.hs 52 0 [] 1 0 (a8.map I).length) rfl (jJ rfl rfl rfl rfl rfl (mW (path:=[]) (f:=I) (xs:=x4.2) (ys:=[x4.1]) rfl rfl (rN rfl rfl rfl) rfl rfl rfl aU rfl (by decide) pD ha8 rfl qQ)) ?_
    refine cq 2 [7] [.hs 52 0 [] 1 0 (a8.map I).length] 84 ?_
    exact rf [2,3,4,7,12,13,14] [1,2,52] (j7 _ (ak h) :)
   ·refine aq 1 ?_
    exact rf [2,3,4,7,12,13,14] [1,2,3] (j7 _ (ak h) :)
  have r6:∀r',y6=.inl r'→∀st,Mm (c_1,s_2,bO) r' st→Q st:=fun r' e st hq=>hr r' (hy61 r' e) st hq
  replace h:=hy6
  refine sp 22 h rfl ?_ ?_<;>intro h
  ·refine dk 1 [23] [.fn 120 [.iptr (I bO) 0]] ?_
   refine dy [68] [] (ah e5) rfl (aK rfl rfl) ?_
   refine dy [1] [] (.hp 1 0 [] 2 0 1) rfl (al rfl rfl rfl) ?_
   refine dy [1] [] (.isl false (c_1.Clauses.map ap)) rfl (aK rfl rfl) ?_
   refine dy [68] [] (.hp 68 0 [] 4 0 0) rfl (al rfl rfl rfl) ?_
   refine dy [68] [] (I e5.Clause) rfl (aK rfl rfl) ?_
   obtain⟨e9,he9,h⟩:=bS h
   refine dy [] [] (.iptr (ao e9) 0) rfl (aj rfl rfl rfl (aZ rfl rfl rfl rfl he9)) ?_
   refine dy [] [] (ao e9) rfl (aK rfl rfl) ?_
   obtain⟨r10,hr10,h⟩:=bS h
   refine dy [] [] (B r10) rfl (cP (abJ hr10)) ?_ (cm rfl rfl rfl rfl (aQ (bx rfl) (aQ (bx rfl) (aQ (bx rfl) cz))) (abJ hr10) (.inr rfl) rfl)
   refine dk 1 [32] [B r10] ?_
   refine de 340 rfl rfl ?_
   exact rf [2,3,4,7,8,12,13,14,32] [1,2,3] (j6 _ (ak h) :)
  ·refine dk 10 [32,31,30,29,28,27,26,25,24,23] [B false,.und,.und,.und,.und,.und,.und,.und,.und,.und] ?_
   refine de 340 rfl rfl ?_
   exact rf [2,3,4,7,8,12,13,14,32] [1,2,3] (j6 _ (ak h) :)
 ·refine aq 1 ?_
  exact rf [4,7] [2,3] (hn _ (ak h) :) (hk:=hK)
theorem acF (c_1:Contract)(s_2:State)(bO:Int)(r:(List Int))(h:NO c_1 s_2 bO=some r):bq Ic Tryz.f70 [false,false,false] 0 (Ml (c_1,s_2,bO)) (Mn r):=by
 show Run _ _ (Mm (c_1,s_2,bO) r) [.code abM] _
 refine rI 42 [(0,aa c_1),(1,ae s_2),(2,.fn 120 [.iptr (I bO) 0])] [] 1 ?_
 unfold NO at h
 refine ck 8 [3,4] [] [1,17] [] [.hp 1 0 [] 2 0 0,.hp 17 0 [] 5 0 0] [some ⟨0,2,[aa c_1]⟩,some ⟨0,5,[ae s_2]⟩] 49 (by kernel_rfl) ?_
 refine oq 65 (.hs 49 0 [] 1 0 0) rfl (eD rfl (kG (f:=I) (xs:=[]) (z:=I (0)) (es:=[]) (ws:=[]) rfl rfl rfl (by decide) rfl (dM rfl) rfl)) ?_
 refine cq 7 [7,12] [.hs 49 0 [] 1 0 0,.isl false (s_2.Duties.map ah)] 113 ?_
 refine oq 129 (I (len s_2.Duties)) rfl (bv rfl rfl rfl (bK rfl)) ?_
 refine cq 3 [14] [I (0)] 145 ?_
 obtain⟨y11,hy11,hy111,hy112⟩:=bJ h
 refine bP rfl ?_
 refine rf [2,3,4,7,12,13,14] [1,17,49] (Sc c_1 s_2 bO rfl (0,[]) _ hy11 (fun r' e st hq=>by rw[hy111 r' e] at hq;exact hq) fun u11 hu=>?_)
 replace h:=hy112 u11 hu
 refine cq 4 [38,39] [.hs 2 0 [] 1 0 (u11.map I).length,.fn 118 [.hp 1 0 [] 5 0 0]] 35 ?_
 obtain⟨r12,hr12,h⟩:=bS h
 obtain⟨g13,h⟩:=gG h
 refine oq 51 (.tup []) rfl (bR rfl rfl (cn rfl rfl rfl (kV (ki rfl (f8 (path:=[]) rfl rfl aU rfl)) (aQ (lE (dU (gW (path:=[]) rfl rfl aU rfl rfl) gL)) cz)) (Vy hr12) (.inl (by simp[cY,dH,str,pM (f:=I) yk])) (jj rfl rfl rfl rfl dT) rfl rfl rfl)) ?_
 try rw[iA (f:=I) (xs:=u11) (ys:=r12) g13]
 refine cq 6 [6] [.hs 2 0 [] 1 0 (r12.map I).length] 83 ?_
 obtain rfl:=sI h
 exact cu rfl ⟨_,fin (vs:=[.hs 2 0 [] 1 0 (r12.map I).length]) rfl (f9 (fZ rfl (dR rfl rfl)) eA) rfl (cQ (cQ (cQ ft))),fj⟩
theorem aab {G:bT}[TabG Tryz.prog G]:bQ G 70 JX:=gT 3 0 (aL Z9 (aL Kw bu)) bW Tryz.func70 (fun a r h=>acF a.1 a.2.1 a.2.2 r h)
def Mc:(Contract×State×Int)→List V:=cA aM (cA bA (oA I))
def Md (r:(List Int)):V×List V:=(.usl 1 (r.map I),[])
noncomputable def JU :=bb [false,false,false] Mc Md fun x=>QQ x.1 x.2.1 x.2.2
theorem abH {c_1:Contract}{s_2:State}{bn:Int}{r}(h:QQ c_1 s_2 bn=some r):JU.F (Mc (c_1,s_2,bn))=some (Md r):=aF (aJ aP (aJ bN (aG bi))) h
noncomputable def ag4 :=aD Tryz.f72
noncomputable def abG :=bV [(70,JX)]
def ag3 (x:Contract×State×Int)(r:(List Int)):St→Prop:=QF abG Tryz.f72 [false,false,false] (Mc x) (Md r)
theorem acB (c_1:Contract)(s_2:State)(bn:Int)(r:(List Int))(h:QQ c_1 s_2 bn=some r):bq abG Tryz.f72 [false,false,false] 0 (Mc (c_1,s_2,bn)) (Md r):=by
 show Run _ _ (ag3 (c_1,s_2,bn) r) [.code ag4] _
 refine rI 11 [(0,aa c_1),(1,ae s_2),(2,I bn)] [] 1 ?_
 unfold QQ at h
 refine ck 12 [7,8,9] [] [33] [] [aa c_1,ae s_2,.fn 120 [.hp 33 0 [] 1 0 0]] [some ⟨0,1,[I bn]⟩] 113 (by kernel_rfl) ?_
 obtain⟨r4,hr4,h⟩:=bS h
 refine oq 129 (.hs 113 0 [] 1 0 (r4.map I).length) rfl (bR rfl rfl (cn rfl rfl rfl (aQ (bx rfl) (aQ (bx rfl) (aQ (lE (dU (gW (path:=[]) rfl rfl aU rfl rfl) gL)) cz))) (aha hr4) (.inl (by simp[cY,dH,str,pM (f:=I) yk])) dT rfl rfl rfl)) ?_
 refine cq 2 [6] [.hs 113 0 [] 1 0 (r4.map I).length] 145 ?_
 obtain rfl:=sI h
 exact cu rfl ⟨_,fin (vs:=[.hs 113 0 [] 1 0 (r4.map I).length]) rfl (f9 (fZ rfl (dR rfl rfl)) eA) rfl (cQ (cQ (cQ ft))),fj⟩
theorem Z8 {G:bT}[TabG Tryz.prog G]:bQ G 72 JU:=gT 3 0 (aL aab bu) bW Tryz.func72 (fun a r h=>acB a.1 a.2.1 a.2.2 r h)
def L4:(Duty×Clause×Int)→List V:=cA ah (cA ap (oA (fun x:Int=>.iptr (I x) 0)))
def L5 (r:Bool):V×List V:=(B r,[])
noncomputable def JP :=bb [false,false,false] L4 L5 fun x=>QO x.1 x.2.1 x.2.2
theorem abA {d_1:Duty}{x_2:Clause}{a_3:Int}{r}(h:QO d_1 x_2 a_3=some r):JP.F (L4 (d_1,x_2,a_3))=some (L5 r):=aF (aJ eh (aJ dC (aG (i8 bi)))) h
noncomputable def agU :=aD Tryz.f121
noncomputable def abz :=bV []
def agT (x:Duty×Clause×Int)(r:Bool):St→Prop:=QF abz Tryz.f121 [false,false,false] (L4 x) (L5 r)
theorem acv (d_1:Duty)(x_2:Clause)(a_3:Int)(r:Bool)(h:QO d_1 x_2 a_3=some r):bq abz Tryz.f121 [false,false,false] 0 (L4 (d_1,x_2,a_3)) (L5 r):=by
 show Run _ _ (agT (d_1,x_2,a_3) r) [.code agU] _
 refine rI 10 [(0,ah d_1),(1,ao x_2),(2,.iptr (I a_3) 0)] [] 1 ?_
 unfold QO at h
 refine cq 14 [5] [B (x_2.Other==a_3)] 129 ?_
 obtain rfl:=sI h
 exact rP [B (x_2.Other==a_3)]
theorem Z3 {G:bT}[TabG Tryz.prog G]:bQ G 121 JP:=gT 3 0 bu bW Tryz.func121 (fun a r h=>acv a.1 a.2.1 a.2.2 r h)
def Mi:(Contract×State×Int)→List V:=cA aM (cA bA (oA (fun x:Int=>(.fn 121 [.iptr (I x) 0]:V))))
def Mk (r:(List Int)):V×List V:=(.usl 1 (r.map I),[])
noncomputable def JW :=bb [false,false,false] Mi Mk fun x=>NN x.1 x.2.1 x.2.2
theorem ag9 {c_1:Contract}{s_2:State}{bO:Int}{r}(h:NN c_1 s_2 bO=some r):JW.F (Mi (c_1,s_2,bO))=some (Mk r):=aF (aJ aP (aJ bN (aG (hP bi)))) h
noncomputable def abL :=aD Tryz.f70
noncomputable abbrev uW :=cL (cL (cR (cL (cR (cR abL)))))
noncomputable def Ia :=bV [(121,JP),(117,vE)]
def Mj (x:Contract×State×Int)(r:(List Int)):St→Prop:=QF Ia Tryz.f70 [false,false,false] (Mi x) (Mk r)
theorem Sb (c_1:Contract)(s_2:State)(bO:Int):cj Ia 0 (Mj (c_1,s_2,bO)) uW 0 (qs c_1 s_2 bO) (fun u=>(sT 42 [(4,.hp 1 0 [] 5 0 0),(7,.hs 2 0 [] 1 0 (u.map I).length)] [⟨0,5,[ae s_2]⟩,⟨0,1,u.map I⟩] 3)) fun x4=>(sT 42 [(2,.fn 121 [.iptr (I bO) 0]),(3,.hp 1 0 [] 2 0 0),(4,.hp 2 0 [] 5 0 0),(7,.hs 3 0 [] 1 0 (x4.2.map I).length),(12,.isl false (s_2.Duties.map ah)),(13,I (len s_2.Duties)),(14,I x4.1)] [⟨0,2,[aa c_1]⟩,⟨0,5,[ae s_2]⟩,⟨0,1,x4.2.map I⟩] 4):=ee (Ib c_1 s_2 bO) fun {Q K} hK self ih x4 y h hr hn=>by
 unfold nt at h
 refine cq 5 [15] [B (decide (x4.1<(len s_2.Duties)))] 20 ?_
 refine sq h ?_ ?_<;>intro h
 ·refine aq 1 ?_
  refine cq 5 [16] [I x4.1] 36 ?_
  obtain⟨e5,he5,h⟩:=bS h
  refine oq 52 (.iptr (ah e5) 0) rfl (aj rfl rfl rfl (aZ rfl rfl rfl rfl he5)) ?_
  refine ck 6 [8,9] [] [68] [] [I x4.1,.hp 68 0 [] 4 0 0] [some ⟨0,4,[ah e5]⟩] 116 (by kernel_rfl) ?_
  refine dt [0,1,3,7,15,15,15,79,15,271,975,1999,4095,8191] rfl (by decide +kernel) ?_
  refine dq [68] [] (.hp 68 0 [] 4 0 3) rfl (al rfl rfl rfl) ?_
  refine dq [68] [] (I e5.Status) rfl (aK rfl rfl) ?_
  refine dk 2 [22,21] [B (e5.Status==1),B (e5.Status==1)] ?_
  obtain⟨y6,hy6,hy61,hy62⟩:=bL h
  have j6:∀u6,y6=.inr u6→Run Ia 0 Q (.code (cR (cR (cL (cL (cR (cR uW))))))::.blk 1::.code (cR (cR (cR uW)))::.lp uW::.blk 0::K) (sT 42 [(2,.fn 121 [.iptr (I bO) 0]),(3,.hp 1 0 [] 2 0 0),(4,.hp 2 0 [] 5 0 0),(7,.hs 3 0 [] 1 0 (x4.2.map I).length),(8,I x4.1),(12,.isl false (s_2.Duties.map ah)),(13,I (len s_2.Duties)),(14,I x4.1),(32,B u6)] [⟨0,2,[aa c_1]⟩,⟨0,5,[ae s_2]⟩,⟨0,1,x4.2.map I⟩] 4):=by
   intro u6 hu
   replace h:=hy62 u6 hu
   obtain⟨y7,hy7,hy71,hy72⟩:=bL h
   have j7:∀u7,y7=.inr u7→Run Ia 0 Q (.blk 1::.code (cR (cR (cR uW)))::.lp uW::.blk 0::K) (sT 42 [(2,.fn 121 [.iptr (I bO) 0]),(3,.hp 1 0 [] 2 0 0),(4,.hp 2 0 [] 5 0 0),(7,.hs 3 0 [] 1 0 (u7.map I).length),(12,.isl false (s_2.Duties.map ah)),(13,I (len s_2.Duties)),(14,I x4.1)] [⟨0,2,[aa c_1]⟩,⟨0,5,[ae s_2]⟩,⟨0,1,u7.map I⟩] 4):=by
    intro u7 hu
    replace h:=hy72 u7 hu
    refine cq 5 [14] [I (ai (x4.1+1))] 36 ?_
    refine dh ?_
    exact rf [2,3,4,7,12,13,14] [1,2,3] (ih _ _ h hr hn :)
   have r7:∀r',y7=.inl r'→∀st,Mj (c_1,s_2,bO) r' st→Q st:=fun r' e st hq=>hr r' (hy71 r' e) st hq
   replace h:=hy7
   refine sq h ?_ ?_<;>intro h
   ·refine cq 3 [33,34] [.hs 3 0 [] 1 0 (x4.2.map I).length,I x4.1] 36 ?_
    refine oq 52 (.hs 36 0 [] 1 0 1) rfl (eD rfl (kG (f:=I) (xs:=[]) (z:=I (0)) (es:=[I x4.1]) (ws:=[I x4.1]) rfl rfl rfl (by decide) rfl (dM rfl) rfl)) ?_
    obtain⟨a8,ha8,h⟩:=bS h
    refine oq 68 (.hs 52 0 [] 1 0 (a8.map I).length) rfl (jJ rfl rfl rfl rfl rfl (mW (path:=[]) (f:=I) (xs:=x4.2) (ys:=[x4.1]) rfl rfl (rN rfl rfl rfl) rfl rfl rfl aU rfl (by decide) pD ha8 rfl qQ)) ?_
    refine cq 2 [7] [.hs 52 0 [] 1 0 (a8.map I).length] 84 ?_
    exact rf [2,3,4,7,12,13,14] [1,2,52] (j7 _ (ak h) :)
   ·refine aq 1 ?_
    exact rf [2,3,4,7,12,13,14] [1,2,3] (j7 _ (ak h) :)
  have r6:∀r',y6=.inl r'→∀st,Mj (c_1,s_2,bO) r' st→Q st:=fun r' e st hq=>hr r' (hy61 r' e) st hq
  replace h:=hy6
  refine sp 22 h rfl ?_ ?_<;>intro h
  ·refine dk 1 [23] [.fn 121 [.iptr (I bO) 0]] ?_
   refine dy [68] [] (ah e5) rfl (aK rfl rfl) ?_
   refine dy [1] [] (.hp 1 0 [] 2 0 1) rfl (al rfl rfl rfl) ?_
   refine dy [1] [] (.isl false (c_1.Clauses.map ap)) rfl (aK rfl rfl) ?_
   refine dy [68] [] (.hp 68 0 [] 4 0 0) rfl (al rfl rfl rfl) ?_
   refine dy [68] [] (I e5.Clause) rfl (aK rfl rfl) ?_
   obtain⟨e9,he9,h⟩:=bS h
   refine dy [] [] (.iptr (ao e9) 0) rfl (aj rfl rfl rfl (aZ rfl rfl rfl rfl he9)) ?_
   refine dy [] [] (ao e9) rfl (aK rfl rfl) ?_
   obtain⟨r10,hr10,h⟩:=bS h
   refine dy [] [] (B r10) rfl (cP (abA hr10)) ?_ (cm rfl rfl rfl rfl (aQ (bx rfl) (aQ (bx rfl) (aQ (bx rfl) cz))) (abA hr10) (.inr rfl) rfl)
   refine dk 1 [32] [B r10] ?_
   refine de 340 rfl rfl ?_
   exact rf [2,3,4,7,8,12,13,14,32] [1,2,3] (j6 _ (ak h) :)
  ·refine dk 10 [32,31,30,29,28,27,26,25,24,23] [B false,.und,.und,.und,.und,.und,.und,.und,.und,.und] ?_
   refine de 340 rfl rfl ?_
   exact rf [2,3,4,7,8,12,13,14,32] [1,2,3] (j6 _ (ak h) :)
 ·refine aq 1 ?_
  exact rf [4,7] [2,3] (hn _ (ak h) :) (hk:=hK)
theorem acE (c_1:Contract)(s_2:State)(bO:Int)(r:(List Int))(h:NN c_1 s_2 bO=some r):bq Ia Tryz.f70 [false,false,false] 0 (Mi (c_1,s_2,bO)) (Mk r):=by
 show Run _ _ (Mj (c_1,s_2,bO) r) [.code abL] _
 refine rI 42 [(0,aa c_1),(1,ae s_2),(2,.fn 121 [.iptr (I bO) 0])] [] 1 ?_
 unfold NN at h
 refine ck 8 [3,4] [] [1,17] [] [.hp 1 0 [] 2 0 0,.hp 17 0 [] 5 0 0] [some ⟨0,2,[aa c_1]⟩,some ⟨0,5,[ae s_2]⟩] 49 (by kernel_rfl) ?_
 refine oq 65 (.hs 49 0 [] 1 0 0) rfl (eD rfl (kG (f:=I) (xs:=[]) (z:=I (0)) (es:=[]) (ws:=[]) rfl rfl rfl (by decide) rfl (dM rfl) rfl)) ?_
 refine cq 7 [7,12] [.hs 49 0 [] 1 0 0,.isl false (s_2.Duties.map ah)] 113 ?_
 refine oq 129 (I (len s_2.Duties)) rfl (bv rfl rfl rfl (bK rfl)) ?_
 refine cq 3 [14] [I (0)] 145 ?_
 obtain⟨y11,hy11,hy111,hy112⟩:=bJ h
 refine bP rfl ?_
 refine rf [2,3,4,7,12,13,14] [1,17,49] (Sb c_1 s_2 bO rfl (0,[]) _ hy11 (fun r' e st hq=>by rw[hy111 r' e] at hq;exact hq) fun u11 hu=>?_)
 replace h:=hy112 u11 hu
 refine cq 4 [38,39] [.hs 2 0 [] 1 0 (u11.map I).length,.fn 118 [.hp 1 0 [] 5 0 0]] 35 ?_
 obtain⟨r12,hr12,h⟩:=bS h
 obtain⟨g13,h⟩:=gG h
 refine oq 51 (.tup []) rfl (bR rfl rfl (cn rfl rfl rfl (kV (ki rfl (f8 (path:=[]) rfl rfl aU rfl)) (aQ (lE (dU (gW (path:=[]) rfl rfl aU rfl rfl) gL)) cz)) (Vy hr12) (.inl (by simp[cY,dH,str,pM (f:=I) yk])) (jj rfl rfl rfl rfl dT) rfl rfl rfl)) ?_
 try rw[iA (f:=I) (xs:=u11) (ys:=r12) g13]
 refine cq 6 [6] [.hs 2 0 [] 1 0 (r12.map I).length] 83 ?_
 obtain rfl:=sI h
 exact cu rfl ⟨_,fin (vs:=[.hs 2 0 [] 1 0 (r12.map I).length]) rfl (f9 (fZ rfl (dR rfl rfl)) eA) rfl (cQ (cQ (cQ ft))),fj⟩
theorem aaa {G:bT}[TabG Tryz.prog G]:bQ G 70 JW:=gT 3 0 (aL Z3 (aL Kw bu)) bW Tryz.func70 (fun a r h=>acE a.1 a.2.1 a.2.2 r h)
def L1:(Contract×State×Int)→List V:=cA aM (cA bA (oA I))
def L3 (r:(List Int)):V×List V:=(.usl 1 (r.map I),[])
noncomputable def JO :=bb [false,false,false] L1 L3 fun x=>QN x.1 x.2.1 x.2.2
theorem aby {c_1:Contract}{s_2:State}{bn:Int}{r}(h:QN c_1 s_2 bn=some r):JO.F (L1 (c_1,s_2,bn))=some (L3 r):=aF (aJ aP (aJ bN (aG bi))) h
noncomputable def agS :=aD Tryz.f74
noncomputable def abx :=bV [(70,JW)]
def agR (x:Contract×State×Int)(r:(List Int)):St→Prop:=QF abx Tryz.f74 [false,false,false] (L1 x) (L3 r)
theorem acu (c_1:Contract)(s_2:State)(bn:Int)(r:(List Int))(h:QN c_1 s_2 bn=some r):bq abx Tryz.f74 [false,false,false] 0 (L1 (c_1,s_2,bn)) (L3 r):=by
 show Run _ _ (agR (c_1,s_2,bn) r) [.code agS] _
 refine rI 11 [(0,aa c_1),(1,ae s_2),(2,I bn)] [] 1 ?_
 unfold QN at h
 refine ck 12 [7,8,9] [] [33] [] [aa c_1,ae s_2,.fn 121 [.hp 33 0 [] 1 0 0]] [some ⟨0,1,[I bn]⟩] 113 (by kernel_rfl) ?_
 obtain⟨r4,hr4,h⟩:=bS h
 refine oq 129 (.hs 113 0 [] 1 0 (r4.map I).length) rfl (bR rfl rfl (cn rfl rfl rfl (aQ (bx rfl) (aQ (bx rfl) (aQ (lE (dU (gW (path:=[]) rfl rfl aU rfl rfl) gL)) cz))) (ag9 hr4) (.inl (by simp[cY,dH,str,pM (f:=I) yk])) dT rfl rfl rfl)) ?_
 refine cq 2 [6] [.hs 113 0 [] 1 0 (r4.map I).length] 145 ?_
 obtain rfl:=sI h
 exact cu rfl ⟨_,fin (vs:=[.hs 113 0 [] 1 0 (r4.map I).length]) rfl (f9 (fZ rfl (dR rfl rfl)) eA) rfl (cQ (cQ (cQ ft))),fj⟩
theorem Z2 {G:bT}[TabG Tryz.prog G]:bQ G 74 JO:=gT 3 0 (aL aaa bu) bW Tryz.func74 (fun a r h=>acu a.1 a.2.1 a.2.2 r h)
def Qw:Shelf.Ren:=⟨fun | 171=>131 | 243=>167 | 246=>189 | 283=>201 | 284=>202 | 285=>203 | 286=>204 | 129=>215 | 317=>222 | 318=>223 | 319=>224 | 320=>225 | 337=>234 | 338=>235 | n=>n,fun | 3=>3 | 9=>9 | 2=>2 | 4=>4 | 171=>180 | 0=>0 | 53=>181 | 37=>147 | 5=>5 | 173=>184 | 212=>197 | 51=>195 | 20=>20 | 213=>198 | 46=>158 | 232=>214 | 233=>215 | n=>n,fun | 17=>1 | 18=>4 | 19=>5 | n=>n⟩
theorem adD:Go.Proofs.LaysM.n171 Tryz.prog Qw where
 mixed:=by kernel_rfl
 f129:=Tryz.func215.trans (congrArg some (by kernel_rfl))
 f171:=Tryz.func131.trans (congrArg some (by kernel_rfl))
 f243:=Tryz.func167.trans (congrArg some (by kernel_rfl))
 f246:=Tryz.func189.trans (congrArg some (by kernel_rfl))
 f283:=Tryz.func201.trans (congrArg some (by kernel_rfl))
 f284:=Tryz.func202.trans (congrArg some (by kernel_rfl))
 f285:=Tryz.func203.trans (congrArg some (by kernel_rfl))
 f286:=Tryz.func204.trans (congrArg some (by kernel_rfl))
 f317:=Tryz.func222.trans (congrArg some (by kernel_rfl))
 f318:=Tryz.func223.trans (congrArg some (by kernel_rfl))
 f319:=Tryz.func224.trans (congrArg some (by kernel_rfl))
 f320:=Tryz.func225.trans (congrArg some (by kernel_rfl))
 f337:=Tryz.func234.trans (congrArg some (by kernel_rfl))
 f338:=Tryz.func235.trans (congrArg some (by kernel_rfl))
 t0:=Tryz.underlying0
 a0:=Tryz.isAgg0
 z0:=Tryz.sizeOf0
 v0:=Tryz.zeroValue0
 t2:=Tryz.underlying2
 a2:=Tryz.isAgg2
 z2:=Tryz.sizeOf2
 v2:=Tryz.zeroValue2
 t3:=Tryz.underlying3
 a3:=Tryz.isAgg3
 z3:=Tryz.sizeOf3
 v3:=Tryz.zeroValue3
 t4:=Tryz.underlying4
 a4:=Tryz.isAgg4
 z4:=Tryz.sizeOf4
 v4:=Tryz.zeroValue4
 t5:=Tryz.underlying5
 a5:=Tryz.isAgg5
 z5:=Tryz.sizeOf5
 v5:=Tryz.zeroValue5
 t9:=Tryz.underlying9
 a9:=Tryz.isAgg9
 z9:=Tryz.sizeOf9
 v9:=Tryz.zeroValue9
 t20:=Tryz.underlying20
 a20:=Tryz.isAgg20
 z20:=Tryz.sizeOf20
 v20:=Tryz.zeroValue20
 t37:=Tryz.underlying147
 a37:=Tryz.isAgg147
 z37:=Tryz.sizeOf147
 v37:=Tryz.zeroValue147
 t46:=Tryz.underlying158
 a46:=Tryz.isAgg158
 z46:=Tryz.sizeOf158
 v46:=Tryz.zeroValue158
 t51:=Tryz.underlying195
 a51:=Tryz.isAgg195
 z51:=Tryz.sizeOf195
 v51:=Tryz.zeroValue195
 t53:=Tryz.underlying181
 a53:=Tryz.isAgg181
 z53:=Tryz.sizeOf181
 v53:=Tryz.zeroValue181
 t171:=Tryz.underlying180
 a171:=Tryz.isAgg180
 z171:=Tryz.sizeOf180
 v171:=Tryz.zeroValue180
 t173:=Tryz.underlying184
 a173:=Tryz.isAgg184
 z173:=Tryz.sizeOf184
 v173:=Tryz.zeroValue184
 t212:=Tryz.underlying197
 a212:=Tryz.isAgg197
 z212:=Tryz.sizeOf197
 v212:=Tryz.zeroValue197
 t213:=Tryz.underlying198
 a213:=Tryz.isAgg198
 z213:=Tryz.sizeOf198
 t232:=Tryz.underlying214
 a232:=Tryz.isAgg214
 z232:=Tryz.sizeOf214
 v232:=Tryz.zeroValue214
 t233:=Tryz.underlying215
 a233:=Tryz.isAgg215
 z233:=Tryz.sizeOf215
 v233:=Tryz.zeroValue215
 g17:=by kernel_rfl
 g18:=by kernel_rfl
 g19:=by kernel_rfl
 i0:=by kernel_rfl
 i2:=by kernel_rfl
 i3:=by kernel_rfl
 i4:=by kernel_rfl
 i5:=by kernel_rfl
 i9:=by kernel_rfl
 i20:=by kernel_rfl
 i37:=by kernel_rfl
 i46:=by kernel_rfl
 i51:=by kernel_rfl
 i53:=by kernel_rfl
 i171:=by kernel_rfl
 i173:=by kernel_rfl
 i212:=by kernel_rfl
 i232:=by kernel_rfl
 i233:=by kernel_rfl
 m17:=by kernel_rfl
 m18:=by kernel_rfl
 m19:=by kernel_rfl
noncomputable def qK :=bb [false] (oA I) (fun r=>(str r,[])) rA
theorem Kr {n:Int}{r}(h:rA n=some r):qK.F [I n]=some (str r,[]):=aF (ea:=oA I) (aG bi) h
theorem wG {G:bT}[TabG Tryz.prog G]:bQ G 131 qK:=Xh adD
def Ma:Int→List V:=oA I
def Mb (r:ac):V×List V:=(str r,[])
noncomputable def JT :=bb [false] Ma Mb fun x=>QP x
theorem abF {n_1:Int}{r}(h:QP n_1=some r):JT.F (Ma n_1)=some (Mb r):=aF (aG bi) h
noncomputable def ag2 :=aD Tryz.f86
noncomputable def abE :=bV [(131,qK)]
def ag1 (x:Int)(r:ac):St→Prop:=QF abE Tryz.f86 [false] (Ma x) (Mb r)
theorem acA (n_1:Int)(r:ac)(h:QP n_1=some r):bq abE Tryz.f86 [false] 0 (Ma n_1) (Mb r):=by
 show Run _ _ (ag1 n_1 r) [.code ag2] _
 refine rI 5 [(0,I n_1)] [] 1 ?_
 unfold QP at h
 refine cq 7 [3] [I n_1] 33 ?_
 obtain⟨r2,hr2,h⟩:=bS h
 refine oq 49 (str r2) rfl (cP (Kr hr2)) ?_
 refine cq 2 [2] [str r2] 65 ?_
 obtain rfl:=sI h
 exact rP [str r2]
theorem Z7 {G:bT}[TabG Tryz.prog G]:bQ G 86 JT:=gT 1 0 (aL wG bu) bW Tryz.func86 (fun a r h=>acA a r h)
def LW:(Contract×State×(List Int))→List V:=cA aM (cA bA (oA (fM I)))
def LX (r:Int):V×List V:=(I r,[])
noncomputable def JM :=bb [false,false,false] LW LX fun x=>KG x.1 x.2.1 x.2.2
theorem abu {c_1:Contract}{s_2:State}{d6:List Int}{r}(h:KG c_1 s_2 d6=some r):JM.F (LW (c_1,s_2,d6))=some (LX r):=aF (aJ aP (aJ bN (aG (b7 bi)))) h
noncomputable def abw :=aD Tryz.f69
noncomputable def R5 :=bV []
def abv (x:Contract×State×(List Int))(r:Int):St→Prop:=QF R5 Tryz.f69 [false,false,false] (LW x) (LX r)
theorem R7 (c_1:Contract)(s_2:State)(d6:List Int):cj R5 0 (abv (c_1,s_2,d6)) (cL (cL (cR (cL (cR (cR abw)))))) 0 (NK c_1 s_2 d6) (fun u=>(sT 31 [(7,I u)] [] 1)) fun x4=>(sT 31 [(3,.hp 1 0 [] 2 0 0),(4,.hp 2 0 [] 5 0 0),(7,I x4.1),(10,.isl false (d6.map I)),(11,I (len d6)),(12,I x4.2)] [⟨0,2,[aa c_1]⟩,⟨0,5,[ae s_2]⟩] 3):=ee (R6 c_1 s_2 d6) fun {Q K} hK self ih x4 y h hr hn=>by
 unfold vW at h
 refine cq 5 [13] [B (decide (x4.2<(len d6)))] 19 ?_
 refine sq h ?_ ?_<;>intro h
 ·refine aq 1 ?_
  refine aq 4 ?_
  obtain⟨e5,he5,h⟩:=bS h
  refine oq 35 (.iptr (I e5) 0) rfl (aj rfl rfl rfl (aZ rfl rfl rfl rfl he5)) ?_
  refine cq 3 [9] [I e5] 67 ?_
  refine dt [0,0,2,0,8,0,56,120,248,510,1022,2046,4095,8191] rfl (by decide +kernel) ?_
  refine dk 1 [16] [I x4.1] ?_
  refine dq [1] [] (.hp 1 0 [] 2 0 1) rfl (al rfl rfl rfl) ?_
  refine dq [1] [] (.isl false (c_1.Clauses.map ap)) rfl (aK rfl rfl) ?_
  refine dq [2] [] (.hp 2 0 [] 5 0 2) rfl (al rfl rfl rfl) ?_
  refine dq [2] [] (.isl false (s_2.Duties.map ah)) rfl (aK rfl rfl) ?_
  refine dk 1 [21] [I e5] ?_
  obtain⟨e6,he6,h⟩:=bS h
  refine dq [] [] (.iptr (ah e6) 0) rfl (aj rfl rfl rfl (aZ rfl rfl rfl rfl he6)) ?_
  refine dq [] [] (.iptr (ah e6) 0) rfl (al rfl rfl rfl) ?_
  refine dq [] [] (I e6.Clause) rfl (aK rfl rfl) ?_
  obtain⟨e7,he7,h⟩:=bS h
  refine dq [] [] (.iptr (ao e7) 0) rfl (aj rfl rfl rfl (aZ rfl rfl rfl rfl he7)) ?_
  refine dq [] [] (.iptr (ao e7) 5) rfl (al rfl rfl rfl) ?_
  refine dq [] [] (I e7.Amount) rfl (aK rfl rfl) ?_
  refine dk 2 [7,28] [I (ai (x4.1+e7.Amount)),I (ai (x4.1+e7.Amount))] ?_
  refine de 291 rfl rfl ?_
  refine cq 5 [12] [I (ai (x4.2+1))] 323 ?_
  refine dh ?_
  exact rf [3,4,7,10,11,12] [1,2] (ih _ _ h hr hn :)
 ·refine aq 1 ?_
  exact rf [7] [] (hn _ (ak h) :) (hk:=hK)
theorem acr (c_1:Contract)(s_2:State)(d6:List Int)(r:Int)(h:KG c_1 s_2 d6=some r):bq R5 Tryz.f69 [false,false,false] 0 (LW (c_1,s_2,d6)) (LX r):=by
 show Run _ _ (abv (c_1,s_2,d6) r) [.code abw] _
 refine rI 31 [(0,aa c_1),(1,ae s_2),(2,.isl false (d6.map I))] [] 1 ?_
 unfold KG at h
 refine ck 14 [3,4,7,10] [] [1,17] [] [.hp 1 0 [] 2 0 0,.hp 17 0 [] 5 0 0,I (0),.isl false (d6.map I)] [some ⟨0,2,[aa c_1]⟩,some ⟨0,5,[ae s_2]⟩] 81 (by kernel_rfl) ?_
 refine oq 97 (I (len d6)) rfl (bv rfl rfl rfl (bK rfl)) ?_
 refine cq 3 [12] [I (0)] 113 ?_
 obtain⟨y8,hy8,hy81,hy82⟩:=bJ h
 refine bP rfl ?_
 refine rf [3,4,7,10,11,12] [1,17] (R7 c_1 s_2 d6 rfl (0,0) _ hy8 (fun r' e st hq=>by rw[hy81 r' e] at hq;exact hq) fun u8 hu=>?_)
 replace h:=hy82 u8 hu
 refine cq 5 [6] [I u8] 33 ?_
 obtain rfl:=sI h
 exact rP [I u8]
theorem Z0 {G:bT}[TabG Tryz.prog G]:bQ G 69 JM:=gT 3 0 bu bW Tryz.func69 (fun a r h=>acr a.1 a.2.1 a.2.2 r h)
def qd:Int→List V:=oA I
def qe (r:Int):V×List V:=(I r,[])
noncomputable def qN :=bb [false] qd qe fun x=>jB x
theorem Br {n_1:Int}{r}(h:jB n_1=some r):qN.F (qd n_1)=some (qe r):=aF (aG bi) h
noncomputable def Qj :=aD Tryz.f132
noncomputable def Bq :=bV []
def Qi (x:Int)(r:Int):St→Prop:=QF Bq Tryz.f132 [false] (qd x) (qe r)
theorem Ls (n_1:Int)(r:Int)(h:jB n_1=some r):bq Bq Tryz.f132 [false] 0 (qd n_1) (qe r):=by
 show Run _ _ (Qi n_1 r) [.code Qj] _
 refine rI 7 [(0,I n_1)] [] 1 ?_
 unfold jB at h
 refine cq 12 [2] [I (if (ai (0 - n_1))>n_1 then (ai (0 - n_1)) else n_1)] 97 ?_
 obtain rfl:=sI h
 exact rP [I (if (ai (0 - n_1))>n_1 then (ai (0 - n_1)) else n_1)]
theorem Ka {G:bT}[TabG Tryz.prog G]:bQ G 132 qN:=gT 1 0 bu bW Tryz.func132 (fun a r h=>Ls a r h)
def EG:(Int×Int)→List V:=cA I (oA I)
def EH (r:ac):V×List V:=(str r,[])
noncomputable def B1 :=bb [false,false] EG EH fun x=>B0 x.1 x.2
theorem ad2 {n_1:Int}{dY:Int}{r}(h:B0 n_1 dY=some r):B1.F (EG (n_1,dY))=some (EH r):=aF (aJ bi (aG bi)) h
noncomputable def Tt :=aD Tryz.f133
noncomputable def MD :=bV [(131,qK)]
def Ts (x:Int×Int)(r:ac):St→Prop:=QF MD Tryz.f133 [false,false] (EG x) (EH r)
theorem Pe (n_1:Int)(dY:Int):cj MD 0 (Ts (n_1,dY)) (cL (cL (cL (cR (cR Tt))))) 0 (tT n_1 dY) (fun u=>(sT 15 [(5,str u)] [] 1)) fun x4=>(sT 15 [(1,I dY),(5,str x4)] [] 1):=ee (zX n_1 dY) fun {Q K} hK self ih x4 y h hr hn=>by
 unfold lL at h
 refine cq 8 [11] [B (decide ((len x4)<dY))] 65 ?_
 refine sq h ?_ ?_<;>intro h
 ·refine aq 1 ?_
  refine cq 3 [12] [str x4] 81 ?_
  obtain⟨s5,hs5,h⟩:=bS h
  refine oq 97 (str s5) rfl (fG rfl rfl (fD hs5)) ?_
  refine cq 3 [5] [str s5] 113 ?_
  refine dh ?_
  exact rf [1,5] [] (ih _ _ h hr hn :)
 ·refine aq 1 ?_
  exact rf [5] [] (hn _ (ak h) :) (hk:=hK)
theorem Yk (n_1:Int)(dY:Int)(r:ac)(h:B0 n_1 dY=some r):bq MD Tryz.f133 [false,false] 0 (EG (n_1,dY)) (EH r):=by
 show Run _ _ (Ts (n_1,dY) r) [.code Tt] _
 refine rI 15 [(0,I n_1),(1,I dY)] [] 1 ?_
 unfold B0 at h
 refine cq 7 [6] [I n_1] 33 ?_
 obtain⟨r3,hr3,h⟩:=bS h
 refine oq 49 (str r3) rfl (cP (Kr hr3)) ?_
 refine cq 4 [5] [str r3] 65 ?_
 obtain⟨y6,hy6,hy61,hy62⟩:=bJ h
 refine bP rfl ?_
 refine rf [1,5] [] (Pe n_1 dY rfl r3 _ hy6 (fun r' e st hq=>by rw[hy61 r' e] at hq;exact hq) fun u6 hu=>?_)
 replace h:=hy62 u6 hu
 refine cq 5 [4] [str u6] 33 ?_
 obtain rfl:=sI h
 exact rP [str u6]
theorem Tu {G:bT}[TabG Tryz.prog G]:bQ G 133 B1:=gT 2 0 (aL wG bu) bW Tryz.func133 (fun a r h=>Yk a.1 a.2 r h)
def LT:Int→List V:=oA I
def LV (r:ac):V×List V:=(str r,[])
noncomputable def zu :=bb [false] LT LV fun x=>H3 x
theorem LU {x_1:Int}{r}(h:H3 x_1=some r):zu.F (LT x_1)=some (LV r):=aF (aG bi) h
noncomputable def abt :=aD Tryz.f87
noncomputable def R4 :=bV [(132,qN),(131,qK),(133,B1)]
def abr (x:Int)(r:ac):St→Prop:=QF R4 Tryz.f87 [false] (LT x) (LV r)
theorem acq (x_1:Int)(r:ac)(h:H3 x_1=some r):bq R4 Tryz.f87 [false] 0 (LT x_1) (LV r):=by
 show Run _ _ (abr x_1 r) [.code abt] _
 refine rI 18 [(0,I x_1)] [] 1 ?_
 unfold H3 at h
 refine cq 14 [3,5] [str ([]:ac),B (decide (x_1<0))] 65 ?_
 obtain⟨u2,hu2,h⟩:=lJ h
 have j2:Run R4 0 (abr x_1 r) (.code (cR (cR (cR abt)))::[]) (sT 18 [(0,I x_1),(3,str u2)] [] 1):=by
  refine cq 4 [6,7] [str u2,I x_1] 33 ?_
  obtain⟨r3,hr3,h⟩:=bS h
  refine oq 49 (I r3) rfl (cP (Br hr3)) ?_
  refine cq 1 [9] [I (ai (r3.tdiv 100))] 65 ?_
  obtain⟨r4,hr4,h⟩:=bS h
  refine oq 81 (str r4) rfl (cP (Kr hr4)) ?_
  obtain⟨s5,hs5,h⟩:=bS h
  refine oq 97 (str s5) rfl (fG rfl rfl (fD hs5)) ?_
  obtain⟨s6,hs6,h⟩:=bS h
  refine oq 113 (str s6) rfl (fG rfl rfl (fD hs6)) ?_
  refine cq 1 [13] [I x_1] 129 ?_
  obtain⟨r7,hr7,h⟩:=bS h
  refine oq 145 (I r7) rfl (cP (Br hr7)) ?_
  refine cq 1 [15] [I (r7.tmod 100)] 161 ?_
  obtain⟨r8,hr8,h⟩:=bS h
  refine oq 177 (str r8) rfl (cP (ad2 hr8)) ?_
  obtain⟨s9,hs9,h⟩:=bS h
  refine oq 193 (str s9) rfl (fG rfl rfl (fD hs9)) ?_
  refine cq 2 [2] [str s9] 209 ?_
  obtain rfl:=sI h
  exact rP [str s9]
 replace h:=hu2
 clear hu2
 refine qS h rfl rfl ?_ ?_<;>intro h
 ·refine cq 3 [3] [str ([45]:ac)] 81 ?_
  subst h
  exact rf [0,3] [] (j2 :)
 ·refine aq 1 ?_
  subst h
  exact rf [0,3] [] (j2 :)
theorem NJ {G:bT}[TabG Tryz.prog G]:bQ G 87 zu:=gT 1 0 (aL Ka (aL wG (aL Tu bu))) bW Tryz.func87 (fun a r h=>acq a r h)
def LP:((List Int)×Contract×State)→List V:=cA (fM I) (cA (fun x:Contract=>.iptr (aM x) 0) (oA (fun x:State=>.iptr (bA x) 0)))
def LR (r:ac):V×List V:=(str r,[])
noncomputable def JK :=bb [false,false,false] LP LR fun x=>KE x.1 x.2.1 x.2.2
theorem LQ {an:List Int}{a_2:Contract}{a_3:State}{r}(h:KE an a_2 a_3=some r):JK.F (LP (an,a_2,a_3))=some (LR r):=aF (aJ (b7 bi) (aJ (i8 aP) (aG (i8 bN)))) h
noncomputable def agP :=aD Tryz.f85
noncomputable def abp :=bV [(86,JT),(69,JM),(87,zu)]
def agO (x:(List Int)×Contract×State)(r:ac):St→Prop:=QF abp Tryz.f85 [false,false,false] (LP x) (LR r)
theorem acn (an:List Int)(a_2:Contract)(a_3:State)(r:ac)(h:KE an a_2 a_3=some r):bq abp Tryz.f85 [false,false,false] 0 (LP (an,a_2,a_3)) (LR r):=by
 show Run _ _ (agO (an,a_2,a_3) r) [.code agP] _
 refine rI 16 [(0,.isl false (an.map I)),(1,.iptr (aa a_2) 0),(2,.iptr (ae a_3) 0)] [] 1 ?_
 unfold KE at h
 refine cq 5 [] [] 17 ?_
 refine dt [0,1,3,7,0,0,0,119,247,511,1023,2047] rfl (by decide +kernel) ?_
 refine dk 1 [5] [.isl false (an.map I)] ?_
 refine dq [] [] (I (len an)) rfl (bv rfl rfl rfl (bK rfl)) ?_
 obtain⟨r4,hr4,h⟩:=bS h
 refine dq [] [] (str r4) rfl (cP (abF hr4)) ?_ (cm rfl rfl rfl rfl (aQ (bx rfl) cz) (abF hr4) (.inr rfl) rfl)
 obtain⟨s5,hs5,h⟩:=bS h
 refine dq [] [] (str s5) rfl (fG rfl rfl (fD hs5)) ?_
 refine dq [] [] (aa a_2) rfl (aK rfl rfl) ?_
 refine dq [] [] (ae a_3) rfl (aK rfl rfl) ?_
 refine dk 1 [11] [.isl false (an.map I)] ?_
 obtain⟨r6,hr6,h⟩:=bS h
 refine dq [] [] (I r6) rfl (cP (abu hr6)) ?_ (cm rfl rfl rfl rfl (aQ (bx rfl) (aQ (bx rfl) (aQ (bx rfl) cz))) (abu hr6) (.inr rfl) rfl)
 obtain⟨r7,hr7,h⟩:=bS h
 refine dq [] [] (str r7) rfl (cP (LU hr7)) ?_ (cm rfl rfl rfl rfl (aQ (bx rfl) cz) (LU hr7) (.inr rfl) rfl)
 obtain⟨s8,hs8,h⟩:=bS h
 refine dq [] [] (str s8) rfl (fG rfl rfl (fD hs8)) ?_
 obtain⟨s9,hs9,h⟩:=bS h
 refine dq [] [] (str s9) rfl (fG rfl rfl (fD hs9)) ?_
 refine dk 1 [4] [str s9] ?_
 refine de 209 rfl rfl ?_
 obtain rfl:=sI h
 exact rP [str s9]
theorem ZY {G:bT}[TabG Tryz.prog G]:bQ G 85 JK:=gT 3 0 (aL Z7 (aL Z0 (aL NJ bu))) bW Tryz.func85 (fun a r h=>acn a.1 a.2.1 a.2.2 r h)
def LN:(Contract×State×Int)→List V:=cA aM (cA bA (oA I))
def LO (r:ac×Bool):V×List V:=(.tup [str r.1,B r.2],[])
noncomputable def JJ :=bb [false,false,false] LN LO fun x=>NI x.1 x.2.1 x.2.2
theorem agL {c_1:Contract}{s_2:State}{bn:Int}{r}(h:NI c_1 s_2 bn=some r):JJ.F (LN (c_1,s_2,bn))=some (LO r):=aF (aJ aP (aJ bN (aG bi))) h
noncomputable def agN :=aD Tryz.f40
noncomputable def abo :=bV [(68,BS),(72,JU),(74,JO),(85,JK),(87,zu)]
def agM (x:Contract×State×Int)(r:ac×Bool):St→Prop:=QF abo Tryz.f40 [false,false,false] (LN x) (LO r)
theorem acm (c_1:Contract)(s_2:State)(bn:Int)(r:ac×Bool)(h:NI c_1 s_2 bn=some r):bq abo Tryz.f40 [false,false,false] 0 (LN (c_1,s_2,bn)) (LO r):=by
 show Run _ _ (agM (c_1,s_2,bn) r) [.code agN] _
 refine rI 49 [(0,aa c_1),(1,ae s_2),(2,I bn)] [] 1 ?_
 unfold NI at h
 refine ck 13 [3,4,11,12,13] [] [1,17] [] [.hp 1 0 [] 2 0 0,.hp 17 0 [] 5 0 0,aa c_1,ae s_2,I bn] [some ⟨0,2,[aa c_1]⟩,some ⟨0,5,[ae s_2]⟩] 113 (by kernel_rfl) ?_
 refine oq 129 (.hs 113 0 [] 1 0 1) rfl (eD rfl (kG (f:=I) (xs:=[]) (z:=I (0)) (es:=[I bn]) (ws:=[I bn]) rfl rfl rfl (by decide) rfl (dM rfl) rfl)) ?_
 obtain⟨r4,hr4,h⟩:=bS h
 refine oq 145 (B r4) rfl (bR rfl rfl (cn rfl rfl rfl (aQ (bx rfl) (aQ (bx rfl) (aQ (oC rfl rfl (ew (f:=I) (g:=I) (xs:=[bn]) rfl rfl (ci jw))) cz))) (adS hr4) (.inl rfl) dT rfl rfl rfl)) ?_
 refine cq 2 [16] [B (!r4)] 161 ?_
 refine sq h ?_ ?_<;>intro h
 ·refine cq 5 [6,7] [str ([]:ac),B false] 193 ?_
  obtain rfl:=sI h
  exact rP [str ([]:ac),B false]
 ·refine aq 1 ?_
  refine aq 1 ?_
  refine dt [0,0,0,7,0,0,0,127,255,511] rfl (by decide +kernel) ?_
  refine dq [1] [] (aa c_1) rfl (aK rfl rfl) ?_
  refine dq [17] [] (ae s_2) rfl (aK rfl rfl) ?_
  refine dk 1 [19] [I bn] ?_
  obtain⟨r5,hr5,h⟩:=bS h
  refine dq [] [] (.hs 209 0 [] 1 0 (r5.map I).length) rfl (cP (abH hr5)) ?_ (cm rfl rfl rfl rfl (aQ (bx rfl) (aQ (bx rfl) (aQ (bx rfl) cz))) (abH hr5) (.inr rfl) rfl)
  refine dq [1] [] (aa c_1) rfl (aK rfl rfl) ?_
  refine dq [17] [] (ae s_2) rfl (aK rfl rfl) ?_
  refine dk 1 [23] [I bn] ?_
  obtain⟨r6,hr6,h⟩:=bS h
  refine dq [] [] (.hs 273 0 [] 1 0 (r6.map I).length) rfl (cP (aby hr6)) ?_ (cm rfl rfl rfl rfl (aQ (bx rfl) (aQ (bx rfl) (aQ (bx rfl) cz))) (aby hr6) (.inr rfl) rfl)
  refine dk 2 [9,8] [.hs 273 0 [] 1 0 (r6.map I).length,.hs 209 0 [] 1 0 (r5.map I).length] ?_
  refine de 321 rfl rfl ?_
  refine cq 6 [10] [.fn 85 [.hp 1 0 [] 2 0 0,.hp 17 0 [] 5 0 0]] 353 ?_
  refine dt [0,1,0,7,15,31,0,0,192,511,1023,0,0,6592,16383,32767,0,65536,0,458752,983040,2046400,4194303,8388607,16777215] rfl (by decide +kernel) ?_
  refine dq [1] [] (.hp 1 0 [] 2 0 0) rfl (al rfl rfl rfl) ?_
  refine dq [1] [] (.isl false (c_1.Parties.map str)) rfl (aK rfl rfl) ?_
  refine dk 1 [28] [I bn] ?_
  obtain⟨e7,he7,h⟩:=bS h
  refine dq [] [] (.iptr (str e7) 0) rfl (aj rfl rfl rfl (aZ rfl rfl rfl rfl he7)) ?_
  refine dq [] [] (str e7) rfl (aK rfl rfl) ?_
  obtain⟨s8,hs8,h⟩:=bS h
  refine dq [] [] (str s8) rfl (fG rfl rfl (fD hs8)) ?_
  refine dk 2 [33,32] [.hs 209 0 [] 1 0 (r5.map I).length,.fn 85 [.hp 1 0 [] 2 0 0,.hp 17 0 [] 5 0 0]] ?_
  obtain⟨r9,hr9,h⟩:=bS h
  refine dq [1,17,209] [] (str r9) rfl (bR rfl rfl (cn rfl rfl rfl (aQ (oC rfl rfl (ew (f:=I) (g:=I) (xs:=r5) rfl rfl (ci jw))) (aQ (oC rfl rfl (gW (path:=[]) rfl rfl aU rfl rfl)) (aQ (oC rfl rfl (gW (path:=[]) rfl rfl aU rfl rfl)) cz))) (LQ hr9) (.inl rfl) dT rfl rfl rfl)) ?_ (cm rfl rfl rfl rfl (aQ (oC rfl rfl (ew (f:=I) (g:=I) (xs:=r5) rfl rfl (ci jw))) (aQ (oC rfl rfl (gW (path:=[]) rfl rfl aU rfl rfl)) (aQ (oC rfl rfl (gW (path:=[]) rfl rfl aU rfl rfl)) cz))) (by exact LQ hr9) (by exact (.inl rfl)) rfl)
  obtain⟨s10,hs10,h⟩:=bS h
  refine dq [] [] (str s10) rfl (fG rfl rfl (fD hs10)) ?_
  obtain⟨s11,hs11,h⟩:=bS h
  refine dq [] [] (str s11) rfl (fG rfl rfl (fD hs11)) ?_
  refine dk 2 [38,37] [.hs 273 0 [] 1 0 (r6.map I).length,.fn 85 [.hp 1 0 [] 2 0 0,.hp 17 0 [] 5 0 0]] ?_
  obtain⟨r12,hr12,h⟩:=bS h
  refine dq [1,17,273] [] (str r12) rfl (bR rfl rfl (cn rfl rfl rfl (aQ (oC rfl rfl (ew (f:=I) (g:=I) (xs:=r6) rfl rfl (ci jw))) (aQ (oC rfl rfl (gW (path:=[]) rfl rfl aU rfl rfl)) (aQ (oC rfl rfl (gW (path:=[]) rfl rfl aU rfl rfl)) cz))) (LQ hr12) (.inl rfl) dT rfl rfl rfl)) ?_ (cm rfl rfl rfl rfl (aQ (oC rfl rfl (ew (f:=I) (g:=I) (xs:=r6) rfl rfl (ci jw))) (aQ (oC rfl rfl (gW (path:=[]) rfl rfl aU rfl rfl)) (aQ (oC rfl rfl (gW (path:=[]) rfl rfl aU rfl rfl)) cz))) (by exact LQ hr12) (by exact (.inl rfl)) rfl)
  obtain⟨s13,hs13,h⟩:=bS h
  refine dq [] [] (str s13) rfl (fG rfl rfl (fD hs13)) ?_
  obtain⟨s14,hs14,h⟩:=bS h
  refine dq [] [] (str s14) rfl (fG rfl rfl (fD hs14)) ?_
  refine dq [17] [] (.hp 17 0 [] 5 0 3) rfl (al rfl rfl rfl) ?_
  refine dq [17] [] (.isl false (s_2.Balances.map I)) rfl (aK rfl rfl) ?_
  refine dk 1 [44] [I bn] ?_
  obtain⟨e15,he15,h⟩:=bS h
  refine dq [] [] (.iptr (I e15) 0) rfl (aj rfl rfl rfl (aZ rfl rfl rfl rfl he15)) ?_
  refine dq [] [] (I e15) rfl (aK rfl rfl) ?_
  obtain⟨r16,hr16,h⟩:=bS h
  refine dq [] [] (str r16) rfl (cP (LU hr16)) ?_ (cm rfl rfl rfl rfl (aQ (bx rfl) cz) (LU hr16) (.inr rfl) rfl)
  obtain⟨s17,hs17,h⟩:=bS h
  refine dq [] [] (str s17) rfl (fG rfl rfl (fD hs17)) ?_
  refine dk 2 [7,6] [B true,str s17] ?_
  refine de 753 rfl rfl ?_
  obtain rfl:=sI h
  exact rP [str s17,B true]
theorem ZX {G:bT}[TabG Tryz.prog G]:bQ G 40 JJ:=gT 3 0 (aL Tk (aL Z8 (aL Z2 (aL ZY (aL NJ bu))))) bW Tryz.func40 (fun a r h=>acm a.1 a.2.1 a.2.2 r h)
def E9:((List ac)×(List ac))→List V:=cA (fM str) (oA (fM str))
def Fa (r:Bool):V×List V:=(B r,[])
noncomputable def vy :=bb [false,false] E9 Fa fun x=>xf x.1 x.2
theorem Ua {a_1:List ac}{b_2:List ac}{r}(h:xf a_1 b_2=some r):vy.F (E9 (a_1,b_2))=some (Fa r):=aF (aJ (b7 b8) (aG (b7 b8))) h
noncomputable def Uc :=aD Tryz.f49
noncomputable def MP :=bV []
def Ub (x:(List ac)×(List ac))(r:Bool):St→Prop:=QF MP Tryz.f49 [false,false] (E9 x) (Fa r)
theorem Pm (a_1:List ac)(b_2:List ac):cj MP 0 (Ub (a_1,b_2)) (cL (cL (cR (cL (cR (cR Uc)))))) 0 (tY a_1 b_2) (fun u=>(sT 26 [] [] 1)) fun x3=>(sT 26 [(0,.isl false (a_1.map str)),(1,.isl false (b_2.map str)),(5,I x3)] [] 1):=ee (Ac a_1 b_2) fun {Q K} hK self ih x3 y h hr hn=>by
 unfold nI at h
 refine cq 5 [11,12] [I x3,.isl false (a_1.map str)] 33 ?_
 refine oq 49 (I (len a_1)) rfl (bv rfl rfl rfl (bK rfl)) ?_
 refine cq 2 [14] [B (decide (x3<(len a_1)))] 65 ?_
 refine sq h ?_ ?_<;>intro h
 ·refine aq 1 ?_
  refine aq 3 ?_
  refine dt [0,0,3,7,0,0,48,112,255] rfl (by decide +kernel) ?_
  refine dk 2 [18,17] [I x3,.isl false (a_1.map str)] ?_
  obtain⟨e4,he4,h⟩:=bS h
  refine dq [] [] (.iptr (str e4) 0) rfl (aj rfl rfl rfl (aZ rfl rfl rfl rfl he4)) ?_
  refine dq [] [] (str e4) rfl (aK rfl rfl) ?_
  refine dk 2 [22,21] [I x3,.isl false (b_2.map str)] ?_
  obtain⟨e5,he5,h⟩:=bS h
  refine dq [] [] (.iptr (str e5) 0) rfl (aj rfl rfl rfl (aZ rfl rfl rfl rfl he5)) ?_
  refine dq [] [] (str e5) rfl (aK rfl rfl) ?_
  refine dk 1 [25] [B (!(e4==e5))] ?_
  refine de 209 rfl rfl ?_
  refine sq h ?_ ?_<;>intro h
  ·refine cq 4 [4] [B false] 225 ?_
   exact cu rfl (hr _ (ak h) _ (qp [B false]))
  ·refine aq 1 ?_
   refine cq 6 [5] [I (ai (x3+1))] 257 ?_
   refine dh ?_
   exact rf [0,1,5] [] (ih _ _ h hr hn :)
 ·refine aq 1 ?_
  exact rf [] [] (hn _ (ak h) :) (hk:=hK)
theorem YC (a_1:List ac)(b_2:List ac)(r:Bool)(h:xf a_1 b_2=some r):bq MP Tryz.f49 [false,false] 0 (E9 (a_1,b_2)) (Fa r):=by
 show Run _ _ (Ub (a_1,b_2) r) [.code Uc] _
 refine rI 26 [(0,.isl false (a_1.map str)),(1,.isl false (b_2.map str))] [] 1 ?_
 unfold xf at h
 refine cq 8 [6] [.isl false (a_1.map str)] 33 ?_
 refine oq 49 (I (len a_1)) rfl (bv rfl rfl rfl (bK rfl)) ?_
 refine cq 1 [8] [.isl false (b_2.map str)] 65 ?_
 refine oq 81 (I (len b_2)) rfl (bv rfl rfl rfl (bK rfl)) ?_
 refine cq 2 [10] [B ((len a_1) != (len b_2))] 97 ?_
 refine sq h ?_ ?_<;>intro h
 ·refine cq 4 [4] [B false] 113 ?_
  obtain rfl:=sI h
  exact rP [B false]
 ·refine aq 1 ?_
  refine cq 6 [5] [I (0)] 113 ?_
  obtain⟨y6,hy6,hy61,hy62⟩:=bJ h
  refine bP rfl ?_
  refine rf [0,1,5] [] (Pm a_1 b_2 rfl 0 _ hy6 (fun r' e st hq=>by rw[hy61 r' e] at hq;exact hq) fun u6 hu=>?_)
  replace h:=hy62 u6 hu
  refine cq 4 [4] [B true] 17 ?_
  obtain rfl:=sI h
  exact rP [B true]
theorem Ks {G:bT}[TabG Tryz.prog G]:bQ G 49 vy:=gT 2 0 bu bW Tryz.func49 (fun a r h=>YC a.1 a.2 r h)
def xb:(Condition×Condition)→List V:=cA bM (oA bM)
def xc (r:Bool):V×List V:=(B r,[])
noncomputable def sL (bz:(Condition×Condition)→Option Bool):Ent:=bb [false,false] xb xc bz
theorem Jm (bz:(Condition×Condition)→Option Bool){x}{r}(h:bz x=some r):(sL bz).F (xb x)=some (xc r):=aF (aJ dE (aG dE)) h
def EX:((List Condition)×(List Condition))→List V:=cA (fM aH) (oA (fM aH))
def EY (r:Bool):V×List V:=(B r,[])
noncomputable def Cc (bz:(Condition×Condition)→Option Bool):Ent:=bb [false,false] EX EY fun x=>xd bz x.1 x.2
theorem aeh (bz:(Condition×Condition)→Option Bool){a_1:List Condition}{b_2:List Condition}{r}(h:xd bz a_1 b_2=some r):(Cc bz).F (EX (a_1,b_2))=some (EY r):=aF (aJ (b7 fJ) (aG (b7 fJ))) h
noncomputable def TR :=aD Tryz.f179
noncomputable def ML (bz:(Condition×Condition)→Option Bool):Env:=bV [(148,(sL bz))]
def TQ (bz:(Condition×Condition)→Option Bool)(x:(List Condition)×(List Condition))(r:Bool):St→Prop:=QF (ML bz) Tryz.f179 [false,false] (EX x) (EY r)
theorem Pi (bz:(Condition×Condition)→Option Bool)(a_1:List Condition)(b_2:List Condition):cj (ML bz) 0 (TQ bz (a_1,b_2)) (cL (cL (cR (cL (cR (cR TR)))))) 0 (rC bz a_1 b_2) (fun u=>(sT 27 [] [] 1)) fun x3=>(sT 27 [(0,.isl false (a_1.map aH)),(1,.isl false (b_2.map aH)),(5,I x3)] [] 1):=ee (zZ bz a_1 b_2) fun {Q K} hK self ih x3 y h hr hn=>by
 unfold lM at h
 refine cq 5 [11,12] [I x3,.isl false (a_1.map aH)] 33 ?_
 refine oq 49 (I (len a_1)) rfl (bv rfl rfl rfl (bK rfl)) ?_
 refine cq 2 [14] [B (decide (x3<(len a_1)))] 65 ?_
 refine sq h ?_ ?_<;>intro h
 ·refine aq 1 ?_
  refine aq 3 ?_
  refine dt [0,0,3,7,0,0,48,112,255,511] rfl (by decide +kernel) ?_
  refine dk 2 [18,17] [I x3,.isl false (a_1.map aH)] ?_
  obtain⟨e4,he4,h⟩:=bS h
  refine dq [] [] (.iptr (au e4) 0) rfl (aj rfl rfl rfl (aZ rfl rfl (dD e4) rfl he4)) ?_
  refine dq [] [] (au e4) rfl (aK rfl rfl) ?_
  refine dk 2 [22,21] [I x3,.isl false (b_2.map aH)] ?_
  obtain⟨e5,he5,h⟩:=bS h
  refine dq [] [] (.iptr (au e5) 0) rfl (aj rfl rfl rfl (aZ rfl rfl (dD e5) rfl he5)) ?_
  refine dq [] [] (au e5) rfl (aK rfl rfl) ?_
  obtain⟨r6,hr6,h⟩:=bS h
  refine dq [] [] (B r6) rfl (bR rfl rfl (cn rfl rfl rfl (aQ (bx rfl) (aQ (bx rfl) cz)) (Jm bz hr6) (.inr rfl) dT rfl rfl rfl)) ?_ (cm rfl rfl rfl rfl (aQ (bx rfl) (aQ (bx rfl) cz)) (Jm bz hr6) (.inr rfl) rfl)
  refine dk 1 [26] [B (!r6)] ?_
  refine de 225 rfl rfl ?_
  refine sq h ?_ ?_<;>intro h
  ·refine cq 4 [4] [B false] 241 ?_
   exact cu rfl (hr _ (ak h) _ (qp [B false]))
  ·refine aq 1 ?_
   refine cq 6 [5] [I (ai (x3+1))] 273 ?_
   refine dh ?_
   exact rf [0,1,5] [] (ih _ _ h hr hn :)
 ·refine aq 1 ?_
  exact rf [] [] (hn _ (ak h) :) (hk:=hK)
theorem Yv (bz:(Condition×Condition)→Option Bool)(a_1:List Condition)(b_2:List Condition)(r:Bool)(h:xd bz a_1 b_2=some r):bq (ML bz) Tryz.f179 [false,false] 0 (EX (a_1,b_2)) (EY r):=by
 show Run _ _ (TQ bz (a_1,b_2) r) [.code TR] _
 refine rI 27 [(0,.isl false (a_1.map aH)),(1,.isl false (b_2.map aH))] [] 1 ?_
 unfold xd at h
 refine cq 8 [6] [.isl false (a_1.map aH)] 33 ?_
 refine oq 49 (I (len a_1)) rfl (bv rfl rfl rfl (bK rfl)) ?_
 refine cq 1 [8] [.isl false (b_2.map aH)] 65 ?_
 refine oq 81 (I (len b_2)) rfl (bv rfl rfl rfl (bK rfl)) ?_
 refine cq 2 [10] [B ((len a_1) != (len b_2))] 97 ?_
 refine sq h ?_ ?_<;>intro h
 ·refine cq 4 [4] [B false] 113 ?_
  obtain rfl:=sI h
  exact rP [B false]
 ·refine aq 1 ?_
  refine cq 6 [5] [I (0)] 113 ?_
  obtain⟨y7,hy7,hy71,hy72⟩:=bJ h
  refine bP rfl ?_
  refine rf [0,1,5] [] (Pi bz a_1 b_2 rfl 0 _ hy7 (fun r' e st hq=>by rw[hy71 r' e] at hq;exact hq) fun u7 hu=>?_)
  replace h:=hy72 u7 hu
  refine cq 4 [4] [B true] 17 ?_
  obtain rfl:=sI h
  exact rP [B true]
theorem TS {G:bT}[TabG Tryz.prog G](bz:(Condition×Condition)→Option Bool)(Og:bQ G 148 (sL bz)):bQ G 179 (Cc bz):=gT 2 0 (aL Og bu) bW Tryz.func179 (fun a r h=>Yv bz a.1 a.2 r h)
noncomputable def Cb :=sL (aN qm)
theorem aee {a_1:Condition}{b_2:Condition}{r}(h:Ca a_1 b_2=some r):Cb.F (xb (a_1,b_2))=some (xc r):=Jm (aN qm) h
noncomputable def aeg :=aD Tryz.f148
noncomputable def TN (bz:(Condition×Condition)→Option Bool):Env:=bV [(179,(Cc bz))]
def aef (bz:(Condition×Condition)→Option Bool)(x:Condition×Condition)(r:Bool):St→Prop:=QF (TN bz) Tryz.f148 [false,false] (xb x) (xc r)
theorem Yu (bz:(Condition×Condition)→Option Bool)(a_1:Condition)(b_2:Condition)(r:Bool)(h:tV bz a_1 b_2=some r):bq (TN bz) Tryz.f148 [false,false] 0 (xb (a_1,b_2)) (xc r):=by
 show Run _ _ (aef bz (a_1,b_2) r) [.code aeg] _
 refine rI 26 [(0,au a_1),(1,au b_2)] [] 1 ?_
 unfold tV at h
 refine ck 15 [2,3,9] [] [1,17] [] [.hp 1 0 [] 4 0 0,.hp 17 0 [] 4 0 0,B (a_1.Op != b_2.Op)] [some ⟨0,4,[au a_1]⟩,some ⟨0,4,[au b_2]⟩] 129 (by kernel_rfl) ?_
 refine sq h ?_ ?_<;>intro h
 ·refine cq 4 [4] [B false] 145 ?_
  obtain rfl:=sI h
  exact rP [B false]
 ·refine aq 1 ?_
  refine cq 9 [14] [B (!(a_1.Name==b_2.Name))] 209 ?_
  refine sq h ?_ ?_<;>intro h
  ·refine cq 4 [4] [B false] 225 ?_
   obtain rfl:=sI h
   exact rP [B false]
  ·refine aq 1 ?_
   refine cq 9 [19] [B (a_1.Day != b_2.Day)] 289 ?_
   refine sq h ?_ ?_<;>intro h
   ·refine cq 4 [4] [B false] 305 ?_
    obtain rfl:=sI h
    exact rP [B false]
   ·refine aq 1 ?_
    refine cq 7 [21,23] [.isl false (a_1.Parts.map aH),.isl false (b_2.Parts.map aH)] 353 ?_
    obtain⟨r3,hr3,h⟩:=bS h
    refine oq 369 (B r3) rfl (bR rfl rfl (cn rfl rfl rfl (aQ (bx rfl) (aQ (bx rfl) cz)) (aeh bz hr3) (.inr rfl) dT rfl rfl rfl)) ?_
    refine cq 2 [25] [B (!r3)] 385 ?_
    refine sq h ?_ ?_<;>intro h
    ·refine cq 4 [4] [B false] 401 ?_
     obtain rfl:=sI h
     exact rP [B false]
    ·refine aq 1 ?_
     refine cq 4 [4] [B true] 401 ?_
     obtain rfl:=sI h
     exact rP [B true]
theorem TP {G:bT}[TabG Tryz.prog G]:bQ G 148 Cb:=jL fun bz Og=>gT 2 0 (aL (TS bz Og) bu) bW Tryz.func148 (fun a r h=>Yu bz a.1 a.2 r h)
def ET:(Clause×Clause)→List V:=cA ap (oA ap)
def EU (r:Bool):V×List V:=(B r,[])
noncomputable def B7 :=bb [false,false] ET EU fun x=>xa x.1 x.2
theorem TH {a_1:Clause}{b_2:Clause}{r}(h:xa a_1 b_2=some r):B7.F (ET (a_1,b_2))=some (EU r):=aF (aJ dC (aG dC)) h
noncomputable def aec :=aD Tryz.f104
noncomputable def TG :=bV [(148,Cb)]
def aeb (x:Clause×Clause)(r:Bool):St→Prop:=QF TG Tryz.f104 [false,false] (ET x) (EU r)
theorem Yr (a_1:Clause)(b_2:Clause)(r:Bool)(h:xa a_1 b_2=some r):bq TG Tryz.f104 [false,false] 0 (ET (a_1,b_2)) (EU r):=by
 show Run _ _ (aeb (a_1,b_2) r) [.code aec] _
 refine rI 51 [(0,ao a_1),(1,ao b_2)] [] 1 ?_
 unfold xa at h
 refine ck 15 [2,3,9] [] [1,17] [] [.hp 1 0 [] 12 0 0,.hp 17 0 [] 12 0 0,B (!(a_1.Id==b_2.Id))] [some ⟨0,12,[ao a_1]⟩,some ⟨0,12,[ao b_2]⟩] 129 (by kernel_rfl) ?_
 refine sq h ?_ ?_<;>intro h
 ·refine cq 4 [4] [B false] 145 ?_
  obtain rfl:=sI h
  exact rP [B false]
 ·refine aq 1 ?_
  refine cq 9 [14] [B (a_1.Kind != b_2.Kind)] 209 ?_
  refine sq h ?_ ?_<;>intro h
  ·refine cq 4 [4] [B false] 225 ?_
   obtain rfl:=sI h
   exact rP [B false]
  ·refine aq 1 ?_
   refine cq 9 [19] [B (a_1.Party != b_2.Party)] 289 ?_
   refine sq h ?_ ?_<;>intro h
   ·refine cq 4 [4] [B false] 305 ?_
    obtain rfl:=sI h
    exact rP [B false]
   ·refine aq 1 ?_
    refine cq 9 [24] [B (!(a_1.Action==b_2.Action))] 369 ?_
    refine sq h ?_ ?_<;>intro h
    ·refine cq 4 [4] [B false] 385 ?_
     obtain rfl:=sI h
     exact rP [B false]
    ·refine aq 1 ?_
     refine cq 9 [29] [B (a_1.Other != b_2.Other)] 449 ?_
     refine sq h ?_ ?_<;>intro h
     ·refine cq 4 [4] [B false] 465 ?_
      obtain rfl:=sI h
      exact rP [B false]
     ·refine aq 1 ?_
      refine cq 9 [34] [B (a_1.Amount != b_2.Amount)] 529 ?_
      refine sq h ?_ ?_<;>intro h
      ·refine cq 4 [4] [B false] 545 ?_
       obtain rfl:=sI h
       exact rP [B false]
      ·refine aq 1 ?_
       refine cq 7 [36,38] [au a_1.When,au b_2.When] 593 ?_
       obtain⟨r3,hr3,h⟩:=bS h
       refine oq 609 (B r3) rfl (cP (aee hr3)) ?_
       refine cq 2 [40] [B (!r3)] 625 ?_
       refine sq h ?_ ?_<;>intro h
       ·refine cq 4 [4] [B false] 641 ?_
        obtain rfl:=sI h
        exact rP [B false]
       ·refine aq 1 ?_
        refine cq 9 [45] [B (a_1.Within != b_2.Within)] 705 ?_
        refine sq h ?_ ?_<;>intro h
        ·refine cq 4 [4] [B false] 721 ?_
         obtain rfl:=sI h
         exact rP [B false]
        ·refine aq 1 ?_
         refine cq 9 [50] [B (!(a_1.Repair==b_2.Repair))] 785 ?_
         refine sq h ?_ ?_<;>intro h
         ·refine cq 4 [4] [B false] 801 ?_
          obtain rfl:=sI h
          exact rP [B false]
         ·refine aq 1 ?_
          refine cq 4 [4] [B true] 801 ?_
          obtain rfl:=sI h
          exact rP [B true]
theorem TJ {G:bT}[TabG Tryz.prog G]:bQ G 104 B7:=gT 2 0 (aL TP bu) bW Tryz.func104 (fun a r h=>Yr a.1 a.2 r h)
def EV:((List Clause)×(List Clause))→List V:=cA (fM ap) (oA (fM ap))
def EW (r:Bool):V×List V:=(B r,[])
noncomputable def B9 :=bb [false,false] EV EW fun x=>B8 x.1 x.2
theorem aed {a_1:List Clause}{b_2:List Clause}{r}(h:B8 a_1 b_2=some r):B9.F (EV (a_1,b_2))=some (EW r):=aF (aJ (b7 dC) (aG (b7 dC))) h
noncomputable def TL :=aD Tryz.f50
noncomputable def MK :=bV [(104,B7)]
def TK (x:(List Clause)×(List Clause))(r:Bool):St→Prop:=QF MK Tryz.f50 [false,false] (EV x) (EW r)
theorem Ph (a_1:List Clause)(b_2:List Clause):cj MK 0 (TK (a_1,b_2)) (cL (cL (cR (cL (cR (cR TL)))))) 0 (tU a_1 b_2) (fun u=>(sT 27 [] [] 1)) fun x3=>(sT 27 [(0,.isl false (a_1.map ap)),(1,.isl false (b_2.map ap)),(5,I x3)] [] 1):=ee (zY a_1 b_2) fun {Q K} hK self ih x3 y h hr hn=>by
 unfold nF at h
 refine cq 5 [11,12] [I x3,.isl false (a_1.map ap)] 33 ?_
 refine oq 49 (I (len a_1)) rfl (bv rfl rfl rfl (bK rfl)) ?_
 refine cq 2 [14] [B (decide (x3<(len a_1)))] 65 ?_
 refine sq h ?_ ?_<;>intro h
 ·refine aq 1 ?_
  refine aq 3 ?_
  refine dt [0,0,3,7,0,0,48,112,255,511] rfl (by decide +kernel) ?_
  refine dk 2 [18,17] [I x3,.isl false (a_1.map ap)] ?_
  obtain⟨e4,he4,h⟩:=bS h
  refine dq [] [] (.iptr (ao e4) 0) rfl (aj rfl rfl rfl (aZ rfl rfl rfl rfl he4)) ?_
  refine dq [] [] (ao e4) rfl (aK rfl rfl) ?_
  refine dk 2 [22,21] [I x3,.isl false (b_2.map ap)] ?_
  obtain⟨e5,he5,h⟩:=bS h
  refine dq [] [] (.iptr (ao e5) 0) rfl (aj rfl rfl rfl (aZ rfl rfl rfl rfl he5)) ?_
  refine dq [] [] (ao e5) rfl (aK rfl rfl) ?_
  obtain⟨r6,hr6,h⟩:=bS h
  refine dq [] [] (B r6) rfl (cP (TH hr6)) ?_ (cm rfl rfl rfl rfl (aQ (bx rfl) (aQ (bx rfl) cz)) (TH hr6) (.inr rfl) rfl)
  refine dk 1 [26] [B (!r6)] ?_
  refine de 225 rfl rfl ?_
  refine sq h ?_ ?_<;>intro h
  ·refine cq 4 [4] [B false] 241 ?_
   exact cu rfl (hr _ (ak h) _ (qp [B false]))
  ·refine aq 1 ?_
   refine cq 6 [5] [I (ai (x3+1))] 273 ?_
   refine dh ?_
   exact rf [0,1,5] [] (ih _ _ h hr hn :)
 ·refine aq 1 ?_
  exact rf [] [] (hn _ (ak h) :) (hk:=hK)
theorem Ys (a_1:List Clause)(b_2:List Clause)(r:Bool)(h:B8 a_1 b_2=some r):bq MK Tryz.f50 [false,false] 0 (EV (a_1,b_2)) (EW r):=by
 show Run _ _ (TK (a_1,b_2) r) [.code TL] _
 refine rI 27 [(0,.isl false (a_1.map ap)),(1,.isl false (b_2.map ap))] [] 1 ?_
 unfold B8 at h
 refine cq 8 [6] [.isl false (a_1.map ap)] 33 ?_
 refine oq 49 (I (len a_1)) rfl (bv rfl rfl rfl (bK rfl)) ?_
 refine cq 1 [8] [.isl false (b_2.map ap)] 65 ?_
 refine oq 81 (I (len b_2)) rfl (bv rfl rfl rfl (bK rfl)) ?_
 refine cq 2 [10] [B ((len a_1) != (len b_2))] 97 ?_
 refine sq h ?_ ?_<;>intro h
 ·refine cq 4 [4] [B false] 113 ?_
  obtain rfl:=sI h
  exact rP [B false]
 ·refine aq 1 ?_
  refine cq 6 [5] [I (0)] 113 ?_
  obtain⟨y7,hy7,hy71,hy72⟩:=bJ h
  refine bP rfl ?_
  refine rf [0,1,5] [] (Ph a_1 b_2 rfl 0 _ hy7 (fun r' e st hq=>by rw[hy71 r' e] at hq;exact hq) fun u7 hu=>?_)
  replace h:=hy72 u7 hu
  refine cq 4 [4] [B true] 17 ?_
  obtain rfl:=sI h
  exact rP [B true]
theorem TM {G:bT}[TabG Tryz.prog G]:bQ G 50 B9:=gT 2 0 (aL TJ bu) bW Tryz.func50 (fun a r h=>Ys a.1 a.2 r h)
def EZ:(Contract×Contract)→List V:=cA aM (oA aM)
def E0 (r:Bool):V×List V:=(B r,[])
noncomputable def Ce :=bb [false,false] EZ E0 fun x=>Cd x.1 x.2
theorem TV {a_1:Contract}{b_2:Contract}{r}(h:Cd a_1 b_2=some r):Ce.F (EZ (a_1,b_2))=some (E0 r):=aF (aJ aP (aG aP)) h
noncomputable def aej :=aD Tryz.f17
noncomputable def TU :=bV [(49,vy),(50,B9)]
def aei (x:Contract×Contract)(r:Bool):St→Prop:=QF TU Tryz.f17 [false,false] (EZ x) (E0 r)
theorem Yw (a_1:Contract)(b_2:Contract)(r:Bool)(h:Cd a_1 b_2=some r):bq TU Tryz.f17 [false,false] 0 (EZ (a_1,b_2)) (E0 r):=by
 show Run _ _ (aei (a_1,b_2) r) [.code aej] _
 refine rI 17 [(0,aa a_1),(1,aa b_2)] [] 1 ?_
 unfold Cd at h
 refine ck 13 [2,3,6,8] [] [1,17] [] [.hp 1 0 [] 2 0 0,.hp 17 0 [] 2 0 0,.isl false (a_1.Parties.map str),.isl false (b_2.Parties.map str)] [some ⟨0,2,[aa a_1]⟩,some ⟨0,2,[aa b_2]⟩] 113 (by kernel_rfl) ?_
 obtain⟨r3,hr3,h⟩:=bS h
 refine oq 129 (B r3) rfl (cP (Ua hr3)) ?_
 refine cq 2 [10] [B (!r3)] 145 ?_
 refine sq h ?_ ?_<;>intro h
 ·refine cq 4 [4] [B false] 161 ?_
  obtain rfl:=sI h
  exact rP [B false]
 ·refine aq 1 ?_
  refine cq 7 [12,14] [.isl false (a_1.Clauses.map ap),.isl false (b_2.Clauses.map ap)] 209 ?_
  obtain⟨r4,hr4,h⟩:=bS h
  refine oq 225 (B r4) rfl (cP (aed hr4)) ?_
  refine cq 2 [16] [B (!r4)] 241 ?_
  refine sq h ?_ ?_<;>intro h
  ·refine cq 4 [4] [B false] 257 ?_
   obtain rfl:=sI h
   exact rP [B false]
  ·refine aq 1 ?_
   refine cq 4 [4] [B true] 257 ?_
   obtain rfl:=sI h
   exact rP [B true]
theorem TW {G:bT}[TabG Tryz.prog G]:bQ G 17 Ce:=gT 2 0 (aL Ks (aL TM bu)) bW Tryz.func17 (fun a r h=>Yw a.1 a.2 r h)
def E1:(Duty×Duty)→List V:=cA ah (oA ah)
def E2 (r:Bool):V×List V:=(B r,[])
noncomputable def Cf :=bb [false,false] E1 E2 fun x=>xe x.1 x.2
theorem TY {a_1:Duty}{b_2:Duty}{r}(h:xe a_1 b_2=some r):Cf.F (E1 (a_1,b_2))=some (E2 r):=aF (aJ eh (aG eh)) h
noncomputable def ael :=aD Tryz.f113
noncomputable def TX :=bV []
def aek (x:Duty×Duty)(r:Bool):St→Prop:=QF TX Tryz.f113 [false,false] (E1 x) (E2 r)
theorem Yx (a_1:Duty)(b_2:Duty)(r:Bool)(h:xe a_1 b_2=some r):bq TX Tryz.f113 [false,false] 0 (E1 (a_1,b_2)) (E2 r):=by
 show Run _ _ (aek (a_1,b_2) r) [.code ael] _
 refine rI 25 [(0,ah a_1),(1,ah b_2)] [] 1 ?_
 unfold xe at h
 refine ck 15 [2,3,9] [] [1,17] [] [.hp 1 0 [] 4 0 0,.hp 17 0 [] 4 0 0,B (a_1.Clause != b_2.Clause)] [some ⟨0,4,[ah a_1]⟩,some ⟨0,4,[ah b_2]⟩] 129 (by kernel_rfl) ?_
 refine sq h ?_ ?_<;>intro h
 ·refine cq 4 [4] [B false] 145 ?_
  obtain rfl:=sI h
  exact rP [B false]
 ·refine aq 1 ?_
  refine cq 9 [14] [B (a_1.Since != b_2.Since)] 209 ?_
  refine sq h ?_ ?_<;>intro h
  ·refine cq 4 [4] [B false] 225 ?_
   obtain rfl:=sI h
   exact rP [B false]
  ·refine aq 1 ?_
   refine cq 9 [19] [B (a_1.Due != b_2.Due)] 289 ?_
   refine sq h ?_ ?_<;>intro h
   ·refine cq 4 [4] [B false] 305 ?_
    obtain rfl:=sI h
    exact rP [B false]
   ·refine aq 1 ?_
    refine cq 9 [24] [B (a_1.Status != b_2.Status)] 369 ?_
    refine sq h ?_ ?_<;>intro h
    ·refine cq 4 [4] [B false] 385 ?_
     obtain rfl:=sI h
     exact rP [B false]
    ·refine aq 1 ?_
     refine cq 4 [4] [B true] 385 ?_
     obtain rfl:=sI h
     exact rP [B true]
theorem TZ {G:bT}[TabG Tryz.prog G]:bQ G 113 Cf:=gT 2 0 bu bW Tryz.func113 (fun a r h=>Yx a.1 a.2 r h)
def E3:((List Duty)×(List Duty))→List V:=cA (fM ah) (oA (fM ah))
def E4 (r:Bool):V×List V:=(B r,[])
noncomputable def Ci :=bb [false,false] E3 E4 fun x=>Cg x.1 x.2
theorem aem {a_1:List Duty}{b_2:List Duty}{r}(h:Cg a_1 b_2=some r):Ci.F (E3 (a_1,b_2))=some (E4 r):=aF (aJ (b7 eh) (aG (b7 eh))) h
noncomputable def T1 :=aD Tryz.f62
noncomputable def MM :=bV [(113,Cf)]
def T0 (x:(List Duty)×(List Duty))(r:Bool):St→Prop:=QF MM Tryz.f62 [false,false] (E3 x) (E4 r)
theorem Pj (a_1:List Duty)(b_2:List Duty):cj MM 0 (T0 (a_1,b_2)) (cL (cL (cR (cL (cR (cR T1)))))) 0 (tW a_1 b_2) (fun u=>(sT 27 [] [] 1)) fun x3=>(sT 27 [(0,.isl false (a_1.map ah)),(1,.isl false (b_2.map ah)),(5,I x3)] [] 1):=ee (Aa a_1 b_2) fun {Q K} hK self ih x3 y h hr hn=>by
 unfold nG at h
 refine cq 5 [11,12] [I x3,.isl false (a_1.map ah)] 33 ?_
 refine oq 49 (I (len a_1)) rfl (bv rfl rfl rfl (bK rfl)) ?_
 refine cq 2 [14] [B (decide (x3<(len a_1)))] 65 ?_
 refine sq h ?_ ?_<;>intro h
 ·refine aq 1 ?_
  refine aq 3 ?_
  refine dt [0,0,3,7,0,0,48,112,255,511] rfl (by decide +kernel) ?_
  refine dk 2 [18,17] [I x3,.isl false (a_1.map ah)] ?_
  obtain⟨e4,he4,h⟩:=bS h
  refine dq [] [] (.iptr (ah e4) 0) rfl (aj rfl rfl rfl (aZ rfl rfl rfl rfl he4)) ?_
  refine dq [] [] (ah e4) rfl (aK rfl rfl) ?_
  refine dk 2 [22,21] [I x3,.isl false (b_2.map ah)] ?_
  obtain⟨e5,he5,h⟩:=bS h
  refine dq [] [] (.iptr (ah e5) 0) rfl (aj rfl rfl rfl (aZ rfl rfl rfl rfl he5)) ?_
  refine dq [] [] (ah e5) rfl (aK rfl rfl) ?_
  obtain⟨r6,hr6,h⟩:=bS h
  refine dq [] [] (B r6) rfl (cP (TY hr6)) ?_ (cm rfl rfl rfl rfl (aQ (bx rfl) (aQ (bx rfl) cz)) (TY hr6) (.inr rfl) rfl)
  refine dk 1 [26] [B (!r6)] ?_
  refine de 225 rfl rfl ?_
  refine sq h ?_ ?_<;>intro h
  ·refine cq 4 [4] [B false] 241 ?_
   exact cu rfl (hr _ (ak h) _ (qp [B false]))
  ·refine aq 1 ?_
   refine cq 6 [5] [I (ai (x3+1))] 273 ?_
   refine dh ?_
   exact rf [0,1,5] [] (ih _ _ h hr hn :)
 ·refine aq 1 ?_
  exact rf [] [] (hn _ (ak h) :) (hk:=hK)
theorem Yy (a_1:List Duty)(b_2:List Duty)(r:Bool)(h:Cg a_1 b_2=some r):bq MM Tryz.f62 [false,false] 0 (E3 (a_1,b_2)) (E4 r):=by
 show Run _ _ (T0 (a_1,b_2) r) [.code T1] _
 refine rI 27 [(0,.isl false (a_1.map ah)),(1,.isl false (b_2.map ah))] [] 1 ?_
 unfold Cg at h
 refine cq 8 [6] [.isl false (a_1.map ah)] 33 ?_
 refine oq 49 (I (len a_1)) rfl (bv rfl rfl rfl (bK rfl)) ?_
 refine cq 1 [8] [.isl false (b_2.map ah)] 65 ?_
 refine oq 81 (I (len b_2)) rfl (bv rfl rfl rfl (bK rfl)) ?_
 refine cq 2 [10] [B ((len a_1) != (len b_2))] 97 ?_
 refine sq h ?_ ?_<;>intro h
 ·refine cq 4 [4] [B false] 113 ?_
  obtain rfl:=sI h
  exact rP [B false]
 ·refine aq 1 ?_
  refine cq 6 [5] [I (0)] 113 ?_
  obtain⟨y7,hy7,hy71,hy72⟩:=bJ h
  refine bP rfl ?_
  refine rf [0,1,5] [] (Pj a_1 b_2 rfl 0 _ hy7 (fun r' e st hq=>by rw[hy71 r' e] at hq;exact hq) fun u7 hu=>?_)
  replace h:=hy72 u7 hu
  refine cq 4 [4] [B true] 17 ?_
  obtain rfl:=sI h
  exact rP [B true]
theorem T3 {G:bT}[TabG Tryz.prog G]:bQ G 62 Ci:=gT 2 0 (aL TZ bu) bW Tryz.func62 (fun a r h=>Yy a.1 a.2 r h)
def E5:((List Int)×(List Int))→List V:=cA (fM I) (oA (fM I))
def E6 (r:Bool):V×List V:=(B r,[])
noncomputable def Ck :=bb [false,false] E5 E6 fun x=>Cj x.1 x.2
theorem aen {a_1:List Int}{b_2:List Int}{r}(h:Cj a_1 b_2=some r):Ck.F (E5 (a_1,b_2))=some (E6 r):=aF (aJ (b7 bi) (aG (b7 bi))) h
noncomputable def T5 :=aD Tryz.f16
noncomputable def MN :=bV []
def T4 (x:(List Int)×(List Int))(r:Bool):St→Prop:=QF MN Tryz.f16 [false,false] (E5 x) (E6 r)
theorem Pk (a_1:List Int)(b_2:List Int):cj MN 0 (T4 (a_1,b_2)) (cL (cL (cR (cL (cR (cR T5)))))) 0 (tX a_1 b_2) (fun u=>(sT 26 [] [] 1)) fun x3=>(sT 26 [(0,.isl false (a_1.map I)),(1,.isl false (b_2.map I)),(5,I x3)] [] 1):=ee (Ab a_1 b_2) fun {Q K} hK self ih x3 y h hr hn=>by
 unfold nH at h
 refine cq 5 [11,12] [I x3,.isl false (a_1.map I)] 33 ?_
 refine oq 49 (I (len a_1)) rfl (bv rfl rfl rfl (bK rfl)) ?_
 refine cq 2 [14] [B (decide (x3<(len a_1)))] 65 ?_
 refine sq h ?_ ?_<;>intro h
 ·refine aq 1 ?_
  refine aq 3 ?_
  refine dt [0,0,3,7,0,0,48,112,255] rfl (by decide +kernel) ?_
  refine dk 2 [18,17] [I x3,.isl false (a_1.map I)] ?_
  obtain⟨e4,he4,h⟩:=bS h
  refine dq [] [] (.iptr (I e4) 0) rfl (aj rfl rfl rfl (aZ rfl rfl rfl rfl he4)) ?_
  refine dq [] [] (I e4) rfl (aK rfl rfl) ?_
  refine dk 2 [22,21] [I x3,.isl false (b_2.map I)] ?_
  obtain⟨e5,he5,h⟩:=bS h
  refine dq [] [] (.iptr (I e5) 0) rfl (aj rfl rfl rfl (aZ rfl rfl rfl rfl he5)) ?_
  refine dq [] [] (I e5) rfl (aK rfl rfl) ?_
  refine dk 1 [25] [B (e4 != e5)] ?_
  refine de 209 rfl rfl ?_
  refine sq h ?_ ?_<;>intro h
  ·refine cq 4 [4] [B false] 225 ?_
   exact cu rfl (hr _ (ak h) _ (qp [B false]))
  ·refine aq 1 ?_
   refine cq 6 [5] [I (ai (x3+1))] 257 ?_
   refine dh ?_
   exact rf [0,1,5] [] (ih _ _ h hr hn :)
 ·refine aq 1 ?_
  exact rf [] [] (hn _ (ak h) :) (hk:=hK)
theorem Yz (a_1:List Int)(b_2:List Int)(r:Bool)(h:Cj a_1 b_2=some r):bq MN Tryz.f16 [false,false] 0 (E5 (a_1,b_2)) (E6 r):=by
 show Run _ _ (T4 (a_1,b_2) r) [.code T5] _
 refine rI 26 [(0,.isl false (a_1.map I)),(1,.isl false (b_2.map I))] [] 1 ?_
 unfold Cj at h
 refine cq 8 [6] [.isl false (a_1.map I)] 33 ?_
 refine oq 49 (I (len a_1)) rfl (bv rfl rfl rfl (bK rfl)) ?_
 refine cq 1 [8] [.isl false (b_2.map I)] 65 ?_
 refine oq 81 (I (len b_2)) rfl (bv rfl rfl rfl (bK rfl)) ?_
 refine cq 2 [10] [B ((len a_1) != (len b_2))] 97 ?_
 refine sq h ?_ ?_<;>intro h
 ·refine cq 4 [4] [B false] 113 ?_
  obtain rfl:=sI h
  exact rP [B false]
 ·refine aq 1 ?_
  refine cq 6 [5] [I (0)] 113 ?_
  obtain⟨y6,hy6,hy61,hy62⟩:=bJ h
  refine bP rfl ?_
  refine rf [0,1,5] [] (Pk a_1 b_2 rfl 0 _ hy6 (fun r' e st hq=>by rw[hy61 r' e] at hq;exact hq) fun u6 hu=>?_)
  replace h:=hy62 u6 hu
  refine cq 4 [4] [B true] 17 ?_
  obtain rfl:=sI h
  exact rP [B true]
theorem T6 {G:bT}[TabG Tryz.prog G]:bQ G 16 Ck:=gT 2 0 bu bW Tryz.func16 (fun a r h=>Yz a.1 a.2 r h)
def E7:(State×State)→List V:=cA bA (oA bA)
def E8 (r:Bool):V×List V:=(B r,[])
noncomputable def Cm :=bb [false,false] E7 E8 fun x=>Cl x.1 x.2
theorem T8 {a_1:State}{b_2:State}{r}(h:Cl a_1 b_2=some r):Cm.F (E7 (a_1,b_2))=some (E8 r):=aF (aJ bN (aG bN)) h
noncomputable def aep :=aD Tryz.f25
noncomputable def T7 :=bV [(49,vy),(62,Ci),(16,Ck)]
def aeo (x:State×State)(r:Bool):St→Prop:=QF T7 Tryz.f25 [false,false] (E7 x) (E8 r)
theorem YA (a_1:State)(b_2:State)(r:Bool)(h:Cl a_1 b_2=some r):bq T7 Tryz.f25 [false,false] 0 (E7 (a_1,b_2)) (E8 r):=by
 show Run _ _ (aeo (a_1,b_2) r) [.code aep] _
 refine rI 33 [(0,ae a_1),(1,ae b_2)] [] 1 ?_
 unfold Cl at h
 refine ck 15 [2,3,9] [] [1,17] [] [.hp 1 0 [] 5 0 0,.hp 17 0 [] 5 0 0,B (a_1.Day != b_2.Day)] [some ⟨0,5,[ae a_1]⟩,some ⟨0,5,[ae b_2]⟩] 129 (by kernel_rfl) ?_
 refine sq h ?_ ?_<;>intro h
 ·refine cq 4 [4] [B false] 145 ?_
  obtain rfl:=sI h
  exact rP [B false]
 ·refine aq 1 ?_
  refine cq 7 [11,13] [.isl false (a_1.Facts.map str),.isl false (b_2.Facts.map str)] 193 ?_
  obtain⟨r3,hr3,h⟩:=bS h
  refine oq 209 (B r3) rfl (cP (Ua hr3)) ?_
  refine cq 2 [15] [B (!r3)] 225 ?_
  refine sq h ?_ ?_<;>intro h
  ·refine cq 4 [4] [B false] 241 ?_
   obtain rfl:=sI h
   exact rP [B false]
  ·refine aq 1 ?_
   refine cq 7 [17,19] [.isl false (a_1.Duties.map ah),.isl false (b_2.Duties.map ah)] 289 ?_
   obtain⟨r4,hr4,h⟩:=bS h
   refine oq 305 (B r4) rfl (cP (aem hr4)) ?_
   refine cq 2 [21] [B (!r4)] 321 ?_
   refine sq h ?_ ?_<;>intro h
   ·refine cq 4 [4] [B false] 337 ?_
    obtain rfl:=sI h
    exact rP [B false]
   ·refine aq 1 ?_
    refine cq 7 [23,25] [.isl false (a_1.Balances.map I),.isl false (b_2.Balances.map I)] 385 ?_
    obtain⟨r5,hr5,h⟩:=bS h
    refine oq 401 (B r5) rfl (cP (aen hr5)) ?_
    refine cq 2 [27] [B (!r5)] 417 ?_
    refine sq h ?_ ?_<;>intro h
    ·refine cq 4 [4] [B false] 433 ?_
     obtain rfl:=sI h
     exact rP [B false]
    ·refine aq 1 ?_
     refine cq 9 [32] [B (!(a_1.Over==b_2.Over))] 497 ?_
     refine sq h ?_ ?_<;>intro h
     ·refine cq 4 [4] [B false] 513 ?_
      obtain rfl:=sI h
      exact rP [B false]
     ·refine aq 1 ?_
      refine cq 4 [4] [B true] 513 ?_
      obtain rfl:=sI h
      exact rP [B true]
theorem T9 {G:bT}[TabG Tryz.prog G]:bQ G 25 Cm:=gT 2 0 (aL Ks (aL T3 (aL T6 bu))) bW Tryz.func25 (fun a r h=>YA a.1 a.2 r h)
def gn:(Contract×State×Int)→List V:=cA aM (cA bA (oA I))
def gp (r:Bool):V×List V:=(B r,[])
noncomputable def iq :=bb [false,false,false] gn gp fun x=>fe x.1 x.2.1 x.2.2
theorem rj {kE:Contract}{kF:State}{gZ:Int}{r}(h:fe kE kF gZ=some r):iq.F (gn (kE,kF,gZ))=some (gp r):=aF (aJ aP (aJ bN (aG bi))) h
noncomputable def gq :=aD Tryz.f11
noncomputable def iK :=bV [(12,Cu),(21,CB),(14,CI),(23,CO),(39,Db),(40,JJ),(17,Ce),(25,Cm)]
def lD (x:Contract×State×Int)(r:Bool):St→Prop:=QF iK Tryz.f11 [false,false,false] (gn x) (gp r)
theorem qA (kE:Contract)(kF:State)(gZ:Int)(r:Bool)(h:fe kE kF gZ=some r):bq iK Tryz.f11 [false,false,false] 0 (gn (kE,kF,gZ)) (gp r):=by
 show Run _ _ (lD (kE,kF,gZ) r) [.code gq] _
 refine rI 62 [(0,aM kE),(1,bA kF),(2,I gZ)] [] 1 ?_
 unfold fe at h
 refine ck 14 [3,4,14,15] [] [1,17] [] [.hp 1 0 [] 2 0 0,.hp 17 0 [] 5 0 0,aM kE,I (1048576)] [some ⟨0,2,[aM kE]⟩,some ⟨0,5,[bA kF]⟩] 97 (by kernel_rfl) ?_
 obtain⟨r4,hr4,h⟩:=bS h
 refine oq 113 (I r4) rfl (cP (aey hr4)) ?_
 refine cq 8 [7,18] [I r4,B (decide (r4<0))] 161 ?_
 refine sq h ?_ ?_<;>intro h
 ·refine cq 4 [6] [B true] 177 ?_
  obtain rfl:=sI h
  exact rP [B true]
 ·refine aq 1 ?_
  refine cq 4 [19,20] [bA kF,I r4] 193 ?_
  obtain⟨r5,hr5,h⟩:=bS h
  refine oq 209 (I r5) rfl (cP (aeH hr5)) ?_
  refine ck 8 [23] [7] [] [] [B (decide (r5<0))] [] 257 (by kernel_rfl) ?_
  refine sq h ?_ ?_<;>intro h
  ·refine cq 4 [6] [B true] 273 ?_
   obtain rfl:=sI h
   exact rP [B true]
  ·refine aq 1 ?_
   refine aq 1 ?_
   refine dt [0,1,0,7,0,31,63,127,127,255,1023] rfl (by decide +kernel) ?_
   refine dq [1] [] (aM kE) rfl (aK rfl rfl) ?_
   obtain⟨r6,hr6,h⟩:=bS h
   refine dq [] [] (.agg [.hs 273 0 [] 1 0 (r6.Parties.map str).length,.hs 274 0 [] 12 0 (r6.Clauses.map bd).length]) rfl (cP (xp hr6)) ?_ (cm rfl rfl rfl rfl (aQ (bx rfl) cz) (xp hr6) (.inr rfl) rfl)
   refine dq [17] [] (bA kF) rfl (aK rfl rfl) ?_
   obtain⟨r7,hr7,h⟩:=bS h
   refine dq [] [] (.agg [I r7.Day,.hs 305 0 [] 1 0 (r7.Facts.map str).length,.hs 306 0 [] 4 0 (r7.Duties.map ah).length,.hs 307 0 [] 1 0 (r7.Balances.map I).length,B r7.Over]) rfl (cP (xr hr7)) ?_ (cm rfl rfl rfl rfl (aQ (bx rfl) cz) (xr hr7) (.inr rfl) rfl)
   refine dk 1 [29] [I gZ] ?_
   obtain⟨r8,hr8,h⟩:=bS h
   refine dq [273,274,305,306,307] [] (.tup [str r8.1,B r8.2]) rfl (bR rfl rfl (cn rfl rfl rfl (aQ (sF (dU (ew (f:=str) (g:=str) (xs:=r6.Parties) rfl rfl (ci gl)) (dU (ew (f:=bd) (g:=ap) (xs:=r6.Clauses) rfl rfl (ci gA)) gL))) (aQ (sF (dU (f7 rfl) (dU (ew (f:=str) (g:=str) (xs:=r7.Facts) rfl rfl (ci gl)) (dU (ew (f:=ah) (g:=ah) (xs:=r7.Duties) rfl rfl (ci iX)) (dU (ew (f:=I) (g:=I) (xs:=r7.Balances) rfl rfl (ci jw)) (dU (f7 rfl) gL)))))) (aQ (bx rfl) cz))) (VJ hr8) (.inl rfl) dT rfl rfl rfl)) ?_ (cm rfl rfl rfl rfl (aQ (sF (dU (ew (f:=str) (g:=str) (xs:=r6.Parties) rfl rfl (ci gl)) (dU (ew (f:=bd) (g:=ap) (xs:=r6.Clauses) rfl rfl (ci gA)) gL))) (aQ (sF (dU (f7 rfl) (dU (ew (f:=str) (g:=str) (xs:=r7.Facts) rfl rfl (ci gl)) (dU (ew (f:=ah) (g:=ah) (xs:=r7.Duties) rfl rfl (ci iX)) (dU (ew (f:=I) (g:=I) (xs:=r7.Balances) rfl rfl (ci jw)) (dU (f7 rfl) gL)))))) (aQ (bx rfl) cz))) (VJ hr8) (.inl rfl) rfl)
   refine dk 5 [9,8,32,31,24] [B r8.2,str r8.1,B r8.2,str r8.1,.tup [str r8.1,B r8.2]] ?_
   refine de 433 rfl rfl ?_
   refine cq 3 [33] [aM kE] 449 ?_
   obtain⟨r9,hr9,h⟩:=bS h
   refine oq 465 (.agg [.hs 449 0 [] 1 0 (r9.Parties.map str).length,.hs 450 0 [] 12 0 (r9.Clauses.map bd).length]) rfl (cP (xp hr9)) ?_
   refine ck 1 [10] [] [465] [] [.hp 465 0 [] 2 0 0] [some ⟨0,2,[.agg [.isl true [],.isl true []]]⟩] 481 (by kernel_rfl) ?_
   refine fY 465 [.agg [.usl 1 (([]).map str),.usl 12 (([]).map bd)]] rfl rfl (aR (im (aR (.nil _) (aR (.nil _) eV))) eV) ?_
   refine o0 497 rfl rfl (gb rfl rfl (fm (path:=[]) (pl:=false) (e':=.agg [.usl 1 (r9.Parties.map str),.usl 12 (r9.Clauses.map bd)]) (es2':=[.agg [.usl 1 (r9.Parties.map str),.usl 12 (r9.Clauses.map bd)]]) rfl (pF (cM (dR rfl rfl) (cM (dR rfl rfl) pG))) rfl rfl rfl aU rfl rfl rfl rfl rfl eK 2 rfl)) ?_
   refine cq 4 [35] [bA kF] 513 ?_
   obtain⟨r10,hr10,h⟩:=bS h
   refine oq 529 (.agg [I r10.Day,.hs 513 0 [] 1 0 (r10.Facts.map str).length,.hs 514 0 [] 4 0 (r10.Duties.map ah).length,.hs 515 0 [] 1 0 (r10.Balances.map I).length,B r10.Over]) rfl (cP (xr hr10)) ?_
   refine ck 1 [11] [] [529] [] [.hp 529 0 [] 5 0 0] [some ⟨0,5,[.agg [I (0),.isl true [],.isl true [],.isl true [],B false]]⟩] 545 (by kernel_rfl) ?_
   refine fY 529 [.agg [I (0),.usl 1 (([]).map str),.usl 4 (([]).map ah),.usl 1 (([]).map I),B false]] rfl rfl (aR (im (aR (.refl _) (aR (.nil _) (aR (.nil _) (aR (.nil _) (aR (.refl _) eV)))))) eV) ?_
   refine o0 561 rfl rfl (gb rfl rfl (fm (path:=[]) (pl:=false) (e':=.agg [I r10.Day,.usl 1 (r10.Facts.map str),.usl 4 (r10.Duties.map ah),.usl 1 (r10.Balances.map I),B r10.Over]) (es2':=[.agg [I r10.Day,.usl 1 (r10.Facts.map str),.usl 4 (r10.Duties.map ah),.usl 1 (r10.Balances.map I),B r10.Over]]) rfl (pF (cM (dx rfl) (cM (dR rfl rfl) (cM (dR rfl rfl) (cM (dR rfl rfl) (cM (dx rfl) pG)))))) rfl rfl rfl aU rfl rfl rfl rfl rfl eK 2 rfl)) ?_
   refine cq 6 [38,39,40] [.agg [.hs 465 2 [(0,0)] 1 0 (r9.Parties.map str).length,.hs 465 2 [(0,1)] 12 0 (r9.Clauses.map bd).length],.agg [I r10.Day,.hs 529 2 [(0,1)] 1 0 (r10.Facts.map str).length,.hs 529 2 [(0,2)] 4 0 (r10.Duties.map ah).length,.hs 529 2 [(0,3)] 1 0 (r10.Balances.map I).length,B r10.Over],I gZ] 609 ?_
   obtain⟨r11,hr11,h⟩:=bS h
   refine oq 625 (.tup [str r11.1,B r11.2]) rfl (bR rfl rfl (cn rfl rfl rfl (aQ (sF (dU (kR (path:=[(0,0)]) rfl rfl (gE rfl rfl aU) rfl (ci (f:=str) gl)) (dU (kR (path:=[(0,1)]) rfl rfl (gE rfl rfl aU) rfl (ci (f:=bd) gA)) gL))) (aQ (sF (dU (f7 rfl) (dU (kR (path:=[(0,1)]) rfl rfl (gE rfl rfl aU) rfl (ci (f:=str) gl)) (dU (kR (path:=[(0,2)]) rfl rfl (gE rfl rfl aU) rfl (ci (f:=ah) iX)) (dU (kR (path:=[(0,3)]) rfl rfl (gE rfl rfl aU) rfl (ci (f:=I) jw)) (dU (f7 rfl) gL)))))) (aQ (bx rfl) cz))) (agL hr11) (.inl rfl) dT rfl rfl rfl)) ?_
   refine cq 13 [13,47] [B r11.2,B (!(r11.1==r8.1))] 769 ?_
   obtain⟨u12,hu12,h⟩:=lJ h
   have j12:Run iK 0 (lD (kE,kF,gZ) r) (.code (cR (cL (cR (cR (cR (cR (cR (cR (cR (cR (cR (cR gq))))))))))))::.code (cR (cR (cR (cR (cR (cR (cR (cR (cR (cR (cR gq)))))))))))::[]) (sT 62 [(3,.hp 1 0 [] 2 0 0),(4,.hp 2 0 [] 5 0 0),(10,.hp 3 0 [] 2 0 0),(11,.hp 4 0 [] 5 0 0),(51,B u12)] [⟨0,2,[aM kE]⟩,⟨0,5,[bA kF]⟩,⟨0,2,[.agg [.usl 1 (r9.Parties.map str),.usl 12 (r9.Clauses.map bd)]]⟩,⟨0,5,[.agg [I r10.Day,.usl 1 (r10.Facts.map str),.usl 4 (r10.Duties.map ah),.usl 1 (r10.Balances.map I),B r10.Over]]⟩] 5):=by
    refine sq h ?_ ?_<;>intro h
    ·refine cq 4 [6] [B false] 21 ?_
     obtain rfl:=sI h
     exact rP [B false]
    ·refine aq 1 ?_
     refine aq 2 ?_
     refine dt [0,0,2,7,15] rfl (by decide +kernel) ?_
     refine dq [3] [] (.agg [.hs 3 0 [(0,0)] 1 0 (r9.Parties.map str).length,.hs 3 0 [(0,1)] 12 0 (r9.Clauses.map bd).length]) rfl (aK rfl rfl) ?_
     refine dq [1] [] (aM kE) rfl (aK rfl rfl) ?_
     obtain⟨r13,hr13,h⟩:=bS h
     refine dq [] [] (.agg [.hs 37 0 [] 1 0 (r13.Parties.map str).length,.hs 38 0 [] 12 0 (r13.Clauses.map bd).length]) rfl (cP (xp hr13)) ?_ (cm rfl rfl rfl rfl (aQ (bx rfl) cz) (xp hr13) (.inr rfl) rfl)
     obtain⟨r14,hr14,h⟩:=bS h
     refine dq [3,3,37,38] [] (B r14) rfl (bR rfl rfl (cn rfl rfl rfl (aQ (sF (dU (kR (path:=[(0,0)]) rfl rfl (gE rfl rfl aU) rfl (ci (f:=str) gl)) (dU (kR (path:=[(0,1)]) rfl rfl (gE rfl rfl aU) rfl (ci (f:=bd) gA)) gL))) (aQ (sF (dU (ew (f:=str) (g:=str) (xs:=r13.Parties) rfl rfl (ci gl)) (dU (ew (f:=bd) (g:=ap) (xs:=r13.Clauses) rfl rfl (ci gA)) gL))) cz)) (TV hr14) (.inl rfl) dT rfl rfl rfl)) ?_ (cm rfl rfl rfl rfl (aQ (sF (dU (kR (path:=[(0,0)]) rfl rfl (gE rfl rfl aU) rfl (ci (f:=str) gl)) (dU (kR (path:=[(0,1)]) rfl rfl (gE rfl rfl aU) rfl (ci (f:=bd) gA)) gL))) (aQ (sF (dU (ew (f:=str) (g:=str) (xs:=r13.Parties) rfl rfl (ci gl)) (dU (ew (f:=bd) (g:=ap) (xs:=r13.Clauses) rfl rfl (ci gA)) gL))) cz)) (TV hr14) (.inl rfl) rfl)
     refine dk 1 [56] [B (!r14)] ?_
     refine de 85 rfl rfl ?_
     refine sq h ?_ ?_<;>intro h
     ·refine cq 4 [6] [B false] 101 ?_
      obtain rfl:=sI h
      exact rP [B false]
     ·refine aq 1 ?_
      refine aq 2 ?_
      refine dt [0,0,2,7,15] rfl (by decide +kernel) ?_
      refine dq [4] [] (.agg [I r10.Day,.hs 4 0 [(0,1)] 1 0 (r10.Facts.map str).length,.hs 4 0 [(0,2)] 4 0 (r10.Duties.map ah).length,.hs 4 0 [(0,3)] 1 0 (r10.Balances.map I).length,B r10.Over]) rfl (aK rfl rfl) ?_
      refine dq [2] [] (bA kF) rfl (aK rfl rfl) ?_
      obtain⟨r15,hr15,h⟩:=bS h
      refine dq [] [] (.agg [I r15.Day,.hs 117 0 [] 1 0 (r15.Facts.map str).length,.hs 118 0 [] 4 0 (r15.Duties.map ah).length,.hs 119 0 [] 1 0 (r15.Balances.map I).length,B r15.Over]) rfl (cP (xr hr15)) ?_ (cm rfl rfl rfl rfl (aQ (bx rfl) cz) (xr hr15) (.inr rfl) rfl)
      obtain⟨r16,hr16,h⟩:=bS h
      refine dq [4,4,4,117,118,119] [] (B r16) rfl (bR rfl rfl (cn rfl rfl rfl (aQ (sF (dU (f7 rfl) (dU (kR (path:=[(0,1)]) rfl rfl (gE rfl rfl aU) rfl (ci (f:=str) gl)) (dU (kR (path:=[(0,2)]) rfl rfl (gE rfl rfl aU) rfl (ci (f:=ah) iX)) (dU (kR (path:=[(0,3)]) rfl rfl (gE rfl rfl aU) rfl (ci (f:=I) jw)) (dU (f7 rfl) gL)))))) (aQ (sF (dU (f7 rfl) (dU (ew (f:=str) (g:=str) (xs:=r15.Facts) rfl rfl (ci gl)) (dU (ew (f:=ah) (g:=ah) (xs:=r15.Duties) rfl rfl (ci iX)) (dU (ew (f:=I) (g:=I) (xs:=r15.Balances) rfl rfl (ci jw)) (dU (f7 rfl) gL)))))) cz)) (T8 hr16) (.inl rfl) dT rfl rfl rfl)) ?_ (cm rfl rfl rfl rfl (aQ (sF (dU (f7 rfl) (dU (kR (path:=[(0,1)]) rfl rfl (gE rfl rfl aU) rfl (ci (f:=str) gl)) (dU (kR (path:=[(0,2)]) rfl rfl (gE rfl rfl aU) rfl (ci (f:=ah) iX)) (dU (kR (path:=[(0,3)]) rfl rfl (gE rfl rfl aU) rfl (ci (f:=I) jw)) (dU (f7 rfl) gL)))))) (aQ (sF (dU (f7 rfl) (dU (ew (f:=str) (g:=str) (xs:=r15.Facts) rfl rfl (ci gl)) (dU (ew (f:=ah) (g:=ah) (xs:=r15.Duties) rfl rfl (ci iX)) (dU (ew (f:=I) (g:=I) (xs:=r15.Balances) rfl rfl (ci jw)) (dU (f7 rfl) gL)))))) cz)) (T8 hr16) (.inl rfl) rfl)
      refine dk 1 [61] [B (!r16)] ?_
      refine de 165 rfl rfl ?_
      refine sq h ?_ ?_<;>intro h
      ·refine cq 4 [6] [B false] 181 ?_
       obtain rfl:=sI h
       exact rP [B false]
      ·refine aq 1 ?_
       refine cq 4 [6] [B true] 181 ?_
       obtain rfl:=sI h
       exact rP [B true]
   replace h:=hu12
   clear hu12
   refine sp 47 h rfl ?_ ?_<;>intro h
   ·refine cq 5 [51] [B true] 833 ?_
    subst h
    exact rf [3,4,10,11,51] [1,17,465,529] (j12 :)
   ·refine cq 5 [51] [B (!(r11.2==r8.2))] 833 ?_
    subst h
    exact rf [3,4,10,11,51] [1,17,465,529] (j12 :)
theorem pO {G:bT}[TabG Tryz.prog G]:bQ G 11 iq:=gT 3 0 (aL Uq (aL Uw (aL UL (aL UW (aL VK (aL ZX (aL TW (aL T9 bu)))))))) bW Tryz.func11 (fun a r h=>qA a.1 a.2.1 a.2.2 r h)
end Go.Ln
