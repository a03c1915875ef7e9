/-
  The walks.
-/
import Derived.Test.YtcfddlacocdpoaaGreatDoorFnExactActionStatusRunA
set_option maxHeartbeats 4000000
set_option linter.unusedVariables false
set_option linter.unusedSimpArgs false
set_option maxRecDepth 100000
namespace Go.Ln
open Go Go.Proofs
theorem Sq (cW:(Condition×(List ac))→Option (List ac))(c_3:Condition)(d8:List ac):ct (Mn cW) 1 (Iy cW (c_3,d8)) (cL (cL (cR (cL (cR (cR Sp)))))) 0 (o9 cW c_3 d8) (fun u=>(sO 27 [(1,.hs 2 0 [] 1 0 (u.map str).length)] [none,some ⟨0,1,u.map str⟩] 3)) fun x4=>(sO 27 [(1,.hs 2 0 [] 1 0 (x4.2.map str).length),(16,.isl false (c_3.Parts.map aB)),(17,I (len c_3.Parts)),(18,I x4.1)] [none,some ⟨0,1,x4.2.map str⟩] 3):=ez (IA cW c_3 d8) fun {Q K} hK self ih x4 y h hr hn=>by
 unfold mf at h
 refine cq 5 [19] [B (decide (x4.1<(len c_3.Parts)))] 19 ?_
 refine sq h ?_ ?_<;>intro h
 ·refine aq 1 ?_
  refine aq 4 ?_
  obtain⟨e5,he5,h⟩:=bS h
  refine oq 35 (.iptr (ai e5) 0) rfl (al rfl rfl rfl (aW rfl rfl (bU e5) rfl he5)) ?_
  refine ck 2 [6,21] [] [51] [] [.hp 51 0 [] 4 0 0,ai e5] [some ⟨0,4,[.agg [I (0),str ([]),I (0),.isl true []]]⟩] 67 (by kernel_rfl) ?_
  refine fK 51 [.agg [I (0),str ([]),I (0),.usl 4 (([]).map aF)]] rfl rfl (aJ (gC (aJ (.refl _) (aJ (.refl _) (aJ (.refl _) (aJ (.nil _) eF))))) eF) ?_
  refine ck 5 [22,23] [] [51] [] [ai e5,.hs 2 0 [] 1 0 (x4.2.map str).length] [some ⟨2,4,[ai e5]⟩] 115 (by kernel_rfl) ?_
  obtain⟨r6,hr6,h⟩:=bS h
  refine oq 131 (.hs 115 0 [] 1 0 (r6.map str).length) rfl (bM rfl rfl (b7 rfl rfl rfl (aR (bo rfl) (lL (kI rfl (gH (path:=[]) rfl rfl aQ rfl)) cS)) (Xj cW hr6) (.inr rfl) (jO rfl rfl rfl oI dH) rfl rfl rfl)) ?_
  refine cq 7 [1,18] [.hs 115 0 [] 1 0 (r6.map str).length,I (aj (x4.1+1))] 179 ?_
  refine dC ?_
  exact rg [1,16,17,18] [180,115] (ih _ _ h hr hn :)
 ·refine aq 1 ?_
  exact rg [1] [20,2] (hn _ (ak h) :) (hk:=hK)
theorem acU (cW:(Condition×(List ac))→Option (List ac))(c_3:Condition)(d8:List ac)(r:(List ac))(h:zK cW c_3 d8=some r):bq (Mn cW) Tryz.f142 [false,true] 1 (Ix (c_3,d8)) (Iz r):=by
 show Run _ _ (Iy cW (c_3,d8) r) [.code Sp] _
 refine rI 27 [(0,ai c_3),(1,.hs 1 0 [] 1 0 (d8.map str).length)] [(1,some ⟨0,1,d8.map str⟩)] 2 ?_
 unfold zK at h
 refine ck 12 [2,9] [] [2] [] [.hp 2 0 [] 4 0 0,B (c_3.Op==2)] [some ⟨0,4,[ai c_3]⟩] 82 (by kernel_rfl) ?_
 obtain⟨y3,hy3,hy31,hy32⟩:=bJ h
 have j3:∀u3,y3=.inr u3→Run (Mn cW) 1 (Iy cW (c_3,d8) r) (.code (cR (cR Sp))::[]) (sO 27 [(1,.hs 2 0 [] 1 0 (u3.map str).length),(2,.hp 3 0 [] 4 0 0)] [none,some ⟨0,1,u3.map str⟩,some ⟨0,4,[ai c_3]⟩] 4):=by
  intro u3 hu
  replace h:=hy32 u3 hu
  refine cq 5 [16] [.isl false (c_3.Parts.map aB)] 36 ?_
  refine oq 52 (I (len c_3.Parts)) rfl (bA rfl rfl rfl (bR rfl)) ?_
  refine cq 3 [18] [I (0)] 68 ?_
  obtain⟨y7,hy7,hy71,hy72⟩:=bJ h
  refine bV rfl ?_
  refine rg [1,16,17,18] [69,2] (Sq cW c_3 d8 rfl (0,u3) _ hy7 (fun r' e st hq=>by rw[hy71 r' e] at hq;exact hq) fun u7 hu=>?_)
  replace h:=hy72 u7 hu
  refine cq 5 [4] [.hs 2 0 [] 1 0 (u7.map str).length] 35 ?_
  obtain rfl:=sI h
  exact ci rfl ⟨_,fin (vs:=[.hs 2 0 [] 1 0 (u7.map str).length]) rfl (fU (fC rfl (cZ rfl rfl)) eg) rfl (dh (mp rfl (rJ rfl) fa)),wJ eW⟩
 have r3:∀r',y3=.inl r'→∀st,Iy cW (c_3,d8) r' st→(Iy cW (c_3,d8) r) st:=fun r' e st hq=>by rw[hy31 r' e] at hq;exact hq
 replace h:=hy3
 refine sq h ?_ ?_<;>intro h
 ·refine cq 4 [10,12] [.hs 1 0 [] 1 0 (d8.map str).length,str c_3.Name] 130 ?_
  refine oq 146 (.hs 130 0 [] 1 0 1) rfl (eB rfl (ka (f:=I) (xs:=[]) (z:=str ([])) (es:=[str c_3.Name]) (ws:=[str c_3.Name]) rfl rfl rfl (by decide) rfl (dR rfl) rfl)) ?_
  obtain⟨a8,ha8,h⟩:=bS h
  refine oq 162 (.hs 146 0 [] 1 0 (a8.map str).length) rfl (iP rfl rfl rfl rfl rfl (lf (path:=[]) (f:=str) (xs:=d8) (ys:=[c_3.Name]) rfl rfl (vL rfl rfl rfl) rfl rfl rfl aQ rfl (by decide) kL ha8 rfl nM)) ?_
  refine cq 2 [1] [.hs 146 0 [] 1 0 (a8.map str).length] 178 ?_
  exact rg [1,2] [179,146,2] (j3 _ (ak h) :)
 ·refine aq 1 ?_
  exact rg [1,2] [83,1,2] (j3 _ (ak h) :)
theorem aaA {G:bZ}:bW G 142 Kl:=jg fun cW g_Ffi=>gT 2 1 (aO g_Ffi bv) ca Tryz.func142 (fun a r h=>acU cW a.1 a.2 r h)
def PE:Shelf.Ren:=⟨fun | 190=>177 | 125=>192 | 258=>191 | 128=>214 | 129=>215 | 302=>205 | 303=>206 | 304=>207 | 305=>208 | 306=>209 | 307=>210 | 308=>211 | 309=>212 | 310=>213 | 333=>226 | 329=>227 | 330=>228 | 334=>229 | 335=>230 | 336=>231 | 344=>236 | n=>n,fun | 31=>22 | 9=>9 | 3=>3 | 46=>158 | 0=>0 | 51=>195 | 53=>181 | 4=>4 | 183=>188 | 182=>187 | 131=>43 | 5=>5 | 218=>199 | 222=>203 | 228=>211 | 229=>212 | n=>n,fun | n=>n⟩
theorem abT:Go.Proofs.Lays.n190 Tryz.prog PE where
 mixed:=by kernel_rfl
 f125:=Tryz.func192.trans (congrArg some (by kernel_rfl))
 f128:=Tryz.func214.trans (congrArg some (by kernel_rfl))
 f129:=Tryz.func215.trans (congrArg some (by kernel_rfl))
 f190:=Tryz.func177.trans (congrArg some (by kernel_rfl))
 f258:=Tryz.func191.trans (congrArg some (by kernel_rfl))
 f302:=Tryz.func205.trans (congrArg some (by kernel_rfl))
 f303:=Tryz.func206.trans (congrArg some (by kernel_rfl))
 f304:=Tryz.func207.trans (congrArg some (by kernel_rfl))
 f305:=Tryz.func208.trans (congrArg some (by kernel_rfl))
 f306:=Tryz.func209.trans (congrArg some (by kernel_rfl))
 f307:=Tryz.func210.trans (congrArg some (by kernel_rfl))
 f308:=Tryz.func211.trans (congrArg some (by kernel_rfl))
 f309:=Tryz.func212.trans (congrArg some (by kernel_rfl))
 f310:=Tryz.func213.trans (congrArg some (by kernel_rfl))
 f329:=Tryz.func227.trans (congrArg some (by kernel_rfl))
 f330:=Tryz.func228.trans (congrArg some (by kernel_rfl))
 f333:=Tryz.func226.trans (congrArg some (by kernel_rfl))
 f334:=Tryz.func229.trans (congrArg some (by kernel_rfl))
 f335:=Tryz.func230.trans (congrArg some (by kernel_rfl))
 f336:=Tryz.func231.trans (congrArg some (by kernel_rfl))
 f344:=Tryz.func236.trans (congrArg some (by kernel_rfl))
 t0:=Tryz.underlying0
 a0:=Tryz.isAgg0
 z0:=Tryz.sizeOf0
 v0:=Tryz.zeroValue0
 t3:=Tryz.underlying3
 a3:=Tryz.isAgg3
 z3:=Tryz.sizeOf3
 v3:=Tryz.zeroValue3
 t4:=Tryz.underlying4
 a4:=Tryz.isAgg4
 z4:=Tryz.sizeOf4
 v4:=Tryz.zeroValue4
 t5:=Tryz.underlying5
 a5:=Tryz.isAgg5
 z5:=Tryz.sizeOf5
 v5:=Tryz.zeroValue5
 t9:=Tryz.underlying9
 a9:=Tryz.isAgg9
 z9:=Tryz.sizeOf9
 v9:=Tryz.zeroValue9
 t31:=Tryz.underlying22
 a31:=Tryz.isAgg22
 z31:=Tryz.sizeOf22
 v31:=Tryz.zeroValue22
 t46:=Tryz.underlying158
 a46:=Tryz.isAgg158
 z46:=Tryz.sizeOf158
 v46:=Tryz.zeroValue158
 t51:=Tryz.underlying195
 a51:=Tryz.isAgg195
 z51:=Tryz.sizeOf195
 v51:=Tryz.zeroValue195
 t53:=Tryz.underlying181
 a53:=Tryz.isAgg181
 z53:=Tryz.sizeOf181
 v53:=Tryz.zeroValue181
 t131:=Tryz.underlying43
 a131:=Tryz.isAgg43
 z131:=Tryz.sizeOf43
 v131:=Tryz.zeroValue43
 t182:=Tryz.underlying187
 a182:=Tryz.isAgg187
 z182:=Tryz.sizeOf187
 v182:=Tryz.zeroValue187
 t183:=Tryz.underlying188
 a183:=Tryz.isAgg188
 z183:=Tryz.sizeOf188
 v183:=Tryz.zeroValue188
 t218:=Tryz.underlying199
 a218:=Tryz.isAgg199
 z218:=Tryz.sizeOf199
 v218:=Tryz.zeroValue199
 t222:=Tryz.underlying203
 a222:=Tryz.isAgg203
 z222:=Tryz.sizeOf203
 v222:=Tryz.zeroValue203
 t228:=Tryz.underlying211
 a228:=Tryz.isAgg211
 z228:=Tryz.sizeOf211
 v228:=Tryz.zeroValue211
 t229:=Tryz.underlying212
 a229:=Tryz.isAgg212
 z229:=Tryz.sizeOf212
 v229:=Tryz.zeroValue212
noncomputable def xc :=bf [true] (oA (sU 1 str)) (fun r=>(.tup [],[.usl 1 (r.map str)])) vO
theorem abS {l:List ac}{r}(h:vO l=some r):xc.F [.usl 1 (l.map str)]=some (.tup [],[.usl 1 (r.map str)]):=aL (ea:=oA (sU 1 str)) (aM (ju bx)) h
theorem QV {G:bZ}:bW G 177 xc:=ST abT
def F5:(List ac)→List V:=oA (sU 1 str)
def F7 (r:(List ac)):V×List V:=(.usl 1 (r.map str),[.dead])
noncomputable def C2 :=bf [true] F5 F7 fun x=>C1 x
theorem afC {s_2:List ac}{r}(h:C1 s_2=some r):C2.F (F5 s_2)=some (F7 r):=aL (aM (ju bx)) h
noncomputable def Nw :=aG Tryz.f178
noncomputable abbrev JS :=cL (cL (cR (cL (cR (cL (cR (cL (cL (cR (cL (cL (cR (cL (cR (cR Nw)))))))))))))))
noncomputable def xM :=b9 []
def F6 (x:(List ac))(r:(List ac)):St→Prop:=QF xM Tryz.f178 [true] (F5 x) (F7 r)
theorem PV (s_2:List ac)(x2:Int):ct xM 1 (F6 s_2) JS 2 (ls s_2 x2) (fun u=>(sO 61 [(0,.hs 2 0 [] 1 0 (u.2.map str).length),(3,I u.1)] [none,some ⟨0,1,u.2.map str⟩] 3)) fun x6=>(sO 61 [(0,.hs 2 0 [] 1 0 (x6.2.2.map str).length),(3,I x6.1),(4,.hs 2 0 [] 1 (0+Int.toNat x2) (Int.toNat (len s_2) - Int.toNat x2)),(5,I x6.2.1)] [none,some ⟨0,1,x6.2.2.map str⟩] 3):=ez (AC s_2 x2) fun {Q K} hK self ih x6 y h hr hn=>by
 unfold lV at h
 refine cq 8 [32] [B (decide (x6.2.1<(((Int.toNat (len s_2) - Int.toNat x2):Nat):Int)))] 67 ?_
 refine sq h ?_ ?_<;>intro h
 ·refine aq 1 ?_
  refine aq 3 ?_
  refine dV [0,0,3,7,0,0,32,112,240,511] rfl (by decide +kernel) ?_
  refine dk 2 [36,35] [I x6.2.1,.hs 2 0 [] 1 (0+Int.toNat x2) (Int.toNat (len s_2) - Int.toNat x2)] ?_
  obtain⟨e7,he7,h⟩:=bS h
  refine dq [2] [] (.hp 2 0 [] 1 ((0+Int.toNat x2)+Int.toNat x6.2.1) 0) rfl (al rfl rfl rfl (S3 (xs:=x6.2.2) rfl rfl he7)) ?_
  refine dq [2] [] (str e7) rfl (aU rfl (gq (path:=[]) rfl rfl rfl aQ (OZ (f:=str) (xs:=x6.2.2) he7) rfl rfl rfl)) ?_
  refine dk 3 [41,40,39] [I (aj (x6.2.1 - 1)),I x6.2.1,.hs 2 0 [] 1 (0+Int.toNat x2) (Int.toNat (len s_2) - Int.toNat x2)] ?_
  obtain⟨e8,he8,h⟩:=bS h
  refine dq [2] [] (.hp 2 0 [] 1 ((0+Int.toNat x2)+Int.toNat (aj (x6.2.1 - 1))) 0) rfl (al rfl rfl rfl (S3 (xs:=x6.2.2) rfl rfl he8)) ?_
  refine dq [2] [] (str e8) rfl (aU rfl (gq (path:=[]) rfl rfl rfl aQ (OZ (f:=str) (xs:=x6.2.2) he8) rfl rfl rfl)) ?_
  refine dk 1 [44] [B (!(e7==e8))] ?_
  refine de 227 rfl rfl ?_
  obtain⟨y9,hy9,hy91,hy92⟩:=bL h
  have j9:∀u9,y9=.inr u9→Run xM 1 Q (.blk 3::.code (cR (cR JS))::.lp JS::.blk 2::K) (sO 61 [(0,.hs 2 0 [] 1 0 (u9.2.map str).length),(3,I u9.1),(4,.hs 2 0 [] 1 (0+Int.toNat x2) (Int.toNat (len s_2) - Int.toNat x2)),(5,I x6.2.1)] [none,some ⟨0,1,u9.2.map str⟩] 3):=by
   intro u9 hu
   replace h:=hy92 u9 hu
   refine cq 6 [5] [I (aj (x6.2.1+1))] 51 ?_
   refine dC ?_
   exact rg [0,3,4,5] [52,2] (ih _ _ h hr hn :)
  have r9:∀r',y9=.inl r'→∀st,F6 s_2 r' st→Q st:=fun r' e st hq=>hr r' (hy91 r' e) st hq
  replace h:=hy9
  refine sq h ?_ ?_<;>intro h
  ·refine cq 6 [45,46,47,48] [.hs 2 0 [] 1 0 (x6.2.2.map str).length,I x6.1,.hs 2 0 [] 1 (0+Int.toNat x2) (Int.toNat (len s_2) - Int.toNat x2),I x6.2.1] 291 ?_
   obtain⟨e10,he10,h⟩:=bS h
   refine oq 307 (.hp 2 0 [] 1 ((0+Int.toNat x2)+Int.toNat x6.2.1) 0) rfl (al rfl rfl rfl (S3 (xs:=x6.2.2) rfl rfl he10)) ?_
   refine oq 323 (str e10) rfl (aU rfl (gq (path:=[]) rfl rfl rfl aQ (OZ (f:=str) (xs:=x6.2.2) he10) rfl rfl rfl)) ?_
   obtain⟨e11,he11,h⟩:=bS h
   refine oq 339 (.hp 2 0 [] 1 (0+Int.toNat x6.1) 0) rfl (al rfl rfl rfl (d7 (f:=str) (xs:=x6.2.2) rfl rfl rfl he11)) ?_
   refine o0 355 rfl rfl (fZ rfl rfl (eX (path:=[]) (pl:=true) (e':=str e10) (es2':=(dM x6.2.2 x6.1 e10).map str) rfl (eb rfl) rfl rfl rfl aQ (dD (f:=str) (xs:=x6.2.2) he11) rfl rfl rfl (i9 (f:=str) (xs:=x6.2.2) (y:=e10)) ee 0 rfl)) ?_
   try rw[←io (f:=str) (xs:=x6.2.2) (i:=x6.1) (z:=e10)]
   refine cq 6 [3] [I (aj (x6.1+1))] 403 ?_
   exact rg [0,3,4,5] [404,2] (j9 _ (ak h) :)
  ·refine aq 1 ?_
   exact rg [0,3,4,5] [228,2] (j9 _ (ak h) :)
 ·refine aq 1 ?_
  exact rg [0,3] [68,2] (hn _ (ak h) :) (hk:=hK)
theorem PU (s_2:List ac):ct xM 1 (F6 s_2) (cL (cL (cR (cL (cR (cR Nw)))))) 0 (rU s_2) (fun u=>(sO 61 [(0,.hs 2 0 [] 1 0 (u.map str).length)] [none,some ⟨0,1,u.map str⟩] 3)) fun x2=>(sO 61 [(0,.hs 2 0 [] 1 0 (s_2.map str).length),(3,I x2)] [none,some ⟨0,1,s_2.map str⟩] 3):=ez (AB s_2) fun {Q K} hK self ih x2 y h hr hn=>by
 unfold lU at h
 refine cq 5 [10,11] [I x2,.hs 2 0 [] 1 0 (s_2.map str).length] 35 ?_
 refine oq 51 (I (len s_2)) rfl (bA rfl rfl rfl (rD (f:=str) (xs:=s_2) rfl rfl)) ?_
 refine cq 2 [13] [B (decide (x2<(len s_2)))] 67 ?_
 refine sq h ?_ ?_<;>intro h
 ·refine aq 1 ?_
  refine aq 3 ?_
  refine dV [0,0,3,7,0,0,32,112,240,511] rfl (by decide +kernel) ?_
  refine dk 2 [17,16] [I x2,.hs 2 0 [] 1 0 (s_2.map str).length] ?_
  obtain⟨e3,he3,h⟩:=bS h
  refine dq [2] [] (.hp 2 0 [] 1 (0+Int.toNat x2) 0) rfl (al rfl rfl rfl (d7 (f:=str) (xs:=s_2) rfl rfl rfl he3)) ?_
  refine dq [2] [] (str e3) rfl (aU rfl (gq (path:=[]) rfl rfl rfl aQ (dD (f:=str) (xs:=s_2) he3) rfl rfl rfl)) ?_
  refine dk 3 [22,21,20] [I (aj (x2 - 1)),I x2,.hs 2 0 [] 1 0 (s_2.map str).length] ?_
  obtain⟨e4,he4,h⟩:=bS h
  refine dq [2] [] (.hp 2 0 [] 1 (0+Int.toNat (aj (x2 - 1))) 0) rfl (al rfl rfl rfl (d7 (f:=str) (xs:=s_2) rfl rfl rfl he4)) ?_
  refine dq [2] [] (str e4) rfl (aU rfl (gq (path:=[]) rfl rfl rfl aQ (dD (f:=str) (xs:=s_2) he4) rfl rfl rfl)) ?_
  refine dk 1 [25] [B (e3==e4)] ?_
  refine de 227 rfl rfl ?_
  refine sq h ?_ ?_<;>intro h
  ·refine cq 4 [26,27] [.hs 2 0 [] 1 0 (s_2.map str).length,I x2] 259 ?_
   obtain⟨s5,hs5,h⟩:=bS h
   refine oq 275 (.hs 2 0 [] 1 (0+Int.toNat x2) (Int.toNat (len s_2) - Int.toNat x2)) rfl (iK rfl rfl rfl rfl (vJ (f:=str) (xs:=s_2) rfl rfl rfl rfl (aaU rfl) hs5)) ?_
   refine cq 8 [4,5] [.hs 2 0 [] 1 (0+Int.toNat x2) (Int.toNat (len s_2) - Int.toNat x2),I (1)] 307 ?_
   obtain⟨y15,hy15,hy151,hy152⟩:=bL h
   refine bV rfl ?_
   refine rg [0,3,4,5] [308,2] (PV s_2 x2 rfl (x2,1,s_2) _ hy15 (fun r' e st hq=>hr r' (hy151 r' e) st hq) fun u15 hu=>?_)
   replace h:=hy152 u15 hu
   refine cq 4 [54,55] [.hs 2 0 [] 1 0 (u15.2.map str).length,I u15.1] 35 ?_
   obtain⟨s16,hs16,h⟩:=bS h
   refine oq 51 (.hs 2 0 [] 1 (0+Int.toNat u15.1) (Int.toNat (len u15.2) - Int.toNat u15.1)) rfl (iK rfl rfl rfl rfl (vJ (f:=str) (xs:=u15.2) rfl rfl rfl rfl (aaU rfl) hs16)) ?_
   obtain⟨k17,hk17,h⟩:=bS h
   refine o0 67 rfl rfl (adw rfl rfl (ahT (f:=str) (xs:=u15.2) (z0:=[]) rfl rfl rfl rfl (by decide) nL hk17)) ?_
   try rw[show (u15.2.map str).length=(k17.map str).length from ads hk17]
   refine cq 5 [57,58] [.hs 2 0 [] 1 0 (k17.map str).length,I u15.1] 99 ?_
   obtain⟨s18,hs18,h⟩:=bS h
   refine oq 115 (.hs 2 0 [] 1 (0+Int.toNat (0)) (Int.toNat u15.1 - Int.toNat (0))) rfl (iK rfl rfl rfl rfl (vJ (f:=str) (xs:=k17) rfl rfl rfl rfl rfl hs18)) ?_
   refine cq 2 [2] [.hs 2 0 [] 1 (0+Int.toNat (0)) (Int.toNat u15.1 - Int.toNat (0))] 131 ?_
   obtain⟨p19,hp19,h⟩:=bS h
   exact ci rfl (hr _ (ak h) _ ⟨_,fin (vs:=[.hs 2 0 [] 1 (0+Int.toNat (0)) (Int.toNat u15.1 - Int.toNat (0))]) rfl (fU (fC rfl (Xr (path:=[]) (f:=str) (xs:=k17) rfl rfl aQ hp19 rfl nM)) eg) rfl (mp rfl (rJ rfl) fa),wJ eW⟩)
  ·refine aq 1 ?_
   refine cq 6 [3] [I (aj (x2+1))] 275 ?_
   refine dC ?_
   exact rg [0,3] [276,2] (ih _ _ h hr hn :)
 ·refine aq 1 ?_
  exact rg [0] [68,2] (hn _ (ak h) :) (hk:=hK)
theorem Zy (s_2:List ac)(r:(List ac))(h:C1 s_2=some r):bq xM Tryz.f178 [true] 1 (F5 s_2) (F7 r):=by
 show Run _ _ (F6 s_2 r) [.code Nw] _
 refine rI 61 [(0,.hs 1 0 [] 1 0 (s_2.map str).length)] [(1,some ⟨0,1,s_2.map str⟩)] 2 ?_
 unfold C1 at h
 refine cq 8 [6] [.hs 1 0 [] 1 0 (s_2.map str).length] 34 ?_
 refine oq 50 (I (len s_2)) rfl (bA rfl rfl rfl (rD (f:=str) (xs:=s_2) rfl rfl)) ?_
 refine cq 2 [8] [B (decide ((len s_2)<2))] 66 ?_
 refine sq h ?_ ?_<;>intro h
 ·refine cq 5 [2] [.hs 1 0 [] 1 0 (s_2.map str).length] 98 ?_
  obtain rfl:=sI h
  exact ci rfl ⟨_,fin (vs:=[.hs 1 0 [] 1 0 (s_2.map str).length]) rfl (fU (fC rfl (cZ rfl rfl)) eg) rfl (mp rfl (rJ rfl) fa),wJ eW⟩
 ·refine aq 1 ?_
  refine cq 6 [3] [I (1)] 82 ?_
  obtain⟨y20,hy20,hy201,hy202⟩:=bJ h
  refine bV rfl ?_
  refine rg [0,3] [83,1] (PU s_2 rfl 1 _ hy20 (fun r' e st hq=>by rw[hy201 r' e] at hq;exact hq) fun u20 hu=>?_)
  replace h:=hy202 u20 hu
  refine cq 5 [2] [.hs 2 0 [] 1 0 (u20.map str).length] 35 ?_
  obtain rfl:=sI h
  exact ci rfl ⟨_,fin (vs:=[.hs 2 0 [] 1 0 (u20.map str).length]) rfl (fU (fC rfl (cZ rfl rfl)) eg) rfl (mp rfl (rJ rfl) fa),wJ eW⟩
theorem Vs {G:bZ}:bW G 178 C2:=gT 1 1 bv ca Tryz.func178 (fun a r h=>Zy a r h)
def EZ:(List ac)→List V:=oA (sU 1 str)
def E0 (r:(List ac)):V×List V:=(.usl 1 (r.map str),[.dead])
noncomputable def B9 :=bf [true] EZ E0 fun x=>B8 x
theorem aey {ks:List ac}{r}(h:B8 ks=some r):B9.F (EZ ks)=some (E0 r):=aL (aM (ju bx)) h
noncomputable def aeA :=aG Tryz.f143
noncomputable def TQ :=b9 [(177,xc),(178,C2)]
def aez (x:(List ac))(r:(List ac)):St→Prop:=QF TQ Tryz.f143 [true] (EZ x) (E0 r)
theorem YR (ks:List ac)(r:(List ac))(h:B8 ks=some r):bq TQ Tryz.f143 [true] 1 (EZ ks) (E0 r):=by
 show Run _ _ (aez ks r) [.code aeA] _
 refine rI 7 [(0,.hs 1 0 [] 1 0 (ks.map str).length)] [(1,some ⟨0,1,ks.map str⟩)] 2 ?_
 unfold B8 at h
 refine cq 7 [3] [.hs 1 0 [] 1 0 (ks.map str).length] 34 ?_
 obtain⟨r2,hr2,h⟩:=bS h
 obtain⟨g3,h⟩:=gG h
 refine oq 50 (.tup []) rfl (bM rfl rfl (b7 rfl rfl rfl (lL (kI rfl (gH (path:=[]) rfl rfl aQ rfl)) cS) (abS hr2) (.inr rfl) (jO rfl rfl rfl rfl dH) rfl rfl rfl)) ?_
 try rw[i8 (f:=str) (xs:=ks) (ys:=r2) g3]
 refine cq 4 [5] [.hs 1 0 [] 1 0 (r2.map str).length] 66 ?_
 obtain⟨r4,hr4,h⟩:=bS h
 refine oq 82 (.hs 66 0 [] 1 0 (r4.map str).length) rfl (bM rfl rfl (b7 rfl rfl rfl (lL (kI rfl (gH (path:=[]) rfl rfl aQ rfl)) cS) (afC hr4) (.inr rfl) (jO rfl rfl rfl oI dH) rfl rfl rfl)) ?_
 refine cq 2 [2] [.hs 66 0 [] 1 0 (r4.map str).length] 98 ?_
 obtain rfl:=sI h
 exact ci rfl ⟨_,fin (vs:=[.hs 66 0 [] 1 0 (r4.map str).length]) rfl (fU (fC rfl (cZ rfl rfl)) eg) rfl (mp rfl (rJ rfl) fa),wJ eW⟩
theorem TR {G:bZ}:bW G 143 B9:=gT 1 1 (aO QV (aO Vs bv)) ca Tryz.func143 (fun a r h=>YR a r h)
def MB:Contract→List V:=oA aV
def MD (r:(List ac)):V×List V:=(.usl 1 (r.map str),[])
noncomputable def vn :=bf [false] MB MD fun x=>vm x
theorem MC {c_1:Contract}{r}(h:vm c_1=some r):vn.F (MB c_1)=some (MD r):=aL (aM bc) h
noncomputable def acf :=aG Tryz.f101
noncomputable def Sw :=b9 [(142,Kl),(143,B9)]
def ace (x:Contract)(r:(List ac)):St→Prop:=QF Sw Tryz.f101 [false] (MB x) (MD r)
theorem Sx (c_1:Contract):ct Sw 0 (ace c_1) (cL (cL (cR (cL (cR (cR acf)))))) 0 (qJ c_1) (fun u=>(sT 25 [(3,.hs 1 0 [] 1 0 (u.map str).length)] [⟨0,1,u.map str⟩] 2)) fun x2=>(sT 25 [(3,.hs 1 0 [] 1 0 (x2.2.map str).length),(8,.isl false (c_1.Clauses.map ao)),(9,I (len c_1.Clauses)),(10,I x2.1)] [⟨0,1,x2.2.map str⟩] 2):=ez (IO c_1) fun {Q K} hK self ih x2 y h hr hn=>by
 unfold nE at h
 refine cq 5 [11] [B (decide (x2.1<(len c_1.Clauses)))] 18 ?_
 refine sq h ?_ ?_<;>intro h
 ·refine aq 1 ?_
  refine aq 4 ?_
  obtain⟨e3,he3,h⟩:=bS h
  refine oq 34 (.iptr (ap e3) 0) rfl (al rfl rfl rfl (aW rfl rfl rfl rfl he3)) ?_
  refine ck 2 [5,13] [] [50] [] [.hp 50 0 [] 12 0 0,ap e3] [some ⟨0,12,[.agg [str ([]),I (0),I (0),str ([]),I (0),I (0),I (0),str ([]),I (0),.isl true [],I (0),str ([])]]⟩] 66 (by kernel_rfl) ?_
  refine fK 50 [.agg [str ([]),I (0),I (0),str ([]),I (0),I (0),I (0),str ([]),I (0),.usl 4 (([]).map aF),I (0),str ([])]] rfl rfl (aJ (gC (aJ (.refl _) (aJ (.refl _) (aJ (.refl _) (aJ (.refl _) (aJ (.refl _) (aJ (.refl _) (aJ (.refl _) (aJ (.refl _) (aJ (.refl _) (aJ (.nil _) (aJ (.refl _) (aJ (.refl _) eF))))))))))))) eF) ?_
  refine ck 2 [] [] [50] [] [] [some ⟨2,12,[ap e3]⟩] 82 (by kernel_rfl) ?_
  refine dV [0,1,0,0,8,24,60,127,255] rfl (by decide +kernel) ?_
  refine dq [50] [] (.hp 50 0 [] 12 0 6) rfl (an rfl rfl rfl) ?_
  refine dq [50] [] (ai e3.When) rfl (aU rfl rfl) ?_
  refine dk 1 [16] [.hs 1 0 [] 1 0 (x2.2.map str).length] ?_
  refine dq [50] [] (.hp 50 0 [] 12 0 3) rfl (an rfl rfl rfl) ?_
  refine dq [50] [] (str e3.Action) rfl (aU rfl rfl) ?_
  refine dq [] [] (.hs 162 0 [] 1 0 1) rfl (eB rfl (ka (f:=I) (xs:=[]) (z:=str ([])) (es:=[str e3.Action]) (ws:=[str e3.Action]) rfl rfl rfl (by decide) rfl (dR rfl) rfl)) ?_
  obtain⟨a4,ha4,h⟩:=bS h
  refine dq [1,162] [1] (.hs 178 0 [] 1 0 (a4.map str).length) rfl (iP rfl rfl rfl rfl rfl (lf (path:=[]) (f:=str) (xs:=x2.2) (ys:=[e3.Action]) rfl rfl (vL rfl rfl rfl) rfl rfl rfl aQ rfl (by decide) kL ha4 rfl nM)) ?_ (JK rfl (IY (path:=[]) (f:=str) (xs:=[e3.Action]) rfl rfl aQ nL rfl))
  obtain⟨r5,hr5,h⟩:=bS h
  refine dq [178] [178] (.hs 194 0 [] 1 0 (r5.map str).length) rfl (bM rfl rfl (b7 rfl rfl rfl (aR (bo rfl) (lL (kI rfl (gH (path:=[]) rfl rfl aQ rfl)) cS)) (ab6 hr5) (.inr rfl) (jO rfl rfl rfl oI dH) rfl rfl rfl)) ?_ (dK rfl rfl rfl rfl (aR (bo rfl) (lL (kI rfl (gH (path:=[]) rfl rfl aQ rfl)) cS)) (ab6 hr5) (.inr rfl) rfl)
  refine dk 1 [3] [.hs 194 0 [] 1 0 (r5.map str).length] ?_
  refine de 226 rfl rfl ?_
  refine cq 5 [10] [I (aj (x2.1+1))] 258 ?_
  refine dC ?_
  exact rf [3,8,9,10] [194] (ih _ _ h hr hn :)
 ·refine aq 1 ?_
  exact rf [3] [1] (hn _ (ak h) :) (hk:=hK)
theorem ac4 (c_1:Contract)(r:(List ac))(h:vm c_1=some r):bq Sw Tryz.f101 [false] 0 (MB c_1) (MD r):=by
 show Run _ _ (ace c_1 r) [.code acf] _
 refine rI 25 [(0,aa c_1)] [] 1 ?_
 unfold vm at h
 refine ck 7 [1] [] [1] [] [.hp 1 0 [] 2 0 0] [some ⟨0,2,[aa c_1]⟩] 33 (by kernel_rfl) ?_
 refine oq 49 (.hs 33 0 [] 1 0 0) rfl (eB rfl (ka (f:=I) (xs:=[]) (z:=str ([])) (es:=[]) (ws:=[]) rfl rfl rfl (by decide) rfl (dR rfl) rfl)) ?_
 refine cq 7 [3,8] [.hs 33 0 [] 1 0 0,.isl false (c_1.Clauses.map ao)] 97 ?_
 refine oq 113 (I (len c_1.Clauses)) rfl (bA rfl rfl rfl (bR rfl)) ?_
 refine cq 3 [10] [I (0)] 129 ?_
 obtain⟨y6,hy6,hy61,hy62⟩:=bJ h
 refine bV rfl ?_
 refine rf [3,8,9,10] [33] (Sx c_1 rfl (0,[]) _ hy6 (fun r' e st hq=>by rw[hy61 r' e] at hq;exact hq) fun u6 hu=>?_)
 replace h:=hy62 u6 hu
 refine cq 3 [23] [.hs 1 0 [] 1 0 (u6.map str).length] 18 ?_
 obtain⟨r7,hr7,h⟩:=bS h
 refine oq 34 (.hs 18 0 [] 1 0 (r7.map str).length) rfl (bM rfl rfl (b7 rfl rfl rfl (lL (kI rfl (gH (path:=[]) rfl rfl aQ rfl)) cS) (aey hr7) (.inr rfl) (jO rfl rfl rfl oI dH) rfl rfl rfl)) ?_
 refine cq 2 [2] [.hs 18 0 [] 1 0 (r7.map str).length] 50 ?_
 obtain rfl:=sI h
 exact ci rfl ⟨_,fin (vs:=[.hs 18 0 [] 1 0 (r7.map str).length]) rfl (fU (fC rfl (cZ rfl rfl)) eg) rfl (dh fa),eW⟩
theorem D7 {G:bZ}:bW G 101 vn:=gT 1 0 (aO aaA (aO TR bv)) ca Tryz.func101 (fun a r h=>ac4 a r h)
def Me:Contract→List V:=oA aV
def Mg (r:Bool):V×List V:=(B r,[])
noncomputable def Kj :=bf [false] Me Mg fun x=>N7 x
theorem ahp {c_1:Contract}{r}(h:N7 c_1=some r):Kj.F (Me c_1)=some (Mg r):=aL (aM bc) h
noncomputable def Mh :=aG Tryz.f47
noncomputable def Mf :=b9 [(98,Km),(100,Kt),(101,vn),(99,jb)]
def Im (x:Contract)(r:Bool):St→Prop:=QF Mf Tryz.f47 [false] (Me x) (Mg r)
theorem Sm (c_1:Contract):ct Mf 0 (Im c_1) (cL (cL (cR (cL (cR (cR Mh)))))) 0 (o7 c_1) (fun u=>(sT 30 [(1,.hp 1 0 [] 2 0 0)] [⟨0,2,[aa c_1]⟩] 2)) fun x4=>(sT 30 [(1,.hp 1 0 [] 2 0 0),(17,I (len c_1.Clauses)),(18,I x4)] [⟨0,2,[aa c_1]⟩] 2):=ez (Io c_1) fun {Q K} hK self ih x4 y h hr hn=>by
 unfold nB at h
 refine cq 5 [19] [B (decide (x4<(len c_1.Clauses)))] 18 ?_
 refine sq h ?_ ?_<;>intro h
 ·refine aq 1 ?_
  refine cq 11 [21,22] [aa c_1,I x4] 82 ?_
  obtain⟨r5,hr5,h⟩:=bS h
  refine oq 98 (B r5) rfl (cP (ahE hr5)) ?_
  refine cq 2 [24] [B (!r5)] 114 ?_
  refine sq h ?_ ?_<;>intro h
  ·refine cq 4 [2] [B false] 130 ?_
   exact ci rfl (hr _ (ak h) _ (qp [B false]))
  ·refine aq 1 ?_
   refine cq 5 [18] [I (aj (x4+1))] 146 ?_
   refine dC ?_
   exact rf [1,17,18] [1] (ih _ _ h hr hn :)
 ·refine aq 1 ?_
  exact rf [1] [1] (hn _ (ak h) :) (hk:=hK)
theorem acP (c_1:Contract)(r:Bool)(h:N7 c_1=some r):bq Mf Tryz.f47 [false] 0 (Me c_1) (Mg r):=by
 show Run _ _ (Im c_1 r) [.code Mh] _
 refine rI 30 [(0,aa c_1)] [] 1 ?_
 unfold N7 at h
 refine ck 10 [1,5] [] [1] [] [.hp 1 0 [] 2 0 0,.isl false (c_1.Parties.map str)] [some ⟨0,2,[aa c_1]⟩] 65 (by kernel_rfl) ?_
 obtain⟨r2,hr2,h⟩:=bS h
 refine oq 81 (B r2) rfl (cP (ahr hr2)) ?_
 refine cq 2 [8] [B (!r2)] 113 ?_
 obtain⟨y3,hy3,hy31,hy32⟩:=bJ h
 have j3:∀u3,y3=.inr u3→Run Mf 0 (Im c_1 r) (.code (cR (cL (cR Mh)))::.code (cR (cR Mh))::[]) (sT 30 [(1,.hp 1 0 [] 2 0 0),(14,B u3)] [⟨0,2,[aa c_1]⟩] 2):=by
  intro u3 hu
  replace h:=hy32 u3 hu
  refine sq h ?_ ?_<;>intro h
  ·refine cq 4 [2] [B false] 18 ?_
   obtain rfl:=sI h
   exact rP [B false]
  ·refine aq 1 ?_
   refine cq 5 [16] [.isl false (c_1.Clauses.map ao)] 34 ?_
   refine oq 50 (I (len c_1.Clauses)) rfl (bA rfl rfl rfl (bR rfl)) ?_
   refine cq 3 [18] [I (0)] 66 ?_
   obtain⟨y6,hy6,hy61,hy62⟩:=bJ h
   refine bV rfl ?_
   refine rf [1,17,18] [1] (Sm c_1 rfl 0 _ hy6 (fun r' e st hq=>by rw[hy61 r' e] at hq;exact hq) fun u6 hu=>?_)
   replace h:=hy62 u6 hu
   refine cq 3 [26] [aa c_1] 18 ?_
   obtain⟨r7,hr7,h⟩:=bS h
   refine oq 34 (.hs 18 0 [] 1 0 (r7.map str).length) rfl (cP (MC hr7)) ?_
   refine oq 50 (I (len r7)) rfl (bA rfl rfl rfl (rD (f:=str) (xs:=r7) rfl rfl)) ?_
   refine cq 3 [2] [B (decide ((len r7)≤16))] 82 ?_
   obtain rfl:=sI h
   exact rP [B (decide ((len r7)≤16))]
 have r3:∀r',y3=.inl r'→∀st,Im c_1 r' st→(Im c_1 r) st:=fun r' e st hq=>by rw[hy31 r' e] at hq;exact hq
 replace h:=hy3
 refine sp 8 h rfl ?_ ?_<;>intro h
 ·refine cq 7 [14] [B true] 209 ?_
  exact rf [1,14] [1] (j3 _ (ak h) :)
 ·refine cq 2 [10] [.isl false (c_1.Clauses.map ao)] 145 ?_
  refine oy 161 (I (len c_1.Clauses)) rfl (bA rfl rfl rfl (bR rfl)) ?_
  obtain⟨r8,hr8,h⟩:=bS h
  refine oy 177 (B r8) rfl (cP (ja hr8)) ?_
  refine cq 3 [14] [B (!r8)] 209 ?_
  exact rf [1,14] [1] (j3 _ (ak h) :)
theorem aax {G:bZ}:bW G 47 Kj:=gT 1 0 (aO aaB (aO aaI (aO D7 (aO jv bv)))) ca Tryz.func47 (fun a r h=>acP a r h)
def MS:(List ac)→List V:=oA (fP str)
def MU (r:Bool):V×List V:=(B r,[])
noncomputable def Ky :=bf [false] MS MU fun x=>Ol x
theorem ahR {cu:List ac}{r}(h:Ol cu=some r):Ky.F (MS cu)=some (MU r):=aL (aM (bC bx)) h
noncomputable def acl :=aG Tryz.f158
noncomputable abbrev vp :=cL (cL (cR (cL (cR acl))))
noncomputable abbrev Xn :=cR (cR (cL (cL (cR (cR vp)))))
noncomputable def IQ :=b9 [(81,pU)]
def MT (x:(List ac))(r:Bool):St→Prop:=QF IQ Tryz.f158 [false] (MS x) (MU r)
theorem Sz (cu:List ac):ct IQ 0 (MT cu) vp 0 (pb cu) (fun u=>(sT 32 [(0,.isl false (cu.map str))] [] 1)) fun x2=>(sT 32 [(0,.isl false (cu.map str)),(5,.isl false (cu.map str)),(6,I (len cu)),(7,I x2)] [] 1):=ez (IR cu) fun {Q K} hK self ih x2 y h hr hn=>by
 unfold nF at h
 refine cq 5 [8] [B (decide (x2<(len cu)))] 17 ?_
 refine sq h ?_ ?_<;>intro h
 ·refine aq 1 ?_
  refine cq 5 [9] [I x2] 33 ?_
  obtain⟨e3,he3,h⟩:=bS h
  refine oq 49 (.iptr (str e3) 0) rfl (al rfl rfl rfl (aW rfl rfl rfl rfl he3)) ?_
  refine cq 7 [3,4,12] [I x2,str e3,str e3] 113 ?_
  obtain⟨r4,hr4,h⟩:=bS h
  refine oq 129 (B r4) rfl (cP (zI hr4)) ?_
  refine cq 2 [15] [B (!r4)] 161 ?_
  obtain⟨y5,hy5,hy51,hy52⟩:=bL h
  have j5:∀u5,y5=.inr u5→Run IQ 0 Q (.code Xn::.blk 1::.code (cR (cR (cR vp)))::.lp vp::.blk 0::K) (sT 32 [(0,.isl false (cu.map str)),(5,.isl false (cu.map str)),(6,I (len cu)),(7,I x2),(27,B u5)] [] 1):=by
   intro u5 hu
   replace h:=hy52 u5 hu
   refine sq h ?_ ?_<;>intro h
   ·refine cq 4 [2] [B false] 17 ?_
    exact ci rfl (hr _ (ak h) _ (qp [B false]))
   ·refine aq 1 ?_
    refine cq 5 [7] [I (aj (x2+1))] 33 ?_
    refine dC ?_
    exact rf [0,5,6,7] [] (ih _ _ h hr hn :)
  have r5:∀r',y5=.inl r'→∀st,MT cu r' st→Q st:=fun r' e st hq=>hr r' (hy51 r' e) st hq
  replace h:=hy5
  refine sp 15 h rfl ?_ ?_<;>intro h
  ·refine cq 13 [27] [B true] 353 ?_
   exact rf [0,5,6,7,27] [] (j5 _ (ak h) :)
  ·refine cq 3 [18] [B (decide (x2>0))] 209 ?_
   obtain⟨y6,hy6,hy61,hy62⟩:=bL h
   have j6:∀u6,y6=.inr u6→Run IQ 0 Q (.code Xn::.blk 1::.code (cR (cR (cR vp)))::.lp vp::.blk 0::K) (sT 32 [(0,.isl false (cu.map str)),(5,.isl false (cu.map str)),(6,I (len cu)),(7,I x2),(27,B u6)] [] 1):=by
    intro u6 hu
    replace h:=hy62 u6 hu
    exact rf [0,5,6,7,27] [] (j5 _ (ak h) :)
   have r6:∀r',y6=.inl r'→∀st,MT cu r' st→Q st:=fun r' e st hq=>r5 r' (hy61 r' e) st hq
   replace h:=hy6
   refine sp 18 h rfl ?_ ?_<;>intro h
   ·refine cq 4 [19,20,22] [str e3,.isl false (cu.map str),I (aj (x2 - 1))] 273 ?_
    obtain⟨e7,he7,h⟩:=bS h
    refine oy 289 (.iptr (str e7) 0) rfl (al rfl rfl rfl (aW rfl rfl rfl rfl he7)) ?_
    refine cq 5 [27] [B (Op.bytesLess e3 e7||e3==e7)] 353 ?_
    exact rf [0,5,6,7,27] [] (j6 _ (ak h) :)
   ·refine cq 10 [27] [B false] 353 ?_
    exact rf [0,5,6,7,27] [] (j6 _ (ak h) :)
 ·refine aq 1 ?_
  exact rf [0] [] (hn _ (ak h) :) (hk:=hK)
theorem adc (cu:List ac)(r:Bool)(h:Ol cu=some r):bq IQ Tryz.f158 [false] 0 (MS cu) (MU r):=by
 show Run _ _ (MT cu r) [.code acl] _
 refine rI 32 [(0,.isl false (cu.map str))] [] 1 ?_
 unfold Ol at h
 refine cq 8 [5] [.isl false (cu.map str)] 33 ?_
 refine oq 49 (I (len cu)) rfl (bA rfl rfl rfl (bR rfl)) ?_
 refine cq 3 [7] [I (0)] 65 ?_
 obtain⟨y8,hy8,hy81,hy82⟩:=bJ h
 refine bV rfl ?_
 refine rf [0,5,6,7] [] (Sz cu rfl 0 _ hy8 (fun r' e st hq=>by rw[hy81 r' e] at hq;exact hq) fun u8 hu=>?_)
 replace h:=hy82 u8 hu
 refine cq 3 [29] [.isl false (cu.map str)] 17 ?_
 refine oq 33 (I (len cu)) rfl (bA rfl rfl rfl (bR rfl)) ?_
 refine cq 3 [2] [B (decide ((len cu)≤16))] 65 ?_
 obtain rfl:=sI h
 exact rP [B (decide ((len cu)≤16))]
theorem aaN {G:bZ}:bW G 158 Ky:=gT 1 0 (aO su bv) ca Tryz.func158 (fun a r h=>adc a r h)
def EH:(ac×(List ac))→List V:=cA str (oA (fun x:List ac=>.iptr ((fP str) x) 0))
def EI (r:Bool):V×List V:=(B r,[])
noncomputable def BW :=bf [false,false] EH EI fun x=>BV x.1 x.2
theorem aee {f_1:ac}{a_2:List ac}{r}(h:BV f_1 a_2=some r):BW.F (EH (f_1,a_2))=some (EI r):=aL (aH bx (aM (eZ (bC bx)))) h
noncomputable def aeg :=aG Tryz.f160
noncomputable def Tz :=b9 [(129,pN)]
def aef (x:ac×(List ac))(r:Bool):St→Prop:=QF Tz Tryz.f160 [false,false] (EH x) (EI r)
theorem YJ (f_1:ac)(a_2:List ac)(r:Bool)(h:BV f_1 a_2=some r):bq Tz Tryz.f160 [false,false] 0 (EH (f_1,a_2)) (EI r):=by
 show Run _ _ (aef (f_1,a_2) r) [.code aeg] _
 refine rI 8 [(0,str f_1),(1,.iptr (.isl false (a_2.map str)) 0)] [] 1 ?_
 unfold BV at h
 refine cq 8 [4,5] [.isl false (a_2.map str),str f_1] 49 ?_
 obtain⟨r3,hr3,h⟩:=bS h
 refine oq 65 (B r3) rfl (cP (Gl hr3)) ?_
 refine cq 3 [3] [B (!r3)] 97 ?_
 obtain rfl:=sI h
 exact rP [B (!r3)]
theorem TA {G:bZ}:bW G 160 BW:=gT 2 0 (aO te bv) ca Tryz.func160 (fun a r h=>YJ a.1 a.2 r h)
def GA:((List ac)×(List ac))→List V:=cA (fP str) (oA (fun x:(List ac)=>(.fn 160 [.iptr ((fP str) x) 0]:V)))
def GB (r:Int):V×List V:=(I r,[])
noncomputable def De :=bf [false,false] GA GB fun x=>J6 x.1 x.2
theorem af0 {s_1:List ac}{f_2:(List ac)}{r}(h:J6 s_1 f_2=some r):De.F (GA (s_1,f_2))=some (GB r):=aL (aH (bC bx) (aM (i7 (bC bx)))) h
noncomputable def VX :=aG Tryz.f182
noncomputable def ND :=b9 [(160,BW)]
def VW (x:(List ac)×(List ac))(r:Int):St→Prop:=QF ND Tryz.f182 [false,false] (GA x) (GB r)
theorem P2 (s_1:List ac)(f_2:(List ac)):ct ND 0 (VW (s_1,f_2)) (cL (cL (cR (cL (cR VX))))) 0 (uH s_1 f_2) (fun u=>(sT 19 [] [] 1)) fun x3=>(sT 19 [(0,.isl false (s_1.map str)),(1,.fn 160 [.iptr (.isl false (f_2.map str)) 0]),(7,I (len s_1)),(8,I x3)] [] 1):=ez (AJ s_1 f_2) fun {Q K} hK self ih x3 y h hr hn=>by
 unfold ol at h
 refine cq 5 [9] [B (decide (x3<(len s_1)))] 17 ?_
 refine sq h ?_ ?_<;>intro h
 ·refine aq 1 ?_
  refine cq 12 [5,11,12,13] [I x3,.fn 160 [.iptr (.isl false (f_2.map str)) 0],.isl false (s_1.map str),I x3] 97 ?_
  obtain⟨e4,he4,h⟩:=bS h
  refine oq 113 (.iptr (str e4) 0) rfl (al rfl rfl rfl (aW rfl rfl rfl rfl he4)) ?_
  refine cq 1 [15] [str e4] 129 ?_
  obtain⟨r5,hr5,h⟩:=bS h
  refine oq 145 (B r5) rfl (cP (aee hr5)) ?_
  refine aq 1 ?_
  refine sq h ?_ ?_<;>intro h
  ·refine cq 5 [4] [I x3] 177 ?_
   exact ci rfl (hr _ (ak h) _ (qp [I x3]))
  ·refine aq 1 ?_
   refine cq 5 [8] [I (aj (x3+1))] 177 ?_
   refine dC ?_
   exact rf [0,1,7,8] [] (ih _ _ h hr hn :)
 ·refine aq 1 ?_
  exact rf [] [] (hn _ (ak h) :) (hk:=hK)
theorem ZM (s_1:List ac)(f_2:(List ac))(r:Int)(h:J6 s_1 f_2=some r):bq ND Tryz.f182 [false,false] 0 (GA (s_1,f_2)) (GB r):=by
 show Run _ _ (VW (s_1,f_2) r) [.code VX] _
 refine rI 19 [(0,.isl false (s_1.map str)),(1,.fn 160 [.iptr (.isl false (f_2.map str)) 0])] [] 1 ?_
 unfold J6 at h
 refine cq 8 [6] [.isl false (s_1.map str)] 33 ?_
 refine oq 49 (I (len s_1)) rfl (bA rfl rfl rfl (bR rfl)) ?_
 refine cq 3 [8] [I (0)] 65 ?_
 obtain⟨y6,hy6,hy61,hy62⟩:=bJ h
 refine bV rfl ?_
 refine rf [0,1,7,8] [] (P2 s_1 f_2 rfl 0 _ hy6 (fun r' e st hq=>by rw[hy61 r' e] at hq;exact hq) fun u6 hu=>?_)
 replace h:=hy62 u6 hu
 refine cq 4 [4] [I (-1)] 17 ?_
 obtain rfl:=sI h
 exact rP [I (-1)]
theorem VY {G:bZ}:bW G 182 De:=gT 2 0 (aO TA bv) ca Tryz.func182 (fun a r h=>ZM a.1 a.2 r h)
def Gi:((List ac)×(List ac))→List V:=cA (fP str) (oA (fun x:(List ac)=>(.fn 160 [.iptr ((fP str) x) 0]:V)))
def Gj (r:Bool):V×List V:=(B r,[])
noncomputable def C7 :=bf [false,false] Gi Gj fun x=>JY x.1 x.2
theorem afP {s_1:List ac}{f_2:(List ac)}{r}(h:JY s_1 f_2=some r):C7.F (Gi (s_1,f_2))=some (Gj r):=aL (aH (bC bx) (aM (i7 (bC bx)))) h
noncomputable def afR :=aG Tryz.f159
noncomputable def VB :=b9 [(182,De)]
def afQ (x:(List ac)×(List ac))(r:Bool):St→Prop:=QF VB Tryz.f159 [false,false] (Gi x) (Gj r)
theorem ZE (s_1:List ac)(f_2:(List ac))(r:Bool)(h:JY s_1 f_2=some r):bq VB Tryz.f159 [false,false] 0 (Gi (s_1,f_2)) (Gj r):=by
 show Run _ _ (afQ (s_1,f_2) r) [.code afR] _
 refine rI 9 [(0,.isl false (s_1.map str)),(1,.fn 160 [.iptr (.isl false (f_2.map str)) 0])] [] 1 ?_
 unfold JY at h
 refine cq 8 [5,6] [.isl false (s_1.map str),.fn 160 [.iptr (.isl false (f_2.map str)) 0]] 49 ?_
 obtain⟨r3,hr3,h⟩:=bS h
 refine oq 65 (I r3) rfl (bM rfl rfl (b7 rfl rfl rfl (aR (bo rfl) (aR (mt (dZ (gl rfl) ib)) cS)) (af0 hr3) (.inr rfl) dH rfl rfl rfl)) ?_
 refine cq 3 [4] [B (decide (r3≥0))] 97 ?_
 obtain rfl:=sI h
 exact rP [B (decide (r3≥0))]
theorem VC {G:bZ}:bW G 159 C7:=gT 2 0 (aO VY bv) ca Tryz.func159 (fun a r h=>ZE a.1 a.2 r h)
def E1:(List Int)→List V:=oA (fP I)
def E2 (r:Int):V×List V:=(I r,[])
noncomputable def Ca :=bf [false] E1 E2 fun x=>xp x
theorem aeB {ay:List Int}{r}(h:xp ay=some r):Ca.F (E1 ay)=some (E2 r):=aL (aM (bC bd)) h
noncomputable def TU :=aG Tryz.f161
noncomputable def M8 :=b9 []
def TS (x:(List Int))(r:Int):St→Prop:=QF M8 Tryz.f161 [false] (E1 x) (E2 r)
theorem PG (ay:List Int):ct M8 0 (TS ay) (cL (cL (cR (cL (cR (cR TU)))))) 0 (JP ay) (fun u=>(sT 17 [(3,I u)] [] 1)) fun x2=>(sT 17 [(3,I x2.1),(6,.isl false (ay.map I)),(7,I (len ay)),(8,I x2.2)] [] 1):=ez (PF ay) fun {Q K} hK self ih x2 y h hr hn=>by
 unfold sY at h
 refine cq 5 [9] [B (decide (x2.2<(len ay)))] 17 ?_
 refine sq h ?_ ?_<;>intro h
 ·refine aq 1 ?_
  refine aq 4 ?_
  obtain⟨e3,he3,h⟩:=bS h
  refine oq 33 (.iptr (I e3) 0) rfl (al rfl rfl rfl (aW rfl rfl rfl rfl he3)) ?_
  refine cq 14 [3,8] [I (aj (x2.1+e3)),I (aj (x2.2+1))] 161 ?_
  refine dC ?_
  exact rf [3,6,7,8] [] (ih _ _ h hr hn :)
 ·refine aq 1 ?_
  exact rf [3] [] (hn _ (ak h) :) (hk:=hK)
theorem YT (ay:List Int)(r:Int)(h:xp ay=some r):bq M8 Tryz.f161 [false] 0 (E1 ay) (E2 r):=by
 show Run _ _ (TS ay r) [.code TU] _
 refine rI 17 [(0,.isl false (ay.map I))] [] 1 ?_
 unfold xp at h
 refine cq 12 [3,6] [I (0),.isl false (ay.map I)] 49 ?_
 refine oq 65 (I (len ay)) rfl (bA rfl rfl rfl (bR rfl)) ?_
 refine cq 3 [8] [I (0)] 81 ?_
 obtain⟨y4,hy4,hy41,hy42⟩:=bJ h
 refine bV rfl ?_
 refine rf [3,6,7,8] [] (PG ay rfl (0,0) _ hy4 (fun r' e st hq=>by rw[hy41 r' e] at hq;exact hq) fun u4 hu=>?_)
 replace h:=hy42 u4 hu
 refine cq 5 [2] [I u4] 33 ?_
 obtain rfl:=sI h
 exact rP [I u4]
theorem TV {G:bZ}:bW G 161 Ca:=gT 1 0 bv ca Tryz.func161 (fun a r h=>YT a r h)
def MM:(Clause×Contract×Int)→List V:=cA ao (cA (fun x:Contract=>.iptr (aV x) 0) (oA (fun x:Int=>.iptr (I x) 0)))
def MN (r:Bool):V×List V:=(B r,[])
noncomputable def Kv :=bf [false,false,false] MM MN fun x=>Oj x.1 x.2.1 x.2.2
theorem ahK {x_1:Clause}{a_2:Contract}{a_3:Int}{r}(h:Oj x_1 a_2 a_3=some r):Kv.F (MM (x_1,a_2,a_3))=some (MN r):=aL (aH cG (aH (eZ bc) (aM (eZ bd)))) h
noncomputable def ahM :=aG Tryz.f195
noncomputable def acj :=b9 []
def ahL (x:Clause×Contract×Int)(r:Bool):St→Prop:=QF acj Tryz.f195 [false,false,false] (MM x) (MN r)
theorem ac9 (x_1:Clause)(a_2:Contract)(a_3:Int)(r:Bool)(h:Oj x_1 a_2 a_3=some r):bq acj Tryz.f195 [false,false,false] 0 (MM (x_1,a_2,a_3)) (MN r):=by
 show Run _ _ (ahL (x_1,a_2,a_3) r) [.code ahM] _
 refine rI 14 [(0,ap x_1),(1,.iptr (aa a_2) 0),(2,.iptr (I a_3) 0)] [] 1 ?_
 unfold Oj at h
 refine ck 6 [3] [] [1] [] [.hp 1 0 [] 12 0 0] [some ⟨0,12,[ap x_1]⟩] 33 (by kernel_rfl) ?_
 refine dV [0,1,0,4,0,28,60,124,255,511] rfl (by decide +kernel) ?_
 refine dq [1] [] (.hp 1 0 [] 12 0 11) rfl (an rfl rfl rfl) ?_
 refine dq [1] [] (str x_1.Repair) rfl (aU rfl rfl) ?_
 refine dq [] [] (.iptr (aa a_2) 1) rfl (an rfl rfl rfl) ?_
 refine dq [] [] (.isl false (a_2.Clauses.map ao)) rfl (aU rfl rfl) ?_
 refine dq [] [] (I a_3) rfl (aU rfl rfl) ?_
 obtain⟨e4,he4,h⟩:=bS h
 refine dq [] [] (.iptr (ap e4) 0) rfl (al rfl rfl rfl (aW rfl rfl rfl rfl he4)) ?_
 refine dq [] [] (.iptr (ap e4) 0) rfl (an rfl rfl rfl) ?_
 refine dq [] [] (str e4.Id) rfl (aU rfl rfl) ?_
 refine dk 2 [4,13] [B (x_1.Repair==e4.Id),B (x_1.Repair==e4.Id)] ?_
 refine de 193 rfl rfl ?_
 obtain rfl:=sI h
 exact rP [B (x_1.Repair==e4.Id)]
theorem aaK {G:bZ}:bW G 195 Kv:=gT 3 0 bv ca Tryz.func195 (fun a r h=>ac9 a.1 a.2.1 a.2.2 r h)
def Gq:((List Clause)×(Contract×Int))→List V:=cA (fP ao) (oA (fun x:Contract×Int=>(.fn 195 [.iptr (aV x.1) 0,.iptr (I x.2) 0]:V)))
def Gr (r:Int):V×List V:=(I r,[])
noncomputable def C9 :=bf [false,false] Gq Gr fun x=>J0 x.1 x.2
theorem afV {s_1:List Clause}{f_2:Contract×Int}{r}(h:J0 s_1 f_2=some r):C9.F (Gq (s_1,f_2))=some (Gr r):=aL (aH (bC cG) (aM (KI bc bd))) h
noncomputable def VI :=aG Tryz.f110
noncomputable def Ny :=b9 [(195,Kv)]
def VH (x:(List Clause)×(Contract×Int))(r:Int):St→Prop:=QF Ny Tryz.f110 [false,false] (Gq x) (Gr r)
theorem PX (s_1:List Clause)(f_2:Contract×Int):ct Ny 0 (VH (s_1,f_2)) (cL (cL (cR (cL (cR VI))))) 0 (uC s_1 f_2) (fun u=>(sT 19 [] [] 1)) fun x3=>(sT 19 [(0,.isl false (s_1.map ao)),(1,.fn 195 [.iptr (aa f_2.1) 0,.iptr (I f_2.2) 0]),(7,I (len s_1)),(8,I x3)] [] 1):=ez (AE s_1 f_2) fun {Q K} hK self ih x3 y h hr hn=>by
 unfold ob at h
 refine cq 5 [9] [B (decide (x3<(len s_1)))] 17 ?_
 refine sq h ?_ ?_<;>intro h
 ·refine aq 1 ?_
  refine cq 12 [5,11,12,13] [I x3,.fn 195 [.iptr (aa f_2.1) 0,.iptr (I f_2.2) 0],.isl false (s_1.map ao),I x3] 97 ?_
  obtain⟨e4,he4,h⟩:=bS h
  refine oq 113 (.iptr (ap e4) 0) rfl (al rfl rfl rfl (aW rfl rfl rfl rfl he4)) ?_
  refine cq 1 [15] [ap e4] 129 ?_
  obtain⟨r5,hr5,h⟩:=bS h
  refine oq 145 (B r5) rfl (cP (ahK hr5)) ?_
  refine aq 1 ?_
  refine sq h ?_ ?_<;>intro h
  ·refine cq 5 [4] [I x3] 177 ?_
   exact ci rfl (hr _ (ak h) _ (qp [I x3]))
  ·refine aq 1 ?_
   refine cq 5 [8] [I (aj (x3+1))] 177 ?_
   refine dC ?_
   exact rf [0,1,7,8] [] (ih _ _ h hr hn :)
 ·refine aq 1 ?_
  exact rf [] [] (hn _ (ak h) :) (hk:=hK)
theorem ZH (s_1:List Clause)(f_2:Contract×Int)(r:Int)(h:J0 s_1 f_2=some r):bq Ny Tryz.f110 [false,false] 0 (Gq (s_1,f_2)) (Gr r):=by
 show Run _ _ (VH (s_1,f_2) r) [.code VI] _
 refine rI 19 [(0,.isl false (s_1.map ao)),(1,.fn 195 [.iptr (aa f_2.1) 0,.iptr (I f_2.2) 0])] [] 1 ?_
 unfold J0 at h
 refine cq 8 [6] [.isl false (s_1.map ao)] 33 ?_
 refine oq 49 (I (len s_1)) rfl (bA rfl rfl rfl (bR rfl)) ?_
 refine cq 3 [8] [I (0)] 65 ?_
 obtain⟨y6,hy6,hy61,hy62⟩:=bJ h
 refine bV rfl ?_
 refine rf [0,1,7,8] [] (PX s_1 f_2 rfl 0 _ hy6 (fun r' e st hq=>by rw[hy61 r' e] at hq;exact hq) fun u6 hu=>?_)
 replace h:=hy62 u6 hu
 refine cq 4 [4] [I (-1)] 17 ?_
 obtain rfl:=sI h
 exact rP [I (-1)]
theorem VJ {G:bZ}:bW G 110 C9:=gT 2 0 (aO aaK bv) ca Tryz.func110 (fun a r h=>ZH a.1 a.2 r h)
def Ga:((List Clause)×(Contract×Int))→List V:=cA (fP ao) (oA (fun x:Contract×Int=>(.fn 195 [.iptr (aV x.1) 0,.iptr (I x.2) 0]:V)))
def Gb (r:Bool):V×List V:=(B r,[])
noncomputable def C3 :=bf [false,false] Ga Gb fun x=>JT x.1 x.2
theorem afD {s_1:List Clause}{f_2:Contract×Int}{r}(h:JT s_1 f_2=some r):C3.F (Ga (s_1,f_2))=some (Gb r):=aL (aH (bC cG) (aM (KI bc bd))) h
noncomputable def afF :=aG Tryz.f194
noncomputable def Vt :=b9 [(110,C9)]
def afE (x:(List Clause)×(Contract×Int))(r:Bool):St→Prop:=QF Vt Tryz.f194 [false,false] (Ga x) (Gb r)
theorem Zz (s_1:List Clause)(f_2:Contract×Int)(r:Bool)(h:JT s_1 f_2=some r):bq Vt Tryz.f194 [false,false] 0 (Ga (s_1,f_2)) (Gb r):=by
 show Run _ _ (afE (s_1,f_2) r) [.code afF] _
 refine rI 9 [(0,.isl false (s_1.map ao)),(1,.fn 195 [.iptr (aa f_2.1) 0,.iptr (I f_2.2) 0])] [] 1 ?_
 unfold JT at h
 refine cq 8 [5,6] [.isl false (s_1.map ao),.fn 195 [.iptr (aa f_2.1) 0,.iptr (I f_2.2) 0]] 49 ?_
 obtain⟨r3,hr3,h⟩:=bS h
 refine oq 65 (I r3) rfl (bM rfl rfl (b7 rfl rfl rfl (aR (bo rfl) (aR (mt (dZ (gl rfl) (dZ (gl rfl) ib))) cS)) (afV hr3) (.inr rfl) dH rfl rfl rfl)) ?_
 refine cq 3 [4] [B (decide (r3≥0))] 97 ?_
 obtain rfl:=sI h
 exact rP [B (decide (r3≥0))]
theorem Vu {G:bZ}:bW G 194 C3:=gT 2 0 (aO VJ bv) ca Tryz.func194 (fun a r h=>Zz a.1 a.2 r h)
def MK:(Contract×Int)→List V:=cA aV (oA I)
def ML (r:Bool):V×List V:=(B r,[])
noncomputable def Ku :=bf [false,false] MK ML fun x=>Oi x.1 x.2
theorem ahH {c_1:Contract}{i_2:Int}{r}(h:Oi c_1 i_2=some r):Ku.F (MK (c_1,i_2))=some (ML r):=aL (aH bc (aM bd)) h
noncomputable def ahJ :=aG Tryz.f183
noncomputable def aci :=b9 [(194,C3)]
def ahI (x:Contract×Int)(r:Bool):St→Prop:=QF aci Tryz.f183 [false,false] (MK x) (ML r)
theorem ac8 (c_1:Contract)(i_2:Int)(r:Bool)(h:Oi c_1 i_2=some r):bq aci Tryz.f183 [false,false] 0 (MK (c_1,i_2)) (ML r):=by
 show Run _ _ (ahI (c_1,i_2) r) [.code ahJ] _
 refine rI 9 [(0,aa c_1),(1,I i_2)] [] 1 ?_
 unfold Oi at h
 refine ck 11 [6,7] [] [1,17] [] [.isl false (c_1.Clauses.map ao),.fn 195 [.hp 1 0 [] 2 0 0,.hp 17 0 [] 1 0 0]] [some ⟨0,2,[aa c_1]⟩,some ⟨0,1,[I i_2]⟩] 97 (by kernel_rfl) ?_
 obtain⟨r3,hr3,h⟩:=bS h
 refine oq 113 (B r3) rfl (bM rfl rfl (b7 rfl rfl rfl (aR (bo rfl) (aR (mt (dZ (gV (path:=[]) rfl rfl aQ rfl rfl) (dZ (gV (path:=[]) rfl rfl aQ rfl rfl) ib))) cS)) (afD hr3) (.inl rfl) dH rfl rfl rfl)) ?_
 refine cq 2 [4] [B r3] 129 ?_
 obtain rfl:=sI h
 exact rP [B r3]
theorem aaJ {G:bZ}:bW G 183 Ku:=gT 2 0 (aO Vu bv) ca Tryz.func183 (fun a r h=>ac8 a.1 a.2 r h)
def MQ:(Duty×Duty)→List V:=cA ah (oA (fun x:Duty=>.iptr (ah x) 0))
def MR (r:Bool):V×List V:=(B r,[])
noncomputable def Kx :=bf [false,false] MQ MR fun x=>Rb x.1 x.2
theorem ahO {kv:Duty}{a_2:Duty}{r}(h:Rb kv a_2=some r):Kx.F (MQ (kv,a_2))=some (MR r):=aL (aH ec (aM (eZ ec))) h
noncomputable def ahQ :=aG Tryz.f185
noncomputable def ack :=b9 []
def ahP (x:Duty×Duty)(r:Bool):St→Prop:=QF ack Tryz.f185 [false,false] (MQ x) (MR r)
theorem adb (kv:Duty)(a_2:Duty)(r:Bool)(h:Rb kv a_2=some r):bq ack Tryz.f185 [false,false] 0 (MQ (kv,a_2)) (MR r):=by
 show Run _ _ (ahP (kv,a_2) r) [.code ahQ] _
 refine rI 9 [(0,ah kv),(1,.iptr (ah a_2) 0)] [] 1 ?_
 unfold Rb at h
 refine cq 14 [3] [B (kv.Clause==a_2.Clause)] 129 ?_
 obtain rfl:=sI h
 exact rP [B (kv.Clause==a_2.Clause)]
theorem aaM {G:bZ}:bW G 185 Kx:=gT 2 0 bv ca Tryz.func185 (fun a r h=>adb a.1 a.2 r h)
def Gu:((List Duty)×Duty)→List V:=cA (fP ah) (oA (fun x:Duty=>(.fn 185 [.iptr (ah x) 0]:V)))
def Gv (r:Int):V×List V:=(I r,[])
noncomputable def Db :=bf [false,false] Gu Gv fun x=>J2 x.1 x.2
theorem afX {s_1:List Duty}{f_2:Duty}{r}(h:J2 s_1 f_2=some r):Db.F (Gu (s_1,f_2))=some (Gv r):=aL (aH (bC ec) (aM (i7 ec))) h
noncomputable def VO :=aG Tryz.f196
noncomputable def NA :=b9 [(185,Kx)]
def VN (x:(List Duty)×Duty)(r:Int):St→Prop:=QF NA Tryz.f196 [false,false] (Gu x) (Gv r)
theorem PZ (s_1:List Duty)(f_2:Duty):ct NA 0 (VN (s_1,f_2)) (cL (cL (cR (cL (cR VO))))) 0 (uE s_1 f_2) (fun u=>(sT 19 [] [] 1)) fun x3=>(sT 19 [(0,.isl false (s_1.map ah)),(1,.fn 185 [.iptr (ah f_2) 0]),(7,I (len s_1)),(8,I x3)] [] 1):=ez (AG s_1 f_2) fun {Q K} hK self ih x3 y h hr hn=>by
 unfold od at h
 refine cq 5 [9] [B (decide (x3<(len s_1)))] 17 ?_
 refine sq h ?_ ?_<;>intro h
 ·refine aq 1 ?_
  refine cq 12 [5,11,12,13] [I x3,.fn 185 [.iptr (ah f_2) 0],.isl false (s_1.map ah),I x3] 97 ?_
  obtain⟨e4,he4,h⟩:=bS h
  refine oq 113 (.iptr (ah e4) 0) rfl (al rfl rfl rfl (aW rfl rfl rfl rfl he4)) ?_
  refine cq 1 [15] [ah e4] 129 ?_
  obtain⟨r5,hr5,h⟩:=bS h
  refine oq 145 (B r5) rfl (cP (ahO hr5)) ?_
  refine aq 1 ?_
  refine sq h ?_ ?_<;>intro h
  ·refine cq 5 [4] [I x3] 177 ?_
   exact ci rfl (hr _ (ak h) _ (qp [I x3]))
  ·refine aq 1 ?_
   refine cq 5 [8] [I (aj (x3+1))] 177 ?_
   refine dC ?_
   exact rf [0,1,7,8] [] (ih _ _ h hr hn :)
 ·refine aq 1 ?_
  exact rf [] [] (hn _ (ak h) :) (hk:=hK)
theorem ZJ (s_1:List Duty)(f_2:Duty)(r:Int)(h:J2 s_1 f_2=some r):bq NA Tryz.f196 [false,false] 0 (Gu (s_1,f_2)) (Gv r):=by
 show Run _ _ (VN (s_1,f_2) r) [.code VO] _
 refine rI 19 [(0,.isl false (s_1.map ah)),(1,.fn 185 [.iptr (ah f_2) 0])] [] 1 ?_
 unfold J2 at h
 refine cq 8 [6] [.isl false (s_1.map ah)] 33 ?_
 refine oq 49 (I (len s_1)) rfl (bA rfl rfl rfl (bR rfl)) ?_
 refine cq 3 [8] [I (0)] 65 ?_
 obtain⟨y6,hy6,hy61,hy62⟩:=bJ h
 refine bV rfl ?_
 refine rf [0,1,7,8] [] (PZ s_1 f_2 rfl 0 _ hy6 (fun r' e st hq=>by rw[hy61 r' e] at hq;exact hq) fun u6 hu=>?_)
 replace h:=hy62 u6 hu
 refine cq 4 [4] [I (-1)] 17 ?_
 obtain rfl:=sI h
 exact rP [I (-1)]
theorem VP {G:bZ}:bW G 196 Db:=gT 2 0 (aO aaM bv) ca Tryz.func196 (fun a r h=>ZJ a.1 a.2 r h)
def Gc:((List Duty)×Duty)→List V:=cA (fP ah) (oA (fun x:Duty=>(.fn 185 [.iptr (ah x) 0]:V)))
def Gd (r:Bool):V×List V:=(B r,[])
noncomputable def C4 :=bf [false,false] Gc Gd fun x=>JV x.1 x.2
theorem afG {s_1:List Duty}{f_2:Duty}{r}(h:JV s_1 f_2=some r):C4.F (Gc (s_1,f_2))=some (Gd r):=aL (aH (bC ec) (aM (i7 ec))) h
noncomputable def afI :=aG Tryz.f184
noncomputable def Vv :=b9 [(196,Db)]
def afH (x:(List Duty)×Duty)(r:Bool):St→Prop:=QF Vv Tryz.f184 [false,false] (Gc x) (Gd r)
theorem ZB (s_1:List Duty)(f_2:Duty)(r:Bool)(h:JV s_1 f_2=some r):bq Vv Tryz.f184 [false,false] 0 (Gc (s_1,f_2)) (Gd r):=by
 show Run _ _ (afH (s_1,f_2) r) [.code afI] _
 refine rI 9 [(0,.isl false (s_1.map ah)),(1,.fn 185 [.iptr (ah f_2) 0])] [] 1 ?_
 unfold JV at h
 refine cq 8 [5,6] [.isl false (s_1.map ah),.fn 185 [.iptr (ah f_2) 0]] 49 ?_
 obtain⟨r3,hr3,h⟩:=bS h
 refine oq 65 (I r3) rfl (bM rfl rfl (b7 rfl rfl rfl (aR (bo rfl) (aR (mt (dZ (gl rfl) ib)) cS)) (afX hr3) (.inr rfl) dH rfl rfl rfl)) ?_
 refine cq 3 [4] [B (decide (r3≥0))] 97 ?_
 obtain rfl:=sI h
 exact rP [B (decide (r3≥0))]
theorem Vw {G:bZ}:bW G 184 C4:=gT 2 0 (aO VP bv) ca Tryz.func184 (fun a r h=>ZB a.1 a.2 r h)
def MO:(Contract×State×Int)→List V:=cA aV (cA bT (oA I))
def MP (r:Bool):V×List V:=(B r,[])
noncomputable def Kw :=bf [false,false,false] MO MP fun x=>Ok x.1 x.2.1 x.2.2
theorem ahN {c_1:Contract}{s_2:State}{i_3:Int}{r}(h:Ok c_1 s_2 i_3=some r):Kw.F (MO (c_1,s_2,i_3))=some (MP r):=aL (aH bc (aH cb (aM bd))) h
noncomputable def kN :=aG Tryz.f162
noncomputable def rq :=b9 [(99,jb),(183,Ku),(184,C4),(78,vo)]
def iJ (x:Contract×State×Int)(r:Bool):St→Prop:=QF rq Tryz.f162 [false,false,false] (MO x) (MP r)
theorem ada (c_1:Contract)(s_2:State)(i_3:Int)(r:Bool)(h:Ok c_1 s_2 i_3=some r):bq rq Tryz.f162 [false,false,false] 0 (MO (c_1,s_2,i_3)) (MP r):=by
 show Run _ _ (iJ (c_1,s_2,i_3) r) [.code kN] _
 refine rI 114 [(0,aa c_1),(1,ae s_2),(2,I i_3)] [] 1 ?_
 unfold Ok at h
 refine ck 11 [3,4,9,10] [] [1,17] [] [.hp 1 0 [] 2 0 0,.hp 17 0 [] 5 0 0,.isl false (s_2.Duties.map ah),I i_3] [some ⟨0,2,[aa c_1]⟩,some ⟨0,5,[ae s_2]⟩] 97 (by kernel_rfl) ?_
 obtain⟨e4,he4,h⟩:=bS h
 refine oq 113 (.iptr (ah e4) 0) rfl (al rfl rfl rfl (aW rfl rfl rfl rfl he4)) ?_
 refine ck 11 [7,14,16] [] [129] [] [.hp 129 0 [] 4 0 0,I e4.Clause,.isl false (c_1.Clauses.map ao)] [some ⟨0,4,[ah e4]⟩] 225 (by kernel_rfl) ?_
 refine oq 241 (I (len c_1.Clauses)) rfl (bA rfl rfl rfl (bR rfl)) ?_
 refine cq 1 [18] [I (aj ((len c_1.Clauses) - 1))] 257 ?_
 obtain⟨r5,hr5,h⟩:=bS h
 refine oq 273 (B r5) rfl (cP (ja hr5)) ?_
 refine cq 2 [21] [B (!r5)] 305 ?_
 obtain⟨y6,hy6,hy61,hy62⟩:=bJ h
 have j6:∀u6,y6=.inr u6→Run rq 0 (iJ (c_1,s_2,i_3) r) (.code (cR (cL (cR (cR kN))))::.code (cR (cR (cR kN)))::[]) (sT 114 [(2,I i_3),(3,.hp 1 0 [] 2 0 0),(4,.hp 2 0 [] 5 0 0),(7,.hp 3 0 [] 4 0 0),(38,B u6)] [⟨0,2,[aa c_1]⟩,⟨0,5,[ae s_2]⟩,⟨0,4,[ah e4]⟩] 4):=by
  intro u6 hu
  replace h:=hy62 u6 hu
  refine sq h ?_ ?_<;>intro h
  ·refine cq 4 [6] [B false] 20 ?_
   obtain rfl:=sI h
   exact rP [B false]
  ·refine aq 1 ?_
   refine aq 2 ?_
   refine dV [0,1,0,4,0,16,0,64,240,496,1008,2044,4095,8191,16383,32767,65535,131071,262143,524287,1048575,2097151,4194303,8388607,16777215,8388607,41943039,8388607,142606335,511705087,1048575999,2122317823,4294967295,8589934591,17179869183] rfl (by decide +kernel) ?_
   refine dq [3] [] (.hp 3 0 [] 4 0 2) rfl (an rfl rfl rfl) ?_
   refine dq [3] [] (I e4.Due) rfl (aU rfl rfl) ?_
   refine dq [3] [] (.hp 3 0 [] 4 0 1) rfl (an rfl rfl rfl) ?_
   refine dq [3] [] (I e4.Since) rfl (aU rfl rfl) ?_
   refine dq [1] [] (.hp 1 0 [] 2 0 1) rfl (an rfl rfl rfl) ?_
   refine dq [1] [] (.isl false (c_1.Clauses.map ao)) rfl (aU rfl rfl) ?_
   refine dq [3] [] (.hp 3 0 [] 4 0 0) rfl (an rfl rfl rfl) ?_
   refine dq [3] [] (I e4.Clause) rfl (aU rfl rfl) ?_
   obtain⟨e7,he7,h⟩:=bS h
   refine dq [] [] (.iptr (ap e7) 0) rfl (al rfl rfl rfl (aW rfl rfl rfl rfl he7)) ?_
   refine dq [] [] (.iptr (ap e7) 10) rfl (an rfl rfl rfl) ?_
   refine dq [] [] (I e7.Within) rfl (aU rfl rfl) ?_
   refine dk 3 [52,51,50] [B (e4.Due != (aj (e4.Since+e7.Within))),B (e4.Due != (aj (e4.Since+e7.Within))),I (aj (e4.Since+e7.Within))] ?_
   obtain⟨y8,hy8,hy81,hy82⟩:=bJ h
   have j8:∀u8,y8=.inr u8→Run rq 0 (iJ (c_1,s_2,i_3) r) (.code (cR (cL (cR (cR (cR kN)))))::.code (cR (cR (cR (cR kN))))::[]) (sT 114 [(2,I i_3),(3,.hp 1 0 [] 2 0 0),(4,.hp 2 0 [] 5 0 0),(7,.hp 3 0 [] 4 0 0),(73,B u8)] [⟨0,2,[aa c_1]⟩,⟨0,5,[ae s_2]⟩,⟨0,4,[ah e4]⟩] 4):=by
    intro u8 hu
    replace h:=hy82 u8 hu
    refine sq h ?_ ?_<;>intro h
    ·refine cq 4 [6] [B false] 20 ?_
     obtain rfl:=sI h
     exact rP [B false]
    ·refine aq 1 ?_
     refine cq 6 [74,76] [aa c_1,I e4.Clause] 52 ?_
     obtain⟨r9,hr9,h⟩:=bS h
     refine oq 68 (B r9) rfl (cP (ahH hr9)) ?_
     refine cq 2 [79] [B (!r9)] 100 ?_
     obtain⟨y10,hy10,hy101,hy102⟩:=bJ h
     have j10:∀u10,y10=.inr u10→Run rq 0 (iJ (c_1,s_2,i_3) r) (.code (cR (cL (cR (cR (cR (cR kN))))))::.code (cR (cR (cR (cR (cR kN)))))::[]) (sT 114 [(4,.hp 1 0 [] 5 0 0),(7,.hp 2 0 [] 4 0 0),(86,B u10)] [⟨0,5,[ae s_2]⟩,⟨0,4,[ah e4]⟩] 3):=by
      intro u10 hu
      replace h:=hy102 u10 hu
      refine sq h ?_ ?_<;>intro h
      ·refine cq 4 [6] [B false] 19 ?_
       obtain rfl:=sI h
       exact rP [B false]
      ·refine aq 1 ?_
       refine cq 12 [88,89] [I e4.Status,B (e4.Status==1)] 67 ?_
       refine sq h ?_ ?_<;>intro h
       ·refine cq 8 [96] [B (decide (e4.Due≥s_2.Day))] 163 ?_
        obtain⟨u11,hu11,h⟩:=lJ h
        have j11:Run rq 0 (iJ (c_1,s_2,i_3) r) (.code (cR (cL (cR (cL (cR (cL (cR (cR (cR (cR (cR kN)))))))))))::.blk 0::.code (cR (cR (cR (cR (cR (cR kN))))))::[]) (sT 114 [(6,B u11)] [] 1):=by
         obtain rfl:=sI h
         exact rP [B u11]
        replace h:=hu11
        clear hu11
        refine sp 96 h rfl ?_ ?_<;>intro h
        ·refine cq 6 [6] [B (!s_2.Over)] 243 ?_
         subst h
         exact rf [6] [] (j11 :)
        ·refine cq 6 [6] [B false] 243 ?_
         subst h
         exact rf [6] [] (j11 :)
       ·refine cq 5 [101] [B (e4.Status==2)] 99 ?_
        refine sq h ?_ ?_<;>intro h
        ·refine cq 4 [6] [B true] 115 ?_
         obtain rfl:=sI h
         exact rP [B true]
        ·refine cq 5 [103] [B (e4.Status==3)] 131 ?_
         refine sq h ?_ ?_<;>intro h
         ·refine cq 9 [6] [B (decide (e4.Due<s_2.Day))] 227 ?_
          obtain rfl:=sI h
          exact rP [B (decide (e4.Due<s_2.Day))]
         ·refine cq 5 [110] [B (e4.Status==4)] 163 ?_
          refine sq h ?_ ?_<;>intro h
          ·refine cq 6 [6] [B s_2.Over] 211 ?_
           obtain rfl:=sI h
           exact rP [B s_2.Over]
          ·refine aq 1 ?_
           refine cq 5 [6] [B false] 179 ?_
           obtain rfl:=sI h
           exact rP [B false]
     have r10:∀r',y10=.inl r'→∀st,iJ (c_1,s_2,i_3) r' st→(iJ (c_1,s_2,i_3) r) st:=fun r' e st hq=>by rw[hy101 r' e] at hq;exact hq
     replace h:=hy10
     refine sp 79 h rfl ?_ ?_<;>intro h
     ·refine cq 3 [81,82] [.isl false (s_2.Duties.map ah),I i_3] 148 ?_
      obtain⟨s12,hs12,h⟩:=bS h
      refine oy 164 (.isl false (s12.map ah)) rfl (iK rfl rfl rfl rfl (zr rfl rfl (fun y=>(vv y).1) rfl rfl hs12)) ?_
      refine cq 1 [84] [.fn 185 [.hp 3 0 [] 4 0 0]] 180 ?_
      obtain⟨r13,hr13,h⟩:=bS h
      refine oy 196 (B r13) rfl (bM rfl rfl (b7 rfl rfl rfl (aR (bo rfl) (aR (mt (dZ (gV (path:=[]) rfl rfl aQ rfl rfl) ib)) cS)) (afG hr13) (.inl rfl) dH rfl rfl rfl)) ?_
      refine cq 2 [86] [B r13] 212 ?_
      exact rf [4,7,86] [2,3] (j10 _ (ak h) :)
     ·refine cq 8 [86] [B false] 212 ?_
      exact rf [4,7,86] [2,3] (j10 _ (ak h) :)
   have r8:∀r',y8=.inl r'→∀st,iJ (c_1,s_2,i_3) r' st→(iJ (c_1,s_2,i_3) r) st:=fun r' e st hq=>by rw[hy81 r' e] at hq;exact hq
   replace h:=hy8
   refine sp 52 h rfl ?_ ?_<;>intro h
   ·refine dk 21 [73,72,71,70,69,68,67,66,65,64,63,62,61,60,59,58,57,56,55,54,53] [B true,.und,.und,.und,.und,.und,.und,.und,.und,.und,.und,.und,.und,.und,.und,B true,B true,.und,.und,.und,.und] ?_
    refine de 564 rfl rfl ?_
    exact rf [2,3,4,7,73] [1,2,3] (j8 _ (ak h) :)
   ·refine dy [3] [] (.hp 3 0 [] 4 0 2) rfl (an rfl rfl rfl) ?_
    refine dy [3] [] (I e4.Due) rfl (aU rfl rfl) ?_
    obtain⟨r14,hr14,h⟩:=bS h
    refine dy [] [] (B r14) rfl (cP (wm hr14)) ?_ (dK rfl rfl rfl rfl (aR (bo rfl) cS) (wm hr14) (.inr rfl) rfl)
    refine dk 3 [58,57,56] [B (!r14),B (!r14),B (!r14)] ?_
    obtain⟨y15,hy15,hy151,hy152⟩:=bL h
    have j15:∀u15,y15=.inr u15→Run rq 0 (iJ (c_1,s_2,i_3) r) (.code (cR (cL (cR (cR (cR kN)))))::.code (cR (cR (cR (cR kN))))::[]) (sT 114 [(2,I i_3),(3,.hp 1 0 [] 2 0 0),(4,.hp 2 0 [] 5 0 0),(7,.hp 3 0 [] 4 0 0),(73,B u15)] [⟨0,2,[aa c_1]⟩,⟨0,5,[ae s_2]⟩,⟨0,4,[ah e4]⟩] 4):=by
     intro u15 hu
     replace h:=hy152 u15 hu
     exact rf [2,3,4,7,73] [1,2,3] (j8 _ (ak h) :)
    have r15:∀r',y15=.inl r'→∀st,iJ (c_1,s_2,i_3) r' st→(iJ (c_1,s_2,i_3) r) st:=fun r' e st hq=>r8 r' (hy151 r' e) st hq
    replace h:=hy15
    refine sp 58 h rfl ?_ ?_<;>intro h
    ·refine dk 15 [73,72,71,70,69,68,67,66,65,64,63,62,61,60,59] [B true,.und,.und,.und,.und,.und,.und,.und,.und,.und,.und,.und,.und,.und,.und] ?_
     refine de 564 rfl rfl ?_
     exact rf [2,3,4,7,73] [1,2,3] (j15 _ (ak h) :)
    ·refine dk 3 [61,60,59] [B (decide (i_3>0)),B (decide (i_3>0)),I i_3] ?_
     obtain⟨y16,hy16,hy161,hy162⟩:=bL h
     have j16:∀u16,y16=.inr u16→Run rq 0 (iJ (c_1,s_2,i_3) r) (.code (cR (cL (cR (cR (cR kN)))))::.code (cR (cR (cR (cR kN))))::[]) (sT 114 [(2,I i_3),(3,.hp 1 0 [] 2 0 0),(4,.hp 2 0 [] 5 0 0),(7,.hp 3 0 [] 4 0 0),(73,B u16)] [⟨0,2,[aa c_1]⟩,⟨0,5,[ae s_2]⟩,⟨0,4,[ah e4]⟩] 4):=by
      intro u16 hu
      replace h:=hy162 u16 hu
      exact rf [2,3,4,7,73] [1,2,3] (j15 _ (ak h) :)
     have r16:∀r',y16=.inl r'→∀st,iJ (c_1,s_2,i_3) r' st→(iJ (c_1,s_2,i_3) r) st:=fun r' e st hq=>r15 r' (hy161 r' e) st hq
     replace h:=hy16
     refine sp 61 h rfl ?_ ?_<;>intro h
     ·refine dy [3] [] (.hp 3 0 [] 4 0 1) rfl (an rfl rfl rfl) ?_
      refine dy [3] [] (I e4.Since) rfl (aU rfl rfl) ?_
      refine dy [2] [] (.hp 2 0 [] 5 0 2) rfl (an rfl rfl rfl) ?_
      refine dy [2] [] (.isl false (s_2.Duties.map ah)) rfl (aU rfl rfl) ?_
      refine dk 2 [67,66] [I (aj (i_3 - 1)),I i_3] ?_
      obtain⟨e17,he17,h⟩:=bS h
      refine dy [] [] (.iptr (ah e17) 0) rfl (al rfl rfl rfl (aW rfl rfl rfl rfl he17)) ?_
      refine dy [] [] (.iptr (ah e17) 1) rfl (an rfl rfl rfl) ?_
      refine dy [] [] (I e17.Since) rfl (aU rfl rfl) ?_
      refine dk 3 [73,72,71] [B (decide (e4.Since<e17.Since)),B (decide (e4.Since<e17.Since)),B (decide (e4.Since<e17.Since))] ?_
      refine de 564 rfl rfl ?_
      exact rf [2,3,4,7,73] [1,2,3] (j16 _ (ak h) :)
     ·refine dk 12 [73,72,71,70,69,68,67,66,65,64,63,62] [B false,B false,.und,.und,.und,.und,.und,.und,.und,.und,.und,.und] ?_
      refine de 564 rfl rfl ?_
      exact rf [2,3,4,7,73] [1,2,3] (j16 _ (ak h) :)
 have r6:∀r',y6=.inl r'→∀st,iJ (c_1,s_2,i_3) r' st→(iJ (c_1,s_2,i_3) r) st:=fun r' e st hq=>by rw[hy61 r' e] at hq;exact hq
 replace h:=hy6
 refine sp 21 h rfl ?_ ?_<;>intro h
 ·refine cq 18 [38] [B true] 577 ?_
  exact rf [2,3,4,7,38] [1,17,129] (j6 _ (ak h) :)
 ·refine cq 4 [23,25] [.isl false (c_1.Clauses.map ao),I e4.Clause] 369 ?_
  obtain⟨e18,he18,h⟩:=bS h
  refine oy 385 (.iptr (ap e18) 0) rfl (al rfl rfl rfl (aW rfl rfl rfl rfl he18)) ?_
  refine cq 5 [31] [B (e18.Kind != 1)] 465 ?_
  obtain⟨y19,hy19,hy191,hy192⟩:=bL h
  have j19:∀u19,y19=.inr u19→Run rq 0 (iJ (c_1,s_2,i_3) r) (.code (cR (cL (cR (cR kN))))::.code (cR (cR (cR kN)))::[]) (sT 114 [(2,I i_3),(3,.hp 1 0 [] 2 0 0),(4,.hp 2 0 [] 5 0 0),(7,.hp 3 0 [] 4 0 0),(38,B u19)] [⟨0,2,[aa c_1]⟩,⟨0,5,[ae s_2]⟩,⟨0,4,[ah e4]⟩] 4):=by
   intro u19 hu
   replace h:=hy192 u19 hu
   exact rf [2,3,4,7,38] [1,2,3] (j6 _ (ak h) :)
  have r19:∀r',y19=.inl r'→∀st,iJ (c_1,s_2,i_3) r' st→(iJ (c_1,s_2,i_3) r) st:=fun r' e st hq=>r6 r' (hy191 r' e) st hq
  replace h:=hy19
  refine sp 31 h rfl ?_ ?_<;>intro h
  ·refine cq 8 [38] [B true] 577 ?_
   exact rf [2,3,4,7,38] [1,17,129] (j19 _ (ak h) :)
  ·refine cq 4 [33,35] [I e4.Since,I s_2.Day] 529 ?_
   obtain⟨r20,hr20,h⟩:=bS h
   refine oy 545 (B r20) rfl (cP (ja hr20)) ?_
   refine cq 3 [38] [B (!r20)] 577 ?_
   exact rf [2,3,4,7,38] [1,17,129] (j19 _ (ak h) :)
theorem aaL {G:bZ}:bW G 162 Kw:=gT 3 0 (aO jv (aO aaJ (aO Vw (aO D8 bv)))) ca Tryz.func162 (fun a r h=>ada a.1 a.2.1 a.2.2 r h)
def ME:Int→List V:=oA I
def MF (r:Bool):V×List V:=(B r,[])
noncomputable def Ks :=bf [false] ME MF fun x=>Ra x
theorem ahB {x_1:Int}{r}(h:Ra x_1=some r):Ks.F (ME x_1)=some (MF r):=aL (aM bd) h
noncomputable def ahD :=aG Tryz.f164
noncomputable def acg :=b9 [(99,jb)]
def ahC (x:Int)(r:Bool):St→Prop:=QF acg Tryz.f164 [false] (ME x) (MF r)
theorem ac5 (x_1:Int)(r:Bool)(h:Ra x_1=some r):bq acg Tryz.f164 [false] 0 (ME x_1) (MF r):=by
 show Run _ _ (ahC x_1 r) [.code ahD] _
 refine rI 5 [(0,I x_1)] [] 1 ?_
 unfold Ra at h
 refine cq 7 [3] [I x_1] 33 ?_
 obtain⟨r2,hr2,h⟩:=bS h
 refine oq 49 (B r2) rfl (cP (ja hr2)) ?_
 refine cq 2 [2] [B r2] 65 ?_
 obtain rfl:=sI h
 exact rP [B r2]
theorem aaH {G:bZ}:bW G 164 Ks:=gT 1 0 (aO jv bv) ca Tryz.func164 (fun a r h=>ac5 a r h)
def EJ:Int→List V:=oA I
def EK (r:Bool):V×List V:=(B r,[])
noncomputable def BZ :=bf [false] EJ EK fun x=>BX x
theorem aeh {b_1:Int}{r}(h:BX b_1=some r):BZ.F (EJ b_1)=some (EK r):=aL (aM bd) h
noncomputable def aej :=aG Tryz.f163
noncomputable def TB :=b9 [(164,Ks)]
def aei (x:Int)(r:Bool):St→Prop:=QF TB Tryz.f163 [false] (EJ x) (EK r)
theorem YK (b_1:Int)(r:Bool)(h:BX b_1=some r):bq TB Tryz.f163 [false] 0 (EJ b_1) (EK r):=by
 show Run _ _ (aei b_1 r) [.code aej] _
 refine rI 6 [(0,I b_1)] [] 1 ?_
 unfold BX at h
 refine cq 7 [3] [I b_1] 33 ?_
 obtain⟨r2,hr2,h⟩:=bS h
 refine oq 49 (B r2) rfl (cP (ahB hr2)) ?_
 refine cq 3 [2] [B (!r2)] 81 ?_
 obtain rfl:=sI h
 exact rP [B (!r2)]
theorem TC {G:bZ}:bW G 163 BZ:=gT 1 0 (aO aaH bv) ca Tryz.func163 (fun a r h=>YK a r h)
def Gy:((List Int)×Unit)→List V:=cA (fP I) (oA (fun x:Unit=>(.fn 163 []:V)))
def Gz (r:Int):V×List V:=(I r,[])
noncomputable def Dd :=bf [false,false] Gy Gz fun x=>J5 x.1 x.2
theorem afZ {s_1:List Int}{f_2:Unit}{r}(h:J5 s_1 f_2=some r):Dd.F (Gy (s_1,f_2))=some (Gz r):=aL (aH (bC bd) (aM (Rj ))) h
noncomputable def VU :=aG Tryz.f153
noncomputable def NC :=b9 [(163,BZ)]
def VT (x:(List Int)×Unit)(r:Int):St→Prop:=QF NC Tryz.f153 [false,false] (Gy x) (Gz r)
theorem P1 (s_1:List Int)(f_2:Unit):ct NC 0 (VT (s_1,f_2)) (cL (cL (cR (cL (cR VU))))) 0 (uG s_1 f_2) (fun u=>(sT 19 [] [] 1)) fun x3=>(sT 19 [(0,.isl false (s_1.map I)),(1,.fn 163 []),(7,I (len s_1)),(8,I x3)] [] 1):=ez (AI s_1 f_2) fun {Q K} hK self ih x3 y h hr hn=>by
 unfold oh at h
 refine cq 5 [9] [B (decide (x3<(len s_1)))] 17 ?_
 refine sq h ?_ ?_<;>intro h
 ·refine aq 1 ?_
  refine cq 12 [5,11,12,13] [I x3,.fn 163 [],.isl false (s_1.map I),I x3] 97 ?_
  obtain⟨e4,he4,h⟩:=bS h
  refine oq 113 (.iptr (I e4) 0) rfl (al rfl rfl rfl (aW rfl rfl rfl rfl he4)) ?_
  refine cq 1 [15] [I e4] 129 ?_
  obtain⟨r5,hr5,h⟩:=bS h
  refine oq 145 (B r5) rfl (cP (aeh hr5)) ?_
  refine aq 1 ?_
  refine sq h ?_ ?_<;>intro h
  ·refine cq 5 [4] [I x3] 177 ?_
   exact ci rfl (hr _ (ak h) _ (qp [I x3]))
  ·refine aq 1 ?_
   refine cq 5 [8] [I (aj (x3+1))] 177 ?_
   refine dC ?_
   exact rf [0,1,7,8] [] (ih _ _ h hr hn :)
 ·refine aq 1 ?_
  exact rf [] [] (hn _ (ak h) :) (hk:=hK)
theorem ZL (s_1:List Int)(f_2:Unit)(r:Int)(h:J5 s_1 f_2=some r):bq NC Tryz.f153 [false,false] 0 (Gy (s_1,f_2)) (Gz r):=by
 show Run _ _ (VT (s_1,f_2) r) [.code VU] _
 refine rI 19 [(0,.isl false (s_1.map I)),(1,.fn 163 [])] [] 1 ?_
 unfold J5 at h
 refine cq 8 [6] [.isl false (s_1.map I)] 33 ?_
 refine oq 49 (I (len s_1)) rfl (bA rfl rfl rfl (bR rfl)) ?_
 refine cq 3 [8] [I (0)] 65 ?_
 obtain⟨y6,hy6,hy61,hy62⟩:=bJ h
 refine bV rfl ?_
 refine rf [0,1,7,8] [] (P1 s_1 f_2 rfl 0 _ hy6 (fun r' e st hq=>by rw[hy61 r' e] at hq;exact hq) fun u6 hu=>?_)
 replace h:=hy62 u6 hu
 refine cq 4 [4] [I (-1)] 17 ?_
 obtain rfl:=sI h
 exact rP [I (-1)]
theorem VV {G:bZ}:bW G 153 Dd:=gT 2 0 (aO TC bv) ca Tryz.func153 (fun a r h=>ZL a.1 a.2 r h)
def Gg:((List Int)×Unit)→List V:=cA (fP I) (oA (fun x:Unit=>(.fn 163 []:V)))
def Gh (r:Bool):V×List V:=(B r,[])
noncomputable def C6 :=bf [false,false] Gg Gh fun x=>JX x.1 x.2
theorem afM {s_1:List Int}{f_2:Unit}{r}(h:JX s_1 f_2=some r):C6.F (Gg (s_1,f_2))=some (Gh r):=aL (aH (bC bd) (aM (Rj ))) h
noncomputable def afO :=aG Tryz.f115
noncomputable def Vz :=b9 [(153,Dd)]
def afN (x:(List Int)×Unit)(r:Bool):St→Prop:=QF Vz Tryz.f115 [false,false] (Gg x) (Gh r)
theorem ZD (s_1:List Int)(f_2:Unit)(r:Bool)(h:JX s_1 f_2=some r):bq Vz Tryz.f115 [false,false] 0 (Gg (s_1,f_2)) (Gh r):=by
 show Run _ _ (afN (s_1,f_2) r) [.code afO] _
 refine rI 9 [(0,.isl false (s_1.map I)),(1,.fn 163 [])] [] 1 ?_
 unfold JX at h
 refine cq 8 [5,6] [.isl false (s_1.map I),.fn 163 []] 49 ?_
 obtain⟨r3,hr3,h⟩:=bS h
 refine oq 65 (I r3) rfl (cP (afZ hr3)) ?_
 refine cq 3 [4] [B (decide (r3≥0))] 97 ?_
 obtain rfl:=sI h
 exact rP [B (decide (r3≥0))]
theorem VA {G:bZ}:bW G 115 C6:=gT 2 0 (aO VV bv) ca Tryz.func115 (fun a r h=>ZD a.1 a.2 r h)
def MV:(Contract×State)→List V:=cA aV (oA bT)
def MW (r:Bool):V×List V:=(B r,[])
noncomputable def Kz :=bf [false,false] MV MW fun x=>Om x.1 x.2
theorem ahS {c_1:Contract}{s_2:State}{r}(h:Om c_1 s_2=some r):Kz.F (MV (c_1,s_2))=some (MW r):=aL (aH bc (aM cb)) h
noncomputable def ql :=aG Tryz.f127
noncomputable def wn :=b9 [(101,vn),(78,vo),(162,Kw),(115,C6),(161,Ca),(158,Ky),(159,C7)]
def lI (x:Contract×State)(r:Bool):St→Prop:=QF wn Tryz.f127 [false,false] (MV x) (MW r)
theorem SA (c_1:Contract)(s_2:State):ct wn 0 (lI (c_1,s_2)) (cL (cL (cR (cL (cR (cR (cR (cR ql)))))))) 0 (qK c_1 s_2) (fun u=>(sT 60 [(3,.hp 1 0 [] 5 0 0)] [⟨0,5,[ae s_2]⟩] 2)) fun x7=>(sT 60 [(2,.hp 1 0 [] 2 0 0),(3,.hp 2 0 [] 5 0 0),(46,I (len s_2.Duties)),(47,I x7)] [⟨0,2,[aa c_1]⟩,⟨0,5,[ae s_2]⟩] 3):=ez (IT c_1 s_2) fun {Q K} hK self ih x7 y h hr hn=>by
 unfold nG at h
 refine cq 5 [48] [B (decide (x7<(len s_2.Duties)))] 19 ?_
 refine sq h ?_ ?_<;>intro h
 ·refine aq 1 ?_
  refine cq 12 [50,51,52] [aa c_1,ae s_2,I x7] 99 ?_
  obtain⟨r8,hr8,h⟩:=bS h
  refine oq 115 (B r8) rfl (cP (ahN hr8)) ?_
  refine cq 2 [54] [B (!r8)] 131 ?_
  refine sq h ?_ ?_<;>intro h
  ·refine cq 4 [4] [B false] 147 ?_
   exact ci rfl (hr _ (ak h) _ (qp [B false]))
  ·refine aq 1 ?_
   refine cq 5 [47] [I (aj (x7+1))] 163 ?_
   refine dC ?_
   exact rf [2,3,46,47] [1,2] (ih _ _ h hr hn :)
 ·refine aq 1 ?_
  exact rf [3] [2] (hn _ (ak h) :) (hk:=hK)
theorem ade (c_1:Contract)(s_2:State)(r:Bool)(h:Om c_1 s_2=some r):bq wn Tryz.f127 [false,false] 0 (MV (c_1,s_2)) (MW r):=by
 show Run _ _ (lI (c_1,s_2) r) [.code ql] _
 refine rI 60 [(0,aa c_1),(1,ae s_2)] [] 1 ?_
 unfold Om at h
 refine ck 9 [2,3,7] [] [1,17] [] [.hp 1 0 [] 2 0 0,.hp 17 0 [] 5 0 0,aa c_1] [some ⟨0,2,[aa c_1]⟩,some ⟨0,5,[ae s_2]⟩] 65 (by kernel_rfl) ?_
 obtain⟨r3,hr3,h⟩:=bS h
 refine oq 81 (.hs 65 0 [] 1 0 (r3.map str).length) rfl (cP (MC hr3)) ?_
 refine ck 1 [5] [] [81] [] [.hp 81 0 [] 1 0 0] [some ⟨0,1,[.isl true []]⟩] 97 (by kernel_rfl) ?_
 refine fK 81 [.usl 1 (([]).map str)] rfl rfl (aJ (.nil _) eF) ?_
 refine o0 113 rfl rfl (fZ rfl rfl (eX (path:=[]) (pl:=false) (e':=.usl 1 (r3.map str)) (es2':=[.usl 1 (r3.map str)]) rfl (fC rfl (cZ rfl rfl)) rfl rfl rfl aQ rfl rfl rfl rfl rfl ee 2 rfl)) ?_
 refine cq 6 [10] [I s_2.Day] 145 ?_
 obtain⟨r4,hr4,h⟩:=bS h
 refine oq 161 (B r4) rfl (cP (wm hr4)) ?_
 refine cq 2 [13] [B (!r4)] 193 ?_
 obtain⟨y5,hy5,hy51,hy52⟩:=bJ h
 have j5:∀u5,y5=.inr u5→Run wn 0 (lI (c_1,s_2) r) (.code (cR (cL (cR (cR ql))))::.code (cR (cR (cR ql)))::[]) (sT 60 [(2,.hp 1 0 [] 2 0 0),(3,.hp 2 0 [] 5 0 0),(24,B u5)] [⟨0,2,[aa c_1]⟩,⟨0,5,[ae s_2]⟩] 3):=by
  intro u5 hu
  replace h:=hy52 u5 hu
  refine sq h ?_ ?_<;>intro h
  ·refine cq 4 [4] [B false] 19 ?_
   obtain rfl:=sI h
   exact rP [B false]
  ·refine aq 1 ?_
   refine cq 5 [26] [.isl false (s_2.Duties.map ah)] 35 ?_
   refine oq 51 (I (len s_2.Duties)) rfl (bA rfl rfl rfl (bR rfl)) ?_
   refine cq 2 [29] [B (decide ((len s_2.Duties)>24))] 83 ?_
   obtain⟨y6,hy6,hy61,hy62⟩:=bJ h
   have j6:∀u6,y6=.inr u6→Run wn 0 (lI (c_1,s_2) r) (.code (cR (cL (cR (cR (cR ql)))))::.code (cR (cR (cR (cR ql))))::[]) (sT 60 [(2,.hp 1 0 [] 2 0 0),(3,.hp 2 0 [] 5 0 0),(43,B u6)] [⟨0,2,[aa c_1]⟩,⟨0,5,[ae s_2]⟩] 3):=by
    intro u6 hu
    replace h:=hy62 u6 hu
    refine sq h ?_ ?_<;>intro h
    ·refine cq 4 [4] [B false] 19 ?_
     obtain rfl:=sI h
     exact rP [B false]
    ·refine aq 1 ?_
     refine cq 5 [45] [.isl false (s_2.Duties.map ah)] 35 ?_
     refine oq 51 (I (len s_2.Duties)) rfl (bA rfl rfl rfl (bR rfl)) ?_
     refine cq 3 [47] [I (0)] 67 ?_
     obtain⟨y9,hy9,hy91,hy92⟩:=bJ h
     refine bV rfl ?_
     refine rf [2,3,46,47] [1,2] (SA c_1 s_2 rfl 0 _ hy9 (fun r' e st hq=>by rw[hy91 r' e] at hq;exact hq) fun u9 hu=>?_)
     replace h:=hy92 u9 hu
     refine cq 4 [57] [.isl false (s_2.Balances.map I)] 34 ?_
     obtain⟨r10,hr10,h⟩:=bS h
     refine oq 50 (B r10) rfl (cP (afM hr10)) ?_
     refine cq 3 [4] [B (!r10)] 82 ?_
     obtain rfl:=sI h
     exact rP [B (!r10)]
   have r6:∀r',y6=.inl r'→∀st,lI (c_1,s_2) r' st→(lI (c_1,s_2) r) st:=fun r' e st hq=>by rw[hy61 r' e] at hq;exact hq
   replace h:=hy6
   refine sp 29 h rfl ?_ ?_<;>intro h
   ·refine cq 15 [43] [B true] 307 ?_
    exact rf [2,3,43] [1,2] (j6 _ (ak h) :)
   ·refine cq 2 [31] [.isl false (s_2.Balances.map I)] 115 ?_
    refine oy 131 (I (len s_2.Balances)) rfl (bA rfl rfl rfl (bR rfl)) ?_
    refine cq 2 [34] [.isl false (c_1.Parties.map str)] 163 ?_
    refine oy 179 (I (len c_1.Parties)) rfl (bA rfl rfl rfl (bR rfl)) ?_
    refine cq 3 [38] [B ((len s_2.Balances) != (len c_1.Parties))] 227 ?_
    obtain⟨y11,hy11,hy111,hy112⟩:=bL h
    have j11:∀u11,y11=.inr u11→Run wn 0 (lI (c_1,s_2) r) (.code (cR (cL (cR (cR (cR ql)))))::.code (cR (cR (cR (cR ql))))::[]) (sT 60 [(2,.hp 1 0 [] 2 0 0),(3,.hp 2 0 [] 5 0 0),(43,B u11)] [⟨0,2,[aa c_1]⟩,⟨0,5,[ae s_2]⟩] 3):=by
     intro u11 hu
     replace h:=hy112 u11 hu
     exact rf [2,3,43] [1,2] (j6 _ (ak h) :)
    have r11:∀r',y11=.inl r'→∀st,lI (c_1,s_2) r' st→(lI (c_1,s_2) r) st:=fun r' e st hq=>r6 r' (hy111 r' e) st hq
    replace h:=hy11
    refine sp 38 h rfl ?_ ?_<;>intro h
    ·refine cq 6 [43] [B true] 307 ?_
     exact rf [2,3,43] [1,2] (j11 _ (ak h) :)
    ·refine cq 2 [40] [.isl false (s_2.Balances.map I)] 259 ?_
     obtain⟨r12,hr12,h⟩:=bS h
     refine oy 275 (I r12) rfl (cP (aeB hr12)) ?_
     refine cq 3 [43] [B (r12 != 0)] 307 ?_
     exact rf [2,3,43] [1,2] (j11 _ (ak h) :)
 have r5:∀r',y5=.inl r'→∀st,lI (c_1,s_2) r' st→(lI (c_1,s_2) r) st:=fun r' e st hq=>by rw[hy51 r' e] at hq;exact hq
 replace h:=hy5
 refine sp 13 h rfl ?_ ?_<;>intro h
 ·refine cq 12 [24] [B true] 369 ?_
  exact rf [2,3,24] [1,17] (j5 _ (ak h) :)
 ·refine cq 2 [15] [.isl false (s_2.Facts.map str)] 225 ?_
  obtain⟨r13,hr13,h⟩:=bS h
  refine oy 241 (B r13) rfl (cP (ahR hr13)) ?_
  refine cq 3 [19] [B (!r13)] 289 ?_
  obtain⟨y14,hy14,hy141,hy142⟩:=bL h
  have j14:∀u14,y14=.inr u14→Run wn 0 (lI (c_1,s_2) r) (.code (cR (cL (cR (cR ql))))::.code (cR (cR (cR ql)))::[]) (sT 60 [(2,.hp 1 0 [] 2 0 0),(3,.hp 2 0 [] 5 0 0),(24,B u14)] [⟨0,2,[aa c_1]⟩,⟨0,5,[ae s_2]⟩] 3):=by
   intro u14 hu
   replace h:=hy142 u14 hu
   exact rf [2,3,24] [1,2] (j5 _ (ak h) :)
  have r14:∀r',y14=.inl r'→∀st,lI (c_1,s_2) r' st→(lI (c_1,s_2) r) st:=fun r' e st hq=>r5 r' (hy141 r' e) st hq
  replace h:=hy14
  refine sp 19 h rfl ?_ ?_<;>intro h
  ·refine cq 6 [24] [B true] 369 ?_
   exact rf [2,3,24] [1,17] (j14 _ (ak h) :)
  ·refine cq 3 [21,22] [.isl false (s_2.Facts.map str),.fn 160 [.hp 81 0 [] 1 0 0]] 337 ?_
   obtain⟨r15,hr15,h⟩:=bS h
   refine oy 353 (B r15) rfl (bM rfl rfl (b7 rfl rfl rfl (aR (bo rfl) (aR (mt (dZ (gV (path:=[]) rfl rfl aQ rfl (jH (bX fy))) ib)) cS)) (afP hr15) (.inl rfl) dH rfl rfl rfl)) ?_
   refine cq 2 [24] [B r15] 369 ?_
   exact rf [2,3,24] [1,17] (j14 _ (ak h) :)
theorem aaO {G:bZ}:bW G 127 Kz:=gT 2 0 (aO D7 (aO D8 (aO aaL (aO VA (aO TV (aO aaN (aO VC bv))))))) ca Tryz.func127 (fun a r h=>ade a.1 a.2 r h)
def Mk:(Contract×State)→List V:=cA aV (oA bT)
def Mm (r:Bool):V×List V:=(B r,[])
noncomputable def Kk :=bf [false,false] Mk Mm fun x=>La x.1 x.2
theorem ahq {c_1:Contract}{s_2:State}{r}(h:La c_1 s_2=some r):Kk.F (Mk (c_1,s_2))=some (Mm r):=aL (aH bc (aM cb)) h
noncomputable def ab5 :=aG Tryz.f77
noncomputable def So :=b9 [(47,Kj),(127,Kz)]
def Ml (x:Contract×State)(r:Bool):St→Prop:=QF So Tryz.f77 [false,false] (Mk x) (Mm r)
theorem acS (c_1:Contract)(s_2:State)(r:Bool)(h:La c_1 s_2=some r):bq So Tryz.f77 [false,false] 0 (Mk (c_1,s_2)) (Mm r):=by
 show Run _ _ (Ml (c_1,s_2) r) [.code ab5] _
 refine rI 12 [(0,aa c_1),(1,ae s_2)] [] 1 ?_
 unfold La at h
 refine ck 9 [2,3,5] [] [1,17] [] [.hp 1 0 [] 2 0 0,.hp 17 0 [] 5 0 0,aa c_1] [some ⟨0,2,[aa c_1]⟩,some ⟨0,5,[ae s_2]⟩] 65 (by kernel_rfl) ?_
 obtain⟨r3,hr3,h⟩:=bS h
 refine oq 81 (B r3) rfl (cP (ahp hr3)) ?_
 refine cq 1 [7] [B r3] 97 ?_
 obtain⟨y4,hy4,hy41,hy42⟩:=bJ h
 have j4:∀u4,y4=.inr u4→Run So 0 (Ml (c_1,s_2) r) (.code (cR (cR ab5))::[]) (sT 12 [(4,B u4)] [] 1):=by
  intro u4 hu
  replace h:=hy42 u4 hu
  obtain rfl:=sI h
  exact rP [B u4]
 have r4:∀r',y4=.inl r'→∀st,Ml (c_1,s_2) r' st→(Ml (c_1,s_2) r) st:=fun r' e st hq=>by rw[hy41 r' e] at hq;exact hq
 replace h:=hy4
 refine sp 7 h rfl ?_ ?_<;>intro h
 ·refine cq 2 [8,9] [aa c_1,ae s_2] 129 ?_
  obtain⟨r5,hr5,h⟩:=bS h
  refine oy 145 (B r5) rfl (cP (ahS hr5)) ?_
  refine cq 3 [4] [B r5] 177 ?_
  exact rf [4] [] (j4 _ (ak h) :)
 ·refine cq 6 [4] [B false] 177 ?_
  exact rf [4] [] (j4 _ (ak h) :)
theorem aaz {G:bZ}:bW G 77 Kk:=gT 2 0 (aO aax (aO aaO bv)) ca Tryz.func77 (fun a r h=>acS a.1 a.2 r h)
def EF:(Int×Contract)→List V:=cA I (oA (fun x:Contract=>.iptr (aV x) 0))
def EG (r:Bool):V×List V:=(B r,[])
noncomputable def BU :=bf [false,false] EF EG fun x=>BT x.1 x.2
theorem aeb {p_1:Int}{a_2:Contract}{r}(h:BT p_1 a_2=some r):BU.F (EF (p_1,a_2))=some (EG r):=aL (aH bd (aM (eZ bc))) h
noncomputable def aed :=aG Tryz.f116
noncomputable def Tx :=b9 [(99,jb)]
def aec (x:Int×Contract)(r:Bool):St→Prop:=QF Tx Tryz.f116 [false,false] (EF x) (EG r)
theorem YI (p_1:Int)(a_2:Contract)(r:Bool)(h:BT p_1 a_2=some r):bq Tx Tryz.f116 [false,false] 0 (EF (p_1,a_2)) (EG r):=by
 show Run _ _ (aec (p_1,a_2) r) [.code aed] _
 refine rI 11 [(0,I p_1),(1,.iptr (aa a_2) 0)] [] 1 ?_
 unfold BT at h
 refine cq 9 [4,6] [I p_1,.isl false (a_2.Parties.map str)] 65 ?_
 refine oq 81 (I (len a_2.Parties)) rfl (bA rfl rfl rfl (bR rfl)) ?_
 refine cq 1 [8] [I (aj ((len a_2.Parties) - 1))] 97 ?_
 obtain⟨r3,hr3,h⟩:=bS h
 refine oq 113 (B r3) rfl (cP (ja hr3)) ?_
 refine cq 3 [3] [B (!r3)] 145 ?_
 obtain rfl:=sI h
 exact rP [B (!r3)]
theorem Ty {G:bZ}:bW G 116 BU:=gT 2 0 (aO jv bv) ca Tryz.func116 (fun a r h=>YI a.1 a.2 r h)
def Gw:((List Int)×Contract)→List V:=cA (fP I) (oA (fun x:Contract=>(.fn 116 [.iptr (aV x) 0]:V)))
def Gx (r:Int):V×List V:=(I r,[])
noncomputable def Dc :=bf [false,false] Gw Gx fun x=>J4 x.1 x.2
theorem afY {s_1:List Int}{f_2:Contract}{r}(h:J4 s_1 f_2=some r):Dc.F (Gw (s_1,f_2))=some (Gx r):=aL (aH (bC bd) (aM (i7 bc))) h
noncomputable def VR :=aG Tryz.f153
noncomputable def NB :=b9 [(116,BU)]
def VQ (x:(List Int)×Contract)(r:Int):St→Prop:=QF NB Tryz.f153 [false,false] (Gw x) (Gx r)
theorem P0 (s_1:List Int)(f_2:Contract):ct NB 0 (VQ (s_1,f_2)) (cL (cL (cR (cL (cR VR))))) 0 (uF s_1 f_2) (fun u=>(sT 19 [] [] 1)) fun x3=>(sT 19 [(0,.isl false (s_1.map I)),(1,.fn 116 [.iptr (aa f_2) 0]),(7,I (len s_1)),(8,I x3)] [] 1):=ez (AH s_1 f_2) fun {Q K} hK self ih x3 y h hr hn=>by
 unfold oe at h
 refine cq 5 [9] [B (decide (x3<(len s_1)))] 17 ?_
 refine sq h ?_ ?_<;>intro h
 ·refine aq 1 ?_
  refine cq 12 [5,11,12,13] [I x3,.fn 116 [.iptr (aa f_2) 0],.isl false (s_1.map I),I x3] 97 ?_
  obtain⟨e4,he4,h⟩:=bS h
  refine oq 113 (.iptr (I e4) 0) rfl (al rfl rfl rfl (aW rfl rfl rfl rfl he4)) ?_
  refine cq 1 [15] [I e4] 129 ?_
  obtain⟨r5,hr5,h⟩:=bS h
  refine oq 145 (B r5) rfl (cP (aeb hr5)) ?_
  refine aq 1 ?_
  refine sq h ?_ ?_<;>intro h
  ·refine cq 5 [4] [I x3] 177 ?_
   exact ci rfl (hr _ (ak h) _ (qp [I x3]))
  ·refine aq 1 ?_
   refine cq 5 [8] [I (aj (x3+1))] 177 ?_
   refine dC ?_
   exact rf [0,1,7,8] [] (ih _ _ h hr hn :)
 ·refine aq 1 ?_
  exact rf [] [] (hn _ (ak h) :) (hk:=hK)
theorem ZK (s_1:List Int)(f_2:Contract)(r:Int)(h:J4 s_1 f_2=some r):bq NB Tryz.f153 [false,false] 0 (Gw (s_1,f_2)) (Gx r):=by
 show Run _ _ (VQ (s_1,f_2) r) [.code VR] _
 refine rI 19 [(0,.isl false (s_1.map I)),(1,.fn 116 [.iptr (aa f_2) 0])] [] 1 ?_
 unfold J4 at h
 refine cq 8 [6] [.isl false (s_1.map I)] 33 ?_
 refine oq 49 (I (len s_1)) rfl (bA rfl rfl rfl (bR rfl)) ?_
 refine cq 3 [8] [I (0)] 65 ?_
 obtain⟨y6,hy6,hy61,hy62⟩:=bJ h
 refine bV rfl ?_
 refine rf [0,1,7,8] [] (P0 s_1 f_2 rfl 0 _ hy6 (fun r' e st hq=>by rw[hy61 r' e] at hq;exact hq) fun u6 hu=>?_)
 replace h:=hy62 u6 hu
 refine cq 4 [4] [I (-1)] 17 ?_
 obtain rfl:=sI h
 exact rP [I (-1)]
theorem VS {G:bZ}:bW G 153 Dc:=gT 2 0 (aO Ty bv) ca Tryz.func153 (fun a r h=>ZK a.1 a.2 r h)
def Ge:((List Int)×Contract)→List V:=cA (fP I) (oA (fun x:Contract=>(.fn 116 [.iptr (aV x) 0]:V)))
def Gf (r:Bool):V×List V:=(B r,[])
noncomputable def C5 :=bf [false,false] Ge Gf fun x=>JW x.1 x.2
theorem afJ {s_1:List Int}{f_2:Contract}{r}(h:JW s_1 f_2=some r):C5.F (Ge (s_1,f_2))=some (Gf r):=aL (aH (bC bd) (aM (i7 bc))) h
noncomputable def afL :=aG Tryz.f115
noncomputable def Vx :=b9 [(153,Dc)]
def afK (x:(List Int)×Contract)(r:Bool):St→Prop:=QF Vx Tryz.f115 [false,false] (Ge x) (Gf r)
theorem ZC (s_1:List Int)(f_2:Contract)(r:Bool)(h:JW s_1 f_2=some r):bq Vx Tryz.f115 [false,false] 0 (Ge (s_1,f_2)) (Gf r):=by
 show Run _ _ (afK (s_1,f_2) r) [.code afL] _
 refine rI 9 [(0,.isl false (s_1.map I)),(1,.fn 116 [.iptr (aa f_2) 0])] [] 1 ?_
 unfold JW at h
 refine cq 8 [5,6] [.isl false (s_1.map I),.fn 116 [.iptr (aa f_2) 0]] 49 ?_
 obtain⟨r3,hr3,h⟩:=bS h
 refine oq 65 (I r3) rfl (bM rfl rfl (b7 rfl rfl rfl (aR (bo rfl) (aR (mt (dZ (gl rfl) ib)) cS)) (afY hr3) (.inr rfl) dH rfl rfl rfl)) ?_
 refine cq 3 [4] [B (decide (r3≥0))] 97 ?_
 obtain rfl:=sI h
 exact rP [B (decide (r3≥0))]
theorem Vy {G:bZ}:bW G 115 C5:=gT 2 0 (aO VS bv) ca Tryz.func115 (fun a r h=>ZC a.1 a.2 r h)
def EC:(Contract×State×(List Int))→List V:=cA aV (cA bT (oA (fP I)))
def EE (r:Bool):V×List V:=(B r,[])
noncomputable def BS :=bf [false,false,false] EC EE fun x=>BR x.1 x.2.1 x.2.2
theorem aea {c_1:Contract}{s_2:State}{gE:List Int}{r}(h:BR c_1 s_2 gE=some r):BS.F (EC (c_1,s_2,gE))=some (EE r):=aL (aH bc (aH cb (aM (bC bd)))) h
noncomputable def Tv :=aG Tryz.f68
noncomputable def M7 :=b9 [(77,Kk),(115,C5)]
def ED (x:Contract×State×(List Int))(r:Bool):St→Prop:=QF M7 Tryz.f68 [false,false,false] (EC x) (EE r)
theorem YH (c_1:Contract)(s_2:State)(gE:List Int)(r:Bool)(h:BR c_1 s_2 gE=some r):bq M7 Tryz.f68 [false,false,false] 0 (EC (c_1,s_2,gE)) (EE r):=by
 show Run _ _ (ED (c_1,s_2,gE) r) [.code Tv] _
 refine rI 16 [(0,aa c_1),(1,ae s_2),(2,.isl false (gE.map I))] [] 1 ?_
 unfold BR at h
 refine ck 10 [3,7,8] [] [1] [] [.hp 1 0 [] 2 0 0,aa c_1,ae s_2] [some ⟨0,2,[aa c_1]⟩] 81 (by kernel_rfl) ?_
 obtain⟨r4,hr4,h⟩:=bS h
 refine oq 97 (B r4) rfl (cP (ahq hr4)) ?_
 refine cq 1 [10] [B r4] 113 ?_
 obtain⟨y5,hy5,hy51,hy52⟩:=bJ h
 have j5:∀u5,y5=.inr u5→Run M7 0 (ED (c_1,s_2,gE) r) (.code (cR (cR Tv))::[]) (sT 16 [(6,B u5)] [] 1):=by
  intro u5 hu
  replace h:=hy52 u5 hu
  obtain rfl:=sI h
  exact rP [B u5]
 have r5:∀r',y5=.inl r'→∀st,ED (c_1,s_2,gE) r' st→(ED (c_1,s_2,gE) r) st:=fun r' e st hq=>by rw[hy51 r' e] at hq;exact hq
 replace h:=hy5
 refine sp 10 h rfl ?_ ?_<;>intro h
 ·refine cq 2 [11,12] [.isl false (gE.map I),.fn 116 [.hp 1 0 [] 2 0 0]] 145 ?_
  obtain⟨r6,hr6,h⟩:=bS h
  refine oy 161 (B r6) rfl (bM rfl rfl (b7 rfl rfl rfl (aR (bo rfl) (aR (mt (dZ (gV (path:=[]) rfl rfl aQ rfl rfl) ib)) cS)) (afJ hr6) (.inl rfl) dH rfl rfl rfl)) ?_
  refine cq 4 [6] [B (!r6)] 209 ?_
  exact rf [6] [] (j5 _ (ak h) :)
 ·refine cq 7 [6] [B false] 209 ?_
  exact rf [6] [] (j5 _ (ak h) :)
theorem Tw {G:bZ}:bW G 68 BS:=gT 3 0 (aO aaz (aO Vy bv)) ca Tryz.func68 (fun a r h=>YH a.1 a.2.1 a.2.2 r h)
def F3:(List ac)→List V:=oA (fP str)
def F4 (r:(List ac)):V×List V:=(.usl 1 (r.map str),[])
noncomputable def C0 :=bf [false] F3 F4 fun x=>CZ x
theorem Vq {s_1:List ac}{r}(h:CZ s_1=some r):C0.F (F3 s_1)=some (F4 r):=aL (aM (bC bx)) h
noncomputable def afB :=aG Tryz.f150
noncomputable def Vp :=b9 []
def afA (x:(List ac))(r:(List ac)):St→Prop:=QF Vp Tryz.f150 [false] (F3 x) (F4 r)
theorem Zx (s_1:List ac)(r:(List ac))(h:CZ s_1=some r):bq Vp Tryz.f150 [false] 0 (F3 s_1) (F4 r):=by
 show Run _ _ (afA s_1 r) [.code afB] _
 refine rI 8 [(0,.isl false (s_1.map str))] [] 1 ?_
 unfold CZ at h
 refine cq 8 [3] [.isl false (s_1.map str)] 33 ?_
 refine nq (f:=str) (xs:=s_1) true 49 rfl h rfl rfl rfl rfl ?_ ?_<;>intro h
 ·refine aq 1 ?_
  refine qV rfl rfl (fun _=>?_) (fun hb=>by cases hb)
  refine cq 4 [2] [.isl true []] 65 ?_
  refine Ab 2 0 1 81 (.hs 65 0 [] 1 0 0) rfl rfl rfl rfl rfl ?_
  obtain rfl:=sI h
  exact ci rfl ⟨_,fin (vs:=[.hs 65 0 [] 1 0 0]) rfl (fU (fC rfl (cZ (k:=0) (es:=[]) rfl rfl)) eg) rfl (dh fa),eW⟩
 ·refine aq 1 ?_
  refine qV rfl rfl (fun hb=>by cases hb) (fun _=>?_)
  refine aq 3 ?_
  refine oq 65 (.hs 49 0 [] 1 0 0) rfl (eB rfl (ka (f:=I) (xs:=[]) (z:=str ([])) (es:=[]) (ws:=[]) rfl rfl rfl (by decide) rfl (dR rfl) rfl)) ?_
  refine cq 1 [6] [.isl false (s_1.map str)] 81 ?_
  obtain⟨a2,ha2,h⟩:=bS h
  refine oq 97 (.hs 81 0 [] 1 0 (a2.map str).length) rfl (iP rfl rfl rfl rfl rfl (lf (path:=[]) (es0:=[]) (f:=str) (xs:=([]:List ac)) (ys:=s_1) rfl rfl sS rfl rfl rfl rfl rfl (by decide) kL ha2 rfl nM)) ?_
  refine cq 2 [2] [.hs 81 0 [] 1 0 (a2.map str).length] 113 ?_
  obtain rfl:=sI h
  exact ci rfl ⟨_,fin (vs:=[.hs 81 0 [] 1 0 (a2.map str).length]) rfl (fU (fC rfl (cZ rfl rfl)) eg) rfl (dh fa),eW⟩
theorem Vr {G:bZ}:bW G 150 C0:=gT 1 0 bv ca Tryz.func150 (fun a r h=>Zx a r h)
def FZ:(List Duty)→List V:=oA (fP ah)
def F0 (r:(List Duty)):V×List V:=(.usl 4 (r.map ah),[])
noncomputable def CW :=bf [false] FZ F0 fun x=>CV x
theorem Vk {s_1:List Duty}{r}(h:CV s_1=some r):CW.F (FZ s_1)=some (F0 r):=aL (aM (bC ec)) h
noncomputable def afx :=aG Tryz.f151
noncomputable def Vj :=b9 []
def afw (x:(List Duty))(r:(List Duty)):St→Prop:=QF Vj Tryz.f151 [false] (FZ x) (F0 r)
theorem Zv (s_1:List Duty)(r:(List Duty))(h:CV s_1=some r):bq Vj Tryz.f151 [false] 0 (FZ s_1) (F0 r):=by
 show Run _ _ (afw s_1 r) [.code afx] _
 refine rI 8 [(0,.isl false (s_1.map ah))] [] 1 ?_
 unfold CV at h
 refine cq 8 [3] [.isl false (s_1.map ah)] 33 ?_
 refine nq (f:=ah) (xs:=s_1) true 49 rfl h rfl rfl rfl rfl ?_ ?_<;>intro h
 ·refine aq 1 ?_
  refine qV rfl rfl (fun _=>?_) (fun hb=>by cases hb)
  refine cq 4 [2] [.isl true []] 65 ?_
  refine Ab 2 0 4 81 (.hs 65 0 [] 4 0 0) rfl rfl rfl rfl rfl ?_
  obtain rfl:=sI h
  exact ci rfl ⟨_,fin (vs:=[.hs 65 0 [] 4 0 0]) rfl (fU (fC rfl (cZ (k:=0) (es:=[]) rfl rfl)) eg) rfl (dh fa),eW⟩
 ·refine aq 1 ?_
  refine qV rfl rfl (fun hb=>by cases hb) (fun _=>?_)
  refine aq 3 ?_
  refine oq 65 (.hs 49 0 [] 4 0 0) rfl (eB rfl (ka (f:=I) (xs:=[]) (z:=.agg [I (0),I (0),I (0),I (0)]) (es:=[]) (ws:=[]) rfl rfl rfl (by decide) rfl (dR rfl) rfl)) ?_
  refine cq 1 [6] [.isl false (s_1.map ah)] 81 ?_
  obtain⟨a2,ha2,h⟩:=bS h
  refine oq 97 (.hs 81 0 [] 4 0 (a2.map ah).length) rfl (iP rfl rfl rfl rfl rfl (lf (path:=[]) (es0:=[]) (f:=ah) (xs:=([]:List Duty)) (ys:=s_1) rfl rfl sS rfl rfl rfl rfl rfl (by decide) vv ha2 rfl nM)) ?_
  refine cq 2 [2] [.hs 81 0 [] 4 0 (a2.map ah).length] 113 ?_
  obtain rfl:=sI h
  exact ci rfl ⟨_,fin (vs:=[.hs 81 0 [] 4 0 (a2.map ah).length]) rfl (fU (fC rfl (cZ rfl rfl)) eg) rfl (dh fa),eW⟩
theorem Vl {G:bZ}:bW G 151 CW:=gT 1 0 bv ca Tryz.func151 (fun a r h=>Zv a r h)
def F1:(List Int)→List V:=oA (fP I)
def F2 (r:(List Int)):V×List V:=(.usl 1 (r.map I),[])
noncomputable def CY :=bf [false] F1 F2 fun x=>CX x
theorem Vn {s_1:List Int}{r}(h:CX s_1=some r):CY.F (F1 s_1)=some (F2 r):=aL (aM (bC bd)) h
noncomputable def afz :=aG Tryz.f152
noncomputable def Vm :=b9 []
def afy (x:(List Int))(r:(List Int)):St→Prop:=QF Vm Tryz.f152 [false] (F1 x) (F2 r)
theorem Zw (s_1:List Int)(r:(List Int))(h:CX s_1=some r):bq Vm Tryz.f152 [false] 0 (F1 s_1) (F2 r):=by
 show Run _ _ (afy s_1 r) [.code afz] _
 refine rI 8 [(0,.isl false (s_1.map I))] [] 1 ?_
 unfold CX at h
 refine cq 8 [3] [.isl false (s_1.map I)] 33 ?_
 refine nq (f:=I) (xs:=s_1) true 49 rfl h rfl rfl rfl rfl ?_ ?_<;>intro h
 ·refine aq 1 ?_
  refine qV rfl rfl (fun _=>?_) (fun hb=>by cases hb)
  refine cq 4 [2] [.isl true []] 65 ?_
  refine Ab 2 0 1 81 (.hs 65 0 [] 1 0 0) rfl rfl rfl rfl rfl ?_
  obtain rfl:=sI h
  exact ci rfl ⟨_,fin (vs:=[.hs 65 0 [] 1 0 0]) rfl (fU (fC rfl (cZ (k:=0) (es:=[]) rfl rfl)) eg) rfl (dh fa),eW⟩
 ·refine aq 1 ?_
  refine qV rfl rfl (fun hb=>by cases hb) (fun _=>?_)
  refine aq 3 ?_
  refine oq 65 (.hs 49 0 [] 1 0 0) rfl (eB rfl (ka (f:=I) (xs:=[]) (z:=I (0)) (es:=[]) (ws:=[]) rfl rfl rfl (by decide) rfl (dR rfl) rfl)) ?_
  refine cq 1 [6] [.isl false (s_1.map I)] 81 ?_
  obtain⟨a2,ha2,h⟩:=bS h
  refine oq 97 (.hs 81 0 [] 1 0 (a2.map I).length) rfl (iP rfl rfl rfl rfl rfl (lf (path:=[]) (es0:=[]) (f:=I) (xs:=([]:List Int)) (ys:=s_1) rfl rfl sS rfl rfl rfl rfl rfl (by decide) pW ha2 rfl nM)) ?_
  refine cq 2 [2] [.hs 81 0 [] 1 0 (a2.map I).length] 113 ?_
  obtain rfl:=sI h
  exact ci rfl ⟨_,fin (vs:=[.hs 81 0 [] 1 0 (a2.map I).length]) rfl (fU (fC rfl (cZ rfl rfl)) eg) rfl (dh fa),eW⟩
theorem Vo {G:bZ}:bW G 152 CY:=gT 1 0 bv ca Tryz.func152 (fun a r h=>Zw a r h)
def EX:State→List V:=oA bT
def EY (r:State):V×List V:=(.agg [I r.Day,.usl 1 (r.Facts.map str),.usl 4 (r.Duties.map ah),.usl 1 (r.Balances.map I),B r.Over],[])
noncomputable def B7 :=bf [false] EX EY fun x=>B6 x
theorem TN {s_1:State}{r}(h:B6 s_1=some r):B7.F (EX s_1)=some (EY r):=aL (aM cb) h
noncomputable def aex :=aG Tryz.f109
noncomputable def TM :=b9 [(150,C0),(151,CW),(152,CY)]
def aew (x:State)(r:State):St→Prop:=QF TM Tryz.f109 [false] (EX x) (EY r)
theorem YQ (s_1:State)(r:State)(h:B6 s_1=some r):bq TM Tryz.f109 [false] 0 (EX s_1) (EY r):=by
 show Run _ _ (aew s_1 r) [.code aex] _
 refine rI 16 [(0,ae s_1)] [] 1 ?_
 unfold B6 at h
 refine ck 4 [1,2] [] [1,17] [] [.hp 1 0 [] 5 0 0,.hp 17 0 [] 5 0 0] [some ⟨0,5,[ae s_1]⟩,some ⟨0,5,[.agg [I (0),.isl true [],.isl true [],.isl true [],B false]]⟩] 33 (by kernel_rfl) ?_
 refine fK 17 [.agg [I (0),.usl 1 (([]).map str),.usl 4 (([]).map ah),.usl 1 (([]).map I),B false]] rfl rfl (aJ (gC (aJ (.refl _) (aJ (.nil _) (aJ (.nil _) (aJ (.nil _) (aJ (.refl _) eF)))))) eF) ?_
 refine aq 2 ?_
 refine dV [0,1,3,0,8,31,0,64,255,223,1023,2047,4095,8191,16383] rfl (by decide +kernel) ?_
 refine dq [1] [] (.hp 1 0 [] 5 0 1) rfl (an rfl rfl rfl) ?_
 refine dq [1] [] (.isl false (s_1.Facts.map str)) rfl (aU rfl rfl) ?_
 obtain⟨r2,hr2,h⟩:=bS h
 refine dq [] [] (.hs 65 0 [] 1 0 (r2.map str).length) rfl (cP (Vq hr2)) ?_ (dK rfl rfl rfl rfl (aR (bo rfl) cS) (Vq hr2) (.inr rfl) rfl)
 refine dq [1] [] (.hp 1 0 [] 5 0 2) rfl (an rfl rfl rfl) ?_
 refine dq [1] [] (.isl false (s_1.Duties.map ah)) rfl (aU rfl rfl) ?_
 obtain⟨r3,hr3,h⟩:=bS h
 refine dq [] [] (.hs 113 0 [] 4 0 (r3.map ah).length) rfl (cP (Vk hr3)) ?_ (dK rfl rfl rfl rfl (aR (bo rfl) cS) (Vk hr3) (.inr rfl) rfl)
 refine dq [1] [] (.hp 1 0 [] 5 0 3) rfl (an rfl rfl rfl) ?_
 refine dq [1] [] (.isl false (s_1.Balances.map I)) rfl (aU rfl rfl) ?_
 obtain⟨r4,hr4,h⟩:=bS h
 refine dq [] [] (.hs 161 0 [] 1 0 (r4.map I).length) rfl (cP (Vn hr4)) ?_ (dK rfl rfl rfl rfl (aR (bo rfl) cS) (Vn hr4) (.inr rfl) rfl)
 refine dq [1] [] (.hp 1 0 [] 5 0 1) rfl (an rfl rfl rfl) ?_
 refine dz [1,65] [1,65] rfl (fZ rfl rfl (eX (path:=[]) (pl:=false) (e':=.agg [I s_1.Day,.usl 1 (r2.map str),.isl false (s_1.Duties.map ah),.isl false (s_1.Balances.map I),B s_1.Over]) (es2':=[.agg [I s_1.Day,.usl 1 (r2.map str),.isl false (s_1.Duties.map ah),.isl false (s_1.Balances.map I),B s_1.Over]]) rfl (fC rfl (cZ rfl rfl)) rfl rfl rfl aQ rfl rfl rfl rfl rfl ee 1 rfl)) ?_
 refine dq [1] [] (.hp 1 0 [] 5 0 2) rfl (an rfl rfl rfl) ?_
 refine dz [1,113] [1,113] rfl (fZ rfl rfl (eX (path:=[]) (pl:=false) (e':=.agg [I s_1.Day,.usl 1 (r2.map str),.usl 4 (r3.map ah),.isl false (s_1.Balances.map I),B s_1.Over]) (es2':=[.agg [I s_1.Day,.usl 1 (r2.map str),.usl 4 (r3.map ah),.isl false (s_1.Balances.map I),B s_1.Over]]) rfl (fC rfl (cZ rfl rfl)) rfl rfl rfl aQ rfl rfl rfl rfl rfl ee 2 rfl)) ?_
 refine dq [1] [] (.hp 1 0 [] 5 0 3) rfl (an rfl rfl rfl) ?_
 refine dz [1,161] [1,161] rfl (fZ rfl rfl (eX (path:=[]) (pl:=false) (e':=.agg [I s_1.Day,.usl 1 (r2.map str),.usl 4 (r3.map ah),.usl 1 (r4.map I),B s_1.Over]) (es2':=[.agg [I s_1.Day,.usl 1 (r2.map str),.usl 4 (r3.map ah),.usl 1 (r4.map I),B s_1.Over]]) rfl (fC rfl (cZ rfl rfl)) rfl rfl rfl aQ rfl rfl rfl rfl rfl ee 3 rfl)) ?_
 refine de 273 rfl rfl ?_
 refine cq 3 [15] [.agg [I s_1.Day,.hs 1 3 [(0,1)] 1 0 (r2.map str).length,.hs 1 3 [(0,2)] 4 0 (r3.map ah).length,.hs 1 3 [(0,3)] 1 0 (r4.map I).length,B s_1.Over]] 289 ?_
 refine o0 305 rfl rfl (fZ rfl rfl (eX (path:=[]) (pl:=false) (e':=.agg [I s_1.Day,.usl 1 (r2.map str),.usl 4 (r3.map ah),.usl 1 (r4.map I),B s_1.Over]) (es2':=[.agg [I s_1.Day,.usl 1 (r2.map str),.usl 4 (r3.map ah),.usl 1 (r4.map I),B s_1.Over]]) rfl (mW (cg (cO rfl) (cg (gj (path:=[(0,1)]) rfl rfl (f8 rfl rfl aQ) rfl (ky (path:=[]) (i:=0) (k:=1) (e':=.agg [I s_1.Day,.dead,.usl 4 (r3.map ah),.usl 1 (r4.map I),B s_1.Over]) (es2':=[.agg [I s_1.Day,.dead,.usl 4 (r3.map ah),.usl 1 (r4.map I),B s_1.Over]]) aQ rfl rfl rfl ee)) (cg (gj (path:=[(0,2)]) rfl rfl (f8 rfl rfl aQ) rfl (ky (path:=[]) (i:=0) (k:=2) (e':=.agg [I s_1.Day,.dead,.dead,.usl 1 (r4.map I),B s_1.Over]) (es2':=[.agg [I s_1.Day,.dead,.dead,.usl 1 (r4.map I),B s_1.Over]]) aQ rfl rfl rfl ee)) (cg (gj (path:=[(0,3)]) rfl rfl (f8 rfl rfl aQ) rfl (ky (path:=[]) (i:=0) (k:=3) (e':=.agg [I s_1.Day,.dead,.dead,.dead,B s_1.Over]) (es2':=[.agg [I s_1.Day,.dead,.dead,.dead,B s_1.Over]]) aQ rfl rfl rfl ee)) (cg (cO rfl) mX)))))) rfl rfl rfl aQ rfl rfl rfl rfl rfl ee 2 rfl)) ?_
 refine aq 1 ?_
 obtain rfl:=sI h
 exact ci rfl ⟨_,fin (vs:=[.agg [I s_1.Day,.hs 17 2 [(0,1)] 1 0 (r2.map str).length,.hs 17 2 [(0,2)] 4 0 (r3.map ah).length,.hs 17 2 [(0,3)] 1 0 (r4.map I).length,B s_1.Over]]) (KP (se rfl rfl rfl) KQ) (fU (mW (cg (cO rfl) (cg (gj (path:=[(0,1)]) rfl rfl (f8 rfl rfl aQ) rfl (ky (path:=[]) (i:=0) (k:=1) (e':=.agg [I s_1.Day,.dead,.usl 4 (r3.map ah),.usl 1 (r4.map I),B s_1.Over]) (es2':=[.agg [I s_1.Day,.dead,.usl 4 (r3.map ah),.usl 1 (r4.map I),B s_1.Over]]) aQ rfl rfl rfl ee)) (cg (gj (path:=[(0,2)]) rfl rfl (f8 rfl rfl aQ) rfl (ky (path:=[]) (i:=0) (k:=2) (e':=.agg [I s_1.Day,.dead,.dead,.usl 1 (r4.map I),B s_1.Over]) (es2':=[.agg [I s_1.Day,.dead,.dead,.usl 1 (r4.map I),B s_1.Over]]) aQ rfl rfl rfl ee)) (cg (gj (path:=[(0,3)]) rfl rfl (f8 rfl rfl aQ) rfl (ky (path:=[]) (i:=0) (k:=3) (e':=.agg [I s_1.Day,.dead,.dead,.dead,B s_1.Over]) (es2':=[.agg [I s_1.Day,.dead,.dead,.dead,B s_1.Over]]) aQ rfl rfl rfl ee)) (cg (cO rfl) mX)))))) eg) rfl (dh fa),eW⟩
theorem TP {G:bZ}:bW G 109 B7:=gT 1 0 (aO Vr (aO Vl (aO Vo bv))) ca Tryz.func109 (fun a r h=>YQ a r h)
def EL:(Contract×State)→List V:=cA aV (oA bT)
def EM (r:machine):V×List V:=(.uptr (OI r),[])
noncomputable def B1 :=bf [false,false] EL EM fun x=>B0 x.1 x.2
theorem aek {c_1:Contract}{s_2:State}{r}(h:B0 c_1 s_2=some r):B1.F (EL (c_1,s_2))=some (EM r):=aL (aH bc (aM cb)) h
noncomputable def aem :=aG Tryz.f60
noncomputable def TD :=b9 [(109,B7),(101,vn)]
def ael (x:Contract×State)(r:machine):St→Prop:=QF TD Tryz.f60 [false,false] (EL x) (EM r)
theorem YL (c_1:Contract)(s_2:State)(r:machine)(h:B0 c_1 s_2=some r):bq TD Tryz.f60 [false,false] 0 (EL (c_1,s_2)) (EM r):=by
 show Run _ _ (ael (c_1,s_2) r) [.code aem] _
 refine rI 12 [(0,aa c_1),(1,ae s_2)] [] 1 ?_
 unfold B0 at h
 refine ck 7 [2,3] [] [1,17] [] [.hp 1 0 [] 2 0 0,.hp 17 0 [] 5 0 0] [some ⟨0,2,[aa c_1]⟩,some ⟨0,5,[ae s_2]⟩] 49 (by kernel_rfl) ?_
 refine dV [0,0,2,0,14,31,63,127] rfl (by decide +kernel) ?_
 refine dq [1] [] (aa c_1) rfl (aU rfl rfl) ?_
 refine dq [17] [] (ae s_2) rfl (aU rfl rfl) ?_
 obtain⟨r3,hr3,h⟩:=bS h
 refine dq [] [] (.agg [I r3.Day,.hs 81 0 [] 1 0 (r3.Facts.map str).length,.hs 82 0 [] 4 0 (r3.Duties.map ah).length,.hs 83 0 [] 1 0 (r3.Balances.map I).length,B r3.Over]) rfl (cP (TN hr3)) ?_ (dK rfl rfl rfl rfl (aR (bo rfl) cS) (TN hr3) (.inr rfl) rfl)
 refine dq [1] [] (aa c_1) rfl (aU rfl rfl) ?_
 obtain⟨r4,hr4,h⟩:=bS h
 refine dq [] [] (.hs 113 0 [] 1 0 (r4.map str).length) rfl (cP (MC hr4)) ?_ (dK rfl rfl rfl rfl (aR (bo rfl) cS) (MC hr4) (.inr rfl) rfl)
 refine dk 1 [10] [.agg [.isl false (c_1.Parties.map str),.isl false (c_1.Clauses.map ao),I r3.Day,.hs 81 0 [] 1 0 (r3.Facts.map str).length,.hs 82 0 [] 4 0 (r3.Duties.map ah).length,.hs 83 0 [] 1 0 (r3.Balances.map I).length,B r3.Over,.hs 113 0 [] 1 0 (r4.map str).length,.isl true [],B false]] ?_
 refine dq [81,82,83,113] [81,82,83,113] (.hp 145 0 [] 10 0 0) rfl (agU rfl (mW (cg (cO rfl) (cg (cO rfl) (cg (cO rfl) (cg (cZ rfl rfl) (cg (cZ rfl rfl) (cg (cZ rfl rfl) (cg (cO rfl) (cg (cZ rfl rfl) (cg (cO rfl) (cg (cO rfl) mX))))))))))) rfl) ?_
 refine dk 1 [4] [.hp 145 0 [] 10 0 0] ?_
 refine de 177 rfl rfl ?_
 refine fK 145 [.agg [.isl false (c_1.Parties.map str),.isl false (c_1.Clauses.map ao),I r3.Day,.usl 1 (r3.Facts.map str),.usl 4 (r3.Duties.map ah),.usl 1 (r3.Balances.map I),B r3.Over,.usl 1 (r4.map str),.usl 4 (([]).map jE),B false]] rfl rfl (aJ (gC (aJ (.refl _) (aJ (.refl _) (aJ (.refl _) (aJ (.refl _) (aJ (.refl _) (aJ (.refl _) (aJ (.refl _) (aJ (.refl _) (aJ (.nil _) (aJ (.refl _) eF))))))))))) eF) ?_
 obtain rfl:=sI h
 exact ci rfl ⟨_,fin (vs:=[.hp 145 0 [] 10 0 0]) rfl (fU (fC rfl (adf (path:=[]) rfl rfl aQ nM)) eg) rfl (dh (dh fa)),eW⟩
theorem TE {G:bZ}:bW G 60 B1:=gT 2 0 (aO TP (aO D7 bv)) ca Tryz.func60 (fun a r h=>YL a.1 a.2 r h)
def Ma:(Duty×Clause×Int×ac)→List V:=cA ah (cA ao (cA (fun x:Int=>.iptr (I x) 0) (oA (fun x:ac=>.iptr (str x) 0))))
def Mb (r:Bool):V×List V:=(B r,[])
noncomputable def JU :=bf [false,false,false,false] Ma Mb fun x=>QY x.1 x.2.1 x.2.2.1 x.2.2.2
theorem ab0 {d_1:Duty}{x_2:Clause}{a_3:Int}{a_4:ac}{r}(h:QY d_1 x_2 a_3 a_4=some r):JU.F (Ma (d_1,x_2,a_3,a_4))=some (Mb r):=aL (aH ec (aH cG (aH (eZ bd) (aM (eZ bx))))) h
noncomputable def ab3 :=aG Tryz.f82
noncomputable def R5 :=b9 []
def ab1 (x:Duty×Clause×Int×ac)(r:Bool):St→Prop:=QF R5 Tryz.f82 [false,false,false,false] (Ma x) (Mb r)
theorem acF (d_1:Duty)(x_2:Clause)(a_3:Int)(a_4:ac)(r:Bool)(h:QY d_1 x_2 a_3 a_4=some r):bq R5 Tryz.f82 [false,false,false,false] 0 (Ma (d_1,x_2,a_3,a_4)) (Mb r):=by
 show Run _ _ (ab1 (d_1,x_2,a_3,a_4) r) [.code ab3] _
 refine rI 17 [(0,ah d_1),(1,ap x_2),(2,.iptr (I a_3) 0),(3,.iptr (str a_4) 0)] [] 1 ?_
 unfold QY at h
 refine ck 13 [5,11] [] [17] [] [.hp 17 0 [] 12 0 0,B (x_2.Party==a_3)] [some ⟨0,12,[ap x_2]⟩] 129 (by kernel_rfl) ?_
 obtain⟨u5,hu5,h⟩:=lJ h
 have j5:Run R5 0 (ab1 (d_1,x_2,a_3,a_4) r) (.code (cR (cR ab3))::[]) (sT 17 [(6,B u5)] [] 1):=by
  obtain rfl:=sI h
  exact rP [B u5]
 replace h:=hu5
 clear hu5
 refine sp 11 h rfl ?_ ?_<;>intro h
 ·refine cq 7 [6] [B (x_2.Action==a_4)] 225 ?_
  subst h
  exact rf [6] [] (j5 :)
 ·refine cq 7 [6] [B false] 225 ?_
  subst h
  exact rf [6] [] (j5 :)
theorem ZA {G:bZ}:bW G 82 JU:=gT 4 0 bv ca Tryz.func82 (fun a r h=>acF a.1 a.2.1 a.2.2.1 a.2.2.2 r h)
def L5:Int→List V:=oA I
def L6 (r:Bool):V×List V:=(B r,[])
noncomputable def JM :=bf [false] L5 L6 fun x=>M6 x
theorem abZ {x_1:Int}{r}(h:M6 x_1=some r):JM.F (L5 x_1)=some (L6 r):=aL (aM bd) h
noncomputable def ahk :=aG Tryz.f155
noncomputable def abY :=b9 []
def ahj (x:Int)(r:Bool):St→Prop:=QF abY Tryz.f155 [false] (L5 x) (L6 r)
theorem acA (x_1:Int)(r:Bool)(h:M6 x_1=some r):bq abY Tryz.f155 [false] 0 (L5 x_1) (L6 r):=by
 show Run _ _ (ahj x_1 r) [.code ahk] _
 refine rI 6 [(0,I x_1)] [] 1 ?_
 unfold M6 at h
 refine cq 11 [2] [B (x_1 != x_1)] 81 ?_
 obtain rfl:=sI h
 exact rP [B (x_1 != x_1)]
theorem YG {G:bZ}:bW G 155 JM:=gT 1 0 bv ca Tryz.func155 (fun a r h=>acA a r h)
def L3:(Int×Int)→List V:=cA I (oA I)
def L4 (r:Int):V×List V:=(I r,[])
noncomputable def JL :=bf [false,false] L3 L4 fun x=>M5 x.1 x.2
theorem abX {x_1:Int}{y_2:Int}{r}(h:M5 x_1 y_2=some r):JL.F (L3 (x_1,y_2))=some (L4 r):=aL (aH bd (aM bd)) h
noncomputable def ahi :=aG Tryz.f119
noncomputable def abW :=b9 [(155,JM)]
def ahh (x:Int×Int)(r:Int):St→Prop:=QF abW Tryz.f119 [false,false] (L3 x) (L4 r)
theorem acz (x_1:Int)(y_2:Int)(r:Int)(h:M5 x_1 y_2=some r):bq abW Tryz.f119 [false,false] 0 (L3 (x_1,y_2)) (L4 r):=by
 show Run _ _ (ahh (x_1,y_2) r) [.code ahi] _
 refine rI 20 [(0,I x_1),(1,I y_2)] [] 1 ?_
 unfold M5 at h
 refine cq 7 [7] [I x_1] 33 ?_
 obtain⟨r3,hr3,h⟩:=bS h
 refine oq 49 (B r3) rfl (cP (abZ hr3)) ?_
 refine cq 5 [5,9] [B r3,I y_2] 81 ?_
 obtain⟨r4,hr4,h⟩:=bS h
 refine oq 97 (B r4) rfl (cP (abZ hr4)) ?_
 refine cq 7 [6,11] [B r4,B r3] 129 ?_
 refine sq h ?_ ?_<;>intro h
 ·refine cq 5 [12] [B r4] 145 ?_
  refine sq h ?_ ?_<;>intro h
  ·refine cq 4 [4] [I (0)] 161 ?_
   obtain rfl:=sI h
   exact rP [I (0)]
  ·refine aq 1 ?_
   refine cq 4 [4] [I (-1)] 161 ?_
   obtain rfl:=sI h
   exact rP [I (-1)]
 ·refine aq 1 ?_
  refine cq 5 [13] [B r4] 145 ?_
  refine sq h ?_ ?_<;>intro h
  ·refine cq 4 [4] [I (1)] 161 ?_
   obtain rfl:=sI h
   exact rP [I (1)]
  ·refine aq 1 ?_
   refine cq 7 [16] [B (decide (x_1<y_2))] 193 ?_
   refine sq h ?_ ?_<;>intro h
   ·refine cq 4 [4] [I (-1)] 209 ?_
    obtain rfl:=sI h
    exact rP [I (-1)]
   ·refine aq 1 ?_
    refine cq 7 [19] [B (decide (x_1>y_2))] 241 ?_
    refine sq h ?_ ?_<;>intro h
    ·refine cq 4 [4] [I (1)] 257 ?_
     obtain rfl:=sI h
     exact rP [I (1)]
    ·refine aq 1 ?_
     refine cq 4 [4] [I (0)] 257 ?_
     obtain rfl:=sI h
     exact rP [I (0)]
theorem YF {G:bZ}:bW G 119 JL:=gT 2 0 (aO YG bv) ca Tryz.func119 (fun a r h=>acz a.1 a.2 r h)
def Mv:(Int×Int×State)→List V:=cA I (cA I (oA (fun x:State=>.iptr (bT x) 0)))
def Mw (r:Int):V×List V:=(I r,[])
noncomputable def zM :=bf [false,false,false] Mv Mw fun x=>Bq x.1 x.2.1 x.2.2
theorem tj {i_1:Int}{k_2:Int}{a_3:State}{r}(h:Bq i_1 k_2 a_3=some r):zM.F (Mv (i_1,k_2,a_3))=some (Mw r):=aL (aH bd (aH bd (aM (eZ cb)))) h
noncomputable def ahz :=aG Tryz.f118
noncomputable def aca :=b9 [(119,JL)]
def ahy (x:Int×Int×State)(r:Int):St→Prop:=QF aca Tryz.f118 [false,false,false] (Mv x) (Mw r)
theorem ac0 (i_1:Int)(k_2:Int)(a_3:State)(r:Int)(h:Bq i_1 k_2 a_3=some r):bq aca Tryz.f118 [false,false,false] 0 (Mv (i_1,k_2,a_3)) (Mw r):=by
 show Run _ _ (ahy (i_1,k_2,a_3) r) [.code ahz] _
 refine rI 19 [(0,I i_1),(1,I k_2),(2,.iptr (ae a_3) 0)] [] 1 ?_
 unfold Bq at h
 refine cq 5 [] [] 17 ?_
 refine dV [0,1,0,7,15,31,0,64,0,448,960,1984,4095,8191] rfl (by decide +kernel) ?_
 refine dq [] [] (.iptr (ae a_3) 2) rfl (an rfl rfl rfl) ?_
 refine dq [] [] (.isl false (a_3.Duties.map ah)) rfl (aU rfl rfl) ?_
 refine dk 1 [8] [I i_1] ?_
 obtain⟨e4,he4,h⟩:=bS h
 refine dq [] [] (.iptr (ah e4) 0) rfl (al rfl rfl rfl (aW rfl rfl rfl rfl he4)) ?_
 refine dq [] [] (.iptr (ah e4) 2) rfl (an rfl rfl rfl) ?_
 refine dq [] [] (I e4.Due) rfl (aU rfl rfl) ?_
 refine dq [] [] (.iptr (ae a_3) 2) rfl (an rfl rfl rfl) ?_
 refine dq [] [] (.isl false (a_3.Duties.map ah)) rfl (aU rfl rfl) ?_
 refine dk 1 [14] [I k_2] ?_
 obtain⟨e5,he5,h⟩:=bS h
 refine dq [] [] (.iptr (ah e5) 0) rfl (al rfl rfl rfl (aW rfl rfl rfl rfl he5)) ?_
 refine dq [] [] (.iptr (ah e5) 2) rfl (an rfl rfl rfl) ?_
 refine dq [] [] (I e5.Due) rfl (aU rfl rfl) ?_
 obtain⟨r6,hr6,h⟩:=bS h
 refine dq [] [] (I r6) rfl (cP (abX hr6)) ?_ (dK rfl rfl rfl rfl (aR (bo rfl) (aR (bo rfl) cS)) (abX hr6) (.inr rfl) rfl)
 refine dk 1 [5] [I r6] ?_
 refine de 241 rfl rfl ?_
 obtain rfl:=sI h
 exact rP [I r6]
theorem Ob {G:bZ}:bW G 118 zM:=gT 3 0 (aO YF bv) ca Tryz.func118 (fun a r h=>ac0 a.1 a.2.1 a.2.2 r h)
def GG:((List Int)×Int×Int×State)→List V:=cA (sU 1 I) (cA I (cA I (oA (fun x:State=>(.fn 118 [.iptr (bT x) 0]:V)))))
def GI (r:(List Int)):V×List V:=(.tup [],[.usl 1 (r.map I)])
noncomputable def Dh :=bf [true,false,false,false] GG GI fun x=>sf x.1 x.2.1 x.2.2.1 x.2.2.2
theorem V4 {cE:List Int}{eR:Int}{eY:Int}{di:State}{r}(h:sf cE eR eY di=some r):Dh.F (GG (cE,eR,eY,di))=some (GI r):=aL (aH (ju bd) (aH bd (aH bd (aM (i7 cb))))) h
noncomputable def NF :=aG Tryz.f180
noncomputable abbrev zC :=cL (cL (cR (cL (cL (cR (cL (cL (cR NF))))))))
noncomputable def xO :=b9 [(118,zM)]
def GH (x:(List Int)×Int×Int×State)(r:(List Int)):St→Prop:=QF xO Tryz.f180 [true,false,false,false] (GG x) (GI r)
theorem P5 (cE:List Int)(eR:Int)(eY:Int)(di:State)(x5:Int×Int×Int×(List Int)):ct xO 1 (GH (cE,eR,eY,di)) zC 2 (lu cE eR eY di x5) (fun u=>(sT 53 [(0,.hs 1 0 [] 1 0 (u.map I).length),(1,I x5.1),(2,I x5.2.1),(3,.fn 118 [.iptr (ae di) 0]),(8,I x5.2.2.1)] [⟨0,1,u.map I⟩] 2)) fun x6=>(sT 53 [(0,.hs 1 0 [] 1 0 (x6.2.map I).length),(1,I x5.1),(2,I x5.2.1),(3,.fn 118 [.iptr (ae di) 0]),(8,I x5.2.2.1),(9,I x6.1)] [⟨0,1,x6.2.map I⟩] 2):=ez (AM cE eR eY di x5) fun {Q K} hK self ih x6 y h hr hn=>by
 unfold kB at h
 refine aq 2 ?_
 refine dV [0,0,3,7,15,15,15,111,239,15,15,1039,3599,7695,16383,32767,65535] rfl (by decide +kernel) ?_
 refine dk 4 [21,20,19,18] [B (decide (x6.1>x5.1)),B (decide (x6.1>x5.1)),I x5.1,I x6.1] ?_
 obtain⟨y7,hy7,hy71,hy72⟩:=bL h
 have j7:∀u7,y7=.inr u7→Run xO 1 Q (.code (cR (cL zC))::.code (cR zC)::.lp zC::.blk 2::K) (sT 53 [(0,.hs 1 0 [] 1 0 (x6.2.map I).length),(1,I x5.1),(2,I x5.2.1),(3,.fn 118 [.iptr (ae di) 0]),(8,I x5.2.2.1),(9,I x6.1),(34,B u7)] [⟨0,1,x6.2.map I⟩] 2):=by
  intro u7 hu
  replace h:=hy72 u7 hu
  refine sq h ?_ ?_<;>intro h
  ·refine aq 1 ?_
   refine aq 2 ?_
   refine dV [0,0,0,0,8,0,0,64,224,480,0,0,3072,7168,16355,32739,65535,131071] rfl (by decide +kernel) ?_
   refine dk 8 [44,43,42,41,40,39,38,37] [I (aj (x6.1 - 1)),I x6.1,.hs 1 0 [] 1 0 (x6.2.map I).length,I (aj (x6.1 - 1)),I x6.1,.hs 1 0 [] 1 0 (x6.2.map I).length,I x6.1,.hs 1 0 [] 1 0 (x6.2.map I).length] ?_
   obtain⟨e8,he8,h⟩:=bS h
   refine dq [1] [] (.hp 1 0 [] 1 (0+Int.toNat (aj (x6.1 - 1))) 0) rfl (al rfl rfl rfl (d7 (f:=I) (xs:=x6.2) rfl rfl rfl he8)) ?_
   refine dq [1] [] (I e8) rfl (aU rfl (gq (path:=[]) rfl rfl rfl aQ (dD (f:=I) (xs:=x6.2) he8) rfl rfl rfl)) ?_
   refine dk 2 [48,47] [I x6.1,.hs 1 0 [] 1 0 (x6.2.map I).length] ?_
   obtain⟨e9,he9,h⟩:=bS h
   refine dq [1] [] (.hp 1 0 [] 1 (0+Int.toNat x6.1) 0) rfl (al rfl rfl rfl (d7 (f:=I) (xs:=x6.2) rfl rfl rfl he9)) ?_
   refine dq [1] [] (I e9) rfl (aU rfl (gq (path:=[]) rfl rfl rfl aQ (dD (f:=I) (xs:=x6.2) he9) rfl rfl rfl)) ?_
   obtain⟨e10,he10,h⟩:=bS h
   refine dq [1] [] (.hp 1 0 [] 1 (0+Int.toNat x6.1) 0) rfl (al rfl rfl rfl (d7 (f:=I) (xs:=x6.2) rfl rfl rfl he10)) ?_
   refine dz [1] [1] rfl (fZ rfl rfl (eX (path:=[]) (pl:=true) (e':=I e8) (es2':=(dM x6.2 x6.1 e8).map I) rfl (eb rfl) rfl rfl rfl aQ (dD (f:=I) (xs:=x6.2) he10) rfl rfl rfl (i9 (f:=I) (xs:=x6.2) (y:=e8)) ee 0 rfl)) ?_
   try rw[←io (f:=I) (xs:=x6.2) (i:=x6.1) (z:=e8)]
   obtain⟨e13,he13,h⟩:=bS h
   refine dq [1] [] (.hp 1 0 [] 1 (0+Int.toNat (aj (x6.1 - 1))) 0) rfl (al rfl rfl rfl (d7 (f:=I) (xs:=(dM x6.2 x6.1 e8)) rfl rfl rfl he13)) ?_
   obtain⟨rw14,hrw14,h⟩:=lJ h
   refine dz [1] [1] rfl (fZ rfl rfl (eX (path:=[]) (pl:=true) (e':=I e9) (es2':=(rw14).map I) rfl (eb rfl) rfl rfl rfl aQ (dD (f:=I) (xs:=(dM x6.2 x6.1 e8)) he13) rfl rfl rfl (wY (f:=I) (xs:=(dM x6.2 x6.1 e8)) (y:=e9) hrw14) ee 0 rfl)) ?_
   try rw[←tx hrw14 (f:=I) (xs:=(dM x6.2 x6.1 e8))]
   refine de 290 rfl rfl ?_
   refine cq 6 [9] [I (aj (x6.1 - 1))] 338 ?_
   refine dC ?_
   exact rf [0,1,2,3,8,9] [1] (ih _ _ h hr hn :)
  ·refine aq 1 ?_
   exact rf [0,1,2,3,8] [1] (hn _ (ak h) :) (hk:=hK)
 have r7:∀r',y7=.inl r'→∀st,GH (cE,eR,eY,di) r' st→Q st:=fun r' e st hq=>hr r' (hy71 r' e) st hq
 replace h:=hy7
 refine sp 21 h rfl ?_ ?_<;>intro h
 ·refine dk 3 [24,23,22] [I x6.1,.hs 1 0 [] 1 0 (x6.2.map I).length,.fn 118 [.iptr (ae di) 0]] ?_
  obtain⟨e18,he18,h⟩:=bS h
  refine dy [1] [] (.hp 1 0 [] 1 (0+Int.toNat x6.1) 0) rfl (al rfl rfl rfl (d7 (f:=I) (xs:=x6.2) rfl rfl rfl he18)) ?_
  refine dy [1] [] (I e18) rfl (aU rfl (gq (path:=[]) rfl rfl rfl aQ (dD (f:=I) (xs:=x6.2) he18) rfl rfl rfl)) ?_
  refine dk 3 [29,28,27] [I (aj (x6.1 - 1)),I x6.1,.hs 1 0 [] 1 0 (x6.2.map I).length] ?_
  obtain⟨e19,he19,h⟩:=bS h
  refine dy [1] [] (.hp 1 0 [] 1 (0+Int.toNat (aj (x6.1 - 1))) 0) rfl (al rfl rfl rfl (d7 (f:=I) (xs:=x6.2) rfl rfl rfl he19)) ?_
  refine dy [1] [] (I e19) rfl (aU rfl (gq (path:=[]) rfl rfl rfl aQ (dD (f:=I) (xs:=x6.2) he19) rfl rfl rfl)) ?_
  obtain⟨r20,hr20,h⟩:=bS h
  refine dy [] [] (I r20) rfl (cP (tj hr20)) ?_ (dK rfl rfl rfl rfl (aR (bo rfl) (aR (bo rfl) (aR (bo rfl) cS))) (tj hr20) (.inr rfl) rfl)
  refine dk 2 [34,33] [B (decide (r20<0)),B (decide (r20<0))] ?_
  refine de 274 rfl rfl ?_
  exact rf [0,1,2,3,8,9,34] [1] (j7 _ (ak h) :)
 ·refine dk 13 [34,33,32,31,30,29,28,27,26,25,24,23,22] [B false,.und,.und,.und,.und,.und,.und,.und,.und,.und,.und,.und,.und] ?_
  refine de 274 rfl rfl ?_
  exact rf [0,1,2,3,8,9,34] [1] (j7 _ (ak h) :)
theorem P4 (cE:List Int)(eR:Int)(eY:Int)(di:State):ct xO 1 (GH (cE,eR,eY,di)) (cL (cL (cR NF))) 0 (mz cE eR eY di) (fun u=>(sT 53 [] [⟨0,1,u.map I⟩] 2)) fun x5=>(sT 53 [(0,.hs 1 0 [] 1 0 (x5.2.2.2.map I).length),(1,I x5.1),(2,I x5.2.1),(3,.fn 118 [.iptr (ae di) 0]),(8,I x5.2.2.1)] [⟨0,1,x5.2.2.2.map I⟩] 2):=ez (AL cE eR eY di) fun {Q K} hK self ih x5 y h hr hn=>by
 unfold kA at h
 refine cq 7 [14] [B (decide (x5.2.2.1<x5.2.1))] 50 ?_
 refine sq h ?_ ?_<;>intro h
 ·refine aq 1 ?_
  refine cq 8 [9] [I x5.2.2.1] 82 ?_
  obtain⟨y21,hy21,hy211,hy212⟩:=bL h
  refine bV rfl ?_
  refine rf [0,1,2,3,8,9] [1] (P5 cE eR eY di x5 rfl (x5.2.2.1,x5.2.2.2) _ hy21 (fun r' e st hq=>hr r' (hy211 r' e) st hq) fun u21 hu=>?_)
  replace h:=hy212 u21 hu
  refine cq 6 [8] [I (aj (x5.2.2.1+1))] 50 ?_
  refine dC ?_
  exact rf [0,1,2,3,8] [1] (ih _ _ h hr hn :)
 ·refine aq 1 ?_
  exact rf [] [1] (hn _ (ak h) :) (hk:=hK)
theorem ZP (cE:List Int)(eR:Int)(eY:Int)(di:State)(r:(List Int))(h:sf cE eR eY di=some r):bq xO Tryz.f180 [true,false,false,false] 1 (GG (cE,eR,eY,di)) (GI r):=by
 show Run _ _ (GH (cE,eR,eY,di) r) [.code NF] _
 refine rI 53 [(0,.hs 1 0 [] 1 0 (cE.map I).length),(1,I eR),(2,I eY),(3,.fn 118 [.iptr (ae di) 0])] [(1,some ⟨0,1,cE.map I⟩)] 2 ?_
 unfold sf at h
 refine cq 7 [8] [I (aj (eR+1))] 50 ?_
 obtain⟨y22,hy22,hy221,hy222⟩:=bJ h
 refine bV rfl ?_
 refine rf [0,1,2,3,8] [1] (P4 cE eR eY di rfl (eR,eY,(aj (eR+1)),cE) _ hy22 (fun r' e st hq=>by rw[hy221 r' e] at hq;exact hq) fun u22 hu=>?_)
 replace h:=hy222 u22 hu
 obtain⟨g23,h⟩:=gG h
 obtain rfl:=sI h
 exact Ac ⟨_,fin (vs:=[]) rfl eg rfl (mp rfl (qQ (f:=I) (xs:=u22) (by simpa using g23) rfl) (dh (dh (dh fa)))),za eW⟩
theorem V5 {G:bZ}:bW G 180 Dh:=gT 4 1 (aO Ob bv) ca Tryz.func180 (fun a r h=>ZP a.1 a.2.1 a.2.2.1 a.2.2.2 r h)
def GO:((List Int)×Int×Int×Int×State)→List V:=cA (sU 1 I) (cA I (cA I (cA I (oA (fun x:State=>(.fn 118 [.iptr (bT x) 0]:V))))))
def GP (r:(List Int)):V×List V:=(.tup [],[.usl 1 (r.map I)])
noncomputable def Dl :=bf [true,false,false,false,false] GO GP fun x=>v7 x.1 x.2.1 x.2.2.1 x.2.2.2.1 x.2.2.2.2
theorem NK {eE:List Int}{fp:Int}{gb:Int}{ip:Int}{fS:State}{r}(h:v7 eE fp gb ip fS=some r):Dl.F (GO (eE,fp,gb,ip,fS))=some (GP r):=aL (aH (ju bd) (aH bd (aH bd (aH bd (aM (i7 cb)))))) h
noncomputable def V9 :=aG Tryz.f216
noncomputable def NJ :=b9 []
def V8 (x:(List Int)×Int×Int×Int×State)(r:(List Int)):St→Prop:=QF NJ Tryz.f216 [true,false,false,false,false] (GO x) (GP r)
theorem Qa (eE:List Int)(fp:Int)(gb:Int)(ip:Int)(fS:State):ct NJ 1 (V8 (eE,fp,gb,ip,fS)) (cL (cL (cR V9))) 0 (mA eE fp gb ip fS) (fun u=>(sT 38 [] [⟨0,1,u.map I⟩] 2)) fun x6=>(sT 38 [(0,.hs 1 0 [] 1 0 (x6.2.map I).length),(1,I fp),(2,I gb),(3,I ip),(10,I x6.1)] [⟨0,1,x6.2.map I⟩] 2):=ez (AR eE fp gb ip fS) fun {Q K} hK self ih x6 y h hr hn=>by
 unfold lW at h
 refine cq 7 [13] [B (decide (x6.1<ip))] 50 ?_
 refine sq h ?_ ?_<;>intro h
 ·refine aq 1 ?_
  refine aq 2 ?_
  refine dV [0,0,0,6,0,0,0,96,0,0,0,1536,3840,7936,0,0,0,98304,245760,507904,1048335,2096911,4194303,8388607] rfl (by decide +kernel) ?_
  refine dk 12 [27,26,25,24,23,22,21,20,19,18,17,16] [I (aj (gb+x6.1)),I x6.1,I gb,.hs 1 0 [] 1 0 (x6.2.map I).length,I (aj (gb+x6.1)),I x6.1,I gb,.hs 1 0 [] 1 0 (x6.2.map I).length,I (aj (fp+x6.1)),I x6.1,I fp,.hs 1 0 [] 1 0 (x6.2.map I).length] ?_
  obtain⟨e7,he7,h⟩:=bS h
  refine dq [1] [] (.hp 1 0 [] 1 (0+Int.toNat (aj (gb+x6.1))) 0) rfl (al rfl rfl rfl (d7 (f:=I) (xs:=x6.2) rfl rfl rfl he7)) ?_
  refine dq [1] [] (I e7) rfl (aU rfl (gq (path:=[]) rfl rfl rfl aQ (dD (f:=I) (xs:=x6.2) he7) rfl rfl rfl)) ?_
  refine dk 4 [33,32,31,30] [I (aj (fp+x6.1)),I x6.1,I fp,.hs 1 0 [] 1 0 (x6.2.map I).length] ?_
  obtain⟨e8,he8,h⟩:=bS h
  refine dq [1] [] (.hp 1 0 [] 1 (0+Int.toNat (aj (fp+x6.1))) 0) rfl (al rfl rfl rfl (d7 (f:=I) (xs:=x6.2) rfl rfl rfl he8)) ?_
  refine dq [1] [] (I e8) rfl (aU rfl (gq (path:=[]) rfl rfl rfl aQ (dD (f:=I) (xs:=x6.2) he8) rfl rfl rfl)) ?_
  obtain⟨e9,he9,h⟩:=bS h
  refine dq [1] [] (.hp 1 0 [] 1 (0+Int.toNat (aj (fp+x6.1))) 0) rfl (al rfl rfl rfl (d7 (f:=I) (xs:=x6.2) rfl rfl rfl he9)) ?_
  refine dz [1] [1] rfl (fZ rfl rfl (eX (path:=[]) (pl:=true) (e':=I e7) (es2':=(dM x6.2 (aj (fp+x6.1)) e7).map I) rfl (eb rfl) rfl rfl rfl aQ (dD (f:=I) (xs:=x6.2) he9) rfl rfl rfl (i9 (f:=I) (xs:=x6.2) (y:=e7)) ee 0 rfl)) ?_
  try rw[←io (f:=I) (xs:=x6.2) (i:=(aj (fp+x6.1))) (z:=e7)]
  obtain⟨e12,he12,h⟩:=bS h
  refine dq [1] [] (.hp 1 0 [] 1 (0+Int.toNat (aj (gb+x6.1))) 0) rfl (al rfl rfl rfl (d7 (f:=I) (xs:=(dM x6.2 (aj (fp+x6.1)) e7)) rfl rfl rfl he12)) ?_
  obtain⟨rw13,hrw13,h⟩:=lJ h
  refine dz [1] [1] rfl (fZ rfl rfl (eX (path:=[]) (pl:=true) (e':=I e8) (es2':=(rw13).map I) rfl (eb rfl) rfl rfl rfl aQ (dD (f:=I) (xs:=(dM x6.2 (aj (fp+x6.1)) e7)) he12) rfl rfl rfl (wY (f:=I) (xs:=(dM x6.2 (aj (fp+x6.1)) e7)) (y:=e8) hrw13) ee 0 rfl)) ?_
  try rw[←tx hrw13 (f:=I) (xs:=(dM x6.2 (aj (fp+x6.1)) e7))]
  refine de 434 rfl rfl ?_
  refine cq 6 [10] [I (aj (x6.1+1))] 482 ?_
  refine dC ?_
  exact rf [0,1,2,3,10] [1] (ih _ _ h hr hn :)
 ·refine aq 1 ?_
  exact rf [] [1] (hn _ (ak h) :) (hk:=hK)
theorem ZS (eE:List Int)(fp:Int)(gb:Int)(ip:Int)(fS:State)(r:(List Int))(h:v7 eE fp gb ip fS=some r):bq NJ Tryz.f216 [true,false,false,false,false] 1 (GO (eE,fp,gb,ip,fS)) (GP r):=by
 show Run _ _ (V8 (eE,fp,gb,ip,fS) r) [.code V9] _
 refine rI 38 [(0,.hs 1 0 [] 1 0 (eE.map I).length),(1,I fp),(2,I gb),(3,I ip),(4,.fn 118 [.iptr (ae fS) 0])] [(1,some ⟨0,1,eE.map I⟩)] 2 ?_
 unfold v7 at h
 refine cq 5 [10] [I (0)] 18 ?_
 obtain⟨y17,hy17,hy171,hy172⟩:=bJ h
 refine bV rfl ?_
 refine rf [0,1,2,3,10] [1] (Qa eE fp gb ip fS rfl (0,eE) _ hy17 (fun r' e st hq=>by rw[hy171 r' e] at hq;exact hq) fun u17 hu=>?_)
 replace h:=hy172 u17 hu
 obtain⟨g18,h⟩:=gG h
 obtain rfl:=sI h
 exact Ac ⟨_,fin (vs:=[]) rfl eg rfl (mp rfl (qQ (f:=I) (xs:=u17) (by simpa using g18) rfl) (dh (dh (dh (dh fa))))),za eW⟩
theorem Wa {G:bZ}:bW G 216 Dl:=gT 5 1 bv ca Tryz.func216 (fun a r h=>ZS a.1 a.2.1 a.2.2.1 a.2.2.2.1 a.2.2.2.2 r h)
def GJ:((List Int)×Int×Int×Int×State)→List V:=cA (sU 1 I) (cA I (cA I (cA I (oA (fun x:State=>(.fn 118 [.iptr (bT x) 0]:V))))))
def GL (r:(List Int)):V×List V:=(.tup [],[.usl 1 (r.map I)])
noncomputable def Di :=bf [true,false,false,false,false] GJ GL fun x=>xP x.1 x.2.1 x.2.2.1 x.2.2.2.1 x.2.2.2.2
theorem af5 {eV:List Int}{a_9:Int}{fj:Int}{gY:Int}{eu:State}{r}(h:xP eV a_9 fj gY eu=some r):Di.F (GJ (eV,a_9,fj,gY,eu))=some (GL r):=aL (aH (ju bd) (aH bd (aH bd (aH bd (aM (i7 cb)))))) h
noncomputable def NH :=aG Tryz.f193
noncomputable def GK :=b9 [(216,Dl)]
def NG (x:(List Int)×Int×Int×Int×State)(r:(List Int)):St→Prop:=QF GK Tryz.f193 [true,false,false,false,false] (GJ x) (GL r)
theorem P6 (eV:List Int)(a_9:Int)(fj:Int)(gY:Int)(eu:State):ct GK 1 (NG (eV,a_9,fj,gY,eu)) (cL (cL (cL (cR (cR NH))))) 0 (uI eV a_9 fj gY eu) (fun u=>(sT 58 [(0,.hs 1 0 [] 1 0 (u.2.2.map I).length),(2,I u.1),(4,.fn 118 [.iptr (ae eu) 0]),(10,I u.2.1)] [⟨0,1,u.2.2.map I⟩] 2)) fun x6=>(sT 58 [(0,.hs 1 0 [] 1 0 (x6.2.2.map I).length),(2,I fj),(4,.fn 118 [.iptr (ae eu) 0]),(10,I x6.1),(11,I x6.2.1)] [⟨0,1,x6.2.2.map I⟩] 2):=ez (AN eV a_9 fj gY eu) fun {Q K} hK self ih x6 y h hr hn=>by
 unfold om at h
 refine cq 7 [20] [B (x6.1 != x6.2.1)] 50 ?_
 refine sq h ?_ ?_<;>intro h
 ·refine aq 1 ?_
  refine cq 7 [23] [B (decide (x6.1>x6.2.1))] 98 ?_
  obtain⟨y7,hy7,hy71,hy72⟩:=bL h
  have j7:∀u7,y7=.inr u7→Run GK 1 Q (.blk 1::.lp (cL (cL (cL (cR (cR NH)))))::.blk 0::K) (sT 58 [(0,.hs 1 0 [] 1 0 (u7.2.2.map I).length),(2,I fj),(4,.fn 118 [.iptr (ae eu) 0]),(10,I u7.1),(11,I u7.2.1)] [⟨0,1,u7.2.2.map I⟩] 2):=by
   intro u7 hu
   replace h:=hy72 u7 hu
   refine aq 1 ?_
   refine dC ?_
   exact rf [0,2,4,10,11] [1] (ih _ _ h hr hn :)
  have r7:∀r',y7=.inl r'→∀st,NG (eV,a_9,fj,gY,eu) r' st→Q st:=fun r' e st hq=>hr r' (hy71 r' e) st hq
  replace h:=hy7
  refine sq h ?_ ?_<;>intro h
  ·refine cq 9 [24,27,28,29,30] [.hs 1 0 [] 1 0 (x6.2.2.map I).length,I (aj (fj - x6.1)),I fj,I x6.2.1,.fn 118 [.iptr (ae eu) 0]] 210 ?_
   obtain⟨r8,hr8,h⟩:=bS h
   obtain⟨g9,h⟩:=gG h
   refine oq 226 (.tup []) rfl (bM rfl rfl (b7 rfl rfl rfl (lL (kI rfl (gH (path:=[]) rfl rfl aQ rfl)) (aR (bo rfl) (aR (bo rfl) (aR (bo rfl) (aR (mt (dZ (gl rfl) ib)) cS))))) (NK hr8) (.inr rfl) (jO rfl rfl rfl rfl dH) rfl rfl rfl)) ?_
   try rw[i8 (f:=I) (xs:=x6.2.2) (ys:=r8) g9]
   refine cq 7 [10] [I (aj (x6.1 - x6.2.1))] 290 ?_
   exact rf [0,2,4,10,11] [1] (j7 _ (ak h) :)
  ·refine cq 13 [35,38,43,44,45] [.hs 1 0 [] 1 0 (x6.2.2.map I).length,I (aj (fj - x6.1)),I (aj ((aj (fj+x6.2.1)) - x6.1)),I x6.1,.fn 118 [.iptr (ae eu) 0]] 274 ?_
   obtain⟨r10,hr10,h⟩:=bS h
   obtain⟨g11,h⟩:=gG h
   refine oq 290 (.tup []) rfl (bM rfl rfl (b7 rfl rfl rfl (lL (kI rfl (gH (path:=[]) rfl rfl aQ rfl)) (aR (bo rfl) (aR (bo rfl) (aR (bo rfl) (aR (mt (dZ (gl rfl) ib)) cS))))) (NK hr10) (.inr rfl) (jO rfl rfl rfl rfl dH) rfl rfl rfl)) ?_
   try rw[i8 (f:=I) (xs:=x6.2.2) (ys:=r10) g11]
   refine cq 7 [11] [I (aj (x6.2.1 - x6.1))] 354 ?_
   exact rf [0,2,4,10,11] [1] (j7 _ (ak h) :)
 ·refine aq 1 ?_
  exact rf [0,2,4,10] [1] (hn _ (ak h) :) (hk:=hK)
theorem ZQ (eV:List Int)(a_9:Int)(fj:Int)(gY:Int)(eu:State)(r:(List Int))(h:xP eV a_9 fj gY eu=some r):bq GK Tryz.f193 [true,false,false,false,false] 1 (GJ (eV,a_9,fj,gY,eu)) (GL r):=by
 show Run _ _ (NG (eV,a_9,fj,gY,eu) r) [.code NH] _
 refine rI 58 [(0,.hs 1 0 [] 1 0 (eV.map I).length),(1,I a_9),(2,I fj),(3,I gY),(4,.fn 118 [.iptr (ae eu) 0])] [(1,some ⟨0,1,eV.map I⟩)] 2 ?_
 unfold xP at h
 refine cq 16 [10,11] [I (aj (fj - a_9)),I (aj (gY - fj))] 130 ?_
 obtain⟨y12,hy12,hy121,hy122⟩:=bJ h
 refine bV rfl ?_
 refine rf [0,2,4,10,11] [1] (P6 eV a_9 fj gY eu rfl ((aj (fj - a_9)),(aj (gY - fj)),eV) _ hy12 (fun r' e st hq=>by rw[hy121 r' e] at hq;exact hq) fun u12 hu=>?_)
 replace h:=hy122 u12 hu
 refine cq 8 [50,53,54,55,56] [.hs 1 0 [] 1 0 (u12.2.2.map I).length,I (aj (u12.1 - u12.2.1)),I u12.1,I u12.2.1,.fn 118 [.iptr (ae eu) 0]] 114 ?_
 obtain⟨r13,hr13,h⟩:=bS h
 obtain⟨g14,h⟩:=gG h
 refine oq 130 (.tup []) rfl (bM rfl rfl (b7 rfl rfl rfl (lL (kI rfl (gH (path:=[]) rfl rfl aQ rfl)) (aR (bo rfl) (aR (bo rfl) (aR (bo rfl) (aR (mt (dZ (gl rfl) ib)) cS))))) (NK hr13) (.inr rfl) (jO rfl rfl rfl rfl dH) rfl rfl rfl)) ?_
 try rw[i8 (f:=I) (xs:=u12.2.2) (ys:=r13) g14]
 refine aq 1 ?_
 obtain⟨g15,h⟩:=gG h
 obtain rfl:=sI h
 exact Ac ⟨_,fin (vs:=[]) rfl eg rfl (mp rfl (qQ (f:=I) (xs:=r13) (by simpa using g15) rfl) (dh (dh (dh (dh fa))))),za eW⟩
theorem V6 {G:bZ}:bW G 193 Di:=gT 5 1 (aO Wa bv) ca Tryz.func193 (fun a r h=>ZQ a.1 a.2.1 a.2.2.1 a.2.2.2.1 a.2.2.2.2 r h)
def xR:((List Int)×Int×Int×Int×State)→List V:=cA (sU 1 I) (cA I (cA I (cA I (oA (fun x:State=>(.fn 118 [.iptr (bT x) 0]:V))))))
def xS (r:(List Int)):V×List V:=(.tup [],[.usl 1 (r.map I)])
noncomputable def xT (az:((List Int)×Int×Int×Int×State)→Option (List Int)):Ent:=bf [true,false,false,false,false] xR xS az
theorem J8 (az:((List Int)×Int×Int×Int×State)→Option (List Int)){x}{r}(h:az x=some r):(xT az).F (xR x)=some (xS r):=aL (aH (ju bd) (aH bd (aH bd (aH bd (aM (i7 cb)))))) h
noncomputable def Dm :=xT (aN fX)
theorem Wb {ar:List Int}{aY:Int}{ba:Int}{bg:Int}{aK:State}{r}(h:J7 ar aY ba bg aK=some r):Dm.F (xR (ar,aY,ba,bg,aK))=some (xS r):=J8 (aN fX) h
noncomputable def oW :=aG Tryz.f181
noncomputable abbrev QZ :=cL (cL (cL (cR (cR (cL (cR (cL oW)))))))
noncomputable abbrev Q0 :=cL (cL (cL (cR (cR (cL (cR (cL (cR oW))))))))
noncomputable abbrev acI :=cL (cL (cR (cL (cR (cR (cR (cL (cR (cL oW)))))))))
noncomputable abbrev Q1 :=cL (cL (cL (cR (cR (cR (cR (cR (cR (cR oW)))))))))
noncomputable abbrev zE :=cR (cR (cR (cR (cR (cR (cR (cR (cR (cR oW)))))))))
noncomputable abbrev acJ :=cL (cL (cR (cL (cR (cR (cR (cL (cR (cL (cR oW))))))))))
noncomputable abbrev J9 :=cR zE
noncomputable def iy (az:((List Int)×Int×Int×Int×State)→Option (List Int)):Env:=b9 [(118,zM),(181,(xT az)),(193,Di)]
def gN (az:((List Int)×Int×Int×Int×State)→Option (List Int))(x:(List Int)×Int×Int×Int×State)(r:(List Int)):St→Prop:=QF (iy az) Tryz.f181 [true,false,false,false,false] (xR x) (xS r)
theorem Qb (az:((List Int)×Int×Int×Int×State)→Option (List Int))(ar:List Int)(aY:Int)(ba:Int)(bg:Int)(aK:State):ct (iy az) 1 (gN az (ar,aY,ba,bg,aK)) QZ 0 (pP az ar aY ba bg aK) (fun u=>(sT 220 [(0,.hs 1 0 [] 1 0 (u.2.2.map I).length),(1,I u.1),(10,I u.2.1)] [⟨0,1,u.2.2.map I⟩] 2)) fun x6=>(sT 220 [(0,.hs 1 0 [] 1 0 (ar.map I).length),(1,I aY),(4,.fn 118 [.iptr (ae aK) 0]),(10,I x6.1),(11,I x6.2)] [⟨0,1,ar.map I⟩] 2):=ez (AU az ar aY ba bg aK) fun {Q K} hK self ih x6 y h hr hn=>by
 unfold jx at h
 refine cq 7 [33] [B (decide (x6.1<x6.2))] 50 ?_
 refine sq h ?_ ?_<;>intro h
 ·refine aq 1 ?_
  refine cq 12 [12] [I (IntKind.i64.wrap (ep .u64 (IntKind.u64.wrap (aj (x6.1+x6.2))) 1))] 162 ?_
  refine dV [0,0,0,6,14,0,0,96,224,511,1023] rfl (by decide +kernel) ?_
  refine dk 3 [42,41,40] [I (IntKind.i64.wrap (ep .u64 (IntKind.u64.wrap (aj (x6.1+x6.2))) 1)),.hs 1 0 [] 1 0 (ar.map I).length,.fn 118 [.iptr (ae aK) 0]] ?_
  obtain⟨e7,he7,h⟩:=bS h
  refine dq [1] [] (.hp 1 0 [] 1 (0+Int.toNat (IntKind.i64.wrap (ep .u64 (IntKind.u64.wrap (aj (x6.1+x6.2))) 1))) 0) rfl (al rfl rfl rfl (d7 (f:=I) (xs:=ar) rfl rfl rfl he7)) ?_
  refine dq [1] [] (I e7) rfl (aU rfl (gq (path:=[]) rfl rfl rfl aQ (dD (f:=I) (xs:=ar) he7) rfl rfl rfl)) ?_
  refine dk 2 [46,45] [I aY,.hs 1 0 [] 1 0 (ar.map I).length] ?_
  obtain⟨e8,he8,h⟩:=bS h
  refine dq [1] [] (.hp 1 0 [] 1 (0+Int.toNat aY) 0) rfl (al rfl rfl rfl (d7 (f:=I) (xs:=ar) rfl rfl rfl he8)) ?_
  refine dq [1] [] (I e8) rfl (aU rfl (gq (path:=[]) rfl rfl rfl aQ (dD (f:=I) (xs:=ar) he8) rfl rfl rfl)) ?_
  obtain⟨r9,hr9,h⟩:=bS h
  refine dq [] [] (I r9) rfl (cP (tj hr9)) ?_ (dK rfl rfl rfl rfl (aR (bo rfl) (aR (bo rfl) (aR (bo rfl) cS))) (tj hr9) (.inr rfl) rfl)
  refine dk 1 [50] [B (decide (r9<0))] ?_
  refine de 338 rfl rfl ?_
  obtain⟨u10,hu10,h⟩:=lJ h
  have j10:Run (iy az) 1 Q (.blk 1::.lp QZ::.blk 0::K) (sT 220 [(0,.hs 1 0 [] 1 0 (ar.map I).length),(1,I aY),(4,.fn 118 [.iptr (ae aK) 0]),(10,I u10.1),(11,I u10.2)] [⟨0,1,ar.map I⟩] 2):=by
   refine aq 1 ?_
   refine dC ?_
   exact rf [0,1,4,10,11] [1] (ih _ _ h hr hn :)
  replace h:=hu10
  clear hu10
  refine tG h rfl rfl ?_ ?_<;>intro h
  ·refine cq 5 [10] [I (aj ((IntKind.i64.wrap (ep .u64 (IntKind.u64.wrap (aj (x6.1+x6.2))) 1))+1))] 386 ?_
   subst h
   exact rf [0,1,4,10,11] [1] (j10 :)
  ·refine cq 4 [11] [I (IntKind.i64.wrap (ep .u64 (IntKind.u64.wrap (aj (x6.1+x6.2))) 1))] 370 ?_
   subst h
   exact rf [0,1,4,10,11] [1] (j10 :)
 ·refine aq 1 ?_
  exact rf [0,1,10] [1] (hn _ (ak h) :) (hk:=hK)
theorem Qc (az:((List Int)×Int×Int×Int×State)→Option (List Int))(ar:List Int)(aY:Int)(ba:Int)(bg:Int)(aK:State)(u11:Int×Int×(List Int)):ct (iy az) 1 (gN az (ar,aY,ba,bg,aK)) acI 2 (ke az ar aY ba bg aK u11) (fun u=>(sT 220 [] [⟨0,1,u.map I⟩] 2)) fun x12=>(sT 220 [(0,.hs 1 0 [] 1 0 (x12.2.map I).length),(10,I u11.2.1),(13,I x12.1)] [⟨0,1,x12.2.map I⟩] 2):=ez (AV az ar aY ba bg aK u11) fun {Q K} hK self ih x12 y h hr hn=>by
 unfold jy at h
 refine cq 8 [58] [B (decide (x12.1<(aj (u11.2.1 - 1))))] 66 ?_
 refine sq h ?_ ?_<;>intro h
 ·refine aq 1 ?_
  refine aq 2 ?_
  refine dV [0,0,0,0,8,0,0,64,224,480,0,0,3072,7168,16355,32739,65535,131071] rfl (by decide +kernel) ?_
  refine dk 8 [68,67,66,65,64,63,62,61] [I (aj (x12.1+1)),I x12.1,.hs 1 0 [] 1 0 (x12.2.map I).length,I (aj (x12.1+1)),I x12.1,.hs 1 0 [] 1 0 (x12.2.map I).length,I x12.1,.hs 1 0 [] 1 0 (x12.2.map I).length] ?_
  obtain⟨e13,he13,h⟩:=bS h
  refine dq [1] [] (.hp 1 0 [] 1 (0+Int.toNat (aj (x12.1+1))) 0) rfl (al rfl rfl rfl (d7 (f:=I) (xs:=x12.2) rfl rfl rfl he13)) ?_
  refine dq [1] [] (I e13) rfl (aU rfl (gq (path:=[]) rfl rfl rfl aQ (dD (f:=I) (xs:=x12.2) he13) rfl rfl rfl)) ?_
  refine dk 2 [72,71] [I x12.1,.hs 1 0 [] 1 0 (x12.2.map I).length] ?_
  obtain⟨e14,he14,h⟩:=bS h
  refine dq [1] [] (.hp 1 0 [] 1 (0+Int.toNat x12.1) 0) rfl (al rfl rfl rfl (d7 (f:=I) (xs:=x12.2) rfl rfl rfl he14)) ?_
  refine dq [1] [] (I e14) rfl (aU rfl (gq (path:=[]) rfl rfl rfl aQ (dD (f:=I) (xs:=x12.2) he14) rfl rfl rfl)) ?_
  obtain⟨e15,he15,h⟩:=bS h
  refine dq [1] [] (.hp 1 0 [] 1 (0+Int.toNat x12.1) 0) rfl (al rfl rfl rfl (d7 (f:=I) (xs:=x12.2) rfl rfl rfl he15)) ?_
  refine dz [1] [1] rfl (fZ rfl rfl (eX (path:=[]) (pl:=true) (e':=I e13) (es2':=(dM x12.2 x12.1 e13).map I) rfl (eb rfl) rfl rfl rfl aQ (dD (f:=I) (xs:=x12.2) he15) rfl rfl rfl (i9 (f:=I) (xs:=x12.2) (y:=e13)) ee 0 rfl)) ?_
  try rw[←io (f:=I) (xs:=x12.2) (i:=x12.1) (z:=e13)]
  obtain⟨e18,he18,h⟩:=bS h
  refine dq [1] [] (.hp 1 0 [] 1 (0+Int.toNat (aj (x12.1+1))) 0) rfl (al rfl rfl rfl (d7 (f:=I) (xs:=(dM x12.2 x12.1 e13)) rfl rfl rfl he18)) ?_
  obtain⟨rw19,hrw19,h⟩:=lJ h
  refine dz [1] [1] rfl (fZ rfl rfl (eX (path:=[]) (pl:=true) (e':=I e14) (es2':=(rw19).map I) rfl (eb rfl) rfl rfl rfl aQ (dD (f:=I) (xs:=(dM x12.2 x12.1 e13)) he18) rfl rfl rfl (wY (f:=I) (xs:=(dM x12.2 x12.1 e13)) (y:=e14) hrw19) ee 0 rfl)) ?_
  try rw[←tx hrw19 (f:=I) (xs:=(dM x12.2 x12.1 e13))]
  refine de 354 rfl rfl ?_
  refine cq 6 [13] [I (aj (x12.1+1))] 402 ?_
  refine dC ?_
  exact rf [0,10,13] [1] (ih _ _ h hr hn :)
 ·refine aq 1 ?_
  exact rf [] [1] (hn _ (ak h) :) (hk:=hK)
theorem Qd (az:((List Int)×Int×Int×Int×State)→Option (List Int))(ar:List Int)(aY:Int)(ba:Int)(bg:Int)(aK:State):ct (iy az) 1 (gN az (ar,aY,ba,bg,aK)) Q0 4 (pQ az ar aY ba bg aK) (fun u=>(sT 220 [(0,.hs 1 0 [] 1 0 (u.2.2.map I).length),(2,I u.1),(14,I u.2.1)] [⟨0,1,u.2.2.map I⟩] 2)) fun x25=>(sT 220 [(0,.hs 1 0 [] 1 0 (ar.map I).length),(2,I ba),(4,.fn 118 [.iptr (ae aK) 0]),(14,I x25.1),(15,I x25.2)] [⟨0,1,ar.map I⟩] 2):=ez (AW az ar aY ba bg aK) fun {Q K} hK self ih x25 y h hr hn=>by
 unfold jz at h
 refine cq 7 [85] [B (decide (x25.1<x25.2))] 50 ?_
 refine sq h ?_ ?_<;>intro h
 ·refine aq 1 ?_
  refine cq 12 [16] [I (IntKind.i64.wrap (ep .u64 (IntKind.u64.wrap (aj (x25.1+x25.2))) 1))] 162 ?_
  refine dV [0,0,0,6,14,0,0,96,224,511,1023,2047] rfl (by decide +kernel) ?_
  refine dk 3 [94,93,92] [I ba,.hs 1 0 [] 1 0 (ar.map I).length,.fn 118 [.iptr (ae aK) 0]] ?_
  obtain⟨e26,he26,h⟩:=bS h
  refine dq [1] [] (.hp 1 0 [] 1 (0+Int.toNat ba) 0) rfl (al rfl rfl rfl (d7 (f:=I) (xs:=ar) rfl rfl rfl he26)) ?_
  refine dq [1] [] (I e26) rfl (aU rfl (gq (path:=[]) rfl rfl rfl aQ (dD (f:=I) (xs:=ar) he26) rfl rfl rfl)) ?_
  refine dk 2 [98,97] [I (IntKind.i64.wrap (ep .u64 (IntKind.u64.wrap (aj (x25.1+x25.2))) 1)),.hs 1 0 [] 1 0 (ar.map I).length] ?_
  obtain⟨e27,he27,h⟩:=bS h
  refine dq [1] [] (.hp 1 0 [] 1 (0+Int.toNat (IntKind.i64.wrap (ep .u64 (IntKind.u64.wrap (aj (x25.1+x25.2))) 1))) 0) rfl (al rfl rfl rfl (d7 (f:=I) (xs:=ar) rfl rfl rfl he27)) ?_
  refine dq [1] [] (I e27) rfl (aU rfl (gq (path:=[]) rfl rfl rfl aQ (dD (f:=I) (xs:=ar) he27) rfl rfl rfl)) ?_
  obtain⟨r28,hr28,h⟩:=bS h
  refine dq [] [] (I r28) rfl (cP (tj hr28)) ?_ (dK rfl rfl rfl rfl (aR (bo rfl) (aR (bo rfl) (aR (bo rfl) cS))) (tj hr28) (.inr rfl) rfl)
  refine dk 2 [103,102] [B (!(decide (r28<0))),B (decide (r28<0))] ?_
  refine de 354 rfl rfl ?_
  obtain⟨u29,hu29,h⟩:=lJ h
  have j29:Run (iy az) 1 Q (.blk 5::.lp Q0::.blk 4::K) (sT 220 [(0,.hs 1 0 [] 1 0 (ar.map I).length),(2,I ba),(4,.fn 118 [.iptr (ae aK) 0]),(14,I u29.1),(15,I u29.2)] [⟨0,1,ar.map I⟩] 2):=by
   refine aq 1 ?_
   refine dC ?_
   exact rf [0,2,4,14,15] [1] (ih _ _ h hr hn :)
  replace h:=hu29
  clear hu29
  refine tG h rfl rfl ?_ ?_<;>intro h
  ·refine cq 5 [14] [I (aj ((IntKind.i64.wrap (ep .u64 (IntKind.u64.wrap (aj (x25.1+x25.2))) 1))+1))] 402 ?_
   subst h
   exact rf [0,2,4,14,15] [1] (j29 :)
  ·refine cq 4 [15] [I (IntKind.i64.wrap (ep .u64 (IntKind.u64.wrap (aj (x25.1+x25.2))) 1))] 386 ?_
   subst h
   exact rf [0,2,4,14,15] [1] (j29 :)
 ·refine aq 1 ?_
  exact rf [0,2,14] [1] (hn _ (ak h) :) (hk:=hK)
theorem Qe (az:((List Int)×Int×Int×Int×State)→Option (List Int))(ar:List Int)(aY:Int)(ba:Int)(bg:Int)(aK:State)(u30:Int×Int×(List Int)):ct (iy az) 1 (gN az (ar,aY,ba,bg,aK)) acJ 6 (kf az ar aY ba bg aK u30) (fun u=>(sT 220 [] [⟨0,1,u.map I⟩] 2)) fun x31=>(sT 220 [(0,.hs 1 0 [] 1 0 (x31.2.map I).length),(14,I u30.2.1),(17,I x31.1)] [⟨0,1,x31.2.map I⟩] 2):=ez (AX az ar aY ba bg aK u30) fun {Q K} hK self ih x31 y h hr hn=>by
 unfold jA at h
 refine cq 7 [110] [B (decide (x31.1>u30.2.1))] 50 ?_
 refine sq h ?_ ?_<;>intro h
 ·refine aq 1 ?_
  refine aq 2 ?_
  refine dV [0,0,0,0,8,0,0,64,224,480,0,0,3072,7168,16355,32739,65535,131071] rfl (by decide +kernel) ?_
  refine dk 8 [120,119,118,117,116,115,114,113] [I (aj (x31.1 - 1)),I x31.1,.hs 1 0 [] 1 0 (x31.2.map I).length,I (aj (x31.1 - 1)),I x31.1,.hs 1 0 [] 1 0 (x31.2.map I).length,I x31.1,.hs 1 0 [] 1 0 (x31.2.map I).length] ?_
  obtain⟨e32,he32,h⟩:=bS h
  refine dq [1] [] (.hp 1 0 [] 1 (0+Int.toNat (aj (x31.1 - 1))) 0) rfl (al rfl rfl rfl (d7 (f:=I) (xs:=x31.2) rfl rfl rfl he32)) ?_
  refine dq [1] [] (I e32) rfl (aU rfl (gq (path:=[]) rfl rfl rfl aQ (dD (f:=I) (xs:=x31.2) he32) rfl rfl rfl)) ?_
  refine dk 2 [124,123] [I x31.1,.hs 1 0 [] 1 0 (x31.2.map I).length] ?_
  obtain⟨e33,he33,h⟩:=bS h
  refine dq [1] [] (.hp 1 0 [] 1 (0+Int.toNat x31.1) 0) rfl (al rfl rfl rfl (d7 (f:=I) (xs:=x31.2) rfl rfl rfl he33)) ?_
  refine dq [1] [] (I e33) rfl (aU rfl (gq (path:=[]) rfl rfl rfl aQ (dD (f:=I) (xs:=x31.2) he33) rfl rfl rfl)) ?_
  obtain⟨e34,he34,h⟩:=bS h
  refine dq [1] [] (.hp 1 0 [] 1 (0+Int.toNat x31.1) 0) rfl (al rfl rfl rfl (d7 (f:=I) (xs:=x31.2) rfl rfl rfl he34)) ?_
  refine dz [1] [1] rfl (fZ rfl rfl (eX (path:=[]) (pl:=true) (e':=I e32) (es2':=(dM x31.2 x31.1 e32).map I) rfl (eb rfl) rfl rfl rfl aQ (dD (f:=I) (xs:=x31.2) he34) rfl rfl rfl (i9 (f:=I) (xs:=x31.2) (y:=e32)) ee 0 rfl)) ?_
  try rw[←io (f:=I) (xs:=x31.2) (i:=x31.1) (z:=e32)]
  obtain⟨e37,he37,h⟩:=bS h
  refine dq [1] [] (.hp 1 0 [] 1 (0+Int.toNat (aj (x31.1 - 1))) 0) rfl (al rfl rfl rfl (d7 (f:=I) (xs:=(dM x31.2 x31.1 e32)) rfl rfl rfl he37)) ?_
  obtain⟨rw38,hrw38,h⟩:=lJ h
  refine dz [1] [1] rfl (fZ rfl rfl (eX (path:=[]) (pl:=true) (e':=I e33) (es2':=(rw38).map I) rfl (eb rfl) rfl rfl rfl aQ (dD (f:=I) (xs:=(dM x31.2 x31.1 e32)) he37) rfl rfl rfl (wY (f:=I) (xs:=(dM x31.2 x31.1 e32)) (y:=e33) hrw38) ee 0 rfl)) ?_
  try rw[←tx hrw38 (f:=I) (xs:=(dM x31.2 x31.1 e32))]
  refine de 338 rfl rfl ?_
  refine cq 6 [17] [I (aj (x31.1 - 1))] 386 ?_
  refine dC ?_
  exact rf [0,14,17] [1] (ih _ _ h hr hn :)
 ·refine aq 1 ?_
  exact rf [] [1] (hn _ (ak h) :) (hk:=hK)
theorem Qf (az:((List Int)×Int×Int×Int×State)→Option (List Int))(ar:List Int)(aY:Int)(ba:Int)(bg:Int)(aK:State):ct (iy az) 1 (gN az (ar,aY,ba,bg,aK)) Q1 8 (rV az ar aY ba bg aK) (fun u=>(sT 220 [(0,.hs 1 0 [] 1 0 (ar.map I).length),(1,I aY),(2,I ba),(3,I u.1),(4,.fn 118 [.iptr (ae aK) 0]),(18,I u.2.1),(19,I u.2.2.1),(20,I u.2.2.2)] [⟨0,1,ar.map I⟩] 2)) fun x45=>(sT 220 [(0,.hs 1 0 [] 1 0 (ar.map I).length),(1,I aY),(2,I ba),(3,I bg),(4,.fn 118 [.iptr (ae aK) 0]),(18,I (IntKind.i64.wrap (ep .u64 (IntKind.u64.wrap (aj (aY+bg))) 1))),(19,I (aj ((IntKind.i64.wrap (ep .u64 (IntKind.u64.wrap (aj (aY+bg))) 1))+ba))),(20,I x45.1),(21,I x45.2),(22,I (aj ((aj ((IntKind.i64.wrap (ep .u64 (IntKind.u64.wrap (aj (aY+bg))) 1))+ba)) - 1)))] [⟨0,1,ar.map I⟩] 2):=ez (AY az ar aY ba bg aK) fun {Q K} hK self ih x45 y h hr hn=>by
 unfold kD at h
 refine cq 7 [151] [B (decide (x45.1<x45.2))] 50 ?_
 refine sq h ?_ ?_<;>intro h
 ·refine aq 1 ?_
  refine cq 12 [23] [I (IntKind.i64.wrap (ep .u64 (IntKind.u64.wrap (aj (x45.1+x45.2))) 1))] 162 ?_
  refine dV [0,0,0,0,12,30,62,0,0,384,896,2047,4095,8191] rfl (by decide +kernel) ?_
  refine dk 5 [162,161,160,159,158] [I (aj ((aj ((aj ((IntKind.i64.wrap (ep .u64 (IntKind.u64.wrap (aj (aY+bg))) 1))+ba)) - 1)) - (IntKind.i64.wrap (ep .u64 (IntKind.u64.wrap (aj (x45.1+x45.2))) 1)))),I (IntKind.i64.wrap (ep .u64 (IntKind.u64.wrap (aj (x45.1+x45.2))) 1)),I (aj ((aj ((IntKind.i64.wrap (ep .u64 (IntKind.u64.wrap (aj (aY+bg))) 1))+ba)) - 1)),.hs 1 0 [] 1 0 (ar.map I).length,.fn 118 [.iptr (ae aK) 0]] ?_
  obtain⟨e46,he46,h⟩:=bS h
  refine dq [1] [] (.hp 1 0 [] 1 (0+Int.toNat (aj ((aj ((aj ((IntKind.i64.wrap (ep .u64 (IntKind.u64.wrap (aj (aY+bg))) 1))+ba)) - 1)) - (IntKind.i64.wrap (ep .u64 (IntKind.u64.wrap (aj (x45.1+x45.2))) 1))))) 0) rfl (al rfl rfl rfl (d7 (f:=I) (xs:=ar) rfl rfl rfl he46)) ?_
  refine dq [1] [] (I e46) rfl (aU rfl (gq (path:=[]) rfl rfl rfl aQ (dD (f:=I) (xs:=ar) he46) rfl rfl rfl)) ?_
  refine dk 2 [166,165] [I (IntKind.i64.wrap (ep .u64 (IntKind.u64.wrap (aj (x45.1+x45.2))) 1)),.hs 1 0 [] 1 0 (ar.map I).length] ?_
  obtain⟨e47,he47,h⟩:=bS h
  refine dq [1] [] (.hp 1 0 [] 1 (0+Int.toNat (IntKind.i64.wrap (ep .u64 (IntKind.u64.wrap (aj (x45.1+x45.2))) 1))) 0) rfl (al rfl rfl rfl (d7 (f:=I) (xs:=ar) rfl rfl rfl he47)) ?_
  refine dq [1] [] (I e47) rfl (aU rfl (gq (path:=[]) rfl rfl rfl aQ (dD (f:=I) (xs:=ar) he47) rfl rfl rfl)) ?_
  obtain⟨r48,hr48,h⟩:=bS h
  refine dq [] [] (I r48) rfl (cP (tj hr48)) ?_ (dK rfl rfl rfl rfl (aR (bo rfl) (aR (bo rfl) (aR (bo rfl) cS))) (tj hr48) (.inr rfl) rfl)
  refine dk 2 [171,170] [B (!(decide (r48<0))),B (decide (r48<0))] ?_
  refine de 386 rfl rfl ?_
  obtain⟨u49,hu49,h⟩:=lJ h
  have j49:Run (iy az) 1 Q (.blk 9::.lp Q1::.blk 8::K) (sT 220 [(0,.hs 1 0 [] 1 0 (ar.map I).length),(1,I aY),(2,I ba),(3,I bg),(4,.fn 118 [.iptr (ae aK) 0]),(18,I (IntKind.i64.wrap (ep .u64 (IntKind.u64.wrap (aj (aY+bg))) 1))),(19,I (aj ((IntKind.i64.wrap (ep .u64 (IntKind.u64.wrap (aj (aY+bg))) 1))+ba))),(20,I u49.1),(21,I u49.2),(22,I (aj ((aj ((IntKind.i64.wrap (ep .u64 (IntKind.u64.wrap (aj (aY+bg))) 1))+ba)) - 1)))] [⟨0,1,ar.map I⟩] 2):=by
   refine aq 1 ?_
   refine dC ?_
   exact rf [0,1,2,3,4,18,19,20,21,22] [1] (ih _ _ h hr hn :)
  replace h:=hu49
  clear hu49
  refine tG h rfl rfl ?_ ?_<;>intro h
  ·refine cq 5 [20] [I (aj ((IntKind.i64.wrap (ep .u64 (IntKind.u64.wrap (aj (x45.1+x45.2))) 1))+1))] 434 ?_
   subst h
   exact rf [0,1,2,3,4,18,19,20,21,22] [1] (j49 :)
  ·refine cq 4 [21] [I (IntKind.i64.wrap (ep .u64 (IntKind.u64.wrap (aj (x45.1+x45.2))) 1))] 418 ?_
   subst h
   exact rf [0,1,2,3,4,18,19,20,21,22] [1] (j49 :)
 ·refine aq 1 ?_
  exact rf [0,1,2,3,4,18,19,20] [1] (hn _ (ak h) :) (hk:=hK)
theorem ZU (az:((List Int)×Int×Int×Int×State)→Option (List Int))(ar:List Int)(aY:Int)(ba:Int)(bg:Int)(aK:State)(r:(List Int))(h:uN az ar aY ba bg aK=some r):bq (iy az) Tryz.f181 [true,false,false,false,false] 1 (xR (ar,aY,ba,bg,aK)) (xS r):=by
 show Run _ _ (gN az (ar,aY,ba,bg,aK) r) [.code oW] _
 refine rI 220 [(0,.hs 1 0 [] 1 0 (ar.map I).length),(1,I aY),(2,I ba),(3,I bg),(4,.fn 118 [.iptr (ae aK) 0])] [(1,some ⟨0,1,ar.map I⟩)] 2 ?_
 unfold uN at h
 refine cq 8 [28] [B ((aj (ba - aY))==1)] 66 ?_
 refine sq h ?_ ?_<;>intro h
 ·refine cq 12 [10,11] [I ba,I bg] 130 ?_
  obtain⟨y11,hy11,hy111,hy112⟩:=bJ h
  refine bV rfl ?_
  refine rf [0,1,4,10,11] [1] (Qb az ar aY ba bg aK rfl (ba,bg) _ hy11 (fun r' e st hq=>by rw[hy111 r' e] at hq;exact hq) fun u11 hu=>?_)
  replace h:=hy112 u11 hu
  refine cq 7 [13] [I u11.1] 34 ?_
  obtain⟨y23,hy23,hy231,hy232⟩:=bJ h
  refine bV rfl ?_
  refine rf [0,10,13] [1] (Qc az ar aY ba bg aK u11 rfl (u11.1,u11.2.2) _ hy23 (fun r' e st hq=>by rw[hy231 r' e] at hq;exact hq) fun u23 hu=>?_)
  replace h:=hy232 u23 hu
  obtain⟨g24,h⟩:=gG h
  obtain rfl:=sI h
  exact ci rfl ⟨_,fin (vs:=[]) rfl eg rfl (mp rfl (qQ (f:=I) (xs:=u23) (by simpa using g24) rfl) (dh (dh (dh (dh fa))))),za eW⟩
 ·refine aq 1 ?_
  refine cq 8 [80] [B ((aj (bg - ba))==1)] 130 ?_
  refine sq h ?_ ?_<;>intro h
  ·refine cq 12 [14,15] [I aY,I ba] 194 ?_
   obtain⟨y30,hy30,hy301,hy302⟩:=bJ h
   refine bV rfl ?_
   refine rf [0,2,4,14,15] [1] (Qd az ar aY ba bg aK rfl (aY,ba) _ hy30 (fun r' e st hq=>by rw[hy301 r' e] at hq;exact hq) fun u30 hu=>?_)
   replace h:=hy302 u30 hu
   refine cq 7 [17] [I u30.1] 34 ?_
   obtain⟨y42,hy42,hy421,hy422⟩:=bJ h
   refine bV rfl ?_
   refine rf [0,14,17] [1] (Qe az ar aY ba bg aK u30 rfl (u30.1,u30.2.2) _ hy42 (fun r' e st hq=>by rw[hy421 r' e] at hq;exact hq) fun u42 hu=>?_)
   replace h:=hy422 u42 hu
   obtain⟨g43,h⟩:=gG h
   obtain rfl:=sI h
   exact ci rfl ⟨_,fin (vs:=[]) rfl eg rfl (mp rfl (qQ (f:=I) (xs:=u42) (by simpa using g43) rfl) (dh (dh (dh (dh fa))))),za eW⟩
  ·refine aq 1 ?_
   refine cq 29 [18,19,140] [I (IntKind.i64.wrap (ep .u64 (IntKind.u64.wrap (aj (aY+bg))) 1)),I (aj ((IntKind.i64.wrap (ep .u64 (IntKind.u64.wrap (aj (aY+bg))) 1))+ba)),B (decide (ba>(IntKind.i64.wrap (ep .u64 (IntKind.u64.wrap (aj (aY+bg))) 1))))] 386 ?_
   obtain⟨u44,hu44,h⟩:=lJ h
   have j44:Run (iy az) 1 (gN az (ar,aY,ba,bg,aK) r) (.code (cR (cR (cR (cR (cR (cR oW))))))::[]) (sT 220 [(0,.hs 1 0 [] 1 0 (ar.map I).length),(1,I aY),(2,I ba),(3,I bg),(4,.fn 118 [.iptr (ae aK) 0]),(18,I (IntKind.i64.wrap (ep .u64 (IntKind.u64.wrap (aj (aY+bg))) 1))),(19,I (aj ((IntKind.i64.wrap (ep .u64 (IntKind.u64.wrap (aj (aY+bg))) 1))+ba))),(20,I u44.1),(21,I u44.2)] [⟨0,1,ar.map I⟩] 2):=by
    refine cq 8 [22] [I (aj ((aj ((IntKind.i64.wrap (ep .u64 (IntKind.u64.wrap (aj (aY+bg))) 1))+ba)) - 1))] 50 ?_
    obtain⟨y50,hy50,hy501,hy502⟩:=bJ h
    refine bV rfl ?_
    refine rf [0,1,2,3,4,18,19,20,21,22] [1] (Qf az ar aY ba bg aK rfl (u44.1,u44.2) _ hy50 (fun r' e st hq=>by rw[hy501 r' e] at hq;exact hq) fun u50 hu=>?_)
    replace h:=hy502 u50 hu
    refine cq 14 [24,181] [I (aj (u50.2.2.1 - u50.2.2.2)),B (decide (u50.2.2.2<ba))] 130 ?_
    obtain⟨u51,hu51,h⟩:=lJ h
    have j51:Run (iy az) 1 (gN az (ar,aY,ba,bg,aK) r) (.code (cR (cL (cR (cR (cR (cR (cR (cR (cR (cR (cR oW)))))))))))::.code zE::[]) (sT 220 [(0,.hs 1 0 [] 1 0 (ar.map I).length),(1,I aY),(2,I ba),(3,I u50.1),(4,.fn 118 [.iptr (ae aK) 0]),(18,I u50.2.1),(20,I u50.2.2.2),(24,I (aj (u50.2.2.1 - u50.2.2.2))),(185,B u51)] [⟨0,1,ar.map I⟩] 2):=by
     obtain⟨y52,hy52,hy521,hy522⟩:=bJ h
     have j52:∀u52,y52=.inr u52→Run (iy az) 1 (gN az (ar,aY,ba,bg,aK) r) (.code zE::[]) (sT 220 [(0,.hs 1 0 [] 1 0 (u52.map I).length),(1,I aY),(3,I u50.1),(4,.fn 118 [.iptr (ae aK) 0]),(18,I u50.2.1),(20,I u50.2.2.2),(24,I (aj (u50.2.2.1 - u50.2.2.2)))] [⟨0,1,u52.map I⟩] 2):=by
      intro u52 hu
      replace h:=hy522 u52 hu
      refine cq 7 [195] [B (decide (aY<u50.2.2.2))] 66 ?_
      obtain⟨u53,hu53,h⟩:=lJ h
      have j53:Run (iy az) 1 (gN az (ar,aY,ba,bg,aK) r) (.code (cR (cL zE))::.code J9::[]) (sT 220 [(0,.hs 1 0 [] 1 0 (u52.map I).length),(1,I aY),(3,I u50.1),(4,.fn 118 [.iptr (ae aK) 0]),(18,I u50.2.1),(20,I u50.2.2.2),(24,I (aj (u50.2.2.1 - u50.2.2.2))),(199,B u53)] [⟨0,1,u52.map I⟩] 2):=by
       obtain⟨y54,hy54,hy541,hy542⟩:=bJ h
       have j54:∀u54,y54=.inr u54→Run (iy az) 1 (gN az (ar,aY,ba,bg,aK) r) (.code J9::[]) (sT 220 [(0,.hs 1 0 [] 1 0 (u54.map I).length),(3,I u50.1),(4,.fn 118 [.iptr (ae aK) 0]),(18,I u50.2.1),(24,I (aj (u50.2.2.1 - u50.2.2.2)))] [⟨0,1,u54.map I⟩] 2):=by
        intro u54 hu
        replace h:=hy542 u54 hu
        refine cq 6 [209] [B (decide (u50.2.1<(aj (u50.2.2.1 - u50.2.2.2))))] 66 ?_
        obtain⟨u55,hu55,h⟩:=lJ h
        have j55:Run (iy az) 1 (gN az (ar,aY,ba,bg,aK) r) (.code (cR J9)::[]) (sT 220 [(0,.hs 1 0 [] 1 0 (u54.map I).length),(3,I u50.1),(4,.fn 118 [.iptr (ae aK) 0]),(18,I u50.2.1),(24,I (aj (u50.2.2.1 - u50.2.2.2))),(213,B u55)] [⟨0,1,u54.map I⟩] 2):=by
         obtain⟨y56,hy56,hy561,hy562⟩:=bJ h
         have j56:∀u56,y56=.inr u56→Run (iy az) 1 (gN az (ar,aY,ba,bg,aK) r) ([]) (sT 220 [] [⟨0,1,u56.map I⟩] 2):=by
          intro u56 hu
          replace h:=hy562 u56 hu
          obtain⟨g57,h⟩:=gG h
          obtain rfl:=sI h
          exact Ac ⟨_,fin (vs:=[]) rfl eg rfl (mp rfl (qQ (f:=I) (xs:=u56) (by simpa using g57) rfl) (dh (dh (dh (dh fa))))),za eW⟩
         have r56:∀r',y56=.inl r'→∀st,gN az (ar,aY,ba,bg,aK) r' st→(gN az (ar,aY,ba,bg,aK) r) st:=fun r' e st hq=>by rw[hy561 r' e] at hq;exact hq
         replace h:=hy56
         refine sq h ?_ ?_<;>intro h
         ·refine cq 6 [214,215,216,217,218] [.hs 1 0 [] 1 0 (u54.map I).length,I u50.2.1,I (aj (u50.2.2.1 - u50.2.2.2)),I u50.1,.fn 118 [.iptr (ae aK) 0]] 82 ?_
          obtain⟨r58,hr58,h⟩:=bS h
          obtain⟨g59,h⟩:=gG h
          refine oq 98 (.tup []) rfl (bM rfl rfl (b7 rfl rfl rfl (lL (kI rfl (gH (path:=[]) rfl rfl aQ rfl)) (aR (bo rfl) (aR (bo rfl) (aR (bo rfl) (aR (mt (dZ (gl rfl) ib)) cS))))) (J8 az hr58) (.inr rfl) (jO rfl rfl rfl rfl dH) rfl rfl rfl)) ?_
          try rw[i8 (f:=I) (xs:=u54) (ys:=r58) g59]
          refine aq 1 ?_
          exact rf [] [1] (j56 _ (ak h) :)
         ·refine aq 1 ?_
          exact rf [] [1] (j56 _ (ak h) :)
        replace h:=hu55
        clear hu55
        refine sp 209 h rfl ?_ ?_<;>intro h
        ·refine cq 5 [213] [B (decide ((aj (u50.2.2.1 - u50.2.2.2))<u50.1))] 130 ?_
         subst h
         exact rf [0,3,4,18,24,213] [1] (j55 :)
        ·refine cq 5 [213] [B false] 130 ?_
         subst h
         exact rf [0,3,4,18,24,213] [1] (j55 :)
       have r54:∀r',y54=.inl r'→∀st,gN az (ar,aY,ba,bg,aK) r' st→(gN az (ar,aY,ba,bg,aK) r) st:=fun r' e st hq=>by rw[hy541 r' e] at hq;exact hq
       replace h:=hy54
       refine sq h ?_ ?_<;>intro h
       ·refine cq 6 [200,201,202,203,204] [.hs 1 0 [] 1 0 (u52.map I).length,I aY,I u50.2.2.2,I u50.2.1,.fn 118 [.iptr (ae aK) 0]] 82 ?_
        obtain⟨r60,hr60,h⟩:=bS h
        obtain⟨g61,h⟩:=gG h
        refine oq 98 (.tup []) rfl (bM rfl rfl (b7 rfl rfl rfl (lL (kI rfl (gH (path:=[]) rfl rfl aQ rfl)) (aR (bo rfl) (aR (bo rfl) (aR (bo rfl) (aR (mt (dZ (gl rfl) ib)) cS))))) (J8 az hr60) (.inr rfl) (jO rfl rfl rfl rfl dH) rfl rfl rfl)) ?_
        try rw[i8 (f:=I) (xs:=u52) (ys:=r60) g61]
        refine aq 1 ?_
        exact rf [0,3,4,18,24] [1] (j54 _ (ak h) :)
       ·refine aq 1 ?_
        exact rf [0,3,4,18,24] [1] (j54 _ (ak h) :)
      replace h:=hu53
      clear hu53
      refine sp 195 h rfl ?_ ?_<;>intro h
      ·refine cq 5 [199] [B (decide (u50.2.2.2<u50.2.1))] 130 ?_
       subst h
       exact rf [0,1,3,4,18,20,24,199] [1] (j53 :)
      ·refine cq 5 [199] [B false] 130 ?_
       subst h
       exact rf [0,1,3,4,18,20,24,199] [1] (j53 :)
     have r52:∀r',y52=.inl r'→∀st,gN az (ar,aY,ba,bg,aK) r' st→(gN az (ar,aY,ba,bg,aK) r) st:=fun r' e st hq=>by rw[hy521 r' e] at hq;exact hq
     replace h:=hy52
     refine sq h ?_ ?_<;>intro h
     ·refine cq 6 [186,187,188,189,190] [.hs 1 0 [] 1 0 (ar.map I).length,I u50.2.2.2,I ba,I (aj (u50.2.2.1 - u50.2.2.2)),.fn 118 [.iptr (ae aK) 0]] 82 ?_
      obtain⟨r62,hr62,h⟩:=bS h
      obtain⟨g63,h⟩:=gG h
      refine oq 98 (.tup []) rfl (bM rfl rfl (b7 rfl rfl rfl (lL (kI rfl (gH (path:=[]) rfl rfl aQ rfl)) (aR (bo rfl) (aR (bo rfl) (aR (bo rfl) (aR (mt (dZ (gl rfl) ib)) cS))))) (af5 hr62) (.inr rfl) (jO rfl rfl rfl rfl dH) rfl rfl rfl)) ?_
      try rw[i8 (f:=I) (xs:=ar) (ys:=r62) g63]
      refine aq 1 ?_
      exact rf [0,1,3,4,18,20,24] [1] (j52 _ (ak h) :)
     ·refine aq 1 ?_
      exact rf [0,1,3,4,18,20,24] [1] (j52 _ (ak h) :)
    replace h:=hu51
    clear hu51
    refine sp 181 h rfl ?_ ?_<;>intro h
    ·refine cq 5 [185] [B (decide (ba<(aj (u50.2.2.1 - u50.2.2.2))))] 194 ?_
     subst h
     exact rf [0,1,2,3,4,18,20,24,185] [1] (j51 :)
    ·refine cq 5 [185] [B false] 194 ?_
     subst h
     exact rf [0,1,2,3,4,18,20,24,185] [1] (j51 :)
   replace h:=hu44
   clear hu44
   refine tG h rfl rfl ?_ ?_<;>intro h
   ·refine cq 11 [20,21] [I (aj ((aj ((IntKind.i64.wrap (ep .u64 (IntKind.u64.wrap (aj (aY+bg))) 1))+ba)) - bg)),I (IntKind.i64.wrap (ep .u64 (IntKind.u64.wrap (aj (aY+bg))) 1))] 482 ?_
    subst h
    exact rf [0,1,2,3,4,18,19,20,21] [1] (j44 :)
   ·refine cq 9 [20,21] [I aY,I ba] 450 ?_
    subst h
    exact rf [0,1,2,3,4,18,19,20,21] [1] (j44 :)
theorem Wc {G:bZ}:bW G 181 Dm:=jg fun az g_Ffds=>gT 5 1 (aO Ob (aO g_Ffds (aO V6 bv))) ca Tryz.func181 (fun a r h=>ZU az a.1 a.2.1 a.2.2.1 a.2.2.2.1 a.2.2.2.2 r h)
def GM:((List Int)×Int×State)→List V:=cA (sU 1 I) (cA I (oA (fun x:State=>(.fn 118 [.iptr (bT x) 0]:V))))
def GN (r:(List Int)):V×List V:=(.tup [],[.usl 1 (r.map I)])
noncomputable def Dk :=bf [true,false,false] GM GN fun x=>Dj x.1 x.2.1 x.2.2
theorem af6 {cj:List Int}{n_7:Int}{co:State}{r}(h:Dj cj n_7 co=some r):Dk.F (GM (cj,n_7,co))=some (GN r):=aL (aH (ju bd) (aH bd (aM (i7 cb)))) h
noncomputable def NI :=aG Tryz.f154
noncomputable abbrev zD :=cL (cL (cR (cR (cR (cR NI)))))
noncomputable abbrev acG :=cL (cL (cL (cR (cL (cR zD)))))
noncomputable def uJ :=b9 [(180,Dh),(181,Dm)]
def xQ (x:(List Int)×Int×State)(r:(List Int)):St→Prop:=QF uJ Tryz.f154 [true,false,false] (GM x) (GN r)
theorem P7 (cj:List Int)(n_7:Int)(co:State):ct uJ 1 (xQ (cj,n_7,co)) (cL (cL (cL (cR (cR NI))))) 0 (uK cj n_7 co) (fun u=>(sT 63 [(0,.hs 1 0 [] 1 0 (u.2.2.map I).length),(1,I u.1),(2,.fn 118 [.iptr (ae co) 0]),(6,I (20)),(7,I u.2.1)] [⟨0,1,u.2.2.map I⟩] 2)) fun x4=>(sT 63 [(0,.hs 1 0 [] 1 0 (x4.2.2.map I).length),(1,I n_7),(2,.fn 118 [.iptr (ae co) 0]),(6,I (20)),(7,I x4.1),(8,I x4.2.1)] [⟨0,1,x4.2.2.map I⟩] 2):=ez (AO cj n_7 co) fun {Q K} hK self ih x4 y h hr hn=>by
 unfold kC at h
 refine cq 7 [13] [B (decide (x4.2.1≤n_7))] 50 ?_
 refine sq h ?_ ?_<;>intro h
 ·refine aq 1 ?_
  refine cq 7 [14,15,16,17] [.hs 1 0 [] 1 0 (x4.2.2.map I).length,I x4.1,I x4.2.1,.fn 118 [.iptr (ae co) 0]] 114 ?_
  obtain⟨r5,hr5,h⟩:=bS h
  obtain⟨g6,h⟩:=gG h
  refine oq 130 (.tup []) rfl (bM rfl rfl (b7 rfl rfl rfl (lL (kI rfl (gH (path:=[]) rfl rfl aQ rfl)) (aR (bo rfl) (aR (bo rfl) (aR (mt (dZ (gl rfl) ib)) cS)))) (V4 hr5) (.inr rfl) (jO rfl rfl rfl rfl dH) rfl rfl rfl)) ?_
  try rw[i8 (f:=I) (xs:=x4.2.2) (ys:=r5) g6]
  refine cq 13 [7,8] [I x4.2.1,I (aj (x4.2.1+20))] 226 ?_
  refine dC ?_
  exact rf [0,1,2,6,7,8] [1] (ih _ _ h hr hn :)
 ·refine aq 1 ?_
  exact rf [0,1,2,6,7] [1] (hn _ (ak h) :) (hk:=hK)
theorem P9 (cj:List Int)(n_7:Int)(co:State)(u7:Int×Int×(List Int))(x10:Int×(List Int)):ct uJ 1 (xQ (cj,n_7,co)) acG 4 (uM cj n_7 co u7 x10) (fun u=>(sT 63 [(0,.hs 1 0 [] 1 0 (u.2.map I).length),(1,I u7.1),(2,.fn 118 [.iptr (ae co) 0]),(6,I x10.1),(7,I u.1)] [⟨0,1,u.2.map I⟩] 2)) fun x11=>(sT 63 [(0,.hs 1 0 [] 1 0 (x11.2.2.map I).length),(1,I u7.1),(2,.fn 118 [.iptr (ae co) 0]),(6,I x10.1),(7,I x11.1),(8,I x11.2.1)] [⟨0,1,x11.2.2.map I⟩] 2):=ez (AQ cj n_7 co u7 x10) fun {Q K} hK self ih x11 y h hr hn=>by
 unfold oo at h
 refine cq 7 [35] [B (decide (x11.2.1≤u7.1))] 50 ?_
 refine sq h ?_ ?_<;>intro h
 ·refine aq 1 ?_
  refine cq 10 [36,37,40,41,42] [.hs 1 0 [] 1 0 (x11.2.2.map I).length,I x11.1,I (aj (x11.1+x10.1)),I x11.2.1,.fn 118 [.iptr (ae co) 0]] 162 ?_
  obtain⟨r12,hr12,h⟩:=bS h
  obtain⟨g13,h⟩:=gG h
  refine oq 178 (.tup []) rfl (bM rfl rfl (b7 rfl rfl rfl (lL (kI rfl (gH (path:=[]) rfl rfl aQ rfl)) (aR (bo rfl) (aR (bo rfl) (aR (bo rfl) (aR (mt (dZ (gl rfl) ib)) cS))))) (Wb hr12) (.inr rfl) (jO rfl rfl rfl rfl dH) rfl rfl rfl)) ?_
  try rw[i8 (f:=I) (xs:=x11.2.2) (ys:=r12) g13]
  refine cq 14 [7,8] [I x11.2.1,I (aj (x11.2.1+(aj (2*x10.1))))] 290 ?_
  refine dC ?_
  exact rf [0,1,2,6,7,8] [1] (ih _ _ h hr hn :)
 ·refine aq 1 ?_
  exact rf [0,1,2,6,7] [1] (hn _ (ak h) :) (hk:=hK)
theorem P8 (cj:List Int)(n_7:Int)(co:State)(u7:Int×Int×(List Int)):ct uJ 1 (xQ (cj,n_7,co)) zD 2 (uL cj n_7 co u7) (fun u=>(sT 63 [] [⟨0,1,u.map I⟩] 2)) fun x10=>(sT 63 [(0,.hs 1 0 [] 1 0 (x10.2.map I).length),(1,I u7.1),(2,.fn 118 [.iptr (ae co) 0]),(6,I x10.1)] [⟨0,1,x10.2.map I⟩] 2):=ez (AP cj n_7 co u7) fun {Q K} hK self ih x10 y h hr hn=>by
 unfold jw at h
 refine cq 7 [30] [B (decide (x10.1<u7.1))] 50 ?_
 refine sq h ?_ ?_<;>intro h
 ·refine aq 1 ?_
  refine cq 10 [7,8] [I (0),I (aj (2*x10.1))] 114 ?_
  obtain⟨y14,hy14,hy141,hy142⟩:=bL h
  refine bV rfl ?_
  refine rf [0,1,2,6,7,8] [1] (P9 cj n_7 co u7 x10 rfl (0,(aj (2*x10.1)),x10.2) _ hy14 (fun r' e st hq=>hr r' (hy141 r' e) st hq) fun u14 hu=>?_)
  replace h:=hy142 u14 hu
  refine cq 14 [9,54] [I (aj (u14.1+x10.1)),B (decide ((aj (u14.1+x10.1))<u7.1))] 114 ?_
  obtain⟨y15,hy15,hy151,hy152⟩:=bL h
  have j15:∀u15,y15=.inr u15→Run uJ 1 Q (.code (cR (cR (cR (cL (cR zD)))))::.blk 3::.lp zD::.blk 2::K) (sT 63 [(0,.hs 1 0 [] 1 0 (u15.map I).length),(1,I u7.1),(2,.fn 118 [.iptr (ae co) 0]),(6,I x10.1)] [⟨0,1,u15.map I⟩] 2):=by
   intro u15 hu
   replace h:=hy152 u15 hu
   refine cq 6 [6] [I (aj (x10.1*2))] 50 ?_
   refine dC ?_
   exact rf [0,1,2,6] [1] (ih _ _ h hr hn :)
  have r15:∀r',y15=.inl r'→∀st,xQ (cj,n_7,co) r' st→Q st:=fun r' e st hq=>hr r' (hy151 r' e) st hq
  replace h:=hy15
  refine sq h ?_ ?_<;>intro h
  ·refine cq 6 [55,56,57,58,59] [.hs 1 0 [] 1 0 (u14.2.map I).length,I u14.1,I (aj (u14.1+x10.1)),I u7.1,.fn 118 [.iptr (ae co) 0]] 194 ?_
   obtain⟨r16,hr16,h⟩:=bS h
   obtain⟨g17,h⟩:=gG h
   refine oq 210 (.tup []) rfl (bM rfl rfl (b7 rfl rfl rfl (lL (kI rfl (gH (path:=[]) rfl rfl aQ rfl)) (aR (bo rfl) (aR (bo rfl) (aR (bo rfl) (aR (mt (dZ (gl rfl) ib)) cS))))) (Wb hr16) (.inr rfl) (jO rfl rfl rfl rfl dH) rfl rfl rfl)) ?_
   try rw[i8 (f:=I) (xs:=u14.2) (ys:=r16) g17]
   refine aq 1 ?_
   exact rf [0,1,2,6] [1] (j15 _ (ak h) :)
  ·refine aq 1 ?_
   exact rf [0,1,2,6] [1] (j15 _ (ak h) :)
 ·refine aq 1 ?_
  exact rf [] [1] (hn _ (ak h) :) (hk:=hK)
theorem ZR (cj:List Int)(n_7:Int)(co:State)(r:(List Int))(h:Dj cj n_7 co=some r):bq uJ Tryz.f154 [true,false,false] 1 (GM (cj,n_7,co)) (GN r):=by
 show Run _ _ (xQ (cj,n_7,co) r) [.code NI] _
 refine rI 63 [(0,.hs 1 0 [] 1 0 (cj.map I).length),(1,I n_7),(2,.fn 118 [.iptr (ae co) 0])] [(1,some ⟨0,1,cj.map I⟩)] 2 ?_
 unfold Dj at h
 refine cq 12 [6,7,8] [I (20),I (0),I (20)] 66 ?_
 obtain⟨y7,hy7,hy71,hy72⟩:=bJ h
 refine bV rfl ?_
 refine rf [0,1,2,6,7,8] [1] (P7 cj n_7 co rfl (0,20,cj) _ hy7 (fun r' e st hq=>by rw[hy71 r' e] at hq;exact hq) fun u7 hu=>?_)
 replace h:=hy72 u7 hu
 refine cq 6 [23,24,25,26] [.hs 1 0 [] 1 0 (u7.2.2.map I).length,I u7.2.1,I u7.1,.fn 118 [.iptr (ae co) 0]] 66 ?_
 obtain⟨r8,hr8,h⟩:=bS h
 obtain⟨g9,h⟩:=gG h
 refine oq 82 (.tup []) rfl (bM rfl rfl (b7 rfl rfl rfl (lL (kI rfl (gH (path:=[]) rfl rfl aQ rfl)) (aR (bo rfl) (aR (bo rfl) (aR (mt (dZ (gl rfl) ib)) cS)))) (V4 hr8) (.inr rfl) (jO rfl rfl rfl rfl dH) rfl rfl rfl)) ?_
 try rw[i8 (f:=I) (xs:=u7.2.2) (ys:=r8) g9]
 refine aq 2 ?_
 obtain⟨y18,hy18,hy181,hy182⟩:=bJ h
 refine bV rfl ?_
 refine rf [0,1,2,6] [1] (P8 cj n_7 co u7 rfl (20,r8) _ hy18 (fun r' e st hq=>by rw[hy181 r' e] at hq;exact hq) fun u18 hu=>?_)
 replace h:=hy182 u18 hu
 obtain⟨g19,h⟩:=gG h
 obtain rfl:=sI h
 exact Ac ⟨_,fin (vs:=[]) rfl eg rfl (mp rfl (qQ (f:=I) (xs:=u18) (by simpa using g19) rfl) (dh (dh fa))),za eW⟩
theorem V7 {G:bZ}:bW G 154 Dk:=gT 3 1 (aO V5 (aO Wc bv)) ca Tryz.func154 (fun a r h=>ZR a.1 a.2.1 a.2.2 r h)
def GE:((List Int)×State)→List V:=cA (sU 1 I) (oA (fun x:State=>(.fn 118 [.iptr (bT x) 0]:V)))
def GF (r:(List Int)):V×List V:=(.tup [],[.usl 1 (r.map I)])
noncomputable def Dg :=bf [true,false] GE GF fun x=>vX x.1 x.2
theorem af2 {x_3:List Int}{qq:State}{r}(h:vX x_3 qq=some r):Dg.F (GE (x_3,qq))=some (GF r):=aL (aH (ju bd) (aM (i7 cb))) h
noncomputable def af4 :=aG Tryz.f117
noncomputable def V2 :=b9 [(154,Dk)]
def af3 (x:(List Int)×State)(r:(List Int)):St→Prop:=QF V2 Tryz.f117 [true,false] (GE x) (GF r)
theorem ZO (x_3:List Int)(qq:State)(r:(List Int))(h:vX x_3 qq=some r):bq V2 Tryz.f117 [true,false] 1 (GE (x_3,qq)) (GF r):=by
 show Run _ _ (af3 (x_3,qq) r) [.code af4] _
 refine rI 9 [(0,.hs 1 0 [] 1 0 (x_3.map I).length),(1,.fn 118 [.iptr (ae qq) 0])] [(1,some ⟨0,1,x_3.map I⟩)] 2 ?_
 unfold vX at h
 refine cq 3 [4,5] [.hs 1 0 [] 1 0 (x_3.map I).length,.hs 1 0 [] 1 0 (x_3.map I).length] 34 ?_
 refine oq 50 (I (len x_3)) rfl (bA rfl rfl rfl (rD (f:=I) (xs:=x_3) rfl rfl)) ?_
 refine cq 1 [7] [.fn 118 [.iptr (ae qq) 0]] 66 ?_
 obtain⟨r3,hr3,h⟩:=bS h
 obtain⟨g4,h⟩:=gG h
 refine oq 82 (.tup []) rfl (bM rfl rfl (b7 rfl rfl rfl (lL (kI rfl (gH (path:=[]) rfl rfl aQ rfl)) (aR (bo rfl) (aR (mt (dZ (gl rfl) ib)) cS))) (af6 hr3) (.inr rfl) (jO rfl rfl rfl rfl dH) rfl rfl rfl)) ?_
 try rw[i8 (f:=I) (xs:=x_3) (ys:=r3) g4]
 refine aq 1 ?_
 obtain⟨g5,h⟩:=gG h
 obtain rfl:=sI h
 exact Ac ⟨_,fin (vs:=[]) rfl eg rfl (mp rfl (qQ (f:=I) (xs:=r3) (by simpa using g5) rfl) (dh fa)),za eW⟩
theorem V3 {G:bZ}:bW G 117 Dg:=gT 2 1 (aO V7 bv) ca Tryz.func117 (fun a r h=>ZO a.1 a.2 r h)
def Mx:(Contract×State×(Int×ac))→List V:=cA aV (cA bT (oA (fun x:Int×ac=>(.fn 82 [.iptr (I x.1) 0,.iptr (str x.2) 0]:V))))
def Mz (r:(List Int)):V×List V:=(.usl 1 (r.map I),[])
noncomputable def Kq :=bf [false,false,false] Mx Mz fun x=>Oc x.1 x.2.1 x.2.2
theorem ahA {c_1:Contract}{s_2:State}{dI:Int×ac}{r}(h:Oc c_1 s_2 dI=some r):Kq.F (Mx (c_1,s_2,dI))=some (Mz r):=aL (aH bc (aH cb (aM (KI bd bx)))) h
noncomputable def acb :=aG Tryz.f70
noncomputable abbrev vk :=cL (cL (cR (cL (cR (cR acb)))))
noncomputable def II :=b9 [(82,JU),(117,Dg)]
def My (x:Contract×State×(Int×ac))(r:(List Int)):St→Prop:=QF II Tryz.f70 [false,false,false] (Mx x) (Mz r)
theorem Sv (c_1:Contract)(s_2:State)(dI:Int×ac):ct II 0 (My (c_1,s_2,dI)) vk 0 (qI c_1 s_2 dI) (fun u=>(sT 42 [(4,.hp 1 0 [] 5 0 0),(7,.hs 2 0 [] 1 0 (u.map I).length)] [⟨0,5,[ae s_2]⟩,⟨0,1,u.map I⟩] 3)) fun x4=>(sT 42 [(2,.fn 82 [.iptr (I dI.1) 0,.iptr (str dI.2) 0]),(3,.hp 1 0 [] 2 0 0),(4,.hp 2 0 [] 5 0 0),(7,.hs 3 0 [] 1 0 (x4.2.map I).length),(12,.isl false (s_2.Duties.map ah)),(13,I (len s_2.Duties)),(14,I x4.1)] [⟨0,2,[aa c_1]⟩,⟨0,5,[ae s_2]⟩,⟨0,1,x4.2.map I⟩] 4):=ez (IJ c_1 s_2 dI) fun {Q K} hK self ih x4 y h hr hn=>by
 unfold nD at h
 refine cq 5 [15] [B (decide (x4.1<(len s_2.Duties)))] 20 ?_
 refine sq h ?_ ?_<;>intro h
 ·refine aq 1 ?_
  refine cq 5 [16] [I x4.1] 36 ?_
  obtain⟨e5,he5,h⟩:=bS h
  refine oq 52 (.iptr (ah e5) 0) rfl (al rfl rfl rfl (aW rfl rfl rfl rfl he5)) ?_
  refine ck 6 [8,9] [] [68] [] [I x4.1,.hp 68 0 [] 4 0 0] [some ⟨0,4,[ah e5]⟩] 116 (by kernel_rfl) ?_
  refine dV [0,1,3,7,15,15,15,79,15,271,975,1999,4095,8191] rfl (by decide +kernel) ?_
  refine dq [68] [] (.hp 68 0 [] 4 0 3) rfl (an rfl rfl rfl) ?_
  refine dq [68] [] (I e5.Status) rfl (aU rfl rfl) ?_
  refine dk 2 [22,21] [B (e5.Status==1),B (e5.Status==1)] ?_
  obtain⟨y6,hy6,hy61,hy62⟩:=bL h
  have j6:∀u6,y6=.inr u6→Run II 0 Q (.code (cR (cR (cL (cL (cR (cR vk))))))::.blk 1::.code (cR (cR (cR vk)))::.lp vk::.blk 0::K) (sT 42 [(2,.fn 82 [.iptr (I dI.1) 0,.iptr (str dI.2) 0]),(3,.hp 1 0 [] 2 0 0),(4,.hp 2 0 [] 5 0 0),(7,.hs 3 0 [] 1 0 (x4.2.map I).length),(8,I x4.1),(12,.isl false (s_2.Duties.map ah)),(13,I (len s_2.Duties)),(14,I x4.1),(32,B u6)] [⟨0,2,[aa c_1]⟩,⟨0,5,[ae s_2]⟩,⟨0,1,x4.2.map I⟩] 4):=by
   intro u6 hu
   replace h:=hy62 u6 hu
   obtain⟨y7,hy7,hy71,hy72⟩:=bL h
   have j7:∀u7,y7=.inr u7→Run II 0 Q (.blk 1::.code (cR (cR (cR vk)))::.lp vk::.blk 0::K) (sT 42 [(2,.fn 82 [.iptr (I dI.1) 0,.iptr (str dI.2) 0]),(3,.hp 1 0 [] 2 0 0),(4,.hp 2 0 [] 5 0 0),(7,.hs 3 0 [] 1 0 (u7.map I).length),(12,.isl false (s_2.Duties.map ah)),(13,I (len s_2.Duties)),(14,I x4.1)] [⟨0,2,[aa c_1]⟩,⟨0,5,[ae s_2]⟩,⟨0,1,u7.map I⟩] 4):=by
    intro u7 hu
    replace h:=hy72 u7 hu
    refine cq 5 [14] [I (aj (x4.1+1))] 36 ?_
    refine dC ?_
    exact rf [2,3,4,7,12,13,14] [1,2,3] (ih _ _ h hr hn :)
   have r7:∀r',y7=.inl r'→∀st,My (c_1,s_2,dI) r' st→Q st:=fun r' e st hq=>hr r' (hy71 r' e) st hq
   replace h:=hy7
   refine sq h ?_ ?_<;>intro h
   ·refine cq 3 [33,34] [.hs 3 0 [] 1 0 (x4.2.map I).length,I x4.1] 36 ?_
    refine oq 52 (.hs 36 0 [] 1 0 1) rfl (eB rfl (ka (f:=I) (xs:=[]) (z:=I (0)) (es:=[I x4.1]) (ws:=[I x4.1]) rfl rfl rfl (by decide) rfl (dR rfl) rfl)) ?_
    obtain⟨a8,ha8,h⟩:=bS h
    refine oq 68 (.hs 52 0 [] 1 0 (a8.map I).length) rfl (iP rfl rfl rfl rfl rfl (lf (path:=[]) (f:=I) (xs:=x4.2) (ys:=[x4.1]) rfl rfl (vL rfl rfl rfl) rfl rfl rfl aQ rfl (by decide) pW ha8 rfl nM)) ?_
    refine cq 2 [7] [.hs 52 0 [] 1 0 (a8.map I).length] 84 ?_
    exact rf [2,3,4,7,12,13,14] [1,2,52] (j7 _ (ak h) :)
   ·refine aq 1 ?_
    exact rf [2,3,4,7,12,13,14] [1,2,3] (j7 _ (ak h) :)
  have r6:∀r',y6=.inl r'→∀st,My (c_1,s_2,dI) r' st→Q st:=fun r' e st hq=>hr r' (hy61 r' e) st hq
  replace h:=hy6
  refine sp 22 h rfl ?_ ?_<;>intro h
  ·refine dk 1 [23] [.fn 82 [.iptr (I dI.1) 0,.iptr (str dI.2) 0]] ?_
   refine dy [68] [] (ah e5) rfl (aU rfl rfl) ?_
   refine dy [1] [] (.hp 1 0 [] 2 0 1) rfl (an rfl rfl rfl) ?_
   refine dy [1] [] (.isl false (c_1.Clauses.map ao)) rfl (aU rfl rfl) ?_
   refine dy [68] [] (.hp 68 0 [] 4 0 0) rfl (an rfl rfl rfl) ?_
   refine dy [68] [] (I e5.Clause) rfl (aU rfl rfl) ?_
   obtain⟨e9,he9,h⟩:=bS h
   refine dy [] [] (.iptr (ap e9) 0) rfl (al rfl rfl rfl (aW rfl rfl rfl rfl he9)) ?_
   refine dy [] [] (ap e9) rfl (aU rfl rfl) ?_
   obtain⟨r10,hr10,h⟩:=bS h
   refine dy [] [] (B r10) rfl (cP (ab0 hr10)) ?_ (dK rfl rfl rfl rfl (aR (bo rfl) (aR (bo rfl) (aR (bo rfl) (aR (bo rfl) cS)))) (ab0 hr10) (.inr rfl) rfl)
   refine dk 1 [32] [B r10] ?_
   refine de 340 rfl rfl ?_
   exact rf [2,3,4,7,8,12,13,14,32] [1,2,3] (j6 _ (ak h) :)
  ·refine dk 10 [32,31,30,29,28,27,26,25,24,23] [B false,.und,.und,.und,.und,.und,.und,.und,.und,.und] ?_
   refine de 340 rfl rfl ?_
   exact rf [2,3,4,7,8,12,13,14,32] [1,2,3] (j6 _ (ak h) :)
 ·refine aq 1 ?_
  exact rf [4,7] [2,3] (hn _ (ak h) :) (hk:=hK)
theorem ac1 (c_1:Contract)(s_2:State)(dI:Int×ac)(r:(List Int))(h:Oc c_1 s_2 dI=some r):bq II Tryz.f70 [false,false,false] 0 (Mx (c_1,s_2,dI)) (Mz r):=by
 show Run _ _ (My (c_1,s_2,dI) r) [.code acb] _
 refine rI 42 [(0,aa c_1),(1,ae s_2),(2,.fn 82 [.iptr (I dI.1) 0,.iptr (str dI.2) 0])] [] 1 ?_
 unfold Oc at h
 refine ck 8 [3,4] [] [1,17] [] [.hp 1 0 [] 2 0 0,.hp 17 0 [] 5 0 0] [some ⟨0,2,[aa c_1]⟩,some ⟨0,5,[ae s_2]⟩] 49 (by kernel_rfl) ?_
 refine oq 65 (.hs 49 0 [] 1 0 0) rfl (eB rfl (ka (f:=I) (xs:=[]) (z:=I (0)) (es:=[]) (ws:=[]) rfl rfl rfl (by decide) rfl (dR rfl) rfl)) ?_
 refine cq 7 [7,12] [.hs 49 0 [] 1 0 0,.isl false (s_2.Duties.map ah)] 113 ?_
 refine oq 129 (I (len s_2.Duties)) rfl (bA rfl rfl rfl (bR rfl)) ?_
 refine cq 3 [14] [I (0)] 145 ?_
 obtain⟨y11,hy11,hy111,hy112⟩:=bJ h
 refine bV rfl ?_
 refine rf [2,3,4,7,12,13,14] [1,17,49] (Sv c_1 s_2 dI rfl (0,[]) _ hy11 (fun r' e st hq=>by rw[hy111 r' e] at hq;exact hq) fun u11 hu=>?_)
 replace h:=hy112 u11 hu
 refine cq 4 [38,39] [.hs 2 0 [] 1 0 (u11.map I).length,.fn 118 [.hp 1 0 [] 5 0 0]] 35 ?_
 obtain⟨r12,hr12,h⟩:=bS h
 obtain⟨g13,h⟩:=gG h
 refine oq 51 (.tup []) rfl (bM rfl rfl (b7 rfl rfl rfl (lL (kI rfl (gH (path:=[]) rfl rfl aQ rfl)) (aR (mt (dZ (gV (path:=[]) rfl rfl aQ rfl rfl) ib)) cS)) (af2 hr12) (.inl (by simp[dF,d9,str,wE (f:=I) Oq])) (jO rfl rfl rfl rfl dH) rfl rfl rfl)) ?_
 try rw[i8 (f:=I) (xs:=u11) (ys:=r12) g13]
 refine cq 6 [6] [.hs 2 0 [] 1 0 (r12.map I).length] 83 ?_
 obtain rfl:=sI h
 exact ci rfl ⟨_,fin (vs:=[.hs 2 0 [] 1 0 (r12.map I).length]) rfl (fU (fC rfl (cZ rfl rfl)) eg) rfl (dh (dh (dh fa))),eW⟩
theorem aaF {G:bZ}:bW G 70 Kq:=gT 3 0 (aO ZA (aO V3 bv)) ca Tryz.func70 (fun a r h=>ac1 a.1 a.2.1 a.2.2 r h)
def IK:(Condition×(List ac)×Int)→List V:=cA bD (cA (fP str) (oA I))
def IL (r:Bool):V×List V:=(B r,[])
noncomputable def D6 (dJ:(Condition×(List ac)×Int)→Option Bool):Ent:=bf [false,false,false] IK IL dJ
theorem vl (dJ:(Condition×(List ac)×Int)→Option Bool){x}{r}(h:dJ x=some r):(D6 dJ).F (IK x)=some (IL r):=aL (aH dt (aH (bC bx) (aM bd))) h
noncomputable def Kr :=D6 (aN pa)
theorem acd {c_1:Condition}{bN:List ac}{cy:Int}{r}(h:Od c_1 bN cy=some r):Kr.F (IK (c_1,bN,cy))=some (IL r):=vl (aN pa) h
noncomputable def IM :=aG Tryz.f147
noncomputable def MA (dJ:(Condition×(List ac)×Int)→Option Bool):Env:=b9 [(129,pN),(147,(D6 dJ))]
def wl (dJ:(Condition×(List ac)×Int)→Option Bool)(x:Condition×(List ac)×Int)(r:Bool):St→Prop:=QF (MA dJ) Tryz.f147 [false,false,false] (IK x) (IL r)
theorem ac3 (dJ:(Condition×(List ac)×Int)→Option Bool)(c_1:Condition)(bN:List ac)(cy:Int)(r:Bool)(h:zN dJ c_1 bN cy=some r):bq (MA dJ) Tryz.f147 [false,false,false] 0 (IK (c_1,bN,cy)) (IL r):=by
 show Run _ _ (wl dJ (c_1,bN,cy) r) [.code IM] _
 refine rI 67 [(0,ai c_1),(1,.isl false (bN.map str)),(2,I cy)] [] 1 ?_
 unfold zN at h
 refine ck 17 [3,8,9] [] [1] [] [.hp 1 0 [] 4 0 0,I c_1.Op,B (c_1.Op==2)] [some ⟨0,4,[ai c_1]⟩] 97 (by kernel_rfl) ?_
 refine sq h ?_ ?_<;>intro h
 ·refine cq 5 [11,13] [.isl false (bN.map str),str c_1.Name] 145 ?_
  obtain⟨r4,hr4,h⟩:=bS h
  refine oq 161 (B r4) rfl (cP (Gl hr4)) ?_
  refine cq 2 [6] [B r4] 177 ?_
  obtain rfl:=sI h
  exact rP [B r4]
 ·refine cq 5 [15] [B (c_1.Op==3)] 129 ?_
  refine sq h ?_ ?_<;>intro h
  ·refine cq 8 [6] [B (decide (cy≥c_1.Day))] 209 ?_
   obtain rfl:=sI h
   exact rP [B (decide (cy≥c_1.Day))]
  ·refine cq 5 [21] [B (c_1.Op==4)] 161 ?_
   refine sq h ?_ ?_<;>intro h
   ·refine cq 4 [24] [.isl false (c_1.Parts.map aB)] 193 ?_
    obtain⟨e5,he5,h⟩:=bS h
    refine oq 209 (.iptr (ai e5) 0) rfl (al rfl rfl rfl (aW rfl rfl (bU e5) rfl he5)) ?_
    refine cq 3 [26,27,28] [ai e5,.isl false (bN.map str),I cy] 257 ?_
    obtain⟨r6,hr6,h⟩:=bS h
    refine oq 273 (B r6) rfl (bM rfl rfl (b7 rfl rfl rfl (aR (bo rfl) (aR (bo rfl) (aR (bo rfl) cS))) (vl dJ hr6) (.inr rfl) dH rfl rfl rfl)) ?_
    refine cq 3 [6] [B (!r6)] 305 ?_
    obtain rfl:=sI h
    exact rP [B (!r6)]
   ·refine cq 5 [31] [B (c_1.Op==5)] 193 ?_
    refine sq h ?_ ?_<;>intro h
    ·refine cq 4 [34] [.isl false (c_1.Parts.map aB)] 225 ?_
     obtain⟨e7,he7,h⟩:=bS h
     refine oq 241 (.iptr (ai e7) 0) rfl (al rfl rfl rfl (aW rfl rfl (bU e7) rfl he7)) ?_
     refine cq 3 [36,37,38] [ai e7,.isl false (bN.map str),I cy] 289 ?_
     obtain⟨r8,hr8,h⟩:=bS h
     refine oq 305 (B r8) rfl (bM rfl rfl (b7 rfl rfl rfl (aR (bo rfl) (aR (bo rfl) (aR (bo rfl) cS))) (vl dJ hr8) (.inr rfl) dH rfl rfl rfl)) ?_
     refine cq 1 [40] [B r8] 321 ?_
     obtain⟨y9,hy9,hy91,hy92⟩:=bJ h
     have j9:∀u9,y9=.inr u9→Run (MA dJ) 0 (wl dJ (c_1,bN,cy) r) (.code (cR (cL (cR (cR (cR (cR (cR (cR (cR (cL (cR (cL (cR IM)))))))))))))::.blk 0::.code (cR (cR IM))::[]) (sT 67 [(6,B u9)] [] 1):=by
      intro u9 hu
      replace h:=hy92 u9 hu
      obtain rfl:=sI h
      exact rP [B u9]
     have r9:∀r',y9=.inl r'→∀st,wl dJ (c_1,bN,cy) r' st→(wl dJ (c_1,bN,cy) r) st:=fun r' e st hq=>by rw[hy91 r' e] at hq;exact hq
     replace h:=hy9
     refine sp 40 h rfl ?_ ?_<;>intro h
     ·refine cq 2 [42] [.isl false (c_1.Parts.map aB)] 353 ?_
      obtain⟨e10,he10,h⟩:=bS h
      refine oy 369 (.iptr (ai e10) 0) rfl (al rfl rfl rfl (aW rfl rfl (bU e10) rfl he10)) ?_
      refine cq 3 [44,45,46] [ai e10,.isl false (bN.map str),I cy] 417 ?_
      obtain⟨r11,hr11,h⟩:=bS h
      refine oy 433 (B r11) rfl (bM rfl rfl (b7 rfl rfl rfl (aR (bo rfl) (aR (bo rfl) (aR (bo rfl) cS))) (vl dJ hr11) (.inr rfl) dH rfl rfl rfl)) ?_
      refine cq 3 [6] [B r11] 465 ?_
      exact rf [6] [] (j9 _ (ak h) :)
     ·refine cq 10 [6] [B false] 465 ?_
      exact rf [6] [] (j9 _ (ak h) :)
    ·refine cq 5 [49] [B (c_1.Op==6)] 225 ?_
     refine sq h ?_ ?_<;>intro h
     ·refine cq 4 [52] [.isl false (c_1.Parts.map aB)] 257 ?_
      obtain⟨e12,he12,h⟩:=bS h
      refine oq 273 (.iptr (ai e12) 0) rfl (al rfl rfl rfl (aW rfl rfl (bU e12) rfl he12)) ?_
      refine cq 3 [54,55,56] [ai e12,.isl false (bN.map str),I cy] 321 ?_
      obtain⟨r13,hr13,h⟩:=bS h
      refine oq 337 (B r13) rfl (bM rfl rfl (b7 rfl rfl rfl (aR (bo rfl) (aR (bo rfl) (aR (bo rfl) cS))) (vl dJ hr13) (.inr rfl) dH rfl rfl rfl)) ?_
      refine cq 1 [58] [B r13] 353 ?_
      obtain⟨y14,hy14,hy141,hy142⟩:=bJ h
      have j14:∀u14,y14=.inr u14→Run (MA dJ) 0 (wl dJ (c_1,bN,cy) r) (.code (cR (cL (cR (cR (cR (cR (cR (cR (cR (cR (cR (cL (cR (cL (cR IM)))))))))))))))::.blk 0::.code (cR (cR IM))::[]) (sT 67 [(6,B u14)] [] 1):=by
       intro u14 hu
       replace h:=hy142 u14 hu
       obtain rfl:=sI h
       exact rP [B u14]
      have r14:∀r',y14=.inl r'→∀st,wl dJ (c_1,bN,cy) r' st→(wl dJ (c_1,bN,cy) r) st:=fun r' e st hq=>by rw[hy141 r' e] at hq;exact hq
      replace h:=hy14
      refine sp 58 h rfl ?_ ?_<;>intro h
      ·refine cq 10 [6] [B true] 497 ?_
       exact rf [6] [] (j14 _ (ak h) :)
      ·refine cq 2 [60] [.isl false (c_1.Parts.map aB)] 385 ?_
       obtain⟨e15,he15,h⟩:=bS h
       refine oy 401 (.iptr (ai e15) 0) rfl (al rfl rfl rfl (aW rfl rfl (bU e15) rfl he15)) ?_
       refine cq 3 [62,63,64] [ai e15,.isl false (bN.map str),I cy] 449 ?_
       obtain⟨r16,hr16,h⟩:=bS h
       refine oy 465 (B r16) rfl (bM rfl rfl (b7 rfl rfl rfl (aR (bo rfl) (aR (bo rfl) (aR (bo rfl) cS))) (vl dJ hr16) (.inr rfl) dH rfl rfl rfl)) ?_
       refine cq 3 [6] [B r16] 497 ?_
       exact rf [6] [] (j14 _ (ak h) :)
     ·refine aq 1 ?_
      refine cq 5 [6] [B true] 241 ?_
      obtain rfl:=sI h
      exact rP [B true]
theorem aaG {G:bZ}:bW G 147 Kr:=jg fun dJ g_Ffp=>gT 3 0 (aO te (aO g_Ffp bv)) ca Tryz.func147 (fun a r h=>ac3 dJ a.1 a.2.1 a.2.2 r h)
def EV:(machine×Clause)→List V:=cA (LB cD) (oA ao)
def EW (r:Bool):V×List V:=(B r,[])
noncomputable def B5 :=bf [false,false] EV EW fun x=>JO x.1 x.2
theorem aet {m_1:machine}{x_2:Clause}{r}(h:JO m_1 x_2=some r):B5.F (EV (m_1,x_2))=some (EW r):=aL (aH (eZ jd) (aM cG)) h
noncomputable def aev :=aG Tryz.f112
noncomputable def TK :=b9 [(147,Kr)]
def aeu (x:machine×Clause)(r:Bool):St→Prop:=QF TK Tryz.f112 [false,false] (EV x) (EW r)
theorem YP (m_1:machine)(x_2:Clause)(r:Bool)(h:JO m_1 x_2=some r):bq TK Tryz.f112 [false,false] 0 (EV (m_1,x_2)) (EW r):=by
 show Run _ _ (aeu (m_1,x_2) r) [.code aev] _
 refine rI 18 [(0,.iptr (cD m_1) 0),(1,ap x_2)] [] 1 ?_
 unfold JO at h
 refine ck 6 [3] [] [1] [] [.hp 1 0 [] 12 0 0] [some ⟨0,12,[ap x_2]⟩] 33 (by kernel_rfl) ?_
 refine dV [0,1,0,4,12,28,60,0,128,384,896,1920,4095,8191] rfl (by decide +kernel) ?_
 refine dq [1] [] (.hp 1 0 [] 12 0 6) rfl (an rfl rfl rfl) ?_
 refine dq [1] [] (ai x_2.When) rfl (aU rfl rfl) ?_
 refine dk 1 [7] [.iptr (cD m_1) 0] ?_
 refine dq [] [] (.iptr (cD m_1) 0) rfl (pg rfl rfl) ?_
 refine dq [] [] (.iptr (cD m_1) 2) rfl (an rfl rfl rfl) ?_
 refine dq [] [] (.iptr (cD m_1) 3) rfl (an rfl rfl rfl) ?_
 refine dq [] [] (.isl false (m_1.f_s.Facts.map str)) rfl (aU rfl rfl) ?_
 refine dk 1 [12] [.iptr (cD m_1) 0] ?_
 refine dq [] [] (.iptr (cD m_1) 0) rfl (pg rfl rfl) ?_
 refine dq [] [] (.iptr (cD m_1) 2) rfl (an rfl rfl rfl) ?_
 refine dq [] [] (.iptr (cD m_1) 2) rfl (an rfl rfl rfl) ?_
 refine dq [] [] (I m_1.f_s.Day) rfl (aU rfl rfl) ?_
 obtain⟨r3,hr3,h⟩:=bS h
 refine dq [] [] (B r3) rfl (cP (acd hr3)) ?_ (dK rfl rfl rfl rfl (aR (bo rfl) (aR (bo rfl) (aR (bo rfl) cS))) (acd hr3) (.inr rfl) rfl)
 refine dk 1 [4] [B r3] ?_
 refine de 257 rfl rfl ?_
 obtain rfl:=sI h
 exact rP [B r3]
theorem TL {G:bZ}:bW G 112 B5:=gT 2 0 (aO aaG bv) ca Tryz.func112 (fun a r h=>YP a.1 a.2 r h)
def EQ:(Clause×Int×Int×ac×machine)→List V:=cA ao (cA (fun x:Int=>.iptr (I x) 0) (cA (fun x:Int=>.iptr (I x) 0) (cA (fun x:ac=>.iptr (str x) 0) (oA (fun x:machine=>.iptr ((LB cD) x) 0)))))
def ER (r:Bool):V×List V:=(B r,[])
noncomputable def B3 :=bf [false,false,false,false,false] EQ ER fun x=>B2 x.1 x.2.1 x.2.2.1 x.2.2.2.1 x.2.2.2.2
theorem aep {x_1:Clause}{a_2:Int}{a_3:Int}{a_4:ac}{a_5:machine}{r}(h:B2 x_1 a_2 a_3 a_4 a_5=some r):B3.F (EQ (x_1,a_2,a_3,a_4,a_5))=some (ER r):=aL (aH cG (aH (eZ bd) (aH (eZ bd) (aH (eZ bx) (aM (eZ (eZ jd))))))) h
noncomputable def ES :=aG Tryz.f111
noncomputable def xo :=b9 [(112,B5)]
def mZ (x:Clause×Int×Int×ac×machine)(r:Bool):St→Prop:=QF xo Tryz.f111 [false,false,false,false,false] (EQ x) (ER r)
theorem YN (x_1:Clause)(a_2:Int)(a_3:Int)(a_4:ac)(a_5:machine)(r:Bool)(h:B2 x_1 a_2 a_3 a_4 a_5=some r):bq xo Tryz.f111 [false,false,false,false,false] 0 (EQ (x_1,a_2,a_3,a_4,a_5)) (ER r):=by
 show Run _ _ (mZ (x_1,a_2,a_3,a_4,a_5) r) [.code ES] _
 refine rI 28 [(0,ap x_1),(1,.iptr (I a_2) 0),(2,.iptr (I a_3) 0),(3,.iptr (str a_4) 0),(4,.iptr (.iptr (cD a_5) 0) 0)] [] 1 ?_
 unfold B2 at h
 refine ck 12 [5,11] [] [1] [] [.hp 1 0 [] 12 0 0,B (x_1.Kind==a_2)] [some ⟨0,12,[ap x_1]⟩] 113 (by kernel_rfl) ?_
 obtain⟨y6,hy6,hy61,hy62⟩:=bJ h
 have j6:∀u6,y6=.inr u6→Run xo 0 (mZ (x_1,a_2,a_3,a_4,a_5) r) (.code (cR (cR ES))::[]) (sT 28 [(6,B u6)] [] 1):=by
  intro u6 hu
  replace h:=hy62 u6 hu
  obtain rfl:=sI h
  exact rP [B u6]
 have r6:∀r',y6=.inl r'→∀st,mZ (x_1,a_2,a_3,a_4,a_5) r' st→(mZ (x_1,a_2,a_3,a_4,a_5) r) st:=fun r' e st hq=>by rw[hy61 r' e] at hq;exact hq
 replace h:=hy6
 refine sp 11 h rfl ?_ ?_<;>intro h
 ·refine cq 6 [17] [B (x_1.Party==a_3)] 209 ?_
  obtain⟨y7,hy7,hy71,hy72⟩:=bL h
  have j7:∀u7,y7=.inr u7→Run xo 0 (mZ (x_1,a_2,a_3,a_4,a_5) r) (.code (cR (cR ES))::[]) (sT 28 [(6,B u7)] [] 1):=by
   intro u7 hu
   replace h:=hy72 u7 hu
   exact rf [6] [] (j6 _ (ak h) :)
  have r7:∀r',y7=.inl r'→∀st,mZ (x_1,a_2,a_3,a_4,a_5) r' st→(mZ (x_1,a_2,a_3,a_4,a_5) r) st:=fun r' e st hq=>r6 r' (hy71 r' e) st hq
  replace h:=hy7
  refine sp 17 h rfl ?_ ?_<;>intro h
  ·refine cq 6 [23] [B (x_1.Action==a_4)] 305 ?_
   obtain⟨y8,hy8,hy81,hy82⟩:=bL h
   have j8:∀u8,y8=.inr u8→Run xo 0 (mZ (x_1,a_2,a_3,a_4,a_5) r) (.code (cR (cR ES))::[]) (sT 28 [(6,B u8)] [] 1):=by
    intro u8 hu
    replace h:=hy82 u8 hu
    exact rf [6] [] (j7 _ (ak h) :)
   have r8:∀r',y8=.inl r'→∀st,mZ (x_1,a_2,a_3,a_4,a_5) r' st→(mZ (x_1,a_2,a_3,a_4,a_5) r) st:=fun r' e st hq=>r7 r' (hy81 r' e) st hq
   replace h:=hy8
   refine sp 23 h rfl ?_ ?_<;>intro h
   ·refine cq 2 [24,25] [.iptr (cD a_5) 0,ap x_1] 337 ?_
    obtain⟨r9,hr9,h⟩:=bS h
    refine oy 353 (B r9) rfl (cP (aet hr9)) ?_
    refine cq 3 [6] [B r9] 385 ?_
    exact rf [6] [] (j8 _ (ak h) :)
   ·refine cq 6 [6] [B false] 385 ?_
    exact rf [6] [] (j8 _ (ak h) :)
  ·refine cq 12 [6] [B false] 385 ?_
   exact rf [6] [] (j7 _ (ak h) :)
 ·refine cq 18 [6] [B false] 385 ?_
  exact rf [6] [] (j6 _ (ak h) :)
theorem TG {G:bZ}:bW G 111 B3:=gT 5 0 (aO TL bv) ca Tryz.func111 (fun a r h=>YN a.1 a.2.1 a.2.2.1 a.2.2.2.1 a.2.2.2.2 r h)
def Gs:((List Clause)×(Int×Int×ac×machine))→List V:=cA (fP ao) (oA (fun x:Int×Int×ac×machine=>(.fn 111 [.iptr (I x.1) 0,.iptr (I x.2.1) 0,.iptr (str x.2.2.1) 0,.iptr ((LB cD) x.2.2.2) 0]:V)))
def Gt (r:Int):V×List V:=(I r,[])
noncomputable def Da :=bf [false,false] Gs Gt fun x=>J1 x.1 x.2
theorem afW {s_1:List Clause}{f_2:Int×Int×ac×machine}{r}(h:J1 s_1 f_2=some r):Da.F (Gs (s_1,f_2))=some (Gt r):=aL (aH (bC cG) (aM (adC bd bd bx (eZ jd)))) h
noncomputable def VL :=aG Tryz.f110
noncomputable def Nz :=b9 [(111,B3)]
def VK (x:(List Clause)×(Int×Int×ac×machine))(r:Int):St→Prop:=QF Nz Tryz.f110 [false,false] (Gs x) (Gt r)
theorem PY (s_1:List Clause)(f_2:Int×Int×ac×machine):ct Nz 0 (VK (s_1,f_2)) (cL (cL (cR (cL (cR VL))))) 0 (uD s_1 f_2) (fun u=>(sT 19 [] [] 1)) fun x3=>(sT 19 [(0,.isl false (s_1.map ao)),(1,.fn 111 [.iptr (I f_2.1) 0,.iptr (I f_2.2.1) 0,.iptr (str f_2.2.2.1) 0,.iptr (.iptr (cD f_2.2.2.2) 0) 0]),(7,I (len s_1)),(8,I x3)] [] 1):=ez (AF s_1 f_2) fun {Q K} hK self ih x3 y h hr hn=>by
 unfold oc at h
 refine cq 5 [9] [B (decide (x3<(len s_1)))] 17 ?_
 refine sq h ?_ ?_<;>intro h
 ·refine aq 1 ?_
  refine cq 12 [5,11,12,13] [I x3,.fn 111 [.iptr (I f_2.1) 0,.iptr (I f_2.2.1) 0,.iptr (str f_2.2.2.1) 0,.iptr (.iptr (cD f_2.2.2.2) 0) 0],.isl false (s_1.map ao),I x3] 97 ?_
  obtain⟨e4,he4,h⟩:=bS h
  refine oq 113 (.iptr (ap e4) 0) rfl (al rfl rfl rfl (aW rfl rfl rfl rfl he4)) ?_
  refine cq 1 [15] [ap e4] 129 ?_
  obtain⟨r5,hr5,h⟩:=bS h
  refine oq 145 (B r5) rfl (cP (aep hr5)) ?_
  refine aq 1 ?_
  refine sq h ?_ ?_<;>intro h
  ·refine cq 5 [4] [I x3] 177 ?_
   exact ci rfl (hr _ (ak h) _ (qp [I x3]))
  ·refine aq 1 ?_
   refine cq 5 [8] [I (aj (x3+1))] 177 ?_
   refine dC ?_
   exact rf [0,1,7,8] [] (ih _ _ h hr hn :)
 ·refine aq 1 ?_
  exact rf [] [] (hn _ (ak h) :) (hk:=hK)
theorem ZI (s_1:List Clause)(f_2:Int×Int×ac×machine)(r:Int)(h:J1 s_1 f_2=some r):bq Nz Tryz.f110 [false,false] 0 (Gs (s_1,f_2)) (Gt r):=by
 show Run _ _ (VK (s_1,f_2) r) [.code VL] _
 refine rI 19 [(0,.isl false (s_1.map ao)),(1,.fn 111 [.iptr (I f_2.1) 0,.iptr (I f_2.2.1) 0,.iptr (str f_2.2.2.1) 0,.iptr (.iptr (cD f_2.2.2.2) 0) 0])] [] 1 ?_
 unfold J1 at h
 refine cq 8 [6] [.isl false (s_1.map ao)] 33 ?_
 refine oq 49 (I (len s_1)) rfl (bA rfl rfl rfl (bR rfl)) ?_
 refine cq 3 [8] [I (0)] 65 ?_
 obtain⟨y6,hy6,hy61,hy62⟩:=bJ h
 refine bV rfl ?_
 refine rf [0,1,7,8] [] (PY s_1 f_2 rfl 0 _ hy6 (fun r' e st hq=>by rw[hy61 r' e] at hq;exact hq) fun u6 hu=>?_)
 replace h:=hy62 u6 hu
 refine cq 4 [4] [I (-1)] 17 ?_
 obtain rfl:=sI h
 exact rP [I (-1)]
theorem VM {G:bZ}:bW G 110 Da:=gT 2 0 (aO TG bv) ca Tryz.func110 (fun a r h=>ZI a.1 a.2 r h)
def EN:(machine×Int×Int×ac)→List V:=cA (LB cD) (cA I (cA I (oA str)))
def EP (r:Int):V×List V:=(I r,[])
noncomputable def vP :=bf [false,false,false,false] EN EP fun x=>tL x.1 x.2.1 x.2.2.1 x.2.2.2
theorem EO {m_1:machine}{dG:Int}{aD:Int}{aE:ac}{r}(h:tL m_1 dG aD aE=some r):vP.F (EN (m_1,dG,aD,aE))=some (EP r):=aL (aH (eZ jd) (aH bd (aH bd (aM bx)))) h
noncomputable def aeo :=aG Tryz.f61
noncomputable def TF :=b9 [(110,Da)]
def aen (x:machine×Int×Int×ac)(r:Int):St→Prop:=QF TF Tryz.f61 [false,false,false,false] (EN x) (EP r)
theorem YM (m_1:machine)(dG:Int)(aD:Int)(aE:ac)(r:Int)(h:tL m_1 dG aD aE=some r):bq TF Tryz.f61 [false,false,false,false] 0 (EN (m_1,dG,aD,aE)) (EP r):=by
 show Run _ _ (aen (m_1,dG,aD,aE) r) [.code aeo] _
 refine rI 16 [(0,.iptr (cD m_1) 0),(1,I dG),(2,I aD),(3,str aE)] [] 1 ?_
 unfold tL at h
 refine ck 16 [13,14] [] [1,17,33,49] [] [.isl false (m_1.f_c.Clauses.map ao),.fn 111 [.hp 17 0 [] 1 0 0,.hp 33 0 [] 1 0 0,.hp 49 0 [] 1 0 0,.hp 1 0 [] 1 0 0]] [some ⟨0,1,[.iptr (cD m_1) 0]⟩,some ⟨0,1,[I dG]⟩,some ⟨0,1,[I aD]⟩,some ⟨0,1,[str aE]⟩] 177 (by kernel_rfl) ?_
 obtain⟨r5,hr5,h⟩:=bS h
 refine oq 193 (I r5) rfl (bM rfl rfl (b7 rfl rfl rfl (aR (bo rfl) (aR (mt (dZ (gV (path:=[]) rfl rfl aQ rfl rfl) (dZ (gV (path:=[]) rfl rfl aQ rfl rfl) (dZ (gV (path:=[]) rfl rfl aQ rfl rfl) (dZ (gV (path:=[]) rfl rfl aQ rfl rfl) ib))))) cS)) (afW hr5) (.inl rfl) dH rfl rfl rfl)) ?_
 refine cq 2 [8] [I r5] 209 ?_
 obtain rfl:=sI h
 exact rP [I r5]
theorem KZ {G:bZ}:bW G 61 vP:=gT 4 0 (aO VM bv) ca Tryz.func61 (fun a r h=>YM a.1 a.2.1 a.2.2.1 a.2.2.2 r h)
def ET:(machine×Int×ac)→List V:=cA (LB cD) (cA I (oA str))
def EU (r:Int):V×List V:=(I r,[])
noncomputable def B4 :=bf [false,false,false] ET EU fun x=>JN x.1 x.2.1 x.2.2
theorem aeq {m_1:machine}{eU:Int}{ew:ac}{r}(h:JN m_1 eU ew=some r):B4.F (ET (m_1,eU,ew))=some (EU r):=aL (aH (eZ jd) (aH bd (aM bx))) h
noncomputable def aes :=aG Tryz.f64
noncomputable def TH :=b9 [(61,vP)]
def aer (x:machine×Int×ac)(r:Int):St→Prop:=QF TH Tryz.f64 [false,false,false] (ET x) (EU r)
theorem YO (m_1:machine)(eU:Int)(ew:ac)(r:Int)(h:JN m_1 eU ew=some r):bq TH Tryz.f64 [false,false,false] 0 (ET (m_1,eU,ew)) (EU r):=by
 show Run _ _ (aer (m_1,eU,ew) r) [.code aes] _
 refine rI 16 [(0,.iptr (cD m_1) 0),(1,I eU),(2,str ew)] [] 1 ?_
 unfold JN at h
 refine cq 10 [7,8,9] [.iptr (cD m_1) 0,I eU,str ew] 65 ?_
 obtain⟨r4,hr4,h⟩:=bS h
 refine oq 81 (I r4) rfl (cP (EO hr4)) ?_
 refine cq 2 [11] [B (decide (r4≥0))] 97 ?_
 refine sq h ?_ ?_<;>intro h
 ·refine cq 4 [6] [I (-1)] 113 ?_
  obtain rfl:=sI h
  exact rP [I (-1)]
 ·refine aq 1 ?_
  refine cq 5 [12,13,14] [.iptr (cD m_1) 0,I eU,str ew] 145 ?_
  obtain⟨r5,hr5,h⟩:=bS h
  refine oq 161 (I r5) rfl (cP (EO hr5)) ?_
  refine cq 2 [6] [I r5] 177 ?_
  obtain rfl:=sI h
  exact rP [I r5]
theorem TJ {G:bZ}:bW G 64 B4:=gT 3 0 (aO KZ bv) ca Tryz.func64 (fun a r h=>YO a.1 a.2.1 a.2.2 r h)
def L7:(Contract×State×Int×ac)→List V:=cA aV (cA bT (cA I (oA str)))
def L9 (r:Int×Bool):V×List V:=(.tup [I r.1,B r.2],[])
noncomputable def JR :=bf [false,false,false,false] L7 L9 fun x=>Nk x.1 x.2.1 x.2.2.1 x.2.2.2
theorem ahl {c_1:Contract}{s_2:State}{aD:Int}{aE:ac}{r}(h:Nk c_1 s_2 aD aE=some r):JR.F (L7 (c_1,s_2,aD,aE))=some (L9 r):=aL (aH bc (aH cb (aH bd (aM bx)))) h
noncomputable def RT :=aG Tryz.f38
noncomputable def RS :=b9 [(68,BS),(60,B1),(70,Kq),(64,B4),(61,vP),(81,pU)]
def L8 (x:Contract×State×Int×ac)(r:Int×Bool):St→Prop:=QF RS Tryz.f38 [false,false,false,false] (L7 x) (L9 r)
theorem acC (c_1:Contract)(s_2:State)(aD:Int)(aE:ac)(r:Int×Bool)(h:Nk c_1 s_2 aD aE=some r):bq RS Tryz.f38 [false,false,false,false] 0 (L7 (c_1,s_2,aD,aE)) (L9 r):=by
 show Run _ _ (L8 (c_1,s_2,aD,aE) r) [.code RT] _
 refine rI 53 [(0,aa c_1),(1,ae s_2),(2,I aD),(3,str aE)] [] 1 ?_
 unfold Nk at h
 refine ck 15 [4,5,6,7,11,12,13] [] [1,17,33,49] [] [.hp 1 0 [] 2 0 0,.hp 17 0 [] 5 0 0,.hp 33 0 [] 1 0 0,.hp 49 0 [] 1 0 0,aa c_1,ae s_2,I aD] [some ⟨0,2,[aa c_1]⟩,some ⟨0,5,[ae s_2]⟩,some ⟨0,1,[I aD]⟩,some ⟨0,1,[str aE]⟩] 145 (by kernel_rfl) ?_
 refine oq 161 (.hs 145 0 [] 1 0 1) rfl (eB rfl (ka (f:=I) (xs:=[]) (z:=I (0)) (es:=[I aD]) (ws:=[I aD]) rfl rfl rfl (by decide) rfl (dR rfl) rfl)) ?_
 obtain⟨r5,hr5,h⟩:=bS h
 refine oq 177 (B r5) rfl (bM rfl rfl (b7 rfl rfl rfl (aR (bo rfl) (aR (bo rfl) (aR (BI rfl rfl (fT (f:=I) (g:=I) (xs:=[aD]) rfl rfl (bX nm))) cS))) (aea hr5) (.inl rfl) dH rfl rfl rfl)) ?_
 refine cq 2 [17] [B (!r5)] 209 ?_
 obtain⟨y6,hy6,hy61,hy62⟩:=bJ h
 have j6:∀u6,y6=.inr u6→Run RS 0 (L8 (c_1,s_2,aD,aE) r) (.code (cR (cL (cR RT)))::.code (cR (cR RT))::[]) (sT 53 [(4,.hp 1 0 [] 2 0 0),(5,.hp 2 0 [] 5 0 0),(6,.hp 3 0 [] 1 0 0),(7,.hp 4 0 [] 1 0 0),(21,B u6)] [⟨0,2,[aa c_1]⟩,⟨0,5,[ae s_2]⟩,⟨0,1,[I aD]⟩,⟨0,1,[str aE]⟩] 5):=by
  intro u6 hu
  replace h:=hy62 u6 hu
  refine sq h ?_ ?_<;>intro h
  ·refine cq 5 [8,9] [I (0),B false] 37 ?_
   obtain rfl:=sI h
   exact rP [I (0),B false]
  ·refine aq 1 ?_
   refine cq 4 [22,23] [aa c_1,ae s_2] 37 ?_
   obtain⟨r7,hr7,h⟩:=bS h
   refine oq 53 (.hp 37 0 [] 10 0 0) rfl (cP (aek hr7)) ?_
   refine cq 10 [10,25] [.hp 37 0 [] 10 0 0,B s_2.Over] 117 ?_
   refine sq h ?_ ?_<;>intro h
   ·refine cq 5 [8,9] [I (0),B true] 149 ?_
    obtain rfl:=sI h
    exact rP [I (0),B true]
   ·refine cq 5 [29,30,31] [aa c_1,ae s_2,.fn 82 [.hp 3 0 [] 1 0 0,.hp 4 0 [] 1 0 0]] 165 ?_
    obtain⟨r8,hr8,h⟩:=bS h
    refine oq 181 (.hs 165 0 [] 1 0 (r8.map I).length) rfl (bM rfl rfl (b7 rfl rfl rfl (aR (bo rfl) (aR (bo rfl) (aR (mt (dZ (gV (path:=[]) rfl rfl aQ rfl rfl) (dZ (gV (path:=[]) rfl rfl aQ rfl rfl) ib))) cS))) (ahA hr8) (.inl (by simp[dF,d9,str,wE (f:=I) Oq])) dH rfl rfl rfl)) ?_
    refine oq 197 (I (len r8)) rfl (bA rfl rfl rfl (rD (f:=I) (xs:=r8) rfl rfl)) ?_
    refine cq 3 [28] [B (decide ((len r8)>0))] 229 ?_
    refine sq h ?_ ?_<;>intro h
    ·refine cq 5 [8,9] [I (1),B true] 261 ?_
     obtain rfl:=sI h
     exact rP [I (1),B true]
    ·refine cq 5 [36,37,38] [.hp 37 0 [] 10 0 0,I aD,str aE] 277 ?_
     obtain⟨r9,hr9,h⟩:=bS h
     refine oq 293 (I r9) rfl (bM rfl rfl (b7 rfl rfl rfl (aR (BI rfl rfl (gV (path:=[]) rfl rfl aQ rfl (M1 (dN rfl (dN rfl (dN rfl (dN (jH (bX fy)) (dN (jH (bX gk)) (dN (jH (bX nm)) (dN rfl (dN (jH (bX fy)) (dN (jH (bX rd)) (dN rfl rfl))))))))))))) (aR (bo rfl) (aR (bo rfl) cS))) (aeq hr9) (.inl rfl) dH rfl rfl rfl)) ?_
     refine cq 3 [35] [B (decide (r9≥0))] 325 ?_
     refine sq h ?_ ?_<;>intro h
     ·refine cq 5 [8,9] [I (2),B true] 357 ?_
      obtain rfl:=sI h
      exact rP [I (2),B true]
     ·refine cq 5 [42,43,44] [.hp 37 0 [] 10 0 0,I aD,str aE] 373 ?_
      obtain⟨r10,hr10,h⟩:=bS h
      refine oq 389 (I r10) rfl (bM rfl rfl (b7 rfl rfl rfl (aR (BI rfl rfl (gV (path:=[]) rfl rfl aQ rfl (M1 (dN rfl (dN rfl (dN rfl (dN (jH (bX fy)) (dN (jH (bX gk)) (dN (jH (bX nm)) (dN rfl (dN (jH (bX fy)) (dN (jH (bX rd)) (dN rfl rfl))))))))))))) (aR (bo rfl) (aR (bo rfl) (aR (bo rfl) cS)))) (EO hr10) (.inl rfl) dH rfl rfl rfl)) ?_
      refine cq 3 [41] [B (decide (r10≥0))] 421 ?_
      refine sq h ?_ ?_<;>intro h
      ·refine cq 5 [8,9] [I (3),B true] 453 ?_
       obtain rfl:=sI h
       exact rP [I (3),B true]
      ·refine cq 5 [48,49,50] [.hp 37 0 [] 10 0 0,I aD,str aE] 469 ?_
       obtain⟨r11,hr11,h⟩:=bS h
       refine oq 485 (I r11) rfl (bM rfl rfl (b7 rfl rfl rfl (aR (BI rfl rfl (gV (path:=[]) rfl rfl aQ rfl (M1 (dN rfl (dN rfl (dN rfl (dN (jH (bX fy)) (dN (jH (bX gk)) (dN (jH (bX nm)) (dN rfl (dN (jH (bX fy)) (dN (jH (bX rd)) (dN rfl rfl))))))))))))) (aR (bo rfl) (aR (bo rfl) (aR (bo rfl) cS)))) (EO hr11) (.inl rfl) dH rfl rfl rfl)) ?_
       refine cq 3 [47] [B (decide (r11≥0))] 517 ?_
       refine sq h ?_ ?_<;>intro h
       ·refine cq 5 [8,9] [I (4),B true] 549 ?_
        obtain rfl:=sI h
        exact rP [I (4),B true]
       ·refine aq 1 ?_
        refine cq 6 [8,9] [I (0),B true] 549 ?_
        obtain rfl:=sI h
        exact rP [I (0),B true]
 have r6:∀r',y6=.inl r'→∀st,L8 (c_1,s_2,aD,aE) r' st→(L8 (c_1,s_2,aD,aE) r) st:=fun r' e st hq=>by rw[hy61 r' e] at hq;exact hq
 replace h:=hy6
 refine sp 17 h rfl ?_ ?_<;>intro h
 ·refine cq 5 [21] [B true] 273 ?_
  exact rf [4,5,6,7,21] [1,17,33,49] (j6 _ (ak h) :)
 ·refine cq 1 [18] [str aE] 225 ?_
  obtain⟨r12,hr12,h⟩:=bS h
  refine oy 241 (B r12) rfl (cP (zI hr12)) ?_
  refine cq 3 [21] [B (!r12)] 273 ?_
  exact rf [4,5,6,7,21] [1,17,33,49] (j6 _ (ak h) :)
theorem Y9 {G:bZ}:bW G 38 JR:=gT 4 0 (aO Tw (aO TE (aO aaF (aO TJ (aO KZ (aO su bv)))))) ca Tryz.func38 (fun a r h=>acC a.1 a.2.1 a.2.2.1 a.2.2.2 r h)
def Fp:((List ac)×(List ac))→List V:=cA (fP str) (oA (fP str))
def Fq (r:Bool):V×List V:=(B r,[])
noncomputable def vQ :=bf [false,false] Fp Fq fun x=>xy x.1 x.2
theorem Uv {a_1:List ac}{b_2:List ac}{r}(h:xy a_1 b_2=some r):vQ.F (Fp (a_1,b_2))=some (Fq r):=aL (aH (bC bx) (aM (bC bx))) h
noncomputable def Ux :=aG Tryz.f49
noncomputable def Nj :=b9 []
def Uw (x:(List ac)×(List ac))(r:Bool):St→Prop:=QF Nj Tryz.f49 [false,false] (Fp x) (Fq r)
theorem PL (a_1:List ac)(b_2:List ac):ct Nj 0 (Uw (a_1,b_2)) (cL (cL (cR (cL (cR (cR Ux)))))) 0 (un a_1 b_2) (fun u=>(sT 26 [] [] 1)) fun x3=>(sT 26 [(0,.isl false (a_1.map str)),(1,.isl false (b_2.map str)),(5,I x3)] [] 1):=ez (Ao a_1 b_2) fun {Q K} hK self ih x3 y h hr hn=>by
 unfold nT at h
 refine cq 5 [11,12] [I x3,.isl false (a_1.map str)] 33 ?_
 refine oq 49 (I (len a_1)) rfl (bA rfl rfl rfl (bR rfl)) ?_
 refine cq 2 [14] [B (decide (x3<(len a_1)))] 65 ?_
 refine sq h ?_ ?_<;>intro h
 ·refine aq 1 ?_
  refine aq 3 ?_
  refine dV [0,0,3,7,0,0,48,112,255] rfl (by decide +kernel) ?_
  refine dk 2 [18,17] [I x3,.isl false (a_1.map str)] ?_
  obtain⟨e4,he4,h⟩:=bS h
  refine dq [] [] (.iptr (str e4) 0) rfl (al rfl rfl rfl (aW rfl rfl rfl rfl he4)) ?_
  refine dq [] [] (str e4) rfl (aU rfl rfl) ?_
  refine dk 2 [22,21] [I x3,.isl false (b_2.map str)] ?_
  obtain⟨e5,he5,h⟩:=bS h
  refine dq [] [] (.iptr (str e5) 0) rfl (al rfl rfl rfl (aW rfl rfl rfl rfl he5)) ?_
  refine dq [] [] (str e5) rfl (aU rfl rfl) ?_
  refine dk 1 [25] [B (!(e4==e5))] ?_
  refine de 209 rfl rfl ?_
  refine sq h ?_ ?_<;>intro h
  ·refine cq 4 [4] [B false] 225 ?_
   exact ci rfl (hr _ (ak h) _ (qp [B false]))
  ·refine aq 1 ?_
   refine cq 6 [5] [I (aj (x3+1))] 257 ?_
   refine dC ?_
   exact rf [0,1,5] [] (ih _ _ h hr hn :)
 ·refine aq 1 ?_
  exact rf [] [] (hn _ (ak h) :) (hk:=hK)
theorem Y7 (a_1:List ac)(b_2:List ac)(r:Bool)(h:xy a_1 b_2=some r):bq Nj Tryz.f49 [false,false] 0 (Fp (a_1,b_2)) (Fq r):=by
 show Run _ _ (Uw (a_1,b_2) r) [.code Ux] _
 refine rI 26 [(0,.isl false (a_1.map str)),(1,.isl false (b_2.map str))] [] 1 ?_
 unfold xy at h
 refine cq 8 [6] [.isl false (a_1.map str)] 33 ?_
 refine oq 49 (I (len a_1)) rfl (bA rfl rfl rfl (bR rfl)) ?_
 refine cq 1 [8] [.isl false (b_2.map str)] 65 ?_
 refine oq 81 (I (len b_2)) rfl (bA rfl rfl rfl (bR rfl)) ?_
 refine cq 2 [10] [B ((len a_1) != (len b_2))] 97 ?_
 refine sq h ?_ ?_<;>intro h
 ·refine cq 4 [4] [B false] 113 ?_
  obtain rfl:=sI h
  exact rP [B false]
 ·refine aq 1 ?_
  refine cq 6 [5] [I (0)] 113 ?_
  obtain⟨y6,hy6,hy61,hy62⟩:=bJ h
  refine bV rfl ?_
  refine rf [0,1,5] [] (PL a_1 b_2 rfl 0 _ hy6 (fun r' e st hq=>by rw[hy61 r' e] at hq;exact hq) fun u6 hu=>?_)
  replace h:=hy62 u6 hu
  refine cq 4 [4] [B true] 17 ?_
  obtain rfl:=sI h
  exact rP [B true]
theorem K0 {G:bZ}:bW G 49 vQ:=gT 2 0 bv ca Tryz.func49 (fun a r h=>Y7 a.1 a.2 r h)
def xr:(Condition×Condition)→List V:=cA bD (oA bD)
def xt (r:Bool):V×List V:=(B r,[])
noncomputable def sZ (bB:(Condition×Condition)→Option Bool):Ent:=bf [false,false] xr xt bB
theorem JQ (bB:(Condition×Condition)→Option Bool){x}{r}(h:bB x=some r):(sZ bB).F (xr x)=some (xt r):=aL (aH dt (aM dt)) h
def Fd:((List Condition)×(List Condition))→List V:=cA (fP aB) (oA (fP aB))
def Fe (r:Bool):V×List V:=(B r,[])
noncomputable def Cj (bB:(Condition×Condition)→Option Bool):Ent:=bf [false,false] Fd Fe fun x=>xu bB x.1 x.2
theorem aeM (bB:(Condition×Condition)→Option Bool){a_1:List Condition}{b_2:List Condition}{r}(h:xu bB a_1 b_2=some r):(Cj bB).F (Fd (a_1,b_2))=some (Fe r):=aL (aH (bC f6) (aM (bC f6))) h
noncomputable def Uc :=aG Tryz.f179
noncomputable def Ng (bB:(Condition×Condition)→Option Bool):Env:=b9 [(148,(sZ bB))]
def Ub (bB:(Condition×Condition)→Option Bool)(x:(List Condition)×(List Condition))(r:Bool):St→Prop:=QF (Ng bB) Tryz.f179 [false,false] (Fd x) (Fe r)
theorem PI (bB:(Condition×Condition)→Option Bool)(a_1:List Condition)(b_2:List Condition):ct (Ng bB) 0 (Ub bB (a_1,b_2)) (cL (cL (cR (cL (cR (cR Uc)))))) 0 (rR bB a_1 b_2) (fun u=>(sT 27 [] [] 1)) fun x3=>(sT 27 [(0,.isl false (a_1.map aB)),(1,.isl false (b_2.map aB)),(5,I x3)] [] 1):=ez (Al bB a_1 b_2) fun {Q K} hK self ih x3 y h hr hn=>by
 unfold lR at h
 refine cq 5 [11,12] [I x3,.isl false (a_1.map aB)] 33 ?_
 refine oq 49 (I (len a_1)) rfl (bA rfl rfl rfl (bR rfl)) ?_
 refine cq 2 [14] [B (decide (x3<(len a_1)))] 65 ?_
 refine sq h ?_ ?_<;>intro h
 ·refine aq 1 ?_
  refine aq 3 ?_
  refine dV [0,0,3,7,0,0,48,112,255,511] rfl (by decide +kernel) ?_
  refine dk 2 [18,17] [I x3,.isl false (a_1.map aB)] ?_
  obtain⟨e4,he4,h⟩:=bS h
  refine dq [] [] (.iptr (ai e4) 0) rfl (al rfl rfl rfl (aW rfl rfl (bU e4) rfl he4)) ?_
  refine dq [] [] (ai e4) rfl (aU rfl rfl) ?_
  refine dk 2 [22,21] [I x3,.isl false (b_2.map aB)] ?_
  obtain⟨e5,he5,h⟩:=bS h
  refine dq [] [] (.iptr (ai e5) 0) rfl (al rfl rfl rfl (aW rfl rfl (bU e5) rfl he5)) ?_
  refine dq [] [] (ai e5) rfl (aU rfl rfl) ?_
  obtain⟨r6,hr6,h⟩:=bS h
  refine dq [] [] (B r6) rfl (bM rfl rfl (b7 rfl rfl rfl (aR (bo rfl) (aR (bo rfl) cS)) (JQ bB hr6) (.inr rfl) dH rfl rfl rfl)) ?_ (dK rfl rfl rfl rfl (aR (bo rfl) (aR (bo rfl) cS)) (JQ bB hr6) (.inr rfl) rfl)
  refine dk 1 [26] [B (!r6)] ?_
  refine de 225 rfl rfl ?_
  refine sq h ?_ ?_<;>intro h
  ·refine cq 4 [4] [B false] 241 ?_
   exact ci rfl (hr _ (ak h) _ (qp [B false]))
  ·refine aq 1 ?_
   refine cq 6 [5] [I (aj (x3+1))] 273 ?_
   refine dC ?_
   exact rf [0,1,5] [] (ih _ _ h hr hn :)
 ·refine aq 1 ?_
  exact rf [] [] (hn _ (ak h) :) (hk:=hK)
theorem Y1 (bB:(Condition×Condition)→Option Bool)(a_1:List Condition)(b_2:List Condition)(r:Bool)(h:xu bB a_1 b_2=some r):bq (Ng bB) Tryz.f179 [false,false] 0 (Fd (a_1,b_2)) (Fe r):=by
 show Run _ _ (Ub bB (a_1,b_2) r) [.code Uc] _
 refine rI 27 [(0,.isl false (a_1.map aB)),(1,.isl false (b_2.map aB))] [] 1 ?_
 unfold xu at h
 refine cq 8 [6] [.isl false (a_1.map aB)] 33 ?_
 refine oq 49 (I (len a_1)) rfl (bA rfl rfl rfl (bR rfl)) ?_
 refine cq 1 [8] [.isl false (b_2.map aB)] 65 ?_
 refine oq 81 (I (len b_2)) rfl (bA rfl rfl rfl (bR rfl)) ?_
 refine cq 2 [10] [B ((len a_1) != (len b_2))] 97 ?_
 refine sq h ?_ ?_<;>intro h
 ·refine cq 4 [4] [B false] 113 ?_
  obtain rfl:=sI h
  exact rP [B false]
 ·refine aq 1 ?_
  refine cq 6 [5] [I (0)] 113 ?_
  obtain⟨y7,hy7,hy71,hy72⟩:=bJ h
  refine bV rfl ?_
  refine rf [0,1,5] [] (PI bB a_1 b_2 rfl 0 _ hy7 (fun r' e st hq=>by rw[hy71 r' e] at hq;exact hq) fun u7 hu=>?_)
  replace h:=hy72 u7 hu
  refine cq 4 [4] [B true] 17 ?_
  obtain rfl:=sI h
  exact rP [B true]
theorem Ud {G:bZ}(bB:(Condition×Condition)→Option Bool)(OU:bW G 148 (sZ bB)):bW G 179 (Cj bB):=gT 2 0 (aO OU bv) ca Tryz.func179 (fun a r h=>Y1 bB a.1 a.2 r h)
noncomputable def Ci :=sZ (aN qB)
theorem aeJ {a_1:Condition}{b_2:Condition}{r}(h:Cg a_1 b_2=some r):Ci.F (xr (a_1,b_2))=some (xt r):=JQ (aN qB) h
noncomputable def aeL :=aG Tryz.f148
noncomputable def T9 (bB:(Condition×Condition)→Option Bool):Env:=b9 [(179,(Cj bB))]
def aeK (bB:(Condition×Condition)→Option Bool)(x:Condition×Condition)(r:Bool):St→Prop:=QF (T9 bB) Tryz.f148 [false,false] (xr x) (xt r)
theorem Y0 (bB:(Condition×Condition)→Option Bool)(a_1:Condition)(b_2:Condition)(r:Bool)(h:uk bB a_1 b_2=some r):bq (T9 bB) Tryz.f148 [false,false] 0 (xr (a_1,b_2)) (xt r):=by
 show Run _ _ (aeK bB (a_1,b_2) r) [.code aeL] _
 refine rI 26 [(0,ai a_1),(1,ai b_2)] [] 1 ?_
 unfold uk at h
 refine ck 15 [2,3,9] [] [1,17] [] [.hp 1 0 [] 4 0 0,.hp 17 0 [] 4 0 0,B (a_1.Op != b_2.Op)] [some ⟨0,4,[ai a_1]⟩,some ⟨0,4,[ai b_2]⟩] 129 (by kernel_rfl) ?_
 refine sq h ?_ ?_<;>intro h
 ·refine cq 4 [4] [B false] 145 ?_
  obtain rfl:=sI h
  exact rP [B false]
 ·refine aq 1 ?_
  refine cq 9 [14] [B (!(a_1.Name==b_2.Name))] 209 ?_
  refine sq h ?_ ?_<;>intro h
  ·refine cq 4 [4] [B false] 225 ?_
   obtain rfl:=sI h
   exact rP [B false]
  ·refine aq 1 ?_
   refine cq 9 [19] [B (a_1.Day != b_2.Day)] 289 ?_
   refine sq h ?_ ?_<;>intro h
   ·refine cq 4 [4] [B false] 305 ?_
    obtain rfl:=sI h
    exact rP [B false]
   ·refine aq 1 ?_
    refine cq 7 [21,23] [.isl false (a_1.Parts.map aB),.isl false (b_2.Parts.map aB)] 353 ?_
    obtain⟨r3,hr3,h⟩:=bS h
    refine oq 369 (B r3) rfl (bM rfl rfl (b7 rfl rfl rfl (aR (bo rfl) (aR (bo rfl) cS)) (aeM bB hr3) (.inr rfl) dH rfl rfl rfl)) ?_
    refine cq 2 [25] [B (!r3)] 385 ?_
    refine sq h ?_ ?_<;>intro h
    ·refine cq 4 [4] [B false] 401 ?_
     obtain rfl:=sI h
     exact rP [B false]
    ·refine aq 1 ?_
     refine cq 4 [4] [B true] 401 ?_
     obtain rfl:=sI h
     exact rP [B true]
theorem Ua {G:bZ}:bW G 148 Ci:=jg fun bB OU=>gT 2 0 (aO (Ud bB OU) bv) ca Tryz.func148 (fun a r h=>Y0 bB a.1 a.2 r h)
def E9:(Clause×Clause)→List V:=cA ao (oA ao)
def Fa (r:Bool):V×List V:=(B r,[])
noncomputable def Cd :=bf [false,false] E9 Fa fun x=>xq x.1 x.2
theorem T4 {a_1:Clause}{b_2:Clause}{r}(h:xq a_1 b_2=some r):Cd.F (E9 (a_1,b_2))=some (Fa r):=aL (aH cG (aM cG)) h
noncomputable def aeH :=aG Tryz.f104
noncomputable def T3 :=b9 [(148,Ci)]
def aeG (x:Clause×Clause)(r:Bool):St→Prop:=QF T3 Tryz.f104 [false,false] (E9 x) (Fa r)
theorem YX (a_1:Clause)(b_2:Clause)(r:Bool)(h:xq a_1 b_2=some r):bq T3 Tryz.f104 [false,false] 0 (E9 (a_1,b_2)) (Fa r):=by
 show Run _ _ (aeG (a_1,b_2) r) [.code aeH] _
 refine rI 51 [(0,ap a_1),(1,ap b_2)] [] 1 ?_
 unfold xq at h
 refine ck 15 [2,3,9] [] [1,17] [] [.hp 1 0 [] 12 0 0,.hp 17 0 [] 12 0 0,B (!(a_1.Id==b_2.Id))] [some ⟨0,12,[ap a_1]⟩,some ⟨0,12,[ap b_2]⟩] 129 (by kernel_rfl) ?_
 refine sq h ?_ ?_<;>intro h
 ·refine cq 4 [4] [B false] 145 ?_
  obtain rfl:=sI h
  exact rP [B false]
 ·refine aq 1 ?_
  refine cq 9 [14] [B (a_1.Kind != b_2.Kind)] 209 ?_
  refine sq h ?_ ?_<;>intro h
  ·refine cq 4 [4] [B false] 225 ?_
   obtain rfl:=sI h
   exact rP [B false]
  ·refine aq 1 ?_
   refine cq 9 [19] [B (a_1.Party != b_2.Party)] 289 ?_
   refine sq h ?_ ?_<;>intro h
   ·refine cq 4 [4] [B false] 305 ?_
    obtain rfl:=sI h
    exact rP [B false]
   ·refine aq 1 ?_
    refine cq 9 [24] [B (!(a_1.Action==b_2.Action))] 369 ?_
    refine sq h ?_ ?_<;>intro h
    ·refine cq 4 [4] [B false] 385 ?_
     obtain rfl:=sI h
     exact rP [B false]
    ·refine aq 1 ?_
     refine cq 9 [29] [B (a_1.Other != b_2.Other)] 449 ?_
     refine sq h ?_ ?_<;>intro h
     ·refine cq 4 [4] [B false] 465 ?_
      obtain rfl:=sI h
      exact rP [B false]
     ·refine aq 1 ?_
      refine cq 9 [34] [B (a_1.Amount != b_2.Amount)] 529 ?_
      refine sq h ?_ ?_<;>intro h
      ·refine cq 4 [4] [B false] 545 ?_
       obtain rfl:=sI h
       exact rP [B false]
      ·refine aq 1 ?_
       refine cq 7 [36,38] [ai a_1.When,ai b_2.When] 593 ?_
       obtain⟨r3,hr3,h⟩:=bS h
       refine oq 609 (B r3) rfl (cP (aeJ hr3)) ?_
       refine cq 2 [40] [B (!r3)] 625 ?_
       refine sq h ?_ ?_<;>intro h
       ·refine cq 4 [4] [B false] 641 ?_
        obtain rfl:=sI h
        exact rP [B false]
       ·refine aq 1 ?_
        refine cq 9 [45] [B (a_1.Within != b_2.Within)] 705 ?_
        refine sq h ?_ ?_<;>intro h
        ·refine cq 4 [4] [B false] 721 ?_
         obtain rfl:=sI h
         exact rP [B false]
        ·refine aq 1 ?_
         refine cq 9 [50] [B (!(a_1.Repair==b_2.Repair))] 785 ?_
         refine sq h ?_ ?_<;>intro h
         ·refine cq 4 [4] [B false] 801 ?_
          obtain rfl:=sI h
          exact rP [B false]
         ·refine aq 1 ?_
          refine cq 4 [4] [B true] 801 ?_
          obtain rfl:=sI h
          exact rP [B true]
theorem T5 {G:bZ}:bW G 104 Cd:=gT 2 0 (aO Ua bv) ca Tryz.func104 (fun a r h=>YX a.1 a.2 r h)
def Fb:((List Clause)×(List Clause))→List V:=cA (fP ao) (oA (fP ao))
def Fc (r:Bool):V×List V:=(B r,[])
noncomputable def Cf :=bf [false,false] Fb Fc fun x=>Ce x.1 x.2
theorem aeI {a_1:List Clause}{b_2:List Clause}{r}(h:Ce a_1 b_2=some r):Cf.F (Fb (a_1,b_2))=some (Fc r):=aL (aH (bC cG) (aM (bC cG))) h
noncomputable def T7 :=aG Tryz.f50
noncomputable def Nf :=b9 [(104,Cd)]
def T6 (x:(List Clause)×(List Clause))(r:Bool):St→Prop:=QF Nf Tryz.f50 [false,false] (Fb x) (Fc r)
theorem PH (a_1:List Clause)(b_2:List Clause):ct Nf 0 (T6 (a_1,b_2)) (cL (cL (cR (cL (cR (cR T7)))))) 0 (uj a_1 b_2) (fun u=>(sT 27 [] [] 1)) fun x3=>(sT 27 [(0,.isl false (a_1.map ao)),(1,.isl false (b_2.map ao)),(5,I x3)] [] 1):=ez (Ak a_1 b_2) fun {Q K} hK self ih x3 y h hr hn=>by
 unfold nQ at h
 refine cq 5 [11,12] [I x3,.isl false (a_1.map ao)] 33 ?_
 refine oq 49 (I (len a_1)) rfl (bA rfl rfl rfl (bR rfl)) ?_
 refine cq 2 [14] [B (decide (x3<(len a_1)))] 65 ?_
 refine sq h ?_ ?_<;>intro h
 ·refine aq 1 ?_
  refine aq 3 ?_
  refine dV [0,0,3,7,0,0,48,112,255,511] rfl (by decide +kernel) ?_
  refine dk 2 [18,17] [I x3,.isl false (a_1.map ao)] ?_
  obtain⟨e4,he4,h⟩:=bS h
  refine dq [] [] (.iptr (ap e4) 0) rfl (al rfl rfl rfl (aW rfl rfl rfl rfl he4)) ?_
  refine dq [] [] (ap e4) rfl (aU rfl rfl) ?_
  refine dk 2 [22,21] [I x3,.isl false (b_2.map ao)] ?_
  obtain⟨e5,he5,h⟩:=bS h
  refine dq [] [] (.iptr (ap e5) 0) rfl (al rfl rfl rfl (aW rfl rfl rfl rfl he5)) ?_
  refine dq [] [] (ap e5) rfl (aU rfl rfl) ?_
  obtain⟨r6,hr6,h⟩:=bS h
  refine dq [] [] (B r6) rfl (cP (T4 hr6)) ?_ (dK rfl rfl rfl rfl (aR (bo rfl) (aR (bo rfl) cS)) (T4 hr6) (.inr rfl) rfl)
  refine dk 1 [26] [B (!r6)] ?_
  refine de 225 rfl rfl ?_
  refine sq h ?_ ?_<;>intro h
  ·refine cq 4 [4] [B false] 241 ?_
   exact ci rfl (hr _ (ak h) _ (qp [B false]))
  ·refine aq 1 ?_
   refine cq 6 [5] [I (aj (x3+1))] 273 ?_
   refine dC ?_
   exact rf [0,1,5] [] (ih _ _ h hr hn :)
 ·refine aq 1 ?_
  exact rf [] [] (hn _ (ak h) :) (hk:=hK)
theorem YY (a_1:List Clause)(b_2:List Clause)(r:Bool)(h:Ce a_1 b_2=some r):bq Nf Tryz.f50 [false,false] 0 (Fb (a_1,b_2)) (Fc r):=by
 show Run _ _ (T6 (a_1,b_2) r) [.code T7] _
 refine rI 27 [(0,.isl false (a_1.map ao)),(1,.isl false (b_2.map ao))] [] 1 ?_
 unfold Ce at h
 refine cq 8 [6] [.isl false (a_1.map ao)] 33 ?_
 refine oq 49 (I (len a_1)) rfl (bA rfl rfl rfl (bR rfl)) ?_
 refine cq 1 [8] [.isl false (b_2.map ao)] 65 ?_
 refine oq 81 (I (len b_2)) rfl (bA rfl rfl rfl (bR rfl)) ?_
 refine cq 2 [10] [B ((len a_1) != (len b_2))] 97 ?_
 refine sq h ?_ ?_<;>intro h
 ·refine cq 4 [4] [B false] 113 ?_
  obtain rfl:=sI h
  exact rP [B false]
 ·refine aq 1 ?_
  refine cq 6 [5] [I (0)] 113 ?_
  obtain⟨y7,hy7,hy71,hy72⟩:=bJ h
  refine bV rfl ?_
  refine rf [0,1,5] [] (PH a_1 b_2 rfl 0 _ hy7 (fun r' e st hq=>by rw[hy71 r' e] at hq;exact hq) fun u7 hu=>?_)
  replace h:=hy72 u7 hu
  refine cq 4 [4] [B true] 17 ?_
  obtain rfl:=sI h
  exact rP [B true]
theorem T8 {G:bZ}:bW G 50 Cf:=gT 2 0 (aO T5 bv) ca Tryz.func50 (fun a r h=>YY a.1 a.2 r h)
def Ff:(Contract×Contract)→List V:=cA aV (oA aV)
def Fg (r:Bool):V×List V:=(B r,[])
noncomputable def Cl :=bf [false,false] Ff Fg fun x=>Ck x.1 x.2
theorem Uf {a_1:Contract}{b_2:Contract}{r}(h:Ck a_1 b_2=some r):Cl.F (Ff (a_1,b_2))=some (Fg r):=aL (aH bc (aM bc)) h
noncomputable def aeO :=aG Tryz.f17
noncomputable def Ue :=b9 [(49,vQ),(50,Cf)]
def aeN (x:Contract×Contract)(r:Bool):St→Prop:=QF Ue Tryz.f17 [false,false] (Ff x) (Fg r)
theorem Y2 (a_1:Contract)(b_2:Contract)(r:Bool)(h:Ck a_1 b_2=some r):bq Ue Tryz.f17 [false,false] 0 (Ff (a_1,b_2)) (Fg r):=by
 show Run _ _ (aeN (a_1,b_2) r) [.code aeO] _
 refine rI 17 [(0,aa a_1),(1,aa b_2)] [] 1 ?_
 unfold Ck at h
 refine ck 13 [2,3,6,8] [] [1,17] [] [.hp 1 0 [] 2 0 0,.hp 17 0 [] 2 0 0,.isl false (a_1.Parties.map str),.isl false (b_2.Parties.map str)] [some ⟨0,2,[aa a_1]⟩,some ⟨0,2,[aa b_2]⟩] 113 (by kernel_rfl) ?_
 obtain⟨r3,hr3,h⟩:=bS h
 refine oq 129 (B r3) rfl (cP (Uv hr3)) ?_
 refine cq 2 [10] [B (!r3)] 145 ?_
 refine sq h ?_ ?_<;>intro h
 ·refine cq 4 [4] [B false] 161 ?_
  obtain rfl:=sI h
  exact rP [B false]
 ·refine aq 1 ?_
  refine cq 7 [12,14] [.isl false (a_1.Clauses.map ao),.isl false (b_2.Clauses.map ao)] 209 ?_
  obtain⟨r4,hr4,h⟩:=bS h
  refine oq 225 (B r4) rfl (cP (aeI hr4)) ?_
  refine cq 2 [16] [B (!r4)] 241 ?_
  refine sq h ?_ ?_<;>intro h
  ·refine cq 4 [4] [B false] 257 ?_
   obtain rfl:=sI h
   exact rP [B false]
  ·refine aq 1 ?_
   refine cq 4 [4] [B true] 257 ?_
   obtain rfl:=sI h
   exact rP [B true]
theorem Ug {G:bZ}:bW G 17 Cl:=gT 2 0 (aO K0 (aO T8 bv)) ca Tryz.func17 (fun a r h=>Y2 a.1 a.2 r h)
def Fh:(Duty×Duty)→List V:=cA ah (oA ah)
def Fi (r:Bool):V×List V:=(B r,[])
noncomputable def Cm :=bf [false,false] Fh Fi fun x=>xw x.1 x.2
theorem Ui {a_1:Duty}{b_2:Duty}{r}(h:xw a_1 b_2=some r):Cm.F (Fh (a_1,b_2))=some (Fi r):=aL (aH ec (aM ec)) h
noncomputable def aeQ :=aG Tryz.f113
noncomputable def Uh :=b9 []
def aeP (x:Duty×Duty)(r:Bool):St→Prop:=QF Uh Tryz.f113 [false,false] (Fh x) (Fi r)
theorem Y3 (a_1:Duty)(b_2:Duty)(r:Bool)(h:xw a_1 b_2=some r):bq Uh Tryz.f113 [false,false] 0 (Fh (a_1,b_2)) (Fi r):=by
 show Run _ _ (aeP (a_1,b_2) r) [.code aeQ] _
 refine rI 25 [(0,ah a_1),(1,ah b_2)] [] 1 ?_
 unfold xw at h
 refine ck 15 [2,3,9] [] [1,17] [] [.hp 1 0 [] 4 0 0,.hp 17 0 [] 4 0 0,B (a_1.Clause != b_2.Clause)] [some ⟨0,4,[ah a_1]⟩,some ⟨0,4,[ah b_2]⟩] 129 (by kernel_rfl) ?_
 refine sq h ?_ ?_<;>intro h
 ·refine cq 4 [4] [B false] 145 ?_
  obtain rfl:=sI h
  exact rP [B false]
 ·refine aq 1 ?_
  refine cq 9 [14] [B (a_1.Since != b_2.Since)] 209 ?_
  refine sq h ?_ ?_<;>intro h
  ·refine cq 4 [4] [B false] 225 ?_
   obtain rfl:=sI h
   exact rP [B false]
  ·refine aq 1 ?_
   refine cq 9 [19] [B (a_1.Due != b_2.Due)] 289 ?_
   refine sq h ?_ ?_<;>intro h
   ·refine cq 4 [4] [B false] 305 ?_
    obtain rfl:=sI h
    exact rP [B false]
   ·refine aq 1 ?_
    refine cq 9 [24] [B (a_1.Status != b_2.Status)] 369 ?_
    refine sq h ?_ ?_<;>intro h
    ·refine cq 4 [4] [B false] 385 ?_
     obtain rfl:=sI h
     exact rP [B false]
    ·refine aq 1 ?_
     refine cq 4 [4] [B true] 385 ?_
     obtain rfl:=sI h
     exact rP [B true]
theorem Uj {G:bZ}:bW G 113 Cm:=gT 2 0 bv ca Tryz.func113 (fun a r h=>Y3 a.1 a.2 r h)
def Fj:((List Duty)×(List Duty))→List V:=cA (fP ah) (oA (fP ah))
def Fk (r:Bool):V×List V:=(B r,[])
noncomputable def Co :=bf [false,false] Fj Fk fun x=>Cn x.1 x.2
theorem aeR {a_1:List Duty}{b_2:List Duty}{r}(h:Cn a_1 b_2=some r):Co.F (Fj (a_1,b_2))=some (Fk r):=aL (aH (bC ec) (aM (bC ec))) h
noncomputable def Ul :=aG Tryz.f62
noncomputable def Nh :=b9 [(113,Cm)]
def Uk (x:(List Duty)×(List Duty))(r:Bool):St→Prop:=QF Nh Tryz.f62 [false,false] (Fj x) (Fk r)
theorem PJ (a_1:List Duty)(b_2:List Duty):ct Nh 0 (Uk (a_1,b_2)) (cL (cL (cR (cL (cR (cR Ul)))))) 0 (ul a_1 b_2) (fun u=>(sT 27 [] [] 1)) fun x3=>(sT 27 [(0,.isl false (a_1.map ah)),(1,.isl false (b_2.map ah)),(5,I x3)] [] 1):=ez (Am a_1 b_2) fun {Q K} hK self ih x3 y h hr hn=>by
 unfold nR at h
 refine cq 5 [11,12] [I x3,.isl false (a_1.map ah)] 33 ?_
 refine oq 49 (I (len a_1)) rfl (bA rfl rfl rfl (bR rfl)) ?_
 refine cq 2 [14] [B (decide (x3<(len a_1)))] 65 ?_
 refine sq h ?_ ?_<;>intro h
 ·refine aq 1 ?_
  refine aq 3 ?_
  refine dV [0,0,3,7,0,0,48,112,255,511] rfl (by decide +kernel) ?_
  refine dk 2 [18,17] [I x3,.isl false (a_1.map ah)] ?_
  obtain⟨e4,he4,h⟩:=bS h
  refine dq [] [] (.iptr (ah e4) 0) rfl (al rfl rfl rfl (aW rfl rfl rfl rfl he4)) ?_
  refine dq [] [] (ah e4) rfl (aU rfl rfl) ?_
  refine dk 2 [22,21] [I x3,.isl false (b_2.map ah)] ?_
  obtain⟨e5,he5,h⟩:=bS h
  refine dq [] [] (.iptr (ah e5) 0) rfl (al rfl rfl rfl (aW rfl rfl rfl rfl he5)) ?_
  refine dq [] [] (ah e5) rfl (aU rfl rfl) ?_
  obtain⟨r6,hr6,h⟩:=bS h
  refine dq [] [] (B r6) rfl (cP (Ui hr6)) ?_ (dK rfl rfl rfl rfl (aR (bo rfl) (aR (bo rfl) cS)) (Ui hr6) (.inr rfl) rfl)
  refine dk 1 [26] [B (!r6)] ?_
  refine de 225 rfl rfl ?_
  refine sq h ?_ ?_<;>intro h
  ·refine cq 4 [4] [B false] 241 ?_
   exact ci rfl (hr _ (ak h) _ (qp [B false]))
  ·refine aq 1 ?_
   refine cq 6 [5] [I (aj (x3+1))] 273 ?_
   refine dC ?_
   exact rf [0,1,5] [] (ih _ _ h hr hn :)
 ·refine aq 1 ?_
  exact rf [] [] (hn _ (ak h) :) (hk:=hK)
theorem Y4 (a_1:List Duty)(b_2:List Duty)(r:Bool)(h:Cn a_1 b_2=some r):bq Nh Tryz.f62 [false,false] 0 (Fj (a_1,b_2)) (Fk r):=by
 show Run _ _ (Uk (a_1,b_2) r) [.code Ul] _
 refine rI 27 [(0,.isl false (a_1.map ah)),(1,.isl false (b_2.map ah))] [] 1 ?_
 unfold Cn at h
 refine cq 8 [6] [.isl false (a_1.map ah)] 33 ?_
 refine oq 49 (I (len a_1)) rfl (bA rfl rfl rfl (bR rfl)) ?_
 refine cq 1 [8] [.isl false (b_2.map ah)] 65 ?_
 refine oq 81 (I (len b_2)) rfl (bA rfl rfl rfl (bR rfl)) ?_
 refine cq 2 [10] [B ((len a_1) != (len b_2))] 97 ?_
 refine sq h ?_ ?_<;>intro h
 ·refine cq 4 [4] [B false] 113 ?_
  obtain rfl:=sI h
  exact rP [B false]
 ·refine aq 1 ?_
  refine cq 6 [5] [I (0)] 113 ?_
  obtain⟨y7,hy7,hy71,hy72⟩:=bJ h
  refine bV rfl ?_
  refine rf [0,1,5] [] (PJ a_1 b_2 rfl 0 _ hy7 (fun r' e st hq=>by rw[hy71 r' e] at hq;exact hq) fun u7 hu=>?_)
  replace h:=hy72 u7 hu
  refine cq 4 [4] [B true] 17 ?_
  obtain rfl:=sI h
  exact rP [B true]
theorem Um {G:bZ}:bW G 62 Co:=gT 2 0 (aO Uj bv) ca Tryz.func62 (fun a r h=>Y4 a.1 a.2 r h)
def Fl:((List Int)×(List Int))→List V:=cA (fP I) (oA (fP I))
def Fm (r:Bool):V×List V:=(B r,[])
noncomputable def Cq :=bf [false,false] Fl Fm fun x=>Cp x.1 x.2
theorem aeS {a_1:List Int}{b_2:List Int}{r}(h:Cp a_1 b_2=some r):Cq.F (Fl (a_1,b_2))=some (Fm r):=aL (aH (bC bd) (aM (bC bd))) h
noncomputable def Uq :=aG Tryz.f16
noncomputable def Ni :=b9 []
def Uo (x:(List Int)×(List Int))(r:Bool):St→Prop:=QF Ni Tryz.f16 [false,false] (Fl x) (Fm r)
theorem PK (a_1:List Int)(b_2:List Int):ct Ni 0 (Uo (a_1,b_2)) (cL (cL (cR (cL (cR (cR Uq)))))) 0 (um a_1 b_2) (fun u=>(sT 26 [] [] 1)) fun x3=>(sT 26 [(0,.isl false (a_1.map I)),(1,.isl false (b_2.map I)),(5,I x3)] [] 1):=ez (An a_1 b_2) fun {Q K} hK self ih x3 y h hr hn=>by
 unfold nS at h
 refine cq 5 [11,12] [I x3,.isl false (a_1.map I)] 33 ?_
 refine oq 49 (I (len a_1)) rfl (bA rfl rfl rfl (bR rfl)) ?_
 refine cq 2 [14] [B (decide (x3<(len a_1)))] 65 ?_
 refine sq h ?_ ?_<;>intro h
 ·refine aq 1 ?_
  refine aq 3 ?_
  refine dV [0,0,3,7,0,0,48,112,255] rfl (by decide +kernel) ?_
  refine dk 2 [18,17] [I x3,.isl false (a_1.map I)] ?_
  obtain⟨e4,he4,h⟩:=bS h
  refine dq [] [] (.iptr (I e4) 0) rfl (al rfl rfl rfl (aW rfl rfl rfl rfl he4)) ?_
  refine dq [] [] (I e4) rfl (aU rfl rfl) ?_
  refine dk 2 [22,21] [I x3,.isl false (b_2.map I)] ?_
  obtain⟨e5,he5,h⟩:=bS h
  refine dq [] [] (.iptr (I e5) 0) rfl (al rfl rfl rfl (aW rfl rfl rfl rfl he5)) ?_
  refine dq [] [] (I e5) rfl (aU rfl rfl) ?_
  refine dk 1 [25] [B (e4 != e5)] ?_
  refine de 209 rfl rfl ?_
  refine sq h ?_ ?_<;>intro h
  ·refine cq 4 [4] [B false] 225 ?_
   exact ci rfl (hr _ (ak h) _ (qp [B false]))
  ·refine aq 1 ?_
   refine cq 6 [5] [I (aj (x3+1))] 257 ?_
   refine dC ?_
   exact rf [0,1,5] [] (ih _ _ h hr hn :)
 ·refine aq 1 ?_
  exact rf [] [] (hn _ (ak h) :) (hk:=hK)
theorem Y5 (a_1:List Int)(b_2:List Int)(r:Bool)(h:Cp a_1 b_2=some r):bq Ni Tryz.f16 [false,false] 0 (Fl (a_1,b_2)) (Fm r):=by
 show Run _ _ (Uo (a_1,b_2) r) [.code Uq] _
 refine rI 26 [(0,.isl false (a_1.map I)),(1,.isl false (b_2.map I))] [] 1 ?_
 unfold Cp at h
 refine cq 8 [6] [.isl false (a_1.map I)] 33 ?_
 refine oq 49 (I (len a_1)) rfl (bA rfl rfl rfl (bR rfl)) ?_
 refine cq 1 [8] [.isl false (b_2.map I)] 65 ?_
 refine oq 81 (I (len b_2)) rfl (bA rfl rfl rfl (bR rfl)) ?_
 refine cq 2 [10] [B ((len a_1) != (len b_2))] 97 ?_
 refine sq h ?_ ?_<;>intro h
 ·refine cq 4 [4] [B false] 113 ?_
  obtain rfl:=sI h
  exact rP [B false]
 ·refine aq 1 ?_
  refine cq 6 [5] [I (0)] 113 ?_
  obtain⟨y6,hy6,hy61,hy62⟩:=bJ h
  refine bV rfl ?_
  refine rf [0,1,5] [] (PK a_1 b_2 rfl 0 _ hy6 (fun r' e st hq=>by rw[hy61 r' e] at hq;exact hq) fun u6 hu=>?_)
  replace h:=hy62 u6 hu
  refine cq 4 [4] [B true] 17 ?_
  obtain rfl:=sI h
  exact rP [B true]
theorem Ur {G:bZ}:bW G 16 Cq:=gT 2 0 bv ca Tryz.func16 (fun a r h=>Y5 a.1 a.2 r h)
def Fn:(State×State)→List V:=cA bT (oA bT)
def Fo (r:Bool):V×List V:=(B r,[])
noncomputable def Ct :=bf [false,false] Fn Fo fun x=>Cr x.1 x.2
theorem Ut {a_1:State}{b_2:State}{r}(h:Cr a_1 b_2=some r):Ct.F (Fn (a_1,b_2))=some (Fo r):=aL (aH cb (aM cb)) h
noncomputable def aeU :=aG Tryz.f25
noncomputable def Us :=b9 [(49,vQ),(62,Co),(16,Cq)]
def aeT (x:State×State)(r:Bool):St→Prop:=QF Us Tryz.f25 [false,false] (Fn x) (Fo r)
theorem Y6 (a_1:State)(b_2:State)(r:Bool)(h:Cr a_1 b_2=some r):bq Us Tryz.f25 [false,false] 0 (Fn (a_1,b_2)) (Fo r):=by
 show Run _ _ (aeT (a_1,b_2) r) [.code aeU] _
 refine rI 33 [(0,ae a_1),(1,ae b_2)] [] 1 ?_
 unfold Cr at h
 refine ck 15 [2,3,9] [] [1,17] [] [.hp 1 0 [] 5 0 0,.hp 17 0 [] 5 0 0,B (a_1.Day != b_2.Day)] [some ⟨0,5,[ae a_1]⟩,some ⟨0,5,[ae b_2]⟩] 129 (by kernel_rfl) ?_
 refine sq h ?_ ?_<;>intro h
 ·refine cq 4 [4] [B false] 145 ?_
  obtain rfl:=sI h
  exact rP [B false]
 ·refine aq 1 ?_
  refine cq 7 [11,13] [.isl false (a_1.Facts.map str),.isl false (b_2.Facts.map str)] 193 ?_
  obtain⟨r3,hr3,h⟩:=bS h
  refine oq 209 (B r3) rfl (cP (Uv hr3)) ?_
  refine cq 2 [15] [B (!r3)] 225 ?_
  refine sq h ?_ ?_<;>intro h
  ·refine cq 4 [4] [B false] 241 ?_
   obtain rfl:=sI h
   exact rP [B false]
  ·refine aq 1 ?_
   refine cq 7 [17,19] [.isl false (a_1.Duties.map ah),.isl false (b_2.Duties.map ah)] 289 ?_
   obtain⟨r4,hr4,h⟩:=bS h
   refine oq 305 (B r4) rfl (cP (aeR hr4)) ?_
   refine cq 2 [21] [B (!r4)] 321 ?_
   refine sq h ?_ ?_<;>intro h
   ·refine cq 4 [4] [B false] 337 ?_
    obtain rfl:=sI h
    exact rP [B false]
   ·refine aq 1 ?_
    refine cq 7 [23,25] [.isl false (a_1.Balances.map I),.isl false (b_2.Balances.map I)] 385 ?_
    obtain⟨r5,hr5,h⟩:=bS h
    refine oq 401 (B r5) rfl (cP (aeS hr5)) ?_
    refine cq 2 [27] [B (!r5)] 417 ?_
    refine sq h ?_ ?_<;>intro h
    ·refine cq 4 [4] [B false] 433 ?_
     obtain rfl:=sI h
     exact rP [B false]
    ·refine aq 1 ?_
     refine cq 9 [32] [B (!(a_1.Over==b_2.Over))] 497 ?_
     refine sq h ?_ ?_<;>intro h
     ·refine cq 4 [4] [B false] 513 ?_
      obtain rfl:=sI h
      exact rP [B false]
     ·refine aq 1 ?_
      refine cq 4 [4] [B true] 513 ?_
      obtain rfl:=sI h
      exact rP [B true]
theorem Uu {G:bZ}:bW G 25 Ct:=gT 2 0 (aO K0 (aO Um (aO Ur bv))) ca Tryz.func25 (fun a r h=>Y6 a.1 a.2 r h)
def gm:(Contract×State×Int×ac)→List V:=cA aV (cA bT (cA I (oA str)))
def gn (r:Bool):V×List V:=(B r,[])
noncomputable def im :=bf [false,false,false,false] gm gn fun x=>fu x.1 x.2.1 x.2.2.1 x.2.2.2
theorem ri {kO:Contract}{kP:State}{ii:Int}{fY:ac}{r}(h:fu kO kP ii fY=some r):im.F (gm (kO,kP,ii,fY))=some (gn r):=aL (aH bc (aH cb (aH bd (aM bx)))) h
noncomputable def gp :=aG Tryz.f10
noncomputable def iR :=b9 [(12,CB),(21,CH),(14,CO),(23,CU),(37,Dp),(38,JR),(17,Cl),(25,Ct)]
def li (x:Contract×State×Int×ac)(r:Bool):St→Prop:=QF iR Tryz.f10 [false,false,false,false] (gm x) (gn r)
theorem qd (kO:Contract)(kP:State)(ii:Int)(fY:ac)(r:Bool)(h:fu kO kP ii fY=some r):bq iR Tryz.f10 [false,false,false,false] 0 (gm (kO,kP,ii,fY)) (gn r):=by
 show Run _ _ (li (kO,kP,ii,fY) r) [.code gp] _
 refine rI 69 [(0,aV kO),(1,bT kP),(2,I ii),(3,str fY)] [] 1 ?_
 unfold fu at h
 refine ck 13 [4,5,18] [] [1,17] [] [.hp 1 0 [] 2 0 0,.hp 17 0 [] 5 0 0,B (decide ((len fY)>1048576))] [some ⟨0,2,[aV kO]⟩,some ⟨0,5,[bT kP]⟩] 97 (by kernel_rfl) ?_
 refine sq h ?_ ?_<;>intro h
 ·refine cq 4 [8] [B true] 113 ?_
  obtain rfl:=sI h
  exact rP [B true]
 ·refine aq 1 ?_
  refine cq 8 [19,20] [aV kO,I (1048576)] 145 ?_
  obtain⟨r5,hr5,h⟩:=bS h
  refine oq 161 (I r5) rfl (cP (ae3 hr5)) ?_
  refine cq 8 [9,23] [I r5,B (decide (r5<0))] 209 ?_
  refine sq h ?_ ?_<;>intro h
  ·refine cq 4 [8] [B true] 225 ?_
   obtain rfl:=sI h
   exact rP [B true]
  ·refine aq 1 ?_
   refine cq 4 [24,25] [bT kP,I r5] 241 ?_
   obtain⟨r6,hr6,h⟩:=bS h
   refine oq 257 (I r6) rfl (cP (afc hr6)) ?_
   refine ck 8 [28] [9] [] [] [B (decide (r6<0))] [] 305 (by kernel_rfl) ?_
   refine sq h ?_ ?_<;>intro h
   ·refine cq 4 [8] [B true] 321 ?_
    obtain rfl:=sI h
    exact rP [B true]
   ·refine aq 1 ?_
    refine aq 1 ?_
    refine dV [0,1,0,7,0,0,63,127,255,255,511,2047] rfl (by decide +kernel) ?_
    refine dq [1] [] (aV kO) rfl (aU rfl rfl) ?_
    obtain⟨r7,hr7,h⟩:=bS h
    refine dq [] [] (.agg [.hs 321 0 [] 1 0 (r7.Parties.map str).length,.hs 322 0 [] 12 0 (r7.Clauses.map bh).length]) rfl (cP (xI hr7)) ?_ (dK rfl rfl rfl rfl (aR (bo rfl) cS) (xI hr7) (.inr rfl) rfl)
    refine dq [17] [] (bT kP) rfl (aU rfl rfl) ?_
    obtain⟨r8,hr8,h⟩:=bS h
    refine dq [] [] (.agg [I r8.Day,.hs 353 0 [] 1 0 (r8.Facts.map str).length,.hs 354 0 [] 4 0 (r8.Duties.map ah).length,.hs 355 0 [] 1 0 (r8.Balances.map I).length,B r8.Over]) rfl (cP (xK hr8)) ?_ (dK rfl rfl rfl rfl (aR (bo rfl) cS) (xK hr8) (.inr rfl) rfl)
    refine dk 2 [35,34] [str fY,I ii] ?_
    obtain⟨r9,hr9,h⟩:=bS h
    refine dq [321,322,353,354,355] [] (.tup [I r9.1,B r9.2]) rfl (bM rfl rfl (b7 rfl rfl rfl (aR (sR (dZ (fT (f:=str) (g:=str) (xs:=r7.Parties) rfl rfl (bX fy)) (dZ (fT (f:=bh) (g:=ao) (xs:=r7.Clauses) rfl rfl (bX gQ)) ib))) (aR (sR (dZ (gl rfl) (dZ (fT (f:=str) (g:=str) (xs:=r8.Facts) rfl rfl (bX fy)) (dZ (fT (f:=ah) (g:=ah) (xs:=r8.Duties) rfl rfl (bX gk)) (dZ (fT (f:=I) (g:=I) (xs:=r8.Balances) rfl rfl (bX nm)) (dZ (gl rfl) ib)))))) (aR (bo rfl) (aR (bo rfl) cS)))) (We hr9) (.inl rfl) dH rfl rfl rfl)) ?_ (dK rfl rfl rfl rfl (aR (sR (dZ (fT (f:=str) (g:=str) (xs:=r7.Parties) rfl rfl (bX fy)) (dZ (fT (f:=bh) (g:=ao) (xs:=r7.Clauses) rfl rfl (bX gQ)) ib))) (aR (sR (dZ (gl rfl) (dZ (fT (f:=str) (g:=str) (xs:=r8.Facts) rfl rfl (bX fy)) (dZ (fT (f:=ah) (g:=ah) (xs:=r8.Duties) rfl rfl (bX gk)) (dZ (fT (f:=I) (g:=I) (xs:=r8.Balances) rfl rfl (bX nm)) (dZ (gl rfl) ib)))))) (aR (bo rfl) (aR (bo rfl) cS)))) (We hr9) (.inl rfl) rfl)
    refine dk 5 [11,10,38,37,29] [B r9.2,I r9.1,B r9.2,I r9.1,.tup [I r9.1,B r9.2]] ?_
    refine de 497 rfl rfl ?_
    refine cq 3 [39] [aV kO] 513 ?_
    obtain⟨r10,hr10,h⟩:=bS h
    refine oq 529 (.agg [.hs 513 0 [] 1 0 (r10.Parties.map str).length,.hs 514 0 [] 12 0 (r10.Clauses.map bh).length]) rfl (cP (xI hr10)) ?_
    refine ck 1 [12] [] [529] [] [.hp 529 0 [] 2 0 0] [some ⟨0,2,[.agg [.isl true [],.isl true []]]⟩] 545 (by kernel_rfl) ?_
    refine fK 529 [.agg [.usl 1 (([]).map str),.usl 12 (([]).map bh)]] rfl rfl (aJ (gC (aJ (.nil _) (aJ (.nil _) eF))) eF) ?_
    refine o0 561 rfl rfl (fZ rfl rfl (eX (path:=[]) (pl:=false) (e':=.agg [.usl 1 (r10.Parties.map str),.usl 12 (r10.Clauses.map bh)]) (es2':=[.agg [.usl 1 (r10.Parties.map str),.usl 12 (r10.Clauses.map bh)]]) rfl (mW (cg (cZ rfl rfl) (cg (cZ rfl rfl) mX))) rfl rfl rfl aQ rfl rfl rfl rfl rfl ee 2 rfl)) ?_
    refine cq 4 [41] [bT kP] 577 ?_
    obtain⟨r11,hr11,h⟩:=bS h
    refine oq 593 (.agg [I r11.Day,.hs 577 0 [] 1 0 (r11.Facts.map str).length,.hs 578 0 [] 4 0 (r11.Duties.map ah).length,.hs 579 0 [] 1 0 (r11.Balances.map I).length,B r11.Over]) rfl (cP (xK hr11)) ?_
    refine ck 1 [13] [] [593] [] [.hp 593 0 [] 5 0 0] [some ⟨0,5,[.agg [I (0),.isl true [],.isl true [],.isl true [],B false]]⟩] 609 (by kernel_rfl) ?_
    refine fK 593 [.agg [I (0),.usl 1 (([]).map str),.usl 4 (([]).map ah),.usl 1 (([]).map I),B false]] rfl rfl (aJ (gC (aJ (.refl _) (aJ (.nil _) (aJ (.nil _) (aJ (.nil _) (aJ (.refl _) eF)))))) eF) ?_
    refine o0 625 rfl rfl (fZ rfl rfl (eX (path:=[]) (pl:=false) (e':=.agg [I r11.Day,.usl 1 (r11.Facts.map str),.usl 4 (r11.Duties.map ah),.usl 1 (r11.Balances.map I),B r11.Over]) (es2':=[.agg [I r11.Day,.usl 1 (r11.Facts.map str),.usl 4 (r11.Duties.map ah),.usl 1 (r11.Balances.map I),B r11.Over]]) rfl (mW (cg (cO rfl) (cg (cZ rfl rfl) (cg (cZ rfl rfl) (cg (cZ rfl rfl) (cg (cO rfl) mX)))))) rfl rfl rfl aQ rfl rfl rfl rfl rfl ee 2 rfl)) ?_
    refine cq 7 [44,45,46,47] [.agg [.hs 529 2 [(0,0)] 1 0 (r10.Parties.map str).length,.hs 529 2 [(0,1)] 12 0 (r10.Clauses.map bh).length],.agg [I r11.Day,.hs 593 2 [(0,1)] 1 0 (r11.Facts.map str).length,.hs 593 2 [(0,2)] 4 0 (r11.Duties.map ah).length,.hs 593 2 [(0,3)] 1 0 (r11.Balances.map I).length,B r11.Over],I ii,str fY] 689 ?_
    obtain⟨r12,hr12,h⟩:=bS h
    refine oq 705 (.tup [I r12.1,B r12.2]) rfl (bM rfl rfl (b7 rfl rfl rfl (aR (sR (dZ (la (path:=[(0,0)]) rfl rfl (f8 rfl rfl aQ) rfl (bX (f:=str) fy)) (dZ (la (path:=[(0,1)]) rfl rfl (f8 rfl rfl aQ) rfl (bX (f:=bh) gQ)) ib))) (aR (sR (dZ (gl rfl) (dZ (la (path:=[(0,1)]) rfl rfl (f8 rfl rfl aQ) rfl (bX (f:=str) fy)) (dZ (la (path:=[(0,2)]) rfl rfl (f8 rfl rfl aQ) rfl (bX (f:=ah) gk)) (dZ (la (path:=[(0,3)]) rfl rfl (f8 rfl rfl aQ) rfl (bX (f:=I) nm)) (dZ (gl rfl) ib)))))) (aR (bo rfl) (aR (bo rfl) cS)))) (ahl hr12) (.inl rfl) dH rfl rfl rfl)) ?_
    refine cq 13 [15,54] [B r12.2,B (r12.1 != r9.1)] 849 ?_
    obtain⟨u13,hu13,h⟩:=lJ h
    have j13:Run iR 0 (li (kO,kP,ii,fY) r) (.code (cR (cL (cR (cR (cR (cR (cR (cR (cR (cR (cR (cR (cR gp)))))))))))))::.code (cR (cR (cR (cR (cR (cR (cR (cR (cR (cR (cR (cR gp))))))))))))::[]) (sT 69 [(4,.hp 1 0 [] 2 0 0),(5,.hp 2 0 [] 5 0 0),(12,.hp 3 0 [] 2 0 0),(13,.hp 4 0 [] 5 0 0),(58,B u13)] [⟨0,2,[aV kO]⟩,⟨0,5,[bT kP]⟩,⟨0,2,[.agg [.usl 1 (r10.Parties.map str),.usl 12 (r10.Clauses.map bh)]]⟩,⟨0,5,[.agg [I r11.Day,.usl 1 (r11.Facts.map str),.usl 4 (r11.Duties.map ah),.usl 1 (r11.Balances.map I),B r11.Over]]⟩] 5):=by
     refine sq h ?_ ?_<;>intro h
     ·refine cq 4 [8] [B false] 21 ?_
      obtain rfl:=sI h
      exact rP [B false]
     ·refine aq 1 ?_
      refine aq 2 ?_
      refine dV [0,0,2,7,15] rfl (by decide +kernel) ?_
      refine dq [3] [] (.agg [.hs 3 0 [(0,0)] 1 0 (r10.Parties.map str).length,.hs 3 0 [(0,1)] 12 0 (r10.Clauses.map bh).length]) rfl (aU rfl rfl) ?_
      refine dq [1] [] (aV kO) rfl (aU rfl rfl) ?_
      obtain⟨r14,hr14,h⟩:=bS h
      refine dq [] [] (.agg [.hs 37 0 [] 1 0 (r14.Parties.map str).length,.hs 38 0 [] 12 0 (r14.Clauses.map bh).length]) rfl (cP (xI hr14)) ?_ (dK rfl rfl rfl rfl (aR (bo rfl) cS) (xI hr14) (.inr rfl) rfl)
      obtain⟨r15,hr15,h⟩:=bS h
      refine dq [3,3,37,38] [] (B r15) rfl (bM rfl rfl (b7 rfl rfl rfl (aR (sR (dZ (la (path:=[(0,0)]) rfl rfl (f8 rfl rfl aQ) rfl (bX (f:=str) fy)) (dZ (la (path:=[(0,1)]) rfl rfl (f8 rfl rfl aQ) rfl (bX (f:=bh) gQ)) ib))) (aR (sR (dZ (fT (f:=str) (g:=str) (xs:=r14.Parties) rfl rfl (bX fy)) (dZ (fT (f:=bh) (g:=ao) (xs:=r14.Clauses) rfl rfl (bX gQ)) ib))) cS)) (Uf hr15) (.inl rfl) dH rfl rfl rfl)) ?_ (dK rfl rfl rfl rfl (aR (sR (dZ (la (path:=[(0,0)]) rfl rfl (f8 rfl rfl aQ) rfl (bX (f:=str) fy)) (dZ (la (path:=[(0,1)]) rfl rfl (f8 rfl rfl aQ) rfl (bX (f:=bh) gQ)) ib))) (aR (sR (dZ (fT (f:=str) (g:=str) (xs:=r14.Parties) rfl rfl (bX fy)) (dZ (fT (f:=bh) (g:=ao) (xs:=r14.Clauses) rfl rfl (bX gQ)) ib))) cS)) (Uf hr15) (.inl rfl) rfl)
      refine dk 1 [63] [B (!r15)] ?_
      refine de 85 rfl rfl ?_
      refine sq h ?_ ?_<;>intro h
      ·refine cq 4 [8] [B false] 101 ?_
       obtain rfl:=sI h
       exact rP [B false]
      ·refine aq 1 ?_
       refine aq 2 ?_
       refine dV [0,0,2,7,15] rfl (by decide +kernel) ?_
       refine dq [4] [] (.agg [I r11.Day,.hs 4 0 [(0,1)] 1 0 (r11.Facts.map str).length,.hs 4 0 [(0,2)] 4 0 (r11.Duties.map ah).length,.hs 4 0 [(0,3)] 1 0 (r11.Balances.map I).length,B r11.Over]) rfl (aU rfl rfl) ?_
       refine dq [2] [] (bT kP) rfl (aU rfl rfl) ?_
       obtain⟨r16,hr16,h⟩:=bS h
       refine dq [] [] (.agg [I r16.Day,.hs 117 0 [] 1 0 (r16.Facts.map str).length,.hs 118 0 [] 4 0 (r16.Duties.map ah).length,.hs 119 0 [] 1 0 (r16.Balances.map I).length,B r16.Over]) rfl (cP (xK hr16)) ?_ (dK rfl rfl rfl rfl (aR (bo rfl) cS) (xK hr16) (.inr rfl) rfl)
       obtain⟨r17,hr17,h⟩:=bS h
       refine dq [4,4,4,117,118,119] [] (B r17) rfl (bM rfl rfl (b7 rfl rfl rfl (aR (sR (dZ (gl rfl) (dZ (la (path:=[(0,1)]) rfl rfl (f8 rfl rfl aQ) rfl (bX (f:=str) fy)) (dZ (la (path:=[(0,2)]) rfl rfl (f8 rfl rfl aQ) rfl (bX (f:=ah) gk)) (dZ (la (path:=[(0,3)]) rfl rfl (f8 rfl rfl aQ) rfl (bX (f:=I) nm)) (dZ (gl rfl) ib)))))) (aR (sR (dZ (gl rfl) (dZ (fT (f:=str) (g:=str) (xs:=r16.Facts) rfl rfl (bX fy)) (dZ (fT (f:=ah) (g:=ah) (xs:=r16.Duties) rfl rfl (bX gk)) (dZ (fT (f:=I) (g:=I) (xs:=r16.Balances) rfl rfl (bX nm)) (dZ (gl rfl) ib)))))) cS)) (Ut hr17) (.inl rfl) dH rfl rfl rfl)) ?_ (dK rfl rfl rfl rfl (aR (sR (dZ (gl rfl) (dZ (la (path:=[(0,1)]) rfl rfl (f8 rfl rfl aQ) rfl (bX (f:=str) fy)) (dZ (la (path:=[(0,2)]) rfl rfl (f8 rfl rfl aQ) rfl (bX (f:=ah) gk)) (dZ (la (path:=[(0,3)]) rfl rfl (f8 rfl rfl aQ) rfl (bX (f:=I) nm)) (dZ (gl rfl) ib)))))) (aR (sR (dZ (gl rfl) (dZ (fT (f:=str) (g:=str) (xs:=r16.Facts) rfl rfl (bX fy)) (dZ (fT (f:=ah) (g:=ah) (xs:=r16.Duties) rfl rfl (bX gk)) (dZ (fT (f:=I) (g:=I) (xs:=r16.Balances) rfl rfl (bX nm)) (dZ (gl rfl) ib)))))) cS)) (Ut hr17) (.inl rfl) rfl)
       refine dk 1 [68] [B (!r17)] ?_
       refine de 165 rfl rfl ?_
       refine sq h ?_ ?_<;>intro h
       ·refine cq 4 [8] [B false] 181 ?_
        obtain rfl:=sI h
        exact rP [B false]
       ·refine aq 1 ?_
        refine cq 4 [8] [B true] 181 ?_
        obtain rfl:=sI h
        exact rP [B true]
    replace h:=hu13
    clear hu13
    refine sp 54 h rfl ?_ ?_<;>intro h
    ·refine cq 5 [58] [B true] 913 ?_
     subst h
     exact rf [4,5,12,13,58] [1,17,529,593] (j13 :)
    ·refine cq 5 [58] [B (!(r12.2==r9.2))] 913 ?_
     subst h
     exact rf [4,5,12,13,58] [1,17,529,593] (j13 :)
theorem pC {G:bZ}:bW G 10 im:=gT 4 0 (aO UJ (aO UQ (aO U5 (aO Vf (aO Wf (aO Y9 (aO Ug (aO Uu bv)))))))) ca Tryz.func10 (fun a r h=>qd a.1 a.2.1 a.2.2.1 a.2.2.2 r h)
end Go.Ln
