/-
  Each function of the program computes its plain function.
-/
import Derived.Test.YtobhcnmeflacnaaGreatDoorFnExactIsValidStateRunA
set_option maxHeartbeats 4000000
set_option linter.unusedVariables false
set_option linter.unusedSimpArgs false
set_option maxRecDepth 100000
namespace Go.Ln
open Go Go.Proofs
theorem K5 (slf_Ffe:(Condition×(List ae))→Option (List ae))(c_3:Condition)(list_4:List ae):cd (Fp slf_Ffe) 1 (AM slf_Ffe (c_3,list_4)) (cL (cL (cR (cL (cR (cR J7)))))) 0 (lL slf_Ffe c_3 list_4) (fun u=>(sO 27 [(1,.hs 2 0 [] 1 0 (u.map str).length)] [none,some ⟨0,1,u.map str⟩] 3)) fun x4=>(sO 27 [(1,.hs 2 0 [] 1 0 (x4.2.map str).length),(16,.isl false (c_3.Parts.map ac)),(17,I (len c_3.Parts)),(18,I x4.1)] [none,some ⟨0,1,x4.2.map str⟩] 3):=dT (Bk slf_Ffe c_3 list_4) fun {Q K} hK self ih x4 y h hr hn=>by
 unfold i7 at h
 refine cq 5 [19] [B (decide (x4.1<(len c_3.Parts)))] 19 ?_
 refine sq h (fun h=>?_) fun h=>?_
 ·refine aq 1 ?_
  refine aq 4 ?_
  obtain⟨e5,he5,h⟩:=bS h
  refine oq 35 (.iptr (.agg [I e5.Op,str e5.Name,I e5.Day,.isl false (e5.Parts.map ac)]) 0) rfl (ap rfl rfl rfl (aQ rfl rfl (ce e5) rfl he5)) ?_
  refine ck 2 [6,21] [] [51] [] [.hp 51 0 [] 4 0 0,.agg [I e5.Op,str e5.Name,I e5.Day,.isl false (e5.Parts.map ac)]] [some ⟨0,4,[.agg [I (0),str ([]),I (0),.isl true []]]⟩] 67 (by kernel_rfl) ?_
  refine d8 51 [.agg [I (0),str ([]),I (0),.usl 4 (([]).map ao)]] rfl rfl (au (fi (au (.refl _) (au (.refl _) (au (.refl _) (au (.nil _) dA))))) dA) ?_
  refine ck 5 [22,23] [] [51] [] [.agg [I e5.Op,str e5.Name,I e5.Day,.isl false (e5.Parts.map ac)],.hs 2 0 [] 1 0 (x4.2.map str).length] [some ⟨2,4,[.agg [I e5.Op,str e5.Name,I e5.Day,.isl false (e5.Parts.map ac)]]⟩] 115 (by kernel_rfl) ?_
  obtain⟨r6,hr6,h⟩:=bS h
  refine oq 131 (.hs 115 0 [] 1 0 (r6.map str).length) rfl (co rfl rfl (cI rfl rfl rfl (b9 (cQ rfl) (sJ (pr rfl (ku (path:=[]) rfl rfl aZ rfl)) dD)) (O1 slf_Ffe hr6) (.inr rfl) (rM rfl rfl rfl kG d9) rfl rfl rfl)) ?_
  refine cq 7 [1,18] [.hs 115 0 [] 1 0 (r6.map str).length,I (ar (x4.1+1))] 179 ?_
  refine cG ?_
  exact rg [1,16,17,18] [180,115] (ih _ _ h hr hn :)
 ·refine aq 1 ?_
  exact rg [1] [20,2] (hn _ (Option.some.inj h).symm :) (hk:=hK)
theorem SX (slf_Ffe:(Condition×(List ae))→Option (List ae))(c_3:Condition)(list_4:List ae)(r:(List ae))(h:uV slf_Ffe c_3 list_4=some r):be (Fp slf_Ffe) Tryz.f186 [false,true] 1 (BX (c_3,list_4)) (zN r):=by
 show Run _ _ (AM slf_Ffe (c_3,list_4) r) [.code J7] _
 refine rI 27 [(0,.agg [I c_3.Op,str c_3.Name,I c_3.Day,.isl false (c_3.Parts.map ac)]),(1,.hs 1 0 [] 1 0 (list_4.map str).length)] [(1,some ⟨0,1,list_4.map str⟩)] 2 ?_
 unfold uV at h
 refine ck 12 [2,9] [] [2] [] [.hp 2 0 [] 4 0 0,B (c_3.Op==2)] [some ⟨0,4,[.agg [I c_3.Op,str c_3.Name,I c_3.Day,.isl false (c_3.Parts.map ac)]]⟩] 82 (by kernel_rfl) ?_
 obtain⟨y3,hy3,hy31,hy32⟩:=bJ h
 have j3:∀u3,y3=.inr u3→Run (Fp slf_Ffe) 1 (AM slf_Ffe (c_3,list_4) r) (.code (cR (cR J7))::[]) (sO 27 [(1,.hs 2 0 [] 1 0 (u3.map str).length),(2,.hp 3 0 [] 4 0 0)] [none,some ⟨0,1,u3.map str⟩,some ⟨0,4,[.agg [I c_3.Op,str c_3.Name,I c_3.Day,.isl false (c_3.Parts.map ac)]]⟩] 4):=by
  intro u3 hu
  replace h:=hy32 u3 hu
  refine cq 5 [16] [.isl false (c_3.Parts.map ac)] 36 ?_
  refine oq 52 (I (len c_3.Parts)) rfl (aX rfl rfl rfl (bc rfl)) ?_
  refine cq 3 [18] [I (0)] 68 ?_
  obtain⟨y7,hy7,hy71,hy72⟩:=bJ h
  refine bG rfl ?_
  refine rg [1,16,17,18] [69,2] (K5 slf_Ffe c_3 list_4 rfl (0,u3) _ hy7 (fun r' e st hq=>by rw[hy71 r' e] at hq;exact hq) fun u7 hu=>?_)
  replace h:=hy72 u7 hu
  refine cq 5 [4] [.hs 2 0 [] 1 0 (u7.map str).length] 35 ?_
  obtain rfl:=Option.some.inj h
  exact aj rfl ⟨_,fin (vs:=[.hs 2 0 [] 1 0 (u7.map str).length]) rfl (fB (fk rfl (cN rfl rfl)) et) rfl (eZ (rG rfl (nM rfl) fK)),rR fD⟩
 have r3:∀r',y3=.inl r'→∀st,AM slf_Ffe (c_3,list_4) r' st→(AM slf_Ffe (c_3,list_4) r) st:=fun r' e st hq=>by rw[hy31 r' e] at hq;exact hq
 replace h:=hy3
 refine sq h (fun h=>?_) fun h=>?_
 ·refine cq 4 [10,12] [.hs 1 0 [] 1 0 (list_4.map str).length,str c_3.Name] 130 ?_
  refine oq 146 (.hs 130 0 [] 1 0 1) rfl (f9 rfl (su (f:=I) (xs:=[]) (z:=str ([])) (es:=[str c_3.Name]) (ws:=[str c_3.Name]) rfl rfl rfl (by decide) rfl (em rfl) rfl)) ?_
  obtain⟨a8,ha8,h⟩:=bS h
  refine oq 162 (.hs 146 0 [] 1 0 (a8.map str).length) rfl (ov rfl rfl rfl rfl rfl (tG (path:=[]) (f:=str) (xs:=list_4) (ys:=[c_3.Name]) rfl rfl (Db rfl rfl rfl) rfl rfl rfl aZ rfl (by decide) jz ha8 rfl ym)) ?_
  refine cq 2 [1] [.hs 146 0 [] 1 0 (a8.map str).length] 178 ?_
  exact rg [1,2] [179,146,2] (j3 _ (Option.some.inj h).symm :)
 ·refine aq 1 ?_
  exact rg [1,2] [83,1,2] (j3 _ (Option.some.inj h).symm :)
theorem QR {G:Go.Ln.Ground}:aI Tryz.prog G 186 Dj:=jx fun slf_Ffe g_Ffe=>gT 2 1 (aD g_Ffe bg) (Checked.mixed Tryz.checked) Tryz.func186 (fun a r h=>SX slf_Ffe a.1 a.2 r h)
def HF:Shelf.Ren:=⟨fun | 190=>219 | 125=>211 | 258=>243 | 128=>239 | 129=>240 | 302=>255 | 303=>256 | 304=>257 | 305=>258 | 306=>259 | 307=>260 | 308=>261 | 309=>262 | 310=>263 | 333=>273 | 329=>251 | 330=>252 | 334=>274 | 335=>275 | 336=>242 | 344=>285 | n=>n,fun | 31=>22 | 9=>9 | 3=>3 | 46=>205 | 0=>0 | 51=>225 | 53=>227 | 4=>4 | 183=>219 | 182=>218 | 131=>58 | 5=>5 | 218=>232 | 222=>236 | 228=>252 | 229=>253 | n=>n,fun | n=>n⟩
theorem QV:Go.Proofs.Lays.n190 Tryz.prog HF where
 mixed:=by kernel_rfl
 f125:=Tryz.func211.trans (congrArg some (by kernel_rfl))
 f128:=Tryz.func239.trans (congrArg some (by kernel_rfl))
 f129:=Tryz.func240.trans (congrArg some (by kernel_rfl))
 f190:=Tryz.func219.trans (congrArg some (by kernel_rfl))
 f258:=Tryz.func243.trans (congrArg some (by kernel_rfl))
 f302:=Tryz.func255.trans (congrArg some (by kernel_rfl))
 f303:=Tryz.func256.trans (congrArg some (by kernel_rfl))
 f304:=Tryz.func257.trans (congrArg some (by kernel_rfl))
 f305:=Tryz.func258.trans (congrArg some (by kernel_rfl))
 f306:=Tryz.func259.trans (congrArg some (by kernel_rfl))
 f307:=Tryz.func260.trans (congrArg some (by kernel_rfl))
 f308:=Tryz.func261.trans (congrArg some (by kernel_rfl))
 f309:=Tryz.func262.trans (congrArg some (by kernel_rfl))
 f310:=Tryz.func263.trans (congrArg some (by kernel_rfl))
 f329:=Tryz.func251.trans (congrArg some (by kernel_rfl))
 f330:=Tryz.func252.trans (congrArg some (by kernel_rfl))
 f333:=Tryz.func273.trans (congrArg some (by kernel_rfl))
 f334:=Tryz.func274.trans (congrArg some (by kernel_rfl))
 f335:=Tryz.func275.trans (congrArg some (by kernel_rfl))
 f336:=Tryz.func242.trans (congrArg some (by kernel_rfl))
 f344:=Tryz.func285.trans (congrArg some (by kernel_rfl))
 t0:=Tryz.underlying0
 a0:=Tryz.isAgg0
 z0:=Tryz.sizeOf0
 v0:=Tryz.zeroValue0
 t3:=Tryz.underlying3
 a3:=Tryz.isAgg3
 z3:=Tryz.sizeOf3
 v3:=Tryz.zeroValue3
 t4:=Tryz.underlying4
 a4:=Tryz.isAgg4
 z4:=Tryz.sizeOf4
 v4:=Tryz.zeroValue4
 t5:=Tryz.underlying5
 a5:=Tryz.isAgg5
 z5:=Tryz.sizeOf5
 v5:=Tryz.zeroValue5
 t9:=Tryz.underlying9
 a9:=Tryz.isAgg9
 z9:=Tryz.sizeOf9
 v9:=Tryz.zeroValue9
 t31:=Tryz.underlying22
 a31:=Tryz.isAgg22
 z31:=Tryz.sizeOf22
 v31:=Tryz.zeroValue22
 t46:=Tryz.underlying205
 a46:=Tryz.isAgg205
 z46:=Tryz.sizeOf205
 v46:=Tryz.zeroValue205
 t51:=Tryz.underlying225
 a51:=Tryz.isAgg225
 z51:=Tryz.sizeOf225
 v51:=Tryz.zeroValue225
 t53:=Tryz.underlying227
 a53:=Tryz.isAgg227
 z53:=Tryz.sizeOf227
 v53:=Tryz.zeroValue227
 t131:=Tryz.underlying58
 a131:=Tryz.isAgg58
 z131:=Tryz.sizeOf58
 v131:=Tryz.zeroValue58
 t182:=Tryz.underlying218
 a182:=Tryz.isAgg218
 z182:=Tryz.sizeOf218
 v182:=Tryz.zeroValue218
 t183:=Tryz.underlying219
 a183:=Tryz.isAgg219
 z183:=Tryz.sizeOf219
 v183:=Tryz.zeroValue219
 t218:=Tryz.underlying232
 a218:=Tryz.isAgg232
 z218:=Tryz.sizeOf232
 v218:=Tryz.zeroValue232
 t222:=Tryz.underlying236
 a222:=Tryz.isAgg236
 z222:=Tryz.sizeOf236
 v222:=Tryz.zeroValue236
 t228:=Tryz.underlying252
 a228:=Tryz.isAgg252
 z228:=Tryz.sizeOf252
 v228:=Tryz.zeroValue252
 t229:=Tryz.underlying253
 a229:=Tryz.isAgg253
 z229:=Tryz.sizeOf253
 v229:=Tryz.zeroValue253
noncomputable def rP:Ent:=aR [true] (oA (Ct 1 str)) (fun r=>(.tup [],[.usl 1 (r.map str)])) qG
theorem R3 {l:List ae}{r}(h:qG l=some r):rP.F [.usl 1 (l.map str)]=some (.tup [],[.usl 1 (r.map str)]):=aC (ea:=oA (Ct 1 str)) (aB (nU bm)) h
theorem Ix {G:Go.Ln.Ground}:aI Tryz.prog G 219 rP:=J9 QV
def zZ:(List ae)→List V:=oA (Ct 1 str)
def CL (r:(List ae)):V×List V:=(.usl 1 (r.map str),[.dead])
noncomputable def wE:Ent:=aR [true] zZ CL fun x=>xc x
theorem Uv {s_2:List ae}{r}(h:xc s_2=some r):wE.F (zZ s_2)=some (CL r):=aC (aB (nU bm)) h
noncomputable def H7:Code:=az Tryz.f220
noncomputable abbrev C9:Code:=cL (cL (cR (cL (cR (cL (cR (cL (cL (cR (cL (cL (cR (cL (cR (cR H7)))))))))))))))
noncomputable def tM:Env:=bF Tryz.prog []
def Au (x:(List ae))(r:(List ae)):St→Prop:=QF tM Tryz.f220 [true] (zZ x) (CL r)
theorem I9 (s_2:List ae)(x2:Int):cd tM 1 (Au s_2) C9 2 (iL s_2 x2) (fun u=>(sO 61 [(0,.hs 2 0 [] 1 0 (u.2.map str).length),(3,I u.1)] [none,some ⟨0,1,u.2.map str⟩] 3)) fun x6=>(sO 61 [(0,.hs 2 0 [] 1 0 (x6.2.2.map str).length),(3,I x6.1),(4,.hs 2 0 [] 1 (0+Int.toNat x2) (Int.toNat (len s_2) - Int.toNat x2)),(5,I x6.2.1)] [none,some ⟨0,1,x6.2.2.map str⟩] 3):=dT (vq s_2 x2) fun {Q K} hK self ih x6 y h hr hn=>by
 unfold jd at h
 refine cq 8 [32] [B (decide (x6.2.1<(((Int.toNat (len s_2) - Int.toNat x2):Nat):Int)))] 67 ?_
 refine sq h (fun h=>?_) fun h=>?_
 ·refine aq 1 ?_
  refine aq 3 ?_
  refine d7 [0,0,3,7,0,0,32,112,240,511] rfl (by decide +kernel) ?_
  refine dk 2 [36,35] [I x6.2.1,.hs 2 0 [] 1 (0+Int.toNat x2) (Int.toNat (len s_2) - Int.toNat x2)] ?_
  obtain⟨e7,he7,h⟩:=bS h
  refine dq [2] [] (.hp 2 0 [] 1 ((0+Int.toNat x2)+Int.toNat x6.2.1) 0) rfl (ap rfl rfl rfl (Ka (xs:=x6.2.2) rfl rfl he7)) ?_
  refine dq [2] [] (str e7) rfl (aM rfl (pk (path:=[]) rfl rfl rfl aZ (Hx (f:=str) (xs:=x6.2.2) he7) rfl rfl rfl)) ?_
  refine dk 3 [41,40,39] [I (ar (x6.2.1 - 1)),I x6.2.1,.hs 2 0 [] 1 (0+Int.toNat x2) (Int.toNat (len s_2) - Int.toNat x2)] ?_
  obtain⟨e8,he8,h⟩:=bS h
  refine dq [2] [] (.hp 2 0 [] 1 ((0+Int.toNat x2)+Int.toNat (ar (x6.2.1 - 1))) 0) rfl (ap rfl rfl rfl (Ka (xs:=x6.2.2) rfl rfl he8)) ?_
  refine dq [2] [] (str e8) rfl (aM rfl (pk (path:=[]) rfl rfl rfl aZ (Hx (f:=str) (xs:=x6.2.2) he8) rfl rfl rfl)) ?_
  refine dk 1 [44] [B (!(e7==e8))] ?_
  refine de 227 rfl rfl ?_
  obtain⟨y9,hy9,hy91,hy92⟩:=bL h
  have j9:∀u9,y9=.inr u9→Run tM 1 Q (.blk 3::.code (cR (cR C9))::.lp C9::.blk 2::K) (sO 61 [(0,.hs 2 0 [] 1 0 (u9.2.map str).length),(3,I u9.1),(4,.hs 2 0 [] 1 (0+Int.toNat x2) (Int.toNat (len s_2) - Int.toNat x2)),(5,I x6.2.1)] [none,some ⟨0,1,u9.2.map str⟩] 3):=by
   intro u9 hu
   replace h:=hy92 u9 hu
   refine cq 6 [5] [I (ar (x6.2.1+1))] 51 ?_
   refine cG ?_
   exact rg [0,3,4,5] [52,2] (ih _ _ h hr hn :)
  have r9:∀r',y9=.inl r'→∀st,Au s_2 r' st→Q st:=fun r' e st hq=>hr r' (hy91 r' e) st hq
  replace h:=hy9
  refine sq h (fun h=>?_) fun h=>?_
  ·refine cq 6 [45,46,47,48] [.hs 2 0 [] 1 0 (x6.2.2.map str).length,I x6.1,.hs 2 0 [] 1 (0+Int.toNat x2) (Int.toNat (len s_2) - Int.toNat x2),I x6.2.1] 291 ?_
   obtain⟨e10,he10,h⟩:=bS h
   refine oq 307 (.hp 2 0 [] 1 ((0+Int.toNat x2)+Int.toNat x6.2.1) 0) rfl (ap rfl rfl rfl (Ka (xs:=x6.2.2) rfl rfl he10)) ?_
   refine oq 323 (str e10) rfl (aM rfl (pk (path:=[]) rfl rfl rfl aZ (Hx (f:=str) (xs:=x6.2.2) he10) rfl rfl rfl)) ?_
   obtain⟨e11,he11,h⟩:=bS h
   refine oq 339 (.hp 2 0 [] 1 (0+Int.toNat x6.1) 0) rfl (ap rfl rfl rfl (gO (f:=str) (xs:=x6.2.2) rfl rfl rfl he11)) ?_
   refine o0 355 rfl rfl (gc rfl rfl (eP (path:=[]) (pl:=true) (e':=str e10) (es2':=(eu x6.2.2 x6.1 e10).map str) rfl (eD rfl) rfl rfl rfl aZ (fO (f:=str) (xs:=x6.2.2) he11) rfl rfl rfl (lb (f:=str) (xs:=x6.2.2) (y:=e10)) dU 0 rfl)) ?_
   try rw[←jf (f:=str) (xs:=x6.2.2) (i:=x6.1) (z:=e10)]
   refine cq 6 [3] [I (ar (x6.1+1))] 403 ?_
   exact rg [0,3,4,5] [404,2] (j9 _ (Option.some.inj h).symm :)
  ·refine aq 1 ?_
   exact rg [0,3,4,5] [228,2] (j9 _ (Option.some.inj h).symm :)
 ·refine aq 1 ?_
  exact rg [0,3] [68,2] (hn _ (Option.some.inj h).symm :) (hk:=hK)
theorem Iu (s_2:List ae):cd tM 1 (Au s_2) (cL (cL (cR (cL (cR (cR H7)))))) 0 (oc s_2) (fun u=>(sO 61 [(0,.hs 2 0 [] 1 0 (u.map str).length)] [none,some ⟨0,1,u.map str⟩] 3)) fun x2=>(sO 61 [(0,.hs 2 0 [] 1 0 (s_2.map str).length),(3,I x2)] [none,some ⟨0,1,s_2.map str⟩] 3):=dT (vP s_2) fun {Q K} hK self ih x2 y h hr hn=>by
 unfold jh at h
 refine cq 5 [10,11] [I x2,.hs 2 0 [] 1 0 (s_2.map str).length] 35 ?_
 refine oq 51 (I (len s_2)) rfl (aX rfl rfl rfl (vb (f:=str) (xs:=s_2) rfl rfl)) ?_
 refine cq 2 [13] [B (decide (x2<(len s_2)))] 67 ?_
 refine sq h (fun h=>?_) fun h=>?_
 ·refine aq 1 ?_
  refine aq 3 ?_
  refine d7 [0,0,3,7,0,0,32,112,240,511] rfl (by decide +kernel) ?_
  refine dk 2 [17,16] [I x2,.hs 2 0 [] 1 0 (s_2.map str).length] ?_
  obtain⟨e3,he3,h⟩:=bS h
  refine dq [2] [] (.hp 2 0 [] 1 (0+Int.toNat x2) 0) rfl (ap rfl rfl rfl (gO (f:=str) (xs:=s_2) rfl rfl rfl he3)) ?_
  refine dq [2] [] (str e3) rfl (aM rfl (pk (path:=[]) rfl rfl rfl aZ (fO (f:=str) (xs:=s_2) he3) rfl rfl rfl)) ?_
  refine dk 3 [22,21,20] [I (ar (x2 - 1)),I x2,.hs 2 0 [] 1 0 (s_2.map str).length] ?_
  obtain⟨e4,he4,h⟩:=bS h
  refine dq [2] [] (.hp 2 0 [] 1 (0+Int.toNat (ar (x2 - 1))) 0) rfl (ap rfl rfl rfl (gO (f:=str) (xs:=s_2) rfl rfl rfl he4)) ?_
  refine dq [2] [] (str e4) rfl (aM rfl (pk (path:=[]) rfl rfl rfl aZ (fO (f:=str) (xs:=s_2) he4) rfl rfl rfl)) ?_
  refine dk 1 [25] [B (e3==e4)] ?_
  refine de 227 rfl rfl ?_
  refine sq h (fun h=>?_) fun h=>?_
  ·refine cq 4 [26,27] [.hs 2 0 [] 1 0 (s_2.map str).length,I x2] 259 ?_
   obtain⟨s5,hs5,h⟩:=bS h
   refine oq 275 (.hs 2 0 [] 1 (0+Int.toNat x2) (Int.toNat (len s_2) - Int.toNat x2)) rfl (gf rfl rfl rfl rfl (qF (f:=str) (xs:=s_2) rfl rfl rfl rfl (RB rfl) hs5)) ?_
   refine cq 8 [4,5] [.hs 2 0 [] 1 (0+Int.toNat x2) (Int.toNat (len s_2) - Int.toNat x2),I (1)] 307 ?_
   obtain⟨y15,hy15,hy151,hy152⟩:=bL h
   refine bG rfl ?_
   refine rg [0,3,4,5] [308,2] (I9 s_2 x2 rfl (x2,1,s_2) _ hy15 (fun r' e st hq=>hr r' (hy151 r' e) st hq) fun u15 hu=>?_)
   replace h:=hy152 u15 hu
   refine cq 4 [54,55] [.hs 2 0 [] 1 0 (u15.2.map str).length,I u15.1] 35 ?_
   obtain⟨s16,hs16,h⟩:=bS h
   refine oq 51 (.hs 2 0 [] 1 (0+Int.toNat u15.1) (Int.toNat (len u15.2) - Int.toNat u15.1)) rfl (gf rfl rfl rfl rfl (qF (f:=str) (xs:=u15.2) rfl rfl rfl rfl (RB rfl) hs16)) ?_
   obtain⟨k17,hk17,h⟩:=bS h
   refine o0 67 rfl rfl (Tz rfl rfl (Wo (f:=str) (xs:=u15.2) (z0:=[]) rfl rfl rfl rfl (by decide) kA hk17)) ?_
   try rw[show (u15.2.map str).length=(k17.map str).length from SO hk17]
   refine cq 5 [57,58] [.hs 2 0 [] 1 0 (k17.map str).length,I u15.1] 99 ?_
   obtain⟨s18,hs18,h⟩:=bS h
   refine oq 115 (.hs 2 0 [] 1 (0+Int.toNat (0)) (Int.toNat u15.1 - Int.toNat (0))) rfl (gf rfl rfl rfl rfl (qF (f:=str) (xs:=k17) rfl rfl rfl rfl rfl hs18)) ?_
   refine cq 2 [2] [.hs 2 0 [] 1 (0+Int.toNat (0)) (Int.toNat u15.1 - Int.toNat (0))] 131 ?_
   obtain⟨p19,hp19,h⟩:=bS h
   exact aj rfl (hr _ (Option.some.inj h).symm _ ⟨_,fin (vs:=[.hs 2 0 [] 1 (0+Int.toNat (0)) (Int.toNat u15.1 - Int.toNat (0))]) rfl (fB (fk rfl (LG (path:=[]) (f:=str) (xs:=k17) rfl rfl aZ hp19 rfl ym)) et) rfl (rG rfl (nM rfl) fK),rR fD⟩)
  ·refine aq 1 ?_
   refine cq 6 [3] [I (ar (x2+1))] 275 ?_
   refine cG ?_
   exact rg [0,3] [276,2] (ih _ _ h hr hn :)
 ·refine aq 1 ?_
  exact rg [0] [68,2] (hn _ (Option.some.inj h).symm :) (hk:=hK)
theorem RM (s_2:List ae)(r:(List ae))(h:xc s_2=some r):be tM Tryz.f220 [true] 1 (zZ s_2) (CL r):=by
 show Run _ _ (Au s_2 r) [.code H7] _
 refine rI 61 [(0,.hs 1 0 [] 1 0 (s_2.map str).length)] [(1,some ⟨0,1,s_2.map str⟩)] 2 ?_
 unfold xc at h
 refine cq 8 [6] [.hs 1 0 [] 1 0 (s_2.map str).length] 34 ?_
 refine oq 50 (I (len s_2)) rfl (aX rfl rfl rfl (vb (f:=str) (xs:=s_2) rfl rfl)) ?_
 refine cq 2 [8] [B (decide ((len s_2)<2))] 66 ?_
 refine sq h (fun h=>?_) fun h=>?_
 ·refine cq 5 [2] [.hs 1 0 [] 1 0 (s_2.map str).length] 98 ?_
  obtain rfl:=Option.some.inj h
  exact aj rfl ⟨_,fin (vs:=[.hs 1 0 [] 1 0 (s_2.map str).length]) rfl (fB (fk rfl (cN rfl rfl)) et) rfl (rG rfl (nM rfl) fK),rR fD⟩
 ·refine aq 1 ?_
  refine cq 6 [3] [I (1)] 82 ?_
  obtain⟨y20,hy20,hy201,hy202⟩:=bJ h
  refine bG rfl ?_
  refine rg [0,3] [83,1] (Iu s_2 rfl 1 _ hy20 (fun r' e st hq=>by rw[hy201 r' e] at hq;exact hq) fun u20 hu=>?_)
  replace h:=hy202 u20 hu
  refine cq 5 [2] [.hs 2 0 [] 1 0 (u20.map str).length] 35 ?_
  obtain rfl:=Option.some.inj h
  exact aj rfl ⟨_,fin (vs:=[.hs 2 0 [] 1 0 (u20.map str).length]) rfl (fB (fk rfl (cN rfl rfl)) et) rfl (rG rfl (nM rfl) fK),rR fD⟩
theorem MB {G:Go.Ln.Ground}:aI Tryz.prog G 220 wE:=gT 1 1 bg (Checked.mixed Tryz.checked) Tryz.func220 (fun a r h=>RM a r h)
def Fa:(List ae)→List V:=oA (Ct 1 str)
def FN (r:(List ae)):V×List V:=(.usl 1 (r.map str),[.dead])
noncomputable def DH:Ent:=aR [true] Fa FN fun x=>Gi x
theorem Wu {list_5:List ae}{r}(h:Gi list_5=some r):DH.F (Fa list_5)=some (FN r):=aC (aB (nU bm)) h
noncomputable def Wy:Code:=az Tryz.f187
noncomputable def SC:Env:=bF Tryz.prog [(219,rP),(220,wE)]
def W3 (x:(List ae))(r:(List ae)):St→Prop:=QF SC Tryz.f187 [true] (Fa x) (FN r)
theorem S5 (list_5:List ae)(r:(List ae))(h:Gi list_5=some r):be SC Tryz.f187 [true] 1 (Fa list_5) (FN r):=by
 show Run _ _ (W3 list_5 r) [.code Wy] _
 refine rI 7 [(0,.hs 1 0 [] 1 0 (list_5.map str).length)] [(1,some ⟨0,1,list_5.map str⟩)] 2 ?_
 unfold Gi at h
 refine cq 7 [3] [.hs 1 0 [] 1 0 (list_5.map str).length] 34 ?_
 obtain⟨r2,hr2,h⟩:=bS h
 obtain⟨g3,h⟩:=gG h
 refine oq 50 (.tup []) rfl (co rfl rfl (cI rfl rfl rfl (sJ (pr rfl (ku (path:=[]) rfl rfl aZ rfl)) dD) (R3 hr2) (.inr rfl) (rM rfl rfl rfl rfl d9) rfl rfl rfl)) ?_
 try rw[T0 (f:=str) (xs:=list_5) (ys:=r2) g3]
 refine cq 4 [5] [.hs 1 0 [] 1 0 (r2.map str).length] 66 ?_
 obtain⟨r4,hr4,h⟩:=bS h
 refine oq 82 (.hs 66 0 [] 1 0 (r4.map str).length) rfl (co rfl rfl (cI rfl rfl rfl (sJ (pr rfl (ku (path:=[]) rfl rfl aZ rfl)) dD) (Uv hr4) (.inr rfl) (rM rfl rfl rfl kG d9) rfl rfl rfl)) ?_
 refine cq 2 [2] [.hs 66 0 [] 1 0 (r4.map str).length] 98 ?_
 obtain rfl:=Option.some.inj h
 exact aj rfl ⟨_,fin (vs:=[.hs 66 0 [] 1 0 (r4.map str).length]) rfl (fB (fk rfl (cN rfl rfl)) et) rfl (rG rfl (nM rfl) fK),rR fD⟩
theorem P4 {G:Go.Ln.Ground}:aI Tryz.prog G 187 DH:=gT 1 1 (aD Ix (aD MB bg)) (Checked.mixed Tryz.checked) Tryz.func187 (fun a r h=>S5 a r h)
def Fl:Contract→List V:=oA aG
def FK (r:(List ae)):V×List V:=(.usl 1 (r.map str),[])
noncomputable def uQ:Ent:=aR [false] Fl FK fun x=>vI x
theorem R6 {c_1:Contract}{r}(h:vI c_1=some r):uQ.F (Fl c_1)=some (FK r):=aC (aB aV) h
noncomputable def Sk:Code:=az Tryz.f125
noncomputable def Ki:Env:=bF Tryz.prog [(186,Dj),(187,DH)]
def Sw (x:Contract)(r:(List ae)):St→Prop:=QF Ki Tryz.f125 [false] (Fl x) (FK r)
theorem Lj (c_1:Contract):cd Ki 0 (Sw c_1) (cL (cL (cR (cL (cR (cR Sk)))))) 0 (ni c_1) (fun u=>(sT 25 [(3,.hs 1 0 [] 1 0 (u.map str).length)] [⟨0,1,u.map str⟩] 2)) fun x2=>(sT 25 [(3,.hs 1 0 [] 1 0 (x2.2.map str).length),(8,.isl false (c_1.Clauses.map aa)),(9,I (len c_1.Clauses)),(10,I x2.1)] [⟨0,1,x2.2.map str⟩] 2):=dT (BW c_1) fun {Q K} hK self ih x2 y h hr hn=>by
 unfold kD at h
 refine cq 5 [11] [B (decide (x2.1<(len c_1.Clauses)))] 18 ?_
 refine sq h (fun h=>?_) fun h=>?_
 ·refine aq 1 ?_
  refine aq 4 ?_
  obtain⟨e3,he3,h⟩:=bS h
  refine oq 34 (.iptr (.agg [str e3.Id,I e3.Kind,I e3.Party,str e3.Action,I e3.Other,I e3.Amount,I e3.When.Op,str e3.When.Name,I e3.When.Day,.isl false (e3.When.Parts.map ac),I e3.Within,str e3.Repair]) 0) rfl (ap rfl rfl rfl (aQ rfl rfl rfl rfl he3)) ?_
  refine ck 2 [5,13] [] [50] [] [.hp 50 0 [] 12 0 0,.agg [str e3.Id,I e3.Kind,I e3.Party,str e3.Action,I e3.Other,I e3.Amount,I e3.When.Op,str e3.When.Name,I e3.When.Day,.isl false (e3.When.Parts.map ac),I e3.Within,str e3.Repair]] [some ⟨0,12,[.agg [str ([]),I (0),I (0),str ([]),I (0),I (0),I (0),str ([]),I (0),.isl true [],I (0),str ([])]]⟩] 66 (by kernel_rfl) ?_
  refine d8 50 [.agg [str ([]),I (0),I (0),str ([]),I (0),I (0),I (0),str ([]),I (0),.usl 4 (([]).map ao),I (0),str ([])]] rfl rfl (au (fi (au (.refl _) (au (.refl _) (au (.refl _) (au (.refl _) (au (.refl _) (au (.refl _) (au (.refl _) (au (.refl _) (au (.refl _) (au (.nil _) (au (.refl _) (au (.refl _) dA))))))))))))) dA) ?_
  refine ck 2 [] [] [50] [] [] [some ⟨2,12,[.agg [str e3.Id,I e3.Kind,I e3.Party,str e3.Action,I e3.Other,I e3.Amount,I e3.When.Op,str e3.When.Name,I e3.When.Day,.isl false (e3.When.Parts.map ac),I e3.Within,str e3.Repair]]⟩] 82 (by kernel_rfl) ?_
  refine d7 [0,1,0,0,8,24,60,127,255] rfl (by decide +kernel) ?_
  refine dq [50] [] (.hp 50 0 [] 12 0 6) rfl (al rfl rfl rfl) ?_
  refine dq [50] [] (.agg [I e3.When.Op,str e3.When.Name,I e3.When.Day,.isl false (e3.When.Parts.map ac)]) rfl (aM rfl rfl) ?_
  refine dk 1 [16] [.hs 1 0 [] 1 0 (x2.2.map str).length] ?_
  refine dq [50] [] (.hp 50 0 [] 12 0 3) rfl (al rfl rfl rfl) ?_
  refine dq [50] [] (str e3.Action) rfl (aM rfl rfl) ?_
  refine dq [] [] (.hs 162 0 [] 1 0 1) rfl (f9 rfl (su (f:=I) (xs:=[]) (z:=str ([])) (es:=[str e3.Action]) (ws:=[str e3.Action]) rfl rfl rfl (by decide) rfl (em rfl) rfl)) ?_
  obtain⟨a4,ha4,h⟩:=bS h
  refine dq [1,162] [1] (.hs 178 0 [] 1 0 (a4.map str).length) rfl (ov rfl rfl rfl rfl rfl (tG (path:=[]) (f:=str) (xs:=x2.2) (ys:=[e3.Action]) rfl rfl (Db rfl rfl rfl) rfl rfl rfl aZ rfl (by decide) jz ha4 rfl ym)) ?_ (Ff rfl (FE (path:=[]) (f:=str) (xs:=[e3.Action]) rfl rfl aZ kA rfl))
  obtain⟨r5,hr5,h⟩:=bS h
  refine dq [178] [178] (.hs 194 0 [] 1 0 (r5.map str).length) rfl (co rfl rfl (cI rfl rfl rfl (b9 (cQ rfl) (sJ (pr rfl (ku (path:=[]) rfl rfl aZ rfl)) dD)) (Sj hr5) (.inr rfl) (rM rfl rfl rfl kG d9) rfl rfl rfl)) ?_ (dj rfl rfl rfl rfl (b9 (cQ rfl) (sJ (pr rfl (ku (path:=[]) rfl rfl aZ rfl)) dD)) (Sj hr5) (.inr rfl) rfl)
  refine dk 1 [3] [.hs 194 0 [] 1 0 (r5.map str).length] ?_
  refine de 226 rfl rfl ?_
  refine cq 5 [10] [I (ar (x2.1+1))] 258 ?_
  refine cG ?_
  exact rf [3,8,9,10] [194] (ih _ _ h hr hn :)
 ·refine aq 1 ?_
  exact rf [3] [1] (hn _ (Option.some.inj h).symm :) (hk:=hK)
theorem S2 (c_1:Contract)(r:(List ae))(h:vI c_1=some r):be Ki Tryz.f125 [false] 0 (Fl c_1) (FK r):=by
 show Run _ _ (Sw c_1 r) [.code Sk] _
 refine rI 25 [(0,.agg [.isl false (c_1.Parties.map str),.isl false (c_1.Clauses.map aa)])] [] 1 ?_
 unfold vI at h
 refine ck 7 [1] [] [1] [] [.hp 1 0 [] 2 0 0] [some ⟨0,2,[.agg [.isl false (c_1.Parties.map str),.isl false (c_1.Clauses.map aa)]]⟩] 33 (by kernel_rfl) ?_
 refine oq 49 (.hs 33 0 [] 1 0 0) rfl (f9 rfl (su (f:=I) (xs:=[]) (z:=str ([])) (es:=[]) (ws:=[]) rfl rfl rfl (by decide) rfl (em rfl) rfl)) ?_
 refine cq 7 [3,8] [.hs 33 0 [] 1 0 0,.isl false (c_1.Clauses.map aa)] 97 ?_
 refine oq 113 (I (len c_1.Clauses)) rfl (aX rfl rfl rfl (bc rfl)) ?_
 refine cq 3 [10] [I (0)] 129 ?_
 obtain⟨y6,hy6,hy61,hy62⟩:=bJ h
 refine bG rfl ?_
 refine rf [3,8,9,10] [33] (Lj c_1 rfl (0,[]) _ hy6 (fun r' e st hq=>by rw[hy61 r' e] at hq;exact hq) fun u6 hu=>?_)
 replace h:=hy62 u6 hu
 refine cq 3 [23] [.hs 1 0 [] 1 0 (u6.map str).length] 18 ?_
 obtain⟨r7,hr7,h⟩:=bS h
 refine oq 34 (.hs 18 0 [] 1 0 (r7.map str).length) rfl (co rfl rfl (cI rfl rfl rfl (sJ (pr rfl (ku (path:=[]) rfl rfl aZ rfl)) dD) (Wu hr7) (.inr rfl) (rM rfl rfl rfl kG d9) rfl rfl rfl)) ?_
 refine cq 2 [2] [.hs 18 0 [] 1 0 (r7.map str).length] 50 ?_
 obtain rfl:=Option.some.inj h
 exact aj rfl ⟨_,fin (vs:=[.hs 18 0 [] 1 0 (r7.map str).length]) rfl (fB (fk rfl (cN rfl rfl)) et) rfl (eZ fK),fD⟩
theorem G3 {G:Go.Ln.Ground}:aI Tryz.prog G 125 uQ:=gT 1 0 (aD QR (aD P4 bg)) (Checked.mixed Tryz.checked) Tryz.func125 (fun a r h=>S2 a r h)
def FC:Contract→List V:=oA aG
def Fi (r:Bool):V×List V:=(B r,[])
noncomputable def DQ:Ent:=aR [false] FC Fi fun x=>GR x
theorem WZ {c_1:Contract}{r}(h:GR c_1=some r):DQ.F (FC c_1)=some (Fi r):=aC (aB aV) h
noncomputable def Fk:Code:=az Tryz.f65
noncomputable def Fn:Env:=bF Tryz.prog [(123,DU),(124,DC),(125,uQ),(86,iR)]
def CP (x:Contract)(r:Bool):St→Prop:=QF Fn Tryz.f65 [false] (FC x) (Fi r)
theorem KE (c_1:Contract):cd Fn 0 (CP c_1) (cL (cL (cR (cL (cR (cR Fk)))))) 0 (lI c_1) (fun u=>(sT 30 [(1,.hp 1 0 [] 2 0 0)] [⟨0,2,[.agg [.isl false (c_1.Parties.map str),.isl false (c_1.Clauses.map aa)]]⟩] 2)) fun x4=>(sT 30 [(1,.hp 1 0 [] 2 0 0),(17,I (len c_1.Clauses)),(18,I x4)] [⟨0,2,[.agg [.isl false (c_1.Parties.map str),.isl false (c_1.Clauses.map aa)]]⟩] 2):=dT (BH c_1) fun {Q K} hK self ih x4 y h hr hn=>by
 unfold kB at h
 refine cq 5 [19] [B (decide (x4<(len c_1.Clauses)))] 18 ?_
 refine sq h (fun h=>?_) fun h=>?_
 ·refine aq 1 ?_
  refine cq 11 [21,22] [.agg [.isl false (c_1.Parties.map str),.isl false (c_1.Clauses.map aa)],I x4] 82 ?_
  obtain⟨r5,hr5,h⟩:=bS h
  refine oq 98 (B r5) rfl (cP (WJ hr5)) ?_
  refine cq 2 [24] [B (!r5)] 114 ?_
  refine sq h (fun h=>?_) fun h=>?_
  ·refine cq 4 [2] [B false] 130 ?_
   exact aj rfl (hr _ (Option.some.inj h).symm _ (qp [B false]))
  ·refine aq 1 ?_
   refine cq 5 [18] [I (ar (x4+1))] 146 ?_
   refine cG ?_
   exact rf [1,17,18] [1] (ih _ _ h hr hn :)
 ·refine aq 1 ?_
  exact rf [1] [1] (hn _ (Option.some.inj h).symm :) (hk:=hK)
theorem Tj (c_1:Contract)(r:Bool)(h:GR c_1=some r):be Fn Tryz.f65 [false] 0 (FC c_1) (Fi r):=by
 show Run _ _ (CP c_1 r) [.code Fk] _
 refine rI 30 [(0,.agg [.isl false (c_1.Parties.map str),.isl false (c_1.Clauses.map aa)])] [] 1 ?_
 unfold GR at h
 refine ck 10 [1,5] [] [1] [] [.hp 1 0 [] 2 0 0,.isl false (c_1.Parties.map str)] [some ⟨0,2,[.agg [.isl false (c_1.Parties.map str),.isl false (c_1.Clauses.map aa)]]⟩] 65 (by kernel_rfl) ?_
 obtain⟨r2,hr2,h⟩:=bS h
 refine oq 81 (B r2) rfl (cP (WD hr2)) ?_
 refine cq 2 [8] [B (!r2)] 113 ?_
 obtain⟨y3,hy3,hy31,hy32⟩:=bJ h
 have j3:∀u3,y3=.inr u3→Run Fn 0 (CP c_1 r) (.code (cR (cL (cR Fk)))::.code (cR (cR Fk))::[]) (sT 30 [(1,.hp 1 0 [] 2 0 0),(14,B u3)] [⟨0,2,[.agg [.isl false (c_1.Parties.map str),.isl false (c_1.Clauses.map aa)]]⟩] 2):=by
  intro u3 hu
  replace h:=hy32 u3 hu
  refine sq h (fun h=>?_) fun h=>?_
  ·refine cq 4 [2] [B false] 18 ?_
   obtain rfl:=Option.some.inj h
   exact aj rfl (qp [B false])
  ·refine aq 1 ?_
   refine cq 5 [16] [.isl false (c_1.Clauses.map aa)] 34 ?_
   refine oq 50 (I (len c_1.Clauses)) rfl (aX rfl rfl rfl (bc rfl)) ?_
   refine cq 3 [18] [I (0)] 66 ?_
   obtain⟨y6,hy6,hy61,hy62⟩:=bJ h
   refine bG rfl ?_
   refine rf [1,17,18] [1] (KE c_1 rfl 0 _ hy6 (fun r' e st hq=>by rw[hy61 r' e] at hq;exact hq) fun u6 hu=>?_)
   replace h:=hy62 u6 hu
   refine cq 3 [26] [.agg [.isl false (c_1.Parties.map str),.isl false (c_1.Clauses.map aa)]] 18 ?_
   obtain⟨r7,hr7,h⟩:=bS h
   refine oq 34 (.hs 18 0 [] 1 0 (r7.map str).length) rfl (cP (R6 hr7)) ?_
   refine oq 50 (I (len r7)) rfl (aX rfl rfl rfl (vb (f:=str) (xs:=r7) rfl rfl)) ?_
   refine cq 3 [2] [B (decide ((len r7)≤16))] 82 ?_
   obtain rfl:=Option.some.inj h
   exact aj rfl (qp [B (decide ((len r7)≤16))])
 have r3:∀r',y3=.inl r'→∀st,CP c_1 r' st→(CP c_1 r) st:=fun r' e st hq=>by rw[hy31 r' e] at hq;exact hq
 replace h:=hy3
 refine sp 8 h rfl (fun h=>?_) fun h=>?_
 ·refine cq 7 [14] [B true] 209 ?_
  exact rf [1,14] [1] (j3 _ (Option.some.inj h).symm :)
 ·refine cq 2 [10] [.isl false (c_1.Clauses.map aa)] 145 ?_
  refine oy 161 (I (len c_1.Clauses)) rfl (aX rfl rfl rfl (bc rfl)) ?_
  obtain⟨r8,hr8,h⟩:=bS h
  refine oy 177 (B r8) rfl (cP (iX hr8)) ?_
  refine cq 3 [14] [B (!r8)] 209 ?_
  exact rf [1,14] [1] (j3 _ (Option.some.inj h).symm :)
theorem PW {G:Go.Ln.Ground}:aI Tryz.prog G 65 DQ:=gT 1 0 (aD Qv (aD Qh (aD G3 (aD jr bg)))) (Checked.mixed Tryz.checked) Tryz.func65 (fun a r h=>Tj a r h)
def FJ:(List ae)→List V:=oA (ew str)
def E6 (r:Bool):V×List V:=(B r,[])
noncomputable def D1:Ent:=aR [false] FJ E6 fun x=>HS x
theorem Xd {facts_1:List ae}{r}(h:HS facts_1=some r):D1.F (FJ facts_1)=some (E6 r):=aC (aB (bz bm)) h
noncomputable def SD:Code:=az Tryz.f127
noncomputable abbrev qL:Code:=cL (cL (cR (cL (cR SD))))
noncomputable abbrev Nk:Code:=cR (cR (cL (cL (cR (cR qL)))))
noncomputable def AX:Env:=bF Tryz.prog [(159,nW)]
def Fb (x:(List ae))(r:Bool):St→Prop:=QF AX Tryz.f127 [false] (FJ x) (E6 r)
theorem KS (facts_1:List ae):cd AX 0 (Fb facts_1) qL 0 (lR facts_1) (fun u=>(sT 32 [(0,.isl false (facts_1.map str))] [] 1)) fun x2=>(sT 32 [(0,.isl false (facts_1.map str)),(5,.isl false (facts_1.map str)),(6,I (len facts_1)),(7,I x2)] [] 1):=dT (BE facts_1) fun {Q K} hK self ih x2 y h hr hn=>by
 unfold kv at h
 refine cq 5 [8] [B (decide (x2<(len facts_1)))] 17 ?_
 refine sq h (fun h=>?_) fun h=>?_
 ·refine aq 1 ?_
  refine cq 5 [9] [I x2] 33 ?_
  obtain⟨e3,he3,h⟩:=bS h
  refine oq 49 (.iptr (str e3) 0) rfl (ap rfl rfl rfl (aQ rfl rfl rfl rfl he3)) ?_
  refine cq 7 [3,4,12] [I x2,str e3,str e3] 113 ?_
  obtain⟨r4,hr4,h⟩:=bS h
  refine oq 129 (B r4) rfl (cP (AU hr4)) ?_
  refine cq 2 [15] [B (!r4)] 161 ?_
  obtain⟨y5,hy5,hy51,hy52⟩:=bL h
  have j5:∀u5,y5=.inr u5→Run AX 0 Q (.code Nk::.blk 1::.code (cR (cR (cR qL)))::.lp qL::.blk 0::K) (sT 32 [(0,.isl false (facts_1.map str)),(5,.isl false (facts_1.map str)),(6,I (len facts_1)),(7,I x2),(27,B u5)] [] 1):=by
   intro u5 hu
   replace h:=hy52 u5 hu
   refine sq h (fun h=>?_) fun h=>?_
   ·refine cq 4 [2] [B false] 17 ?_
    exact aj rfl (hr _ (Option.some.inj h).symm _ (qp [B false]))
   ·refine aq 1 ?_
    refine cq 5 [7] [I (ar (x2+1))] 33 ?_
    refine cG ?_
    exact rf [0,5,6,7] [] (ih _ _ h hr hn :)
  have r5:∀r',y5=.inl r'→∀st,Fb facts_1 r' st→Q st:=fun r' e st hq=>hr r' (hy51 r' e) st hq
  replace h:=hy5
  refine sp 15 h rfl (fun h=>?_) fun h=>?_
  ·refine cq 13 [27] [B true] 353 ?_
   exact rf [0,5,6,7,27] [] (j5 _ (Option.some.inj h).symm :)
  ·refine cq 3 [18] [B (decide (x2>0))] 209 ?_
   obtain⟨y6,hy6,hy61,hy62⟩:=bL h
   have j6:∀u6,y6=.inr u6→Run AX 0 Q (.code Nk::.blk 1::.code (cR (cR (cR qL)))::.lp qL::.blk 0::K) (sT 32 [(0,.isl false (facts_1.map str)),(5,.isl false (facts_1.map str)),(6,I (len facts_1)),(7,I x2),(27,B u6)] [] 1):=by
    intro u6 hu
    replace h:=hy62 u6 hu
    exact rf [0,5,6,7,27] [] (j5 _ (Option.some.inj h).symm :)
   have r6:∀r',y6=.inl r'→∀st,Fb facts_1 r' st→Q st:=fun r' e st hq=>r5 r' (hy61 r' e) st hq
   replace h:=hy6
   refine sp 18 h rfl (fun h=>?_) fun h=>?_
   ·refine cq 4 [19,20,22] [str e3,.isl false (facts_1.map str),I (ar (x2 - 1))] 273 ?_
    obtain⟨e7,he7,h⟩:=bS h
    refine oy 289 (.iptr (str e7) 0) rfl (ap rfl rfl rfl (aQ rfl rfl rfl rfl he7)) ?_
    refine cq 5 [27] [B (Op.bytesLess e3 e7||e3==e7)] 353 ?_
    exact rf [0,5,6,7,27] [] (j6 _ (Option.some.inj h).symm :)
   ·refine cq 10 [27] [B false] 353 ?_
    exact rf [0,5,6,7,27] [] (j6 _ (Option.some.inj h).symm :)
 ·refine aq 1 ?_
  exact rf [0] [] (hn _ (Option.some.inj h).symm :) (hk:=hK)
theorem Tx (facts_1:List ae)(r:Bool)(h:HS facts_1=some r):be AX Tryz.f127 [false] 0 (FJ facts_1) (E6 r):=by
 show Run _ _ (Fb facts_1 r) [.code SD] _
 refine rI 32 [(0,.isl false (facts_1.map str))] [] 1 ?_
 unfold HS at h
 refine cq 8 [5] [.isl false (facts_1.map str)] 33 ?_
 refine oq 49 (I (len facts_1)) rfl (aX rfl rfl rfl (bc rfl)) ?_
 refine cq 3 [7] [I (0)] 65 ?_
 obtain⟨y8,hy8,hy81,hy82⟩:=bJ h
 refine bG rfl ?_
 refine rf [0,5,6,7] [] (KS facts_1 rfl 0 _ hy8 (fun r' e st hq=>by rw[hy81 r' e] at hq;exact hq) fun u8 hu=>?_)
 replace h:=hy82 u8 hu
 refine cq 3 [29] [.isl false (facts_1.map str)] 17 ?_
 refine oq 33 (I (len facts_1)) rfl (aX rfl rfl rfl (bc rfl)) ?_
 refine cq 3 [2] [B (decide ((len facts_1)≤16))] 65 ?_
 obtain rfl:=Option.some.inj h
 exact aj rfl (qp [B (decide ((len facts_1)≤16))])
theorem Qm {G:Go.Ln.Ground}:aI Tryz.prog G 127 D1:=gT 1 0 (aD rk bg) (Checked.mixed Tryz.checked) Tryz.func127 (fun a r h=>Tx a r h)
def FM:(ae×(List ae))→List V:=cA str (oA (fun x:List ae=>.iptr ((ew str) x) 0))
def FB (r:Bool):V×List V:=(B r,[])
noncomputable def Dc:Ent:=aR [false,false] FM FB fun x=>G8 x.1 x.2
theorem W6 {f_1:ae}{a_2:List ae}{r}(h:G8 f_1 a_2=some r):Dc.F (FM (f_1,a_2))=some (FB r):=aC (aY bm (aB (oE (bz bm)))) h
noncomputable def Wq:Code:=az Tryz.f129
noncomputable def Sr:Env:=bF Tryz.prog [(130,ow)]
def Xc (x:ae×(List ae))(r:Bool):St→Prop:=QF Sr Tryz.f129 [false,false] (FM x) (FB r)
theorem TE (f_1:ae)(a_2:List ae)(r:Bool)(h:G8 f_1 a_2=some r):be Sr Tryz.f129 [false,false] 0 (FM (f_1,a_2)) (FB r):=by
 show Run _ _ (Xc (f_1,a_2) r) [.code Wq] _
 refine rI 8 [(0,str f_1),(1,.iptr (.isl false (a_2.map str)) 0)] [] 1 ?_
 unfold G8 at h
 refine cq 8 [4,5] [.isl false (a_2.map str),str f_1] 49 ?_
 obtain⟨r3,hr3,h⟩:=bS h
 refine oq 65 (B r3) rfl (cP (Hk hr3)) ?_
 refine cq 3 [3] [B (!r3)] 97 ?_
 obtain rfl:=Option.some.inj h
 exact aj rfl (qp [B (!r3)])
theorem Px {G:Go.Ln.Ground}:aI Tryz.prog G 129 Dc:=gT 2 0 (aD uG bg) (Checked.mixed Tryz.checked) Tryz.func129 (fun a r h=>TE a.1 a.2 r h)
def CS:((List ae)×(List ae))→List V:=cA (ew str) (oA (fun x:(List ae)=>(.fn 129 [.iptr ((ew str) x) 0]:V)))
def zE (r:Int):V×List V:=(I r,[])
noncomputable def yt:Ent:=aR [false,false] CS zE fun x=>DD x.1 x.2
theorem Vb {s_1:List ae}{f_2:(List ae)}{r}(h:DD s_1 f_2=some r):yt.F (CS (s_1,f_2))=some (zE r):=aC (aY (bz bm) (aB (qa (bz bm)))) h
noncomputable def OI:Code:=az Tryz.f188
noncomputable def GD:Env:=bF Tryz.prog [(129,Dc)]
def OD (x:(List ae)×(List ae))(r:Int):St→Prop:=QF GD Tryz.f188 [false,false] (CS x) (zE r)
theorem Ig (s_1:List ae)(f_2:(List ae)):cd GD 0 (OD (s_1,f_2)) (cL (cL (cR (cL (cR OI))))) 0 (qO s_1 f_2) (fun u=>(sT 19 [] [] 1)) fun x3=>(sT 19 [(0,.isl false (s_1.map str)),(1,.fn 129 [.iptr (.isl false (f_2.map str)) 0]),(7,I (len s_1)),(8,I x3)] [] 1):=dT (wt s_1 f_2) fun {Q K} hK self ih x3 y h hr hn=>by
 unfold lh at h
 refine cq 5 [9] [B (decide (x3<(len s_1)))] 17 ?_
 refine sq h (fun h=>?_) fun h=>?_
 ·refine aq 1 ?_
  refine cq 12 [5,11,12,13] [I x3,.fn 129 [.iptr (.isl false (f_2.map str)) 0],.isl false (s_1.map str),I x3] 97 ?_
  obtain⟨e4,he4,h⟩:=bS h
  refine oq 113 (.iptr (str e4) 0) rfl (ap rfl rfl rfl (aQ rfl rfl rfl rfl he4)) ?_
  refine cq 1 [15] [str e4] 129 ?_
  obtain⟨r5,hr5,h⟩:=bS h
  refine oq 145 (B r5) rfl (cP (W6 hr5)) ?_
  refine aq 1 ?_
  refine sq h (fun h=>?_) fun h=>?_
  ·refine cq 5 [4] [I x3] 177 ?_
   exact aj rfl (hr _ (Option.some.inj h).symm _ (qp [I x3]))
  ·refine aq 1 ?_
   refine cq 5 [8] [I (ar (x3+1))] 177 ?_
   refine cG ?_
   exact rf [0,1,7,8] [] (ih _ _ h hr hn :)
 ·refine aq 1 ?_
  exact rf [] [] (hn _ (Option.some.inj h).symm :) (hk:=hK)
theorem RP (s_1:List ae)(f_2:(List ae))(r:Int)(h:DD s_1 f_2=some r):be GD Tryz.f188 [false,false] 0 (CS (s_1,f_2)) (zE r):=by
 show Run _ _ (OD (s_1,f_2) r) [.code OI] _
 refine rI 19 [(0,.isl false (s_1.map str)),(1,.fn 129 [.iptr (.isl false (f_2.map str)) 0])] [] 1 ?_
 unfold DD at h
 refine cq 8 [6] [.isl false (s_1.map str)] 33 ?_
 refine oq 49 (I (len s_1)) rfl (aX rfl rfl rfl (bc rfl)) ?_
 refine cq 3 [8] [I (0)] 65 ?_
 obtain⟨y6,hy6,hy61,hy62⟩:=bJ h
 refine bG rfl ?_
 refine rf [0,1,7,8] [] (Ig s_1 f_2 rfl 0 _ hy6 (fun r' e st hq=>by rw[hy61 r' e] at hq;exact hq) fun u6 hu=>?_)
 replace h:=hy62 u6 hu
 refine cq 4 [4] [I (-1)] 17 ?_
 obtain rfl:=Option.some.inj h
 exact aj rfl (qp [I (-1)])
theorem MY {G:Go.Ln.Ground}:aI Tryz.prog G 188 yt:=gT 2 0 (aD Px bg) (Checked.mixed Tryz.checked) Tryz.func188 (fun a r h=>RP a.1 a.2 r h)
def zt:((List ae)×(List ae))→List V:=cA (ew str) (oA (fun x:(List ae)=>(.fn 129 [.iptr ((ew str) x) 0]:V)))
def zb (r:Bool):V×List V:=(B r,[])
noncomputable def wX:Ent:=aR [false,false] zt zb fun x=>Df x.1 x.2
theorem Vz {s_1:List ae}{f_2:(List ae)}{r}(h:Df s_1 f_2=some r):wX.F (zt (s_1,f_2))=some (zb r):=aC (aY (bz bm) (aB (qa (bz bm)))) h
noncomputable def Vi:Code:=az Tryz.f128
noncomputable def LO:Env:=bF Tryz.prog [(188,yt)]
def VN (x:(List ae)×(List ae))(r:Bool):St→Prop:=QF LO Tryz.f128 [false,false] (zt x) (zb r)
theorem QC (s_1:List ae)(f_2:(List ae))(r:Bool)(h:Df s_1 f_2=some r):be LO Tryz.f128 [false,false] 0 (zt (s_1,f_2)) (zb r):=by
 show Run _ _ (VN (s_1,f_2) r) [.code Vi] _
 refine rI 9 [(0,.isl false (s_1.map str)),(1,.fn 129 [.iptr (.isl false (f_2.map str)) 0])] [] 1 ?_
 unfold Df at h
 refine cq 8 [5,6] [.isl false (s_1.map str),.fn 129 [.iptr (.isl false (f_2.map str)) 0]] 49 ?_
 obtain⟨r3,hr3,h⟩:=bS h
 refine oq 65 (I r3) rfl (co rfl rfl (cI rfl rfl rfl (b9 (cQ rfl) (b9 (HP (dh (gM rfl) kg)) dD)) (Vb hr3) (.inr rfl) d9 rfl rfl rfl)) ?_
 refine cq 3 [4] [B (decide (r3≥0))] 97 ?_
 obtain rfl:=Option.some.inj h
 exact aj rfl (qp [B (decide (r3≥0))])
theorem LH {G:Go.Ln.Ground}:aI Tryz.prog G 128 wX:=gT 2 0 (aD MY bg) (Checked.mixed Tryz.checked) Tryz.func128 (fun a r h=>QC a.1 a.2 r h)
def Fy:(List Int)→List V:=oA (ew I)
def Fo (r:Int):V×List V:=(I r,[])
noncomputable def DB:Ent:=aR [false] Fy Fo fun x=>Eb x
theorem W8 {list_1:List Int}{r}(h:Eb list_1=some r):DB.F (Fy list_1)=some (Fo r):=aC (aB (bz bO)) h
noncomputable def Sz:Code:=az Tryz.f131
noncomputable def K8:Env:=bF Tryz.prog []
def R8 (x:(List Int))(r:Int):St→Prop:=QF K8 Tryz.f131 [false] (Fy x) (Fo r)
theorem Kf (list_1:List Int):cd K8 0 (R8 list_1) (cL (cL (cR (cL (cR (cR Sz)))))) 0 (HK list_1) (fun u=>(sT 17 [(3,I u)] [] 1)) fun x2=>(sT 17 [(3,I x2.1),(6,.isl false (list_1.map I)),(7,I (len list_1)),(8,I x2.2)] [] 1):=dT (KL list_1) fun {Q K} hK self ih x2 y h hr hn=>by
 unfold rD at h
 refine cq 5 [9] [B (decide (x2.2<(len list_1)))] 17 ?_
 refine sq h (fun h=>?_) fun h=>?_
 ·refine aq 1 ?_
  refine aq 4 ?_
  obtain⟨e3,he3,h⟩:=bS h
  refine oq 33 (.iptr (I e3) 0) rfl (ap rfl rfl rfl (aQ rfl rfl rfl rfl he3)) ?_
  refine cq 14 [3,8] [I (ar (x2.1+e3)),I (ar (x2.2+1))] 161 ?_
  refine cG ?_
  exact rf [3,6,7,8] [] (ih _ _ h hr hn :)
 ·refine aq 1 ?_
  exact rf [3] [] (hn _ (Option.some.inj h).symm :) (hk:=hK)
theorem TC (list_1:List Int)(r:Int)(h:Eb list_1=some r):be K8 Tryz.f131 [false] 0 (Fy list_1) (Fo r):=by
 show Run _ _ (R8 list_1 r) [.code Sz] _
 refine rI 17 [(0,.isl false (list_1.map I))] [] 1 ?_
 unfold Eb at h
 refine cq 12 [3,6] [I (0),.isl false (list_1.map I)] 49 ?_
 refine oq 65 (I (len list_1)) rfl (aX rfl rfl rfl (bc rfl)) ?_
 refine cq 3 [8] [I (0)] 81 ?_
 obtain⟨y4,hy4,hy41,hy42⟩:=bJ h
 refine bG rfl ?_
 refine rf [3,6,7,8] [] (Kf list_1 rfl (0,0) _ hy4 (fun r' e st hq=>by rw[hy41 r' e] at hq;exact hq) fun u4 hu=>?_)
 replace h:=hy42 u4 hu
 refine cq 5 [2] [I u4] 33 ?_
 obtain rfl:=Option.some.inj h
 exact aj rfl (qp [I u4])
theorem Rk {G:Go.Ln.Ground}:aI Tryz.prog G 131 DB:=gT 1 0 bg (Checked.mixed Tryz.checked) Tryz.func131 (fun a r h=>TC a r h)
def FH:(Clause×Contract×Int)→List V:=cA aa (cA (fun x:Contract=>.iptr (aG x) 0) (oA (fun x:Int=>.iptr (I x) 0)))
def Fc (r:Bool):V×List V:=(B r,[])
noncomputable def D4:Ent:=aR [false,false,false] FH Fc fun x=>Gj x.1 x.2.1 x.2.2
theorem Wm {x_1:Clause}{a_2:Contract}{a_3:Int}{r}(h:Gj x_1 a_2 a_3=some r):D4.F (FH (x_1,a_2,a_3))=some (Fc r):=aC (aY cp (aY (oE aV) (aB (oE bO)))) h
noncomputable def Wi:Code:=az Tryz.f222
noncomputable def Sg:Env:=bF Tryz.prog []
def Wt (x:Clause×Contract×Int)(r:Bool):St→Prop:=QF Sg Tryz.f222 [false,false,false] (FH x) (Fc r)
theorem SJ (x_1:Clause)(a_2:Contract)(a_3:Int)(r:Bool)(h:Gj x_1 a_2 a_3=some r):be Sg Tryz.f222 [false,false,false] 0 (FH (x_1,a_2,a_3)) (Fc r):=by
 show Run _ _ (Wt (x_1,a_2,a_3) r) [.code Wi] _
 refine rI 14 [(0,.agg [str x_1.Id,I x_1.Kind,I x_1.Party,str x_1.Action,I x_1.Other,I x_1.Amount,I x_1.When.Op,str x_1.When.Name,I x_1.When.Day,.isl false (x_1.When.Parts.map ac),I x_1.Within,str x_1.Repair]),(1,.iptr (.agg [.isl false (a_2.Parties.map str),.isl false (a_2.Clauses.map aa)]) 0),(2,.iptr (I a_3) 0)] [] 1 ?_
 unfold Gj at h
 refine ck 6 [3] [] [1] [] [.hp 1 0 [] 12 0 0] [some ⟨0,12,[.agg [str x_1.Id,I x_1.Kind,I x_1.Party,str x_1.Action,I x_1.Other,I x_1.Amount,I x_1.When.Op,str x_1.When.Name,I x_1.When.Day,.isl false (x_1.When.Parts.map ac),I x_1.Within,str x_1.Repair]]⟩] 33 (by kernel_rfl) ?_
 refine d7 [0,1,0,4,0,28,60,124,255,511] rfl (by decide +kernel) ?_
 refine dq [1] [] (.hp 1 0 [] 12 0 11) rfl (al rfl rfl rfl) ?_
 refine dq [1] [] (str x_1.Repair) rfl (aM rfl rfl) ?_
 refine dq [] [] (.iptr (.agg [.isl false (a_2.Parties.map str),.isl false (a_2.Clauses.map aa)]) 1) rfl (al rfl rfl rfl) ?_
 refine dq [] [] (.isl false (a_2.Clauses.map aa)) rfl (aM rfl rfl) ?_
 refine dq [] [] (I a_3) rfl (aM rfl rfl) ?_
 obtain⟨e4,he4,h⟩:=bS h
 refine dq [] [] (.iptr (.agg [str e4.Id,I e4.Kind,I e4.Party,str e4.Action,I e4.Other,I e4.Amount,I e4.When.Op,str e4.When.Name,I e4.When.Day,.isl false (e4.When.Parts.map ac),I e4.Within,str e4.Repair]) 0) rfl (ap rfl rfl rfl (aQ rfl rfl rfl rfl he4)) ?_
 refine dq [] [] (.iptr (.agg [str e4.Id,I e4.Kind,I e4.Party,str e4.Action,I e4.Other,I e4.Amount,I e4.When.Op,str e4.When.Name,I e4.When.Day,.isl false (e4.When.Parts.map ac),I e4.Within,str e4.Repair]) 0) rfl (al rfl rfl rfl) ?_
 refine dq [] [] (str e4.Id) rfl (aM rfl rfl) ?_
 refine dk 2 [4,13] [B (x_1.Repair==e4.Id),B (x_1.Repair==e4.Id)] ?_
 refine de 193 rfl rfl ?_
 obtain rfl:=Option.some.inj h
 exact aj rfl (qp [B (x_1.Repair==e4.Id)])
theorem PJ {G:Go.Ln.Ground}:aI Tryz.prog G 222 D4:=gT 3 0 bg (Checked.mixed Tryz.checked) Tryz.func222 (fun a r h=>SJ a.1 a.2.1 a.2.2 r h)
def zC:((List Clause)×(Contract×Int))→List V:=cA (ew aa) (oA (fun x:Contract×Int=>(.fn 222 [.iptr (aG x.1) 0,.iptr (I x.2) 0]:V)))
def BR (r:Int):V×List V:=(I r,[])
noncomputable def xF:Ent:=aR [false,false] zC BR fun x=>Dn x.1 x.2
theorem UV {s_1:List Clause}{f_2:Contract×Int}{r}(h:Dn s_1 f_2=some r):xF.F (zC (s_1,f_2))=some (BR r):=aC (aY (bz cp) (aB (Jp aV bO))) h
noncomputable def Mk:Code:=az Tryz.f160
noncomputable def F8:Env:=bF Tryz.prog [(222,D4)]
def LK (x:(List Clause)×(Contract×Int))(r:Int):St→Prop:=QF F8 Tryz.f160 [false,false] (zC x) (BR r)
theorem ID (s_1:List Clause)(f_2:Contract×Int):cd F8 0 (LK (s_1,f_2)) (cL (cL (cR (cL (cR Mk))))) 0 (qz s_1 f_2) (fun u=>(sT 19 [] [] 1)) fun x3=>(sT 19 [(0,.isl false (s_1.map aa)),(1,.fn 222 [.iptr (.agg [.isl false (f_2.1.Parties.map str),.isl false (f_2.1.Clauses.map aa)]) 0,.iptr (I f_2.2) 0]),(7,I (len s_1)),(8,I x3)] [] 1):=dT (wn s_1 f_2) fun {Q K} hK self ih x3 y h hr hn=>by
 unfold kV at h
 refine cq 5 [9] [B (decide (x3<(len s_1)))] 17 ?_
 refine sq h (fun h=>?_) fun h=>?_
 ·refine aq 1 ?_
  refine cq 12 [5,11,12,13] [I x3,.fn 222 [.iptr (.agg [.isl false (f_2.1.Parties.map str),.isl false (f_2.1.Clauses.map aa)]) 0,.iptr (I f_2.2) 0],.isl false (s_1.map aa),I x3] 97 ?_
  obtain⟨e4,he4,h⟩:=bS h
  refine oq 113 (.iptr (.agg [str e4.Id,I e4.Kind,I e4.Party,str e4.Action,I e4.Other,I e4.Amount,I e4.When.Op,str e4.When.Name,I e4.When.Day,.isl false (e4.When.Parts.map ac),I e4.Within,str e4.Repair]) 0) rfl (ap rfl rfl rfl (aQ rfl rfl rfl rfl he4)) ?_
  refine cq 1 [15] [.agg [str e4.Id,I e4.Kind,I e4.Party,str e4.Action,I e4.Other,I e4.Amount,I e4.When.Op,str e4.When.Name,I e4.When.Day,.isl false (e4.When.Parts.map ac),I e4.Within,str e4.Repair]] 129 ?_
  obtain⟨r5,hr5,h⟩:=bS h
  refine oq 145 (B r5) rfl (cP (Wm hr5)) ?_
  refine aq 1 ?_
  refine sq h (fun h=>?_) fun h=>?_
  ·refine cq 5 [4] [I x3] 177 ?_
   exact aj rfl (hr _ (Option.some.inj h).symm _ (qp [I x3]))
  ·refine aq 1 ?_
   refine cq 5 [8] [I (ar (x3+1))] 177 ?_
   refine cG ?_
   exact rf [0,1,7,8] [] (ih _ _ h hr hn :)
 ·refine aq 1 ?_
  exact rf [] [] (hn _ (Option.some.inj h).symm :) (hk:=hK)
theorem QI (s_1:List Clause)(f_2:Contract×Int)(r:Int)(h:Dn s_1 f_2=some r):be F8 Tryz.f160 [false,false] 0 (zC (s_1,f_2)) (BR r):=by
 show Run _ _ (LK (s_1,f_2) r) [.code Mk] _
 refine rI 19 [(0,.isl false (s_1.map aa)),(1,.fn 222 [.iptr (.agg [.isl false (f_2.1.Parties.map str),.isl false (f_2.1.Clauses.map aa)]) 0,.iptr (I f_2.2) 0])] [] 1 ?_
 unfold Dn at h
 refine cq 8 [6] [.isl false (s_1.map aa)] 33 ?_
 refine oq 49 (I (len s_1)) rfl (aX rfl rfl rfl (bc rfl)) ?_
 refine cq 3 [8] [I (0)] 65 ?_
 obtain⟨y6,hy6,hy61,hy62⟩:=bJ h
 refine bG rfl ?_
 refine rf [0,1,7,8] [] (ID s_1 f_2 rfl 0 _ hy6 (fun r' e st hq=>by rw[hy61 r' e] at hq;exact hq) fun u6 hu=>?_)
 replace h:=hy62 u6 hu
 refine cq 4 [4] [I (-1)] 17 ?_
 obtain rfl:=Option.some.inj h
 exact aj rfl (qp [I (-1)])
theorem Nv {G:Go.Ln.Ground}:aI Tryz.prog G 160 xF:=gT 2 0 (aD PJ bg) (Checked.mixed Tryz.checked) Tryz.func160 (fun a r h=>QI a.1 a.2 r h)
def Cf:((List Clause)×(Contract×Int))→List V:=cA (ew aa) (oA (fun x:Contract×Int=>(.fn 222 [.iptr (aG x.1) 0,.iptr (I x.2) 0]:V)))
def Cc (r:Bool):V×List V:=(B r,[])
noncomputable def yD:Ent:=aR [false,false] Cf Cc fun x=>Dg x.1 x.2
theorem VR {s_1:List Clause}{f_2:Contract×Int}{r}(h:Dg s_1 f_2=some r):yD.F (Cf (s_1,f_2))=some (Cc r):=aC (aY (bz cp) (aB (Jp aV bO))) h
noncomputable def Vc:Code:=az Tryz.f221
noncomputable def OW:Env:=bF Tryz.prog [(160,xF)]
def V4 (x:(List Clause)×(Contract×Int))(r:Bool):St→Prop:=QF OW Tryz.f221 [false,false] (Cf x) (Cc r)
theorem Ra (s_1:List Clause)(f_2:Contract×Int)(r:Bool)(h:Dg s_1 f_2=some r):be OW Tryz.f221 [false,false] 0 (Cf (s_1,f_2)) (Cc r):=by
 show Run _ _ (V4 (s_1,f_2) r) [.code Vc] _
 refine rI 9 [(0,.isl false (s_1.map aa)),(1,.fn 222 [.iptr (.agg [.isl false (f_2.1.Parties.map str),.isl false (f_2.1.Clauses.map aa)]) 0,.iptr (I f_2.2) 0])] [] 1 ?_
 unfold Dg at h
 refine cq 8 [5,6] [.isl false (s_1.map aa),.fn 222 [.iptr (.agg [.isl false (f_2.1.Parties.map str),.isl false (f_2.1.Clauses.map aa)]) 0,.iptr (I f_2.2) 0]] 49 ?_
 obtain⟨r3,hr3,h⟩:=bS h
 refine oq 65 (I r3) rfl (co rfl rfl (cI rfl rfl rfl (b9 (cQ rfl) (b9 (HP (dh (gM rfl) (dh (gM rfl) kg))) dD)) (UV hr3) (.inr rfl) d9 rfl rfl rfl)) ?_
 refine cq 3 [4] [B (decide (r3≥0))] 97 ?_
 obtain rfl:=Option.some.inj h
 exact aj rfl (qp [B (decide (r3≥0))])
theorem ML {G:Go.Ln.Ground}:aI Tryz.prog G 221 yD:=gT 2 0 (aD Nv bg) (Checked.mixed Tryz.checked) Tryz.func221 (fun a r h=>Ra a.1 a.2 r h)
def FY:(Contract×Int)→List V:=cA aG (oA I)
def FX (r:Bool):V×List V:=(B r,[])
noncomputable def C8:Ent:=aR [false,false] FY FX fun x=>Ge x.1 x.2
theorem Ww {c_1:Contract}{i_2:Int}{r}(h:Ge c_1 i_2=some r):C8.F (FY (c_1,i_2))=some (FX r):=aC (aY aV (aB bO)) h
noncomputable def W9:Code:=az Tryz.f190
noncomputable def SA:Env:=bF Tryz.prog [(221,yD)]
def WV (x:Contract×Int)(r:Bool):St→Prop:=QF SA Tryz.f190 [false,false] (FY x) (FX r)
theorem TW (c_1:Contract)(i_2:Int)(r:Bool)(h:Ge c_1 i_2=some r):be SA Tryz.f190 [false,false] 0 (FY (c_1,i_2)) (FX r):=by
 show Run _ _ (WV (c_1,i_2) r) [.code W9] _
 refine rI 9 [(0,.agg [.isl false (c_1.Parties.map str),.isl false (c_1.Clauses.map aa)]),(1,I i_2)] [] 1 ?_
 unfold Ge at h
 refine ck 11 [6,7] [] [1,17] [] [.isl false (c_1.Clauses.map aa),.fn 222 [.hp 1 0 [] 2 0 0,.hp 17 0 [] 1 0 0]] [some ⟨0,2,[.agg [.isl false (c_1.Parties.map str),.isl false (c_1.Clauses.map aa)]]⟩,some ⟨0,1,[I i_2]⟩] 97 (by kernel_rfl) ?_
 obtain⟨r3,hr3,h⟩:=bS h
 refine oq 113 (B r3) rfl (co rfl rfl (cI rfl rfl rfl (b9 (cQ rfl) (b9 (HP (dh (sS (path:=[]) rfl rfl aZ rfl rfl) (dh (sS (path:=[]) rfl rfl aZ rfl rfl) kg))) dD)) (VR hr3) (.inl rfl) d9 rfl rfl rfl)) ?_
 refine cq 2 [4] [B r3] 129 ?_
 obtain rfl:=Option.some.inj h
 exact aj rfl (qp [B r3])
theorem Rv {G:Go.Ln.Ground}:aI Tryz.prog G 190 C8:=gT 2 0 (aD ML bg) (Checked.mixed Tryz.checked) Tryz.func190 (fun a r h=>TW a.1 a.2 r h)
def Fe:(Duty×Duty)→List V:=cA ah (oA (fun x:Duty=>.iptr (ah x) 0))
def FI (r:Bool):V×List V:=(B r,[])
noncomputable def D3:Ent:=aR [false,false] Fe FI fun x=>Jw x.1 x.2
theorem W4 {other_1:Duty}{a_2:Duty}{r}(h:Jw other_1 a_2=some r):D3.F (Fe (other_1,a_2))=some (FI r):=aC (aY cZ (aB (oE cZ))) h
noncomputable def Wj:Code:=az Tryz.f191
noncomputable def SB:Env:=bF Tryz.prog []
def Xa (x:Duty×Duty)(r:Bool):St→Prop:=QF SB Tryz.f191 [false,false] (Fe x) (FI r)
theorem TY (other_1:Duty)(a_2:Duty)(r:Bool)(h:Jw other_1 a_2=some r):be SB Tryz.f191 [false,false] 0 (Fe (other_1,a_2)) (FI r):=by
 show Run _ _ (Xa (other_1,a_2) r) [.code Wj] _
 refine rI 9 [(0,ah other_1),(1,.iptr (ah a_2) 0)] [] 1 ?_
 unfold Jw at h
 refine cq 14 [3] [B (other_1.Clause==a_2.Clause)] 129 ?_
 obtain rfl:=Option.some.inj h
 exact aj rfl (qp [B (other_1.Clause==a_2.Clause)])
theorem Q9 {G:Go.Ln.Ground}:aI Tryz.prog G 191 D3:=gT 2 0 bg (Checked.mixed Tryz.checked) Tryz.func191 (fun a r h=>TY a.1 a.2 r h)
def zU:((List Duty)×Duty)→List V:=cA (ew ah) (oA (fun x:Duty=>(.fn 191 [.iptr (ah x) 0]:V)))
def Bm (r:Int):V×List V:=(I r,[])
noncomputable def xY:Ent:=aR [false,false] zU Bm fun x=>Dy x.1 x.2
theorem U6 {s_1:List Duty}{f_2:Duty}{r}(h:Dy s_1 f_2=some r):xY.F (zU (s_1,f_2))=some (Bm r):=aC (aY (bz cZ) (aB (qa cZ))) h
noncomputable def L7:Code:=az Tryz.f138
noncomputable def GB:Env:=bF Tryz.prog [(191,D3)]
def ME (x:(List Duty)×Duty)(r:Int):St→Prop:=QF GB Tryz.f138 [false,false] (zU x) (Bm r)
theorem IO (s_1:List Duty)(f_2:Duty):cd GB 0 (ME (s_1,f_2)) (cL (cL (cR (cL (cR L7))))) 0 (qo s_1 f_2) (fun u=>(sT 19 [] [] 1)) fun x3=>(sT 19 [(0,.isl false (s_1.map ah)),(1,.fn 191 [.iptr (ah f_2) 0]),(7,I (len s_1)),(8,I x3)] [] 1):=dT (wv s_1 f_2) fun {Q K} hK self ih x3 y h hr hn=>by
 unfold kY at h
 refine cq 5 [9] [B (decide (x3<(len s_1)))] 17 ?_
 refine sq h (fun h=>?_) fun h=>?_
 ·refine aq 1 ?_
  refine cq 12 [5,11,12,13] [I x3,.fn 191 [.iptr (ah f_2) 0],.isl false (s_1.map ah),I x3] 97 ?_
  obtain⟨e4,he4,h⟩:=bS h
  refine oq 113 (.iptr (ah e4) 0) rfl (ap rfl rfl rfl (aQ rfl rfl rfl rfl he4)) ?_
  refine cq 1 [15] [ah e4] 129 ?_
  obtain⟨r5,hr5,h⟩:=bS h
  refine oq 145 (B r5) rfl (cP (W4 hr5)) ?_
  refine aq 1 ?_
  refine sq h (fun h=>?_) fun h=>?_
  ·refine cq 5 [4] [I x3] 177 ?_
   exact aj rfl (hr _ (Option.some.inj h).symm _ (qp [I x3]))
  ·refine aq 1 ?_
   refine cq 5 [8] [I (ar (x3+1))] 177 ?_
   refine cG ?_
   exact rf [0,1,7,8] [] (ih _ _ h hr hn :)
 ·refine aq 1 ?_
  exact rf [] [] (hn _ (Option.some.inj h).symm :) (hk:=hK)
theorem QW (s_1:List Duty)(f_2:Duty)(r:Int)(h:Dy s_1 f_2=some r):be GB Tryz.f138 [false,false] 0 (zU (s_1,f_2)) (Bm r):=by
 show Run _ _ (ME (s_1,f_2) r) [.code L7] _
 refine rI 19 [(0,.isl false (s_1.map ah)),(1,.fn 191 [.iptr (ah f_2) 0])] [] 1 ?_
 unfold Dy at h
 refine cq 8 [6] [.isl false (s_1.map ah)] 33 ?_
 refine oq 49 (I (len s_1)) rfl (aX rfl rfl rfl (bc rfl)) ?_
 refine cq 3 [8] [I (0)] 65 ?_
 obtain⟨y6,hy6,hy61,hy62⟩:=bJ h
 refine bG rfl ?_
 refine rf [0,1,7,8] [] (IO s_1 f_2 rfl 0 _ hy6 (fun r' e st hq=>by rw[hy61 r' e] at hq;exact hq) fun u6 hu=>?_)
 replace h:=hy62 u6 hu
 refine cq 4 [4] [I (-1)] 17 ?_
 obtain rfl:=Option.some.inj h
 exact aj rfl (qp [I (-1)])
theorem Ni {G:Go.Ln.Ground}:aI Tryz.prog G 138 xY:=gT 2 0 (aD Q9 bg) (Checked.mixed Tryz.checked) Tryz.func138 (fun a r h=>QW a.1 a.2 r h)
def Cw:((List Duty)×Duty)→List V:=cA (ew ah) (oA (fun x:Duty=>(.fn 191 [.iptr (ah x) 0]:V)))
def A5 (r:Bool):V×List V:=(B r,[])
noncomputable def yi:Ent:=aR [false,false] Cw A5 fun x=>DZ x.1 x.2
theorem UL {s_1:List Duty}{f_2:Duty}{r}(h:DZ s_1 f_2=some r):yi.F (Cw (s_1,f_2))=some (A5 r):=aC (aY (bz cZ) (aB (qa cZ))) h
noncomputable def T9:Code:=az Tryz.f70
noncomputable def Pf:Env:=bF Tryz.prog [(138,xY)]
def V7 (x:(List Duty)×Duty)(r:Bool):St→Prop:=QF Pf Tryz.f70 [false,false] (Cw x) (A5 r)
theorem RK (s_1:List Duty)(f_2:Duty)(r:Bool)(h:DZ s_1 f_2=some r):be Pf Tryz.f70 [false,false] 0 (Cw (s_1,f_2)) (A5 r):=by
 show Run _ _ (V7 (s_1,f_2) r) [.code T9] _
 refine rI 9 [(0,.isl false (s_1.map ah)),(1,.fn 191 [.iptr (ah f_2) 0])] [] 1 ?_
 unfold DZ at h
 refine cq 8 [5,6] [.isl false (s_1.map ah),.fn 191 [.iptr (ah f_2) 0]] 49 ?_
 obtain⟨r3,hr3,h⟩:=bS h
 refine oq 65 (I r3) rfl (co rfl rfl (cI rfl rfl rfl (b9 (cQ rfl) (b9 (HP (dh (gM rfl) kg)) dD)) (U6 hr3) (.inr rfl) d9 rfl rfl rfl)) ?_
 refine cq 3 [4] [B (decide (r3≥0))] 97 ?_
 obtain rfl:=Option.some.inj h
 exact aj rfl (qp [B (decide (r3≥0))])
theorem Pj {G:Go.Ln.Ground}:aI Tryz.prog G 70 yi:=gT 2 0 (aD Ni bg) (Checked.mixed Tryz.checked) Tryz.func70 (fun a r h=>RK a.1 a.2 r h)
def E1:(Contract×State×Int)→List V:=cA aG (cA bX (oA I))
def Fm (r:Bool):V×List V:=(B r,[])
noncomputable def DY:Ent:=aR [false,false,false] E1 Fm fun x=>HC x.1 x.2.1 x.2.2
theorem Wx {c_1:Contract}{s_2:State}{i_3:Int}{r}(h:HC c_1 s_2 i_3=some r):DY.F (E1 (c_1,s_2,i_3))=some (Fm r):=aC (aY aV (aY cY (aB bO))) h
noncomputable def ie:Code:=az Tryz.f132
noncomputable def nC:Env:=bF Tryz.prog [(86,iR),(190,C8),(70,yi),(126,qk)]
def fA (x:Contract×State×Int)(r:Bool):St→Prop:=QF nC Tryz.f132 [false,false,false] (E1 x) (Fm r)
theorem Tv (c_1:Contract)(s_2:State)(i_3:Int)(r:Bool)(h:HC c_1 s_2 i_3=some r):be nC Tryz.f132 [false,false,false] 0 (E1 (c_1,s_2,i_3)) (Fm r):=by
 show Run _ _ (fA (c_1,s_2,i_3) r) [.code ie] _
 refine rI 114 [(0,.agg [.isl false (c_1.Parties.map str),.isl false (c_1.Clauses.map aa)]),(1,.agg [I s_2.Day,.isl false (s_2.Facts.map str),.isl false (s_2.Duties.map ah),.isl false (s_2.Balances.map I),B s_2.Over]),(2,I i_3)] [] 1 ?_
 unfold HC at h
 refine ck 11 [3,4,9,10] [] [1,17] [] [.hp 1 0 [] 2 0 0,.hp 17 0 [] 5 0 0,.isl false (s_2.Duties.map ah),I i_3] [some ⟨0,2,[.agg [.isl false (c_1.Parties.map str),.isl false (c_1.Clauses.map aa)]]⟩,some ⟨0,5,[.agg [I s_2.Day,.isl false (s_2.Facts.map str),.isl false (s_2.Duties.map ah),.isl false (s_2.Balances.map I),B s_2.Over]]⟩] 97 (by kernel_rfl) ?_
 obtain⟨e4,he4,h⟩:=bS h
 refine oq 113 (.iptr (ah e4) 0) rfl (ap rfl rfl rfl (aQ rfl rfl rfl rfl he4)) ?_
 refine ck 11 [7,14,16] [] [129] [] [.hp 129 0 [] 4 0 0,I e4.Clause,.isl false (c_1.Clauses.map aa)] [some ⟨0,4,[ah e4]⟩] 225 (by kernel_rfl) ?_
 refine oq 241 (I (len c_1.Clauses)) rfl (aX rfl rfl rfl (bc rfl)) ?_
 refine cq 1 [18] [I (ar ((len c_1.Clauses) - 1))] 257 ?_
 obtain⟨r5,hr5,h⟩:=bS h
 refine oq 273 (B r5) rfl (cP (iX hr5)) ?_
 refine cq 2 [21] [B (!r5)] 305 ?_
 obtain⟨y6,hy6,hy61,hy62⟩:=bJ h
 have j6:∀u6,y6=.inr u6→Run nC 0 (fA (c_1,s_2,i_3) r) (.code (cR (cL (cR (cR ie))))::.code (cR (cR (cR ie)))::[]) (sT 114 [(2,I i_3),(3,.hp 1 0 [] 2 0 0),(4,.hp 2 0 [] 5 0 0),(7,.hp 3 0 [] 4 0 0),(38,B u6)] [⟨0,2,[.agg [.isl false (c_1.Parties.map str),.isl false (c_1.Clauses.map aa)]]⟩,⟨0,5,[.agg [I s_2.Day,.isl false (s_2.Facts.map str),.isl false (s_2.Duties.map ah),.isl false (s_2.Balances.map I),B s_2.Over]]⟩,⟨0,4,[ah e4]⟩] 4):=by
  intro u6 hu
  replace h:=hy62 u6 hu
  refine sq h (fun h=>?_) fun h=>?_
  ·refine cq 4 [6] [B false] 20 ?_
   obtain rfl:=Option.some.inj h
   exact aj rfl (qp [B false])
  ·refine aq 1 ?_
   refine aq 2 ?_
   refine d7 [0,1,0,4,0,16,0,64,240,496,1008,2044,4095,8191,16383,32767,65535,131071,262143,524287,1048575,2097151,4194303,8388607,16777215,8388607,41943039,8388607,142606335,511705087,1048575999,2122317823,4294967295,8589934591,17179869183] rfl (by decide +kernel) ?_
   refine dq [3] [] (.hp 3 0 [] 4 0 2) rfl (al rfl rfl rfl) ?_
   refine dq [3] [] (I e4.Due) rfl (aM rfl rfl) ?_
   refine dq [3] [] (.hp 3 0 [] 4 0 1) rfl (al rfl rfl rfl) ?_
   refine dq [3] [] (I e4.Since) rfl (aM rfl rfl) ?_
   refine dq [1] [] (.hp 1 0 [] 2 0 1) rfl (al rfl rfl rfl) ?_
   refine dq [1] [] (.isl false (c_1.Clauses.map aa)) rfl (aM rfl rfl) ?_
   refine dq [3] [] (.hp 3 0 [] 4 0 0) rfl (al rfl rfl rfl) ?_
   refine dq [3] [] (I e4.Clause) rfl (aM rfl rfl) ?_
   obtain⟨e7,he7,h⟩:=bS h
   refine dq [] [] (.iptr (.agg [str e7.Id,I e7.Kind,I e7.Party,str e7.Action,I e7.Other,I e7.Amount,I e7.When.Op,str e7.When.Name,I e7.When.Day,.isl false (e7.When.Parts.map ac),I e7.Within,str e7.Repair]) 0) rfl (ap rfl rfl rfl (aQ rfl rfl rfl rfl he7)) ?_
   refine dq [] [] (.iptr (.agg [str e7.Id,I e7.Kind,I e7.Party,str e7.Action,I e7.Other,I e7.Amount,I e7.When.Op,str e7.When.Name,I e7.When.Day,.isl false (e7.When.Parts.map ac),I e7.Within,str e7.Repair]) 10) rfl (al rfl rfl rfl) ?_
   refine dq [] [] (I e7.Within) rfl (aM rfl rfl) ?_
   refine dk 3 [52,51,50] [B (e4.Due != (ar (e4.Since+e7.Within))),B (e4.Due != (ar (e4.Since+e7.Within))),I (ar (e4.Since+e7.Within))] ?_
   obtain⟨y8,hy8,hy81,hy82⟩:=bJ h
   have j8:∀u8,y8=.inr u8→Run nC 0 (fA (c_1,s_2,i_3) r) (.code (cR (cL (cR (cR (cR ie)))))::.code (cR (cR (cR (cR ie))))::[]) (sT 114 [(2,I i_3),(3,.hp 1 0 [] 2 0 0),(4,.hp 2 0 [] 5 0 0),(7,.hp 3 0 [] 4 0 0),(73,B u8)] [⟨0,2,[.agg [.isl false (c_1.Parties.map str),.isl false (c_1.Clauses.map aa)]]⟩,⟨0,5,[.agg [I s_2.Day,.isl false (s_2.Facts.map str),.isl false (s_2.Duties.map ah),.isl false (s_2.Balances.map I),B s_2.Over]]⟩,⟨0,4,[ah e4]⟩] 4):=by
    intro u8 hu
    replace h:=hy82 u8 hu
    refine sq h (fun h=>?_) fun h=>?_
    ·refine cq 4 [6] [B false] 20 ?_
     obtain rfl:=Option.some.inj h
     exact aj rfl (qp [B false])
    ·refine aq 1 ?_
     refine cq 6 [74,76] [.agg [.isl false (c_1.Parties.map str),.isl false (c_1.Clauses.map aa)],I e4.Clause] 52 ?_
     obtain⟨r9,hr9,h⟩:=bS h
     refine oq 68 (B r9) rfl (cP (Ww hr9)) ?_
     refine cq 2 [79] [B (!r9)] 100 ?_
     obtain⟨y10,hy10,hy101,hy102⟩:=bJ h
     have j10:∀u10,y10=.inr u10→Run nC 0 (fA (c_1,s_2,i_3) r) (.code (cR (cL (cR (cR (cR (cR ie))))))::.code (cR (cR (cR (cR (cR ie)))))::[]) (sT 114 [(4,.hp 1 0 [] 5 0 0),(7,.hp 2 0 [] 4 0 0),(86,B u10)] [⟨0,5,[.agg [I s_2.Day,.isl false (s_2.Facts.map str),.isl false (s_2.Duties.map ah),.isl false (s_2.Balances.map I),B s_2.Over]]⟩,⟨0,4,[ah e4]⟩] 3):=by
      intro u10 hu
      replace h:=hy102 u10 hu
      refine sq h (fun h=>?_) fun h=>?_
      ·refine cq 4 [6] [B false] 19 ?_
       obtain rfl:=Option.some.inj h
       exact aj rfl (qp [B false])
      ·refine aq 1 ?_
       refine cq 12 [88,89] [I e4.Status,B (e4.Status==1)] 67 ?_
       refine sq h (fun h=>?_) fun h=>?_
       ·refine cq 8 [96] [B (decide (e4.Due≥s_2.Day))] 163 ?_
        obtain⟨u11,hu11,h⟩:=lJ h
        have j11:Run nC 0 (fA (c_1,s_2,i_3) r) (.code (cR (cL (cR (cL (cR (cL (cR (cR (cR (cR (cR ie)))))))))))::.blk 0::.code (cR (cR (cR (cR (cR (cR ie))))))::[]) (sT 114 [(6,B u11)] [] 1):=by
         obtain rfl:=Option.some.inj h
         exact aj rfl (qp [B u11])
        replace h:=hu11
        clear hu11
        refine sp 96 h rfl (fun h=>?_) fun h=>?_
        ·refine cq 6 [6] [B (!s_2.Over)] 243 ?_
         subst h
         exact rf [6] [] (j11 :)
        ·refine cq 6 [6] [B false] 243 ?_
         subst h
         exact rf [6] [] (j11 :)
       ·refine cq 5 [101] [B (e4.Status==2)] 99 ?_
        refine sq h (fun h=>?_) fun h=>?_
        ·refine cq 4 [6] [B true] 115 ?_
         obtain rfl:=Option.some.inj h
         exact aj rfl (qp [B true])
        ·refine cq 5 [103] [B (e4.Status==3)] 131 ?_
         refine sq h (fun h=>?_) fun h=>?_
         ·refine cq 9 [6] [B (decide (e4.Due<s_2.Day))] 227 ?_
          obtain rfl:=Option.some.inj h
          exact aj rfl (qp [B (decide (e4.Due<s_2.Day))])
         ·refine cq 5 [110] [B (e4.Status==4)] 163 ?_
          refine sq h (fun h=>?_) fun h=>?_
          ·refine cq 6 [6] [B s_2.Over] 211 ?_
           obtain rfl:=Option.some.inj h
           exact aj rfl (qp [B s_2.Over])
          ·refine aq 1 ?_
           refine cq 5 [6] [B false] 179 ?_
           obtain rfl:=Option.some.inj h
           exact aj rfl (qp [B false])
     have r10:∀r',y10=.inl r'→∀st,fA (c_1,s_2,i_3) r' st→(fA (c_1,s_2,i_3) r) st:=fun r' e st hq=>by rw[hy101 r' e] at hq;exact hq
     replace h:=hy10
     refine sp 79 h rfl (fun h=>?_) fun h=>?_
     ·refine cq 3 [81,82] [.isl false (s_2.Duties.map ah),I i_3] 148 ?_
      obtain⟨s12,hs12,h⟩:=bS h
      refine oy 164 (.isl false (s12.map ah)) rfl (gf rfl rfl rfl rfl (HW rfl rfl (fun y=>(DX y).1) rfl rfl hs12)) ?_
      refine cq 1 [84] [.fn 191 [.hp 3 0 [] 4 0 0]] 180 ?_
      obtain⟨r13,hr13,h⟩:=bS h
      refine oy 196 (B r13) rfl (co rfl rfl (cI rfl rfl rfl (b9 (cQ rfl) (b9 (HP (dh (sS (path:=[]) rfl rfl aZ rfl rfl) kg)) dD)) (UL hr13) (.inl rfl) d9 rfl rfl rfl)) ?_
      refine cq 2 [86] [B r13] 212 ?_
      exact rf [4,7,86] [2,3] (j10 _ (Option.some.inj h).symm :)
     ·refine cq 8 [86] [B false] 212 ?_
      exact rf [4,7,86] [2,3] (j10 _ (Option.some.inj h).symm :)
   have r8:∀r',y8=.inl r'→∀st,fA (c_1,s_2,i_3) r' st→(fA (c_1,s_2,i_3) r) st:=fun r' e st hq=>by rw[hy81 r' e] at hq;exact hq
   replace h:=hy8
   refine sp 52 h rfl (fun h=>?_) fun h=>?_
   ·refine dk 21 [73,72,71,70,69,68,67,66,65,64,63,62,61,60,59,58,57,56,55,54,53] [B true,.und,.und,.und,.und,.und,.und,.und,.und,.und,.und,.und,.und,.und,.und,B true,B true,.und,.und,.und,.und] ?_
    refine de 564 rfl rfl ?_
    exact rf [2,3,4,7,73] [1,2,3] (j8 _ (Option.some.inj h).symm :)
   ·refine dy [3] [] (.hp 3 0 [] 4 0 2) rfl (al rfl rfl rfl) ?_
    refine dy [3] [] (I e4.Due) rfl (aM rfl rfl) ?_
    obtain⟨r14,hr14,h⟩:=bS h
    refine dy [] [] (B r14) rfl (cP (sh hr14)) ?_ (dj rfl rfl rfl rfl (b9 (cQ rfl) dD) (sh hr14) (.inr rfl) rfl)
    refine dk 3 [58,57,56] [B (!r14),B (!r14),B (!r14)] ?_
    obtain⟨y15,hy15,hy151,hy152⟩:=bL h
    have j15:∀u15,y15=.inr u15→Run nC 0 (fA (c_1,s_2,i_3) r) (.code (cR (cL (cR (cR (cR ie)))))::.code (cR (cR (cR (cR ie))))::[]) (sT 114 [(2,I i_3),(3,.hp 1 0 [] 2 0 0),(4,.hp 2 0 [] 5 0 0),(7,.hp 3 0 [] 4 0 0),(73,B u15)] [⟨0,2,[.agg [.isl false (c_1.Parties.map str),.isl false (c_1.Clauses.map aa)]]⟩,⟨0,5,[.agg [I s_2.Day,.isl false (s_2.Facts.map str),.isl false (s_2.Duties.map ah),.isl false (s_2.Balances.map I),B s_2.Over]]⟩,⟨0,4,[ah e4]⟩] 4):=by
     intro u15 hu
     replace h:=hy152 u15 hu
     exact rf [2,3,4,7,73] [1,2,3] (j8 _ (Option.some.inj h).symm :)
    have r15:∀r',y15=.inl r'→∀st,fA (c_1,s_2,i_3) r' st→(fA (c_1,s_2,i_3) r) st:=fun r' e st hq=>r8 r' (hy151 r' e) st hq
    replace h:=hy15
    refine sp 58 h rfl (fun h=>?_) fun h=>?_
    ·refine dk 15 [73,72,71,70,69,68,67,66,65,64,63,62,61,60,59] [B true,.und,.und,.und,.und,.und,.und,.und,.und,.und,.und,.und,.und,.und,.und] ?_
     refine de 564 rfl rfl ?_
     exact rf [2,3,4,7,73] [1,2,3] (j15 _ (Option.some.inj h).symm :)
    ·refine dk 3 [61,60,59] [B (decide (i_3>0)),B (decide (i_3>0)),I i_3] ?_
     obtain⟨y16,hy16,hy161,hy162⟩:=bL h
     have j16:∀u16,y16=.inr u16→Run nC 0 (fA (c_1,s_2,i_3) r) (.code (cR (cL (cR (cR (cR ie)))))::.code (cR (cR (cR (cR ie))))::[]) (sT 114 [(2,I i_3),(3,.hp 1 0 [] 2 0 0),(4,.hp 2 0 [] 5 0 0),(7,.hp 3 0 [] 4 0 0),(73,B u16)] [⟨0,2,[.agg [.isl false (c_1.Parties.map str),.isl false (c_1.Clauses.map aa)]]⟩,⟨0,5,[.agg [I s_2.Day,.isl false (s_2.Facts.map str),.isl false (s_2.Duties.map ah),.isl false (s_2.Balances.map I),B s_2.Over]]⟩,⟨0,4,[ah e4]⟩] 4):=by
      intro u16 hu
      replace h:=hy162 u16 hu
      exact rf [2,3,4,7,73] [1,2,3] (j15 _ (Option.some.inj h).symm :)
     have r16:∀r',y16=.inl r'→∀st,fA (c_1,s_2,i_3) r' st→(fA (c_1,s_2,i_3) r) st:=fun r' e st hq=>r15 r' (hy161 r' e) st hq
     replace h:=hy16
     refine sp 61 h rfl (fun h=>?_) fun h=>?_
     ·refine dy [3] [] (.hp 3 0 [] 4 0 1) rfl (al rfl rfl rfl) ?_
      refine dy [3] [] (I e4.Since) rfl (aM rfl rfl) ?_
      refine dy [2] [] (.hp 2 0 [] 5 0 2) rfl (al rfl rfl rfl) ?_
      refine dy [2] [] (.isl false (s_2.Duties.map ah)) rfl (aM rfl rfl) ?_
      refine dk 2 [67,66] [I (ar (i_3 - 1)),I i_3] ?_
      obtain⟨e17,he17,h⟩:=bS h
      refine dy [] [] (.iptr (ah e17) 0) rfl (ap rfl rfl rfl (aQ rfl rfl rfl rfl he17)) ?_
      refine dy [] [] (.iptr (ah e17) 1) rfl (al rfl rfl rfl) ?_
      refine dy [] [] (I e17.Since) rfl (aM rfl rfl) ?_
      refine dk 3 [73,72,71] [B (decide (e4.Since<e17.Since)),B (decide (e4.Since<e17.Since)),B (decide (e4.Since<e17.Since))] ?_
      refine de 564 rfl rfl ?_
      exact rf [2,3,4,7,73] [1,2,3] (j16 _ (Option.some.inj h).symm :)
     ·refine dk 12 [73,72,71,70,69,68,67,66,65,64,63,62] [B false,B false,.und,.und,.und,.und,.und,.und,.und,.und,.und,.und] ?_
      refine de 564 rfl rfl ?_
      exact rf [2,3,4,7,73] [1,2,3] (j16 _ (Option.some.inj h).symm :)
 have r6:∀r',y6=.inl r'→∀st,fA (c_1,s_2,i_3) r' st→(fA (c_1,s_2,i_3) r) st:=fun r' e st hq=>by rw[hy61 r' e] at hq;exact hq
 replace h:=hy6
 refine sp 21 h rfl (fun h=>?_) fun h=>?_
 ·refine cq 18 [38] [B true] 577 ?_
  exact rf [2,3,4,7,38] [1,17,129] (j6 _ (Option.some.inj h).symm :)
 ·refine cq 4 [23,25] [.isl false (c_1.Clauses.map aa),I e4.Clause] 369 ?_
  obtain⟨e18,he18,h⟩:=bS h
  refine oy 385 (.iptr (.agg [str e18.Id,I e18.Kind,I e18.Party,str e18.Action,I e18.Other,I e18.Amount,I e18.When.Op,str e18.When.Name,I e18.When.Day,.isl false (e18.When.Parts.map ac),I e18.Within,str e18.Repair]) 0) rfl (ap rfl rfl rfl (aQ rfl rfl rfl rfl he18)) ?_
  refine cq 5 [31] [B (e18.Kind != 1)] 465 ?_
  obtain⟨y19,hy19,hy191,hy192⟩:=bL h
  have j19:∀u19,y19=.inr u19→Run nC 0 (fA (c_1,s_2,i_3) r) (.code (cR (cL (cR (cR ie))))::.code (cR (cR (cR ie)))::[]) (sT 114 [(2,I i_3),(3,.hp 1 0 [] 2 0 0),(4,.hp 2 0 [] 5 0 0),(7,.hp 3 0 [] 4 0 0),(38,B u19)] [⟨0,2,[.agg [.isl false (c_1.Parties.map str),.isl false (c_1.Clauses.map aa)]]⟩,⟨0,5,[.agg [I s_2.Day,.isl false (s_2.Facts.map str),.isl false (s_2.Duties.map ah),.isl false (s_2.Balances.map I),B s_2.Over]]⟩,⟨0,4,[ah e4]⟩] 4):=by
   intro u19 hu
   replace h:=hy192 u19 hu
   exact rf [2,3,4,7,38] [1,2,3] (j6 _ (Option.some.inj h).symm :)
  have r19:∀r',y19=.inl r'→∀st,fA (c_1,s_2,i_3) r' st→(fA (c_1,s_2,i_3) r) st:=fun r' e st hq=>r6 r' (hy191 r' e) st hq
  replace h:=hy19
  refine sp 31 h rfl (fun h=>?_) fun h=>?_
  ·refine cq 8 [38] [B true] 577 ?_
   exact rf [2,3,4,7,38] [1,17,129] (j19 _ (Option.some.inj h).symm :)
  ·refine cq 4 [33,35] [I e4.Since,I s_2.Day] 529 ?_
   obtain⟨r20,hr20,h⟩:=bS h
   refine oy 545 (B r20) rfl (cP (iX hr20)) ?_
   refine cq 3 [38] [B (!r20)] 577 ?_
   exact rf [2,3,4,7,38] [1,17,129] (j19 _ (Option.some.inj h).symm :)
theorem RI {G:Go.Ln.Ground}:aI Tryz.prog G 132 DY:=gT 3 0 (aD jr (aD Rv (aD Pj (aD wI bg)))) (Checked.mixed Tryz.checked) Tryz.func132 (fun a r h=>Tv a.1 a.2.1 a.2.2 r h)
def E2:Int→List V:=oA I
def EZ (r:Bool):V×List V:=(B r,[])
noncomputable def DG:Ent:=aR [false] E2 EZ fun x=>JI x
theorem Wz {x_1:Int}{r}(h:JI x_1=some r):DG.F (E2 x_1)=some (EZ r):=aC (aB bO) h
noncomputable def Ws:Code:=az Tryz.f135
noncomputable def Sx:Env:=bF Tryz.prog [(86,iR)]
def WT (x:Int)(r:Bool):St→Prop:=QF Sx Tryz.f135 [false] (E2 x) (EZ r)
theorem TL (x_1:Int)(r:Bool)(h:JI x_1=some r):be Sx Tryz.f135 [false] 0 (E2 x_1) (EZ r):=by
 show Run _ _ (WT x_1 r) [.code Ws] _
 refine rI 5 [(0,I x_1)] [] 1 ?_
 unfold JI at h
 refine cq 7 [3] [I x_1] 33 ?_
 obtain⟨r2,hr2,h⟩:=bS h
 refine oq 49 (B r2) rfl (cP (iX hr2)) ?_
 refine cq 2 [2] [B r2] 65 ?_
 obtain rfl:=Option.some.inj h
 exact aj rfl (qp [B r2])
theorem PV {G:Go.Ln.Ground}:aI Tryz.prog G 135 DG:=gT 1 0 (aD jr bg) (Checked.mixed Tryz.checked) Tryz.func135 (fun a r h=>TL a r h)
def FD:Int→List V:=oA I
def FL (r:Bool):V×List V:=(B r,[])
noncomputable def Dz:Ent:=aR [false] FD FL fun x=>Hz x
theorem WU {b_1:Int}{r}(h:Hz b_1=some r):Dz.F (FD b_1)=some (FL r):=aC (aB bO) h
noncomputable def WA:Code:=az Tryz.f134
noncomputable def Se:Env:=bF Tryz.prog [(135,DG)]
def WG (x:Int)(r:Bool):St→Prop:=QF Se Tryz.f134 [false] (FD x) (FL r)
theorem S4 (b_1:Int)(r:Bool)(h:Hz b_1=some r):be Se Tryz.f134 [false] 0 (FD b_1) (FL r):=by
 show Run _ _ (WG b_1 r) [.code WA] _
 refine rI 6 [(0,I b_1)] [] 1 ?_
 unfold Hz at h
 refine cq 7 [3] [I b_1] 33 ?_
 obtain⟨r2,hr2,h⟩:=bS h
 refine oq 49 (B r2) rfl (cP (Wz hr2)) ?_
 refine cq 3 [2] [B (!r2)] 81 ?_
 obtain rfl:=Option.some.inj h
 exact aj rfl (qp [B (!r2)])
theorem PA {G:Go.Ln.Ground}:aI Tryz.prog G 134 Dz:=gT 1 0 (aD PV bg) (Checked.mixed Tryz.checked) Tryz.func134 (fun a r h=>S4 a r h)
def zx:((List Int)×Unit)→List V:=cA (ew I) (oA (fun x:Unit=>(.fn 134 []:V)))
def Ap (r:Int):V×List V:=(I r,[])
noncomputable def xe:Ent:=aR [false,false] zx Ap fun x=>Dv x.1 x.2
theorem VV {s_1:List Int}{f_2:Unit}{r}(h:Dv s_1 f_2=some r):xe.F (zx (s_1,f_2))=some (Ap r):=aC (aY (bz bO) (aB (JL ))) h
noncomputable def L9:Code:=az Tryz.f192
noncomputable def HQ:Env:=bF Tryz.prog [(134,Dz)]
def MC (x:(List Int)×Unit)(r:Int):St→Prop:=QF HQ Tryz.f192 [false,false] (zx x) (Ap r)
theorem Io (s_1:List Int)(f_2:Unit):cd HQ 0 (MC (s_1,f_2)) (cL (cL (cR (cL (cR L9))))) 0 (qY s_1 f_2) (fun u=>(sT 19 [] [] 1)) fun x3=>(sT 19 [(0,.isl false (s_1.map I)),(1,.fn 134 []),(7,I (len s_1)),(8,I x3)] [] 1):=dT (we s_1 f_2) fun {Q K} hK self ih x3 y h hr hn=>by
 unfold lj at h
 refine cq 5 [9] [B (decide (x3<(len s_1)))] 17 ?_
 refine sq h (fun h=>?_) fun h=>?_
 ·refine aq 1 ?_
  refine cq 12 [5,11,12,13] [I x3,.fn 134 [],.isl false (s_1.map I),I x3] 97 ?_
  obtain⟨e4,he4,h⟩:=bS h
  refine oq 113 (.iptr (I e4) 0) rfl (ap rfl rfl rfl (aQ rfl rfl rfl rfl he4)) ?_
  refine cq 1 [15] [I e4] 129 ?_
  obtain⟨r5,hr5,h⟩:=bS h
  refine oq 145 (B r5) rfl (cP (WU hr5)) ?_
  refine aq 1 ?_
  refine sq h (fun h=>?_) fun h=>?_
  ·refine cq 5 [4] [I x3] 177 ?_
   exact aj rfl (hr _ (Option.some.inj h).symm _ (qp [I x3]))
  ·refine aq 1 ?_
   refine cq 5 [8] [I (ar (x3+1))] 177 ?_
   refine cG ?_
   exact rf [0,1,7,8] [] (ih _ _ h hr hn :)
 ·refine aq 1 ?_
  exact rf [] [] (hn _ (Option.some.inj h).symm :) (hk:=hK)
theorem RH (s_1:List Int)(f_2:Unit)(r:Int)(h:Dv s_1 f_2=some r):be HQ Tryz.f192 [false,false] 0 (zx (s_1,f_2)) (Ap r):=by
 show Run _ _ (MC (s_1,f_2) r) [.code L9] _
 refine rI 19 [(0,.isl false (s_1.map I)),(1,.fn 134 [])] [] 1 ?_
 unfold Dv at h
 refine cq 8 [6] [.isl false (s_1.map I)] 33 ?_
 refine oq 49 (I (len s_1)) rfl (aX rfl rfl rfl (bc rfl)) ?_
 refine cq 3 [8] [I (0)] 65 ?_
 obtain⟨y6,hy6,hy61,hy62⟩:=bJ h
 refine bG rfl ?_
 refine rf [0,1,7,8] [] (Io s_1 f_2 rfl 0 _ hy6 (fun r' e st hq=>by rw[hy61 r' e] at hq;exact hq) fun u6 hu=>?_)
 replace h:=hy62 u6 hu
 refine cq 4 [4] [I (-1)] 17 ?_
 obtain rfl:=Option.some.inj h
 exact aj rfl (qp [I (-1)])
theorem OP {G:Go.Ln.Ground}:aI Tryz.prog G 192 xe:=gT 2 0 (aD PA bg) (Checked.mixed Tryz.checked) Tryz.func192 (fun a r h=>RH a.1 a.2 r h)
def BS:((List Int)×Unit)→List V:=cA (ew I) (oA (fun x:Unit=>(.fn 134 []:V)))
def zA (r:Bool):V×List V:=(B r,[])
noncomputable def yS:Ent:=aR [false,false] BS zA fun x=>Di x.1 x.2
theorem Ue {s_1:List Int}{f_2:Unit}{r}(h:Di s_1 f_2=some r):yS.F (BS (s_1,f_2))=some (zA r):=aC (aY (bz bO) (aB (JL ))) h
noncomputable def VI:Code:=az Tryz.f133
noncomputable def MV:Env:=bF Tryz.prog [(192,xe)]
def Uj (x:(List Int)×Unit)(r:Bool):St→Prop:=QF MV Tryz.f133 [false,false] (BS x) (zA r)
theorem Qn (s_1:List Int)(f_2:Unit)(r:Bool)(h:Di s_1 f_2=some r):be MV Tryz.f133 [false,false] 0 (BS (s_1,f_2)) (zA r):=by
 show Run _ _ (Uj (s_1,f_2) r) [.code VI] _
 refine rI 9 [(0,.isl false (s_1.map I)),(1,.fn 134 [])] [] 1 ?_
 unfold Di at h
 refine cq 8 [5,6] [.isl false (s_1.map I),.fn 134 []] 49 ?_
 obtain⟨r3,hr3,h⟩:=bS h
 refine oq 65 (I r3) rfl (cP (VV hr3)) ?_
 refine cq 3 [4] [B (decide (r3≥0))] 97 ?_
 obtain rfl:=Option.some.inj h
 exact aj rfl (qp [B (decide (r3≥0))])
theorem Pp {G:Go.Ln.Ground}:aI Tryz.prog G 133 yS:=gT 2 0 (aD OP bg) (Checked.mixed Tryz.checked) Tryz.func133 (fun a r h=>Qn a.1 a.2 r h)
def Fu:(Contract×State)→List V:=cA aG (oA bX)
def Fh (r:Bool):V×List V:=(B r,[])
noncomputable def Dp:Ent:=aR [false,false] Fu Fh fun x=>GV x.1 x.2
theorem WN {c_1:Contract}{s_2:State}{r}(h:GV c_1 s_2=some r):Dp.F (Fu (c_1,s_2))=some (Fh r):=aC (aY aV (aB cY)) h
noncomputable def mD:Code:=az Tryz.f66
noncomputable def rB:Env:=bF Tryz.prog [(125,uQ),(126,qk),(132,DY),(133,yS),(131,DB),(127,D1),(128,wX)]
def iW (x:Contract×State)(r:Bool):St→Prop:=QF rB Tryz.f66 [false,false] (Fu x) (Fh r)
theorem Kk (c_1:Contract)(s_2:State):cd rB 0 (iW (c_1,s_2)) (cL (cL (cR (cL (cR (cR (cR (cR mD)))))))) 0 (mZ c_1 s_2) (fun u=>(sT 60 [(3,.hp 1 0 [] 5 0 0)] [⟨0,5,[.agg [I s_2.Day,.isl false (s_2.Facts.map str),.isl false (s_2.Duties.map ah),.isl false (s_2.Balances.map I),B s_2.Over]]⟩] 2)) fun x7=>(sT 60 [(2,.hp 1 0 [] 2 0 0),(3,.hp 2 0 [] 5 0 0),(46,I (len s_2.Duties)),(47,I x7)] [⟨0,2,[.agg [.isl false (c_1.Parties.map str),.isl false (c_1.Clauses.map aa)]]⟩,⟨0,5,[.agg [I s_2.Day,.isl false (s_2.Facts.map str),.isl false (s_2.Duties.map ah),.isl false (s_2.Balances.map I),B s_2.Over]]⟩] 3):=dT (Al c_1 s_2) fun {Q K} hK self ih x7 y h hr hn=>by
 unfold kC at h
 refine cq 5 [48] [B (decide (x7<(len s_2.Duties)))] 19 ?_
 refine sq h (fun h=>?_) fun h=>?_
 ·refine aq 1 ?_
  refine cq 12 [50,51,52] [.agg [.isl false (c_1.Parties.map str),.isl false (c_1.Clauses.map aa)],.agg [I s_2.Day,.isl false (s_2.Facts.map str),.isl false (s_2.Duties.map ah),.isl false (s_2.Balances.map I),B s_2.Over],I x7] 99 ?_
  obtain⟨r8,hr8,h⟩:=bS h
  refine oq 115 (B r8) rfl (cP (Wx hr8)) ?_
  refine cq 2 [54] [B (!r8)] 131 ?_
  refine sq h (fun h=>?_) fun h=>?_
  ·refine cq 4 [4] [B false] 147 ?_
   exact aj rfl (hr _ (Option.some.inj h).symm _ (qp [B false]))
  ·refine aq 1 ?_
   refine cq 5 [47] [I (ar (x7+1))] 163 ?_
   refine cG ?_
   exact rf [2,3,46,47] [1,2] (ih _ _ h hr hn :)
 ·refine aq 1 ?_
  exact rf [3] [2] (hn _ (Option.some.inj h).symm :) (hk:=hK)
theorem TQ (c_1:Contract)(s_2:State)(r:Bool)(h:GV c_1 s_2=some r):be rB Tryz.f66 [false,false] 0 (Fu (c_1,s_2)) (Fh r):=by
 show Run _ _ (iW (c_1,s_2) r) [.code mD] _
 refine rI 60 [(0,.agg [.isl false (c_1.Parties.map str),.isl false (c_1.Clauses.map aa)]),(1,.agg [I s_2.Day,.isl false (s_2.Facts.map str),.isl false (s_2.Duties.map ah),.isl false (s_2.Balances.map I),B s_2.Over])] [] 1 ?_
 unfold GV at h
 refine ck 9 [2,3,7] [] [1,17] [] [.hp 1 0 [] 2 0 0,.hp 17 0 [] 5 0 0,.agg [.isl false (c_1.Parties.map str),.isl false (c_1.Clauses.map aa)]] [some ⟨0,2,[.agg [.isl false (c_1.Parties.map str),.isl false (c_1.Clauses.map aa)]]⟩,some ⟨0,5,[.agg [I s_2.Day,.isl false (s_2.Facts.map str),.isl false (s_2.Duties.map ah),.isl false (s_2.Balances.map I),B s_2.Over]]⟩] 65 (by kernel_rfl) ?_
 obtain⟨r3,hr3,h⟩:=bS h
 refine oq 81 (.hs 65 0 [] 1 0 (r3.map str).length) rfl (cP (R6 hr3)) ?_
 refine ck 1 [5] [] [81] [] [.hp 81 0 [] 1 0 0] [some ⟨0,1,[.isl true []]⟩] 97 (by kernel_rfl) ?_
 refine d8 81 [.usl 1 (([]).map str)] rfl rfl (au (.nil _) dA) ?_
 refine o0 113 rfl rfl (gc rfl rfl (eP (path:=[]) (pl:=false) (e':=.usl 1 (r3.map str)) (es2':=[.usl 1 (r3.map str)]) rfl (fk rfl (cN rfl rfl)) rfl rfl rfl aZ rfl rfl rfl rfl rfl dU 2 rfl)) ?_
 refine cq 6 [10] [I s_2.Day] 145 ?_
 obtain⟨r4,hr4,h⟩:=bS h
 refine oq 161 (B r4) rfl (cP (sh hr4)) ?_
 refine cq 2 [13] [B (!r4)] 193 ?_
 obtain⟨y5,hy5,hy51,hy52⟩:=bJ h
 have j5:∀u5,y5=.inr u5→Run rB 0 (iW (c_1,s_2) r) (.code (cR (cL (cR (cR mD))))::.code (cR (cR (cR mD)))::[]) (sT 60 [(2,.hp 1 0 [] 2 0 0),(3,.hp 2 0 [] 5 0 0),(24,B u5)] [⟨0,2,[.agg [.isl false (c_1.Parties.map str),.isl false (c_1.Clauses.map aa)]]⟩,⟨0,5,[.agg [I s_2.Day,.isl false (s_2.Facts.map str),.isl false (s_2.Duties.map ah),.isl false (s_2.Balances.map I),B s_2.Over]]⟩] 3):=by
  intro u5 hu
  replace h:=hy52 u5 hu
  refine sq h (fun h=>?_) fun h=>?_
  ·refine cq 4 [4] [B false] 19 ?_
   obtain rfl:=Option.some.inj h
   exact aj rfl (qp [B false])
  ·refine aq 1 ?_
   refine cq 5 [26] [.isl false (s_2.Duties.map ah)] 35 ?_
   refine oq 51 (I (len s_2.Duties)) rfl (aX rfl rfl rfl (bc rfl)) ?_
   refine cq 2 [29] [B (decide ((len s_2.Duties)>24))] 83 ?_
   obtain⟨y6,hy6,hy61,hy62⟩:=bJ h
   have j6:∀u6,y6=.inr u6→Run rB 0 (iW (c_1,s_2) r) (.code (cR (cL (cR (cR (cR mD)))))::.code (cR (cR (cR (cR mD))))::[]) (sT 60 [(2,.hp 1 0 [] 2 0 0),(3,.hp 2 0 [] 5 0 0),(43,B u6)] [⟨0,2,[.agg [.isl false (c_1.Parties.map str),.isl false (c_1.Clauses.map aa)]]⟩,⟨0,5,[.agg [I s_2.Day,.isl false (s_2.Facts.map str),.isl false (s_2.Duties.map ah),.isl false (s_2.Balances.map I),B s_2.Over]]⟩] 3):=by
    intro u6 hu
    replace h:=hy62 u6 hu
    refine sq h (fun h=>?_) fun h=>?_
    ·refine cq 4 [4] [B false] 19 ?_
     obtain rfl:=Option.some.inj h
     exact aj rfl (qp [B false])
    ·refine aq 1 ?_
     refine cq 5 [45] [.isl false (s_2.Duties.map ah)] 35 ?_
     refine oq 51 (I (len s_2.Duties)) rfl (aX rfl rfl rfl (bc rfl)) ?_
     refine cq 3 [47] [I (0)] 67 ?_
     obtain⟨y9,hy9,hy91,hy92⟩:=bJ h
     refine bG rfl ?_
     refine rf [2,3,46,47] [1,2] (Kk c_1 s_2 rfl 0 _ hy9 (fun r' e st hq=>by rw[hy91 r' e] at hq;exact hq) fun u9 hu=>?_)
     replace h:=hy92 u9 hu
     refine cq 4 [57] [.isl false (s_2.Balances.map I)] 34 ?_
     obtain⟨r10,hr10,h⟩:=bS h
     refine oq 50 (B r10) rfl (cP (Ue hr10)) ?_
     refine cq 3 [4] [B (!r10)] 82 ?_
     obtain rfl:=Option.some.inj h
     exact aj rfl (qp [B (!r10)])
   have r6:∀r',y6=.inl r'→∀st,iW (c_1,s_2) r' st→(iW (c_1,s_2) r) st:=fun r' e st hq=>by rw[hy61 r' e] at hq;exact hq
   replace h:=hy6
   refine sp 29 h rfl (fun h=>?_) fun h=>?_
   ·refine cq 15 [43] [B true] 307 ?_
    exact rf [2,3,43] [1,2] (j6 _ (Option.some.inj h).symm :)
   ·refine cq 2 [31] [.isl false (s_2.Balances.map I)] 115 ?_
    refine oy 131 (I (len s_2.Balances)) rfl (aX rfl rfl rfl (bc rfl)) ?_
    refine cq 2 [34] [.isl false (c_1.Parties.map str)] 163 ?_
    refine oy 179 (I (len c_1.Parties)) rfl (aX rfl rfl rfl (bc rfl)) ?_
    refine cq 3 [38] [B ((len s_2.Balances) != (len c_1.Parties))] 227 ?_
    obtain⟨y11,hy11,hy111,hy112⟩:=bL h
    have j11:∀u11,y11=.inr u11→Run rB 0 (iW (c_1,s_2) r) (.code (cR (cL (cR (cR (cR mD)))))::.code (cR (cR (cR (cR mD))))::[]) (sT 60 [(2,.hp 1 0 [] 2 0 0),(3,.hp 2 0 [] 5 0 0),(43,B u11)] [⟨0,2,[.agg [.isl false (c_1.Parties.map str),.isl false (c_1.Clauses.map aa)]]⟩,⟨0,5,[.agg [I s_2.Day,.isl false (s_2.Facts.map str),.isl false (s_2.Duties.map ah),.isl false (s_2.Balances.map I),B s_2.Over]]⟩] 3):=by
     intro u11 hu
     replace h:=hy112 u11 hu
     exact rf [2,3,43] [1,2] (j6 _ (Option.some.inj h).symm :)
    have r11:∀r',y11=.inl r'→∀st,iW (c_1,s_2) r' st→(iW (c_1,s_2) r) st:=fun r' e st hq=>r6 r' (hy111 r' e) st hq
    replace h:=hy11
    refine sp 38 h rfl (fun h=>?_) fun h=>?_
    ·refine cq 6 [43] [B true] 307 ?_
     exact rf [2,3,43] [1,2] (j11 _ (Option.some.inj h).symm :)
    ·refine cq 2 [40] [.isl false (s_2.Balances.map I)] 259 ?_
     obtain⟨r12,hr12,h⟩:=bS h
     refine oy 275 (I r12) rfl (cP (W8 hr12)) ?_
     refine cq 3 [43] [B (r12 != 0)] 307 ?_
     exact rf [2,3,43] [1,2] (j11 _ (Option.some.inj h).symm :)
 have r5:∀r',y5=.inl r'→∀st,iW (c_1,s_2) r' st→(iW (c_1,s_2) r) st:=fun r' e st hq=>by rw[hy51 r' e] at hq;exact hq
 replace h:=hy5
 refine sp 13 h rfl (fun h=>?_) fun h=>?_
 ·refine cq 12 [24] [B true] 369 ?_
  exact rf [2,3,24] [1,17] (j5 _ (Option.some.inj h).symm :)
 ·refine cq 2 [15] [.isl false (s_2.Facts.map str)] 225 ?_
  obtain⟨r13,hr13,h⟩:=bS h
  refine oy 241 (B r13) rfl (cP (Xd hr13)) ?_
  refine cq 3 [19] [B (!r13)] 289 ?_
  obtain⟨y14,hy14,hy141,hy142⟩:=bL h
  have j14:∀u14,y14=.inr u14→Run rB 0 (iW (c_1,s_2) r) (.code (cR (cL (cR (cR mD))))::.code (cR (cR (cR mD)))::[]) (sT 60 [(2,.hp 1 0 [] 2 0 0),(3,.hp 2 0 [] 5 0 0),(24,B u14)] [⟨0,2,[.agg [.isl false (c_1.Parties.map str),.isl false (c_1.Clauses.map aa)]]⟩,⟨0,5,[.agg [I s_2.Day,.isl false (s_2.Facts.map str),.isl false (s_2.Duties.map ah),.isl false (s_2.Balances.map I),B s_2.Over]]⟩] 3):=by
   intro u14 hu
   replace h:=hy142 u14 hu
   exact rf [2,3,24] [1,2] (j5 _ (Option.some.inj h).symm :)
  have r14:∀r',y14=.inl r'→∀st,iW (c_1,s_2) r' st→(iW (c_1,s_2) r) st:=fun r' e st hq=>r5 r' (hy141 r' e) st hq
  replace h:=hy14
  refine sp 19 h rfl (fun h=>?_) fun h=>?_
  ·refine cq 6 [24] [B true] 369 ?_
   exact rf [2,3,24] [1,17] (j14 _ (Option.some.inj h).symm :)
  ·refine cq 3 [21,22] [.isl false (s_2.Facts.map str),.fn 129 [.hp 81 0 [] 1 0 0]] 337 ?_
   obtain⟨r15,hr15,h⟩:=bS h
   refine oy 353 (B r15) rfl (co rfl rfl (cI rfl rfl rfl (b9 (cQ rfl) (b9 (HP (dh (sS (path:=[]) rfl rfl aZ rfl (Sy (bU ep))) kg)) dD)) (Vz hr15) (.inl rfl) d9 rfl rfl rfl)) ?_
   refine cq 2 [24] [B r15] 369 ?_
   exact rf [2,3,24] [1,17] (j14 _ (Option.some.inj h).symm :)
theorem RJ {G:Go.Ln.Ground}:aI Tryz.prog G 66 Dp:=gT 2 0 (aD G3 (aD wI (aD RI (aD Pp (aD Rk (aD Qm (aD LH bg))))))) (Checked.mixed Tryz.checked) Tryz.func66 (fun a r h=>TQ a.1 a.2 r h)
def FS:(Contract×State)→List V:=cA aG (oA bX)
def Fg (r:Bool):V×List V:=(B r,[])
noncomputable def Dl:Ent:=aR [false,false] FS Fg fun x=>EH x.1 x.2
theorem WH {c_1:Contract}{s_2:State}{r}(h:EH c_1 s_2=some r):Dl.F (FS (c_1,s_2))=some (Fg r):=aC (aY aV (aB cY)) h
noncomputable def Sq:Code:=az Tryz.f20
noncomputable def Kh:Env:=bF Tryz.prog [(65,DQ),(66,Dp)]
def FP (x:Contract×State)(r:Bool):St→Prop:=QF Kh Tryz.f20 [false,false] (FS x) (Fg r)
theorem SU (c_1:Contract)(s_2:State)(r:Bool)(h:EH c_1 s_2=some r):be Kh Tryz.f20 [false,false] 0 (FS (c_1,s_2)) (Fg r):=by
 show Run _ _ (FP (c_1,s_2) r) [.code Sq] _
 refine rI 12 [(0,.agg [.isl false (c_1.Parties.map str),.isl false (c_1.Clauses.map aa)]),(1,.agg [I s_2.Day,.isl false (s_2.Facts.map str),.isl false (s_2.Duties.map ah),.isl false (s_2.Balances.map I),B s_2.Over])] [] 1 ?_
 unfold EH at h
 refine ck 9 [2,3,5] [] [1,17] [] [.hp 1 0 [] 2 0 0,.hp 17 0 [] 5 0 0,.agg [.isl false (c_1.Parties.map str),.isl false (c_1.Clauses.map aa)]] [some ⟨0,2,[.agg [.isl false (c_1.Parties.map str),.isl false (c_1.Clauses.map aa)]]⟩,some ⟨0,5,[.agg [I s_2.Day,.isl false (s_2.Facts.map str),.isl false (s_2.Duties.map ah),.isl false (s_2.Balances.map I),B s_2.Over]]⟩] 65 (by kernel_rfl) ?_
 obtain⟨r3,hr3,h⟩:=bS h
 refine oq 81 (B r3) rfl (cP (WZ hr3)) ?_
 refine cq 1 [7] [B r3] 97 ?_
 obtain⟨y4,hy4,hy41,hy42⟩:=bJ h
 have j4:∀u4,y4=.inr u4→Run Kh 0 (FP (c_1,s_2) r) (.code (cR (cR Sq))::[]) (sT 12 [(4,B u4)] [] 1):=by
  intro u4 hu
  replace h:=hy42 u4 hu
  obtain rfl:=Option.some.inj h
  exact aj rfl (qp [B u4])
 have r4:∀r',y4=.inl r'→∀st,FP (c_1,s_2) r' st→(FP (c_1,s_2) r) st:=fun r' e st hq=>by rw[hy41 r' e] at hq;exact hq
 replace h:=hy4
 refine sp 7 h rfl (fun h=>?_) fun h=>?_
 ·refine cq 2 [8,9] [.agg [.isl false (c_1.Parties.map str),.isl false (c_1.Clauses.map aa)],.agg [I s_2.Day,.isl false (s_2.Facts.map str),.isl false (s_2.Duties.map ah),.isl false (s_2.Balances.map I),B s_2.Over]] 129 ?_
  obtain⟨r5,hr5,h⟩:=bS h
  refine oy 145 (B r5) rfl (cP (WN hr5)) ?_
  refine cq 3 [4] [B r5] 177 ?_
  exact rf [4] [] (j4 _ (Option.some.inj h).symm :)
 ·refine cq 6 [4] [B false] 177 ?_
  exact rf [4] [] (j4 _ (Option.some.inj h).symm :)
theorem Rz {G:Go.Ln.Ground}:aI Tryz.prog G 20 Dl:=gT 2 0 (aD PW (aD RJ bg)) (Checked.mixed Tryz.checked) Tryz.func20 (fun a r h=>SU a.1 a.2 r h)
def Bq:((List ae)×(List ae))→List V:=cA (ew str) (oA (ew str))
def zi (r:Bool):V×List V:=(B r,[])
noncomputable def rp:Ent:=aR [false,false] Bq zi fun x=>uu x.1 x.2
theorem Nh {a_1:List ae}{b_2:List ae}{r}(h:uu a_1 b_2=some r):rp.F (Bq (a_1,b_2))=some (zi r):=aC (aY (bz bm) (aB (bz bm))) h
noncomputable def MG:Code:=az Tryz.f67
noncomputable def F1:Env:=bF Tryz.prog []
def Oz (x:(List ae)×(List ae))(r:Bool):St→Prop:=QF F1 Tryz.f67 [false,false] (Bq x) (zi r)
theorem IC (a_1:List ae)(b_2:List ae):cd F1 0 (Oz (a_1,b_2)) (cL (cL (cR (cL (cR (cR MG)))))) 0 (qK a_1 b_2) (fun u=>(sT 26 [] [] 1)) fun x3=>(sT 26 [(0,.isl false (a_1.map str)),(1,.isl false (b_2.map str)),(5,I x3)] [] 1):=dT (wA a_1 b_2) fun {Q K} hK self ih x3 y h hr hn=>by
 unfold lx at h
 refine cq 5 [11,12] [I x3,.isl false (a_1.map str)] 33 ?_
 refine oq 49 (I (len a_1)) rfl (aX rfl rfl rfl (bc rfl)) ?_
 refine cq 2 [14] [B (decide (x3<(len a_1)))] 65 ?_
 refine sq h (fun h=>?_) fun h=>?_
 ·refine aq 1 ?_
  refine aq 3 ?_
  refine d7 [0,0,3,7,0,0,48,112,255] rfl (by decide +kernel) ?_
  refine dk 2 [18,17] [I x3,.isl false (a_1.map str)] ?_
  obtain⟨e4,he4,h⟩:=bS h
  refine dq [] [] (.iptr (str e4) 0) rfl (ap rfl rfl rfl (aQ rfl rfl rfl rfl he4)) ?_
  refine dq [] [] (str e4) rfl (aM rfl rfl) ?_
  refine dk 2 [22,21] [I x3,.isl false (b_2.map str)] ?_
  obtain⟨e5,he5,h⟩:=bS h
  refine dq [] [] (.iptr (str e5) 0) rfl (ap rfl rfl rfl (aQ rfl rfl rfl rfl he5)) ?_
  refine dq [] [] (str e5) rfl (aM rfl rfl) ?_
  refine dk 1 [25] [B (!(e4==e5))] ?_
  refine de 209 rfl rfl ?_
  refine sq h (fun h=>?_) fun h=>?_
  ·refine cq 4 [4] [B false] 225 ?_
   exact aj rfl (hr _ (Option.some.inj h).symm _ (qp [B false]))
  ·refine aq 1 ?_
   refine cq 6 [5] [I (ar (x3+1))] 257 ?_
   refine cG ?_
   exact rf [0,1,5] [] (ih _ _ h hr hn :)
 ·refine aq 1 ?_
  exact rf [] [] (hn _ (Option.some.inj h).symm :) (hk:=hK)
theorem Qg (a_1:List ae)(b_2:List ae)(r:Bool)(h:uu a_1 b_2=some r):be F1 Tryz.f67 [false,false] 0 (Bq (a_1,b_2)) (zi r):=by
 show Run _ _ (Oz (a_1,b_2) r) [.code MG] _
 refine rI 26 [(0,.isl false (a_1.map str)),(1,.isl false (b_2.map str))] [] 1 ?_
 unfold uu at h
 refine cq 8 [6] [.isl false (a_1.map str)] 33 ?_
 refine oq 49 (I (len a_1)) rfl (aX rfl rfl rfl (bc rfl)) ?_
 refine cq 1 [8] [.isl false (b_2.map str)] 65 ?_
 refine oq 81 (I (len b_2)) rfl (aX rfl rfl rfl (bc rfl)) ?_
 refine cq 2 [10] [B ((len a_1) != (len b_2))] 97 ?_
 refine sq h (fun h=>?_) fun h=>?_
 ·refine cq 4 [4] [B false] 113 ?_
  obtain rfl:=Option.some.inj h
  exact aj rfl (qp [B false])
 ·refine aq 1 ?_
  refine cq 6 [5] [I (0)] 113 ?_
  obtain⟨y6,hy6,hy61,hy62⟩:=bJ h
  refine bG rfl ?_
  refine rf [0,1,5] [] (IC a_1 b_2 rfl 0 _ hy6 (fun r' e st hq=>by rw[hy61 r' e] at hq;exact hq) fun u6 hu=>?_)
  replace h:=hy62 u6 hu
  refine cq 4 [4] [B true] 17 ?_
  obtain rfl:=Option.some.inj h
  exact aj rfl (qp [B true])
theorem Er {G:Go.Ln.Ground}:aI Tryz.prog G 67 rp:=gT 2 0 bg (Checked.mixed Tryz.checked) Tryz.func67 (fun a r h=>Qg a.1 a.2 r h)
def un:(Condition×Condition)→List V:=cA aP (oA aP)
def tx (r:Bool):V×List V:=(B r,[])
noncomputable def pA (slf_Ffbc:(Condition×Condition)→Option Bool):Ent:=aR [false,false] un tx slf_Ffbc
theorem Dw (slf_Ffbc:(Condition×Condition)→Option Bool){x}{r}(h:slf_Ffbc x=some r):(pA slf_Ffbc).F (un x)=some (tx r):=aC (aY cf (aB cf)) h
def CX:((List Condition)×(List Condition))→List V:=cA (ew ac) (oA (ew ac))
def CT (r:Bool):V×List V:=(B r,[])
noncomputable def yF (slf_Ffbc:(Condition×Condition)→Option Bool):Ent:=aR [false,false] CX CT fun x=>tq slf_Ffbc x.1 x.2
theorem Ua (slf_Ffbc:(Condition×Condition)→Option Bool){a_1:List Condition}{b_2:List Condition}{r}(h:tq slf_Ffbc a_1 b_2=some r):(yF slf_Ffbc).F (CX (a_1,b_2))=some (CT r):=aC (aY (bz dW) (aB (bz dW))) h
noncomputable def Oi:Code:=az Tryz.f223
noncomputable def Gp (slf_Ffbc:(Condition×Condition)→Option Bool):Env:=bF Tryz.prog [(193,(pA slf_Ffbc))]
def OJ (slf_Ffbc:(Condition×Condition)→Option Bool)(x:(List Condition)×(List Condition))(r:Bool):St→Prop:=QF (Gp slf_Ffbc) Tryz.f223 [false,false] (CX x) (CT r)
theorem IW (slf_Ffbc:(Condition×Condition)→Option Bool)(a_1:List Condition)(b_2:List Condition):cd (Gp slf_Ffbc) 0 (OJ slf_Ffbc (a_1,b_2)) (cL (cL (cR (cL (cR (cR Oi)))))) 0 (nV slf_Ffbc a_1 b_2) (fun u=>(sT 27 [] [] 1)) fun x3=>(sT 27 [(0,.isl false (a_1.map ac)),(1,.isl false (b_2.map ac)),(5,I x3)] [] 1):=dT (wB slf_Ffbc a_1 b_2) fun {Q K} hK self ih x3 y h hr hn=>by
 unfold je at h
 refine cq 5 [11,12] [I x3,.isl false (a_1.map ac)] 33 ?_
 refine oq 49 (I (len a_1)) rfl (aX rfl rfl rfl (bc rfl)) ?_
 refine cq 2 [14] [B (decide (x3<(len a_1)))] 65 ?_
 refine sq h (fun h=>?_) fun h=>?_
 ·refine aq 1 ?_
  refine aq 3 ?_
  refine d7 [0,0,3,7,0,0,48,112,255,511] rfl (by decide +kernel) ?_
  refine dk 2 [18,17] [I x3,.isl false (a_1.map ac)] ?_
  obtain⟨e4,he4,h⟩:=bS h
  refine dq [] [] (.iptr (.agg [I e4.Op,str e4.Name,I e4.Day,.isl false (e4.Parts.map ac)]) 0) rfl (ap rfl rfl rfl (aQ rfl rfl (ce e4) rfl he4)) ?_
  refine dq [] [] (.agg [I e4.Op,str e4.Name,I e4.Day,.isl false (e4.Parts.map ac)]) rfl (aM rfl rfl) ?_
  refine dk 2 [22,21] [I x3,.isl false (b_2.map ac)] ?_
  obtain⟨e5,he5,h⟩:=bS h
  refine dq [] [] (.iptr (.agg [I e5.Op,str e5.Name,I e5.Day,.isl false (e5.Parts.map ac)]) 0) rfl (ap rfl rfl rfl (aQ rfl rfl (ce e5) rfl he5)) ?_
  refine dq [] [] (.agg [I e5.Op,str e5.Name,I e5.Day,.isl false (e5.Parts.map ac)]) rfl (aM rfl rfl) ?_
  obtain⟨r6,hr6,h⟩:=bS h
  refine dq [] [] (B r6) rfl (co rfl rfl (cI rfl rfl rfl (b9 (cQ rfl) (b9 (cQ rfl) dD)) (Dw slf_Ffbc hr6) (.inr rfl) d9 rfl rfl rfl)) ?_ (dj rfl rfl rfl rfl (b9 (cQ rfl) (b9 (cQ rfl) dD)) (Dw slf_Ffbc hr6) (.inr rfl) rfl)
  refine dk 1 [26] [B (!r6)] ?_
  refine de 225 rfl rfl ?_
  refine sq h (fun h=>?_) fun h=>?_
  ·refine cq 4 [4] [B false] 241 ?_
   exact aj rfl (hr _ (Option.some.inj h).symm _ (qp [B false]))
  ·refine aq 1 ?_
   refine cq 6 [5] [I (ar (x3+1))] 273 ?_
   refine cG ?_
   exact rf [0,1,5] [] (ih _ _ h hr hn :)
 ·refine aq 1 ?_
  exact rf [] [] (hn _ (Option.some.inj h).symm :) (hk:=hK)
theorem PC (slf_Ffbc:(Condition×Condition)→Option Bool)(a_1:List Condition)(b_2:List Condition)(r:Bool)(h:tq slf_Ffbc a_1 b_2=some r):be (Gp slf_Ffbc) Tryz.f223 [false,false] 0 (CX (a_1,b_2)) (CT r):=by
 show Run _ _ (OJ slf_Ffbc (a_1,b_2) r) [.code Oi] _
 refine rI 27 [(0,.isl false (a_1.map ac)),(1,.isl false (b_2.map ac))] [] 1 ?_
 unfold tq at h
 refine cq 8 [6] [.isl false (a_1.map ac)] 33 ?_
 refine oq 49 (I (len a_1)) rfl (aX rfl rfl rfl (bc rfl)) ?_
 refine cq 1 [8] [.isl false (b_2.map ac)] 65 ?_
 refine oq 81 (I (len b_2)) rfl (aX rfl rfl rfl (bc rfl)) ?_
 refine cq 2 [10] [B ((len a_1) != (len b_2))] 97 ?_
 refine sq h (fun h=>?_) fun h=>?_
 ·refine cq 4 [4] [B false] 113 ?_
  obtain rfl:=Option.some.inj h
  exact aj rfl (qp [B false])
 ·refine aq 1 ?_
  refine cq 6 [5] [I (0)] 113 ?_
  obtain⟨y7,hy7,hy71,hy72⟩:=bJ h
  refine bG rfl ?_
  refine rf [0,1,5] [] (IW slf_Ffbc a_1 b_2 rfl 0 _ hy7 (fun r' e st hq=>by rw[hy71 r' e] at hq;exact hq) fun u7 hu=>?_)
  replace h:=hy72 u7 hu
  refine cq 4 [4] [B true] 17 ?_
  obtain rfl:=Option.some.inj h
  exact aj rfl (qp [B true])
theorem OZ {G:Go.Ln.Ground}(slf_Ffbc:(Condition×Condition)→Option Bool)(g_Ffbc:aI Tryz.prog G 193 (pA slf_Ffbc)):aI Tryz.prog G 223 (yF slf_Ffbc):=gT 2 0 (aD g_Ffbc bg) (Checked.mixed Tryz.checked) Tryz.func223 (fun a r h=>PC slf_Ffbc a.1 a.2 r h)
noncomputable def wJ:Ent:=pA (aJ mR)
theorem UW {a_1:Condition}{b_2:Condition}{r}(h:xo a_1 b_2=some r):wJ.F (un (a_1,b_2))=some (tx r):=Dw (aJ mR) h
noncomputable def Uw:Code:=az Tryz.f193
noncomputable def MO (slf_Ffbc:(Condition×Condition)→Option Bool):Env:=bF Tryz.prog [(223,(yF slf_Ffbc))]
def Vx (slf_Ffbc:(Condition×Condition)→Option Bool)(x:Condition×Condition)(r:Bool):St→Prop:=QF (MO slf_Ffbc) Tryz.f193 [false,false] (un x) (tx r)
theorem QM (slf_Ffbc:(Condition×Condition)→Option Bool)(a_1:Condition)(b_2:Condition)(r:Bool)(h:qy slf_Ffbc a_1 b_2=some r):be (MO slf_Ffbc) Tryz.f193 [false,false] 0 (un (a_1,b_2)) (tx r):=by
 show Run _ _ (Vx slf_Ffbc (a_1,b_2) r) [.code Uw] _
 refine rI 26 [(0,.agg [I a_1.Op,str a_1.Name,I a_1.Day,.isl false (a_1.Parts.map ac)]),(1,.agg [I b_2.Op,str b_2.Name,I b_2.Day,.isl false (b_2.Parts.map ac)])] [] 1 ?_
 unfold qy at h
 refine ck 15 [2,3,9] [] [1,17] [] [.hp 1 0 [] 4 0 0,.hp 17 0 [] 4 0 0,B (a_1.Op != b_2.Op)] [some ⟨0,4,[.agg [I a_1.Op,str a_1.Name,I a_1.Day,.isl false (a_1.Parts.map ac)]]⟩,some ⟨0,4,[.agg [I b_2.Op,str b_2.Name,I b_2.Day,.isl false (b_2.Parts.map ac)]]⟩] 129 (by kernel_rfl) ?_
 refine sq h (fun h=>?_) fun h=>?_
 ·refine cq 4 [4] [B false] 145 ?_
  obtain rfl:=Option.some.inj h
  exact aj rfl (qp [B false])
 ·refine aq 1 ?_
  refine cq 9 [14] [B (!(a_1.Name==b_2.Name))] 209 ?_
  refine sq h (fun h=>?_) fun h=>?_
  ·refine cq 4 [4] [B false] 225 ?_
   obtain rfl:=Option.some.inj h
   exact aj rfl (qp [B false])
  ·refine aq 1 ?_
   refine cq 9 [19] [B (a_1.Day != b_2.Day)] 289 ?_
   refine sq h (fun h=>?_) fun h=>?_
   ·refine cq 4 [4] [B false] 305 ?_
    obtain rfl:=Option.some.inj h
    exact aj rfl (qp [B false])
   ·refine aq 1 ?_
    refine cq 7 [21,23] [.isl false (a_1.Parts.map ac),.isl false (b_2.Parts.map ac)] 353 ?_
    obtain⟨r3,hr3,h⟩:=bS h
    refine oq 369 (B r3) rfl (co rfl rfl (cI rfl rfl rfl (b9 (cQ rfl) (b9 (cQ rfl) dD)) (Ua slf_Ffbc hr3) (.inr rfl) d9 rfl rfl rfl)) ?_
    refine cq 2 [25] [B (!r3)] 385 ?_
    refine sq h (fun h=>?_) fun h=>?_
    ·refine cq 4 [4] [B false] 401 ?_
     obtain rfl:=Option.some.inj h
     exact aj rfl (qp [B false])
    ·refine aq 1 ?_
     refine cq 4 [4] [B true] 401 ?_
     obtain rfl:=Option.some.inj h
     exact aj rfl (qp [B true])
theorem MN {G:Go.Ln.Ground}:aI Tryz.prog G 193 wJ:=jx fun slf_Ffbc g_Ffbc=>gT 2 0 (aD (OZ slf_Ffbc g_Ffbc) bg) (Checked.mixed Tryz.checked) Tryz.func193 (fun a r h=>QM slf_Ffbc a.1 a.2 r h)
def A8:(Clause×Clause)→List V:=cA aa (oA aa)
def Bi (r:Bool):V×List V:=(B r,[])
noncomputable def wN:Ent:=aR [false,false] A8 Bi fun x=>tW x.1 x.2
theorem Pa {a_1:Clause}{b_2:Clause}{r}(h:tW a_1 b_2=some r):wN.F (A8 (a_1,b_2))=some (Bi r):=aC (aY cp (aB cp)) h
noncomputable def VB:Code:=az Tryz.f136
noncomputable def N6:Env:=bF Tryz.prog [(193,wJ)]
def Wa (x:Clause×Clause)(r:Bool):St→Prop:=QF N6 Tryz.f136 [false,false] (A8 x) (Bi r)
theorem PP (a_1:Clause)(b_2:Clause)(r:Bool)(h:tW a_1 b_2=some r):be N6 Tryz.f136 [false,false] 0 (A8 (a_1,b_2)) (Bi r):=by
 show Run _ _ (Wa (a_1,b_2) r) [.code VB] _
 refine rI 51 [(0,.agg [str a_1.Id,I a_1.Kind,I a_1.Party,str a_1.Action,I a_1.Other,I a_1.Amount,I a_1.When.Op,str a_1.When.Name,I a_1.When.Day,.isl false (a_1.When.Parts.map ac),I a_1.Within,str a_1.Repair]),(1,.agg [str b_2.Id,I b_2.Kind,I b_2.Party,str b_2.Action,I b_2.Other,I b_2.Amount,I b_2.When.Op,str b_2.When.Name,I b_2.When.Day,.isl false (b_2.When.Parts.map ac),I b_2.Within,str b_2.Repair])] [] 1 ?_
 unfold tW at h
 refine ck 15 [2,3,9] [] [1,17] [] [.hp 1 0 [] 12 0 0,.hp 17 0 [] 12 0 0,B (!(a_1.Id==b_2.Id))] [some ⟨0,12,[.agg [str a_1.Id,I a_1.Kind,I a_1.Party,str a_1.Action,I a_1.Other,I a_1.Amount,I a_1.When.Op,str a_1.When.Name,I a_1.When.Day,.isl false (a_1.When.Parts.map ac),I a_1.Within,str a_1.Repair]]⟩,some ⟨0,12,[.agg [str b_2.Id,I b_2.Kind,I b_2.Party,str b_2.Action,I b_2.Other,I b_2.Amount,I b_2.When.Op,str b_2.When.Name,I b_2.When.Day,.isl false (b_2.When.Parts.map ac),I b_2.Within,str b_2.Repair]]⟩] 129 (by kernel_rfl) ?_
 refine sq h (fun h=>?_) fun h=>?_
 ·refine cq 4 [4] [B false] 145 ?_
  obtain rfl:=Option.some.inj h
  exact aj rfl (qp [B false])
 ·refine aq 1 ?_
  refine cq 9 [14] [B (a_1.Kind != b_2.Kind)] 209 ?_
  refine sq h (fun h=>?_) fun h=>?_
  ·refine cq 4 [4] [B false] 225 ?_
   obtain rfl:=Option.some.inj h
   exact aj rfl (qp [B false])
  ·refine aq 1 ?_
   refine cq 9 [19] [B (a_1.Party != b_2.Party)] 289 ?_
   refine sq h (fun h=>?_) fun h=>?_
   ·refine cq 4 [4] [B false] 305 ?_
    obtain rfl:=Option.some.inj h
    exact aj rfl (qp [B false])
   ·refine aq 1 ?_
    refine cq 9 [24] [B (!(a_1.Action==b_2.Action))] 369 ?_
    refine sq h (fun h=>?_) fun h=>?_
    ·refine cq 4 [4] [B false] 385 ?_
     obtain rfl:=Option.some.inj h
     exact aj rfl (qp [B false])
    ·refine aq 1 ?_
     refine cq 9 [29] [B (a_1.Other != b_2.Other)] 449 ?_
     refine sq h (fun h=>?_) fun h=>?_
     ·refine cq 4 [4] [B false] 465 ?_
      obtain rfl:=Option.some.inj h
      exact aj rfl (qp [B false])
     ·refine aq 1 ?_
      refine cq 9 [34] [B (a_1.Amount != b_2.Amount)] 529 ?_
      refine sq h (fun h=>?_) fun h=>?_
      ·refine cq 4 [4] [B false] 545 ?_
       obtain rfl:=Option.some.inj h
       exact aj rfl (qp [B false])
      ·refine aq 1 ?_
       refine cq 7 [36,38] [.agg [I a_1.When.Op,str a_1.When.Name,I a_1.When.Day,.isl false (a_1.When.Parts.map ac)],.agg [I b_2.When.Op,str b_2.When.Name,I b_2.When.Day,.isl false (b_2.When.Parts.map ac)]] 593 ?_
       obtain⟨r3,hr3,h⟩:=bS h
       refine oq 609 (B r3) rfl (cP (UW hr3)) ?_
       refine cq 2 [40] [B (!r3)] 625 ?_
       refine sq h (fun h=>?_) fun h=>?_
       ·refine cq 4 [4] [B false] 641 ?_
        obtain rfl:=Option.some.inj h
        exact aj rfl (qp [B false])
       ·refine aq 1 ?_
        refine cq 9 [45] [B (a_1.Within != b_2.Within)] 705 ?_
        refine sq h (fun h=>?_) fun h=>?_
        ·refine cq 4 [4] [B false] 721 ?_
         obtain rfl:=Option.some.inj h
         exact aj rfl (qp [B false])
        ·refine aq 1 ?_
         refine cq 9 [50] [B (!(a_1.Repair==b_2.Repair))] 785 ?_
         refine sq h (fun h=>?_) fun h=>?_
         ·refine cq 4 [4] [B false] 801 ?_
          obtain rfl:=Option.some.inj h
          exact aj rfl (qp [B false])
         ·refine aq 1 ?_
          refine cq 4 [4] [B true] 801 ?_
          obtain rfl:=Option.some.inj h
          exact aj rfl (qp [B true])
theorem LY {G:Go.Ln.Ground}:aI Tryz.prog G 136 wN:=gT 2 0 (aD MN bg) (Checked.mixed Tryz.checked) Tryz.func136 (fun a r h=>PP a.1 a.2 r h)
def B7:((List Clause)×(List Clause))→List V:=cA (ew aa) (oA (ew aa))
def zj (r:Bool):V×List V:=(B r,[])
noncomputable def yE:Ent:=aR [false,false] B7 zj fun x=>xw x.1 x.2
theorem UA {a_1:List Clause}{b_2:List Clause}{r}(h:xw a_1 b_2=some r):yE.F (B7 (a_1,b_2))=some (zj r):=aC (aY (bz cp) (aB (bz cp))) h
noncomputable def Ob:Code:=az Tryz.f68
noncomputable def GS:Env:=bF Tryz.prog [(136,wN)]
def MH (x:(List Clause)×(List Clause))(r:Bool):St→Prop:=QF GS Tryz.f68 [false,false] (B7 x) (zj r)
theorem Iz (a_1:List Clause)(b_2:List Clause):cd GS 0 (MH (a_1,b_2)) (cL (cL (cR (cL (cR (cR Ob)))))) 0 (qB a_1 b_2) (fun u=>(sT 27 [] [] 1)) fun x3=>(sT 27 [(0,.isl false (a_1.map aa)),(1,.isl false (b_2.map aa)),(5,I x3)] [] 1):=dT (vY a_1 b_2) fun {Q K} hK self ih x3 y h hr hn=>by
 unfold lq at h
 refine cq 5 [11,12] [I x3,.isl false (a_1.map aa)] 33 ?_
 refine oq 49 (I (len a_1)) rfl (aX rfl rfl rfl (bc rfl)) ?_
 refine cq 2 [14] [B (decide (x3<(len a_1)))] 65 ?_
 refine sq h (fun h=>?_) fun h=>?_
 ·refine aq 1 ?_
  refine aq 3 ?_
  refine d7 [0,0,3,7,0,0,48,112,255,511] rfl (by decide +kernel) ?_
  refine dk 2 [18,17] [I x3,.isl false (a_1.map aa)] ?_
  obtain⟨e4,he4,h⟩:=bS h
  refine dq [] [] (.iptr (.agg [str e4.Id,I e4.Kind,I e4.Party,str e4.Action,I e4.Other,I e4.Amount,I e4.When.Op,str e4.When.Name,I e4.When.Day,.isl false (e4.When.Parts.map ac),I e4.Within,str e4.Repair]) 0) rfl (ap rfl rfl rfl (aQ rfl rfl rfl rfl he4)) ?_
  refine dq [] [] (.agg [str e4.Id,I e4.Kind,I e4.Party,str e4.Action,I e4.Other,I e4.Amount,I e4.When.Op,str e4.When.Name,I e4.When.Day,.isl false (e4.When.Parts.map ac),I e4.Within,str e4.Repair]) rfl (aM rfl rfl) ?_
  refine dk 2 [22,21] [I x3,.isl false (b_2.map aa)] ?_
  obtain⟨e5,he5,h⟩:=bS h
  refine dq [] [] (.iptr (.agg [str e5.Id,I e5.Kind,I e5.Party,str e5.Action,I e5.Other,I e5.Amount,I e5.When.Op,str e5.When.Name,I e5.When.Day,.isl false (e5.When.Parts.map ac),I e5.Within,str e5.Repair]) 0) rfl (ap rfl rfl rfl (aQ rfl rfl rfl rfl he5)) ?_
  refine dq [] [] (.agg [str e5.Id,I e5.Kind,I e5.Party,str e5.Action,I e5.Other,I e5.Amount,I e5.When.Op,str e5.When.Name,I e5.When.Day,.isl false (e5.When.Parts.map ac),I e5.Within,str e5.Repair]) rfl (aM rfl rfl) ?_
  obtain⟨r6,hr6,h⟩:=bS h
  refine dq [] [] (B r6) rfl (cP (Pa hr6)) ?_ (dj rfl rfl rfl rfl (b9 (cQ rfl) (b9 (cQ rfl) dD)) (Pa hr6) (.inr rfl) rfl)
  refine dk 1 [26] [B (!r6)] ?_
  refine de 225 rfl rfl ?_
  refine sq h (fun h=>?_) fun h=>?_
  ·refine cq 4 [4] [B false] 241 ?_
   exact aj rfl (hr _ (Option.some.inj h).symm _ (qp [B false]))
  ·refine aq 1 ?_
   refine cq 6 [5] [I (ar (x3+1))] 273 ?_
   refine cG ?_
   exact rf [0,1,5] [] (ih _ _ h hr hn :)
 ·refine aq 1 ?_
  exact rf [] [] (hn _ (Option.some.inj h).symm :) (hk:=hK)
theorem Qs (a_1:List Clause)(b_2:List Clause)(r:Bool)(h:xw a_1 b_2=some r):be GS Tryz.f68 [false,false] 0 (B7 (a_1,b_2)) (zj r):=by
 show Run _ _ (MH (a_1,b_2) r) [.code Ob] _
 refine rI 27 [(0,.isl false (a_1.map aa)),(1,.isl false (b_2.map aa))] [] 1 ?_
 unfold xw at h
 refine cq 8 [6] [.isl false (a_1.map aa)] 33 ?_
 refine oq 49 (I (len a_1)) rfl (aX rfl rfl rfl (bc rfl)) ?_
 refine cq 1 [8] [.isl false (b_2.map aa)] 65 ?_
 refine oq 81 (I (len b_2)) rfl (aX rfl rfl rfl (bc rfl)) ?_
 refine cq 2 [10] [B ((len a_1) != (len b_2))] 97 ?_
 refine sq h (fun h=>?_) fun h=>?_
 ·refine cq 4 [4] [B false] 113 ?_
  obtain rfl:=Option.some.inj h
  exact aj rfl (qp [B false])
 ·refine aq 1 ?_
  refine cq 6 [5] [I (0)] 113 ?_
  obtain⟨y7,hy7,hy71,hy72⟩:=bJ h
  refine bG rfl ?_
  refine rf [0,1,5] [] (Iz a_1 b_2 rfl 0 _ hy7 (fun r' e st hq=>by rw[hy71 r' e] at hq;exact hq) fun u7 hu=>?_)
  replace h:=hy72 u7 hu
  refine cq 4 [4] [B true] 17 ?_
  obtain rfl:=Option.some.inj h
  exact aj rfl (qp [B true])
theorem NW {G:Go.Ln.Ground}:aI Tryz.prog G 68 yE:=gT 2 0 (aD LY bg) (Checked.mixed Tryz.checked) Tryz.func68 (fun a r h=>Qs a.1 a.2 r h)
def yZ:(Contract×Contract)→List V:=cA aG (oA aG)
def zu (r:Bool):V×List V:=(B r,[])
noncomputable def yu:Ent:=aR [false,false] yZ zu fun x=>xX x.1 x.2
theorem Oj {a_1:Contract}{b_2:Contract}{r}(h:xX a_1 b_2=some r):yu.F (yZ (a_1,b_2))=some (zu r):=aC (aY aV (aB aV)) h
noncomputable def VS:Code:=az Tryz.f21
noncomputable def OL:Env:=bF Tryz.prog [(67,rp),(68,yE)]
def Us (x:Contract×Contract)(r:Bool):St→Prop:=QF OL Tryz.f21 [false,false] (yZ x) (zu r)
theorem Q6 (a_1:Contract)(b_2:Contract)(r:Bool)(h:xX a_1 b_2=some r):be OL Tryz.f21 [false,false] 0 (yZ (a_1,b_2)) (zu r):=by
 show Run _ _ (Us (a_1,b_2) r) [.code VS] _
 refine rI 17 [(0,.agg [.isl false (a_1.Parties.map str),.isl false (a_1.Clauses.map aa)]),(1,.agg [.isl false (b_2.Parties.map str),.isl false (b_2.Clauses.map aa)])] [] 1 ?_
 unfold xX at h
 refine ck 13 [2,3,6,8] [] [1,17] [] [.hp 1 0 [] 2 0 0,.hp 17 0 [] 2 0 0,.isl false (a_1.Parties.map str),.isl false (b_2.Parties.map str)] [some ⟨0,2,[.agg [.isl false (a_1.Parties.map str),.isl false (a_1.Clauses.map aa)]]⟩,some ⟨0,2,[.agg [.isl false (b_2.Parties.map str),.isl false (b_2.Clauses.map aa)]]⟩] 113 (by kernel_rfl) ?_
 obtain⟨r3,hr3,h⟩:=bS h
 refine oq 129 (B r3) rfl (cP (Nh hr3)) ?_
 refine cq 2 [10] [B (!r3)] 145 ?_
 refine sq h (fun h=>?_) fun h=>?_
 ·refine cq 4 [4] [B false] 161 ?_
  obtain rfl:=Option.some.inj h
  exact aj rfl (qp [B false])
 ·refine aq 1 ?_
  refine cq 7 [12,14] [.isl false (a_1.Clauses.map aa),.isl false (b_2.Clauses.map aa)] 209 ?_
  obtain⟨r4,hr4,h⟩:=bS h
  refine oq 225 (B r4) rfl (cP (UA hr4)) ?_
  refine cq 2 [16] [B (!r4)] 241 ?_
  refine sq h (fun h=>?_) fun h=>?_
  ·refine cq 4 [4] [B false] 257 ?_
   obtain rfl:=Option.some.inj h
   exact aj rfl (qp [B false])
  ·refine aq 1 ?_
   refine cq 4 [4] [B true] 257 ?_
   obtain rfl:=Option.some.inj h
   exact aj rfl (qp [B true])
theorem Mf {G:Go.Ln.Ground}:aI Tryz.prog G 21 yu:=gT 2 0 (aD Er (aD NW bg)) (Checked.mixed Tryz.checked) Tryz.func21 (fun a r h=>Q6 a.1 a.2 r h)
def Bp:(Duty×Duty)→List V:=cA ah (oA ah)
def BF (r:Bool):V×List V:=(B r,[])
noncomputable def wU:Ent:=aR [false,false] Bp BF fun x=>uM x.1 x.2
theorem NC {a_1:Duty}{b_2:Duty}{r}(h:uM a_1 b_2=some r):wU.F (Bp (a_1,b_2))=some (BF r):=aC (aY cZ (aB cZ)) h
noncomputable def Vr:Code:=az Tryz.f137
noncomputable def OS:Env:=bF Tryz.prog []
def U7 (x:Duty×Duty)(r:Bool):St→Prop:=QF OS Tryz.f137 [false,false] (Bp x) (BF r)
theorem Ry (a_1:Duty)(b_2:Duty)(r:Bool)(h:uM a_1 b_2=some r):be OS Tryz.f137 [false,false] 0 (Bp (a_1,b_2)) (BF r):=by
 show Run _ _ (U7 (a_1,b_2) r) [.code Vr] _
 refine rI 25 [(0,ah a_1),(1,ah b_2)] [] 1 ?_
 unfold uM at h
 refine ck 15 [2,3,9] [] [1,17] [] [.hp 1 0 [] 4 0 0,.hp 17 0 [] 4 0 0,B (a_1.Clause != b_2.Clause)] [some ⟨0,4,[ah a_1]⟩,some ⟨0,4,[ah b_2]⟩] 129 (by kernel_rfl) ?_
 refine sq h (fun h=>?_) fun h=>?_
 ·refine cq 4 [4] [B false] 145 ?_
  obtain rfl:=Option.some.inj h
  exact aj rfl (qp [B false])
 ·refine aq 1 ?_
  refine cq 9 [14] [B (a_1.Since != b_2.Since)] 209 ?_
  refine sq h (fun h=>?_) fun h=>?_
  ·refine cq 4 [4] [B false] 225 ?_
   obtain rfl:=Option.some.inj h
   exact aj rfl (qp [B false])
  ·refine aq 1 ?_
   refine cq 9 [19] [B (a_1.Due != b_2.Due)] 289 ?_
   refine sq h (fun h=>?_) fun h=>?_
   ·refine cq 4 [4] [B false] 305 ?_
    obtain rfl:=Option.some.inj h
    exact aj rfl (qp [B false])
   ·refine aq 1 ?_
    refine cq 9 [24] [B (a_1.Status != b_2.Status)] 369 ?_
    refine sq h (fun h=>?_) fun h=>?_
    ·refine cq 4 [4] [B false] 385 ?_
     obtain rfl:=Option.some.inj h
     exact aj rfl (qp [B false])
    ·refine aq 1 ?_
     refine cq 4 [4] [B true] 385 ?_
     obtain rfl:=Option.some.inj h
     exact aj rfl (qp [B true])
theorem N7 {G:Go.Ln.Ground}:aI Tryz.prog G 137 wU:=gT 2 0 bg (Checked.mixed Tryz.checked) Tryz.func137 (fun a r h=>Ry a.1 a.2 r h)
def BK:((List Duty)×(List Duty))→List V:=cA (ew ah) (oA (ew ah))
def Bf (r:Bool):V×List V:=(B r,[])
noncomputable def wG:Ent:=aR [false,false] BK Bf fun x=>wV x.1 x.2
theorem VX {a_1:List Duty}{b_2:List Duty}{r}(h:wV a_1 b_2=some r):wG.F (BK (a_1,b_2))=some (Bf r):=aC (aY (bz cZ) (aB (bz cZ))) h
noncomputable def Oc:Code:=az Tryz.f69
noncomputable def HV:Env:=bF Tryz.prog [(137,wU)]
def O0 (x:(List Duty)×(List Duty))(r:Bool):St→Prop:=QF HV Tryz.f69 [false,false] (BK x) (Bf r)
theorem Jb (a_1:List Duty)(b_2:List Duty):cd HV 0 (O0 (a_1,b_2)) (cL (cL (cR (cL (cR (cR Oc)))))) 0 (qW a_1 b_2) (fun u=>(sT 27 [] [] 1)) fun x3=>(sT 27 [(0,.isl false (a_1.map ah)),(1,.isl false (b_2.map ah)),(5,I x3)] [] 1):=dT (wy a_1 b_2) fun {Q K} hK self ih x3 y h hr hn=>by
 unfold kL at h
 refine cq 5 [11,12] [I x3,.isl false (a_1.map ah)] 33 ?_
 refine oq 49 (I (len a_1)) rfl (aX rfl rfl rfl (bc rfl)) ?_
 refine cq 2 [14] [B (decide (x3<(len a_1)))] 65 ?_
 refine sq h (fun h=>?_) fun h=>?_
 ·refine aq 1 ?_
  refine aq 3 ?_
  refine d7 [0,0,3,7,0,0,48,112,255,511] rfl (by decide +kernel) ?_
  refine dk 2 [18,17] [I x3,.isl false (a_1.map ah)] ?_
  obtain⟨e4,he4,h⟩:=bS h
  refine dq [] [] (.iptr (ah e4) 0) rfl (ap rfl rfl rfl (aQ rfl rfl rfl rfl he4)) ?_
  refine dq [] [] (ah e4) rfl (aM rfl rfl) ?_
  refine dk 2 [22,21] [I x3,.isl false (b_2.map ah)] ?_
  obtain⟨e5,he5,h⟩:=bS h
  refine dq [] [] (.iptr (ah e5) 0) rfl (ap rfl rfl rfl (aQ rfl rfl rfl rfl he5)) ?_
  refine dq [] [] (ah e5) rfl (aM rfl rfl) ?_
  obtain⟨r6,hr6,h⟩:=bS h
  refine dq [] [] (B r6) rfl (cP (NC hr6)) ?_ (dj rfl rfl rfl rfl (b9 (cQ rfl) (b9 (cQ rfl) dD)) (NC hr6) (.inr rfl) rfl)
  refine dk 1 [26] [B (!r6)] ?_
  refine de 225 rfl rfl ?_
  refine sq h (fun h=>?_) fun h=>?_
  ·refine cq 4 [4] [B false] 241 ?_
   exact aj rfl (hr _ (Option.some.inj h).symm _ (qp [B false]))
  ·refine aq 1 ?_
   refine cq 6 [5] [I (ar (x3+1))] 273 ?_
   refine cG ?_
   exact rf [0,1,5] [] (ih _ _ h hr hn :)
 ·refine aq 1 ?_
  exact rf [] [] (hn _ (Option.some.inj h).symm :) (hk:=hK)
theorem RZ (a_1:List Duty)(b_2:List Duty)(r:Bool)(h:wV a_1 b_2=some r):be HV Tryz.f69 [false,false] 0 (BK (a_1,b_2)) (Bf r):=by
 show Run _ _ (O0 (a_1,b_2) r) [.code Oc] _
 refine rI 27 [(0,.isl false (a_1.map ah)),(1,.isl false (b_2.map ah))] [] 1 ?_
 unfold wV at h
 refine cq 8 [6] [.isl false (a_1.map ah)] 33 ?_
 refine oq 49 (I (len a_1)) rfl (aX rfl rfl rfl (bc rfl)) ?_
 refine cq 1 [8] [.isl false (b_2.map ah)] 65 ?_
 refine oq 81 (I (len b_2)) rfl (aX rfl rfl rfl (bc rfl)) ?_
 refine cq 2 [10] [B ((len a_1) != (len b_2))] 97 ?_
 refine sq h (fun h=>?_) fun h=>?_
 ·refine cq 4 [4] [B false] 113 ?_
  obtain rfl:=Option.some.inj h
  exact aj rfl (qp [B false])
 ·refine aq 1 ?_
  refine cq 6 [5] [I (0)] 113 ?_
  obtain⟨y7,hy7,hy71,hy72⟩:=bJ h
  refine bG rfl ?_
  refine rf [0,1,5] [] (Jb a_1 b_2 rfl 0 _ hy7 (fun r' e st hq=>by rw[hy71 r' e] at hq;exact hq) fun u7 hu=>?_)
  replace h:=hy72 u7 hu
  refine cq 4 [4] [B true] 17 ?_
  obtain rfl:=Option.some.inj h
  exact aj rfl (qp [B true])
theorem Mu {G:Go.Ln.Ground}:aI Tryz.prog G 69 wG:=gT 2 0 (aD N7 bg) (Checked.mixed Tryz.checked) Tryz.func69 (fun a r h=>RZ a.1 a.2 r h)
def Cu:((List Int)×(List Int))→List V:=cA (ew I) (oA (ew I))
def Af (r:Bool):V×List V:=(B r,[])
noncomputable def wY:Ent:=aR [false,false] Cu Af fun x=>yN x.1 x.2
theorem Ui {a_1:List Int}{b_2:List Int}{r}(h:yN a_1 b_2=some r):wY.F (Cu (a_1,b_2))=some (Af r):=aC (aY (bz bO) (aB (bz bO))) h
noncomputable def MW:Code:=az Tryz.f28
noncomputable def Hf:Env:=bF Tryz.prog []
def NP (x:(List Int)×(List Int))(r:Bool):St→Prop:=QF Hf Tryz.f28 [false,false] (Cu x) (Af r)
theorem IB (a_1:List Int)(b_2:List Int):cd Hf 0 (NP (a_1,b_2)) (cL (cL (cR (cL (cR (cR MW)))))) 0 (qZ a_1 b_2) (fun u=>(sT 26 [] [] 1)) fun x3=>(sT 26 [(0,.isl false (a_1.map I)),(1,.isl false (b_2.map I)),(5,I x3)] [] 1):=dT (vZ a_1 b_2) fun {Q K} hK self ih x3 y h hr hn=>by
 unfold lr at h
 refine cq 5 [11,12] [I x3,.isl false (a_1.map I)] 33 ?_
 refine oq 49 (I (len a_1)) rfl (aX rfl rfl rfl (bc rfl)) ?_
 refine cq 2 [14] [B (decide (x3<(len a_1)))] 65 ?_
 refine sq h (fun h=>?_) fun h=>?_
 ·refine aq 1 ?_
  refine aq 3 ?_
  refine d7 [0,0,3,7,0,0,48,112,255] rfl (by decide +kernel) ?_
  refine dk 2 [18,17] [I x3,.isl false (a_1.map I)] ?_
  obtain⟨e4,he4,h⟩:=bS h
  refine dq [] [] (.iptr (I e4) 0) rfl (ap rfl rfl rfl (aQ rfl rfl rfl rfl he4)) ?_
  refine dq [] [] (I e4) rfl (aM rfl rfl) ?_
  refine dk 2 [22,21] [I x3,.isl false (b_2.map I)] ?_
  obtain⟨e5,he5,h⟩:=bS h
  refine dq [] [] (.iptr (I e5) 0) rfl (ap rfl rfl rfl (aQ rfl rfl rfl rfl he5)) ?_
  refine dq [] [] (I e5) rfl (aM rfl rfl) ?_
  refine dk 1 [25] [B (e4 != e5)] ?_
  refine de 209 rfl rfl ?_
  refine sq h (fun h=>?_) fun h=>?_
  ·refine cq 4 [4] [B false] 225 ?_
   exact aj rfl (hr _ (Option.some.inj h).symm _ (qp [B false]))
  ·refine aq 1 ?_
   refine cq 6 [5] [I (ar (x3+1))] 257 ?_
   refine cG ?_
   exact rf [0,1,5] [] (ih _ _ h hr hn :)
 ·refine aq 1 ?_
  exact rf [] [] (hn _ (Option.some.inj h).symm :) (hk:=hK)
theorem QS (a_1:List Int)(b_2:List Int)(r:Bool)(h:yN a_1 b_2=some r):be Hf Tryz.f28 [false,false] 0 (Cu (a_1,b_2)) (Af r):=by
 show Run _ _ (NP (a_1,b_2) r) [.code MW] _
 refine rI 26 [(0,.isl false (a_1.map I)),(1,.isl false (b_2.map I))] [] 1 ?_
 unfold yN at h
 refine cq 8 [6] [.isl false (a_1.map I)] 33 ?_
 refine oq 49 (I (len a_1)) rfl (aX rfl rfl rfl (bc rfl)) ?_
 refine cq 1 [8] [.isl false (b_2.map I)] 65 ?_
 refine oq 81 (I (len b_2)) rfl (aX rfl rfl rfl (bc rfl)) ?_
 refine cq 2 [10] [B ((len a_1) != (len b_2))] 97 ?_
 refine sq h (fun h=>?_) fun h=>?_
 ·refine cq 4 [4] [B false] 113 ?_
  obtain rfl:=Option.some.inj h
  exact aj rfl (qp [B false])
 ·refine aq 1 ?_
  refine cq 6 [5] [I (0)] 113 ?_
  obtain⟨y6,hy6,hy61,hy62⟩:=bJ h
  refine bG rfl ?_
  refine rf [0,1,5] [] (IB a_1 b_2 rfl 0 _ hy6 (fun r' e st hq=>by rw[hy61 r' e] at hq;exact hq) fun u6 hu=>?_)
  replace h:=hy62 u6 hu
  refine cq 4 [4] [B true] 17 ?_
  obtain rfl:=Option.some.inj h
  exact aj rfl (qp [B true])
theorem MF {G:Go.Ln.Ground}:aI Tryz.prog G 28 wY:=gT 2 0 bg (Checked.mixed Tryz.checked) Tryz.func28 (fun a r h=>QS a.1 a.2 r h)
def AI:(State×State)→List V:=cA bX (oA bX)
def Bb (r:Bool):V×List V:=(B r,[])
noncomputable def xu:Ent:=aR [false,false] AI Bb fun x=>ye x.1 x.2
theorem M6 {a_1:State}{b_2:State}{r}(h:ye a_1 b_2=some r):xu.F (AI (a_1,b_2))=some (Bb r):=aC (aY cY (aB cY)) h
noncomputable def Ur:Code:=az Tryz.f22
noncomputable def NF:Env:=bF Tryz.prog [(67,rp),(69,wG),(28,wY)]
def V0 (x:State×State)(r:Bool):St→Prop:=QF NF Tryz.f22 [false,false] (AI x) (Bb r)
theorem RY (a_1:State)(b_2:State)(r:Bool)(h:ye a_1 b_2=some r):be NF Tryz.f22 [false,false] 0 (AI (a_1,b_2)) (Bb r):=by
 show Run _ _ (V0 (a_1,b_2) r) [.code Ur] _
 refine rI 33 [(0,.agg [I a_1.Day,.isl false (a_1.Facts.map str),.isl false (a_1.Duties.map ah),.isl false (a_1.Balances.map I),B a_1.Over]),(1,.agg [I b_2.Day,.isl false (b_2.Facts.map str),.isl false (b_2.Duties.map ah),.isl false (b_2.Balances.map I),B b_2.Over])] [] 1 ?_
 unfold ye at h
 refine ck 15 [2,3,9] [] [1,17] [] [.hp 1 0 [] 5 0 0,.hp 17 0 [] 5 0 0,B (a_1.Day != b_2.Day)] [some ⟨0,5,[.agg [I a_1.Day,.isl false (a_1.Facts.map str),.isl false (a_1.Duties.map ah),.isl false (a_1.Balances.map I),B a_1.Over]]⟩,some ⟨0,5,[.agg [I b_2.Day,.isl false (b_2.Facts.map str),.isl false (b_2.Duties.map ah),.isl false (b_2.Balances.map I),B b_2.Over]]⟩] 129 (by kernel_rfl) ?_
 refine sq h (fun h=>?_) fun h=>?_
 ·refine cq 4 [4] [B false] 145 ?_
  obtain rfl:=Option.some.inj h
  exact aj rfl (qp [B false])
 ·refine aq 1 ?_
  refine cq 7 [11,13] [.isl false (a_1.Facts.map str),.isl false (b_2.Facts.map str)] 193 ?_
  obtain⟨r3,hr3,h⟩:=bS h
  refine oq 209 (B r3) rfl (cP (Nh hr3)) ?_
  refine cq 2 [15] [B (!r3)] 225 ?_
  refine sq h (fun h=>?_) fun h=>?_
  ·refine cq 4 [4] [B false] 241 ?_
   obtain rfl:=Option.some.inj h
   exact aj rfl (qp [B false])
  ·refine aq 1 ?_
   refine cq 7 [17,19] [.isl false (a_1.Duties.map ah),.isl false (b_2.Duties.map ah)] 289 ?_
   obtain⟨r4,hr4,h⟩:=bS h
   refine oq 305 (B r4) rfl (cP (VX hr4)) ?_
   refine cq 2 [21] [B (!r4)] 321 ?_
   refine sq h (fun h=>?_) fun h=>?_
   ·refine cq 4 [4] [B false] 337 ?_
    obtain rfl:=Option.some.inj h
    exact aj rfl (qp [B false])
   ·refine aq 1 ?_
    refine cq 7 [23,25] [.isl false (a_1.Balances.map I),.isl false (b_2.Balances.map I)] 385 ?_
    obtain⟨r5,hr5,h⟩:=bS h
    refine oq 401 (B r5) rfl (cP (Ui hr5)) ?_
    refine cq 2 [27] [B (!r5)] 417 ?_
    refine sq h (fun h=>?_) fun h=>?_
    ·refine cq 4 [4] [B false] 433 ?_
     obtain rfl:=Option.some.inj h
     exact aj rfl (qp [B false])
    ·refine aq 1 ?_
     refine cq 9 [32] [B (!(a_1.Over==b_2.Over))] 497 ?_
     refine sq h (fun h=>?_) fun h=>?_
     ·refine cq 4 [4] [B false] 513 ?_
      obtain rfl:=Option.some.inj h
      exact aj rfl (qp [B false])
     ·refine aq 1 ?_
      refine cq 4 [4] [B true] 513 ?_
      obtain rfl:=Option.some.inj h
      exact aj rfl (qp [B true])
theorem Mb {G:Go.Ln.Ground}:aI Tryz.prog G 22 xu:=gT 2 0 (aD Er (aD Mu (aD MF bg))) (Checked.mixed Tryz.checked) Tryz.func22 (fun a r h=>RY a.1 a.2 r h)
def ee:(Contract×State)→List V:=cA aG (oA bX)
def ed (r:Bool):V×List V:=(B r,[])
noncomputable def eV:Ent:=aR [false,false] ee ed fun x=>dC x.1 x.2
theorem nA {aC_1:Contract}{aS_2:State}{r}(h:dC aC_1 aS_2=some r):eV.F (ee (aC_1,aS_2))=some (ed r):=aC (aY aV (aB cY)) h
noncomputable def ir:Code:=az Tryz.f3
noncomputable def iD:Env:=bF Tryz.prog [(15,yM),(16,yy),(18,xk),(19,wK),(17,wZ),(20,Dl),(21,yu),(22,xu)]
def nt (x:Contract×State)(r:Bool):St→Prop:=QF iD Tryz.f3 [false,false] (ee x) (ed r)
theorem mq (aC_1:Contract)(aS_2:State)(r:Bool)(h:dC aC_1 aS_2=some r):be iD Tryz.f3 [false,false] 0 (ee (aC_1,aS_2)) (ed r):=by
 show Run _ _ (nt (aC_1,aS_2) r) [.code ir] _
 refine rI 45 [(0,aG aC_1),(1,bX aS_2)] [] 1 ?_
 unfold dC at h
 refine ck 14 [2,3,10,11] [] [1,17] [] [.hp 1 0 [] 2 0 0,.hp 17 0 [] 5 0 0,aG aC_1,I (1048576)] [some ⟨0,2,[aG aC_1]⟩,some ⟨0,5,[bX aS_2]⟩] 97 (by kernel_rfl) ?_
 obtain⟨r3,hr3,h⟩:=bS h
 refine oq 113 (I r3) rfl (cP (VC hr3)) ?_
 refine cq 8 [5,14] [I r3,B (decide (r3<0))] 161 ?_
 refine sq h (fun h=>?_) fun h=>?_
 ·refine cq 4 [4] [B true] 177 ?_
  obtain rfl:=Option.some.inj h
  exact aj rfl (qp [B true])
 ·refine aq 1 ?_
  refine cq 4 [15,16] [bX aS_2,I r3] 193 ?_
  obtain⟨r4,hr4,h⟩:=bS h
  refine oq 209 (I r4) rfl (cP (UH hr4)) ?_
  refine ck 8 [19] [5] [] [] [B (decide (r4<0))] [] 257 (by kernel_rfl) ?_
  refine sq h (fun h=>?_) fun h=>?_
  ·refine cq 4 [4] [B true] 273 ?_
   obtain rfl:=Option.some.inj h
   exact aj rfl (qp [B true])
  ·refine aq 1 ?_
   refine aq 1 ?_
   refine d7 [0,1,0,7,15,31] rfl (by decide +kernel) ?_
   refine dq [1] [] (aG aC_1) rfl (aM rfl rfl) ?_
   obtain⟨r5,hr5,h⟩:=bS h
   refine dq [] [] (.agg [.hs 273 0 [] 1 0 (r5.Parties.map str).length,.hs 274 0 [] 12 0 (r5.Clauses.map aF).length]) rfl (cP (tz hr5)) ?_ (dj rfl rfl rfl rfl (b9 (cQ rfl) dD) (tz hr5) (.inr rfl) rfl)
   refine dq [17] [] (bX aS_2) rfl (aM rfl rfl) ?_
   obtain⟨r6,hr6,h⟩:=bS h
   refine dq [] [] (.agg [I r6.Day,.hs 305 0 [] 1 0 (r6.Facts.map str).length,.hs 306 0 [] 4 0 (r6.Duties.map ah).length,.hs 307 0 [] 1 0 (r6.Balances.map I).length,B r6.Over]) rfl (cP (tw hr6)) ?_ (dj rfl rfl rfl rfl (b9 (cQ rfl) dD) (tw hr6) (.inr rfl) rfl)
   obtain⟨r7,hr7,h⟩:=bS h
   refine dq [273,274,305,306,307] [] (B r7) rfl (co rfl rfl (cI rfl rfl rfl (b9 (oC (dh (d6 (f:=str) (g:=str) (xs:=r5.Parties) rfl rfl (bU ep)) (dh (d6 (f:=aF) (g:=aa) (xs:=r5.Clauses) rfl rfl (bU eG)) kg))) (b9 (oC (dh (gM rfl) (dh (d6 (f:=str) (g:=str) (xs:=r6.Facts) rfl rfl (bU ep)) (dh (d6 (f:=ah) (g:=ah) (xs:=r6.Duties) rfl rfl (bU fY)) (dh (d6 (f:=I) (g:=I) (xs:=r6.Balances) rfl rfl (bU rx)) (dh (gM rfl) kg)))))) dD)) (NO hr7) (.inl rfl) d9 rfl rfl rfl)) ?_ (dj rfl rfl rfl rfl (b9 (oC (dh (d6 (f:=str) (g:=str) (xs:=r5.Parties) rfl rfl (bU ep)) (dh (d6 (f:=aF) (g:=aa) (xs:=r5.Clauses) rfl rfl (bU eG)) kg))) (b9 (oC (dh (gM rfl) (dh (d6 (f:=str) (g:=str) (xs:=r6.Facts) rfl rfl (bU ep)) (dh (d6 (f:=ah) (g:=ah) (xs:=r6.Duties) rfl rfl (bU fY)) (dh (d6 (f:=I) (g:=I) (xs:=r6.Balances) rfl rfl (bU rx)) (dh (gM rfl) kg)))))) dD)) (NO hr7) (.inl rfl) rfl)
   refine dk 1 [6] [B r7] ?_
   refine de 353 rfl rfl ?_
   refine cq 3 [25] [aG aC_1] 369 ?_
   obtain⟨r8,hr8,h⟩:=bS h
   refine oq 385 (.agg [.hs 369 0 [] 1 0 (r8.Parties.map str).length,.hs 370 0 [] 12 0 (r8.Clauses.map aF).length]) rfl (cP (tz hr8)) ?_
   refine ck 1 [7] [] [385] [] [.hp 385 0 [] 2 0 0] [some ⟨0,2,[.agg [.isl true [],.isl true []]]⟩] 401 (by kernel_rfl) ?_
   refine d8 385 [.agg [.usl 1 (([]).map str),.usl 12 (([]).map aF)]] rfl rfl (au (fi (au (.nil _) (au (.nil _) dA))) dA) ?_
   refine o0 417 rfl rfl (gc rfl rfl (eP (path:=[]) (pl:=false) (e':=.agg [.usl 1 (r8.Parties.map str),.usl 12 (r8.Clauses.map aF)]) (es2':=[.agg [.usl 1 (r8.Parties.map str),.usl 12 (r8.Clauses.map aF)]]) rfl (ml (bI (cN rfl rfl) (bI (cN rfl rfl) my))) rfl rfl rfl aZ rfl rfl rfl rfl rfl dU 2 rfl)) ?_
   refine cq 4 [27] [bX aS_2] 433 ?_
   obtain⟨r9,hr9,h⟩:=bS h
   refine oq 449 (.agg [I r9.Day,.hs 433 0 [] 1 0 (r9.Facts.map str).length,.hs 434 0 [] 4 0 (r9.Duties.map ah).length,.hs 435 0 [] 1 0 (r9.Balances.map I).length,B r9.Over]) rfl (cP (tw hr9)) ?_
   refine ck 1 [8] [] [449] [] [.hp 449 0 [] 5 0 0] [some ⟨0,5,[.agg [I (0),.isl true [],.isl true [],.isl true [],B false]]⟩] 465 (by kernel_rfl) ?_
   refine d8 449 [.agg [I (0),.usl 1 (([]).map str),.usl 4 (([]).map ah),.usl 1 (([]).map I),B false]] rfl rfl (au (fi (au (.refl _) (au (.nil _) (au (.nil _) (au (.nil _) (au (.refl _) dA)))))) dA) ?_
   refine o0 481 rfl rfl (gc rfl rfl (eP (path:=[]) (pl:=false) (e':=.agg [I r9.Day,.usl 1 (r9.Facts.map str),.usl 4 (r9.Duties.map ah),.usl 1 (r9.Balances.map I),B r9.Over]) (es2':=[.agg [I r9.Day,.usl 1 (r9.Facts.map str),.usl 4 (r9.Duties.map ah),.usl 1 (r9.Balances.map I),B r9.Over]]) rfl (ml (bI (ca rfl) (bI (cN rfl rfl) (bI (cN rfl rfl) (bI (cN rfl rfl) (bI (ca rfl) my)))))) rfl rfl rfl aZ rfl rfl rfl rfl rfl dU 2 rfl)) ?_
   refine cq 5 [29,30] [.agg [.hs 385 2 [(0,0)] 1 0 (r8.Parties.map str).length,.hs 385 2 [(0,1)] 12 0 (r8.Clauses.map aF).length],.agg [I r9.Day,.hs 449 2 [(0,1)] 1 0 (r9.Facts.map str).length,.hs 449 2 [(0,2)] 4 0 (r9.Duties.map ah).length,.hs 449 2 [(0,3)] 1 0 (r9.Balances.map I).length,B r9.Over]] 513 ?_
   obtain⟨r10,hr10,h⟩:=bS h
   refine oq 529 (B r10) rfl (co rfl rfl (cI rfl rfl rfl (b9 (oC (dh (ip (path:=[(0,0)]) rfl rfl (ez rfl rfl aZ) rfl (bU (f:=str) ep)) (dh (ip (path:=[(0,1)]) rfl rfl (ez rfl rfl aZ) rfl (bU (f:=aF) eG)) kg))) (b9 (oC (dh (gM rfl) (dh (ip (path:=[(0,1)]) rfl rfl (ez rfl rfl aZ) rfl (bU (f:=str) ep)) (dh (ip (path:=[(0,2)]) rfl rfl (ez rfl rfl aZ) rfl (bU (f:=ah) fY)) (dh (ip (path:=[(0,3)]) rfl rfl (ez rfl rfl aZ) rfl (bU (f:=I) rx)) (dh (gM rfl) kg)))))) dD)) (WH hr10) (.inl rfl) d9 rfl rfl rfl)) ?_
   refine cq 9 [34] [B (!(r10==r7))] 593 ?_
   refine sq h (fun h=>?_) fun h=>?_
   ·refine cq 4 [4] [B false] 609 ?_
    obtain rfl:=Option.some.inj h
    exact aj rfl (qp [B false])
   ·refine aq 1 ?_
    refine aq 2 ?_
    refine d7 [0,0,2,7,15] rfl (by decide +kernel) ?_
    refine dq [385] [] (.agg [.hs 385 2 [(0,0)] 1 0 (r8.Parties.map str).length,.hs 385 2 [(0,1)] 12 0 (r8.Clauses.map aF).length]) rfl (aM rfl rfl) ?_
    refine dq [1] [] (aG aC_1) rfl (aM rfl rfl) ?_
    obtain⟨r11,hr11,h⟩:=bS h
    refine dq [] [] (.agg [.hs 625 0 [] 1 0 (r11.Parties.map str).length,.hs 626 0 [] 12 0 (r11.Clauses.map aF).length]) rfl (cP (tz hr11)) ?_ (dj rfl rfl rfl rfl (b9 (cQ rfl) dD) (tz hr11) (.inr rfl) rfl)
    obtain⟨r12,hr12,h⟩:=bS h
    refine dq [385,385,625,626] [] (B r12) rfl (co rfl rfl (cI rfl rfl rfl (b9 (oC (dh (ip (path:=[(0,0)]) rfl rfl (ez rfl rfl aZ) rfl (bU (f:=str) ep)) (dh (ip (path:=[(0,1)]) rfl rfl (ez rfl rfl aZ) rfl (bU (f:=aF) eG)) kg))) (b9 (oC (dh (d6 (f:=str) (g:=str) (xs:=r11.Parties) rfl rfl (bU ep)) (dh (d6 (f:=aF) (g:=aa) (xs:=r11.Clauses) rfl rfl (bU eG)) kg))) dD)) (Oj hr12) (.inl rfl) d9 rfl rfl rfl)) ?_ (dj rfl rfl rfl rfl (b9 (oC (dh (ip (path:=[(0,0)]) rfl rfl (ez rfl rfl aZ) rfl (bU (f:=str) ep)) (dh (ip (path:=[(0,1)]) rfl rfl (ez rfl rfl aZ) rfl (bU (f:=aF) eG)) kg))) (b9 (oC (dh (d6 (f:=str) (g:=str) (xs:=r11.Parties) rfl rfl (bU ep)) (dh (d6 (f:=aF) (g:=aa) (xs:=r11.Clauses) rfl rfl (bU eG)) kg))) dD)) (Oj hr12) (.inl rfl) rfl)
    refine dk 1 [39] [B (!r12)] ?_
    refine de 673 rfl rfl ?_
    refine sq h (fun h=>?_) fun h=>?_
    ·refine cq 4 [4] [B false] 689 ?_
     obtain rfl:=Option.some.inj h
     exact aj rfl (qp [B false])
    ·refine aq 1 ?_
     refine aq 2 ?_
     refine d7 [0,0,2,7,15] rfl (by decide +kernel) ?_
     refine dq [449] [] (.agg [I r9.Day,.hs 449 2 [(0,1)] 1 0 (r9.Facts.map str).length,.hs 449 2 [(0,2)] 4 0 (r9.Duties.map ah).length,.hs 449 2 [(0,3)] 1 0 (r9.Balances.map I).length,B r9.Over]) rfl (aM rfl rfl) ?_
     refine dq [17] [] (bX aS_2) rfl (aM rfl rfl) ?_
     obtain⟨r13,hr13,h⟩:=bS h
     refine dq [] [] (.agg [I r13.Day,.hs 705 0 [] 1 0 (r13.Facts.map str).length,.hs 706 0 [] 4 0 (r13.Duties.map ah).length,.hs 707 0 [] 1 0 (r13.Balances.map I).length,B r13.Over]) rfl (cP (tw hr13)) ?_ (dj rfl rfl rfl rfl (b9 (cQ rfl) dD) (tw hr13) (.inr rfl) rfl)
     obtain⟨r14,hr14,h⟩:=bS h
     refine dq [449,449,449,705,706,707] [] (B r14) rfl (co rfl rfl (cI rfl rfl rfl (b9 (oC (dh (gM rfl) (dh (ip (path:=[(0,1)]) rfl rfl (ez rfl rfl aZ) rfl (bU (f:=str) ep)) (dh (ip (path:=[(0,2)]) rfl rfl (ez rfl rfl aZ) rfl (bU (f:=ah) fY)) (dh (ip (path:=[(0,3)]) rfl rfl (ez rfl rfl aZ) rfl (bU (f:=I) rx)) (dh (gM rfl) kg)))))) (b9 (oC (dh (gM rfl) (dh (d6 (f:=str) (g:=str) (xs:=r13.Facts) rfl rfl (bU ep)) (dh (d6 (f:=ah) (g:=ah) (xs:=r13.Duties) rfl rfl (bU fY)) (dh (d6 (f:=I) (g:=I) (xs:=r13.Balances) rfl rfl (bU rx)) (dh (gM rfl) kg)))))) dD)) (M6 hr14) (.inl rfl) d9 rfl rfl rfl)) ?_ (dj rfl rfl rfl rfl (b9 (oC (dh (gM rfl) (dh (ip (path:=[(0,1)]) rfl rfl (ez rfl rfl aZ) rfl (bU (f:=str) ep)) (dh (ip (path:=[(0,2)]) rfl rfl (ez rfl rfl aZ) rfl (bU (f:=ah) fY)) (dh (ip (path:=[(0,3)]) rfl rfl (ez rfl rfl aZ) rfl (bU (f:=I) rx)) (dh (gM rfl) kg)))))) (b9 (oC (dh (gM rfl) (dh (d6 (f:=str) (g:=str) (xs:=r13.Facts) rfl rfl (bU ep)) (dh (d6 (f:=ah) (g:=ah) (xs:=r13.Duties) rfl rfl (bU fY)) (dh (d6 (f:=I) (g:=I) (xs:=r13.Balances) rfl rfl (bU rx)) (dh (gM rfl) kg)))))) dD)) (M6 hr14) (.inl rfl) rfl)
     refine dk 1 [44] [B (!r14)] ?_
     refine de 753 rfl rfl ?_
     refine sq h (fun h=>?_) fun h=>?_
     ·refine cq 4 [4] [B false] 769 ?_
      obtain rfl:=Option.some.inj h
      exact aj rfl (qp [B false])
     ·refine aq 1 ?_
      refine cq 4 [4] [B true] 769 ?_
      obtain rfl:=Option.some.inj h
      exact aj rfl (qp [B true])
theorem l4 {G:Go.Ln.Ground}:aI Tryz.prog G 3 eV:=gT 2 0 (aD OH (aD NL (aD L6 (aD Nn (aD N9 (aD Rz (aD Mf (aD Mb bg)))))))) (Checked.mixed Tryz.checked) Tryz.func3 (fun a r h=>mq a.1 a.2 r h)
end Go.Ln
