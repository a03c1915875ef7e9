/-
  The walks.
-/
import Derived.Test.YtapocebnjdoicaaGreatDoorFnConditionsFun
import Derived.Test.YtapocebnjdoicaaGreatDoorChecked
set_option maxHeartbeats 4000000
set_option linter.unusedVariables false
set_option linter.unusedSimpArgs false
set_option maxRecDepth 100000
namespace Go.Ln
open Go Go.Proofs
noncomputable abbrev dF:=Checked.mixed Tryz.checked
abbrev cW:=Go.Ln.Ground
abbrev cX (G:cW):=fq Tryz.prog G
noncomputable abbrev dE:=LZ Tryz.prog
def nK:(List Int)→List V:=oA (oI (V.int .u8))
def nL (r:Bool):V×List V:=(B r,[])
noncomputable def oz :=bu [false] nK nL fun x=>mh x
theorem He {bo:List Int}{r}(h:mh bo=some r):oz.F (nK bo)=some (nL r):=ba (bb (fK (l5 (k:=.u8)))) h
noncomputable def Hg :=aY Tryz.f4
noncomputable def wG :=dE []
def Hf (x:(List Int))(r:Bool):St→Prop:=QF wG Tryz.f4 [false] (nK x) (nL r)
theorem D8 (bo:List Int)(r:Bool)(h:mh bo=some r):b7 wG Tryz.f4 [false] 0 (nK bo) (nL r):=by
 show Run _ _ (Hf bo r) [.code Hg] _
 refine rI 6 [(0,.isl false (bo.map (V.int .u8)))] [] 1 ?_
 unfold mh at h
 refine cq 7 [3] [.isl false (bo.map (V.int .u8))] 33 ?_
 refine oq 49 (I (len bo)) rfl (eX rfl rfl rfl (fN rfl)) ?_
 refine cq 3 [2] [B (decide ((len bo)>65536))] 81 ?_
 obtain rfl:=sI h
 exact rP [B (decide ((len bo)>65536))]
theorem CN {G:cW}[TabG Tryz.prog G]:cX G 4 oz:=gT 1 0 ch dF Tryz.func4 (fun a r h=>D8 a r h)
def zD:l1Cur→List V:=oA (qm eY)
def zF (r:Int×l1Cur):V×List V:=(I r.1,[.uptr (ce r.2)])
noncomputable def xD :=bu [true] zD zF fun x=>tK x
theorem Ku {c_3:l1Cur}{r}(h:tK c_3=some r):xD.F (zD c_3)=some (zF r):=ba (bb (gb ee)) h
noncomputable def Kv :=aY Tryz.f51
noncomputable def Fj :=dE []
def zE (x:l1Cur)(r:Int×l1Cur):St→Prop:=QF Fj Tryz.f51 [true] (zD x) (zF r)
theorem MV (c_3:l1Cur)(r:Int×l1Cur)(h:tK c_3=some r):b7 Fj Tryz.f51 [true] 1 (zD c_3) (zF r):=by
 show Run _ _ (zE c_3 r) [.code Kv] _
 refine rI 62 [(0,.hp 1 0 [] 3 0 0)] [(1,some ⟨0,3,[ce c_3]⟩)] 2 ?_
 unfold tK at h
 refine cq 10 [3] [I (0)] 34 ?_
 refine gN [0,1,3,7,0,16,48,112,240,511] rfl (by decide +kernel) ?_
 refine dk 1 [4] [.hp 1 0 [] 3 0 0] ?_
 refine dq [1] [] (.hp 1 0 [] 3 0 0) rfl (kW rfl rfl) ?_
 refine dq [1] [] (.hp 1 0 [] 3 0 1) rfl (bn rfl rfl rfl) ?_
 refine dq [1] [] (I c_3.f_at) rfl (dD rfl rfl) ?_
 refine dk 1 [8] [.hp 1 0 [] 3 0 0] ?_
 refine dq [1] [] (.hp 1 0 [] 3 0 0) rfl (kW rfl rfl) ?_
 refine dq [1] [] (.hp 1 0 [] 3 0 0) rfl (bn rfl rfl rfl) ?_
 refine dq [1] [] (.isl false (c_3.f_code.map (V.int .u8))) rfl (dD rfl rfl) ?_
 refine dq [] [] (I (len c_3.f_code)) rfl (eX rfl rfl rfl (fN rfl)) ?_
 refine dk 1 [13] [B (decide (c_3.f_at<(len c_3.f_code)))] ?_
 refine de 194 rfl rfl ?_
 obtain⟨y2,hy2,hy21,hy22⟩:=bJ h
 have j2:∀u2,y2=.inr u2→Run Fj 1 (zE c_3 r) (.code (cR (cR (cR Kv)))::[]) (sT 62 [(0,.hp 1 0 [] 3 0 0),(3,I u2)] [⟨0,3,[ce c_3]⟩] 2):=by
  intro u2 hu
  replace h:=hy22 u2 hu
  refine ck 29 [] [] [1] [] [] [some ⟨0,3,[.agg [.isl false (c_3.f_code.map (V.int .u8)),I (aF (c_3.f_at+1)),.int .u64 (IntKind.u64.wrap ((IntKind.u64.wrap ((IntKind.u64.wrap (c_3.f_seed*6364136223846793005))+(IntKind.u64.wrap u2)))+902902))]]⟩] 338 (by kernel_rfl) ?_
  refine gN [0,1,3,7,0,16,48,112,240,511] rfl (by decide +kernel) ?_
  refine dk 1 [44] [.hp 1 0 [] 3 0 0] ?_
  refine dq [1] [] (.hp 1 0 [] 3 0 0) rfl (kW rfl rfl) ?_
  refine dq [1] [] (.hp 1 0 [] 3 0 1) rfl (bn rfl rfl rfl) ?_
  refine dq [1] [] (I (aF (c_3.f_at+1))) rfl (dD rfl rfl) ?_
  refine dk 1 [48] [.hp 1 0 [] 3 0 0] ?_
  refine dq [1] [] (.hp 1 0 [] 3 0 0) rfl (kW rfl rfl) ?_
  refine dq [1] [] (.hp 1 0 [] 3 0 0) rfl (bn rfl rfl rfl) ?_
  refine dq [1] [] (.isl false (c_3.f_code.map (V.int .u8))) rfl (dD rfl rfl) ?_
  refine dq [] [] (I (len c_3.f_code)) rfl (eX rfl rfl rfl (fN rfl)) ?_
  refine dk 1 [53] [B (decide ((aF (c_3.f_at+1))≤(len c_3.f_code)))] ?_
  refine de 498 rfl rfl ?_
  refine sq h ?_ ?_<;>intro h
  ·refine cq 5 [2] [I u2] 530 ?_
   obtain rfl:=sI h
   exact bH rfl ⟨_,fin (vs:=[I u2]) rfl (cn (be rfl) bT) rfl (fw rfl (eQ rfl rfl) dG),fQ dw⟩
  ·refine aq 1 ?_
   refine cq 11 [2] [I (IntKind.i64.wrap (CF .u64 (JF .u64 (IntKind.u64.wrap ((IntKind.u64.wrap ((IntKind.u64.wrap (c_3.f_seed*6364136223846793005))+(IntKind.u64.wrap u2)))+902902)) 40) 255))] 626 ?_
   obtain rfl:=sI h
   exact bH rfl ⟨_,fin (vs:=[I (IntKind.i64.wrap (CF .u64 (JF .u64 (IntKind.u64.wrap ((IntKind.u64.wrap ((IntKind.u64.wrap (c_3.f_seed*6364136223846793005))+(IntKind.u64.wrap u2)))+902902)) 40) 255))]) rfl (cn (be rfl) bT) rfl (fw rfl (eQ rfl rfl) dG),fQ dw⟩
 have r2:∀r',y2=.inl r'→∀st,zE c_3 r' st→(zE c_3 r) st:=fun r' e st hq=>by rw[hy21 r' e] at hq;exact hq
 replace h:=hy2
 refine sq h ?_ ?_<;>intro h
 ·refine gN [0,1,3,7,0,16,48,112,255,511,1023,2047] rfl (by decide +kernel) ?_
  refine dk 1 [14] [.hp 1 0 [] 3 0 0] ?_
  refine dq [1] [] (.hp 1 0 [] 3 0 0) rfl (kW rfl rfl) ?_
  refine dq [1] [] (.hp 1 0 [] 3 0 0) rfl (bn rfl rfl rfl) ?_
  refine dq [1] [] (.isl false (c_3.f_code.map (V.int .u8))) rfl (dD rfl rfl) ?_
  refine dk 1 [18] [.hp 1 0 [] 3 0 0] ?_
  refine dq [1] [] (.hp 1 0 [] 3 0 0) rfl (kW rfl rfl) ?_
  refine dq [1] [] (.hp 1 0 [] 3 0 1) rfl (bn rfl rfl rfl) ?_
  refine dq [1] [] (I c_3.f_at) rfl (dD rfl rfl) ?_
  obtain⟨e3,he3,h⟩:=bS h
  refine dq [] [] (.iptr (.int .u8 e3) 0) rfl (aJ rfl rfl rfl (cC rfl rfl rfl rfl he3)) ?_
  refine dq [] [] (.int .u8 e3) rfl (dD rfl rfl) ?_
  refine dq [] [] (I (IntKind.i64.wrap e3)) rfl (Sb rfl rfl) ?_
  refine dk 1 [3] [I (IntKind.i64.wrap e3)] ?_
  refine de 386 rfl rfl ?_
  exact rf [0,3] [1] (j2 _ (ak h) :)
 ·refine aq 1 ?_
  exact rf [0,3] [1] (j2 _ (ak h) :)
theorem Kw {G:cW}[TabG Tryz.prog G]:cX G 51 xD:=gT 1 1 ch dF Tryz.func51 (fun a r h=>MV a r h)
def zL:(l1Cur×Int)→List V:=cA (qm eY) (oA I)
def zN (r:Int×l1Cur):V×List V:=(I r.1,[.uptr (ce r.2)])
noncomputable def il :=bu [true,false] zL zN fun x=>hZ x.1 x.2
theorem ij {c_3:l1Cur}{n_4:Int}{r}(h:hZ c_3 n_4=some r):il.F (zL (c_3,n_4))=some (zN r):=ba (cI (gb ee) (bb d6)) h
noncomputable def Kz :=aY Tryz.f29
noncomputable def Fl :=dE [(51,xD)]
def zM (x:l1Cur×Int)(r:Int×l1Cur):St→Prop:=QF Fl Tryz.f29 [true,false] (zL x) (zN r)
theorem MY (c_3:l1Cur)(n_4:Int)(r:Int×l1Cur)(h:hZ c_3 n_4=some r):b7 Fl Tryz.f29 [true,false] 1 (zL (c_3,n_4)) (zN r):=by
 show Run _ _ (zM (c_3,n_4) r) [.code Kz] _
 refine rI 20 [(0,.hp 1 0 [] 3 0 0),(1,I n_4)] [(1,some ⟨0,3,[ce c_3]⟩)] 2 ?_
 unfold hZ at h
 refine cq 10 [7] [B (decide (n_4≤1))] 50 ?_
 refine sq h ?_ ?_<;>intro h
 ·refine cq 4 [4] [I (0)] 66 ?_
  obtain rfl:=sI h
  exact bH rfl ⟨_,fin (vs:=[I (0)]) rfl (cn (be rfl) bT) rfl (fw rfl (eQ rfl rfl) (eF dG)),fQ dw⟩
 ·refine aq 1 ?_
  refine cq 3 [8] [.hp 1 0 [] 3 0 0] 66 ?_
  obtain⟨r3,hr3,h⟩:=bS h
  refine oq 82 (I r3.1) rfl (aH rfl rfl (aP rfl rfl rfl (eG (ey rfl (cB (path:=[]) rfl rfl aB)) bE) (Ku hr3) (.inr rfl) (dM rfl rfl rfl rfl bm) rfl rfl rfl)) ?_
  refine cq 8 [5,11] [I r3.1,B (decide (n_4>200))] 130 ?_
  obtain⟨y4,hy4,hy41,hy42⟩:=bJ h
  have j4:∀u4,y4=.inr u4→Run Fl 1 (zM (c_3,n_4) r) (.code (cR (cR (cR (cR Kz))))::[]) (sT 20 [(1,I n_4),(5,I u4.1)] [⟨0,3,[.agg [.isl false (u4.2.1.map (V.int .u8)),I u4.2.2.1,.int .u64 u4.2.2.2]]⟩] 2):=by
   intro u4 hu
   replace h:=hy42 u4 hu
   refine cq 4 [17,18] [I u4.1,I n_4] 34 ?_
   obtain⟨q5,hq5,h⟩:=bS h
   refine oq 50 (I q5) rfl (ia rfl rfl (S6 hq5)) ?_
   refine cq 2 [4] [I q5] 66 ?_
   obtain rfl:=sI h
   exact bH rfl ⟨_,fin (vs:=[I q5]) rfl (cn (be rfl) bT) rfl (fw rfl (eQ rfl rfl) (eF dG)),fQ dw⟩
  have r4:∀r',y4=.inl r'→∀st,zM (c_3,n_4) r' st→(zM (c_3,n_4) r) st:=fun r' e st hq=>by rw[hy41 r' e] at hq;exact hq
  replace h:=hy4
  refine sq h ?_ ?_<;>intro h
  ·refine cq 4 [13,14] [I (aF (r3.1*256)),.hp 1 0 [] 3 0 0] 178 ?_
   obtain⟨r6,hr6,h⟩:=bS h
   refine oq 194 (I r6.1) rfl (aH rfl rfl (aP rfl rfl rfl (eG (ey rfl (cB (path:=[]) rfl rfl aB)) bE) (Ku hr6) (.inr rfl) (dM rfl rfl rfl rfl bm) rfl rfl rfl)) ?_
   refine cq 3 [5] [I (aF ((aF (r3.1*256))+r6.1))] 226 ?_
   exact rf [1,5] [1] (j4 _ (ak h) :)
  ·refine aq 1 ?_
   exact rf [1,5] [1] (j4 _ (ak h) :)
theorem iH {G:cW}[TabG Tryz.prog G]:cX G 29 il:=gT 2 1 (aQ Kw ch) dF Tryz.func29 (fun a r h=>MY a.1 a.2 r h)
def zJ:(l1Cur×Int)→List V:=cA (qm eY) (oA I)
def zK (r:Bool×l1Cur):V×List V:=(B r.1,[.uptr (ce r.2)])
noncomputable def rM :=bu [true,false] zJ zK fun x=>pn x.1 x.2
theorem Fk {c_3:l1Cur}{n_4:Int}{r}(h:pn c_3 n_4=some r):rM.F (zJ (c_3,n_4))=some (zK r):=ba (cI (gb ee) (bb d6)) h
noncomputable def Rq :=aY Tryz.f52
noncomputable def Ky :=dE [(29,il)]
def Rp (x:l1Cur×Int)(r:Bool×l1Cur):St→Prop:=QF Ky Tryz.f52 [true,false] (zJ x) (zK r)
theorem MX (c_3:l1Cur)(n_4:Int)(r:Bool×l1Cur)(h:pn c_3 n_4=some r):b7 Ky Tryz.f52 [true,false] 1 (zJ (c_3,n_4)) (zK r):=by
 show Run _ _ (Rp (c_3,n_4) r) [.code Rq] _
 refine rI 9 [(0,.hp 1 0 [] 3 0 0),(1,I n_4)] [(1,some ⟨0,3,[ce c_3]⟩)] 2 ?_
 unfold pn at h
 refine cq 8 [5,6] [.hp 1 0 [] 3 0 0,I n_4] 50 ?_
 obtain⟨r3,hr3,h⟩:=bS h
 refine oq 66 (I r3.1) rfl (aH rfl rfl (aP rfl rfl rfl (eG (ey rfl (cB (path:=[]) rfl rfl aB)) (bd (bx rfl) bE)) (ij hr3) (.inr rfl) (dM rfl rfl rfl rfl bm) rfl rfl rfl)) ?_
 refine cq 3 [4] [B (r3.1==0)] 98 ?_
 obtain rfl:=sI h
 exact bH rfl ⟨_,fin (vs:=[B (r3.1==0)]) rfl (cn (be rfl) bT) rfl (fw rfl (eQ rfl rfl) (eF dG)),fQ dw⟩
theorem C7 {G:cW}[TabG Tryz.prog G]:cX G 52 rM:=gT 2 1 (aQ iH ch) dF Tryz.func52 (fun a r h=>MX a.1 a.2 r h)
def zj:(l1Cur×(List Int))→List V:=cA (qm eY) (oA (oI I))
def zl (r:Int×l1Cur):V×List V:=(I r.1,[.uptr (ce r.2)])
noncomputable def na :=bu [true,false] zj zl fun x=>pk x.1 x.2
theorem zk {c_3:l1Cur}{eA:List Int}{r}(h:pk c_3 eA=some r):na.F (zj (c_3,eA))=some (zl r):=ba (cI (gb ee) (bb (fK d6))) h
noncomputable def Q9 :=aY Tryz.f15
noncomputable def Kh :=dE [(29,il)]
def Q8 (x:l1Cur×(List Int))(r:Int×l1Cur):St→Prop:=QF Kh Tryz.f15 [true,false] (zj x) (zl r)
theorem MM (c_3:l1Cur)(eA:List Int)(r:Int×l1Cur)(h:pk c_3 eA=some r):b7 Kh Tryz.f15 [true,false] 1 (zj (c_3,eA)) (zl r):=by
 show Run _ _ (Q8 (c_3,eA) r) [.code Q9] _
 refine rI 12 [(0,.hp 1 0 [] 3 0 0),(1,.isl false (eA.map I))] [(1,some ⟨0,3,[ce c_3]⟩)] 2 ?_
 unfold pk at h
 refine cq 9 [5,6,7] [.isl false (eA.map I),.hp 1 0 [] 3 0 0,.isl false (eA.map I)] 66 ?_
 refine oq 82 (I (len eA)) rfl (eX rfl rfl rfl (fN rfl)) ?_
 obtain⟨r3,hr3,h⟩:=bS h
 refine oq 98 (I r3.1) rfl (aH rfl rfl (aP rfl rfl rfl (eG (ey rfl (cB (path:=[]) rfl rfl aB)) (bd (bx rfl) bE)) (ij hr3) (.inr rfl) (dM rfl rfl rfl rfl bm) rfl rfl rfl)) ?_
 obtain⟨e4,he4,h⟩:=bS h
 refine oq 114 (.iptr (I e4) 0) rfl (aJ rfl rfl rfl (cC rfl rfl rfl rfl he4)) ?_
 refine cq 3 [4] [I e4] 146 ?_
 obtain rfl:=sI h
 exact bH rfl ⟨_,fin (vs:=[I e4]) rfl (cn (be rfl) bT) rfl (fw rfl (eQ rfl rfl) (eF dG)),fQ dw⟩
theorem pY {G:cW}[TabG Tryz.prog G]:cX G 15 na:=gT 2 1 (aQ iH ch) dF Tryz.func15 (fun a r h=>MM a.1 a.2 r h)
def zQ:Unit→List V:=nA
def zR (r:(List ae)):V×List V:=(.usl 1 (r.map str),[])
noncomputable def rS :=bu [] zQ zR fun x=>rR 
theorem KF {r}(h:rR =some r):rS.F (zQ ())=some (zR r):=ba So h
noncomputable def Ry :=aY Tryz.f54
noncomputable def KE :=dE []
def Rx (x:Unit)(r:(List ae)):St→Prop:=QF KE Tryz.f54 [] (zQ x) (zR r)
theorem M2 (r:(List ae))(h:rR =some r):b7 KE Tryz.f54 [] 0 (zQ ()) (zR r):=by
 show Run _ _ (Rx () r) [.code Ry] _
 refine rI 2 [] [] 1 ?_
 unfold rR at h
 refine cq 6 [] [] 17 ?_
 refine oq 33 (.hs 17 0 [] 1 0 5) rfl (cf rfl (fV (f:=I) (xs:=[]) (z:=str ([])) (es:=[str ([112,97,105,100]:ae),str ([115,101,110,116]:ae),str ([108,97,116,101]:ae),str ([97]:ae),str ([98]:ae)]) (ws:=[str ([112,97,105,100]:ae),str ([115,101,110,116]:ae),str ([108,97,116,101]:ae),str ([97]:ae),str ([98]:ae)]) rfl rfl rfl (by decide) rfl (cO rfl) rfl)) ?_
 refine cq 2 [0] [.hs 17 0 [] 1 0 5] 49 ?_
 obtain rfl:=sI h
 exact bH rfl ⟨_,fin (vs:=[.hs 17 0 [] 1 0 5]) rfl (cn (ni rfl (ec (k:=5) (es:=[str ([112,97,105,100]:ae),str ([115,101,110,116]:ae),str ([108,97,116,101]:ae),str ([97]:ae),str ([98]:ae)]) rfl rfl)) bT) rfl dG,dw⟩
theorem C9 {G:cW}[TabG Tryz.prog G]:cX G 54 rS:=gT 0 0 ch dF Tryz.func54 (fun a r h=>M2  r h)
def zG:(l1Cur×(List ae))→List V:=cA (qm eY) (oA (oI str))
def zI (r:ae×l1Cur):V×List V:=(str r.1,[.uptr (ce r.2)])
noncomputable def nc :=bu [true,false] zG zI fun x=>ou x.1 x.2
theorem zH {c_3:l1Cur}{eA:List ae}{r}(h:ou c_3 eA=some r):nc.F (zG (c_3,eA))=some (zI r):=ba (cI (gb ee) (bb (fK bU))) h
noncomputable def Ro :=aY Tryz.f30
noncomputable def Kx :=dE [(29,il)]
def Rn (x:l1Cur×(List ae))(r:ae×l1Cur):St→Prop:=QF Kx Tryz.f30 [true,false] (zG x) (zI r)
theorem MW (c_3:l1Cur)(eA:List ae)(r:ae×l1Cur)(h:ou c_3 eA=some r):b7 Kx Tryz.f30 [true,false] 1 (zG (c_3,eA)) (zI r):=by
 show Run _ _ (Rn (c_3,eA) r) [.code Ro] _
 refine rI 12 [(0,.hp 1 0 [] 3 0 0),(1,.isl false (eA.map str))] [(1,some ⟨0,3,[ce c_3]⟩)] 2 ?_
 unfold ou at h
 refine cq 9 [5,6,7] [.isl false (eA.map str),.hp 1 0 [] 3 0 0,.isl false (eA.map str)] 66 ?_
 refine oq 82 (I (len eA)) rfl (eX rfl rfl rfl (fN rfl)) ?_
 obtain⟨r3,hr3,h⟩:=bS h
 refine oq 98 (I r3.1) rfl (aH rfl rfl (aP rfl rfl rfl (eG (ey rfl (cB (path:=[]) rfl rfl aB)) (bd (bx rfl) bE)) (ij hr3) (.inr rfl) (dM rfl rfl rfl rfl bm) rfl rfl rfl)) ?_
 obtain⟨e4,he4,h⟩:=bS h
 refine oq 114 (.iptr (str e4) 0) rfl (aJ rfl rfl rfl (cC rfl rfl rfl rfl he4)) ?_
 refine cq 3 [4] [str e4] 146 ?_
 obtain rfl:=sI h
 exact bH rfl ⟨_,fin (vs:=[str e4]) rfl (cn (be rfl) bT) rfl (fw rfl (eQ rfl rfl) (eF dG)),fQ dw⟩
theorem pZ {G:cW}[TabG Tryz.prog G]:cX G 30 nc:=gT 2 1 (aQ iH ch) dF Tryz.func30 (fun a r h=>MW a.1 a.2 r h)
def tF:(l1Cur×Int)→List V:=cA (qm eY) (oA I)
def tH (r:Condition×l1Cur):V×List V:=(ar r.1,[.uptr (ce r.2)])
noncomputable def tI (cD:(l1Cur×Int)→Option (Condition×l1Cur)):Ent:=bu [true,false] tF tH cD
theorem vw (cD:(l1Cur×Int)→Option (Condition×l1Cur)){x}{r}(h:cD x=some r):(tI cD).F (tF x)=some (tH r):=ba (cI (gb ee) (bb d6)) h
noncomputable def xw :=tI (aE kr)
theorem Rg {c_3:l1Cur}{d3:Int}{r}(h:Iw c_3 d3=some r):xw.F (tF (c_3,d3))=some (tH r):=vw (aE kr) h
noncomputable def qO :=aY Tryz.f50
noncomputable def zu (cD:(l1Cur×Int)→Option (Condition×l1Cur)):Env:=dE [(29,il),(15,na),(54,rS),(30,nc),(52,rM),(50,(tI cD))]
def tG (cD:(l1Cur×Int)→Option (Condition×l1Cur))(x:l1Cur×Int)(r:Condition×l1Cur):St→Prop:=QF (zu cD) Tryz.f50 [true,false] (tF x) (tH r)
theorem MR (cD:(l1Cur×Int)→Option (Condition×l1Cur))(c_3:l1Cur)(d3:Int)(r:Condition×l1Cur)(h:pm cD c_3 d3=some r):b7 (zu cD) Tryz.f50 [true,false] 1 (tF (c_3,d3)) (tH r):=by
 show Run _ _ (tG cD (c_3,d3) r) [.code qO] _
 refine rI 48 [(0,.hp 1 0 [] 3 0 0),(1,I d3)] [(1,some ⟨0,3,[ce c_3]⟩)] 2 ?_
 unfold pm at h
 refine ck 3 [4] [] [2] [] [.hp 2 0 [] 4 0 0] [some ⟨0,4,[.agg [I (0),str ([]),I (0),.isl true []]]⟩] 18 (by kernel_rfl) ?_
 refine cG 2 [.agg [I (0),str ([]),I (0),.usl 4 (([]).map aa)]] rfl rfl (ao (dC (ao (.refl _) (ao (.refl _) (ao (.refl _) (ao (.nil _) bv))))) bv) ?_
 refine cq 7 [7] [B (decide (d3≤1))] 66 ?_
 obtain⟨y3,hy3,hy31,hy32⟩:=bJ h
 have j3:∀u3,y3=.inr u3→Run (zu cD) 1 (tG cD (c_3,d3) r) (.code (cR (cL (cR qO)))::.code (cR (cR qO))::[]) (sT 48 [(0,.hp 1 0 [] 3 0 0),(1,I d3),(4,.hp 2 0 [] 4 0 0),(10,B u3.1)] [⟨0,3,[.agg [.isl false (u3.2.1.map (V.int .u8)),I u3.2.2.1,.int .u64 u3.2.2.2]]⟩,⟨0,4,[.agg [I (0),str ([]),I (0),.usl 4 (([]).map aa)]]⟩] 3):=by
  intro u3 hu
  replace h:=hy32 u3 hu
  refine sq h ?_ ?_<;>intro h
  ·refine cq 4 [11] [.hp 1 0 [] 3 0 0] 19 ?_
   obtain⟨r4,hr4,h⟩:=bS h
   refine oq 35 (I r4.1) rfl (aH rfl rfl (aP rfl rfl rfl (eG (ey rfl (cB (path:=[]) rfl rfl aB)) (bd (bx rfl) bE)) (ij hr4) (.inr rfl) (dM rfl rfl rfl rfl bm) rfl rfl rfl)) ?_
   refine cq 7 [13] [B (r4.1==0)] 67 ?_
   refine sq h ?_ ?_<;>intro h
   ·refine ck 4 [] [] [2] [] [] [some ⟨1,4,[.agg [I (1),str ([]),I (0),.isl true []]]⟩] 99 (by kernel_rfl) ?_
    refine cG 2 [.agg [I (1),str ([]),I (0),.usl 4 (([]).map aa)]] rfl rfl (ao (dC (ao (.refl _) (ao (.refl _) (ao (.refl _) (ao (.nil _) bv))))) bv) ?_
    refine aq 1 ?_
    obtain rfl:=sI h
    exact bH rfl ⟨_,fin (vs:=[.agg [I (1),str ([]),I (0),.hs 2 2 [(0,3)] 4 0 (([]).map aa).length]]) (eO (dh rfl rfl rfl) fx) (cn (dY (au (aA rfl) (au (aA rfl) (au (aA rfl) (au (eu (path:=[(0,3)]) rfl rfl (dm rfl rfl aB) rfl (fG (path:=[]) (i:=0) (k:=3) (e':=.agg [I (1),str ([]),I (0),.dead]) (es2':=[.agg [I (1),str ([]),I (0),.dead]]) aB rfl rfl rfl dt)) dZ))))) bT) rfl (fw rfl (eQ rfl rfl) (eF dG)),fQ dw⟩
   ·refine cq 6 [16] [B (r4.1==1)] 99 ?_
    obtain⟨u5,hu5,h⟩:=lJ h
    have j5:Run (zu cD) 1 (tG cD (c_3,d3) r) (.code (cR (cR (cR (cL (cR (cL (cL (cR (cL (cR qO))))))))))::.blk 0::.code (cR (cL (cR (cL (cR qO)))))::.code (cR (cR qO))::[]) (sT 48 [(0,.hp 1 0 [] 3 0 0),(4,.hp 2 0 [] 4 0 0),(16,B u5)] [⟨0,3,[ce r4.2]⟩,⟨0,4,[.agg [I (0),str ([]),I (0),.usl 4 (([]).map aa)]]⟩] 3):=by
     refine sq h ?_ ?_<;>intro h
     ·refine cq 3 [19] [.hp 1 0 [] 3 0 0] 19 ?_
      refine oq 35 (.hs 19 0 [] 1 0 5) rfl (cf rfl (fV (f:=I) (xs:=[]) (z:=I (0)) (es:=[I (0),I (3),I (10),I (40),I (366)]) (ws:=[I (0),I (3),I (10),I (40),I (366)]) rfl rfl rfl (by decide) rfl (cO rfl) rfl)) ?_
      obtain⟨r6,hr6,h⟩:=bS h
      refine oK 51 (I r6.1) rfl rfl (me rfl rfl (nZ rfl rfl rfl rfl (eG (ey rfl (cB (path:=[]) rfl rfl aB)) (bd (tj rfl rfl (jR (f:=I) (g:=I) (xs:=[0,3,10,40,366]) rfl rfl (dB EY))) bE)) (zk hr6) (dM rfl rfl rfl rfl bm) rfl rfl rfl)) ?_
      refine ck 2 [] [] [2] [] [] [some ⟨1,4,[.agg [I (3),str ([]),I r6.1,.isl true []]]⟩] 83 (by kernel_rfl) ?_
      refine cG 2 [.agg [I (3),str ([]),I r6.1,.usl 4 (([]).map aa)]] rfl rfl (ao (dC (ao (.refl _) (ao (.refl _) (ao (.refl _) (ao (.nil _) bv))))) bv) ?_
      refine aq 1 ?_
      obtain rfl:=sI h
      exact bH rfl ⟨_,fin (vs:=[.agg [I (3),str ([]),I r6.1,.hs 2 2 [(0,3)] 4 0 (([]).map aa).length]]) (eO (dh rfl rfl rfl) fx) (cn (dY (au (aA rfl) (au (aA rfl) (au (aA rfl) (au (eu (path:=[(0,3)]) rfl rfl (dm rfl rfl aB) rfl (fG (path:=[]) (i:=0) (k:=3) (e':=.agg [I (3),str ([]),I r6.1,.dead]) (es2':=[.agg [I (3),str ([]),I r6.1,.dead]]) aB rfl rfl rfl dt)) dZ))))) bT) rfl (fw rfl (eQ rfl rfl) (eF dG)),fQ dw⟩
     ·refine aq 1 ?_
      refine cq 4 [23] [.hp 1 0 [] 3 0 0] 19 ?_
      obtain⟨r7,hr7,h⟩:=bS h
      refine oq 35 (.hs 19 0 [] 1 0 (r7.map str).length) rfl (aH rfl rfl (aP rfl rfl rfl bE (KF hr7) (.inr rfl) bm rfl rfl rfl)) ?_
      obtain⟨r8,hr8,h⟩:=bS h
      refine oK 51 (str r8.1) rfl rfl (me rfl rfl (nZ rfl rfl rfl rfl (eG (ey rfl (cB (path:=[]) rfl rfl aB)) (bd (tj rfl rfl (jR (f:=str) (g:=str) (xs:=r7) rfl rfl (dB mm))) bE)) (zH hr8) (dM rfl rfl rfl rfl bm) rfl rfl rfl)) ?_
      refine ck 2 [] [] [2] [] [] [some ⟨1,4,[.agg [I (2),str r8.1,I (0),.isl true []]]⟩] 83 (by kernel_rfl) ?_
      refine cG 2 [.agg [I (2),str r8.1,I (0),.usl 4 (([]).map aa)]] rfl rfl (ao (dC (ao (.refl _) (ao (.refl _) (ao (.refl _) (ao (.nil _) bv))))) bv) ?_
      refine aq 1 ?_
      obtain rfl:=sI h
      exact bH rfl ⟨_,fin (vs:=[.agg [I (2),str r8.1,I (0),.hs 2 2 [(0,3)] 4 0 (([]).map aa).length]]) (eO (dh rfl rfl rfl) fx) (cn (dY (au (aA rfl) (au (aA rfl) (au (aA rfl) (au (eu (path:=[(0,3)]) rfl rfl (dm rfl rfl aB) rfl (fG (path:=[]) (i:=0) (k:=3) (e':=.agg [I (2),str r8.1,I (0),.dead]) (es2':=[.agg [I (2),str r8.1,I (0),.dead]]) aB rfl rfl rfl dt)) dZ))))) bT) rfl (fw rfl (eQ rfl rfl) (eF dG)),fQ dw⟩
    replace h:=hu5
    clear hu5
    refine om h rfl rfl ?_ ?_<;>intro h
    ·refine aq 1 ?_
     subst h
     exact rf [0,4,16] [1,2] (j5 :)
    ·refine cq 4 [16] [B (r4.1==2)] 131 ?_
     subst h
     exact rf [0,4,16] [1,2] (j5 :)
  ·refine aq 1 ?_
   refine cq 4 [27] [.hp 1 0 [] 3 0 0] 19 ?_
   obtain⟨r9,hr9,h⟩:=bS h
   refine oq 35 (B r9.1) rfl (aH rfl rfl (aP rfl rfl rfl (eG (ey rfl (cB (path:=[]) rfl rfl aB)) (bd (bx rfl) bE)) (Fk hr9) (.inr rfl) (dM rfl rfl rfl rfl bm) rfl rfl rfl)) ?_
   refine aq 1 ?_
   refine sq h ?_ ?_<;>intro h
   ·refine cq 5 [29,31] [.hp 1 0 [] 3 0 0,I (aF (d3 - 1))] 83 ?_
    obtain⟨r10,hr10,h⟩:=bS h
    refine oq 99 (.agg [I r10.1.Op,str r10.1.Name,I r10.1.Day,.hs 83 0 [] 4 0 (r10.1.Parts.map aa).length]) rfl (aH rfl rfl (aP rfl rfl rfl (eG (ey rfl (cB (path:=[]) rfl rfl aB)) (bd (bx rfl) bE)) (vw cD hr10) (.inr rfl) (dM rfl rfl rfl rfl bm) rfl rfl rfl)) ?_
    refine oq 115 (.hs 99 0 [] 4 0 1) rfl (cf rfl (fV (f:=I) (xs:=[]) (z:=.agg [I (0),str ([]),I (0),.isl true []]) (es:=[.agg [I r10.1.Op,str r10.1.Name,I r10.1.Day,.hs 83 0 [] 4 0 (r10.1.Parts.map aa).length]]) (ws:=[ar r10.1]) rfl rfl rfl (by decide) rfl (cn (dY (au (aA rfl) (au (aA rfl) (au (aA rfl) (au (ec rfl rfl) dZ))))) bT) rfl)) ?_
    refine cq 1 [34] [.agg [I (4),str ([]),I (0),.hs 99 0 [] 4 0 1]] 131 ?_
    refine o0 147 rfl rfl (gH rfl rfl (fP (path:=[]) (pl:=false) (e':=.agg [I (4),str ([]),I (0),.usl 4 (([r10.1]).map aa)]) (es2':=[.agg [I (4),str ([]),I (0),.usl 4 (([r10.1]).map aa)]]) rfl (dY (au (aA rfl) (au (aA rfl) (au (aA rfl) (au (rj (k:=1) (es:=[ar r10.1]) (f:=aa) (xs:=[r10.1]) rfl rfl (HY (eb r10.1).symm L1)) dZ))))) rfl rfl rfl aB rfl rfl rfl rfl rfl dt 1 rfl)) ?_
    refine aq 1 ?_
    obtain rfl:=sI h
    exact bH rfl ⟨_,fin (vs:=[.agg [I (4),str ([]),I (0),.hs 2 1 [(0,3)] 4 0 (([r10.1]).map aa).length]]) (eO (dh rfl rfl rfl) fx) (cn (dY (au (aA rfl) (au (aA rfl) (au (aA rfl) (au (eu (path:=[(0,3)]) rfl rfl (dm rfl rfl aB) rfl (fG (path:=[]) (i:=0) (k:=3) (e':=.agg [I (4),str ([]),I (0),.dead]) (es2':=[.agg [I (4),str ([]),I (0),.dead]]) aB rfl rfl rfl dt)) dZ))))) bT) rfl (fw rfl (eQ rfl rfl) (eF dG)),fQ dw⟩
   ·refine aq 1 ?_
    refine cq 3 [35] [.hp 1 0 [] 3 0 0] 51 ?_
    obtain⟨r11,hr11,h⟩:=bS h
    refine oq 67 (I r11.1) rfl (aH rfl rfl (aP rfl rfl rfl (eG (ey rfl (cB (path:=[]) rfl rfl aB)) (bd (bx rfl) bE)) (ij hr11) (.inr rfl) (dM rfl rfl rfl rfl bm) rfl rfl rfl)) ?_
    refine cq 4 [37,38,40] [I (aF (5+r11.1)),.hp 1 0 [] 3 0 0,I (aF (d3 - 1))] 131 ?_
    obtain⟨r12,hr12,h⟩:=bS h
    refine oq 147 (.agg [I r12.1.Op,str r12.1.Name,I r12.1.Day,.hs 131 0 [] 4 0 (r12.1.Parts.map aa).length]) rfl (aH rfl rfl (aP rfl rfl rfl (eG (ey rfl (cB (path:=[]) rfl rfl aB)) (bd (bx rfl) bE)) (vw cD hr12) (.inr rfl) (dM rfl rfl rfl rfl bm) rfl rfl rfl)) ?_
    refine cq 3 [42,44] [.hp 1 0 [] 3 0 0,I (aF (d3 - 1))] 195 ?_
    obtain⟨r13,hr13,h⟩:=bS h
    refine oq 211 (.agg [I r13.1.Op,str r13.1.Name,I r13.1.Day,.hs 195 0 [] 4 0 (r13.1.Parts.map aa).length]) rfl (aH rfl rfl (aP rfl rfl rfl (eG (ey rfl (cB (path:=[]) rfl rfl aB)) (bd (bx rfl) bE)) (vw cD hr13) (.inr rfl) (dM rfl rfl rfl rfl bm) rfl rfl rfl)) ?_
    refine oq 227 (.hs 211 0 [] 4 0 2) rfl (cf rfl (fV (f:=I) (xs:=[]) (z:=.agg [I (0),str ([]),I (0),.isl true []]) (es:=[.agg [I r12.1.Op,str r12.1.Name,I r12.1.Day,.hs 131 0 [] 4 0 (r12.1.Parts.map aa).length],.agg [I r13.1.Op,str r13.1.Name,I r13.1.Day,.hs 195 0 [] 4 0 (r13.1.Parts.map aa).length]]) (ws:=[ar r12.1,ar r13.1]) rfl rfl rfl (by decide) rfl (cn (dY (au (aA rfl) (au (aA rfl) (au (aA rfl) (au (ec rfl rfl) dZ))))) (cn (dY (au (aA rfl) (au (aA rfl) (au (aA rfl) (au (ec rfl rfl) dZ))))) bT)) rfl)) ?_
    refine cq 1 [47] [.agg [I (aF (5+r11.1)),str ([]),I (0),.hs 211 0 [] 4 0 2]] 243 ?_
    refine o0 259 rfl rfl (gH rfl rfl (fP (path:=[]) (pl:=false) (e':=.agg [I (aF (5+r11.1)),str ([]),I (0),.usl 4 (([r12.1,r13.1]).map aa)]) (es2':=[.agg [I (aF (5+r11.1)),str ([]),I (0),.usl 4 (([r12.1,r13.1]).map aa)]]) rfl (dY (au (aA rfl) (au (aA rfl) (au (aA rfl) (au (rj (k:=2) (es:=[ar r12.1,ar r13.1]) (f:=aa) (xs:=[r12.1,r13.1]) rfl rfl (HY (eb r12.1).symm (HY (eb r13.1).symm L1))) dZ))))) rfl rfl rfl aB rfl rfl rfl rfl rfl dt 1 rfl)) ?_
    refine aq 1 ?_
    obtain rfl:=sI h
    exact bH rfl ⟨_,fin (vs:=[.agg [I (aF (5+r11.1)),str ([]),I (0),.hs 2 1 [(0,3)] 4 0 (([r12.1,r13.1]).map aa).length]]) (eO (dh rfl rfl rfl) fx) (cn (dY (au (aA rfl) (au (aA rfl) (au (aA rfl) (au (eu (path:=[(0,3)]) rfl rfl (dm rfl rfl aB) rfl (fG (path:=[]) (i:=0) (k:=3) (e':=.agg [I (aF (5+r11.1)),str ([]),I (0),.dead]) (es2':=[.agg [I (aF (5+r11.1)),str ([]),I (0),.dead]]) aB rfl rfl rfl dt)) dZ))))) bT) rfl (fw rfl (eQ rfl rfl) (eF dG)),fQ dw⟩
 have r3:∀r',y3=.inl r'→∀st,tG cD (c_3,d3) r' st→(tG cD (c_3,d3) r) st:=fun r' e st hq=>by rw[hy31 r' e] at hq;exact hq
 replace h:=hy3
 refine sp 7 h rfl ?_ ?_<;>intro h
 ·refine cq 4 [10] [B true] 114 ?_
  exact rf [0,1,4,10] [1,2] (j3 _ (ak h) :)
 ·refine cq 1 [8] [.hp 1 0 [] 3 0 0] 82 ?_
  obtain⟨r14,hr14,h⟩:=bS h
  refine oy 98 (B r14.1) rfl (aH rfl rfl (aP rfl rfl rfl (eG (ey rfl (cB (path:=[]) rfl rfl aB)) (bd (bx rfl) bE)) (Fk hr14) (.inr rfl) (dM rfl rfl rfl rfl bm) rfl rfl rfl)) ?_
  refine cq 2 [10] [B r14.1] 114 ?_
  exact rf [0,1,4,10] [1,2] (j3 _ (ak h) :)
theorem Km {G:cW}[TabG Tryz.prog G]:cX G 50 xw:=gq fun cD g_Ffbq=>gT 2 1 (aQ iH (aQ pY (aQ C9 (aQ pZ (aQ C7 (aQ g_Ffbq ch)))))) dF Tryz.func50 (fun a r h=>MR cD a.1 a.2 r h)
def zw:l1Cur→List V:=oA (qm eY)
def zx (r:Condition×l1Cur):V×List V:=(ar r.1,[.uptr (ce r.2)])
noncomputable def xy :=bu [true] zw zx fun x=>tJ x
theorem Fh {c_2:l1Cur}{r}(h:tJ c_2=some r):xy.F (zw c_2)=some (zx r):=ba (bb (gb ee)) h
noncomputable def Ri :=aY Tryz.f28
noncomputable def Kn :=dE [(29,il),(50,xw)]
def Rh (x:l1Cur)(r:Condition×l1Cur):St→Prop:=QF Kn Tryz.f28 [true] (zw x) (zx r)
theorem MS (c_2:l1Cur)(r:Condition×l1Cur)(h:tJ c_2=some r):b7 Kn Tryz.f28 [true] 1 (zw c_2) (zx r):=by
 show Run _ _ (Rh c_2 r) [.code Ri] _
 refine rI 8 [(0,.hp 1 0 [] 3 0 0)] [(1,some ⟨0,3,[ce c_2]⟩)] 2 ?_
 unfold tJ at h
 refine ck 3 [2] [] [2] [] [.hp 2 0 [] 4 0 0] [some ⟨0,4,[.agg [I (0),str ([]),I (0),.isl true []]]⟩] 18 (by kernel_rfl) ?_
 refine cG 2 [.agg [I (0),str ([]),I (0),.usl 4 (([]).map aa)]] rfl rfl (ao (dC (ao (.refl _) (ao (.refl _) (ao (.refl _) (ao (.nil _) bv))))) bv) ?_
 refine cq 5 [3,4] [.hp 1 0 [] 3 0 0,.hp 1 0 [] 3 0 0] 50 ?_
 obtain⟨r2,hr2,h⟩:=bS h
 refine oq 66 (I r2.1) rfl (aH rfl rfl (aP rfl rfl rfl (eG (ey rfl (cB (path:=[]) rfl rfl aB)) (bd (bx rfl) bE)) (ij hr2) (.inr rfl) (dM rfl rfl rfl rfl bm) rfl rfl rfl)) ?_
 refine cq 1 [6] [I (aF (1+r2.1))] 82 ?_
 obtain⟨r3,hr3,h⟩:=bS h
 refine oq 98 (.agg [I r3.1.Op,str r3.1.Name,I r3.1.Day,.hs 82 0 [] 4 0 (r3.1.Parts.map aa).length]) rfl (aH rfl rfl (aP rfl rfl rfl (eG (ey rfl (cB (path:=[]) rfl rfl aB)) (bd (bx rfl) bE)) (Rg hr3) (.inr rfl) (dM rfl rfl rfl rfl bm) rfl rfl rfl)) ?_
 refine o0 114 rfl rfl (gH rfl rfl (fP (path:=[]) (pl:=false) (e':=ar r3.1) (es2':=[ar r3.1]) rfl (dY (au (aA rfl) (au (aA rfl) (au (aA rfl) (au (ec rfl rfl) dZ))))) rfl rfl rfl aB rfl rfl rfl rfl rfl dt 2 rfl)) ?_
 refine aq 1 ?_
 obtain rfl:=sI h
 exact bH rfl ⟨_,fin (vs:=[.agg [I r3.1.Op,str r3.1.Name,I r3.1.Day,.hs 2 2 [(0,3)] 4 0 (r3.1.Parts.map aa).length]]) (eO (dh rfl rfl rfl) fx) (cn (dY (au (aA rfl) (au (aA rfl) (au (aA rfl) (au (eu (path:=[(0,3)]) rfl rfl (dm rfl rfl aB) rfl (fG (path:=[]) (i:=0) (k:=3) (e':=.agg [I r3.1.Op,str r3.1.Name,I r3.1.Day,.dead]) (es2':=[.agg [I r3.1.Op,str r3.1.Name,I r3.1.Day,.dead]]) aB rfl rfl rfl dt)) dZ))))) bT) rfl (fw rfl (eQ rfl rfl) dG),fQ dw⟩
theorem Ko {G:cW}[TabG Tryz.prog G]:cX G 28 xy:=gT 1 1 (aQ iH (aQ Km ch)) dF Tryz.func28 (fun a r h=>MS a r h)
def zy:l1Cur→List V:=oA (qm eY)
def zz (r:Int×l1Cur):V×List V:=(I r.1,[.uptr (ce r.2)])
noncomputable def xA :=bu [true] zy zz fun x=>xz x
theorem Rj {c_2:l1Cur}{r}(h:xz c_2=some r):xA.F (zy c_2)=some (zz r):=ba (bb (gb ee)) h
noncomputable def Rl :=aY Tryz.f53
noncomputable def Kp :=dE [(29,il),(15,na)]
def Rk (x:l1Cur)(r:Int×l1Cur):St→Prop:=QF Kp Tryz.f53 [true] (zy x) (zz r)
theorem MT (c_2:l1Cur)(r:Int×l1Cur)(h:xz c_2=some r):b7 Kp Tryz.f53 [true] 1 (zy c_2) (zz r):=by
 show Run _ _ (Rk c_2 r) [.code Rl] _
 refine rI 16 [(0,.hp 1 0 [] 3 0 0)] [(1,some ⟨0,3,[ce c_2]⟩)] 2 ?_
 unfold xz at h
 refine cq 8 [3] [.hp 1 0 [] 3 0 0] 34 ?_
 obtain⟨r2,hr2,h⟩:=bS h
 refine oq 50 (I r2.1) rfl (aH rfl rfl (aP rfl rfl rfl (eG (ey rfl (cB (path:=[]) rfl rfl aB)) (bd (bx rfl) bE)) (ij hr2) (.inr rfl) (dM rfl rfl rfl rfl bm) rfl rfl rfl)) ?_
 refine cq 7 [5] [B (r2.1==0)] 82 ?_
 refine sq h ?_ ?_<;>intro h
 ·refine cq 3 [7] [.hp 1 0 [] 3 0 0] 98 ?_
  refine oq 114 (.hs 98 0 [] 1 0 11) rfl (cf rfl (fV (f:=I) (xs:=[]) (z:=I (0)) (es:=[I (0),I (59),I (60),I (365),I (366),I (424),I (425),I (36524),I (36523),I (30),I (31)]) (ws:=[I (0),I (59),I (60),I (365),I (366),I (424),I (425),I (36524),I (36523),I (30),I (31)]) rfl rfl rfl (by decide) rfl (cO rfl) rfl)) ?_
  obtain⟨r3,hr3,h⟩:=bS h
  refine oK 130 (I r3.1) rfl rfl (me rfl rfl (nZ rfl rfl rfl rfl (eG (ey rfl (cB (path:=[]) rfl rfl aB)) (bd (tj rfl rfl (jR (f:=I) (g:=I) (xs:=[0,59,60,365,366,424,425,36524,36523,30,31]) rfl rfl (dB EY))) bE)) (zk hr3) (dM rfl rfl rfl rfl bm) rfl rfl rfl)) ?_
  refine cq 2 [2] [I r3.1] 146 ?_
  obtain rfl:=sI h
  exact bH rfl ⟨_,fin (vs:=[I r3.1]) rfl (cn (be rfl) bT) rfl (fw rfl (eQ rfl rfl) dG),fQ dw⟩
 ·refine cq 5 [10] [B (r2.1==1)] 114 ?_
  refine sq h ?_ ?_<;>intro h
  ·refine cq 3 [12] [.hp 1 0 [] 3 0 0] 130 ?_
   obtain⟨r4,hr4,h⟩:=bS h
   refine oq 146 (I r4.1) rfl (aH rfl rfl (aP rfl rfl rfl (eG (ey rfl (cB (path:=[]) rfl rfl aB)) (bd (bx rfl) bE)) (ij hr4) (.inr rfl) (dM rfl rfl rfl rfl bm) rfl rfl rfl)) ?_
   refine cq 2 [2] [I r4.1] 162 ?_
   obtain rfl:=sI h
   exact bH rfl ⟨_,fin (vs:=[I r4.1]) rfl (cn (be rfl) bT) rfl (fw rfl (eQ rfl rfl) dG),fQ dw⟩
  ·refine aq 1 ?_
   refine cq 4 [14] [.hp 1 0 [] 3 0 0] 130 ?_
   obtain⟨r5,hr5,h⟩:=bS h
   refine oq 146 (I r5.1) rfl (aH rfl rfl (aP rfl rfl rfl (eG (ey rfl (cB (path:=[]) rfl rfl aB)) (bd (bx rfl) bE)) (ij hr5) (.inr rfl) (dM rfl rfl rfl rfl bm) rfl rfl rfl)) ?_
   refine cq 2 [2] [I r5.1] 162 ?_
   obtain rfl:=sI h
   exact bH rfl ⟨_,fin (vs:=[I r5.1]) rfl (cn (be rfl) bT) rfl (fw rfl (eQ rfl rfl) dG),fQ dw⟩
theorem Kq {G:cW}[TabG Tryz.prog G]:cX G 53 xA:=gT 1 1 (aQ iH (aQ pY ch)) dF Tryz.func53 (fun a r h=>MT a r h)
def zo:l1Cur→List V:=oA (qm eY)
def zp (r:Int×l1Cur):V×List V:=(I r.1,[.uptr (ce r.2)])
noncomputable def xr :=bu [true] zo zp fun x=>xq x
theorem Rb {c_2:l1Cur}{r}(h:xq c_2=some r):xr.F (zo c_2)=some (zp r):=ba (bb (gb ee)) h
noncomputable def Re :=aY Tryz.f31
noncomputable def Kj :=dE [(52,rM),(15,na),(53,xA)]
def Rc (x:l1Cur)(r:Int×l1Cur):St→Prop:=QF Kj Tryz.f31 [true] (zo x) (zp r)
theorem MO (c_2:l1Cur)(r:Int×l1Cur)(h:xq c_2=some r):b7 Kj Tryz.f31 [true] 1 (zo c_2) (zp r):=by
 show Run _ _ (Rc c_2 r) [.code Re] _
 refine rI 10 [(0,.hp 1 0 [] 3 0 0)] [(1,some ⟨0,3,[ce c_2]⟩)] 2 ?_
 unfold xq at h
 refine cq 8 [3] [.hp 1 0 [] 3 0 0] 34 ?_
 obtain⟨r2,hr2,h⟩:=bS h
 refine oq 50 (B r2.1) rfl (aH rfl rfl (aP rfl rfl rfl (eG (ey rfl (cB (path:=[]) rfl rfl aB)) (bd (bx rfl) bE)) (Fk hr2) (.inr rfl) (dM rfl rfl rfl rfl bm) rfl rfl rfl)) ?_
 refine aq 1 ?_
 refine sq h ?_ ?_<;>intro h
 ·refine cq 3 [5] [.hp 1 0 [] 3 0 0] 66 ?_
  refine oq 82 (.hs 66 0 [] 1 0 4) rfl (cf rfl (fV (f:=I) (xs:=[]) (z:=I (0)) (es:=[I (-1),I (36524),I (36525),I (1099511627776)]) (ws:=[I (-1),I (36524),I (36525),I (1099511627776)]) rfl rfl rfl (by decide) rfl (cO rfl) rfl)) ?_
  obtain⟨r3,hr3,h⟩:=bS h
  refine oK 98 (I r3.1) rfl rfl (me rfl rfl (nZ rfl rfl rfl rfl (eG (ey rfl (cB (path:=[]) rfl rfl aB)) (bd (tj rfl rfl (jR (f:=I) (g:=I) (xs:=[(-1),36524,36525,1099511627776]) rfl rfl (dB EY))) bE)) (zk hr3) (dM rfl rfl rfl rfl bm) rfl rfl rfl)) ?_
  refine cq 2 [2] [I r3.1] 114 ?_
  obtain rfl:=sI h
  exact bH rfl ⟨_,fin (vs:=[I r3.1]) rfl (cn (be rfl) bT) rfl (fw rfl (eQ rfl rfl) dG),fQ dw⟩
 ·refine aq 1 ?_
  refine cq 3 [8] [.hp 1 0 [] 3 0 0] 66 ?_
  obtain⟨r4,hr4,h⟩:=bS h
  refine oq 82 (I r4.1) rfl (aH rfl rfl (aP rfl rfl rfl (eG (ey rfl (cB (path:=[]) rfl rfl aB)) bE) (Rj hr4) (.inr rfl) (dM rfl rfl rfl rfl bm) rfl rfl rfl)) ?_
  refine cq 2 [2] [I r4.1] 98 ?_
  obtain rfl:=sI h
  exact bH rfl ⟨_,fin (vs:=[I r4.1]) rfl (cn (be rfl) bT) rfl (fw rfl (eQ rfl rfl) dG),fQ dw⟩
theorem Kk {G:cW}[TabG Tryz.prog G]:cX G 31 xr:=gT 1 1 (aQ C7 (aQ pY (aQ Kq ch))) dF Tryz.func31 (fun a r h=>MO a r h)
def ue:Condition→List V:=oA ac
def ug (r:Int):V×List V:=(I r,[])
noncomputable def uh (bQ:Condition→Option Int):Ent:=bu [false] ue ug bQ
theorem HA (bQ:Condition→Option Int){x}{r}(h:bQ x=some r):(uh bQ).F (ue x)=some (ug r):=ba (bb bc) h
noncomputable def rY :=uh (aE kx)
theorem KU {c_1:Condition}{r}(h:xO c_1=some r):rY.F (ue c_1)=some (ug r):=HA (aE kx) h
noncomputable def KW :=aY Tryz.f32
noncomputable def Fr (bQ:Condition→Option Int):Env:=dE [(32,(uh bQ))]
def KV (bQ:Condition→Option Int)(x:Condition)(r:Int):St→Prop:=QF (Fr bQ) Tryz.f32 [false] (ue x) (ug r)
theorem G5 (bQ:Condition→Option Int)(c_1:Condition):eW (Fr bQ) 0 (KV bQ c_1) (cL (cL (cR (cL (cR (cR KW)))))) 0 (kS bQ c_1) (fun u=>(sT 21 [(3,I u)] [] 1)) fun x2=>(sT 21 [(1,.hp 1 0 [] 4 0 0),(3,I x2.1),(4,I x2.2)] [⟨0,4,[ac c_1]⟩] 2):=i7 (wr bQ c_1) fun {Q K} hK self ih x2 y h hr hn=>by
 unfold jv at h
 refine cq 6 [5,7] [I x2.2,.isl false (c_1.Parts.map ah)] 50 ?_
 refine oq 66 (I (len c_1.Parts)) rfl (eX rfl rfl rfl (fN rfl)) ?_
 refine cq 2 [9] [B (decide (x2.2<(len c_1.Parts)))] 82 ?_
 refine sq h ?_ ?_<;>intro h
 ·refine aq 1 ?_
  refine cq 7 [12,14,15] [I x2.1,.isl false (c_1.Parts.map ah),I x2.2] 146 ?_
  obtain⟨e3,he3,h⟩:=bS h
  refine oq 162 (.iptr (ac e3) 0) rfl (aJ rfl rfl rfl (cC rfl rfl (aC e3) rfl he3)) ?_
  refine cq 1 [17] [ac e3] 178 ?_
  obtain⟨r4,hr4,h⟩:=bS h
  refine oq 194 (I r4) rfl (aH rfl rfl (aP rfl rfl rfl (bd (bx rfl) bE) (HA bQ hr4) (.inr rfl) bm rfl rfl rfl)) ?_
  refine cq 9 [3,4] [I (aF (x2.1+r4)),I (aF (x2.2+1))] 274 ?_
  refine fF ?_
  exact rf [1,3,4] [1] (ih _ _ h hr hn :)
 ·refine aq 1 ?_
  exact rf [3] [] (hn _ (ak h) :) (hk:=hK)
theorem Ng (bQ:Condition→Option Int)(c_1:Condition)(r:Int)(h:qY bQ c_1=some r):b7 (Fr bQ) Tryz.f32 [false] 0 (ue c_1) (ug r):=by
 show Run _ _ (KV bQ c_1 r) [.code KW] _
 refine rI 21 [(0,ac c_1)] [] 1 ?_
 unfold qY at h
 refine ck 15 [1,3,4] [] [1] [] [.hp 1 0 [] 4 0 0,I (1),I (0)] [some ⟨0,4,[ac c_1]⟩] 65 (by kernel_rfl) ?_
 obtain⟨y5,hy5,hy51,hy52⟩:=bJ h
 refine ep rfl ?_
 refine rf [1,3,4] [1] (G5 bQ c_1 rfl (1,0) _ hy5 (fun r' e st hq=>by rw[hy51 r' e] at hq;exact hq) fun u5 hu=>?_)
 replace h:=hy52 u5 hu
 refine cq 5 [2] [I u5] 33 ?_
 obtain rfl:=sI h
 exact rP [I u5]
theorem Dd {G:cW}[TabG Tryz.prog G]:cX G 32 rY:=gq fun bQ g_Ffck=>gT 1 0 (aQ g_Ffck ch) dF Tryz.func32 (fun a r h=>Ng bQ a r h)
def zm:l1Cur→List V:=oA (qm eY)
def zn (r:Condition×l1Cur):V×List V:=(ar r.1,[.uptr (ce r.2)])
noncomputable def xp :=bu [true] zm zn fun x=>xo x
theorem Ra {c_2:l1Cur}{r}(h:xo c_2=some r):xp.F (zm c_2)=some (zn r):=ba (bb (gb ee)) h
noncomputable def Fg :=aY Tryz.f13
noncomputable abbrev qM :=cR (cR (cR Fg))
noncomputable abbrev Pj :=cL (cL (cR (cL (cR (cR (cR (cR (cR (cR (cR (cR (cR (cL (cR (cL (cR (cR Fg)))))))))))))))))
noncomputable def nT :=dE [(28,xy),(29,il),(30,nc),(31,xr),(32,rY)]
def gD (x:l1Cur)(r:Condition×l1Cur):St→Prop:=QF nT Tryz.f13 [true] (zm x) (zn r)
theorem GX (c_2:l1Cur)(r14:Int×l1Cur):eW nT 1 (gD c_2) Pj 1 (qN c_2 r14) (fun u=>(sT 47 [(2,.hp 2 0 [] 4 0 0),(3,.hp 3 0 [] 4 0 0)] [⟨0,3,[ce r14.2]⟩,⟨0,4,[.agg [I (0),str ([]),I (0),.usl 4 (([]).map aa)]]⟩,⟨0,4,[.agg [I u.1,str u.2.1,I u.2.2.1,.usl 4 (u.2.2.2.map aa)]]⟩] 4)) fun x15=>(sT 47 [(2,.hp 2 0 [] 4 0 0),(3,.hp 3 0 [] 4 0 0),(4,I (aF (14+r14.1)))] [⟨0,3,[ce r14.2]⟩,⟨0,4,[.agg [I (0),str ([]),I (0),.usl 4 (([]).map aa)]]⟩,⟨0,4,[.agg [I x15.1,str x15.2.1,I x15.2.2.1,.usl 4 (x15.2.2.2.map aa)]]⟩] 4):=i7 (wg c_2 r14) fun {Q K} hK self ih x15 y h hr hn=>by
 unfold l6 at h
 refine cq 4 [39] [.agg [I x15.1,str x15.2.1,I x15.2.2.1,.hs 3 0 [(0,3)] 4 0 (x15.2.2.2.map aa).length]] 20 ?_
 obtain⟨r16,hr16,h⟩:=bS h
 refine oq 36 (I r16) rfl (aH rfl rfl (aP rfl rfl rfl (bd (oo (dX (dT rfl) (dX (dT rfl) (dX (dT rfl) (dX (jc (path:=[(0,3)]) rfl rfl (dm rfl rfl aB) rfl (dB (f:=aa) bK)) oH))))) bE) (KU hr16) (.inl rfl) bm rfl rfl rfl)) ?_
 refine cq 3 [42] [B (decide (r16<(aF (14+r14.1))))] 68 ?_
 refine sq h ?_ ?_<;>intro h
 ·refine aq 1 ?_
  refine cq 3 [43] [.agg [I x15.1,str x15.2.1,I x15.2.2.1,.hs 3 0 [(0,3)] 4 0 (x15.2.2.2.map aa).length]] 84 ?_
  refine oq 100 (.hs 84 0 [] 4 0 1) rfl (cf rfl (fV (f:=I) (xs:=[]) (z:=.agg [I (0),str ([]),I (0),.isl true []]) (es:=[.agg [I x15.1,str x15.2.1,I x15.2.2.1,.hs 3 0 [(0,3)] 4 0 (x15.2.2.2.map aa).length]]) (ws:=[.agg [I x15.1,str x15.2.1,I x15.2.2.1,.usl 4 (x15.2.2.2.map aa)]]) rfl rfl rfl (by decide) rfl (cn (dY (au (aA rfl) (au (aA rfl) (au (aA rfl) (au (eu (path:=[(0,3)]) rfl rfl (dm rfl rfl aB) rfl (fG (path:=[]) (i:=0) (k:=3) (e':=.agg [I x15.1,str x15.2.1,I x15.2.2.1,.dead]) (es2':=[.agg [I x15.1,str x15.2.1,I x15.2.2.1,.dead]]) aB rfl rfl rfl dt)) dZ))))) bT) rfl)) ?_
  refine cq 1 [45] [.agg [I (4),str ([]),I (0),.hs 84 0 [] 4 0 1]] 116 ?_
  refine o0 132 rfl rfl (gH rfl rfl (fP (path:=[]) (pl:=false) (e':=.agg [I (4),str ([]),I (0),.usl 4 (([(Condition.mk x15.1 x15.2.1 x15.2.2.1 x15.2.2.2)]).map aa)]) (es2':=[.agg [I (4),str ([]),I (0),.usl 4 (([(Condition.mk x15.1 x15.2.1 x15.2.2.1 x15.2.2.2)]).map aa)]]) rfl (dY (au (aA rfl) (au (aA rfl) (au (aA rfl) (au (rj (k:=1) (es:=[.agg [I x15.1,str x15.2.1,I x15.2.2.1,.usl 4 (x15.2.2.2.map aa)]]) (f:=aa) (xs:=[(Condition.mk x15.1 x15.2.1 x15.2.2.1 x15.2.2.2)]) rfl rfl (HY (eb (Condition.mk x15.1 x15.2.1 x15.2.2.1 x15.2.2.2)).symm L1)) dZ))))) rfl rfl rfl aB rfl rfl rfl rfl rfl dt 1 rfl)) ?_
  refine aq 2 ?_
  refine fF ?_
  exact rf [2,3,4] [1,2,3] (ih _ _ h hr hn :)
 ·refine aq 1 ?_
  exact rf [2,3] [1,2,3] (hn _ (ak h) :) (hk:=hK)
theorem MN (c_2:l1Cur)(r:Condition×l1Cur)(h:xo c_2=some r):b7 nT Tryz.f13 [true] 1 (zm c_2) (zn r):=by
 show Run _ _ (gD c_2 r) [.code Fg] _
 refine rI 47 [(0,.hp 1 0 [] 3 0 0)] [(1,some ⟨0,3,[ce c_2]⟩)] 2 ?_
 unfold xo at h
 refine ck 3 [2] [] [2] [] [.hp 2 0 [] 4 0 0] [some ⟨0,4,[.agg [I (0),str ([]),I (0),.isl true []]]⟩] 18 (by kernel_rfl) ?_
 refine cG 2 [.agg [I (0),str ([]),I (0),.usl 4 (([]).map aa)]] rfl rfl (ao (dC (ao (.refl _) (ao (.refl _) (ao (.refl _) (ao (.nil _) bv))))) bv) ?_
 refine cq 4 [5] [.hp 1 0 [] 3 0 0] 34 ?_
 obtain⟨r2,hr2,h⟩:=bS h
 refine oq 50 (.agg [I r2.1.Op,str r2.1.Name,I r2.1.Day,.hs 34 0 [] 4 0 (r2.1.Parts.map aa).length]) rfl (aH rfl rfl (aP rfl rfl rfl (eG (ey rfl (cB (path:=[]) rfl rfl aB)) bE) (Fh hr2) (.inr rfl) (dM rfl rfl rfl rfl bm) rfl rfl rfl)) ?_
 refine ck 1 [3] [] [50] [] [.hp 50 0 [] 4 0 0] [some ⟨0,4,[.agg [I (0),str ([]),I (0),.isl true []]]⟩] 66 (by kernel_rfl) ?_
 refine cG 50 [.agg [I (0),str ([]),I (0),.usl 4 (([]).map aa)]] rfl rfl (ao (dC (ao (.refl _) (ao (.refl _) (ao (.refl _) (ao (.nil _) bv))))) bv) ?_
 refine o0 82 rfl rfl (gH rfl rfl (fP (path:=[]) (pl:=false) (e':=ar r2.1) (es2':=[ar r2.1]) rfl (dY (au (aA rfl) (au (aA rfl) (au (aA rfl) (au (ec rfl rfl) dZ))))) rfl rfl rfl aB rfl rfl rfl rfl rfl dt 2 rfl)) ?_
 refine cq 5 [7] [.hp 1 0 [] 3 0 0] 98 ?_
 obtain⟨r3,hr3,h⟩:=bS h
 refine oq 114 (I r3.1) rfl (aH rfl rfl (aP rfl rfl rfl (eG (ey rfl (cB (path:=[]) rfl rfl aB)) (bd (bx rfl) bE)) (ij hr3) (.inr rfl) (dM rfl rfl rfl rfl bm) rfl rfl rfl)) ?_
 refine cq 7 [9] [B (r3.1==0)] 146 ?_
 obtain⟨y4,hy4,hy41,hy42⟩:=bJ h
 have j4:∀u4,y4=.inr u4→Run nT 1 (gD c_2 r) (.blk 0::.code qM::[]) (sT 47 [(2,.hp 2 0 [] 4 0 0),(3,.hp 3 0 [] 4 0 0)] [⟨0,3,[.agg [.isl false (u4.1.map (V.int .u8)),I u4.2.1,.int .u64 u4.2.2.1]]⟩,⟨0,4,[.agg [I (0),str ([]),I (0),.usl 4 (([]).map aa)]]⟩,⟨0,4,[.agg [I u4.2.2.2.1,str u4.2.2.2.2.1,I u4.2.2.2.2.2.1,.usl 4 (u4.2.2.2.2.2.2.map aa)]]⟩] 4):=by
  intro u4 hu
  replace h:=hy42 u4 hu
  refine cq 4 [46] [.agg [I u4.2.2.2.1,str u4.2.2.2.2.1,I u4.2.2.2.2.2.1,.hs 3 0 [(0,3)] 4 0 (u4.2.2.2.2.2.2.map aa).length]] 20 ?_
  refine o0 36 rfl rfl (gH rfl rfl (fP (path:=[]) (pl:=false) (e':=.agg [I u4.2.2.2.1,str u4.2.2.2.2.1,I u4.2.2.2.2.2.1,.usl 4 (u4.2.2.2.2.2.2.map aa)]) (es2':=[.agg [I u4.2.2.2.1,str u4.2.2.2.2.1,I u4.2.2.2.2.2.1,.usl 4 (u4.2.2.2.2.2.2.map aa)]]) rfl (dY (au (aA rfl) (au (aA rfl) (au (aA rfl) (au (eu (path:=[(0,3)]) rfl rfl (dm rfl rfl aB) rfl (fG (path:=[]) (i:=0) (k:=3) (e':=.agg [I u4.2.2.2.1,str u4.2.2.2.2.1,I u4.2.2.2.2.2.1,.dead]) (es2':=[.agg [I u4.2.2.2.1,str u4.2.2.2.2.1,I u4.2.2.2.2.2.1,.dead]]) aB rfl rfl rfl dt)) dZ))))) rfl rfl rfl aB rfl rfl rfl rfl rfl dt 1 rfl)) ?_
  refine aq 1 ?_
  obtain rfl:=sI h
  exact bH rfl ⟨_,fin (vs:=[.agg [I u4.2.2.2.1,str u4.2.2.2.2.1,I u4.2.2.2.2.2.1,.hs 2 1 [(0,3)] 4 0 (u4.2.2.2.2.2.2.map aa).length]]) (eO (dh rfl rfl rfl) fx) (cn (dY (au (aA rfl) (au (aA rfl) (au (aA rfl) (au (eu (path:=[(0,3)]) rfl rfl (dm rfl rfl aB) rfl (fG (path:=[]) (i:=0) (k:=3) (e':=.agg [I u4.2.2.2.1,str u4.2.2.2.2.1,I u4.2.2.2.2.2.1,.dead]) (es2':=[.agg [I u4.2.2.2.1,str u4.2.2.2.2.1,I u4.2.2.2.2.2.1,.dead]]) aB rfl rfl rfl dt)) dZ))))) bT) rfl (fw rfl (eQ rfl rfl) dG),fQ dw⟩
 have r4:∀r',y4=.inl r'→∀st,gD c_2 r' st→(gD c_2 r) st:=fun r' e st hq=>by rw[hy41 r' e] at hq;exact hq
 replace h:=hy4
 refine sq h ?_ ?_<;>intro h
 ·refine cq 2 [11] [.hp 1 0 [] 3 0 0] 162 ?_
  obtain⟨r5,hr5,h⟩:=bS h
  refine oq 178 (I r5.1) rfl (aH rfl rfl (aP rfl rfl rfl (eG (ey rfl (cB (path:=[]) rfl rfl aB)) (bd (bx rfl) bE)) (ij hr5) (.inr rfl) (dM rfl rfl rfl rfl bm) rfl rfl rfl)) ?_
  refine ck 3 [] [] [50] [] [] [some ⟨2,4,[.agg [I r5.1,str r2.1.Name,I r2.1.Day,.usl 4 (r2.1.Parts.map aa)]]⟩] 210 (by kernel_rfl) ?_
  exact rf [2,3] [1,2,50] (j4 _ (ak h) :)
 ·refine cq 5 [14] [B (r3.1==1)] 178 ?_
  obtain⟨y6,hy6,hy61,hy62⟩:=bL h
  have j6:∀u6,y6=.inr u6→Run nT 1 (gD c_2 r) (.blk 0::.code qM::[]) (sT 47 [(2,.hp 2 0 [] 4 0 0),(3,.hp 3 0 [] 4 0 0)] [⟨0,3,[.agg [.isl false (u6.1.map (V.int .u8)),I u6.2.1,.int .u64 u6.2.2.1]]⟩,⟨0,4,[.agg [I (0),str ([]),I (0),.usl 4 (([]).map aa)]]⟩,⟨0,4,[.agg [I u6.2.2.2.1,str u6.2.2.2.2.1,I u6.2.2.2.2.2.1,.usl 4 (u6.2.2.2.2.2.2.map aa)]]⟩] 4):=by
   intro u6 hu
   replace h:=hy62 u6 hu
   exact rf [2,3] [1,2,3] (j4 _ (ak h) :)
  have r6:∀r',y6=.inl r'→∀st,gD c_2 r' st→(gD c_2 r) st:=fun r' e st hq=>r4 r' (hy61 r' e) st hq
  replace h:=hy6
  refine sq h ?_ ?_<;>intro h
  ·refine cq 2 [16] [.hp 1 0 [] 3 0 0] 194 ?_
   refine oq 210 (.hs 194 0 [] 1 0 6) rfl (cf rfl (fV (f:=I) (xs:=[]) (z:=str ([])) (es:=[str ([]:ae),str ([65]:ae),str ([97,98,99,100,101,102,103,104]:ae),str ([97,98,99,100,101,102,103,104,105]:ae),str ([116,114,117,101]:ae),str ([120,57]:ae)]) (ws:=[str ([]:ae),str ([65]:ae),str ([97,98,99,100,101,102,103,104]:ae),str ([97,98,99,100,101,102,103,104,105]:ae),str ([116,114,117,101]:ae),str ([120,57]:ae)]) rfl rfl rfl (by decide) rfl (cO rfl) rfl)) ?_
   obtain⟨r7,hr7,h⟩:=bS h
   refine oK 226 (str r7.1) rfl rfl (me rfl rfl (nZ rfl rfl rfl rfl (eG (ey rfl (cB (path:=[]) rfl rfl aB)) (bd (tj rfl rfl (jR (f:=str) (g:=str) (xs:=[([]:ae),([65]:ae),([97,98,99,100,101,102,103,104]:ae),([97,98,99,100,101,102,103,104,105]:ae),([116,114,117,101]:ae),([120,57]:ae)]) rfl rfl (dB mm))) bE)) (zH hr7) (dM rfl rfl rfl rfl bm) rfl rfl rfl)) ?_
   refine ck 3 [] [] [50] [] [] [some ⟨2,4,[.agg [I r2.1.Op,str r7.1,I r2.1.Day,.usl 4 (r2.1.Parts.map aa)]]⟩] 258 (by kernel_rfl) ?_
   exact rf [2,3] [1,2,50] (j6 _ (ak h) :)
  ·refine cq 5 [20] [B (r3.1==2)] 210 ?_
   obtain⟨y8,hy8,hy81,hy82⟩:=bL h
   have j8:∀u8,y8=.inr u8→Run nT 1 (gD c_2 r) (.blk 0::.code qM::[]) (sT 47 [(2,.hp 2 0 [] 4 0 0),(3,.hp 3 0 [] 4 0 0)] [⟨0,3,[.agg [.isl false (u8.1.map (V.int .u8)),I u8.2.1,.int .u64 u8.2.2.1]]⟩,⟨0,4,[.agg [I (0),str ([]),I (0),.usl 4 (([]).map aa)]]⟩,⟨0,4,[.agg [I u8.2.2.2.1,str u8.2.2.2.2.1,I u8.2.2.2.2.2.1,.usl 4 (u8.2.2.2.2.2.2.map aa)]]⟩] 4):=by
    intro u8 hu
    replace h:=hy82 u8 hu
    exact rf [2,3] [1,2,3] (j6 _ (ak h) :)
   have r8:∀r',y8=.inl r'→∀st,gD c_2 r' st→(gD c_2 r) st:=fun r' e st hq=>r6 r' (hy81 r' e) st hq
   replace h:=hy8
   refine sq h ?_ ?_<;>intro h
   ·refine cq 2 [22] [.hp 1 0 [] 3 0 0] 226 ?_
    obtain⟨r9,hr9,h⟩:=bS h
    refine oq 242 (I r9.1) rfl (aH rfl rfl (aP rfl rfl rfl (eG (ey rfl (cB (path:=[]) rfl rfl aB)) bE) (Rb hr9) (.inr rfl) (dM rfl rfl rfl rfl bm) rfl rfl rfl)) ?_
    refine ck 3 [] [] [50] [] [] [some ⟨2,4,[.agg [I r2.1.Op,str r2.1.Name,I r9.1,.usl 4 (r2.1.Parts.map aa)]]⟩] 274 (by kernel_rfl) ?_
    exact rf [2,3] [1,2,50] (j8 _ (ak h) :)
   ·refine cq 5 [25] [B (r3.1==3)] 242 ?_
    obtain⟨y10,hy10,hy101,hy102⟩:=bL h
    have j10:∀u10,y10=.inr u10→Run nT 1 (gD c_2 r) (.blk 0::.code qM::[]) (sT 47 [(2,.hp 2 0 [] 4 0 0),(3,.hp 3 0 [] 4 0 0)] [⟨0,3,[.agg [.isl false (u10.1.map (V.int .u8)),I u10.2.1,.int .u64 u10.2.2.1]]⟩,⟨0,4,[.agg [I (0),str ([]),I (0),.usl 4 (([]).map aa)]]⟩,⟨0,4,[.agg [I u10.2.2.2.1,str u10.2.2.2.2.1,I u10.2.2.2.2.2.1,.usl 4 (u10.2.2.2.2.2.2.map aa)]]⟩] 4):=by
     intro u10 hu
     replace h:=hy102 u10 hu
     exact rf [2,3] [1,2,3] (j8 _ (ak h) :)
    have r10:∀r',y10=.inl r'→∀st,gD c_2 r' st→(gD c_2 r) st:=fun r' e st hq=>r8 r' (hy101 r' e) st hq
    replace h:=hy10
    refine sq h ?_ ?_<;>intro h
    ·refine gN [0,1,0,4,12,31,63,127] rfl (by decide +kernel) ?_
     refine dq [50] [] (.hp 50 0 [] 4 0 3) rfl (bn rfl rfl rfl) ?_
     refine dq [50] [] (.hs 50 2 [(0,3)] 4 0 (r2.1.Parts.map aa).length) rfl (dD rfl rfl) ?_
     refine dk 1 [29] [.hp 1 0 [] 3 0 0] ?_
     obtain⟨r11,hr11,h⟩:=bS h
     refine dq [1] [1] (.agg [I r11.1.Op,str r11.1.Name,I r11.1.Day,.hs 290 0 [] 4 0 (r11.1.Parts.map aa).length]) rfl (aH rfl rfl (aP rfl rfl rfl (eG (ey rfl (cB (path:=[]) rfl rfl aB)) bE) (Fh hr11) (.inr rfl) (dM rfl rfl rfl rfl bm) rfl rfl rfl)) ?_ (fb rfl rfl rfl rfl (eG (ey rfl (cB (path:=[]) rfl rfl aB)) bE) (Fh hr11) (.inr rfl) rfl)
     refine dq [290] [290] (.hs 306 0 [] 4 0 1) rfl (cf rfl (fV (f:=I) (xs:=[]) (z:=.agg [I (0),str ([]),I (0),.isl true []]) (es:=[.agg [I r11.1.Op,str r11.1.Name,I r11.1.Day,.hs 290 0 [] 4 0 (r11.1.Parts.map aa).length]]) (ws:=[ar r11.1]) rfl rfl rfl (by decide) rfl (cn (dY (au (aA rfl) (au (aA rfl) (au (aA rfl) (au (ec rfl rfl) dZ))))) bT) rfl)) ?_
     obtain⟨a12,ha12,h⟩:=bS h
     refine dq [50,306] [50,306] (.hs 322 0 [] 4 0 (a12.map aa).length) rfl (kD rfl rfl rfl rfl rfl (nY (path:=[(0,3)]) (f:=aa) (xs:=r2.1.Parts) (ys:=[r11.1]) rfl rfl (C0 rfl rfl rfl) (congrArg (fun w=>[w]) (eb r11.1).symm) rfl rfl (dm rfl rfl aB) rfl (by decide) jD ha12 rfl (fG (path:=[]) (i:=0) (k:=3) (e':=.agg [I r2.1.Op,str r2.1.Name,I r2.1.Day,.dead]) (es2':=[.agg [I r2.1.Op,str r2.1.Name,I r2.1.Day,.dead]]) aB rfl rfl rfl dt))) ?_ (ta rfl (Jb rfl rfl rfl rfl))
     refine dq [50] [] (.hp 50 0 [] 4 0 3) rfl (bn rfl rfl rfl) ?_
     refine dz [50,322] [50,322] rfl (gH rfl rfl (fP (path:=[]) (pl:=false) (e':=.agg [I r2.1.Op,str r2.1.Name,I r2.1.Day,.usl 4 (a12.map aa)]) (es2':=[.agg [I r2.1.Op,str r2.1.Name,I r2.1.Day,.usl 4 (a12.map aa)]]) rfl (ni rfl (ec rfl rfl)) rfl rfl rfl aB rfl rfl rfl rfl rfl dt 3 rfl)) ?_
     refine de 370 rfl rfl ?_
     exact rf [2,3] [1,2,50] (j10 _ (ak h) :)
    ·refine cq 5 [34] [B (r3.1==4)] 274 ?_
     obtain⟨y13,hy13,hy131,hy132⟩:=bL h
     have j13:∀u13,y13=.inr u13→Run nT 1 (gD c_2 r) (.blk 0::.code qM::[]) (sT 47 [(2,.hp 2 0 [] 4 0 0),(3,.hp 3 0 [] 4 0 0)] [⟨0,3,[.agg [.isl false (u13.1.map (V.int .u8)),I u13.2.1,.int .u64 u13.2.2.1]]⟩,⟨0,4,[.agg [I (0),str ([]),I (0),.usl 4 (([]).map aa)]]⟩,⟨0,4,[.agg [I u13.2.2.2.1,str u13.2.2.2.2.1,I u13.2.2.2.2.2.1,.usl 4 (u13.2.2.2.2.2.2.map aa)]]⟩] 4):=by
      intro u13 hu
      replace h:=hy132 u13 hu
      exact rf [2,3] [1,2,3] (j10 _ (ak h) :)
     have r13:∀r',y13=.inl r'→∀st,gD c_2 r' st→(gD c_2 r) st:=fun r' e st hq=>r10 r' (hy131 r' e) st hq
     replace h:=hy13
     refine sq h ?_ ?_<;>intro h
     ·refine cq 3 [36] [.hp 1 0 [] 3 0 0] 290 ?_
      obtain⟨r14,hr14,h⟩:=bS h
      refine oq 306 (I r14.1) rfl (aH rfl rfl (aP rfl rfl rfl (eG (ey rfl (cB (path:=[]) rfl rfl aB)) (bd (bx rfl) bE)) (ij hr14) (.inr rfl) (dM rfl rfl rfl rfl bm) rfl rfl rfl)) ?_
      refine cq 4 [4] [I (aF (14+r14.1))] 338 ?_
      obtain⟨y17,hy17,hy171,hy172⟩:=bL h
      refine ep rfl ?_
      refine rf [2,3,4] [1,2,50] (GX c_2 r14 rfl (r2.1.Op,r2.1.Name,r2.1.Day,r2.1.Parts) _ hy17 (fun r' e st hq=>r13 r' (hy171 r' e) st hq) fun u17 hu=>?_)
      replace h:=hy172 u17 hu
      exact rf [2,3] [1,2,3] (j13 _ (ak h) :)
     ·refine aq 1 ?_
      exact rf [2,3] [1,2,50] (j13 _ (ak h) :)
theorem Ki {G:cW}[TabG Tryz.prog G]:cX G 13 xp:=gT 1 1 (aQ Ko (aQ iH (aQ pZ (aQ Kk (aQ Dd ch))))) dF Tryz.func13 (fun a r h=>MN a r h)
def Ai:((List ae)×ae)→List V:=cA (TE 1 str) (oA str)
def Aj (r:(List ae)):V×List V:=(.usl 1 (r.map str),[.dead])
noncomputable def rX :=bu [true,false] Ai Aj fun x=>tX x.1 x.2
theorem KS {l_8:List ae}{s_9:ae}{r}(h:tX l_8 s_9=some r):rX.F (Ai (l_8,s_9))=some (Aj r):=ba (cI (QH bU) (bb bU)) h
noncomputable def pw :=aY Tryz.f34
noncomputable def tY :=dE []
def qV (x:(List ae)×ae)(r:(List ae)):St→Prop:=QF tY Tryz.f34 [true,false] (Ai x) (Aj r)
theorem G4 (l_8:List ae)(s_9:ae):eW tY 1 (qV (l_8,s_9)) (cL (cL (cL (cR (cR pw))))) 0 (qW l_8 s_9) (fun u=>(sO 45 [(0,.hs 2 0 [] 1 0 (u.2.2.map str).length),(1,str u.1),(5,I u.2.1)] [none,some ⟨0,1,u.2.2.map str⟩] 3)) fun x3=>(sO 45 [(0,.hs 2 0 [] 1 0 (l_8.map str).length),(1,str s_9),(5,I x3)] [none,some ⟨0,1,l_8.map str⟩] 3):=i7 (wq l_8 s_9) fun {Q K} hK self ih x3 y h hr hn=>by
 unfold kw at h
 refine cq 5 [6,7] [I x3,.hs 2 0 [] 1 0 (l_8.map str).length] 35 ?_
 refine oq 51 (I (len l_8)) rfl (eX rfl rfl rfl (BI (f:=str) (xs:=l_8) rfl rfl)) ?_
 refine cq 2 [10] [B (decide (x3<(len l_8)))] 83 ?_
 obtain⟨y4,hy4,hy41,hy42⟩:=bL h
 have j4:∀u4,y4=.inr u4→Run tY 1 Q (.code (cR (cL (cL (cL (cL (cR (cR pw)))))))::.code (cR (cL (cL (cL (cR (cR pw))))))::.lp (cL (cL (cL (cR (cR pw)))))::.blk 0::K) (sO 45 [(0,.hs 2 0 [] 1 0 (l_8.map str).length),(1,str s_9),(5,I x3),(17,B u4)] [none,some ⟨0,1,l_8.map str⟩] 3):=by
  intro u4 hu
  replace h:=hy42 u4 hu
  refine sq h ?_ ?_<;>intro h
  ·refine aq 1 ?_
   refine cq 7 [5] [I (aF (x3+1))] 51 ?_
   refine fF ?_
   exact rg [0,1,5] [52,2] (ih _ _ h hr hn :)
  ·refine aq 1 ?_
   exact rg [0,1,5] [4,2] (hn _ (ak h) :) (hk:=hK)
 have r4:∀r',y4=.inl r'→∀st,qV (l_8,s_9) r' st→Q st:=fun r' e st hq=>hr r' (hy41 r' e) st hq
 replace h:=hy4
 refine sp 10 h rfl ?_ ?_<;>intro h
 ·refine cq 2 [11,12] [.hs 2 0 [] 1 0 (l_8.map str).length,I x3] 115 ?_
  obtain⟨e5,he5,h⟩:=bS h
  refine oy 131 (.hp 2 0 [] 1 (0+Int.toNat x3) 0) rfl (aJ rfl rfl rfl (iO (f:=str) (xs:=l_8) rfl rfl rfl he5)) ?_
  refine oy 147 (str e5) rfl (dD rfl (lO (path:=[]) rfl rfl rfl aB (nq (f:=str) (xs:=l_8) he5) rfl rfl rfl)) ?_
  refine cq 4 [17] [B (Op.bytesLess e5 s_9)] 195 ?_
  exact rg [0,1,5,17] [196,2] (j4 _ (ak h) :)
 ·refine cq 8 [17] [B false] 195 ?_
  exact rg [0,1,5,17] [196,2] (j4 _ (ak h) :)
theorem Nc (l_8:List ae)(s_9:ae)(r:(List ae))(h:tX l_8 s_9=some r):b7 tY Tryz.f34 [true,false] 1 (Ai (l_8,s_9)) (Aj r):=by
 show Run _ _ (qV (l_8,s_9) r) [.code pw] _
 refine rI 45 [(0,.hs 1 0 [] 1 0 (l_8.map str).length),(1,str s_9)] [(1,some ⟨0,1,l_8.map str⟩)] 2 ?_
 unfold tX at h
 refine cq 10 [5] [I (0)] 34 ?_
 obtain⟨y6,hy6,hy61,hy62⟩:=bJ h
 refine ep rfl ?_
 refine rg [0,1,5] [35,1] (G4 l_8 s_9 rfl 0 _ hy6 (fun r' e st hq=>by rw[hy61 r' e] at hq;exact hq) fun u6 hu=>?_)
 replace h:=hy62 u6 hu
 refine cq 5 [20,21] [I u6.2.1,.hs 2 0 [] 1 0 (u6.2.2.map str).length] 35 ?_
 refine oq 51 (I (len u6.2.2)) rfl (eX rfl rfl rfl (BI (f:=str) (xs:=u6.2.2) rfl rfl)) ?_
 refine cq 2 [24] [B (decide (u6.2.1<(len u6.2.2)))] 83 ?_
 obtain⟨y7,hy7,hy71,hy72⟩:=bJ h
 have j7:∀u7,y7=.inr u7→Run tY 1 (qV (l_8,s_9) r) (.code (cR (cL (cR (cR (cR pw)))))::.code (cR (cR (cR (cR pw))))::[]) (sO 45 [(0,.hs 2 0 [] 1 0 (u6.2.2.map str).length),(1,str u6.1),(5,I u6.2.1),(31,B u7)] [none,some ⟨0,1,u6.2.2.map str⟩] 3):=by
  intro u7 hu
  replace h:=hy72 u7 hu
  refine sq h ?_ ?_<;>intro h
  ·refine cq 5 [4] [.hs 2 0 [] 1 0 (u6.2.2.map str).length] 35 ?_
   obtain rfl:=sI h
   exact bH rfl ⟨_,fin (vs:=[.hs 2 0 [] 1 0 (u6.2.2.map str).length]) rfl (cn (ni rfl (ec rfl rfl)) bT) rfl (fw rfl (Pb rfl) (eF dG)),Sk dw⟩
  ·refine aq 1 ?_
   refine aq 1 ?_
   refine gN [0,0,0,6,15,0,32,127,0,0,768,2047,4095] rfl (by decide +kernel) ?_
   refine dq [] [] (.hs 3 0 [] 1 0 0) rfl (cf rfl (fV (f:=I) (xs:=[]) (z:=str ([])) (es:=[]) (ws:=[]) rfl rfl rfl (by decide) rfl (cO rfl) rfl)) ?_
   refine dk 2 [35,34] [I u6.2.1,.hs 2 0 [] 1 0 (u6.2.2.map str).length] ?_
   obtain⟨s8,hs8,h⟩:=bS h
   refine dq [2] [] (.hs 2 0 [] 1 (0+Int.toNat (0)) (Int.toNat u6.2.1 - Int.toNat (0))) rfl (fi rfl rfl rfl rfl (GO (f:=str) (xs:=u6.2.2) rfl rfl rfl rfl rfl hs8)) ?_
   obtain⟨p9,hp9,h⟩:=bS h
   obtain⟨a10,ha10,h⟩:=bS h
   refine dq [3,2] [3] (.hs 67 0 [] 1 0 (a10.map str).length) rfl (kD rfl rfl rfl rfl rfl (nY (path:=[]) (es0:=[]) (f:=str) (xs:=([]:List ae)) (ys:=p9) rfl rfl (Im (path:=[]) (f:=str) (xs:=u6.2.2) rfl rfl aB hp9 pS) rfl rfl rfl rfl rfl (by decide) qk ha10 rfl GQ)) ?_ (ta rfl (Ja (path:=[]) (f:=str) (xs:=u6.2.2) rfl rfl aB pS rfl))
   refine dk 1 [38] [str u6.1] ?_
   refine dq [] [] (.hs 99 0 [] 1 0 1) rfl (cf rfl (fV (f:=I) (xs:=[]) (z:=str ([])) (es:=[str u6.1]) (ws:=[str u6.1]) rfl rfl rfl (by decide) rfl (cO rfl) rfl)) ?_
   obtain⟨a11,ha11,h⟩:=bS h
   refine dq [67,99] [67] (.hs 115 0 [] 1 0 (a11.map str).length) rfl (kD rfl rfl rfl rfl rfl (nY (path:=[]) (f:=str) (xs:=a10) (ys:=[u6.1]) rfl rfl (CZ rfl rfl rfl) rfl rfl rfl aB rfl (by decide) qk ha11 rfl GQ)) ?_ (ta rfl (Ja (path:=[]) (f:=str) (xs:=[u6.1]) rfl rfl aB pS rfl))
   refine dk 2 [42,41] [I u6.2.1,.hs 2 0 [] 1 0 (u6.2.2.map str).length] ?_
   obtain⟨s12,hs12,h⟩:=bS h
   refine dq [2] [] (.hs 2 0 [] 1 (0+Int.toNat u6.2.1) (Int.toNat (len u6.2.2) - Int.toNat u6.2.1)) rfl (fi rfl rfl rfl rfl (GO (f:=str) (xs:=u6.2.2) rfl rfl rfl rfl (Tt rfl) hs12)) ?_
   obtain⟨p13,hp13,h⟩:=bS h
   obtain⟨a14,ha14,h⟩:=bS h
   refine dq [115,2] [115] (.hs 179 0 [] 1 0 (a14.map str).length) rfl (kD rfl rfl rfl rfl rfl (nY (path:=[]) (f:=str) (xs:=a11) (ys:=p13) rfl rfl (Im (path:=[]) (f:=str) (xs:=u6.2.2) rfl rfl aB hp13 pS) rfl rfl rfl aB rfl (by decide) qk ha14 rfl GQ)) ?_ (ta rfl (Ja (path:=[]) (f:=str) (xs:=u6.2.2) rfl rfl aB pS rfl))
   refine dk 1 [4] [.hs 179 0 [] 1 0 (a14.map str).length] ?_
   refine de 211 rfl rfl ?_
   obtain rfl:=sI h
   exact bH rfl ⟨_,fin (vs:=[.hs 179 0 [] 1 0 (a14.map str).length]) rfl (cn (ni rfl (ec rfl rfl)) bT) rfl (fw rfl (Pb rfl) (eF dG)),Sk dw⟩
 have r7:∀r',y7=.inl r'→∀st,qV (l_8,s_9) r' st→(qV (l_8,s_9) r) st:=fun r' e st hq=>by rw[hy71 r' e] at hq;exact hq
 replace h:=hy7
 refine sp 24 h rfl ?_ ?_<;>intro h
 ·refine cq 2 [25,26] [.hs 2 0 [] 1 0 (u6.2.2.map str).length,I u6.2.1] 115 ?_
  obtain⟨e15,he15,h⟩:=bS h
  refine oy 131 (.hp 2 0 [] 1 (0+Int.toNat u6.2.1) 0) rfl (aJ rfl rfl rfl (iO (f:=str) (xs:=u6.2.2) rfl rfl rfl he15)) ?_
  refine oy 147 (str e15) rfl (dD rfl (lO (path:=[]) rfl rfl rfl aB (nq (f:=str) (xs:=u6.2.2) he15) rfl rfl rfl)) ?_
  refine cq 4 [31] [B (e15==u6.1)] 195 ?_
  exact rg [0,1,5,31] [196,2] (j7 _ (ak h) :)
 ·refine cq 8 [31] [B false] 195 ?_
  exact rg [0,1,5,31] [196,2] (j7 _ (ak h) :)
theorem Dc {G:cW}[TabG Tryz.prog G]:cX G 34 rX:=gT 2 1 ch dF Tryz.func34 (fun a r h=>Nc a.1 a.2 r h)
def zA:l1Cur→List V:=oA (qm eY)
def zB (r:(List ae)×l1Cur):V×List V:=(.usl 1 (r.1.map str),[.uptr (ce r.2)])
noncomputable def xC :=bu [true] zA zB fun x=>xB x
theorem Rm {c_2:l1Cur}{r}(h:xB c_2=some r):xC.F (zA c_2)=some (zB r):=ba (bb (gb ee)) h
noncomputable def Ks :=aY Tryz.f33
noncomputable def Fi :=dE [(29,il),(54,rS),(30,nc),(34,rX)]
def Kr (x:l1Cur)(r:(List ae)×l1Cur):St→Prop:=QF Fi Tryz.f33 [true] (zA x) (zB r)
theorem GZ (c_2:l1Cur):eW Fi 1 (Kr c_2) (cL (cL (cR (cL (cR (cR Ks)))))) 0 (qP c_2) (fun u=>(sT 18 [(3,.hs 2 0 [] 1 0 (u.2.2.2.map str).length)] [⟨0,3,[.agg [.isl false (u.1.map (V.int .u8)),I u.2.1,.int .u64 u.2.2.1]]⟩,⟨0,1,u.2.2.2.map str⟩] 3)) fun x3=>(sT 18 [(0,.hp 1 0 [] 3 0 0),(3,.hs 2 0 [] 1 0 (x3.2.2.2.2.map str).length),(4,I x3.1)] [⟨0,3,[.agg [.isl false (x3.2.1.map (V.int .u8)),I x3.2.2.1,.int .u64 x3.2.2.2.1]]⟩,⟨0,1,x3.2.2.2.2.map str⟩] 3):=i7 (wi c_2) fun {Q K} hK self ih x3 y h hr hn=>by
 unfold ks at h
 refine cq 6 [9] [B (decide (x3.1>0))] 35 ?_
 refine sq h ?_ ?_<;>intro h
 ·refine aq 1 ?_
  refine cq 5 [12,13] [.hs 2 0 [] 1 0 (x3.2.2.2.2.map str).length,.hp 1 0 [] 3 0 0] 67 ?_
  obtain⟨r4,hr4,h⟩:=bS h
  refine oq 83 (.hs 67 0 [] 1 0 (r4.map str).length) rfl (aH rfl rfl (aP rfl rfl rfl bE (KF hr4) (.inr rfl) bm rfl rfl rfl)) ?_
  obtain⟨r5,hr5,h⟩:=bS h
  refine oK 99 (str r5.1) rfl rfl (me rfl rfl (nZ rfl rfl rfl rfl (eG (ey rfl (cB (path:=[]) rfl rfl aB)) (bd (tj rfl rfl (jR (f:=str) (g:=str) (xs:=r4) rfl rfl (dB mm))) bE)) (zH hr5) (dM rfl rfl rfl rfl bm) rfl rfl rfl)) ?_
  obtain⟨r6,hr6,h⟩:=bS h
  refine oq 115 (.hs 99 0 [] 1 0 (r6.map str).length) rfl (aH rfl rfl (aP rfl rfl rfl (eG (ey rfl (O5 (path:=[]) rfl rfl aB rfl)) (bd (bx rfl) bE)) (KS hr6) (.inr rfl) (dM rfl rfl rfl HD bm) rfl rfl rfl)) ?_
  refine cq 8 [3,4] [.hs 99 0 [] 1 0 (r6.map str).length,I (aF (x3.1 - 1))] 179 ?_
  refine fF ?_
  exact rf [0,3,4] [1,99] (ih _ _ h hr hn :)
 ·refine aq 1 ?_
  exact rf [3] [1,2] (hn _ (ak h) :) (hk:=hK)
theorem MU (c_2:l1Cur)(r:(List ae)×l1Cur)(h:xB c_2=some r):b7 Fi Tryz.f33 [true] 1 (zA c_2) (zB r):=by
 show Run _ _ (Kr c_2 r) [.code Ks] _
 refine rI 18 [(0,.hp 1 0 [] 3 0 0)] [(1,some ⟨0,3,[ce c_2]⟩)] 2 ?_
 unfold xB at h
 refine cq 6 [] [] 18 ?_
 refine oq 34 (.hs 18 0 [] 1 0 0) rfl (cf rfl (fV (f:=I) (xs:=[]) (z:=str ([])) (es:=[]) (ws:=[]) rfl rfl rfl (by decide) rfl (cO rfl) rfl)) ?_
 refine cq 6 [3,6] [.hs 18 0 [] 1 0 0,.hp 1 0 [] 3 0 0] 66 ?_
 obtain⟨r2,hr2,h⟩:=bS h
 refine oq 82 (I r2.1) rfl (aH rfl rfl (aP rfl rfl rfl (eG (ey rfl (cB (path:=[]) rfl rfl aB)) (bd (bx rfl) bE)) (ij hr2) (.inr rfl) (dM rfl rfl rfl rfl bm) rfl rfl rfl)) ?_
 refine cq 3 [4] [I r2.1] 98 ?_
 obtain⟨y7,hy7,hy71,hy72⟩:=bJ h
 refine ep rfl ?_
 refine rf [0,3,4] [1,18] (GZ c_2 rfl (r2.1,r2.2.f_code,r2.2.f_at,r2.2.f_seed,[]) _ hy7 (fun r' e st hq=>by rw[hy71 r' e] at hq;exact hq) fun u7 hu=>?_)
 replace h:=hy72 u7 hu
 refine cq 5 [2] [.hs 2 0 [] 1 0 (u7.2.2.2.map str).length] 35 ?_
 obtain rfl:=sI h
 exact bH rfl ⟨_,fin (vs:=[.hs 2 0 [] 1 0 (u7.2.2.2.map str).length]) rfl (cn (ni rfl (ec rfl rfl)) bT) rfl (fw rfl (eQ rfl rfl) dG),fQ dw⟩
theorem Kt {G:cW}[TabG Tryz.prog G]:cX G 33 xC:=gT 1 1 (aQ iH (aQ C9 (aQ pZ (aQ Dc ch)))) dF Tryz.func33 (fun a r h=>MU a r h)
def tL:Int→List V:=oA I
def tM (r:ae):V×List V:=(str r,[])
noncomputable def tN (dW:Int→Option ae):Ent:=bu [false] tL tM dW
theorem vx (dW:Int→Option ae){x}{r}(h:dW x=some r):(tN dW).F (tL x)=some (tM r):=ba (bb d6) h
noncomputable def xE :=tN (aE pq)
theorem Rr {n_1:Int}{r}(h:Fm n_1=some r):xE.F (tL n_1)=some (tM r):=vx (aE pq) h
noncomputable def Rt :=aY Tryz.f35
noncomputable def KA (dW:Int→Option ae):Env:=dE [(35,(tN dW))]
def Rs (dW:Int→Option ae)(x:Int)(r:ae):St→Prop:=QF (KA dW) Tryz.f35 [false] (tL x) (tM r)
theorem M0 (dW:Int→Option ae)(n_1:Int)(r:ae)(h:po dW n_1=some r):b7 (KA dW) Tryz.f35 [false] 0 (tL n_1) (tM r):=by
 show Run _ _ (Rs dW n_1 r) [.code Rt] _
 refine rI 25 [(0,I n_1)] [] 1 ?_
 unfold po at h
 refine cq 10 [4] [B (decide (n_1<0))] 49 ?_
 refine sq h ?_ ?_<;>intro h
 ·refine cq 4 [6] [I (aF (0 - n_1))] 81 ?_
  obtain⟨r2,hr2,h⟩:=bS h
  refine oq 97 (str r2) rfl (aH rfl rfl (aP rfl rfl rfl (bd (bx rfl) bE) (vx dW hr2) (.inr rfl) bm rfl rfl rfl)) ?_
  obtain⟨s3,hs3,h⟩:=bS h
  refine oq 113 (str s3) rfl (ia rfl rfl (iy hs3)) ?_
  refine cq 2 [2] [str s3] 129 ?_
  obtain rfl:=sI h
  exact rP [str s3]
 ·refine aq 1 ?_
  refine cq 6 [10] [B (decide (n_1<10))] 81 ?_
  refine sq h ?_ ?_<;>intro h
  ·refine cq 5 [11,13] [I n_1,I (aF (n_1+1))] 129 ?_
   obtain⟨s4,hs4,h⟩:=bS h
   refine oq 145 (str s4) rfl (fi rfl rfl rfl rfl (hM rfl rfl rfl hs4)) ?_
   refine cq 2 [2] [str s4] 161 ?_
   obtain rfl:=sI h
   exact rP [str s4]
  ·refine aq 1 ?_
   refine aq 1 ?_
   refine gN [0,1,3,0,8,0,32,96,248,511,1023] rfl (by decide +kernel) ?_
   refine dk 2 [16,15] [I (aF (n_1.tdiv 10)),I n_1] ?_
   obtain⟨r5,hr5,h⟩:=bS h
   refine dq [] [] (str r5) rfl (aH rfl rfl (aP rfl rfl rfl (bd (bx rfl) bE) (vx dW hr5) (.inr rfl) bm rfl rfl rfl)) ?_ (fb rfl rfl rfl rfl (bd (bx rfl) bE) (vx dW hr5) (.inr rfl) rfl)
   refine dk 5 [22,21,20,19,18] [I (aF ((n_1.tmod 10)+1)),I (n_1.tmod 10),I n_1,I (n_1.tmod 10),I n_1] ?_
   obtain⟨s6,hs6,h⟩:=bS h
   refine dq [] [] (str s6) rfl (fi rfl rfl rfl rfl (hM rfl rfl rfl hs6)) ?_
   obtain⟨s7,hs7,h⟩:=bS h
   refine dq [] [] (str s7) rfl (ia rfl rfl (iy hs7)) ?_
   refine dk 1 [2] [str s7] ?_
   refine de 257 rfl rfl ?_
   obtain rfl:=sI h
   exact rP [str s7]
theorem KB {G:cW}[TabG Tryz.prog G]:cX G 35 xE:=gq fun dW g_Ffby=>gT 1 0 (aQ g_Ffby ch) dF Tryz.func35 (fun a r h=>M0 dW a r h)
def zq:l1Cur→List V:=oA (qm eY)
def zr (r:(List ae)×l1Cur):V×List V:=(.usl 1 (r.1.map str),[.uptr (ce r.2)])
noncomputable def xu :=bu [true] zq zr fun x=>xt x
theorem Rf {c_2:l1Cur}{r}(h:xt c_2=some r):xu.F (zq c_2)=some (zr r):=ba (bb (gb ee)) h
noncomputable def zt :=aY Tryz.f14
noncomputable abbrev Pk :=cL (cL (cR (cL (cR (cR (cR (cL (cR (cL (cR (cR zt)))))))))))
noncomputable def tE :=dE [(33,xC),(29,il),(30,nc),(35,xE),(34,rX)]
def nU (x:l1Cur)(r:(List ae)×l1Cur):St→Prop:=QF tE Tryz.f14 [true] (zq x) (zr r)
theorem GY (c_2:l1Cur):eW tE 1 (nU c_2) Pk 1 (pd c_2) (fun u=>(sT 33 [(3,.hs 2 0 [] 1 0 (u.2.2.2.map str).length)] [⟨0,3,[.agg [.isl false (u.1.map (V.int .u8)),I u.2.1,.int .u64 u.2.2.1]]⟩,⟨0,1,u.2.2.2.map str⟩] 3)) fun x8=>(sT 33 [(0,.hp 1 0 [] 3 0 0),(3,.hs 2 0 [] 1 0 (x8.2.2.2.2.map str).length),(4,I x8.1)] [⟨0,3,[.agg [.isl false (x8.2.1.map (V.int .u8)),I x8.2.2.1,.int .u64 x8.2.2.2.1]]⟩,⟨0,1,x8.2.2.2.2.map str⟩] 3):=i7 (wh c_2) fun {Q K} hK self ih x8 y h hr hn=>by
 unfold l7 at h
 refine cq 4 [19] [.hs 2 0 [] 1 0 (x8.2.2.2.2.map str).length] 19 ?_
 refine oq 35 (I (len x8.2.2.2.2)) rfl (eX rfl rfl rfl (BI (f:=str) (xs:=x8.2.2.2.2) rfl rfl)) ?_
 refine cq 1 [21] [.hp 1 0 [] 3 0 0] 51 ?_
 obtain⟨r9,hr9,h⟩:=bS h
 refine oq 67 (I r9.1) rfl (aH rfl rfl (aP rfl rfl rfl (eG (ey rfl (cB (path:=[]) rfl rfl aB)) (bd (bx rfl) bE)) (ij hr9) (.inr rfl) (dM rfl rfl rfl rfl bm) rfl rfl rfl)) ?_
 refine cq 3 [24] [B (decide ((len x8.2.2.2.2)<(aF (16+r9.1))))] 99 ?_
 refine sq h ?_ ?_<;>intro h
 ·refine aq 1 ?_
  refine cq 5 [27,28] [.hs 2 0 [] 1 0 (x8.2.2.2.2.map str).length,I x8.1] 131 ?_
  obtain⟨r10,hr10,h⟩:=bS h
  refine oq 147 (str r10) rfl (cP (Rr hr10)) ?_
  obtain⟨s11,hs11,h⟩:=bS h
  refine oq 163 (str s11) rfl (ia rfl rfl (iy hs11)) ?_
  obtain⟨r12,hr12,h⟩:=bS h
  refine oq 179 (.hs 163 0 [] 1 0 (r12.map str).length) rfl (aH rfl rfl (aP rfl rfl rfl (eG (ey rfl (O5 (path:=[]) rfl rfl aB rfl)) (bd (bx rfl) bE)) (KS hr12) (.inr rfl) (dM rfl rfl rfl HD bm) rfl rfl rfl)) ?_
  refine cq 8 [3,4] [.hs 163 0 [] 1 0 (r12.map str).length,I (aF (x8.1+1))] 243 ?_
  refine fF ?_
  exact rf [0,3,4] [1,163] (ih _ _ h hr hn :)
 ·refine aq 1 ?_
  exact rf [3] [1,2] (hn _ (ak h) :) (hk:=hK)
theorem MP (c_2:l1Cur)(r:(List ae)×l1Cur)(h:xt c_2=some r):b7 tE Tryz.f14 [true] 1 (zq c_2) (zr r):=by
 show Run _ _ (nU c_2 r) [.code zt] _
 refine rI 33 [(0,.hp 1 0 [] 3 0 0)] [(1,some ⟨0,3,[ce c_2]⟩)] 2 ?_
 unfold xt at h
 refine cq 7 [5] [.hp 1 0 [] 3 0 0] 34 ?_
 obtain⟨r2,hr2,h⟩:=bS h
 refine oq 50 (.hs 34 0 [] 1 0 (r2.1.map str).length) rfl (aH rfl rfl (aP rfl rfl rfl (eG (ey rfl (cB (path:=[]) rfl rfl aB)) bE) (Rm hr2) (.inr rfl) (dM rfl rfl rfl rfl bm) rfl rfl rfl)) ?_
 refine cq 6 [3,7] [.hs 34 0 [] 1 0 (r2.1.map str).length,.hp 1 0 [] 3 0 0] 82 ?_
 obtain⟨r3,hr3,h⟩:=bS h
 refine oq 98 (I r3.1) rfl (aH rfl rfl (aP rfl rfl rfl (eG (ey rfl (cB (path:=[]) rfl rfl aB)) (bd (bx rfl) bE)) (ij hr3) (.inr rfl) (dM rfl rfl rfl rfl bm) rfl rfl rfl)) ?_
 refine cq 7 [9] [B (r3.1==0)] 130 ?_
 obtain⟨y4,hy4,hy41,hy42⟩:=bJ h
 have j4:∀u4,y4=.inr u4→Run tE 1 (nU c_2 r) (.blk 0::.code (cR (cR (cR zt)))::[]) (sT 33 [(3,.hs 2 0 [] 1 0 (u4.2.2.2.map str).length)] [⟨0,3,[.agg [.isl false (u4.1.map (V.int .u8)),I u4.2.1,.int .u64 u4.2.2.1]]⟩,⟨0,1,u4.2.2.2.map str⟩] 3):=by
  intro u4 hu
  replace h:=hy42 u4 hu
  refine cq 6 [2] [.hs 2 0 [] 1 0 (u4.2.2.2.map str).length] 35 ?_
  obtain rfl:=sI h
  exact bH rfl ⟨_,fin (vs:=[.hs 2 0 [] 1 0 (u4.2.2.2.map str).length]) rfl (cn (ni rfl (ec rfl rfl)) bT) rfl (fw rfl (eQ rfl rfl) dG),fQ dw⟩
 have r4:∀r',y4=.inl r'→∀st,nU c_2 r' st→(nU c_2 r) st:=fun r' e st hq=>by rw[hy41 r' e] at hq;exact hq
 replace h:=hy4
 refine sq h ?_ ?_<;>intro h
 ·refine cq 3 [11,12] [.hs 34 0 [] 1 0 (r2.1.map str).length,.hp 1 0 [] 3 0 0] 162 ?_
  refine oq 178 (.hs 162 0 [] 1 0 4) rfl (cf rfl (fV (f:=I) (xs:=[]) (z:=str ([])) (es:=[str ([97]:ae),str ([122,122]:ae),str ([]:ae),str ([111,114]:ae)]) (ws:=[str ([97]:ae),str ([122,122]:ae),str ([]:ae),str ([111,114]:ae)]) rfl rfl rfl (by decide) rfl (cO rfl) rfl)) ?_
  obtain⟨r5,hr5,h⟩:=bS h
  refine oK 194 (str r5.1) rfl rfl (me rfl rfl (nZ rfl rfl rfl rfl (eG (ey rfl (cB (path:=[]) rfl rfl aB)) (bd (tj rfl rfl (jR (f:=str) (g:=str) (xs:=[([97]:ae),([122,122]:ae),([]:ae),([111,114]:ae)]) rfl rfl (dB mm))) bE)) (zH hr5) (dM rfl rfl rfl rfl bm) rfl rfl rfl)) ?_
  refine oq 210 (.hs 194 0 [] 1 0 1) rfl (cf rfl (fV (f:=I) (xs:=[]) (z:=str ([])) (es:=[str r5.1]) (ws:=[str r5.1]) rfl rfl rfl (by decide) rfl (cO rfl) rfl)) ?_
  obtain⟨a6,ha6,h⟩:=bS h
  refine oq 226 (.hs 210 0 [] 1 0 (a6.map str).length) rfl (kD rfl rfl rfl rfl rfl (nY (path:=[]) (f:=str) (xs:=r2.1) (ys:=[r5.1]) rfl rfl (CZ rfl rfl rfl) rfl rfl rfl aB rfl (by decide) qk ha6 rfl GQ)) ?_
  refine cq 2 [3] [.hs 210 0 [] 1 0 (a6.map str).length] 242 ?_
  exact rf [3] [1,210] (j4 _ (ak h) :)
 ·refine cq 5 [17] [B (r3.1==1)] 162 ?_
  obtain⟨y7,hy7,hy71,hy72⟩:=bL h
  have j7:∀u7,y7=.inr u7→Run tE 1 (nU c_2 r) (.blk 0::.code (cR (cR (cR zt)))::[]) (sT 33 [(3,.hs 2 0 [] 1 0 (u7.2.2.2.map str).length)] [⟨0,3,[.agg [.isl false (u7.1.map (V.int .u8)),I u7.2.1,.int .u64 u7.2.2.1]]⟩,⟨0,1,u7.2.2.2.map str⟩] 3):=by
   intro u7 hu
   replace h:=hy72 u7 hu
   exact rf [3] [1,2] (j4 _ (ak h) :)
  have r7:∀r',y7=.inl r'→∀st,nU c_2 r' st→(nU c_2 r) st:=fun r' e st hq=>r4 r' (hy71 r' e) st hq
  replace h:=hy7
  refine sq h ?_ ?_<;>intro h
  ·refine cq 5 [4] [I (0)] 178 ?_
   obtain⟨y13,hy13,hy131,hy132⟩:=bL h
   refine ep rfl ?_
   refine rf [0,3,4] [1,34] (GY c_2 rfl (0,r3.2.f_code,r3.2.f_at,r3.2.f_seed,r2.1) _ hy13 (fun r' e st hq=>r7 r' (hy131 r' e) st hq) fun u13 hu=>?_)
   replace h:=hy132 u13 hu
   exact rf [3] [1,2] (j7 _ (ak h) :)
  ·refine aq 1 ?_
   exact rf [3] [1,34] (j7 _ (ak h) :)
theorem Kl {G:cW}[TabG Tryz.prog G]:cX G 14 xu:=gT 1 1 (aQ Kt (aQ iH (aQ pZ (aQ KB (aQ Dc ch))))) dF Tryz.func14 (fun a r h=>MP a r h)
def zc:(List Int)→List V:=oA (oI (V.int .u8))
def zd (r:Condition×(List ae)×Int):V×List V:=(.tup [ar r.1,.usl 1 (r.2.1.map str),I r.2.2],[])
noncomputable def xi :=bu [false] zc zd fun x=>xh x
theorem Q1 {bo:List Int}{r}(h:xh bo=some r):xi.F (zc bo)=some (zd r):=ba (bb (fK (l5 (k:=.u8)))) h
noncomputable def Q3 :=aY Tryz.f5
noncomputable def Kc :=dE [(13,xp),(14,xu),(15,na)]
def Q2 (x:(List Int))(r:Condition×(List ae)×Int):St→Prop:=QF Kc Tryz.f5 [false] (zc x) (zd r)
theorem MJ (bo:List Int)(r:Condition×(List ae)×Int)(h:xh bo=some r):b7 Kc Tryz.f5 [false] 0 (zc bo) (zd r):=by
 show Run _ _ (Q2 bo r) [.code Q3] _
 refine rI 16 [(0,.isl false (bo.map (V.int .u8)))] [] 1 ?_
 unfold xh at h
 refine ck 3 [2] [] [1] [] [.hp 1 0 [] 4 0 0] [some ⟨0,4,[.agg [I (0),str ([]),I (0),.isl true []]]⟩] 17 (by kernel_rfl) ?_
 refine cG 1 [.agg [I (0),str ([]),I (0),.usl 4 (([]).map aa)]] rfl rfl (ao (dC (ao (.refl _) (ao (.refl _) (ao (.refl _) (ao (.nil _) bv))))) bv) ?_
 refine ck 13 [5,9] [] [81] [] [.hp 81 0 [] 3 0 0,.hp 81 0 [] 3 0 0] [some ⟨0,3,[.agg [.isl false (bo.map (V.int .u8)),I (0),.int .u64 (0)]]⟩] 129 (by kernel_rfl) ?_
 obtain⟨r2,hr2,h⟩:=bS h
 refine oq 145 (.agg [I r2.1.Op,str r2.1.Name,I r2.1.Day,.hs 129 0 [] 4 0 (r2.1.Parts.map aa).length]) rfl (aH rfl rfl (aP rfl rfl rfl (eG (ey rfl (cB (path:=[]) rfl rfl aB)) bE) (Ra hr2) (.inr rfl) (dM rfl rfl rfl rfl bm) rfl rfl rfl)) ?_
 refine cq 1 [11] [.hp 81 0 [] 3 0 0] 161 ?_
 obtain⟨r3,hr3,h⟩:=bS h
 refine oq 177 (.hs 161 0 [] 1 0 (r3.1.map str).length) rfl (aH rfl rfl (aP rfl rfl rfl (eG (ey rfl (cB (path:=[]) rfl rfl aB)) bE) (Rf hr3) (.inr rfl) (dM rfl rfl rfl rfl bm) rfl rfl rfl)) ?_
 refine cq 1 [13] [.hp 81 0 [] 3 0 0] 193 ?_
 refine oq 209 (.hs 193 0 [] 1 0 11) rfl (cf rfl (fV (f:=I) (xs:=[]) (z:=I (0)) (es:=[I (0),I (2),I (3),I (9),I (10),I (11),I (40),I (366),I (-1),I (36524),I (36525)]) (ws:=[I (0),I (2),I (3),I (9),I (10),I (11),I (40),I (366),I (-1),I (36524),I (36525)]) rfl rfl rfl (by decide) rfl (cO rfl) rfl)) ?_
 obtain⟨r4,hr4,h⟩:=bS h
 refine oK 225 (I r4.1) rfl rfl (me rfl rfl (nZ rfl rfl rfl rfl (eG (ey rfl (cB (path:=[]) rfl rfl aB)) (bd (tj rfl rfl (jR (f:=I) (g:=I) (xs:=[0,2,3,9,10,11,40,366,(-1),36524,36525]) rfl rfl (dB EY))) bE)) (zk hr4) (dM rfl rfl rfl rfl bm) rfl rfl rfl)) ?_
 refine o0 241 rfl rfl (gH rfl rfl (fP (path:=[]) (pl:=false) (e':=ar r2.1) (es2':=[ar r2.1]) rfl (dY (au (aA rfl) (au (aA rfl) (au (aA rfl) (au (ec rfl rfl) dZ))))) rfl rfl rfl aB rfl rfl rfl rfl rfl dt 2 rfl)) ?_
 refine cq 3 [3,4] [.hs 161 0 [] 1 0 (r3.1.map str).length,I r4.1] 273 ?_
 obtain rfl:=sI h
 exact bH rfl ⟨_,fin (vs:=[.agg [I r2.1.Op,str r2.1.Name,I r2.1.Day,.hs 1 2 [(0,3)] 4 0 (r2.1.Parts.map aa).length],.hs 161 0 [] 1 0 (r3.1.map str).length,I r4.1]) (eO (dh rfl rfl rfl) (eO rfl (eO rfl fx))) (cn (dY (au (aA rfl) (au (aA rfl) (au (aA rfl) (au (eu (path:=[(0,3)]) rfl rfl (dm rfl rfl aB) rfl (fG (path:=[]) (i:=0) (k:=3) (e':=.agg [I r2.1.Op,str r2.1.Name,I r2.1.Day,.dead]) (es2':=[.agg [I r2.1.Op,str r2.1.Name,I r2.1.Day,.dead]]) aB rfl rfl rfl dt)) dZ))))) (cn (ni rfl (ec rfl rfl)) (cn (be rfl) bT))) rfl (eF dG),dw⟩
theorem Kd {G:cW}[TabG Tryz.prog G]:cX G 5 xi:=gT 1 0 (aQ Ki (aQ Kl (aQ pY ch))) dF Tryz.func5 (fun a r h=>MJ a r h)
def yK:(Int×Int×Int)→List V:=cA I (cA I (oA I))
def yL (r:Bool):V×List V:=(B r,[])
noncomputable def mZ :=bu [false,false,false] yK yL fun x=>ln x.1 x.2.1 x.2.2
theorem lq {n_1:Int}{mG:Int}{kI:Int}{r}(h:ln n_1 mG kI=some r):mZ.F (yK (n_1,mG,kI))=some (yL r):=ba (cI d6 (cI d6 (bb d6))) h
noncomputable def JT :=aY Tryz.f38
noncomputable def E7 :=dE []
def JS (x:Int×Int×Int)(r:Bool):St→Prop:=QF E7 Tryz.f38 [false,false,false] (yK x) (yL r)
theorem Mz (n_1:Int)(mG:Int)(kI:Int)(r:Bool)(h:ln n_1 mG kI=some r):b7 E7 Tryz.f38 [false,false,false] 0 (yK (n_1,mG,kI)) (yL r):=by
 show Run _ _ (JS (n_1,mG,kI) r) [.code JT] _
 refine rI 15 [(0,I n_1),(1,I mG),(2,I kI)] [] 1 ?_
 unfold ln at h
 refine cq 10 [10] [B (decide (n_1≥mG))] 81 ?_
 obtain⟨u4,hu4,h⟩:=lJ h
 have j4:Run E7 0 (JS (n_1,mG,kI) r) (.code (cR (cR JT))::[]) (sT 15 [(6,B u4)] [] 1):=by
  obtain rfl:=sI h
  exact rP [B u4]
 replace h:=hu4
 clear hu4
 refine sp 10 h rfl ?_ ?_<;>intro h
 ·refine cq 6 [6] [B (decide (n_1≤kI))] 161 ?_
  subst h
  exact rf [6] [] (j4 :)
 ·refine cq 6 [6] [B false] 161 ?_
  subst h
  exact rf [6] [] (j4 :)
theorem pX {G:cW}[TabG Tryz.prog G]:cX G 38 mZ:=gT 3 0 ch dF Tryz.func38 (fun a r h=>Mz a.1 a.2.1 a.2.2 r h)
noncomputable def jN:Ent:=⟨[false,false],sw (nH str) (nH (V.int .u8)) fun s c=>some (I ((Lib.countByte s c.toNat.toUInt8:Nat):Int),[])⟩
theorem C2 {s:ae}{c r:Int}(h:vq s c=some r):jN.F [str s,.int .u8 c]=some (I r,[]):=by
 cases h
 simp only[jN,sw,BB bU,BB Mt,Option.bind_some]
theorem C3:Extern.findNext Tryz.f85=none:=by kernel_rfl
theorem C4:Extern.find Tryz.f85=some Extern.BytealgCount.count:=by kernel_rfl
theorem wb {G:cW}[TabG Tryz.prog G]:cX G 85 jN:=HO (g:=fun s c=>((Lib.countByte s c.toNat.toUInt8:Nat):Int)) Tryz.func85 rfl (by decide) C3 C4 fun s c w=>Lib.run_countString s c w
noncomputable def ic:Ent:=⟨[false,false],sw (nH str) (nH (V.int .u8)) fun s c=>some (I (Lib.indexByte s c.toNat.toUInt8),[])⟩
theorem vr {s:ae}{c r:Int}(h:pU s c=some r):ic.F [str s,.int .u8 c]=some (I r,[]):=by
 cases h
 simp only[ic,sw,BB bU,BB Mt,Option.bind_some]
theorem vt:Extern.findNext Tryz.f102=none:=by kernel_rfl
theorem vu:Extern.find Tryz.f102=some Extern.BytealgIndexByte.indexByte:=by kernel_rfl
theorem rG {G:cW}[TabG Tryz.prog G]:cX G 102 ic:=HO (g:=fun s c=>Lib.indexByte s c.toNat.toUInt8) Tryz.func102 rfl (by decide) vt vu fun s c w=>Lib.run_indexByteString s c w
def yT:(ae×Int)→List V:=cA str (oA (V.int .u8))
def yU (r:Int):V×List V:=(I r,[])
noncomputable def xa :=bu [false,false] yT yU fun x=>Fc x.1 x.2
theorem QU {s_1:ae}{c_2:Int}{r}(h:Fc s_1 c_2=some r):xa.F (yT (s_1,c_2))=some (yU r):=ba (cI bU (bb (l5 (k:=.u8)))) h
noncomputable def QW :=aY Tryz.f92
noncomputable def J0 :=dE [(102,ic)]
def QV (x:ae×Int)(r:Int):St→Prop:=QF J0 Tryz.f92 [false,false] (yT x) (yU r)
theorem MD (s_1:ae)(c_2:Int)(r:Int)(h:Fc s_1 c_2=some r):b7 J0 Tryz.f92 [false,false] 0 (yT (s_1,c_2)) (yU r):=by
 show Run _ _ (QV (s_1,c_2) r) [.code QW] _
 refine rI 8 [(0,str s_1),(1,.int .u8 c_2)] [] 1 ?_
 unfold Fc at h
 refine cq 8 [5,6] [str s_1,.int .u8 c_2] 49 ?_
 obtain⟨r3,hr3,h⟩:=bS h
 refine oq 65 (I r3) rfl (cP (vr hr3)) ?_
 refine cq 2 [4] [I r3] 81 ?_
 obtain rfl:=sI h
 exact rP [I r3]
theorem J1 {G:cW}[TabG Tryz.prog G]:cX G 92 xa:=gT 2 0 (aQ rG ch) dF Tryz.func92 (fun a r h=>MD a.1 a.2 r h)
def yR:(ae×ae)→List V:=cA str (oA str)
def yS (r:Int):V×List V:=(I r,[])
noncomputable def wZ :=bu [false,false] yR yS fun x=>E9 x.1 x.2
theorem QT {s_1:ae}{aO:ae}{r}(h:E9 s_1 aO=some r):wZ.F (yR (s_1,aO))=some (yS r):=ba (cI bU (bb bU)) h
noncomputable def Fb :=aY Tryz.f86
noncomputable def Fa :=dE [(92,xa)]
def JY (x:ae×ae)(r:Int):St→Prop:=QF Fa Tryz.f86 [false,false] (yR x) (yS r)
theorem MC (s_1:ae)(aO:ae)(r:Int)(h:E9 s_1 aO=some r):b7 Fa Tryz.f86 [false,false] 0 (yR (s_1,aO)) (yS r):=by
 show Run _ _ (JY (s_1,aO) r) [.code Fb] _
 refine rI 143 [(0,str s_1),(1,str aO)] [] 1 ?_
 unfold E9 at h
 refine cq 17 [5,19] [I (len aO),B ((len aO)==0)] 113 ?_
 obtain⟨u3,hu3,h⟩:=lJ h
 have j3:Run Fa 0 (JY (s_1,aO) r) (.code (cR (cL (cL (cR (cR Fb)))))::.blk 0::.code (cR (cR (cR Fb)))::[]) (sT 143 [(0,str s_1),(1,str aO),(5,I (len aO)),(16,B u3)] [] 1):=by
  refine sq h ?_ ?_<;>intro h
  ·refine cq 4 [4] [I (0)] 17 ?_
   obtain rfl:=sI h
   exact rP [I (0)]
  ·refine cq 6 [24] [B ((len aO)==1)] 49 ?_
   refine sq h ?_ ?_<;>intro h
   ·refine cq 4 [27,28] [str s_1,str aO] 81 ?_
    obtain⟨c4,hc4,h⟩:=bS h
    refine oq 97 (.int .u8 (c4.toNat:Int)) rfl (iD rfl rfl (lN rfl rfl hc4)) ?_
    obtain⟨r5,hr5,h⟩:=bS h
    refine oq 113 (I r5) rfl (cP (QU hr5)) ?_
    refine cq 2 [4] [I r5] 129 ?_
    obtain rfl:=sI h
    exact rP [I r5]
   ·refine cq 8 [31] [B (decide ((len aO)≥(len s_1)))] 129 ?_
    refine sq h ?_ ?_<;>intro h
    ·refine cq 4 [4] [I (-1)] 145 ?_
     obtain rfl:=sI h
     exact rP [I (-1)]
    ·cases h
 replace h:=hu3
 clear hu3
 refine sp 19 h rfl ?_ ?_<;>intro h
 ·refine cq 6 [16] [B true] 193 ?_
  subst h
  exact rf [0,1,5,16] [] (j3 :)
 ·refine cq 6 [16] [B (aO==s_1)] 193 ?_
  subst h
  exact rf [0,1,5,16] [] (j3 :)
theorem JZ {G:cW}[TabG Tryz.prog G]:cX G 86 wZ:=gT 2 0 (aQ J1 ch) dF Tryz.func86 (fun a r h=>MC a.1 a.2 r h)
def Au:(ae×ae)→List V:=cA str (oA str)
def Av (r:Int):V×List V:=(I r,[])
noncomputable def rZ :=bu [false,false] Au Av fun x=>Ck x.1 x.2
theorem K4 {s_1:ae}{aO:ae}{r}(h:Ck s_1 aO=some r):rZ.F (Au (s_1,aO))=some (Av r):=ba (cI bU (bb bU)) h
noncomputable def RK :=aY Tryz.f75
noncomputable def K2 :=dE [(86,wZ)]
def RJ (x:ae×ae)(r:Int):St→Prop:=QF K2 Tryz.f75 [false,false] (Au x) (Av r)
theorem Nj (s_1:ae)(aO:ae)(r:Int)(h:Ck s_1 aO=some r):b7 K2 Tryz.f75 [false,false] 0 (Au (s_1,aO)) (Av r):=by
 show Run _ _ (RJ (s_1,aO) r) [.code RK] _
 refine rI 8 [(0,str s_1),(1,str aO)] [] 1 ?_
 unfold Ck at h
 refine cq 8 [5,6] [str s_1,str aO] 49 ?_
 obtain⟨r3,hr3,h⟩:=bS h
 refine oq 65 (I r3) rfl (cP (QT hr3)) ?_
 refine cq 2 [4] [I r3] 81 ?_
 obtain rfl:=sI h
 exact rP [I r3]
theorem De {G:cW}[TabG Tryz.prog G]:cX G 75 rZ:=gT 2 0 (aQ JZ ch) dF Tryz.func75 (fun a r h=>Nj a.1 a.2 r h)
def Ao:(ae×ae)→List V:=cA str (oA str)
def Ap (r:Int):V×List V:=(I r,[])
noncomputable def xP :=bu [false,false] Ao Ap fun x=>Fs x.1 x.2
theorem RF {s_1:ae}{aO:ae}{r}(h:Fs s_1 aO=some r):xP.F (Ao (s_1,aO))=some (Ap r):=ba (cI bU (bb bU)) h
noncomputable def KY :=aY Tryz.f74
noncomputable def Ft :=dE [(85,jN),(75,rZ)]
def KX (x:ae×ae)(r:Int):St→Prop:=QF Ft Tryz.f74 [false,false] (Ao x) (Ap r)
theorem G7 (s_1:ae)(aO:ae):eW Ft 0 (KX (s_1,aO)) (cL (cL (cR (cR (cR (cR KY)))))) 0 (HB s_1 aO) (fun u=>(sT 34 [] [] 1)) fun x5=>(sT 34 [(0,str x5.1),(1,str aO),(5,I x5.2)] [] 1):=i7 (G6 s_1 aO) fun {Q K} hK self ih x5 y h hr hn=>by
 unfold p6 at h
 refine cq 5 [20,21] [str x5.1,str aO] 33 ?_
 obtain⟨r6,hr6,h⟩:=bS h
 refine oq 49 (I r6) rfl (cP (K4 hr6)) ?_
 refine cq 8 [6,24] [I r6,B (r6==(-1))] 97 ?_
 refine sq h ?_ ?_<;>intro h
 ·refine cq 5 [4] [I x5.2] 129 ?_
  exact bH rfl (hr _ (ak h) _ (qp [I x5.2]))
 ·refine aq 1 ?_
  refine cq 12 [5,28,32] [I (aF (x5.2+1)),str x5.1,I (aF (r6+(len aO)))] 225 ?_
  obtain⟨s7,hs7,h⟩:=bS h
  refine oq 241 (str s7) rfl (fi rfl rfl rfl rfl (hM rfl rfl rfl hs7)) ?_
  refine cq 3 [0] [str s7] 257 ?_
  refine fF ?_
  exact rf [0,1,5] [] (ih _ _ h hr hn :)
theorem Nh (s_1:ae)(aO:ae)(r:Int)(h:Fs s_1 aO=some r):b7 Ft Tryz.f74 [false,false] 0 (Ao (s_1,aO)) (Ap r):=by
 show Run _ _ (KX (s_1,aO) r) [.code KY] _
 refine rI 34 [(0,str s_1),(1,str aO)] [] 1 ?_
 unfold Fs at h
 refine cq 11 [9] [B ((len aO)==0)] 65 ?_
 refine sq h ?_ ?_<;>intro h
 ·cases h
 ·refine aq 1 ?_
  refine cq 7 [15] [B ((len aO)==1)] 113 ?_
  refine sq h ?_ ?_<;>intro h
  ·refine cq 4 [16,17] [str s_1,str aO] 145 ?_
   obtain⟨c3,hc3,h⟩:=bS h
   refine oq 161 (.int .u8 (c3.toNat:Int)) rfl (iD rfl rfl (lN rfl rfl hc3)) ?_
   obtain⟨r4,hr4,h⟩:=bS h
   refine oq 177 (I r4) rfl (cP (C2 hr4)) ?_
   refine cq 2 [4] [I r4] 193 ?_
   obtain rfl:=sI h
   exact rP [I r4]
  ·refine aq 1 ?_
   refine cq 5 [5] [I (0)] 129 ?_
   obtain⟨y8,hy8,hy81,hy82⟩:=bJ h
   refine ep rfl ?_
   refine rf [0,1,5] [] (G7 s_1 aO rfl (s_1,0) _ hy8 (fun r' e st hq=>by rw[hy81 r' e] at hq;exact hq) fun u8 hu=>?_)
   replace h:=hy82 u8 hu
   cases h
theorem KZ {G:cW}[TabG Tryz.prog G]:cX G 74 xP:=gT 2 0 (aQ wb (aQ De ch)) dF Tryz.func74 (fun a r h=>Nh a.1 a.2 r h)
def Az:(ae×ae×Int×Int)→List V:=cA str (cA str (cA I (oA I)))
def AC (r:(List ae)):V×List V:=(.usl 1 (r.map str),[])
noncomputable def xU :=bu [false,false,false,false] Az AC fun x=>Fu x.1 x.2.1 x.2.2.1 x.2.2.2
theorem RO {s_1:ae}{dx:ae}{cM:Int}{n_4:Int}{r}(h:Fu s_1 dx cM n_4=some r):xU.F (Az (s_1,dx,cM,n_4))=some (AC r):=ba (cI bU (cI bU (cI d6 (bb d6)))) h
noncomputable def Fv :=aY Tryz.f66
noncomputable abbrev Pq :=cL (cL (cL (cR (cR (cR (cR (cR (cR (cR (cR Fv))))))))))
noncomputable def AB :=dE [(75,rZ),(74,xP)]
def ui (x:ae×ae×Int×Int)(r:(List ae)):St→Prop:=QF AB Tryz.f66 [false,false,false,false] (Az x) (AC r)
theorem G8 (s_1:ae)(dx:ae)(cM:Int)(n_4:Int)(u5:Int):eW AB 0 (ui (s_1,dx,cM,n_4)) Pq 0 (vy s_1 dx cM n_4 u5) (fun u=>(sT 66 [(0,str u.1),(9,.hs 1 0 [] 1 0 (u.2.2.map str).length),(10,I u.2.1)] [⟨0,1,u.2.2.map str⟩] 2)) fun x7=>(sT 66 [(0,str x7.1),(1,str dx),(2,I cM),(3,I (aF ((if (aF ((len s_1)+1))<u5 then (aF ((len s_1)+1)) else u5) - 1))),(9,.hs 1 0 [] 1 0 (x7.2.2.map str).length),(10,I x7.2.1)] [⟨0,1,x7.2.2.map str⟩] 2):=i7 (wt s_1 dx cM n_4 u5) fun {Q K} hK self ih x7 y h hr hn=>by
 unfold p7 at h
 refine cq 7 [36] [B (decide (x7.2.1<(aF ((if (aF ((len s_1)+1))<u5 then (aF ((len s_1)+1)) else u5) - 1))))] 50 ?_
 refine sq h ?_ ?_<;>intro h
 ·refine aq 1 ?_
  refine cq 5 [37,38] [str x7.1,str dx] 82 ?_
  obtain⟨r8,hr8,h⟩:=bS h
  refine oq 98 (I r8) rfl (cP (K4 hr8)) ?_
  refine cq 8 [11,41] [I r8,B (decide (r8<0))] 146 ?_
  refine sq h ?_ ?_<;>intro h
  ·refine aq 1 ?_
   exact rf [0,9,10] [1] (hn _ (ak h) :) (hk:=hK)
  ·refine aq 1 ?_
   refine cq 8 [42,43,44,47] [.hs 1 0 [] 1 0 (x7.2.2.map str).length,I x7.2.1,str x7.1,I (aF (r8+cM))] 242 ?_
   obtain⟨s9,hs9,h⟩:=bS h
   refine oq 258 (str s9) rfl (fi rfl rfl rfl rfl (hM rfl rfl rfl hs9)) ?_
   obtain⟨e10,he10,h⟩:=bS h
   refine oq 274 (.hp 1 0 [] 1 (0+Int.toNat x7.2.1) 0) rfl (aJ rfl rfl rfl (iO (f:=str) (xs:=x7.2.2) rfl rfl rfl he10)) ?_
   refine o0 290 rfl rfl (gH rfl rfl (fP (path:=[]) (pl:=true) (e':=str s9) (es2':=(mN x7.2.2 x7.2.1 s9).map str) rfl (be rfl) rfl rfl rfl aB (nq (f:=str) (xs:=x7.2.2) he10) rfl rfl rfl (Ij (f:=str) (xs:=x7.2.2) (y:=s9)) dt 0 rfl)) ?_
   try rw[←Gj (f:=str) (xs:=x7.2.2) (i:=x7.2.1) (z:=s9)]
   refine cq 8 [50,54] [str x7.1,I (aF (r8+(len dx)))] 370 ?_
   obtain⟨s11,hs11,h⟩:=bS h
   refine oq 386 (str s11) rfl (fi rfl rfl rfl rfl (hM rfl rfl rfl hs11)) ?_
   refine cq 8 [0,10] [str s11,I (aF (x7.2.1+1))] 450 ?_
   refine fF ?_
   exact rf [0,1,2,3,9,10] [1] (ih _ _ h hr hn :)
 ·refine aq 1 ?_
  exact rf [0,9,10] [1] (hn _ (ak h) :) (hk:=hK)
theorem Nl (s_1:ae)(dx:ae)(cM:Int)(n_4:Int)(r:(List ae))(h:Fu s_1 dx cM n_4=some r):b7 AB Tryz.f66 [false,false,false,false] 0 (Az (s_1,dx,cM,n_4)) (AC r):=by
 show Run _ _ (ui (s_1,dx,cM,n_4) r) [.code Fv] _
 refine rI 66 [(0,str s_1),(1,str dx),(2,I cM),(3,I n_4)] [] 1 ?_
 unfold Fu at h
 refine cq 10 [13] [B (n_4==0)] 49 ?_
 refine sq h ?_ ?_<;>intro h
 ·refine cq 4 [8] [.isl true []] 65 ?_
  refine Ih 8 0 1 81 (.hs 65 0 [] 1 0 0) rfl rfl rfl rfl rfl ?_
  obtain rfl:=sI h
  exact bH rfl ⟨_,fin (vs:=[.hs 65 0 [] 1 0 0]) rfl (cn (ni rfl (ec (k:=0) (es:=[]) rfl rfl)) bT) rfl (eF (eF (eF (eF dG)))),dw⟩
 ·refine aq 1 ?_
  refine cq 6 [15] [B (dx==([]:ae))] 81 ?_
  refine sq h ?_ ?_<;>intro h
  ·cases h
  ·refine aq 1 ?_
   refine cq 6 [20] [B (decide (n_4<0))] 113 ?_
   obtain⟨y5,hy5,hy51,hy52⟩:=bJ h
   have j5:∀u5,y5=.inr u5→Run AB 0 (ui (s_1,dx,cM,n_4) r) (.code (cR (cR (cR (cR Fv))))::[]) (sT 66 [(0,str s_1),(1,str dx),(2,I cM),(3,I u5)] [] 1):=by
    intro u5 hu
    replace h:=hy52 u5 hu
    refine cq 12 [3,30] [I (if (aF ((len s_1)+1))<u5 then (aF ((len s_1)+1)) else u5),I (if (aF ((len s_1)+1))<u5 then (aF ((len s_1)+1)) else u5)] 113 ?_
    obtain⟨m6,hm6,h⟩:=bS h
    refine oq 129 (.hs 113 0 [] 1 0 (m6.map str).length) rfl (Hb rfl rfl (Sn (f:=str) rfl rfl rfl (by decide) hm6 rfl)) ?_
    refine cq 14 [3,9,10] [I (aF ((if (aF ((len s_1)+1))<u5 then (aF ((len s_1)+1)) else u5) - 1)),.hs 113 0 [] 1 0 (m6.map str).length,I (0)] 209 ?_
    obtain⟨y12,hy12,hy121,hy122⟩:=bJ h
    refine ep rfl ?_
    refine rf [0,1,2,3,9,10] [113] (G8 s_1 dx cM n_4 u5 rfl (s_1,0,m6) _ hy12 (fun r' e st hq=>by rw[hy121 r' e] at hq;exact hq) fun u12 hu=>?_)
    replace h:=hy122 u12 hu
    refine cq 5 [58,59,60] [.hs 1 0 [] 1 0 (u12.2.2.map str).length,I u12.2.1,str u12.1] 50 ?_
    obtain⟨e13,he13,h⟩:=bS h
    refine oq 66 (.hp 1 0 [] 1 (0+Int.toNat u12.2.1) 0) rfl (aJ rfl rfl rfl (iO (f:=str) (xs:=u12.2.2) rfl rfl rfl he13)) ?_
    refine o0 82 rfl rfl (gH rfl rfl (fP (path:=[]) (pl:=true) (e':=str u12.1) (es2':=(mN u12.2.2 u12.2.1 u12.1).map str) rfl (be rfl) rfl rfl rfl aB (nq (f:=str) (xs:=u12.2.2) he13) rfl rfl rfl (Ij (f:=str) (xs:=u12.2.2) (y:=u12.1)) dt 0 rfl)) ?_
    try rw[←Gj (f:=str) (xs:=u12.2.2) (i:=u12.2.1) (z:=u12.1)]
    refine cq 6 [62,64] [.hs 1 0 [] 1 0 ((mN u12.2.2 u12.2.1 u12.1).map str).length,I (aF (u12.2.1+1))] 130 ?_
    obtain⟨s14,hs14,h⟩:=bS h
    refine oq 146 (.hs 1 0 [] 1 (0+Int.toNat (0)) (Int.toNat (aF (u12.2.1+1)) - Int.toNat (0))) rfl (fi rfl rfl rfl rfl (GO (f:=str) (xs:=(mN u12.2.2 u12.2.1 u12.1)) rfl rfl rfl rfl rfl hs14)) ?_
    refine cq 2 [8] [.hs 1 0 [] 1 (0+Int.toNat (0)) (Int.toNat (aF (u12.2.1+1)) - Int.toNat (0))] 162 ?_
    obtain⟨p15,hp15,h⟩:=bS h
    obtain rfl:=sI h
    exact bH rfl ⟨_,fin (vs:=[.hs 1 0 [] 1 (0+Int.toNat (0)) (Int.toNat (aF (u12.2.1+1)) - Int.toNat (0))]) rfl (cn (ni rfl (RV (path:=[]) (f:=str) (xs:=(mN u12.2.2 u12.2.1 u12.1)) rfl rfl aB hp15 rfl GQ)) bT) rfl (eF (eF (eF (eF dG)))),dw⟩
   have r5:∀r',y5=.inl r'→∀st,ui (s_1,dx,cM,n_4) r' st→(ui (s_1,dx,cM,n_4) r) st:=fun r' e st hq=>by rw[hy51 r' e] at hq;exact hq
   replace h:=hy5
   refine sq h ?_ ?_<;>intro h
   ·refine cq 3 [21,22] [str s_1,str dx] 145 ?_
    obtain⟨r16,hr16,h⟩:=bS h
    refine oq 161 (I r16) rfl (cP (RF hr16)) ?_
    refine cq 3 [3] [I (aF (r16+1))] 193 ?_
    exact rf [0,1,2,3] [] (j5 _ (ak h) :)
   ·refine aq 1 ?_
    exact rf [0,1,2,3] [] (j5 _ (ak h) :)
theorem K7 {G:cW}[TabG Tryz.prog G]:cX G 66 xU:=gT 4 0 (aQ De (aQ KZ ch)) dF Tryz.func66 (fun a r h=>Nl a.1 a.2.1 a.2.2.1 a.2.2.2 r h)
def Aw:(ae×ae)→List V:=cA str (oA str)
def Ay (r:(List ae)):V×List V:=(.usl 1 (r.map str),[])
noncomputable def xT :=bu [false,false] Aw Ay fun x=>xS x.1 x.2
theorem RL {s_1:ae}{dx:ae}{r}(h:xS s_1 dx=some r):xT.F (Aw (s_1,dx))=some (Ay r):=ba (cI bU (bb bU)) h
noncomputable def RN :=aY Tryz.f55
noncomputable def K5 :=dE [(66,xU)]
def RM (x:ae×ae)(r:(List ae)):St→Prop:=QF K5 Tryz.f55 [false,false] (Aw x) (Ay r)
theorem Nk (s_1:ae)(dx:ae)(r:(List ae))(h:xS s_1 dx=some r):b7 K5 Tryz.f55 [false,false] 0 (Aw (s_1,dx)) (Ay r):=by
 show Run _ _ (RM (s_1,dx) r) [.code RN] _
 refine rI 8 [(0,str s_1),(1,str dx)] [] 1 ?_
 unfold xS at h
 refine cq 8 [5,6] [str s_1,str dx] 49 ?_
 obtain⟨r3,hr3,h⟩:=bS h
 refine oq 65 (.hs 49 0 [] 1 0 (r3.map str).length) rfl (cP (RO hr3)) ?_
 refine cq 2 [4] [.hs 49 0 [] 1 0 (r3.map str).length] 81 ?_
 obtain rfl:=sI h
 exact bH rfl ⟨_,fin (vs:=[.hs 49 0 [] 1 0 (r3.map str).length]) rfl (cn (ni rfl (ec rfl rfl)) bT) rfl (eF (eF dG)),dw⟩
theorem K6 {G:cW}[TabG Tryz.prog G]:cX G 55 xT:=gT 2 0 (aQ K7 ch) dF Tryz.func55 (fun a r h=>Nk a.1 a.2 r h)
def yZ:((List ae)×ae)→List V:=cA (oI str) (oA str)
def za (r:Int):V×List V:=(I r,[])
noncomputable def xg :=bu [false,false] yZ za fun x=>xf x.1 x.2
theorem Q0 {s_1:List ae}{v_2:ae}{r}(h:xf s_1 v_2=some r):xg.F (yZ (s_1,v_2))=some (za r):=ba (cI (fK bU) (bb bU)) h
noncomputable def Ka :=aY Tryz.f56
noncomputable def Ff :=dE []
def J9 (x:(List ae)×ae)(r:Int):St→Prop:=QF Ff Tryz.f56 [false,false] (yZ x) (za r)
theorem GW (s_1:List ae)(v_2:ae):eW Ff 0 (J9 (s_1,v_2)) (cL (cL (cR (cL (cR Ka))))) 0 (pc s_1 v_2) (fun u=>(sT 19 [] [] 1)) fun x3=>(sT 19 [(0,.isl false (s_1.map str)),(1,str v_2),(7,I (len s_1)),(8,I x3)] [] 1):=i7 (we s_1 v_2) fun {Q K} hK self ih x3 y h hr hn=>by
 unfold kq at h
 refine cq 5 [9] [B (decide (x3<(len s_1)))] 17 ?_
 refine sq h ?_ ?_<;>intro h
 ·refine aq 1 ?_
  refine cq 12 [5,11,12,13] [I x3,str v_2,.isl false (s_1.map str),I x3] 97 ?_
  obtain⟨e4,he4,h⟩:=bS h
  refine oq 113 (.iptr (str e4) 0) rfl (aJ rfl rfl rfl (cC rfl rfl rfl rfl he4)) ?_
  refine cq 3 [16] [B (v_2==e4)] 145 ?_
  refine sq h ?_ ?_<;>intro h
  ·refine cq 5 [4] [I x3] 177 ?_
   exact bH rfl (hr _ (ak h) _ (qp [I x3]))
  ·refine aq 1 ?_
   refine cq 5 [8] [I (aF (x3+1))] 177 ?_
   refine fF ?_
   exact rf [0,1,7,8] [] (ih _ _ h hr hn :)
 ·refine aq 1 ?_
  exact rf [] [] (hn _ (ak h) :) (hk:=hK)
theorem MI (s_1:List ae)(v_2:ae)(r:Int)(h:xf s_1 v_2=some r):b7 Ff Tryz.f56 [false,false] 0 (yZ (s_1,v_2)) (za r):=by
 show Run _ _ (J9 (s_1,v_2) r) [.code Ka] _
 refine rI 19 [(0,.isl false (s_1.map str)),(1,str v_2)] [] 1 ?_
 unfold xf at h
 refine cq 8 [6] [.isl false (s_1.map str)] 33 ?_
 refine oq 49 (I (len s_1)) rfl (eX rfl rfl rfl (fN rfl)) ?_
 refine cq 3 [8] [I (0)] 65 ?_
 obtain⟨y5,hy5,hy51,hy52⟩:=bJ h
 refine ep rfl ?_
 refine rf [0,1,7,8] [] (GW s_1 v_2 rfl 0 _ hy5 (fun r' e st hq=>by rw[hy51 r' e] at hq;exact hq) fun u5 hu=>?_)
 replace h:=hy52 u5 hu
 refine cq 4 [4] [I (-1)] 17 ?_
 obtain rfl:=sI h
 exact rP [I (-1)]
theorem Kb {G:cW}[TabG Tryz.prog G]:cX G 56 xg:=gT 2 0 ch dF Tryz.func56 (fun a r h=>MI a.1 a.2 r h)
def yV:((List ae)×ae)→List V:=cA (oI str) (oA str)
def yW (r:Bool):V×List V:=(B r,[])
noncomputable def rL :=bu [false,false] yV yW fun x=>qq x.1 x.2
theorem J5 {s_1:List ae}{v_2:ae}{r}(h:qq s_1 v_2=some r):rL.F (yV (s_1,v_2))=some (yW r):=ba (cI (fK bU) (bb bU)) h
noncomputable def QY :=aY Tryz.f39
noncomputable def J4 :=dE [(56,xg)]
def QX (x:(List ae)×ae)(r:Bool):St→Prop:=QF J4 Tryz.f39 [false,false] (yV x) (yW r)
theorem MG (s_1:List ae)(v_2:ae)(r:Bool)(h:qq s_1 v_2=some r):b7 J4 Tryz.f39 [false,false] 0 (yV (s_1,v_2)) (yW r):=by
 show Run _ _ (QX (s_1,v_2) r) [.code QY] _
 refine rI 9 [(0,.isl false (s_1.map str)),(1,str v_2)] [] 1 ?_
 unfold qq at h
 refine cq 8 [5,6] [.isl false (s_1.map str),str v_2] 49 ?_
 obtain⟨r3,hr3,h⟩:=bS h
 refine oq 65 (I r3) rfl (cP (Q0 hr3)) ?_
 refine cq 3 [4] [B (decide (r3≥0))] 97 ?_
 obtain rfl:=sI h
 exact rP [B (decide (r3≥0))]
theorem C6 {G:cW}[TabG Tryz.prog G]:cX G 39 rL:=gT 2 0 (aQ Kb ch) dF Tryz.func39 (fun a r h=>MG a.1 a.2 r h)
def Em:ae→List V:=oA str
def En (r:Bool):V×List V:=(B r,[])
noncomputable def vA :=bu [false] Em En fun x=>AD x
theorem OD {s_1:ae}{r}(h:AD s_1=some r):vA.F (Em s_1)=some (En r):=ba (bb bU) h
noncomputable def vz :=aY Tryz.f37
noncomputable abbrev px :=cL (cL (cR (cL (cR (cR vz)))))
noncomputable abbrev AE :=cR (cR (cR px))
noncomputable abbrev AF :=cR (cR (cR (cL (cL (cR (cR px))))))
noncomputable def oL :=dE [(38,mZ),(55,xT),(39,rL)]
def p8 (x:ae)(r:Bool):St→Prop:=QF oL Tryz.f37 [false] (Em x) (En r)
theorem IB (s_1:ae):eW oL 0 (p8 s_1) px 0 (uj s_1) (fun u=>(sT 46 [(0,str s_1)] [] 1)) fun x4=>(sT 46 [(0,str s_1),(20,I (len s_1)),(21,I x4)] [] 1):=i7 (AG s_1) fun {Q K} hK self ih x4 y h hr hn=>by
 unfold nf at h
 refine cq 5 [22] [B (decide (x4<(len s_1)))] 17 ?_
 refine sq h ?_ ?_<;>intro h
 ·refine aq 1 ?_
  refine cq 11 [24,25] [str s_1,I x4] 81 ?_
  obtain⟨c5,hc5,h⟩:=bS h
  refine oq 97 (.int .u8 (c5.toNat:Int)) rfl (iD rfl rfl (lN rfl rfl hc5)) ?_
  refine cq 7 [4,29] [.int .u8 (c5.toNat:Int),B (decide ((c5.toNat:Int)<97))] 161 ?_
  obtain⟨u6,hu6,h⟩:=lJ h
  have j6:Run oL 0 Q (.code AF::.blk 1::.code AE::.lp px::.blk 0::K) (sT 46 [(0,str s_1),(20,I (len s_1)),(21,I x4),(40,B u6)] [] 1):=by
   refine sq h ?_ ?_<;>intro h
   ·refine cq 4 [2] [B false] 17 ?_
    exact bH rfl (hr _ (ak h) _ (qp [B false]))
   ·refine aq 1 ?_
    refine cq 5 [21] [I (aF (x4+1))] 33 ?_
    refine fF ?_
    exact rf [0,20,21] [] (ih _ _ h hr hn :)
  replace h:=hu6
  clear hu6
  refine sp 29 h rfl ?_ ?_<;>intro h
  ·refine cq 7 [33,36] [B true,B (decide ((c5.toNat:Int)<48))] 273 ?_
   obtain⟨u7,hu7,h⟩:=lJ h
   have j7:Run oL 0 Q (.code AF::.blk 1::.code AE::.lp px::.blk 0::K) (sT 46 [(0,str s_1),(20,I (len s_1)),(21,I x4),(40,B u7)] [] 1):=by
    subst h
    exact rf [0,20,21,40] [] (j6 :)
   replace h:=hu7
   clear hu7
   refine sp 36 h rfl ?_ ?_<;>intro h
   ·refine cq 5 [40] [B true] 337 ?_
    subst h
    exact rf [0,20,21,40] [] (j7 :)
   ·refine cq 5 [40] [B (decide ((c5.toNat:Int)>57))] 337 ?_
    subst h
    exact rf [0,20,21,40] [] (j7 :)
  ·refine cq 4 [33] [B (decide ((c5.toNat:Int)>122))] 225 ?_
   obtain⟨u8,hu8,h⟩:=lJ h
   have j8:Run oL 0 Q (.code AF::.blk 1::.code AE::.lp px::.blk 0::K) (sT 46 [(0,str s_1),(20,I (len s_1)),(21,I x4),(40,B u8)] [] 1):=by
    subst h
    exact rf [0,20,21,40] [] (j6 :)
   replace h:=hu8
   clear hu8
   refine sp 33 h rfl ?_ ?_<;>intro h
   ·refine cq 3 [36] [B (decide ((c5.toNat:Int)<48))] 273 ?_
    obtain⟨u9,hu9,h⟩:=lJ h
    have j9:Run oL 0 Q (.code AF::.blk 1::.code AE::.lp px::.blk 0::K) (sT 46 [(0,str s_1),(20,I (len s_1)),(21,I x4),(40,B u9)] [] 1):=by
     subst h
     exact rf [0,20,21,40] [] (j8 :)
    replace h:=hu9
    clear hu9
    refine sp 36 h rfl ?_ ?_<;>intro h
    ·refine cq 5 [40] [B true] 337 ?_
     subst h
     exact rf [0,20,21,40] [] (j9 :)
    ·refine cq 5 [40] [B (decide ((c5.toNat:Int)>57))] 337 ?_
     subst h
     exact rf [0,20,21,40] [] (j9 :)
   ·refine cq 8 [40] [B false] 337 ?_
    subst h
    exact rf [0,20,21,40] [] (j8 :)
 ·refine aq 1 ?_
  exact rf [0] [] (hn _ (ak h) :) (hk:=hK)
theorem Ps (s_1:ae)(r:Bool)(h:AD s_1=some r):b7 oL Tryz.f37 [false] 0 (Em s_1) (En r):=by
 show Run _ _ (p8 s_1 r) [.code vz] _
 refine rI 46 [(0,str s_1)] [] 1 ?_
 unfold AD at h
 refine cq 9 [6] [I (len s_1)] 49 ?_
 obtain⟨r2,hr2,h⟩:=bS h
 refine oq 65 (B r2) rfl (cP (lq hr2)) ?_
 refine cq 2 [9] [B (!r2)] 97 ?_
 obtain⟨y3,hy3,hy31,hy32⟩:=bJ h
 have j3:∀u3,y3=.inr u3→Run oL 0 (p8 s_1 r) (.code (cR (cL (cR vz)))::.code (cR (cR vz))::[]) (sT 46 [(0,str s_1),(18,B u3)] [] 1):=by
  intro u3 hu
  replace h:=hy32 u3 hu
  refine sq h ?_ ?_<;>intro h
  ·refine cq 4 [2] [B false] 17 ?_
   obtain rfl:=sI h
   exact rP [B false]
  ·refine aq 1 ?_
   refine cq 8 [20,21] [I (len s_1),I (0)] 49 ?_
   obtain⟨y10,hy10,hy101,hy102⟩:=bJ h
   refine ep rfl ?_
   refine rf [0,20,21] [] (IB s_1 rfl 0 _ hy10 (fun r' e st hq=>by rw[hy101 r' e] at hq;exact hq) fun u10 hu=>?_)
   replace h:=hy102 u10 hu
   refine aq 2 ?_
   obtain⟨r11,hr11,h⟩:=bS h
   refine oq 17 (.hs 1 0 [] 1 0 (r11.map str).length) rfl (cP (RL hr11)) ?_
   refine cq 1 [43] [str s_1] 33 ?_
   obtain⟨r12,hr12,h⟩:=bS h
   refine oq 49 (B r12) rfl (aH rfl rfl (aP rfl rfl rfl (bd (tj rfl rfl (jR (f:=str) (g:=str) (xs:=r11) rfl rfl (dB mm))) (bd (bx rfl) bE)) (J5 hr12) (.inl rfl) bm rfl rfl rfl)) ?_
   refine cq 3 [2] [B (!r12)] 81 ?_
   obtain rfl:=sI h
   exact rP [B (!r12)]
 have r3:∀r',y3=.inl r'→∀st,p8 s_1 r' st→(p8 s_1 r) st:=fun r' e st hq=>by rw[hy31 r' e] at hq;exact hq
 replace h:=hy3
 refine sp 9 h rfl ?_ ?_<;>intro h
 ·refine cq 10 [18] [B true] 241 ?_
  exact rf [0,18] [] (j3 _ (ak h) :)
 ·refine cq 1 [10] [str s_1] 113 ?_
  obtain⟨c13,hc13,h⟩:=bS h
  refine oy 129 (.int .u8 (c13.toNat:Int)) rfl (iD rfl rfl (lN rfl rfl hc13)) ?_
  refine cq 3 [14] [B (decide ((c13.toNat:Int)<97))] 177 ?_
  obtain⟨y14,hy14,hy141,hy142⟩:=bL h
  have j14:∀u14,y14=.inr u14→Run oL 0 (p8 s_1 r) (.code (cR (cL (cR vz)))::.code (cR (cR vz))::[]) (sT 46 [(0,str s_1),(18,B u14)] [] 1):=by
   intro u14 hu
   replace h:=hy142 u14 hu
   exact rf [0,18] [] (j3 _ (ak h) :)
  have r14:∀r',y14=.inl r'→∀st,p8 s_1 r' st→(p8 s_1 r) st:=fun r' e st hq=>r3 r' (hy141 r' e) st hq
  replace h:=hy14
  refine sp 14 h rfl ?_ ?_<;>intro h
  ·refine cq 5 [18] [B true] 241 ?_
   exact rf [0,18] [] (j14 _ (ak h) :)
  ·refine cq 1 [15] [str s_1] 193 ?_
   obtain⟨c15,hc15,h⟩:=bS h
   refine oy 209 (.int .u8 (c15.toNat:Int)) rfl (iD rfl rfl (lN rfl rfl hc15)) ?_
   refine cq 3 [18] [B (decide ((c15.toNat:Int)>122))] 241 ?_
   exact rf [0,18] [] (j14 _ (ak h) :)
theorem Fx {G:cW}[TabG Tryz.prog G]:cX G 37 vA:=gT 1 0 (aQ pX (aQ K6 (aQ C6 ch))) dF Tryz.func37 (fun a r h=>Ps a r h)
def EN:Int→List V:=oA I
def EO (r:Bool):V×List V:=(B r,[])
noncomputable def vI :=bu [false] EN EO fun x=>oE x
theorem Ba {bi:Int}{r}(h:oE bi=some r):vI.F (EN bi)=some (EO r):=ba (bb d6) h
noncomputable def S1 :=aY Tryz.f18
noncomputable def OS :=dE [(38,mZ)]
def S0 (x:Int)(r:Bool):St→Prop:=QF OS Tryz.f18 [false] (EN x) (EO r)
theorem PL (bi:Int)(r:Bool)(h:oE bi=some r):b7 OS Tryz.f18 [false] 0 (EN bi) (EO r):=by
 show Run _ _ (S0 bi r) [.code S1] _
 refine rI 5 [(0,I bi)] [] 1 ?_
 unfold oE at h
 refine cq 7 [3] [I bi] 33 ?_
 obtain⟨r2,hr2,h⟩:=bS h
 refine oq 49 (B r2) rfl (cP (lq hr2)) ?_
 refine cq 2 [2] [B r2] 65 ?_
 obtain rfl:=sI h
 exact rP [B r2]
theorem FI {G:cW}[TabG Tryz.prog G]:cX G 18 vI:=gT 1 0 (aQ pX ch) dF Tryz.func18 (fun a r h=>PL a r h)
def AQ:(Condition×Int)→List V:=cA ac (oA I)
def AR (r:Int):V×List V:=(I r,[])
noncomputable def xX (aN:(Condition×Int)→Option Int):Ent:=bu [false,false] AQ AR aN
theorem Lb (aN:(Condition×Int)→Option Int){x}{r}(h:aN x=some r):(xX aN).F (AQ x)=some (AR r):=ba (cI bc (bb d6)) h
noncomputable def Cr :=xX (aE lF)
theorem SR {c_1:Condition}{b9:Int}{r}(h:La c_1 b9=some r):Cr.F (AQ (c_1,b9))=some (AR r):=Lb (aE lF) h
noncomputable def sd :=aY Tryz.f36
noncomputable abbrev nX :=cR (cR (cR (cR (cR sd))))
noncomputable abbrev pA :=cR (cL (cR (cR (cR (cR sd)))))
noncomputable def lE (aN:(Condition×Int)→Option Int):Env:=dE [(36,(xX aN)),(37,vA),(18,vI),(38,mZ)]
def eV (aN:(Condition×Int)→Option Int)(x:Condition×Int)(r:Int):St→Prop:=QF (lE aN) Tryz.f36 [false,false] (AQ x) (AR r)
theorem IJ (aN:(Condition×Int)→Option Int)(c_1:Condition)(b9:Int):eW (lE aN) 0 (eV aN (c_1,b9)) (cL (cL (cR (cL nX)))) 0 (lu aN c_1 b9) (fun u=>(sT 78 [(1,I u)] [] 1)) fun x5=>(sT 78 [(1,I x5.1),(65,.isl false (c_1.Parts.map ah)),(66,I (len c_1.Parts)),(67,I x5.2)] [] 1):=i7 (AU aN c_1 b9) fun {Q K} hK self ih x5 y h hr hn=>by
 unfold kz at h
 refine cq 5 [68] [B (decide (x5.2<(len c_1.Parts)))] 17 ?_
 refine sq h ?_ ?_<;>intro h
 ·refine aq 1 ?_
  refine aq 4 ?_
  obtain⟨e6,he6,h⟩:=bS h
  refine oq 33 (.iptr (ac e6) 0) rfl (aJ rfl rfl rfl (cC rfl rfl (aC e6) rfl he6)) ?_
  refine ck 2 [7,70] [] [49] [] [.hp 49 0 [] 4 0 0,ac e6] [some ⟨0,4,[.agg [I (0),str ([]),I (0),.isl true []]]⟩] 65 (by kernel_rfl) ?_
  refine cG 49 [.agg [I (0),str ([]),I (0),.usl 4 (([]).map aa)]] rfl rfl (ao (dC (ao (.refl _) (ao (.refl _) (ao (.refl _) (ao (.nil _) bv))))) bv) ?_
  refine ck 6 [71,72] [] [49] [] [ac e6,I x5.1] [some ⟨2,4,[ac e6]⟩] 113 (by kernel_rfl) ?_
  obtain⟨r7,hr7,h⟩:=bS h
  refine oq 129 (I r7) rfl (aH rfl rfl (aP rfl rfl rfl (bd (bx rfl) (bd (bx rfl) bE)) (Lb aN hr7) (.inr rfl) bm rfl rfl rfl)) ?_
  refine cq 7 [1,75] [I r7,B (decide (r7<0))] 177 ?_
  refine sq h ?_ ?_<;>intro h
  ·refine cq 4 [4] [I (-1)] 193 ?_
   exact bH rfl (hr _ (ak h) _ (qp [I (-1)]))
  ·refine aq 1 ?_
   refine cq 5 [67] [I (aF (x5.2+1))] 209 ?_
   refine fF ?_
   exact rf [1,65,66,67] [] (ih _ _ h hr hn :)
 ·refine aq 1 ?_
  exact rf [1] [] (hn _ (ak h) :) (hk:=hK)
theorem PC (aN:(Condition×Int)→Option Int)(c_1:Condition)(b9:Int)(r:Int)(h:vE aN c_1 b9=some r):b7 (lE aN) Tryz.f36 [false,false] 0 (AQ (c_1,b9)) (AR r):=by
 show Run _ _ (eV aN (c_1,b9) r) [.code sd] _
 refine rI 78 [(0,ac c_1),(1,I b9)] [] 1 ?_
 unfold vE at h
 refine ck 13 [1,2] [] [1] [] [I (aF (b9+1)),.hp 1 0 [] 4 0 0] [some ⟨0,4,[ac c_1]⟩] 81 (by kernel_rfl) ?_
 refine oq 97 (.hs 81 0 [] 1 0 7) rfl (cf rfl (fV (f:=I) (xs:=[]) (z:=I (0)) (es:=[I (-1),I (0),I (0),I (0),I (1),I (2),I (2)]) (ws:=[I (-1),I (0),I (0),I (0),I (1),I (2),I (2)]) rfl rfl rfl (by decide) rfl (cO rfl) rfl)) ?_
 refine cq 4 [5] [.hs 81 0 [] 1 0 7] 113 ?_
 refine gN [0,1,3,7,15,31,63,127,255,511,1023,2047,511,511,8703,29183,61951,131071,262143] rfl (by decide +kernel) ?_
 refine dk 3 [13,12,11] [B (decide ((aF (b9+1))>15)),B (decide ((aF (b9+1))>15)),I (aF (b9+1))] ?_
 obtain⟨y3,hy3,hy31,hy32⟩:=bJ h
 have j3:∀u3,y3=.inr u3→Run (lE aN) 0 (eV aN (c_1,b9) r) (.code (cR (cL (cR (cR (cR sd)))))::.code (cR (cR (cR (cR sd))))::[]) (sT 78 [(1,I (aF (b9+1))),(2,.hp 1 0 [] 4 0 0),(29,B u3)] [⟨0,4,[ac c_1]⟩] 2):=by
  intro u3 hu
  replace h:=hy32 u3 hu
  refine sq h ?_ ?_<;>intro h
  ·refine cq 4 [4] [I (-1)] 18 ?_
   obtain rfl:=sI h
   exact rP [I (-1)]
  ·refine aq 1 ?_
   refine cq 11 [37] [B (!((c_1.Op==2)==(!(c_1.Name==([]:ae)))))] 130 ?_
   obtain⟨y4,hy4,hy41,hy42⟩:=bJ h
   have j4:∀u4,y4=.inr u4→Run (lE aN) 0 (eV aN (c_1,b9) r) (.code pA::.code nX::[]) (sT 78 [(1,I (aF (b9+1))),(2,.hp 1 0 [] 4 0 0),(63,B u4)] [⟨0,4,[ac c_1]⟩] 2):=by
    intro u4 hu
    replace h:=hy42 u4 hu
    refine sq h ?_ ?_<;>intro h
    ·refine cq 4 [4] [I (-1)] 18 ?_
     obtain rfl:=sI h
     exact rP [I (-1)]
    ·refine aq 1 ?_
     refine cq 5 [65] [.isl false (c_1.Parts.map ah)] 34 ?_
     refine oq 50 (I (len c_1.Parts)) rfl (eX rfl rfl rfl (fN rfl)) ?_
     refine cq 3 [67] [I (0)] 66 ?_
     obtain⟨y8,hy8,hy81,hy82⟩:=bJ h
     refine ep rfl ?_
     refine rf [1,65,66,67] [] (IJ aN c_1 b9 rfl ((aF (b9+1)),0) _ hy8 (fun r' e st hq=>by rw[hy81 r' e] at hq;exact hq) fun u8 hu=>?_)
     replace h:=hy82 u8 hu
     refine cq 5 [4] [I u8] 33 ?_
     obtain rfl:=sI h
     exact rP [I u8]
   have r4:∀r',y4=.inl r'→∀st,eV aN (c_1,b9) r' st→(eV aN (c_1,b9) r) st:=fun r' e st hq=>by rw[hy41 r' e] at hq;exact hq
   replace h:=hy4
   refine sp 37 h rfl ?_ ?_<;>intro h
   ·refine cq 27 [63] [B true] 546 ?_
    exact rf [1,2,63] [1] (j4 _ (ak h) :)
   ·refine cq 4 [41] [B (c_1.Op==2)] 194 ?_
    obtain⟨y9,hy9,hy91,hy92⟩:=bL h
    have j9:∀u9,y9=.inr u9→Run (lE aN) 0 (eV aN (c_1,b9) r) (.code pA::.code nX::[]) (sT 78 [(1,I (aF (b9+1))),(2,.hp 1 0 [] 4 0 0),(63,B u9)] [⟨0,4,[ac c_1]⟩] 2):=by
     intro u9 hu
     replace h:=hy92 u9 hu
     exact rf [1,2,63] [1] (j4 _ (ak h) :)
    have r9:∀r',y9=.inl r'→∀st,eV aN (c_1,b9) r' st→(eV aN (c_1,b9) r) st:=fun r' e st hq=>r4 r' (hy91 r' e) st hq
    replace h:=hy9
    refine sp 41 h rfl ?_ ?_<;>intro h
    ·refine cq 2 [43] [str c_1.Name] 226 ?_
     obtain⟨r10,hr10,h⟩:=bS h
     refine oy 242 (B r10) rfl (cP (OD hr10)) ?_
     refine cq 4 [48] [B (!r10)] 306 ?_
     obtain⟨y11,hy11,hy111,hy112⟩:=bL h
     have j11:∀u11,y11=.inr u11→Run (lE aN) 0 (eV aN (c_1,b9) r) (.code pA::.code nX::[]) (sT 78 [(1,I (aF (b9+1))),(2,.hp 1 0 [] 4 0 0),(63,B u11)] [⟨0,4,[ac c_1]⟩] 2):=by
      intro u11 hu
      replace h:=hy112 u11 hu
      exact rf [1,2,63] [1] (j9 _ (ak h) :)
     have r11:∀r',y11=.inl r'→∀st,eV aN (c_1,b9) r' st→(eV aN (c_1,b9) r) st:=fun r' e st hq=>r9 r' (hy111 r' e) st hq
     replace h:=hy11
     refine sp 48 h rfl ?_ ?_<;>intro h
     ·refine cq 16 [63] [B true] 546 ?_
      exact rf [1,2,63] [1] (j11 _ (ak h) :)
     ·refine cq 4 [52] [B (c_1.Op != 3)] 370 ?_
      obtain⟨y12,hy12,hy121,hy122⟩:=bL h
      have j12:∀u12,y12=.inr u12→Run (lE aN) 0 (eV aN (c_1,b9) r) (.code pA::.code nX::[]) (sT 78 [(1,I (aF (b9+1))),(2,.hp 1 0 [] 4 0 0),(63,B u12)] [⟨0,4,[ac c_1]⟩] 2):=by
       intro u12 hu
       replace h:=hy122 u12 hu
       exact rf [1,2,63] [1] (j11 _ (ak h) :)
      have r12:∀r',y12=.inl r'→∀st,eV aN (c_1,b9) r' st→(eV aN (c_1,b9) r) st:=fun r' e st hq=>r11 r' (hy121 r' e) st hq
      replace h:=hy12
      refine sp 52 h rfl ?_ ?_<;>intro h
      ·refine cq 6 [58] [B (c_1.Day != 0)] 466 ?_
       obtain⟨y13,hy13,hy131,hy132⟩:=bL h
       have j13:∀u13,y13=.inr u13→Run (lE aN) 0 (eV aN (c_1,b9) r) (.code pA::.code nX::[]) (sT 78 [(1,I (aF (b9+1))),(2,.hp 1 0 [] 4 0 0),(63,B u13)] [⟨0,4,[ac c_1]⟩] 2):=by
        intro u13 hu
        replace h:=hy132 u13 hu
        exact rf [1,2,63] [1] (j12 _ (ak h) :)
       have r13:∀r',y13=.inl r'→∀st,eV aN (c_1,b9) r' st→(eV aN (c_1,b9) r) st:=fun r' e st hq=>r12 r' (hy131 r' e) st hq
       replace h:=hy13
       refine sp 58 h rfl ?_ ?_<;>intro h
       ·refine cq 6 [63] [B true] 546 ?_
        exact rf [1,2,63] [1] (j13 _ (ak h) :)
       ·refine cq 2 [60] [I c_1.Day] 498 ?_
        obtain⟨r14,hr14,h⟩:=bS h
        refine oy 514 (B r14) rfl (cP (Ba hr14)) ?_
        refine cq 3 [63] [B (!r14)] 546 ?_
        exact rf [1,2,63] [1] (j13 _ (ak h) :)
      ·refine cq 8 [58,60] [B false,I c_1.Day] 498 ?_
       obtain⟨r15,hr15,h⟩:=bS h
       refine oy 514 (B r15) rfl (cP (Ba hr15)) ?_
       refine cq 3 [63] [B (!r15)] 546 ?_
       exact rf [1,2,63] [1] (j12 _ (ak h) :)
    ·refine cq 11 [48,52] [B false,B (c_1.Op != 3)] 370 ?_
     obtain⟨y16,hy16,hy161,hy162⟩:=bL h
     have j16:∀u16,y16=.inr u16→Run (lE aN) 0 (eV aN (c_1,b9) r) (.code pA::.code nX::[]) (sT 78 [(1,I (aF (b9+1))),(2,.hp 1 0 [] 4 0 0),(63,B u16)] [⟨0,4,[ac c_1]⟩] 2):=by
      intro u16 hu
      replace h:=hy162 u16 hu
      exact rf [1,2,63] [1] (j9 _ (ak h) :)
     have r16:∀r',y16=.inl r'→∀st,eV aN (c_1,b9) r' st→(eV aN (c_1,b9) r) st:=fun r' e st hq=>r9 r' (hy161 r' e) st hq
     replace h:=hy16
     refine sp 52 h rfl ?_ ?_<;>intro h
     ·refine cq 6 [58] [B (c_1.Day != 0)] 466 ?_
      obtain⟨y17,hy17,hy171,hy172⟩:=bL h
      have j17:∀u17,y17=.inr u17→Run (lE aN) 0 (eV aN (c_1,b9) r) (.code pA::.code nX::[]) (sT 78 [(1,I (aF (b9+1))),(2,.hp 1 0 [] 4 0 0),(63,B u17)] [⟨0,4,[ac c_1]⟩] 2):=by
       intro u17 hu
       replace h:=hy172 u17 hu
       exact rf [1,2,63] [1] (j16 _ (ak h) :)
      have r17:∀r',y17=.inl r'→∀st,eV aN (c_1,b9) r' st→(eV aN (c_1,b9) r) st:=fun r' e st hq=>r16 r' (hy171 r' e) st hq
      replace h:=hy17
      refine sp 58 h rfl ?_ ?_<;>intro h
      ·refine cq 6 [63] [B true] 546 ?_
       exact rf [1,2,63] [1] (j17 _ (ak h) :)
      ·refine cq 2 [60] [I c_1.Day] 498 ?_
       obtain⟨r18,hr18,h⟩:=bS h
       refine oy 514 (B r18) rfl (cP (Ba hr18)) ?_
       refine cq 3 [63] [B (!r18)] 546 ?_
       exact rf [1,2,63] [1] (j17 _ (ak h) :)
     ·refine cq 8 [58,60] [B false,I c_1.Day] 498 ?_
      obtain⟨r19,hr19,h⟩:=bS h
      refine oy 514 (B r19) rfl (cP (Ba hr19)) ?_
      refine cq 3 [63] [B (!r19)] 546 ?_
      exact rf [1,2,63] [1] (j16 _ (ak h) :)
 have r3:∀r',y3=.inl r'→∀st,eV aN (c_1,b9) r' st→(eV aN (c_1,b9) r) st:=fun r' e st hq=>by rw[hy31 r' e] at hq;exact hq
 replace h:=hy3
 refine sp 13 h rfl ?_ ?_<;>intro h
 ·refine dk 16 [29,28,27,26,25,24,23,22,21,20,19,18,17,16,15,14] [B true,.und,.und,.und,.und,.und,.und,.und,.und,.und,B true,B true,.und,.und,.und,.und] ?_
  refine de 417 rfl rfl ?_
  exact rf [1,2,29] [1] (j3 _ (ak h) :)
 ·refine dy [1] [] (.hp 1 0 [] 4 0 0) rfl (bn rfl rfl rfl) ?_
  refine dy [1] [] (I c_1.Op) rfl (dD rfl rfl) ?_
  obtain⟨r20,hr20,h⟩:=bS h
  refine dy [] [] (B r20) rfl (cP (lq hr20)) ?_ (fb rfl rfl rfl rfl (bd (bx rfl) (bd (bx rfl) (bd (bx rfl) bE))) (lq hr20) (.inr rfl) rfl)
  refine dk 3 [19,18,17] [B (!r20),B (!r20),B (!r20)] ?_
  obtain⟨y21,hy21,hy211,hy212⟩:=bL h
  have j21:∀u21,y21=.inr u21→Run (lE aN) 0 (eV aN (c_1,b9) r) (.code (cR (cL (cR (cR (cR sd)))))::.code (cR (cR (cR (cR sd))))::[]) (sT 78 [(1,I (aF (b9+1))),(2,.hp 1 0 [] 4 0 0),(29,B u21)] [⟨0,4,[ac c_1]⟩] 2):=by
   intro u21 hu
   replace h:=hy212 u21 hu
   exact rf [1,2,29] [1] (j3 _ (ak h) :)
  have r21:∀r',y21=.inl r'→∀st,eV aN (c_1,b9) r' st→(eV aN (c_1,b9) r) st:=fun r' e st hq=>r3 r' (hy211 r' e) st hq
  replace h:=hy21
  refine sp 19 h rfl ?_ ?_<;>intro h
  ·refine dk 10 [29,28,27,26,25,24,23,22,21,20] [B true,.und,.und,.und,.und,.und,.und,.und,.und,.und] ?_
   refine de 417 rfl rfl ?_
   exact rf [1,2,29] [1] (j21 _ (ak h) :)
  ·refine dy [1] [] (.hp 1 0 [] 4 0 3) rfl (bn rfl rfl rfl) ?_
   refine dy [1] [] (.isl false (c_1.Parts.map ah)) rfl (dD rfl rfl) ?_
   refine dy [] [] (I (len c_1.Parts)) rfl (eX rfl rfl rfl (fN rfl)) ?_
   refine dk 1 [23] [.hs 81 0 [] 1 0 7] ?_
   refine dy [1] [] (.hp 1 0 [] 4 0 0) rfl (bn rfl rfl rfl) ?_
   refine dy [1] [] (I c_1.Op) rfl (dD rfl rfl) ?_
   obtain⟨e22,he22,h⟩:=bS h
   refine dy [81] [] (.hp 81 0 [] 1 (0+Int.toNat c_1.Op) 0) rfl (aJ rfl rfl rfl (iO (f:=I) (xs:=[(-1),0,0,0,1,2,2]) rfl rfl rfl he22)) ?_
   refine dy [81] [] (I e22) rfl (dD rfl (lO (path:=[]) rfl rfl rfl aB (nq (f:=I) (xs:=[(-1),0,0,0,1,2,2]) he22) rfl rfl rfl)) ?_
   refine dk 2 [29,28] [B ((len c_1.Parts) != e22),B ((len c_1.Parts) != e22)] ?_
   refine de 417 rfl rfl ?_
   exact rf [1,2,29] [1] (j21 _ (ak h) :)
theorem Ns {G:cW}[TabG Tryz.prog G]:cX G 36 Cr:=gq fun aN g_Ffl=>gT 2 0 (aQ g_Ffl (aQ Fx (aQ FI (aQ pX ch)))) dF Tryz.func36 (fun a r h=>PC aN a.1 a.2 r h)
def Eg:Condition→List V:=oA ac
def Ei (r:Bool):V×List V:=(B r,[])
noncomputable def pe :=bu [false] Eg Ei fun x=>wj x
theorem Eh {c_1:Condition}{r}(h:wj c_1=some r):pe.F (Eg c_1)=some (Ei r):=ba (bb bc) h
noncomputable def SI :=aY Tryz.f16
noncomputable def OC :=dE [(36,Cr)]
def SH (x:Condition)(r:Bool):St→Prop:=QF OC Tryz.f16 [false] (Eg x) (Ei r)
theorem Pm (c_1:Condition)(r:Bool)(h:wj c_1=some r):b7 OC Tryz.f16 [false] 0 (Eg c_1) (Ei r):=by
 show Run _ _ (SH c_1 r) [.code SI] _
 refine rI 6 [(0,ac c_1)] [] 1 ?_
 unfold wj at h
 refine cq 8 [3] [ac c_1] 49 ?_
 obtain⟨r2,hr2,h⟩:=bS h
 refine oq 65 (I r2) rfl (cP (SR hr2)) ?_
 refine cq 3 [2] [B (decide (r2>0))] 97 ?_
 obtain rfl:=sI h
 exact rP [B (decide (r2>0))]
theorem rQ {G:cW}[TabG Tryz.prog G]:cX G 16 pe:=gT 1 0 (aQ Ns ch) dF Tryz.func16 (fun a r h=>Pm a r h)
def EP:(List ae)→List V:=oA (oI str)
def ER (r:Bool):V×List V:=(B r,[])
noncomputable def Cy :=bu [false] EP ER fun x=>FJ x
theorem S2 {bB:List ae}{r}(h:FJ bB=some r):Cy.F (EP bB)=some (ER r):=ba (bb (fK bU)) h
noncomputable def OT :=aY Tryz.f17
noncomputable abbrev rd :=cL (cL (cR (cL (cR OT))))
noncomputable abbrev Ld :=cR (cR (cL (cL (cR (cR rd)))))
noncomputable def Bb :=dE [(37,vA)]
def EQ (x:(List ae))(r:Bool):St→Prop:=QF Bb Tryz.f17 [false] (EP x) (ER r)
theorem IW (bB:List ae):eW Bb 0 (EQ bB) rd 0 (mq bB) (fun u=>(sT 32 [(0,.isl false (bB.map str))] [] 1)) fun x2=>(sT 32 [(0,.isl false (bB.map str)),(5,.isl false (bB.map str)),(6,I (len bB)),(7,I x2)] [] 1):=i7 (Bc bB) fun {Q K} hK self ih x2 y h hr hn=>by
 unfold lW at h
 refine cq 5 [8] [B (decide (x2<(len bB)))] 17 ?_
 refine sq h ?_ ?_<;>intro h
 ·refine aq 1 ?_
  refine cq 5 [9] [I x2] 33 ?_
  obtain⟨e3,he3,h⟩:=bS h
  refine oq 49 (.iptr (str e3) 0) rfl (aJ rfl rfl rfl (cC rfl rfl rfl rfl he3)) ?_
  refine cq 7 [3,4,12] [I x2,str e3,str e3] 113 ?_
  obtain⟨r4,hr4,h⟩:=bS h
  refine oq 129 (B r4) rfl (cP (OD hr4)) ?_
  refine cq 2 [15] [B (!r4)] 161 ?_
  obtain⟨y5,hy5,hy51,hy52⟩:=bL h
  have j5:∀u5,y5=.inr u5→Run Bb 0 Q (.code Ld::.blk 1::.code (cR (cR (cR rd)))::.lp rd::.blk 0::K) (sT 32 [(0,.isl false (bB.map str)),(5,.isl false (bB.map str)),(6,I (len bB)),(7,I x2),(27,B u5)] [] 1):=by
   intro u5 hu
   replace h:=hy52 u5 hu
   refine sq h ?_ ?_<;>intro h
   ·refine cq 4 [2] [B false] 17 ?_
    exact bH rfl (hr _ (ak h) _ (qp [B false]))
   ·refine aq 1 ?_
    refine cq 5 [7] [I (aF (x2+1))] 33 ?_
    refine fF ?_
    exact rf [0,5,6,7] [] (ih _ _ h hr hn :)
  have r5:∀r',y5=.inl r'→∀st,EQ bB r' st→Q st:=fun r' e st hq=>hr r' (hy51 r' e) st hq
  replace h:=hy5
  refine sp 15 h rfl ?_ ?_<;>intro h
  ·refine cq 13 [27] [B true] 353 ?_
   exact rf [0,5,6,7,27] [] (j5 _ (ak h) :)
  ·refine cq 3 [18] [B (decide (x2>0))] 209 ?_
   obtain⟨y6,hy6,hy61,hy62⟩:=bL h
   have j6:∀u6,y6=.inr u6→Run Bb 0 Q (.code Ld::.blk 1::.code (cR (cR (cR rd)))::.lp rd::.blk 0::K) (sT 32 [(0,.isl false (bB.map str)),(5,.isl false (bB.map str)),(6,I (len bB)),(7,I x2),(27,B u6)] [] 1):=by
    intro u6 hu
    replace h:=hy62 u6 hu
    exact rf [0,5,6,7,27] [] (j5 _ (ak h) :)
   have r6:∀r',y6=.inl r'→∀st,EQ bB r' st→Q st:=fun r' e st hq=>r5 r' (hy61 r' e) st hq
   replace h:=hy6
   refine sp 18 h rfl ?_ ?_<;>intro h
   ·refine cq 4 [19,20,22] [str e3,.isl false (bB.map str),I (aF (x2 - 1))] 273 ?_
    obtain⟨e7,he7,h⟩:=bS h
    refine oy 289 (.iptr (str e7) 0) rfl (aJ rfl rfl rfl (cC rfl rfl rfl rfl he7)) ?_
    refine cq 5 [27] [B (Op.bytesLess e3 e7||e3==e7)] 353 ?_
    exact rf [0,5,6,7,27] [] (j6 _ (ak h) :)
   ·refine cq 10 [27] [B false] 353 ?_
    exact rf [0,5,6,7,27] [] (j6 _ (ak h) :)
 ·refine aq 1 ?_
  exact rf [0] [] (hn _ (ak h) :) (hk:=hK)
theorem PM (bB:List ae)(r:Bool)(h:FJ bB=some r):b7 Bb Tryz.f17 [false] 0 (EP bB) (ER r):=by
 show Run _ _ (EQ bB r) [.code OT] _
 refine rI 32 [(0,.isl false (bB.map str))] [] 1 ?_
 unfold FJ at h
 refine cq 8 [5] [.isl false (bB.map str)] 33 ?_
 refine oq 49 (I (len bB)) rfl (eX rfl rfl rfl (fN rfl)) ?_
 refine cq 3 [7] [I (0)] 65 ?_
 obtain⟨y8,hy8,hy81,hy82⟩:=bJ h
 refine ep rfl ?_
 refine rf [0,5,6,7] [] (IW bB rfl 0 _ hy8 (fun r' e st hq=>by rw[hy81 r' e] at hq;exact hq) fun u8 hu=>?_)
 replace h:=hy82 u8 hu
 refine cq 3 [29] [.isl false (bB.map str)] 17 ?_
 refine oq 33 (I (len bB)) rfl (eX rfl rfl rfl (fN rfl)) ?_
 refine cq 3 [2] [B (decide ((len bB)≤16))] 65 ?_
 obtain rfl:=sI h
 exact rP [B (decide ((len bB)≤16))]
theorem Nx {G:cW}[TabG Tryz.prog G]:cX G 17 Cy:=gT 1 0 (aQ Fx ch) dF Tryz.func17 (fun a r h=>PM a r h)
def A7:(Condition×(List ae)×Int)→List V:=cA ac (cA (oI str) (oA I))
def A8 (r:Bool):V×List V:=(B r,[])
noncomputable def xY (cr:(Condition×(List ae)×Int)→Option Bool):Ent:=bu [false,false,false] A7 A8 cr
theorem rc (cr:(Condition×(List ae)×Int)→Option Bool){x}{r}(h:cr x=some r):(xY cr).F (A7 x)=some (A8 r):=ba (cI bc (cI (fK bU) (bb d6))) h
noncomputable def Cw :=xY (aE lG)
theorem SX {c_1:Condition}{aw:List ae}{aL:Int}{r}(h:FH c_1 aw aL=some r):Cw.F (A7 (c_1,aw,aL))=some (A8 r):=rc (aE lG) h
noncomputable def A9 :=aY Tryz.f19
noncomputable def EK (cr:(Condition×(List ae)×Int)→Option Bool):Env:=dE [(39,rL),(19,(xY cr))]
def sh (cr:(Condition×(List ae)×Int)→Option Bool)(x:Condition×(List ae)×Int)(r:Bool):St→Prop:=QF (EK cr) Tryz.f19 [false,false,false] (A7 x) (A8 r)
theorem PJ (cr:(Condition×(List ae)×Int)→Option Bool)(c_1:Condition)(aw:List ae)(aL:Int)(r:Bool)(h:sf cr c_1 aw aL=some r):b7 (EK cr) Tryz.f19 [false,false,false] 0 (A7 (c_1,aw,aL)) (A8 r):=by
 show Run _ _ (sh cr (c_1,aw,aL) r) [.code A9] _
 refine rI 67 [(0,ac c_1),(1,.isl false (aw.map str)),(2,I aL)] [] 1 ?_
 unfold sf at h
 refine ck 17 [3,8,9] [] [1] [] [.hp 1 0 [] 4 0 0,I c_1.Op,B (c_1.Op==2)] [some ⟨0,4,[ac c_1]⟩] 97 (by kernel_rfl) ?_
 refine sq h ?_ ?_<;>intro h
 ·refine cq 5 [11,13] [.isl false (aw.map str),str c_1.Name] 145 ?_
  obtain⟨r4,hr4,h⟩:=bS h
  refine oq 161 (B r4) rfl (cP (J5 hr4)) ?_
  refine cq 2 [6] [B r4] 177 ?_
  obtain rfl:=sI h
  exact rP [B r4]
 ·refine cq 5 [15] [B (c_1.Op==3)] 129 ?_
  refine sq h ?_ ?_<;>intro h
  ·refine cq 8 [6] [B (decide (aL≥c_1.Day))] 209 ?_
   obtain rfl:=sI h
   exact rP [B (decide (aL≥c_1.Day))]
  ·refine cq 5 [21] [B (c_1.Op==4)] 161 ?_
   refine sq h ?_ ?_<;>intro h
   ·refine cq 4 [24] [.isl false (c_1.Parts.map ah)] 193 ?_
    obtain⟨e5,he5,h⟩:=bS h
    refine oq 209 (.iptr (ac e5) 0) rfl (aJ rfl rfl rfl (cC rfl rfl (aC e5) rfl he5)) ?_
    refine cq 3 [26,27,28] [ac e5,.isl false (aw.map str),I aL] 257 ?_
    obtain⟨r6,hr6,h⟩:=bS h
    refine oq 273 (B r6) rfl (aH rfl rfl (aP rfl rfl rfl (bd (bx rfl) (bd (bx rfl) (bd (bx rfl) bE))) (rc cr hr6) (.inr rfl) bm rfl rfl rfl)) ?_
    refine cq 3 [6] [B (!r6)] 305 ?_
    obtain rfl:=sI h
    exact rP [B (!r6)]
   ·refine cq 5 [31] [B (c_1.Op==5)] 193 ?_
    refine sq h ?_ ?_<;>intro h
    ·refine cq 4 [34] [.isl false (c_1.Parts.map ah)] 225 ?_
     obtain⟨e7,he7,h⟩:=bS h
     refine oq 241 (.iptr (ac e7) 0) rfl (aJ rfl rfl rfl (cC rfl rfl (aC e7) rfl he7)) ?_
     refine cq 3 [36,37,38] [ac e7,.isl false (aw.map str),I aL] 289 ?_
     obtain⟨r8,hr8,h⟩:=bS h
     refine oq 305 (B r8) rfl (aH rfl rfl (aP rfl rfl rfl (bd (bx rfl) (bd (bx rfl) (bd (bx rfl) bE))) (rc cr hr8) (.inr rfl) bm rfl rfl rfl)) ?_
     refine cq 1 [40] [B r8] 321 ?_
     obtain⟨y9,hy9,hy91,hy92⟩:=bJ h
     have j9:∀u9,y9=.inr u9→Run (EK cr) 0 (sh cr (c_1,aw,aL) r) (.code (cR (cL (cR (cR (cR (cR (cR (cR (cR (cL (cR (cL (cR A9)))))))))))))::.blk 0::.code (cR (cR A9))::[]) (sT 67 [(6,B u9)] [] 1):=by
      intro u9 hu
      replace h:=hy92 u9 hu
      obtain rfl:=sI h
      exact rP [B u9]
     have r9:∀r',y9=.inl r'→∀st,sh cr (c_1,aw,aL) r' st→(sh cr (c_1,aw,aL) r) st:=fun r' e st hq=>by rw[hy91 r' e] at hq;exact hq
     replace h:=hy9
     refine sp 40 h rfl ?_ ?_<;>intro h
     ·refine cq 2 [42] [.isl false (c_1.Parts.map ah)] 353 ?_
      obtain⟨e10,he10,h⟩:=bS h
      refine oy 369 (.iptr (ac e10) 0) rfl (aJ rfl rfl rfl (cC rfl rfl (aC e10) rfl he10)) ?_
      refine cq 3 [44,45,46] [ac e10,.isl false (aw.map str),I aL] 417 ?_
      obtain⟨r11,hr11,h⟩:=bS h
      refine oy 433 (B r11) rfl (aH rfl rfl (aP rfl rfl rfl (bd (bx rfl) (bd (bx rfl) (bd (bx rfl) bE))) (rc cr hr11) (.inr rfl) bm rfl rfl rfl)) ?_
      refine cq 3 [6] [B r11] 465 ?_
      exact rf [6] [] (j9 _ (ak h) :)
     ·refine cq 10 [6] [B false] 465 ?_
      exact rf [6] [] (j9 _ (ak h) :)
    ·refine cq 5 [49] [B (c_1.Op==6)] 225 ?_
     refine sq h ?_ ?_<;>intro h
     ·refine cq 4 [52] [.isl false (c_1.Parts.map ah)] 257 ?_
      obtain⟨e12,he12,h⟩:=bS h
      refine oq 273 (.iptr (ac e12) 0) rfl (aJ rfl rfl rfl (cC rfl rfl (aC e12) rfl he12)) ?_
      refine cq 3 [54,55,56] [ac e12,.isl false (aw.map str),I aL] 321 ?_
      obtain⟨r13,hr13,h⟩:=bS h
      refine oq 337 (B r13) rfl (aH rfl rfl (aP rfl rfl rfl (bd (bx rfl) (bd (bx rfl) (bd (bx rfl) bE))) (rc cr hr13) (.inr rfl) bm rfl rfl rfl)) ?_
      refine cq 1 [58] [B r13] 353 ?_
      obtain⟨y14,hy14,hy141,hy142⟩:=bJ h
      have j14:∀u14,y14=.inr u14→Run (EK cr) 0 (sh cr (c_1,aw,aL) r) (.code (cR (cL (cR (cR (cR (cR (cR (cR (cR (cR (cR (cL (cR (cL (cR A9)))))))))))))))::.blk 0::.code (cR (cR A9))::[]) (sT 67 [(6,B u14)] [] 1):=by
       intro u14 hu
       replace h:=hy142 u14 hu
       obtain rfl:=sI h
       exact rP [B u14]
      have r14:∀r',y14=.inl r'→∀st,sh cr (c_1,aw,aL) r' st→(sh cr (c_1,aw,aL) r) st:=fun r' e st hq=>by rw[hy141 r' e] at hq;exact hq
      replace h:=hy14
      refine sp 58 h rfl ?_ ?_<;>intro h
      ·refine cq 10 [6] [B true] 497 ?_
       exact rf [6] [] (j14 _ (ak h) :)
      ·refine cq 2 [60] [.isl false (c_1.Parts.map ah)] 385 ?_
       obtain⟨e15,he15,h⟩:=bS h
       refine oy 401 (.iptr (ac e15) 0) rfl (aJ rfl rfl rfl (cC rfl rfl (aC e15) rfl he15)) ?_
       refine cq 3 [62,63,64] [ac e15,.isl false (aw.map str),I aL] 449 ?_
       obtain⟨r16,hr16,h⟩:=bS h
       refine oy 465 (B r16) rfl (aH rfl rfl (aP rfl rfl rfl (bd (bx rfl) (bd (bx rfl) (bd (bx rfl) bE))) (rc cr hr16) (.inr rfl) bm rfl rfl rfl)) ?_
       refine cq 3 [6] [B r16] 497 ?_
       exact rf [6] [] (j14 _ (ak h) :)
     ·refine aq 1 ?_
      refine cq 5 [6] [B true] 241 ?_
      obtain rfl:=sI h
      exact rP [B true]
theorem Nv {G:cW}[TabG Tryz.prog G]:cX G 19 Cw:=gq fun cr g_Ffr=>gT 3 0 (aQ C6 (aQ g_Ffr ch)) dF Tryz.func19 (fun a r h=>PJ cr a.1 a.2.1 a.2.2 r h)
def Eb:(Condition×(List ae)×Int)→List V:=cA ac (cA (oI str) (oA I))
def Ed (r:Bool×Bool):V×List V:=(.tup [B r.1,B r.2],[])
noncomputable def Ce :=bu [false,false,false] Eb Ed fun x=>C5 x.1 x.2.1 x.2.2
theorem OA {c_1:Condition}{aw:List ae}{aL:Int}{r}(h:C5 c_1 aw aL=some r):Ce.F (Eb (c_1,aw,aL))=some (Ed r):=ba (cI bc (cI (fK bU) (bb d6))) h
noncomputable def yJ :=aY Tryz.f6
noncomputable def Ec :=dE [(16,pe),(19,Cw),(17,Cy),(18,vI)]
def rK (x:Condition×(List ae)×Int)(r:Bool×Bool):St→Prop:=QF Ec Tryz.f6 [false,false,false] (Eb x) (Ed r)
theorem Pg (c_1:Condition)(aw:List ae)(aL:Int)(r:Bool×Bool)(h:C5 c_1 aw aL=some r):b7 Ec Tryz.f6 [false,false,false] 0 (Eb (c_1,aw,aL)) (Ed r):=by
 show Run _ _ (rK (c_1,aw,aL) r) [.code yJ] _
 refine rI 25 [(0,ac c_1),(1,.isl false (aw.map str)),(2,I aL)] [] 1 ?_
 unfold C5 at h
 refine ck 10 [3,8] [] [1] [] [.hp 1 0 [] 4 0 0,ac c_1] [some ⟨0,4,[ac c_1]⟩] 65 (by kernel_rfl) ?_
 obtain⟨r4,hr4,h⟩:=bS h
 refine oq 81 (B r4) rfl (cP (Eh hr4)) ?_
 refine cq 2 [11] [B (!r4)] 113 ?_
 obtain⟨y5,hy5,hy51,hy52⟩:=bJ h
 have j5:∀u5,y5=.inr u5→Run Ec 0 (rK (c_1,aw,aL) r) (.code (cR (cL (cR yJ)))::.code (cR (cR yJ))::[]) (sT 25 [(1,.isl false (aw.map str)),(2,I aL),(3,.hp 1 0 [] 4 0 0),(20,B u5)] [⟨0,4,[ac c_1]⟩] 2):=by
  intro u5 hu
  replace h:=hy52 u5 hu
  refine sq h ?_ ?_<;>intro h
  ·refine cq 5 [6,7] [B false,B false] 34 ?_
   obtain rfl:=sI h
   exact rP [B false,B false]
  ·refine aq 1 ?_
   refine cq 5 [21,22,23] [ac c_1,.isl false (aw.map str),I aL] 50 ?_
   obtain⟨r6,hr6,h⟩:=bS h
   refine oq 66 (B r6) rfl (cP (SX hr6)) ?_
   refine cq 3 [6,7] [B r6,B true] 98 ?_
   obtain rfl:=sI h
   exact rP [B r6,B true]
 have r5:∀r',y5=.inl r'→∀st,rK (c_1,aw,aL) r' st→(rK (c_1,aw,aL) r) st:=fun r' e st hq=>by rw[hy51 r' e] at hq;exact hq
 replace h:=hy5
 refine sp 11 h rfl ?_ ?_<;>intro h
 ·refine cq 10 [20] [B true] 257 ?_
  exact rf [1,2,3,20] [1] (j5 _ (ak h) :)
 ·refine cq 1 [12] [.isl false (aw.map str)] 129 ?_
  obtain⟨r7,hr7,h⟩:=bS h
  refine oy 145 (B r7) rfl (cP (S2 hr7)) ?_
  refine cq 3 [16] [B (!r7)] 193 ?_
  obtain⟨y8,hy8,hy81,hy82⟩:=bL h
  have j8:∀u8,y8=.inr u8→Run Ec 0 (rK (c_1,aw,aL) r) (.code (cR (cL (cR yJ)))::.code (cR (cR yJ))::[]) (sT 25 [(1,.isl false (aw.map str)),(2,I aL),(3,.hp 1 0 [] 4 0 0),(20,B u8)] [⟨0,4,[ac c_1]⟩] 2):=by
   intro u8 hu
   replace h:=hy82 u8 hu
   exact rf [1,2,3,20] [1] (j5 _ (ak h) :)
  have r8:∀r',y8=.inl r'→∀st,rK (c_1,aw,aL) r' st→(rK (c_1,aw,aL) r) st:=fun r' e st hq=>r5 r' (hy81 r' e) st hq
  replace h:=hy8
  refine sp 16 h rfl ?_ ?_<;>intro h
  ·refine cq 5 [20] [B true] 257 ?_
   exact rf [1,2,3,20] [1] (j8 _ (ak h) :)
  ·refine cq 1 [17] [I aL] 209 ?_
   obtain⟨r9,hr9,h⟩:=bS h
   refine oy 225 (B r9) rfl (cP (Ba hr9)) ?_
   refine cq 3 [20] [B (!r9)] 257 ?_
   exact rf [1,2,3,20] [1] (j8 _ (ak h) :)
theorem Mx {G:cW}[TabG Tryz.prog G]:cX G 6 Ce:=gT 3 0 (aQ rQ (aQ Nv (aQ Nx (aQ FI ch)))) dF Tryz.func6 (fun a r h=>Pg a.1 a.2.1 a.2.2 r h)
def Bi:(Condition×Condition)→List V:=cA ac (oA ac)
def Bk (r:Bool):V×List V:=(B r,[])
noncomputable def si (aR:(Condition×Condition)→Option Bool):Ent:=bu [false,false] Bi Bk aR
theorem Lh (aR:(Condition×Condition)→Option Bool){x}{r}(h:aR x=some r):(si aR).F (Bi x)=some (Bk r):=ba (cI bc (bb bc)) h
def yX:((List Condition)×(List Condition)×Unit)→List V:=cA (oI ah) (cA (oI ah) (oA (fun x:Unit=>(.fn 42 []:V))))
def yY (r:Bool):V×List V:=(B r,[])
noncomputable def xe (aR:(Condition×Condition)→Option Bool):Ent:=bu [false,false,false] yX yY fun x=>xd aR x.1 x.2.1 x.2.2
theorem QZ (aR:(Condition×Condition)→Option Bool){s_1:List Condition}{s_2:List Condition}{im:Unit}{r}(h:xd aR s_1 s_2 im=some r):(xe aR).F (yX (s_1,s_2,im))=some (yY r):=ba (cI (fK iL) (cI (fK iL) (bb (P9 )))) h
noncomputable def J7 :=aY Tryz.f57
noncomputable def Fe (aR:(Condition×Condition)→Option Bool):Env:=dE [(42,(si aR))]
def J6 (aR:(Condition×Condition)→Option Bool)(x:(List Condition)×(List Condition)×Unit)(r:Bool):St→Prop:=QF (Fe aR) Tryz.f57 [false,false,false] (yX x) (yY r)
theorem GV (aR:(Condition×Condition)→Option Bool)(s_1:List Condition)(s_2:List Condition)(im:Unit):eW (Fe aR) 0 (J6 aR (s_1,s_2,im)) (cL (cL (cR (cL (cR (cR J7)))))) 0 (pb aR s_1 s_2 im) (fun u=>(sT 32 [] [] 1)) fun x4=>(sT 32 [(1,.isl false (s_2.map ah)),(2,.fn 42 []),(15,.isl false (s_1.map ah)),(16,I (len s_1)),(17,I x4)] [] 1):=i7 (wd aR s_1 s_2 im) fun {Q K} hK self ih x4 y h hr hn=>by
 unfold ko at h
 refine cq 5 [18] [B (decide (x4<(len s_1)))] 17 ?_
 refine sq h ?_ ?_<;>intro h
 ·refine aq 1 ?_
  refine cq 5 [19] [I x4] 33 ?_
  obtain⟨e5,he5,h⟩:=bS h
  refine oq 49 (.iptr (ac e5) 0) rfl (aJ rfl rfl rfl (cC rfl rfl (aC e5) rfl he5)) ?_
  refine ck 2 [8,21] [] [65] [] [.hp 65 0 [] 4 0 0,ac e5] [some ⟨0,4,[.agg [I (0),str ([]),I (0),.isl true []]]⟩] 81 (by kernel_rfl) ?_
  refine cG 65 [.agg [I (0),str ([]),I (0),.usl 4 (([]).map aa)]] rfl rfl (ao (dC (ao (.refl _) (ao (.refl _) (ao (.refl _) (ao (.nil _) bv))))) bv) ?_
  refine ck 7 [22,23] [] [65] [] [.isl false (s_2.map ah),I x4] [some ⟨2,4,[ac e5]⟩] 145 (by kernel_rfl) ?_
  obtain⟨e6,he6,h⟩:=bS h
  refine oq 161 (.iptr (ac e6) 0) rfl (aJ rfl rfl rfl (cC rfl rfl (aC e6) rfl he6)) ?_
  refine ck 2 [9,25] [] [177] [] [.hp 177 0 [] 4 0 0,ac e6] [some ⟨0,4,[.agg [I (0),str ([]),I (0),.isl true []]]⟩] 193 (by kernel_rfl) ?_
  refine cG 177 [.agg [I (0),str ([]),I (0),.usl 4 (([]).map aa)]] rfl rfl (ao (dC (ao (.refl _) (ao (.refl _) (ao (.refl _) (ao (.nil _) bv))))) bv) ?_
  refine ck 7 [26,27,28] [] [177] [] [.fn 42 [],ac e5,ac e6] [some ⟨2,4,[ac e6]⟩] 257 (by kernel_rfl) ?_
  obtain⟨r7,hr7,h⟩:=bS h
  refine oq 273 (B r7) rfl (aH rfl rfl (aP rfl rfl rfl (bd (bx rfl) (bd (bx rfl) bE)) (Lh aR hr7) (.inr rfl) bm rfl rfl rfl)) ?_
  refine cq 2 [30] [B (!r7)] 289 ?_
  refine sq h ?_ ?_<;>intro h
  ·refine cq 4 [6] [B false] 305 ?_
   exact bH rfl (hr _ (ak h) _ (qp [B false]))
  ·refine aq 1 ?_
   refine cq 5 [17] [I (aF (x4+1))] 321 ?_
   refine fF ?_
   exact rf [1,2,15,16,17] [] (ih _ _ h hr hn :)
 ·refine aq 1 ?_
  exact rf [] [] (hn _ (ak h) :) (hk:=hK)
theorem MH (aR:(Condition×Condition)→Option Bool)(s_1:List Condition)(s_2:List Condition)(im:Unit)(r:Bool)(h:xd aR s_1 s_2 im=some r):b7 (Fe aR) Tryz.f57 [false,false,false] 0 (yX (s_1,s_2,im)) (yY r):=by
 show Run _ _ (J6 aR (s_1,s_2,im) r) [.code J7] _
 refine rI 32 [(0,.isl false (s_1.map ah)),(1,.isl false (s_2.map ah)),(2,.fn 42 [])] [] 1 ?_
 unfold xd at h
 refine cq 8 [10] [.isl false (s_1.map ah)] 33 ?_
 refine oq 49 (I (len s_1)) rfl (eX rfl rfl rfl (fN rfl)) ?_
 refine cq 1 [12] [.isl false (s_2.map ah)] 65 ?_
 refine oq 81 (I (len s_2)) rfl (eX rfl rfl rfl (fN rfl)) ?_
 refine cq 2 [14] [B ((len s_1) != (len s_2))] 97 ?_
 refine sq h ?_ ?_<;>intro h
 ·refine cq 4 [6] [B false] 113 ?_
  obtain rfl:=sI h
  exact rP [B false]
 ·refine aq 1 ?_
  refine cq 4 [15] [.isl false (s_1.map ah)] 113 ?_
  refine oq 129 (I (len s_1)) rfl (eX rfl rfl rfl (fN rfl)) ?_
  refine cq 3 [17] [I (0)] 145 ?_
  obtain⟨y8,hy8,hy81,hy82⟩:=bJ h
  refine ep rfl ?_
  refine rf [1,2,15,16,17] [] (GV aR s_1 s_2 im rfl 0 _ hy8 (fun r' e st hq=>by rw[hy81 r' e] at hq;exact hq) fun u8 hu=>?_)
  replace h:=hy82 u8 hu
  refine cq 4 [6] [B true] 17 ?_
  obtain rfl:=sI h
  exact rP [B true]
theorem J8 {G:cW}[TabG Tryz.prog G](aR:(Condition×Condition)→Option Bool)(Jl:cX G 42 (si aR)):cX G 57 (xe aR):=gT 3 0 (aQ Jl ch) dF Tryz.func57 (fun a r h=>MH aR a.1 a.2.1 a.2.2 r h)
noncomputable def CC :=si (aE qa)
theorem OZ {a_1:Condition}{b_2:Condition}{r}(h:Lg a_1 b_2=some r):CC.F (Bi (a_1,b_2))=some (Bk r):=Lh (aE qa) h
noncomputable def EX :=aY Tryz.f42
noncomputable def Bj (aR:(Condition×Condition)→Option Bool):Env:=dE [(57,(xe aR))]
def nD (aR:(Condition×Condition)→Option Bool)(x:Condition×Condition)(r:Bool):St→Prop:=QF (Bj aR) Tryz.f42 [false,false] (Bi x) (Bk r)
theorem PS (aR:(Condition×Condition)→Option Bool)(a_1:Condition)(b_2:Condition)(r:Bool)(h:vL aR a_1 b_2=some r):b7 (Bj aR) Tryz.f42 [false,false] 0 (Bi (a_1,b_2)) (Bk r):=by
 show Run _ _ (nD aR (a_1,b_2) r) [.code EX] _
 refine rI 31 [(0,ac a_1),(1,ac b_2)] [] 1 ?_
 unfold vL at h
 refine ck 14 [2,3,10] [] [1,17] [] [.hp 1 0 [] 4 0 0,.hp 17 0 [] 4 0 0,B (a_1.Op==b_2.Op)] [some ⟨0,4,[ac a_1]⟩,some ⟨0,4,[ac b_2]⟩] 145 (by kernel_rfl) ?_
 obtain⟨y3,hy3,hy31,hy32⟩:=bJ h
 have j3:∀u3,y3=.inr u3→Run (Bj aR) 0 (nD aR (a_1,b_2) r) (.code (cR (cR EX))::[]) (sT 31 [(4,B u3)] [] 1):=by
  intro u3 hu
  replace h:=hy32 u3 hu
  obtain rfl:=sI h
  exact rP [B u3]
 have r3:∀r',y3=.inl r'→∀st,nD aR (a_1,b_2) r' st→(nD aR (a_1,b_2) r) st:=fun r' e st hq=>by rw[hy31 r' e] at hq;exact hq
 replace h:=hy3
 refine sp 10 h rfl ?_ ?_<;>intro h
 ·refine cq 7 [17] [B (a_1.Name==b_2.Name)] 257 ?_
  obtain⟨y4,hy4,hy41,hy42⟩:=bL h
  have j4:∀u4,y4=.inr u4→Run (Bj aR) 0 (nD aR (a_1,b_2) r) (.code (cR (cR EX))::[]) (sT 31 [(4,B u4)] [] 1):=by
   intro u4 hu
   replace h:=hy42 u4 hu
   exact rf [4] [] (j3 _ (ak h) :)
  have r4:∀r',y4=.inl r'→∀st,nD aR (a_1,b_2) r' st→(nD aR (a_1,b_2) r) st:=fun r' e st hq=>r3 r' (hy41 r' e) st hq
  replace h:=hy4
  refine sp 17 h rfl ?_ ?_<;>intro h
  ·refine cq 7 [24] [B (a_1.Day==b_2.Day)] 369 ?_
   obtain⟨y5,hy5,hy51,hy52⟩:=bL h
   have j5:∀u5,y5=.inr u5→Run (Bj aR) 0 (nD aR (a_1,b_2) r) (.code (cR (cR EX))::[]) (sT 31 [(4,B u5)] [] 1):=by
    intro u5 hu
    replace h:=hy52 u5 hu
    exact rf [4] [] (j4 _ (ak h) :)
   have r5:∀r',y5=.inl r'→∀st,nD aR (a_1,b_2) r' st→(nD aR (a_1,b_2) r) st:=fun r' e st hq=>r4 r' (hy51 r' e) st hq
   replace h:=hy5
   refine sp 24 h rfl ?_ ?_<;>intro h
   ·refine cq 4 [26,28] [.isl false (a_1.Parts.map ah),.isl false (b_2.Parts.map ah)] 433 ?_
    obtain⟨r6,hr6,h⟩:=bS h
    refine oy 449 (B r6) rfl (aH rfl rfl (aP rfl rfl rfl (bd (bx rfl) (bd (bx rfl) (bd (bx rfl) bE))) (QZ aR hr6) (.inr rfl) bm rfl rfl rfl)) ?_
    refine cq 3 [4] [B r6] 481 ?_
    exact rf [4] [] (j5 _ (ak h) :)
   ·refine cq 8 [4] [B false] 481 ?_
    exact rf [4] [] (j5 _ (ak h) :)
  ·refine cq 15 [4] [B false] 481 ?_
   exact rf [4] [] (j4 _ (ak h) :)
 ·refine cq 22 [4] [B false] 481 ?_
  exact rf [4] [] (j3 _ (ak h) :)
theorem NB {G:cW}[TabG Tryz.prog G]:cX G 42 CC:=gq fun aR Jl=>gT 2 0 (aQ (J8 aR Jl) ch) dF Tryz.func42 (fun a r h=>PS aR a.1 a.2 r h)
def EL:Condition→List V:=oA ac
def EM (r:Bool):V×List V:=(B r,[])
noncomputable def Cx :=bu [false] EL EM fun x=>Dp x
theorem IV {c_1:Condition}{r}(h:Dp c_1=some r):Cx.F (EL c_1)=some (EM r):=ba (bb bc) h
noncomputable def SZ :=aY Tryz.f40
noncomputable def OQ :=dE []
def SY (x:Condition)(r:Bool):St→Prop:=QF OQ Tryz.f40 [false] (EL x) (EM r)
theorem PK (c_1:Condition)(r:Bool)(h:Dp c_1=some r):b7 OQ Tryz.f40 [false] 0 (EL c_1) (EM r):=by
 show Run _ _ (SY c_1 r) [.code SZ] _
 refine rI 6 [(0,ac c_1)] [] 1 ?_
 unfold Dp at h
 refine cq 12 [2] [B (c_1.Op==1)] 97 ?_
 obtain rfl:=sI h
 exact rP [B (c_1.Op==1)]
theorem Nw {G:cW}[TabG Tryz.prog G]:cX G 40 Cx:=gT 1 0 ch dF Tryz.func40 (fun a r h=>PK a r h)
def ES:Condition→List V:=oA ac
def EU (r:Bool):V×List V:=(B r,[])
noncomputable def Cz :=bu [false] ES EU fun x=>Bd x
theorem IY {c_1:Condition}{r}(h:Bd c_1=some r):Cz.F (ES c_1)=some (EU r):=ba (bb bc) h
noncomputable def OU :=aY Tryz.f41
noncomputable def IX :=dE []
def ET (x:Condition)(r:Bool):St→Prop:=QF IX Tryz.f41 [false] (ES x) (EU r)
theorem PN (c_1:Condition)(r:Bool)(h:Bd c_1=some r):b7 IX Tryz.f41 [false] 0 (ES c_1) (EU r):=by
 show Run _ _ (ET c_1 r) [.code OU] _
 refine rI 14 [(0,ac c_1)] [] 1 ?_
 unfold Bd at h
 refine ck 11 [1,6] [] [1] [] [.hp 1 0 [] 4 0 0,B (c_1.Op==4)] [some ⟨0,4,[ac c_1]⟩] 97 (by kernel_rfl) ?_
 obtain⟨y2,hy2,hy21,hy22⟩:=bJ h
 have j2:∀u2,y2=.inr u2→Run IX 0 (ET c_1 r) (.code (cR (cR OU))::[]) (sT 14 [(2,B u2)] [] 1):=by
  intro u2 hu
  replace h:=hy22 u2 hu
  obtain rfl:=sI h
  exact rP [B u2]
 have r2:∀r',y2=.inl r'→∀st,ET c_1 r' st→(ET c_1 r) st:=fun r' e st hq=>by rw[hy21 r' e] at hq;exact hq
 replace h:=hy2
 refine sp 6 h rfl ?_ ?_<;>intro h
 ·refine cq 2 [8] [.isl false (c_1.Parts.map ah)] 129 ?_
  obtain⟨e3,he3,h⟩:=bS h
  refine oy 145 (.iptr (ac e3) 0) rfl (aJ rfl rfl rfl (cC rfl rfl (aC e3) rfl he3)) ?_
  refine cq 6 [2] [B (e3.Op==1)] 225 ?_
  exact rf [2] [] (j2 _ (ak h) :)
 ·refine cq 9 [2] [B false] 225 ?_
  exact rf [2] [] (j2 _ (ak h) :)
theorem Ny {G:cW}[TabG Tryz.prog G]:cX G 41 Cz:=gT 1 0 ch dF Tryz.func41 (fun a r h=>PN a r h)
def Bl:Condition→List V:=oA ac
def Bm (r:Condition):V×List V:=(ac r,[])
noncomputable def yb (aD:Condition→Option Condition):Ent:=bu [false] Bl Bm aD
theorem FL (aD:Condition→Option Condition){x}{r}(h:aD x=some r):(yb aD).F (Bl x)=some (Bm r):=ba (bb bc) h
noncomputable def CD :=yb (aE oP)
theorem S4 {c_2:Condition}{r}(h:Li c_2=some r):CD.F (Bl c_2)=some (Bm r):=FL (aE oP) h
noncomputable def sj :=aY Tryz.f21
noncomputable abbrev re :=cR (cR (cR (cR (cR sj))))
noncomputable abbrev Lj :=cL (cL (cR (cL (cR (cR (cR (cR (cL (cR (cR (cR (cR (cR (cL (cR (cL (cR (cR (cR (cR sj))))))))))))))))))))
noncomputable abbrev rh :=cL (cL (cR (cR (cR (cL (cL (cR (cR Lj))))))))
noncomputable abbrev Ll :=cR (cR (cR rh))
noncomputable abbrev Lm :=cR (cR (cL (cL (cR (cR rh)))))
noncomputable abbrev Lo :=cR (cL (cR (cL (cL (cR (cR rh))))))
noncomputable def kU (aD:Condition→Option Condition):Env:=dE [(21,(yb aD)),(40,Cx),(41,Cz),(42,CC)]
def ja (aD:Condition→Option Condition)(x:Condition)(r:Condition):St→Prop:=QF (kU aD) Tryz.f21 [false] (Bl x) (Bm r)
theorem I3 (aD:Condition→Option Condition)(c_2:Condition):eW (kU aD) 0 (ja aD c_2) (cL (cL (cR (cL (cR (cR (cR sj))))))) 0 (pC aD c_2) (fun u=>(sT 122 [(1,.hp 1 0 [] 4 0 0),(2,.hp 2 0 [] 4 0 0)] [⟨0,4,[.agg [I u.1,str u.2.1,I u.2.2.1,.usl 4 (u.2.2.2.map ah)]]⟩,⟨0,4,[.agg [I (0),str ([]),I (0),.usl 4 (([]).map aa)]]⟩] 3)) fun x2=>(sT 122 [(1,.hp 1 0 [] 4 0 0),(2,.hp 2 0 [] 4 0 0),(17,.isl false (c_2.Parts.map ah)),(18,I (len c_2.Parts)),(19,I x2.1)] [⟨0,4,[.agg [I c_2.Op,str c_2.Name,I c_2.Day,.usl 4 (x2.2.map ah)]]⟩,⟨0,4,[.agg [I (0),str ([]),I (0),.usl 4 (([]).map aa)]]⟩] 3):=i7 (Bn aD c_2) fun {Q K} hK self ih x2 y h hr hn=>by
 unfold kB at h
 refine cq 5 [20] [B (decide (x2.1<(len c_2.Parts)))] 19 ?_
 refine sq h ?_ ?_<;>intro h
 ·refine aq 1 ?_
  refine aq 4 ?_
  obtain⟨e3,he3,h⟩:=bS h
  refine oq 35 (.iptr (ac e3) 0) rfl (aJ rfl rfl rfl (cC rfl rfl (aC e3) rfl he3)) ?_
  refine ck 2 [5,22] [] [51] [] [.hp 51 0 [] 4 0 0,ac e3] [some ⟨0,4,[.agg [I (0),str ([]),I (0),.isl true []]]⟩] 67 (by kernel_rfl) ?_
  refine cG 51 [.agg [I (0),str ([]),I (0),.usl 4 (([]).map aa)]] rfl rfl (ao (dC (ao (.refl _) (ao (.refl _) (ao (.refl _) (ao (.nil _) bv))))) bv) ?_
  refine ck 2 [] [] [51] [] [] [some ⟨2,4,[ac e3]⟩] 83 (by kernel_rfl) ?_
  refine gN [0,1,0,4,12,31,63,127] rfl (by decide +kernel) ?_
  refine dq [1] [] (.hp 1 0 [] 4 0 3) rfl (bn rfl rfl rfl) ?_
  refine dq [1] [] (.hs 1 0 [(0,3)] 4 0 (x2.2.map ah).length) rfl (dD rfl rfl) ?_
  refine dq [51] [] (ac e3) rfl (dD rfl rfl) ?_
  obtain⟨r4,hr4,h⟩:=bS h
  refine dq [] [] (ac r4) rfl (aH rfl rfl (aP rfl rfl rfl (bd (bx rfl) bE) (FL aD hr4) (.inr rfl) bm rfl rfl rfl)) ?_ (fb rfl rfl rfl rfl (bd (bx rfl) bE) (FL aD hr4) (.inr rfl) rfl)
  refine dq [] [] (.hs 147 0 [] 4 0 1) rfl (cf rfl (fV (f:=I) (xs:=[]) (z:=.agg [I (0),str ([]),I (0),.isl true []]) (es:=[ac r4]) (ws:=[ac r4]) rfl rfl rfl (by decide) rfl (cO rfl) rfl)) ?_
  obtain⟨a5,ha5,h⟩:=bS h
  refine dq [1,147] [1] (.hs 163 0 [] 4 0 (a5.map ah).length) rfl (kD rfl rfl rfl rfl rfl (nY (path:=[(0,3)]) (f:=ah) (xs:=x2.2) (ys:=[r4]) rfl rfl (CZ rfl rfl rfl) (congrArg (fun w=>[w]) (aC r4).symm) rfl rfl (dm rfl rfl aB) rfl (by decide) sv ha5 rfl (fG (path:=[]) (i:=0) (k:=3) (e':=.agg [I c_2.Op,str c_2.Name,I c_2.Day,.dead]) (es2':=[.agg [I c_2.Op,str c_2.Name,I c_2.Day,.dead]]) aB rfl rfl rfl dt))) ?_ (ta rfl (S5 rfl rfl rfl rfl))
  refine dq [1] [] (.hp 1 0 [] 4 0 3) rfl (bn rfl rfl rfl) ?_
  refine dz [1,163] [1,163] rfl (gH rfl rfl (fP (path:=[]) (pl:=false) (e':=.agg [I c_2.Op,str c_2.Name,I c_2.Day,.usl 4 (a5.map ah)]) (es2':=[.agg [I c_2.Op,str c_2.Name,I c_2.Day,.usl 4 (a5.map ah)]]) rfl (ni rfl (ec rfl rfl)) rfl rfl rfl aB rfl rfl rfl rfl rfl dt 1 rfl)) ?_
  refine de 211 rfl rfl ?_
  refine cq 5 [19] [I (aF (x2.1+1))] 243 ?_
  refine fF ?_
  exact rf [1,2,17,18,19] [1,2] (ih _ _ h hr hn :)
 ·refine aq 1 ?_
  exact rf [1,2] [1,2] (hn _ (ak h) :) (hk:=hK)
theorem I5 (aD:Condition→Option Condition)(c_2:Condition)(u6:Int×ae×Int×(List Condition))(e17:Bool)(x16:Int)(u15:(List Bool)):eW (kU aD) 0 (ja aD c_2) rh 5 (jh aD c_2 u6 e17 x16 u15) (fun u=>(sT 122 [(1,.hp 1 0 [] 4 0 0),(2,.hp 2 0 [] 4 0 0),(69,.hs 3 0 [] 1 0 (u15.map (fI 40 41)).length),(70,I (len u15)),(71,I x16)] [⟨0,4,[.agg [I u6.1,str u6.2.1,I u6.2.2.1,.usl 4 (u6.2.2.2.map ah)]]⟩,⟨0,4,[.agg [I (0),str ([]),I (0),.usl 4 (([]).map aa)]]⟩,⟨0,1,u15.map (fI 40 41)⟩] 4)) fun x18=>(sT 122 [(1,.hp 1 0 [] 4 0 0),(2,.hp 2 0 [] 4 0 0),(10,fI 40 41 e17),(11,B ((x16==0)==(u6.1==5))),(69,.hs 3 0 [] 1 0 (u15.map (fI 40 41)).length),(70,I (len u15)),(71,I x16),(83,.hs 1 0 [(0,3)] 4 0 (u6.2.2.2.map ah).length),(84,I (len u6.2.2.2)),(85,I x18)] [⟨0,4,[.agg [I u6.1,str u6.2.1,I u6.2.2.1,.usl 4 (u6.2.2.2.map ah)]]⟩,⟨0,4,[.agg [I (0),str ([]),I (0),.usl 4 (([]).map aa)]]⟩,⟨0,1,u15.map (fI 40 41)⟩] 4):=i7 (Bp aD c_2 u6 e17 x16 u15) fun {Q K} hK self ih x18 y h hr hn=>by
 unfold fp at h
 refine cq 5 [86] [B (decide (x18<(len u6.2.2.2)))] 20 ?_
 refine sq h ?_ ?_<;>intro h
 ·refine aq 1 ?_
  refine cq 5 [87] [I x18] 36 ?_
  obtain⟨e19,he19,h⟩:=bS h
  refine oq 52 (.hp 1 0 [(0,3)] 4 (0+Int.toNat x18) 0) rfl (aJ rfl rfl rfl (iO (f:=ah) (xs:=u6.2.2.2) rfl rfl rfl he19)) ?_
  refine oq 68 (ac e19) rfl (dD rfl (lO (path:=[(0,3)]) rfl rfl rfl (dm rfl rfl aB) (kH (f:=ah) (xs:=u6.2.2.2) (aC e19) he19) rfl rfl rfl)) ?_
  refine ck 1 [13] [] [68] [] [.hp 68 0 [] 4 0 0] [some ⟨0,4,[.agg [I (0),str ([]),I (0),.isl true []]]⟩] 84 (by kernel_rfl) ?_
  refine cG 68 [.agg [I (0),str ([]),I (0),.usl 4 (([]).map aa)]] rfl rfl (ao (dC (ao (.refl _) (ao (.refl _) (ao (.refl _) (ao (.nil _) bv))))) bv) ?_
  refine ck 8 [12,90,91] [] [68] [] [I x18,fI 40 41 e17,ac e19] [some ⟨2,4,[ac e19]⟩] 148 (by kernel_rfl) ?_
  refine fX h (fun e h=>?_) (fun e h=>?_)
  ·refine Id 90 e ?_
   obtain⟨r20,hr20,h⟩:=bS h
   refine oq 164 (B r20) rfl (cP (IV hr20)) ?_
   refine cq 1 [93] [B r20] 180 ?_
   obtain⟨u21,hu21,h⟩:=lJ h
   have j21:Run (kU aD) 0 Q (.code Lo::.code Lm::.blk 6::.code Ll::.lp rh::.blk 5::K) (sT 122 [(1,.hp 1 0 [] 4 0 0),(2,.hp 2 0 [] 4 0 0),(10,fI 40 41 e17),(11,B ((x16==0)==(u6.1==5))),(12,I x18),(13,.hp 3 0 [] 4 0 0),(69,.hs 4 0 [] 1 0 (u15.map (fI 40 41)).length),(70,I (len u15)),(71,I x16),(83,.hs 1 0 [(0,3)] 4 0 (u6.2.2.2.map ah).length),(84,I (len u6.2.2.2)),(85,I x18),(95,B u21)] [⟨0,4,[.agg [I u6.1,str u6.2.1,I u6.2.2.1,.usl 4 (u6.2.2.2.map ah)]]⟩,⟨0,4,[.agg [I (0),str ([]),I (0),.usl 4 (([]).map aa)]]⟩,⟨0,4,[ac e19]⟩,⟨0,1,u15.map (fI 40 41)⟩] 5):=by
    refine sq h ?_ ?_<;>intro h
    ·refine cq 6 [97,99] [.hs 1 0 [(0,3)] 4 0 (u6.2.2.2.map ah).length,I (aF (1 - x18))] 69 ?_
     obtain⟨e22,he22,h⟩:=bS h
     refine oq 85 (.hp 1 0 [(0,3)] 4 (0+Int.toNat (aF (1 - x18))) 0) rfl (aJ rfl rfl rfl (iO (f:=ah) (xs:=u6.2.2.2) rfl rfl rfl he22)) ?_
     refine oq 101 (ac e22) rfl (dD rfl (lO (path:=[(0,3)]) rfl rfl rfl (dm rfl rfl aB) (kH (f:=ah) (xs:=u6.2.2.2) (aC e22) he22) rfl rfl rfl)) ?_
     refine ck 2 [] [] [2] [] [] [some ⟨1,4,[ac e22]⟩] 117 (by kernel_rfl) ?_
     exact bH rfl (hr _ (ak h) _ ⟨_,fin (vs:=[ac e22]) (eO (dh rfl rfl rfl) fx) (cn (be rfl) bT) rfl (eF dG),dw⟩)
    ·refine aq 1 ?_
     refine cq 4 [102,103] [fI 40 41 e17,ac e19] 37 ?_
     refine fX h (fun e h=>?_) (fun e h=>?_)
     ·refine Id 102 e ?_
      obtain⟨r23,hr23,h⟩:=bS h
      refine oq 53 (B r23) rfl (cP (IV hr23)) ?_
      refine aq 1 ?_
      refine sq h ?_ ?_<;>intro h
      ·refine ck 5 [] [] [2] [] [] [some ⟨1,4,[ac e19]⟩] 85 (by kernel_rfl) ?_
       exact bH rfl (hr _ (ak h) _ ⟨_,fin (vs:=[ac e19]) (eO (dh rfl rfl rfl) fx) (cn (be rfl) bT) rfl (eF dG),dw⟩)
      ·refine aq 1 ?_
       refine cq 5 [85] [I (aF (x18+1))] 85 ?_
       refine fF ?_
       exact rf [1,2,10,11,69,70,71,83,84,85] [1,2,4] (ih _ _ h hr hn :)
     ·refine Id 102 e ?_
      obtain⟨r24,hr24,h⟩:=bS h
      refine oq 53 (B r24) rfl (cP (IY hr24)) ?_
      refine aq 1 ?_
      refine sq h ?_ ?_<;>intro h
      ·refine ck 5 [] [] [2] [] [] [some ⟨1,4,[ac e19]⟩] 85 (by kernel_rfl) ?_
       exact bH rfl (hr _ (ak h) _ ⟨_,fin (vs:=[ac e19]) (eO (dh rfl rfl rfl) fx) (cn (be rfl) bT) rfl (eF dG),dw⟩)
      ·refine aq 1 ?_
       refine cq 5 [85] [I (aF (x18+1))] 85 ?_
       refine fF ?_
       exact rf [1,2,10,11,69,70,71,83,84,85] [1,2,4] (ih _ _ h hr hn :)
   replace h:=hu21
   clear hu21
   refine sp 93 h rfl ?_ ?_<;>intro h
   ·refine cq 3 [95] [B ((x16==0)==(u6.1==5))] 212 ?_
    subst h
    exact rf [1,2,10,11,12,13,69,70,71,83,84,85,95] [1,2,68,3] (j21 :)
   ·refine cq 3 [95] [B false] 212 ?_
    subst h
    exact rf [1,2,10,11,12,13,69,70,71,83,84,85,95] [1,2,68,3] (j21 :)
  ·refine Id 90 e ?_
   obtain⟨r25,hr25,h⟩:=bS h
   refine oq 164 (B r25) rfl (cP (IY hr25)) ?_
   refine cq 1 [93] [B r25] 180 ?_
   obtain⟨u26,hu26,h⟩:=lJ h
   have j26:Run (kU aD) 0 Q (.code Lo::.code Lm::.blk 6::.code Ll::.lp rh::.blk 5::K) (sT 122 [(1,.hp 1 0 [] 4 0 0),(2,.hp 2 0 [] 4 0 0),(10,fI 40 41 e17),(11,B ((x16==0)==(u6.1==5))),(12,I x18),(13,.hp 3 0 [] 4 0 0),(69,.hs 4 0 [] 1 0 (u15.map (fI 40 41)).length),(70,I (len u15)),(71,I x16),(83,.hs 1 0 [(0,3)] 4 0 (u6.2.2.2.map ah).length),(84,I (len u6.2.2.2)),(85,I x18),(95,B u26)] [⟨0,4,[.agg [I u6.1,str u6.2.1,I u6.2.2.1,.usl 4 (u6.2.2.2.map ah)]]⟩,⟨0,4,[.agg [I (0),str ([]),I (0),.usl 4 (([]).map aa)]]⟩,⟨0,4,[ac e19]⟩,⟨0,1,u15.map (fI 40 41)⟩] 5):=by
    refine sq h ?_ ?_<;>intro h
    ·refine cq 6 [97,99] [.hs 1 0 [(0,3)] 4 0 (u6.2.2.2.map ah).length,I (aF (1 - x18))] 69 ?_
     obtain⟨e27,he27,h⟩:=bS h
     refine oq 85 (.hp 1 0 [(0,3)] 4 (0+Int.toNat (aF (1 - x18))) 0) rfl (aJ rfl rfl rfl (iO (f:=ah) (xs:=u6.2.2.2) rfl rfl rfl he27)) ?_
     refine oq 101 (ac e27) rfl (dD rfl (lO (path:=[(0,3)]) rfl rfl rfl (dm rfl rfl aB) (kH (f:=ah) (xs:=u6.2.2.2) (aC e27) he27) rfl rfl rfl)) ?_
     refine ck 2 [] [] [2] [] [] [some ⟨1,4,[ac e27]⟩] 117 (by kernel_rfl) ?_
     exact bH rfl (hr _ (ak h) _ ⟨_,fin (vs:=[ac e27]) (eO (dh rfl rfl rfl) fx) (cn (be rfl) bT) rfl (eF dG),dw⟩)
    ·refine aq 1 ?_
     refine cq 4 [102,103] [fI 40 41 e17,ac e19] 37 ?_
     refine fX h (fun e h=>?_) (fun e h=>?_)
     ·refine Id 102 e ?_
      obtain⟨r28,hr28,h⟩:=bS h
      refine oq 53 (B r28) rfl (cP (IV hr28)) ?_
      refine aq 1 ?_
      refine sq h ?_ ?_<;>intro h
      ·refine ck 5 [] [] [2] [] [] [some ⟨1,4,[ac e19]⟩] 85 (by kernel_rfl) ?_
       exact bH rfl (hr _ (ak h) _ ⟨_,fin (vs:=[ac e19]) (eO (dh rfl rfl rfl) fx) (cn (be rfl) bT) rfl (eF dG),dw⟩)
      ·refine aq 1 ?_
       refine cq 5 [85] [I (aF (x18+1))] 85 ?_
       refine fF ?_
       exact rf [1,2,10,11,69,70,71,83,84,85] [1,2,4] (ih _ _ h hr hn :)
     ·refine Id 102 e ?_
      obtain⟨r29,hr29,h⟩:=bS h
      refine oq 53 (B r29) rfl (cP (IY hr29)) ?_
      refine aq 1 ?_
      refine sq h ?_ ?_<;>intro h
      ·refine ck 5 [] [] [2] [] [] [some ⟨1,4,[ac e19]⟩] 85 (by kernel_rfl) ?_
       exact bH rfl (hr _ (ak h) _ ⟨_,fin (vs:=[ac e19]) (eO (dh rfl rfl rfl) fx) (cn (be rfl) bT) rfl (eF dG),dw⟩)
      ·refine aq 1 ?_
       refine cq 5 [85] [I (aF (x18+1))] 85 ?_
       refine fF ?_
       exact rf [1,2,10,11,69,70,71,83,84,85] [1,2,4] (ih _ _ h hr hn :)
   replace h:=hu26
   clear hu26
   refine sp 93 h rfl ?_ ?_<;>intro h
   ·refine cq 3 [95] [B ((x16==0)==(u6.1==5))] 212 ?_
    subst h
    exact rf [1,2,10,11,12,13,69,70,71,83,84,85,95] [1,2,68,3] (j26 :)
   ·refine cq 3 [95] [B false] 212 ?_
    subst h
    exact rf [1,2,10,11,12,13,69,70,71,83,84,85,95] [1,2,68,3] (j26 :)
 ·refine aq 1 ?_
  exact rf [1,2,69,70,71] [1,2,3] (hn _ (ak h) :) (hk:=hK)
theorem I4 (aD:Condition→Option Condition)(c_2:Condition)(u15:(List Bool))(u6:Int×ae×Int×(List Condition)):eW (kU aD) 0 (ja aD c_2) Lj 3 (eh aD c_2 u15 u6) (fun u=>(sT 122 [(1,.hp 1 0 [] 4 0 0),(2,.hp 2 0 [] 4 0 0)] [⟨0,4,[.agg [I u6.1,str u6.2.1,I u6.2.2.1,.usl 4 (u6.2.2.2.map ah)]]⟩,⟨0,4,[.agg [I (0),str ([]),I (0),.usl 4 (([]).map aa)]]⟩] 3)) fun x16=>(sT 122 [(1,.hp 1 0 [] 4 0 0),(2,.hp 2 0 [] 4 0 0),(69,.hs 3 0 [] 1 0 (u15.map (fI 40 41)).length),(70,I (len u15)),(71,I x16)] [⟨0,4,[.agg [I u6.1,str u6.2.1,I u6.2.2.1,.usl 4 (u6.2.2.2.map ah)]]⟩,⟨0,4,[.agg [I (0),str ([]),I (0),.usl 4 (([]).map aa)]]⟩,⟨0,1,u15.map (fI 40 41)⟩] 4):=i7 (Bo aD c_2 u15 u6) fun {Q K} hK self ih x16 y h hr hn=>by
 unfold ct at h
 refine cq 5 [72] [B (decide (x16<(len u15)))] 20 ?_
 refine sq h ?_ ?_<;>intro h
 ·refine aq 1 ?_
  refine cq 5 [73] [I x16] 36 ?_
  obtain⟨e17,he17,h⟩:=bS h
  refine oq 52 (.hp 3 0 [] 1 (0+Int.toNat x16) 0) rfl (aJ rfl rfl rfl (iO (f:=(fI 40 41)) (xs:=u15) rfl rfl rfl he17)) ?_
  refine oq 68 (fI 40 41 e17) rfl (dD rfl (lO (path:=[]) rfl rfl rfl aB (nq (f:=(fI 40 41)) (xs:=u15) he17) rfl rfl rfl)) ?_
  refine cq 17 [10,11,83] [fI 40 41 e17,B ((x16==0)==(u6.1==5)),.hs 1 0 [(0,3)] 4 0 (u6.2.2.2.map ah).length] 244 ?_
  refine oq 260 (I (len u6.2.2.2)) rfl (eX rfl rfl rfl (BI (f:=ah) (xs:=u6.2.2.2) rfl rfl)) ?_
  refine cq 3 [85] [I (0)] 276 ?_
  obtain⟨y30,hy30,hy301,hy302⟩:=bL h
  refine ep rfl ?_
  refine rf [1,2,10,11,69,70,71,83,84,85] [1,2,3] (I5 aD c_2 u6 e17 x16 u15 rfl 0 _ hy30 (fun r' e st hq=>hr r' (hy301 r' e) st hq) fun u30 hu=>?_)
  replace h:=hy302 u30 hu
  refine cq 5 [71] [I (aF (x16+1))] 36 ?_
  refine fF ?_
  exact rf [1,2,69,70,71] [1,2,3] (ih _ _ h hr hn :)
 ·refine aq 1 ?_
  exact rf [1,2] [1,2] (hn _ (ak h) :) (hk:=hK)
theorem PU (aD:Condition→Option Condition)(c_2:Condition)(r:Condition)(h:vM aD c_2=some r):b7 (kU aD) Tryz.f21 [false] 0 (Bl c_2) (Bm r):=by
 show Run _ _ (ja aD c_2 r) [.code sj] _
 refine rI 122 [(0,ac c_2)] [] 1 ?_
 unfold vM at h
 refine ck 4 [1,2] [] [1,17] [] [.hp 1 0 [] 4 0 0,.hp 17 0 [] 4 0 0] [some ⟨0,4,[ac c_2]⟩,some ⟨0,4,[.agg [I (0),str ([]),I (0),.isl true []]]⟩] 33 (by kernel_rfl) ?_
 refine cG 17 [.agg [I (0),str ([]),I (0),.usl 4 (([]).map aa)]] rfl rfl (ao (dC (ao (.refl _) (ao (.refl _) (ao (.refl _) (ao (.nil _) bv))))) bv) ?_
 refine ck 11 [3] [] [1] [] [.isl false (c_2.Parts.map ah)] [some ⟨0,4,[.agg [I c_2.Op,str c_2.Name,I c_2.Day,.isl true []]]⟩] 113 (by kernel_rfl) ?_
 refine cG 1 [.agg [I c_2.Op,str c_2.Name,I c_2.Day,.usl 4 (([]).map aa)]] rfl rfl (ao (dC (ao (.refl _) (ao (.refl _) (ao (.refl _) (ao (.nil _) bv))))) bv) ?_
 refine cq 5 [17] [.isl false (c_2.Parts.map ah)] 129 ?_
 refine oq 145 (I (len c_2.Parts)) rfl (eX rfl rfl rfl (fN rfl)) ?_
 refine cq 3 [19] [I (0)] 161 ?_
 obtain⟨y6,hy6,hy61,hy62⟩:=bJ h
 refine ep rfl ?_
 refine rf [1,2,17,18,19] [1,17] (I3 aD c_2 rfl (0,[]) _ hy6 (fun r' e st hq=>by rw[hy61 r' e] at hq;exact hq) fun u6 hu=>?_)
 replace h:=hy62 u6 hu
 refine cq 12 [32,33] [I u6.1,B (u6.1==3)] 67 ?_
 obtain⟨y7,hy7,hy71,hy72⟩:=bJ h
 have j7:∀u7,y7=.inr u7→Run (kU aD) 0 (ja aD c_2 r) (.blk 2::.code re::[]) (sT 122 [(1,.hp 1 0 [] 4 0 0),(2,.hp 2 0 [] 4 0 0)] [⟨0,4,[.agg [I u6.1,str u6.2.1,I u6.2.2.1,.usl 4 (u6.2.2.2.map ah)]]⟩,⟨0,4,[.agg [I (0),str ([]),I (0),.usl 4 (([]).map aa)]]⟩] 3):=by
  intro u7 hu
  replace h:=hy72 u7 hu
  refine cq 4 [121] [.agg [I u6.1,str u6.2.1,I u6.2.2.1,.hs 1 0 [(0,3)] 4 0 (u6.2.2.2.map ah).length]] 19 ?_
  refine Om 121 3 (path:=[(0,3)]) (.agg [I u6.1,str u6.2.1,I u6.2.2.1,.hs 19 0 [] 4 0 (u6.2.2.2.map ah).length]) 35 rfl rfl rfl rfl rfl (dm rfl rfl aB) (fG (path:=[]) (i:=0) (k:=3) (e':=.agg [I u6.1,str u6.2.1,I u6.2.2.1,.dead]) (es2':=[.agg [I u6.1,str u6.2.1,I u6.2.2.1,.dead]]) aB rfl rfl rfl dt) rfl rfl ?_
  refine Ig 121 3 (.agg [I u6.1,str u6.2.1,I u6.2.2.1,.isl false (u6.2.2.2.map ah)]) rfl rfl rfl rfl rfl rfl (dB (f:=ah) (g:=ah) (xs:=u6.2.2.2) uQ) rfl ?_
  refine o0 51 rfl rfl (gH rfl rfl rfl) ?_
  refine aq 1 ?_
  obtain rfl:=sI h
  exact bH rfl ⟨_,fin (vs:=[.agg [I u6.1,str u6.2.1,I u6.2.2.1,.isl false (u6.2.2.2.map ah)]]) (eO (dh rfl rfl rfl) fx) (cn (be rfl) bT) rfl (eF dG),dw⟩
 have r7:∀r',y7=.inl r'→∀st,ja aD c_2 r' st→(ja aD c_2 r) st:=fun r' e st hq=>by rw[hy71 r' e] at hq;exact hq
 replace h:=hy7
 refine sq h ?_ ?_<;>intro h
 ·refine cq 6 [37] [B (u6.2.2.1==0)] 115 ?_
  refine sq h ?_ ?_<;>intro h
  ·refine cq 3 [38] [.agg [I (1),str ([]),I (0),.isl true []]] 131 ?_
   refine Ih 38 3 4 147 (.agg [I (1),str ([]),I (0),.hs 131 0 [] 4 0 0]) rfl rfl rfl rfl rfl ?_
   refine Ig 38 3 (.agg [I (1),str ([]),I (0),.isl false (([]).map ah)]) rfl rfl rfl rfl rfl rfl rfl rfl ?_
   refine o0 163 rfl rfl (gH rfl rfl rfl) ?_
   refine aq 1 ?_
   exact bH rfl (r7 _ (ak h) _ ⟨_,fin (vs:=[.agg [I (1),str ([]),I (0),.isl false (([]).map ah)]]) (eO (dh rfl rfl rfl) fx) (cn (be rfl) bT) rfl (eF dG),dw⟩)
  ·refine aq 1 ?_
   exact rf [1,2] [1,2] (j7 _ (ak h) :)
 ·refine cq 5 [39] [B (u6.1==4)] 99 ?_
  obtain⟨y8,hy8,hy81,hy82⟩:=bL h
  have j8:∀u8,y8=.inr u8→Run (kU aD) 0 (ja aD c_2 r) (.blk 2::.code re::[]) (sT 122 [(1,.hp 1 0 [] 4 0 0),(2,.hp 2 0 [] 4 0 0)] [⟨0,4,[.agg [I u6.1,str u6.2.1,I u6.2.2.1,.usl 4 (u6.2.2.2.map ah)]]⟩,⟨0,4,[.agg [I (0),str ([]),I (0),.usl 4 (([]).map aa)]]⟩] 3):=by
   intro u8 hu
   replace h:=hy82 u8 hu
   exact rf [1,2] [1,2] (j7 _ (ak h) :)
  have r8:∀r',y8=.inl r'→∀st,ja aD c_2 r' st→(ja aD c_2 r) st:=fun r' e st hq=>r7 r' (hy81 r' e) st hq
  replace h:=hy8
  refine sq h ?_ ?_<;>intro h
  ·refine cq 4 [42] [.hs 1 0 [(0,3)] 4 0 (u6.2.2.2.map ah).length] 131 ?_
   obtain⟨e9,he9,h⟩:=bS h
   refine oq 147 (.hp 1 0 [(0,3)] 4 (0+Int.toNat (0)) 0) rfl (aJ rfl rfl rfl (iO (f:=ah) (xs:=u6.2.2.2) rfl rfl rfl he9)) ?_
   refine cq 1 [44] [.hp 1 0 [(0,3)] 4 (0+Int.toNat (0)) 0] 163 ?_
   refine oq 179 (I e9.Op) rfl (dD rfl (lO (path:=[(0,3)]) rfl rfl rfl (dm rfl rfl aB) (kH (f:=ah) (xs:=u6.2.2.2) (aC e9) he9) rfl rfl rfl)) ?_
   refine cq 2 [46] [B (e9.Op==4)] 195 ?_
   refine sq h ?_ ?_<;>intro h
   ·refine cq 4 [48] [.hs 1 0 [(0,3)] 4 0 (u6.2.2.2.map ah).length] 227 ?_
    obtain⟨e10,he10,h⟩:=bS h
    refine oq 243 (.hp 1 0 [(0,3)] 4 (0+Int.toNat (0)) 0) rfl (aJ rfl rfl rfl (iO (f:=ah) (xs:=u6.2.2.2) rfl rfl rfl he10)) ?_
    refine cq 1 [50] [.hp 1 0 [(0,3)] 4 (0+Int.toNat (0)) 3] 259 ?_
    refine oq 275 (.isl false (e10.Parts.map ah)) rfl (dD rfl (lO (path:=[(0,3)]) rfl rfl rfl (dm rfl rfl aB) (kH (f:=ah) (xs:=u6.2.2.2) (aC e10) he10) rfl rfl rfl)) ?_
    obtain⟨e11,he11,h⟩:=bS h
    refine oq 291 (.iptr (ac e11) 0) rfl (aJ rfl rfl rfl (cC rfl rfl (aC e11) rfl he11)) ?_
    refine ck 3 [] [] [2] [] [] [some ⟨1,4,[ac e11]⟩] 323 (by kernel_rfl) ?_
    exact bH rfl (r8 _ (ak h) _ ⟨_,fin (vs:=[ac e11]) (eO (dh rfl rfl rfl) fx) (cn (be rfl) bT) rfl (eF dG),dw⟩)
   ·refine aq 1 ?_
    exact rf [1,2] [1,2] (j8 _ (ak h) :)
  ·refine cq 6 [54] [B (u6.1==5)] 131 ?_
   obtain⟨u12,hu12,h⟩:=lJ h
   have j12:Run (kU aD) 0 (ja aD c_2 r) (.code (cR (cR (cR (cR (cR (cL (cR (cL (cR (cR (cR (cR sj))))))))))))::.blk 2::.code re::[]) (sT 122 [(1,.hp 1 0 [] 4 0 0),(2,.hp 2 0 [] 4 0 0),(54,B u12)] [⟨0,4,[.agg [I u6.1,str u6.2.1,I u6.2.2.1,.usl 4 (u6.2.2.2.map ah)]]⟩,⟨0,4,[.agg [I (0),str ([]),I (0),.usl 4 (([]).map aa)]]⟩] 3):=by
    obtain⟨y13,hy13,hy131,hy132⟩:=bL h
    have j13:∀u13,y13=.inr u13→Run (kU aD) 0 (ja aD c_2 r) (.blk 2::.code re::[]) (sT 122 [(1,.hp 1 0 [] 4 0 0),(2,.hp 2 0 [] 4 0 0)] [⟨0,4,[.agg [I u6.1,str u6.2.1,I u6.2.2.1,.usl 4 (u6.2.2.2.map ah)]]⟩,⟨0,4,[.agg [I (0),str ([]),I (0),.usl 4 (([]).map aa)]]⟩] 3):=by
     intro u13 hu
     replace h:=hy132 u13 hu
     exact rf [1,2] [1,2] (j8 _ (ak h) :)
    have r13:∀r',y13=.inl r'→∀st,ja aD c_2 r' st→(ja aD c_2 r) st:=fun r' e st hq=>r8 r' (hy131 r' e) st hq
    replace h:=hy13
    refine sq h ?_ ?_<;>intro h
    ·refine cq 12 [6,7,59] [.fn 40 [],.fn 41 [],B (u6.1==6)] 83 ?_
     obtain⟨u14,hu14,h⟩:=lJ h
     have j14:Run (kU aD) 0 (ja aD c_2 r) (.code (cR (cR (cL (cR (cR (cR (cR (cR (cL (cR (cL (cR (cR (cR (cR sj)))))))))))))))::.blk 2::.code re::[]) (sT 122 [(1,.hp 1 0 [] 4 0 0),(2,.hp 2 0 [] 4 0 0),(6,fI 40 41 u14.1),(7,fI 40 41 u14.2)] [⟨0,4,[.agg [I u6.1,str u6.2.1,I u6.2.2.1,.usl 4 (u6.2.2.2.map ah)]]⟩,⟨0,4,[.agg [I (0),str ([]),I (0),.usl 4 (([]).map aa)]]⟩] 3):=by
      refine cq 4 [60,61] [fI 40 41 u14.1,fI 40 41 u14.2] 35 ?_
      refine oq 51 (.hs 35 0 [] 1 0 2) rfl (cf rfl (fV (f:=I) (xs:=[]) (z:=.nilfn) (es:=[fI 40 41 u14.1,fI 40 41 u14.2]) (ws:=[fI 40 41 u14.1,fI 40 41 u14.2]) rfl rfl rfl (by decide) rfl (cO rfl) rfl)) ?_
      refine cq 9 [8,65] [.hs 35 0 [] 1 0 2,B (u6.1==6)] 115 ?_
      obtain⟨u15,hu15,h⟩:=lJ h
      have j15:Run (kU aD) 0 (ja aD c_2 r) (.code (cR (cR (cR (cR (cL (cR (cR (cR (cR (cR (cL (cR (cL (cR (cR (cR (cR sj)))))))))))))))))::.blk 2::.code re::[]) (sT 122 [(1,.hp 1 0 [] 4 0 0),(2,.hp 2 0 [] 4 0 0),(8,.hs 3 0 [] 1 0 (u15.map (fI 40 41)).length)] [⟨0,4,[.agg [I u6.1,str u6.2.1,I u6.2.2.1,.usl 4 (u6.2.2.2.map ah)]]⟩,⟨0,4,[.agg [I (0),str ([]),I (0),.usl 4 (([]).map aa)]]⟩,⟨0,1,u15.map (fI 40 41)⟩] 4):=by
       refine cq 4 [69] [.hs 3 0 [] 1 0 (u15.map (fI 40 41)).length] 20 ?_
       refine oq 36 (I (len u15)) rfl (eX rfl rfl rfl (BI (f:=(fI 40 41)) (xs:=u15) rfl rfl)) ?_
       refine cq 3 [71] [I (0)] 52 ?_
       obtain⟨y31,hy31,hy311,hy312⟩:=bL h
       refine ep rfl ?_
       refine rf [1,2,69,70,71] [1,2,3] (I4 aD c_2 u15 u6 rfl 0 _ hy31 (fun r' e st hq=>r13 r' (hy311 r' e) st hq) fun u31 hu=>?_)
       replace h:=hy312 u31 hu
       refine aq 1 ?_
       refine gN [0,1,3,7,0,16,48,112,255] rfl (by decide +kernel) ?_
       refine dq [1] [] (.hp 1 0 [] 4 0 3) rfl (bn rfl rfl rfl) ?_
       refine dq [1] [] (.hs 1 0 [(0,3)] 4 0 (u6.2.2.2.map ah).length) rfl (dD rfl rfl) ?_
       obtain⟨e32,he32,h⟩:=bS h
       refine dq [1] [] (.hp 1 0 [(0,3)] 4 (0+Int.toNat (0)) 0) rfl (aJ rfl rfl rfl (iO (f:=ah) (xs:=u6.2.2.2) rfl rfl rfl he32)) ?_
       refine dq [1] [] (ac e32) rfl (dD rfl (lO (path:=[(0,3)]) rfl rfl rfl (dm rfl rfl aB) (kH (f:=ah) (xs:=u6.2.2.2) (aC e32) he32) rfl rfl rfl)) ?_
       refine dq [1] [] (.hp 1 0 [] 4 0 3) rfl (bn rfl rfl rfl) ?_
       refine dq [1] [] (.hs 1 0 [(0,3)] 4 0 (u6.2.2.2.map ah).length) rfl (dD rfl rfl) ?_
       obtain⟨e33,he33,h⟩:=bS h
       refine dq [1] [] (.hp 1 0 [(0,3)] 4 (0+Int.toNat (1)) 0) rfl (aJ rfl rfl rfl (iO (f:=ah) (xs:=u6.2.2.2) rfl rfl rfl he33)) ?_
       refine dq [1] [] (ac e33) rfl (dD rfl (lO (path:=[(0,3)]) rfl rfl rfl (dm rfl rfl aB) (kH (f:=ah) (xs:=u6.2.2.2) (aC e33) he33) rfl rfl rfl)) ?_
       obtain⟨r34,hr34,h⟩:=bS h
       refine dq [] [] (B r34) rfl (cP (OZ hr34)) ?_ (fb rfl rfl rfl rfl (bd (bx rfl) (bd (bx rfl) bE)) (OZ hr34) (.inr rfl) rfl)
       refine de 147 rfl rfl ?_
       refine sq h ?_ ?_<;>intro h
       ·refine cq 4 [118] [.hs 1 0 [(0,3)] 4 0 (u6.2.2.2.map ah).length] 179 ?_
        obtain⟨e35,he35,h⟩:=bS h
        refine oq 195 (.hp 1 0 [(0,3)] 4 (0+Int.toNat (0)) 0) rfl (aJ rfl rfl rfl (iO (f:=ah) (xs:=u6.2.2.2) rfl rfl rfl he35)) ?_
        refine oq 211 (ac e35) rfl (dD rfl (lO (path:=[(0,3)]) rfl rfl rfl (dm rfl rfl aB) (kH (f:=ah) (xs:=u6.2.2.2) (aC e35) he35) rfl rfl rfl)) ?_
        refine ck 2 [] [] [2] [] [] [some ⟨1,4,[ac e35]⟩] 227 (by kernel_rfl) ?_
        exact bH rfl (r13 _ (ak h) _ ⟨_,fin (vs:=[ac e35]) (eO (dh rfl rfl rfl) fx) (cn (be rfl) bT) rfl (eF dG),dw⟩)
       ·refine aq 1 ?_
        exact rf [1,2] [1,2] (j13 _ (ak h) :)
      replace h:=hu15
      clear hu15
      refine om h rfl rfl ?_ ?_<;>intro h
      ·refine cq 3 [66,67] [fI 40 41 u14.2,fI 40 41 u14.1] 147 ?_
       refine oq 163 (.hs 147 0 [] 1 0 2) rfl (cf rfl (fV (f:=I) (xs:=[]) (z:=.nilfn) (es:=[fI 40 41 u14.2,fI 40 41 u14.1]) (ws:=[fI 40 41 u14.2,fI 40 41 u14.1]) rfl rfl rfl (by decide) rfl (cO rfl) rfl)) ?_
       refine cq 2 [8] [.hs 147 0 [] 1 0 2] 179 ?_
       subst h
       exact rf [1,2,8] [1,2,147] (j15 :)
      ·refine aq 1 ?_
       subst h
       exact rf [1,2,8] [1,2,35] (j15 :)
     replace h:=hu14
     clear hu14
     refine om h rfl rfl ?_ ?_<;>intro h
     ·refine cq 4 [6,7] [.fn 41 [],.fn 40 []] 115 ?_
      subst h
      exact rf [1,2,6,7] [1,2] (j14 :)
     ·refine aq 1 ?_
      subst h
      exact rf [1,2,6,7] [1,2] (j14 :)
    ·refine aq 1 ?_
     exact rf [1,2] [1,2] (j13 _ (ak h) :)
   replace h:=hu12
   clear hu12
   refine om h rfl rfl ?_ ?_<;>intro h
   ·refine aq 1 ?_
    subst h
    exact rf [1,2,54] [1,2] (j12 :)
   ·refine cq 4 [54] [B (u6.1==6)] 163 ?_
    subst h
    exact rf [1,2,54] [1,2] (j12 :)
theorem NC {G:cW}[TabG Tryz.prog G]:cX G 21 CD:=gq fun aD g_Ffz=>gT 1 0 (aQ g_Ffz (aQ Nw (aQ Ny (aQ NB ch)))) dF Tryz.func21 (fun a r h=>PU aD a r h)
def Be:Condition→List V:=oA ac
def Bf (r:Condition):V×List V:=(ar r,[])
noncomputable def xZ (co:Condition→Option Condition):Ent:=bu [false] Be Bf co
theorem FK (co:Condition→Option Condition){x}{r}(h:co x=some r):(xZ co).F (Be x)=some (Bf r):=ba (bb bc) h
noncomputable def CA :=xZ (aE oO)
theorem S3 {c_1:Condition}{r}(h:Lf c_1=some r):CA.F (Be c_1)=some (Bf r):=FK (aE oO) h
noncomputable def OW :=aY Tryz.f20
noncomputable def IZ (co:Condition→Option Condition):Env:=dE [(20,(xZ co))]
def OV (co:Condition→Option Condition)(x:Condition)(r:Condition):St→Prop:=QF (IZ co) Tryz.f20 [false] (Be x) (Bf r)
theorem I0 (co:Condition→Option Condition)(c_1:Condition):eW (IZ co) 0 (OV co c_1) (cL (cL (cR (cL (cR (cR (cR OW))))))) 0 (pB co c_1) (fun u=>(sT 24 [(1,.hp 1 0 [] 4 0 0),(2,.hp 2 0 [] 4 0 0)] [⟨0,4,[.agg [I c_1.Op,str c_1.Name,I c_1.Day,.usl 4 (u.map aa)]]⟩,⟨0,4,[.agg [I (0),str ([]),I (0),.usl 4 (([]).map aa)]]⟩] 3)) fun x2=>(sT 24 [(1,.hp 1 0 [] 4 0 0),(2,.hp 2 0 [] 4 0 0),(9,.isl false (c_1.Parts.map ah)),(10,I (len c_1.Parts)),(11,I x2.1)] [⟨0,4,[.agg [I c_1.Op,str c_1.Name,I c_1.Day,.usl 4 (x2.2.map aa)]]⟩,⟨0,4,[.agg [I (0),str ([]),I (0),.usl 4 (([]).map aa)]]⟩] 3):=i7 (Bg co c_1) fun {Q K} hK self ih x2 y h hr hn=>by
 unfold kA at h
 refine cq 5 [12] [B (decide (x2.1<(len c_1.Parts)))] 19 ?_
 refine sq h ?_ ?_<;>intro h
 ·refine aq 1 ?_
  refine aq 4 ?_
  obtain⟨e3,he3,h⟩:=bS h
  refine oq 35 (.iptr (ac e3) 0) rfl (aJ rfl rfl rfl (cC rfl rfl (aC e3) rfl he3)) ?_
  refine ck 2 [5,14] [] [51] [] [.hp 51 0 [] 4 0 0,ac e3] [some ⟨0,4,[.agg [I (0),str ([]),I (0),.isl true []]]⟩] 67 (by kernel_rfl) ?_
  refine cG 51 [.agg [I (0),str ([]),I (0),.usl 4 (([]).map aa)]] rfl rfl (ao (dC (ao (.refl _) (ao (.refl _) (ao (.refl _) (ao (.nil _) bv))))) bv) ?_
  refine ck 2 [] [] [51] [] [] [some ⟨2,4,[ac e3]⟩] 83 (by kernel_rfl) ?_
  refine gN [0,1,0,4,12,31,63,127] rfl (by decide +kernel) ?_
  refine dq [1] [] (.hp 1 0 [] 4 0 3) rfl (bn rfl rfl rfl) ?_
  refine dq [1] [] (.hs 1 0 [(0,3)] 4 0 (x2.2.map aa).length) rfl (dD rfl rfl) ?_
  refine dq [51] [] (ac e3) rfl (dD rfl rfl) ?_
  obtain⟨r4,hr4,h⟩:=bS h
  refine dq [] [] (.agg [I r4.Op,str r4.Name,I r4.Day,.hs 131 0 [] 4 0 (r4.Parts.map aa).length]) rfl (aH rfl rfl (aP rfl rfl rfl (bd (bx rfl) bE) (FK co hr4) (.inr rfl) bm rfl rfl rfl)) ?_ (fb rfl rfl rfl rfl (bd (bx rfl) bE) (FK co hr4) (.inr rfl) rfl)
  refine dq [131] [131] (.hs 147 0 [] 4 0 1) rfl (cf rfl (fV (f:=I) (xs:=[]) (z:=.agg [I (0),str ([]),I (0),.isl true []]) (es:=[.agg [I r4.Op,str r4.Name,I r4.Day,.hs 131 0 [] 4 0 (r4.Parts.map aa).length]]) (ws:=[ar r4]) rfl rfl rfl (by decide) rfl (cn (dY (au (aA rfl) (au (aA rfl) (au (aA rfl) (au (ec rfl rfl) dZ))))) bT) rfl)) ?_
  obtain⟨a5,ha5,h⟩:=bS h
  refine dq [1,147] [1,147] (.hs 163 0 [] 4 0 (a5.map aa).length) rfl (kD rfl rfl rfl rfl rfl (nY (path:=[(0,3)]) (f:=aa) (xs:=x2.2) (ys:=[r4]) rfl rfl (C0 rfl rfl rfl) (congrArg (fun w=>[w]) (eb r4).symm) rfl rfl (dm rfl rfl aB) rfl (by decide) jD ha5 rfl (fG (path:=[]) (i:=0) (k:=3) (e':=.agg [I c_1.Op,str c_1.Name,I c_1.Day,.dead]) (es2':=[.agg [I c_1.Op,str c_1.Name,I c_1.Day,.dead]]) aB rfl rfl rfl dt))) ?_ (ta rfl (Jb rfl rfl rfl rfl))
  refine dq [1] [] (.hp 1 0 [] 4 0 3) rfl (bn rfl rfl rfl) ?_
  refine dz [1,163] [1,163] rfl (gH rfl rfl (fP (path:=[]) (pl:=false) (e':=.agg [I c_1.Op,str c_1.Name,I c_1.Day,.usl 4 (a5.map aa)]) (es2':=[.agg [I c_1.Op,str c_1.Name,I c_1.Day,.usl 4 (a5.map aa)]]) rfl (ni rfl (ec rfl rfl)) rfl rfl rfl aB rfl rfl rfl rfl rfl dt 1 rfl)) ?_
  refine de 211 rfl rfl ?_
  refine cq 5 [11] [I (aF (x2.1+1))] 243 ?_
  refine fF ?_
  exact rf [1,2,9,10,11] [1,2] (ih _ _ h hr hn :)
 ·refine aq 1 ?_
  exact rf [1,2] [1,2] (hn _ (ak h) :) (hk:=hK)
theorem PP (co:Condition→Option Condition)(c_1:Condition)(r:Condition)(h:vJ co c_1=some r):b7 (IZ co) Tryz.f20 [false] 0 (Be c_1) (Bf r):=by
 show Run _ _ (OV co c_1 r) [.code OW] _
 refine rI 24 [(0,ac c_1)] [] 1 ?_
 unfold vJ at h
 refine ck 4 [1,2] [] [1,17] [] [.hp 1 0 [] 4 0 0,.hp 17 0 [] 4 0 0] [some ⟨0,4,[ac c_1]⟩,some ⟨0,4,[.agg [I (0),str ([]),I (0),.isl true []]]⟩] 33 (by kernel_rfl) ?_
 refine cG 17 [.agg [I (0),str ([]),I (0),.usl 4 (([]).map aa)]] rfl rfl (ao (dC (ao (.refl _) (ao (.refl _) (ao (.refl _) (ao (.nil _) bv))))) bv) ?_
 refine ck 11 [3] [] [1] [] [.isl false (c_1.Parts.map ah)] [some ⟨0,4,[.agg [I c_1.Op,str c_1.Name,I c_1.Day,.isl true []]]⟩] 113 (by kernel_rfl) ?_
 refine cG 1 [.agg [I c_1.Op,str c_1.Name,I c_1.Day,.usl 4 (([]).map aa)]] rfl rfl (ao (dC (ao (.refl _) (ao (.refl _) (ao (.refl _) (ao (.nil _) bv))))) bv) ?_
 refine cq 5 [9] [.isl false (c_1.Parts.map ah)] 129 ?_
 refine oq 145 (I (len c_1.Parts)) rfl (eX rfl rfl rfl (fN rfl)) ?_
 refine cq 3 [11] [I (0)] 161 ?_
 obtain⟨y6,hy6,hy61,hy62⟩:=bJ h
 refine ep rfl ?_
 refine rf [1,2,9,10,11] [1,17] (I0 co c_1 rfl (0,[]) _ hy6 (fun r' e st hq=>by rw[hy61 r' e] at hq;exact hq) fun u6 hu=>?_)
 replace h:=hy62 u6 hu
 refine cq 3 [23] [.agg [I c_1.Op,str c_1.Name,I c_1.Day,.hs 1 0 [(0,3)] 4 0 (u6.map aa).length]] 19 ?_
 refine o0 35 rfl rfl (gH rfl rfl (fP (path:=[]) (pl:=false) (e':=.agg [I c_1.Op,str c_1.Name,I c_1.Day,.usl 4 (u6.map aa)]) (es2':=[.agg [I c_1.Op,str c_1.Name,I c_1.Day,.usl 4 (u6.map aa)]]) rfl (dY (au (aA rfl) (au (aA rfl) (au (aA rfl) (au (eu (path:=[(0,3)]) rfl rfl (dm rfl rfl aB) rfl (fG (path:=[]) (i:=0) (k:=3) (e':=.agg [I c_1.Op,str c_1.Name,I c_1.Day,.dead]) (es2':=[.agg [I c_1.Op,str c_1.Name,I c_1.Day,.dead]]) aB rfl rfl rfl dt)) dZ))))) rfl rfl rfl aB rfl rfl rfl rfl rfl dt 1 rfl)) ?_
 refine aq 1 ?_
 obtain rfl:=sI h
 exact bH rfl ⟨_,fin (vs:=[.agg [I c_1.Op,str c_1.Name,I c_1.Day,.hs 2 1 [(0,3)] 4 0 (u6.map aa).length]]) (eO (dh rfl rfl rfl) fx) (cn (dY (au (aA rfl) (au (aA rfl) (au (aA rfl) (au (eu (path:=[(0,3)]) rfl rfl (dm rfl rfl aB) rfl (fG (path:=[]) (i:=0) (k:=3) (e':=.agg [I c_1.Op,str c_1.Name,I c_1.Day,.dead]) (es2':=[.agg [I c_1.Op,str c_1.Name,I c_1.Day,.dead]]) aB rfl rfl rfl dt)) dZ))))) bT) rfl (eF dG),dw⟩
theorem Nz {G:cW}[TabG Tryz.prog G]:cX G 20 CA:=gq fun co g_Ffw=>gT 1 0 (aQ g_Ffw ch) dF Tryz.func20 (fun a r h=>PP co a r h)
def Et:Condition→List V:=oA ac
def Eu (r:Condition×Bool):V×List V:=(.tup [ar r.1,B r.2],[])
noncomputable def Co :=bu [false] Et Eu fun x=>Df x
theorem OG {c_1:Condition}{r}(h:Df c_1=some r):Co.F (Et c_1)=some (Eu r):=ba (bb bc) h
noncomputable def SN :=aY Tryz.f7
noncomputable def OE :=dE [(16,pe),(21,CD),(20,CA)]
def SM (x:Condition)(r:Condition×Bool):St→Prop:=QF OE Tryz.f7 [false] (Et x) (Eu r)
theorem Pv (c_1:Condition)(r:Condition×Bool)(h:Df c_1=some r):b7 OE Tryz.f7 [false] 0 (Et c_1) (Eu r):=by
 show Run _ _ (SM c_1 r) [.code SN] _
 refine rI 11 [(0,ac c_1)] [] 1 ?_
 unfold Df at h
 refine ck 4 [1,2] [] [1,17] [] [.hp 1 0 [] 4 0 0,.hp 17 0 [] 4 0 0] [some ⟨0,4,[ac c_1]⟩,some ⟨0,4,[.agg [I (0),str ([]),I (0),.isl true []]]⟩] 33 (by kernel_rfl) ?_
 refine cG 17 [.agg [I (0),str ([]),I (0),.usl 4 (([]).map aa)]] rfl rfl (ao (dC (ao (.refl _) (ao (.refl _) (ao (.refl _) (ao (.nil _) bv))))) bv) ?_
 refine cq 6 [4] [ac c_1] 65 ?_
 obtain⟨r2,hr2,h⟩:=bS h
 refine oq 81 (B r2) rfl (cP (Eh hr2)) ?_
 refine cq 2 [6] [B (!r2)] 97 ?_
 refine sq h ?_ ?_<;>intro h
 ·refine ck 4 [] [] [17] [] [] [some ⟨2,4,[.agg [I (0),str ([]),I (0),.isl true []]]⟩] 129 (by kernel_rfl) ?_
  refine cG 17 [.agg [I (0),str ([]),I (0),.usl 4 (([]).map aa)]] rfl rfl (ao (dC (ao (.refl _) (ao (.refl _) (ao (.refl _) (ao (.nil _) bv))))) bv) ?_
  refine cq 2 [3] [B false] 145 ?_
  obtain rfl:=sI h
  exact bH rfl ⟨_,fin (vs:=[.agg [I (0),str ([]),I (0),.hs 17 3 [(0,3)] 4 0 (([]).map aa).length],B false]) (eO (dh rfl rfl rfl) (eO rfl fx)) (cn (dY (au (aA rfl) (au (aA rfl) (au (aA rfl) (au (eu (path:=[(0,3)]) rfl rfl (dm rfl rfl aB) rfl (fG (path:=[]) (i:=0) (k:=3) (e':=.agg [I (0),str ([]),I (0),.dead]) (es2':=[.agg [I (0),str ([]),I (0),.dead]]) aB rfl rfl rfl dt)) dZ))))) (cn (be rfl) bT)) rfl (eF dG),dw⟩
 ·refine aq 1 ?_
  refine cq 3 [8] [ac c_1] 113 ?_
  obtain⟨r3,hr3,h⟩:=bS h
  refine oq 129 (ac r3) rfl (cP (S4 hr3)) ?_
  obtain⟨r4,hr4,h⟩:=bS h
  refine oq 145 (.agg [I r4.Op,str r4.Name,I r4.Day,.hs 129 0 [] 4 0 (r4.Parts.map aa).length]) rfl (cP (S3 hr4)) ?_
  refine o0 161 rfl rfl (gH rfl rfl (fP (path:=[]) (pl:=false) (e':=ar r4) (es2':=[ar r4]) rfl (dY (au (aA rfl) (au (aA rfl) (au (aA rfl) (au (ec rfl rfl) dZ))))) rfl rfl rfl aB rfl rfl rfl rfl rfl dt 2 rfl)) ?_
  refine cq 2 [3] [B true] 177 ?_
  obtain rfl:=sI h
  exact bH rfl ⟨_,fin (vs:=[.agg [I r4.Op,str r4.Name,I r4.Day,.hs 17 2 [(0,3)] 4 0 (r4.Parts.map aa).length],B true]) (eO (dh rfl rfl rfl) (eO rfl fx)) (cn (dY (au (aA rfl) (au (aA rfl) (au (aA rfl) (au (eu (path:=[(0,3)]) rfl rfl (dm rfl rfl aB) rfl (fG (path:=[]) (i:=0) (k:=3) (e':=.agg [I r4.Op,str r4.Name,I r4.Day,.dead]) (es2':=[.agg [I r4.Op,str r4.Name,I r4.Day,.dead]]) aB rfl rfl rfl dt)) dZ))))) (cn (be rfl) bT)) rfl (eF dG),dw⟩
theorem Np {G:cW}[TabG Tryz.prog G]:cX G 7 Co:=gT 1 0 (aQ rQ (aQ NC (aQ Nz ch))) dF Tryz.func7 (fun a r h=>Pv a r h)
def nP:(Int×Int×Int)→List V:=cA I (cA I (oA I))
def nQ (r:Bool):V×List V:=(B r,[])
noncomputable def lR :=bu [false,false,false] nP nQ fun x=>iQ x.1 x.2.1 x.2.2
theorem wN {x_1:Int}{a_2:Int}{b_3:Int}{r}(h:iQ x_1 a_2 b_3=some r):lR.F (nP (x_1,a_2,b_3))=some (nQ r):=ba (cI d6 (cI d6 (bb d6))) h
noncomputable def wP :=aY Tryz.f45
noncomputable def qH :=dE []
def wO (x:Int×Int×Int)(r:Bool):St→Prop:=QF qH Tryz.f45 [false,false,false] (nP x) (nQ r)
theorem Ea (x_1:Int)(a_2:Int)(b_3:Int)(r:Bool)(h:iQ x_1 a_2 b_3=some r):b7 qH Tryz.f45 [false,false,false] 0 (nP (x_1,a_2,b_3)) (nQ r):=by
 show Run _ _ (wO (x_1,a_2,b_3) r) [.code wP] _
 refine rI 15 [(0,I x_1),(1,I a_2),(2,I b_3)] [] 1 ?_
 unfold iQ at h
 refine cq 10 [10] [B (decide (x_1≥a_2))] 81 ?_
 obtain⟨u4,hu4,h⟩:=lJ h
 have j4:Run qH 0 (wO (x_1,a_2,b_3) r) (.code (cR (cR wP))::[]) (sT 15 [(6,B u4)] [] 1):=by
  obtain rfl:=sI h
  exact rP [B u4]
 replace h:=hu4
 clear hu4
 refine sp 10 h rfl ?_ ?_<;>intro h
 ·refine cq 6 [6] [B (decide (x_1≤b_3))] 161 ?_
  subst h
  exact rf [6] [] (j4 :)
 ·refine cq 6 [6] [B false] 161 ?_
  subst h
  exact rf [6] [] (j4 :)
theorem rF {G:cW}[TabG Tryz.prog G]:cX G 45 lR:=gT 3 0 ch dF Tryz.func45 (fun a r h=>Ea a.1 a.2.1 a.2.2 r h)
def Al:Int→List V:=oA (V.int .u8)
def Am (r:Bool):V×List V:=(B r,[])
noncomputable def xN :=bu [false] Al Am fun x=>tZ x
theorem RE {b_1:Int}{r}(h:tZ b_1=some r):xN.F (Al b_1)=some (Am r):=ba (bb (l5 (k:=.u8))) h
noncomputable def uc :=aY Tryz.f59
noncomputable def qX :=dE []
def ub (x:Int)(r:Bool):St→Prop:=QF qX Tryz.f59 [false] (Al x) (Am r)
theorem Nd (b_1:Int)(r:Bool)(h:tZ b_1=some r):b7 qX Tryz.f59 [false] 0 (Al b_1) (Am r):=by
 show Run _ _ (ub b_1 r) [.code uc] _
 refine rI 17 [(0,.int .u8 b_1)] [] 1 ?_
 unfold tZ at h
 refine cq 9 [5] [B (decide (b_1≥97))] 65 ?_
 obtain⟨u2,hu2,h⟩:=lJ h
 have j2:Run qX 0 (ub b_1 r) (.code (cR (cR uc))::[]) (sT 17 [(2,B u2)] [] 1):=by
  obtain rfl:=sI h
  exact rP [B u2]
 replace h:=hu2
 clear hu2
 refine sp 5 h rfl ?_ ?_<;>intro h
 ·refine cq 4 [9] [B (decide (b_1≤122))] 129 ?_
  obtain⟨u3,hu3,h⟩:=lJ h
  have j3:Run qX 0 (ub b_1 r) (.code (cR (cR uc))::[]) (sT 17 [(2,B u3)] [] 1):=by
   subst h
   exact rf [2] [] (j2 :)
  replace h:=hu3
  clear hu3
  refine sp 9 h rfl ?_ ?_<;>intro h
  ·refine cq 9 [2] [B true] 257 ?_
   subst h
   exact rf [2] [] (j3 :)
  ·refine cq 3 [12] [B (decide (b_1≥48))] 177 ?_
   obtain⟨u4,hu4,h⟩:=lJ h
   have j4:Run qX 0 (ub b_1 r) (.code (cR (cR uc))::[]) (sT 17 [(2,B u4)] [] 1):=by
    subst h
    exact rf [2] [] (j3 :)
   replace h:=hu4
   clear hu4
   refine sp 12 h rfl ?_ ?_<;>intro h
   ·refine cq 6 [2] [B (decide (b_1≤57))] 257 ?_
    subst h
    exact rf [2] [] (j4 :)
   ·refine cq 6 [2] [B false] 257 ?_
    subst h
    exact rf [2] [] (j4 :)
 ·refine cq 7 [9,12] [B false,B (decide (b_1≥48))] 177 ?_
  obtain⟨u5,hu5,h⟩:=lJ h
  have j5:Run qX 0 (ub b_1 r) (.code (cR (cR uc))::[]) (sT 17 [(2,B u5)] [] 1):=by
   subst h
   exact rf [2] [] (j2 :)
  replace h:=hu5
  clear hu5
  refine sp 12 h rfl ?_ ?_<;>intro h
  ·refine cq 6 [2] [B (decide (b_1≤57))] 257 ?_
   subst h
   exact rf [2] [] (j5 :)
  ·refine cq 6 [2] [B false] 257 ?_
   subst h
   exact rf [2] [] (j5 :)
theorem KT {G:cW}[TabG Tryz.prog G]:cX G 59 xN:=gT 1 0 ch dF Tryz.func59 (fun a r h=>Nd a r h)
def Af:ae→List V:=oA str
def Ah (r:Bool):V×List V:=(B r,[])
noncomputable def rV :=bu [false] Af Ah fun x=>tW x
theorem Fq {s_1:ae}{r}(h:tW s_1=some r):rV.F (Af s_1)=some (Ah r):=ba (bb bU) h
noncomputable def nV :=aY Tryz.f44
noncomputable abbrev l9 :=cR (cR (cR (cR nV)))
noncomputable abbrev ma :=cR (cL (cR (cL (cR (cR (cR nV))))))
noncomputable def jg :=dE [(45,lR),(59,xN)]
def gY (x:ae)(r:Bool):St→Prop:=QF jg Tryz.f44 [false] (Af x) (Ah r)
theorem G3 (s_1:ae):eW jg 0 (gY s_1) (cL (cL (cR (cL (cR (cR nV)))))) 0 (qU s_1) (fun u=>(sT 40 [(0,str s_1)] [] 1)) fun x4=>(sT 40 [(0,str s_1),(3,I x4)] [] 1):=i7 (wo s_1) fun {Q K} hK self ih x4 y h hr hn=>by
 unfold mb at h
 refine cq 8 [21] [B (decide (x4<(len s_1)))] 65 ?_
 refine sq h ?_ ?_<;>intro h
 ·refine aq 1 ?_
  refine cq 6 [24,25] [str s_1,I x4] 97 ?_
  obtain⟨c5,hc5,h⟩:=bS h
  refine oq 113 (.int .u8 (c5.toNat:Int)) rfl (iD rfl rfl (lN rfl rfl hc5)) ?_
  obtain⟨r6,hr6,h⟩:=bS h
  refine oq 129 (B r6) rfl (cP (RE hr6)) ?_
  refine cq 2 [28] [B (!r6)] 145 ?_
  refine sq h ?_ ?_<;>intro h
  ·refine cq 4 [2] [B false] 161 ?_
   exact bH rfl (hr _ (ak h) _ (qp [B false]))
  ·refine aq 1 ?_
   refine cq 6 [3] [I (aF (x4+1))] 193 ?_
   refine fF ?_
   exact rf [0,3] [] (ih _ _ h hr hn :)
 ·refine aq 1 ?_
  exact rf [0] [] (hn _ (ak h) :) (hk:=hK)
theorem Nb (s_1:ae)(r:Bool)(h:tW s_1=some r):b7 jg Tryz.f44 [false] 0 (Af s_1) (Ah r):=by
 show Run _ _ (gY s_1 r) [.code nV] _
 refine rI 40 [(0,str s_1)] [] 1 ?_
 unfold tW at h
 refine cq 9 [5] [I (len s_1)] 49 ?_
 obtain⟨r2,hr2,h⟩:=bS h
 refine oq 65 (B r2) rfl (cP (wN hr2)) ?_
 refine cq 2 [8] [B (!r2)] 97 ?_
 obtain⟨y3,hy3,hy31,hy32⟩:=bJ h
 have j3:∀u3,y3=.inr u3→Run jg 0 (gY s_1 r) (.code (cR (cL (cR nV)))::.code (cR (cR nV))::[]) (sT 40 [(0,str s_1),(17,B u3)] [] 1):=by
  intro u3 hu
  replace h:=hy32 u3 hu
  refine sq h ?_ ?_<;>intro h
  ·refine cq 4 [2] [B false] 17 ?_
   obtain rfl:=sI h
   exact rP [B false]
  ·refine aq 1 ?_
   refine cq 6 [3] [I (0)] 17 ?_
   obtain⟨y7,hy7,hy71,hy72⟩:=bJ h
   refine ep rfl ?_
   refine rf [0,3] [] (G3 s_1 rfl 0 _ hy7 (fun r' e st hq=>by rw[hy71 r' e] at hq;exact hq) fun u7 hu=>?_)
   replace h:=hy72 u7 hu
   refine cq 12 [29,30] [str s_1,B (s_1==([116,114,117,101]:ae))] 49 ?_
   obtain⟨u8,hu8,h⟩:=lJ h
   have j8:Run jg 0 (gY s_1 r) (.code ma::.blk 2::.code l9::[]) (sT 40 [(30,B u8)] [] 1):=by
    refine sq h ?_ ?_<;>intro h
    ·refine cq 4 [2] [B false] 17 ?_
     obtain rfl:=sI h
     exact rP [B false]
    ·refine aq 1 ?_
     refine cq 5 [2] [B true] 17 ?_
     obtain rfl:=sI h
     exact rP [B true]
   replace h:=hu8
   clear hu8
   refine om h rfl rfl ?_ ?_<;>intro h
   ·refine aq 1 ?_
    subst h
    exact rf [30] [] (j8 :)
   ·refine cq 5 [30] [B (s_1==([102,114,111,109]:ae))] 81 ?_
    obtain⟨u9,hu9,h⟩:=lJ h
    have j9:Run jg 0 (gY s_1 r) (.code ma::.blk 2::.code l9::[]) (sT 40 [(30,B u9)] [] 1):=by
     subst h
     exact rf [30] [] (j8 :)
    replace h:=hu9
    clear hu9
    refine om h rfl rfl ?_ ?_<;>intro h
    ·refine aq 1 ?_
     subst h
     exact rf [30] [] (j9 :)
    ·refine cq 5 [30] [B (s_1==([110,111,116]:ae))] 113 ?_
     obtain⟨u10,hu10,h⟩:=lJ h
     have j10:Run jg 0 (gY s_1 r) (.code ma::.blk 2::.code l9::[]) (sT 40 [(30,B u10)] [] 1):=by
      subst h
      exact rf [30] [] (j9 :)
     replace h:=hu10
     clear hu10
     refine om h rfl rfl ?_ ?_<;>intro h
     ·refine aq 1 ?_
      subst h
      exact rf [30] [] (j10 :)
     ·refine cq 5 [30] [B (s_1==([97,110,100]:ae))] 145 ?_
      obtain⟨u11,hu11,h⟩:=lJ h
      have j11:Run jg 0 (gY s_1 r) (.code ma::.blk 2::.code l9::[]) (sT 40 [(30,B u11)] [] 1):=by
       subst h
       exact rf [30] [] (j10 :)
      replace h:=hu11
      clear hu11
      refine om h rfl rfl ?_ ?_<;>intro h
      ·refine aq 1 ?_
       subst h
       exact rf [30] [] (j11 :)
      ·refine cq 5 [30] [B (s_1==([111,114]:ae))] 177 ?_
       obtain⟨u12,hu12,h⟩:=lJ h
       have j12:Run jg 0 (gY s_1 r) (.code ma::.blk 2::.code l9::[]) (sT 40 [(30,B u12)] [] 1):=by
        subst h
        exact rf [30] [] (j11 :)
       replace h:=hu12
       clear hu12
       refine om h rfl rfl ?_ ?_<;>intro h
       ·refine aq 1 ?_
        subst h
        exact rf [30] [] (j12 :)
       ·refine cq 5 [30] [B (s_1==([98,111,116,104]:ae))] 209 ?_
        obtain⟨u13,hu13,h⟩:=lJ h
        have j13:Run jg 0 (gY s_1 r) (.code ma::.blk 2::.code l9::[]) (sT 40 [(30,B u13)] [] 1):=by
         subst h
         exact rf [30] [] (j12 :)
        replace h:=hu13
        clear hu13
        refine om h rfl rfl ?_ ?_<;>intro h
        ·refine aq 1 ?_
         subst h
         exact rf [30] [] (j13 :)
        ·refine cq 5 [30] [B (s_1==([101,105,116,104,101,114]:ae))] 241 ?_
         obtain⟨u14,hu14,h⟩:=lJ h
         have j14:Run jg 0 (gY s_1 r) (.code ma::.blk 2::.code l9::[]) (sT 40 [(30,B u14)] [] 1):=by
          subst h
          exact rf [30] [] (j13 :)
         replace h:=hu14
         clear hu14
         refine om h rfl rfl ?_ ?_<;>intro h
         ·refine aq 1 ?_
          subst h
          exact rf [30] [] (j14 :)
         ·refine cq 5 [30] [B (s_1==([105,116]:ae))] 273 ?_
          obtain⟨u15,hu15,h⟩:=lJ h
          have j15:Run jg 0 (gY s_1 r) (.code ma::.blk 2::.code l9::[]) (sT 40 [(30,B u15)] [] 1):=by
           subst h
           exact rf [30] [] (j14 :)
          replace h:=hu15
          clear hu15
          refine om h rfl rfl ?_ ?_<;>intro h
          ·refine aq 1 ?_
           subst h
           exact rf [30] [] (j15 :)
          ·refine cq 4 [30] [B (s_1==([105,110]:ae))] 305 ?_
           subst h
           exact rf [30] [] (j15 :)
 have r3:∀r',y3=.inl r'→∀st,gY s_1 r' st→(gY s_1 r) st:=fun r' e st hq=>by rw[hy31 r' e] at hq;exact hq
 replace h:=hy3
 refine sp 8 h rfl ?_ ?_<;>intro h
 ·refine cq 10 [17] [B true] 241 ?_
  exact rf [0,17] [] (j3 _ (ak h) :)
 ·refine cq 1 [9] [str s_1] 113 ?_
  obtain⟨c16,hc16,h⟩:=bS h
  refine oy 129 (.int .u8 (c16.toNat:Int)) rfl (iD rfl rfl (lN rfl rfl hc16)) ?_
  refine cq 3 [13] [B (decide ((c16.toNat:Int)<97))] 177 ?_
  obtain⟨y17,hy17,hy171,hy172⟩:=bL h
  have j17:∀u17,y17=.inr u17→Run jg 0 (gY s_1 r) (.code (cR (cL (cR nV)))::.code (cR (cR nV))::[]) (sT 40 [(0,str s_1),(17,B u17)] [] 1):=by
   intro u17 hu
   replace h:=hy172 u17 hu
   exact rf [0,17] [] (j3 _ (ak h) :)
  have r17:∀r',y17=.inl r'→∀st,gY s_1 r' st→(gY s_1 r) st:=fun r' e st hq=>r3 r' (hy171 r' e) st hq
  replace h:=hy17
  refine sp 13 h rfl ?_ ?_<;>intro h
  ·refine cq 5 [17] [B true] 241 ?_
   exact rf [0,17] [] (j17 _ (ak h) :)
  ·refine cq 1 [14] [str s_1] 193 ?_
   obtain⟨c18,hc18,h⟩:=bS h
   refine oy 209 (.int .u8 (c18.toNat:Int)) rfl (iD rfl rfl (lN rfl rfl hc18)) ?_
   refine cq 3 [17] [B (decide ((c18.toNat:Int)>122))] 241 ?_
   exact rf [0,17] [] (j17 _ (ak h) :)
theorem Db {G:cW}[TabG Tryz.prog G]:cX G 44 rV:=gT 1 0 (aQ rF (aQ KT ch)) dF Tryz.func44 (fun a r h=>Nb a r h)
def zO:Int→List V:=oA I
def zP (r:Bool):V×List V:=(B r,[])
noncomputable def rO :=bu [false] zO zP fun x=>rN x
theorem KD {bi:Int}{r}(h:rN bi=some r):rO.F (zO bi)=some (zP r):=ba (bb d6) h
noncomputable def Rv :=aY Tryz.f24
noncomputable def KC :=dE [(45,lR)]
def Ru (x:Int)(r:Bool):St→Prop:=QF KC Tryz.f24 [false] (zO x) (zP r)
theorem M1 (bi:Int)(r:Bool)(h:rN bi=some r):b7 KC Tryz.f24 [false] 0 (zO bi) (zP r):=by
 show Run _ _ (Ru bi r) [.code Rv] _
 refine rI 5 [(0,I bi)] [] 1 ?_
 unfold rN at h
 refine cq 7 [3] [I bi] 33 ?_
 obtain⟨r2,hr2,h⟩:=bS h
 refine oq 49 (B r2) rfl (cP (wN hr2)) ?_
 refine cq 2 [2] [B r2] 65 ?_
 obtain rfl:=sI h
 exact rP [B r2]
theorem C8 {G:cW}[TabG Tryz.prog G]:cX G 24 rO:=gT 1 0 (aQ rF ch) dF Tryz.func24 (fun a r h=>M1 a r h)
def zV:Condition→List V:=oA ac
def zW (r:Bool):V×List V:=(B r,[])
noncomputable def xI :=bu [false] zV zW fun x=>xH x
theorem RA {c_1:Condition}{r}(h:xH c_1=some r):xI.F (zV c_1)=some (zW r):=ba (bb bc) h
noncomputable def mo :=aY Tryz.f58
noncomputable abbrev jf :=cR (cR (cR mo))
noncomputable abbrev Hv :=cR (cL (cR (cR (cR (cL (cR (cL (cR (cR mo)))))))))
noncomputable abbrev Hw :=cR (cL (cR (cR (cR (cR (cR (cL (cR (cL (cR (cR mo)))))))))))
noncomputable abbrev Hx :=cR (cL (cR (cR (cR (cR (cR (cR (cR (cL (cR (cL (cR (cR mo)))))))))))))
noncomputable abbrev Hy :=cR (cL (cR (cR (cR (cR (cR (cR (cR (cR (cR (cL (cR (cL (cR (cR mo)))))))))))))))
noncomputable def je :=dE [(44,rV),(24,rO)]
def gk (x:Condition)(r:Bool):St→Prop:=QF je Tryz.f58 [false] (zV x) (zW r)
theorem M4 (c_1:Condition)(r:Bool)(h:xH c_1=some r):b7 je Tryz.f58 [false] 0 (zV c_1) (zW r):=by
 show Run _ _ (gk c_1 r) [.code mo] _
 refine rI 80 [(0,ac c_1)] [] 1 ?_
 unfold xH at h
 refine ck 9 [1,5] [] [1] [] [.hp 1 0 [] 4 0 0,.isl false (c_1.Parts.map ah)] [some ⟨0,4,[ac c_1]⟩] 65 (by kernel_rfl) ?_
 refine oq 81 (I (len c_1.Parts)) rfl (eX rfl rfl rfl (fN rfl)) ?_
 refine cq 14 [3,8,9] [I (len c_1.Parts),I c_1.Op,B (c_1.Op==1)] 161 ?_
 refine sq h ?_ ?_<;>intro h
 ·refine cq 5 [13] [B ((len c_1.Parts)==0)] 209 ?_
  obtain⟨u2,hu2,h⟩:=lJ h
  have j2:Run je 0 (gk c_1 r) (.code (cR (cL (cR (cL (cR (cL (cR (cR mo))))))))::.blk 0::.code jf::[]) (sT 80 [(2,B u2)] [] 1):=by
   obtain rfl:=sI h
   exact rP [B u2]
  replace h:=hu2
  clear hu2
  refine sp 13 h rfl ?_ ?_<;>intro h
  ·refine cq 5 [18] [B (c_1.Name==([]:ae))] 289 ?_
   obtain⟨u3,hu3,h⟩:=lJ h
   have j3:Run je 0 (gk c_1 r) (.code (cR (cL (cR (cL (cR (cL (cR (cR mo))))))))::.blk 0::.code jf::[]) (sT 80 [(2,B u3)] [] 1):=by
    subst h
    exact rf [2] [] (j2 :)
   replace h:=hu3
   clear hu3
   refine sp 18 h rfl ?_ ?_<;>intro h
   ·refine cq 6 [2] [B (c_1.Day==0)] 369 ?_
    subst h
    exact rf [2] [] (j3 :)
   ·refine cq 6 [2] [B false] 369 ?_
    subst h
    exact rf [2] [] (j3 :)
  ·refine cq 11 [2] [B false] 369 ?_
   subst h
   exact rf [2] [] (j2 :)
 ·refine cq 5 [23] [B (c_1.Op==2)] 193 ?_
  refine sq h ?_ ?_<;>intro h
  ·refine cq 5 [27] [B ((len c_1.Parts)==0)] 241 ?_
   obtain⟨y4,hy4,hy41,hy42⟩:=bJ h
   have j4:∀u4,y4=.inr u4→Run je 0 (gk c_1 r) (.code Hv::.blk 0::.code jf::[]) (sT 80 [(2,B u4)] [] 1):=by
    intro u4 hu
    replace h:=hy42 u4 hu
    obtain rfl:=sI h
    exact rP [B u4]
   have r4:∀r',y4=.inl r'→∀st,gk c_1 r' st→(gk c_1 r) st:=fun r' e st hq=>by rw[hy41 r' e] at hq;exact hq
   replace h:=hy4
   refine sp 27 h rfl ?_ ?_<;>intro h
   ·refine cq 2 [29] [str c_1.Name] 273 ?_
    obtain⟨r5,hr5,h⟩:=bS h
    refine oy 289 (B r5) rfl (cP (Fq hr5)) ?_
    refine cq 2 [32] [B r5] 321 ?_
    obtain⟨u6,hu6,h⟩:=lJ h
    have j6:Run je 0 (gk c_1 r) (.code Hv::.blk 0::.code jf::[]) (sT 80 [(2,B u6)] [] 1):=by
     exact rf [2] [] (j4 _ (ak h) :)
    replace h:=hu6
    clear hu6
    refine sp 32 h rfl ?_ ?_<;>intro h
    ·refine cq 6 [2] [B (c_1.Day==0)] 401 ?_
     subst h
     exact rf [2] [] (j6 :)
    ·refine cq 6 [2] [B false] 401 ?_
     subst h
     exact rf [2] [] (j6 :)
   ·refine cq 11 [2] [B false] 401 ?_
    exact rf [2] [] (j4 _ (ak h) :)
  ·refine cq 5 [37] [B (c_1.Op==3)] 225 ?_
   refine sq h ?_ ?_<;>intro h
   ·refine cq 5 [41] [B ((len c_1.Parts)==0)] 273 ?_
    obtain⟨y7,hy7,hy71,hy72⟩:=bJ h
    have j7:∀u7,y7=.inr u7→Run je 0 (gk c_1 r) (.code Hw::.blk 0::.code jf::[]) (sT 80 [(2,B u7)] [] 1):=by
     intro u7 hu
     replace h:=hy72 u7 hu
     obtain rfl:=sI h
     exact rP [B u7]
    have r7:∀r',y7=.inl r'→∀st,gk c_1 r' st→(gk c_1 r) st:=fun r' e st hq=>by rw[hy71 r' e] at hq;exact hq
    replace h:=hy7
    refine sp 41 h rfl ?_ ?_<;>intro h
    ·refine cq 5 [46] [B (c_1.Name==([]:ae))] 353 ?_
     obtain⟨y8,hy8,hy81,hy82⟩:=bL h
     have j8:∀u8,y8=.inr u8→Run je 0 (gk c_1 r) (.code Hw::.blk 0::.code jf::[]) (sT 80 [(2,B u8)] [] 1):=by
      intro u8 hu
      replace h:=hy82 u8 hu
      exact rf [2] [] (j7 _ (ak h) :)
     have r8:∀r',y8=.inl r'→∀st,gk c_1 r' st→(gk c_1 r) st:=fun r' e st hq=>r7 r' (hy81 r' e) st hq
     replace h:=hy8
     refine sp 46 h rfl ?_ ?_<;>intro h
     ·refine cq 2 [48] [I c_1.Day] 385 ?_
      obtain⟨r9,hr9,h⟩:=bS h
      refine oy 401 (B r9) rfl (cP (KD hr9)) ?_
      refine cq 3 [2] [B r9] 433 ?_
      exact rf [2] [] (j8 _ (ak h) :)
     ·refine cq 6 [2] [B false] 433 ?_
      exact rf [2] [] (j8 _ (ak h) :)
    ·refine cq 11 [2] [B false] 433 ?_
     exact rf [2] [] (j7 _ (ak h) :)
   ·refine cq 5 [51] [B (c_1.Op==4)] 257 ?_
    refine sq h ?_ ?_<;>intro h
    ·refine cq 5 [55] [B ((len c_1.Parts)==1)] 305 ?_
     obtain⟨u10,hu10,h⟩:=lJ h
     have j10:Run je 0 (gk c_1 r) (.code Hx::.blk 0::.code jf::[]) (sT 80 [(2,B u10)] [] 1):=by
      obtain rfl:=sI h
      exact rP [B u10]
     replace h:=hu10
     clear hu10
     refine sp 55 h rfl ?_ ?_<;>intro h
     ·refine cq 5 [60] [B (c_1.Name==([]:ae))] 385 ?_
      obtain⟨u11,hu11,h⟩:=lJ h
      have j11:Run je 0 (gk c_1 r) (.code Hx::.blk 0::.code jf::[]) (sT 80 [(2,B u11)] [] 1):=by
       subst h
       exact rf [2] [] (j10 :)
      replace h:=hu11
      clear hu11
      refine sp 60 h rfl ?_ ?_<;>intro h
      ·refine cq 6 [2] [B (c_1.Day==0)] 465 ?_
       subst h
       exact rf [2] [] (j11 :)
      ·refine cq 6 [2] [B false] 465 ?_
       subst h
       exact rf [2] [] (j11 :)
     ·refine cq 11 [2] [B false] 465 ?_
      subst h
      exact rf [2] [] (j10 :)
    ·refine cq 6 [65] [B (c_1.Op==5)] 289 ?_
     obtain⟨u12,hu12,h⟩:=lJ h
     have j12:Run je 0 (gk c_1 r) (.code (cR (cR (cR (cR (cR (cR (cR (cR (cR (cL (cR (cL (cR (cR mo))))))))))))))::.blk 0::.code jf::[]) (sT 80 [(1,.hp 1 0 [] 4 0 0),(3,I (len c_1.Parts)),(65,B u12)] [⟨0,4,[ac c_1]⟩] 2):=by
      refine sq h ?_ ?_<;>intro h
      ·refine cq 5 [70] [B ((len c_1.Parts)==2)] 50 ?_
       obtain⟨u13,hu13,h⟩:=lJ h
       have j13:Run je 0 (gk c_1 r) (.code Hy::.blk 0::.code jf::[]) (sT 80 [(2,B u13)] [] 1):=by
        obtain rfl:=sI h
        exact rP [B u13]
       replace h:=hu13
       clear hu13
       refine sp 70 h rfl ?_ ?_<;>intro h
       ·refine cq 5 [75] [B (c_1.Name==([]:ae))] 130 ?_
        obtain⟨u14,hu14,h⟩:=lJ h
        have j14:Run je 0 (gk c_1 r) (.code Hy::.blk 0::.code jf::[]) (sT 80 [(2,B u14)] [] 1):=by
         subst h
         exact rf [2] [] (j13 :)
        replace h:=hu14
        clear hu14
        refine sp 75 h rfl ?_ ?_<;>intro h
        ·refine cq 6 [2] [B (c_1.Day==0)] 210 ?_
         subst h
         exact rf [2] [] (j14 :)
        ·refine cq 6 [2] [B false] 210 ?_
         subst h
         exact rf [2] [] (j14 :)
       ·refine cq 11 [2] [B false] 210 ?_
        subst h
        exact rf [2] [] (j13 :)
      ·refine aq 1 ?_
       refine cq 5 [2] [B false] 18 ?_
       obtain rfl:=sI h
       exact rP [B false]
     replace h:=hu12
     clear hu12
     refine om h rfl rfl ?_ ?_<;>intro h
     ·refine aq 1 ?_
      subst h
      exact rf [1,3,65] [1] (j12 :)
     ·refine cq 4 [65] [B (c_1.Op==6)] 321 ?_
      subst h
      exact rf [1,3,65] [1] (j12 :)
theorem KI {G:cW}[TabG Tryz.prog G]:cX G 58 xI:=gT 1 0 (aQ Db (aQ C8 ch)) dF Tryz.func58 (fun a r h=>M4 a r h)
def tP:Condition→List V:=oA ac
def tQ (r:Bool):V×List V:=(B r,[])
noncomputable def tR (bP:Condition→Option Bool):Ent:=bu [false] tP tQ bP
theorem Hz (bP:Condition→Option Bool){x}{r}(h:bP x=some r):(tR bP).F (tP x)=some (tQ r):=ba (bb bc) h
noncomputable def xJ :=tR (aE pr)
theorem RB {c_1:Condition}{r}(h:Ci c_1=some r):xJ.F (tP c_1)=some (tQ r):=Hz (aE pr) h
noncomputable def KK :=aY Tryz.f43
noncomputable def Fn (bP:Condition→Option Bool):Env:=dE [(58,xI),(43,(tR bP))]
def KJ (bP:Condition→Option Bool)(x:Condition)(r:Bool):St→Prop:=QF (Fn bP) Tryz.f43 [false] (tP x) (tQ r)
theorem G1 (bP:Condition→Option Bool)(c_1:Condition):eW (Fn bP) 0 (KJ bP c_1) (cL (cL (cR (cL (cR (cR KK)))))) 0 (pf bP c_1) (fun u=>(sT 21 [] [] 1)) fun x3=>(sT 21 [(1,.hp 1 0 [] 4 0 0),(3,I x3)] [⟨0,4,[ac c_1]⟩] 2):=i7 (wm bP c_1) fun {Q K} hK self ih x3 y h hr hn=>by
 unfold ku at h
 refine cq 6 [7,9] [I x3,.isl false (c_1.Parts.map ah)] 50 ?_
 refine oq 66 (I (len c_1.Parts)) rfl (eX rfl rfl rfl (fN rfl)) ?_
 refine cq 2 [11] [B (decide (x3<(len c_1.Parts)))] 82 ?_
 refine sq h ?_ ?_<;>intro h
 ·refine aq 1 ?_
  refine cq 7 [15,16] [.isl false (c_1.Parts.map ah),I x3] 130 ?_
  obtain⟨e4,he4,h⟩:=bS h
  refine oq 146 (.iptr (ac e4) 0) rfl (aJ rfl rfl rfl (cC rfl rfl (aC e4) rfl he4)) ?_
  refine cq 1 [18] [ac e4] 162 ?_
  obtain⟨r5,hr5,h⟩:=bS h
  refine oq 178 (B r5) rfl (aH rfl rfl (aP rfl rfl rfl (bd (bx rfl) bE) (Hz bP hr5) (.inr rfl) bm rfl rfl rfl)) ?_
  refine cq 2 [20] [B (!r5)] 194 ?_
  refine sq h ?_ ?_<;>intro h
  ·refine cq 4 [2] [B false] 210 ?_
   exact bH rfl (hr _ (ak h) _ (qp [B false]))
  ·refine aq 1 ?_
   refine cq 6 [3] [I (aF (x3+1))] 242 ?_
   refine fF ?_
   exact rf [1,3] [1] (ih _ _ h hr hn :)
 ·refine aq 1 ?_
  exact rf [] [] (hn _ (ak h) :) (hk:=hK)
theorem M6 (bP:Condition→Option Bool)(c_1:Condition)(r:Bool)(h:qR bP c_1=some r):b7 (Fn bP) Tryz.f43 [false] 0 (tP c_1) (tQ r):=by
 show Run _ _ (KJ bP c_1 r) [.code KK] _
 refine rI 21 [(0,ac c_1)] [] 1 ?_
 unfold qR at h
 refine ck 9 [1,4] [] [1] [] [.hp 1 0 [] 4 0 0,ac c_1] [some ⟨0,4,[ac c_1]⟩] 49 (by kernel_rfl) ?_
 obtain⟨r2,hr2,h⟩:=bS h
 refine oq 65 (B r2) rfl (cP (RA hr2)) ?_
 refine cq 2 [6] [B (!r2)] 81 ?_
 refine sq h ?_ ?_<;>intro h
 ·refine cq 4 [2] [B false] 97 ?_
  obtain rfl:=sI h
  exact rP [B false]
 ·refine aq 1 ?_
  refine cq 6 [3] [I (0)] 97 ?_
  obtain⟨y6,hy6,hy61,hy62⟩:=bJ h
  refine ep rfl ?_
  refine rf [1,3] [1] (G1 bP c_1 rfl 0 _ hy6 (fun r' e st hq=>by rw[hy61 r' e] at hq;exact hq) fun u6 hu=>?_)
  replace h:=hy62 u6 hu
  refine cq 4 [2] [B true] 17 ?_
  obtain rfl:=sI h
  exact rP [B true]
theorem KL {G:cW}[TabG Tryz.prog G]:cX G 43 xJ:=gq fun bP g_Ffcd=>gT 1 0 (aQ KI (aQ g_Ffcd ch)) dF Tryz.func43 (fun a r h=>M6 bP a r h)
def zX:Condition→List V:=oA ac
def zZ (r:Bool):V×List V:=(B r,[])
noncomputable def rU :=bu [false] zX zZ fun x=>tS x
theorem KM {c_1:Condition}{r}(h:tS c_1=some r):rU.F (zX c_1)=some (zZ r):=ba (bb bc) h
noncomputable def KN :=aY Tryz.f22
noncomputable def Fo :=dE [(43,xJ),(32,rY)]
def zY (x:Condition)(r:Bool):St→Prop:=QF Fo Tryz.f22 [false] (zX x) (zZ r)
theorem M7 (c_1:Condition)(r:Bool)(h:tS c_1=some r):b7 Fo Tryz.f22 [false] 0 (zX c_1) (zZ r):=by
 show Run _ _ (zY c_1 r) [.code KN] _
 refine rI 10 [(0,ac c_1)] [] 1 ?_
 unfold tS at h
 refine ck 8 [1,3] [] [1] [] [.hp 1 0 [] 4 0 0,ac c_1] [some ⟨0,4,[ac c_1]⟩] 49 (by kernel_rfl) ?_
 obtain⟨r2,hr2,h⟩:=bS h
 refine oq 65 (B r2) rfl (cP (RB hr2)) ?_
 refine cq 1 [5] [B r2] 81 ?_
 obtain⟨y3,hy3,hy31,hy32⟩:=bJ h
 have j3:∀u3,y3=.inr u3→Run Fo 0 (zY c_1 r) (.code (cR (cR KN))::[]) (sT 10 [(2,B u3)] [] 1):=by
  intro u3 hu
  replace h:=hy32 u3 hu
  obtain rfl:=sI h
  exact rP [B u3]
 have r3:∀r',y3=.inl r'→∀st,zY c_1 r' st→(zY c_1 r) st:=fun r' e st hq=>by rw[hy31 r' e] at hq;exact hq
 replace h:=hy3
 refine sp 5 h rfl ?_ ?_<;>intro h
 ·refine cq 1 [6] [ac c_1] 97 ?_
  obtain⟨r4,hr4,h⟩:=bS h
  refine oy 113 (I r4) rfl (cP (KU hr4)) ?_
  refine cq 4 [2] [B (decide (r4≤15))] 161 ?_
  exact rf [2] [] (j3 _ (ak h) :)
 ·refine cq 6 [2] [B false] 161 ?_
  exact rf [2] [] (j3 _ (ak h) :)
theorem Da {G:cW}[TabG Tryz.prog G]:cX G 22 rU:=gT 1 0 (aQ KL (aQ Dd ch)) dF Tryz.func22 (fun a r h=>M7 a r h)
def zS:(List ae)→List V:=oA (oI str)
def zU (r:Bool):V×List V:=(B r,[])
noncomputable def xG :=bu [false] zS zU fun x=>xF x
theorem Rz {aW:List ae}{r}(h:xF aW=some r):xG.F (zS aW)=some (zU r):=ba (bb (fK bU)) h
noncomputable def KG :=aY Tryz.f23
noncomputable abbrev jW :=cL (cL (cR (cL (cR KG))))
noncomputable def qQ :=dE [(44,rV)]
def zT (x:(List ae))(r:Bool):St→Prop:=QF qQ Tryz.f23 [false] (zS x) (zU r)
theorem G0 (aW:List ae):eW qQ 0 (zT aW) jW 0 (iC aW) (fun u=>(sT 39 [(0,.isl false (aW.map str))] [] 1)) fun x2=>(sT 39 [(0,.isl false (aW.map str)),(3,I x2)] [] 1):=i7 (wl aW) fun {Q K} hK self ih x2 y h hr hn=>by
 unfold ju at h
 refine cq 5 [4,5] [I x2,.isl false (aW.map str)] 33 ?_
 refine oq 49 (I (len aW)) rfl (eX rfl rfl rfl (fN rfl)) ?_
 refine cq 2 [8] [B (decide (x2<(len aW)))] 81 ?_
 obtain⟨u3,hu3,h⟩:=lJ h
 have j3:Run qQ 0 Q (.code (cR (cL jW))::.code (cR jW)::.lp jW::.blk 0::K) (sT 39 [(0,.isl false (aW.map str)),(3,I x2),(11,B u3)] [] 1):=by
  refine sq h ?_ ?_<;>intro h
  ·refine aq 1 ?_
   refine aq 3 ?_
   refine gN [0,0,3,7,15,31,63,127,255,511,1023,1023,3071,8191,16383,1023,1023,99327,230399,524287,1048575,2097151] rfl (by decide +kernel) ?_
   refine dk 2 [15,14] [I x2,.isl false (aW.map str)] ?_
   obtain⟨e4,he4,h⟩:=bS h
   refine dq [] [] (.iptr (str e4) 0) rfl (aJ rfl rfl rfl (cC rfl rfl rfl rfl he4)) ?_
   refine dq [] [] (str e4) rfl (dD rfl rfl) ?_
   obtain⟨r5,hr5,h⟩:=bS h
   refine dq [] [] (B r5) rfl (cP (Fq hr5)) ?_ (fb rfl rfl rfl rfl (bd (bx rfl) bE) (Fq hr5) (.inr rfl) rfl)
   refine dk 2 [20,19] [B (!r5),B (!r5)] ?_
   obtain⟨y6,hy6,hy61,hy62⟩:=bL h
   have j6:∀u6,y6=.inr u6→Run qQ 0 Q (.code (cR (cL (cL (cR jW))))::.blk 1::.code (cR (cR jW))::.lp jW::.blk 0::K) (sT 39 [(0,.isl false (aW.map str)),(3,I x2),(35,B u6)] [] 1):=by
    intro u6 hu
    replace h:=hy62 u6 hu
    refine sq h ?_ ?_<;>intro h
    ·refine cq 4 [2] [B false] 17 ?_
     exact bH rfl (hr _ (ak h) _ (qp [B false]))
    ·refine aq 1 ?_
     refine cq 6 [3] [I (aF (x2+1))] 49 ?_
     refine fF ?_
     exact rf [0,3] [] (ih _ _ h hr hn :)
   have r6:∀r',y6=.inl r'→∀st,zT aW r' st→Q st:=fun r' e st hq=>hr r' (hy61 r' e) st hq
   replace h:=hy6
   refine sp 20 h rfl ?_ ?_<;>intro h
   ·refine dk 15 [35,34,33,32,31,30,29,28,27,26,25,24,23,22,21] [B true,.und,.und,.und,.und,.und,.und,.und,.und,.und,.und,.und,.und,.und,.und] ?_
    refine de 353 rfl rfl ?_
    exact rf [0,3,35] [] (j6 _ (ak h) :)
   ·refine dk 3 [23,22,21] [B (decide (x2>0)),B (decide (x2>0)),I x2] ?_
    obtain⟨y7,hy7,hy71,hy72⟩:=bL h
    have j7:∀u7,y7=.inr u7→Run qQ 0 Q (.code (cR (cL (cL (cR jW))))::.blk 1::.code (cR (cR jW))::.lp jW::.blk 0::K) (sT 39 [(0,.isl false (aW.map str)),(3,I x2),(35,B u7)] [] 1):=by
     intro u7 hu
     replace h:=hy72 u7 hu
     exact rf [0,3,35] [] (j6 _ (ak h) :)
    have r7:∀r',y7=.inl r'→∀st,zT aW r' st→Q st:=fun r' e st hq=>r6 r' (hy71 r' e) st hq
    replace h:=hy7
    refine sp 23 h rfl ?_ ?_<;>intro h
    ·refine dk 3 [26,25,24] [I (aF (x2 - 1)),I x2,.isl false (aW.map str)] ?_
     obtain⟨e8,he8,h⟩:=bS h
     refine dy [] [] (.iptr (str e8) 0) rfl (aJ rfl rfl rfl (cC rfl rfl rfl rfl he8)) ?_
     refine dy [] [] (str e8) rfl (dD rfl rfl) ?_
     refine dk 2 [30,29] [I x2,.isl false (aW.map str)] ?_
     obtain⟨e9,he9,h⟩:=bS h
     refine dy [] [] (.iptr (str e9) 0) rfl (aJ rfl rfl rfl (cC rfl rfl rfl rfl he9)) ?_
     refine dy [] [] (str e9) rfl (dD rfl rfl) ?_
     refine dk 3 [35,34,33] [B (!(Op.bytesLess e8 e9)),B (!(Op.bytesLess e8 e9)),B (!(Op.bytesLess e8 e9))] ?_
     refine de 353 rfl rfl ?_
     exact rf [0,3,35] [] (j7 _ (ak h) :)
    ·refine dk 12 [35,34,33,32,31,30,29,28,27,26,25,24] [B false,B false,.und,.und,.und,.und,.und,.und,.und,.und,.und,.und] ?_
     refine de 353 rfl rfl ?_
     exact rf [0,3,35] [] (j7 _ (ak h) :)
  ·refine aq 1 ?_
   exact rf [0] [] (hn _ (ak h) :) (hk:=hK)
 replace h:=hu3
 clear hu3
 refine sp 8 h rfl ?_ ?_<;>intro h
 ·refine cq 4 [11] [B (decide (x2≤16))] 129 ?_
  subst h
  exact rf [0,3,11] [] (j3 :)
 ·refine cq 4 [11] [B false] 129 ?_
  subst h
  exact rf [0,3,11] [] (j3 :)
theorem M3 (aW:List ae)(r:Bool)(h:xF aW=some r):b7 qQ Tryz.f23 [false] 0 (zS aW) (zU r):=by
 show Run _ _ (zT aW r) [.code KG] _
 refine rI 39 [(0,.isl false (aW.map str))] [] 1 ?_
 unfold xF at h
 refine cq 10 [3] [I (0)] 33 ?_
 obtain⟨y10,hy10,hy101,hy102⟩:=bJ h
 refine ep rfl ?_
 refine rf [0,3] [] (G0 aW rfl 0 _ hy10 (fun r' e st hq=>by rw[hy101 r' e] at hq;exact hq) fun u10 hu=>?_)
 replace h:=hy102 u10 hu
 refine cq 3 [36] [.isl false (aW.map str)] 17 ?_
 refine oq 33 (I (len aW)) rfl (eX rfl rfl rfl (fN rfl)) ?_
 refine cq 3 [2] [B (decide ((len aW)≤16))] 65 ?_
 obtain rfl:=sI h
 exact rP [B (decide ((len aW)≤16))]
theorem KH {G:cW}[TabG Tryz.prog G]:cX G 23 xG:=gT 1 0 (aQ Db ch) dF Tryz.func23 (fun a r h=>M3 a r h)
def Aa:((List ae)×ae)→List V:=cA (oI str) (oA str)
def Ab (r:Bool):V×List V:=(B r,[])
noncomputable def xL :=bu [false,false] Aa Ab fun x=>xK x.1 x.2
theorem RC {aW:List ae}{eC:ae}{r}(h:xK aW eC=some r):xL.F (Aa (aW,eC))=some (Ab r):=ba (cI (fK bU) (bb bU)) h
noncomputable def KP :=aY Tryz.f46
noncomputable def Fp :=dE []
def KO (x:(List ae)×ae)(r:Bool):St→Prop:=QF Fp Tryz.f46 [false,false] (Aa x) (Ab r)
theorem G2 (aW:List ae)(eC:ae):eW Fp 0 (KO (aW,eC)) (cL (cL (cR (cL (cR KP))))) 0 (qS aW eC) (fun u=>(sT 18 [] [] 1)) fun x3=>(sT 18 [(0,.isl false (aW.map str)),(1,str eC),(5,I x3)] [] 1):=i7 (wn aW eC) fun {Q K} hK self ih x3 y h hr hn=>by
 unfold l8 at h
 refine cq 5 [6,7] [I x3,.isl false (aW.map str)] 33 ?_
 refine oq 49 (I (len aW)) rfl (eX rfl rfl rfl (fN rfl)) ?_
 refine cq 2 [9] [B (decide (x3<(len aW)))] 65 ?_
 refine sq h ?_ ?_<;>intro h
 ·refine aq 1 ?_
  refine cq 6 [12,13] [.isl false (aW.map str),I x3] 97 ?_
  obtain⟨e4,he4,h⟩:=bS h
  refine oq 113 (.iptr (str e4) 0) rfl (aJ rfl rfl rfl (cC rfl rfl rfl rfl he4)) ?_
  refine cq 4 [17] [B (e4==eC)] 161 ?_
  refine sq h ?_ ?_<;>intro h
  ·refine cq 4 [4] [B true] 177 ?_
   exact bH rfl (hr _ (ak h) _ (qp [B true]))
  ·refine aq 1 ?_
   refine cq 6 [5] [I (aF (x3+1))] 209 ?_
   refine fF ?_
   exact rf [0,1,5] [] (ih _ _ h hr hn :)
 ·refine aq 1 ?_
  exact rf [] [] (hn _ (ak h) :) (hk:=hK)
theorem M8 (aW:List ae)(eC:ae)(r:Bool)(h:xK aW eC=some r):b7 Fp Tryz.f46 [false,false] 0 (Aa (aW,eC)) (Ab r):=by
 show Run _ _ (KO (aW,eC) r) [.code KP] _
 refine rI 18 [(0,.isl false (aW.map str)),(1,str eC)] [] 1 ?_
 unfold xK at h
 refine cq 10 [5] [I (0)] 33 ?_
 obtain⟨y5,hy5,hy51,hy52⟩:=bJ h
 refine ep rfl ?_
 refine rf [0,1,5] [] (G2 aW eC rfl 0 _ hy5 (fun r' e st hq=>by rw[hy51 r' e] at hq;exact hq) fun u5 hu=>?_)
 replace h:=hy52 u5 hu
 refine cq 4 [4] [B false] 17 ?_
 obtain rfl:=sI h
 exact rP [B false]
theorem KQ {G:cW}[TabG Tryz.prog G]:cX G 46 xL:=gT 2 0 ch dF Tryz.func46 (fun a r h=>M8 a.1 a.2 r h)
def tT:(Condition×(List ae)×Int)→List V:=cA ac (cA (oI str) (oA I))
def tU (r:Bool):V×List V:=(B r,[])
noncomputable def tV (bV:(Condition×(List ae)×Int)→Option Bool):Ent:=bu [false,false,false] tT tU bV
theorem pg (bV:(Condition×(List ae)×Int)→Option Bool){x}{r}(h:bV x=some r):(tV bV).F (tT x)=some (tU r):=ba (cI bc (cI (fK bU) (bb d6))) h
noncomputable def xM :=tV (aE kv)
theorem RD {c_1:Condition}{aw:List ae}{aL:Int}{r}(h:Cj c_1 aw aL=some r):xM.F (tT (c_1,aw,aL))=some (tU r):=pg (aE kv) h
noncomputable def Ae :=aY Tryz.f25
noncomputable def Ac (bV:(Condition×(List ae)×Int)→Option Bool):Env:=dE [(46,xL),(25,(tV bV))]
def pt (bV:(Condition×(List ae)×Int)→Option Bool)(x:Condition×(List ae)×Int)(r:Bool):St→Prop:=QF (Ac bV) Tryz.f25 [false,false,false] (tT x) (tU r)
theorem Na (bV:(Condition×(List ae)×Int)→Option Bool)(c_1:Condition)(aw:List ae)(aL:Int)(r:Bool)(h:qT bV c_1 aw aL=some r):b7 (Ac bV) Tryz.f25 [false,false,false] 0 (tT (c_1,aw,aL)) (tU r):=by
 show Run _ _ (pt bV (c_1,aw,aL) r) [.code Ae] _
 refine rI 67 [(0,ac c_1),(1,.isl false (aw.map str)),(2,I aL)] [] 1 ?_
 unfold qT at h
 refine ck 17 [3,8,9] [] [1] [] [.hp 1 0 [] 4 0 0,I c_1.Op,B (c_1.Op==1)] [some ⟨0,4,[ac c_1]⟩] 97 (by kernel_rfl) ?_
 refine sq h ?_ ?_<;>intro h
 ·refine cq 4 [6] [B true] 113 ?_
  obtain rfl:=sI h
  exact rP [B true]
 ·refine cq 5 [11] [B (c_1.Op==2)] 129 ?_
  refine sq h ?_ ?_<;>intro h
  ·refine cq 5 [13,15] [.isl false (aw.map str),str c_1.Name] 177 ?_
   obtain⟨r4,hr4,h⟩:=bS h
   refine oq 193 (B r4) rfl (cP (RC hr4)) ?_
   refine cq 2 [6] [B r4] 209 ?_
   obtain rfl:=sI h
   exact rP [B r4]
  ·refine cq 5 [17] [B (c_1.Op==3)] 161 ?_
   refine sq h ?_ ?_<;>intro h
   ·refine cq 8 [6] [B (decide (aL≥c_1.Day))] 241 ?_
    obtain rfl:=sI h
    exact rP [B (decide (aL≥c_1.Day))]
   ·refine cq 5 [23] [B (c_1.Op==4)] 193 ?_
    refine sq h ?_ ?_<;>intro h
    ·refine cq 4 [26] [.isl false (c_1.Parts.map ah)] 225 ?_
     obtain⟨e5,he5,h⟩:=bS h
     refine oq 241 (.iptr (ac e5) 0) rfl (aJ rfl rfl rfl (cC rfl rfl (aC e5) rfl he5)) ?_
     refine cq 3 [28,29,30] [ac e5,.isl false (aw.map str),I aL] 289 ?_
     obtain⟨r6,hr6,h⟩:=bS h
     refine oq 305 (B r6) rfl (aH rfl rfl (aP rfl rfl rfl (bd (bx rfl) (bd (bx rfl) (bd (bx rfl) bE))) (pg bV hr6) (.inr rfl) bm rfl rfl rfl)) ?_
     refine cq 3 [6] [B (!r6)] 337 ?_
     obtain rfl:=sI h
     exact rP [B (!r6)]
    ·refine cq 5 [33] [B (c_1.Op==5)] 225 ?_
     refine sq h ?_ ?_<;>intro h
     ·refine cq 4 [36] [.isl false (c_1.Parts.map ah)] 257 ?_
      obtain⟨e7,he7,h⟩:=bS h
      refine oq 273 (.iptr (ac e7) 0) rfl (aJ rfl rfl rfl (cC rfl rfl (aC e7) rfl he7)) ?_
      refine cq 3 [38,39,40] [ac e7,.isl false (aw.map str),I aL] 321 ?_
      obtain⟨r8,hr8,h⟩:=bS h
      refine oq 337 (B r8) rfl (aH rfl rfl (aP rfl rfl rfl (bd (bx rfl) (bd (bx rfl) (bd (bx rfl) bE))) (pg bV hr8) (.inr rfl) bm rfl rfl rfl)) ?_
      refine cq 1 [42] [B r8] 353 ?_
      obtain⟨y9,hy9,hy91,hy92⟩:=bJ h
      have j9:∀u9,y9=.inr u9→Run (Ac bV) 0 (pt bV (c_1,aw,aL) r) (.code (cR (cL (cR (cR (cR (cR (cR (cR (cR (cR (cR (cL (cR (cL (cR Ae)))))))))))))))::.blk 0::.code (cR (cR Ae))::[]) (sT 67 [(6,B u9)] [] 1):=by
       intro u9 hu
       replace h:=hy92 u9 hu
       obtain rfl:=sI h
       exact rP [B u9]
      have r9:∀r',y9=.inl r'→∀st,pt bV (c_1,aw,aL) r' st→(pt bV (c_1,aw,aL) r) st:=fun r' e st hq=>by rw[hy91 r' e] at hq;exact hq
      replace h:=hy9
      refine sp 42 h rfl ?_ ?_<;>intro h
      ·refine cq 2 [44] [.isl false (c_1.Parts.map ah)] 385 ?_
       obtain⟨e10,he10,h⟩:=bS h
       refine oy 401 (.iptr (ac e10) 0) rfl (aJ rfl rfl rfl (cC rfl rfl (aC e10) rfl he10)) ?_
       refine cq 3 [46,47,48] [ac e10,.isl false (aw.map str),I aL] 449 ?_
       obtain⟨r11,hr11,h⟩:=bS h
       refine oy 465 (B r11) rfl (aH rfl rfl (aP rfl rfl rfl (bd (bx rfl) (bd (bx rfl) (bd (bx rfl) bE))) (pg bV hr11) (.inr rfl) bm rfl rfl rfl)) ?_
       refine cq 3 [6] [B r11] 497 ?_
       exact rf [6] [] (j9 _ (ak h) :)
      ·refine cq 10 [6] [B false] 497 ?_
       exact rf [6] [] (j9 _ (ak h) :)
     ·refine aq 1 ?_
      refine cq 5 [52] [.isl false (c_1.Parts.map ah)] 257 ?_
      obtain⟨e12,he12,h⟩:=bS h
      refine oq 273 (.iptr (ac e12) 0) rfl (aJ rfl rfl rfl (cC rfl rfl (aC e12) rfl he12)) ?_
      refine cq 3 [54,55,56] [ac e12,.isl false (aw.map str),I aL] 321 ?_
      obtain⟨r13,hr13,h⟩:=bS h
      refine oq 337 (B r13) rfl (aH rfl rfl (aP rfl rfl rfl (bd (bx rfl) (bd (bx rfl) (bd (bx rfl) bE))) (pg bV hr13) (.inr rfl) bm rfl rfl rfl)) ?_
      refine cq 1 [58] [B r13] 353 ?_
      obtain⟨y14,hy14,hy141,hy142⟩:=bJ h
      have j14:∀u14,y14=.inr u14→Run (Ac bV) 0 (pt bV (c_1,aw,aL) r) (.code (cR (cR (cR Ae)))::[]) (sT 67 [(6,B u14)] [] 1):=by
       intro u14 hu
       replace h:=hy142 u14 hu
       obtain rfl:=sI h
       exact rP [B u14]
      have r14:∀r',y14=.inl r'→∀st,pt bV (c_1,aw,aL) r' st→(pt bV (c_1,aw,aL) r) st:=fun r' e st hq=>by rw[hy141 r' e] at hq;exact hq
      replace h:=hy14
      refine sp 58 h rfl ?_ ?_<;>intro h
      ·refine cq 10 [6] [B true] 497 ?_
       exact rf [6] [] (j14 _ (ak h) :)
      ·refine cq 2 [60] [.isl false (c_1.Parts.map ah)] 385 ?_
       obtain⟨e15,he15,h⟩:=bS h
       refine oy 401 (.iptr (ac e15) 0) rfl (aJ rfl rfl rfl (cC rfl rfl (aC e15) rfl he15)) ?_
       refine cq 3 [62,63,64] [ac e15,.isl false (aw.map str),I aL] 449 ?_
       obtain⟨r16,hr16,h⟩:=bS h
       refine oy 465 (B r16) rfl (aH rfl rfl (aP rfl rfl rfl (bd (bx rfl) (bd (bx rfl) (bd (bx rfl) bE))) (pg bV hr16) (.inr rfl) bm rfl rfl rfl)) ?_
       refine cq 3 [6] [B r16] 497 ?_
       exact rf [6] [] (j14 _ (ak h) :)
theorem KR {G:cW}[TabG Tryz.prog G]:cX G 25 xM:=gq fun bV g_Ffcg=>gT 3 0 (aQ KQ (aQ g_Ffcg ch)) dF Tryz.func25 (fun a r h=>Na bV a.1 a.2.1 a.2.2 r h)
def ze:(Condition×(List ae)×Int)→List V:=cA ac (cA (oI str) (oA I))
def zg (r:Bool×Bool):V×List V:=(.tup [B r.1,B r.2],[])
noncomputable def xk :=bu [false,false,false] ze zg fun x=>xj x.1 x.2.1 x.2.2
theorem Q4 {c_1:Condition}{aw:List ae}{aL:Int}{r}(h:xj c_1 aw aL=some r):xk.F (ze (c_1,aw,aL))=some (zg r):=ba (cI bc (cI (fK bU) (bb d6))) h
noncomputable def tD :=aY Tryz.f8
noncomputable def zf :=dE [(22,rU),(25,xM),(23,xG),(24,rO)]
def pj (x:Condition×(List ae)×Int)(r:Bool×Bool):St→Prop:=QF zf Tryz.f8 [false,false,false] (ze x) (zg r)
theorem MK (c_1:Condition)(aw:List ae)(aL:Int)(r:Bool×Bool)(h:xj c_1 aw aL=some r):b7 zf Tryz.f8 [false,false,false] 0 (ze (c_1,aw,aL)) (zg r):=by
 show Run _ _ (pj (c_1,aw,aL) r) [.code tD] _
 refine rI 25 [(0,ac c_1),(1,.isl false (aw.map str)),(2,I aL)] [] 1 ?_
 unfold xj at h
 refine ck 10 [3,8] [] [1] [] [.hp 1 0 [] 4 0 0,ac c_1] [some ⟨0,4,[ac c_1]⟩] 65 (by kernel_rfl) ?_
 obtain⟨r4,hr4,h⟩:=bS h
 refine oq 81 (B r4) rfl (cP (KM hr4)) ?_
 refine cq 2 [11] [B (!r4)] 113 ?_
 obtain⟨y5,hy5,hy51,hy52⟩:=bJ h
 have j5:∀u5,y5=.inr u5→Run zf 0 (pj (c_1,aw,aL) r) (.code (cR (cL (cR tD)))::.code (cR (cR tD))::[]) (sT 25 [(1,.isl false (aw.map str)),(2,I aL),(3,.hp 1 0 [] 4 0 0),(20,B u5)] [⟨0,4,[ac c_1]⟩] 2):=by
  intro u5 hu
  replace h:=hy52 u5 hu
  refine sq h ?_ ?_<;>intro h
  ·refine cq 5 [6,7] [B false,B false] 34 ?_
   obtain rfl:=sI h
   exact rP [B false,B false]
  ·refine aq 1 ?_
   refine cq 5 [21,22,23] [ac c_1,.isl false (aw.map str),I aL] 50 ?_
   obtain⟨r6,hr6,h⟩:=bS h
   refine oq 66 (B r6) rfl (cP (RD hr6)) ?_
   refine cq 3 [6,7] [B r6,B true] 98 ?_
   obtain rfl:=sI h
   exact rP [B r6,B true]
 have r5:∀r',y5=.inl r'→∀st,pj (c_1,aw,aL) r' st→(pj (c_1,aw,aL) r) st:=fun r' e st hq=>by rw[hy51 r' e] at hq;exact hq
 replace h:=hy5
 refine sp 11 h rfl ?_ ?_<;>intro h
 ·refine cq 10 [20] [B true] 257 ?_
  exact rf [1,2,3,20] [1] (j5 _ (ak h) :)
 ·refine cq 1 [12] [.isl false (aw.map str)] 129 ?_
  obtain⟨r7,hr7,h⟩:=bS h
  refine oy 145 (B r7) rfl (cP (Rz hr7)) ?_
  refine cq 3 [16] [B (!r7)] 193 ?_
  obtain⟨y8,hy8,hy81,hy82⟩:=bL h
  have j8:∀u8,y8=.inr u8→Run zf 0 (pj (c_1,aw,aL) r) (.code (cR (cL (cR tD)))::.code (cR (cR tD))::[]) (sT 25 [(1,.isl false (aw.map str)),(2,I aL),(3,.hp 1 0 [] 4 0 0),(20,B u8)] [⟨0,4,[ac c_1]⟩] 2):=by
   intro u8 hu
   replace h:=hy82 u8 hu
   exact rf [1,2,3,20] [1] (j5 _ (ak h) :)
  have r8:∀r',y8=.inl r'→∀st,pj (c_1,aw,aL) r' st→(pj (c_1,aw,aL) r) st:=fun r' e st hq=>r5 r' (hy81 r' e) st hq
  replace h:=hy8
  refine sp 16 h rfl ?_ ?_<;>intro h
  ·refine cq 5 [20] [B true] 257 ?_
   exact rf [1,2,3,20] [1] (j8 _ (ak h) :)
  ·refine cq 1 [17] [I aL] 209 ?_
   obtain⟨r9,hr9,h⟩:=bS h
   refine oy 225 (B r9) rfl (cP (KD hr9)) ?_
   refine cq 3 [20] [B (!r9)] 257 ?_
   exact rf [1,2,3,20] [1] (j8 _ (ak h) :)
theorem Ke {G:cW}[TabG Tryz.prog G]:cX G 8 xk:=gT 3 0 (aQ Da (aQ KR (aQ KH (aQ C8 ch)))) dF Tryz.func8 (fun a r h=>MK a.1 a.2.1 a.2.2 r h)
def zh:Condition→List V:=oA ac
def zi (r:Bool):V×List V:=(B r,[])
noncomputable def xm :=bu [false] zh zi fun x=>xl x
theorem Q5 {c_1:Condition}{r}(h:xl c_1=some r):xm.F (zh c_1)=some (zi r):=ba (bb bc) h
noncomputable def Q7 :=aY Tryz.f9
noncomputable def Kf :=dE [(22,rU)]
def Q6 (x:Condition)(r:Bool):St→Prop:=QF Kf Tryz.f9 [false] (zh x) (zi r)
theorem ML (c_1:Condition)(r:Bool)(h:xl c_1=some r):b7 Kf Tryz.f9 [false] 0 (zh c_1) (zi r):=by
 show Run _ _ (Q6 c_1 r) [.code Q7] _
 refine rI 5 [(0,ac c_1)] [] 1 ?_
 unfold xl at h
 refine cq 8 [3] [ac c_1] 49 ?_
 obtain⟨r2,hr2,h⟩:=bS h
 refine oq 65 (B r2) rfl (cP (KM hr2)) ?_
 refine cq 2 [2] [B r2] 81 ?_
 obtain rfl:=sI h
 exact rP [B r2]
theorem Kg {G:cW}[TabG Tryz.prog G]:cX G 9 xm:=gT 1 0 (aQ Da ch) dF Tryz.func9 (fun a r h=>ML a r h)
def tz:(Condition×Condition)→List V:=cA ac (oA ac)
def tB (r:Bool):V×List V:=(B r,[])
noncomputable def tC (br:(Condition×Condition)→Option Bool):Ent:=bu [false,false] tz tB br
theorem Cg (br:(Condition×Condition)→Option Bool){x}{r}(h:br x=some r):(tC br).F (tz x)=some (tB r):=ba (cI bc (bb bc)) h
noncomputable def xc :=tC (aE nR)
theorem Fd {a_1:Condition}{b_2:Condition}{r}(h:xb a_1 b_2=some r):xc.F (tz (a_1,b_2))=some (tB r):=Cg (aE nR) h
noncomputable def nS :=aY Tryz.f10
noncomputable def qL (br:(Condition×Condition)→Option Bool):Env:=dE [(10,(tC br))]
def tA (br:(Condition×Condition)→Option Bool)(x:Condition×Condition)(r:Bool):St→Prop:=QF (qL br) Tryz.f10 [false,false] (tz x) (tB r)
theorem GU (br:(Condition×Condition)→Option Bool)(a_1:Condition)(b_2:Condition):eW (qL br) 0 (tA br (a_1,b_2)) (cL (cL (cR (cL (cR (cR nS)))))) 0 (pa br a_1 b_2) (fun u=>(sT 53 [] [] 1)) fun x4=>(sT 53 [(2,.hp 1 0 [] 4 0 0),(3,.hp 2 0 [] 4 0 0),(5,I x4)] [⟨0,4,[ac a_1]⟩,⟨0,4,[ac b_2]⟩] 3):=i7 (wc br a_1 b_2) fun {Q K} hK self ih x4 y h hr hn=>by
 unfold kn at h
 refine cq 6 [34,36] [I x4,.isl false (a_1.Parts.map ah)] 51 ?_
 refine oq 67 (I (len a_1.Parts)) rfl (eX rfl rfl rfl (fN rfl)) ?_
 refine cq 2 [38] [B (decide (x4<(len a_1.Parts)))] 83 ?_
 refine sq h ?_ ?_<;>intro h
 ·refine aq 1 ?_
  refine aq 3 ?_
  refine gN [0,1,0,7,15,0,32,0,224,480,1023,2047] rfl (by decide +kernel) ?_
  refine dq [1] [] (.hp 1 0 [] 4 0 3) rfl (bn rfl rfl rfl) ?_
  refine dq [1] [] (.isl false (a_1.Parts.map ah)) rfl (dD rfl rfl) ?_
  refine dk 1 [43] [I x4] ?_
  obtain⟨e5,he5,h⟩:=bS h
  refine dq [] [] (.iptr (ac e5) 0) rfl (aJ rfl rfl rfl (cC rfl rfl (aC e5) rfl he5)) ?_
  refine dq [] [] (ac e5) rfl (dD rfl rfl) ?_
  refine dq [2] [] (.hp 2 0 [] 4 0 3) rfl (bn rfl rfl rfl) ?_
  refine dq [2] [] (.isl false (b_2.Parts.map ah)) rfl (dD rfl rfl) ?_
  refine dk 1 [48] [I x4] ?_
  obtain⟨e6,he6,h⟩:=bS h
  refine dq [] [] (.iptr (ac e6) 0) rfl (aJ rfl rfl rfl (cC rfl rfl (aC e6) rfl he6)) ?_
  refine dq [] [] (ac e6) rfl (dD rfl rfl) ?_
  obtain⟨r7,hr7,h⟩:=bS h
  refine dq [] [] (B r7) rfl (aH rfl rfl (aP rfl rfl rfl (bd (bx rfl) (bd (bx rfl) bE)) (Cg br hr7) (.inr rfl) bm rfl rfl rfl)) ?_ (fb rfl rfl rfl rfl (bd (bx rfl) (bd (bx rfl) bE)) (Cg br hr7) (.inr rfl) rfl)
  refine dk 1 [52] [B (!r7)] ?_
  refine de 275 rfl rfl ?_
  refine sq h ?_ ?_<;>intro h
  ·refine cq 4 [4] [B false] 291 ?_
   exact bH rfl (hr _ (ak h) _ (qp [B false]))
  ·refine aq 1 ?_
   refine cq 6 [5] [I (aF (x4+1))] 323 ?_
   refine fF ?_
   exact rf [2,3,5] [1,2] (ih _ _ h hr hn :)
 ·refine aq 1 ?_
  exact rf [] [] (hn _ (ak h) :) (hk:=hK)
theorem MF (br:(Condition×Condition)→Option Bool)(a_1:Condition)(b_2:Condition)(r:Bool)(h:qK br a_1 b_2=some r):b7 (qL br) Tryz.f10 [false,false] 0 (tz (a_1,b_2)) (tB r):=by
 show Run _ _ (tA br (a_1,b_2) r) [.code nS] _
 refine rI 53 [(0,ac a_1),(1,ac b_2)] [] 1 ?_
 unfold qK at h
 refine ck 15 [2,3,11] [] [1,17] [] [.hp 1 0 [] 4 0 0,.hp 17 0 [] 4 0 0,B (a_1.Op != b_2.Op)] [some ⟨0,4,[ac a_1]⟩,some ⟨0,4,[ac b_2]⟩] 145 (by kernel_rfl) ?_
 obtain⟨u3,hu3,h⟩:=lJ h
 have j3:Run (qL br) 0 (tA br (a_1,b_2) r) (.code (cR (cL (cR nS)))::.code (cR (cR nS))::[]) (sT 53 [(2,.hp 1 0 [] 4 0 0),(3,.hp 2 0 [] 4 0 0),(33,B u3)] [⟨0,4,[ac a_1]⟩,⟨0,4,[ac b_2]⟩] 3):=by
  refine sq h ?_ ?_<;>intro h
  ·refine cq 4 [4] [B false] 19 ?_
   obtain rfl:=sI h
   exact rP [B false]
  ·refine aq 1 ?_
   refine cq 6 [5] [I (0)] 19 ?_
   obtain⟨y8,hy8,hy81,hy82⟩:=bJ h
   refine ep rfl ?_
   refine rf [2,3,5] [1,2] (GU br a_1 b_2 rfl 0 _ hy8 (fun r' e st hq=>by rw[hy81 r' e] at hq;exact hq) fun u8 hu=>?_)
   replace h:=hy82 u8 hu
   refine cq 4 [4] [B true] 17 ?_
   obtain rfl:=sI h
   exact rP [B true]
 replace h:=hu3
 clear hu3
 refine sp 11 h rfl ?_ ?_<;>intro h
 ·refine cq 23 [33] [B true] 497 ?_
  subst h
  exact rf [2,3,33] [1,17] (j3 :)
 ·refine cq 7 [18] [B (!(a_1.Name==b_2.Name))] 257 ?_
  obtain⟨u9,hu9,h⟩:=lJ h
  have j9:Run (qL br) 0 (tA br (a_1,b_2) r) (.code (cR (cL (cR nS)))::.code (cR (cR nS))::[]) (sT 53 [(2,.hp 1 0 [] 4 0 0),(3,.hp 2 0 [] 4 0 0),(33,B u9)] [⟨0,4,[ac a_1]⟩,⟨0,4,[ac b_2]⟩] 3):=by
   subst h
   exact rf [2,3,33] [1,2] (j3 :)
  replace h:=hu9
  clear hu9
  refine sp 18 h rfl ?_ ?_<;>intro h
  ·refine cq 16 [33] [B true] 497 ?_
   subst h
   exact rf [2,3,33] [1,17] (j9 :)
  ·refine cq 7 [25] [B (a_1.Day != b_2.Day)] 369 ?_
   obtain⟨u10,hu10,h⟩:=lJ h
   have j10:Run (qL br) 0 (tA br (a_1,b_2) r) (.code (cR (cL (cR nS)))::.code (cR (cR nS))::[]) (sT 53 [(2,.hp 1 0 [] 4 0 0),(3,.hp 2 0 [] 4 0 0),(33,B u10)] [⟨0,4,[ac a_1]⟩,⟨0,4,[ac b_2]⟩] 3):=by
    subst h
    exact rf [2,3,33] [1,2] (j9 :)
   replace h:=hu10
   clear hu10
   refine sp 25 h rfl ?_ ?_<;>intro h
   ·refine cq 9 [33] [B true] 497 ?_
    subst h
    exact rf [2,3,33] [1,17] (j10 :)
   ·refine cq 2 [27] [.isl false (a_1.Parts.map ah)] 401 ?_
    refine oy 417 (I (len a_1.Parts)) rfl (eX rfl rfl rfl (fN rfl)) ?_
    refine cq 2 [30] [.isl false (b_2.Parts.map ah)] 449 ?_
    refine oy 465 (I (len b_2.Parts)) rfl (eX rfl rfl rfl (fN rfl)) ?_
    refine cq 3 [33] [B ((len a_1.Parts) != (len b_2.Parts))] 497 ?_
    subst h
    exact rf [2,3,33] [1,17] (j10 :)
theorem J2 {G:cW}[TabG Tryz.prog G]:cX G 10 xc:=gq fun br g_Ffbf=>gT 2 0 (aQ g_Ffbf ch) dF Tryz.func10 (fun a r h=>MF br a.1 a.2 r h)
def EF:(Int×Int)→List V:=cA I (oA I)
def EH (r:Int):V×List V:=(I r,[])
noncomputable def ph :=bu [false,false] EF EH fun x=>ut x.1 x.2
theorem vG {eZ:Int}{eg:Int}{r}(h:ut eZ eg=some r):ph.F (EF (eZ,eg))=some (EH r):=ba (cI d6 (bb d6)) h
noncomputable def A5 :=aY Tryz.f68
noncomputable abbrev FF :=cR (cR (cR (cL (cR (cL (cR A5))))))
noncomputable def A4 :=dE []
def EG (x:Int×Int)(r:Int):St→Prop:=QF A4 Tryz.f68 [false,false] (EF x) (EH r)
theorem PG (eZ:Int)(eg:Int)(r:Int)(h:ut eZ eg=some r):b7 A4 Tryz.f68 [false,false] 0 (EF (eZ,eg)) (EH r):=by
 show Run _ _ (EG (eZ,eg) r) [.code A5] _
 refine rI 16 [(0,I eZ),(1,I eg)] [] 1 ?_
 unfold ut at h
 refine cq 15 [5,6] [I eg,B (eg==2)] 65 ?_
 refine sq h ?_ ?_<;>intro h
 ·refine cq 7 [10] [B ((eZ.tmod 4)==0)] 113 ?_
  refine sq h ?_ ?_<;>intro h
  ·refine cq 4 [4] [I (29)] 129 ?_
   obtain rfl:=sI h
   exact rP [I (29)]
  ·refine aq 1 ?_
   refine cq 4 [4] [I (28)] 129 ?_
   obtain rfl:=sI h
   exact rP [I (28)]
 ·refine cq 6 [11] [B (eg==4)] 97 ?_
  obtain⟨u3,hu3,h⟩:=lJ h
  have j3:Run A4 0 (EG (eZ,eg) r) (.code FF::.blk 0::.code (cR (cR A5))::[]) (sT 16 [(11,B u3)] [] 1):=by
   refine sq h ?_ ?_<;>intro h
   ·refine cq 4 [4] [I (30)] 17 ?_
    obtain rfl:=sI h
    exact rP [I (30)]
   ·refine aq 1 ?_
    refine cq 5 [4] [I (31)] 17 ?_
    obtain rfl:=sI h
    exact rP [I (31)]
  replace h:=hu3
  clear hu3
  refine om h rfl rfl ?_ ?_<;>intro h
  ·refine aq 1 ?_
   subst h
   exact rf [11] [] (j3 :)
  ·refine cq 5 [11] [B (eg==6)] 129 ?_
   obtain⟨u4,hu4,h⟩:=lJ h
   have j4:Run A4 0 (EG (eZ,eg) r) (.code FF::.blk 0::.code (cR (cR A5))::[]) (sT 16 [(11,B u4)] [] 1):=by
    subst h
    exact rf [11] [] (j3 :)
   replace h:=hu4
   clear hu4
   refine om h rfl rfl ?_ ?_<;>intro h
   ·refine aq 1 ?_
    subst h
    exact rf [11] [] (j4 :)
   ·refine cq 5 [11] [B (eg==9)] 161 ?_
    obtain⟨u5,hu5,h⟩:=lJ h
    have j5:Run A4 0 (EG (eZ,eg) r) (.code FF::.blk 0::.code (cR (cR A5))::[]) (sT 16 [(11,B u5)] [] 1):=by
     subst h
     exact rf [11] [] (j4 :)
    replace h:=hu5
    clear hu5
    refine om h rfl rfl ?_ ?_<;>intro h
    ·refine aq 1 ?_
     subst h
     exact rf [11] [] (j5 :)
    ·refine cq 4 [11] [B (eg==11)] 193 ?_
     subst h
     exact rf [11] [] (j5 :)
theorem se {G:cW}[TabG Tryz.prog G]:cX G 68 ph:=gT 2 0 ch dF Tryz.func68 (fun a r h=>PG a.1 a.2 r h)
def EI:Int→List V:=oA I
def EJ (r:Int):V×List V:=(I r,[])
noncomputable def vH :=bu [false] EI EJ fun x=>A6 x
theorem IU {eZ:Int}{r}(h:A6 eZ=some r):vH.F (EI eZ)=some (EJ r):=ba (bb d6) h
noncomputable def SW :=aY Tryz.f67
noncomputable def OP :=dE [(68,ph)]
def SV (x:Int)(r:Int):St→Prop:=QF OP Tryz.f67 [false] (EI x) (EJ r)
theorem PH (eZ:Int)(r:Int)(h:A6 eZ=some r):b7 OP Tryz.f67 [false] 0 (EI eZ) (EJ r):=by
 show Run _ _ (SV eZ r) [.code SW] _
 refine rI 6 [(0,I eZ)] [] 1 ?_
 unfold A6 at h
 refine cq 7 [3] [I eZ] 33 ?_
 obtain⟨r2,hr2,h⟩:=bS h
 refine oq 49 (I r2) rfl (cP (vG hr2)) ?_
 refine cq 3 [2] [I (aF (337+r2))] 81 ?_
 obtain rfl:=sI h
 exact rP [I (aF (337+r2))]
theorem FG {G:cW}[TabG Tryz.prog G]:cX G 67 vH:=gT 1 0 (aQ se ch) dF Tryz.func67 (fun a r h=>PH a r h)
def Ex:Int→List V:=oA I
def Ez (r:Date):V×List V:=(fY r,[])
noncomputable def Ct :=bu [false] Ex Ez fun x=>AV x
theorem SS {bi:Int}{r}(h:AV bi=some r):Ct.F (Ex bi)=some (Ez r):=ba (bb d6) h
noncomputable def IL :=aY Tryz.f60
noncomputable def Ey :=dE [(67,vH),(68,ph)]
def IK (x:Int)(r:Date):St→Prop:=QF Ey Tryz.f60 [false] (Ex x) (Ez r)
theorem IM (bi:Int):eW Ey 0 (IK bi) (cL (cL (cL (cR (cR IL))))) 0 (um bi) (fun u=>(sT 41 [(0,I u.1),(2,.hp 1 0 [] 3 0 0),(3,.hp 2 0 [] 3 0 0)] [⟨0,3,[.agg [I (0),I (0),I (0)]]⟩,⟨0,3,[.agg [I u.2,I (1),I (0)]]⟩] 3)) fun x2=>(sT 41 [(0,I x2.1),(2,.hp 1 0 [] 3 0 0),(3,.hp 2 0 [] 3 0 0)] [⟨0,3,[.agg [I (0),I (0),I (0)]]⟩,⟨0,3,[.agg [I x2.2,I (1),I (0)]]⟩] 3):=i7 (AW bi) fun {Q K} hK self ih x2 y h hr hn=>by
 unfold lS at h
 refine cq 6 [5,7] [I x2.1,I x2.2] 51 ?_
 obtain⟨r3,hr3,h⟩:=bS h
 refine oq 67 (I r3) rfl (cP (IU hr3)) ?_
 refine cq 2 [9] [B (decide (x2.1≥r3))] 83 ?_
 refine sq h ?_ ?_<;>intro h
 ·refine aq 1 ?_
  refine cq 6 [14,16] [I x2.1,I x2.2] 131 ?_
  obtain⟨r4,hr4,h⟩:=bS h
  refine oq 147 (I r4) rfl (cP (IU hr4)) ?_
  refine ck 11 [0] [] [2] [] [I (aF (x2.1 - r4))] [some ⟨0,3,[.agg [I (aF (x2.2+1)),I (1),I (0)]]⟩] 259 (by kernel_rfl) ?_
  refine fF ?_
  exact rf [0,2,3] [1,2] (ih _ _ h hr hn :)
 ·refine aq 1 ?_
  exact rf [0,2,3] [1,2] (hn _ (ak h) :) (hk:=hK)
theorem IO (bi:Int)(u5:Int×Int):eW Ey 0 (IK bi) (cL (cL (cL (cR (cR (cR IL)))))) 2 (un bi u5) (fun u=>(sT 41 [(0,I u.1),(2,.hp 1 0 [] 3 0 0),(3,.hp 2 0 [] 3 0 0)] [⟨0,3,[.agg [I (0),I (0),I (0)]]⟩,⟨0,3,[.agg [I u5.2,I u.2,I (0)]]⟩] 3)) fun x6=>(sT 41 [(0,I x6.1),(2,.hp 1 0 [] 3 0 0),(3,.hp 2 0 [] 3 0 0)] [⟨0,3,[.agg [I (0),I (0),I (0)]]⟩,⟨0,3,[.agg [I u5.2,I x6.2,I (0)]]⟩] 3):=i7 (AX bi u5) fun {Q K} hK self ih x6 y h hr hn=>by
 unfold lT at h
 refine cq 8 [19,21,23] [I x6.1,I u5.2,I x6.2] 83 ?_
 obtain⟨r7,hr7,h⟩:=bS h
 refine oq 99 (I r7) rfl (cP (vG hr7)) ?_
 refine cq 2 [25] [B (decide (x6.1≥r7))] 115 ?_
 refine sq h ?_ ?_<;>intro h
 ·refine aq 1 ?_
  refine cq 8 [30,32,34] [I x6.1,I u5.2,I x6.2] 195 ?_
  obtain⟨r8,hr8,h⟩:=bS h
  refine oq 211 (I r8) rfl (cP (vG hr8)) ?_
  refine ck 11 [0] [] [2] [] [I (aF (x6.1 - r8))] [some ⟨0,3,[.agg [I u5.2,I (aF (x6.2+1)),I (0)]]⟩] 323 (by kernel_rfl) ?_
  refine fF ?_
  exact rf [0,2,3] [1,2] (ih _ _ h hr hn :)
 ·refine aq 1 ?_
  exact rf [0,2,3] [1,2] (hn _ (ak h) :) (hk:=hK)
theorem PD (bi:Int)(r:Date)(h:AV bi=some r):b7 Ey Tryz.f60 [false] 0 (Ex bi) (Ez r):=by
 show Run _ _ (IK bi r) [.code IL] _
 refine rI 41 [(0,I bi)] [] 1 ?_
 unfold AV at h
 refine ck 12 [2,3] [] [1,33] [] [.hp 1 0 [] 3 0 0,.hp 33 0 [] 3 0 0] [some ⟨0,3,[.agg [I (0),I (0),I (0)]]⟩,some ⟨0,3,[.agg [I (2000),I (1),I (0)]]⟩] 65 (by kernel_rfl) ?_
 obtain⟨y5,hy5,hy51,hy52⟩:=bJ h
 refine ep rfl ?_
 refine rf [0,2,3] [1,33] (IM bi rfl (bi,2000) _ hy5 (fun r' e st hq=>by rw[hy51 r' e] at hq;exact hq) fun u5 hu=>?_)
 replace h:=hy52 u5 hu
 refine aq 2 ?_
 obtain⟨y9,hy9,hy91,hy92⟩:=bJ h
 refine ep rfl ?_
 refine rf [0,2,3] [1,2] (IO bi u5 rfl (u5.1,1) _ hy9 (fun r' e st hq=>by rw[hy91 r' e] at hq;exact hq) fun u9 hu=>?_)
 replace h:=hy92 u9 hu
 refine ck 12 [] [] [1,2] [] [] [some ⟨0,3,[.agg [I u5.2,I u9.2,I (aF (u9.1+1))]]⟩,some ⟨0,3,[.agg [I u5.2,I u9.2,I (aF (u9.1+1))]]⟩] 99 (by kernel_rfl) ?_
 obtain rfl:=sI h
 exact bH rfl ⟨_,fin (vs:=[.agg [I u5.2,I u9.2,I (aF (u9.1+1))]]) (eO (dh rfl rfl rfl) fx) (cn (be rfl) bT) rfl (eF dG),dw⟩
theorem Nt {G:cW}[TabG Tryz.prog G]:cX G 60 Ct:=gT 1 0 (aQ FG (aQ se ch)) dF Tryz.func60 (fun a r h=>PD a r h)
def Hs:Shelf.Ren:=⟨fun | 171=>69 | 243=>76 | 246=>87 | 283=>96 | 284=>97 | 285=>98 | 286=>99 | 129=>105 | 317=>104 | 318=>106 | 319=>107 | 320=>108 | 337=>109 | 338=>110 | n=>n,fun | 3=>3 | 9=>9 | 2=>2 | 4=>4 | 171=>108 | 0=>0 | 53=>40 | 37=>22 | 5=>5 | 173=>111 | 212=>126 | 51=>122 | 20=>20 | 213=>127 | 46=>84 | 232=>130 | 233=>131 | n=>n,fun | 17=>5 | 18=>6 | 19=>7 | n=>n⟩
theorem QM:Go.Proofs.LaysM.n171 Tryz.prog Hs where
 mixed:=by kernel_rfl
 f129:=Tryz.func105.trans (congrArg some (by kernel_rfl))
 f171:=Tryz.func69.trans (congrArg some (by kernel_rfl))
 f243:=Tryz.func76.trans (congrArg some (by kernel_rfl))
 f246:=Tryz.func87.trans (congrArg some (by kernel_rfl))
 f283:=Tryz.func96.trans (congrArg some (by kernel_rfl))
 f284:=Tryz.func97.trans (congrArg some (by kernel_rfl))
 f285:=Tryz.func98.trans (congrArg some (by kernel_rfl))
 f286:=Tryz.func99.trans (congrArg some (by kernel_rfl))
 f317:=Tryz.func104.trans (congrArg some (by kernel_rfl))
 f318:=Tryz.func106.trans (congrArg some (by kernel_rfl))
 f319:=Tryz.func107.trans (congrArg some (by kernel_rfl))
 f320:=Tryz.func108.trans (congrArg some (by kernel_rfl))
 f337:=Tryz.func109.trans (congrArg some (by kernel_rfl))
 f338:=Tryz.func110.trans (congrArg some (by kernel_rfl))
 t0:=Tryz.underlying0
 a0:=Tryz.isAgg0
 z0:=Tryz.sizeOf0
 v0:=Tryz.zeroValue0
 t2:=Tryz.underlying2
 a2:=Tryz.isAgg2
 z2:=Tryz.sizeOf2
 v2:=Tryz.zeroValue2
 t3:=Tryz.underlying3
 a3:=Tryz.isAgg3
 z3:=Tryz.sizeOf3
 v3:=Tryz.zeroValue3
 t4:=Tryz.underlying4
 a4:=Tryz.isAgg4
 z4:=Tryz.sizeOf4
 v4:=Tryz.zeroValue4
 t5:=Tryz.underlying5
 a5:=Tryz.isAgg5
 z5:=Tryz.sizeOf5
 v5:=Tryz.zeroValue5
 t9:=Tryz.underlying9
 a9:=Tryz.isAgg9
 z9:=Tryz.sizeOf9
 v9:=Tryz.zeroValue9
 t20:=Tryz.underlying20
 a20:=Tryz.isAgg20
 z20:=Tryz.sizeOf20
 v20:=Tryz.zeroValue20
 t37:=Tryz.underlying22
 a37:=Tryz.isAgg22
 z37:=Tryz.sizeOf22
 v37:=Tryz.zeroValue22
 t46:=Tryz.underlying84
 a46:=Tryz.isAgg84
 z46:=Tryz.sizeOf84
 v46:=Tryz.zeroValue84
 t51:=Tryz.underlying122
 a51:=Tryz.isAgg122
 z51:=Tryz.sizeOf122
 v51:=Tryz.zeroValue122
 t53:=Tryz.underlying40
 a53:=Tryz.isAgg40
 z53:=Tryz.sizeOf40
 v53:=Tryz.zeroValue40
 t171:=Tryz.underlying108
 a171:=Tryz.isAgg108
 z171:=Tryz.sizeOf108
 v171:=Tryz.zeroValue108
 t173:=Tryz.underlying111
 a173:=Tryz.isAgg111
 z173:=Tryz.sizeOf111
 v173:=Tryz.zeroValue111
 t212:=Tryz.underlying126
 a212:=Tryz.isAgg126
 z212:=Tryz.sizeOf126
 v212:=Tryz.zeroValue126
 t213:=Tryz.underlying127
 a213:=Tryz.isAgg127
 z213:=Tryz.sizeOf127
 t232:=Tryz.underlying130
 a232:=Tryz.isAgg130
 z232:=Tryz.sizeOf130
 v232:=Tryz.zeroValue130
 t233:=Tryz.underlying131
 a233:=Tryz.isAgg131
 z233:=Tryz.sizeOf131
 v233:=Tryz.zeroValue131
 g17:=by kernel_rfl
 g18:=by kernel_rfl
 g19:=by kernel_rfl
 i0:=by kernel_rfl
 i2:=by kernel_rfl
 i3:=by kernel_rfl
 i4:=by kernel_rfl
 i5:=by kernel_rfl
 i9:=by kernel_rfl
 i20:=by kernel_rfl
 i37:=by kernel_rfl
 i46:=by kernel_rfl
 i51:=by kernel_rfl
 i53:=by kernel_rfl
 i171:=by kernel_rfl
 i173:=by kernel_rfl
 i212:=by kernel_rfl
 i232:=by kernel_rfl
 i233:=by kernel_rfl
 m17:=by kernel_rfl
 m18:=by kernel_rfl
 m19:=by kernel_rfl
noncomputable def vv :=bu [false] (oA I) (fun r=>(str r,[])) tc
theorem QL {n:Int}{r}(h:tc n=some r):vv.F [I n]=some (str r,[]):=ba (ea:=oA I) (bb d6) h
theorem JR {G:cW}[TabG Tryz.prog G]:cX G 69 vv:=LL QM
def EV:(Int×Int)→List V:=cA I (oA I)
def EW (r:ae):V×List V:=(str r,[])
noncomputable def CB :=bu [false,false] EV EW fun x=>uu x.1 x.2
theorem vK {n_1:Int}{dl:Int}{r}(h:uu n_1 dl=some r):CB.F (EV (n_1,dl))=some (EW r):=ba (cI d6 (bb d6)) h
noncomputable def OY :=aY Tryz.f61
noncomputable def I1 :=dE [(69,vv)]
def OX (x:Int×Int)(r:ae):St→Prop:=QF I1 Tryz.f61 [false,false] (EV x) (EW r)
theorem I2 (n_1:Int)(dl:Int):eW I1 0 (OX (n_1,dl)) (cL (cL (cL (cR (cR OY))))) 0 (uw n_1 dl) (fun u=>(sT 15 [(5,str u)] [] 1)) fun x4=>(sT 15 [(1,I dl),(5,str x4)] [] 1):=i7 (Bh n_1 dl) fun {Q K} hK self ih x4 y h hr hn=>by
 unfold lX at h
 refine cq 8 [11] [B (decide ((len x4)<dl))] 65 ?_
 refine sq h ?_ ?_<;>intro h
 ·refine aq 1 ?_
  refine cq 3 [12] [str x4] 81 ?_
  obtain⟨s5,hs5,h⟩:=bS h
  refine oq 97 (str s5) rfl (ia rfl rfl (iy hs5)) ?_
  refine cq 3 [5] [str s5] 113 ?_
  refine fF ?_
  exact rf [1,5] [] (ih _ _ h hr hn :)
 ·refine aq 1 ?_
  exact rf [5] [] (hn _ (ak h) :) (hk:=hK)
theorem PQ (n_1:Int)(dl:Int)(r:ae)(h:uu n_1 dl=some r):b7 I1 Tryz.f61 [false,false] 0 (EV (n_1,dl)) (EW r):=by
 show Run _ _ (OX (n_1,dl) r) [.code OY] _
 refine rI 15 [(0,I n_1),(1,I dl)] [] 1 ?_
 unfold uu at h
 refine cq 7 [6] [I n_1] 33 ?_
 obtain⟨r3,hr3,h⟩:=bS h
 refine oq 49 (str r3) rfl (cP (QL hr3)) ?_
 refine cq 4 [5] [str r3] 65 ?_
 obtain⟨y6,hy6,hy61,hy62⟩:=bJ h
 refine ep rfl ?_
 refine rf [1,5] [] (I2 n_1 dl rfl r3 _ hy6 (fun r' e st hq=>by rw[hy61 r' e] at hq;exact hq) fun u6 hu=>?_)
 replace h:=hy62 u6 hu
 refine cq 5 [4] [str u6] 33 ?_
 obtain rfl:=sI h
 exact rP [str u6]
theorem NA {G:cW}[TabG Tryz.prog G]:cX G 61 CB:=gT 2 0 (aQ JR ch) dF Tryz.func61 (fun a r h=>PQ a.1 a.2 r h)
def EA:Int→List V:=oA I
def EB (r:ae):V×List V:=(str r,[])
noncomputable def vF :=bu [false] EA EB fun x=>AY x
theorem OM {bi:Int}{r}(h:AY bi=some r):vF.F (EA bi)=some (EB r):=ba (bb d6) h
noncomputable def SU :=aY Tryz.f47
noncomputable def OL :=dE [(60,Ct),(61,CB)]
def ST (x:Int)(r:ae):St→Prop:=QF OL Tryz.f47 [false] (EA x) (EB r)
theorem PE (bi:Int)(r:ae)(h:AY bi=some r):b7 OL Tryz.f47 [false] 0 (EA bi) (EB r):=by
 show Run _ _ (ST bi r) [.code SU] _
 refine rI 19 [(0,I bi)] [] 1 ?_
 unfold AY at h
 refine cq 7 [4] [I bi] 33 ?_
 obtain⟨r2,hr2,h⟩:=bS h
 refine oq 49 (fY r2) rfl (cP (SS hr2)) ?_
 refine ck 4 [3] [] [49] [] [.hp 49 0 [] 3 0 0] [some ⟨0,3,[fY r2]⟩] 81 (by kernel_rfl) ?_
 refine gN [0,1,3,7,0,16,55,127,255,0,512,1655,4095,8191] rfl (by decide +kernel) ?_
 refine dq [49] [] (.hp 49 0 [] 3 0 0) rfl (bn rfl rfl rfl) ?_
 refine dq [49] [] (I r2.Year) rfl (dD rfl rfl) ?_
 obtain⟨r3,hr3,h⟩:=bS h
 refine dq [] [] (str r3) rfl (cP (vK hr3)) ?_ (fb rfl rfl rfl rfl (bd (bx rfl) (bd (bx rfl) bE)) (vK hr3) (.inr rfl) rfl)
 obtain⟨s4,hs4,h⟩:=bS h
 refine dq [] [] (str s4) rfl (ia rfl rfl (iy hs4)) ?_
 refine dq [49] [] (.hp 49 0 [] 3 0 1) rfl (bn rfl rfl rfl) ?_
 refine dq [49] [] (I r2.Month) rfl (dD rfl rfl) ?_
 obtain⟨r5,hr5,h⟩:=bS h
 refine dq [] [] (str r5) rfl (cP (vK hr5)) ?_ (fb rfl rfl rfl rfl (bd (bx rfl) (bd (bx rfl) bE)) (vK hr5) (.inr rfl) rfl)
 obtain⟨s6,hs6,h⟩:=bS h
 refine dq [] [] (str s6) rfl (ia rfl rfl (iy hs6)) ?_
 obtain⟨s7,hs7,h⟩:=bS h
 refine dq [] [] (str s7) rfl (ia rfl rfl (iy hs7)) ?_
 refine dq [49] [] (.hp 49 0 [] 3 0 2) rfl (bn rfl rfl rfl) ?_
 refine dq [49] [] (I r2.Day) rfl (dD rfl rfl) ?_
 obtain⟨r8,hr8,h⟩:=bS h
 refine dq [] [] (str r8) rfl (cP (vK hr8)) ?_ (fb rfl rfl rfl rfl (bd (bx rfl) (bd (bx rfl) bE)) (vK hr8) (.inr rfl) rfl)
 obtain⟨s9,hs9,h⟩:=bS h
 refine dq [] [] (str s9) rfl (ia rfl rfl (iy hs9)) ?_
 refine dk 1 [2] [str s9] ?_
 refine de 305 rfl rfl ?_
 obtain rfl:=sI h
 exact rP [str s9]
theorem FD {G:cW}[TabG Tryz.prog G]:cX G 47 vF:=gT 1 0 (aQ Nt (aQ NA ch)) dF Tryz.func47 (fun a r h=>PE a r h)
def AO:Condition→List V:=oA ac
def AP (r:ae):V×List V:=(str r,[])
noncomputable def xW (cQ:Condition→Option ae):Ent:=bu [false] AO AP cQ
theorem ls (cQ:Condition→Option ae){x}{r}(h:cQ x=some r):(xW cQ).F (AO x)=some (AP r):=ba (bb bc) h
noncomputable def vD :=xW (aE i8)
theorem OK {c_1:Condition}{r}(h:FB c_1=some r):vD.F (AO c_1)=some (AP r):=ls (aE i8) h
noncomputable def SQ :=aY Tryz.f26
noncomputable def OJ (cQ:Condition→Option ae):Env:=dE [(47,vF),(26,(xW cQ))]
def SP (cQ:Condition→Option ae)(x:Condition)(r:ae):St→Prop:=QF (OJ cQ) Tryz.f26 [false] (AO x) (AP r)
theorem PA (cQ:Condition→Option ae)(c_1:Condition)(r:ae)(h:oM cQ c_1=some r):b7 (OJ cQ) Tryz.f26 [false] 0 (AO c_1) (AP r):=by
 show Run _ _ (SP cQ c_1 r) [.code SQ] _
 refine rI 55 [(0,ac c_1)] [] 1 ?_
 unfold oM at h
 refine ck 17 [1,4,5] [] [1] [] [.hp 1 0 [] 4 0 0,I c_1.Op,B (c_1.Op==2)] [some ⟨0,4,[ac c_1]⟩] 97 (by kernel_rfl) ?_
 refine sq h ?_ ?_<;>intro h
 ·refine cq 6 [2] [str c_1.Name] 145 ?_
  obtain rfl:=sI h
  exact rP [str c_1.Name]
 ·refine cq 5 [9] [B (c_1.Op==3)] 129 ?_
  refine sq h ?_ ?_<;>intro h
  ·refine cq 4 [12] [I c_1.Day] 161 ?_
   obtain⟨r2,hr2,h⟩:=bS h
   refine oq 177 (str r2) rfl (cP (OM hr2)) ?_
   obtain⟨s3,hs3,h⟩:=bS h
   refine oq 193 (str s3) rfl (ia rfl rfl (iy hs3)) ?_
   refine cq 2 [2] [str s3] 209 ?_
   obtain rfl:=sI h
   exact rP [str s3]
  ·refine cq 5 [15] [B (c_1.Op==4)] 161 ?_
   refine sq h ?_ ?_<;>intro h
   ·refine cq 4 [18] [.isl false (c_1.Parts.map ah)] 193 ?_
    obtain⟨e4,he4,h⟩:=bS h
    refine oq 209 (.iptr (ac e4) 0) rfl (aJ rfl rfl rfl (cC rfl rfl (aC e4) rfl he4)) ?_
    refine cq 1 [20] [ac e4] 225 ?_
    obtain⟨r5,hr5,h⟩:=bS h
    refine oq 241 (str r5) rfl (aH rfl rfl (aP rfl rfl rfl (bd (bx rfl) bE) (ls cQ hr5) (.inr rfl) bm rfl rfl rfl)) ?_
    obtain⟨s6,hs6,h⟩:=bS h
    refine oq 257 (str s6) rfl (ia rfl rfl (iy hs6)) ?_
    refine cq 2 [2] [str s6] 273 ?_
    obtain rfl:=sI h
    exact rP [str s6]
   ·refine cq 5 [23] [B (c_1.Op==5)] 193 ?_
    refine sq h ?_ ?_<;>intro h
    ·refine aq 1 ?_
     refine gN [0,1,3,7,15,31,63,0,128,384,896,1951,4095,8191,16383] rfl (by decide +kernel) ?_
     refine dq [1] [] (.hp 1 0 [] 4 0 3) rfl (bn rfl rfl rfl) ?_
     refine dq [1] [] (.isl false (c_1.Parts.map ah)) rfl (dD rfl rfl) ?_
     obtain⟨e7,he7,h⟩:=bS h
     refine dq [] [] (.iptr (ac e7) 0) rfl (aJ rfl rfl rfl (cC rfl rfl (aC e7) rfl he7)) ?_
     refine dq [] [] (ac e7) rfl (dD rfl rfl) ?_
     obtain⟨r8,hr8,h⟩:=bS h
     refine dq [] [] (str r8) rfl (aH rfl rfl (aP rfl rfl rfl (bd (bx rfl) bE) (ls cQ hr8) (.inr rfl) bm rfl rfl rfl)) ?_ (fb rfl rfl rfl rfl (bd (bx rfl) bE) (ls cQ hr8) (.inr rfl) rfl)
     obtain⟨s9,hs9,h⟩:=bS h
     refine dq [] [] (str s9) rfl (ia rfl rfl (iy hs9)) ?_
     obtain⟨s10,hs10,h⟩:=bS h
     refine dq [] [] (str s10) rfl (ia rfl rfl (iy hs10)) ?_
     refine dq [1] [] (.hp 1 0 [] 4 0 3) rfl (bn rfl rfl rfl) ?_
     refine dq [1] [] (.isl false (c_1.Parts.map ah)) rfl (dD rfl rfl) ?_
     obtain⟨e11,he11,h⟩:=bS h
     refine dq [] [] (.iptr (ac e11) 0) rfl (aJ rfl rfl rfl (cC rfl rfl (aC e11) rfl he11)) ?_
     refine dq [] [] (ac e11) rfl (dD rfl rfl) ?_
     obtain⟨r12,hr12,h⟩:=bS h
     refine dq [] [] (str r12) rfl (aH rfl rfl (aP rfl rfl rfl (bd (bx rfl) bE) (ls cQ hr12) (.inr rfl) bm rfl rfl rfl)) ?_ (fb rfl rfl rfl rfl (bd (bx rfl) bE) (ls cQ hr12) (.inr rfl) rfl)
     obtain⟨s13,hs13,h⟩:=bS h
     refine dq [] [] (str s13) rfl (ia rfl rfl (iy hs13)) ?_
     obtain⟨s14,hs14,h⟩:=bS h
     refine dq [] [] (str s14) rfl (ia rfl rfl (iy hs14)) ?_
     refine dk 1 [2] [str s14] ?_
     refine de 433 rfl rfl ?_
     obtain rfl:=sI h
     exact rP [str s14]
    ·refine cq 5 [39] [B (c_1.Op==6)] 225 ?_
     refine sq h ?_ ?_<;>intro h
     ·refine aq 1 ?_
      refine gN [0,1,3,7,15,31,63,0,128,384,896,1951,4095,8191,16383] rfl (by decide +kernel) ?_
      refine dq [1] [] (.hp 1 0 [] 4 0 3) rfl (bn rfl rfl rfl) ?_
      refine dq [1] [] (.isl false (c_1.Parts.map ah)) rfl (dD rfl rfl) ?_
      obtain⟨e15,he15,h⟩:=bS h
      refine dq [] [] (.iptr (ac e15) 0) rfl (aJ rfl rfl rfl (cC rfl rfl (aC e15) rfl he15)) ?_
      refine dq [] [] (ac e15) rfl (dD rfl rfl) ?_
      obtain⟨r16,hr16,h⟩:=bS h
      refine dq [] [] (str r16) rfl (aH rfl rfl (aP rfl rfl rfl (bd (bx rfl) bE) (ls cQ hr16) (.inr rfl) bm rfl rfl rfl)) ?_ (fb rfl rfl rfl rfl (bd (bx rfl) bE) (ls cQ hr16) (.inr rfl) rfl)
      obtain⟨s17,hs17,h⟩:=bS h
      refine dq [] [] (str s17) rfl (ia rfl rfl (iy hs17)) ?_
      obtain⟨s18,hs18,h⟩:=bS h
      refine dq [] [] (str s18) rfl (ia rfl rfl (iy hs18)) ?_
      refine dq [1] [] (.hp 1 0 [] 4 0 3) rfl (bn rfl rfl rfl) ?_
      refine dq [1] [] (.isl false (c_1.Parts.map ah)) rfl (dD rfl rfl) ?_
      obtain⟨e19,he19,h⟩:=bS h
      refine dq [] [] (.iptr (ac e19) 0) rfl (aJ rfl rfl rfl (cC rfl rfl (aC e19) rfl he19)) ?_
      refine dq [] [] (ac e19) rfl (dD rfl rfl) ?_
      obtain⟨r20,hr20,h⟩:=bS h
      refine dq [] [] (str r20) rfl (aH rfl rfl (aP rfl rfl rfl (bd (bx rfl) bE) (ls cQ hr20) (.inr rfl) bm rfl rfl rfl)) ?_ (fb rfl rfl rfl rfl (bd (bx rfl) bE) (ls cQ hr20) (.inr rfl) rfl)
      obtain⟨s21,hs21,h⟩:=bS h
      refine dq [] [] (str s21) rfl (ia rfl rfl (iy hs21)) ?_
      obtain⟨s22,hs22,h⟩:=bS h
      refine dq [] [] (str s22) rfl (ia rfl rfl (iy hs22)) ?_
      refine dk 1 [2] [str s22] ?_
      refine de 465 rfl rfl ?_
      obtain rfl:=sI h
      exact rP [str s22]
     ·refine aq 1 ?_
      refine cq 5 [2] [str ([116,114,117,101]:ae)] 241 ?_
      obtain rfl:=sI h
      exact rP [str ([116,114,117,101]:ae)]
theorem FC {G:cW}[TabG Tryz.prog G]:cX G 26 vD:=gq fun cQ g_Ffk=>gT 1 0 (aQ FD (aQ g_Ffk ch)) dF Tryz.func26 (fun a r h=>PA cQ a r h)
def Ee:Condition→List V:=oA ac
def Ef (r:ae×Bool):V×List V:=(.tup [str r.1,B r.2],[])
noncomputable def Cf :=bu [false] Ee Ef fun x=>E6 x
theorem SE {c_1:Condition}{r}(h:E6 c_1=some r):Cf.F (Ee c_1)=some (Ef r):=ba (bb bc) h
noncomputable def SG :=aY Tryz.f11
noncomputable def OB :=dE [(16,pe),(26,vD)]
def SF (x:Condition)(r:ae×Bool):St→Prop:=QF OB Tryz.f11 [false] (Ee x) (Ef r)
theorem Ph (c_1:Condition)(r:ae×Bool)(h:E6 c_1=some r):b7 OB Tryz.f11 [false] 0 (Ee c_1) (Ef r):=by
 show Run _ _ (SF c_1 r) [.code SG] _
 refine rI 9 [(0,ac c_1)] [] 1 ?_
 unfold E6 at h
 refine ck 10 [1,4] [] [1] [] [.hp 1 0 [] 4 0 0,ac c_1] [some ⟨0,4,[ac c_1]⟩] 65 (by kernel_rfl) ?_
 obtain⟨r2,hr2,h⟩:=bS h
 refine oq 81 (B r2) rfl (cP (Eh hr2)) ?_
 refine cq 2 [6] [B (!r2)] 97 ?_
 refine sq h ?_ ?_<;>intro h
 ·refine cq 5 [2,3] [str ([]:ae),B false] 129 ?_
  obtain rfl:=sI h
  exact rP [str ([]:ae),B false]
 ·refine aq 1 ?_
  refine cq 3 [7] [ac c_1] 113 ?_
  obtain⟨r3,hr3,h⟩:=bS h
  refine oq 129 (str r3) rfl (cP (OK hr3)) ?_
  refine cq 3 [2,3] [str r3,B true] 161 ?_
  obtain rfl:=sI h
  exact rP [str r3,B true]
theorem My {G:cW}[TabG Tryz.prog G]:cX G 11 Cf:=gT 1 0 (aQ rQ (aQ FC ch)) dF Tryz.func11 (fun a r h=>Ph a r h)
def yO:(ae×ae)→List V:=cA str (oA str)
def yQ (r:Bool):V×List V:=(B r,[])
noncomputable def wY :=bu [false,false] yO yQ fun x=>wX x.1 x.2
theorem QS {s_1:ae}{bF:ae}{r}(h:wX s_1 bF=some r):wY.F (yO (s_1,bF))=some (yQ r):=ba (cI bU (bb bU)) h
noncomputable def JW :=aY Tryz.f77
noncomputable def E8 :=dE []
def yP (x:ae×ae)(r:Bool):St→Prop:=QF E8 Tryz.f77 [false,false] (yO x) (yQ r)
theorem MB (s_1:ae)(bF:ae)(r:Bool)(h:wX s_1 bF=some r):b7 E8 Tryz.f77 [false,false] 0 (yO (s_1,bF)) (yQ r):=by
 show Run _ _ (yP (s_1,bF) r) [.code JW] _
 refine rI 18 [(0,str s_1),(1,str bF)] [] 1 ?_
 unfold wX at h
 refine cq 12 [10] [B (decide ((len s_1)≥(len bF)))] 113 ?_
 obtain⟨y3,hy3,hy31,hy32⟩:=bJ h
 have j3:∀u3,y3=.inr u3→Run E8 0 (yP (s_1,bF) r) (.code (cR (cR JW))::[]) (sT 18 [(4,B u3)] [] 1):=by
  intro u3 hu
  replace h:=hy32 u3 hu
  obtain rfl:=sI h
  exact rP [B u3]
 have r3:∀r',y3=.inl r'→∀st,yP (s_1,bF) r' st→(yP (s_1,bF) r) st:=fun r' e st hq=>by rw[hy31 r' e] at hq;exact hq
 replace h:=hy3
 refine sp 10 h rfl ?_ ?_<;>intro h
 ·refine cq 3 [11,13] [str s_1,I (len bF)] 161 ?_
  obtain⟨s4,hs4,h⟩:=bS h
  refine oy 177 (str s4) rfl (fi rfl rfl rfl rfl (hM rfl rfl rfl hs4)) ?_
  refine cq 5 [4] [B (s4==bF)] 241 ?_
  exact rf [4] [] (j3 _ (ak h) :)
 ·refine cq 9 [4] [B false] 241 ?_
  exact rf [4] [] (j3 _ (ak h) :)
theorem JX {G:cW}[TabG Tryz.prog G]:cX G 77 wY:=gT 2 0 ch dF Tryz.func77 (fun a r h=>MB a.1 a.2 r h)
def yM:(ae×ae)→List V:=cA str (oA str)
def yN (r:ae×Bool):V×List V:=(.tup [str r.1,B r.2],[])
noncomputable def wW :=bu [false,false] yM yN fun x=>wV x.1 x.2
theorem QP {s_1:ae}{bF:ae}{r}(h:wV s_1 bF=some r):wW.F (yM (s_1,bF))=some (yN r):=ba (cI bU (bb bU)) h
noncomputable def QR :=aY Tryz.f70
noncomputable def JU :=dE [(77,wY)]
def QQ (x:ae×ae)(r:ae×Bool):St→Prop:=QF JU Tryz.f70 [false,false] (yM x) (yN r)
theorem MA (s_1:ae)(bF:ae)(r:ae×Bool)(h:wV s_1 bF=some r):b7 JU Tryz.f70 [false,false] 0 (yM (s_1,bF)) (yN r):=by
 show Run _ _ (QQ (s_1,bF) r) [.code QR] _
 refine rI 15 [(0,str s_1),(1,str bF)] [] 1 ?_
 unfold wV at h
 refine cq 10 [6,7] [str s_1,str bF] 65 ?_
 obtain⟨r3,hr3,h⟩:=bS h
 refine oq 81 (B r3) rfl (cP (QS hr3)) ?_
 refine cq 2 [9] [B (!r3)] 97 ?_
 refine sq h ?_ ?_<;>intro h
 ·refine cq 6 [4,5] [str s_1,B false] 145 ?_
  obtain rfl:=sI h
  exact rP [str s_1,B false]
 ·refine aq 1 ?_
  refine cq 5 [11,13] [str s_1,I (len bF)] 145 ?_
  obtain⟨s4,hs4,h⟩:=bS h
  refine oq 161 (str s4) rfl (fi rfl rfl rfl rfl (hM rfl rfl rfl hs4)) ?_
  refine cq 3 [4,5] [str s4,B true] 193 ?_
  obtain rfl:=sI h
  exact rP [str s4,B true]
theorem JV {G:cW}[TabG Tryz.prog G]:cX G 70 wW:=gT 2 0 (aQ JX ch) dF Tryz.func70 (fun a r h=>MA a.1 a.2 r h)
def Aq:(ae×ae)→List V:=cA str (oA str)
def Ar (r:ae×Bool):V×List V:=(.tup [str r.1,B r.2],[])
noncomputable def xR :=bu [false,false] Aq Ar fun x=>xQ x.1 x.2
theorem RG {s_1:ae}{bF:ae}{r}(h:xQ s_1 bF=some r):xR.F (Aq (s_1,bF))=some (Ar r):=ba (cI bU (bb bU)) h
noncomputable def RI :=aY Tryz.f62
noncomputable def K0 :=dE [(70,wW)]
def RH (x:ae×ae)(r:ae×Bool):St→Prop:=QF K0 Tryz.f62 [false,false] (Aq x) (Ar r)
theorem Ni (s_1:ae)(bF:ae)(r:ae×Bool)(h:xQ s_1 bF=some r):b7 K0 Tryz.f62 [false,false] 0 (Aq (s_1,bF)) (Ar r):=by
 show Run _ _ (RH (s_1,bF) r) [.code RI] _
 refine rI 11 [(0,str s_1),(1,str bF)] [] 1 ?_
 unfold xQ at h
 refine cq 9 [6,7] [str s_1,str bF] 65 ?_
 obtain⟨r3,hr3,h⟩:=bS h
 refine oq 81 (.tup [str r3.1,B r3.2]) rfl (cP (QP hr3)) ?_
 refine cq 5 [4,5] [str r3.1,B r3.2] 145 ?_
 obtain rfl:=sI h
 exact rP [str r3.1,B r3.2]
theorem K1 {G:cW}[TabG Tryz.prog G]:cX G 62 xR:=gT 2 0 (aQ JV ch) dF Tryz.func62 (fun a r h=>Ni a.1 a.2 r h)
def Ev:(conditionReader×ae)→List V:=cA (qm bM) (oA str)
def Ew (r:Bool×conditionReader):V×List V:=(B r.1,[.uptr (bM r.2)])
noncomputable def Cq :=bu [true,false] Ev Ew fun x=>pz x.1 x.2
theorem vC {r_4:conditionReader}{kR:ae}{r}(h:pz r_4 kR=some r):Cq.F (Ev (r_4,kR))=some (Ew r):=ba (cI (gb lj) (bb bU)) h
noncomputable def OI :=aY Tryz.f48
noncomputable def II :=dE [(62,xR)]
def OH (x:conditionReader×ae)(r:Bool×conditionReader):St→Prop:=QF II Tryz.f48 [true,false] (Ev x) (Ew r)
theorem Py (r_4:conditionReader)(kR:ae)(r:Bool×conditionReader)(h:pz r_4 kR=some r):b7 II Tryz.f48 [true,false] 1 (Ev (r_4,kR)) (Ew r):=by
 show Run _ _ (OH (r_4,kR) r) [.code OI] _
 refine rI 22 [(0,.hp 1 0 [] 3 0 0),(1,str kR)] [(1,some ⟨0,3,[bM r_4]⟩)] 2 ?_
 unfold pz at h
 refine cq 11 [11,12] [str r_4.f_rest,str kR] 98 ?_
 obtain⟨r3,hr3,h⟩:=bS h
 refine oq 114 (.tup [str r3.1,B r3.2]) rfl (cP (RG hr3)) ?_
 refine cq 11 [5,6,16] [str r3.1,B r3.2,B r3.2] 210 ?_
 obtain⟨u4,hu4,h⟩:=lJ h
 have j4:Run II 1 (OH (r_4,kR) r) (.code (cR (cR (cR OI)))::[]) (sT 22 [(6,B r3.2)] [⟨0,3,[.agg [str u4,I r_4.f_count,B r_4.f_failed]]⟩] 2):=by
  refine cq 5 [4] [B r3.2] 34 ?_
  obtain rfl:=sI h
  exact bH rfl ⟨_,fin (vs:=[B r3.2]) rfl (cn (be rfl) bT) rfl (fw rfl (eQ rfl rfl) (eF dG)),fQ dw⟩
 replace h:=hu4
 clear hu4
 refine om h rfl rfl ?_ ?_<;>intro h
 ·refine ck 7 [] [] [1] [] [] [some ⟨0,3,[.agg [str r3.1,I r_4.f_count,B r_4.f_failed]]⟩] 290 (by kernel_rfl) ?_
  subst h
  exact rf [6] [1] (j4 :)
 ·refine aq 1 ?_
  subst h
  exact rf [6] [1] (j4 :)
theorem Nr {G:cW}[TabG Tryz.prog G]:cX G 48 Cq:=gT 2 1 (aQ K1 ch) dF Tryz.func48 (fun a r h=>Py a.1 a.2 r h)
def Hr:Shelf.Ren:=⟨fun | 172=>63 | 244=>71 | 245=>72 | 247=>78 | 279=>79 | 280=>80 | 281=>81 | 282=>82 | 287=>88 | 316=>89 | 171=>69 | 205=>90 | 321=>100 | 322=>101 | 243=>76 | 246=>87 | 283=>96 | 284=>97 | 285=>98 | 286=>99 | 129=>105 | 317=>104 | 318=>106 | 319=>107 | 320=>108 | 337=>109 | 338=>110 | n=>n,fun | 9=>9 | 3=>3 | 75=>79 | 76=>80 | 4=>4 | 5=>5 | 167=>91 | 37=>22 | 0=>0 | 85=>92 | 2=>2 | 168=>94 | 53=>40 | 175=>102 | 46=>84 | 210=>106 | 127=>114 | 145=>117 | 143=>115 | 21=>21 | 171=>108 | 173=>111 | 212=>126 | 51=>122 | 20=>20 | 213=>127 | 232=>130 | 233=>131 | 80=>132 | n=>n,fun | 15=>0 | 16=>1 | 17=>5 | 18=>6 | 19=>7 | n=>n⟩
theorem QK:Go.Proofs.Lays.n172 Tryz.prog Hr where
 mixed:=by kernel_rfl
 f129:=Tryz.func105.trans (congrArg some (by kernel_rfl))
 f171:=Tryz.func69.trans (congrArg some (by kernel_rfl))
 f172:=Tryz.func63.trans (congrArg some (by kernel_rfl))
 f205:=Tryz.func90.trans (congrArg some (by kernel_rfl))
 f243:=Tryz.func76.trans (congrArg some (by kernel_rfl))
 f244:=Tryz.func71.trans (congrArg some (by kernel_rfl))
 f245:=Tryz.func72.trans (congrArg some (by kernel_rfl))
 f246:=Tryz.func87.trans (congrArg some (by kernel_rfl))
 f247:=Tryz.func78.trans (congrArg some (by kernel_rfl))
 f279:=Tryz.func79.trans (congrArg some (by kernel_rfl))
 f280:=Tryz.func80.trans (congrArg some (by kernel_rfl))
 f281:=Tryz.func81.trans (congrArg some (by kernel_rfl))
 f282:=Tryz.func82.trans (congrArg some (by kernel_rfl))
 f283:=Tryz.func96.trans (congrArg some (by kernel_rfl))
 f284:=Tryz.func97.trans (congrArg some (by kernel_rfl))
 f285:=Tryz.func98.trans (congrArg some (by kernel_rfl))
 f286:=Tryz.func99.trans (congrArg some (by kernel_rfl))
 f287:=Tryz.func88.trans (congrArg some (by kernel_rfl))
 f316:=Tryz.func89.trans (congrArg some (by kernel_rfl))
 f317:=Tryz.func104.trans (congrArg some (by kernel_rfl))
 f318:=Tryz.func106.trans (congrArg some (by kernel_rfl))
 f319:=Tryz.func107.trans (congrArg some (by kernel_rfl))
 f320:=Tryz.func108.trans (congrArg some (by kernel_rfl))
 f321:=Tryz.func100.trans (congrArg some (by kernel_rfl))
 f322:=Tryz.func101.trans (congrArg some (by kernel_rfl))
 f337:=Tryz.func109.trans (congrArg some (by kernel_rfl))
 f338:=Tryz.func110.trans (congrArg some (by kernel_rfl))
 t0:=Tryz.underlying0
 a0:=Tryz.isAgg0
 z0:=Tryz.sizeOf0
 v0:=Tryz.zeroValue0
 t2:=Tryz.underlying2
 a2:=Tryz.isAgg2
 z2:=Tryz.sizeOf2
 v2:=Tryz.zeroValue2
 t3:=Tryz.underlying3
 a3:=Tryz.isAgg3
 z3:=Tryz.sizeOf3
 v3:=Tryz.zeroValue3
 t4:=Tryz.underlying4
 a4:=Tryz.isAgg4
 z4:=Tryz.sizeOf4
 v4:=Tryz.zeroValue4
 t5:=Tryz.underlying5
 a5:=Tryz.isAgg5
 z5:=Tryz.sizeOf5
 v5:=Tryz.zeroValue5
 t9:=Tryz.underlying9
 a9:=Tryz.isAgg9
 z9:=Tryz.sizeOf9
 v9:=Tryz.zeroValue9
 t20:=Tryz.underlying20
 a20:=Tryz.isAgg20
 z20:=Tryz.sizeOf20
 v20:=Tryz.zeroValue20
 t21:=Tryz.underlying21
 a21:=Tryz.isAgg21
 z21:=Tryz.sizeOf21
 v21:=Tryz.zeroValue21
 t37:=Tryz.underlying22
 a37:=Tryz.isAgg22
 z37:=Tryz.sizeOf22
 v37:=Tryz.zeroValue22
 t46:=Tryz.underlying84
 a46:=Tryz.isAgg84
 z46:=Tryz.sizeOf84
 v46:=Tryz.zeroValue84
 t51:=Tryz.underlying122
 a51:=Tryz.isAgg122
 z51:=Tryz.sizeOf122
 v51:=Tryz.zeroValue122
 t53:=Tryz.underlying40
 a53:=Tryz.isAgg40
 z53:=Tryz.sizeOf40
 v53:=Tryz.zeroValue40
 t75:=Tryz.underlying79
 a75:=Tryz.isAgg79
 z75:=Tryz.sizeOf79
 v75:=Tryz.zeroValue79
 t76:=Tryz.underlying80
 a76:=Tryz.isAgg80
 z76:=Tryz.sizeOf80
 v76:=Tryz.zeroValue80
 t85:=Tryz.underlying92
 a85:=Tryz.isAgg92
 z85:=Tryz.sizeOf92
 v85:=Tryz.zeroValue92
 t127:=Tryz.underlying114
 a127:=Tryz.isAgg114
 z127:=Tryz.sizeOf114
 v127:=Tryz.zeroValue114
 t143:=Tryz.underlying115
 a143:=Tryz.isAgg115
 z143:=Tryz.sizeOf115
 v143:=Tryz.zeroValue115
 t145:=Tryz.underlying117
 a145:=Tryz.isAgg117
 z145:=Tryz.sizeOf117
 v145:=Tryz.zeroValue117
 t167:=Tryz.underlying91
 a167:=Tryz.isAgg91
 z167:=Tryz.sizeOf91
 v167:=Tryz.zeroValue91
 t168:=Tryz.underlying94
 a168:=Tryz.isAgg94
 z168:=Tryz.sizeOf94
 v168:=Tryz.zeroValue94
 t171:=Tryz.underlying108
 a171:=Tryz.isAgg108
 z171:=Tryz.sizeOf108
 v171:=Tryz.zeroValue108
 t173:=Tryz.underlying111
 a173:=Tryz.isAgg111
 z173:=Tryz.sizeOf111
 v173:=Tryz.zeroValue111
 t175:=Tryz.underlying102
 a175:=Tryz.isAgg102
 z175:=Tryz.sizeOf102
 v175:=Tryz.zeroValue102
 t210:=Tryz.underlying106
 a210:=Tryz.isAgg106
 z210:=Tryz.sizeOf106
 v210:=Tryz.zeroValue106
 t212:=Tryz.underlying126
 a212:=Tryz.isAgg126
 z212:=Tryz.sizeOf126
 v212:=Tryz.zeroValue126
 t213:=Tryz.underlying127
 a213:=Tryz.isAgg127
 z213:=Tryz.sizeOf127
 t232:=Tryz.underlying130
 a232:=Tryz.isAgg130
 z232:=Tryz.sizeOf130
 v232:=Tryz.zeroValue130
 t233:=Tryz.underlying131
 a233:=Tryz.isAgg131
 z233:=Tryz.sizeOf131
 v233:=Tryz.zeroValue131
 g15:=by kernel_rfl
 g16:=by kernel_rfl
 g17:=by kernel_rfl
 g18:=by kernel_rfl
 g19:=by kernel_rfl
noncomputable def vp :=bu [false] (oA str) (fun r=>(.tup [I r.1,.nilif],[])) mQ
theorem C1 {s:ae}{r}(h:mQ s=some r):vp.F [str s]=some (.tup [I r.1,.nilif],[]):=ba (ea:=oA str) (bb bU) h
theorem JQ {G:cW}[TabG Tryz.prog G]:cX G 63 vp:=LK QK
def Ej:Date→List V:=oA fY
def El (r:Bool):V×List V:=(B r,[])
noncomputable def Cl :=bu [false] Ej El fun x=>Fw x
theorem SJ {d_1:Date}{r}(h:Fw d_1=some r):Cl.F (Ej d_1)=some (El r):=ba (bb uS) h
noncomputable def IA :=aY Tryz.f64
noncomputable def Ek :=dE [(38,mZ),(68,ph)]
def sa (x:Date)(r:Bool):St→Prop:=QF Ek Tryz.f64 [false] (Ej x) (El r)
theorem Pr (d_1:Date)(r:Bool)(h:Fw d_1=some r):b7 Ek Tryz.f64 [false] 0 (Ej d_1) (El r):=by
 show Run _ _ (sa d_1 r) [.code IA] _
 refine rI 21 [(0,fY d_1)] [] 1 ?_
 unfold Fw at h
 refine ck 6 [1] [] [1] [] [.hp 1 0 [] 3 0 0] [some ⟨0,3,[fY d_1]⟩] 33 (by kernel_rfl) ?_
 refine gN [0,1,3,7,15,31,63,127,255,511,1023,511,2559,511,8703,31231,65535,131071,262143] rfl (by decide +kernel) ?_
 refine dq [1] [] (.hp 1 0 [] 3 0 0) rfl (bn rfl rfl rfl) ?_
 refine dq [1] [] (I d_1.Year) rfl (dD rfl rfl) ?_
 obtain⟨r2,hr2,h⟩:=bS h
 refine dq [] [] (B r2) rfl (cP (lq hr2)) ?_ (fb rfl rfl rfl rfl (bd (bx rfl) (bd (bx rfl) (bd (bx rfl) bE))) (lq hr2) (.inr rfl) rfl)
 refine dk 1 [6] [B r2] ?_
 obtain⟨y3,hy3,hy31,hy32⟩:=bJ h
 have j3:∀u3,y3=.inr u3→Run Ek 0 (sa d_1 r) (.code (cR (cR IA))::[]) (sT 21 [(2,B u3)] [] 1):=by
  intro u3 hu
  replace h:=hy32 u3 hu
  obtain rfl:=sI h
  exact rP [B u3]
 have r3:∀r',y3=.inl r'→∀st,sa d_1 r' st→(sa d_1 r) st:=fun r' e st hq=>by rw[hy31 r' e] at hq;exact hq
 replace h:=hy3
 refine sp 6 h rfl ?_ ?_<;>intro h
 ·refine dy [1] [] (.hp 1 0 [] 3 0 1) rfl (bn rfl rfl rfl) ?_
  refine dy [1] [] (I d_1.Month) rfl (dD rfl rfl) ?_
  obtain⟨r4,hr4,h⟩:=bS h
  refine dy [] [] (B r4) rfl (cP (lq hr4)) ?_ (fb rfl rfl rfl rfl (bd (bx rfl) (bd (bx rfl) (bd (bx rfl) bE))) (lq hr4) (.inr rfl) rfl)
  refine dk 2 [11,10] [B r4,B r4] ?_
  obtain⟨y5,hy5,hy51,hy52⟩:=bL h
  have j5:∀u5,y5=.inr u5→Run Ek 0 (sa d_1 r) (.code (cR (cR IA))::[]) (sT 21 [(2,B u5)] [] 1):=by
   intro u5 hu
   replace h:=hy52 u5 hu
   exact rf [2] [] (j3 _ (ak h) :)
  have r5:∀r',y5=.inl r'→∀st,sa d_1 r' st→(sa d_1 r) st:=fun r' e st hq=>r3 r' (hy51 r' e) st hq
  replace h:=hy5
  refine sp 11 h rfl ?_ ?_<;>intro h
  ·refine dy [1] [] (.hp 1 0 [] 3 0 2) rfl (bn rfl rfl rfl) ?_
   refine dy [1] [] (I d_1.Day) rfl (dD rfl rfl) ?_
   refine dy [1] [] (.hp 1 0 [] 3 0 0) rfl (bn rfl rfl rfl) ?_
   refine dy [1] [] (I d_1.Year) rfl (dD rfl rfl) ?_
   refine dy [1] [] (.hp 1 0 [] 3 0 1) rfl (bn rfl rfl rfl) ?_
   refine dy [1] [] (I d_1.Month) rfl (dD rfl rfl) ?_
   obtain⟨r6,hr6,h⟩:=bS h
   refine dy [] [] (I r6) rfl (cP (vG hr6)) ?_ (fb rfl rfl rfl rfl (bd (bx rfl) (bd (bx rfl) bE)) (vG hr6) (.inr rfl) rfl)
   obtain⟨r7,hr7,h⟩:=bS h
   refine dy [] [] (B r7) rfl (cP (lq hr7)) ?_ (fb rfl rfl rfl rfl (bd (bx rfl) (bd (bx rfl) (bd (bx rfl) bE))) (lq hr7) (.inr rfl) rfl)
   refine dk 2 [2,20] [B r7,B r7] ?_
   refine de 337 rfl rfl ?_
   exact rf [2] [] (j5 _ (ak h) :)
  ·refine dk 10 [2,20,19,18,17,16,15,14,13,12] [B false,B false,.und,.und,.und,.und,.und,.und,.und,.und] ?_
   refine de 337 rfl rfl ?_
   exact rf [2] [] (j5 _ (ak h) :)
 ·refine dk 15 [2,20,19,18,17,16,15,14,13,12,11,10,9,8,7] [B false,B false,.und,.und,.und,.und,.und,.und,.und,.und,B false,B false,.und,.und,.und] ?_
  refine de 337 rfl rfl ?_
  exact rf [2] [] (j3 _ (ak h) :)
theorem Nm {G:cW}[TabG Tryz.prog G]:cX G 64 Cl:=gT 1 0 (aQ pX (aQ se ch)) dF Tryz.func64 (fun a r h=>Pr a r h)
def EC:Date→List V:=oA fY
def EE (r:Int):V×List V:=(I r,[])
noncomputable def Cu :=bu [false] EC EE fun x=>Dk x
theorem OO {d_1:Date}{r}(h:Dk d_1=some r):Cu.F (EC d_1)=some (EE r):=ba (bb uS) h
noncomputable def IQ :=aY Tryz.f65
noncomputable def ED :=dE [(67,vH),(68,ph)]
def IP (x:Date)(r:Int):St→Prop:=QF ED Tryz.f65 [false] (EC x) (EE r)
theorem IR (d_1:Date):eW ED 0 (IP d_1) (cL (cL (cR (cL (cR (cR IQ)))))) 0 (uo d_1) (fun u=>(sT 32 [(1,.hp 1 0 [] 3 0 0),(3,I u)] [⟨0,3,[fY d_1]⟩] 2)) fun x2=>(sT 32 [(1,.hp 1 0 [] 3 0 0),(3,I x2.1),(4,I x2.2)] [⟨0,3,[fY d_1]⟩] 2):=i7 (AZ d_1) fun {Q K} hK self ih x2 y h hr hn=>by
 unfold lU at h
 refine cq 8 [12] [B (decide (x2.2<d_1.Year))] 66 ?_
 refine sq h ?_ ?_<;>intro h
 ·refine aq 1 ?_
  refine cq 5 [15,16] [I x2.1,I x2.2] 98 ?_
  obtain⟨r3,hr3,h⟩:=bS h
  refine oq 114 (I r3) rfl (cP (IU hr3)) ?_
  refine cq 9 [3,4] [I (aF (x2.1+r3)),I (aF (x2.2+1))] 194 ?_
  refine fF ?_
  exact rf [1,3,4] [1] (ih _ _ h hr hn :)
 ·refine aq 1 ?_
  exact rf [1,3] [1] (hn _ (ak h) :) (hk:=hK)
theorem IT (d_1:Date):eW ED 0 (IP d_1) (cL (cL (cR (cL (cR (cR (cR IQ))))))) 2 (uq d_1) (fun u=>(sT 32 [(3,I u)] [] 1)) fun x5=>(sT 32 [(1,.hp 1 0 [] 3 0 0),(3,I x5.1),(5,I x5.2)] [⟨0,3,[fY d_1]⟩] 2):=i7 (A3 d_1) fun {Q K} hK self ih x5 y h hr hn=>by
 unfold lV at h
 refine cq 8 [22] [B (decide (x5.2<d_1.Month))] 66 ?_
 refine sq h ?_ ?_<;>intro h
 ·refine aq 1 ?_
  refine cq 7 [25,27,28] [I x5.1,I d_1.Year,I x5.2] 130 ?_
  obtain⟨r6,hr6,h⟩:=bS h
  refine oq 146 (I r6) rfl (cP (vG hr6)) ?_
  refine cq 9 [3,5] [I (aF (x5.1+r6)),I (aF (x5.2+1))] 226 ?_
  refine fF ?_
  exact rf [1,3,5] [1] (ih _ _ h hr hn :)
 ·refine aq 1 ?_
  exact rf [3] [] (hn _ (ak h) :) (hk:=hK)
theorem PF (d_1:Date)(r:Int)(h:Dk d_1=some r):b7 ED Tryz.f65 [false] 0 (EC d_1) (EE r):=by
 show Run _ _ (IP d_1 r) [.code IQ] _
 refine rI 32 [(0,fY d_1)] [] 1 ?_
 unfold Dk at h
 refine ck 18 [1,3,4] [] [1] [] [.hp 1 0 [] 3 0 0,I (aF (d_1.Day - 1)),I (2000)] [some ⟨0,3,[fY d_1]⟩] 113 (by kernel_rfl) ?_
 obtain⟨y4,hy4,hy41,hy42⟩:=bJ h
 refine ep rfl ?_
 refine rf [1,3,4] [1] (IR d_1 rfl ((aF (d_1.Day - 1)),2000) _ hy4 (fun r' e st hq=>by rw[hy41 r' e] at hq;exact hq) fun u4 hu=>?_)
 replace h:=hy42 u4 hu
 refine cq 6 [5] [I (1)] 18 ?_
 obtain⟨y7,hy7,hy71,hy72⟩:=bJ h
 refine ep rfl ?_
 refine rf [1,3,5] [1] (IT d_1 rfl (u4,1) _ hy7 (fun r' e st hq=>by rw[hy71 r' e] at hq;exact hq) fun u7 hu=>?_)
 replace h:=hy72 u7 hu
 refine cq 5 [2] [I u7] 33 ?_
 obtain rfl:=sI h
 exact rP [I u7]
theorem Nu {G:cW}[TabG Tryz.prog G]:cX G 65 Cu:=gT 1 0 (aQ FG (aQ se ch)) dF Tryz.func65 (fun a r h=>PF a r h)
def Eq:ae→List V:=oA str
def Es (r:Int×Bool):V×List V:=(.tup [I r.1,B r.2],[])
noncomputable def Cn :=bu [false] Eq Es fun x=>Fz x
theorem SL {s_1:ae}{r}(h:Fz s_1=some r):Cn.F (Eq s_1)=some (Es r):=ba (bb bU) h
noncomputable def ID :=aY Tryz.f49
noncomputable def IC :=dE [(63,vp),(64,Cl),(65,Cu),(47,vF)]
def Er (x:ae)(r:Int×Bool):St→Prop:=QF IC Tryz.f49 [false] (Eq x) (Es r)
theorem Pu (s_1:ae)(r:Int×Bool)(h:Fz s_1=some r):b7 IC Tryz.f49 [false] 0 (Eq s_1) (Es r):=by
 show Run _ _ (Er s_1 r) [.code ID] _
 refine rI 58 [(0,str s_1)] [] 1 ?_
 unfold Fz at h
 refine cq 12 [13] [B ((len s_1) != 10)] 81 ?_
 refine sq h ?_ ?_<;>intro h
 ·refine cq 5 [2,3] [I (0),B false] 113 ?_
  obtain rfl:=sI h
  exact rP [I (0),B false]
 ·refine aq 1 ?_
  refine cq 3 [15] [str s_1] 97 ?_
  obtain⟨s2,hs2,h⟩:=bS h
  refine oq 113 (str s2) rfl (fi rfl rfl rfl rfl (hM rfl rfl rfl hs2)) ?_
  obtain⟨r3,hr3,h⟩:=bS h
  refine oq 129 (.tup [I r3.1,.nilif]) rfl (cP (C1 hr3)) ?_
  refine cq 9 [4,5,21] [I r3.1,.nilif,str s_1] 225 ?_
  obtain⟨s4,hs4,h⟩:=bS h
  refine oq 241 (str s4) rfl (fi rfl rfl rfl rfl (hM rfl rfl rfl hs4)) ?_
  obtain⟨r5,hr5,h⟩:=bS h
  refine oq 257 (.tup [I r5.1,.nilif]) rfl (cP (C1 hr5)) ?_
  refine cq 9 [6,7,27] [I r5.1,.nilif,str s_1] 353 ?_
  obtain⟨s6,hs6,h⟩:=bS h
  refine oq 369 (str s6) rfl (fi rfl rfl rfl rfl (hM rfl rfl rfl hs6)) ?_
  obtain⟨r7,hr7,h⟩:=bS h
  refine oq 385 (.tup [I r7.1,.nilif]) rfl (cP (C1 hr7)) ?_
  refine cq 20 [8,41] [I r7.1,B false] 625 ?_
  refine GL rfl rfl (fun hb=>by cases hb) (fun _=>?_)
  refine ck 14 [10,46] [] [689] [] [.hp 689 0 [] 3 0 0,.agg [I r3.1,I r5.1,I r7.1]] [some ⟨0,3,[.agg [I r3.1,I r5.1,I r7.1]]⟩] 737 (by kernel_rfl) ?_
  obtain⟨r8,hr8,h⟩:=bS h
  refine oq 753 (B r8) rfl (cP (SJ hr8)) ?_
  refine cq 2 [49] [B (!r8)] 785 ?_
  obtain⟨y9,hy9,hy91,hy92⟩:=bJ h
  have j9:∀u9,y9=.inr u9→Run IC 0 (Er s_1 r) (.code (cR (cL (cR (cR (cR (cR (cR (cR (cR ID)))))))))::.code (cR (cR (cR (cR (cR (cR (cR (cR ID))))))))::[]) (sT 58 [(10,.hp 1 0 [] 3 0 0),(55,B u9)] [⟨0,3,[.agg [I r3.1,I r5.1,I r7.1]]⟩] 2):=by
   intro u9 hu
   replace h:=hy92 u9 hu
   refine sq h ?_ ?_<;>intro h
   ·refine cq 5 [2,3] [I (0),B false] 34 ?_
    obtain rfl:=sI h
    exact rP [I (0),B false]
   ·refine aq 1 ?_
    refine cq 3 [56] [.agg [I r3.1,I r5.1,I r7.1]] 18 ?_
    obtain⟨r10,hr10,h⟩:=bS h
    refine oq 34 (I r10) rfl (cP (OO hr10)) ?_
    refine cq 3 [2,3] [I r10,B true] 66 ?_
    obtain rfl:=sI h
    exact rP [I r10,B true]
  have r9:∀r',y9=.inl r'→∀st,Er s_1 r' st→(Er s_1 r) st:=fun r' e st hq=>by rw[hy91 r' e] at hq;exact hq
  replace h:=hy9
  refine sp 49 h rfl ?_ ?_<;>intro h
  ·refine cq 7 [55] [B true] 881 ?_
   exact rf [10,55] [689] (j9 _ (ak h) :)
  ·refine cq 1 [50] [.agg [I r3.1,I r5.1,I r7.1]] 801 ?_
   obtain⟨r11,hr11,h⟩:=bS h
   refine oy 817 (I r11) rfl (cP (OO hr11)) ?_
   obtain⟨r12,hr12,h⟩:=bS h
   refine oy 833 (str r12) rfl (cP (OM hr12)) ?_
   refine cq 4 [55] [B (!(r12==s_1))] 881 ?_
   exact rf [10,55] [689] (j9 _ (ak h) :)
theorem No {G:cW}[TabG Tryz.prog G]:cX G 49 Cn:=gT 1 0 (aQ JQ (aQ Nm (aQ Nu (aQ FD ch)))) dF Tryz.func49 (fun a r h=>Pu a r h)
def AJ:conditionReader→List V:=oA (qm bM)
def AK (r:Condition×conditionReader):V×List V:=(ar r.1,[.uptr (bM r.2)])
noncomputable def xV (aK:conditionReader→Option (Condition×conditionReader)):Ent:=bu [true] AJ AK aK
theorem uk (aK:conditionReader→Option (Condition×conditionReader)){x}{r}(h:aK x=some r):(xV aK).F (AJ x)=some (AK r):=ba (bb (gb lj)) h
noncomputable def Cp :=xV (aE kg)
theorem SO {r_2:conditionReader}{r}(h:AI r_2=some r):Cp.F (AJ r_2)=some (AK r):=uk (aE kg) h
noncomputable def vB :=aY Tryz.f27
noncomputable abbrev ul :=cR (cR (cR (cR vB)))
noncomputable abbrev nW :=cL (cL (cL (cR ul)))
noncomputable abbrev AL :=cR nW
noncomputable abbrev AM :=cR (cL nW)
noncomputable abbrev FA :=cR (cR (cL (cR (cR (cR (cR (cR (cL (cL (cR (cR (cR vB))))))))))))
noncomputable def kT (aK:conditionReader→Option (Condition×conditionReader)):Env:=dE [(48,Cq),(27,(xV aK)),(49,Cn)]
def ix (aK:conditionReader→Option (Condition×conditionReader))(x:conditionReader)(r:Condition×conditionReader):St→Prop:=QF (kT aK) Tryz.f27 [true] (AJ x) (AK r)
theorem IG (aK:conditionReader→Option (Condition×conditionReader))(r_2:conditionReader)(r5:Bool×conditionReader):eW (kT aK) 1 (ix aK r_2) nW 1 (lr aK r_2 r5) (fun u=>(sT 166 [(0,.hp 1 0 [] 3 0 0),(2,.hp 2 0 [] 4 0 0),(6,I u)] [⟨0,3,[bM r5.2]⟩,⟨0,4,[.agg [I (0),str ([]),I (0),.usl 4 (([]).map aa)]]⟩] 3)) fun x6=>(sT 166 [(0,.hp 1 0 [] 3 0 0),(2,.hp 2 0 [] 4 0 0),(6,I x6)] [⟨0,3,[bM r5.2]⟩,⟨0,4,[.agg [I (0),str ([]),I (0),.usl 4 (([]).map aa)]]⟩] 3):=i7 (IE aK r_2 r5) fun {Q K} hK self ih x6 y h hr hn=>by
 unfold gV at h
 refine cq 11 [126] [B (decide (x6<(len r5.2.f_rest)))] 131 ?_
 obtain⟨y7,hy7,hy71,hy72⟩:=bL h
 have j7:∀u7,y7=.inr u7→Run (kT aK) 1 Q (.code AM::.code AL::.lp nW::.blk 1::K) (sT 166 [(0,.hp 1 0 [] 3 0 0),(2,.hp 2 0 [] 4 0 0),(6,I x6),(143,B u7)] [⟨0,3,[bM r5.2]⟩,⟨0,4,[.agg [I (0),str ([]),I (0),.usl 4 (([]).map aa)]]⟩] 3):=by
  intro u7 hu
  replace h:=hy72 u7 hu
  refine sq h ?_ ?_<;>intro h
  ·refine aq 1 ?_
   refine cq 7 [6] [I (aF (x6+1))] 51 ?_
   refine fF ?_
   exact rf [0,2,6] [1,2] (ih _ _ h hr hn :)
  ·refine aq 1 ?_
   exact rf [0,2,6] [1,2] (hn _ (ak h) :) (hk:=hK)
 have r7:∀r',y7=.inl r'→∀st,ix aK r_2 r' st→Q st:=fun r' e st hq=>hr r' (hy71 r' e) st hq
 replace h:=hy7
 refine sp 126 h rfl ?_ ?_<;>intro h
 ·refine cq 5 [130,131] [str r5.2.f_rest,I x6] 211 ?_
  obtain⟨c8,hc8,h⟩:=bS h
  refine oy 227 (.int .u8 (c8.toNat:Int)) rfl (iD rfl rfl (lN rfl rfl hc8)) ?_
  refine cq 3 [135] [B ((c8.toNat:Int) != 32)] 275 ?_
  obtain⟨y9,hy9,hy91,hy92⟩:=bL h
  have j9:∀u9,y9=.inr u9→Run (kT aK) 1 Q (.code AM::.code AL::.lp nW::.blk 1::K) (sT 166 [(0,.hp 1 0 [] 3 0 0),(2,.hp 2 0 [] 4 0 0),(6,I x6),(143,B u9)] [⟨0,3,[bM r5.2]⟩,⟨0,4,[.agg [I (0),str ([]),I (0),.usl 4 (([]).map aa)]]⟩] 3):=by
   intro u9 hu
   replace h:=hy92 u9 hu
   exact rf [0,2,6,143] [1,2] (j7 _ (ak h) :)
  have r9:∀r',y9=.inl r'→∀st,ix aK r_2 r' st→Q st:=fun r' e st hq=>r7 r' (hy91 r' e) st hq
  replace h:=hy9
  refine sp 135 h rfl ?_ ?_<;>intro h
  ·refine cq 5 [139,140] [str r5.2.f_rest,I x6] 355 ?_
   obtain⟨c10,hc10,h⟩:=bS h
   refine oy 371 (.int .u8 (c10.toNat:Int)) rfl (iD rfl rfl (lN rfl rfl hc10)) ?_
   refine cq 3 [143] [B ((c10.toNat:Int) != 41)] 403 ?_
   exact rf [0,2,6,143] [1,2] (j9 _ (ak h) :)
  ·refine cq 9 [143] [B false] 403 ?_
   exact rf [0,2,6,143] [1,2] (j9 _ (ak h) :)
 ·refine cq 18 [143] [B false] 403 ?_
  exact rf [0,2,6,143] [1,2] (j7 _ (ak h) :)
theorem IH (aK:conditionReader→Option (Condition×conditionReader))(r_2:conditionReader)(r18:Bool×conditionReader):eW (kT aK) 1 (ix aK r_2) nW 1 (py aK r_2 r18) (fun u=>(sT 166 [(0,.hp 1 0 [] 3 0 0),(2,.hp 2 0 [] 4 0 0),(6,I u)] [⟨0,3,[bM r18.2]⟩,⟨0,4,[.agg [I (0),str ([]),I (0),.usl 4 (([]).map aa)]]⟩] 3)) fun x28=>(sT 166 [(0,.hp 1 0 [] 3 0 0),(2,.hp 2 0 [] 4 0 0),(6,I x28)] [⟨0,3,[bM r18.2]⟩,⟨0,4,[.agg [I (0),str ([]),I (0),.usl 4 (([]).map aa)]]⟩] 3):=i7 (AN aK r_2 r18) fun {Q K} hK self ih x28 y h hr hn=>by
 unfold ky at h
 refine cq 11 [126] [B (decide (x28<(len r18.2.f_rest)))] 131 ?_
 obtain⟨y29,hy29,hy291,hy292⟩:=bL h
 have j29:∀u29,y29=.inr u29→Run (kT aK) 1 Q (.code AM::.code AL::.lp nW::.blk 1::K) (sT 166 [(0,.hp 1 0 [] 3 0 0),(2,.hp 2 0 [] 4 0 0),(6,I x28),(143,B u29)] [⟨0,3,[bM r18.2]⟩,⟨0,4,[.agg [I (0),str ([]),I (0),.usl 4 (([]).map aa)]]⟩] 3):=by
  intro u29 hu
  replace h:=hy292 u29 hu
  refine sq h ?_ ?_<;>intro h
  ·refine aq 1 ?_
   refine cq 7 [6] [I (aF (x28+1))] 51 ?_
   refine fF ?_
   exact rf [0,2,6] [1,2] (ih _ _ h hr hn :)
  ·refine aq 1 ?_
   exact rf [0,2,6] [1,2] (hn _ (ak h) :) (hk:=hK)
 have r29:∀r',y29=.inl r'→∀st,ix aK r_2 r' st→Q st:=fun r' e st hq=>hr r' (hy291 r' e) st hq
 replace h:=hy29
 refine sp 126 h rfl ?_ ?_<;>intro h
 ·refine cq 5 [130,131] [str r18.2.f_rest,I x28] 211 ?_
  obtain⟨c30,hc30,h⟩:=bS h
  refine oy 227 (.int .u8 (c30.toNat:Int)) rfl (iD rfl rfl (lN rfl rfl hc30)) ?_
  refine cq 3 [135] [B ((c30.toNat:Int) != 32)] 275 ?_
  obtain⟨y31,hy31,hy311,hy312⟩:=bL h
  have j31:∀u31,y31=.inr u31→Run (kT aK) 1 Q (.code AM::.code AL::.lp nW::.blk 1::K) (sT 166 [(0,.hp 1 0 [] 3 0 0),(2,.hp 2 0 [] 4 0 0),(6,I x28),(143,B u31)] [⟨0,3,[bM r18.2]⟩,⟨0,4,[.agg [I (0),str ([]),I (0),.usl 4 (([]).map aa)]]⟩] 3):=by
   intro u31 hu
   replace h:=hy312 u31 hu
   exact rf [0,2,6,143] [1,2] (j29 _ (ak h) :)
  have r31:∀r',y31=.inl r'→∀st,ix aK r_2 r' st→Q st:=fun r' e st hq=>r29 r' (hy311 r' e) st hq
  replace h:=hy31
  refine sp 135 h rfl ?_ ?_<;>intro h
  ·refine cq 5 [139,140] [str r18.2.f_rest,I x28] 355 ?_
   obtain⟨c32,hc32,h⟩:=bS h
   refine oy 371 (.int .u8 (c32.toNat:Int)) rfl (iD rfl rfl (lN rfl rfl hc32)) ?_
   refine cq 3 [143] [B ((c32.toNat:Int) != 41)] 403 ?_
   exact rf [0,2,6,143] [1,2] (j31 _ (ak h) :)
  ·refine cq 9 [143] [B false] 403 ?_
   exact rf [0,2,6,143] [1,2] (j31 _ (ak h) :)
 ·refine cq 18 [143] [B false] 403 ?_
  exact rf [0,2,6,143] [1,2] (j29 _ (ak h) :)
end Go.Ln
