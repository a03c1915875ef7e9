/-
  What each function computes.
-/
import Derived.Test.YtapocebnjdoicaaGreatDoorFnConditionsLnC
set_option maxHeartbeats 4000000
set_option linter.unusedVariables false
set_option linter.unusedSimpArgs false
set_option maxRecDepth 100000
namespace Go.Ln
open Go
noncomputable section
structure Condition where
 Op:Int
 Name:ae
 Day:Int
 Parts:List Condition
mutual
def ah:Condition→V
 | ⟨a0,a1,a2,a3⟩=>.agg [I a0,str a1,I a2,.isl false (cN a3)]
def cN:List Condition→List V
 | []=>[]
 | x::xs=>ah x::cN xs
end
theorem mS:∀xs,cN xs=xs.map ah
 | []=>by simp[cN]
 | x::xs=>by simp[cN,mS xs]
def ac (x:Condition):V:=.agg [I x.Op,str x.Name,I x.Day,.isl false (x.Parts.map ah)]
abbrev Mv (x:Condition):V:=.agg [I x.Op,str x.Name,I x.Day,.isl false (x.Parts.map ah)]
theorem aC (x:Condition):ah x=ac x:=by cases x;simp only[ah,ac,mS]
theorem sv (x:Condition):(cells (ah x)).length=4∧(cells (ah x)).all eP=true:=by rw[aC];exact⟨rfl,rfl⟩
mutual
theorem iL:∀(a b:Condition),ah a=ah b→a=b
 | ⟨a0,a1,a2,a3⟩,⟨b0,b1,b2,b3⟩,h=>by
  simp only[ah] at h
  have k0:=V.agg.inj h
  obtain⟨h0,k1⟩:=List.cons.inj k0
  obtain rfl:=d6 a0 b0 h0
  obtain⟨h1,k2⟩:=List.cons.inj k1
  obtain rfl:=bU a1 b1 h1
  obtain⟨h2,k3⟩:=List.cons.inj k2
  obtain rfl:=d6 a2 b2 h2
  obtain⟨h3,k4⟩:=List.cons.inj k3
  have e3:cN a3=cN b3:=by simpa using h3
  obtain rfl:=mR a3 b3 e3
  rfl
theorem mR:∀(a b:List Condition),cN a=cN b→a=b
 | [],[],_=>rfl
 | [],_::_,h=>by simp[cN] at h
 | _::_,[],h=>by simp[cN] at h
 | x::xs,y::ys,h=>by
  simp only[cN,List.cons.injEq] at h
  rw[iL x y h.1,mR xs ys h.2]
end
theorem bc (a b:Condition)(h:ac a=ac b):a=b:=iL a b (by rw[aC,aC,h])
mutual
def aa:Condition→V
 | ⟨a0,a1,a2,a3⟩=>.agg [I a0,str a1,I a2,.usl 4 (cj a3)]
def cj:List Condition→List V
 | []=>[]
 | x::xs=>aa x::cj xs
end
theorem mV:∀xs,cj xs=xs.map aa
 | []=>by simp[cj]
 | x::xs=>by simp[cj,mV xs]
def ar (x:Condition):V:=.agg [I x.Op,str x.Name,I x.Day,.usl 4 (x.Parts.map aa)]
abbrev Mw (x:Condition):V:=.agg [I x.Op,str x.Name,I x.Day,.usl 4 (x.Parts.map aa)]
theorem eb (x:Condition):aa x=ar x:=by cases x;simp only[aa,ar,mV]
theorem jD (x:Condition):(cells (aa x)).length=4∧(cells (aa x)).all eP=true:=by rw[eb];exact⟨rfl,rfl⟩
mutual
theorem uR:∀(a b:Condition),aa a=aa b→a=b
 | ⟨a0,a1,a2,a3⟩,⟨b0,b1,b2,b3⟩,h=>by
  simp only[aa] at h
  have k0:=V.agg.inj h
  obtain⟨h0,k1⟩:=List.cons.inj k0
  obtain rfl:=d6 a0 b0 h0
  obtain⟨h1,k2⟩:=List.cons.inj k1
  obtain rfl:=bU a1 b1 h1
  obtain⟨h2,k3⟩:=List.cons.inj k2
  obtain rfl:=d6 a2 b2 h2
  obtain⟨h3,k4⟩:=List.cons.inj k3
  have e3:cj a3=cj b3:=by simpa using h3
  obtain rfl:=mU a3 b3 e3
  rfl
theorem mU:∀(a b:List Condition),cj a=cj b→a=b
 | [],[],_=>rfl
 | [],_::_,h=>by simp[cj] at h
 | _::_,[],h=>by simp[cj] at h
 | x::xs,y::ys,h=>by
  simp only[cj,List.cons.injEq] at h
  rw[uR x y h.1,mU xs ys h.2]
end
theorem uQ (x:Condition):ez (ah x)=ah x:=by rw[aC];rfl
mutual
theorem bK:∀x:Condition,ez (aa x)=ah x
 | ⟨a0,a1,a2,a3⟩=>by simp[aa,ah,ez,fB,str,mT]
theorem mT:∀xs:List Condition,fB (cj xs)=cN xs
 | []=>by simp[cj,cN,fB]
 | x::xs=>by simp[cj,cN,fB,bK x,mT xs]
end
mutual
theorem ke:∀x:Condition,cy (aa x)=false
 | ⟨a0,a1,a2,a3⟩=>by simp[aa,cy,cY,str,my]
theorem my:∀xs:List Condition,cY (cj xs)=false
 | []=>by simp[cj,cY]
 | x::xs=>by simp[cj,cY,ke x,my xs]
end
structure l1Cur where
 f_code:List Int
 f_at:Int
 f_seed:Int
def ce (x:l1Cur):V:=.agg [.isl false (x.f_code.map (V.int .u8)),I x.f_at,.int .u64 x.f_seed]
abbrev QN (x:l1Cur):V:=.agg [.isl false (x.f_code.map (V.int .u8)),I x.f_at,.int .u64 x.f_seed]
def eY (x:l1Cur):V:=.agg [.isl false (x.f_code.map (V.int .u8)),I x.f_at,.int .u64 x.f_seed]
abbrev QO (x:l1Cur):V:=.agg [.isl false (x.f_code.map (V.int .u8)),I x.f_at,.int .u64 x.f_seed]
theorem ee (a b:l1Cur)(h:eY a=eY b):a=b:=by
 obtain⟨p0,p1,p2⟩:=a
 obtain⟨q0,q1,q2⟩:=b
 replace h:=V.agg.inj h
 obtain⟨h0,h⟩:=List.cons.inj h
 obtain rfl:=(fK (l5 (k:=.u8))) p0 q0 h0
 obtain⟨h1,h⟩:=List.cons.inj h
 obtain rfl:=d6 p1 q1 h1
 obtain⟨h2,h⟩:=List.cons.inj h
 obtain rfl:=(l5 (k:=.u64)) p2 q2 h2
 rfl
structure Date where
 Year:Int
 Month:Int
 Day:Int
def fY (x:Date):V:=.agg [I x.Year,I x.Month,I x.Day]
abbrev SC (x:Date):V:=.agg [I x.Year,I x.Month,I x.Day]
theorem uS (a b:Date)(h:fY a=fY b):a=b:=by
 obtain⟨p0,p1,p2⟩:=a
 obtain⟨q0,q1,q2⟩:=b
 replace h:=V.agg.inj h
 obtain⟨h0,h⟩:=List.cons.inj h
 obtain rfl:=d6 p0 q0 h0
 obtain⟨h1,h⟩:=List.cons.inj h
 obtain rfl:=d6 p1 q1 h1
 obtain⟨h2,h⟩:=List.cons.inj h
 obtain rfl:=d6 p2 q2 h2
 rfl
structure conditionReader where
 f_rest:ae
 f_count:Int
 f_failed:Bool
def bM (x:conditionReader):V:=.agg [str x.f_rest,I x.f_count,B x.f_failed]
abbrev Hq (x:conditionReader):V:=.agg [str x.f_rest,I x.f_count,B x.f_failed]
theorem lj (a b:conditionReader)(h:bM a=bM b):a=b:=by
 obtain⟨p0,p1,p2⟩:=a
 obtain⟨q0,q1,q2⟩:=b
 replace h:=V.agg.inj h
 obtain⟨h0,h⟩:=List.cons.inj h
 obtain rfl:=bU p0 q0 h0
 obtain⟨h1,h⟩:=List.cons.inj h
 obtain rfl:=d6 p1 q1 h1
 obtain⟨h2,h⟩:=List.cons.inj h
 obtain rfl:=SD p2 q2 h2
 rfl
def mh (bo:List Int):Option Bool:=
 some (decide ((len bo)>65536))
def tK (c_3:l1Cur):Option (Int×l1Cur):=
 bI (ρ:=Int×l1Cur) (bif (decide (c_3.f_at<(len c_3.f_code))) then ((bf c_3.f_code c_3.f_at).bind fun e3=>some (.inr (IntKind.i64.wrap e3))) else (some (.inr 0))) fun u2:Int=>bif (decide ((aF (c_3.f_at+1))≤(len c_3.f_code))) then (some (u2,(l1Cur.mk c_3.f_code (aF (c_3.f_at+1)) (IntKind.u64.wrap ((IntKind.u64.wrap ((IntKind.u64.wrap (c_3.f_seed*6364136223846793005))+(IntKind.u64.wrap u2)))+902902))))) else (some ((IntKind.i64.wrap (CF .u64 (JF .u64 (IntKind.u64.wrap ((IntKind.u64.wrap ((IntKind.u64.wrap (c_3.f_seed*6364136223846793005))+(IntKind.u64.wrap u2)))+902902)) 40) 255)),(l1Cur.mk c_3.f_code (aF (c_3.f_at+1)) (IntKind.u64.wrap ((IntKind.u64.wrap ((IntKind.u64.wrap (c_3.f_seed*6364136223846793005))+(IntKind.u64.wrap u2)))+902902)))))
def hZ (c_3:l1Cur)(n_4:Int):Option (Int×l1Cur):=
 bif (decide (n_4≤1)) then (some (0,c_3)) else ((tK c_3).bind fun r3=>bI (ρ:=Int×l1Cur) (bif (decide (n_4>200)) then ((tK r3.2).bind fun r6=>some (.inr ((aF ((aF (r3.1*256))+r6.1)),r6.2.f_code,r6.2.f_at,r6.2.f_seed))) else (some (.inr (r3.1,r3.2.f_code,r3.2.f_at,r3.2.f_seed)))) fun u4:Int×(List Int)×Int×Int=>(GI u4.1 n_4).bind fun q5=>some (q5,(l1Cur.mk u4.2.1 u4.2.2.1 u4.2.2.2)))
def pn (c_3:l1Cur)(n_4:Int):Option (Bool×l1Cur):=
 (hZ c_3 n_4).bind fun r3=>some ((r3.1==0),r3.2)
def pk (c_3:l1Cur)(eA:List Int):Option (Int×l1Cur):=
 (hZ c_3 (len eA)).bind fun r3=>(bf eA r3.1).bind fun e4=>some (e4,r3.2)
def rR: Option (List ae):=
 some [([112,97,105,100]:ae),([115,101,110,116]:ae),([108,97,116,101]:ae),([97]:ae),([98]:ae)]
def ou (c_3:l1Cur)(eA:List ae):Option (ae×l1Cur):=
 (hZ c_3 (len eA)).bind fun r3=>(bf eA r3.1).bind fun e4=>some (e4,r3.2)
def pm (cD:(l1Cur×Int)→Option (Condition×l1Cur))(c_3:l1Cur)(d3:Int):Option (Condition×l1Cur):=
 bI (ρ:=Condition×l1Cur) (bif (decide (d3≤1)) then (some (.inr (true,c_3.f_code,c_3.f_at,c_3.f_seed))) else ((pn c_3 3).bind fun r14=>some (.inr (r14.1,r14.2.f_code,r14.2.f_at,r14.2.f_seed)))) fun u3:Bool×(List Int)×Int×Int=>bif u3.1 then ((hZ (l1Cur.mk u3.2.1 u3.2.2.1 u3.2.2.2) 6).bind fun r4=>bif (r4.1==0) then (some ((Condition.mk 1 [] 0 []),r4.2)) else (d4 (bif (r4.1==1) then (r4.1==1) else (r4.1==2)) fun u5:Bool=>bif u5 then ((pk r4.2 [0,3,10,40,366]).bind fun r6=>some ((Condition.mk 3 [] r6.1 []),r6.2)) else (rR.bind fun r7=>(ou r4.2 r7).bind fun r8=>some ((Condition.mk 2 r8.1 0 []),r8.2)))) else ((pn (l1Cur.mk u3.2.1 u3.2.2.1 u3.2.2.2) 3).bind fun r9=>bif r9.1 then ((cD (r9.2,(aF (d3 - 1)))).bind fun r10=>some ((Condition.mk 4 [] 0 [r10.1]),r10.2)) else ((hZ r9.2 2).bind fun r11=>(cD (r11.2,(aF (d3 - 1)))).bind fun r12=>(cD (r12.2,(aF (d3 - 1)))).bind fun r13=>some ((Condition.mk (aF (5+r11.1)) [] 0 [r12.1,r13.1]),r13.2)))
def kr (cD:(l1Cur×Int)→Option (Condition×l1Cur))(x:l1Cur×Int):Option (Condition×l1Cur):=pm cD x.1 x.2
def Iw (c_3:l1Cur)(d3:Int):Option (Condition×l1Cur):=aE kr (c_3,d3)
theorem MQ:∀x,Fin1 fun cD=>kr cD x:=by
 unfold kr pm
 repeat first|intro _|exact bz|exact cu|apply cE|apply ca|apply cb|apply bZ|apply cF
theorem Ht (c_3:l1Cur)(d3:Int):Iw c_3 d3=pm (aE kr) c_3 d3:=cU MQ (c_3,d3)
def tJ (c_2:l1Cur):Option (Condition×l1Cur):=
 (hZ c_2 3).bind fun r2=>(Iw r2.2 (aF (1+r2.1))).bind fun r3=>some (r3.1,r3.2)
def xz (c_2:l1Cur):Option (Int×l1Cur):=
 (hZ c_2 6).bind fun r2=>bif (r2.1==0) then ((pk r2.2 [0,59,60,365,366,424,425,36524,36523,30,31]).bind fun r3=>some (r3.1,r3.2)) else (bif (r2.1==1) then ((hZ r2.2 36525).bind fun r4=>some (r4.1,r4.2)) else ((hZ r2.2 1500).bind fun r5=>some (r5.1,r5.2)))
def xq (c_2:l1Cur):Option (Int×l1Cur):=
 (pn c_2 16).bind fun r2=>bif r2.1 then ((pk r2.2 [(-1),36524,36525,1099511627776]).bind fun r3=>some (r3.1,r3.2)) else ((xz r2.2).bind fun r4=>some (r4.1,r4.2))
def jv (bQ:Condition→Option Int)(c_1:Condition)(self:(Int×Int)→Option (Int⊕Int))(x2:Int×Int):Option (Int⊕Int):=
 bif (decide (x2.2<(len c_1.Parts))) then ((bf c_1.Parts x2.2).bind fun e3=>(bQ e3).bind fun r4=>self ((aF (x2.1+r4)),(aF (x2.2+1)))) else (some (.inr x2.1))
def kS (bQ:Condition→Option Int)(c_1:Condition): (Int×Int)→Option (Int⊕Int):=aE (jv bQ c_1)
theorem wr (bQ:Condition→Option Int)(c_1:Condition): ∀a,Fin1 fun f=>jv bQ c_1 f a:=by
 unfold jv
 repeat first|intro _|exact bz|exact cu|apply cE|apply ca|apply cb|apply bZ|apply cF
theorem An (bQ:Condition→Option Int)(c_1:Condition)(x:Int×Int):kS bQ c_1 x=jv bQ c_1 (kS bQ c_1) x:=cU (wr bQ c_1) x
def qY (bQ:Condition→Option Int)(c_1:Condition):Option Int:=
 bI (ρ:=Int) (kS bQ c_1 (1,0)) fun u5:Int=>some u5
def kx (bQ:Condition→Option Int)(x:Condition):Option Int:=qY bQ x
def xO (c_1:Condition):Option Int:=aE kx c_1
theorem Nf:∀x,Fin1 fun bQ=>kx bQ x:=by
 unfold kx qY
 repeat first|intro _|exact bz|exact cu|exact jY|exact mg|exact iT|exact kE|exact jx|exact jy|apply cE|apply ca|apply cb|apply bZ|apply cF|apply qd|unfold kS|unfold jv
theorem Pp (c_1:Condition):xO c_1=qY (aE kx) c_1:=cU Nf c_1
def l6 (c_2:l1Cur)(r14:Int×l1Cur)(self:(Int×ae×Int×(List Condition))→Option ((Condition×l1Cur)⊕(Int×ae×Int×(List Condition))))(x15:Int×ae×Int×(List Condition)):Option ((Condition×l1Cur)⊕(Int×ae×Int×(List Condition))):=
 (xO (Condition.mk x15.1 x15.2.1 x15.2.2.1 x15.2.2.2)).bind fun r16=>bif (decide (r16<(aF (14+r14.1)))) then (self (4,[],0,[(Condition.mk x15.1 x15.2.1 x15.2.2.1 x15.2.2.2)])) else (some (.inr (x15.1,x15.2.1,x15.2.2.1,x15.2.2.2)))
def qN (c_2:l1Cur)(r14:Int×l1Cur):(Int×ae×Int×(List Condition))→Option ((Condition×l1Cur)⊕(Int×ae×Int×(List Condition))):=aE (l6 c_2 r14)
theorem wg (c_2:l1Cur)(r14:Int×l1Cur):∀a,Fin1 fun f=>l6 c_2 r14 f a:=by
 unfold l6
 repeat first|intro _|exact bz|exact cu|apply cE|apply ca|apply cb|apply bZ|apply cF
theorem Iu (c_2:l1Cur)(r14:Int×l1Cur)(x:Int×ae×Int×(List Condition)):qN c_2 r14 x=l6 c_2 r14 (qN c_2 r14) x:=cU (wg c_2 r14) x
def xo (c_2:l1Cur):Option (Condition×l1Cur):=
 (tJ c_2).bind fun r2=>(hZ r2.2 20).bind fun r3=>bI (ρ:=Condition×l1Cur) (bif (r3.1==0) then ((hZ r3.2 8).bind fun r5=>some (.inr (r5.2.f_code,r5.2.f_at,r5.2.f_seed,r5.1,r2.1.Name,r2.1.Day,r2.1.Parts))) else (ci (ρ:=Condition×l1Cur) (bif (r3.1==1) then ((ou r3.2 [([]:ae),([65]:ae),([97,98,99,100,101,102,103,104]:ae),([97,98,99,100,101,102,103,104,105]:ae),([116,114,117,101]:ae),([120,57]:ae)]).bind fun r7=>some (.inr (r7.2.f_code,r7.2.f_at,r7.2.f_seed,r2.1.Op,r7.1,r2.1.Day,r2.1.Parts))) else (ci (ρ:=Condition×l1Cur) (bif (r3.1==2) then ((xq r3.2).bind fun r9=>some (.inr (r9.2.f_code,r9.2.f_at,r9.2.f_seed,r2.1.Op,r2.1.Name,r9.1,r2.1.Parts))) else (ci (ρ:=Condition×l1Cur) (bif (r3.1==3) then ((tJ r3.2).bind fun r11=>(kd 56 r2.1.Parts [r11.1]).bind fun a12=>some (.inr (r11.2.f_code,r11.2.f_at,r11.2.f_seed,r2.1.Op,r2.1.Name,r2.1.Day,a12))) else (ci (ρ:=Condition×l1Cur) (bif (r3.1==4) then ((hZ r3.2 3).bind fun r14=>ci (ρ:=Condition×l1Cur) (qN c_2 r14 (r2.1.Op,r2.1.Name,r2.1.Day,r2.1.Parts)) fun u17:Int×ae×Int×(List Condition)=>some (.inr (r14.2.f_code,r14.2.f_at,r14.2.f_seed,u17.1,u17.2.1,u17.2.2.1,u17.2.2.2))) else (some (.inr (r3.2.f_code,r3.2.f_at,r3.2.f_seed,r2.1.Op,r2.1.Name,r2.1.Day,r2.1.Parts)))) fun u13:(List Int)×Int×Int×Int×ae×Int×(List Condition)=>some (.inr (u13.1,u13.2.1,u13.2.2.1,u13.2.2.2.1,u13.2.2.2.2.1,u13.2.2.2.2.2.1,u13.2.2.2.2.2.2)))) fun u10:(List Int)×Int×Int×Int×ae×Int×(List Condition)=>some (.inr (u10.1,u10.2.1,u10.2.2.1,u10.2.2.2.1,u10.2.2.2.2.1,u10.2.2.2.2.2.1,u10.2.2.2.2.2.2)))) fun u8:(List Int)×Int×Int×Int×ae×Int×(List Condition)=>some (.inr (u8.1,u8.2.1,u8.2.2.1,u8.2.2.2.1,u8.2.2.2.2.1,u8.2.2.2.2.2.1,u8.2.2.2.2.2.2)))) fun u6:(List Int)×Int×Int×Int×ae×Int×(List Condition)=>some (.inr (u6.1,u6.2.1,u6.2.2.1,u6.2.2.2.1,u6.2.2.2.2.1,u6.2.2.2.2.2.1,u6.2.2.2.2.2.2)))) fun u4:(List Int)×Int×Int×Int×ae×Int×(List Condition)=>some ((Condition.mk u4.2.2.2.1 u4.2.2.2.2.1 u4.2.2.2.2.2.1 u4.2.2.2.2.2.2),(l1Cur.mk u4.1 u4.2.1 u4.2.2.1))
def kw (l_8:List ae)(s_9:ae)(self:Int→Option ((List ae)⊕(ae×Int×(List ae))))(x3:Int):Option ((List ae)⊕(ae×Int×(List ae))):=
 ci (ρ:=(List ae)) (bif (decide (x3<(len l_8))) then ((bf l_8 x3).bind fun e5=>some (.inr (Op.bytesLess e5 s_9))) else (some (.inr false))) fun u4:Bool=>bif u4 then (self (aF (x3+1))) else (some (.inr (s_9,x3,l_8)))
def qW (l_8:List ae)(s_9:ae): Int→Option ((List ae)⊕(ae×Int×(List ae))):=aE (kw l_8 s_9)
theorem wq (l_8:List ae)(s_9:ae): ∀a,Fin1 fun f=>kw l_8 s_9 f a:=by
 unfold kw
 repeat first|intro _|exact bz|exact cu|apply cE|apply ca|apply cb|apply bZ|apply cF
theorem Ak (l_8:List ae)(s_9:ae)(x:Int):qW l_8 s_9 x=kw l_8 s_9 (qW l_8 s_9) x:=cU (wq l_8 s_9) x
def tX (l_8:List ae)(s_9:ae):Option (List ae):=
 bI (ρ:=(List ae)) (qW l_8 s_9 0) fun u6:ae×Int×(List ae)=>bI (ρ:=(List ae)) (bif (decide (u6.2.1<(len u6.2.2))) then ((bf u6.2.2 u6.2.1).bind fun e15=>some (.inr (e15==u6.1))) else (some (.inr false))) fun u7:Bool=>bif u7 then (some u6.2.2) else ((qI u6.2.2.length 0 u6.2.1).bind fun s8=>(lQ u6.2.2 (0+Int.toNat (0)) (Int.toNat u6.2.1 - Int.toNat (0))).bind fun p9=>(kd 16 ([]:List ae) p9).bind fun a10=>(kd 16 a10 [u6.1]).bind fun a11=>(qI u6.2.2.length u6.2.1 (len u6.2.2)).bind fun s12=>(lQ u6.2.2 (0+Int.toNat u6.2.1) (Int.toNat (len u6.2.2) - Int.toNat u6.2.1)).bind fun p13=>(kd 16 a11 p13).bind fun a14=>some a14)
def ks (c_2:l1Cur)(self:(Int×(List Int)×Int×Int×(List ae))→Option (((List ae)×l1Cur)⊕((List Int)×Int×Int×(List ae))))(x3:Int×(List Int)×Int×Int×(List ae)):Option (((List ae)×l1Cur)⊕((List Int)×Int×Int×(List ae))):=
 bif (decide (x3.1>0)) then (rR.bind fun r4=>(ou (l1Cur.mk x3.2.1 x3.2.2.1 x3.2.2.2.1) r4).bind fun r5=>(tX x3.2.2.2.2 r5.1).bind fun r6=>self ((aF (x3.1 - 1)),r5.2.f_code,r5.2.f_at,r5.2.f_seed,r6)) else (some (.inr (x3.2.1,x3.2.2.1,x3.2.2.2.1,x3.2.2.2.2)))
def qP (c_2:l1Cur): (Int×(List Int)×Int×Int×(List ae))→Option (((List ae)×l1Cur)⊕((List Int)×Int×Int×(List ae))):=aE (ks c_2)
theorem wi (c_2:l1Cur): ∀a,Fin1 fun f=>ks c_2 f a:=by
 unfold ks
 repeat first|intro _|exact bz|exact cu|apply cE|apply ca|apply cb|apply bZ|apply cF
theorem zC (c_2:l1Cur)(x:Int×(List Int)×Int×Int×(List ae)):qP c_2 x=ks c_2 (qP c_2) x:=cU (wi c_2) x
def xB (c_2:l1Cur):Option ((List ae)×l1Cur):=
 (hZ c_2 4).bind fun r2=>bI (ρ:=(List ae)×l1Cur) (qP c_2 (r2.1,r2.2.f_code,r2.2.f_at,r2.2.f_seed,[])) fun u7:(List Int)×Int×Int×(List ae)=>some (u7.2.2.2,(l1Cur.mk u7.1 u7.2.1 u7.2.2.1))
def po (dW:Int→Option ae)(n_1:Int):Option ae:=
 bif (decide (n_1<0)) then ((dW (aF (0 - n_1))).bind fun r2=>(ew ([45]:ae) r2).bind fun s3=>some s3) else (bif (decide (n_1<10)) then ((fy ([48,49,50,51,52,53,54,55,56,57]:ae) n_1 (aF (n_1+1))).bind fun s4=>some s4) else ((dW (aF (n_1.tdiv 10))).bind fun r5=>(fy ([48,49,50,51,52,53,54,55,56,57]:ae) (n_1.tmod 10) (aF ((n_1.tmod 10)+1))).bind fun s6=>(ew r5 s6).bind fun s7=>some s7))
def pq (dW:Int→Option ae)(x:Int):Option ae:=po dW x
def Fm (n_1:Int):Option ae:=aE pq n_1
theorem MZ:∀x,Fin1 fun dW=>pq dW x:=by
 unfold pq po
 repeat first|intro _|exact bz|exact cu|apply cE|apply ca|apply cb|apply bZ|apply cF
theorem Hu (n_1:Int):Fm n_1=po (aE pq) n_1:=cU MZ n_1
def l7 (c_2:l1Cur)(self:(Int×(List Int)×Int×Int×(List ae))→Option (((List ae)×l1Cur)⊕((List Int)×Int×Int×(List ae))))(x8:Int×(List Int)×Int×Int×(List ae)):Option (((List ae)×l1Cur)⊕((List Int)×Int×Int×(List ae))):=
 (hZ (l1Cur.mk x8.2.1 x8.2.2.1 x8.2.2.2.1) 2).bind fun r9=>bif (decide ((len x8.2.2.2.2)<(aF (16+r9.1)))) then ((Fm x8.1).bind fun r10=>(ew ([120]:ae) r10).bind fun s11=>(tX x8.2.2.2.2 s11).bind fun r12=>self ((aF (x8.1+1)),r9.2.f_code,r9.2.f_at,r9.2.f_seed,r12)) else (some (.inr (r9.2.f_code,r9.2.f_at,r9.2.f_seed,x8.2.2.2.2)))
def pd (c_2:l1Cur): (Int×(List Int)×Int×Int×(List ae))→Option (((List ae)×l1Cur)⊕((List Int)×Int×Int×(List ae))):=aE (l7 c_2)
theorem wh (c_2:l1Cur): ∀a,Fin1 fun f=>l7 c_2 f a:=by
 unfold l7
 repeat first|intro _|exact bz|exact cu|apply cE|apply ca|apply cb|apply bZ|apply cF
theorem Iv (c_2:l1Cur)(x:Int×(List Int)×Int×Int×(List ae)):pd c_2 x=l7 c_2 (pd c_2) x:=cU (wh c_2) x
def xt (c_2:l1Cur):Option ((List ae)×l1Cur):=
 (xB c_2).bind fun r2=>(hZ r2.2 20).bind fun r3=>bI (ρ:=(List ae)×l1Cur) (bif (r3.1==0) then ((ou r3.2 [([97]:ae),([122,122]:ae),([]:ae),([111,114]:ae)]).bind fun r5=>(kd 16 r2.1 [r5.1]).bind fun a6=>some (.inr (r5.2.f_code,r5.2.f_at,r5.2.f_seed,a6))) else (ci (ρ:=(List ae)×l1Cur) (bif (r3.1==1) then (ci (ρ:=(List ae)×l1Cur) (pd c_2 (0,r3.2.f_code,r3.2.f_at,r3.2.f_seed,r2.1)) fun u13:(List Int)×Int×Int×(List ae)=>some (.inr (u13.1,u13.2.1,u13.2.2.1,u13.2.2.2))) else (some (.inr (r3.2.f_code,r3.2.f_at,r3.2.f_seed,r2.1)))) fun u7:(List Int)×Int×Int×(List ae)=>some (.inr (u7.1,u7.2.1,u7.2.2.1,u7.2.2.2)))) fun u4:(List Int)×Int×Int×(List ae)=>some (u4.2.2.2,(l1Cur.mk u4.1 u4.2.1 u4.2.2.1))
def xh (bo:List Int):Option (Condition×(List ae)×Int):=
 (xo (l1Cur.mk bo 0 0)).bind fun r2=>(xt r2.2).bind fun r3=>(pk r3.2 [0,2,3,9,10,11,40,366,(-1),36524,36525]).bind fun r4=>some (r2.1,r3.1,r4.1)
def ln (n_1:Int)(mG:Int)(kI:Int):Option Bool:=
 d4 (bif (decide (n_1≥mG)) then (decide (n_1≤kI)) else false) fun u4:Bool=>some u4
def Fc (s_1:ae)(c_2:Int):Option Int:=
 (pU s_1 c_2).bind fun r3=>some r3
def E9 (s_1:ae)(aO:ae):Option Int:=
 d4 (bif ((len aO)==0) then true else (aO==s_1)) fun u3:Bool=>bif u3 then (some 0) else (bif ((len aO)==1) then ((bf aO 0).bind fun c4=>(Fc s_1 (c4.toNat:Int)).bind fun r5=>some r5) else (bif (decide ((len aO)≥(len s_1))) then (some (-1)) else none))
def Ck (s_1:ae)(aO:ae):Option Int:=
 (E9 s_1 aO).bind fun r3=>some r3
def p6 (s_1:ae)(aO:ae)(self:(ae×Int)→Option (Int⊕Unit))(x5:ae×Int):Option (Int⊕Unit):=
 (Ck x5.1 aO).bind fun r6=>bif (r6==(-1)) then (some (.inl x5.2)) else ((fy x5.1 (aF (r6+(len aO))) (len x5.1)).bind fun s7=>self (s7,(aF (x5.2+1))))
def HB (s_1:ae)(aO:ae): (ae×Int)→Option (Int⊕Unit):=aE (p6 s_1 aO)
theorem G6 (s_1:ae)(aO:ae): ∀a,Fin1 fun f=>p6 s_1 aO f a:=by
 unfold p6
 repeat first|intro _|exact bz|exact cu|apply cE|apply ca|apply cb|apply bZ|apply cF
def Fs (s_1:ae)(aO:ae):Option Int:=
 bif ((len aO)==0) then none else (bif ((len aO)==1) then ((bf aO 0).bind fun c3=>(vq s_1 (c3.toNat:Int)).bind fun r4=>some r4) else (bI (ρ:=Int) (HB s_1 aO (s_1,0)) fun u8:Unit=>none))
def p7 (s_1:ae)(dx:ae)(cM:Int)(n_4:Int)(u5:Int)(self:(ae×Int×(List ae))→Option ((List ae)⊕(ae×Int×(List ae))))(x7:ae×Int×(List ae)):Option ((List ae)⊕(ae×Int×(List ae))):=
 bif (decide (x7.2.1<(aF ((if (aF ((len s_1)+1))<u5 then (aF ((len s_1)+1)) else u5) - 1)))) then ((Ck x7.1 dx).bind fun r8=>bif (decide (r8<0)) then (some (.inr (x7.1,x7.2.1,x7.2.2))) else ((fy x7.1 0 (aF (r8+cM))).bind fun s9=>(bf x7.2.2 x7.2.1).bind fun e10=>(fy x7.1 (aF (r8+(len dx))) (len x7.1)).bind fun s11=>self (s11,(aF (x7.2.1+1)),(mN x7.2.2 x7.2.1 s9)))) else (some (.inr (x7.1,x7.2.1,x7.2.2)))
def vy (s_1:ae)(dx:ae)(cM:Int)(n_4:Int)(u5:Int):(ae×Int×(List ae))→Option ((List ae)⊕(ae×Int×(List ae))):=aE (p7 s_1 dx cM n_4 u5)
theorem wt (s_1:ae)(dx:ae)(cM:Int)(n_4:Int)(u5:Int):∀a,Fin1 fun f=>p7 s_1 dx cM n_4 u5 f a:=by
 unfold p7
 repeat first|intro _|exact bz|exact cu|apply cE|apply ca|apply cb|apply bZ|apply cF
def Fu (s_1:ae)(dx:ae)(cM:Int)(n_4:Int):Option (List ae):=
 bif (n_4==0) then (some []) else (bif (dx==([]:ae)) then none else (bI (ρ:=(List ae)) (bif (decide (n_4<0)) then ((Fs s_1 dx).bind fun r16=>some (.inr (aF (r16+1)))) else (some (.inr n_4))) fun u5:Int=>(Pa 16 [] (if (aF ((len s_1)+1))<u5 then (aF ((len s_1)+1)) else u5)).bind fun m6=>bI (ρ:=(List ae)) (vy s_1 dx cM n_4 u5 (s_1,0,m6)) fun u12:ae×Int×(List ae)=>(bf u12.2.2 u12.2.1).bind fun e13=>(qI (mN u12.2.2 u12.2.1 u12.1).length 0 (aF (u12.2.1+1))).bind fun s14=>(lQ (mN u12.2.2 u12.2.1 u12.1) (0+Int.toNat (0)) (Int.toNat (aF (u12.2.1+1)) - Int.toNat (0))).bind fun p15=>some p15))
def xS (s_1:ae)(dx:ae):Option (List ae):=
 (Fu s_1 dx 0 (-1)).bind fun r3=>some r3
def kq (s_1:List ae)(v_2:ae)(self:Int→Option (Int⊕Unit))(x3:Int):Option (Int⊕Unit):=
 bif (decide (x3<(len s_1))) then ((bf s_1 x3).bind fun e4=>bif (v_2==e4) then (some (.inl x3)) else (self (aF (x3+1)))) else (some (.inr ()))
def pc (s_1:List ae)(v_2:ae): Int→Option (Int⊕Unit):=aE (kq s_1 v_2)
theorem we (s_1:List ae)(v_2:ae): ∀a,Fin1 fun f=>kq s_1 v_2 f a:=by
 unfold kq
 repeat first|intro _|exact bz|exact cu|apply cE|apply ca|apply cb|apply bZ|apply cF
theorem zb (s_1:List ae)(v_2:ae)(x:Int):pc s_1 v_2 x=kq s_1 v_2 (pc s_1 v_2) x:=cU (we s_1 v_2) x
def xf (s_1:List ae)(v_2:ae):Option Int:=
 bI (ρ:=Int) (pc s_1 v_2 0) fun u5:Unit=>some (-1)
def qq (s_1:List ae)(v_2:ae):Option Bool:=
 (xf s_1 v_2).bind fun r3=>some (decide (r3≥0))
def nf (s_1:ae)(self:Int→Option (Bool⊕Unit))(x4:Int):Option (Bool⊕Unit):=
 bif (decide (x4<(len s_1))) then ((bf s_1 x4).bind fun c5=>d4 (bif (decide ((c5.toNat:Int)<97)) then (d4 (bif (decide ((c5.toNat:Int)<48)) then true else (decide ((c5.toNat:Int)>57))) fun u7:Bool=>u7) else (d4 (bif (decide ((c5.toNat:Int)>122)) then (d4 (bif (decide ((c5.toNat:Int)<48)) then true else (decide ((c5.toNat:Int)>57))) fun u9:Bool=>u9) else false) fun u8:Bool=>u8)) fun u6:Bool=>bif u6 then (some (.inl false)) else (self (aF (x4+1)))) else (some (.inr ()))
def uj (s_1:ae): Int→Option (Bool⊕Unit):=aE (nf s_1)
theorem AG (s_1:ae): ∀a,Fin1 fun f=>nf s_1 f a:=by
 unfold nf
 repeat first|intro _|exact bz|exact cu|apply cE|apply ca|apply cb|apply bZ|apply cF
theorem K8 (s_1:ae)(x:Int):uj s_1 x=nf s_1 (uj s_1) x:=cU (AG s_1) x
def AD (s_1:ae):Option Bool:=
 (ln (len s_1) 1 8).bind fun r2=>bI (ρ:=Bool) (bif (!r2) then (some (.inr true)) else ((bf s_1 0).bind fun c13=>ci (ρ:=Bool) (bif (decide ((c13.toNat:Int)<97)) then (some (.inr true)) else ((bf s_1 0).bind fun c15=>some (.inr (decide ((c15.toNat:Int)>122))))) fun u14:Bool=>some (.inr u14))) fun u3:Bool=>bif u3 then (some false) else (bI (ρ:=Bool) (uj s_1 0) fun u10:Unit=>(xS ([116,114,117,101,32,102,114,111,109,32,110,111,116,32,97,110,100,32,111,114,32,98,111,116,104,32,101,105,116,104,101,114,32,105,116,32,105,110]:ae) ([32]:ae)).bind fun r11=>(qq r11 s_1).bind fun r12=>some (!r12))
def oE (bi:Int):Option Bool:=
 (ln bi 0 36524).bind fun r2=>some r2
def kz (aN:(Condition×Int)→Option Int)(c_1:Condition)(b9:Int)(self:(Int×Int)→Option (Int⊕Int))(x5:Int×Int):Option (Int⊕Int):=
 bif (decide (x5.2<(len c_1.Parts))) then ((bf c_1.Parts x5.2).bind fun e6=>(aN (e6,x5.1)).bind fun r7=>bif (decide (r7<0)) then (some (.inl (-1))) else (self (r7,(aF (x5.2+1))))) else (some (.inr x5.1))
def lu (aN:(Condition×Int)→Option Int)(c_1:Condition)(b9:Int): (Int×Int)→Option (Int⊕Int):=aE (kz aN c_1 b9)
theorem AU (aN:(Condition×Int)→Option Int)(c_1:Condition)(b9:Int): ∀a,Fin1 fun f=>kz aN c_1 b9 f a:=by
 unfold kz
 repeat first|intro _|exact bz|exact cu|apply cE|apply ca|apply cb|apply bZ|apply cF
theorem Dh (aN:(Condition×Int)→Option Int)(c_1:Condition)(b9:Int)(x:Int×Int):lu aN c_1 b9 x=kz aN c_1 b9 (lu aN c_1 b9) x:=cU (AU aN c_1 b9) x
def vE (aN:(Condition×Int)→Option Int)(c_1:Condition)(b9:Int):Option Int:=
 bI (ρ:=Int) (bif (decide ((aF (b9+1))>15)) then (some (.inr true)) else ((ln c_1.Op 1 6).bind fun r20=>ci (ρ:=Int) (bif (!r20) then (some (.inr true)) else ((bf [(-1),0,0,0,1,2,2] c_1.Op).bind fun e22=>some (.inr ((len c_1.Parts) != e22)))) fun u21:Bool=>some (.inr u21))) fun u3:Bool=>bif u3 then (some (-1)) else (bI (ρ:=Int) (bif (!((c_1.Op==2)==(!(c_1.Name==([]:ae))))) then (some (.inr true)) else (ci (ρ:=Int) (bif (c_1.Op==2) then ((AD c_1.Name).bind fun r10=>ci (ρ:=Int) (bif (!r10) then (some (.inr true)) else (ci (ρ:=Int) (bif (c_1.Op != 3) then (ci (ρ:=Int) (bif (c_1.Day != 0) then (some (.inr true)) else ((oE c_1.Day).bind fun r14=>some (.inr (!r14)))) fun u13:Bool=>some (.inr u13)) else ((oE c_1.Day).bind fun r15=>some (.inr (!r15)))) fun u12:Bool=>some (.inr u12))) fun u11:Bool=>some (.inr u11)) else (ci (ρ:=Int) (bif (c_1.Op != 3) then (ci (ρ:=Int) (bif (c_1.Day != 0) then (some (.inr true)) else ((oE c_1.Day).bind fun r18=>some (.inr (!r18)))) fun u17:Bool=>some (.inr u17)) else ((oE c_1.Day).bind fun r19=>some (.inr (!r19)))) fun u16:Bool=>some (.inr u16))) fun u9:Bool=>some (.inr u9))) fun u4:Bool=>bif u4 then (some (-1)) else (bI (ρ:=Int) (lu aN c_1 b9 ((aF (b9+1)),0)) fun u8:Int=>some u8))
def lF (aN:(Condition×Int)→Option Int)(x:Condition×Int):Option Int:=vE aN x.1 x.2
def La (c_1:Condition)(b9:Int):Option Int:=aE lF (c_1,b9)
theorem PB:∀x,Fin1 fun aN=>lF aN x:=by
 unfold lF vE
 repeat first|intro _|exact bz|exact cu|exact jY|exact mg|exact iT|exact kE|exact jx|exact jy|apply cE|apply ca|apply cb|apply bZ|apply cF|apply qd|unfold lu|unfold kz
theorem RP (c_1:Condition)(b9:Int):La c_1 b9=vE (aE lF) c_1 b9:=cU PB (c_1,b9)
def wj (c_1:Condition):Option Bool:=
 (La c_1 0).bind fun r2=>some (decide (r2>0))
def lW (bB:List ae)(self:Int→Option (Bool⊕Unit))(x2:Int):Option (Bool⊕Unit):=
 bif (decide (x2<(len bB))) then ((bf bB x2).bind fun e3=>(AD e3).bind fun r4=>ci (ρ:=Bool) (bif (!r4) then (some (.inr true)) else (ci (ρ:=Bool) (bif (decide (x2>0)) then ((bf bB (aF (x2 - 1))).bind fun e7=>some (.inr (Op.bytesLess e3 e7||e3==e7))) else (some (.inr false))) fun u6:Bool=>some (.inr u6))) fun u5:Bool=>bif u5 then (some (.inl false)) else (self (aF (x2+1)))) else (some (.inr ()))
def mq (bB:List ae): Int→Option (Bool⊕Unit):=aE (lW bB)
theorem Bc (bB:List ae): ∀a,Fin1 fun f=>lW bB f a:=by
 unfold lW
 repeat first|intro _|exact bz|exact cu|apply cE|apply ca|apply cb|apply bZ|apply cF
theorem Dq (bB:List ae)(x:Int):mq bB x=lW bB (mq bB) x:=cU (Bc bB) x
def FJ (bB:List ae):Option Bool:=
 bI (ρ:=Bool) (mq bB 0) fun u8:Unit=>some (decide ((len bB)≤16))
def sf (cr:(Condition×(List ae)×Int)→Option Bool)(c_1:Condition)(aw:List ae)(aL:Int):Option Bool:=
 bif (c_1.Op==2) then ((qq aw c_1.Name).bind fun r4=>some r4) else (bif (c_1.Op==3) then (some (decide (aL≥c_1.Day))) else (bif (c_1.Op==4) then ((bf c_1.Parts 0).bind fun e5=>(cr (e5,aw,aL)).bind fun r6=>some (!r6)) else (bif (c_1.Op==5) then ((bf c_1.Parts 0).bind fun e7=>(cr (e7,aw,aL)).bind fun r8=>bI (ρ:=Bool) (bif r8 then ((bf c_1.Parts 1).bind fun e10=>(cr (e10,aw,aL)).bind fun r11=>some (.inr r11)) else (some (.inr false))) fun u9:Bool=>some u9) else (bif (c_1.Op==6) then ((bf c_1.Parts 0).bind fun e12=>(cr (e12,aw,aL)).bind fun r13=>bI (ρ:=Bool) (bif r13 then (some (.inr true)) else ((bf c_1.Parts 1).bind fun e15=>(cr (e15,aw,aL)).bind fun r16=>some (.inr r16))) fun u14:Bool=>some u14) else (some true)))))
def lG (cr:(Condition×(List ae)×Int)→Option Bool)(x:Condition×(List ae)×Int):Option Bool:=sf cr x.1 x.2.1 x.2.2
def FH (c_1:Condition)(aw:List ae)(aL:Int):Option Bool:=aE lG (c_1,aw,aL)
theorem PI:∀x,Fin1 fun cr=>lG cr x:=by
 unfold lG sf
 repeat first|intro _|exact bz|exact cu|apply cE|apply ca|apply cb|apply bZ|apply cF
theorem Lc (c_1:Condition)(aw:List ae)(aL:Int):FH c_1 aw aL=sf (aE lG) c_1 aw aL:=cU PI (c_1,aw,aL)
def C5 (c_1:Condition)(aw:List ae)(aL:Int):Option (Bool×Bool):=
 (wj c_1).bind fun r4=>bI (ρ:=Bool×Bool) (bif (!r4) then (some (.inr true)) else ((FJ aw).bind fun r7=>ci (ρ:=Bool×Bool) (bif (!r7) then (some (.inr true)) else ((oE aL).bind fun r9=>some (.inr (!r9)))) fun u8:Bool=>some (.inr u8))) fun u5:Bool=>bif u5 then (some (false,false)) else ((FH c_1 aw aL).bind fun r6=>some (r6,true))
def ko (aR:(Condition×Condition)→Option Bool)(s_1:List Condition)(s_2:List Condition)(im:Unit)(self:Int→Option (Bool⊕Unit))(x4:Int):Option (Bool⊕Unit):=
 bif (decide (x4<(len s_1))) then ((bf s_1 x4).bind fun e5=>(bf s_2 x4).bind fun e6=>(aR (e5,e6)).bind fun r7=>bif (!r7) then (some (.inl false)) else (self (aF (x4+1)))) else (some (.inr ()))
def pb (aR:(Condition×Condition)→Option Bool)(s_1:List Condition)(s_2:List Condition)(im:Unit): Int→Option (Bool⊕Unit):=aE (ko aR s_1 s_2 im)
theorem wd (aR:(Condition×Condition)→Option Bool)(s_1:List Condition)(s_2:List Condition)(im:Unit): ∀a,Fin1 fun f=>ko aR s_1 s_2 im f a:=by
 unfold ko
 repeat first|intro _|exact bz|exact cu|apply cE|apply ca|apply cb|apply bZ|apply cF
theorem Ir (aR:(Condition×Condition)→Option Bool)(s_1:List Condition)(s_2:List Condition)(im:Unit)(x:Int):pb aR s_1 s_2 im x=ko aR s_1 s_2 im (pb aR s_1 s_2 im) x:=cU (wd aR s_1 s_2 im) x
def xd (aR:(Condition×Condition)→Option Bool)(s_1:List Condition)(s_2:List Condition)(im:Unit):Option Bool:=
 bif ((len s_1) != (len s_2)) then (some false) else (bI (ρ:=Bool) (pb aR s_1 s_2 im 0) fun u8:Unit=>some true)
def vL (aR:(Condition×Condition)→Option Bool)(a_1:Condition)(b_2:Condition):Option Bool:=
 bI (ρ:=Bool) (bif (a_1.Op==b_2.Op) then (ci (ρ:=Bool) (bif (a_1.Name==b_2.Name) then (ci (ρ:=Bool) (bif (a_1.Day==b_2.Day) then ((xd aR a_1.Parts b_2.Parts ()).bind fun r6=>some (.inr r6)) else (some (.inr false))) fun u5:Bool=>some (.inr u5)) else (some (.inr false))) fun u4:Bool=>some (.inr u4)) else (some (.inr false))) fun u3:Bool=>some u3
def qa (aR:(Condition×Condition)→Option Bool)(x:Condition×Condition):Option Bool:=vL aR x.1 x.2
def Lg (a_1:Condition)(b_2:Condition):Option Bool:=aE qa (a_1,b_2)
theorem PR:∀x,Fin1 fun aR=>qa aR x:=by
 unfold qa vL
 repeat first|intro _|exact bz|exact cu|exact jY|exact mg|exact iT|exact kE|exact jx|exact jy|apply cE|apply ca|apply cb|apply bZ|apply cF|apply qd|unfold xd|unfold pb|unfold ko
theorem RS (a_1:Condition)(b_2:Condition):Lg a_1 b_2=vL (aE qa) a_1 b_2:=cU PR (a_1,b_2)
def Dp (c_1:Condition):Option Bool:=
 some (c_1.Op==1)
def Bd (c_1:Condition):Option Bool:=
 bI (ρ:=Bool) (bif (c_1.Op==4) then ((bf c_1.Parts 0).bind fun e3=>some (.inr (e3.Op==1))) else (some (.inr false))) fun u2:Bool=>some u2
def kB (aD:Condition→Option Condition)(c_2:Condition)(self:(Int×(List Condition))→Option (Condition⊕(Int×ae×Int×(List Condition))))(x2:Int×(List Condition)):Option (Condition⊕(Int×ae×Int×(List Condition))):=
 bif (decide (x2.1<(len c_2.Parts))) then ((bf c_2.Parts x2.1).bind fun e3=>(aD e3).bind fun r4=>(kd 56 x2.2 [r4]).bind fun a5=>self ((aF (x2.1+1)),a5)) else (some (.inr (c_2.Op,c_2.Name,c_2.Day,x2.2)))
def pC (aD:Condition→Option Condition)(c_2:Condition): (Int×(List Condition))→Option (Condition⊕(Int×ae×Int×(List Condition))):=aE (kB aD c_2)
theorem Bn (aD:Condition→Option Condition)(c_2:Condition): ∀a,Fin1 fun f=>kB aD c_2 f a:=by
 unfold kB
 repeat first|intro _|exact bz|exact cu|apply cE|apply ca|apply cb|apply bZ|apply cF
theorem Dt (aD:Condition→Option Condition)(c_2:Condition)(x:Int×(List Condition)):pC aD c_2 x=kB aD c_2 (pC aD c_2) x:=cU (Bn aD c_2) x
def fp (aD:Condition→Option Condition)(c_2:Condition)(u6:Int×ae×Int×(List Condition))(e17:Bool)(x16:Int)(u15:(List Bool))(self:Int→Option (Condition⊕Unit))(x18:Int):Option (Condition⊕Unit):=
 bif (decide (x18<(len u6.2.2.2))) then ((bf u6.2.2.2 x18).bind fun e19=>bif e17 then ((Dp e19).bind fun r20=>d4 (bif r20 then ((x16==0)==(u6.1==5)) else false) fun u21:Bool=>bif u21 then ((bf u6.2.2.2 (aF (1 - x18))).bind fun e22=>some (.inl e22)) else (bif e17 then ((Dp e19).bind fun r23=>bif r23 then (some (.inl e19)) else (self (aF (x18+1)))) else ((Bd e19).bind fun r24=>bif r24 then (some (.inl e19)) else (self (aF (x18+1)))))) else ((Bd e19).bind fun r25=>d4 (bif r25 then ((x16==0)==(u6.1==5)) else false) fun u26:Bool=>bif u26 then ((bf u6.2.2.2 (aF (1 - x18))).bind fun e27=>some (.inl e27)) else (bif e17 then ((Dp e19).bind fun r28=>bif r28 then (some (.inl e19)) else (self (aF (x18+1)))) else ((Bd e19).bind fun r29=>bif r29 then (some (.inl e19)) else (self (aF (x18+1))))))) else (some (.inr ()))
def jh (aD:Condition→Option Condition)(c_2:Condition)(u6:Int×ae×Int×(List Condition))(e17:Bool)(x16:Int)(u15:(List Bool)):Int→Option (Condition⊕Unit):=aE (fp aD c_2 u6 e17 x16 u15)
theorem Bp (aD:Condition→Option Condition)(c_2:Condition)(u6:Int×ae×Int×(List Condition))(e17:Bool)(x16:Int)(u15:(List Bool)):∀a,Fin1 fun f=>fp aD c_2 u6 e17 x16 u15 f a:=by
 unfold fp
 repeat first|intro _|exact bz|exact cu|apply cE|apply ca|apply cb|apply bZ|apply cF
theorem uA (aD:Condition→Option Condition)(c_2:Condition)(u6:Int×ae×Int×(List Condition))(e17:Bool)(x16:Int)(u15:(List Bool))(x:Int):jh aD c_2 u6 e17 x16 u15 x=fp aD c_2 u6 e17 x16 u15 (jh aD c_2 u6 e17 x16 u15) x:=cU (Bp aD c_2 u6 e17 x16 u15) x
def ct (aD:Condition→Option Condition)(c_2:Condition)(u15:(List Bool))(u6:Int×ae×Int×(List Condition))(self:Int→Option (Condition⊕Unit))(x16:Int):Option (Condition⊕Unit):=
 bif (decide (x16<(len u15))) then ((bf u15 x16).bind fun e17=>ci (ρ:=Condition) (jh aD c_2 u6 e17 x16 u15 0) fun u30:Unit=>self (aF (x16+1))) else (some (.inr ()))
def eh (aD:Condition→Option Condition)(c_2:Condition)(u15:(List Bool))(u6:Int×ae×Int×(List Condition)):Int→Option (Condition⊕Unit):=aE (ct aD c_2 u15 u6)
theorem Bo (aD:Condition→Option Condition)(c_2:Condition)(u15:(List Bool))(u6:Int×ae×Int×(List Condition)):∀a,Fin1 fun f=>ct aD c_2 u15 u6 f a:=by
 unfold ct
 repeat first|intro _|exact bz|exact cu|apply cE|apply ca|apply cb|apply bZ|apply cF
theorem uz (aD:Condition→Option Condition)(c_2:Condition)(u15:(List Bool))(u6:Int×ae×Int×(List Condition))(x:Int):eh aD c_2 u15 u6 x=ct aD c_2 u15 u6 (eh aD c_2 u15 u6) x:=cU (Bo aD c_2 u15 u6) x
def vM (aD:Condition→Option Condition)(c_2:Condition):Option Condition:=
 bI (ρ:=Condition) (pC aD c_2 (0,[])) fun u6:Int×ae×Int×(List Condition)=>bI (ρ:=Condition) (bif (u6.1==3) then (bif (u6.2.2.1==0) then (some (.inl (Condition.mk 1 [] 0 []))) else (some (.inr ()))) else (ci (ρ:=Condition) (bif (u6.1==4) then ((bf u6.2.2.2 0).bind fun e9=>bif (e9.Op==4) then ((bf u6.2.2.2 0).bind fun e10=>(bf e10.Parts 0).bind fun e11=>some (.inl e11)) else (some (.inr ()))) else (d4 (bif (u6.1==5) then (u6.1==5) else (u6.1==6)) fun u12:Bool=>ci (ρ:=Condition) (bif u12 then (d4 (bif (u6.1==6) then (false,true) else (true,false)) fun u14:Bool×Bool=>d4 (bif (u6.1==6) then ([u14.2,u14.1]) else ([u14.1,u14.2])) fun u15:(List Bool)=>ci (ρ:=Condition) (eh aD c_2 u15 u6 0) fun u31:Unit=>(bf u6.2.2.2 0).bind fun e32=>(bf u6.2.2.2 1).bind fun e33=>(Lg e32 e33).bind fun r34=>bif r34 then ((bf u6.2.2.2 0).bind fun e35=>some (.inl e35)) else (some (.inr ()))) else (some (.inr ()))) fun u13:Unit=>some (.inr ()))) fun u8:Unit=>some (.inr ()))) fun u7:Unit=>some (Condition.mk u6.1 u6.2.1 u6.2.2.1 u6.2.2.2)
def oP (aD:Condition→Option Condition)(x:Condition):Option Condition:=vM aD x
def Li (c_2:Condition):Option Condition:=aE oP c_2
theorem PT:∀x,Fin1 fun aD=>oP aD x:=by
 unfold oP vM
 repeat first|intro _|exact bz|exact cu|exact jY|exact mg|exact iT|exact kE|exact jx|exact jy|apply cE|apply ca|apply cb|apply bZ|apply cF|apply qd|unfold pC|unfold kB|unfold eh|unfold ct|unfold eh|unfold ct|unfold jh|unfold fp|unfold eh|unfold ct|unfold eh|unfold ct|unfold eh|unfold ct|unfold jh|unfold fp|unfold eh|unfold ct|unfold eh|unfold ct|unfold eh|unfold ct|unfold jh|unfold fp|unfold eh|unfold ct|unfold eh|unfold ct|unfold eh|unfold ct|unfold jh|unfold fp|unfold eh|unfold ct|unfold eh|unfold ct|unfold eh|unfold ct|unfold jh|unfold fp|unfold eh|unfold ct|unfold eh|unfold ct|unfold eh|unfold ct|unfold jh|unfold fp|unfold eh|unfold ct|unfold eh|unfold ct|unfold eh|unfold ct|unfold jh|unfold fp|unfold eh|unfold ct|unfold eh|unfold ct|unfold eh|unfold ct|unfold jh|unfold fp|unfold eh|unfold ct
theorem RT (c_2:Condition):Li c_2=vM (aE oP) c_2:=cU PT c_2
def kA (co:Condition→Option Condition)(c_1:Condition)(self:(Int×(List Condition))→Option (Condition⊕(List Condition)))(x2:Int×(List Condition)):Option (Condition⊕(List Condition)):=
 bif (decide (x2.1<(len c_1.Parts))) then ((bf c_1.Parts x2.1).bind fun e3=>(co e3).bind fun r4=>(kd 56 x2.2 [r4]).bind fun a5=>self ((aF (x2.1+1)),a5)) else (some (.inr x2.2))
def pB (co:Condition→Option Condition)(c_1:Condition): (Int×(List Condition))→Option (Condition⊕(List Condition)):=aE (kA co c_1)
theorem Bg (co:Condition→Option Condition)(c_1:Condition): ∀a,Fin1 fun f=>kA co c_1 f a:=by
 unfold kA
 repeat first|intro _|exact bz|exact cu|apply cE|apply ca|apply cb|apply bZ|apply cF
theorem Dr (co:Condition→Option Condition)(c_1:Condition)(x:Int×(List Condition)):pB co c_1 x=kA co c_1 (pB co c_1) x:=cU (Bg co c_1) x
def vJ (co:Condition→Option Condition)(c_1:Condition):Option Condition:=
 bI (ρ:=Condition) (pB co c_1 (0,[])) fun u6:(List Condition)=>some (Condition.mk c_1.Op c_1.Name c_1.Day u6)
def oO (co:Condition→Option Condition)(x:Condition):Option Condition:=vJ co x
def Lf (c_1:Condition):Option Condition:=aE oO c_1
theorem PO:∀x,Fin1 fun co=>oO co x:=by
 unfold oO vJ
 repeat first|intro _|exact bz|exact cu|exact jY|exact mg|exact iT|exact kE|exact jx|exact jy|apply cE|apply ca|apply cb|apply bZ|apply cF|apply qd|unfold pB|unfold kA
theorem RR (c_1:Condition):Lf c_1=vJ (aE oO) c_1:=cU PO c_1
def Df (c_1:Condition):Option (Condition×Bool):=
 (wj c_1).bind fun r2=>bif (!r2) then (some ((Condition.mk 0 [] 0 []),false)) else ((Li c_1).bind fun r3=>(Lf r3).bind fun r4=>some (r4,true))
def iQ (x_1:Int)(a_2:Int)(b_3:Int):Option Bool:=
 d4 (bif (decide (x_1≥a_2)) then (decide (x_1≤b_3)) else false) fun u4:Bool=>some u4
def tZ (b_1:Int):Option Bool:=
 d4 (bif (decide (b_1≥97)) then (d4 (bif (decide (b_1≤122)) then true else (d4 (bif (decide (b_1≥48)) then (decide (b_1≤57)) else false) fun u4:Bool=>u4)) fun u3:Bool=>u3) else (d4 (bif (decide (b_1≥48)) then (decide (b_1≤57)) else false) fun u5:Bool=>u5)) fun u2:Bool=>some u2
def mb (s_1:ae)(self:Int→Option (Bool⊕Unit))(x4:Int):Option (Bool⊕Unit):=
 bif (decide (x4<(len s_1))) then ((bf s_1 x4).bind fun c5=>(tZ (c5.toNat:Int)).bind fun r6=>bif (!r6) then (some (.inl false)) else (self (aF (x4+1)))) else (some (.inr ()))
def qU (s_1:ae): Int→Option (Bool⊕Unit):=aE (mb s_1)
theorem wo (s_1:ae): ∀a,Fin1 fun f=>mb s_1 f a:=by
 unfold mb
 repeat first|intro _|exact bz|exact cu|apply cE|apply ca|apply cb|apply bZ|apply cF
theorem Iz (s_1:ae)(x:Int):qU s_1 x=mb s_1 (qU s_1) x:=cU (wo s_1) x
def tW (s_1:ae):Option Bool:=
 (iQ (len s_1) 1 8).bind fun r2=>bI (ρ:=Bool) (bif (!r2) then (some (.inr true)) else ((bf s_1 0).bind fun c16=>ci (ρ:=Bool) (bif (decide ((c16.toNat:Int)<97)) then (some (.inr true)) else ((bf s_1 0).bind fun c18=>some (.inr (decide ((c18.toNat:Int)>122))))) fun u17:Bool=>some (.inr u17))) fun u3:Bool=>bif u3 then (some false) else (bI (ρ:=Bool) (qU s_1 0) fun u7:Unit=>d4 (bif (s_1==([116,114,117,101]:ae)) then (s_1==([116,114,117,101]:ae)) else (d4 (bif (s_1==([102,114,111,109]:ae)) then (s_1==([102,114,111,109]:ae)) else (d4 (bif (s_1==([110,111,116]:ae)) then (s_1==([110,111,116]:ae)) else (d4 (bif (s_1==([97,110,100]:ae)) then (s_1==([97,110,100]:ae)) else (d4 (bif (s_1==([111,114]:ae)) then (s_1==([111,114]:ae)) else (d4 (bif (s_1==([98,111,116,104]:ae)) then (s_1==([98,111,116,104]:ae)) else (d4 (bif (s_1==([101,105,116,104,101,114]:ae)) then (s_1==([101,105,116,104,101,114]:ae)) else (d4 (bif (s_1==([105,116]:ae)) then (s_1==([105,116]:ae)) else (s_1==([105,110]:ae))) fun u15:Bool=>u15)) fun u14:Bool=>u14)) fun u13:Bool=>u13)) fun u12:Bool=>u12)) fun u11:Bool=>u11)) fun u10:Bool=>u10)) fun u9:Bool=>u9)) fun u8:Bool=>bif u8 then (some false) else (some true))
def rN (bi:Int):Option Bool:=
 (iQ bi 0 36524).bind fun r2=>some r2
def xH (c_1:Condition):Option Bool:=
 bif (c_1.Op==1) then (d4 (bif ((len c_1.Parts)==0) then (d4 (bif (c_1.Name==([]:ae)) then (c_1.Day==0) else false) fun u3:Bool=>u3) else false) fun u2:Bool=>some u2) else (bif (c_1.Op==2) then (bI (ρ:=Bool) (bif ((len c_1.Parts)==0) then ((tW c_1.Name).bind fun r5=>d4 (bif r5 then (c_1.Day==0) else false) fun u6:Bool=>some (.inr u6)) else (some (.inr false))) fun u4:Bool=>some u4) else (bif (c_1.Op==3) then (bI (ρ:=Bool) (bif ((len c_1.Parts)==0) then (ci (ρ:=Bool) (bif (c_1.Name==([]:ae)) then ((rN c_1.Day).bind fun r9=>some (.inr r9)) else (some (.inr false))) fun u8:Bool=>some (.inr u8)) else (some (.inr false))) fun u7:Bool=>some u7) else (bif (c_1.Op==4) then (d4 (bif ((len c_1.Parts)==1) then (d4 (bif (c_1.Name==([]:ae)) then (c_1.Day==0) else false) fun u11:Bool=>u11) else false) fun u10:Bool=>some u10) else (d4 (bif (c_1.Op==5) then (c_1.Op==5) else (c_1.Op==6)) fun u12:Bool=>bif u12 then (d4 (bif ((len c_1.Parts)==2) then (d4 (bif (c_1.Name==([]:ae)) then (c_1.Day==0) else false) fun u14:Bool=>u14) else false) fun u13:Bool=>some u13) else (some false)))))
def ku (bP:Condition→Option Bool)(c_1:Condition)(self:Int→Option (Bool⊕Unit))(x3:Int):Option (Bool⊕Unit):=
 bif (decide (x3<(len c_1.Parts))) then ((bf c_1.Parts x3).bind fun e4=>(bP e4).bind fun r5=>bif (!r5) then (some (.inl false)) else (self (aF (x3+1)))) else (some (.inr ()))
def pf (bP:Condition→Option Bool)(c_1:Condition): Int→Option (Bool⊕Unit):=aE (ku bP c_1)
theorem wm (bP:Condition→Option Bool)(c_1:Condition): ∀a,Fin1 fun f=>ku bP c_1 f a:=by
 unfold ku
 repeat first|intro _|exact bz|exact cu|apply cE|apply ca|apply cb|apply bZ|apply cF
theorem Ix (bP:Condition→Option Bool)(c_1:Condition)(x:Int):pf bP c_1 x=ku bP c_1 (pf bP c_1) x:=cU (wm bP c_1) x
def qR (bP:Condition→Option Bool)(c_1:Condition):Option Bool:=
 (xH c_1).bind fun r2=>bif (!r2) then (some false) else (bI (ρ:=Bool) (pf bP c_1 0) fun u6:Unit=>some true)
def pr (bP:Condition→Option Bool)(x:Condition):Option Bool:=qR bP x
def Ci (c_1:Condition):Option Bool:=aE pr c_1
theorem M5:∀x,Fin1 fun bP=>pr bP x:=by
 unfold pr qR
 repeat first|intro _|exact bz|exact cu|exact jY|exact mg|exact iT|exact kE|exact jx|exact jy|apply cE|apply ca|apply cb|apply bZ|apply cF|apply qd|unfold pf|unfold ku
theorem Pn (c_1:Condition):Ci c_1=qR (aE pr) c_1:=cU M5 c_1
def tS (c_1:Condition):Option Bool:=
 (Ci c_1).bind fun r2=>bI (ρ:=Bool) (bif r2 then ((xO c_1).bind fun r4=>some (.inr (decide (r4≤15)))) else (some (.inr false))) fun u3:Bool=>some u3
def ju (aW:List ae)(self:Int→Option (Bool⊕Unit))(x2:Int):Option (Bool⊕Unit):=
 d4 (bif (decide (x2<(len aW))) then (decide (x2≤16)) else false) fun u3:Bool=>bif u3 then ((bf aW x2).bind fun e4=>(tW e4).bind fun r5=>ci (ρ:=Bool) (bif (!r5) then (some (.inr true)) else (ci (ρ:=Bool) (bif (decide (x2>0)) then ((bf aW (aF (x2 - 1))).bind fun e8=>(bf aW x2).bind fun e9=>some (.inr (!(Op.bytesLess e8 e9)))) else (some (.inr false))) fun u7:Bool=>some (.inr u7))) fun u6:Bool=>bif u6 then (some (.inl false)) else (self (aF (x2+1)))) else (some (.inr ()))
def iC (aW:List ae): Int→Option (Bool⊕Unit):=aE (ju aW)
theorem wl (aW:List ae): ∀a,Fin1 fun f=>ju aW f a:=by
 unfold ju
 repeat first|intro _|exact bz|exact cu|apply cE|apply ca|apply cb|apply bZ|apply cF
theorem rT (aW:List ae)(x:Int):iC aW x=ju aW (iC aW) x:=cU (wl aW) x
def xF (aW:List ae):Option Bool:=
 bI (ρ:=Bool) (iC aW 0) fun u10:Unit=>some (decide ((len aW)≤16))
def l8 (aW:List ae)(eC:ae)(self:Int→Option (Bool⊕Unit))(x3:Int):Option (Bool⊕Unit):=
 bif (decide (x3<(len aW))) then ((bf aW x3).bind fun e4=>bif (e4==eC) then (some (.inl true)) else (self (aF (x3+1)))) else (some (.inr ()))
def qS (aW:List ae)(eC:ae): Int→Option (Bool⊕Unit):=aE (l8 aW eC)
theorem wn (aW:List ae)(eC:ae): ∀a,Fin1 fun f=>l8 aW eC f a:=by
 unfold l8
 repeat first|intro _|exact bz|exact cu|apply cE|apply ca|apply cb|apply bZ|apply cF
theorem Iy (aW:List ae)(eC:ae)(x:Int):qS aW eC x=l8 aW eC (qS aW eC) x:=cU (wn aW eC) x
def xK (aW:List ae)(eC:ae):Option Bool:=
 bI (ρ:=Bool) (qS aW eC 0) fun u5:Unit=>some false
def qT (bV:(Condition×(List ae)×Int)→Option Bool)(c_1:Condition)(aw:List ae)(aL:Int):Option Bool:=
 bif (c_1.Op==1) then (some true) else (bif (c_1.Op==2) then ((xK aw c_1.Name).bind fun r4=>some r4) else (bif (c_1.Op==3) then (some (decide (aL≥c_1.Day))) else (bif (c_1.Op==4) then ((bf c_1.Parts 0).bind fun e5=>(bV (e5,aw,aL)).bind fun r6=>some (!r6)) else (bif (c_1.Op==5) then ((bf c_1.Parts 0).bind fun e7=>(bV (e7,aw,aL)).bind fun r8=>bI (ρ:=Bool) (bif r8 then ((bf c_1.Parts 1).bind fun e10=>(bV (e10,aw,aL)).bind fun r11=>some (.inr r11)) else (some (.inr false))) fun u9:Bool=>some u9) else ((bf c_1.Parts 0).bind fun e12=>(bV (e12,aw,aL)).bind fun r13=>bI (ρ:=Bool) (bif r13 then (some (.inr true)) else ((bf c_1.Parts 1).bind fun e15=>(bV (e15,aw,aL)).bind fun r16=>some (.inr r16))) fun u14:Bool=>some u14)))))
def kv (bV:(Condition×(List ae)×Int)→Option Bool)(x:Condition×(List ae)×Int):Option Bool:=qT bV x.1 x.2.1 x.2.2
def Cj (c_1:Condition)(aw:List ae)(aL:Int):Option Bool:=aE kv (c_1,aw,aL)
theorem M9:∀x,Fin1 fun bV=>kv bV x:=by
 unfold kv qT
 repeat first|intro _|exact bz|exact cu|apply cE|apply ca|apply cb|apply bZ|apply cF
theorem Po (c_1:Condition)(aw:List ae)(aL:Int):Cj c_1 aw aL=qT (aE kv) c_1 aw aL:=cU M9 (c_1,aw,aL)
def xj (c_1:Condition)(aw:List ae)(aL:Int):Option (Bool×Bool):=
 (tS c_1).bind fun r4=>bI (ρ:=Bool×Bool) (bif (!r4) then (some (.inr true)) else ((xF aw).bind fun r7=>ci (ρ:=Bool×Bool) (bif (!r7) then (some (.inr true)) else ((rN aL).bind fun r9=>some (.inr (!r9)))) fun u8:Bool=>some (.inr u8))) fun u5:Bool=>bif u5 then (some (false,false)) else ((Cj c_1 aw aL).bind fun r6=>some (r6,true))
def xl (c_1:Condition):Option Bool:=
 (tS c_1).bind fun r2=>some r2
def kn (br:(Condition×Condition)→Option Bool)(a_1:Condition)(b_2:Condition)(self:Int→Option (Bool⊕Unit))(x4:Int):Option (Bool⊕Unit):=
 bif (decide (x4<(len a_1.Parts))) then ((bf a_1.Parts x4).bind fun e5=>(bf b_2.Parts x4).bind fun e6=>(br (e5,e6)).bind fun r7=>bif (!r7) then (some (.inl false)) else (self (aF (x4+1)))) else (some (.inr ()))
def pa (br:(Condition×Condition)→Option Bool)(a_1:Condition)(b_2:Condition): Int→Option (Bool⊕Unit):=aE (kn br a_1 b_2)
theorem wc (br:(Condition×Condition)→Option Bool)(a_1:Condition)(b_2:Condition): ∀a,Fin1 fun f=>kn br a_1 b_2 f a:=by
 unfold kn
 repeat first|intro _|exact bz|exact cu|apply cE|apply ca|apply cb|apply bZ|apply cF
theorem Iq (br:(Condition×Condition)→Option Bool)(a_1:Condition)(b_2:Condition)(x:Int):pa br a_1 b_2 x=kn br a_1 b_2 (pa br a_1 b_2) x:=cU (wc br a_1 b_2) x
def qK (br:(Condition×Condition)→Option Bool)(a_1:Condition)(b_2:Condition):Option Bool:=
 d4 (bif (a_1.Op != b_2.Op) then true else (d4 (bif (!(a_1.Name==b_2.Name)) then true else (d4 (bif (a_1.Day != b_2.Day) then true else ((len a_1.Parts) != (len b_2.Parts))) fun u10:Bool=>u10)) fun u9:Bool=>u9)) fun u3:Bool=>bif u3 then (some false) else (bI (ρ:=Bool) (pa br a_1 b_2 0) fun u8:Unit=>some true)
def nR (br:(Condition×Condition)→Option Bool)(x:Condition×Condition):Option Bool:=qK br x.1 x.2
def xb (a_1:Condition)(b_2:Condition):Option Bool:=aE nR (a_1,b_2)
theorem ME:∀x,Fin1 fun br=>nR br x:=by
 unfold nR qK
 repeat first|intro _|exact bz|exact cu|exact jY|exact mg|exact iT|exact kE|exact jx|exact jy|apply cE|apply ca|apply cb|apply bZ|apply cF|apply qd|unfold pa|unfold kn
theorem Pi (a_1:Condition)(b_2:Condition):xb a_1 b_2=qK (aE nR) a_1 b_2:=cU ME (a_1,b_2)
def ut (eZ:Int)(eg:Int):Option Int:=
 bif (eg==2) then (bif ((eZ.tmod 4)==0) then (some 29) else (some 28)) else (d4 (bif (eg==4) then (eg==4) else (d4 (bif (eg==6) then (eg==6) else (d4 (bif (eg==9) then (eg==9) else (eg==11)) fun u5:Bool=>u5)) fun u4:Bool=>u4)) fun u3:Bool=>bif u3 then (some 30) else (some 31))
def A6 (eZ:Int):Option Int:=
 (ut eZ 2).bind fun r2=>some (aF (337+r2))
def lS (bi:Int)(self:(Int×Int)→Option (Date⊕(Int×Int)))(x2:Int×Int):Option (Date⊕(Int×Int)):=
 (A6 x2.2).bind fun r3=>bif (decide (x2.1≥r3)) then ((A6 x2.2).bind fun r4=>self ((aF (x2.1 - r4)),(aF (x2.2+1)))) else (some (.inr (x2.1,x2.2)))
def um (bi:Int): (Int×Int)→Option (Date⊕(Int×Int)):=aE (lS bi)
theorem AW (bi:Int): ∀a,Fin1 fun f=>lS bi f a:=by
 unfold lS
 repeat first|intro _|exact bz|exact cu|apply cE|apply ca|apply cb|apply bZ|apply cF
theorem Di (bi:Int)(x:Int×Int):um bi x=lS bi (um bi) x:=cU (AW bi) x
def lT (bi:Int)(u5:Int×Int)(self:(Int×Int)→Option (Date⊕(Int×Int)))(x6:Int×Int):Option (Date⊕(Int×Int)):=
 (ut u5.2 x6.2).bind fun r7=>bif (decide (x6.1≥r7)) then ((ut u5.2 x6.2).bind fun r8=>self ((aF (x6.1 - r8)),(aF (x6.2+1)))) else (some (.inr (x6.1,x6.2)))
def un (bi:Int)(u5:Int×Int):(Int×Int)→Option (Date⊕(Int×Int)):=aE (lT bi u5)
theorem AX (bi:Int)(u5:Int×Int):∀a,Fin1 fun f=>lT bi u5 f a:=by
 unfold lT
 repeat first|intro _|exact bz|exact cu|apply cE|apply ca|apply cb|apply bZ|apply cF
theorem Dj (bi:Int)(u5:Int×Int)(x:Int×Int):un bi u5 x=lT bi u5 (un bi u5) x:=cU (AX bi u5) x
def AV (bi:Int):Option Date:=
 bI (ρ:=Date) (um bi (bi,2000)) fun u5:Int×Int=>bI (ρ:=Date) (un bi u5 (u5.1,1)) fun u9:Int×Int=>some (Date.mk u5.2 u9.2 (aF (u9.1+1)))
def lX (n_1:Int)(dl:Int)(self:ae→Option (ae⊕ae))(x4:ae):Option (ae⊕ae):=
 bif (decide ((len x4)<dl)) then ((ew ([48]:ae) x4).bind fun s5=>self s5) else (some (.inr x4))
def uw (n_1:Int)(dl:Int): ae→Option (ae⊕ae):=aE (lX n_1 dl)
theorem Bh (n_1:Int)(dl:Int): ∀a,Fin1 fun f=>lX n_1 dl f a:=by
 unfold lX
 repeat first|intro _|exact bz|exact cu|apply cE|apply ca|apply cb|apply bZ|apply cF
theorem Ds (n_1:Int)(dl:Int)(x:ae):uw n_1 dl x=lX n_1 dl (uw n_1 dl) x:=cU (Bh n_1 dl) x
def uu (n_1:Int)(dl:Int):Option ae:=
 (tc n_1).bind fun r3=>bI (ρ:=ae) (uw n_1 dl r3) fun u6:ae=>some u6
def AY (bi:Int):Option ae:=
 (AV bi).bind fun r2=>(uu r2.Year 4).bind fun r3=>(ew r3 ([45]:ae)).bind fun s4=>(uu r2.Month 2).bind fun r5=>(ew s4 r5).bind fun s6=>(ew s6 ([45]:ae)).bind fun s7=>(uu r2.Day 2).bind fun r8=>(ew s7 r8).bind fun s9=>some s9
def oM (cQ:Condition→Option ae)(c_1:Condition):Option ae:=
 bif (c_1.Op==2) then (some c_1.Name) else (bif (c_1.Op==3) then ((AY c_1.Day).bind fun r2=>(ew ([102,114,111,109,32]:ae) r2).bind fun s3=>some s3) else (bif (c_1.Op==4) then ((bf c_1.Parts 0).bind fun e4=>(cQ e4).bind fun r5=>(ew ([110,111,116,32]:ae) r5).bind fun s6=>some s6) else (bif (c_1.Op==5) then ((bf c_1.Parts 0).bind fun e7=>(cQ e7).bind fun r8=>(ew ([40]:ae) r8).bind fun s9=>(ew s9 ([32,97,110,100,32]:ae)).bind fun s10=>(bf c_1.Parts 1).bind fun e11=>(cQ e11).bind fun r12=>(ew s10 r12).bind fun s13=>(ew s13 ([41]:ae)).bind fun s14=>some s14) else (bif (c_1.Op==6) then ((bf c_1.Parts 0).bind fun e15=>(cQ e15).bind fun r16=>(ew ([40]:ae) r16).bind fun s17=>(ew s17 ([32,111,114,32]:ae)).bind fun s18=>(bf c_1.Parts 1).bind fun e19=>(cQ e19).bind fun r20=>(ew s18 r20).bind fun s21=>(ew s21 ([41]:ae)).bind fun s22=>some s22) else (some ([116,114,117,101]:ae))))))
def i8 (cQ:Condition→Option ae)(x:Condition):Option ae:=oM cQ x
def FB (c_1:Condition):Option ae:=aE i8 c_1
theorem Pz:∀x,Fin1 fun cQ=>i8 cQ x:=by
 unfold i8 oM
 repeat first|intro _|exact bz|exact cu|apply cE|apply ca|apply cb|apply bZ|apply cF
theorem qZ (c_1:Condition):FB c_1=oM (aE i8) c_1:=cU Pz c_1
def E6 (c_1:Condition):Option (ae×Bool):=
 (wj c_1).bind fun r2=>bif (!r2) then (some (([]:ae),false)) else ((FB c_1).bind fun r3=>some (r3,true))
def wX (s_1:ae)(bF:ae):Option Bool:=
 bI (ρ:=Bool) (bif (decide ((len s_1)≥(len bF))) then ((fy s_1 0 (len bF)).bind fun s4=>some (.inr (s4==bF))) else (some (.inr false))) fun u3:Bool=>some u3
def wV (s_1:ae)(bF:ae):Option (ae×Bool):=
 (wX s_1 bF).bind fun r3=>bif (!r3) then (some (s_1,false)) else ((fy s_1 (len bF) (len s_1)).bind fun s4=>some (s4,true))
def xQ (s_1:ae)(bF:ae):Option (ae×Bool):=
 (wV s_1 bF).bind fun r3=>some (r3.1,r3.2)
def pz (r_4:conditionReader)(kR:ae):Option (Bool×conditionReader):=
 (xQ r_4.f_rest kR).bind fun r3=>d4 (bif r3.2 then r3.1 else r_4.f_rest) fun u4:ae=>some (r3.2,(conditionReader.mk u4 r_4.f_count r_4.f_failed))
def Fw (d_1:Date):Option Bool:=
 (ln d_1.Year 2000 2099).bind fun r2=>bI (ρ:=Bool) (bif r2 then ((ln d_1.Month 1 12).bind fun r4=>ci (ρ:=Bool) (bif r4 then ((ut d_1.Year d_1.Month).bind fun r6=>(ln d_1.Day 1 r6).bind fun r7=>some (.inr r7)) else (some (.inr false))) fun u5:Bool=>some (.inr u5)) else (some (.inr false))) fun u3:Bool=>some u3
def lU (d_1:Date)(self:(Int×Int)→Option (Int⊕Int))(x2:Int×Int):Option (Int⊕Int):=
 bif (decide (x2.2<d_1.Year)) then ((A6 x2.2).bind fun r3=>self ((aF (x2.1+r3)),(aF (x2.2+1)))) else (some (.inr x2.1))
def uo (d_1:Date): (Int×Int)→Option (Int⊕Int):=aE (lU d_1)
theorem AZ (d_1:Date): ∀a,Fin1 fun f=>lU d_1 f a:=by
 unfold lU
 repeat first|intro _|exact bz|exact cu|apply cE|apply ca|apply cb|apply bZ|apply cF
theorem Dl (d_1:Date)(x:Int×Int):uo d_1 x=lU d_1 (uo d_1) x:=cU (AZ d_1) x
def lV (d_1:Date)(self:(Int×Int)→Option (Int⊕Int))(x5:Int×Int):Option (Int⊕Int):=
 bif (decide (x5.2<d_1.Month)) then ((ut d_1.Year x5.2).bind fun r6=>self ((aF (x5.1+r6)),(aF (x5.2+1)))) else (some (.inr x5.1))
def uq (d_1:Date): (Int×Int)→Option (Int⊕Int):=aE (lV d_1)
theorem A3 (d_1:Date): ∀a,Fin1 fun f=>lV d_1 f a:=by
 unfold lV
 repeat first|intro _|exact bz|exact cu|apply cE|apply ca|apply cb|apply bZ|apply cF
theorem Dm (d_1:Date)(x:Int×Int):uq d_1 x=lV d_1 (uq d_1) x:=cU (A3 d_1) x
def Dk (d_1:Date):Option Int:=
 bI (ρ:=Int) (uo d_1 ((aF (d_1.Day - 1)),2000)) fun u4:Int=>bI (ρ:=Int) (uq d_1 (u4,1)) fun u7:Int=>some u7
def Fz (s_1:ae):Option (Int×Bool):=
 bif ((len s_1) != 10) then (some (0,false)) else ((fy s_1 0 4).bind fun s2=>(mQ s2).bind fun r3=>(fy s_1 5 7).bind fun s4=>(mQ s4).bind fun r5=>(fy s_1 8 (len s_1)).bind fun s6=>(mQ s6).bind fun r7=>(Fw (Date.mk r3.1 r5.1 r7.1)).bind fun r8=>bI (ρ:=Int×Bool) (bif (!r8) then (some (.inr true)) else ((Dk (Date.mk r3.1 r5.1 r7.1)).bind fun r11=>(AY r11).bind fun r12=>some (.inr (!(r12==s_1))))) fun u9:Bool=>bif u9 then (some (0,false)) else ((Dk (Date.mk r3.1 r5.1 r7.1)).bind fun r10=>some (r10,true)))
def gV (aK:conditionReader→Option (Condition×conditionReader))(r_2:conditionReader)(r5:Bool×conditionReader)(self:Int→Option ((Condition×conditionReader)⊕Int))(x6:Int):Option ((Condition×conditionReader)⊕Int):=
 ci (ρ:=Condition×conditionReader) (bif (decide (x6<(len r5.2.f_rest))) then ((bf r5.2.f_rest x6).bind fun c8=>ci (ρ:=Condition×conditionReader) (bif ((c8.toNat:Int) != 32) then ((bf r5.2.f_rest x6).bind fun c10=>some (.inr ((c10.toNat:Int) != 41))) else (some (.inr false))) fun u9:Bool=>some (.inr u9)) else (some (.inr false))) fun u7:Bool=>bif u7 then (self (aF (x6+1))) else (some (.inr x6))
def lr (aK:conditionReader→Option (Condition×conditionReader))(r_2:conditionReader)(r5:Bool×conditionReader):Int→Option ((Condition×conditionReader)⊕Int):=aE (gV aK r_2 r5)
theorem IE (aK:conditionReader→Option (Condition×conditionReader))(r_2:conditionReader)(r5:Bool×conditionReader):∀a,Fin1 fun f=>gV aK r_2 r5 f a:=by
 unfold gV
 repeat first|intro _|exact bz|exact cu|apply cE|apply ca|apply cb|apply bZ|apply cF
def ky (aK:conditionReader→Option (Condition×conditionReader))(r_2:conditionReader)(r18:Bool×conditionReader)(self:Int→Option ((Condition×conditionReader)⊕Int))(x28:Int):Option ((Condition×conditionReader)⊕Int):=
 ci (ρ:=Condition×conditionReader) (bif (decide (x28<(len r18.2.f_rest))) then ((bf r18.2.f_rest x28).bind fun c30=>ci (ρ:=Condition×conditionReader) (bif ((c30.toNat:Int) != 32) then ((bf r18.2.f_rest x28).bind fun c32=>some (.inr ((c32.toNat:Int) != 41))) else (some (.inr false))) fun u31:Bool=>some (.inr u31)) else (some (.inr false))) fun u29:Bool=>bif u29 then (self (aF (x28+1))) else (some (.inr x28))
def py (aK:conditionReader→Option (Condition×conditionReader))(r_2:conditionReader)(r18:Bool×conditionReader):Int→Option ((Condition×conditionReader)⊕Int):=aE (ky aK r_2 r18)
theorem AN (aK:conditionReader→Option (Condition×conditionReader))(r_2:conditionReader)(r18:Bool×conditionReader):∀a,Fin1 fun f=>ky aK r_2 r18 f a:=by
 unfold ky
 repeat first|intro _|exact bz|exact cu|apply cE|apply ca|apply cb|apply bZ|apply cF
theorem Dg (aK:conditionReader→Option (Condition×conditionReader))(r_2:conditionReader)(r18:Bool×conditionReader)(x:Int):py aK r_2 r18 x=ky aK r_2 r18 (py aK r_2 r18) x:=cU (AN aK r_2 r18) x
def mp (aK:conditionReader→Option (Condition×conditionReader))(r_2:conditionReader):Option (Condition×conditionReader):=
 d4 (bif r_2.f_failed then true else (decide ((aF (r_2.f_count+1))>15))) fun u2:Bool=>bif u2 then (some ((Condition.mk 0 [] 0 []),(conditionReader.mk r_2.f_rest (aF (r_2.f_count+1)) true))) else ((pz (conditionReader.mk r_2.f_rest (aF (r_2.f_count+1)) r_2.f_failed) ([110,111,116,32]:ae)).bind fun r3=>bif r3.1 then ((aK r3.2).bind fun r4=>some ((Condition.mk 4 [] 0 [r4.1]),r4.2)) else ((pz r3.2 ([102,114,111,109,32]:ae)).bind fun r5=>bif r5.1 then (bif (decide ((len r5.2.f_rest)<10)) then (bI (ρ:=Condition×conditionReader) (lr aK r_2 r5 0) fun u11:Int=>(fy r5.2.f_rest 0 u11).bind fun s12=>(fy r5.2.f_rest u11 (len r5.2.f_rest)).bind fun s13=>bif (s12==([116,114,117,101]:ae)) then (some ((Condition.mk 1 [] 0 []),(conditionReader.mk s13 r5.2.f_count r5.2.f_failed))) else (some ((Condition.mk 2 s12 0 []),(conditionReader.mk s13 r5.2.f_count r5.2.f_failed)))) else ((fy r5.2.f_rest 0 10).bind fun s14=>(Fz s14).bind fun r15=>(fy r5.2.f_rest 10 (len r5.2.f_rest)).bind fun s16=>d4 (bif r5.2.f_failed then true else (!r15.2)) fun u17:Bool=>some ((Condition.mk 3 [] r15.1 []),(conditionReader.mk s16 r5.2.f_count u17)))) else ((pz r5.2 ([40]:ae)).bind fun r18=>bif r18.1 then ((aK r18.2).bind fun r19=>(pz r19.2 ([32,97,110,100,32]:ae)).bind fun r20=>bI (ρ:=Condition×conditionReader) (bif (!r20.1) then (ci (ρ:=Condition×conditionReader) (bif r20.2.f_failed then (some (.inr (r20.2.f_rest,r20.2.f_count,true))) else ((pz r20.2 ([32,111,114,32]:ae)).bind fun r27=>some (.inr (r27.2.f_rest,r27.2.f_count,(!r27.1))))) fun u26:ae×Int×Bool=>some (.inr (u26.1,u26.2.1,u26.2.2,6))) else (some (.inr (r20.2.f_rest,r20.2.f_count,r20.2.f_failed,5)))) fun u21:ae×Int×Bool×Int=>(aK (conditionReader.mk u21.1 u21.2.1 u21.2.2.1)).bind fun r22=>(kd 56 [r19.1] [r22.1]).bind fun a23=>bI (ρ:=Condition×conditionReader) (bif r22.2.f_failed then (some (.inr (r22.2.f_rest,r22.2.f_count,true))) else ((pz r22.2 ([41]:ae)).bind fun r25=>some (.inr (r25.2.f_rest,r25.2.f_count,(!r25.1))))) fun u24:ae×Int×Bool=>some ((Condition.mk u21.2.2.2 [] 0 a23),(conditionReader.mk u24.1 u24.2.1 u24.2.2))) else (bI (ρ:=Condition×conditionReader) (py aK r_2 r18 0) fun u33:Int=>(fy r18.2.f_rest 0 u33).bind fun s34=>(fy r18.2.f_rest u33 (len r18.2.f_rest)).bind fun s35=>bif (s34==([116,114,117,101]:ae)) then (some ((Condition.mk 1 [] 0 []),(conditionReader.mk s35 r18.2.f_count r18.2.f_failed))) else (some ((Condition.mk 2 s34 0 []),(conditionReader.mk s35 r18.2.f_count r18.2.f_failed)))))))
def kg (aK:conditionReader→Option (Condition×conditionReader))(x:conditionReader):Option (Condition×conditionReader):=mp aK x
def AI (r_2:conditionReader):Option (Condition×conditionReader):=aE kg r_2
theorem Pw:∀x,Fin1 fun aK=>kg aK x:=by
 unfold kg mp
 repeat first|intro _|exact bz|exact cu|exact jY|exact mg|exact iT|exact kE|exact jx|exact jy|apply cE|apply ca|apply cb|apply bZ|apply cF|apply qd|unfold lr|unfold gV|unfold lr|unfold gV|unfold lr|unfold gV|unfold lr|unfold gV|unfold lr|unfold gV|unfold lr|unfold gV|unfold lr|unfold gV|unfold lr|unfold gV|unfold py|unfold ky
theorem K9 (r_2:conditionReader):AI r_2=mp (aE kg) r_2:=cU Pw r_2
def Fy (s_1:ae):Option (Condition×Bool):=
 (AI (conditionReader.mk s_1 0 false)).bind fun r2=>bI (ρ:=Condition×Bool) (bif r2.2.f_failed then (some (.inr true)) else (ci (ρ:=Condition×Bool) (bif (!(r2.2.f_rest==([]:ae))) then (some (.inr true)) else ((wj r2.1).bind fun r5=>ci (ρ:=Condition×Bool) (bif (!r5) then (some (.inr true)) else ((FB r2.1).bind fun r7=>some (.inr (!(r7==s_1))))) fun u6:Bool=>some (.inr u6))) fun u4:Bool=>some (.inr u4))) fun u3:Bool=>bif u3 then (some ((Condition.mk 0 [] 0 []),false)) else (some (r2.1,true))
def gc (bo:List Int):Option Bool:=
 (mh bo).bind fun r2=>bif r2 then (some true) else ((xh bo).bind fun r3=>(C5 r3.1 r3.2.1 r3.2.2).bind fun r4=>(Df r3.1).bind fun r5=>(xj r3.1 r3.2.1 r3.2.2).bind fun r6=>bI (ρ:=Bool) (bif (!(r4.2==r6.2)) then (some (.inr true)) else ((xl r3.1).bind fun r22=>some (.inr (!(r5.2==r22))))) fun u7:Bool=>bif u7 then (some false) else (bif (!r5.2) then (some (r5.1.Op==0)) else ((C5 r5.1 r3.2.1 r3.2.2).bind fun r8=>(Df r5.1).bind fun r9=>bI (ρ:=Bool) (bif r4.2 then (ci (ρ:=Bool) (bif (!r8.2) then (some (.inr true)) else (ci (ρ:=Bool) (bif (!(r8.1==r4.1)) then (some (.inr true)) else (ci (ρ:=Bool) (bif (!r9.2) then (some (.inr true)) else ((xb r9.1 r5.1).bind fun r19=>some (.inr (!r19)))) fun u18:Bool=>some (.inr u18))) fun u17:Bool=>some (.inr u17))) fun u16:Bool=>some (.inr u16)) else (ci (ρ:=Bool) (bif (!r9.2) then (some (.inr true)) else ((xb r9.1 r5.1).bind fun r21=>some (.inr (!r21)))) fun u20:Bool=>some (.inr u20))) fun u10:Bool=>bif u10 then (some false) else ((E6 r3.1).bind fun r11=>(Fy r11.1).bind fun r12=>bI (ρ:=Bool) (bif r11.2 then (ci (ρ:=Bool) (bif r12.2 then ((xb r12.1 r3.1).bind fun r15=>some (.inr r15)) else (some (.inr false))) fun u14:Bool=>some (.inr u14)) else (some (.inr false))) fun u13:Bool=>some u13))))
end
end Go.Ln
