/-
  What each function computes.
-/
import Derived.Test.YtoghefkinobihaaDoorFnImplicationsLnC
set_option maxHeartbeats 4000000
set_option linter.unusedVariables false
set_option linter.unusedSimpArgs false
set_option maxRecDepth 100000
namespace Go.Ln
open Go
noncomputable section
structure Condition where
 Op:Int
 Name:ac
 Day:Int
 Parts:List Condition
mutual
def aF:Condition→V
 | ⟨a0,a1,a2,a3⟩=>.agg [I a0,str a1,I a2,.isl false (cU a3)]
def cU:List Condition→List V
 | []=>[]
 | x::xs=>aF x::cU xs
end
theorem mQ:∀xs,cU xs=xs.map aF
 | []=>by simp[cU]
 | x::xs=>by simp[cU,mQ xs]
def aa (x:Condition):V:=.agg [I x.Op,str x.Name,I x.Day,.isl false (x.Parts.map aF)]
abbrev Ld (x:Condition):V:=.agg [I x.Op,str x.Name,I x.Day,.isl false (x.Parts.map aF)]
theorem bo (x:Condition):aF x=aa x:=by cases x;simp only[aF,aa,mQ]
mutual
theorem nV:∀(a b:Condition),aF a=aF b→a=b
 | ⟨a0,a1,a2,a3⟩,⟨b0,b1,b2,b3⟩,h=>by
  simp only[aF] at h
  have k0:=V.agg.inj h
  obtain⟨h0,k1⟩:=List.cons.inj k0
  obtain rfl:=ey a0 b0 h0
  obtain⟨h1,k2⟩:=List.cons.inj k1
  obtain rfl:=cz a1 b1 h1
  obtain⟨h2,k3⟩:=List.cons.inj k2
  obtain rfl:=ey a2 b2 h2
  obtain⟨h3,k4⟩:=List.cons.inj k3
  have e3:cU a3=cU b3:=by simpa using h3
  obtain rfl:=mP a3 b3 e3
  rfl
theorem mP:∀(a b:List Condition),cU a=cU b→a=b
 | [],[],_=>rfl
 | [],_::_,h=>by simp[cU] at h
 | _::_,[],h=>by simp[cU] at h
 | x::xs,y::ys,h=>by
  simp only[cU,List.cons.injEq] at h
  rw[nV x y h.1,mP xs ys h.2]
end
theorem aN (a b:Condition)(h:aa a=aa b):a=b:=nV a b (by rw[bo,bo,h])
mutual
def ae:Condition→V
 | ⟨a0,a1,a2,a3⟩=>.agg [I a0,str a1,I a2,.usl 4 (ca a3)]
def ca:List Condition→List V
 | []=>[]
 | x::xs=>ae x::ca xs
end
theorem mT:∀xs,ca xs=xs.map ae
 | []=>by simp[ca]
 | x::xs=>by simp[ca,mT xs]
def ai (x:Condition):V:=.agg [I x.Op,str x.Name,I x.Day,.usl 4 (x.Parts.map ae)]
abbrev Lf (x:Condition):V:=.agg [I x.Op,str x.Name,I x.Day,.usl 4 (x.Parts.map ae)]
theorem dK (x:Condition):ae x=ai x:=by cases x;simp only[ae,ai,mT]
theorem mw (x:Condition):(cells (ae x)).length=4∧(cells (ae x)).all eN=true:=by rw[dK];exact⟨rfl,rfl⟩
mutual
theorem uN:∀(a b:Condition),ae a=ae b→a=b
 | ⟨a0,a1,a2,a3⟩,⟨b0,b1,b2,b3⟩,h=>by
  simp only[ae] at h
  have k0:=V.agg.inj h
  obtain⟨h0,k1⟩:=List.cons.inj k0
  obtain rfl:=ey a0 b0 h0
  obtain⟨h1,k2⟩:=List.cons.inj k1
  obtain rfl:=cz a1 b1 h1
  obtain⟨h2,k3⟩:=List.cons.inj k2
  obtain rfl:=ey a2 b2 h2
  obtain⟨h3,k4⟩:=List.cons.inj k3
  have e3:ca a3=ca b3:=by simpa using h3
  obtain rfl:=mS a3 b3 e3
  rfl
theorem mS:∀(a b:List Condition),ca a=ca b→a=b
 | [],[],_=>rfl
 | [],_::_,h=>by simp[ca] at h
 | _::_,[],h=>by simp[ca] at h
 | x::xs,y::ys,h=>by
  simp only[ca,List.cons.injEq] at h
  rw[uN x y h.1,mS xs ys h.2]
end
mutual
theorem bM:∀x:Condition,eA (ae x)=aF x
 | ⟨a0,a1,a2,a3⟩=>by simp[ae,aF,eA,fJ,str,mR]
theorem mR:∀xs:List Condition,fJ (ca xs)=cU xs
 | []=>by simp[ca,cU,fJ]
 | x::xs=>by simp[ca,cU,fJ,bM x,mR xs]
end
mutual
theorem fq:∀x:Condition,bW (ae x)=false
 | ⟨a0,a1,a2,a3⟩=>by simp[ae,bW,cy,str,my]
theorem my:∀xs:List Condition,cy (ca xs)=false
 | []=>by simp[ca,cy]
 | x::xs=>by simp[ca,cy,fq x,my xs]
end
structure l1Cur where
 f_code:List Int
 f_at:Int
 f_seed:Int
def bZ (x:l1Cur):V:=.agg [.isl false (x.f_code.map (V.int .u8)),I x.f_at,.int .u64 x.f_seed]
abbrev Pd (x:l1Cur):V:=.agg [.isl false (x.f_code.map (V.int .u8)),I x.f_at,.int .u64 x.f_seed]
def eR (x:l1Cur):V:=.agg [.isl false (x.f_code.map (V.int .u8)),I x.f_at,.int .u64 x.f_seed]
abbrev Pe (x:l1Cur):V:=.agg [.isl false (x.f_code.map (V.int .u8)),I x.f_at,.int .u64 x.f_seed]
theorem d9 (a b:l1Cur)(h:eR a=eR b):a=b:=by
 obtain⟨p0,p1,p2⟩:=a
 obtain⟨q0,q1,q2⟩:=b
 replace h:=V.agg.inj h
 obtain⟨h0,h⟩:=List.cons.inj h
 obtain rfl:=(fN (jF (k:=.u8))) p0 q0 h0
 obtain⟨h1,h⟩:=List.cons.inj h
 obtain rfl:=ey p1 q1 h1
 obtain⟨h2,h⟩:=List.cons.inj h
 obtain rfl:=(jF (k:=.u64)) p2 q2 h2
 rfl
def mb (aI:List Int):Option Bool:=
 some (decide ((len aI)>65536))
def tD (c_3:l1Cur):Option (Int×l1Cur):=
 bU (ρ:=Int×l1Cur) (bif (decide (c_3.f_at<(len c_3.f_code))) then ((bC c_3.f_code c_3.f_at).bind fun e3=>some (.inr (IntKind.i64.wrap e3))) else (some (.inr 0))) fun u2:Int=>bif (decide ((aG (c_3.f_at+1))≤(len c_3.f_code))) then (some (u2,(l1Cur.mk c_3.f_code (aG (c_3.f_at+1)) (IntKind.u64.wrap ((IntKind.u64.wrap ((IntKind.u64.wrap (c_3.f_seed*6364136223846793005))+(IntKind.u64.wrap u2)))+902902))))) else (some ((IntKind.i64.wrap (lc .u64 (oC .u64 (IntKind.u64.wrap ((IntKind.u64.wrap ((IntKind.u64.wrap (c_3.f_seed*6364136223846793005))+(IntKind.u64.wrap u2)))+902902)) 40) 255)),(l1Cur.mk c_3.f_code (aG (c_3.f_at+1)) (IntKind.u64.wrap ((IntKind.u64.wrap ((IntKind.u64.wrap (c_3.f_seed*6364136223846793005))+(IntKind.u64.wrap u2)))+902902)))))
def gN (c_3:l1Cur)(n_4:Int):Option (Int×l1Cur):=
 bif (decide (n_4≤1)) then (some (0,c_3)) else ((tD c_3).bind fun r3=>bU (ρ:=Int×l1Cur) (bif (decide (n_4>200)) then ((tD r3.2).bind fun r6=>some (.inr ((aG ((aG (r3.1*256))+r6.1)),r6.2.f_code,r6.2.f_at,r6.2.f_seed))) else (some (.inr (r3.1,r3.2.f_code,r3.2.f_at,r3.2.f_seed)))) fun u4:Int×(List Int)×Int×Int=>(F1 u4.1 n_4).bind fun q5=>some (q5,(l1Cur.mk u4.2.1 u4.2.2.1 u4.2.2.2)))
def pi (c_3:l1Cur)(n_4:Int):Option (Bool×l1Cur):=
 (gN c_3 n_4).bind fun r3=>some ((r3.1==0),r3.2)
def uu (c_3:l1Cur)(az:List Int):Option (Int×l1Cur):=
 (gN c_3 (len az)).bind fun r3=>(bC az r3.1).bind fun e4=>some (e4,r3.2)
def rO: Option (List ac):=
 some [([112,97,105,100]:ac),([115,101,110,116]:ac),([108,97,116,101]:ac),([97]:ac),([98]:ac)]
def om (c_3:l1Cur)(az:List ac):Option (ac×l1Cur):=
 (gN c_3 (len az)).bind fun r3=>(bC az r3.1).bind fun e4=>some (e4,r3.2)
def ph (cE:(l1Cur×Int)→Option (Condition×l1Cur))(c_3:l1Cur)(dU:Int):Option (Condition×l1Cur):=
 bU (ρ:=Condition×l1Cur) (bif (decide (dU≤1)) then (some (.inr (true,c_3.f_code,c_3.f_at,c_3.f_seed))) else ((pi c_3 3).bind fun r14=>some (.inr (r14.1,r14.2.f_code,r14.2.f_at,r14.2.f_seed)))) fun u3:Bool×(List Int)×Int×Int=>bif u3.1 then ((gN (l1Cur.mk u3.2.1 u3.2.2.1 u3.2.2.2) 6).bind fun r4=>bif (r4.1==0) then (some ((Condition.mk 1 [] 0 []),r4.2)) else (dC (bif (r4.1==1) then (r4.1==1) else (r4.1==2)) fun u5:Bool=>bif u5 then ((uu r4.2 [0,3,10,40,366]).bind fun r6=>some ((Condition.mk 3 [] r6.1 []),r6.2)) else (rO.bind fun r7=>(om r4.2 r7).bind fun r8=>some ((Condition.mk 2 r8.1 0 []),r8.2)))) else ((pi (l1Cur.mk u3.2.1 u3.2.2.1 u3.2.2.2) 3).bind fun r9=>bif r9.1 then ((cE (r9.2,(aG (dU - 1)))).bind fun r10=>some ((Condition.mk 4 [] 0 [r10.1]),r10.2)) else ((gN r9.2 2).bind fun r11=>(cE (r11.2,(aG (dU - 1)))).bind fun r12=>(cE (r12.2,(aG (dU - 1)))).bind fun r13=>some ((Condition.mk (aG (5+r11.1)) [] 0 [r12.1,r13.1]),r13.2)))
def jZ (cE:(l1Cur×Int)→Option (Condition×l1Cur))(x:l1Cur×Int):Option (Condition×l1Cur):=ph cE x.1 x.2
def xd (c_3:l1Cur)(dU:Int):Option (Condition×l1Cur):=aC jZ (c_3,dU)
theorem Lj:∀x,Fin1 fun cE=>jZ cE x:=by
 unfold jZ ph
 repeat first|intro _|exact bm|exact ce|apply cm|apply bA|apply bB|apply bz|apply cn
theorem GQ (c_3:l1Cur)(dU:Int):xd c_3 dU=ph (aC jZ) c_3 dU:=cB Lj (c_3,dU)
def tC (c_2:l1Cur):Option (Condition×l1Cur):=
 (gN c_2 3).bind fun r2=>(xd r2.2 (aG (1+r2.1))).bind fun r3=>some (r3.1,r3.2)
def xf (c_2:l1Cur):Option (Int×l1Cur):=
 (gN c_2 6).bind fun r2=>bif (r2.1==0) then ((uu r2.2 [0,59,60,365,366,424,425,36524,36523,30,31]).bind fun r3=>some (r3.1,r3.2)) else (bif (r2.1==1) then ((gN r2.2 36525).bind fun r4=>some (r4.1,r4.2)) else ((gN r2.2 1500).bind fun r5=>some (r5.1,r5.2)))
def Fg (c_2:l1Cur):Option (Int×l1Cur):=
 (pi c_2 16).bind fun r2=>bif r2.1 then ((uu r2.2 [(-1),36524,36525,1099511627776]).bind fun r3=>some (r3.1,r3.2)) else ((xf r2.2).bind fun r4=>some (r4.1,r4.2))
def ji (bG:Condition→Option Int)(c_1:Condition)(self:(Int×Int)→Option (Int⊕Int))(x2:Int×Int):Option (Int⊕Int):=
 bif (decide (x2.2<(len c_1.Parts))) then ((bC c_1.Parts x2.2).bind fun e3=>(bG e3).bind fun r4=>self ((aG (x2.1+r4)),(aG (x2.2+1)))) else (some (.inr x2.1))
def kK (bG:Condition→Option Int)(c_1:Condition): (Int×Int)→Option (Int⊕Int):=aC (ji bG c_1)
theorem wn (bG:Condition→Option Int)(c_1:Condition): ∀a,Fin1 fun f=>ji bG c_1 f a:=by
 unfold ji
 repeat first|intro _|exact bm|exact ce|apply cm|apply bA|apply bB|apply bz|apply cn
theorem zL (bG:Condition→Option Int)(c_1:Condition)(x:Int×Int):kK bG c_1 x=ji bG c_1 (kK bG c_1) x:=cB (wn bG c_1) x
def rd (bG:Condition→Option Int)(c_1:Condition):Option Int:=
 bU (ρ:=Int) (kK bG c_1 (1,0)) fun u5:Int=>some u5
def kn (bG:Condition→Option Int)(x:Condition):Option Int:=rd bG x
def xC (c_1:Condition):Option Int:=aC kn c_1
theorem LS:∀x,Fin1 fun bG=>kn bG x:=by
 unfold kn rd
 repeat first|intro _|exact bm|exact ce|exact jO|exact l8|exact iL|exact kv|exact jm|exact jo|apply cm|apply bA|apply bB|apply bz|apply cn|apply qg|unfold kK|unfold ji
theorem NS (c_1:Condition):xC c_1=rd (aC kn) c_1:=cB LS c_1
def nc (c_2:l1Cur)(r14:Int×l1Cur)(self:(Int×ac×Int×(List Condition))→Option ((Condition×l1Cur)⊕(Int×ac×Int×(List Condition))))(x15:Int×ac×Int×(List Condition)):Option ((Condition×l1Cur)⊕(Int×ac×Int×(List Condition))):=
 (xC (Condition.mk x15.1 x15.2.1 x15.2.2.1 x15.2.2.2)).bind fun r16=>bif (decide (r16<(aG (14+r14.1)))) then (self (4,[],0,[(Condition.mk x15.1 x15.2.1 x15.2.2.1 x15.2.2.2)])) else (some (.inr (x15.1,x15.2.1,x15.2.2.1,x15.2.2.2)))
def uz (c_2:l1Cur)(r14:Int×l1Cur):(Int×ac×Int×(List Condition))→Option ((Condition×l1Cur)⊕(Int×ac×Int×(List Condition))):=aC (nc c_2 r14)
theorem AL (c_2:l1Cur)(r14:Int×l1Cur):∀a,Fin1 fun f=>nc c_2 r14 f a:=by
 unfold nc
 repeat first|intro _|exact bm|exact ce|apply cm|apply bA|apply bB|apply bz|apply cn
theorem J9 (c_2:l1Cur)(r14:Int×l1Cur)(x:Int×ac×Int×(List Condition)):uz c_2 r14 x=nc c_2 r14 (uz c_2 r14) x:=cB (AL c_2 r14) x
def AK (c_2:l1Cur):Option (Condition×l1Cur):=
 (tC c_2).bind fun r2=>(gN r2.2 20).bind fun r3=>bU (ρ:=Condition×l1Cur) (bif (r3.1==0) then ((gN r3.2 8).bind fun r5=>some (.inr (r5.2.f_code,r5.2.f_at,r5.2.f_seed,r5.1,r2.1.Name,r2.1.Day,r2.1.Parts))) else (cu (ρ:=Condition×l1Cur) (bif (r3.1==1) then ((om r3.2 [([]:ac),([65]:ac),([97,98,99,100,101,102,103,104]:ac),([97,98,99,100,101,102,103,104,105]:ac),([116,114,117,101]:ac),([120,57]:ac)]).bind fun r7=>some (.inr (r7.2.f_code,r7.2.f_at,r7.2.f_seed,r2.1.Op,r7.1,r2.1.Day,r2.1.Parts))) else (cu (ρ:=Condition×l1Cur) (bif (r3.1==2) then ((Fg r3.2).bind fun r9=>some (.inr (r9.2.f_code,r9.2.f_at,r9.2.f_seed,r2.1.Op,r2.1.Name,r9.1,r2.1.Parts))) else (cu (ρ:=Condition×l1Cur) (bif (r3.1==3) then ((tC r3.2).bind fun r11=>(fa 56 r2.1.Parts [r11.1]).bind fun a12=>some (.inr (r11.2.f_code,r11.2.f_at,r11.2.f_seed,r2.1.Op,r2.1.Name,r2.1.Day,a12))) else (cu (ρ:=Condition×l1Cur) (bif (r3.1==4) then ((gN r3.2 3).bind fun r14=>cu (ρ:=Condition×l1Cur) (uz c_2 r14 (r2.1.Op,r2.1.Name,r2.1.Day,r2.1.Parts)) fun u17:Int×ac×Int×(List Condition)=>some (.inr (r14.2.f_code,r14.2.f_at,r14.2.f_seed,u17.1,u17.2.1,u17.2.2.1,u17.2.2.2))) else (some (.inr (r3.2.f_code,r3.2.f_at,r3.2.f_seed,r2.1.Op,r2.1.Name,r2.1.Day,r2.1.Parts)))) fun u13:(List Int)×Int×Int×Int×ac×Int×(List Condition)=>some (.inr (u13.1,u13.2.1,u13.2.2.1,u13.2.2.2.1,u13.2.2.2.2.1,u13.2.2.2.2.2.1,u13.2.2.2.2.2.2)))) fun u10:(List Int)×Int×Int×Int×ac×Int×(List Condition)=>some (.inr (u10.1,u10.2.1,u10.2.2.1,u10.2.2.2.1,u10.2.2.2.2.1,u10.2.2.2.2.2.1,u10.2.2.2.2.2.2)))) fun u8:(List Int)×Int×Int×Int×ac×Int×(List Condition)=>some (.inr (u8.1,u8.2.1,u8.2.2.1,u8.2.2.2.1,u8.2.2.2.2.1,u8.2.2.2.2.2.1,u8.2.2.2.2.2.2)))) fun u6:(List Int)×Int×Int×Int×ac×Int×(List Condition)=>some (.inr (u6.1,u6.2.1,u6.2.2.1,u6.2.2.2.1,u6.2.2.2.2.1,u6.2.2.2.2.2.1,u6.2.2.2.2.2.2)))) fun u4:(List Int)×Int×Int×Int×ac×Int×(List Condition)=>some ((Condition.mk u4.2.2.2.1 u4.2.2.2.2.1 u4.2.2.2.2.2.1 u4.2.2.2.2.2.2),(l1Cur.mk u4.1 u4.2.1 u4.2.2.1))
def jh (bx:Condition→Option Condition)(c_1:Condition)(self:(Int×(List Condition))→Option (Condition⊕(List Condition)))(x2:Int×(List Condition)):Option (Condition⊕(List Condition)):=
 bif (decide (x2.1<(len c_1.Parts))) then ((bC c_1.Parts x2.1).bind fun e3=>(bx e3).bind fun r4=>(fa 56 x2.2 [r4]).bind fun a5=>self ((aG (x2.1+1)),a5)) else (some (.inr x2.2))
def mZ (bx:Condition→Option Condition)(c_1:Condition): (Int×(List Condition))→Option (Condition⊕(List Condition)):=aC (jh bx c_1)
theorem wl (bx:Condition→Option Condition)(c_1:Condition): ∀a,Fin1 fun f=>jh bx c_1 f a:=by
 unfold jh
 repeat first|intro _|exact bm|exact ce|apply cm|apply bA|apply bB|apply bz|apply cn
theorem zE (bx:Condition→Option Condition)(c_1:Condition)(x:Int×(List Condition)):mZ bx c_1 x=jh bx c_1 (mZ bx c_1) x:=cB (wl bx c_1) x
def qW (bx:Condition→Option Condition)(c_1:Condition):Option Condition:=
 bU (ρ:=Condition) (mZ bx c_1 (0,[])) fun u6:(List Condition)=>some (Condition.mk c_1.Op c_1.Name c_1.Day u6)
def mf (bx:Condition→Option Condition)(x:Condition):Option Condition:=qW bx x
def BH (c_1:Condition):Option Condition:=aC mf c_1
theorem LO:∀x,Fin1 fun bx=>mf bx x:=by
 unfold mf qW
 repeat first|intro _|exact bm|exact ce|exact jO|exact l8|exact iL|exact kv|exact jm|exact jo|apply cm|apply bA|apply bB|apply bz|apply cn|apply qg|unfold mZ|unfold jh
theorem NQ (c_1:Condition):BH c_1=qW (aC mf) c_1:=cB LO c_1
def Fd (aI:List Int):Option (Condition×Condition):=
 (AK (l1Cur.mk aI 0 0)).bind fun r2=>(gN r2.2 4).bind fun r3=>bif (r3.1==0) then ((xd r3.2 2).bind fun r4=>(BH r2.1).bind fun r5=>some (r2.1,(Condition.mk 6 [] 0 [r4.1,r5]))) else (bif (r3.1==1) then ((BH r2.1).bind fun r6=>(xd r3.2 2).bind fun r7=>some ((Condition.mk 5 [] 0 [r6,r7.1]),r2.1)) else ((AK r3.2).bind fun r8=>some (r2.1,r8.1)))
def ut (n_1:Int)(mG:Int)(kx:Int):Option Bool:=
 dC (bif (decide (n_1≥mG)) then (decide (n_1≤kx)) else false) fun u4:Bool=>some u4
def J8 (s_1:ac)(c_2:Int):Option Int:=
 (pW s_1 c_2).bind fun r3=>some r3
def J7 (s_1:ac)(aL:ac):Option Int:=
 dC (bif ((len aL)==0) then true else (aL==s_1)) fun u3:Bool=>bif u3 then (some 0) else (bif ((len aL)==1) then ((bC aL 0).bind fun c4=>(J8 s_1 (c4.toNat:Int)).bind fun r5=>some r5) else (bif (decide ((len aL)≥(len s_1))) then (some (-1)) else none))
def BL (s_1:ac)(aL:ac):Option Int:=
 (J7 s_1 aL).bind fun r3=>some r3
def p7 (s_1:ac)(aL:ac)(self:(ac×Int)→Option (Int⊕Unit))(x5:ac×Int):Option (Int⊕Unit):=
 (BL x5.1 aL).bind fun r6=>bif (r6==(-1)) then (some (.inl x5.2)) else ((mO x5.1 (aG (r6+(len aL))) (len x5.1)).bind fun s7=>self (s7,(aG (x5.2+1))))
def G1 (s_1:ac)(aL:ac): (ac×Int)→Option (Int⊕Unit):=aC (p7 s_1 aL)
theorem Gv (s_1:ac)(aL:ac): ∀a,Fin1 fun f=>p7 s_1 aL f a:=by
 unfold p7
 repeat first|intro _|exact bm|exact ce|apply cm|apply bA|apply bB|apply bz|apply cn
def EW (s_1:ac)(aL:ac):Option Int:=
 bif ((len aL)==0) then none else (bif ((len aL)==1) then ((bC aL 0).bind fun c3=>(vl s_1 (c3.toNat:Int)).bind fun r4=>some r4) else (bU (ρ:=Int) (G1 s_1 aL (s_1,0)) fun u8:Unit=>none))
def p8 (s_1:ac)(dt:ac)(cS:Int)(n_4:Int)(u5:Int)(self:(ac×Int×(List ac))→Option ((List ac)⊕(ac×Int×(List ac))))(x7:ac×Int×(List ac)):Option ((List ac)⊕(ac×Int×(List ac))):=
 bif (decide (x7.2.1<(aG ((if (aG ((len s_1)+1))<u5 then (aG ((len s_1)+1)) else u5) - 1)))) then ((BL x7.1 dt).bind fun r8=>bif (decide (r8<0)) then (some (.inr (x7.1,x7.2.1,x7.2.2))) else ((mO x7.1 0 (aG (r8+cS))).bind fun s9=>(bC x7.2.2 x7.2.1).bind fun e10=>(mO x7.1 (aG (r8+(len dt))) (len x7.1)).bind fun s11=>self (s11,(aG (x7.2.1+1)),(jT x7.2.2 x7.2.1 s9)))) else (some (.inr (x7.1,x7.2.1,x7.2.2)))
def vu (s_1:ac)(dt:ac)(cS:Int)(n_4:Int)(u5:Int):(ac×Int×(List ac))→Option ((List ac)⊕(ac×Int×(List ac))):=aC (p8 s_1 dt cS n_4 u5)
theorem wq (s_1:ac)(dt:ac)(cS:Int)(n_4:Int)(u5:Int):∀a,Fin1 fun f=>p8 s_1 dt cS n_4 u5 f a:=by
 unfold p8
 repeat first|intro _|exact bm|exact ce|apply cm|apply bA|apply bB|apply bz|apply cn
def EY (s_1:ac)(dt:ac)(cS:Int)(n_4:Int):Option (List ac):=
 bif (n_4==0) then (some []) else (bif (dt==([]:ac)) then none else (bU (ρ:=(List ac)) (bif (decide (n_4<0)) then ((EW s_1 dt).bind fun r16=>some (.inr (aG (r16+1)))) else (some (.inr n_4))) fun u5:Int=>(NA 16 [] (if (aG ((len s_1)+1))<u5 then (aG ((len s_1)+1)) else u5)).bind fun m6=>bU (ρ:=(List ac)) (vu s_1 dt cS n_4 u5 (s_1,0,m6)) fun u12:ac×Int×(List ac)=>(bC u12.2.2 u12.2.1).bind fun e13=>(gm (jT u12.2.2 u12.2.1 u12.1).length 0 (aG (u12.2.1+1))).bind fun s14=>(fY (jT u12.2.2 u12.2.1 u12.1) (0+Int.toNat (0)) (Int.toNat (aG (u12.2.1+1)) - Int.toNat (0))).bind fun p15=>some p15))
def xG (s_1:ac)(dt:ac):Option (List ac):=
 (EY s_1 dt 0 (-1)).bind fun r3=>some r3
def lO (s_1:List ac)(v_2:ac)(self:Int→Option (Int⊕Unit))(x3:Int):Option (Int⊕Unit):=
 bif (decide (x3<(len s_1))) then ((bC s_1 x3).bind fun e4=>bif (v_2==e4) then (some (.inl x3)) else (self (aG (x3+1)))) else (some (.inr ()))
def rl (s_1:List ac)(v_2:ac): Int→Option (Int⊕Unit):=aC (lO s_1 v_2)
theorem AG (s_1:List ac)(v_2:ac): ∀a,Fin1 fun f=>lO s_1 v_2 f a:=by
 unfold lO
 repeat first|intro _|exact bm|exact ce|apply cm|apply bA|apply bB|apply bz|apply cn
theorem CQ (s_1:List ac)(v_2:ac)(x:Int):rl s_1 v_2 x=lO s_1 v_2 (rl s_1 v_2) x:=cB (AG s_1 v_2) x
def Fb (s_1:List ac)(v_2:ac):Option Int:=
 bU (ρ:=Int) (rl s_1 v_2 0) fun u5:Unit=>some (-1)
def wu (s_1:List ac)(v_2:ac):Option Bool:=
 (Fb s_1 v_2).bind fun r3=>some (decide (r3≥0))
def na (s_1:ac)(self:Int→Option (Bool⊕Unit))(x4:Int):Option (Bool⊕Unit):=
 bif (decide (x4<(len s_1))) then ((bC s_1 x4).bind fun c5=>dC (bif (decide ((c5.toNat:Int)<97)) then (dC (bif (decide ((c5.toNat:Int)<48)) then true else (decide ((c5.toNat:Int)>57))) fun u7:Bool=>u7) else (dC (bif (decide ((c5.toNat:Int)>122)) then (dC (bif (decide ((c5.toNat:Int)<48)) then true else (decide ((c5.toNat:Int)>57))) fun u9:Bool=>u9) else false) fun u8:Bool=>u8)) fun u6:Bool=>bif u6 then (some (.inl false)) else (self (aG (x4+1)))) else (some (.inr ()))
def ur (s_1:ac): Int→Option (Bool⊕Unit):=aC (na s_1)
theorem Ab (s_1:ac): ∀a,Fin1 fun f=>na s_1 f a:=by
 unfold na
 repeat first|intro _|exact bm|exact ce|apply cm|apply bA|apply bB|apply bz|apply cn
theorem JZ (s_1:ac)(x:Int):ur s_1 x=na s_1 (ur s_1) x:=cB (Ab s_1) x
def CF (s_1:ac):Option Bool:=
 (ut (len s_1) 1 8).bind fun r2=>bU (ρ:=Bool) (bif (!r2) then (some (.inr true)) else ((bC s_1 0).bind fun c13=>cu (ρ:=Bool) (bif (decide ((c13.toNat:Int)<97)) then (some (.inr true)) else ((bC s_1 0).bind fun c15=>some (.inr (decide ((c15.toNat:Int)>122))))) fun u14:Bool=>some (.inr u14))) fun u3:Bool=>bif u3 then (some false) else (bU (ρ:=Bool) (ur s_1 0) fun u10:Unit=>(xG ([116,114,117,101,32,102,114,111,109,32,110,111,116,32,97,110,100,32,111,114,32,98,111,116,104,32,101,105,116,104,101,114,32,105,116,32,105,110]:ac) ([32]:ac)).bind fun r11=>(wu r11 s_1).bind fun r12=>some (!r12))
def oD (gn:Int):Option Bool:=
 (ut gn 0 36524).bind fun r2=>some r2
def ks (aK:(Condition×Int)→Option Int)(c_1:Condition)(bR:Int)(self:(Int×Int)→Option (Int⊕Int))(x5:Int×Int):Option (Int⊕Int):=
 bif (decide (x5.2<(len c_1.Parts))) then ((bC c_1.Parts x5.2).bind fun e6=>(aK (e6,x5.1)).bind fun r7=>bif (decide (r7<0)) then (some (.inl (-1))) else (self (r7,(aG (x5.2+1))))) else (some (.inr x5.1))
def lg (aK:(Condition×Int)→Option Int)(c_1:Condition)(bR:Int): (Int×Int)→Option (Int⊕Int):=aC (ks aK c_1 bR)
theorem Ap (aK:(Condition×Int)→Option Int)(c_1:Condition)(bR:Int): ∀a,Fin1 fun f=>ks aK c_1 bR f a:=by
 unfold ks
 repeat first|intro _|exact bm|exact ce|apply cm|apply bA|apply bB|apply bz|apply cn
theorem CJ (aK:(Condition×Int)→Option Int)(c_1:Condition)(bR:Int)(x:Int×Int):lg aK c_1 bR x=ks aK c_1 bR (lg aK c_1 bR) x:=cB (Ap aK c_1 bR) x
def vy (aK:(Condition×Int)→Option Int)(c_1:Condition)(bR:Int):Option Int:=
 bU (ρ:=Int) (bif (decide ((aG (bR+1))>15)) then (some (.inr true)) else ((ut c_1.Op 1 6).bind fun r20=>cu (ρ:=Int) (bif (!r20) then (some (.inr true)) else ((bC [(-1),0,0,0,1,2,2] c_1.Op).bind fun e22=>some (.inr ((len c_1.Parts) != e22)))) fun u21:Bool=>some (.inr u21))) fun u3:Bool=>bif u3 then (some (-1)) else (bU (ρ:=Int) (bif (!((c_1.Op==2)==(!(c_1.Name==([]:ac))))) then (some (.inr true)) else (cu (ρ:=Int) (bif (c_1.Op==2) then ((CF c_1.Name).bind fun r10=>cu (ρ:=Int) (bif (!r10) then (some (.inr true)) else (cu (ρ:=Int) (bif (c_1.Op != 3) then (cu (ρ:=Int) (bif (c_1.Day != 0) then (some (.inr true)) else ((oD c_1.Day).bind fun r14=>some (.inr (!r14)))) fun u13:Bool=>some (.inr u13)) else ((oD c_1.Day).bind fun r15=>some (.inr (!r15)))) fun u12:Bool=>some (.inr u12))) fun u11:Bool=>some (.inr u11)) else (cu (ρ:=Int) (bif (c_1.Op != 3) then (cu (ρ:=Int) (bif (c_1.Day != 0) then (some (.inr true)) else ((oD c_1.Day).bind fun r18=>some (.inr (!r18)))) fun u17:Bool=>some (.inr u17)) else ((oD c_1.Day).bind fun r19=>some (.inr (!r19)))) fun u16:Bool=>some (.inr u16))) fun u9:Bool=>some (.inr u9))) fun u4:Bool=>bif u4 then (some (-1)) else (bU (ρ:=Int) (lg aK c_1 bR ((aG (bR+1)),0)) fun u8:Int=>some u8))
def lu (aK:(Condition×Int)→Option Int)(x:Condition×Int):Option Int:=vy aK x.1 x.2
def J2 (c_1:Condition)(bR:Int):Option Int:=aC lu (c_1,bR)
theorem N0:∀x,Fin1 fun aK=>lu aK x:=by
 unfold lu vy
 repeat first|intro _|exact bm|exact ce|exact jO|exact l8|exact iL|exact kv|exact jm|exact jo|apply cm|apply bA|apply bB|apply bz|apply cn|apply qg|unfold lg|unfold ks
theorem PO (c_1:Condition)(bR:Int):J2 c_1 bR=vy (aC lu) c_1 bR:=cB N0 (c_1,bR)
def ul (c_1:Condition):Option Bool:=
 (J2 c_1 0).bind fun r2=>some (decide (r2>0))
def kr (bP:(Condition×(List ac))→Option (List ac))(c_3:Condition)(az:List ac)(self:(Int×(List ac))→Option ((List ac)⊕(List ac)))(x4:Int×(List ac)):Option ((List ac)⊕(List ac)):=
 bif (decide (x4.1<(len c_3.Parts))) then ((bC c_3.Parts x4.1).bind fun e5=>(bP (e5,x4.2)).bind fun r6=>self ((aG (x4.1+1)),r6)) else (some (.inr x4.2))
def mj (bP:(Condition×(List ac))→Option (List ac))(c_3:Condition)(az:List ac): (Int×(List ac))→Option ((List ac)⊕(List ac)):=aC (kr bP c_3 az)
theorem Am (bP:(Condition×(List ac))→Option (List ac))(c_3:Condition)(az:List ac): ∀a,Fin1 fun f=>kr bP c_3 az f a:=by
 unfold kr
 repeat first|intro _|exact bm|exact ce|apply cm|apply bA|apply bB|apply bz|apply cn
theorem CI (bP:(Condition×(List ac))→Option (List ac))(c_3:Condition)(az:List ac)(x:Int×(List ac)):mj bP c_3 az x=kr bP c_3 az (mj bP c_3 az) x:=cB (Am bP c_3 az) x
def vx (bP:(Condition×(List ac))→Option (List ac))(c_3:Condition)(az:List ac):Option (List ac):=
 bU (ρ:=(List ac)) (bif (c_3.Op==2) then ((fa 16 az [c_3.Name]).bind fun a8=>some (.inr a8)) else (some (.inr az))) fun u3:(List ac)=>bU (ρ:=(List ac)) (mj bP c_3 az (0,u3)) fun u7:(List ac)=>some u7
def mi (bP:(Condition×(List ac))→Option (List ac))(x:Condition×(List ac)):Option (List ac):=vx bP x.1 x.2
def CH (c_3:Condition)(az:List ac):Option (List ac):=aC mi (c_3,az)
theorem NY:∀x,Fin1 fun bP=>mi bP x:=by
 unfold mi vx
 repeat first|intro _|exact bm|exact ce|exact jO|exact l8|exact iL|exact kv|exact jm|exact jo|apply cm|apply bA|apply bB|apply bz|apply cn|apply qg|unfold mj|unfold kr
theorem PN (c_3:Condition)(az:List ac):CH c_3 az=vx (aC mi) c_3 az:=cB NY (c_3,az)
def lN (s_2:List ac)(x2:Int)(self:(Int×Int×(List ac))→Option ((List ac)⊕(Int×(List ac))))(x6:Int×Int×(List ac)):Option ((List ac)⊕(Int×(List ac))):=
 bif (decide (x6.2.1<(((Int.toNat (len s_2) - Int.toNat x2):Nat):Int))) then ((sG x6.2.2 (0+Int.toNat x2) (Int.toNat (len s_2) - Int.toNat x2) x6.2.1).bind fun e7=>(sG x6.2.2 (0+Int.toNat x2) (Int.toNat (len s_2) - Int.toNat x2) (aG (x6.2.1 - 1))).bind fun e8=>cu (ρ:=(List ac)) (bif (!(e7==e8)) then ((sG x6.2.2 (0+Int.toNat x2) (Int.toNat (len s_2) - Int.toNat x2) x6.2.1).bind fun e10=>(bC x6.2.2 x6.1).bind fun e11=>some (.inr ((aG (x6.1+1)),(jT x6.2.2 x6.1 e10)))) else (some (.inr (x6.1,x6.2.2)))) fun u9:Int×(List ac)=>self (u9.1,(aG (x6.2.1+1)),u9.2)) else (some (.inr (x6.1,x6.2.2)))
def lh (s_2:List ac)(x2:Int):(Int×Int×(List ac))→Option ((List ac)⊕(Int×(List ac))):=aC (lN s_2 x2)
theorem AF (s_2:List ac)(x2:Int):∀a,Fin1 fun f=>lN s_2 x2 f a:=by
 unfold lN
 repeat first|intro _|exact bm|exact ce|apply cm|apply bA|apply bB|apply bz|apply cn
theorem CP (s_2:List ac)(x2:Int)(x:Int×Int×(List ac)):lh s_2 x2 x=lN s_2 x2 (lh s_2 x2) x:=cB (AF s_2 x2) x
def lM (s_2:List ac)(self:Int→Option ((List ac)⊕(List ac)))(x2:Int):Option ((List ac)⊕(List ac)):=
 bif (decide (x2<(len s_2))) then ((bC s_2 x2).bind fun e3=>(bC s_2 (aG (x2 - 1))).bind fun e4=>bif (e3==e4) then ((gm s_2.length x2 (len s_2)).bind fun s5=>cu (ρ:=(List ac)) (lh s_2 x2 (x2,1,s_2)) fun u15:Int×(List ac)=>(gm u15.2.length u15.1 (len u15.2)).bind fun s16=>(uJ u15.2 (0+Int.toNat u15.1) (Int.toNat (len u15.2) - Int.toNat u15.1) []).bind fun k17=>(gm k17.length 0 u15.1).bind fun s18=>(fY k17 (0+Int.toNat (0)) (Int.toNat u15.1 - Int.toNat (0))).bind fun p19=>some (.inl p19)) else (self (aG (x2+1)))) else (some (.inr s_2))
def rk (s_2:List ac): Int→Option ((List ac)⊕(List ac)):=aC (lM s_2)
theorem AE (s_2:List ac): ∀a,Fin1 fun f=>lM s_2 f a:=by
 unfold lM
 repeat first|intro _|exact bm|exact ce|apply cm|apply bA|apply bB|apply bz|apply cn
theorem CO (s_2:List ac)(x:Int):rk s_2 x=lM s_2 (rk s_2) x:=cB (AE s_2) x
def E8 (s_2:List ac):Option (List ac):=
 bif (decide ((len s_2)<2)) then (some s_2) else (bU (ρ:=(List ac)) (rk s_2 1) fun u20:(List ac)=>some u20)
def wt (ja:List ac):Option (List ac):=
 (rH ja).bind fun r2=>bif Nat.beq r2.length ja.length then ((E8 r2).bind fun r4=>some r4) else none
def kq (bO:(Condition×(List Int))→Option (List Int))(c_3:Condition)(az:List Int)(self:(Int×(List Int))→Option ((List Int)⊕(List Int)))(x4:Int×(List Int)):Option ((List Int)⊕(List Int)):=
 bif (decide (x4.1<(len c_3.Parts))) then ((bC c_3.Parts x4.1).bind fun e5=>(bO (e5,x4.2)).bind fun r6=>self ((aG (x4.1+1)),r6)) else (some (.inr x4.2))
def mh (bO:(Condition×(List Int))→Option (List Int))(c_3:Condition)(az:List Int): (Int×(List Int))→Option ((List Int)⊕(List Int)):=aC (kq bO c_3 az)
theorem Ai (bO:(Condition×(List Int))→Option (List Int))(c_3:Condition)(az:List Int): ∀a,Fin1 fun f=>kq bO c_3 az f a:=by
 unfold kq
 repeat first|intro _|exact bm|exact ce|apply cm|apply bA|apply bB|apply bz|apply cn
theorem CG (bO:(Condition×(List Int))→Option (List Int))(c_3:Condition)(az:List Int)(x:Int×(List Int)):mh bO c_3 az x=kq bO c_3 az (mh bO c_3 az) x:=cB (Ai bO c_3 az) x
def vw (bO:(Condition×(List Int))→Option (List Int))(c_3:Condition)(az:List Int):Option (List Int):=
 bU (ρ:=(List Int)) (bif (c_3.Op==3) then ((fa 8 az [c_3.Day]).bind fun a8=>some (.inr a8)) else (some (.inr az))) fun u3:(List Int)=>bU (ρ:=(List Int)) (mh bO c_3 az (0,u3)) fun u7:(List Int)=>some u7
def mg (bO:(Condition×(List Int))→Option (List Int))(x:Condition×(List Int)):Option (List Int):=vw bO x.1 x.2
def Ac (c_3:Condition)(az:List Int):Option (List Int):=aC mg (c_3,az)
theorem NW:∀x,Fin1 fun bO=>mg bO x:=by
 unfold mg vw
 repeat first|intro _|exact bm|exact ce|exact jO|exact l8|exact iL|exact kv|exact jm|exact jo|apply cm|apply bA|apply bB|apply bz|apply cn|apply qg|unfold mh|unfold kq
theorem PM (c_3:Condition)(az:List Int):Ac c_3 az=vw (aC mg) c_3 az:=cB NW (c_3,az)
def sf (cp:(Condition×(List ac)×Int)→Option Bool)(c_1:Condition)(aD:List ac)(aX:Int):Option Bool:=
 bif (c_1.Op==2) then ((wu aD c_1.Name).bind fun r4=>some r4) else (bif (c_1.Op==3) then (some (decide (aX≥c_1.Day))) else (bif (c_1.Op==4) then ((bC c_1.Parts 0).bind fun e5=>(cp (e5,aD,aX)).bind fun r6=>some (!r6)) else (bif (c_1.Op==5) then ((bC c_1.Parts 0).bind fun e7=>(cp (e7,aD,aX)).bind fun r8=>bU (ρ:=Bool) (bif r8 then ((bC c_1.Parts 1).bind fun e10=>(cp (e10,aD,aX)).bind fun r11=>some (.inr r11)) else (some (.inr false))) fun u9:Bool=>some u9) else (bif (c_1.Op==6) then ((bC c_1.Parts 0).bind fun e12=>(cp (e12,aD,aX)).bind fun r13=>bU (ρ:=Bool) (bif r13 then (some (.inr true)) else ((bC c_1.Parts 1).bind fun e15=>(cp (e15,aD,aX)).bind fun r16=>some (.inr r16))) fun u14:Bool=>some u14) else (some true)))))
def lw (cp:(Condition×(List ac)×Int)→Option Bool)(x:Condition×(List ac)×Int):Option Bool:=sf cp x.1 x.2.1 x.2.2
def wr (c_1:Condition)(aD:List ac)(aX:Int):Option Bool:=aC lw (c_1,aD,aX)
theorem N2:∀x,Fin1 fun cp=>lw cp x:=by
 unfold lw sf
 repeat first|intro _|exact bm|exact ce|apply cm|apply bA|apply bB|apply bz|apply cn
theorem J5 (c_1:Condition)(aD:List ac)(aX:Int):wr c_1 aD aX=sf (aC lw) c_1 aD aX:=cB N2 (c_1,aD,aX)
def lF (a_1:Condition)(b_2:Condition)(r7:(List ac))(x11:Int)(r9:(List Int))(q10:Int)(self:(Int×(List ac))→Option ((Bool×Bool)⊕(List ac)))(x12:Int×(List ac)):Option ((Bool×Bool)⊕(List ac)):=
 bif (decide (x12.1<(len r7))) then ((bC r7 x12.1).bind fun e13=>(pT .i64 x11 x12.1).bind fun q14=>cu (ρ:=Bool×Bool) (bif ((lc .i64 q14 1)==1) then ((fa 16 x12.2 [e13]).bind fun a16=>some (.inr a16)) else (some (.inr x12.2))) fun u15:(List ac)=>self ((aG (x12.1+1)),u15)) else (some (.inr x12.2))
def qK (a_1:Condition)(b_2:Condition)(r7:(List ac))(x11:Int)(r9:(List Int))(q10:Int):(Int×(List ac))→Option ((Bool×Bool)⊕(List ac)):=aC (lF a_1 b_2 r7 x11 r9 q10)
theorem yz (a_1:Condition)(b_2:Condition)(r7:(List ac))(x11:Int)(r9:(List Int))(q10:Int):∀a,Fin1 fun f=>lF a_1 b_2 r7 x11 r9 q10 f a:=by
 unfold lF
 repeat first|intro _|exact bm|exact ce|apply cm|apply bA|apply bB|apply bz|apply cn
theorem Cq (a_1:Condition)(b_2:Condition)(r7:(List ac))(x11:Int)(r9:(List Int))(q10:Int)(x:Int×(List ac)):qK a_1 b_2 r7 x11 r9 q10 x=lF a_1 b_2 r7 x11 r9 q10 (qK a_1 b_2 r7 x11 r9 q10) x:=cB (yz a_1 b_2 r7 x11 r9 q10) x
def lG (a_1:Condition)(b_2:Condition)(r9:(List Int))(u17:(List ac))(r7:(List ac))(q10:Int)(x11:Int)(self:Int→Option ((Bool×Bool)⊕Unit))(x18:Int):Option ((Bool×Bool)⊕Unit):=
 bif (decide (x18<(len r9))) then ((bC r9 x18).bind fun e19=>(wr a_1 u17 e19).bind fun r20=>cu (ρ:=Bool×Bool) (bif r20 then ((wr b_2 u17 e19).bind fun r22=>some (.inr (!r22))) else (some (.inr false))) fun u21:Bool=>bif u21 then (some (.inl (false,true))) else (self (aG (x18+1)))) else (some (.inr ()))
def pg (a_1:Condition)(b_2:Condition)(r9:(List Int))(u17:(List ac))(r7:(List ac))(q10:Int)(x11:Int):Int→Option ((Bool×Bool)⊕Unit):=aC (lG a_1 b_2 r9 u17 r7 q10 x11)
theorem yA (a_1:Condition)(b_2:Condition)(r9:(List Int))(u17:(List ac))(r7:(List ac))(q10:Int)(x11:Int):∀a,Fin1 fun f=>lG a_1 b_2 r9 u17 r7 q10 x11 f a:=by
 unfold lG
 repeat first|intro _|exact bm|exact ce|apply cm|apply bA|apply bB|apply bz|apply cn
theorem Cr (a_1:Condition)(b_2:Condition)(r9:(List Int))(u17:(List ac))(r7:(List ac))(q10:Int)(x11:Int)(x:Int):pg a_1 b_2 r9 u17 r7 q10 x11 x=lG a_1 b_2 r9 u17 r7 q10 x11 (pg a_1 b_2 r9 u17 r7 q10 x11) x:=cB (yA a_1 b_2 r9 u17 r7 q10 x11) x
def lE (a_1:Condition)(b_2:Condition)(q10:Int)(r7:(List ac))(r9:(List Int))(self:Int→Option ((Bool×Bool)⊕Unit))(x11:Int):Option ((Bool×Bool)⊕Unit):=
 bif (decide (x11<q10)) then (cu (ρ:=Bool×Bool) (qK a_1 b_2 r7 x11 r9 q10 (0,[])) fun u17:(List ac)=>cu (ρ:=Bool×Bool) (pg a_1 b_2 r9 u17 r7 q10 x11 0) fun u23:Unit=>self (aG (x11+1))) else (some (.inr ()))
def pf (a_1:Condition)(b_2:Condition)(q10:Int)(r7:(List ac))(r9:(List Int)):Int→Option ((Bool×Bool)⊕Unit):=aC (lE a_1 b_2 q10 r7 r9)
theorem yy (a_1:Condition)(b_2:Condition)(q10:Int)(r7:(List ac))(r9:(List Int)):∀a,Fin1 fun f=>lE a_1 b_2 q10 r7 r9 f a:=by
 unfold lE
 repeat first|intro _|exact bm|exact ce|apply cm|apply bA|apply bB|apply bz|apply cn
theorem Cp (a_1:Condition)(b_2:Condition)(q10:Int)(r7:(List ac))(r9:(List Int))(x:Int):pf a_1 b_2 q10 r7 r9 x=lE a_1 b_2 q10 r7 r9 (pf a_1 b_2 q10 r7 r9) x:=cB (yy a_1 b_2 q10 r7 r9) x
def EC (a_1:Condition)(b_2:Condition):Option (Bool×Bool):=
 (ul a_1).bind fun r3=>bU (ρ:=Bool×Bool) (bif (!r3) then (some (.inr true)) else ((ul b_2).bind fun r25=>some (.inr (!r25)))) fun u4:Bool=>bif u4 then (some (false,false)) else ((CH a_1 []).bind fun r5=>(CH b_2 r5).bind fun r6=>(wt r6).bind fun r7=>bif (decide ((len r7)>10)) then (some (false,false)) else ((Ac a_1 [0]).bind fun r8=>(Ac b_2 r8).bind fun r9=>(yq .i64 1 (len r7)).bind fun q10=>bU (ρ:=Bool×Bool) (pf a_1 b_2 q10 r7 r9 0) fun u24:Unit=>some (true,true)))
def iI (x_1:Int)(a_2:Int)(b_3:Int):Option Bool:=
 dC (bif (decide (x_1≥a_2)) then (decide (x_1≤b_3)) else false) fun u4:Bool=>some u4
def ui (b_1:Int):Option Bool:=
 dC (bif (decide (b_1≥97)) then (dC (bif (decide (b_1≤122)) then true else (dC (bif (decide (b_1≥48)) then (decide (b_1≤57)) else false) fun u4:Bool=>u4)) fun u3:Bool=>u3) else (dC (bif (decide (b_1≥48)) then (decide (b_1≤57)) else false) fun u5:Bool=>u5)) fun u2:Bool=>some u2
def lX (s_1:ac)(self:Int→Option (Bool⊕Unit))(x4:Int):Option (Bool⊕Unit):=
 bif (decide (x4<(len s_1))) then ((bC s_1 x4).bind fun c5=>(ui (c5.toNat:Int)).bind fun r6=>bif (!r6) then (some (.inl false)) else (self (aG (x4+1)))) else (some (.inr ()))
def qU (s_1:ac): Int→Option (Bool⊕Unit):=aC (lX s_1)
theorem wi (s_1:ac): ∀a,Fin1 fun f=>lX s_1 f a:=by
 unfold lX
 repeat first|intro _|exact bm|exact ce|apply cm|apply bA|apply bB|apply bz|apply cn
theorem HT (s_1:ac)(x:Int):qU s_1 x=lX s_1 (qU s_1) x:=cB (wi s_1) x
def tX (s_1:ac):Option Bool:=
 (iI (len s_1) 1 8).bind fun r2=>bU (ρ:=Bool) (bif (!r2) then (some (.inr true)) else ((bC s_1 0).bind fun c16=>cu (ρ:=Bool) (bif (decide ((c16.toNat:Int)<97)) then (some (.inr true)) else ((bC s_1 0).bind fun c18=>some (.inr (decide ((c18.toNat:Int)>122))))) fun u17:Bool=>some (.inr u17))) fun u3:Bool=>bif u3 then (some false) else (bU (ρ:=Bool) (qU s_1 0) fun u7:Unit=>dC (bif (s_1==([116,114,117,101]:ac)) then (s_1==([116,114,117,101]:ac)) else (dC (bif (s_1==([102,114,111,109]:ac)) then (s_1==([102,114,111,109]:ac)) else (dC (bif (s_1==([110,111,116]:ac)) then (s_1==([110,111,116]:ac)) else (dC (bif (s_1==([97,110,100]:ac)) then (s_1==([97,110,100]:ac)) else (dC (bif (s_1==([111,114]:ac)) then (s_1==([111,114]:ac)) else (dC (bif (s_1==([98,111,116,104]:ac)) then (s_1==([98,111,116,104]:ac)) else (dC (bif (s_1==([101,105,116,104,101,114]:ac)) then (s_1==([101,105,116,104,101,114]:ac)) else (dC (bif (s_1==([105,116]:ac)) then (s_1==([105,116]:ac)) else (s_1==([105,110]:ac))) fun u15:Bool=>u15)) fun u14:Bool=>u14)) fun u13:Bool=>u13)) fun u12:Bool=>u12)) fun u11:Bool=>u11)) fun u10:Bool=>u10)) fun u9:Bool=>u9)) fun u8:Bool=>bif u8 then (some false) else (some true))
def rM (gn:Int):Option Bool:=
 (iI gn 0 36524).bind fun r2=>some r2
def xp (c_1:Condition):Option Bool:=
 bif (c_1.Op==1) then (dC (bif ((len c_1.Parts)==0) then (dC (bif (c_1.Name==([]:ac)) then (c_1.Day==0) else false) fun u3:Bool=>u3) else false) fun u2:Bool=>some u2) else (bif (c_1.Op==2) then (bU (ρ:=Bool) (bif ((len c_1.Parts)==0) then ((tX c_1.Name).bind fun r5=>dC (bif r5 then (c_1.Day==0) else false) fun u6:Bool=>some (.inr u6)) else (some (.inr false))) fun u4:Bool=>some u4) else (bif (c_1.Op==3) then (bU (ρ:=Bool) (bif ((len c_1.Parts)==0) then (cu (ρ:=Bool) (bif (c_1.Name==([]:ac)) then ((rM c_1.Day).bind fun r9=>some (.inr r9)) else (some (.inr false))) fun u8:Bool=>some (.inr u8)) else (some (.inr false))) fun u7:Bool=>some u7) else (bif (c_1.Op==4) then (dC (bif ((len c_1.Parts)==1) then (dC (bif (c_1.Name==([]:ac)) then (c_1.Day==0) else false) fun u11:Bool=>u11) else false) fun u10:Bool=>some u10) else (dC (bif (c_1.Op==5) then (c_1.Op==5) else (c_1.Op==6)) fun u12:Bool=>bif u12 then (dC (bif ((len c_1.Parts)==2) then (dC (bif (c_1.Name==([]:ac)) then (c_1.Day==0) else false) fun u14:Bool=>u14) else false) fun u13:Bool=>some u13) else (some false)))))
def kf (bE:Condition→Option Bool)(c_1:Condition)(self:Int→Option (Bool⊕Unit))(x3:Int):Option (Bool⊕Unit):=
 bif (decide (x3<(len c_1.Parts))) then ((bC c_1.Parts x3).bind fun e4=>(bE e4).bind fun r5=>bif (!r5) then (some (.inl false)) else (self (aG (x3+1)))) else (some (.inr ()))
def o8 (bE:Condition→Option Bool)(c_1:Condition): Int→Option (Bool⊕Unit):=aC (kf bE c_1)
theorem wd (bE:Condition→Option Bool)(c_1:Condition): ∀a,Fin1 fun f=>kf bE c_1 f a:=by
 unfold kf
 repeat first|intro _|exact bm|exact ce|apply cm|apply bA|apply bB|apply bz|apply cn
theorem HR (bE:Condition→Option Bool)(c_1:Condition)(x:Int):o8 bE c_1 x=kf bE c_1 (o8 bE c_1) x:=cB (wd bE c_1) x
def qR (bE:Condition→Option Bool)(c_1:Condition):Option Bool:=
 (xp c_1).bind fun r2=>bif (!r2) then (some false) else (bU (ρ:=Bool) (o8 bE c_1 0) fun u6:Unit=>some true)
def pn (bE:Condition→Option Bool)(x:Condition):Option Bool:=qR bE x
def BG (c_1:Condition):Option Bool:=aC pn c_1
theorem LE:∀x,Fin1 fun bE=>pn bE x:=by
 unfold pn qR
 repeat first|intro _|exact bm|exact ce|exact jO|exact l8|exact iL|exact kv|exact jm|exact jo|apply cm|apply bA|apply bB|apply bz|apply cn|apply qg|unfold o8|unfold kf
theorem NN (c_1:Condition):BG c_1=qR (aC pn) c_1:=cB LE c_1
def rS (c_1:Condition):Option Bool:=
 (BG c_1).bind fun r2=>bU (ρ:=Bool) (bif r2 then ((xC c_1).bind fun r4=>some (.inr (decide (r4≤15)))) else (some (.inr false))) fun u3:Bool=>some u3
def km (l_8:List ac)(s_9:ac)(self:Int→Option ((List ac)⊕(ac×Int×(List ac))))(x3:Int):Option ((List ac)⊕(ac×Int×(List ac))):=
 cu (ρ:=(List ac)) (bif (decide (x3<(len l_8))) then ((bC l_8 x3).bind fun e5=>some (.inr (Op.bytesLess e5 s_9))) else (some (.inr false))) fun u4:Bool=>bif u4 then (self (aG (x3+1))) else (some (.inr (s_9,x3,l_8)))
def qY (l_8:List ac)(s_9:ac): Int→Option ((List ac)⊕(ac×Int×(List ac))):=aC (km l_8 s_9)
theorem wm (l_8:List ac)(s_9:ac): ∀a,Fin1 fun f=>km l_8 s_9 f a:=by
 unfold km
 repeat first|intro _|exact bm|exact ce|apply cm|apply bA|apply bB|apply bz|apply cn
theorem zH (l_8:List ac)(s_9:ac)(x:Int):qY l_8 s_9 x=km l_8 s_9 (qY l_8 s_9) x:=cB (wm l_8 s_9) x
def rY (l_8:List ac)(s_9:ac):Option (List ac):=
 bU (ρ:=(List ac)) (qY l_8 s_9 0) fun u6:ac×Int×(List ac)=>bU (ρ:=(List ac)) (bif (decide (u6.2.1<(len u6.2.2))) then ((bC u6.2.2 u6.2.1).bind fun e15=>some (.inr (e15==u6.1))) else (some (.inr false))) fun u7:Bool=>bif u7 then (some u6.2.2) else ((gm u6.2.2.length 0 u6.2.1).bind fun s8=>(fY u6.2.2 (0+Int.toNat (0)) (Int.toNat u6.2.1 - Int.toNat (0))).bind fun p9=>(fa 16 ([]:List ac) p9).bind fun a10=>(fa 16 a10 [u6.1]).bind fun a11=>(gm u6.2.2.length u6.2.1 (len u6.2.2)).bind fun s12=>(fY u6.2.2 (0+Int.toNat u6.2.1) (Int.toNat (len u6.2.2) - Int.toNat u6.2.1)).bind fun p13=>(fa 16 a11 p13).bind fun a14=>some a14)
def jg (bF:((List ac)×Condition)→Option (List ac))(l_4:List ac)(c_5:Condition)(self:(Int×(List ac))→Option ((List ac)⊕(List ac)))(x4:Int×(List ac)):Option ((List ac)⊕(List ac)):=
 bif (decide (x4.1<(len c_5.Parts))) then ((bC c_5.Parts x4.1).bind fun e5=>(bF (x4.2,e5)).bind fun r6=>self ((aG (x4.1+1)),r6)) else (some (.inr x4.2))
def kJ (bF:((List ac)×Condition)→Option (List ac))(l_4:List ac)(c_5:Condition): (Int×(List ac))→Option ((List ac)⊕(List ac)):=aC (jg bF l_4 c_5)
theorem wj (bF:((List ac)×Condition)→Option (List ac))(l_4:List ac)(c_5:Condition): ∀a,Fin1 fun f=>jg bF l_4 c_5 f a:=by
 unfold jg
 repeat first|intro _|exact bm|exact ce|apply cm|apply bA|apply bB|apply bz|apply cn
theorem zC (bF:((List ac)×Condition)→Option (List ac))(l_4:List ac)(c_5:Condition)(x:Int×(List ac)):kJ bF l_4 c_5 x=jg bF l_4 c_5 (kJ bF l_4 c_5) x:=cB (wj bF l_4 c_5) x
def qV (bF:((List ac)×Condition)→Option (List ac))(l_4:List ac)(c_5:Condition):Option (List ac):=
 bif (c_5.Op==2) then ((rY l_4 c_5.Name).bind fun r3=>some r3) else (bU (ρ:=(List ac)) (kJ bF l_4 c_5 (0,l_4)) fun u7:(List ac)=>some u7)
def kj (bF:((List ac)×Condition)→Option (List ac))(x:(List ac)×Condition):Option (List ac):=qV bF x.1 x.2
def qt (l_4:List ac)(c_5:Condition):Option (List ac):=aC kj (l_4,c_5)
theorem LM:∀x,Fin1 fun bF=>kj bF x:=by
 unfold kj qV
 repeat first|intro _|exact bm|exact ce|exact jO|exact l8|exact iL|exact kv|exact jm|exact jo|apply cm|apply bA|apply bB|apply bz|apply cn|apply qg|unfold kJ|unfold jg
theorem NP (l_4:List ac)(c_5:Condition):qt l_4 c_5=qV (aC kj) l_4 c_5:=cB LM (l_4,c_5)
def kd (l_8:List Int)(n_9:Int)(self:Int→Option ((List Int)⊕(Int×Int×(List Int))))(x3:Int):Option ((List Int)⊕(Int×Int×(List Int))):=
 cu (ρ:=(List Int)) (bif (decide (x3<(len l_8))) then ((bC l_8 x3).bind fun e5=>some (.inr (decide (e5<n_9)))) else (some (.inr false))) fun u4:Bool=>bif u4 then (self (aG (x3+1))) else (some (.inr (n_9,x3,l_8)))
def qO (l_8:List Int)(n_9:Int): Int→Option ((List Int)⊕(Int×Int×(List Int))):=aC (kd l_8 n_9)
theorem wa (l_8:List Int)(n_9:Int): ∀a,Fin1 fun f=>kd l_8 n_9 f a:=by
 unfold kd
 repeat first|intro _|exact bm|exact ce|apply cm|apply bA|apply bB|apply bz|apply cn
theorem yZ (l_8:List Int)(n_9:Int)(x:Int):qO l_8 n_9 x=kd l_8 n_9 (qO l_8 n_9) x:=cB (wa l_8 n_9) x
def tH (l_8:List Int)(n_9:Int):Option (List Int):=
 bU (ρ:=(List Int)) (qO l_8 n_9 0) fun u6:Int×Int×(List Int)=>bU (ρ:=(List Int)) (bif (decide (u6.2.1<(len u6.2.2))) then ((bC u6.2.2 u6.2.1).bind fun e15=>some (.inr (e15==u6.1))) else (some (.inr false))) fun u7:Bool=>bif u7 then (some u6.2.2) else ((gm u6.2.2.length 0 u6.2.1).bind fun s8=>(fY u6.2.2 (0+Int.toNat (0)) (Int.toNat u6.2.1 - Int.toNat (0))).bind fun p9=>(fa 8 ([]:List Int) p9).bind fun a10=>(fa 8 a10 [u6.1]).bind fun a11=>(gm u6.2.2.length u6.2.1 (len u6.2.2)).bind fun s12=>(fY u6.2.2 (0+Int.toNat u6.2.1) (Int.toNat (len u6.2.2) - Int.toNat u6.2.1)).bind fun p13=>(fa 8 a11 p13).bind fun a14=>some a14)
def je (bD:((List Int)×Condition)→Option (List Int))(l_4:List Int)(c_5:Condition)(self:(Int×(List Int))→Option ((List Int)⊕(List Int)))(x4:Int×(List Int)):Option ((List Int)⊕(List Int)):=
 bif (decide (x4.1<(len c_5.Parts))) then ((bC c_5.Parts x4.1).bind fun e5=>(bD (x4.2,e5)).bind fun r6=>self ((aG (x4.1+1)),r6)) else (some (.inr x4.2))
def kI (bD:((List Int)×Condition)→Option (List Int))(l_4:List Int)(c_5:Condition): (Int×(List Int))→Option ((List Int)⊕(List Int)):=aC (je bD l_4 c_5)
theorem wb (bD:((List Int)×Condition)→Option (List Int))(l_4:List Int)(c_5:Condition): ∀a,Fin1 fun f=>je bD l_4 c_5 f a:=by
 unfold je
 repeat first|intro _|exact bm|exact ce|apply cm|apply bA|apply bB|apply bz|apply cn
theorem zf (bD:((List Int)×Condition)→Option (List Int))(l_4:List Int)(c_5:Condition)(x:Int×(List Int)):kI bD l_4 c_5 x=je bD l_4 c_5 (kI bD l_4 c_5) x:=cB (wb bD l_4 c_5) x
def qP (bD:((List Int)×Condition)→Option (List Int))(l_4:List Int)(c_5:Condition):Option (List Int):=
 bif (c_5.Op==3) then ((tH l_4 c_5.Day).bind fun r3=>some r3) else (bU (ρ:=(List Int)) (kI bD l_4 c_5 (0,l_4)) fun u7:(List Int)=>some u7)
def ke (bD:((List Int)×Condition)→Option (List Int))(x:(List Int)×Condition):Option (List Int):=qP bD x.1 x.2
def BF (l_4:List Int)(c_5:Condition):Option (List Int):=aC ke (l_4,c_5)
theorem LA:∀x,Fin1 fun bD=>ke bD x:=by
 unfold ke qP
 repeat first|intro _|exact bm|exact ce|exact jO|exact l8|exact iL|exact kv|exact jm|exact jo|apply cm|apply bA|apply bB|apply bz|apply cn|apply qg|unfold kI|unfold je
theorem NM (l_4:List Int)(c_5:Condition):BF l_4 c_5=qP (aC ke) l_4 c_5:=cB LA (l_4,c_5)
def ko (cW:List ac)(eb:Int)(self:(Int×(List ac))→Option ((List ac)⊕(List ac)))(x3:Int×(List ac)):Option ((List ac)⊕(List ac)):=
 bif (decide (x3.1<(len cW))) then ((pT .i64 eb (IntKind.u64.wrap x3.1)).bind fun q4=>cu (ρ:=(List ac)) (bif ((lc .i64 q4 1)==1) then ((bC cW x3.1).bind fun e6=>(fa 16 x3.2 [e6]).bind fun a7=>some (.inr a7)) else (some (.inr x3.2))) fun u5:(List ac)=>self ((aG (x3.1+1)),u5)) else (some (.inr x3.2))
def pc (cW:List ac)(eb:Int): (Int×(List ac))→Option ((List ac)⊕(List ac)):=aC (ko cW eb)
theorem wo (cW:List ac)(eb:Int): ∀a,Fin1 fun f=>ko cW eb f a:=by
 unfold ko
 repeat first|intro _|exact bm|exact ce|apply cm|apply bA|apply bB|apply bz|apply cn
theorem zP (cW:List ac)(eb:Int)(x:Int×(List ac)):pc cW eb x=ko cW eb (pc cW eb) x:=cB (wo cW eb) x
def xD (cW:List ac)(eb:Int):Option (List ac):=
 bU (ρ:=(List ac)) (pc cW eb (0,[])) fun u8:(List ac)=>some u8
def lU (aR:List ac)(eu:ac)(self:Int→Option (Bool⊕Unit))(x3:Int):Option (Bool⊕Unit):=
 bif (decide (x3<(len aR))) then ((bC aR x3).bind fun e4=>bif (e4==eu) then (some (.inl true)) else (self (aG (x3+1)))) else (some (.inr ()))
def qS (aR:List ac)(eu:ac): Int→Option (Bool⊕Unit):=aC (lU aR eu)
theorem we (aR:List ac)(eu:ac): ∀a,Fin1 fun f=>lU aR eu f a:=by
 unfold lU
 repeat first|intro _|exact bm|exact ce|apply cm|apply bA|apply bB|apply bz|apply cn
theorem HS (aR:List ac)(eu:ac)(x:Int):qS aR eu x=lU aR eu (qS aR eu) x:=cB (we aR eu) x
def xt (aR:List ac)(eu:ac):Option Bool:=
 bU (ρ:=Bool) (qS aR eu 0) fun u5:Unit=>some false
def qT (bN:(Condition×(List ac)×Int)→Option Bool)(c_1:Condition)(aD:List ac)(aX:Int):Option Bool:=
 bif (c_1.Op==1) then (some true) else (bif (c_1.Op==2) then ((xt aD c_1.Name).bind fun r4=>some r4) else (bif (c_1.Op==3) then (some (decide (aX≥c_1.Day))) else (bif (c_1.Op==4) then ((bC c_1.Parts 0).bind fun e5=>(bN (e5,aD,aX)).bind fun r6=>some (!r6)) else (bif (c_1.Op==5) then ((bC c_1.Parts 0).bind fun e7=>(bN (e7,aD,aX)).bind fun r8=>bU (ρ:=Bool) (bif r8 then ((bC c_1.Parts 1).bind fun e10=>(bN (e10,aD,aX)).bind fun r11=>some (.inr r11)) else (some (.inr false))) fun u9:Bool=>some u9) else ((bC c_1.Parts 0).bind fun e12=>(bN (e12,aD,aX)).bind fun r13=>bU (ρ:=Bool) (bif r13 then (some (.inr true)) else ((bC c_1.Parts 1).bind fun e15=>(bN (e15,aD,aX)).bind fun r16=>some (.inr r16))) fun u14:Bool=>some u14)))))
def kg (bN:(Condition×(List ac)×Int)→Option Bool)(x:Condition×(List ac)×Int):Option Bool:=qT bN x.1 x.2.1 x.2.2
def tR (c_1:Condition)(aD:List ac)(aX:Int):Option Bool:=aC kg (c_1,aD,aX)
theorem LI:∀x,Fin1 fun bN=>kg bN x:=by
 unfold kg qT
 repeat first|intro _|exact bm|exact ce|apply cm|apply bA|apply bB|apply bz|apply cn
theorem NO (c_1:Condition)(aD:List ac)(aX:Int):tR c_1 aD aX=qT (aC kg) c_1 aD aX:=cB LI (c_1,aD,aX)
def ki (a_1:Condition)(b_2:Condition)(r7:(List Int))(r10:(List ac))(r4:(List ac))(x8:Int)(self:Int→Option (Bool⊕Unit))(x11:Int):Option (Bool⊕Unit):=
 bif (decide (x11<(len r7))) then ((bC r7 x11).bind fun e12=>(tR a_1 r10 e12).bind fun r13=>cu (ρ:=Bool) (bif r13 then ((bC r7 x11).bind fun e15=>(tR b_2 r10 e15).bind fun r16=>some (.inr (!r16))) else (some (.inr false))) fun u14:Bool=>bif u14 then (some (.inl false)) else (self (aG (x11+1)))) else (some (.inr ()))
def pb (a_1:Condition)(b_2:Condition)(r7:(List Int))(r10:(List ac))(r4:(List ac))(x8:Int):Int→Option (Bool⊕Unit):=aC (ki a_1 b_2 r7 r10 r4 x8)
theorem wh (a_1:Condition)(b_2:Condition)(r7:(List Int))(r10:(List ac))(r4:(List ac))(x8:Int):∀a,Fin1 fun f=>ki a_1 b_2 r7 r10 r4 x8 f a:=by
 unfold ki
 repeat first|intro _|exact bm|exact ce|apply cm|apply bA|apply bB|apply bz|apply cn
theorem zy (a_1:Condition)(b_2:Condition)(r7:(List Int))(r10:(List ac))(r4:(List ac))(x8:Int)(x:Int):pb a_1 b_2 r7 r10 r4 x8 x=ki a_1 b_2 r7 r10 r4 x8 (pb a_1 b_2 r7 r10 r4 x8) x:=cB (wh a_1 b_2 r7 r10 r4 x8) x
def kh (a_1:Condition)(b_2:Condition)(r4:(List ac))(r7:(List Int))(self:Int→Option (Bool⊕Unit))(x8:Int):Option (Bool⊕Unit):=
 (yq .i64 1 (IntKind.u64.wrap (len r4))).bind fun q9=>bif (decide (x8<q9)) then ((xD r4 x8).bind fun r10=>cu (ρ:=Bool) (pb a_1 b_2 r7 r10 r4 x8 0) fun u17:Unit=>self (aG (x8+1))) else (some (.inr ()))
def pa (a_1:Condition)(b_2:Condition)(r4:(List ac))(r7:(List Int)):Int→Option (Bool⊕Unit):=aC (kh a_1 b_2 r4 r7)
theorem wg (a_1:Condition)(b_2:Condition)(r4:(List ac))(r7:(List Int)):∀a,Fin1 fun f=>kh a_1 b_2 r4 r7 f a:=by
 unfold kh
 repeat first|intro _|exact bm|exact ce|apply cm|apply bA|apply bB|apply bz|apply cn
theorem zx (a_1:Condition)(b_2:Condition)(r4:(List ac))(r7:(List Int))(x:Int):pa a_1 b_2 r4 r7 x=kh a_1 b_2 r4 r7 (pa a_1 b_2 r4 r7) x:=cB (wg a_1 b_2 r4 r7) x
def xw (a_1:Condition)(b_2:Condition):Option Bool:=
 (qt [] a_1).bind fun r3=>(qt r3 b_2).bind fun r4=>(BF [] a_1).bind fun r5=>(BF r5 b_2).bind fun r6=>(tH r6 0).bind fun r7=>bU (ρ:=Bool) (pa a_1 b_2 r4 r7 0) fun u18:Unit=>some true
def Fe (a_1:Condition)(b_2:Condition):Option (Bool×Bool):=
 (rS a_1).bind fun r3=>bU (ρ:=Bool×Bool) (bif (!r3) then (some (.inr true)) else ((rS b_2).bind fun r6=>cu (ρ:=Bool×Bool) (bif (!r6) then (some (.inr true)) else ((qt [] a_1).bind fun r8=>(qt r8 b_2).bind fun r9=>some (.inr (decide ((len r9)>10))))) fun u7:Bool=>some (.inr u7))) fun u4:Bool=>bif u4 then (some (false,false)) else ((xw a_1 b_2).bind fun r5=>some (r5,true))
def kA (aI:List Int)(n_2:Int):Option (List Int):=
 dC (bif (decide (n_2>(len aI))) then (len aI) else n_2) fun u3:Int=>(mO aI u3 (len aI)).bind fun s4=>(fa 1 ([]:List Int) s4).bind fun a5=>(fa 1 a5 [(IntKind.u8.wrap u3)]).bind fun a6=>some a6
def kc (c_2:l1Cur)(self:(Int×(List Int)×Int×Int×(List ac))→Option (((List ac)×l1Cur)⊕((List Int)×Int×Int×(List ac))))(x3:Int×(List Int)×Int×Int×(List ac)):Option (((List ac)×l1Cur)⊕((List Int)×Int×Int×(List ac))):=
 bif (decide (x3.1>0)) then (rO.bind fun r4=>(om (l1Cur.mk x3.2.1 x3.2.2.1 x3.2.2.2.1) r4).bind fun r5=>(rY x3.2.2.2.2 r5.1).bind fun r6=>self ((aG (x3.1 - 1)),r5.2.f_code,r5.2.f_at,r5.2.f_seed,r6)) else (some (.inr (x3.2.1,x3.2.2.1,x3.2.2.2.1,x3.2.2.2.2)))
def qM (c_2:l1Cur): (Int×(List Int)×Int×Int×(List ac))→Option (((List ac)×l1Cur)⊕((List Int)×Int×Int×(List ac))):=aC (kc c_2)
theorem v8 (c_2:l1Cur): ∀a,Fin1 fun f=>kc c_2 f a:=by
 unfold kc
 repeat first|intro _|exact bm|exact ce|apply cm|apply bA|apply bB|apply bz|apply cn
theorem yL (c_2:l1Cur)(x:Int×(List Int)×Int×Int×(List ac)):qM c_2 x=kc c_2 (qM c_2) x:=cB (v8 c_2) x
def xh (c_2:l1Cur):Option ((List ac)×l1Cur):=
 (gN c_2 4).bind fun r2=>bU (ρ:=(List ac)×l1Cur) (qM c_2 (r2.1,r2.2.f_code,r2.2.f_at,r2.2.f_seed,[])) fun u7:(List Int)×Int×Int×(List ac)=>some (u7.2.2.2,(l1Cur.mk u7.1 u7.2.1 u7.2.2.1))
def pj (dR:Int→Option ac)(n_1:Int):Option ac:=
 bif (decide (n_1<0)) then ((dR (aG (0 - n_1))).bind fun r2=>(uH ([45]:ac) r2).bind fun s3=>some s3) else (bif (decide (n_1<10)) then ((mO ([48,49,50,51,52,53,54,55,56,57]:ac) n_1 (aG (n_1+1))).bind fun s4=>some s4) else ((dR (aG (n_1.tdiv 10))).bind fun r5=>(mO ([48,49,50,51,52,53,54,55,56,57]:ac) (n_1.tmod 10) (aG ((n_1.tmod 10)+1))).bind fun s6=>(uH r5 s6).bind fun s7=>some s7))
def pk (dR:Int→Option ac)(x:Int):Option ac:=pj dR x
def EJ (n_1:Int):Option ac:=aC pk n_1
theorem Lv:∀x,Fin1 fun dR=>pk dR x:=by
 unfold pk pj
 repeat first|intro _|exact bm|exact ce|apply cm|apply bA|apply bB|apply bz|apply cn
theorem GR (n_1:Int):EJ n_1=pj (aC pk) n_1:=cB Lv n_1
def lT (c_2:l1Cur)(self:(Int×(List Int)×Int×Int×(List ac))→Option (((List ac)×l1Cur)⊕((List Int)×Int×Int×(List ac))))(x8:Int×(List Int)×Int×Int×(List ac)):Option (((List ac)×l1Cur)⊕((List Int)×Int×Int×(List ac))):=
 (gN (l1Cur.mk x8.2.1 x8.2.2.1 x8.2.2.2.1) 2).bind fun r9=>bif (decide ((len x8.2.2.2.2)<(aG (16+r9.1)))) then ((EJ x8.1).bind fun r10=>(uH ([120]:ac) r10).bind fun s11=>(rY x8.2.2.2.2 s11).bind fun r12=>self ((aG (x8.1+1)),r9.2.f_code,r9.2.f_at,r9.2.f_seed,r12)) else (some (.inr (r9.2.f_code,r9.2.f_at,r9.2.f_seed,x8.2.2.2.2)))
def o7 (c_2:l1Cur): (Int×(List Int)×Int×Int×(List ac))→Option (((List ac)×l1Cur)⊕((List Int)×Int×Int×(List ac))):=aC (lT c_2)
theorem v7 (c_2:l1Cur): ∀a,Fin1 fun f=>lT c_2 f a:=by
 unfold lT
 repeat first|intro _|exact bm|exact ce|apply cm|apply bA|apply bB|apply bz|apply cn
theorem HQ (c_2:l1Cur)(x:Int×(List Int)×Int×Int×(List ac)):o7 c_2 x=lT c_2 (o7 c_2) x:=cB (v7 c_2) x
def xb (c_2:l1Cur):Option ((List ac)×l1Cur):=
 (xh c_2).bind fun r2=>(gN r2.2 20).bind fun r3=>bU (ρ:=(List ac)×l1Cur) (bif (r3.1==0) then ((om r3.2 [([97]:ac),([122,122]:ac),([]:ac),([111,114]:ac)]).bind fun r5=>(fa 16 r2.1 [r5.1]).bind fun a6=>some (.inr (r5.2.f_code,r5.2.f_at,r5.2.f_seed,a6))) else (cu (ρ:=(List ac)×l1Cur) (bif (r3.1==1) then (cu (ρ:=(List ac)×l1Cur) (o7 c_2 (0,r3.2.f_code,r3.2.f_at,r3.2.f_seed,r2.1)) fun u13:(List Int)×Int×Int×(List ac)=>some (.inr (u13.1,u13.2.1,u13.2.2.1,u13.2.2.2))) else (some (.inr (r3.2.f_code,r3.2.f_at,r3.2.f_seed,r2.1)))) fun u7:(List Int)×Int×Int×(List ac)=>some (.inr (u7.1,u7.2.1,u7.2.2.1,u7.2.2.2)))) fun u4:(List Int)×Int×Int×(List ac)=>some (u4.2.2.2,(l1Cur.mk u4.1 u4.2.1 u4.2.2.1))
def Fc (aI:List Int):Option (Condition×(List ac)×Int):=
 (AK (l1Cur.mk aI 0 0)).bind fun r2=>(xb r2.2).bind fun r3=>(uu r3.2 [0,2,3,9,10,11,40,366,(-1),36524,36525]).bind fun r4=>some (r2.1,r3.1,r4.1)
def jf (aR:List ac)(self:Int→Option (Bool⊕Unit))(x2:Int):Option (Bool⊕Unit):=
 dC (bif (decide (x2<(len aR))) then (decide (x2≤16)) else false) fun u3:Bool=>bif u3 then ((bC aR x2).bind fun e4=>(tX e4).bind fun r5=>cu (ρ:=Bool) (bif (!r5) then (some (.inr true)) else (cu (ρ:=Bool) (bif (decide (x2>0)) then ((bC aR (aG (x2 - 1))).bind fun e8=>(bC aR x2).bind fun e9=>some (.inr (!(Op.bytesLess e8 e9)))) else (some (.inr false))) fun u7:Bool=>some (.inr u7))) fun u6:Bool=>bif u6 then (some (.inl false)) else (self (aG (x2+1)))) else (some (.inr ()))
def ix (aR:List ac): Int→Option (Bool⊕Unit):=aC (jf aR)
theorem wc (aR:List ac): ∀a,Fin1 fun f=>jf aR f a:=by
 unfold jf
 repeat first|intro _|exact bm|exact ce|apply cm|apply bA|apply bB|apply bz|apply cn
theorem rR (aR:List ac)(x:Int):ix aR x=jf aR (ix aR) x:=cB (wc aR) x
def xm (aR:List ac):Option Bool:=
 bU (ρ:=Bool) (ix aR 0) fun u10:Unit=>some (decide ((len aR)≤16))
def AH (c_1:Condition)(aD:List ac)(aX:Int):Option (Bool×Bool):=
 (rS c_1).bind fun r4=>bU (ρ:=Bool×Bool) (bif (!r4) then (some (.inr true)) else ((xm aD).bind fun r7=>cu (ρ:=Bool×Bool) (bif (!r7) then (some (.inr true)) else ((rM aX).bind fun r9=>some (.inr (!r9)))) fun u8:Bool=>some (.inr u8))) fun u5:Bool=>bif u5 then (some (false,false)) else ((tR c_1 aD aX).bind fun r6=>some (r6,true))
def lK (a_1:Condition)(b_2:Condition)(aQ:Bool)(r6:(List ac))(x10:Int)(r8:(List Int))(q9:Int)(self:(Int×(List ac))→Option ((Bool×Bool)⊕(List ac)))(x11:Int×(List ac)):Option ((Bool×Bool)⊕(List ac)):=
 bif (decide (x11.1<(len r6))) then ((bC r6 x11.1).bind fun e12=>(pT .i64 x10 x11.1).bind fun q13=>cu (ρ:=Bool×Bool) (bif ((lc .i64 q13 1)==1) then ((fa 16 x11.2 [e12]).bind fun a15=>some (.inr a15)) else (some (.inr x11.2))) fun u14:(List ac)=>self ((aG (x11.1+1)),u14)) else (some (.inr x11.2))
def ri (a_1:Condition)(b_2:Condition)(aQ:Bool)(r6:(List ac))(x10:Int)(r8:(List Int))(q9:Int):(Int×(List ac))→Option ((Bool×Bool)⊕(List ac)):=aC (lK a_1 b_2 aQ r6 x10 r8 q9)
theorem AB (a_1:Condition)(b_2:Condition)(aQ:Bool)(r6:(List ac))(x10:Int)(r8:(List Int))(q9:Int):∀a,Fin1 fun f=>lK a_1 b_2 aQ r6 x10 r8 q9 f a:=by
 unfold lK
 repeat first|intro _|exact bm|exact ce|apply cm|apply bA|apply bB|apply bz|apply cn
theorem CM (a_1:Condition)(b_2:Condition)(aQ:Bool)(r6:(List ac))(x10:Int)(r8:(List Int))(q9:Int)(x:Int×(List ac)):ri a_1 b_2 aQ r6 x10 r8 q9 x=lK a_1 b_2 aQ r6 x10 r8 q9 (ri a_1 b_2 aQ r6 x10 r8 q9) x:=cB (AB a_1 b_2 aQ r6 x10 r8 q9) x
def lL (a_1:Condition)(b_2:Condition)(aQ:Bool)(r8:(List Int))(u16:(List ac))(r6:(List ac))(q9:Int)(x10:Int)(self:Int→Option ((Bool×Bool)⊕Unit))(x17:Int):Option ((Bool×Bool)⊕Unit):=
 bif (decide (x17<(len r8))) then ((bC r8 x17).bind fun e18=>(wr a_1 u16 e18).bind fun r19=>cu (ρ:=Bool×Bool) (bif r19 then ((wr b_2 u16 e18).bind fun r21=>some (.inr (r21==aQ))) else (some (.inr false))) fun u20:Bool=>bif u20 then (some (.inl (true,true))) else (self (aG (x17+1)))) else (some (.inr ()))
def pz (a_1:Condition)(b_2:Condition)(aQ:Bool)(r8:(List Int))(u16:(List ac))(r6:(List ac))(q9:Int)(x10:Int):Int→Option ((Bool×Bool)⊕Unit):=aC (lL a_1 b_2 aQ r8 u16 r6 q9 x10)
theorem AC (a_1:Condition)(b_2:Condition)(aQ:Bool)(r8:(List Int))(u16:(List ac))(r6:(List ac))(q9:Int)(x10:Int):∀a,Fin1 fun f=>lL a_1 b_2 aQ r8 u16 r6 q9 x10 f a:=by
 unfold lL
 repeat first|intro _|exact bm|exact ce|apply cm|apply bA|apply bB|apply bz|apply cn
theorem CN (a_1:Condition)(b_2:Condition)(aQ:Bool)(r8:(List Int))(u16:(List ac))(r6:(List ac))(q9:Int)(x10:Int)(x:Int):pz a_1 b_2 aQ r8 u16 r6 q9 x10 x=lL a_1 b_2 aQ r8 u16 r6 q9 x10 (pz a_1 b_2 aQ r8 u16 r6 q9 x10) x:=cB (AC a_1 b_2 aQ r8 u16 r6 q9 x10) x
def lI (a_1:Condition)(b_2:Condition)(aQ:Bool)(q9:Int)(r6:(List ac))(r8:(List Int))(self:Int→Option ((Bool×Bool)⊕Unit))(x10:Int):Option ((Bool×Bool)⊕Unit):=
 bif (decide (x10<q9)) then (cu (ρ:=Bool×Bool) (ri a_1 b_2 aQ r6 x10 r8 q9 (0,[])) fun u16:(List ac)=>cu (ρ:=Bool×Bool) (pz a_1 b_2 aQ r8 u16 r6 q9 x10 0) fun u22:Unit=>self (aG (x10+1))) else (some (.inr ()))
def py (a_1:Condition)(b_2:Condition)(aQ:Bool)(q9:Int)(r6:(List ac))(r8:(List Int)):Int→Option ((Bool×Bool)⊕Unit):=aC (lI a_1 b_2 aQ q9 r6 r8)
theorem Az (a_1:Condition)(b_2:Condition)(aQ:Bool)(q9:Int)(r6:(List ac))(r8:(List Int)):∀a,Fin1 fun f=>lI a_1 b_2 aQ q9 r6 r8 f a:=by
 unfold lI
 repeat first|intro _|exact bm|exact ce|apply cm|apply bA|apply bB|apply bz|apply cn
theorem CL (a_1:Condition)(b_2:Condition)(aQ:Bool)(q9:Int)(r6:(List ac))(r8:(List Int))(x:Int):py a_1 b_2 aQ q9 r6 r8 x=lI a_1 b_2 aQ q9 r6 r8 (py a_1 b_2 aQ q9 r6 r8) x:=cB (Az a_1 b_2 aQ q9 r6 r8) x
def E6 (a_1:Condition)(b_2:Condition)(aQ:Bool):Option (Bool×Bool):=
 (CH a_1 []).bind fun r4=>(CH b_2 r4).bind fun r5=>(wt r5).bind fun r6=>bif (decide ((len r6)>10)) then (some (false,false)) else ((Ac a_1 [0]).bind fun r7=>(Ac b_2 r7).bind fun r8=>(yq .i64 1 (len r6)).bind fun q9=>bU (ρ:=Bool×Bool) (py a_1 b_2 aQ q9 r6 r8 0) fun u23:Unit=>some (false,true))
def EB (a_1:Condition)(b_2:Condition):Option (Bool×Bool):=
 (ul a_1).bind fun r3=>bU (ρ:=Bool×Bool) (bif (!r3) then (some (.inr true)) else ((ul b_2).bind fun r6=>some (.inr (!r6)))) fun u4:Bool=>bif u4 then (some (false,false)) else ((E6 a_1 b_2 true).bind fun r5=>some (r5.1,r5.2))
def lH (c_1:Condition)(cT:Int)(r3:(List Int))(self:(Int×Int)→Option (Int⊕Int))(x4:Int×Int):Option (Int⊕Int):=
 bif (decide (x4.2<(len r3))) then ((bC r3 x4.2).bind fun e5=>dC (bif (decide (e5>cT)) then (dC (bif (decide (x4.1<0)) then true else (decide (e5<x4.1))) fun u8:Bool=>u8) else false) fun u6:Bool=>dC (bif u6 then e5 else x4.1) fun u7:Int=>self (u7,(aG (x4.2+1)))) else (some (.inr x4.1))
def nT (c_1:Condition)(cT:Int)(r3:(List Int)):(Int×Int)→Option (Int⊕Int):=aC (lH c_1 cT r3)
theorem Aw (c_1:Condition)(cT:Int)(r3:(List Int)):∀a,Fin1 fun f=>lH c_1 cT r3 f a:=by
 unfold lH
 repeat first|intro _|exact bm|exact ce|apply cm|apply bA|apply bB|apply bz|apply cn
theorem CK (c_1:Condition)(cT:Int)(r3:(List Int))(x:Int×Int):nT c_1 cT r3 x=lH c_1 cT r3 (nT c_1 cT r3) x:=cB (Aw c_1 cT r3) x
def G2 (c_1:Condition)(cT:Int):Option Int:=
 (Ac c_1 []).bind fun r3=>bU (ρ:=Int) (nT c_1 cT r3 ((-1),0)) fun u9:Int=>some u9
def E0 (c_1:Condition)(cT:Int):Option (Int×Bool):=
 (ul c_1).bind fun r3=>bU (ρ:=Int×Bool) (bif (!r3) then (some (.inr true)) else ((oD cT).bind fun r6=>some (.inr (!r6)))) fun u4:Bool=>bif u4 then (some (0,false)) else ((G2 c_1 cT).bind fun r5=>some (r5,true))
def ft (aI:List Int):Option Bool:=
 (mb aI).bind fun r2=>bif r2 then (some true) else ((Fd aI).bind fun r3=>(EC r3.1 r3.2).bind fun r4=>(Fe r3.1 r3.2).bind fun r5=>bif (!(r4.2==r5.2)) then (some false) else ((kA aI 7).bind fun r6=>(Fc r6).bind fun r7=>(AH r3.1 r7.2.1 r7.2.2).bind fun r8=>(AH r3.2 r7.2.1 r7.2.2).bind fun r9=>dC (bif r4.2 then (dC (bif r4.1 then (dC (bif r8.2 then (dC (bif r9.2 then (dC (bif r8.1 then (!r9.1) else false) fun u27:Bool=>u27) else false) fun u26:Bool=>u26) else false) fun u25:Bool=>u25) else false) fun u24:Bool=>u24) else false) fun u10:Bool=>bif u10 then (some false) else ((EB r3.1 r3.2).bind fun r11=>dC (bif r11.2 then (dC (bif r8.2 then (dC (bif r9.2 then (dC (bif r8.1 then (dC (bif r9.1 then (!r11.1) else false) fun u23:Bool=>u23) else false) fun u22:Bool=>u22) else false) fun u21:Bool=>u21) else false) fun u20:Bool=>u20) else false) fun u12:Bool=>bif u12 then (some false) else ((E0 r3.1 r7.2.2).bind fun r13=>dC (bif (!r13.2) then true else (r13.1==0)) fun u14:Bool=>bif u14 then (some (r13.1==0)) else (dC (bif (decide (r13.1<0)) then (36524) else (aG (r13.1 - 1))) fun u15:Int=>(AH r3.1 r7.2.1 u15).bind fun r16=>dC (bif (!r8.2) then true else (dC (bif (!r16.2) then true else (dC (bif (decide (u15<r7.2.2)) then true else (r16.1==r8.1)) fun u19:Bool=>u19)) fun u18:Bool=>u18)) fun u17:Bool=>some u17)))))
end
end Go.Ln
