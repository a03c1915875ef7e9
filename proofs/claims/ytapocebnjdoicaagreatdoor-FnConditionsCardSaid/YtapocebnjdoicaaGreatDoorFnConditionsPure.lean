/-
  The plain law.
-/
import Derived.Test.YtapocebnjdoicaaGreatDoorFnConditionsLib
import Derived.Sort.AssemblyPlain
import Derived.Sort.LotD4
import Derived.Sort.LotD5
set_option linter.unusedVariables false
set_option linter.unusedSimpArgs false
set_option maxRecDepth 100000
namespace Go.Ln
open Go
theorem QG {n:Nat}(h:n<18446744073709551616):IntKind.u64.wrap (n:Int)=(n:Int):=by
 show (n:Int) % 18446744073709551616=n
 omega
def ge (c:l1Cur)(n:Nat):Prop:=Gv (Gu .u8) c.f_code∧0≤c.f_at∧c.f_at≤n
theorem dP {c:l1Cur}{n m:Nat}(h:ge c n)(hm:n≤m):ge c m:=⟨h.1,h.2.1,by have:=h.2.2;omega⟩
theorem Je {x:Int}(h:Gu .u8 x):0≤x∧x≤255:=by
 have e1:IntKind.u8.min=0:=by decide
 have e2:IntKind.u8.max=255:=by decide
 unfold Gu at h
 rw[e1,e2] at h
 exact h
theorem RX (x:Int):0≤CF .u64 x 255∧CF .u64 x 255≤255:=by
 unfold CF
 have h:(BitVec.ofInt (IntKind.bits .u64) x &&& BitVec.ofInt (IntKind.bits .u64) 255).toNat≤255:=by
  rw[BitVec.toNat_and]
  exact Nat.le_trans Nat.and_le_right (by decide)
 rw[QG (by omega)]
 omega
theorem H0 (c:l1Cur)(n:Nat)(h:ge c n)(hn:n≤1000000):∃x c',tK c=some (x,c')∧0≤x∧x≤255∧ge c' (n+1):=by
 obtain⟨hc,h0,h1⟩:=h
 have hw:aF (c.f_at+1)=c.f_at+1:=eI (by omega) (by omega)
 have hok:∀s,ge (l1Cur.mk c.f_code (c.f_at+1) s) (n+1):=fun s=>⟨hc,by show 0≤c.f_at+1;omega,by show c.f_at+1≤((n+1:Nat):Int);omega⟩
 unfold tK
 simp only[hw]
 obtain⟨u,hu,hu0,hu1⟩:∃u,(bif (decide (c.f_at<(len c.f_code))) then ((bf c.f_code c.f_at).bind fun e3=>some (Sum.inr (α:=Int×l1Cur) (IntKind.i64.wrap e3))) else (some (.inr 0)))=some (.inr u)∧0≤u∧u≤255:=by
  by_cases hq:c.f_at<len c.f_code
  ·rw[decide_eq_true hq,cond_true]
   obtain⟨k,hk⟩:∃k:Nat,c.f_at=k:=⟨c.f_at.toNat,by omega⟩
   rw[hk] at hq ⊢
   have hlt:k<c.f_code.length:=by simp only[len] at hq;omega
   have hb:=Je (hc.2 _ (List.getElem_mem hlt))
   rw[ed,List.getElem?_eq_getElem hlt,Option.bind_some]
   exact⟨_,rfl,by rw[show IntKind.i64.wrap c.f_code[k]=c.f_code[k] from eI (by omega) (by omega)];omega,by rw[show IntKind.i64.wrap c.f_code[k]=c.f_code[k] from eI (by omega) (by omega)];omega⟩
  ·rw[decide_eq_false hq,cond_false]
   exact⟨0,rfl,by decide,by decide⟩
 rw[hu,bN]
 cases decide (c.f_at+1≤len c.f_code) with
 | true=>exact⟨_,_,rfl,hu0,hu1,hok _⟩
 | false=>
  have ha:=RX (JF .u64 (IntKind.u64.wrap ((IntKind.u64.wrap ((IntKind.u64.wrap (c.f_seed*6364136223846793005))+(IntKind.u64.wrap u)))+902902)) 40)
  refine⟨_,_,rfl,?_,?_,hok _⟩
  ·rw[show IntKind.i64.wrap _=_ from eI (by omega) (by omega)];exact ha.1
  ·rw[show IntKind.i64.wrap _=_ from eI (by omega) (by omega)];exact ha.2
theorem gy (c:l1Cur)(n:Nat)(k:Int)(h:ge c n)(hn:n≤900000)(hk:k≤1000000):∃x c',hZ c k=some (x,c')∧0≤x∧(x<k∨x=0)∧ge c' (n+2):=by
 unfold hZ
 by_cases h1:k≤1
 ·rw[decide_eq_true h1,cond_true]
  exact⟨0,c,rfl,by decide,.inr rfl,dP h (by omega)⟩
 rw[decide_eq_false h1,cond_false]
 obtain⟨x,c1,e1,x0,x1,ok1⟩:=H0 c n h (by omega)
 rw[e1,Option.bind_some]
 have fin:∀y:Int,0≤y→∃q,GI y k=some q∧0≤q∧q<k:=by
  intro y hy
  unfold GI
  rw[if_neg (by omega)]
  exact⟨_,rfl,Int.tmod_nonneg _ hy,Int.tmod_lt_of_pos _ (by omega)⟩
 by_cases h2:k>200
 ·obtain⟨x2,c2,e2,y0,y1,ok2⟩:=H0 c1 (n+1) ok1 (by omega)
  simp only[decide_eq_true h2,cond_true,e2,Option.bind_some,bN]
  rw[show aF (x*256)=x*256 from eI (by omega) (by omega),show aF (x*256+x2)=x*256+x2 from eI (by omega) (by omega)]
  obtain⟨q,f1,f2,f3⟩:=fin (x*256+x2) (by omega)
  rw[f1,Option.bind_some]
  exact⟨q,_,rfl,f2,.inl f3,ok2⟩
 ·simp only[decide_eq_false h2,cond_false,bN]
  obtain⟨q,f1,f2,f3⟩:=fin x x0
  rw[f1,Option.bind_some]
  exact⟨q,_,rfl,f2,.inl f3,dP ok1 (by omega)⟩
theorem sk (c:l1Cur)(n:Nat)(l:List Int)(h:ge c n)(hn:n≤900000)(hl:1≤l.length)(hl2:l.length≤1000):∃x c',pk c l=some (x,c')∧x∈l∧ge c' (n+2):=by
 unfold pk
 obtain⟨x,c1,e1,x0,x1,ok1⟩:=gy c n (len l) h hn (by simp only[len];omega)
 obtain⟨k,hk⟩:∃k:Nat,x=k:=⟨x.toNat,by omega⟩
 subst hk
 have hlt:k<l.length:=by simp only[len] at x1;omega
 rw[e1,Option.bind_some,ed,List.getElem?_eq_getElem hlt,Option.bind_some]
 exact⟨_,_,rfl,List.getElem_mem hlt,ok1⟩
theorem Ou {code:List Int}(h:Gv (Gu .u8) code):ge (l1Cur.mk code 0 0) 0:=⟨h,by show (0:Int)≤0;omega,by show (0:Int)≤((0:Nat):Int);omega⟩
theorem E2 (c:l1Cur)(n:Nat)(l:List ae)(h:ge c n)(hn:n≤900000)(hl:1≤l.length)(hl2:l.length≤1000):∃x c',ou c l=some (x,c')∧x∈l∧ge c' (n+2):=by
 unfold ou
 obtain⟨x,c1,e1,x0,x1,ok1⟩:=gy c n (len l) h hn (by simp only[len];omega)
 obtain⟨k,hk⟩:∃k:Nat,x=k:=⟨x.toNat,by omega⟩
 subst hk
 have hlt:k<l.length:=by simp only[len] at x1;omega
 rw[e1,Option.bind_some,ed,List.getElem?_eq_getElem hlt,Option.bind_some]
 exact⟨_,_,rfl,List.getElem_mem hlt,ok1⟩
theorem Gw (c:l1Cur)(n:Nat)(k:Int)(h:ge c n)(hn:n≤900000)(hk:k≤1000000):∃x c',pn c k=some (x,c')∧ge c' (n+2):=by
 unfold pn
 obtain⟨x,c1,e1,_,_,k1⟩:=gy c n k h hn hk
 rw[e1,Option.bind_some]
 exact⟨_,_,rfl,k1⟩
theorem R9 (c:l1Cur)(n:Nat)(h:ge c n)(hn:n≤800000):∃x c',xz c=some (x,c')∧ge c' (n+4):=by
 unfold xz
 obtain⟨x,c1,e1,_,_,k1⟩:=gy c n 6 h (by omega) (by decide)
 rw[e1,Option.bind_some]
 simp only[]
 cases x==0
 ·cases x==1
  ·obtain⟨y,c2,e2,_,_,k2⟩:=gy c1 (n+2) 1500 k1 (by omega) (by decide)
   simp only[cond_false,e2,Option.bind_some]
   exact⟨_,_,rfl,k2⟩
  ·obtain⟨y,c2,e2,_,_,k2⟩:=gy c1 (n+2) 36525 k1 (by omega) (by decide)
   simp only[cond_false,cond_true,e2,Option.bind_some]
   exact⟨_,_,rfl,k2⟩
 ·obtain⟨y,c2,e2,_,k2⟩:=sk c1 (n+2) [0,59,60,365,366,424,425,36524,36523,30,31] k1 (by omega) (by decide) (by decide)
  simp only[cond_true,e2,Option.bind_some]
  exact⟨_,_,rfl,k2⟩
theorem Ls (c:l1Cur)(n:Nat)(h:ge c n)(hn:n≤700000):∃x c',xq c=some (x,c')∧ge c' (n+6):=by
 unfold xq
 obtain⟨x,c1,e1,k1⟩:=Gw c n 16 h (by omega) (by decide)
 rw[e1,Option.bind_some]
 cases x
 ·obtain⟨y,c2,e2,k2⟩:=R9 c1 (n+2) k1 (by omega)
  simp only[cond_false,e2,Option.bind_some]
  exact⟨_,_,rfl,dP k2 (by omega)⟩
 ·obtain⟨y,c2,e2,_,k2⟩:=sk c1 (n+2) [(-1),36524,36525,1099511627776] k1 (by omega) (by decide) (by decide)
  simp only[cond_true,e2,Option.bind_some]
  exact⟨_,_,rfl,dP k2 (by omega)⟩
def qx (y:Int):Int:=if y % 4=0 then 1 else 0
def mH (y m:Int):Int:=if m=2 then 28+qx y else if m=4∨m=6∨m=9∨m=11 then 30 else 31
def m0 (y:Int):Nat→Int
 | 0=>0
 | k+1=>m0 y k+mH y ((k+1:Nat):Int)
def y0 (y:Int):Int:=365*(y - 2000)+(y - 2000+3) / 4
theorem ry (y:Int):0≤qx y∧qx y≤1:=by unfold qx;split<;>omega
theorem mi (y m:Int):28≤mH y m∧mH y m≤31:=by
 have:=ry y
 unfold mH
 split
 ·omega
 ·split<;>omega
theorem BL (y:Int):∀k:Nat,28*(k:Int)≤m0 y k∧m0 y k≤31*(k:Int)
 | 0=>by simp[m0]
 | k+1=>by
  have:=BL y k
  have:=mi y ((k+1:Nat):Int)
  simp only[m0]
  omega
theorem Qm (y : Int){a b : Nat}(h : a ≤ b) : m0 y a ≤ m0 y b:=by
  induction b with
  | zero => have : a = 0 := by omega
            subst this; exact Int.le_refl _
  | succ b ih =>
    by_cases e : a=b + 1
    · subst e; exact Int.le_refl _
    · have:=ih (by omega)
      have:=mi y ((b + 1 : Nat) : Int)
      simp only [m0]
      omega
theorem O9 (y:Int):m0 y 12=365+qx y:=by simp[m0,mH];omega
theorem rJ (y:Int):y0 (y+1)=y0 y+365+qx y:=by unfold y0 qx;split<;>omega
theorem Tj {y:Int}(hy:0≤y):y.tmod 4=y % 4:=Int.tmod_eq_emod_of_nonneg hy
theorem rH:y0 2000=0:=by unfold y0;omega
def mn (day Y:Int)(M:Nat)(D:Int):Prop:=2000≤Y∧Y≤2099∧M≤11∧1≤D∧D≤mH Y ((M+1:Nat):Int)∧day=y0 Y+m0 Y M+D - 1
theorem mn.b {day Y:Int}{M:Nat}{D:Int}(h:mn day Y M D):y0 Y≤day∧day<y0 (Y+1)∧m0 Y M≤day - y0 Y∧day - y0 Y<m0 Y (M+1):=by
 obtain⟨h1,h2,h3,h4,h5,h6⟩:=h
 have he:m0 Y (M+1)=m0 Y M+mH Y ((M+1:Nat):Int):=rfl
 have hm:=Qm Y (show M+1≤12 by omega)
 have h12:=O9 Y
 have hs:=rJ Y
 have hk:=BL Y M
 omega
theorem mn.range {day Y:Int}{M:Nat}{D:Int}(h:mn day Y M D):0≤day∧day≤36524:=by
 have b:=h.b
 have hb:0≤y0 Y∧y0 (Y+1)≤36525:=by have h1:=h.1;have h2:=h.2.1;unfold y0;omega
 omega
theorem pL (y m:Int)(hy:0≤y):ut y m=some (mH y m):=by
 simp only[ut,ef,Tj hy,mH,qx]
 by_cases e:m=2
 ·subst e
  by_cases f:y % 4=0
  ·simp[f]
  ·simp[f,beq_eq_false_iff_ne.2 f]
 by_cases a:m=4
 ·subst a;rfl
 by_cases b:m=6
 ·subst b;rfl
 by_cases c:m=9
 ·subst c;rfl
 by_cases d:m=11
 ·subst d;rfl
 ·simp[a,b,c,d,e,beq_eq_false_iff_ne.2 a,beq_eq_false_iff_ne.2 b,beq_eq_false_iff_ne.2 c,beq_eq_false_iff_ne.2 d,beq_eq_false_iff_ne.2 e]
theorem uX (y:Int)(hy:0≤y):A6 y=some (365+qx y):=by
 have:=ry y
 unfold A6
 rw[pL _ _ hy]
 simp only[Option.bind_some,mH,if_true]
 rw[eI (by omega) (by omega)]
 congr 1
 omega
theorem LR (day:Int)(hd:0≤day)(hd2:day≤36524):∀(n:Nat) (x:Int),x+n=2099→2000≤x→y0 x≤day→∃Y,um day (day - y0 x,x)=some (.inr (day - y0 Y,Y))∧2000≤Y∧Y≤2099∧y0 Y≤day∧day<y0 (Y+1):=by
 intro n
 induction n with
 | zero=>
  intro x hn h0 hx
  rw[Di,lS]
  have hl:=ry x
  have hs:=rJ x
  have:x=2099:=by omega
  have h9:day<y0 (x+1):=by subst this;unfold y0;omega
  simp only[uX x (by omega),Option.bind_some]
  rw[decide_eq_false (by omega),cond_false]
  exact⟨x,rfl,h0,by omega,hx,h9⟩
 | succ n ih=>
  intro x hn h0 hx
  rw[Di,lS]
  have hl:=ry x
  have hs:=rJ x
  have hb:0≤y0 x:=by unfold y0;omega
  simp only[uX x (by omega),Option.bind_some]
  by_cases h:y0 (x+1)≤day
  ·rw[decide_eq_true (by omega),cond_true,eI (by omega) (by omega),eI (by omega) (by omega),show day - y0 x - (365+qx x)=day - y0 (x+1) by omega]
   exact ih (x+1) (by omega) (by omega) h
  ·rw[decide_eq_false (by omega),cond_false]
   exact⟨x,rfl,h0,by omega,hx,by omega⟩
theorem Ju (day Y r:Int)(hd:0≤day)(hd2:day≤36524)(hY:2000≤Y)(hY2:Y≤2099)(hy0:y0 Y≤day)(hy:day<y0 (Y+1)):∀(n k:Nat),k+n=11→y0 Y+m0 Y k≤day→∃M:Nat,un day (r,Y) (day - y0 Y - m0 Y k,((k+1:Nat):Int))=some (.inr (day - y0 Y - m0 Y M,((M+1:Nat):Int)))∧M≤11∧y0 Y+m0 Y M≤day∧day<y0 Y+m0 Y (M+1):=by
 intro n
 have hb:0≤y0 Y:=by unfold y0;omega
 induction n with
 | zero=>
  intro k hn hx
  obtain rfl:k=11:=by omega
  have h12:=O9 Y
  rw[rJ] at hy
  have he:m0 Y 12=m0 Y 11+mH Y ((11+1:Nat):Int):=rfl
  rw[Dj,lT]
  simp only[pL Y _ (show 0≤Y by omega),Option.bind_some]
  rw[decide_eq_false (by omega),cond_false]
  exact⟨11,rfl,by omega,hx,show day<y0 Y+m0 Y 12 by omega⟩
 | succ n ih=>
  intro k hn hx
  have he:m0 Y (k+1)=m0 Y k+mH Y ((k+1:Nat):Int):=rfl
  have hk:=BL Y k
  have hl:=mi Y ((k+1:Nat):Int)
  rw[Dj,lT]
  simp only[pL Y _ (show 0≤Y by omega),Option.bind_some]
  by_cases h:y0 Y+m0 Y (k+1)≤day
  ·rw[decide_eq_true (by omega),cond_true,eI (by omega) (by omega),ek (by omega),show day - y0 Y - m0 Y k - mH Y ((k+1:Nat):Int)=day - y0 Y - m0 Y (k+1) by omega]
   exact ih (k+1) (by omega) h
  ·rw[decide_eq_false (by omega),cond_false]
   exact⟨k,rfl,by omega,hx,by omega⟩
theorem Js (day:Int)(hd:0≤day)(hd2:day≤36524):∃(Y:Int) (M:Nat) (D:Int),AV day=some ⟨Y,((M+1:Nat):Int),D⟩∧mn day Y M D:=by
 obtain⟨Y,g1,g2,g3,g4,g5⟩:=LR day hd hd2 99 2000 (by omega) (by omega) (by rw[rH];exact hd)
 obtain⟨M,k1,k2,k3,k4⟩:=Ju day Y (day - y0 Y) hd hd2 g2 g3 g4 g5 11 0 (by omega) (by simp only[m0];omega)
 have hk:=BL Y M
 have hb:0≤y0 Y:=by unfold y0;omega
 have he:m0 Y (M+1)=m0 Y M+mH Y ((M+1:Nat):Int):=rfl
 rw[rH,Int.sub_zero] at g1
 simp only[m0,Int.sub_zero] at k1
 refine⟨Y,M,day - y0 Y - m0 Y M+1,?_,g2,g3,k2,by omega,by omega,by omega⟩
 unfold AV
 rw[g1]
 simp only[bN]
 rw[show (1:Int)=((0+1:Nat):Int) by rfl,k1]
 simp only[bN]
 rw[eI (by omega) (by omega)]
theorem gZ {a b:ae}(h:a.length+b.length≤9223372036854775807):ew a b=some (a++b):=by unfold ew;rw[if_pos h]
theorem Hh (n:Nat)(h:n<10000000000000000000):Lib.nDigits n≤20:=by
 have:=Lib.nDigits_le20 n (by omega)
 exact this
theorem HG (n:Nat)(h:n<10000000000000000000):(Lib.decDigits n).length≤20:=by
 rw[Lib.decDigits_length]
 exact Hh n h
theorem Gi (n:Nat)(h:n<1000000000000000000):tc (n:Int)=some (Lib.decDigits n):=by
 unfold tc
 rw[show Gd (n:Int)=true by simp only[Gd,Bool.and_eq_true,decide_eq_true_eq];omega,cond_true,Lib.itoa_nonneg]
def lD (n:Nat):ae:=if n<10 then 48::Lib.decDigits n else Lib.decDigits n
theorem Io (n:Nat)(h:n<1000000000000000000):(lD n).length≤21:=by
 have:=HG n (by omega)
 unfold lD
 split
 ·simp only[List.length_cons];omega
 ·omega
theorem yz (n d:Int)(s:ae)(h:d≤(s.length:Int)):uw n d s=some (.inr s):=by
 rw[Ds,lX]
 rw[decide_eq_false (by simp only[len];omega),cond_false]
theorem Gg (n:Nat)(h:n<100):uu (n:Int) 2=some (lD n):=by
 unfold uu lD
 rw[Gi n (by omega),Option.bind_some]
 by_cases h1:n<10
 ·have hl:(Lib.decDigits n).length=1:=by rw[Lib.decDigits_length,Lib.nDigits_small h1]
  rw[Ds,lX]
  rw[decide_eq_true (by simp only[len];omega),cond_true,gZ (by simp only[List.length_singleton];omega),Option.bind_some,yz _ _ _ (by simp only[List.singleton_append,List.length_cons];omega),if_pos h1]
  rfl
 ·have hl:(Lib.decDigits n).length=2:=by rw[Lib.decDigits_length];exact Lib.nDigits_unique 1 n (by omega) (by omega)
  rw[yz _ _ _ (by omega),if_neg h1]
  rfl
theorem LO (n:Nat)(h:1000≤n)(h2:n<10000):uu (n:Int) 4=some (Lib.decDigits n):=by
 unfold uu
 rw[Gi n (by omega),Option.bind_some]
 have hl:(Lib.decDigits n).length=4:=by rw[Lib.decDigits_length];exact Lib.nDigits_unique 3 n (by omega) (by omega)
 rw[yz _ _ _ (by omega)]
 rfl
theorem FE (d:Date)(hy:d.Year≤2100):∀(n:Nat) (x acc:Int),x+n=d.Year→2000≤x→0≤acc→acc+366*(n:Int)≤1000000→uo d (acc,x)=some (.inr (acc+y0 d.Year - y0 x))
 | 0,x,acc,hn,h0,ha,hb=>by
  rw[Dl,lU]
  rw[decide_eq_false (by omega),cond_false]
  rw[show x=d.Year by omega]
  congr 2
  omega
 | n+1,x,acc,hn,h0,ha,hb=>by
  have hl:=ry x
  have hs:=rJ x
  rw[Dl,lU]
  rw[decide_eq_true (by omega),cond_true]
  simp only[uX x (by omega),Option.bind_some]
  rw[eI (by omega) (by omega),eI (by omega) (by omega),FE d hy n (x+1) _ (by omega) (by omega) (by omega) (by omega)]
  congr 2
  omega
theorem Dn (d:Date)(hy:0≤d.Year):∀(n k:Nat) (acc:Int),((k+1+n:Nat):Int)=d.Month→d.Month≤13→0≤acc→acc+31*(n:Int)≤1000000→uq d (acc,((k+1:Nat):Int))=some (.inr (acc+m0 d.Year (k+n) - m0 d.Year k))
 | 0,k,acc,hm,h13,ha,hb=>by
  rw[Dm,lV]
  rw[decide_eq_false (by omega),cond_false]
  simp only[Nat.add_zero]
  congr 2
  omega
 | n+1,k,acc,hm,h13,ha,hb=>by
  have hl:=mi d.Year ((k+1:Nat):Int)
  rw[Dm,lV]
  rw[decide_eq_true (by omega),cond_true]
  simp only[pL _ _ hy,Option.bind_some]
  rw[eI (by omega) (by omega),ek (by omega)]
  rw[Dn d hy n (k+1) _ (by omega) h13 (by omega) (by omega)]
  rw[show k+(n+1)=k+1+n by omega]
  congr 2
  simp only[m0]
  omega
theorem RQ {day Y:Int}{M:Nat}{D:Int}(h:mn day Y M D):Dk ⟨Y,((M+1:Nat):Int),D⟩=some day:=by
 obtain⟨h1,h2,h3,h4,h5,h6⟩:=h
 have hk:=BL Y M
 have hm:=mi Y ((M+1:Nat):Int)
 have hb:0≤y0 Y∧y0 Y≤40000:=by unfold y0;omega
 unfold Dk
 simp only
 rw[eI (by omega) (by omega)]
 obtain⟨n,hn⟩:∃n:Nat,(2000:Int)+n=Y:=⟨(Y - 2000).toNat,by omega⟩
 rw[FE ⟨Y,((M+1:Nat):Int),D⟩ (by simp only;omega) n 2000 _ hn (by omega) (by omega) (by omega)]
 simp only[bN]
 rw[show (1:Int)=((0+1:Nat):Int) by rfl,Dn ⟨Y,((M+1:Nat):Int),D⟩ (by simp only;omega) M 0 _ (by simp only;omega) (by simp only;omega) (by rw[rH];omega) (by rw[rH];omega)]
 simp only[bN,Nat.zero_add,m0,rH]
 congr 1
 omega
theorem vo {x a b:Int}(h1:a≤x)(h2:x≤b):ln x a b=some true:=by
 unfold ln
 rw[decide_eq_true (by omega),cond_true,ef,decide_eq_true h2]
theorem CL {day Y:Int}{M:Nat}{D:Int}(h:mn day Y M D):Fw ⟨Y,((M+1:Nat):Int),D⟩=some true:=by
 obtain⟨h1,h2,h3,h4,h5,h6⟩:=h
 unfold Fw
 simp only[vo h1 h2,Option.bind_some,cond_true,pL Y _ (show 0≤Y by omega),vo h4 h5,vo (show (1:Int)≤((M+1:Nat):Int) by omega) (show ((M+1:Nat):Int)≤12 by omega)]
 rfl
def jC (y M d:Nat):ae:=Lib.decDigits y++[45]++lD (M+1)++[45]++lD d
theorem wF {day:Int}{y M d:Nat}(h:mn day y M d)(he:AV day=some ⟨y,((M+1:Nat):Int),d⟩):AY day=some (jC y M d):=by
 obtain⟨h1,h2,h3,h4,h5,h6⟩:=h
 have hm:=mi y ((M+1:Nat):Int)
 have l1:=HG y (by omega)
 have l2:=Io (M+1) (by omega)
 have l3:=Io d (by omega)
 unfold AY jC
 rw[he,Option.bind_some]
 simp only
 rw[LO y (by omega) (by omega),Gg (M+1) (by omega),Gg d (by omega)]
 simp only[Option.bind_some]
 rw[gZ (by simp only[List.length_singleton];omega),Option.bind_some,gZ (by simp only[List.length_append,List.length_singleton];omega),Option.bind_some,gZ (by simp only[List.length_append,List.length_singleton];omega),Option.bind_some,gZ (by simp only[List.length_append,List.length_singleton];omega)]
 rfl
theorem FZ {k:Nat}(h:k<10):(UInt8.ofNat (48+k)).toNat=48+k:=by
 rw[UInt8.toNat_ofNat_of_lt' (by show 48+k<256;omega)]
theorem wx:∀(a b:ae) (acc:Nat),Lib.decFrom acc (a++b)=(Lib.decFrom acc a).bind fun n=>Lib.decFrom n b
 | [],b,acc=>rfl
 | x::a,b,acc=>by
  simp only[List.cons_append,Lib.decFrom]
  cases Lib.digitVal x with
  | none=>rfl
  | some d=>exact wx a b _
theorem uO {k:Nat}(h:k<10):Lib.digitVal (UInt8.ofNat (48+k))=some k:=by
 unfold Lib.digitVal
 rw[FZ h,if_pos (by omega)]
 congr 1
 omega
theorem qu (n:Nat):Lib.decFrom 0 (Lib.decDigits n)=some n:=by
 induction n using Nat.strongRecOn with
 | _ n ih=>
  rw[Lib.decDigits]
  by_cases h:n<10
  ·rw[dif_pos h]
   simp only[Lib.decFrom,uO h]
   congr 1
   omega
  ·rw[dif_neg h,wx,ih (n / 10) (by omega),Option.bind_some]
   simp only[Lib.decFrom,uO (show n % 10<10 by omega)]
   congr 1
   omega
theorem uM (n:Nat):∀b∈Lib.decDigits n,48≤b.toNat∧b.toNat≤57:=by
 induction n using Nat.strongRecOn with
 | _ n ih=>
  intro b hb
  rw[Lib.decDigits] at hb
  by_cases h:n<10
  ·rw[dif_pos h,List.mem_singleton] at hb
   rw[hb,FZ h]
   omega
  ·rw[dif_neg h,List.mem_append,List.mem_singleton] at hb
   rcases hb with hb | hb
   ·exact ih (n / 10) (by omega) b hb
   ·rw[hb,FZ (show n % 10<10 by omega)]
    omega
theorem Sa (n:Nat):Lib.decDigits n≠[]:=by
 intro h
 have:=Lib.decDigits_length n
 rw[h] at this
 have h2:=Lib.nDigits_pos n
 simp at this
 omega
theorem Dv {l:ae}{n:Nat}(h0:l≠[])(hd:∀b∈l,48≤b.toNat∧b.toNat≤57)(hl:l.length≤18)(hn:Lib.decFrom 0 l=some n):mQ l=some ((n:Int),()):=by
 unfold mQ
 rw[show Nat.ble l.length 18=true from Nat.ble_eq_true_of_le hl,cond_true]
 match l,h0 with
 | b::r,_=>
  have hb:=hd b (by simp)
  have e1:(b==45)=false:=by
   rw[beq_eq_false_iff_ne]
   intro e;rw[e] at hb;have:(45:UInt8).toNat=45:=rfl;omega
  have e2:(b==43)=false:=by
   rw[beq_eq_false_iff_ne]
   intro e;rw[e] at hb;have:(43:UInt8).toNat=43:=rfl;omega
  simp only[Lib.atoi,e1,e2,Bool.false_eq_true,if_false,Lib.decNat,List.isEmpty_cons,hn]
  rfl
theorem NG (n:Nat)(h:(Lib.decDigits n).length≤18):mQ (Lib.decDigits n)=some ((n:Int),()):=Dv (Sa n) (uM n) h (qu n)
theorem Ms (n:Nat):∀b∈lD n,48≤b.toNat∧b.toNat≤57:=by
 intro b hb
 unfold lD at hb
 split at hb
 ·rcases List.mem_cons.1 hb with rfl | hb
  ·exact⟨by decide,by decide⟩
  ·exact uM n b hb
 ·exact uM n b hb
theorem pT (n:Nat)(h:n<100):(lD n).length=2:=by
 unfold lD
 split
 ·rename_i h1
  rw[List.length_cons,Lib.decDigits_length,Lib.nDigits_small h1]
 ·rw[Lib.decDigits_length];exact Lib.nDigits_unique 1 n (by omega) (by omega)
theorem FU (n:Nat)(h:n<100):mQ (lD n)=some ((n:Int),()):=by
 have h2:=pT n h
 refine Dv (fun e=>by rw[e] at h2;cases h2) (Ms n) (by omega) ?_
 unfold lD
 split
 ·have e:Lib.digitVal 48=some 0:=by decide
  simp only[Lib.decFrom,e]
  exact qu n
 ·exact qu n
theorem DA {y M d:Nat}(h1:1000≤y)(h2:y<10000)(h3:M≤11)(h4:d<100):(Lib.decDigits y).length=4∧(jC y M d).length=10:=by
 have e1:(Lib.decDigits y).length=4:=by rw[Lib.decDigits_length];exact Lib.nDigits_unique 3 y (by omega) (by omega)
 have e2:=pT (M+1) (by omega)
 have e3:=pT d h4
 exact⟨e1,by unfold jC;simp only[List.length_append,List.length_singleton,e1,e2,e3]⟩
theorem iZ {α:Type}{l:List α}{a b:Nat}(h1:a≤b)(h2:b≤l.length):fy l (a:Int) (b:Int)=some ((l.drop a).take (b - a)):=by
 unfold fy
 rw[if_pos (by omega)]
 simp
theorem Oe {day:Int}{y M d:Nat}(h:mn day y M d)(he:AV day=some ⟨y,((M+1:Nat):Int),d⟩):Fz (jC y M d)=some (day,true):=by
 have h0:=h
 obtain⟨h1,h2,h3,h4,h5,h6⟩:=h0
 have hm:=mi y ((M+1:Nat):Int)
 obtain⟨e1,e2⟩:=DA (y:=y) (M:=M) (d:=d) (by omega) (by omega) h3 (by omega)
 have l1:=pT (M+1) (by omega)
 have l2:=pT d (by omega)
 have s1:fy (jC y M d) 0 4=some (Lib.decDigits y):=by
  rw[show (0:Int)=((0:Nat):Int) by rfl,show (4:Int)=((4:Nat):Int) by rfl,iZ (by omega) (by omega)]
  unfold jC
  simp only[List.append_assoc,List.drop_zero]
  rw[List.take_append_of_le_length (by omega),List.take_of_length_le (by omega)]
 have s2:fy (jC y M d) 5 7=some (lD (M+1)):=by
  rw[show (5:Int)=((5:Nat):Int) by rfl,show (7:Int)=((7:Nat):Int) by rfl,iZ (by omega) (by omega)]
  unfold jC
  rw[show Lib.decDigits y++[45]++lD (M+1)++[45]++lD d=(Lib.decDigits y++[45])++(lD (M+1)++([45]++lD d)) by simp,List.drop_append_of_le_length (by simp only[List.length_append,List.length_singleton];omega),List.drop_of_length_le (by simp only[List.length_append,List.length_singleton];omega),List.nil_append,List.take_append_of_le_length (by omega),List.take_of_length_le (by omega)]
 have s3:fy (jC y M d) 8 (len (jC y M d))=some (lD d):=by
  rw[show (8:Int)=((8:Nat):Int) by rfl]
  rw[iZ (l:=jC y M d) (by omega) (by omega)]
  rw[e2]
  unfold jC
  rw[List.drop_append_of_le_length (by simp only[List.length_append,List.length_singleton];omega),List.drop_of_length_le (by simp only[List.length_append,List.length_singleton];omega),List.nil_append,List.take_of_length_le (by omega)]
 unfold Fz
 rw[show ((len (jC y M d)) != 10)=false by simp only[len,e2];rfl,cond_false]
 have a1:=FU d (by omega)
 have a2:=FU (M+1) (by omega)
 have a3:=NG y (by omega)
 simp only[s1,s2,s3,a1,a2,a3,Option.bind_some,CL h,RQ h,wF h he,Bool.not_true,cond_false,beq_self_eq_true]
 rfl
theorem nj {α:Type}{b:Nat}{xs:List α}{y:α}(h:(xs.length+1)*b≤1099511627776)(h2:xs.length+1≤1099511627776):kd b xs [y]=some (xs++[y]):=by
 unfold kd
 rw[if_pos]
 simp only[List.length_cons,List.length_nil,mF,Nat.zero_add]
 omega
namespace StrL
theorem lt_irrefl:∀(a:ae),Op.bytesLess a a=false
 | []=>rfl
 | x::xs=>by
  have h:¬x<x:=by simp
  simp[Op.bytesLess,h,lt_irrefl xs]
theorem lt_trans:∀(a b c:ae),Op.bytesLess a b=true→Op.bytesLess b c=true→Op.bytesLess a c=true
 | _,[],_,h,_=>by simp[Op.bytesLess] at h
 | _,_::_,[],_,h=>by simp[Op.bytesLess] at h
 | [],_::_,_::_,_,_=>rfl
 | x::xs,y::ys,z::zs,h1,h2=>by
  simp only[Op.bytesLess,Bool.or_eq_true,decide_eq_true_eq,Bool.and_eq_true,beq_iff_eq] at h1 h2 ⊢
  rcases h1 with h1 | ⟨h1,h3⟩<;>rcases h2 with h2 | ⟨h2,h4⟩
  ·exact .inl (UInt8.lt_trans h1 h2)
  ·subst h2;exact .inl h1
  ·subst h1;exact .inl h2
  ·subst h1;subst h2;exact .inr ⟨rfl,lt_trans xs ys zs h3 h4⟩
def Lt (a b:ae):Prop:=Op.bytesLess a b=true
theorem tri (a b:ae):Lt a b∨a=b∨Lt b a:=by
 have:=Gk a b
 unfold Lt
 cases h:Op.bytesLess a b
 ·cases h2:a==b
  ·rw[h,h2] at this;exact .inr (.inr this.symm)
  ·exact .inr (.inl (by simpa using h2))
 ·exact .inl rfl
theorem Lt.irrefl {a:ae}(h:Lt a a):False:=by unfold Lt at h;rw[lt_irrefl] at h;cases h
theorem Lt.trans {a b c:ae}(h:Lt a b)(h2:Lt b c):Lt a c:=lt_trans a b c h h2
theorem Lt.asymm {a b:ae}(h:Lt a b)(h2:Lt b a):False:=(h.trans h2).irrefl
def Le (a b:ae):Prop:=¬Lt b a
theorem Le.lt_or {a b:ae}(h:Le a b):Lt a b∨a=b:=by
 rcases tri a b with h1 | h1 | h1
 ·exact .inl h1
 ·exact .inr h1
 ·exact (h h1).elim
theorem Le.trans {a b c:ae}(h:Le a b)(h2:Le b c):Le a c:=by
 intro h3
 rcases h.lt_or with h4 | rfl
 ·rcases h2.lt_or with h5 | rfl
  ·exact (h4.trans h5).asymm h3
  ·exact h h3
 ·exact h2 h3
theorem Lt.ne {a b:ae}(h:Lt a b):a≠b:=fun e=>by subst e;exact h.irrefl
end StrL
namespace StrL
theorem FT {b:Nat}{xs ys:List ae}(h:(xs.length+ys.length)*b≤1099511627776)(h2:xs.length+ys.length≤1099511627776):kd b xs ys=some (xs++ys):=by
 unfold kd
 rw[if_pos]
 simp only[mF]
 omega
theorem GG (l:List ae)(n:ae)(m:Nat)(hm:m≤l.length)(hl:l.length≤1048576)(h1:∀(j:Nat) x,j<m→l[j]?=some x→Lt x n)(h2:∀x,l[m]?=some x→¬Lt x n):∀(k j:Nat),j+k=m→qW l n (j:Int)=some (.inr (n,(m:Int),l))
 | 0,j,hj=>by
  obtain rfl:j=m:=by omega
  rw[Ak,kw,eo]
  by_cases h:j<l.length
  ·rw[decide_eq_true h,cond_true,ed,List.getElem?_eq_getElem h,Option.bind_some,gG,show Op.bytesLess l[j] n=false from by simpa[Lt] using h2 _ (List.getElem?_eq_getElem h),cond_false]
  ·rw[decide_eq_false h,cond_false,gG,cond_false]
 | k+1,j,hj=>by
  have h:j<l.length:=by omega
  rw[Ak,kw,eo,decide_eq_true h,cond_true,ed,List.getElem?_eq_getElem h,Option.bind_some,gG,show Op.bytesLess l[j] n=true from h1 j _ (by omega) (List.getElem?_eq_getElem h),cond_true,ek (by omega)]
  exact GG l n m hm hl h1 h2 k (j+1) (by omega)
theorem put_val (l:List ae)(n:ae)(hl:l.length≤1000000)(hs:l.Pairwise Lt):∃r,tX l n=some r∧r.Pairwise Lt∧(∀x,x∈r↔x∈l∨x=n)∧r.length≤l.length+1:=by
 have key:∃m,m≤l.length∧(∀(j:Nat) x,j<m→l[j]?=some x→Lt x n)∧(∀x,l[m]?=some x→¬Lt x n):=by
  clear hl
  induction l with
  | nil=>exact⟨0,by simp,fun j x hj=>by omega,fun x hx=>by simp at hx⟩
  | cons y l ih=>
   by_cases hy:Lt y n
   ·obtain⟨m,h1,h2,h3⟩:=ih (List.pairwise_cons.1 hs).2
    refine⟨m+1,by simp;omega,fun j x hj hx=>?_,fun x hx=>h3 x (by simpa using hx)⟩
    cases j with
    | zero=>simp at hx;subst hx;exact hy
    | succ j=>exact h2 j x (by omega) (by simpa using hx)
   ·exact⟨0,by simp,fun j x hj=>by omega,fun x hx=>by simp at hx;subst hx;exact hy⟩
 obtain⟨m,hm,h1,h2⟩:=key
 have hlow:∀x∈l.take m,Lt x n:=by
  intro x hx
  obtain⟨i,hi,rfl⟩:=List.mem_iff_getElem.1 hx
  rw[List.length_take] at hi
  rw[List.getElem_take]
  exact h1 i _ (by omega) (List.getElem?_eq_getElem (by omega))
 have hloop:=GG l n m hm (by omega) h1 h2 m 0 (by omega)
 rw[show ((0:Nat):Int)=0 from rfl] at hloop
 unfold tX
 rw[hloop]
 simp only[bN,eo]
 have s1:qI l.length 0 (m:Int)=some ():=by unfold qI;rw[if_pos (by omega)]
 have s2:qI l.length (m:Int) (len l)=some ():=by unfold qI;rw[if_pos (by simp only[len];omega)]
 have p1:lQ l (0+Int.toNat 0) (Int.toNat (m:Int) - Int.toNat 0)=some (l.take m):=by
  unfold lQ
  simp only[Int.toNat_zero,Int.toNat_natCast,Nat.zero_add,Nat.sub_zero,List.drop_zero]
  rw[if_pos hm]
 have p2:lQ l (0+Int.toNat (m:Int)) (Int.toNat (len l) - Int.toNat (m:Int))=some (l.drop m):=by
  unfold lQ
  simp only[Int.toNat_natCast,Nat.zero_add,len]
  rw[if_pos (by omega),List.take_of_length_le (by rw[List.length_drop];omega)]
 have a1:kd 16 ([]:List ae) (l.take m)=some (l.take m):=by rw[FT (by simp only[List.length_nil,List.length_take];omega) (by simp only[List.length_nil,List.length_take];omega)];rfl
 have a2:kd 16 (l.take m) [n]=some (l.take m++[n]):=nj (by rw[List.length_take];omega) (by rw[List.length_take];omega)
 have a3:kd 16 (l.take m++[n]) (l.drop m)=some (l.take m++[n]++l.drop m):=FT (by simp only[List.length_append,List.length_take,List.length_drop,List.length_singleton];omega) (by simp only[List.length_append,List.length_take,List.length_drop,List.length_singleton];omega)
 have hins:(∀x∈l.drop m,Lt n x)→(l.take m++[n]++l.drop m).Pairwise Lt∧(∀x,x∈l.take m++[n]++l.drop m↔x∈l∨x=n)∧(l.take m++[n]++l.drop m).length≤l.length+1:=by
  intro hhi
  have hs2:=hs
  rw[←List.take_append_drop m l,List.pairwise_append] at hs2
  refine⟨List.pairwise_append.2 ⟨List.pairwise_append.2 ⟨hs2.1,List.pairwise_singleton _ _,fun x hx y hy=>?_⟩,hs2.2.1,fun x hx y hy=>?_⟩,fun x=>?_,?_⟩
  ·rw[List.mem_singleton] at hy;subst hy;exact hlow x hx
  ·rcases List.mem_append.1 hx with hx | hx
   ·exact hs2.2.2 x hx y hy
   ·rw[List.mem_singleton] at hx;subst hx;exact hhi y hy
  ·have:x∈l↔x∈l.take m∨x∈l.drop m:=by
    rw[←List.mem_append,List.take_append_drop]
   rw[List.mem_append,List.mem_append,List.mem_singleton,this]
   constructor
   ·rintro ((h | h) | h)
    ·exact .inl (.inl h)
    ·exact .inr h
    ·exact .inl (.inr h)
   ·rintro ((h | h) | h)
    ·exact .inl (.inl h)
    ·exact .inr h
    ·exact .inl (.inr h)
  ·simp only[List.length_append,List.length_take,List.length_drop,List.length_singleton];omega
 by_cases hb:m<l.length
 ·have hx:=List.getElem?_eq_getElem hb
  have hge:=h2 _ hx
  have hrest:∀x∈l.drop (m+1),Lt l[m] x:=by
   intro x hx
   obtain⟨i,hi,rfl⟩:=List.mem_iff_getElem.1 hx
   rw[List.length_drop] at hi
   rw[List.getElem_drop]
   exact List.pairwise_iff_getElem.1 hs m (m+1+i) hb (by omega) (by omega)
  rw[decide_eq_true hb,cond_true,ed,hx,Option.bind_some,bN,Il]
  by_cases he:l[m]=n
  ·rw[decide_eq_true he,cond_true]
   refine⟨l,rfl,hs,fun x=>⟨.inl,?_⟩,by omega⟩
   rintro (h | h)
   ·exact h
   ·rw[h,←he];exact List.getElem_mem hb
  ·rw[decide_eq_false he,cond_false]
   simp only[s1,p1,a1,a2,s2,p2,a3,Option.bind_some]
   refine⟨_,rfl,hins ?_⟩
   intro x hx
   rw[List.drop_eq_getElem_cons hb] at hx
   rcases List.mem_cons.1 hx with rfl | hx
   ·exact (tri n l[m]).resolve_right fun h=>h.elim (fun e=>he e.symm) hge
   ·have h1:Lt n l[m]:=(tri n l[m]).resolve_right fun h=>h.elim (fun e=>he e.symm) hge
    exact h1.trans (hrest x hx)
 ·rw[decide_eq_false hb,cond_false,bN,cond_false]
  simp only[s1,p1,a1,a2,s2,p2,a3,Option.bind_some]
  refine⟨_,rfl,hins ?_⟩
  intro x hx
  rw[List.drop_of_length_le (by omega)] at hx
  cases hx
end StrL
theorem yf (b x:Bool):(bif b then x else false)=(b&&x):=by cases b<;>rfl
def mB (x a b:Int):Bool:=decide (x≥a)&&decide (x≤b)
theorem Ik (x a b:Int):iQ x a b=some (mB x a b):=by simp only[iQ,ef,yf,mB]
theorem CK (x a b:Int):ln x a b=some (mB x a b):=by simp only[ln,ef,yf,mB]
def ft (c:UInt8):Bool:=(decide (97≤c.toNat)&&decide (c.toNat≤122))||(decide (48≤c.toNat)&&decide (c.toNat≤57))
theorem Mn (c:UInt8):tZ (c.toNat:Int)=some (ft c):=by
 simp only[tZ,ft,ef]
 by_cases h1:97≤c.toNat<;>by_cases h2:c.toNat≤122<;>by_cases h3:48≤c.toNat<;>by_cases h4:c.toNat≤57<;>simp[h1,h2,h3,h4,show ((97:Int)≤c.toNat)↔97≤c.toNat by omega,show ((c.toNat:Int)≤122)↔c.toNat≤122 by omega,show ((48:Int)≤c.toNat)↔48≤c.toNat by omega,show ((c.toNat:Int)≤57)↔c.toNat≤57 by omega]
def jM:List ae:=[[116,114,117,101],[102,114,111,109],[110,111,116],[97,110,100],[111,114],[98,111,116,104],[101,105,116,104,101,114],[105,116],[105,110]]
def iP (s:ae):Bool:=match s with
 | []=>false
 | c::r=>decide (r.length<8)&&decide (97≤c.toNat)&&decide (c.toNat≤122)&&s.all ft && !jM.contains s
theorem P3 (b x:Bool):(bif b then b else x)=(b||x):=by cases b<;>rfl
theorem Ho:xS [116,114,117,101,32,102,114,111,109,32,110,111,116,32,97,110,100,32,111,114,32,98,111,116,104,32,101,105,116,104,101,114,32,105,116,32,105,110] [32]=some jM:=by
 have h:vy [116,114,117,101,32,102,114,111,109,32,110,111,116,32,97,110,100,32,111,114,32,98,111,116,104,32,101,105,116,104,101,114,32,105,116,32,105,110] [32] 0 (-1) 9 ([116,114,117,101,32,102,114,111,109,32,110,111,116,32,97,110,100,32,111,114,32,98,111,116,104,32,101,105,116,104,101,114,32,105,116,32,105,110],0,List.replicate 9 [])=some (.inr ([105,110],8,[[116,114,117,101],[102,114,111,109],[110,111,116],[97,110,100],[111,114],[98,111,116,104],[101,105,116,104,101,114],[105,116],[]])):=
  (iU (fun a=>(wt _ _ _ _ _ a).1)).2 ⟨20,by decide +kernel⟩
 have e:xS [116,114,117,101,32,102,114,111,109,32,110,111,116,32,97,110,100,32,111,114,32,98,111,116,104,32,101,105,116,104,101,114,32,105,116,32,105,110] [32]=(bI (vy [116,114,117,101,32,102,114,111,109,32,110,111,116,32,97,110,100,32,111,114,32,98,111,116,104,32,101,105,116,104,101,114,32,105,116,32,105,110] [32] 0 (-1) 9 ([116,114,117,101,32,102,114,111,109,32,110,111,116,32,97,110,100,32,111,114,32,98,111,116,104,32,101,105,116,104,101,114,32,105,116,32,105,110],0,List.replicate 9 [])) fun u12:ae×Int×(List ae)=>(bf u12.2.2 u12.2.1).bind fun e13=>(qI (mN u12.2.2 u12.2.1 u12.1).length 0 (aF (u12.2.1+1))).bind fun s14=>(lQ (mN u12.2.2 u12.2.1 u12.1) (0+Int.toNat (0)) (Int.toNat ((aF (u12.2.1+1))) - Int.toNat (0))).bind fun p15=>some p15).bind fun r=>some r:=by rfl
 rw[e,h]
 rfl
theorem CI (s:ae):qq jM s=some (jM.contains s):=by
 unfold qq xf
 rw[HR (L:=pc jM s) (a:=jM) (p:=fun e=>some (s==e)) (q:=fun e=>s==e) (fun _ _=>rfl) (fun x=>by rw[zb,kq]<;>rfl) (by decide)]
 cases h:jM.findIdx? (fun e=>s==e) with
 | none=>
  have:jM.contains s=false:=by
   rw[List.findIdx?_eq_none_iff] at h
   rw[Bool.eq_false_iff]
   intro hc
   rw[List.contains_iff_exists_mem_beq] at hc
   obtain⟨w,hw,he⟩:=hc
   rw[h w hw] at he
   cases he
  rw[this]
  rfl
 | some i=>
  have:jM.contains s=true:=by
   rw[List.findIdx?_eq_some_iff_getElem] at h
   obtain⟨hi,he,_⟩:=h
   rw[List.contains_iff_exists_mem_beq]
   exact⟨_,List.getElem_mem hi,he⟩
  rw[this]
  simp
theorem JI (s:ae):(bif s==[116,114,117,101] then s==[116,114,117,101] else bif s==[102,114,111,109] then s==[102,114,111,109] else bif s==[110,111,116] then s==[110,111,116] else bif s==[97,110,100] then s==[97,110,100] else bif s==[111,114] then s==[111,114] else bif s==[98,111,116,104] then s==[98,111,116,104] else bif s==[101,105,116,104,101,114] then s==[101,105,116,104,101,114] else bif s==[105,116] then s==[105,116] else s==[105,110])=jM.contains s:=by
 simp only[P3,jM,List.contains_cons,List.contains_nil,Bool.or_false]
theorem D2 (s:ae)(hs:s.length≤1048576):tW s=some (iP s):=by
 unfold tW iQ iP
 simp only[ef,Option.bind_some,JI]
 cases s with
 | nil=>rfl
 | cons c r=>
  have e1:decide (len (c::r)≥1)=true:=decide_eq_true (by simp[len];omega)
  have e2:decide (len (c::r)≤8)=decide (r.length<8):=by simp only[len,List.length_cons];congr 1;apply propext;omega
  have e3:bf (c::r) (0:Int)=some c:=rfl
  have e4:decide ((c.toNat:Int)<97)=!decide (97≤c.toNat):=by rw[←decide_not];congr 1;apply propext;omega
  have e5:decide ((c.toNat:Int)>122)=!decide (c.toNat≤122):=by rw[←decide_not];congr 1;apply propext;omega
  rw[e1,e2,e3,CG (r:=false) (L:=qU (c::r)) (a:=c::r) (p:=fun c=>(tZ (c.toNat:Int)).bind fun r=>some (!r)) (q:=fun c=>!ft c) (fun x _=>by rw[Mn];rfl) (fun x=>by rw[Iz,mb];simp only[Option.bind_assoc,Option.bind_some]) (by omega)]
  simp only[cond_true,Option.bind_some,e4,e5]
  have e6:((c::r).any fun c=>!ft c)=!((c::r).all ft):=by rw[List.not_all_eq_any_not]
  rw[e6]
  cases decide (r.length<8)<;>cases decide (97≤c.toNat)<;>cases decide (c.toNat≤122)<;>cases (c::r).all ft<;>cases jM.contains (c::r)<;>rfl
theorem DI (s:ae)(hs:s.length≤1048576):AD s=some (iP s):=by
 unfold AD ln iP
 simp only[ef,Option.bind_some,Ho,CI]
 cases s with
 | nil=>rfl
 | cons c r=>
  have e1:decide (len (c::r)≥1)=true:=decide_eq_true (by simp[len];omega)
  have e2:decide (len (c::r)≤8)=decide (r.length<8):=by simp only[len,List.length_cons];congr 1;apply propext;omega
  have e3:bf (c::r) (0:Int)=some c:=rfl
  have e4:decide ((c.toNat:Int)<97)=!decide (97≤c.toNat):=by rw[←decide_not];congr 1;apply propext;omega
  have e5:decide ((c.toNat:Int)>122)=!decide (c.toNat≤122):=by rw[←decide_not];congr 1;apply propext;omega
  have hp:∀c:UInt8,(bif decide ((c.toNat:Int)<97) then (bif decide ((c.toNat:Int)<48) then true else decide ((c.toNat:Int)>57)) else (bif decide ((c.toNat:Int)>122) then (bif decide ((c.toNat:Int)<48) then true else decide ((c.toNat:Int)>57)) else false))=!ft c:=by
   intro c
   have f1:decide ((c.toNat:Int)<97)=!decide (97≤c.toNat):=by rw[←decide_not];congr 1;apply propext;omega
   have f2:decide ((c.toNat:Int)>122)=!decide (c.toNat≤122):=by rw[←decide_not];congr 1;apply propext;omega
   have f3:decide ((c.toNat:Int)<48)=!decide (48≤c.toNat):=by rw[←decide_not];congr 1;apply propext;omega
   have f4:decide ((c.toNat:Int)>57)=!decide (c.toNat≤57):=by rw[←decide_not];congr 1;apply propext;omega
   rw[f1,f2,f3,f4]
   unfold ft
   by_cases g1:97≤c.toNat
   ·have g3:48≤c.toNat:=by omega
    have g4:¬c.toNat≤57:=by omega
    simp only[g1,g3,g4,decide_true,decide_false]
    cases decide (c.toNat≤122)<;>rfl
   ·simp only[g1,decide_false]
    cases decide (48≤c.toNat)<;>cases decide (c.toNat≤57)<;>rfl
  rw[e1,e2,e3,CG (r:=false) (L:=uj (c::r)) (a:=c::r) (p:=fun c=>some (!ft c)) (q:=fun c=>!ft c) (fun x _=>rfl) (fun x=>by rw[K8,nf];simp only[ef,hp,Option.bind_some]) (by omega)]
  simp only[cond_true,Option.bind_some,e4,e5]
  have e6:((c::r).any fun c=>!ft c)=!((c::r).all ft):=by rw[List.not_all_eq_any_not]
  rw[e6]
  cases decide (r.length<8)<;>cases decide (97≤c.toNat)<;>cases decide (c.toNat≤122)<;>cases (c::r).all ft<;>cases jM.contains (c::r)<;>rfl
theorem Gb {ρ υ σ : Type}{L : Nat → σ → Option (ρ ⊕ υ)}(N : Nat)(J : Nat → σ → Prop)(T : ρ ⊕ υ → Prop)(hs : ∀ i s,i < N→J i s→(∃ s',J (i + 1) s' ∧ L i s=L (i + 1) s') ∨ ∃ y,T y ∧ L i s=some y)(he : ∀ s,J N s→∃ y,T y ∧ L N s=some y){s : σ}(h0 : J 0 s) : ∃ y,T y ∧ L 0 s=some y:=by
  have key : ∀ k i s,i + k=N→J i s→∃ y,T y ∧ L i s=some y:=by
    intro k
    induction k with
    | zero => intro i s hi hj; obtain rfl : i = N := by omega
              exact he s hj
    | succ k ih =>
      intro i s hi hj
      rcases hs i s (by omega) hj with ⟨s',h1,h2⟩ | h
      · rw [h2]; exact ih (i + 1) s' (by omega) h1
      · exact h
  exact key N 0 s (by omega) h0
theorem PV {α:Type}{L:Int→Option (Bool⊕Unit)}{a:List α}{f:α→Option Bool}{p:α→Bool}(hf:∀x∈a,f x=some (p x))(hL:∀x,L x=bif decide (x<len a) then (bf a x).bind fun e=>(f e).bind fun r=>bif !r then some (.inl false) else L (aF (x+1)) else some (.inr ()))(hb:a.length<9223372036854775807):L 0=some (if a.all p then .inr () else .inl false):=by
 obtain⟨y,h1,h2⟩:=Gb (L:=fun i (_:Unit)=>L (i:Int)) a.length (fun i _=>(a.take i).all p=true) (fun y=>y=if a.all p then .inr () else .inl false) (s:=())
  (by
   intro i _ hi hj
   have hx:=List.getElem?_eq_getElem hi
   rw[show L (i:Int)=_ from hL _,eo,decide_eq_true hi,cond_true,ed,hx,Option.bind_some,hf _ (List.getElem_mem hi),Option.bind_some,ek (by omega)]
   cases hp:p a[i] with
   | true=>
    refine .inl ⟨(),?_,rfl⟩
    rw[List.take_add_one,hx,List.all_append,hj]
    simp[hp]
   | false=>
    refine .inr ⟨_,?_,rfl⟩
    rw[if_neg]
    intro h
    rw[List.all_eq_true] at h
    rw[h _ (List.getElem_mem hi)] at hp
    cases hp)
  (by
   intro _ hj
   refine⟨_,rfl,?_⟩
   rw[List.take_length] at hj
   rw[show L (a.length:Int)=_ from hL _,eo,decide_eq_false (by omega),cond_false,if_pos hj]) (by simp)
 rw[show L 0=some y from h2,h1]
theorem FR {ρ υ α:Type}{q:α→Bool}{y0 y1:ρ⊕υ}:∀{a:List α} {L:Nat→Option (ρ⊕υ)},(∀(i:Nat) x,a[i]?=some x→L i=bif q x then some y0 else L (i+1))→L a.length=some y1→L 0=some (if a.any q then y0 else y1)
 | [],L,_,he=>by simpa using he
 | x::a,L,hL,he=>by
  rw[hL 0 x rfl,FR (a:=a) (L:=fun i=>L (i+1)) (y0:=y0) (y1:=y1) (fun i z hz=>hL (i+1) z (by simpa using hz)) (by simpa using he),List.any_cons]
  cases q x<;>rfl
def lM (c:Condition):Bool:=
 if c.Op=1 then decide (c.Parts.length=0)&&(decide (c.Name=[])&&decide (c.Day=0))
 else if c.Op=2 then decide (c.Parts.length=0)&&(iP c.Name&&decide (c.Day=0))
 else if c.Op=3 then decide (c.Parts.length=0)&&(decide (c.Name=[])&&mB c.Day 0 36524)
 else if c.Op=4 then decide (c.Parts.length=1)&&(decide (c.Name=[])&&decide (c.Day=0))
 else if c.Op=5∨c.Op=6 then decide (c.Parts.length=2)&&(decide (c.Name=[])&&decide (c.Day=0))
 else false
mutual
def cw:Condition→Bool
 | ⟨a0,a1,a2,a3⟩=>lM ⟨a0,a1,a2,a3⟩&&vS a3
def vS:List Condition→Bool
 | []=>true
 | x::xs=>cw x&&vS xs
end
theorem wC:∀a,vS a=a.all cw
 | []=>rfl
 | x::xs=>by simp[vS,wC xs]
theorem fJ (c:Condition):cw c=(lM c&&c.Parts.all cw):=by cases c;simp only[cw,wC]
theorem vV {α:Type}{a:List α}{n:Nat}:(len a==(n:Int))=decide (a.length=n):=by
 rw[CM]
 by_cases h:a.length=n
 ·rw[decide_eq_true h,decide_eq_true];simp only[len];omega
 ·rw[decide_eq_false h,decide_eq_false];simp only[len];omega
theorem Ml (c:Condition)(hn:c.Name.length≤1048576):xH c=some (lM c):=by
 have l0:(len c.Parts==0)=decide (c.Parts.length=0):=vV (n:=0)
 have l1:(len c.Parts==1)=decide (c.Parts.length=1):=vV (n:=1)
 have l2:(len c.Parts==2)=decide (c.Parts.length=2):=vV (n:=2)
 unfold xH lM
 simp only[ef,D2 _ hn,Option.bind_some,rN,Ik,l0,l1,l2,Il,CM,yf]
 by_cases o1:c.Op=1
 ·simp only[o1,decide_true,cond_true,if_true]
 by_cases o2:c.Op=2
 ·rw[decide_eq_false o1,decide_eq_true o2,cond_false,cond_true,if_neg o1,if_pos o2]
  cases decide (c.Parts.length=0)<;>rfl
 by_cases o3:c.Op=3
 ·rw[decide_eq_false o1,decide_eq_false o2,decide_eq_true o3,cond_false,cond_false,cond_true,if_neg o1,if_neg o2,if_pos o3]
  cases decide (c.Parts.length=0)<;>cases decide (c.Name=[])<;>rfl
 by_cases o4:c.Op=4
 ·rw[decide_eq_false o1,decide_eq_false o2,decide_eq_false o3,decide_eq_true o4,if_neg o1,if_neg o2,if_neg o3,if_pos o4]
  rfl
 rw[decide_eq_false o1,decide_eq_false o2,decide_eq_false o3,decide_eq_false o4,if_neg o1,if_neg o2,if_neg o3,if_neg o4]
 by_cases o5:c.Op=5
 ·simp only[o5,decide_true,cond_true,cond_false,true_or,if_true]
 ·by_cases o6:c.Op=6
  ·rw[if_pos (.inr o6),decide_eq_false o5,decide_eq_true o6];rfl
  ·rw[if_neg (by omega),decide_eq_false o5,decide_eq_false o6];rfl
theorem JH (c:Condition):bR c→Ci c=some (cw c):=by
 refine eN (P:=fun c=>bR c→Ci c=some (cw c)) ?_ c
 intro c ih hc
 rw[dQ] at hc
 rw[Pn]
 unfold qR
 rw[Ml c hc.2.1,Option.bind_some,fJ]
 cases lM c with
 | false=>rfl
 | true=>
  have hl:c.Parts.length≤1048576:=hc.2.2.2.1.1
  simp only[Bool.not_true,cond_false,Bool.true_and]
  rw[PV (L:=pf (aE pr) c) (a:=c.Parts) (f:=fun e=>Ci e) (p:=cw) (fun x hx=>ih x hx (hc.2.2.2.1.2 x hx)) (fun x=>by rw[Ix,ku]<;>rfl) (by omega)]
  cases c.Parts.all cw<;>rfl
theorem CQ (a:List Condition)(i:Nat)(h:i<a.length):az (a.take (i+1))=az (a.take i)+aj a[i]:=by
 have app:∀(x y:List Condition),az (x++y)=az x+az y:=by
  intro x y
  induction x with
  | nil=>simp[az]
  | cons z x ih=>simp only[List.cons_append,az,ih];omega
 rw[List.take_add_one,List.getElem?_eq_getElem h,app]
 simp[az]
theorem sM (a:List Condition)(i:Nat):az (a.take i)≤az a:=by
 have app:∀(x y:List Condition),az (x++y)=az x+az y:=by
  intro x y
  induction x with
  | nil=>simp[az]
  | cons z x ih=>simp only[List.cons_append,az,ih];omega
 have:=app (a.take i) (a.drop i)
 rw[List.take_append_drop] at this
 omega
theorem BO {a:List Condition}{i:Nat}(h:i<a.length):aj a[i]≤az a:=by
 have h1:=CQ a i h
 have h2:=sM a (i+1)
 omega
theorem D3 (c:Condition):aj c≤2000000→xO c=some ((aj c:Nat):Int):=by
 refine eN (P:=fun c=>aj c≤2000000→xO c=some ((aj c:Nat):Int)) ?_ c
 intro c ih hc
 have hc':=b6 c
 have hcs:=fD c.Parts
 rw[Pp]
 unfold qY
 obtain⟨y,h1,h2⟩:=Gb (L:=fun i (s:Int)=>kS (aE kx) c (s,(i:Int))) c.Parts.length (fun i s=>s=((1+az (c.Parts.take i):Nat):Int)) (fun y=>y=.inr ((aj c:Nat):Int)) (s:=1)
  (by
   intro i s hi hj
   have hx:=List.getElem?_eq_getElem hi
   have h3:=CQ c.Parts i hi
   have h4:=sM c.Parts (i+1)
   refine .inl ⟨((1+az (c.Parts.take (i+1)):Nat):Int),rfl,?_⟩
   show kS (aE kx) c (s,(i:Int))=_
   rw[An,jv]
   simp only[eo,decide_eq_true hi,cond_true,ed,hx,Option.bind_some]
   rw[show aE kx c.Parts[i]=some ((aj c.Parts[i]:Nat):Int) from ih _ (List.getElem_mem hi) (by omega),Option.bind_some,ek (by omega),hj,eI (by omega) (by omega)]
   congr 2
   omega)
  (by
   intro s hj
   refine⟨_,rfl,?_⟩
   rw[List.take_length] at hj
   show kS (aE kx) c (s,(c.Parts.length:Int))=_
   rw[An,jv]
   simp only[eo,decide_eq_false (Nat.lt_irrefl _),cond_false]
   rw[hj,hc']) (by simp[az])
 rw[show kS (aE kx) c (1,0)=some y from h2,h1]
 rfl
def gP (c:Condition):Bool:=cw c&&decide (aj c≤15)
theorem Pe {c:Condition}(h:bR c):aj c≤1048577:=by
 rw[dQ] at h
 rw[b6]
 omega
theorem D1 (c:Condition)(h:bR c):tS c=some (gP c):=by
 unfold tS gP
 rw[JH c h,Option.bind_some]
 cases cw c with
 | false=>rfl
 | true=>
  have:=Pe h
  simp only[cond_true,Bool.true_and]
  rw[D3 c (by omega),Option.bind_some,bN]
  congr 1
  by_cases h:aj c≤15
  ·rw[decide_eq_true h,decide_eq_true (by omega)]
  ·rw[decide_eq_false h,decide_eq_false (by omega)]
def JL (op:Int):Nat:=if op=4 then 1 else if op=5∨op=6 then 2 else 0
def yA (c:Condition):Bool:=mB c.Op 1 6&&decide (c.Parts.length=JL c.Op)
def v6 (c:Condition):Bool:=((c.Op==2) == !(c.Name==([]:ae)))&&((if c.Op=2 then iP c.Name else true)&&((if c.Op=3 then true else decide (c.Day=0))&&mB c.Day 0 36524))
theorem ru {x a b:Int}:mB x a b=true↔a≤x∧x≤b:=by simp[mB]
theorem LP (c:Condition):((ln c.Op 1 6).bind fun r20=>ci (ρ:=Int) (bif (!r20) then (some (.inr true)) else ((bf [(-1),0,0,0,1,2,2] c.Op).bind fun e22=>some (.inr ((len c.Parts) != e22)))) fun u21:Bool=>(some (.inr u21):Option (Int⊕Bool)))=some (.inr (!yA c)):=by
 rw[CK,Option.bind_some]
 unfold yA
 cases h:mB c.Op 1 6 with
 | false=>rfl
 | true=>
  rw[ru] at h
  have ho:c.Op=1∨c.Op=2∨c.Op=3∨c.Op=4∨c.Op=5∨c.Op=6:=by omega
  have key:bf [(-1),0,0,0,1,2,2] c.Op=some ((JL c.Op:Nat):Int):=by rcases ho with h | h | h | h | h | h<;>rw[h]<;>rfl
  simp only[Bool.not_true,cond_false,key,Option.bind_some,gG,Bool.true_and,bne,vV]
theorem LQ (c:Condition)(hn:c.Name.length≤1048576):(bif (!((c.Op==2)==(!(c.Name==([]:ae))))) then (some (.inr true)) else (ci (ρ:=Int) (bif (c.Op==2) then ((AD c.Name).bind fun r10=>ci (ρ:=Int) (bif (!r10) then (some (.inr true)) else (ci (ρ:=Int) (bif (c.Op != 3) then (ci (ρ:=Int) (bif (c.Day != 0) then (some (.inr true)) else ((oE c.Day).bind fun r14=>some (.inr (!r14)))) fun u13:Bool=>some (.inr u13)) else ((oE c.Day).bind fun r15=>some (.inr (!r15)))) fun u12:Bool=>some (.inr u12))) fun u11:Bool=>some (.inr u11)) else (ci (ρ:=Int) (bif (c.Op != 3) then (ci (ρ:=Int) (bif (c.Day != 0) then (some (.inr true)) else ((oE c.Day).bind fun r18=>some (.inr (!r18)))) fun u17:Bool=>some (.inr u17)) else ((oE c.Day).bind fun r19=>some (.inr (!r19)))) fun u16:Bool=>some (.inr u16))) fun u9:Bool=>(some (.inr u9):Option (Int⊕Bool))))=some (.inr (!v6 c)):=by
 unfold v6
 simp only[DI _ hn,oE,CK,Option.bind_some,Qi]
 cases ((c.Op==2) == !(c.Name==([]:ae))) with
 | false=>rfl
 | true=>
  simp only[Bool.not_true,cond_false,Bool.true_and]
  by_cases o2:c.Op=2
  ·simp only[o2,if_true,show ((2:Int)==2)=true from rfl,cond_true,show ¬(2:Int)=3 by omega,if_false,decide_false,Bool.not_false]
   cases iP c.Name<;>by_cases hd:c.Day=0<;>simp[hd]
  ·have:(c.Op==2)=false:=beq_eq_false_iff_ne.2 o2
   rw[this,cond_false,if_neg o2]
   by_cases o3:c.Op=3
   ·simp[o3]
   ·by_cases hd:c.Day=0<;>simp[o3,hd]
theorem oU (c:Condition):lM c=(yA c&&v6 c):=by
 have name0:c.Name=[]→iP c.Name=false:=fun h=>by rw[h];rfl
 have d0:c.Day=0→mB c.Day 0 36524=true:=fun h=>by rw[h];rfl
 have in1:mB c.Op 1 6=decide (1≤c.Op∧c.Op≤6):=by rw[Bool.eq_iff_iff,ru,decide_eq_true_iff]
 unfold lM yA v6
 rw[in1,show JL c.Op=if c.Op=4 then 1 else if c.Op=5∨c.Op=6 then 2 else 0 from rfl]
 by_cases hn:c.Name=[]
 ·by_cases hd:c.Day=0
  ·by_cases o1:c.Op=1
   ·simp[o1,hn,hd,mB]
   by_cases o2:c.Op=2
   ·simp[o2,hn,hd,iP]
   by_cases o3:c.Op=3
   ·simp[o3,hn,hd,mB]
   by_cases o4:c.Op=4
   ·simp[o4,hn,hd,mB]
   by_cases o5:c.Op=5
   ·simp[o5,hn,hd,mB]
   by_cases o6:c.Op=6
   ·simp[o6,hn,hd,mB]
   have:¬(1≤c.Op∧c.Op≤6):=by omega
   simp[o1,o2,o3,o4,o5,o6,decide_eq_false this]
  ·by_cases o3:c.Op=3
   ·simp[o3,hn]
   ·by_cases o2:c.Op=2<;>simp[o2,o3,hd]
 ·have hb:(c.Name==([]:ae))=false:=beq_eq_false_iff_ne.2 hn
  by_cases o2:c.Op=2
  ·by_cases hd:c.Day=0<;>simp[o2,hn,hd,mB,hb]
  ·simp[o2,hn,hb]
theorem Jr (c:Condition):bR c→∀so:Nat,so≤15→La c (so:Int)=some (if cw c=true∧so+aj c≤15 then ((so+aj c:Nat):Int) else -1):=by
 refine eN (P:=fun c=>bR c→∀so:Nat,so≤15→La c (so:Int)=some (if cw c=true∧so+aj c≤15 then ((so+aj c:Nat):Int) else -1)) ?_ c
 intro c ih hc so hso
 rw[dQ] at hc
 have hnc:=b6 c
 rw[RP]
 unfold vE
 rw[LP,LQ c hc.2.1,ek (by omega),fJ,oU]
 by_cases h15:so+1≤15
 ·rw[decide_eq_false (by omega),cond_false]
  cases yA c with
  | false=>rfl
  | true=>
  cases v6 c with
  | false=>rfl
  | true=>
   simp only[Bool.not_true,bN,cond_false,Bool.true_and]
   obtain⟨y,h1,h2⟩:=Gb (L:=fun i (s:Int)=>lu (aE lF) c (so:Int) (s,(i:Int))) c.Parts.length
    (fun i s=>s=((so+1+az (c.Parts.take i):Nat):Int)∧so+1+az (c.Parts.take i)≤15∧(c.Parts.take i).all cw=true)
    (fun y=>y=if c.Parts.all cw=true∧so+aj c≤15 then .inr ((so+aj c:Nat):Int) else .inl (-1)) (s:=((so+1:Nat):Int))
    (by
     rintro i s hi ⟨hj,hj2,hj3⟩
     have hx:=List.getElem?_eq_getElem hi
     have h3:=CQ c.Parts i hi
     have h4:=sM c.Parts (i+1)
     have h5:=ih _ (List.getElem_mem hi) (hc.2.2.2.1.2 _ (List.getElem_mem hi)) (so+1+az (c.Parts.take i)) hj2
     show (∃s',_∧lu (aE lF) c (so:Int) (s,(i:Int))=_)∨∃y,_∧lu (aE lF) c (so:Int) (s,(i:Int))=_
     rw[Dh,kz]
     simp only[eo,decide_eq_true hi,cond_true,ed,hx,Option.bind_some,hj]
     rw[show aE lF (c.Parts[i],((so+1+az (c.Parts.take i):Nat):Int))=_ from h5,Option.bind_some,ek (by have:=hc.2.2.2.1.1;omega)]
     by_cases hq:cw c.Parts[i]=true∧so+1+az (c.Parts.take i)+aj c.Parts[i]≤15
     ·rw[if_pos hq,decide_eq_false (by omega),cond_false]
      refine .inl ⟨_,⟨?_,?_,?_⟩,rfl⟩
      ·congr 1;omega
      ·omega
      ·rw[List.take_add_one,hx,List.all_append,hj3];simp[hq.1]
     ·rw[if_neg hq,decide_eq_true (by omega),cond_true]
      refine .inr ⟨_,?_,rfl⟩
      rw[if_neg]
      rintro⟨h6,h7⟩
      rw[List.all_eq_true] at h6
      exact hq ⟨h6 _ (List.getElem_mem hi),by omega⟩)
    (by
     rintro s ⟨hj,hj2,hj3⟩
     rw[List.take_length] at *
     show ∃y,_∧lu (aE lF) c (so:Int) (s,(c.Parts.length:Int))=_
     rw[Dh,kz]
     simp only[eo,decide_eq_false (Nat.lt_irrefl _),cond_false]
     refine⟨_,?_,rfl⟩
     rw[if_pos ⟨hj3,by omega⟩,hj]
     congr 2;omega) ⟨by simp[az],by simp[az];omega,by simp⟩
   rw[show lu (aE lF) c (so:Int) (((so+1:Nat):Int),0)=some y from h2,h1]
   by_cases hq:c.Parts.all cw=true∧so+aj c≤15
   ·rw[if_pos hq,if_pos hq];rfl
   ·rw[if_neg hq,if_neg hq];rfl
 ·rw[decide_eq_true (by omega),cond_true,bN,cond_true,if_neg (by omega)]
theorem uV (c:Condition)(h:bR c):wj c=some (gP c):=by
 unfold wj gP
 rw[show (0:Int)=((0:Nat):Int) from rfl,Jr c h 0 (by omega),Option.bind_some]
 have:=b6 c
 congr 1
 cases cw c with
 | false=>rfl
 | true=>
  by_cases h:aj c≤15
  ·rw[if_pos ⟨rfl,by omega⟩,decide_eq_true (by omega),decide_eq_true h];rfl
  ·rw[if_neg (by omega),decide_eq_false h];rfl
theorem kG {c:Condition}(h:lM c=true):(c.Op=1∧c.Parts=[])∨(c.Op=2∧c.Parts=[])∨(c.Op=3∧c.Parts=[])∨(c.Op=4∧∃p,c.Parts=[p])∨(c.Op=5∧∃p q,c.Parts=[p,q])∨(c.Op=6∧∃p q,c.Parts=[p,q]):=by
 rw[oU,yA,JL] at h
 rw[Bool.and_eq_true,Bool.and_eq_true,decide_eq_true_iff,ru] at h
 obtain⟨⟨⟨h1,h2⟩,h3⟩,_⟩:=h
 have ho:c.Op=1∨c.Op=2∨c.Op=3∨c.Op=4∨c.Op=5∨c.Op=6:=by omega
 have lD:∀{a:List Condition},a.length=2→∃p q,a=[p,q]:=fun {a} h=>by
  match a,h with
  | [p,q],_=>exact⟨p,q,rfl⟩
 have one:∀{a:List Condition},a.length=1→∃p,a=[p]:=fun {a} h=>by
  match a,h with
  | [p],_=>exact⟨p,rfl⟩
 rcases ho with h | h | h | h | h | h<;>simp only[h] at h3 ⊢
 ·exact .inl ⟨trivial,List.length_eq_zero_iff.1 (by simpa using h3)⟩
 ·exact .inr (.inl ⟨trivial,List.length_eq_zero_iff.1 (by simpa using h3)⟩)
 ·exact .inr (.inr (.inl ⟨trivial,List.length_eq_zero_iff.1 (by simpa using h3)⟩))
 ·exact .inr (.inr (.inr (.inl ⟨trivial,one (by simpa using h3)⟩)))
 ·exact .inr (.inr (.inr (.inr (.inl ⟨trivial,lD (by simpa using h3)⟩))))
 ·exact .inr (.inr (.inr (.inr (.inr ⟨trivial,lD (by simpa using h3)⟩))))
theorem uK (a:List ae)(s:ae)(ha:a.length≤1048576):qq a s=some (a.contains s):=by
 unfold qq xf
 rw[HR (L:=pc a s) (a:=a) (p:=fun e=>some (s==e)) (q:=fun e=>s==e) (fun _ _=>rfl) (fun x=>by rw[zb,kq]<;>rfl) (by omega)]
 cases h:a.findIdx? (fun e=>s==e) with
 | none=>
  have:a.contains s=false:=by
   rw[List.findIdx?_eq_none_iff] at h
   rw[Bool.eq_false_iff]
   intro hc
   rw[List.contains_iff_exists_mem_beq] at hc
   obtain⟨w,hw,he⟩:=hc
   rw[h w hw] at he
   cases he
  rw[this]
  rfl
 | some i=>
  have:a.contains s=true:=by
   rw[List.findIdx?_eq_some_iff_getElem] at h
   obtain⟨hi,he,_⟩:=h
   rw[List.contains_iff_exists_mem_beq]
   exact⟨_,List.getElem_mem hi,he⟩
  rw[this]
  simp
theorem Qh (a:List ae)(s:ae)(ha:a.length≤1048576):xK a s=some (a.contains s):=by
 unfold xK
 rw[CG (L:=qS a s) (a:=a) (p:=fun e=>some (e==s)) (r:=true) (q:=fun e=>e==s) (fun x _=>rfl) (fun x=>by rw[Iy,l8]<;>rfl) (by omega)]
 have:a.any (fun e=>e==s)=a.contains s:=by
  rw[List.contains_eq_any_beq]
  congr 1
  funext e
  exact Bool.beq_comm
 rw[this]
 cases a.contains s<;>rfl
theorem HQ (c:Condition):cw c=true→∀(f:List ae) (d:Int),f.length≤1048576→∃b,Cj c f d=some b∧FH c f d=some b:=by
 refine eN (P:=fun c=>cw c=true→∀(f:List ae) (d:Int),f.length≤1048576→∃b,Cj c f d=some b∧FH c f d=some b) ?_ c
 intro c ih hf f d hl
 rw[fJ,Bool.and_eq_true,List.all_eq_true] at hf
 obtain⟨hf,hp⟩:=hf
 rw[Po,Lc]
 unfold qT sf
 have g0:∀{p:Condition} {l:List Condition},bf (p::l) 0=some p:=rfl
 have g1:∀{p q:Condition} {l:List Condition},bf (p::q::l) 1=some q:=rfl
 rcases kG hf with⟨o,e⟩ | ⟨o,e⟩ | ⟨o,e⟩ | ⟨o,p,e⟩ | ⟨o,p,q,e⟩ | ⟨o,p,q,e⟩
 ·exact⟨true,by rw[o];rfl,by rw[o];rfl⟩
 ·exact⟨f.contains c.Name,by rw[o,Qh f _ hl];rfl,by rw[o,uK f _ hl];rfl⟩
 ·exact⟨decide (d≥c.Day),by rw[o];rfl,by rw[o];rfl⟩
 ·rw[e] at ih hp
  obtain⟨b,h1,h2⟩:=ih p (by simp) (hp p (by simp)) f d hl
  refine⟨!b,?_,?_⟩
  ·rw[o,e]
   simp only[Int.reduceBEq,cond_false,cond_true]
   rw[g0,Option.bind_some,show aE kv (p,f,d)=_ from h1];rfl
  ·rw[o,e]
   simp only[Int.reduceBEq,cond_false,cond_true]
   rw[g0,Option.bind_some,show aE lG (p,f,d)=_ from h2];rfl
 ·rw[e] at ih hp
  obtain⟨b,h1,h2⟩:=ih p (by simp) (hp p (by simp)) f d hl
  obtain⟨b',h3,h4⟩:=ih q (by simp) (hp q (by simp)) f d hl
  refine⟨b&&b',?_,?_⟩
  ·rw[o,e]
   simp only[Int.reduceBEq,cond_false,cond_true]
   rw[g0,g1,Option.bind_some,show aE kv (p,f,d)=_ from h1,Option.bind_some]
   cases b with
   | false=>rfl
   | true=>rw[cond_true,Option.bind_some,show aE kv (q,f,d)=_ from h3];rfl
  ·rw[o,e]
   simp only[Int.reduceBEq,cond_false,cond_true]
   rw[g0,g1,Option.bind_some,show aE lG (p,f,d)=_ from h2,Option.bind_some]
   cases b with
   | false=>rfl
   | true=>rw[cond_true,Option.bind_some,show aE lG (q,f,d)=_ from h4];rfl
 ·rw[e] at ih hp
  obtain⟨b,h1,h2⟩:=ih p (by simp) (hp p (by simp)) f d hl
  obtain⟨b',h3,h4⟩:=ih q (by simp) (hp q (by simp)) f d hl
  refine⟨b||b',?_,?_⟩
  ·rw[o,e]
   simp only[Int.reduceBEq,cond_false,cond_true]
   rw[g0,g1,Option.bind_some,show aE kv (p,f,d)=_ from h1,Option.bind_some]
   cases b with
   | true=>rfl
   | false=>rw[cond_false,Option.bind_some,show aE kv (q,f,d)=_ from h3];rfl
  ·rw[o,e]
   simp only[Int.reduceBEq,cond_false,cond_true]
   rw[g0,g1,Option.bind_some,show aE lG (p,f,d)=_ from h2,Option.bind_some]
   cases b with
   | true=>rfl
   | false=>rw[cond_false,Option.bind_some,show aE lG (q,f,d)=_ from h4];rfl
noncomputable def dH (c:Condition)(f:List ae)(d:Int):Bool:=(FH c f d).getD false
theorem Mm {c:Condition}(h:cw c=true){f:List ae}{d:Int}(hl:f.length≤1048576):Cj c f d=some (dH c f d):=by
 obtain⟨b,h1,h2⟩:=HQ c h f d hl
 unfold dH
 rw[h1,h2];rfl
theorem uW {c:Condition}(h:cw c=true){f:List ae}{d:Int}(hl:f.length≤1048576):FH c f d=some (dH c f d):=by
 obtain⟨b,h1,h2⟩:=HQ c h f d hl
 unfold dH
 rw[h2];rfl
theorem gB {c:Condition}(hf:cw c=true){f:List ae}{d:Int}(hl:f.length≤1048576) :
  (c.Op=1∧c.Parts=[]∧dH c f d=true)∨(c.Op=2∧c.Parts=[]∧dH c f d=f.contains c.Name)∨(c.Op=3∧c.Parts=[]∧dH c f d=decide (c.Day≤d))∨(c.Op=4∧∃p,c.Parts=[p]∧dH c f d=!dH p f d)∨
   (c.Op=5∧∃p q,c.Parts=[p,q]∧dH c f d=(dH p f d&&dH q f d))∨(c.Op=6∧∃p q,c.Parts=[p,q]∧dH c f d=(dH p f d||dH q f d)):=by
 have hv:=uW (d:=d) hf hl
 rw[fJ,Bool.and_eq_true,List.all_eq_true] at hf
 obtain⟨hf,hp⟩:=hf
 rw[Lc] at hv
 unfold sf at hv
 have g0:∀{p:Condition} {l:List Condition},bf (p::l) 0=some p:=rfl
 have g1:∀{p q:Condition} {l:List Condition},bf (p::q::l) 1=some q:=rfl
 have val:∀p,cw p=true→aE lG (p,f,d)=some (dH p f d):=fun p hp=>uW hp hl
 rcases kG hf with⟨o,e⟩ | ⟨o,e⟩ | ⟨o,e⟩ | ⟨o,p,e⟩ | ⟨o,p,q,e⟩ | ⟨o,p,q,e⟩
 ·rw[o] at hv
  exact .inl ⟨o,e,(Option.some.inj hv).symm⟩
 ·rw[o,uK f _ hl] at hv
  exact .inr (.inl ⟨o,e,(Option.some.inj hv).symm⟩)
 ·rw[o] at hv
  exact .inr (.inr (.inl ⟨o,e,(Option.some.inj hv).symm⟩))
 ·rw[e] at hp
  rw[o,e] at hv
  simp only[Int.reduceBEq,cond_false,cond_true] at hv
  rw[g0,Option.bind_some,val p (hp p (by simp))] at hv
  exact .inr (.inr (.inr (.inl ⟨o,p,e,(Option.some.inj hv).symm⟩)))
 ·rw[e] at hp
  rw[o,e] at hv
  simp only[Int.reduceBEq,cond_false,cond_true] at hv
  rw[g0,g1,Option.bind_some,val p (hp p (by simp)),Option.bind_some] at hv
  refine .inr (.inr (.inr (.inr (.inl ⟨o,p,q,e,?_⟩))))
  cases hb:dH p f d with
  | false=>rw[hb] at hv;exact (Option.some.inj hv).symm
  | true=>rw[hb,cond_true,Option.bind_some,val q (hp q (by simp))] at hv;exact (Option.some.inj hv).symm
 ·rw[e] at hp
  rw[o,e] at hv
  simp only[Int.reduceBEq,cond_false,cond_true] at hv
  rw[g0,g1,Option.bind_some,val p (hp p (by simp)),Option.bind_some] at hv
  refine .inr (.inr (.inr (.inr (.inr ⟨o,p,q,e,?_⟩))))
  cases hb:dH p f d with
  | true=>rw[hb] at hv;exact (Option.some.inj hv).symm
  | false=>rw[hb,cond_false,Option.bind_some,val q (hp q (by simp))] at hv;exact (Option.some.inj hv).symm
noncomputable def fH (p q:Condition):Bool:=@decide (p=q) (Classical.propDecidable _)
theorem fW {p q:Condition}:fH p q=true↔p=q:=by unfold fH;exact @decide_eq_true_iff _ (Classical.propDecidable _)
def jp (c:Condition):Bool:=c.Op==1
def iM (c:Condition):Bool:=(c.Op==4)&&(match c.Parts with
 | p::_=>p.Op==1
 | []=>false)
noncomputable def BW (o:Int)(c p q:Condition):Condition:=
 bif o==5 then (bif jp p then q else bif jp q then p else bif iM p then p else bif iM q then q else bif fH p q then p else c)
 else (bif jp p then p else bif jp q then q else bif iM p then q else bif iM q then p else bif fH p q then p else c)
noncomputable def mO (o:Int)(s:ae)(d:Int)(ps:List Condition):Condition:=
 if o=3 then (if d=0 then ⟨1,[],0,[]⟩ else ⟨o,s,d,ps⟩)
 else if o=4 then (match ps with
  | p::_=>if p.Op=4 then (match p.Parts with
   | r::_=>r
   | []=>⟨o,s,d,ps⟩) else ⟨o,s,d,ps⟩
  | []=>⟨o,s,d,ps⟩)
 else if o=5∨o=6 then (match ps with
  | p::q::_=>BW o ⟨o,s,d,ps⟩ p q
  | _=>⟨o,s,d,ps⟩)
 else ⟨o,s,d,ps⟩
mutual
noncomputable def dR:Condition→Condition
 | ⟨o,s,d,ps⟩=>mO o s d (fg ps)
noncomputable def fg:List Condition→List Condition
 | []=>[]
 | x::xs=>dR x::fg xs
end
theorem yH (c:Condition):dR c=mO c.Op c.Name c.Day (fg c.Parts):=by cases c;simp only[dR]
theorem o9:∀l,fg l=l.map dR
 | []=>by simp[fg]
 | x::xs=>by simp[fg,o9 xs]
def Tq (c:Condition):Prop:=¬(c.Op=3∧c.Day=0)∧(c.Op=4→∀p∈c.Parts,p.Op≠4)∧(c.Op=5∨c.Op=6→(∀p∈c.Parts,jp p=false∧iM p=false)∧∀p q l,c.Parts=p::q::l→p≠q)
mutual
def DN:Condition→Prop
 | ⟨o,s,d,ps⟩=>Tq ⟨o,s,d,ps⟩∧Gr ps
def Gr:List Condition→Prop
 | []=>True
 | x::xs=>DN x∧Gr xs
end
theorem Gs:∀l,Gr l↔∀x∈l,DN x
 | []=>by simp[Gr]
 | x::xs=>by simp[Gr,Gs xs]
theorem pi (c:Condition):DN c↔Tq c∧∀x∈c.Parts,DN x:=by cases c;simp only[DN,Gs]
theorem Qq (c:Condition):DN c→dR c=c:=by
 refine eN (P:=fun c=>DN c→dR c=c) ?_ c
 intro c ih hc
 obtain⟨⟨h3,h4,h5⟩,hp⟩:=(pi c).1 hc
 have hps:fg c.Parts=c.Parts:=by
  rw[o9]
  have:∀l:List Condition,(∀x∈l,dR x=x)→l.map dR=l:=by
   intro l
   induction l with
   | nil=>intro _;rfl
   | cons x xs ihx=>intro hx;rw[List.map_cons,hx x (by simp),ihx fun y hy=>hx y (List.mem_cons_of_mem _ hy)]
  exact this _ fun x hx=>ih x hx (hp x hx)
 have eta:(⟨c.Op,c.Name,c.Day,c.Parts⟩:Condition)=c:=by cases c;rfl
 rw[yH,hps,mO.eq_def]
 by_cases o3:c.Op=3
 ·rw[if_pos o3,if_neg (fun hd=>h3 ⟨o3,hd⟩),eta]
 rw[if_neg o3]
 by_cases o4:c.Op=4
 ·rw[if_pos o4]
  cases hps2:c.Parts with
  | nil=>have:=eta;rw[hps2] at this;exact this
  | cons p l=>
   simp only
   rw[if_neg (h4 o4 p (by rw[hps2];simp)),←hps2,eta]
 rw[if_neg o4]
 by_cases o5:c.Op=5∨c.Op=6
 ·rw[if_pos o5]
  obtain⟨h6,h7⟩:=h5 o5
  match hm:c.Parts with
  | []=>have:=eta;rw[hm] at this;exact this
  | [p]=>have:=eta;rw[hm] at this;exact this
  | p::q::l=>
   simp only
   have tp:=h6 p (by rw[hm];simp)
   have tq:=h6 q (by rw[hm];simp)
   have ne:fH p q=false:=by
    rw[Bool.eq_false_iff]
    intro e
    exact h7 p q l hm (fW.1 e)
   rw[BW,tp.1,tp.2,tq.1,tq.2,ne]
   simp only[cond_false]
   rw[←hm,eta]
   cases c.Op==5<;>rfl
 ·rw[if_neg o5,eta]
def qi (c r:Condition):Prop:=cw r=true∧bR r∧aj r≤aj c∧DN r∧∀(f:List ae) (d:Int),f.length≤1048576→0≤d→dH r f d=dH c f d
theorem nt {c:Condition}(hf:cw c=true)(h:jp c=true){f:List ae}{d:Int}(hl:f.length≤1048576):dH c f d=true:=by
 have o:c.Op=1:=eq_of_beq h
 rcases gB hf (d:=d) hl with⟨_,_,h⟩ | ⟨o',_⟩ | ⟨o',_⟩ | ⟨o',_⟩ | ⟨o',_⟩ | ⟨o',_⟩
 ·exact h
 all_goals omega
theorem sG {c:Condition}(hf:cw c=true)(h:iM c=true){f:List ae}{d:Int}(hl:f.length≤1048576):dH c f d=false:=by
 unfold iM at h
 rw[Bool.and_eq_true] at h
 have o:c.Op=4:=eq_of_beq h.1
 have hp:=hf
 rw[fJ,Bool.and_eq_true,List.all_eq_true] at hp
 rcases gB hf (d:=d) hl with⟨o',_⟩ | ⟨o',_⟩ | ⟨o',_⟩ | ⟨_,p,e,h'⟩ | ⟨o',_⟩ | ⟨o',_⟩
 ·omega
 ·omega
 ·omega
 ·have h2:=h.2
  rw[e] at h2
  have hpf:=hp.2 p (by rw[e];simp)
  rw[h',nt hpf h2 hl];rfl
 ·omega
 ·omega
theorem F7 {o:Int}{s:ae}{d:Int}{l l':List Condition}(h:l.length=l'.length):lM ⟨o,s,d,l⟩=lM ⟨o,s,d,l'⟩:=by
 rw[oU,oU]
 unfold yA v6
 rw[show (Condition.mk o s d l).Parts.length=(Condition.mk o s d l').Parts.length from h]
theorem CW (c:Condition):cw c=true→bR c→qi c (dR c):=by
 refine eN (P:=fun c=>cw c=true→bR c→qi c (dR c)) ?_ c
 intro c ih hf hs
 have eta:(⟨c.Op,c.Name,c.Day,c.Parts⟩:Condition)=c:=by cases c;rfl
 have hp:=hf
 rw[fJ,Bool.and_eq_true,List.all_eq_true] at hp
 obtain⟨hf1,hp⟩:=hp
 have hsm:=(dQ _).1 hs
 have hnc:=b6 c
 have keep:c.Parts=[]→¬(c.Op=3∧c.Day=0)→qi c c:=fun h1 h2=>⟨hf,hs,Nat.le_refl _,(pi c).2 ⟨⟨h2,fun _ p hp'=>by rw[h1] at hp';simp at hp',fun _=>⟨fun p hp'=>by rw[h1] at hp';simp at hp',fun p q l e=>by rw[h1] at e;cases e⟩⟩,fun x hx=>by rw[h1] at hx;simp at hx⟩,fun _ _ _ _=>rfl⟩
 rw[yH]
 rcases kG hf1 with⟨o,e⟩ | ⟨o,e⟩ | ⟨o,e⟩ | ⟨o,p,e⟩ | ⟨o,p,q,e⟩ | ⟨o,p,q,e⟩
 ·rw[e,fg,mO.eq_def,if_neg (by omega),if_neg (by omega),if_neg (by omega),←e,eta]
  exact keep e (by omega)
 ·rw[e,fg,mO.eq_def,if_neg (by omega),if_neg (by omega),if_neg (by omega),←e,eta]
  exact keep e (by omega)
 ·rw[e,fg,mO.eq_def,if_pos o]
  by_cases hd:c.Day=0
  ·rw[if_pos hd]
   refine⟨by decide,(dQ _).2 ⟨by simp[tn],by simp[wM],by simp[tn],⟨by simp,by simp⟩,by simp[az]⟩,by rw[b6];simp[az];omega,(pi _).2 ⟨⟨by simp,by simp,by simp⟩,by simp⟩,fun f d hl h0=>?_⟩
   rcases gB hf (d:=d) hl with⟨o',_⟩ | ⟨o',_⟩ | ⟨_,_,h⟩ | ⟨o',_⟩ | ⟨o',_⟩ | ⟨o',_⟩
   ·omega
   ·omega
   ·rw[h,hd,decide_eq_true h0]
    exact nt (by decide) rfl hl
   all_goals omega
  ·rw[if_neg hd,←e,eta]
   exact keep e (fun h=>hd h.2)
 ·have hpm:p∈c.Parts:=by rw[e];simp
  obtain⟨g1,g2,g3,g4,g5⟩:=ih p hpm (hp p hpm) (hsm.2.2.2.1.2 p hpm)
  have hnp:aj c=1+aj p:=by rw[hnc,e];simp[az]
  have hcv:∀f d,f.length≤1048576→0≤d→dH c f d=!dH (dR p) f d:=by
   intro f d hl h0
   rcases gB hf (d:=d) hl with⟨o',_⟩ | ⟨o',_⟩ | ⟨o',_⟩ | ⟨_,p',e',h⟩ | ⟨o',_⟩ | ⟨o',_⟩
   ·omega
   ·omega
   ·omega
   ·rw[e] at e'
    injection e' with e' _
    subst e'
    rw[h,g5 f d hl h0]
   ·omega
   ·omega
  rw[e]
  simp only[fg,mO]
  rw[if_neg (by omega),if_pos o]
  by_cases h4:(dR p).Op=4
  ·rw[if_pos h4]
   have gp:=g1
   rw[fJ,Bool.and_eq_true,List.all_eq_true] at gp
   obtain⟨r,er⟩:∃r,(dR p).Parts=[r]:=by
    rcases kG gp.1 with⟨o',_⟩ | ⟨o',_⟩ | ⟨o',_⟩ | ⟨_,r,er⟩ | ⟨o',_⟩ | ⟨o',_⟩
    ·omega
    ·omega
    ·omega
    ·exact⟨r,er⟩
    ·omega
    ·omega
   have hrm:r∈(dR p).Parts:=by rw[er];simp
   rw[er]
   show qi c r
   refine⟨gp.2 r hrm,((dQ _).1 g2).2.2.2.1.2 r hrm,?_,((pi _).1 g4).2 r hrm,fun f d hl h0=>?_⟩
   ·have:aj (dR p)=1+aj r:=by rw[b6,er];simp[az]
    omega
   ·rw[hcv f d hl h0]
    rcases gB g1 (d:=d) hl with⟨o',_⟩ | ⟨o',_⟩ | ⟨o',_⟩ | ⟨_,p',e',h⟩ | ⟨o',_⟩ | ⟨o',_⟩
    ·omega
    ·omega
    ·omega
    ·rw[er] at e'
     injection e' with e' _
     subst e'
     rw[h,Bool.not_not]
    ·omega
    ·omega
  ·rw[if_neg h4]
   have hff:cw ⟨c.Op,c.Name,c.Day,[dR p]⟩=true:=by
    rw[fJ,Bool.and_eq_true]
    refine⟨?_,by simp[g1]⟩
    rw[F7 (l':=c.Parts) (by rw[e];rfl),eta]
    exact hf1
   refine⟨hff,(dQ _).2 ⟨by simp[tn],hsm.2.1,by simp[tn],⟨by simp,by simp[g2]⟩,by have:=Pe g2;have:=hsm.2.2.2.2;rw[e] at this;simp[az] at this ⊢;omega⟩,?_,(pi _).2 ⟨⟨fun h=>by have:=h.1;simp only at this;omega,fun _ x hx=>by simp at hx;rw[hx];exact h4,fun h=>by simp only at h;omega⟩,fun x hx=>by simp at hx;rw[hx];exact g4⟩,fun f d hl h0=>?_⟩
   ·rw[b6]
    simp[az]
    omega
   ·rw[hcv f d hl h0]
    rcases gB hff (d:=d) hl with⟨o',_⟩ | ⟨o',_⟩ | ⟨o',_⟩ | ⟨_,p',e',h⟩ | ⟨o',_⟩ | ⟨o',_⟩
    ·simp only at o';omega
    ·simp only at o';omega
    ·simp only at o';omega
    ·simp only at e'
     injection e' with e' _
     subst e'
     exact h
    ·simp only at o';omega
    ·simp only at o';omega
 all_goals
  have hpm:p∈c.Parts:=by rw[e];simp
  have hqm:q∈c.Parts:=by rw[e];simp
  obtain⟨g1,g2,g3,g4,g5⟩:=ih p hpm (hp p hpm) (hsm.2.2.2.1.2 p hpm)
  obtain⟨k1,k2,k3,k4,k5⟩:=ih q hqm (hp q hqm) (hsm.2.2.2.1.2 q hqm)
  have hnp:aj c=1+(aj p+aj q):=by rw[hnc,e];simp[az]
  rw[e]
  simp only[fg,mO]
  rw[if_neg (by omega),if_neg (by omega),if_pos (by omega)]
  generalize dR p=P at *
  generalize dR q=Q at *
  have hff:cw ⟨c.Op,c.Name,c.Day,[P,Q]⟩=true:=by
   rw[fJ,Bool.and_eq_true]
   refine⟨?_,by simp[g1,k1]⟩
   rw[F7 (l':=c.Parts) (by rw[e];rfl),eta]
   exact hf1
  have comp:jp P=false→iM P=false→jp Q=false→iM Q=false→fH P Q=false→(∀f d,f.length≤1048576→0≤d→dH ⟨c.Op,c.Name,c.Day,[P,Q]⟩ f d=dH c f d)→qi c ⟨c.Op,c.Name,c.Day,[P,Q]⟩:=by
   intro a1 a2 a3 a4 a5 hv
   refine⟨hff,(dQ _).2 ⟨by simp[tn],hsm.2.1,by simp[tn],⟨by simp,by simp[g2,k2]⟩,by have:=hsm.2.2.2.2;rw[e] at this;simp[az] at this ⊢;omega⟩,?_,(pi _).2 ⟨⟨fun h=>by have:=h.1;simp only at this;omega,fun h=>by simp only at h;omega,fun _=>⟨fun x hx=>by simp at hx;rcases hx with rfl | rfl;exact⟨a1,a2⟩;exact⟨a3,a4⟩,fun x y l el=>by
    simp only at el
    injection el with e1 el
    injection el with e2 _
    subst e1;subst e2
    intro eq
    rw[fW.2 eq] at a5
    cases a5⟩⟩,fun x hx=>by simp at hx;rcases hx with rfl | rfl;exact g4;exact k4⟩,hv⟩
   rw[b6]
   simp[az]
   omega
  have giveP:(∀f d,f.length≤1048576→0≤d→dH P f d=dH c f d)→qi c P:=fun hv=>⟨g1,g2,by omega,g4,hv⟩
  have giveQ:(∀f d,f.length≤1048576→0≤d→dH Q f d=dH c f d)→qi c Q:=fun hv=>⟨k1,k2,by omega,k4,hv⟩
 ·have hcv:∀f d,f.length≤1048576→0≤d→dH c f d=(dH P f d&&dH Q f d):=by
   intro f d hl h0
   rcases gB hf (d:=d) hl with⟨o',_⟩ | ⟨o',_⟩ | ⟨o',_⟩ | ⟨o',_⟩ | ⟨_,p',q',e',h⟩ | ⟨o',_⟩
   ·omega
   ·omega
   ·omega
   ·omega
   ·rw[e] at e'
    injection e' with e1 e'
    injection e' with e2 _
    subst e1;subst e2
    rw[h,g5 f d hl h0,k5 f d hl h0]
   ·omega
  have hnew:∀f d,f.length≤1048576→0≤d→dH ⟨c.Op,c.Name,c.Day,[P,Q]⟩ f d=dH c f d:=by
   intro f d hl h0
   rw[hcv f d hl h0]
   rcases gB hff (d:=d) hl with⟨o',_⟩ | ⟨o',_⟩ | ⟨o',_⟩ | ⟨o',_⟩ | ⟨_,p',q',e',h⟩ | ⟨o',_⟩<;>try (simp only at o';omega)
   simp only at e'
   injection e' with e1 e'
   injection e' with e2 _
   subst e1;subst e2
   exact h
  rw[BW,show (c.Op==5)=true from beq_iff_eq.2 o,cond_true]
  cases t1:jp P with
  | true=>exact giveQ fun f d hl h0=>by rw[hcv f d hl h0,nt g1 t1 hl,Bool.true_and]
  | false=>
  cases t2:jp Q with
  | true=>exact giveP fun f d hl h0=>by rw[hcv f d hl h0,nt k1 t2 hl,Bool.and_true]
  | false=>
  cases t3:iM P with
  | true=>exact giveP fun f d hl h0=>by rw[hcv f d hl h0,sG g1 t3 hl,Bool.false_and]
  | false=>
  cases t4:iM Q with
  | true=>exact giveQ fun f d hl h0=>by rw[hcv f d hl h0,sG k1 t4 hl,Bool.and_false]
  | false=>
  cases t5:fH P Q with
  | true=>exact giveP fun f d hl h0=>by rw[hcv f d hl h0,←fW.1 t5,Bool.and_self]
  | false=>exact comp t1 t3 t2 t4 t5 hnew
 ·have hcv:∀f d,f.length≤1048576→0≤d→dH c f d=(dH P f d||dH Q f d):=by
   intro f d hl h0
   rcases gB hf (d:=d) hl with⟨o',_⟩ | ⟨o',_⟩ | ⟨o',_⟩ | ⟨o',_⟩ | ⟨o',_⟩ | ⟨_,p',q',e',h⟩
   ·omega
   ·omega
   ·omega
   ·omega
   ·omega
   ·rw[e] at e'
    injection e' with e1 e'
    injection e' with e2 _
    subst e1;subst e2
    rw[h,g5 f d hl h0,k5 f d hl h0]
  have hnew:∀f d,f.length≤1048576→0≤d→dH ⟨c.Op,c.Name,c.Day,[P,Q]⟩ f d=dH c f d:=by
   intro f d hl h0
   rw[hcv f d hl h0]
   rcases gB hff (d:=d) hl with⟨o',_⟩ | ⟨o',_⟩ | ⟨o',_⟩ | ⟨o',_⟩ | ⟨o',_⟩ | ⟨_,p',q',e',h⟩<;>try (simp only at o';omega)
   simp only at e'
   injection e' with e1 e'
   injection e' with e2 _
   subst e1;subst e2
   exact h
  rw[BW,show (c.Op==5)=false from beq_eq_false_iff_ne.2 (by omega),cond_false]
  cases t1:jp P with
  | true=>exact giveP fun f d hl h0=>by rw[hcv f d hl h0,nt g1 t1 hl,Bool.true_or]
  | false=>
  cases t2:jp Q with
  | true=>exact giveQ fun f d hl h0=>by rw[hcv f d hl h0,nt k1 t2 hl,Bool.or_true]
  | false=>
  cases t3:iM P with
  | true=>exact giveQ fun f d hl h0=>by rw[hcv f d hl h0,sG g1 t3 hl,Bool.false_or]
  | false=>
  cases t4:iM Q with
  | true=>exact giveP fun f d hl h0=>by rw[hcv f d hl h0,sG k1 t4 hl,Bool.or_false]
  | false=>
  cases t5:fH P Q with
  | true=>exact giveP fun f d hl h0=>by rw[hcv f d hl h0,←fW.1 t5,Bool.or_self]
  | false=>exact comp t1 t3 t2 t4 t5 hnew
theorem HT (c:Condition):Dp c=some (jp c):=rfl
theorem HS {c:Condition}(hf:cw c=true):Bd c=some (iM c):=by
 rw[fJ,Bool.and_eq_true] at hf
 unfold Bd iM
 by_cases o:c.Op=4
 ·rcases kG hf.1 with⟨o',_⟩ | ⟨o',_⟩ | ⟨o',_⟩ | ⟨_,p,e⟩ | ⟨o',_⟩ | ⟨o',_⟩<;>try omega
  rw[show (c.Op==4)=true from beq_iff_eq.2 o,e]
  rfl
 ·rw[show (c.Op==4)=false from beq_eq_false_iff_ne.2 o]
  rfl
theorem ye:∀{a b:List Condition},a.length=b.length→(uF fH a b=true↔a=b)
 | [],[],_=>by simp[uF]
 | [],_::_,h=>by simp at h
 | _::_,[],h=>by simp at h
 | x::xs,y::ys,h=>by
  rw[uF,Bool.and_eq_true,ye (by simpa using h),fW,List.cons.injEq]
theorem HK (a b:Condition):a=b↔a.Op=b.Op∧a.Name=b.Name∧a.Day=b.Day∧a.Parts=b.Parts:=by
 cases a;cases b;simp
theorem GM (a:Condition):aj a≤100000→∀b,Lg a b=some (fH a b):=by
 refine eN (P:=fun a=>aj a≤100000→∀b,Lg a b=some (fH a b)) ?_ a
 intro a ih hn b
 have hn2:=hn
 rw[b6] at hn2
 have hl:a.Parts.length≤100000:=by rw[fD] at hn2;omega
 rw[RS]
 unfold vL
 by_cases h1:a.Op=b.Op
 ·by_cases h2:a.Name=b.Name
  ·by_cases h3:a.Day=b.Day
   ·rw[h1,h2,h3]
    simp only[beq_self_eq_true,cond_true]
    unfold xd
    by_cases h4:a.Parts.length=b.Parts.length
    ·have hL:=Sd (L:=pb (aE qa) a.Parts b.Parts ()) (a:=a.Parts) (b:=b.Parts) (p:=fun x y=>aE qa (x,y)) (r:=false) (q:=fH)
      (fun x hx y=>ih x hx (by obtain⟨i,hi,rfl⟩:=List.mem_iff_getElem.1 hx;have:=BO (a:=a.Parts) hi;omega) y)
      (fun x=>by rw[Ir,ko]) h4 (by omega)
     rw[show (len a.Parts != len b.Parts)=false by simp[len,h4],cond_false,hL]
     cases h5:uF fH a.Parts b.Parts with
     | true=>
      have:a=b:=(HK a b).2 ⟨h1,h2,h3,(ye h4).1 h5⟩
      rw[fW.2 this];rfl
     | false=>
      have:fH a b=false:=Bool.eq_false_iff.2 fun h=>by
       have:=(HK a b).1 (fW.1 h)
       rw[(ye h4).2 this.2.2.2] at h5
       cases h5
      rw[this];rfl
    ·have:fH a b=false:=Bool.eq_false_iff.2 fun h=>h4 (by rw[fW.1 h])
     rw[show (len a.Parts != len b.Parts)=true by simp[len];omega,cond_true,this];rfl
   ·have:fH a b=false:=Bool.eq_false_iff.2 fun h=>h3 (by rw[fW.1 h])
    rw[h1,h2,beq_self_eq_true,beq_self_eq_true,beq_eq_false_iff_ne.2 h3,this];rfl
  ·have:fH a b=false:=Bool.eq_false_iff.2 fun h=>h2 (by rw[fW.1 h])
   rw[h1,beq_self_eq_true,beq_eq_false_iff_ne.2 h2,this];rfl
 ·have:fH a b=false:=Bool.eq_false_iff.2 fun h=>h1 (by rw[fW.1 h])
  rw[beq_eq_false_iff_ne.2 h1,this];rfl
theorem H5 (F:Condition→Option Condition)(c:Condition)(o:Int)(s:ae)(d:Int)(P Q:Condition)(hP:cw P=true)(hQ:cw Q=true)(e:Bool)(x:Int)(u:List Bool) :
  jh F c (o,s,d,[P,Q]) e x u 0=some (bif (bif e then jp P else iM P) then .inl (bif (x==0)==(o==5) then Q else P) else bif (bif e then jp Q else iM Q) then .inl (bif (x==0)==(o==5) then P else Q) else .inr ()):=by
 have g0:bf [P,Q] 0=some P:=rfl
 have g1:bf [P,Q] 1=some Q:=rfl
 rw[uA,fp]
 simp only[show decide ((0:Int)<len [P,Q])=true from rfl,cond_true,g0,Option.bind_some,HT,HS hP,ef,show aF (1 - 0)=1 from rfl,g1,show aF (0+1)=1 from rfl]
 rw[uA,fp]
 simp only[show decide ((1:Int)<len [P,Q])=true from rfl,cond_true,g1,Option.bind_some,HT,HS hQ,ef,show aF (1 - 1)=0 from rfl,g0,show aF (1+1)=2 from rfl]
 rw[uA,fp]
 simp only[show decide ((2:Int)<len [P,Q])=false from rfl,cond_false]
 generalize ((x==0)==(o==5))=tk
 cases e<;>cases tk<;>cases jp P<;>cases iM P<;>cases jp Q<;>cases iM Q<;>rfl
theorem H4 (F:Condition→Option Condition)(c:Condition)(o:Int)(ho:o=5∨o=6)(s:ae)(d:Int)(P Q:Condition)(hP:cw P=true)(hQ:cw Q=true) :
  eh F c [true,false] (o,s,d,[P,Q]) 0=some (bif o==5 then (bif jp P then .inl Q else bif jp Q then .inl P else bif iM P then .inl P else bif iM Q then .inl Q else .inr ()) else (bif jp P then .inl P else bif jp Q then .inl Q else bif iM P then .inl Q else bif iM Q then .inl P else .inr ())):=by
 have g0:bf [true,false] 0=some true:=rfl
 have g1:bf [true,false] 1=some false:=rfl
 rw[uz,ct]
 simp only[show decide ((0:Int)<len [true,false])=true from rfl,cond_true,g0,Option.bind_some,H5 F c o s d P Q hP hQ,show aF (0+1)=1 from rfl]
 rw[uz,ct]
 simp only[show decide ((1:Int)<len [true,false])=true from rfl,cond_true,g1,Option.bind_some,H5 F c o s d P Q hP hQ,show aF (1+1)=2 from rfl]
 rw[uz,ct]
 simp only[show decide ((2:Int)<len [true,false])=false from rfl,cond_false]
 rcases ho with rfl | rfl<;>cases jp P<;>cases jp Q<;>cases iM P<;>cases iM Q<;>rfl
theorem Oq (c:Condition):cw c=true→bR c→aj c≤100000→Li c=some (dR c):=by
 refine eN (P:=fun c=>cw c=true→bR c→aj c≤100000→Li c=some (dR c)) ?_ c
 intro c ih hf hs hn
 have hp:=hf
 rw[fJ,Bool.and_eq_true,List.all_eq_true] at hp
 obtain⟨hf1,hp⟩:=hp
 have hsm:=(dQ _).1 hs
 have hn2:=hn
 rw[b6] at hn2
 have hl:c.Parts.length≤100000:=by rw[fD] at hn2;omega
 have each:∀x∈c.Parts,aE oP x=some (dR x):=fun x hx=>ih x hx (hp x hx) (hsm.2.2.2.1.2 x hx) (by obtain⟨i,hi,rfl⟩:=List.mem_iff_getElem.1 hx;have:=BO (a:=c.Parts) hi;omega)
 have Pc:∀x∈c.Parts,qi x (dR x):=fun x hx=>CW x (hp x hx) (hsm.2.2.2.1.2 x hx)
 have key:∀(k i:Nat),i+k=c.Parts.length→pC (aE oP) c ((i:Int),(fg c.Parts).take i)=some (.inr (c.Op,c.Name,c.Day,fg c.Parts)):=by
  have hlen:(fg c.Parts).length=c.Parts.length:=by rw[o9,List.length_map]
  intro k
  induction k with
  | zero=>
   intro i hi
   rw[Dt,kB,List.take_of_length_le (by omega)]
   simp only[eo,decide_eq_false (show ¬i<c.Parts.length by omega),cond_false]
  | succ k ihk=>
   intro i hi
   have h1:i<c.Parts.length:=by omega
   have ht:((fg c.Parts).take i).length≤100000:=by rw[List.length_take];omega
   have he:(fg c.Parts)[i]?=some (dR c.Parts[i]):=by rw[o9,List.getElem?_map,List.getElem?_eq_getElem h1];rfl
   rw[Dt,kB]
   simp only[eo,decide_eq_true h1,cond_true,ed,List.getElem?_eq_getElem h1,Option.bind_some,each _ (List.getElem_mem h1),nj (b:=56) (xs:=(fg c.Parts).take i) (y:=dR c.Parts[i]) (by omega) (by omega),ek (show i<9223372036854775807 by omega)]
   rw[show (fg c.Parts).take i++[dR c.Parts[i]]=(fg c.Parts).take (i+1) by rw[List.take_add_one,he];rfl]
   exact ihk (i+1) (by omega)
 rw[RT,yH]
 unfold vM
 rw[show pC (aE oP) c (0,[])=_ from key c.Parts.length 0 (by omega),bN]
 rcases kG hf1 with⟨o,e⟩ | ⟨o,e⟩ | ⟨o,e⟩ | ⟨o,p,e⟩ | ⟨o,p,q,e⟩ | ⟨o,p,q,e⟩
 ·rw[o,e];rfl
 ·rw[o,e];rfl
 ·rw[o,e]
  by_cases hd:c.Day=0
  ·rw[hd];rfl
  ·simp only[fg,mO,if_neg hd]
   simp only[show ((3:Int)==3)=true from rfl,cond_true,beq_eq_false_iff_ne.2 hd,cond_false,bN]
   rfl
 ·rw[o,e]
  have hpm:p∈c.Parts:=by rw[e];simp
  obtain⟨g1,_⟩:=Pc p hpm
  simp only[fg,mO]
  have gg:bf [dR p] 0=some (dR p):=rfl
  simp only[show ((4:Int)==3)=false from rfl,show ((4:Int)==4)=true from rfl,cond_true,cond_false,gg,Option.bind_some]
  by_cases h4:(dR p).Op=4
  ·rw[fJ,Bool.and_eq_true] at g1
   rcases kG g1.1 with⟨o',_⟩ | ⟨o',_⟩ | ⟨o',_⟩ | ⟨_,r,er⟩ | ⟨o',_⟩ | ⟨o',_⟩<;>try omega
   rw[show ((dR p).Op==4)=true from beq_iff_eq.2 h4,er,if_pos trivial,if_pos h4]
   rfl
  ·rw[show ((dR p).Op==4)=false from beq_eq_false_iff_ne.2 h4,if_pos trivial,if_neg h4]
   rfl
 all_goals
  have hpm:p∈c.Parts:=by rw[e];simp
  have hqm:q∈c.Parts:=by rw[e];simp
  obtain⟨g1,g2,g3,_⟩:=Pc p hpm
  obtain⟨k1,k2,k3,_⟩:=Pc q hqm
  have hnp:aj p≤100000:=by rw[e] at hn2;simp[az] at hn2;omega
  rw[o,e]
  simp only[fg,mO]
  generalize dR p=P at *
  generalize dR q=Q at *
  have gg0:bf [P,Q] 0=some P:=rfl
  have gg1:bf [P,Q] 1=some Q:=rfl
  rw[if_neg (by decide),if_neg (by decide),if_pos (by decide),BW]
 ·simp only[show ((5:Int)==3)=false from rfl,show ((5:Int)==4)=false from rfl,show ((5:Int)==5)=true from rfl,show ((5:Int)==6)=false from rfl,cond_true,cond_false,ef,H4 _ c 5 (.inl rfl) c.Name c.Day P Q g1 k1,gg0,gg1,Option.bind_some,GM P (by omega)]
  cases jp P<;>cases jp Q<;>cases iM P<;>cases iM Q<;>cases fH P Q<;>rfl
 ·simp only[show ((6:Int)==3)=false from rfl,show ((6:Int)==4)=false from rfl,show ((6:Int)==5)=false from rfl,show ((6:Int)==6)=true from rfl,cond_true,cond_false,ef,H4 _ c 6 (.inr rfl) c.Name c.Day P Q g1 k1,gg0,gg1,Option.bind_some,GM P (by omega)]
  cases jp P<;>cases jp Q<;>cases iM P<;>cases iM Q<;>cases fH P Q<;>rfl
theorem NQ (x:Condition):Condition.mk x.Op x.Name x.Day x.Parts=x:=by cases x;rfl
theorem Od (c:Condition):aj c≤100000→Lf c=some c:=by
 refine eN (P:=fun c=>aj c≤100000→Lf c=some c) ?_ c
 intro c ih hc
 have hn:=hc
 rw[b6] at hn
 have hl:c.Parts.length≤100000:=by rw[fD] at hn;omega
 rw[RR]
 unfold vJ
 have key:∀(k i:Nat),i+k=c.Parts.length→pB (aE oO) c ((i:Int),c.Parts.take i)=some (.inr c.Parts):=by
  intro k
  induction k with
  | zero=>
   intro i hi
   rw[Dr,kA,List.take_of_length_le (by omega)]
   simp only[eo,decide_eq_false (show ¬i<c.Parts.length by omega),cond_false]
  | succ k ihk=>
   intro i hi
   have h1:i<c.Parts.length:=by omega
   have hm:=List.getElem_mem h1
   have hp:aj c.Parts[i]≤100000:=by have:=BO (a:=c.Parts) h1;omega
   have ho:aE oO c.Parts[i]=some c.Parts[i]:=ih _ hm hp
   have ht:(c.Parts.take i).length≤100000:=by rw[List.length_take];omega
   rw[Dr,kA]
   simp only[eo,decide_eq_true h1,cond_true,ed,List.getElem?_eq_getElem h1,Option.bind_some,ho,nj (b:=56) (xs:=c.Parts.take i) (y:=c.Parts[i]) (by omega) (by omega),ek (show i<9223372036854775807 by omega)]
   rw[show c.Parts.take i++[c.Parts[i]]=c.Parts.take (i+1) by rw[List.take_add_one,List.getElem?_eq_getElem h1];rfl]
   exact ihk (i+1) (by omega)
 rw[show pB (aE oO) c (0,[])=_ from key c.Parts.length 0 (by omega),bN,NQ]
theorem D4 (a:Condition):aj a≤100000→xb a a=some true:=by
 refine eN (P:=fun a=>aj a≤100000→xb a a=some true) ?_ a
 intro a ih hn
 have hn2:=hn
 rw[b6] at hn2
 have hl:a.Parts.length≤100000:=by rw[fD] at hn2;omega
 rw[Pi]
 unfold qK
 simp only[bne_self_eq_false,beq_self_eq_true,Bool.not_true,cond_false,ef]
 rw[P6 (L:=pa (aE nR) a a) (a:=a.Parts) (p:=fun x y=>aE nR (x,y)) (r:=false)
  (fun x hx=>ih x hx (by obtain⟨i,hi,rfl⟩:=List.mem_iff_getElem.1 hx;have:=BO (a:=a.Parts) hi;omega)) (fun x=>by rw[Iq,kn]) (by omega)]
 rfl
def CV (t:ae):Prop:=t=[]∨∃b r,t=b::r∧(b=32∨b=41)
theorem Gt:∀(w s t:ae),w.all ft=true→s.all ft=true→CV t→s≠w→¬(w++[32]) <+: (s++t)
 | [],[],_,_,_,_,hn,_=>hn rfl
 | [],x::xs,t,_,hs,_,_,hp=>by
  rw[List.nil_append,List.cons_append,List.cons_prefix_cons] at hp
  rw[←hp.1] at hs
  simp[List.all_cons,show ft 32=false by decide] at hs
 | y::ys,[],t,hw,_,ht,_,hp=>by
  rw[List.nil_append,List.cons_append] at hp
  rcases ht with rfl | ⟨b,r,rfl,hb⟩
  ·simp at hp
  ·rw[List.cons_prefix_cons] at hp
   rw[hp.1] at hw
   rcases hb with rfl | rfl
   ·simp[List.all_cons,show ft 32=false by decide] at hw
   ·simp[List.all_cons,show ft 41=false by decide] at hw
 | y::ys,x::xs,t,hw,hs,ht,hn,hp=>by
  rw[List.cons_append,List.cons_append,List.cons_prefix_cons] at hp
  rw[List.all_cons,Bool.and_eq_true] at hw hs
  exact Gt ys xs t hw.2 hs.2 ht (fun e=>hn (by rw[hp.1,e])) hp.2
theorem kP (w u:ae)(n:Int)(f:Bool):pz ⟨w++u,n,f⟩ w=some (true,⟨u,n,f⟩):=by
 unfold pz xQ wV wX
 have e1:decide (len (w++u)≥len w)=true:=decide_eq_true (by simp only[len,List.length_append];omega)
 have e2:fy (w++u) 0 (len w)=some w:=by
  rw[show (0:Int)=((0:Nat):Int) by rfl,len,iZ (by omega) (by rw[List.length_append];omega)]
  simp
 have e3:fy (w++u) (len w) (len (w++u))=some u:=by
  simp only[len]
  rw[iZ (by rw[List.length_append];omega) (by omega)]
  simp
 simp only[e1,e2,e3,cond_true,Option.bind_some,beq_self_eq_true,bN,Bool.not_true,cond_false,ef]
theorem li (w s:ae)(h:¬w <+: s)(n:Int)(f:Bool):pz ⟨s,n,f⟩ w=some (false,⟨s,n,f⟩):=by
 unfold pz xQ wV wX
 by_cases hl:w.length≤s.length
 ·have e1:decide (len s≥len w)=true:=decide_eq_true (by simp only[len];omega)
  have e2:fy s 0 (len w)=some (s.take w.length):=by
   rw[show (0:Int)=((0:Nat):Int) by rfl,len,iZ (by omega) hl]
   simp
  have e3:(s.take w.length==w)=false:=beq_eq_false_iff_ne.2 fun e=>h (e▸List.take_prefix _ _)
  simp only[e1,e2,e3,cond_true,Option.bind_some,bN,Bool.not_false,cond_false,ef]
 ·have e1:decide (len s≥len w)=false:=decide_eq_false (by simp only[len];omega)
  simp only[e1,cond_true,Option.bind_some,bN,Bool.not_false,cond_false,ef]
theorem Sl (F:conditionReader→Option (Condition×conditionReader))(r:conditionReader)(b:Bool)(s t:ae)(n:Int)(f:Bool)(hs:s.all ft=true)(ht:CV t)(hl:s.length≤1000) :
  ∀(k i:Nat),i+k=s.length→py F r (b,⟨s++t,n,f⟩) (i:Int)=some (.inr (s.length:Int)):=by
 intro k
 induction k with
 | zero=>
  intro i hi
  obtain rfl:i=s.length:=by omega
  rw[Dg,ky]
  simp only[eo]
  rcases ht with rfl | ⟨c,u,rfl,hc⟩
  ·rw[decide_eq_false (by simp)];rfl
  ·rw[decide_eq_true (by simp)]
   simp only[cond_true,ed,List.getElem?_append_right (Nat.le_refl _),Nat.sub_self,List.getElem?_cons_zero,Option.bind_some]
   rcases hc with rfl | rfl<;>rfl
 | succ k ih=>
  intro i hi
  have h1:i<s.length:=by omega
  rw[Dg,ky]
  simp only[eo]
  have hc:ft s[i]=true:=(List.all_eq_true.1 hs) _ (List.getElem_mem h1)
  have n1:((s[i].toNat:Int) != 32)=true:=by
   rw[bne,Bool.not_eq_true',beq_eq_false_iff_ne]
   intro e
   simp[ft] at hc
   omega
  have n2:((s[i].toNat:Int) != 41)=true:=by
   rw[bne,Bool.not_eq_true',beq_eq_false_iff_ne]
   intro e
   simp[ft] at hc
   omega
  rw[decide_eq_true (by rw[List.length_append];omega)]
  simp only[cond_true,ed,List.getElem?_append_left h1,List.getElem?_eq_getElem h1,Option.bind_some,n1,n2,gG,ek (show i<9223372036854775807 by omega)]
  exact ih (i+1) (by omega)
theorem Qa {c:Condition}(h:lM c=true):c=⟨1,[],0,[]⟩∨(∃s,iP s=true∧c=⟨2,s,0,[]⟩)∨(∃d:Int,0≤d∧d≤36524∧c=⟨3,[],d,[]⟩)∨(∃p,c=⟨4,[],0,[p]⟩)∨(∃p q,c=⟨5,[],0,[p,q]⟩)∨(∃p q,c=⟨6,[],0,[p,q]⟩):=by
 have h0:=h
 obtain⟨o,m,d,ps⟩:=c
 unfold lM at h
 rcases kG h0 with⟨e,e'⟩ | ⟨e,e'⟩ | ⟨e,e'⟩ | ⟨e,p,e'⟩ | ⟨e,p,q,e'⟩ | ⟨e,p,q,e'⟩<;>simp only at e e'<;>subst e e'<;>simp at h
 ·obtain⟨rfl,rfl⟩:=h;exact .inl rfl
 ·obtain⟨hn,rfl⟩:=h;exact .inr (.inl ⟨m,hn,rfl⟩)
 ·obtain⟨rfl,hd⟩:=h;rw[ru] at hd;exact .inr (.inr (.inl ⟨d,hd.1,hd.2,rfl⟩))
 ·obtain⟨rfl,rfl⟩:=h;exact .inr (.inr (.inr (.inl ⟨p,rfl⟩)))
 ·obtain⟨rfl,rfl⟩:=h;exact .inr (.inr (.inr (.inr (.inl ⟨p,q,rfl⟩))))
 ·obtain⟨rfl,rfl⟩:=h;exact .inr (.inr (.inr (.inr (.inr ⟨p,q,rfl⟩))))
theorem Ob {s:ae}(h:iP s=true):s.all ft=true∧jM.contains s=false∧s.length≤8∧s≠[]:=by
 unfold iP at h
 cases s with
 | nil=>cases h
 | cons c r=>
  simp only[Bool.and_eq_true,Bool.not_eq_true',decide_eq_true_eq] at h
  exact⟨h.1.2,h.2,by rw[List.length_cons];omega,by simp⟩
theorem DT (s t:ae)(n:Nat)(hs:s.all ft=true)(hl:s.length≤1000)(h1:s≠[110,111,116])(h2:s≠[102,114,111,109])(h0:s≠[])(ht:CV t)(hn:n+1≤15) :
  AI ⟨s++t,(n:Int),false⟩=some (bif s==[116,114,117,101] then ⟨1,[],0,[]⟩ else ⟨2,s,0,[]⟩,⟨t,((n+1:Nat):Int),false⟩):=by
 rw[K9]
 unfold mp
 have e0:aF ((n:Int)+1)=((n+1:Nat):Int):=ek (by omega)
 have e1:decide (((n+1:Nat):Int)>15)=false:=decide_eq_false (by omega)
 have t1:=li ([110,111,116,32]:ae) (s++t) (Gt [110,111,116] s t (by decide) hs ht h1) ((n+1:Nat):Int) false
 have t2:=li ([102,114,111,109,32]:ae) (s++t) (Gt [102,114,111,109] s t (by decide) hs ht h2) ((n+1:Nat):Int) false
 have t3:pz ⟨s++t,((n+1:Nat):Int),false⟩ [40]=some (false,⟨s++t,((n+1:Nat):Int),false⟩):=li _ _ (by
  cases s with
  | nil=>exact absurd rfl h0
  | cons x xs=>
   rw[List.cons_append,List.cons_prefix_cons]
   rintro⟨rfl,_⟩
   simp[List.all_cons,show ft 40=false by decide] at hs) _ _
 have t4:=Sl (aE kg) ⟨s++t,(n:Int),false⟩ false s t ((n+1:Nat):Int) false hs ht hl s.length 0 (by omega)
 have e5:fy (s++t) 0 (s.length:Int)=some s:=by
  rw[show (0:Int)=((0:Nat):Int) by rfl,iZ (by omega) (by rw[List.length_append];omega)]
  simp
 have e6:fy (s++t) (s.length:Int) (len (s++t))=some t:=by
  simp only[len]
  rw[iZ (by rw[List.length_append];omega) (by omega)]
  simp
 simp only[e0,e1,ef,cond_false,t1,t2,t3,Option.bind_some]
 rw[show py (aE kg) ⟨s++t,(n:Int),false⟩ (false,⟨s++t,((n+1:Nat):Int),false⟩) 0=_ from t4,bN,e5,Option.bind_some,e6,Option.bind_some]
 cases s==[116,114,117,101]<;>rfl
theorem L4 (c:Condition):1≤aj c:=by rw[b6];omega
theorem Qx (c:Condition):cw c=true→bR c→aj c≤15→∃s:ae,FB c=some s∧s.length≤1000*aj c∧∀(t:ae) (n:Nat),CV t→n+aj c≤15→AI ⟨s++t,(n:Int),false⟩=some (c,⟨t,((n+aj c:Nat):Int),false⟩):=by
 refine eN (P:=fun c=>cw c=true→bR c→aj c≤15→∃s:ae,FB c=some s∧s.length≤1000*aj c∧∀(t:ae) (n:Nat),CV t→n+aj c≤15→AI ⟨s++t,(n:Int),false⟩=some (c,⟨t,((n+aj c:Nat):Int),false⟩)) ?_ c
 intro c ih hf hs hn
 have hnc:=b6 c
 have hsm:=(dQ _).1 hs
 rw[fJ,Bool.and_eq_true,List.all_eq_true] at hf
 obtain⟨hf1,hf2⟩:=hf
 have ih2:∀x∈c.Parts,aj x≤15→∃s:ae,FB x=some s∧s.length≤1000*aj x∧∀(t:ae) (n:Nat),CV t→n+aj x≤15→AI ⟨s++t,(n:Int),false⟩=some (x,⟨t,((n+aj x:Nat):Int),false⟩):=fun x hx=>ih x hx (hf2 x hx) (hsm.2.2.2.1.2 x hx)
 have e0:∀n:Nat,n+1≤15→aF ((n:Int)+1)=((n+1:Nat):Int):=fun n _=>ek (by omega)
 have e1:∀n:Nat,n+1≤15→decide (((n+1:Nat):Int)>15)=false:=fun n _=>decide_eq_false (by omega)
 have stp:∀(s:ae) (n:Nat),n+1≤15→AI ⟨s,(n:Int),false⟩=mp (aE kg) ⟨s,(n:Int),false⟩:=fun s n _=>K9 _
 clear ih
 rcases Qa hf1 with rfl | ⟨nm,hnm,rfl⟩ | ⟨d,d1,d2,rfl⟩ | ⟨p,rfl⟩ | ⟨p,q,rfl⟩ | ⟨p,q,rfl⟩
 ·have h1:aj ⟨1,[],0,[]⟩=1:=rfl
  refine⟨[116,114,117,101],by rw[qZ];rfl,by rw[h1];decide,fun t n ht hk=>?_⟩
  rw[h1] at hk ⊢
  rw[DT [116,114,117,101] t n (by decide) (by decide) (by decide) (by decide) (by decide) ht hk]
  rfl
 ·have h1:aj ⟨2,nm,0,[]⟩=1:=rfl
  obtain⟨g1,g2,g3,g4⟩:=Ob hnm
  have w0:∀w∈jM,nm≠w:=fun w hw e=>by rw[e,List.contains_iff_mem.2 hw] at g2;cases g2
  refine⟨nm,by rw[qZ];rfl,by rw[h1];omega,fun t n ht hk=>?_⟩
  rw[h1] at hk ⊢
  rw[DT nm t n g1 (by omega) (w0 _ (by decide)) (w0 _ (by decide)) g4 ht hk,beq_eq_false_iff_ne.2 (w0 [116,114,117,101] (by decide))]
  rfl
 ·have h1:aj ⟨3,[],d,[]⟩=1:=rfl
  obtain⟨Y,M,D,k1,k2⟩:=Js d d1 d2
  have k0:=k2
  obtain⟨q1,q2,q3,q4,q5,q6⟩:=k2
  have hm:=mi Y ((M+1:Nat):Int)
  obtain⟨y,rfl⟩:∃y:Nat,Y=y:=⟨Y.toNat,by omega⟩
  obtain⟨D,rfl⟩:∃d:Nat,D=d:=⟨D.toNat,by omega⟩
  have kt:=wF k0 k1
  have kp:=Oe k0 k1
  have kl:=(DA (y:=y) (M:=M) (d:=D) (by omega) (by omega) q3 (by omega)).2
  generalize jC y M D=T at kt kp kl
  have c1:ew ([102,114,111,109,32]:ae) T=some ([102,114,111,109,32]++T):=gZ (by simp only[List.length_cons,List.length_nil];omega)
  refine⟨[102,114,111,109,32]++T,?_,by rw[h1];simp only[List.length_append,List.length_cons,List.length_nil];omega,fun t n ht hk=>?_⟩
  ·rw[qZ]
   unfold oM
   show ((AY d).bind fun r2=>(ew ([102,114,111,109,32]:ae) r2).bind fun s3=>some s3)=_
   rw[kt,Option.bind_some,c1];rfl
  ·rw[h1] at hk ⊢
   rw[stp _ _ hk,List.append_assoc]
   unfold mp
   have t1:=li ([110,111,116,32]:ae) ([102,114,111,109,32]++(T++t)) (by rw[List.cons_append,List.cons_prefix_cons];rintro⟨h,_⟩;exact absurd h (by decide)) ((n+1:Nat):Int) false
   have t2:=kP ([102,114,111,109,32]:ae) (T++t) ((n+1:Nat):Int) false
   have l1:decide (len (T++t)<10)=false:=decide_eq_false (by simp only[len,List.length_append];omega)
   have l2:fy (T++t) 0 10=some T:=by
    rw[show (0:Int)=((0:Nat):Int) by rfl,show (10:Int)=((10:Nat):Int) by rfl,iZ (by omega) (by rw[List.length_append];omega)]
    rw[List.drop_zero,Nat.sub_zero,List.take_append_of_le_length (by omega),List.take_of_length_le (by omega)]
   have l3:fy (T++t) 10 (len (T++t))=some t:=by
    simp only[len]
    rw[show (10:Int)=((10:Nat):Int) by rfl,iZ (by rw[List.length_append];omega) (by omega)]
    rw[List.drop_append_of_le_length (by omega),List.drop_of_length_le (by omega),List.nil_append,List.take_of_length_le (by rw[List.length_append];omega)]
   simp only[e0 n hk,e1 n hk,ef,cond_false,t1,t2,l1,l2,l3,kp,cond_true,Option.bind_some,Bool.not_true]
 ·have hpm:p∈([p]:List Condition):=by simp
  simp only[az] at hnc
  obtain⟨u,u1,u2,u3⟩:=ih2 p hpm (by omega)
  have c1:ew ([110,111,116,32]:ae) u=some ([110,111,116,32]++u):=gZ (by simp only[List.length_cons,List.length_nil];omega)
  refine⟨[110,111,116,32]++u,?_,by simp only[List.length_append,List.length_cons,List.length_nil];omega,fun t n ht hk=>?_⟩
  ·rw[qZ]
   unfold oM
   show ((aE i8 p).bind _)=_
   rw[show aE i8 p=_ from u1,Option.bind_some,c1];rfl
  ·rw[stp _ _ (by omega),List.append_assoc]
   unfold mp
   have t1:=kP ([110,111,116,32]:ae) (u++t) ((n+1:Nat):Int) false
   have r1:=u3 t (n+1) ht (by omega)
   simp only[e0 n (by omega),e1 n (by omega),ef,cond_false,t1,cond_true,Option.bind_some]
   rw[show aE kg ⟨u++t,((n+1:Nat):Int),false⟩=_ from r1,Option.bind_some,show n+1+aj p=n+aj ⟨4,[],0,[p]⟩ by omega]
 all_goals
  have hpm:p∈([p,q]:List Condition):=by simp
  have hqm:q∈([p,q]:List Condition):=by simp
  simp only[az] at hnc
  have p1:=L4 p
  have p2:=L4 q
  obtain⟨a,a1,a2,a3⟩:=ih2 p hpm (by omega)
  obtain⟨b,b1,b2,b3⟩:=ih2 q hqm (by omega)
  have ap:kd 56 [p] [q]=some [p,q]:=nj (b:=56) (xs:=[p]) (y:=q) (by simp only[List.length_cons,List.length_nil];omega) (by simp only[List.length_cons,List.length_nil];omega)
  have c1:ew ([40]:ae) a=some ([40]++a):=gZ (by simp only[List.length_cons,List.length_nil];omega)
 ·have c2:ew ([40]++a) ([32,97,110,100,32]:ae)=some ([40]++a++[32,97,110,100,32]):=gZ (by simp only[List.length_append,List.length_cons,List.length_nil];omega)
  have c3:ew ([40]++a++[32,97,110,100,32]) b=some ([40]++a++[32,97,110,100,32]++b):=gZ (by simp only[List.length_append,List.length_cons,List.length_nil];omega)
  have c4:ew ([40]++a++[32,97,110,100,32]++b) ([41]:ae)=some ([40]++a++[32,97,110,100,32]++b++[41]):=gZ (by simp only[List.length_append,List.length_cons,List.length_nil];omega)
  refine⟨[40]++a++[32,97,110,100,32]++b++[41],?_,by simp only[List.length_append,List.length_cons,List.length_nil];omega,fun t n ht hk=>?_⟩
  ·rw[qZ]
   unfold oM
   show ((aE i8 p).bind fun r8=>(ew ([40]:ae) r8).bind fun s9=>(ew s9 ([32,97,110,100,32]:ae)).bind fun s10=>(aE i8 q).bind fun r12=>(ew s10 r12).bind fun s13=>(ew s13 ([41]:ae)).bind fun s14=>some s14)=_
   simp only[show aE i8 p=_ from a1,show aE i8 q=_ from b1,Option.bind_some,c1,c2,c3,c4]
  ·rw[stp _ _ (by omega)]
   simp only[List.append_assoc]
   have t1:=li ([110,111,116,32]:ae) ([40]++(a++([32,97,110,100,32]++(b++([41]++t))))) (by rw[List.cons_append,List.cons_prefix_cons];rintro⟨h,_⟩;exact absurd h (by decide)) ((n+1:Nat):Int) false
   have t2:=li ([102,114,111,109,32]:ae) ([40]++(a++([32,97,110,100,32]++(b++([41]++t))))) (by rw[List.cons_append,List.cons_prefix_cons];rintro⟨h,_⟩;exact absurd h (by decide)) ((n+1:Nat):Int) false
   have t3:=kP ([40]:ae) (a++([32,97,110,100,32]++(b++([41]++t)))) ((n+1:Nat):Int) false
   have r1:=a3 ([32,97,110,100,32]++(b++([41]++t))) (n+1) (.inr ⟨32,_,rfl,.inl rfl⟩) (by omega)
   have t4:=kP ([32,97,110,100,32]:ae) (b++([41]++t)) ((n+1+aj p:Nat):Int) false
   have r2:=b3 ([41]++t) (n+1+aj p) (.inr ⟨41,_,rfl,.inr rfl⟩) (by omega)
   have t5:=kP ([41]:ae) t ((n+1+aj p+aj q:Nat):Int) false
   unfold mp
   simp only[e0 n (by omega),e1 n (by omega),ef,cond_false,t1,t2,t3,cond_true,Option.bind_some,show aE kg ⟨a++([32,97,110,100,32]++(b++([41]++t))),((n+1:Nat):Int),false⟩=_ from r1,t4,Bool.not_true,bN,show aE kg ⟨b++([41]++t),((n+1+aj p:Nat):Int),false⟩=_ from r2,ap,t5]
   rw[show n+1+aj p+aj q=n+aj ⟨5,[],0,[p,q]⟩ by omega]
 ·have c2:ew ([40]++a) ([32,111,114,32]:ae)=some ([40]++a++[32,111,114,32]):=gZ (by simp only[List.length_append,List.length_cons,List.length_nil];omega)
  have c3:ew ([40]++a++[32,111,114,32]) b=some ([40]++a++[32,111,114,32]++b):=gZ (by simp only[List.length_append,List.length_cons,List.length_nil];omega)
  have c4:ew ([40]++a++[32,111,114,32]++b) ([41]:ae)=some ([40]++a++[32,111,114,32]++b++[41]):=gZ (by simp only[List.length_append,List.length_cons,List.length_nil];omega)
  refine⟨[40]++a++[32,111,114,32]++b++[41],?_,by simp only[List.length_append,List.length_cons,List.length_nil];omega,fun t n ht hk=>?_⟩
  ·rw[qZ]
   unfold oM
   show ((aE i8 p).bind fun r8=>(ew ([40]:ae) r8).bind fun s9=>(ew s9 ([32,111,114,32]:ae)).bind fun s10=>(aE i8 q).bind fun r12=>(ew s10 r12).bind fun s13=>(ew s13 ([41]:ae)).bind fun s14=>some s14)=_
   simp only[show aE i8 p=_ from a1,show aE i8 q=_ from b1,Option.bind_some,c1,c2,c3,c4]
  ·rw[stp _ _ (by omega)]
   simp only[List.append_assoc]
   have t1:=li ([110,111,116,32]:ae) ([40]++(a++([32,111,114,32]++(b++([41]++t))))) (by rw[List.cons_append,List.cons_prefix_cons];rintro⟨h,_⟩;exact absurd h (by decide)) ((n+1:Nat):Int) false
   have t2:=li ([102,114,111,109,32]:ae) ([40]++(a++([32,111,114,32]++(b++([41]++t))))) (by rw[List.cons_append,List.cons_prefix_cons];rintro⟨h,_⟩;exact absurd h (by decide)) ((n+1:Nat):Int) false
   have t3:=kP ([40]:ae) (a++([32,111,114,32]++(b++([41]++t)))) ((n+1:Nat):Int) false
   have r1:=a3 ([32,111,114,32]++(b++([41]++t))) (n+1) (.inr ⟨32,_,rfl,.inl rfl⟩) (by omega)
   have t4:=li ([32,97,110,100,32]:ae) ([32,111,114,32]++(b++([41]++t))) (by rw[List.cons_append,List.cons_prefix_cons,List.cons_append,List.cons_prefix_cons];rintro⟨_,h,_⟩;exact absurd h (by decide)) ((n+1+aj p:Nat):Int) false
   have t6:=kP ([32,111,114,32]:ae) (b++([41]++t)) ((n+1+aj p:Nat):Int) false
   have r2:=b3 ([41]++t) (n+1+aj p) (.inr ⟨41,_,rfl,.inr rfl⟩) (by omega)
   have t5:=kP ([41]:ae) t ((n+1+aj p+aj q:Nat):Int) false
   unfold mp
   simp only[e0 n (by omega),e1 n (by omega),ef,cond_false,t1,t2,t3,cond_true,Option.bind_some,show aE kg ⟨a++([32,111,114,32]++(b++([41]++t))),((n+1:Nat):Int),false⟩=_ from r1,t4,t6,Bool.not_true,Bool.not_false,bN,gG,show aE kg ⟨b++([41]++t),((n+1+aj p:Nat):Int),false⟩=_ from r2,ap,t5]
   rw[show n+1+aj p+aj q=n+aj ⟨6,[],0,[p,q]⟩ by omega]
theorem JC (c:Condition)(h:bR c)(hb:gP c=true):∃s:ae,E6 c=some (s,true)∧Fy s=some (c,true):=by
 have hv:=uV c h
 rw[hb] at hv
 unfold gP at hb
 rw[Bool.and_eq_true,decide_eq_true_eq] at hb
 obtain⟨s,s1,s2,s3⟩:=Qx c hb.1 h hb.2
 refine⟨s,?_,?_⟩
 ·unfold E6
  rw[hv,Option.bind_some,Bool.not_true,cond_false,s1,Option.bind_some]
 ·have r:=s3 [] 0 (.inl rfl) (by omega)
  rw[List.append_nil] at r
  unfold Fy
  rw[show AI ⟨s,0,false⟩=_ from r]
  simp only[Option.bind_some,cond_false,beq_self_eq_true,Bool.not_true,hv,s1,gG,bN]
def rB (l:List ae)(k:Nat):Bool:=match l[k]? with
 | some e=>iP e&&(match k with
  | 0=>true
  | j+1=>match l[j]? with
   | some p=>Op.bytesLess p e
   | none=>true)
 | none=>true
def lx (l:List ae):Bool:=decide (l.length≤16) && !((List.range l.length).any fun k=>!rB l k)
theorem Sm (a b:ae):(Op.bytesLess b a||b==a)=!Op.bytesLess a b:=by
 rcases StrL.tri a b with h | h | h
 ·have h2:Op.bytesLess b a=false:=Bool.eq_false_iff.2 fun h3=>StrL.Lt.asymm h h3
  have h3:(b==a)=false:=beq_eq_false_iff_ne.2 fun e=>StrL.Lt.ne h e.symm
  rw[h2,h3,show Op.bytesLess a b=true from h];rfl
 ·subst h
  rw[StrL.lt_irrefl,beq_self_eq_true];rfl
 ·have h2:Op.bytesLess a b=false:=Bool.eq_false_iff.2 fun h3=>StrL.Lt.asymm h h3
  rw[h2,show Op.bytesLess b a=true from h];rfl
theorem tt (l:List ae)(hl:Ca wM l)(k:Nat)(hk:k<l.length)(hk16:k≤16):iC l (k:Int)=bif !rB l k then some (.inl false) else iC l ((k+1:Nat):Int):=by
 have he:=List.getElem?_eq_getElem hk
 have hlen:l.length≤1048576:=hl.1
 rw[rT,ju,eo,decide_eq_true hk,cond_true,decide_eq_true (by omega),ef,cond_true,ed,he,Option.bind_some,D2 _ (hl.2 _ (List.getElem_mem hk)),Option.bind_some,ek (by omega)]
 cases k with
 | zero=>
  simp only[rB,he]
  cases iP l[0]<;>rfl
 | succ j=>
  have hj:j<l.length:=by omega
  rw[decide_eq_true (by omega),cond_true,show aF (((j+1:Nat):Int) - 1)=(j:Int) by rw[eI (by omega) (by omega)];omega,ed,List.getElem?_eq_getElem hj,Option.bind_some]
  simp only[rB,he,List.getElem?_eq_getElem hj,Option.bind_some]
  cases iP l[j+1]<;>cases Op.bytesLess l[j] l[j+1]<;>rfl
theorem D7 (l:List ae)(hl:Ca wM l)(k:Nat)(hk:k<l.length):mq l (k:Int)=bif !rB l k then some (.inl false) else mq l ((k+1:Nat):Int):=by
 have he:=List.getElem?_eq_getElem hk
 have hlen:l.length≤1048576:=hl.1
 rw[Dq,lW,eo,decide_eq_true hk,cond_true,ed,he,Option.bind_some,DI _ (hl.2 _ (List.getElem_mem hk)),Option.bind_some,ek (by omega)]
 cases k with
 | zero=>
  simp only[rB,he]
  cases iP l[0]<;>rfl
 | succ j=>
  have hj:j<l.length:=by omega
  rw[decide_eq_true (by omega),cond_true,show aF (((j+1:Nat):Int) - 1)=(j:Int) by rw[eI (by omega) (by omega)];omega,ed,List.getElem?_eq_getElem hj,Option.bind_some,Sm]
  simp only[rB,he,List.getElem?_eq_getElem hj]
  cases iP l[j+1]<;>cases Op.bytesLess l[j] l[j+1]<;>rfl
theorem vj {L:Nat→Option (Bool⊕Unit)}{n:Nat}{q:Nat→Bool}(hs:∀k,k<n→L k=bif q k then some (.inl false) else L (k+1))(he:L n=some (.inr ())):L 0=some (if (List.range n).any q then .inl false else .inr ()):=by
 refine FR (a:=List.range n) (q:=q) (y0:=(Sum.inl false:Bool⊕Unit)) (y1:=.inr ()) (L:=L) (fun i x hx=>?_) (by rw[List.length_range];exact he)
 obtain⟨hi,hx'⟩:=List.getElem?_eq_some_iff.1 hx
 rw[List.getElem_range] at hx'
 subst hx'
 rw[List.length_range] at hi
 exact hs i hi
theorem Jt (l:List ae)(hl:Ca wM l):FJ l=some (lx l):=by
 have hlen:l.length≤1048576:=hl.1
 have h:=vj (L:=fun k=>mq l (k:Int)) (n:=l.length) (q:=fun k=>!rB l k) (fun k hk=>D7 l hl k hk) (by
  show mq l (l.length:Int)=_
  rw[Dq,lW,eo,decide_eq_false (Nat.lt_irrefl _),cond_false])
 unfold FJ
 rw[show mq l 0=_ from h]
 unfold lx
 have h16:decide (len l≤16)=decide (l.length≤16):=by
  have:(len l≤16)↔l.length≤16:=by unfold len;omega
  simp only[this]
 cases (List.range l.length).any fun k=>!rB l k<;>simp[h16]
theorem JG (l:List ae)(hl:Ca wM l):xF l=some (lx l):=by
 have hlen:l.length≤1048576:=hl.1
 have h16:decide (len l≤16)=decide (l.length≤16):=by
  have:(len l≤16)↔l.length≤16:=by unfold len;omega
  simp only[this]
 unfold xF
 by_cases hm:l.length≤16
 ·have h:=vj (L:=fun k=>iC l (k:Int)) (n:=l.length) (q:=fun k=>!rB l k) (fun k hk=>tt l hl k hk (by omega)) (by
   show iC l (l.length:Int)=_
   rw[rT,ju,eo,decide_eq_false (Nat.lt_irrefl _),cond_false,ef,cond_false])
  rw[show iC l 0=_ from h]
  unfold lx
  cases (List.range l.length).any fun k=>!rB l k<;>simp[h16]
 ·have h:=vj (L:=fun k=>iC l (k:Int)) (n:=17) (q:=fun k=>!rB l k) (fun k hk=>tt l hl k (by omega) (by omega)) (by
   show iC l ((17:Nat):Int)=_
   rw[rT,ju,eo]
   by_cases h17:17<l.length
   ·rw[decide_eq_true h17];rfl
   ·rw[decide_eq_false h17];rfl)
  rw[show iC l 0=_ from h]
  unfold lx
  rw[h16,decide_eq_false hm]
  cases (List.range 17).any fun k=>!rB l k<;>rfl
def mj (x:Condition)(K:Nat):Prop:=bR x∧aj x≤K
theorem iX {x:Condition}{K M:Nat}(h:mj x K)(hm:K≤M):mj x M:=⟨h.1,Nat.le_trans h.2 hm⟩
theorem ve (o:Int)(s:ae)(d:Int)(l:List Condition)(K:Nat)(hs:s.length≤1048576)(hl:∀x∈l,bR x)(hn:l.length≤1048576)(hK:az l≤K)(h9:K≤1000):mj ⟨o,s,d,l⟩ (K+1):=by
 refine⟨(dQ _).2 ⟨by simp[tn],by show s.length≤1048576;omega,by simp[tn],⟨by show l.length≤1048576;omega,hl⟩,by show az l≤1048576;omega⟩,?_⟩
 rw[b6]
 show 1+az l≤K+1
 omega
theorem yx (o:Int)(s:ae)(d:Int)(hs:s.length≤1000):mj ⟨o,s,d,[]⟩ 1:=ve o s d [] 0 (by omega) (by simp) (by simp) (by simp[az]) (by omega)
theorem H3 (o:Int)(s:ae)(d:Int){x:Condition}{K:Nat}(hs:s.length≤1000)(h:mj x K)(hK:K≤1000):mj ⟨o,s,d,[x]⟩ (K+1):=ve o s d [x] K (by omega) (by simp[h.1]) (by simp) (by simpa[az] using h.2) hK
theorem Qt (o:Int)(s:ae)(d:Int){x y:Condition}{K L:Nat}(hs:s.length≤1000)(h:mj x K)(h2:mj y L)(hK:K+L≤1000):mj ⟨o,s,d,[x,y]⟩ (K+L+1):=ve o s d [x,y] (K+L) (by omega) (by intro z hz;simp at hz;rcases hz with rfl | rfl;exact h.1;exact h2.1) (by simp) (by have:=h.2;have:=h2.2;simp[az];omega) hK
noncomputable def O8 (c:l1Cur):Option (Condition×l1Cur):=(hZ c 6).bind fun r4=>bif (r4.1==0) then (some ((Condition.mk 1 [] 0 []),r4.2)) else (d4 (bif (r4.1==1) then ((r4.1==1)) else ((r4.1==2))) fun u5:Bool=>bif u5 then ((pk r4.2 [0,3,10,40,366]).bind fun r6=>some ((Condition.mk 3 [] r6.1 []),r6.2)) else ((rR).bind fun r7=>(ou r4.2 r7).bind fun r8=>some ((Condition.mk 2 r8.1 0 []),r8.2)))
theorem HW (c:l1Cur)(n:Nat)(h:ge c n)(hn:n≤800000):∃x c',O8 c=some (x,c')∧mj x 1∧ge c' (n+4):=by
 unfold O8
 obtain⟨k,c1,e1,_,_,ok1⟩:=gy c n 6 h (by omega) (by omega)
 rw[e1,Option.bind_some]
 cases k==0 with
 | true=>exact⟨_,_,rfl,yx _ _ _ (by simp),dP ok1 (by omega)⟩
 | false=>
  rw[cond_false,ef]
  cases (bif k==1 then k==1 else k==2) with
  | true=>
   obtain⟨x,c2,e2,_,ok2⟩:=sk c1 (n+2) [0,3,10,40,366] ok1 (by omega) (by simp) (by simp)
   rw[cond_true,e2]
   exact⟨_,_,rfl,yx _ _ _ (by simp),ok2⟩
  | false=>
   unfold rR
   obtain⟨x,c2,e2,m2,ok2⟩:=E2 c1 (n+2) [([112,97,105,100]:ae),([115,101,110,116]:ae),([108,97,116,101]:ae),([97]:ae),([98]:ae)] ok1 (by omega) (by simp) (by simp)
   rw[cond_false,Option.bind_some,e2]
   have hx:x.length≤1000:=(show ∀z∈[([112,97,105,100]:ae),([115,101,110,116]:ae),([108,97,116,101]:ae),([97]:ae),([98]:ae)],z.length≤1000 by decide) x m2
   exact⟨_,_,rfl,yx _ _ _ hx,ok2⟩
theorem FW:∀(k:Nat) (c:l1Cur) (n:Nat),k≤4→ge c n→n+12*3 ^ k≤700000→∃x c',Iw c (k:Int)=some (x,c')∧mj x (3 ^ k)∧ge c' (n+12*3 ^ k)
 | 0,c,n,_,h,hn=>by
  obtain⟨x,c',e,h1,h2⟩:=HW c n h (by omega)
  refine⟨x,c',?_,h1,dP h2 (by omega)⟩
  rw[Ht]
  unfold pm
  rw[decide_eq_true (by omega),cond_true,bN,cond_true]
  exact e
 | k+1,c,n,hk,h,hn=>by
  have p:3 ^ (k+1)=3*3 ^ k:=by rw[Nat.pow_succ];omega
  have p1:1≤3 ^ k:=Nat.one_le_pow k 3 (by omega)
  have p2:3 ^ k≤3 ^ 3:=Nat.pow_le_pow_right (by omega) (by omega)
  rw[Ht]
  unfold pm
  obtain⟨b,c1,e1,ok1⟩:∃(b:Bool) (c1:l1Cur),(bif decide (((k+1:Nat):Int)≤1) then (some (Sum.inr (α:=Condition×l1Cur) (true,c.f_code,c.f_at,c.f_seed))) else ((pn c 3).bind fun r14=>some (.inr (r14.1,r14.2.f_code,r14.2.f_at,r14.2.f_seed))))=some (.inr (b,c1.f_code,c1.f_at,c1.f_seed))∧ge c1 (n+2):=by
   by_cases hd:((k+1:Nat):Int)≤1
   ·rw[decide_eq_true hd,cond_true]
    exact⟨true,c,rfl,dP h (by omega)⟩
   ·obtain⟨b,c1,e1,ok1⟩:=Gw c n 3 h (by omega) (by omega)
    rw[decide_eq_false hd,cond_false,e1]
    exact⟨b,c1,rfl,ok1⟩
  rw[e1,bN]
  cases b with
  | true=>
   obtain⟨x,c',e,h1,h2⟩:=HW c1 (n+2) ok1 (by omega)
   exact⟨x,c',e,iX h1 (by omega),dP h2 (by omega)⟩
  | false=>
   obtain⟨b2,c2,e2,ok2⟩:=Gw c1 (n+2) 3 ok1 (by omega) (by omega)
   have hw:aF (((k+1:Nat):Int) - 1)=(k:Int):=by rw[eI (by omega) (by omega)];omega
   have rec1:=fun (c:l1Cur) (n:Nat) (h:ge c n) (hn:n+12*3 ^ k≤700000)=>FW k c n (by omega) h hn
   rw[cond_false]
   show ∃x c',((pn c1 3).bind fun r9=>_)=some (x,c')∧_
   rw[e2,Option.bind_some]
   simp only[hw]
   cases b2 with
   | true=>
    obtain⟨x,c3,e3,h3,ok3⟩:=rec1 c2 (n+2+2) ok2 (by omega)
    rw[cond_true,show aE kr (c2,(k:Int))=_ from e3]
    exact⟨_,_,rfl,iX (H3 4 [] 0 (by simp) h3 (by omega)) (by omega),dP ok3 (by omega)⟩
   | false=>
    obtain⟨q,c3,e3,_,_,ok3⟩:=gy c2 (n+2+2) 2 ok2 (by omega) (by omega)
    obtain⟨x,c4,e4,h4,ok4⟩:=rec1 c3 (n+2+2+2) ok3 (by omega)
    obtain⟨y,c5,e5,h5,ok5⟩:=rec1 c4 (n+2+2+2+12*3 ^ k) ok4 (by omega)
    rw[cond_false,e3,Option.bind_some]
    show ∃x c',((aE kr (c3,(k:Int))).bind fun r12=>_)=some (x,c')∧_
    rw[show aE kr (c3,(k:Int))=_ from e4,Option.bind_some]
    show ∃x c',((aE kr (c4,(k:Int))).bind fun r12=>_)=some (x,c')∧_
    rw[show aE kr (c4,(k:Int))=_ from e5,Option.bind_some]
    exact⟨_,_,rfl,iX (Qt _ [] 0 (by simp) h4 h5 (by omega)) (by omega),dP ok5 (by omega)⟩
theorem uJ (c:l1Cur)(n:Nat)(h:ge c n)(hn:n≤600000):∃x c',tJ c=some (x,c')∧mj x 27∧ge c' (n+400):=by
 unfold tJ
 obtain⟨q,c1,e1,q0,q1,ok1⟩:=gy c n 3 h (by omega) (by omega)
 obtain⟨k,hk,hk3⟩:∃k:Nat,aF (1+q)=(k:Int)∧k≤3:=⟨(1+q).toNat,by rw[eI (by omega) (by omega)];omega,by omega⟩
 have p2:3 ^ k≤3 ^ 3:=Nat.pow_le_pow_right (by omega) hk3
 obtain⟨x,c2,e2,h2,ok2⟩:=FW k c1 (n+2) (by omega) ok1 (by omega)
 rw[e1,Option.bind_some,hk,e2]
 exact⟨_,_,rfl,iX h2 (by omega),dP ok2 (by omega)⟩
theorem HZ:∀(l:List Condition) (x:Condition),az (l++[x])=az l+aj x
 | [],x=>by simp[az]
 | y::l,x=>by simp only[List.cons_append,az,HZ l x];omega
theorem HH (c:l1Cur)(r:Int×l1Cur)(h0:0≤r.1)(h1:r.1≤2):∀(k:Nat) (x:Condition),mj x 40→16≤aj x+k→k≤20→∃y:Condition,qN c r (x.Op,x.Name,x.Day,x.Parts)=some (.inr (y.Op,y.Name,y.Day,y.Parts))∧mj y 40
 | k,x,hx,hk,hk2=>by
  have hsz:xO x=some ((aj x:Nat):Int):=D3 x (by have:=hx.2;omega)
  have hw:aF (14+r.1)=14+r.1:=eI (by omega) (by omega)
  rw[Iu,l6]
  simp only[NQ,hsz,Option.bind_some,hw]
  by_cases hlt:((aj x:Nat):Int)<14+r.1
  ·rw[decide_eq_true hlt,cond_true]
   have hx2:mj ⟨4,[],0,[x]⟩ 40:=iX (H3 4 [] 0 (K:=aj x) (by simp) ⟨hx.1,Nat.le_refl _⟩ (by have:=hx.2;omega)) (by omega)
   have hn2:aj ⟨4,[],0,[x]⟩=aj x+1:=by rw[b6];simp[az];omega
   cases k with
   | zero=>omega
   | succ k=>exact HH c r h0 h1 k ⟨4,[],0,[x]⟩ hx2 (by omega) (by omega)
  ·rw[decide_eq_false hlt,cond_false]
   exact⟨x,rfl,hx⟩
theorem Bt (c:l1Cur)(n:Nat)(h:ge c n)(hn:n≤500000):∃x c',xo c=some (x,c')∧mj x 60∧ge c' (n+1000):=by
 unfold xo
 obtain⟨x,c1,e1,h1,ok1⟩:=uJ c n h (by omega)
 obtain⟨q,c2,e2,_,_,ok2⟩:=gy c1 (n+400) 20 ok1 (by omega) (by omega)
 rw[e1,Option.bind_some]
 show ∃y c',((hZ c1 20).bind fun r3=>_)=some (y,c')∧_
 rw[e2,Option.bind_some]
 have fin:∀(w:l1Cur) (y:Condition),ge w (n+1000)→mj y 60→∃z c',(bI (ρ:=Condition×l1Cur) (some (.inr (w.f_code,w.f_at,w.f_seed,y.Op,y.Name,y.Day,y.Parts))) fun u4:(List Int)×Int×Int×Int×ae×Int×(List Condition)=>some ((Condition.mk u4.2.2.2.1 u4.2.2.2.2.1 u4.2.2.2.2.2.1 u4.2.2.2.2.2.2),(l1Cur.mk u4.1 u4.2.1 u4.2.2.1)))=some (z,c')∧mj z 60∧ge c' (n+1000):=fun w y hw hy=>⟨y,w,by rw[bN];simp only[NQ],hy,hw⟩
 have hxs:=(dQ x).1 h1.1
 have hnx:=h1.2
 rw[b6] at hnx
 have hpl:x.Parts.length≤27:=by rw[fD] at hnx;omega
 have hnm:x.Name.length≤1048576:=hxs.2.1
 have mk1:∀(o:Int) (s:ae) (d:Int),s.length≤1048576→mj ⟨o,s,d,x.Parts⟩ 60:=fun o s d hs=>iX (ve o s d x.Parts 59 hs hxs.2.2.2.1.2 (by omega) (by omega) (by omega)) (by omega)
 cases q0:q==0 with
 | true=>
  obtain⟨k,c3,e3,_,_,ok3⟩:=gy c2 (n+400+2) 8 ok2 (by omega) (by omega)
  simp only[q0,cond_true,e3,Option.bind_some]
  exact fin c3 ⟨k,x.Name,x.Day,x.Parts⟩ (dP ok3 (by omega)) (mk1 _ _ _ hnm)
 | false=>
 cases q1:q==1 with
 | true=>
  obtain⟨s,c3,e3,m3,ok3⟩:=E2 c2 (n+400+2) [([]:ae),([65]:ae),([97,98,99,100,101,102,103,104]:ae),([97,98,99,100,101,102,103,104,105]:ae),([116,114,117,101]:ae),([120,57]:ae)] ok2 (by omega) (by simp) (by simp)
  have hs:s.length≤1000:=(show ∀z∈[([]:ae),([65]:ae),([97,98,99,100,101,102,103,104]:ae),([97,98,99,100,101,102,103,104,105]:ae),([116,114,117,101]:ae),([120,57]:ae)],z.length≤1000 by decide) s m3
  simp only[q0,q1,cond_true,cond_false,e3,Option.bind_some,gl]
  exact fin c3 ⟨x.Op,s,x.Day,x.Parts⟩ (dP ok3 (by omega)) (mk1 _ _ _ (by omega))
 | false=>
 cases q2:q==2 with
 | true=>
  obtain⟨d,c3,e3,ok3⟩:=Ls c2 (n+400+2) ok2 (by omega)
  simp only[q0,q1,q2,cond_true,cond_false,e3,Option.bind_some,gl]
  exact fin c3 ⟨x.Op,x.Name,d,x.Parts⟩ (dP ok3 (by omega)) (mk1 _ _ _ hnm)
 | false=>
 cases q3:q==3 with
 | true=>
  obtain⟨y,c3,e3,h3,ok3⟩:=uJ c2 (n+400+2) ok2 (by omega)
  simp only[q0,q1,q2,q3,cond_true,cond_false,e3,Option.bind_some,gl,nj (b:=56) (xs:=x.Parts) (y:=y) (by omega) (by omega)]
  refine fin c3 ⟨x.Op,x.Name,x.Day,x.Parts++[y]⟩ (dP ok3 (by omega)) (iX (ve x.Op x.Name x.Day (x.Parts++[y]) 59 hnm ?_ (by simp;omega) (by rw[HZ];have:=h3.2;omega) (by omega)) (by omega))
  intro z hz
  rcases List.mem_append.1 hz with hz | hz
  ·exact hxs.2.2.2.1.2 z hz
  ·rw[List.mem_singleton] at hz;subst hz;exact h3.1
 | false=>
 cases q4:q==4 with
 | true=>
  obtain⟨r,c3,e3,r0,r1,ok3⟩:=gy c2 (n+400+2) 3 ok2 (by omega) (by omega)
  obtain⟨y,y1,y2⟩:=HH c (r,c3) r0 (by show r≤2;omega) 16 x (iX h1 (by omega)) (by omega) (by omega)
  simp only[q0,q1,q2,q3,q4,cond_true,cond_false,e3,Option.bind_some,gl,y1]
  exact fin c3 y (dP ok3 (by omega)) (iX y2 (by omega))
 | false=>
  simp only[q0,q1,q2,q3,q4,cond_false,gl]
  exact fin c2 x (dP ok2 (by omega)) (iX h1 (by omega))
theorem P4:∀i:_root_.Fin 10,fy ([48,49,50,51,52,53,54,55,56,57]:ae) (i.val:Int) ((i.val+1:Nat):Int)=some [UInt8.ofNat (48+i.val)]:=by decide
theorem HI (i:Nat)(h:i<10):fy ([48,49,50,51,52,53,54,55,56,57]:ae) (i:Int) ((i+1:Nat):Int)=some [UInt8.ofNat (48+i)]:=P4 ⟨i,h⟩
def yw (i:Nat):ae:=if i<10 then [UInt8.ofNat (48+i)] else [UInt8.ofNat (48+i / 10),UInt8.ofNat (48+i % 10)]
theorem H1 (i:Nat)(h:i<10):Fm (i:Int)=some [UInt8.ofNat (48+i)]:=by
 rw[Hu]
 unfold po
 rw[decide_eq_false (by omega),cond_false,decide_eq_true (by omega),cond_true,ek (by omega),HI i h,Option.bind_some]
theorem Qs (i:Nat)(h:i<100):Fm (i:Int)=some (yw i):=by
 unfold yw
 by_cases h1:i<10
 ·rw[if_pos h1,H1 i h1]
 ·have t1:(i:Int).tdiv 10=((i / 10:Nat):Int):=by rw[Int.tdiv_eq_ediv_of_nonneg (by omega)];omega
  have t2:(i:Int).tmod 10=((i % 10:Nat):Int):=by rw[Int.tmod_eq_emod_of_nonneg (by omega)];omega
  have e:aE pq ((i / 10:Nat):Int)=some [UInt8.ofNat (48+i / 10)]:=H1 (i / 10) (by omega)
  rw[if_neg h1,Hu]
  unfold po
  rw[decide_eq_false (by omega),cond_false,decide_eq_false (by omega),cond_false,t1,t2,eI (by omega) (by omega),ek (by omega),e,Option.bind_some,HI (i % 10) (by omega),Option.bind_some,gZ (by simp),Option.bind_some]
  rfl
theorem Gm:∀{a b:List ae},a.Nodup→(∀x∈a,x∈b)→a.length≤b.length
 | [],b,_,_=>by simp
 | x::xs,b,hd,hm=>by
  rw[List.nodup_cons] at hd
  have h1:=hm x (by simp)
  have h2:=Gm (a:=xs) (b:=b.erase x) hd.2 fun y hy=>(List.mem_erase_of_ne (fun e=>hd.1 (by subst e;exact hy))).2 (hm y (List.mem_cons_of_mem _ hy))
  rw[List.length_erase_of_mem h1] at h2
  have:=List.length_pos_of_mem h1
  simp only[List.length_cons]
  omega
def ss:List ae:=[([112,97,105,100]:ae),([115,101,110,116]:ae),([108,97,116,101]:ae),([97]:ae),([98]:ae)]
theorem F3 (c0:l1Cur):∀(k:Nat) (c:l1Cur) (n:Nat) (l:List ae),ge c n→k≤100→n+2*k≤600000→l.Pairwise StrL.Lt→l.length≤100→(∀x∈l,x∈ss)→∃(c':l1Cur) (l':List ae),qP c0 ((k:Int),c.f_code,c.f_at,c.f_seed,l)=some (.inr (c'.f_code,c'.f_at,c'.f_seed,l'))∧ge c' (n+2*k)∧l'.Pairwise StrL.Lt∧l'.length≤l.length+k∧∀x∈l',x∈ss
 | 0,c,n,l,h,hk,hn,hp,hl,hm=>by
  refine⟨c,l,?_,dP h (by omega),hp,by omega,hm⟩
  rw[zC,ks]
  simp only[show decide (((0:Nat):Int)>0)=false from rfl,cond_false]
 | k+1,c,n,l,h,hk,hn,hp,hl,hm=>by
  obtain⟨s,c1,e1,m1,ok1⟩:=E2 c n ss h (by omega) (by simp[ss]) (by simp[ss])
  obtain⟨r,e2,p2,m2,l2⟩:=StrL.put_val l s (by omega) hp
  by_cases h100:r.length≤100
  ·obtain⟨c',l',e3,ok3,p3,l3,m3⟩:=F3 c0 k c1 (n+2) r ok1 (by omega) (by omega) p2 h100 (fun x hx=>by
    rcases (m2 x).1 hx with h1 | rfl
    ·exact hm x h1
    ·exact m1)
   refine⟨c',l',?_,dP ok3 (by omega),p3,by omega,m3⟩
   have e1':ou (l1Cur.mk c.f_code c.f_at c.f_seed) [([112,97,105,100]:ae),([115,101,110,116]:ae),([108,97,116,101]:ae),([97]:ae),([98]:ae)]=some (s,c1):=e1
   rw[zC,ks]
   unfold rR
   simp only[decide_eq_true (show ((k+1:Nat):Int)>0 by omega),cond_true,Option.bind_some,e1',e2]
   rw[show aF (((k+1:Nat):Int) - 1)=(k:Int) by rw[eI (by omega) (by omega)];omega]
   exact e3
  ·exfalso
   -- five names at most
   have hsub:∀x∈r,x∈ss:=fun x hx=>by
    rcases (m2 x).1 hx with h1 | rfl
    ·exact hm x h1
    ·exact m1
   have hnd:r.Nodup:=p2.imp fun {x y} hxy e=>by subst e;exact hxy.irrefl
   have:=Gm hnd hsub
   simp[ss] at this
   omega
theorem su:∀x∈ss,x.length≤30∧x.head?≠some 120:=by decide
theorem NR (c:l1Cur)(n:Nat)(h:ge c n)(hn:n≤500000):∃l c',xB c=some (l,c')∧l.Pairwise StrL.Lt∧l.length≤4∧(∀x∈l,x∈ss)∧ge c' (n+20):=by
 unfold xB
 obtain⟨q,c1,e1,q0,q1,ok1⟩:=gy c n 4 h (by omega) (by omega)
 obtain⟨k,hk⟩:∃k:Nat,q=k:=⟨q.toNat,by omega⟩
 subst hk
 obtain⟨c',l',e2,ok2,p2,l2,m2⟩:=F3 c k c1 (n+2) [] ok1 (by omega) (by omega) List.Pairwise.nil (by simp) (by simp)
 simp only[e1,Option.bind_some,e2,bN]
 exact⟨_,_,rfl,p2,by simp at l2;omega,m2,dP ok2 (by omega)⟩
def xn (i:Nat):ae:=120::yw i
theorem SB:∀i:_root_.Fin 30,∀j:_root_.Fin 30,xn i.val=xn j.val→i=j:=by decide
theorem Lu (c0:l1Cur):∀(k i:Nat) (c:l1Cur) (n:Nat) (l:List ae),i+k=20→ge c n→n+2*k≤500000→l.Pairwise StrL.Lt→l.length≤100→i≤l.length→(∀x∈l,x.length≤30∧(x.head?≠some 120∨∃j,j<i∧x=xn j))→∃(c':l1Cur) (l':List ae),pd c0 ((i:Int),c.f_code,c.f_at,c.f_seed,l)=some (.inr (c'.f_code,c'.f_at,c'.f_seed,l'))∧ge c' (n+2*k+2)∧l'.length≤1000∧∀x∈l',x.length≤30
 | k,i,c,n,l,hi,h,hn,hp,hl,hil,hm=>by
  obtain⟨q,c1,e1,q0,q1,ok1⟩:=gy c n 2 h (by omega) (by omega)
  have e1':hZ (l1Cur.mk c.f_code c.f_at c.f_seed) 2=some (q,c1):=e1
  have hw:aF (16+q)=16+q:=eI (by omega) (by omega)
  rw[Iv,l7]
  simp only[e1',Option.bind_some,hw]
  by_cases hlt:len l<16+q
  ·have hlt2:l.length<18:=by simp only[len] at hlt;omega
   cases k with
   | zero=>omega
   | succ k=>
    have hnum:=Qs i (by omega)
    have hnl:(yw i).length≤2:=by unfold yw;split<;>simp
    have hcat:ew ([120]:ae) (yw i)=some (xn i):=by
     rw[gZ (by simp only[List.length_singleton];omega)];rfl
    obtain⟨r,e2,p2,m2,l2⟩:=StrL.put_val l (xn i) (by omega) hp
    have hnew:xn i∉l:=fun hx=>by
     rcases (hm _ hx).2 with h1 | ⟨j,h1,h2⟩
     ·exact h1 rfl
     ·have:=SB ⟨i,by omega⟩ ⟨j,by omega⟩ h2
      have:=congrArg (fun z:_root_.Fin 30=>z.val) this
      simp only at this
      omega
    have hlen:l.length+1≤r.length:=by
     have hnd:(xn i::l).Nodup:=List.nodup_cons.2 ⟨hnew,hp.imp fun {x y} hxy e=>by subst e;exact hxy.irrefl⟩
     have hsub:∀x∈xn i::l,x∈r:=fun x hx=>by
      rw[m2]
      rcases List.mem_cons.1 hx with h1 | h1
      ·exact .inr h1
      ·exact .inl h1
     have:=Gm hnd hsub
     simpa using this
    obtain⟨c',l',e3,ok3,l3,m3⟩:=Lu c0 k (i+1) c1 (n+2) r (by omega) ok1 (by omega) p2 (by omega) (by omega) (fun x hx=>by
     rcases (m2 x).1 hx with h1 | rfl
     ·refine⟨(hm x h1).1,(hm x h1).2.imp id fun⟨j,h2,h3⟩=>⟨j,by omega,h3⟩⟩
     ·refine⟨?_,.inr ⟨i,by omega,rfl⟩⟩
      show (yw i).length+1≤30
      omega)
    refine⟨c',l',?_,dP ok3 (by omega),l3,m3⟩
    rw[decide_eq_true hlt,cond_true]
    simp only[hnum,Option.bind_some,hcat,e2,ek (show i<9223372036854775807 by omega)]
    exact e3
  ·rw[decide_eq_false hlt,cond_false]
   exact⟨c1,l,rfl,dP ok1 (by omega),by omega,fun x hx=>(hm x hx).1⟩
theorem G9 (c:l1Cur)(n:Nat)(h:ge c n)(hn:n≤400000):∃l c',xt c=some (l,c')∧l.length≤1000∧(∀x∈l,x.length≤30)∧ge c' (n+1000):=by
 unfold xt
 obtain⟨l,c1,e1,p1,l1,m1,ok1⟩:=NR c n h (by omega)
 obtain⟨q,c2,e2,_,_,ok2⟩:=gy c1 (n+20) 20 ok1 (by omega) (by omega)
 simp only[e1,Option.bind_some,e2]
 cases q==0 with
 | true=>
  obtain⟨s,c3,e3,m3,ok3⟩:=E2 c2 (n+20+2) [([97]:ae),([122,122]:ae),([]:ae),([111,114]:ae)] ok2 (by omega) (by simp) (by simp)
  have hs:s.length≤30:=(show ∀z∈[([97]:ae),([122,122]:ae),([]:ae),([111,114]:ae)],z.length≤30 by decide) s m3
  simp only[cond_true,e3,Option.bind_some,nj (b:=16) (xs:=l) (y:=s) (by omega) (by omega),bN]
  refine⟨_,_,rfl,by simp;omega,fun x hx=>?_,dP ok3 (by omega)⟩
  rcases List.mem_append.1 hx with h1 | h1
  ·exact (su x (m1 x h1)).1
  ·rw[List.mem_singleton] at h1;subst h1;exact hs
 | false=>
  cases q==1 with
  | true=>
   obtain⟨c',l',e3,ok3,l3,m3⟩:=Lu c 20 0 c2 (n+20+2) l (by omega) ok2 (by omega) p1 (by omega) (by omega) (fun x hx=>⟨(su x (m1 x hx)).1,.inl (su x (m1 x hx)).2⟩)
   have e3':pd c (0,c2.f_code,c2.f_at,c2.f_seed,l)=_:=e3
   simp only[cond_true,cond_false,e3',gl,bN]
   exact⟨_,_,rfl,l3,m3,dP ok3 (by omega)⟩
  | false=>
   simp only[cond_false,gl,bN]
   exact⟨_,_,rfl,by omega,fun x hx=>(su x (m1 x hx)).1,dP ok2 (by omega)⟩
theorem NO (code:List Int)(h:Gv (Gu .u8) code):∃a f d,xh code=some (a,f,d)∧mj a 60∧(f.length≤1000∧∀x∈f,x.length≤30):=by
 unfold xh
 obtain⟨x,c1,e1,h1,ok1⟩:=Bt (l1Cur.mk code 0 0) 0 (Ou h) (by omega)
 obtain⟨f,c2,e2,l2,m2,ok2⟩:=G9 c1 (0+1000) ok1 (by omega)
 obtain⟨d,c3,e3,_,ok3⟩:=sk c2 (0+1000+1000) [0,2,3,9,10,11,40,366,(-1),36524,36525] ok2 (by omega) (by simp) (by simp)
 rw[e1,Option.bind_some]
 simp only[e2,Option.bind_some,e3]
 exact⟨_,_,_,rfl,h1,l2,m2⟩
def uL (d:Int):Bool:=mB d 0 36524
theorem Ot (d:Int):rN d=some (uL d):=by
 unfold rN
 rw[Ik]
 rfl
theorem N0 (d:Int):oE d=some (uL d):=by
 unfold oE
 rw[CK]
 rfl
theorem Mk {c:Condition}(hc:bR c){f:List ae}(hf:Ca wM f)(d:Int):xj c f d=some (bif gP c&&(lx f&&uL d) then (dH c f d,true) else (false,false)):=by
 unfold xj
 rw[D1 c hc,Option.bind_some]
 cases h1:gP c with
 | false=>rfl
 | true=>
  have hfm:cw c=true:=by simp only[gP,Bool.and_eq_true] at h1;exact h1.1
  simp only[Bool.not_true,cond_false,JG f hf,Ot,Option.bind_some]
  cases lx f with
  | false=>rfl
  | true=>
   cases uL d with
   | false=>rfl
   | true=>
    simp only[Bool.not_true,cond_false,gG,bN,Option.bind_some,Mm hfm hf.1]
    rfl
theorem DH {c:Condition}(hc:bR c){f:List ae}(hf:Ca wM f)(d:Int):C5 c f d=some (bif gP c&&(lx f&&uL d) then (dH c f d,true) else (false,false)):=by
 unfold C5
 rw[uV c hc,Option.bind_some]
 cases h1:gP c with
 | false=>rfl
 | true=>
  have hfm:cw c=true:=by simp only[gP,Bool.and_eq_true] at h1;exact h1.1
  simp only[Bool.not_true,cond_false,Jt f hf,N0,Option.bind_some]
  cases lx f with
  | false=>rfl
  | true=>
   cases uL d with
   | false=>rfl
   | true=>
    simp only[Bool.not_true,cond_false,gG,bN,Option.bind_some,uW hfm hf.1]
    rfl
theorem vm {c:Condition}(hc:bR c)(hn:aj c≤1000):Df c=some (bif gP c then (dR c,true) else (⟨0,[],0,[]⟩,false)):=by
 unfold Df
 rw[uV c hc,Option.bind_some]
 cases h1:gP c with
 | false=>rfl
 | true=>
  have hfm:cw c=true:=by simp only[gP,Bool.and_eq_true] at h1;exact h1.1
  have g:=CW c hfm hc
  simp only[Bool.not_true,cond_false,Oq c hfm hc (by omega),Option.bind_some,Od (dR c) (by have:=g.2.2.1;omega)]
  rfl
theorem ym (code:List Int)(h:Gv (Gu .u8) code):gc code=some true:=by
 unfold gc mh
 rw[Option.bind_some]
 cases hb:decide (len code>65536) with
 | true=>rfl
 | false=>
  obtain⟨c,f,d,e1,kc,f1,f2⟩:=NO code h
  have hf:Ca wM f:=⟨by omega,fun x hx=>by have:=f2 x hx;show x.length≤1048576;omega⟩
  have hsm:=kc.1
  have hnc:aj c≤1000:=by have:=kc.2;omega
  have hval:xl c=some (gP c):=by unfold xl;rw[D1 c hsm];rfl
  simp only[cond_false,e1,Option.bind_some,DH hsm hf,Mk hsm hf,vm hsm hnc,hval,beq_self_eq_true,Bool.not_true]
  cases hc:gP c with
  | false=>rfl
  | true=>
   have h1:=hc
   simp only[gP,Bool.and_eq_true,decide_eq_true_eq] at h1
   obtain⟨g1,g2,g3,g4,g5⟩:=CW c h1.1 hsm
   have hns:aj (dR c)≤1000:=by omega
   have hcs:gP (dR c)=true:=by unfold gP;rw[g1,decide_eq_true (by omega)];rfl
   obtain⟨t,t1,t2⟩:=JC c hsm hc
   have dA:dR (dR c)=dR c:=Qq _ g4
   have v1:=D4 (dR c) (by omega)
   have v2:=D4 c (by omega)
   simp only[cond_true,bN,beq_self_eq_true,Bool.not_true,cond_false,DH g2 hf,vm g2 hns,hcs,dA,Option.bind_some,Bool.true_and,v1,t1,t2,v2,gG]
   cases hfd:lx f&&uL d with
   | false=>rfl
   | true=>
    have hd:0≤d:=by
     rw[Bool.and_eq_true] at hfd
     have:=hfd.2
     unfold uL at this
     exact (ru.1 this).1
    simp only[cond_true,g5 f d hf.1 hd,beq_self_eq_true,Bool.not_true,cond_false,gG,bN]
end Go.Ln
