/-
  The plain law: the plain functions answer true.
-/
import Derived.Test.YtlgahmmileaohaaDoorFnDatesLib
import Derived.Sort.AssemblyPlain
import Derived.Sort.LotD4
import Derived.Sort.LotD5
set_option linter.unusedVariables false
set_option linter.unusedSimpArgs false
set_option maxRecDepth 100000
namespace Go.Ln
open Go
theorem u64_nat {n : Nat} (h : n < 18446744073709551616) : IntKind.u64.wrap (n : Int)=(n : Int):=by
  show (n : Int) % 18446744073709551616=n
  omega
/-! the draws -/
def okC (c : l1Cur) (n : Nat) : Prop:=okL (okI .u8) c.f_code ∧ 0 ≤ c.f_at ∧ c.f_at ≤ n
theorem okC_mono {c : l1Cur} {n m : Nat} (h : okC c n) (hm : n ≤ m) : okC c m:=⟨h.1,h.2.1,by have:=h.2.2; omega⟩
theorem byte_range {x : Int} (h : okI .u8 x) : 0 ≤ x ∧ x ≤ 255:=by
  have e1 : IntKind.u8.min=0:=by decide
  have e2 : IntKind.u8.max=255:=by decide
  unfold okI at h
  rw [e1,e2] at h
  exact h
theorem and255 (x : Int) : 0 ≤ andI .u64 x 255 ∧ andI .u64 x 255 ≤ 255:=by
  unfold andI
  have h : (BitVec.ofInt (IntKind.bits .u64) x &&& BitVec.ofInt (IntKind.bits .u64) 255).toNat ≤ 255:=by
    rw [BitVec.toNat_and]
    exact Nat.le_trans Nat.and_le_right (by decide)
  rw [u64_nat (by omega)]
  omega
theorem next_ok (c : l1Cur) (n : Nat) (h : okC c n) (hn : n ≤ 1000000) : ∃ x c',Ffu c=some (x,c') ∧ 0 ≤ x ∧ x ≤ 255 ∧ okC c' (n + 1):=by
  obtain ⟨hc,h0,h1⟩:=h
  have hw : w64 (c.f_at + 1)=c.f_at + 1:=w64_id (by omega) (by omega)
  have hok : ∀ s,okC (l1Cur.mk c.f_code (c.f_at + 1) s) (n + 1):=fun s=>⟨hc,by show 0 ≤ c.f_at + 1; omega,by show c.f_at + 1 ≤ ((n + 1 : Nat) : Int); omega⟩
  unfold Ffu
  simp only [hw]
  obtain ⟨u,hu,hu0,hu1⟩ : ∃ u,(bif (decide (c.f_at < (len c.f_code))) then ((getI c.f_code c.f_at).bind fun e3=>some (Sum.inr (α:=Int × l1Cur) (IntKind.i64.wrap e3))) else (some (.inr 0)))=some (.inr u) ∧ 0 ≤ u ∧ u ≤ 255:=by
    by_cases hq : c.f_at < len c.f_code
    · rw [decide_eq_true hq,cond_true]
      obtain ⟨k,hk⟩ : ∃ k : Nat,c.f_at=k:=⟨c.f_at.toNat,by omega⟩
      rw [hk] at hq ⊢
      have hlt : k < c.f_code.length:=by simp only [len] at hq; omega
      have hb:=byte_range (hc.2 _ (List.getElem_mem hlt))
      rw [getI_nat,List.getElem?_eq_getElem hlt,Option.bind_some]
      exact ⟨_,rfl,by rw [show IntKind.i64.wrap c.f_code[k]=c.f_code[k] from w64_id (by omega) (by omega)]; omega,by rw [show IntKind.i64.wrap c.f_code[k]=c.f_code[k] from w64_id (by omega) (by omega)]; omega⟩
    · rw [decide_eq_false hq,cond_false]
      exact ⟨0,rfl,by decide,by decide⟩
  rw [hu,bindJ_inr]
  cases decide (c.f_at + 1 ≤ len c.f_code) with
  | true=>exact ⟨_,_,rfl,hu0,hu1,hok _⟩
  | false =>
    have ha:=and255 (shrI .u64 (IntKind.u64.wrap ((IntKind.u64.wrap ((IntKind.u64.wrap (c.f_seed * 6364136223846793005)) + (IntKind.u64.wrap u))) + 902902)) 40)
    refine ⟨_,_,rfl,?_,?_,hok _⟩
    · rw [show IntKind.i64.wrap _=_ from w64_id (by omega) (by omega)]; exact ha.1
    · rw [show IntKind.i64.wrap _=_ from w64_id (by omega) (by omega)]; exact ha.2
theorem pick_ok (c : l1Cur) (n : Nat) (k : Int) (h : okC c n) (hn : n ≤ 900000) (hk : k ≤ 1000000) : ∃ x c',Ffw c k=some (x,c') ∧ 0 ≤ x ∧ (x < k ∨ x=0) ∧ okC c' (n + 2):=by
  unfold Ffw
  by_cases h1 : k ≤ 1
  · rw [decide_eq_true h1,cond_true]
    exact ⟨0,c,rfl,by decide,.inr rfl,okC_mono h (by omega)⟩
  rw [decide_eq_false h1,cond_false]
  obtain ⟨x,c1,e1,x0,x1,ok1⟩:=next_ok c n h (by omega)
  rw [e1,Option.bind_some]
  have fin : ∀ y : Int,0 ≤ y→∃ q,remI y k=some q ∧ 0 ≤ q ∧ q < k:=by
    intro y hy
    unfold remI
    rw [if_neg (by omega)]
    exact ⟨_,rfl,Int.tmod_nonneg _ hy,Int.tmod_lt_of_pos _ (by omega)⟩
  by_cases h2 : k > 200
  · obtain ⟨x2,c2,e2,y0,y1,ok2⟩:=next_ok c1 (n + 1) ok1 (by omega)
    simp only [decide_eq_true h2,cond_true,e2,Option.bind_some,bindJ_inr]
    rw [show w64 (x * 256)=x * 256 from w64_id (by omega) (by omega),show w64 (x * 256 + x2)=x * 256 + x2 from w64_id (by omega) (by omega)]
    obtain ⟨q,f1,f2,f3⟩:=fin (x * 256 + x2) (by omega)
    rw [f1,Option.bind_some]
    exact ⟨q,_,rfl,f2,.inl f3,ok2⟩
  · simp only [decide_eq_false h2,cond_false,bindJ_inr]
    obtain ⟨q,f1,f2,f3⟩:=fin x x0
    rw [f1,Option.bind_some]
    exact ⟨q,_,rfl,f2,.inl f3,okC_mono ok1 (by omega)⟩
theorem among_ok (c : l1Cur) (n : Nat) (l : List Int) (h : okC c n) (hn : n ≤ 900000) (hl : 1 ≤ l.length) (hl2 : l.length ≤ 1000) : ∃ x c',Ffr c l=some (x,c') ∧ x ∈ l ∧ okC c' (n + 2):=by
  unfold Ffr
  obtain ⟨x,c1,e1,x0,x1,ok1⟩:=pick_ok c n (len l) h hn (by simp only [len]; omega)
  obtain ⟨k,hk⟩ : ∃ k : Nat,x=k:=⟨x.toNat,by omega⟩
  subst hk
  have hlt : k < l.length:=by simp only [len] at x1; omega
  rw [e1,Option.bind_some,getI_nat,List.getElem?_eq_getElem hlt,Option.bind_some]
  exact ⟨_,_,rfl,List.getElem_mem hlt,ok1⟩
theorem start_ok {code : List Int} (h : okL (okI .u8) code) : okC (l1Cur.mk code 0 0) 0:=⟨h,by show (0 : Int) ≤ 0; omega,by show (0 : Int) ≤ ((0 : Nat) : Int); omega⟩
theorem one_ok (c : l1Cur) (n : Nat) (k : Int) (h : okC c n) (hn : n ≤ 900000) (hk : k ≤ 1000000) : ∃ x c',Ffv c k=some (x,c') ∧ okC c' (n + 2):=by
  unfold Ffv
  obtain ⟨x,c1,e1,_,_,k1⟩:=pick_ok c n k h hn hk
  rw [e1,Option.bind_some]
  exact ⟨_,_,rfl,k1⟩
theorem day_ok (c : l1Cur) (n : Nat) (h : okC c n) (hn : n ≤ 800000) : ∃ x c',Fft c=some (x,c') ∧ okC c' (n + 4):=by
  unfold Fft
  obtain ⟨x,c1,e1,_,_,k1⟩:=pick_ok c n 6 h (by omega) (by decide)
  rw [e1,Option.bind_some]
  simp only []
  cases x == 0
  · cases x == 1
    · obtain ⟨y,c2,e2,_,_,k2⟩:=pick_ok c1 (n + 2) 1500 k1 (by omega) (by decide)
      simp only [cond_false,e2,Option.bind_some]
      exact ⟨_,_,rfl,k2⟩
    · obtain ⟨y,c2,e2,_,_,k2⟩:=pick_ok c1 (n + 2) 36525 k1 (by omega) (by decide)
      simp only [cond_false,cond_true,e2,Option.bind_some]
      exact ⟨_,_,rfl,k2⟩
  · obtain ⟨y,c2,e2,_,k2⟩:=among_ok c1 (n + 2) [0,59,60,365,366,424,425,36524,36523,30,31] k1 (by omega) (by decide) (by decide)
    simp only [cond_true,e2,Option.bind_some]
    exact ⟨_,_,rfl,k2⟩
theorem anyDay_ok (c : l1Cur) (n : Nat) (h : okC c n) (hn : n ≤ 700000) : ∃ x c',Ffs c=some (x,c') ∧ okC c' (n + 6):=by
  unfold Ffs
  obtain ⟨x,c1,e1,k1⟩:=one_ok c n 16 h (by omega) (by decide)
  rw [e1,Option.bind_some]
  cases x
  · obtain ⟨y,c2,e2,k2⟩:=day_ok c1 (n + 2) k1 (by omega)
    simp only [cond_false,e2,Option.bind_some]
    exact ⟨_,_,rfl,okC_mono k2 (by omega)⟩
  · obtain ⟨y,c2,e2,_,k2⟩:=among_ok c1 (n + 2) [(-1),36524,36525,1099511627776] k1 (by omega) (by decide) (by decide)
    simp only [cond_true,e2,Option.bind_some]
    exact ⟨_,_,rfl,okC_mono k2 (by omega)⟩
/-! dates -/
def leap (y : Int) : Int:=if y % 4=0 then 1 else 0
def mlen (y m : Int) : Int:=if m=2 then 28 + leap y else if m=4 ∨ m=6 ∨ m=9 ∨ m=11 then 30 else 31
def m0 (y : Int) : Nat→Int
  | 0=>0
  | k + 1=>m0 y k + mlen y ((k + 1 : Nat) : Int)
def y0 (y : Int) : Int:=365 * (y - 2000) + (y - 2000 + 3) / 4
theorem leap_le (y : Int) : 0 ≤ leap y ∧ leap y ≤ 1:=by unfold leap; split <;> omega
theorem mlen_le (y m : Int) : 28 ≤ mlen y m ∧ mlen y m ≤ 31:=by
  have:=leap_le y
  unfold mlen
  split
  · omega
  · split <;> omega
theorem m0_le (y : Int) : ∀ k : Nat,28 * (k : Int) ≤ m0 y k ∧ m0 y k ≤ 31 * (k : Int)
  | 0=>by simp [m0]
  | k + 1=>by
    have:=m0_le y k
    have:=mlen_le y ((k + 1 : Nat) : Int)
    simp only [m0]
    omega
theorem m0_mono (y : Int) {a b : Nat} (h : a ≤ b) : m0 y a ≤ m0 y b := by
  induction b with
  | zero => have : a = 0 := by omega
            subst this; exact Int.le_refl _
  | succ b ih =>
    by_cases e : a = b + 1
    · subst e; exact Int.le_refl _
    · have := ih (by omega)
      have := mlen_le y ((b + 1 : Nat) : Int)
      simp only [m0]
      omega
theorem m0_12 (y : Int) : m0 y 12=365 + leap y:=by simp [m0,mlen]; omega
theorem y0_succ (y : Int) : y0 (y + 1)=y0 y + 365 + leap y:=by unfold y0 leap; split <;> omega
theorem y0_uniq {a b day : Int} (h1 : y0 a ≤ day) (h2 : day < y0 (a + 1)) (h3 : y0 b ≤ day) (h4 : day < y0 (b + 1)) : a=b:=by unfold y0 at *; omega
theorem m0_uniq {y r : Int} {a b : Nat} (h1 : m0 y a ≤ r) (h2 : r < m0 y (a + 1)) (h3 : m0 y b ≤ r) (h4 : r < m0 y (b + 1)) : a=b:=by
  rcases Nat.lt_trichotomy a b with h | h | h
  · have:=m0_mono y (show a + 1 ≤ b from h); omega
  · exact h
  · have:=m0_mono y (show b + 1 ≤ a from h); omega
theorem tmod4 {y : Int} (hy : 0 ≤ y) : y.tmod 4=y % 4:=Int.tmod_eq_emod_of_nonneg hy
theorem y0_2000 : y0 2000=0:=by unfold y0; omega
/-- What a date says of a day. -/
def DateOk (day Y : Int) (M : Nat) (D : Int) : Prop:=2000 ≤ Y ∧ Y ≤ 2099 ∧ M ≤ 11 ∧ 1 ≤ D ∧ D ≤ mlen Y ((M + 1 : Nat) : Int) ∧ day=y0 Y + m0 Y M + D - 1
theorem DateOk.b {day Y : Int} {M : Nat} {D : Int} (h : DateOk day Y M D) : y0 Y ≤ day ∧ day < y0 (Y + 1) ∧ m0 Y M ≤ day - y0 Y ∧ day - y0 Y < m0 Y (M + 1):=by
  obtain ⟨h1,h2,h3,h4,h5,h6⟩:=h
  have he : m0 Y (M + 1)=m0 Y M + mlen Y ((M + 1 : Nat) : Int):=rfl
  have hm:=m0_mono Y (show M + 1 ≤ 12 by omega)
  have h12:=m0_12 Y
  have hs:=y0_succ Y
  have hk:=m0_le Y M
  omega
theorem DateOk.uniq {day Y Y' : Int} {M M' : Nat} {D D' : Int} (h : DateOk day Y M D) (h' : DateOk day Y' M' D') : Y=Y' ∧ M=M' ∧ D=D':=by
  have b:=h.b
  have b':=h'.b
  have e:=y0_uniq b.1 b.2.1 b'.1 b'.2.1
  subst e
  have e:=m0_uniq b.2.2.1 b.2.2.2 b'.2.2.1 b'.2.2.2
  subst e
  have h6:=h.2.2.2.2.2
  have h6':=h'.2.2.2.2.2
  exact ⟨rfl,rfl,by omega⟩
theorem DateOk.range {day Y : Int} {M : Nat} {D : Int} (h : DateOk day Y M D) : 0 ≤ day ∧ day ≤ 36524:=by
  have b:=h.b
  have hb : 0 ≤ y0 Y ∧ y0 (Y + 1) ≤ 36525:=by have h1:=h.1; have h2:=h.2.1; unfold y0; omega
  omega
theorem impl_len (y m : Int) (hy : 0 ≤ y) : Ffk y m=some (mlen y m):=by
  simp only [Ffk,letJ_eq,tmod4 hy,mlen,leap]
  by_cases e : m=2
  · subst e
    by_cases f : y % 4=0
    · simp [f]
    · simp [f,beq_eq_false_iff_ne.2 f]
  by_cases a : m=4
  · subst a; rfl
  by_cases b : m=6
  · subst b; rfl
  by_cases c : m=9
  · subst c; rfl
  by_cases d : m=11
  · subst d; rfl
  · simp [a,b,c,d,e,beq_eq_false_iff_ne.2 a,beq_eq_false_iff_ne.2 b,beq_eq_false_iff_ne.2 c,beq_eq_false_iff_ne.2 d,beq_eq_false_iff_ne.2 e]
theorem impl_ylen (y : Int) (hy : 0 ≤ y) : Ffl y=some (365 + leap y):=by
  have:=leap_le y
  unfold Ffl
  rw [impl_len _ _ hy]
  simp only [Option.bind_some,mlen,if_true]
  rw [w64_id (by omega) (by omega)]
  congr 1
  omega
theorem impl_year (day : Int) (hd : 0 ≤ day) (hd2 : day ≤ 36524) : ∀ (n : Nat) (x : Int),x + n=2099→2000 ≤ x→y0 x ≤ day→∃ Y,Ffh_la day (day - y0 x,x)=some (.inr (day - y0 Y,Y)) ∧ 2000 ≤ Y ∧ Y ≤ 2099 ∧ y0 Y ≤ day ∧ day < y0 (Y + 1):=by
  intro n
  induction n with
  | zero =>
    intro x hn h0 hx
    rw [Ffh_la_eq,Ffh_la_F]
    have hl:=leap_le x
    have hs:=y0_succ x
    have : x=2099:=by omega
    have h9 : day < y0 (x + 1):=by subst this; unfold y0; omega
    simp only [impl_ylen x (by omega),Option.bind_some]
    rw [decide_eq_false (by omega),cond_false]
    exact ⟨x,rfl,h0,by omega,hx,h9⟩
  | succ n ih =>
    intro x hn h0 hx
    rw [Ffh_la_eq,Ffh_la_F]
    have hl:=leap_le x
    have hs:=y0_succ x
    have hb : 0 ≤ y0 x:=by unfold y0; omega
    simp only [impl_ylen x (by omega),Option.bind_some]
    by_cases h : y0 (x + 1) ≤ day
    · rw [decide_eq_true (by omega),cond_true,w64_id (by omega) (by omega),w64_id (by omega) (by omega),show day - y0 x - (365 + leap x)=day - y0 (x + 1) by omega]
      exact ih (x + 1) (by omega) (by omega) h
    · rw [decide_eq_false (by omega),cond_false]
      exact ⟨x,rfl,h0,by omega,hx,by omega⟩
theorem impl_month (day Y r : Int) (hd : 0 ≤ day) (hd2 : day ≤ 36524) (hY : 2000 ≤ Y) (hY2 : Y ≤ 2099) (hy0 : y0 Y ≤ day) (hy : day < y0 (Y + 1)) : ∀ (n k : Nat),k + n=11→y0 Y + m0 Y k ≤ day→∃ M : Nat,Ffh_lb day (r,Y) (day - y0 Y - m0 Y k,((k + 1 : Nat) : Int))=some (.inr (day - y0 Y - m0 Y M,((M + 1 : Nat) : Int))) ∧ M ≤ 11 ∧ y0 Y + m0 Y M ≤ day ∧ day < y0 Y + m0 Y (M + 1):=by
  intro n
  have hb : 0 ≤ y0 Y:=by unfold y0; omega
  induction n with
  | zero =>
    intro k hn hx
    obtain rfl : k=11:=by omega
    have h12:=m0_12 Y
    rw [y0_succ] at hy
    have he : m0 Y 12=m0 Y 11 + mlen Y ((11 + 1 : Nat) : Int):=rfl
    rw [Ffh_lb_eq,Ffh_lb_F]
    simp only [impl_len Y _ (show 0 ≤ Y by omega),Option.bind_some]
    rw [decide_eq_false (by omega),cond_false]
    exact ⟨11,rfl,by omega,hx,show day < y0 Y + m0 Y 12 by omega⟩
  | succ n ih =>
    intro k hn hx
    have he : m0 Y (k + 1)=m0 Y k + mlen Y ((k + 1 : Nat) : Int):=rfl
    have hk:=m0_le Y k
    have hl:=mlen_le Y ((k + 1 : Nat) : Int)
    rw [Ffh_lb_eq,Ffh_lb_F]
    simp only [impl_len Y _ (show 0 ≤ Y by omega),Option.bind_some]
    by_cases h : y0 Y + m0 Y (k + 1) ≤ day
    · rw [decide_eq_true (by omega),cond_true,w64_id (by omega) (by omega),w64_succ (by omega),show day - y0 Y - m0 Y k - mlen Y ((k + 1 : Nat) : Int)=day - y0 Y - m0 Y (k + 1) by omega]
      exact ih (k + 1) (by omega) h
    · rw [decide_eq_false (by omega),cond_false]
      exact ⟨k,rfl,by omega,hx,by omega⟩
theorem impl_dates (day : Int) (hd : 0 ≤ day) (hd2 : day ≤ 36524) : ∃ (Y : Int) (M : Nat) (D : Int),Ffh day=some ⟨Y,((M + 1 : Nat) : Int),D⟩ ∧ DateOk day Y M D:=by
  obtain ⟨Y,g1,g2,g3,g4,g5⟩:=impl_year day hd hd2 99 2000 (by omega) (by omega) (by rw [y0_2000]; exact hd)
  obtain ⟨M,k1,k2,k3,k4⟩:=impl_month day Y (day - y0 Y) hd hd2 g2 g3 g4 g5 11 0 (by omega) (by simp only [m0]; omega)
  have hk:=m0_le Y M
  have hb : 0 ≤ y0 Y:=by unfold y0; omega
  have he : m0 Y (M + 1)=m0 Y M + mlen Y ((M + 1 : Nat) : Int):=rfl
  rw [y0_2000,Int.sub_zero] at g1
  simp only [m0,Int.sub_zero] at k1
  refine ⟨Y,M,day - y0 Y - m0 Y M + 1,?_,g2,g3,k2,by omega,by omega,by omega⟩
  unfold Ffh
  rw [g1]
  simp only [bindJ_inr]
  rw [show (1 : Int)=((0 + 1 : Nat) : Int) by rfl,k1]
  simp only [bindJ_inr]
  rw [w64_id (by omega) (by omega)]
/-! texts of dates and amounts -/
theorem cat_ok {a b : Str} (h : a.length + b.length ≤ 9223372036854775807) : catS a b=some (a ++ b):=by unfold catS; rw [if_pos h]
theorem nDigits_len (n : Nat) (h : n < 10000000000000000000) : Lib.nDigits n ≤ 20:=by
  have:=Lib.nDigits_le20 n (by omega)
  exact this
theorem dec_len (n : Nat) (h : n < 10000000000000000000) : (Lib.decDigits n).length ≤ 20:=by
  rw [Lib.decDigits_length]
  exact nDigits_len n h
theorem tdiv10 (n : Nat) : ((n : Int).tdiv 10)=((n / 10 : Nat) : Int):=by rw [Int.tdiv_eq_ediv_of_nonneg (by omega)]; omega
theorem tmod10 (n : Nat) : ((n : Int).tmod 10)=((n % 10 : Nat) : Int):=by rw [Int.tmod_eq_emod_of_nonneg (by omega)]; omega
theorem itoa_val (n : Nat) (h : n < 1000000000000000000) : xItoa (n : Int)=some (Lib.decDigits n):=by
  unfold xItoa
  rw [show i64b (n : Int)=true by simp only [i64b,Bool.and_eq_true,decide_eq_true_eq]; omega,cond_true,Lib.itoa_nonneg]
def two (n : Nat) : Str:=if n < 10 then 48 :: Lib.decDigits n else Lib.decDigits n
theorem two_len (n : Nat) (h : n < 1000000000000000000) : (two n).length ≤ 21:=by
  have:=dec_len n (by omega)
  unfold two
  split
  · simp only [List.length_cons]; omega
  · omega
theorem pad_done (n d : Int) (s : Str) (h : d ≤ (s.length : Int)) : Ffn_la n d s=some (.inr s):=by
  rw [Ffn_la_eq,Ffn_la_F]
  rw [decide_eq_false (by simp only [len]; omega),cond_false]
theorem impl_two (n : Nat) (h : n < 100) : Ffn (n : Int) 2=some (two n):=by
  unfold Ffn two
  rw [itoa_val n (by omega),Option.bind_some]
  by_cases h1 : n < 10
  · have hl : (Lib.decDigits n).length=1:=by rw [Lib.decDigits_length,Lib.nDigits_small h1]
    rw [Ffn_la_eq,Ffn_la_F]
    rw [decide_eq_true (by simp only [len]; omega),cond_true,cat_ok (by simp only [List.length_singleton]; omega),Option.bind_some,pad_done _ _ _ (by simp only [List.singleton_append,List.length_cons]; omega),if_pos h1]
    rfl
  · have hl : (Lib.decDigits n).length=2:=by rw [Lib.decDigits_length]; exact Lib.nDigits_unique 1 n (by omega) (by omega)
    rw [pad_done _ _ _ (by omega),if_neg h1]
    rfl
theorem impl_four (n : Nat) (h : 1000 ≤ n) (h2 : n < 10000) : Ffn (n : Int) 4=some (Lib.decDigits n):=by
  unfold Ffn
  rw [itoa_val n (by omega),Option.bind_some]
  have hl : (Lib.decDigits n).length=4:=by rw [Lib.decDigits_length]; exact Lib.nDigits_unique 3 n (by omega) (by omega)
  rw [pad_done _ _ _ (by omega)]
  rfl
theorem Ffj_year (d : Date) (hy : d.Year ≤ 2100) : ∀ (n : Nat) (x acc : Int),x + n=d.Year→2000 ≤ x→0 ≤ acc→acc + 366 * (n : Int) ≤ 1000000→Ffj_la d (acc,x)=some (.inr (acc + y0 d.Year - y0 x))
  | 0,x,acc,hn,h0,ha,hb=>by
    rw [Ffj_la_eq,Ffj_la_F]
    rw [decide_eq_false (by omega),cond_false]
    rw [show x=d.Year by omega]
    congr 2
    omega
  | n + 1,x,acc,hn,h0,ha,hb=>by
    have hl:=leap_le x
    have hs:=y0_succ x
    rw [Ffj_la_eq,Ffj_la_F]
    rw [decide_eq_true (by omega),cond_true]
    simp only [impl_ylen x (by omega),Option.bind_some]
    rw [w64_id (by omega) (by omega),w64_id (by omega) (by omega),Ffj_year d hy n (x + 1) _ (by omega) (by omega) (by omega) (by omega)]
    congr 2
    omega
theorem Ffj_month (d : Date) (hy : 0 ≤ d.Year) : ∀ (n k : Nat) (acc : Int),((k + 1 + n : Nat) : Int)=d.Month→d.Month ≤ 13→0 ≤ acc→acc + 31 * (n : Int) ≤ 1000000→Ffj_lb d (acc,((k + 1 : Nat) : Int))=some (.inr (acc + m0 d.Year (k + n) - m0 d.Year k))
  | 0,k,acc,hm,h13,ha,hb=>by
    rw [Ffj_lb_eq,Ffj_lb_F]
    rw [decide_eq_false (by omega),cond_false]
    simp only [Nat.add_zero]
    congr 2
    omega
  | n + 1,k,acc,hm,h13,ha,hb=>by
    have hl:=mlen_le d.Year ((k + 1 : Nat) : Int)
    rw [Ffj_lb_eq,Ffj_lb_F]
    rw [decide_eq_true (by omega),cond_true]
    simp only [impl_len _ _ hy,Option.bind_some]
    rw [w64_id (by omega) (by omega),w64_succ (by omega)]
    rw [Ffj_month d hy n (k + 1) _ (by omega) h13 (by omega) (by omega)]
    rw [show k + (n + 1)=k + 1 + n by omega]
    congr 2
    simp only [m0]
    omega
theorem Ffj_ok {day Y : Int} {M : Nat} {D : Int} (h : DateOk day Y M D) : Ffj ⟨Y,((M + 1 : Nat) : Int),D⟩=some day:=by
  obtain ⟨h1,h2,h3,h4,h5,h6⟩:=h
  have hk:=m0_le Y M
  have hm:=mlen_le Y ((M + 1 : Nat) : Int)
  have hb : 0 ≤ y0 Y ∧ y0 Y ≤ 40000:=by unfold y0; omega
  unfold Ffj
  simp only
  rw [w64_id (by omega) (by omega)]
  obtain ⟨n,hn⟩ : ∃ n : Nat,(2000 : Int) + n=Y:=⟨(Y - 2000).toNat,by omega⟩
  rw [Ffj_year ⟨Y,((M + 1 : Nat) : Int),D⟩ (by simp only; omega) n 2000 _ hn (by omega) (by omega) (by omega)]
  simp only [bindJ_inr]
  rw [show (1 : Int)=((0 + 1 : Nat) : Int) by rfl,Ffj_month ⟨Y,((M + 1 : Nat) : Int),D⟩ (by simp only; omega) M 0 _ (by simp only; omega) (by simp only; omega) (by rw [y0_2000]; omega) (by rw [y0_2000]; omega)]
  simp only [bindJ_inr,Nat.zero_add,m0,y0_2000]
  congr 1
  omega
theorem within_ok {x a b : Int} (h1 : a ≤ x) (h2 : x ≤ b) : Ffp x a b=some true:=by
  unfold Ffp
  rw [decide_eq_true (by omega),cond_true,letJ_eq,decide_eq_true h2]
theorem within_val (x a b : Int) : Ffp x a b=some (decide (a ≤ x ∧ x ≤ b)):=by
  unfold Ffp
  by_cases h : x ≥ a
  · rw [decide_eq_true h,cond_true,letJ_eq]
    congr 1
    exact decide_eq_decide.2 ⟨fun h2=>⟨h,h2⟩,fun h2=>h2.2⟩
  · rw [decide_eq_false h,cond_false,letJ_eq,decide_eq_false (by omega)]
theorem impl_validDate {day Y : Int} {M : Nat} {D : Int} (h : DateOk day Y M D) : Ffe ⟨Y,((M + 1 : Nat) : Int),D⟩=some true:=by
  obtain ⟨h1,h2,h3,h4,h5,h6⟩:=h
  unfold Ffe
  simp only [within_ok h1 h2,Option.bind_some,cond_true,impl_len Y _ (show 0 ≤ Y by omega),within_ok h4 h5,within_ok (show (1 : Int) ≤ ((M + 1 : Nat) : Int) by omega) (show ((M + 1 : Nat) : Int) ≤ 12 by omega)]
  rfl
def dateT (y M d : Nat) : Str:=Lib.decDigits y ++ [45] ++ two (M + 1) ++ [45] ++ two d
theorem impl_textOk {day : Int} {y M d : Nat} (h : DateOk day y M d) (he : Ffh day=some ⟨y,((M + 1 : Nat) : Int),d⟩) : Ffi day=some (dateT y M d):=by
  obtain ⟨h1,h2,h3,h4,h5,h6⟩:=h
  have hm:=mlen_le y ((M + 1 : Nat) : Int)
  have l1:=dec_len y (by omega)
  have l2:=two_len (M + 1) (by omega)
  have l3:=two_len d (by omega)
  unfold Ffi dateT
  rw [he,Option.bind_some]
  simp only
  rw [impl_four y (by omega) (by omega),impl_two (M + 1) (by omega),impl_two d (by omega)]
  simp only [Option.bind_some]
  rw [cat_ok (by simp only [List.length_singleton]; omega),Option.bind_some,cat_ok (by simp only [List.length_append,List.length_singleton]; omega),Option.bind_some,cat_ok (by simp only [List.length_append,List.length_singleton]; omega),Option.bind_some,cat_ok (by simp only [List.length_append,List.length_singleton]; omega)]
  rfl
/-! numerals read -/
theorem dig_u8 {k : Nat} (h : k < 10) : (UInt8.ofNat (48 + k)).toNat=48 + k:=by
  rw [UInt8.toNat_ofNat_of_lt' (by show 48 + k < 256; omega)]
theorem decFrom_app : ∀ (a b : Str) (acc : Nat),Lib.decFrom acc (a ++ b)=(Lib.decFrom acc a).bind fun n=>Lib.decFrom n b
  | [],b,acc=>rfl
  | x :: a,b,acc=>by
    simp only [List.cons_append,Lib.decFrom]
    cases Lib.digitVal x with
    | none=>rfl
    | some d=>exact decFrom_app a b _
theorem digitVal_dig {k : Nat} (h : k < 10) : Lib.digitVal (UInt8.ofNat (48 + k))=some k:=by
  unfold Lib.digitVal
  rw [dig_u8 h,if_pos (by omega)]
  congr 1
  omega
theorem decFrom_dec (n : Nat) : Lib.decFrom 0 (Lib.decDigits n)=some n:=by
  induction n using Nat.strongRecOn with
  | _ n ih =>
    rw [Lib.decDigits]
    by_cases h : n < 10
    · rw [dif_pos h]
      simp only [Lib.decFrom,digitVal_dig h]
      congr 1
      omega
    · rw [dif_neg h,decFrom_app,ih (n / 10) (by omega),Option.bind_some]
      simp only [Lib.decFrom,digitVal_dig (show n % 10 < 10 by omega)]
      congr 1
      omega
theorem dec_digit (n : Nat) : ∀ b ∈ Lib.decDigits n,48 ≤ b.toNat ∧ b.toNat ≤ 57:=by
  induction n using Nat.strongRecOn with
  | _ n ih =>
    intro b hb
    rw [Lib.decDigits] at hb
    by_cases h : n < 10
    · rw [dif_pos h,List.mem_singleton] at hb
      rw [hb,dig_u8 h]
      omega
    · rw [dif_neg h,List.mem_append,List.mem_singleton] at hb
      rcases hb with hb | hb
      · exact ih (n / 10) (by omega) b hb
      · rw [hb,dig_u8 (show n % 10 < 10 by omega)]
        omega
theorem dec_ne (n : Nat) : Lib.decDigits n ≠ []:=by
  intro h
  have:=Lib.decDigits_length n
  rw [h] at this
  have h2:=Lib.nDigits_pos n
  simp at this
  omega
/-- A row of digits,not empty,is read as its number. -/
theorem atoi_digs {l : Str} {n : Nat} (h0 : l ≠ []) (hd : ∀ b ∈ l,48 ≤ b.toNat ∧ b.toNat ≤ 57) (hl : l.length ≤ 18) (hn : Lib.decFrom 0 l=some n) : xAtoi l=some ((n : Int),()):=by
  unfold xAtoi
  rw [show Nat.ble l.length 18=true from Nat.ble_eq_true_of_le hl,cond_true]
  match l,h0 with
  | b :: r,_ =>
    have hb:=hd b (by simp)
    have e1 : (b == 45)=false:=by
      rw [beq_eq_false_iff_ne]
      intro e; rw [e] at hb; have : (45 : UInt8).toNat=45:=rfl; omega
    have e2 : (b == 43)=false:=by
      rw [beq_eq_false_iff_ne]
      intro e; rw [e] at hb; have : (43 : UInt8).toNat=43:=rfl; omega
    simp only [Lib.atoi,e1,e2,Bool.false_eq_true,if_false,Lib.decNat,List.isEmpty_cons,hn]
    rfl
theorem atoi_dec (n : Nat) (h : (Lib.decDigits n).length ≤ 18) : xAtoi (Lib.decDigits n)=some ((n : Int),()):=atoi_digs (dec_ne n) (dec_digit n) h (decFrom_dec n)
theorem two_digit (n : Nat) : ∀ b ∈ two n,48 ≤ b.toNat ∧ b.toNat ≤ 57:=by
  intro b hb
  unfold two at hb
  split at hb
  · rcases List.mem_cons.1 hb with rfl | hb
    · exact ⟨by decide,by decide⟩
    · exact dec_digit n b hb
  · exact dec_digit n b hb
theorem two_len2 (n : Nat) (h : n < 100) : (two n).length=2:=by
  unfold two
  split
  · rename_i h1
    rw [List.length_cons,Lib.decDigits_length,Lib.nDigits_small h1]
  · rw [Lib.decDigits_length]; exact Lib.nDigits_unique 1 n (by omega) (by omega)
theorem atoi_two (n : Nat) (h : n < 100) : xAtoi (two n)=some ((n : Int),()):=by
  have h2:=two_len2 n h
  refine atoi_digs (fun e=>by rw [e] at h2; cases h2) (two_digit n) (by omega) ?_
  unfold two
  split
  · have e : Lib.digitVal 48=some 0:=by decide
    simp only [Lib.decFrom,e]
    exact decFrom_dec n
  · exact decFrom_dec n
theorem dateT_len {y M d : Nat} (h1 : 1000 ≤ y) (h2 : y < 10000) (h3 : M ≤ 11) (h4 : d < 100) : (Lib.decDigits y).length=4 ∧ (dateT y M d).length=10:=by
  have e1 : (Lib.decDigits y).length=4:=by rw [Lib.decDigits_length]; exact Lib.nDigits_unique 3 y (by omega) (by omega)
  have e2:=two_len2 (M + 1) (by omega)
  have e3:=two_len2 d h4
  exact ⟨e1,by unfold dateT; simp only [List.length_append,List.length_singleton,e1,e2,e3]⟩
theorem subI_nat {α : Type} {l : List α} {a b : Nat} (h1 : a ≤ b) (h2 : b ≤ l.length) : subI l (a : Int) (b : Int)=some ((l.drop a).take (b - a)):=by
  unfold subI
  rw [if_pos (by omega)]
  simp
theorem parse_ok {day : Int} {y M d : Nat} (h : DateOk day y M d) (he : Ffh day=some ⟨y,((M + 1 : Nat) : Int),d⟩) : Fff (dateT y M d)=some (day,true):=by
  have h0:=h
  obtain ⟨h1,h2,h3,h4,h5,h6⟩:=h0
  have hm:=mlen_le y ((M + 1 : Nat) : Int)
  obtain ⟨e1,e2⟩:=dateT_len (y:=y) (M:=M) (d:=d) (by omega) (by omega) h3 (by omega)
  have l1:=two_len2 (M + 1) (by omega)
  have l2:=two_len2 d (by omega)
  have s1 : subI (dateT y M d) 0 4=some (Lib.decDigits y):=by
    rw [show (0 : Int)=((0 : Nat) : Int) by rfl,show (4 : Int)=((4 : Nat) : Int) by rfl,subI_nat (by omega) (by omega)]
    unfold dateT
    simp only [List.append_assoc,List.drop_zero]
    rw [List.take_append_of_le_length (by omega),List.take_of_length_le (by omega)]
  have s2 : subI (dateT y M d) 5 7=some (two (M + 1)):=by
    rw [show (5 : Int)=((5 : Nat) : Int) by rfl,show (7 : Int)=((7 : Nat) : Int) by rfl,subI_nat (by omega) (by omega)]
    unfold dateT
    rw [show Lib.decDigits y ++ [45] ++ two (M + 1) ++ [45] ++ two d=(Lib.decDigits y ++ [45]) ++ (two (M + 1) ++ ([45] ++ two d)) by simp,List.drop_append_of_le_length (by simp only [List.length_append,List.length_singleton]; omega),List.drop_of_length_le (by simp only [List.length_append,List.length_singleton]; omega),List.nil_append,List.take_append_of_le_length (by omega),List.take_of_length_le (by omega)]
  have s3 : subI (dateT y M d) 8 (len (dateT y M d))=some (two d):=by
    rw [show (8 : Int)=((8 : Nat) : Int) by rfl]
    rw [subI_nat (l:=dateT y M d) (by omega) (by omega)]
    rw [e2]
    unfold dateT
    rw [List.drop_append_of_le_length (by simp only [List.length_append,List.length_singleton]; omega),List.drop_of_length_le (by simp only [List.length_append,List.length_singleton]; omega),List.nil_append,List.take_of_length_le (by omega)]
  unfold Fff
  rw [show ((len (dateT y M d)) != 10)=false by simp only [len,e2]; rfl,cond_false]
  have a1:=atoi_two d (by omega)
  have a2:=atoi_two (M + 1) (by omega)
  have a3:=atoi_dec y (by omega)
  simp only [s1,s2,s3,a1,a2,a3,Option.bind_some,impl_validDate h,Ffj_ok h,impl_textOk h he,Bool.not_true,cond_false,beq_self_eq_true]
  rfl
theorem next_date {day Y : Int} {M : Nat} {D : Int} (h : DateOk day Y M D) (hd : day + 1 ≤ 36524) : (D < mlen Y ((M + 1 : Nat) : Int) ∧ DateOk (day + 1) Y M (D + 1)) ∨ (D=mlen Y ((M + 1 : Nat) : Int) ∧ M < 11 ∧ DateOk (day + 1) Y (M + 1) 1) ∨ (D=mlen Y ((M + 1 : Nat) : Int) ∧ M=11 ∧ DateOk (day + 1) (Y + 1) 0 1):=by
  obtain ⟨h1,h2,h3,h4,h5,h6⟩:=h
  have he : m0 Y (M + 1)=m0 Y M + mlen Y ((M + 1 : Nat) : Int):=rfl
  have hm:=mlen_le Y ((M + 1 + 1 : Nat) : Int)
  have hm1:=mlen_le (Y + 1) ((0 + 1 : Nat) : Int)
  by_cases a : D < mlen Y ((M + 1 : Nat) : Int)
  · exact .inl ⟨a,h1,h2,h3,by omega,by omega,by omega⟩
  · right
    by_cases b : M < 11
    · exact .inl ⟨by omega,b,h1,h2,by omega,by omega,by omega,by omega⟩
    · right
      obtain rfl : M=11:=by omega
      have h12:=m0_12 Y
      have hs:=y0_succ Y
      have h13 : m0 Y (11 + 1)=m0 Y 12:=rfl
      have hY : Y + 1 ≤ 2099:=by
        have : y0 (Y + 1) ≤ 36524:=by omega
        unfold y0 at this
        omega
      exact ⟨by omega,rfl,by omega,hY,by omega,by omega,by omega,by show day + 1=y0 (Y + 1) + m0 (Y + 1) 0 + 1 - 1; simp only [m0]; omega⟩
theorem last_date {day Y : Int} {M : Nat} {D : Int} (h : DateOk day Y M D) (hd : day=36524) : D=mlen Y ((M + 1 : Nat) : Int):=by
  have e : DateOk day 2099 11 31:=⟨by omega,by omega,by omega,by omega,by decide,by rw [hd]; decide⟩
  obtain ⟨rfl,rfl,rfl⟩:=h.uniq e
  decide
theorem law_FnDates (code : List Int) (h : okL (okI .u8) code) : laws_FnDates code=some true:=by
  unfold laws_FnDates laws_vBig
  rw [Option.bind_some]
  cases hb : decide (len code > 65536) with
  | true=>rfl
  | false =>
    obtain ⟨day,c',hd,_⟩:=anyDay_ok (l1Cur.mk code 0 0) 0 (start_ok h) (by omega)
    have hdr : Ffq code=some day:=by unfold Ffq; rw [hd]; rfl
    rw [hdr]
    simp only [cond_false,Option.bind_some]
    have hDate : ∀ n,Ffa n=if 0 ≤ n ∧ n ≤ 36524 then (Ffh n).bind fun r3=>some (r3,true) else some (Date.mk 0 0 0,false):=by
      intro n
      unfold Ffa Ffm
      rw [within_val]
      by_cases hr : 0 ≤ n ∧ n ≤ 36524
      · rw [decide_eq_true hr,if_pos hr]; rfl
      · rw [decide_eq_false hr,if_neg hr]; rfl
    by_cases hr : 0 ≤ day ∧ day ≤ 36524
    · obtain ⟨Y,M,D,g1,g2⟩:=impl_dates day hr.1 hr.2
      have g0:=g2
      obtain ⟨h1,h2,h3,h4,h5,h6⟩:=g2
      have hm:=mlen_le Y ((M + 1 : Nat) : Int)
      obtain ⟨y,rfl⟩ : ∃ y : Nat,Y=y:=⟨Y.toNat,by omega⟩
      obtain ⟨d,rfl⟩ : ∃ d : Nat,D=d:=⟨D.toNat,by omega⟩
      have k1 : Ffa day=some (⟨y,((M + 1 : Nat) : Int),d⟩,true):=by rw [hDate,if_pos hr,g1]; rfl
      have k2 : Ffb ⟨y,((M + 1 : Nat) : Int),d⟩=some (day,true):=by
        unfold Ffb
        rw [impl_validDate g0,Ffj_ok g0]
        rfl
      have k3 : Ffc day=some (dateT y M d,true):=by
        unfold Ffc Ffm
        rw [within_ok hr.1 hr.2,impl_textOk g0 g1]
        rfl
      have k4:=parse_ok g0 g1
      have k5 : Ffg day=some ((w64 (day + 5)).tmod 7,true):=by
        unfold Ffg Ffm Ffo
        rw [within_ok hr.1 hr.2]
        rfl
      have k6 : Ffd day=some ((d : Int) == mlen y ((M + 1 : Nat) : Int),true):=by
        unfold Ffd Ffm
        rw [within_ok hr.1 hr.2,g1]
        simp only [Option.bind_some,impl_len y _ (show (0 : Int) ≤ y by omega),Bool.not_true,cond_false]
      have k7 : w64 (day + 1)=day + 1:=w64_id (by omega) (by omega)
      rw [k1]
      simp only [Option.bind_some,k2,impl_validDate g0,k3,k4,k5,k6,k7]
      rw [decide_eq_true (show day ≥ 0 from hr.1),decide_eq_true hr.2]
      have e1 : (day != day)=false:=by rw [bne,beq_self_eq_true]; rfl
      have e2 : ((w64 (day + 5)).tmod 7 != (w64 (day + 5)).tmod 7)=false:=by rw [bne,beq_self_eq_true]; rfl
      simp only [e1,e2,beq_self_eq_true,Bool.not_true,Bool.not_false,cond_true,cond_false,bindL_inr,bindJ_inr,letJ_eq]
      by_cases hn : day + 1 ≤ 36524
      · obtain ⟨Y',M',D',n1,n2⟩:=impl_dates (day + 1) (by omega) hn
        have k8 : Ffa (day + 1)=some (⟨Y',((M' + 1 : Nat) : Int),D'⟩,true):=by rw [hDate,if_pos ⟨by omega,hn⟩,n1]; rfl
        simp only [k8,Option.bind_some,Bool.not_true,cond_false]
        have t12 : ∀ m : Nat,m ≤ 12→((m : Int).tmod 12)=((m % 12 : Nat) : Int):=fun m _=>by rw [Int.tmod_eq_emod_of_nonneg (by omega)]; omega
        rcases next_date g0 hn with ⟨q1,q2⟩ | ⟨q1,q2,q3⟩ | ⟨q1,q2,q3⟩
        · obtain ⟨rfl,rfl,rfl⟩:=n2.uniq q2
          rw [show ((d : Int) == mlen y ((M' + 1 : Nat) : Int))=false by rw [beq_eq_false_iff_ne]; omega,cond_false]
          rw [w64_id (by omega) (by omega)]
          simp only [beq_self_eq_true,Bool.and_self]
        · obtain ⟨rfl,rfl,rfl⟩:=n2.uniq q3
          rw [show ((d : Int) == mlen y ((M + 1 : Nat) : Int))=true by rw [beq_iff_eq]; omega,cond_true]
          rw [t12 (M + 1) (by omega),w64_succ (by omega),show (M + 1) % 12=M + 1 by omega]
          simp
        · obtain ⟨rfl,rfl,rfl⟩:=n2.uniq q3
          subst q2
          rw [show ((d : Int) == mlen y ((11 + 1 : Nat) : Int))=true by rw [beq_iff_eq]; omega,cond_true]
          rfl
      · have k8 : Ffa (day + 1)=some (Date.mk 0 0 0,false):=by rw [hDate,if_neg (by omega)]
        simp only [k8,Option.bind_some,Bool.not_false,cond_true]
        have e3 : day=36524:=by omega
        have e4:=last_date g0 e3
        rw [show ((d : Int) == mlen y ((M + 1 : Nat) : Int))=true by rw [beq_iff_eq]; exact e4,e3]
        rfl
    · have k1 : Ffa day=some (Date.mk 0 0 0,false):=by rw [hDate,if_neg hr]
      have k2 : Ffb (Date.mk 0 0 0)=some (0,false):=by decide
      rw [k1]
      simp only [Option.bind_some,k2]
      by_cases h0 : day ≥ 0
      · rw [decide_eq_true h0,decide_eq_false (show ¬ day ≤ 36524 by omega)]
        rfl
      · rw [decide_eq_false h0]
        rfl
end Go.Ln
