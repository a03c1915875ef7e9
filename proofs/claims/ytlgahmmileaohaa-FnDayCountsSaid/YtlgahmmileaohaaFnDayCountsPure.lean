/-
  The plain law: the plain functions answer true.
-/
import Derived.Test.YtlgahmmileaohaaFnDayCountsLib
import Derived.Sort.AssemblyPlain
import Derived.Sort.LotD4
import Derived.Sort.LotD5
set_option linter.unusedVariables false
set_option linter.unusedSimpArgs false
set_option maxRecDepth 100000
namespace Go.Ln
open Go
theorem u64_nat {n : Nat} (h : n < 18446744073709551616) : IntKind.u64.wrap (n : Int)=(n : Int):=by
  show (n : Int) % 18446744073709551616=n
  omega
theorem appI_one {α : Type} {b : Nat} {xs : List α} {y : α} (h : (xs.length + 1) * b ≤ 1099511627776) (h2 : xs.length + 1 ≤ 1099511627776) : appI b xs [y]=some (xs ++ [y]):=by
  unfold appI
  rw [if_pos]
  simp only [List.length_cons,List.length_nil,lim,Nat.zero_add]
  omega
theorem len_le1 {α β : Type} {f : α→List β} (hf : ∀ x,(f x).length ≤ 1) : ∀ (xs : List α),(xs.flatMap f).length ≤ xs.length
  | []=>by simp
  | x :: xs=>by
    have h1:=hf x
    have h2:=len_le1 hf xs
    rw [List.flatMap_cons,List.length_append,List.length_cons]
    omega
theorem flatMap_filter' {α : Type} {p : α→Bool} : ∀ (xs : List α),(xs.flatMap fun x=>bif p x then [x] else [])=xs.filter p
  | []=>rfl
  | x :: xs=>by
    rw [List.flatMap_cons,flatMap_filter' xs,List.filter_cons]
    cases p x <;> rfl
theorem take_len {α : Type} {xs : List α} {n : Nat} : (xs.take n).length ≤ n:=by rw [List.length_take]; omega
/-! the draws -/
def okC (c : l1Cur) (n : Nat) : Prop:=okL (okI .u8) c.f_code ∧ 0 ≤ c.f_at ∧ c.f_at ≤ n
theorem okC_mono {c : l1Cur} {n m : Nat} (h : okC c n) (hm : n ≤ m) : okC c m:=⟨h.1,h.2.1,by have:=h.2.2; omega⟩
theorem byte_range {x : Int} (h : okI .u8 x) : 0 ≤ x ∧ x ≤ 255:=by
  have e1 : IntKind.u8.min=0:=by decide
  have e2 : IntKind.u8.max=255:=by decide
  unfold okI at h
  rw [e1,e2] at h
  exact h
theorem and255 (x : Int) : 0 ≤ andI .u64 x 255 ∧ andI .u64 x 255 ≤ 255:=by
  unfold andI
  have h : (BitVec.ofInt (IntKind.bits .u64) x &&& BitVec.ofInt (IntKind.bits .u64) 255).toNat ≤ 255:=by
    rw [BitVec.toNat_and]
    exact Nat.le_trans Nat.and_le_right (by decide)
  rw [u64_nat (by omega)]
  omega
theorem next_ok (c : l1Cur) (n : Nat) (h : okC c n) (hn : n ≤ 1000000) : ∃ x c',Ffbk c=some (x,c') ∧ 0 ≤ x ∧ x ≤ 255 ∧ okC c' (n + 1):=by
  obtain ⟨hc,h0,h1⟩:=h
  have hw : w64 (c.f_at + 1)=c.f_at + 1:=w64_id (by omega) (by omega)
  have hok : ∀ s,okC (l1Cur.mk c.f_code (c.f_at + 1) s) (n + 1):=fun s=>⟨hc,by show 0 ≤ c.f_at + 1; omega,by show c.f_at + 1 ≤ ((n + 1 : Nat) : Int); omega⟩
  unfold Ffbk
  simp only [hw]
  obtain ⟨u,hu,hu0,hu1⟩ : ∃ u,(bif (decide (c.f_at < (len c.f_code))) then ((getI c.f_code c.f_at).bind fun e3=>some (Sum.inr (α:=Int × l1Cur) (IntKind.i64.wrap e3))) else (some (.inr 0)))=some (.inr u) ∧ 0 ≤ u ∧ u ≤ 255:=by
    by_cases hq : c.f_at < len c.f_code
    · rw [decide_eq_true hq,cond_true]
      obtain ⟨k,hk⟩ : ∃ k : Nat,c.f_at=k:=⟨c.f_at.toNat,by omega⟩
      rw [hk] at hq ⊢
      have hlt : k < c.f_code.length:=by simp only [len] at hq; omega
      have hb:=byte_range (hc.2 _ (List.getElem_mem hlt))
      rw [getI_nat,List.getElem?_eq_getElem hlt,Option.bind_some]
      exact ⟨_,rfl,by rw [show IntKind.i64.wrap c.f_code[k]=c.f_code[k] from w64_id (by omega) (by omega)]; omega,by rw [show IntKind.i64.wrap c.f_code[k]=c.f_code[k] from w64_id (by omega) (by omega)]; omega⟩
    · rw [decide_eq_false hq,cond_false]
      exact ⟨0,rfl,by decide,by decide⟩
  rw [hu,bindJ_inr]
  cases decide (c.f_at + 1 ≤ len c.f_code) with
  | true=>exact ⟨_,_,rfl,hu0,hu1,hok _⟩
  | false =>
    have ha:=and255 (shrI .u64 (IntKind.u64.wrap ((IntKind.u64.wrap ((IntKind.u64.wrap (c.f_seed * 6364136223846793005)) + (IntKind.u64.wrap u))) + 902902)) 40)
    refine ⟨_,_,rfl,?_,?_,hok _⟩
    · rw [show IntKind.i64.wrap _=_ from w64_id (by omega) (by omega)]; exact ha.1
    · rw [show IntKind.i64.wrap _=_ from w64_id (by omega) (by omega)]; exact ha.2
theorem pick_ok (c : l1Cur) (n : Nat) (k : Int) (h : okC c n) (hn : n ≤ 900000) (hk : k ≤ 1000000) : ∃ x c',Ffbm c k=some (x,c') ∧ 0 ≤ x ∧ (x < k ∨ x=0) ∧ okC c' (n + 2):=by
  unfold Ffbm
  by_cases h1 : k ≤ 1
  · rw [decide_eq_true h1,cond_true]
    exact ⟨0,c,rfl,by decide,.inr rfl,okC_mono h (by omega)⟩
  rw [decide_eq_false h1,cond_false]
  obtain ⟨x,c1,e1,x0,x1,ok1⟩:=next_ok c n h (by omega)
  rw [e1,Option.bind_some]
  have fin : ∀ y : Int,0 ≤ y→∃ q,remI y k=some q ∧ 0 ≤ q ∧ q < k:=by
    intro y hy
    unfold remI
    rw [if_neg (by omega)]
    exact ⟨_,rfl,Int.tmod_nonneg _ hy,Int.tmod_lt_of_pos _ (by omega)⟩
  by_cases h2 : k > 200
  · obtain ⟨x2,c2,e2,y0,y1,ok2⟩:=next_ok c1 (n + 1) ok1 (by omega)
    simp only [decide_eq_true h2,cond_true,e2,Option.bind_some,bindJ_inr]
    rw [show w64 (x * 256)=x * 256 from w64_id (by omega) (by omega),show w64 (x * 256 + x2)=x * 256 + x2 from w64_id (by omega) (by omega)]
    obtain ⟨q,f1,f2,f3⟩:=fin (x * 256 + x2) (by omega)
    rw [f1,Option.bind_some]
    exact ⟨q,_,rfl,f2,.inl f3,ok2⟩
  · simp only [decide_eq_false h2,cond_false,bindJ_inr]
    obtain ⟨q,f1,f2,f3⟩:=fin x x0
    rw [f1,Option.bind_some]
    exact ⟨q,_,rfl,f2,.inl f3,okC_mono ok1 (by omega)⟩
theorem among_ok (c : l1Cur) (n : Nat) (l : List Int) (h : okC c n) (hn : n ≤ 900000) (hl : 1 ≤ l.length) (hl2 : l.length ≤ 1000) : ∃ x c',Ffbe c l=some (x,c') ∧ x ∈ l ∧ okC c' (n + 2):=by
  unfold Ffbe
  obtain ⟨x,c1,e1,x0,x1,ok1⟩:=pick_ok c n (len l) h hn (by simp only [len]; omega)
  obtain ⟨k,hk⟩ : ∃ k : Nat,x=k:=⟨x.toNat,by omega⟩
  subst hk
  have hlt : k < l.length:=by simp only [len] at x1; omega
  rw [e1,Option.bind_some,getI_nat,List.getElem?_eq_getElem hlt,Option.bind_some]
  exact ⟨_,_,rfl,List.getElem_mem hlt,ok1⟩
theorem start_ok {code : List Int} (h : okL (okI .u8) code) : okC (l1Cur.mk code 0 0) 0:=⟨h,by show (0 : Int) ≤ 0; omega,by show (0 : Int) ≤ ((0 : Nat) : Int); omega⟩
theorem one_ok (c : l1Cur) (n : Nat) (k : Int) (h : okC c n) (hn : n ≤ 900000) (hk : k ≤ 1000000) : ∃ x c',Ffbl c k=some (x,c') ∧ okC c' (n + 2):=by
  unfold Ffbl
  obtain ⟨x,c1,e1,_,_,k1⟩:=pick_ok c n k h hn hk
  rw [e1,Option.bind_some]
  exact ⟨_,_,rfl,k1⟩
theorem day_ok (c : l1Cur) (n : Nat) (h : okC c n) (hn : n ≤ 800000) : ∃ x c',Ffbi c=some (x,c') ∧ okC c' (n + 4):=by
  unfold Ffbi
  obtain ⟨x,c1,e1,_,_,k1⟩:=pick_ok c n 6 h (by omega) (by decide)
  rw [e1,Option.bind_some]
  simp only []
  cases x == 0
  · cases x == 1
    · obtain ⟨y,c2,e2,_,_,k2⟩:=pick_ok c1 (n + 2) 1500 k1 (by omega) (by decide)
      simp only [cond_false,e2,Option.bind_some]
      exact ⟨_,_,rfl,k2⟩
    · obtain ⟨y,c2,e2,_,_,k2⟩:=pick_ok c1 (n + 2) 36525 k1 (by omega) (by decide)
      simp only [cond_false,cond_true,e2,Option.bind_some]
      exact ⟨_,_,rfl,k2⟩
  · obtain ⟨y,c2,e2,_,k2⟩:=among_ok c1 (n + 2) [0,59,60,365,366,424,425,36524,36523,30,31] k1 (by omega) (by decide) (by decide)
    simp only [cond_true,e2,Option.bind_some]
    exact ⟨_,_,rfl,k2⟩
theorem anyDay_ok (c : l1Cur) (n : Nat) (h : okC c n) (hn : n ≤ 700000) : ∃ x c',Ffbg c=some (x,c') ∧ okC c' (n + 6):=by
  unfold Ffbg
  obtain ⟨x,c1,e1,k1⟩:=one_ok c n 16 h (by omega) (by decide)
  rw [e1,Option.bind_some]
  cases x
  · obtain ⟨y,c2,e2,k2⟩:=day_ok c1 (n + 2) k1 (by omega)
    simp only [cond_false,e2,Option.bind_some]
    exact ⟨_,_,rfl,okC_mono k2 (by omega)⟩
  · obtain ⟨y,c2,e2,_,k2⟩:=among_ok c1 (n + 2) [(-1),36524,36525,1099511627776] k1 (by omega) (by decide) (by decide)
    simp only [cond_true,e2,Option.bind_some]
    exact ⟨_,_,rfl,okC_mono k2 (by omega)⟩
theorem within_ok {x a b : Int} (h1 : a ≤ x) (h2 : x ≤ b) : Fft x a b=some true:=by
  unfold Fft
  rw [decide_eq_true (by omega),cond_true,letJ_eq,decide_eq_true h2]
theorem within_val (x a b : Int) : Fft x a b=some (decide (a ≤ x ∧ x ≤ b)):=by
  unfold Fft
  by_cases h : x ≥ a
  · rw [decide_eq_true h,cond_true,letJ_eq]
    congr 1
    exact decide_eq_decide.2 ⟨fun h2=>⟨h,h2⟩,fun h2=>h2.2⟩
  · rw [decide_eq_false h,cond_false,letJ_eq,decide_eq_false (by omega)]
/-! dates -/
def leap (y : Int) : Int:=if y % 4=0 then 1 else 0
def mlen (y m : Int) : Int:=if m=2 then 28 + leap y else if m=4 ∨ m=6 ∨ m=9 ∨ m=11 then 30 else 31
def m0 (y : Int) : Nat→Int
  | 0=>0
  | k + 1=>m0 y k + mlen y ((k + 1 : Nat) : Int)
def y0 (y : Int) : Int:=365 * (y - 2000) + (y - 2000 + 3) / 4
theorem leap_le (y : Int) : 0 ≤ leap y ∧ leap y ≤ 1:=by unfold leap; split <;> omega
theorem mlen_le (y m : Int) : 28 ≤ mlen y m ∧ mlen y m ≤ 31:=by
  have:=leap_le y
  unfold mlen
  split
  · omega
  · split <;> omega
theorem m0_le (y : Int) : ∀ k : Nat,28 * (k : Int) ≤ m0 y k ∧ m0 y k ≤ 31 * (k : Int)
  | 0=>by simp [m0]
  | k + 1=>by
    have:=m0_le y k
    have:=mlen_le y ((k + 1 : Nat) : Int)
    simp only [m0]
    omega
theorem m0_mono (y : Int) {a b : Nat} (h : a ≤ b) : m0 y a ≤ m0 y b := by
  induction b with
  | zero => have : a = 0 := by omega
            subst this; exact Int.le_refl _
  | succ b ih =>
    by_cases e : a = b + 1
    · subst e; exact Int.le_refl _
    · have := ih (by omega)
      have := mlen_le y ((b + 1 : Nat) : Int)
      simp only [m0]
      omega
theorem m0_12 (y : Int) : m0 y 12=365 + leap y:=by simp [m0,mlen]; omega
theorem y0_succ (y : Int) : y0 (y + 1)=y0 y + 365 + leap y:=by unfold y0 leap; split <;> omega
theorem y0_uniq {a b day : Int} (h1 : y0 a ≤ day) (h2 : day < y0 (a + 1)) (h3 : y0 b ≤ day) (h4 : day < y0 (b + 1)) : a=b:=by unfold y0 at *; omega
theorem m0_uniq {y r : Int} {a b : Nat} (h1 : m0 y a ≤ r) (h2 : r < m0 y (a + 1)) (h3 : m0 y b ≤ r) (h4 : r < m0 y (b + 1)) : a=b:=by
  rcases Nat.lt_trichotomy a b with h | h | h
  · have:=m0_mono y (show a + 1 ≤ b from h); omega
  · exact h
  · have:=m0_mono y (show b + 1 ≤ a from h); omega
theorem tmod4 {y : Int} (hy : 0 ≤ y) : y.tmod 4=y % 4:=Int.tmod_eq_emod_of_nonneg hy
theorem y0_2000 : y0 2000=0:=by unfold y0; omega
/-- What a date says of a day. -/
def DateOk (day Y : Int) (M : Nat) (D : Int) : Prop:=2000 ≤ Y ∧ Y ≤ 2099 ∧ M ≤ 11 ∧ 1 ≤ D ∧ D ≤ mlen Y ((M + 1 : Nat) : Int) ∧ day=y0 Y + m0 Y M + D - 1
theorem DateOk.b {day Y : Int} {M : Nat} {D : Int} (h : DateOk day Y M D) : y0 Y ≤ day ∧ day < y0 (Y + 1) ∧ m0 Y M ≤ day - y0 Y ∧ day - y0 Y < m0 Y (M + 1):=by
  obtain ⟨h1,h2,h3,h4,h5,h6⟩:=h
  have he : m0 Y (M + 1)=m0 Y M + mlen Y ((M + 1 : Nat) : Int):=rfl
  have hm:=m0_mono Y (show M + 1 ≤ 12 by omega)
  have h12:=m0_12 Y
  have hs:=y0_succ Y
  have hk:=m0_le Y M
  omega
theorem DateOk.uniq {day Y Y' : Int} {M M' : Nat} {D D' : Int} (h : DateOk day Y M D) (h' : DateOk day Y' M' D') : Y=Y' ∧ M=M' ∧ D=D':=by
  have b:=h.b
  have b':=h'.b
  have e:=y0_uniq b.1 b.2.1 b'.1 b'.2.1
  subst e
  have e:=m0_uniq b.2.2.1 b.2.2.2 b'.2.2.1 b'.2.2.2
  subst e
  have h6:=h.2.2.2.2.2
  have h6':=h'.2.2.2.2.2
  exact ⟨rfl,rfl,by omega⟩
theorem DateOk.range {day Y : Int} {M : Nat} {D : Int} (h : DateOk day Y M D) : 0 ≤ day ∧ day ≤ 36524:=by
  have b:=h.b
  have hb : 0 ≤ y0 Y ∧ y0 (Y + 1) ≤ 36525:=by have h1:=h.1; have h2:=h.2.1; unfold y0; omega
  omega
theorem impl_len (y m : Int) (hy : 0 ≤ y) : Ffh y m=some (mlen y m):=by
  simp only [Ffh,letJ_eq,tmod4 hy,mlen,leap]
  by_cases e : m=2
  · subst e
    by_cases f : y % 4=0
    · simp [f]
    · simp [f,beq_eq_false_iff_ne.2 f]
  by_cases a : m=4
  · subst a; rfl
  by_cases b : m=6
  · subst b; rfl
  by_cases c : m=9
  · subst c; rfl
  by_cases d : m=11
  · subst d; rfl
  · simp [a,b,c,d,e,beq_eq_false_iff_ne.2 a,beq_eq_false_iff_ne.2 b,beq_eq_false_iff_ne.2 c,beq_eq_false_iff_ne.2 d,beq_eq_false_iff_ne.2 e]
theorem impl_ylen (y : Int) (hy : 0 ≤ y) : Ffi y=some (365 + leap y):=by
  have:=leap_le y
  unfold Ffi
  rw [impl_len _ _ hy]
  simp only [Option.bind_some,mlen,if_true]
  rw [w64_id (by omega) (by omega)]
  congr 1
  omega
theorem impl_year (day : Int) (hd : 0 ≤ day) (hd2 : day ≤ 36524) : ∀ (n : Nat) (x : Int),x + n=2099→2000 ≤ x→y0 x ≤ day→∃ Y,Ffe_la day (day - y0 x,x)=some (.inr (day - y0 Y,Y)) ∧ 2000 ≤ Y ∧ Y ≤ 2099 ∧ y0 Y ≤ day ∧ day < y0 (Y + 1):=by
  intro n
  induction n with
  | zero =>
    intro x hn h0 hx
    rw [Ffe_la_eq,Ffe_la_F]
    have hl:=leap_le x
    have hs:=y0_succ x
    have : x=2099:=by omega
    have h9 : day < y0 (x + 1):=by subst this; unfold y0; omega
    simp only [impl_ylen x (by omega),Option.bind_some]
    rw [decide_eq_false (by omega),cond_false]
    exact ⟨x,rfl,h0,by omega,hx,h9⟩
  | succ n ih =>
    intro x hn h0 hx
    rw [Ffe_la_eq,Ffe_la_F]
    have hl:=leap_le x
    have hs:=y0_succ x
    have hb : 0 ≤ y0 x:=by unfold y0; omega
    simp only [impl_ylen x (by omega),Option.bind_some]
    by_cases h : y0 (x + 1) ≤ day
    · rw [decide_eq_true (by omega),cond_true,w64_id (by omega) (by omega),w64_id (by omega) (by omega),show day - y0 x - (365 + leap x)=day - y0 (x + 1) by omega]
      exact ih (x + 1) (by omega) (by omega) h
    · rw [decide_eq_false (by omega),cond_false]
      exact ⟨x,rfl,h0,by omega,hx,by omega⟩
theorem impl_month (day Y r : Int) (hd : 0 ≤ day) (hd2 : day ≤ 36524) (hY : 2000 ≤ Y) (hY2 : Y ≤ 2099) (hy0 : y0 Y ≤ day) (hy : day < y0 (Y + 1)) : ∀ (n k : Nat),k + n=11→y0 Y + m0 Y k ≤ day→∃ M : Nat,Ffe_lb day (r,Y) (day - y0 Y - m0 Y k,((k + 1 : Nat) : Int))=some (.inr (day - y0 Y - m0 Y M,((M + 1 : Nat) : Int))) ∧ M ≤ 11 ∧ y0 Y + m0 Y M ≤ day ∧ day < y0 Y + m0 Y (M + 1):=by
  intro n
  have hb : 0 ≤ y0 Y:=by unfold y0; omega
  induction n with
  | zero =>
    intro k hn hx
    obtain rfl : k=11:=by omega
    have h12:=m0_12 Y
    rw [y0_succ] at hy
    have he : m0 Y 12=m0 Y 11 + mlen Y ((11 + 1 : Nat) : Int):=rfl
    rw [Ffe_lb_eq,Ffe_lb_F]
    simp only [impl_len Y _ (show 0 ≤ Y by omega),Option.bind_some]
    rw [decide_eq_false (by omega),cond_false]
    exact ⟨11,rfl,by omega,hx,show day < y0 Y + m0 Y 12 by omega⟩
  | succ n ih =>
    intro k hn hx
    have he : m0 Y (k + 1)=m0 Y k + mlen Y ((k + 1 : Nat) : Int):=rfl
    have hk:=m0_le Y k
    have hl:=mlen_le Y ((k + 1 : Nat) : Int)
    rw [Ffe_lb_eq,Ffe_lb_F]
    simp only [impl_len Y _ (show 0 ≤ Y by omega),Option.bind_some]
    by_cases h : y0 Y + m0 Y (k + 1) ≤ day
    · rw [decide_eq_true (by omega),cond_true,w64_id (by omega) (by omega),w64_succ (by omega),show day - y0 Y - m0 Y k - mlen Y ((k + 1 : Nat) : Int)=day - y0 Y - m0 Y (k + 1) by omega]
      exact ih (k + 1) (by omega) h
    · rw [decide_eq_false (by omega),cond_false]
      exact ⟨k,rfl,by omega,hx,by omega⟩
theorem impl_dates (day : Int) (hd : 0 ≤ day) (hd2 : day ≤ 36524) : ∃ (Y : Int) (M : Nat) (D : Int),Ffe day=some ⟨Y,((M + 1 : Nat) : Int),D⟩ ∧ DateOk day Y M D:=by
  obtain ⟨Y,g1,g2,g3,g4,g5⟩:=impl_year day hd hd2 99 2000 (by omega) (by omega) (by rw [y0_2000]; exact hd)
  obtain ⟨M,k1,k2,k3,k4⟩:=impl_month day Y (day - y0 Y) hd hd2 g2 g3 g4 g5 11 0 (by omega) (by simp only [m0]; omega)
  have hk:=m0_le Y M
  have hb : 0 ≤ y0 Y:=by unfold y0; omega
  have he : m0 Y (M + 1)=m0 Y M + mlen Y ((M + 1 : Nat) : Int):=rfl
  rw [y0_2000,Int.sub_zero] at g1
  simp only [m0,Int.sub_zero] at k1
  refine ⟨Y,M,day - y0 Y - m0 Y M + 1,?_,g2,g3,k2,by omega,by omega,by omega⟩
  unfold Ffe
  rw [g1]
  simp only [bindJ_inr]
  rw [show (1 : Int)=((0 + 1 : Nat) : Int) by rfl,k1]
  simp only [bindJ_inr]
  rw [w64_id (by omega) (by omega)]
theorem spec_len (y m : Int) (hy : 0 ≤ y) : Ffbz y m=some (mlen y m):=by
  simp only [Ffbz,letJ_eq,tmod4 hy,mlen,leap]
  by_cases a : m=4
  · subst a; rfl
  by_cases b : m=6
  · subst b; rfl
  by_cases c : m=9
  · subst c; rfl
  by_cases d : m=11
  · subst d; rfl
  by_cases e : m=2
  · subst e
    by_cases f : y % 4=0
    · simp [f]
    · simp [f,beq_eq_false_iff_ne.2 f]
  · simp [a,b,c,d,e,beq_eq_false_iff_ne.2 a,beq_eq_false_iff_ne.2 b,beq_eq_false_iff_ne.2 c,beq_eq_false_iff_ne.2 d,beq_eq_false_iff_ne.2 e]
theorem spec_day_la (d : Date) (hy : 0 ≤ d.Year) : ∀ (n k : Nat) (acc : Int),((k + 1 + n : Nat) : Int)=d.Month→d.Month ≤ 13→0 ≤ acc→acc + 31 * (n : Int) ≤ 1000000→Ffbx_la d (acc,((k + 1 : Nat) : Int))=some (.inr (acc + m0 d.Year (k + n) - m0 d.Year k))
  | 0,k,acc,hm,h13,ha,hb=>by
    rw [Ffbx_la_eq,Ffbx_la_F]
    rw [decide_eq_false (by omega),cond_false]
    simp only [Nat.add_zero]
    congr 2
    omega
  | n + 1,k,acc,hm,h13,ha,hb=>by
    rw [Ffbx_la_eq,Ffbx_la_F]
    rw [decide_eq_true (by omega),cond_true]
    simp only [spec_len _ _ hy,Option.bind_some]
    have hl:=mlen_le d.Year ((k + 1 : Nat) : Int)
    rw [w64_id (by omega) (by omega),w64_succ (by omega)]
    rw [spec_day_la d hy n (k + 1) _ (by omega) h13 (by omega) (by omega)]
    rw [show k + (n + 1)=k + 1 + n by omega]
    congr 2
    simp only [m0]
    omega
theorem spec_day (y dd : Int) (k : Nat) (hy : 2000 ≤ y) (hy2 : y ≤ 2100) (hm : k ≤ 12) (hd : 0 ≤ dd) (hd2 : dd ≤ 100000) : Ffbx ⟨y,((k + 1 : Nat) : Int),dd⟩=some (y0 y + m0 y k + dd - 1):=by
  have hk:=m0_le y k
  unfold Ffbx
  simp only
  have e1 : w64 (y - 2000)=y - 2000:=w64_id (by omega) (by omega)
  rw [e1]
  have e2 : w64 (y - 2000 + 3)=y - 2000 + 3:=w64_id (by omega) (by omega)
  have e3 : w64 (365 * (y - 2000))=365 * (y - 2000):=w64_id (by omega) (by omega)
  rw [e2,e3,Int.tdiv_eq_ediv_of_nonneg (by omega : 0 ≤ y - 2000 + 3)]
  have e4 : w64 ((y - 2000 + 3) / 4)=(y - 2000 + 3) / 4:=w64_id (by omega) (by omega)
  rw [e4]
  have e5 : w64 (365 * (y - 2000) + (y - 2000 + 3) / 4)=y0 y:=w64_id (by omega) (by omega)
  rw [e5]
  have hb : 0 ≤ y0 y ∧ y0 y ≤ 40000:=by unfold y0; omega
  rw [show (1 : Int)=((0 + 1 : Nat) : Int) by rfl,spec_day_la ⟨y,((k + 1 : Nat) : Int),dd⟩ (by simp only; omega) k 0 (y0 y) (by simp only; omega) (by simp only; omega) hb.1 (by omega)]
  simp only [bindJ_inr,Nat.zero_add,m0]
  rw [show w64 (y0 y + m0 y k - 0 + dd)=y0 y + m0 y k - 0 + dd from w64_id (by omega) (by omega),w64_id (by omega) (by omega)]
  congr 1
  omega
theorem spec_year (day : Int) (hd : 0 ≤ day) (hd2 : day ≤ 36524) : ∀ (n : Nat) (x : Int),x + n=2099→2000 ≤ x→y0 x ≤ day→∃ Y,Ffbw_la day x=some (.inr Y) ∧ 2000 ≤ Y ∧ Y ≤ 2099 ∧ y0 Y ≤ day ∧ day < y0 (Y + 1)
  | 0,x,hn,h0,hx=>by
    rw [Ffbw_la_eq,Ffbw_la_F]
    rw [decide_eq_false (by omega),cond_false]
    refine ⟨x,rfl,h0,by omega,hx,?_⟩
    have : x=2099:=by omega
    subst this
    unfold y0
    omega
  | n + 1,x,hn,h0,hx=>by
    rw [Ffbw_la_eq,Ffbw_la_F]
    rw [decide_eq_true (by omega),cond_true,w64_id (by omega) (by omega)]
    rw [show (1 : Int)=((0 + 1 : Nat) : Int) by rfl,spec_day (x + ((0 + 1 : Nat) : Int)) _ 0 (by omega) (by omega) (by omega) (by omega) (by omega)]
    simp only [Option.bind_some,m0]
    have e : y0 (x + ((0 + 1 : Nat) : Int)) + 0 + ((0 + 1 : Nat) : Int) - 1=y0 (x + 1):=by simp
    rw [e]
    by_cases h : y0 (x + 1) ≤ day
    · rw [decide_eq_true h]
      exact spec_year day hd hd2 n (x + 1) (by omega) (by omega) h
    · rw [decide_eq_false h]
      exact ⟨x,rfl,h0,by omega,hx,by omega⟩
theorem spec_month (day Y : Int) (hd : 0 ≤ day) (hd2 : day ≤ 36524) (hY : 2000 ≤ Y) (hY2 : Y ≤ 2099) (hy : day < y0 (Y + 1)) : ∀ (n k : Nat),k + n=11→y0 Y + m0 Y k ≤ day→∃ M : Nat,Ffbw_lb day Y ((k + 1 : Nat) : Int)=some (.inr ((M + 1 : Nat) : Int)) ∧ M ≤ 11 ∧ y0 Y + m0 Y M ≤ day ∧ day < y0 Y + m0 Y (M + 1)
  | 0,k,hn,hx=>by
    obtain rfl : k=11:=by omega
    rw [Ffbw_lb_eq,Ffbw_lb_F]
    rw [decide_eq_false (by omega),cond_false]
    refine ⟨11,rfl,by omega,hx,?_⟩
    rw [m0_12]
    rw [y0_succ] at hy
    omega
  | n + 1,k,hn,hx=>by
    rw [Ffbw_lb_eq,Ffbw_lb_F]
    rw [decide_eq_true (by omega),cond_true,w64_succ (by omega)]
    rw [spec_day Y 1 (k + 1) (by omega) (by omega) (by omega) (by omega) (by omega)]
    simp only [Option.bind_some]
    have e : y0 Y + m0 Y (k + 1) + 1 - 1=y0 Y + m0 Y (k + 1):=by omega
    rw [e]
    by_cases h : y0 Y + m0 Y (k + 1) ≤ day
    · rw [decide_eq_true h]
      exact spec_month day Y hd hd2 hY hY2 hy n (k + 1) (by omega) h
    · rw [decide_eq_false h]
      exact ⟨k,rfl,by omega,hx,by omega⟩
theorem spec_date (day : Int) (hd : 0 ≤ day) (hd2 : day ≤ 36524) : ∃ (Y : Int) (M : Nat),Ffbw day=some ⟨Y,((M + 1 : Nat) : Int),day - y0 Y - m0 Y M + 1⟩ ∧ 2000 ≤ Y ∧ Y ≤ 2099 ∧ y0 Y ≤ day ∧ day < y0 (Y + 1) ∧ M ≤ 11 ∧ m0 Y M ≤ day - y0 Y ∧ day - y0 Y < m0 Y (M + 1):=by
  obtain ⟨Y,h1,h2,h3,h4,h5⟩:=spec_year day hd hd2 99 2000 (by omega) (by omega) (by rw [y0_2000]; exact hd)
  obtain ⟨M,g1,g2,g3,g4⟩:=spec_month day Y hd hd2 h2 h3 h5 11 0 (by omega) (by simp only [m0]; omega)
  refine ⟨Y,M,?_,h2,h3,h4,h5,g2,by omega,by omega⟩
  have hk:=m0_le Y M
  have hb : 0 ≤ y0 Y ∧ y0 Y ≤ 40000:=by unfold y0; omega
  unfold Ffbw
  rw [h1]
  simp only [bindJ_inr]
  rw [show (1 : Int)=((0 + 1 : Nat) : Int) by rfl,g1]
  simp only [bindJ_inr]
  rw [spec_day Y _ M h2 (by omega) (by omega) (by omega) (by omega)]
  simp only [Option.bind_some]
  have e : w64 (w64 (day - (y0 Y + m0 Y M + ((0 + 1 : Nat) : Int) - 1)) + ((0 + 1 : Nat) : Int))=day - y0 Y - m0 Y M + 1:=by
    rw [show w64 (day - (y0 Y + m0 Y M + ((0 + 1 : Nat) : Int) - 1))=day - y0 Y - m0 Y M from by rw [w64_id (by omega) (by omega)]; omega,w64_id (by omega) (by omega)]
    rfl
  rw [e]
  rfl
theorem spec_dates (day : Int) (hd : 0 ≤ day) (hd2 : day ≤ 36524) : ∃ (Y : Int) (M : Nat) (D : Int),Ffbw day=some ⟨Y,((M + 1 : Nat) : Int),D⟩ ∧ DateOk day Y M D:=by
  obtain ⟨Y,M,h1,h2,h3,h4,h5,h6,h7,h8⟩:=spec_date day hd hd2
  have he : m0 Y (M + 1)=m0 Y M + mlen Y ((M + 1 : Nat) : Int):=rfl
  exact ⟨Y,M,_,h1,h2,h3,h6,by omega,by omega,by omega⟩
/-- Both give the same date of a day. -/
theorem dates (day : Int) (hd : 0 ≤ day) (hd2 : day ≤ 36524) : ∃ (Y : Int) (M : Nat) (D : Int),Ffbw day=some ⟨Y,((M + 1 : Nat) : Int),D⟩ ∧ Ffe day=some ⟨Y,((M + 1 : Nat) : Int),D⟩ ∧ 2000 ≤ Y ∧ Y ≤ 2099 ∧ M ≤ 11 ∧ 1 ≤ D ∧ D ≤ mlen Y ((M + 1 : Nat) : Int) ∧ day=y0 Y + m0 Y M + D - 1:=by
  obtain ⟨Y,M,D,h1,h2⟩:=spec_dates day hd hd2
  obtain ⟨Y',M',D',h1',h2'⟩:=impl_dates day hd hd2
  obtain ⟨rfl,rfl,rfl⟩:=h2.uniq h2'
  exact ⟨Y,M,D,h1,h1',h2⟩
theorem Ffg_year (d : Date) (hy : d.Year ≤ 2100) : ∀ (n : Nat) (x acc : Int),x + n=d.Year→2000 ≤ x→0 ≤ acc→acc + 366 * (n : Int) ≤ 1000000→Ffg_la d (acc,x)=some (.inr (acc + y0 d.Year - y0 x))
  | 0,x,acc,hn,h0,ha,hb=>by
    rw [Ffg_la_eq,Ffg_la_F]
    rw [decide_eq_false (by omega),cond_false]
    rw [show x=d.Year by omega]
    congr 2
    omega
  | n + 1,x,acc,hn,h0,ha,hb=>by
    have hl:=leap_le x
    have hs:=y0_succ x
    rw [Ffg_la_eq,Ffg_la_F]
    rw [decide_eq_true (by omega),cond_true]
    simp only [impl_ylen x (by omega),Option.bind_some]
    rw [w64_id (by omega) (by omega),w64_id (by omega) (by omega),Ffg_year d hy n (x + 1) _ (by omega) (by omega) (by omega) (by omega)]
    congr 2
    omega
theorem Ffg_month (d : Date) (hy : 0 ≤ d.Year) : ∀ (n k : Nat) (acc : Int),((k + 1 + n : Nat) : Int)=d.Month→d.Month ≤ 13→0 ≤ acc→acc + 31 * (n : Int) ≤ 1000000→Ffg_lb d (acc,((k + 1 : Nat) : Int))=some (.inr (acc + m0 d.Year (k + n) - m0 d.Year k))
  | 0,k,acc,hm,h13,ha,hb=>by
    rw [Ffg_lb_eq,Ffg_lb_F]
    rw [decide_eq_false (by omega),cond_false]
    simp only [Nat.add_zero]
    congr 2
    omega
  | n + 1,k,acc,hm,h13,ha,hb=>by
    have hl:=mlen_le d.Year ((k + 1 : Nat) : Int)
    rw [Ffg_lb_eq,Ffg_lb_F]
    rw [decide_eq_true (by omega),cond_true]
    simp only [impl_len _ _ hy,Option.bind_some]
    rw [w64_id (by omega) (by omega),w64_succ (by omega)]
    rw [Ffg_month d hy n (k + 1) _ (by omega) h13 (by omega) (by omega)]
    rw [show k + (n + 1)=k + 1 + n by omega]
    congr 2
    simp only [m0]
    omega
theorem Ffg_ok {day Y : Int} {M : Nat} {D : Int} (h : DateOk day Y M D) : Ffg ⟨Y,((M + 1 : Nat) : Int),D⟩=some day:=by
  obtain ⟨h1,h2,h3,h4,h5,h6⟩:=h
  have hk:=m0_le Y M
  have hm:=mlen_le Y ((M + 1 : Nat) : Int)
  have hb : 0 ≤ y0 Y ∧ y0 Y ≤ 40000:=by unfold y0; omega
  unfold Ffg
  simp only
  rw [w64_id (by omega) (by omega)]
  obtain ⟨n,hn⟩ : ∃ n : Nat,(2000 : Int) + n=Y:=⟨(Y - 2000).toNat,by omega⟩
  rw [Ffg_year ⟨Y,((M + 1 : Nat) : Int),D⟩ (by simp only; omega) n 2000 _ hn (by omega) (by omega) (by omega)]
  simp only [bindJ_inr]
  rw [show (1 : Int)=((0 + 1 : Nat) : Int) by rfl,Ffg_month ⟨Y,((M + 1 : Nat) : Int),D⟩ (by simp only; omega) M 0 _ (by simp only; omega) (by simp only; omega) (by rw [y0_2000]; omega) (by rw [y0_2000]; omega)]
  simp only [bindJ_inr,Nat.zero_add,m0,y0_2000]
  congr 1
  omega
/-! fractions -/
theorem remI_nat {a b : Nat} (h : b ≠ 0) : remI (a : Int) (b : Int)=some ((a % b : Nat) : Int):=by
  unfold remI
  rw [if_neg (by omega)]
  congr 1
theorem quoI_nat {a b : Nat} (h : b ≠ 0) (ha : a < 9223372036854775808) : quoI .i64 (a : Int) (b : Int)=some ((a / b : Nat) : Int):=by
  unfold quoI
  rw [if_neg (by omega)]
  have e : (a : Int).tdiv (b : Int)=((a / b : Nat) : Int):=rfl
  have hle:=Nat.div_le_self a b
  have h0 : (0 : Int) ≤ ((a / b : Nat) : Int):=Int.natCast_nonneg _
  rw [e]
  congr 1
  exact w64_id (by omega) (by omega)
theorem nat_bne0 {b : Nat} : ((b : Int) != 0)=decide (b ≠ 0):=by
  rw [int_bne,← decide_not]
  exact decide_eq_decide.2 (by omega)
theorem impl_gcd_la (x y : Int) : ∀ (b a : Nat),Ffj_la x y ((a : Int),(b : Int))=some (.inr ((Nat.gcd a b : Nat) : Int)):=by
  intro b
  induction b using Nat.strongRecOn with
  | _ b ih =>
    intro a
    rw [Ffj_la_eq,Ffj_la_F]
    simp only [nat_bne0]
    by_cases h : b=0
    · subst h
      simp
    · rw [decide_eq_true h,cond_true,remI_nat h,Option.bind_some,ih (a % b) (Nat.mod_lt _ (by omega)) b,← Nat.gcd_comm (a % b) b,← Nat.gcd_rec,Nat.gcd_comm]
theorem spec_gcd_la (x y : Int) : ∀ (b a : Nat),Ffbu_la x y ((a : Int),(b : Int))=some (.inr ((Nat.gcd a b : Nat) : Int)):=by
  intro b
  induction b using Nat.strongRecOn with
  | _ b ih =>
    intro a
    rw [Ffbu_la_eq,Ffbu_la_F]
    simp only [nat_bne0]
    by_cases h : b=0
    · subst h
      simp
    · rw [decide_eq_true h,cond_true,remI_nat h,Option.bind_some,ih (a % b) (Nat.mod_lt _ (by omega)) b,← Nat.gcd_comm (a % b) b,← Nat.gcd_rec,Nat.gcd_comm]
theorem impl_size_nat {n : Nat} (h : n < 9223372036854775807) : impl_size (n : Int)=some (n : Int):=by
  unfold impl_size
  rw [w64_id (by omega) (by omega)]
  congr 1
  split <;> omega
theorem impl_div_nat (a b : Nat) (h : Nat.gcd a b < 9223372036854775807) : Ffj (a : Int) (b : Int)=some ((Nat.gcd a b : Nat) : Int):=by
  unfold Ffj
  rw [impl_gcd_la]
  simp only [bindJ_inr,impl_size_nat h,Option.bind_some]
theorem spec_gcd_nat (a b : Nat) : Ffbu (a : Int) (b : Int)=some ((Nat.gcd a b : Nat) : Int):=by
  unfold Ffbu
  rw [spec_gcd_la]
  rfl
theorem spec_abs_nat (a : Nat) : Ffbr (a : Int)=some (a : Int):=by
  unfold Ffbr
  rw [decide_eq_false (by omega),cond_false]
theorem fwithin_ok {x a b : Int} (h1 : a ≤ x) (h2 : x ≤ b) : Fft x a b=some true:=by
  unfold Fft
  rw [decide_eq_true (by omega),cond_true,letJ_eq,decide_eq_true h2]
theorem sin_ok {x a b : Int} (h1 : a ≤ x) (h2 : x ≤ b) : spec_l1In x a b=some true:=by
  unfold spec_l1In
  rw [decide_eq_true (by omega),cond_true,letJ_eq,decide_eq_true h2]
/-- A fraction in its lowest terms. -/
def redF (k d : Nat) : Fraction:=⟨((k / Nat.gcd k d : Nat) : Int),((d / Nat.gcd k d : Nat) : Int)⟩
theorem gcd_pos {k d : Nat} (h : 0 < d) : 0 < Nat.gcd k d:=Nat.gcd_pos_of_pos_right k h
theorem gcd_le {k d : Nat} (h : 0 < d) : Nat.gcd k d ≤ d:=Nat.gcd_le_right k h
theorem den_pos {k d : Nat} (h : 0 < d) : 0 < d / Nat.gcd k d:=Nat.div_pos (gcd_le h) (gcd_pos h)
theorem gcd_one {k d : Nat} (h : 0 < d) : Nat.gcd (k / Nat.gcd k d) (d / Nat.gcd k d)=1:=Nat.coprime_div_gcd_div_gcd (gcd_pos h)
theorem impl_isFrac (k d : Nat) (hd : 0 < d) (hd2 : d ≤ 1000000000) (hk : k ≤ 1000000000) : Ffo (redF k d)=some true:=by
  have h1:=den_pos (k:=k) hd
  have h2:=Nat.div_le_self d (Nat.gcd k d)
  have h3:=Nat.div_le_self k (Nat.gcd k d)
  have h0 : (0 : Int) ≤ ((k / Nat.gcd k d : Nat) : Int):=Int.natCast_nonneg _
  unfold Ffo Ffl redF
  simp only
  rw [fwithin_ok (by omega) (by omega),fwithin_ok (by omega) (by omega),impl_div_nat _ _ (by rw [gcd_one hd]; omega),gcd_one hd]
  rfl
theorem spec_isFrac (k d : Nat) (hd : 0 < d) (hd2 : d ≤ 1000000000) (hk : k ≤ 1000000000) : Ffbt (redF k d)=some true:=by
  have h1:=den_pos (k:=k) hd
  have h2:=Nat.div_le_self d (Nat.gcd k d)
  have h3:=Nat.div_le_self k (Nat.gcd k d)
  have h0 : (0 : Int) ≤ ((k / Nat.gcd k d : Nat) : Int):=Int.natCast_nonneg _
  unfold Ffbt Ffbs redF
  simp only
  rw [sin_ok (by omega) (by omega),sin_ok (by omega) (by omega),spec_abs_nat]
  simp only [Option.bind_some,spec_gcd_nat,gcd_one hd]
  rfl
theorem impl_frac (k d : Nat) (hd : 0 < d) (hd2 : d ≤ 1000000000) (hk : k ≤ 1000000000) : Ffk (k : Int) (d : Int)=some (redF k d,true):=by
  have hg:=gcd_pos (k:=k) hd
  have hl:=gcd_le (k:=k) hd
  have hf:=impl_isFrac k d hd hd2 hk
  unfold redF at hf ⊢
  unfold Ffk
  rw [impl_div_nat k d (by omega),Option.bind_some,decide_eq_false (by omega),cond_false,letJ_eq,quoI_nat (by omega) (by omega),Option.bind_some,quoI_nat (by omega) (by omega),Option.bind_some,hf]
  rfl
theorem spec_reduce (k d : Nat) (hd : 0 < d) (hd2 : d < 9223372036854775808) (hk : k < 9223372036854775808) : ∃ b,Ffbv (k : Int) (d : Int)=some (bif b then redF k d else ⟨0,0⟩,b) ∧ (d ≤ 1000000000→k ≤ 1000000000→b=true):=by
  have hg:=gcd_pos (k:=k) hd
  unfold Ffbv
  rw [decide_eq_false (by omega),cond_false,letJ_eq]
  simp only [spec_abs_nat,Option.bind_some,spec_gcd_nat]
  rw [quoI_nat (by omega) hk,Option.bind_some,quoI_nat (by omega) hd2,Option.bind_some]
  have h1:=den_pos (k:=k) hd
  by_cases hv : d ≤ 1000000000 ∧ k ≤ 1000000000
  · have hf:=spec_isFrac k d hd hv.1 hv.2
    unfold redF at hf
    rw [hf]
    exact ⟨true,rfl,fun _ _=>rfl⟩
  · obtain ⟨b,hb⟩ : ∃ b,Ffbt ⟨((k / Nat.gcd k d : Nat) : Int),((d / Nat.gcd k d : Nat) : Int)⟩=some b:=by
      unfold Ffbt Ffbs
      simp only
      cases e1 : spec_l1In ((d / Nat.gcd k d : Nat) : Int) 1 1000000000 with
      | none=>unfold spec_l1In at e1; cases e1
      | some b1 =>
        cases b1 with
        | false=>exact ⟨_,rfl⟩
        | true =>
          cases e2 : spec_l1In ((k / Nat.gcd k d : Nat) : Int) (-1000000000) 1000000000 with
          | none=>unfold spec_l1In at e2; cases e2
          | some b2 =>
            cases b2 with
            | false=>exact ⟨_,rfl⟩
            | true =>
              rw [spec_abs_nat]
              simp only [Option.bind_some,spec_gcd_nat]
              exact ⟨_,rfl⟩
    rw [hb]
    refine ⟨b,?_,fun h1 h2=>absurd ⟨h1,h2⟩ hv⟩
    cases b <;> rfl
theorem spec_make (k d : Nat) (hd : 0 < d) (hd2 : d ≤ 1000000000) (hk : k ≤ 1000000000) : Ffbd (k : Int) (d : Int)=some (redF k d,true):=by
  obtain ⟨b,h1,h2⟩:=spec_reduce k d hd (by omega) (by omega)
  obtain rfl:=h2 hd2 hk
  unfold Ffbd
  rw [show ((d : Int) == 0)=false by rw [beq_eq_false_iff_ne]; omega,cond_false,sin_ok (by omega) (by omega),sin_ok (by omega) (by omega),h1]
  rfl
/-- Equal ratios have the same lowest terms. -/
theorem redF_eq {a b c d : Nat} (hb : 0 < b) (hd : 0 < d) (h : a * d=c * b) : redF a b=redF c d:=by
  have key : ∀ {a b c d : Nat},0 < b→0 < d→a * d=c * b→b / Nat.gcd a b ∣ d / Nat.gcd c d:=by
    intro a b c d hb hd h
    have g1:=gcd_pos (k:=a) hb
    have g2:=gcd_pos (k:=c) hd
    have ea : a=a / Nat.gcd a b * Nat.gcd a b:=(Nat.div_mul_cancel (Nat.gcd_dvd_left a b)).symm
    have eb : b=b / Nat.gcd a b * Nat.gcd a b:=(Nat.div_mul_cancel (Nat.gcd_dvd_right a b)).symm
    have ec : c=c / Nat.gcd c d * Nat.gcd c d:=(Nat.div_mul_cancel (Nat.gcd_dvd_left c d)).symm
    have ed : d=d / Nat.gcd c d * Nat.gcd c d:=(Nat.div_mul_cancel (Nat.gcd_dvd_right c d)).symm
    have hc : Nat.Coprime (b / Nat.gcd a b) (a / Nat.gcd a b):=by
      rw [Nat.coprime_comm]
      exact Nat.coprime_div_gcd_div_gcd g1
    generalize a / Nat.gcd a b=a1 at *
    generalize b / Nat.gcd a b=b1 at *
    generalize c / Nat.gcd c d=c1 at *
    generalize d / Nat.gcd c d=d1 at *
    generalize Nat.gcd a b=g at *
    generalize Nat.gcd c d=f at *
    have h2 : (g * f) * (a1 * d1)=(g * f) * (c1 * b1):=by
      rw [ea,eb,ec,ed] at h
      calc (g * f) * (a1 * d1)=a1 * g * (d1 * f):=by simp only [Nat.mul_assoc,Nat.mul_comm,Nat.mul_left_comm]
        _=c1 * f * (b1 * g):=h
        _=(g * f) * (c1 * b1):=by simp only [Nat.mul_assoc,Nat.mul_comm,Nat.mul_left_comm]
    have h3 : a1 * d1=c1 * b1:=Nat.eq_of_mul_eq_mul_left (Nat.mul_pos g1 g2) h2
    exact hc.dvd_of_dvd_mul_left ⟨c1,by rw [h3,Nat.mul_comm]⟩
  have e1 : b / Nat.gcd a b=d / Nat.gcd c d:=Nat.dvd_antisymm (key hb hd h) (key hd hb h.symm)
  have e2 : a / Nat.gcd a b=c / Nat.gcd c d:=by
    have g1:=gcd_pos (k:=a) hb
    have g2:=gcd_pos (k:=c) hd
    have p:=den_pos (k:=c) hd
    have ea : a=a / Nat.gcd a b * Nat.gcd a b:=(Nat.div_mul_cancel (Nat.gcd_dvd_left a b)).symm
    have eb : b=b / Nat.gcd a b * Nat.gcd a b:=(Nat.div_mul_cancel (Nat.gcd_dvd_right a b)).symm
    have ec : c=c / Nat.gcd c d * Nat.gcd c d:=(Nat.div_mul_cancel (Nat.gcd_dvd_left c d)).symm
    have ed : d=d / Nat.gcd c d * Nat.gcd c d:=(Nat.div_mul_cancel (Nat.gcd_dvd_right c d)).symm
    rw [e1] at eb
    generalize a / Nat.gcd a b=a1 at *
    generalize c / Nat.gcd c d=c1 at *
    generalize d / Nat.gcd c d=d1 at *
    generalize Nat.gcd a b=g at *
    generalize Nat.gcd c d=f at *
    have h2 : (g * f * d1) * a1=(g * f * d1) * c1:=by
      rw [ea,eb,ec,ed] at h
      calc (g * f * d1) * a1=a1 * g * (d1 * f):=by simp only [Nat.mul_assoc,Nat.mul_comm,Nat.mul_left_comm]
        _=c1 * f * (d1 * g):=h
        _=(g * f * d1) * c1:=by simp only [Nat.mul_assoc,Nat.mul_comm,Nat.mul_left_comm]
    exact Nat.eq_of_mul_eq_mul_left (Nat.mul_pos (Nat.mul_pos g1 g2) p) h2
  unfold redF
  rw [e1,e2]
theorem add_frac (k1 k2 d : Nat) (hd : 0 < d) (hd2 : d ≤ 1000000) (h1 : k1 ≤ 100000000) (h2 : k2 ≤ 100000000) : ∃ b,Ffw (redF k1 d) (redF k2 d)=some (bif b then redF (k1 + k2) d else ⟨0,0⟩,b):=by
  unfold Ffw
  rw [spec_isFrac k1 d hd (by omega) (by omega),spec_isFrac k2 d hd (by omega) (by omega)]
  simp only [Option.bind_some,Bool.not_true,cond_false,bindJ_inr]
  have p1:=den_pos (k:=k1) hd
  have p2:=den_pos (k:=k2) hd
  have g1:=gcd_pos (k:=k1) hd
  have g2:=gcd_pos (k:=k2) hd
  have ea : k1=k1 / Nat.gcd k1 d * Nat.gcd k1 d:=(Nat.div_mul_cancel (Nat.gcd_dvd_left k1 d)).symm
  have eb : d=d / Nat.gcd k1 d * Nat.gcd k1 d:=(Nat.div_mul_cancel (Nat.gcd_dvd_right k1 d)).symm
  have ec : k2=k2 / Nat.gcd k2 d * Nat.gcd k2 d:=(Nat.div_mul_cancel (Nat.gcd_dvd_left k2 d)).symm
  have ed : d=d / Nat.gcd k2 d * Nat.gcd k2 d:=(Nat.div_mul_cancel (Nat.gcd_dvd_right k2 d)).symm
  have b1:=Nat.div_le_self k1 (Nat.gcd k1 d)
  have b2:=Nat.div_le_self k2 (Nat.gcd k2 d)
  have b3:=Nat.div_le_self d (Nat.gcd k1 d)
  have b4:=Nat.div_le_self d (Nat.gcd k2 d)
  unfold redF
  simp only
  generalize hn1 : k1 / Nat.gcd k1 d=n1 at *
  generalize hn2 : k2 / Nat.gcd k2 d=n2 at *
  generalize hd1 : d / Nat.gcd k1 d=d1 at *
  generalize hd2' : d / Nat.gcd k2 d=d2 at *
  generalize Nat.gcd k1 d=g at *
  generalize Nat.gcd k2 d=f at *
  have m1 : n1 * d2 ≤ 100000000 * 1000000:=Nat.mul_le_mul (by omega) (by omega)
  have m2 : n2 * d1 ≤ 100000000 * 1000000:=Nat.mul_le_mul (by omega) (by omega)
  have m3 : d1 * d2 ≤ 1000000 * 1000000:=Nat.mul_le_mul (by omega) (by omega)
  have w1 : w64 ((n1 : Int) * (d2 : Int))=((n1 * d2 : Nat) : Int):=by
    rw [show ((n1 : Int) * (d2 : Int))=((n1 * d2 : Nat) : Int) by simp]
    exact w64_nat (by omega)
  have w2 : w64 ((n2 : Int) * (d1 : Int))=((n2 * d1 : Nat) : Int):=by
    rw [show ((n2 : Int) * (d1 : Int))=((n2 * d1 : Nat) : Int) by simp]
    exact w64_nat (by omega)
  have w3 : w64 ((d1 : Int) * (d2 : Int))=((d1 * d2 : Nat) : Int):=by
    rw [show ((d1 : Int) * (d2 : Int))=((d1 * d2 : Nat) : Int) by simp]
    exact w64_nat (by omega)
  have w4 : w64 (((n1 * d2 : Nat) : Int) + ((n2 * d1 : Nat) : Int))=((n1 * d2 + n2 * d1 : Nat) : Int):=by
    rw [w64_id (by omega) (by omega)]
    simp
  rw [w1,w2,w3,w4]
  obtain ⟨b,hb,_⟩:=spec_reduce (n1 * d2 + n2 * d1) (d1 * d2) (Nat.mul_pos p1 p2) (by omega) (by omega)
  rw [hb]
  refine ⟨b,?_⟩
  have e : redF (n1 * d2 + n2 * d1) (d1 * d2)=redF (k1 + k2) d:=by
    refine redF_eq (Nat.mul_pos p1 p2) hd ?_
    have q1 : k1 * d1=n1 * d:=by
      calc k1 * d1=n1 * g * d1:=by rw [← ea]
        _=n1 * (d1 * g):=by simp only [Nat.mul_assoc,Nat.mul_comm,Nat.mul_left_comm]
        _=n1 * d:=by rw [← eb]
    have q2 : k2 * d2=n2 * d:=by
      calc k2 * d2=n2 * f * d2:=by rw [← ec]
        _=n2 * (d2 * f):=by simp only [Nat.mul_assoc,Nat.mul_comm,Nat.mul_left_comm]
        _=n2 * d:=by rw [← ed]
    calc (n1 * d2 + n2 * d1) * d=(n1 * d) * d2 + (n2 * d) * d1:=by rw [Nat.add_mul]; simp only [Nat.mul_assoc,Nat.mul_comm,Nat.mul_left_comm]
      _=(k1 * d1) * d2 + (k2 * d2) * d1:=by rw [q1,q2]
      _=(k1 + k2) * (d1 * d2):=by rw [Nat.add_mul]; simp only [Nat.mul_assoc,Nat.mul_comm,Nat.mul_left_comm]
  rw [e]
  unfold redF
  cases b <;> rfl
/-! day counts -/
def yrW (y : Int) : Nat:=if y % 4=0 then 365 else 366
/-- The weight of the days from a day on. -/
noncomputable def dayW (day : Int) : Nat:=match Ffe day with
  | some d=>yrW d.Year
  | none=>0
noncomputable def sumW (day : Int) : Nat→Nat
  | 0=>0
  | n + 1=>dayW day + sumW (day + 1) n
theorem yrW_le (y : Int) : yrW y ≤ 366:=by unfold yrW; split <;> omega
theorem dayW_le (d : Int) : dayW d ≤ 366:=by
  unfold dayW
  split
  · exact yrW_le _
  · omega
theorem sumW_le : ∀ (n : Nat) (d : Int),sumW d n ≤ 366 * n
  | 0,d=>by simp [sumW]
  | n + 1,d=>by
    have:=dayW_le d
    have:=sumW_le n (d + 1)
    simp only [sumW]
    omega
theorem sumW_add : ∀ (n m : Nat) (d : Int),sumW d (n + m)=sumW d n + sumW (d + n) m
  | 0,m,d=>by simp [sumW]
  | n + 1,m,d=>by
    rw [show n + 1 + m=(n + m) + 1 by omega]
    simp only [sumW]
    rw [sumW_add n m (d + 1),show d + 1 + (n : Int)=d + ((n + 1 : Nat) : Int) by omega]
    omega
theorem dayW_of {day Y : Int} {M : Nat} {D : Int} (h : Ffe day=some ⟨Y,((M + 1 : Nat) : Int),D⟩) : dayW day=yrW Y:=by unfold dayW; rw [h]
theorem impl_cnt_la (f t c : Int) : ∀ (n : Nat) (x acc : Int),x + n=t→0 ≤ x→t ≤ 36524→0 ≤ acc→acc + 366 * (n : Int) ≤ 100000000→Fff_la f t c (acc,x)=some (.inr (acc + (sumW x n : Nat)))
  | 0,x,acc,hn,h0,ht,ha,hb=>by
    rw [Fff_la_eq,Fff_la_F]
    rw [decide_eq_false (by omega),cond_false]
    simp [sumW]
  | n + 1,x,acc,hn,h0,ht,ha,hb=>by
    obtain ⟨Y,M,D,h1,h2⟩:=impl_dates x h0 (by omega)
    have hY:=h2.1
    have hw:=dayW_of h1
    have hle:=dayW_le x
    rw [Fff_la_eq,Fff_la_F]
    rw [decide_eq_true (by omega),cond_true]
    simp only [h1,Option.bind_some,tmod4 (show 0 ≤ Y by omega),letJ_eq]
    have e : (bif Y % 4 == 0 then w64 (acc + 365) else w64 (acc + 366))=acc + (dayW x : Nat):=by
      rw [hw]
      unfold yrW
      by_cases hy : Y % 4=0
      · rw [hy,if_pos rfl,show ((0 : Int) == 0)=true by rfl,cond_true,w64_id (by omega) (by omega)]; rfl
      · rw [if_neg hy,beq_eq_false_iff_ne.2 hy,cond_false,w64_id (by omega) (by omega)]; rfl
    rw [e,w64_id (by omega) (by omega),impl_cnt_la f t c n (x + 1) _ (by omega) (by omega) ht (by omega) (by omega)]
    simp only [sumW]
    congr 2
    omega
/-- All the days of a year weigh alike. -/
theorem sumW_year {Y : Int} : ∀ (n : Nat) (x : Int),0 ≤ x→y0 Y ≤ x→x + n ≤ y0 (Y + 1)→x + n ≤ 36525→sumW x n=yrW Y * n
  | 0,x,h0,h1,h2,h3=>by simp [sumW]
  | n + 1,x,h0,h1,h2,h3=>by
    obtain ⟨Y',M,D,g1,g2⟩:=impl_dates x h0 (by omega)
    have b:=g2.b
    have e : Y'=Y:=y0_uniq b.1 b.2.1 h1 (by omega)
    subst e
    simp only [sumW]
    rw [dayW_of g1,sumW_year (Y:=Y') n (x + 1) (by omega) (by omega) (by omega) (by omega),Nat.mul_succ]
    omega
theorem least_val (a b : Int) : Ffbo a b=some (min a b):=by
  unfold Ffbo
  by_cases h : a < b
  · rw [decide_eq_true h,cond_true,show min a b=a by omega]
  · rw [decide_eq_false h,cond_false,show min a b=b by omega]
theorem spec_yrs_la (f t : Int) (ht : t ≤ 36524) : ∀ (n : Nat) (x a b : Int),x + n=t→0 ≤ x→0 ≤ a→0 ≤ b→a + n ≤ 100000→b + n ≤ 100000→∃ a' b' : Int,Ffch_la f t (x,a,b)=some (.inr (a',b')) ∧ 365 * a' + 366 * b'=365 * a + 366 * b + (sumW x n : Nat) ∧ 0 ≤ a' ∧ 0 ≤ b' ∧ a' ≤ a + n ∧ b' ≤ b + n:=by
  intro n
  induction n using Nat.strongRecOn with
  | _ n ih =>
    intro x a b hn h0 ha hb ha2 hb2
    rw [Ffch_la_eq,Ffch_la_F]
    by_cases h : x < t
    · obtain ⟨Y,M,D,g1,g2⟩:=dates x h0 (by omega)
      obtain ⟨g3,gY⟩:=g2
      have hd : DateOk x Y M D:=gY
      have bb:=hd.b
      have hY:=hd.1
      have hY2:=hd.2.1
      have hs:=y0_succ Y
      have hl:=leap_le Y
      have hy0 : 0 ≤ y0 Y ∧ y0 (Y + 1) ≤ 36525:=by unfold y0; omega
      rw [decide_eq_true h,cond_true]
      simp only [g1,Option.bind_some]
      rw [show (12 : Int)=((11 + 1 : Nat) : Int) by rfl,spec_day Y 31 11 (by omega) (by omega) (by omega) (by omega) (by omega)]
      have h12:=m0_12 Y
      have h12' : m0 Y 12=m0 Y 11 + mlen Y ((11 + 1 : Nat) : Int):=rfl
      have h31 : mlen Y ((11 + 1 : Nat) : Int)=31:=rfl
      simp only [Option.bind_some,least_val]
      rw [show w64 (y0 Y + m0 Y 11 + 31 - 1 + 1)=y0 (Y + 1) by rw [w64_id (by omega) (by omega)]; omega]
      have hmin : min t (y0 (Y + 1))=t ∨ min t (y0 (Y + 1))=y0 (Y + 1):=by omega
      generalize hr : min t (y0 (Y + 1))=r
      have r1 : x < r:=by omega
      have r2 : r ≤ t:=by omega
      have r3 : r ≤ y0 (Y + 1):=by omega
      obtain ⟨k,hk⟩ : ∃ k : Nat,x + k=r:=⟨(r - x).toNat,by omega⟩
      have hw:=sumW_year (Y:=Y) k x h0 bb.1 (by omega) (by omega)
      have hsum : sumW x n=sumW x k + sumW r (n - k):=by
        rw [show n=k + (n - k) by omega,sumW_add,hk,show k + (n - k) - k=n - k by omega]
      rw [tmod4 (show 0 ≤ Y by omega)]
      by_cases hy : Y % 4=0
      · rw [hy,show ((0 : Int) == 0)=true by rfl,cond_true,letJ_eq]
        simp only
        rw [show w64 (w64 (a + r) - x)=a + k by rw [w64_id (n:=a + r) (by omega) (by omega),w64_id (by omega) (by omega)]; omega]
        obtain ⟨a',b',q1,q2,q3,q4,q5,q6⟩:=ih (n - k) (by omega) r (a + k) b (by omega) (by omega) (by omega) (by omega) (by omega) (by omega)
        refine ⟨a',b',q1,?_,q3,q4,by omega,by omega⟩
        rw [q2,hsum,hw]
        unfold yrW
        rw [if_pos hy]
        omega
      · rw [beq_eq_false_iff_ne.2 hy,cond_false,letJ_eq]
        simp only
        rw [show w64 (w64 (b + r) - x)=b + k by rw [w64_id (n:=b + r) (by omega) (by omega),w64_id (by omega) (by omega)]; omega]
        obtain ⟨a',b',q1,q2,q3,q4,q5,q6⟩:=ih (n - k) (by omega) r a (b + k) (by omega) (by omega) (by omega) (by omega) (by omega) (by omega)
        refine ⟨a',b',q1,?_,q3,q4,by omega,by omega⟩
        rw [q2,hsum,hw]
        unfold yrW
        rw [if_neg hy]
        omega
    · have : n=0:=by omega
      subst this
      rw [decide_eq_false h,cond_false]
      exact ⟨a,b,rfl,by simp [sumW],ha,hb,by omega,by omega⟩
/-- What is counted,and out of what. -/
noncomputable def cntN (f t : Int) (c : Int) : Nat:=if c=1 then (t - f).toNat else if c=2 then (t - f).toNat else sumW f (t - f).toNat
def cntD (c : Int) : Nat:=if c=1 then 360 else if c=2 then 365 else 133590
theorem cntD_b (c : Int) : 0 < cntD c ∧ cntD c ≤ 1000000:=by unfold cntD; split <;> (try split) <;> omega
theorem cntN_b {f t c : Int} (h1 : 0 ≤ f) (h2 : f ≤ t) (h3 : t ≤ 36524) : cntN f t c ≤ 100000000:=by
  have:=sumW_le (t - f).toNat f
  unfold cntN
  split <;> (try split) <;> omega
theorem impl_cnt {f t c : Int} (h1 : 0 ≤ f) (h2 : f ≤ t) (h3 : t ≤ 36524) (hc : 1 ≤ c) (hc2 : c ≤ 4) (hc3 : c ≠ 3) : Fff f t c=some (redF (cntN f t c) (cntD c),true):=by
  have hb:=cntN_b (c:=c) h1 h2 h3
  obtain ⟨n,hn⟩ : ∃ n : Nat,f + n=t:=⟨(t - f).toNat,by omega⟩
  have e1 : w64 (t - f)=((n : Nat) : Int):=by rw [w64_id (by omega) (by omega)]; omega
  have e2 : (t - f).toNat=n:=by omega
  unfold Fff cntN cntD at *
  rw [e1,e2]
  rw [e2] at hb
  by_cases c1 : c=1
  · subst c1
    have:=impl_frac n 360 (by omega) (by omega) (by omega)
    simp only [show ((1 : Int) == 1)=true by rfl,cond_true,if_true]
    rw [show (360 : Int)=((360 : Nat) : Int) by rfl,this]
    rfl
  by_cases c2 : c=2
  · subst c2
    have:=impl_frac n 365 (by omega) (by omega) (by omega)
    simp only [show ((2 : Int) == 1)=false by rfl,show ((2 : Int) == 2)=true by rfl,cond_true,cond_false,if_true,if_neg (show ¬ (2 : Int)=1 by omega)]
    rw [show (365 : Int)=((365 : Nat) : Int) by rfl,this]
    rfl
  obtain rfl : c=4:=by omega
  have hs:=sumW_le n f
  have:=impl_frac (sumW f n) 133590 (by omega) (by omega) (by omega)
  simp only [show ((4 : Int) == 1)=false by rfl,show ((4 : Int) == 2)=false by rfl,show ((4 : Int) == 3)=false by rfl,cond_false,if_neg (show ¬ (4 : Int)=1 by omega),if_neg (show ¬ (4 : Int)=2 by omega)]
  rw [impl_cnt_la f t 4 n f 0 hn h1 h3 (by omega) (by omega)]
  simp only [bindJ_inr,Int.zero_add]
  rw [show (133590 : Int)=((133590 : Nat) : Int) by rfl,this]
  rfl
theorem spec_cnt {f t c : Int} (h1 : 0 ≤ f) (h2 : f ≤ t) (h3 : t ≤ 36524) (hc : 1 ≤ c) (hc2 : c ≤ 4) (hc3 : c ≠ 3) : Ffcb f t c=some (redF (cntN f t c) (cntD c),true):=by
  have hb:=cntN_b (c:=c) h1 h2 h3
  obtain ⟨n,hn⟩ : ∃ n : Nat,f + n=t:=⟨(t - f).toNat,by omega⟩
  have e1 : w64 (t - f)=((n : Nat) : Int):=by rw [w64_id (by omega) (by omega)]; omega
  have e2 : (t - f).toNat=n:=by omega
  unfold Ffcb cntN cntD at *
  rw [e1,e2]
  rw [e2] at hb
  by_cases c1 : c=1
  · subst c1
    have:=spec_make n 360 (by omega) (by omega) (by omega)
    simp only [show ((1 : Int) == 1)=true by rfl,cond_true,if_true]
    rw [show (360 : Int)=((360 : Nat) : Int) by rfl,this]
    rfl
  by_cases c2 : c=2
  · subst c2
    have:=spec_make n 365 (by omega) (by omega) (by omega)
    simp only [show ((2 : Int) == 1)=false by rfl,show ((2 : Int) == 2)=true by rfl,cond_true,cond_false,if_true,if_neg (show ¬ (2 : Int)=1 by omega)]
    rw [show (365 : Int)=((365 : Nat) : Int) by rfl,this]
    rfl
  obtain rfl : c=4:=by omega
  have hs:=sumW_le n f
  have:=spec_make (sumW f n) 133590 (by omega) (by omega) (by omega)
  simp only [show ((4 : Int) == 1)=false by rfl,show ((4 : Int) == 2)=false by rfl,show ((4 : Int) == 3)=false by rfl,cond_false,if_neg (show ¬ (4 : Int)=1 by omega),if_neg (show ¬ (4 : Int)=2 by omega)]
  obtain ⟨a',b',q1,q2,q3,q4,q5,q6⟩:=spec_yrs_la f t h3 n f 0 0 hn h1 (by omega) (by omega) (by omega) (by omega)
  unfold Ffch
  rw [q1]
  simp only [bindJ_inr,Option.bind_some]
  rw [show w64 (w64 (365 * a') + w64 (366 * b'))=((sumW f n : Nat) : Int) by rw [w64_id (n:=365 * a') (by omega) (by omega),w64_id (n:=366 * b') (by omega) (by omega),w64_id (by omega) (by omega)]; omega]
  rw [show (133590 : Int)=((133590 : Nat) : Int) by rfl,this]
  rfl
/-- Months of thirty days. -/
theorem cnt3 {f t : Int} (h1 : 0 ≤ f) (h2 : f ≤ t) (h3 : t ≤ 36524) : ∃ r,Fff f t 3=some r ∧ Ffcb f t 3=some r:=by
  obtain ⟨Y,M,D,a1,a2,a3⟩:=dates f h1 (by omega)
  obtain ⟨Y',M',D',b1,b2,b3⟩:=dates t (by omega) h3
  have ha : DateOk f Y M D:=a3
  have hb : DateOk t Y' M' D':=b3
  have ba:=ha.b
  have bb:=hb.b
  obtain ⟨p1,p2,p3,p4,p5,p6⟩:=ha
  obtain ⟨r1,r2,r3,r4,r5,r6⟩:=hb
  have l1:=mlen_le Y ((M + 1 : Nat) : Int)
  have l2:=mlen_le Y' ((M' + 1 : Nat) : Int)
  have hY : Y ≤ Y':=by
    by_cases h : Y ≤ Y'
    · exact h
    · have : y0 (Y' + 1) ≤ y0 Y:=by unfold y0; omega
      omega
  have hM : Y=Y'→M ≤ M':=by
    rintro rfl
    by_cases h : M ≤ M'
    · exact h
    · have:=m0_mono Y (show M' + 1 ≤ M by omega)
      omega
  have hD : Y=Y'→M=M'→D ≤ D':=by
    rintro rfl rfl
    omega
  have hK : 0 ≤ 360 * (Y' - Y) + 30 * (((M' + 1 : Nat) : Int) - ((M + 1 : Nat) : Int)) + min D' 30 - min D 30:=by
    by_cases e1 : Y=Y'
    · have:=hM e1
      by_cases e2 : M=M'
      · have:=hD e1 e2
        omega
      · omega
    · omega
  obtain ⟨k,hk⟩ : ∃ k : Nat,360 * (Y' - Y) + 30 * (((M' + 1 : Nat) : Int) - ((M + 1 : Nat) : Int)) + min D' 30 - min D 30=k:=⟨(360 * (Y' - Y) + 30 * (((M' + 1 : Nat) : Int) - ((M + 1 : Nat) : Int)) + min D' 30 - min D 30).toNat,by omega⟩
  have i1 : (if 30 < D' then (30 : Int) else D')=min D' 30:=by split <;> omega
  have i2 : (if 30 < D then (30 : Int) else D)=min D 30:=by split <;> omega
  have w : w64 (w64 (w64 (w64 (360 * w64 (Y' - Y)) + w64 (30 * w64 (((M' + 1 : Nat) : Int) - ((M + 1 : Nat) : Int)))) + min D' 30) - min D 30)=(k : Int):=by
    rw [w64_id (n:=Y' - Y) (by omega) (by omega),w64_id (n:=((M' + 1 : Nat) : Int) - ((M + 1 : Nat) : Int)) (by omega) (by omega),w64_id (n:=360 * (Y' - Y)) (by omega) (by omega),w64_id (n:=30 * (((M' + 1 : Nat) : Int) - ((M + 1 : Nat) : Int))) (by omega) (by omega),w64_id (n:=360 * (Y' - Y) + 30 * (((M' + 1 : Nat) : Int) - ((M + 1 : Nat) : Int))) (by omega) (by omega),w64_id (n:=360 * (Y' - Y) + 30 * (((M' + 1 : Nat) : Int) - ((M + 1 : Nat) : Int)) + min D' 30) (by omega) (by omega),w64_id (by omega) (by omega),hk]
  have f1:=impl_frac k 360 (by omega) (by omega) (by omega)
  have f2:=spec_make k 360 (by omega) (by omega) (by omega)
  refine ⟨(redF k 360,true),?_,?_⟩
  · unfold Fff
    simp only [show ((3 : Int) == 1)=false by rfl,show ((3 : Int) == 2)=false by rfl,show ((3 : Int) == 3)=true by rfl,cond_false,cond_true,a2,b2,Option.bind_some,i1,i2]
    rw [w,show (360 : Int)=((360 : Nat) : Int) by rfl,f1]
    rfl
  · unfold Ffcb Ffcg
    simp only [show ((3 : Int) == 1)=false by rfl,show ((3 : Int) == 2)=false by rfl,show ((3 : Int) == 3)=true by rfl,cond_false,cond_true,a1,b1,Option.bind_some,least_val]
    rw [w,show (360 : Int)=((360 : Nat) : Int) by rfl,f2]
    rfl
theorem in_val (x a b : Int) : spec_l1In x a b=some (decide (a ≤ x ∧ x ≤ b)):=by
  unfold spec_l1In
  by_cases h : x ≥ a
  · rw [decide_eq_true h,cond_true,letJ_eq]
    congr 1
    exact decide_eq_decide.2 ⟨fun h2=>⟨h,h2⟩,fun h2=>h2.2⟩
  · rw [decide_eq_false h,cond_false,letJ_eq,decide_eq_false (by omega)]
def cntOk (f t c : Int) : Bool:=decide (0 ≤ f ∧ f ≤ 36524) && (decide (0 ≤ t ∧ t ≤ 36524) && (!decide (f > t) && decide (1 ≤ c ∧ c ≤ 4)))
theorem impl_DC (f t c : Int) : Ffb f t c=bif cntOk f t c then (Fff f t c).bind fun r=>some (r.1,r.2) else some (Fraction.mk 0 0,false):=by
  unfold Ffb Ffn cntOk
  simp only [within_val,Option.bind_some]
  cases decide (0 ≤ f ∧ f ≤ 36524) <;> cases decide (0 ≤ t ∧ t ≤ 36524) <;> cases decide (f > t) <;> cases decide (1 ≤ c ∧ c ≤ 4) <;> rfl
theorem spec_DC (f t c : Int) : Ffy f t c=bif cntOk f t c then (Ffcb f t c).bind fun r=>some (r.1,r.2) else some (Fraction.mk 0 0,false):=by
  unfold Ffy Ffby cntOk
  simp only [in_val,Option.bind_some]
  cases decide (0 ≤ f ∧ f ≤ 36524) <;> cases decide (0 ≤ t ∧ t ≤ 36524) <;> cases decide (f > t) <;> cases decide (1 ≤ c ∧ c ≤ 4) <;> rfl
theorem cntOk_iff {f t c : Int} (h : cntOk f t c=true) : 0 ≤ f ∧ f ≤ t ∧ t ≤ 36524 ∧ 1 ≤ c ∧ c ≤ 4:=by
  simp only [cntOk,Bool.and_eq_true,decide_eq_true_eq,Bool.not_eq_true',decide_eq_false_iff_not] at h
  omega
theorem cntOk_of {f t c : Int} (h1 : 0 ≤ f) (h2 : f ≤ t) (h3 : t ≤ 36524) (h4 : 1 ≤ c) (h5 : c ≤ 4) : cntOk f t c=true:=by
  simp only [cntOk,Bool.and_eq_true,decide_eq_true_eq,Bool.not_eq_true',decide_eq_false_iff_not]
  omega
theorem cntN_add {f m t c : Int} (h1 : 0 ≤ f) (h2 : f ≤ m) (h3 : m ≤ t) : cntN f t c=cntN f m c + cntN m t c:=by
  have e : (t - f).toNat=(m - f).toNat + (t - m).toNat:=by omega
  have e2 : f + (((m - f).toNat : Nat) : Int)=m:=by omega
  unfold cntN
  split
  · omega
  · split
    · omega
    · rw [e,sumW_add,e2]
/-- Both count alike. -/
theorem cnt_same (f t c : Int) : ∃ r,Ffb f t c=some r ∧ Ffy f t c=some r:=by
  rw [impl_DC,spec_DC]
  cases h : cntOk f t c with
  | false=>exact ⟨_,rfl,rfl⟩
  | true =>
    obtain ⟨h1,h2,h3,h4,h5⟩:=cntOk_iff h
    by_cases hc : c=3
    · subst hc
      obtain ⟨r,r1,r2⟩:=cnt3 h1 h2 h3
      rw [r1,r2]
      exact ⟨_,rfl,rfl⟩
    · rw [impl_cnt h1 h2 h3 h4 h5 hc,spec_cnt h1 h2 h3 h4 h5 hc]
      exact ⟨_,rfl,rfl⟩
/-! calendars -/
def badR (l : List Int) (lo hi : Int) (k : Nat) : Bool:=match l[k]? with
  | some e=>!decide (lo ≤ e ∧ e ≤ hi) || (match k with
    | 0=>false
    | j + 1=>match l[j]? with
      | some p=>decide (e ≤ p)
      | none=>false)
  | none=>false
def risB (l : List Int) (lo hi : Int) : Nat→Nat→Bool
  | 0,_=>true
  | n + 1,k=>!badR l lo hi k && risB l lo hi n (k + 1)
theorem impl_ris_la (l : List Int) (lo hi m : Int) (hl : l.length ≤ 1000000) : ∀ (n k : Nat),k + n=l.length→Ffp_la l lo hi m (k : Int)=some (bif risB l lo hi n k then .inr () else .inl false)
  | 0,k,hk=>by
    rw [Ffp_la_eq,Ffp_la_F]
    simp only [lt_len]
    rw [decide_eq_false (by omega)]
    rfl
  | n + 1,k,hk=>by
    obtain ⟨e,he⟩ : ∃ e,l[k]?=some e:=⟨_,List.getElem?_eq_getElem (by omega)⟩
    rw [Ffp_la_eq,Ffp_la_F]
    simp only [lt_len]
    rw [decide_eq_true (by omega),w64_succ (by omega),impl_ris_la l lo hi m hl n (k + 1) (by omega)]
    simp only [cond_true,getI_nat,he,Option.bind_some,within_val]
    cases hw : decide (lo ≤ e ∧ e ≤ hi) with
    | false=>simp [risB,badR,he,hw]
    | true =>
      cases k with
      | zero =>
        simp only [show decide (((0 : Nat) : Int) > 0)=false by rfl]
        simp [risB,badR,he,hw]
      | succ j =>
        obtain ⟨p,hp⟩ : ∃ p,l[j]?=some p:=⟨_,List.getElem?_eq_getElem (by omega)⟩
        rw [decide_eq_true (show ((j + 1 : Nat) : Int) > 0 by omega)]
        have e1 : w64 (((j + 1 : Nat) : Int) - 1)=(j : Int):=by rw [w64_id (by omega) (by omega)]; omega
        simp only [e1,getI_nat,hp,Option.bind_some,risB,badR,he,hw]
        cases decide (e ≤ p) <;> simp
theorem spec_ris_la (l : List Int) (lo hi : Int) (hl : l.length ≤ 1000000) : ∀ (n k : Nat),k + n=l.length→Ffbq_la l lo hi (k : Int)=some (bif risB l lo hi n k then .inr () else .inl false)
  | 0,k,hk=>by
    rw [Ffbq_la_eq,Ffbq_la_F]
    simp only [lt_len]
    rw [decide_eq_false (by omega)]
    rfl
  | n + 1,k,hk=>by
    obtain ⟨e,he⟩ : ∃ e,l[k]?=some e:=⟨_,List.getElem?_eq_getElem (by omega)⟩
    rw [Ffbq_la_eq,Ffbq_la_F]
    simp only [lt_len]
    rw [decide_eq_true (by omega),w64_succ (by omega),spec_ris_la l lo hi hl n (k + 1) (by omega)]
    simp only [cond_true,getI_nat,he,Option.bind_some,in_val]
    cases hw : decide (lo ≤ e ∧ e ≤ hi) with
    | false=>simp [risB,badR,he,hw]
    | true =>
      cases k with
      | zero =>
        simp only [show decide (((0 : Nat) : Int) > 0)=false by rfl]
        simp [risB,badR,he,hw]
      | succ j =>
        obtain ⟨p,hp⟩ : ∃ p,l[j]?=some p:=⟨_,List.getElem?_eq_getElem (by omega)⟩
        rw [decide_eq_true (show ((j + 1 : Nat) : Int) > 0 by omega)]
        have e1 : w64 (((j + 1 : Nat) : Int) - 1)=(j : Int):=by rw [w64_id (by omega) (by omega)]; omega
        have e2 : decide (p ≥ e)=decide (e ≤ p):=rfl
        simp only [e1,e2,getI_nat,hp,Option.bind_some,risB,badR,he,hw]
        cases decide (e ≤ p) <;> simp
def risingB (l : List Int) (lo hi : Int) : Bool:=risB l lo hi l.length 0
theorem impl_ris (l : List Int) (lo hi m : Int) (hl : l.length ≤ 1000000) : Ffp l lo hi m=some (risingB l lo hi && decide (len l ≤ m)):=by
  unfold Ffp risingB
  have:=impl_ris_la l lo hi m hl l.length 0 (by omega)
  rw [show (0 : Int)=((0 : Nat) : Int) by rfl,this]
  cases risB l lo hi l.length 0 <;> simp
theorem spec_ris (l : List Int) (lo hi : Int) (hl : l.length ≤ 1000000) : Ffbq l lo hi=some (risingB l lo hi):=by
  unfold Ffbq risingB
  have:=spec_ris_la l lo hi hl l.length 0 (by omega)
  rw [show (0 : Int)=((0 : Nat) : Int) by rfl,this]
  cases risB l lo hi l.length 0 <;> rfl
def smC (c : Calendar) : Prop:=c.Weekend.length ≤ 1000000 ∧ c.Holidays.length ≤ 1000000
def calB (c : Calendar) : Bool:=(risingB c.Weekend 0 6 && decide (len c.Weekend ≤ 6)) && (risingB c.Holidays 0 36524 && decide (len c.Holidays ≤ 40))
theorem impl_cal (c : Calendar) (h : smC c) : Ffc c=some (calB c):=by
  unfold Ffc calB
  rw [impl_ris _ _ _ _ h.1,impl_ris _ _ _ _ h.2]
  cases risingB c.Weekend 0 6 <;> cases decide (len c.Weekend ≤ 6) <;> rfl
theorem spec_cal (c : Calendar) (h : smC c) : Ffcc c=some (calB c):=by
  unfold Ffcc calB
  rw [spec_ris _ _ _ h.1,spec_ris _ _ _ h.2]
  cases risingB c.Weekend 0 6 <;> cases decide (len c.Weekend ≤ 6) <;> cases risingB c.Holidays 0 36524 <;> cases decide (len c.Holidays ≤ 40) <;> rfl
theorem int_swap (a b : Int) : (a == b)=(b == a):=by
  rw [int_beq,int_beq]
  exact decide_eq_decide.2 ⟨Eq.symm,Eq.symm⟩
theorem impl_cont (l : List Int) (n : Int) (hl : l.length ≤ 1000000) : Ffu l n=some (l.contains n):=by
  unfold Ffu Ffv
  rw [idxLoop (L:=Ffv_la l n) (a:=l) (p:=fun e=>some (n == e)) (q:=fun e=>n == e) (fun _ _=>rfl) (fun x=>by rw [Ffv_la_eq,Ffv_la_F] <;> rfl) (by omega)]
  cases h : l.findIdx? (fun e=>n == e) with
  | none =>
    have : l.contains n=false:=by
      rw [List.findIdx?_eq_none_iff] at h
      rw [Bool.eq_false_iff]
      intro hc
      rw [List.contains_iff_exists_mem_beq] at hc
      obtain ⟨w,hw,he⟩:=hc
      rw [h w hw] at he
      cases he
    rw [this]
    rfl
  | some i =>
    have : l.contains n=true:=by
      rw [List.findIdx?_eq_some_iff_getElem] at h
      obtain ⟨hi,he,_⟩:=h
      rw [List.contains_iff_exists_mem_beq]
      exact ⟨_,List.getElem_mem hi,he⟩
    rw [this]
    simp
theorem spec_cont (l : List Int) (n : Int) (hl : l.length ≤ 1000000) : Ffbn l n=some (l.contains n):=by
  unfold Ffbn
  rw [anyLoop (L:=Ffbn_la l n) (a:=l) (p:=fun e=>some (e == n)) (q:=fun e=>e == n) (r:=true) (fun _ _=>rfl) (fun x=>by rw [Ffbn_la_eq,Ffbn_la_F] <;> rfl) (by omega)]
  have : (l.any fun e=>e == n)=l.contains n:=by
    rw [List.contains_eq_any_beq]
    congr 1
    funext e
    exact int_swap e n
  rw [this]
  cases l.contains n <;> rfl
def openB (c : Calendar) (d : Int) : Bool:=!c.Weekend.contains ((w64 (d + 5)).tmod 7) && !c.Holidays.contains d
theorem impl_open (c : Calendar) (d : Int) (h : smC c) : Ffm c d=some (openB c d):=by
  unfold Ffm Ffs openB
  simp only [Option.bind_some,impl_cont _ _ h.1,impl_cont _ _ h.2]
  cases c.Weekend.contains ((w64 (d + 5)).tmod 7) <;> rfl
theorem spec_open (c : Calendar) (d : Int) (h : smC c) : Ffcd c d=some (openB c d):=by
  unfold Ffcd Ffca openB
  simp only [Option.bind_some,spec_cont _ _ h.1,spec_cont _ _ h.2]
  cases c.Weekend.contains ((w64 (d + 5)).tmod 7) <;> rfl
/-- Seeking back: both find the same day,the nearest that is open. -/
theorem seek_down (c : Calendar) (h : smC c) (d d' : Int) : ∀ (n : Nat) (x : Int), x < n → -1 ≤ x → x ≤ 36524 → ∃ y, Ffq_la c d (-1) x = some y ∧ Ffcf_la c d' (-1) x = some y ∧
    ((∃ z, y = .inl z ∧ 0 ≤ z ∧ z ≤ x ∧ openB c z = true ∧ ∀ t, z < t → t ≤ x → openB c t = false) ∨ (y = .inr () ∧ ∀ t, 0 ≤ t → t ≤ x → openB c t = false))
  | 0, x, hx, h0, h1 => by
    obtain rfl : x = -1 := by omega
    rw [Ffq_la_eq, Ffq_la_F, Ffcf_la_eq, Ffcf_la_F]
    exact ⟨.inr (), rfl, rfl, .inr ⟨rfl, fun t _ _ => by omega⟩⟩
  | n + 1, x, hx, h0, h1 => by
    rw [Ffq_la_eq, Ffq_la_F, Ffcf_la_eq, Ffcf_la_F]
    unfold Ffn Ffby
    rw [within_val, in_val]
    by_cases hr : 0 ≤ x
    · rw [decide_eq_true ⟨hr, h1⟩]
      simp only [Option.bind_some, cond_true, impl_open c x h, spec_open c x h]
      cases ho : openB c x with
      | true => exact ⟨_, rfl, rfl, .inl ⟨x, rfl, hr, by omega, ho, fun t _ _ => by omega⟩⟩
      | false =>
        simp only [cond_false]
        rw [show w64 (x + -1) = x - 1 by rw [w64_id (by omega) (by omega)]; omega]
        obtain ⟨y, y1, y2, y3⟩ := seek_down c h d d' n (x - 1) (by omega) (by omega) (by omega)
        refine ⟨y, y1, y2, ?_⟩
        rcases y3 with ⟨z, e, z1, z2, z3, z4⟩ | ⟨e, z1⟩
        · refine .inl ⟨z, e, z1, by omega, z3, fun t t1 t2 => ?_⟩
          by_cases ht : t = x
          · rw [ht]; exact ho
          · exact z4 t t1 (by omega)
        · refine .inr ⟨e, fun t t1 t2 => ?_⟩
          by_cases ht : t = x
          · rw [ht]; exact ho
          · exact z1 t t1 (by omega)
    · rw [decide_eq_false (by omega)]
      exact ⟨.inr (), rfl, rfl, .inr ⟨rfl, fun t _ _ => by omega⟩⟩
theorem seek_up (c : Calendar) (h : smC c) (d d' : Int) : ∀ (n : Nat) (x : Int), 36525 < x + n → 0 ≤ x → x ≤ 36525 → ∃ y, Ffq_la c d 1 x = some y ∧ Ffcf_la c d' 1 x = some y ∧
    ((∃ z, y = .inl z ∧ x ≤ z ∧ z ≤ 36524 ∧ openB c z = true ∧ ∀ t, x ≤ t → t < z → openB c t = false) ∨ (y = .inr () ∧ ∀ t, x ≤ t → t ≤ 36524 → openB c t = false))
  | 0, x, hx, h0, h1 => by omega
  | n + 1, x, hx, h0, h1 => by
    rw [Ffq_la_eq, Ffq_la_F, Ffcf_la_eq, Ffcf_la_F]
    unfold Ffn Ffby
    rw [within_val, in_val]
    by_cases hr : x ≤ 36524
    · rw [decide_eq_true ⟨h0, hr⟩]
      simp only [Option.bind_some, cond_true, impl_open c x h, spec_open c x h]
      cases ho : openB c x with
      | true => exact ⟨_, rfl, rfl, .inl ⟨x, rfl, by omega, hr, ho, fun t _ _ => by omega⟩⟩
      | false =>
        simp only [cond_false]
        rw [show w64 (x + 1) = x + 1 from w64_id (by omega) (by omega)]
        obtain ⟨y, y1, y2, y3⟩ := seek_up c h d d' n (x + 1) (by omega) (by omega) (by omega)
        refine ⟨y, y1, y2, ?_⟩
        rcases y3 with ⟨z, e, z1, z2, z3, z4⟩ | ⟨e, z1⟩
        · refine .inl ⟨z, e, by omega, z2, z3, fun t t1 t2 => ?_⟩
          by_cases ht : t = x
          · rw [ht]; exact ho
          · exact z4 t (by omega) t2
        · refine .inr ⟨e, fun t t1 t2 => ?_⟩
          by_cases ht : t = x
          · rw [ht]; exact ho
          · exact z1 t (by omega) t2
    · rw [decide_eq_false (by omega)]
      exact ⟨.inr (), rfl, rfl, .inr ⟨rfl, fun t _ _ => by omega⟩⟩
theorem near_down (c : Calendar) (h : smC c) (x : Int) (h0 : -1 ≤ x) (h1 : x ≤ 36524) : ∃ z,Ffq c x (-1)=some z ∧ Ffcf c x (-1)=some z ∧ ((0 ≤ z ∧ z ≤ x ∧ openB c z=true ∧ ∀ t,z < t→t ≤ x→openB c t=false) ∨ (z=-1 ∧ ∀ t,0 ≤ t→t ≤ x→openB c t=false)):=by
  obtain ⟨y,y1,y2,y3⟩:=seek_down c h x x (x + 1).toNat.succ x (by omega) h0 h1
  unfold Ffq Ffcf
  rw [y1,y2]
  rcases y3 with ⟨z,rfl,q⟩ | ⟨rfl,q⟩
  · exact ⟨z,rfl,rfl,.inl q⟩
  · exact ⟨-1,rfl,rfl,.inr ⟨rfl,q⟩⟩
theorem near_up (c : Calendar) (h : smC c) (x : Int) (h0 : 0 ≤ x) (h1 : x ≤ 36525) : ∃ z,Ffq c x 1=some z ∧ Ffcf c x 1=some z ∧ ((x ≤ z ∧ z ≤ 36524 ∧ openB c z=true ∧ ∀ t,x ≤ t→t < z→openB c t=false) ∨ (z=-1 ∧ ∀ t,x ≤ t→t ≤ 36524→openB c t=false)):=by
  obtain ⟨y,y1,y2,y3⟩:=seek_up c h x x 36527 x (by omega) h0 h1
  unfold Ffq Ffcf
  rw [y1,y2]
  rcases y3 with ⟨z,rfl,q⟩ | ⟨rfl,q⟩
  · exact ⟨z,rfl,rfl,.inl q⟩
  · exact ⟨-1,rfl,rfl,.inr ⟨rfl,q⟩⟩
theorem day_rng (c : l1Cur) (n : Nat) (h : okC c n) (hn : n ≤ 800000) : ∃ x c',Ffbi c=some (x,c') ∧ okC c' (n + 4) ∧ 0 ≤ x ∧ x ≤ 36524:=by
  unfold Ffbi
  obtain ⟨x,c1,e1,_,_,k1⟩:=pick_ok c n 6 h (by omega) (by decide)
  rw [e1,Option.bind_some]
  simp only []
  cases x == 0
  · cases x == 1
    · obtain ⟨y,c2,e2,q1,q2,k2⟩:=pick_ok c1 (n + 2) 1500 k1 (by omega) (by decide)
      simp only [cond_false,e2,Option.bind_some]
      exact ⟨_,_,rfl,k2,q1,by omega⟩
    · obtain ⟨y,c2,e2,q1,q2,k2⟩:=pick_ok c1 (n + 2) 36525 k1 (by omega) (by decide)
      simp only [cond_false,cond_true,e2,Option.bind_some]
      exact ⟨_,_,rfl,k2,q1,by omega⟩
  · obtain ⟨y,c2,e2,hm,k2⟩:=among_ok c1 (n + 2) [0,59,60,365,366,424,425,36524,36523,30,31] k1 (by omega) (by decide) (by decide)
    simp only [cond_true,e2,Option.bind_some]
    refine ⟨_,_,rfl,k2,?_⟩
    simp only [List.mem_cons,List.not_mem_nil,or_false] at hm
    omega
theorem near4_ok (c : l1Cur) (n : Nat) (h : okC c n) (hn : n ≤ 700000) : ∃ x c',Ffbj c=some (x,c') ∧ okC c' (n + 8) ∧ 0 ≤ x ∧ x ≤ 36524:=by
  unfold Ffbj
  obtain ⟨x,c1,e1,k1,x0,x1⟩:=day_rng c n h (by omega)
  rw [e1,Option.bind_some]
  obtain ⟨b,c2,e2,k2⟩:=one_ok c1 (n + 4) 3 k1 (by omega) (by decide)
  simp only [e2,Option.bind_some]
  cases b with
  | false =>
    simp only [cond_false,bindJ_inr]
    exact ⟨_,_,rfl,okC_mono k2 (by omega),x0,x1⟩
  | true =>
    obtain ⟨Y,M,D,g1,g2⟩:=spec_dates x x0 x1
    have hm:=mlen_le Y ((M + 1 : Nat) : Int)
    obtain ⟨h1,h2,h3,h4,h5,h6⟩:=g2
    obtain ⟨y,c3,e3,q1,q2,k3⟩:=pick_ok c2 (n + 6) 3 k2 (by omega) (by decide)
    simp only [cond_true,g1,Option.bind_some,spec_len Y _ (show 0 ≤ Y by omega),e3]
    rw [w64_id (by omega) (by omega),spec_day Y _ M h1 (by omega) (by omega) (by omega) (by omega)]
    simp only [Option.bind_some,bindJ_inr]
    have hd : DateOk (y0 Y + m0 Y M + (mlen Y ((M + 1 : Nat) : Int) - y) - 1) Y M (mlen Y ((M + 1 : Nat) : Int) - y):=⟨h1,h2,h3,by omega,by omega,rfl⟩
    have hr:=hd.range
    exact ⟨_,_,rfl,okC_mono k3 (by omega),hr.1,hr.2⟩
theorem most_val (a b : Int) : Ffbp a b=some (max a b):=by
  unfold Ffbp
  by_cases h : a > b
  · rw [decide_eq_true h,cond_true,show max a b=a by omega]
  · rw [decide_eq_false h,cond_false,show max a b=b by omega]
theorem cal_la (c0 : l1Cur) (nr : Int) (u : Int × (List Int) × Int × Int × (List Int)) : ∀ (k : Nat) (d : Int) (c : l1Cur) (n : Nat) (l : List Int),okC c n→k ≤ 100→n + 2 * k ≤ 700000→0 ≤ d→d ≤ 1000000→l.length + k ≤ 1000→∃ (c' : l1Cur) (l' : List Int),Ffbh_la c0 nr u (d,(k : Int),c.f_code,c.f_at,c.f_seed,l)=some (.inr (c'.f_code,c'.f_at,c'.f_seed,l')) ∧ okC c' (n + 2 * k) ∧ l'.length ≤ l.length + k
  | 0,d,c,n,l,h,hk,hn,h0,h1,hz=>by
    refine ⟨c,l,?_,h,Nat.le_refl _⟩
    rw [Ffbh_la_eq,Ffbh_la_F]
    rfl
  | k + 1,d,c,n,l,h,hk,hn,h0,h1,hz=>by
    rw [Ffbh_la_eq,Ffbh_la_F]
    simp only [decide_eq_true (show ((k + 1 : Nat) : Int) > 0 by omega),cond_true,letJ_eq]
    by_cases hd : d ≤ 36524
    · obtain ⟨y,c1,e1,q1,q2,k1⟩:=pick_ok c n 4 h (by omega) (by decide)
      rw [decide_eq_true hd,cond_true,appI_one (by omega) (by omega),Option.bind_some,show l1Cur.mk c.f_code c.f_at c.f_seed=c from rfl,e1,Option.bind_some]
      simp only []
      rw [show w64 (((k + 1 : Nat) : Int) - 1)=(k : Int) from by rw [w64_id (by omega) (by omega)]; omega,w64_id (n:=d + 1) (by omega) (by omega),w64_id (by omega) (by omega)]
      obtain ⟨c',l',e2,k2,z2⟩:=cal_la c0 nr u k (d + 1 + y) c1 (n + 2) (l ++ [d]) k1 (by omega) (by omega) (by omega) (by omega) (by rw [List.length_append]; simp; omega)
      exact ⟨c',l',e2,okC_mono k2 (by omega),by rw [List.length_append] at z2; simp at z2; omega⟩
    · rw [decide_eq_false hd,cond_false]
      exact ⟨c,l,rfl,okC_mono h (by omega),by omega⟩
theorem cal_lb (c0 : l1Cur) (nr : Int) : ∀ (m : Nat) (k : Nat) (c : l1Cur) (n : Nat) (l : List Int),k + m=6→okC c n→n + 2 * m ≤ 700000→l.length + m ≤ 1000→∃ (c' : l1Cur) (l' : List Int),Ffbh_lb c0 nr ((k : Int),c.f_code,c.f_at,c.f_seed,l)=some (.inr (c'.f_code,c'.f_at,c'.f_seed,l')) ∧ okC c' (n + 2 * m) ∧ l'.length ≤ l.length + m
  | 0,k,c,n,l,hm,h,hn,hz=>by
    refine ⟨c,l,?_,h,Nat.le_refl _⟩
    rw [Ffbh_lb_eq,Ffbh_lb_F]
    rw [decide_eq_false (by omega)]
    rfl
  | m + 1,k,c,n,l,hm,h,hn,hz=>by
    obtain ⟨b,c1,e1,k1⟩:=one_ok c n 3 h (by omega) (by decide)
    rw [Ffbh_lb_eq,Ffbh_lb_F]
    rw [decide_eq_true (by omega),cond_true]
    simp only [show l1Cur.mk c.f_code c.f_at c.f_seed=c from rfl,e1,Option.bind_some]
    rw [w64_succ (by omega)]
    cases b with
    | false =>
      simp only [cond_false,bindL_inr]
      obtain ⟨c',l',e2,k2,z2⟩:=cal_lb c0 nr m (k + 1) c1 (n + 2) l (by omega) k1 (by omega) (by omega)
      exact ⟨c',l',e2,okC_mono k2 (by omega),by omega⟩
    | true =>
      rw [cond_true,appI_one (by omega) (by omega)]
      simp only [Option.bind_some,bindL_inr]
      obtain ⟨c',l',e2,k2,z2⟩:=cal_lb c0 nr m (k + 1) c1 (n + 2) (l ++ [(k : Int)]) (by omega) k1 (by omega) (by rw [List.length_append]; simp; omega)
      exact ⟨c',l',e2,okC_mono k2 (by omega),by rw [List.length_append] at z2; simp at z2; omega⟩
theorem calendar_ok (c : l1Cur) (n : Nat) (nr : Int) (h : okC c n) (hn : n ≤ 600000) (h0 : 0 ≤ nr) (h1 : nr ≤ 36524) : ∃ x c',Ffbh c nr=some (x,c') ∧ okC c' (n + 40) ∧ x.Weekend.length ≤ 10 ∧ x.Holidays.length ≤ 10:=by
  unfold Ffbh
  obtain ⟨x,c1,e1,_,_,k1⟩:=pick_ok c n 6 h (by omega) (by decide)
  simp only [e1,Option.bind_some]
  have fin : ∀ (c2 : l1Cur) (l : List Int),okC c2 (n + 20)→l.length ≤ 10→∃ x' c',((Ffbp (w64 (nr - 8)) 0).bind fun r5=>(Ffbm (l1Cur.mk c2.f_code c2.f_at c2.f_seed) 7).bind fun r6=>bindJ (ρ:=Calendar × l1Cur) (Ffbh_la c nr (nr,c2.f_code,c2.f_at,c2.f_seed,l) (r5,r6.1,r6.2.f_code,r6.2.f_at,r6.2.f_seed,[])) fun u11 : (List Int) × Int × Int × (List Int)=>some ((Calendar.mk l u11.2.2.2),(l1Cur.mk u11.1 u11.2.1 u11.2.2.1)))=some (x',c') ∧ okC c' (n + 40) ∧ x'.Weekend.length ≤ 10 ∧ x'.Holidays.length ≤ 10:=by
    intro c2 l hc hl
    obtain ⟨y,c3,e3,q1,q2,k3⟩:=pick_ok c2 (n + 20) 7 hc (by omega) (by decide)
    rw [most_val,w64_id (by omega) (by omega)]
    simp only [Option.bind_some,show l1Cur.mk c2.f_code c2.f_at c2.f_seed=c2 from rfl,e3]
    obtain ⟨k,rfl⟩ : ∃ k : Nat,y=k:=⟨y.toNat,by omega⟩
    obtain ⟨c',l',g1,g2,g3⟩:=cal_la c nr (nr,c2.f_code,c2.f_at,c2.f_seed,l) k (max (nr - 8) 0) c3 (n + 22) [] k3 (by omega) (by omega) (by omega) (by omega) (by simp; omega)
    rw [g1]
    simp only [bindJ_inr]
    exact ⟨_,_,rfl,okC_mono g2 (by omega),hl,by simp at g3; show l'.length ≤ 10; omega⟩
  cases x == 0
  · cases x == 1
    · simp only [cond_false,bindL_inr,bindJ_inr]
      exact fin c1 [5,6] (okC_mono k1 (by omega)) (by decide)
    · obtain ⟨c',l',g1,g2,g3⟩:=cal_lb c nr 6 0 c1 (n + 2) [] (by omega) k1 (by omega) (by simp)
      rw [show ((0 : Nat) : Int)=0 by rfl] at g1
      simp only [cond_false,cond_true,g1,bindL_inr,bindJ_inr]
      exact fin c' l' (okC_mono g2 (by omega)) (by simp at g3; omega)
  · simp only [cond_true,bindJ_inr]
    exact fin c1 [4,5] (okC_mono k1 (by omega)) (by decide)
theorem anyCal_la (c0 : l1Cur) (nr : Int) (r3 : Calendar × l1Cur) (h0 : 0 ≤ nr) (h1 : nr ≤ 36524) : ∀ (m k : Nat) (c : l1Cur) (n : Nat) (l : List Int),k + m=41→okC c n→n + 2 * m ≤ 600000→l.length + m ≤ 1000→∃ (c' : l1Cur) (l' : List Int),Ffbf_la c0 nr r3 ((k : Int),c.f_code,c.f_at,c.f_seed,l)=some (.inr (c'.f_code,c'.f_at,c'.f_seed,l')) ∧ okC c' (n + 2 * m + 2) ∧ l'.length ≤ l.length + m
  | 0,k,c,n,l,hm,h,hn,hz=>by
    obtain ⟨y,c1,e1,q1,q2,k1⟩:=pick_ok c n 2 h (by omega) (by decide)
    rw [Ffbf_la_eq,Ffbf_la_F]
    simp only [show l1Cur.mk c.f_code c.f_at c.f_seed=c from rfl,e1,Option.bind_some]
    rw [w64_id (by omega) (by omega),decide_eq_false (by omega)]
    exact ⟨c1,l,rfl,okC_mono k1 (by omega),by omega⟩
  | m + 1,k,c,n,l,hm,h,hn,hz=>by
    obtain ⟨y,c1,e1,q1,q2,k1⟩:=pick_ok c n 2 h (by omega) (by decide)
    rw [Ffbf_la_eq,Ffbf_la_F]
    simp only [show l1Cur.mk c.f_code c.f_at c.f_seed=c from rfl,e1,Option.bind_some]
    rw [w64_id (n:=40 + y) (by omega) (by omega)]
    by_cases hd : (k : Int) < 40 + y
    · rw [decide_eq_true hd,cond_true,w64_id (n:=nr - 20) (by omega) (by omega),most_val]
      simp only [Option.bind_some,least_val]
      rw [appI_one (by omega) (by omega),Option.bind_some,w64_succ (by omega)]
      obtain ⟨c',l',e2,k2,z2⟩:=anyCal_la c0 nr r3 h0 h1 m (k + 1) c1 (n + 2) (l ++ [w64 (min (max (nr - 20) 0) 36464 + (k : Int))]) (by omega) k1 (by omega) (by rw [List.length_append]; simp; omega)
      exact ⟨c',l',e2,okC_mono k2 (by omega),by rw [List.length_append] at z2; simp at z2; omega⟩
    · rw [decide_eq_false hd,cond_false]
      exact ⟨c1,l,rfl,okC_mono k1 (by omega),by omega⟩
theorem anyCal_ok (c : l1Cur) (n : Nat) (nr : Int) (h : okC c n) (hn : n ≤ 500000) (h0 : 0 ≤ nr) (h1 : nr ≤ 36524) : ∃ x c',Ffbf c nr=some (x,c') ∧ okC c' (n + 200) ∧ smC x:=by
  unfold Ffbf
  obtain ⟨cal,c1,e1,k1,w1,w2⟩:=calendar_ok c n nr h (by omega) h0 h1
  simp only [e1,Option.bind_some]
  obtain ⟨x,c2,e2,_,_,k2⟩:=pick_ok c1 (n + 40) 30 k1 (by omega) (by decide)
  simp only [e2,Option.bind_some]
  cases x == 0
  · cases x == 1
    · cases x == 2
      · cases x == 3
        · simp only [cond_false,bindL_inr,bindJ_inr]
          exact ⟨_,_,rfl,okC_mono k2 (by omega),by show cal.Weekend.length ≤ 1000000; omega,by show cal.Holidays.length ≤ 1000000; omega⟩
        · obtain ⟨c',l',g1,g2,g3⟩:=anyCal_la c nr (cal,c1) h0 h1 41 0 c2 (n + 42) [] (by omega) k2 (by omega) (by simp)
          rw [show ((0 : Nat) : Int)=0 by rfl] at g1
          simp only [cond_false,cond_true,g1,bindL_inr,bindJ_inr]
          exact ⟨_,_,rfl,okC_mono g2 (by omega),by show cal.Weekend.length ≤ 1000000; omega,by show l'.length ≤ 1000000; simp at g3; omega⟩
      · simp only [cond_false,cond_true,bindL_inr,bindJ_inr]
        exact ⟨_,_,rfl,okC_mono k2 (by omega),by show ([0,1,2,3,4,5,6] : List Int).length ≤ 1000000; decide,by show cal.Holidays.length ≤ 1000000; omega⟩
    · obtain ⟨y,c3,e3,_,k3⟩:=among_ok c2 (n + 42) [36524,36525,0] k2 (by omega) (by decide) (by decide)
      simp only [cond_false,cond_true,e3,Option.bind_some]
      rw [appI_one (by omega) (by omega)]
      simp only [Option.bind_some,bindL_inr,bindJ_inr]
      exact ⟨_,_,rfl,okC_mono k3 (by omega),by show cal.Weekend.length ≤ 1000000; omega,by show (cal.Holidays ++ [y]).length ≤ 1000000; rw [List.length_append]; simp; omega⟩
  · obtain ⟨y,c3,e3,_,k3⟩:=among_ok c2 (n + 42) [6,7,(-1)] k2 (by omega) (by decide) (by decide)
    simp only [cond_true,e3,Option.bind_some]
    rw [appI_one (by omega) (by omega)]
    simp only [Option.bind_some,bindJ_inr]
    exact ⟨_,_,rfl,okC_mono k3 (by omega),by show (cal.Weekend ++ [y]).length ≤ 1000000; rw [List.length_append]; simp; omega,by show cal.Holidays.length ≤ 1000000; omega⟩
theorem same_month (a b : Int) (ha : 0 ≤ a) (ha2 : a ≤ 36524) (hb : 0 ≤ b) (hb2 : b ≤ 36524) {Y Y' : Int} {M M' : Nat} {D D' : Int} (h1 : DateOk a Y M D) (h2 : DateOk b Y' M' D') : Ffr a b=some (decide (Y=Y') && decide (M=M')) ∧ Ffce a b=some (decide (Y=Y') && decide (M=M')):=by
  obtain ⟨Ya,Ma,Da,a1,a2,a3⟩:=dates a ha ha2
  obtain ⟨Yb,Mb,Db,b1,b2,b3⟩:=dates b hb hb2
  obtain ⟨rfl,rfl,rfl⟩:=DateOk.uniq (show DateOk a Ya Ma Da from a3) h1
  obtain ⟨rfl,rfl,rfl⟩:=DateOk.uniq (show DateOk b Yb Mb Db from b3) h2
  have e : (((Ma + 1 : Nat) : Int) == ((Mb + 1 : Nat) : Int))=decide (Ma=Mb):=by
    rw [int_beq]
    exact decide_eq_decide.2 (by omega)
  unfold Ffr Ffce
  simp only [a1,a2,b1,b2,Option.bind_some,letJ_eq,int_beq (x:=Ya) (y:=Yb),e]
  constructor
  · cases decide (Ya=Yb) <;> rfl
  · cases decide (Ya=Yb) <;> rfl
/-- The last business day of a month,the same in both. -/
theorem last_same (c : Calendar) (h : smC c) (day : Int) : ∃ z b,Ffd c day=some (z,b) ∧ Ffbc c day=some (z,b) ∧ (b=true→calB c=true ∧ ∃ (Y : Int) (M : Nat) (D : Int),DateOk z Y M D ∧ z ≤ 36524 ∧ 0 ≤ z ∧ ∀ t,z < t→t ≤ y0 Y + m0 Y (M + 1) - 1→openB c t=false):=by
  unfold Ffd Ffbc Ffn Ffby
  rw [impl_cal c h,spec_cal c h,within_val,in_val]
  cases hc : calB c with
  | false=>exact ⟨0,false,rfl,rfl,fun e=>by cases e⟩
  | true =>
    by_cases hd : 0 ≤ day ∧ day ≤ 36524
    · rw [decide_eq_true hd]
      obtain ⟨Y,M,D,a1,a2,a3⟩:=dates day hd.1 hd.2
      have hok : DateOk day Y M D:=a3
      have hm:=mlen_le Y ((M + 1 : Nat) : Int)
      have hE : DateOk (y0 Y + m0 Y M + mlen Y ((M + 1 : Nat) : Int) - 1) Y M (mlen Y ((M + 1 : Nat) : Int)):=⟨a3.1,a3.2.1,a3.2.2.1,by omega,Int.le_refl _,rfl⟩
      have he : m0 Y (M + 1)=m0 Y M + mlen Y ((M + 1 : Nat) : Int):=rfl
      have hr:=hE.range
      have hY:=a3.1
      have s1:=Ffg_ok hE
      have s2:=spec_day Y (mlen Y ((M + 1 : Nat) : Int)) M hY (by have:=a3.2.1; omega) (by have:=a3.2.2.1; omega) (by omega) (by omega)
      generalize hEE : y0 Y + m0 Y M + mlen Y ((M + 1 : Nat) : Int) - 1=E at *
      simp only [Option.bind_some,Bool.not_true,cond_false,bindJ_inr,a1,a2,impl_len Y _ (show 0 ≤ Y by omega),spec_len Y _ (show 0 ≤ Y by omega),s1,s2]
      obtain ⟨z,z1,z2,z3⟩:=near_down c h E (by omega) hr.2
      simp only [z1,z2,Option.bind_some]
      rcases z3 with ⟨p1,p2,p3,p4⟩ | ⟨rfl,_⟩
      · rw [decide_eq_false (show ¬ z < 0 by omega)]
        obtain ⟨Yz,Mz,Dz,b1,b2,b3⟩:=dates z p1 (by omega)
        have hz : DateOk z Yz Mz Dz:=b3
        obtain ⟨q1,q2⟩:=same_month z day p1 (by omega) hd.1 hd.2 hz hok
        simp only [cond_false,q1,q2,Option.bind_some,bindJ_inr]
        by_cases e : Yz=Y ∧ Mz=M
        · obtain ⟨rfl,rfl⟩:=e
          simp only [decide_true,Bool.and_self,Bool.not_true,cond_false]
          exact ⟨z,true,rfl,rfl,fun _=>⟨by trivial,Yz,Mz,Dz,hz,by omega,p1,fun t t1 t2=>p4 t t1 (by omega)⟩⟩
        · have e2 : (decide (Yz=Y) && decide (Mz=M))=false:=by
            rw [Bool.and_eq_false_iff,decide_eq_false_iff_not,decide_eq_false_iff_not]
            by_cases e3 : Yz=Y
            · exact .inr fun e4=>e ⟨e3,e4⟩
            · exact .inl e3
          rw [e2]
          exact ⟨0,false,rfl,rfl,fun e=>by cases e⟩
      · exact ⟨0,false,rfl,rfl,fun e=>by cases e⟩
    · rw [decide_eq_false hd]
      exact ⟨0,false,rfl,rfl,fun e=>by cases e⟩
theorem add_one (c : Calendar) (h : smC c) (hc : calB c=true) (x : Int) (h0 : 0 ≤ x) (h1 : x ≤ 36524) : ∃ z b,Ffa c x 1=some (z,b) ∧ (b=true→x < z ∧ z ≤ 36524 ∧ openB c z=true) ∧ (b=false→z=0):=by
  unfold Ffa Ffn
  rw [impl_cal c h,hc,within_val,decide_eq_true ⟨h0,h1⟩,within_val]
  simp only [Option.bind_some,Bool.not_true,cond_false,bindL_inr,bindJ_inr,show decide ((-1000 : Int) ≤ 1 ∧ (1 : Int) ≤ 1000)=true by decide]
  rw [show decide ((1 : Int) < 0)=false by decide,cond_false,letJ_eq]
  have hs : impl_size 1=some 1:=impl_size_nat (n:=1) (by omega)
  simp only [hs,Option.bind_some]
  obtain ⟨z,z1,_,z3⟩:=near_up c h (x + 1) (by omega) (by omega)
  rw [Ffa_la_eq,Ffa_la_F]
  rw [show decide ((0 : Int) < 1)=true by decide,cond_true]
  simp only [w64_id (n:=x + 1) (by omega) (by omega),z1,Option.bind_some]
  rcases z3 with ⟨p1,p2,p3,p4⟩ | ⟨rfl,_⟩
  · rw [decide_eq_false (show ¬ z < 0 by omega),cond_false,Ffa_la_eq,Ffa_la_F]
    rw [show decide (w64 (0 + 1) < 1)=false by decide,cond_false]
    exact ⟨z,true,rfl,fun _=>⟨by omega,p2,p3⟩,fun e=>by cases e⟩
  · exact ⟨0,false,rfl,(fun e=>by cases e),fun _=>rfl⟩
theorem specDateOf (n : Int) (h0 : 0 ≤ n) (h1 : n ≤ 36524) {Y : Int} {M : Nat} {D : Int} (h : DateOk n Y M D) : Ffx n=some (⟨Y,((M + 1 : Nat) : Int),D⟩,true):=by
  obtain ⟨Y',M',D',a1,a2⟩:=spec_dates n h0 h1
  obtain ⟨rfl,rfl,rfl⟩:=a2.uniq h
  unfold Ffx Ffby
  rw [in_val,decide_eq_true ⟨h0,h1⟩]
  simp only [Option.bind_some,Bool.not_true,cond_false,a1]
theorem drawDC (code : List Int) (h : okL (okI .u8) code) : ∃ r,Ffz code=some r:=by
  unfold Ffz
  obtain ⟨x,c1,e1,k1,x0,x1⟩:=near4_ok (l1Cur.mk code 0 0) 0 (start_ok h) (by omega)
  simp only [e1,Option.bind_some]
  obtain ⟨y,c2,e2,hm,k2⟩:=among_ok c1 (0 + 8) [0,1,28,30,31,59,90,181,365,366,900,(-1)] k1 (by omega) (by decide) (by decide)
  simp only [e2,Option.bind_some]
  obtain ⟨b,c3,e3,k3⟩:=one_ok c2 10 4 k2 (by omega) (by decide)
  simp only [e3,Option.bind_some]
  have fin : ∀ (t : Int) (c4 : l1Cur),okC c4 30→∃ r,((Ffbl (l1Cur.mk c4.f_code c4.f_at c4.f_seed) 30).bind fun r6=>bindJ (ρ:=Int × Int × Int) (bif r6.1 then ((Ffbg r6.2).bind fun r9=>some (.inr (r9.1,r9.2.f_code,r9.2.f_at,r9.2.f_seed))) else (some (.inr (t,r6.2.f_code,r6.2.f_at,r6.2.f_seed)))) fun u7 : Int × (List Int) × Int × Int=>(Ffbe (l1Cur.mk u7.2.1 u7.2.2.1 u7.2.2.2) [1,2,3,4,1,2,3,4,0,5]).bind fun r8=>some (x,u7.1,r8.1))=some r:=by
    intro t c4 k4
    rw [show l1Cur.mk c4.f_code c4.f_at c4.f_seed=c4 from rfl]
    obtain ⟨b5,c5,e5,k5⟩:=one_ok c4 30 30 k4 (by omega) (by decide)
    simp only [e5,Option.bind_some]
    cases b5 with
    | false =>
      obtain ⟨y6,c6,e6,_,k6⟩:=among_ok c5 32 [1,2,3,4,1,2,3,4,0,5] k5 (by omega) (by decide) (by decide)
      simp only [cond_false,bindJ_inr,show l1Cur.mk c5.f_code c5.f_at c5.f_seed=c5 from rfl,e6,Option.bind_some]
      exact ⟨_,rfl⟩
    | true =>
      obtain ⟨d,c6,e6,k6⟩:=anyDay_ok c5 32 k5 (by omega)
      obtain ⟨y7,c7,e7,_,k7⟩:=among_ok c6 38 [1,2,3,4,1,2,3,4,0,5] k6 (by omega) (by decide) (by decide)
      simp only [cond_true,e6,Option.bind_some,bindJ_inr,show l1Cur.mk c6.f_code c6.f_at c6.f_seed=c6 from rfl,e7]
      exact ⟨_,rfl⟩
  cases b with
  | false =>
    simp only [cond_false,bindJ_inr]
    exact fin _ c3 (okC_mono k3 (by omega))
  | true =>
    obtain ⟨x4,c4,e4,k4,_,_⟩:=near4_ok c3 12 k3 (by omega)
    simp only [cond_true,e4,Option.bind_some,bindJ_inr]
    exact fin _ c4 (okC_mono k4 (by omega))
theorem drawLB (code : List Int) (h : okL (okI .u8) code) : ∃ c d,Ffbb code=some (c,d) ∧ smC c:=by
  unfold Ffbb Ffba
  obtain ⟨x,c1,e1,k1,x0,x1⟩:=near4_ok (l1Cur.mk code 0 0) 0 (start_ok h) (by omega)
  simp only [e1,Option.bind_some]
  obtain ⟨cal,c2,e2,k2,hs⟩:=anyCal_ok c1 (0 + 8) x k1 (by omega) x0 x1
  simp only [e2,Option.bind_some]
  obtain ⟨b,c3,e3,k3⟩:=one_ok c2 208 20 k2 (by omega) (by decide)
  simp only [e3,Option.bind_some]
  cases b with
  | false=>exact ⟨cal,x,rfl,hs⟩
  | true =>
    obtain ⟨d,c6,e6,k6⟩:=anyDay_ok c3 210 k3 (by omega)
    simp only [cond_true,e6,Option.bind_some,bindJ_inr]
    exact ⟨cal,d,rfl,hs⟩
theorem law_FnDayCounts (code : List Int) (h : okL (okI .u8) code) : laws_FnDayCounts code=some true:=by
  unfold laws_FnDayCounts laws_vBig
  rw [Option.bind_some]
  cases hb : decide (len code > 65536) with
  | true=>rfl
  | false =>
    obtain ⟨⟨f,t,c⟩,hd⟩:=drawDC code h
    obtain ⟨r,r1,r2⟩:=cnt_same f t c
    obtain ⟨cal,day,hl,hs⟩:=drawLB code h
    obtain ⟨z,b,z1,z2,z3⟩:=last_same cal hs day
    simp only [cond_false,hd,Option.bind_some,r1,r2,beq_self_eq_true,Bool.and_self,Bool.not_true,letJ_eq,hl,z1,z2]
    -- what follows the first part
    have e0 : (z != z)=false:=by rw [bne,beq_self_eq_true]; rfl
    have rest : (bif (bif (z != z) then true else (bif (!(b == b)) then true else (!b))) then (some (bif (z == z) then (b == b) else false)) else ((Ffa cal z 1).bind fun r14=>(Ffx z).bind fun r15=>(Ffx r14.1).bind fun r16=>some (bif (!r14.2) then true else (bif (r15.1.Month != r16.1.Month) then true else (r15.1.Year != r16.1.Year)))))=some true:=by
      rw [e0]
      cases hbb : b with
      | false=>simp
      | true =>
        simp only [beq_self_eq_true,Bool.not_true,cond_false]
        obtain ⟨hcal,Y,M,D,g1,g2,g3,g4⟩:=z3 hbb
        obtain ⟨w,b2,w1,w2,w3⟩:=add_one cal hs hcal z g3 g2
        simp only [w1,Option.bind_some,specDateOf z g3 g2 g1]
        cases hb2 : b2 with
        | false =>
          obtain rfl:=w3 hb2
          obtain ⟨Y0,M0,D0,q1,q2⟩:=spec_dates 0 (by omega) (by omega)
          rw [specDateOf 0 (by omega) (by omega) q2]
          rfl
        | true =>
          obtain ⟨p1,p2,p3⟩:=w2 hb2
          obtain ⟨Y',M',D',q1,q2⟩:=spec_dates w (by omega) p2
          rw [specDateOf w (by omega) p2 q2]
          simp only [Option.bind_some,Bool.not_true,cond_false]
          by_cases e : Y=Y' ∧ M=M'
          · obtain ⟨rfl,rfl⟩:=e
            exfalso
            have bb:=q2.b
            have:=g4 w p1 (by omega)
            rw [this] at p3
            cases p3
          · congr 1
            by_cases e2 : M=M'
            · have e3 : ¬ Y=Y':=fun e3=>e ⟨e3,e2⟩
              subst e2
              rw [bne,beq_self_eq_true,Bool.not_true,cond_false,int_bne,decide_eq_false e3]
              rfl
            · rw [int_bne (x:=((M + 1 : Nat) : Int)),decide_eq_false (by omega)]
              rfl
    cases hr : r.2 with
    | false =>
      simp only [cond_false,bindJ_inr]
      simp only [beq_self_eq_true,Bool.not_true,cond_false,cond_true] at rest ⊢
      exact rest
    | true =>
      have hok : cntOk f t c=true:=by
        rw [impl_DC] at r1
        cases hk : cntOk f t c with
        | true=>rfl
        | false =>
          rw [hk,cond_false] at r1
          cases r1
          cases hr
      obtain ⟨h1,h2,h3,h4,h5⟩:=cntOk_iff hok
      rw [cond_true]
      by_cases hc : c=3
      · subst hc
        simp only [show ((3 : Int) != 3)=false by rfl,cond_false,bindJ_inr]
        simp only [beq_self_eq_true,Bool.not_true,cond_false,cond_true] at rest ⊢
        exact rest
      · rw [int_bne,decide_eq_false hc]
        simp only [Bool.not_false,cond_true]
        have em : w64 (f + w64 ((w64 (t - f)).tdiv 2))=f + (t - f) / 2:=by
          rw [w64_id (n:=t - f) (by omega) (by omega),Int.tdiv_eq_ediv_of_nonneg (by omega),w64_id (n:=(t - f) / 2) (by omega) (by omega),w64_id (by omega) (by omega)]
        generalize hm : f + (t - f) / 2=m at em
        rw [em]
        have m1 : f ≤ m:=by omega
        have m2 : m ≤ t:=by omega
        have a1 : Ffb f m c=some (redF (cntN f m c) (cntD c),true):=by
          rw [impl_DC,cntOk_of h1 m1 (by omega) h4 h5,cond_true,impl_cnt h1 m1 (by omega) h4 h5 hc]; rfl
        have a2 : Ffb m t c=some (redF (cntN m t c) (cntD c),true):=by
          rw [impl_DC,cntOk_of (by omega) m2 h3 h4 h5,cond_true,impl_cnt (by omega) m2 h3 h4 h5 hc]; rfl
        have a3 : r=(redF (cntN f t c) (cntD c),true):=by
          rw [impl_DC,hok,cond_true,impl_cnt h1 h2 h3 h4 h5 hc] at r1
          exact (Option.some.inj r1).symm
        obtain ⟨bb,hb2⟩:=add_frac (cntN f m c) (cntN m t c) (cntD c) (cntD_b c).1 (cntD_b c).2 (cntN_b h1 m1 (by omega)) (cntN_b (by omega) m2 h3)
        rw [← cntN_add h1 m1 m2] at hb2
        subst a3
        simp only [a1,a2,Option.bind_some,hb2,Bool.not_true,cond_false]
        cases bb with
        | false =>
          simp only [cond_false,bindJ_inr]
          simp only [beq_self_eq_true,Bool.not_true,cond_false,cond_true] at rest ⊢
          exact rest
        | true =>
          simp only [cond_true,beq_self_eq_true,Bool.and_self,Bool.not_true,cond_false,bindJ_inr]
          simp only [beq_self_eq_true,Bool.not_true,cond_false,cond_true] at rest ⊢
          exact rest
end Go.Ln
