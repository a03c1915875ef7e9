/-
  The plain law: the plain functions answer true.
-/
import Derived.Test.YtgcnameabpnpaaaDoorFnExactFormatEventLib
import Derived.Sort.AssemblyPlain
import Derived.Sort.LotD4
import Derived.Sort.LotD5
set_option linter.unusedVariables false
set_option linter.unusedSimpArgs false
set_option maxRecDepth 100000
namespace Go.Ln
open Go

/-! names -/
def signB (c : UInt8) : Bool:=(decide (97 ≤ c.toNat) && decide (c.toNat ≤ 122)) || (decide (48 ≤ c.toNat) && decide (c.toNat ≤ 57))
theorem spec_sign (c : UInt8) : Ffbh (c.toNat : Int)=some (signB c):=by
  simp only [Ffbh,signB,letJ_eq]
  by_cases h1 : 97 ≤ c.toNat <;> by_cases h2 : c.toNat ≤ 122 <;> by_cases h3 : 48 ≤ c.toNat <;> by_cases h4 : c.toNat ≤ 57 <;> simp [h1,h2,h3,h4,show ((97 : Int) ≤ c.toNat) ↔ 97 ≤ c.toNat by omega,show ((c.toNat : Int) ≤ 122) ↔ c.toNat ≤ 122 by omega,show ((48 : Int) ≤ c.toNat) ↔ 48 ≤ c.toNat by omega,show ((c.toNat : Int) ≤ 57) ↔ c.toNat ≤ 57 by omega]
def words : List Str:=[[116,114,117,101],[102,114,111,109],[110,111,116],[97,110,100],[111,114],[98,111,116,104],[101,105,116,104,101,114],[105,116],[105,110]]
def nameB (s : Str) : Bool:=match s with
  | []=>false
  | c :: r=>decide (r.length < 8) && decide (97 ≤ c.toNat) && decide (c.toNat ≤ 122) && s.all signB && !words.contains s
theorem cond_or (b x : Bool) : (bif b then b else x)=(b || x):=by cases b <;> rfl
theorem split_words : Ffbo [116,114,117,101,32,102,114,111,109,32,110,111,116,32,97,110,100,32,111,114,32,98,111,116,104,32,101,105,116,104,101,114,32,105,116,32,105,110] [32]=some words:=by
  have h : Ffbp_la [116,114,117,101,32,102,114,111,109,32,110,111,116,32,97,110,100,32,111,114,32,98,111,116,104,32,101,105,116,104,101,114,32,105,116,32,105,110] [32] 0 (-1) 9 ([116,114,117,101,32,102,114,111,109,32,110,111,116,32,97,110,100,32,111,114,32,98,111,116,104,32,101,105,116,104,101,114,32,105,116,32,105,110],0,List.replicate 9 [])=some (.inr ([105,110],8,[[116,114,117,101],[102,114,111,109],[110,111,116],[97,110,100],[111,114],[98,111,116,104],[101,105,116,104,101,114],[105,116],[]])) :=
    (fixO_iff (fun a=>(Ffbp_la_fin _ _ _ _ _ a).1)).2 ⟨20,by decide +kernel⟩
  have e : Ffbo [116,114,117,101,32,102,114,111,109,32,110,111,116,32,97,110,100,32,111,114,32,98,111,116,104,32,101,105,116,104,101,114,32,105,116,32,105,110] [32]=(bindJ (Ffbp_la [116,114,117,101,32,102,114,111,109,32,110,111,116,32,97,110,100,32,111,114,32,98,111,116,104,32,101,105,116,104,101,114,32,105,116,32,105,110] [32] 0 (-1) 9 ([116,114,117,101,32,102,114,111,109,32,110,111,116,32,97,110,100,32,111,114,32,98,111,116,104,32,101,105,116,104,101,114,32,105,116,32,105,110],0,List.replicate 9 [])) fun u12 : Str × Int × (List Str)=>(getI u12.2.2 u12.2.1).bind fun e13=>(subP (setI u12.2.2 u12.2.1 u12.1).length 0 (w64 (u12.2.1 + 1))).bind fun s14=>(partP (setI u12.2.2 u12.2.1 u12.1) (0 + Int.toNat (0)) (Int.toNat ((w64 (u12.2.1 + 1))) - Int.toNat (0))).bind fun p15=>some p15).bind fun r=>some r:=by rfl
  rw [e,h]
  rfl
theorem contains_words (s : Str) : Ffu words s=some (words.contains s):=by
  unfold Ffu Ffv
  rw [idxLoop (L:=Ffv_la words s) (a:=words) (p:=fun e=>some (s == e)) (q:=fun e=>s == e) (fun _ _=>rfl) (fun x=>by rw [Ffv_la_eq,Ffv_la_F] <;> rfl) (by decide)]
  cases h : words.findIdx? (fun e=>s == e) with
  | none =>
    have : words.contains s=false:=by
      rw [List.findIdx?_eq_none_iff] at h
      rw [Bool.eq_false_iff]
      intro hc
      rw [List.contains_iff_exists_mem_beq] at hc
      obtain ⟨w,hw,he⟩:=hc
      rw [h w hw] at he
      cases he
    rw [this]
    rfl
  | some i =>
    have : words.contains s=true:=by
      rw [List.findIdx?_eq_some_iff_getElem] at h
      obtain ⟨hi,he,_⟩:=h
      rw [List.contains_iff_exists_mem_beq]
      exact ⟨_,List.getElem_mem hi,he⟩
    rw [this]
    simp
theorem spec_words (s : Str) : (bif s == [116,114,117,101] then s == [116,114,117,101] else bif s == [102,114,111,109] then s == [102,114,111,109] else bif s == [110,111,116] then s == [110,111,116] else bif s == [97,110,100] then s == [97,110,100] else bif s == [111,114] then s == [111,114] else bif s == [98,111,116,104] then s == [98,111,116,104] else bif s == [101,105,116,104,101,114] then s == [101,105,116,104,101,114] else bif s == [105,116] then s == [105,116] else s == [105,110])=words.contains s:=by
  simp only [cond_or,words,List.contains_cons,List.contains_nil,Bool.or_false]
theorem spec_name (s : Str) (hs : s.length ≤ 1048576) : Ffbg s=some (nameB s):=by
  unfold Ffbg spec_l1In nameB
  simp only [letJ_eq,Option.bind_some,spec_words]
  cases s with
  | nil=>rfl
  | cons c r =>
    have e1 : decide (len (c :: r) ≥ 1)=true:=decide_eq_true (by simp [len]; omega)
    have e2 : decide (len (c :: r) ≤ 8)=decide (r.length < 8):=by simp only [len,List.length_cons]; congr 1; apply propext; omega
    have e3 : getI (c :: r) (0 : Int)=some c:=rfl
    have e4 : decide ((c.toNat : Int) < 97)=!decide (97 ≤ c.toNat):=by rw [← decide_not]; congr 1; apply propext; omega
    have e5 : decide ((c.toNat : Int) > 122)=!decide (c.toNat ≤ 122):=by rw [← decide_not]; congr 1; apply propext; omega
    rw [e1,e2,e3,anyLoop (r:=false) (L:=Ffbg_la (c :: r)) (a:=c :: r) (p:=fun c=>(Ffbh (c.toNat : Int)).bind fun r=>some (!r)) (q:=fun c=>!signB c) (fun x _=>by rw [spec_sign]; rfl) (fun x=>by rw [Ffbg_la_eq,Ffbg_la_F]; simp only [Option.bind_assoc,Option.bind_some]) (by omega)]
    simp only [cond_true,Option.bind_some,e4,e5]
    have e6 : ((c :: r).any fun c=>!signB c)=!((c :: r).all signB):=by rw [List.not_all_eq_any_not]
    rw [e6]
    cases decide (r.length < 8) <;> cases decide (97 ≤ c.toNat) <;> cases decide (c.toNat ≤ 122) <;> cases (c :: r).all signB <;> cases words.contains (c :: r) <;> rfl
theorem impl_name (s : Str) (hs : s.length ≤ 1048576) : Ffb s=some (nameB s):=by
  unfold Ffb Ffm nameB
  simp only [letJ_eq,Option.bind_some,split_words,contains_words]
  cases s with
  | nil=>rfl
  | cons c r =>
    have e1 : decide (len (c :: r) ≥ 1)=true:=decide_eq_true (by simp [len]; omega)
    have e2 : decide (len (c :: r) ≤ 8)=decide (r.length < 8):=by simp only [len,List.length_cons]; congr 1; apply propext; omega
    have e3 : getI (c :: r) (0 : Int)=some c:=rfl
    have e4 : decide ((c.toNat : Int) < 97)=!decide (97 ≤ c.toNat):=by rw [← decide_not]; congr 1; apply propext; omega
    have e5 : decide ((c.toNat : Int) > 122)=!decide (c.toNat ≤ 122):=by rw [← decide_not]; congr 1; apply propext; omega
    have hp : ∀ c : UInt8,(bif decide ((c.toNat : Int) < 97) then (bif decide ((c.toNat : Int) < 48) then true else decide ((c.toNat : Int) > 57)) else (bif decide ((c.toNat : Int) > 122) then (bif decide ((c.toNat : Int) < 48) then true else decide ((c.toNat : Int) > 57)) else false))=!signB c:=by
      intro c
      have f1 : decide ((c.toNat : Int) < 97)=!decide (97 ≤ c.toNat):=by rw [← decide_not]; congr 1; apply propext; omega
      have f2 : decide ((c.toNat : Int) > 122)=!decide (c.toNat ≤ 122):=by rw [← decide_not]; congr 1; apply propext; omega
      have f3 : decide ((c.toNat : Int) < 48)=!decide (48 ≤ c.toNat):=by rw [← decide_not]; congr 1; apply propext; omega
      have f4 : decide ((c.toNat : Int) > 57)=!decide (c.toNat ≤ 57):=by rw [← decide_not]; congr 1; apply propext; omega
      rw [f1,f2,f3,f4]
      unfold signB
      by_cases g1 : 97 ≤ c.toNat
      · have g3 : 48 ≤ c.toNat:=by omega
        have g4 : ¬ c.toNat ≤ 57:=by omega
        simp only [g1,g3,g4,decide_true,decide_false]
        cases decide (c.toNat ≤ 122) <;> rfl
      · simp only [g1,decide_false]
        cases decide (48 ≤ c.toNat) <;> cases decide (c.toNat ≤ 57) <;> rfl
    rw [e1,e2,e3,anyLoop (r:=false) (L:=Ffb_la (c :: r)) (a:=c :: r) (p:=fun c=>some (!signB c)) (q:=fun c=>!signB c) (fun x _=>rfl) (fun x=>by rw [Ffb_la_eq,Ffb_la_F]; simp only [letJ_eq,hp,Option.bind_some]) (by omega)]
    simp only [cond_true,Option.bind_some,e4,e5]
    have e6 : ((c :: r).any fun c=>!signB c)=!((c :: r).all signB):=by rw [List.not_all_eq_any_not]
    rw [e6]
    cases decide (r.length < 8) <;> cases decide (97 ≤ c.toNat) <;> cases decide (c.toNat ≤ 122) <;> cases (c :: r).all signB <;> cases words.contains (c :: r) <;> rfl

/-! events -/
theorem cond_and (b x : Bool) : (bif b then x else false)=(b && x):=by cases b <;> rfl
def inB (x a b : Int) : Bool:=decide (x ≥ a) && decide (x ≤ b)
theorem spec_in (x a b : Int) : spec_l1In x a b=some (inB x a b):=by simp only [spec_l1In,letJ_eq,cond_and,inB]
theorem impl_in (x a b : Int) : Ffm x a b=some (inB x a b):=by simp only [Ffm,letJ_eq,cond_and,inB]
def evB (p : Int) (e : Event) : Bool:=inB e.Day 0 36524 && (inB e.Party 0 (w64 (p - 1)) && (nameB e.Action && inB e.Amount 0 1000000))
theorem spec_ev (e : Event) (p : Int) (h : sm_Event e) : Ffbl e p=some (evB p e):=by
  simp only [Ffbl,Ffbb,spec_in,spec_name _ h.2.2.1,Option.bind_some,evB]
  cases inB e.Day 0 36524 <;> cases inB e.Party 0 (w64 (p - 1)) <;> cases nameB e.Action <;> rfl
theorem impl_ev (e : Event) (p : Int) (h : sm_Event e) : Ffk e p=some (evB p e):=by
  simp only [Ffk,Ffj,impl_in,impl_name _ h.2.2.1,Option.bind_some,evB]
  cases inB e.Day 0 36524 <;> cases inB e.Party 0 (w64 (p - 1)) <;> cases nameB e.Action <;> rfl
/-! dates -/
def leap (y : Int) : Int:=if y % 4=0 then 1 else 0
def mlen (y m : Int) : Int:=if m=2 then 28 + leap y else if m=4 ∨ m=6 ∨ m=9 ∨ m=11 then 30 else 31
def m0 (y : Int) : Nat→Int
  | 0=>0
  | k + 1=>m0 y k + mlen y ((k + 1 : Nat) : Int)
def y0 (y : Int) : Int:=365 * (y - 2000) + (y - 2000 + 3) / 4
theorem leap_le (y : Int) : 0 ≤ leap y ∧ leap y ≤ 1:=by unfold leap; split <;> omega
theorem mlen_le (y m : Int) : 28 ≤ mlen y m ∧ mlen y m ≤ 31:=by
  have:=leap_le y
  unfold mlen
  split
  · omega
  · split <;> omega
theorem m0_le (y : Int) : ∀ k : Nat,28 * (k : Int) ≤ m0 y k ∧ m0 y k ≤ 31 * (k : Int)
  | 0=>by simp [m0]
  | k + 1=>by
    have:=m0_le y k
    have:=mlen_le y ((k + 1 : Nat) : Int)
    simp only [m0]
    omega
theorem m0_mono (y : Int) {a b : Nat} (h : a ≤ b) : m0 y a ≤ m0 y b := by
  induction b with
  | zero => have : a = 0 := by omega
            subst this; exact Int.le_refl _
  | succ b ih =>
    by_cases e : a = b + 1
    · subst e; exact Int.le_refl _
    · have := ih (by omega)
      have := mlen_le y ((b + 1 : Nat) : Int)
      simp only [m0]
      omega
theorem m0_12 (y : Int) : m0 y 12=365 + leap y:=by simp [m0,mlen]; omega
theorem y0_succ (y : Int) : y0 (y + 1)=y0 y + 365 + leap y:=by unfold y0 leap; split <;> omega
theorem y0_uniq {a b day : Int} (h1 : y0 a ≤ day) (h2 : day < y0 (a + 1)) (h3 : y0 b ≤ day) (h4 : day < y0 (b + 1)) : a=b:=by unfold y0 at *; omega
theorem m0_uniq {y r : Int} {a b : Nat} (h1 : m0 y a ≤ r) (h2 : r < m0 y (a + 1)) (h3 : m0 y b ≤ r) (h4 : r < m0 y (b + 1)) : a=b:=by
  rcases Nat.lt_trichotomy a b with h | h | h
  · have:=m0_mono y (show a + 1 ≤ b from h); omega
  · exact h
  · have:=m0_mono y (show b + 1 ≤ a from h); omega
theorem tmod4 {y : Int} (hy : 0 ≤ y) : y.tmod 4=y % 4:=Int.tmod_eq_emod_of_nonneg hy
theorem spec_len (y m : Int) (hy : 0 ≤ y) : Ffbc y m=some (mlen y m):=by
  simp only [Ffbc,letJ_eq,tmod4 hy,mlen,leap]
  by_cases a : m=4
  · subst a; rfl
  by_cases b : m=6
  · subst b; rfl
  by_cases c : m=9
  · subst c; rfl
  by_cases d : m=11
  · subst d; rfl
  by_cases e : m=2
  · subst e
    by_cases f : y % 4=0
    · simp [f]
    · simp [f,beq_eq_false_iff_ne.2 f]
  · simp [a,b,c,d,e,beq_eq_false_iff_ne.2 a,beq_eq_false_iff_ne.2 b,beq_eq_false_iff_ne.2 c,beq_eq_false_iff_ne.2 d,beq_eq_false_iff_ne.2 e]
theorem spec_day_la (d : Date) (hy : 0 ≤ d.Year) : ∀ (n k : Nat) (acc : Int),((k + 1 + n : Nat) : Int)=d.Month→d.Month ≤ 13→0 ≤ acc→acc + 31 * (n : Int) ≤ 1000000→Ffba_la d (acc,((k + 1 : Nat) : Int))=some (.inr (acc + m0 d.Year (k + n) - m0 d.Year k))
  | 0,k,acc,hm,h13,ha,hb=>by
    rw [Ffba_la_eq,Ffba_la_F]
    rw [decide_eq_false (by omega),cond_false]
    simp only [Nat.add_zero]
    congr 2
    omega
  | n + 1,k,acc,hm,h13,ha,hb=>by
    rw [Ffba_la_eq,Ffba_la_F]
    rw [decide_eq_true (by omega),cond_true]
    simp only [spec_len _ _ hy,Option.bind_some]
    have hl:=mlen_le d.Year ((k + 1 : Nat) : Int)
    rw [w64_id (by omega) (by omega),w64_succ (by omega)]
    rw [spec_day_la d hy n (k + 1) _ (by omega) h13 (by omega) (by omega)]
    rw [show k + (n + 1)=k + 1 + n by omega]
    congr 2
    simp only [m0]
    omega
theorem spec_day (y dd : Int) (k : Nat) (hy : 2000 ≤ y) (hy2 : y ≤ 2100) (hm : k ≤ 12) (hd : 0 ≤ dd) (hd2 : dd ≤ 100000) : Ffba ⟨y,((k + 1 : Nat) : Int),dd⟩=some (y0 y + m0 y k + dd - 1):=by
  have hk:=m0_le y k
  unfold Ffba
  simp only
  have e1 : w64 (y - 2000)=y - 2000:=w64_id (by omega) (by omega)
  rw [e1]
  have e2 : w64 (y - 2000 + 3)=y - 2000 + 3:=w64_id (by omega) (by omega)
  have e3 : w64 (365 * (y - 2000))=365 * (y - 2000):=w64_id (by omega) (by omega)
  rw [e2,e3,Int.tdiv_eq_ediv_of_nonneg (by omega : 0 ≤ y - 2000 + 3)]
  have e4 : w64 ((y - 2000 + 3) / 4)=(y - 2000 + 3) / 4:=w64_id (by omega) (by omega)
  rw [e4]
  have e5 : w64 (365 * (y - 2000) + (y - 2000 + 3) / 4)=y0 y:=w64_id (by omega) (by omega)
  rw [e5]
  have hb : 0 ≤ y0 y ∧ y0 y ≤ 40000:=by unfold y0; omega
  rw [show (1 : Int)=((0 + 1 : Nat) : Int) by rfl,spec_day_la ⟨y,((k + 1 : Nat) : Int),dd⟩ (by simp only; omega) k 0 (y0 y) (by simp only; omega) (by simp only; omega) hb.1 (by omega)]
  simp only [bindJ_inr,Nat.zero_add,m0]
  rw [show w64 (y0 y + m0 y k - 0 + dd)=y0 y + m0 y k - 0 + dd from w64_id (by omega) (by omega),w64_id (by omega) (by omega)]
  congr 1
  omega
theorem spec_year (day : Int) (hd : 0 ≤ day) (hd2 : day ≤ 36524) : ∀ (n : Nat) (x : Int),x + n=2099→2000 ≤ x→y0 x ≤ day→∃ Y,Ffz_la day x=some (.inr Y) ∧ 2000 ≤ Y ∧ Y ≤ 2099 ∧ y0 Y ≤ day ∧ day < y0 (Y + 1)
  | 0,x,hn,h0,hx=>by
    rw [Ffz_la_eq,Ffz_la_F]
    rw [decide_eq_false (by omega),cond_false]
    refine ⟨x,rfl,h0,by omega,hx,?_⟩
    have : x=2099:=by omega
    subst this
    unfold y0
    omega
  | n + 1,x,hn,h0,hx=>by
    rw [Ffz_la_eq,Ffz_la_F]
    rw [decide_eq_true (by omega),cond_true,w64_id (by omega) (by omega)]
    rw [show (1 : Int)=((0 + 1 : Nat) : Int) by rfl,spec_day (x + ((0 + 1 : Nat) : Int)) _ 0 (by omega) (by omega) (by omega) (by omega) (by omega)]
    simp only [Option.bind_some,m0]
    have e : y0 (x + ((0 + 1 : Nat) : Int)) + 0 + ((0 + 1 : Nat) : Int) - 1=y0 (x + 1):=by simp
    rw [e]
    by_cases h : y0 (x + 1) ≤ day
    · rw [decide_eq_true h]
      exact spec_year day hd hd2 n (x + 1) (by omega) (by omega) h
    · rw [decide_eq_false h]
      exact ⟨x,rfl,h0,by omega,hx,by omega⟩
theorem spec_month (day Y : Int) (hd : 0 ≤ day) (hd2 : day ≤ 36524) (hY : 2000 ≤ Y) (hY2 : Y ≤ 2099) (hy : day < y0 (Y + 1)) : ∀ (n k : Nat),k + n=11→y0 Y + m0 Y k ≤ day→∃ M : Nat,Ffz_lb day Y ((k + 1 : Nat) : Int)=some (.inr ((M + 1 : Nat) : Int)) ∧ M ≤ 11 ∧ y0 Y + m0 Y M ≤ day ∧ day < y0 Y + m0 Y (M + 1)
  | 0,k,hn,hx=>by
    obtain rfl : k=11:=by omega
    rw [Ffz_lb_eq,Ffz_lb_F]
    rw [decide_eq_false (by omega),cond_false]
    refine ⟨11,rfl,by omega,hx,?_⟩
    rw [m0_12]
    rw [y0_succ] at hy
    omega
  | n + 1,k,hn,hx=>by
    rw [Ffz_lb_eq,Ffz_lb_F]
    rw [decide_eq_true (by omega),cond_true,w64_succ (by omega)]
    rw [spec_day Y 1 (k + 1) (by omega) (by omega) (by omega) (by omega) (by omega)]
    simp only [Option.bind_some]
    have e : y0 Y + m0 Y (k + 1) + 1 - 1=y0 Y + m0 Y (k + 1):=by omega
    rw [e]
    by_cases h : y0 Y + m0 Y (k + 1) ≤ day
    · rw [decide_eq_true h]
      exact spec_month day Y hd hd2 hY hY2 hy n (k + 1) (by omega) h
    · rw [decide_eq_false h]
      exact ⟨k,rfl,by omega,hx,by omega⟩
theorem y0_2000 : y0 2000=0:=by unfold y0; omega
theorem spec_date (day : Int) (hd : 0 ≤ day) (hd2 : day ≤ 36524) : ∃ (Y : Int) (M : Nat),Ffz day=some ⟨Y,((M + 1 : Nat) : Int),day - y0 Y - m0 Y M + 1⟩ ∧ 2000 ≤ Y ∧ Y ≤ 2099 ∧ y0 Y ≤ day ∧ day < y0 (Y + 1) ∧ M ≤ 11 ∧ m0 Y M ≤ day - y0 Y ∧ day - y0 Y < m0 Y (M + 1):=by
  obtain ⟨Y,h1,h2,h3,h4,h5⟩:=spec_year day hd hd2 99 2000 (by omega) (by omega) (by rw [y0_2000]; exact hd)
  obtain ⟨M,g1,g2,g3,g4⟩:=spec_month day Y hd hd2 h2 h3 h5 11 0 (by omega) (by simp only [m0]; omega)
  refine ⟨Y,M,?_,h2,h3,h4,h5,g2,by omega,by omega⟩
  have hk:=m0_le Y M
  have hb : 0 ≤ y0 Y ∧ y0 Y ≤ 40000:=by unfold y0; omega
  unfold Ffz
  rw [h1]
  simp only [bindJ_inr]
  rw [show (1 : Int)=((0 + 1 : Nat) : Int) by rfl,g1]
  simp only [bindJ_inr]
  rw [spec_day Y _ M h2 (by omega) (by omega) (by omega) (by omega)]
  simp only [Option.bind_some]
  have e : w64 (w64 (day - (y0 Y + m0 Y M + ((0 + 1 : Nat) : Int) - 1)) + ((0 + 1 : Nat) : Int))=day - y0 Y - m0 Y M + 1:=by
    rw [show w64 (day - (y0 Y + m0 Y M + ((0 + 1 : Nat) : Int) - 1))=day - y0 Y - m0 Y M from by rw [w64_id (by omega) (by omega)]; omega,w64_id (by omega) (by omega)]
    rfl
  rw [e]
  rfl
theorem impl_len (y m : Int) (hy : 0 ≤ y) : Ffg y m=some (mlen y m):=by
  simp only [Ffg,letJ_eq,tmod4 hy,mlen,leap]
  by_cases e : m=2
  · subst e
    by_cases f : y % 4=0
    · simp [f]
    · simp [f,beq_eq_false_iff_ne.2 f]
  by_cases a : m=4
  · subst a; rfl
  by_cases b : m=6
  · subst b; rfl
  by_cases c : m=9
  · subst c; rfl
  by_cases d : m=11
  · subst d; rfl
  · simp [a,b,c,d,e,beq_eq_false_iff_ne.2 a,beq_eq_false_iff_ne.2 b,beq_eq_false_iff_ne.2 c,beq_eq_false_iff_ne.2 d,beq_eq_false_iff_ne.2 e]
theorem impl_ylen (y : Int) (hy : 0 ≤ y) : Ffh y=some (365 + leap y):=by
  have:=leap_le y
  unfold Ffh
  rw [impl_len _ _ hy]
  simp only [Option.bind_some,mlen,if_true]
  rw [w64_id (by omega) (by omega)]
  congr 1
  omega
theorem impl_year (day : Int) (hd : 0 ≤ day) (hd2 : day ≤ 36524) : ∀ (n : Nat) (x : Int),x + n=2099→2000 ≤ x→y0 x ≤ day→∃ Y,Ffe_la day (day - y0 x,x)=some (.inr (day - y0 Y,Y)) ∧ 2000 ≤ Y ∧ Y ≤ 2099 ∧ y0 Y ≤ day ∧ day < y0 (Y + 1):=by
  intro n
  induction n with
  | zero =>
    intro x hn h0 hx
    rw [Ffe_la_eq,Ffe_la_F]
    have hl:=leap_le x
    have hs:=y0_succ x
    have : x=2099:=by omega
    have h9 : day < y0 (x + 1):=by subst this; unfold y0; omega
    simp only [impl_ylen x (by omega),Option.bind_some]
    rw [decide_eq_false (by omega),cond_false]
    exact ⟨x,rfl,h0,by omega,hx,h9⟩
  | succ n ih =>
    intro x hn h0 hx
    rw [Ffe_la_eq,Ffe_la_F]
    have hl:=leap_le x
    have hs:=y0_succ x
    have hb : 0 ≤ y0 x:=by unfold y0; omega
    simp only [impl_ylen x (by omega),Option.bind_some]
    by_cases h : y0 (x + 1) ≤ day
    · rw [decide_eq_true (by omega),cond_true,w64_id (by omega) (by omega),w64_id (by omega) (by omega),show day - y0 x - (365 + leap x)=day - y0 (x + 1) by omega]
      exact ih (x + 1) (by omega) (by omega) h
    · rw [decide_eq_false (by omega),cond_false]
      exact ⟨x,rfl,h0,by omega,hx,by omega⟩
theorem impl_month (day Y r : Int) (hd : 0 ≤ day) (hd2 : day ≤ 36524) (hY : 2000 ≤ Y) (hY2 : Y ≤ 2099) (hy0 : y0 Y ≤ day) (hy : day < y0 (Y + 1)) : ∀ (n k : Nat),k + n=11→y0 Y + m0 Y k ≤ day→∃ M : Nat,Ffe_lb day (r,Y) (day - y0 Y - m0 Y k,((k + 1 : Nat) : Int))=some (.inr (day - y0 Y - m0 Y M,((M + 1 : Nat) : Int))) ∧ M ≤ 11 ∧ y0 Y + m0 Y M ≤ day ∧ day < y0 Y + m0 Y (M + 1):=by
  intro n
  have hb : 0 ≤ y0 Y:=by unfold y0; omega
  induction n with
  | zero =>
    intro k hn hx
    obtain rfl : k=11:=by omega
    have h12:=m0_12 Y
    rw [y0_succ] at hy
    have he : m0 Y 12=m0 Y 11 + mlen Y ((11 + 1 : Nat) : Int):=rfl
    rw [Ffe_lb_eq,Ffe_lb_F]
    simp only [impl_len Y _ (show 0 ≤ Y by omega),Option.bind_some]
    rw [decide_eq_false (by omega),cond_false]
    exact ⟨11,rfl,by omega,hx,show day < y0 Y + m0 Y 12 by omega⟩
  | succ n ih =>
    intro k hn hx
    have he : m0 Y (k + 1)=m0 Y k + mlen Y ((k + 1 : Nat) : Int):=rfl
    have hk:=m0_le Y k
    have hl:=mlen_le Y ((k + 1 : Nat) : Int)
    rw [Ffe_lb_eq,Ffe_lb_F]
    simp only [impl_len Y _ (show 0 ≤ Y by omega),Option.bind_some]
    by_cases h : y0 Y + m0 Y (k + 1) ≤ day
    · rw [decide_eq_true (by omega),cond_true,w64_id (by omega) (by omega),w64_succ (by omega),show day - y0 Y - m0 Y k - mlen Y ((k + 1 : Nat) : Int)=day - y0 Y - m0 Y (k + 1) by omega]
      exact ih (k + 1) (by omega) h
    · rw [decide_eq_false (by omega),cond_false]
      exact ⟨k,rfl,by omega,hx,by omega⟩
theorem impl_date (day : Int) (hd : 0 ≤ day) (hd2 : day ≤ 36524) {Y : Int} {M : Nat} (h2 : y0 Y ≤ day) (h3 : day < y0 (Y + 1)) (h4 : m0 Y M ≤ day - y0 Y) (h5 : day - y0 Y < m0 Y (M + 1)) : Ffe day=some ⟨Y,((M + 1 : Nat) : Int),day - y0 Y - m0 Y M + 1⟩:=by
  obtain ⟨Y',g1,g2,g3,g4,g5⟩:=impl_year day hd hd2 99 2000 (by omega) (by omega) (by rw [y0_2000]; exact hd)
  obtain rfl:=y0_uniq g4 g5 h2 h3
  obtain ⟨M',k1,k2,k3,k4⟩:=impl_month day Y' (day - y0 Y') hd hd2 g2 g3 g4 g5 11 0 (by omega) (by simp only [m0]; omega)
  obtain rfl:=m0_uniq (a:=M') (r:=day - y0 Y') (by omega) (by omega) h4 h5
  have hk:=m0_le Y' M'
  have hb : 0 ≤ y0 Y':=by unfold y0; omega
  rw [y0_2000,Int.sub_zero] at g1
  simp only [m0,Int.sub_zero] at k1
  unfold Ffe
  rw [g1]
  simp only [bindJ_inr]
  rw [show (1 : Int)=((0 + 1 : Nat) : Int) by rfl,k1]
  simp only [bindJ_inr]
  rw [w64_id (by omega) (by omega)]
/-- Both give the same date of a day. -/
theorem dates (day : Int) (hd : 0 ≤ day) (hd2 : day ≤ 36524) : ∃ (Y : Int) (M : Nat) (D : Int),Ffz day=some ⟨Y,((M + 1 : Nat) : Int),D⟩ ∧ Ffe day=some ⟨Y,((M + 1 : Nat) : Int),D⟩ ∧ 2000 ≤ Y ∧ Y ≤ 2099 ∧ M ≤ 11 ∧ 1 ≤ D ∧ D ≤ mlen Y ((M + 1 : Nat) : Int) ∧ day=y0 Y + m0 Y M + D - 1:=by
  obtain ⟨Y,M,h1,h2,h3,h4,h5,h6,h7,h8⟩:=spec_date day hd hd2
  have he : m0 Y (M + 1)=m0 Y M + mlen Y ((M + 1 : Nat) : Int):=rfl
  exact ⟨Y,M,_,h1,impl_date day hd hd2 h4 h5 h7 h8,h2,h3,h6,by omega,by omega,by omega⟩
/-! parties -/
theorem contains_str (l : List Str) (s : Str) (hl : l.length ≤ 1048576) : Ffu l s=some (l.contains s):=by
  unfold Ffu Ffv
  rw [idxLoop (L:=Ffv_la l s) (a:=l) (p:=fun e=>some (s == e)) (q:=fun e=>s == e) (fun _ _=>rfl) (fun x=>by rw [Ffv_la_eq,Ffv_la_F] <;> rfl) (by omega)]
  cases h : l.findIdx? (fun e=>s == e) with
  | none =>
    have : l.contains s=false:=by
      rw [List.findIdx?_eq_none_iff] at h
      rw [Bool.eq_false_iff]
      intro hc
      rw [List.contains_iff_exists_mem_beq] at hc
      obtain ⟨w,hw,he⟩:=hc
      rw [h w hw] at he
      cases he
    rw [this]
    rfl
  | some i =>
    have : l.contains s=true:=by
      rw [List.findIdx?_eq_some_iff_getElem] at h
      obtain ⟨hi,he,_⟩:=h
      rw [List.contains_iff_exists_mem_beq]
      exact ⟨_,List.getElem_mem hi,he⟩
    rw [this]
    simp
theorem beq_swap (a b : Str) : (a == b)=(b == a):=by
  rw [str_beq,str_beq]
  by_cases h : a=b
  · simp [h]
  · simp [h,Ne.symm h]
theorem has_str (l : List Str) (s : Str) (hl : l.length ≤ 1048576) : Ffbf l s=some (l.contains s):=by
  unfold Ffbf
  rw [anyLoop (L:=Ffbf_la l s) (a:=l) (p:=fun e=>some (e == s)) (q:=fun e=>e == s) (r:=true) (fun _ _=>rfl) (fun x=>by rw [Ffbf_la_eq,Ffbf_la_F] <;> rfl) (by omega)]
  have : (l.any fun e=>e == s)=l.contains s:=by
    rw [List.contains_eq_any_beq]
    congr 1
    funext e
    exact beq_swap e s
  rw [this]
  cases l.contains s <;> rfl
def badP (l : List Str) (k : Nat) : Bool:=match l[k]? with
  | some e=>!nameB e || (l.take k).contains e
  | none=>false
def parB (l : List Str) : Nat→Nat→Bool
  | 0,_=>true
  | n + 1,k=>!badP l k && parB l n (k + 1)
theorem sub0_nat {α : Type} {l : List α} {k : Nat} (h : k ≤ l.length) : subI l 0 (k : Int)=some (l.take k):=by
  unfold subI
  rw [if_pos (by omega)]
  simp
theorem spec_par_la (l : List Str) (cs : List Clause) (hl : smL smS l) : ∀ (n k : Nat),k + n=l.length→Ffbi_la ⟨l,cs⟩ (k : Int)=some (bif parB l n k then .inr () else .inl false)
  | 0,k,hk=>by
    have h1:=hl.1
    rw [Ffbi_la_eq,Ffbi_la_F]
    simp only [lt_len]
    rw [decide_eq_false (by omega)]
    rfl
  | n + 1,k,hk=>by
    have h1:=hl.1
    obtain ⟨e,he⟩ : ∃ e,l[k]?=some e:=⟨_,List.getElem?_eq_getElem (by omega)⟩
    rw [Ffbi_la_eq,Ffbi_la_F]
    simp only [lt_len]
    rw [decide_eq_true (by omega)]
    simp only [cond_true,getI_nat,he,Option.bind_some,spec_name e (hl.2 e (List.mem_of_getElem? he)),sub0_nat (show k ≤ l.length by omega),has_str _ e (show (l.take k).length ≤ 1048576 by rw [List.length_take]; omega)]
    rw [w64_succ (by omega),spec_par_la l cs hl n (k + 1) (by omega)]
    simp only [parB,badP,he]
    cases nameB e <;> cases (l.take k).contains e <;> rfl
theorem impl_par_la (l : List Str) (hl : smL smS l) : ∀ (n k : Nat),k + n=l.length→Ffd_la l (k : Int)=some (bif parB l n k then .inr () else .inl false)
  | 0,k,hk=>by
    have h1:=hl.1
    rw [Ffd_la_eq,Ffd_la_F]
    simp only [lt_len]
    rw [decide_eq_false (by omega)]
    rfl
  | n + 1,k,hk=>by
    have h1:=hl.1
    obtain ⟨e,he⟩ : ∃ e,l[k]?=some e:=⟨_,List.getElem?_eq_getElem (by omega)⟩
    rw [Ffd_la_eq,Ffd_la_F]
    simp only [lt_len]
    rw [decide_eq_true (by omega)]
    simp only [cond_true,getI_nat,he,Option.bind_some,impl_name e (hl.2 e (List.mem_of_getElem? he)),sub0_nat (show k ≤ l.length by omega),contains_str _ e (show (l.take k).length ≤ 1048576 by rw [List.length_take]; omega)]
    rw [w64_succ (by omega),impl_par_la l hl n (k + 1) (by omega)]
    simp only [parB,badP,he]
    cases nameB e <;> cases (l.take k).contains e <;> rfl
def parsB (l : List Str) : Bool:=parB l l.length 0 && inB (len l) 2 4
theorem spec_par (l : List Str) (cs : List Clause) (hl : smL smS l) : Ffbi ⟨l,cs⟩=some (parsB l):=by
  unfold Ffbi parsB
  have:=spec_par_la l cs hl l.length 0 (by omega)
  rw [show (0 : Int)=((0 : Nat) : Int) by rfl,this]
  simp only [spec_in]
  cases parB l l.length 0 <;> rfl
theorem impl_par (l : List Str) (hl : smL smS l) : Ffd l=some (parsB l):=by
  unfold Ffd parsB
  have:=impl_par_la l hl l.length 0 (by omega)
  rw [show (0 : Int)=((0 : Nat) : Int) by rfl,this]
  simp only [impl_in]
  cases parB l l.length 0 <;> rfl
/-! texts of dates and amounts -/
theorem cat_ok {a b : Str} (h : a.length + b.length ≤ 9223372036854775807) : catS a b=some (a ++ b):=by unfold catS; rw [if_pos h]
theorem dig_fin : ∀ i : _root_.Fin 10,subI ([48,49,50,51,52,53,54,55,56,57] : Str) (i.val : Int) ((i.val + 1 : Nat) : Int)=some [UInt8.ofNat (48 + i.val)]:=by decide
theorem dig_sub (i : Nat) (h : i < 10) : subI ([48,49,50,51,52,53,54,55,56,57] : Str) (i : Int) ((i + 1 : Nat) : Int)=some [UInt8.ofNat (48 + i)]:=dig_fin ⟨i,h⟩
theorem nDigits_len (n : Nat) (h : n < 10000000000000000000) : Lib.nDigits n ≤ 20:=by
  have:=Lib.nDigits_le20 n (by omega)
  exact this
theorem dec_len (n : Nat) (h : n < 10000000000000000000) : (Lib.decDigits n).length ≤ 20:=by
  rw [Lib.decDigits_length]
  exact nDigits_len n h
theorem tdiv10 (n : Nat) : ((n : Int).tdiv 10)=((n / 10 : Nat) : Int):=by rw [Int.tdiv_eq_ediv_of_nonneg (by omega)]; omega
theorem tmod10 (n : Nat) : ((n : Int).tmod 10)=((n % 10 : Nat) : Int):=by rw [Int.tmod_eq_emod_of_nonneg (by omega)]; omega
theorem num_val (n : Nat) (h : n < 1000000000000000000) : Ffx (n : Int)=some (Lib.decDigits n):=by
  induction n using Nat.strongRecOn with
  | _ n ih =>
    rw [Ffx_eq]
    unfold Ffx_B
    rw [decide_eq_false (by omega),cond_false]
    by_cases h1 : n < 10
    · rw [decide_eq_true (by omega),cond_true,w64_succ (by omega),dig_sub n h1,Option.bind_some,Lib.decDigits,dif_pos h1]
    · rw [decide_eq_false (by omega),cond_false,tdiv10,tmod10,w64_id (by omega) (by omega),w64_succ (by omega)]
      have e:=ih (n / 10) (by omega) (by omega)
      have e' : fixO Ffx_G ((n / 10 : Nat) : Int)=some (Lib.decDigits (n / 10)):=e
      rw [e',Option.bind_some,dig_sub (n % 10) (by omega),Option.bind_some,cat_ok (by have:=dec_len (n / 10) (by omega); simp only [List.length_singleton]; omega),Option.bind_some]
      conv=>rhs; rw [Lib.decDigits,dif_neg h1]
theorem itoa_val (n : Nat) (h : n < 1000000000000000000) : xItoa (n : Int)=some (Lib.decDigits n):=by
  unfold xItoa
  rw [show i64b (n : Int)=true by simp only [i64b,Bool.and_eq_true,decide_eq_true_eq]; omega,cond_true,Lib.itoa_nonneg]
def two (n : Nat) : Str:=if n < 10 then 48 :: Lib.decDigits n else Lib.decDigits n
theorem two_len (n : Nat) (h : n < 1000000000000000000) : (two n).length ≤ 21:=by
  have:=dec_len n (by omega)
  unfold two
  split
  · simp only [List.length_cons]; omega
  · omega
theorem spec_two (n : Nat) (h : n < 1000000000000000000) : Ffbe (n : Int)=some (two n):=by
  unfold Ffbe two
  rw [num_val n h]
  have:=dec_len n (by omega)
  by_cases h1 : n < 10
  · rw [decide_eq_true (by omega),cond_true,if_pos h1,Option.bind_some,cat_ok (by simp only [List.length_singleton]; omega)]
    rfl
  · rw [decide_eq_false (by omega),cond_false,if_neg h1]
    rfl
theorem pad_done (n d : Int) (s : Str) (h : d ≤ (s.length : Int)) : Ffl_la n d s=some (.inr s):=by
  rw [Ffl_la_eq,Ffl_la_F]
  rw [decide_eq_false (by simp only [len]; omega),cond_false]
theorem impl_two (n : Nat) (h : n < 100) : Ffl (n : Int) 2=some (two n):=by
  unfold Ffl two
  rw [itoa_val n (by omega),Option.bind_some]
  by_cases h1 : n < 10
  · have hl : (Lib.decDigits n).length=1:=by rw [Lib.decDigits_length,Lib.nDigits_small h1]
    rw [Ffl_la_eq,Ffl_la_F]
    rw [decide_eq_true (by simp only [len]; omega),cond_true,cat_ok (by simp only [List.length_singleton]; omega),Option.bind_some,pad_done _ _ _ (by simp only [List.singleton_append,List.length_cons]; omega),if_pos h1]
    rfl
  · have hl : (Lib.decDigits n).length=2:=by rw [Lib.decDigits_length]; exact Lib.nDigits_unique 1 n (by omega) (by omega)
    rw [pad_done _ _ _ (by omega),if_neg h1]
    rfl
theorem impl_four (n : Nat) (h : 1000 ≤ n) (h2 : n < 10000) : Ffl (n : Int) 4=some (Lib.decDigits n):=by
  unfold Ffl
  rw [itoa_val n (by omega),Option.bind_some]
  have hl : (Lib.decDigits n).length=4:=by rw [Lib.decDigits_length]; exact Lib.nDigits_unique 3 n (by omega) (by omega)
  rw [pad_done _ _ _ (by omega)]
  rfl
/-- The text of a day,the same in both. -/
theorem date_text (day : Int) (hd : 0 ≤ day) (hd2 : day ≤ 36524) : ∃ t : Str,Ffbd day=some t ∧ Fff day=some t ∧ t.length ≤ 100:=by
  obtain ⟨Y,M,D,h1,h2,h3,h4,h5,h6,h7,h8⟩:=dates day hd hd2
  have hm:=mlen_le Y ((M + 1 : Nat) : Int)
  obtain ⟨y,rfl⟩ : ∃ y : Nat,Y=y:=⟨Y.toNat,by omega⟩
  obtain ⟨d,rfl⟩ : ∃ d : Nat,D=d:=⟨D.toNat,by omega⟩
  have l1:=dec_len y (by omega)
  have l2:=two_len (M + 1) (by omega)
  have l3:=two_len d (by omega)
  refine ⟨Lib.decDigits y ++ [45] ++ two (M + 1) ++ [45] ++ two d,?_,?_,by simp only [List.length_append,List.length_singleton]; omega⟩
  · unfold Ffbd
    rw [h1,Option.bind_some]
    simp only
    rw [num_val y (by omega),spec_two (M + 1) (by omega),spec_two d (by omega)]
    simp only [Option.bind_some]
    rw [cat_ok (by simp only [List.length_singleton]; omega),Option.bind_some,cat_ok (by simp only [List.length_append,List.length_singleton]; omega),Option.bind_some,cat_ok (by simp only [List.length_append,List.length_singleton]; omega),Option.bind_some,cat_ok (by simp only [List.length_append,List.length_singleton]; omega)]
    rfl
  · unfold Fff
    rw [h2,Option.bind_some]
    simp only
    rw [impl_four y (by omega) (by omega),impl_two (M + 1) (by omega),impl_two d (by omega)]
    simp only [Option.bind_some]
    rw [cat_ok (by simp only [List.length_singleton]; omega),Option.bind_some,cat_ok (by simp only [List.length_append,List.length_singleton]; omega),Option.bind_some,cat_ok (by simp only [List.length_append,List.length_singleton]; omega),Option.bind_some,cat_ok (by simp only [List.length_append,List.length_singleton]; omega)]
    rfl
theorem amount_text (x : Int) (h : 0 ≤ x) (h2 : x ≤ 100000000) : ∃ t : Str,Ffy x=some t ∧ Ffc x=some t ∧ t.length ≤ 100:=by
  obtain ⟨n,rfl⟩ : ∃ n : Nat,x=n:=⟨x.toNat,by omega⟩
  have e1 : ((n : Int).tdiv 100)=((n / 100 : Nat) : Int):=by rw [Int.tdiv_eq_ediv_of_nonneg (by omega)]; omega
  have e2 : ((n : Int).tmod 100)=((n % 100 : Nat) : Int):=by rw [Int.tmod_eq_emod_of_nonneg (by omega)]; omega
  have e3 : w64 (0 - (n : Int))=-(n : Int):=by rw [w64_id (by omega) (by omega)]; omega
  have l1:=dec_len (n / 100) (by omega)
  have l2:=two_len (n % 100) (by omega)
  have l3:=dec_len (n % 100) (by omega)
  refine ⟨Lib.decDigits (n / 100) ++ [46] ++ two (n % 100),?_,?_,by simp only [List.length_append,List.length_singleton]; omega⟩
  · unfold Ffy
    rw [decide_eq_false (by omega),cond_false,letJ_eq]
    simp only [e1,e2]
    rw [w64_id (by omega) (by omega),num_val (n / 100) (by omega),num_val (n % 100) (by omega)]
    simp only [Option.bind_some]
    rw [cat_ok (by simp only [List.length_nil]; omega),Option.bind_some,cat_ok (by simp only [List.length_append,List.length_nil,List.length_singleton]; omega),Option.bind_some]
    unfold two
    by_cases h1 : n % 100 < 10
    · rw [decide_eq_true (by omega),cond_true,cat_ok (by simp only [List.length_append,List.length_nil,List.length_singleton]; omega),Option.bind_some,bindJ_inr,cat_ok (by simp only [List.length_append,List.length_nil,List.length_singleton]; omega),if_pos h1]
      simp
    · rw [decide_eq_false (by omega),cond_false,bindJ_inr,cat_ok (by simp only [List.length_append,List.length_nil,List.length_singleton]; omega),if_neg h1]
      simp
  · unfold Ffc impl_size
    rw [decide_eq_false (by omega),cond_false,letJ_eq]
    simp only [e3,Option.bind_some]
    have e4 : (if -(n : Int) > n then -(n : Int) else n)=n:=by split <;> omega
    rw [e4]
    simp only [e1,e2]
    rw [w64_id (by omega) (by omega),itoa_val (n / 100) (by omega),impl_two (n % 100) (by omega)]
    simp only [Option.bind_some]
    rw [cat_ok (by simp only [List.length_nil]; omega),Option.bind_some,cat_ok (by simp only [List.length_append,List.length_nil,List.length_singleton]; omega),Option.bind_some,cat_ok (by simp only [List.length_append,List.length_nil,List.length_singleton]; omega)]
    simp
/-! the text of an event -/
theorem ev_text (e : Event) (ps : List Str) (hs : sm_Event e) (hp : smL smS ps) (hv : evB (len ps) e=true) : ∃ t : Str,Ffbj e ps=some t ∧ Ffi e ps=some t ∧ t.length ≤ 3000000:=by
  have h1:=hp.1
  simp only [evB,inB,Bool.and_eq_true,decide_eq_true_eq] at hv
  obtain ⟨⟨d1,d2⟩,⟨p1,p2⟩,hn,a1,a2⟩:=hv
  rw [w64_id (by simp only [len]; omega) (by simp only [len]; omega)] at p2
  obtain ⟨t,t1,t2,t3⟩:=date_text e.Day d1 d2
  obtain ⟨m,m1,m2,m3⟩:=amount_text e.Amount a1 (by omega)
  obtain ⟨k,hk⟩ : ∃ k : Nat,e.Party=k:=⟨e.Party.toNat,by omega⟩
  have hlt : k < ps.length:=by simp only [len] at p2; omega
  have hg : getI ps e.Party=some ps[k]:=by rw [hk,getI_nat,List.getElem?_eq_getElem hlt]
  have l1 : ps[k].length ≤ 1048576:=hp.2 _ (List.getElem_mem hlt)
  have l2 : e.Action.length ≤ 1048576:=hs.2.2.1
  have c1 : catS t ([32] : Str)=some (t ++ [32]):=cat_ok (by simp only [List.length_singleton]; omega)
  have c2 : catS (t ++ [32]) ps[k]=some (t ++ [32] ++ ps[k]):=cat_ok (by simp only [List.length_append,List.length_singleton]; omega)
  have c3 : catS (t ++ [32] ++ ps[k]) ([32,100,111,101,115,32] : Str)=some (t ++ [32] ++ ps[k] ++ [32,100,111,101,115,32]):=cat_ok (by simp only [List.length_append,List.length_cons,List.length_nil]; omega)
  have c4 : catS (t ++ [32] ++ ps[k] ++ [32,100,111,101,115,32]) e.Action=some (t ++ [32] ++ ps[k] ++ [32,100,111,101,115,32] ++ e.Action):=cat_ok (by simp only [List.length_append,List.length_cons,List.length_nil]; omega)
  have hl : (t ++ [32] ++ ps[k] ++ [32,100,111,101,115,32] ++ e.Action).length ≤ 2500000:=by simp only [List.length_append,List.length_cons,List.length_nil]; omega
  generalize hs8 : t ++ [32] ++ ps[k] ++ [32,100,111,101,115,32] ++ e.Action=s8 at c4 hl
  have c5 : catS s8 ([32,112,97,121,105,110,103,32] : Str)=some (s8 ++ [32,112,97,121,105,110,103,32]):=cat_ok (by simp only [List.length_append,List.length_cons,List.length_nil]; omega)
  have c6 : catS (s8 ++ [32,112,97,121,105,110,103,32]) m=some (s8 ++ [32,112,97,121,105,110,103,32] ++ m):=cat_ok (by simp only [List.length_append,List.length_cons,List.length_nil]; omega)
  have c7 : catS ([32,112,97,121,105,110,103,32] : Str) m=some ([32,112,97,121,105,110,103,32] ++ m):=cat_ok (by simp only [List.length_append,List.length_cons,List.length_nil]; omega)
  have c8 : catS s8 ([32,112,97,121,105,110,103,32] ++ m)=some (s8 ++ ([32,112,97,121,105,110,103,32] ++ m)):=cat_ok (by simp only [List.length_append,List.length_cons,List.length_nil]; omega)
  unfold Ffbj Ffi
  simp only [t1,t2,hg,m1,m2,Option.bind_some,c1,c2,c3,c4,c5,c6,c7,c8]
  by_cases h : e.Amount > 0
  · rw [decide_eq_true h]
    simp only [cond_true,bindJ_inr]
    refine ⟨_,rfl,by rw [List.append_assoc _ _ m],by simp only [List.length_append,List.length_cons,List.length_nil]; omega⟩
  · rw [decide_eq_false h]
    simp only [cond_false,bindJ_inr]
    exact ⟨_,rfl,rfl,by omega⟩
theorem format_ev (e : Event) (ps : List Str) (hs : sm_Event e) (hp : smL smS ps) : ∃ r,Ffw e ps=some r ∧ Ffa e ps=some r:=by
  unfold Ffw Ffa Ffbk
  rw [spec_par ps [] hp,impl_par ps hp,spec_ev e _ hs,impl_ev e _ hs]
  cases hb : parsB ps with
  | false=>exact ⟨_,rfl,rfl⟩
  | true =>
    cases hv : evB (len ps) e with
    | false=>exact ⟨_,rfl,rfl⟩
    | true =>
      obtain ⟨t,t1,t2,_⟩:=ev_text e ps hs hp hv
      rw [t1,t2]
      exact ⟨_,rfl,rfl⟩
theorem law_FnExactFormatEvent (e : Event) (he : ok_Event e) (ps : List Str) (hps : okL okS ps) : laws_FnExactFormatEvent e ps=some true:=by
  unfold laws_FnExactFormatEvent
  obtain ⟨r1,e1,q1⟩:=sz_Event e he (l:=1048576) (by decide) (by decide)
  rw [e1,Option.bind_some]
  rcases q1 with q1 | ⟨q1,p1,s1⟩
  · rw [decide_eq_true q1,cond_true]
  rw [decide_eq_false (by omega),cond_false]
  obtain ⟨r2,e2,q2⟩:=sz_StringS ps hps (l:=r1) (by omega) (by omega)
  rw [e2,Option.bind_some]
  rcases q2 with q2 | ⟨q2,p2,s2⟩
  · rw [decide_eq_true q2,cond_true]
  rw [decide_eq_false (by omega),cond_false]
  obtain ⟨r,g1,g2⟩:=format_ev e ps s1 s2
  simp only [to_Event e s1,to_StringS ps s2,Option.bind_some,g1,g2,eq_StringS ps s2,beq_self_eq_true,Bool.not_true,letJ_eq,cond_false]
end Go.Ln
