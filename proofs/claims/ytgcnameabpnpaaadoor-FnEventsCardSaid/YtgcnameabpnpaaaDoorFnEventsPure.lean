/-
  The plain law: the plain functions answer true.
-/
import Derived.Test.YtgcnameabpnpaaaDoorFnEventsLib
import Derived.Sort.AssemblyPlain
import Derived.Sort.LotD4
import Derived.Sort.LotD5
set_option linter.unusedVariables false
set_option linter.unusedSimpArgs false
set_option maxRecDepth 100000
namespace Go.Ln
open Go
/-! events compared -/
def cmpE (a b : Event) : Int :=
  if a.Day=b.Day then (if a.Party=b.Party then (if Op.bytesLess a.Action b.Action=true then -1 else if a.Action=b.Action then (if a.Amount < b.Amount then -1 else if b.Amount < a.Amount then 1 else 0) else 1) else if a.Party < b.Party then -1 else 1) else if a.Day < b.Day then -1 else 1
theorem Ffa_val (x y : Int) : Ffa x y=some (if x < y then -1 else if y < x then 1 else 0):=by
  simp only [Ffa,Ffd,Option.bind_some,bne_self_eq_false,cond_false]
  by_cases h : x < y
  · simp [h]
  · by_cases h' : y < x <;> simp [h,h']
theorem Ffb_val (x y : Str) : Ffb x y=some (if Op.bytesLess x y then -1 else if x=y then 0 else 1):=by
  simp only [Ffb,Ffe,Option.bind_some,beq_self_eq_true,Bool.not_true,cond_false]
  cases h : Op.bytesLess x y
  · by_cases h' : x=y <;> simp [h',str_beq]
  · simp
theorem cmp_Or_nat (xs : List Int) (h : xs.length < 9223372036854775807) : ∀ (k i : Nat),i + k=xs.length→Ffc_la xs (i : Int)=some (match (xs.drop i).find? (· != 0) with | some y=>.inl y | none=>.inr ())
  | 0,i,hi=>by
    rw [Ffc_la_eq,Ffc_la_F,lt_len]
    simp [show ¬ i < xs.length by omega,List.drop_eq_nil_of_le (show xs.length ≤ i by omega)]
  | k + 1,i,hi=>by
    have hlt : i < xs.length:=by omega
    rw [Ffc_la_eq,Ffc_la_F,lt_len,getI_nat,List.getElem?_eq_getElem hlt,w64_succ (by omega),cmp_Or_nat xs h k (i + 1) (by omega),List.drop_eq_getElem_cons hlt,List.find?_cons]
    cases hx : (xs[i] != 0) <;> simp [hlt,hx]
theorem cmp_Or_four (a b c d : Int) : Ffc [a,b,c,d]=some (if a ≠ 0 then a else if b ≠ 0 then b else if c ≠ 0 then c else d):=by
  have:=cmp_Or_nat [a,b,c,d] (by simp) 4 0 rfl
  unfold Ffc
  rw [show (0 : Int)=((0 : Nat) : Int) from rfl,this]
  by_cases ha : a=0 <;> by_cases hb : b=0 <;> by_cases hc : c=0 <;> by_cases hd : d=0 <;> simp [ha,hb,hc,hd]
theorem impl_cmp (a b : Event) : Fff a b=some (cmpE a b):=by
  simp only [Fff,Ffa_val,Ffb_val,Option.bind_some,cmp_Or_four,cmpE]
  by_cases h1 : a.Day=b.Day
  · by_cases h2 : a.Party=b.Party
    · cases h3 : Op.bytesLess a.Action b.Action
      · by_cases h4 : a.Action=b.Action <;> simp [h1,h2,h3,h4]
      · simp [h1,h2,h3]
    · by_cases h5 : a.Party < b.Party
      · simp [h1,h2,h5]
      · simp [h1,h2,h5,show b.Party < a.Party by omega]
  · by_cases h5 : a.Day < b.Day
    · simp [h1,h5]
    · simp [h1,h5,show b.Day < a.Day by omega]
theorem spec_cmp (a b : Event) : Ffcm a b=some (cmpE a b):=by
  simp only [Ffcm,cmpE,int_bne,str_beq]
  by_cases h1 : a.Day=b.Day
  · by_cases h2 : a.Party=b.Party
    · cases h3 : Op.bytesLess a.Action b.Action
      · by_cases h4 : a.Action=b.Action
        · by_cases h5 : a.Amount < b.Amount
          · simp [h1,h2,h4,h5]
          · by_cases h6 : b.Amount < a.Amount <;> simp [h1,h2,h4,h5,h6]
        · simp [h1,h2,h4]
      · simp [h1,h2]
    · by_cases h5 : a.Party < b.Party
      · simp [h1,h2,h5]
      · simp [h1,h2,h5,show b.Party < a.Party by omega]
  · by_cases h5 : a.Day < b.Day
    · simp [h1,h5]
    · simp [h1,h5,show b.Day < a.Day by omega]
theorem cmpE_anti (a b : Event) : cmpE b a=- cmpE a b:=by
  unfold cmpE
  have ht:=less_tri a.Action b.Action
  by_cases h1 : a.Day=b.Day
  · by_cases h2 : a.Party=b.Party
    · rw [if_pos h1.symm,if_pos h2.symm,if_pos h1,if_pos h2,← ht]
      cases h3 : Op.bytesLess a.Action b.Action
      · by_cases h4 : a.Action=b.Action
        · simp only [h4,beq_self_eq_true,Bool.or_true,Bool.not_true,Bool.false_eq_true,if_false,if_true]
          split <;> split <;> first | rfl | omega
        · have h5 : (a.Action == b.Action)=false:=by simpa using h4
          simp [h4,h5,fun h : b.Action=a.Action=>h4 h.symm]
      · by_cases h4 : a.Action=b.Action
        · have h6:=less_tri b.Action a.Action
          rw [h4] at h3 h6
          rw [h3] at h6
          simp at h6
        · simp only [Bool.true_or,Bool.not_true,Bool.false_eq_true,if_false,if_true,if_neg (fun h : b.Action=a.Action=>h4 h.symm)]
          rfl
    · rw [if_pos h1.symm,if_neg (fun h=>h2 h.symm),if_pos h1,if_neg h2]
      split <;> split <;> first | rfl | omega
  · rw [if_neg (fun h=>h1 h.symm),if_neg h1]
    split <;> split <;> first | rfl | omega

/-! names -/
def signB (c : UInt8) : Bool:=(decide (97 ≤ c.toNat) && decide (c.toNat ≤ 122)) || (decide (48 ≤ c.toNat) && decide (c.toNat ≤ 57))
theorem spec_sign (c : UInt8) : Ffcl (c.toNat : Int)=some (signB c):=by
  simp only [Ffcl,signB,letJ_eq]
  by_cases h1 : 97 ≤ c.toNat <;> by_cases h2 : c.toNat ≤ 122 <;> by_cases h3 : 48 ≤ c.toNat <;> by_cases h4 : c.toNat ≤ 57 <;> simp [h1,h2,h3,h4,show ((97 : Int) ≤ c.toNat) ↔ 97 ≤ c.toNat by omega,show ((c.toNat : Int) ≤ 122) ↔ c.toNat ≤ 122 by omega,show ((48 : Int) ≤ c.toNat) ↔ 48 ≤ c.toNat by omega,show ((c.toNat : Int) ≤ 57) ↔ c.toNat ≤ 57 by omega]
def words : List Str:=[[116,114,117,101],[102,114,111,109],[110,111,116],[97,110,100],[111,114],[98,111,116,104],[101,105,116,104,101,114],[105,116],[105,110]]
def nameB (s : Str) : Bool:=match s with
  | []=>false
  | c :: r=>decide (r.length < 8) && decide (97 ≤ c.toNat) && decide (c.toNat ≤ 122) && s.all signB && !words.contains s
theorem cond_or (b x : Bool) : (bif b then b else x)=(b || x):=by cases b <;> rfl
theorem split_words : Ffct [116,114,117,101,32,102,114,111,109,32,110,111,116,32,97,110,100,32,111,114,32,98,111,116,104,32,101,105,116,104,101,114,32,105,116,32,105,110] [32]=some words:=by
  have h : Ffcu_la [116,114,117,101,32,102,114,111,109,32,110,111,116,32,97,110,100,32,111,114,32,98,111,116,104,32,101,105,116,104,101,114,32,105,116,32,105,110] [32] 0 (-1) 9 ([116,114,117,101,32,102,114,111,109,32,110,111,116,32,97,110,100,32,111,114,32,98,111,116,104,32,101,105,116,104,101,114,32,105,116,32,105,110],0,List.replicate 9 [])=some (.inr ([105,110],8,[[116,114,117,101],[102,114,111,109],[110,111,116],[97,110,100],[111,114],[98,111,116,104],[101,105,116,104,101,114],[105,116],[]])) :=
    (fixO_iff (fun a=>(Ffcu_la_fin _ _ _ _ _ a).1)).2 ⟨20,by decide +kernel⟩
  have e : Ffct [116,114,117,101,32,102,114,111,109,32,110,111,116,32,97,110,100,32,111,114,32,98,111,116,104,32,101,105,116,104,101,114,32,105,116,32,105,110] [32]=(bindJ (Ffcu_la [116,114,117,101,32,102,114,111,109,32,110,111,116,32,97,110,100,32,111,114,32,98,111,116,104,32,101,105,116,104,101,114,32,105,116,32,105,110] [32] 0 (-1) 9 ([116,114,117,101,32,102,114,111,109,32,110,111,116,32,97,110,100,32,111,114,32,98,111,116,104,32,101,105,116,104,101,114,32,105,116,32,105,110],0,List.replicate 9 [])) fun u12 : Str × Int × (List Str)=>(getI u12.2.2 u12.2.1).bind fun e13=>(subP (setI u12.2.2 u12.2.1 u12.1).length 0 (w64 (u12.2.1 + 1))).bind fun s14=>(partP (setI u12.2.2 u12.2.1 u12.1) (0 + Int.toNat (0)) (Int.toNat ((w64 (u12.2.1 + 1))) - Int.toNat (0))).bind fun p15=>some p15).bind fun r=>some r:=by rfl
  rw [e,h]
  rfl
theorem contains_words (s : Str) : Ffy words s=some (words.contains s):=by
  unfold Ffy Ffba
  rw [idxLoop (L:=Ffba_la words s) (a:=words) (p:=fun e=>some (s == e)) (q:=fun e=>s == e) (fun _ _=>rfl) (fun x=>by rw [Ffba_la_eq,Ffba_la_F] <;> rfl) (by decide)]
  cases h : words.findIdx? (fun e=>s == e) with
  | none =>
    have : words.contains s=false:=by
      rw [List.findIdx?_eq_none_iff] at h
      rw [Bool.eq_false_iff]
      intro hc
      rw [List.contains_iff_exists_mem_beq] at hc
      obtain ⟨w,hw,he⟩:=hc
      rw [h w hw] at he
      cases he
    rw [this]
    rfl
  | some i =>
    have : words.contains s=true:=by
      rw [List.findIdx?_eq_some_iff_getElem] at h
      obtain ⟨hi,he,_⟩:=h
      rw [List.contains_iff_exists_mem_beq]
      exact ⟨_,List.getElem_mem hi,he⟩
    rw [this]
    simp
theorem spec_words (s : Str) : (bif s == [116,114,117,101] then s == [116,114,117,101] else bif s == [102,114,111,109] then s == [102,114,111,109] else bif s == [110,111,116] then s == [110,111,116] else bif s == [97,110,100] then s == [97,110,100] else bif s == [111,114] then s == [111,114] else bif s == [98,111,116,104] then s == [98,111,116,104] else bif s == [101,105,116,104,101,114] then s == [101,105,116,104,101,114] else bif s == [105,116] then s == [105,116] else s == [105,110])=words.contains s:=by
  simp only [cond_or,words,List.contains_cons,List.contains_nil,Bool.or_false]
theorem spec_name (s : Str) (hs : s.length ≤ 1048576) : Ffck s=some (nameB s):=by
  unfold Ffck spec_l1In nameB
  simp only [letJ_eq,Option.bind_some,spec_words]
  cases s with
  | nil=>rfl
  | cons c r =>
    have e1 : decide (len (c :: r) ≥ 1)=true:=decide_eq_true (by simp [len]; omega)
    have e2 : decide (len (c :: r) ≤ 8)=decide (r.length < 8):=by simp only [len,List.length_cons]; congr 1; apply propext; omega
    have e3 : getI (c :: r) (0 : Int)=some c:=rfl
    have e4 : decide ((c.toNat : Int) < 97)=!decide (97 ≤ c.toNat):=by rw [← decide_not]; congr 1; apply propext; omega
    have e5 : decide ((c.toNat : Int) > 122)=!decide (c.toNat ≤ 122):=by rw [← decide_not]; congr 1; apply propext; omega
    rw [e1,e2,e3,anyLoop (r:=false) (L:=Ffck_la (c :: r)) (a:=c :: r) (p:=fun c=>(Ffcl (c.toNat : Int)).bind fun r=>some (!r)) (q:=fun c=>!signB c) (fun x _=>by rw [spec_sign]; rfl) (fun x=>by rw [Ffck_la_eq,Ffck_la_F]; simp only [Option.bind_assoc,Option.bind_some]) (by omega)]
    simp only [cond_true,Option.bind_some,e4,e5]
    have e6 : ((c :: r).any fun c=>!signB c)=!((c :: r).all signB):=by rw [List.not_all_eq_any_not]
    rw [e6]
    cases decide (r.length < 8) <;> cases decide (97 ≤ c.toNat) <;> cases decide (c.toNat ≤ 122) <;> cases (c :: r).all signB <;> cases words.contains (c :: r) <;> rfl
theorem impl_name (s : Str) (hs : s.length ≤ 1048576) : Ffi s=some (nameB s):=by
  unfold Ffi Ffq nameB
  simp only [letJ_eq,Option.bind_some,split_words,contains_words]
  cases s with
  | nil=>rfl
  | cons c r =>
    have e1 : decide (len (c :: r) ≥ 1)=true:=decide_eq_true (by simp [len]; omega)
    have e2 : decide (len (c :: r) ≤ 8)=decide (r.length < 8):=by simp only [len,List.length_cons]; congr 1; apply propext; omega
    have e3 : getI (c :: r) (0 : Int)=some c:=rfl
    have e4 : decide ((c.toNat : Int) < 97)=!decide (97 ≤ c.toNat):=by rw [← decide_not]; congr 1; apply propext; omega
    have e5 : decide ((c.toNat : Int) > 122)=!decide (c.toNat ≤ 122):=by rw [← decide_not]; congr 1; apply propext; omega
    have hp : ∀ c : UInt8,(bif decide ((c.toNat : Int) < 97) then (bif decide ((c.toNat : Int) < 48) then true else decide ((c.toNat : Int) > 57)) else (bif decide ((c.toNat : Int) > 122) then (bif decide ((c.toNat : Int) < 48) then true else decide ((c.toNat : Int) > 57)) else false))=!signB c:=by
      intro c
      have f1 : decide ((c.toNat : Int) < 97)=!decide (97 ≤ c.toNat):=by rw [← decide_not]; congr 1; apply propext; omega
      have f2 : decide ((c.toNat : Int) > 122)=!decide (c.toNat ≤ 122):=by rw [← decide_not]; congr 1; apply propext; omega
      have f3 : decide ((c.toNat : Int) < 48)=!decide (48 ≤ c.toNat):=by rw [← decide_not]; congr 1; apply propext; omega
      have f4 : decide ((c.toNat : Int) > 57)=!decide (c.toNat ≤ 57):=by rw [← decide_not]; congr 1; apply propext; omega
      rw [f1,f2,f3,f4]
      unfold signB
      by_cases g1 : 97 ≤ c.toNat
      · have g3 : 48 ≤ c.toNat:=by omega
        have g4 : ¬ c.toNat ≤ 57:=by omega
        simp only [g1,g3,g4,decide_true,decide_false]
        cases decide (c.toNat ≤ 122) <;> rfl
      · simp only [g1,decide_false]
        cases decide (48 ≤ c.toNat) <;> cases decide (c.toNat ≤ 57) <;> rfl
    rw [e1,e2,e3,anyLoop (r:=false) (L:=Ffi_la (c :: r)) (a:=c :: r) (p:=fun c=>some (!signB c)) (q:=fun c=>!signB c) (fun x _=>rfl) (fun x=>by rw [Ffi_la_eq,Ffi_la_F]; simp only [letJ_eq,hp,Option.bind_some]) (by omega)]
    simp only [cond_true,Option.bind_some,e4,e5]
    have e6 : ((c :: r).any fun c=>!signB c)=!((c :: r).all signB):=by rw [List.not_all_eq_any_not]
    rw [e6]
    cases decide (r.length < 8) <;> cases decide (97 ≤ c.toNat) <;> cases decide (c.toNat ≤ 122) <;> cases (c :: r).all signB <;> cases words.contains (c :: r) <;> rfl

/-! events -/
theorem cond_and (b x : Bool) : (bif b then x else false)=(b && x):=by cases b <;> rfl
def inB (x a b : Int) : Bool:=decide (x ≥ a) && decide (x ≤ b)
theorem spec_in (x a b : Int) : spec_l1In x a b=some (inB x a b):=by simp only [spec_l1In,letJ_eq,cond_and,inB]
theorem impl_in (x a b : Int) : Ffq x a b=some (inB x a b):=by simp only [Ffq,letJ_eq,cond_and,inB]
def evB (p : Int) (e : Event) : Bool:=inB e.Day 0 36524 && (inB e.Party 0 (w64 (p - 1)) && (nameB e.Action && inB e.Amount 0 1000000))
theorem spec_ev (e : Event) (p : Int) (h : sm_Event e) : Ffcn e p=some (evB p e):=by
  simp only [Ffcn,Ffci,spec_in,spec_name _ h.2.2.1,Option.bind_some,evB]
  cases inB e.Day 0 36524 <;> cases inB e.Party 0 (w64 (p - 1)) <;> cases nameB e.Action <;> rfl
theorem impl_ev (e : Event) (p : Int) (h : sm_Event e) : Ffp e p=some (evB p e):=by
  simp only [Ffp,Ffo,impl_in,impl_name _ h.2.2.1,Option.bind_some,evB]
  cases inB e.Day 0 36524 <;> cases inB e.Party 0 (w64 (p - 1)) <;> cases nameB e.Action <;> rfl
theorem findIdx_any {α : Type} {q : α→Bool} (a : List α) : (match a.findIdx? q with | some i=>decide ((i : Int) ≥ 0) | none=>decide ((-1 : Int) ≥ 0))=a.any q:=by
  cases h : a.findIdx? q with
  | none =>
    have : a.any q=false:=by
      rw [List.findIdx?_eq_none_iff] at h
      rw [List.any_eq_false]
      intro x hx
      simp [h x hx]
    rw [this]; rfl
  | some i =>
    have : a.any q=true:=by
      rw [List.findIdx?_eq_some_iff_getElem] at h
      obtain ⟨hi,he,_⟩:=h
      rw [List.any_eq_true]
      exact ⟨_,List.getElem_mem hi,he⟩
    rw [this]; simp
theorem impl_bad (a : List Event) (p : Int) (h : smL sm_Event a) : Ffx a p=some (a.any fun e=>!evB p e):=by
  unfold Ffx Ffz
  rw [idxLoop (L:=Ffz_la a p) (a:=a) (p:=fun e=>Ffn e p) (q:=fun e=>!evB p e) (fun x hx=>by simp only [Ffn,impl_ev x p (h.2 x hx),Option.bind_some]) (fun x=>by rw [Ffz_la_eq,Ffz_la_F]) (by have:=h.1; omega),← findIdx_any]
  cases a.findIdx? (fun e=>!evB p e) <;> rfl
theorem impl_are (a : List Event) (p : Int) (h : smL sm_Event a) : Ffm a p=some (inB p 2 4 && (decide (a.length ≤ 40) && !(a.any fun e=>!evB p e))):=by
  simp only [Ffm,impl_in,impl_bad a p h,Option.bind_some,show decide (len a ≤ 40)=decide (a.length ≤ 40) from by congr 1; apply propext; show (a.length : Int) ≤ 40 ↔ _; omega]
  cases inB p 2 4 <;> cases decide (a.length ≤ 40) <;> rfl

/-! lists of events -/
def adjB (a : List Event) (j : Nat) : Bool:=match a[j]?,a[j + 1]? with
  | some x,some y=>decide (cmpE x y > 0)
  | _,_=>false
def anyFrom (q : Nat→Bool) : Nat→Nat→Bool
  | _,0=>false
  | k,n + 1=>q k || anyFrom q (k + 1) n
def anyDown (q : Nat→Bool) : Nat→Bool
  | 0=>false
  | n + 1=>q n || anyDown q n
theorem anyDown_iff {q : Nat→Bool} : ∀ {n : Nat},anyDown q n=true ↔ ∃ j,j < n ∧ q j=true
  | 0=>by simp [anyDown]
  | n + 1=>by
    rw [anyDown,Bool.or_eq_true,anyDown_iff]
    constructor
    · rintro (h | ⟨j,h1,h2⟩)
      · exact ⟨n,by omega,h⟩
      · exact ⟨j,by omega,h2⟩
    · rintro ⟨j,h1,h2⟩
      by_cases e : j=n
      · subst e; exact .inl h2
      · exact .inr ⟨j,by omega,h2⟩
theorem anyFrom_iff {q : Nat→Bool} : ∀ {n k : Nat},anyFrom q k n=true ↔ ∃ j,k ≤ j ∧ j < k + n ∧ q j=true
  | 0,k=>by
    simp only [anyFrom,Bool.false_eq_true,false_iff]
    rintro ⟨j,h1,h2,_⟩
    omega
  | n + 1,k=>by
    rw [anyFrom,Bool.or_eq_true,anyFrom_iff]
    constructor
    · rintro (h | ⟨j,h1,h2,h3⟩)
      · exact ⟨k,by omega,by omega,h⟩
      · exact ⟨j,by omega,by omega,h3⟩
    · rintro ⟨j,h1,h2,h3⟩
      by_cases e : j=k
      · subst e; exact .inl h3
      · exact .inr ⟨j,by omega,by omega,h3⟩
theorem any_same {q : Nat→Bool} {n : Nat} : anyFrom q 0 n=anyDown q n:=by
  rw [Bool.eq_iff_iff,anyFrom_iff,anyDown_iff]
  constructor
  · rintro ⟨j,_,h,h2⟩; exact ⟨j,by omega,h2⟩
  · rintro ⟨j,h,h2⟩; exact ⟨j,by omega,by omega,h2⟩
theorem valid_tot (a : List Event) (p : Int) (hs : smL sm_Event a) : ∀ (n i : Nat),i + n=41→∃ y,Ffcq_la a p (i : Int)=some y ∧ (y=.inl false ∨ y=.inr ())
  | n,i,hi=>by
    rw [Ffcq_la_eq,Ffcq_la_F,letJ_eq,lt_len]
    by_cases h1 : i < a.length
    · rw [decide_eq_true h1,cond_true]
      by_cases h2 : i ≤ 40
      · rw [decide_eq_true (by omega),cond_true,getI_nat,List.getElem?_eq_getElem h1,Option.bind_some,spec_ev _ p (hs.2 _ (List.getElem_mem h1)),Option.bind_some,w64_succ (by omega)]
        cases evB p a[i]
        · exact ⟨_,rfl,.inl rfl⟩
        · match n,hi with
          | n + 1,hi=>exact valid_tot a p hs n (i + 1) (by omega)
          | 0,hi=>omega
      · rw [decide_eq_false (by omega),cond_false]
        exact ⟨_,rfl,.inr rfl⟩
    · rw [decide_eq_false h1,cond_false,cond_false]
      exact ⟨_,rfl,.inr rfl⟩
theorem valid_val (a : List Event) (p : Int) (hs : smL sm_Event a) (ha : a.length ≤ 40) : Ffcq_la a p 0=some (bif a.any (fun e=>!evB p e) then .inl false else .inr ()):=by
  refine anyLoop (p:=fun e=>(Ffcn e p).bind fun r=>some (!r)) (fun x hx=>by rw [spec_ev x p (hs.2 x hx)]; rfl) (fun x=>?_) (by omega)
  rw [Ffcq_la_eq,Ffcq_la_F,letJ_eq]
  by_cases h : x < len a
  · have h2 : x ≤ 40:=by
      have : x < (a.length : Int):=h
      omega
    rw [decide_eq_true h,cond_true,cond_true,decide_eq_true h2,cond_true]
    simp only [Option.bind_assoc,Option.bind_some]
  · rw [decide_eq_false h]
    rfl
theorem good_step (a : List Event) (p : Int) (i : Nat) (h1 : 1 ≤ i) (h2 : i < a.length) (h3 : i ≤ 40) : Ffco_la a p (i : Int)=bif adjB a (i - 1) then some (.inl false) else Ffco_la a p ((i + 1 : Nat) : Int):=by
  have e1 : decide ((i : Int) < len a)=true:=by rw [lt_len]; exact decide_eq_true h2
  have e2 : decide ((i : Int) ≤ 40)=true:=decide_eq_true (by omega)
  have e3 : w64 ((i : Int) - 1)=((i - 1 : Nat) : Int):=by rw [w64_id (by omega) (by omega)]; omega
  rw [Ffco_la_eq,Ffco_la_F,letJ_eq,e1,cond_true,e2,cond_true,e3,getI_nat,getI_nat,List.getElem?_eq_getElem (show i - 1 < a.length by omega),List.getElem?_eq_getElem h2,Option.bind_some,Option.bind_some,spec_cmp,Option.bind_some,w64_succ (by omega)]
  unfold adjB
  rw [List.getElem?_eq_getElem (show i - 1 < a.length by omega),show i - 1 + 1=i by omega,List.getElem?_eq_getElem h2]
theorem good_stop (a : List Event) (p : Int) (i : Nat) (h : a.length ≤ i ∨ 40 < i) : Ffco_la a p (i : Int)=some (.inr ()):=by
  rw [Ffco_la_eq,Ffco_la_F,letJ_eq,lt_len]
  by_cases h1 : i < a.length
  · rw [decide_eq_true h1,cond_true,decide_eq_false (by omega),cond_false]
  · rw [decide_eq_false h1,cond_false,cond_false]
theorem good_tot (a : List Event) (p : Int) : ∀ (n i : Nat),i + n=41→1 ≤ i→∃ y,Ffco_la a p (i : Int)=some y ∧ (y=.inl false ∨ y=.inr ())
  | 0,i,hi,h1=>⟨_,good_stop a p i (.inr (by omega)),.inr rfl⟩
  | n + 1,i,hi,h1=>by
    by_cases h2 : i < a.length
    · rw [good_step a p i h1 h2 (by omega)]
      cases adjB a (i - 1)
      · exact good_tot a p n (i + 1) (by omega) (by omega)
      · exact ⟨_,rfl,.inl rfl⟩
    · exact ⟨_,good_stop a p i (.inl (by omega)),.inr rfl⟩
theorem good_val (a : List Event) (p : Int) (ha : a.length ≤ 40) : ∀ (n i : Nat),i + n=a.length→1 ≤ i→Ffco_la a p (i : Int)=some (bif anyFrom (adjB a) (i - 1) n then .inl false else .inr ())
  | 0,i,hi,h1=>good_stop a p i (.inl (by omega))
  | n + 1,i,hi,h1=>by
    rw [good_step a p i h1 (by omega) (by omega),good_val a p ha n (i + 1) (by omega) (by omega),anyFrom,show i + 1 - 1=i - 1 + 1 by omega]
    cases adjB a (i - 1) <;> rfl
def validB (a : List Event) (p : Int) : Bool:=decide (a.length ≤ 40) && (inB p 2 4 && (!(a.any fun e=>!evB p e) && !(anyDown (adjB a) (a.length - 1))))
theorem spec_good (a : List Event) (p : Int) (hs : smL sm_Event a) : Ffco a p=some (validB a p):=by
  unfold Ffco Ffcq validB
  have el : decide (len a ≤ 40)=decide (a.length ≤ 40):=by congr 1; apply propext; show (a.length : Int) ≤ 40 ↔ _; omega
  rw [el]
  by_cases ha : a.length ≤ 40
  · rw [valid_val a p hs ha]
    have hg : Ffco_la a p 1=some (bif anyDown (adjB a) (a.length - 1) then .inl false else .inr ()):=by
      rw [← any_same]
      cases hl : a.length with
      | zero=>exact good_stop a p 1 (.inl (by omega))
      | succ n=>exact good_val a p ha n 1 (by omega) (Nat.le_refl _)
    rw [hg,decide_eq_true ha,spec_in]
    simp only [cond_true,Option.bind_some]
    cases anyDown (adjB a) (a.length - 1) <;> cases a.any (fun e=>!evB p e) <;> cases inB p 2 4 <;> rfl
  · obtain ⟨y1,e1,q1⟩:=good_tot a p 40 1 rfl (Nat.le_refl _)
    obtain ⟨y2,e2,q2⟩:=valid_tot a p hs 41 0 rfl
    rw [show Ffco_la a p 1=some y1 from e1,show Ffcq_la a p 0=some y2 from e2,decide_eq_false ha]
    rcases q1 with rfl | rfl <;> rcases q2 with rfl | rfl <;> rfl
theorem sorted_val (a : List Event) (hs : a.length ≤ 1048576) : ∀ (i : Nat),i < a.length→Ffbb_la a () (i : Int)=some (bif anyDown (adjB a) i then .inl false else .inr ())
  | 0,hi=>by
    rw [Ffbb_la_eq,Ffbb_la_F]
    rfl
  | i + 1,hi=>by
    have e3 : w64 (((i + 1 : Nat) : Int) - 1)=(i : Int):=by rw [w64_id (by omega) (by omega)]; omega
    rw [Ffbb_la_eq,Ffbb_la_F,decide_eq_true (by omega),cond_true,e3,getI_nat,getI_nat,List.getElem?_eq_getElem hi,List.getElem?_eq_getElem (show i < a.length by omega),Option.bind_some,Option.bind_some,impl_cmp,Option.bind_some,sorted_val a hs i (by omega),anyDown]
    have : adjB a i=decide (cmpE a[i + 1] a[i] < 0):=by
      unfold adjB
      rw [List.getElem?_eq_getElem hi,List.getElem?_eq_getElem (show i < a.length by omega)]
      show decide (cmpE a[i] a[i + 1] > 0)=_
      rw [cmpE_anti a[i] a[i + 1]]
      congr 1
      apply propext
      omega
    rw [this]
    cases decide (cmpE a[i + 1] a[i] < 0) <;> rfl
theorem impl_valid (a : List Event) (p : Int) (hs : smL sm_Event a) : Ffh a p=some (validB a p):=by
  unfold Ffh Ffbb validB
  rw [impl_are a p hs]
  have hg : Ffbb_la a () (w64 (len a - 1))=some (bif anyDown (adjB a) (a.length - 1) then .inl false else .inr ()):=by
    have hl:=hs.1
    cases h : a.length with
    | zero =>
      have : w64 (len a - 1)=-1:=by rw [show len a=0 from by show (a.length : Int)=0; omega]; decide
      rw [this,Ffbb_la_eq,Ffbb_la_F]
      rfl
    | succ n =>
      have : w64 (len a - 1)=(n : Int):=by rw [show len a=((n + 1 : Nat) : Int) from by show (a.length : Int)=_; omega,w64_id (by omega) (by omega)]; omega
      rw [this,sorted_val a hs.1 n (by omega)]
      rfl
  rw [hg]
  simp only [Option.bind_some]
  cases inB p 2 4 <;> cases decide (a.length ≤ 40) <;> cases a.any (fun e=>!evB p e) <;> cases anyDown (adjB a) (a.length - 1) <;> rfl
theorem appI_one {α : Type} {b : Nat} {xs : List α} {y : α} (h : (xs.length + 1) * b ≤ 1099511627776) (h2 : xs.length + 1 ≤ 1099511627776) : appI b xs [y]=some (xs ++ [y]):=by
  unfold appI
  rw [if_pos]
  simp only [List.length_cons,List.length_nil,lim,Nat.zero_add]
  omega
theorem len_le1 {α β : Type} {f : α→List β} (hf : ∀ x,(f x).length ≤ 1) : ∀ (xs : List α),(xs.flatMap f).length ≤ xs.length
  | []=>by simp
  | x :: xs=>by
    have h1:=hf x
    have h2:=len_le1 hf xs
    rw [List.flatMap_cons,List.length_append,List.length_cons]
    omega
theorem flatMap_filter' {α : Type} {p : α→Bool} : ∀ (xs : List α),(xs.flatMap fun x=>bif p x then [x] else [])=xs.filter p
  | []=>rfl
  | x :: xs=>by
    rw [List.flatMap_cons,flatMap_filter' xs,List.filter_cons]
    cases p x <;> rfl
theorem take_len {α : Type} {xs : List α} {n : Nat} : (xs.take n).length ≤ n:=by rw [List.length_take]; omega
theorem clone_ev (a : List Event) (ha : a.length ≤ 1048576) : Ffw a=some a:=by
  unfold Ffw nilO appI
  rw [if_pos (by simp only [List.length_nil,lim]; omega)]
  cases a <;> simp [bothO]
/-! pdqsort: the printed functions are the plain ones -/
open Go.Sort
instance : Inhabited Event:=⟨⟨0,0,[],0⟩⟩
def ltE (x y : Event) : Bool:=decide (cmpE x y < 0)
theorem gA {d : Array Event} {n : Nat} (h : n < d.size) : getI d.toList (n : Int)=some d[n]! := by
  rw [getI_nat]
  simp [h]
theorem sA {d : Array Event} {i j : Nat} : setI (setI d.toList (i : Int) d[j]!) (j : Int) d[i]! = (swp d i j).toList:=by
  rw [setI_nat,setI_nat]
  unfold swp
  simp
theorem gS {d : Array Event} {i j : Nat} {x : Event} (h : j < d.size) : ∃ y,getI (setI d.toList (i : Int) x) (j : Int)=some y:=by
  rw [getI_nat,setI_nat]
  exact ⟨_,List.getElem?_eq_getElem (by simpa using h)⟩
theorem gSb {d : Array Event} {j : Nat} (h : j < d.size) {β : Type} {I : Int} {x : Event} {k : Option β} : (getI (setI d.toList I x) (j : Int)).bind (fun _=>k)=k:=by
  rw [getI_nat]
  have : j < (setI d.toList I x).length:=by unfold setI; simpa using h
  rw [List.getElem?_eq_getElem this]
  rfl
theorem beqA {d d' : Array Event} (h : d'.size=d.size) : Nat.beq d'.toList.length d.toList.length=true:=by
  rw [Array.length_toList,Array.length_toList,h,Nat.beq_refl]
theorem insInner_size (a : Nat) : ∀ (j : Nat) (d : Array Event),(insInner ltE a j d).size=d.size
  | 0,d=>rfl
  | j + 1,d=>by
    unfold insInner
    split
    · rw [insInner_size,size_swp]
    · rfl
theorem ins_lb (D : List Event) (A B : Int) (a : Nat) (X : Int × Int × Int × List Event) (hX : X.1=(a : Int)) : ∀ (j : Nat) (d : Array Event),j < d.size→d.size ≤ 1048576→Ffbg_lb D A B () X ((j : Int),d.toList)=some (.inr (insInner ltE a j d).toList)
  | 0,d,hj,hs=>by
    rw [Ffbg_lb_eq,Ffbg_lb_F]
    rw [decide_eq_false (show ¬ ((0 : Nat) : Int) > X.1 by omega),cond_false,bindL_inr,cond_false]
    rfl
  | j + 1,d,hj,hs=>by
    have w : w64 (((j + 1 : Nat) : Int) - 1)=(j : Int):=by rw [w64_id (by omega) (by omega)]; omega
    rw [Ffbg_lb_eq,Ffbg_lb_F,insInner]
    simp only [w,gA hj,gA (show j < d.size by omega),Option.bind_some,impl_cmp,gSb (show j < d.size by omega),sA]
    by_cases h1 : j + 1 > a
    · rw [decide_eq_true (show ((j + 1 : Nat) : Int) > X.1 by omega),decide_eq_true h1,cond_true,bindL_inr,Bool.true_and]
      show (bif ltE d[j + 1]! d[j]! then _ else _)=_
      cases h2 : ltE d[j + 1]! d[j]! with
      | true=>rw [cond_true,if_pos rfl]; exact ins_lb D A B a X hX j _ (by rw [size_swp]; omega) (by rw [size_swp]; exact hs)
      | false=>rfl
    · rw [decide_eq_false (show ¬ ((j + 1 : Nat) : Int) > X.1 by omega),decide_eq_false h1,cond_false,bindL_inr,cond_false]
      rfl
theorem insOuter_size (a b : Nat) : ∀ (n i : Nat) (d : Array Event),b - i=n→(insOuter ltE a b i d).size=d.size
  | 0,i,d,h=>by rw [insOuter,if_neg (by omega)]
  | n + 1,i,d,h=>by rw [insOuter,if_pos (by omega),insOuter_size a b n (i + 1) _ (by omega),insInner_size]
theorem ins_la (D : List Event) (A B : Int) (a b : Nat) : ∀ (n i : Nat) (d : Array Event),b - i=n→b ≤ d.size→d.size ≤ 1048576→Ffbg_la D A B () ((a : Int),(b : Int),(i : Int),d.toList)=some (.inr (insOuter ltE a b i d).toList)
  | 0,i,d,h,hb,hs=>by
    rw [Ffbg_la_eq,Ffbg_la_F,insOuter,if_neg (by omega)]
    simp only [decide_eq_false (show ¬ (i : Int) < (b : Int) by omega),cond_false]
  | n + 1,i,d,h,hb,hs=>by
    rw [Ffbg_la_eq,Ffbg_la_F,insOuter,if_pos (by omega)]
    simp only [decide_eq_true (show (i : Int) < (b : Int) by omega),cond_true]
    rw [ins_lb D A B a _ rfl i d (by omega) hs,bindL_inr,w64_succ (by omega)]
    exact ins_la D A B a b n (i + 1) _ (by omega) (by rw [insInner_size]; exact hb) (by rw [insInner_size]; exact hs)
theorem gen_ins (d : Array Event) (a b : Nat) (hb : b ≤ d.size) (ha : a ≤ b) (hs : d.size ≤ 1048576) : Ffbg d.toList (a : Int) (b : Int) ()=some (insertionSort ltE d a b).toList:=by
  unfold Ffbg insertionSort
  rw [w64_succ (by omega),ins_la d.toList a b a b (b - (a + 1)) (a + 1) d rfl hb hs,bindJ_inr,beqA (insOuter_size a b _ _ _ rfl),cond_true]
theorem reverseLoop_size : ∀ (n i j : Nat) (d : Array Event),j - i ≤ n→(reverseLoop i j d).size=d.size
  | 0,i,j,d,h=>by rw [reverseLoop,if_neg (by omega)]
  | n + 1,i,j,d,h=>by
    rw [reverseLoop]
    split
    · rw [reverseLoop_size n _ _ _ (by omega),size_swp]
    · rfl
theorem rev_la (D : List Event) (A B : Int) : ∀ (n i j : Nat) (d : Array Event),j - i ≤ n→1 ≤ j→j < d.size→d.size ≤ 1048576→Ffbp_la D A B () ((i : Int),(j : Int),d.toList)=some (.inr (reverseLoop i j d).toList)
  | n,i,j,d,h,h1,hb,hs=>by
    rw [Ffbp_la_eq,Ffbp_la_F,reverseLoop]
    by_cases hij : i < j
    · have w : w64 ((j : Int) - 1)=((j - 1 : Nat) : Int):=by rw [w64_id (by omega) (by omega)]; omega
      simp only [decide_eq_true (show (i : Int) < (j : Int) by omega),cond_true,w,w64_succ (show i < 9223372036854775807 by omega),gA hb,gA (show i < d.size by omega),Option.bind_some,gSb hb,sA]
      rw [if_pos hij]
      match n,h with
      | 0,h=>omega
      | n + 1,h =>
        by_cases h2 : 1 ≤ j - 1
        · exact rev_la D A B n (i + 1) (j - 1) _ (by omega) h2 (by rw [size_swp]; omega) (by rw [size_swp]; exact hs)
        · rw [Ffbp_la_eq,Ffbp_la_F,reverseLoop,if_neg (by omega)]
          simp only [decide_eq_false (show ¬ ((i + 1 : Nat) : Int) < ((j - 1 : Nat) : Int) by omega),cond_false]
    · simp only [decide_eq_false (show ¬ (i : Int) < (j : Int) by omega),cond_false]
      rw [if_neg hij]
theorem gen_rev (d : Array Event) (a b : Nat) (hb : b ≤ d.size) (h1 : 2 ≤ b) (hs : d.size ≤ 1048576) : Ffbp d.toList (a : Int) (b : Int) ()=some (reverseRange d a b).toList:=by
  unfold Ffbp reverseRange
  have w : w64 ((b : Int) - 1)=((b - 1 : Nat) : Int):=by rw [w64_id (by omega) (by omega)]; omega
  rw [w,rev_la d.toList a b _ a (b - 1) d (Nat.le_refl _) (by omega) (by omega) hs,bindJ_inr,beqA (reverseLoop_size _ _ _ _ (Nat.le_refl _)),cond_true]
theorem siftDown_size (hi first : Nat) : ∀ (n root : Nat) (d : Array Event),hi - root ≤ n→(siftDown ltE hi first root d).size=d.size:=by
  intro n
  induction n with
  | zero=>intro root d h; rw [siftDown,dif_pos (by omega)]
  | succ n ih =>
    intro root d h
    rw [siftDown]
    split
    · rfl
    · split
      · split
        · rfl
        · split
          · rw [ih _ _ (by omega),size_swp]
          · rfl
      · split
        · rfl
        · rw [ih _ _ (by omega),size_swp]
theorem sift_la (D : List Event) (L0 : Int) (hi first : Nat) : ∀ (n root : Nat) (d : Array Event),hi - root ≤ n→root < hi→first + hi ≤ d.size→d.size ≤ 1048576→D.length=d.size→∃ y,Ffbq_la D L0 (hi : Int) (first : Int) () ((root : Int),d.toList)=some y ∧ (y=.inl (siftDown ltE hi first root d).toList ∨ y=.inr (siftDown ltE hi first root d).toList):=by
  intro n
  induction n with
  | zero=>intro root d h hr hb hs hD; omega
  | succ n ih =>
    intro root d h hr hb hs hD
    have w1 : w64 (2 * (root : Int))=((2 * root : Nat) : Int):=by rw [w64_id (by omega) (by omega)]; omega
    have w2 : w64 (((2 * root : Nat) : Int) + 1)=((2 * root + 1 : Nat) : Int):=w64_succ (by omega)
    have w3 : w64 (((2 * root + 1 : Nat) : Int) + 1)=((2 * root + 2 : Nat) : Int):=w64_succ (by omega)
    have w4 : w64 ((first : Int) + ((2 * root + 1 : Nat) : Int))=((first + (2 * root + 1) : Nat) : Int):=by rw [w64_id (by omega) (by omega)]; omega
    have w5 : w64 (((first + (2 * root + 1) : Nat) : Int) + 1)=((first + (2 * root + 1) + 1 : Nat) : Int):=w64_succ (by omega)
    have w6 : w64 ((first : Int) + (root : Int))=((first + root : Nat) : Int):=by rw [w64_id (by omega) (by omega)]; omega
    have w7 : w64 ((first : Int) + ((2 * root + 2 : Nat) : Int))=((first + (2 * root + 2) : Nat) : Int):=by rw [w64_id (by omega) (by omega)]; omega
    rw [Ffbq_la_eq,Ffbq_la_F,siftDown]
    simp only [w1,w2,w3,w4,w5,w6]
    by_cases h1 : 2 * root + 1 ≥ hi
    · rw [decide_eq_true (show ((2 * root + 1 : Nat) : Int) ≥ (hi : Int) by omega),cond_true,dif_pos h1]
      exact ⟨_,rfl,.inr rfl⟩
    rw [decide_eq_false (show ¬ ((2 * root + 1 : Nat) : Int) ≥ (hi : Int) by omega),cond_false,dif_neg h1]
    by_cases h2 : 2 * root + 2 < hi
    · rw [decide_eq_true (show ((2 * root + 2 : Nat) : Int) < (hi : Int) by omega),cond_true,gA (show first + (2 * root + 1) < d.size by omega),gA (show first + (2 * root + 1) + 1 < d.size by omega),Option.bind_some,Option.bind_some,impl_cmp,Option.bind_some,bindL_inr,decide_eq_true (show 2 * root + 1 + 1 < hi by omega),Bool.true_and]
      rw [show decide (cmpE d[first + (2 * root + 1)]! d[first + (2 * root + 1) + 1]! < 0)=ltE d[first + (2 * root + 1)]! d[first + (2 * root + 1) + 1]! from rfl]
      cases hq : ltE d[first + (2 * root + 1)]! d[first + (2 * root + 1) + 1]! with
      | true =>
        simp only [cond_true,letJ_eq,w7,gA (show first + root < d.size by omega),gA (show first + (2 * root + 2) < d.size by omega),Option.bind_some,impl_cmp,gSb (show first + (2 * root + 2) < d.size by omega),sA,if_true]
        rw [show decide (cmpE d[first + root]! d[first + (2 * root + 2)]! < 0)=ltE d[first + root]! d[first + (2 * root + 2)]! from rfl]
        cases hz : ltE d[first + root]! d[first + (2 * root + 2)]! with
        | false =>
          rw [show Nat.beq d.toList.length D.length=true from by rw [hD,Array.length_toList,Nat.beq_refl]]
          exact ⟨_,rfl,.inl rfl⟩
        | true =>
          rw [Bool.not_true,cond_false,if_neg (by decide),dif_pos h2]
          exact ih (2 * root + 2) _ (by omega) h2 (by rw [size_swp]; exact hb) (by rw [size_swp]; exact hs) (by rw [size_swp]; exact hD)
      | false =>
        simp only [cond_false,letJ_eq,w4,gA (show first + root < d.size by omega),gA (show first + (2 * root + 1) < d.size by omega),Option.bind_some,impl_cmp,gSb (show first + (2 * root + 1) < d.size by omega),sA,Bool.false_eq_true,if_false]
        rw [show decide (cmpE d[first + root]! d[first + (2 * root + 1)]! < 0)=ltE d[first + root]! d[first + (2 * root + 1)]! from rfl]
        cases hz : ltE d[first + root]! d[first + (2 * root + 1)]! with
        | false =>
          rw [show Nat.beq d.toList.length D.length=true from by rw [hD,Array.length_toList,Nat.beq_refl]]
          exact ⟨_,rfl,.inl rfl⟩
        | true =>
          rw [Bool.not_true,cond_false,if_neg (by decide)]
          exact ih (2 * root + 1) _ (by omega) (by omega) (by rw [size_swp]; exact hb) (by rw [size_swp]; exact hs) (by rw [size_swp]; exact hD)
    · rw [decide_eq_false (show ¬ ((2 * root + 2 : Nat) : Int) < (hi : Int) by omega),cond_false,bindL_inr,decide_eq_false (show ¬ 2 * root + 1 + 1 < hi by omega),Bool.false_and]
      simp only [cond_false,letJ_eq,w4,gA (show first + root < d.size by omega),gA (show first + (2 * root + 1) < d.size by omega),Option.bind_some,impl_cmp,gSb (show first + (2 * root + 1) < d.size by omega),sA,Bool.false_eq_true,if_false]
      rw [show decide (cmpE d[first + root]! d[first + (2 * root + 1)]! < 0)=ltE d[first + root]! d[first + (2 * root + 1)]! from rfl]
      cases hz : ltE d[first + root]! d[first + (2 * root + 1)]! with
      | false =>
        rw [show Nat.beq d.toList.length D.length=true from by rw [hD,Array.length_toList,Nat.beq_refl]]
        exact ⟨_,rfl,.inl rfl⟩
      | true =>
        rw [Bool.not_true,cond_false,if_neg (by decide)]
        exact ih (2 * root + 1) _ (by omega) (by omega) (by rw [size_swp]; exact hb) (by rw [size_swp]; exact hs) (by rw [size_swp]; exact hD)
theorem gen_sift (d : Array Event) (hi first root : Nat) (hb : first + hi ≤ d.size) (hs : d.size ≤ 1048576) (hr : root ≤ hi) : Ffbq d.toList (root : Int) (hi : Int) (first : Int) ()=some (siftDown ltE hi first root d).toList:=by
  unfold Ffbq
  by_cases h : root < hi
  · obtain ⟨y,hy,hq⟩:=sift_la d.toList (root : Int) hi first (hi - root) root d (Nat.le_refl _) h hb hs (Array.length_toList)
    rw [hy]
    rcases hq with rfl | rfl
    · rfl
    · rw [bindJ_inr,beqA (siftDown_size hi first _ root d (Nat.le_refl _)),cond_true]
  · have w1 : w64 (2 * (root : Int))=((2 * root : Nat) : Int):=by rw [w64_id (by omega) (by omega)]; omega
    have w2 : w64 (((2 * root : Nat) : Int) + 1)=((2 * root + 1 : Nat) : Int):=w64_succ (by omega)
    rw [Ffbq_la_eq,Ffbq_la_F,siftDown]
    simp only [w1,w2]
    rw [decide_eq_true (show ((2 * root + 1 : Nat) : Int) ≥ (hi : Int) by omega),cond_true,dif_pos (by omega),bindJ_inr,beqA rfl,cond_true]
theorem heapBuild_size (hi first : Nat) : ∀ (k : Nat) (d : Array Event),(heapBuild ltE hi first k d).size=d.size
  | 0,d=>rfl
  | k + 1,d=>by rw [heapBuild,heapBuild_size,siftDown_size _ _ _ _ _ (Nat.le_refl _)]
theorem heapPop_size (first : Nat) : ∀ (k : Nat) (d : Array Event),(heapPop ltE first k d).size=d.size
  | 0,d=>rfl
  | k + 1,d=>by rw [heapPop,heapPop_size,siftDown_size _ _ _ _ _ (Nat.le_refl _),size_swp]
theorem heap_la (D : List Event) (a b : Nat) (ha : a ≤ b) : ∀ (k : Nat) (d : Array Event),k ≤ b - a→b ≤ d.size→d.size ≤ 1048576→Ffbf_la D (a : Int) (b : Int) () ((k : Int) - 1,d.toList)=some (.inr ((a : Int),((b - a : Nat) : Int),(heapBuild ltE (b - a) a k d).toList))
  | 0,d,hk,hb,hs=>by
    have w : w64 ((b : Int) - (a : Int))=((b - a : Nat) : Int):=by rw [w64_id (by omega) (by omega)]; omega
    rw [Ffbf_la_eq,Ffbf_la_F]
    simp only [decide_eq_false (show ¬ ((0 : Nat) : Int) - 1 ≥ 0 by omega),cond_false,w]
    rfl
  | k + 1,d,hk,hb,hs=>by
    have w : w64 ((b : Int) - (a : Int))=((b - a : Nat) : Int):=by rw [w64_id (by omega) (by omega)]; omega
    have w2 : w64 ((k : Int) - 1)=(k : Int) - 1:=w64_id (by omega) (by omega)
    rw [Ffbf_la_eq,Ffbf_la_F]
    simp only [show ((k + 1 : Nat) : Int) - 1=(k : Int) by omega,decide_eq_true (show (k : Int) ≥ 0 by omega),cond_true,w,w2]
    rw [gen_sift d (b - a) a k (by omega) hs (by omega),Option.bind_some,beqA (siftDown_size _ _ _ _ _ (Nat.le_refl _)),cond_true,heapBuild]
    exact heap_la D a b ha k _ (by omega) (by rw [siftDown_size _ _ _ _ _ (Nat.le_refl _)]; exact hb) (by rw [siftDown_size _ _ _ _ _ (Nat.le_refl _)]; exact hs)
theorem heap_lb (D : List Event) (A B : Int) (a : Nat) (U : Int × Int × List Event) (hU : U.1=(a : Int)) : ∀ (k : Nat) (d : Array Event),a + k ≤ d.size→d.size ≤ 1048576→Ffbf_lb D A B () U ((k : Int) - 1,d.toList)=some (.inr (heapPop ltE a k d).toList)
  | 0,d,hb,hs=>by
    rw [Ffbf_lb_eq,Ffbf_lb_F]
    simp only [decide_eq_false (show ¬ ((0 : Nat) : Int) - 1 ≥ 0 by omega),cond_false]
    rfl
  | k + 1,d,hb,hs=>by
    have w2 : w64 ((k : Int) - 1)=(k : Int) - 1:=w64_id (by omega) (by omega)
    have w3 : w64 ((a : Int) + (k : Int))=((a + k : Nat) : Int):=by rw [w64_id (by omega) (by omega)]; omega
    rw [Ffbf_lb_eq,Ffbf_lb_F]
    simp only [hU,show ((k + 1 : Nat) : Int) - 1=(k : Int) by omega,decide_eq_true (show (k : Int) ≥ 0 by omega),cond_true,w2,w3,gA (show a + k < d.size by omega),gA (show a < d.size by omega),Option.bind_some,gSb (show a + k < d.size by omega),sA]
    rw [show (0 : Int)=((0 : Nat) : Int) from rfl,gen_sift _ k a 0 (by rw [size_swp]; omega) (by rw [size_swp]; exact hs) (by omega),Option.bind_some,beqA (siftDown_size _ _ _ _ _ (Nat.le_refl _)),cond_true,heapPop]
    exact heap_lb D A B a U hU k _ (by rw [siftDown_size _ _ _ _ _ (Nat.le_refl _),size_swp]; omega) (by rw [siftDown_size _ _ _ _ _ (Nat.le_refl _),size_swp]; exact hs)
theorem heapSort_size (d : Array Event) (a b : Nat) : (heapSort ltE d a b).size=d.size:=by unfold heapSort; rw [heapPop_size,heapBuild_size]
theorem gen_heap (d : Array Event) (a b : Nat) (ha : a + 2 ≤ b) (hb : b ≤ d.size) (hs : d.size ≤ 1048576) : Ffbf d.toList (a : Int) (b : Int) ()=some (heapSort ltE d a b).toList:=by
  unfold Ffbf
  have w : w64 ((b : Int) - (a : Int))=((b - a : Nat) : Int):=by rw [w64_id (by omega) (by omega)]; omega
  have w1 : w64 (((b - a : Nat) : Int) - 1)=((b - a - 1 : Nat) : Int):=by rw [w64_id (by omega) (by omega)]; omega
  have w2 : w64 (((b - a - 1 : Nat) : Int).tdiv 2)=((((b - a - 1) / 2 + 1 : Nat)) : Int) - 1:=by
    rw [Int.tdiv_eq_ediv_of_nonneg (by omega),w64_id (by omega) (by omega)]
    omega
  rw [w,w1,w2,heap_la d.toList a b (by omega) ((b - a - 1) / 2 + 1) d (by omega) hb hs,bindJ_inr]
  simp only [show w64 (((b - a : Nat) : Int) - 1)=((b - a : Nat) : Int) - 1 from w64_id (by omega) (by omega)]
  rw [heap_lb d.toList a b a _ rfl (b - a) _ (by rw [heapBuild_size]; omega) (by rw [heapBuild_size]; exact hs),bindJ_inr]
  have:=heapSort_size d a b
  unfold heapSort at this
  rw [beqA this,cond_true]
  rfl
theorem bitsLen_div {n k : Nat} (h : 2 ^ k ≤ n) : bitsLen n=bitsLen (n / 2 ^ k) + k:=by
  have h1 : ∀ m,bitsLen n ≤ m + k ↔ bitsLen (n / 2 ^ k) ≤ m:=by
    intro m
    rw [bitsLen_le_iff,bitsLen_le_iff,Nat.div_lt_iff_lt_mul (Nat.two_pow_pos k),Nat.pow_add]
  have h2 : k ≤ bitsLen n:=by
    rcases Nat.lt_or_ge (bitsLen n) k with h3 | h3
    · have:=(bitsLen_le_iff n (k - 1)).1 (by omega)
      have : 2 ^ (k - 1) ≤ 2 ^ k:=Nat.pow_le_pow_right (by decide) (by omega)
      omega
    · exact h3
  have h4:=(h1 (bitsLen n - k)).1 (by omega)
  have h5:=(h1 (bitsLen (n / 2 ^ k))).2 (Nat.le_refl _)
  omega
theorem shr_nat {n j : Nat} (hj : j ≤ 64) : shrI .u64 (n : Int) (j : Int)=((n / 2 ^ j : Nat) : Int):=by
  unfold shrI
  rw [Int.toNat_natCast,show min j (IntKind.bits .u64)=j from Nat.min_eq_left hj,Int.fdiv_eq_ediv_of_nonneg _ (Int.le_of_lt (Int.pow_pos (by decide)))]
  simp
theorem u64_nat {n : Nat} (h : n < 18446744073709551616) : IntKind.u64.wrap (n : Int)=(n : Int):=by
  show (n : Int) % 18446744073709551616=n
  omega
theorem shl_nat {n j : Nat} (hj : j ≤ 64) : shlI .u64 (n : Int) (j : Int)=((n * 2 ^ j % 18446744073709551616 : Nat) : Int):=by
  unfold shlI
  rw [Int.toNat_natCast,show min j (IntKind.bits .u64)=j from Nat.min_eq_left hj]
  show ((n : Int) * 2 ^ j) % 18446744073709551616=_
  simp
theorem bv_nat {n : Nat} (h : n < 18446744073709551616) : (BitVec.ofInt (IntKind.bits .u64) (n : Int)).toNat=n:=by
  show (BitVec.ofInt 64 (n : Int)).toNat=n
  rw [BitVec.toNat_ofInt]
  omega
theorem xor_nat {x y : Nat} (hx : x < 18446744073709551616) (hy : y < 18446744073709551616) : xorI .u64 (x : Int) (y : Int)=((x ^^^ y : Nat) : Int):=by
  unfold xorI
  rw [BitVec.toNat_xor,bv_nat hx,bv_nat hy]
  exact u64_nat (Nat.xor_lt_two_pow (n:=64) hx hy)
theorem and_nat {x y : Nat} (hx : x < 18446744073709551616) (hy : y < 18446744073709551616) : andI .u64 (x : Int) (y : Int)=((x &&& y : Nat) : Int):=by
  unfold andI
  rw [BitVec.toNat_and,bv_nat hx,bv_nat hy]
  exact u64_nat (Nat.lt_of_le_of_lt Nat.and_le_left hx)
theorem xs_next (r : UInt64) : Ffbr (r.toNat : Int)=some (((xorNext r).toNat : Int),((xorNext r).toNat : Int)):=by
  have hr:=r.toNat_lt
  have p : (18446744073709551616 : Nat)=2 ^ 64:=by decide
  unfold Ffbr
  have e1 : shlI .u64 (r.toNat : Int) 13=((r.toNat * 8192 % 18446744073709551616 : Nat) : Int):=shl_nat (j:=13) (by decide)
  have l1 : r.toNat * 8192 % 18446744073709551616 < 18446744073709551616:=Nat.mod_lt _ (by decide)
  have ha : (r.toNat ^^^ (r.toNat * 8192 % 18446744073709551616)) < 18446744073709551616:=Nat.xor_lt_two_pow (n:=64) hr l1
  have e2 : shrI .u64 ((r.toNat ^^^ (r.toNat * 8192 % 18446744073709551616) : Nat) : Int) 7=(((r.toNat ^^^ (r.toNat * 8192 % 18446744073709551616)) / 128 : Nat) : Int):=shr_nat (j:=7) (by decide)
  have l2 : (r.toNat ^^^ (r.toNat * 8192 % 18446744073709551616)) / 128 < 18446744073709551616:=by omega
  have hb : ((r.toNat ^^^ (r.toNat * 8192 % 18446744073709551616)) ^^^ ((r.toNat ^^^ (r.toNat * 8192 % 18446744073709551616)) / 128)) < 18446744073709551616:=Nat.xor_lt_two_pow (n:=64) ha l2
  have e3 : shlI .u64 (((r.toNat ^^^ (r.toNat * 8192 % 18446744073709551616)) ^^^ ((r.toNat ^^^ (r.toNat * 8192 % 18446744073709551616)) / 128) : Nat) : Int) 17=((((r.toNat ^^^ (r.toNat * 8192 % 18446744073709551616)) ^^^ ((r.toNat ^^^ (r.toNat * 8192 % 18446744073709551616)) / 128)) * 131072 % 18446744073709551616 : Nat) : Int):=shl_nat (j:=17) (by decide)
  rw [e1,xor_nat hr l1,e2,xor_nat ha l2,e3,xor_nat hb (Nat.mod_lt _ (by decide)),xorNext_toNat]
  rfl
theorem len_table : ∀ n,n < 256→([0,1,2,2,3,3,3,3,4,4,4,4,4,4,4,4,5,5,5,5,5,5,5,5,5,5,5,5,5,5,5,5,6,6,6,6,6,6,6,6,6,6,6,6,6,6,6,6,6,6,6,6,6,6,6,6,6,6,6,6,6,6,6,6,7,7,7,7,7,7,7,7,7,7,7,7,7,7,7,7,7,7,7,7,7,7,7,7,7,7,7,7,7,7,7,7,7,7,7,7,7,7,7,7,7,7,7,7,7,7,7,7,7,7,7,7,7,7,7,7,7,7,7,7,7,7,7,7,8,8,8,8,8,8,8,8,8,8,8,8,8,8,8,8,8,8,8,8,8,8,8,8,8,8,8,8,8,8,8,8,8,8,8,8,8,8,8,8,8,8,8,8,8,8,8,8,8,8,8,8,8,8,8,8,8,8,8,8,8,8,8,8,8,8,8,8,8,8,8,8,8,8,8,8,8,8,8,8,8,8,8,8,8,8,8,8,8,8,8,8,8,8,8,8,8,8,8,8,8,8,8,8,8,8,8,8,8,8,8,8,8,8,8,8,8,8,8,8,8,8,8,8,8,8,8,8] : Str)[n]?=some (UInt8.ofNat (bitsLen n)):=by decide +kernel
theorem bitsLen_256 {n : Nat} (h : n < 256) : bitsLen n ≤ 8:=(bitsLen_le_iff n 8).2 h
theorem len_val {n : Nat} (h : n < 16777216) : Ffu (n : Int)=some ((bitsLen n : Nat) : Int):=by
  have tab : ∀ {m : Nat} (k : Int),m < 256→0 ≤ k→k ≤ 100→((getI ([0,1,2,2,3,3,3,3,4,4,4,4,4,4,4,4,5,5,5,5,5,5,5,5,5,5,5,5,5,5,5,5,6,6,6,6,6,6,6,6,6,6,6,6,6,6,6,6,6,6,6,6,6,6,6,6,6,6,6,6,6,6,6,6,7,7,7,7,7,7,7,7,7,7,7,7,7,7,7,7,7,7,7,7,7,7,7,7,7,7,7,7,7,7,7,7,7,7,7,7,7,7,7,7,7,7,7,7,7,7,7,7,7,7,7,7,7,7,7,7,7,7,7,7,7,7,7,7,8,8,8,8,8,8,8,8,8,8,8,8,8,8,8,8,8,8,8,8,8,8,8,8,8,8,8,8,8,8,8,8,8,8,8,8,8,8,8,8,8,8,8,8,8,8,8,8,8,8,8,8,8,8,8,8,8,8,8,8,8,8,8,8,8,8,8,8,8,8,8,8,8,8,8,8,8,8,8,8,8,8,8,8,8,8,8,8,8,8,8,8,8,8,8,8,8,8,8,8,8,8,8,8,8,8,8,8,8,8,8,8,8,8,8,8,8,8,8,8,8,8,8,8,8,8,8,8] : Str) (IntKind.u8.wrap (m : Int))).bind fun c5=>some (w64 (k + (IntKind.i64.wrap (c5.toNat : Int)))))=some (k + ((bitsLen m : Nat) : Int)):=by
    intro m k hm h0 h1
    have hb:=bitsLen_256 hm
    have e : IntKind.u8.wrap (m : Int)=(m : Int):=by
      show (m : Int) % 256=m
      omega
    have e2 : (UInt8.ofNat (bitsLen m)).toNat=bitsLen m:=by
      rw [UInt8.toNat_ofNat']
      omega
    rw [e,getI_nat,len_table m hm,Option.bind_some,e2,show IntKind.i64.wrap ((bitsLen m : Nat) : Int)=((bitsLen m : Nat) : Int) from w64_id (by omega) (by omega),w64_id (by omega) (by omega)]
  unfold Ffu Ffv
  simp only [letJ_eq,decide_eq_false (show ¬ (n : Int) ≥ 4294967296 by omega),cond_false]
  by_cases h2 : n < 65536
  · simp only [decide_eq_false (show ¬ (n : Int) ≥ 65536 by omega),cond_false]
    by_cases h3 : n < 256
    · simp only [decide_eq_false (show ¬ (n : Int) ≥ 256 by omega),cond_false]
      rw [tab 0 h3 (by decide) (by decide),Option.bind_some]
      simp
    · simp only [decide_eq_true (show (n : Int) ≥ 256 by omega),cond_true]
      rw [show shrI .u64 (n : Int) 8=((n / 256 : Nat) : Int) from shr_nat (j:=8) (by decide),show w64 (0 + 8)=8 from by decide,tab 8 (by omega) (by decide) (by decide),Option.bind_some,bitsLen_div (n:=n) (k:=8) (by omega)]
      congr 1
      show (8 : Int) + ((bitsLen (n / 256) : Nat) : Int)=((bitsLen (n / 256) + 8 : Nat) : Int)
      omega
  · simp only [decide_eq_true (show (n : Int) ≥ 65536 by omega),cond_true]
    rw [show shrI .u64 (n : Int) 16=((n / 65536 : Nat) : Int) from shr_nat (j:=16) (by decide),show w64 (0 + 16)=16 from by decide]
    simp only [decide_eq_false (show ¬ ((n / 65536 : Nat) : Int) ≥ 256 by omega),cond_false]
    rw [tab 16 (by omega) (by decide) (by decide),Option.bind_some,bitsLen_div (n:=n) (k:=16) (by omega)]
    congr 1
    show (16 : Int) + ((bitsLen (n / 65536) : Nat) : Int)=((bitsLen (n / 65536) + 16 : Nat) : Int)
    omega
theorem bitsLen_24 {n : Nat} (h : n < 16777216) : bitsLen n ≤ 24:=(bitsLen_le_iff n 24).2 h
theorem pow2_val {n : Nat} (h : n < 16777216) : Ffbj (n : Int)=some ((1 <<< bitsLen n : Nat) : Int):=by
  have hb:=bitsLen_24 h
  unfold Ffbj
  rw [u64_nat (by omega),len_val h,Option.bind_some]
  unfold shlO
  rw [if_neg (by omega),show shlI .u64 1 ((bitsLen n : Nat) : Int)=((1 * 2 ^ bitsLen n % 18446744073709551616 : Nat) : Int) from shl_nat (n:=1) (by omega),Option.bind_some,Nat.one_shiftLeft,Nat.one_mul,Nat.mod_eq_of_lt]
  exact Nat.lt_of_le_of_lt (Nat.pow_le_pow_right (by decide) hb) (by decide)
theorem breakStep_size (a l m : Nat) (st : UInt64 × Array Event) (i : Nat) : (breakStep a l m st i).2.size=st.2.size:=by
  unfold breakStep
  simp only []
  rw [size_swp]
theorem brk_step (D : List Event) (a b : Nat) (i : Nat) (r : UInt64) (d : Array Event) (ha : a ≤ b) (h8 : 8 ≤ b - a) (hb : b ≤ d.size) (hs : d.size ≤ 1048576) (hi : i ≤ a + (b - a) / 4 * 2 + 1) :
    Ffbd_la D (a : Int) (b : Int) () ((1 <<< bitsLen (b - a) : Nat) : Int) ((i : Int), d.toList, (r.toNat : Int)) =
      Ffbd_la D (a : Int) (b : Int) () ((1 <<< bitsLen (b - a) : Nat) : Int) (((i + 1 : Nat) : Int), (breakStep a (b - a) (1 <<< bitsLen (b - a)) (r, d) i).2.toList, ((breakStep a (b - a) (1 <<< bitsLen (b - a)) (r, d) i).1.toNat : Int)) := by
  have hl := bitsLen_24 (n := b - a) (by omega)
  have hp := two_pow_bitsLen_le (n := b - a) (by omega)
  have hpos : 0 < 2 ^ bitsLen (b - a) := Nat.two_pow_pos _
  have w1 : w64 ((b : Int) - (a : Int)) = ((b - a : Nat) : Int) := by rw [w64_id (by omega) (by omega)]; omega
  have w2 : w64 (((b - a : Nat) : Int).tdiv 4) = (((b - a) / 4 : Nat) : Int) := by rw [Int.tdiv_eq_ediv_of_nonneg (by omega), w64_id (by omega) (by omega)]; omega
  have w3 : w64 ((((b - a) / 4 : Nat) : Int) * 2) = (((b - a) / 4 * 2 : Nat) : Int) := by rw [w64_id (by omega) (by omega)]; omega
  have w4 : w64 ((a : Int) + (((b - a) / 4 * 2 : Nat) : Int)) = ((a + (b - a) / 4 * 2 : Nat) : Int) := by rw [w64_id (by omega) (by omega)]; omega
  have w5 : w64 (((a + (b - a) / 4 * 2 : Nat) : Int) + 1) = ((a + (b - a) / 4 * 2 + 1 : Nat) : Int) := w64_succ (by omega)
  have hm : (xorNext r).toNat &&& (1 <<< bitsLen (b - a) - 1) ≤ 1 <<< bitsLen (b - a) - 1 := Nat.and_le_right
  have hx := (xorNext r).toNat_lt
  rw [Nat.one_shiftLeft] at *
  have e1 : IntKind.u64.wrap (((2 ^ bitsLen (b - a) : Nat) : Int) - 1) = ((2 ^ bitsLen (b - a) - 1 : Nat) : Int) := by
    rw [show ((2 ^ bitsLen (b - a) : Nat) : Int) - 1 = ((2 ^ bitsLen (b - a) - 1 : Nat) : Int) by omega]
    exact u64_nat (by omega)
  have e2 : IntKind.i64.wrap (andI .u64 ((xorNext r).toNat : Int) ((2 ^ bitsLen (b - a) - 1 : Nat) : Int)) = (((xorNext r).toNat &&& (2 ^ bitsLen (b - a) - 1) : Nat) : Int) := by
    rw [and_nat hx (by omega)]
    exact w64_id (by omega) (by omega)
  rw [Ffbd_la_eq, Ffbd_la_F]
  simp only [w1, w2, w3, w4, w5, decide_eq_true (show (i : Int) ≤ ((a + (b - a) / 4 * 2 + 1 : Nat) : Int) by omega), cond_true, xs_next, Option.bind_some, letJ_eq, e1, e2, w64_succ (show i < 9223372036854775807 by omega)]
  unfold breakStep
  simp only []
  by_cases hq : (xorNext r).toNat &&& (2 ^ bitsLen (b - a) - 1) ≥ b - a
  · have w6 : w64 ((((xorNext r).toNat &&& (2 ^ bitsLen (b - a) - 1) : Nat) : Int) - ((b - a : Nat) : Int)) = (((xorNext r).toNat &&& (2 ^ bitsLen (b - a) - 1)) - (b - a) : Nat) := by rw [w64_id (by omega) (by omega)]; omega
    have w7 : w64 ((a : Int) + ((((xorNext r).toNat &&& (2 ^ bitsLen (b - a) - 1)) - (b - a) : Nat) : Int)) = ((a + (((xorNext r).toNat &&& (2 ^ bitsLen (b - a) - 1)) - (b - a)) : Nat) : Int) := by rw [w64_id (by omega) (by omega)]; omega
    rw [if_pos hq]
    simp only [decide_eq_true (show (((xorNext r).toNat &&& (2 ^ bitsLen (b - a) - 1) : Nat) : Int) ≥ ((b - a : Nat) : Int) by omega), cond_true, w6, w7, gA (show a + (((xorNext r).toNat &&& (2 ^ bitsLen (b - a) - 1)) - (b - a)) < d.size by omega), gA (show i < d.size by omega), Option.bind_some, gSb (show a + (((xorNext r).toNat &&& (2 ^ bitsLen (b - a) - 1)) - (b - a)) < d.size by omega), sA]
  · have w7 : w64 ((a : Int) + (((xorNext r).toNat &&& (2 ^ bitsLen (b - a) - 1) : Nat) : Int)) = ((a + ((xorNext r).toNat &&& (2 ^ bitsLen (b - a) - 1)) : Nat) : Int) := by rw [w64_id (by omega) (by omega)]; omega
    rw [if_neg hq]
    simp only [decide_eq_false (show ¬ (((xorNext r).toNat &&& (2 ^ bitsLen (b - a) - 1) : Nat) : Int) ≥ ((b - a : Nat) : Int) by omega), cond_false, w7, gA (show a + ((xorNext r).toNat &&& (2 ^ bitsLen (b - a) - 1)) < d.size by omega), gA (show i < d.size by omega), Option.bind_some, gSb (show a + ((xorNext r).toNat &&& (2 ^ bitsLen (b - a) - 1)) < d.size by omega), sA]
theorem breakPatterns_size (d : Array Event) (a b : Nat) : (breakPatterns d a b).size=d.size:=by
  unfold breakPatterns
  simp only []
  split
  · rw [breakStep_size,breakStep_size,breakStep_size]
  · rfl
theorem gen_brk (d : Array Event) (a b : Nat) (ha : a ≤ b) (hb : b ≤ d.size) (hs : d.size ≤ 1048576) : Ffbd d.toList (a : Int) (b : Int) ()=some (breakPatterns d a b).toList:=by
  have hz:=breakPatterns_size d a b
  unfold Ffbd
  have w1 : w64 ((b : Int) - (a : Int))=((b - a : Nat) : Int):=by rw [w64_id (by omega) (by omega)]; omega
  rw [w1]
  by_cases h8 : 8 ≤ b - a
  · have w2 : w64 (((b - a : Nat) : Int).tdiv 4)=(((b - a) / 4 : Nat) : Int):=by rw [Int.tdiv_eq_ediv_of_nonneg (by omega),w64_id (by omega) (by omega)]; omega
    have w3 : w64 ((((b - a) / 4 : Nat) : Int) * 2)=(((b - a) / 4 * 2 : Nat) : Int):=by rw [w64_id (by omega) (by omega)]; omega
    have w4 : w64 ((a : Int) + (((b - a) / 4 * 2 : Nat) : Int))=((a + (b - a) / 4 * 2 : Nat) : Int):=by rw [w64_id (by omega) (by omega)]; omega
    have w5 : w64 (((a + (b - a) / 4 * 2 : Nat) : Int) - 1)=((a + (b - a) / 4 * 2 - 1 : Nat) : Int):=by rw [w64_id (by omega) (by omega)]; omega
    have w6 : w64 (((a + (b - a) / 4 * 2 : Nat) : Int) + 1)=((a + (b - a) / 4 * 2 + 1 : Nat) : Int):=w64_succ (by omega)
    have w7 : IntKind.u64.wrap ((b - a : Nat) : Int)=((UInt64.ofNat (b - a)).toNat : Int):=by
      rw [u64_nat (by omega),UInt64.toNat_ofNat']
      omega
    rw [decide_eq_true (show ((b - a : Nat) : Int) ≥ 8 by omega),cond_true,pow2_val (by omega),Option.bind_some,w2,w3,w4,w5,w7]
    rw [brk_step d.toList a b _ _ d ha h8 hb hs (by omega),brk_step d.toList a b _ _ _ ha h8 (by rw [breakStep_size]; exact hb) (by rw [breakStep_size]; exact hs) (by omega),brk_step d.toList a b _ _ _ ha h8 (by rw [breakStep_size,breakStep_size]; exact hb) (by rw [breakStep_size,breakStep_size]; exact hs) (by omega)]
    rw [Ffbd_la_eq,Ffbd_la_F]
    simp only [w1,w2,w3,w4,w6,decide_eq_false (show ¬ ((a + (b - a) / 4 * 2 - 1 + 1 + 1 + 1 : Nat) : Int) ≤ ((a + (b - a) / 4 * 2 + 1 : Nat) : Int) by omega),cond_false,bindL_inr,bindJ_inr]
    unfold breakPatterns at hz ⊢
    simp only [] at hz ⊢
    rw [if_pos h8] at hz ⊢
    rw [beqA hz,cond_true]
  · rw [decide_eq_false (show ¬ ((b - a : Nat) : Int) ≥ 8 by omega),cond_false,bindJ_inr,beqA rfl,cond_true]
    unfold breakPatterns
    simp only []
    rw [if_neg h8]
theorem gen_order2 (d : Array Event) (a b s : Nat) (ha : a < d.size) (hb : b < d.size) (hs : s ≤ 1000) : Ffbk d.toList (a : Int) (b : Int) (s : Int) ()=some (((order2 ltE d a b s).1 : Int),((order2 ltE d a b s).2.1 : Int),((order2 ltE d a b s).2.2 : Int)):=by
  unfold Ffbk order2
  rw [gA hb,Option.bind_some,gA ha,Option.bind_some,impl_cmp,Option.bind_some,w64_succ (by omega)]
  rw [show decide (cmpE d[b]! d[a]! < 0)=ltE d[b]! d[a]! from rfl]
  cases ltE d[b]! d[a]! <;> rfl
theorem order2_lt (d : Array Event) (a b s n : Nat) (ha : a < n) (hb : b < n) : (order2 ltE d a b s).1 < n ∧ (order2 ltE d a b s).2.1 < n:=by
  rcases order2_mem ltE d a b s with ⟨h1,h2⟩ | ⟨h1,h2⟩ <;> rw [h1,h2] <;> exact ⟨by assumption,by assumption⟩
theorem gen_median (d : Array Event) (a b c s : Nat) (ha : a < d.size) (hb : b < d.size) (hc : c < d.size) (hs : s ≤ 900) : Ffbi d.toList (a : Int) (b : Int) (c : Int) (s : Int) ()=some (((median ltE d a b c s).1 : Int),((median ltE d a b c s).2 : Int)):=by
  unfold Ffbi median
  simp only []
  have c1:=order2_count ltE d a b s
  obtain ⟨p1,p2⟩:=order2_lt d a b s d.size ha hb
  have c2:=order2_count ltE d (order2 ltE d a b s).2.1 c (order2 ltE d a b s).2.2
  obtain ⟨p3,p4⟩:=order2_lt d (order2 ltE d a b s).2.1 c (order2 ltE d a b s).2.2 d.size p2 hc
  rw [gen_order2 d a b s ha hb (by omega),Option.bind_some]
  simp only []
  rw [gen_order2 d _ c _ p2 hc (by omega),Option.bind_some]
  simp only []
  rw [gen_order2 d _ _ _ p1 p3 (by omega),Option.bind_some]
theorem gen_medianAdj (d : Array Event) (a s : Nat) (h1 : 1 ≤ a) (ha : a + 1 < d.size) (hz : d.size ≤ 1048576) (hs : s ≤ 800) : Ffbh d.toList (a : Int) (s : Int) ()=some (((medianAdjacent ltE d a s).1 : Int),((medianAdjacent ltE d a s).2 : Int)):=by
  unfold Ffbh medianAdjacent
  have w1 : w64 ((a : Int) - 1)=((a - 1 : Nat) : Int):=by rw [w64_id (by omega) (by omega)]; omega
  rw [w1,w64_succ (by omega),gen_median d _ _ _ _ (by omega) (by omega) ha (by omega),Option.bind_some]
theorem adj_lt (d : Array Event) (a s n : Nat) (ha : a + 1 < n) : (medianAdjacent ltE d a s).1 < n:=by
  rcases medianAdjacent_mem ltE d a s with h | h | h <;> rw [h] <;> omega
theorem raw_mem (d : Array Event) (a b : Nat) (h : a < b) : a ≤ (rawPivot ltE d a b).1 ∧ (rawPivot ltE d a b).1 < b:=by
  have:=choosePivot_holds ltE d a b h
  rw [choosePivot_eq] at this
  exact this
theorem gen_pivot (d : Array Event) (a b : Nat) (ha : a < b) (hb : b ≤ d.size) (hs : d.size ≤ 1048576) : Ffbe d.toList (a : Int) (b : Int) ()=some (((choosePivot ltE d a b).1 : Int),hintCode (choosePivot ltE d a b).2):=by
  rw [choosePivot_eq]
  unfold Ffbe
  have w1 : w64 ((b : Int) - (a : Int))=((b - a : Nat) : Int):=by rw [w64_id (by omega) (by omega)]; omega
  have w2 : w64 (((b - a : Nat) : Int).tdiv 4)=(((b - a) / 4 : Nat) : Int):=by rw [Int.tdiv_eq_ediv_of_nonneg (by omega),w64_id (by omega) (by omega)]; omega
  have w3 : w64 ((((b - a) / 4 : Nat) : Int) * 1)=(((b - a) / 4 * 1 : Nat) : Int):=by rw [w64_id (by omega) (by omega)]; omega
  have w4 : w64 ((((b - a) / 4 : Nat) : Int) * 2)=(((b - a) / 4 * 2 : Nat) : Int):=by rw [w64_id (by omega) (by omega)]; omega
  have w5 : w64 ((((b - a) / 4 : Nat) : Int) * 3)=(((b - a) / 4 * 3 : Nat) : Int):=by rw [w64_id (by omega) (by omega)]; omega
  have w6 : w64 ((a : Int) + (((b - a) / 4 * 1 : Nat) : Int))=((a + (b - a) / 4 * 1 : Nat) : Int):=by rw [w64_id (by omega) (by omega)]; omega
  have w7 : w64 ((a : Int) + (((b - a) / 4 * 2 : Nat) : Int))=((a + (b - a) / 4 * 2 : Nat) : Int):=by rw [w64_id (by omega) (by omega)]; omega
  have w8 : w64 ((a : Int) + (((b - a) / 4 * 3 : Nat) : Int))=((a + (b - a) / 4 * 3 : Nat) : Int):=by rw [w64_id (by omega) (by omega)]; omega
  have fin : ∀ (p s : Nat),(bif ((s : Int) == 0) then (some ((p : Int),(1 : Int))) else (bif ((s : Int) == 12) then (some ((p : Int),2)) else (some ((p : Int),0))))=some ((p : Int),hintCode (hintOf s)):=by
    intro p s
    unfold hintOf
    by_cases h0 : s=0
    · subst h0; rfl
    · have e0 : ((s : Int) == 0)=false:=by rw [beq_eq_false_iff_ne]; omega
      rw [e0,cond_false,if_neg h0]
      by_cases h12 : s=12
      · subst h12; rfl
      · have e1 : ((s : Int) == 12)=false:=by rw [beq_eq_false_iff_ne]; omega
        rw [e1,cond_false,if_neg h12]
        rfl
  simp only [w1,w2,w3,w4,w5,w6,w7,w8]
  unfold rawPivot
  by_cases h8 : b - a ≥ 8
  · rw [decide_eq_true (show ((b - a : Nat) : Int) ≥ 8 by omega),cond_true,if_pos h8]
    by_cases h50 : b - a ≥ 50
    · have k1:=medianAdjacent_count ltE d (a + (b - a) / 4 * 1) 0
      have k2:=medianAdjacent_count ltE d (a + (b - a) / 4 * 2) (medianAdjacent ltE d (a + (b - a) / 4 * 1) 0).2
      have k3:=medianAdjacent_count ltE d (a + (b - a) / 4 * 3) (medianAdjacent ltE d (a + (b - a) / 4 * 2) (medianAdjacent ltE d (a + (b - a) / 4 * 1) 0).2).2
      rw [decide_eq_true (show ((b - a : Nat) : Int) ≥ 50 by omega),cond_true,if_pos h50,show (0 : Int)=((0 : Nat) : Int) from rfl,gen_medianAdj d _ _ (by omega) (by omega) hs (by omega),Option.bind_some]
      simp only []
      rw [gen_medianAdj d _ _ (by omega) (by omega) hs (by omega),Option.bind_some]
      simp only []
      rw [gen_medianAdj d _ _ (by omega) (by omega) hs (by omega),Option.bind_some,bindL_inr]
      simp only []
      rw [gen_median d _ _ _ _ (adj_lt d _ _ _ (by omega)) (adj_lt d _ _ _ (by omega)) (adj_lt d _ _ _ (by omega)) (by omega),Option.bind_some,bindJ_inr]
      exact fin _ _
    · rw [decide_eq_false (show ¬ ((b - a : Nat) : Int) ≥ 50 by omega),cond_false,if_neg h50,bindL_inr]
      simp only []
      rw [show (0 : Int)=((0 : Nat) : Int) from rfl,gen_median d _ _ _ _ (by omega) (by omega) (by omega) (by omega),Option.bind_some,bindJ_inr]
      exact fin _ _
  · rw [decide_eq_false (show ¬ ((b - a : Nat) : Int) ≥ 8 by omega),cond_false,if_neg h8,bindJ_inr]
    exact fin _ 0
theorem scanUpG {ρ υ : Type} {L : Int→Option (ρ ⊕ υ)} {out : Nat→υ} {p : Event→Bool} {d : Array Event} {j : Nat} (h1 : ∀ i : Nat,i ≤ j→L (i : Int)=bif p d[i]! then L ((i + 1 : Nat) : Int) else some (.inr (out i))) (h2 : ∀ i : Nat,¬ i ≤ j→L (i : Int)=some (.inr (out i))) : ∀ (n i : Nat),j + 1 - i ≤ n→L (i : Int)=some (.inr (out (scanUp p d j i)))
  | n,i,h=>by
    rw [scanUp]
    by_cases hi : i ≤ j
    · rw [h1 i hi,decide_eq_true hi,Bool.true_and]
      match n,h with
      | 0,h=>omega
      | n + 1,h =>
        cases p d[i]! with
        | true=>rw [cond_true,if_pos rfl]; exact scanUpG h1 h2 n (i + 1) (by omega)
        | false=>rfl
    · rw [h2 i hi,decide_eq_false hi,Bool.false_and]
      rfl
theorem scanDownG {ρ υ : Type} {L : Int→Option (ρ ⊕ υ)} {out : Nat→υ} {p : Event→Bool} {d : Array Event} {i m : Nat} (hi : 1 ≤ i) (h1 : ∀ j : Nat,j ≤ m→i ≤ j→L (j : Int)=bif p d[j]! then L ((j : Int) - 1) else some (.inr (out j))) (h2 : ∀ j : Nat,¬ i ≤ j→L (j : Int)=some (.inr (out j))) : ∀ (j : Nat),j ≤ m→L (j : Int)=some (.inr (out (scanDown p d i j)))
  | 0,_=>by rw [h2 0 (by omega)]; rfl
  | j + 1,hm=>by
    rw [scanDown]
    by_cases hj : i ≤ j + 1
    · rw [h1 (j + 1) hm hj,decide_eq_true hj,Bool.true_and,show ((j + 1 : Nat) : Int) - 1=(j : Int) by omega]
      cases p d[j + 1]! with
      | true=>rw [cond_true,if_pos rfl]; exact scanDownG hi h1 h2 j (by omega)
      | false=>rfl
    · rw [h2 (j + 1) hj,decide_eq_false hj,Bool.false_and]
      rfl
theorem scanDown_ge {p : Event→Bool} {d : Array Event} {i j : Nat} : scanDown p d i j ≤ j:=scanDown_le p d i j
/-! the equal part -/
theorem partEq_la (D : List Event) (B Q : Int) (a : Nat) : ∀ (n i j : Nat) (d : Array Event),j + 1 - i ≤ n→1 ≤ i→a < d.size→j < d.size→d.size ≤ 1048576→Ffbn_la D (a : Int) B Q () ((i : Int),(j : Int),d.toList)=some (.inr (((partEqLoop ltE a i j d).1 : Int),(partEqLoop ltE a i j d).2.toList)):=by
  intro n
  induction n with
  | zero =>
    intro i j d h h1 ha hj hs
    have u : scanUp (fun x=>!ltE d[a]! x) d j i=i:=by rw [scanUp,decide_eq_false (by omega),Bool.false_and]; rfl
    rw [Ffbn_la_eq,Ffbn_la_F,partEqLoop_eq,u]
    have hd:=scanDown_ge (p:=fun x=>ltE d[a]! x) (d:=d) (i:=i) (j:=j)
    rw [Ffbn_lb_eq,Ffbn_lb_F]
    simp only [decide_eq_false (show ¬ (i : Int) ≤ (j : Int) by omega),cond_false,bindL_inr]
    rw [Ffbn_lc_eq,Ffbn_lc_F]
    simp only [decide_eq_false (show ¬ (i : Int) ≤ (j : Int) by omega),cond_false,bindL_inr,decide_eq_true (show (i : Int) > (j : Int) by omega),cond_true]
    rw [if_pos (by omega)]
  | succ n ih =>
    intro i j d h h1 ha hj hs
    have hu:=scanUp_ge (fun x=>!ltE d[a]! x) d j i
    have hd:=scanDown_ge (p:=fun x=>ltE d[a]! x) (d:=d) (i:=scanUp (fun x=>!ltE d[a]! x) d j i) (j:=j)
    rw [Ffbn_la_eq,Ffbn_la_F,partEqLoop_eq]
    simp only []
    rw [scanUpG (L:=Ffbn_lb D (a : Int) B Q () ((i : Int),(j : Int),d.toList)) (out:=fun k=>(k : Int)) (p:=fun x=>!ltE d[a]! x) (d:=d) (j:=j)
      (fun k hk=>by
        rw [Ffbn_lb_eq,Ffbn_lb_F]
        simp only [decide_eq_true (show (k : Int) ≤ (j : Int) by omega),cond_true,gA ha,gA (show k < d.size by omega),Option.bind_some,impl_cmp,bindL_inr,w64_succ (show k < 9223372036854775807 by omega)]
        rfl)
      (fun k hk=>by
        rw [Ffbn_lb_eq,Ffbn_lb_F]
        simp only [decide_eq_false (show ¬ (k : Int) ≤ (j : Int) by omega),cond_false,bindL_inr]) _ i (Nat.le_refl _),bindL_inr]
    rw [scanDownG (L:=Ffbn_lc D (a : Int) B Q () (((scanUp (fun x=>!ltE d[a]! x) d j i : Nat)) : Int) ((i : Int),(j : Int),d.toList)) (out:=fun k=>(k : Int)) (p:=fun x=>ltE d[a]! x) (d:=d) (i:=scanUp (fun x=>!ltE d[a]! x) d j i) (m:=j) (by omega)
      (fun k hkm hk=>by
        rw [Ffbn_lc_eq,Ffbn_lc_F]
        simp only [decide_eq_true (show ((scanUp (fun x=>!ltE d[a]! x) d j i : Nat) : Int) ≤ (k : Int) by omega),cond_true,gA ha,gA (show k < d.size by omega),Option.bind_some,impl_cmp,bindL_inr,show w64 ((k : Int) - 1)=(k : Int) - 1 from w64_id (by omega) (by omega)]
        rfl)
      (fun k hk=>by
        rw [Ffbn_lc_eq,Ffbn_lc_F]
        simp only [decide_eq_false (show ¬ ((scanUp (fun x=>!ltE d[a]! x) d j i : Nat) : Int) ≤ (k : Int) by omega),cond_false,bindL_inr]) j (Nat.le_refl j),bindL_inr]
    generalize scanUp (fun x=>!ltE d[a]! x) d j i=i2 at *
    generalize scanDown (fun x=>ltE d[a]! x) d i2 j=j2 at *
    by_cases hq : i2 > j2
    · simp only [decide_eq_true (show (i2 : Int) > (j2 : Int) by omega),cond_true]
      rw [if_pos hq]
    · simp only [decide_eq_false (show ¬ (i2 : Int) > (j2 : Int) by omega),cond_false,gA (show j2 < d.size by omega),gA (show i2 < d.size by omega),Option.bind_some,gSb (show j2 < d.size by omega),sA,w64_succ (show i2 < 9223372036854775807 by omega),show w64 ((j2 : Int) - 1)=((j2 - 1 : Nat) : Int) from by rw [w64_id (by omega) (by omega)]; omega]
      rw [if_neg hq]
      exact ih (i2 + 1) (j2 - 1) _ (by omega) (by omega) (by rw [size_swp]; exact ha) (by rw [size_swp]; omega) (by rw [size_swp]; exact hs)
theorem partEqLoop_size (a : Nat) : ∀ (n i j : Nat) (d : Array Event),j + 1 - i ≤ n→(partEqLoop ltE a i j d).2.size=d.size:=by
  intro n
  induction n with
  | zero =>
    intro i j d h
    have u : scanUp (fun x=>!ltE d[a]! x) d j i=i:=by rw [scanUp,decide_eq_false (by omega),Bool.false_and]; rfl
    have hd:=scanDown_ge (p:=fun x=>ltE d[a]! x) (d:=d) (i:=i) (j:=j)
    rw [partEqLoop_eq,u,if_pos (by omega)]
  | succ n ih =>
    intro i j d h
    have hu:=scanUp_ge (fun x=>!ltE d[a]! x) d j i
    have hd:=scanDown_ge (p:=fun x=>ltE d[a]! x) (d:=d) (i:=scanUp (fun x=>!ltE d[a]! x) d j i) (j:=j)
    rw [partEqLoop_eq]
    split
    · rfl
    · rw [ih _ _ _ (by omega),size_swp]
theorem gen_partEq (d : Array Event) (a b p : Nat) (h1 : a < b) (hb : b ≤ d.size) (hp : p < d.size) (hs : d.size ≤ 1048576) : Ffbn d.toList (a : Int) (b : Int) (p : Int) ()=some (((partitionEqual ltE d a b p).1 : Int),(partitionEqual ltE d a b p).2.toList):=by
  unfold Ffbn partitionEqual
  have w : w64 ((b : Int) - 1)=((b - 1 : Nat) : Int):=by rw [w64_id (by omega) (by omega)]; omega
  simp only [gA hp,gA (show a < d.size by omega),Option.bind_some,gSb hp,sA,w,w64_succ (show a < 9223372036854775807 by omega)]
  rw [partEq_la d.toList (b : Int) (p : Int) a _ (a + 1) (b - 1) (swp d a p) (Nat.le_refl _) (by omega) (by rw [size_swp]; omega) (by rw [size_swp]; omega) (by rw [size_swp]; exact hs),bindJ_inr]
  simp only []
  rw [beqA (by rw [partEqLoop_size _ _ _ _ _ (Nat.le_refl _),size_swp]),cond_true]
/-! the part -/
theorem part_lc (D : List Event) (B Q : Int) (a : Nat) : ∀ (n i j : Nat) (d : Array Event),j + 1 - i ≤ n→1 ≤ i→a < d.size→j < d.size→d.size ≤ 1048576→Ffbm_lc D (a : Int) B Q () ((i : Int),(j : Int),d.toList)=some (.inr (((partLoop ltE a i j d).1 : Int),(partLoop ltE a i j d).2.toList)):=by
  intro n
  induction n with
  | zero =>
    intro i j d h h1 ha hj hs
    have u : scanUp (fun x=>ltE x d[a]!) d j i=i:=by rw [scanUp,decide_eq_false (by omega),Bool.false_and]; rfl
    have hd : scanDown (fun x=>!ltE x d[a]!) d i j=j:=by
      cases j with
      | zero=>rfl
      | succ j=>rw [scanDown,decide_eq_false (by omega),Bool.false_and]; rfl
    rw [Ffbm_lc_eq,Ffbm_lc_F,partLoop_eq,u,hd]
    rw [Ffbm_ld_eq,Ffbm_ld_F]
    simp only [decide_eq_false (show ¬ (i : Int) ≤ (j : Int) by omega),cond_false,bindL_inr]
    rw [Ffbm_le_eq,Ffbm_le_F]
    simp only [decide_eq_false (show ¬ (i : Int) ≤ (j : Int) by omega),cond_false,bindL_inr,decide_eq_true (show (i : Int) > (j : Int) by omega),cond_true]
    rw [if_pos (by omega)]
  | succ n ih =>
    intro i j d h h1 ha hj hs
    have hu:=scanUp_ge (fun x=>ltE x d[a]!) d j i
    have hd:=scanDown_ge (p:=fun x=>!ltE x d[a]!) (d:=d) (i:=scanUp (fun x=>ltE x d[a]!) d j i) (j:=j)
    rw [Ffbm_lc_eq,Ffbm_lc_F,partLoop_eq]
    simp only []
    rw [scanUpG (L:=Ffbm_ld D (a : Int) B Q () ((i : Int),(j : Int),d.toList)) (out:=fun k=>(k : Int)) (p:=fun x=>ltE x d[a]!) (d:=d) (j:=j)
      (fun k hk=>by
        rw [Ffbm_ld_eq,Ffbm_ld_F]
        simp only [decide_eq_true (show (k : Int) ≤ (j : Int) by omega),cond_true,gA ha,gA (show k < d.size by omega),Option.bind_some,impl_cmp,bindL_inr,w64_succ (show k < 9223372036854775807 by omega)]
        rfl)
      (fun k hk=>by
        rw [Ffbm_ld_eq,Ffbm_ld_F]
        simp only [decide_eq_false (show ¬ (k : Int) ≤ (j : Int) by omega),cond_false,bindL_inr]) _ i (Nat.le_refl _),bindL_inr]
    rw [scanDownG (L:=Ffbm_le D (a : Int) B Q () (((scanUp (fun x=>ltE x d[a]!) d j i : Nat)) : Int) ((i : Int),(j : Int),d.toList)) (out:=fun k=>(k : Int)) (p:=fun x=>!ltE x d[a]!) (d:=d) (i:=scanUp (fun x=>ltE x d[a]!) d j i) (m:=j) (by omega)
      (fun k hkm hk=>by
        rw [Ffbm_le_eq,Ffbm_le_F]
        simp only [decide_eq_true (show ((scanUp (fun x=>ltE x d[a]!) d j i : Nat) : Int) ≤ (k : Int) by omega),cond_true,gA ha,gA (show k < d.size by omega),Option.bind_some,impl_cmp,bindL_inr,show w64 ((k : Int) - 1)=(k : Int) - 1 from w64_id (by omega) (by omega)]
        rfl)
      (fun k hk=>by
        rw [Ffbm_le_eq,Ffbm_le_F]
        simp only [decide_eq_false (show ¬ ((scanUp (fun x=>ltE x d[a]!) d j i : Nat) : Int) ≤ (k : Int) by omega),cond_false,bindL_inr]) j (Nat.le_refl j),bindL_inr]
    generalize scanUp (fun x=>ltE x d[a]!) d j i=i2 at *
    generalize scanDown (fun x=>!ltE x d[a]!) d i2 j=j2 at *
    by_cases hq : i2 > j2
    · simp only [decide_eq_true (show (i2 : Int) > (j2 : Int) by omega),cond_true]
      rw [if_pos hq]
    · simp only [decide_eq_false (show ¬ (i2 : Int) > (j2 : Int) by omega),cond_false,gA (show j2 < d.size by omega),gA (show i2 < d.size by omega),Option.bind_some,gSb (show j2 < d.size by omega),sA,w64_succ (show i2 < 9223372036854775807 by omega),show w64 ((j2 : Int) - 1)=((j2 - 1 : Nat) : Int) from by rw [w64_id (by omega) (by omega)]; omega]
      rw [if_neg hq]
      exact ih (i2 + 1) (j2 - 1) _ (by omega) (by omega) (by rw [size_swp]; exact ha) (by rw [size_swp]; omega) (by rw [size_swp]; exact hs)
theorem partLoop_facts (a : Nat) : ∀ (n i j : Nat) (d : Array Event),j + 1 - i ≤ n→(partLoop ltE a i j d).2.size=d.size ∧ (partLoop ltE a i j d).1 ≤ j:=by
  intro n
  induction n with
  | zero =>
    intro i j d h
    have hu:=scanUp_ge (fun x=>ltE x d[a]!) d j i
    have hd:=scanDown_ge (p:=fun x=>!ltE x d[a]!) (d:=d) (i:=scanUp (fun x=>ltE x d[a]!) d j i) (j:=j)
    rw [partLoop_eq,if_pos (by omega)]
    exact ⟨rfl,hd⟩
  | succ n ih =>
    intro i j d h
    have hu:=scanUp_ge (fun x=>ltE x d[a]!) d j i
    have hd:=scanDown_ge (p:=fun x=>!ltE x d[a]!) (d:=d) (i:=scanUp (fun x=>ltE x d[a]!) d j i) (j:=j)
    rw [partLoop_eq]
    split
    · exact ⟨rfl,hd⟩
    · obtain ⟨e1,e2⟩:=ih (scanUp (fun x=>ltE x d[a]!) d j i + 1) (scanDown (fun x=>!ltE x d[a]!) d (scanUp (fun x=>ltE x d[a]!) d j i) j - 1) (swp d (scanUp (fun x=>ltE x d[a]!) d j i) (scanDown (fun x=>!ltE x d[a]!) d (scanUp (fun x=>ltE x d[a]!) d j i) j)) (by omega)
      exact ⟨by rw [e1,size_swp],by omega⟩
theorem partition_size (d : Array Event) (a b p : Nat) : (partition ltE d a b p).2.2.size=d.size:=by
  unfold partition
  simp only []
  split
  · simp only [size_swp]
  · simp only [size_swp,(partLoop_facts a _ _ _ _ (Nat.le_refl _)).1]
theorem gen_part (d : Array Event) (a b p : Nat) (h1 : a < b) (hb : b ≤ d.size) (hp : p < d.size) (hs : d.size ≤ 1048576) : Ffbm d.toList (a : Int) (b : Int) (p : Int) () = some (((partition ltE d a b p).1 : Int), (partition ltE d a b p).2.1, (partition ltE d a b p).2.2.toList) := by
  have hz := partition_size d a b p
  unfold Ffbm
  have ha : a < d.size := by omega
  have w : w64 ((b : Int) - 1) = ((b - 1 : Nat) : Int) := by rw [w64_id (by omega) (by omega)]; omega
  simp only [gA hp, gA ha, Option.bind_some, gSb hp, sA, w64_succ (show a < 9223372036854775807 by omega)]
  unfold partition at hz ⊢
  simp only [] at hz ⊢
  have hg : (swp d a p).size = d.size := size_swp d a p
  generalize hD : swp d a p = d1 at *
  have e0 : setI (setI d.toList (a : Int) d[p]!) (p : Int) d[a]! = d1.toList := by rw [sA, hD]
  have hu := scanUp_ge (fun x => ltE x d1[a]!) d1 (b - 1) (a + 1)
  have hd := scanDown_ge (p := fun x => !ltE x d1[a]!) (d := d1) (i := scanUp (fun x => ltE x d1[a]!) d1 (b - 1) (a + 1)) (j := b - 1)
  rw [scanUpG (L := Ffbm_la d.toList (a : Int) (b : Int) (p : Int) () d[p]! d[a]!) (out := fun k => ((k : Int), ((b - 1 : Nat) : Int))) (p := fun x => ltE x d1[a]!) (d := d1) (j := b - 1)
      (fun k hk => by
        rw [Ffbm_la_eq, Ffbm_la_F]
        simp only [w, decide_eq_true (show (k : Int) ≤ ((b - 1 : Nat) : Int) by omega), cond_true, e0, gA (show a < d1.size by omega), gA (show k < d1.size by omega), Option.bind_some, impl_cmp, bindL_inr, w64_succ (show k < 9223372036854775807 by omega)]
        rfl)
      (fun k hk => by
        rw [Ffbm_la_eq, Ffbm_la_F]
        simp only [w, decide_eq_false (show ¬ (k : Int) ≤ ((b - 1 : Nat) : Int) by omega), cond_false, bindL_inr]) _ (a + 1) (Nat.le_refl _), bindJ_inr]
  simp only []
  rw [scanDownG (L := Ffbm_lb d.toList (a : Int) (b : Int) (p : Int) () (((scanUp (fun x => ltE x d1[a]!) d1 (b - 1) (a + 1) : Nat) : Int), ((b - 1 : Nat) : Int)) d[p]! d[a]!) (out := fun k => (k : Int)) (p := fun x => !ltE x d1[a]!) (d := d1) (i := scanUp (fun x => ltE x d1[a]!) d1 (b - 1) (a + 1)) (m := b - 1) (by omega)
      (fun k hkm hk => by
        rw [Ffbm_lb_eq, Ffbm_lb_F]
        simp only [decide_eq_true (show ((scanUp (fun x => ltE x d1[a]!) d1 (b - 1) (a + 1) : Nat) : Int) ≤ (k : Int) by omega), cond_true, e0, gA (show a < d1.size by omega), gA (show k < d1.size by omega), Option.bind_some, impl_cmp, bindL_inr, show w64 ((k : Int) - 1) = (k : Int) - 1 from w64_id (by omega) (by omega)]
        rfl)
      (fun k hk => by
        rw [Ffbm_lb_eq, Ffbm_lb_F]
        simp only [decide_eq_false (show ¬ ((scanUp (fun x => ltE x d1[a]!) d1 (b - 1) (a + 1) : Nat) : Int) ≤ (k : Int) by omega), cond_false, bindL_inr]) (b - 1) (Nat.le_refl _), bindJ_inr]
  generalize scanUp (fun x => ltE x d1[a]!) d1 (b - 1) (a + 1) = i2 at *
  generalize scanDown (fun x => !ltE x d1[a]!) d1 i2 (b - 1) = j2 at *
  have ha1 : a < d1.size := by omega
  by_cases hq : i2 > j2
  · rw [if_pos hq] at hz ⊢
    simp only [decide_eq_true (show (i2 : Int) > (j2 : Int) by omega), cond_true, gA (show j2 < d1.size by omega), gA ha1, Option.bind_some, gSb ha1, sA]
    rw [beqA (by rw [size_swp]; exact hg), cond_true]
  · rw [if_neg hq] at hz ⊢
    simp only [decide_eq_false (show ¬ (i2 : Int) > (j2 : Int) by omega), cond_false, gA (show j2 < d1.size by omega), gA (show i2 < d1.size by omega), Option.bind_some, gSb (show j2 < d1.size by omega), sA, w64_succ (show i2 < 9223372036854775807 by omega), show w64 ((j2 : Int) - 1) = ((j2 - 1 : Nat) : Int) from by rw [w64_id (by omega) (by omega)]; omega]
    rw [part_lc d.toList (b : Int) (p : Int) a _ (i2 + 1) (j2 - 1) _ (Nat.le_refl _) (by omega) (by rw [size_swp]; exact ha1) (by rw [size_swp]; omega) (by rw [size_swp]; omega), bindJ_inr]
    obtain ⟨f1, f2⟩ := partLoop_facts a _ (i2 + 1) (j2 - 1) (swp d1 i2 j2) (Nat.le_refl _)
    rw [size_swp] at f1
    generalize partLoop ltE a (i2 + 1) (j2 - 1) (swp d1 i2 j2) = R at *
    simp only [gA (show a < R.2.size by omega), gA (show R.1 < R.2.size by omega), Option.bind_some, gSb (show a < R.2.size by omega), sA]
    rw [beqA (by rw [size_swp]; omega), cond_true]
/-! the partial insertion sort -/
theorem scanSorted_b (d : Array Event) (b : Nat) : ∀ (n i : Nat),b - i ≤ n→i ≤ b→i ≤ scanSorted ltE d b i ∧ scanSorted ltE d b i ≤ b
  | n,i,h,hi=>by
    rw [scanSorted]
    split
    · rename_i hc
      simp only [Bool.and_eq_true,decide_eq_true_eq] at hc
      match n,h with
      | 0,h=>omega
      | n + 1,h =>
        have:=scanSorted_b d b n (i + 1) (by omega) (by omega)
        omega
    · omega
theorem pis_lb (D : List Event) (A B : Int) (b : Nat) (d : Array Event) (X : Int × Int × Int × Int × List Event) (hX : X.2.1=(b : Int)) (hz : X.2.2.2.2=d.toList) (hb : b ≤ d.size) (hs : d.size ≤ 1048576) : ∀ (n i : Nat),b - i ≤ n→1 ≤ i→Ffbl_lb D A B () X (i : Int)=some (.inr ((scanSorted ltE d b i : Nat) : Int))
  | n,i,h,h1=>by
    rw [Ffbl_lb_eq,Ffbl_lb_F,scanSorted,hX,hz]
    by_cases hi : i < b
    · rw [decide_eq_true (show (i : Int) < (b : Int) by omega),decide_eq_true hi,cond_true,Bool.true_and,show w64 ((i : Int) - 1)=((i - 1 : Nat) : Int) from by rw [w64_id (by omega) (by omega)]; omega,gA (show i < d.size by omega),Option.bind_some,gA (show i - 1 < d.size by omega),Option.bind_some,impl_cmp,Option.bind_some,bindL_inr,w64_succ (by omega)]
      rw [show decide (cmpE d[i]! d[i - 1]! < 0)=ltE d[i]! d[i - 1]! from rfl]
      match n,h with
      | 0,h=>omega
      | n + 1,h =>
        cases ltE d[i]! d[i - 1]! with
        | true=>rfl
        | false=>rw [Bool.not_false,cond_true,if_pos rfl]; exact pis_lb D A B b d X hX hz hb hs n (i + 1) (by omega) (by omega)
    · rw [decide_eq_false (show ¬ (i : Int) < (b : Int) by omega),decide_eq_false hi,cond_false,bindL_inr,cond_false,Bool.false_and]
      rfl
theorem shiftUp_size (b : Nat) : ∀ (n j : Nat) (d : Array Event),b - j ≤ n→(shiftUp ltE b j d).size=d.size
  | n,j,d,h=>by
    rw [shiftUp]
    split
    · split
      · rfl
      · match n,h with
        | 0,h=>omega
        | n + 1,h=>rw [shiftUp_size b n (j + 1) _ (by omega),size_swp]
    · rfl
theorem shiftDown_size : ∀ (j : Nat) (d : Array Event),(shiftDown ltE j d).size=d.size
  | 0,d=>rfl
  | j + 1,d=>by
    rw [shiftDown]
    split
    · rfl
    · rw [shiftDown_size j,size_swp]
theorem pis_lc (D : List Event) (A B U : Int) (b : Nat) (X : Int × Int × Int × Int × List Event) (hX : X.2.1=(b : Int)) : ∀ (n j : Nat) (d : Array Event),b - j ≤ n→1 ≤ j→b ≤ d.size→d.size ≤ 1048576→Ffbl_lc D A B () X U ((j : Int),d.toList)=some (.inr (shiftUp ltE b j d).toList)
  | n,j,d,h,h1,hb,hs=>by
    rw [Ffbl_lc_eq,Ffbl_lc_F,shiftUp]
    by_cases hj : j < b
    · have w : w64 ((j : Int) - 1)=((j - 1 : Nat) : Int):=by rw [w64_id (by omega) (by omega)]; omega
      simp only [hX,decide_eq_true (show (j : Int) < (b : Int) by omega),cond_true,w,gA (show j < d.size by omega),gA (show j - 1 < d.size by omega),Option.bind_some,impl_cmp,gSb (show j - 1 < d.size by omega),sA,w64_succ (show j < 9223372036854775807 by omega)]
      rw [if_pos hj]
      rw [show decide (cmpE d[j]! d[j - 1]! < 0)=ltE d[j]! d[j - 1]! from rfl]
      match n,h with
      | 0,h=>omega
      | n + 1,h =>
        cases ltE d[j]! d[j - 1]! with
        | false=>rfl
        | true=>rw [Bool.not_true,cond_false,if_neg (by decide)]; exact pis_lc D A B U b X hX n (j + 1) _ (by omega) (by omega) (by rw [size_swp]; exact hb) (by rw [size_swp]; exact hs)
    · simp only [hX,decide_eq_false (show ¬ (j : Int) < (b : Int) by omega),cond_false]
      rw [if_neg hj]
theorem pis_ld (D : List Event) (A B U : Int) (X : Int × Int × Int × Int × List Event) : ∀ (j : Nat) (d : Array Event),j < d.size→d.size ≤ 1048576→Ffbl_ld D A B () X U ((j : Int),d.toList)=some (.inr (shiftDown ltE j d).toList)
  | 0,d,hj,hs=>by
    rw [Ffbl_ld_eq,Ffbl_ld_F]
    rfl
  | j + 1,d,hj,hs=>by
    have w : w64 (((j + 1 : Nat) : Int) - 1)=(j : Int):=by rw [w64_id (by omega) (by omega)]; omega
    rw [Ffbl_ld_eq,Ffbl_ld_F,shiftDown]
    simp only [decide_eq_true (show ((j + 1 : Nat) : Int) ≥ 1 by omega),cond_true,w,gA hj,gA (show j < d.size by omega),Option.bind_some,impl_cmp,gSb (show j < d.size by omega),sA]
    rw [show decide (cmpE d[j + 1]! d[j]! < 0)=ltE d[j + 1]! d[j]! from rfl]
    cases ltE d[j + 1]! d[j]! with
    | false=>rfl
    | true=>rw [Bool.not_true,cond_false,if_neg (by decide)]; exact pis_ld D A B U X j _ (by rw [size_swp]; omega) (by rw [size_swp]; exact hs)
theorem partialIns_size (a b : Nat) : ∀ (s i : Nat) (d : Array Event),(partialIns ltE a b s i d).1.size=d.size
  | 0,i,d=>rfl
  | s + 1,i,d=>by
    rw [partialIns]
    simp only []
    split
    · rfl
    · split
      · rfl
      · rw [partialIns_size a b s]
        split
        · rw [shiftUp_size _ _ _ _ (Nat.le_refl _)]
          split
          · rw [shiftDown_size,size_swp]
          · rw [size_swp]
        · split
          · rw [shiftDown_size,size_swp]
          · rw [size_swp]
theorem pis_la (D : List Event) (A B : Int) (a b : Nat) (hab : a < b) : ∀ (s i : Nat) (d : Array Event), s ≤ 5 → a + 1 ≤ i → i ≤ b → b ≤ d.size → d.size ≤ 1048576 → D.length = d.size →
    ∃ y, Ffbl_la D A B () ((a : Int), (b : Int), (i : Int), (5 : Int) - (s : Int), d.toList) = some y ∧ (y = .inl ((partialIns ltE a b s i d).2, (partialIns ltE a b s i d).1.toList) ∨ (y = .inr (partialIns ltE a b s i d).1.toList ∧ (partialIns ltE a b s i d).2 = false))
  | 0, i, d, h5, hi, hib, hb, hs, hD => by
    rw [Ffbl_la_eq, Ffbl_la_F]
    simp only [decide_eq_false (show ¬ (5 : Int) - ((0 : Nat) : Int) < 5 by omega), cond_false]
    exact ⟨_, rfl, .inr ⟨rfl, rfl⟩⟩
  | s + 1, i, d, h5, hi, hib, hb, hs, hD => by
    have hsc := scanSorted_b d b _ i (Nat.le_refl _) hib
    have hbq : Nat.beq d.toList.length D.length = true := by rw [hD, Array.length_toList, Nat.beq_refl]
    have wba : w64 ((b : Int) - (a : Int)) = ((b - a : Nat) : Int) := by rw [w64_id (by omega) (by omega)]; omega
    rw [Ffbl_la_eq, Ffbl_la_F]
    simp only [decide_eq_true (show (5 : Int) - ((s + 1 : Nat) : Int) < 5 by omega), cond_true]
    rw [pis_lb D A B b d _ rfl rfl hb hs _ i (Nat.le_refl _) (by omega), bindL_inr, partialIns]
    simp only []
    generalize scanSorted ltE d b i = k at *
    by_cases hk : k = b
    · rw [beq_iff_eq.2 (show (k : Int) = (b : Int) by omega), cond_true, hbq, cond_true, if_pos hk]
      exact ⟨_, rfl, .inl rfl⟩
    rw [beq_eq_false_iff_ne.2 (show (k : Int) ≠ (b : Int) by omega), cond_false, if_neg hk, wba]
    by_cases h50 : b - a < 50
    · rw [decide_eq_true (show ((b - a : Nat) : Int) < 50 by omega), cond_true, hbq, cond_true, if_pos h50]
      exact ⟨_, rfl, .inl rfl⟩
    rw [decide_eq_false (show ¬ ((b - a : Nat) : Int) < 50 by omega), cond_false, if_neg h50]
    have w : w64 ((k : Int) - 1) = ((k - 1 : Nat) : Int) := by rw [w64_id (by omega) (by omega)]; omega
    have wka : w64 ((k : Int) - (a : Int)) = ((k - a : Nat) : Int) := by rw [w64_id (by omega) (by omega)]; omega
    have wbk : w64 ((b : Int) - (k : Int)) = ((b - k : Nat) : Int) := by rw [w64_id (by omega) (by omega)]; omega
    have w5 : w64 ((5 : Int) - ((s + 1 : Nat) : Int) + 1) = (5 : Int) - (s : Int) := by rw [w64_id (by omega) (by omega)]; omega
    simp only [w, wka, wbk, w5, gA (show k < d.size by omega), gA (show k - 1 < d.size by omega), Option.bind_some, gSb (show k - 1 < d.size by omega), sA, w64_succ (show k < 9223372036854775807 by omega)]
    have hz : (swp d k (k - 1)).size = d.size := size_swp d k (k - 1)
    generalize swp d k (k - 1) = d1 at *
    have e1 : (bif decide (((k - a : Nat) : Int) ≥ 2) then (bindL (ρ := Bool × List Event) (Ffbl_ld D A B () ((a : Int), (b : Int), (i : Int), (5 : Int) - ((s + 1 : Nat) : Int), d.toList) (k : Int) (((k - 1 : Nat) : Int), d1.toList)) fun u60 : List Event => some (.inr u60)) else some (.inr d1.toList)) = some (.inr (if k - a ≥ 2 then shiftDown ltE (k - 1) d1 else d1).toList) := by
      by_cases h2 : k - a ≥ 2
      · rw [decide_eq_true (show ((k - a : Nat) : Int) ≥ 2 by omega), cond_true, if_pos h2, pis_ld D A B _ _ (k - 1) d1 (by omega) (by omega), bindL_inr]
      · rw [decide_eq_false (show ¬ ((k - a : Nat) : Int) ≥ 2 by omega), cond_false, if_neg h2]
    rw [e1, bindL_inr]
    have hz2 : (if k - a ≥ 2 then shiftDown ltE (k - 1) d1 else d1).size = d.size := by
      split
      · rw [shiftDown_size, hz]
      · exact hz
    generalize (if k - a ≥ 2 then shiftDown ltE (k - 1) d1 else d1) = d2 at *
    have e2 : (bif decide (((b - k : Nat) : Int) ≥ 2) then (bindL (ρ := Bool × List Event) (Ffbl_lc D A B () ((a : Int), (b : Int), (i : Int), (5 : Int) - ((s + 1 : Nat) : Int), d.toList) (k : Int) (((k + 1 : Nat) : Int), d2.toList)) fun u42 : List Event => some (.inr u42)) else some (.inr d2.toList)) = some (.inr (if b - k ≥ 2 then shiftUp ltE b (k + 1) d2 else d2).toList) := by
      by_cases h2 : b - k ≥ 2
      · rw [decide_eq_true (show ((b - k : Nat) : Int) ≥ 2 by omega), cond_true, if_pos h2, pis_lc D A B _ b _ rfl _ (k + 1) d2 (Nat.le_refl _) (by omega) (by omega) (by omega), bindL_inr]
      · rw [decide_eq_false (show ¬ ((b - k : Nat) : Int) ≥ 2 by omega), cond_false, if_neg h2]
    rw [e2, bindL_inr]
    have hz3 : (if b - k ≥ 2 then shiftUp ltE b (k + 1) d2 else d2).size = d.size := by
      split
      · rw [shiftUp_size _ _ _ _ (Nat.le_refl _), hz2]
      · exact hz2
    exact pis_la D A B a b hab s k _ (by omega) (by omega) (by omega) (by omega) (by omega) (by omega)
theorem gen_pis (d : Array Event) (a b : Nat) (hab : a < b) (hb : b ≤ d.size) (hs : d.size ≤ 1048576) : Ffbl d.toList (a : Int) (b : Int) ()=some ((partialInsertionSort ltE d a b).2,(partialInsertionSort ltE d a b).1.toList):=by
  unfold Ffbl partialInsertionSort
  obtain ⟨y,hy,hq⟩:=pis_la d.toList (a : Int) (b : Int) a b hab 5 (a + 1) d (Nat.le_refl _) (Nat.le_refl _) (by omega) hb hs Array.length_toList
  rw [w64_succ (by omega),show Ffbl_la d.toList (a : Int) (b : Int) () ((a : Int),(b : Int),((a + 1 : Nat) : Int),0,d.toList)=some y from hy]
  rcases hq with rfl | ⟨rfl,h2⟩
  · rfl
  · rw [bindJ_inr,beqA (partialIns_size a b 5 (a + 1) d),cond_true,h2]
/-! the whole of it -/
theorem pdq_of_la (h : SWO ltE) (d : Array Event) (a b limit : Nat) {R : Array Event} (hz : R.size = d.size)
    (e : Ffbo_la (fixO Ffbo_G) d.toList (a : Int) (b : Int) (limit : Int) () ((a : Int), (b : Int), (limit : Int), true, true, d.toList) = some (.inl R.toList)) :
    fixO Ffbo_G (d.toList, (a : Int), (b : Int), (limit : Int), ()) = some R.toList := by
  have := Ffbo_eq d.toList (a : Int) (b : Int) (limit : Int) ()
  unfold Ffbo at this
  rw [this]
  unfold Ffbo_B
  rw [e, bindJ_inl]
theorem pdq_la (h : SWO ltE) : ∀ (n a b limit : Nat) (wb wp : Bool) (d : Array Event) (D : List Event) (A B Lm : Int), b - a ≤ n → a ≤ b → b ≤ d.size → d.size ≤ 1048576 → limit ≤ 1000 → D.length = d.size → Below ltE a b d →
    ∃ R : Array Event, Ffbo_la (fixO Ffbo_G) D A B Lm () ((a : Int), (b : Int), (limit : Int), wb, wp, d.toList) = some (.inl R.toList) ∧ PermIn a b d R ∧ SortedIn ltE a b R := by
  intro n
  induction n with
  | zero =>
    intro a b limit wb wp d D A B Lm hn hab hb hs hl hD hB
    have hi := insertionSort_holds (lt := ltE) h d a b hab hb
    refine ⟨insertionSort ltE d a b, ?_, hi⟩
    rw [Ffbo_la_eq, Ffbo_la_F]
    simp only [show w64 ((b : Int) - (a : Int)) = ((b - a : Nat) : Int) from by rw [w64_id (by omega) (by omega)]; omega, decide_eq_true (show ((b - a : Nat) : Int) ≤ 12 by omega), cond_true]
    rw [gen_ins d a b hb hab hs, Option.bind_some, beqA hi.1.1, cond_true, show Nat.beq (insertionSort ltE d a b).toList.length D.length = true from by rw [hD, Array.length_toList, hi.1.1, Nat.beq_refl], cond_true]
  | succ n ih =>
    intro a b limit wb wp d D A B Lm hn hab hb hs hl hD hB
    have wba : w64 ((b : Int) - (a : Int)) = ((b - a : Nat) : Int) := by rw [w64_id (by omega) (by omega)]; omega
    have hDq : ∀ R : Array Event, R.size = d.size → Nat.beq R.toList.length D.length = true := fun R hR => by rw [hD, Array.length_toList, hR, Nat.beq_refl]
    rw [Ffbo_la_eq, Ffbo_la_F]
    simp only [wba]
    by_cases h12 : b - a ≤ 12
    · have hi := insertionSort_holds (lt := ltE) h d a b hab hb
      refine ⟨insertionSort ltE d a b, ?_, hi⟩
      rw [decide_eq_true (show ((b - a : Nat) : Int) ≤ 12 by omega), cond_true, gen_ins d a b hb hab hs, Option.bind_some, beqA hi.1.1, cond_true, hDq _ hi.1.1, cond_true]
    rw [decide_eq_false (show ¬ ((b - a : Nat) : Int) ≤ 12 by omega), cond_false]
    by_cases hl0 : limit = 0
    · have hi := heapSort_holds (lt := ltE) h d a b hab hb
      refine ⟨heapSort ltE d a b, ?_, hi⟩
      rw [beq_iff_eq.2 (show (limit : Int) = 0 by omega), cond_true, gen_heap d a b (by omega) hb hs, Option.bind_some, beqA hi.1.1, cond_true, hDq _ hi.1.1, cond_true]
    rw [beq_eq_false_iff_ne.2 (show (limit : Int) ≠ 0 by omega), cond_false]
    -- the patterns
    obtain ⟨l1, d1, e1, s1, hl1⟩ : ∃ (l1 : Nat) (d1 : Array Event), (bif !wb then ((Ffbd d.toList (a : Int) (b : Int) ()).bind fun r37 => bif Nat.beq r37.length d.toList.length then (some (Sum.inr (α := List Event) (w64 ((limit : Int) - 1), r37))) else none) else (some (.inr ((limit : Int), d.toList)))) = some (.inr ((l1 : Int), d1.toList)) ∧ PermIn a b d d1 ∧ l1 ≤ limit := by
      cases wb with
      | true => exact ⟨limit, d, rfl, permIn_refl d a b, Nat.le_refl _⟩
      | false =>
        refine ⟨limit - 1, breakPatterns d a b, ?_, breakPatterns_holds d a b hab hb, by omega⟩
        rw [Bool.not_false, cond_true, gen_brk d a b hab hb hs, Option.bind_some, beqA (breakPatterns_size d a b), cond_true, show w64 ((limit : Int) - 1) = ((limit - 1 : Nat) : Int) from by rw [w64_id (by omega) (by omega)]; omega]
    rw [e1, bindL_inr]
    have z1 : d1.size = d.size := s1.1
    have b1 : b ≤ d1.size := by rw [z1]; exact hb
    have hc0 := choosePivot_holds ltE d1 a b (by omega)
    simp only []
    rw [gen_pivot d1 a b (by omega) b1 (by omega), Option.bind_some]
    obtain ⟨pv, hint, d2, e2, s2, hp1, hp2⟩ : ∃ (pv : Nat) (hint : Int) (d2 : Array Event), (bif (hintCode (choosePivot ltE d1 a b).2 == 2) then ((Ffbp d1.toList (a : Int) (b : Int) ()).bind fun r35 => bif Nat.beq r35.length d1.toList.length then (some (Sum.inr (α := List Event) ((w64 ((w64 ((b : Int) - 1)) - (w64 (((choosePivot ltE d1 a b).1 : Int) - (a : Int))))), (1 : Int), r35))) else none) else (some (.inr (((choosePivot ltE d1 a b).1 : Int), hintCode (choosePivot ltE d1 a b).2, d1.toList)))) = some (.inr ((pv : Int), hint, d2.toList)) ∧ PermIn a b d1 d2 ∧ a ≤ pv ∧ pv < b := by
      cases hq : (hintCode (choosePivot ltE d1 a b).2 == 2) with
      | true =>
        refine ⟨(b - 1) - ((choosePivot ltE d1 a b).1 - a), 1, reverseRange d1 a b, ?_, reverseRange_holds d1 a b hab b1, by omega, by omega⟩
        rw [cond_true, gen_rev d1 a b b1 (by omega) (by omega), Option.bind_some, beqA (reverseRange_holds d1 a b hab b1).1, cond_true, show w64 ((b : Int) - 1) = ((b - 1 : Nat) : Int) from by rw [w64_id (by omega) (by omega)]; omega, show w64 (((choosePivot ltE d1 a b).1 : Int) - (a : Int)) = (((choosePivot ltE d1 a b).1 - a : Nat) : Int) from by rw [w64_id (by omega) (by omega)]; omega, show w64 (((b - 1 : Nat) : Int) - (((choosePivot ltE d1 a b).1 - a : Nat) : Int)) = (((b - 1) - ((choosePivot ltE d1 a b).1 - a) : Nat) : Int) from by rw [w64_id (by omega) (by omega)]; omega]
      | false => exact ⟨_, _, d1, rfl, permIn_refl d1 a b, hc0.1, hc0.2⟩
    simp only []
    rw [e2, bindL_inr]
    have z2 : d2.size = d.size := by rw [s2.1, z1]
    have b2 : b ≤ d2.size := by rw [z2]; exact hb
    have B2 : Below ltE a b d2 := (hB.perm hb s1).perm b1 s2
    simp only [letJ_eq]
    generalize (bif wb then (bif wp then (hint == 1) else false) else false) = u16
    have hpi := partialInsertionSort_holds (lt := ltE) h d2 a b (by omega) b2 B2
    obtain ⟨y, e3, hy⟩ : ∃ y : List Event ⊕ List Event, (bif u16 then ((Ffbl d2.toList (a : Int) (b : Int) ()).bind fun r31 => bif Nat.beq r31.2.length d2.toList.length then (bif r31.1 then (bif Nat.beq r31.2.length D.length then (some (.inl r31.2)) else none) else (some (.inr r31.2))) else none) else (some (.inr d2.toList))) = some y ∧ ((∃ R : Array Event, y = .inl R.toList ∧ PermIn a b d2 R ∧ SortedIn ltE a b R) ∨ ∃ d3 : Array Event, y = .inr d3.toList ∧ PermIn a b d2 d3) := by
      cases u16 with
      | false => exact ⟨_, rfl, .inr ⟨d2, rfl, permIn_refl d2 a b⟩⟩
      | true =>
        rw [cond_true, gen_pis d2 a b (by omega) b2 (by omega), Option.bind_some]
        simp only []
        rw [beqA hpi.1.1, cond_true]
        cases hq : (partialInsertionSort ltE d2 a b).2 with
        | true =>
          rw [cond_true, hDq _ (by rw [hpi.1.1, z2]), cond_true]
          exact ⟨_, rfl, .inl ⟨_, rfl, hpi.1, hpi.2 hq⟩⟩
        | false => exact ⟨_, rfl, .inr ⟨_, rfl, hpi.1⟩⟩
    rw [e3]
    rcases hy with ⟨R, rfl, r1, r2⟩ | ⟨d3, rfl, s3⟩
    · rw [bindL_inl]
      exact ⟨R, rfl, permIn_trans _ _ _ a b (permIn_trans _ _ _ a b s1 s2) r1, r2⟩
    rw [bindL_inr]
    have z3 : d3.size = d.size := by rw [s3.1, z2]
    have b3 : b ≤ d3.size := by rw [z3]; exact hb
    have B3 : Below ltE a b d3 := B2.perm b2 s3
    have P3 : PermIn a b d d3 := permIn_trans _ _ _ a b (permIn_trans _ _ _ a b s1 s2) s3
    obtain ⟨u18, e4, h18⟩ : ∃ u18 : Bool, (bif decide ((a : Int) > 0) then ((getI d3.toList (w64 ((a : Int) - 1))).bind fun e28 => (getI d3.toList (pv : Int)).bind fun e29 => (Fff e28 e29).bind fun r30 => some (Sum.inr (α := List Event) (!(decide (r30 < 0))))) else (some (.inr false))) = some (.inr u18) ∧ (u18 = true → 0 < a ∧ ltE d3[a - 1]! d3[pv]! = false) := by
      by_cases ha : 0 < a
      · rw [decide_eq_true (show (a : Int) > 0 by omega), cond_true, show w64 ((a : Int) - 1) = ((a - 1 : Nat) : Int) from by rw [w64_id (by omega) (by omega)]; omega, gA (show a - 1 < d3.size by omega), Option.bind_some, gA (show pv < d3.size by omega), Option.bind_some, impl_cmp, Option.bind_some]
        refine ⟨_, rfl, fun hh => ⟨ha, ?_⟩⟩
        simpa [ltE] using hh
      · rw [decide_eq_false (show ¬ (a : Int) > 0 by omega), cond_false]
        exact ⟨_, rfl, fun hh => by cases hh⟩
    rw [e4, bindL_inr]
    cases u18 with
    | true =>
      obtain ⟨ha, hnl⟩ := h18 rfl
      obtain ⟨g1, g2, z4, hB4, hfin⟩ := round_eq h (partitionEqual_holds ltE) (mid := (partitionEqual ltE d3 a b pv).1) (d4 := (partitionEqual ltE d3 a b pv).2) ha hp1 hp2 b3 B3 hnl rfl
      rw [cond_true, gen_partEq d3 a b pv (by omega) b3 (by omega) (by omega), Option.bind_some]
      simp only []
      rw [beqA z4, cond_true]
      obtain ⟨R, e, r1, r2⟩ := ih (partitionEqual ltE d3 a b pv).1 b l1 wb wp (partitionEqual ltE d3 a b pv).2 D A B Lm (by omega) g2 (by omega) (by omega) (by omega) (by omega) hB4
      obtain ⟨q1, q2⟩ := hfin _ r1 r2
      exact ⟨R, e, permIn_trans _ _ _ a b P3 q1, q2⟩
    | false =>
      obtain ⟨g1, g2, z4, hBa, hBr, hleft, hright⟩ := round_part h (partition_holds ltE) (mid := (partition ltE d3 a b pv).1) (ap := (partition ltE d3 a b pv).2.1) (d4 := (partition ltE d3 a b pv).2.2) hp1 hp2 b3 B3 rfl
      rw [cond_false, gen_part d3 a b pv (by omega) b3 (by omega) (by omega), Option.bind_some]
      simp only []
      rw [beqA z4, cond_true]
      generalize partition ltE d3 a b pv = P at *
      have wm1 : w64 ((P.1 : Int) - (a : Int)) = ((P.1 - a : Nat) : Int) := by rw [w64_id (by omega) (by omega)]; omega
      have wm2 : w64 ((b : Int) - (P.1 : Int)) = ((b - P.1 : Nat) : Int) := by rw [w64_id (by omega) (by omega)]; omega
      rw [wm1, wm2, w64_succ (show P.1 < 9223372036854775807 by omega)]
      by_cases hlt : P.1 - a < b - P.1
      · rw [decide_eq_true (show ((P.1 - a : Nat) : Int) < ((b - P.1 : Nat) : Int) by omega), cond_true]
        obtain ⟨L, e, p1, p2⟩ := ih a P.1 l1 true true P.2.2 P.2.2.toList (a : Int) (P.1 : Int) (l1 : Int) (by omega) g1 (by omega) (by omega) (by omega) Array.length_toList hBa
        obtain ⟨hBL, hfin⟩ := hleft _ p1 p2
        rw [pdq_of_la h P.2.2 a P.1 l1 p1.1 e, Option.bind_some, beqA p1.1, cond_true, bindL_inr]
        obtain ⟨R, e', r1, r2⟩ := ih (P.1 + 1) b l1 (decide (((P.1 - a : Nat) : Int) ≥ w64 (((b - a : Nat) : Int).tdiv 8))) P.2.1 L D A B Lm (by omega) (by omega) (by rw [p1.1]; omega) (by rw [p1.1]; omega) (by omega) (by rw [p1.1]; omega) hBL
        obtain ⟨q1, q2⟩ := hfin _ r1 r2
        exact ⟨R, e', permIn_trans _ _ _ a b P3 q1, q2⟩
      · rw [decide_eq_false (show ¬ ((P.1 - a : Nat) : Int) < ((b - P.1 : Nat) : Int) by omega), cond_false]
        obtain ⟨L, e, p1, p2⟩ := ih (P.1 + 1) b l1 true true P.2.2 P.2.2.toList ((P.1 + 1 : Nat) : Int) (b : Int) (l1 : Int) (by omega) (by omega) (by omega) (by omega) (by omega) Array.length_toList hBr
        obtain ⟨hBL, hfin⟩ := hright _ p1 p2
        rw [pdq_of_la h P.2.2 (P.1 + 1) b l1 p1.1 e, Option.bind_some, beqA p1.1, cond_true, bindL_inr]
        obtain ⟨R, e', r1, r2⟩ := ih a P.1 l1 (decide (((b - P.1 : Nat) : Int) ≥ w64 (((b - a : Nat) : Int).tdiv 8))) P.2.1 L D A B Lm (by omega) (by omega) (by rw [p1.1]; omega) (by rw [p1.1]; omega) (by omega) (by rw [p1.1]; omega) hBL
        obtain ⟨q1, q2⟩ := hfin _ r1 r2
        exact ⟨R, e', permIn_trans _ _ _ a b P3 q1, q2⟩
theorem gen_sort (h : SWO ltE) (d : Array Event) (hs : d.size ≤ 1048576) : ∃ R : Array Event,Ffbc d.toList ()=some R.toList ∧ PermIn 0 d.size d R ∧ SortedIn ltE 0 d.size R:=by
  have hb:=bitsLen_24 (n:=d.size) (by omega)
  obtain ⟨R,e,r1,r2⟩:=pdq_la h d.size 0 d.size (bitsLen d.size) true true d d.toList 0 (d.size : Int) ((bitsLen d.size : Nat) : Int) (by omega) (by omega) (Nat.le_refl _) hs (by omega) Array.length_toList (.inl rfl)
  refine ⟨R,?_,r1,r2⟩
  unfold Ffbc Ffbo
  rw [show len d.toList=((d.size : Nat) : Int) from by simp [len],u64_nat (by omega),len_val (by omega),Option.bind_some,show (0 : Int)=((0 : Nat) : Int) from rfl,pdq_of_la h d 0 d.size (bitsLen d.size) r1.1 e,Option.bind_some,beqA r1.1,cond_true,cond_true]
/-! the order of events -/
theorem bl_irrefl : ∀ (a : Str),Op.bytesLess a a=false
  | []=>rfl
  | a :: x=>by
    have h : ¬ a < a:=fun h'=>by have:=UInt8.lt_iff_toNat_lt.1 h'; omega
    simp [Op.bytesLess,h,bl_irrefl x]
theorem bl_trans : ∀ (a b c : Str),Op.bytesLess a b=true→Op.bytesLess b c=true→Op.bytesLess a c=true
  | _,[],_,h,_=>by simp [Op.bytesLess] at h
  | _,_ :: _,[],_,h=>by simp [Op.bytesLess] at h
  | [],_ :: _,_ :: _,_,_=>rfl
  | a :: x,b :: y,c :: z,h1,h2=>by
    simp only [Op.bytesLess,Bool.or_eq_true,decide_eq_true_eq,Bool.and_eq_true,beq_iff_eq] at h1 h2 ⊢
    rcases h1 with h1 | ⟨rfl,h1⟩ <;> rcases h2 with h2 | ⟨rfl,h2⟩
    · exact .inl (UInt8.lt_iff_toNat_lt.2 (by have:=UInt8.lt_iff_toNat_lt.1 h1; have:=UInt8.lt_iff_toNat_lt.1 h2; omega))
    · exact .inl h1
    · exact .inl h2
    · exact .inr ⟨rfl,bl_trans x y z h1 h2⟩
theorem ltE_iff {x y : Event} : ltE x y=true ↔ x.Day < y.Day ∨ (x.Day=y.Day ∧ (x.Party < y.Party ∨ (x.Party=y.Party ∧ (Op.bytesLess x.Action y.Action=true ∨ (x.Action=y.Action ∧ x.Amount < y.Amount))))):=by
  unfold ltE cmpE
  rw [decide_eq_true_eq]
  by_cases h1 : x.Day=y.Day
  · rw [if_pos h1]
    by_cases h2 : x.Party=y.Party
    · rw [if_pos h2]
      cases h3 : Op.bytesLess x.Action y.Action with
      | true=>simp [h1,h2]
      | false =>
        rw [if_neg (by simp)]
        by_cases h4 : x.Action=y.Action
        · rw [if_pos h4]
          by_cases h5 : x.Amount < y.Amount
          · simp [h1,h2,h4,h5]
          · rw [if_neg h5]
            split <;> simp [h1,h2,h4,h5]
        · rw [if_neg h4]
          simp [h1,h2,h4]
    · rw [if_neg h2]
      by_cases h5 : x.Party < y.Party
      · simp [h1,h5]
      · rw [if_neg h5]
        simp [h1,h2,h5]
  · rw [if_neg h1]
    by_cases h5 : x.Day < y.Day
    · simp [h5]
    · rw [if_neg h5]
      simp [h1,h5]
theorem cmpE_zero {x y : Event} (h : cmpE x y=0) : x=y:=by
  unfold cmpE at h
  by_cases h1 : x.Day=y.Day
  · rw [if_pos h1] at h
    by_cases h2 : x.Party=y.Party
    · rw [if_pos h2] at h
      cases h3 : Op.bytesLess x.Action y.Action with
      | true=>rw [h3,if_pos rfl] at h; exact absurd h (by decide)
      | false =>
        rw [h3,if_neg (by simp)] at h
        by_cases h4 : x.Action=y.Action
        · rw [if_pos h4] at h
          have h5 : x.Amount=y.Amount:=by
            by_cases h6 : x.Amount < y.Amount
            · rw [if_pos h6] at h; exact absurd h (by decide)
            · rw [if_neg h6] at h
              by_cases h7 : y.Amount < x.Amount
              · rw [if_pos h7] at h; exact absurd h (by decide)
              · omega
          cases x; cases y; simp_all
        · rw [if_neg h4] at h; exact absurd h (by decide)
    · rw [if_neg h2] at h
      split at h <;> exact absurd h (by decide)
  · rw [if_neg h1] at h
    split at h <;> exact absurd h (by decide)
theorem ltE_tri {x y : Event} (h : ltE x y=false) : ltE y x=true ∨ x=y:=by
  unfold ltE at h ⊢
  rw [decide_eq_false_iff_not] at h
  rw [decide_eq_true_eq,cmpE_anti x y]
  by_cases h0 : cmpE x y=0
  · exact .inr (cmpE_zero h0)
  · exact .inl (by omega)
theorem ltE_trans {x y z : Event} (h1 : ltE x y=true) (h2 : ltE y z=true) : ltE x z=true:=by
  rw [ltE_iff] at *
  rcases h1 with h1 | ⟨e1,h1⟩ <;> rcases h2 with h2 | ⟨e2,h2⟩
  · exact .inl (by omega)
  · exact .inl (by omega)
  · exact .inl (by omega)
  refine .inr ⟨by omega,?_⟩
  rcases h1 with h1 | ⟨f1,h1⟩ <;> rcases h2 with h2 | ⟨f2,h2⟩
  · exact .inl (by omega)
  · exact .inl (by omega)
  · exact .inl (by omega)
  refine .inr ⟨by omega,?_⟩
  rcases h1 with h1 | ⟨g1,h1⟩ <;> rcases h2 with h2 | ⟨g2,h2⟩
  · exact .inl (bl_trans _ _ _ h1 h2)
  · exact .inl (by rw [← g2]; exact h1)
  · exact .inl (by rw [g1]; exact h2)
  · exact .inr ⟨g1.trans g2,by omega⟩
theorem ltE_irrefl (x : Event) : ltE x x=false:=by
  cases h : ltE x x with
  | false=>rfl
  | true =>
    rw [ltE_iff] at h
    simp [bl_irrefl] at h
theorem swoE : SWO ltE where
  irrefl:=ltE_irrefl
  trans:=fun _ _ _=>ltE_trans
  ntrans:=fun x y z h1 h2=>by
    cases h : ltE x z with
    | false=>rfl
    | true =>
      rcases ltE_tri h1 with h3 | rfl
      · rw [ltE_trans h3 h] at h2; cases h2
      · rw [h] at h2; cases h2
theorem antiE : ∀ x y,ltE x y=false→ltE y x=false→x=y:=fun x y h1 h2=>by
  rcases ltE_tri h1 with h | h
  · rw [h] at h2; cases h2
  · exact h
/-! the insertion sort -/
theorem l8_lb (a out : List Event) (i : Nat) (e : Event) (hx : a[i]?=some e) (hl : out.length ≤ 1048576) : ∀ (k : Nat),k ≤ out.length→∃ m,m ≤ k ∧ Ffcp_lb a ((i : Int),out) (k : Int)=some (.inr (m : Int)) ∧ (∀ y,1 ≤ m→out[m - 1]?=some y→ltE e y=false) ∧ ∀ (j : Nat) y,m ≤ j→j < k→out[j]?=some y→ltE e y=true
  | 0,hk=>by
    refine ⟨0,Nat.le_refl _,?_,fun y h=>by omega,fun j y h1 h2=>by omega⟩
    rw [Ffcp_lb_eq,Ffcp_lb_F]
    rfl
  | k + 1,hk=>by
    have h1:=List.getElem?_eq_getElem (show k < out.length by omega)
    have w : w64 (((k + 1 : Nat) : Int) - 1)=(k : Int):=by rw [w64_id (by omega) (by omega)]; omega
    rw [Ffcp_lb_eq,Ffcp_lb_F]
    simp only [decide_eq_true (show ((k + 1 : Nat) : Int) > 0 by omega),cond_true,w,getI_nat,hx,h1,Option.bind_some,spec_cmp,bindL_inr]
    rw [show decide (cmpE e out[k] < 0)=ltE e out[k] from rfl]
    cases hq : ltE e out[k] with
    | false =>
      refine ⟨k + 1,Nat.le_refl _,rfl,fun y _ hy=>?_,fun j y h1 h2=>by omega⟩
      rw [show k + 1 - 1=k by omega,h1] at hy
      cases hy
      exact hq
    | true =>
      obtain ⟨m,m1,m2,m3,m4⟩:=l8_lb a out i e hx hl k (by omega)
      refine ⟨m,by omega,m2,m3,fun j y j1 j2 hy=>?_⟩
      by_cases hj : j=k
      · subst hj; rw [h1] at hy; cases hy; exact hq
      · exact m4 j y j1 (by omega) hy
theorem ins_ok {out : List Event} {e : Event} {m : Nat} (hm : m ≤ out.length) (hs : out.Pairwise fun x y=>ltE y x=false) (h1 : ∀ y,1 ≤ m→out[m - 1]?=some y→ltE e y=false) (h2 : ∀ (j : Nat) y,m ≤ j→j < out.length→out[j]?=some y→ltE e y=true) : (out.take m ++ [e] ++ out.drop m).Pairwise fun x y=>ltE y x=false:=by
  have hsg:=List.pairwise_iff_getElem.1 hs
  have ht : ∀ x ∈ out.take m,ltE e x=false:=by
    intro x hx
    obtain ⟨j,hj,rfl⟩:=List.mem_iff_getElem.1 hx
    rw [List.length_take] at hj
    rw [List.getElem_take]
    have hq:=h1 out[m - 1] (by omega) (List.getElem?_eq_getElem (by omega))
    by_cases hjm : j=m - 1
    · subst hjm; exact hq
    · exact swoE.ntrans _ _ _ hq (hsg j (m - 1) (by omega) (by omega) (by omega))
  have hd : ∀ x ∈ out.drop m,ltE x e=false:=by
    intro x hx
    obtain ⟨j,hj,rfl⟩:=List.mem_iff_getElem.1 hx
    rw [List.length_drop] at hj
    rw [List.getElem_drop]
    have hq:=h2 (m + j) out[m + j] (by omega) (by omega) (List.getElem?_eq_getElem (by omega))
    exact swoE.asymm hq
  rw [List.pairwise_append,List.pairwise_append]
  refine ⟨⟨hs.sublist (List.take_sublist _ _),List.pairwise_singleton _ _,fun x hx y hy=>?_⟩,hs.sublist (List.drop_sublist _ _),fun x hx y hy=>?_⟩
  · rw [List.mem_singleton] at hy; subst hy; exact ht x hx
  · rcases List.mem_append.1 hx with hx | hx
    · have:=(List.pairwise_append.1 (by rw [List.take_append_drop]; exact hs : (out.take m ++ out.drop m).Pairwise fun x y=>ltE y x=false)).2.2
      exact this x hx y hy
    · rw [List.mem_singleton] at hx; subst hx; exact hd y hy
theorem l8_la (a : List Event) (ha : a.length ≤ 1048576) : ∀ (n i : Nat) (out : List Event),i + n=a.length→out.Perm (a.take i)→(out.Pairwise fun x y=>ltE y x=false)→∃ s,Ffcp_la a ((i : Int),out)=some (.inr s) ∧ s.Perm a ∧ s.Pairwise fun x y=>ltE y x=false
  | 0,i,out,hi,hp,hs=>by
    refine ⟨out,?_,?_,hs⟩
    · rw [Ffcp_la_eq,Ffcp_la_F,lt_len,decide_eq_false (by omega),cond_false]
    · rwa [List.take_of_length_le (by omega)] at hp
  | n + 1,i,out,hi,hp,hs=>by
    have h1 : i < a.length:=by omega
    have hx:=List.getElem?_eq_getElem h1
    have hl : out.length=i:=by rw [hp.length_eq,List.length_take]; omega
    obtain ⟨m,m1,m2,m3,m4⟩:=l8_lb a out i a[i] hx (by omega) out.length (Nat.le_refl _)
    have s1 : subP out.length 0 (m : Int)=some ():=by unfold subP; rw [if_pos (by omega)]
    have s2 : subP out.length (m : Int) (len out)=some ():=by unfold subP; rw [if_pos (by simp only [len]; omega)]
    have p1 : partP out (0 + Int.toNat 0) (Int.toNat (m : Int) - Int.toNat 0)=some (out.take m):=by
      unfold partP
      simp only [Int.toNat_zero,Int.toNat_natCast,Nat.zero_add,Nat.sub_zero,List.drop_zero]
      rw [if_pos m1]
    have p2 : partP out (0 + Int.toNat (m : Int)) (Int.toNat (len out) - Int.toNat (m : Int))=some (out.drop m):=by
      unfold partP
      simp only [Int.toNat_natCast,Nat.zero_add,len]
      rw [if_pos (by omega),List.take_of_length_le (by rw [List.length_drop]; omega)]
    have t1 : (out.take m).length=m:=by rw [List.length_take]; omega
    have t2 : (out.drop m).length=out.length - m:=List.length_drop
    have a1 : appI 40 ([] : List Event) (out.take m)=some (out.take m):=by unfold appI; rw [if_pos (by simp only [List.length_nil,lim,t1]; omega)]; rfl
    have a2 : appI 40 (out.take m) [a[i]]=some (out.take m ++ [a[i]]):=appI_one (by omega) (by omega)
    have a3 : appI 40 (out.take m ++ [a[i]]) (out.drop m)=some (out.take m ++ [a[i]] ++ out.drop m):=by unfold appI; rw [if_pos (by simp only [List.length_append,List.length_cons,List.length_nil,lim,t1,t2]; omega)]
    have hin:=ins_ok m1 hs m3 m4
    have hpe : (out.take m ++ [a[i]] ++ out.drop m).Perm (a.take (i + 1)):=by
      rw [List.take_add_one,hx]
      have q1 : (out.take m ++ [a[i]] ++ out.drop m).Perm (out ++ [a[i]]):=by
        rw [List.append_assoc]
        refine ((List.perm_append_comm (l₁:=[a[i]]) (l₂:=out.drop m)).append_left _).trans ?_
        rw [← List.append_assoc,List.take_append_drop]
      exact q1.trans (hp.append_right _)
    rw [Ffcp_la_eq,Ffcp_la_F,lt_len,decide_eq_true h1,cond_true]
    simp only []
    rw [show Ffcp_lb a ((i : Int),out) (len out)=some (.inr (m : Int)) from m2,bindL_inr]
    simp only [s1,p1,a1,getI_nat,hx,a2,s2,p2,a3,Option.bind_some,w64_succ (show i < 9223372036854775807 by omega)]
    exact l8_la a ha n (i + 1) _ (by omega) hpe hin
theorem l8_sort (a : List Event) (ha : a.length ≤ 1048576) : ∃ s,Ffcp a=some s ∧ s.Perm a ∧ s.Pairwise fun x y=>ltE y x=false:=by
  obtain ⟨s,h1,h2,h3⟩:=l8_la a ha a.length 0 [] (by omega) (by simp) List.Pairwise.nil
  refine ⟨s,?_,h2,h3⟩
  unfold Ffcp
  rw [show Ffcp_la a (0,[])=some (.inr s) from h1,bindJ_inr]
theorem toArr (a s : List Event) (hp : s.Perm a) (hs : s.Pairwise fun x y=>ltE y x=false) : s=a.mergeSort (fun x y=>!ltE y x):=by
  have hl:=hp.length_eq
  have:=sorted_unique_holds (lt:=ltE) swoE antiE a.toArray s.toArray ⟨by simpa using hl,fun i hi=>?_,?_⟩ ?_
  · simpa using this
  · rcases hi with hi | hi
    · omega
    · have h1 : a.length ≤ i:=by simpa using hi
      simp [h1,hl]
  · have ht : s.take a.length=s:=List.take_of_length_le (by omega)
    simpa [hl,ht] using hp
  · intro i j _ hij hj
    have hj' : j < a.length:=by simpa using hj
    have:=List.pairwise_iff_getElem.1 hs i j (by omega) (by omega) hij
    simpa [show i < s.length by omega,show j < s.length by omega] using this
theorem impl_sort (a : List Event) (ha : a.length ≤ 1048576) : Ffbc a ()=some (a.mergeSort (fun x y=>!ltE y x)):=by
  obtain ⟨R,e,r1,r2⟩:=gen_sort swoE a.toArray (by simpa using ha)
  have:=sorted_unique_holds (lt:=ltE) swoE antiE a.toArray R r1 r2
  rw [show a=a.toArray.toList from rfl] at *
  rw [e,this]
theorem spec_sort (a : List Event) (ha : a.length ≤ 1048576) : Ffcp a=some (a.mergeSort (fun x y=>!ltE y x)):=by
  obtain ⟨s,h1,h2,h3⟩:=l8_sort a ha
  rw [h1,toArr a s h2 h3]
theorem sm_sort {a : List Event} (s1 : smL sm_Event a) : smL sm_Event (a.mergeSort (fun x y=>!ltE y x)):=⟨by rw [List.length_mergeSort]; exact s1.1,fun x hx=>s1.2 x (List.mem_mergeSort.1 hx)⟩
/-- The first test of the specification. -/
def areB (a : List Event) (p : Int) : Bool:=inB p 2 4 && (decide (a.length ≤ 40) && !(a.any fun e=>!evB p e))
theorem spec_are (a : List Event) (p : Int) (hs : smL sm_Event a) : Ffcq a p=some (areB a p):=by
  unfold Ffcq areB
  have el : decide (len a ≤ 40)=decide (a.length ≤ 40):=by congr 1; apply propext; show (a.length : Int) ≤ 40 ↔ _; omega
  rw [el]
  by_cases ha : a.length ≤ 40
  · rw [valid_val a p hs ha,decide_eq_true ha,spec_in]
    simp only [cond_true,Option.bind_some]
    cases a.any (fun e=>!evB p e) <;> cases inB p 2 4 <;> rfl
  · obtain ⟨y2,e2,q2⟩:=valid_tot a p hs 41 0 rfl
    rw [show Ffcq_la a p 0=some y2 from e2,decide_eq_false ha]
    rcases q2 with rfl | rfl <;> cases inB p 2 4 <;> rfl
theorem Ffl_val (a : List Event) (p : Int) (s1 : smL sm_Event a) : Ffl a p=some (bif areB a p then (a.mergeSort (fun x y=>!ltE y x),true) else ([],false)):=by
  unfold Ffl
  rw [impl_are a p s1,Option.bind_some]
  show (bif !(areB a p) then _ else _)=_
  cases areB a p with
  | false=>rfl
  | true =>
    rw [Bool.not_true,cond_false,clone_ev a s1.1,Option.bind_some,impl_sort a s1.1,Option.bind_some,List.length_mergeSort,Nat.beq_refl]
    rfl
theorem app_ev {a b : List Event} (h : a.length + b.length ≤ 1048576) : appI 40 a b=some (a ++ b):=by
  unfold appI
  rw [if_pos (by simp only [lim]; omega)]
theorem any_app {a b : List Event} {p : Int} (ha : (a.any fun e=>!evB p e)=false) (hb : (b.any fun e=>!evB p e)=false) : ((a ++ b).any fun e=>!evB p e)=false:=by rw [List.any_append,ha,hb]; rfl
theorem valid_parts {a : List Event} {p : Int} (h : validB a p=true) : inB p 2 4=true ∧ (a.any fun e=>!evB p e)=false ∧ a.length ≤ 40:=by
  unfold validB at h
  simp only [Bool.and_eq_true,Bool.not_eq_true',decide_eq_true_eq] at h
  exact ⟨h.2.1,h.2.2.1,h.1⟩
theorem merge_val (a b : List Event) (p : Int) (s1 : smL sm_Event a) (s2 : smL sm_Event b) (hab : a.length + b.length ≤ 1048576) : ∃ v,Ffbv a b p=some v ∧ Ffj a b p=some v ∧ smL sm_Event v.1 ∧ (v.2=true→validB a p=true ∧ validB b p=true ∧ areB (a ++ b) p=true ∧ v.1=(a ++ b).mergeSort (fun x y=>!ltE y x)):=by
  unfold Ffbv Ffj
  rw [spec_good a p s1,impl_valid a p s1,Option.bind_some,Option.bind_some,spec_good b p s2,impl_valid b p s2,clone_ev a s1.1]
  cases hva : validB a p
  · exact ⟨_,rfl,rfl,by simp [smL],fun h=>by cases h⟩
  · cases hvb : validB b p
    · exact ⟨_,rfl,rfl,by simp [smL],fun h=>by cases h⟩
    · obtain ⟨c1,c2,c3⟩:=valid_parts hva
      obtain ⟨_,d2,d3⟩:=valid_parts hvb
      have sab : smL sm_Event (a ++ b):=⟨by rw [List.length_append]; omega,fun x hx=>by
        rcases List.mem_append.1 hx with hx | hx
        · exact s1.2 x hx
        · exact s2.2 x hx⟩
      have ew : w64 (len a + len b)=((a.length + b.length : Nat) : Int):=by rw [w64_id (by simp only [len]; omega) (by simp only [len]; omega)]; simp only [len]; omega
      have ar : areB (a ++ b) p=decide ((a ++ b).length ≤ 40):=by
        unfold areB
        rw [c1,any_app c2 d2]
        cases decide ((a ++ b).length ≤ 40) <;> rfl
      simp only [Bool.not_true,cond_false,cond_true,Option.bind_some,bindJ_inr,letJ_eq,ew,app_ev (show ([] : List Event).length + a.length ≤ 1048576 by simp; omega),List.nil_append,app_ev (show a.length + b.length ≤ 1048576 by omega),Ffl_val (a ++ b) p sab,spec_sort (a ++ b) sab.1,ar,List.length_append]
      by_cases hq : a.length + b.length ≤ 40
      · rw [decide_eq_true hq,decide_eq_false (show ¬ ((a.length + b.length : Nat) : Int) > 40 by omega)]
        exact ⟨_,rfl,rfl,sm_sort sab,fun _=>by simp⟩
      · rw [decide_eq_false hq,decide_eq_true (show ((a.length + b.length : Nat) : Int) > 40 by omega)]
        exact ⟨_,rfl,rfl,by simp [smL],fun h=>by cases h⟩
/-! events shifted -/
def shE (d : Int) (e : Event) : Event:=⟨w64 (e.Day + d),e.Party,e.Action,e.Amount⟩
theorem spec_shift (a : List Event) (p d : Int) (ha : a.length ≤ 1048576) : Ffbw_la a p d (0,[])=some (.inr (a.map (shE d))):=by
  have : a.map (shE d)=a.flatMap fun x=>[shE d x]:=by rw [← List.map_eq_flatMap]
  rw [this]
  refine pushLoop (fun i x hx=>?_) (fun i z hi=>?_)
  · obtain ⟨h1,_⟩:=List.getElem?_eq_some_iff.1 hx
    have hl : ((a.take i).flatMap fun x=>[shE d x]).length=i:=by rw [← List.map_eq_flatMap,List.length_map,List.length_take]; omega
    rw [Ffbw_la_eq,Ffbw_la_F,lt_len,decide_eq_true h1,cond_true,getI_nat,hx,Option.bind_some,appI_one (by rw [hl]; omega) (by rw [hl]; omega),Option.bind_some,w64_succ (by omega)]
    rfl
  · rw [Ffbw_la_eq,Ffbw_la_F,lt_len,decide_eq_false (show ¬ i < a.length by omega),cond_false]
theorem impl_shift (a : List Event) (p d : Int) (ha : a.length ≤ 1048576) : Ffk_la a p d a (0,a)=some (.inr (a.map (shE d))):=by
  refine mapLoop (fun i z x hz h2 hx=>?_) (fun i z hi=>?_)
  · obtain ⟨h1,_⟩:=List.getElem?_eq_some_iff.1 hx
    rw [Ffk_la_eq,Ffk_la_F,lt_len,decide_eq_true h1,cond_true,getI_nat,h2,Option.bind_some,Option.bind_some,w64_succ (by omega),setI_nat]
    rfl
  · rw [Ffk_la_eq,Ffk_la_F,lt_len,decide_eq_false (show ¬ i < a.length by omega),cond_false]
theorem shift_sm {a : List Event} (d : Int) (s1 : smL sm_Event a) : smL sm_Event (a.map (shE d)) := ⟨by simpa using s1.1, fun x hx => by
    obtain ⟨y, hy, rfl⟩ := List.mem_map.1 hx
    exact ⟨trivial, trivial, (s1.2 y hy).2.2.1, trivial⟩⟩
def shOk (a : List Event) (p d : Int) : Bool:=validB a p && (inB d (-36524) 36524 && validB (a.map (shE d)) p)
theorem shift_impl (a : List Event) (p d : Int) (s1 : smL sm_Event a) : Ffk a p d=some (bif shOk a p d then (a.map (shE d),true) else ([],false)):=by
  unfold Ffk shOk
  rw [impl_valid a p s1,Option.bind_some,impl_in,clone_ev a s1.1]
  cases validB a p
  · rfl
  · cases inB d (-36524) 36524
    · rfl
    · simp only [Bool.not_true,cond_false,Option.bind_some,bindJ_inr,cond_true,Bool.true_and]
      rw [impl_shift a p d s1.1,bindJ_inr,impl_valid _ p (shift_sm d s1),Option.bind_some]
      cases validB (a.map (shE d)) p <;> rfl
theorem shift_spec (a : List Event) (p d : Int) (s1 : smL sm_Event a) : Ffbw a p d=some (bif shOk a p d then (a.map (shE d),true) else ([],false)):=by
  unfold Ffbw shOk
  rw [spec_good a p s1,Option.bind_some,spec_in]
  cases validB a p
  · rfl
  · cases inB d (-36524) 36524
    · rfl
    · simp only [Bool.not_true,cond_false,Option.bind_some,bindJ_inr,cond_true,Bool.true_and]
      rw [spec_shift a p d s1.1,bindJ_inr,spec_good _ p (shift_sm d s1),Option.bind_some]
      cases validB (a.map (shE d)) p <;> rfl
/-! the draws -/
def okC (c : l1Cur) (n : Nat) : Prop:=okL (okI .u8) c.f_code ∧ 0 ≤ c.f_at ∧ c.f_at ≤ n
theorem okC_mono {c : l1Cur} {n m : Nat} (h : okC c n) (hm : n ≤ m) : okC c m:=⟨h.1,h.2.1,by have:=h.2.2; omega⟩
theorem byte_range {x : Int} (h : okI .u8 x) : 0 ≤ x ∧ x ≤ 255:=by
  have e1 : IntKind.u8.min=0:=by decide
  have e2 : IntKind.u8.max=255:=by decide
  unfold okI at h
  rw [e1,e2] at h
  exact h
theorem and255 (x : Int) : 0 ≤ andI .u64 x 255 ∧ andI .u64 x 255 ≤ 255:=by
  unfold andI
  have h : (BitVec.ofInt (IntKind.bits .u64) x &&& BitVec.ofInt (IntKind.bits .u64) 255).toNat ≤ 255:=by
    rw [BitVec.toNat_and]
    exact Nat.le_trans Nat.and_le_right (by decide)
  rw [u64_nat (by omega)]
  omega
theorem next_ok (c : l1Cur) (n : Nat) (h : okC c n) (hn : n ≤ 1000000) : ∃ x c',Ffce c=some (x,c') ∧ 0 ≤ x ∧ x ≤ 255 ∧ okC c' (n + 1):=by
  obtain ⟨hc,h0,h1⟩:=h
  have hw : w64 (c.f_at + 1)=c.f_at + 1:=w64_id (by omega) (by omega)
  have hok : ∀ s,okC (l1Cur.mk c.f_code (c.f_at + 1) s) (n + 1):=fun s=>⟨hc,by show 0 ≤ c.f_at + 1; omega,by show c.f_at + 1 ≤ ((n + 1 : Nat) : Int); omega⟩
  unfold Ffce
  simp only [hw]
  obtain ⟨u,hu,hu0,hu1⟩ : ∃ u,(bif (decide (c.f_at < (len c.f_code))) then ((getI c.f_code c.f_at).bind fun e3=>some (Sum.inr (α:=Int × l1Cur) (IntKind.i64.wrap e3))) else (some (.inr 0)))=some (.inr u) ∧ 0 ≤ u ∧ u ≤ 255:=by
    by_cases hq : c.f_at < len c.f_code
    · rw [decide_eq_true hq,cond_true]
      obtain ⟨k,hk⟩ : ∃ k : Nat,c.f_at=k:=⟨c.f_at.toNat,by omega⟩
      rw [hk] at hq ⊢
      have hlt : k < c.f_code.length:=by simp only [len] at hq; omega
      have hb:=byte_range (hc.2 _ (List.getElem_mem hlt))
      rw [getI_nat,List.getElem?_eq_getElem hlt,Option.bind_some]
      exact ⟨_,rfl,by rw [show IntKind.i64.wrap c.f_code[k]=c.f_code[k] from w64_id (by omega) (by omega)]; omega,by rw [show IntKind.i64.wrap c.f_code[k]=c.f_code[k] from w64_id (by omega) (by omega)]; omega⟩
    · rw [decide_eq_false hq,cond_false]
      exact ⟨0,rfl,by decide,by decide⟩
  rw [hu,bindJ_inr]
  cases decide (c.f_at + 1 ≤ len c.f_code) with
  | true=>exact ⟨_,_,rfl,hu0,hu1,hok _⟩
  | false =>
    have ha:=and255 (shrI .u64 (IntKind.u64.wrap ((IntKind.u64.wrap ((IntKind.u64.wrap (c.f_seed * 6364136223846793005)) + (IntKind.u64.wrap u))) + 902902)) 40)
    refine ⟨_,_,rfl,?_,?_,hok _⟩
    · rw [show IntKind.i64.wrap _=_ from w64_id (by omega) (by omega)]; exact ha.1
    · rw [show IntKind.i64.wrap _=_ from w64_id (by omega) (by omega)]; exact ha.2
theorem pick_ok (c : l1Cur) (n : Nat) (k : Int) (h : okC c n) (hn : n ≤ 900000) (hk : k ≤ 1000000) : ∃ x c',Ffch c k=some (x,c') ∧ 0 ≤ x ∧ (x < k ∨ x=0) ∧ okC c' (n + 2):=by
  unfold Ffch
  by_cases h1 : k ≤ 1
  · rw [decide_eq_true h1,cond_true]
    exact ⟨0,c,rfl,by decide,.inr rfl,okC_mono h (by omega)⟩
  rw [decide_eq_false h1,cond_false]
  obtain ⟨x,c1,e1,x0,x1,ok1⟩:=next_ok c n h (by omega)
  rw [e1,Option.bind_some]
  have fin : ∀ y : Int,0 ≤ y→∃ q,remI y k=some q ∧ 0 ≤ q ∧ q < k:=by
    intro y hy
    unfold remI
    rw [if_neg (by omega)]
    exact ⟨_,rfl,Int.tmod_nonneg _ hy,Int.tmod_lt_of_pos _ (by omega)⟩
  by_cases h2 : k > 200
  · obtain ⟨x2,c2,e2,y0,y1,ok2⟩:=next_ok c1 (n + 1) ok1 (by omega)
    simp only [decide_eq_true h2,cond_true,e2,Option.bind_some,bindJ_inr]
    rw [show w64 (x * 256)=x * 256 from w64_id (by omega) (by omega),show w64 (x * 256 + x2)=x * 256 + x2 from w64_id (by omega) (by omega)]
    obtain ⟨q,f1,f2,f3⟩:=fin (x * 256 + x2) (by omega)
    rw [f1,Option.bind_some]
    exact ⟨q,_,rfl,f2,.inl f3,ok2⟩
  · simp only [decide_eq_false h2,cond_false,bindJ_inr]
    obtain ⟨q,f1,f2,f3⟩:=fin x x0
    rw [f1,Option.bind_some]
    exact ⟨q,_,rfl,f2,.inl f3,okC_mono ok1 (by omega)⟩
theorem among_ok (c : l1Cur) (n : Nat) (l : List Int) (h : okC c n) (hn : n ≤ 900000) (hl : 1 ≤ l.length) (hl2 : l.length ≤ 1000) : ∃ x c',Ffby c l=some (x,c') ∧ x ∈ l ∧ okC c' (n + 2):=by
  unfold Ffby
  obtain ⟨x,c1,e1,x0,x1,ok1⟩:=pick_ok c n (len l) h hn (by simp only [len]; omega)
  obtain ⟨k,hk⟩ : ∃ k : Nat,x=k:=⟨x.toNat,by omega⟩
  subst hk
  have hlt : k < l.length:=by simp only [len] at x1; omega
  rw [e1,Option.bind_some,getI_nat,List.getElem?_eq_getElem hlt,Option.bind_some]
  exact ⟨_,_,rfl,List.getElem_mem hlt,ok1⟩
theorem of_ok (c : l1Cur) (n : Nat) (l : List Str) (h : okC c n) (hn : n ≤ 900000) (hl : 1 ≤ l.length) (hl2 : l.length ≤ 1000) : ∃ x c',Ffcf c l=some (x,c') ∧ x ∈ l ∧ okC c' (n + 2):=by
  unfold Ffcf
  obtain ⟨x,c1,e1,x0,x1,ok1⟩:=pick_ok c n (len l) h hn (by simp only [len]; omega)
  obtain ⟨k,hk⟩ : ∃ k : Nat,x=k:=⟨x.toNat,by omega⟩
  subst hk
  have hlt : k < l.length:=by simp only [len] at x1; omega
  rw [e1,Option.bind_some,getI_nat,List.getElem?_eq_getElem hlt,Option.bind_some]
  exact ⟨_,_,rfl,List.getElem_mem hlt,ok1⟩
def smE (l : List Event) : Prop:=∀ x ∈ l,sm_Event x
theorem smE_app {l : List Event} {e : Event} (h : smE l) (he : sm_Event e) : smE (l ++ [e]):=fun x hx=>by
  rcases List.mem_append.1 hx with hx | hx
  · exact h x hx
  · rw [List.mem_singleton] at hx; subst hx; exact he
theorem event_ok (c : l1Cur) (n : Nat) (h : okC c n) (hn : n ≤ 800000) : ∃ e c',Ffcc c=some (e,c') ∧ sm_Event e ∧ okC c' (n + 8):=by
  unfold Ffcc Ffcj
  obtain ⟨x1,c1,e1,_,k1⟩:=among_ok c n [0,1,2,3,5,8,10,12,20,40] h (by omega) (by decide) (by decide)
  rw [e1,Option.bind_some]
  obtain ⟨x2,c2,e2,_,_,k2⟩:=pick_ok c1 (n + 2) 2 k1 (by omega) (by decide)
  rw [e2,Option.bind_some,Option.bind_some]
  obtain ⟨x3,c3,e3,m3,k3⟩:=of_ok c2 (n + 2 + 2) [([112,97,105,100] : Str),([115,101,110,116] : Str),([108,97,116,101] : Str),([97] : Str),([98] : Str)] k2 (by omega) (by decide) (by decide)
  rw [e3,Option.bind_some]
  obtain ⟨x4,c4,e4,_,k4⟩:=among_ok c3 (n + 2 + 2 + 2) [0,0,50,100,250] k3 (by omega) (by decide) (by decide)
  rw [e4,Option.bind_some]
  have hl : ∀ x ∈ [([112,97,105,100] : Str),([115,101,110,116] : Str),([108,97,116,101] : Str),([97] : Str),([98] : Str)],x.length ≤ 1048576:=by decide
  exact ⟨_,_,rfl,⟨trivial,trivial,hl x3 m3,trivial⟩,k4⟩
theorem events_la (c0 : l1Cur) (q : Int) : ∀ (k : Nat) (c : l1Cur) (n : Nat) (l : List Event),okC c n→k ≤ 100→n + 8 * k ≤ 700000→smE l→l.length + k ≤ 1000→∃ (c' : l1Cur) (l' : List Event),Ffcd_la c0 q ((k : Int),c.f_code,c.f_at,c.f_seed,l)=some (.inr (c'.f_code,c'.f_at,c'.f_seed,l')) ∧ okC c' (n + 8 * k) ∧ smE l' ∧ l'.length=l.length + k
  | 0,c,n,l,h,hk,hn,hl,hz=>by
    refine ⟨c,l,?_,h,hl,rfl⟩
    rw [Ffcd_la_eq,Ffcd_la_F]
    rfl
  | k + 1,c,n,l,h,hk,hn,hl,hz=>by
    obtain ⟨e,c1,e1,se,k1⟩:=event_ok c n h (by omega)
    rw [Ffcd_la_eq,Ffcd_la_F]
    simp only [decide_eq_true (show ((k + 1 : Nat) : Int) > 0 by omega),cond_true]
    rw [show l1Cur.mk c.f_code c.f_at c.f_seed=c from rfl,e1,Option.bind_some]
    simp only []
    rw [appI_one (by omega) (by omega),Option.bind_some,show w64 (((k + 1 : Nat) : Int) - 1)=(k : Int) from by rw [w64_id (by omega) (by omega)]; omega]
    obtain ⟨c',l',e2,k2,s2,z2⟩:=events_la c0 q k c1 (n + 8) (l ++ [e]) k1 (by omega) (by omega) (smE_app hl se) (by rw [List.length_append]; simp; omega)
    exact ⟨c',l',e2,okC_mono k2 (by omega),s2,by rw [z2,List.length_append]; simp; omega⟩
theorem events_ok (c : l1Cur) (n : Nat) (h : okC c n) (hn : n ≤ 600000) : ∃ l c',Ffcd c 6=some (l,c') ∧ smE l ∧ l.length ≤ 6 ∧ okC c' (n + 100):=by
  unfold Ffcd
  rw [show w64 (6 + 1)=7 from by decide]
  obtain ⟨x,c1,e1,x0,x1,k1⟩:=pick_ok c n 7 h (by omega) (by decide)
  rw [e1,Option.bind_some]
  obtain ⟨k,hk⟩ : ∃ k : Nat,x=k:=⟨x.toNat,by omega⟩
  subst hk
  obtain ⟨c',l',e2,k2,s2,z2⟩:=events_la c 6 k c1 (n + 2) [] k1 (by omega) (by omega) (fun x hx=>by cases hx) (by simp; omega)
  simp only [] at e2 ⊢
  rw [e2,bindJ_inr]
  simp only []
  simp only [List.length_nil] at z2
  rw [spec_sort l' (by omega),Option.bind_some]
  exact ⟨_,c',rfl,fun y hy=>s2 y (List.mem_mergeSort.1 hy),by rw [List.length_mergeSort]; omega,okC_mono k2 (by omega)⟩
theorem one_ok (c : l1Cur) (n : Nat) (k : Int) (h : okC c n) (hn : n ≤ 900000) (hk : k ≤ 1000000) : ∃ x c',Ffcg c k=some (x,c') ∧ okC c' (n + 2):=by
  unfold Ffcg
  obtain ⟨x,c1,e1,_,_,k1⟩:=pick_ok c n k h hn hk
  rw [e1,Option.bind_some]
  exact ⟨_,_,rfl,k1⟩
theorem day_ok (c : l1Cur) (n : Nat) (h : okC c n) (hn : n ≤ 800000) : ∃ x c',Ffcb c=some (x,c') ∧ okC c' (n + 4):=by
  unfold Ffcb
  obtain ⟨x,c1,e1,_,_,k1⟩:=pick_ok c n 6 h (by omega) (by decide)
  rw [e1,Option.bind_some]
  simp only []
  cases x == 0
  · cases x == 1
    · obtain ⟨y,c2,e2,_,_,k2⟩:=pick_ok c1 (n + 2) 1500 k1 (by omega) (by decide)
      simp only [cond_false,e2,Option.bind_some]
      exact ⟨_,_,rfl,k2⟩
    · obtain ⟨y,c2,e2,_,_,k2⟩:=pick_ok c1 (n + 2) 36525 k1 (by omega) (by decide)
      simp only [cond_false,cond_true,e2,Option.bind_some]
      exact ⟨_,_,rfl,k2⟩
  · obtain ⟨y,c2,e2,_,k2⟩:=among_ok c1 (n + 2) [0,59,60,365,366,424,425,36524,36523,30,31] k1 (by omega) (by decide) (by decide)
    simp only [cond_true,e2,Option.bind_some]
    exact ⟨_,_,rfl,k2⟩
theorem anyDay_ok (c : l1Cur) (n : Nat) (h : okC c n) (hn : n ≤ 700000) : ∃ x c',Ffbz c=some (x,c') ∧ okC c' (n + 6):=by
  unfold Ffbz
  obtain ⟨x,c1,e1,k1⟩:=one_ok c n 16 h (by omega) (by decide)
  rw [e1,Option.bind_some]
  cases x
  · obtain ⟨y,c2,e2,k2⟩:=day_ok c1 (n + 2) k1 (by omega)
    simp only [cond_false,e2,Option.bind_some]
    exact ⟨_,_,rfl,okC_mono k2 (by omega)⟩
  · obtain ⟨y,c2,e2,_,k2⟩:=among_ok c1 (n + 2) [(-1),36524,36525,1099511627776] k1 (by omega) (by decide) (by decide)
    simp only [cond_true,e2,Option.bind_some]
    exact ⟨_,_,rfl,okC_mono k2 (by omega)⟩
theorem anyEvents_la (c0 : l1Cur) : ∀ (m : Nat) (c : l1Cur) (n : Nat) (l : List Event),okC c n→42 ≤ l.length + m→m ≤ 1000→n + 2 * m ≤ 600000→smE l→l.length ≤ 100→∃ (c' : l1Cur) (l' : List Event),Ffca_la c0 (c.f_code,c.f_at,c.f_seed,l)=some (.inr (c'.f_code,c'.f_at,c'.f_seed,l')) ∧ okC c' (n + 2 * m + 2) ∧ smE l' ∧ l'.length ≤ 100
  | m,c,n,l,h,hm,hm2,hn,hl,hz=>by
    obtain ⟨x,c1,e1,x0,x1,k1⟩:=pick_ok c n 2 h (by omega) (by decide)
    rw [Ffca_la_eq,Ffca_la_F]
    simp only []
    rw [show l1Cur.mk c.f_code c.f_at c.f_seed=c from rfl,e1,Option.bind_some]
    simp only []
    rw [show w64 (40 + x)=40 + x from w64_id (by omega) (by omega)]
    by_cases hq : len l < 40 + x
    · rw [decide_eq_true hq,cond_true,appI_one (by omega) (by omega),Option.bind_some]
      have hq' : l.length < 41:=by simp only [len] at hq; omega
      match m,hm,hm2 with
      | 0,hm,_=>omega
      | m + 1,hm,hm2 =>
        obtain ⟨c',l',e2,k2,s2,z2⟩:=anyEvents_la c0 m c1 (n + 2) (l ++ [Event.mk 50 0 ([97] : Str) 0]) k1 (by rw [List.length_append]; simp; omega) (by omega) (by omega) (smE_app hl ⟨trivial,trivial,(by decide : ([97] : Str).length ≤ 1048576),trivial⟩) (by rw [List.length_append]; simp; omega)
        exact ⟨c',l',e2,okC_mono k2 (by omega),s2,z2⟩
    · rw [decide_eq_false hq,cond_false]
      exact ⟨c1,l,rfl,okC_mono k1 (by omega),hl,hz⟩
theorem anyEvents_ok (c : l1Cur) (n : Nat) (h : okC c n) (hn : n ≤ 500000) : ∃ l c',Ffca c=some (l,c') ∧ smE l ∧ l.length ≤ 100 ∧ okC c' (n + 1000):=by
  unfold Ffca
  obtain ⟨l,c1,e1,s1,z1,k1⟩:=events_ok c n h (by omega)
  rw [e1,Option.bind_some]
  obtain ⟨x,c2,e2,x0,x1,k2⟩:=pick_ok c1 (n + 100) 20 k1 (by omega) (by decide)
  simp only []
  rw [e2,Option.bind_some]
  simp only []
  cases x == 0
  · simp only [cond_false]
    cases x == 1
    · simp only [cond_false]
      cases x == 2
      · simp only [cond_false,bindL_inr,bindJ_inr]
        exact ⟨_,_,rfl,s1,by omega,okC_mono k2 (by omega)⟩
      · obtain ⟨c',l',e3,k3,s3,z3⟩:=anyEvents_la c 100 c2 (n + 100 + 2) l k2 (by omega) (by decide) (by omega) s1 (by omega)
        simp only [cond_true,e3,bindL_inr,bindJ_inr]
        exact ⟨_,_,rfl,s3,z3,okC_mono k3 (by omega)⟩
    · obtain ⟨y,c3,e3,k3⟩:=anyDay_ok c2 (n + 100 + 2) k2 (by omega)
      obtain ⟨y4,c4,e4,_,_,k4⟩:=pick_ok c3 (n + 100 + 2 + 6) 5 k3 (by omega) (by decide)
      obtain ⟨y5,c5,e5,m5,k5⟩:=of_ok c4 (n + 100 + 2 + 6 + 2) [([97] : Str),([] : Str),([111,114] : Str)] k4 (by omega) (by decide) (by decide)
      obtain ⟨y6,c6,e6,_,k6⟩:=among_ok c5 (n + 100 + 2 + 6 + 2 + 2) [0,(-1),1000000,1000001] k5 (by omega) (by decide) (by decide)
      have hl5 : ∀ x ∈ [([97] : Str),([] : Str),([111,114] : Str)],x.length ≤ 1048576:=by decide
      simp only [cond_true,e3,e4,e5,e6,Option.bind_some]
      rw [appI_one (by omega) (by omega)]
      simp only [Option.bind_some,bindL_inr,bindJ_inr]
      exact ⟨_,_,rfl,smE_app s1 ⟨trivial,trivial,hl5 y5 m5,trivial⟩,by rw [List.length_append]; simp; omega,okC_mono k6 (by omega)⟩
  · obtain ⟨e,c3,e3,se,k3⟩:=event_ok c2 (n + 100 + 2) k2 (by omega)
    simp only [cond_true,e3,Option.bind_some]
    rw [appI_one (by omega) (by omega)]
    simp only [Option.bind_some,bindJ_inr]
    exact ⟨_,_,rfl,smE_app s1 se,by rw [List.length_append]; simp; omega,okC_mono k3 (by omega)⟩
theorem start_ok {code : List Int} (h : okL (okI .u8) code) : okC (l1Cur.mk code 0 0) 0:=⟨h,by show (0 : Int) ≤ 0; omega,by show (0 : Int) ≤ ((0 : Nat) : Int); omega⟩
theorem drawMerge_ok (code : List Int) (h : okL (okI .u8) code) : ∃ a b p,Ffbs code=some (a,b,p) ∧ (smE a ∧ a.length ≤ 100) ∧ smE b ∧ b.length ≤ 100:=by
  unfold Ffbs
  obtain ⟨a,c1,e1,s1,z1,k1⟩:=anyEvents_ok _ 0 (start_ok h) (by omega)
  obtain ⟨b,c2,e2,s2,z2,k2⟩:=anyEvents_ok c1 _ k1 (by omega)
  obtain ⟨y,c3,e3,_,k3⟩:=among_ok c2 _ [2,2,2,3,1] k2 (by omega) (by decide) (by decide)
  simp only [e1,e2,e3,Option.bind_some]
  exact ⟨_,_,_,rfl,⟨s1,z1⟩,s2,z2⟩
theorem drawShift_ok (code : List Int) (h : okL (okI .u8) code) : ∃ a p d,Ffbt code=some (a,p,d) ∧ (smE a ∧ a.length ≤ 100) ∧ d ∈ [0,1,(-1),30,(-3),36524,36525,36500]:=by
  unfold Ffbt
  obtain ⟨a,c1,e1,s1,z1,k1⟩:=anyEvents_ok _ 0 (start_ok h) (by omega)
  obtain ⟨y,c3,e3,_,k3⟩:=among_ok c1 _ [2,2,3,1] k1 (by omega) (by decide) (by decide)
  obtain ⟨d,c4,e4,m4,k4⟩:=among_ok c3 _ [0,1,(-1),30,(-3),36524,36525,36500] k3 (by omega) (by decide) (by decide)
  simp only [e1,e3,e4,Option.bind_some]
  exact ⟨_,_,_,rfl,⟨s1,z1⟩,m4⟩
theorem drawSort_ok (code : List Int) (h : okL (okI .u8) code) : ∃ a p,Ffbu code=some (a,p) ∧ smE a ∧ a.length ≤ 100:=by
  unfold Ffbu
  obtain ⟨a,c1,e1,s1,z1,k1⟩:=anyEvents_ok _ 0 (start_ok h) (by omega)
  simp only [e1,Option.bind_some]
  by_cases hq : len a > 1
  · obtain ⟨x,c2,e2,x0,x1,k2⟩:=pick_ok c1 _ (len a) k1 (by omega) (by simp only [len]; omega)
    obtain ⟨k,hk⟩ : ∃ k : Nat,x=k:=⟨x.toNat,by omega⟩
    subst hk
    have hka : k < a.length:=by simp only [len] at x1 hq; omega
    have t1 : subP a.length (k : Int) (len a)=some ():=by unfold subP; rw [if_pos (by simp only [len]; omega)]
    have t2 : subP a.length 0 (k : Int)=some ():=by unfold subP; rw [if_pos (by omega)]
    have p1 : partP a (0 + Int.toNat 0) (Int.toNat (k : Int) - Int.toNat 0)=some (a.take k):=by
      unfold partP
      simp only [Int.toNat_zero,Int.toNat_natCast,Nat.zero_add,Nat.sub_zero,List.drop_zero]
      rw [if_pos (by omega)]
    have p2 : partP a (0 + Int.toNat (k : Int)) (Int.toNat (len a) - Int.toNat (k : Int))=some (a.drop k):=by
      unfold partP
      simp only [Int.toNat_natCast,Nat.zero_add,len]
      rw [if_pos (by omega),List.take_of_length_le (by rw [List.length_drop]; omega)]
    have q1 : (a.take k).length=k:=by rw [List.length_take]; omega
    have q2 : (a.drop k).length=a.length - k:=List.length_drop
    have a1 : appI 40 ([] : List Event) (a.drop k)=some (a.drop k):=by unfold appI; rw [if_pos (by simp only [List.length_nil,lim,q2]; omega)]; rfl
    have a2 : appI 40 (a.drop k) (a.take k)=some (a.drop k ++ a.take k):=by unfold appI; rw [if_pos (by simp only [lim,q1,q2]; omega)]
    obtain ⟨y,c3,e3,_,k3⟩:=among_ok c2 _ [2,2,2,3,4,1,5] k2 (by omega) (by decide) (by decide)
    simp only [decide_eq_true hq,cond_true,e2,t1,p2,a1,t2,p1,a2,Option.bind_some,bindJ_inr]
    rw [show l1Cur.mk c2.f_code c2.f_at c2.f_seed=c2 from rfl,e3,Option.bind_some]
    refine ⟨_,_,rfl,fun z hz=>?_,by rw [List.length_append,q1,q2]; omega⟩
    rcases List.mem_append.1 hz with hz | hz
    · exact s1 z (List.mem_of_mem_drop hz)
    · exact s1 z (List.mem_of_mem_take hz)
  · obtain ⟨y,c3,e3,_,k3⟩:=among_ok c1 _ [2,2,2,3,4,1,5] k1 (by omega) (by decide) (by decide)
    simp only [decide_eq_false hq,cond_false,bindJ_inr]
    rw [show l1Cur.mk c1.f_code c1.f_at c1.f_seed=c1 from rfl,e3,Option.bind_some]
    exact ⟨_,_,rfl,s1,z1⟩
/-! the law -/
theorem smL_of {l : List Event} (h : smE l) (hl : l.length ≤ 1000) : smL sm_Event l:=⟨by omega,h⟩
theorem any_perm {a b : List Event} {q : Event→Bool} (h : a.Perm b) : a.any q=b.any q:=by
  rw [Bool.eq_iff_iff,List.any_eq_true,List.any_eq_true]
  constructor
  · rintro ⟨x,hx,hq⟩; exact ⟨x,h.mem_iff.1 hx,hq⟩
  · rintro ⟨x,hx,hq⟩; exact ⟨x,h.mem_iff.2 hx,hq⟩
theorem sorted_adj {s : List Event} (hs : s.Pairwise fun x y=>ltE y x=false) : anyDown (adjB s) (s.length - 1)=false:=by
  rw [Bool.eq_false_iff]
  intro h
  obtain ⟨j,hj,hq⟩:=anyDown_iff.1 h
  unfold adjB at hq
  rw [List.getElem?_eq_getElem (show j < s.length by omega),List.getElem?_eq_getElem (show j + 1 < s.length by omega)] at hq
  have h1 : cmpE s[j] s[j + 1] > 0:=of_decide_eq_true hq
  have h2:=List.pairwise_iff_getElem.1 hs j (j + 1) (by omega) (by omega) (by omega)
  have h3 : ¬ cmpE s[j + 1] s[j] < 0:=of_decide_eq_false h2
  rw [cmpE_anti] at h3
  omega
theorem sort_valid {a : List Event} {p : Int} (ha : a.length ≤ 1048576) (h : areB a p=true) : validB (a.mergeSort (fun x y=>!ltE y x)) p=true:=by
  obtain ⟨s,h1,h2,h3⟩:=l8_sort a ha
  have e:=toArr a s h2 h3
  rw [← e]
  unfold areB at h
  simp only [Bool.and_eq_true,Bool.not_eq_true',decide_eq_true_eq] at h
  unfold validB
  rw [any_perm h2,h2.length_eq,h.1,h.2.2,decide_eq_true h.2.1,← h2.length_eq,sorted_adj h3]
  rfl
/-- The count and the sum of a party's actions. -/
def hit (q : Int) (act : Str) (e : Event) : Bool:=e.Party == q && e.Action == act
def cntL (q : Int) (act : Str) : List Event→Int
  | []=>0
  | e :: l=>(bif hit q act e then 1 else 0) + cntL q act l
def sumL (q : Int) (act : Str) : List Event→Int
  | []=>0
  | e :: l=>(bif hit q act e then e.Amount else 0) + sumL q act l
theorem cntL_app (q : Int) (act : Str) : ∀ (a b : List Event),cntL q act (a ++ b)=cntL q act a + cntL q act b
  | [],b=>by simp [cntL]
  | e :: a,b=>by simp only [List.cons_append,cntL,cntL_app q act a b]; omega
theorem sumL_app (q : Int) (act : Str) : ∀ (a b : List Event),sumL q act (a ++ b)=sumL q act a + sumL q act b
  | [],b=>by simp [sumL]
  | e :: a,b=>by simp only [List.cons_append,sumL,sumL_app q act a b]; omega
theorem cntL_perm {q : Int} {act : Str} {a b : List Event} (h : a.Perm b) : cntL q act a=cntL q act b:=by
  induction h with
  | nil=>rfl
  | cons x _ ih=>simp only [cntL,ih]
  | swap x y l=>simp only [cntL]; omega
  | trans _ _ i1 i2=>rw [i1,i2]
theorem sumL_perm {q : Int} {act : Str} {a b : List Event} (h : a.Perm b) : sumL q act a=sumL q act b:=by
  induction h with
  | nil=>rfl
  | cons x _ ih=>simp only [sumL,ih]
  | swap x y l=>simp only [sumL]; omega
  | trans _ _ i1 i2=>rw [i1,i2]
theorem cnt_b (q : Int) (act : Str) : ∀ (a : List Event),0 ≤ cntL q act a ∧ cntL q act a ≤ a.length
  | []=>by simp [cntL]
  | e :: a=>by
    have:=cnt_b q act a
    simp only [cntL,List.length_cons]
    cases hit q act e <;> simp only [cond_true,cond_false] <;> omega
theorem sum_b (q : Int) (act : Str) : ∀ (a : List Event),(∀ e ∈ a,0 ≤ e.Amount ∧ e.Amount ≤ 1000000)→0 ≤ sumL q act a ∧ sumL q act a ≤ 1000000 * a.length
  | [],_=>by simp [sumL]
  | e :: a,h=>by
    have:=sum_b q act a (fun x hx=>h x (List.mem_cons_of_mem _ hx))
    have he:=h e (by simp)
    simp only [sumL,List.length_cons]
    cases hit q act e <;> simp only [cond_true,cond_false] <;> omega
theorem count_la (a : List Event) (p q : Int) (act : Str) (ha : a.length ≤ 1000) (hb : ∀ e ∈ a,0 ≤ e.Amount ∧ e.Amount ≤ 1000000) : ∀ (k i : Nat) (c t : Int),i + k=a.length→0 ≤ c→c ≤ i→0 ≤ t→t ≤ 1000000 * i→Ffg_la a p q act (c,t,(i : Int))=some (.inr (c + cntL q act (a.drop i),t + sumL q act (a.drop i)))
  | 0,i,c,t,hi,_,_,_,_=>by
    rw [Ffg_la_eq,Ffg_la_F,lt_len,decide_eq_false (by omega),cond_false,List.drop_eq_nil_of_le (by omega)]
    simp [cntL,sumL]
  | k + 1,i,c,t,hi,c0,c1,t0,t1=>by
    have h1 : i < a.length:=by omega
    have he:=hb _ (List.getElem_mem h1)
    rw [Ffg_la_eq,Ffg_la_F,lt_len,decide_eq_true h1,cond_true,getI_nat,List.getElem?_eq_getElem h1,Option.bind_some]
    simp only [letJ_eq,cond_and,w64_succ (show i < 9223372036854775807 by omega)]
    rw [List.drop_eq_getElem_cons h1]
    simp only [cntL,sumL]
    rw [show (a[i].Party == q && a[i].Action == act)=hit q act a[i] from rfl]
    cases hit q act a[i] with
    | true =>
      simp only [cond_true]
      rw [show w64 (c + 1)=c + 1 from w64_id (by omega) (by omega),show w64 (t + a[i].Amount)=t + a[i].Amount from w64_id (by omega) (by omega),count_la a p q act ha hb k (i + 1) _ _ (by omega) (by omega) (by omega) (by omega) (by omega)]
      congr 3 <;> omega
    | false =>
      simp only [cond_false]
      rw [count_la a p q act ha hb k (i + 1) _ _ (by omega) c0 (by omega) t0 (by omega)]
      congr 3 <;> omega
theorem count_val (a : List Event) (p q : Int) (act : Str) (s1 : smL sm_Event a) (hv : validB a p=true) : Ffg a p q act=some (cntL q act a,sumL q act a,true):=by
  obtain ⟨_,c2,c3⟩:=valid_parts hv
  have hb : ∀ e ∈ a,0 ≤ e.Amount ∧ e.Amount ≤ 1000000:=by
    intro e he
    have:=List.any_eq_false.1 c2 e he
    simp only [Bool.not_eq_true',Bool.not_eq_false,evB,Bool.and_eq_true,inB,decide_eq_true_eq] at this
    omega
  unfold Ffg
  rw [impl_valid a p s1,hv,Option.bind_some,Bool.not_true,cond_false,show Ffg_la a p q act (0,0,0)=some (.inr (0 + cntL q act (a.drop 0),0 + sumL q act (a.drop 0))) from count_la a p q act (by omega) hb a.length 0 0 0 (by omega) (by omega) (by omega) (by omega) (by omega),bindJ_inr]
  simp
theorem ev_one (a : List Event) (p : Int) (s1 : smL sm_Event a) (R : List Event × Bool) (hR : R = bif areB a p then (a.mergeSort (fun x y => !ltE y x), true) else ([], false)) :
    (bif (!(R.2 == R.2)) then (some (Sum.inr (α := Bool) true)) else (bindL (ρ := Bool) (bif R.2 then ((Ffh R.1 p).bind fun r25 => letJ (bif (!r25) then (true) else (((len R.1) != (len a)))) fun u26 : Bool => some (.inr u26)) else (some (.inr false))) fun u24 : Bool => some (.inr u24))) = some (.inr false) := by
  subst hR
  cases h : areB a p with
  | false => rfl
  | true =>
    simp only [cond_true, beq_self_eq_true, Bool.not_true, cond_false]
    rw [impl_valid _ p (sm_sort s1), sort_valid s1.1 h]
    simp [len]
theorem ev_two (a b : List Event) (p : Int) (s1 : smL sm_Event a) (s2 : smL sm_Event b) (v : List Event × Bool) (s3 : smL sm_Event v.1) (hv : v.2 = true → validB a p = true ∧ validB b p = true ∧ areB (a ++ b) p = true ∧ v.1 = (a ++ b).mergeSort (fun x y => !ltE y x)) :
    (bif v.2 then ((Ffg a p 0 ([112, 97, 105, 100] : Str)).bind fun r18 => (Ffg b p 0 ([112, 97, 105, 100] : Str)).bind fun r19 => (Ffg v.1 p 0 ([112, 97, 105, 100] : Str)).bind fun r20 => letJ (bif (!r20.2.2) then (true) else (letJ (bif ((w64 (r18.1 + r19.1)) != r20.1) then (true) else (letJ (bif ((w64 (r18.2.1 + r19.2.1)) != r20.2.1) then (true) else (((len v.1) != (w64 ((len a) + (len b)))))) fun u23 : Bool => u23)) fun u22 : Bool => u22)) fun u21 : Bool => bif u21 then (some (.inl false)) else (some (Sum.inr (α := Bool) ()))) else (some (.inr ()))) = some (.inr ()) := by
  cases h : v.2 with
  | false => rfl
  | true =>
    obtain ⟨va, vb, ar, e⟩ := hv h
    have sab : (a ++ b).length ≤ 1048576 := by rw [← List.length_mergeSort (le := fun x y => !ltE y x), ← e]; exact s3.1
    have vv : validB v.1 p = true := by rw [e]; exact sort_valid sab ar
    obtain ⟨_, ca, la⟩ := valid_parts va
    obtain ⟨_, cb, lb⟩ := valid_parts vb
    have hp : v.1.Perm (a ++ b) := by rw [e]; exact List.mergeSort_perm _ _
    have hs : ∀ (x : List Event), (x.any fun e => !evB p e) = false → ∀ e ∈ x, 0 ≤ e.Amount ∧ e.Amount ≤ 1000000 := by
      intro x hx e he
      have := List.any_eq_false.1 hx e he
      simp only [Bool.not_eq_true', Bool.not_eq_false, evB, Bool.and_eq_true, inB, decide_eq_true_eq] at this
      omega
    have b1 := cnt_b 0 ([112, 97, 105, 100] : Str) a
    have b2 := cnt_b 0 ([112, 97, 105, 100] : Str) b
    have b3 := sum_b 0 ([112, 97, 105, 100] : Str) a (hs a ca)
    have b4 := sum_b 0 ([112, 97, 105, 100] : Str) b (hs b cb)
    simp only [cond_true, count_val a p 0 _ s1 va, count_val b p 0 _ s2 vb, count_val v.1 p 0 _ s3 vv, Option.bind_some, letJ_eq, Bool.not_true, cond_false, cntL_perm hp, sumL_perm hp, cntL_app, sumL_app]
    rw [w64_id (by omega) (by omega), w64_id (by omega) (by omega), w64_id (by simp only [len]; omega) (by simp only [len]; omega), bne_self_eq_false, cond_false, bne_self_eq_false, cond_false]
    have hl : len v.1 = len a + len b := by simp only [len]; rw [hp.length_eq, List.length_append]; omega
    rw [hl, bne_self_eq_false]
    rfl
theorem v_same (a : List Event) (ha : a.length ≤ 1000) : Fft a a=some true:=by
  unfold Fft
  rw [bne_self_eq_false,cond_false,eqLoopR (a:=a) (L:=Fft_la a a) (p:=fun e4 e5=>some (e4.Day == e5.Day && (e4.Party == e5.Party && (e4.Action == e5.Action && (e4.Amount == e5.Amount && true))))) (fun x _=>by simp) (fun x=>by rw [Fft_la_eq,Fft_la_F] <;> rfl) (by omega)]
  rfl
theorem shift_back {a : List Event} {p d : Int} (h : shOk a p d=true) : (a.map (shE d)).map (shE (w64 (0 - d)))=a ∧ shOk (a.map (shE d)) p (w64 (0 - d))=true:=by
  unfold shOk at h
  simp only [Bool.and_eq_true] at h
  obtain ⟨h1,h2,h3⟩:=h
  have hd : -36524 ≤ d ∧ d ≤ 36524:=by simp only [inB,Bool.and_eq_true,decide_eq_true_eq] at h2; omega
  have hw : w64 (0 - d)=-d:=by rw [w64_id (by omega) (by omega)]; omega
  obtain ⟨_,ca,_⟩:=valid_parts h1
  have hm : (a.map (shE d)).map (shE (w64 (0 - d)))=a:=by
    rw [List.map_map]
    refine (List.map_congr_left fun e he=>?_).trans (List.map_id a)
    have:=List.any_eq_false.1 ca e he
    simp only [Bool.not_eq_true',Bool.not_eq_false,evB,Bool.and_eq_true,inB,decide_eq_true_eq] at this
    show shE (w64 (0 - d)) (shE d e)=e
    unfold shE
    simp only [hw]
    rw [show w64 (e.Day + d)=e.Day + d from w64_id (by omega) (by omega),show w64 (e.Day + d + -d)=e.Day from by rw [w64_id (by omega) (by omega)]; omega]
  refine ⟨hm,?_⟩
  unfold shOk
  rw [hm,h3,h1,hw]
  simp only [inB,Bool.true_and,Bool.and_true,Bool.and_eq_true,decide_eq_true_eq]
  omega
theorem law_FnEvents (code : List Int) (h : okL (okI .u8) code) : laws_FnEvents code=some true:=by
  unfold laws_FnEvents laws_vBig
  rw [Option.bind_some]
  cases decide (len code > 65536)
  case true=>rfl
  rw [cond_false]
  obtain ⟨a,p,d1,sa,za⟩:=drawSort_ok code h
  have s1:=smL_of sa (by omega)
  have hs : Ffbx a p=some (bif areB a p then (a.mergeSort (fun x y=>!ltE y x),true) else ([],false)):=by
    unfold Ffbx
    rw [spec_are a p s1,Option.bind_some,spec_sort a s1.1]
    cases areB a p <;> rfl
  rw [d1,Option.bind_some]
  simp only []
  rw [Ffl_val a p s1,Option.bind_some,hs,Option.bind_some,ev_one a p s1 _ rfl,bindJ_inr,cond_false]
  obtain ⟨a2,b2,m,d2,⟨sa2,za2⟩,sb2,zb2⟩:=drawMerge_ok code h
  have t1:=smL_of sa2 (by omega)
  have t2:=smL_of sb2 (by omega)
  obtain ⟨v,h1,h2,s3,hv⟩:=merge_val a2 b2 m t1 t2 (by omega)
  rw [d2,Option.bind_some]
  simp only []
  rw [h2,Option.bind_some,h1,Option.bind_some,beq_self_eq_true,Bool.not_true,cond_false,ev_two a2 b2 m t1 t2 v s3 hv,bindJ_inr]
  obtain ⟨e,k,d,d3,⟨se,ze⟩,_⟩:=drawShift_ok code h
  have u1:=smL_of se (by omega)
  rw [d3,Option.bind_some]
  simp only []
  rw [shift_impl e k d u1,Option.bind_some,shift_spec e k d u1,Option.bind_some,beq_self_eq_true,Bool.not_true,cond_false]
  cases hq : shOk e k d with
  | false =>
    simp only [cond_false]
    rw [shift_impl [] k _ ⟨by simp,by simp⟩,Option.bind_some]
    rfl
  | true =>
    obtain ⟨q1,q2⟩:=shift_back hq
    simp only [cond_true]
    rw [shift_impl _ k _ (shift_sm d u1),Option.bind_some,q2,q1]
    simp only [cond_true,Bool.not_true,cond_false]
    rw [v_same e (by omega)]
    rfl
end Go.Ln
