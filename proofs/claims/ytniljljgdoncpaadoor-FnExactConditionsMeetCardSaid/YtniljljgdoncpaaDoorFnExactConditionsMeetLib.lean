/-
  What the helpers of the laws do: sizes, copies, comparisons.
-/
import Derived.Test.YtniljljgdoncpaaDoorFnExactConditionsMeetFun
set_option maxHeartbeats 4000000
set_option linter.unusedVariables false
set_option linter.unusedSimpArgs false
set_option maxRecDepth 100000
namespace Go.Ln
open Go
mutual
def nc_Condition : Condition→Nat
  | ⟨_,_,_,a3⟩=>1 + nc_Conditions a3
def nc_Conditions : List Condition→Nat
  | []=>0
  | x :: xs=>nc_Condition x + nc_Conditions xs
end
theorem nc_Condition_eq (x : Condition) : nc_Condition x=1 + nc_Conditions x.Parts:=by cases x; simp only [nc_Condition]
theorem nc_Conditions_eq : ∀ a,nc_Conditions a=a.length + (a.map fun x=>nc_Conditions x.Parts).sum
  | []=>rfl
  | x :: xs=>by simp only [nc_Conditions,nc_Condition_eq,nc_Conditions_eq xs,List.length_cons,List.map_cons,List.sum_cons]; omega
mutual
def sm_Condition : Condition→Prop
  | ⟨a0,a1,a2,a3⟩=>smI a0 ∧ smS a1 ∧ smI a2 ∧ (a3.length ≤ 1048576 ∧ sm_Conditions a3) ∧ nc_Conditions a3 ≤ 1048576
def sm_Conditions : List Condition→Prop
  | []=>True
  | x :: xs=>sm_Condition x ∧ sm_Conditions xs
end
theorem sm_Conditions_iff : ∀ xs,sm_Conditions xs ↔ ∀ x ∈ xs,sm_Condition x
  | []=>by simp [sm_Conditions]
  | x :: xs=>by simp [sm_Conditions,sm_Conditions_iff xs]
theorem sm_Condition_iff (x : Condition) : sm_Condition x ↔ smI x.Op ∧ smS x.Name ∧ smI x.Day ∧ smL sm_Condition x.Parts ∧ nc_Conditions x.Parts ≤ 1048576:=by cases x; simp only [sm_Condition,sm_Conditions_iff,smL]
theorem rec_Condition {P : Condition→Prop} (h : ∀ x,(∀ y ∈ x.Parts,P y)→P x) : ∀ x,P x:=by
  have key : ∀ (N : Nat) (x : Condition),SizeOf.sizeOf x < N→P x:=by
    intro N
    induction N with
    | zero=>intro x hx; omega
    | succ N ih =>
      intro x hx
      refine h x fun y hy=>ih y ?_
      cases x
      have:=List.sizeOf_lt_of_mem hy
      simp at this hx
      omega
  exact fun x=>key _ x (Nat.lt_succ_self _)
theorem sz_ConditionSw (a : List Condition) (ha : okL Ffba a) (ih : ∀ y ∈ a, Ffba y → ∀ l : Int, 0 ≤ l → l ≤ 1048576 → ∃ r, Ffs y l = some r ∧ (r < 0 ∨ (0 ≤ r ∧ r + ((nc_Conditions y.Parts : Nat) : Int) ≤ l ∧ sm_Condition y))) {l : Int} (h0 : 0 ≤ l) (h1 : l ≤ 1048576) :
    ∃ r, Ffu (fixO Ffs_G) a l = some r ∧ (r < 0 ∨ (0 ≤ r ∧ r + ((nc_Conditions a : Nat) : Int) ≤ l ∧ smL sm_Condition a)) := by
  have hm : a.length ≤ 9223372036854775807 := ha.1
  unfold Ffu
  rw [w64_sub h0 (by omega) hm]
  by_cases k : l - (a.length : Int) < 0
  · rw [decide_eq_true k, cond_true]
    exact ⟨_, rfl, .inl (by decide)⟩
  rw [decide_eq_false k, cond_false]
  obtain ⟨y, hy, q⟩ := szLoopW (L := Ffu_la (fixO Ffs_G) a l) (a := a) (s := fun e l => Ffs e l) (w := fun x => nc_Conditions x.Parts) (ok := sm_Condition) (M := 1048576) (by decide) (fun x hx l h0 h1 => ih x hx (ha.2 x hx) l h0 h1) (fun x => by rw [Ffu_la_eq, Ffu_la_F] <;> rfl) (by omega) (l := l - (a.length : Int)) (by omega) (by omega)
  rw [hy]
  rcases q with rfl | ⟨r, rfl, q1, q2, q3⟩
  · exact ⟨_, rfl, .inl (by decide)⟩
  · exact ⟨_, rfl, .inr ⟨q1, by rw [nc_Conditions_eq]; omega, by show a.length ≤ 1048576; omega, q3⟩⟩
theorem sz_Conditionw (x : Condition) : Ffba x→∀ l : Int,0 ≤ l→l ≤ 1048576→∃ r,Ffs x l=some r ∧ (r < 0 ∨ (0 ≤ r ∧ r + ((nc_Conditions x.Parts : Nat) : Int) ≤ l ∧ sm_Condition x)):=by
  refine rec_Condition (P:=fun x=>Ffba x→∀ l : Int,0 ≤ l→l ≤ 1048576→∃ r,Ffs x l=some r ∧ (r < 0 ∨ (0 ≤ r ∧ r + ((nc_Conditions x.Parts : Nat) : Int) ≤ l ∧ sm_Condition x))) ?_ x
  intro x ih hx l h0 h1
  rw [Ffba_iff] at hx
  rw [Ffs_eq]
  unfold Ffs_B
  have m1 : x.Name.length ≤ 9223372036854775807:=hx.2.1
  rw [w64_sub (l:=l) (by omega) (by omega) m1]
  by_cases k1 : l - (x.Name.length : Int) < 0
  · rw [decide_eq_true k1,cond_true]
    exact ⟨_,rfl,.inl (by decide)⟩
  rw [decide_eq_false k1,cond_false]
  obtain ⟨r3,e3,q3⟩:=sz_ConditionSw x.Parts hx.2.2.2 ih (l:=(l - (x.Name.length : Int))) (by omega) (by omega)
  rw [e3,Option.bind_some]
  rcases q3 with q3 | ⟨q3,p3,s3⟩
  · rw [decide_eq_true q3,cond_true]
    exact ⟨_,rfl,.inl (by decide)⟩
  rw [decide_eq_false (by omega),cond_false]
  exact ⟨_,rfl,.inr ⟨by omega,by omega,(sm_Condition_iff x).2 ⟨(by simp [smI]),(by show x.Name.length ≤ 1048576; omega),(by simp [smI]),s3,by omega⟩⟩⟩
theorem sz_Condition (x : Condition) (hx : Ffba x) {l : Int} (h0 : 0 ≤ l) (h1 : l ≤ 1048576) : ∃ r,Ffs x l=some r ∧ (r < 0 ∨ (0 ≤ r ∧ r ≤ l ∧ sm_Condition x)):=by
  obtain ⟨r,h,q⟩:=sz_Conditionw x hx l h0 h1
  exact ⟨r,h,q.imp id fun ⟨q1,q2,q3⟩=>⟨q1,by omega,q3⟩⟩
theorem sz_ConditionS (a : List Condition) (ha : okL Ffba a) {l : Int} (h0 : 0 ≤ l) (h1 : l ≤ 1048576) : ∃ r,Fft a l=some r ∧ (r < 0 ∨ (0 ≤ r ∧ r ≤ l ∧ smL sm_Condition a)):=by
  obtain ⟨r,h,q⟩:=sz_ConditionSw a ha (fun y _ hy l h0 h1=>sz_Conditionw y hy l h0 h1) h0 h1
  exact ⟨r,h,q.imp id fun ⟨q1,q2,q3⟩=>⟨q1,by omega,q3⟩⟩
theorem to_ConditionSw (a : List Condition) (ha : smL sm_Condition a) (ih : ∀ y ∈ a,sm_Condition y→Ffv y=some y) : Ffx (fixO Ffv_G) a=some a:=by
  have hm : a.length ≤ 1048576:=ha.1
  unfold Ffx
  rw [mkI_ok (by omega) (by omega),Option.bind_some,copyLoop (L:=Ffx_la (fixO Ffv_G) a) (g:=fun e=>Ffv e) (h:=id) (fun x hx=>ih x hx (ha.2 x hx)) (fun x=>by rw [Ffx_la_eq,Ffx_la_F] <;> rfl) (by omega) (by simp)]
  simp
theorem to_Condition (x : Condition) : sm_Condition x→Ffv x=some x:=by
  refine rec_Condition (P:=fun x=>sm_Condition x→Ffv x=some x) ?_ x
  intro x ih hx
  rw [sm_Condition_iff] at hx
  rw [Ffv_eq]
  unfold Ffv_B
  rw [to_ConditionSw x.Parts hx.2.2.2.1 ih]
  cases x; rfl
theorem to_ConditionS (a : List Condition) (ha : smL sm_Condition a) : Ffw a=some a:=to_ConditionSw a ha fun y _ hy=>to_Condition y hy
theorem eq_ConditionSw (a : List Condition) (ha : smL sm_Condition a) (ih : ∀ y ∈ a,sm_Condition y→Ffp y y=some true) : Ffr (fixO Ffp_G) a a=some true:=by
  have hm : a.length ≤ 1048576:=ha.1
  unfold Ffr
  rw [bne_self_eq_false,cond_false,eqLoopR (a:=a) (L:=Ffr_la (fixO Ffp_G) a a) (p:=fun e f=>Ffp e f) (fun x hx=>ih x hx (ha.2 x hx)) (fun x=>by rw [Ffr_la_eq,Ffr_la_F] <;> rfl) (by omega)]
  rfl
theorem eq_Condition (x : Condition) : sm_Condition x→Ffp x x=some true:=by
  refine rec_Condition (P:=fun x=>sm_Condition x→Ffp x x=some true) ?_ x
  intro x ih hx
  rw [sm_Condition_iff] at hx
  rw [Ffp_eq]
  unfold Ffp_B
  simp [eq_ConditionSw x.Parts hx.2.2.2.1 ih]
theorem eq_ConditionS (a : List Condition) (ha : smL sm_Condition a) : Ffq a a=some true:=eq_ConditionSw a ha fun y _ hy=>eq_Condition y hy
end Go.Ln
