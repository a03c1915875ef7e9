/-
  What the helpers of the laws do: sizes, copies, comparisons.
-/
import Derived.Test.YtgcnameabpnpaaaFnExactEqualStatesFun
set_option linter.unusedVariables false
set_option linter.unusedSimpArgs false
namespace Go.Ln
open Go
def sm_Duty (x : Duty) : Prop := smI x.Clause ∧ smI x.Since ∧ smI x.Due ∧ smI x.Status
def sm_State (x : State) : Prop := smI x.Day ∧ (smL smS) x.Facts ∧ (smL sm_Duty) x.Duties ∧ (smL smI) x.Balances ∧ smB x.Over
theorem sz_StringS (a : List Str) (ha : (okL okS) a) {l : Int} (h0 : 0 ≤ l) (h1 : l ≤ 1048576) : ∃ r, laws_szStringS a l = some r ∧ (r < 0 ∨ (0 ≤ r ∧ r ≤ l ∧ (smL smS) a)) := by
  have hm : a.length ≤ 9223372036854775807 := ha.1
  unfold laws_szStringS
  rw [w64_sub h0 (by omega) hm]
  by_cases k : l - (a.length : Int) < 0
  · rw [decide_eq_true k, cond_true]
    exact ⟨_, rfl, .inl (by decide)⟩
  rw [decide_eq_false k, cond_false]
  have hs : ∀ x ∈ a, ∀ l : Int, 0 ≤ l → l ≤ 1048576 → ∃ r, (fun e l => some (w64 (l - len e))) x l = some r ∧ (r < 0 ∨ (0 ≤ r ∧ r ≤ l ∧ smS x)) := by
    intro x hx l h0 h1
    have hx := ha.2 x hx
    refine ⟨_, rfl, ?_⟩
    rw [w64_sub h0 (by omega) hx]
    by_cases k : l - (x.length : Int) < 0
    · exact .inl k
    · exact .inr ⟨by omega, by omega, by show x.length ≤ 1048576; omega⟩
  obtain ⟨y, hy, q⟩ := szLoop (L := laws_szStringS_la a l) (a := a) (s := fun e l => some (w64 (l - len e))) (ok := smS) (M := 1048576) (by decide) hs (fun x => by rw [laws_szStringS_la_eq, laws_szStringS_la_F] <;> rfl) (by omega) (l := l - (a.length : Int)) (by omega) (by omega)
  rw [hy]
  rcases q with rfl | ⟨r, rfl, q1, q2, q3⟩
  · exact ⟨_, rfl, .inl (by decide)⟩
  · exact ⟨_, rfl, .inr ⟨q1, by omega, by omega, q3⟩⟩
theorem sz_DutyS (a : List Duty) (ha : (okL ok_Duty) a) {l : Int} (h0 : 0 ≤ l) (h1 : l ≤ 1048576) : ∃ r, laws_szDutyS a l = some r ∧ (r < 0 ∨ (0 ≤ r ∧ r ≤ l ∧ (smL sm_Duty) a)) := by
  have hm : a.length ≤ 9223372036854775807 := ha.1
  unfold laws_szDutyS
  rw [w64_sub h0 (by omega) hm]
  by_cases k : l - (a.length : Int) < 0
  · rw [decide_eq_true k, cond_true]
    exact ⟨_, rfl, .inl (by decide)⟩
  rw [decide_eq_false k, cond_false]
  exact ⟨_, rfl, .inr ⟨by omega, by omega, by omega, fun x _ => by simp [sm_Duty, smI]⟩⟩
theorem sz_IntS (a : List Int) (ha : (okL I64) a) {l : Int} (h0 : 0 ≤ l) (h1 : l ≤ 1048576) : ∃ r, laws_szIntS a l = some r ∧ (r < 0 ∨ (0 ≤ r ∧ r ≤ l ∧ (smL smI) a)) := by
  have hm : a.length ≤ 9223372036854775807 := ha.1
  unfold laws_szIntS
  rw [w64_sub h0 (by omega) hm]
  by_cases k : l - (a.length : Int) < 0
  · rw [decide_eq_true k, cond_true]
    exact ⟨_, rfl, .inl (by decide)⟩
  rw [decide_eq_false k, cond_false]
  exact ⟨_, rfl, .inr ⟨by omega, by omega, by omega, fun x _ => by simp [smI]⟩⟩
theorem sz_State (x : State) (hx : ok_State x) {l : Int} (h0 : 0 ≤ l) (h1 : l ≤ 1048576) : ∃ r, laws_szState x l = some r ∧ (r < 0 ∨ (0 ≤ r ∧ r ≤ l ∧ sm_State x)) := by
  unfold laws_szState
  obtain ⟨r1, e1, q1⟩ := sz_StringS x.Facts hx.2.1 (l := l) (by omega) (by omega)
  rw [e1, Option.bind_some]
  rcases q1 with q1 | ⟨q1, p1, s1⟩
  · rw [decide_eq_true q1, cond_true]
    exact ⟨_, rfl, .inl (by decide)⟩
  rw [decide_eq_false (by omega), cond_false]
  obtain ⟨r2, e2, q2⟩ := sz_DutyS x.Duties hx.2.2.1 (l := r1) (by omega) (by omega)
  rw [e2, Option.bind_some]
  rcases q2 with q2 | ⟨q2, p2, s2⟩
  · rw [decide_eq_true q2, cond_true]
    exact ⟨_, rfl, .inl (by decide)⟩
  rw [decide_eq_false (by omega), cond_false]
  obtain ⟨r3, e3, q3⟩ := sz_IntS x.Balances hx.2.2.2.1 (l := r2) (by omega) (by omega)
  rw [e3, Option.bind_some]
  rcases q3 with q3 | ⟨q3, p3, s3⟩
  · rw [decide_eq_true q3, cond_true]
    exact ⟨_, rfl, .inl (by decide)⟩
  rw [decide_eq_false (by omega), cond_false]
  exact ⟨_, rfl, .inr ⟨by omega, by omega, (by simp [smI]), s1, s2, s3, (by simp [smB])⟩⟩
theorem to_StringS (a : List Str) (ha : (smL smS) a) : laws_toStringS a = some a := by
  have hm : a.length ≤ 1048576 := ha.1
  unfold laws_toStringS
  rw [mkI_ok (by omega) (by omega), Option.bind_some, copyLoop (L := laws_toStringS_la a) (g := some) (h := id) (fun _ _ => rfl) (fun x => by rw [laws_toStringS_la_eq, laws_toStringS_la_F] <;> rfl) (by omega) (by simp)]
  simp
theorem to_Duty (x : Duty) (hx : sm_Duty x) : laws_toDuty x = some x := by
  unfold laws_toDuty
  rfl
theorem to_DutyS (a : List Duty) (ha : (smL sm_Duty) a) : laws_toDutyS a = some a := by
  have hm : a.length ≤ 1048576 := ha.1
  unfold laws_toDutyS
  rw [mkI_ok (by omega) (by omega), Option.bind_some, copyLoop (L := laws_toDutyS_la a) (g := (fun e => laws_toDuty e)) (h := id) (fun x hx => to_Duty x (ha.2 x hx)) (fun x => by rw [laws_toDutyS_la_eq, laws_toDutyS_la_F] <;> rfl) (by omega) (by simp)]
  simp
theorem to_IntS (a : List Int) (ha : (smL smI) a) : laws_toIntS a = some a := by
  have hm : a.length ≤ 1048576 := ha.1
  unfold laws_toIntS
  rw [mkI_ok (by omega) (by omega), Option.bind_some, copyLoop (L := laws_toIntS_la a) (g := some) (h := id) (fun _ _ => rfl) (fun x => by rw [laws_toIntS_la_eq, laws_toIntS_la_F] <;> rfl) (by omega) (by simp)]
  simp
theorem to_State (x : State) (hx : sm_State x) : laws_toState x = some x := by
  unfold laws_toState
  simp only [to_StringS x.Facts hx.2.1, to_DutyS x.Duties hx.2.2.1, to_IntS x.Balances hx.2.2.2.1, Option.bind_some]
theorem eq_StringS (a : List Str) (ha : (smL smS) a) : laws_eqStringS a a = some true := by
  have hm : a.length ≤ 1048576 := ha.1
  unfold laws_eqStringS
  rw [bne_self_eq_false, cond_false, eqLoopR (a := a) (L := laws_eqStringS_la a a) (p := (fun e f => some (e == f))) (fun x _ => by rw [beq_self_eq_true]) (fun x => by rw [laws_eqStringS_la_eq, laws_eqStringS_la_F] <;> rfl) (by omega)]
  rfl
theorem eq_Duty (x : Duty) (hx : sm_Duty x) : laws_eqDuty x x = some true := by
  unfold laws_eqDuty
  simp []
theorem eq_DutyS (a : List Duty) (ha : (smL sm_Duty) a) : laws_eqDutyS a a = some true := by
  have hm : a.length ≤ 1048576 := ha.1
  unfold laws_eqDutyS
  rw [bne_self_eq_false, cond_false, eqLoopR (a := a) (L := laws_eqDutyS_la a a) (p := (fun e f => laws_eqDuty e f)) (fun x hx => eq_Duty x (ha.2 x hx)) (fun x => by rw [laws_eqDutyS_la_eq, laws_eqDutyS_la_F] <;> rfl) (by omega)]
  rfl
theorem eq_IntS (a : List Int) (ha : (smL smI) a) : laws_eqIntS a a = some true := by
  have hm : a.length ≤ 1048576 := ha.1
  unfold laws_eqIntS
  rw [bne_self_eq_false, cond_false, eqLoopR (a := a) (L := laws_eqIntS_la a a) (p := (fun e f => some (e == f))) (fun x _ => by rw [beq_self_eq_true]) (fun x => by rw [laws_eqIntS_la_eq, laws_eqIntS_la_F] <;> rfl) (by omega)]
  rfl
theorem eq_State (x : State) (hx : sm_State x) : laws_eqState x x = some true := by
  unfold laws_eqState
  simp [eq_StringS x.Facts hx.2.1, eq_DutyS x.Duties hx.2.2.1, eq_IntS x.Balances hx.2.2.2.1]
end Go.Ln
