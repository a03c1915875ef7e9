/-
  What the helpers of the laws do: sizes, copies, comparisons.
-/
import Derived.Test.YtgcnameabpnpaaaDoorFnExactSortEventsFun
set_option maxHeartbeats 4000000
set_option linter.unusedVariables false
set_option linter.unusedSimpArgs false
set_option maxRecDepth 100000
namespace Go.Ln
open Go
def sm_Event (x : Event) : Prop := smI x.Day ∧ smI x.Party ∧ smS x.Action ∧ smI x.Amount
theorem sz_Event (x : Event) (hx : ok_Event x) {l : Int} (h0 : 0 ≤ l) (h1 : l ≤ 1048576) : ∃ r, Ffu x l = some r ∧ (r < 0 ∨ (0 ≤ r ∧ r ≤ l ∧ sm_Event x)) := by
  unfold Ffu
  have m2 : x.Action.length ≤ 9223372036854775807 := hx.2.2.1
  rw [w64_sub (l := l) (by omega) (by omega) m2]
  by_cases k2 : l - (x.Action.length : Int) < 0
  · rw [decide_eq_true k2, cond_true]
    exact ⟨_, rfl, .inl (by decide)⟩
  rw [decide_eq_false k2, cond_false]
  exact ⟨_, rfl, .inr ⟨by omega, by omega, (by simp [smI]), (by simp [smI]), (by show x.Action.length ≤ 1048576; omega), (by simp [smI])⟩⟩
theorem sz_EventS (a : List Event) (ha : (okL ok_Event) a) {l : Int} (h0 : 0 ≤ l) (h1 : l ≤ 1048576) : ∃ r, Ffv a l = some r ∧ (r < 0 ∨ (0 ≤ r ∧ r ≤ l ∧ (smL sm_Event) a)) := by
  have hm : a.length ≤ 9223372036854775807 := ha.1
  unfold Ffv
  rw [w64_sub h0 (by omega) hm]
  by_cases k : l - (a.length : Int) < 0
  · rw [decide_eq_true k, cond_true]
    exact ⟨_, rfl, .inl (by decide)⟩
  rw [decide_eq_false k, cond_false]
  have hs : ∀ x ∈ a, ∀ l : Int, 0 ≤ l → l ≤ 1048576 → ∃ r, (fun e l => Ffu e l) x l = some r ∧ (r < 0 ∨ (0 ≤ r ∧ r ≤ l ∧ sm_Event x)) := by
    intro x hx l h0 h1
    exact sz_Event x (ha.2 x hx) h0 h1
  obtain ⟨y, hy, q⟩ := szLoop (L := Ffv_la a l) (a := a) (s := fun e l => Ffu e l) (ok := sm_Event) (M := 1048576) (by decide) hs (fun x => by rw [Ffv_la_eq, Ffv_la_F] <;> rfl) (by omega) (l := l - (a.length : Int)) (by omega) (by omega)
  rw [hy]
  rcases q with rfl | ⟨r, rfl, q1, q2, q3⟩
  · exact ⟨_, rfl, .inl (by decide)⟩
  · exact ⟨_, rfl, .inr ⟨q1, by omega, by omega, q3⟩⟩
theorem to_Event (x : Event) (hx : sm_Event x) : Ffw x = some x := by
  unfold Ffw
  rfl
theorem to_EventS (a : List Event) (ha : (smL sm_Event) a) : Ffx a = some a := by
  have hm : a.length ≤ 1048576 := ha.1
  unfold Ffx
  rw [mkI_ok (by omega) (by omega), Option.bind_some, copyLoop (L := Ffx_la a) (g := (fun e => Ffw e)) (h := id) (fun x hx => to_Event x (ha.2 x hx)) (fun x => by rw [Ffx_la_eq, Ffx_la_F] <;> rfl) (by omega) (by simp)]
  simp
theorem eq_Event (x : Event) (hx : sm_Event x) : Ffp x x = some true := by
  unfold Ffp
  simp []
theorem eq_EventS (a : List Event) (ha : (smL sm_Event) a) : Ffq a a = some true := by
  have hm : a.length ≤ 1048576 := ha.1
  unfold Ffq
  rw [bne_self_eq_false, cond_false, eqLoopR (a := a) (L := Ffq_la a a) (p := (fun e f => Ffp e f)) (fun x hx => eq_Event x (ha.2 x hx)) (fun x => by rw [Ffq_la_eq, Ffq_la_F] <;> rfl) (by omega)]
  rfl
end Go.Ln
