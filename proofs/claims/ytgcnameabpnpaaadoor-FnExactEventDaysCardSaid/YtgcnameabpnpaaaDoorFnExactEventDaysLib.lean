/-
  What the helpers of the laws do: sizes, copies, comparisons.
-/
import Derived.Test.YtgcnameabpnpaaaDoorFnExactEventDaysFun
set_option maxHeartbeats 4000000
set_option linter.unusedVariables false
set_option linter.unusedSimpArgs false
set_option maxRecDepth 100000
namespace Go.Ln
open Go
def sm_Event (x : Event) : Prop := smI x.Day ∧ smI x.Party ∧ smS x.Action ∧ smI x.Amount
theorem sz_Event (x : Event) (hx : ok_Event x) {l : Int} (h0 : 0 ≤ l) (h1 : l ≤ 1048576) : ∃ r, laws_szEvent x l = some r ∧ (r < 0 ∨ (0 ≤ r ∧ r ≤ l ∧ sm_Event x)) := by
  unfold laws_szEvent
  have m2 : x.Action.length ≤ 9223372036854775807 := hx.2.2.1
  rw [w64_sub (l := l) (by omega) (by omega) m2]
  by_cases k2 : l - (x.Action.length : Int) < 0
  · rw [decide_eq_true k2, cond_true]
    exact ⟨_, rfl, .inl (by decide)⟩
  rw [decide_eq_false k2, cond_false]
  exact ⟨_, rfl, .inr ⟨by omega, by omega, (by simp [smI]), (by simp [smI]), (by show x.Action.length ≤ 1048576; omega), (by simp [smI])⟩⟩
theorem sz_EventS (a : List Event) (ha : (okL ok_Event) a) {l : Int} (h0 : 0 ≤ l) (h1 : l ≤ 1048576) : ∃ r, laws_szEventS a l = some r ∧ (r < 0 ∨ (0 ≤ r ∧ r ≤ l ∧ (smL sm_Event) a)) := by
  have hm : a.length ≤ 9223372036854775807 := ha.1
  unfold laws_szEventS
  rw [w64_sub h0 (by omega) hm]
  by_cases k : l - (a.length : Int) < 0
  · rw [decide_eq_true k, cond_true]
    exact ⟨_, rfl, .inl (by decide)⟩
  rw [decide_eq_false k, cond_false]
  have hs : ∀ x ∈ a, ∀ l : Int, 0 ≤ l → l ≤ 1048576 → ∃ r, (fun e l => laws_szEvent e l) x l = some r ∧ (r < 0 ∨ (0 ≤ r ∧ r ≤ l ∧ sm_Event x)) := by
    intro x hx l h0 h1
    exact sz_Event x (ha.2 x hx) h0 h1
  obtain ⟨y, hy, q⟩ := szLoop (L := laws_szEventS_la a l) (a := a) (s := fun e l => laws_szEvent e l) (ok := sm_Event) (M := 1048576) (by decide) hs (fun x => by rw [laws_szEventS_la_eq, laws_szEventS_la_F] <;> rfl) (by omega) (l := l - (a.length : Int)) (by omega) (by omega)
  rw [hy]
  rcases q with rfl | ⟨r, rfl, q1, q2, q3⟩
  · exact ⟨_, rfl, .inl (by decide)⟩
  · exact ⟨_, rfl, .inr ⟨q1, by omega, by omega, q3⟩⟩
theorem to_Event (x : Event) (hx : sm_Event x) : laws_toEvent x = some x := by
  unfold laws_toEvent
  rfl
theorem to_EventS (a : List Event) (ha : (smL sm_Event) a) : laws_toEventS a = some a := by
  have hm : a.length ≤ 1048576 := ha.1
  unfold laws_toEventS
  rw [mkI_ok (by omega) (by omega), Option.bind_some, copyLoop (L := laws_toEventS_la a) (g := (fun e => laws_toEvent e)) (h := id) (fun x hx => to_Event x (ha.2 x hx)) (fun x => by rw [laws_toEventS_la_eq, laws_toEventS_la_F] <;> rfl) (by omega) (by simp)]
  simp
theorem eq_IntS (a : List Int) (ha : (smL smI) a) : laws_eqIntS a a = some true := by
  have hm : a.length ≤ 1048576 := ha.1
  unfold laws_eqIntS
  rw [bne_self_eq_false, cond_false, eqLoopR (a := a) (L := laws_eqIntS_la a a) (p := (fun e f => some (e == f))) (fun x _ => by rw [beq_self_eq_true]) (fun x => by rw [laws_eqIntS_la_eq, laws_eqIntS_la_F] <;> rfl) (by omega)]
  rfl
theorem eq_Event (x : Event) (hx : sm_Event x) : laws_eqEvent x x = some true := by
  unfold laws_eqEvent
  simp []
theorem eq_EventS (a : List Event) (ha : (smL sm_Event) a) : laws_eqEventS a a = some true := by
  have hm : a.length ≤ 1048576 := ha.1
  unfold laws_eqEventS
  rw [bne_self_eq_false, cond_false, eqLoopR (a := a) (L := laws_eqEventS_la a a) (p := (fun e f => laws_eqEvent e f)) (fun x hx => eq_Event x (ha.2 x hx)) (fun x => by rw [laws_eqEventS_la_eq, laws_eqEventS_la_F] <;> rfl) (by omega)]
  rfl
end Go.Ln
