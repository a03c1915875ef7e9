/-
  What the helpers of the laws do: sizes, copies, comparisons.
-/
import Derived.Test.YtgcnameabpnpaaaDoorFnExactMergeEventsFun
set_option maxHeartbeats 4000000
set_option linter.unusedVariables false
set_option linter.unusedSimpArgs false
set_option maxRecDepth 100000
namespace Go.Ln
open Go
def sm_Event (x : Event) : Prop:=smI x.Day ∧ smI x.Party ∧ smS x.Action ∧ smI x.Amount
theorem sz_Event (x : Event) (hx : ok_Event x) {l : Int} (h0 : 0 ≤ l) (h1 : l ≤ 1048576) : ∃ r,Ffw x l=some r ∧ (r < 0 ∨ (0 ≤ r ∧ r ≤ l ∧ sm_Event x)):=by
  unfold Ffw
  have m2 : x.Action.length ≤ 9223372036854775807:=hx.2.2.1
  rw [w64_sub (l:=l) (by omega) (by omega) m2]
  by_cases k2 : l - (x.Action.length : Int) < 0
  · rw [decide_eq_true k2,cond_true]
    exact ⟨_,rfl,.inl (by decide)⟩
  rw [decide_eq_false k2,cond_false]
  exact ⟨_,rfl,.inr ⟨by omega,by omega,(by simp [smI]),(by simp [smI]),(by show x.Action.length ≤ 1048576; omega),(by simp [smI])⟩⟩
theorem sz_EventS (a : List Event) (ha : (okL ok_Event) a) {l : Int} (h0 : 0 ≤ l) (h1 : l ≤ 1048576) : ∃ r,Ffx a l=some r ∧ (r < 0 ∨ (0 ≤ r ∧ r ≤ l ∧ (smL sm_Event) a)):=by
  have hm : a.length ≤ 9223372036854775807:=ha.1
  unfold Ffx
  rw [w64_sub h0 (by omega) hm]
  by_cases k : l - (a.length : Int) < 0
  · rw [decide_eq_true k,cond_true]
    exact ⟨_,rfl,.inl (by decide)⟩
  rw [decide_eq_false k,cond_false]
  have hs : ∀ x ∈ a,∀ l : Int,0 ≤ l→l ≤ 1048576→∃ r,(fun e l=>Ffw e l) x l=some r ∧ (r < 0 ∨ (0 ≤ r ∧ r ≤ l ∧ sm_Event x)):=by
    intro x hx l h0 h1
    exact sz_Event x (ha.2 x hx) h0 h1
  obtain ⟨y,hy,q⟩:=szLoop (L:=Ffx_la a l) (a:=a) (s:=fun e l=>Ffw e l) (ok:=sm_Event) (M:=1048576) (by decide) hs (fun x=>by rw [Ffx_la_eq,Ffx_la_F] <;> rfl) (by omega) (l:=l - (a.length : Int)) (by omega) (by omega)
  rw [hy]
  rcases q with rfl | ⟨r,rfl,q1,q2,q3⟩
  · exact ⟨_,rfl,.inl (by decide)⟩
  · exact ⟨_,rfl,.inr ⟨q1,by omega,by omega,q3⟩⟩
theorem to_Event (x : Event) (hx : sm_Event x) : Ffy x=some x:=by
  unfold Ffy
  rfl
theorem to_EventS (a : List Event) (ha : (smL sm_Event) a) : Ffz a=some a:=by
  have hm : a.length ≤ 1048576:=ha.1
  unfold Ffz
  rw [mkI_ok (by omega) (by omega),Option.bind_some,copyLoop (L:=Ffz_la a) (g:=(fun e=>Ffy e)) (h:=id) (fun x hx=>to_Event x (ha.2 x hx)) (fun x=>by rw [Ffz_la_eq,Ffz_la_F] <;> rfl) (by omega) (by simp)]
  simp
theorem eq_Event (x : Event) (hx : sm_Event x) : Ffr x x=some true:=by
  unfold Ffr
  simp []
theorem eq_EventS (a : List Event) (ha : (smL sm_Event) a) : Ffs a a=some true:=by
  have hm : a.length ≤ 1048576:=ha.1
  unfold Ffs
  rw [bne_self_eq_false,cond_false,eqLoopR (a:=a) (L:=Ffs_la a a) (p:=(fun e f=>Ffr e f)) (fun x hx=>eq_Event x (ha.2 x hx)) (fun x=>by rw [Ffs_la_eq,Ffs_la_F] <;> rfl) (by omega)]
  rfl
end Go.Ln
