/-
  What the helpers of the laws do: sizes, copies, comparisons.
-/
import Derived.Test.YtgcnameabpnpaaaDoorFnExactFormatEventFun
set_option maxHeartbeats 4000000
set_option linter.unusedVariables false
set_option linter.unusedSimpArgs false
set_option maxRecDepth 100000
namespace Go.Ln
open Go
def sm_Event (x : Event) : Prop:=smI x.Day ∧ smI x.Party ∧ smS x.Action ∧ smI x.Amount
theorem sz_Event (x : Event) (hx : ok_Event x) {l : Int} (h0 : 0 ≤ l) (h1 : l ≤ 1048576) : ∃ r,Ffq x l=some r ∧ (r < 0 ∨ (0 ≤ r ∧ r ≤ l ∧ sm_Event x)):=by
  unfold Ffq
  have m2 : x.Action.length ≤ 9223372036854775807:=hx.2.2.1
  rw [w64_sub (l:=l) (by omega) (by omega) m2]
  by_cases k2 : l - (x.Action.length : Int) < 0
  · rw [decide_eq_true k2,cond_true]
    exact ⟨_,rfl,.inl (by decide)⟩
  rw [decide_eq_false k2,cond_false]
  exact ⟨_,rfl,.inr ⟨by omega,by omega,(by simp [smI]),(by simp [smI]),(by show x.Action.length ≤ 1048576; omega),(by simp [smI])⟩⟩
theorem sz_StringS (a : List Str) (ha : (okL okS) a) {l : Int} (h0 : 0 ≤ l) (h1 : l ≤ 1048576) : ∃ r,Ffr a l=some r ∧ (r < 0 ∨ (0 ≤ r ∧ r ≤ l ∧ (smL smS) a)):=by
  have hm : a.length ≤ 9223372036854775807:=ha.1
  unfold Ffr
  rw [w64_sub h0 (by omega) hm]
  by_cases k : l - (a.length : Int) < 0
  · rw [decide_eq_true k,cond_true]
    exact ⟨_,rfl,.inl (by decide)⟩
  rw [decide_eq_false k,cond_false]
  have hs : ∀ x ∈ a,∀ l : Int,0 ≤ l→l ≤ 1048576→∃ r,(fun e l=>some (w64 (l - len e))) x l=some r ∧ (r < 0 ∨ (0 ≤ r ∧ r ≤ l ∧ smS x)):=by
    intro x hx l h0 h1
    have hx:=ha.2 x hx
    refine ⟨_,rfl,?_⟩
    rw [w64_sub h0 (by omega) hx]
    by_cases k : l - (x.length : Int) < 0
    · exact .inl k
    · exact .inr ⟨by omega,by omega,by show x.length ≤ 1048576; omega⟩
  obtain ⟨y,hy,q⟩:=szLoop (L:=Ffr_la a l) (a:=a) (s:=fun e l=>some (w64 (l - len e))) (ok:=smS) (M:=1048576) (by decide) hs (fun x=>by rw [Ffr_la_eq,Ffr_la_F] <;> rfl) (by omega) (l:=l - (a.length : Int)) (by omega) (by omega)
  rw [hy]
  rcases q with rfl | ⟨r,rfl,q1,q2,q3⟩
  · exact ⟨_,rfl,.inl (by decide)⟩
  · exact ⟨_,rfl,.inr ⟨q1,by omega,by omega,q3⟩⟩
theorem to_Event (x : Event) (hx : sm_Event x) : Ffs x=some x:=by
  unfold Ffs
  rfl
theorem to_StringS (a : List Str) (ha : (smL smS) a) : Fft a=some a:=by
  have hm : a.length ≤ 1048576:=ha.1
  unfold Fft
  rw [mkI_ok (by omega) (by omega),Option.bind_some,copyLoop (L:=Fft_la a) (g:=some) (h:=id) (fun _ _=>rfl) (fun x=>by rw [Fft_la_eq,Fft_la_F] <;> rfl) (by omega) (by simp)]
  simp
theorem eq_StringS (a : List Str) (ha : (smL smS) a) : Ffp a a=some true:=by
  have hm : a.length ≤ 1048576:=ha.1
  unfold Ffp
  rw [bne_self_eq_false,cond_false,eqLoopR (a:=a) (L:=Ffp_la a a) (p:=(fun e f=>some (e == f))) (fun x _=>by rw [beq_self_eq_true]) (fun x=>by rw [Ffp_la_eq,Ffp_la_F] <;> rfl) (by omega)]
  rfl
end Go.Ln
