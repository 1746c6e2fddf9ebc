/- An evaluator of programs by terms that the kernel reduces, and the laws that it tells the truth. Conditions: none. -/
import Derived.Below
import Derived.Test.YtcjpaobmdfnpiaaGreatDoorEv7
set_option linter.all false
section
/-! # From a run on the empty heap to the call's contract -/
set_option autoImplicit false
set_option linter.unusedVariables false
namespace Go.Ev
open Go Go.RowKit
variable {P : Program}
theorem HR.start {w : World} (hf : FreeC w.heap) : HR P (fun _ => none) (.mk .nil 0) w :=
  ⟨fun g hg => absurd hg (Nat.not_lt_zero g), ⟨hf, fun _ _ e => (by cases e)⟩, fun _ _ e => (by cases e), fun _ _ e => (by cases e), fun a o e => (by cases a <;> cases e), fun a o e => (by cases a <;> cases e), fun a a' o o' x x' e => (by cases a <;> cases e)⟩
theorem H.empty_at (a : Nat) : (H.mk .nil 0).at a = none := by cases a <;> rfl
theorem St.below {w w' : World} {ρ' : Rho} {h' : H} (t : St (fun _ => none) (.mk .nil 0) w ρ' h' w') : Below w.heap.size w w' :=
  ⟨t.os, t.tape, t.out, t.size, fun j hj => t.frame j hj fun a o x _ e => (by cases e)⟩
/-- What a run on the empty heap gives. -/
theorem calls_of_me {g : Nat} {xs : List RV} {v : RV} {ho : H} (m : MeOk P (.mk g xs (.mk .nil 0) v ho)) {fn : Func} {c : Code} (hfn : P.funcs[g]? = some fn) (hname : (fn.name == "runtime.NumGoroutine") = false) (hb : fn.body = some c) {vs : List Value} (ha : RRs (fun _ => none) xs vs) {w : World} (hf : FreeC w.heap) :
    Calls P g vs.toArray w fun e w' => ∃ ρ' x, e = .returned x ∧ RR ρ' v x ∧ HR P ρ' ho w' ∧ FreeC w'.heap ∧ Below w.heap.size w w' := by
  have h1 := m (rv := v) (rh := ho) (k := fun x h => .ok x h) (kp := fun _ _ => .err "a panic") (HR.start hf) ha rfl
  rw [run_callFunc_body hfn hname hb] at h1
  refine Calls.mono h1 fun en w' he => ?_
  cases en with
  | returned x =>
    obtain ⟨x', h', ρ', e1, r, t, q⟩ := he
    cases e1
    exact ⟨ρ', x, rfl, q, r, r.free.1, t.below⟩
  | panicked ch => obtain ⟨c, u, h', ρ', _, e2, _⟩ := he; cases e2
  | outgrown => exact absurd he id
theorem RR.bool_inv {ρ : Rho} {b : Bool} {x : Value} (h : RR ρ (.s (.b b)) x) : x = .bool b := by
  cases h with
  | s c v e => cases e; rfl
  | t x vs e => cases e
end Go.Ev
end
