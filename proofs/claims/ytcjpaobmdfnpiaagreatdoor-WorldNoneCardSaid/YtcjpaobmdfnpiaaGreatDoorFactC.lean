/- Closed facts of the row. Conditions: none. -/
import Derived.Test.YtcjpaobmdfnpiaaGreatDoorFactB
import Derived.Test.YtcjpaobmdfnpiaaGreatDoorClo
set_option linter.all false
section
namespace Go
theorem Program.goes_none {P : Program} {n : Nat} (h : P.funcs.toList.map Func.goes = List.replicate n false) (f : FuncId) : P.goes f = false := by
  have h1 : ∀ g ∈ P.funcs.toList, g.goes = false := fun g hg => by
    have := List.mem_map_of_mem (f := Func.goes) hg
    rw [h] at this
    exact List.eq_of_mem_replicate this
  have h2 : P.funcs.any Func.goes = false := by
    rw [← Array.any_toList]
    exact List.any_eq_false.2 fun g hg => by rw [h1 g hg]; simp
  have h3 : ((P.closure f).any fun g => (P.funcs[g]?).any Func.goes) = false := List.any_eq_false.2 fun g _ => by
    cases hg : P.funcs[g]? with
    | none => simp
    | some x =>
      have : x ∈ P.funcs.toList := Array.mem_toList_iff.2 (Array.mem_of_getElem? hg)
      simp [h1 x this]
  unfold Program.goes
  rw [h2, h3, Bool.and_false]
  rfl
end Go
namespace Go.Proofs.YtcjpaobmdfnpiaaGreatDoor
theorem nK1 : Tryz.prog.funcNamed "docket/docketlaw21.WorldNone" = some 5 := by kernel_rfl
theorem nL0 : Tryz.prog.funcs.toList.map Func.goes = List.replicate 656 false := (map_parts goes0 goes1 goes2 goes3).trans (by kernel_rfl)
theorem nL2 : false = Rows.worldNoneRow.goesBy Tryz.prog := by
  have hs : Rows.worldNoneRow.start = .entering := rfl
  unfold OpenClaim.goesBy Program.goesAt Program.goesFrom
  rw [hs]
  cases h : Tryz.prog.funcNamed Rows.worldNoneRow.func with
  | none => rfl
  | some g =>
    have := Program.goes_none nL0 g
    simp only [Option.any_some, this, Bool.or_false]
theorem nL3 : Rows.worldNoneRow.wfByText (OpenSpec.ofChange Rows.worldNoneSpec) = true := by kernel_rfl
theorem nL4 : Tryz.prog.mainIs = some (true, "46ccc188bda37ae463570f5de8e491189e382c20b68c7864c4dd732a0b700e05".toList) := by kernel_rfl
end Go.Proofs.YtcjpaobmdfnpiaaGreatDoor
end
