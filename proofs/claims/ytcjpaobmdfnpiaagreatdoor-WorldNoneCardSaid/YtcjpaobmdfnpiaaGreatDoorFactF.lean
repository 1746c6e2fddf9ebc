/- Closed facts of the row. Conditions: none. -/
import Derived.Test.YtcjpaobmdfnpiaaGreatDoorFactD
import Derived.Test.YtcjpaobmdfnpiaaGreatDoorFactE
set_option linter.all false
section
namespace Go.Proofs.YtcjpaobmdfnpiaaGreatDoor
theorem laidOut : laidOutB Tryz.prog = true := by
  have e : List.range 741 = List.range' 0 185 ++ (List.range' 185 185 ++ (List.range' 370 185 ++ List.range' 555 186)) := by
    rw [List.range_eq_range']
    have e3 := List.range'_append_1 (s := 370) (m := 185) (n := 186)
    have e2 := List.range'_append_1 (s := 185) (m := 185) (n := 371)
    have e1 := List.range'_append_1 (s := 0) (m := 185) (n := 556)
    rw [← e2, ← e3] at e1
    exact e1.symm
  unfold laidOutB
  rw [lo5, lo6, lo4, e, List.all_append, List.all_append, List.all_append, lo0, lo1, lo2, lo3]
  rfl
end Go.Proofs.YtcjpaobmdfnpiaaGreatDoor
end
