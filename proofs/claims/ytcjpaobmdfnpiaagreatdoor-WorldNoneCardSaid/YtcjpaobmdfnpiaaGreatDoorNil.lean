/- The calls on a nil world. Conditions: none. -/
import Derived.Test.YtcjpaobmdfnpiaaGreatDoorProg
import Derived.WalkKit
import Derived.Below
import Derived.Laws.ResultCell
import Derived.Laws.Rows
import Derived.KernelRfl
set_option linter.all false
section
/- The calls on a nil world. Conditions: none. -/
set_option linter.unusedVariables false
namespace Go.Proofs
open Go.RowKit
theorem heap_size_alloc (w : World) (o : Obj) : (w.alloc o).heap.size = w.heap.size + 1 := by
  show (w.heap.push o).size = _
  simp
set_option maxHeartbeats 4000000 in
set_option maxRecDepth 100000 in
theorem Tryz.viewNil (w : World) : Calls Tryz.prog 20 #[.pointer none] w fun e w' => e = .returned (.tuple #[.agg #[.slice none 0 0, .slice none 0 0, .int .i64 0], .int .i64 2]) ∧ Below w.heap.size w w' := by
  go_enter Tryz.func20, Tryz.ntmps20
  go_wp2
  (try simp only [Exit.inBlock, Exit.then])
  refine bodyPost_ret (v := .tuple #[.agg #[.slice none 0 0, .slice none 0 0, .int .i64 0], .int .i64 2]) ?_ rfl ⟨rfl, Below.alloc (Below.refl _ _) (Nat.le_refl _) _⟩
  rw [results_cell_tmp rfl]
  go_simp
set_option maxHeartbeats 4000000 in
set_option maxRecDepth 100000 in
theorem Tryz.spaceNil (w : World) : Calls Tryz.prog 21 #[.pointer none] w fun e w' => e = .returned (.tuple #[.int .i64 0, .int .i64 0]) ∧ w' = w := by
  go_enter Tryz.func21, Tryz.ntmps21
  go_wp2
  go_ret2
  exact ⟨rfl, rfl⟩
set_option maxHeartbeats 4000000 in
set_option maxRecDepth 100000 in
theorem Tryz.commitsNil (w : World) : Calls Tryz.prog 22 #[.pointer none] w fun e w' => e = .returned (.tuple #[.int .i64 0, .int .i64 0]) ∧ w' = w := by
  go_enter Tryz.func22, Tryz.ntmps22
  go_wp2
  go_ret2
  exact ⟨rfl, rfl⟩
set_option maxHeartbeats 4000000 in
set_option maxRecDepth 100000 in
theorem Tryz.checkNil (w : World) : Calls Tryz.prog 23 #[.pointer none] w fun e w' => e = .returned (.int .i64 2) ∧ w' = w := by
  go_enter Tryz.func23, Tryz.ntmps23
  go_wp2
  go_ret
  exact ⟨rfl, rfl⟩
set_option maxHeartbeats 4000000 in
set_option maxRecDepth 100000 in
theorem Tryz.waitsNil (w : World) : Calls Tryz.prog 24 #[.pointer none] w fun e w' => e = .returned (.int .i64 0) ∧ w' = w := by
  go_enter Tryz.func24, Tryz.ntmps24
  go_wp2
  go_ret
  exact ⟨rfl, rfl⟩
set_option maxHeartbeats 4000000 in
set_option maxRecDepth 100000 in
theorem Tryz.nowNil (w : World) : Calls Tryz.prog 19 #[.pointer none] w fun e w' => e = .returned (.int .i64 0) ∧ w' = w := by
  go_enter Tryz.func19, Tryz.ntmps19
  go_wp2
  go_ret
  exact ⟨rfl, rfl⟩
set_option maxHeartbeats 4000000 in
set_option maxRecDepth 100000 in
theorem Tryz.doNil (k c d n kp fu : Value) (w : World) : Calls Tryz.prog 18 #[.pointer none, .agg #[k, c, d, n, kp, fu]] w fun e w' => e = .returned (.agg #[.int .i64 2, .int .i64 0, .string { data := #[] }, .int .i64 0]) ∧ Below w.heap.size w w' := by
  go_enter Tryz.func18, Tryz.ntmps18
  go_wp2
  (try simp only [Exit.inBlock, Exit.then])
  refine bodyPost_ret (v := .agg #[.int .i64 2, .int .i64 0, .string { data := #[] }, .int .i64 0]) ?_ rfl ⟨rfl, Below.alloc (Below.alloc (Below.refl _ _) (Nat.le_refl _) _) (by simp) _⟩
  rw [results_cell_row (cs := #[.int .i64 2, .int .i64 0, .string { data := #[] }, .int .i64 0]) rfl _ _ (w.heap.size + 1) _ _ _ rfl (by rw [← heap_size_alloc w (.cells #[k, c, d, n, kp, fu] 49)]; exact heap_alloc_new _ _) rfl rfl rfl]
end Go.Proofs
end
section
/- A nil world, behind the document's examples. Conditions: none. -/
set_option linter.unusedVariables false
namespace Go.Proofs
open Go.RowKit
theorem Tryz.belowBox {w w1 : World} {o : Obj} (hb : Below (w.alloc o).heap.size (w.alloc o) w1) : Below w.heap.size w w1 ∧ w1.heap[w.heap.size]? = some o ∧ w.heap.size < w1.heap.size := by
  have hs := heap_size_alloc w o
  have hb1 : w1.heap[w.heap.size]? = some o := by
    rw [hb.block _ (by rw [hs]; omega)]
    exact heap_alloc_new w o
  refine ⟨⟨hb.os, hb.tape, hb.output, ?_, fun j hj => ?_⟩, hb1, (Array.getElem?_eq_some_iff.1 hb1).1⟩
  · have := hb.size; omega
  · rw [hb.block j (by rw [hs]; omega)]
    exact Below.heap_alloc w o j hj
theorem Tryz.boxStays {w1 w2 : World} {n : Nat} {o : Obj} (h : w1.heap[n]? = some o) (hb : Below w1.heap.size w1 w2) : w2.heap[n]? = some o := by
  rw [hb.block _ (Array.getElem?_eq_some_iff.1 h).1]; exact h
theorem Tryz.boxCells {w : World} {n : Nat} {k c d q kp fu : Value} {t : TypeId} (h : w.heap[n]? = some (.cells #[k, c, d, q, kp, fu] t)) :
    w.cell? ⟨n, 0, none⟩ = some k ∧ w.cell? ⟨n, 1, none⟩ = some c ∧ w.cell? ⟨n, 2, none⟩ = some d ∧ w.cell? ⟨n, 3, none⟩ = some q ∧ w.cell? ⟨n, 4, none⟩ = some kp ∧ w.cell? ⟨n, 5, none⟩ = some fu := by
  simp [World.cell?, h]
theorem Tryz.belowTrans {w w1 w2 : World} (h : Below w.heap.size w w1) (h' : Below w1.heap.size w1 w2) (hl : w.heap.size ≤ w1.heap.size) : Below w.heap.size w w2 :=
  ⟨h'.os.trans h.os, h'.tape.trans h.tape, h'.output.trans h.output, Nat.le_trans h.size h'.size, fun j hj => (h'.block j (by omega)).trans (h.block j hj)⟩
set_option maxHeartbeats 4000000 in
set_option maxRecDepth 100000 in
theorem Tryz.noneWalk (k c d n kp fu : Value) (w : World)
    (h16 : Calls Tryz.prog 16 #[] (w.alloc (.cells #[k, c, d, n, kp, fu] 49)) fun e w' => e = .returned (.bool true) ∧ Below (w.alloc (.cells #[k, c, d, n, kp, fu] 49)).heap.size (w.alloc (.cells #[k, c, d, n, kp, fu] 49)) w') :
    Calls Tryz.prog 5 #[.agg #[k, c, d, n, kp, fu]] w fun e w' => e = .returned (.bool true) ∧ Below w.heap.size w w' := by
  go_enter Tryz.func5, Tryz.ntmps5
  go_wp2_with (go_at_call 16; refine h16.mono ?_; rintro e w1 ⟨rfl, hb⟩)
  obtain ⟨hb1, hbox, hlt⟩ := Tryz.belowBox hb
  clear hb h16
  go_wp2_with (go_at_call 20; refine (Tryz.viewNil _).mono ?_; rintro e w2 ⟨rfl, hb2⟩)
  have hx : (w2.alloc (.cells #[.slice none 0 0, .slice none 0 0, .int .i64 0] 55)).heap[w.heap.size]? = some (.cells #[k, c, d, n, kp, fu] 49) := by
    exact (Below.heap_alloc w2 (.cells #[.slice none 0 0, .slice none 0 0, .int .i64 0] 55) _ (Nat.lt_of_lt_of_le hlt hb2.size)).trans (Tryz.boxStays hbox hb2)
  obtain ⟨x0, x1, x2, x3, x4, x5⟩ := Tryz.boxCells hx
  have hv := heap_alloc_new w2 (.cells #[.slice none 0 0, .slice none 0 0, .int .i64 0] 55)
  have hlt2 : w.heap.size ≤ w2.heap.size := Nat.le_of_lt (Nat.lt_of_lt_of_le hlt hb2.size)
  have hb4 := Tryz.belowTrans hb1 hb2 (Nat.le_of_lt hlt)
  clear hb1 hb2 hx hbox
  go_wp2_with (go_at_call 21; refine (Tryz.spaceNil _).mono ?_; rintro e w3 ⟨rfl, rfl⟩)
  go_wp2_with (go_at_call 22; refine (Tryz.commitsNil _).mono ?_; rintro e w3 ⟨rfl, rfl⟩)
  go_wp2_with (go_at_call 18; fail)
  refine (Tryz.doNil _ _ _ _ _ _ _).mono ?_
  rintro e w3 ⟨rfl, hb3⟩
  have hv3 := Tryz.boxStays hv hb3
  have y0 : w3.cell? ⟨w2.heap.size, 0, none⟩ = some (.slice none 0 0) := by simp [World.cell?, hv3]
  have hb5 := Tryz.belowTrans (Tryz.belowTrans hb4 (Below.alloc (Below.refl _ _) (Nat.le_refl _) _) hlt2) hb3 (by rw [heap_size_alloc]; omega)
  clear x0 x1 x2 x3 x4 x5 hv hv3 hb3 hb4
  go_wp2_with (go_at_call 23; refine (Tryz.checkNil _).mono ?_; rintro e w4 ⟨rfl, rfl⟩)
  go_wp2_with (go_at_call 19; refine (Tryz.nowNil _).mono ?_; rintro e w4 ⟨rfl, rfl⟩)
  go_wp2_with (go_at_call 24; refine (Tryz.waitsNil _).mono ?_; rintro e w4 ⟨rfl, rfl⟩)
  go_ret
  exact ⟨rfl, hb5⟩
end Go.Proofs
end
