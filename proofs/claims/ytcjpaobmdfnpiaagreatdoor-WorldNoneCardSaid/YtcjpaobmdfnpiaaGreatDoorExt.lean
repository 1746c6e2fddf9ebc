/- The functions that the evaluator answers by a contract. Conditions: none. -/
import Derived.KernelRfl
import Derived.Test.YtcjpaobmdfnpiaaGreatDoorTy
import Derived.Test.YtcjpaobmdfnpiaaGreatDoorLib
set_option linter.all false
section
/- Functions without a body, and those of the library that are answered by themselves. Conditions: none. -/
namespace Go.Ev
open Go Go.Proofs
set_option linter.unusedVariables false

theorem q70 : ExtIs Tryz.prog 70 (Extern.Atomic.update (Op.intArith .add) .i64 true) := ⟨Tryz.f70, Tryz.func70, by kernel_rfl, by kernel_rfl, by kernel_rfl, by kernel_rfl⟩
theorem x70 : EntOk Tryz.prog cx0 tb0 70 (.ext 1) := EntOk.e1 q70
theorem q72 : ExtIs Tryz.prog 72 (Extern.Atomic.loadT (.int .i64)) := ⟨Tryz.f72, Tryz.func72, by kernel_rfl, by kernel_rfl, by kernel_rfl, by kernel_rfl⟩
theorem x72 : EntOk Tryz.prog cx0 tb0 72 (.ext 2) := EntOk.e2 q72
theorem q94 : SortedIs Tryz.prog 94 3 154 := Tryz.sorted94
theorem x94 : EntOk Tryz.prog cx0 tb0 94 (.ext 102) := EntOk.e102 rfl q94
theorem q147 : HasIs Tryz.prog 147 := has147
theorem x147 : EntOk Tryz.prog cx0 tb0 147 (.ext 14) := EntOk.e14 q147
theorem q195 : ExtIs Tryz.prog 195 (Extern.AbiNoEscape.same) := ⟨Tryz.f195, Tryz.func195, by kernel_rfl, by kernel_rfl, by kernel_rfl, by kernel_rfl⟩
theorem x195 : EntOk Tryz.prog cx0 tb0 195 (.ext 3) := EntOk.e3 q195
theorem q197 : ExtIs Tryz.prog 197 (Extern.Atomic.loadT (.int .u32)) := ⟨Tryz.f197, Tryz.func197, by kernel_rfl, by kernel_rfl, by kernel_rfl, by kernel_rfl⟩
theorem x197 : EntOk Tryz.prog cx0 tb0 197 (.ext 12) := EntOk.e12 q197
theorem q304 : NumIs Tryz.prog 304 := num304
theorem x304 : EntOk Tryz.prog cx0 tb0 304 (.ext 15) := EntOk.e15 q304
theorem q309 : ExtIs Tryz.prog 309 (Extern.Atomic.storeT) := ⟨Tryz.f309, Tryz.func309, by kernel_rfl, by kernel_rfl, by kernel_rfl, by kernel_rfl⟩
theorem x309 : EntOk Tryz.prog cx0 tb0 309 (.ext 5) := EntOk.e5 q309
theorem q355 : ExtIs Tryz.prog 355 (Extern.BytealgCount.count) := ⟨Tryz.f355, Tryz.func355, by kernel_rfl, by kernel_rfl, by kernel_rfl, by kernel_rfl⟩
theorem x355 : EntOk Tryz.prog cx0 tb0 355 (.ext 7) := EntOk.e7 q355
theorem q356 : IndexIs Tryz.prog 356 := ⟨⟨Tryz.f356, _, Tryz.func356, by kernel_rfl, rfl⟩, fun s sub m w hs hm => Any.stringslite_Index Tryz.lays219 s sub m w hs hm⟩
theorem x356 : EntOk Tryz.prog cx0 tb0 356 (.ext 10) := EntOk.e10 q356
theorem q430 : ExtIs Tryz.prog 430 (fun _ => do mark .disable; pure Extern.Race.none_) := ⟨Tryz.f430, Tryz.func430, by kernel_rfl, by kernel_rfl, by kernel_rfl, by kernel_rfl⟩
theorem x430 : EntOk Tryz.prog cx0 tb0 430 (.ext 8) := EntOk.e8 q430
theorem q431 : ExtIs Tryz.prog 431 (Extern.Atomic.casT (.int .i32)) := ⟨Tryz.f431, Tryz.func431, by kernel_rfl, by kernel_rfl, by kernel_rfl, by kernel_rfl⟩
theorem x431 : EntOk Tryz.prog cx0 tb0 431 (.ext 6) := EntOk.e6 q431
theorem q432 : ExtIs Tryz.prog 432 (fun _ => do mark .enable; pure Extern.Race.none_) := ⟨Tryz.f432, Tryz.func432, by kernel_rfl, by kernel_rfl, by kernel_rfl, by kernel_rfl⟩
theorem x432 : EntOk Tryz.prog cx0 tb0 432 (.ext 8) := EntOk.e8 q432
theorem q433 : ExtIs Tryz.prog 433 (Extern.Race.marked .acquire) := ⟨Tryz.f433, Tryz.func433, by kernel_rfl, by kernel_rfl, by kernel_rfl, by kernel_rfl⟩
theorem x433 : EntOk Tryz.prog cx0 tb0 433 (.ext 13) := EntOk.e13 q433
theorem q435 : ExtIs Tryz.prog 435 (Extern.Race.marked .releaseMerge) := ⟨Tryz.f435, Tryz.func435, by kernel_rfl, by kernel_rfl, by kernel_rfl, by kernel_rfl⟩
theorem x435 : EntOk Tryz.prog cx0 tb0 435 (.ext 13) := EntOk.e13 q435
theorem q436 : ExtIs Tryz.prog 436 (Extern.Atomic.update (Op.intArith .add) .i32 true) := ⟨Tryz.f436, Tryz.func436, by kernel_rfl, by kernel_rfl, by kernel_rfl, by kernel_rfl⟩
theorem x436 : EntOk Tryz.prog cx0 tb0 436 (.ext 11) := EntOk.e11 q436
theorem q458 : ExtIs Tryz.prog 458 (Extern.BytealgIndexByte.indexByte) := ⟨Tryz.f458, Tryz.func458, by kernel_rfl, by kernel_rfl, by kernel_rfl, by kernel_rfl⟩
theorem x458 : EntOk Tryz.prog cx0 tb0 458 (.ext 4) := EntOk.e4 q458
theorem q500 : NoZeroIs Tryz.prog 500 5 := ⟨#[3], 154, ⟨Tryz.f500, Tryz.func500, by kernel_rfl, by kernel_rfl, by kernel_rfl, by kernel_rfl⟩, Tryz.underlying154, by kernel_rfl⟩
theorem x500 : EntOk Tryz.prog cx0 tb0 500 (.ext 101) := EntOk.e101 rfl q500
theorem q524 : ExtIs Tryz.prog 524 (Extern.BytealgCompare.compare) := ⟨Tryz.f524, Tryz.func524, by kernel_rfl, by kernel_rfl, by kernel_rfl, by kernel_rfl⟩
theorem x524 : EntOk Tryz.prog cx0 tb0 524 (.ext 9) := EntOk.e9 q524
theorem q547 : InsertIs Tryz.prog 547 184 188 2 := Tryz.insert547
theorem x547 : EntOk Tryz.prog cx0 tb0 547 (.ext 103) := EntOk.e103 cx_ok rfl q547
end Go.Ev
end
section
/- The function that copies a map. Conditions: none. -/
namespace Go.Ev
open Go Go.Proofs
set_option linter.unusedVariables false
noncomputable def cb : Code := (Tryz.f53.body).getD .skip
theorem cb_eq : Tryz.f53.body = some cb := by kernel_rfl
theorem copy_ops : CopyOps 99 5 100 101 102 103 104 14 13 105 106 107 108 109 110 199 4 197 209 (opAt 25 0 cb) (opAt 25 1 cb) (opAt 26 0 cb) (opAt 26 1 cb) (opAt 26 2 cb) (opAt 26 3 cb) (opAt 26 4 cb) (opAt 26 5 cb) (opAt 27 0 cb) (opAt 27 1 cb) (opAt 27 2 cb) (opAt 27 3 cb) (opAt 27 4 cb) (opAt 27 5 cb) (opAt 27 6 cb) := {
  h0 := ⟨by kernel_rfl, by kernel_rfl, by kernel_rfl⟩
  h1 := ⟨by kernel_rfl, by kernel_rfl, by kernel_rfl⟩
  h2 := ⟨by kernel_rfl, by kernel_rfl, by kernel_rfl⟩
  h3 := ⟨by kernel_rfl, by kernel_rfl, by kernel_rfl⟩
  h4 := ⟨by kernel_rfl, by kernel_rfl, by kernel_rfl⟩
  h5 := ⟨by kernel_rfl, by kernel_rfl, by kernel_rfl⟩
  h6 := ⟨by kernel_rfl, by kernel_rfl, by kernel_rfl⟩
  h7 := ⟨by kernel_rfl, by kernel_rfl, by kernel_rfl⟩
  h8 := ⟨by kernel_rfl, by kernel_rfl, by kernel_rfl⟩
  h9 := ⟨by kernel_rfl, by kernel_rfl, by kernel_rfl⟩
  h10 := ⟨by kernel_rfl, by kernel_rfl, by kernel_rfl⟩
  h11 := ⟨by kernel_rfl, by kernel_rfl, by kernel_rfl⟩
  h12 := ⟨by kernel_rfl, by kernel_rfl, by kernel_rfl⟩
  h13 := ⟨by kernel_rfl, by kernel_rfl, by kernel_rfl⟩
  h14 := ⟨by kernel_rfl, by kernel_rfl, by kernel_rfl⟩
  back := edgesB_ok (l := [(opAt 27 0 cb), (opAt 27 1 cb), (opAt 27 2 cb), (opAt 27 3 cb), (opAt 27 4 cb), (opAt 27 5 cb), (opAt 27 6 cb)]) (by kernel_rfl)
  e9 := edgeTo_ok (by kernel_rfl)
  e10 := edgeTo_ok (by kernel_rfl)
  e11 := edgeTo_ok (by kernel_rfl)
  e14 := edges6 (by kernel_rfl)
  ne := by decide }
theorem copy_ty : CopyTy Tryz.prog 199 4 4 197 209 512 := {
  fld := ⟨_, _, Tryz.t197, Tryz.underlying199, rfl, rfl, by kernel_rfl, by decide⟩
  map := ⟨_, _, _, Tryz.underlying197, Tryz.underlying3⟩
  row := ⟨Tryz.t209, Tryz.t209.zero.getD .nilFunc, _, by kernel_rfl, by kernel_rfl, by kernel_rfl, by kernel_rfl, Tryz.underlying209, by kernel_rfl⟩ }
theorem blocks_eq : blocksOf 2 cb = [.loop (copyBody 2 3 25 26 27 101 (opAt 25 0 cb) (opAt 25 1 cb) (opAt 26 0 cb) (opAt 26 1 cb) (opAt 26 2 cb) (opAt 26 3 cb) (opAt 26 4 cb) (opAt 26 5 cb) (opAt 27 0 cb) (opAt 27 1 cb) (opAt 27 2 cb) (opAt 27 3 cb) (opAt 27 4 cb) (opAt 27 5 cb) (opAt 27 6 cb))] := by kernel_rfl
theorem hook_ok : ∀ c, Tryz.f53.body = some c → ∀ call, CallOk Tryz.prog call → ∀ N, Tryz.f53.ntmps ≤ N → HookAll Tryz.prog none N (.mk (.mk cx0 call 3171603023186133843866900791165) (.copy 2 99 5 4 512 [100, 101, 102, 103, 104, 14, 13, 105, 106, 107, 108, 109, 110]) dr53 .nil) c := by
  intro c hc call hcall N hN
  rw [cb_eq] at hc; cases hc
  refine HookAll.of_blocks rfl cb fun x hx => ?_
  rw [blocks_eq, List.mem_singleton] at hx
  subst hx
  rw [Tryz.ntmps53] at hN
  refine ⟨copyHook_ok mixed copy_ops copy_ty rfl (fun t ht => Nat.lt_of_lt_of_le ((show ∀ t ∈ [100, 101, 102, 103, 104, 14, 13, 105, 106, 107, 108, 109, 110], t < 112 by decide) t ht) hN) (by kernel_rfl) (by kernel_rfl), fun hc _ _ => by cases hc⟩
theorem fn53 : FnOk Tryz.prog cx0 53 Tryz.f53 (.copy 2 99 5 4 512 [100, 101, 102, 103, 104, 14, 13, 105, 106, 107, 108, 109, 110]) 3171603023186133843866900791165 dr53 .nil := FnOk.of_check mixed cx_ok fields_ok Tryz.func53 (by kernel_rfl) hook_ok
theorem keeps135 : Keeps 36037661839886323 := ⟨by decide +kernel, by decide +kernel, by decide +kernel, by decide +kernel, by decide +kernel, by decide +kernel, by decide +kernel, by decide +kernel, by decide +kernel, by decide +kernel, by decide +kernel⟩
set_option maxRecDepth 100000 in
theorem fn135 : FnOk Tryz.prog cx0 135 Tryz.f135 (.alt 0 (scanF 10 9 1 4096 36 43)) 36037661839886323 .nil .nil := FnOk.of_check mixed cx_ok fields_ok Tryz.func135 (by kernel_rfl) (fun c hc call hcall N hN => by
  rw [lc_eq] at hc; cases hc
  refine HookAll.of_blocks (n := 0) rfl lc fun x hx => ?_
  rw [lblocks, List.mem_singleton] at hx
  subst hx
  exact ⟨fun hc _ _ => (by cases hc), scanHook keeps135 (codeB_ok mixed cx_ok fields_ok callHas_ok hN (.loop sb) (by kernel_rfl) (HookAll.no rfl _))⟩)
end Go.Ev
end
