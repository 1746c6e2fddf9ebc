/- Contracts of library functions at this program. Conditions: none. -/
import Derived.Shelf.Strings.Search3
import Derived.Shelf.Strconv.Itoa0
import Derived.Shelf.SlGeneric
import Derived.Shelf.SlIterI.Nil
import Derived.Shelf.SortM.Plain
import Derived.Shelf.SortM.SortNone
import Derived.Ground.GgzProg
import Derived.Ground.SlgmProg
import Derived.Ground.NamesProg
import Derived.Test.YtcjpaobmdfnpiaaGreatDoorProg
import Derived.Test.YtcjpaobmdfnpiaaGreatDoorProg
import Derived.Shelf.Spec.SlicesInsertGrow
import Derived.KernelRfl
import Derived.Test.YtcjpaobmdfnpiaaGreatDoorProg
import Derived.WalkKit
import Derived.Test.YtcjpaobmdfnpiaaGreatDoorTy
import Derived.Test.YtcjpaobmdfnpiaaGreatDoorEv7
set_option linter.all false
section
/-
  DERIVED: THE SHELF's CONTRACTS AT THIS DUMP, IN PLAIN WORDS (tools/lay-plain.mjs out of 'YtShelfH.lean', which tools/lay-shelf.mjs wrote): THE SAME DECLARATIONS UNDER THE SAME NAMES: 'import', 'namespace', 'open', 'def', 'theorem' AND NOTHING ELSE: no command of the shelf's: FOR A HAND-IN. Each laying: the table of numbers ('.._ren') and one theorem, a field a fact of the dump's own or the kernel's comparison; each contract: ONE APPLICATION.
-/
namespace Go.Proofs
open Go.Shelf
def Tryz.lays219_ren : Go.Shelf.Ren := ⟨fun | 219 => 356 | 217 => 357 | 225 => 455 | 224 => 456 | 267 => 457 | 266 => 458 | 314 => 525 | n => n, fun | 9 => 9 | 3 => 3 | 4 => 4 | 5 => 5 | 46 => 232 | 146 => 618 | 51 => 88 | n => n, fun | 1 => 3 | n => n⟩
theorem Tryz.lays219 : Go.Proofs.Lays.n219 Tryz.prog Tryz.lays219_ren := {
  mixed := by kernel_rfl
  f217 := Tryz.func357.trans (congrArg some (by kernel_rfl))
  f219 := Tryz.func356.trans (congrArg some (by kernel_rfl))
  f224 := Tryz.func456.trans (congrArg some (by kernel_rfl))
  f225 := Tryz.func455.trans (congrArg some (by kernel_rfl))
  f266 := Tryz.func458.trans (congrArg some (by kernel_rfl))
  f267 := Tryz.func457.trans (congrArg some (by kernel_rfl))
  f314 := Tryz.func525.trans (congrArg some (by kernel_rfl))
  t3 := Tryz.underlying3
  a3 := Tryz.isAgg3
  z3 := Tryz.sizeOf3
  v3 := Tryz.zeroValue3
  t4 := Tryz.underlying4
  a4 := Tryz.isAgg4
  z4 := Tryz.sizeOf4
  v4 := Tryz.zeroValue4
  t5 := Tryz.underlying5
  a5 := Tryz.isAgg5
  z5 := Tryz.sizeOf5
  v5 := Tryz.zeroValue5
  t9 := Tryz.underlying9
  a9 := Tryz.isAgg9
  z9 := Tryz.sizeOf9
  v9 := Tryz.zeroValue9
  t46 := Tryz.underlying232
  a46 := Tryz.isAgg232
  z46 := Tryz.sizeOf232
  v46 := Tryz.zeroValue232
  t51 := Tryz.underlying88
  a51 := Tryz.isAgg88
  z51 := Tryz.sizeOf88
  v51 := Tryz.zeroValue88
  t146 := Tryz.underlying618
  a146 := Tryz.isAgg618
  z146 := Tryz.sizeOf618
  v146 := Tryz.zeroValue618
  g1 := by kernel_rfl }
def Tryz.lays129_ren : Go.Shelf.Ren := ⟨fun | 129 => 232 | n => n, fun | 53 => 292 | 3 => 3 | 4 => 4 | 46 => 232 | 5 => 5 | 9 => 9 | n => n, fun | n => n⟩
theorem Tryz.lays129 : Go.Proofs.Lays.n129 Tryz.prog Tryz.lays129_ren := {
  mixed := by kernel_rfl
  f129 := Tryz.func232.trans (congrArg some (by kernel_rfl))
  t3 := Tryz.underlying3
  a3 := Tryz.isAgg3
  z3 := Tryz.sizeOf3
  v3 := Tryz.zeroValue3
  t4 := Tryz.underlying4
  a4 := Tryz.isAgg4
  z4 := Tryz.sizeOf4
  v4 := Tryz.zeroValue4
  t5 := Tryz.underlying5
  a5 := Tryz.isAgg5
  z5 := Tryz.sizeOf5
  v5 := Tryz.zeroValue5
  t9 := Tryz.underlying9
  a9 := Tryz.isAgg9
  z9 := Tryz.sizeOf9
  v9 := Tryz.zeroValue9
  t46 := Tryz.underlying232
  a46 := Tryz.isAgg232
  z46 := Tryz.sizeOf232
  v46 := Tryz.zeroValue232
  t53 := Tryz.underlying292
  a53 := Tryz.isAgg292
  z53 := Tryz.sizeOf292
  v53 := Tryz.zeroValue292 }
def Tryz.keysA_ren : Go.Shelf.Ren := ⟨fun | 7 => 95 | 10 => 154 | n => n, fun | 23 => 197 | 26 => 3 | 3 => 209 | 28 => 206 | 0 => 0 | 27 => 205 | 33 => 34 | 4 => 4 | n => n, fun | n => n⟩
theorem Tryz.keysA : Go.Proofs.SlLaysZI.n7 Tryz.prog Tryz.keysA_ren := {
  mixed := by kernel_rfl
  f7 := ⟨Tryz.f95.name, by decide, Tryz.func95.trans (congrArg some (by kernel_rfl))⟩
  f10 := ⟨Tryz.f154.name, by decide, Tryz.func154.trans (congrArg some (by kernel_rfl))⟩
  t0 := Tryz.underlying0
  a0 := Tryz.isAgg0
  z0 := Tryz.sizeOf0
  v0 := Tryz.zeroValue0
  t4 := Tryz.underlying4
  a4 := Tryz.isAgg4
  z4 := Tryz.sizeOf4
  v4 := Tryz.zeroValue4
  t23 := Tryz.underlying197
  a23 := Tryz.isAgg197
  z23 := Tryz.sizeOf197
  v23 := Tryz.zeroValue197
  t26 := Tryz.underlying3
  a26 := Tryz.isAgg3
  z26 := Tryz.sizeOf3
  v26 := Tryz.zeroValue3
  t27 := Tryz.underlying205
  a27 := Tryz.isAgg205
  z27 := Tryz.sizeOf205
  v27 := Tryz.zeroValue205
  t28 := Tryz.underlying206
  a28 := Tryz.isAgg206
  z28 := Tryz.sizeOf206
  v28 := Tryz.zeroValue206
  t33 := Tryz.underlying34
  a33 := Tryz.isAgg34
  z33 := Tryz.sizeOf34
  v33 := Tryz.zeroValue34 }
def Tryz.sortedA_ren : Go.Shelf.Ren := ⟨fun | 6 => 94 | 8 => 153 | 9 => 85 | 11 => 234 | 13 => 146 | 12 => 145 | 23 => 231 | 24 => 232 | 14 => 222 | 15 => 223 | 16 => 224 | 17 => 225 | 18 => 226 | 19 => 227 | 20 => 228 | 21 => 229 | 22 => 230 | 25 => 343 | 26 => 344 | 27 => 345 | 28 => 346 | 29 => 347 | 30 => 348 | 31 => 453 | n => n, fun | 26 => 3 | 28 => 206 | 24 => 39 | 0 => 0 | 3 => 3 | 37 => 232 | 48 => 88 | 50 => 292 | 4 => 4 | 40 => 377 | 39 => 376 | 45 => 189 | 5 => 5 | 9 => 9 | 51 => 490 | 55 => 494 | 57 => 575 | 58 => 58 | 33 => 34 | n => n, fun | n => n⟩
theorem Tryz.sortedA : Go.Proofs.SlLaysZI.n6 Tryz.prog Tryz.sortedA_ren := {
  mixed := by kernel_rfl
  f6 := ⟨Tryz.f94.name, by decide, Tryz.func94.trans (congrArg some (by kernel_rfl))⟩
  f8 := ⟨Tryz.f153.name, by decide, Tryz.func153.trans (congrArg some (by kernel_rfl))⟩
  f11 := ⟨Tryz.f234.name, by decide, Tryz.func234.trans (congrArg some (by kernel_rfl))⟩
  t0 := Tryz.underlying0
  a0 := Tryz.isAgg0
  z0 := Tryz.sizeOf0
  v0 := Tryz.zeroValue0
  t24 := Tryz.underlying39
  a24 := Tryz.isAgg39
  z24 := Tryz.sizeOf39
  v24 := Tryz.zeroValue39
  t26 := Tryz.underlying3
  a26 := Tryz.isAgg3
  z26 := Tryz.sizeOf3
  v26 := Tryz.zeroValue3
  t28 := Tryz.underlying206
  a28 := Tryz.isAgg206
  z28 := Tryz.sizeOf206
  v28 := Tryz.zeroValue206
  i26 := by kernel_rfl }
def Tryz.sortA_ren : Go.Shelf.Ren := ⟨fun | 5 => 85 | 8 => 146 | 7 => 145 | 19 => 231 | 20 => 232 | 10 => 222 | 11 => 223 | 12 => 224 | 13 => 225 | 14 => 226 | 15 => 227 | 16 => 228 | 17 => 229 | 18 => 230 | 30 => 343 | 31 => 344 | 32 => 345 | 33 => 346 | 34 => 347 | 35 => 348 | 40 => 453 | n => n, fun | 23 => 39 | 25 => 3 | 3 => 3 | 32 => 232 | 22 => 39 | 0 => 0 | 44 => 88 | 46 => 292 | 4 => 4 | 36 => 377 | 35 => 376 | 41 => 189 | 5 => 5 | 9 => 9 | 53 => 490 | 57 => 494 | 63 => 575 | 64 => 58 | n => n, fun | n => n⟩
theorem Tryz.sortA : Go.Proofs.SlLaysM.n5 Tryz.prog Tryz.sortA_ren := {
  mixed := by kernel_rfl
  f5 := ⟨Tryz.f85.name, by decide, Tryz.func85.trans (congrArg some (by kernel_rfl))⟩
  f7 := ⟨Tryz.f145.name, by decide, Tryz.func145.trans (congrArg some (by kernel_rfl))⟩
  f8 := Tryz.func146.trans (congrArg some (by kernel_rfl))
  f10 := ⟨Tryz.f222.name, by decide, Tryz.func222.trans (congrArg some (by kernel_rfl))⟩
  f11 := ⟨Tryz.f223.name, by decide, Tryz.func223.trans (congrArg some (by kernel_rfl))⟩
  f12 := ⟨Tryz.f224.name, by decide, Tryz.func224.trans (congrArg some (by kernel_rfl))⟩
  f13 := ⟨Tryz.f225.name, by decide, Tryz.func225.trans (congrArg some (by kernel_rfl))⟩
  f14 := ⟨Tryz.f226.name, by decide, Tryz.func226.trans (congrArg some (by kernel_rfl))⟩
  f15 := ⟨Tryz.f227.name, by decide, Tryz.func227.trans (congrArg some (by kernel_rfl))⟩
  f16 := ⟨Tryz.f228.name, by decide, Tryz.func228.trans (congrArg some (by kernel_rfl))⟩
  f17 := ⟨Tryz.f229.name, by decide, Tryz.func229.trans (congrArg some (by kernel_rfl))⟩
  f18 := ⟨Tryz.f230.name, by decide, Tryz.func230.trans (congrArg some (by kernel_rfl))⟩
  f19 := Tryz.func231.trans (congrArg some (by kernel_rfl))
  f20 := Tryz.func232.trans (congrArg some (by kernel_rfl))
  f30 := ⟨Tryz.f343.name, by decide, Tryz.func343.trans (congrArg some (by kernel_rfl))⟩
  f31 := Tryz.func344.trans (congrArg some (by kernel_rfl))
  f32 := Tryz.func345.trans (congrArg some (by kernel_rfl))
  f33 := ⟨Tryz.f346.name, by decide, Tryz.func346.trans (congrArg some (by kernel_rfl))⟩
  f34 := ⟨Tryz.f347.name, by decide, Tryz.func347.trans (congrArg some (by kernel_rfl))⟩
  f35 := ⟨Tryz.f348.name, by decide, Tryz.func348.trans (congrArg some (by kernel_rfl))⟩
  f40 := ⟨Tryz.f453.name, by decide, Tryz.func453.trans (congrArg some (by kernel_rfl))⟩
  t0 := Tryz.underlying0
  a0 := Tryz.isAgg0
  z0 := Tryz.sizeOf0
  v0 := Tryz.zeroValue0
  t3 := Tryz.underlying3
  a3 := Tryz.isAgg3
  z3 := Tryz.sizeOf3
  v3 := Tryz.zeroValue3
  t4 := Tryz.underlying4
  a4 := Tryz.isAgg4
  z4 := Tryz.sizeOf4
  v4 := Tryz.zeroValue4
  t5 := Tryz.underlying5
  a5 := Tryz.isAgg5
  z5 := Tryz.sizeOf5
  v5 := Tryz.zeroValue5
  t9 := Tryz.underlying9
  a9 := Tryz.isAgg9
  z9 := Tryz.sizeOf9
  v9 := Tryz.zeroValue9
  t22 := Tryz.underlying39
  a22 := Tryz.isAgg39
  z22 := Tryz.sizeOf39
  v22 := Tryz.zeroValue39
  t23 := Tryz.underlying39
  a23 := Tryz.isAgg39
  z23 := Tryz.sizeOf39
  v23 := Tryz.zeroValue39
  t25 := Tryz.underlying3
  a25 := Tryz.isAgg3
  z25 := Tryz.sizeOf3
  v25 := Tryz.zeroValue3
  t32 := Tryz.underlying232
  a32 := Tryz.isAgg232
  z32 := Tryz.sizeOf232
  v32 := Tryz.zeroValue232
  t35 := Tryz.underlying376
  a35 := Tryz.isAgg376
  z35 := Tryz.sizeOf376
  v35 := Tryz.zeroValue376
  t36 := Tryz.underlying377
  a36 := Tryz.isAgg377
  z36 := Tryz.sizeOf377
  v36 := Tryz.zeroValue377
  t41 := Tryz.underlying189
  a41 := Tryz.isAgg189
  z41 := Tryz.sizeOf189
  v41 := Tryz.zeroValue189
  t44 := Tryz.underlying88
  a44 := Tryz.isAgg88
  z44 := Tryz.sizeOf88
  v44 := Tryz.zeroValue88
  t46 := Tryz.underlying292
  a46 := Tryz.isAgg292
  z46 := Tryz.sizeOf292
  v46 := Tryz.zeroValue292
  t53 := Tryz.underlying490
  a53 := Tryz.isAgg490
  z53 := Tryz.sizeOf490
  v53 := Tryz.zeroValue490
  t57 := Tryz.underlying494
  a57 := Tryz.isAgg494
  z57 := Tryz.sizeOf494
  v57 := Tryz.zeroValue494
  t63 := Tryz.underlying575
  a63 := Tryz.isAgg575
  z63 := Tryz.sizeOf575
  v63 := Tryz.zeroValue575
  t64 := Tryz.underlying58
  a64 := Tryz.isAgg58
  z64 := Tryz.sizeOf58
  v64 := Tryz.zeroValue58 }
end Go.Proofs
end
section
/- slices.Insert at this program's pairs. Conditions: none. -/
set_option linter.unusedVariables false
set_option linter.unusedSimpArgs false
namespace Go.Proofs
open Go.Shelf Go.RowKit Go.Lib

theorem Tryz.copyTwo (w : World) (dT sT ty elem : TypeId) (b o dLen dCap : Nat) (a : Addr) (sLen sCap : Nat) (cs : List Value)
    (hu : Tryz.prog.underlying dT = some (.slice elem)) (hs : (Tryz.prog.info? elem).map (·.size) = some 2) (hn : cs.length = Nat.min sLen dLen * 2)
    (hsrc : ∀ j v, cs[j]? = some v → w.cell? (a.add j) = some v) (hc : ∀ j, j < cs.length → (w.cell? ⟨b, o + j, none⟩).isSome = true) (hf : ∀ j, j < cs.length → w.frozen? ⟨b, o + j, none⟩ = false) (h1 : ∀ v ∈ cs, v.oneCell' = true) :
    (Builtin.copy_ #[dT, sT] ty #[.slice (some ⟨b, o, none⟩) dLen dCap, .slice (some a) sLen sCap]).run Tryz.prog w = .ok (goInt (Nat.min sLen dLen)) (w.setCells b o cs) := by
  have hl := run_loadCells_list (P := Tryz.prog) w a cs hsrc
  have hst := run_storeCells_cells (P := Tryz.prog) b o cs 0 w (by simpa using hc) (by simpa using hf) h1
  cases hq : Tryz.prog.info? elem with
  | none => simp [hq] at hs
  | some i =>
    have hi : i.size = 2 := by simpa [hq] using hs
    simp [Builtin.copy_, run_underlying hu, Builtin.lenOf, Builtin.firstCells, sizeOf, typeInfo, hq, hi, ← hn, hl, hst]
theorem Tryz.size188 : (Tryz.prog.info? 188).map (·.size) = some 2 := by kernel_rfl

set_option maxHeartbeats 4000000 in
set_option maxRecDepth 100000 in
/-- THERE IS ROOM, i < len(s): in place. -/
theorem Tryz.insShift (b off n c i vb voff m vc : Nat) (cs vs : List Value) (w : World) (hi : i < n) (hm : 0 < m) (hroom : n + m ≤ c) (hnm : n + m ≤ 9223372036854775807) (hvb : vb ≠ b)
    (hcl : cs.length = n * 2) (hvl : vs.length = m * 2)
    (hcs : ∀ j v, cs[j]? = some v → w.cell? ⟨b, off + j, none⟩ = some v) (hsp : ∀ j, j < (n + m) * 2 → (w.cell? ⟨b, off + j, none⟩).isSome = true) (hfz : ∀ j, j < (n + m) * 2 → w.frozen? ⟨b, off + j, none⟩ = false)
    (hvs : ∀ j v, vs[j]? = some v → w.cell? ⟨vb, voff + j, none⟩ = some v) (h1c : ∀ v ∈ cs, v.oneCell' = true) (h1v : ∀ v ∈ vs, v.oneCell' = true)
    (tA tB : TypeId) (kA kB : Nat) (hsa : w.shape? vb = some (tA, kA)) (hsb : w.shape? b = some (tB, kB)) (hkB : kB ≠ 0) (hfa : w.frozen? ⟨vb, voff, none⟩ = false) (hfe : w.frozen? ⟨vb, kA, none⟩ = false) :
    Calls Tryz.prog 547 #[.slice (some ⟨b, off, none⟩) n c, .int .i64 i, .slice (some ⟨vb, voff, none⟩) m vc] w fun e w' =>
      e = .returned (.slice (some ⟨b, off, none⟩) (n + m) c) ∧ w' = (w.drew.setCells b (off + (i + m) * 2) (cs.drop (i * 2))).setCells b (off + i * 2) vs := by
  have mixed : Tryz.prog.follows .mixedOrders = true := by kernel_rfl
  have hz1 : ¬ ((m : Int) = 0) := by omega
  have hz2 : ¬ ((i : Int) = (n : Int)) := by omega
  have hsz := Tryz.size188
  have hov : ∀ lb cb, (callFunc 567 #[.slice (some ⟨vb, voff, none⟩) m vc, .slice (some ⟨b, off + (i + m) * 2, none⟩) lb cb]).run Tryz.prog w = .ok (.value (.bool false)) w := fun lb cb => by
    rw [run_callFunc_extern Tryz.func567 (by kernel_rfl) (by kernel_rfl) (by kernel_rfl) (e := Extern.SlicesOverlaps.overlaps #[184, 184] #[4]) (by kernel_rfl),
      Lib.run_overlaps_apart w 184 4 188 Tryz.underlying184 2 (fun w => Tryz.sizeOf188 w) ⟨vb, voff, none⟩ ⟨b, off + (i + m) * 2, none⟩ m vc lb cb hvb tA tB kA kB hsa hsb hkB hfa hfe]
    rfl
  have hdl : (cs.drop (i * 2)).length = (n - i) * 2 := by rw [List.length_drop, hcl]; omega
  have hw1 : IntKind.i64.wrap ((i : Int) + (m : Int)) = (i : Int) + (m : Int) := by rw [IntKind.wrap_i64]; omega
  have hb1 : (0 : Int) ≤ (i : Int) + (m : Int) := by omega
  have hin : i ≤ n := by omega
  have htn : ((i : Int) + (m : Int)).toNat = i + m := by omega
  have hb2 : ¬ (c = i + m) := by omega
  have hb3 : (i : Int) ≤ (n : Int) + (m : Int) := by omega
  have hb4 : ¬ (c = i) := by omega
  have hcp1 : ∀ ty dc sc, (Builtin.copy_ #[184, 184] ty #[.slice (some ⟨b, off + (i + m) * 2, none⟩) (n + m - (i + m)) dc, .slice (some ⟨b, off + i * 2, none⟩) (n + m - i) sc]).run Tryz.prog w.drew = .ok (goInt (Nat.min (n + m - i) (n + m - (i + m)))) (w.drew.setCells b (off + (i + m) * 2) (cs.drop (i * 2))) := fun ty dc sc =>
    Tryz.copyTwo w.drew _ _ ty 188 b (off + (i + m) * 2) (n + m - (i + m)) dc ⟨b, off + i * 2, none⟩ (n + m - i) sc (cs.drop (i * 2)) Tryz.underlying184 hsz (by rw [hdl]; simp only [Nat.min_def]; split <;> omega)
      (fun j v hj => by rw [Addr.add_lit, Nat.add_assoc]; exact hcs (i * 2 + j) v (by rwa [List.getElem?_drop] at hj))
      (fun j hj => by rw [Nat.add_assoc]; exact hsp _ (by omega)) (fun j hj => by rw [Nat.add_assoc]; exact hfz _ (by omega)) (fun v hv => h1c v (List.mem_of_mem_drop hv))
  obtain ⟨W1, hW1⟩ : ∃ W1, W1 = w.drew.setCells b (off + (i + m) * 2) (cs.drop (i * 2)) := ⟨_, rfl⟩
  have hsp1 : ∀ k, k < (n + m) * 2 → (W1.cell? ⟨b, off + k, none⟩).isSome = true := fun k hk => by
    rw [hW1]
    exact isSome_setCells b _ _ _ (fun j hj => by rw [Nat.add_assoc]; exact hsp _ (by omega)) _ (hsp k hk)
  have hcp2 : ∀ (W : World), (∀ x, W.cell? x = W1.cell? x) → (∀ x, W.frozen? x = W1.frozen? x) → ∀ ty dc, (Builtin.copy_ #[184, 184] ty #[.slice (some ⟨b, off + i * 2, none⟩) (n + m - i) dc, .slice (some ⟨vb, voff, none⟩) m vc]).run Tryz.prog W = .ok (goInt (Nat.min m (n + m - i))) (W.setCells b (off + i * 2) vs) := fun W hWc hWf ty dc =>
    Tryz.copyTwo W _ _ ty 188 b (off + i * 2) (n + m - i) dc ⟨vb, voff, none⟩ m vc vs Tryz.underlying184 hsz (by rw [hvl]; simp only [Nat.min_def]; split <;> omega)
      (fun j v hj => by
        rw [Addr.add_lit, hWc, hW1, World.cell?_setCells_out b _ _ _ _ (fun h _ => absurd h hvb)]
        exact hvs j v hj)
      (fun j hj => by rw [hWc, Nat.add_assoc]; exact hsp1 _ (by omega)) (fun j hj => by rw [hWf, hW1, World.frozen?_setCells, Nat.add_assoc]; exact hfz _ (by omega)) h1v
  rw [← hW1] at hcp1
  go_enter Tryz.func547, Tryz.ntmps547
  go_wp2_with (simp only [hov])
  go_region_law_o (refine step_copy_runI rfl _ _ 184 184 rfl _ _ (by simp [Act.eval, Act.put]) (by simp [Act.eval, Act.put]) (hcp1 _ _ _) ?_)
  go_wp2_with (at_builtin; refine wpList_copy_runI _ rfl _ _ 184 184 rfl _ _ rfl rfl (hcp2 _ (fun _ => rfl) (fun _ => rfl) _ _) ?_)
  go_ret
  first | exact ⟨rfl, rfl⟩ | exact ⟨rfl, by rw [hW1]⟩

/-- A pair of nothing. -/
def Tryz.z188 : Array Value := #[.string ⟨#[]⟩, .int .i64 0]
theorem Tryz.inf188 : ∃ i0 z, Tryz.prog.info? 188 = some i0 ∧ i0.zero = some z ∧ i0.size = 2 ∧ i0.bytes = 32 ∧ z.cells.size = 2 := ⟨Tryz.t188, _, by kernel_rfl, rfl, rfl, rfl, rfl⟩

set_option maxHeartbeats 4000000 in
set_option maxRecDepth 100000 in
/-- i < len(s), NO ROOM: a new row. -/
theorem Tryz.insGrow (b off n c i vb voff m vc : Nat) (cs vs : List Value) (w : World) (hi : i < n) (hm : 0 < m) (hnc : n ≤ c) (hroom : c < n + m) (hbig : (n + m) * 32 ≤ 140737488355328)
    (hcl : cs.length = n * 2) (hvl : vs.length = m * 2)
    (hcs : ∀ j v, cs[j]? = some v → w.cell? ⟨b, off + j, none⟩ = some v)
    (hvs : ∀ j v, vs[j]? = some v → w.cell? ⟨vb, voff + j, none⟩ = some v) (h1c : ∀ v ∈ cs, v.oneCell' = true) (h1v : ∀ v ∈ vs, v.oneCell' = true) :
    Calls Tryz.prog 547 #[.slice (some ⟨b, off, none⟩) n c, .int .i64 i, .slice (some ⟨vb, voff, none⟩) m vc] w fun e w' =>
      ∃ (row : Array Value) (G : Nat), e = .returned (.slice (some ⟨w.heap.size, 0, none⟩) (n + m) G) ∧ n + m ≤ G ∧ row.size = G * 2 ∧ (∀ (j : Nat) (v : Value), (cs.take (i * 2))[j]? = some v → row[j]? = some v) ∧
      w' = (((w.alloc (.cells row 188)).drew.setCells w.heap.size (i * 2) vs).drew).setCells w.heap.size ((i + m) * 2) (cs.drop (i * 2)) := by
  have mixed : Tryz.prog.follows .mixedOrders = true := by kernel_rfl
  obtain ⟨i0, z, hi0, hz0, hzs, hzb, hzc⟩ := Tryz.inf188
  have hz1 : ¬ ((m : Int) = 0) := by omega
  have hz2 : ¬ ((i : Int) = (n : Int)) := by omega
  have hz3 : (c : Int) < (n : Int) + (m : Int) := by omega
  have hsz := Tryz.size188
  have hbw : b < w.heap.size := block_lt_of_cell (hcs 0 _ (List.getElem?_eq_getElem (by omega)))
  have hvw : vb < w.heap.size := block_lt_of_cell (hvs 0 _ (List.getElem?_eq_getElem (by omega)))
  have hkk : (n : Int) + (m : Int) - (i : Int) = ((n + m - i : Nat) : Int) := by omega
  have hik : i + (n + m - i) = n + m := by omega
  have hold : (Builtin.firstCells i0.size i (.slice (some ⟨b, off, none⟩) i c)).run Tryz.prog w.drew = .ok (cs.take (i * 2)).toArray w.drew := by
    rw [hzs]
    exact run_firstCells_some w.drew 2 i ⟨b, off, none⟩ i c (cs.take (i * 2)) (by rw [List.length_take]; omega) (fun j v hj => by
      rw [Addr.add_lit]
      rw [List.getElem?_take] at hj
      split at hj
      · exact hcs j v hj
      · cases hj)
  have hrz : ∀ ty, (Builtin.append_ #[184, 3] ty #[.slice (some ⟨b, off, none⟩) i c, .int .i64 ((n : Int) + (m : Int) - (i : Int))]).run Tryz.prog w =
      .ok (.slice (some ⟨w.heap.size, 0, none⟩) (n + m) (grownCap w (n + m) c 188)) (w.drew.alloc (.cells ((cs.take (i * 2)).toArray ++ Builtin.zeroCells z.cells (n + m - i) ++ Builtin.zeroCells z.cells (grownCap w (n + m) c 188 - (n + m))) 188)) := fun ty => by
    have h := Lib.run_append_grow_zeros w 184 3 ty 188 i0 z .i64 .i64 Tryz.underlying184 Tryz.underlying3 hi0 hz0 (some ⟨b, off, none⟩) i c (cs.take (i * 2)) hold (n + m - i) (by omega) (by omega) (by omega) (by omega) (by rw [hzb]; omega) (by rw [hzb, hik]; exact growslice_fits hroom hbig)
    rw [hik] at h
    rw [hkk]
    exact h
  obtain ⟨G, hG⟩ : ∃ G, G = grownCap w (n + m) c 188 := ⟨_, rfl⟩
  obtain ⟨ROW, hROW⟩ : ∃ ROW : Array Value, ROW = (cs.take (i * 2)).toArray ++ Builtin.zeroCells z.cells (n + m - i) ++ Builtin.zeroCells z.cells (G - (n + m)) := ⟨_, rfl⟩
  have hGn : n + m ≤ G := by rw [hG]; exact grownCap_ge w _ _ _
  rw [← hG] at hrz
  rw [← hROW] at hrz
  have hRs : ROW.size = G * 2 := by
    rw [hROW, Array.size_append, Array.size_append]
    simp [Builtin.zeroCells, hzc]
    omega
  have hRt : ∀ (j : Nat) (v : Value), (cs.take (i * 2))[j]? = some v → ROW[j]? = some v := fun j v hj => by
    rw [hROW, Array.append_assoc, Array.getElem?_append_left (by simpa using (List.getElem?_eq_some_iff.1 hj).1)]
    simpa using hj
  obtain ⟨W1, hW1⟩ : ∃ W1, W1 = w.drew.alloc (.cells ROW 188) := ⟨_, rfl⟩
  rw [← hW1] at hrz
  have hN : ∀ j, j < (n + m) * 2 → (W1.cell? ⟨w.heap.size, j, none⟩).isSome = true := fun j hj => by
    rw [hW1, World.cell?_alloc_at (w := w.drew) ROW _ w.heap.size j rfl, Array.getElem?_eq_getElem (by omega)]; rfl
  have hNf : ∀ j, W1.frozen? ⟨w.heap.size, j, none⟩ = false := fun j => by rw [hW1]; exact World.frozen?_alloc_at (w := w.drew) ROW _ w.heap.size j rfl
  have hOb : ∀ j v, w.cell? ⟨b, j, none⟩ = some v → W1.cell? ⟨b, j, none⟩ = some v := fun j v h => by rw [hW1, World.cell?_alloc_past (w := w.drew) _ b j hbw]; exact h
  have hOv : ∀ j v, w.cell? ⟨vb, j, none⟩ = some v → W1.cell? ⟨vb, j, none⟩ = some v := fun j v h => by rw [hW1, World.cell?_alloc_past (w := w.drew) _ vb j hvw]; exact h
  have hcpA : ∀ (W : World), (∀ x, W.cell? x = W1.cell? x) → (∀ x, W.frozen? x = W1.frozen? x) → ∀ ty dc, (Builtin.copy_ #[184, 184] ty #[.slice (some ⟨w.heap.size, i * 2, none⟩) (n + m - i) dc, .slice (some ⟨vb, voff, none⟩) m vc]).run Tryz.prog W = .ok (goInt (Nat.min m (n + m - i))) (W.setCells w.heap.size (i * 2) vs) := fun W hWc hWf ty dc =>
    Tryz.copyTwo W _ _ ty 188 w.heap.size (i * 2) (n + m - i) dc ⟨vb, voff, none⟩ m vc vs Tryz.underlying184 hsz (by rw [hvl]; simp only [Nat.min_def]; split <;> omega)
      (fun j v hj => by rw [Addr.add_lit, hWc]; exact hOv _ v (hvs j v hj))
      (fun j hj => by rw [hWc]; exact hN _ (by omega)) (fun j hj => by rw [hWf]; exact hNf _) h1v
  have hG63 : G ≤ 9223372036854775807 := by
    have := grownCap_le_maxLen w (n + m) c 188 (by unfold maxLen; omega)
    rw [← hG] at this
    unfold maxLen at this
    omega
  have hGi : ¬ (G = i) := by omega
  have hGim : ¬ (G = i + m) := by omega
  have hci : ¬ (c = i) := by omega
  have hbN : b ≠ w.heap.size := by omega
  have hdl : (cs.drop (i * 2)).length = (n - i) * 2 := by rw [List.length_drop, hcl]; omega
  have hcpB : ∀ (W : World), (∀ x, W.cell? x = (W1.setCells w.heap.size (i * 2) vs).cell? x) → (∀ x, W.frozen? x = (W1.setCells w.heap.size (i * 2) vs).frozen? x) → ∀ ty dc sc, (Builtin.copy_ #[184, 184] ty #[.slice (some ⟨w.heap.size, (i + m) * 2, none⟩) (n + m - (i + m)) dc, .slice (some ⟨b, off + i * 2, none⟩) (n - i) sc]).run Tryz.prog W = .ok (goInt (Nat.min (n - i) (n + m - (i + m)))) (W.setCells w.heap.size ((i + m) * 2) (cs.drop (i * 2))) := fun W hWc hWf ty dc sc =>
    Tryz.copyTwo W _ _ ty 188 w.heap.size ((i + m) * 2) (n + m - (i + m)) dc ⟨b, off + i * 2, none⟩ (n - i) sc (cs.drop (i * 2)) Tryz.underlying184 hsz (by rw [hdl]; simp only [Nat.min_def]; split <;> omega)
      (fun j v hj => by
        rw [Addr.add_lit, hWc, World.cell?_setCells_out _ _ _ _ _ (fun h _ => absurd h hbN), Nat.add_assoc]
        exact hOb _ v (hcs (i * 2 + j) v (by rwa [List.getElem?_drop] at hj)))
      (fun j hj => by rw [hWc]; exact isSome_setCells _ _ _ _ (fun t ht => hN _ (by omega)) _ (hN _ (by omega)))
      (fun j hj => by rw [hWf, World.frozen?_setCells]; exact hNf _) (fun v hv => h1c v (List.mem_of_mem_drop hv))
  subst hW1
  have hE1 : ∀ x, ((w.alloc (.cells ROW 188)).drew).cell? x = (w.drew.alloc (.cells ROW 188)).cell? x := fun x => rfl
  have hE2 : ∀ x, ((w.alloc (.cells ROW 188)).drew).frozen? x = (w.drew.alloc (.cells ROW 188)).frozen? x := fun x => rfl
  have hF1 : ∀ x, (((w.alloc (.cells ROW 188)).drew.setCells w.heap.size (i * 2) vs).drew).cell? x = ((w.drew.alloc (.cells ROW 188)).setCells w.heap.size (i * 2) vs).cell? x := fun x => rfl
  have hF2 : ∀ x, (((w.alloc (.cells ROW 188)).drew.setCells w.heap.size (i * 2) vs).drew).frozen? x = ((w.drew.alloc (.cells ROW 188)).setCells w.heap.size (i * 2) vs).frozen? x := fun x => rfl
  have hw1 : IntKind.i64.wrap ((i : Int) + (m : Int)) = (i : Int) + (m : Int) := by rw [IntKind.wrap_i64]; omega
  have hb1 : (0 : Int) ≤ (i : Int) + (m : Int) := by omega
  have hin : i ≤ n := by omega
  have htn : ((i : Int) + (m : Int)).toNat = i + m := by omega
  have hb3 : (i : Int) ≤ (n : Int) := by omega
  clear hkk hik hold hROW hG
  have HRt : Hid (∀ (j : Nat) (v : Value), (cs.take (i * 2))[j]? = some v → ROW[j]? = some v) := hRt
  have HRs : Hid (ROW.size = G * 2) := hRs
  clear hRt hRs
  go_enter Tryz.func547, Tryz.ntmps547
  go_wp2_with (first
    | (at_builtin; refine Lib.wpList_append_run _ rfl _ _ _ _ rfl _ _ rfl rfl _ _ (hrz _) ?_)
    | (at_builtin; refine wpList_copy_runI _ rfl _ _ 184 184 rfl _ _ rfl rfl (hcpA _ hE1 hE2 _ _) ?_)
    | (at_builtin; refine wpList_copy_runI _ rfl _ _ 184 184 rfl _ _ rfl rfl (hcpB _ (fun _ => rfl) (fun _ => rfl) _ _ _) ?_))
  go_region_law_o (refine step_copy_runI rfl _ _ 184 184 rfl (.slice (some ⟨w.heap.size, (i + m) * 2, none⟩) (n + m - (i + m)) (G - (i + m))) (.slice (some ⟨b, off + i * 2, none⟩) (n - i) (c - i)) (by simp [Act.eval, Act.put]) (by simp [Act.eval, Act.put]) (hcpB _ hF1 hF2 3 (G - (i + m)) (c - i)) ?_)
  go_wp2
  go_ret
  exact ⟨ROW, G, rfl, hGn, HRs.out, HRt.out, rfl⟩

set_option maxHeartbeats 4000000 in
set_option maxRecDepth 100000 in
/-- AT THE END (i = len(s)): as append. -/
theorem Tryz.insEnd (base : Option Addr) (n c vb voff m vc : Nat) (w w1 : World) (r : Value) (hm : 0 < m) (hnc : n ≤ c) (hnil : base = none → n = 0)
    (hr : ∀ ty, (Builtin.append_ #[184, 184] ty #[.slice base n c, .slice (some ⟨vb, voff, none⟩) m vc]).run Tryz.prog w = .ok r w1) :
    Calls Tryz.prog 547 #[.slice base n c, .int .i64 n, .slice (some ⟨vb, voff, none⟩) m vc] w fun e w' => e = .returned r ∧ w' = w1 := by
  have mixed : Tryz.prog.follows .mixedOrders = true := by kernel_rfl
  have hz1 : ¬ ((m : Int) = 0) := by omega
  go_enter Tryz.func547, Tryz.ntmps547
  go_wp2_with (at_builtin; refine Lib.wpList_append_run _ rfl _ _ _ _ rfl _ _ rfl rfl _ _ (hr _) ?_)
  all_goals (go_ret; exact ⟨rfl, rfl⟩)
end Go.Proofs
end
section
/- The library's functions that the evaluator answers by itself, at this program. Conditions: none. -/
namespace Go.Proofs
open Go.RowKit Go.Maps Go.Sort Go.Shelf Go.Ev Go.WideElems

theorem Tryz.sorts (m : Nat) : AnyZI.SortsIn Tryz.prog Tryz.sortedA_ren Fence.wide m :=
  ⟨fun blk off cap ss W hH hblk hsz => callsIn_wide.2 (AnyM.slices_Sort_int Tryz.sortA blk off cap ss W hH hblk hsz),
   fun p cap W => callsIn_wide.2 (AnyM.slices_Sort_int_none Tryz.sortA p cap W)⟩
theorem Tryz.key3 (n : Int) (h : inI64 n = true) : keyOf Tryz.prog 3 (.int .i64 n) = some (.int .i64 n) := by
  have hmin : IntKind.min .i64 = -9223372036854775808 := by decide
  have hmax : IntKind.max .i64 = 9223372036854775807 := by decide
  have hb : -9223372036854775808 ≤ n ∧ n ≤ 9223372036854775807 := by
    cases n with
    | ofNat m =>
      have h1 : Nat.blt m 9223372036854775808 = true := h
      rw [Nat.blt_eq] at h1
      simp only [Int.ofNat_eq_natCast]
      omega
    | negSucc m =>
      have h1 : Nat.blt m 9223372036854775808 = true := h
      rw [Nat.blt_eq] at h1
      omega
  have hw : (Lit.int .i64 n).wf = true := by simp only [Lit.wf, hmin, hmax, Bool.and_eq_true, decide_eq_true_eq]; exact hb
  simp [keyOf, Tryz.underlying3, mapKey, hw]

theorem Tryz.sorted94 : SortedIs Tryz.prog 94 3 154 := by
  refine ⟨⟨Tryz.f94, _, Tryz.func94, by kernel_rfl, rfl⟩, by kernel_rfl, fun w bx b es clk ks hc hb hst hk hin h12 => ?_⟩
  let R : Value → Option (DataW Unit × List MemPlace) := fun _ => some (.nil, [])
  have hrd : ∀ x ∈ es.toList, ∃ n, x.key = .int .i64 n ∧ rd Tryz.prog 3 R x = some (.int .i64 n, .nil) := fun x hx => by
    have h1 : x.key ∈ ks.map (Value.int .i64) := by rw [← hk]; exact List.mem_map.2 ⟨x, hx, rfl⟩
    obtain ⟨n, hn, he⟩ := List.mem_map.1 h1
    refine ⟨n, he.symm, ?_⟩
    rw [WideElems.rd, ← he, Tryz.key3 n (hin n hn)]; rfl
  have hlen : es.size = ks.length := by have := congrArg List.length hk; simpa using this
  have hown : w.ownsMap Tryz.prog 3 R b 12 (.map ((es.toList.map (rg Tryz.prog 3 R)).foldr DataW.insert [])) :=
    ⟨es, clk, hb, ⟨by rw [hlen]; exact Nat.le_trans h12 (by decide), hst, fun x hx => by obtain ⟨n, _, h⟩ := hrd x hx; exact ⟨_, h⟩⟩, by omega, rfl⟩
  have hkeys : (intKeys (.map ((es.toList.map (rg Tryz.prog 3 R)).foldr DataW.insert []))).Perm ks := by
    refine ((WideShapes.sorted_perm (es.toList.map (rg Tryz.prog 3 R))).map fun p => Go.intOf p.1).trans ?_
    refine List.Perm.of_eq ?_
    rw [List.map_map]
    have : es.toList.map ((fun p => Go.intOf p.1) ∘ rg Tryz.prog 3 R) = (es.toList.map (·.key)).map fun v => match v with | .int _ n => n | _ => 0 := by
      rw [List.map_map]
      refine List.map_congr_left fun x hx => ?_
      obtain ⟨n, h1, h2⟩ := hrd x hx
      simp [WideElems.rg, h2, h1, Go.intOf]
    rw [this, hk, List.map_map]
    exact List.map_id _
  have hsize : Maps.size (.map ((es.toList.map (rg Tryz.prog 3 R)).foldr DataW.insert [])) ≤ 12 := by
    show (List.foldr DataW.insert [] _).length ≤ 12
    rw [(WideShapes.sorted_perm _).length_eq, List.length_map, Array.length_toList, hlen]
    exact h12
  refine (callsIn_wide (n := 5)).1 ?_
  have hbx : bx < w.heap.size := by
    unfold World.cell? at hc
    cases hh : w.heap[bx]? with
    | none => rw [hh] at hc; cases hc
    | some o => exact (Array.getElem?_eq_some_iff.1 hh).1
  have hseq : SeqGives Fence.wide 2 Tryz.prog 154 #[.pointer (some ⟨bx, 0, none⟩)] encZ (fun ss => ss.Perm (intKeys (.map ((es.toList.map (rg Tryz.prog 3 R)).foldr DataW.insert [])))) (Maps.size (.map ((es.toList.map (rg Tryz.prog 3 R)).foldr DataW.insert []))) w :=
    AnyZI.keys_gives (ρ := Tryz.keysA_ren) { Tryz.keysA with } Fence.wide _ trivial rfl (by omega) bx b 12 _ w hbx hc hown
  have cS := AnyZI.sorted_in Tryz.sortedA Fence.wide 5 trivial trivial trivial trivial rfl (by omega) (Tryz.sorts _) (enters_of Tryz.func85 (by kernel_rfl) rfl) 154 #[.pointer (some ⟨bx, 0, none⟩)] trivial (enters_of Tryz.func154 (by kernel_rfl) rfl) _ _ (Nat.le_trans hsize (by decide)) (by omega) _ hseq
  change CallsIn _ _ Tryz.prog 94 _ _ _ at cS
  refine CallsIn.mono cS ?_
  rintro e w' ⟨v, ss, rfl, hS, hrow, hnil, hbel⟩
  exact ⟨v, ss, rfl, hS.trans hkeys, hrow, hnil, hbel⟩

theorem Tryz.insert547 : InsertIs Tryz.prog 547 184 188 2 :=
  { body := ⟨Tryz.f547, _, Tryz.func547, by kernel_rfl, rfl⟩,
    und := Tryz.underlying184,
    noInt := .inr ⟨184, _, rfl, Tryz.underlying184, fun j h => by cases h⟩,
    cells := by kernel_rfl,
    pos := by decide,
    fin := fun base n c vb voff m vc w w1 r hm hnc hnil hr => Tryz.insEnd base n c vb voff m vc w w1 r hm hnc hnil hr,
    shift := fun b off n c i vb voff m vc cs vs w hi hm hroom hbig hvb hcl hvl hcs hsp hfz hvs h1c h1v tA tB kA kB hsa hsb hkB hfa hfe =>
      Tryz.insShift b off n c i vb voff m vc cs vs w hi hm hroom (by omega) hvb hcl hvl hcs hsp hfz hvs h1c h1v tA tB kA kB hsa hsb hkB hfa hfe,
    grow := fun b off n c i vb voff m vc cs vs w hi hm hnc hroom hbig hcl hvl hcs hvs h1c h1v =>
      Tryz.insGrow b off n c i vb voff m vc cs vs w hi hm hnc hroom (by omega) hcl hvl hcs hvs h1c h1v }
end Go.Proofs
end
section
set_option linter.unusedVariables false
namespace Go.Proofs
open Go.RowKit
theorem Tryz.bit1 : ∀ x : Nat, x < 256 → ((bits BinOp.and IntKind.u8 (x : Int) 1 == 1) : Bool) = Nat.beq (x % 2) 1 := by decide +kernel
theorem Tryz.hasWalk (w : World) (b o n m : Nat) (hn : n < 4096) (hm : m < 256) (hc : w.cell? ⟨b, o + n / 8, none⟩ = some (.int .u8 m)) :
    Calls Tryz.prog 147 #[.pointer (some ⟨b, o, none⟩), .int .i64 n] w fun e w' => e = .returned (.bool (Nat.beq (m / 2 ^ (n % 8) % 2) 1)) ∧ w' = w := by
  go_enter Tryz.func147, Tryz.ntmps147
  go_wp2
  go_ret
  refine ⟨?_, rfl⟩
  have h1 : ((m : Int) / 2 ^ (n % 8)) = ((m / 2 ^ (n % 8) : Nat) : Int) := by simp
  have h2 := Tryz.bit1 (m / 2 ^ (n % 8)) (Nat.lt_of_le_of_lt (Nat.div_le_self _ _) hm)
  show Ending.returned (Value.bool _) = _
  rw [← h2, ← h1]

theorem Tryz.numWalk (w : World) (h : ∀ i, i < 20 → w.cell? ⟨2, i, none⟩ = some (.int .u64 (10 ^ i : Nat))) :
    Calls Tryz.prog 304 #[.int .u64 201] w fun e w' => e = .returned (.int .i64 3) ∧ w' = w := by
  have h2 := h 2 (by decide)
  clear h
  have hb : Lib.bitLen (Int.toNat 201) = 8 := by decide
  have hl : Calls Tryz.prog 232 #[.int .u64 201] w fun e w' => e = .returned (.int .i64 8) ∧ w' = w := (Any.bits_Len64 Tryz.lays129 201 w (by decide) (by decide)).mono fun e w' h => by rw [hb] at h; exact h
  go_enter Tryz.func304, Tryz.ntmps304
  go_wp2_with (first
    | (go_at_call 232; refine hl.mono ?_; rintro e w' ⟨rfl, rfl⟩)
    | go_in)
  go_ret
  exact ⟨rfl, rfl⟩
end Go.Proofs
end
section
/- The loop of space.Load that looks for a bit, at this program. Conditions: none. -/
namespace Go.Ev
open Go Go.Proofs
set_option linter.unusedVariables false

theorem has147 : HasIs Tryz.prog 147 := ⟨⟨Tryz.f147, _, Tryz.func147, by kernel_rfl, rfl⟩, fun w b o n m hn hm hc => Tryz.hasWalk w b o n m hn hm hc⟩
theorem num304 : NumIs Tryz.prog 304 := ⟨⟨Tryz.f304, _, Tryz.func304, by kernel_rfl, rfl⟩, fun w h => Tryz.numWalk w h⟩
/-- Calls of that function alone. -/
noncomputable def callHas : CallT := fun g args h k kp => ifB (Nat.beq g 147) (xHas cx0 args h k) eScan
set_option maxRecDepth 100000 in
theorem callHas_ok : CallOk Tryz.prog callHas := by
  intro rv rh ρ h w f args vs k kp r ha e
  obtain ⟨hg, e1⟩ | ⟨_, e1⟩ := ifB_ok (b := Nat.beq f 147) e
  · have := Nat.eq_of_beq_eq_true hg; subst this
    exact xHas_ok (cx := cx0) (kp := kp) has147 r ha e1
  · cases e1

noncomputable def lc : Code := Tryz.f135.body.getD .skip
theorem lc_eq : Tryz.f135.body = some lc := by kernel_rfl
noncomputable abbrev lo (r i : Nat) : Oper := opAt r i lc
abbrev scanBody (o0 o1 p0 p1 p2 p3 p4 q0 q1 q2 : Oper) (c : Code) : Code :=
  .seq (.seq (.region 10 #[o0, o1] false) (.cond (.tmp 36) .skip (.exit 0))) (.seq (.block 1 (.seq (.region 12 #[p0, p1, p2, p3, p4] false) (.cond (.tmp 43) c .skip))) (.region 11 #[q0, q1, q2] false))
noncomputable def sb : Code := scanBody (lo 10 0) (lo 10 1) (lo 12 0) (lo 12 1) (lo 12 2) (lo 12 3) (lo 12 4) (lo 11 0) (lo 11 1) (lo 11 2) (.seq (.region 13 #[lo 13 0, lo 13 1] false) .ret)
theorem lblocks : blocksOf 0 lc = [.loop sb] := by kernel_rfl
theorem i0 : OpIs (lo 10 0) (.move (.tmp 10)) 35 := ⟨by kernel_rfl, by kernel_rfl, by kernel_rfl⟩
theorem i1 : OpIs (lo 10 1) (.binOp .lss 3 (.tmp 35) (.const (.int .i64 4096)) 3) 36 := ⟨by kernel_rfl, by kernel_rfl, by kernel_rfl⟩
theorem i2 : OpIs (lo 12 0) (.move (.tmp 9)) 39 := ⟨by kernel_rfl, by kernel_rfl, by kernel_rfl⟩
theorem i3 : OpIs (lo 12 1) (.nilCheck (.tmp 39)) 40 := ⟨by kernel_rfl, by kernel_rfl, by kernel_rfl⟩
theorem i4 : OpIs (lo 12 2) (.fieldAddr 262 (.tmp 40) 1) 41 := ⟨by kernel_rfl, by kernel_rfl, by kernel_rfl⟩
theorem i5 : OpIs (lo 12 3) (.move (.tmp 10)) 42 := ⟨by kernel_rfl, by kernel_rfl, by kernel_rfl⟩
theorem i6 : OpIs (lo 12 4) (.call { callee := .value (.func 147), args := #[.tmp 41, .tmp 42], argTypes := #[260, 3] }) 43 := ⟨by kernel_rfl, by kernel_rfl, by kernel_rfl⟩
theorem i7 : OpIs (lo 11 0) (.move (.tmp 10)) 37 := ⟨by kernel_rfl, by kernel_rfl, by kernel_rfl⟩
theorem i8 : OpIs (lo 11 1) (.binOp .add 3 (.tmp 37) (.const (.int .i64 1)) 3) 38 := ⟨by kernel_rfl, by kernel_rfl, by kernel_rfl⟩
theorem i9 : OpIs (lo 11 2) (.assign (.tmp 38)) 10 := ⟨by kernel_rfl, by kernel_rfl, by kernel_rfl⟩

theorem cons_same (n : Nat) (v : RV) (l : Env) (k : RV → RT) : (Env.cons n v l).getK n k = k v := by
  show ifB (Nat.beq n n) (k v) (l.getK n k) = k v
  rw [beq_dec, decide_eq_true rfl]; rfl
theorem cons_other {n m : Nat} (h : Nat.beq n m = false) (v : RV) (l : Env) (k : RV → RT) : (Env.cons n v l).getK m k = l.getK m k := by
  show ifB (Nat.beq n m) (k v) (l.getK m k) = _
  rw [h]; rfl
theorem fa262 (b o : Nat) (k : RV → RT) : pFAddr cx0 262 (.s (.p b o)) 1 k = k (.s (.p b (o + 1))) := by
  have : pFAddr cx0 262 (.s (.p b o)) 1 k = natK (o + 1) fun o => k (.s (.p b o)) := by kernel_rfl
  rw [this, natK_eq]
theorem lss_run (n : Nat) (k : RV → RT) : pBin cx0 .lss 3 true (.s (.i .i64 (.ofNat n))) (.s (.i .i64 (.ofNat 4096))) k = k (.s (.b (Nat.blt n 4096))) := by
  have : pBin cx0 .lss 3 true (.s (.i .i64 (.ofNat n))) (.s (.i .i64 (.ofNat 4096))) k = boolK (Nat.blt n 4096) fun t => k (.s (.b t)) := by kernel_rfl
  rw [this, boolK_eq]
theorem add_run {n : Nat} (hn : n < 4096) (k : RV → RT) : pBin cx0 .add 3 true (.s (.i .i64 (.ofNat n))) (.s (.i .i64 (.ofNat 1))) k = k (.s (.i .i64 (.ofNat (n + 1)))) := by
  have : pBin cx0 .add 3 true (.s (.i .i64 (.ofNat n))) (.s (.i .i64 (.ofNat 1))) k = intK (wrapF .i64 (.ofNat (n + 1))) fun n => k (.s (.i .i64 n)) := by kernel_rfl
  rw [this, intK_eq]
  have h2 : wrapF .i64 (.ofNat (n + 1)) = ifB (Nat.blt (n + 1) 9223372036854775808) (.ofNat (n + 1)) (IntKind.i64.wrap (.ofNat (n + 1))) := rfl
  rw [h2, blt_dec, decide_eq_true (by omega)]; rfl
theorem has_run {n hm om m : Nat} {h : H} {c : Cs} {el fz : Nat} {ex : Bool} (hh : h.at hm = some (.cells c el ex fz)) (hn : n < 4096) (hc : c.get (om + n / 8) = some (.i .u8 (.ofNat m))) (hm2 : m < 256) (k : KV) (kp : KP) :
    callHas 147 [.s (.p hm om), .s (.i .i64 (.ofNat n))] h k kp = k (.s (.b (bitN m n))) h := by
  show ifB (Nat.blt n 4096) (cell hm (om + n / 8) h fun v => onInt v fun j m => iabs m fun m => ifB (andB (kindEq j .u8) (Nat.blt m 256)) (boolK (bitN m n) fun t => k (.s (.b t)) h) eX) eX = _
  rw [blt_dec, decide_eq_true hn]
  show h.getK hm _ = _
  have : ∀ K, h.getK hm K = K (.cells c el ex fz) := fun K => by
    cases h with
    | mk t n =>
      have hh' : t.get hm = some (.cells c el ex fz) := hh
      show (Option.rec (motive := fun _ => RT) (.err "no such object") K (t.get hm) : RT) = _
      rw [hh']
  rw [this]
  show onSome (c.get (om + n / 8)) _ _ = _
  rw [hc]
  show ifB (Nat.blt m 256) (boolK (bitN m n) fun t => k (.s (.b t)) h) eX = _
  rw [blt_dec, decide_eq_true hm2, ifB_true]
  exact boolK_eq _ _

attribute [local irreducible] boolK tmpK putT Env.getK Env.setK opsK condK pBin pFAddr callHas

section
variable {keep : Nat} {dr : Drs} {again : Code → CT} {e : Env} {fr : F} {h : H} {kN : KE} {kX : Nat → KE} {kR : KE} {kP : KQ}
structure Keeps (keep : Nat) : Prop where
  k9 : kept keep 9 = true
  k10 : kept keep 10 = true
  k36 : kept keep 36 = true
  k43 : kept keep 43 = true
  l35 : kept keep 35 = false
  l37 : kept keep 37 = false
  l38 : kept keep 38 = false
  l39 : kept keep 39 = false
  l40 : kept keep 40 = false
  l41 : kept keep 41 = false
  l42 : kept keep 42 = false
noncomputable abbrev sB (keep : Nat) (dr : Drs) : B := .mk (.mk cx0 callHas keep) .no dr .nil

theorem head_run (K : Keeps keep) {n : Nat} (h10 : e.look 10 = some (.s (.i .i64 (.ofNat n)))) {k : KE} {kp : KQ} :
    opsK [lo 10 0, lo 10 1] [lo 10 0, lo 10 1] (.mk cx0 callHas keep) .nil e fr h k kp = k (e.put 36 (.s (.b (Nat.blt n 4096)))) fr h := by
  rw [opsK_cons, i0.run]
  change tmpK _ _ _ 10 _ = _
  rw [tmpK_kept K.k10, Env.getK_look h10]
  change putT _ _ _ 35 _ _ = _
  rw [putT_local K.l35, opsK_cons, i1.run]
  change tmpK _ _ _ 35 _ = _
  rw [tmpK_local K.l35, cons_same]
  change pBin cx0 .lss 3 true (.s (.i .i64 (.ofNat n))) (.s (.i .i64 (.ofNat 4096))) _ = _
  rw [lss_run]
  change putT _ _ _ 36 _ _ = _
  rw [putT_kept K.k36, opsK_nil]

theorem mid_run (K : Keeps keep) {n pb po m : Nat} {c : Cs} {el fz : Nat} {ex : Bool} (h10 : e.look 10 = some (.s (.i .i64 (.ofNat n)))) (h9 : e.look 9 = some (.s (.p pb po))) (hh : h.at pb = some (.cells c el ex fz)) (hn : n < 4096) (hc : c.get (po + 1 + n / 8) = some (.i .u8 (.ofNat m))) (hm : m < 256) {k : KE} {kp : KQ} :
    opsK [lo 12 0, lo 12 1, lo 12 2, lo 12 3, lo 12 4] [lo 12 0, lo 12 1, lo 12 2, lo 12 3, lo 12 4] (.mk cx0 callHas keep) .nil e fr h k kp = k (e.put 43 (.s (.b (bitN m n)))) fr h := by
  rw [opsK_cons, i2.run]
  change tmpK _ _ _ 9 _ = _
  rw [tmpK_kept K.k9, Env.getK_look h9]
  change putT _ _ _ 39 _ _ = _
  rw [putT_local K.l39, opsK_cons, i3.run]
  change tmpK _ _ _ 39 _ = _
  rw [tmpK_local K.l39, cons_same]
  change putT _ _ _ 40 _ _ = _
  rw [putT_local K.l40, opsK_cons, i4.run]
  change tmpK _ _ _ 40 _ = _
  rw [tmpK_local K.l40, cons_same]
  change pFAddr cx0 262 (.s (.p pb po)) 1 _ = _
  rw [fa262]
  change putT _ _ _ 41 _ _ = _
  rw [putT_local K.l41, opsK_cons, i5.run]
  change tmpK _ _ _ 10 _ = _
  rw [tmpK_kept K.k10, Env.getK_look h10]
  change putT _ _ _ 42 _ _ = _
  rw [putT_local K.l42, opsK_cons, i6.run]
  change tmpK _ _ _ 41 _ = _
  rw [tmpK_local K.l41, cons_other rfl, cons_same]
  change tmpK _ _ _ 42 _ = _
  rw [tmpK_local K.l42, cons_same]
  change callHas 147 [.s (.p pb (po + 1)), .s (.i .i64 (.ofNat n))] h _ _ = _
  rw [has_run hh hn hc hm]
  change putT _ _ _ 43 _ _ = _
  rw [putT_kept K.k43, opsK_nil]
theorem tail_run (K : Keeps keep) {n : Nat} (h10 : e.look 10 = some (.s (.i .i64 (.ofNat n)))) (hn : n < 4096) {k : KE} {kp : KQ} :
    opsK [lo 11 0, lo 11 1, lo 11 2] [lo 11 0, lo 11 1, lo 11 2] (.mk cx0 callHas keep) .nil e fr h k kp = k (e.put 10 (.s (.i .i64 (.ofNat (n + 1))))) fr h := by
  rw [opsK_cons, i7.run]
  change tmpK _ _ _ 10 _ = _
  rw [tmpK_kept K.k10, Env.getK_look h10]
  change putT _ _ _ 37 _ _ = _
  rw [putT_local K.l37, opsK_cons, i8.run]
  change tmpK _ _ _ 37 _ = _
  rw [tmpK_local K.l37, cons_same]
  change pBin cx0 .add 3 true (.s (.i .i64 (.ofNat n))) (.s (.i .i64 (.ofNat 1))) _ = _
  rw [add_run hn]
  change putT _ _ _ 38 _ _ = _
  rw [putT_local K.l38, opsK_cons, i9.run]
  change tmpK _ _ _ 38 _ = _
  rw [tmpK_local K.l38, cons_same]
  change putT _ _ _ 10 _ _ = _
  rw [putT_kept K.k10, opsK_nil]
theorem cond_run {e : Env} {t : Nat} {b : Bool} (hk : kept keep t = true) (h1 : e.look t = some (.s (.b b))) {k : Bool → RT} : condK (.mk cx0 callHas keep) e (.tmp t) k = k b := by
  unfold condK
  change tmpK _ _ _ t _ = _
  rw [tmpK_kept hk, Env.getK_look h1]
  rfl

/-- One round. -/
theorem body_go (K : Keeps keep) {n pb po m : Nat} {c : Cs} {el fz : Nat} {ex : Bool} (h10 : e.look 10 = some (.s (.i .i64 (.ofNat n)))) (h9 : e.look 9 = some (.s (.p pb po))) (hh : h.at pb = some (.cells c el ex fz)) (hn : n < 4096) (hc : c.get (po + 1 + n / 8) = some (.i .u8 (.ofNat m))) (hm : m < 256) (hb : bitN m n = false) :
    codeE again sb (sB keep dr) e fr h kN kX kR kP = kN (scanE1 10 n 36 43 e) fr h := by
  change opsK [lo 10 0, lo 10 1] [lo 10 0, lo 10 1] (.mk cx0 callHas keep) .nil e fr h _ _ = _
  rw [head_run K h10]
  have hlt : Nat.blt n 4096 = true := by rw [blt_dec]; exact decide_eq_true hn
  rw [hlt]
  have l36 : (e.put 36 (.s (.b true))).look 36 = some (.s (.b true)) := by rw [Env.put_look]; rfl
  change condK (.mk cx0 callHas keep) (e.put 36 (.s (.b true))) (.tmp 36) _ = _
  rw [cond_run K.k36 l36]
  have h10' : (e.put 36 (.s (.b true))).look 10 = some (.s (.i .i64 (.ofNat n))) := by rw [Env.put_look]; exact h10
  have h9' : (e.put 36 (.s (.b true))).look 9 = some (.s (.p pb po)) := by rw [Env.put_look]; exact h9
  change opsK [lo 12 0, lo 12 1, lo 12 2, lo 12 3, lo 12 4] [lo 12 0, lo 12 1, lo 12 2, lo 12 3, lo 12 4] (.mk cx0 callHas keep) .nil (e.put 36 (.s (.b true))) fr h _ _ = _
  rw [mid_run K h10' h9' hh hn hc hm, hb]
  have l43 : ((e.put 36 (.s (.b true))).put 43 (.s (.b false))).look 43 = some (.s (.b false)) := by rw [Env.put_look]; rfl
  change condK (.mk cx0 callHas keep) ((e.put 36 (.s (.b true))).put 43 (.s (.b false))) (.tmp 43) _ = _
  rw [cond_run K.k43 l43]
  have h10'' : ((e.put 36 (.s (.b true))).put 43 (.s (.b false))).look 10 = some (.s (.i .i64 (.ofNat n))) := by rw [Env.put_look]; exact h10'
  change opsK [lo 11 0, lo 11 1, lo 11 2] [lo 11 0, lo 11 1, lo 11 2] (.mk cx0 callHas keep) .nil ((e.put 36 (.s (.b true))).put 43 (.s (.b false))) fr h _ _ = _
  rw [tail_run K h10'' hn]
  rfl
/-- The last one. -/
theorem body_stop (K : Keeps keep) (h10 : e.look 10 = some (.s (.i .i64 (.ofNat 4096)))) : codeE again sb (sB keep dr) e fr h kN kX kR kP = kX 0 (e.put 36 (.s (.b false))) fr h := by
  change opsK [lo 10 0, lo 10 1] [lo 10 0, lo 10 1] (.mk cx0 callHas keep) .nil e fr h _ _ = _
  rw [head_run K h10]
  have hlt : Nat.blt 4096 4096 = false := by rw [blt_dec]; rfl
  rw [hlt]
  have l36 : (e.put 36 (.s (.b false))).look 36 = some (.s (.b false)) := by rw [Env.put_look]; rfl
  change condK (.mk cx0 callHas keep) (e.put 36 (.s (.b false))) (.tmp 36) _ = _
  rw [cond_run K.k36 l36]
end

theorem scanB_cons {c : Cs} {off fuel n : Nat} {k : RT} {rv : RV} {rh : H} (e : scanB c off (fuel + 1) n k = .ok rv rh) : ∃ m, c.get (off + n / 8) = some (.i .u8 (.ofNat m)) ∧ m < 256 ∧ bitN m n = false ∧ scanB c off fuel (n + 1) k = .ok rv rh := by
  obtain ⟨v, hv, e1⟩ := onSome_ok (o := c.get (off + n / 8)) e
  obtain ⟨j, m, rfl, e2⟩ := onInt_ok e1
  obtain ⟨m, rfl, e3⟩ := iabs_ok e2
  obtain ⟨h1, e4⟩ | ⟨_, e4⟩ := ifB_ok e3
  · rw [andB_eq, andB_eq, Bool.and_eq_true, Bool.and_eq_true, Nat.blt_eq] at h1
    have := kindEq_spec h1.1.1; subst this
    rw [natK_eq] at e4
    refine ⟨m, hv, h1.1.2, ?_, e4⟩
    have h2 := h1.2
    rw [notB_eq] at h2
    simpa using h2
  · cases e4

/-- The loop. -/
theorem loop_run {keep : Nat} (K : Keeps keep) {dr : Drs} {fr : F} {h : H} {kN : KE} {kX : Nat → KE} {kR : KE} {kP : KQ} {rv : RV} {rh : H} {pb po : Nat} {c : Cs} {el fz : Nat} {ex : Bool} (hh : h.at pb = some (.cells c el ex fz)) :
    ∀ (fuel n : Nat) (e : Env), n + (fuel + 1) = 4096 → e.look 10 = some (.s (.i .i64 (.ofNat n))) → e.look 9 = some (.s (.p pb po)) → scanB c (po + 1) (fuel + 1) n (kX 0 (scanE 10 4096 36 43 e) fr h) = .ok rv rh →
      ∀ M, fuel + 2 ≤ M → codeR M (.loop sb) (sB keep dr) e fr h kN kX kR kP = .ok rv rh := by
  intro fuel
  induction fuel with
  | zero =>
    intro n e hn h10 h9 e1 M hM
    obtain ⟨m, hc, hm, hb, e2⟩ := scanB_cons e1
    obtain ⟨M, rfl⟩ : ∃ M', M = M' + 2 := ⟨M - 2, by omega⟩
    change codeE (codeR (M + 1)) sb (sB keep dr) e fr h (fun e fr h => codeE (codeR M) sb (sB keep dr) e fr h (fun e fr h => codeR M (.loop sb) (sB keep dr) e fr h kN kX kR kP) kX kR kP) kX kR kP = _
    rw [body_go K h10 h9 hh (by omega) hc hm hb]
    have h10' : (scanE1 10 n 36 43 e).look 10 = some (.s (.i .i64 (.ofNat 4096))) := by
      unfold scanE1
      rw [Env.put_look, if_pos rfl, show n + 1 = 4096 by omega]
    rw [body_stop K h10']
    have : (scanE1 10 n 36 43 e).put 36 (.s (.b false)) = scanE 10 4096 36 43 e := by
      unfold scanE1 scanE
      rw [show n + 1 = 4096 by omega]
    rw [this]
    exact e2
  | succ fuel ih =>
    intro n e hn h10 h9 e1 M hM
    obtain ⟨m, hc, hm, hb, e2⟩ := scanB_cons e1
    obtain ⟨M, rfl⟩ : ∃ M', M = M' + 1 := ⟨M - 1, by omega⟩
    change codeE (codeR M) sb (sB keep dr) e fr h (fun e fr h => codeR M (.loop sb) (sB keep dr) e fr h kN kX kR kP) kX kR kP = _
    rw [body_go K h10 h9 hh (by omega) hc hm hb]
    have h10' : (scanE1 10 n 36 43 e).look 10 = some (.s (.i .i64 (.ofNat (n + 1)))) := by unfold scanE1; rw [Env.put_look, if_pos rfl]
    have h9' : (scanE1 10 n 36 43 e).look 9 = some (.s (.p pb po)) := by unfold scanE1; rw [Env.put_look, if_neg (by decide), Env.put_look, if_neg (by decide), Env.put_look, if_neg (by decide)]; exact h9
    refine ih (n + 1) (scanE1 10 n 36 43 e) (by omega) h10' h9' ?_ M (by omega)
    rw [scanE_step (by decide) (by decide) (by decide) (by rw [h10]; simp)]
    exact e2

theorem scanHook {dm : Option Md} {N keep : Nat} {dr : Drs} {call : CallT} (K : Keeps keep) (hcode : CodeOk Tryz.prog dm N (sB keep dr) (.loop sb)) : HookA Tryz.prog dm N (.mk (.mk cx0 call keep) (.alt 0 (scanF 10 9 1 4096 36 43)) dr .nil) 0 (.loop sb) := by
  intro rv rh ρ e fr h a u w kN kX kR kP f hb F e1
  have hf : scanF 10 9 1 4096 36 43 = f := by injection hb
  subst hf
  obtain ⟨v, h10, e2⟩ := Env.getK_ok (n := 10) e1
  obtain ⟨v, rfl, e3⟩ := onS_ok e2
  obtain ⟨kd, n, rfl, e4⟩ := onInt_ok e3
  obtain ⟨n, rfl, e5⟩ := iabs_ok e4
  obtain ⟨hc, e6⟩ | ⟨_, e6⟩ := ifB_ok e5
  · rw [andB_eq, andB_eq, Bool.and_eq_true, Bool.and_eq_true, Nat.blt_eq] at hc
    have := kindEq_spec hc.1; subst this
    obtain ⟨v, h9, e7⟩ := Env.getK_ok (n := 9) e6
    obtain ⟨pb, po, rfl, e8⟩ := onPlace_ok e7
    obtain ⟨ob, hob, e9⟩ := getK_ok e8
    obtain ⟨c, el, ex, fz, rfl, e10⟩ := oCells_ok e9
    have hn := hc.2.1
    have e11 : scanB c (po + 1) (4096 - n) n (kN (scanE 10 4096 36 43 e) fr h) = .ok rv rh := by
      have : (e.setK 36 (.s (.b true)) fun e => e.setK 43 (.s (.b false)) fun e => e.setK 10 (.s (.i .i64 (.ofNat 4096))) fun e => e.setK 36 (.s (.b false)) fun e => kN e fr h) = kN (scanE 10 4096 36 43 e) fr h := by
        rw [Env.setK_put, Env.setK_put, Env.setK_put, Env.setK_put]; rfl
      rw [this] at e10
      exact e10
    obtain ⟨fuel, hfuel⟩ : ∃ fuel, 4096 - n = fuel + 1 := ⟨4096 - n - 1, by omega⟩
    rw [hfuel] at e11
    have e12 := loop_run K (dr := dr) (kN := kN) (kX := fun i => (Bool.rec (motive := fun _ => KE) (kX i) kN (Nat.beq i 0) : KE)) (kR := kR) (kP := kP) hob fuel n e (by omega) h10 h9 e11 (fuel + 2) (Nat.le_refl _)
    refine .block ((codeR_ok (fuel + 2) (.loop sb) hcode F e12).1.mono fun ex a' u' w' p => ?_)
    cases ex with
    | exit id' =>
      obtain ⟨e', fr', h', ρ', e4', f', s'⟩ := p
      have e4 : (Bool.rec (motive := fun _ => KE) (kX id') kN (Nat.beq id' 0) : KE) e' fr' h' = .ok rv rh := e4'
      show if id' = 0 then _ else _
      by_cases hid : id' = 0
      · rw [if_pos hid]
        have : Nat.beq id' 0 = true := by rw [hid]; rfl
        rw [this] at e4
        exact ⟨e', fr', h', ρ', e4, f', s'⟩
      · rw [if_neg hid]
        have : Nat.beq id' 0 = false := by rw [beq_dec]; simp [hid]
        rw [this] at e4
        exact ⟨e', fr', h', ρ', e4, f', s'⟩
    | _ => exact p
  · cases e6
end Go.Ev
end
