/- The row of WorldNone. Conditions: none. -/
import Derived.Test.YtcjpaobmdfnpiaaGreatDoorRows
import Derived.ProofKit
import Derived.Lay
import Derived.PinnedBridge
import Derived.HandedShaped
import Derived.Shelf.Vars
import Derived.Lib.LaidU8
import Derived.LaidOnce
import Derived.Test.YtcjpaobmdfnpiaaGreatDoorNil
import Derived.Test.YtcjpaobmdfnpiaaGreatDoorEv8
import Derived.Test.YtcjpaobmdfnpiaaGreatDoorFactA
import Derived.Test.YtcjpaobmdfnpiaaGreatDoorFactF
import Derived.Test.YtcjpaobmdfnpiaaGreatDoorFactL
import Derived.Test.YtcjpaobmdfnpiaaGreatDoorFactM
import Derived.Test.YtcjpaobmdfnpiaaGreatDoorFactB
import Derived.Test.YtcjpaobmdfnpiaaGreatDoorFactN
import Derived.Test.YtcjpaobmdfnpiaaGreatDoorFactO
set_option linter.all false
section
/- THE ROW OF docketlaw21.WorldNone. -/
set_option linter.unusedVariables false
namespace Go
variable {H : Type} {enc : TypeId × Value → H}
/-- The wrap for a row that lists variables, the world's shape kept. -/
theorem returnsInHanded_of_change_and_shaped {a : Assume} {C : Checked} {os : Os} {f : FuncId} {fn : Func} {s : ChangeSpec} {conds : List PathCond} {apart fresh handsOn again : Bool} {X : World → Array Value → Prop}
    (hX : ∀ (w w' : World) (args : Array Value), w.heap = w'.heap → X w args → X w' args)
    (own : ownKnob C.prog.godebug = none) (started : os.Started) (noInit : C.prog.inits.idxOf? f = none) (hfn : C.prog.funcs[f]? = some fn)
    (witness : ∃ (w : World) (tape : Tape) (i : Input), w.os = os ∧ (w.forCall tape i).Shaped C.prog ∧ i.vars = [] ∧ Input.okWide C.prog (w.forCall tape i) .any w.heap.size f i ∧
      ((s.pre enc C.prog fn conds apart (w.forCall tape i).memory i.args ∧ X (w.forCall tape i).memory i.args) ∧ sizedMet enc C.prog fn (OpenSpec.ofChange s) apart (w.forCall tape i).memory i.args) ∧ a.holds C.prog (lone (Frame.enter C.prog f i.args .normal) [] (w.forCall tape i)))
    (contract : ∀ (W : World) (base : Nat) (args : Array Value) (ds gs : List (DataW H)) (before : List MemPlace),
      (∀ (j : Nat) t v, fn.params[j]? = some t → args[j]? = some v → Value.okWide C.prog W .any base t v) →
      DataW.Whole enc C.prog fn.params.toList s.vars apart W args.toList ds gs before →
      X W args → W.ShapedOpen C.prog →
      Calls C.prog f args W fun e W' => ∃ v, e = .returned v ∧ s.post enc C.prog fn apart fresh handsOn again W args v W') :
    ReturnsInHanded a C os f .any (fun w args => (s.pre enc C.prog fn conds apart w args ∧ X w args) ∧ sizedMet enc C.prog fn (OpenSpec.ofChange s) apart w args) (s.post enc C.prog fn apart fresh handsOn again) := by
  refine returnsInHanded_of_calls own started noInit witness ?_
  intro w tape i _ hsh _ hok hpre hholds
  obtain ⟨_, _, _, fn', hfn', _, _, _, _, hval⟩ := hok
  have e : fn' = fn := Option.some.inj (hfn'.symm.trans hfn)
  subst e
  obtain ⟨⟨⟨ds, gs, before, hw, hc⟩, hx⟩, hz⟩ := hpre
  have hw' := DataW.Whole.of_heap (w' := w.forCall tape i) (by rfl) hw
  refine (contract (w.forCall tape i) w.heap.size i.args ds gs before hval hw' (hX _ _ _ (by rfl) hx) hsh).mono fun e W' ⟨v, he, hp⟩ => ?_
  subst he
  exact ChangeSpec.post_blind hp
end Go
namespace Go.Proofs.YtcjpaobmdfnpiaaGreatDoor
open Go.ChangeShapes Go.WideShapes Go.ChangeAt Go.RowKit Go.Lib
/-- The two blocks that the library's number texts read. -/
theorem freeC_of {W : World} (hL : laidMetH Tryz.prog Rows.worldNoneRow.laid W) (hS : W.ShapedOpen Tryz.prog) : Go.Ev.FreeC W.heap := by
  rw [MakeChecks.laidMetH_plain _ _ _ nL5] at hL
  constructor
  · obtain ⟨m, hm⟩ := cell_of_shapedOpen_int (g := 3) (t := 3) (zero := #[.int .i64 0]) (k := .i64) hS nW9 nW8 rfl nW10 nW11 (by kernel_rfl)
    simp only [World.cell?] at hm
    cases h : W.heap[3]? with
    | none => simp [h] at hm
    | some o =>
      cases o with
      | cells c t fr => exact ⟨m, c, t, fr, h, by simpa [h] using hm⟩
      | _ => simp [h] at hm
  · obtain ⟨g, t, cs, fuel, p, hg, hty, hvar, hd⟩ := laidMet.reads hL (n := "internal/strconv.uint64pow10") (d := tabData .u64 ((List.range 20).map fun i => ((10 ^ i : Nat) : Int))) (.tail _ (.tail _ (.tail _ (.tail _ (.tail _ (.head _))))))
    obtain rfl := Option.some.inj (nW12.symm.trans hg)
    obtain rfl := Option.some.inj (nW13.symm.trans hty)
    have hcs := cells_of_tab (show Tryz.prog.underlying 558 = some (.array 20 292) by kernel_rfl) (show Tryz.prog.underlying 292 = some (.int .u64) by kernel_rfl) (by kernel_rfl) (by kernel_rfl) hd
    unfold World.var? at hvar
    rw [hg] at hvar
    simp only [Option.bind_some] at hvar
    cases h : W.heap[2]? with
    | none => simp [h] at hvar
    | some o =>
      cases o with
      | cells c t fr =>
        simp only [h, Option.some.injEq] at hvar
        subst hvar
        refine ⟨c, t, fr, h, fun i hi => ?_⟩
        rw [← Array.getElem?_toList, hcs]
        simp [hi]
      | _ => simp [h] at hvar
set_option maxRecDepth 100000 in
theorem worldNone_lifted (os : Os) (started : os.Started) (H : Type) (enc : TypeId × Value → H)
    (fixed : ∀ {w : World}, Go.Ev.FreeC w.heap → Calls Tryz.prog 16 #[] w fun e w' => e = .returned (.bool true) ∧ Go.Ev.FreeC w'.heap ∧ RowKit.Below w.heap.size w w') :
    ReturnsInHanded {} Tryz.checked os 5 .any (fun w args => (Rows.worldNoneSpec.pre enc Tryz.prog Tryz.f5 [] false w args ∧ laidMetH Tryz.prog Rows.worldNoneRow.laid w) ∧ sizedMet enc Tryz.prog Tryz.f5 (OpenSpec.ofChange Rows.worldNoneSpec) false w args)
      (Rows.worldNoneSpec.post enc Tryz.prog Tryz.f5 false true false false) := by
  refine returnsInHanded_of_change_and_shaped (C := Tryz.checked) (X := fun w _ => laidMetH Tryz.prog Rows.worldNoneRow.laid w) (fun _ _ _ hh h => h.of_heap hh) own started nL6 Tryz.func5
    (ChangeSpec.witness_shaped (enc := enc) (C := Tryz.checked) (os := os) (X := fun w _ => laidMetH Tryz.prog Rows.worldNoneRow.laid w) false (World.laidAll Tryz.prog os Rows.worldNoneRow.laid) #[.agg #[.int .i64 0, .int .i64 0, .string ⟨#[]⟩, .int .i64 0, .slice none 0 0, .slice none 0 0]] 8 (World.laidAll_os _ _ _)
      (World.shaped_of_ZipB (nW1 os) (nW2 os)) (nW3 os) (nW4 os H enc) (nW5 os H enc)
      (by rw [MakeChecks.laidMetH_plain _ _ _ nL5]; exact laidMet_laidAll _ (nW6 os) (nW7 os))) ?_
  intro W base args ds gs before hval0 hW hL hS
  have hval : ∀ (j : Nat) t v, Tryz.f5.params[j]? = some t → args[j]? = some v → Value.okWide Tryz.prog W .any base t v := hval0
  have hW' := hW
  obtain ⟨p, q, hA0, hV, rfl, _, _⟩ := hW
  have hA : DataW.TrodAll enc Tryz.prog W 0 (fun _ => true) true Tryz.f5.params.toList args.toList ds p := hA0
  rw [Tryz.params5] at hA hval
  obtain ⟨v0, d0, rfl, rfl, h0⟩ := trodAll_one hA
  obtain ⟨rfl, rfl⟩ := trodVars_none hV
  obtain ⟨cs, rfl, hsz⟩ := okWide_struct Tryz.underlying49 (hval 0 49 v0 rfl rfl)
  rw [show Tryz.prog.cellsOf 49 = 6 by kernel_rfl] at hsz
  obtain ⟨k, c, d, n, kp, fu, rfl⟩ : ∃ k c d n kp fu, cs = #[k, c, d, n, kp, fu] := by
    rcases cs with ⟨l⟩
    match l, hsz with
    | [k, c, d, n, kp, fu], _ => exact ⟨k, c, d, n, kp, fu, rfl⟩
  simp only [List.append_nil] at hW'
  have hlt : ∀ x ∈ p, x.block < W.heap.size := fun x hx => by simpa using hW'.lt x hx
  have hF := freeC_of hL hS
  have hF1 : Go.Ev.FreeC (W.alloc (.cells #[k, c, d, n, kp, fu] 49)).heap := by
    obtain ⟨⟨m, c0, t0, f0, e0, e1⟩, ⟨c1, t1, f1, e2, e3⟩⟩ := hF
    exact ⟨⟨m, c0, t0, f0, (Below.heap_alloc W _ _ (Array.getElem?_eq_some_iff.1 e0).1).trans e0, e1⟩, ⟨c1, t1, f1, (Below.heap_alloc W _ _ (Array.getElem?_eq_some_iff.1 e2).1).trans e2, e3⟩⟩
  refine (Tryz.noneWalk k c d n kp fu W ((fixed hF1).mono fun e w' ⟨h1, _, h3⟩ => ⟨h1, h3⟩)).mono fun e W' ⟨he, hb⟩ => ?_
  subst he
  exact ⟨_, rfl, _, _, _, [], p, [], hW', trodAll_mk1 (shut_bool Tryz.underlying4 _), trodAll_mk1 (Below.trod laidOut nL7 (of_decide_eq_true (by kernel_rfl)) h0 hb hlt), rfl, hb.frame _, fun h => by cases h⟩
end Go.Proofs.YtcjpaobmdfnpiaaGreatDoor
end
