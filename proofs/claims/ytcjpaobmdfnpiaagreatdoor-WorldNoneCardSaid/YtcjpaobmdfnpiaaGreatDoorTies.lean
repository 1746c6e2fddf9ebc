/- Closed facts of the tie. Conditions: none. -/
import Derived.SevenTiedAt
import Derived.Test.YtcjpaobmdfnpiaaGreatDoorTieB
import Derived.Test.YtcjpaobmdfnpiaaGreatDoorTieC
import Derived.Test.YtcjpaobmdfnpiaaGreatDoorTieD
import Derived.Test.YtcjpaobmdfnpiaaGreatDoorTieE
import Derived.Test.YtcjpaobmdfnpiaaGreatDoorTieU
set_option linter.all false
section
/- The program's tie, in parts; each row's. Conditions: none. -/
namespace Go.Proofs.YtcjpaobmdfnpiaaGreatDoor
open Go
theorem pin_laid_unicode_utf8_first : Tryz.pinned.checked.prog.pinnedFits "unicode/utf8.first" = true := by kernel_rfl
theorem pin_laid_unicode_CaseRanges : Tryz.pinned.checked.prog.pinnedFits "unicode.CaseRanges" = true := by kernel_rfl
theorem noOwnUnsafe : Tryz.pinned.checked.prog.headLifts.contains "ownunsafe" = false := by kernel_rfl
theorem fits1 : Tryz.pinned.checked.prog.listedFits [("unicode/utf8.first", Rows.laid_unicode_utf8_first), ("unicode/utf8.acceptRanges", Rows.laid_unicode_utf8_acceptRanges), ("unicode.CaseRanges", Rows.laid_unicode_CaseRanges), ("strconv.ErrSyntax", Rows.laid_strconv_ErrSyntax), ("strconv.ErrRange", Rows.laid_strconv_ErrRange), ("internal/strconv.uint64pow10", Rows.laid_internal_strconv_uint64pow10), ("math/bits.deBruijn32tab", Rows.laid_math_bits_deBruijn32tab), ("math/bits.deBruijn64tab", Rows.laid_math_bits_deBruijn64tab), ("unicode.asciiFold", Rows.laid_unicode_asciiFold), ("unicode.caseOrbit", Rows.laid_unicode_caseOrbit)] = true := by
  unfold Program.listedFits
  rw [noOwnUnsafe]
  kernel_rfl
theorem doors_join {P : Program} {n fuel M : Nat} {laid : List (String × DataW Unit)} {os : Os} {tape : Tape} {A : List (String × DataW Unit)} {B : List (DataW (List UInt8))} {d1 : Stepped → Option (List (String × DataW Unit))} {d2 : Stepped → Bool} {d3 : Stepped → Option (List (DataW (List UInt8)))}
    (e1 : ∀ v w, d1 (.ended (.done v) w) = (DataW.laidRun P w.memory fuel ((laid.filter fun x => x.2.handleName?.isNone).map (·.1))).map (·.1))
    (n1 : ∀ R, (∀ v w, R ≠ .ended (.done v) w) → d1 R = none)
    (e2 : ∀ v w, d2 (.ended (.done v) w) = (DataW.laidRun P w.memory fuel ((laid.filter fun x => x.2.handleName?.isNone).map (·.1))).elim false fun x => nodupBits M x.2 0 && laidRowsB P w.memory x.2 && (laid.filter fun x => x.2.handleName?.isSome && x.2.funcsIn?.isNone).all (handleAtB P w.memory))
    (e3 : ∀ v w, d3 (.ended (.done v) w) = funcsRun P w.memory fuel ((funcsListed laid).map (·.1)))
    (h1 : d1 (runN P n (Machine.entering P (World.unlaid P os) tape (varsId P) ⟨#[], #[], []⟩)) = some A) (h2 : d2 (runN P n (Machine.entering P (World.unlaid P os) tape (varsId P) ⟨#[], #[], []⟩)) = true) (h3 : d3 (runN P n (Machine.entering P (World.unlaid P os) tape (varsId P) ⟨#[], #[], []⟩)) = some B) :
    doorLeaves P n fuel M laid os tape = some (A, B) := by
  unfold doorLeaves
  revert h1 h2 h3
  generalize runN P n (Machine.entering P (World.unlaid P os) tape (varsId P) ⟨#[], #[], []⟩) = R
  intro h1 h2 h3
  split
  · rename_i v w
    rw [e1] at h1
    rw [e2] at h2
    rw [e3] at h3
    generalize DataW.laidRun P w.memory fuel ((laid.filter fun x => x.2.handleName?.isNone).map (·.1)) = X at h1 h2 ⊢
    cases X with
    | none => cases h1
    | some x =>
      simp only [Option.map_some, Option.some.injEq] at h1
      simp only [Option.elim_some] at h2
      rw [Option.bind_some, if_pos h2, h3, h1]
      rfl
  · rename_i hn
    rw [n1 R fun v w e => hn v w e] at h1
    cases h1
theorem door1_none (R : Stepped) (h : ∀ v w, R ≠ .ended (.done v) w) : door1 R = none := by
  unfold door1
  split
  · exact absurd rfl (h _ _)
  · rfl
theorem trun (os : Os) (tape : Tape) : doorLeaves Tryz.prog 400 8 1000 laidT os tape = some (laidT.filter fun x => x.2.handleName?.isNone, (funcsListed laidT).map (·.2.funcsOut)) :=
  doors_join (d1 := door1) (d2 := door2) (d3 := door3) (fun _ _ => rfl) door1_none (fun _ _ => rfl) (fun _ _ => rfl) (by rw [unlaid_eq os]; exact trun1 os tape) (by rw [unlaid_eq os]; exact trun2 os tape) (by rw [unlaid_eq os]; exact trun3 os tape)
theorem tie : Tryz.prog.laidByTextLater laidT [.data, .sentinel, .sentinel, .data, .data, .data, .data, .data] true :=
  Program.laidByTextLater_by_one 400 8 1000 tw tw2 troot tk tg tn trun
theorem serveNone_row_tie : Rows.serveNoneRow.laidByTextAt .later Tryz.pinned [.pinned, .data, .pinned, .sentinel, .sentinel, .data, .data, .data, .data, .data] true :=
  OpenClaim.laidByTextAt_pinned rfl rfl tie rfl rfl rfl rfl (fun y hy _e => by
    simp only [Rows.serveNoneRow, List.zip_cons_cons, List.zip_nil_right, List.mem_cons, List.mem_nil_iff, or_false] at hy
    rcases hy with rfl | rfl | rfl | rfl | rfl | rfl | rfl | rfl | rfl | rfl
    · exact ⟨pin_laid_unicode_utf8_first, by kernel_rfl⟩
    · cases _e
    · exact ⟨pin_laid_unicode_CaseRanges, by kernel_rfl⟩
    · cases _e
    · cases _e
    · cases _e
    · cases _e
    · cases _e
    · cases _e
    · cases _e) fits1
theorem worldTicks_row_tie : Rows.worldTicksRow.laidByTextAt .later Tryz.pinned [.pinned, .data, .pinned, .sentinel, .sentinel, .data, .data, .data, .data, .data] true :=
  OpenClaim.laidByTextAt_pinned rfl rfl tie rfl rfl rfl rfl (fun y hy _e => by
    simp only [Rows.worldTicksRow, List.zip_cons_cons, List.zip_nil_right, List.mem_cons, List.mem_nil_iff, or_false] at hy
    rcases hy with rfl | rfl | rfl | rfl | rfl | rfl | rfl | rfl | rfl | rfl
    · exact ⟨pin_laid_unicode_utf8_first, by kernel_rfl⟩
    · cases _e
    · exact ⟨pin_laid_unicode_CaseRanges, by kernel_rfl⟩
    · cases _e
    · cases _e
    · cases _e
    · cases _e
    · cases _e
    · cases _e
    · cases _e) fits1
theorem worldNone_row_tie : Rows.worldNoneRow.laidByTextAt .later Tryz.pinned [.pinned, .data, .pinned, .sentinel, .sentinel, .data, .data, .data, .data, .data] true :=
  OpenClaim.laidByTextAt_pinned rfl rfl tie rfl rfl rfl rfl (fun y hy _e => by
    simp only [Rows.worldNoneRow, List.zip_cons_cons, List.zip_nil_right, List.mem_cons, List.mem_nil_iff, or_false] at hy
    rcases hy with rfl | rfl | rfl | rfl | rfl | rfl | rfl | rfl | rfl | rfl
    · exact ⟨pin_laid_unicode_utf8_first, by kernel_rfl⟩
    · cases _e
    · exact ⟨pin_laid_unicode_CaseRanges, by kernel_rfl⟩
    · cases _e
    · cases _e
    · cases _e
    · cases _e
    · cases _e
    · cases _e
    · cases _e) fits1
end Go.Proofs.YtcjpaobmdfnpiaaGreatDoor
end
