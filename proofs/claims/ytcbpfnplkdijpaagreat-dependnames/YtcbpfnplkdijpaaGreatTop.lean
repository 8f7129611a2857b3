/-
  DependNames holds for every input: another name, another firm, more definitions, fewer threads, and what is closed change no need of a definition. No condition.
-/
import Derived.Test.YtcbpfnplkdijpaaGreatRows
import Derived.Test.YtcbpfnplkdijpaaGreatT9
set_option linter.unusedVariables false
set_option linter.unusedSimpArgs false
namespace Go.Proofs.YtcbpfnplkdijpaaGreat.law4
open Go.ChangeShapes Go.WideShapes Go.ChangeAt Go.RowKit
theorem own : ownKnob Tryz.prog.godebug = none := by kernel_rfl
theorem laidOut : laidOutB Tryz.prog = true := by kernel_rfl
theorem spec (H : Type) : ∀ ds : List (DataW H), ds.length = 3 → Rows.dependNamesSpec.fn H ds = { results := [.lit (.bool true)], args := ds }
  | [_, _, _], _ => rfl
set_option maxRecDepth 100000 in
theorem lifted (os : Os) (started : os.Started) (H : Type) (enc : TypeId × Value → H) :
    ReturnsInHanded {} Tryz.checked os 6 .any (Rows.dependNamesSpec.pre6 enc Tryz.prog Tryz.f6 Rows.dependNamesRow.domain false) (Rows.dependNamesSpec.post enc Tryz.prog Tryz.f6 false true false false) := by
  refine returnsInHanded_of_change (C := Tryz.checked) own started (by kernel_rfl) Tryz.func6
    (ChangeSpec.witness6 (enc := enc) (C := Tryz.checked) false ⟨#[], #[.agg #[.slice none 0 0, .int .u8 0, .slice none 0 0, .int .u8 0, .int .u16 0, .int .u16 0, .int .u16 0, .int .u16 0, .int .u16 0, .int .u16 0, .int .u16 0, .int .u16 0], .bool false, .int .u8 0], []⟩ 8
      (by kernel_rfl) (by kernel_rfl) (by kernel_rfl) (by kernel_rfl)) ?_
  intro W base args ds gs before hval hW _ _
  exact Abs.law_calls (P := Tryz.prog) (f := 6) (fn := Tryz.f6) (ts := [29, 4, 5]) (ss := [Abs.caseS, .bool, .int .u8]) (s := Rows.dependNamesSpec) (tb := 4)
    (by rw [Tryz.params6]) (by kernel_rfl) Tryz.underlying4 (by kernel_rfl) laidOut (by kernel_rfl) rfl (spec H) Abs.law4 hval hW
theorem holds : Rows.DependNamesSaid :=
  OpenClaim.holds_of_wide 6 Tryz.f6 rfl rfl rfl rfl rfl rfl rfl ⟨rfl, rfl, rfl, rfl, rfl⟩ rfl rfl rfl rfl rfl (by kernel_rfl) Tryz.func6 (by kernel_rfl)
    (of_decide_eq_true (by kernel_rfl)) (by unfold Func.isWrapper; first | (rw [if_pos (by decide +kernel)]; kernel_rfl) | (rw [if_neg (by decide +kernel)]; exact ⟨rfl, rfl⟩))
    (fun os started H enc _ => lifted os started H enc)
end Go.Proofs.YtcbpfnplkdijpaaGreat.law4
