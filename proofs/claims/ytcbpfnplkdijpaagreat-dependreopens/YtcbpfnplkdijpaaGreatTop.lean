/-
  DependReopens holds for every input: after a change of one definition this one alone is re-opened, and none for a new name. No condition.
-/
import Derived.Test.YtcbpfnplkdijpaaGreatRows
import Derived.Test.YtcbpfnplkdijpaaGreatT9
set_option linter.unusedVariables false
set_option linter.unusedSimpArgs false
namespace Go.Proofs.YtcbpfnplkdijpaaGreat.law3
open Go.ChangeShapes Go.WideShapes Go.ChangeAt Go.RowKit
theorem own : ownKnob Tryz.prog.godebug = none := by kernel_rfl
theorem laidOut : laidOutB Tryz.prog = true := by kernel_rfl
theorem spec (H : Type) : ∀ ds : List (DataW H), ds.length = 2 → Rows.dependReopensSpec.fn H ds = { results := [.lit (.bool true)], args := ds }
  | [_, _], _ => rfl
set_option maxRecDepth 100000 in
theorem lifted (os : Os) (started : os.Started) (H : Type) (enc : TypeId × Value → H) :
    ReturnsInHanded {} Tryz.checked os 5 .any (Rows.dependReopensSpec.pre6 enc Tryz.prog Tryz.f5 Rows.dependReopensRow.domain false) (Rows.dependReopensSpec.post enc Tryz.prog Tryz.f5 false true false false) := by
  refine returnsInHanded_of_change (C := Tryz.checked) own started (by kernel_rfl) Tryz.func5
    (ChangeSpec.witness6 (enc := enc) (C := Tryz.checked) false ⟨#[], #[.agg #[.slice none 0 0, .int .u8 0, .slice none 0 0, .int .u8 0, .int .u16 0, .int .u16 0, .int .u16 0, .int .u16 0, .int .u16 0, .int .u16 0, .int .u16 0, .int .u16 0], .int .u8 0], []⟩ 8
      (by kernel_rfl) (by kernel_rfl) (by kernel_rfl) (by kernel_rfl)) ?_
  intro W base args ds gs before hval hW _ _
  exact Abs.law_calls (P := Tryz.prog) (f := 5) (fn := Tryz.f5) (ts := [29, 5]) (ss := [Abs.caseS, .int .u8]) (s := Rows.dependReopensSpec) (tb := 4)
    (by rw [Tryz.params5]) (by kernel_rfl) Tryz.underlying4 (by kernel_rfl) laidOut (by kernel_rfl) rfl (spec H) Abs.law3 hval hW
theorem holds : Rows.DependReopensSaid :=
  OpenClaim.holds_of_wide 5 Tryz.f5 rfl rfl rfl rfl rfl rfl rfl ⟨rfl, rfl, rfl, rfl, rfl⟩ rfl rfl rfl rfl rfl (by kernel_rfl) Tryz.func5 (by kernel_rfl)
    (of_decide_eq_true (by kernel_rfl)) (by unfold Func.isWrapper; first | (rw [if_pos (by decide +kernel)]; kernel_rfl) | (rw [if_neg (by decide +kernel)]; exact ⟨rfl, rfl⟩))
    (fun os started H enc _ => lifted os started H enc)
end Go.Proofs.YtcbpfnplkdijpaaGreat.law3
