/-
  DependChanges holds for every input: what changes the need of a definition, and what does not. No condition.
-/
import Derived.Test.YtcbpfnplkdijpaaGreatRows
import Derived.Test.YtcbpfnplkdijpaaGreatT9
set_option linter.unusedVariables false
set_option linter.unusedSimpArgs false
namespace Go.Proofs.YtcbpfnplkdijpaaGreat.law2
open Go.ChangeShapes Go.WideShapes Go.ChangeAt Go.RowKit
theorem own : ownKnob Tryz.prog.godebug = none := by kernel_rfl
theorem laidOut : laidOutB Tryz.prog = true := by kernel_rfl
theorem spec (H : Type) : ∀ ds : List (DataW H), ds.length = 2 → Rows.dependChangesSpec.fn H ds = { results := [.lit (.bool true)], args := ds }
  | [_, _], _ => rfl
set_option maxRecDepth 100000 in
theorem lifted (os : Os) (started : os.Started) (H : Type) (enc : TypeId × Value → H) :
    ReturnsInHanded {} Tryz.checked os 4 .any (Rows.dependChangesSpec.pre6 enc Tryz.prog Tryz.f4 Rows.dependChangesRow.domain false) (Rows.dependChangesSpec.post enc Tryz.prog Tryz.f4 false true false false) := by
  refine returnsInHanded_of_change (C := Tryz.checked) own started (by kernel_rfl) Tryz.func4
    (ChangeSpec.witness6 (enc := enc) (C := Tryz.checked) false ⟨#[], #[.agg #[.slice none 0 0, .int .u8 0, .slice none 0 0, .int .u8 0, .int .u16 0, .int .u16 0, .int .u16 0, .int .u16 0, .int .u16 0, .int .u16 0, .int .u16 0, .int .u16 0], .int .u8 0], []⟩ 8
      (by kernel_rfl) (by kernel_rfl) (by kernel_rfl) (by kernel_rfl)) ?_
  intro W base args ds gs before hval hW _ _
  exact Abs.law_calls (P := Tryz.prog) (f := 4) (fn := Tryz.f4) (ts := [29, 5]) (ss := [Abs.caseS, .int .u8]) (s := Rows.dependChangesSpec) (tb := 4)
    (by rw [Tryz.params4]) (by kernel_rfl) Tryz.underlying4 (by kernel_rfl) laidOut (by kernel_rfl) rfl (spec H) Abs.law2 hval hW
theorem holds : Rows.DependChangesSaid :=
  OpenClaim.holds_of_wide 4 Tryz.f4 rfl rfl rfl rfl rfl rfl rfl ⟨rfl, rfl, rfl, rfl, rfl⟩ rfl rfl rfl rfl rfl (by kernel_rfl) Tryz.func4 (by kernel_rfl)
    (of_decide_eq_true (by kernel_rfl)) (by unfold Func.isWrapper; first | (rw [if_pos (by decide +kernel)]; kernel_rfl) | (rw [if_neg (by decide +kernel)]; exact ⟨rfl, rfl⟩))
    (fun os started H enc _ => lifted os started H enc)
end Go.Proofs.YtcbpfnplkdijpaaGreat.law2
