/-
  DependMatchesReference holds for every input: needs, whether two are the same, and what is re-opened are as in the reference. No condition.
-/
import Derived.Test.YtcbpfnplkdijpaaGreatRows
import Derived.Test.YtcbpfnplkdijpaaGreatT9
set_option linter.unusedVariables false
set_option linter.unusedSimpArgs false
namespace Go.Proofs.YtcbpfnplkdijpaaGreat.law1
open Go.ChangeShapes Go.WideShapes Go.ChangeAt Go.RowKit
theorem own : ownKnob Tryz.prog.godebug = none := by kernel_rfl
theorem laidOut : laidOutB Tryz.prog = true := by kernel_rfl
theorem spec (H : Type) : ∀ ds : List (DataW H), ds.length = 3 → Rows.dependMatchesReferenceSpec.fn H ds = { results := [.lit (.bool true)], args := ds }
  | [_, _, _], _ => rfl
set_option maxRecDepth 100000 in
theorem lifted (os : Os) (started : os.Started) (H : Type) (enc : TypeId × Value → H) :
    ReturnsInHanded {} Tryz.checked os 3 .any (Rows.dependMatchesReferenceSpec.pre6 enc Tryz.prog Tryz.f3 Rows.dependMatchesReferenceRow.domain false) (Rows.dependMatchesReferenceSpec.post enc Tryz.prog Tryz.f3 false true false false) := by
  refine returnsInHanded_of_change (C := Tryz.checked) own started (by kernel_rfl) Tryz.func3
    (ChangeSpec.witness6 (enc := enc) (C := Tryz.checked) false ⟨#[], #[.agg #[.slice none 0 0, .int .u8 0, .slice none 0 0, .int .u8 0, .int .u16 0, .int .u16 0, .int .u16 0, .int .u16 0, .int .u16 0, .int .u16 0, .int .u16 0, .int .u16 0], .slice none 0 0, .int .i64 0], []⟩ 8
      (by kernel_rfl) (by kernel_rfl) (by kernel_rfl) (by kernel_rfl)) ?_
  intro W base args ds gs before hval hW _ _
  exact Abs.law_calls (P := Tryz.prog) (f := 3) (fn := Tryz.f3) (ts := [29, 30, 3]) (ss := [Abs.caseS, .sl Abs.chS, .int .i64]) (s := Rows.dependMatchesReferenceSpec) (tb := 4)
    (by rw [Tryz.params3]) (by kernel_rfl) Tryz.underlying4 (by kernel_rfl) laidOut (by kernel_rfl) rfl (spec H) Abs.law1 hval hW
theorem holds : Rows.DependMatchesReferenceSaid :=
  OpenClaim.holds_of_wide 3 Tryz.f3 rfl rfl rfl rfl rfl rfl rfl ⟨rfl, rfl, rfl, rfl, rfl⟩ rfl rfl rfl rfl rfl (by kernel_rfl) Tryz.func3 (by kernel_rfl)
    (of_decide_eq_true (by kernel_rfl)) (by unfold Func.isWrapper; first | (rw [if_pos (by decide +kernel)]; kernel_rfl) | (rw [if_neg (by decide +kernel)]; exact ⟨rfl, rfl⟩))
    (fun os started H enc _ => lifted os started H enc)
end Go.Proofs.YtcbpfnplkdijpaaGreat.law1
