/-
  No cell of these rows narrows 'for every input' (looked for: loops, veiled, ifaces, maps, wideKeys, modest, calm, conditions, laid).
  DERIVED. THE GIVEN ROWS OF THIS SEAT. 4 by the template 'for every input the law returns true; each argument reads behind the call as it read before'; 0 by the template 'total and deterministic' (their statements: YtcbpfnplkdijpaaGreatTotals.lean).
  GIVEN WITH THE SEED: the statements are not yours to turn. If you find one false, say at which input.
  Laid BY PROGRAM, IN A SANDBOX (cutbox-rows.mjs): the forced cells as the released guide's own fill.sh prints them over the translation 1ffa2762b8c42ee8… (all of the seat's roots in one cut). By AI agents, Wed Nov 11 2026. No macro, syntax, notation, axiom, sorry.
-/
import Derived.Test.YtcbpfnplkdijpaaGreatChecked
import GoSem.Claim
import GoSem.ClaimJoined
import GoSem.ClaimMapViews
import Derived.JoinedTies
import Derived.KernelRfl
namespace Go.Proofs.YtcbpfnplkdijpaaGreat
/- THE CELL 'sum', in the pinned program and in every row, IS THE sha256 OF THE DUMP (.gsa) THAT YtcbpfnplkdijpaaGreatProg.lean LOADS. Nothing in Lean hashes anything: it is a label: what it is worth is what the hold of that sum in a sandbox is worth. -/
noncomputable def Tryz.pinned : Pinned := { name := "ytcbpfnplkdijpaagreat", sum := "1ffa2762b8c42ee81fd6f6002e77e3440d4bd84fa4d46211998ba7c3115d1168", checked := Tryz.checked }
namespace Rows
def none {H : Type} : Left H := { results := [], args := [] }

/-- 'parolelaw24.DependMatchesReference': WHATEVER THE INPUT: true; the input reads as it did. -/
def dependMatchesReferenceSpec : ChangeSpec := { name := "dependMatchesReference", fn := fun _ => fun
  | [d1, d2, d3] => { results := [.lit (.bool true)], args := [d1, d2, d3] }
  | _ => none }
def dependMatchesReferenceRow : OpenClaim := { program := "ytcbpfnplkdijpaagreat", sum := "1ffa2762b8c42ee81fd6f6002e77e3440d4bd84fa4d46211998ba7c3115d1168", func := "parole/parolelaw24.DependMatchesReference", spec := "dependMatchesReference", unfollowed := true, recurses := true, apart := false }
def DependMatchesReferenceSaid : Prop := dependMatchesReferenceRow.holds Tryz.pinned (OpenSpec.ofChange dependMatchesReferenceSpec)

/-- ITS FALSE NEIGHBOUR: 'it returns false'. Refute it at one input. -/
def dependMatchesReferenceWrong : ChangeSpec := { name := "dependMatchesReference", fn := fun _ => fun
  | [d1, d2, d3] => { results := [.lit (.bool false)], args := [d1, d2, d3] }
  | _ => none }
def DependMatchesReferenceWrongFalsely : Prop := dependMatchesReferenceRow.holds Tryz.pinned (OpenSpec.ofChange dependMatchesReferenceWrong)

/-- 'parolelaw24.DependChanges': WHATEVER THE INPUT: true; the input reads as it did. -/
def dependChangesSpec : ChangeSpec := { name := "dependChanges", fn := fun _ => fun
  | [d1, d2] => { results := [.lit (.bool true)], args := [d1, d2] }
  | _ => none }
def dependChangesRow : OpenClaim := { program := "ytcbpfnplkdijpaagreat", sum := "1ffa2762b8c42ee81fd6f6002e77e3440d4bd84fa4d46211998ba7c3115d1168", func := "parole/parolelaw24.DependChanges", spec := "dependChanges", unfollowed := true, recurses := true, apart := false }
def DependChangesSaid : Prop := dependChangesRow.holds Tryz.pinned (OpenSpec.ofChange dependChangesSpec)

/-- ITS FALSE NEIGHBOUR: 'it returns false'. Refute it at one input. -/
def dependChangesWrong : ChangeSpec := { name := "dependChanges", fn := fun _ => fun
  | [d1, d2] => { results := [.lit (.bool false)], args := [d1, d2] }
  | _ => none }
def DependChangesWrongFalsely : Prop := dependChangesRow.holds Tryz.pinned (OpenSpec.ofChange dependChangesWrong)

/-- 'parolelaw24.DependReopens': WHATEVER THE INPUT: true; the input reads as it did. -/
def dependReopensSpec : ChangeSpec := { name := "dependReopens", fn := fun _ => fun
  | [d1, d2] => { results := [.lit (.bool true)], args := [d1, d2] }
  | _ => none }
def dependReopensRow : OpenClaim := { program := "ytcbpfnplkdijpaagreat", sum := "1ffa2762b8c42ee81fd6f6002e77e3440d4bd84fa4d46211998ba7c3115d1168", func := "parole/parolelaw24.DependReopens", spec := "dependReopens", unfollowed := true, recurses := true, apart := false }
def DependReopensSaid : Prop := dependReopensRow.holds Tryz.pinned (OpenSpec.ofChange dependReopensSpec)

/-- ITS FALSE NEIGHBOUR: 'it returns false'. Refute it at one input. -/
def dependReopensWrong : ChangeSpec := { name := "dependReopens", fn := fun _ => fun
  | [d1, d2] => { results := [.lit (.bool false)], args := [d1, d2] }
  | _ => none }
def DependReopensWrongFalsely : Prop := dependReopensRow.holds Tryz.pinned (OpenSpec.ofChange dependReopensWrong)

/-- 'parolelaw24.DependNames': WHATEVER THE INPUT: true; the input reads as it did. -/
def dependNamesSpec : ChangeSpec := { name := "dependNames", fn := fun _ => fun
  | [d1, d2, d3] => { results := [.lit (.bool true)], args := [d1, d2, d3] }
  | _ => none }
def dependNamesRow : OpenClaim := { program := "ytcbpfnplkdijpaagreat", sum := "1ffa2762b8c42ee81fd6f6002e77e3440d4bd84fa4d46211998ba7c3115d1168", func := "parole/parolelaw24.DependNames", spec := "dependNames", unfollowed := true, recurses := true, apart := false }
def DependNamesSaid : Prop := dependNamesRow.holds Tryz.pinned (OpenSpec.ofChange dependNamesSpec)

/-- ITS FALSE NEIGHBOUR: 'it returns false'. Refute it at one input. -/
def dependNamesWrong : ChangeSpec := { name := "dependNames", fn := fun _ => fun
  | [d1, d2, d3] => { results := [.lit (.bool false)], args := [d1, d2, d3] }
  | _ => none }
def DependNamesWrongFalsely : Prop := dependNamesRow.holds Tryz.pinned (OpenSpec.ofChange dependNamesWrong)

/- THE SECOND FORM. 'bulk': how many values and letters a reading holds, each counted each time it is reached (what is shared counts as often as it is met; a slice's spare places count too). A statement '..UptoSaid' is the law's where the arguments, and the package variables that the reading takes, are together of bulk at most 1048576: NARROWER than '..Said'. Prove '..Said' where nothing that the law and all that it calls make is longer than what came in: it says more and counts as full. Else prove '..UptoSaid'. A law counts once. -/
mutual
def uptoBulk {H : Type} : DataW H → Nat
  | .lit (.string bytes) => bytes.length + 1
  | .lit _ => 1
  | .nil => 1
  | .ptr d => uptoBulk d + 1
  | .slice elems spare => uptoBulkAll elems + uptoBulkAll spare + 1
  | .agg parts => uptoBulkAll parts + 1
  | .iface _ d => uptoBulk d + 1
  | .map entries => uptoBulkEntries entries + 1
  | .held _ => 1
def uptoBulkAll {H : Type} : List (DataW H) → Nat
  | [] => 0
  | d :: r => uptoBulk d + uptoBulkAll r
def uptoBulkEntries {H : Type} : List (Lit × DataW H) → Nat
  | [] => 0
  | x :: r => uptoBulkEntry x + uptoBulkEntries r
def uptoBulkEntry {H : Type} : Lit × DataW H → Nat
  | (.string bytes, d) => bytes.length + uptoBulk d + 1
  | (_, d) => uptoBulk d + 1
 end
def uptoSmall : (H : Type) → List (DataW H) → Bool := fun _ ds => decide (uptoBulkAll ds ≤ 1048576)
def OpenSpec.upto (s : _root_.Go.ChangeSpec) : _root_.Go.OpenSpec := { _root_.Go.OpenSpec.ofChange s with cond := some uptoSmall }

/-- 'parolelaw24.DependMatchesReference', WHERE WHAT IT READS IS OF BULK AT MOST 1048576: true; the input reads as it did. -/
def dependMatchesReferenceUptoRow : OpenClaim := { program := "ytcbpfnplkdijpaagreat", sum := "1ffa2762b8c42ee81fd6f6002e77e3440d4bd84fa4d46211998ba7c3115d1168", func := "parole/parolelaw24.DependMatchesReference", spec := "dependMatchesReference", unfollowed := true, recurses := true, apart := false, narrowed := true }
def DependMatchesReferenceUptoSaid : Prop := dependMatchesReferenceUptoRow.holds Tryz.pinned (OpenSpec.upto dependMatchesReferenceSpec)

/-- 'parolelaw24.DependChanges', WHERE WHAT IT READS IS OF BULK AT MOST 1048576: true; the input reads as it did. -/
def dependChangesUptoRow : OpenClaim := { program := "ytcbpfnplkdijpaagreat", sum := "1ffa2762b8c42ee81fd6f6002e77e3440d4bd84fa4d46211998ba7c3115d1168", func := "parole/parolelaw24.DependChanges", spec := "dependChanges", unfollowed := true, recurses := true, apart := false, narrowed := true }
def DependChangesUptoSaid : Prop := dependChangesUptoRow.holds Tryz.pinned (OpenSpec.upto dependChangesSpec)

/-- 'parolelaw24.DependReopens', WHERE WHAT IT READS IS OF BULK AT MOST 1048576: true; the input reads as it did. -/
def dependReopensUptoRow : OpenClaim := { program := "ytcbpfnplkdijpaagreat", sum := "1ffa2762b8c42ee81fd6f6002e77e3440d4bd84fa4d46211998ba7c3115d1168", func := "parole/parolelaw24.DependReopens", spec := "dependReopens", unfollowed := true, recurses := true, apart := false, narrowed := true }
def DependReopensUptoSaid : Prop := dependReopensUptoRow.holds Tryz.pinned (OpenSpec.upto dependReopensSpec)

/-- 'parolelaw24.DependNames', WHERE WHAT IT READS IS OF BULK AT MOST 1048576: true; the input reads as it did. -/
def dependNamesUptoRow : OpenClaim := { program := "ytcbpfnplkdijpaagreat", sum := "1ffa2762b8c42ee81fd6f6002e77e3440d4bd84fa4d46211998ba7c3115d1168", func := "parole/parolelaw24.DependNames", spec := "dependNames", unfollowed := true, recurses := true, apart := false, narrowed := true }
def DependNamesUptoSaid : Prop := dependNamesUptoRow.holds Tryz.pinned (OpenSpec.upto dependNamesSpec)

end Rows
end Go.Proofs.YtcbpfnplkdijpaaGreat
