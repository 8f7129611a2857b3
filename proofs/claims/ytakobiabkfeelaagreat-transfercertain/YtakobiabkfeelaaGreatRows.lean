/-
  No cell of these rows narrows 'for every input' (looked for: loops, veiled, ifaces, maps, wideKeys, modest, calm, conditions, laid).
  DERIVED. THE GIVEN ROWS OF THIS SEAT. 7 by the template 'for every input the law returns true; each argument reads behind the call as it read before'; 0 by the template 'total and deterministic' (their statements: YtakobiabkfeelaaGreatTotals.lean).
  GIVEN WITH THE SEED: the statements are not yours to turn. If you find one false, say at which input.
  Laid BY PROGRAM, IN A SANDBOX (cutbox-rows.mjs): the forced cells as the released guide's own fill.sh prints them over the translation 2d28cb8f01c17783… (all of the seat's roots in one cut). By AI agents, Wed Nov 11 2026. No macro, syntax, notation, axiom, sorry.
-/
import Derived.Test.YtakobiabkfeelaaGreatChecked
import GoSem.Claim
import GoSem.ClaimJoined
import GoSem.ClaimMapViews
import Derived.JoinedTies
import Derived.KernelRfl
namespace Go.Proofs.YtakobiabkfeelaaGreat
/- THE CELL 'sum', in the pinned program and in every row, IS THE sha256 OF THE DUMP (.gsa) THAT YtakobiabkfeelaaGreatProg.lean LOADS. Nothing in Lean hashes anything: it is a label: what it is worth is what the hold of that sum in a sandbox is worth. -/
noncomputable def Tryz.pinned : Pinned := { name := "ytakobiabkfeelaagreat", sum := "2d28cb8f01c17783bc65012535f43c0cb715ba29b020e3e0daafbc536fcef123", checked := Tryz.checked }
namespace Rows
def none {H : Type} : Left H := { results := [], args := [] }

/-- 'parolelaw15.TransferMatchesReference': WHATEVER THE INPUT: true; the input reads as it did. -/
def transferMatchesReferenceSpec : ChangeSpec := { name := "transferMatchesReference", fn := fun _ => fun
  | [d] => { results := [.lit (.bool true)], args := [d] }
  | _ => none }
def transferMatchesReferenceRow : OpenClaim := { program := "ytakobiabkfeelaagreat", sum := "2d28cb8f01c17783bc65012535f43c0cb715ba29b020e3e0daafbc536fcef123", func := "parole/parolelaw15.TransferMatchesReference", spec := "transferMatchesReference", inPlace := ["slices.overlaps[int]", "slices.overlaps[parole/api.Finding]", "slices.overlaps[parole/api.Pair]"], unfollowed := true, recurses := true, apart := false }
def TransferMatchesReferenceSaid : Prop := transferMatchesReferenceRow.holds Tryz.pinned (OpenSpec.ofChange transferMatchesReferenceSpec)

/-- ITS FALSE NEIGHBOUR: 'it returns false'. Refute it at one input. -/
def transferMatchesReferenceWrong : ChangeSpec := { name := "transferMatchesReference", fn := fun _ => fun
  | [d] => { results := [.lit (.bool false)], args := [d] }
  | _ => none }
def TransferMatchesReferenceWrongFalsely : Prop := transferMatchesReferenceRow.holds Tryz.pinned (OpenSpec.ofChange transferMatchesReferenceWrong)

/-- 'parolelaw15.TransferCertain': WHATEVER THE INPUT: true; the input reads as it did. -/
def transferCertainSpec : ChangeSpec := { name := "transferCertain", fn := fun _ => fun
  | [d] => { results := [.lit (.bool true)], args := [d] }
  | _ => none }
def transferCertainRow : OpenClaim := { program := "ytakobiabkfeelaagreat", sum := "2d28cb8f01c17783bc65012535f43c0cb715ba29b020e3e0daafbc536fcef123", func := "parole/parolelaw15.TransferCertain", spec := "transferCertain", inPlace := ["slices.overlaps[int]", "slices.overlaps[parole/api.Finding]", "slices.overlaps[parole/api.Pair]"], unfollowed := true, recurses := true, apart := false }
def TransferCertainSaid : Prop := transferCertainRow.holds Tryz.pinned (OpenSpec.ofChange transferCertainSpec)

/-- ITS FALSE NEIGHBOUR: 'it returns false'. Refute it at one input. -/
def transferCertainWrong : ChangeSpec := { name := "transferCertain", fn := fun _ => fun
  | [d] => { results := [.lit (.bool false)], args := [d] }
  | _ => none }
def TransferCertainWrongFalsely : Prop := transferCertainRow.holds Tryz.pinned (OpenSpec.ofChange transferCertainWrong)

/-- 'parolelaw15.TransferKinds': WHATEVER THE INPUT: true; the input reads as it did. -/
def transferKindsSpec : ChangeSpec := { name := "transferKinds", fn := fun _ => fun
  | [d] => { results := [.lit (.bool true)], args := [d] }
  | _ => none }
def transferKindsRow : OpenClaim := { program := "ytakobiabkfeelaagreat", sum := "2d28cb8f01c17783bc65012535f43c0cb715ba29b020e3e0daafbc536fcef123", func := "parole/parolelaw15.TransferKinds", spec := "transferKinds", inPlace := ["slices.overlaps[int]", "slices.overlaps[parole/api.Finding]", "slices.overlaps[parole/api.Pair]"], unfollowed := true, recurses := true, apart := false }
def TransferKindsSaid : Prop := transferKindsRow.holds Tryz.pinned (OpenSpec.ofChange transferKindsSpec)

/-- ITS FALSE NEIGHBOUR: 'it returns false'. Refute it at one input. -/
def transferKindsWrong : ChangeSpec := { name := "transferKinds", fn := fun _ => fun
  | [d] => { results := [.lit (.bool false)], args := [d] }
  | _ => none }
def TransferKindsWrongFalsely : Prop := transferKindsRow.holds Tryz.pinned (OpenSpec.ofChange transferKindsWrong)

/-- 'parolelaw15.TransferSums': WHATEVER THE INPUT: true; the input reads as it did. -/
def transferSumsSpec : ChangeSpec := { name := "transferSums", fn := fun _ => fun
  | [d1, d2] => { results := [.lit (.bool true)], args := [d1, d2] }
  | _ => none }
def transferSumsRow : OpenClaim := { program := "ytakobiabkfeelaagreat", sum := "2d28cb8f01c17783bc65012535f43c0cb715ba29b020e3e0daafbc536fcef123", func := "parole/parolelaw15.TransferSums", spec := "transferSums", inPlace := ["slices.overlaps[int]", "slices.overlaps[parole/api.Finding]", "slices.overlaps[parole/api.Pair]"], unfollowed := true, recurses := true, apart := false }
def TransferSumsSaid : Prop := transferSumsRow.holds Tryz.pinned (OpenSpec.ofChange transferSumsSpec)

/-- ITS FALSE NEIGHBOUR: 'it returns false'. Refute it at one input. -/
def transferSumsWrong : ChangeSpec := { name := "transferSums", fn := fun _ => fun
  | [d1, d2] => { results := [.lit (.bool false)], args := [d1, d2] }
  | _ => none }
def TransferSumsWrongFalsely : Prop := transferSumsRow.holds Tryz.pinned (OpenSpec.ofChange transferSumsWrong)

/-- 'parolelaw15.TransferFacts': WHATEVER THE INPUT: true; the input reads as it did. -/
def transferFactsSpec : ChangeSpec := { name := "transferFacts", fn := fun _ => fun
  | [d] => { results := [.lit (.bool true)], args := [d] }
  | _ => none }
def transferFactsRow : OpenClaim := { program := "ytakobiabkfeelaagreat", sum := "2d28cb8f01c17783bc65012535f43c0cb715ba29b020e3e0daafbc536fcef123", func := "parole/parolelaw15.TransferFacts", spec := "transferFacts", inPlace := ["slices.overlaps[int]", "slices.overlaps[parole/api.Finding]", "slices.overlaps[parole/api.Pair]"], unfollowed := true, recurses := true, apart := false }
def TransferFactsSaid : Prop := transferFactsRow.holds Tryz.pinned (OpenSpec.ofChange transferFactsSpec)

/-- ITS FALSE NEIGHBOUR: 'it returns false'. Refute it at one input. -/
def transferFactsWrong : ChangeSpec := { name := "transferFacts", fn := fun _ => fun
  | [d] => { results := [.lit (.bool false)], args := [d] }
  | _ => none }
def TransferFactsWrongFalsely : Prop := transferFactsRow.holds Tryz.pinned (OpenSpec.ofChange transferFactsWrong)

/-- 'parolelaw15.TransferLocks': WHATEVER THE INPUT: true; the input reads as it did. -/
def transferLocksSpec : ChangeSpec := { name := "transferLocks", fn := fun _ => fun
  | [d1, d2] => { results := [.lit (.bool true)], args := [d1, d2] }
  | _ => none }
def transferLocksRow : OpenClaim := { program := "ytakobiabkfeelaagreat", sum := "2d28cb8f01c17783bc65012535f43c0cb715ba29b020e3e0daafbc536fcef123", func := "parole/parolelaw15.TransferLocks", spec := "transferLocks", inPlace := ["slices.overlaps[int]", "slices.overlaps[parole/api.Finding]", "slices.overlaps[parole/api.Pair]"], unfollowed := true, recurses := true, apart := false }
def TransferLocksSaid : Prop := transferLocksRow.holds Tryz.pinned (OpenSpec.ofChange transferLocksSpec)

/-- ITS FALSE NEIGHBOUR: 'it returns false'. Refute it at one input. -/
def transferLocksWrong : ChangeSpec := { name := "transferLocks", fn := fun _ => fun
  | [d1, d2] => { results := [.lit (.bool false)], args := [d1, d2] }
  | _ => none }
def TransferLocksWrongFalsely : Prop := transferLocksRow.holds Tryz.pinned (OpenSpec.ofChange transferLocksWrong)

/-- 'parolelaw15.TransferSound': WHATEVER THE INPUT: true; the input reads as it did. -/
def transferSoundSpec : ChangeSpec := { name := "transferSound", fn := fun _ => fun
  | [d1, d2] => { results := [.lit (.bool true)], args := [d1, d2] }
  | _ => none }
def transferSoundRow : OpenClaim := { program := "ytakobiabkfeelaagreat", sum := "2d28cb8f01c17783bc65012535f43c0cb715ba29b020e3e0daafbc536fcef123", func := "parole/parolelaw15.TransferSound", spec := "transferSound", inPlace := ["slices.overlaps[int]", "slices.overlaps[parole/api.Finding]", "slices.overlaps[parole/api.Pair]"], unfollowed := true, recurses := true, apart := false }
def TransferSoundSaid : Prop := transferSoundRow.holds Tryz.pinned (OpenSpec.ofChange transferSoundSpec)

/-- ITS FALSE NEIGHBOUR: 'it returns false'. Refute it at one input. -/
def transferSoundWrong : ChangeSpec := { name := "transferSound", fn := fun _ => fun
  | [d1, d2] => { results := [.lit (.bool false)], args := [d1, d2] }
  | _ => none }
def TransferSoundWrongFalsely : Prop := transferSoundRow.holds Tryz.pinned (OpenSpec.ofChange transferSoundWrong)

/- THE SECOND FORM. 'bulk': how many values and letters a reading holds, each counted each time it is reached (what is shared counts as often as it is met; a slice's spare places count too). A statement '..UptoSaid' is the law's where the arguments, and the package variables that the reading takes, are together of bulk at most 1048576: NARROWER than '..Said'. Prove '..Said' where nothing that the law and all that it calls make is longer than what came in: it says more and counts as full. Else prove '..UptoSaid'. A law counts once. -/
mutual
def uptoBulk {H : Type} : DataW H → Nat
  | .lit (.string bytes) => bytes.length + 1
  | .lit _ => 1
  | .nil => 1
  | .ptr d => uptoBulk d + 1
  | .slice elems spare => uptoBulkAll elems + uptoBulkAll spare + 1
  | .agg parts => uptoBulkAll parts + 1
  | .iface _ d => uptoBulk d + 1
  | .map entries => uptoBulkEntries entries + 1
  | .held _ => 1
def uptoBulkAll {H : Type} : List (DataW H) → Nat
  | [] => 0
  | d :: r => uptoBulk d + uptoBulkAll r
def uptoBulkEntries {H : Type} : List (Lit × DataW H) → Nat
  | [] => 0
  | x :: r => uptoBulkEntry x + uptoBulkEntries r
def uptoBulkEntry {H : Type} : Lit × DataW H → Nat
  | (.string bytes, d) => bytes.length + uptoBulk d + 1
  | (_, d) => uptoBulk d + 1
 end
def uptoSmall : (H : Type) → List (DataW H) → Bool := fun _ ds => decide (uptoBulkAll ds ≤ 1048576)
def OpenSpec.upto (s : _root_.Go.ChangeSpec) : _root_.Go.OpenSpec := { _root_.Go.OpenSpec.ofChange s with cond := some uptoSmall }

/-- 'parolelaw15.TransferMatchesReference', WHERE WHAT IT READS IS OF BULK AT MOST 1048576: true; the input reads as it did. -/
def transferMatchesReferenceUptoRow : OpenClaim := { program := "ytakobiabkfeelaagreat", sum := "2d28cb8f01c17783bc65012535f43c0cb715ba29b020e3e0daafbc536fcef123", func := "parole/parolelaw15.TransferMatchesReference", spec := "transferMatchesReference", inPlace := ["slices.overlaps[int]", "slices.overlaps[parole/api.Finding]", "slices.overlaps[parole/api.Pair]"], unfollowed := true, recurses := true, apart := false, narrowed := true }
def TransferMatchesReferenceUptoSaid : Prop := transferMatchesReferenceUptoRow.holds Tryz.pinned (OpenSpec.upto transferMatchesReferenceSpec)

/-- 'parolelaw15.TransferCertain', WHERE WHAT IT READS IS OF BULK AT MOST 1048576: true; the input reads as it did. -/
def transferCertainUptoRow : OpenClaim := { program := "ytakobiabkfeelaagreat", sum := "2d28cb8f01c17783bc65012535f43c0cb715ba29b020e3e0daafbc536fcef123", func := "parole/parolelaw15.TransferCertain", spec := "transferCertain", inPlace := ["slices.overlaps[int]", "slices.overlaps[parole/api.Finding]", "slices.overlaps[parole/api.Pair]"], unfollowed := true, recurses := true, apart := false, narrowed := true }
def TransferCertainUptoSaid : Prop := transferCertainUptoRow.holds Tryz.pinned (OpenSpec.upto transferCertainSpec)

/-- 'parolelaw15.TransferKinds', WHERE WHAT IT READS IS OF BULK AT MOST 1048576: true; the input reads as it did. -/
def transferKindsUptoRow : OpenClaim := { program := "ytakobiabkfeelaagreat", sum := "2d28cb8f01c17783bc65012535f43c0cb715ba29b020e3e0daafbc536fcef123", func := "parole/parolelaw15.TransferKinds", spec := "transferKinds", inPlace := ["slices.overlaps[int]", "slices.overlaps[parole/api.Finding]", "slices.overlaps[parole/api.Pair]"], unfollowed := true, recurses := true, apart := false, narrowed := true }
def TransferKindsUptoSaid : Prop := transferKindsUptoRow.holds Tryz.pinned (OpenSpec.upto transferKindsSpec)

/-- 'parolelaw15.TransferSums', WHERE WHAT IT READS IS OF BULK AT MOST 1048576: true; the input reads as it did. -/
def transferSumsUptoRow : OpenClaim := { program := "ytakobiabkfeelaagreat", sum := "2d28cb8f01c17783bc65012535f43c0cb715ba29b020e3e0daafbc536fcef123", func := "parole/parolelaw15.TransferSums", spec := "transferSums", inPlace := ["slices.overlaps[int]", "slices.overlaps[parole/api.Finding]", "slices.overlaps[parole/api.Pair]"], unfollowed := true, recurses := true, apart := false, narrowed := true }
def TransferSumsUptoSaid : Prop := transferSumsUptoRow.holds Tryz.pinned (OpenSpec.upto transferSumsSpec)

/-- 'parolelaw15.TransferFacts', WHERE WHAT IT READS IS OF BULK AT MOST 1048576: true; the input reads as it did. -/
def transferFactsUptoRow : OpenClaim := { program := "ytakobiabkfeelaagreat", sum := "2d28cb8f01c17783bc65012535f43c0cb715ba29b020e3e0daafbc536fcef123", func := "parole/parolelaw15.TransferFacts", spec := "transferFacts", inPlace := ["slices.overlaps[int]", "slices.overlaps[parole/api.Finding]", "slices.overlaps[parole/api.Pair]"], unfollowed := true, recurses := true, apart := false, narrowed := true }
def TransferFactsUptoSaid : Prop := transferFactsUptoRow.holds Tryz.pinned (OpenSpec.upto transferFactsSpec)

/-- 'parolelaw15.TransferLocks', WHERE WHAT IT READS IS OF BULK AT MOST 1048576: true; the input reads as it did. -/
def transferLocksUptoRow : OpenClaim := { program := "ytakobiabkfeelaagreat", sum := "2d28cb8f01c17783bc65012535f43c0cb715ba29b020e3e0daafbc536fcef123", func := "parole/parolelaw15.TransferLocks", spec := "transferLocks", inPlace := ["slices.overlaps[int]", "slices.overlaps[parole/api.Finding]", "slices.overlaps[parole/api.Pair]"], unfollowed := true, recurses := true, apart := false, narrowed := true }
def TransferLocksUptoSaid : Prop := transferLocksUptoRow.holds Tryz.pinned (OpenSpec.upto transferLocksSpec)

/-- 'parolelaw15.TransferSound', WHERE WHAT IT READS IS OF BULK AT MOST 1048576: true; the input reads as it did. -/
def transferSoundUptoRow : OpenClaim := { program := "ytakobiabkfeelaagreat", sum := "2d28cb8f01c17783bc65012535f43c0cb715ba29b020e3e0daafbc536fcef123", func := "parole/parolelaw15.TransferSound", spec := "transferSound", inPlace := ["slices.overlaps[int]", "slices.overlaps[parole/api.Finding]", "slices.overlaps[parole/api.Pair]"], unfollowed := true, recurses := true, apart := false, narrowed := true }
def TransferSoundUptoSaid : Prop := transferSoundUptoRow.holds Tryz.pinned (OpenSpec.upto transferSoundSpec)

end Rows
end Go.Proofs.YtakobiabkfeelaaGreat
