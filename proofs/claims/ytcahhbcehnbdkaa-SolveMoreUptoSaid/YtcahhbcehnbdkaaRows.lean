/-
  No cell of these rows narrows 'for every input' (looked for: loops, veiled, ifaces, maps, wideKeys, modest, calm, conditions, laid).
  DERIVED. THE GIVEN ROWS OF THIS SEAT. 7 by the template 'for every input the law returns true; each argument reads behind the call as it read before'; 0 by the template 'total and deterministic' (their statements: YtcahhbcehnbdkaaTotals.lean).
  GIVEN WITH THE SEED: the statements are not yours to turn. If you find one false, say at which input.
  Laid BY PROGRAM, IN A SANDBOX (cutbox-rows.mjs): the forced cells as the released guide's own fill.sh prints them over the translation 426bbb954d1651c8… (all of the seat's roots in one cut). By AI agents, Wed Nov 11 2026. No macro, syntax, notation, axiom, sorry.
-/
import Derived.Test.YtcahhbcehnbdkaaChecked
import GoSem.Claim
import GoSem.ClaimJoined
import GoSem.ClaimMapViews
import Derived.JoinedTies
import Derived.KernelRfl
namespace Go.Proofs.Ytcahhbcehnbdkaa
/- THE CELL 'sum', in the pinned program and in every row, IS THE sha256 OF THE DUMP (.gsa) THAT YtcahhbcehnbdkaaProg.lean LOADS. Nothing in Lean hashes anything: it is a label: what it is worth is what the hold of that sum in a sandbox is worth. -/
noncomputable def Try.pinned : Pinned := { name := "ytcahhbcehnbdkaa", sum := "426bbb954d1651c892aa587cf221ed4645635f565ac2f4538c69f61e64e0a410", checked := Try.checked }
namespace Rows
def none {H : Type} : Left H := { results := [], args := [] }

/-- 'retargetlaw05.SolveChecks': WHATEVER THE INPUT: true; the input reads as it did. -/
def solveChecksSpec : ChangeSpec := { name := "solveChecks", fn := fun _ => fun
  | [d1, d2, d3, d4] => { results := [.lit (.bool true)], args := [d1, d2, d3, d4] }
  | _ => none }
def solveChecksRow : OpenClaim := { program := "ytcahhbcehnbdkaa", sum := "426bbb954d1651c892aa587cf221ed4645635f565ac2f4538c69f61e64e0a410", func := "retarget/retargetlaw05.SolveChecks", spec := "solveChecks", unfollowed := true, recurses := true, apart := false }
def SolveChecksSaid : Prop := solveChecksRow.holds Try.pinned (OpenSpec.ofChange solveChecksSpec)

/-- ITS FALSE NEIGHBOUR: 'it returns false'. Refute it at one input. -/
def solveChecksWrong : ChangeSpec := { name := "solveChecks", fn := fun _ => fun
  | [d1, d2, d3, d4] => { results := [.lit (.bool false)], args := [d1, d2, d3, d4] }
  | _ => none }
def SolveChecksWrongFalsely : Prop := solveChecksRow.holds Try.pinned (OpenSpec.ofChange solveChecksWrong)

/-- 'retargetlaw05.SolveAnswers': WHATEVER THE INPUT: true; the input reads as it did. -/
def solveAnswersSpec : ChangeSpec := { name := "solveAnswers", fn := fun _ => fun
  | [d1, d2, d3] => { results := [.lit (.bool true)], args := [d1, d2, d3] }
  | _ => none }
def solveAnswersRow : OpenClaim := { program := "ytcahhbcehnbdkaa", sum := "426bbb954d1651c892aa587cf221ed4645635f565ac2f4538c69f61e64e0a410", func := "retarget/retargetlaw05.SolveAnswers", spec := "solveAnswers", unfollowed := true, recurses := true, apart := false }
def SolveAnswersSaid : Prop := solveAnswersRow.holds Try.pinned (OpenSpec.ofChange solveAnswersSpec)

/-- ITS FALSE NEIGHBOUR: 'it returns false'. Refute it at one input. -/
def solveAnswersWrong : ChangeSpec := { name := "solveAnswers", fn := fun _ => fun
  | [d1, d2, d3] => { results := [.lit (.bool false)], args := [d1, d2, d3] }
  | _ => none }
def SolveAnswersWrongFalsely : Prop := solveAnswersRow.holds Try.pinned (OpenSpec.ofChange solveAnswersWrong)

/-- 'retargetlaw05.SolveMore': WHATEVER THE INPUT: true; the input reads as it did. -/
def solveMoreSpec : ChangeSpec := { name := "solveMore", fn := fun _ => fun
  | [d1, d2, d3, d4] => { results := [.lit (.bool true)], args := [d1, d2, d3, d4] }
  | _ => none }
def solveMoreRow : OpenClaim := { program := "ytcahhbcehnbdkaa", sum := "426bbb954d1651c892aa587cf221ed4645635f565ac2f4538c69f61e64e0a410", func := "retarget/retargetlaw05.SolveMore", spec := "solveMore", unfollowed := true, recurses := true, apart := false }
def SolveMoreSaid : Prop := solveMoreRow.holds Try.pinned (OpenSpec.ofChange solveMoreSpec)

/-- ITS FALSE NEIGHBOUR: 'it returns false'. Refute it at one input. -/
def solveMoreWrong : ChangeSpec := { name := "solveMore", fn := fun _ => fun
  | [d1, d2, d3, d4] => { results := [.lit (.bool false)], args := [d1, d2, d3, d4] }
  | _ => none }
def SolveMoreWrongFalsely : Prop := solveMoreRow.holds Try.pinned (OpenSpec.ofChange solveMoreWrong)

/-- 'retargetlaw05.SolveFixed': WHATEVER THE INPUT: true; the input reads as it did. -/
def solveFixedSpec : ChangeSpec := { name := "solveFixed", fn := fun _ => fun
  | [d1, d2] => { results := [.lit (.bool true)], args := [d1, d2] }
  | _ => none }
def solveFixedRow : OpenClaim := { program := "ytcahhbcehnbdkaa", sum := "426bbb954d1651c892aa587cf221ed4645635f565ac2f4538c69f61e64e0a410", func := "retarget/retargetlaw05.SolveFixed", spec := "solveFixed", unfollowed := true, recurses := true, apart := false }
def SolveFixedSaid : Prop := solveFixedRow.holds Try.pinned (OpenSpec.ofChange solveFixedSpec)

/-- ITS FALSE NEIGHBOUR: 'it returns false'. Refute it at one input. -/
def solveFixedWrong : ChangeSpec := { name := "solveFixed", fn := fun _ => fun
  | [d1, d2] => { results := [.lit (.bool false)], args := [d1, d2] }
  | _ => none }
def SolveFixedWrongFalsely : Prop := solveFixedRow.holds Try.pinned (OpenSpec.ofChange solveFixedWrong)

/-- 'retargetlaw05.SolveProofs': WHATEVER THE INPUT: true; the input reads as it did. -/
def solveProofsSpec : ChangeSpec := { name := "solveProofs", fn := fun _ => fun
  | [d1, d2, d3] => { results := [.lit (.bool true)], args := [d1, d2, d3] }
  | _ => none }
def solveProofsRow : OpenClaim := { program := "ytcahhbcehnbdkaa", sum := "426bbb954d1651c892aa587cf221ed4645635f565ac2f4538c69f61e64e0a410", func := "retarget/retargetlaw05.SolveProofs", spec := "solveProofs", unfollowed := true, recurses := true, apart := false }
def SolveProofsSaid : Prop := solveProofsRow.holds Try.pinned (OpenSpec.ofChange solveProofsSpec)

/-- ITS FALSE NEIGHBOUR: 'it returns false'. Refute it at one input. -/
def solveProofsWrong : ChangeSpec := { name := "solveProofs", fn := fun _ => fun
  | [d1, d2, d3] => { results := [.lit (.bool false)], args := [d1, d2, d3] }
  | _ => none }
def SolveProofsWrongFalsely : Prop := solveProofsRow.holds Try.pinned (OpenSpec.ofChange solveProofsWrong)

/-- 'retargetlaw05.SolveNames': WHATEVER THE INPUT: true; the input reads as it did. -/
def solveNamesSpec : ChangeSpec := { name := "solveNames", fn := fun _ => fun
  | [] => { results := [.lit (.bool true)], args := [] }
  | _ => none }
def solveNamesRow : OpenClaim := { program := "ytcahhbcehnbdkaa", sum := "426bbb954d1651c892aa587cf221ed4645635f565ac2f4538c69f61e64e0a410", func := "retarget/retargetlaw05.SolveNames", spec := "solveNames", unfollowed := true, recurses := true, apart := false }
def SolveNamesSaid : Prop := solveNamesRow.holds Try.pinned (OpenSpec.ofChange solveNamesSpec)

/-- ITS FALSE NEIGHBOUR: 'it returns false'. Refute it at one input. -/
def solveNamesWrong : ChangeSpec := { name := "solveNames", fn := fun _ => fun
  | [] => { results := [.lit (.bool false)], args := [] }
  | _ => none }
def SolveNamesWrongFalsely : Prop := solveNamesRow.holds Try.pinned (OpenSpec.ofChange solveNamesWrong)

/-- 'retargetlaw05.SolveDecides': WHATEVER THE INPUT: true; the input reads as it did. -/
def solveDecidesSpec : ChangeSpec := { name := "solveDecides", fn := fun _ => fun
  | [d1, d2] => { results := [.lit (.bool true)], args := [d1, d2] }
  | _ => none }
def solveDecidesRow : OpenClaim := { program := "ytcahhbcehnbdkaa", sum := "426bbb954d1651c892aa587cf221ed4645635f565ac2f4538c69f61e64e0a410", func := "retarget/retargetlaw05.SolveDecides", spec := "solveDecides", unfollowed := true, recurses := true, apart := false }
def SolveDecidesSaid : Prop := solveDecidesRow.holds Try.pinned (OpenSpec.ofChange solveDecidesSpec)

/-- ITS FALSE NEIGHBOUR: 'it returns false'. Refute it at one input. -/
def solveDecidesWrong : ChangeSpec := { name := "solveDecides", fn := fun _ => fun
  | [d1, d2] => { results := [.lit (.bool false)], args := [d1, d2] }
  | _ => none }
def SolveDecidesWrongFalsely : Prop := solveDecidesRow.holds Try.pinned (OpenSpec.ofChange solveDecidesWrong)

/- THE SECOND FORM. 'bulk': how many values and letters a reading holds, each counted each time it is reached (what is shared counts as often as it is met; a slice's spare places count too). A statement '..UptoSaid' is the law's where the arguments, and the package variables that the reading takes, are together of bulk at most 1048576: NARROWER than '..Said'. Prove '..Said' where nothing that the law and all that it calls make is longer than what came in: it says more and counts as full. Else prove '..UptoSaid'. A law counts once. -/
mutual
def uptoBulk {H : Type} : DataW H → Nat
  | .lit (.string bytes) => bytes.length + 1
  | .lit _ => 1
  | .nil => 1
  | .ptr d => uptoBulk d + 1
  | .slice elems spare => uptoBulkAll elems + uptoBulkAll spare + 1
  | .agg parts => uptoBulkAll parts + 1
  | .iface _ d => uptoBulk d + 1
  | .map entries => uptoBulkEntries entries + 1
  | .held _ => 1
def uptoBulkAll {H : Type} : List (DataW H) → Nat
  | [] => 0
  | d :: r => uptoBulk d + uptoBulkAll r
def uptoBulkEntries {H : Type} : List (Lit × DataW H) → Nat
  | [] => 0
  | x :: r => uptoBulkEntry x + uptoBulkEntries r
def uptoBulkEntry {H : Type} : Lit × DataW H → Nat
  | (.string bytes, d) => bytes.length + uptoBulk d + 1
  | (_, d) => uptoBulk d + 1
 end
def uptoSmall : (H : Type) → List (DataW H) → Bool := fun _ ds => decide (uptoBulkAll ds ≤ 1048576)
def OpenSpec.upto (s : _root_.Go.ChangeSpec) : _root_.Go.OpenSpec := { _root_.Go.OpenSpec.ofChange s with cond := some uptoSmall }

/-- 'retargetlaw05.SolveChecks', WHERE WHAT IT READS IS OF BULK AT MOST 1048576: true; the input reads as it did. -/
def solveChecksUptoRow : OpenClaim := { program := "ytcahhbcehnbdkaa", sum := "426bbb954d1651c892aa587cf221ed4645635f565ac2f4538c69f61e64e0a410", func := "retarget/retargetlaw05.SolveChecks", spec := "solveChecks", unfollowed := true, recurses := true, apart := false, narrowed := true }
def SolveChecksUptoSaid : Prop := solveChecksUptoRow.holds Try.pinned (OpenSpec.upto solveChecksSpec)

/-- 'retargetlaw05.SolveAnswers', WHERE WHAT IT READS IS OF BULK AT MOST 1048576: true; the input reads as it did. -/
def solveAnswersUptoRow : OpenClaim := { program := "ytcahhbcehnbdkaa", sum := "426bbb954d1651c892aa587cf221ed4645635f565ac2f4538c69f61e64e0a410", func := "retarget/retargetlaw05.SolveAnswers", spec := "solveAnswers", unfollowed := true, recurses := true, apart := false, narrowed := true }
def SolveAnswersUptoSaid : Prop := solveAnswersUptoRow.holds Try.pinned (OpenSpec.upto solveAnswersSpec)

/-- 'retargetlaw05.SolveMore', WHERE WHAT IT READS IS OF BULK AT MOST 1048576: true; the input reads as it did. -/
def solveMoreUptoRow : OpenClaim := { program := "ytcahhbcehnbdkaa", sum := "426bbb954d1651c892aa587cf221ed4645635f565ac2f4538c69f61e64e0a410", func := "retarget/retargetlaw05.SolveMore", spec := "solveMore", unfollowed := true, recurses := true, apart := false, narrowed := true }
def SolveMoreUptoSaid : Prop := solveMoreUptoRow.holds Try.pinned (OpenSpec.upto solveMoreSpec)

/-- 'retargetlaw05.SolveFixed', WHERE WHAT IT READS IS OF BULK AT MOST 1048576: true; the input reads as it did. -/
def solveFixedUptoRow : OpenClaim := { program := "ytcahhbcehnbdkaa", sum := "426bbb954d1651c892aa587cf221ed4645635f565ac2f4538c69f61e64e0a410", func := "retarget/retargetlaw05.SolveFixed", spec := "solveFixed", unfollowed := true, recurses := true, apart := false, narrowed := true }
def SolveFixedUptoSaid : Prop := solveFixedUptoRow.holds Try.pinned (OpenSpec.upto solveFixedSpec)

/-- 'retargetlaw05.SolveProofs', WHERE WHAT IT READS IS OF BULK AT MOST 1048576: true; the input reads as it did. -/
def solveProofsUptoRow : OpenClaim := { program := "ytcahhbcehnbdkaa", sum := "426bbb954d1651c892aa587cf221ed4645635f565ac2f4538c69f61e64e0a410", func := "retarget/retargetlaw05.SolveProofs", spec := "solveProofs", unfollowed := true, recurses := true, apart := false, narrowed := true }
def SolveProofsUptoSaid : Prop := solveProofsUptoRow.holds Try.pinned (OpenSpec.upto solveProofsSpec)

/-- 'retargetlaw05.SolveNames', WHERE WHAT IT READS IS OF BULK AT MOST 1048576: true; the input reads as it did. -/
def solveNamesUptoRow : OpenClaim := { program := "ytcahhbcehnbdkaa", sum := "426bbb954d1651c892aa587cf221ed4645635f565ac2f4538c69f61e64e0a410", func := "retarget/retargetlaw05.SolveNames", spec := "solveNames", unfollowed := true, recurses := true, apart := false, narrowed := true }
def SolveNamesUptoSaid : Prop := solveNamesUptoRow.holds Try.pinned (OpenSpec.upto solveNamesSpec)

/-- 'retargetlaw05.SolveDecides', WHERE WHAT IT READS IS OF BULK AT MOST 1048576: true; the input reads as it did. -/
def solveDecidesUptoRow : OpenClaim := { program := "ytcahhbcehnbdkaa", sum := "426bbb954d1651c892aa587cf221ed4645635f565ac2f4538c69f61e64e0a410", func := "retarget/retargetlaw05.SolveDecides", spec := "solveDecides", unfollowed := true, recurses := true, apart := false, narrowed := true }
def SolveDecidesUptoSaid : Prop := solveDecidesUptoRow.holds Try.pinned (OpenSpec.upto solveDecidesSpec)

end Rows
end Go.Proofs.Ytcahhbcehnbdkaa
