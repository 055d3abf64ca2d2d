/-
  No cell of these rows narrows 'for every input' (looked for: loops, veiled, ifaces, maps, wideKeys, modest, calm, conditions, laid).
  DERIVED. THE GIVEN ROWS OF THIS SEAT. 4 by the template 'for every input the law returns true; each argument reads behind the call as it read before'; 0 by the template 'total and deterministic' (their statements: YtpbelnbknnhgnaaTotals.lean).
  GIVEN WITH THE SEED: the statements are not yours to turn. If you find one false, say at which input.
  Laid BY PROGRAM, IN A SANDBOX (cutbox-rows.mjs): the forced cells as the released guide's own fill.sh prints them over the translation c0af022ca40f24c5… (all of the seat's roots in one cut). By AI agents, Wed Nov 11 2026. No macro, syntax, notation, axiom, sorry.
-/
import Derived.Test.YtpbelnbknnhgnaaChecked
import GoSem.Claim
import GoSem.ClaimJoined
import GoSem.ClaimMapViews
import Derived.JoinedTies
import Derived.KernelRfl
namespace Go.Proofs.Ytpbelnbknnhgnaa
/- THE CELL 'sum', in the pinned program and in every row, IS THE sha256 OF THE DUMP (.gsa) THAT YtpbelnbknnhgnaaProg.lean LOADS. Nothing in Lean hashes anything: it is a label: what it is worth is what the hold of that sum in a sandbox is worth. -/
noncomputable def Try.pinned : Pinned := { name := "ytpbelnbknnhgnaa", sum := "c0af022ca40f24c541fdbacf22c6427f2473359089a8ec282859a6137c135628", checked := Try.checked }
namespace Rows
def none {H : Type} : Left H := { results := [], args := [] }

/-- 'speculatelaw24.ActionPrefixes': WHATEVER THE INPUT: true; the input reads as it did. -/
def actionPrefixesSpec : ChangeSpec := { name := "actionPrefixes", fn := fun _ => fun
  | [d1, d2] => { results := [.lit (.bool true)], args := [d1, d2] }
  | _ => none }
def actionPrefixesRow : OpenClaim := { program := "ytpbelnbknnhgnaa", sum := "c0af022ca40f24c541fdbacf22c6427f2473359089a8ec282859a6137c135628", func := "speculate/speculatelaw24.ActionPrefixes", spec := "actionPrefixes", unfollowed := true, recurses := true, apart := false }
def ActionPrefixesSaid : Prop := actionPrefixesRow.holds Try.pinned (OpenSpec.ofChange actionPrefixesSpec)

/-- ITS FALSE NEIGHBOUR: 'it returns false'. Refute it at one input. -/
def actionPrefixesWrong : ChangeSpec := { name := "actionPrefixes", fn := fun _ => fun
  | [d1, d2] => { results := [.lit (.bool false)], args := [d1, d2] }
  | _ => none }
def ActionPrefixesWrongFalsely : Prop := actionPrefixesRow.holds Try.pinned (OpenSpec.ofChange actionPrefixesWrong)

/-- 'speculatelaw24.ActionCancels': WHATEVER THE INPUT: true; the input reads as it did. -/
def actionCancelsSpec : ChangeSpec := { name := "actionCancels", fn := fun _ => fun
  | [d1, d2] => { results := [.lit (.bool true)], args := [d1, d2] }
  | _ => none }
def actionCancelsRow : OpenClaim := { program := "ytpbelnbknnhgnaa", sum := "c0af022ca40f24c541fdbacf22c6427f2473359089a8ec282859a6137c135628", func := "speculate/speculatelaw24.ActionCancels", spec := "actionCancels", unfollowed := true, recurses := true, apart := false }
def ActionCancelsSaid : Prop := actionCancelsRow.holds Try.pinned (OpenSpec.ofChange actionCancelsSpec)

/-- ITS FALSE NEIGHBOUR: 'it returns false'. Refute it at one input. -/
def actionCancelsWrong : ChangeSpec := { name := "actionCancels", fn := fun _ => fun
  | [d1, d2] => { results := [.lit (.bool false)], args := [d1, d2] }
  | _ => none }
def ActionCancelsWrongFalsely : Prop := actionCancelsRow.holds Try.pinned (OpenSpec.ofChange actionCancelsWrong)

/-- 'speculatelaw24.ActionValid': WHATEVER THE INPUT: true; the input reads as it did. -/
def actionValidSpec : ChangeSpec := { name := "actionValid", fn := fun _ => fun
  | [d1, d2, d3, d4] => { results := [.lit (.bool true)], args := [d1, d2, d3, d4] }
  | _ => none }
def actionValidRow : OpenClaim := { program := "ytpbelnbknnhgnaa", sum := "c0af022ca40f24c541fdbacf22c6427f2473359089a8ec282859a6137c135628", func := "speculate/speculatelaw24.ActionValid", spec := "actionValid", unfollowed := true, recurses := true, apart := false }
def ActionValidSaid : Prop := actionValidRow.holds Try.pinned (OpenSpec.ofChange actionValidSpec)

/-- ITS FALSE NEIGHBOUR: 'it returns false'. Refute it at one input. -/
def actionValidWrong : ChangeSpec := { name := "actionValid", fn := fun _ => fun
  | [d1, d2, d3, d4] => { results := [.lit (.bool false)], args := [d1, d2, d3, d4] }
  | _ => none }
def ActionValidWrongFalsely : Prop := actionValidRow.holds Try.pinned (OpenSpec.ofChange actionValidWrong)

/-- 'speculatelaw24.ActionSteps': WHATEVER THE INPUT: true; the input reads as it did. -/
def actionStepsSpec : ChangeSpec := { name := "actionSteps", fn := fun _ => fun
  | [d1, d2, d3, d4] => { results := [.lit (.bool true)], args := [d1, d2, d3, d4] }
  | _ => none }
def actionStepsRow : OpenClaim := { program := "ytpbelnbknnhgnaa", sum := "c0af022ca40f24c541fdbacf22c6427f2473359089a8ec282859a6137c135628", func := "speculate/speculatelaw24.ActionSteps", spec := "actionSteps", unfollowed := true, recurses := true, apart := false }
def ActionStepsSaid : Prop := actionStepsRow.holds Try.pinned (OpenSpec.ofChange actionStepsSpec)

/-- ITS FALSE NEIGHBOUR: 'it returns false'. Refute it at one input. -/
def actionStepsWrong : ChangeSpec := { name := "actionSteps", fn := fun _ => fun
  | [d1, d2, d3, d4] => { results := [.lit (.bool false)], args := [d1, d2, d3, d4] }
  | _ => none }
def ActionStepsWrongFalsely : Prop := actionStepsRow.holds Try.pinned (OpenSpec.ofChange actionStepsWrong)

/- THE SECOND FORM. 'bulk': how many values and letters a reading holds, each counted each time it is reached (what is shared counts as often as it is met; a slice's spare places count too). A statement '..UptoSaid' is the law's where the arguments, and the package variables that the reading takes, are together of bulk at most 1048576: NARROWER than '..Said'. Prove '..Said' where nothing that the law and all that it calls make is longer than what came in: it says more and counts as full. Else prove '..UptoSaid'. A law counts once. -/
mutual
def uptoBulk {H : Type} : DataW H → Nat
  | .lit (.string bytes) => bytes.length + 1
  | .lit _ => 1
  | .nil => 1
  | .ptr d => uptoBulk d + 1
  | .slice elems spare => uptoBulkAll elems + uptoBulkAll spare + 1
  | .agg parts => uptoBulkAll parts + 1
  | .iface _ d => uptoBulk d + 1
  | .map entries => uptoBulkEntries entries + 1
  | .held _ => 1
def uptoBulkAll {H : Type} : List (DataW H) → Nat
  | [] => 0
  | d :: r => uptoBulk d + uptoBulkAll r
def uptoBulkEntries {H : Type} : List (Lit × DataW H) → Nat
  | [] => 0
  | x :: r => uptoBulkEntry x + uptoBulkEntries r
def uptoBulkEntry {H : Type} : Lit × DataW H → Nat
  | (.string bytes, d) => bytes.length + uptoBulk d + 1
  | (_, d) => uptoBulk d + 1
 end
def uptoSmall : (H : Type) → List (DataW H) → Bool := fun _ ds => decide (uptoBulkAll ds ≤ 1048576)
def OpenSpec.upto (s : _root_.Go.ChangeSpec) : _root_.Go.OpenSpec := { _root_.Go.OpenSpec.ofChange s with cond := some uptoSmall }

/-- 'speculatelaw24.ActionPrefixes', WHERE WHAT IT READS IS OF BULK AT MOST 1048576: true; the input reads as it did. -/
def actionPrefixesUptoRow : OpenClaim := { program := "ytpbelnbknnhgnaa", sum := "c0af022ca40f24c541fdbacf22c6427f2473359089a8ec282859a6137c135628", func := "speculate/speculatelaw24.ActionPrefixes", spec := "actionPrefixes", unfollowed := true, recurses := true, apart := false, narrowed := true }
def ActionPrefixesUptoSaid : Prop := actionPrefixesUptoRow.holds Try.pinned (OpenSpec.upto actionPrefixesSpec)

/-- 'speculatelaw24.ActionCancels', WHERE WHAT IT READS IS OF BULK AT MOST 1048576: true; the input reads as it did. -/
def actionCancelsUptoRow : OpenClaim := { program := "ytpbelnbknnhgnaa", sum := "c0af022ca40f24c541fdbacf22c6427f2473359089a8ec282859a6137c135628", func := "speculate/speculatelaw24.ActionCancels", spec := "actionCancels", unfollowed := true, recurses := true, apart := false, narrowed := true }
def ActionCancelsUptoSaid : Prop := actionCancelsUptoRow.holds Try.pinned (OpenSpec.upto actionCancelsSpec)

/-- 'speculatelaw24.ActionValid', WHERE WHAT IT READS IS OF BULK AT MOST 1048576: true; the input reads as it did. -/
def actionValidUptoRow : OpenClaim := { program := "ytpbelnbknnhgnaa", sum := "c0af022ca40f24c541fdbacf22c6427f2473359089a8ec282859a6137c135628", func := "speculate/speculatelaw24.ActionValid", spec := "actionValid", unfollowed := true, recurses := true, apart := false, narrowed := true }
def ActionValidUptoSaid : Prop := actionValidUptoRow.holds Try.pinned (OpenSpec.upto actionValidSpec)

/-- 'speculatelaw24.ActionSteps', WHERE WHAT IT READS IS OF BULK AT MOST 1048576: true; the input reads as it did. -/
def actionStepsUptoRow : OpenClaim := { program := "ytpbelnbknnhgnaa", sum := "c0af022ca40f24c541fdbacf22c6427f2473359089a8ec282859a6137c135628", func := "speculate/speculatelaw24.ActionSteps", spec := "actionSteps", unfollowed := true, recurses := true, apart := false, narrowed := true }
def ActionStepsUptoSaid : Prop := actionStepsUptoRow.holds Try.pinned (OpenSpec.upto actionStepsSpec)

end Rows
end Go.Proofs.Ytpbelnbknnhgnaa
