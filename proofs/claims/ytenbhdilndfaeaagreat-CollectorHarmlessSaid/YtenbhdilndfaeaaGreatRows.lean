/-
  No cell of these rows narrows 'for every input' (looked for: loops, veiled, ifaces, maps, wideKeys, modest, calm, conditions, laid).
  DERIVED. THE GIVEN ROWS OF THIS SEAT. 7 by the template 'for every input the law returns true; each argument reads behind the call as it read before'; 0 by the template 'total and deterministic' (their statements: YtenbhdilndfaeaaGreatTotals.lean).
  GIVEN WITH THE SEED: the statements are not yours to turn. If you find one false, say at which input.
  Laid BY PROGRAM, IN A SANDBOX (cutbox-rows.mjs): the forced cells as the released guide's own fill.sh prints them over the translation b5842bcd7401ef43… (all of the seat's roots in one cut). By AI agents, Wed Nov 11 2026. No macro, syntax, notation, axiom, sorry.
-/
import Derived.Test.YtenbhdilndfaeaaGreatChecked
import GoSem.Claim
import GoSem.ClaimJoined
import GoSem.ClaimMapViews
import Derived.JoinedTies
import Derived.KernelRfl
namespace Go.Proofs.YtenbhdilndfaeaaGreat
/- THE CELL 'sum', in the pinned program and in every row, IS THE sha256 OF THE DUMP (.gsa) THAT YtenbhdilndfaeaaGreatProg.lean LOADS. Nothing in Lean hashes anything: it is a label: what it is worth is what the hold of that sum in a sandbox is worth. -/
noncomputable def Tryz.pinned : Pinned := { name := "ytenbhdilndfaeaagreat", sum := "b5842bcd7401ef4314e18e13d68c4484b87b10a6ec5b5e292b0f762b1d4fdcc8", checked := Tryz.checked }
namespace Rows
def none {H : Type} : Left H := { results := [], args := [] }

/-- 'speculatelaw25.AllocationCommitted': WHATEVER THE INPUT: true; the input reads as it did. -/
def allocationCommittedSpec : ChangeSpec := { name := "allocationCommitted", fn := fun _ => fun
  | [d] => { results := [.lit (.bool true)], args := [d] }
  | _ => none }
def allocationCommittedRow : OpenClaim := { program := "ytenbhdilndfaeaagreat", sum := "b5842bcd7401ef4314e18e13d68c4484b87b10a6ec5b5e292b0f762b1d4fdcc8", func := "speculate/speculatelaw25.AllocationCommitted", spec := "allocationCommitted", unfollowed := true, recurses := true, apart := false }
def AllocationCommittedSaid : Prop := allocationCommittedRow.holds Tryz.pinned (OpenSpec.ofChange allocationCommittedSpec)

/-- ITS FALSE NEIGHBOUR: 'it returns false'. Refute it at one input. -/
def allocationCommittedWrong : ChangeSpec := { name := "allocationCommitted", fn := fun _ => fun
  | [d] => { results := [.lit (.bool false)], args := [d] }
  | _ => none }
def AllocationCommittedWrongFalsely : Prop := allocationCommittedRow.holds Tryz.pinned (OpenSpec.ofChange allocationCommittedWrong)

/-- 'speculatelaw25.AllocationRuns': WHATEVER THE INPUT: true; the input reads as it did. -/
def allocationRunsSpec : ChangeSpec := { name := "allocationRuns", fn := fun _ => fun
  | [d] => { results := [.lit (.bool true)], args := [d] }
  | _ => none }
def allocationRunsRow : OpenClaim := { program := "ytenbhdilndfaeaagreat", sum := "b5842bcd7401ef4314e18e13d68c4484b87b10a6ec5b5e292b0f762b1d4fdcc8", func := "speculate/speculatelaw25.AllocationRuns", spec := "allocationRuns", unfollowed := true, recurses := true, apart := false }
def AllocationRunsSaid : Prop := allocationRunsRow.holds Tryz.pinned (OpenSpec.ofChange allocationRunsSpec)

/-- ITS FALSE NEIGHBOUR: 'it returns false'. Refute it at one input. -/
def allocationRunsWrong : ChangeSpec := { name := "allocationRuns", fn := fun _ => fun
  | [d] => { results := [.lit (.bool false)], args := [d] }
  | _ => none }
def AllocationRunsWrongFalsely : Prop := allocationRunsRow.holds Tryz.pinned (OpenSpec.ofChange allocationRunsWrong)

/-- 'speculatelaw25.AllocationHeaps': WHATEVER THE INPUT: true; the input reads as it did. -/
def allocationHeapsSpec : ChangeSpec := { name := "allocationHeaps", fn := fun _ => fun
  | [d1, d2, d3] => { results := [.lit (.bool true)], args := [d1, d2, d3] }
  | _ => none }
def allocationHeapsRow : OpenClaim := { program := "ytenbhdilndfaeaagreat", sum := "b5842bcd7401ef4314e18e13d68c4484b87b10a6ec5b5e292b0f762b1d4fdcc8", func := "speculate/speculatelaw25.AllocationHeaps", spec := "allocationHeaps", unfollowed := true, recurses := true, apart := false }
def AllocationHeapsSaid : Prop := allocationHeapsRow.holds Tryz.pinned (OpenSpec.ofChange allocationHeapsSpec)

/-- ITS FALSE NEIGHBOUR: 'it returns false'. Refute it at one input. -/
def allocationHeapsWrong : ChangeSpec := { name := "allocationHeaps", fn := fun _ => fun
  | [d1, d2, d3] => { results := [.lit (.bool false)], args := [d1, d2, d3] }
  | _ => none }
def AllocationHeapsWrongFalsely : Prop := allocationHeapsRow.holds Tryz.pinned (OpenSpec.ofChange allocationHeapsWrong)

/-- 'speculatelaw26.CollectorKeeps': WHATEVER THE INPUT: true; the input reads as it did. -/
def collectorKeepsSpec : ChangeSpec := { name := "collectorKeeps", fn := fun _ => fun
  | [d1, d2, d3] => { results := [.lit (.bool true)], args := [d1, d2, d3] }
  | _ => none }
def collectorKeepsRow : OpenClaim := { program := "ytenbhdilndfaeaagreat", sum := "b5842bcd7401ef4314e18e13d68c4484b87b10a6ec5b5e292b0f762b1d4fdcc8", func := "speculate/speculatelaw26.CollectorKeeps", spec := "collectorKeeps", unfollowed := true, recurses := true, apart := false }
def CollectorKeepsSaid : Prop := collectorKeepsRow.holds Tryz.pinned (OpenSpec.ofChange collectorKeepsSpec)

/-- ITS FALSE NEIGHBOUR: 'it returns false'. Refute it at one input. -/
def collectorKeepsWrong : ChangeSpec := { name := "collectorKeeps", fn := fun _ => fun
  | [d1, d2, d3] => { results := [.lit (.bool false)], args := [d1, d2, d3] }
  | _ => none }
def CollectorKeepsWrongFalsely : Prop := collectorKeepsRow.holds Tryz.pinned (OpenSpec.ofChange collectorKeepsWrong)

/-- 'speculatelaw26.CollectorInvisible': WHATEVER THE INPUT: true; the input reads as it did. -/
def collectorInvisibleSpec : ChangeSpec := { name := "collectorInvisible", fn := fun _ => fun
  | [d] => { results := [.lit (.bool true)], args := [d] }
  | _ => none }
def collectorInvisibleRow : OpenClaim := { program := "ytenbhdilndfaeaagreat", sum := "b5842bcd7401ef4314e18e13d68c4484b87b10a6ec5b5e292b0f762b1d4fdcc8", func := "speculate/speculatelaw26.CollectorInvisible", spec := "collectorInvisible", unfollowed := true, recurses := true, apart := false }
def CollectorInvisibleSaid : Prop := collectorInvisibleRow.holds Tryz.pinned (OpenSpec.ofChange collectorInvisibleSpec)

/-- ITS FALSE NEIGHBOUR: 'it returns false'. Refute it at one input. -/
def collectorInvisibleWrong : ChangeSpec := { name := "collectorInvisible", fn := fun _ => fun
  | [d] => { results := [.lit (.bool false)], args := [d] }
  | _ => none }
def CollectorInvisibleWrongFalsely : Prop := collectorInvisibleRow.holds Tryz.pinned (OpenSpec.ofChange collectorInvisibleWrong)

/-- 'speculatelaw26.CollectorHarmless': WHATEVER THE INPUT: true; the input reads as it did. -/
def collectorHarmlessSpec : ChangeSpec := { name := "collectorHarmless", fn := fun _ => fun
  | [d1, d2] => { results := [.lit (.bool true)], args := [d1, d2] }
  | _ => none }
def collectorHarmlessRow : OpenClaim := { program := "ytenbhdilndfaeaagreat", sum := "b5842bcd7401ef4314e18e13d68c4484b87b10a6ec5b5e292b0f762b1d4fdcc8", func := "speculate/speculatelaw26.CollectorHarmless", spec := "collectorHarmless", unfollowed := true, recurses := true, apart := false }
def CollectorHarmlessSaid : Prop := collectorHarmlessRow.holds Tryz.pinned (OpenSpec.ofChange collectorHarmlessSpec)

/-- ITS FALSE NEIGHBOUR: 'it returns false'. Refute it at one input. -/
def collectorHarmlessWrong : ChangeSpec := { name := "collectorHarmless", fn := fun _ => fun
  | [d1, d2] => { results := [.lit (.bool false)], args := [d1, d2] }
  | _ => none }
def CollectorHarmlessWrongFalsely : Prop := collectorHarmlessRow.holds Tryz.pinned (OpenSpec.ofChange collectorHarmlessWrong)

/-- 'speculatelaw26.CollectorGrows': WHATEVER THE INPUT: true; the input reads as it did. -/
def collectorGrowsSpec : ChangeSpec := { name := "collectorGrows", fn := fun _ => fun
  | [d1, d2] => { results := [.lit (.bool true)], args := [d1, d2] }
  | _ => none }
def collectorGrowsRow : OpenClaim := { program := "ytenbhdilndfaeaagreat", sum := "b5842bcd7401ef4314e18e13d68c4484b87b10a6ec5b5e292b0f762b1d4fdcc8", func := "speculate/speculatelaw26.CollectorGrows", spec := "collectorGrows", unfollowed := true, recurses := true, apart := false }
def CollectorGrowsSaid : Prop := collectorGrowsRow.holds Tryz.pinned (OpenSpec.ofChange collectorGrowsSpec)

/-- ITS FALSE NEIGHBOUR: 'it returns false'. Refute it at one input. -/
def collectorGrowsWrong : ChangeSpec := { name := "collectorGrows", fn := fun _ => fun
  | [d1, d2] => { results := [.lit (.bool false)], args := [d1, d2] }
  | _ => none }
def CollectorGrowsWrongFalsely : Prop := collectorGrowsRow.holds Tryz.pinned (OpenSpec.ofChange collectorGrowsWrong)

/- THE SECOND FORM. 'bulk': how many values and letters a reading holds, each counted each time it is reached (what is shared counts as often as it is met; a slice's spare places count too). A statement '..UptoSaid' is the law's where the arguments, and the package variables that the reading takes, are together of bulk at most 1048576: NARROWER than '..Said'. Prove '..Said' where nothing that the law and all that it calls make is longer than what came in: it says more and counts as full. Else prove '..UptoSaid'. A law counts once. -/
mutual
def uptoBulk {H : Type} : DataW H → Nat
  | .lit (.string bytes) => bytes.length + 1
  | .lit _ => 1
  | .nil => 1
  | .ptr d => uptoBulk d + 1
  | .slice elems spare => uptoBulkAll elems + uptoBulkAll spare + 1
  | .agg parts => uptoBulkAll parts + 1
  | .iface _ d => uptoBulk d + 1
  | .map entries => uptoBulkEntries entries + 1
  | .held _ => 1
def uptoBulkAll {H : Type} : List (DataW H) → Nat
  | [] => 0
  | d :: r => uptoBulk d + uptoBulkAll r
def uptoBulkEntries {H : Type} : List (Lit × DataW H) → Nat
  | [] => 0
  | x :: r => uptoBulkEntry x + uptoBulkEntries r
def uptoBulkEntry {H : Type} : Lit × DataW H → Nat
  | (.string bytes, d) => bytes.length + uptoBulk d + 1
  | (_, d) => uptoBulk d + 1
 end
def uptoSmall : (H : Type) → List (DataW H) → Bool := fun _ ds => decide (uptoBulkAll ds ≤ 1048576)
def OpenSpec.upto (s : _root_.Go.ChangeSpec) : _root_.Go.OpenSpec := { _root_.Go.OpenSpec.ofChange s with cond := some uptoSmall }

/-- 'speculatelaw25.AllocationCommitted', WHERE WHAT IT READS IS OF BULK AT MOST 1048576: true; the input reads as it did. -/
def allocationCommittedUptoRow : OpenClaim := { program := "ytenbhdilndfaeaagreat", sum := "b5842bcd7401ef4314e18e13d68c4484b87b10a6ec5b5e292b0f762b1d4fdcc8", func := "speculate/speculatelaw25.AllocationCommitted", spec := "allocationCommitted", unfollowed := true, recurses := true, apart := false, narrowed := true }
def AllocationCommittedUptoSaid : Prop := allocationCommittedUptoRow.holds Tryz.pinned (OpenSpec.upto allocationCommittedSpec)

/-- 'speculatelaw25.AllocationRuns', WHERE WHAT IT READS IS OF BULK AT MOST 1048576: true; the input reads as it did. -/
def allocationRunsUptoRow : OpenClaim := { program := "ytenbhdilndfaeaagreat", sum := "b5842bcd7401ef4314e18e13d68c4484b87b10a6ec5b5e292b0f762b1d4fdcc8", func := "speculate/speculatelaw25.AllocationRuns", spec := "allocationRuns", unfollowed := true, recurses := true, apart := false, narrowed := true }
def AllocationRunsUptoSaid : Prop := allocationRunsUptoRow.holds Tryz.pinned (OpenSpec.upto allocationRunsSpec)

/-- 'speculatelaw25.AllocationHeaps', WHERE WHAT IT READS IS OF BULK AT MOST 1048576: true; the input reads as it did. -/
def allocationHeapsUptoRow : OpenClaim := { program := "ytenbhdilndfaeaagreat", sum := "b5842bcd7401ef4314e18e13d68c4484b87b10a6ec5b5e292b0f762b1d4fdcc8", func := "speculate/speculatelaw25.AllocationHeaps", spec := "allocationHeaps", unfollowed := true, recurses := true, apart := false, narrowed := true }
def AllocationHeapsUptoSaid : Prop := allocationHeapsUptoRow.holds Tryz.pinned (OpenSpec.upto allocationHeapsSpec)

/-- 'speculatelaw26.CollectorKeeps', WHERE WHAT IT READS IS OF BULK AT MOST 1048576: true; the input reads as it did. -/
def collectorKeepsUptoRow : OpenClaim := { program := "ytenbhdilndfaeaagreat", sum := "b5842bcd7401ef4314e18e13d68c4484b87b10a6ec5b5e292b0f762b1d4fdcc8", func := "speculate/speculatelaw26.CollectorKeeps", spec := "collectorKeeps", unfollowed := true, recurses := true, apart := false, narrowed := true }
def CollectorKeepsUptoSaid : Prop := collectorKeepsUptoRow.holds Tryz.pinned (OpenSpec.upto collectorKeepsSpec)

/-- 'speculatelaw26.CollectorInvisible', WHERE WHAT IT READS IS OF BULK AT MOST 1048576: true; the input reads as it did. -/
def collectorInvisibleUptoRow : OpenClaim := { program := "ytenbhdilndfaeaagreat", sum := "b5842bcd7401ef4314e18e13d68c4484b87b10a6ec5b5e292b0f762b1d4fdcc8", func := "speculate/speculatelaw26.CollectorInvisible", spec := "collectorInvisible", unfollowed := true, recurses := true, apart := false, narrowed := true }
def CollectorInvisibleUptoSaid : Prop := collectorInvisibleUptoRow.holds Tryz.pinned (OpenSpec.upto collectorInvisibleSpec)

/-- 'speculatelaw26.CollectorHarmless', WHERE WHAT IT READS IS OF BULK AT MOST 1048576: true; the input reads as it did. -/
def collectorHarmlessUptoRow : OpenClaim := { program := "ytenbhdilndfaeaagreat", sum := "b5842bcd7401ef4314e18e13d68c4484b87b10a6ec5b5e292b0f762b1d4fdcc8", func := "speculate/speculatelaw26.CollectorHarmless", spec := "collectorHarmless", unfollowed := true, recurses := true, apart := false, narrowed := true }
def CollectorHarmlessUptoSaid : Prop := collectorHarmlessUptoRow.holds Tryz.pinned (OpenSpec.upto collectorHarmlessSpec)

/-- 'speculatelaw26.CollectorGrows', WHERE WHAT IT READS IS OF BULK AT MOST 1048576: true; the input reads as it did. -/
def collectorGrowsUptoRow : OpenClaim := { program := "ytenbhdilndfaeaagreat", sum := "b5842bcd7401ef4314e18e13d68c4484b87b10a6ec5b5e292b0f762b1d4fdcc8", func := "speculate/speculatelaw26.CollectorGrows", spec := "collectorGrows", unfollowed := true, recurses := true, apart := false, narrowed := true }
def CollectorGrowsUptoSaid : Prop := collectorGrowsUptoRow.holds Tryz.pinned (OpenSpec.upto collectorGrowsSpec)

end Rows
end Go.Proofs.YtenbhdilndfaeaaGreat
