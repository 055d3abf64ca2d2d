/-
  No cell of these rows narrows 'for every input' (looked for: loops, veiled, ifaces, maps, wideKeys, modest, calm, conditions, laid).
  DERIVED. THE GIVEN ROWS OF THIS SEAT. 3 by the template 'for every input the law returns true; each argument reads behind the call as it read before'; 0 by the template 'total and deterministic' (their statements: YtldabchaflnmdaaTotals.lean).
  GIVEN WITH THE SEED: the statements are not yours to turn. If you find one false, say at which input.
  Laid BY PROGRAM, IN A SANDBOX (cutbox-rows.mjs): the forced cells as the released guide's own fill.sh prints them over the translation f20135e76447644a… (all of the seat's roots in one cut). By AI agents, Wed Nov 11 2026. No macro, syntax, notation, axiom, sorry.
-/
import Derived.Test.YtldabchaflnmdaaChecked
import GoSem.Claim
import GoSem.ClaimJoined
import GoSem.ClaimMapViews
import Derived.JoinedTies
import Derived.KernelRfl
namespace Go.Proofs.Ytldabchaflnmdaa
/- THE CELL 'sum', in the pinned program and in every row, IS THE sha256 OF THE DUMP (.gsa) THAT YtldabchaflnmdaaProg.lean LOADS. Nothing in Lean hashes anything: it is a label: what it is worth is what the hold of that sum in a sandbox is worth. -/
noncomputable def Try.pinned : Pinned := { name := "ytldabchaflnmdaa", sum := "f20135e76447644a934d35ad33efcb3912ad3c7561b87a9b67df401657f5d1bb", checked := Try.checked }
namespace Rows
def none {H : Type} : Left H := { results := [], args := [] }

/-- 'speculatelaw04.CanonOnce': WHATEVER THE INPUT: true; the input reads as it did. -/
def canonOnceSpec : ChangeSpec := { name := "canonOnce", fn := fun _ => fun
  | [d] => { results := [.lit (.bool true)], args := [d] }
  | _ => none }
def canonOnceRow : OpenClaim := { program := "ytldabchaflnmdaa", sum := "f20135e76447644a934d35ad33efcb3912ad3c7561b87a9b67df401657f5d1bb", func := "speculate/speculatelaw04.CanonOnce", spec := "canonOnce", apart := false }
def CanonOnceSaid : Prop := canonOnceRow.holds Try.pinned (OpenSpec.ofChange canonOnceSpec)

/-- ITS FALSE NEIGHBOUR: 'it returns false'. Refute it at one input. -/
def canonOnceWrong : ChangeSpec := { name := "canonOnce", fn := fun _ => fun
  | [d] => { results := [.lit (.bool false)], args := [d] }
  | _ => none }
def CanonOnceWrongFalsely : Prop := canonOnceRow.holds Try.pinned (OpenSpec.ofChange canonOnceWrong)

/-- 'speculatelaw04.CanonRenamed': WHATEVER THE INPUT: true; the input reads as it did. -/
def canonRenamedSpec : ChangeSpec := { name := "canonRenamed", fn := fun _ => fun
  | [d1, d2, d3] => { results := [.lit (.bool true)], args := [d1, d2, d3] }
  | _ => none }
def canonRenamedRow : OpenClaim := { program := "ytldabchaflnmdaa", sum := "f20135e76447644a934d35ad33efcb3912ad3c7561b87a9b67df401657f5d1bb", func := "speculate/speculatelaw04.CanonRenamed", spec := "canonRenamed", apart := false }
def CanonRenamedSaid : Prop := canonRenamedRow.holds Try.pinned (OpenSpec.ofChange canonRenamedSpec)

/-- ITS FALSE NEIGHBOUR: 'it returns false'. Refute it at one input. -/
def canonRenamedWrong : ChangeSpec := { name := "canonRenamed", fn := fun _ => fun
  | [d1, d2, d3] => { results := [.lit (.bool false)], args := [d1, d2, d3] }
  | _ => none }
def CanonRenamedWrongFalsely : Prop := canonRenamedRow.holds Try.pinned (OpenSpec.ofChange canonRenamedWrong)

/-- 'speculatelaw04.CanonGarbage': WHATEVER THE INPUT: true; the input reads as it did. -/
def canonGarbageSpec : ChangeSpec := { name := "canonGarbage", fn := fun _ => fun
  | [d1, d2] => { results := [.lit (.bool true)], args := [d1, d2] }
  | _ => none }
def canonGarbageRow : OpenClaim := { program := "ytldabchaflnmdaa", sum := "f20135e76447644a934d35ad33efcb3912ad3c7561b87a9b67df401657f5d1bb", func := "speculate/speculatelaw04.CanonGarbage", spec := "canonGarbage", apart := false }
def CanonGarbageSaid : Prop := canonGarbageRow.holds Try.pinned (OpenSpec.ofChange canonGarbageSpec)

/-- ITS FALSE NEIGHBOUR: 'it returns false'. Refute it at one input. -/
def canonGarbageWrong : ChangeSpec := { name := "canonGarbage", fn := fun _ => fun
  | [d1, d2] => { results := [.lit (.bool false)], args := [d1, d2] }
  | _ => none }
def CanonGarbageWrongFalsely : Prop := canonGarbageRow.holds Try.pinned (OpenSpec.ofChange canonGarbageWrong)

/- THE SECOND FORM. 'bulk': how many values and letters a reading holds, each counted each time it is reached (what is shared counts as often as it is met; a slice's spare places count too). A statement '..UptoSaid' is the law's where the arguments, and the package variables that the reading takes, are together of bulk at most 1048576: NARROWER than '..Said'. Prove '..Said' where nothing that the law and all that it calls make is longer than what came in: it says more and counts as full. Else prove '..UptoSaid'. A law counts once. -/
mutual
def uptoBulk {H : Type} : DataW H → Nat
  | .lit (.string bytes) => bytes.length + 1
  | .lit _ => 1
  | .nil => 1
  | .ptr d => uptoBulk d + 1
  | .slice elems spare => uptoBulkAll elems + uptoBulkAll spare + 1
  | .agg parts => uptoBulkAll parts + 1
  | .iface _ d => uptoBulk d + 1
  | .map entries => uptoBulkEntries entries + 1
  | .held _ => 1
def uptoBulkAll {H : Type} : List (DataW H) → Nat
  | [] => 0
  | d :: r => uptoBulk d + uptoBulkAll r
def uptoBulkEntries {H : Type} : List (Lit × DataW H) → Nat
  | [] => 0
  | x :: r => uptoBulkEntry x + uptoBulkEntries r
def uptoBulkEntry {H : Type} : Lit × DataW H → Nat
  | (.string bytes, d) => bytes.length + uptoBulk d + 1
  | (_, d) => uptoBulk d + 1
 end
def uptoSmall : (H : Type) → List (DataW H) → Bool := fun _ ds => decide (uptoBulkAll ds ≤ 1048576)
def OpenSpec.upto (s : _root_.Go.ChangeSpec) : _root_.Go.OpenSpec := { _root_.Go.OpenSpec.ofChange s with cond := some uptoSmall }

/-- 'speculatelaw04.CanonOnce', WHERE WHAT IT READS IS OF BULK AT MOST 1048576: true; the input reads as it did. -/
def canonOnceUptoRow : OpenClaim := { program := "ytldabchaflnmdaa", sum := "f20135e76447644a934d35ad33efcb3912ad3c7561b87a9b67df401657f5d1bb", func := "speculate/speculatelaw04.CanonOnce", spec := "canonOnce", apart := false, narrowed := true }
def CanonOnceUptoSaid : Prop := canonOnceUptoRow.holds Try.pinned (OpenSpec.upto canonOnceSpec)

/-- 'speculatelaw04.CanonRenamed', WHERE WHAT IT READS IS OF BULK AT MOST 1048576: true; the input reads as it did. -/
def canonRenamedUptoRow : OpenClaim := { program := "ytldabchaflnmdaa", sum := "f20135e76447644a934d35ad33efcb3912ad3c7561b87a9b67df401657f5d1bb", func := "speculate/speculatelaw04.CanonRenamed", spec := "canonRenamed", apart := false, narrowed := true }
def CanonRenamedUptoSaid : Prop := canonRenamedUptoRow.holds Try.pinned (OpenSpec.upto canonRenamedSpec)

/-- 'speculatelaw04.CanonGarbage', WHERE WHAT IT READS IS OF BULK AT MOST 1048576: true; the input reads as it did. -/
def canonGarbageUptoRow : OpenClaim := { program := "ytldabchaflnmdaa", sum := "f20135e76447644a934d35ad33efcb3912ad3c7561b87a9b67df401657f5d1bb", func := "speculate/speculatelaw04.CanonGarbage", spec := "canonGarbage", apart := false, narrowed := true }
def CanonGarbageUptoSaid : Prop := canonGarbageUptoRow.holds Try.pinned (OpenSpec.upto canonGarbageSpec)

end Rows
end Go.Proofs.Ytldabchaflnmdaa
