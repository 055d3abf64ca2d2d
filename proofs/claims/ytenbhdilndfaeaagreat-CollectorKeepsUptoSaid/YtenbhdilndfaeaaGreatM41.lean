/- CollectorKeeps, in its second form (the tasks and identifiers that it reads are of bulk at most 1048576): for all such inputs the law of the given program answers true: the roots of tasks, what can be reached, and what is kept are as the reference says. Conditions: none but the statement's own. -/
import Derived.Test.YtenbhdilndfaeaaGreatM40
set_option maxRecDepth 100000
namespace Go.Proofs.YtenbhdilndfaeaaGreat.collectorKeeps
open Go.ChangeShapes Go.WideShapes Go.ChangeAt Go.RowKit Go.Proofs.Tryz
open Go.ChangeMaps (open_string shut_string)
set_option linter.unusedVariables false
theorem nm:Tryz.pinned.checked.prog.funcNamed Rows.collectorKeepsUptoRow.func=some 6:=k_
theorem cl:joinedFacts Tryz.pinned.checked.prog 6 Tryz.f6 (Rows.OpenSpec.upto Rows.collectorKeepsSpec).bare Rows.collectorKeepsUptoRow=true:=k_
theorem jo:Tryz.f6.isInstance Tryz.pinned.checked.prog Rows.collectorKeepsUptoRow.origin Rows.collectorKeepsUptoRow.targs:=of_decide_eq_true k_
theorem wr:Tryz.f6.isWrapper Tryz.pinned.checked.prog Rows.collectorKeepsUptoRow.wrapper Rows.collectorKeepsUptoRow.mainSum:=by unfold Func.isWrapper;first|(rw[if_pos (by decide +kernel)];kernel_rfl)|(rw[if_neg (by decide +kernel)];exact⟨rfl,rfl⟩)
theorem lP:Rows.collectorKeepsUptoRow.holds Tryz.pinned (Rows.OpenSpec.upto Rows.collectorKeepsSpec):=
 OpenClaim.holds_of_cond 6 Tryz.f6 rfl rfl rfl rfl rfl rfl rfl ⟨rfl,rfl,rfl,rfl,rfl⟩ rfl rfl rfl rfl rfl nm Tryz.func6 cl jo wr
  (λe d a b _ c=>lifted e d a b c)
theorem proved:Rows.CollectorKeepsUptoSaid:=lP
#print axioms proved
end Go.Proofs.YtenbhdilndfaeaaGreat.collectorKeeps
