/- AllocationCommitted, as it is given: for all inputs the law of the given program answers true: the committed heap refers to nothing that is not there, and holds nothing of the tasks under way. Conditions: none but the statement's own. -/
import Derived.Test.YtenbhdilndfaeaaGreatC01
import Derived.Test.YtenbhdilndfaeaaGreatM36
import Derived.Below
import Derived.ChangeOld
import Derived.OpenShut
import Derived.ProofKit
import Derived.ShutString
import Derived.Test.YtenbhdilndfaeaaGreatRows
import Derived.WalkKit
set_option maxRecDepth 100000
namespace Go.Proofs.YtenbhdilndfaeaaGreat.allocationCommitted
open Go.ChangeShapes Go.WideShapes Go.ChangeAt Go.RowKit
open Go.ChangeMaps (open_string shut_string)
set_option linter.unusedVariables false
theorem own:ownKnob Tryz.prog.godebug=none:=by kernel_rfl
theorem laidOut:laidOutB Tryz.prog=true:=by kernel_rfl
def xB(k:IntKind)(w:World)(a:Option Addr)(len kX:Nat)(zs:List Int):Prop:=
 (a=none/\len=0/\kX=0/\zs=[])∨
 ∃x,a=some x/\len<=kX/\kX<=maxLen/\zs.length=kX/\(∀i,i<zs.length->w.cell? (x.add i)=some (.int k (zs.getD i 0)))/\∀n∈zs,(Lit.int k n).wf=true
theorem walk(a0:Option Addr)(len0 cap0:Nat)(z0:List Int)(w:World)(w0:xB .u8 w a0 len0 cap0 z0):
 Calls Tryz.prog 3 #[.slice a0 len0 cap0] w λe w'=>e=.returned (.bool true)/\Below w.heap.size w w':=by
 rcases w0 with⟨rfl,rfl,rfl,rfl⟩|⟨x,rfl,hlc,hcm,hzl,hcell,hwf⟩
 .refine(committed_any vk none 0 0 [] 0 w (EM _ _ _ _) (λj=>by simp) o_ o_).mono λe w' h=>⟨h.1,h.2.uW⟩
 .obtain⟨e5,hs⟩:=rq (len:=len0) o_ hcell
  refine(committed_any vk (some x) len0 cap0 (z0.take len0) e5 w hs (AH hwf) hlc (by unfold maxLen at hcm;omega)).mono λe w' h=>⟨h.1,h.2.uW⟩
theorem lifted(os:Go.Os)(started:os.Started)(H:Type)(enc:TypeId × Value->H):
 ReturnsInHanded {} Tryz.checked os 3 .any (Rows.allocationCommittedSpec.pre6 enc Tryz.prog Tryz.f3 Rows.allocationCommittedRow.domain false) (Rows.allocationCommittedSpec.post enc Tryz.prog Tryz.f3 false true false false):=by
 refine returnsInHanded_of_change (C:=Tryz.checked) own started k_ Tryz.func3
  (ChangeSpec.witness6 (enc:=enc) (C:=Tryz.checked) false ⟨#[],#[n_],[]⟩ 8 k_ k_ k_ k_) ?_
 intro W base args ds gs before hval0 hW hcnd _;have hval:∀(j:Nat) t v,Tryz.f3.params[j]?=some t->args[j]?=some v->Value.okWide Tryz.prog W .any base t v:=hval0;have hW':=hW;obtain⟨p,q,hA0,hV,rfl,hfz,hnd⟩:=hW;have hA:DataW.TrodAll enc Tryz.prog W 0 (λ_=>true) true Tryz.f3.params.toList args.toList ds p:=hA0;rw[Tryz.params3]at hA hval;obtain⟨v0,vs0,d0,ds0,p0,q0,hargs,rfl,rfl,h0,r0⟩:=trodAll_cons hA;obtain⟨rfl,rfl,rfl⟩:=trodAll_nil r0
 obtain rfl:args=#[v0]:=by cases args;simp_all
 obtain⟨rfl,rfl⟩:=trodVars_none hV;obtain⟨a0,len0,cap0,rfl⟩:=okWide_slice Tryz.underlying22 (hval 0 22 v0 rfl rfl);have k0:=h0
 have lt0:∀x∈p0,x.block<W.heap.size:=by obtain⟨m,hm⟩:=k0;exact DataW.trod_lt m _ _ _ hm
 obtain⟨z0,w0⟩:∃zs,xB .u8 W a0 len0 cap0 zs:=by
  obtain⟨fuel,hf⟩:=h0
  rcases open_ints Tryz.underlying22 Tryz.underlying5 k_ hf with⟨hcs,_⟩|⟨x,l,c,zs,hcs,_,hl,hm,hz,_,hcell,hwz⟩
  .simp[Value.cells]at hcs;obtain⟨rfl,rfl,rfl⟩:=hcs;exact⟨[],.inl ⟨rfl,rfl,rfl,rfl⟩⟩
  .simp[Value.cells]at hcs;obtain⟨rfl,rfl,rfl⟩:=hcs;exact⟨zs,.inr ⟨_,rfl,hl,hm,by simpa using hz,hcell,hwz⟩⟩
 clear hA0 hval0
 refine(walk a0 len0 cap0 z0 W w0).mono λe W'⟨he,bel⟩=>?_
 subst he;exact⟨_,rfl,_,_,_,[],_,[],hW',trodAll_mk1 (shut_bool Tryz.underlying4 _),(trodAll_cons_mk (Below.trod laidOut k_ (of_decide_eq_true k_) k0 bel lt0) trodAll_mk0),rfl,bel.frame _,λh=>by cases h⟩
theorem mL:Rows.allocationCommittedRow.holds Tryz.pinned (OpenSpec.ofChange Rows.allocationCommittedSpec):=
 OpenClaim.holds_of_wide 3 Tryz.f3 rfl rfl rfl rfl rfl rfl rfl ⟨rfl,rfl,rfl,rfl,rfl⟩ rfl rfl rfl rfl rfl k_ Tryz.func3 k_
  (of_decide_eq_true k_) (by unfold Func.isWrapper;first|(rw[if_pos (by decide +kernel)];kernel_rfl)|(rw[if_neg (by decide +kernel)];exact⟨rfl,rfl⟩))
  (λos started H enc _=>lifted os started H enc)
theorem proved:Rows.AllocationCommittedSaid:=mL
#print axioms proved
end Go.Proofs.YtenbhdilndfaeaaGreat.allocationCommitted
