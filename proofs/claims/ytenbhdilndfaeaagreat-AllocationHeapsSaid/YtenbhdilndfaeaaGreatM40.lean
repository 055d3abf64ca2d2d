/- AllocationHeaps, as it is given: for all inputs the law of the given program answers true: which references, missing objects and runs a made heap has, and what of some runs is in it. Conditions: none but the statement's own. -/
import Derived.Test.YtenbhdilndfaeaaGreatM36
import Derived.Test.YtenbhdilndfaeaaGreatM39
set_option maxRecDepth 100000
set_option maxHeartbeats 0
namespace Go.Proofs.YtenbhdilndfaeaaGreat.allocationHeaps
open Go.ChangeShapes Go.WideShapes Go.ChangeAt Go.RowKit
open Go.ChangeMaps (open_string shut_string)
set_option linter.unusedVariables false
theorem own:ownKnob Tryz.prog.godebug=none:=by kernel_rfl
theorem laidOut:laidOutB Tryz.prog=true:=by kernel_rfl
def xB(k:IntKind)(w:World)(a:Option Addr)(len kX:Nat)(zs:List Int):Prop:=
 (a=none/\len=0/\kX=0/\zs=[])∨
 ∃x,a=some x/\len<=kX/\kX<=maxLen/\zs.length=kX/\(∀i,i<zs.length->w.cell? (x.add i)=some (.int k (zs.getD i 0)))/\∀n∈zs,(Lit.int k n).wf=true
theorem walk(a0:Option Addr)(u y:Nat)(z0:List Int)(U:Option Addr)(hc:Nat)(l:List Rw)(f:Option Addr)(a b:Nat)(aX:List Int)(w:World)(w0:xB .u8 w a0 u y z0)(hl:uH w U l)(w2:xB .i64 w f a b aX):
 Calls Tryz.prog 5 #[.slice a0 u y,.agg #[.slice U l.length hc],.slice f a b] w λe w'=>e=.returned (.bool true)/\Below w.heap.size w w':=by
 obtain⟨rs,tb,rfl,ax⟩:∃(rs:List Int) (tb:TypeId),a=rs.length/\Ns w tb f rs:=by
  rcases w2 with⟨rfl,rfl,rfl,rfl⟩|⟨x,rfl,Z,aH,c,N,C⟩
  .exact⟨[],0,rfl,EM _ _ _ _⟩
  .obtain⟨a6,hs⟩:=rq (len:=a) o_ N
   have e:(aX.take a).length=a:=by rw[List.length_take];omega
   exact⟨aX.take a,a6,e.symm,by unfold Ns;rw[e];exact hs⟩
 rcases w0 with⟨rfl,rfl,rfl,rfl⟩|⟨x,rfl,Z,aH,c,N,C⟩
 .refine(tZ vk none 0 0 [] 0 U hc l f b rs tb w (EM _ _ _ _) (λj=>by simp) o_ o_ hl ax).mono λe w' h=>⟨h.1,h.2.uW⟩
 .obtain⟨a6,hs⟩:=rq (len:=u) o_ N
  refine(tZ vk (some x) u y (z0.take u) a6 U hc l f b rs tb w hs (AH C) Z (by unfold maxLen at aH;omega) hl ax).mono λe w' h=>⟨h.1,h.2.uW⟩
theorem lifted(os:Go.Os)(i:os.Started)(H:Type)(enc:TypeId × Value->H):
 ReturnsInHanded {} Tryz.checked os 5 .any (Rows.allocationHeapsSpec.pre6 enc Tryz.prog Tryz.f5 Rows.allocationHeapsRow.domain false) (Rows.allocationHeapsSpec.post enc Tryz.prog Tryz.f5 false true false false):=by
 refine returnsInHanded_of_change (C:=Tryz.checked) own i k_ Tryz.func5
  (ChangeSpec.witness6 (enc:=enc) (C:=Tryz.checked) false ⟨#[],#[n_,.agg #[n_],n_],[]⟩ 8 k_ k_ k_ k_) ?_
 intro W base args ds gs before k aZ I _;have aI:∀(j:Nat) t v,Tryz.f5.params[j]?=some t->args[j]?=some v->Value.okWide Tryz.prog W .any base t v:=k;have n:=aZ;obtain⟨p,q,K,aq,rfl,L,J⟩:=aZ;have U:DataW.TrodAll enc Tryz.prog W 0 (λ_=>true) true Tryz.f5.params.toList args.toList ds p:=K;rw[Tryz.params5]at U aI;obtain⟨v0,M,B,A,p0,bM,F,rfl,rfl,h0,bV⟩:=trodAll_cons U;obtain⟨v1,O,aB,D,p1,bp,rfl,rfl,rfl,h1,r1⟩:=trodAll_cons bV;obtain⟨ao,P,bm,E,G,bI,rfl,rfl,rfl,h2,r2⟩:=trodAll_cons r1;obtain⟨rfl,rfl,rfl⟩:=trodAll_nil r2
 obtain rfl:args=#[v0,v1,ao]:=by cases args;simp_all
 obtain⟨rfl,rfl⟩:=trodVars_none aq;obtain⟨a0,u,y,rfl⟩:=okWide_slice Tryz.underlying22 (aI 0 22 v0 rfl rfl);have k0:=h0
 have o:∀x∈p0,x.block<W.heap.size:=by obtain⟨m,Y⟩:=k0;exact DataW.trod_lt m _ _ _ Y
 obtain⟨z0,w0⟩:∃zs,xB .u8 W a0 u y zs:=by
  obtain⟨fuel,hf⟩:=h0
  rcases open_ints Tryz.underlying22 Tryz.underlying5 k_ hf with⟨d,_⟩|⟨x,l,c,zs,d,_,hl,Y,hz,_,N,ap⟩
  .exact Lc
  .exact K8
 have bO:=h1
 have r:∀x∈p1,x.block<W.heap.size:=by obtain⟨m,Y⟩:=bO;exact DataW.trod_lt m _ _ _ Y
 obtain⟨w,oc,l,rfl,hl⟩:=yn (aI 1 35 v1 rfl rfl) h1;obtain⟨f,a,b,rfl⟩:=okWide_slice Tryz.underlying27 (aI 2 27 ao rfl rfl);have bl:=h2
 have s:∀x∈G,x.block<W.heap.size:=by obtain⟨m,Y⟩:=bl;exact DataW.trod_lt m _ _ _ Y
 obtain⟨aX,w2⟩:∃zs,xB .i64 W f a b zs:=by
  obtain⟨fuel,hf⟩:=h2
  rcases open_ints Tryz.underlying27 Tryz.underlying2 k_ hf with⟨d,_⟩|⟨x,l,c,zs,d,_,hl,Y,hz,_,N,ap⟩
  .exact Lc
  .exact K8
 clear K k
 refine(walk a0 u y z0 w oc l f a b aX W w0 hl w2).mono λe z⟨he,g⟩=>?_
 subst he;exact⟨_,rfl,_,_,_,[],_,[],n,trodAll_mk1 (shut_bool Tryz.underlying4 _),(trodAll_cons_mk (Below.trod laidOut k_ (of_decide_eq_true k_) k0 g o) (trodAll_cons_mk (Below.trod laidOut k_ (of_decide_eq_true k_) bO g r) (trodAll_cons_mk (Below.trod laidOut k_ (of_decide_eq_true k_) bl g s) trodAll_mk0))),rfl,g.frame _,λh=>by cases h⟩
theorem mL:Rows.allocationHeapsRow.holds Tryz.pinned (OpenSpec.ofChange Rows.allocationHeapsSpec):=
 OpenClaim.holds_of_wide 5 Tryz.f5 rfl rfl rfl rfl rfl rfl rfl ⟨rfl,rfl,rfl,rfl,rfl⟩ rfl rfl rfl rfl rfl k_ Tryz.func5 k_
  (of_decide_eq_true k_) (by unfold Func.isWrapper;first|(rw[if_pos (by decide +kernel)];kernel_rfl)|(rw[if_neg (by decide +kernel)];exact⟨rfl,rfl⟩))
  (λos i H enc _=>lifted os i H enc)
theorem proved:Rows.AllocationHeapsSaid:=mL
#print axioms proved
end Go.Proofs.YtenbhdilndfaeaaGreat.allocationHeaps
