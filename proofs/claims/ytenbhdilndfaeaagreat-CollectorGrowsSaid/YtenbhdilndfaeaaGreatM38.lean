/- CollectorGrows, as it is given: for all inputs the law of the given program answers true: a collected heap holds what it held and what is reached from it. Conditions: none but the statement's own. -/
import Derived.Test.YtenbhdilndfaeaaGreatM33
import Derived.Test.YtenbhdilndfaeaaGreatM37
set_option maxRecDepth 100000
namespace Go.Proofs.YtenbhdilndfaeaaGreat.collectorGrows
open Go.ChangeShapes Go.WideShapes Go.ChangeAt Go.RowKit Go.Proofs.Tryz
open Go.ChangeMaps (open_string shut_string)
set_option linter.unusedVariables false
theorem own:ownKnob prog.godebug=none:=by kernel_rfl
theorem laidOut:laidOutB prog=true:=by kernel_rfl
def Cb(k:IntKind)(w:World)(a:OA)(len lW:Nat)(zs:List Int):Prop:=
 (a=none/\len=0/\lW=0/\zs=[])∨
 ∃x,a=some x/\len<=lW/\lW<=maxLen/\zs.length=lW/\(∀i,i<zs.length->w.cell? (x.add i)=some (.int k (zs.getD i 0)))/\∀n∈zs,(Lit.int k n).wf=true
theorem walk(a0:OA)(U aI:Nat)(z0:List Int)(a1:Int)(w:World)(w0:Cb .u8 w a0 U aI z0)(w1:(Lit.int .i64 a1).wf=true):
 Calls prog 9 #[.slice a0 U aI,.int .i64 a1] w λe w'=>e=.returned (.bool true)/\Below w.heap.size w w':=by
 have hb:-9223372036854775808<=a1/\a1<=9223372036854775807:=by
  have h:=w1;simp[Lit.wf,IntKind.min,IntKind.max,IntKind.signed,IntKind.bits]at h;omega
 rcases w0 with⟨rfl,rfl,rfl,rfl⟩|⟨x,rfl,cS,bB,b,av,A⟩
 .refine(uj vH none 0 0 [] 0 a1 w (Fm _ _ _ _) (λj=>by simp) o_ o_ hb.1 hb.2).mono λe w' h=>⟨h.1,h.2.vg⟩
 .obtain⟨bS,hs⟩:=vl (len:=U) o_ av
  refine(uj vH (some x) U aI (z0.take U) bS a1 w hs (Bg A) cS (by unfold maxLen at bB;omega) hb.1 hb.2).mono λe w' h=>⟨h.1,h.2.vg⟩
theorem lifted(os:Go.Os)(a:os.Started)(H:Type)(enc:TypeId × Value->H):
 ReturnsInHanded {} checked os 9 .any (Rows.collectorGrowsSpec.pre6 enc prog f9 Rows.collectorGrowsRow.domain false) (Rows.collectorGrowsSpec.post enc prog f9 false true false false):=by
 refine returnsInHanded_of_change (C:=checked) own a k_ func9
  (ChangeSpec.witness6 (enc:=enc) (C:=checked) false ⟨#[],#[n_,.int .i64 0],[]⟩ 8 k_ k_ k_ k_) ?_
 intro W base args ds gs before d aT r _;have Q:∀(j:Nat) t v,f9.params[j]?=some t->args[j]?=some v->Value.okWide prog W .any base t v:=d;have f:=aT;obtain⟨p,q,V,aZ,rfl,u,s⟩:=aT;have hA:DataW.TrodAll enc prog W 0 (λ_=>true) true f9.params.toList args.toList ds p:=V;rw[params9]at hA Q;obtain⟨v0,w,bD,k,p0,bj,o,rfl,rfl,h0,bW⟩:=trodAll_cons hA;obtain⟨v1,y,bH,n,p1,bn,rfl,rfl,rfl,h1,r1⟩:=trodAll_cons bW;obtain⟨rfl,rfl,rfl⟩:=trodAll_nil r1
 obtain rfl:args=#[v0,v1]:=by cases args;simp_all
 obtain⟨rfl,rfl⟩:=trodVars_none aZ;obtain⟨a0,U,aI,rfl⟩:=okWide_slice underlying22 (Q 0 22 v0 rfl rfl);have k0:=h0
 have g:∀x∈p0,x.block<W.heap.size:=by obtain⟨m,hm⟩:=k0;exact DataW.trod_lt m _ _ _ hm
 obtain⟨z0,w0⟩:∃zs,Cb .u8 W a0 U aI zs:=by
  obtain⟨fuel,hf⟩:=h0
  rcases open_ints underlying22 underlying5 k_ hf with⟨az,_⟩|⟨x,l,c,zs,az,_,hl,hm,hz,_,av,ad⟩
  .simp[Value.cells]at az;obtain⟨rfl,rfl,rfl⟩:=az;exact⟨[],.inl ⟨rfl,rfl,rfl,rfl⟩⟩
  .simp[Value.cells]at az;obtain⟨rfl,rfl,rfl⟩:=az;exact⟨zs,.inr ⟨_,rfl,hl,hm,by simpa using hz,av,ad⟩⟩
 obtain⟨a1,rfl,rfl,rfl,w1⟩:=open_int underlying3 (Q 1 3 v1 rfl rfl) h1;clear V d
 refine(walk a0 U aI z0 a1 W w0 w1).mono λe i⟨he,b⟩=>?_
 subst he;exact⟨_,rfl,_,_,_,[],_,[],f,trodAll_mk1 (shut_bool underlying4 _),(trodAll_cons_mk (Below.trod laidOut k_ (GR k_) k0 b g) (trodAll_cons_mk (shut_int underlying3 w1) trodAll_mk0)),rfl,b.frame _,λh=>by cases h⟩
theorem lG:Rows.collectorGrowsRow.holds Tryz.pinned (OpenSpec.ofChange Rows.collectorGrowsSpec):=
 OpenClaim.holds_of_wide 9 f9 rfl rfl rfl rfl rfl rfl rfl ⟨rfl,rfl,rfl,rfl,rfl⟩ rfl rfl rfl rfl rfl k_ func9 k_
  (GR k_) (by unfold Func.isWrapper;first|(rw[T_ (by decide +kernel)];kernel_rfl)|(rw[Q_ (by decide +kernel)];exact⟨rfl,rfl⟩))
  (λos a H enc _=>lifted os a H enc)
theorem proved:Rows.CollectorGrowsSaid:=lG
#print axioms proved
end Go.Proofs.YtenbhdilndfaeaaGreat.collectorGrows
