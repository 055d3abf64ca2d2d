/- AllocationRuns, as it is given: for all inputs the law of the given program answers true: each object of a committed heap belongs to the beginning or to a run of a committed task, and leaving out all runs leaves nothing that leaks. Conditions: none but the statement's own. -/
import Derived.Test.YtenbhdilndfaeaaGreatR34
import Derived.Test.YtenbhdilndfaeaaGreatR38
set_option maxRecDepth 100000
namespace Go.Proofs.YtenbhdilndfaeaaGreat.allocationRuns
open Go.ChangeShapes Go.WideShapes Go.ChangeAt Go.RowKit Go.Proofs.Tryz
open Go.ChangeMaps (open_string shut_string)
set_option linter.unusedVariables false
theorem own:ownKnob Tryz.prog.godebug=none:=by kernel_rfl
theorem laidOut:laidOutB Tryz.prog=true:=by kernel_rfl
def C_(k:IntKind)(w:World)(a:Option Addr)(len lO:Nat)(zs:List Int):Prop:=
 (a=none/\len=0/\lO=0/\zs=[])∨
 ∃x,a=some x/\len<=lO/\lO<=maxLen/\zs.length=lO/\(∀i,i<zs.length->w.cell? (x.add i)=some (.int k (zs.getD i 0)))/\∀n∈zs,(Lit.int k n).wf=true
theorem walk(c:Option Addr)(a f:Nat)(d:List Int)(w:World)(m:C_ .u8 w c a f d):
 Calls Tryz.prog 4 #[.slice c a f] w λe w'=>e=.returned (.bool true)/\Below w.heap.size w w':=by
 rcases m with⟨rfl,rfl,rfl,rfl⟩|⟨n,rfl,k,j,o,h,g⟩
 .refine(wd wE none 0 0 [] 0 w (Gz _ _ _ _) (λi=>by simp) X X).mono λe w' b=>⟨b.1,b.2.v6⟩
 .obtain⟨i,l⟩:=wa (len:=a) X h
  refine(wd wE (some n) a f (d.take a) i w l (Cb g) k (by unfold maxLen at j;omega)).mono λe w' b=>⟨b.1,b.2.v6⟩
theorem lifted(os:Go.Os)(b:os.Started)(w:Type)(enc:TypeId × Value->w):
 ReturnsInHanded {} Tryz.checked os 4 .any (Rows.allocationRunsSpec.pre6 enc Tryz.prog Tryz.f4 Rows.allocationRunsRow.domain false) (Rows.allocationRunsSpec.post enc Tryz.prog Tryz.f4 false true false false):=by
 refine returnsInHanded_of_change (C:=Tryz.checked) own b k_ Tryz.func4
  (ChangeSpec.witness6 (enc:=enc) (C:=Tryz.checked) false ⟨#[],#[n_],[]⟩ 8 k_ k_ k_ k_) ?_
 intro c z e A W before n k ad _;have j:∀(p:Nat) r s,Tryz.f4.params[p]?=some r->e[p]?=some s->Value.okWide Tryz.prog c .any z r s:=n;have H:=k;obtain⟨K,af,g,y,rfl,ag,P⟩:=k;have h:DataW.TrodAll enc Tryz.prog c 0 (λ_=>true) true Tryz.f4.params.toList e.toList A K:=g;rw[Tryz.params4]at h j;obtain⟨t,ah,Q,Y,L,S,Z,rfl,rfl,o,M⟩:=trodAll_cons h;obtain⟨rfl,rfl,rfl⟩:=trodAll_nil M
 obtain rfl:e=#[t]:=by cases e;simp_all
 obtain⟨rfl,rfl⟩:=trodVars_none y;obtain⟨i,a,m,rfl⟩:=okWide_slice Tryz.underlying22 (j 0 22 t rfl rfl);have q:=o
 have I:∀u∈L,u.block<c.heap.size:=by obtain⟨J,f⟩:=q;exact DataW.trod_lt J _ _ _ f
 obtain⟨O,N⟩:∃zs,C_ .u8 c i a m zs:=by
  obtain⟨V,E⟩:=o
  rcases open_ints Tryz.underlying22 Tryz.underlying5 k_ E with⟨d,_⟩|⟨u,X,T,zs,d,_,F,f,G,_,x,v⟩
  .simp[Value.cells]at d;obtain⟨rfl,rfl,rfl⟩:=d;exact⟨[],.inl ⟨rfl,rfl,rfl,rfl⟩⟩
  .simp[Value.cells]at d;obtain⟨rfl,rfl,rfl⟩:=d;exact⟨zs,.inr ⟨_,rfl,F,f,by simpa using G,x,v⟩⟩
 clear g n
 refine(walk i a m O c N).mono λU R⟨D,l⟩=>?_
 subst D;exact⟨_,rfl,_,_,_,[],_,[],H,trodAll_mk1 (shut_bool Tryz.underlying4 _),(trodAll_cons_mk (Below.trod laidOut k_ (of_decide_eq_true k_) q l I) trodAll_mk0),rfl,l.frame _,λB=>by cases B⟩
theorem la:Rows.allocationRunsRow.holds Tryz.pinned (OpenSpec.ofChange Rows.allocationRunsSpec):=
 OpenClaim.holds_of_wide 4 Tryz.f4 rfl rfl rfl rfl rfl rfl rfl ⟨rfl,rfl,rfl,rfl,rfl⟩ rfl rfl rfl rfl rfl k_ Tryz.func4 k_
  (of_decide_eq_true k_) (by unfold Func.isWrapper;first|(rw[if_pos (by decide +kernel)];kernel_rfl)|(rw[if_neg (by decide +kernel)];exact⟨rfl,rfl⟩))
  (λe c b d _=>lifted e c b d)
theorem proved:Rows.AllocationRunsSaid:=la
#print axioms proved
end Go.Proofs.YtenbhdilndfaeaaGreat.allocationRuns
