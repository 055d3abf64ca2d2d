/- CollectorHarmless, as it is given: for all inputs the law of the given program answers true: what every task does next, in its view, is the same after collecting as before. Conditions: none but the statement's own. -/
import Derived.Test.YtenbhdilndfaeaaGreatH39
set_option maxRecDepth 100000
namespace Go.Proofs.YtenbhdilndfaeaaGreat.collectorHarmless
open Go.ChangeShapes Go.WideShapes Go.ChangeAt Go.RowKit Go.Proofs.Tryz
open Go.ChangeMaps (open_string shut_string)
set_option linter.unusedVariables false
theorem own:ownKnob prog.godebug=none:=by kernel_rfl
theorem laidOut:laidOutB prog=true:=by kernel_rfl
def D2(k:IntKind)(w:World)(a:OA)(len l6:Nat)(zs:List Int):Prop:=
 (a=none/\len=0/\l6=0/\zs=[])\/
 ∃x,a=some x/\len<=l6/\l6<=maxLen/\zs.length=l6/\(∀i,i<zs.length->w.cell? (x.add i)=some (.int k<|zs.getD i 0))/\∀n∈zs,(Lit.int k n).wf=true
theorem walk(g:OA)(c f:Nat)(h:List Int)(b:Int)(w:World)(o:D2 .u8 w g c f h)(p:(Lit.int .u8 b).wf=true):
 Calls prog 8 #[.slice g c f,.int .u8 b] w λe w'=>e=.returned (.bool true)/\Below w.heap.size w w':=by
 have d:0<=b/\b<256:=by
  have a:=p;simp[Lit.wf,IntKind.min,IntKind.max,IntKind.signed,IntKind.bits]at a;omega
 rcases o with⟨rfl,rfl,rfl,rfl⟩|⟨q,rfl,m,k,r,j,i⟩
 refine(rr w9 none 0 0 [] 0 b w (HB _ _ _ _) (λl=>by simp) X X d.1 d.2).mono λe w' a=>⟨a.1,a.2.wD⟩;obtain⟨l,n⟩:=wH (len:=c) X j;refine(rr w9 (some q) c f (h.take c) l b w n (CW i) m (by unfold maxLen at k;omega) d.1 d.2).mono λe w' a=>⟨a.1,a.2.wD⟩
theorem lifted(os:Go.Os)(x:os.Started)(H:Type)(enc:TypeId × Value->H):
 ReturnsInHanded {} checked os 8 .any (Rows.collectorHarmlessSpec.pre6 enc prog f8 Rows.collectorHarmlessRow.domain false) (Rows.collectorHarmlessSpec.post enc prog f8 false true false false):=by
 refine returnsInHanded_of_change (C:=checked) own x k_ func8
  (ChangeSpec.witness6 (enc:=enc) (C:=checked) false ⟨#[],#[n_,.int .u8 0],[]⟩ 8 k_ k_ k_ k_) ?_
 intro b D c E gs before l g ae _;have d:∀(o:Nat) q r,f8.params[o]?=some q->c[o]?=some r->Value.okWide prog b .any D q r:=l;have F:=g;obtain⟨P,af,h,z,rfl,ag,ah⟩:=g;have n:DataW.TrodAll enc prog b 0 (λ_=>true) true f8.params.toList c.toList E P:=h;rw[params8]at n d;obtain⟨s,ai,U,aj,Q,X,ak,rfl,rfl,m,B⟩:=trodAll_cons n;obtain⟨t,al,W,am,p1,V,rfl,rfl,rfl,J,R⟩:=trodAll_cons B;obtain⟨rfl,rfl,rfl⟩:=trodAll_nil R;obtain rfl:c=#[s,t]:=by cases c;simp_all
 obtain⟨rfl,rfl⟩:=trodVars_none z;obtain⟨f,k,j,rfl⟩:=okWide_slice underlying22<|d 0 22 s rfl rfl;have p:=m;have G:∀v∈Q,v.block<b.heap.size:=by obtain⟨O,e⟩:=p;exact DataW.trod_lt O _ _ _ e
 obtain⟨T,S⟩:∃zs,D2 .u8 b f k j zs:=by
  obtain⟨fuel,L⟩:=m;rcases open_ints underlying22 underlying5 k_ L with⟨a,_⟩|⟨v,an,Y,zs,a,_,M,e,N,_,A,w⟩
  simp[Value.cells]at a;obtain⟨rfl,rfl,rfl⟩:=a;exact⟨[],.inl ⟨rfl,rfl,rfl,rfl⟩⟩;simp[Value.cells]at a;obtain⟨rfl,rfl,rfl⟩:=a;exact⟨zs,.inr ⟨_,rfl,M,e,by simpa using N,A,w⟩⟩
 obtain⟨y,rfl,rfl,rfl,u⟩:=open_int underlying5 (d 1 5 t rfl rfl) J;clear h l;refine(walk f k j T y b S u).mono λZ ao⟨K,i⟩=>?_;subst K;exact⟨_,rfl,_,_,_,[],_,[],F,trodAll_mk1<|shut_bool underlying4 _,(trodAll_cons_mk (Below.trod laidOut k_ (IZ k_) p i G)<|trodAll_cons_mk (shut_int underlying5 u) trodAll_mk0),rfl,i.frame _,λI=>by cases I⟩
theorem kG:Rows.collectorHarmlessRow.holds Tryz.pinned (OpenSpec.ofChange Rows.collectorHarmlessSpec):=
 OpenClaim.holds_of_wide 8 f8 rfl rfl rfl rfl rfl rfl rfl ⟨rfl,rfl,rfl,rfl,rfl⟩ rfl rfl rfl rfl rfl k_ func8 k_
  (IZ k_) (by unfold Func.isWrapper;first|(rw[L_<|by decide +kernel];kernel_rfl)|(rw[K_<|by decide +kernel];exact⟨rfl,rfl⟩))
  (λd b a c _=>lifted d b a c)
theorem proved:Rows.CollectorHarmlessSaid:=kG
#print axioms proved
end Go.Proofs.YtenbhdilndfaeaaGreat.collectorHarmless
