/- CollectorInvisible, as it is given: for all inputs the law of the given program answers true: a collection is not seen through the canonical view. Conditions: none but the statement's own. -/
import Derived.Test.YtenbhdilndfaeaaGreatM35
import Derived.Test.YtenbhdilndfaeaaGreatM39
set_option maxRecDepth 100000
namespace Go.Proofs.YtenbhdilndfaeaaGreat.collectorInvisible
open Go.ChangeShapes Go.WideShapes Go.ChangeAt Go.RowKit Go.Proofs.Tryz
open Go.ChangeMaps (open_string shut_string)
set_option linter.unusedVariables false
theorem own:ownKnob prog.godebug=none:=by kernel_rfl
theorem laidOut:laidOutB prog=true:=by kernel_rfl
def De(k:IntKind)(w:World)(a:OA)(len l3:Nat)(zs:List Int):Prop:=
 (a=none/\len=0/\l3=0/\zs=[])∨
 ∃x,a=some x/\len<=l3/\l3<=maxLen/\zs.length=l3/\(∀i,i<zs.length->w.cell? (x.add i)=some (.int k (zs.getD i 0)))/\∀n∈zs,(Lit.int k n).wf=true
theorem walk(c:OA)(r u:Nat)(d:List Int)(w:World)(l:De .u8 w c r u d):
 Calls prog 7 #[.slice c r u] w λe w'=>e=.returned (.bool true)/\Below w.heap.size w w':=by
 rcases l with⟨rfl,rfl,rfl,rfl⟩|⟨m,rfl,j,h,n,g,f⟩
 .refine(p6 vX none 0 0 [] 0 w (Gw _ _ _ _) (λi=>by simp) X X).mono λe w' b=>⟨b.1,b.2.vw⟩
 .obtain⟨i,k⟩:=vA (len:=r) X g
  refine(p6 vX (some m) r u (d.take r) i w k (Ca f) j (by unfold maxLen at h;omega)).mono λe w' b=>⟨b.1,b.2.vw⟩
theorem lifted(os:Go.Os)(a:os.Started)(w:Type)(enc:TypeId × Value->w):
 ReturnsInHanded {} checked os 7 .any (Rows.collectorInvisibleSpec.pre6 enc prog f7 Rows.collectorInvisibleRow.domain false) (Rows.collectorInvisibleSpec.post enc prog f7 false true false false):=by
 refine returnsInHanded_of_change (C:=checked) own a k_ func7
  (ChangeSpec.witness6 (enc:=enc) (C:=checked) false ⟨#[],#[n_],[]⟩ 8 k_ k_ k_ k_) ?_
 intro b A d B U before k i Z _;have h:∀(n:Nat) q s,f7.params[n]?=some q->d[n]?=some s->Value.okWide prog b .any A q s:=k;have D:=i;obtain⟨L,ad,f,y,rfl,ae,af⟩:=i;have m:DataW.TrodAll enc prog b 0 (λ_=>true) true f7.params.toList d.toList B L:=f;rw[params7]at m h;obtain⟨t,ag,P,W,M,Q,Y,rfl,rfl,l,z⟩:=trodAll_cons m;obtain⟨rfl,rfl,rfl⟩:=trodAll_nil z
 obtain rfl:d=#[t]:=by cases d;simp_all
 obtain⟨rfl,rfl⟩:=trodVars_none y;obtain⟨g,p,r,rfl⟩:=okWide_slice underlying22 (h 0 22 t rfl rfl);have o:=l
 have E:∀u∈M,u.block<b.heap.size:=by obtain⟨K,e⟩:=o;exact DataW.trod_lt K _ _ _ e
 obtain⟨O,N⟩:∃zs,De .u8 b g p r zs:=by
  obtain⟨T,H⟩:=l
  rcases open_ints underlying22 underlying5 k_ H with⟨c,_⟩|⟨u,X,R,zs,c,_,I,e,J,_,x,v⟩
  .simp[Value.cells]at c;obtain⟨rfl,rfl,rfl⟩:=c;exact⟨[],.inl ⟨rfl,rfl,rfl,rfl⟩⟩
  .simp[Value.cells]at c;obtain⟨rfl,rfl,rfl⟩:=c;exact⟨zs,.inr ⟨_,rfl,I,e,by simpa using J,x,v⟩⟩
 clear f k
 refine(walk g p r O b N).mono λS V⟨G,j⟩=>?_
 subst G;exact⟨_,rfl,_,_,_,[],_,[],D,trodAll_mk1 (shut_bool underlying4 _),(trodAll_cons_mk (Below.trod laidOut k_ (H0 k_) o j E) trodAll_mk0),rfl,j.frame _,λF=>by cases F⟩
theorem lL:Rows.collectorInvisibleRow.holds Tryz.pinned (OpenSpec.ofChange Rows.collectorInvisibleSpec):=
 OpenClaim.holds_of_wide 7 f7 rfl rfl rfl rfl rfl rfl rfl ⟨rfl,rfl,rfl,rfl,rfl⟩ rfl rfl rfl rfl rfl k_ func7 k_
  (H0 k_) (by unfold Func.isWrapper;first|(rw[U_ (by decide +kernel)];kernel_rfl)|(rw[R_ (by decide +kernel)];exact⟨rfl,rfl⟩))
  (λd a b c _=>lifted d a b c)
theorem proved:Rows.CollectorInvisibleSaid:=lL
#print axioms proved
end Go.Proofs.YtenbhdilndfaeaaGreat.collectorInvisible
