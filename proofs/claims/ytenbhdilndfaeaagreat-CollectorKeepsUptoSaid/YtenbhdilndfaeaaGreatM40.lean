import Derived.Test.YtenbhdilndfaeaaGreatM34
import Derived.Test.YtenbhdilndfaeaaGreatM39
import Derived.JoinedCond
set_option maxRecDepth 100000
namespace Go.Proofs.YtenbhdilndfaeaaGreat.collectorKeeps
open Go.ChangeShapes Go.WideShapes Go.ChangeAt Go.RowKit Go.Proofs.Tryz
open Go.ChangeMaps (open_string shut_string)
set_option linter.all false
def own:ownKnob prog.godebug=none:=by kernel_rfl
def laidOut:laidOutB prog=true:=by kernel_rfl
def Dk(k:IntKind)(w:World)(a:Option Addr)(len lR:Nat)(zs:QR):Prop:=
 (a=none/\len=0/\lR=0/\zs=[])∨
 ∃x,a=some x/\len<=lR/\lR<=maxLen/\zs.length=lR/\(∀i,i<zs.length->w.cell? (x.add i)=some (.int k (zs.getD i 0)))/\∀n∈zs,(Lit.int k n).wf=true
def walk(g:OA)(o r:Nat)(m:QR)(b:OA)(c1:Nat)(rs:QR)(c:OA)(d:Nat)(ts:QB)(q p:TypeId)(w:World)(z:Dk .u8 w g o r m)(h:Sl w q 1 b rs.length (zs rs))(k:rs.length<=2000000)(i:Sl w p 48 c ts.length (ts.flatMap λt=>t.g_.toList))(f:∀t∈ts,rC w t)(l:ts.length<=2000000)(j:∀t∈ts,t.gs.l.length<=2000000/\t.rs.l.length<=2000000/\t.ws.l.length<=2000000/\t.ds.l.length<=2000000/\t.nw.l.length<=2000000/\(jr (hX t.nw.l)).length<=2000000):
 Calls prog 6 #[.slice g o r,.slice b rs.length c1,.slice c ts.length d] w λe w'=>e=.returned (.bool true)/\Below w.heap.size w w':=by
 rcases z with⟨rfl,rfl,rfl,rfl⟩|⟨A,rfl,x,s,B,u,n⟩
 refine(uE ww none 0 0 [] 0 w (GU _ _ _ _) (λv=>by simp) X X b c c1 d rs ts h k i f l j).mono λe w' a=>⟨a.1,a.2.vW⟩;obtain⟨v,y⟩:=v2 (len:=o) X u;refine(uE ww (some A) o r (m.take o) v w y (Cb n) x (by unfold maxLen at s;omega) b c c1 d rs ts h k i f l j).mono λe w' a=>⟨a.1,a.2.vW⟩
def lifted(os:Go.Os)(i:os.Started)(R:Type)(enc:TypeId × Value->R)(f:Stop.Interp):
 ReturnsInHanded {} checked os 6 .any ((Rows.OpenSpec.upto Rows.collectorKeepsSpec).pre6 enc prog f6 Rows.collectorKeepsUptoRow.domain false) (((Rows.OpenSpec.upto Rows.collectorKeepsSpec).at f).post enc prog f6 false true false false):=by
 refine returnsInHanded_of_cond (C:=checked) (s:=Rows.OpenSpec.upto Rows.collectorKeepsSpec) (k:=Rows.uptoSmall) rfl own i k_ func6
  (OpenSpec.witness (enc:=enc) (C:=checked) (s:=Rows.OpenSpec.upto Rows.collectorKeepsSpec) (k:=Rows.uptoSmall) rfl false ⟨#[],#[n_,n_,n_],[]⟩ 8 k_ k_ k_ (x:=([.nil,.nil,.nil],[],[])) k_ k_ k_) ?_
 intro a base g ds gs before E p ad bR _;have e:∀(B:Nat) H I,f6.params[B]?=some H->g[B]?=some I->Value.okWide prog a .any base H I:=E;have ae:=p;obtain⟨af,ag,m,U,rfl,ai,Nv⟩:=p;have z:DataW.TrodAll enc prog a 0 (λ_=>true) true f6.params.toList g.toList ds af:=m;rw[params6]at z e;obtain⟨J,ak,N,al,p0,bz,Nu,rfl,rfl,v,Y⟩:=trodAll_cons z;obtain⟨K,am,q,an,p1,br,rfl,rfl,rfl,w,r1⟩:=trodAll_cons Y;obtain⟨o,ao,t,ap,O,bG,rfl,rfl,rfl,y,r2⟩:=trodAll_cons r1;obtain⟨rfl,rfl,rfl⟩:=trodAll_nil r2;obtain rfl:g=#[J,K,o]:=by cases g;simp_all
 obtain⟨rfl,rfl⟩:=trodVars_none U;have Nq:Rows.uptoBulk N+(Rows.uptoBulk q+(Rows.uptoBulk t+0))<=1048576:=HW bR;obtain⟨n,F,G,rfl⟩:=okWide_slice underlying22 (e 0 22 J rfl rfl);have D:=v;have aq:∀x∈p0,x.block<a.heap.size:=by obtain⟨d,b⟩:=D;exact DataW.trod_lt d _ _ _ b
 obtain⟨z0,w0⟩:∃zs,Dk .u8 a n F G zs:=by
  obtain⟨fuel,hf⟩:=v;rcases open_ints underlying22 underlying5 k_ hf with⟨c,_⟩|⟨x,ar,au,zs,c,_,hl,b,hz,_,Z,Q⟩
  simp[Value.cells]at c;obtain⟨rfl,rfl,rfl⟩:=c;exact⟨[],.inl ⟨rfl,rfl,rfl,rfl⟩⟩;simp[Value.cells]at c;obtain⟨rfl,rfl,rfl⟩:=c;exact⟨zs,.inr ⟨_,rfl,hl,b,by simpa using hz,Z,Q⟩⟩
 have r:=w;have av:∀x∈p1,x.block<a.heap.size:=by obtain⟨d,b⟩:=r;exact DataW.trod_lt d _ _ _ b
 have u:=y;have ax:∀x∈O,x.block<a.heap.size:=by obtain⟨d,b⟩:=u;exact DataW.trod_lt d _ _ _ b
 obtain⟨bp,ah,aR,rfl⟩:=okWide_slice underlying27 (e 1 27 K rfl rfl);obtain⟨aD,ay,aZ,rfl⟩:=okWide_slice underlying41 (e 2 41 o rfl rfl);obtain⟨bL,az⟩:=w;obtain⟨cf,aA⟩:=y;obtain⟨M,c1,j,T,A,s1,n1⟩:=zx az;obtain⟨X,W,ts,S,l,V,P,n2,hb⟩:=AZ aA (by show Rows.uptoBulk t<=_;omega);rw[A,l];have L:j.length<=2000000:=by have ag:j.length+1<=Rows.uptoBulk q:=n1;omega
 clear m E;refine(walk n F G z0 M c1 j X W ts T S a w0 s1 L V P n2 hb).mono λaB aC⟨he,h⟩=>?_;rw[<-A,<-l];subst he;exact⟨_,rfl,_,_,_,[],_,[],ae,trodAll_mk1 (shut_bool underlying4 _),(trodAll_cons_mk (Below.trod laidOut k_ (HW k_) D h aq) (trodAll_cons_mk (Below.trod laidOut k_ (HW k_) r h av) (trodAll_cons_mk (Below.trod laidOut k_ (HW k_) u h ax) trodAll_mk0))),rfl,h.frame _,λaF=>by cases aF⟩
end Go.Proofs.YtenbhdilndfaeaaGreat.collectorKeeps
