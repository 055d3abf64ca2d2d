import Derived.Test.YtenbhdilndfaeaaGreatR11
import Derived.Laws.MakeOwn
import Derived.Maps.Own
import Derived.Maps.Views
import Derived.OwnWalk
set_option maxRecDepth 100000
set_option maxHeartbeats 0
set_option linter.all false
namespace Go.Proofs.YtenbhdilndfaeaaGreat
open Go.RowKit Go.Proofs.Tryz
variable{E G:Prop}{P:Program}{ops:Array Oper}{o:Oper}{a:Act}{K:Act->World->Prop}{Q:Exit->Act->World->Prop}{m:Nat}{t:TypeId}(x:XP)
def KO(h:G:=by
 rw[h]at hj;injection hj with hj;subst hj
 show some ((#[Value.bool false,Value.int .i64 0])[j % 2]!)=_
 rw[h]
 rfl):G:=h
def Mv(h:G:=by
 intro h0;exact U_ h0 (Nat.mul_ne_zero MM MT)):G:=h
structure Kp(x y:XP):Prop where
 i3:y.i3=x.i3
 hq:y.hq=x.hq
 g9:y.g9=x.g9
 js:y.js=x.js
 sr:y.sr=x.sr
 h:y.h=x.h
 nx:y.nx=x.nx
def Kp.refl:Kp x x:=⟨rfl,rfl,rfl,rfl,rfl,rfl,rfl⟩
def Kp.trans{x y c:XP}(h:Kp x y)(k:Kp y c):Kp x c:=
 ⟨k.i3.trans h.i3,k.hq.trans h.hq,k.g9.trans h.g9,k.js.trans h.js,k.sr.trans h.sr,k.h.trans h.h,k.nx.trans h.nx⟩
def Kp.DA{x y:XP}(h:Kp x y)(e:qr)(b:Bool):Kp x {y with e:=e,hH:=b}:=⟨h.i3,h.hq,h.g9,h.js,h.sr,h.h,h.nx⟩
def te(id f:Int):Kp x (hJ x id f).1:=by
 unfold hJ;split
 .exact(Kp.refl x).DA _ _
 .split
  .exact Kp.refl x
  .exact(Kp.refl x).DA _ _
def vP:Kp x (iB x):=⟨rfl,rfl,rfl,rfl,rfl,rfl,rfl⟩
def uD:Kp x (hF x).1:=by
 unfold hF;simp only;split
 .exact vP x
 .exact(((vP x).trans (te _ 1 0)).DA _ _)
def C3{x y:XP}(h:Kp x y){i f c g:Int}{u v:Vl}{e:qr}:Kp x {h4 (h4 y i f u) c g v with e:=e}:=⟨h.i3,h.hq,h.g9,h.js,h.sr,h.h,h.nx⟩
def rH{v:Vl}:Kp x (iX x v):=by
 have a:=uD x;have b:=a.trans (te (hF x).1 (hF x).2.1 2);have c:=b.trans (te (hJ (hF x).1 (hF x).2.1 2).1 (hF x).2.1 0);unfold iX;simp only;split
 .exact a
 .split
  .exact b.DA _ _
  .split
   .exact C3 b
   .split
    .exact c.DA _ _
    .split
     .exact c.DA _ _
     .exact C3 c
def ti(v:Vl)(f:Int):Kp x (ih x v f).1:=by
 unfold ih;split
 .exact rH x
 .split
  .exact rH x
  .split
   .exact(Kp.refl x).DA _ _
   .split
    .exact rH x
    .exact Kp.refl x
def uM{w:World}(r:o.guard=none)(l c:Operand)(t:TypeId)(B:o.op=.makeSlice t l c)(e:TypeId)(i:TypeInfo)(d:Value)(g bytes:Nat)(j:P.underlying t=some (.slice e))(v:P.info? e=some i)(D:i.zero=some d)(C:i.size=g)(y:i.bytes=bytes)(k f:IntKind)(n:Int)(z:a.eval l=.int k n)(u:a.eval c=.int f n)(h0:0<=n)(s:(bytes:Int)*n<=281474976710656)(A:n<=9223372036854775807)(h:K (a.put o.dst (.slice (j_ w.heap.size) n.toNat n.toNat)) (w.alloc (.cells (madeCells d.cells (n.toNat*g)) e))):
 if Region.wanted o (yielded ops a.tmps)=true then Oper.wp P o a w K Q else E:=by
 have q:Region.wanted o (yielded ops a.tmps)=true:=by simp[Region.wanted,r]
 rw[O_ q];subst C;subst y;have p:=run_make (P:=P) w t e i d j v D k f n n h0 (FR _) s A;unfold Oper.wp execOp;simp only[B,Sem.run_bind,Sem.run_pure,Result.andThen_ok,z,u,p];exact h
def oI{d:Array Value}(c:Nat)(h:c<m):(madeCells d m)[c]?=some (d[c % d.size]!):=by
 unfold madeCells;simp[h]
def B7(w:World)(n:Nat):Vs (w.alloc (.cells (madeCells #[.bool false,Y 0] (n*2)) 38)) (j_ w.heap.size) (List.replicate n default):=by
 refine⟨by rw[lX],λ_=>⟨w.heap.size,0,_,(0,0),rfl,HN w _,?_⟩⟩;intro j e hj
 have c:=by
  have:=(GR.1 hj).1
  rw[lX,Gl]at this;exact this
 rw[W_,oI _ c];have d:j=(j / 2)*2+j % 2:=X;rw[d]at hj;unfold jd at hj;rw[jR Vl.E (λ_=>rfl) _ (j / 2) (j % 2) (by rw[Gl];omega) X]at hj;rw[HT]at hj
 rcases Hq j with h|h
 .exact KO
 .exact KO
section
open Go.RowKit Go.Maps
def B4(w:World):(zeroValue 3).run prog w=.ok (.int .i64 0) w:=by kernel_rfl
def Im(w:World)(b n:Nat)(f:Int->Int):Prop:=
 ∃D:DataW Unit,w.ownsMap prog 3 (plainElem prog 3) b n D/\IsMap D/\∀id:Int,(Lit.int .i64 id).wf=true->D.atKey (.int .i64 id) (.lit (.int .i64 0))=.lit (.int .i64 (f id))
section
variable{w w':World}{b n:Nat}{f:Int->Int}
def Im.made(w:World):Im (w.alloc (.map #[] 0)) w.heap.size 0 (λ_=>0):=
 ⟨.map [],World.ownsMap_made w _ _ _,⟨[],rfl⟩,λid _=>rfl⟩
def Im.lt(h:Im w b n f):b<w.heap.size:=by obtain⟨d,c,_⟩:=h;exact c.lt
def Im.iy(h:Im w b n f)(hb:w'.heap[b]?=w.heap[b]?):Im w' b n f:=LH
def Im.gr{c:List Nat}(h:Im w b n f)(e:J c w w')(d:b∉c):Im w' b n f:=h.iy (e.block b h.lt d)
def Im.lookup(h:Im w b n f){id:Int}(d:(Lit.int .i64 id).wf=true):(Instr.lookup 263 (.map (some b)) (.int .i64 id) false).run prog w=.ok (.int .i64 (f id)) w:=by
 obtain⟨k,i,p,j⟩:=h;obtain⟨l,e,c,_⟩:=i.lookup_int (int_keyed underlying3) underlying263 underlying3 (B4 w) (keyOf_int_mk underlying3 d);rw[j id d]at c;have g:=(Lit.int.inj (DataW.lit.inj c)).2;rw[g];exact e
def Im.update(h:Im w b n f)(q:n<maxLen){id v:Int}(g:(Lit.int .i64 id).wf=true)(r:(Lit.int .i64 v).wf=true):
 ∃w',(Instr.mapUpdate 263 (.map (some b)) (.int .i64 id) (.int .i64 v)).run prog w=.ok () w'/\Im w' b (n+1) (λi=>if i=id then v else f i)/\w.grownBy w' (some b):=by
 obtain⟨s,p,c,h3⟩:=h;obtain⟨w',d,j,l⟩:=p.update (int_keyed underlying3) underlying263 q (keyOf_int_mk underlying3 g) (plainElem_int underlying3 r);refine⟨w',d,⟨_,j,c.put _ _,λi hi=>?_⟩,l⟩
 by_cases he:i=id
 .subst he
  show _=DataW.lit (.int .i64 (if i=i then v else f i))
  rw[O_ rfl];exact atKey_put_same (k:=.int .i64 i) c trivial _ _
 .show _=DataW.lit (.int .i64 (if i=id then v else f i))
  exact Lz
end
def k2{w w':World}(j:o.guard=none){m k x:Operand}(p:o.op=.insert t m k x){d c V:Value}(e:a.eval m=d)(l:a.eval k=c)(q:a.eval x=V)(g:(Instr.mapUpdate t d c V).run P w=.ok () w')(h:K (a.put o.dst undef) w'):
 if Region.wanted o (yielded ops a.tmps)=true then Oper.wp P o a w K Q else E:=by
 have i:Region.wanted o (yielded ops a.tmps)=true:=by simp[Region.wanted,j]
 rw[O_ i];unfold Oper.wp execOp;simp only[p,Sem.run_bind,Sem.run_pure,Result.andThen_ok,e,l,q,g];exact h
def nY{w:World}(j:o.guard=none){m k:Operand}{v:Value}(p:o.op=.lookup t m k false){d c:Value}(e:a.eval m=d)(l:a.eval k=c)(g:(Instr.lookup t d c false).run P w=.ok v w)(h:K (a.put o.dst v) w):
 if Region.wanted o (yielded ops a.tmps)=true then Oper.wp P o a w K Q else E:=by
 have i:Region.wanted o (yielded ops a.tmps)=true:=by simp[Region.wanted,j]
 rw[O_ i];unfold Oper.wp execOp;simp only[p,Sem.run_bind,Sem.run_pure,Result.andThen_ok,e,l,g];exact h
end
def rP(w:World)(base:Nat)(t u ty e:TypeId)(k:IntKind)(i:TypeInfo)(c:Value)(B bytes:Nat)(p:P.underlying t=some (.slice e))(A:P.underlying u=some (.int k))(z:P.info? e=some i)(J:i.zero=some c)(C:i.size=B)(y:i.bytes=bytes)(O:c.cells.size=B)(aB:0<B)(h1:∀u∈(Builtin.zeroCells c.cells m).toList,u.oneCell'=true)(v:Value)(n:Nat)(xs:List Value)(j:w.ownsRow base e B v n xs)(c9:IntKind)(l:n+m<=maxLen)(f:(n+m)*bytes<=140737488355328)(L:0<bytes)(W:base<=w.heap.size):
 ∃A' c' w',(Builtin.append_ #[t,u] ty #[v,.int c9 (m:Int)]).run P w=.ok (.slice A' (n+m) c') w'/\w'.ownsRow base e B (.slice A' (n+m) c') (n+m) (xs++(Builtin.zeroCells c.cells m).toList)/\w.grownBy w' v.ownBlock:=by
 subst C;subst y
 have ad:n+m<=9223372036854775807:=by simp only[maxLen]at l;omega
 have o:(Builtin.zeroCells c.cells m).toList.length=m*i.size:=by rw[HI,size_zeroCells,O]
 have iG:(xs++(Builtin.zeroCells c.cells m).toList).length=(n+m)*i.size:=by rw[K_,j.1,o,G5]
 have dq:m*i.bytes<=140737488355328:=G_ (Hr _ X) f
 have H:IntKind.i64.wrap (m:Int)=(m:Int):=by rw[GX];omega
 have V:IntKind.i64.wrap 0=0:=by rw[GX];omega
 have M:¬((m:Int)<0):=X
 have N:¬(281474976710656<(m:Int)*(i.bytes:Int)):=by
  have:((m*i.bytes:Nat):Int)=(m:Int)*(i.bytes:Int):=s_
  omega
 have S:∀(old:Nat),old<n+m->∀(U:Option Nat),
  (w.drew.alloc (.cells (xs.toArray++Builtin.zeroCells c.cells m++Builtin.zeroCells c.cells (grownCap w (n+m) old e-(n+m))) e)).ownsRow base e i.size
    (.slice (j_ w.heap.size) (n+m) (grownCap w (n+m) old e)) (n+m) (xs++(Builtin.zeroCells c.cells m).toList)/\
  w.grownBy (w.drew.alloc (.cells (xs.toArray++Builtin.zeroCells c.cells m++Builtin.zeroCells c.cells (grownCap w (n+m) old e-(n+m))) e)) U:=by
  intro old ho U;have bt:=grownCap_ge w (n+m) old e;have D:=grownCap_le_maxLen w (n+m) old e l;refine⟨⟨iG,.inr ⟨w.heap.size,_,_,rfl,W,HN w.drew _,bt,D,?_,?_⟩⟩,⟨rfl,rfl,rfl,s_,λk I _=>(World.grownBy_alloc w.drew _ none).block k I s_⟩⟩
  .simp only[Array.size_append,List.size_toArray,size_zeroCells,O,j.1,<-G5];congr 1;omega
  .simp only[Array.toList_append,Ge];rw[<-Ge,<-iG];exact List.take_left
 rcases j.2 with⟨rfl,rfl⟩|⟨g,d,s,rfl,hbg,T,ae,D,Y,q⟩
 .have r:=Ga (zu j.1);subst r
  by_cases MM:m=0
  .subst MM;refine⟨none,0,w,?_,?_,⟨rfl,rfl,rfl,H_ _,λ_ _ _=>rfl⟩⟩
   .simp[Builtin.append_,Gq p,Gq A,sizeOf,typeInfo,z,asInt,asIntOf,V]
   .simpa[Builtin.zeroCells]using World.ownsRow_nil w base e i.size
  .have h:=S 0 X (Value.ownBlock (n_));have F:¬(9223372036854775807<(m:Int)):=X
   have b:¬(281474976710656<Builtin.nextslicecap m 0*i.bytes):=by
    have:=growslice_fits (need:=m) (old:=0) (bytes:=i.bytes) X X
    omega
   have MT:¬i.size=0:=X;simp only[W_,FU,Array.empty_append]at h |-;refine⟨_,_,_,?_,h.1,h.2⟩;simp[Builtin.append_,Gq p,Gq A,sizeOf,typeInfo,zeroValue,z,J,asInt,asIntOf,H,M,N,MM,F,b,Question.forced,run_firstCells_none,newRow,grownCap];exact Mv
 .by_cases a:n+m<=d
  .have R:n*i.size+(Builtin.zeroCells c.cells m).toList.length<=s.size:=by rw[o,Y,<-G5];exact Hr _ a
   have r:=run_storeCells_at P g (n*i.size) e (Builtin.zeroCells c.cells m).toList 0 s w T (zu R) h1;simp only[G0]at r;refine⟨some (Z g 0),d,w.setRow g (s.toList.take (n*i.size)++(Builtin.zeroCells c.cells m).toList++s.toList.drop (n*i.size+(Builtin.zeroCells c.cells m).toList.length)).toArray,?_,⟨iG,.inr ⟨g,d,_,rfl,hbg,setRow_heap w g s _ e _ T,a,D,?_,?_⟩⟩,⟨rfl,rfl,rfl,s_,λk _ I=>setRow_other w g k _ (λe=>I (by simp[Value.ownBlock,e]))⟩⟩
   .by_cases MM:m=0
    .subst MM
     have e0:Builtin.zeroCells c.cells 0=#[]:=by simp[Builtin.zeroCells]
     rw[e0]at r |-;simp at r;simp[Builtin.append_,Gq p,Gq A,sizeOf,typeInfo,z,asInt,asIntOf,V,ae,Addr.add_lit,r]
    .have MT:¬i.size=0:=X;simp[Builtin.append_,Gq p,Gq A,sizeOf,typeInfo,zeroValue,z,J,asInt,asIntOf,H,M,N,a,Addr.add_lit,r];exact Mv
   .simp only[List.size_toArray,K_,Gd,Hb,HI]at R |-;omega
   .rw[q,<-iG];exact List.take_left
  .have holds:∀r u,xs[r]?=some u->w.cell? (((Z g 0):Addr).add r)=some u:=j.cells (g:=g) rfl;have h:=S d X (Value.ownBlock (.slice (j_ g) n d));have R:=a;have F:¬(9223372036854775807<((n:Int)+(m:Int))):=X
   have b:¬(281474976710656<Builtin.nextslicecap (n+m) d*i.bytes):=by
    have:=growslice_fits (need:=n+m) (old:=d) (bytes:=i.bytes) X f
    omega
   have MM:¬m=0:=X;have MT:¬i.size=0:=X;have af:=run_firstCells_some (P:=P) w.drew i.size n (Z g 0) n d xs j.1 (zu holds);refine⟨_,_,_,?_,h.1,h.2⟩;simp[Builtin.append_,Gq p,Gq A,sizeOf,typeInfo,zeroValue,z,J,asInt,asIntOf,H,M,N,R,F,b,Question.forced,af,newRow,grownCap];exact Mv
def zd{w:World}(B:o.guard=none){s x:Operand}{u:TypeId}(ho:o.op=.call {callee:=.builtin .append,args:=#[s,x],argTypes:=#[t,u]})(k:IntKind)(H:P.underlying u=some (.int k))(base:Nat)(e:TypeId)(i:TypeInfo){d:Value}(c bytes:Nat)(p:P.underlying t=some (.slice e))(F:P.info? e=some i)(I:i.zero=some d)(C:i.size=c)(y:i.bytes=bytes)(j:d.cells.size=c)(q:0<c)(L:0<bytes)(m:Nat)(D:∀u∈(Builtin.zeroCells d.cells m).toList,u.oneCell'=true){v:Value}(n:Nat){xs:List Value}(hs:a.eval s=v)(A:w.ownsRow base e c v n xs)(g:IntKind)(hx:a.eval x=.int g (m:Int))(l:n+m<=maxLen)(f:(n+m)*bytes<=140737488355328)(z:base<=w.heap.size)(h:∀(A':OA) (c':Nat) (w':World),w'.ownsRow base e c (.slice A' (n+m) c') (n+m) (xs++(Builtin.zeroCells d.cells m).toList)->w.grownBy w' v.ownBlock->K (a.put o.dst (.slice A' (n+m) c')) w'):
 if Region.wanted o (yielded ops a.tmps)=true then Oper.wp P o a w K Q else E:=by
 have r:Region.wanted o (yielded ops a.tmps)=true:=by simp[Region.wanted,B]
 rw[O_ r];obtain⟨A',c',w',MT,h2,h3⟩:=rP (P:=P) w base t u o.type e k i d c bytes p H F I C y j q D v n xs A g l f L z;exact Kn
def vO(m:Nat):(Builtin.zeroCells #[.bool false,Y 0] m).toList=jd (List.replicate m default):=by
 apply HP;intro c
 by_cases e:c<m*2
 .have g:c=(c / 2)*2+c % 2:=X
  have i:(jd (List.replicate m (default:Vl)))[c]?=(Vl.E default)[c % 2]?:=by
   rw[g];unfold jd;rw[jR Vl.E (λ_=>rfl) _ (c / 2) (c % 2) (by rw[Gl];omega) X,HT];congr 1;omega
  rw[i]
  have h:(Builtin.zeroCells #[.bool false,Y 0] m).toList[c]?=some ((#[Value.bool false,Value.int .i64 0])[c % 2]!):=by
   simp[Builtin.zeroCells,e]
  rw[h]
  rcases Hq c with d|d
  .rw[d]
   rfl
  .rw[d]
   rfl
 .rw[F8 (by rw[HI,size_zeroCells];show m*2<=c;omega),F8 (by rw[lX,Gl];omega)]
def vi(m:Nat):∀u∈(Builtin.zeroCells #[.bool false,Y 0] m).toList,u.oneCell'=true:=by
 rw[vO];exact nE _
