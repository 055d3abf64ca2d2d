import Derived.Test.YtenbhdilndfaeaaGreatM12
import Derived.Laws.MakeOwn
import Derived.Maps.Own
import Derived.Maps.Views
import Derived.OwnWalk
set_option maxRecDepth 100000
set_option maxHeartbeats 0
set_option linter.all false
namespace Go.Proofs.YtenbhdilndfaeaaGreat
open Go.RowKit Go.Proofs.Tryz
variable{E G:Prop}{P:Program}{ops:Array Oper}{o:Oper}{a:Act}{K:Act->World->Prop}{Q:Exit->Act->World->Prop}{m:Nat}{t:TypeId}(x:XP)
def K5(h:G:=by
 rw[h]at hj;injection hj with hj;subst hj
 show some ((#[Value.bool false,Value.int .i64 0])[j % 2]!)=_
 rw[h]
 rfl):G:=h
def MA(h:G:=by
 intro h0;exact FU h0 (Nat.mul_ne_zero hm aC)):G:=h
structure Kp(x y:XP):Prop where
 jt:y.jt=x.jt
 hH:y.hH=x.hH
 hC:y.hC=x.hC
 j2:y.j2=x.j2
 sr:y.sr=x.sr
 h:y.h=x.h
 nx:y.nx=x.nx
def Kp.refl:Kp x x:=⟨rfl,rfl,rfl,rfl,rfl,rfl,rfl⟩
def Kp.trans{x y c:XP}(h:Kp x y)(k:Kp y c):Kp x c:=
 ⟨k.jt.trans h.jt,k.hH.trans h.hH,k.hC.trans h.hC,k.j2.trans h.j2,k.sr.trans h.sr,k.h.trans h.h,k.nx.trans h.nx⟩
def Kp.DI{x y:XP}(h:Kp x y)(e:p8)(b:Bool):Kp x {y with e:=e,hO:=b}:=⟨h.jt,h.hH,h.hC,h.j2,h.sr,h.h,h.nx⟩
def sG(id f:Int):Kp x (hW x id f).1:=by
 unfold hW;split
 .exact(Kp.refl x).DI _ _
 .split
  .exact Kp.refl x
  .exact(Kp.refl x).DI _ _
def vl:Kp x (iL x):=⟨rfl,rfl,rfl,rfl,rfl,rfl,rfl⟩
def ud:Kp x (hT x).1:=by
 unfold hT;simp only;split
 .exact vl x
 .exact(((vl x).trans (sG _ 1 0)).DI _ _)
def C7{x y:XP}(h:Kp x y){i f c g:Int}{u v:Vl}{e:p8}:Kp x {ib (ib y i f u) c g v with e:=e}:=⟨h.jt,h.hH,h.hC,h.j2,h.sr,h.h,h.nx⟩
def q5{v:Vl}:Kp x (jm x v):=by
 have a:=ud x;have b:=a.trans (sG (hT x).1 (hT x).2.1 2);have c:=b.trans (sG (hW (hT x).1 (hT x).2.1 2).1 (hT x).2.1 0);unfold jm;simp only;split
 .exact a
 .split
  .exact b.DI _ _
  .split
   .exact C7 b
   .split
    .exact c.DI _ _
    .split
     .exact c.DI _ _
     .exact C7 c
def sI(v:Vl)(f:Int):Kp x (iA x v f).1:=by
 unfold iA;split
 .exact q5 x
 .split
  .exact q5 x
  .split
   .exact(Kp.refl x).DI _ _
   .split
    .exact q5 x
    .exact Kp.refl x
def uk{w:World}(L:o.guard=none)(l c:Operand)(t:TypeId)(y:o.op=.makeSlice t l c)(e:TypeId)(i:TypeInfo)(d:Value)(g bytes:Nat)(z:P.underlying t=some (.slice e))(s:P.info? e=some i)(A:i.zero=some d)(q:i.size=g)(p:i.bytes=bytes)(m f:IntKind)(n:Int)(u:a.eval l=.int m n)(hc:a.eval c=.int f n)(h0:0<=n)(r:(bytes:Int)*n<=281474976710656)(v:n<=9223372036854775807)(h:K (a.put o.dst (.slice (j_ w.heap.size) n.toNat n.toNat)) (w.alloc (.cells (madeCells d.cells (n.toNat*g)) e))):
 if Region.wanted o (yielded ops a.tmps)=true then Oper.wp P o a w K Q else E:=by
 have k:Region.wanted o (yielded ops a.tmps)=true:=by simp[Region.wanted,L]
 rw[U_ k];subst q;subst p;have j:=run_make (P:=P) w t e i d z s A m f n n h0 (Gg _) r v;unfold Oper.wp execOp;simp only[y,Sem.run_bind,Sem.run_pure,Result.andThen_ok,u,hc,j];exact h
def oA{d:Array Value}(c:Nat)(h:c<m):(madeCells d m)[c]?=some (d[c % d.size]!):=by
 unfold madeCells;simp[h]
def B3(w:World)(n:Nat):Vs (w.alloc (.cells (madeCells #[.bool false,Y 0] (n*2)) 38)) (j_ w.heap.size) (List.replicate n default):=by
 refine⟨by rw[lU],λ_=>⟨w.heap.size,0,_,(0,0),rfl,HX w _,?_⟩⟩;intro j e hj
 have c:=by
  have:=(He.1 hj).1
  rw[lU,Gh]at this;exact this
 rw[W_,oA _ c];have d:j=(j / 2)*2+j % 2:=X;rw[d]at hj;unfold iO at hj;rw[j0 Vl.E (λ_=>rfl) _ (j / 2) (j % 2) (by rw[Gh];omega) X]at hj;rw[H5]at hj
 rcases Hx j with h|h
 .exact K5
 .exact K5
section
open Go.RowKit Go.Maps
def B0(w:World):(zeroValue 3).run prog w=.ok (.int .i64 0) w:=by kernel_rfl
def Im(w:World)(b n:Nat)(f:Int->Int):Prop:=
 ∃D:DataW Unit,w.ownsMap prog 3 (plainElem prog 3) b n D/\IsMap D/\∀id:Int,(Lit.int .i64 id).wf=true->D.atKey (.int .i64 id) (.lit (.int .i64 0))=.lit (.int .i64 (f id))
section
variable{w w':World}{b n:Nat}{f:Int->Int}
def Im.made(w:World):Im (w.alloc (.map #[] 0)) w.heap.size 0 (λ_=>0):=
 ⟨.map [],World.ownsMap_made w _ _ _,⟨[],rfl⟩,λid _=>rfl⟩
def Im.lookup(h:Im w b n f){id:Int}(c:(Lit.int .i64 id).wf=true):(Instr.lookup 263 (.map (some b)) (.int .i64 id) false).run prog w=.ok (.int .i64 (f id)) w:=by
 obtain⟨k,i,p,j⟩:=h;obtain⟨l,e,d,_⟩:=i.lookup_int (int_keyed underlying3) underlying263 underlying3 (B0 w) (keyOf_int_mk underlying3 c);rw[j id c]at d;have g:=(Lit.int.inj (DataW.lit.inj d)).2;rw[g];exact e
def Im.update(h:Im w b n f)(q:n<maxLen){id v:Int}(g:(Lit.int .i64 id).wf=true)(r:(Lit.int .i64 v).wf=true):
 ∃w',(Instr.mapUpdate 263 (.map (some b)) (.int .i64 id) (.int .i64 v)).run prog w=.ok () w'/\Im w' b (n+1) (λi=>if i=id then v else f i)/\w.grownBy w' (some b):=by
 obtain⟨s,p,c,h3⟩:=h;obtain⟨w',d,l,j⟩:=p.update (int_keyed underlying3) underlying263 q (keyOf_int_mk underlying3 g) (plainElem_int underlying3 r);refine⟨w',d,⟨_,l,c.put _ _,λi hi=>?_⟩,j⟩
 by_cases he:i=id
 .subst he
  show _=DataW.lit (.int .i64 (if i=i then v else f i))
  rw[U_ rfl];exact atKey_put_same (k:=.int .i64 i) c trivial _ _
 .show _=DataW.lit (.int .i64 (if i=id then v else f i))
  exact LL
end
def kU{w w':World}(L:o.guard=none){m k x:Operand}(l:o.op=.insert t m k x){c g R:Value}(j:a.eval m=c)(i:a.eval k=g)(p:a.eval x=R)(d:(Instr.mapUpdate t c g R).run P w=.ok () w')(h:K (a.put o.dst undef) w'):
 if Region.wanted o (yielded ops a.tmps)=true then Oper.wp P o a w K Q else E:=by
 have e:Region.wanted o (yielded ops a.tmps)=true:=by simp[Region.wanted,L]
 rw[U_ e];unfold Oper.wp execOp;simp only[l,Sem.run_bind,Sem.run_pure,Result.andThen_ok,j,i,p,d];exact h
def nV{w:World}(L:o.guard=none){m k:Operand}{v:Value}(l:o.op=.lookup t m k false){c g:Value}(j:a.eval m=c)(i:a.eval k=g)(d:(Instr.lookup t c g false).run P w=.ok v w)(h:K (a.put o.dst v) w):
 if Region.wanted o (yielded ops a.tmps)=true then Oper.wp P o a w K Q else E:=by
 have e:Region.wanted o (yielded ops a.tmps)=true:=by simp[Region.wanted,L]
 rw[U_ e];unfold Oper.wp execOp;simp only[l,Sem.run_bind,Sem.run_pure,Result.andThen_ok,j,i,d];exact h
end
def rg(w:World)(base:Nat)(t u ty e:TypeId)(k:IntKind)(i:TypeInfo)(c:Value)(F bytes:Nat)(B:P.underlying t=some (.slice e))(D:P.underlying u=some (.int k))(A:P.info? e=some i)(N:i.zero=some c)(q:i.size=F)(p:i.bytes=bytes)(C:c.cells.size=F)(aP:0<F)(h1:∀u∈(Builtin.zeroCells c.cells m).toList,u.oneCell'=true)(v:Value)(n:Nat)(h:List Value)(r:w.ownsRow base e F v n h)(dg:IntKind)(l:n+m<=maxLen)(y:(n+m)*bytes<=140737488355328)(MS:0<bytes)(aK:base<=w.heap.size):
 ∃A' c' w',(Builtin.append_ #[t,u] ty #[v,.int dg (m:Int)]).run P w=.ok (.slice A' (n+m) c') w'/\w'.ownsRow base e F (.slice A' (n+m) c') (n+m) (h++(Builtin.zeroCells c.cells m).toList)/\w.grownBy w' v.ownBlock:=by
 subst q;subst p
 have o:n+m<=9223372036854775807:=by simp only[maxLen]at l;omega
 have b:(Builtin.zeroCells c.cells m).toList.length=m*i.size:=by rw[HT,size_zeroCells,C]
 have iN:(h++(Builtin.zeroCells c.cells m).toList).length=(n+m)*i.size:=by rw[J_,r.1,b,G1]
 have dJ:m*i.bytes<=140737488355328:=G_ (Hy _ X) y
 have f:IntKind.i64.wrap (m:Int)=(m:Int):=by rw[Ha];omega
 have W:IntKind.i64.wrap 0=0:=by rw[Ha];omega
 have O:¬((m:Int)<0):=X
 have R:¬(281474976710656<(m:Int)*(i.bytes:Int)):=by
  have:((m*i.bytes:Nat):Int)=(m:Int)*(i.bytes:Int):=J
  omega
 have T:∀(old:Nat),old<n+m->∀(V:Option Nat),
  (w.drew.alloc (.cells (h.toArray++Builtin.zeroCells c.cells m++Builtin.zeroCells c.cells (grownCap w (n+m) old e-(n+m))) e)).ownsRow base e i.size
    (.slice (j_ w.heap.size) (n+m) (grownCap w (n+m) old e)) (n+m) (h++(Builtin.zeroCells c.cells m).toList)/\
  w.grownBy (w.drew.alloc (.cells (h.toArray++Builtin.zeroCells c.cells m++Builtin.zeroCells c.cells (grownCap w (n+m) old e-(n+m))) e)) V:=by
  intro old ho V;have bF:=grownCap_ge w (n+m) old e;have H:=grownCap_le_maxLen w (n+m) old e l;refine⟨⟨iN,.inr ⟨w.heap.size,_,_,rfl,aK,HX w.drew _,bF,H,?_,?_⟩⟩,⟨rfl,rfl,rfl,J,λk M _=>(World.grownBy_alloc w.drew _ none).block k M J⟩⟩
  .simp only[Array.size_append,List.size_toArray,size_zeroCells,C,r.1,<-G1];congr 1;omega
  .simp only[Array.toList_append,Gc];rw[<-Gc,<-iN];exact List.take_left
 rcases r.2 with⟨rfl,rfl⟩|⟨g,d,z,rfl,hbg,U,G,H,Y,ad⟩
 .have s:=FZ (zu r.1);subst s
  by_cases hm:m=0
  .subst hm;refine⟨none,0,w,?_,?_,⟨rfl,rfl,rfl,H_ _,λ_ _ _=>rfl⟩⟩
   .simp[Builtin.append_,Gu B,Gu D,sizeOf,typeInfo,A,asInt,asIntOf,W]
   .simpa[Builtin.zeroCells]using World.ownsRow_nil w base e i.size
  .have j:=T 0 X (Value.ownBlock (n_));have L:¬(9223372036854775807<(m:Int)):=X
   have I:¬(281474976710656<Builtin.nextslicecap m 0*i.bytes):=by
    have:=growslice_fits (need:=m) (old:=0) (bytes:=i.bytes) X X
    omega
   have aC:¬i.size=0:=X;simp only[W_,FY,Array.empty_append]at j |-;refine⟨_,_,_,?_,j.1,j.2⟩;simp[Builtin.append_,Gu B,Gu D,sizeOf,typeInfo,zeroValue,A,N,asInt,asIntOf,f,O,R,hm,L,I,Question.forced,run_firstCells_none,newRow,grownCap];exact MA
 .by_cases a:n+m<=d
  .have S:n*i.size+(Builtin.zeroCells c.cells m).toList.length<=z.size:=by rw[b,Y,<-G1];exact Hy _ a
   have s:=run_storeCells_at P g (n*i.size) e (Builtin.zeroCells c.cells m).toList 0 z w U (zu S) h1;simp only[Hb]at s;refine⟨some (Z g 0),d,w.setRow g (z.toList.take (n*i.size)++(Builtin.zeroCells c.cells m).toList++z.toList.drop (n*i.size+(Builtin.zeroCells c.cells m).toList.length)).toArray,?_,⟨iN,.inr ⟨g,d,_,rfl,hbg,setRow_heap w g z _ e _ U,a,H,?_,?_⟩⟩,⟨rfl,rfl,rfl,J,λk _ M=>setRow_other w g k _ (λe=>M (by simp[Value.ownBlock,e]))⟩⟩
   .by_cases hm:m=0
    .subst hm
     have aT:Builtin.zeroCells c.cells 0=#[]:=by simp[Builtin.zeroCells]
     rw[aT]at s |-;simp at s;simp[Builtin.append_,Gu B,Gu D,sizeOf,typeInfo,A,asInt,asIntOf,W,G,Addr.add_lit,s]
    .have aC:¬i.size=0:=X;simp[Builtin.append_,Gu B,Gu D,sizeOf,typeInfo,zeroValue,A,N,asInt,asIntOf,f,O,R,a,Addr.add_lit,s];exact MA
   .simp only[List.size_toArray,J_,Gj,G7,HT]at S |-;omega
   .rw[ad,<-iN];exact List.take_left
  .have holds:∀s u,h[s]?=some u->w.cell? (((Z g 0):Addr).add s)=some u:=r.cells (g:=g) rfl;have j:=T d X (Value.ownBlock (.slice (j_ g) n d));have hn:=a;have L:¬(9223372036854775807<((n:Int)+(m:Int))):=X
   have I:¬(281474976710656<Builtin.nextslicecap (n+m) d*i.bytes):=by
    have:=growslice_fits (need:=n+m) (old:=d) (bytes:=i.bytes) X y
    omega
   have hm:¬m=0:=X;have aC:¬i.size=0:=X;have S:=run_firstCells_some (P:=P) w.drew i.size n (Z g 0) n d h r.1 (zu holds);refine⟨_,_,_,?_,j.1,j.2⟩;simp[Builtin.append_,Gu B,Gu D,sizeOf,typeInfo,zeroValue,A,N,asInt,asIntOf,f,O,R,hn,L,I,Question.forced,S,newRow,grownCap];exact MA
def yP{w:World}(L:o.guard=none){s x:Operand}{u:TypeId}(ho:o.op=.call {callee:=.builtin .append,args:=#[s,x],argTypes:=#[t,u]})(k:IntKind)(J:P.underlying u=some (.int k))(base:Nat)(e:TypeId)(i:TypeInfo){d:Value}(c bytes:Nat)(I:P.underlying t=some (.slice e))(H:P.info? e=some i)(M:i.zero=some d)(q:i.size=c)(p:i.bytes=bytes)(C:d.cells.size=c)(B:0<c)(r:0<bytes)(m:Nat)(F:∀u∈(Builtin.zeroCells d.cells m).toList,u.oneCell'=true){v:Value}(n:Nat){g:List Value}(hs:a.eval s=v)(D:w.ownsRow base e c v n g)(j:IntKind)(hx:a.eval x=.int j (m:Int))(l:n+m<=maxLen)(y:(n+m)*bytes<=140737488355328)(A:base<=w.heap.size)(h:∀(A':OA) (c':Nat) (w':World),w'.ownsRow base e c (.slice A' (n+m) c') (n+m) (g++(Builtin.zeroCells d.cells m).toList)->w.grownBy w' v.ownBlock->K (a.put o.dst (.slice A' (n+m) c')) w'):
 if Region.wanted o (yielded ops a.tmps)=true then Oper.wp P o a w K Q else E:=by
 have z:Region.wanted o (yielded ops a.tmps)=true:=by simp[Region.wanted,L]
 rw[U_ z];obtain⟨A',c',w',N,h2,h3⟩:=rg (P:=P) w base t u o.type e k i d c bytes I J H M q p C B F v n g D j l y r A;exact KE
def vk(m:Nat):(Builtin.zeroCells #[.bool false,Y 0] m).toList=iO (List.replicate m default):=by
 apply HK;intro c
 by_cases e:c<m*2
 .have g:c=(c / 2)*2+c % 2:=X
  have i:(iO (List.replicate m (default:Vl)))[c]?=(Vl.E default)[c % 2]?:=by
   rw[g];unfold iO;rw[j0 Vl.E (λ_=>rfl) _ (c / 2) (c % 2) (by rw[Gh];omega) X,H5];congr 1;omega
  rw[i]
  have h:(Builtin.zeroCells #[.bool false,Y 0] m).toList[c]?=some ((#[Value.bool false,Value.int .i64 0])[c % 2]!):=by
   simp[Builtin.zeroCells,e]
  rw[h]
  rcases Hx c with d|d
  .rw[d]
   rfl
  .rw[d]
   rfl
 .rw[F2 (by rw[HT,size_zeroCells];show m*2<=c;omega),F2 (by rw[lU,Gh];omega)]
def uP(m:Nat):∀u∈(Builtin.zeroCells #[.bool false,Y 0] m).toList,u.oneCell'=true:=by
 rw[vk];exact nD _
