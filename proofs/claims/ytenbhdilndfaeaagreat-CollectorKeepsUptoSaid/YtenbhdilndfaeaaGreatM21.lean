import Derived.Test.YtenbhdilndfaeaaGreatM11
import Derived.Laws.MakeOwn
import Derived.Maps.Own
import Derived.Maps.Views
import Derived.OwnWalk
set_option maxRecDepth 100000
set_option maxHeartbeats 0
set_option linter.all false
namespace Go.Proofs.YtenbhdilndfaeaaGreat
open Go.RowKit Go.Proofs.Tryz
variable{E G:Prop}{P:Program}{ops:Array Oper}{o:Oper}{a:Act}{K:Act->World->Prop}{Q:Exit->Act->World->Prop}{m:Nat}{t:TypeId}(x:XP)
def Lt(h:G:=by
 rw[h]at hj;injection hj with hj;subst hj;show some ((#[Value.bool false,Value.int .i64 0])[j % 2]!)=_;rw[h];rfl):G:=h
def M6(h:G:=by
 intro h0;exact Gc h0 (Nat.mul_ne_zero hm Nu)):G:=h
structure Kp(x y:XP):Prop where
 jo:y.jo=x.jo
 hH:y.hH=x.hH
 hC:y.hC=x.hC
 j6:y.j6=x.j6
 sr:y.sr=x.sr
 h:y.h=x.h
 nx:y.nx=x.nx
def Kp.refl:Kp x x:=⟨rfl,rfl,rfl,rfl,rfl,rfl,rfl⟩
def Kp.trans{x y c:XP}(h:Kp x y)(k:Kp y c):Kp x c:=
 ⟨k.jo.trans h.jo,k.hH.trans h.hH,k.hC.trans h.hC,k.j6.trans h.j6,k.sr.trans h.sr,k.h.trans h.h,k.nx.trans h.nx⟩
def Kp.DO{x y:XP}(h:Kp x y)(e:p7)(b:Bool):Kp x {y with e:=e,hO:=b}:=⟨h.jo,h.hH,h.hC,h.j6,h.sr,h.h,h.nx⟩
def sG(id f:Int):Kp x (hW x id f).1:=by
 unfold hW;split;exact(Kp.refl x).DO _ _;split
 .exact Kp.refl x
 exact(Kp.refl x).DO _ _
def vM:Kp x (iJ x):=⟨rfl,rfl,rfl,rfl,rfl,rfl,rfl⟩
def uh:Kp x (hT x).1:=by
 unfold hT;simp only;split;exact vM x;exact(((vM x).trans (sG _ 1 0)).DO _ _)
def C9{x y:XP}(h:Kp x y){i f c g:Int}{u v:Vl}{e:p7}:Kp x {ib (ib y i f u) c g v with e:=e}:=⟨h.jo,h.hH,h.hC,h.j6,h.sr,h.h,h.nx⟩
def q6{v:Vl}:Kp x (jl x v):=by
 have a:=uh x;have b:=a.trans (sG (hT x).1 (hT x).2.1 2);have c:=b.trans (sG (hW (hT x).1 (hT x).2.1 2).1 (hT x).2.1 0);unfold jl;simp only;split;exact a;split
 .exact b.DO _ _
 split
 .exact C9 b
 split
 .exact c.DO _ _
 split
 .exact c.DO _ _
 exact C9 c
def sI(v:Vl)(f:Int):Kp x (iz x v f).1:=by
 unfold iz;split;exact q6 x;split
 .exact q6 x
 split
 .exact(Kp.refl x).DO _ _
 split
 .exact q6 x
 exact Kp.refl x
def uo{w:World}(r:o.guard=none)(l c:Operand)(t:TypeId)(A:o.op=.makeSlice t l c)(e:TypeId)(i:TypeInfo)(d:Value)(j bytes:Nat)(B:P.underlying t=some (.slice e))(v:P.info? e=some i)(C:i.zero=some d)(q:i.size=j)(p:i.bytes=bytes)(g f:IntKind)(n:Int)(y:a.eval l=.int g n)(hc:a.eval c=.int f n)(h0:0<=n)(u:(bytes:Int)*n<=281474976710656)(z:n<=9223372036854775807)(h:K (a.put o.dst (.slice (j_ w.heap.size) n.toNat n.toNat)) (w.alloc (.cells (madeCells d.cells (n.toNat*j)) e))):
 if Region.wanted o (yielded ops a.tmps)=true then Oper.wp P o a w K Q else E:=by
 have s:Region.wanted o (yielded ops a.tmps)=true:=by simp[Region.wanted,r]
 rw[U_ s];subst q;subst p;have k:=run_make (P:=P) w t e i d B v C g f n n h0 (GH _) u z;unfold Oper.wp execOp;simp only[A,Sem.run_bind,Sem.run_pure,Result.andThen_ok,y,hc,k];exact h
def oC{d:Array Value}(c:Nat)(h:c<m):(madeCells d m)[c]?=some (d[c % d.size]!):=by
 unfold madeCells;simp[h]
def B5(w:World)(n:Nat):Vs (w.alloc (.cells (madeCells #[.bool false,Y 0] (n*2)) 38)) (j_ w.heap.size) (List.replicate n default):=by
 refine⟨by rw[lZ],λ_=>⟨w.heap.size,0,_,(0,0),rfl,Ij w _,?_⟩⟩;intro j e hj;have c:=by
  have:=(HI.1 hj).1;rw[lZ,GJ]at this;exact this
 rw[X_,oC _ c];have d:j=(j / 2)*2+j % 2:=X;rw[d]at hj;unfold i5 at hj;rw[j4 Vl.E (λ_=>rfl) _ (j / 2) (j % 2) (by rw[GJ];omega) X]at hj;rw[Iq]at hj;rcases HX j with h|h
 exact Lt;exact Lt
section
open Go.RowKit Go.Maps
def B2(w:World):(zeroValue 3).run prog w=.ok (.int .i64 0) w:=by kernel_rfl
def Im(w:World)(b n:Nat)(f:Int->Int):Prop:=
 ∃D:DataW Unit,w.ownsMap prog 3 (plainElem prog 3) b n D/\IsMap D/\∀id:Int,(Lit.int .i64 id).wf=true->D.atKey (.int .i64 id) (.lit (.int .i64 0))=.lit (.int .i64 (f id))
section
variable{w w':World}{b n:Nat}{f:Int->Int}
def Im.made(w:World):Im (w.alloc (.map #[] 0)) w.heap.size 0 (λ_=>0):=
 ⟨.map [],World.ownsMap_made w _ _ _,⟨[],rfl⟩,λid _=>rfl⟩
def Im.lookup(h:Im w b n f){id:Int}(c:(Lit.int .i64 id).wf=true):(Instr.lookup 263 (.map (some b)) (.int .i64 id) false).run prog w=.ok (.int .i64 (f id)) w:=by
 obtain⟨k,i,p,j⟩:=h;obtain⟨l,e,d,_⟩:=i.lookup_int (int_keyed underlying3) underlying263 underlying3 (B2 w) (keyOf_int_mk underlying3 c);rw[j id c]at d;have g:=(Lit.int.inj (DataW.lit.inj d)).2;rw[g];exact e
def Im.update(h:Im w b n f)(q:n<maxLen){id v:Int}(g:(Lit.int .i64 id).wf=true)(r:(Lit.int .i64 v).wf=true):
 ∃w',(Instr.mapUpdate 263 (.map (some b)) (.int .i64 id) (.int .i64 v)).run prog w=.ok () w'/\Im w' b (n+1) (λi=>if i=id then v else f i)/\w.grownBy w' (some b):=by
 obtain⟨s,p,c,h3⟩:=h;obtain⟨w',d,j,l⟩:=p.update (int_keyed underlying3) underlying263 q (keyOf_int_mk underlying3 g) (plainElem_int underlying3 r);refine⟨w',d,⟨_,j,c.put _ _,λi hi=>?_⟩,l⟩;by_cases he:i=id;subst he;show _=DataW.lit (.int .i64 (if i=i then v else f i));rw[U_ rfl];exact atKey_put_same (k:=.int .i64 i) c trivial _ _;show _=DataW.lit (.int .i64 (if i=id then v else f i));exact Mg
end
def k1{w w':World}(d:o.guard=none){m k x:Operand}(l:o.op=.insert t m k x){c g M:Value}(j:a.eval m=c)(i:a.eval k=g)(p:a.eval x=M)(L:(Instr.mapUpdate t c g M).run P w=.ok () w')(h:K (a.put o.dst undef) w'):
 if Region.wanted o (yielded ops a.tmps)=true then Oper.wp P o a w K Q else E:=by
 have e:Region.wanted o (yielded ops a.tmps)=true:=by simp[Region.wanted,d]
 rw[U_ e];unfold Oper.wp execOp;simp only[l,Sem.run_bind,Sem.run_pure,Result.andThen_ok,j,i,p,L];exact h
def nX{w:World}(d:o.guard=none){m k:Operand}{v:Value}(l:o.op=.lookup t m k false){c g:Value}(j:a.eval m=c)(i:a.eval k=g)(L:(Instr.lookup t c g false).run P w=.ok v w)(h:K (a.put o.dst v) w):
 if Region.wanted o (yielded ops a.tmps)=true then Oper.wp P o a w K Q else E:=by
 have e:Region.wanted o (yielded ops a.tmps)=true:=by simp[Region.wanted,d]
 rw[U_ e];unfold Oper.wp execOp;simp only[l,Sem.run_bind,Sem.run_pure,Result.andThen_ok,j,i,L];exact h
end
def rh(w:World)(base:Nat)(t u ty e:TypeId)(k:IntKind)(i:TypeInfo)(c:Value)(C bytes:Nat)(A:P.underlying t=some (.slice e))(B:P.underlying u=some (.int k))(z:P.info? e=some i)(M:i.zero=some c)(q:i.size=C)(p:i.bytes=bytes)(y:c.cells.size=C)(aS:0<C)(h1:∀u∈(Builtin.zeroCells c.cells m).toList,u.oneCell'=true)(v:Value)(n:Nat)(xs:QW)(j:w.ownsRow base e C v n xs)(dj:IntKind)(l:n+m<=maxLen)(f:(n+m)*bytes<=140737488355328)(ad:0<bytes)(aG:base<=w.heap.size):
 ∃A' c' w',(Builtin.append_ #[t,u] ty #[v,.int dj (m:Int)]).run P w=.ok (.slice A' (n+m) c') w'/\w'.ownsRow base e C (.slice A' (n+m) c') (n+m) (xs++(Builtin.zeroCells c.cells m).toList)/\w.grownBy w' v.ownBlock:=by
 subst q;subst p;have ae:n+m<=9223372036854775807:=by simp only[maxLen]at l;omega
 have b:(Builtin.zeroCells c.cells m).toList.length=m*i.size:=by rw[Ih,size_zeroCells,y]
 have iF:(xs++(Builtin.zeroCells c.cells m).toList).length=(n+m)*i.size:=by rw[I_,j.1,b,Hp]
 have dL:m*i.bytes<=140737488355328:=G_ (HY _ X) f;have J:IntKind.i64.wrap (m:Int)=(m:Int):=by rw[Hy];omega
 have V:IntKind.i64.wrap 0=0:=by rw[Hy];omega
 have N:¬((m:Int)<0):=X;have O:¬(281474976710656<(m:Int)*(i.bytes:Int)):=by
  have:((m*i.bytes:Nat):Int)=(m:Int)*(i.bytes:Int):=H;omega
 have S:∀(old:Nat),old<n+m->∀(U:Option Nat),
  (w.drew.alloc (.cells (xs.toArray++Builtin.zeroCells c.cells m++Builtin.zeroCells c.cells (grownCap w (n+m) old e-(n+m))) e)).ownsRow base e i.size
    (.slice (j_ w.heap.size) (n+m) (grownCap w (n+m) old e)) (n+m) (xs++(Builtin.zeroCells c.cells m).toList)/\
  w.grownBy (w.drew.alloc (.cells (xs.toArray++Builtin.zeroCells c.cells m++Builtin.zeroCells c.cells (grownCap w (n+m) old e-(n+m))) e)) U:=by
  intro old ho U;have bK:=grownCap_ge w (n+m) old e;have D:=grownCap_le_maxLen w (n+m) old e l;refine⟨⟨iF,.inr ⟨w.heap.size,_,_,rfl,aG,Ij w.drew _,bK,D,?_,?_⟩⟩,⟨rfl,rfl,rfl,H,λk L _=>(World.grownBy_alloc w.drew _ none).block k L H⟩⟩;simp only[Array.size_append,List.size_toArray,size_zeroCells,y,j.1,<-Hp];congr 1;omega;simp only[Array.toList_append,GE];rw[<-GE,<-iF];exact List.take_left
 rcases j.2 with⟨rfl,rfl⟩|⟨g,d,s,rfl,hbg,T,W,D,Y,af⟩
 have r:=Gh (zu j.1);subst r;by_cases hm:m=0;subst hm;refine⟨none,0,w,?_,?_,⟨rfl,rfl,rfl,H_ _,λ_ _ _=>rfl⟩⟩
 .simp[Builtin.append_,G0 A,G0 B,sizeOf,typeInfo,z,asInt,asIntOf,V]
 simpa[Builtin.zeroCells]using World.ownsRow_nil w base e i.size;have h:=S 0 X (Value.ownBlock (n_));have I:¬(9223372036854775807<(m:Int)):=X;have F:¬(281474976710656<Builtin.nextslicecap m 0*i.bytes):=by
  have:=growslice_fits (need:=m) (old:=0) (bytes:=i.bytes) X X;omega
 have Nu:¬i.size=0:=X;simp only[X_,Gf,Array.empty_append]at h |-;refine⟨_,_,_,?_,h.1,h.2⟩;simp[Builtin.append_,G0 A,G0 B,sizeOf,typeInfo,zeroValue,z,M,asInt,asIntOf,J,N,O,hm,I,F,Question.forced,run_firstCells_none,newRow,grownCap];exact M6
 by_cases a:n+m<=d
 .have R:n*i.size+(Builtin.zeroCells c.cells m).toList.length<=s.size:=by rw[b,Y,<-Hp];exact HY _ a
  have r:=run_storeCells_at P g (n*i.size) e (Builtin.zeroCells c.cells m).toList 0 s w T (zu R) h1;simp only[HC]at r;refine⟨some (Z g 0),d,w.setRow g (s.toList.take (n*i.size)++(Builtin.zeroCells c.cells m).toList++s.toList.drop (n*i.size+(Builtin.zeroCells c.cells m).toList.length)).toArray,?_,⟨iF,.inr ⟨g,d,_,rfl,hbg,setRow_heap w g s _ e _ T,a,D,?_,?_⟩⟩,⟨rfl,rfl,rfl,H,λk _ L=>setRow_other w g k _ (λe=>L (by simp[Value.ownBlock,e]))⟩⟩;by_cases hm:m=0
  .subst hm;have aQ:Builtin.zeroCells c.cells 0=#[]:=by simp[Builtin.zeroCells]
   rw[aQ]at r |-;simp at r;simp[Builtin.append_,G0 A,G0 B,sizeOf,typeInfo,z,asInt,asIntOf,V,W,Addr.add_lit,r]
  have Nu:¬i.size=0:=X;simp[Builtin.append_,G0 A,G0 B,sizeOf,typeInfo,zeroValue,z,M,asInt,asIntOf,J,N,O,a,Addr.add_lit,r];exact M6;simp only[List.size_toArray,I_,Gp,GQ,Ih]at R |-;omega
  rw[af,<-iF];exact List.take_left
 have holds:∀r u,xs[r]?=some u->w.cell? (((Z g 0):Addr).add r)=some u:=j.cells (g:=g) rfl;have h:=S d X (Value.ownBlock (.slice (j_ g) n d));have R:=a;have I:¬(9223372036854775807<((n:Int)+(m:Int))):=X;have F:¬(281474976710656<Builtin.nextslicecap (n+m) d*i.bytes):=by
  have:=growslice_fits (need:=n+m) (old:=d) (bytes:=i.bytes) X f;omega
 have hm:¬m=0:=X;have Nu:¬i.size=0:=X;have o:=run_firstCells_some (P:=P) w.drew i.size n (Z g 0) n d xs j.1 (zu holds);refine⟨_,_,_,?_,h.1,h.2⟩;simp[Builtin.append_,G0 A,G0 B,sizeOf,typeInfo,zeroValue,z,M,asInt,asIntOf,J,N,O,R,I,F,Question.forced,o,newRow,grownCap];exact M6
def y1{w:World}(j:o.guard=none){s x:Operand}{u:TypeId}(ho:o.op=.call {callee:=.builtin .append,args:=#[s,x],argTypes:=#[t,u]})(k:IntKind)(I:P.underlying u=some (.int k))(base:Nat)(e:TypeId)(i:TypeInfo){d:Value}(c bytes:Nat)(H:P.underlying t=some (.slice e))(F:P.info? e=some i)(J:i.zero=some d)(q:i.size=c)(p:i.bytes=bytes)(y:d.cells.size=c)(A:0<c)(B:0<bytes)(m:Nat)(D:∀u∈(Builtin.zeroCells d.cells m).toList,u.oneCell'=true){v:Value}(n:Nat){xs:QW}(hs:a.eval s=v)(C:w.ownsRow base e c v n xs)(g:IntKind)(hx:a.eval x=.int g (m:Int))(l:n+m<=maxLen)(f:(n+m)*bytes<=140737488355328)(z:base<=w.heap.size)(h:∀(A':OA) (c':Nat) (w':World),w'.ownsRow base e c (.slice A' (n+m) c') (n+m) (xs++(Builtin.zeroCells d.cells m).toList)->w.grownBy w' v.ownBlock->K (a.put o.dst (.slice A' (n+m) c')) w'):
 if Region.wanted o (yielded ops a.tmps)=true then Oper.wp P o a w K Q else E:=by
 have r:Region.wanted o (yielded ops a.tmps)=true:=by simp[Region.wanted,j]
 rw[U_ r];obtain⟨A',c',w',L,h2,h3⟩:=rh (P:=P) w base t u o.type e k i d c bytes H I F J q p y A D v n xs C g l f B z;exact KZ
def vL(m:Nat):(Builtin.zeroCells #[.bool false,Y 0] m).toList=i5 (List.replicate m default):=by
 apply Ic;intro c;by_cases e:c<m*2;have g:c=(c / 2)*2+c % 2:=X;have i:(i5 (List.replicate m (default:Vl)))[c]?=(Vl.E default)[c % 2]?:=by
  rw[g];unfold i5;rw[j4 Vl.E (λ_=>rfl) _ (c / 2) (c % 2) (by rw[GJ];omega) X,Iq];congr 1;omega
 rw[i];have h:(Builtin.zeroCells #[.bool false,Y 0] m).toList[c]?=some ((#[Value.bool false,Value.int .i64 0])[c % 2]!):=by
  simp[Builtin.zeroCells,e]
 rw[h];rcases HX c with d|d
 rw[d];rfl;rw[d];rfl;rw[Gk (by rw[Ih,size_zeroCells];show m*2<=c;omega),Gk (by rw[lZ,GJ];omega)]
def uY(m:Nat):∀u∈(Builtin.zeroCells #[.bool false,Y 0] m).toList,u.oneCell'=true:=by
 rw[vL];exact mI _
