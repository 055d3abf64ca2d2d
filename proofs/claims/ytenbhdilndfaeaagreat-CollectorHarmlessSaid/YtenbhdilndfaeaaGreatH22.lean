import Derived.Laws.MakeOwn
import Derived.Maps.Own
import Derived.Maps.Views
import Derived.Test.YtenbhdilndfaeaaGreatH12
set_option maxRecDepth 100000
set_option maxHeartbeats 0
set_option linter.all false
namespace Go.Proofs.YtenbhdilndfaeaaGreat
open Go.RowKit Go.Proofs.Tryz
section
variable{E G:Prop}{P:Program}{ops:Array Oper}{o:Oper}{a:Act}{K:Act->World->Prop}{Q:Exit->Act->World->Prop}{m:Nat}{t:TypeId}(x:XP)
def LY(h:G:=by
 rw[h]at hj;injection hj with hj;subst hj;show some ((#[Value.bool false,Value.int .i64 0])[j % 2]!)=_;rw[h];rfl):G:=h
def NC(h:G:=by
 intro h0;exact GR h0<|Nat.mul_ne_zero hm aH):G:=h
structure Kp(x y:XP):Prop where
 ju:y.ju=x.ju
 hH:y.hH=x.hH
 hC:y.hC=x.hC
 j4:y.j4=x.j4
 sr:y.sr=x.sr
 h:y.h=x.h
 nx:y.nx=x.nx
def Kp.refl:Kp x x:=⟨rfl,rfl,rfl,rfl,rfl,rfl,rfl⟩
def Kp.trans{x y z:XP}(h:Kp x y)(k:Kp y z):Kp x z:=
 ⟨k.ju.trans h.ju,k.hH.trans h.hH,k.hC.trans h.hC,k.j4.trans h.j4,k.sr.trans h.sr,k.h.trans h.h,k.nx.trans h.nx⟩
def Kp.Ey{x y:XP}(h:Kp x y)(e:pC)(b:Bool):Kp x {y with e:=e,hM:=b}:=⟨h.ju,h.hH,h.hC,h.j4,h.sr,h.h,h.nx⟩
def tp(id f:Int):Kp x (hQ x id f).1:=by
 unfold hQ;split;exact(Kp.refl x).Ey _ _;split
 .exact Kp.refl x
 exact(Kp.refl x).Ey _ _
def wu:Kp x (iv x):=⟨rfl,rfl,rfl,rfl,rfl,rfl,rfl⟩
def uR:Kp x (hO x).1:=by
 unfold hO;simp only;split;exact wu x;exact(((wu x).trans<|tp _ 1 0).Ey _ _)
def DT{x y:XP}(h:Kp x y){i f c g:Int}{u v:Vl}{e:pC}:Kp x {h6 (h6 y i f u) c g v with e:=e}:=⟨h.ju,h.hH,h.hC,h.j4,h.sr,h.h,h.nx⟩
def rK{v:Vl}:Kp x (iX x v):=by
 have a:=uR x;have b:=a.trans<|tp (hO x).1 (hO x).2.1 2;have c:=b.trans<|tp (hQ (hO x).1 (hO x).2.1 2).1 (hO x).2.1 0;unfold iX;simp only;split;exact a;split
 .exact b.Ey _ _
 split
 .exact DT b
 split
 .exact c.Ey _ _
 split
 .exact c.Ey _ _
 exact DT c
def tt(v:Vl)(f:Int):Kp x (ik x v f).1:=by
 unfold ik;split;exact rK x;split
 .exact rK x
 split
 .exact(Kp.refl x).Ey _ _
 split
 .exact rK x
 exact Kp.refl x
def u_{w:World}(k:o.guard=none)(l c:Operand)(t:TypeId)(y:o.op=.makeSlice t l c)(e:TypeId)(i:TypeInfo)(z:Value)(d bytes:Nat)(A:P.underlying t=some (.slice e))(s:P.info? e=some i)(B:i.zero=some z)(q:i.size=d)(p:i.bytes=bytes)(C f:IntKind)(n:Int)(u:a.eval l=.int C n)(hc:a.eval c=.int f n)(h0:0<=n)(r:(bytes:Int)*n<=281474976710656)(v:n<=9223372036854775807)(h:K (a.put o.dst<|.slice (j_ w.heap.size) n.toNat n.toNat)<|w.alloc<|.cells (madeCells z.cells<|n.toNat*d) e):
 if Region.wanted o (yielded ops a.tmps)=true then Oper.wp P o a w K Q else E:=by
 have j:Region.wanted o (yielded ops a.tmps)=true:=by simp[Region.wanted,k]
 rw[L_ j];subst q;subst p;have g:=run_make (P:=P) w t e i z A s B C f n n h0 (Hl _) r v;unfold Oper.wp execOp;simp only[y,Sem.run_bind,Sem.run_pure,Result.andThen_ok,u,hc,g];exact h
def oN{z:Array Value}(c:Nat)(h:c<m):(madeCells z m)[c]?=some (z[c % z.size]!):=by
 unfold madeCells;simp[h]
def CP(w:World)(n:Nat):Vs (w.alloc<|.cells (madeCells #[.bool false,Y 0]<|n*2) 38) (j_ w.heap.size) (List.replicate n default):=by
 refine⟨by rw[l3],λ_=>⟨w.heap.size,0,_,(0,0),rfl,IY w _,?_⟩⟩;intro j e hj;have c:=by
  have:=(Ie.1 hj).1;rw[l3,Hm]at this;exact this
 rw[U_,oN _ c];have d:j=(j / 2)*2+j % 2:=X;rw[d]at hj;unfold jo at hj;rw[j7 Vl.E (λ_=>rfl) _ (j / 2) (j % 2) (by rw[Hm];omega) X]at hj;rw[I3]at hj;rcases Ix j with h|h
 exact LY;exact LY
section
open Go.RowKit Go.Maps
def CM(w:World):(zeroValue 3).run prog w=.ok (.int .i64 0) w:=by kernel_rfl
def Im(w:World)(b n:Nat)(f:Int->Int):Prop:=
 ∃D:DataW Unit,w.ownsMap prog 3 (plainElem prog 3) b n D/\IsMap D/\∀id:Int,(Lit.int .i64 id).wf=true->D.atKey (.int .i64 id) (.lit<|.int .i64 0)=.lit (.int .i64<|f id)
section
variable{w w':World}{b n:Nat}{f:Int->Int}
def Im.made(w:World):Im (w.alloc<|.map #[] 0) w.heap.size 0 (λ_=>0):=
 ⟨.map [],World.ownsMap_made w _ _ _,⟨[],rfl⟩,λid _=>rfl⟩
def Im.lt(h:Im w b n f):b<w.heap.size:=by obtain⟨d,c,_⟩:=h;exact c.lt
def Im.iF(h:Im w b n f)(hb:w'.heap[b]?=w.heap[b]?):Im w' b n f:=MV
def Im.gr{M:QY}(h:Im w b n f)(d:J M w w')(c:b∉M):Im w' b n f:=h.iF<|d.block b h.lt c
def Im.lookup(h:Im w b n f){id:Int}(c:(Lit.int .i64 id).wf=true):(Instr.lookup 263 (.map<|some b) (.int .i64 id) false).run prog w=.ok (.int .i64<|f id) w:=by
 obtain⟨k,i,p,j⟩:=h;obtain⟨l,e,d,_⟩:=i.lookup_int (int_keyed underlying3) underlying263 underlying3 (CM w)<|keyOf_int_mk underlying3 c;rw[j id c]at d;have g:=(Lit.int.inj<|DataW.lit.inj d).2;rw[g];exact e
def Im.update(h:Im w b n f)(q:n<maxLen){id v:Int}(g:(Lit.int .i64 id).wf=true)(r:(Lit.int .i64 v).wf=true):
 ∃w',(Instr.mapUpdate 263 (.map<|some b) (.int .i64 id)<|.int .i64 v).run prog w=.ok () w'/\Im w' b (n+1) (λi=>if i=id then v else f i)/\w.grownBy w' (some b):=by
 obtain⟨s,p,c,h3⟩:=h;obtain⟨w',d,j,l⟩:=p.update (int_keyed underlying3) underlying263 q (keyOf_int_mk underlying3 g)<|plainElem_int underlying3 r;refine⟨w',d,⟨_,j,c.put _ _,λi hi=>?_⟩,l⟩;by_cases he:i=id;subst he;show _=DataW.lit (.int .i64 (if i=i then v else f i));rw[L_ rfl];exact atKey_put_same (k:=.int .i64 i) c trivial _ _;show _=DataW.lit (.int .i64 (if i=id then v else f i));exact MJ
end
def k9{w w':World}(j:o.guard=none){m k x:Operand}(q:o.op=.insert t m k x){c g d:Value}(p:a.eval m=c)(l:a.eval k=g)(r:a.eval x=d)(e:(Instr.mapUpdate t c g d).run P w=.ok () w')(h:K (a.put o.dst undef) w'):
 if Region.wanted o (yielded ops a.tmps)=true then Oper.wp P o a w K Q else E:=by
 have i:Region.wanted o (yielded ops a.tmps)=true:=by simp[Region.wanted,j]
 rw[L_ i];unfold Oper.wp execOp;simp only[q,Sem.run_bind,Sem.run_pure,Result.andThen_ok,p,l,r,e];exact h
def oa{w:World}(i:o.guard=none){m k:Operand}{v:Value}(p:o.op=.lookup t m k false){c g:Value}(l:a.eval m=c)(j:a.eval k=g)(d:(Instr.lookup t c g false).run P w=.ok v w)(h:K (a.put o.dst v) w):
 if Region.wanted o (yielded ops a.tmps)=true then Oper.wp P o a w K Q else E:=by
 have e:Region.wanted o (yielded ops a.tmps)=true:=by simp[Region.wanted,i]
 rw[L_ e];unfold Oper.wp execOp;simp only[p,Sem.run_bind,Sem.run_pure,Result.andThen_ok,l,j,d];exact h
end
def rU(w:World)(base:Nat)(t u ty e:TypeId)(k:IntKind)(i:TypeInfo)(z:Value)(F bytes:Nat)(B:P.underlying t=some (.slice e))(D:P.underlying u=some (.int k))(A:P.info? e=some i)(N:i.zero=some z)(q:i.size=F)(p:i.bytes=bytes)(C:z.cells.size=F)(ak:0<F)(h1:∀u∈(Builtin.zeroCells z.cells m).toList,u.oneCell'=true)(v:Value)(n:Nat)(d:QX)(j:w.ownsRow base e F v n d)(dk:IntKind)(l:n+m<=maxLen)(y:(n+m)*bytes<=140737488355328)(ad:0<bytes)(aE:base<=w.heap.size):
 ∃A' c' w',(Builtin.append_ #[t,u] ty #[v,.int dk (m:Int)]).run P w=.ok (.slice A' (n+m) c') w'/\w'.ownsRow base e F (.slice A' (n+m) c') (n+m) (d++(Builtin.zeroCells z.cells m).toList)/\w.grownBy w' v.ownBlock:=by
 subst q;subst p;have o:n+m<=9223372036854775807:=by simp only[maxLen]at l;omega
 have b:(Builtin.zeroCells z.cells m).toList.length=m*i.size:=by rw[IU,size_zeroCells,C]
 have iS:(d++(Builtin.zeroCells z.cells m).toList).length=(n+m)*i.size:=by rw[M_,j.1,b,HY]
 have dG:m*i.bytes<=140737488355328:=H_ (Iy _ X) y;have H:IntKind.i64.wrap (m:Int)=(m:Int):=by rw[Ic];omega
 have W:IntKind.i64.wrap 0=0:=by rw[Ic];omega
 have O:¬((m:Int)<0):=X;have R:¬(281474976710656<(m:Int)*(i.bytes:Int)):=by
  have:((m*i.bytes:Nat):Int)=(m:Int)*(i.bytes:Int):=s_;omega
 have T:∀(old:Nat),old<n+m->∀(V:Option Nat),
  (w.drew.alloc<|.cells (d.toArray++Builtin.zeroCells z.cells m++Builtin.zeroCells z.cells (grownCap w (n+m) old e-(n+m))) e).ownsRow base e i.size
    (.slice (j_ w.heap.size) (n+m)<|grownCap w (n+m) old e) (n+m) (d++(Builtin.zeroCells z.cells m).toList)/\
  w.grownBy (w.drew.alloc<|.cells (d.toArray++Builtin.zeroCells z.cells m++Builtin.zeroCells z.cells (grownCap w (n+m) old e-(n+m))) e) V:=by
  intro old ho V;have bI:=grownCap_ge w (n+m) old e;have I:=grownCap_le_maxLen w (n+m) old e l;refine⟨⟨iS,.inr ⟨w.heap.size,_,_,rfl,aE,IY w.drew _,bI,I,?_,?_⟩⟩,⟨rfl,rfl,rfl,s_,λk M _=>(World.grownBy_alloc w.drew _ none).block k M s_⟩⟩;simp only[Array.size_append,List.size_toArray,size_zeroCells,C,j.1,<-HY];congr 1;omega;simp only[Array.toList_append,Hq];rw[<-Hq,<-iS];exact List.take_left
 rcases j.2 with⟨rfl,rfl⟩|⟨g,c,s,rfl,hbg,U,G,I,Y,ae⟩
 have r:=G1<|zu j.1;subst r;by_cases hm:m=0;subst hm;refine⟨none,0,w,?_,?_,⟨rfl,rfl,rfl,I_ _,λ_ _ _=>rfl⟩⟩
 .simp[Builtin.append_,Hu B,Hu D,sizeOf,typeInfo,A,asInt,asIntOf,W]
 simpa[Builtin.zeroCells]using World.ownsRow_nil w base e i.size;have h:=T 0 X<|Value.ownBlock<|n_;have L:¬(9223372036854775807<(m:Int)):=X;have J:¬(281474976710656<Builtin.nextslicecap m 0*i.bytes):=by
  have:=growslice_fits (need:=m) (old:=0) (bytes:=i.bytes) X X;omega
 have aH:¬i.size=0:=X;simp only[U_,G0,Array.empty_append]at h |-;refine⟨_,_,_,?_,h.1,h.2⟩;simp[Builtin.append_,Hu B,Hu D,sizeOf,typeInfo,zeroValue,A,N,asInt,asIntOf,H,O,R,hm,L,J,Question.forced,run_firstCells_none,newRow,grownCap];exact NC
 by_cases a:n+m<=c
 .have S:n*i.size+(Builtin.zeroCells z.cells m).toList.length<=s.size:=by rw[b,Y,<-HY];exact Iy _ a
  have r:=run_storeCells_at P g (n*i.size) e (Builtin.zeroCells z.cells m).toList 0 s w U (zu S) h1;simp only[Id]at r;refine⟨some<|Z g 0,c,w.setRow g (s.toList.take (n*i.size)++(Builtin.zeroCells z.cells m).toList++s.toList.drop (n*i.size+(Builtin.zeroCells z.cells m).toList.length)).toArray,?_,⟨iS,.inr ⟨g,c,_,rfl,hbg,setRow_heap w g s _ e _ U,a,I,?_,?_⟩⟩,⟨rfl,rfl,rfl,s_,λk _ M=>setRow_other w g k _ λe=>M<|by simp[Value.ownBlock,e]⟩⟩;by_cases hm:m=0
  .subst hm;have aT:Builtin.zeroCells z.cells 0=#[]:=by simp[Builtin.zeroCells]
   rw[aT]at r |-;simp at r;simp[Builtin.append_,Hu B,Hu D,sizeOf,typeInfo,A,asInt,asIntOf,W,G,Addr.add_lit,r]
  have aH:¬i.size=0:=X;simp[Builtin.append_,Hu B,Hu D,sizeOf,typeInfo,zeroValue,A,N,asInt,asIntOf,H,O,R,a,Addr.add_lit,r];exact NC;simp only[List.size_toArray,M_,Hj,Ib,IU]at S |-;omega
  rw[ae,<-iS];exact List.take_left
 have holds:∀r u,d[r]?=some u->w.cell? (((Z g 0):Addr).add r)=some u:=j.cells (g:=g) rfl;have h:=T c X<|Value.ownBlock<|.slice (j_ g) n c;have S:=a;have L:¬(9223372036854775807<((n:Int)+(m:Int))):=X;have J:¬(281474976710656<Builtin.nextslicecap (n+m) c*i.bytes):=by
  have:=growslice_fits (need:=n+m) (old:=c) (bytes:=i.bytes) X y;omega
 have hm:¬m=0:=X;have aH:¬i.size=0:=X;have f:=run_firstCells_some (P:=P) w.drew i.size n (Z g 0) n c d j.1<|zu holds;refine⟨_,_,_,?_,h.1,h.2⟩;simp[Builtin.append_,Hu B,Hu D,sizeOf,typeInfo,zeroValue,A,N,asInt,asIntOf,H,O,R,S,L,J,Question.forced,f,newRow,grownCap];exact NC
def zM{w:World}(F:o.guard=none){s x:Operand}{u:TypeId}(ho:o.op=.call {callee:=.builtin .append,args:=#[s,x],argTypes:=#[t,u]})(k:IntKind)(L:P.underlying u=some (.int k))(base:Nat)(e:TypeId)(i:TypeInfo){z:Value}(c bytes:Nat)(J:P.underlying t=some (.slice e))(I:P.info? e=some i)(M:i.zero=some z)(q:i.size=c)(p:i.bytes=bytes)(C:z.cells.size=c)(B:0<c)(j:0<bytes)(m:Nat)(H:∀u∈(Builtin.zeroCells z.cells m).toList,u.oneCell'=true){v:Value}(n:Nat){d:QX}(hs:a.eval s=v)(D:w.ownsRow base e c v n d)(g:IntKind)(hx:a.eval x=.int g (m:Int))(l:n+m<=maxLen)(y:(n+m)*bytes<=140737488355328)(r:base<=w.heap.size)(h:∀(A':OA) (c':Nat) (w':World),w'.ownsRow base e c (.slice A' (n+m) c') (n+m) (d++(Builtin.zeroCells z.cells m).toList)->w.grownBy w' v.ownBlock->K (a.put o.dst<|.slice A' (n+m) c') w'):
 if Region.wanted o (yielded ops a.tmps)=true then Oper.wp P o a w K Q else E:=by
 have A:Region.wanted o (yielded ops a.tmps)=true:=by simp[Region.wanted,F]
 rw[L_ A];obtain⟨A',c',w',N,h2,h3⟩:=rU (P:=P) w base t u o.type e k i z c bytes J L I M q p C B H v n d D g l y j r;exact Lw
def wq(m:Nat):(Builtin.zeroCells #[.bool false,Y 0] m).toList=jo (List.replicate m default):=by
 apply IK;intro c;by_cases e:c<m*2;have g:c=(c / 2)*2+c % 2:=X;have i:(jo<|List.replicate m (default:Vl))[c]?=(Vl.E default)[c % 2]?:=by
  rw[g];unfold jo;rw[j7 Vl.E (λ_=>rfl) _ (c / 2) (c % 2) (by rw[Hm];omega) X,I3];congr 1;omega
 rw[i];have h:(Builtin.zeroCells #[.bool false,Y 0] m).toList[c]?=some ((#[Value.bool false,Value.int .i64 0])[c % 2]!):=by
  simp[Builtin.zeroCells,e]
 rw[h];rcases Ix c with d|d
 rw[d];rfl;rw[d];rfl;rw[G7 (by rw[IU,size_zeroCells];show m*2<=c;omega),G7<|by rw[l3,Hm];omega]
def vI(m:Nat):∀u∈(Builtin.zeroCells #[.bool false,Y 0] m).toList,u.oneCell'=true:=by
 rw[wq];exact nM _
end
variable{G:Prop}{k:Nat}(b w:World)(gx:Nat)(x:X1)(E:Nat)(V ap:Int)(d:Nat)(c:Int)(i:In)
def Lv(h:G:=by
 clear C;refine hZ H m.c5 λC=>?_;clear H K;exact Mm):G:=h
def Mj(h:G:=by
 have q:=(tt x.p (x.sr d) n).sr;rw[ad.out]at q;have bj:am.p.sr=x.p.sr:=by rw[aw.out];exact q
 exact bj):G:=h
def Mm(h:G:=by
 refine hN k_ ?_ _;go_wp2;go_ret;exact⟨_,rfl,g.sp M aR rfl rfl rfl rfl rfl rfl rfl,rfl,aF.iy M⟩):G:=h
def Nw(h:G:=by
 go_wp2;go_ret;exact NF):G:=h
def Ny(h:G:=by
 have q:=mq hs n;rw[ad.out]at q;exact q.mono I):G:=h
def NF(h:G:=by
 rw[HM.out];exact⟨am,rfl,z,aw.out,l⟩):G:=h
def NH(h:G:=by
 go_wp2;go_ret;exact⟨x,rfl,g,rfl,aF⟩):G:=h
def kt:∀a,a<16->x.g_[40+a*2]?=some (.bool (x.e.r a).r)/\x.g_[40+a*2+1]?=some (Y (x.e.r a).n)
 |0,_=>⟨rfl,rfl⟩
 |1,_=>⟨rfl,rfl⟩
 |2,_=>⟨rfl,rfl⟩
 |3,_=>⟨rfl,rfl⟩
 |4,_=>⟨rfl,rfl⟩
 |5,_=>⟨rfl,rfl⟩
 |6,_=>⟨rfl,rfl⟩
 |7,_=>⟨rfl,rfl⟩
 |8,_=>⟨rfl,rfl⟩
 |9,_=>⟨rfl,rfl⟩
 |10,_=>⟨rfl,rfl⟩
 |11,_=>⟨rfl,rfl⟩
 |12,_=>⟨rfl,rfl⟩
 |13,_=>⟨rfl,rfl⟩
 |14,_=>⟨rfl,rfl⟩
 |15,_=>⟨rfl,rfl⟩
 |n+16,h=>GR h X
def s3{w:World}{gx:Nat}{x:X1}(h:Bk w gx 186 x.g_)(a:k<16):w.cell? (Z gx<|40+k*2)=some (.bool (x.e.r k).r)/\w.cell? (Z gx<|40+k*2+1)=some (Y (x.e.r k).n):=⟨(h.f_ _).trans (kt x k a).1,(h.f_ _).trans (kt x k a).2⟩
def mJ(v:Vl):∀a:Nat,a<16->(x.g_.setIfInBounds (40+a*2)<|.bool v.r).setIfInBounds (40+a*2+1) (Y v.n)=({x with e:={x.e with r:=pN x.e.r a v}}:X1).g_
 |0,_=>rfl
 |1,_=>rfl
 |2,_=>rfl
 |3,_=>rfl
 |4,_=>rfl
 |5,_=>rfl
 |6,_=>rfl
 |7,_=>rfl
 |8,_=>rfl
 |9,_=>rfl
 |10,_=>rfl
 |11,_=>rfl
 |12,_=>rfl
 |13,_=>rfl
 |14,_=>rfl
 |15,_=>rfl
 |n+16,h=>GR h X
def lI(P:XP)(bG:Bool)(b:World)(gx:Nat)(w:World)(e:Ending)(w':World):Prop:=∃x':X1,e=.returned (.bool bG)/\kF b w' gx x'/\x'.p=P/\XG gx w w'
def EZ{b w:World}{gx:Nat}{x:X1}(h:kF b w gx x)(v:Vl)(a:k<16):Bk ((w.setCell (Z gx<|40+k*2)<|.bool v.r).setCell (Z gx<|40+k*2+1)<|Y v.n).drew gx 186 ({x with e:={x.e with r:=pN x.e.r k v}}:X1).g_/\J [gx] w ((w.setCell (Z gx<|40+k*2)<|.bool v.r).setCell (Z gx<|40+k*2+1)<|Y v.n).drew:=
 ⟨by rw[<-mJ x v k a];exact(h.bk.hW (40+k*2)<|.bool v.r).hW (40+k*2+1)<|Y v.n,J.drew<|((G_ [gx] w).setCell (p:=(Z gx<|40+k*2)) (.inl s_)<|.bool v.r).setCell (p:=(Z gx<|40+k*2+1)) (.inl s_)<|Y v.n⟩
def plain_0(V c:Int)(n:Int)(L:kF b w gx x):
 Calls prog 119 #[q_ gx,.agg #[Y 0,Y ap,Y V,Y c,Y n]] w (lI x.p true b gx w):=by
 obtain⟨h,l,f,a,g,e,aF,m⟩:=sP L #[Y 0,Y ap,Y V,Y c,Y n];go_enter func119,ntmps119;go_upto_region 1 with fail;clear f a;have j:=e.f_ 0;exact NH
def plain_1(n:Int)(L:kF b w gx x)(j:E<16):
 Calls prog 119 #[q_ gx,.agg #[Y 1,Y (E:Int),Y V,Y c,Y n]] w (lI (kJ x.p E ⟨false,n⟩) true b gx w):=by
 obtain⟨e,a,q,o,g,f,aF,l⟩:=sP L #[Y 1,Y (E:Int),Y V,Y c,Y n];go_enter func119,ntmps119;go_upto_region 1 with fail;clear q o;have s:=f.f_ 0;go_upto_region 6 with fail;clear s;refine hS (λw'=>w'.cell? (Z a 0)=some (Y 1)/\w'.cell? (Z a 1)=some (Y (E:Int))/\w'.cell? (Z a 2)=some (Y V)/\w'.cell? (Z a 3)=some (Y c)/\w'.cell? (Z a 4)=some (Y n)) 9 k_ ?_;have C:e.drew.cell? (Z a 0)=some (Y 1)/\e.drew.cell? (Z a 1)=some (Y (E:Int))/\e.drew.cell? (Z a 2)=some (Y V)/\e.drew.cell? (Z a 3)=some (Y c)/\e.drew.cell? (Z a 4)=some (Y n):=f.drew.c5;have u:(0:Int)<=(E:Int):=X;have t:(E:Int)<16:=X;(iterate 8 refine j8 C ?_);have k:=g.bk;have z:e.cell? (Z gx<|40+E*2)=some (.bool (x.e.r E).r):=(k.f_ _).trans (kt x E j).1;have v:e.cell? (Z gx<|40+E*2+1)=some (Y (x.e.r E).n):=(k.f_ _).trans (kt x E j).2;have y:=k.hG<|40+E*2;have A:=k.hG<|40+E*2+1;refine h4 8 λK H=>?_;go_simp;have m:Bk ((e.setCell (Z gx<|40+E*2)<|.bool false).setCell (Z gx<|40+E*2+1)<|Y n).drew a 189 #[Y 1,Y (E:Int),Y V,Y c,Y n]:=(f.ir (p:=(Z gx<|40+E*2)) l<|.bool false).ir (p:=(Z gx<|40+E*2+1)) l<|Y n;obtain⟨aR,M⟩:=EZ g ⟨false,n⟩ j;exact Lv
def plain_2(n:Int)(L:kF b w gx x)(j:E<16):
 Calls prog 119 #[q_ gx,.agg #[Y 2,Y (E:Int),Y V,Y c,Y n]] w (lI (kJ x.p E ⟨true,0⟩) true b gx w):=by
 obtain⟨e,a,q,o,g,f,aF,l⟩:=sP L #[Y 2,Y (E:Int),Y V,Y c,Y n];go_enter func119,ntmps119;go_upto_region 1 with fail;clear q o;have s:=f.f_ 0;go_upto_region 8 with fail;clear s;refine hS (λw'=>w'.cell? (Z a 0)=some (Y 2)/\w'.cell? (Z a 1)=some (Y (E:Int))/\w'.cell? (Z a 2)=some (Y V)/\w'.cell? (Z a 3)=some (Y c)/\w'.cell? (Z a 4)=some (Y n)) 7 k_ ?_;have C:e.drew.cell? (Z a 0)=some (Y 2)/\e.drew.cell? (Z a 1)=some (Y (E:Int))/\e.drew.cell? (Z a 2)=some (Y V)/\e.drew.cell? (Z a 3)=some (Y c)/\e.drew.cell? (Z a 4)=some (Y n):=f.drew.c5;have u:(0:Int)<=(E:Int):=X;have t:(E:Int)<16:=X;(iterate 6 refine j8 C ?_);have k:=g.bk;have z:e.cell? (Z gx<|40+E*2)=some (.bool (x.e.r E).r):=(k.f_ _).trans (kt x E j).1;have v:e.cell? (Z gx<|40+E*2+1)=some (Y (x.e.r E).n):=(k.f_ _).trans (kt x E j).2;have y:=k.hG<|40+E*2;have A:=k.hG<|40+E*2+1;refine h4 6 λK H=>?_;go_simp;have m:Bk ((e.setCell (Z gx<|40+E*2)<|.bool true).setCell (Z gx<|40+E*2+1)<|Y 0).drew a 189 #[Y 2,Y (E:Int),Y V,Y c,Y n]:=(f.ir (p:=(Z gx<|40+E*2)) l<|.bool true).ir (p:=(Z gx<|40+E*2+1)) l<|Y 0;obtain⟨aR,M⟩:=EZ g ⟨true,0⟩ j;exact Lv
def plain_3(n:Int)(L:kF b w gx x)(e:E<16)(t:d<16):
 Calls prog 119 #[q_ gx,.agg #[Y 3,Y (E:Int),Y (d:Int),Y c,Y n]] w (lI (kJ x.p E<|x.e.r d) true b gx w):=by
 obtain⟨l,a,q,m,g,j,aF,F⟩:=sP L #[Y 3,Y (E:Int),Y (d:Int),Y c,Y n];go_enter func119,ntmps119;go_upto_region 1 with fail;clear q m;have s:=j.f_ 0;go_upto_region 10 with fail;clear s;refine hS (λw'=>(w'.cell? (Z a 0)=some (Y 3)/\w'.cell? (Z a 1)=some (Y (E:Int))/\w'.cell? (Z a 2)=some (Y (d:Int))/\w'.cell? (Z a 3)=some (Y c)/\w'.cell? (Z a 4)=some (Y n))/\w'.cell? (Z gx<|40+d*2)=some (.bool (x.e.r d).r)/\w'.cell? (Z gx<|40+d*2+1)=some (Y (x.e.r d).n)) 11 k_ ?_;have o:=And.intro j.drew.c5<|s3 (g.bk.drew) t;have v:(0:Int)<=(E:Int):=X;have u:(E:Int)<16:=X;have z:(0:Int)<=(d:Int):=X;have B:(d:Int)<16:=X;(iterate 11 refine j8 o ?_);have k:=g.bk;have C:l.cell? (Z gx<|40+E*2)=some (.bool (x.e.r E).r):=(k.f_ _).trans (kt x E e).1;have y:l.cell? (Z gx<|40+E*2+1)=some (Y (x.e.r E).n):=(k.f_ _).trans (kt x E e).2;have A:=k.hG<|40+E*2;have D:=k.hG<|40+E*2+1;refine h4 11 λp f=>?_;go_simp;obtain⟨aR,M⟩:=EZ g (x.e.r d) e;refine f.out _ _ (λh=>GR h I) ?_;clear f p;try simp only[a_]
 exact Mm
def plain_11(V c:Int)(n:Int)(L:kF b w gx x):
 Calls prog 119 #[q_ gx,.agg #[Y 11,Y ap,Y V,Y c,Y n]] w (lI (rM x.p n) true b gx w):=by
 obtain⟨j,p,h,g,a,f,l,t⟩:=sP L #[Y 11,Y ap,Y V,Y c,Y n];go_enter func119,ntmps119;go_upto_region 1 with fail;clear h g;have o:=f.f_ 0;have q:=f.f_ 4;have s:j.cell? (Z gx 39)=some (Y x.e.pc):=(a.bk.f_ 39).trans rfl;have r:=a.bk.hG 39;go_wp2;go_ret;have m:=a.set (x':={x with e:={x.e with pc:=n}}) 39 (Y n) rfl rfl rfl rfl rfl rfl rfl rfl;exact⟨_,rfl,m,rfl,l.iy<|(G_ [gx] _).setCell (.inl s_) _⟩
def plain_12(n:Int)(L:kF b w gx x)(v:E<16):
 Calls prog 119 #[q_ gx,.agg #[Y 12,Y (E:Int),Y V,Y c,Y n]] w (lI (if(x.e.r E).n≠0 then x.p else rM x.p n) true b gx w):=by
 obtain⟨C,B⟩:=mn_ (if(x.e.r E).n≠0 then x.p else rM x.p n);rw[B];have H:=O B;clear B;obtain⟨t,a,K,I,u,o,F,T⟩:=sP L #[Y 12,Y (E:Int),Y V,Y c,Y n];go_enter func119,ntmps119;go_upto_region 1 with fail;clear K I;have D:=o.f_ 0;by_cases l:(x.e.r E).n=0
 .have A:=O (show((x.e.r E).n !=0)=false by simp[l]);have HM:Hid (C=rM x.p n):=O (by rw[<-H.out,K_<|zu l]);clear l;go_upto_region 20 with fail;clear D;refine hS (λw'=>(w'.cell? (Z a 0)=some (Y 12)/\w'.cell? (Z a 1)=some (Y (E:Int))/\w'.cell? (Z a 2)=some (Y V)/\w'.cell? (Z a 3)=some (Y c)/\w'.cell? (Z a 4)=some (Y n))/\w'.cell? (Z gx<|40+E*2)=some (.bool (x.e.r E).r)/\w'.cell? (Z gx<|40+E*2+1)=some (Y (x.e.r E).n)) 8 k_ ?_;have g:=And.intro o.drew.c5<|s3 (u.bk.drew) v;have N:(0:Int)<=(E:Int):=X;have M:(E:Int)<16:=X;iterate 6 refine j8 g ?_
  refine h4 6 λy m=>?_;go_simp;(go_at_call 166;((with_reducible refine(tC<|x.e.r E).mono ?_);rintro e s⟨rfl,z⟩;rw[A.out]));have j:J [] t s:=(G_ [] t).drew.trans z;have p:=o.hF j;have f:=u.hF j;clear g;refine hZ m ⟨p.c5,s3 (f.bk) v⟩ λg=>?_;clear m y;refine iC 7 g ?_;refine hN k_ ?_ _;have P:=p.f_ 4;have R:s.cell? (Z gx 39)=some (Y x.e.pc):=(f.bk.f_ 39).trans rfl;have Q:=f.bk.hG 39;go_wp2;go_ret;have S:=f.set (x':={x with e:={x.e with pc:=n}}) 39 (Y n) rfl rfl rfl rfl rfl rfl rfl rfl;rw[HM.out];exact⟨_,rfl,S,rfl,(F.hF j).iy<|(G_ [gx] _).setCell (.inl s_) _⟩
 have A:=O (show((x.e.r E).n !=0)=true by simp[l]);have HM:Hid (C=x.p):=O (by rw[<-H.out,L_<|zu l]);clear l;go_upto_region 20 with fail;clear D;refine hS (λw'=>(w'.cell? (Z a 0)=some (Y 12)/\w'.cell? (Z a 1)=some (Y (E:Int))/\w'.cell? (Z a 2)=some (Y V)/\w'.cell? (Z a 3)=some (Y c)/\w'.cell? (Z a 4)=some (Y n))/\w'.cell? (Z gx<|40+E*2)=some (.bool (x.e.r E).r)/\w'.cell? (Z gx<|40+E*2+1)=some (Y (x.e.r E).n)) 8 k_ ?_;have g:=And.intro o.drew.c5<|s3 (u.bk.drew) v;have N:(0:Int)<=(E:Int):=X;have M:(E:Int)<16:=X;iterate 6 refine j8 g ?_
 refine h4 6 λy m=>?_;go_simp;(go_at_call 166;((with_reducible refine(tC<|x.e.r E).mono ?_);rintro e s⟨rfl,z⟩;rw[A.out]));have j:J [] t s:=(G_ [] t).drew.trans z;have p:=o.hF j;have f:=u.hF j;clear g;refine hZ m ⟨p.c5,s3 (f.bk) v⟩ λg=>?_;clear m y;refine iC 7 g ?_;refine hN k_ ?_ _;have P:=p.f_ 4;have R:s.cell? (Z gx 39)=some (Y x.e.pc):=(f.bk.f_ 39).trans rfl;have Q:=f.bk.hG 39;go_wp2;go_ret;rw[HM.out];exact⟨x,rfl,f,rfl,F.hF j⟩
def BP(a ap V c:Int)(n:Int)(L:kF b w gx x)(j:a≠0/\a≠1/\a≠2/\a≠3/\a≠4/\a≠11/\a≠12/\a≠21/\a≠16/\a≠19):
 Calls prog 119 #[q_ gx,.agg #[Y a,Y ap,Y V,Y c,Y n]] w (lI x.p false b gx w):=by
 obtain⟨l,o,h,e,g,f,aF,K⟩:=sP L #[Y a,Y ap,Y V,Y c,Y n];go_enter func119,ntmps119;go_upto_region 1 with fail;clear h e;have m:=f.f_ 0;have q:(a=0)=False:=p_;have t:(a==0)=false:=p_;have s:(a=1)=False:=p_;have z:(a==1)=false:=p_;have y:(a=2)=False:=p_;have r:(a==2)=false:=p_;have v:(a=3)=False:=p_;have p:(a==3)=false:=p_;have u:(a=4)=False:=p_;have A:(a==4)=false:=p_;have i:(a=11)=False:=p_;have J:(a==11)=false:=p_;have F:(a=12)=False:=p_;have d:(a==12)=false:=p_;have I:(a=21)=False:=p_;have D:(a==21)=false:=p_;have k:(a=16)=False:=p_;have B:(a==16)=false:=p_;have H:(a=19)=False:=p_;have C:(a==19)=false:=p_;clear j;exact NH
def kF.CS{b w w':World}{gx:Nat}{x x':X1}(h:kF b w gx x)(k:J [gx] w w')(n:Bk w' gx 186 x'.g_)(e:x'.ju=x.ju)(f:x'.h=x.h)(g:x'.e.rs=x.e.rs)(a:x'.e.ws=x.e.ws)(o:Os w x'.e.nw.A x'.e.nw.l)(p:nv w x'.e.nw.l)(q:Ds w x'.e.ds.A x'.e.ds.l)(r:As w x'.e.ia.A x'.e.ia.l)(s:x'.e.nw.ok)(l:x'.e.ds.ok)(t:x'.e.ia.ok):kF b w' gx x':=by
 have j:∀c m,w.heap[gx]?≠some (.cells c 116 m):=h.bk.qr I;refine⟨n,h.gr.trans k,h.bx,by rw[e];exact h.ju,by rw[f];exact h.h,?_,?_,by rw[g,a];exact h.ne,?_,?_,?_,?_,s,l,t,by rw[e];exact h.il,by rw[f];exact h.hl⟩;rw[g];exact kE (x:=gx) h.rs j k;rw[a];exact kE (x:=gx) h.ws j k;exact Sl.iy o h.bk I k;exact p.iy h.bk I k;exact Sl.iy q h.bk I k;exact Sl.iy r h.bk I k
def rc(r:Nat->Vl):Array Value:=#[.bool (r 0).r,Y (r 0).n,.bool (r 1).r,Y (r 1).n,.bool (r 2).r,Y (r 2).n,.bool (r 3).r,Y (r 3).n,.bool (r 4).r,Y (r 4).n,.bool (r 5).r,Y (r 5).n,.bool (r 6).r,Y (r 6).n,.bool (r 7).r,Y (r 7).n,.bool (r 8).r,Y (r 8).n,.bool (r 9).r,Y (r 9).n,.bool (r 10).r,Y (r 10).n,.bool (r 11).r,Y (r 11).n,.bool (r 12).r,Y (r 12).n,.bool (r 13).r,Y (r 13).n,.bool (r 14).r,Y (r 14).n,.bool (r 15).r,Y (r 15).n]
def xS(r:Nat->Vl):vN x.g_ 40 (rc r).toList=({x with e:={x.e with r:=r}}:X1).g_:=rfl
def Db{r:Nat->Vl}:(rc r).all (·.oneCell')=true:=by unfold rc;simp[Value.oneCell']
def plain_16(n:Int)(L:kF b w gx x)(A:E<16)(B:x.p.e.sm 900000):
 Calls prog 119 #[q_ gx,.agg #[Y 16,Y (E:Int),Y V,Y c,Y n]] w (lI (iX x.p<|x.e.r E) true b gx w):=by
 obtain⟨e,a,t,o,m,g,v,K⟩:=sP L #[Y 16,Y (E:Int),Y V,Y c,Y n];go_enter func119,ntmps119;go_upto_region 1 with fail;clear t o;have u:=g.f_ 0;go_upto_region 26 with fail;clear u;have l:J [] e e.drew:=(G_ [] e).drew;refine hS (λw'=>(w'.cell? (Z a 0)=some (Y 16)/\w'.cell? (Z a 1)=some (Y (E:Int))/\w'.cell? (Z a 2)=some (Y V)/\w'.cell? (Z a 3)=some (Y c)/\w'.cell? (Z a 4)=some (Y n))/\w'.cell? (Z gx<|40+E*2)=some (.bool (x.e.r E).r)/\w'.cell? (Z gx<|40+E*2+1)=some (Y (x.e.r E).n)) 7 k_ ?_;have p:=And.intro g.drew.c5<|s3 (m.bk.drew) A;have F:(0:Int)<=(E:Int):=X;have D:(E:Int)<16:=X;iterate 7 refine j8 p ?_
 refine h4 7 λs f=>?_;go_simp;(go_at_call 117;((with_reducible refine(pI b gx x (x.e.r E) (m.hF l) B).mono ?_);unfold k5;rintro H C⟨y,rfl,q,j,G⟩;have z:=O j;clear j));refine f.out _ _ (λh=>GR h I) ?_;clear f s;try simp only[a_]
 refine hN k_ ?_ _;go_wp2;go_ret;exact⟨y,rfl,q,z.out,(v.hF l).trans G⟩
def plain_19(n:Int)(L:kF b w gx x)(z:E<16)(hs:x.p.e.sm 900000):
 Calls prog 119 #[q_ gx,.agg #[Y 19,Y (E:Int),Y V,Y c,Y n]] w (lI (if(x.e.r E).r=true then i9 x.p (-2) else{x.p with e:={x.p.e with ia:=[⟨false,(x.e.r E).n,0⟩]}}) true b gx w):=by
 obtain⟨M,H⟩:=mn_ (if(x.e.r E).r=true then i9 x.p (-2) else{x.p with e:={x.p.e with ia:=[⟨false,(x.e.r E).n,0⟩]}});rw[H];have W:=O H;clear H;obtain⟨l,a,ad,ae,u,t,C,af⟩:=sP L #[Y 19,Y (E:Int),Y V,Y c,Y n];go_enter func119,ntmps119;go_upto_region 1 with fail;clear ad ae;have N:=t.f_ 0;cases F:(x.e.r E).r with
 |true=>
  have HM:Hid (M=i9 x.p (-2)):=O (by rw[<-W.out,L_ F]);go_upto_region 28 with fail;clear N;have m:J [] l l.drew:=(G_ [] l).drew;refine hS (λw'=>(w'.cell? (Z a 0)=some (Y 19)/\w'.cell? (Z a 1)=some (Y (E:Int))/\w'.cell? (Z a 2)=some (Y V)/\w'.cell? (Z a 3)=some (Y c)/\w'.cell? (Z a 4)=some (Y n))/\w'.cell? (Z gx<|40+E*2)=some (.bool (x.e.r E).r)/\w'.cell? (Z gx<|40+E*2+1)=some (Y (x.e.r E).n)) 7 k_ ?_;have g:=And.intro t.drew.c5<|s3 (u.bk.drew) z;have aT:(0:Int)<=(E:Int):=X;have aC:(E:Int)<16:=X;(iterate 7 refine j8 g ?_);refine hN k_ ?_ _;go_wp2_with (go_at_call 165;((with_reducible refine(ld b gx x (-2) (u.hF m) hs).mono ?_);unfold k5;rintro e v⟨o,rfl,j,f,G⟩;have q:=O f;clear f));go_ret;rw[HM.out];exact⟨o,rfl,j,q.out,(C.hF m).trans G⟩
 |false=>
  have HM:Hid (M={x.p with e:={x.p.e with ia:=[⟨false,(x.e.r E).n,0⟩]}}):=O (by rw[<-W.out,K_<|by rw[F];decide]);go_upto_region 28 with fail;clear N;have m:J [] l l.drew:=(G_ [] l).drew;refine hS (λw'=>(w'.cell? (Z a 0)=some (Y 19)/\w'.cell? (Z a 1)=some (Y (E:Int))/\w'.cell? (Z a 2)=some (Y V)/\w'.cell? (Z a 3)=some (Y c)/\w'.cell? (Z a 4)=some (Y n))/\w'.cell? (Z gx<|40+E*2)=some (.bool (x.e.r E).r)/\w'.cell? (Z gx<|40+E*2+1)=some (Y (x.e.r E).n)) 7 k_ ?_;have g:=And.intro t.drew.c5<|s3 (u.bk.drew) z;have aT:(0:Int)<=(E:Int):=X;have aC:(E:Int)<16:=X;(iterate 7 refine j8 g ?_);refine hN k_ ?_ _;clear F;go_upto_region 31 with fail;clear g;have A:=u.hF m;have D:=t.hF m;have Q:=C.hF m;obtain⟨j,R⟩:=nm_ l.drew;rw[<-R]at A D Q |-;clear R u t C m;refine hS (λw'=>(w'.cell? (Z a 0)=some (Y 19)/\w'.cell? (Z a 1)=some (Y (E:Int))/\w'.cell? (Z a 2)=some (Y V)/\w'.cell? (Z a 3)=some (Y c)/\w'.cell? (Z a 4)=some (Y n))/\w'.cell? (Z gx<|40+E*2)=some (.bool (x.e.r E).r)/\w'.cell? (Z gx<|40+E*2+1)=some (Y (x.e.r E).n)) 13 k_ ?_
  refine m6 ⟨D.drew.c5,s3 (A.bk.drew) z⟩ λg=>?_;iterate 9 refine j8 g ?_
  refine h4 9 λB q=>?_;go_simp;have v:J [] j ((j.alloc<|.cells #[.bool false,Y (x.e.r E).n,Y 0] 162).drew):=((G_ [] j).alloc _).drew;have T:Bk ((j.alloc<|.cells #[.bool false,Y (x.e.r E).n,Y 0] 162).drew) j.heap.size 162 #[.bool false,Y (x.e.r E).n,Y 0]:=(T_ j 162 #[.bool false,Y (x.e.r E).n,Y 0]).drew;have f:=A.hF v;have P:=D.hF v;have U:=Q.hF v;clear g;obtain⟨y,S⟩:=nm_<|(j.alloc<|.cells #[.bool false,Y (x.e.r E).n,Y 0] 162).drew;rw[<-S]at v T f P U |-;clear S;generalize j.heap.size=o at*
  refine hZ q ⟨P.c5,s3 (f.bk) z⟩ λg=>?_;clear q B;(iterate 3 refine j8 g ?_);have ag:y.cell? (Z gx 76)=some (.slice x.e.ia.A x.e.ia.l.length x.e.ia.c):=(f.bk.f_ 76).trans rfl;have dP:=f.bk.hG 76;refine h4 13 λB q=>?_;go_simp;refine q.out _ _ (λh=>GR h I) ?_;clear q B;try simp only[a_]
  refine hN k_ ?_ _;have K:=(G_ [gx] y).setCell (p:=(Z gx 76)) (.inl s_)<|.slice (j_ o) 1 1;have aR:Bk (y.setCell (Z gx 76)<|.slice (j_ o) 1 1) gx 186 ({x with e:={x.e with ia:=⟨some<|Z o 0,1,[⟨false,(x.e.r E).n,0⟩]⟩}}:X1).g_:=f.bk.hW 76<|.slice (j_ o) 1 1;have d:As y (j_ o) [⟨false,(x.e.r E).n,0⟩]:=k2 (s:=3) T rfl;go_wp2;go_ret;rw[HM.out];exact⟨_,rfl,f.CS (x':=({x with e:={x.e with ia:=⟨some<|Z o 0,1,[⟨false,(x.e.r E).n,0⟩]⟩}}:X1)) K aR rfl rfl rfl rfl f.nw f.nr f.ds d f.tX f.sQ<|I_ 1,rfl,U.iy K⟩
def plain_21(V c:Int)(n:Int)(L:kF b w gx x):
 Calls prog 119 #[q_ gx,.agg #[Y 21,Y ap,Y V,Y c,Y n]] w (lI {x.p with e:={x.p.e with r:=ja,h7:=1,kw:=n}} true b gx w):=by
 obtain⟨P,g,H,D,C,v,M,t⟩:=sP L #[Y 21,Y ap,Y V,Y c,Y n];go_enter func119,ntmps119;go_upto_region 1 with fail;clear H D;have I:=v.f_ 0;go_upto_region 24 with(refine jn rfl 47 _ _ rfl gx 40 r_ (rc ja) r_ 186 _ C.bk (by show 40+32<=82;decide) k_ (Db) ?_;intro a l o);rw[xS]at l;have F:=C.sp (x':=({x with e:={x.e with r:=ja}}:X1)) o l rfl rfl rfl rfl rfl rfl rfl;have A:=v.gr o<|zu t;have K:=M.iy o;clear I;refine hS (λw'=>w'.cell? (Z g 0)=some (Y 21)/\w'.cell? (Z g 1)=some (Y ap)/\w'.cell? (Z g 2)=some (Y V)/\w'.cell? (Z g 3)=some (Y c)/\w'.cell? (Z g 4)=some (Y n)) 12 k_ ?_;refine m6 A.drew.c5 λf=>?_;(iterate 7 refine j8 f ?_);have S:a.cell? (Z gx 38)=some (Y x.e.h7):=(l.f_ 38).trans rfl;have R:=l.hG 38;refine h4 7 λm j=>?_;go_simp;have d:Bk ((a.setCell (Z gx 38)<|Y 1).drew) gx 186 ({x with e:={x.e with r:=ja,h7:=1}}:X1).g_:=l.hW 38<|Y 1;have s:Bk ((a.setCell (Z gx 38)<|Y 1).drew) g 189 #[Y 21,Y ap,Y V,Y c,Y n]:=A.ir (p:=(Z gx 38)) t<|Y 1;have y:J [gx] a ((a.setCell (Z gx 38)<|Y 1).drew):=((G_ [gx] a).setCell (p:=(Z gx 38)) (.inl s_)<|Y 1).drew;obtain⟨z,B⟩:=nm_<|(a.setCell (Z gx 38)<|Y 1).drew;rw[<-B]at d s y |-;clear B f
 refine hZ j s.c5 λf=>?_;clear j m;(iterate 3 refine j8 f ?_);have h:z.cell? (Z gx 77)=some (Y x.e.kw):=(d.f_ 77).trans rfl;have Q:=d.hG 77;refine h4 11 λm j=>?_;go_simp;have O:=s.ir (p:=(Z gx 77)) t<|Y n;have N:Bk (z.setCell (Z gx 77)<|Y n) gx 186 ({x with e:={x.e with r:=ja,h7:=1,kw:=n}}:X1).g_:=d.hW 77<|Y n;have u:=y.setCell (p:=(Z gx 77)) (.inl s_)<|Y n;clear f;refine hZ j O.c5 λf=>?_;clear j m;refine hN k_ ?_ _;go_wp2;go_ret;exact⟨_,rfl,F.sp (x':=({x with e:={x.e with r:=ja,h7:=1,kw:=n}}:X1)) u N rfl rfl rfl rfl rfl rfl rfl,rfl,K.iy u⟩
def plain_4(f:Nat)(n:Int)(L:kF b w gx x)(Q:E<16)(A:d<16)(hc:f<16)(hs:x.p.e.sm 900000):
 Calls prog 119 #[q_ gx,.agg #[Y 4,Y (E:Int),Y (d:Int),Y (f:Int),Y n]] w (lI (if(iA n (x.e.r d)<|x.e.r f).2≠0 then i9 x.p (iA n (x.e.r d)<|x.e.r f).2 else kJ x.p E (iA n (x.e.r d)<|x.e.r f).1) true b gx w):=by
 obtain⟨S,K⟩:=mn_ (if(iA n (x.e.r d)<|x.e.r f).2≠0 then i9 x.p (iA n (x.e.r d)<|x.e.r f).2 else kJ x.p E (iA n (x.e.r d)<|x.e.r f).1);rw[K];obtain⟨⟨o,k⟩,R⟩:∃ae,iA n (x.e.r d) (x.e.r f)=ae:=⟨_,rfl⟩;rw[R]at K;have N:=O K;have F:=O R;clear K R;obtain⟨e,a,ag,ah,j,u,B,ai⟩:=sP L #[Y 4,Y (E:Int),Y (d:Int),Y (f:Int),Y n];go_enter func119,ntmps119;go_upto_region 1 with fail;clear ag ah;have P:=u.f_ 0;go_upto_region 12 with fail;clear P;go_cut [6,7] (λp aj T=>∃z:Nat,p=q_ z/\aj=Y k/\Bk T z 38 #[.bool o.r,Y o.n]/\J [] e T)
 case first=>
  have H:J [] e e.drew:=(G_ [] e).drew;refine hS (λw'=>(w'.cell? (Z a 0)=some (Y 4)/\w'.cell? (Z a 1)=some (Y (E:Int))/\w'.cell? (Z a 2)=some (Y (d:Int))/\w'.cell? (Z a 3)=some (Y (f:Int))/\w'.cell? (Z a 4)=some (Y n))/\(w'.cell? (Z gx<|40+d*2)=some (.bool (x.e.r d).r)/\w'.cell? (Z gx<|40+d*2+1)=some (Y (x.e.r d).n))/\w'.cell? (Z gx<|40+f*2)=some (.bool (x.e.r f).r)/\w'.cell? (Z gx<|40+f*2+1)=some (Y (x.e.r f).n)) 21 k_ ?_;have l:(e.drew.cell? (Z a 0)=some (Y 4)/\e.drew.cell? (Z a 1)=some (Y (E:Int))/\e.drew.cell? (Z a 2)=some (Y (d:Int))/\e.drew.cell? (Z a 3)=some (Y (f:Int))/\e.drew.cell? (Z a 4)=some (Y n))/\(e.drew.cell? (Z gx<|40+d*2)=some (.bool (x.e.r d).r)/\e.drew.cell? (Z gx<|40+d*2+1)=some (Y (x.e.r d).n))/\e.drew.cell? (Z gx<|40+f*2)=some (.bool (x.e.r f).r)/\e.drew.cell? (Z gx<|40+f*2+1)=some (Y (x.e.r f).n):=⟨(u.hF H).c5,(s3 (j.bk.hF H) A),s3 (j.bk.hF H) hc⟩;have aT:(0:Int)<=(d:Int):=X;have aC:(d:Int)<16:=X;have av:(0:Int)<=(f:Int):=X;have bO:(f:Int)<16:=X;(iterate 14 refine j8 l ?_);refine js 14 18 rfl rfl k_ (λt m=>?_) λt m=>?_
  .go_simp;(go_at_call 164;((with_reducible refine(mV n (x.e.r d)<|x.e.r f).mono ?_);unfold qX;rintro ak g⟨rfl,D⟩;rw[F.out]));clear l;have c:=H.trans D;refine hZ m ⟨(u.hF c).c5,(s3 (j.bk.hF c) A),s3 (j.bk.hF c) hc⟩ λl=>?_;clear m t;iterate 3 refine j8 l ?_
   refine h4 18 λt m=>?_;go_simp;have s:=T_ g 38 #[.bool false,Y 0];have y:J [] e (g.alloc<|.cells #[.bool false,Y 0] 38):=c.alloc _;clear l;have l:((g.alloc<|.cells #[.bool false,Y 0] 38).cell? (Z a 0)=some (Y 4)/\(g.alloc<|.cells #[.bool false,Y 0] 38).cell? (Z a 1)=some (Y (E:Int))/\(g.alloc<|.cells #[.bool false,Y 0] 38).cell? (Z a 2)=some (Y (d:Int))/\(g.alloc<|.cells #[.bool false,Y 0] 38).cell? (Z a 3)=some (Y (f:Int))/\(g.alloc<|.cells #[.bool false,Y 0] 38).cell? (Z a 4)=some (Y n))/\((g.alloc<|.cells #[.bool false,Y 0] 38).cell? (Z gx<|40+d*2)=some (.bool (x.e.r d).r)/\(g.alloc<|.cells #[.bool false,Y 0] 38).cell? (Z gx<|40+d*2+1)=some (Y (x.e.r d).n))/\(g.alloc<|.cells #[.bool false,Y 0] 38).cell? (Z gx<|40+f*2)=some (.bool (x.e.r f).r)/\(g.alloc<|.cells #[.bool false,Y 0] 38).cell? (Z gx<|40+f*2+1)=some (Y (x.e.r f).n):=⟨(u.hF y).c5,(s3 (j.bk.hF y) A),s3 (j.bk.hF y) hc⟩;have P:=s.f_ 0;have af:=s.f_ 1;have U:=s.hG 0;have W:=s.hG 1;refine hZ m l λl=>?_;clear m t;refine h4 19 λt m=>?_;go_simp;have V:=T_ g 38 #[.bool o.r,Y o.n];have v:J [] e (g.alloc<|.cells #[.bool o.r,Y o.n] 38):=c.alloc _;clear l;refine hZ m ⟨(u.hF v).c5,(s3 (j.bk.hF v) A),s3 (j.bk.hF v) hc⟩ λl=>?_;clear m t;refine iC 20 l ?_;refine hN k_ ?_ _;go_wp2;go_meet;exact⟨g.heap.size,rfl,rfl,V,v⟩
  go_simp;have al:Bk ((e.alloc<|.cells #[.bool false,Y 0] 38).drew) e.heap.size 38 #[.bool false,Y 0]:=(T_ e 38 #[.bool false,Y 0]).drew;have y:J [] e ((e.alloc<|.cells #[.bool false,Y 0] 38).drew):=((G_ [] e).alloc _).drew;clear l;refine hZ m ⟨(u.hF y).c5,(s3 (j.bk.hF y) A),s3 (j.bk.hF y) hc⟩ λl=>?_;clear m t;refine h4 14 λt m=>?_;go_simp;(go_at_call 164;((with_reducible refine(mV n (x.e.r d)<|x.e.r f).mono ?_);unfold qX;rintro ak g⟨rfl,D⟩;rw[F.out]));have M:=y.trans D;clear l;have l:(g.cell? (Z a 0)=some (Y 4)/\g.cell? (Z a 1)=some (Y (E:Int))/\g.cell? (Z a 2)=some (Y (d:Int))/\g.cell? (Z a 3)=some (Y (f:Int))/\g.cell? (Z a 4)=some (Y n))/\(g.cell? (Z gx<|40+d*2)=some (.bool (x.e.r d).r)/\g.cell? (Z gx<|40+d*2+1)=some (Y (x.e.r d).n))/\g.cell? (Z gx<|40+f*2)=some (.bool (x.e.r f).r)/\g.cell? (Z gx<|40+f*2+1)=some (Y (x.e.r f).n):=⟨(u.hF M).c5,(s3 (j.bk.hF M) A),s3 (j.bk.hF M) hc⟩;have s:=al.hF D;have P:=s.f_ 0;have af:=s.f_ 1;have U:=s.hG 0;have W:=s.hG 1;refine hZ m l λl=>?_;clear m t;iterate 3 refine j8 l ?_
  refine h4 19 λt m=>?_;go_simp;have V:=(s.hW 0<|.bool o.r).hW 1<|Y o.n;have C:=((G_ [e.heap.size] g).setCell (p:=(Z e.heap.size 0)) (.inl s_)<|.bool o.r).setCell (p:=(Z e.heap.size 1)) (.inl s_)<|Y o.n;have v:=M.hJ C s_;clear l;refine hZ m ⟨(u.hF v).c5,(s3 (j.bk.hF v) A),s3 (j.bk.hF v) hc⟩ λl=>?_;clear m t;refine iC 20 l ?_;refine hN k_ ?_ _;go_wp2;go_meet;exact⟨e.heap.size,rfl,rfl,V,v⟩
 obtain⟨z,rfl,rfl,s,y⟩:=hcut;replace j:=j.hF y;replace u:=u.hF y;replace B:=B.hF y;clear y;by_cases v:k=0
 .have HM:Hid (S=kJ x.p E o):=O (by rw[<-N.out,K_<|by simp[v]]);have q:(k !=0)=false:=zu v;clear v N F;go_upto_region 16 with fail;obtain⟨g,D⟩:=nm_ wc;rw[<-D]at j u B s |-;clear D;refine hS (λw'=>(w'.cell? (Z a 0)=some (Y 4)/\w'.cell? (Z a 1)=some (Y (E:Int))/\w'.cell? (Z a 2)=some (Y (d:Int))/\w'.cell? (Z a 3)=some (Y (f:Int))/\w'.cell? (Z a 4)=some (Y n))/\w'.cell? (Z z 0)=some (.bool o.r)/\w'.cell? (Z z 1)=some (Y o.n)) 6 k_ ?_;have l:(g.drew.cell? (Z a 0)=some (Y 4)/\g.drew.cell? (Z a 1)=some (Y (E:Int))/\g.drew.cell? (Z a 2)=some (Y (d:Int))/\g.drew.cell? (Z a 3)=some (Y (f:Int))/\g.drew.cell? (Z a 4)=some (Y n))/\g.drew.cell? (Z z 0)=some (.bool o.r)/\g.drew.cell? (Z z 1)=some (Y o.n):=⟨u.drew.c5,s.drew.f_ 0,s.drew.f_ 1⟩;have aT:(0:Int)<=(E:Int):=X;have aC:(E:Int)<16:=X
  (iterate 6 refine j8 l ?_)
  have bq:g.cell? (Z gx<|40+E*2)=some (.bool (x.e.r E).r):=(j.bk.f_ _).trans (kt x E Q).1;have M:g.cell? (Z gx<|40+E*2+1)=some (Y (x.e.r E).n):=(j.bk.f_ _).trans (kt x E Q).2;have U:=j.bk.hG<|40+E*2;have W:=j.bk.hG<|40+E*2+1;refine h4 6 λt m=>?_;go_simp;obtain⟨H,C⟩:=EZ j o Q;refine m.out _ _ (λh=>GR h I) ?_;clear m t;try simp only[a_]
  refine hN k_ ?_ _;go_wp2;go_ret;rw[HM.out];exact⟨_,rfl,j.sp C H rfl rfl rfl rfl rfl rfl rfl,rfl,B.iy C⟩
 have HM:Hid (S=i9 x.p k):=O (by rw[<-N.out,L_<|zu v]);have q:(k !=0)=true:=zu v;clear v N F;go_wp2_with (go_at_call 165;((with_reducible refine(ld b gx x k j hs).mono ?_);unfold k5;rintro ak N0⟨H,rfl,D,g,G⟩;have M:=O g;clear g));go_ret;rw[HM.out];exact⟨H,rfl,D,M.out,B.trans G⟩
def pV{w:World}(L:kF b w gx x)(v:x.p.e.sm 900000)(C:0<=i.a)(A:i.a<16)(u:i.op=3\/i.op=4->0<=i.b/\i.b<16)(hc:i.op=4->0<=i.c/\i.c<16):
 Calls prog 119 #[q_ gx,.agg #[Y i.op,Y i.a,Y i.b,Y i.c,Y i.n]] w (lI ((ji x.p i).getD x.p) (ji x.p i).isSome b gx w):=by
 obtain⟨a,ap,V,c,n⟩:=i;simp only at C A u hc |-;obtain⟨E,rfl⟩:∃k:Nat,ap=k:=⟨ap.toNat,X⟩;have f:E<16:=X
 by_cases p:a=0
 .subst p;have e:ji x.p ⟨0,E,V,c,n⟩=some x.p:=rfl;rw[e];exact plain_0 b w gx x E V c n L
 by_cases q:a=1
 .subst q;have e:ji x.p ⟨1,E,V,c,n⟩=some (kJ x.p E ⟨false,n⟩):=rfl;rw[e];exact plain_1 b w gx x E V c n L f
 by_cases s:a=2
 .subst s;have e:ji x.p ⟨2,E,V,c,n⟩=some (kJ x.p E ⟨true,0⟩):=rfl;rw[e];exact plain_2 b w gx x E V c n L f
 by_cases t:a=3
 .subst t;obtain⟨z,B⟩:=u<|.inl rfl;obtain⟨d,rfl⟩:∃k:Nat,V=k:=⟨V.toNat,X⟩;have e:ji x.p ⟨3,E,d,c,n⟩=some (kJ x.p E<|x.e.r d):=rfl;rw[e];exact plain_3 b w gx x E d c n L f X
 by_cases m:a=4
 .subst m;obtain⟨z,B⟩:=u<|.inr rfl;obtain⟨F,D⟩:=hc rfl;obtain⟨d,rfl⟩:∃k:Nat,V=k:=⟨V.toNat,X⟩;obtain⟨g,rfl⟩:∃k:Nat,c=k:=⟨c.toNat,X⟩;have e:ji x.p ⟨4,E,d,g,n⟩=some (if(iA n (x.e.r d)<|x.e.r g).2≠0 then i9 x.p (iA n (x.e.r d)<|x.e.r g).2 else kJ x.p E (iA n (x.e.r d)<|x.e.r g).1):=rfl;rw[e];exact plain_4 b w gx x E d g n L f X X v
 by_cases h:a=11
 .subst h;have e:ji x.p ⟨11,E,V,c,n⟩=some (rM x.p n):=rfl;rw[e];exact plain_11 b w gx x E V c n L
 by_cases o:a=12
 .subst o;have e:ji x.p ⟨12,E,V,c,n⟩=some (if(x.e.r E).n≠0 then x.p else rM x.p n):=rfl;rw[e];exact plain_12 b w gx x E V c n L f
 by_cases y:a=21
 .subst y;have e:ji x.p ⟨21,E,V,c,n⟩=some {x.p with e:={x.p.e with r:=ja,h7:=1,kw:=n}}:=rfl;rw[e];exact plain_21 b w gx x E V c n L
 by_cases j:a=16
 .subst j;have e:ji x.p ⟨16,E,V,c,n⟩=some (iX x.p<|x.e.r E):=rfl;rw[e];exact plain_16 b w gx x E V c n L f v
 by_cases l:a=19
 .subst l;have e:ji x.p ⟨19,E,V,c,n⟩=some (if(x.e.r E).r=true then i9 x.p (-2) else{x.p with e:={x.p.e with ia:=[⟨false,(x.e.r E).n,0⟩]}}):=rfl;rw[e];exact plain_19 b w gx x E V c n L f v
 have e:ji x.p ⟨a,E,V,c,n⟩=none:=by
  unfold ji;exact(K_ p).trans<|(K_ q).trans<|(K_ s).trans<|(K_ t).trans<|(K_ m).trans<|(K_ h).trans<|(K_ o).trans<|(K_ y).trans<|(K_ j).trans<|K_ l
 rw[e];exact BP b w gx x a E V c n L ⟨p,q,s,t,m,h,o,y,j,l⟩
def vK:∀a,a<16->x.g_[4+a*2]?=some (.bool (x.sr a).r)/\x.g_[4+a*2+1]?=some (Y (x.sr a).n)
 |0,_=>⟨rfl,rfl⟩
 |1,_=>⟨rfl,rfl⟩
 |2,_=>⟨rfl,rfl⟩
 |3,_=>⟨rfl,rfl⟩
 |4,_=>⟨rfl,rfl⟩
 |5,_=>⟨rfl,rfl⟩
 |6,_=>⟨rfl,rfl⟩
 |7,_=>⟨rfl,rfl⟩
 |8,_=>⟨rfl,rfl⟩
 |9,_=>⟨rfl,rfl⟩
 |10,_=>⟨rfl,rfl⟩
 |11,_=>⟨rfl,rfl⟩
 |12,_=>⟨rfl,rfl⟩
 |13,_=>⟨rfl,rfl⟩
 |14,_=>⟨rfl,rfl⟩
 |15,_=>⟨rfl,rfl⟩
 |n+16,h=>GR h X
def wk{w:World}{gx:Nat}{x:X1}(h:Bk w gx 186 x.g_)(a:k<16):w.cell? (Z gx<|4+k*2)=some (.bool (x.sr k).r)/\w.cell? (Z gx<|4+k*2+1)=some (Y (x.sr k).n):=⟨(h.f_ _).trans (vK x k a).1,(h.f_ _).trans (vK x k a).2⟩
def sw{w:World}{e gx:Nat}{t:TypeId}{x:X1}{y z u v q:Value}(h:Bk w e t #[y,z,u,v,q])(L:Bk w gx 186 x.g_)(f:k<16){a:Obj}:(((w.alloc a).drew.cell? (Z e 0)=some y/\(w.alloc a).drew.cell? (Z e 1)=some z/\(w.alloc a).drew.cell? (Z e 2)=some u/\(w.alloc a).drew.cell? (Z e 3)=some v/\(w.alloc a).drew.cell? (Z e 4)=some q)/\(w.alloc a).drew.cell? (Z gx<|4+k*2)=some (.bool (x.sr k).r)/\(w.alloc a).drew.cell? (Z gx<|4+k*2+1)=some (Y (x.sr k).n)):=
 ⟨(h.hF ((G_ [] w).alloc a).drew).c5,wk (L.hF ((G_ [] w).alloc a).drew) f⟩
def Aa{b w:World}{f gx:Nat}{x:X1}{h:World}{e:Array Value}(L:kF b w gx x)(j:Bk w f 189 e)(l:XG gx h w)(v:Array Value):∃W g,(w.alloc<|.cells v 38).drew=W/\w.heap.size=g/\kF b W gx x/\Bk W f 189 e/\Bk W g 38 v/\XG gx h W/\g≠gx:=
 have a:=((G_ [] w).alloc<|.cells v 38).drew
 ⟨_,_,rfl,rfl,L.hF a,j.hF a,(T_ w 38 v).drew,l.hF a,ov L.bk.lt⟩
def CR(a ap V c:Int)(n:Int)(L:kF b w gx x)(v:a≠8/\a≠9/\a≠10/\a≠20):
 Calls prog 120 #[q_ gx,.agg #[Y a,Y ap,Y V,Y c,Y n]] w (lI x.p false b gx w):=by
 obtain⟨l,o,j,f,g,e,aF,A⟩:=sP L #[Y a,Y ap,Y V,Y c,Y n];go_enter func120,ntmps120;go_upto_region 1 with fail;have m:=e.f_ 0;have y:(a=8)=False:=p_;have q:(a==8)=false:=p_;have r:(a !=8)=true:=p_;have k:(a=9)=False:=p_;have p:(a==9)=false:=p_;have h:(a !=9)=true:=p_;have i:(a=10)=False:=p_;have d:(a==10)=false:=p_;have t:(a !=10)=true:=p_;have u:(a=20)=False:=p_;have s:(a==20)=false:=p_;have z:(a !=20)=true:=p_;exact NH
def vars_9(n:Int)(L:kF b w gx x)(s:E<16)(hs:x.p.e.sm 800000)(h0:0<=n)(h1:n<=1000000):
 Calls prog 120 #[q_ gx,.agg #[Y 9,Y (E:Int),Y V,Y c,Y n]] w (lI ((kb x.p ⟨9,E,V,c,n⟩).getD x.p) true b gx w):=by
 obtain⟨t,y⟩:=mn_<|(kb x.p ⟨9,E,V,c,n⟩).getD x.p;rw[y];have A:=O y;obtain⟨o,e,af,ah,g,a,M,ai⟩:=sP L #[Y 9,Y (E:Int),Y V,Y c,Y n];go_enter func120,ntmps120;go_upto_region 1 with fail;have F:=a.f_ 0;go_upto_region 3 with fail;have ao:J [] o o.drew:=(G_ [] o).drew;refine hS (λw'=>(w'.cell? (Z e 0)=some (Y 9)/\w'.cell? (Z e 1)=some (Y (E:Int))/\w'.cell? (Z e 2)=some (Y V)/\w'.cell? (Z e 3)=some (Y c)/\w'.cell? (Z e 4)=some (Y n))/\w'.cell? (Z gx<|4+E*2)=some (.bool (x.sr E).r)/\w'.cell? (Z gx<|4+E*2+1)=some (Y (x.sr E).n)) 10 k_ ?_;have j:=And.intro a.drew.c5<|wk (g.bk.drew) s;have aT:(0:Int)<=(E:Int):=X;have aC:(E:Int)<16:=X;iterate 8 refine j8 j ?_
 refine h4 8 λC m=>?_;go_simp;refine hZ m (sw a g.bk s) λj=>?_;refine h4 9 λC m=>?_;go_simp;refine hZ m (sw a g.bk s) λj=>?_;refine hN k_ ?_ _;obtain⟨aK,aj,bN,P,B,u,W,K,Q⟩:=Aa g a M #[.bool (x.sr E).r,Y (x.sr E).n];rw[bN,P];have ak:=u.f_ 4;obtain⟨⟨f,v,d,ok⟩,hy⟩:∃al,hI x.p n=al:=⟨_,rfl⟩;have ad:=O hy;go_upto_region 5 with(go_at_call 167;((with_reducible refine(mv b gx x n B hs h0 h1).mono ?_);rw[ad.out];unfold xL;rintro an ae⟨am,rfl,z,U,p⟩;have aw:=O U));have H:=u.xg p ai;have i:=W.xg p Q;have l:=K.trans p;have R:f.e.sm 800010:=Ny;cases ok with
 |false=>
  have HM:Hid (t=f):=O (by rw[<-A.out];show(if(hI x.p n).2.2.2=false then some (hI x.p n).1 else some (h6 (hI x.p n).1 (hI x.p n).2.1 (hI x.p n).2.2.1<|x.p.sr E)).getD x.p=f;rw[ad.out];rfl);exact Nw
 |true=>
  have HM:Hid (t=h6 f v d (x.sr E)):=O (by rw[<-A.out];show(if(hI x.p n).2.2.2=false then some (hI x.p n).1 else some (h6 (hI x.p n).1 (hI x.p n).2.1 (hI x.p n).2.2.1<|x.p.sr E)).getD x.p=_;rw[ad.out];rfl);have bV:am.e.ws.l.length<=1000000:=by have q:=R.ws;rw[<-aw.out]at q;exact H_ q I
  have F:=H.f_ 0;have v0:=i.f_ 0;have v1:=i.f_ 1;go_wp2_with (go_at_call 163;((with_reducible refine(ke b gx am v d (x.sr E) z bV).mono ?_);unfold k5;rintro an ar⟨T,rfl,S,N,D⟩;have bu:=O N));go_ret;rw[HM.out];exact⟨T,rfl,S,by rw[bu.out,aw.out],l.trans D⟩
def vars_8(n:Int)(L:kF b w gx x)(j:E<16)(hs:x.p.e.sm 800000)(h0:0<=n)(h1:n<=1000000):
 Calls prog 120 #[q_ gx,.agg #[Y 8,Y (E:Int),Y V,Y c,Y n]] w (lI ((kb x.p ⟨8,E,V,c,n⟩).getD x.p) true b gx w):=by
 obtain⟨P,hP⟩:=mn_<|(kb x.p ⟨8,E,V,c,n⟩).getD x.p;rw[hP];have af:=O hP;obtain⟨C,e,ah,ai,A,p,aF,aj⟩:=sP L #[Y 8,Y (E:Int),Y V,Y c,Y n];go_enter func120,ntmps120;go_upto_region 1 with fail;have Q:=p.f_ 0;go_upto_region 3 with fail;have ao:J [] C C.drew:=(G_ [] C).drew;refine hS (λw'=>(w'.cell? (Z e 0)=some (Y 8)/\w'.cell? (Z e 1)=some (Y (E:Int))/\w'.cell? (Z e 2)=some (Y V)/\w'.cell? (Z e 3)=some (Y c)/\w'.cell? (Z e 4)=some (Y n))/\w'.cell? (Z gx<|4+E*2)=some (.bool (x.sr E).r)/\w'.cell? (Z gx<|4+E*2+1)=some (Y (x.sr E).n)) 10 k_ ?_;have m:=And.intro p.drew.c5<|wk (A.bk.drew) j;have aT:(0:Int)<=(E:Int):=X;have aC:(E:Int)<16:=X;iterate 8 refine j8 m ?_
 refine h4 8 λM o=>?_;go_simp;refine hZ o (sw p A.bk j) λm=>?_;refine h4 9 λM o=>?_;go_simp;refine hZ o (sw p A.bk j) λm=>?_;refine hN k_ ?_ _;obtain⟨aK,al,bN,aN,an,T,bD,a2,aS⟩:=Aa A p aF #[.bool (x.sr E).r,Y (x.sr E).n];rw[bN,aN];have ak:=T.f_ 4;obtain⟨⟨u,y,d,ok⟩,hy⟩:∃au,hI x.p n=au:=⟨_,rfl⟩;have ad:=O hy;go_upto_region 5 with(go_at_call 167;((with_reducible refine(mv b gx x n an hs h0 h1).mono ?_);rw[ad.out];unfold xL;rintro av ae⟨am,rfl,z,bB,D⟩;have aw:=O bB));have F:=T.xg D aj;have i:=bD.xg D aS;have l:=a2.trans D;have aW:u.e.sm 800010:=Ny;cases ok with
 |false=>
  have HM:Hid (P=u):=O (by rw[<-af.out];show(if(hI x.p n).2.2.2=false then some (hI x.p n).1 else some (kJ (hQ (hI x.p n).1 (hI x.p n).2.1 (hI x.p n).2.2.1).1 E (hQ (hI x.p n).1 (hI x.p n).2.1 (hI x.p n).2.2.1).2)).getD x.p=_;rw[ad.out];rfl);exact Nw
 |true=>
  obtain⟨a,hv⟩:=mn_<|(hQ am.p y d).2;have R:=O hv;have bV:am.e.rs.l.length<=1000000:=by have q:=aW.rs;rw[<-aw.out]at q;exact H_ q I
  have Q:=F.f_ 0;go_upto_region 11 with(go_at_call 118;((with_reducible refine(jY b gx am y d z bV).mono ?_);unfold ni;rintro av s⟨t,rfl,S,aM,B⟩;have bu:=O aM;rw[R.out]));have HM:Hid (P=kJ t.p E a):=O (by rw[<-af.out];show(if(hI x.p n).2.2.2=false then some (hI x.p n).1 else some (kJ (hQ (hI x.p n).1 (hI x.p n).2.1 (hI x.p n).2.2.1).1 E (hQ (hI x.p n).1 (hI x.p n).2.1 (hI x.p n).2.2.1).2)).getD x.p=_;rw[ad.out];show kJ (hQ u y d).1 E (hQ u y d).2=_;rw[<-aw.out,R.out,bu.out]);have H:=(F.xg B aj).alloc<|.cells #[.bool a.r,Y a.n] 38;have g:=S.hF<|(G_ [] s).alloc<|.cells #[.bool a.r,Y a.n] 38;have K:=T_ s 38 #[.bool a.r,Y a.n];have W:=(l.trans B).hF<|(G_ [] s).alloc<|.cells #[.bool a.r,Y a.n] 38;obtain⟨f,U⟩:=nm_<|s.alloc<|.cells #[.bool a.r,Y a.n] 38;rw[<-U]at H g K W |-;clear U;clear S B z l F i;generalize s.heap.size=v at*;have Q:=H.f_ 0
  go_upto_region 13 with fail;refine hS (λw'=>(w'.cell? (Z e 0)=some (Y 8)/\w'.cell? (Z e 1)=some (Y (E:Int))/\w'.cell? (Z e 2)=some (Y V)/\w'.cell? (Z e 3)=some (Y c)/\w'.cell? (Z e 4)=some (Y n))/\w'.cell? (Z v 0)=some (.bool a.r)/\w'.cell? (Z v 1)=some (Y a.n)) 9 k_ ?_;have m:(f.drew.cell? (Z e 0)=some (Y 8)/\f.drew.cell? (Z e 1)=some (Y (E:Int))/\f.drew.cell? (Z e 2)=some (Y V)/\f.drew.cell? (Z e 3)=some (Y c)/\f.drew.cell? (Z e 4)=some (Y n))/\f.drew.cell? (Z v 0)=some (.bool a.r)/\f.drew.cell? (Z v 1)=some (Y a.n):=⟨H.drew.c5,K.drew.f_ 0,K.drew.f_ 1⟩;have aT:(0:Int)<=(E:Int):=X;have aC:(E:Int)<16:=X;(iterate 9 refine j8 m ?_);have bq:f.cell? (Z gx<|40+E*2)=some (.bool (t.e.r E).r):=(g.bk.f_ _).trans (kt t E j).1;have aY:f.cell? (Z gx<|40+E*2+1)=some (Y (t.e.r E).n):=(g.bk.f_ _).trans (kt t E j).2;have bE:=g.bk.hG<|40+E*2;have bz:=g.bk.hG<|40+E*2+1;refine h4 9 λM o=>?_;go_simp;obtain⟨aR,N⟩:=EZ g a j;refine o.out _ _ (λh=>GR h I) ?_;try simp only[a_]
  refine hN k_ ?_ _;go_wp2;go_ret;rw[HM.out];exact⟨_,rfl,g.sp N aR rfl rfl rfl rfl rfl rfl rfl,rfl,W.iy N⟩
def vars_20(n:Int)(L:kF b w gx x)(ha:E<16)(hs:x.p.e.sm 800000)(h0:0<=n)(h1:n<=1000000):
 Calls prog 120 #[q_ gx,.agg #[Y 20,Y (E:Int),Y V,Y c,Y n]] w (lI ((kb x.p ⟨20,E,V,c,n⟩).getD x.p) true b gx w):=by
 obtain⟨Q,hP⟩:=mn_<|(kb x.p ⟨20,E,V,c,n⟩).getD x.p;rw[hP];have af:=O hP;clear hP;obtain⟨ah,N,ai,aj,P,C,aF,al⟩:=sP L #[Y 20,Y (E:Int),Y V,Y c,Y n];go_enter func120,ntmps120;go_upto_region 1 with fail;clear ai aj;have M:=C.f_ 0;go_upto_region 3 with fail;clear M;have ao:J [] ah ah.drew:=(G_ [] ah).drew;refine hS (λw'=>(w'.cell? (Z N 0)=some (Y 20)/\w'.cell? (Z N 1)=some (Y (E:Int))/\w'.cell? (Z N 2)=some (Y V)/\w'.cell? (Z N 3)=some (Y c)/\w'.cell? (Z N 4)=some (Y n))/\w'.cell? (Z gx<|4+E*2)=some (.bool (x.sr E).r)/\w'.cell? (Z gx<|4+E*2+1)=some (Y (x.sr E).n)) 10 k_ ?_;have f:=And.intro C.drew.c5<|wk (P.bk.drew) ha;have aT:(0:Int)<=(E:Int):=X;have aC:(E:Int)<16:=X;iterate 8 refine j8 f ?_
 refine h4 8 λu j=>?_;go_simp;clear f;refine hZ j (sw C P.bk ha) λf=>?_;clear j u;refine h4 9 λu j=>?_;go_simp;clear f;refine hZ j (sw C P.bk ha) λf=>?_;clear j u;refine hN k_ ?_ _;obtain⟨aK,an,bN,aN,au,ax,bD,a2,aS⟩:=Aa P C aF #[.bool (x.sr E).r,Y (x.sr E).n];rw[bN,aN];clear bN aN P C aF ao f;have ak:=ax.f_ 4;obtain⟨⟨o,m,d,ok⟩,hy⟩:∃av,hI x.p n=av:=⟨_,rfl⟩;have ad:=O hy;clear hy;go_upto_region 5 with(go_at_call 167;((with_reducible refine(mv b gx x n au hs h0 h1).mono ?_);rw[ad.out];unfold xL;rintro e ae⟨am,rfl,z,bB,R⟩;have aw:=O bB;clear bB));have aA:=ax.xg R al;have i:=bD.xg R aS;have l:=a2.trans R;have aW:o.e.sm 800010:=Ny;clear au ax bD a2 R ak;cases ok with
 |false=>
  have HM:Hid (Q=o):=O (by rw[<-af.out];show(if(hI x.p n).2.2.2=false then some (hI x.p n).1 else if(hQ (hI x.p n).1 (hI x.p n).2.1 (hI x.p n).2.2.1).2.r=true then some (i9 (hQ (hI x.p n).1 (hI x.p n).2.1 (hI x.p n).2.2.1).1<|-2) else some {(hQ (hI x.p n).1 (hI x.p n).2.1 (hI x.p n).2.2.1).1 with e:={(hQ (hI x.p n).1 (hI x.p n).2.1 (hI x.p n).2.2.1).1.e with h7:=3,v:=(hQ (hI x.p n).1 (hI x.p n).2.1 (hI x.p n).2.2.1).2,pc:=(hQ (hI x.p n).1 (hI x.p n).2.1 (hI x.p n).2.2.1).1.j4,r:=(hQ (hI x.p n).1 (hI x.p n).2.1 (hI x.p n).2.2.1).1.sr}}).getD x.p=_;rw[ad.out];rfl);exact Nw
 |true=>
  obtain⟨v,hv⟩:=mn_<|(hQ am.p m d).2;have aL:=O hv;clear hv;have bV:am.e.rs.l.length<=1000000:=by have q:=aW.rs;rw[<-aw.out]at q;exact H_ q I
  have M:=aA.f_ 0;go_upto_region 11 with(go_at_call 118;((with_reducible refine(jY b gx am m d z bV).mono ?_);unfold ni;rintro e D⟨a,rfl,ag,aM,W⟩;have bu:=O aM;clear aM;rw[aL.out]));have U:Hid (Q=if v.r=true then i9 a.p (-2) else{a.p with e:={a.p.e with h7:=3,v:=v,pc:=a.p.j4,r:=a.p.sr}}):=O (by rw[<-af.out];show(if(hI x.p n).2.2.2=false then some (hI x.p n).1 else if(hQ (hI x.p n).1 (hI x.p n).2.1 (hI x.p n).2.2.1).2.r=true then some (i9 (hQ (hI x.p n).1 (hI x.p n).2.1 (hI x.p n).2.2.1).1<|-2) else some {(hQ (hI x.p n).1 (hI x.p n).2.1 (hI x.p n).2.2.1).1 with e:={(hQ (hI x.p n).1 (hI x.p n).2.1 (hI x.p n).2.2.1).1.e with h7:=3,v:=(hQ (hI x.p n).1 (hI x.p n).2.1 (hI x.p n).2.2.1).2,pc:=(hQ (hI x.p n).1 (hI x.p n).2.1 (hI x.p n).2.2.1).1.j4,r:=(hQ (hI x.p n).1 (hI x.p n).2.1 (hI x.p n).2.2.1).1.sr}}).getD x.p=_;rw[ad.out];show(if(hQ o m d).2.r=true then some (i9 (hQ o m d).1<|-2) else some {(hQ o m d).1 with e:={(hQ o m d).1.e with h7:=3,v:=(hQ o m d).2,pc:=(hQ o m d).1.j4,r:=(hQ o m d).1.sr}}).getD x.p=_;rw[<-aw.out,aL.out,<-bu.out];split<;>rfl);have bC:a.p.e.sm 900000:=by
   have q:=ko aW m d;rw[<-aw.out,<-bu.out]at q;exact q.mono I
  have aJ:=(aA.xg W al).alloc<|.cells #[.bool v.r,Y v.n] 38;have B:=ag.hF<|(G_ [] D).alloc<|.cells #[.bool v.r,Y v.n] 38;have A:=T_ D 38 #[.bool v.r,Y v.n];have be:=(l.trans W).hF<|(G_ [] D).alloc<|.cells #[.bool v.r,Y v.n] 38;have h:D.heap.size≠gx:=ov ag.bk.lt;clear M aL bu af ad;obtain⟨t,bG⟩:=nm_<|D.alloc<|.cells #[.bool v.r,Y v.n] 38;rw[<-bG]at aJ B A be |-;clear bG;clear ag W z l aA i;generalize D.heap.size=K at*;have M:=aJ.f_ 0
  cases F:v.r with
  |true=>
   have HM:Hid (Q=i9 a.p (-2)):=O (by rw[U.out,L_ F]);rw[F]at A;clear F U;have z0:=A.f_ 0;go_wp2_with (go_at_call 165;((with_reducible refine(ld b gx a (-2) B bC).mono ?_);unfold k5;rintro e N0⟨y,rfl,s,g,G⟩;have H:=O g;clear g));go_ret;rw[HM.out];exact⟨y,rfl,s,H.out,be.trans G⟩
  |false=>
   have HM:Hid (Q={a.p with e:={a.p.e with h7:=3,v:=v,pc:=a.p.j4,r:=a.p.sr}}):=O (by rw[U.out,K_<|by rw[F];decide]);have z0:t.cell? (Z K 0)=some (.bool false):=(A.f_ 0).trans (by rw[F];rfl);clear F U;go_upto_region 25 with fail;clear M z0;have k:=B.bk.drew;refine hS (λw'=>(∀g,g<33->w'.cell? (Z gx<|3+g)=(iE a.j4 a.sr)[g]?)/\w'.cell? (Z K 0)=some (.bool v.r)/\w'.cell? (Z K 1)=some (Y v.n)) 20 k_ ?_;refine m6 ⟨λg s=>by rw[k.f_];exact mK a g s,A.drew.f_ 0,A.drew.f_ 1⟩ λf=>?_;(iterate 7 refine j8 f ?_);refine iC 7 (v:=.agg<|iE a.j4 a.sr) f ?_ (hy:=(Or.inl ⟨r_,λw' aZ=>jA 49 rfl gx 3 r_ (λg s=>aZ.1 g s) underlying49 rfl k_⟩));(iterate 3 refine j8 f ?_);have bZ:t.cell? (Z gx 38)=some (Y a.e.h7):=(B.bk.f_ 38).trans rfl;have bU:=B.bk.hG 38;refine h4 11 λu j=>?_;go_simp;have y:Bk ((t.setCell (Z gx 38)<|Y 3).drew) gx 186 ({a with e:={a.e with h7:=3}}:X1).g_:=(B.bk).hW 38<|Y 3;have S:Bk ((t.setCell (Z gx 38)<|Y 3).drew) K 38 #[.bool v.r,Y v.n]:=(A).ir (p:=(Z gx 38)) h<|Y 3;have aE:J [gx] t ((t.setCell (Z gx 38)<|Y 3).drew):=J.drew <| ((G_ [gx] t)).setCell (p:=(Z gx 38)) (.inl s_) (Y 3);obtain⟨H,bW⟩:=nm_<|(t.setCell (Z gx 38)<|Y 3).drew;rw[<-bW]at y S aE |-;clear bW f
   refine hZ j ⟨λg s=>by rw[y.f_];exact mK ({a with e:={a.e with h7:=3}}:X1) g s,S.f_ 0,S.f_ 1⟩ λf=>?_;clear j u;clear bZ bU;(iterate 3 refine j8 f ?_);have b7:H.cell? (Z gx 79)=some (.bool a.e.v.r):=(y.f_ 79).trans rfl;have b8:H.cell? (Z gx 80)=some (Y a.e.v.n):=(y.f_ 80).trans rfl;have b4:=y.hG 79;have b6:=y.hG 80;refine h4 15 λu j=>?_;go_simp;have bt:Bk ((H.setCell (Z gx 79)<|.bool v.r).setCell (Z gx 80)<|Y v.n) gx 186 ({a with e:={a.e with h7:=3,v:=v}}:X1).g_:=((y).hW 79<|.bool v.r).hW 80<|Y v.n;have T:Bk ((H.setCell (Z gx 79)<|.bool v.r).setCell (Z gx 80)<|Y v.n) K 38 #[.bool v.r,Y v.n]:=((S).ir (p:=(Z gx 79)) h<|.bool v.r).ir (p:=(Z gx 80)) h<|Y v.n;have aV:J [gx] t ((H.setCell (Z gx 79)<|.bool v.r).setCell (Z gx 80)<|Y v.n):=((aE).setCell (p:=(Z gx 79)) (.inl s_)<|.bool v.r).setCell (p:=(Z gx 80)) (.inl s_)<|Y v.n;obtain⟨ay,bX⟩:=nm_<|(H.setCell (Z gx 79)<|.bool v.r).setCell (Z gx 80)<|Y v.n;rw[<-bX]at bt T aV |-;clear bX f
   refine hZ j ⟨λg s=>by rw[bt.f_];exact mK ({a with e:={a.e with h7:=3,v:=v}}:X1) g s,T.f_ 0,T.f_ 1⟩ λf=>?_;clear b7 b4 b8 b6;iterate 3 refine j8 f ?_
   refine h4 19 λu j=>?_;rw[L_ r_];refine jL 49 _ _ rfl gx 39 r_ (iE a.j4 a.sr) r_ 186 _ bt (by show 39+33<=82;decide) k_ (oo) ?_;intro N0 bz G;rw[nG]at bz;have bF:=T.gr G<|zu h;refine hZ j ⟨λg s=>by rw[bz.f_];exact mK ({a with e:={a.e with h7:=3,v:=v,pc:=a.j4,r:=a.sr}}:X1) g s,bF.f_ 0,bF.f_ 1⟩ λf=>?_;refine hN k_ ?_ _;go_wp2;go_ret;rw[HM.out];exact⟨_,rfl,B.sp (x':=({a with e:={a.e with h7:=3,v:=v,pc:=a.j4,r:=a.sr}}:X1)) (aV.trans G) bz rfl rfl rfl rfl rfl rfl rfl,rfl,be.iy<|aV.trans G⟩
def vars_10(n:Int)(L:kF b w gx x)(ha:E<16)(hs:x.p.e.sm 800000)(h0:0<=n)(h1:n<=1000000):
 Calls prog 120 #[q_ gx,.agg #[Y 10,Y (E:Int),Y V,Y c,Y n]] w (lI ((kb x.p ⟨10,E,V,c,n⟩).getD x.p) true b gx w):=by
 obtain⟨P,hP⟩:=mn_<|(kb x.p ⟨10,E,V,c,n⟩).getD x.p;rw[hP];have al:=O hP;clear hP;obtain⟨an,F,aA,bd,M,y,aF,bf⟩:=sP L #[Y 10,Y (E:Int),Y V,Y c,Y n];go_enter func120,ntmps120;go_upto_region 1 with fail;clear aA bd;have D:=y.f_ 0;go_upto_region 3 with fail;clear D;have ao:J [] an an.drew:=(G_ [] an).drew;refine hS (λw'=>(w'.cell? (Z F 0)=some (Y 10)/\w'.cell? (Z F 1)=some (Y (E:Int))/\w'.cell? (Z F 2)=some (Y V)/\w'.cell? (Z F 3)=some (Y c)/\w'.cell? (Z F 4)=some (Y n))/\w'.cell? (Z gx<|4+E*2)=some (.bool (x.sr E).r)/\w'.cell? (Z gx<|4+E*2+1)=some (Y (x.sr E).n)) 10 k_ ?_;have v:=And.intro y.drew.c5<|wk (M.bk.drew) ha;have aT:(0:Int)<=(E:Int):=X;have aC:(E:Int)<16:=X;iterate 8 refine j8 v ?_
 refine h4 8 λW B=>?_;go_simp;clear v;refine hZ B (sw y M.bk ha) λv=>?_;clear B W;refine h4 9 λW B=>?_;go_simp;clear v;refine hZ B (sw y M.bk ha) λv=>?_;clear B W;refine hN k_ ?_ _;obtain⟨aK,bh,bN,aN,bk,ax,bD,a2,aS⟩:=Aa M y aF #[.bool (x.sr E).r,Y (x.sr E).n];rw[bN,aN];clear bN aN M y aF ao v;have ak:=ax.f_ 4;obtain⟨⟨o,a,d,ok⟩,hy⟩:∃U,hI x.p n=U:=⟨_,rfl⟩;have ad:=O hy;clear hy;go_upto_region 5 with(go_at_call 167;((with_reducible refine(mv b gx x n bk hs h0 h1).mono ?_);rw[ad.out];unfold xL;rintro e ae⟨am,rfl,z,bB,Q⟩;have aw:=O bB;clear bB));have bl:=ax.xg Q bf;have i:=bD.xg Q aS;have l:=a2.trans Q;have aW:o.e.sm 800010:=Ny;clear bk ax bD a2 Q ak;cases ok with
 |false=>
  have HM:Hid (P=o):=O (by rw[<-al.out];show(if(hI x.p n).2.2.2=false then some (hI x.p n).1 else(if(iA V (hQ (hI x.p n).1 (hI x.p n).2.1 (hI x.p n).2.2.1).2<|x.sr E).2≠0 then some (i9 (hQ (hI x.p n).1 (hI x.p n).2.1 (hI x.p n).2.2.1).1 (iA V (hQ (hI x.p n).1 (hI x.p n).2.1 (hI x.p n).2.2.1).2<|x.sr E).2) else some {(h6 (hQ (hI x.p n).1 (hI x.p n).2.1 (hI x.p n).2.2.1).1 (hI x.p n).2.1 (hI x.p n).2.2.1 (iA V (hQ (hI x.p n).1 (hI x.p n).2.1 (hI x.p n).2.2.1).2<|x.sr E).1)with e:={(h6 (hQ (hI x.p n).1 (hI x.p n).2.1 (hI x.p n).2.2.1).1 (hI x.p n).2.1 (hI x.p n).2.2.1 (iA V (hQ (hI x.p n).1 (hI x.p n).2.1 (hI x.p n).2.2.1).2<|x.sr E).1).e with ds:=[⟨(hI x.p n).2.1,(hI x.p n).2.2.1,V,x.sr E⟩]}})).getD x.p=_;rw[ad.out];rfl);exact Nw
 |true=>
  obtain⟨f,hv⟩:=mn_<|(hQ am.p a d).2;have aL:=O hv;clear hv;have bV:am.e.rs.l.length<=1000000:=by have q:=aW.rs;rw[<-aw.out]at q;exact H_ q I
  have D:=bl.f_ 0;go_upto_region 11 with(go_at_call 118;((with_reducible refine(jY b gx am a d z bV).mono ?_);unfold ni;rintro e C⟨j,rfl,ag,aM,N⟩;have bu:=O aM;clear aM;rw[aL.out]));obtain⟨⟨m,k⟩,av⟩:∃q,iA V f (x.sr E)=q:=⟨_,rfl⟩;have au:=O av;clear av;have bp:Hid (P=if k≠0 then i9 j.p k else{(h6 j.p a d m)with e:={(h6 j.p a d m).e with ds:=[⟨a,d,V,x.sr E⟩]}}):=O (by rw[<-al.out];show(if(hI x.p n).2.2.2=false then some (hI x.p n).1 else(if(iA V (hQ (hI x.p n).1 (hI x.p n).2.1 (hI x.p n).2.2.1).2<|x.sr E).2≠0 then some (i9 (hQ (hI x.p n).1 (hI x.p n).2.1 (hI x.p n).2.2.1).1 (iA V (hQ (hI x.p n).1 (hI x.p n).2.1 (hI x.p n).2.2.1).2<|x.sr E).2) else some {(h6 (hQ (hI x.p n).1 (hI x.p n).2.1 (hI x.p n).2.2.1).1 (hI x.p n).2.1 (hI x.p n).2.2.1 (iA V (hQ (hI x.p n).1 (hI x.p n).2.1 (hI x.p n).2.2.1).2<|x.sr E).1)with e:={(h6 (hQ (hI x.p n).1 (hI x.p n).2.1 (hI x.p n).2.2.1).1 (hI x.p n).2.1 (hI x.p n).2.2.1 (iA V (hQ (hI x.p n).1 (hI x.p n).2.1 (hI x.p n).2.2.1).2<|x.sr E).1).e with ds:=[⟨(hI x.p n).2.1,(hI x.p n).2.2.1,V,x.sr E⟩]}})).getD x.p=_;rw[ad.out];show((if(iA V (hQ o a d).2<|x.sr E).2≠0 then some (i9 (hQ o a d).1 (iA V (hQ o a d).2<|x.sr E).2) else some {(h6 (hQ o a d).1 a d (iA V (hQ o a d).2<|x.sr E).1)with e:={(h6 (hQ o a d).1 a d (iA V (hQ o a d).2<|x.sr E).1).e with ds:=[⟨a,d,V,x.sr E⟩]}})).getD x.p=_;rw[<-aw.out,aL.out,<-bu.out,au.out];show(if k≠0 then some (i9 j.p k) else _).getD x.p=_;split<;>rfl);have bC:j.p.e.sm 900000:=by
   have q:=ko aW a d;rw[<-aw.out,<-bu.out]at q;exact q.mono I
  have H:=(bl.xg N bf).alloc<|.cells #[.bool f.r,Y f.n] 38;have K:=(i.xg N aS).alloc<|.cells #[.bool f.r,Y f.n] 38;have bi:=ag.hF<|(G_ [] C).alloc<|.cells #[.bool f.r,Y f.n] 38;have ar:=T_ C 38 #[.bool f.r,Y f.n];have be:=(l.trans N).hF<|(G_ [] C).alloc<|.cells #[.bool f.r,Y f.n] 38;clear D aL bu al ad;obtain⟨bm,bG⟩:=nm_<|C.alloc<|.cells #[.bool f.r,Y f.n] 38;rw[<-bG]at H K bi ar be |-;clear bG;clear ag N z l bl i;generalize C.heap.size=N2 at*;have D:=H.f_ 0;have ay:=H.f_ 2;have v0:=K.f_ 0;have v1:=K.f_ 1;have ah:=ar.f_ 0;have N3:=ar.f_ 1
  go_upto_region 16 with(go_at_call 164;((with_reducible refine(mV V f<|x.sr E).mono ?_);unfold qX;rintro e R⟨rfl,aD⟩;rw[au.out]));have ap:=aD.alloc<|.cells #[.bool m.r,Y m.n] 38;have A:=bi.hF ap;have bT:=H.hF ap;have aV:=K.hF ap;have S:=T_ R 38 #[.bool m.r,Y m.n];have ai:=be.hF ap;clear D ay v0 v1 ah N3 au;obtain⟨aQ,a7⟩:=nm_<|R.alloc<|.cells #[.bool m.r,Y m.n] 38;rw[<-a7]at bT aV A S ai ap |-;clear a7;clear bi be H K ap
  have a8:R.heap.size≠gx:=by have:=aD.size;have:=A.lt;have:=A.gr.size;intro he;have bW:=Bk.mm S A.bk I;exact bW he
  generalize R.heap.size=gq at*
  by_cases T:k=0
  .have HM:Hid (P={(h6 j.p a d m)with e:={(h6 j.p a d m).e with ds:=[⟨a,d,V,x.sr E⟩]}}):=O (by rw[bp.out,K_<|by simp[T]]);have q:(k !=0)=false:=zu T;have b5:j.e.ws.l.length<=1000000:=H_ bC.ws I;have bq:=S.f_ 0;have aY:=S.f_ 1;go_upto_region 20 with(go_at_call 163;((with_reducible refine(ke b gx j a d m A b5).mono ?_);unfold k5;rintro e g⟨u,rfl,aG,cX,aO⟩;have aZ:=O cX));have aE:=bT.xg aO bf;have bw:=aV.xg aO aS;have h:=ai.trans aO;have ay:=aE.f_ 2;have v0:=bw.f_ 0;have v1:=bw.f_ 1;obtain⟨hA,aP⟩:=FO g 124 #[Y a,Y d,Y V,.bool (x.sr E).r,Y (x.sr E).n];have t:=aG.hF aP;have bg:(g.alloc<|.cells #[Y a,Y d,Y V,.bool (x.sr E).r,Y (x.sr E).n] 124).cell? (Z gx 75)=some (.slice u.e.ds.A u.e.ds.l.length u.e.ds.c):=(t.bk.f_ 75).trans rfl;have aX:=t.bk.hG 75;go_wp2;go_ret;have bn:=(G_ [gx]<|g.alloc<|.cells #[Y a,Y d,Y V,.bool (x.sr E).r,Y (x.sr E).n] 124).setCell (p:=(Z gx 75)) (.inl s_)<|.slice (j_ g.heap.size) 1 1;have aR:Bk ((g.alloc<|.cells #[Y a,Y d,Y V,.bool (x.sr E).r,Y (x.sr E).n] 124).setCell (Z gx 75)<|.slice (j_ g.heap.size) 1 1) gx 186 ({u with e:={u.e with ds:=⟨some<|Z g.heap.size 0,1,[⟨a,d,V,x.sr E⟩]⟩}}:X1).g_:=t.bk.hW 75<|.slice (j_ g.heap.size) 1 1;have az:Ds (g.alloc<|.cells #[Y a,Y d,Y V,.bool (x.sr E).r,Y (x.sr E).n] 124) (j_ g.heap.size) [⟨a,d,V,x.sr E⟩]:=k2 (s:=5) hA rfl;rw[HM.out];exact⟨_,rfl,t.CS (x':=({u with e:={u.e with ds:=⟨some<|Z g.heap.size 0,1,[⟨a,d,V,x.sr E⟩]⟩}}:X1)) bn aR rfl rfl rfl rfl t.nw t.nr az t.ia t.tX (I_ 1) t.qf,GG (λU:XP=>({U with e:={U.e with ds:=[⟨a,d,V,x.sr E⟩]}}:XP)) aZ.out,(h.hF aP).iy bn⟩
  have HM:Hid (P=i9 j.p k):=O (by rw[bp.out,L_ T]);have q:(k !=0)=true:=zu T;go_wp2_with (go_at_call 165;((with_reducible refine(ld b gx j k A bC).mono ?_);unfold k5;rintro e N0⟨u,rfl,g,t,G⟩;have bj:=O t));go_ret;rw[HM.out];exact⟨u,rfl,g,bj.out,ai.trans G⟩
def oZ{x:XP}{i:In}(h:i.op=8\/i.op=9\/i.op=10\/i.op=20):(kb x i).isSome=true:=by
 unfold kb;rw[K_ X];dsimp only
 repeat' split
 all_goals rfl
def tz{w:World}(L:kF b w gx x)(h:x.p.e.sm 800000)(p:0<=i.a)(o:i.a<16)(g:i.op=8\/i.op=9\/i.op=10\/i.op=20->0<=i.n/\i.n<=1000000):
 Calls prog 120 #[q_ gx,.agg #[Y i.op,Y i.a,Y i.b,Y i.c,Y i.n]] w (lI ((kb x.p i).getD x.p) (kb x.p i).isSome b gx w):=by
 obtain⟨f,ap,V,c,e⟩:=i;simp only at p o g |-;obtain⟨E,rfl⟩:∃k:Nat,ap=k:=⟨ap.toNat,X⟩;have j:E<16:=X
 by_cases m:f=8
 .subst m;have a:=g I;rw[oZ s_];exact vars_8 b w gx x E V c e L j h a.1 a.2
 by_cases l:f=9
 .subst l;have a:=g I;rw[oZ s_];exact vars_9 b w gx x E V c e L j h a.1 a.2
 by_cases n:f=10
 .subst n;have a:=g I;rw[oZ s_];exact vars_10 b w gx x E V c e L j h a.1 a.2
 by_cases d:f=20
 .subst d;have a:=g I;rw[oZ s_];exact vars_20 b w gx x E V c e L j h a.1 a.2
 have q:kb x.p ⟨f,E,V,c,e⟩=none:=by
  unfold kb;exact L_ ⟨m,l,n,d⟩
 rw[q];exact CR b w gx x f E V c e L ⟨m,l,n,d⟩
def rest_17(n:Int)(L:kF b w gx x)(p:E<16)(F:x.p.e.sm 800000):
 Calls prog 121 #[q_ gx,.agg #[Y 17,Y (E:Int),Y V,Y c,Y n]] w (k5 (.tuple #[]) (jH x.p ⟨17,E,V,c,n⟩) b gx w):=by
 obtain⟨m,g,N,H,j,e,t,ad⟩:=sP L #[Y 17,Y (E:Int),Y V,Y c,Y n];go_enter func121,ntmps121;go_upto_region 1 with fail;clear N H;have s:=e.f_ 0;have T:J [] m m.drew:=(G_ [] m).drew;refine hS (λw'=>(w'.cell? (Z g 0)=some (Y 17)/\w'.cell? (Z g 1)=some (Y (E:Int))/\w'.cell? (Z g 2)=some (Y V)/\w'.cell? (Z g 3)=some (Y c)/\w'.cell? (Z g 4)=some (Y n))/\w'.cell? (Z gx<|4+E*2)=some (.bool (x.sr E).r)/\w'.cell? (Z gx<|4+E*2+1)=some (Y (x.sr E).n)) 10 k_ ?_;have a:=And.intro e.drew.c5<|wk (j.bk.drew) p;have aT:(0:Int)<=(E:Int):=X;have aC:(E:Int)<16:=X;iterate 8 refine j8 a ?_
 refine h4 8 λl f=>?_;go_simp;clear a;refine hZ f (sw e j.bk p) λa=>?_;clear f l;refine h4 9 λl f=>?_;go_simp;clear a;refine hZ f (sw e j.bk p) λa=>?_;clear f l;refine hN k_ ?_ _;obtain⟨aK,af,D,v,K,B,bD,Q,aS⟩:=Aa j e t #[.bool (x.sr E).r,Y (x.sr E).n];rw[D,v];clear D v j e t T a;have s:=B.f_ 0;go_upto_region 40 with(go_at_call 161;((with_reducible refine(nf b gx x K<|H_ F.rs I).mono ?_);unfold vE;rintro ah ae⟨z,rfl,ai,C,q⟩;have A:=O C;clear C));obtain⟨aj,o⟩:=mn_<|(hO x.p).2.1;rw[o];have R:=O o;clear o;have y:=l9 F;rw[<-A.out]at y;have W:z.e.ws.l.length<=1000000:=H_ y.ws I;have P:=B.xg q ad;have ak:=P.f_ 4;clear s;go_wp2_with (go_at_call 163;((with_reducible refine(ke b gx z aj 2 ⟨false,n⟩ ai W).mono ?_);unfold k5;rintro ah al⟨U,rfl,S,u,M⟩;have bu:=O u;clear u));refine en_ ?_;exact⟨U,rfl,S,by rw[bu.out,A.out,<-R.out];rfl,(Q.trans q).trans M⟩
def rest_5(n:Int)(L:kF b w gx x)(u:E<16)(U:d<16)(W:x.p.e.sm 800000):
 Calls prog 121 #[q_ gx,.agg #[Y 5,Y (E:Int),Y (d:Int),Y c,Y n]] w (k5 (.tuple #[]) (jH x.p ⟨5,E,d,c,n⟩) b gx w):=by
 obtain⟨R,T⟩:=mn_<|jH x.p ⟨5,E,d,c,n⟩;rw[T];have af:=O T;obtain⟨K,f,ah,ai,H,v,aF,aj⟩:=sP L #[Y 5,Y (E:Int),Y (d:Int),Y c,Y n];go_enter func121,ntmps121;go_upto_region 1 with fail;have ak:=v.f_ 0;have ao:J [] K K.drew:=(G_ [] K).drew;refine hS (λw'=>(w'.cell? (Z f 0)=some (Y 5)/\w'.cell? (Z f 1)=some (Y (E:Int))/\w'.cell? (Z f 2)=some (Y (d:Int))/\w'.cell? (Z f 3)=some (Y c)/\w'.cell? (Z f 4)=some (Y n))/\w'.cell? (Z gx<|4+E*2)=some (.bool (x.sr E).r)/\w'.cell? (Z gx<|4+E*2+1)=some (Y (x.sr E).n)) 10 k_ ?_;have a:=And.intro v.drew.c5<|wk (H.bk.drew) u;have aT:(0:Int)<=(E:Int):=X;have aC:(E:Int)<16:=X;iterate 8 refine j8 a ?_
 refine h4 8 λD j=>?_;go_simp;refine hZ j (sw v H.bk u) λa=>?_;refine h4 9 λD j=>?_;go_simp;refine hZ j (sw v H.bk u) λa=>?_;refine hN k_ ?_ _;obtain⟨B,al,bN,aN,P,N,bD,a2,aS⟩:=Aa H v aF #[.bool (x.sr E).r,Y (x.sr E).n];rw[bN,aN];have ak:=N.f_ 0;go_upto_region 4 with fail;obtain⟨⟨y,id,ok⟩,hy⟩:∃an,ik x.p (x.sr d) n=an:=⟨_,rfl⟩;have ad:=O hy;have C:J [] B B.drew:=(G_ [] B).drew;refine hS (λw'=>(w'.cell? (Z f 0)=some (Y 5)/\w'.cell? (Z f 1)=some (Y (E:Int))/\w'.cell? (Z f 2)=some (Y (d:Int))/\w'.cell? (Z f 3)=some (Y c)/\w'.cell? (Z f 4)=some (Y n))/\w'.cell? (Z gx<|4+d*2)=some (.bool (x.sr d).r)/\w'.cell? (Z gx<|4+d*2+1)=some (Y (x.sr d).n)) 17 k_ ?_;have a:=And.intro N.drew.c5<|wk (P.bk.drew) U;have av:(0:Int)<=(d:Int):=X;have bO:(d:Int)<16:=X;have G:=P.hF C;iterate 11 refine j8 a ?_
 refine h4 11 λD j=>?_;go_simp;(go_at_call 168;((with_reducible refine(rh b gx x (x.sr d) n G W).mono ?_);rw[ad.out];unfold CC;rintro e s⟨am,rfl,z,bB,A⟩;have aw:=O bB));have ar:am.sr=x.sr:=Mj;have A:XG gx B s:=((XG.refl gx B).hF C).trans A;have M:=N.xg A aj;refine hZ j ⟨M.c5,by rw[<-ar];exact(wk (z.bk) U)⟩ λa=>?_;(iterate 5 refine j8 a ?_);refine hN k_ ?_ _;have i:=bD.xg A aS;have l:=a2.trans A;have aW:y.e.sm 800010:=by
  have q:=qD W (x.sr d) n;rw[ad.out]at q;exact q.mono I
 replace aw:Hid (am.p=y):=aw;cases ok with
 |false=>
  have HM:Hid (R=y):=O (by rw[<-af.out];show(if(ik x.p (x.sr d) n).2.2=true then kJ (hQ (ik x.p (x.sr d) n).1 (ik x.p (x.sr d) n).2.1 n).1 E (hQ (ik x.p (x.sr d) n).1 (ik x.p (x.sr d) n).2.1 n).2 else(ik x.p (x.sr d) n).1)=_;rw[ad.out];rfl);go_wp2;refine en_ ?_;exact NF
 |true=>
  obtain⟨g,hv⟩:=mn_<|(hQ am.p id n).2;have S:=O hv;have bV:am.e.rs.l.length<=1000000:=by have q:=aW.rs;rw[<-aw.out]at q;exact H_ q I
  have bp:Hid (R=kJ (hQ am.p id n).1 E g):=O (by rw[<-af.out];show(if(ik x.p (x.sr d) n).2.2=true then kJ (hQ (ik x.p (x.sr d) n).1 (ik x.p (x.sr d) n).2.1 n).1 E (hQ (ik x.p (x.sr d) n).1 (ik x.p (x.sr d) n).2.1 n).2 else(ik x.p (x.sr d) n).1)=_;rw[ad.out];show kJ (hQ y id n).1 E (hQ y id n).2=_;rw[<-aw.out,S.out]);go_upto_region 6 with fail;have C:J [] s s.drew:=(G_ [] s).drew;have k:=z.hF C;refine hS (λw'=>w'.cell? (Z f 0)=some (Y 5)/\w'.cell? (Z f 1)=some (Y (E:Int))/\w'.cell? (Z f 2)=some (Y (d:Int))/\w'.cell? (Z f 3)=some (Y c)/\w'.cell? (Z f 4)=some (Y n)) 13 k_ ?_;refine m6 M.drew.c5 λa=>?_;refine iC 0 a ?_;refine iC 1 a ?_;refine iC 2 a ?_;refine iC 3 a ?_;refine iC 4 a ?_;refine iC 5 a ?_;refine iC 6 a ?_;refine iC 8 a ?_;refine iC 9 a ?_;refine iC 10 a ?_;refine iC 11 a ?_;refine h4 7 λD j=>?_;go_simp;(go_at_call 118;((with_reducible refine(jY b gx am id n k bV).mono ?_);unfold ni;rintro e o⟨m,rfl,t,aM,F⟩;have bu:=O aM;rw[S.out]));have F:XG gx s o:=((XG.refl gx s).hF C).trans F;have aJ:=M.xg F aj;refine hZ j aJ.c5 λa=>?_;refine iC 12 a ?_;have bq:o.cell? (Z gx<|40+E*2)=some (.bool (m.e.r E).r):=(t.bk.f_ _).trans (kt m E u).1;have aY:o.cell? (Z gx<|40+E*2+1)=some (Y (m.e.r E).n):=(t.bk.f_ _).trans (kt m E u).2;have bE:=t.bk.hG<|40+E*2;have bz:=t.bk.hG<|40+E*2+1;refine h4 13 λD j=>?_;go_simp;have aR:Bk ((o.setCell (Z gx<|40+E*2)<|.bool g.r).setCell (Z gx<|40+E*2+1)<|Y g.n) gx 186 (({m with e:={m.e with r:=pN m.e.r E g}}:X1)).g_:=by rw[<-mJ m g E u];exact(t.bk.hW (40+E*2)<|.bool g.r).hW (40+E*2+1)<|Y g.n
  have Q:J [gx] o ((o.setCell (Z gx<|40+E*2)<|.bool g.r).setCell (Z gx<|40+E*2+1)<|Y g.n):=(((G_ [gx] o).setCell (p:=(Z gx<|40+E*2)) (.inl s_)<|.bool g.r).setCell (p:=(Z gx<|40+E*2+1)) (.inl s_)<|Y g.n);refine j.out _ _ (λh=>GR h I) ?_;try simp only[a_]
  refine hN k_ ?_ _;go_wp2;refine en_ ?_;rw[bp.out,<-bu.out];exact⟨_,rfl,t.sp Q aR rfl rfl rfl rfl rfl rfl rfl,rfl,(l.trans F).iy Q⟩
def rest_6(n:Int)(L:kF b w gx x)(B:E<16)(T:d<16)(U:x.p.e.sm 800000):
 Calls prog 121 #[q_ gx,.agg #[Y 6,Y (E:Int),Y (d:Int),Y c,Y n]] w (k5 (.tuple #[]) (jH x.p ⟨6,E,d,c,n⟩) b gx w):=by
 obtain⟨D,A⟩:=mn_<|jH x.p ⟨6,E,d,c,n⟩;rw[A];have C:=O A;clear A;obtain⟨v,e,af,ah,p,g,M,ai⟩:=sP L #[Y 6,Y (E:Int),Y (d:Int),Y c,Y n];go_enter func121,ntmps121;go_upto_region 1 with fail;clear af ah;have F:=g.f_ 0;have ao:J [] v v.drew:=(G_ [] v).drew;refine hS (λw'=>(w'.cell? (Z e 0)=some (Y 6)/\w'.cell? (Z e 1)=some (Y (E:Int))/\w'.cell? (Z e 2)=some (Y (d:Int))/\w'.cell? (Z e 3)=some (Y c)/\w'.cell? (Z e 4)=some (Y n))/\w'.cell? (Z gx<|4+E*2)=some (.bool (x.sr E).r)/\w'.cell? (Z gx<|4+E*2+1)=some (Y (x.sr E).n)) 10 k_ ?_;have a:=And.intro g.drew.c5<|wk (p.bk.drew) B;have aT:(0:Int)<=(E:Int):=X;have aC:(E:Int)<16:=X;iterate 8 refine j8 a ?_
 refine h4 8 λm f=>?_;go_simp;clear a;refine hZ f (sw g p.bk B) λa=>?_;clear f m;refine h4 9 λm f=>?_;go_simp;clear a;refine hZ f (sw g p.bk B) λa=>?_;clear f m;refine hN k_ ?_ _;obtain⟨o,aj,S,P,u,t,R,K,aS⟩:=Aa p g M #[.bool (x.sr E).r,Y (x.sr E).n];rw[S,P];clear S P p g M ao a;have F:=t.f_ 0;go_upto_region 8 with fail;clear F;obtain⟨⟨s,id,ok⟩,W⟩:∃al,ik x.p (x.sr d) n=al:=⟨_,rfl⟩;have ad:=O W;clear W;have y:J [] o o.drew:=(G_ [] o).drew;refine hS (λw'=>(w'.cell? (Z e 0)=some (Y 6)/\w'.cell? (Z e 1)=some (Y (E:Int))/\w'.cell? (Z e 2)=some (Y (d:Int))/\w'.cell? (Z e 3)=some (Y c)/\w'.cell? (Z e 4)=some (Y n))/\w'.cell? (Z gx<|4+d*2)=some (.bool (x.sr d).r)/\w'.cell? (Z gx<|4+d*2+1)=some (Y (x.sr d).n)) 17 k_ ?_;have a:=And.intro t.drew.c5<|wk (u.bk.drew) T;have av:(0:Int)<=(d:Int):=X;have bO:(d:Int)<16:=X;have G:=u.hF y;iterate 11 refine j8 a ?_
 refine h4 11 λm f=>?_;go_simp;(go_at_call 168;((with_reducible refine(rh b gx x (x.sr d) n G U).mono ?_);rw[ad.out];unfold CC;rintro an ae⟨am,rfl,z,Q,j⟩;have aw:=O Q;clear Q));have ar:am.sr=x.sr:=Mj;have j:XG gx o ae:=((XG.refl gx o).hF y).trans j;have H:=t.xg j ai;clear a;refine hZ f ⟨H.c5,by rw[<-ar];exact(wk (z.bk) T)⟩ λa=>?_;clear f m;(iterate 5 refine j8 a ?_);refine hN k_ ?_ _;have i:=R.xg j aS;have l:=K.trans j;have aW:s.e.sm 800010:=by
  have q:=qD U (x.sr d) n;rw[ad.out]at q;exact q.mono I
 clear G u t R K j a y;replace aw:Hid (am.p=s):=aw;cases ok with
 |false=>
  have HM:Hid (D=s):=O (by rw[<-C.out];show(if(ik x.p (x.sr d) n).2.2=true then h6 (ik x.p (x.sr d) n).1 (ik x.p (x.sr d) n).2.1 n (x.sr E) else(ik x.p (x.sr d) n).1)=_;rw[ad.out];rfl);go_wp2;refine en_ ?_;exact NF
 |true=>
  have bV:am.e.ws.l.length<=1000000:=by have q:=aW.ws;rw[<-aw.out]at q;exact H_ q I
  have bp:Hid (D=h6 am.p id n (x.sr E)):=O (by rw[<-C.out];show(if(ik x.p (x.sr d) n).2.2=true then h6 (ik x.p (x.sr d) n).1 (ik x.p (x.sr d) n).2.1 n (x.sr E) else(ik x.p (x.sr d) n).1)=_;rw[ad.out];show h6 s id n (x.sr E)=_;rw[<-aw.out]);clear C ad;have v0:=i.f_ 0;have v1:=i.f_ 1;have ak:=H.f_ 4;go_wp2_with (go_at_call 163;((with_reducible refine(ke b gx am id n (x.sr E) z bV).mono ?_);unfold k5;rintro an au⟨aq,rfl,ag,N,NZ⟩;have bu:=O N;clear N));refine en_ ?_;rw[bp.out,<-bu.out];exact⟨aq,rfl,ag,rfl,l.trans NZ⟩
def rest_7(n:Int)(L:kF b w gx x)(B:E<16)(h0:0<=n)(h1:n<=1000000):
 Calls prog 121 #[q_ gx,.agg #[Y 7,Y (E:Int),Y V,Y c,Y n]] w (k5 (.tuple #[]) (jH x.p ⟨7,E,V,c,n⟩) b gx w):=by
 obtain⟨U,j,ad,ae,D,z,aF,af⟩:=sP L #[Y 7,Y (E:Int),Y V,Y c,Y n];go_enter func121,ntmps121;go_upto_region 1 with fail;clear ad ae;have ah:=z.f_ 0;have ao:J [] U U.drew:=(G_ [] U).drew;refine hS (λw'=>(w'.cell? (Z j 0)=some (Y 7)/\w'.cell? (Z j 1)=some (Y (E:Int))/\w'.cell? (Z j 2)=some (Y V)/\w'.cell? (Z j 3)=some (Y c)/\w'.cell? (Z j 4)=some (Y n))/\w'.cell? (Z gx<|4+E*2)=some (.bool (x.sr E).r)/\w'.cell? (Z gx<|4+E*2+1)=some (Y (x.sr E).n)) 10 k_ ?_;have a:=And.intro z.drew.c5<|wk (D.bk.drew) B;have aT:(0:Int)<=(E:Int):=X;have aC:(E:Int)<16:=X;iterate 8 refine j8 a ?_
 refine h4 8 λm f=>?_;go_simp;clear a;refine hZ f (sw z D.bk B) λa=>?_;clear f m;refine h4 9 λm f=>?_;go_simp;clear a;refine hZ f (sw z D.bk B) λa=>?_;clear f m;refine hN k_ ?_ _;obtain⟨M,ak,bN,aN,al,ax,bD,a2,aS⟩:=Aa D z aF #[.bool (x.sr E).r,Y (x.sr E).n];rw[bN,aN];clear bN aN D z aF ao a;have ah:=ax.f_ 0;go_upto_region 12 with fail;clear ah;obtain⟨ap,aB,aO,am,bt⟩:=info_parts infoVl;have u:J [] M M.drew:=(G_ [] M).drew;refine hS (λw'=>(w'.cell? (Z j 0)=some (Y 7)/\w'.cell? (Z j 1)=some (Y (E:Int))/\w'.cell? (Z j 2)=some (Y V)/\w'.cell? (Z j 3)=some (Y c)/\w'.cell? (Z j 4)=some (Y n))/\w'.cell? (Z gx 37)=some (Y x.nx)) 13 k_ ?_;have T:=al.hF u;have H:=ax.hF u;have an:=a2.hF u;clear al ax bD a2 u;obtain⟨t,cy⟩:=nm_ M.drew;rw[<-cy]at T H an |-;clear cy
 refine m6 ⟨H.c5,(T.bk.f_ 37).trans rfl⟩ λa=>?_;iterate 7 refine j8 a ?_
 refine h4 7 λm f=>?_;refine u_ rfl _ _ _ rfl 38 ap _ 2 16 underlying54 aB aO am bt .i64 .i64 n r_ r_ h0 X X ?_;have s:J [] t (t.alloc<|.cells (madeCells #[.bool false,Y 0]<|n.toNat*2) 38):=(G_ [] t).alloc _;have bj:Vs (t.alloc<|.cells (madeCells #[.bool false,Y 0]<|n.toNat*2) 38) (j_ t.heap.size) (List.replicate n.toNat default):=CP t n.toNat;have P:=T.hF s;have K:=H.hF s;have aq:=an.hF s;obtain⟨Q,av⟩:=nm_<|t.alloc<|.cells (madeCells #[.bool false,Y 0]<|n.toNat*2) 38;have k:t.alloc (.cells (madeCells (Value.cells<|.agg #[.bool false,Y 0])<|n.toNat*2) 38)=Q:=av.symm;rw[<-av]at bj P K aq;rw[k];clear av k s T H an;generalize t.heap.size=d at*;clear a;refine hZ f ⟨K.c5,(P.bk.f_ 37).trans rfl⟩ λa=>?_;clear f m;refine iC 8 a ?_;refine h4 9 λm f=>?_;go_simp;obtain⟨ar,s⟩:=FO Q 56 #[Y x.nx,.slice (j_ d) n.toNat n.toNat];have o:=P.hF s;have S:=K.hF s;have be:=aq.hF s;have W:=bj.hF s;clear a;refine hZ f ⟨S.c5,(o.bk.f_ 37).trans rfl⟩ λa=>?_;clear f m;clear P K aq bj;obtain⟨y,bQ⟩:=nm_<|Q.alloc<|.cells #[Y x.nx,.slice (j_ d) n.toNat n.toNat] 56;rw[<-bQ]at ar o S be W a |-;clear bQ;clear s;generalize Q.heap.size=i at*
 (iterate 3 refine j8 a ?_)
 have N3:y.cell? (Z gx 74)=some (.slice x.e.nw.A x.e.nw.l.length x.e.nw.c):=(o.bk.f_ 74).trans rfl;have N2:=o.bk.hG 74;have v:=(G_ [gx] y).setCell (p:=(Z gx 74)) (.inl s_)<|.slice (j_ i) 1 1;have N:Bk (y.setCell (Z gx 74)<|.slice (j_ i) 1 1) gx 186 ({x with e:={x.e with nw:=⟨some<|Z i 0,1,[⟨⟨x.nx,List.replicate n.toNat default⟩,some<|Z d 0,n.toNat⟩]⟩}}:X1).g_:=o.bk.hW 74<|.slice (j_ i) 1 1;have N1:Os y (j_ i) [⟨⟨x.nx,List.replicate n.toNat default⟩,some<|Z d 0,n.toNat⟩]:=by
  have q:=Ct (r:=⟨⟨x.nx,List.replicate n.toNat default⟩,some<|Z d 0,n.toNat⟩) (by
   show Bk y i 56 #[Y x.nx,.slice (j_ d) (List.replicate n.toNat (default:Vl)).length n.toNat];rw[Hm];exact ar)
  exact q
 have aG:nv y [⟨⟨x.nx,List.replicate n.toNat default⟩,some<|Z d 0,n.toNat⟩]:=by
  intro r hr;have:r=⟨⟨x.nx,List.replicate n.toNat default⟩,some<|Z d 0,n.toNat⟩:=zu hr;subst this;exact⟨W,by show(List.replicate n.toNat (default:Vl)).length<=1000000000;rw[Hm];omega⟩
 have l:=o.CS (x':=({x with e:={x.e with nw:=⟨some<|Z i 0,1,[⟨⟨x.nx,List.replicate n.toNat default⟩,some<|Z d 0,n.toNat⟩]⟩}}:X1)) v N rfl rfl rfl rfl N1 aG o.ds o.ia (I_ 1) o.sQ o.qf;have C:=be.iy v;have F:=S.gr v<|zu af;refine h4 13 λm f=>?_;go_simp;refine f.out _ _ (λh=>GR h I) ?_;clear f m;try simp only[a_]
 clear a o S be W ar N1 aG N N3 N2 v;obtain⟨g,az⟩:=nm_ ({x with e:={x.e with nw:=⟨some<|Z i 0,1,[⟨⟨x.nx,List.replicate n.toNat default⟩,some<|Z d 0,n.toNat⟩]⟩}}:X1);rw[<-az]at l;have HM:Hid ((jH x.p ⟨7,E,V,c,n⟩)=kJ g.p E ⟨true,g.nx⟩):=O (by rw[az];rfl);clear az;obtain⟨R,bR⟩:=nm_<|y.setCell (Z gx 74)<|.slice (j_ i) 1 1;rw[<-bR]at l F C |-;clear bR;refine hN k_ ?_ _
 go_upto_region 13 with fail;refine hS (λw'=>(w'.cell? (Z j 0)=some (Y 7)/\w'.cell? (Z j 1)=some (Y (E:Int))/\w'.cell? (Z j 2)=some (Y V)/\w'.cell? (Z j 3)=some (Y c)/\w'.cell? (Z j 4)=some (Y n))/\w'.cell? (Z gx 37)=some (Y g.nx)) 13 k_ ?_;have u:J [] R R.drew:=(G_ [] R).drew;replace l:=l.hF u;replace F:=F.hF u;replace C:=C.hF u;clear u;obtain⟨A,G⟩:=nm_ R.drew;rw[<-G]at l F C |-;clear G
 refine m6 ⟨F.c5,(l.bk.f_ 37).trans rfl⟩ λa=>?_;(iterate 13 refine j8 a ?_);have bq:A.cell? (Z gx<|40+E*2)=some (.bool (g.e.r E).r):=(l.bk.f_ _).trans (kt g E B).1;have aY:A.cell? (Z gx<|40+E*2+1)=some (Y (g.e.r E).n):=(l.bk.f_ _).trans (kt g E B).2;have bE:=l.bk.hG<|40+E*2;have bz:=l.bk.hG<|40+E*2+1;refine h4 13 λm f=>?_;go_simp;have N:Bk ((A.setCell (Z gx<|40+E*2)<|.bool true).setCell (Z gx<|40+E*2+1)<|Y g.nx) gx 186 ({g with e:={g.e with r:=pN g.e.r E ⟨true,g.nx⟩}}:X1).g_:=by rw[<-mJ g ⟨true,g.nx⟩ E B];exact(l.bk.hW (40+E*2)<|.bool true).hW (40+E*2+1)<|Y g.nx
 have v:J [gx] A ((A.setCell (Z gx<|40+E*2)<|.bool true).setCell (Z gx<|40+E*2+1)<|Y g.nx):=(((G_ [gx] A).setCell (p:=(Z gx<|40+E*2)) (.inl s_)<|.bool true).setCell (p:=(Z gx<|40+E*2+1)) (.inl s_)<|Y g.nx);refine f.out _ _ (λh=>GR h I) ?_;clear f m;try simp only[a_]
 refine hN k_ ?_ _;go_wp2;refine en_ ?_;rw[HM.out];exact⟨_,rfl,l.sp v N rfl rfl rfl rfl rfl rfl rfl,rfl,C.iy v⟩
