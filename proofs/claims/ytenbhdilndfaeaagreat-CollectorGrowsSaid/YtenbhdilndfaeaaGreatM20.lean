import Derived.Test.YtenbhdilndfaeaaGreatM10
import Derived.Laws.MakeOwn
import Derived.Maps.Own
import Derived.Maps.Views
import Derived.OwnWalk
set_option maxRecDepth 100000
set_option maxHeartbeats 0
set_option linter.all false
namespace Go.Proofs.YtenbhdilndfaeaaGreat
open Go.RowKit Go.Proofs.Tryz
variable{E G:Prop}{P:Program}{ops:Array Oper}{o:Oper}{a:Act}{K:Act->World->Prop}{Q:Exit->Act->World->Prop}(m:Nat)(x:XP)
theorem JY(h:G:=by
 rw[h]at hj;injection hj with hj;subst hj
 show some ((#[Value.bool false,Value.int .i64 0])[j % 2]!)=_
 rw[h]
 rfl):G:=h
theorem Lx(h:G:=by
 intro h0;exact EK h0 (Nat.mul_ne_zero hm H)):G:=h
structure Kp(x y:XP):Prop where
 js:y.js=x.js
 hI:y.hI=x.hI
 hF:y.hF=x.hF
 jY:y.jY=x.jY
 sr:y.sr=x.sr
 h:y.h=x.h
 nx:y.nx=x.nx
theorem Kp.refl:Kp x x:=⟨rfl,rfl,rfl,rfl,rfl,rfl,rfl⟩
theorem Kp.trans{x y z:XP}(h:Kp x y)(k:Kp y z):Kp x z:=
 ⟨k.js.trans h.js,k.hI.trans h.hI,k.hF.trans h.hF,k.jY.trans h.jY,k.sr.trans h.sr,k.h.trans h.h,k.nx.trans h.nx⟩
theorem Kp.CK{x y:XP}(h:Kp x y)(e:pX)(b:Bool):Kp x {y with e:=e,hO:=b}:=⟨h.js,h.hI,h.hF,h.jY,h.sr,h.h,h.nx⟩
theorem sq(id f:Int):Kp x (hX x id f).1:=by
 unfold hX;split
 .exact(Kp.refl x).CK _ _
 .split
  .exact Kp.refl x
  .exact(Kp.refl x).CK _ _
theorem u5:Kp x (iI x):=⟨rfl,rfl,rfl,rfl,rfl,rfl,rfl⟩
theorem tT:Kp x (hU x).1:=by
 unfold hU;simp only;split
 .exact u5 x
 .exact(((u5 x).trans (sq _ 1 0)).CK _ _)
theorem B5{x y:XP}(h:Kp x y)(i f j g:Int)(u v:Vl)(e:pX):Kp x {ib (ib y i f u) j g v with e:=e}:=⟨h.js,h.hI,h.hF,h.jY,h.sr,h.h,h.nx⟩
theorem qU(v:Vl):Kp x (jm x v):=by
 have a:=tT x;have b:=a.trans (sq (hU x).1 (hU x).2.1 2);have p:=b.trans (sq (hX (hU x).1 (hU x).2.1 2).1 (hU x).2.1 0);unfold jm;simp only;split
 .exact a
 .split
  .exact b.CK _ _
  .split
   .exact B5 b _ _ _ _ _ _ _
   .split
    .exact p.CK _ _
    .split
     .exact p.CK _ _
     .exact B5 p _ _ _ _ _ _ _
theorem sv(v:Vl)(f:Int):Kp x (iz x v f).1:=by
 unfold iz;split
 .exact qU x _
 .split
  .exact qU x _
  .split
   .exact(Kp.refl x).CK _ _
   .split
    .exact qU x _
    .exact Kp.refl x
theorem t2{w:World}(V:o.guard=none)(l c:Operand)(t:TypeId)(ho:o.op=.makeSlice t l c)(e:TypeId)(i:TypeInfo)(z:Value)(size bytes:Nat)(ht:P.underlying t=some (.slice e))(hi:P.info? e=some i)(hz:i.zero=some z)(q:i.size=size)(p:i.bytes=bytes)(m f:IntKind)(n:Int)(hl:a.eval l=.int m n)(hc:a.eval c=.int f n)(h0:0<=n)(hb:(bytes:Int)*n<=281474976710656)(hn:n<=9223372036854775807)(h:K (a.put o.dst (.slice (j_ w.heap.size) n.toNat n.toNat)) (w.alloc (.cells (madeCells z.cells (n.toNat*size)) e))):
 if Region.wanted o (yielded ops a.tmps)=true then Oper.wp P o a w K Q else E:=by
 have aM:Region.wanted o (yielded ops a.tmps)=true:=by simp[Region.wanted,V]
 rw[T_ aM];subst q;subst p;have N:=run_make (P:=P) w t e i z ht hi hz m f n n h0 (E9 _) hb hn;unfold Oper.wp execOp;simp only[ho,Sem.run_bind,Sem.run_pure,Result.andThen_ok,hl,hc,N];exact h
theorem om(z:Array Value)(m j:Nat)(h:j<m):(madeCells z m)[j]?=some (z[j % z.size]!):=by
 unfold madeCells;simp[h]
theorem Ba(w:World)(n:Nat):Vs (w.alloc (.cells (madeCells #[.bool false,i_ 0] (n*2)) 38)) (j_ w.heap.size) (List.replicate n default):=by
 refine⟨by rw[lN],λ_=>⟨w.heap.size,0,_,(0,0),rfl,GQ w _,?_⟩⟩;intro j u hj
 have ag:=by
  have:=(FX.1 hj).1
  rw[lN,Fa]at this;exact this
 rw[U_,om _ _ _ ag];have h2:j=(j / 2)*2+j % 2:=o_;rw[h2]at hj;unfold jd at hj;rw[jV Vl.E (λ_=>rfl) _ (j / 2) (j % 2) (by rw[Fa];omega) o_]at hj;rw[GZ]at hj
 rcases Gf j with h|h
 .exact JY
 .exact JY
section
open Go.RowKit Go.Maps
theorem A7(w:World):(zeroValue 3).run prog w=.ok (.int .i64 0) w:=by kernel_rfl
def Im(w:World)(b n:Nat)(f:Int->Int):Prop:=
 ∃D:DataW Unit,w.ownsMap prog 3 (plainElem prog 3) b n D/\IsMap D/\∀id:Int,(Lit.int .i64 id).wf=true->D.atKey (.int .i64 id) (.lit (.int .i64 0))=.lit (.int .i64 (f id))
section
variable{w w':World}{b n:Nat}{f:Int->Int}
theorem Im.made(w:World):Im (w.alloc (.map #[] 0)) w.heap.size 0 (λ_=>0):=
 ⟨.map [],World.ownsMap_made w _ _ _,⟨[],rfl⟩,λid _=>rfl⟩
theorem Im.lookup(h:Im w b n f){id:Int}(aM:(Lit.int .i64 id).wf=true):(Instr.lookup 263 (.map (some b)) (.int .i64 id) false).run prog w=.ok (.int .i64 (f id)) w:=by
 obtain⟨D,h1,h2,h3⟩:=h;obtain⟨c,N,j,_⟩:=h1.lookup_int (int_keyed underlying3) underlying263 underlying3 (A7 w) (keyOf_int_mk underlying3 aM);rw[h3 id aM]at j;have au:=(Lit.int.inj (DataW.lit.inj j)).2;rw[au];exact N
theorem Im.update(h:Im w b n f)(hn:n<maxLen){id v:Int}(aM:(Lit.int .i64 id).wf=true)(hv:(Lit.int .i64 v).wf=true):
 ∃w',(Instr.mapUpdate 263 (.map (some b)) (.int .i64 id) (.int .i64 v)).run prog w=.ok () w'/\Im w' b (n+1) (λi=>if i=id then v else f i)/\w.grownBy w' (some b):=by
 obtain⟨D,h1,h2,h3⟩:=h;obtain⟨w',N,au,aq⟩:=h1.update (int_keyed underlying3) underlying263 hn (keyOf_int_mk underlying3 aM) (plainElem_int underlying3 hv);refine⟨w',N,⟨_,au,h2.put _ _,λi hi=>?_⟩,aq⟩
 by_cases he:i=id
 .subst he
  show _=DataW.lit (.int .i64 (if i=i then v else f i))
  rw[T_ rfl];exact atKey_put_same (k:=.int .i64 i) h2 trivial _ _
 .show _=DataW.lit (.int .i64 (if i=id then v else f i))
  exact KG
end
theorem kS{w w':World}(V:o.guard=none)(t:TypeId)(m k x:Operand)(ho:o.op=.insert t m k x)(d c g:Value)(hm:a.eval m=d)(hk:a.eval k=c)(hx:a.eval x=g)(N:(Instr.mapUpdate t d c g).run P w=.ok () w')(h:K (a.put o.dst undef) w'):
 if Region.wanted o (yielded ops a.tmps)=true then Oper.wp P o a w K Q else E:=by
 have aM:Region.wanted o (yielded ops a.tmps)=true:=by simp[Region.wanted,V]
 rw[T_ aM];unfold Oper.wp execOp;simp only[ho,Sem.run_bind,Sem.run_pure,Result.andThen_ok,hm,hk,hx,N];exact h
theorem nM{w:World}(V:o.guard=none)(t:TypeId)(m k:Operand)(v:Value)(ho:o.op=.lookup t m k false)(d c:Value)(hm:a.eval m=d)(hk:a.eval k=c)(N:(Instr.lookup t d c false).run P w=.ok v w)(h:K (a.put o.dst v) w):
 if Region.wanted o (yielded ops a.tmps)=true then Oper.wp P o a w K Q else E:=by
 have aM:Region.wanted o (yielded ops a.tmps)=true:=by simp[Region.wanted,V]
 rw[T_ aM];unfold Oper.wp execOp;simp only[ho,Sem.run_bind,Sem.run_pure,Result.andThen_ok,hm,hk,N];exact h
end
theorem q3{m:Nat}(w:World)(base:Nat)(t u ty e:TypeId)(k:IntKind)(i:TypeInfo)(z:Value)(size bytes:Nat)(ht:P.underlying t=some (.slice e))(hu:P.underlying u=some (.int k))(hi:P.info? e=some i)(hz:i.zero=some z)(q:i.size=size)(p:i.bytes=bytes)(C:z.cells.size=size)(aL:0<size)(h1:∀u∈(Builtin.zeroCells z.cells m).toList,u.oneCell'=true)(v:Value)(n:Nat)(xs:List Value)(aF:w.ownsRow base e size v n xs)(dj:IntKind)(l:n+m<=maxLen)(y:(n+m)*bytes<=140737488355328)(L:0<bytes)(br:base<=w.heap.size):
 ∃A' c' w',(Builtin.append_ #[t,u] ty #[v,.int dj (m:Int)]).run P w=.ok (.slice A' (n+m) c') w'/\w'.ownsRow base e size (.slice A' (n+m) c') (n+m) (xs++(Builtin.zeroCells z.cells m).toList)/\w.grownBy w' v.ownBlock:=by
 subst q;subst p
 have r:n+m<=9223372036854775807:=by simp only[maxLen]at l;omega
 have b:(Builtin.zeroCells z.cells m).toList.length=m*i.size:=by rw[GF,size_zeroCells,C]
 have iM:(xs++(Builtin.zeroCells z.cells m).toList).length=(n+m)*i.size:=by rw[J_,aF.1,b,FJ]
 have dF:m*i.bytes<=140737488355328:=G_ (Gg _ o_) y
 have f:IntKind.i64.wrap (m:Int)=(m:Int):=by rw[FU];omega
 have w0:IntKind.i64.wrap 0=0:=by rw[FU];omega
 have n1:¬((m:Int)<0):=o_
 have n2:¬(281474976710656<(m:Int)*(i.bytes:Int)):=by
  have:((m*i.bytes:Nat):Int)=(m:Int)*(i.bytes:Int):=s_
  omega
 have grown:∀(old:Nat),old<n+m->∀(row:Option Nat),
  (w.drew.alloc (.cells (xs.toArray++Builtin.zeroCells z.cells m++Builtin.zeroCells z.cells (grownCap w (n+m) old e-(n+m))) e)).ownsRow base e i.size
    (.slice (j_ w.heap.size) (n+m) (grownCap w (n+m) old e)) (n+m) (xs++(Builtin.zeroCells z.cells m).toList)/\
  w.grownBy (w.drew.alloc (.cells (xs.toArray++Builtin.zeroCells z.cells m++Builtin.zeroCells z.cells (grownCap w (n+m) old e-(n+m))) e)) row:=by
  intro old ho row;have bA:=grownCap_ge w (n+m) old e;have bB:=grownCap_le_maxLen w (n+m) old e l;refine⟨⟨iM,.inr ⟨w.heap.size,_,_,rfl,br,GQ w.drew _,bA,bB,?_,?_⟩⟩,⟨rfl,rfl,rfl,s_,λk hk _=>(World.grownBy_alloc w.drew _ none).block k hk s_⟩⟩
  .simp only[Array.size_append,List.size_toArray,size_zeroCells,C,aF.1,<-FJ];congr 1;omega
  .simp only[Array.toList_append,Fc];rw[<-Fc,<-iM];exact List.take_left
 rcases aF.2 with⟨rfl,rfl⟩|⟨g,lW,cur,rfl,hbg,hg,aN,bB,az,o⟩
 .have hx:=EP (zu aF.1);subst hx
  by_cases hm:m=0
  .subst hm;refine⟨none,0,w,?_,?_,⟨rfl,rfl,rfl,H_ _,λ_ _ _=>rfl⟩⟩
   .simp[Builtin.append_,Fj ht,Fj hu,sizeOf,typeInfo,hi,asInt,asIntOf,w0]
   .simpa[Builtin.zeroCells]using World.ownsRow_nil w base e i.size
  .have F:=grown 0 o_ (Value.ownBlock (n_));have d:¬(9223372036854775807<(m:Int)):=o_
   have c:¬(281474976710656<Builtin.nextslicecap m 0*i.bytes):=by
    have:=growslice_fits (need:=m) (old:=0) (bytes:=i.bytes) o_ o_
    omega
   have H:¬i.size=0:=o_;simp only[U_,EO,Array.empty_append]at F |-;refine⟨_,_,_,?_,F.1,F.2⟩;simp[Builtin.append_,Fj ht,Fj hu,sizeOf,typeInfo,zeroValue,hi,hz,asInt,asIntOf,f,n1,n2,hm,d,c,Question.forced,run_firstCells_none,newRow,grownCap];exact Lx
 .by_cases a:n+m<=lW
  .have aM:n*i.size+(Builtin.zeroCells z.cells m).toList.length<=cur.size:=by rw[b,az,<-FJ];exact Gg _ a
   have bz:=run_storeCells_at P g (n*i.size) e (Builtin.zeroCells z.cells m).toList 0 cur w hg (zu aM) h1;simp only[FV]at bz;refine⟨some (c_ g 0),lW,w.setRow g (cur.toList.take (n*i.size)++(Builtin.zeroCells z.cells m).toList++cur.toList.drop (n*i.size+(Builtin.zeroCells z.cells m).toList.length)).toArray,?_,⟨iM,.inr ⟨g,lW,_,rfl,hbg,setRow_heap w g cur _ e _ hg,a,bB,?_,?_⟩⟩,⟨rfl,rfl,rfl,s_,λk _ hk=>setRow_other w g k _ (λe=>hk (by simp[Value.ownBlock,e]))⟩⟩
   .by_cases hm:m=0
    .subst hm
     have aS:Builtin.zeroCells z.cells 0=#[]:=by simp[Builtin.zeroCells]
     rw[aS]at bz |-;simp at bz;simp[Builtin.append_,Fj ht,Fj hu,sizeOf,typeInfo,hi,asInt,asIntOf,w0,aN,Addr.add_lit,bz]
    .have H:¬i.size=0:=o_;simp[Builtin.append_,Fj ht,Fj hu,sizeOf,typeInfo,zeroValue,hi,hz,asInt,asIntOf,f,n1,n2,a,Addr.add_lit,bz];exact Lx
   .simp only[List.size_toArray,J_,E1,FQ,GF]at aM |-;omega
   .rw[o,<-iM];exact List.take_left
  .have holds:∀j u,xs[j]?=some u->w.cell? (((c_ g 0):Addr).add j)=some u:=aF.cells (g:=g) rfl;have F:=grown lW o_ (Value.ownBlock (.slice (j_ g) n lW));have hn:=a;have d:¬(9223372036854775807<((n:Int)+(m:Int))):=o_
   have c:¬(281474976710656<Builtin.nextslicecap (n+m) lW*i.bytes):=by
    have:=growslice_fits (need:=n+m) (old:=lW) (bytes:=i.bytes) o_ y
    omega
   have hm:¬m=0:=o_;have H:¬i.size=0:=o_;have h:=run_firstCells_some (P:=P) w.drew i.size n (c_ g 0) n lW xs aF.1 (zu holds);refine⟨_,_,_,?_,F.1,F.2⟩;simp[Builtin.append_,Fj ht,Fj hu,sizeOf,typeInfo,zeroValue,hi,hz,asInt,asIntOf,f,n1,n2,hn,d,c,Question.forced,h,newRow,grownCap];exact Lx
theorem yp{w:World}(V:o.guard=none)(s x:Operand)(t u:TypeId)(ho:o.op=.call {callee:=.builtin .append,args:=#[s,x],argTypes:=#[t,u]})(k:IntKind)(hu:P.underlying u=some (.int k))(base:Nat)(e:TypeId)(i:TypeInfo)(z:Value)(size bytes:Nat)(ht:P.underlying t=some (.slice e))(hi:P.info? e=some i)(hz:i.zero=some z)(q:i.size=size)(p:i.bytes=bytes)(C:z.cells.size=size)(aL:0<size)(L:0<bytes)(m:Nat)(h1:∀u∈(Builtin.zeroCells z.cells m).toList,u.oneCell'=true)(v:Value)(n:Nat)(xs:List Value)(hs:a.eval s=v)(aF:w.ownsRow base e size v n xs)(dj:IntKind)(hx:a.eval x=.int dj (m:Int))(l:n+m<=maxLen)(y:(n+m)*bytes<=140737488355328)(br:base<=w.heap.size)(h:∀(A':OA) (c':Nat) (w':World),w'.ownsRow base e size (.slice A' (n+m) c') (n+m) (xs++(Builtin.zeroCells z.cells m).toList)->w.grownBy w' v.ownBlock->K (a.put o.dst (.slice A' (n+m) c')) w'):
 if Region.wanted o (yielded ops a.tmps)=true then Oper.wp P o a w K Q else E:=by
 have aM:Region.wanted o (yielded ops a.tmps)=true:=by simp[Region.wanted,V]
 rw[T_ aM];obtain⟨A',c',w',N,h2,h3⟩:=q3 (P:=P) w base t u o.type e k i z size bytes ht hu hi hz q p C aL h1 v n xs aF dj l y L br;exact Jz
theorem u4:(Builtin.zeroCells #[.bool false,i_ 0] m).toList=jd (List.replicate m default):=by
 apply Gv;intro j
 by_cases ag:j<m*2
 .have h2:j=(j / 2)*2+j % 2:=o_
  have hr:(jd (List.replicate m (default:Vl)))[j]?=(Vl.E default)[j % 2]?:=by
   rw[h2];unfold jd;rw[jV Vl.E (λ_=>rfl) _ (j / 2) (j % 2) (by rw[Fa];omega) o_,GZ];congr 1;omega
  rw[hr]
  have hl:(Builtin.zeroCells #[.bool false,i_ 0] m).toList[j]?=some ((#[Value.bool false,Value.int .i64 0])[j % 2]!):=by
   simp[Builtin.zeroCells,ag]
  rw[hl]
  rcases Gf j with h|h
  .rw[h]
   rfl
  .rw[h]
   rfl
 .rw[EW (by rw[GF,size_zeroCells];show m*2<=j;omega),EW (by rw[lN,Fa];omega)]
theorem uy:∀u∈(Builtin.zeroCells #[.bool false,i_ 0] m).toList,u.oneCell'=true:=by
 rw[u4];exact np _
end Go.Proofs.YtenbhdilndfaeaaGreat
