import Derived.Test.YtenbhdilndfaeaaGreatM24
import Derived.Laws.MakeOwn
import Derived.Maps.Own
import Derived.Maps.Views
import Derived.OwnWalk
set_option maxRecDepth 100000
set_option maxHeartbeats 0
set_option linter.all false
namespace Go.Proofs.YtenbhdilndfaeaaGreat
open Go.RowKit Go.Proofs.Tryz
variable{E G:Prop}{P:Program}{ops:Array Oper}{o:Oper}{a:Act}{K:Act->World->Prop}{Q:Exit->Act->World->Prop}(m:Nat)(x:XP)
theorem IY(h:G:=by
 rw[h]at hj;injection hj with hj;subst hj
 show some ((#[Value.bool false,Value.int .i64 0])[j % 2]!)=_
 rw[h]
 rfl):G:=h
theorem Kk(h:G:=by
 intro h0;exact D6 h0 (Nat.mul_ne_zero Y H)):G:=h
structure Kp(x y:XP):Prop where
 jd:y.jd=x.jd
 hq:y.hq=x.hq
 g9:y.g9=x.g9
 jN:y.jN=x.jN
 sr:y.sr=x.sr
 h:y.h=x.h
 nx:y.nx=x.nx
theorem Kp.refl:Kp x x:=⟨rfl,rfl,rfl,rfl,rfl,rfl,rfl⟩
theorem Kp.trans{x y z:XP}(h:Kp x y)(k:Kp y z):Kp x z:=
 ⟨k.jd.trans h.jd,k.hq.trans h.hq,k.g9.trans h.g9,k.jN.trans h.jN,k.sr.trans h.sr,k.h.trans h.h,k.nx.trans h.nx⟩
theorem Kp.B7{x y:XP}(h:Kp x y)(e:pQ)(b:Bool):Kp x {y with e:=e,hF:=b}:=⟨h.jd,h.hq,h.g9,h.jN,h.sr,h.h,h.nx⟩
theorem se(id f:Int):Kp x (hM x id f).1:=by
 unfold hM;split
 .exact(Kp.refl x).B7 _ _
 .split
  .exact Kp.refl x
  .exact(Kp.refl x).B7 _ _
theorem uM:Kp x (iA x):=⟨rfl,rfl,rfl,rfl,rfl,rfl,rfl⟩
theorem tG:Kp x (hK x).1:=by
 unfold hK;simp only;split
 .exact uM x
 .exact(((uM x).trans (se _ 1 0)).B7 _ _)
theorem By{x y:XP}(h:Kp x y)(i f j g:Int)(u v:Vl)(e:pQ):Kp x {hY (hY y i f u) j g v with e:=e}:=⟨h.jd,h.hq,h.g9,h.jN,h.sr,h.h,h.nx⟩
theorem qU(v:Vl):Kp x (jc x v):=by
 have a:=tG x;have b:=a.trans (se (hK x).1 (hK x).2.1 2);have p:=b.trans (se (hM (hK x).1 (hK x).2.1 2).1 (hK x).2.1 0);unfold jc;simp only;split
 .exact a
 .split
  .exact b.B7 _ _
  .split
   .exact By b _ _ _ _ _ _ _
   .split
    .exact p.B7 _ _
    .split
     .exact p.B7 _ _
     .exact By p _ _ _ _ _ _ _
theorem sf(v:Vl)(f:Int):Kp x (ik x v f).1:=by
 unfold ik;split
 .exact qU x _
 .split
  .exact qU x _
  .split
   .exact(Kp.refl x).B7 _ _
   .split
    .exact qU x _
    .exact Kp.refl x
theorem tN{w:World}(ap:o.guard=none)(l c:Operand)(t:TypeId)(ho:o.op=.makeSlice t l c)(e:TypeId)(i:TypeInfo)(z:Value)(size bytes:Nat)(X:P.underlying t=some (.slice e))(hi:P.info? e=some i)(hz:i.zero=some z)(C:i.size=size)(y:i.bytes=bytes)(j f:IntKind)(n:Int)(hl:a.eval l=.int j n)(hc:a.eval c=.int f n)(h0:0<=n)(hb:(bytes:Int)*n<=281474976710656)(hn:n<=9223372036854775807)(h:K (a.put o.dst (.slice (j_ w.heap.size) n.toNat n.toNat)) (w.alloc (.cells (madeCells z.cells (n.toNat*size)) e))):
 if Region.wanted o (yielded ops a.tmps)=true then Oper.wp P o a w K Q else E:=by
 have aK:Region.wanted o (yielded ops a.tmps)=true:=by simp[Region.wanted,ap]
 rw[Q_ aK];subst C;subst y;have H:=run_make (P:=P) w t e i z X hi hz j f n n h0 (Ev _) hb hn;unfold Oper.wp execOp;simp only[ho,Sem.run_bind,Sem.run_pure,Result.andThen_ok,hl,hc,H];exact h
theorem og(z:Array Value)(m j:Nat)(h:j<m):(madeCells z m)[j]?=some (z[j % z.size]!):=by
 unfold madeCells;simp[h]
theorem AA(w:World)(n:Nat):Vs (w.alloc (.cells (madeCells #[.bool false,i_ 0] (n*2)) 38)) (j_ w.heap.size) (List.replicate n default):=by
 refine⟨by rw[lD],λ_=>⟨w.heap.size,0,_,(0,0),rfl,FX w _,?_⟩⟩;intro j u hj
 have aj:=by
  have:=(Fh.1 hj).1
  rw[lD,EE]at this;exact this
 rw[U_,og _ _ _ aj]
 have h2:j=(j / 2)*2+j % 2:=by omega
 rw[h2]at hj;unfold iR at hj;rw[jL Vl.E (λ_=>rfl) _ (j / 2) (j % 2) (by rw[EE];omega) o_]at hj;rw[F2]at hj
 rcases Fz j with h|h
 .exact IY
 .exact IY
section
open Go.RowKit Go.Maps
theorem Aw(w:World):(zeroValue 3).run prog w=.ok (.int .i64 0) w:=by kernel_rfl
def Im(w:World)(b n:Nat)(f:Int->Int):Prop:=
 ∃D:DataW Unit,w.ownsMap prog 3 (plainElem prog 3) b n D/\IsMap D/\∀id:Int,(Lit.int .i64 id).wf=true->D.atKey (.int .i64 id) (.lit (.int .i64 0))=.lit (.int .i64 (f id))
section
variable{w w':World}{b n:Nat}{f:Int->Int}
theorem Im.made(w:World):Im (w.alloc (.map #[] 0)) w.heap.size 0 (λ_=>0):=
 ⟨.map [],World.ownsMap_made w _ _ _,⟨[],rfl⟩,λid _=>rfl⟩
theorem Im.lt(h:Im w b n f):b<w.heap.size:=by obtain⟨D,h1,_⟩:=h;exact h1.lt
theorem Im.ir(h:Im w b n f)(hb:w'.heap[b]?=w.heap[b]?):Im w' b n f:=JN
theorem Im.gr{M:List Nat}(h:Im w b n f)(hg:Gr M w w')(hb:b∉M):Im w' b n f:=h.ir (hg.block b h.lt hb)
theorem Im.lookup(h:Im w b n f){id:Int}(aK:(Lit.int .i64 id).wf=true):(Instr.lookup 263 (.map (some b)) (.int .i64 id) false).run prog w=.ok (.int .i64 (f id)) w:=by
 obtain⟨D,h1,h2,h3⟩:=h;obtain⟨c,H,B,_⟩:=h1.lookup_int (int_keyed underlying3) underlying263 underlying3 (Aw w) (keyOf_int_mk underlying3 aK);rw[h3 id aK]at B;have aw:=(Lit.int.inj (DataW.lit.inj B)).2;rw[aw];exact H
theorem Im.update(h:Im w b n f)(hn:n<maxLen){id v:Int}(aK:(Lit.int .i64 id).wf=true)(hv:(Lit.int .i64 v).wf=true):
 ∃w',(Instr.mapUpdate 263 (.map (some b)) (.int .i64 id) (.int .i64 v)).run prog w=.ok () w'/\Im w' b (n+1) (λi=>if i=id then v else f i)/\w.grownBy w' (some b):=by
 obtain⟨D,h1,h2,h3⟩:=h;obtain⟨w',H,aw,ax⟩:=h1.update (int_keyed underlying3) underlying263 hn (keyOf_int_mk underlying3 aK) (plainElem_int underlying3 hv);refine⟨w',H,⟨_,aw,h2.put _ _,λi hi=>?_⟩,ax⟩
 by_cases he:i=id
 .subst he
  show _=DataW.lit (.int .i64 (if i=i then v else f i))
  rw[Q_ rfl];exact atKey_put_same (k:=.int .i64 i) h2 trivial _ _
 .show _=DataW.lit (.int .i64 (if i=id then v else f i))
  exact JI
end
theorem kH{w w':World}(ap:o.guard=none)(t:TypeId)(m k x:Operand)(ho:o.op=.insert t m k x)(d c W:Value)(Y:a.eval m=d)(hk:a.eval k=c)(I:a.eval x=W)(H:(Instr.mapUpdate t d c W).run P w=.ok () w')(h:K (a.put o.dst undef) w'):
 if Region.wanted o (yielded ops a.tmps)=true then Oper.wp P o a w K Q else E:=by
 have aK:Region.wanted o (yielded ops a.tmps)=true:=by simp[Region.wanted,ap]
 rw[Q_ aK];unfold Oper.wp execOp;simp only[ho,Sem.run_bind,Sem.run_pure,Result.andThen_ok,Y,hk,I,H];exact h
theorem nH{w:World}(ap:o.guard=none)(t:TypeId)(m k:Operand)(v:Value)(ho:o.op=.lookup t m k false)(d c:Value)(Y:a.eval m=d)(hk:a.eval k=c)(H:(Instr.lookup t d c false).run P w=.ok v w)(h:K (a.put o.dst v) w):
 if Region.wanted o (yielded ops a.tmps)=true then Oper.wp P o a w K Q else E:=by
 have aK:Region.wanted o (yielded ops a.tmps)=true:=by simp[Region.wanted,ap]
 rw[Q_ aK];unfold Oper.wp execOp;simp only[ho,Sem.run_bind,Sem.run_pure,Result.andThen_ok,Y,hk,H];exact h
end
theorem q3{m:Nat}(w:World)(base:Nat)(t u ty e:TypeId)(k:IntKind)(i:TypeInfo)(z:Value)(size bytes:Nat)(X:P.underlying t=some (.slice e))(hu:P.underlying u=some (.int k))(hi:P.info? e=some i)(hz:i.zero=some z)(C:i.size=size)(y:i.bytes=bytes)(D:z.cells.size=size)(au:0<size)(h1:∀u∈(Builtin.zeroCells z.cells m).toList,u.oneCell'=true)(v:Value)(n:Nat)(xs:List Value)(ao:w.ownsRow base e size v n xs)(df:IntKind)(l:n+m<=maxLen)(f:(n+m)*bytes<=140737488355328)(L:0<bytes)(aL:base<=w.heap.size):
 ∃A' c' w',(Builtin.append_ #[t,u] ty #[v,.int df (m:Int)]).run P w=.ok (.slice A' (n+m) c') w'/\w'.ownsRow base e size (.slice A' (n+m) c') (n+m) (xs++(Builtin.zeroCells z.cells m).toList)/\w.grownBy w' v.ownBlock:=by
 subst C;subst y
 have s:n+m<=9223372036854775807:=by simp only[maxLen]at l;omega
 have c:(Builtin.zeroCells z.cells m).toList.length=m*i.size:=by rw[FR,size_zeroCells,D]
 have iv:(xs++(Builtin.zeroCells z.cells m).toList).length=(n+m)*i.size:=by rw[H_,ao.1,c,Fa]
 have dx:m*i.bytes<=140737488355328:=F_ (FB _ o_) f
 have o:IntKind.i64.wrap (m:Int)=(m:Int):=by rw[E8];omega
 have w0:IntKind.i64.wrap 0=0:=by rw[E8];omega
 have n1:¬((m:Int)<0):=by omega
 have n2:¬(281474976710656<(m:Int)*(i.bytes:Int)):=by
  have:((m*i.bytes:Nat):Int)=(m:Int)*(i.bytes:Int):=by simp
  omega
 have grown:∀(old:Nat),old<n+m->∀(row:Option Nat),
  (w.drew.alloc (.cells (xs.toArray++Builtin.zeroCells z.cells m++Builtin.zeroCells z.cells (grownCap w (n+m) old e-(n+m))) e)).ownsRow base e i.size
    (.slice (j_ w.heap.size) (n+m) (grownCap w (n+m) old e)) (n+m) (xs++(Builtin.zeroCells z.cells m).toList)/\
  w.grownBy (w.drew.alloc (.cells (xs.toArray++Builtin.zeroCells z.cells m++Builtin.zeroCells z.cells (grownCap w (n+m) old e-(n+m))) e)) row:=by
  intro old ho row;have bC:=grownCap_ge w (n+m) old e;have aH:=grownCap_le_maxLen w (n+m) old e l;refine⟨⟨iv,.inr ⟨w.heap.size,_,_,rfl,aL,FX w.drew _,bC,aH,?_,?_⟩⟩,⟨rfl,rfl,rfl,by simp,λk hk _=>(World.grownBy_alloc w.drew _ none).block k hk s_⟩⟩
  .simp only[Array.size_append,List.size_toArray,size_zeroCells,D,ao.1,<-Fa];congr 1;omega
  .simp only[Array.toList_append,Er];rw[<-Er,<-iv];exact List.take_left
 rcases ao.2 with⟨rfl,rfl⟩|⟨g,kX,cur,rfl,hbg,hg,r,aH,d,q⟩
 .have I:=En (by simpa using ao.1);subst I
  by_cases Y:m=0
  .subst Y;refine⟨none,0,w,?_,?_,⟨rfl,rfl,rfl,G_ _,λ_ _ _=>rfl⟩⟩
   .simp[Builtin.append_,EJ X,EJ hu,sizeOf,typeInfo,hi,asInt,asIntOf,w0]
   .simpa[Builtin.zeroCells]using World.ownsRow_nil w base e i.size
  .have F:=grown 0 o_ (Value.ownBlock (n_))
   have h:¬(9223372036854775807<(m:Int)):=by omega
   have b:¬(281474976710656<Builtin.nextslicecap m 0*i.bytes):=by
    have:=growslice_fits (need:=m) (old:=0) (bytes:=i.bytes) o_ o_
    omega
   have H:¬i.size=0:=by omega
   simp only[U_,Ea,Array.empty_append]at F |-;refine⟨_,_,_,?_,F.1,F.2⟩;simp[Builtin.append_,EJ X,EJ hu,sizeOf,typeInfo,zeroValue,hi,hz,asInt,asIntOf,o,n1,n2,Y,h,b,Question.forced,run_firstCells_none,newRow,grownCap];exact Kk
 .by_cases a:n+m<=kX
  .have ay:n*i.size+(Builtin.zeroCells z.cells m).toList.length<=cur.size:=by rw[c,d,<-Fa];exact FB _ a
   have bA:=run_storeCells_at P g (n*i.size) e (Builtin.zeroCells z.cells m).toList 0 cur w hg (by simpa using ay) h1;simp only[Fe]at bA;refine⟨some (c_ g 0),kX,w.setRow g (cur.toList.take (n*i.size)++(Builtin.zeroCells z.cells m).toList++cur.toList.drop (n*i.size+(Builtin.zeroCells z.cells m).toList.length)).toArray,?_,⟨iv,.inr ⟨g,kX,_,rfl,hbg,setRow_heap w g cur _ e _ hg,a,aH,?_,?_⟩⟩,⟨rfl,rfl,rfl,by simp,λk _ hk=>setRow_other w g k _ (λe=>hk (by simp[Value.ownBlock,e]))⟩⟩
   .by_cases Y:m=0
    .subst Y
     have e0:Builtin.zeroCells z.cells 0=#[]:=by simp[Builtin.zeroCells]
     rw[e0]at bA |-;simp at bA;simp[Builtin.append_,EJ X,EJ hu,sizeOf,typeInfo,hi,asInt,asIntOf,w0,r,Addr.add_lit,bA]
    .have H:¬i.size=0:=by omega
     simp[Builtin.append_,EJ X,EJ hu,sizeOf,typeInfo,zeroValue,hi,hz,asInt,asIntOf,o,n1,n2,a,Addr.add_lit,bA];exact Kk
   .simp only[List.size_toArray,H_,Ey,Fd,FR]at ay |-;omega
   .rw[q,<-iv];exact List.take_left
  .have holds:∀j u,xs[j]?=some u->w.cell? (((c_ g 0):Addr).add j)=some u:=ao.cells (g:=g) rfl;have F:=grown kX o_ (Value.ownBlock (.slice (j_ g) n kX));have hn:=a
   have h:¬(9223372036854775807<((n:Int)+(m:Int))):=by omega
   have b:¬(281474976710656<Builtin.nextslicecap (n+m) kX*i.bytes):=by
    have:=growslice_fits (need:=n+m) (old:=kX) (bytes:=i.bytes) o_ f
    omega
   have Y:¬m=0:=by omega
   have H:¬i.size=0:=by omega
   have p:=run_firstCells_some (P:=P) w.drew i.size n (c_ g 0) n kX xs ao.1 (by simpa using holds);refine⟨_,_,_,?_,F.1,F.2⟩;simp[Builtin.append_,EJ X,EJ hu,sizeOf,typeInfo,zeroValue,hi,hz,asInt,asIntOf,o,n1,n2,hn,h,b,Question.forced,p,newRow,grownCap];exact Kk
theorem xT{w:World}(ap:o.guard=none)(s x:Operand)(t u:TypeId)(ho:o.op=.call {callee:=.builtin .append,args:=#[s,x],argTypes:=#[t,u]})(k:IntKind)(hu:P.underlying u=some (.int k))(base:Nat)(e:TypeId)(i:TypeInfo)(z:Value)(size bytes:Nat)(X:P.underlying t=some (.slice e))(hi:P.info? e=some i)(hz:i.zero=some z)(C:i.size=size)(y:i.bytes=bytes)(D:z.cells.size=size)(au:0<size)(L:0<bytes)(m:Nat)(h1:∀u∈(Builtin.zeroCells z.cells m).toList,u.oneCell'=true)(v:Value)(n:Nat)(xs:List Value)(hs:a.eval s=v)(ao:w.ownsRow base e size v n xs)(df:IntKind)(I:a.eval x=.int df (m:Int))(l:n+m<=maxLen)(f:(n+m)*bytes<=140737488355328)(aL:base<=w.heap.size)(h:∀(A':Option Addr) (c':Nat) (w':World),w'.ownsRow base e size (.slice A' (n+m) c') (n+m) (xs++(Builtin.zeroCells z.cells m).toList)->w.grownBy w' v.ownBlock->K (a.put o.dst (.slice A' (n+m) c')) w'):
 if Region.wanted o (yielded ops a.tmps)=true then Oper.wp P o a w K Q else E:=by
 have aK:Region.wanted o (yielded ops a.tmps)=true:=by simp[Region.wanted,ap]
 rw[Q_ aK];obtain⟨A',c',w',H,h2,h3⟩:=q3 (P:=P) w base t u o.type e k i z size bytes X hu hi hz C y D au h1 v n xs ao df l f L aL;exact K4
theorem uL:(Builtin.zeroCells #[.bool false,i_ 0] m).toList=iR (List.replicate m default):=by
 apply FY;intro j
 by_cases aj:j<m*2
 .have h2:j=(j / 2)*2+j % 2:=by omega
  have hr:(iR (List.replicate m (default:Vl)))[j]?=(Vl.E default)[j % 2]?:=by
   rw[h2];unfold iR;rw[jL Vl.E (λ_=>rfl) _ (j / 2) (j % 2) (by rw[EE];omega) o_,F2];congr 1;omega
  rw[hr]
  have hl:(Builtin.zeroCells #[.bool false,i_ 0] m).toList[j]?=some ((#[Value.bool false,Value.int .i64 0])[j % 2]!):=by
   simp[Builtin.zeroCells,aj]
  rw[hl]
  rcases Fz j with h|h
  .rw[h]
   rfl
  .rw[h]
   rfl
 .rw[Eh (by rw[FR,size_zeroCells];show m*2<=j;omega),Eh (by rw[lD,EE];omega)]
theorem uh:∀u∈(Builtin.zeroCells #[.bool false,i_ 0] m).toList,u.oneCell'=true:=by
 rw[uL];exact l7 _
end Go.Proofs.YtenbhdilndfaeaaGreat
