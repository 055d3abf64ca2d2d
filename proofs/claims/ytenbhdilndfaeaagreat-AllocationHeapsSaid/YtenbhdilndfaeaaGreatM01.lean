import Derived.Test.YtenbhdilndfaeaaGreatM00
import Derived.BigQuiet
import Derived.Deep.AppendLies
import Derived.Deep.Draws
import Derived.Deep.MidRow
import Derived.Deep.RegionLaw
import Derived.Deep.RegionLawGrows
import Derived.Lib.Hide
import Derived.StillTailTactics
import Derived.WalkLawsBesides
import Derived.WalkSpells
set_option maxRecDepth 100000
set_option maxHeartbeats 0
set_option linter.all false
namespace Go.Proofs.YtenbhdilndfaeaaGreat
open Go.RowKit Go.Proofs.Tryz
variable{E G:Prop}{c k s:Nat}{o:Oper}{d:List Nat}{v:Value}{α:Type}{q ty:TypeId}{K:Act->World->Prop}{Q:Exit->Act->World->Prop}{ops:Array Oper}(vs:Array Value)
theorem KF(h:G:=by
 by_cases Y:m=0
 .subst Y;have hn:=En (by simpa using hr.1);subst hn;exact⟨p,aI,w,by simpa using lU w base t ty e i size X hi _ n xs ao A c,by simpa using ao,App.iM ao (World.grownBy.refl w _)⟩
 .obtain⟨d,rfl,j⟩:=hr.nA o_
  have l:n+m<=maxLen:=by
   have:n+m<=(n+m)*bytes:=Fq _ L
   simp only[maxLen];omega
  obtain⟨v',w',H,h2,h3,_⟩:=run_append_own (P:=P) w base t ty e i z size bytes X hi hz C y D au _ n xs ao d m c news hr.1 j h1 l f aL;have hf:∃A' c',v'=.slice A' (n+m) c':=I7;obtain⟨A',c',rfl⟩:=hf;exact⟨A',c',w',H,h2,App.iM ao h3⟩):G:=h
theorem Jr(h:G:=by
 rintro rfl;unfold Bk at hk;rw[hb]at hk;injection hk with hk;injection hk with _ X _;exact av X):G:=h
theorem j0{k:IntKind}{a b:Int}(h:a=b):Ending.returned (.int k a)=Ending.returned (.int k b):=by rw[h]
theorem pA{A:Option Addr}{n n':Nat}(h:n=n'):Ending.returned (.slice A n c)=Ending.returned (.slice A n' c):=by rw[h]
theorem iq{a b:Bool}(h:a=b):Ending.returned (.bool a)=Ending.returned (.bool b):=by rw[h]
theorem Al(a:Addr)(i j:Nat):(a.add i).add j=a.add (i+j):=by
 unfold Addr.add
 by_cases hi:i=0<;>by_cases hj:j=0<;>simp[hi,hj,Fr]
theorem mD(b o n:Nat):((c_ b o):Addr).add n=(c_ b (o+n)):=by unfold Addr.add;split<;>simp_all
structure Gr(M:List Nat)(a w:World):Prop where
 os:w.os=a.os
 tape:w.tape=a.tape
 output:w.output=a.output
 size:a.heap.size<=w.heap.size
 block:∀k,k<a.heap.size->k∉M->w.heap[k]?=a.heap[k]?
section
variable{M:List Nat}{a b w w':World}
theorem D_(M:List Nat)(w:World):Gr M w w:=⟨rfl,rfl,rfl,G_ _,λ_ _ _=>rfl⟩
theorem Gr.trans(h:Gr M a b)(k:Gr M b w):Gr M a w:=
 ⟨k.os.trans h.os,k.tape.trans h.tape,k.output.trans h.output,F_ h.size k.size,λi hi Y=>(k.block i (ER hi h.size) Y).trans (h.block i hi Y)⟩
theorem Gr.mono(h:Gr M a w)(Y:∀x∈M,x∈d):Gr d a w:=⟨h.os,h.tape,h.output,h.size,λi hi hn=>h.block i hi λI=>hn (Y i I)⟩
theorem Gr.of_nil(h:Gr [] a w)(M:List Nat):Gr M a w:=h.mono s_
theorem Gr.hx(h:Gr M a b)(k:Gr d b w)(hn:∀x∈d,x∈M∨a.heap.size<=x):Gr M a w:=
 ⟨k.os.trans h.os,k.tape.trans h.tape,k.output.trans h.output,F_ h.size k.size,λi hi Y=>
   (k.block i (ER hi h.size) (λI=>by rcases hn i I with e|e;exact Y e;omega)).trans (h.block i hi Y)⟩
theorem Gr.drew(h:Gr M a w):Gr M a w.drew:=⟨h.os,h.tape,h.output,h.size,h.block⟩
theorem Gr.drewN(h:Gr M a w)(n:Nat):Gr M a (w.drewN n):=⟨h.os,h.tape,h.output,h.size,h.block⟩
theorem Gr.alloc(h:Gr M a w)(o:Obj):Gr M a (w.alloc o):=
 ⟨h.os,h.tape,h.output,by have:=h.size;simp;omega,λi hi Y=>(Below.heap_alloc w o i (ER hi h.size)).trans (h.block i hi Y)⟩
theorem Gr.setCell(h:Gr M a w){p:Addr}(hp:p.block∈M∨a.heap.size<=p.block)(u:Value):Gr M a (w.setCell p u):=
 ⟨h.os,h.tape,h.output,by have:=h.size;simpa[World.setCell]using this,λi hi Y=>
   (Below.heap_setCell w p u i (λe=>by subst e;rcases hp with e|e;exact Y e;omega)).trans (h.block i hi Y)⟩
theorem Gr.zG(h:Below a.heap.size a w)(M:List Nat):Gr M a w:=⟨h.os,h.tape,h.output,h.size,λi hi _=>h.block i hi⟩
theorem Gr.uW(h:Gr [] a w):Below a.heap.size a w:=⟨h.os,h.tape,h.output,h.size,λi hi=>h.block i hi s_⟩
theorem Gr.grown(h:Gr M a w){row:Option Nat}(hg:w.grownBy w' row)(hr:∀k,row=some k->k∈M∨a.heap.size<=k):Gr M a w':=
 ⟨hg.os.trans h.os,hg.tape.trans h.tape,hg.output.trans h.output,F_ h.size hg.size,λi hi Y=>
   (hg.block i (ER hi h.size) (λe=>by rcases hr i e.symm with x|x;exact Y x;omega)).trans (h.block i hi Y)⟩
theorem Gr.uV{g:Nat}(h:Gr [g] a w):a.grownBy w (some g):=⟨h.os,h.tape,h.output,h.size,λi hi hn=>h.block i hi (by simpa using λe=>hn (by rw[e]))⟩
theorem Gr.tK(h:Gr [] a w)(row:Option Nat):a.grownBy w row:=⟨h.os,h.tape,h.output,h.size,λi hi _=>h.block i hi s_⟩
theorem Gr.lt(h:Gr M a w){g:Nat}(hg:g<a.heap.size):g<w.heap.size:=ER hg h.size
end
theorem xv{w:World}{p:Addr}(h:w.cell? p=some v):p.block<w.heap.size:=World.block_lt_of_cell? w p h
theorem Gr.f_{M:List Nat}{a w:World}(h:Gr M a w){p:Addr}(hc:a.cell? p=some v)(Y:p.block∉M):w.cell? p=some v:=
 (World.cell?_of_block (h.block p.block (xv hc) Y)).trans hc
theorem jo{w:World}{p:Addr}(hc:w.cell? p=some v)(o:Obj):(w.alloc o).cell? p=some v:=((D_ [] w).alloc o).f_ hc s_
def Bk(w:World)(g:Nat)(t:TypeId)(cs:Array Value):Prop:=w.heap[g]?=some (.cells cs t (0,0))
section
variable{M:List Nat}{a w w':World}{g:Nat}{t:TypeId}{cs:Array Value}
theorem Bk.lt(h:Bk w g t cs):g<w.heap.size:=by
 rcases D5 g w.heap.size with aj|bC
 .exact aj
 .unfold Bk at h;rw[Y_ bC]at h
  cases h
theorem Bk.f_(h:Bk w g t cs)(i:Nat):w.cell? (c_ g i)=cs[i]?:=cell_of_row w g i cs t (0,0) h
theorem Bk.iB{x y:Value}(h:Bk w g t #[x,y]):w.cell? (c_ g 0)=some x/\w.cell? (c_ g 1)=some y:=⟨h.f_ 0,h.f_ 1⟩
theorem Bk.nz{x y z:Value}(h:Bk w g t #[x,y,z]):w.cell? (c_ g 0)=some x/\w.cell? (c_ g 1)=some y/\w.cell? (c_ g 2)=some z:=⟨h.f_ 0,h.f_ 1,h.f_ 2⟩
theorem Bk.c5{x y z u:Value}(h:Bk w g t #[x,y,z,u,v]):w.cell? (c_ g 0)=some x/\w.cell? (c_ g 1)=some y/\w.cell? (c_ g 2)=some z/\w.cell? (c_ g 3)=some u/\w.cell? (c_ g 4)=some v:=⟨h.f_ 0,h.f_ 1,h.f_ 2,h.f_ 3,h.f_ 4⟩
theorem Bk.hm(h:Bk w g t cs)(i:Nat):w.frozen? (c_ g i)=false:=by
 unfold Bk at h;simp[World.frozen?,h]
theorem L_(w:World)(t:TypeId)(cs:Array Value):Bk (w.alloc (.cells cs t)) w.heap.size t cs:=FX w _
theorem Bk.drew(h:Bk w g t cs):Bk w.drew g t cs:=h
theorem Bk.drewN(h:Bk w g t cs)(n:Nat):Bk (w.drewN n) g t cs:=h
theorem Bk.alloc(h:Bk w g t cs)(o:Obj):Bk (w.alloc o) g t cs:=(Below.heap_alloc w o g h.lt).trans h
theorem Bk.hJ(h:Bk w g t cs)(i:Nat)(u:Value):Bk (w.setCell (c_ g i) u) g t (cs.setIfInBounds i u):=by
 unfold Bk at h |-;simp[World.setCell,Array.getElem?_modify,h]
theorem Bk.h7(h:Bk w g t cs){p:Addr}(hp:g≠p.block)(u:Value):Bk (w.setCell p u) g t cs:=(Below.heap_setCell w p u g hp).trans h
theorem Bk.gr(h:Bk w g t cs)(hg:Gr M w w')(hn:g∉M):Bk w' g t cs:=(hg.block g h.lt hn).trans h
theorem Bk.lF{j:Nat}{t':TypeId}{y:Array Value}(h:Bk w g t cs)(o:Bk w j t' y)(av:t≠t'):g≠j:=by
 rintro rfl;unfold Bk at h o;rw[h]at o;injection o with o;injection o with _ X;exact av X
end
def Sl(w:World)(e:TypeId)(size:Nat)(A:Option Addr)(n:Nat)(xs:List Value):Prop:=
 xs.length=n*size/\(0<n->∃b off cs fz,A=some (c_ b off)/\w.heap[b]?=some (.cells cs e fz)/\∀j u,xs[j]?=some u->cs[off+j]?=some u)
section
variable{M:List Nat}{w w':World}{e:TypeId}{size:Nat}{A:Option Addr}{n:Nat}{xs:List Value}
theorem EM(w:World)(e:TypeId)(size:Nat)(A:Option Addr):Sl w e size A 0 []:=⟨by simp,λh=>D6 h o_⟩
theorem Sl.drew(h:Sl w e size A n xs):Sl w.drew e size A n xs:=h
theorem Sl.drewN(h:Sl w e size A n xs)(k:Nat):Sl (w.drewN k) e size A n xs:=h
theorem Sl.ir(h:Sl w e size A n xs)(hk:∀b off,A=some (c_ b off)->b<w.heap.size->w'.heap[b]?=w.heap[b]?):Sl w' e size A n xs:=
 ⟨h.1,λhn=>by
   obtain⟨b,off,cs,fz,U,hb,hc⟩:=h.2 hn;have aj:b<w.heap.size:=JV
   exact⟨b,off,cs,fz,U,(hk b off U aj).trans hb,hc⟩⟩
theorem Sl.g_(h:Sl w e size A n xs)(hg:Gr [] w w'):Sl w' e size A n xs:=h.ir λb _ _ hb=>hg.block b hb s_
theorem Sl.alloc(h:Sl w e size A n xs)(o:Obj):Sl (w.alloc o) e size A n xs:=h.g_ ((D_ [] w).alloc o)
theorem Sl.ig(h:Sl w e size A n xs){g:Nat}{t:TypeId}{cs:Array Value}(hk:Bk w g t cs)(av:e≠t)(hg:Gr [g] w w'):Sl w' e size A n xs:=
 ⟨h.1,λhn=>by
   obtain⟨b,off,y,fz,U,hb,hc⟩:=h.2 hn;have hbg:b≠g:=Jr;have aj:b<w.heap.size:=JV
   exact⟨b,off,y,fz,U,(hg.block b aj (by simpa using hbg)).trans hb,hc⟩⟩
theorem Sl.f_(h:Sl w e size A n xs)(hn:0<n):∃b off,A=some (c_ b off)/\∀j u,xs[j]?=some u->w.cell? (c_ b (off+j))=some u:=by
 obtain⟨b,off,cs,fz,U,hb,hc⟩:=h.2 hn;exact⟨b,off,U,λj u hu=>by rw[cell_of_row w b _ cs e fz hb];exact hc j u hu⟩
theorem Sl.zJ(h:Sl w e size A n xs){g:Nat}{t:TypeId}{cs:Array Value}(hk:Bk w g t cs)(av:e≠t){b off:Nat}(U:A=some (c_ b off))(hn:0<n):b≠g:=by
 obtain⟨b',z,y,fz,f,hb,_⟩:=h.2 hn;rw[U]at f;injection f with f;injection f with f _;subst f;exact Jr
theorem Sl.nA(h:Sl w e size A n xs)(hn:0<n):∃d,A=some d/\∀j u,xs[j]?=some u->w.cell? (d.add j)=some u:=by
 obtain⟨b,off,U,hc⟩:=h.f_ hn;exact⟨_,U,λj u hu=>by rw[mD];exact hc j u hu⟩
theorem Sl.iG{base kX:Nat}(h:w.ownsRow base e size (.slice A n kX) n xs):Sl w e size A n xs:=by
 refine⟨h.1,λhn=>?_⟩
 rcases h.2 with⟨hv,h0⟩|⟨g,c,cur,hv,_,hg,_,_,_,X⟩
 .omega
 .injection hv with U _ _;refine⟨g,0,cur,(0,0),U,hg,λj u hu=>?_⟩;rw[<-X,EL]at hu;split at hu
  .simpa using hu
  .cases hu
end
def iO{α:Type}(p:α->Bool):List α->Nat->Int
 |[],_=> -1
 |x::l,k=>if p x then(k:Int) else iO p l (k+1)
theorem lG(p:α->Bool)(l:List α)(k j:Nat)(h:j<l.length)(hp:p l[j]=true):iO p (l.drop j) k=k:=by
 rw[X_ h];simp[iO,hp]
theorem ko(p:α->Bool)(l:List α)(k j:Nat)(h:j<l.length)(hp:p l[j]=false):iO p (l.drop j) k=iO p (l.drop (j+1)) (k+1):=by
 rw[X_ h];simp[iO,hp]
theorem mg(p:α->Bool)(l:List α)(k j:Nat)(h:l.length<=j):iO p (l.drop j) k= -1:=by
 rw[El h]
 rfl
theorem m6(p:α->Bool)(l:List α)(k:Nat): -1<=iO p l k/\iO p l k<(k+l.length:Nat):=by
 induction l generalizing k with
 |nil=>simp[iO];omega
 |cons x l ad=>simp only[iO,D3];have:=ad (k+1);split<;>omega
theorem tB(p:α->Bool)(l:List α)(k:Nat):0<=iO p l k↔∃x∈l,p x=true:=by
 induction l generalizing k with
 |nil=>simp[iO]
 |cons x l ad=>simp only[iO];split<;>rename_i h<;>simp[h,ad]
theorem Sl.at_{w:World}{e:TypeId}{A:Option Addr}{n:Nat}{xs:List Value}(h:Sl w e 1 A n xs)(hk:k<n):∃b off u,A=some (c_ b off)/\xs[k]?=some u/\w.cell? (c_ b (off+k))=some u:=by
 obtain⟨b,off,U,hc⟩:=h.f_ o_
 have hl:k<xs.length:=by have:=h.1;omega
 exact⟨b,off,xs[k],U,K_ hl,hc k _ (K_ hl)⟩
theorem iu{w w':World}{base:Nat}{e:TypeId}{size:Nat}{n:Nat}{xs:List Value}(h:w.ownsRow base e size v n xs)(hg:Gr [] w w'):w'.ownsRow base e size v n xs:=
 h.kept (hg.tK none) (by cases v.ownBlock<;>simp)
theorem j1{w w':World}{base:Nat}{e:TypeId}{size:Nat}{n:Nat}{xs:List Value}{g:Nat}{t:TypeId}{cs:Array Value}(h:w.ownsRow base e size v n xs)(hk:Bk w g t cs)(av:e≠t)(hg:Gr [g] w w'):w'.ownsRow base e size v n xs:=by
 refine h.kept hg.uV ?_
 rcases h.2 with⟨rfl,_⟩|⟨j,kX,cur,rfl,_,aB,_⟩
 .exact .inl rfl
 .right;intro he
  have:j=g:=by simpa[Value.ownBlock]using he
  subst this;exact(Bk.lF (t:=e) aB hk av) rfl
theorem yc(w:World)(base:Nat)(e:TypeId)(size g:Nat)(hg:w.heap.size=g)(hb:base<=g):(w.alloc (.cells #[] e)).ownsRow base e size (.slice (j_ g) 0 0) 0 []:=by
 subst hg;exact World.ownsRow_lit w #[] 0 hb (by simp[maxLen]) s_
theorem iJ(w:World)(base:Nat)(e:TypeId)(size:Nat):w.ownsRow base e size (n_) 0 []:=World.ownsRow_nil w base e size
theorem od{w:World}{base d:Nat}{e:TypeId}{size:Nat}{n:Nat}{xs:List Value}(h:w.ownsRow base e size v n xs)(hb:d<=base):w.ownsRow d e size v n xs:=by
 refine⟨h.1,?_⟩
 rcases h.2 with h|⟨g,kX,cur,h1,h2,h3⟩
 .exact .inl h
 .exact .inr ⟨g,kX,cur,h1,by omega,h3⟩
structure App(base:Nat)(e:TypeId)(w w':World):Prop where
 gr:∀(M:List Nat) (a:World),a.heap.size<=base->Gr M a w->Gr M a w'
 ir:∀(k:Nat) (o:Obj),w.heap[k]?=some o->(k<base∨∀cs fz,o≠ .cells cs e fz)->w'.heap[k]?=some o
 size:w.heap.size<=w'.heap.size
theorem App.iM{base:Nat}{e:TypeId}{size:Nat}{w w':World}{n:Nat}{xs:List Value}(h:w.ownsRow base e size v n xs)(hg:w.grownBy w' v.ownBlock):App base e w w':=by
 refine⟨λM a ha z=>z.grown hg λk hk=>.inr (F_ ha (h.lt k hk).1),λk o ho hk=>?_,hg.size⟩
 have aj:k<w.heap.size:=by
  rcases D5 k w.heap.size with aj|bC
  .exact aj
  .rw[Y_ bC]at ho
   cases ho
 refine(hg.block k aj ?_).trans ho;intro he
 rcases hk with hk|hk
 .have:=(h.lt k he.symm).1
  omega
 .rcases h.2 with⟨rfl,_⟩|⟨g,kX,cur,rfl,_,aB,_⟩
  .simp[Value.ownBlock]at he
  .have:k=g:=by simpa[Value.ownBlock]using he
   subst this;rw[aB]at ho;injection ho with ho;exact hk _ _ ho.symm
theorem App.bk{base:Nat}{e t:TypeId}{w w':World}{g:Nat}{cs:Array Value}(h:App base e w w')(hb:Bk w g t cs)(av:t≠e):Bk w' g t cs:=
 h.ir g _ hb (.inr λy fz he=>av (by injection he))
theorem App.sl{base:Nat}{e:TypeId}{size:Nat}{w w':World}{A:Option Addr}{n:Nat}{xs:List Value}(h:App base e w w')(hs:Sl w q size A n xs)(av:q≠e):Sl w' q size A n xs:=
 ⟨hs.1,λhn=>by
   obtain⟨b,off,cs,fz,U,hb,hc⟩:=hs.2 hn
   exact⟨b,off,cs,fz,U,h.ir b _ hb (.inr λy c he=>av (by injection he)),hc⟩⟩
theorem App.own{base d:Nat}{e:TypeId}{size:Nat}{w w':World}{n:Nat}{xs:List Value}(h:App base e w w')(hs:w.ownsRow d q size v n xs)(av:q≠e):w'.ownsRow d q size v n xs:=by
 refine⟨hs.1,?_⟩
 rcases hs.2 with aB|⟨g,kX,cur,h1,h2,h3,aw⟩
 .exact .inl aB
 .exact .inr ⟨g,kX,cur,h1,h2,h.ir g _ h3 (.inr λy c he=>av (by injection he)),aw⟩
section
variable{P:Program}(w:World)
theorem lU(base:Nat)(t ty e:TypeId)(i:TypeInfo)(size:Nat)(X:P.underlying t=some (.slice e))(hi:P.info? e=some i)
 (v:Value) (n:Nat) (xs:List Value) (ao:w.ownsRow base e size v n xs) (A:Option Addr) (c:Nat):(Builtin.append_ #[t,t] ty #[v,.slice A 0 c]).run P w=.ok v w:=by
 rcases ao.2 with⟨rfl,rfl⟩|⟨g,kX,cur,rfl,_,_,r,_⟩
 .cases A<;>simp[Builtin.append_,EJ X,sizeOf,typeInfo,hi,Builtin.lenOf,Builtin.firstCells,loadCells,loadCellsFrom]
 .cases A<;>simp[Builtin.append_,EJ X,sizeOf,typeInfo,hi,Builtin.lenOf,Builtin.firstCells,r,storeCells,loadCells,loadCellsFrom]
theorem AR(base:Nat)(t ty e:TypeId)(i:TypeInfo)(z:Value)(size bytes:Nat)(X:P.underlying t=some (.slice e))(hi:P.info? e=some i)(hz:i.zero=some z)
 (C:i.size=size) (y:i.bytes=bytes) (D:z.cells.size=size) (au:0<size)
 (p:Option Addr) (aI n:Nat) (xs:List Value) (ao:w.ownsRow base e size (.slice p n aI) n xs)
 (A:Option Addr) (m c:Nat) (news:List Value) (hr:Sl w e size A m news) (h1:∀u∈news,u.oneCell'=true)
 (f:(n+m)*bytes<=140737488355328) (L:0<bytes) (aL:base<=w.heap.size):
 ∃A' c' w',(Builtin.append_ #[t,t] ty #[.slice p n aI,.slice A m c]).run P w=.ok (.slice A' (n+m) c') w'/\w'.ownsRow base e size (.slice A' (n+m) c') (n+m) (xs++news)/\App base e w w':=by
 exact KF
theorem yW{a:Act}(s x:Operand)(t:TypeId)(ho:o.op=.call {callee:=.builtin .append,args:=#[s,x],argTypes:=#[t,t]})(base:Nat)(e:TypeId)(i:TypeInfo)(z:Value)(size bytes:Nat)(X:P.underlying t=some (.slice e))(hi:P.info? e=some i)(hz:i.zero=some z)(C:i.size=size)(y:i.bytes=bytes)(D:z.cells.size=size)(au:0<size)(L:0<bytes)(p:Option Addr)(n aI:Nat)(xs:List Value)(hs:a.eval s=.slice p n aI)(ao:w.ownsRow base e size (.slice p n aI) n xs)(A:Option Addr)(m c:Nat)(news:List Value)(I:a.eval x=.slice A m c)(hr:Sl w e size A m news)(h1:∀u∈news,u.oneCell'=true)(f:(n+m)*bytes<=140737488355328)(aL:base<=w.heap.size)(h:∀(A':Option Addr) (c':Nat) (w':World),w'.ownsRow base e size (.slice A' (n+m) c') (n+m) (xs++news)->App base e w w'->K (a.put o.dst (.slice A' (n+m) c')) w'):o.wp P a w K Q:=by
 obtain⟨A',c',w',H,h2,h3⟩:=AR (P:=P) w base t o.type e i z size bytes X hi hz C y D au p aI n xs ao A m c news hr h1 f L aL;exact K4
theorem si{rest:List Oper}{a:Act}(ap:o.guard=none)(s x:Operand)(t:TypeId)(ho:o.op=.call {callee:=.builtin .append,args:=#[s,x],argTypes:=#[t,t]})(base:Nat)(e:TypeId)(i:TypeInfo)(z:Value)(size bytes:Nat)(X:P.underlying t=some (.slice e))(hi:P.info? e=some i)(hz:i.zero=some z)(C:i.size=size)(y:i.bytes=bytes)(D:z.cells.size=size)(au:0<size)(L:0<bytes)(p:Option Addr)(n aI:Nat)(xs:List Value)(hs:a.eval s=.slice p n aI)(ao:w.ownsRow base e size (.slice p n aI) n xs)(A:Option Addr)(m c:Nat)(news:List Value)(I:a.eval x=.slice A m c)(hr:Sl w e size A m news)(h1:∀u∈news,u.oneCell'=true)(f:(n+m)*bytes<=140737488355328)(aL:base<=w.heap.size)(h:∀(A':Option Addr) (c':Nat) (w':World),w'.ownsRow base e size (.slice A' (n+m) c') (n+m) (xs++news)->App base e w w'->wpList P ops Q rest (a.put o.dst (.slice A' (n+m) c')) w'):wpList P ops Q (o::rest) a w:=
 wpList_plain ap λ_ H=>yW w s x t ho base e i z size bytes X hi hz C y D au L p n aI xs hs ao A m c news I hr h1 f aL λA' c' w' h2 h3=>H _ _ (h A' c' w' h2 h3)
end
section
variable{P:Program}(w:World)
end
theorem Sl.new(w:World)(e:TypeId)(size:Nat)(cs:Array Value)(n g:Nat)(hg:w.heap.size=g)(hs:cs.size=n*size):Sl (w.alloc (.cells cs e)) e size (j_ g) n cs.toList:=by
 subst hg;exact⟨by simpa using hs,λ_=>⟨_,_,cs,(0,0),rfl,FX w _,λj u hu=>by simpa using hu⟩⟩
theorem De(w:World)(t0:TypeId)(aI:Array Value):Bk (w.alloc (.cells aI t0)) (w.heap.size) t0 aI/\Gr [] w (w.alloc (.cells aI t0)):=⟨(L_ w t0 aI),((D_ [] w).alloc _)⟩
theorem pG(w:World)(t0:TypeId)(aI:Array Value)(t1:TypeId)(c1:Array Value):Bk ((w.alloc (.cells aI t0)).alloc (.cells c1 t1)) (w.heap.size) t0 aI/\Bk ((w.alloc (.cells aI t0)).alloc (.cells c1 t1)) (w.heap.size+1) t1 c1/\Gr [] w ((w.alloc (.cells aI t0)).alloc (.cells c1 t1)):=⟨((L_ w t0 aI).alloc _),(by simpa using(L_ (w.alloc (.cells aI t0)) t1 c1)),(((D_ [] w).alloc _).alloc _)⟩
theorem vQ(w:World)(t0:TypeId)(aI:Array Value)(t1:TypeId)(c1:Array Value)(ak:TypeId)(an:Array Value):Bk (((w.alloc (.cells aI t0)).alloc (.cells c1 t1)).alloc (.cells an ak)) (w.heap.size) t0 aI/\Bk (((w.alloc (.cells aI t0)).alloc (.cells c1 t1)).alloc (.cells an ak)) (w.heap.size+1) t1 c1/\Bk (((w.alloc (.cells aI t0)).alloc (.cells c1 t1)).alloc (.cells an ak)) (w.heap.size+1+1) ak an/\Gr [] w (((w.alloc (.cells aI t0)).alloc (.cells c1 t1)).alloc (.cells an ak)):=⟨(((L_ w t0 aI).alloc _).alloc _),(by simpa using((L_ (w.alloc (.cells aI t0)) t1 c1).alloc _)),(by simpa using(L_ ((w.alloc (.cells aI t0)).alloc (.cells c1 t1)) ak an)),((((D_ [] w).alloc _).alloc _).alloc _)⟩
theorem BC(w:World)(t0:TypeId)(aI:Array Value)(t1:TypeId)(c1:Array Value)(ak:TypeId)(an:Array Value)(t3:TypeId)(aN:Array Value):Bk ((((w.alloc (.cells aI t0)).alloc (.cells c1 t1)).alloc (.cells an ak)).alloc (.cells aN t3)) (w.heap.size) t0 aI/\Bk ((((w.alloc (.cells aI t0)).alloc (.cells c1 t1)).alloc (.cells an ak)).alloc (.cells aN t3)) (w.heap.size+1) t1 c1/\Bk ((((w.alloc (.cells aI t0)).alloc (.cells c1 t1)).alloc (.cells an ak)).alloc (.cells aN t3)) (w.heap.size+1+1) ak an/\Bk ((((w.alloc (.cells aI t0)).alloc (.cells c1 t1)).alloc (.cells an ak)).alloc (.cells aN t3)) (w.heap.size+1+1+1) t3 aN/\Gr [] w ((((w.alloc (.cells aI t0)).alloc (.cells c1 t1)).alloc (.cells an ak)).alloc (.cells aN t3)):=⟨((((L_ w t0 aI).alloc _).alloc _).alloc _),(by simpa using(((L_ (w.alloc (.cells aI t0)) t1 c1).alloc _).alloc _)),(by simpa using((L_ ((w.alloc (.cells aI t0)).alloc (.cells c1 t1)) ak an).alloc _)),(by simpa using(L_ (((w.alloc (.cells aI t0)).alloc (.cells c1 t1)).alloc (.cells an ak)) t3 aN)),(((((D_ [] w).alloc _).alloc _).alloc _).alloc _)⟩
theorem DM(w:World)(t0:TypeId)(aI:Array Value)(t1:TypeId)(c1:Array Value)(ak:TypeId)(an:Array Value)(t3:TypeId)(aN:Array Value)(t4:TypeId)(c4:Array Value):Bk (((((w.alloc (.cells aI t0)).alloc (.cells c1 t1)).alloc (.cells an ak)).alloc (.cells aN t3)).alloc (.cells c4 t4)) (w.heap.size) t0 aI/\Bk (((((w.alloc (.cells aI t0)).alloc (.cells c1 t1)).alloc (.cells an ak)).alloc (.cells aN t3)).alloc (.cells c4 t4)) (w.heap.size+1) t1 c1/\Bk (((((w.alloc (.cells aI t0)).alloc (.cells c1 t1)).alloc (.cells an ak)).alloc (.cells aN t3)).alloc (.cells c4 t4)) (w.heap.size+1+1) ak an/\Bk (((((w.alloc (.cells aI t0)).alloc (.cells c1 t1)).alloc (.cells an ak)).alloc (.cells aN t3)).alloc (.cells c4 t4)) (w.heap.size+1+1+1) t3 aN/\Bk (((((w.alloc (.cells aI t0)).alloc (.cells c1 t1)).alloc (.cells an ak)).alloc (.cells aN t3)).alloc (.cells c4 t4)) (w.heap.size+1+1+1+1) t4 c4/\Gr [] w (((((w.alloc (.cells aI t0)).alloc (.cells c1 t1)).alloc (.cells an ak)).alloc (.cells aN t3)).alloc (.cells c4 t4)):=⟨(((((L_ w t0 aI).alloc _).alloc _).alloc _).alloc _),(by simpa using((((L_ (w.alloc (.cells aI t0)) t1 c1).alloc _).alloc _).alloc _)),(by simpa using(((L_ ((w.alloc (.cells aI t0)).alloc (.cells c1 t1)) ak an).alloc _).alloc _)),(by simpa using((L_ (((w.alloc (.cells aI t0)).alloc (.cells c1 t1)).alloc (.cells an ak)) t3 aN).alloc _)),(by simpa using(L_ ((((w.alloc (.cells aI t0)).alloc (.cells c1 t1)).alloc (.cells an ak)).alloc (.cells aN t3)) t4 c4)),((((((D_ [] w).alloc _).alloc _).alloc _).alloc _).alloc _)⟩
theorem nZ{P:Program}{w:World}{a:Act}(ap:o.guard=none)(s x:Operand)(t:TypeId)(ho:o.op=.call {callee:=.builtin .append,args:=#[s,x],argTypes:=#[t,t]})(base:Nat)(e:TypeId)(i:TypeInfo)(z:Value)(size bytes:Nat)(X:P.underlying t=some (.slice e))(hi:P.info? e=some i)(hz:i.zero=some z)(C:i.size=size)(y:i.bytes=bytes)(D:z.cells.size=size)(au:0<size)(L:0<bytes)(p:Option Addr)(n aI:Nat)(xs:List Value)(hs:a.eval s=.slice p n aI)(ao:w.ownsRow base e size (.slice p n aI) n xs)(A:Option Addr)(m c:Nat)(news:List Value)(I:a.eval x=.slice A m c)(hr:Sl w e size A m news)(h1:∀u∈news,u.oneCell'=true)(f:(n+m)*bytes<=140737488355328)(aL:base<=w.heap.size)(h:∀(A':Option Addr) (c':Nat) (w':World),w'.ownsRow base e size (.slice A' (n+m) c') (n+m) (xs++news)->App base e w w'->K (a.put o.dst (.slice A' (n+m) c')) w'):
 if Region.wanted o (yielded ops a.tmps)=true then Oper.wp P o a w K Q else E:=by
 have aK:Region.wanted o (yielded ops a.tmps)=true:=by simp[Region.wanted,ap]
 rw[Q_ aK];exact yW w s x t ho base e i z size bytes X hi hz C y D au L p n aI xs hs ao A m c news I hr h1 f aL h
theorem mf{w:World}{o:Obj}(hk:w.heap[k]?=some o):k<w.heap.size:=by
 rcases D5 k w.heap.size with aj|bC
 .exact aj
 .rw[Y_ bC]at hk
  cases hk
structure Lk(base:Nat)(e:TypeId)(w w':World):Prop where
 gr:∀(M:List Nat) (a:World),a.heap.size<=base->Gr M a w->Gr M a w'
 BP:∀(k:Nat) (cs:Array Value) (fz:Nat × Nat),w.heap[k]?=some (.cells cs e fz)->w'.heap[k]?=some (.cells cs e fz)
 size:w.heap.size<=w'.heap.size
section
variable{base:Nat}{e:TypeId}{w w1 w2:World}
theorem Lk.refl(base:Nat)(e:TypeId)(w:World):Lk base e w w:=⟨λ_ _ _ h=>h,λ_ _ _ h=>h,G_ _⟩
theorem Lk.trans(h:Lk base e w w1)(k:Lk base e w1 w2):Lk base e w w2:=⟨λM a ha hg=>k.gr M a ha (h.gr M a ha hg),λi cs fz hi=>k.BP i cs fz (h.BP i cs fz hi),F_ h.size k.size⟩
theorem Lk.vd(h:Gr [] w w1):Lk base e w w1:=⟨λM a _ hg=>hg.trans (h.of_nil M),λ_ _ _ hk=>(h.block _ (mf hk) s_).trans hk,h.size⟩
theorem Lk.drew(base:Nat)(e:TypeId)(w:World):Lk base e w w.drew:=Lk.vd (D_ [] w).drew
theorem Lk.sl{size:Nat}{A:Option Addr}{n:Nat}{xs:List Value}(h:Lk base e w w1)(hs:Sl w e size A n xs):Sl w1 e size A n xs:=
 ⟨hs.1,λhn=>by
   obtain⟨b,off,cs,fz,U,hb,hc⟩:=hs.2 hn
   exact⟨b,off,cs,fz,U,h.BP b cs fz hb,hc⟩⟩
end
section
variable{P:Program}(w:World)
theorem zk(base:Nat)(t ty e:TypeId)(i:TypeInfo)(z:Value)(size bytes:Nat)(X:P.underlying t=some (.slice e))(hi:P.info? e=some i)(hz:i.zero=some z)(C:i.size=size)(y:i.bytes=bytes)(D:z.cells.size=size)(au:0<size)(p:Option Addr)(aI n:Nat)(xs:List Value)(ao:w.ownsRow base e size (.slice p n aI) n xs)(A:Option Addr)(m c:Nat)(news:List Value)(hr:Sl w q size A m news)(h1:∀u∈news,u.oneCell'=true)(f:(n+m)*bytes<=140737488355328)(L:0<bytes)(aL:base<=w.heap.size):
 ∃A' c' w',(Builtin.append_ #[t,t] ty #[.slice p n aI,.slice A m c]).run P w=.ok (.slice A' (n+m) c') w'/\w'.ownsRow base e size (.slice A' (n+m) c') (n+m) (xs++news)/\App base e w w':=by
 exact KF
theorem w6{a:Act}(s x:Operand)(t:TypeId)(ho:o.op=.call {callee:=.builtin .append,args:=#[s,x],argTypes:=#[t,t]})(base:Nat)(e:TypeId)(i:TypeInfo)(z:Value)(size bytes:Nat)(X:P.underlying t=some (.slice e))(hi:P.info? e=some i)(hz:i.zero=some z)(C:i.size=size)(y:i.bytes=bytes)(D:z.cells.size=size)(au:0<size)(L:0<bytes)(p:Option Addr)(n aI:Nat)(xs:List Value)(hs:a.eval s=.slice p n aI)(ao:w.ownsRow base e size (.slice p n aI) n xs)(A:Option Addr)(m c:Nat)(news:List Value)(I:a.eval x=.slice A m c)(hr:Sl w q size A m news)(h1:∀u∈news,u.oneCell'=true)(f:(n+m)*bytes<=140737488355328)(aL:base<=w.heap.size)(h:∀(A':Option Addr) (c':Nat) (w':World),w'.ownsRow base e size (.slice A' (n+m) c') (n+m) (xs++news)->App base e w w'->K (a.put o.dst (.slice A' (n+m) c')) w'):o.wp P a w K Q:=by
 obtain⟨A',c',w',H,h2,h3⟩:=zk (P:=P) w base t o.type e i z size bytes X hi hz C y D au p aI n xs ao A m c news hr h1 f L aL;exact K4
theorem iD{rest:List Oper}{a:Act}(ap:o.guard=none)(s x:Operand)(t:TypeId)(ho:o.op=.call {callee:=.builtin .append,args:=#[s,x],argTypes:=#[t,t]})(base:Nat)(e:TypeId)(i:TypeInfo)(z:Value)(size bytes:Nat)(X:P.underlying t=some (.slice e))(hi:P.info? e=some i)(hz:i.zero=some z)(C:i.size=size)(y:i.bytes=bytes)(D:z.cells.size=size)(au:0<size)(L:0<bytes)(p:Option Addr)(n aI:Nat)(xs:List Value)(hs:a.eval s=.slice p n aI)(ao:w.ownsRow base e size (.slice p n aI) n xs)(A:Option Addr)(m c:Nat)(news:List Value)(I:a.eval x=.slice A m c)(hr:Sl w q size A m news)(h1:∀u∈news,u.oneCell'=true)(f:(n+m)*bytes<=140737488355328)(aL:base<=w.heap.size)(h:∀(A':Option Addr) (c':Nat) (w':World),w'.ownsRow base e size (.slice A' (n+m) c') (n+m) (xs++news)->App base e w w'->wpList P ops Q rest (a.put o.dst (.slice A' (n+m) c')) w'):wpList P ops Q (o::rest) a w:=
 wpList_plain ap λ_ H=>w6 w s x t ho base e i z size bytes X hi hz C y D au L p n aI xs hs ao A m c news I hr h1 f aL λA' c' w' h2 h3=>H _ _ (h A' c' w' h2 h3)
end
theorem nY{P:Program}{w:World}{a:Act}(ap:o.guard=none)(s x:Operand)(t:TypeId)(ho:o.op=.call {callee:=.builtin .append,args:=#[s,x],argTypes:=#[t,t]})(base:Nat)(e:TypeId)(i:TypeInfo)(z:Value)(size bytes:Nat)(X:P.underlying t=some (.slice e))(hi:P.info? e=some i)(hz:i.zero=some z)(C:i.size=size)(y:i.bytes=bytes)(D:z.cells.size=size)(au:0<size)(L:0<bytes)(p:Option Addr)(n aI:Nat)(xs:List Value)(hs:a.eval s=.slice p n aI)(ao:w.ownsRow base e size (.slice p n aI) n xs)(A:Option Addr)(m c:Nat)(news:List Value)(I:a.eval x=.slice A m c)(hr:Sl w q size A m news)(h1:∀u∈news,u.oneCell'=true)(f:(n+m)*bytes<=140737488355328)(aL:base<=w.heap.size)(h:∀(A':Option Addr) (c':Nat) (w':World),w'.ownsRow base e size (.slice A' (n+m) c') (n+m) (xs++news)->App base e w w'->K (a.put o.dst (.slice A' (n+m) c')) w'):
 if Region.wanted o (yielded ops a.tmps)=true then Oper.wp P o a w K Q else E:=by
 have aK:Region.wanted o (yielded ops a.tmps)=true:=by simp[Region.wanted,ap]
 rw[Q_ aK];exact w6 w s x t ho base e i z size bytes X hi hz C y D au L p n aI xs hs ao A m c news I hr h1 f aL h
theorem info_parts{P:Program}{t:TypeId}{z:Value}{b:Nat}(h:(P.info? t).map (λi=>(i.zero,i.size,i.bytes))=some (some z,s,b)):∃i,P.info? t=some i/\i.zero=some z/\i.size=s/\i.bytes=b:=by
 cases hi:P.info? t with
 |none=>rw[hi]at h;simp at h
 |some i=>rw[hi]at h;simp at h;exact⟨i,rfl,h.1,h.2.1,h.2.2⟩
theorem B0{w:World}{base d:Nat}{e:TypeId}{size:Nat}{n:Nat}{xs:List Value}(h:w.ownsRow d e size v n xs)(hb:base<=d):w.ownsRow base e size v n xs:=by
 refine⟨h.1,?_⟩
 rcases h.2 with h0|⟨g,kX,cur,h1,h2,h3⟩
 .exact .inl h0
 .exact .inr ⟨g,kX,cur,h1,F_ hb h2,h3⟩
theorem Bk.g_{w w':World}{g:Nat}{t:TypeId}{cs:Array Value}(h:Bk w g t cs)(hg:Gr [] w w'):Bk w' g t cs:=h.gr hg s_
theorem Bi{W w1:World}{t:TypeId}{cs:Array Value}{p:Nat}(hg:Gr [] (W.alloc (.cells cs t)) w1)(hs:W.heap.size=p):Bk w1 p t cs:=by
 subst hs;exact(L_ W t cs).gr hg s_
theorem iQ{w:World}{base:Nat}{e:TypeId}{size:Nat}{A:Option Addr}{n:Nat}{xs:List Value}(h:w.ownsRow base e size (.slice A n c) n xs):n<=c:=by
 rcases h.2 with⟨hv,h0⟩|⟨g,kX,cur,hv,_,_,hc,_⟩
 .omega
 .injection hv with _ _ hv;omega
theorem Gr.own{M:List Nat}{a w w':World}{g n:Nat}(h:Gr M a w)(hg:w.grownBy w' (Value.slice (j_ g) n c).ownBlock)(hr:g∈M∨a.heap.size<=g):Gr M a w':=
 h.grown hg (λk hk=>by
  have:g=k:=by simpa[Value.ownBlock]using hk
  subst this
  exact hr)
theorem Bk.own{w w':World}{g n:Nat}{t:TypeId}{cs:Array Value}(h:Bk w k t cs)(hg:w.grownBy w' (Value.slice (j_ g) n c).ownBlock)(av:k≠g):Bk w' k t cs:=
 (hg.block k h.lt (by simpa[Value.ownBlock]using av)).trans h
theorem j3(f:α->List Value)(s:Nat)(hf:∀a,(f a).length=s)(l:List α):(l.flatMap f).length=l.length*s:=by
 induction l with
 |nil=>simp
 |cons x l ad=>simp only[Ez,H_,hf,ad,D3,Fa,F0];omega
theorem iW(f:α->List Value)(s:Nat)(hf:∀a,(f a).length=s)(l:List α)(k j:Nat)(hk:k<l.length)(hj:j<s):(l.flatMap f)[k*s+j]?=(f l[k])[j]?:=by
 induction l generalizing k with
 |nil=>simp at hk
 |cons x l ad=>
  cases k with
  |zero=>simp only[Ez,FH,U_,ES];rw[Fi (by rw[hf];exact hj)]
  |succ k=>
   simp only[Ez,Fv]
   have e:(k+1)*s+j=s+(k*s+j):=by rw[Fa,F0];omega
   rw[e,E3 (by rw[hf];omega),hf,Nat.add_sub_cancel_left];exact ad k (by simpa using hk)
theorem sz(E:α->List Value)(s:Nat)(hs:0<s)(hE:∀a,(E a).length=s){w:World}{x:Addr}{len:Nat}{f:Nat->α}(hc:∀i,i<len->∀j u,(E (f i))[j]?=some u->w.cell? (x.add (i*s+j))=some u):
 ∃e,Sl w e s (some x) len (((List.range len).map f).flatMap E):=by
 have iv:(((List.range len).map f).flatMap E).length=len*s:=by rw[j3 E s hE];simp
 by_cases h0:len=0
 .subst h0;exact⟨0,EM w 0 s (some x)⟩
 .have g:0<(E (f 0)).length:=by rw[hE];exact hs
  have I:=hc 0 o_ 0 _ (K_ g)
  have e0:x.add (0*s+0)=x:=by simp[Addr.add]
  rw[e0]at I;obtain⟨b,off,c⟩:=x;unfold World.cell? at I
  cases hb:w.heap[b]? with
  |none=>rw[hb]at I;simp at I
  |some o=>
   rw[hb]at I
   cases o with
   |cells cs e fz=>
    cases c with
    |some s=>simp at I
    |none=>
     refine⟨e,iv,λ_=>⟨b,off,cs,fz,rfl,hb,λj u hu=>?_⟩⟩
     have hj:j<len*s:=by
      rcases D5 j (len*s)with h|h
      .exact h
      .rw[Eh (by rw[iv];exact h)]at hu
       cases hu
     have hk:j / s<len:=by rw[Nat.div_lt_iff_lt_mul hs];exact hj
     have aP:=iW E s hE ((List.range len).map f) (j / s) (j % s) (by simpa using hk) (Nat.mod_lt _ hs)
     have d:j / s*s+j % s=j:=by rw[Nat.mul_comm];exact Nat.div_add_mod j s
     rw[d]at aP;rw[aP]at hu;simp only[E7,Fg]at hu
     have:=hc (j / s) hk (j % s) u hu
     rw[d,mD,cell_of_row w b _ cs e fz hb]at this;exact this
   |_=>simp at I
theorem kx{wr w':World}{e:TypeId}{size base x:Nat}{n:Nat}{xs:List Value}(h:wr.ownsRow base e size v n xs)(I:∀cs fz,wr.heap[x]?≠some (.cells cs e fz))(hg:Gr [x] wr w'):w'.ownsRow base e size v n xs:=by
 refine h.kept hg.uV ?_
 rcases h.2 with⟨rfl,_⟩|⟨j,kX,cur,rfl,_,aB,_⟩
 .exact .inl rfl
 .right;intro he
  have:j=x:=by simpa[Value.ownBlock]using he
  subst this;exact I _ _ aB
theorem qp(E:α->List Value)(h1:∀a,∀u∈E a,u.oneCell'=true)(l:List α):∀u∈l.flatMap E,u.oneCell'=true:=by
 intro u hu;obtain⟨v,_,hv⟩:=E2.1 hu;exact h1 v u hv
theorem Sl.row{E:α->List Value}(hE:∀a,(E a).length=s){w:World}{A:Option Addr}{l:List α}(h:Sl w ty s A l.length (l.flatMap E))(hk:k<l.length):
 ∃b off,A=some (c_ b off)/\∀j u,(E l[k])[j]?=some u->w.cell? ⟨b,off+(k*s+j),none⟩=some u:=by
 obtain⟨b,off,U,hc⟩:=Sl.f_ h o_;refine⟨b,off,U,λj u hu=>hc (k*s+j) u ?_⟩
 have hj:j<s:=by
  rcases D5 j s with h|h
  .exact h
  .rw[Eh (by rw[hE];exact h)]at hu
   cases hu
 rw[iW E s hE l k j hk hj];exact hu
theorem wS(E:α->List Value)(s:Nat)(hE:∀a,(E a).length=s)(l:List α)(k:Nat):(l.take k).flatMap E=(l.flatMap E).take (k*s):=by
 induction l generalizing k with
 |nil=>simp
 |cons x l ad=>
  cases k with
  |zero=>simp
  |succ k=>
   rw[List.take_succ_cons,Ez,Ez,ad,List.take_append,hE,W_ (l:=E x) (by rw[hE,Fa];omega),show(k+1)*s-s=k*s by rw[Fa];omega]
theorem wT(E:α->List Value)(s:Nat)(hE:∀a,(E a).length=s)(l:List α)(k:Nat):(l.drop k).flatMap E=(l.flatMap E).drop (k*s):=by
 induction l generalizing k with
 |nil=>simp
 |cons x l ad=>
  cases k with
  |zero=>simp
  |succ k=>
   rw[List.drop_succ_cons,Ez,ad,List.drop_append,hE,List.drop_of_length_le (l:=E x) (by rw[hE,Fa];omega),show(k+1)*s-s=k*s by rw[Fa];omega,Ea]
theorem Sl.w9{E:α->List Value}(hE:∀a,(E a).length=s){w:World}{A:Option Addr}{l:List α}(h:Sl w ty s A l.length (l.flatMap E))(hk:k<=l.length):
 Sl w ty s A k ((l.take k).flatMap E):=by
 refine⟨by rw[j3 E s hE,Ey,Nat.min_eq_left hk],λh0=>?_⟩;obtain⟨b,off,cs,fz,U,hb,hc⟩:=h.2 o_;refine⟨b,off,cs,fz,U,hb,λj u hu=>hc j u ?_⟩;rw[wS E s hE,EL]at hu;split at hu
 .exact hu
 .cases hu
theorem Sl.xu{E:α->List Value}(hE:∀a,(E a).length=s){w:World}{A:Option Addr}{l:List α}(h:Sl w ty s A l.length (l.flatMap E))(hk:k<=l.length)(q:Nat)(aq:l.length<=q):
 Sl w ty s (if q=k then A else A.map (·.add (k*s))) (l.length-k) ((l.drop k).flatMap E):=by
 refine⟨by rw[j3 E s hE,Fd],λh0=>?_⟩;obtain⟨b,off,cs,fz,U,hb,hc⟩:=h.2 o_;subst U;rw[P_ o_];refine⟨b,off+k*s,cs,fz,by simp[mD],hb,λj u hu=>?_⟩;rw[Fr];refine hc _ u ?_;rw[wT E s hE,FK]at hu;exact hu
theorem kC{w:World}{g:Nat}{t:TypeId}{cs:Array Value}(h:Bk w g t cs)(hs:cs.size=s):Sl w t s (j_ g) 1 cs.toList:=
 ⟨by simp[hs],λ_=>⟨g,0,cs,(0,0),rfl,h,λj u hu=>by simpa using hu⟩⟩
section
variable{P:Program}(w:World)
theorem zi(t ty e:TypeId)(i:TypeInfo)(z:Value)(size bytes:Nat)(X:P.underlying t=some (.slice e))(hi:P.info? e=some i)(hz:i.zero=some z)(C:i.size=size)(y:i.bytes=bytes)(D:z.cells.size=size)(au:0<size)(L:0<bytes)(A:Option Addr)(n:Nat)(xs:List Value)(U:Sl w e size A n xs)(B:Option Addr)(m c:Nat)(news:List Value)(hB:Sl w q size B m news)(h1:∀u∈news,u.oneCell'=true)(f:(n+m)*bytes<=140737488355328):
 ∃A' c' w',(Builtin.append_ #[t,t] ty #[.slice A n n,.slice B m c]).run P w=.ok (.slice A' (n+m) c') w'/\n+m<=c'/\Sl w' e size A' (n+m) (xs++news)/\Gr [] w w':=by
 have l:n+m<=maxLen:=by
  have:n+m<=(n+m)*bytes:=Fq _ L
  simp only[maxLen];omega
 rcases EY m with Y|Y
 .subst Y;have hn:=En (by simpa using hB.1);subst hn;refine⟨A,n,w,?_,by omega,by simpa using U,D_ _ _⟩
  rcases EY n with hn|hn
  .subst hn
   cases A with
   |none=>cases B<;>simp[Builtin.append_,EJ X,sizeOf,typeInfo,hi,Builtin.lenOf,Builtin.firstCells,loadCells,loadCellsFrom]
   |some a=>cases B<;>simp[Builtin.append_,EJ X,sizeOf,typeInfo,hi,Builtin.lenOf,Builtin.firstCells,storeCells,loadCells,loadCellsFrom]
  .obtain⟨b,off,rfl,_⟩:=Sl.f_ U hn
   cases B<;>simp[Builtin.append_,EJ X,sizeOf,typeInfo,hi,Builtin.lenOf,Builtin.firstCells,storeCells,loadCells,loadCellsFrom]
 .obtain⟨d,rfl,hc⟩:=hB.nA Y
  have fin:∀v' w',w'.ownsRow w.heap.size e size v' (n+m) (xs++news)->w.grownBy w' none->∃A' c',v'=.slice A' (n+m) c'/\n+m<=c'/\Sl w' e size A' (n+m) (xs++news)/\Gr [] w w':=by
   intro v' w' ho hg
   obtain⟨A',c',rfl⟩:∃A' c',v'=.slice A' (n+m) c':=by
    rcases ho.2 with⟨rfl,h0⟩|⟨g,kX,cur,rfl,_⟩
    .exact⟨none,0,by rw[h0]⟩
    .exact⟨_,_,rfl⟩
   exact⟨A',c',rfl,iQ ho,Sl.iG ho,(D_ [] w).grown hg s_⟩
  cases A with
  |none=>
   have hn:n=0:=by
    rcases EY n with hn|hn
    .exact hn
    .obtain⟨b,off,h,_⟩:=Sl.f_ U hn
     cases h
   subst hn;have I:=En (by simpa using U.1);subst I;obtain⟨v',w',H,h2,h3,_⟩:=run_append_own (P:=P) w w.heap.size t ty e i z size bytes X hi hz C y D au _ 0 [] (iJ w w.heap.size e size) d m c news hB.1 hc h1 l f (G_ _);obtain⟨A',c',rfl,aw,ax,aY⟩:=fin v' w' h2 h3;exact⟨A',c',w',H,aw,ax,aY⟩
  |some a=>
   have k:∀j u,xs[j]?=some u->w.cell? (a.add j)=some u:=by
    rcases EY n with hn|hn
    .subst hn;have I:=En (by simpa using U.1);subst I;simp
    .obtain⟨a',ha,h⟩:=U.nA hn;injection ha with ha;subst ha;exact h
   obtain⟨v',w',H,r1,r2⟩:=run_append_arg_grows (P:=P) w t ty e i z size bytes X hi hz C y D au a n n xs U.1 k d m c news hB.1 hc o_ l f;obtain⟨A',c',rfl,aw,ax,aY⟩:=fin v' w' r1 r2;exact⟨A',c',w',H,aw,ax,aY⟩
theorem w5{a:Act}(s x:Operand)(t:TypeId)(ho:o.op=.call {callee:=.builtin .append,args:=#[s,x],argTypes:=#[t,t]})(e:TypeId)(i:TypeInfo)(z:Value)(size bytes:Nat)(X:P.underlying t=some (.slice e))(hi:P.info? e=some i)(hz:i.zero=some z)(C:i.size=size)(y:i.bytes=bytes)(D:z.cells.size=size)(au:0<size)(L:0<bytes)(A:Option Addr)(n:Nat)(xs:List Value)(hs:a.eval s=.slice A n n)(U:Sl w e size A n xs)(B:Option Addr)(m c:Nat)(news:List Value)(I:a.eval x=.slice B m c)(hB:Sl w q size B m news)(h1:∀u∈news,u.oneCell'=true)(f:(n+m)*bytes<=140737488355328)(h:∀(A':Option Addr) (c':Nat) (w':World),n+m<=c'->Sl w' e size A' (n+m) (xs++news)->Gr [] w w'->K (a.put o.dst (.slice A' (n+m) c')) w'):o.wp P a w K Q:=by
 obtain⟨A',c',w',H,h2,h3,aw⟩:=zi (P:=P) w t o.type e i z size bytes X hi hz C y D au L A n xs U B m c news hB h1 f;exact K2
theorem o0{rest:List Oper}{a:Act}(ap:o.guard=none)(s x:Operand)(t:TypeId)(ho:o.op=.call {callee:=.builtin .append,args:=#[s,x],argTypes:=#[t,t]})(e:TypeId)(i:TypeInfo)(z:Value)(size bytes:Nat)(X:P.underlying t=some (.slice e))(hi:P.info? e=some i)(hz:i.zero=some z)(C:i.size=size)(y:i.bytes=bytes)(D:z.cells.size=size)(au:0<size)(L:0<bytes)(A:Option Addr)(n:Nat)(xs:List Value)(hs:a.eval s=.slice A n n)(U:Sl w e size A n xs)(B:Option Addr)(m c:Nat)(news:List Value)(I:a.eval x=.slice B m c)(hB:Sl w q size B m news)(h1:∀u∈news,u.oneCell'=true)(f:(n+m)*bytes<=140737488355328)(h:∀(A':Option Addr) (c':Nat) (w':World),n+m<=c'->Sl w' e size A' (n+m) (xs++news)->Gr [] w w'->wpList P ops Q rest (a.put o.dst (.slice A' (n+m) c')) w'):wpList P ops Q (o::rest) a w:=
 wpList_plain ap λ_ H=>w5 w s x t ho e i z size bytes X hi hz C y D au L A n xs hs U B m c news I hB h1 f λA' c' w' h2 h3 aw=>H _ _ (h A' c' w' h2 h3 aw)
theorem l8{a:Act}(ap:o.guard=none)(s x:Operand)(t:TypeId)(ho:o.op=.call {callee:=.builtin .append,args:=#[s,x],argTypes:=#[t,t]})(e:TypeId)(i:TypeInfo)(z:Value)(size bytes:Nat)(X:P.underlying t=some (.slice e))(hi:P.info? e=some i)(hz:i.zero=some z)(C:i.size=size)(y:i.bytes=bytes)(D:z.cells.size=size)(au:0<size)(L:0<bytes)(A:Option Addr)(n:Nat)(xs:List Value)(hs:a.eval s=.slice A n n)(U:Sl w e size A n xs)(B:Option Addr)(m c:Nat)(news:List Value)(I:a.eval x=.slice B m c)(hB:Sl w q size B m news)(h1:∀u∈news,u.oneCell'=true)(f:(n+m)*bytes<=140737488355328)(h:∀(A':Option Addr) (c':Nat) (w':World),n+m<=c'->Sl w' e size A' (n+m) (xs++news)->Gr [] w w'->K (a.put o.dst (.slice A' (n+m) c')) w'):
 if Region.wanted o (yielded ops a.tmps)=true then Oper.wp P o a w K Q else E:=by
 have aK:Region.wanted o (yielded ops a.tmps)=true:=by simp[Region.wanted,ap]
 rw[Q_ aK];exact w5 w s x t ho e i z size bytes X hi hz C y D au L A n xs hs U B m c news I hB h1 f h
end
def ul(cs:Array Value)(o:Nat)(vs:List Value):Array Value:=(cs.toList.take o++(vs++cs.toList.drop (o+vs.length))).toArray
theorem y_(cs:Array Value)(o:Nat)(v:Value)(r:List Value)(h:o+(v::r).length<=cs.size):ul (cs.setIfInBounds o v) (o+1) r=ul cs o (v::r):=by
 unfold ul;congr 1;rw[FU]
 have hl:o<cs.toList.length:=by simp at h |-;omega
 rw[O_ (by simpa using hl),List.getElem_set_self,List.take_set_of_le (G_ _),List.drop_set_of_lt o_];simp only[D3,Er,FE,Ea,Fr,Nat.add_comm 1]
theorem pu{g:Nat}{t:TypeId}:∀(vs:List Value) (o:Nat) (w:World) (cs:Array Value),Bk w g t cs->o+vs.length<=cs.size->Bk (w.setCells g o vs) g t (ul cs o vs)/\Gr [g] w (w.setCells g o vs)
 |[],o,w,cs,h,_=>by
  refine⟨?_,D_ _ _⟩
  have e:ul cs o []=cs:=by simp[ul]
  rw[e];exact h
 |v::r,o,w,cs,h,hl=>by
  have ad:=pu (g:=g) (t:=t) r (o+1) (w.setCell (c_ g o) v) (cs.setIfInBounds o v) (h.hJ o v) (by simp at hl |-;omega);rw[y_ cs o v r hl]at ad;exact⟨ad.1,((D_ [g] w).setCell (p:=(c_ g o)) (.inl s_) v).trans ad.2⟩
theorem Ad{w:World}{g:Nat}{t:TypeId}{cs:Array Value}(h:Bk w g t cs)(o n:Nat)(hn:o+n<=cs.size):w.there g o n:=λj hj=>
 ⟨by rw[h.f_ (o+j),D7 o_];rfl,h.hm _⟩
theorem ql(cs vs:Array Value)(h:vs.size=cs.size):ul cs 0 vs.toList=vs:=by
 unfold ul;have e:cs.toList.drop (0+vs.toList.length)=[]:=El p_;rw[e];simp
section
variable{P:Program}
theorem jq{a:Act}{w:World}(ty:TypeId)(x y:Operand)(ho:o.op=.store ty x y)(g off:Nat)(I:a.eval x=.pointer (some (c_ g off)))(vs:Array Value)(hy:a.eval y=.agg vs)(t:TypeId)(cs:Array Value)(hB:Bk w g t cs)(hs:off+vs.size<=cs.size)(hi:(P.info? ty).map (·.size)=some vs.size)(h1:vs.all (·.oneCell')=true)(h:∀w',Bk w' g t (ul cs off vs.toList)->Gr [g] w w'->K (a.put o.dst undef) w'):o.wp P a w K Q:=
 wp_store_mid ty x y ho g off vs I hy (Ad hB off vs.size hs) hi h1
  (h _ (pu vs.toList off w cs hB (by simpa using hs)).1 (pu vs.toList off w cs hB (by simpa using hs)).2)
theorem i0{rest:List Oper}{a:Act}{w:World}(ap:o.guard=none)(ty:TypeId)(x y:Operand)(ho:o.op=.store ty x y)(g off:Nat)(I:a.eval x=.pointer (some (c_ g off)))(vs:Array Value)(hy:a.eval y=.agg vs)(t:TypeId)(cs:Array Value)(hB:Bk w g t cs)(hs:off+vs.size<=cs.size)(hi:(P.info? ty).map (·.size)=some vs.size)(h1:vs.all (·.oneCell')=true)(h:∀w',Bk w' g t (ul cs off vs.toList)->Gr [g] w w'->wpList P ops Q rest (a.put o.dst undef) w'):wpList P ops Q (o::rest) a w:=
 wpList_plain ap λ_ H=>jq ty x y ho g off I vs hy t cs hB hs hi h1 λw' h2 h3=>H _ _ (h w' h2 h3)
theorem ox{a:Act}{w:World}(ty:TypeId)(x:Operand)(ho:o.op=.load ty x)(g off:Nat)(I:a.eval x=.pointer (some (c_ g off)))(t:TypeId)(cs vs:Array Value)(hB:Bk w g t cs)(hv:∀j,j<vs.size->cs[off+j]?=vs[j]?)(d:TypeDesc)(hu:P.underlying ty=some d)(hd:d.isRow=true)(hi:(P.info? ty).map (·.size)=some vs.size)(h:K (a.put o.dst (.agg vs)) w):o.wp P a w K Q:=by
 refine wp_load_mid ty x ho g off I vs.toList d (λj v hj=>?_) hu hd (by simpa using hi) (by simpa using h)
 have aj:j<vs.size:=by
  rcases D5 j vs.size with h|h
  .exact h
  .rw[Eh (by simpa using h)]at hj
   cases hj
 rw[hB.f_,hv j aj]
 simpa using hj
theorem ip{rest:List Oper}{a:Act}{w:World}(ap:o.guard=none)(ty:TypeId)(x:Operand)(ho:o.op=.load ty x)(g off:Nat)(I:a.eval x=.pointer (some (c_ g off)))(t:TypeId)(cs vs:Array Value)(hB:Bk w g t cs)(hv:∀j,j<vs.size->cs[off+j]?=vs[j]?)(d:TypeDesc)(hu:P.underlying ty=some d)(hd:d.isRow=true)(hi:(P.info? ty).map (·.size)=some vs.size)(h:wpList P ops Q rest (a.put o.dst (.agg vs)) w):wpList P ops Q (o::rest) a w:=
 wpList_plain ap λ_ H=>ox ty x ho g off I t cs vs hB hv d hu hd hi (H _ _ h)
theorem rH{rest:List Oper}{a:Act}{w:World}(ap:o.guard=none)(ty:TypeId)(x:Operand)(ho:o.op=.load ty x)(g:Nat)(I:a.eval x=q_ g)(t:TypeId)(cs:Array Value)(hB:Bk w g t cs)(d:TypeDesc)(hu:P.underlying ty=some d)(hd:d.isRow=true)(hi:(P.info? ty).map (·.size)=some cs.size)(h:wpList P ops Q rest (a.put o.dst (.agg cs)) w):wpList P ops Q (o::rest) a w:=
 ip ap ty x ho g 0 I t cs cs hB (λj _=>by rw[U_]) d hu hd hi h
end
section
variable{P:Program}
theorem li{rest:List Oper}{a:Act}{w:World}(ap:o.guard=none)(ty:TypeId)(x y:Operand)(ho:o.op=.store ty x y)(g:Nat)(I:a.eval x=q_ g)(vs:Array Value)(hy:a.eval y=.agg vs)(t:TypeId)(cs:Array Value)(hB:Bk w g t cs)(hs:vs.size=cs.size)(hi:(P.info? ty).map (·.size)=some vs.size)(h1:vs.all (·.oneCell')=true)(h:∀w',Bk w' g t vs->Gr [g] w w'->wpList P ops Q rest (a.put o.dst undef) w'):wpList P ops Q (o::rest) a w:=
 i0 ap ty x y ho g 0 I vs hy t cs hB o_ hi h1 λw' h2 h3=>h w' (by rw[ql cs vs hs]at h2;exact h2) h3
end
theorem kJ{P:Program}{rest:List Oper}{a:Act}{w:World}{x:Operand}{g:Nat}{t:TypeId}{cs:Array Value}{d:TypeDesc}(hB:Bk w g t cs)(hu:P.underlying ty=some d)(h:wpList P ops Q rest (a.put o.dst (.agg cs)) w)(ap:o.guard=none:=by rfl)(ho:o.op=.load ty x:=by rfl)(I:a.eval x=q_ g:=by rfl)(hd:d.isRow=true:=by rfl)(hi:(P.info? ty).map (·.size)=some cs.size:=by kernel_rfl):wpList P ops Q (o::rest) a w:=rH ap ty x ho g I t cs hB d hu hd hi h
theorem kG{P:Program}{rest:List Oper}{a:Act}{w:World}{x y:Operand}{g:Nat}{t:TypeId}{cs:Array Value}(hB:Bk w g t cs)(h1:vs.all (·.oneCell')=true)(h:∀w',Bk w' g t vs->Gr [g] w w'->wpList P ops Q rest (a.put o.dst undef) w')(ap:o.guard=none:=by rfl)(ho:o.op=.store ty x y:=by rfl)(I:a.eval x=q_ g:=by rfl)(hy:a.eval y=.agg vs:=by rfl)(hs:vs.size=cs.size:=by rfl)(hi:(P.info? ty).map (·.size)=some vs.size:=by kernel_rfl):wpList P ops Q (o::rest) a w:=li ap ty x y ho g I vs hy t cs hB hs hi h1 h
end Go.Proofs.YtenbhdilndfaeaaGreat
