import Derived.Test.YtenbhdilndfaeaaGreatR00
import Derived.BigQuiet
import Derived.Deep.AppendLies
import Derived.Deep.Draws
import Derived.Deep.MidRow
import Derived.Deep.RegionLaw
import Derived.Deep.RegionLawGrows
import Derived.Lib.Hide
import Derived.StillTailTactics
import Derived.WalkLawsBesides
import Derived.WalkSpells
set_option maxRecDepth 100000
set_option maxHeartbeats 0
set_option linter.all false
namespace Go.Proofs.YtenbhdilndfaeaaGreat
open Go.RowKit Go.Proofs.Tryz
variable{E G:Prop}{k s:Nat}{o:Oper}{d:List Nat}{v:Value}{α:Type}{q ty:TypeId}{K:Act->World->Prop}{Q:Exit->Act->World->Prop}{ops:Array Oper}(vs:Array Value)
def Iw(h:G:=by
 by_cases MM:m=0
 .subst MM;have hn:=Ga (zu hr.1);subst hn;exact⟨p,ax,w,by simpa using mi w base t ty e i size MO hi _ n xs ao A c,by simpa using ao,App.iW ao (World.grownBy.refl w _)⟩
 .obtain⟨d,rfl,j⟩:=hr.nR X
  have l:n+m<=maxLen:=by
   have:n+m<=(n+m)*bytes:=Hf _ L
   simp only[maxLen];omega
  obtain⟨v',w',MT,h2,h3,_⟩:=run_append_own (P:=P) w base t ty e i z size bytes MO hi hz C y D aB _ n xs ao d m c news hr.1 j h1 l f aL;have hf:∃A' c',v'=.slice A' (n+m) c':=KW;obtain⟨A',c',rfl⟩:=hf;exact⟨A',c',w',MT,h2,App.iW ao h3⟩):G:=h
def Le(h:G:=by
 rintro rfl;unfold Bk at hk;rw[hb]at hk;injection hk with hk;injection hk with _ MO _;exact au MO):G:=h
def kq{k:IntKind}{a b:Int}(h:a=b):Ending.returned (.int k a)=Ending.returned (.int k b):=by rw[h]
def qf{A:OA}{n n' c:Nat}(h:n=n'):Ending.returned (.slice A n c)=Ending.returned (.slice A n' c):=by rw[h]
def iw{a b:Bool}(h:a=b):Ending.returned (.bool a)=Ending.returned (.bool b):=by rw[h]
def oP(b o n:Nat):((Z b o):Addr).add n=(Z b (o+n)):=by unfold Addr.add;split<;>simp_all
structure J(M:List Nat)(a w:World):Prop where
 os:w.os=a.os
 tape:w.tape=a.tape
 output:w.output=a.output
 size:a.heap.size<=w.heap.size
 block:∀k,k<a.heap.size->k∉M->w.heap[k]?=a.heap[k]?
section
variable{M:List Nat}{a b w w':World}
def H(M:List Nat)(w:World):J M w w:=⟨rfl,rfl,rfl,H_ _,λ_ _ _=>rfl⟩
def J.trans(h:J M a b)(k:J M b w):J M a w:=
 ⟨k.os.trans h.os,k.tape.trans h.tape,k.output.trans h.output,G_ h.size k.size,λi f c=>(k.block i (GC f h.size) c).trans (h.block i f c)⟩
def J.mono(h:J M a w)(f:∀x∈M,x∈d):J d a w:=⟨h.os,h.tape,h.output,h.size,λc i j=>h.block c i λl=>j (f c l)⟩
def J.of_nil(h:J [] a w)(M:List Nat):J M a w:=h.mono s_
def J.hA(h:J M a b)(k:J d b w)(j:∀x∈d,x∈M∨a.heap.size<=x):J M a w:=
 ⟨k.os.trans h.os,k.tape.trans h.tape,k.output.trans h.output,G_ h.size k.size,λc i f=>
   (k.block c (GC i h.size) (λl=>by rcases j c l with e|e;exact f e;omega)).trans (h.block c i f)⟩
def J.drew(h:J M a w):J M a w.drew:=⟨h.os,h.tape,h.output,h.size,h.block⟩
def J.drewN(h:J M a w)(n:Nat):J M a (w.drewN n):=⟨h.os,h.tape,h.output,h.size,h.block⟩
def J.alloc(h:J M a w)(o:Obj):J M a (w.alloc o):=
 ⟨h.os,h.tape,h.output,by have:=h.size;simp;omega,λf c i=>(Below.heap_alloc w o f (GC c h.size)).trans (h.block f c i)⟩
def J.setCell(h:J M a w){p:Addr}(j:p.block∈M∨a.heap.size<=p.block)(u:Value):J M a (w.setCell p u):=
 ⟨h.os,h.tape,h.output,by have:=h.size;simpa[World.setCell]using this,λf i c=>
   (Below.heap_setCell w p u f (λe=>by subst e;rcases j with e|e;exact c e;omega)).trans (h.block f i c)⟩
def J.Bn(h:Below a.heap.size a w)(M:List Nat):J M a w:=⟨h.os,h.tape,h.output,h.size,λf c _=>h.block f c⟩
def J.v6(h:J [] a w):Below a.heap.size a w:=⟨h.os,h.tape,h.output,h.size,λf c=>h.block f c s_⟩
def J.grown(h:J M a w){row:Option Nat}(c:w.grownBy w' row)(m:∀k,row=some k->k∈M∨a.heap.size<=k):J M a w':=
 ⟨c.os.trans h.os,c.tape.trans h.tape,c.output.trans h.output,G_ h.size c.size,λf j i=>
   (c.block f (GC j h.size) (λe=>by rcases m f e.symm with l|l;exact i l;omega)).trans (h.block f j i)⟩
def J.v2{g:Nat}(h:J [g] a w):a.grownBy w (some g):=⟨h.os,h.tape,h.output,h.size,λi c f=>h.block i c (by simpa using λe=>f (by rw[e]))⟩
def J.uJ(h:J [] a w)(row:Option Nat):a.grownBy w row:=⟨h.os,h.tape,h.output,h.size,λf c _=>h.block f c s_⟩
def J.lt(h:J M a w){g:Nat}(c:g<a.heap.size):g<w.heap.size:=GC c h.size
end
def yN{w:World}{p:Addr}(h:w.cell? p=some v):p.block<w.heap.size:=World.block_lt_of_cell? w p h
def J.f_{M:List Nat}{a w:World}(h:J M a w){p:Addr}(c:a.cell? p=some v)(f:p.block∉M):w.cell? p=some v:=
 (World.cell?_of_block (h.block p.block (yN c) f)).trans c
def jw{w:World}{p:Addr}(c:w.cell? p=some v)(o:Obj):(w.alloc o).cell? p=some v:=((H [] w).alloc o).f_ c s_
def Bk(w:World)(g:Nat)(t:TypeId)(cs:Array Value):Prop:=w.heap[g]?=some (.cells cs t (0,0))
section
variable{M:List Nat}{a w w':World}{g:Nat}{t:TypeId}{cs:Array Value}
def Bk.lt(h:Bk w g t cs):g<w.heap.size:=by
 rcases FO g w.heap.size with c|f
 .exact c
 .unfold Bk at h;rw[FF f]at h
  cases h
def Bk.f_(h:Bk w g t cs)(i:Nat):w.cell? (Z g i)=cs[i]?:=cell_of_row w g i cs t (0,0) h
def Bk.iM{x y:Value}(h:Bk w g t #[x,y]):w.cell? (Z g 0)=some x/\w.cell? (Z g 1)=some y:=⟨h.f_ 0,h.f_ 1⟩
def Bk.nQ{x y c:Value}(h:Bk w g t #[x,y,c]):w.cell? (Z g 0)=some x/\w.cell? (Z g 1)=some y/\w.cell? (Z g 2)=some c:=⟨h.f_ 0,h.f_ 1,h.f_ 2⟩
def Bk.c5{x y c u:Value}(h:Bk w g t #[x,y,c,u,v]):w.cell? (Z g 0)=some x/\w.cell? (Z g 1)=some y/\w.cell? (Z g 2)=some c/\w.cell? (Z g 3)=some u/\w.cell? (Z g 4)=some v:=⟨h.f_ 0,h.f_ 1,h.f_ 2,h.f_ 3,h.f_ 4⟩
def Bk.hm(h:Bk w g t cs)(i:Nat):w.frozen? (Z g i)=false:=by
 unfold Bk at h;simp[World.frozen?,h]
def Q_(w:World)(t:TypeId)(cs:Array Value):Bk (w.alloc (.cells cs t)) w.heap.size t cs:=HN w _
def Bk.drew(h:Bk w g t cs):Bk w.drew g t cs:=h
def Bk.drewN(h:Bk w g t cs)(n:Nat):Bk (w.drewN n) g t cs:=h
def Bk.alloc(h:Bk w g t cs)(o:Obj):Bk (w.alloc o) g t cs:=(Below.heap_alloc w o g h.lt).trans h
def Bk.hN(h:Bk w g t cs)(i:Nat)(u:Value):Bk (w.setCell (Z g i) u) g t (cs.setIfInBounds i u):=by
 unfold Bk at h |-;simp[World.setCell,Array.getElem?_modify,h]
def Bk.ib(h:Bk w g t cs){p:Addr}(c:g≠p.block)(u:Value):Bk (w.setCell p u) g t cs:=(Below.heap_setCell w p u g c).trans h
def Bk.gr(h:Bk w g t cs)(c:J M w w')(f:g∉M):Bk w' g t cs:=(c.block g h.lt f).trans h
def Bk.me{d:Nat}{t':TypeId}{c:Array Value}(h:Bk w g t cs)(o:Bk w d t' c)(i:t≠t'):g≠d:=by
 rintro rfl;unfold Bk at h o;rw[h]at o;injection o with o;injection o with _ f;exact i f
end
def Sl(w:World)(e:TypeId)(size:Nat)(A:OA)(n:Nat)(xs:List Value):Prop:=
 xs.length=n*size/\(0<n->∃b off cs fz,A=some (Z b off)/\w.heap[b]?=some (.cells cs e fz)/\∀j u,xs[j]?=some u->cs[off+j]?=some u)
section
variable{M:List Nat}{w w':World}{e:TypeId}{size:Nat}{A:OA}{n:Nat}{xs:List Value}
def Gz(w:World)(e:TypeId)(size:Nat)(A:OA):Sl w e size A 0 []:=⟨by simp,λc=>U_ c X⟩
def Sl.drew(h:Sl w e size A n xs):Sl w.drew e size A n xs:=h
def Sl.drewN(h:Sl w e size A n xs)(k:Nat):Sl (w.drewN k) e size A n xs:=h
def Sl.iy(h:Sl w e size A n xs)(l:∀b c,A=some (Z b c)->b<w.heap.size->w'.heap[b]?=w.heap[b]?):Sl w' e size A n xs:=
 ⟨h.1,λm=>by
   obtain⟨b,c,cs,i,f,hb,j⟩:=h.2 m;have aj:b<w.heap.size:=LP
   exact⟨b,c,cs,i,f,(l b c f aj).trans hb,j⟩⟩
def Sl.g_(h:Sl w e size A n xs)(f:J [] w w'):Sl w' e size A n xs:=h.iy λb _ _ c=>f.block b c s_
def Sl.alloc(h:Sl w e size A n xs)(o:Obj):Sl (w.alloc o) e size A n xs:=h.g_ ((H [] w).alloc o)
def Sl.ir(h:Sl w e size A n xs){g:Nat}{t:TypeId}{cs:Array Value}(hk:Bk w g t cs)(au:e≠t)(m:J [g] w w'):Sl w' e size A n xs:=
 ⟨h.1,λp=>by
   obtain⟨b,r,f,i,c,hb,l⟩:=h.2 p;have j:b≠g:=Le;have aj:b<w.heap.size:=LP
   exact⟨b,r,f,i,c,(m.block b aj (zu j)).trans hb,l⟩⟩
def Sl.f_(h:Sl w e size A n xs)(p:0<n):∃b f,A=some (Z b f)/\∀c u,xs[c]?=some u->w.cell? (Z b (f+c))=some u:=by
 obtain⟨b,f,cs,j,i,l,m⟩:=h.2 p;exact⟨b,f,i,λc u r=>by rw[cell_of_row w b _ cs e j l];exact m c u r⟩
def Sl.Bq(h:Sl w e size A n xs){g:Nat}{t:TypeId}{cs:Array Value}(hk:Bk w g t cs)(au:e≠t){b j:Nat}(f:A=some (Z b j))(i:0<n):b≠g:=by
 obtain⟨l,K,m,p,c,hb,_⟩:=h.2 i;rw[f]at c;injection c with c;injection c with c _;subst c;exact Le
def Sl.nR(h:Sl w e size A n xs)(j:0<n):∃d,A=some d/\∀c u,xs[c]?=some u->w.cell? (d.add c)=some u:=by
 obtain⟨b,m,f,i⟩:=h.f_ j;exact⟨_,f,λc u l=>by rw[oP];exact i c u l⟩
def Sl.iQ{base p:Nat}(h:w.ownsRow base e size (.slice A n p) n xs):Sl w e size A n xs:=by
 refine⟨h.1,λx=>?_⟩
 rcases h.2 with⟨f,u⟩|⟨g,r,l,f,_,m,_,_,_,i⟩
 .omega
 .injection f with j _ _;refine⟨g,0,l,(0,0),j,m,λy z c=>?_⟩;rw[<-i,Gv]at c;split at c
  .simpa using c
  .cases c
end
def iR{α:Type}(p:α->Bool):List α->Nat->Int
 |[],_=> -1
 |x::l,k=>if p x then(k:Int) else iR p l (k+1)
def mL(p:α->Bool)(l:List α)(k c:Nat)(h:c<l.length)(f:p l[c]=true):iR p (l.drop c) k=k:=by
 rw[Y_ h];simp[iR,f]
def k6(p:α->Bool)(l:List α)(k c:Nat)(h:c<l.length)(f:p l[c]=false):iR p (l.drop c) k=iR p (l.drop (c+1)) (k+1):=by
 rw[Y_ h];simp[iR,f]
def nN(p:α->Bool)(l:List α)(k c:Nat)(h:l.length<=c):iR p (l.drop c) k= -1:=by
 rw[F3 h]
 rfl
def nA(p:α->Bool)(l:List α)(k:Nat): -1<=iR p l k/\iR p l k<(k+l.length:Nat):=by
 induction l generalizing k with
 |nil=>simp[iR];omega
 |cons f l c=>simp only[iR,FJ];have:=c (k+1);split<;>omega
def qA(p:α->Bool)(l:List α)(k:Nat):0<=iR p l k↔∃x∈l,p x=true:=by
 induction l generalizing k with
 |nil=>simp[iR]
 |cons x l c=>simp only[iR];split<;>rename_i f<;>simp[f,c]
def Sl.at_{w:World}{e:TypeId}{A:OA}{n:Nat}{xs:List Value}(h:Sl w e 1 A n xs)(l:k<n):∃b c u,A=some (Z b c)/\xs[k]?=some u/\w.cell? (Z b (c+k))=some u:=by
 obtain⟨b,c,i,j⟩:=h.f_ X;have f:k<xs.length:=ov h.1;exact⟨b,c,xs[k],i,L_ f,j k _ (L_ f)⟩
def iF{w w':World}{base:Nat}{e:TypeId}{size:Nat}{n:Nat}{xs:List Value}(h:w.ownsRow base e size v n xs)(c:J [] w w'):w'.ownsRow base e size v n xs:=
 h.kept (c.uJ none) (by cases v.ownBlock<;>simp)
def kQ{w w':World}{base:Nat}{e:TypeId}{size:Nat}{n:Nat}{xs:List Value}{g:Nat}{t:TypeId}{cs:Array Value}(h:w.ownsRow base e size v n xs)(l:Bk w g t cs)(c:e≠t)(i:J [g] w w'):w'.ownsRow base e size v n xs:=by
 refine h.kept i.v2 ?_
 rcases h.2 with⟨rfl,_⟩|⟨d,p,m,rfl,_,j,_⟩
 .exact .inl rfl
 .right;intro f
  have:d=g:=by simpa[Value.ownBlock]using f
  subst this;exact(Bk.me (t:=e) j l c) rfl
def zA(w:World)(base:Nat)(e:TypeId)(size g:Nat)(f:w.heap.size=g)(c:base<=g):(w.alloc (.cells #[] e)).ownsRow base e size (.slice (j_ g) 0 0) 0 []:=by
 subst f;exact World.ownsRow_lit w #[] 0 c (by simp[maxLen]) s_
def iY(w:World)(base:Nat)(e:TypeId)(size:Nat):w.ownsRow base e size (n_) 0 []:=World.ownsRow_nil w base e size
def oE{w:World}{base d:Nat}{e:TypeId}{size:Nat}{n:Nat}{xs:List Value}(h:w.ownsRow base e size v n xs)(m:d<=base):w.ownsRow d e size v n xs:=by
 refine⟨h.1,?_⟩
 rcases h.2 with h|⟨g,j,c,f,l,i⟩
 .exact .inl h
 .exact .inr ⟨g,j,c,f,X,i⟩
structure App(base:Nat)(e:TypeId)(w w':World):Prop where
 gr:∀(M:List Nat) (a:World),a.heap.size<=base->J M a w->J M a w'
 iy:∀(k:Nat) (o:Obj),w.heap[k]?=some o->(k<base∨∀cs fz,o≠ .cells cs e fz)->w'.heap[k]?=some o
 size:w.heap.size<=w'.heap.size
def App.iW{base:Nat}{e:TypeId}{size:Nat}{w w':World}{n:Nat}{xs:List Value}(h:w.ownsRow base e size v n xs)(l:w.grownBy w' v.ownBlock):App base e w w':=by
 refine⟨λM a p u=>u.grown l λk f=>.inr (G_ p (h.lt k f).1),λk o c f=>?_,l.size⟩
 have i:k<w.heap.size:=by
  rcases FO k w.heap.size with i|m
  .exact i
  .rw[FF m]at c
   cases c
 refine(l.block k i ?_).trans c;intro j
 rcases f with f|f
 .have:=(h.lt k j.symm).1
  omega
 .rcases h.2 with⟨rfl,_⟩|⟨g,y,x,rfl,_,r,_⟩
  .simp[Value.ownBlock]at j
  .have:k=g:=by simpa[Value.ownBlock]using j
   subst this;rw[r]at c;injection c with c;exact f _ _ c.symm
def App.bk{base:Nat}{e t:TypeId}{w w':World}{g:Nat}{cs:Array Value}(h:App base e w w')(f:Bk w g t cs)(c:t≠e):Bk w' g t cs:=
 h.iy g _ f (.inr λj l i=>c (by injection i))
def App.sl{base:Nat}{e:TypeId}{size:Nat}{w w':World}{A:OA}{n:Nat}{xs:List Value}(h:App base e w w')(c:Sl w q size A n xs)(i:q≠e):Sl w' q size A n xs:=
 ⟨c.1,λr=>by
   obtain⟨b,u,cs,j,f,l,m⟩:=c.2 r
   exact⟨b,u,cs,j,f,h.iy b _ l (.inr λx y p=>i (by injection p)),m⟩⟩
def App.own{base d:Nat}{e:TypeId}{size:Nat}{w w':World}{n:Nat}{xs:List Value}(h:App base e w w')(c:w.ownsRow d q size v n xs)(i:q≠e):w'.ownsRow d q size v n xs:=by
 refine⟨c.1,?_⟩
 rcases c.2 with u|⟨g,x,j,l,m,p,f⟩
 .exact .inl u
 .exact .inr ⟨g,x,j,l,m,h.iy g _ p (.inr λy z r=>i (by injection r)),f⟩
section
variable{P:Program}(w:World)
def mi(base:Nat)(t ty e:TypeId)(i:TypeInfo)(size:Nat)(f:P.underlying t=some (.slice e))(h:P.info? e=some i)
 (v:Value) (n:Nat) (xs:List Value) (j:w.ownsRow base e size v n xs) (A:OA) (c:Nat):(Builtin.append_ #[t,t] ty #[v,.slice A 0 c]).run P w=.ok v w:=by
 rcases j.2 with⟨rfl,rfl⟩|⟨g,p,m,rfl,_,_,l,_⟩
 .cases A<;>simp[Builtin.append_,Gq f,sizeOf,typeInfo,h,Builtin.lenOf,Builtin.firstCells,loadCells,loadCellsFrom]
 .cases A<;>simp[Builtin.append_,Gq f,sizeOf,typeInfo,h,Builtin.lenOf,Builtin.firstCells,l,storeCells,loadCells,loadCellsFrom]
def Ci(base:Nat)(t ty e:TypeId)(i:TypeInfo)(z:Value)(size bytes:Nat)(MO:P.underlying t=some (.slice e))(hi:P.info? e=some i)(hz:i.zero=some z)
 (C:i.size=size) (y:i.bytes=bytes) (D:z.cells.size=size) (aB:0<size)
 (p:OA) (ax n:Nat) (xs:List Value) (ao:w.ownsRow base e size (.slice p n ax) n xs)
 (A:OA) (m c:Nat) (news:List Value) (hr:Sl w e size A m news) (h1:∀u∈news,u.oneCell'=true)
 (f:(n+m)*bytes<=140737488355328) (L:0<bytes) (aL:base<=w.heap.size):
 ∃A' c' w',(Builtin.append_ #[t,t] ty #[.slice p n ax,.slice A m c]).run P w=.ok (.slice A' (n+m) c') w'/\w'.ownsRow base e size (.slice A' (n+m) c') (n+m) (xs++news)/\App base e w w':=by
 exact Iw
def Ao{a:Act}(s x:Operand)(t:TypeId)(ho:o.op=.call {callee:=.builtin .append,args:=#[s,x],argTypes:=#[t,t]})(base:Nat)(e:TypeId)(i:TypeInfo)(r:Value)(size bytes:Nat)(B:P.underlying t=some (.slice e))(J:P.info? e=some i)(O:i.zero=some r)(C:i.size=size)(y:i.bytes=bytes)(z:r.cells.size=size)(D:0<size)(L:0<bytes)(p:OA)(n m:Nat)(xs:List Value)(hs:a.eval s=.slice p n m)(H:w.ownsRow base e size (.slice p n m) n xs)(A:OA)(j c:Nat)(l:List Value)(hx:a.eval x=.slice A j c)(N:Sl w e size A j l)(I:∀u∈l,u.oneCell'=true)(f:(n+j)*bytes<=140737488355328)(F:base<=w.heap.size)(h:∀(A':OA) (c':Nat) (w':World),w'.ownsRow base e size (.slice A' (n+j) c') (n+j) (xs++l)->App base e w w'->K (a.put o.dst (.slice A' (n+j) c')) w'):o.wp P a w K Q:=by
 obtain⟨A',c',w',MT,h2,h3⟩:=Ci (P:=P) w base t o.type e i r size bytes B J O C y z D p m n xs H A j c l N I f L F;exact Kn
def xv{rest:List Oper}{a:Act}(J:o.guard=none)(s x:Operand)(t:TypeId)(T:o.op=.call {callee:=.builtin .append,args:=#[s,x],argTypes:=#[t,t]})(base:Nat)(e:TypeId)(i:TypeInfo)(r:Value)(size bytes:Nat)(B:P.underlying t=some (.slice e))(S:P.info? e=some i)(X:i.zero=some r)(C:i.size=size)(y:i.bytes=bytes)(z:r.cells.size=size)(F:0<size)(L:0<bytes)(p:OA)(n m:Nat)(xs:List Value)(V:a.eval s=.slice p n m)(I:w.ownsRow base e size (.slice p n m) n xs)(A:OA)(j c:Nat)(l:List Value)(W:a.eval x=.slice A j c)(U:Sl w e size A j l)(N:∀u∈l,u.oneCell'=true)(f:(n+j)*bytes<=140737488355328)(H:base<=w.heap.size)(h:∀(A':OA) (c':Nat) (w':World),w'.ownsRow base e size (.slice A' (n+j) c') (n+j) (xs++l)->App base e w w'->wpList P ops Q rest (a.put o.dst (.slice A' (n+j) c')) w'):wpList P ops Q (o::rest) a w:=
 wpList_plain J λ_ D=>Ao w s x t T base e i r size bytes B S X C y z F L p n m xs V I A j c l W U N f H λA' c' w' O R=>D _ _ (h A' c' w' O R)
end
section
variable{P:Program}(w:World)
end
def Sl.new(w:World)(e:TypeId)(size:Nat)(cs:Array Value)(n g:Nat)(c:w.heap.size=g)(f:cs.size=n*size):Sl (w.alloc (.cells cs e)) e size (j_ g) n cs.toList:=by
 subst c;exact⟨by simpa using f,λ_=>⟨_,_,cs,(0,0),rfl,HN w _,λi j h=>by simpa using h⟩⟩
def EI(w:World)(f:TypeId)(c:Array Value):Bk (w.alloc (.cells c f)) (w.heap.size) f c/\J [] w (w.alloc (.cells c f)):=⟨(Q_ w f c),((H [] w).alloc _)⟩
def qL(w:World)(f:TypeId)(c:Array Value)(i:TypeId)(h:Array Value):Bk ((w.alloc (.cells c f)).alloc (.cells h i)) (w.heap.size) f c/\Bk ((w.alloc (.cells c f)).alloc (.cells h i)) (w.heap.size+1) i h/\J [] w ((w.alloc (.cells c f)).alloc (.cells h i)):=⟨((Q_ w f c).alloc _),(zu (Q_ (w.alloc (.cells c f)) i h)),(((H [] w).alloc _).alloc _)⟩
def xj(w:World)(f:TypeId)(c:Array Value)(i:TypeId)(h:Array Value)(j:TypeId)(l:Array Value):Bk (((w.alloc (.cells c f)).alloc (.cells h i)).alloc (.cells l j)) (w.heap.size) f c/\Bk (((w.alloc (.cells c f)).alloc (.cells h i)).alloc (.cells l j)) (w.heap.size+1) i h/\Bk (((w.alloc (.cells c f)).alloc (.cells h i)).alloc (.cells l j)) (w.heap.size+1+1) j l/\J [] w (((w.alloc (.cells c f)).alloc (.cells h i)).alloc (.cells l j)):=⟨(((Q_ w f c).alloc _).alloc _),(zu ((Q_ (w.alloc (.cells c f)) i h).alloc _)),(zu (Q_ ((w.alloc (.cells c f)).alloc (.cells h i)) j l)),((((H [] w).alloc _).alloc _).alloc _)⟩
def C6(w:World)(f:TypeId)(c:Array Value)(i:TypeId)(h:Array Value)(j:TypeId)(l:Array Value)(p:TypeId)(m:Array Value):Bk ((((w.alloc (.cells c f)).alloc (.cells h i)).alloc (.cells l j)).alloc (.cells m p)) (w.heap.size) f c/\Bk ((((w.alloc (.cells c f)).alloc (.cells h i)).alloc (.cells l j)).alloc (.cells m p)) (w.heap.size+1) i h/\Bk ((((w.alloc (.cells c f)).alloc (.cells h i)).alloc (.cells l j)).alloc (.cells m p)) (w.heap.size+1+1) j l/\Bk ((((w.alloc (.cells c f)).alloc (.cells h i)).alloc (.cells l j)).alloc (.cells m p)) (w.heap.size+1+1+1) p m/\J [] w ((((w.alloc (.cells c f)).alloc (.cells h i)).alloc (.cells l j)).alloc (.cells m p)):=⟨((((Q_ w f c).alloc _).alloc _).alloc _),(zu (((Q_ (w.alloc (.cells c f)) i h).alloc _).alloc _)),(zu ((Q_ ((w.alloc (.cells c f)).alloc (.cells h i)) j l).alloc _)),(zu (Q_ (((w.alloc (.cells c f)).alloc (.cells h i)).alloc (.cells l j)) p m)),(((((H [] w).alloc _).alloc _).alloc _).alloc _)⟩
def Fj(w:World)(f:TypeId)(c:Array Value)(i:TypeId)(h:Array Value)(j:TypeId)(l:Array Value)(p:TypeId)(m:Array Value)(u:TypeId)(r:Array Value):Bk (((((w.alloc (.cells c f)).alloc (.cells h i)).alloc (.cells l j)).alloc (.cells m p)).alloc (.cells r u)) (w.heap.size) f c/\Bk (((((w.alloc (.cells c f)).alloc (.cells h i)).alloc (.cells l j)).alloc (.cells m p)).alloc (.cells r u)) (w.heap.size+1) i h/\Bk (((((w.alloc (.cells c f)).alloc (.cells h i)).alloc (.cells l j)).alloc (.cells m p)).alloc (.cells r u)) (w.heap.size+1+1) j l/\Bk (((((w.alloc (.cells c f)).alloc (.cells h i)).alloc (.cells l j)).alloc (.cells m p)).alloc (.cells r u)) (w.heap.size+1+1+1) p m/\Bk (((((w.alloc (.cells c f)).alloc (.cells h i)).alloc (.cells l j)).alloc (.cells m p)).alloc (.cells r u)) (w.heap.size+1+1+1+1) u r/\J [] w (((((w.alloc (.cells c f)).alloc (.cells h i)).alloc (.cells l j)).alloc (.cells m p)).alloc (.cells r u)):=⟨(((((Q_ w f c).alloc _).alloc _).alloc _).alloc _),(zu ((((Q_ (w.alloc (.cells c f)) i h).alloc _).alloc _).alloc _)),(zu (((Q_ ((w.alloc (.cells c f)).alloc (.cells h i)) j l).alloc _).alloc _)),(zu ((Q_ (((w.alloc (.cells c f)).alloc (.cells h i)).alloc (.cells l j)) p m).alloc _)),(zu (Q_ ((((w.alloc (.cells c f)).alloc (.cells h i)).alloc (.cells l j)).alloc (.cells m p)) u r)),((((((H [] w).alloc _).alloc _).alloc _).alloc _).alloc _)⟩
def pG{P:Program}{w:World}{a:Act}(J:o.guard=none)(s x:Operand)(t:TypeId)(R:o.op=.call {callee:=.builtin .append,args:=#[s,x],argTypes:=#[t,t]})(base:Nat)(e:TypeId)(i:TypeInfo){r:Value}(size bytes:Nat)(B:P.underlying t=some (.slice e))(O:P.info? e=some i)(V:i.zero=some r)(C:i.size=size)(y:i.bytes=bytes)(z:r.cells.size=size)(D:0<size)(L:0<bytes)(p:OA)(n m:Nat)(xs:List Value)(T:a.eval s=.slice p n m)(I:w.ownsRow base e size (.slice p n m) n xs)(A:OA)(j c:Nat){l:List Value}(U:a.eval x=.slice A j c)(S:Sl w e size A j l)(N:∀u∈l,u.oneCell'=true)(f:(n+j)*bytes<=140737488355328)(H:base<=w.heap.size)(h:∀(A':OA) (c':Nat) (w':World),w'.ownsRow base e size (.slice A' (n+j) c') (n+j) (xs++l)->App base e w w'->K (a.put o.dst (.slice A' (n+j) c')) w'):
 if Region.wanted o (yielded ops a.tmps)=true then Oper.wp P o a w K Q else E:=by
 have F:Region.wanted o (yielded ops a.tmps)=true:=by simp[Region.wanted,J]
 rw[O_ F];exact Ao w s x t R base e i r size bytes B O V C y z D L p n m xs T I A j c l U S N f H h
def mK{w:World}{o:Obj}(c:w.heap[k]?=some o):k<w.heap.size:=by
 rcases FO k w.heap.size with f|h
 .exact f
 .rw[FF h]at c
  cases c
structure Lk(base:Nat)(e:TypeId)(w w':World):Prop where
 gr:∀(M:List Nat) (a:World),a.heap.size<=base->J M a w->J M a w'
 Dh:∀(k:Nat) (cs:Array Value) (fz:Nat × Nat),w.heap[k]?=some (.cells cs e fz)->w'.heap[k]?=some (.cells cs e fz)
 size:w.heap.size<=w'.heap.size
section
variable{base:Nat}{e:TypeId}{w w1 w2:World}
def Lk.refl(base:Nat)(e:TypeId)(w:World):Lk base e w w:=⟨λ_ _ _ c=>c,λ_ _ _ c=>c,H_ _⟩
def Lk.trans(h:Lk base e w w1)(k:Lk base e w1 w2):Lk base e w w2:=⟨λM a f j=>k.gr M a f (h.gr M a f j),λi cs c l=>k.Dh i cs c (h.Dh i cs c l),G_ h.size k.size⟩
def Lk.wz(h:J [] w w1):Lk base e w w1:=⟨λM a _ f=>f.trans (h.of_nil M),λ_ _ _ c=>(h.block _ (mK c) s_).trans c,h.size⟩
def Lk.drew(base:Nat)(e:TypeId)(w:World):Lk base e w w.drew:=Lk.wz (H [] w).drew
def Lk.sl{size:Nat}{A:OA}{n:Nat}{xs:List Value}(h:Lk base e w w1)(f:Sl w e size A n xs):Sl w1 e size A n xs:=
 ⟨f.1,λm=>by
   obtain⟨b,p,cs,c,i,j,l⟩:=f.2 m
   exact⟨b,p,cs,c,i,h.Dh b cs c j,l⟩⟩
end
section
variable{P:Program}(w:World)
def AV(base:Nat)(t ty e:TypeId)(i:TypeInfo)(z:Value)(size bytes:Nat)(MO:P.underlying t=some (.slice e))(hi:P.info? e=some i)(hz:i.zero=some z)(C:i.size=size)(y:i.bytes=bytes)(D:z.cells.size=size)(aB:0<size)(p:OA)(ax n:Nat)(xs:List Value)(ao:w.ownsRow base e size (.slice p n ax) n xs)(A:OA)(m c:Nat)(news:List Value)(hr:Sl w q size A m news)(h1:∀u∈news,u.oneCell'=true)(f:(n+m)*bytes<=140737488355328)(L:0<bytes)(aL:base<=w.heap.size):
 ∃A' c' w',(Builtin.append_ #[t,t] ty #[.slice p n ax,.slice A m c]).run P w=.ok (.slice A' (n+m) c') w'/\w'.ownsRow base e size (.slice A' (n+m) c') (n+m) (xs++news)/\App base e w w':=by
 exact Iw
def yt{a:Act}(s x:Operand)(t:TypeId)(ho:o.op=.call {callee:=.builtin .append,args:=#[s,x],argTypes:=#[t,t]})(base:Nat)(e:TypeId)(i:TypeInfo)(r:Value)(size bytes:Nat)(B:P.underlying t=some (.slice e))(J:P.info? e=some i)(O:i.zero=some r)(C:i.size=size)(y:i.bytes=bytes)(z:r.cells.size=size)(D:0<size)(L:0<bytes)(p:OA)(n m:Nat)(xs:List Value)(hs:a.eval s=.slice p n m)(H:w.ownsRow base e size (.slice p n m) n xs)(A:OA)(j c:Nat)(l:List Value)(hx:a.eval x=.slice A j c)(N:Sl w q size A j l)(I:∀u∈l,u.oneCell'=true)(f:(n+j)*bytes<=140737488355328)(F:base<=w.heap.size)(h:∀(A':OA) (c':Nat) (w':World),w'.ownsRow base e size (.slice A' (n+j) c') (n+j) (xs++l)->App base e w w'->K (a.put o.dst (.slice A' (n+j) c')) w'):o.wp P a w K Q:=by
 obtain⟨A',c',w',MT,h2,h3⟩:=AV (P:=P) w base t o.type e i r size bytes B J O C y z D p m n xs H A j c l N I f L F;exact Kn
def iJ{rest:List Oper}{a:Act}(J:o.guard=none)(s x:Operand)(t:TypeId)(T:o.op=.call {callee:=.builtin .append,args:=#[s,x],argTypes:=#[t,t]})(base:Nat)(e:TypeId)(i:TypeInfo)(r:Value)(size bytes:Nat)(B:P.underlying t=some (.slice e))(S:P.info? e=some i)(X:i.zero=some r)(C:i.size=size)(y:i.bytes=bytes)(z:r.cells.size=size)(F:0<size)(L:0<bytes)(p:OA)(n m:Nat)(xs:List Value)(V:a.eval s=.slice p n m)(I:w.ownsRow base e size (.slice p n m) n xs)(A:OA)(j c:Nat)(l:List Value)(W:a.eval x=.slice A j c)(U:Sl w q size A j l)(N:∀u∈l,u.oneCell'=true)(f:(n+j)*bytes<=140737488355328)(H:base<=w.heap.size)(h:∀(A':OA) (c':Nat) (w':World),w'.ownsRow base e size (.slice A' (n+j) c') (n+j) (xs++l)->App base e w w'->wpList P ops Q rest (a.put o.dst (.slice A' (n+j) c')) w'):wpList P ops Q (o::rest) a w:=
 wpList_plain J λ_ D=>yt w s x t T base e i r size bytes B S X C y z F L p n m xs V I A j c l W U N f H λA' c' w' O R=>D _ _ (h A' c' w' O R)
end
def qd{P:Program}{w:World}{a:Act}(J:o.guard=none)(s x:Operand)(t:TypeId)(R:o.op=.call {callee:=.builtin .append,args:=#[s,x],argTypes:=#[t,t]})(base:Nat)(e:TypeId)(i:TypeInfo)(r:Value)(size bytes:Nat)(B:P.underlying t=some (.slice e))(O:P.info? e=some i)(V:i.zero=some r)(C:i.size=size)(y:i.bytes=bytes)(z:r.cells.size=size)(D:0<size)(L:0<bytes)(p:OA)(n m:Nat)(xs:List Value)(T:a.eval s=.slice p n m)(I:w.ownsRow base e size (.slice p n m) n xs)(A:OA)(j c:Nat)(l:List Value)(U:a.eval x=.slice A j c)(S:Sl w q size A j l)(N:∀u∈l,u.oneCell'=true)(f:(n+j)*bytes<=140737488355328)(H:base<=w.heap.size)(h:∀(A':OA) (c':Nat) (w':World),w'.ownsRow base e size (.slice A' (n+j) c') (n+j) (xs++l)->App base e w w'->K (a.put o.dst (.slice A' (n+j) c')) w'):
 if Region.wanted o (yielded ops a.tmps)=true then Oper.wp P o a w K Q else E:=by
 have F:Region.wanted o (yielded ops a.tmps)=true:=by simp[Region.wanted,J]
 rw[O_ F];exact yt w s x t R base e i r size bytes B O V C y z D L p n m xs T I A j c l U S N f H h
def info_parts{P:Program}{t:TypeId}{f:Value}{b:Nat}(h:(P.info? t).map (λi=>(i.zero,i.size,i.bytes))=some (some f,s,b)):∃i,P.info? t=some i/\i.zero=some f/\i.size=s/\i.bytes=b:=by
 cases c:P.info? t with
 |none=>rw[c]at h;simp at h
 |some i=>rw[c]at h;simp at h;exact⟨i,rfl,h.1,h.2.1,h.2.2⟩
def Du{w:World}{base d:Nat}{e:TypeId}{size:Nat}{n:Nat}{xs:List Value}(h:w.ownsRow d e size v n xs)(m:base<=d):w.ownsRow base e size v n xs:=by
 refine⟨h.1,?_⟩
 rcases h.2 with f|⟨g,p,c,i,j,l⟩
 .exact .inl f
 .exact .inr ⟨g,p,c,i,G_ m j,l⟩
def Bk.g_{w w':World}{g:Nat}{t:TypeId}{cs:Array Value}(h:Bk w g t cs)(c:J [] w w'):Bk w' g t cs:=h.gr c s_
def CP{W w1:World}{t:TypeId}{cs:Array Value}{p:Nat}(c:J [] (W.alloc (.cells cs t)) w1)(f:W.heap.size=p):Bk w1 p t cs:=by
 subst f;exact(Q_ W t cs).gr c s_
def jk{w:World}{base:Nat}{e:TypeId}{size:Nat}{A:OA}{n c:Nat}{xs:List Value}(h:w.ownsRow base e size (.slice A n c) n xs):n<=c:=by
 rcases h.2 with⟨f,j⟩|⟨g,m,i,f,_,_,l,_⟩
 .omega
 .injection f with _ _ f;omega
def J.own{M:List Nat}{a w w':World}{g n c:Nat}(h:J M a w)(f:w.grownBy w' (Value.slice (j_ g) n c).ownBlock)(j:g∈M∨a.heap.size<=g):J M a w':=
 h.grown f (λk i=>by
  have:g=k:=by simpa[Value.ownBlock]using i
  subst this
  exact j)
def Bk.own{w w':World}{g n c:Nat}{t:TypeId}{cs:Array Value}(h:Bk w k t cs)(i:w.grownBy w' (Value.slice (j_ g) n c).ownBlock)(f:k≠g):Bk w' k t cs:=
 (i.block k h.lt (by simpa[Value.ownBlock]using f)).trans h
def kk(f:α->List Value)(s:Nat)(h:∀a,(f a).length=s)(l:List α):(l.flatMap f).length=l.length*s:=by
 induction l with
 |nil=>simp
 |cons i l c=>simp only[Gj,K_,h,c,FJ,G5,HR];omega
def jg(f:α->List Value)(s:Nat)(h:∀a,(f a).length=s)(l:List α)(k c:Nat)(i:k<l.length)(m:c<s):(l.flatMap f)[k*s+c]?=(f l[k])[c]?:=by
 induction l generalizing k with
 |nil=>simp at i
 |cons p l j=>
  cases k with
  |zero=>simp only[Gj,Ht,W_,GD];rw[Hc (by rw[h];exact m)]
  |succ k=>
   simp only[Gj,Hk]
   have e:(k+1)*s+c=s+(k*s+c):=by rw[G5,HR];omega
   rw[e,GN (by rw[h];omega),h,Nat.add_sub_cancel_left];exact j k (zu i)
def kR{wr w':World}{e:TypeId}{size base x:Nat}{n:Nat}{xs:List Value}(h:wr.ownsRow base e size v n xs)(l:∀cs c,wr.heap[x]?≠some (.cells cs e c))(i:J [x] wr w'):w'.ownsRow base e size v n xs:=by
 refine h.kept i.v2 ?_
 rcases h.2 with⟨rfl,_⟩|⟨d,p,m,rfl,_,j,_⟩
 .exact .inl rfl
 .right;intro f
  have:d=x:=by simpa[Value.ownBlock]using f
  subst this;exact l _ _ j
def q4(E:α->List Value)(c:∀a,∀u∈E a,u.oneCell'=true)(l:List α):∀u∈l.flatMap E,u.oneCell'=true:=by
 intro u f;obtain⟨v,_,h⟩:=Ha.1 f;exact c v u h
def Sl.row{E:α->List Value}(j:∀a,(E a).length=s){w:World}{A:OA}{l:List α}(h:Sl w ty s A l.length (l.flatMap E))(x:k<l.length):
 ∃b f,A=some (Z b f)/\∀c u,(E l[k])[c]?=some u->w.cell? ⟨b,f+(k*s+c),none⟩=some u:=by
 obtain⟨b,f,m,p⟩:=Sl.f_ h X;refine⟨b,f,m,λc u i=>p (k*s+c) u ?_⟩
 have r:c<s:=by
  rcases FO c s with h|h
  .exact h
  .rw[F8 (by rw[j];exact h)]at i
   cases i
 rw[jg E s j l k c x r];exact i
def yf(E:α->List Value)(s:Nat)(c:∀a,(E a).length=s)(l:List α)(k:Nat):(l.take k).flatMap E=(l.flatMap E).take (k*s):=by
 induction l generalizing k with
 |nil=>simp
 |cons h l f=>
  cases k with
  |zero=>simp
  |succ k=>
   rw[H4,Gj,Gj,f,List.take_append,c,FK (l:=E h) (by rw[c,G5];omega),show(k+1)*s-s=k*s by rw[G5];omega]
def yg(E:α->List Value)(s:Nat)(c:∀a,(E a).length=s)(l:List α)(k:Nat):(l.drop k).flatMap E=(l.flatMap E).drop (k*s):=by
 induction l generalizing k with
 |nil=>simp
 |cons h l f=>
  cases k with
  |zero=>simp
  |succ k=>
   rw[List.drop_succ_cons,Gj,f,List.drop_append,c,List.drop_of_length_le (l:=E h) (by rw[c,G5];omega),show(k+1)*s-s=k*s by rw[G5];omega,FU]
def Sl.yw{E:α->List Value}(f:∀a,(E a).length=s){w:World}{A:OA}{l:List α}(h:Sl w ty s A l.length (l.flatMap E))(r:k<=l.length):
 Sl w ty s A k ((l.take k).flatMap E):=by
 refine⟨by rw[kk E s f,Gd,Nat.min_eq_left r],λz=>?_⟩;obtain⟨b,x,cs,j,i,m,p⟩:=h.2 X;refine⟨b,x,cs,j,i,m,λu y c=>p u y ?_⟩;rw[yf E s f,Gv]at c;split at c
 .exact c
 .cases c
def Sl.yM{E:α->List Value}(c:∀a,(E a).length=s){w:World}{A:OA}{l:List α}(h:Sl w ty s A l.length (l.flatMap E))(y:k<=l.length)(q:Nat)(V:l.length<=q):
 Sl w ty s (if q=k then A else A.map (·.add (k*s))) (l.length-k) ((l.drop k).flatMap E):=by
 refine⟨by rw[kk E s c,Hb],λx=>?_⟩;obtain⟨b,r,cs,j,i,m,p⟩:=h.2 X;subst i;rw[I_ X];refine⟨b,r+k*s,cs,j,by simp[oP],m,λz u f=>?_⟩;rw[Ho];refine p _ u ?_;rw[yg E s c,Hv]at f;exact f
def kV{w:World}{g:Nat}{t:TypeId}{cs:Array Value}(h:Bk w g t cs)(c:cs.size=s):Sl w t s (j_ g) 1 cs.toList:=
 ⟨by simp[c],λ_=>⟨g,0,cs,(0,0),rfl,h,λi j f=>by simpa using f⟩⟩
section
variable{P:Program}(w:World)
def AS(t ty e:TypeId)(i:TypeInfo)(D:Value)(size bytes:Nat)(r:P.underlying t=some (.slice e))(x:P.info? e=some i)(hz:i.zero=some D)(C:i.size=size)(y:i.bytes=bytes)(W:D.cells.size=size)(Y:0<size)(L:0<bytes)(A:OA)(n:Nat)(xs:List Value)(m:Sl w e size A n xs)(B:OA)(h c:Nat)(p:List Value)(z:Sl w q size B h p)(h1:∀u∈p,u.oneCell'=true)(f:(n+h)*bytes<=140737488355328):
 ∃A' c' w',(Builtin.append_ #[t,t] ty #[.slice A n n,.slice B h c]).run P w=.ok (.slice A' (n+h) c') w'/\n+h<=c'/\Sl w' e size A' (n+h) (xs++p)/\J [] w w':=by
 have ad:n+h<=maxLen:=by
  have:n+h<=(n+h)*bytes:=Hf _ L
  simp only[maxLen];omega
 rcases GI h with F|F
 .subst F;have j:=Ga (zu z.1);subst j;refine⟨A,n,w,?_,X,by simpa using m,H _ _⟩
  rcases GI n with j|j
  .subst j
   cases A with
   |none=>cases B<;>simp[Builtin.append_,Gq r,sizeOf,typeInfo,x,Builtin.lenOf,Builtin.firstCells,loadCells,loadCellsFrom]
   |some a=>cases B<;>simp[Builtin.append_,Gq r,sizeOf,typeInfo,x,Builtin.lenOf,Builtin.firstCells,storeCells,loadCells,loadCellsFrom]
  .obtain⟨b,off,rfl,_⟩:=Sl.f_ m j
   cases B<;>simp[Builtin.append_,Gq r,sizeOf,typeInfo,x,Builtin.lenOf,Builtin.firstCells,storeCells,loadCells,loadCellsFrom]
 .obtain⟨d,rfl,hc⟩:=z.nR F
  have Z:∀l w',w'.ownsRow w.heap.size e size l (n+h) (xs++p)->w.grownBy w' none->∃A' c',l=.slice A' (n+h) c'/\n+h<=c'/\Sl w' e size A' (n+h) (xs++p)/\J [] w w':=by
   intro l w' U hg
   obtain⟨A',c',rfl⟩:∃A' c',l=.slice A' (n+h) c':=by
    rcases U.2 with⟨rfl,h0⟩|⟨g,lO,cur,rfl,_⟩
    .exact⟨none,0,by rw[h0]⟩
    .exact⟨_,_,rfl⟩
   exact⟨A',c',rfl,jk U,Sl.iQ U,(H [] w).grown hg s_⟩
  cases A with
  |none=>
   have j:n=0:=by
    rcases GI n with j|j
    .exact j
    .obtain⟨b,off,S,_⟩:=Sl.f_ m j
     cases S
   subst j;have V:=Ga (zu m.1);subst V;obtain⟨l,w',I,T,h3,_⟩:=run_append_own (P:=P) w w.heap.size t ty e i D size bytes r x hz C y W Y _ 0 [] (iY w w.heap.size e size) d h c p z.1 hc h1 ad f (H_ _);obtain⟨A',c',rfl,O,R,N⟩:=Z l w' T h3;exact⟨A',c',w',I,O,R,N⟩
  |some a=>
   have k:∀ae u,xs[ae]?=some u->w.cell? (a.add ae)=some u:=by
    rcases GI n with j|j
    .subst j;have V:=Ga (zu m.1);subst V;simp
    .obtain⟨a',T,S⟩:=m.nR j;injection T with T;subst T;exact S
   obtain⟨l,w',I,r1,r2⟩:=run_append_arg_grows (P:=P) w t ty e i D size bytes r x hz C y W Y a n n xs m.1 k d h c p z.1 hc X ad f;obtain⟨A',c',rfl,O,R,N⟩:=Z l w' r1 r2;exact⟨A',c',w',I,O,R,N⟩
def yr{a:Act}(s x:Operand)(t:TypeId)(ho:o.op=.call {callee:=.builtin .append,args:=#[s,x],argTypes:=#[t,t]})(e:TypeId)(i:TypeInfo)(m:Value)(size bytes:Nat)(r:P.underlying t=some (.slice e))(I:P.info? e=some i)(N:i.zero=some m)(C:i.size=size)(y:i.bytes=bytes)(p:m.cells.size=size)(D:0<size)(L:0<bytes)(A:OA)(n:Nat)(xs:List Value)(hs:a.eval s=.slice A n n)(z:Sl w e size A n xs)(B:OA)(j c:Nat)(l:List Value)(hx:a.eval x=.slice B j c)(H:Sl w q size B j l)(F:∀u∈l,u.oneCell'=true)(f:(n+j)*bytes<=140737488355328)(h:∀(A':OA) (c':Nat) (w':World),n+j<=c'->Sl w' e size A' (n+j) (xs++l)->J [] w w'->K (a.put o.dst (.slice A' (n+j) c')) w'):o.wp P a w K Q:=by
 obtain⟨A',c',w',MT,h2,h3,ar⟩:=AS (P:=P) w t o.type e i m size bytes r I N C y p D L A n xs z B j c l H F f;exact Kl
def pA{rest:List Oper}{a:Act}(H:o.guard=none)(s x:Operand)(t:TypeId)(U:o.op=.call {callee:=.builtin .append,args:=#[s,x],argTypes:=#[t,t]})(e:TypeId)(i:TypeInfo)(m:Value)(size bytes:Nat)(r:P.underlying t=some (.slice e))(T:P.info? e=some i)(X:i.zero=some m)(C:i.size=size)(y:i.bytes=bytes)(p:m.cells.size=size)(F:0<size)(L:0<bytes)(A:OA)(n:Nat)(xs:List Value)(V:a.eval s=.slice A n n)(D:Sl w e size A n xs)(B:OA)(j c:Nat)(l:List Value)(W:a.eval x=.slice B j c)(S:Sl w q size B j l)(N:∀u∈l,u.oneCell'=true)(f:(n+j)*bytes<=140737488355328)(h:∀(A':OA) (c':Nat) (w':World),n+j<=c'->Sl w' e size A' (n+j) (xs++l)->J [] w w'->wpList P ops Q rest (a.put o.dst (.slice A' (n+j) c')) w'):wpList P ops Q (o::rest) a w:=
 wpList_plain H λ_ z=>yr w s x t U e i m size bytes r T X C y p F L A n xs V D B j c l W S N f λA' c' w' O R I=>z _ _ (h A' c' w' O R I)
def mG{a:Act}(H:o.guard=none)(s x:Operand)(t:TypeId)(R:o.op=.call {callee:=.builtin .append,args:=#[s,x],argTypes:=#[t,t]})(e:TypeId)(i:TypeInfo)(m:Value)(size bytes:Nat)(r:P.underlying t=some (.slice e))(O:P.info? e=some i)(U:i.zero=some m)(C:i.size=size)(y:i.bytes=bytes)(p:m.cells.size=size)(D:0<size)(L:0<bytes)(A:OA)(n:Nat)(xs:List Value)(S:a.eval s=.slice A n n)(z:Sl w e size A n xs)(B:OA)(j c:Nat)(l:List Value)(T:a.eval x=.slice B j c)(N:Sl w q size B j l)(I:∀u∈l,u.oneCell'=true)(f:(n+j)*bytes<=140737488355328)(h:∀(A':OA) (c':Nat) (w':World),n+j<=c'->Sl w' e size A' (n+j) (xs++l)->J [] w w'->K (a.put o.dst (.slice A' (n+j) c')) w'):
 if Region.wanted o (yielded ops a.tmps)=true then Oper.wp P o a w K Q else E:=by
 have F:Region.wanted o (yielded ops a.tmps)=true:=by simp[Region.wanted,H]
 rw[O_ F];exact yr w s x t R e i m size bytes r O U C y p D L A n xs S z B j c l T N I f h
end
def vn(cs:Array Value)(o:Nat)(vs:List Value):Array Value:=(cs.toList.take o++(vs++cs.toList.drop (o+vs.length))).toArray
def AI(cs:Array Value)(o:Nat)(v:Value)(r:List Value)(h:o+(v::r).length<=cs.size):vn (cs.setIfInBounds o v) (o+1) r=vn cs o (v::r):=by
 unfold vn;congr 1;rw[HJ]
 have c:o<cs.toList.length:=by simp at h |-;omega
 rw[X_ (zu c),List.getElem_set_self,List.take_set_of_le (H_ _),List.drop_set_of_lt X];simp only[FJ,Ge,Hs,FU,Ho,Nat.add_comm 1]
def qa{g:Nat}{t:TypeId}:∀(vs:List Value) (o:Nat) (w:World) (cs:Array Value),Bk w g t cs->o+vs.length<=cs.size->Bk (w.setCells g o vs) g t (vn cs o vs)/\J [g] w (w.setCells g o vs)
 |[],o,w,cs,h,_=>by
  refine⟨?_,H _ _⟩
  have e:vn cs o []=cs:=by simp[vn]
  rw[e];exact h
 |v::i,o,w,cs,h,f=>by
  have c:=qa (g:=g) (t:=t) i (o+1) (w.setCell (Z g o) v) (cs.setIfInBounds o v) (h.hN o v) (by simp at f |-;omega);rw[AI cs o v i f]at c;exact⟨c.1,((H [g] w).setCell (p:=(Z g o)) (.inl s_) v).trans c.2⟩
def BP{w:World}{g:Nat}{t:TypeId}{cs:Array Value}(h:Bk w g t cs)(o n:Nat)(i:o+n<=cs.size):w.there g o n:=λc f=>
 ⟨by rw[h.f_ (o+c),FM X];rfl,h.hm _⟩
def qW(cs vs:Array Value)(h:vs.size=cs.size):vn cs 0 vs.toList=vs:=by
 unfold vn;have e:cs.toList.drop (0+vs.toList.length)=[]:=F3 p_;rw[e];simp
section
variable{P:Program}
def jz{a:Act}{w:World}(ty:TypeId)(x y:Operand)(m:o.op=.store ty x y)(g c:Nat)(p:a.eval x=.pointer (some (Z g c)))(vs:Array Value)(hy:a.eval y=.agg vs)(t:TypeId)(cs:Array Value)(f:Bk w g t cs)(i:c+vs.size<=cs.size)(l:(P.info? ty).map (·.size)=some vs.size)(j:vs.all (·.oneCell')=true)(h:∀w',Bk w' g t (vn cs c vs.toList)->J [g] w w'->K (a.put o.dst undef) w'):o.wp P a w K Q:=
 wp_store_mid ty x y m g c vs p hy (BP f c vs.size i) l j
  (h _ (qa vs.toList c w cs f (zu i)).1 (qa vs.toList c w cs f (zu i)).2)
def jc{rest:List Oper}{a:Act}{w:World}(i:o.guard=none)(ty:TypeId)(x y:Operand)(u:o.op=.store ty x y)(g c:Nat)(B:a.eval x=.pointer (some (Z g c)))(vs:Array Value)(hy:a.eval y=.agg vs)(t:TypeId)(cs:Array Value)(p:Bk w g t cs)(z:c+vs.size<=cs.size)(r:(P.info? ty).map (·.size)=some vs.size)(j:vs.all (·.oneCell')=true)(h:∀w',Bk w' g t (vn cs c vs.toList)->J [g] w w'->wpList P ops Q rest (a.put o.dst undef) w'):wpList P ops Q (o::rest) a w:=
 wpList_plain i λ_ f=>jz ty x y u g c B vs hy t cs p z r j λw' l m=>f _ _ (h w' l m)
def oV{a:Act}{w:World}(ty:TypeId)(x:Operand)(r:o.op=.load ty x)(g i:Nat)(z:a.eval x=.pointer (some (Z g i)))(t:TypeId)(cs vs:Array Value)(l:Bk w g t cs)(y:∀c,c<vs.size->cs[i+c]?=vs[c]?)(d:TypeDesc)(u:P.underlying ty=some d)(m:d.isRow=true)(p:(P.info? ty).map (·.size)=some vs.size)(h:K (a.put o.dst (.agg vs)) w):o.wp P a w K Q:=by
 refine wp_load_mid ty x r g i z vs.toList d (λc v f=>?_) u m (zu p) (zu h)
 have j:c<vs.size:=by
  rcases FO c vs.size with h|h
  .exact h
  .rw[F8 (zu h)]at f
   cases f
 rw[l.f_,y c j]
 simpa using f
def iv{rest:List Oper}{a:Act}{w:World}(j:o.guard=none)(ty:TypeId)(x:Operand)(r:o.op=.load ty x)(g f:Nat)(z:a.eval x=.pointer (some (Z g f)))(t:TypeId)(cs vs:Array Value)(l:Bk w g t cs)(y:∀c,c<vs.size->cs[f+c]?=vs[c]?)(d:TypeDesc)(u:P.underlying ty=some d)(m:d.isRow=true)(p:(P.info? ty).map (·.size)=some vs.size)(h:wpList P ops Q rest (a.put o.dst (.agg vs)) w):wpList P ops Q (o::rest) a w:=
 wpList_plain j λ_ i=>oV ty x r g f z t cs vs l y d u m p (i _ _ h)
def sE{rest:List Oper}{a:Act}{w:World}(c:o.guard=none)(ty:TypeId)(x:Operand)(l:o.op=.load ty x)(g:Nat)(p:a.eval x=q_ g)(t:TypeId)(cs:Array Value)(f:Bk w g t cs)(d:TypeDesc)(m:P.underlying ty=some d)(i:d.isRow=true)(j:(P.info? ty).map (·.size)=some cs.size)(h:wpList P ops Q rest (a.put o.dst (.agg cs)) w):wpList P ops Q (o::rest) a w:=
 iv c ty x l g 0 p t cs cs f (λr _=>by rw[W_]) d m i j h
end
section
variable{P:Program}
def lF{rest:List Oper}{a:Act}{w:World}(f:o.guard=none)(ty:TypeId)(x y:Operand)(p:o.op=.store ty x y)(g:Nat)(u:a.eval x=q_ g)(vs:Array Value)(hy:a.eval y=.agg vs)(t:TypeId)(cs:Array Value)(l:Bk w g t cs)(r:vs.size=cs.size)(m:(P.info? ty).map (·.size)=some vs.size)(i:vs.all (·.oneCell')=true)(h:∀w',Bk w' g t vs->J [g] w w'->wpList P ops Q rest (a.put o.dst undef) w'):wpList P ops Q (o::rest) a w:=
 jc f ty x y p g 0 u vs hy t cs l X m i λw' c j=>h w' (by rw[qW cs vs r]at c;exact c) j
end
def k5{P:Program}{rest:List Oper}{a:Act}{w:World}{x:Operand}{g:Nat}{t:TypeId}{cs:Array Value}{d:TypeDesc}(hB:Bk w g t cs)(hu:P.underlying ty=some d)(h:wpList P ops Q rest (a.put o.dst (.agg cs)) w)(aq:o.guard=none:=by rfl)(ho:o.op=.load ty x:=by rfl)(hx:a.eval x=q_ g:=by rfl)(hd:d.isRow=true:=by rfl)(hi:(P.info? ty).map (·.size)=some cs.size:=by kernel_rfl):wpList P ops Q (o::rest) a w:=sE aq ty x ho g hx t cs hB d hu hd hi h
def kZ{P:Program}{rest:List Oper}{a:Act}{w:World}{x y:Operand}{g:Nat}{t:TypeId}{cs:Array Value}(hB:Bk w g t cs)(h1:vs.all (·.oneCell')=true)(h:∀w',Bk w' g t vs->J [g] w w'->wpList P ops Q rest (a.put o.dst undef) w')(aq:o.guard=none:=by rfl)(ho:o.op=.store ty x y:=by rfl)(hx:a.eval x=q_ g:=by rfl)(hy:a.eval y=.agg vs:=by rfl)(hs:vs.size=cs.size:=by rfl)(hi:(P.info? ty).map (·.size)=some vs.size:=by kernel_rfl):wpList P ops Q (o::rest) a w:=lF aq ty x y ho g hx vs hy t cs hB hs hi h1 h
