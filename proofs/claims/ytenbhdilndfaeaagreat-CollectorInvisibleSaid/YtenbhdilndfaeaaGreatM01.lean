import Derived.Test.YtenbhdilndfaeaaGreatM00
import Derived.BigQuiet
import Derived.Deep.AppendLies
import Derived.Deep.Draws
import Derived.Deep.MidRow
import Derived.Deep.RegionLaw
import Derived.Deep.RegionLawGrows
import Derived.Lib.Hide
import Derived.StillTailTactics
import Derived.WalkLawsBesides
import Derived.WalkSpells
set_option maxRecDepth 100000
set_option maxHeartbeats 0
set_option linter.all false
namespace Go.Proofs.YtenbhdilndfaeaaGreat
open Go.RowKit Go.Proofs.Tryz
variable{base k s:Nat}{o:Oper}{d:List Nat}{v:Value}{α:Type}{f ty:TypeId}{K:Act->World->Prop}{Q:Exit->Act->World->Prop}{ops:Array Oper}{E:Prop}(vs:Array Value)
def IN{G:Prop} (h:G:=by
 by_cases hm:m=0
 .subst hm;have hn:=FZ (zu hr.1);subst hn;exact⟨B,aB,w,by simpa using mh w base t ty e i size ht hi _ n xs ak A c,by simpa using ak,App.iW ak (World.grownBy.refl w _)⟩
 .obtain⟨d,rfl,j⟩:=hr.mW X
  have l:n+m<=maxLen:=by
   have:n+m<=(n+m)*bytes:=Hk _ MS
   simp only[maxLen];omega
  obtain⟨v',w',N,h2,h3,_⟩:=run_append_own (P:=P) w base t ty e i z size bytes ht hi hz q p C aP _ n xs ak d m c news hr.1 j h1 l y aK;have hf:∃A' c',v'=.slice A' (n+m) c':=Lc;obtain⟨A',c',rfl⟩:=hf;exact⟨A',c',w',N,h2,App.iW ak h3⟩):G:=h
def jZ{k:IntKind}{a b:Int}(h:a=b):Ending.returned (.int k a)=Ending.returned (.int k b):=by rw[h]
def ot{A:OA}{n n' c:Nat}(h:n=n'):Ending.returned (.slice A n c)=Ending.returned (.slice A n' c):=by rw[h]
def iH{a b:Bool}(h:a=b):Ending.returned (.bool a)=Ending.returned (.bool b):=by rw[h]
def nS(b o n:Nat):((Z b o):Addr).add n=(Z b (o+n)):=by unfold Addr.add;split<;>simp_all
structure I(M:List Nat)(a w:World):Prop where
 os:w.os=a.os
 tape:w.tape=a.tape
 output:w.output=a.output
 size:a.heap.size<=w.heap.size
 block:∀k,k<a.heap.size->k∉M->w.heap[k]?=a.heap[k]?
section
variable{M:List Nat}{a b w w':World}
def H(M:List Nat)(w:World):I M w w:=⟨rfl,rfl,rfl,H_ _,λ_ _ _=>rfl⟩
def I.trans(h:I M a b)(k:I M b w):I M a w:=
 ⟨k.os.trans h.os,k.tape.trans h.tape,k.output.trans h.output,G_ h.size k.size,λj c i=>(k.block j (GN c h.size) i).trans (h.block j c i)⟩
def I.mono(h:I M a w)(j:∀x∈M,x∈d):I d a w:=⟨h.os,h.tape,h.output,h.size,λc i l=>h.block c i λm=>l (j c m)⟩
def I.of_nil(h:I [] a w)(M:List Nat):I M a w:=h.mono J
def I.hJ(h:I M a b)(k:I d b w)(l:∀x∈d,x∈M∨a.heap.size<=x):I M a w:=
 ⟨k.os.trans h.os,k.tape.trans h.tape,k.output.trans h.output,G_ h.size k.size,λc i j=>
   (k.block c (GN i h.size) (λm=>by rcases l c m with e|e;exact j e;omega)).trans (h.block c i j)⟩
def I.drew(h:I M a w):I M a w.drew:=⟨h.os,h.tape,h.output,h.size,h.block⟩
def I.drewN(h:I M a w)(n:Nat):I M a (w.drewN n):=⟨h.os,h.tape,h.output,h.size,h.block⟩
def I.alloc(h:I M a w)(o:Obj):I M a (w.alloc o):=
 ⟨h.os,h.tape,h.output,by have:=h.size;simp;omega,λi c j=>(Below.heap_alloc w o i (GN c h.size)).trans (h.block i c j)⟩
def I.setCell(h:I M a w){p:Addr}(l:p.block∈M∨a.heap.size<=p.block)(u:Value):I M a (w.setCell p u):=
 ⟨h.os,h.tape,h.output,by have:=h.size;simpa[World.setCell]using this,λi j c=>
   (Below.heap_setCell w p u i (λe=>by subst e;rcases l with e|e;exact c e;omega)).trans (h.block i j c)⟩
def I.vw(h:I [] a w):Below a.heap.size a w:=⟨h.os,h.tape,h.output,h.size,λi c=>h.block i c J⟩
def I.grown(h:I M a w){row:Option Nat}(c:w.grownBy w' row)(p:∀k,row=some k->k∈M∨a.heap.size<=k):I M a w':=
 ⟨c.os.trans h.os,c.tape.trans h.tape,c.output.trans h.output,G_ h.size c.size,λi j l=>
   (c.block i (GN j h.size) (λe=>by rcases p i e.symm with m|m;exact l m;omega)).trans (h.block i j l)⟩
def I.vv{g:Nat}(h:I [g] a w):a.grownBy w (some g):=⟨h.os,h.tape,h.output,h.size,λj c i=>h.block j c (by simpa using λe=>i (by rw[e]))⟩
def I.yN(h:I [] a w)(row:Option Nat):a.grownBy w row:=⟨h.os,h.tape,h.output,h.size,λi c _=>h.block i c J⟩
end
def yp{w:World}{p:Addr}(h:w.cell? p=some v):p.block<w.heap.size:=World.block_lt_of_cell? w p h
def I.f_{M:List Nat}{a w:World}(h:I M a w){p:Addr}(hc:a.cell? p=some v)(c:p.block∉M):w.cell? p=some v:=
 (World.cell?_of_block (h.block p.block (yp hc) c)).trans hc
def jC{w:World}{p:Addr}(hc:w.cell? p=some v)(o:Obj):(w.alloc o).cell? p=some v:=((H [] w).alloc o).f_ hc J
def Bk(w:World)(g:Nat)(t:TypeId)(cs:Array Value):Prop:=w.heap[g]?=some (.cells cs t (0,0))
section
variable{M:List Nat}{a w w':World}{g:Nat}{t:TypeId}{cs:Array Value}
def Bk.lt(h:Bk w g t cs):g<w.heap.size:=by
 rcases FW g w.heap.size with c|i
 .exact c
 .unfold Bk at h;rw[Y_ i]at h
  cases h
def Bk.f_(h:Bk w g t cs)(i:Nat):w.cell? (Z g i)=cs[i]?:=cell_of_row w g i cs t (0,0) h
def Bk.iC{x y:Value}(h:Bk w g t #[x,y]):w.cell? (Z g 0)=some x/\w.cell? (Z g 1)=some y:=⟨h.f_ 0,h.f_ 1⟩
def Bk.nO{x y c:Value}(h:Bk w g t #[x,y,c]):w.cell? (Z g 0)=some x/\w.cell? (Z g 1)=some y/\w.cell? (Z g 2)=some c:=⟨h.f_ 0,h.f_ 1,h.f_ 2⟩
def Bk.c5{x y c u:Value}(h:Bk w g t #[x,y,c,u,v]):w.cell? (Z g 0)=some x/\w.cell? (Z g 1)=some y/\w.cell? (Z g 2)=some c/\w.cell? (Z g 3)=some u/\w.cell? (Z g 4)=some v:=⟨h.f_ 0,h.f_ 1,h.f_ 2,h.f_ 3,h.f_ 4⟩
def Bk.hG(h:Bk w g t cs)(i:Nat):w.frozen? (Z g i)=false:=by
 unfold Bk at h;simp[World.frozen?,h]
def P_(w:World)(t:TypeId)(cs:Array Value):Bk (w.alloc (.cells cs t)) w.heap.size t cs:=HX w _
def Bk.drew(h:Bk w g t cs):Bk w.drew g t cs:=h
def Bk.drewN(h:Bk w g t cs)(n:Nat):Bk (w.drewN n) g t cs:=h
def Bk.alloc(h:Bk w g t cs)(o:Obj):Bk (w.alloc o) g t cs:=(Below.heap_alloc w o g h.lt).trans h
def Bk.hV(h:Bk w g t cs)(i:Nat)(u:Value):Bk (w.setCell (Z g i) u) g t (cs.setIfInBounds i u):=by
 unfold Bk at h |-;simp[World.setCell,Array.getElem?_modify,h]
def Bk.ih(h:Bk w g t cs){p:Addr}(c:g≠p.block)(u:Value):Bk (w.setCell p u) g t cs:=(Below.heap_setCell w p u g c).trans h
def Bk.gr(h:Bk w g t cs)(c:I M w w')(i:g∉M):Bk w' g t cs:=(c.block g h.lt i).trans h
def Bk.l8{d:Nat}{t':TypeId}{c:Array Value}(h:Bk w g t cs)(i:Bk w d t' c)(j:t≠t'):g≠d:=by
 rintro rfl;unfold Bk at h i;rw[h]at i;injection i with i;injection i with _ l;exact j l
end
def Sl(w:World)(e:TypeId)(size:Nat)(A:OA)(n:Nat)(xs:List Value):Prop:=
 xs.length=n*size/\(0<n->∃b off cs fz,A=some (Z b off)/\w.heap[b]?=some (.cells cs e fz)/\∀j u,xs[j]?=some u->cs[off+j]?=some u)
section
variable{M:List Nat}{w w':World}{e:TypeId}{size:Nat}{A:OA}{n:Nat}{xs:List Value}
def Gw(w:World)(e:TypeId)(size:Nat)(A:OA):Sl w e size A 0 []:=⟨by simp,λc=>FU c X⟩
def Sl.drew(h:Sl w e size A n xs):Sl w.drew e size A n xs:=h
def Sl.drewN(h:Sl w e size A n xs)(k:Nat):Sl (w.drewN k) e size A n xs:=h
def Sl.iz(h:Sl w e size A n xs)(m:∀b c,A=some (Z b c)->b<w.heap.size->w'.heap[b]?=w.heap[b]?):Sl w' e size A n xs:=
 ⟨h.1,λp=>by
   obtain⟨b,c,cs,j,i,hb,l⟩:=h.2 p;have af:b<w.heap.size:=L5
   exact⟨b,c,cs,j,i,(m b c i af).trans hb,l⟩⟩
def Sl.hF(h:Sl w e size A n xs)(i:I [] w w'):Sl w' e size A n xs:=h.iz λb _ _ c=>i.block b c J
def Sl.alloc(h:Sl w e size A n xs)(o:Obj):Sl (w.alloc o) e size A n xs:=h.hF ((H [] w).alloc o)
def Sl.it(h:Sl w e size A n xs){g:Nat}{t:TypeId}{cs:Array Value}(c:Bk w g t cs)(i:e≠t)(u:I [g] w w'):Sl w' e size A n xs:=
 ⟨h.1,λx=>by
   obtain⟨b,z,j,l,m,hb,r⟩:=h.2 x
   have p:b≠g:=by
    rintro rfl;unfold Bk at c;rw[hb]at c;injection c with c;injection c with _ y _;exact i y
   have af:b<w.heap.size:=L5
   exact⟨b,z,j,l,m,(u.block b af (zu p)).trans hb,r⟩⟩
def Sl.f_(h:Sl w e size A n xs)(q:0<n):∃b i,A=some (Z b i)/\∀c u,xs[c]?=some u->w.cell? (Z b (i+c))=some u:=by
 obtain⟨b,i,cs,j,l,m,p⟩:=h.2 q;exact⟨b,i,l,λc u r=>by rw[cell_of_row w b _ cs e j m];exact p c u r⟩
def Sl.mW(h:Sl w e size A n xs)(l:0<n):∃d,A=some d/\∀c u,xs[c]?=some u->w.cell? (d.add c)=some u:=by
 obtain⟨b,p,i,j⟩:=h.f_ l;exact⟨_,i,λc u m=>by rw[nS];exact j c u m⟩
def Sl.iR{q:Nat}(h:w.ownsRow base e size (.slice A n q) n xs):Sl w e size A n xs:=by
 refine⟨h.1,λu=>?_⟩
 rcases h.2 with⟨i,r⟩|⟨g,v,j,i,_,m,_,_,_,p⟩
 .omega
 .injection i with l _ _;refine⟨g,0,j,(0,0),l,m,λx y c=>?_⟩;rw[<-p,Gv]at c;split at c
  .simpa using c
  .cases c
end
def iE{α:Type}(p:α->Bool):List α->Nat->Int
 |[],_=> -1
 |x::l,k=>if p x then(k:Int) else iE p l (k+1)
def k2(p:α->Bool)(l:List α)(k c:Nat)(h:c<l.length)(i:p l[c]=true):iE p (l.drop c) k=k:=by
 rw[Q_ h];simp[iE,i]
def ka(p:α->Bool)(l:List α)(k c:Nat)(h:c<l.length)(i:p l[c]=false):iE p (l.drop c) k=iE p (l.drop (c+1)) (k+1):=by
 rw[Q_ h];simp[iE,i]
def lu(p:α->Bool)(l:List α)(k c:Nat)(h:l.length<=c):iE p (l.drop c) k= -1:=by
 rw[Gb h]
 rfl
def mH(p:α->Bool)(l:List α)(k:Nat): -1<=iE p l k/\iE p l k<(k+l.length:Nat):=by
 induction l generalizing k with
 |nil=>simp[iE];omega
 |cons h l c=>simp only[iE,FK];have:=c (k+1);split<;>omega
def t6(p:α->Bool)(l:List α)(k:Nat):0<=iE p l k↔∃x∈l,p x=true:=by
 induction l generalizing k with
 |nil=>simp[iE]
 |cons x l c=>simp only[iE];split<;>rename_i h<;>simp[h,c]
def Sl.at_{w:World}{e:TypeId}{A:OA}{n:Nat}{xs:List Value}(h:Sl w e 1 A n xs)(m:k<n):∃b c u,A=some (Z b c)/\xs[k]?=some u/\w.cell? (Z b (c+k))=some u:=by
 obtain⟨b,c,j,l⟩:=h.f_ X;have i:k<xs.length:=ov h.1;exact⟨b,c,xs[k],j,K_ i,l k _ (K_ i)⟩
def iy{w w':World}{e:TypeId}{size:Nat}{n:Nat}{xs:List Value}(h:w.ownsRow base e size v n xs)(c:I [] w w'):w'.ownsRow base e size v n xs:=
 h.kept (c.yN none) (by cases v.ownBlock<;>simp)
def kD{w w':World}{e:TypeId}{size:Nat}{n:Nat}{xs:List Value}{g:Nat}{t:TypeId}{cs:Array Value}(h:w.ownsRow base e size v n xs)(m:Bk w g t cs)(c:e≠t)(l:I [g] w w'):w'.ownsRow base e size v n xs:=by
 refine h.kept l.vv ?_
 rcases h.2 with⟨rfl,_⟩|⟨d,q,p,rfl,_,i,_⟩
 .exact .inl rfl
 .right;intro j
  have:d=g:=by simpa[Value.ownBlock]using j
  subst this;exact(Bk.l8 (t:=e) i m c) rfl
def uw(w:World)(base:Nat)(e:TypeId)(size g:Nat)(h:w.heap.size=g)(c:base<=g):(w.alloc (.cells #[] e)).ownsRow base e size (.slice (j_ g) 0 0) 0 []:=by
 subst h;exact World.ownsRow_lit w #[] 0 c (by simp[maxLen]) J
def iT(w:World)(base:Nat)(e:TypeId)(size:Nat):w.ownsRow base e size (n_) 0 []:=World.ownsRow_nil w base e size
def ox{w:World}{d:Nat}{e:TypeId}{size:Nat}{n:Nat}{xs:List Value}(h:w.ownsRow base e size v n xs)(p:d<=base):w.ownsRow d e size v n xs:=by
 refine⟨h.1,?_⟩
 rcases h.2 with h|⟨g,l,c,i,m,j⟩
 .exact .inl h
 .exact .inr ⟨g,l,c,i,X,j⟩
structure App(base:Nat)(e:TypeId)(w w':World):Prop where
 gr:∀(M:List Nat) (a:World),a.heap.size<=base->I M a w->I M a w'
 iz:∀(k:Nat) (o:Obj),w.heap[k]?=some o->(k<base∨∀cs fz,o≠ .cells cs e fz)->w'.heap[k]?=some o
 size:w.heap.size<=w'.heap.size
def App.iW{e:TypeId}{size:Nat}{w w':World}{n:Nat}{xs:List Value}(h:w.ownsRow base e size v n xs)(m:w.grownBy w' v.ownBlock):App base e w w':=by
 refine⟨λM a r u=>u.grown m λk i=>.inr (G_ r (h.lt k i).1),λk o c i=>?_,m.size⟩
 have j:k<w.heap.size:=by
  rcases FW k w.heap.size with j|q
  .exact j
  .rw[Y_ q]at c
   cases c
 refine(m.block k j ?_).trans c;intro l
 rcases i with i|i
 .have:=(h.lt k l.symm).1
  omega
 .rcases h.2 with⟨rfl,_⟩|⟨g,y,x,rfl,_,p,_⟩
  .simp[Value.ownBlock]at l
  .have:k=g:=by simpa[Value.ownBlock]using l
   subst this;rw[p]at c;injection c with c;exact i _ _ c.symm
def App.bk{e t:TypeId}{w w':World}{g:Nat}{cs:Array Value}(h:App base e w w')(i:Bk w g t cs)(c:t≠e):Bk w' g t cs:=
 h.iz g _ i (.inr λl m j=>c (by injection j))
def App.sl{e:TypeId}{size:Nat}{w w':World}{A:OA}{n:Nat}{xs:List Value}(h:App base e w w')(c:Sl w f size A n xs)(i:f≠e):Sl w' f size A n xs:=
 ⟨c.1,λr=>by
   obtain⟨b,u,cs,j,l,m,p⟩:=c.2 r
   exact⟨b,u,cs,j,l,h.iz b _ m (.inr λx d q=>i (by injection q)),p⟩⟩
section
variable{P:Program}(w:World)
def mh(base:Nat)(t ty e:TypeId)(i:TypeInfo)(size:Nat)(j:P.underlying t=some (.slice e))(h:P.info? e=some i)
 (v:Value) (n:Nat) (xs:List Value) (m:w.ownsRow base e size v n xs) (A:OA) (c:Nat):(Builtin.append_ #[t,t] ty #[v,.slice A 0 c]).run P w=.ok v w:=by
 rcases m.2 with⟨rfl,rfl⟩|⟨g,q,p,rfl,_,_,l,_⟩
 .cases A<;>simp[Builtin.append_,Gu j,sizeOf,typeInfo,h,Builtin.lenOf,Builtin.firstCells,loadCells,loadCellsFrom]
 .cases A<;>simp[Builtin.append_,Gu j,sizeOf,typeInfo,h,Builtin.lenOf,Builtin.firstCells,l,storeCells,loadCells,loadCellsFrom]
def Cj(base:Nat)(t ty e:TypeId)(i:TypeInfo)(z:Value)(size bytes:Nat)(ht:P.underlying t=some (.slice e))(hi:P.info? e=some i)(hz:i.zero=some z)
 (q:i.size=size) (p:i.bytes=bytes) (C:z.cells.size=size) (aP:0<size)
 (B:OA) (aB n:Nat) (xs:List Value) (ak:w.ownsRow base e size (.slice B n aB) n xs)
 (A:OA) (m c:Nat) (news:List Value) (hr:Sl w e size A m news) (h1:∀u∈news,u.oneCell'=true)
 (y:(n+m)*bytes<=140737488355328) (MS:0<bytes) (aK:base<=w.heap.size):
 ∃A' c' w',(Builtin.append_ #[t,t] ty #[.slice B n aB,.slice A m c]).run P w=.ok (.slice A' (n+m) c') w'/\w'.ownsRow base e size (.slice A' (n+m) c') (n+m) (xs++news)/\App base e w w':=by
 exact IN
def z7{a:Act}(s x:Operand)(t:TypeId)(ho:o.op=.call {callee:=.builtin .append,args:=#[s,x],argTypes:=#[t,t]})(base:Nat)(e:TypeId)(i:TypeInfo)(z:Value)(size bytes:Nat)(L:P.underlying t=some (.slice e))(I:P.info? e=some i)(O:i.zero=some z)(q:i.size=size)(p:i.bytes=bytes)(C:z.cells.size=size)(F:0<size)(B:0<bytes)(l:OA)(n r:Nat)(xs:List Value)(hs:a.eval s=.slice l n r)(G:w.ownsRow base e size (.slice l n r) n xs)(A:OA)(m c:Nat)(j:List Value)(hx:a.eval x=.slice A m c)(J:Sl w e size A m j)(H:∀u∈j,u.oneCell'=true)(y:(n+m)*bytes<=140737488355328)(D:base<=w.heap.size)(h:∀(A':OA) (c':Nat) (w':World),w'.ownsRow base e size (.slice A' (n+m) c') (n+m) (xs++j)->App base e w w'->K (a.put o.dst (.slice A' (n+m) c')) w'):o.wp P a w K Q:=by
 obtain⟨A',c',w',N,h2,h3⟩:=Cj (P:=P) w base t o.type e i z size bytes L I O q p C F l r n xs G A m c j J H y B D;exact KE
def wR{rest:List Oper}{a:Act}(L:o.guard=none)(s x:Operand)(t:TypeId)(R:o.op=.call {callee:=.builtin .append,args:=#[s,x],argTypes:=#[t,t]})(base:Nat)(e:TypeId)(i:TypeInfo)(z:Value)(size bytes:Nat)(U:P.underlying t=some (.slice e))(O:P.info? e=some i)(W:i.zero=some z)(q:i.size=size)(p:i.bytes=bytes)(C:z.cells.size=size)(G:0<size)(B:0<bytes)(l:OA)(n r:Nat)(xs:List Value)(T:a.eval s=.slice l n r)(H:w.ownsRow base e size (.slice l n r) n xs)(A:OA)(m c:Nat)(j:List Value)(V:a.eval x=.slice A m c)(S:Sl w e size A m j)(I:∀u∈j,u.oneCell'=true)(y:(n+m)*bytes<=140737488355328)(F:base<=w.heap.size)(h:∀(A':OA) (c':Nat) (w':World),w'.ownsRow base e size (.slice A' (n+m) c') (n+m) (xs++j)->App base e w w'->wpList P ops Q rest (a.put o.dst (.slice A' (n+m) c')) w'):wpList P ops Q (o::rest) a w:=
 wpList_plain L λ_ D=>z7 w s x t R base e i z size bytes U O W q p C G B l n r xs T H A m c j V S I y F λA' c' w' J N=>D _ _ (h A' c' w' J N)
end
section
variable{P:Program}(w:World)
end
def Sl.new(w:World)(e:TypeId)(size:Nat)(cs:Array Value)(n g:Nat)(c:w.heap.size=g)(h:cs.size=n*size):Sl (w.alloc (.cells cs e)) e size (j_ g) n cs.toList:=by
 subst c;exact⟨by simpa using h,λ_=>⟨_,_,cs,(0,0),rfl,HX w _,λj l i=>by simpa using i⟩⟩
def EO(w:World)(h:TypeId)(c:Array Value):Bk (w.alloc (.cells c h)) (w.heap.size) h c/\I [] w (w.alloc (.cells c h)):=⟨(P_ w h c),((H [] w).alloc _)⟩
def pZ(w:World)(h:TypeId)(c:Array Value)(j:TypeId)(i:Array Value):Bk ((w.alloc (.cells c h)).alloc (.cells i j)) (w.heap.size) h c/\Bk ((w.alloc (.cells c h)).alloc (.cells i j)) (w.heap.size+1) j i/\I [] w ((w.alloc (.cells c h)).alloc (.cells i j)):=⟨((P_ w h c).alloc _),(zu (P_ (w.alloc (.cells c h)) j i)),(((H [] w).alloc _).alloc _)⟩
def wI(w:World)(h:TypeId)(c:Array Value)(j:TypeId)(i:Array Value)(l:TypeId)(m:Array Value):Bk (((w.alloc (.cells c h)).alloc (.cells i j)).alloc (.cells m l)) (w.heap.size) h c/\Bk (((w.alloc (.cells c h)).alloc (.cells i j)).alloc (.cells m l)) (w.heap.size+1) j i/\Bk (((w.alloc (.cells c h)).alloc (.cells i j)).alloc (.cells m l)) (w.heap.size+1+1) l m/\I [] w (((w.alloc (.cells c h)).alloc (.cells i j)).alloc (.cells m l)):=⟨(((P_ w h c).alloc _).alloc _),(zu ((P_ (w.alloc (.cells c h)) j i).alloc _)),(zu (P_ ((w.alloc (.cells c h)).alloc (.cells i j)) l m)),((((H [] w).alloc _).alloc _).alloc _)⟩
def Da(w:World)(h:TypeId)(c:Array Value)(j:TypeId)(i:Array Value)(l:TypeId)(m:Array Value)(r:TypeId)(p:Array Value):Bk ((((w.alloc (.cells c h)).alloc (.cells i j)).alloc (.cells m l)).alloc (.cells p r)) (w.heap.size) h c/\Bk ((((w.alloc (.cells c h)).alloc (.cells i j)).alloc (.cells m l)).alloc (.cells p r)) (w.heap.size+1) j i/\Bk ((((w.alloc (.cells c h)).alloc (.cells i j)).alloc (.cells m l)).alloc (.cells p r)) (w.heap.size+1+1) l m/\Bk ((((w.alloc (.cells c h)).alloc (.cells i j)).alloc (.cells m l)).alloc (.cells p r)) (w.heap.size+1+1+1) r p/\I [] w ((((w.alloc (.cells c h)).alloc (.cells i j)).alloc (.cells m l)).alloc (.cells p r)):=⟨((((P_ w h c).alloc _).alloc _).alloc _),(zu (((P_ (w.alloc (.cells c h)) j i).alloc _).alloc _)),(zu ((P_ ((w.alloc (.cells c h)).alloc (.cells i j)) l m).alloc _)),(zu (P_ (((w.alloc (.cells c h)).alloc (.cells i j)).alloc (.cells m l)) r p)),(((((H [] w).alloc _).alloc _).alloc _).alloc _)⟩
def Fl(w:World)(h:TypeId)(c:Array Value)(j:TypeId)(i:Array Value)(l:TypeId)(m:Array Value)(r:TypeId)(p:Array Value)(x:TypeId)(u:Array Value):Bk (((((w.alloc (.cells c h)).alloc (.cells i j)).alloc (.cells m l)).alloc (.cells p r)).alloc (.cells u x)) (w.heap.size) h c/\Bk (((((w.alloc (.cells c h)).alloc (.cells i j)).alloc (.cells m l)).alloc (.cells p r)).alloc (.cells u x)) (w.heap.size+1) j i/\Bk (((((w.alloc (.cells c h)).alloc (.cells i j)).alloc (.cells m l)).alloc (.cells p r)).alloc (.cells u x)) (w.heap.size+1+1) l m/\Bk (((((w.alloc (.cells c h)).alloc (.cells i j)).alloc (.cells m l)).alloc (.cells p r)).alloc (.cells u x)) (w.heap.size+1+1+1) r p/\Bk (((((w.alloc (.cells c h)).alloc (.cells i j)).alloc (.cells m l)).alloc (.cells p r)).alloc (.cells u x)) (w.heap.size+1+1+1+1) x u/\I [] w (((((w.alloc (.cells c h)).alloc (.cells i j)).alloc (.cells m l)).alloc (.cells p r)).alloc (.cells u x)):=⟨(((((P_ w h c).alloc _).alloc _).alloc _).alloc _),(zu ((((P_ (w.alloc (.cells c h)) j i).alloc _).alloc _).alloc _)),(zu (((P_ ((w.alloc (.cells c h)).alloc (.cells i j)) l m).alloc _).alloc _)),(zu ((P_ (((w.alloc (.cells c h)).alloc (.cells i j)).alloc (.cells m l)) r p).alloc _)),(zu (P_ ((((w.alloc (.cells c h)).alloc (.cells i j)).alloc (.cells m l)).alloc (.cells p r)) x u)),((((((H [] w).alloc _).alloc _).alloc _).alloc _).alloc _)⟩
def pn{P:Program}{w:World}{a:Act}(L:o.guard=none)(s x:Operand)(t:TypeId)(N:o.op=.call {callee:=.builtin .append,args:=#[s,x],argTypes:=#[t,t]})(base:Nat)(e:TypeId)(i:TypeInfo){z:Value}(size bytes:Nat)(S:P.underlying t=some (.slice e))(J:P.info? e=some i)(U:i.zero=some z)(q:i.size=size)(p:i.bytes=bytes)(C:z.cells.size=size)(G:0<size)(B:0<bytes)(l:OA)(n r:Nat)(xs:List Value)(R:a.eval s=.slice l n r)(H:w.ownsRow base e size (.slice l n r) n xs)(A:OA)(m c:Nat){j:List Value}(T:a.eval x=.slice A m c)(O:Sl w e size A m j)(I:∀u∈j,u.oneCell'=true)(y:(n+m)*bytes<=140737488355328)(F:base<=w.heap.size)(h:∀(A':OA) (c':Nat) (w':World),w'.ownsRow base e size (.slice A' (n+m) c') (n+m) (xs++j)->App base e w w'->K (a.put o.dst (.slice A' (n+m) c')) w'):
 if Region.wanted o (yielded ops a.tmps)=true then Oper.wp P o a w K Q else E:=by
 have D:Region.wanted o (yielded ops a.tmps)=true:=by simp[Region.wanted,L]
 rw[U_ D];exact z7 w s x t N base e i z size bytes S J U q p C G B l n r xs R H A m c j T O I y F h
def la{w:World}{o:Obj}(c:w.heap[k]?=some o):k<w.heap.size:=by
 rcases FW k w.heap.size with h|i
 .exact h
 .rw[Y_ i]at c
  cases c
section
variable{base:Nat}{e:TypeId}{w w1 w2:World}
end
section
variable{P:Program}(w:World)
def AC(base:Nat)(t ty e:TypeId)(i:TypeInfo)(z:Value)(size bytes:Nat)(ht:P.underlying t=some (.slice e))(hi:P.info? e=some i)(hz:i.zero=some z)(q:i.size=size)(p:i.bytes=bytes)(C:z.cells.size=size)(aP:0<size)(B:OA)(aB n:Nat)(xs:List Value)(ak:w.ownsRow base e size (.slice B n aB) n xs)(A:OA)(m c:Nat)(news:List Value)(hr:Sl w f size A m news)(h1:∀u∈news,u.oneCell'=true)(y:(n+m)*bytes<=140737488355328)(MS:0<bytes)(aK:base<=w.heap.size):
 ∃A' c' w',(Builtin.append_ #[t,t] ty #[.slice B n aB,.slice A m c]).run P w=.ok (.slice A' (n+m) c') w'/\w'.ownsRow base e size (.slice A' (n+m) c') (n+m) (xs++news)/\App base e w w':=by
 exact IN
def xY{a:Act}(s x:Operand)(t:TypeId)(ho:o.op=.call {callee:=.builtin .append,args:=#[s,x],argTypes:=#[t,t]})(base:Nat)(e:TypeId)(i:TypeInfo)(z:Value)(size bytes:Nat)(L:P.underlying t=some (.slice e))(I:P.info? e=some i)(O:i.zero=some z)(q:i.size=size)(p:i.bytes=bytes)(C:z.cells.size=size)(F:0<size)(B:0<bytes)(l:OA)(n r:Nat)(xs:List Value)(hs:a.eval s=.slice l n r)(G:w.ownsRow base e size (.slice l n r) n xs)(A:OA)(m c:Nat)(j:List Value)(hx:a.eval x=.slice A m c)(J:Sl w f size A m j)(H:∀u∈j,u.oneCell'=true)(y:(n+m)*bytes<=140737488355328)(D:base<=w.heap.size)(h:∀(A':OA) (c':Nat) (w':World),w'.ownsRow base e size (.slice A' (n+m) c') (n+m) (xs++j)->App base e w w'->K (a.put o.dst (.slice A' (n+m) c')) w'):o.wp P a w K Q:=by
 obtain⟨A',c',w',N,h2,h3⟩:=AC (P:=P) w base t o.type e i z size bytes L I O q p C F l r n xs G A m c j J H y B D;exact KE
def iJ{rest:List Oper}{a:Act}(L:o.guard=none)(s x:Operand)(t:TypeId)(R:o.op=.call {callee:=.builtin .append,args:=#[s,x],argTypes:=#[t,t]})(base:Nat)(e:TypeId)(i:TypeInfo)(z:Value)(size bytes:Nat)(U:P.underlying t=some (.slice e))(O:P.info? e=some i)(W:i.zero=some z)(q:i.size=size)(p:i.bytes=bytes)(C:z.cells.size=size)(G:0<size)(B:0<bytes)(l:OA)(n r:Nat)(xs:List Value)(T:a.eval s=.slice l n r)(H:w.ownsRow base e size (.slice l n r) n xs)(A:OA)(m c:Nat)(j:List Value)(V:a.eval x=.slice A m c)(S:Sl w f size A m j)(I:∀u∈j,u.oneCell'=true)(y:(n+m)*bytes<=140737488355328)(F:base<=w.heap.size)(h:∀(A':OA) (c':Nat) (w':World),w'.ownsRow base e size (.slice A' (n+m) c') (n+m) (xs++j)->App base e w w'->wpList P ops Q rest (a.put o.dst (.slice A' (n+m) c')) w'):wpList P ops Q (o::rest) a w:=
 wpList_plain L λ_ D=>xY w s x t R base e i z size bytes U O W q p C G B l n r xs T H A m c j V S I y F λA' c' w' J N=>D _ _ (h A' c' w' J N)
end
def oo{P:Program}{w:World}{a:Act}(L:o.guard=none)(s x:Operand)(t:TypeId)(N:o.op=.call {callee:=.builtin .append,args:=#[s,x],argTypes:=#[t,t]})(base:Nat)(e:TypeId)(i:TypeInfo)(z:Value)(size bytes:Nat)(S:P.underlying t=some (.slice e))(J:P.info? e=some i)(U:i.zero=some z)(q:i.size=size)(p:i.bytes=bytes)(C:z.cells.size=size)(G:0<size)(B:0<bytes)(l:OA)(n r:Nat)(xs:List Value)(R:a.eval s=.slice l n r)(H:w.ownsRow base e size (.slice l n r) n xs)(A:OA)(m c:Nat)(j:List Value)(T:a.eval x=.slice A m c)(O:Sl w f size A m j)(I:∀u∈j,u.oneCell'=true)(y:(n+m)*bytes<=140737488355328)(F:base<=w.heap.size)(h:∀(A':OA) (c':Nat) (w':World),w'.ownsRow base e size (.slice A' (n+m) c') (n+m) (xs++j)->App base e w w'->K (a.put o.dst (.slice A' (n+m) c')) w'):
 if Region.wanted o (yielded ops a.tmps)=true then Oper.wp P o a w K Q else E:=by
 have D:Region.wanted o (yielded ops a.tmps)=true:=by simp[Region.wanted,L]
 rw[U_ D];exact xY w s x t N base e i z size bytes S J U q p C G B l n r xs R H A m c j T O I y F h
def info_parts{P:Program}{t:TypeId}{j:Value}{b:Nat}(h:(P.info? t).map (λi=>(i.zero,i.size,i.bytes))=some (some j,s,b)):∃i,P.info? t=some i/\i.zero=some j/\i.size=s/\i.bytes=b:=by
 cases c:P.info? t with
 |none=>rw[c]at h;simp at h
 |some i=>rw[c]at h;simp at h;exact⟨i,rfl,h.1,h.2.1,h.2.2⟩
def DB{w:World}{d:Nat}{e:TypeId}{size:Nat}{n:Nat}{xs:List Value}(h:w.ownsRow d e size v n xs)(p:base<=d):w.ownsRow base e size v n xs:=by
 refine⟨h.1,?_⟩
 rcases h.2 with i|⟨g,q,c,j,l,m⟩
 .exact .inl i
 .exact .inr ⟨g,q,c,j,G_ p l,m⟩
def Bk.hF{w w':World}{g:Nat}{t:TypeId}{cs:Array Value}(h:Bk w g t cs)(c:I [] w w'):Bk w' g t cs:=h.gr c J
def CV{W w1:World}{t:TypeId}{cs:Array Value}{p:Nat}(c:I [] (W.alloc (.cells cs t)) w1)(h:W.heap.size=p):Bk w1 p t cs:=by
 subst h;exact(P_ W t cs).gr c J
def iY{w:World}{e:TypeId}{size:Nat}{A:OA}{n c:Nat}{xs:List Value}(h:w.ownsRow base e size (.slice A n c) n xs):n<=c:=by
 rcases h.2 with⟨i,l⟩|⟨g,p,j,i,_,_,m,_⟩
 .omega
 .injection i with _ _ i;omega
def ko(f:α->List Value)(s:Nat)(h:∀a,(f a).length=s)(l:List α):(l.flatMap f).length=l.length*s:=by
 induction l with
 |nil=>simp
 |cons i l c=>simp only[Ga,J_,h,c,FK,G1,H3];omega
def jh(f:α->List Value)(s:Nat)(h:∀a,(f a).length=s)(l:List α)(k c:Nat)(i:k<l.length)(m:c<s):(l.flatMap f)[k*s+c]?=(f l[k])[c]?:=by
 induction l generalizing k with
 |nil=>simp at i
 |cons p l j=>
  cases k with
  |zero=>simp only[Ga,HB,W_,GG];rw[GH (by rw[h];exact m)]
  |succ k=>
   simp only[Ga,Hr]
   have e:(k+1)*s+c=s+(k*s+c):=by rw[G1,H3];omega
   rw[e,GT (by rw[h];omega),h,Nat.add_sub_cancel_left];exact j k (zu i)
def ku{wr w':World}{e:TypeId}{size x:Nat}{n:Nat}{xs:List Value}(h:wr.ownsRow base e size v n xs)(m:∀cs i,wr.heap[x]?≠some (.cells cs e i))(l:I [x] wr w'):w'.ownsRow base e size v n xs:=by
 refine h.kept l.vv ?_
 rcases h.2 with⟨rfl,_⟩|⟨d,q,p,rfl,_,c,_⟩
 .exact .inl rfl
 .right;intro j
  have:d=x:=by simpa[Value.ownBlock]using j
  subst this;exact m _ _ c
def qE(E:α->List Value)(c:∀a,∀u∈E a,u.oneCell'=true)(l:List α):∀u∈l.flatMap E,u.oneCell'=true:=by
 intro u h;obtain⟨v,_,i⟩:=G3.1 h;exact c v u i
def Sl.row{E:α->List Value}(m:∀a,(E a).length=s){w:World}{A:OA}{l:List α}(h:Sl w ty s A l.length (l.flatMap E))(x:k<l.length):
 ∃b i,A=some (Z b i)/\∀c u,(E l[k])[c]?=some u->w.cell? ⟨b,i+(k*s+c),none⟩=some u:=by
 obtain⟨b,i,p,q⟩:=Sl.f_ h X;refine⟨b,i,p,λc u j=>q (k*s+c) u ?_⟩
 have r:c<s:=by
  rcases FW c s with h|h
  .exact h
  .rw[F2 (by rw[m];exact h)]at j
   cases j
 rw[jh E s m l k c x r];exact j
def tG(E:α->List Value)(s:Nat)(c:∀a,(E a).length=s)(l:List α)(k:Nat):(l.take k).flatMap E=(l.flatMap E).take (k*s):=by
 induction l generalizing k with
 |nil=>simp
 |cons i l h=>
  cases k with
  |zero=>simp
  |succ k=>
   rw[HP,Ga,Ga,h,List.take_append,c,FP (l:=E i) (by rw[c,G1];omega),show(k+1)*s-s=k*s by rw[G1];omega]
def xN(E:α->List Value)(s:Nat)(c:∀a,(E a).length=s)(l:List α)(k:Nat):(l.drop k).flatMap E=(l.flatMap E).drop (k*s):=by
 induction l generalizing k with
 |nil=>simp
 |cons i l h=>
  cases k with
  |zero=>simp
  |succ k=>
   rw[List.drop_succ_cons,Ga,h,List.drop_append,c,GD (l:=E i) (by rw[c,G1];omega),show(k+1)*s-s=k*s by rw[G1];omega,FY]
def Sl.x1{E:α->List Value}(i:∀a,(E a).length=s){w:World}{A:OA}{l:List α}(h:Sl w ty s A l.length (l.flatMap E))(r:k<=l.length):
 Sl w ty s A k ((l.take k).flatMap E):=by
 refine⟨by rw[ko E s i,Gj,Ia r],λz=>?_⟩;obtain⟨b,x,cs,j,m,p,q⟩:=h.2 X;refine⟨b,x,cs,j,m,p,λu y c=>q u y ?_⟩;rw[tG E s i,Gv]at c;split at c
 .exact c
 .cases c
def Sl.yn{E:α->List Value}(c:∀a,(E a).length=s){w:World}{A:OA}{l:List α}(h:Sl w ty s A l.length (l.flatMap E))(B:k<=l.length)(q:Nat)(y:l.length<=q):
 Sl w ty s (if q=k then A else A.map (·.add (k*s))) (l.length-k) ((l.drop k).flatMap E):=by
 refine⟨by rw[ko E s c,G7],λz=>?_⟩;obtain⟨b,u,cs,j,m,p,r⟩:=h.2 X;subst m;rw[R_ X];refine⟨b,u+k*s,cs,j,by simp[nS],p,λC x i=>?_⟩;rw[Hl];refine r _ x ?_;rw[xN E s c,HE]at i;exact i
def kP{w:World}{g:Nat}{t:TypeId}{cs:Array Value}(h:Bk w g t cs)(c:cs.size=s):Sl w t s (j_ g) 1 cs.toList:=
 ⟨by simp[c],λ_=>⟨g,0,cs,(0,0),rfl,h,λj l i=>by simpa using i⟩⟩
section
variable{P:Program}(w:World)
def Az(t ty e:TypeId)(i:TypeInfo)(F:Value)(size bytes:Nat)(B:P.underlying t=some (.slice e))(z:P.info? e=some i)(hz:i.zero=some F)(q:i.size=size)(p:i.bytes=bytes)(C:F.cells.size=size)(W:0<size)(MS:0<bytes)(A:OA)(n:Nat)(xs:List Value)(l:Sl w e size A n xs)(x:OA)(m c:Nat)(r:List Value)(D:Sl w f size x m r)(h1:∀u∈r,u.oneCell'=true)(y:(n+m)*bytes<=140737488355328):
 ∃A' c' w',(Builtin.append_ #[t,t] ty #[.slice A n n,.slice x m c]).run P w=.ok (.slice A' (n+m) c') w'/\n+m<=c'/\Sl w' e size A' (n+m) (xs++r)/\I [] w w':=by
 have ad:n+m<=maxLen:=by
  have:n+m<=(n+m)*bytes:=Hk _ MS
  simp only[maxLen];omega
 rcases Gl m with T|T
 .subst T;have h:=FZ (zu D.1);subst h;refine⟨A,n,w,?_,X,by simpa using l,H _ _⟩
  rcases Gl n with h|h
  .subst h
   cases A with
   |none=>cases x<;>simp[Builtin.append_,Gu B,sizeOf,typeInfo,z,Builtin.lenOf,Builtin.firstCells,loadCells,loadCellsFrom]
   |some a=>cases x<;>simp[Builtin.append_,Gu B,sizeOf,typeInfo,z,Builtin.lenOf,Builtin.firstCells,storeCells,loadCells,loadCellsFrom]
  .obtain⟨b,off,rfl,_⟩:=Sl.f_ l h
   cases x<;>simp[Builtin.append_,Gu B,sizeOf,typeInfo,z,Builtin.lenOf,Builtin.firstCells,storeCells,loadCells,loadCellsFrom]
 .obtain⟨d,rfl,Z⟩:=D.mW T
  have Y:∀j w',w'.ownsRow w.heap.size e size j (n+m) (xs++r)->w.grownBy w' none->∃A' c',j=.slice A' (n+m) c'/\n+m<=c'/\Sl w' e size A' (n+m) (xs++r)/\I [] w w':=by
   intro j w' U hg
   obtain⟨A',c',rfl⟩:∃A' c',j=.slice A' (n+m) c':=by
    rcases U.2 with⟨rfl,h0⟩|⟨g,l3,cur,rfl,_⟩
    .exact⟨none,0,by rw[h0]⟩
    .exact⟨_,_,rfl⟩
   exact⟨A',c',rfl,iY U,Sl.iR U,(H [] w).grown hg J⟩
  cases A with
  |none=>
   have h:n=0:=by
    rcases Gl n with h|h
    .exact h
    .obtain⟨b,off,R,_⟩:=Sl.f_ l h
     cases R
   subst h;have V:=FZ (zu l.1);subst V;obtain⟨j,w',G,S,h3,_⟩:=run_append_own (P:=P) w w.heap.size t ty e i F size bytes B z hz q p C W _ 0 [] (iT w w.heap.size e size) d m c r D.1 Z h1 ad y (H_ _);obtain⟨A',c',rfl,O,N,L⟩:=Y j w' S h3;exact⟨A',c',w',G,O,N,L⟩
  |some a=>
   have k:∀ae u,xs[ae]?=some u->w.cell? (a.add ae)=some u:=by
    rcases Gl n with h|h
    .subst h;have V:=FZ (zu l.1);subst V;simp
    .obtain⟨a',S,R⟩:=l.mW h;injection S with S;subst S;exact R
   obtain⟨j,w',G,r1,r2⟩:=run_append_arg_grows (P:=P) w t ty e i F size bytes B z hz q p C W a n n xs l.1 k d m c r D.1 Z X ad y;obtain⟨A',c',rfl,O,N,L⟩:=Y j w' r1 r2;exact⟨A',c',w',G,O,N,L⟩
def xX{a:Act}(s x:Operand)(t:TypeId)(ho:o.op=.call {callee:=.builtin .append,args:=#[s,x],argTypes:=#[t,t]})(e:TypeId)(i:TypeInfo)(r:Value)(size bytes:Nat)(J:P.underlying t=some (.slice e))(H:P.info? e=some i)(L:i.zero=some r)(q:i.size=size)(p:i.bytes=bytes)(C:r.cells.size=size)(B:0<size)(z:0<bytes)(A:OA)(n:Nat)(xs:List Value)(hs:a.eval s=.slice A n n)(F:Sl w e size A n xs)(l:OA)(m c:Nat)(j:List Value)(hx:a.eval x=.slice l m c)(G:Sl w f size l m j)(D:∀u∈j,u.oneCell'=true)(y:(n+m)*bytes<=140737488355328)(h:∀(A':OA) (c':Nat) (w':World),n+m<=c'->Sl w' e size A' (n+m) (xs++j)->I [] w w'->K (a.put o.dst (.slice A' (n+m) c')) w'):o.wp P a w K Q:=by
 obtain⟨A',c',w',N,h2,h3,aw⟩:=Az (P:=P) w t o.type e i r size bytes J H L q p C B z A n xs F l m c j G D y;exact KC
def pi{rest:List Oper}{a:Act}(L:o.guard=none)(s x:Operand)(t:TypeId)(S:o.op=.call {callee:=.builtin .append,args:=#[s,x],argTypes:=#[t,t]})(e:TypeId)(i:TypeInfo)(r:Value)(size bytes:Nat)(U:P.underlying t=some (.slice e))(R:P.info? e=some i)(W:i.zero=some r)(q:i.size=size)(p:i.bytes=bytes)(C:r.cells.size=size)(D:0<size)(z:0<bytes)(A:OA)(n:Nat)(xs:List Value)(T:a.eval s=.slice A n n)(N:Sl w e size A n xs)(l:OA)(m c:Nat)(j:List Value)(V:a.eval x=.slice l m c)(O:Sl w f size l m j)(G:∀u∈j,u.oneCell'=true)(y:(n+m)*bytes<=140737488355328)(h:∀(A':OA) (c':Nat) (w':World),n+m<=c'->Sl w' e size A' (n+m) (xs++j)->I [] w w'->wpList P ops Q rest (a.put o.dst (.slice A' (n+m) c')) w'):wpList P ops Q (o::rest) a w:=
 wpList_plain L λ_ B=>xX w s x t S e i r size bytes U R W q p C D z A n xs T N l m c j V O G y λA' c' w' H J F=>B _ _ (h A' c' w' H J F)
def mC{a:Act}(L:o.guard=none)(s x:Operand)(t:TypeId)(N:o.op=.call {callee:=.builtin .append,args:=#[s,x],argTypes:=#[t,t]})(e:TypeId)(i:TypeInfo)(r:Value)(size bytes:Nat)(R:P.underlying t=some (.slice e))(J:P.info? e=some i)(T:i.zero=some r)(q:i.size=size)(p:i.bytes=bytes)(C:r.cells.size=size)(D:0<size)(z:0<bytes)(A:OA)(n:Nat)(xs:List Value)(O:a.eval s=.slice A n n)(G:Sl w e size A n xs)(l:OA)(m c:Nat)(j:List Value)(S:a.eval x=.slice l m c)(H:Sl w f size l m j)(F:∀u∈j,u.oneCell'=true)(y:(n+m)*bytes<=140737488355328)(h:∀(A':OA) (c':Nat) (w':World),n+m<=c'->Sl w' e size A' (n+m) (xs++j)->I [] w w'->K (a.put o.dst (.slice A' (n+m) c')) w'):
 if Region.wanted o (yielded ops a.tmps)=true then Oper.wp P o a w K Q else E:=by
 have B:Region.wanted o (yielded ops a.tmps)=true:=by simp[Region.wanted,L]
 rw[U_ B];exact xX w s x t N e i r size bytes R J T q p C D z A n xs O G l m c j S H F y h
end
def uU(cs:Array Value)(o:Nat)(vs:List Value):Array Value:=(cs.toList.take o++(vs++cs.toList.drop (o+vs.length))).toArray
def An(cs:Array Value)(o:Nat)(v:Value)(r:List Value)(h:o+(v::r).length<=cs.size):uU (cs.setIfInBounds o v) (o+1) r=uU cs o (v::r):=by
 unfold uU;congr 1;rw[HU]
 have c:o<cs.toList.length:=by simp at h |-;omega
 rw[T_ (zu c),List.getElem_set_self,List.take_set_of_le (H_ _),Ih X];simp only[FK,Gc,Hq,FY,Hl,Nat.add_comm 1]
def pL{g:Nat}{t:TypeId}:∀(vs:List Value) (o:Nat) (w:World) (cs:Array Value),Bk w g t cs->o+vs.length<=cs.size->Bk (w.setCells g o vs) g t (uU cs o vs)/\I [g] w (w.setCells g o vs)
 |[],o,w,cs,h,_=>by
  refine⟨?_,H _ _⟩
  have e:uU cs o []=cs:=by simp[uU]
  rw[e];exact h
 |v::j,o,w,cs,h,i=>by
  have c:=pL (g:=g) (t:=t) j (o+1) (w.setCell (Z g o) v) (cs.setIfInBounds o v) (h.hV o v) (by simp at i |-;omega);rw[An cs o v j i]at c;exact⟨c.1,((H [g] w).setCell (p:=(Z g o)) (.inl J) v).trans c.2⟩
def BI{w:World}{g:Nat}{t:TypeId}{cs:Array Value}(h:Bk w g t cs)(o n:Nat)(j:o+n<=cs.size):w.there g o n:=λc i=>
 ⟨by rw[h.f_ (o+c),FR X];rfl,h.hG _⟩
def qB(cs vs:Array Value)(h:vs.size=cs.size):uU cs 0 vs.toList=vs:=by
 unfold uU;have e:cs.toList.drop (0+vs.toList.length)=[]:=Gb p_;rw[e];simp
section
variable{P:Program}
def jE{a:Act}{w:World}(ty:TypeId)(x y:Operand)(p:o.op=.store ty x y)(g c:Nat)(r:a.eval x=.pointer (some (Z g c)))(vs:Array Value)(hy:a.eval y=.agg vs)(t:TypeId)(cs:Array Value)(i:Bk w g t cs)(j:c+vs.size<=cs.size)(m:(P.info? ty).map (·.size)=some vs.size)(l:vs.all (·.oneCell')=true)(h:∀w',Bk w' g t (uU cs c vs.toList)->I [g] w w'->K (a.put o.dst undef) w'):o.wp P a w K Q:=
 wp_store_mid ty x y p g c vs r hy (BI i c vs.size j) m l
  (h _ (pL vs.toList c w cs i (zu j)).1 (pL vs.toList c w cs i (zu j)).2)
def je{rest:List Oper}{a:Act}{w:World}(L:o.guard=none)(ty:TypeId)(x y:Operand)(r:o.op=.store ty x y)(g c:Nat)(z:a.eval x=.pointer (some (Z g c)))(vs:Array Value)(hy:a.eval y=.agg vs)(t:TypeId)(cs:Array Value)(p:Bk w g t cs)(u:c+vs.size<=cs.size)(q:(P.info? ty).map (·.size)=some vs.size)(j:vs.all (·.oneCell')=true)(h:∀w',Bk w' g t (uU cs c vs.toList)->I [g] w w'->wpList P ops Q rest (a.put o.dst undef) w'):wpList P ops Q (o::rest) a w:=
 wpList_plain L λ_ i=>jE ty x y r g c z vs hy t cs p u q j λw' l m=>i _ _ (h w' l m)
def oN{a:Act}{w:World}(ty:TypeId)(x:Operand)(u:o.op=.load ty x)(g j:Nat)(B:a.eval x=.pointer (some (Z g j)))(t:TypeId)(cs vs:Array Value)(m:Bk w g t cs)(z:∀c,c<vs.size->cs[j+c]?=vs[c]?)(d:TypeDesc)(y:P.underlying ty=some d)(p:d.isRow=true)(r:(P.info? ty).map (·.size)=some vs.size)(h:K (a.put o.dst (.agg vs)) w):o.wp P a w K Q:=by
 refine wp_load_mid ty x u g j B vs.toList d (λc v i=>?_) y p (zu r) (zu h)
 have l:c<vs.size:=by
  rcases FW c vs.size with h|h
  .exact h
  .rw[F2 (zu h)]at i
   cases i
 rw[m.f_,z c l]
 simpa using i
def iD{rest:List Oper}{a:Act}{w:World}(L:o.guard=none)(ty:TypeId)(x:Operand)(q:o.op=.load ty x)(g i:Nat)(y:a.eval x=.pointer (some (Z g i)))(t:TypeId)(cs vs:Array Value)(l:Bk w g t cs)(u:∀c,c<vs.size->cs[i+c]?=vs[c]?)(d:TypeDesc)(r:P.underlying ty=some d)(m:d.isRow=true)(p:(P.info? ty).map (·.size)=some vs.size)(h:wpList P ops Q rest (a.put o.dst (.agg vs)) w):wpList P ops Q (o::rest) a w:=
 wpList_plain L λ_ j=>oN ty x q g i y t cs vs l u d r m p (j _ _ h)
def r0{rest:List Oper}{a:Act}{w:World}(L:o.guard=none)(ty:TypeId)(x:Operand)(l:o.op=.load ty x)(g:Nat)(p:a.eval x=q_ g)(t:TypeId)(cs:Array Value)(c:Bk w g t cs)(d:TypeDesc)(m:P.underlying ty=some d)(i:d.isRow=true)(j:(P.info? ty).map (·.size)=some cs.size)(h:wpList P ops Q rest (a.put o.dst (.agg cs)) w):wpList P ops Q (o::rest) a w:=
 iD L ty x l g 0 p t cs cs c (λq _=>by rw[W_]) d m i j h
end
section
variable{P:Program}
def lD{rest:List Oper}{a:Act}{w:World}(L:o.guard=none)(ty:TypeId)(x y:Operand)(p:o.op=.store ty x y)(g:Nat)(r:a.eval x=q_ g)(vs:Array Value)(hy:a.eval y=.agg vs)(t:TypeId)(cs:Array Value)(l:Bk w g t cs)(q:vs.size=cs.size)(m:(P.info? ty).map (·.size)=some vs.size)(i:vs.all (·.oneCell')=true)(h:∀w',Bk w' g t vs->I [g] w w'->wpList P ops Q rest (a.put o.dst undef) w'):wpList P ops Q (o::rest) a w:=
 je L ty x y p g 0 r vs hy t cs l X m i λw' c j=>h w' (by rw[qB cs vs q]at c;exact c) j
end
def kV{P:Program}{rest:List Oper}{a:Act}{w:World}{x:Operand}{g:Nat}{t:TypeId}{cs:Array Value}{d:TypeDesc}(hB:Bk w g t cs)(hu:P.underlying ty=some d)(h:wpList P ops Q rest (a.put o.dst (.agg cs)) w)(L:o.guard=none:=by rfl)(ho:o.op=.load ty x:=by rfl)(hx:a.eval x=q_ g:=by rfl)(hd:d.isRow=true:=by rfl)(hi:(P.info? ty).map (·.size)=some cs.size:=by kernel_rfl):wpList P ops Q (o::rest) a w:=r0 L ty x ho g hx t cs hB d hu hd hi h
def kS{P:Program}{rest:List Oper}{a:Act}{w:World}{x y:Operand}{g:Nat}{t:TypeId}{cs:Array Value}(hB:Bk w g t cs)(h1:vs.all (·.oneCell')=true)(h:∀w',Bk w' g t vs->I [g] w w'->wpList P ops Q rest (a.put o.dst undef) w')(L:o.guard=none:=by rfl)(ho:o.op=.store ty x y:=by rfl)(hx:a.eval x=q_ g:=by rfl)(hy:a.eval y=.agg vs:=by rfl)(hs:vs.size=cs.size:=by rfl)(hi:(P.info? ty).map (·.size)=some vs.size:=by kernel_rfl):wpList P ops Q (o::rest) a w:=lD L ty x y ho g hx vs hy t cs hB hs hi h1 h
