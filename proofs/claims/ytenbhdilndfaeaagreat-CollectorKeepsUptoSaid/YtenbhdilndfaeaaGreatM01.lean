import Derived.Test.YtenbhdilndfaeaaGreatM00
import Derived.BigQuiet
import Derived.Deep.AppendLies
import Derived.Deep.Draws
import Derived.Deep.MidRow
import Derived.Deep.RegionLaw
import Derived.Deep.RegionLawGrows
import Derived.Lib.Hide
import Derived.StillTailTactics
import Derived.WalkLawsBesides
import Derived.WalkSpells
set_option maxRecDepth 100000
set_option maxHeartbeats 0
set_option linter.all false
namespace Go.Proofs.YtenbhdilndfaeaaGreat
open Go.RowKit Go.Proofs.Tryz
variable{base k s:Nat}{o:Oper}{d:QY}{v:Value}{α:Type}{C ty:TypeId}{K:Act->World->Prop}{Q:Exit->Act->World->Prop}{ops:Array Oper}{E:Prop}(vs:Array Value)
def I8{G:Prop} (h:G:=by
 by_cases hm:m=0;subst hm;have hn:=Gh (zu hr.1);subst hn;exact⟨B,aB,w,by simpa using mq w base t ty e i size ht hi _ n xs ak A c,by simpa using ak,App.iR ak (World.grownBy.refl w _)⟩;obtain⟨d,rfl,j⟩:=hr.m7 X;have l:n+m<=maxLen:=by
  have:n+m<=(n+m)*bytes:=HR _ ad;simp only[maxLen];omega
 obtain⟨v',w',L,h2,h3,_⟩:=run_append_own (P:=P) w base t ty e i z size bytes ht hi hz q p y aS _ n xs ak d m c news hr.1 j h1 l f aG;have hf:∃A' c',v'=.slice A' (n+m) c':=LB;obtain⟨A',c',rfl⟩:=hf;exact⟨A',c',w',L,h2,App.iR ak h3⟩):G:=h
def kh{k:IntKind}{a b:Int}(h:a=b):Ending.returned (.int k a)=Ending.returned (.int k b):=by rw[h]
def oy{A:OA}{n n' c:Nat}(h:n=n'):Ending.returned (.slice A n c)=Ending.returned (.slice A n' c):=by rw[h]
def iG{a b:Bool}(h:a=b):Ending.returned (.bool a)=Ending.returned (.bool b):=by rw[h]
def BS(a:Addr)(i c:Nat):(a.add i).add c=a.add (i+c):=by
 unfold Addr.add;by_cases f:i=0<;>by_cases h:c=0<;>simp[f,h,HE]
def m9(b o n:Nat):((Z b o):Addr).add n=(Z b (o+n)):=by unfold Addr.add;split<;>simp_all
structure J(M:QY)(a w:World):Prop where
 os:w.os=a.os
 tape:w.tape=a.tape
 output:w.output=a.output
 size:a.heap.size<=w.heap.size
 block:∀k,k<a.heap.size->k∉M->w.heap[k]?=a.heap[k]?
section
variable{M:QY}{a b w w':World}
def F_(M:QY)(w:World):J M w w:=⟨rfl,rfl,rfl,H_ _,λ_ _ _=>rfl⟩
def J.trans(h:J M a b)(k:J M b w):J M a w:=
 ⟨k.os.trans h.os,k.tape.trans h.tape,k.output.trans h.output,G_ h.size k.size,λi c f=>(k.block i (Hg c h.size) f).trans (h.block i c f)⟩
def J.mono(h:J M a w)(i:∀x∈M,x∈d):J d a w:=⟨h.os,h.tape,h.output,h.size,λc f j=>h.block c f λl=>j (i c l)⟩
def J.of_nil(h:J [] a w)(M:QY):J M a w:=h.mono H
def J.hI(h:J M a b)(k:J d b w)(j:∀x∈d,x∈M∨a.heap.size<=x):J M a w:=
 ⟨k.os.trans h.os,k.tape.trans h.tape,k.output.trans h.output,G_ h.size k.size,λc f i=>
   (k.block c (Hg f h.size) (λl=>by rcases j c l with e|e;exact i e;omega)).trans (h.block c f i)⟩
def J.drew(h:J M a w):J M a w.drew:=⟨h.os,h.tape,h.output,h.size,h.block⟩
def J.drewN(h:J M a w)(n:Nat):J M a (w.drewN n):=⟨h.os,h.tape,h.output,h.size,h.block⟩
def J.alloc(h:J M a w)(o:Obj):J M a (w.alloc o):=
 ⟨h.os,h.tape,h.output,by have:=h.size;simp;omega,λf c i=>(Below.heap_alloc w o f (Hg c h.size)).trans (h.block f c i)⟩
def J.setCell(h:J M a w){p:Addr}(j:p.block∈M∨a.heap.size<=p.block)(u:Value):J M a (w.setCell p u):=
 ⟨h.os,h.tape,h.output,by have:=h.size;simpa[World.setCell]using this,λf i c=>
   (Below.heap_setCell w p u f (λe=>by subst e;rcases j with e|e;exact c e;omega)).trans (h.block f i c)⟩
def J.vW(h:J [] a w):Below a.heap.size a w:=⟨h.os,h.tape,h.output,h.size,λf c=>h.block f c H⟩
def J.grown(h:J M a w){row:Option Nat}(c:w.grownBy w' row)(m:∀k,row=some k->k∈M∨a.heap.size<=k):J M a w':=
 ⟨c.os.trans h.os,c.tape.trans h.tape,c.output.trans h.output,G_ h.size c.size,λf i j=>
   (c.block f (Hg i h.size) (λe=>by rcases m f e.symm with l|l;exact j l;omega)).trans (h.block f i j)⟩
def J.vV{g:Nat}(h:J [g] a w):a.grownBy w (some g):=⟨h.os,h.tape,h.output,h.size,λi c f=>h.block i c (by simpa using λe=>f (by rw[e]))⟩
def J.y0(h:J [] a w)(row:Option Nat):a.grownBy w row:=⟨h.os,h.tape,h.output,h.size,λf c _=>h.block f c H⟩
end
def yC{w:World}{p:Addr}(h:w.cell? p=some v):p.block<w.heap.size:=World.block_lt_of_cell? w p h
def J.f_{M:QY}{a w:World}(h:J M a w){p:Addr}(hc:a.cell? p=some v)(c:p.block∉M):w.cell? p=some v:=
 (World.cell?_of_block (h.block p.block (yC hc) c)).trans hc
def jB{w:World}{p:Addr}(hc:w.cell? p=some v)(o:Obj):(w.alloc o).cell? p=some v:=((F_ [] w).alloc o).f_ hc H
def Bk(w:World)(g:Nat)(t:TypeId)(cs:Array Value):Prop:=w.heap[g]?=some (.cells cs t (0,0))
section
variable{M:QY}{a w w':World}{g:Nat}{t:TypeId}{cs:Array Value}
def Bk.lt(h:Bk w g t cs):g<w.heap.size:=by
 rcases Ga g w.heap.size with c|f
 exact c;unfold Bk at h;rw[F8 f]at h;cases h
def Bk.f_(h:Bk w g t cs)(i:Nat):w.cell? (Z g i)=cs[i]?:=cell_of_row w g i cs t (0,0) h
def Bk.iA{x y:Value}(h:Bk w g t #[x,y]):w.cell? (Z g 0)=some x/\w.cell? (Z g 1)=some y:=⟨h.f_ 0,h.f_ 1⟩
def Bk.nQ{x y c:Value}(h:Bk w g t #[x,y,c]):w.cell? (Z g 0)=some x/\w.cell? (Z g 1)=some y/\w.cell? (Z g 2)=some c:=⟨h.f_ 0,h.f_ 1,h.f_ 2⟩
def Bk.c5{x y c u:Value}(h:Bk w g t #[x,y,c,u,v]):w.cell? (Z g 0)=some x/\w.cell? (Z g 1)=some y/\w.cell? (Z g 2)=some c/\w.cell? (Z g 3)=some u/\w.cell? (Z g 4)=some v:=⟨h.f_ 0,h.f_ 1,h.f_ 2,h.f_ 3,h.f_ 4⟩
def Bk.hG(h:Bk w g t cs)(i:Nat):w.frozen? (Z g i)=false:=by
 unfold Bk at h;simp[World.frozen?,h]
def P_(w:World)(t:TypeId)(cs:Array Value):Bk (w.alloc (.cells cs t)) w.heap.size t cs:=Ij w _
def Bk.drew(h:Bk w g t cs):Bk w.drew g t cs:=h
def Bk.drewN(h:Bk w g t cs)(n:Nat):Bk (w.drewN n) g t cs:=h
def Bk.alloc(h:Bk w g t cs)(o:Obj):Bk (w.alloc o) g t cs:=(Below.heap_alloc w o g h.lt).trans h
def Bk.hU(h:Bk w g t cs)(i:Nat)(u:Value):Bk (w.setCell (Z g i) u) g t (cs.setIfInBounds i u):=by
 unfold Bk at h |-;simp[World.setCell,Array.getElem?_modify,h]
def Bk.ih(h:Bk w g t cs){p:Addr}(c:g≠p.block)(u:Value):Bk (w.setCell p u) g t cs:=(Below.heap_setCell w p u g c).trans h
def Bk.gr(h:Bk w g t cs)(c:J M w w')(f:g∉M):Bk w' g t cs:=(c.block g h.lt f).trans h
def Bk.l8{c:Nat}{t':TypeId}{d:Array Value}(h:Bk w g t cs)(o:Bk w c t' d)(f:t≠t'):g≠c:=by
 rintro rfl;unfold Bk at h o;rw[h]at o;injection o with o;injection o with _ i;exact f i
end
def Sl(w:World)(e:TypeId)(size:Nat)(A:OA)(n:Nat)(xs:QW):Prop:=
 xs.length=n*size/\(0<n->∃b off cs fz,A=some (Z b off)/\w.heap[b]?=some (.cells cs e fz)/\∀j u,xs[j]?=some u->cs[off+j]?=some u)
section
variable{M:QY}{w w':World}{e:TypeId}{size:Nat}{A:OA}{n:Nat}{xs:QW}
def GU(w:World)(e:TypeId)(size:Nat)(A:OA):Sl w e size A 0 []:=⟨by simp,λc=>Gc c X⟩
def Sl.drew(h:Sl w e size A n xs):Sl w.drew e size A n xs:=h
def Sl.drewN(h:Sl w e size A n xs)(k:Nat):Sl (w.drewN k) e size A n xs:=h
def Sl.iy(h:Sl w e size A n xs)(l:∀b c,A=some (Z b c)->b<w.heap.size->w'.heap[b]?=w.heap[b]?):Sl w' e size A n xs:=
 ⟨h.1,λm=>by
   obtain⟨b,c,cs,i,f,hb,j⟩:=h.2 m;have ag:b<w.heap.size:=Mx;exact⟨b,c,cs,i,f,(l b c f ag).trans hb,j⟩⟩
def Sl.hF(h:Sl w e size A n xs)(f:J [] w w'):Sl w' e size A n xs:=h.iy λb _ _ c=>f.block b c H
def Sl.alloc(h:Sl w e size A n xs)(o:Obj):Sl (w.alloc o) e size A n xs:=h.hF ((F_ [] w).alloc o)
def Sl.iq(h:Sl w e size A n xs){g:Nat}{t:TypeId}{cs:Array Value}(c:Bk w g t cs)(f:e≠t)(p:J [g] w w'):Sl w' e size A n xs:=
 ⟨h.1,λr=>by
   obtain⟨b,x,d,i,j,hb,m⟩:=h.2 r;have l:b≠g:=by
    rintro rfl;unfold Bk at c;rw[hb]at c;injection c with c;injection c with _ u _;exact f u
   have ag:b<w.heap.size:=Mx;exact⟨b,x,d,i,j,(p.block b ag (zu l)).trans hb,m⟩⟩
def Sl.f_(h:Sl w e size A n xs)(p:0<n):∃b f,A=some (Z b f)/\∀c u,xs[c]?=some u->w.cell? (Z b (f+c))=some u:=by
 obtain⟨b,f,cs,i,j,l,m⟩:=h.2 p;exact⟨b,f,j,λc u q=>by rw[cell_of_row w b _ cs e i l];exact m c u q⟩
def Sl.m7(h:Sl w e size A n xs)(j:0<n):∃d,A=some d/\∀c u,xs[c]?=some u->w.cell? (d.add c)=some u:=by
 obtain⟨b,m,f,i⟩:=h.f_ j;exact⟨_,f,λc u l=>by rw[m9];exact i c u l⟩
def Sl.iP{p:Nat}(h:w.ownsRow base e size (.slice A n p) n xs):Sl w e size A n xs:=by
 refine⟨h.1,λr=>?_⟩;rcases h.2 with⟨f,q⟩|⟨g,v,i,f,_,l,_,_,_,m⟩
 omega;injection f with j _ _;refine⟨g,0,i,(0,0),j,l,λu x c=>?_⟩;rw[<-m,G1]at c;split at c
 .simpa using c
 cases c
end
def iM{α:Type}(p:α->Bool):List α->Nat->Int
 |[],_=> -1
 |x::l,k=>if p x then(k:Int) else iM p l (k+1)
def lA(p:α->Bool)(l:List α)(k c:Nat)(h:c<l.length)(f:p l[c]=true):iM p (l.drop c) k=k:=by
 rw[R_ h];simp[iM,f]
def kt(p:α->Bool)(l:List α)(k c:Nat)(h:c<l.length)(f:p l[c]=false):iM p (l.drop c) k=iM p (l.drop (c+1)) (k+1):=by
 rw[R_ h];simp[iM,f]
def l0(p:α->Bool)(l:List α)(k c:Nat)(h:l.length<=c):iM p (l.drop c) k= -1:=by
 rw[GD h];rfl
def nC(p:α->Bool)(l:List α)(k:Nat): -1<=iM p l k/\iM p l k<(k+l.length:Nat):=by
 induction l generalizing k with
 |nil=>simp[iM];omega
 |cons f l c=>simp only[iM,Y_];have:=c (k+1);split<;>omega
def Sl.at_{w:World}{e:TypeId}{A:OA}{n:Nat}{xs:QW}(h:Sl w e 1 A n xs)(l:k<n):∃b c u,A=some (Z b c)/\xs[k]?=some u/\w.cell? (Z b (c+k))=some u:=by
 obtain⟨b,c,i,j⟩:=h.f_ X;have f:k<xs.length:=ov h.1;exact⟨b,c,xs[k],i,K_ f,j k _ (K_ f)⟩
def iD{w w':World}{e:TypeId}{size:Nat}{n:Nat}{xs:QW}(h:w.ownsRow base e size v n xs)(c:J [] w w'):w'.ownsRow base e size v n xs:=
 h.kept (c.y0 none) (by cases v.ownBlock<;>simp)
def j9{w w':World}{e:TypeId}{size:Nat}{n:Nat}{xs:QW}{g:Nat}{t:TypeId}{cs:Array Value}(h:w.ownsRow base e size v n xs)(l:Bk w g t cs)(f:e≠t)(j:J [g] w w'):w'.ownsRow base e size v n xs:=by
 refine h.kept j.vV ?_;rcases h.2 with⟨rfl,_⟩|⟨m,q,p,rfl,_,c,_⟩
 exact .inl rfl;right;intro i;have:m=g:=by simpa[Value.ownBlock]using i
 subst this;exact(Bk.l8 (t:=e) c l f) rfl
def pV(w:World)(base:Nat)(e:TypeId)(size g:Nat)(f:w.heap.size=g)(c:base<=g):(w.alloc (.cells #[] e)).ownsRow base e size (.slice (j_ g) 0 0) 0 []:=by
 subst f;exact World.ownsRow_lit w #[] 0 c (by simp[maxLen]) H
def iS(w:World)(base:Nat)(e:TypeId)(size:Nat):w.ownsRow base e size (n_) 0 []:=World.ownsRow_nil w base e size
def oA{w:World}{d:Nat}{e:TypeId}{size:Nat}{n:Nat}{xs:QW}(h:w.ownsRow base e size v n xs)(m:d<=base):w.ownsRow d e size v n xs:=by
 refine⟨h.1,?_⟩;rcases h.2 with h|⟨g,j,c,f,l,i⟩
 exact .inl h;exact .inr ⟨g,j,c,f,X,i⟩
structure App(base:Nat)(e:TypeId)(w w':World):Prop where
 gr:∀(M:QY) (a:World),a.heap.size<=base->J M a w->J M a w'
 iy:∀(k:Nat) (o:Obj),w.heap[k]?=some o->(k<base∨∀cs fz,o≠ .cells cs e fz)->w'.heap[k]?=some o
 size:w.heap.size<=w'.heap.size
def App.iR{e:TypeId}{size:Nat}{w w':World}{n:Nat}{xs:QW}(h:w.ownsRow base e size v n xs)(l:w.grownBy w' v.ownBlock):App base e w w':=by
 refine⟨λM a q r=>r.grown l λk f=>.inr (G_ q (h.lt k f).1),λk o c f=>?_,l.size⟩;have i:k<w.heap.size:=by
  rcases Ga k w.heap.size with i|p
  exact i;rw[F8 p]at c;cases c
 refine(l.block k i ?_).trans c;intro j;rcases f with f|f
 have:=(h.lt k j.symm).1;omega;rcases h.2 with⟨rfl,_⟩|⟨g,x,u,rfl,_,m,_⟩
 .simp[Value.ownBlock]at j
 have:k=g:=by simpa[Value.ownBlock]using j
 subst this;rw[m]at c;injection c with c;exact f _ _ c.symm
def App.bk{e t:TypeId}{w w':World}{g:Nat}{cs:Array Value}(h:App base e w w')(f:Bk w g t cs)(c:t≠e):Bk w' g t cs:=
 h.iy g _ f (.inr λd j i=>c (by injection i))
def App.sl{e:TypeId}{size:Nat}{w w':World}{A:OA}{n:Nat}{xs:QW}(h:App base e w w')(c:Sl w C size A n xs)(f:C≠e):Sl w' C size A n xs:=
 ⟨c.1,λq=>by
   obtain⟨b,r,cs,i,j,l,m⟩:=c.2 q;exact⟨b,r,cs,i,j,h.iy b _ l (.inr λd u p=>f (by injection p)),m⟩⟩
section
variable{P:Program}(w:World)
def mq(base:Nat)(t ty e:TypeId)(i:TypeInfo)(size:Nat)(h:P.underlying t=some (.slice e))(f:P.info? e=some i)
 (v:Value) (n:Nat) (xs:QW) (j:w.ownsRow base e size v n xs) (A:OA) (c:Nat):(Builtin.append_ #[t,t] ty #[v,.slice A 0 c]).run P w=.ok v w:=by
 rcases j.2 with⟨rfl,rfl⟩|⟨g,m,l,rfl,_,_,C,_⟩
 cases A<;>simp[Builtin.append_,G0 h,sizeOf,typeInfo,f,Builtin.lenOf,Builtin.firstCells,loadCells,loadCellsFrom]
 cases A<;>simp[Builtin.append_,G0 h,sizeOf,typeInfo,f,Builtin.lenOf,Builtin.firstCells,C,storeCells,loadCells,loadCellsFrom]
def Ck(base:Nat)(t ty e:TypeId)(i:TypeInfo)(z:Value)(size bytes:Nat)(ht:P.underlying t=some (.slice e))(hi:P.info? e=some i)(hz:i.zero=some z)
 (q:i.size=size) (p:i.bytes=bytes) (y:z.cells.size=size) (aS:0<size)
 (B:OA) (aB n:Nat) (xs:QW) (ak:w.ownsRow base e size (.slice B n aB) n xs)
 (A:OA) (m c:Nat) (news:QW) (hr:Sl w e size A m news) (h1:∀u∈news,u.oneCell'=true)
 (f:(n+m)*bytes<=140737488355328) (ad:0<bytes) (aG:base<=w.heap.size):
 ∃A' c' w',(Builtin.append_ #[t,t] ty #[.slice B n aB,.slice A m c]).run P w=.ok (.slice A' (n+m) c') w'/\w'.ownsRow base e size (.slice A' (n+m) c') (n+m) (xs++news)/\App base e w w':=by
 exact I8
def Ae{a:Act}(s x:Operand)(t:TypeId)(ho:o.op=.call {callee:=.builtin .append,args:=#[s,x],argTypes:=#[t,t]})(base:Nat)(e:TypeId)(i:TypeInfo)(z:Value)(size bytes:Nat)(N:P.underlying t=some (.slice e))(I:P.info? e=some i)(O:i.zero=some z)(q:i.size=size)(p:i.bytes=bytes)(y:z.cells.size=size)(D:0<size)(F:0<bytes)(l:OA)(n r:Nat)(xs:QW)(hs:a.eval s=.slice l n r)(G:w.ownsRow base e size (.slice l n r) n xs)(A:OA)(m c:Nat)(j:QW)(hx:a.eval x=.slice A m c)(J:Sl w e size A m j)(H:∀u∈j,u.oneCell'=true)(f:(n+m)*bytes<=140737488355328)(B:base<=w.heap.size)(h:∀(A':OA) (c':Nat) (w':World),w'.ownsRow base e size (.slice A' (n+m) c') (n+m) (xs++j)->App base e w w'->K (a.put o.dst (.slice A' (n+m) c')) w'):o.wp P a w K Q:=by
 obtain⟨A',c',w',L,h2,h3⟩:=Ck (P:=P) w base t o.type e i z size bytes N I O q p y D l r n xs G A m c j J H f F B;exact KZ
def sK{rest:QZ}{a:Act}(D:o.guard=none)(s x:Operand)(t:TypeId)(R:o.op=.call {callee:=.builtin .append,args:=#[s,x],argTypes:=#[t,t]})(base:Nat)(e:TypeId)(i:TypeInfo)(z:Value)(size bytes:Nat)(U:P.underlying t=some (.slice e))(O:P.info? e=some i)(W:i.zero=some z)(q:i.size=size)(p:i.bytes=bytes)(y:z.cells.size=size)(G:0<size)(H:0<bytes)(l:OA)(n r:Nat)(xs:QW)(T:a.eval s=.slice l n r)(I:w.ownsRow base e size (.slice l n r) n xs)(A:OA)(m c:Nat)(j:QW)(V:a.eval x=.slice A m c)(S:Sl w e size A m j)(J:∀u∈j,u.oneCell'=true)(f:(n+m)*bytes<=140737488355328)(F:base<=w.heap.size)(h:∀(A':OA) (c':Nat) (w':World),w'.ownsRow base e size (.slice A' (n+m) c') (n+m) (xs++j)->App base e w w'->wpList P ops Q rest (a.put o.dst (.slice A' (n+m) c')) w'):wpList P ops Q (o::rest) a w:=
 wpList_plain D λ_ B=>Ae w s x t R base e i z size bytes U O W q p y G H l n r xs T I A m c j V S J f F λA' c' w' L N=>B _ _ (h A' c' w' L N)
end
section
variable{P:Program}(w:World)
end
def Sl.new(w:World)(e:TypeId)(size:Nat)(cs:Array Value)(n g:Nat)(c:w.heap.size=g)(f:cs.size=n*size):Sl (w.alloc (.cells cs e)) e size (j_ g) n cs.toList:=by
 subst c;exact⟨by simpa using f,λ_=>⟨_,_,cs,(0,0),rfl,Ij w _,λi j h=>by simpa using h⟩⟩
def EU(w:World)(f:TypeId)(c:Array Value):Bk (w.alloc (.cells c f)) (w.heap.size) f c/\J [] w (w.alloc (.cells c f)):=⟨(P_ w f c),((F_ [] w).alloc _)⟩
def pZ(w:World)(f:TypeId)(c:Array Value)(h:TypeId)(c1:Array Value):Bk ((w.alloc (.cells c f)).alloc (.cells c1 h)) (w.heap.size) f c/\Bk ((w.alloc (.cells c f)).alloc (.cells c1 h)) (w.heap.size+1) h c1/\J [] w ((w.alloc (.cells c f)).alloc (.cells c1 h)):=⟨((P_ w f c).alloc _),(zu (P_ (w.alloc (.cells c f)) h c1)),(((F_ [] w).alloc _).alloc _)⟩
def w6(w:World)(f:TypeId)(c:Array Value)(h:TypeId)(c1:Array Value)(Q:TypeId)(i:Array Value):Bk (((w.alloc (.cells c f)).alloc (.cells c1 h)).alloc (.cells i Q)) (w.heap.size) f c/\Bk (((w.alloc (.cells c f)).alloc (.cells c1 h)).alloc (.cells i Q)) (w.heap.size+1) h c1/\Bk (((w.alloc (.cells c f)).alloc (.cells c1 h)).alloc (.cells i Q)) (w.heap.size+1+1) Q i/\J [] w (((w.alloc (.cells c f)).alloc (.cells c1 h)).alloc (.cells i Q)):=⟨(((P_ w f c).alloc _).alloc _),(zu ((P_ (w.alloc (.cells c f)) h c1).alloc _)),(zu (P_ ((w.alloc (.cells c f)).alloc (.cells c1 h)) Q i)),((((F_ [] w).alloc _).alloc _).alloc _)⟩
def Df(w:World)(f:TypeId)(c:Array Value)(h:TypeId)(c1:Array Value)(Q:TypeId)(i:Array Value)(j:TypeId)(c3:Array Value):Bk ((((w.alloc (.cells c f)).alloc (.cells c1 h)).alloc (.cells i Q)).alloc (.cells c3 j)) (w.heap.size) f c/\Bk ((((w.alloc (.cells c f)).alloc (.cells c1 h)).alloc (.cells i Q)).alloc (.cells c3 j)) (w.heap.size+1) h c1/\Bk ((((w.alloc (.cells c f)).alloc (.cells c1 h)).alloc (.cells i Q)).alloc (.cells c3 j)) (w.heap.size+1+1) Q i/\Bk ((((w.alloc (.cells c f)).alloc (.cells c1 h)).alloc (.cells i Q)).alloc (.cells c3 j)) (w.heap.size+1+1+1) j c3/\J [] w ((((w.alloc (.cells c f)).alloc (.cells c1 h)).alloc (.cells i Q)).alloc (.cells c3 j)):=⟨((((P_ w f c).alloc _).alloc _).alloc _),(zu (((P_ (w.alloc (.cells c f)) h c1).alloc _).alloc _)),(zu ((P_ ((w.alloc (.cells c f)).alloc (.cells c1 h)) Q i).alloc _)),(zu (P_ (((w.alloc (.cells c f)).alloc (.cells c1 h)).alloc (.cells i Q)) j c3)),(((((F_ [] w).alloc _).alloc _).alloc _).alloc _)⟩
def FE(w:World)(f:TypeId)(c:Array Value)(h:TypeId)(c1:Array Value)(Q:TypeId)(i:Array Value)(j:TypeId)(c3:Array Value)(m:TypeId)(l:Array Value):Bk (((((w.alloc (.cells c f)).alloc (.cells c1 h)).alloc (.cells i Q)).alloc (.cells c3 j)).alloc (.cells l m)) (w.heap.size) f c/\Bk (((((w.alloc (.cells c f)).alloc (.cells c1 h)).alloc (.cells i Q)).alloc (.cells c3 j)).alloc (.cells l m)) (w.heap.size+1) h c1/\Bk (((((w.alloc (.cells c f)).alloc (.cells c1 h)).alloc (.cells i Q)).alloc (.cells c3 j)).alloc (.cells l m)) (w.heap.size+1+1) Q i/\Bk (((((w.alloc (.cells c f)).alloc (.cells c1 h)).alloc (.cells i Q)).alloc (.cells c3 j)).alloc (.cells l m)) (w.heap.size+1+1+1) j c3/\Bk (((((w.alloc (.cells c f)).alloc (.cells c1 h)).alloc (.cells i Q)).alloc (.cells c3 j)).alloc (.cells l m)) (w.heap.size+1+1+1+1) m l/\J [] w (((((w.alloc (.cells c f)).alloc (.cells c1 h)).alloc (.cells i Q)).alloc (.cells c3 j)).alloc (.cells l m)):=⟨(((((P_ w f c).alloc _).alloc _).alloc _).alloc _),(zu ((((P_ (w.alloc (.cells c f)) h c1).alloc _).alloc _).alloc _)),(zu (((P_ ((w.alloc (.cells c f)).alloc (.cells c1 h)) Q i).alloc _).alloc _)),(zu ((P_ (((w.alloc (.cells c f)).alloc (.cells c1 h)).alloc (.cells i Q)) j c3).alloc _)),(zu (P_ ((((w.alloc (.cells c f)).alloc (.cells c1 h)).alloc (.cells i Q)).alloc (.cells c3 j)) m l)),((((((F_ [] w).alloc _).alloc _).alloc _).alloc _).alloc _)⟩
def ou{P:Program}{w:World}{a:Act}(B:o.guard=none)(s x:Operand)(t:TypeId)(N:o.op=.call {callee:=.builtin .append,args:=#[s,x],argTypes:=#[t,t]})(base:Nat)(e:TypeId)(i:TypeInfo){z:Value}(size bytes:Nat)(S:P.underlying t=some (.slice e))(L:P.info? e=some i)(U:i.zero=some z)(q:i.size=size)(p:i.bytes=bytes)(y:z.cells.size=size)(G:0<size)(H:0<bytes)(l:OA)(n r:Nat)(xs:QW)(R:a.eval s=.slice l n r)(I:w.ownsRow base e size (.slice l n r) n xs)(A:OA)(m c:Nat){j:QW}(T:a.eval x=.slice A m c)(O:Sl w e size A m j)(J:∀u∈j,u.oneCell'=true)(f:(n+m)*bytes<=140737488355328)(F:base<=w.heap.size)(h:∀(A':OA) (c':Nat) (w':World),w'.ownsRow base e size (.slice A' (n+m) c') (n+m) (xs++j)->App base e w w'->K (a.put o.dst (.slice A' (n+m) c')) w'):
 if Region.wanted o (yielded ops a.tmps)=true then Oper.wp P o a w K Q else E:=by
 have D:Region.wanted o (yielded ops a.tmps)=true:=by simp[Region.wanted,B]
 rw[U_ D];exact Ae w s x t N base e i z size bytes S L U q p y G H l n r xs R I A m c j T O J f F h
def kX{w:World}{o:Obj}(c:w.heap[k]?=some o):k<w.heap.size:=by
 rcases Ga k w.heap.size with f|h
 exact f;rw[F8 h]at c;cases c
section
variable{base:Nat}{e:TypeId}{w w1 w2:World}
end
section
variable{P:Program}(w:World)
def AM(base:Nat)(t ty e:TypeId)(i:TypeInfo)(z:Value)(size bytes:Nat)(ht:P.underlying t=some (.slice e))(hi:P.info? e=some i)(hz:i.zero=some z)(q:i.size=size)(p:i.bytes=bytes)(y:z.cells.size=size)(aS:0<size)(B:OA)(aB n:Nat)(xs:QW)(ak:w.ownsRow base e size (.slice B n aB) n xs)(A:OA)(m c:Nat)(news:QW)(hr:Sl w C size A m news)(h1:∀u∈news,u.oneCell'=true)(f:(n+m)*bytes<=140737488355328)(ad:0<bytes)(aG:base<=w.heap.size):
 ∃A' c' w',(Builtin.append_ #[t,t] ty #[.slice B n aB,.slice A m c]).run P w=.ok (.slice A' (n+m) c') w'/\w'.ownsRow base e size (.slice A' (n+m) c') (n+m) (xs++news)/\App base e w w':=by
 exact I8
def yc{a:Act}(s x:Operand)(t:TypeId)(ho:o.op=.call {callee:=.builtin .append,args:=#[s,x],argTypes:=#[t,t]})(base:Nat)(e:TypeId)(i:TypeInfo)(z:Value)(size bytes:Nat)(N:P.underlying t=some (.slice e))(I:P.info? e=some i)(O:i.zero=some z)(q:i.size=size)(p:i.bytes=bytes)(y:z.cells.size=size)(D:0<size)(F:0<bytes)(l:OA)(n r:Nat)(xs:QW)(hs:a.eval s=.slice l n r)(G:w.ownsRow base e size (.slice l n r) n xs)(A:OA)(m c:Nat)(j:QW)(hx:a.eval x=.slice A m c)(J:Sl w C size A m j)(H:∀u∈j,u.oneCell'=true)(f:(n+m)*bytes<=140737488355328)(B:base<=w.heap.size)(h:∀(A':OA) (c':Nat) (w':World),w'.ownsRow base e size (.slice A' (n+m) c') (n+m) (xs++j)->App base e w w'->K (a.put o.dst (.slice A' (n+m) c')) w'):o.wp P a w K Q:=by
 obtain⟨A',c',w',L,h2,h3⟩:=AM (P:=P) w base t o.type e i z size bytes N I O q p y D l r n xs G A m c j J H f F B;exact KZ
def iL{rest:QZ}{a:Act}(D:o.guard=none)(s x:Operand)(t:TypeId)(R:o.op=.call {callee:=.builtin .append,args:=#[s,x],argTypes:=#[t,t]})(base:Nat)(e:TypeId)(i:TypeInfo)(z:Value)(size bytes:Nat)(U:P.underlying t=some (.slice e))(O:P.info? e=some i)(W:i.zero=some z)(q:i.size=size)(p:i.bytes=bytes)(y:z.cells.size=size)(G:0<size)(H:0<bytes)(l:OA)(n r:Nat)(xs:QW)(T:a.eval s=.slice l n r)(I:w.ownsRow base e size (.slice l n r) n xs)(A:OA)(m c:Nat)(j:QW)(V:a.eval x=.slice A m c)(S:Sl w C size A m j)(J:∀u∈j,u.oneCell'=true)(f:(n+m)*bytes<=140737488355328)(F:base<=w.heap.size)(h:∀(A':OA) (c':Nat) (w':World),w'.ownsRow base e size (.slice A' (n+m) c') (n+m) (xs++j)->App base e w w'->wpList P ops Q rest (a.put o.dst (.slice A' (n+m) c')) w'):wpList P ops Q (o::rest) a w:=
 wpList_plain D λ_ B=>yc w s x t R base e i z size bytes U O W q p y G H l n r xs T I A m c j V S J f F λA' c' w' L N=>B _ _ (h A' c' w' L N)
end
def nA{P:Program}{w:World}{a:Act}(B:o.guard=none)(s x:Operand)(t:TypeId)(N:o.op=.call {callee:=.builtin .append,args:=#[s,x],argTypes:=#[t,t]})(base:Nat)(e:TypeId)(i:TypeInfo)(z:Value)(size bytes:Nat)(S:P.underlying t=some (.slice e))(L:P.info? e=some i)(U:i.zero=some z)(q:i.size=size)(p:i.bytes=bytes)(y:z.cells.size=size)(G:0<size)(H:0<bytes)(l:OA)(n r:Nat)(xs:QW)(R:a.eval s=.slice l n r)(I:w.ownsRow base e size (.slice l n r) n xs)(A:OA)(m c:Nat)(j:QW)(T:a.eval x=.slice A m c)(O:Sl w C size A m j)(J:∀u∈j,u.oneCell'=true)(f:(n+m)*bytes<=140737488355328)(F:base<=w.heap.size)(h:∀(A':OA) (c':Nat) (w':World),w'.ownsRow base e size (.slice A' (n+m) c') (n+m) (xs++j)->App base e w w'->K (a.put o.dst (.slice A' (n+m) c')) w'):
 if Region.wanted o (yielded ops a.tmps)=true then Oper.wp P o a w K Q else E:=by
 have D:Region.wanted o (yielded ops a.tmps)=true:=by simp[Region.wanted,B]
 rw[U_ D];exact yc w s x t N base e i z size bytes S L U q p y G H l n r xs R I A m c j T O J f F h
def info_parts{P:Program}{t:TypeId}{f:Value}{b:Nat}(h:(P.info? t).map (λi=>(i.zero,i.size,i.bytes))=some (some f,s,b)):∃i,P.info? t=some i/\i.zero=some f/\i.size=s/\i.bytes=b:=by
 cases c:P.info? t with
 |none=>rw[c]at h;simp at h
 |some i=>rw[c]at h;simp at h;exact⟨i,rfl,h.1,h.2.1,h.2.2⟩
def DH{w:World}{d:Nat}{e:TypeId}{size:Nat}{n:Nat}{xs:QW}(h:w.ownsRow d e size v n xs)(m:base<=d):w.ownsRow base e size v n xs:=by
 refine⟨h.1,?_⟩;rcases h.2 with f|⟨g,p,c,i,j,l⟩
 exact .inl f;exact .inr ⟨g,p,c,i,G_ m j,l⟩
def Bk.hF{w w':World}{g:Nat}{t:TypeId}{cs:Array Value}(h:Bk w g t cs)(c:J [] w w'):Bk w' g t cs:=h.gr c H
def CX{W w1:World}{t:TypeId}{cs:Array Value}{p:Nat}(c:J [] (W.alloc (.cells cs t)) w1)(f:W.heap.size=p):Bk w1 p t cs:=by
 subst f;exact(P_ W t cs).gr c H
def iY{w:World}{e:TypeId}{size:Nat}{A:OA}{n c:Nat}{xs:QW}(h:w.ownsRow base e size (.slice A n c) n xs):n<=c:=by
 rcases h.2 with⟨f,j⟩|⟨g,m,i,f,_,_,l,_⟩
 omega;injection f with _ _ f;omega
def kj(f:α->List Value)(s:Nat)(h:∀a,(f a).length=s)(l:List α):(l.flatMap f).length=l.length*s:=by
 induction l with
 |nil=>simp
 |cons i l c=>simp only[Gi,I_,h,c,Y_,Hp,Io];omega
def ja(f:α->List Value)(s:Nat)(h:∀a,(f a).length=s)(l:List α)(k c:Nat)(i:k<l.length)(m:c<s):(l.flatMap f)[k*s+c]?=(f l[k])[c]?:=by
 induction l generalizing k with
 |nil=>simp at i
 |cons p l j=>
  cases k with
  |zero=>simp only[Gi,H1,X_,Ha];rw[GT (by rw[h];exact m)]
  |succ k=>
   simp only[Gi,HV];have e:(k+1)*s+c=s+(k*s+c):=by rw[Hp,Io];omega
   rw[e,Hk (by rw[h];omega),h,Nat.add_sub_cancel_left];exact j k (zu i)
def xt(E:α->List Value)(s:Nat)(r:0<s)(p:∀a,(E a).length=s){w:World}{x:Addr}{len:Nat}{f:Nat->α}(hc:∀i,i<len->∀c u,(E (f i))[c]?=some u->w.cell? (x.add (i*s+c))=some u):
 ∃e,Sl w e s (some x) len (((List.range len).map f).flatMap E):=by
 have iF:(((List.range len).map f).flatMap E).length=len*s:=by rw[kj E s p];simp
 by_cases G:len=0;subst G;exact⟨0,GU w 0 s (some x)⟩;have g:0<(E (f 0)).length:=by rw[p];exact r
 have h:=hc 0 X 0 _ (K_ g);have D:x.add (0*s+0)=x:=by simp[Addr.add]
 rw[D]at h;obtain⟨b,I,F⟩:=x;unfold World.cell? at h;cases l:w.heap[b]? with
 |none=>rw[l]at h;simp at h
 |some o=>
  rw[l]at h;cases o with
  |cells cs e z=>
   cases F with
   |some s=>simp at h
   |none=>
    refine⟨e,iF,λ_=>⟨b,I,cs,z,rfl,l,λc u j=>?_⟩⟩;have H:c<len*s:=by
     rcases Ga c (len*s)with m|m
     exact m;rw[Gk (by rw[iF];exact m)]at j;cases j
    have B:c / s<len:=by rw[Nat.div_lt_iff_lt_mul r];exact H
    have y:=ja E s p ((List.range len).map f) (c / s) (c % s) (zu B) (Nat.mod_lt _ r);have d:c / s*s+c % s=c:=by rw[Nat.mul_comm];exact Nat.div_add_mod c s
    rw[d]at y;rw[y]at j;simp only[Hq,HF]at j;have:=hc (c / s) B (c % s) u j;rw[d,m9,cell_of_row w b _ cs e z l]at this;exact this
  |_=>simp at h
def kz{wr w':World}{e:TypeId}{size x:Nat}{n:Nat}{xs:QW}(h:wr.ownsRow base e size v n xs)(l:∀cs f,wr.heap[x]?≠some (.cells cs e f))(j:J [x] wr w'):w'.ownsRow base e size v n xs:=by
 refine h.kept j.vV ?_;rcases h.2 with⟨rfl,_⟩|⟨m,q,p,rfl,_,c,_⟩
 exact .inl rfl;right;intro i;have:m=x:=by simpa[Value.ownBlock]using i
 subst this;exact l _ _ c
def qE(E:α->List Value)(c:∀a,∀u∈E a,u.oneCell'=true)(l:List α):∀u∈l.flatMap E,u.oneCell'=true:=by
 intro u f;obtain⟨v,_,h⟩:=HT.1 f;exact c v u h
def Sl.row{E:α->List Value}(hE:∀a,(E a).length=s){w:World}{A:OA}{l:List α}(h:Sl w ty s A l.length (l.flatMap E))(p:k<l.length):
 ∃b c,A=some (Z b c)/\∀j u,(E l[k])[j]?=some u->w.cell? ⟨b,c+(k*s+j),none⟩=some u:=by
 obtain⟨b,c,f,i⟩:=Sl.f_ h X;refine⟨b,c,f,λj u hu=>i (k*s+j) u ?_⟩;have m:j<s:=Mi;rw[ja E s hE l k j p m];exact hu
def tM(E:α->List Value)(s:Nat)(c:∀a,(E a).length=s)(l:List α)(k:Nat):(l.take k).flatMap E=(l.flatMap E).take (k*s):=by
 induction l generalizing k with
 |nil=>simp
 |cons h l f=>
  cases k with
  |zero=>simp
  |succ k=>
   rw[IF,Gi,Gi,f,List.take_append,c,F7 (l:=E h) (by rw[c,Hp];omega),show(k+1)*s-s=k*s by rw[Hp];omega]
def x2(E:α->List Value)(s:Nat)(c:∀a,(E a).length=s)(l:List α)(k:Nat):(l.drop k).flatMap E=(l.flatMap E).drop (k*s):=by
 induction l generalizing k with
 |nil=>simp
 |cons h l f=>
  cases k with
  |zero=>simp
  |succ k=>
   rw[List.drop_succ_cons,Gi,f,List.drop_append,c,GG (l:=E h) (by rw[c,Hp];omega),show(k+1)*s-s=k*s by rw[Hp];omega,Gf]
def Sl.yg{E:α->List Value}(f:∀a,(E a).length=s){w:World}{A:OA}{l:List α}(h:Sl w ty s A l.length (l.flatMap E))(q:k<=l.length):
 Sl w ty s A k ((l.take k).flatMap E):=by
 refine⟨by rw[kj E s f,Gp,Ig q],λy=>?_⟩;obtain⟨b,u,cs,i,j,m,p⟩:=h.2 X;refine⟨b,u,cs,i,j,m,λr x c=>p r x ?_⟩;rw[tM E s f,G1]at c;split at c;exact c;cases c
def Sl.yB{E:α->List Value}(c:∀a,(E a).length=s){w:World}{A:OA}{l:List α}(h:Sl w ty s A l.length (l.flatMap E))(z:k<=l.length)(q:Nat)(x:l.length<=q):
 Sl w ty s (if q=k then A else A.map (·.add (k*s))) (l.length-k) ((l.drop k).flatMap E):=by
 refine⟨by rw[kj E s c,GQ],λy=>?_⟩;obtain⟨b,r,cs,i,j,m,p⟩:=h.2 X;subst j;rw[T_ X];refine⟨b,r+k*s,cs,i,by simp[m9],m,λB u f=>?_⟩;rw[HE];refine p _ u ?_;rw[x2 E s c,H6]at f;exact f
def kW{w:World}{g:Nat}{t:TypeId}{cs:Array Value}(h:Bk w g t cs)(c:cs.size=s):Sl w t s (j_ g) 1 cs.toList:=
 ⟨by simp[c],λ_=>⟨g,0,cs,(0,0),rfl,h,λi j f=>by simpa using f⟩⟩
section
variable{P:Program}(w:World)
def AJ(t ty e:TypeId)(i:TypeInfo)(F:Value)(size bytes:Nat)(B:P.underlying t=some (.slice e))(z:P.info? e=some i)(Z:i.zero=some F)(q:i.size=size)(p:i.bytes=bytes)(y:F.cells.size=size)(V:0<size)(ad:0<bytes)(A:OA)(n:Nat)(xs:QW)(l:Sl w e size A n xs)(x:OA)(m c:Nat)(r:QW)(D:Sl w C size x m r)(h1:∀u∈r,u.oneCell'=true)(f:(n+m)*bytes<=140737488355328):
 ∃A' c' w',(Builtin.append_ #[t,t] ty #[.slice A n n,.slice x m c]).run P w=.ok (.slice A' (n+m) c') w'/\n+m<=c'/\Sl w' e size A' (n+m) (xs++r)/\J [] w w':=by
 have ae:n+m<=maxLen:=by
  have:n+m<=(n+m)*bytes:=HR _ ad;simp only[maxLen];omega
 rcases GR m with S|S
 .subst S;have h:=Gh (zu D.1);subst h;refine⟨A,n,w,?_,X,by simpa using l,F_ _ _⟩;rcases GR n with h|h
  .subst h;cases A with
   |none=>cases x<;>simp[Builtin.append_,G0 B,sizeOf,typeInfo,z,Builtin.lenOf,Builtin.firstCells,loadCells,loadCellsFrom]
   |some a=>cases x<;>simp[Builtin.append_,G0 B,sizeOf,typeInfo,z,Builtin.lenOf,Builtin.firstCells,storeCells,loadCells,loadCellsFrom]
  obtain⟨b,off,rfl,_⟩:=Sl.f_ l h;cases x<;>simp[Builtin.append_,G0 B,sizeOf,typeInfo,z,Builtin.lenOf,Builtin.firstCells,storeCells,loadCells,loadCellsFrom]
 obtain⟨d,rfl,Y⟩:=D.m7 S;have W:∀j w',w'.ownsRow w.heap.size e size j (n+m) (xs++r)->w.grownBy w' none->∃A' c',j=.slice A' (n+m) c'/\n+m<=c'/\Sl w' e size A' (n+m) (xs++r)/\J [] w w':=by
  intro j w' T hg;obtain⟨A',c',rfl⟩:∃A' c',j=.slice A' (n+m) c':=by
   rcases T.2 with⟨rfl,h0⟩|⟨g,lR,cur,rfl,_⟩
   exact⟨none,0,by rw[h0]⟩;exact⟨_,_,rfl⟩
  exact⟨A',c',rfl,iY T,Sl.iP T,(F_ [] w).grown hg H⟩
 cases A with
 |none=>
  have h:n=0:=by
   rcases GR n with h|h
   exact h;obtain⟨b,off,O,_⟩:=Sl.f_ l h;cases O
  subst h;have U:=Gh (zu l.1);subst U;obtain⟨j,w',G,R,h3,_⟩:=run_append_own (P:=P) w w.heap.size t ty e i F size bytes B z Z q p y V _ 0 [] (iS w w.heap.size e size) d m c r D.1 Y h1 ae f (H_ _);obtain⟨A',c',rfl,I,L,N⟩:=W j w' R h3;exact⟨A',c',w',G,I,L,N⟩
 |some a=>
  have k:∀af u,xs[af]?=some u->w.cell? (a.add af)=some u:=by
   rcases GR n with h|h
   subst h;have U:=Gh (zu l.1);subst U;simp;obtain⟨a',R,O⟩:=l.m7 h;injection R with R;subst R;exact O
  obtain⟨j,w',G,r1,r2⟩:=run_append_arg_grows (P:=P) w t ty e i F size bytes B z Z q p y V a n n xs l.1 k d m c r D.1 Y X ae f;obtain⟨A',c',rfl,I,L,N⟩:=W j w' r1 r2;exact⟨A',c',w',G,I,L,N⟩
def yb{a:Act}(s x:Operand)(t:TypeId)(ho:o.op=.call {callee:=.builtin .append,args:=#[s,x],argTypes:=#[t,t]})(e:TypeId)(i:TypeInfo)(r:Value)(size bytes:Nat)(I:P.underlying t=some (.slice e))(H:P.info? e=some i)(N:i.zero=some r)(q:i.size=size)(p:i.bytes=bytes)(y:r.cells.size=size)(z:0<size)(B:0<bytes)(A:OA)(n:Nat)(xs:QW)(hs:a.eval s=.slice A n n)(F:Sl w e size A n xs)(l:OA)(m c:Nat)(j:QW)(hx:a.eval x=.slice l m c)(G:Sl w C size l m j)(D:∀u∈j,u.oneCell'=true)(f:(n+m)*bytes<=140737488355328)(h:∀(A':OA) (c':Nat) (w':World),n+m<=c'->Sl w' e size A' (n+m) (xs++j)->J [] w w'->K (a.put o.dst (.slice A' (n+m) c')) w'):o.wp P a w K Q:=by
 obtain⟨A',c',w',L,h2,h3,am⟩:=AJ (P:=P) w t o.type e i r size bytes I H N q p y z B A n xs F l m c j G D f;exact KW
def pm{rest:QZ}{a:Act}(B:o.guard=none)(s x:Operand)(t:TypeId)(S:o.op=.call {callee:=.builtin .append,args:=#[s,x],argTypes:=#[t,t]})(e:TypeId)(i:TypeInfo)(r:Value)(size bytes:Nat)(U:P.underlying t=some (.slice e))(R:P.info? e=some i)(W:i.zero=some r)(q:i.size=size)(p:i.bytes=bytes)(y:r.cells.size=size)(D:0<size)(F:0<bytes)(A:OA)(n:Nat)(xs:QW)(T:a.eval s=.slice A n n)(N:Sl w e size A n xs)(l:OA)(m c:Nat)(j:QW)(V:a.eval x=.slice l m c)(O:Sl w C size l m j)(H:∀u∈j,u.oneCell'=true)(f:(n+m)*bytes<=140737488355328)(h:∀(A':OA) (c':Nat) (w':World),n+m<=c'->Sl w' e size A' (n+m) (xs++j)->J [] w w'->wpList P ops Q rest (a.put o.dst (.slice A' (n+m) c')) w'):wpList P ops Q (o::rest) a w:=
 wpList_plain B λ_ z=>yb w s x t S e i r size bytes U R W q p y D F A n xs T N l m c j V O H f λA' c' w' I L G=>z _ _ (h A' c' w' I L G)
def mJ{a:Act}(z:o.guard=none)(s x:Operand)(t:TypeId)(N:o.op=.call {callee:=.builtin .append,args:=#[s,x],argTypes:=#[t,t]})(e:TypeId)(i:TypeInfo)(r:Value)(size bytes:Nat)(R:P.underlying t=some (.slice e))(L:P.info? e=some i)(T:i.zero=some r)(q:i.size=size)(p:i.bytes=bytes)(y:r.cells.size=size)(D:0<size)(F:0<bytes)(A:OA)(n:Nat)(xs:QW)(O:a.eval s=.slice A n n)(H:Sl w e size A n xs)(l:OA)(m c:Nat)(j:QW)(S:a.eval x=.slice l m c)(I:Sl w C size l m j)(G:∀u∈j,u.oneCell'=true)(f:(n+m)*bytes<=140737488355328)(h:∀(A':OA) (c':Nat) (w':World),n+m<=c'->Sl w' e size A' (n+m) (xs++j)->J [] w w'->K (a.put o.dst (.slice A' (n+m) c')) w'):
 if Region.wanted o (yielded ops a.tmps)=true then Oper.wp P o a w K Q else E:=by
 have B:Region.wanted o (yielded ops a.tmps)=true:=by simp[Region.wanted,z]
 rw[U_ B];exact yb w s x t N e i r size bytes R L T q p y D F A n xs O H l m c j S I G f h
end
def ve(cs:Array Value)(o:Nat)(vs:QW):Array Value:=(cs.toList.take o++(vs++cs.toList.drop (o+vs.length))).toArray
def Aw(cs:Array Value)(o:Nat)(v:Value)(r:QW)(h:o+(v::r).length<=cs.size):ve (cs.setIfInBounds o v) (o+1) r=ve cs o (v::r):=by
 unfold ve;congr 1;rw[Ii];have c:o<cs.toList.length:=by simp at h |-;omega
 rw[Q_ (zu c),List.getElem_set_self,List.take_set_of_le (H_ _),IG X];simp only[Y_,GE,Hx,Gf,HE,Nat.add_comm 1]
def pN{g:Nat}{t:TypeId}:∀(vs:QW) (o:Nat) (w:World) (cs:Array Value),Bk w g t cs->o+vs.length<=cs.size->Bk (w.setCells g o vs) g t (ve cs o vs)/\J [g] w (w.setCells g o vs)
 |[],o,w,cs,h,_=>by
  refine⟨?_,F_ _ _⟩;have e:ve cs o []=cs:=by simp[ve]
  rw[e];exact h
 |v::i,o,w,cs,h,f=>by
  have c:=pN (g:=g) (t:=t) i (o+1) (w.setCell (Z g o) v) (cs.setIfInBounds o v) (h.hU o v) (by simp at f |-;omega);rw[Aw cs o v i f]at c;exact⟨c.1,((F_ [g] w).setCell (p:=(Z g o)) (.inl H) v).trans c.2⟩
def BJ{w:World}{g:Nat}{t:TypeId}{cs:Array Value}(h:Bk w g t cs)(o n:Nat)(i:o+n<=cs.size):w.there g o n:=λc f=>
 ⟨by rw[h.f_ (o+c),Gb X];rfl,h.hG _⟩
def qB(cs vs:Array Value)(h:vs.size=cs.size):ve cs 0 vs.toList=vs:=by
 unfold ve;have e:cs.toList.drop (0+vs.toList.length)=[]:=GD p_;rw[e];simp
section
variable{P:Program}
def jE{a:Act}{w:World}(ty:TypeId)(x y:Operand)(m:o.op=.store ty x y)(g c:Nat)(p:a.eval x=.pointer (some (Z g c)))(vs:Array Value)(hy:a.eval y=.agg vs)(t:TypeId)(cs:Array Value)(f:Bk w g t cs)(i:c+vs.size<=cs.size)(l:(P.info? ty).map (·.size)=some vs.size)(j:vs.all (·.oneCell')=true)(h:∀w',Bk w' g t (ve cs c vs.toList)->J [g] w w'->K (a.put o.dst undef) w'):o.wp P a w K Q:=
 wp_store_mid ty x y m g c vs p hy (BJ f c vs.size i) l j
  (h _ (pN vs.toList c w cs f (zu i)).1 (pN vs.toList c w cs f (zu i)).2)
def jf{rest:QZ}{a:Act}{w:World}(i:o.guard=none)(ty:TypeId)(x y:Operand)(r:o.op=.store ty x y)(g c:Nat)(z:a.eval x=.pointer (some (Z g c)))(vs:Array Value)(hy:a.eval y=.agg vs)(t:TypeId)(cs:Array Value)(p:Bk w g t cs)(u:c+vs.size<=cs.size)(q:(P.info? ty).map (·.size)=some vs.size)(j:vs.all (·.oneCell')=true)(h:∀w',Bk w' g t (ve cs c vs.toList)->J [g] w w'->wpList P ops Q rest (a.put o.dst undef) w'):wpList P ops Q (o::rest) a w:=
 wpList_plain i λ_ f=>jE ty x y r g c z vs hy t cs p u q j λw' l m=>f _ _ (h w' l m)
def oN{a:Act}{w:World}(ty:TypeId)(x:Operand)(r:o.op=.load ty x)(g i:Nat)(z:a.eval x=.pointer (some (Z g i)))(t:TypeId)(cs vs:Array Value)(l:Bk w g t cs)(y:∀c,c<vs.size->cs[i+c]?=vs[c]?)(d:TypeDesc)(u:P.underlying ty=some d)(m:d.isRow=true)(p:(P.info? ty).map (·.size)=some vs.size)(h:K (a.put o.dst (.agg vs)) w):o.wp P a w K Q:=by
 refine wp_load_mid ty x r g i z vs.toList d (λc v f=>?_) u m (zu p) (zu h);have j:c<vs.size:=by
  rcases Ga c vs.size with h|h
  exact h;rw[Gk (zu h)]at f;cases f
 rw[l.f_,y c j];simpa using f
def iC{rest:QZ}{a:Act}{w:World}(j:o.guard=none)(ty:TypeId)(x:Operand)(q:o.op=.load ty x)(g f:Nat)(y:a.eval x=.pointer (some (Z g f)))(t:TypeId)(cs vs:Array Value)(l:Bk w g t cs)(u:∀c,c<vs.size->cs[f+c]?=vs[c]?)(d:TypeDesc)(r:P.underlying ty=some d)(m:d.isRow=true)(p:(P.info? ty).map (·.size)=some vs.size)(h:wpList P ops Q rest (a.put o.dst (.agg vs)) w):wpList P ops Q (o::rest) a w:=
 wpList_plain j λ_ i=>oN ty x q g f y t cs vs l u d r m p (i _ _ h)
def r5{rest:QZ}{a:Act}{w:World}(c:o.guard=none)(ty:TypeId)(x:Operand)(l:o.op=.load ty x)(g:Nat)(p:a.eval x=q_ g)(t:TypeId)(cs:Array Value)(f:Bk w g t cs)(d:TypeDesc)(m:P.underlying ty=some d)(i:d.isRow=true)(j:(P.info? ty).map (·.size)=some cs.size)(h:wpList P ops Q rest (a.put o.dst (.agg cs)) w):wpList P ops Q (o::rest) a w:=
 iC c ty x l g 0 p t cs cs f (λq _=>by rw[X_]) d m i j h
end
section
variable{P:Program}
def lH{rest:QZ}{a:Act}{w:World}(f:o.guard=none)(ty:TypeId)(x y:Operand)(p:o.op=.store ty x y)(g:Nat)(r:a.eval x=q_ g)(vs:Array Value)(hy:a.eval y=.agg vs)(t:TypeId)(cs:Array Value)(l:Bk w g t cs)(q:vs.size=cs.size)(m:(P.info? ty).map (·.size)=some vs.size)(i:vs.all (·.oneCell')=true)(h:∀w',Bk w' g t vs->J [g] w w'->wpList P ops Q rest (a.put o.dst undef) w'):wpList P ops Q (o::rest) a w:=
 jf f ty x y p g 0 r vs hy t cs l X m i λw' c j=>h w' (by rw[qB cs vs q]at c;exact c) j
end
def k2{P:Program}{rest:QZ}{a:Act}{w:World}{x:Operand}{g:Nat}{t:TypeId}{cs:Array Value}{d:TypeDesc}(hB:Bk w g t cs)(hu:P.underlying ty=some d)(h:wpList P ops Q rest (a.put o.dst (.agg cs)) w)(Nw:o.guard=none:=by rfl)(ho:o.op=.load ty x:=by rfl)(hx:a.eval x=q_ g:=by rfl)(hd:d.isRow=true:=by rfl)(hi:(P.info? ty).map (·.size)=some cs.size:=by kernel_rfl):wpList P ops Q (o::rest) a w:=r5 Nw ty x ho g hx t cs hB d hu hd hi h
def kP{P:Program}{rest:QZ}{a:Act}{w:World}{x y:Operand}{g:Nat}{t:TypeId}{cs:Array Value}(hB:Bk w g t cs)(h1:vs.all (·.oneCell')=true)(h:∀w',Bk w' g t vs->J [g] w w'->wpList P ops Q rest (a.put o.dst undef) w')(Nw:o.guard=none:=by rfl)(ho:o.op=.store ty x y:=by rfl)(hx:a.eval x=q_ g:=by rfl)(hy:a.eval y=.agg vs:=by rfl)(hs:vs.size=cs.size:=by rfl)(hi:(P.info? ty).map (·.size)=some vs.size:=by kernel_rfl):wpList P ops Q (o::rest) a w:=lH Nw ty x y ho g hx vs hy t cs hB hs hi h1 h
