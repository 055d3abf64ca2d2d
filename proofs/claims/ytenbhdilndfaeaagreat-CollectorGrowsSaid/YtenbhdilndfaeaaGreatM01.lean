import Derived.Test.YtenbhdilndfaeaaGreatM00
import Derived.BigQuiet
import Derived.Deep.AppendLies
import Derived.Deep.Draws
import Derived.Deep.MidRow
import Derived.Deep.RegionLaw
import Derived.Deep.RegionLawGrows
import Derived.Lib.Hide
import Derived.StillTailTactics
import Derived.WalkLawsBesides
import Derived.WalkSpells
set_option maxRecDepth 100000
set_option maxHeartbeats 0
set_option linter.all false
namespace Go.Proofs.YtenbhdilndfaeaaGreat
open Go.RowKit Go.Proofs.Tryz
variable{base k s:Nat}{o:Oper}{d:List Nat}{v:Value}{α:Type}{f ty:TypeId}{K:Act->World->Prop}{Q:Exit->Act->World->Prop}{ops:Array Oper}{E:Prop}(vs:Array Value)
theorem HF{G:Prop} (h:G:=by
 by_cases hm:m=0
 .subst hm;have hn:=EP (zu hr.1);subst hn;exact⟨B,aw,w,by simpa using l7 w base t ty e i size ht hi _ n xs aF A c,by simpa using aF,App.iX aF (World.grownBy.refl w _)⟩
 .obtain⟨d,rfl,j⟩:=hr.nG o_
  have l:n+m<=maxLen:=by
   have:n+m<=(n+m)*bytes:=F2 _ L
   simp only[maxLen];omega
  obtain⟨v',w',N,h2,h3,_⟩:=run_append_own (P:=P) w base t ty e i z size bytes ht hi hz q p C aL _ n xs aF d m c news hr.1 j h1 l y br;have hf:∃A' c',v'=.slice A' (n+m) c':=J6;obtain⟨A',c',rfl⟩:=hf;exact⟨A',c',w',N,h2,App.iX aF h3⟩):G:=h
theorem j9{k:IntKind}{a b:Int}(h:a=b):Ending.returned (.int k a)=Ending.returned (.int k b):=by rw[h]
theorem og{A:OA}{n n' c:Nat}(h:n=n'):Ending.returned (.slice A n c)=Ending.returned (.slice A n' c):=by rw[h]
theorem iD{a b:Bool}(h:a=b):Ending.returned (.bool a)=Ending.returned (.bool b):=by rw[h]
theorem pF(b o n:Nat):((c_ b o):Addr).add n=(c_ b (o+n)):=by unfold Addr.add;split<;>simp_all
structure Gr(M:List Nat)(a w:World):Prop where
 os:w.os=a.os
 tape:w.tape=a.tape
 output:w.output=a.output
 size:a.heap.size<=w.heap.size
 block:∀k,k<a.heap.size->k∉M->w.heap[k]?=a.heap[k]?
section
variable{M:List Nat}{a b w w':World}
theorem F_(M:List Nat)(w:World):Gr M w w:=⟨rfl,rfl,rfl,H_ _,λ_ _ _=>rfl⟩
theorem Gr.trans(h:Gr M a b)(k:Gr M b w):Gr M a w:=
 ⟨k.os.trans h.os,k.tape.trans h.tape,k.output.trans h.output,G_ h.size k.size,λi hi hm=>(k.block i (FB hi h.size) hm).trans (h.block i hi hm)⟩
theorem Gr.mono(h:Gr M a w)(hm:∀x∈M,x∈d):Gr d a w:=⟨h.os,h.tape,h.output,h.size,λi hi hn=>h.block i hi λhx=>hn (hm i hx)⟩
theorem Gr.of_nil(h:Gr [] a w)(M:List Nat):Gr M a w:=h.mono s_
theorem Gr.hK(h:Gr M a b)(k:Gr d b w)(hn:∀x∈d,x∈M∨a.heap.size<=x):Gr M a w:=
 ⟨k.os.trans h.os,k.tape.trans h.tape,k.output.trans h.output,G_ h.size k.size,λi hi hm=>
   (k.block i (FB hi h.size) (λhx=>by rcases hn i hx with e|e;exact hm e;omega)).trans (h.block i hi hm)⟩
theorem Gr.drew(h:Gr M a w):Gr M a w.drew:=⟨h.os,h.tape,h.output,h.size,h.block⟩
theorem Gr.drewN(h:Gr M a w)(n:Nat):Gr M a (w.drewN n):=⟨h.os,h.tape,h.output,h.size,h.block⟩
theorem Gr.alloc(h:Gr M a w)(o:Obj):Gr M a (w.alloc o):=
 ⟨h.os,h.tape,h.output,by have:=h.size;simp;omega,λi hi hm=>(Below.heap_alloc w o i (FB hi h.size)).trans (h.block i hi hm)⟩
theorem Gr.setCell(h:Gr M a w){p:Addr}(hp:p.block∈M∨a.heap.size<=p.block)(u:Value):Gr M a (w.setCell p u):=
 ⟨h.os,h.tape,h.output,by have:=h.size;simpa[World.setCell]using this,λi hi hm=>
   (Below.heap_setCell w p u i (λe=>by subst e;rcases hp with e|e;exact hm e;omega)).trans (h.block i hi hm)⟩
theorem Gr.vg(h:Gr [] a w):Below a.heap.size a w:=⟨h.os,h.tape,h.output,h.size,λi hi=>h.block i hi s_⟩
theorem Gr.grown(h:Gr M a w){row:Option Nat}(hg:w.grownBy w' row)(hr:∀k,row=some k->k∈M∨a.heap.size<=k):Gr M a w':=
 ⟨hg.os.trans h.os,hg.tape.trans h.tape,hg.output.trans h.output,G_ h.size hg.size,λi hi hm=>
   (hg.block i (FB hi h.size) (λe=>by rcases hr i e.symm with x|x;exact hm x;omega)).trans (h.block i hi hm)⟩
theorem Gr.vf{g:Nat}(h:Gr [g] a w):a.grownBy w (some g):=⟨h.os,h.tape,h.output,h.size,λi hi hn=>h.block i hi (by simpa using λe=>hn (by rw[e]))⟩
theorem Gr.yo(h:Gr [] a w)(row:Option Nat):a.grownBy w row:=⟨h.os,h.tape,h.output,h.size,λi hi _=>h.block i hi s_⟩
end
theorem x4{w:World}{p:Addr}(h:w.cell? p=some v):p.block<w.heap.size:=World.block_lt_of_cell? w p h
theorem Gr.f_{M:List Nat}{a w:World}(h:Gr M a w){p:Addr}(hc:a.cell? p=some v)(hm:p.block∉M):w.cell? p=some v:=
 (World.cell?_of_block (h.block p.block (x4 hc) hm)).trans hc
theorem jD{w:World}{p:Addr}(hc:w.cell? p=some v)(o:Obj):(w.alloc o).cell? p=some v:=((F_ [] w).alloc o).f_ hc s_
def Bk(w:World)(g:Nat)(t:TypeId)(cs:Array Value):Prop:=w.heap[g]?=some (.cells cs t (0,0))
section
variable{M:List Nat}{a w w':World}{g:Nat}{t:TypeId}{cs:Array Value}
theorem Bk.lt(h:Bk w g t cs):g<w.heap.size:=by
 rcases EJ g w.heap.size with ag|bA
 .exact ag
 .unfold Bk at h;rw[Y_ bA]at h
  cases h
theorem Bk.f_(h:Bk w g t cs)(i:Nat):w.cell? (c_ g i)=cs[i]?:=cell_of_row w g i cs t (0,0) h
theorem Bk.iH{x y:Value}(h:Bk w g t #[x,y]):w.cell? (c_ g 0)=some x/\w.cell? (c_ g 1)=some y:=⟨h.f_ 0,h.f_ 1⟩
theorem Bk.nF{x y z:Value}(h:Bk w g t #[x,y,z]):w.cell? (c_ g 0)=some x/\w.cell? (c_ g 1)=some y/\w.cell? (c_ g 2)=some z:=⟨h.f_ 0,h.f_ 1,h.f_ 2⟩
theorem Bk.c5{x y z u:Value}(h:Bk w g t #[x,y,z,u,v]):w.cell? (c_ g 0)=some x/\w.cell? (c_ g 1)=some y/\w.cell? (c_ g 2)=some z/\w.cell? (c_ g 3)=some u/\w.cell? (c_ g 4)=some v:=⟨h.f_ 0,h.f_ 1,h.f_ 2,h.f_ 3,h.f_ 4⟩
theorem Bk.hH(h:Bk w g t cs)(i:Nat):w.frozen? (c_ g i)=false:=by
 unfold Bk at h;simp[World.frozen?,h]
theorem P_(w:World)(t:TypeId)(cs:Array Value):Bk (w.alloc (.cells cs t)) w.heap.size t cs:=GQ w _
theorem Bk.drew(h:Bk w g t cs):Bk w.drew g t cs:=h
theorem Bk.drewN(h:Bk w g t cs)(n:Nat):Bk (w.drewN n) g t cs:=h
theorem Bk.alloc(h:Bk w g t cs)(o:Obj):Bk (w.alloc o) g t cs:=(Below.heap_alloc w o g h.lt).trans h
theorem Bk.hW(h:Bk w g t cs)(i:Nat)(u:Value):Bk (w.setCell (c_ g i) u) g t (cs.setIfInBounds i u):=by
 unfold Bk at h |-;simp[World.setCell,Array.getElem?_modify,h]
theorem Bk.ih(h:Bk w g t cs){p:Addr}(hp:g≠p.block)(u:Value):Bk (w.setCell p u) g t cs:=(Below.heap_setCell w p u g hp).trans h
theorem Bk.gr(h:Bk w g t cs)(hg:Gr M w w')(hn:g∉M):Bk w' g t cs:=(hg.block g h.lt hn).trans h
theorem Bk.lZ{d:Nat}{t':TypeId}{c:Array Value}(h:Bk w g t cs)(j:Bk w d t' c)(ao:t≠t'):g≠d:=by
 rintro rfl;unfold Bk at h j;rw[h]at j;injection j with j;injection j with _ ht;exact ao ht
end
def Sl(w:World)(e:TypeId)(size:Nat)(A:OA)(n:Nat)(xs:List Value):Prop:=
 xs.length=n*size/\(0<n->∃b off cs fz,A=some (c_ b off)/\w.heap[b]?=some (.cells cs e fz)/\∀j u,xs[j]?=some u->cs[off+j]?=some u)
section
variable{M:List Nat}{w w':World}{e:TypeId}{size:Nat}{A:OA}{n:Nat}{xs:List Value}
theorem Fm(w:World)(e:TypeId)(size:Nat)(A:OA):Sl w e size A 0 []:=⟨by simp,λh=>EK h o_⟩
theorem Sl.drew(h:Sl w e size A n xs):Sl w.drew e size A n xs:=h
theorem Sl.drewN(h:Sl w e size A n xs)(k:Nat):Sl (w.drewN k) e size A n xs:=h
theorem Sl.iy(h:Sl w e size A n xs)(hk:∀b off,A=some (c_ b off)->b<w.heap.size->w'.heap[b]?=w.heap[b]?):Sl w' e size A n xs:=
 ⟨h.1,λhn=>by
   obtain⟨b,off,cs,fz,hA,hb,hc⟩:=h.2 hn;have ag:b<w.heap.size:=KW
   exact⟨b,off,cs,fz,hA,(hk b off hA ag).trans hb,hc⟩⟩
theorem Sl.hG(h:Sl w e size A n xs)(hg:Gr [] w w'):Sl w' e size A n xs:=h.iy λb _ _ hb=>hg.block b hb s_
theorem Sl.alloc(h:Sl w e size A n xs)(o:Obj):Sl (w.alloc o) e size A n xs:=h.hG ((F_ [] w).alloc o)
theorem Sl.iu(h:Sl w e size A n xs){g:Nat}{t:TypeId}{cs:Array Value}(hk:Bk w g t cs)(ao:e≠t)(hg:Gr [g] w w'):Sl w' e size A n xs:=
 ⟨h.1,λhn=>by
   obtain⟨b,off,c,fz,hA,hb,hc⟩:=h.2 hn
   have hbg:b≠g:=by
    rintro rfl;unfold Bk at hk;rw[hb]at hk;injection hk with hk;injection hk with _ ht _;exact ao ht
   have ag:b<w.heap.size:=KW
   exact⟨b,off,c,fz,hA,(hg.block b ag (zu hbg)).trans hb,hc⟩⟩
theorem Sl.f_(h:Sl w e size A n xs)(hn:0<n):∃b off,A=some (c_ b off)/\∀j u,xs[j]?=some u->w.cell? (c_ b (off+j))=some u:=by
 obtain⟨b,off,cs,fz,hA,hb,hc⟩:=h.2 hn;exact⟨b,off,hA,λj u hu=>by rw[cell_of_row w b _ cs e fz hb];exact hc j u hu⟩
theorem Sl.nG(h:Sl w e size A n xs)(hn:0<n):∃d,A=some d/\∀j u,xs[j]?=some u->w.cell? (d.add j)=some u:=by
 obtain⟨b,off,hA,hc⟩:=h.f_ hn;exact⟨_,hA,λj u hu=>by rw[pF];exact hc j u hu⟩
theorem Sl.iT{lW:Nat}(h:w.ownsRow base e size (.slice A n lW) n xs):Sl w e size A n xs:=by
 refine⟨h.1,λhn=>?_⟩
 rcases h.2 with⟨hv,h0⟩|⟨g,v,cur,hv,_,hg,_,_,_,ht⟩
 .omega
 .injection hv with hA _ _;refine⟨g,0,cur,(0,0),hA,hg,λj u hu=>?_⟩;rw[<-ht,Fk]at hu;split at hu
  .simpa using hu
  .cases hu
end
def iO{α:Type}(p:α->Bool):List α->Nat->Int
 |[],_=> -1
 |x::l,k=>if p x then(k:Int) else iO p l (k+1)
theorem lO(p:α->Bool)(l:List α)(k j:Nat)(h:j<l.length)(hp:p l[j]=true):iO p (l.drop j) k=k:=by
 rw[R_ h];simp[iO,hp]
theorem kB(p:α->Bool)(l:List α)(k j:Nat)(h:j<l.length)(hp:p l[j]=false):iO p (l.drop j) k=iO p (l.drop (j+1)) (k+1):=by
 rw[R_ h];simp[iO,hp]
theorem my(p:α->Bool)(l:List α)(k j:Nat)(h:l.length<=j):iO p (l.drop j) k= -1:=by
 rw[E3 h]
 rfl
theorem nf(p:α->Bool)(l:List α)(k:Nat): -1<=iO p l k/\iO p l k<(k+l.length:Nat):=by
 induction l generalizing k with
 |nil=>simp[iO];omega
 |cons x l Z=>simp only[iO,Z_];have:=Z (k+1);split<;>omega
theorem Sl.at_{w:World}{e:TypeId}{A:OA}{n:Nat}{xs:List Value}(h:Sl w e 1 A n xs)(hk:k<n):∃b off u,A=some (c_ b off)/\xs[k]?=some u/\w.cell? (c_ b (off+k))=some u:=by
 obtain⟨b,off,hA,hc⟩:=h.f_ o_;have hl:k<xs.length:=ov h.1;exact⟨b,off,xs[k],hA,M_ hl,hc k _ (M_ hl)⟩
theorem iK{w w':World}{e:TypeId}{size:Nat}{n:Nat}{xs:List Value}(h:w.ownsRow base e size v n xs)(hg:Gr [] w w'):w'.ownsRow base e size v n xs:=
 h.kept (hg.yo none) (by cases v.ownBlock<;>simp)
theorem kH{w w':World}{e:TypeId}{size:Nat}{n:Nat}{xs:List Value}{g:Nat}{t:TypeId}{cs:Array Value}(h:w.ownsRow base e size v n xs)(hk:Bk w g t cs)(ao:e≠t)(hg:Gr [g] w w'):w'.ownsRow base e size v n xs:=by
 refine h.kept hg.vf ?_
 rcases h.2 with⟨rfl,_⟩|⟨d,lW,cur,rfl,_,ay,_⟩
 .exact .inl rfl
 .right;intro he
  have:d=g:=by simpa[Value.ownBlock]using he
  subst this;exact(Bk.lZ (t:=e) ay hk ao) rfl
theorem ud(w:World)(base:Nat)(e:TypeId)(size g:Nat)(hg:w.heap.size=g)(hb:base<=g):(w.alloc (.cells #[] e)).ownsRow base e size (.slice (j_ g) 0 0) 0 []:=by
 subst hg;exact World.ownsRow_lit w #[] 0 hb (by simp[maxLen]) s_
theorem iV(w:World)(base:Nat)(e:TypeId)(size:Nat):w.ownsRow base e size (n_) 0 []:=World.ownsRow_nil w base e size
theorem oi{w:World}{d:Nat}{e:TypeId}{size:Nat}{n:Nat}{xs:List Value}(h:w.ownsRow base e size v n xs)(hb:d<=base):w.ownsRow d e size v n xs:=by
 refine⟨h.1,?_⟩
 rcases h.2 with h|⟨g,lW,cur,h1,h2,h3⟩
 .exact .inl h
 .exact .inr ⟨g,lW,cur,h1,o_,h3⟩
structure App(base:Nat)(e:TypeId)(w w':World):Prop where
 gr:∀(M:List Nat) (a:World),a.heap.size<=base->Gr M a w->Gr M a w'
 iy:∀(k:Nat) (o:Obj),w.heap[k]?=some o->(k<base∨∀cs fz,o≠ .cells cs e fz)->w'.heap[k]?=some o
 size:w.heap.size<=w'.heap.size
theorem App.iX{e:TypeId}{size:Nat}{w w':World}{n:Nat}{xs:List Value}(h:w.ownsRow base e size v n xs)(hg:w.grownBy w' v.ownBlock):App base e w w':=by
 refine⟨λM a ha z=>z.grown hg λk hk=>.inr (G_ ha (h.lt k hk).1),λk o ho hk=>?_,hg.size⟩
 have ag:k<w.heap.size:=by
  rcases EJ k w.heap.size with ag|bA
  .exact ag
  .rw[Y_ bA]at ho
   cases ho
 refine(hg.block k ag ?_).trans ho;intro he
 rcases hk with hk|hk
 .have:=(h.lt k he.symm).1
  omega
 .rcases h.2 with⟨rfl,_⟩|⟨g,lW,cur,rfl,_,ay,_⟩
  .simp[Value.ownBlock]at he
  .have:k=g:=by simpa[Value.ownBlock]using he
   subst this;rw[ay]at ho;injection ho with ho;exact hk _ _ ho.symm
theorem App.bk{e t:TypeId}{w w':World}{g:Nat}{cs:Array Value}(h:App base e w w')(hb:Bk w g t cs)(ao:t≠e):Bk w' g t cs:=
 h.iy g _ hb (.inr λc fz he=>ao (by injection he))
theorem App.sl{e:TypeId}{size:Nat}{w w':World}{A:OA}{n:Nat}{xs:List Value}(h:App base e w w')(hs:Sl w f size A n xs)(ao:f≠e):Sl w' f size A n xs:=
 ⟨hs.1,λhn=>by
   obtain⟨b,off,cs,fz,hA,hb,hc⟩:=hs.2 hn
   exact⟨b,off,cs,fz,hA,h.iy b _ hb (.inr λc d he=>ao (by injection he)),hc⟩⟩
section
variable{P:Program}(w:World)
theorem l7(base:Nat)(t ty e:TypeId)(i:TypeInfo)(size:Nat)(ht:P.underlying t=some (.slice e))(hi:P.info? e=some i)
 (v:Value) (n:Nat) (xs:List Value) (aF:w.ownsRow base e size v n xs) (A:OA) (c:Nat):(Builtin.append_ #[t,t] ty #[v,.slice A 0 c]).run P w=.ok v w:=by
 rcases aF.2 with⟨rfl,rfl⟩|⟨g,lW,cur,rfl,_,_,aN,_⟩
 .cases A<;>simp[Builtin.append_,Fj ht,sizeOf,typeInfo,hi,Builtin.lenOf,Builtin.firstCells,loadCells,loadCellsFrom]
 .cases A<;>simp[Builtin.append_,Fj ht,sizeOf,typeInfo,hi,Builtin.lenOf,Builtin.firstCells,aN,storeCells,loadCells,loadCellsFrom]
theorem Bp(base:Nat)(t ty e:TypeId)(i:TypeInfo)(z:Value)(size bytes:Nat)(ht:P.underlying t=some (.slice e))(hi:P.info? e=some i)(hz:i.zero=some z)
 (q:i.size=size) (p:i.bytes=bytes) (C:z.cells.size=size) (aL:0<size)
 (B:OA) (aw n:Nat) (xs:List Value) (aF:w.ownsRow base e size (.slice B n aw) n xs)
 (A:OA) (m c:Nat) (news:List Value) (hr:Sl w e size A m news) (h1:∀u∈news,u.oneCell'=true)
 (y:(n+m)*bytes<=140737488355328) (L:0<bytes) (br:base<=w.heap.size):
 ∃A' c' w',(Builtin.append_ #[t,t] ty #[.slice B n aw,.slice A m c]).run P w=.ok (.slice A' (n+m) c') w'/\w'.ownsRow base e size (.slice A' (n+m) c') (n+m) (xs++news)/\App base e w w':=by
 exact HF
theorem zr{a:Act}(s x:Operand)(t:TypeId)(ho:o.op=.call {callee:=.builtin .append,args:=#[s,x],argTypes:=#[t,t]})(base:Nat)(e:TypeId)(i:TypeInfo)(z:Value)(size bytes:Nat)(ht:P.underlying t=some (.slice e))(hi:P.info? e=some i)(hz:i.zero=some z)(q:i.size=size)(p:i.bytes=bytes)(C:z.cells.size=size)(aL:0<size)(L:0<bytes)(B:OA)(n aw:Nat)(xs:List Value)(hs:a.eval s=.slice B n aw)(aF:w.ownsRow base e size (.slice B n aw) n xs)(A:OA)(m c:Nat)(news:List Value)(hx:a.eval x=.slice A m c)(hr:Sl w e size A m news)(h1:∀u∈news,u.oneCell'=true)(y:(n+m)*bytes<=140737488355328)(br:base<=w.heap.size)(h:∀(A':OA) (c':Nat) (w':World),w'.ownsRow base e size (.slice A' (n+m) c') (n+m) (xs++news)->App base e w w'->K (a.put o.dst (.slice A' (n+m) c')) w'):o.wp P a w K Q:=by
 obtain⟨A',c',w',N,h2,h3⟩:=Bp (P:=P) w base t o.type e i z size bytes ht hi hz q p C aL B aw n xs aF A m c news hr h1 y L br;exact Jz
theorem wC{rest:List Oper}{a:Act}(V:o.guard=none)(s x:Operand)(t:TypeId)(ho:o.op=.call {callee:=.builtin .append,args:=#[s,x],argTypes:=#[t,t]})(base:Nat)(e:TypeId)(i:TypeInfo)(z:Value)(size bytes:Nat)(ht:P.underlying t=some (.slice e))(hi:P.info? e=some i)(hz:i.zero=some z)(q:i.size=size)(p:i.bytes=bytes)(C:z.cells.size=size)(aL:0<size)(L:0<bytes)(B:OA)(n aw:Nat)(xs:List Value)(hs:a.eval s=.slice B n aw)(aF:w.ownsRow base e size (.slice B n aw) n xs)(A:OA)(m c:Nat)(news:List Value)(hx:a.eval x=.slice A m c)(hr:Sl w e size A m news)(h1:∀u∈news,u.oneCell'=true)(y:(n+m)*bytes<=140737488355328)(br:base<=w.heap.size)(h:∀(A':OA) (c':Nat) (w':World),w'.ownsRow base e size (.slice A' (n+m) c') (n+m) (xs++news)->App base e w w'->wpList P ops Q rest (a.put o.dst (.slice A' (n+m) c')) w'):wpList P ops Q (o::rest) a w:=
 wpList_plain V λ_ H=>zr w s x t ho base e i z size bytes ht hi hz q p C aL L B n aw xs hs aF A m c news hx hr h1 y br λA' c' w' h2 h3=>H _ _ (h A' c' w' h2 h3)
end
section
variable{P:Program}(w:World)
end
theorem Sl.new(w:World)(e:TypeId)(size:Nat)(cs:Array Value)(n g:Nat)(hg:w.heap.size=g)(hs:cs.size=n*size):Sl (w.alloc (.cells cs e)) e size (j_ g) n cs.toList:=by
 subst hg;exact⟨by simpa using hs,λ_=>⟨_,_,cs,(0,0),rfl,GQ w _,λj u hu=>by simpa using hu⟩⟩
theorem DO(w:World)(t0:TypeId)(aw:Array Value):Bk (w.alloc (.cells aw t0)) (w.heap.size) t0 aw/\Gr [] w (w.alloc (.cells aw t0)):=⟨(P_ w t0 aw),((F_ [] w).alloc _)⟩
theorem qh(w:World)(t0:TypeId)(aw:Array Value)(t1:TypeId)(c1:Array Value):Bk ((w.alloc (.cells aw t0)).alloc (.cells c1 t1)) (w.heap.size) t0 aw/\Bk ((w.alloc (.cells aw t0)).alloc (.cells c1 t1)) (w.heap.size+1) t1 c1/\Gr [] w ((w.alloc (.cells aw t0)).alloc (.cells c1 t1)):=⟨((P_ w t0 aw).alloc _),(zu (P_ (w.alloc (.cells aw t0)) t1 c1)),(((F_ [] w).alloc _).alloc _)⟩
theorem wt(w:World)(t0:TypeId)(aw:Array Value)(t1:TypeId)(c1:Array Value)(af:TypeId)(ai:Array Value):Bk (((w.alloc (.cells aw t0)).alloc (.cells c1 t1)).alloc (.cells ai af)) (w.heap.size) t0 aw/\Bk (((w.alloc (.cells aw t0)).alloc (.cells c1 t1)).alloc (.cells ai af)) (w.heap.size+1) t1 c1/\Bk (((w.alloc (.cells aw t0)).alloc (.cells c1 t1)).alloc (.cells ai af)) (w.heap.size+1+1) af ai/\Gr [] w (((w.alloc (.cells aw t0)).alloc (.cells c1 t1)).alloc (.cells ai af)):=⟨(((P_ w t0 aw).alloc _).alloc _),(zu ((P_ (w.alloc (.cells aw t0)) t1 c1).alloc _)),(zu (P_ ((w.alloc (.cells aw t0)).alloc (.cells c1 t1)) af ai)),((((F_ [] w).alloc _).alloc _).alloc _)⟩
theorem B8(w:World)(t0:TypeId)(aw:Array Value)(t1:TypeId)(c1:Array Value)(af:TypeId)(ai:Array Value)(t3:TypeId)(aC:Array Value):Bk ((((w.alloc (.cells aw t0)).alloc (.cells c1 t1)).alloc (.cells ai af)).alloc (.cells aC t3)) (w.heap.size) t0 aw/\Bk ((((w.alloc (.cells aw t0)).alloc (.cells c1 t1)).alloc (.cells ai af)).alloc (.cells aC t3)) (w.heap.size+1) t1 c1/\Bk ((((w.alloc (.cells aw t0)).alloc (.cells c1 t1)).alloc (.cells ai af)).alloc (.cells aC t3)) (w.heap.size+1+1) af ai/\Bk ((((w.alloc (.cells aw t0)).alloc (.cells c1 t1)).alloc (.cells ai af)).alloc (.cells aC t3)) (w.heap.size+1+1+1) t3 aC/\Gr [] w ((((w.alloc (.cells aw t0)).alloc (.cells c1 t1)).alloc (.cells ai af)).alloc (.cells aC t3)):=⟨((((P_ w t0 aw).alloc _).alloc _).alloc _),(zu (((P_ (w.alloc (.cells aw t0)) t1 c1).alloc _).alloc _)),(zu ((P_ ((w.alloc (.cells aw t0)).alloc (.cells c1 t1)) af ai).alloc _)),(zu (P_ (((w.alloc (.cells aw t0)).alloc (.cells c1 t1)).alloc (.cells ai af)) t3 aC)),(((((F_ [] w).alloc _).alloc _).alloc _).alloc _)⟩
theorem Ei(w:World)(t0:TypeId)(aw:Array Value)(t1:TypeId)(c1:Array Value)(af:TypeId)(ai:Array Value)(t3:TypeId)(aC:Array Value)(t4:TypeId)(c4:Array Value):Bk (((((w.alloc (.cells aw t0)).alloc (.cells c1 t1)).alloc (.cells ai af)).alloc (.cells aC t3)).alloc (.cells c4 t4)) (w.heap.size) t0 aw/\Bk (((((w.alloc (.cells aw t0)).alloc (.cells c1 t1)).alloc (.cells ai af)).alloc (.cells aC t3)).alloc (.cells c4 t4)) (w.heap.size+1) t1 c1/\Bk (((((w.alloc (.cells aw t0)).alloc (.cells c1 t1)).alloc (.cells ai af)).alloc (.cells aC t3)).alloc (.cells c4 t4)) (w.heap.size+1+1) af ai/\Bk (((((w.alloc (.cells aw t0)).alloc (.cells c1 t1)).alloc (.cells ai af)).alloc (.cells aC t3)).alloc (.cells c4 t4)) (w.heap.size+1+1+1) t3 aC/\Bk (((((w.alloc (.cells aw t0)).alloc (.cells c1 t1)).alloc (.cells ai af)).alloc (.cells aC t3)).alloc (.cells c4 t4)) (w.heap.size+1+1+1+1) t4 c4/\Gr [] w (((((w.alloc (.cells aw t0)).alloc (.cells c1 t1)).alloc (.cells ai af)).alloc (.cells aC t3)).alloc (.cells c4 t4)):=⟨(((((P_ w t0 aw).alloc _).alloc _).alloc _).alloc _),(zu ((((P_ (w.alloc (.cells aw t0)) t1 c1).alloc _).alloc _).alloc _)),(zu (((P_ ((w.alloc (.cells aw t0)).alloc (.cells c1 t1)) af ai).alloc _).alloc _)),(zu ((P_ (((w.alloc (.cells aw t0)).alloc (.cells c1 t1)).alloc (.cells ai af)) t3 aC).alloc _)),(zu (P_ ((((w.alloc (.cells aw t0)).alloc (.cells c1 t1)).alloc (.cells ai af)).alloc (.cells aC t3)) t4 c4)),((((((F_ [] w).alloc _).alloc _).alloc _).alloc _).alloc _)⟩
theorem pb{P:Program}{w:World}{a:Act}(V:o.guard=none)(s x:Operand)(t:TypeId)(ho:o.op=.call {callee:=.builtin .append,args:=#[s,x],argTypes:=#[t,t]})(base:Nat)(e:TypeId)(i:TypeInfo)(z:Value)(size bytes:Nat)(ht:P.underlying t=some (.slice e))(hi:P.info? e=some i)(hz:i.zero=some z)(q:i.size=size)(p:i.bytes=bytes)(C:z.cells.size=size)(aL:0<size)(L:0<bytes)(B:OA)(n aw:Nat)(xs:List Value)(hs:a.eval s=.slice B n aw)(aF:w.ownsRow base e size (.slice B n aw) n xs)(A:OA)(m c:Nat)(news:List Value)(hx:a.eval x=.slice A m c)(hr:Sl w e size A m news)(h1:∀u∈news,u.oneCell'=true)(y:(n+m)*bytes<=140737488355328)(br:base<=w.heap.size)(h:∀(A':OA) (c':Nat) (w':World),w'.ownsRow base e size (.slice A' (n+m) c') (n+m) (xs++news)->App base e w w'->K (a.put o.dst (.slice A' (n+m) c')) w'):
 if Region.wanted o (yielded ops a.tmps)=true then Oper.wp P o a w K Q else E:=by
 have aM:Region.wanted o (yielded ops a.tmps)=true:=by simp[Region.wanted,V]
 rw[T_ aM];exact zr w s x t ho base e i z size bytes ht hi hz q p C aL L B n aw xs hs aF A m c news hx hr h1 y br h
theorem k6{w:World}{o:Obj}(hk:w.heap[k]?=some o):k<w.heap.size:=by
 rcases EJ k w.heap.size with ag|bA
 .exact ag
 .rw[Y_ bA]at hk
  cases hk
section
variable{base:Nat}{e:TypeId}{w w1 w2:World}
end
section
variable{P:Program}(w:World)
theorem zT(base:Nat)(t ty e:TypeId)(i:TypeInfo)(z:Value)(size bytes:Nat)(ht:P.underlying t=some (.slice e))(hi:P.info? e=some i)(hz:i.zero=some z)(q:i.size=size)(p:i.bytes=bytes)(C:z.cells.size=size)(aL:0<size)(B:OA)(aw n:Nat)(xs:List Value)(aF:w.ownsRow base e size (.slice B n aw) n xs)(A:OA)(m c:Nat)(news:List Value)(hr:Sl w f size A m news)(h1:∀u∈news,u.oneCell'=true)(y:(n+m)*bytes<=140737488355328)(L:0<bytes)(br:base<=w.heap.size):
 ∃A' c' w',(Builtin.append_ #[t,t] ty #[.slice B n aw,.slice A m c]).run P w=.ok (.slice A' (n+m) c') w'/\w'.ownsRow base e size (.slice A' (n+m) c') (n+m) (xs++news)/\App base e w w':=by
 exact HF
theorem xF{a:Act}(s x:Operand)(t:TypeId)(ho:o.op=.call {callee:=.builtin .append,args:=#[s,x],argTypes:=#[t,t]})(base:Nat)(e:TypeId)(i:TypeInfo)(z:Value)(size bytes:Nat)(ht:P.underlying t=some (.slice e))(hi:P.info? e=some i)(hz:i.zero=some z)(q:i.size=size)(p:i.bytes=bytes)(C:z.cells.size=size)(aL:0<size)(L:0<bytes)(B:OA)(n aw:Nat)(xs:List Value)(hs:a.eval s=.slice B n aw)(aF:w.ownsRow base e size (.slice B n aw) n xs)(A:OA)(m c:Nat)(news:List Value)(hx:a.eval x=.slice A m c)(hr:Sl w f size A m news)(h1:∀u∈news,u.oneCell'=true)(y:(n+m)*bytes<=140737488355328)(br:base<=w.heap.size)(h:∀(A':OA) (c':Nat) (w':World),w'.ownsRow base e size (.slice A' (n+m) c') (n+m) (xs++news)->App base e w w'->K (a.put o.dst (.slice A' (n+m) c')) w'):o.wp P a w K Q:=by
 obtain⟨A',c',w',N,h2,h3⟩:=zT (P:=P) w base t o.type e i z size bytes ht hi hz q p C aL B aw n xs aF A m c news hr h1 y L br;exact Jz
theorem iL{rest:List Oper}{a:Act}(V:o.guard=none)(s x:Operand)(t:TypeId)(ho:o.op=.call {callee:=.builtin .append,args:=#[s,x],argTypes:=#[t,t]})(base:Nat)(e:TypeId)(i:TypeInfo)(z:Value)(size bytes:Nat)(ht:P.underlying t=some (.slice e))(hi:P.info? e=some i)(hz:i.zero=some z)(q:i.size=size)(p:i.bytes=bytes)(C:z.cells.size=size)(aL:0<size)(L:0<bytes)(B:OA)(n aw:Nat)(xs:List Value)(hs:a.eval s=.slice B n aw)(aF:w.ownsRow base e size (.slice B n aw) n xs)(A:OA)(m c:Nat)(news:List Value)(hx:a.eval x=.slice A m c)(hr:Sl w f size A m news)(h1:∀u∈news,u.oneCell'=true)(y:(n+m)*bytes<=140737488355328)(br:base<=w.heap.size)(h:∀(A':OA) (c':Nat) (w':World),w'.ownsRow base e size (.slice A' (n+m) c') (n+m) (xs++news)->App base e w w'->wpList P ops Q rest (a.put o.dst (.slice A' (n+m) c')) w'):wpList P ops Q (o::rest) a w:=
 wpList_plain V λ_ H=>xF w s x t ho base e i z size bytes ht hi hz q p C aL L B n aw xs hs aF A m c news hx hr h1 y br λA' c' w' h2 h3=>H _ _ (h A' c' w' h2 h3)
end
theorem pH{P:Program}{w:World}{a:Act}(V:o.guard=none)(s x:Operand)(t:TypeId)(ho:o.op=.call {callee:=.builtin .append,args:=#[s,x],argTypes:=#[t,t]})(base:Nat)(e:TypeId)(i:TypeInfo)(z:Value)(size bytes:Nat)(ht:P.underlying t=some (.slice e))(hi:P.info? e=some i)(hz:i.zero=some z)(q:i.size=size)(p:i.bytes=bytes)(C:z.cells.size=size)(aL:0<size)(L:0<bytes)(B:OA)(n aw:Nat)(xs:List Value)(hs:a.eval s=.slice B n aw)(aF:w.ownsRow base e size (.slice B n aw) n xs)(A:OA)(m c:Nat)(news:List Value)(hx:a.eval x=.slice A m c)(hr:Sl w f size A m news)(h1:∀u∈news,u.oneCell'=true)(y:(n+m)*bytes<=140737488355328)(br:base<=w.heap.size)(h:∀(A':OA) (c':Nat) (w':World),w'.ownsRow base e size (.slice A' (n+m) c') (n+m) (xs++news)->App base e w w'->K (a.put o.dst (.slice A' (n+m) c')) w'):
 if Region.wanted o (yielded ops a.tmps)=true then Oper.wp P o a w K Q else E:=by
 have aM:Region.wanted o (yielded ops a.tmps)=true:=by simp[Region.wanted,V]
 rw[T_ aM];exact xF w s x t ho base e i z size bytes ht hi hz q p C aL L B n aw xs hs aF A m c news hx hr h1 y br h
theorem info_parts{P:Program}{t:TypeId}{z:Value}{b:Nat}(h:(P.info? t).map (λi=>(i.zero,i.size,i.bytes))=some (some z,s,b)):∃i,P.info? t=some i/\i.zero=some z/\i.size=s/\i.bytes=b:=by
 cases hi:P.info? t with
 |none=>rw[hi]at h;simp at h
 |some i=>rw[hi]at h;simp at h;exact⟨i,rfl,h.1,h.2.1,h.2.2⟩
theorem Cz{w:World}{d:Nat}{e:TypeId}{size:Nat}{n:Nat}{xs:List Value}(h:w.ownsRow d e size v n xs)(hb:base<=d):w.ownsRow base e size v n xs:=by
 refine⟨h.1,?_⟩
 rcases h.2 with h0|⟨g,lW,cur,h1,h2,h3⟩
 .exact .inl h0
 .exact .inr ⟨g,lW,cur,h1,G_ hb h2,h3⟩
theorem Bk.hG{w w':World}{g:Nat}{t:TypeId}{cs:Array Value}(h:Bk w g t cs)(hg:Gr [] w w'):Bk w' g t cs:=h.gr hg s_
theorem BU{W w1:World}{t:TypeId}{cs:Array Value}{p:Nat}(hg:Gr [] (W.alloc (.cells cs t)) w1)(hs:W.heap.size=p):Bk w1 p t cs:=by
 subst hs;exact(P_ W t cs).gr hg s_
theorem jf{w:World}{e:TypeId}{size:Nat}{A:OA}{n c:Nat}{xs:List Value}(h:w.ownsRow base e size (.slice A n c) n xs):n<=c:=by
 rcases h.2 with⟨hv,h0⟩|⟨g,lW,cur,hv,_,_,hc,_⟩
 .omega
 .injection hv with _ _ hv;omega
theorem kj(f:α->List Value)(s:Nat)(hf:∀a,(f a).length=s)(l:List α):(l.flatMap f).length=l.length*s:=by
 induction l with
 |nil=>simp
 |cons x l Z=>simp only[E0,J_,hf,Z,Z_,FJ,GX];omega
theorem jh(f:α->List Value)(s:Nat)(hf:∀a,(f a).length=s)(l:List α)(k j:Nat)(hk:k<l.length)(hj:j<s):(l.flatMap f)[k*s+j]?=(f l[k])[j]?:=by
 induction l generalizing k with
 |nil=>simp at hk
 |cons x l Z=>
  cases k with
  |zero=>simp only[E0,Gj,U_,Fu];rw[Fv (by rw[hf];exact hj)]
  |succ k=>
   simp only[E0,F9]
   have e:(k+1)*s+j=s+(k*s+j):=by rw[FJ,GX];omega
   rw[e,FE (by rw[hf];omega),hf,Nat.add_sub_cancel_left];exact Z k (zu hk)
theorem ko{wr w':World}{e:TypeId}{size x:Nat}{n:Nat}{xs:List Value}(h:wr.ownsRow base e size v n xs)(hx:∀cs fz,wr.heap[x]?≠some (.cells cs e fz))(hg:Gr [x] wr w'):w'.ownsRow base e size v n xs:=by
 refine h.kept hg.vf ?_
 rcases h.2 with⟨rfl,_⟩|⟨d,lW,cur,rfl,_,ay,_⟩
 .exact .inl rfl
 .right;intro he
  have:d=x:=by simpa[Value.ownBlock]using he
  subst this;exact hx _ _ ay
theorem qt(E:α->List Value)(h1:∀a,∀u∈E a,u.oneCell'=true)(l:List α):∀u∈l.flatMap E,u.oneCell'=true:=by
 intro u hu;obtain⟨v,_,hv⟩:=F5.1 hu;exact h1 v u hv
theorem Sl.row{E:α->List Value}(hE:∀a,(E a).length=s){w:World}{A:OA}{l:List α}(h:Sl w ty s A l.length (l.flatMap E))(hk:k<l.length):
 ∃b off,A=some (c_ b off)/\∀j u,(E l[k])[j]?=some u->w.cell? ⟨b,off+(k*s+j),none⟩=some u:=by
 obtain⟨b,off,hA,hc⟩:=Sl.f_ h o_;refine⟨b,off,hA,λj u hu=>hc (k*s+j) u ?_⟩
 have hj:j<s:=by
  rcases EJ j s with h|h
  .exact h
  .rw[EW (by rw[hE];exact h)]at hu
   cases hu
 rw[jh E s hE l k j hk hj];exact hu
theorem tt(E:α->List Value)(s:Nat)(hE:∀a,(E a).length=s)(l:List α)(k:Nat):(l.take k).flatMap E=(l.flatMap E).take (k*s):=by
 induction l generalizing k with
 |nil=>simp
 |cons x l Z=>
  cases k with
  |zero=>simp
  |succ k=>
   rw[Gz,E0,E0,Z,List.take_append,hE,EI (l:=E x) (by rw[hE,FJ];omega),show(k+1)*s-s=k*s by rw[FJ];omega]
theorem xu(E:α->List Value)(s:Nat)(hE:∀a,(E a).length=s)(l:List α)(k:Nat):(l.drop k).flatMap E=(l.flatMap E).drop (k*s):=by
 induction l generalizing k with
 |nil=>simp
 |cons x l Z=>
  cases k with
  |zero=>simp
  |succ k=>
   rw[List.drop_succ_cons,E0,Z,List.drop_append,hE,FO (l:=E x) (by rw[hE,FJ];omega),show(k+1)*s-s=k*s by rw[FJ];omega,EO]
theorem Sl.vh{E:α->List Value}(hE:∀a,(E a).length=s){w:World}{A:OA}{l:List α}(h:Sl w ty s A l.length (l.flatMap E))(hk:k<=l.length):
 Sl w ty s A k ((l.take k).flatMap E):=by
 refine⟨by rw[kj E s hE,E1,Gl hk],λh0=>?_⟩;obtain⟨b,off,cs,fz,hA,hb,hc⟩:=h.2 o_;refine⟨b,off,cs,fz,hA,hb,λj u hu=>hc j u ?_⟩;rw[tt E s hE,Fk]at hu;split at hu
 .exact hu
 .cases hu
theorem Sl.x3{E:α->List Value}(hE:∀a,(E a).length=s){w:World}{A:OA}{l:List α}(h:Sl w ty s A l.length (l.flatMap E))(hk:k<=l.length)(q:Nat)(am:l.length<=q):
 Sl w ty s (if q=k then A else A.map (·.add (k*s))) (l.length-k) ((l.drop k).flatMap E):=by
 refine⟨by rw[kj E s hE,FQ],λh0=>?_⟩;obtain⟨b,off,cs,fz,hA,hb,hc⟩:=h.2 o_;subst hA;rw[Q_ o_];refine⟨b,off+k*s,cs,fz,by simp[pF],hb,λj u hu=>?_⟩;rw[Gd];refine hc _ u ?_;rw[xu E s hE,GJ]at hu;exact hu
theorem kN{w:World}{g:Nat}{t:TypeId}{cs:Array Value}(h:Bk w g t cs)(hs:cs.size=s):Sl w t s (j_ g) 1 cs.toList:=
 ⟨by simp[hs],λ_=>⟨g,0,cs,(0,0),rfl,h,λj u hu=>by simpa using hu⟩⟩
section
variable{P:Program}(w:World)
theorem zR(t ty e:TypeId)(i:TypeInfo)(z:Value)(size bytes:Nat)(ht:P.underlying t=some (.slice e))(hi:P.info? e=some i)(hz:i.zero=some z)(q:i.size=size)(p:i.bytes=bytes)(C:z.cells.size=size)(aL:0<size)(L:0<bytes)(A:OA)(n:Nat)(xs:List Value)(hA:Sl w e size A n xs)(B:OA)(m c:Nat)(news:List Value)(hB:Sl w f size B m news)(h1:∀u∈news,u.oneCell'=true)(y:(n+m)*bytes<=140737488355328):
 ∃A' c' w',(Builtin.append_ #[t,t] ty #[.slice A n n,.slice B m c]).run P w=.ok (.slice A' (n+m) c') w'/\n+m<=c'/\Sl w' e size A' (n+m) (xs++news)/\Gr [] w w':=by
 have l:n+m<=maxLen:=by
  have:n+m<=(n+m)*bytes:=F2 _ L
  simp only[maxLen];omega
 rcases Fd m with hm|hm
 .subst hm;have hn:=EP (zu hB.1);subst hn;refine⟨A,n,w,?_,o_,by simpa using hA,F_ _ _⟩
  rcases Fd n with hn|hn
  .subst hn
   cases A with
   |none=>cases B<;>simp[Builtin.append_,Fj ht,sizeOf,typeInfo,hi,Builtin.lenOf,Builtin.firstCells,loadCells,loadCellsFrom]
   |some a=>cases B<;>simp[Builtin.append_,Fj ht,sizeOf,typeInfo,hi,Builtin.lenOf,Builtin.firstCells,storeCells,loadCells,loadCellsFrom]
  .obtain⟨b,off,rfl,_⟩:=Sl.f_ hA hn
   cases B<;>simp[Builtin.append_,Fj ht,sizeOf,typeInfo,hi,Builtin.lenOf,Builtin.firstCells,storeCells,loadCells,loadCellsFrom]
 .obtain⟨d,rfl,hc⟩:=hB.nG hm
  have fin:∀v' w',w'.ownsRow w.heap.size e size v' (n+m) (xs++news)->w.grownBy w' none->∃A' c',v'=.slice A' (n+m) c'/\n+m<=c'/\Sl w' e size A' (n+m) (xs++news)/\Gr [] w w':=by
   intro v' w' ho hg
   obtain⟨A',c',rfl⟩:∃A' c',v'=.slice A' (n+m) c':=by
    rcases ho.2 with⟨rfl,h0⟩|⟨g,lW,cur,rfl,_⟩
    .exact⟨none,0,by rw[h0]⟩
    .exact⟨_,_,rfl⟩
   exact⟨A',c',rfl,jf ho,Sl.iT ho,(F_ [] w).grown hg s_⟩
  cases A with
  |none=>
   have hn:n=0:=by
    rcases Fd n with hn|hn
    .exact hn
    .obtain⟨b,off,h,_⟩:=Sl.f_ hA hn
     cases h
   subst hn;have hx:=EP (zu hA.1);subst hx;obtain⟨v',w',N,h2,h3,_⟩:=run_append_own (P:=P) w w.heap.size t ty e i z size bytes ht hi hz q p C aL _ 0 [] (iV w w.heap.size e size) d m c news hB.1 hc h1 l y (H_ _);obtain⟨A',c',rfl,au,aq,aU⟩:=fin v' w' h2 h3;exact⟨A',c',w',N,au,aq,aU⟩
  |some a=>
   have k:∀j u,xs[j]?=some u->w.cell? (a.add j)=some u:=by
    rcases Fd n with hn|hn
    .subst hn;have hx:=EP (zu hA.1);subst hx;simp
    .obtain⟨a',ha,h⟩:=hA.nG hn;injection ha with ha;subst ha;exact h
   obtain⟨v',w',N,r1,r2⟩:=run_append_arg_grows (P:=P) w t ty e i z size bytes ht hi hz q p C aL a n n xs hA.1 k d m c news hB.1 hc o_ l y;obtain⟨A',c',rfl,au,aq,aU⟩:=fin v' w' r1 r2;exact⟨A',c',w',N,au,aq,aU⟩
theorem xE{a:Act}(s x:Operand)(t:TypeId)(ho:o.op=.call {callee:=.builtin .append,args:=#[s,x],argTypes:=#[t,t]})(e:TypeId)(i:TypeInfo)(z:Value)(size bytes:Nat)(ht:P.underlying t=some (.slice e))(hi:P.info? e=some i)(hz:i.zero=some z)(q:i.size=size)(p:i.bytes=bytes)(C:z.cells.size=size)(aL:0<size)(L:0<bytes)(A:OA)(n:Nat)(xs:List Value)(hs:a.eval s=.slice A n n)(hA:Sl w e size A n xs)(B:OA)(m c:Nat)(news:List Value)(hx:a.eval x=.slice B m c)(hB:Sl w f size B m news)(h1:∀u∈news,u.oneCell'=true)(y:(n+m)*bytes<=140737488355328)(h:∀(A':OA) (c':Nat) (w':World),n+m<=c'->Sl w' e size A' (n+m) (xs++news)->Gr [] w w'->K (a.put o.dst (.slice A' (n+m) c')) w'):o.wp P a w K Q:=by
 obtain⟨A',c',w',N,h2,h3,au⟩:=zR (P:=P) w t o.type e i z size bytes ht hi hz q p C aL L A n xs hA B m c news hB h1 y;exact Jx
theorem o6{rest:List Oper}{a:Act}(V:o.guard=none)(s x:Operand)(t:TypeId)(ho:o.op=.call {callee:=.builtin .append,args:=#[s,x],argTypes:=#[t,t]})(e:TypeId)(i:TypeInfo)(z:Value)(size bytes:Nat)(ht:P.underlying t=some (.slice e))(hi:P.info? e=some i)(hz:i.zero=some z)(q:i.size=size)(p:i.bytes=bytes)(C:z.cells.size=size)(aL:0<size)(L:0<bytes)(A:OA)(n:Nat)(xs:List Value)(hs:a.eval s=.slice A n n)(hA:Sl w e size A n xs)(B:OA)(m c:Nat)(news:List Value)(hx:a.eval x=.slice B m c)(hB:Sl w f size B m news)(h1:∀u∈news,u.oneCell'=true)(y:(n+m)*bytes<=140737488355328)(h:∀(A':OA) (c':Nat) (w':World),n+m<=c'->Sl w' e size A' (n+m) (xs++news)->Gr [] w w'->wpList P ops Q rest (a.put o.dst (.slice A' (n+m) c')) w'):wpList P ops Q (o::rest) a w:=
 wpList_plain V λ_ H=>xE w s x t ho e i z size bytes ht hi hz q p C aL L A n xs hs hA B m c news hx hB h1 y λA' c' w' h2 h3 au=>H _ _ (h A' c' w' h2 h3 au)
theorem mr{a:Act}(V:o.guard=none)(s x:Operand)(t:TypeId)(ho:o.op=.call {callee:=.builtin .append,args:=#[s,x],argTypes:=#[t,t]})(e:TypeId)(i:TypeInfo)(z:Value)(size bytes:Nat)(ht:P.underlying t=some (.slice e))(hi:P.info? e=some i)(hz:i.zero=some z)(q:i.size=size)(p:i.bytes=bytes)(C:z.cells.size=size)(aL:0<size)(L:0<bytes)(A:OA)(n:Nat)(xs:List Value)(hs:a.eval s=.slice A n n)(hA:Sl w e size A n xs)(B:OA)(m c:Nat)(news:List Value)(hx:a.eval x=.slice B m c)(hB:Sl w f size B m news)(h1:∀u∈news,u.oneCell'=true)(y:(n+m)*bytes<=140737488355328)(h:∀(A':OA) (c':Nat) (w':World),n+m<=c'->Sl w' e size A' (n+m) (xs++news)->Gr [] w w'->K (a.put o.dst (.slice A' (n+m) c')) w'):
 if Region.wanted o (yielded ops a.tmps)=true then Oper.wp P o a w K Q else E:=by
 have aM:Region.wanted o (yielded ops a.tmps)=true:=by simp[Region.wanted,V]
 rw[T_ aM];exact xE w s x t ho e i z size bytes ht hi hz q p C aL L A n xs hs hA B m c news hx hB h1 y h
end
def uD(cs:Array Value)(o:Nat)(vs:List Value):Array Value:=(cs.toList.take o++(vs++cs.toList.drop (o+vs.length))).toArray
theorem zI(cs:Array Value)(o:Nat)(v:Value)(r:List Value)(h:o+(v::r).length<=cs.size):uD (cs.setIfInBounds o v) (o+1) r=uD cs o (v::r):=by
 unfold uD;congr 1;rw[GG]
 have hl:o<cs.toList.length:=by simp at h |-;omega
 rw[W_ (zu hl),List.getElem_set_self,List.take_set_of_le (H_ _),Ha o_];simp only[Z_,Fc,F8,EO,Gd,Nat.add_comm 1]
theorem pC{g:Nat}{t:TypeId}:∀(vs:List Value) (o:Nat) (w:World) (cs:Array Value),Bk w g t cs->o+vs.length<=cs.size->Bk (w.setCells g o vs) g t (uD cs o vs)/\Gr [g] w (w.setCells g o vs)
 |[],o,w,cs,h,_=>by
  refine⟨?_,F_ _ _⟩
  have e:uD cs o []=cs:=by simp[uD]
  rw[e];exact h
 |v::r,o,w,cs,h,hl=>by
  have Z:=pC (g:=g) (t:=t) r (o+1) (w.setCell (c_ g o) v) (cs.setIfInBounds o v) (h.hW o v) (by simp at hl |-;omega);rw[zI cs o v r hl]at Z;exact⟨Z.1,((F_ [g] w).setCell (p:=(c_ g o)) (.inl s_) v).trans Z.2⟩
theorem AQ{w:World}{g:Nat}{t:TypeId}{cs:Array Value}(h:Bk w g t cs)(o n:Nat)(hn:o+n<=cs.size):w.there g o n:=λj hj=>
 ⟨by rw[h.f_ (o+j),EH o_];rfl,h.hH _⟩
theorem qq(cs vs:Array Value)(h:vs.size=cs.size):uD cs 0 vs.toList=vs:=by
 unfold uD;have e:cs.toList.drop (0+vs.toList.length)=[]:=E3 p_;rw[e];simp
section
variable{P:Program}
theorem jF{a:Act}{w:World}(ty:TypeId)(x y:Operand)(ho:o.op=.store ty x y)(g off:Nat)(hx:a.eval x=.pointer (some (c_ g off)))(vs:Array Value)(hy:a.eval y=.agg vs)(t:TypeId)(cs:Array Value)(hB:Bk w g t cs)(hs:off+vs.size<=cs.size)(hi:(P.info? ty).map (·.size)=some vs.size)(h1:vs.all (·.oneCell')=true)(h:∀w',Bk w' g t (uD cs off vs.toList)->Gr [g] w w'->K (a.put o.dst undef) w'):o.wp P a w K Q:=
 wp_store_mid ty x y ho g off vs hx hy (AQ hB off vs.size hs) hi h1
  (h _ (pC vs.toList off w cs hB (zu hs)).1 (pC vs.toList off w cs hB (zu hs)).2)
theorem jc{rest:List Oper}{a:Act}{w:World}(V:o.guard=none)(ty:TypeId)(x y:Operand)(ho:o.op=.store ty x y)(g off:Nat)(hx:a.eval x=.pointer (some (c_ g off)))(vs:Array Value)(hy:a.eval y=.agg vs)(t:TypeId)(cs:Array Value)(hB:Bk w g t cs)(hs:off+vs.size<=cs.size)(hi:(P.info? ty).map (·.size)=some vs.size)(h1:vs.all (·.oneCell')=true)(h:∀w',Bk w' g t (uD cs off vs.toList)->Gr [g] w w'->wpList P ops Q rest (a.put o.dst undef) w'):wpList P ops Q (o::rest) a w:=
 wpList_plain V λ_ H=>jF ty x y ho g off hx vs hy t cs hB hs hi h1 λw' h2 h3=>H _ _ (h w' h2 h3)
theorem oD{a:Act}{w:World}(ty:TypeId)(x:Operand)(ho:o.op=.load ty x)(g off:Nat)(hx:a.eval x=.pointer (some (c_ g off)))(t:TypeId)(cs vs:Array Value)(hB:Bk w g t cs)(hv:∀j,j<vs.size->cs[off+j]?=vs[j]?)(d:TypeDesc)(hu:P.underlying ty=some d)(hd:d.isRow=true)(hi:(P.info? ty).map (·.size)=some vs.size)(h:K (a.put o.dst (.agg vs)) w):o.wp P a w K Q:=by
 refine wp_load_mid ty x ho g off hx vs.toList d (λj v hj=>?_) hu hd (zu hi) (zu h)
 have ag:j<vs.size:=by
  rcases EJ j vs.size with h|h
  .exact h
  .rw[EW (zu h)]at hj
   cases hj
 rw[hB.f_,hv j ag]
 simpa using hj
theorem iB{rest:List Oper}{a:Act}{w:World}(V:o.guard=none)(ty:TypeId)(x:Operand)(ho:o.op=.load ty x)(g off:Nat)(hx:a.eval x=.pointer (some (c_ g off)))(t:TypeId)(cs vs:Array Value)(hB:Bk w g t cs)(hv:∀j,j<vs.size->cs[off+j]?=vs[j]?)(d:TypeDesc)(hu:P.underlying ty=some d)(hd:d.isRow=true)(hi:(P.info? ty).map (·.size)=some vs.size)(h:wpList P ops Q rest (a.put o.dst (.agg vs)) w):wpList P ops Q (o::rest) a w:=
 wpList_plain V λ_ H=>oD ty x ho g off hx t cs vs hB hv d hu hd hi (H _ _ h)
theorem rO{rest:List Oper}{a:Act}{w:World}(V:o.guard=none)(ty:TypeId)(x:Operand)(ho:o.op=.load ty x)(g:Nat)(hx:a.eval x=q_ g)(t:TypeId)(cs:Array Value)(hB:Bk w g t cs)(d:TypeDesc)(hu:P.underlying ty=some d)(hd:d.isRow=true)(hi:(P.info? ty).map (·.size)=some cs.size)(h:wpList P ops Q rest (a.put o.dst (.agg cs)) w):wpList P ops Q (o::rest) a w:=
 iB V ty x ho g 0 hx t cs cs hB (λj _=>by rw[U_]) d hu hd hi h
end
section
variable{P:Program}
theorem ly{rest:List Oper}{a:Act}{w:World}(V:o.guard=none)(ty:TypeId)(x y:Operand)(ho:o.op=.store ty x y)(g:Nat)(hx:a.eval x=q_ g)(vs:Array Value)(hy:a.eval y=.agg vs)(t:TypeId)(cs:Array Value)(hB:Bk w g t cs)(hs:vs.size=cs.size)(hi:(P.info? ty).map (·.size)=some vs.size)(h1:vs.all (·.oneCell')=true)(h:∀w',Bk w' g t vs->Gr [g] w w'->wpList P ops Q rest (a.put o.dst undef) w'):wpList P ops Q (o::rest) a w:=
 jc V ty x y ho g 0 hx vs hy t cs hB o_ hi h1 λw' h2 h3=>h w' (by rw[qq cs vs hs]at h2;exact h2) h3
end
theorem kT{P:Program}{rest:List Oper}{a:Act}{w:World}{x:Operand}{g:Nat}{t:TypeId}{cs:Array Value}{d:TypeDesc}(hB:Bk w g t cs)(hu:P.underlying ty=some d)(h:wpList P ops Q rest (a.put o.dst (.agg cs)) w)(V:o.guard=none:=by rfl)(ho:o.op=.load ty x:=by rfl)(hx:a.eval x=q_ g:=by rfl)(hd:d.isRow=true:=by rfl)(hi:(P.info? ty).map (·.size)=some cs.size:=by kernel_rfl):wpList P ops Q (o::rest) a w:=rO V ty x ho g hx t cs hB d hu hd hi h
theorem kQ{P:Program}{rest:List Oper}{a:Act}{w:World}{x y:Operand}{g:Nat}{t:TypeId}{cs:Array Value}(hB:Bk w g t cs)(h1:vs.all (·.oneCell')=true)(h:∀w',Bk w' g t vs->Gr [g] w w'->wpList P ops Q rest (a.put o.dst undef) w')(V:o.guard=none:=by rfl)(ho:o.op=.store ty x y:=by rfl)(hx:a.eval x=q_ g:=by rfl)(hy:a.eval y=.agg vs:=by rfl)(hs:vs.size=cs.size:=by rfl)(hi:(P.info? ty).map (·.size)=some vs.size:=by kernel_rfl):wpList P ops Q (o::rest) a w:=ly V ty x y ho g hx vs hy t cs hB hs hi h1 h
end Go.Proofs.YtenbhdilndfaeaaGreat
