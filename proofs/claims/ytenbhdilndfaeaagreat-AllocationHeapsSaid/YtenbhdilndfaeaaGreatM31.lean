import Derived.Test.YtenbhdilndfaeaaGreatM30
set_option maxRecDepth 100000
set_option maxHeartbeats 0
set_option linter.all false
namespace Go.Proofs.YtenbhdilndfaeaaGreat
open Go.RowKit Go.Proofs.Tryz
variable{G:Prop}{g:Nat}(A:Option Addr)(c:Nat)(l:List In)(hq g9:Int)(B:Option Addr)(cb:Nat)(d:List Int)(t:Tk)(aQ:Option Addr)(vc:Nat)(b:List Rw)(n:Nat)(w:World)
theorem GM(h:G:=by
 go_wp2_with (first|(go_at_call 82;have ak:=oP B cb d f.kl _ (hD.g_ aB) hd;rw[bB]at ak;refine ak.mono ?_;rintro e bS⟨rfl,aI⟩;have cF:bS.cell? (c_ gx 47)=some (i_ (x.hw+1)):=((bv.g_ aI).f_ 47).trans rfl;have Z:=(W.g_ aI).f_ 0;have ah:=(W.g_ aI).f_ 1;have au:=(W.g_ aI).f_ 2;have aP:bS.cell? (c_ bt 1)=some (i_ f.pc):=((h.g_ aI).f_ 1).trans rfl)|(go_at_call 83;have ak:=k8 A c l hq g9 f.pc _ (N.g_ (aB.trans aI)) hn;rw[has]at ak;refine ak.mono ?_;rintro e bn⟨rfl,o⟩))
 go_meet;exact⟨iY aY.out.symm,aI.trans o⟩):G:=h
theorem Ha(h:G:=by
 go_wp2_with (go_at_call 82;have ak:=oP B cb d f.kl _ (hD.g_ aB) hd;rw[bB]at ak;refine ak.mono ?_;rintro e bS⟨rfl,aI⟩;have cF:bS.cell? (c_ gx 47)=some (i_ (x.hw+1)):=((bv.g_ aI).f_ 47).trans rfl;have Z:=(W.g_ aI).f_ 0;have ah:=(W.g_ aI).f_ 1;have au:=(W.g_ aI).f_ 2;have aP:bS.cell? (c_ bt 1)=some (i_ f.pc):=((h.g_ aI).f_ 1).trans rfl)
 go_meet;exact⟨iY aY.out.symm,aI⟩):G:=h
theorem Hf(h:G:=by
 have aE:Gr [] R ag:=bX.jz G T;clear C
 refine hS H ⟨λj _=>by rw[U_];exact(u.g_ aE).f_ j,λj hj=>by rw[(a.g_ aE).f_];exact mI t j hj,λj _=>by rw[U_];exact(a.g_ aE).f_ j,((a.g_ aE).f_ 1).trans rfl,((a.g_ aE).f_ 39).trans rfl,(k.g_ aE).f_ 0⟩ λC=>?_
 clear H K;refine hA k_ ?_ _;go_wp2;go_meet;exact⟨_,f,rfl,aN,T,po bL b9 G,aj,aE⟩):G:=h
theorem Ip(h:G:=by
 refine⟨?_,?_,?_⟩
 .intro he;exact D6 (he▸T) (EH.2 (u.lt))
 .intro he;exact D6 (he▸T) (EH.2 (a.lt))
 .intro he;exact D6 (he▸T) (EH.2 (k.lt))):G:=h
theorem JT(h:G:=by
 have h1:=u.lt;have h2:=s.lt;have h3:=i.lt;have aw:=aH.lt;have ax:=am.size;omega):G:=h
theorem tI{P:Program}{w:World}{ops:Array Oper}{rest:List Oper}{o:Oper}{a:Act}{Q:Exit->Act->World->Prop}(ap:o.guard=none)(l c:Operand)(t:TypeId)
 (ho:o.op=.makeSlice t l c) (e:TypeId) (i:TypeInfo) (z:Value) (size bytes:Nat) (X:P.underlying t=some (.slice e)) (hi:P.info? e=some i) (hz:i.zero=some z) (C:i.size=size) (y:i.bytes=bytes)
 (j f:IntKind) (n:Nat) (hl:a.eval l=.int j (n:Int)) (hc:a.eval c=.int f (n:Int)) (hb:(bytes:Int)*(n:Int)<=281474976710656) (hn:n<=1000000000)
 (h:wpList P ops Q rest (a.put o.dst (.slice (j_ w.heap.size) n n)) (w.alloc (.cells (madeCells z.cells (n*size)) e))):wpList P ops Q (o::rest) a w:=
 wpList_step λK H=>tN (w:=w) ap l c t ho e i z size bytes X hi hz C y j f (n:Int) hl hc o_ hb o_ (H _ _ (by simpa using h))
theorem rm{w:World}(v:Vl)(h:Bk w g 38 (((madeCells #[.bool false,i_ 0] ((n+1)*2)).setIfInBounds 0 (.bool v.r)).setIfInBounds 1 (i_ v.n))):Vs w (j_ g) (v::List.replicate n default):=by
 have au:(madeCells #[Value.bool false,i_ 0] ((n+1)*2)).size=(n+1)*2:=size_madeCells _ _;refine⟨by rw[lD],λ_=>⟨g,0,_,(0,0),rfl,h,?_⟩⟩;intro j u hj;rw[U_]
 by_cases h0:j=0
 .subst h0;rw[E4 d_,F8 o_];exact hj
 by_cases h1:j=1
 .subst h1;rw[F8 p_];exact hj
 rw[E4 o_,E4 o_]
 have aj:j<(n+1)*2:=by
  have:=(Fh.1 hj).1
  rw[lD,D3,EE]at this;exact this
 rw[og _ _ _ aj]
 have h2:j=(j / 2)*2+j % 2:=by omega
 have hg:(iR (v::List.replicate n default))[(j / 2)*2+j % 2]?=(Vl.E default)[j % 2]?:=by
  unfold iR;rw[jL Vl.E (λ_=>rfl) _ (j / 2) (j % 2) (by rw[D3,EE];omega) o_]
  have:(v::List.replicate n (default:Vl))[j / 2]'(by rw[D3,EE];omega)=default:=by
   obtain⟨m,Y⟩:∃m,j / 2=m+1:=⟨j / 2-1,by omega⟩;simp only[Y,Fv,F2]
  rw[this]
 rw[<-h2,hj]at hg
 show some ((#[Value.bool false,Value.int .i64 0])[j % 2]!)=some u
 rcases Fz j with h|h
 .rw[h]at hg |-;exact hg.symm
 .rw[h]at hg |-;exact hg.symm
def mr(h:Value)(nx:Int):Array Value:=#[h,i_ 0,.bool false,i_ 0,.bool false,i_ 0,.bool false,i_ 0,.bool false,i_ 0,.bool false,i_ 0,.bool false,i_ 0,.bool false,i_ 0,.bool false,i_ 0,.bool false,i_ 0,.bool false,i_ 0,.bool false,i_ 0,.bool false,i_ 0,.bool false,i_ 0,.bool false,i_ 0,.bool false,i_ 0,.bool false,i_ 0,i_ nx,i_ 0,n_,.bool false,.bool false,.bool false,i_ 0,i_ 0]
theorem nI(c:Nat)(nx:Int):(mr (.slice A n c) nx).all (·.oneCell')=true:=by unfold mr;simp[Value.oneCell']
def startHeap(hq:Int):List Ob:=[⟨1,⟨true,2⟩::List.replicate 2 default⟩,⟨2,⟨true,0⟩::List.replicate (2+hq.toNat) default⟩]
def vO(ok:Bool)(hq:Int)(w:World)(e:Ending)(w':World):Prop:=
 ∃(A:Option Addr) (c:Nat) (rs:List Rw),e=.returned (.tuple #[.agg #[.slice A rs.length c,i_ 0,.bool false,i_ 0,.bool false,i_ 0,.bool false,i_ 0,.bool false,i_ 0,.bool false,i_ 0,.bool false,i_ 0,.bool false,i_ 0,.bool false,i_ 0,.bool false,i_ 0,.bool false,i_ 0,.bool false,i_ 0,.bool false,i_ 0,.bool false,i_ 0,.bool false,i_ 0,.bool false,i_ 0,.bool false,i_ 0,i_ (if ok=true then 3 else 0),i_ 0,n_,.bool false,.bool false,.bool false,i_ 0,i_ 0],i_ (if ok=true then 0 else 1)])/\l5 w' A c rs/\hN rs=(if ok=true then startHeap hq else[])/\Gr [] w w'
theorem uZ(h:Is w A l)(hn:l.length<=1000000000)(hv:hZ l hq g9=false):
 Calls prog 91 #[.agg #[.slice A l.length c,i_ hq,i_ g9]] w (vO false hq w):=by
 obtain⟨D,hR,J⟩:=pG w 26 #[.slice A l.length c,i_ hq,i_ g9] 154 #[n_,i_ 0,.bool false,i_ 0,.bool false,i_ 0,.bool false,i_ 0,.bool false,i_ 0,.bool false,i_ 0,.bool false,i_ 0,.bool false,i_ 0,.bool false,i_ 0,.bool false,i_ 0,.bool false,i_ 0,.bool false,i_ 0,.bool false,i_ 0,.bool false,i_ 0,.bool false,i_ 0,.bool false,i_ 0,.bool false,i_ 0,i_ 0,i_ 0,n_,.bool false,.bool false,.bool false,i_ 0,i_ 0]
 go_enter func91,ntmps91
 go_upto_region 1 with fail
 obtain⟨bm,bN⟩:=nm_ ((w.alloc (.cells #[.slice A l.length c,i_ hq,i_ g9] 26)).alloc (.cells #[n_,i_ 0,.bool false,i_ 0,.bool false,i_ 0,.bool false,i_ 0,.bool false,i_ 0,.bool false,i_ 0,.bool false,i_ 0,.bool false,i_ 0,.bool false,i_ 0,.bool false,i_ 0,.bool false,i_ 0,.bool false,i_ 0,.bool false,i_ 0,.bool false,i_ 0,.bool false,i_ 0,.bool false,i_ 0,.bool false,i_ 0,i_ 0,i_ 0,n_,.bool false,.bool false,.bool false,i_ 0,i_ 0] 154));rw[<-bN]at D hR J |-;clear bN;obtain⟨L,bF⟩:=nm_ w.heap.size;obtain⟨gr,E⟩:=nm_ (w.heap.size+1);rw[<-E]at hR;rw[<-bF]at D;rw[<-E,<-bF]
 have bE:w.heap.size<=gr:=by omega
 have O:L≠gr:=by omega
 clear bF E;have Z:=D.f_ 0;have ah:=D.f_ 1;have au:=D.f_ 2
 go_wp2_with (first|((go_at_call 92;have ak:=iI A c l hq g9 _ (h.g_ J) hn;rw[hv]at ak;refine ak.mono ?_;rintro e w1⟨rfl,hg1⟩);replace hR:=hR.g_ hg1;replace J:=J.trans hg1)|(refine kG (mr (n_) 0) hR (nI _ _ _ _) ?_;intro ag az G))
 exact lA (mr (n_) 0) (i_ 1) az underlying154 ⟨none,0,[],rfl,⟨EM _ _ _ _,(λr hr=>by cases hr),G_ _⟩,rfl,J.jz G bE⟩
theorem wi(v:Nat)(g9:Int)(w:World)(h:Is w A l)(hn:l.length<=1000000000)(hv:hZ l (v:Int) g9=true)(R:v<=64):
 Calls prog 91 #[.agg #[.slice A l.length c,i_ (v:Int),i_ g9]] w (vO true (v:Int) w):=by
 obtain⟨ar,z,P,s,ax⟩:=info_parts infoVl;obtain⟨D,hR,J⟩:=pG w 26 #[.slice A l.length c,i_ (v:Int),i_ g9] 154 #[n_,i_ 0,.bool false,i_ 0,.bool false,i_ 0,.bool false,i_ 0,.bool false,i_ 0,.bool false,i_ 0,.bool false,i_ 0,.bool false,i_ 0,.bool false,i_ 0,.bool false,i_ 0,.bool false,i_ 0,.bool false,i_ 0,.bool false,i_ 0,.bool false,i_ 0,.bool false,i_ 0,.bool false,i_ 0,.bool false,i_ 0,i_ 0,i_ 0,n_,.bool false,.bool false,.bool false,i_ 0,i_ 0]
 go_enter func91,ntmps91
 go_upto_region 1 with fail
 obtain⟨bm,bN⟩:=nm_ ((w.alloc (.cells #[.slice A l.length c,i_ (v:Int),i_ g9] 26)).alloc (.cells #[n_,i_ 0,.bool false,i_ 0,.bool false,i_ 0,.bool false,i_ 0,.bool false,i_ 0,.bool false,i_ 0,.bool false,i_ 0,.bool false,i_ 0,.bool false,i_ 0,.bool false,i_ 0,.bool false,i_ 0,.bool false,i_ 0,.bool false,i_ 0,.bool false,i_ 0,.bool false,i_ 0,.bool false,i_ 0,.bool false,i_ 0,i_ 0,i_ 0,n_,.bool false,.bool false,.bool false,i_ 0,i_ 0] 154));rw[<-bN]at D hR J |-;clear bN;obtain⟨L,bF⟩:=nm_ w.heap.size;obtain⟨gr,E⟩:=nm_ (w.heap.size+1);rw[<-E]at hR;rw[<-bF]at D;rw[<-E,<-bF]
 have bE:w.heap.size<=gr:=by omega
 have O:L≠gr:=by omega
 clear bF E;have Z:=D.f_ 0;have ah:=D.f_ 1;have au:=D.f_ 2
 go_upto_region 3 with(go_at_call 92;have ak:=iI A c l (v:Int) g9 _ (h.g_ J) hn;rw[hv]at ak;refine ak.mono ?_;rintro e w1⟨rfl,hg1⟩)
 replace D:=D.g_ hg1;replace hR:=hR.g_ hg1;replace J:=J.trans hg1;have af:=J.size
 have g:gr≠w1.heap.size/\gr≠w1.heap.size+1/\L≠w1.heap.size:=by have h1:=hR.lt;have h2:=D.lt;omega
 clear hg1 Z ah au
 go_upto_region 4 with(at_make;refine tI rfl _ _ _ rfl 38 ar _ 2 16 underlying54 z P s ax .i64 .i64 3 r_ r_ o_ o_ ?_)
 have y:Bk ((w1.alloc (.cells (madeCells #[.bool false,i_ 0] (3*2)) 38)).alloc (.cells #[i_ 1,.slice (j_ w1.heap.size) 3 3] 56)) w1.heap.size 38 (madeCells #[.bool false,i_ 0] ((2+1)*2)):=(L_ w1 38 (madeCells #[.bool false,i_ 0] ((2+1)*2))).alloc (.cells #[i_ 1,.slice (j_ w1.heap.size) 3 3] 56);obtain⟨-,f,-⟩:=pG w1 38 (madeCells #[.bool false,i_ 0] (3*2)) 56 #[i_ 1,.slice (j_ w1.heap.size) 3 3];replace D:=(D.alloc (.cells (madeCells #[.bool false,i_ 0] (3*2)) 38)).alloc (.cells #[i_ 1,.slice (j_ w1.heap.size) 3 3] 56);replace hR:=(hR.alloc (.cells (madeCells #[.bool false,i_ 0] (3*2)) 38)).alloc (.cells #[i_ 1,.slice (j_ w1.heap.size) 3 3] 56);replace J:=(J.alloc (.cells (madeCells #[.bool false,i_ 0] (3*2)) 38)).alloc (.cells #[i_ 1,.slice (j_ w1.heap.size) 3 3] 56)
 have m:w.heap.size<=w1.heap.size:=by have:=hR.lt;have:=af;omega
 have n:gr≠w1.heap.size/\gr≠w1.heap.size+1/\L≠w1.heap.size:=g;clear g af;obtain⟨bh,ay⟩:=nm_ ((w1.alloc (.cells (madeCells #[.bool false,i_ 0] (3*2)) 38)).alloc (.cells #[i_ 1,.slice (j_ w1.heap.size) 3 3] 56));rw[<-ay]at y f D hR J |-;clear ay;obtain⟨t,x⟩:=nm_ (w1.heap.size+1);rw[<-x]at f n |-
 have C:t≠w1.heap.size:=by omega
 have Q:w.heap.size<=t:=by omega
 clear x;generalize w1.heap.size=d at*;have m0:bh.cell? (c_ d 0)=some (.bool false):=(y.f_ 0).trans (og _ _ 0 d_);have m1:bh.cell? (c_ d 1)=some (i_ 0):=(y.f_ 1).trans (og _ _ 1 d_);have bB:=y.hm 0;have bH:=y.hm 1;have aN:=f.f_ 1
 go_upto_region 5 with fail
 have cj:=(y.hJ 0 (.bool true)).hJ 1 (i_ 2);have i:=rm 2 ⟨true,2⟩ cj;replace f:=(f.h7 (p:=(c_ d 0)) C (.bool true)).h7 (p:=(c_ d 1)) C (i_ 2);replace D:=(D.h7 (p:=(c_ d 0)) n.2.2 (.bool true)).h7 (p:=(c_ d 1)) n.2.2 (i_ 2);replace hR:=(hR.h7 (p:=(c_ d 0)) n.1 (.bool true)).h7 (p:=(c_ d 1)) n.1 (i_ 2);replace J:=(J.setCell (p:=(c_ d 0)) (.inr m) (.bool true)).setCell (p:=(c_ d 1)) (.inr m) (i_ 2);clear y cj m0 m1 bB bH aN;obtain⟨aJ,a2⟩:=nm_ ((bh.setCell (c_ d 0) (.bool true)).setCell (c_ d 1) (i_ 2));rw[<-a2]at i f D hR J |-;clear a2;have ah:=D.f_ 1;have af:=J.size
 have g:gr≠aJ.heap.size/\gr≠aJ.heap.size+1/\t≠aJ.heap.size/\d≠aJ.heap.size:=by
  have h1:=hR.lt;have h2:=f.lt;refine⟨by omega,by omega,by omega,?_⟩;intro he
  rcases D5 d aJ.heap.size with h3|h3
  .omega
  .obtain⟨b,off,U,hc⟩:=Sl.f_ i s_;injection U with U;injection U with hb;have N:=hc 0 (.bool true) rfl;have aw:=xv N;simp only at aw;omega
 go_upto_region 6 with(at_make;refine tI rfl _ _ _ rfl 38 ar _ 2 16 underlying54 z P s ax .i64 .i64 (3+v) r_ r_ o_ o_ ?_)
 have y:Bk ((aJ.alloc (.cells (madeCells #[.bool false,i_ 0] ((3+v)*2)) 38)).alloc (.cells #[i_ 2,.slice (j_ aJ.heap.size) (3+v) (3+v)] 56)) aJ.heap.size 38 (madeCells #[.bool false,i_ 0] ((2+v+1)*2)):=by
  have e:3+v=2+v+1:=by omega
  have q:=(L_ aJ 38 (madeCells #[.bool false,i_ 0] ((3+v)*2))).alloc (.cells #[i_ 2,.slice (j_ aJ.heap.size) (3+v) (3+v)] 56);rw[<-e];exact q
 obtain⟨-,X,-⟩:=pG aJ 38 (madeCells #[.bool false,i_ 0] ((3+v)*2)) 56 #[i_ 2,.slice (j_ aJ.heap.size) (3+v) (3+v)];replace f:=(f.alloc (.cells (madeCells #[.bool false,i_ 0] ((3+v)*2)) 38)).alloc (.cells #[i_ 2,.slice (j_ aJ.heap.size) (3+v) (3+v)] 56);replace i:=(i.alloc (.cells (madeCells #[.bool false,i_ 0] ((3+v)*2)) 38)).alloc (.cells #[i_ 2,.slice (j_ aJ.heap.size) (3+v) (3+v)] 56);replace hR:=(hR.alloc (.cells (madeCells #[.bool false,i_ 0] ((3+v)*2)) 38)).alloc (.cells #[i_ 2,.slice (j_ aJ.heap.size) (3+v) (3+v)] 56);replace J:=(J.alloc (.cells (madeCells #[.bool false,i_ 0] ((3+v)*2)) 38)).alloc (.cells #[i_ 2,.slice (j_ aJ.heap.size) (3+v) (3+v)] 56);clear D ah;obtain⟨bG,aE⟩:=nm_ ((aJ.alloc (.cells (madeCells #[.bool false,i_ 0] ((3+v)*2)) 38)).alloc (.cells #[i_ 2,.slice (j_ aJ.heap.size) (3+v) (3+v)] 56));rw[<-aE]at y f X i hR J |-;clear aE;obtain⟨H,B⟩:=nm_ (aJ.heap.size+1);rw[<-B]at X g |-
 have I:H≠aJ.heap.size:=by omega
 clear B;generalize aJ.heap.size=a at*;have m0:bG.cell? (c_ a 0)=some (.bool false):=(y.f_ 0).trans (og _ _ 0 o_);have m1:bG.cell? (c_ a 1)=some (i_ 0):=(y.f_ 1).trans (og _ _ 1 o_);have bB:=y.hm 0;have bH:=y.hm 1;have aN:=X.f_ 1
 have e0:(0:Int)<3+(v:Int):=by omega
 go_upto_region 7 with fail
 have cj:=(y.hJ 0 (.bool true)).hJ 1 (i_ 0);have bK:=rm (2+v) ⟨true,0⟩ cj;have k:Gr [a] bG ((bG.setCell (c_ a 0) (.bool true)).setCell (c_ a 1) (i_ 0)):=((D_ [a] bG).setCell (p:=(c_ a 0)) (.inl s_) (.bool true)).setCell (p:=(c_ a 1)) (.inl s_) (i_ 0);replace f:=f.gr k (by simpa using g.2.2.1);replace X:=X.gr k (by simpa using I);replace hR:=hR.gr k (by simpa using g.1)
 replace i:Vs ((bG.setCell (c_ a 0) (.bool true)).setCell (c_ a 1) (i_ 0)) (j_ d) (⟨true,2⟩::List.replicate 2 default):=Sl.ir i (λb off hb _=>by
  injection hb with hb;injection hb with hb
  exact k.block b (by assumption) (by rw[<-hb];simpa using g.2.2.2))
 replace J:=J.jz k af;clear y cj m0 m1 bB bH aN k;obtain⟨a6,bv⟩:=nm_ ((bG.setCell (c_ a 0) (.bool true)).setCell (c_ a 1) (i_ 0));rw[<-bv]at i bK f X hR J |-;clear bv;have p0:=f.f_ 0;have p1:=f.f_ 1;have bM:=X.f_ 0;have bp:=X.f_ 1;have o:Gr [] a6 (a6.alloc (.cells #[i_ 1,.slice (j_ d) 3 3,i_ 2,.slice (j_ a) (3+v) (3+v)] 56)):=(D_ [] a6).alloc _;have hB:=L_ a6 56 #[i_ 1,.slice (j_ d) 3 3,i_ 2,.slice (j_ a) (3+v) (3+v)]
 go_wp2_with (refine kG (mr (.slice (j_ a6.heap.size) 2 2) 3) (hR.g_ o) (nI _ _ _ _) ?_;intro ag az G)
 have M:Gr [] a6 ag∨True:=.inr trivial;clear M
 have K:mW ag [(⟨⟨1,⟨true,2⟩::List.replicate 2 default⟩,some (c_ d 0),3⟩:Rw),(⟨⟨2,⟨true,0⟩::List.replicate (2+v) default⟩,some (c_ a 0),3+v⟩:Rw)]:=by
  intro r hr;have hk:=(hR.g_ o)
  rcases M_.1 hr with rfl|hr
  .exact⟨Sl.ig (i.g_ o) hk d_ G,by show(3:Nat)<=1000000000;decide⟩
  .have:r=(⟨⟨2,⟨true,0⟩::List.replicate (2+v) default⟩,some (c_ a 0),3+v⟩:Rw):=by simpa using hr
   subst this;exact⟨Sl.ig (bK.g_ o) hk d_ G,by show(⟨true,0⟩::List.replicate (2+v) (default:Vl)).length<=1000000000;simp;omega⟩
 have W:Os ag (j_ a6.heap.size) [(⟨⟨1,⟨true,2⟩::List.replicate 2 default⟩,some (c_ d 0),3⟩:Rw),(⟨⟨2,⟨true,0⟩::List.replicate (2+v) default⟩,some (c_ a 0),3+v⟩:Rw)]:=by
  have e:jy [(⟨⟨1,⟨true,2⟩::List.replicate 2 default⟩,some (c_ d 0),3⟩:Rw),(⟨⟨2,⟨true,0⟩::List.replicate (2+v) default⟩,some (c_ a 0),3+v⟩:Rw)]=(#[i_ 1,.slice (j_ d) 3 3,i_ 2,.slice (j_ a) (3+v) (3+v)]:Array Value).toList:=by
   simp[jy,Rw.E];omega
  have q:Sl (a6.alloc (.cells #[i_ 1,.slice (j_ d) 3 3,i_ 2,.slice (j_ a) (3+v) (3+v)] 56)) 56 2 (j_ a6.heap.size) 2 (jy [(⟨⟨1,⟨true,2⟩::List.replicate 2 default⟩,some (c_ d 0),3⟩:Rw),(⟨⟨2,⟨true,0⟩::List.replicate (2+v) default⟩,some (c_ a 0),3+v⟩:Rw)]):=by
   rw[e];exact⟨rfl,λ_=>⟨a6.heap.size,0,_,(0,0),rfl,hB,λj u hu=>by rw[U_];simpa using hu⟩⟩
  exact Sl.ig q (hR.g_ o) d_ G
 exact lA (mr (.slice (j_ a6.heap.size) 2 2) 3) (i_ 0) az underlying154 ⟨some (c_ a6.heap.size 0),2,[(⟨⟨1,⟨true,2⟩::List.replicate 2 default⟩,some (c_ d 0),3⟩:Rw),(⟨⟨2,⟨true,0⟩::List.replicate (2+v) default⟩,some (c_ a 0),3+v⟩:Rw)],rfl,⟨W,K,G_ _⟩,rfl,(J.trans o).jz G bE⟩
theorem rp(h:Is w A l)(hn:l.length<=1000000000):
 Calls prog 91 #[.agg #[.slice A l.length c,i_ hq,i_ g9]] w (vO (hZ l hq g9) hq w):=by
 cases hv:hZ l hq g9 with
 |false=>exact uZ A c l hq g9 w h hn hv
 |true=>
  have bX:=hv;unfold hZ at bX;simp only[Ec,EP]at bX;obtain⟨v,rfl⟩:∃v:Nat,hq=v:=⟨hq.toNat,by omega⟩;exact wi A c l v g9 w h hn hv o_
structure Cm where
 h:Sv Rw
 hG:Int
 ja:Int
 hU:Sv Ac
 jt:Bool
 hO:Bool
 v:Vl
 iH:Int
 hw:Int
def Cm.g8(s:Cm):Array Value:=#[.slice s.h.A s.h.l.length s.h.c,i_ s.hG,i_ s.ja,.slice s.hU.A s.hU.l.length s.hU.c,.bool s.jt,.bool s.hO,.bool s.v.r,i_ s.v.n,i_ s.iH,i_ s.hw]
theorem Cm.one(s:Cm):s.g8.all (·.oneCell')=true:=by unfold Cm.g8;simp[Value.oneCell']
structure qR where
 h:List Ob
 hG:Int
 ja:Int
 hU:List Ac
 jt:Bool
 hO:Bool
 v:Vl
 iH:Int
 hw:Int
def Cm.p(s:Cm):qR:=⟨hN s.h.l,s.hG,s.ja,s.hU.l,s.jt,s.hO,s.v,s.iH,s.hw⟩
structure lN(w:World)(s:Cm):Prop where
 h:l5 w s.h.A s.h.c s.h.l
 hU:As w s.hU.A s.hU.l
 px:s.hU.ok
theorem lN.g_{w w':World}{s:Cm}(h:lN w s)(hg:Gr [] w w'):lN w' s:=⟨h.h.g_ hg,h.hU.g_ hg,h.px⟩
theorem lN.ig{w w':World}{s:Cm}{ty:TypeId}{cs:Array Value}(h:lN w s)(hk:Bk w g ty cs)(av:56≠ty/\38≠ty/\162≠ty)(hg:Gr [g] w w'):lN w' s:=⟨h.h.ig hk av.1 av.2.1 hg,Sl.ig h.hU hk av.2.2 hg,h.px⟩
def Cm.zero:Cm:=⟨.nil,0,0,.nil,false,false,default,0,0⟩
theorem lN.zero(s:Cm)(h1:s.h=.nil)(h2:s.hU=.nil):lN w s:=by
 obtain⟨a1,f,a3,a4,a5,a,o,b,a9⟩:=s;simp only at h1 h2;subst h1;subst h2;exact⟨⟨EM _ _ _ _,λr hr=>by simp[Sv.nil]at hr,G_ _⟩,EM _ _ _ _,G_ _⟩
def uf(P:qR)(n:Int)(w:World)(e:Ending)(w':World):Prop:=∃s:Cm,e=.returned (.tuple #[.agg s.g8,i_ n])/\lN w' s/\s.p=P/\Gr [] w w'
def r8(ok:Bool)(hq:Int):qR:=if ok=true then{Cm.zero.p with h:=startHeap hq} else Cm.zero.p
theorem vD(h:Is w A l)(hn:l.length<=1000000000):
 Calls prog 47 #[.agg #[.slice A l.length c,i_ hq,i_ g9]] w (uf (r8 (hZ l hq g9) hq) (if hZ l hq g9=true then 0 else 1) w):=by
 obtain⟨D,hR,J⟩:=pG w 26 #[.slice A l.length c,i_ hq,i_ g9] 40 #[n_,i_ 0,i_ 0,n_,.bool false,.bool false,.bool false,i_ 0,i_ 0,i_ 0]
 go_enter func47,ntmps47
 go_upto_region 1 with fail
 obtain⟨bm,bN⟩:=nm_ ((w.alloc (.cells #[.slice A l.length c,i_ hq,i_ g9] 26)).alloc (.cells #[n_,i_ 0,i_ 0,n_,.bool false,.bool false,.bool false,i_ 0,i_ 0,i_ 0] 40));rw[<-bN]at D hR J |-;clear bN;obtain⟨L,bF⟩:=nm_ w.heap.size;obtain⟨gr,E⟩:=nm_ (w.heap.size+1);rw[<-E]at hR;rw[<-bF]at D;rw[<-E,<-bF]
 have bE:w.heap.size<=gr:=by omega
 clear bF E;have Z:=D.f_ 0;have ah:=D.f_ 1;have au:=D.f_ 2
 cases hv:hZ l hq g9 with
 |false=>
  go_wp2_with (first|(go_at_call 91;have ak:=rp A c l hq g9 _ (h.g_ J) hn;rw[hv]at ak;refine ak.mono ?_;unfold vO;rintro e w1⟨A1,c1,rs,a,b,dW,hg1⟩;have a:e=.returned (.tuple #[.agg (mr (.slice A1 rs.length c1) 0),i_ 1]):=a;subst a)|(refine kG (mr (.slice A1 rs.length c1) 0) (L_ w1 154 #[n_,i_ 0,.bool false,i_ 0,.bool false,i_ 0,.bool false,i_ 0,.bool false,i_ 0,.bool false,i_ 0,.bool false,i_ 0,.bool false,i_ 0,.bool false,i_ 0,.bool false,i_ 0,.bool false,i_ 0,.bool false,i_ 0,.bool false,i_ 0,.bool false,i_ 0,.bool false,i_ 0,.bool false,i_ 0,.bool false,i_ 0,i_ 0,i_ 0,n_,.bool false,.bool false,.bool false,i_ 0,i_ 0]) (nI _ _ _ _) ?_;intro w2 a8 aR;have aU:w2.cell? (c_ w1.heap.size 0)=some (.slice A1 rs.length c1):=(a8.f_ 0).trans rfl)|(refine li rfl 40 _ _ rfl (gr) r_ (Cm.zero.g8) r_ 40 _ ((hR.g_ hg1).g_ (((D_ [] w1).alloc _).jz aR (G_ _))) r_ k_ (Cm.one _) ?_;intro ag az G))
  all_goals (
   have cl:Gr [] w1 w2:=((D_ [] w1).alloc _).jz aR (G_ _);have bX:=(hR.g_ hg1).g_ cl
   exact lA Cm.zero.g8 (i_ 1) az underlying40 ⟨Cm.zero,rfl,lN.zero _ _ rfl rfl,rfl,((J.trans hg1).trans cl).jz G bE⟩)
 |true=>
  go_wp2_with (first|(go_at_call 91;have ak:=rp A c l hq g9 _ (h.g_ J) hn;rw[hv]at ak;refine ak.mono ?_;unfold vO;rintro e w1⟨A1,c1,rs,a,b,dW,hg1⟩;have a:e=.returned (.tuple #[.agg (mr (.slice A1 rs.length c1) 3),i_ 0]):=a;subst a)|(refine kG (mr (.slice A1 rs.length c1) 3) (L_ w1 154 #[n_,i_ 0,.bool false,i_ 0,.bool false,i_ 0,.bool false,i_ 0,.bool false,i_ 0,.bool false,i_ 0,.bool false,i_ 0,.bool false,i_ 0,.bool false,i_ 0,.bool false,i_ 0,.bool false,i_ 0,.bool false,i_ 0,.bool false,i_ 0,.bool false,i_ 0,.bool false,i_ 0,.bool false,i_ 0,.bool false,i_ 0,i_ 0,i_ 0,n_,.bool false,.bool false,.bool false,i_ 0,i_ 0]) (nI _ _ _ _) ?_;intro w2 a8 aR;have aU:w2.cell? (c_ w1.heap.size 0)=some (.slice A1 rs.length c1):=(a8.f_ 0).trans rfl)|(refine li rfl 40 _ _ rfl (gr) r_ (({Cm.zero with h:=⟨A1,c1,rs⟩}:Cm).g8) r_ 40 _ ((hR.g_ hg1).g_ (((D_ [] w1).alloc _).jz aR (G_ _))) r_ k_ (Cm.one _) ?_;intro ag az G))
  all_goals (
   have cl:Gr [] w1 w2:=((D_ [] w1).alloc _).jz aR (G_ _);have bX:=(hR.g_ hg1).g_ cl
   exact lA ({Cm.zero with h:=⟨A1,c1,rs⟩}:Cm).g8 (i_ 0) az underlying40 ⟨({Cm.zero with h:=⟨A1,c1,rs⟩}:Cm),rfl,⟨(b.g_ cl).ig bX d_ d_ G,EM _ _ _ _,G_ _⟩,by unfold r8;rw[Q_ rfl,<-show hN rs=startHeap hq from dW];rfl,((J.trans hg1).trans cl).jz G bE⟩)
theorem tQ(N:Is w A l)(hn:l.length<=1000000000)(hD:Ns w 3 B d)(hd:d.length<=1000000000)(X:kY w t)(hv:l5 w aQ vc b)(aL:qI l hq g9 d=true)(hs:t.hV=0)(ao:t.p.sm 500000)(cg:b.length<=99999999)(b4: -1<=t.pc)(bo:t.pc<=1000000)(bu:0<=t.run)(bD:t.run<=1099511627776)(a6:0<=t.hw)(bQ:t.hw<=1000000):
 Calls prog 39 #[.agg #[.slice A l.length c,i_ hq,i_ g9],.agg #[.slice B d.length cb],.agg t.g8,.agg #[.slice aQ b.length vc]] w (mR (jh l hq g9 d t.p (hN b)) 0 w):=by
 obtain⟨E,hE⟩:=mn_ (lE l hq g9 t.pc t.r (jk t.p (hN b)) ((t.run+1)*1048576+t.nw.l.length));have cw:E.sm 100:=hE▸(r0 _ _ _ _ _ _ _).mono d_;have bY:=h_ hE
 have bj:Hid (jh l hq g9 d t.p (hN b)=if E.hT=4 then mV t.p else
  if E.hT=3 then{t.p with hV:=1,next:=t.p.pc+1} else
  match record t.p (hN b) E with
  |none=>mV t.p
  |some x=>
   if E.hT=2 then{x with pc:=E.pc,r:=E.r,hw:=x.hw+1,hV:=3,hO:=E.hO,v:=E.v}
   else if E.hT=1/\(iN (λz=>z==E.kl) d=true∨64<=x.hw+1∨jm l hq g9 E.pc=true) then{x with pc:=E.pc,r:=E.r,hw:=x.hw+1,hV:=2,next:=E.pc}
   else{x with pc:=E.pc,r:=E.r,hw:=x.hw+1}):=h_ (by
   have bi:t.p.nw.length=t.nw.l.length:=hW _
   have aS:lE l hq g9 t.p.pc t.p.r (jk t.p (hN b)) ((t.p.run+1)*1048576+t.p.nw.length)=E:=by rw[bi];exact hE
   unfold jh;rw[aS]
   rfl)
 clear hE
 have bO:b.length+t.nw.l.length<=999999999:=by have:=ao.nw;have e:t.p.nw.length=t.nw.l.length:=hW _;omega
 have aV:t.ws.l.length<=1000000000:=F_ ao.ws d_;have c7:t.ds.l.length<=1000000000:=F_ ao.ds d_;have db:t.gs.l.length<=1000000000:=F_ ao.gs d_;have ar:t.rs.l.length<=1000000000:=F_ ao.rs d_
 have cC:(jk t.p (hN b)).length<=1000000000:=by
  have h1:=v_ t.p (hN b);have h2:=ao.nw;rw[hW]at h1;omega
 have cQ:t.nw.l.length<=500000:=by have:=ao.nw;have e:t.p.nw.length=t.nw.l.length:=hW _;omega
 obtain⟨u,s,a,k,i,J⟩:=DM w 26 #[.slice A l.length c,i_ hq,i_ g9] 32 #[.slice B d.length cb] 53 t.g8 35 #[.slice aQ b.length vc] 53 lp
 go_enter func39,ntmps39
 go_upto_region 1 with fail
 obtain⟨bm,bN⟩:=nm_ (((((w.alloc (.cells #[.slice A l.length c,i_ hq,i_ g9] 26)).alloc (.cells #[.slice B d.length cb] 32)).alloc (.cells t.g8 53)).alloc (.cells #[.slice aQ b.length vc] 35)).alloc (.cells lp 53));rw[<-bN]at u s a k i J |-;clear bN;obtain⟨L,bF⟩:=nm_ w.heap.size;obtain⟨aJ,ap⟩:=nm_ (w.heap.size+1);obtain⟨gt,bM⟩:=nm_ (w.heap.size+1+1);obtain⟨ay,fo⟩:=nm_ (w.heap.size+1+1+1);obtain⟨gr,F⟩:=nm_ (w.heap.size+1+1+1+1);rw[<-F]at i;rw[<-fo]at k;rw[<-bM]at a;rw[<-ap]at s;rw[<-bF]at u;rw[<-F,<-fo,<-bM,<-ap,<-bF]
 have bE:w.heap.size<=gr:=by omega
 have cH:w.heap.size<=gt:=by omega
 have av:L≠gt/\aJ≠gt/\ay≠gt/\gr≠gt/\L≠gr/\aJ≠gr/\ay≠gr:=by omega
 clear bF ap bM fo F;have Z:=u.f_ 0;have ah:=u.f_ 1;have au:=u.f_ 2;have aU:=s.f_ 0;have ck:bm.cell? (c_ gt 42)=some (i_ 0):=(a.f_ 42).trans (D9 (λn=>some (Value.int .i64 n)) hs)
 go_upto_region 5 with(go_at_call 77;have ak:=uT A B c cb l hq g9 d _ (N.g_ J) hn (hD.g_ J) hd;rw[aL]at ak;refine ak.mono ?_;rintro e w1⟨rfl,hg1⟩;replace ck:w1.cell? (c_ gt 42)=some (i_ 0):=((a.g_ hg1).f_ 42).trans (D9 (λn=>some (Value.int .i64 n)) hs))
 replace u:=u.g_ hg1.drew;replace s:=s.g_ hg1.drew;replace a:=a.g_ hg1.drew;replace k:=k.g_ hg1.drew;replace i:=i.g_ hg1.drew;replace J:=J.trans hg1.drew;clear hg1 ck Z ah au aU;obtain⟨R,b5⟩:=nm_ w1.drew;rw[<-b5]at u s a k i J
 go_cut [10] (λp a7=>∃(bt:Nat) (f:Ef),p=q_ bt/\Bk a7 bt 134 f.g8/\R.heap.size<=bt/\sd a7 f/\f.p=E/\Gr [] R a7)
 case first=>
  refine hC (λw'=>(∀j,j<3->w'.cell? (c_ L (0+j))=(#[.slice A l.length c,i_ hq,i_ g9]:Array Value)[j]?)/\(∀j,j<33->w'.cell? (c_ gt (3+j))=(iz t.pc t.r)[j]?)/\(∀j,j<48->w'.cell? (c_ gt (0+j))=t.g8[j]?)/\w'.cell? (c_ gt 1)=some (i_ t.run)/\w'.cell? (c_ gt 39)=some (.slice t.nw.A t.nw.l.length t.nw.c)/\w'.cell? (c_ ay 0)=some (.slice aQ b.length vc)) 17 k_ ?_;rw[<-b5];clear b5
  refine nc ⟨λj _=>by rw[U_];exact u.f_ j,λj hj=>by rw[a.f_];exact mI t j hj,λj _=>by rw[U_];exact a.f_ j,(a.f_ 1).trans rfl,(a.f_ 39).trans rfl,k.f_ 0⟩ λC=>?_
  refine ih 0 (v:=.agg #[.slice A l.length c,i_ hq,i_ g9]) C ?_ (hy:=(Or.inl ⟨by rfl,λw' bA=>lB 26 _ rfl L 0 r_ _ (λj hj=>bA.1 j hj) _ underlying26 rfl k_⟩));refine ih 1 C ?_;refine ih 2 (v:=.agg (iz t.pc t.r)) C ?_ (hy:=(Or.inl ⟨by rfl,λw' bA=>lB 49 _ rfl gt 3 r_ _ (λj hj=>bA.2.1 j hj) _ underlying49 rfl k_⟩));refine ih 3 (v:=.agg t.g8) C ?_ (hy:=(Or.inl ⟨by rfl,λw' bA=>lB 53 _ rfl gt 0 r_ _ (λj hj=>bA.2.2.1 j hj) _ underlying53 rfl k_⟩));refine ih 4 C ?_;refine ih 6 C ?_;refine ih 7 C ?_;refine ih 8 C ?_;refine ih 9 (v:=i_ ((t.run+1)*1048576)) C ?_ (hy:=(Or.inl ⟨by rfl,(by intro w' bA;go_simp;rw[E8,E8];omega)⟩));refine ih 10 C ?_;refine ih 11 C ?_;refine ih 12 C ?_;refine ih 13 (v:=i_ ((t.run+1)*1048576+t.nw.l.length)) C ?_ (hy:=(Or.inl ⟨by rfl,(by intro w' bA;go_simp;rw[E8];omega)⟩));refine i6 5 15 rfl rfl k_ (λK H=>?_) (λK H=>?_)
  .go_simp;have bU:Gr [] w R:=J
   (go_at_call 79;((with_reducible refine(o2 t aQ vc b _ (X.g_ bU) (hv.g_ bU) bO aV c7 db ar).mono ?_);unfold l0;rintro e w2⟨U,hc,hl,rfl,cv,bf,ad⟩))
   have g:Gr [] R w2:=ad;clear C
   refine hS H ⟨λj _=>by rw[U_];exact(u.g_ g).f_ j,λj hj=>by rw[(a.g_ g).f_];exact mI t j hj,λj _=>by rw[U_];exact(a.g_ g).f_ j,((a.g_ g).f_ 1).trans rfl,((a.g_ g).f_ 39).trans rfl,(k.g_ g).f_ 0⟩ λC=>?_
   clear H K;refine i6 14 15 rfl rfl k_ (λK H=>?_) (λK H=>?_)
   .go_simp;have bZ:=cv;have bV:Gr [] w w2:=J.trans g;have bK:=bZ
    (go_at_call 78;have ak:=pD A c l hq g9 t.pc ((t.run+1)*1048576+t.nw.l.length) t.r U hc hl _ (N.g_ bV) hn bK (by rw[<-hW,bf];exact cC) o_;rw[bf]at ak;have aq:=ak;rw[bY.out]at aq;refine aq.mono ?_;unfold vP;rintro e ai⟨f,rfl,V,aj,S⟩)
    have m:Gr [] R ai:=g.trans S;clear C
    refine hS H ⟨λj _=>by rw[U_];exact(u.g_ m).f_ j,λj hj=>by rw[(a.g_ m).f_];exact mI t j hj,λj _=>by rw[U_];exact(a.g_ m).f_ j,((a.g_ m).f_ 1).trans rfl,((a.g_ m).f_ 39).trans rfl,(k.g_ m).f_ 0⟩ λC=>?_
    clear H K
    refine hQ 15 λK H=>?_
    go_simp;have I:Gr [] R (ai.alloc (.cells tm 134)):=m.alloc _;have a2:=L_ ai 134 tm;have bL:=V.g_ ((D_ [] ai).alloc (.cells tm 134));have bX:=I;have T:R.heap.size<=ai.heap.size:=m.size;clear C
    refine hS H ⟨λj _=>by rw[U_];exact(u.g_ I).f_ j,λj hj=>by rw[(a.g_ I).f_];exact mI t j hj,λj _=>by rw[U_];exact(a.g_ I).f_ j,((a.g_ I).f_ 1).trans rfl,((a.g_ I).f_ 39).trans rfl,(k.g_ I).f_ 0⟩ λC=>?_
    clear H K
    refine hQ 16 λK H=>?_
    rw[Q_ r_];refine jq 134 _ _ rfl ai.heap.size 0 r_ f.g8 r_ 134 _ a2 (by show 0+43<=43;decide) k_ (Ef.one _) ?_;intro ag aN G;rw[ql _ _ r_]at aN;have cz:ai.heap.size≠L/\ai.heap.size≠gt/\ai.heap.size≠ay:=Ip;have aE:Gr [] R ag:=bX.jz G T;clear C
    refine hS H ⟨λj _=>by rw[U_];exact(u.g_ aE).f_ j,λj hj=>by rw[(a.g_ aE).f_];exact mI t j hj,λj _=>by rw[U_];exact(a.g_ aE).f_ j,((a.g_ aE).f_ 1).trans rfl,((a.g_ aE).f_ 39).trans rfl,(k.g_ aE).f_ 0⟩ λC=>?_
    clear H K;refine hA k_ ?_ _;go_wp2;go_meet;exact⟨_,f,rfl,aN,T,po bL a2 G,aj,aE⟩
   .go_simp;have I:Gr [] R (w2.alloc (.cells tm 134)):=g.alloc _;have a2:=L_ w2 134 tm;have bZ:=cv.g_ ((D_ [] w2).alloc (.cells tm 134));have T:R.heap.size<=w2.heap.size:=g.size;clear C
    refine hS H ⟨λj _=>by rw[U_];exact(u.g_ I).f_ j,λj hj=>by rw[(a.g_ I).f_];exact mI t j hj,λj _=>by rw[U_];exact(a.g_ I).f_ j,((a.g_ I).f_ 1).trans rfl,((a.g_ I).f_ 39).trans rfl,(k.g_ I).f_ 0⟩ λC=>?_
    clear H K
    refine hQ 14 λK H=>?_
    go_simp;clear g;have g:=I;have bV:Gr [] w (w2.alloc (.cells tm 134)):=J.trans g;have bK:=bZ
    (go_at_call 78;have ak:=pD A c l hq g9 t.pc ((t.run+1)*1048576+t.nw.l.length) t.r U hc hl _ (N.g_ bV) hn bK (by rw[<-hW,bf];exact cC) o_;rw[bf]at ak;have aq:=ak;rw[bY.out]at aq;refine aq.mono ?_;unfold vP;rintro e ai⟨f,rfl,V,aj,S⟩)
    have m:Gr [] R ai:=g.trans S;clear C
    refine hS H ⟨λj _=>by rw[U_];exact(u.g_ m).f_ j,λj hj=>by rw[(a.g_ m).f_];exact mI t j hj,λj _=>by rw[U_];exact(a.g_ m).f_ j,((a.g_ m).f_ 1).trans rfl,((a.g_ m).f_ 39).trans rfl,(k.g_ m).f_ 0⟩ λC=>?_
    clear H K;have b9:=a2.g_ S;have bL:=V;have bX:=m
    refine hQ 16 λK H=>?_
    rw[Q_ r_];refine jq 134 _ _ rfl w2.heap.size 0 r_ f.g8 r_ 134 _ b9 (by show 0+43<=43;decide) k_ (Ef.one _) ?_;intro ag aN G;rw[ql _ _ r_]at aN;have cz:w2.heap.size≠L/\w2.heap.size≠gt/\w2.heap.size≠ay:=Ip;exact Hf
  .go_simp;have I:Gr [] R (R.alloc (.cells tm 134)):=(D_ [] R).alloc _;have a2:=L_ R 134 tm;have T:R.heap.size<=R.heap.size:=G_ _;clear C
   refine hS H ⟨λj _=>by rw[U_];exact(u.g_ I).f_ j,λj hj=>by rw[(a.g_ I).f_];exact mI t j hj,λj _=>by rw[U_];exact(a.g_ I).f_ j,((a.g_ I).f_ 1).trans rfl,((a.g_ I).f_ 39).trans rfl,(k.g_ I).f_ 0⟩ λC=>?_
   clear H K
   refine hQ 5 λK H=>?_
   go_simp;have bU:Gr [] w (R.alloc (.cells tm 134)):=J.trans I
   (go_at_call 79;((with_reducible refine(o2 t aQ vc b _ (X.g_ bU) (hv.g_ bU) bO aV c7 db ar).mono ?_);unfold l0;rintro e w2⟨U,hc,hl,rfl,cv,bf,ad⟩))
   have g:Gr [] R w2:=I.trans ad;clear C
   refine hS H ⟨λj _=>by rw[U_];exact(u.g_ g).f_ j,λj hj=>by rw[(a.g_ g).f_];exact mI t j hj,λj _=>by rw[U_];exact(a.g_ g).f_ j,((a.g_ g).f_ 1).trans rfl,((a.g_ g).f_ 39).trans rfl,(k.g_ g).f_ 0⟩ λC=>?_
   clear H K
   refine hQ 14 λK H=>?_
   go_simp;have bZ:=cv;have bV:Gr [] w w2:=J.trans g;have bK:=bZ
   (go_at_call 78;have ak:=pD A c l hq g9 t.pc ((t.run+1)*1048576+t.nw.l.length) t.r U hc hl _ (N.g_ bV) hn bK (by rw[<-hW,bf];exact cC) o_;rw[bf]at ak;have aq:=ak;rw[bY.out]at aq;refine aq.mono ?_;unfold vP;rintro e ai⟨f,rfl,V,aj,S⟩)
   have m:Gr [] R ai:=g.trans S;clear C
   refine hS H ⟨λj _=>by rw[U_];exact(u.g_ m).f_ j,λj hj=>by rw[(a.g_ m).f_];exact mI t j hj,λj _=>by rw[U_];exact(a.g_ m).f_ j,((a.g_ m).f_ 1).trans rfl,((a.g_ m).f_ 39).trans rfl,(k.g_ m).f_ 0⟩ λC=>?_
   clear H K;have b9:=(a2.g_ ad).g_ S;have bL:=V;have bX:=m
   refine hQ 16 λK H=>?_
   rw[Q_ r_];refine jq 134 _ _ rfl R.heap.size 0 r_ f.g8 r_ 134 _ b9 (by show 0+43<=43;decide) k_ (Ef.one _) ?_;intro ag aN G;rw[ql _ _ r_]at aN;have cz:R.heap.size≠L/\R.heap.size≠gt/\R.heap.size≠ay:=Ip;exact Hf
 case rest=>
  obtain⟨bt,f,rfl,aH,T,V,aj,aM⟩:=hcut;clear b5
  have cz:bt≠L/\bt≠gt/\bt≠ay/\bt≠gr/\bt≠aJ:=by
   have h1:=u.lt;have h2:=a.lt;have h3:=k.lt;have aw:=i.lt;have ax:=s.lt;omega
  have cT:w.heap.size<=bt:=F_ J.size T;replace u:=u.g_ aM;replace s:=s.g_ aM;replace a:=a.g_ aM;replace k:=k.g_ aM;replace i:=i.g_ aM;replace J:=J.trans aM;clear aM T
  by_cases aw:E.hT=4
  .have hk:=aw;have O:Hid (jh l hq g9 d t.p (hN b)=mV t.p):=h_ (by rw[bj.out,Q_ hk]);clear bj;have e0:wc.cell? (c_ bt 0)=some (i_ 4):=(aH.f_ 0).trans (D9 (λn=>some (Value.int .i64 n)) (by rw[<-hk,<-aj];rfl))
   go_wp2_with (first|(refine kJ a underlying53 ?_)|(go_at_call 80;((with_reducible refine(s8 t _ (X.g_ J) a6 o_).mono ?_);unfold tg;rintro e ae⟨t5,rfl,ci,a8,am⟩))|(refine kG (t5.g8) (i.g_ am) (Tk.one _) ?_;intro ag az G))
   rw[O.out];exact lA t5.g8 (i_ 0) az underlying53 ⟨t5,rfl,ci.ig (i.g_ am) d_ G,a8,(J.trans am).hx G p_⟩
  by_cases h3:E.hT=3
  .have hk:=h3;have O:Hid (jh l hq g9 d t.p (hN b)=({t with hV:=1,next:=t.pc+1}:Tk).p):=h_ (by rw[bj.out,P_ (by rw[hk];decide),Q_ hk];rfl);clear bj;have e0:wc.cell? (c_ bt 0)=some (i_ 3):=(aH.f_ 0).trans (D9 (λn=>some (Value.int .i64 n)) (by rw[<-hk,<-aj];rfl));have z3:wc.cell? (c_ gt 3)=some (i_ t.pc):=(a.f_ 3).trans rfl;have ck:wc.cell? (c_ gt 42)=some (i_ t.hV):=(a.f_ 42).trans rfl;have d3:wc.cell? (c_ gt 43)=some (i_ t.next):=(a.f_ 43).trans rfl;have bq:=a.hm 42;have cx:=a.hm 43;have cO:Bk ((wc.setCell (c_ gt 42) (i_ 1)).setCell (c_ gt 43) (i_ (t.pc+1))) gt 53 ({t with hV:=1,next:=t.pc+1}:Tk).g8:=(a.hJ 42 (i_ 1)).hJ 43 (i_ (t.pc+1));have n1:=av.1;have n2:=av.2.1;have n3:=av.2.2.1;have n4:=av.2.2.2.1;have n5:=av.2.2.2.2.1;have n6:=av.2.2.2.2.2.1;have n7:=av.2.2.2.2.2.2;have cN:=(i.h7 (p:=(c_ gt 42)) n4 (i_ 1)).h7 (p:=(c_ gt 43)) n4 (i_ (t.pc+1));have M:Gr [gt] wc ((wc.setCell (c_ gt 42) (i_ 1)).setCell (c_ gt 43) (i_ (t.pc+1))):=((D_ [gt] wc).setCell (p:=(c_ gt 42)) (.inl s_) (i_ 1)).setCell (p:=(c_ gt 43)) (.inl s_) (i_ (t.pc+1));clear n1 n2 n3 n4 n5 n6 n7
   go_wp2_with (first|(refine kJ cO underlying53 ?_)|(refine kG (({t with hV:=1,next:=t.pc+1}:Tk).g8) cN (Tk.one _) ?_;intro ag az G))
   have cG:=(J.hx M p_).hx G p_;rw[O.out];exact lA ({t with hV:=1,next:=t.pc+1}:Tk).g8 (i_ 0) az underlying53 ⟨({t with hV:=1,next:=t.pc+1}:Tk),rfl,kY.of (X.g_ cG) rfl rfl rfl rfl rfl rfl,rfl,cG⟩
  have bJ:=aw;have b0:=h3;clear aw h3
  have bz:Hid (jh l hq g9 d t.p (hN b)=match record t.p (hN b) E with
   |none=>mV t.p
   |some x=>
    if E.hT=2 then{x with pc:=E.pc,r:=E.r,hw:=x.hw+1,hV:=3,hO:=E.hO,v:=E.v}
    else if E.hT=1/\(iN (λz=>z==E.kl) d=true∨64<=x.hw+1∨jm l hq g9 E.pc=true) then{x with pc:=E.pc,r:=E.r,hw:=x.hw+1,hV:=2,next:=E.pc}
    else{x with pc:=E.pc,r:=E.r,hw:=x.hw+1}):=h_ (by rw[bj.out,P_ bJ,P_ b0])
  clear bj
  have c6:(f.hT==4)=false:=by
   have e:f.hT=E.hT:=by rw[<-aj];rfl
   rw[e]
   simpa using bJ
  have bP:(f.hT==3)=false:=by
   have e:f.hT=E.hT:=by rw[<-aj];rfl
   rw[e]
   simpa using b0
  have e0:wc.cell? (c_ bt 0)=some (i_ f.hT):=(aH.f_ 0).trans rfl;have bh:=ww t aQ vc b f;rw[aj]at bh;have cy:E.sm 1000:=cw.mono d_;have cp:t.p.sm 1000000:=ao.mono d_;have z0:=k.f_ 0
  cases aR:record t.p (hN b) E with
  |none=>
   go_upto_region 12 with(first|(refine kJ a underlying53 ?_)|(refine kJ aH underlying134 ?_)|(go_at_call 81;((with_reducible refine(bh _ (X.g_ J) (hv.g_ J) V cp cy o_).mono ?_);rw[aR];unfold uF;rintro e ae⟨x,rfl,am,bG⟩))|(refine kG (x.g8) (L_ ae 53 lp) (Tk.one _) ?_;intro aF bg aC))
   have O:Hid (jh l hq g9 d t.p (hN b)=mV t.p):=h_ (by rw[bz.out,aR]);clear bz;have Q:Gr [] wc aF:=(am.alloc _).hx aC (by simp;exact am.size);replace a:=a.g_ Q;replace i:=i.g_ Q;replace J:=J.trans Q;clear Q
   go_wp2_with (first|(refine kJ a underlying53 ?_)|(go_at_call 80;((with_reducible refine(s8 t _ (X.g_ J) a6 o_).mono ?_);unfold tg;rintro e aG⟨t5,rfl,ci,a8,aO⟩))|(refine kG (t5.g8) (i.g_ aO) (Tk.one _) ?_;intro ag az G))
   rw[O.out];exact lA t5.g8 (i_ 0) az underlying53 ⟨t5,rfl,ci.ig (i.g_ aO) d_ G,a8,(J.trans aO).hx G p_⟩
  |some P=>
   by_cases cj:E.hT=2
   .have hk:=cj
    go_upto_region 12 with(first|(refine kJ a underlying53 ?_)|(refine kJ aH underlying134 ?_)|(go_at_call 81;((with_reducible refine(bh _ (X.g_ J) (hv.g_ J) V cp cy o_).mono ?_);rw[aR];unfold uF;rintro e ae⟨x,rfl,am,bG⟩))|(refine kG (x.g8) (L_ ae 53 lp) (Tk.one _) ?_;intro aF bg aC))
    obtain⟨cq,ct⟩:=bG P rfl;have Q:Gr [] wc aF:=(am.alloc _).hx aC (by simp;exact am.size);have cr:kY aF x:=(cq.g_ ((D_ [] ae).alloc (.cells lp 53))).ig (L_ ae 53 lp) d_ aC;have cA:ae.heap.size≠L/\ae.heap.size≠aJ/\ae.heap.size≠gr/\ae.heap.size≠bt:=JT;replace aH:=aH.g_ Q;replace i:=i.g_ Q;replace u:=u.g_ Q;replace s:=s.g_ Q;replace J:=J.trans Q
    have b3:w.heap.size<=ae.heap.size:=by have:=a.lt;have:=am.size;omega
    have b1:0<=x.hw/\x.hw<=1000000:=by
     have h1:=(ll aR).hw;rw[<-ct]at h1;have h2:x.hw=t.hw:=h1;omega
    clear Q am aC cq a k z0 e0 bh bG;generalize ae.heap.size=gx at*;obtain⟨m1,m2,m3,m4⟩:=cA
    go_upto_region 15 with(first|(refine ip rfl 49 _ rfl bt 1 r_ 134 _ (iz f.pc f.r) aH (λj hj=>z8 f j hj) _ underlying49 rfl k_ ?_)|(refine i0 rfl 49 _ _ rfl gx 3 r_ (iz f.pc f.r) r_ 53 _ bg (by show 3+33<=48;decide) k_ (nP _ _) ?_;intro aG an aO))
    rw[tL]at an;have aZ:kY aG ({x with pc:=f.pc,r:=f.r}:Tk):=kY.of (cr.ig bg d_ aO) rfl rfl rfl rfl rfl rfl;have be:=aH.gr aO (by simpa using m4.symm);have cf:=i.gr aO (by simpa using m3.symm);have ca:=u.gr aO (by simpa using m1.symm);have ce:=s.gr aO (by simpa using m2.symm);have b6:=J.hx aO p_;clear aH i u s J aO cr bg;have cD:aG.cell? (c_ gx 47)=some (i_ x.hw):=(an.f_ 47).trans rfl;have cu:=an.hm 47;have e0:aG.cell? (c_ bt 0)=some (i_ f.hT):=(be.f_ 0).trans rfl
    go_upto_region 16 with fail
    have bv:Bk (aG.setCell (c_ gx 47) (i_ (x.hw+1))) gx 53 ({x with pc:=f.pc,r:=f.r,hw:=x.hw+1}:Tk).g8:=an.hJ 47 (i_ (x.hw+1));have aW:Gr [gx] aG (aG.setCell (c_ gx 47) (i_ (x.hw+1))):=(D_ [gx] aG).setCell (p:=(c_ gx 47)) (.inl s_) (i_ (x.hw+1));have Y:=aZ.ig an d_ aW;have h:=be.gr aW (by simpa using m4.symm);have af:=cf.gr aW (by simpa using m3.symm);have W:=ca.gr aW (by simpa using m1.symm);have bw:=ce.gr aW (by simpa using m2.symm);have aB:=b6.hx aW p_;clear an aZ be cf ca ce b6 aW cD cu e0;obtain⟨bR,bT⟩:=nm_ (aG.setCell (c_ gx 47) (i_ (x.hw+1)));rw[<-bT]at bv Y h af W bw aB |-;clear bT;have e0:bR.cell? (c_ bt 0)=some (i_ f.hT):=(h.f_ 0).trans rfl;have O:Hid (jh l hq g9 d t.p (hN b)=({x with pc:=f.pc,r:=f.r,hw:=x.hw+1,hV:=3,hO:=f.hO,v:=f.v}:Tk).p):=h_ (by rw[bz.out,aR];simp only;rw[Q_ hk,<-ct,<-aj];rfl);clear bz
    have bI:(f.hT==2)=true:=by
     have e:f.hT=E.hT:=by rw[<-aj];rfl
     rw[e]
     simpa using hk
    go_upto_region 17 with fail
    clear e0;refine hC (λw'=>w'.cell? (c_ bt 40)=some (.bool f.hO)/\w'.cell? (c_ bt 41)=some (.bool f.v.r)/\w'.cell? (c_ bt 42)=some (i_ f.v.n)) 10 k_ ?_;replace bv:=bv.drew;replace Y:=Y.g_ ((D_ [] bR).drew);replace h:=h.drew;replace af:=af.drew;replace aB:=aB.drew;obtain⟨bl,aK⟩:=nm_ bR.drew;rw[<-aK]at bv Y h af aB |-;clear aK W bw
    refine nc ⟨(h.f_ 40).trans rfl,(h.f_ 41).trans rfl,(h.f_ 42).trans rfl⟩ λC=>?_
    refine ih 0 C ?_;refine ih 1 C ?_;refine ih 2 C ?_;refine ih 3 C ?_;refine ih 4 C ?_;have ck:bl.cell? (c_ gx 42)=some (i_ x.hV):=(bv.f_ 42).trans rfl;have bq:=bv.hm 42;have z44:bl.cell? (c_ gx 44)=some (.bool x.hO):=(bv.f_ 44).trans rfl;have cJ:=bv.hm 44;have cR:bl.cell? (c_ gx 45)=some (.bool x.v.r):=(bv.f_ 45).trans rfl;have z46:bl.cell? (c_ gx 46)=some (i_ x.v.n):=(bv.f_ 46).trans rfl;have cK:=bv.hm 45;have cM:=bv.hm 46
    refine hQ 5 λK H=>?_
    go_simp;clear C
    refine hS H ⟨((h.h7 (p:=(c_ gx 42)) m4.symm (i_ 3)).f_ 40).trans rfl,((h.h7 (p:=(c_ gx 42)) m4.symm (i_ 3)).f_ 41).trans rfl,((h.h7 (p:=(c_ gx 42)) m4.symm (i_ 3)).f_ 42).trans rfl⟩ λC=>?_
    clear H K;refine ih 6 C ?_
    refine hQ 7 λK H=>?_
    go_simp;clear C
    refine hS H ⟨(((h.h7 (p:=(c_ gx 42)) m4.symm (i_ 3)).h7 (p:=(c_ gx 44)) m4.symm (.bool f.hO)).f_ 40).trans rfl,(((h.h7 (p:=(c_ gx 42)) m4.symm (i_ 3)).h7 (p:=(c_ gx 44)) m4.symm (.bool f.hO)).f_ 41).trans rfl,(((h.h7 (p:=(c_ gx 42)) m4.symm (i_ 3)).h7 (p:=(c_ gx 44)) m4.symm (.bool f.hO)).f_ 42).trans rfl⟩ λC=>?_
    clear H K;refine ih 8 C ?_
    refine hQ 9 λK H=>?_
    go_simp;clear C
    refine hS H ⟨(((((h.h7 (p:=(c_ gx 42)) m4.symm (i_ 3)).h7 (p:=(c_ gx 44)) m4.symm (.bool f.hO)).h7 (p:=(c_ gx 45)) m4.symm (.bool f.v.r)).h7 (p:=(c_ gx 46)) m4.symm (i_ f.v.n)).f_ 40).trans rfl,(((((h.h7 (p:=(c_ gx 42)) m4.symm (i_ 3)).h7 (p:=(c_ gx 44)) m4.symm (.bool f.hO)).h7 (p:=(c_ gx 45)) m4.symm (.bool f.v.r)).h7 (p:=(c_ gx 46)) m4.symm (i_ f.v.n)).f_ 41).trans rfl,(((((h.h7 (p:=(c_ gx 42)) m4.symm (i_ 3)).h7 (p:=(c_ gx 44)) m4.symm (.bool f.hO)).h7 (p:=(c_ gx 45)) m4.symm (.bool f.v.r)).h7 (p:=(c_ gx 46)) m4.symm (i_ f.v.n)).f_ 42).trans rfl⟩ λC=>?_
    clear H K;have aX:=bv.hJ 42 (i_ 3);have br:=aX.hJ 44 (.bool f.hO);clear ck bq z44 cJ;clear cR z46 cK cM C;refine hA k_ ?_ _;have aD:Bk ((((bl.setCell (c_ gx 42) (i_ 3)).setCell (c_ gx 44) (.bool f.hO)).setCell (c_ gx 45) (.bool f.v.r)).setCell (c_ gx 46) (i_ f.v.n)) gx 53 ({x with pc:=f.pc,r:=f.r,hw:=x.hw+1,hV:=3,hO:=f.hO,v:=f.v}:Tk).g8:=(br.hJ 45 (.bool f.v.r)).hJ 46 (i_ f.v.n)
    have bH:Gr [gx] bl ((((bl.setCell (c_ gx 42) (i_ 3)).setCell (c_ gx 44) (.bool f.hO)).setCell (c_ gx 45) (.bool f.v.r)).setCell (c_ gx 46) (i_ f.v.n)):=by
     exact((((D_ [gx] bl).setCell (p:=(c_ gx 42)) (.inl s_) _).setCell (p:=(c_ gx 44)) (.inl s_) _).setCell (p:=(c_ gx 45)) (.inl s_) _).setCell (p:=(c_ gx 46)) (.inl s_) _
    have cn:kY ((((bl.setCell (c_ gx 42) (i_ 3)).setCell (c_ gx 44) (.bool f.hO)).setCell (c_ gx 45) (.bool f.v.r)).setCell (c_ gx 46) (i_ f.v.n)) ({x with pc:=f.pc,r:=f.r,hw:=x.hw+1,hV:=3,hO:=f.hO,v:=f.v}:Tk):=kY.of (Y.ig bv d_ bH) rfl rfl rfl rfl rfl rfl;have b8:=af.gr bH (by simpa using m3.symm);have cl:=aB.hx bH p_;clear br aX bv Y h af aB bH;obtain⟨cI,co⟩:=nm_ ((((bl.setCell (c_ gx 42) (i_ 3)).setCell (c_ gx 44) (.bool f.hO)).setCell (c_ gx 45) (.bool f.v.r)).setCell (c_ gx 46) (i_ f.v.n));rw[<-co]at aD cn b8 cl |-;clear co
    go_wp2_with (first|(refine kJ aD underlying53 ?_)|(refine kG (({x with pc:=f.pc,r:=f.r,hw:=x.hw+1,hV:=3,hO:=f.hO,v:=f.v}:Tk).g8) b8 (Tk.one _) ?_;intro ag az G))
    rw[O.out];exact lA ({x with pc:=f.pc,r:=f.r,hw:=x.hw+1,hV:=3,hO:=f.hO,v:=f.v}:Tk).g8 (i_ 0) az underlying53 ⟨({x with pc:=f.pc,r:=f.r,hw:=x.hw+1,hV:=3,hO:=f.hO,v:=f.v}:Tk),rfl,cn.ig b8 d_ G,rfl,cl.hx G p_⟩
   .skip
    go_upto_region 12 with(first|(refine kJ a underlying53 ?_)|(refine kJ aH underlying134 ?_)|(go_at_call 81;((with_reducible refine(bh _ (X.g_ J) (hv.g_ J) V cp cy o_).mono ?_);rw[aR];unfold uF;rintro e ae⟨x,rfl,am,bG⟩))|(refine kG (x.g8) (L_ ae 53 lp) (Tk.one _) ?_;intro aF bg aC))
    obtain⟨cq,ct⟩:=bG P rfl;have Q:Gr [] wc aF:=(am.alloc _).hx aC (by simp;exact am.size);have cr:kY aF x:=(cq.g_ ((D_ [] ae).alloc (.cells lp 53))).ig (L_ ae 53 lp) d_ aC;have cA:ae.heap.size≠L/\ae.heap.size≠aJ/\ae.heap.size≠gr/\ae.heap.size≠bt:=JT;replace aH:=aH.g_ Q;replace i:=i.g_ Q;replace u:=u.g_ Q;replace s:=s.g_ Q;replace J:=J.trans Q
    have b3:w.heap.size<=ae.heap.size:=by have:=a.lt;have:=am.size;omega
    have b1:0<=x.hw/\x.hw<=1000000:=by
     have h1:=(ll aR).hw;rw[<-ct]at h1;have h2:x.hw=t.hw:=h1;omega
    clear Q am aC cq a k z0 e0 bh bG;generalize ae.heap.size=gx at*;obtain⟨m1,m2,m3,m4⟩:=cA
    go_upto_region 15 with(first|(refine ip rfl 49 _ rfl bt 1 r_ 134 _ (iz f.pc f.r) aH (λj hj=>z8 f j hj) _ underlying49 rfl k_ ?_)|(refine i0 rfl 49 _ _ rfl gx 3 r_ (iz f.pc f.r) r_ 53 _ bg (by show 3+33<=48;decide) k_ (nP _ _) ?_;intro aG an aO))
    rw[tL]at an;have aZ:kY aG ({x with pc:=f.pc,r:=f.r}:Tk):=kY.of (cr.ig bg d_ aO) rfl rfl rfl rfl rfl rfl;have be:=aH.gr aO (by simpa using m4.symm);have cf:=i.gr aO (by simpa using m3.symm);have ca:=u.gr aO (by simpa using m1.symm);have ce:=s.gr aO (by simpa using m2.symm);have b6:=J.hx aO p_;clear aH i u s J aO cr bg;have cD:aG.cell? (c_ gx 47)=some (i_ x.hw):=(an.f_ 47).trans rfl;have cu:=an.hm 47;have e0:aG.cell? (c_ bt 0)=some (i_ f.hT):=(be.f_ 0).trans rfl
    go_upto_region 16 with fail
    have bv:Bk (aG.setCell (c_ gx 47) (i_ (x.hw+1))) gx 53 ({x with pc:=f.pc,r:=f.r,hw:=x.hw+1}:Tk).g8:=an.hJ 47 (i_ (x.hw+1));have aW:Gr [gx] aG (aG.setCell (c_ gx 47) (i_ (x.hw+1))):=(D_ [gx] aG).setCell (p:=(c_ gx 47)) (.inl s_) (i_ (x.hw+1));have Y:=aZ.ig an d_ aW;have h:=be.gr aW (by simpa using m4.symm);have af:=cf.gr aW (by simpa using m3.symm);have W:=ca.gr aW (by simpa using m1.symm);have bw:=ce.gr aW (by simpa using m2.symm);have aB:=b6.hx aW p_;clear an aZ be cf ca ce b6 aW cD cu e0;obtain⟨bR,bT⟩:=nm_ (aG.setCell (c_ gx 47) (i_ (x.hw+1)));rw[<-bT]at bv Y h af W bw aB |-;clear bT;have e0:bR.cell? (c_ bt 0)=some (i_ f.hT):=(h.f_ 0).trans rfl;have aT:Hid (jh l hq g9 d t.p (hN b)=if f.hT=1/\(iN (λz=>z==f.kl) d=true∨64<=x.hw+1∨jm l hq g9 f.pc=true) then({x with pc:=f.pc,r:=f.r,hw:=x.hw+1,hV:=2,next:=f.pc}:Tk).p else({x with pc:=f.pc,r:=f.r,hw:=x.hw+1}:Tk).p):=h_ (by rw[bz.out,aR];simp only;rw[P_ cj,<-ct,<-aj];rfl);clear bz
    have bI:(f.hT==2)=false:=by
     have e:f.hT=E.hT:=by rw[<-aj];rfl
     rw[e]
     simpa using cj
    go_upto_region 18 with fail
    go_cut [81] (λy a7=>y=.bool (decide (f.hT=1/\(iN (λz=>z==f.kl) d=true∨64<=x.hw+1∨jm l hq g9 f.pc=true)))/\Gr [] bR a7)
    case first=>
     have aU:=bw.f_ 0;have cS:bR.cell? (c_ bt 39)=some (i_ f.kl):=(h.f_ 39).trans rfl
     by_cases bW:f.hT=1
     .have bp:(f.hT==1)=true:=by simpa using bW
      cases bB:iN (λz=>z==f.kl) d with
      |true=>
       have aY:=h_ (show decide (f.hT=1/\(iN (λz=>z==f.kl) d=true∨64<=x.hw+1∨jm l hq g9 f.pc=true))=true by simp[bW,bB]);exact Ha
      |false=>
       by_cases b7:64<=x.hw+1
       .have aY:=h_ (show decide (f.hT=1/\(iN (λz=>z==f.kl) d=true∨64<=x.hw+1∨jm l hq g9 f.pc=true))=true by simp[bW,b7])
        have d0:((64:Int)<=x.hw+1)=True:=by simp[b7]
        exact Ha
       .have d0:((64:Int)<=x.hw+1)=False:=by simp[b7]
        cases has:jm l hq g9 f.pc with
        |true=>
         have aY:=h_ (show decide (f.hT=1/\(iN (λz=>z==f.kl) d=true∨64<=x.hw+1∨jm l hq g9 f.pc=true))=true by simp[bW,has]);exact GM
        |false=>
         have aY:=h_ (show decide (f.hT=1/\(iN (λz=>z==f.kl) d=true∨64<=x.hw+1∨jm l hq g9 f.pc=true))=false by simp[bB,b7,has]);exact GM
     .have bp:(f.hT==1)=false:=by simpa using bW
      have aY:=h_ (show decide (f.hT=1/\(iN (λz=>z==f.kl) d=true∨64<=x.hw+1∨jm l hq g9 f.pc=true))=false by simp[bW]);go_wp2;go_meet;exact⟨iY aY.out.symm,D_ _ _⟩
    case rest=>
     obtain⟨rfl,Q⟩:=hcut;replace bv:=bv.g_ Q;replace Y:=Y.g_ Q;replace h:=h.g_ Q;replace af:=af.g_ Q;replace aB:=aB.trans Q;clear Q e0 W bw
     by_cases bC:f.hT=1/\(iN (λz=>z==f.kl) d=true∨64<=x.hw+1∨jm l hq g9 f.pc=true)
     .have O:Hid (jh l hq g9 d t.p (hN b)=({x with pc:=f.pc,r:=f.r,hw:=x.hw+1,hV:=2,next:=f.pc}:Tk).p):=h_ (by rw[aT.out,Q_ bC]);have q:decide (f.hT=1/\(iN (λz=>z==f.kl) d=true∨64<=x.hw+1∨jm l hq g9 f.pc=true))=true:=Ek bC;rw[q];clear q bC aT
      go_upto_region 19 with fail
      refine hC (λw'=>w'.cell? (c_ bt 1)=some (i_ f.pc)) 7 k_ ?_;replace bv:=bv.drew;replace Y:=Y.g_ ((D_ [] wc).drew);replace h:=h.drew;replace af:=af.drew;replace aB:=aB.drew;obtain⟨bl,aK⟩:=nm_ wc.drew;rw[<-aK]at bv Y h af aB |-;clear aK
      refine nc ((h.f_ 1).trans rfl) λC=>?_
      refine ih 0 C ?_;refine ih 1 C ?_;refine ih 2 C ?_;refine ih 3 C ?_;have ck:bl.cell? (c_ gx 42)=some (i_ x.hV):=(bv.f_ 42).trans rfl;have bq:=bv.hm 42;have d3:bl.cell? (c_ gx 43)=some (i_ x.next):=(bv.f_ 43).trans rfl;have cx:=bv.hm 43
      refine hQ 4 λK H=>?_
      go_simp;clear C
      refine hS H (((h.h7 (p:=(c_ gx 42)) m4.symm (i_ 2)).f_ 1).trans rfl) λC=>?_
      clear H K;refine ih 5 C ?_
      refine hQ 6 λK H=>?_
      go_simp;clear C
      refine hS H ((((h.h7 (p:=(c_ gx 42)) m4.symm (i_ 2)).h7 (p:=(c_ gx 43)) m4.symm (i_ f.pc)).f_ 1).trans rfl) λC=>?_
      clear H K;have aX:=bv.hJ 42 (i_ 2);clear ck bq;clear d3 cx C;refine hA k_ ?_ _;have aD:Bk ((bl.setCell (c_ gx 42) (i_ 2)).setCell (c_ gx 43) (i_ f.pc)) gx 53 ({x with pc:=f.pc,r:=f.r,hw:=x.hw+1,hV:=2,next:=f.pc}:Tk).g8:=aX.hJ 43 (i_ f.pc);have bH:Gr [gx] bl ((bl.setCell (c_ gx 42) (i_ 2)).setCell (c_ gx 43) (i_ f.pc)):=((D_ [gx] bl).setCell (p:=(c_ gx 42)) (.inl s_) _).setCell (p:=(c_ gx 43)) (.inl s_) _;have cn:=kY.of (t':=({x with pc:=f.pc,r:=f.r,hw:=x.hw+1,hV:=2,next:=f.pc}:Tk)) (Y.ig bv d_ bH) rfl rfl rfl rfl rfl rfl;have b8:=af.gr bH (by simpa using m3.symm);have cl:=aB.hx bH p_;clear aX bv Y h af aB bH;obtain⟨cI,co⟩:=nm_ ((bl.setCell (c_ gx 42) (i_ 2)).setCell (c_ gx 43) (i_ f.pc));rw[<-co]at aD cn b8 cl |-;clear co
      go_wp2_with (first|(refine kJ aD underlying53 ?_)|(refine kG (({x with pc:=f.pc,r:=f.r,hw:=x.hw+1,hV:=2,next:=f.pc}:Tk).g8) b8 (Tk.one _) ?_;intro ag az G))
      rw[O.out];exact lA ({x with pc:=f.pc,r:=f.r,hw:=x.hw+1,hV:=2,next:=f.pc}:Tk).g8 (i_ 0) az underlying53 ⟨({x with pc:=f.pc,r:=f.r,hw:=x.hw+1,hV:=2,next:=f.pc}:Tk),rfl,cn.ig b8 d_ G,rfl,cl.hx G p_⟩
     .have O:Hid (jh l hq g9 d t.p (hN b)=({x with pc:=f.pc,r:=f.r,hw:=x.hw+1}:Tk).p):=h_ (by rw[aT.out,P_ bC]);have q:decide (f.hT=1/\(iN (λz=>z==f.kl) d=true∨64<=x.hw+1∨jm l hq g9 f.pc=true))=false:=EU bC;rw[q];clear q bC aT
      go_wp2_with (first|(refine kJ bv underlying53 ?_)|(refine kG (({x with pc:=f.pc,r:=f.r,hw:=x.hw+1}:Tk).g8) af (Tk.one _) ?_;intro ag az G))
      rw[O.out];exact lA ({x with pc:=f.pc,r:=f.r,hw:=x.hw+1}:Tk).g8 (i_ 0) az underlying53 ⟨({x with pc:=f.pc,r:=f.r,hw:=x.hw+1}:Tk),rfl,(kY.of (t':=({x with pc:=f.pc,r:=f.r,hw:=x.hw+1}:Tk)) Y rfl rfl rfl rfl rfl rfl).ig af d_ G,rfl,aB.hx G p_⟩
theorem mZ(c:List In)(hq g9:Int)(d:List Int)(t:jg)(view:List Ob):(jh c hq g9 d t view).run=t.run:=by
 unfold jh;simp only;split
 .rfl
 split
 .rfl
 split
 .rfl
 .rename_i x hr
  have:=(ll hr).run
  split
  .exact this
  split
  .exact this
  .exact this
def pW(c:List In)(hq g9:Int)(d:List Int)(view:List Ob):Nat->jg->jg
 |0,t=>t
 |n+1,t=>if t.hV=0 then pW c hq g9 d view n (jh c hq g9 d t view) else t
def zl(c:List In)(hq g9:Int)(d:List Int)(view:List Ob)(t:jg):jg:=pW c hq g9 d view (todo c t+1) t
theorem x0{c:List In}{hq g9:Int}{d:List Int}{view:List Ob}{t:jg}(h:t.hV≠0):pW c hq g9 d view n t=t:=by
 cases n with
 |zero=>rfl
 |succ n=>unfold pW;rw[P_ h]
def zQ(w:World)(g i:Nat):Int:=match w.cell? (c_ g i)with
 |some (.int _ n)=>n
 |_=>0
theorem uu{w:World}{i:Nat}{k:IntKind}{n:Int}(h:w.cell? (c_ g i)=some (.int k n)):zQ w g i=n:=by unfold zQ;rw[h]
def left(l:List In)(g:Nat)(w:World):Nat:=if zQ w g 42=0 then(64-zQ w g 47).toNat*(l.length+3)+oV l (zQ w g 3)+1 else 0
theorem left_of{l:List In}{w:World}{t:Tk}(h:Bk w g 53 t.g8):left l g w=if t.hV=0 then todo l t.p+1 else 0:=by
 unfold left;rw[uu ((h.f_ 42).trans rfl),uu ((h.f_ 47).trans rfl),uu ((h.f_ 3).trans rfl)]
 rfl
theorem x1(N:Is w A l)(hn:l.length<=1000000000)(hD:Ns w 3 B d)(hd:d.length<=1000000000)(X:kY w t)(hv:l5 w aQ vc b)(aL:qI l hq g9 d=true)(cg:b.length<=99999999)(bu:0<=t.run)(bD:t.run<=1099511627776)(aK:t.hV=0->Way l t.p):
 Calls prog 50 #[.agg #[.slice A l.length c,i_ hq,i_ g9],.agg #[.slice B d.length cb],.agg t.g8,.agg #[.slice aQ b.length vc]] w (mR (zl l hq g9 d (hN b) t.p) 0 w):=by
 have aI:=by unfold qI at aL;simp only[Ec]at aL;exact aL.2
 have cf:=JZ;obtain⟨R,hR⟩:=mn_ (zl l hq g9 d (hN b) t.p);rw[hR];unfold zl at hR;obtain⟨u,s,a,k,i,J⟩:=DM w 26 #[.slice A l.length c,i_ hq,i_ g9] 32 #[.slice B d.length cb] 53 t.g8 35 #[.slice aQ b.length vc] 53 lp
 go_enter func50,ntmps50
 go_upto_region 1 with fail
 obtain⟨bm,bN⟩:=nm_ (((((w.alloc (.cells #[.slice A l.length c,i_ hq,i_ g9] 26)).alloc (.cells #[.slice B d.length cb] 32)).alloc (.cells t.g8 53)).alloc (.cells #[.slice aQ b.length vc] 35)).alloc (.cells lp 53));rw[<-bN]at u s a k i J |-;clear bN;obtain⟨L,bF⟩:=nm_ w.heap.size;obtain⟨aJ,ap⟩:=nm_ (w.heap.size+1);obtain⟨gt,bM⟩:=nm_ (w.heap.size+1+1);obtain⟨ay,fo⟩:=nm_ (w.heap.size+1+1+1);obtain⟨gr,F⟩:=nm_ (w.heap.size+1+1+1+1);rw[<-F]at i;rw[<-fo]at k;rw[<-bM]at a;rw[<-ap]at s;rw[<-bF]at u;rw[<-F,<-fo,<-bM,<-ap,<-bF]
 have bE:w.heap.size<=gr:=by omega
 have cH:w.heap.size<=gt:=by omega
 have av:L≠gt/\aJ≠gt/\ay≠gt/\gr≠gt:=by omega
 clear bF ap bM fo F;go_wp2
 go_loopw [12] (λ_ wr=>∃(t1:Tk) (n:Nat),Bk wr L 26 #[.slice A l.length c,i_ hq,i_ g9]/\Bk wr aJ 32 #[.slice B d.length cb]/\Bk wr gt 53 t1.g8/\Bk wr ay 35 #[.slice aQ b.length vc]/\Bk wr gr 53 lp/\kY wr t1/\Gr [] w wr/\t1.run=t.run/\pW l hq g9 d (hN b) n t1.p=R/\(t1.hV=0->Way l t1.p/\todo l t1.p+1<=n)) (λ_ wr=>left l gt wr)
 case atStart=>exact⟨t,todo l t.p+1,u,s,a,k,i,X.g_ J,J,rfl,hR,λh=>⟨aK h,G_ _⟩⟩
 case round=>
  clear u s a k i J hR aK;obtain⟨t1,n,u,s,a,k,i,z,F,ar,j,o⟩:=hrel;have C:=h_ (left_of (l:=l) a)
  by_cases bA:t1.hV=0
  .obtain⟨cS,P⟩:=o bA;have ck:wr.cell? (c_ gt 42)=some (i_ 0):=(a.f_ 42).trans (D9 (λn=>some (Value.int .i64 n)) bA);have Z:=u.f_ 0;have ah:=u.f_ 1;have au:=u.f_ 2;have aU:=s.f_ 0;have v0:=k.f_ 0
   have v:0<=t1.run:=by rw[ar];exact bu
   have y:t1.run<=1099511627776:=by rw[ar];exact bD
   have bT:=cS.s1;have H:=cS.s0
   have K:t1.hw<=1000000:=by have e:t1.p.hw=t1.hw:=rfl;omega
   have I:128*t1.p.hw.toNat<=500000:=by omega
   have r:t1.pc<=1000000:=by have h1:=cS.hi;have e:t1.p.pc=t1.pc:=rfl;omega
   have cO: -1<=t1.pc:=cS.lo;have E:0<=t1.hw:=cS.s0;have g:=h_ j;have b3:=h_ bA;have p:=h_ ar;clear j ar bT H
   go_wp2_with (first|(refine kJ a underlying53 ?_)|(go_at_call 39;((with_reducible refine(tQ A c l hq g9 B cb d t1 aQ vc b _ (N.g_ F) hn (hD.g_ F) hd z (hv.g_ F) aL bA (cS.sm.mono I) cg cO r v y E K).mono ?_);unfold mR;rintro e w2⟨ak,rfl,M,aN,ad⟩))|(refine kG (ak.g8) (L_ w2 53 lp) (Tk.one _) ?_;intro ai a8 S)|(refine kJ a8 underlying53 ?_)|(refine li rfl 53 _ _ rfl (gt) r_ (ak.g8) r_ 53 _ ((a.g_ ad).g_ (((D_ [] w2).alloc _).jz S (G_ _))) r_ k_ (Tk.one _) ?_;intro T bU af))
   have bC:=ad.trans (((D_ [] w2).alloc _).jz S (G_ _));have aT:=((D_ [] w2).alloc _).jz S (G_ _);obtain⟨n1,n2,n3,n4⟩:=av;obtain⟨sm,st0,st1,lo,hi,f⟩:=tP aI cS b3.out (d:=d) (view:=hN b);rw[<-aN]at f;go_roundw
   case rel=>
    have x:∃(t1:Tk) (n:Nat),Bk T L 26 #[.slice A l.length c,i_ hq,i_ g9]/\Bk T aJ 32 #[.slice B d.length cb]/\Bk T gt 53 t1.g8/\Bk T ay 35 #[.slice aQ b.length vc]/\Bk T gr 53 lp/\kY T t1/\Gr [] w T/\t1.run=t.run/\pW l hq g9 d (hN b) n t1.p=R/\(t1.hV=0->Way l t1.p/\todo l t1.p+1<=n):=by
     refine⟨ak,n-1,(u.g_ bC).gr af (by simpa using n1),(s.g_ bC).gr af (by simpa using n2),bU,(k.g_ bC).gr af (by simpa using n3),(i.g_ bC).gr af (by simpa using n4),(M.g_ aT).ig (a.g_ bC) d_ af,(F.trans bC).jz af cH,?_,?_,?_⟩
     .have h1:ak.p.run=ak.run:=rfl;rw[<-h1,aN,mZ];exact p.out
     .obtain⟨m,rfl⟩:∃m,n=m+1:=⟨n-1,by omega⟩;have h1:=g.out;unfold pW at h1;rw[Q_ (show t1.p.hV=0 from b3.out),<-aN]at h1;exact h1
     .intro h0;obtain⟨h1,h2⟩:=f h0;exact⟨h1,by omega⟩
    repeat apply Exists.intro
    first|exact x|exact⟨x,rfl⟩
    all_goals exact undef
   case measure=>
    have h1:=C.out;rw[Q_ b3.out]at h1;have h2:=left_of (l:=l) bU;rw[h1,h2];split
    .rename_i h0
     have:=(f h0).2
     omega
    .omega
  .have q:(t1.hV==0)=false:=by simpa using bA
   have ck:wr.cell? (c_ gt 42)=some (i_ t1.hV):=(a.f_ 42).trans rfl;have g:=h_ j;have b3:=h_ bA;clear bA j o
   go_wp2_with (first|(refine kJ a underlying53 ?_)|(refine kG (t1.g8) i (Tk.one _) ?_;intro ag az G))
   have O:R=t1.p:=by rw[<-g.out];exact x0 n b3.out
   rw[O];exact lA t1.g8 (i_ 0) az underlying53 ⟨t1,rfl,z.ig i d_ G,rfl,F.jz G bE⟩
end Go.Proofs.YtenbhdilndfaeaaGreat
