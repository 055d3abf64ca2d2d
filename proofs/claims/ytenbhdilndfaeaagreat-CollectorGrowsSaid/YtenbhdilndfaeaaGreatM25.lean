import Derived.Test.YtenbhdilndfaeaaGreatM24
set_option maxRecDepth 100000
set_option maxHeartbeats 0
set_option linter.all false
namespace Go.Proofs.YtenbhdilndfaeaaGreat
open Go.RowKit Go.Proofs.Tryz
variable{G:Prop}{g:Nat}(A:OA)(c:Nat)(l:List In)(hI hF:Int)(hA:OA)(hc:Nat)(hl:List Rw)(t:Tk)(w:World)
theorem Hx(h:G:=by
 go_wp2_with (go_at_call 148;have af:=oh hA hc hl aj aB ⟨c,h⟩ _ (z.hG aE).os (z.hG aE).kZ aP y;refine af.mono ?_;rintro e ae⟨rfl,S⟩;have B:=((L.hG S).alloc (.cells #[.bool c,i_ h] 38));have aF:=((E.hG aE).hG S).alloc (.cells #[.bool c,i_ h] 38);have aq:=P_ ae 38 #[.bool c,i_ h];have v0:=B.f_ 0;have v1:=B.f_ 1;have ce:=B.f_ 2;have v3:=B.f_ 3;have aw:=aq.f_ 0;have J:=aq.f_ 1;have bW:=aF.f_ 0;have r1:=aF.f_ 1;have r2:=aF.f_ 2;have r3:=aF.f_ 3;have s0:=aF.hH 0;have s1:=aF.hH 1;have b0:=aF.hH 2;have cv:=aF.hH 3)
 exact H0):G:=h
theorem H0(h:G:=by
 refine EX (v:=.tuple #[.agg #[i_ aj,i_ aB,.bool xr,i_ a],.bool true]) (iC (p:=4) (u:=5) rfl _ _ _ _ _ _ _ rfl (((((aF.hW 0 (i_ aj)).hW 1 (i_ aB)).hW 2 (.bool xr)).hW 3 (i_ a))) underlying116 rfl k_) rfl ?_;rw[aX.out];exact⟨rfl,((((((F.trans aE).trans S).alloc _).setCell (p:=(c_ gr 0)) (.inr bg) _).setCell (p:=(c_ gr 1)) (.inr bg) _).setCell (p:=(c_ gr 2)) (.inr bg) _).setCell (p:=(c_ gr 3)) (.inr bg) _⟩):G:=h
theorem Ik(h:G:=by
 have aQ:=s.f_ 0;have bH:=E.hH 0;have bj:=E.f_ 0;go_wp2;have M:Gr [gr] wr (wr.setCell (c_ gr 0) (.slice A' rs.length c')):=(F_ [gr] wr).setCell (.inl s_) _;refine rr_ #[.slice A' rs.length c'] (E.hW 0 (.slice A' rs.length c')) underlying35 ⟨A',c',rs,rfl,f.iu E d_ d_ M,?_,F.jL M bg⟩;rw[q.out,aX.out]):G:=h
theorem IM(h:G:=by
 rw[aT];exact⟨x.id,x.f,x.v.r,x.v.n,rfl,(((((I.trans S).alloc _).setCell (p:=(c_ gr 0)) (.inr bg) _).setCell (p:=(c_ gr 1)) (.inr bg) _).setCell (p:=(c_ gr 2)) (.inr bg) _).setCell (p:=(c_ gr 3)) (.inr bg) _⟩):G:=h
theorem Js(h:G:=by
 go_wp2
 all_goals go_ret
 all_goals exact⟨O,bD,xs,by rw[<-ae.out];rfl,(by unfold Ns;rw[<-ae.out];exact Sl.iT (iK aF (F_ [] wr))),(ov ae.out),R,F⟩):G:=h
theorem tV{P:Program}{w:World}{ops:Array Oper}{rest:List Oper}{o:Oper}{a:Act}{Q:Exit->Act->World->Prop}(V:o.guard=none)(l c:Operand)(t:TypeId)
 (ho:o.op=.makeSlice t l c) (e:TypeId) (i:TypeInfo) (z:Value) (size bytes:Nat) (ht:P.underlying t=some (.slice e)) (hi:P.info? e=some i) (hz:i.zero=some z) (q:i.size=size) (p:i.bytes=bytes)
 (m f:IntKind) (n:Nat) (hl:a.eval l=.int m (n:Int)) (hc:a.eval c=.int f (n:Int)) (hb:(bytes:Int)*(n:Int)<=281474976710656) (hn:n<=1000000000)
 (h:wpList P ops Q rest (a.put o.dst (.slice (j_ w.heap.size) n n)) (w.alloc (.cells (madeCells z.cells (n*size)) e))):wpList P ops Q (o::rest) a w:=
 wpList_step λK H=>t2 (w:=w) V l c t ho e i z size bytes ht hi hz q p m f (n:Int) hl hc o_ hb o_ (H _ _ (zu h))
theorem rr{w:World}(n:Nat)(v:Vl)(h:Bk w g 38 (((madeCells #[.bool false,i_ 0] ((n+1)*2)).setIfInBounds 0 (.bool v.r)).setIfInBounds 1 (i_ v.n))):Vs w (j_ g) (v::List.replicate n default):=by
 have aL:(madeCells #[Value.bool false,i_ 0] ((n+1)*2)).size=(n+1)*2:=size_madeCells _ _;refine⟨by rw[lN],λ_=>⟨g,0,_,(0,0),rfl,h,?_⟩⟩;intro j u hj;rw[U_]
 by_cases h0:j=0
 .subst h0;rw[FF d_,G7 o_];exact hj
 by_cases h1:j=1
 .subst h1;rw[G7 p_];exact hj
 rw[FF o_,FF o_]
 have ag:j<(n+1)*2:=by
  have:=(FX.1 hj).1
  rw[lN,Z_,Fa]at this;exact this
 rw[om _ _ _ ag];have h2:j=(j / 2)*2+j % 2:=o_
 have hg:(jd (v::List.replicate n default))[(j / 2)*2+j % 2]?=(Vl.E default)[j % 2]?:=by
  unfold jd;rw[jV Vl.E (λ_=>rfl) _ (j / 2) (j % 2) (by rw[Z_,Fa];omega) o_]
  have:(v::List.replicate n (default:Vl))[j / 2]'(by rw[Z_,Fa];omega)=default:=by
   obtain⟨m,hm⟩:∃m,j / 2=m+1:=⟨j / 2-1,o_⟩;simp only[hm,F9,GZ]
  rw[this]
 rw[<-h2,hj]at hg
 show some ((#[Value.bool false,Value.int .i64 0])[j % 2]!)=some u
 rcases Gf j with h|h
 .rw[h]at hg |-;exact hg.symm
 .rw[h]at hg |-;exact hg.symm
def mF(h:Value)(nx:Int):Array Value:=#[h,i_ 0,.bool false,i_ 0,.bool false,i_ 0,.bool false,i_ 0,.bool false,i_ 0,.bool false,i_ 0,.bool false,i_ 0,.bool false,i_ 0,.bool false,i_ 0,.bool false,i_ 0,.bool false,i_ 0,.bool false,i_ 0,.bool false,i_ 0,.bool false,i_ 0,.bool false,i_ 0,.bool false,i_ 0,.bool false,i_ 0,i_ nx,i_ 0,n_,.bool false,.bool false,.bool false,i_ 0,i_ 0]
theorem nN(n c:Nat)(nx:Int):(mF (.slice A n c) nx).all (·.oneCell')=true:=by unfold mF;simp[Value.oneCell']
def startHeap(hI:Int):List Ob:=[⟨1,⟨true,2⟩::List.replicate 2 default⟩,⟨2,⟨true,0⟩::List.replicate (2+hI.toNat) default⟩]
def wn(ok:Bool)(hI:Int)(w:World)(e:Ending)(w':World):Prop:=
 ∃(A:OA) (c:Nat) (rs:List Rw),e=.returned (.tuple #[.agg #[.slice A rs.length c,i_ 0,.bool false,i_ 0,.bool false,i_ 0,.bool false,i_ 0,.bool false,i_ 0,.bool false,i_ 0,.bool false,i_ 0,.bool false,i_ 0,.bool false,i_ 0,.bool false,i_ 0,.bool false,i_ 0,.bool false,i_ 0,.bool false,i_ 0,.bool false,i_ 0,.bool false,i_ 0,.bool false,i_ 0,.bool false,i_ 0,i_ (if ok=true then 3 else 0),i_ 0,n_,.bool false,.bool false,.bool false,i_ 0,i_ 0],i_ (if ok=true then 0 else 1)])/\mj w' A c rs/\hY rs=(if ok=true then startHeap hI else[])/\Gr [] w w'
theorem vk(h:Is w A l)(hn:l.length<=1000000000)(hv:ic l hI hF=false):
 Calls prog 91 #[.agg #[.slice A l.length c,i_ hI,i_ hF]] w (wn false hI w):=by
 obtain⟨D,hR,I⟩:=qh w 26 #[.slice A l.length c,i_ hI,i_ hF] 154 #[n_,i_ 0,.bool false,i_ 0,.bool false,i_ 0,.bool false,i_ 0,.bool false,i_ 0,.bool false,i_ 0,.bool false,i_ 0,.bool false,i_ 0,.bool false,i_ 0,.bool false,i_ 0,.bool false,i_ 0,.bool false,i_ 0,.bool false,i_ 0,.bool false,i_ 0,.bool false,i_ 0,.bool false,i_ 0,.bool false,i_ 0,i_ 0,i_ 0,n_,.bool false,.bool false,.bool false,i_ 0,i_ 0]
 go_enter func91,ntmps91
 go_upto_region 1 with fail
 obtain⟨bp,aK⟩:=nm_ ((w.alloc (.cells #[.slice A l.length c,i_ hI,i_ hF] 26)).alloc (.cells #[n_,i_ 0,.bool false,i_ 0,.bool false,i_ 0,.bool false,i_ 0,.bool false,i_ 0,.bool false,i_ 0,.bool false,i_ 0,.bool false,i_ 0,.bool false,i_ 0,.bool false,i_ 0,.bool false,i_ 0,.bool false,i_ 0,.bool false,i_ 0,.bool false,i_ 0,.bool false,i_ 0,.bool false,i_ 0,.bool false,i_ 0,i_ 0,i_ 0,n_,.bool false,.bool false,.bool false,i_ 0,i_ 0] 154));rw[<-aK]at D hR I |-;clear aK;obtain⟨L,bC⟩:=nm_ w.heap.size;obtain⟨gr,Q⟩:=nm_ (w.heap.size+1);rw[<-Q]at hR;rw[<-bC]at D;rw[<-Q,<-bC];have bg:w.heap.size<=gr:=o_;have R:L≠gr:=o_;clear bC Q;have U:=D.f_ 0;have ad:=D.f_ 1;have ar:=D.f_ 2
 go_wp2_with (first|((go_at_call 92;have af:=iS A c l hI hF _ (h.hG I) hn;rw[hv]at af;refine af.mono ?_;rintro e w1⟨rfl,hg1⟩);replace hR:=hR.hG hg1;replace I:=I.trans hg1)|(refine kQ (mF (n_) 0) hR (nN _ _ _ _) ?_;intro X aw G))
 exact lT (mF (n_) 0) (i_ 1) aw underlying154 ⟨none,0,[],rfl,⟨Fm _ _ _ _,(λr hr=>by cases hr),H_ _⟩,rfl,I.jL G bg⟩
theorem wN(v:Nat)(hF:Int)(w:World)(h:Is w A l)(hn:l.length<=1000000000)(hv:ic l (v:Int) hF=true)(K:v<=64):
 Calls prog 91 #[.agg #[.slice A l.length c,i_ (v:Int),i_ hF]] w (wn true (v:Int) w):=by
 obtain⟨ap,P,ax,F,ay⟩:=info_parts infoVl;obtain⟨D,hR,I⟩:=qh w 26 #[.slice A l.length c,i_ (v:Int),i_ hF] 154 #[n_,i_ 0,.bool false,i_ 0,.bool false,i_ 0,.bool false,i_ 0,.bool false,i_ 0,.bool false,i_ 0,.bool false,i_ 0,.bool false,i_ 0,.bool false,i_ 0,.bool false,i_ 0,.bool false,i_ 0,.bool false,i_ 0,.bool false,i_ 0,.bool false,i_ 0,.bool false,i_ 0,.bool false,i_ 0,.bool false,i_ 0,i_ 0,i_ 0,n_,.bool false,.bool false,.bool false,i_ 0,i_ 0]
 go_enter func91,ntmps91
 go_upto_region 1 with fail
 obtain⟨bp,aK⟩:=nm_ ((w.alloc (.cells #[.slice A l.length c,i_ (v:Int),i_ hF] 26)).alloc (.cells #[n_,i_ 0,.bool false,i_ 0,.bool false,i_ 0,.bool false,i_ 0,.bool false,i_ 0,.bool false,i_ 0,.bool false,i_ 0,.bool false,i_ 0,.bool false,i_ 0,.bool false,i_ 0,.bool false,i_ 0,.bool false,i_ 0,.bool false,i_ 0,.bool false,i_ 0,.bool false,i_ 0,.bool false,i_ 0,.bool false,i_ 0,i_ 0,i_ 0,n_,.bool false,.bool false,.bool false,i_ 0,i_ 0] 154));rw[<-aK]at D hR I |-;clear aK;obtain⟨L,bC⟩:=nm_ w.heap.size;obtain⟨gr,Q⟩:=nm_ (w.heap.size+1);rw[<-Q]at hR;rw[<-bC]at D;rw[<-Q,<-bC];have bg:w.heap.size<=gr:=o_;have R:L≠gr:=o_;clear bC Q;have U:=D.f_ 0;have ad:=D.f_ 1;have ar:=D.f_ 2
 go_upto_region 3 with(go_at_call 92;have af:=iS A c l (v:Int) hF _ (h.hG I) hn;rw[hv]at af;refine af.mono ?_;rintro e w1⟨rfl,hg1⟩)
 replace D:=D.hG hg1;replace hR:=hR.hG hg1;replace I:=I.trans hg1;have bl:=I.size
 have k:gr≠w1.heap.size/\gr≠w1.heap.size+1/\L≠w1.heap.size:=by have h1:=hR.lt;have h2:=D.lt;omega
 clear hg1 U ad ar
 go_upto_region 4 with(at_make;refine tV rfl _ _ _ rfl 38 ap _ 2 16 underlying54 P ax F ay .i64 .i64 3 r_ r_ o_ o_ ?_)
 have y:Bk ((w1.alloc (.cells (madeCells #[.bool false,i_ 0] (3*2)) 38)).alloc (.cells #[i_ 1,.slice (j_ w1.heap.size) 3 3] 56)) w1.heap.size 38 (madeCells #[.bool false,i_ 0] ((2+1)*2)):=(P_ w1 38 (madeCells #[.bool false,i_ 0] ((2+1)*2))).alloc (.cells #[i_ 1,.slice (j_ w1.heap.size) 3 3] 56);obtain⟨-,f,-⟩:=qh w1 38 (madeCells #[.bool false,i_ 0] (3*2)) 56 #[i_ 1,.slice (j_ w1.heap.size) 3 3];replace D:=(D.alloc (.cells (madeCells #[.bool false,i_ 0] (3*2)) 38)).alloc (.cells #[i_ 1,.slice (j_ w1.heap.size) 3 3] 56);replace hR:=(hR.alloc (.cells (madeCells #[.bool false,i_ 0] (3*2)) 38)).alloc (.cells #[i_ 1,.slice (j_ w1.heap.size) 3 3] 56);replace I:=(I.alloc (.cells (madeCells #[.bool false,i_ 0] (3*2)) 38)).alloc (.cells #[i_ 1,.slice (j_ w1.heap.size) 3 3] 56)
 have B:w.heap.size<=w1.heap.size:=by have:=hR.lt;have:=bl;omega
 have s:gr≠w1.heap.size/\gr≠w1.heap.size+1/\L≠w1.heap.size:=k;clear k bl;obtain⟨aH,ak⟩:=nm_ ((w1.alloc (.cells (madeCells #[.bool false,i_ 0] (3*2)) 38)).alloc (.cells #[i_ 1,.slice (j_ w1.heap.size) 3 3] 56));rw[<-ak]at y f D hR I |-;clear ak;obtain⟨t,x⟩:=nm_ (w1.heap.size+1);rw[<-x]at f s |-;have C:t≠w1.heap.size:=o_;have S:w.heap.size<=t:=o_;clear x;generalize w1.heap.size=d at*;have m0:aH.cell? (c_ d 0)=some (.bool false):=(y.f_ 0).trans (om _ _ 0 d_);have m1:aH.cell? (c_ d 1)=some (i_ 0):=(y.f_ 1).trans (om _ _ 1 d_);have br:=y.hH 0;have bH:=y.hH 1;have J:=f.f_ 1
 go_upto_region 5 with fail
 have cv:=(y.hW 0 (.bool true)).hW 1 (i_ 2);have i:=rr 2 ⟨true,2⟩ cv;replace f:=(f.ih (p:=(c_ d 0)) C (.bool true)).ih (p:=(c_ d 1)) C (i_ 2);replace D:=(D.ih (p:=(c_ d 0)) s.2.2 (.bool true)).ih (p:=(c_ d 1)) s.2.2 (i_ 2);replace hR:=(hR.ih (p:=(c_ d 0)) s.1 (.bool true)).ih (p:=(c_ d 1)) s.1 (i_ 2);replace I:=(I.setCell (p:=(c_ d 0)) (.inr B) (.bool true)).setCell (p:=(c_ d 1)) (.inr B) (i_ 2);clear y cv m0 m1 br bH J;obtain⟨am,bU⟩:=nm_ ((aH.setCell (c_ d 0) (.bool true)).setCell (c_ d 1) (i_ 2));rw[<-bU]at i f D hR I |-;clear bU;have ad:=D.f_ 1;have bl:=I.size
 have k:gr≠am.heap.size/\gr≠am.heap.size+1/\t≠am.heap.size/\d≠am.heap.size:=by
  have h1:=hR.lt;have h2:=f.lt;refine⟨o_,o_,o_,?_⟩;intro he
  rcases EJ d am.heap.size with h3|h3
  .omega
  .obtain⟨b,off,hA,hc⟩:=Sl.f_ i s_;injection hA with hA;injection hA with hb;have av:=hc 0 (.bool true) rfl;have au:=x4 av;simp only at au;omega
 go_upto_region 6 with(at_make;refine tV rfl _ _ _ rfl 38 ap _ 2 16 underlying54 P ax F ay .i64 .i64 (3+v) r_ r_ o_ o_ ?_)
 have y:Bk ((am.alloc (.cells (madeCells #[.bool false,i_ 0] ((3+v)*2)) 38)).alloc (.cells #[i_ 2,.slice (j_ am.heap.size) (3+v) (3+v)] 56)) am.heap.size 38 (madeCells #[.bool false,i_ 0] ((2+v+1)*2)):=by
  have e:3+v=2+v+1:=o_;have q:=(P_ am 38 (madeCells #[.bool false,i_ 0] ((3+v)*2))).alloc (.cells #[i_ 2,.slice (j_ am.heap.size) (3+v) (3+v)] 56);rw[<-e];exact q
 obtain⟨-,m,-⟩:=qh am 38 (madeCells #[.bool false,i_ 0] ((3+v)*2)) 56 #[i_ 2,.slice (j_ am.heap.size) (3+v) (3+v)];replace f:=(f.alloc (.cells (madeCells #[.bool false,i_ 0] ((3+v)*2)) 38)).alloc (.cells #[i_ 2,.slice (j_ am.heap.size) (3+v) (3+v)] 56);replace i:=(i.alloc (.cells (madeCells #[.bool false,i_ 0] ((3+v)*2)) 38)).alloc (.cells #[i_ 2,.slice (j_ am.heap.size) (3+v) (3+v)] 56);replace hR:=(hR.alloc (.cells (madeCells #[.bool false,i_ 0] ((3+v)*2)) 38)).alloc (.cells #[i_ 2,.slice (j_ am.heap.size) (3+v) (3+v)] 56);replace I:=(I.alloc (.cells (madeCells #[.bool false,i_ 0] ((3+v)*2)) 38)).alloc (.cells #[i_ 2,.slice (j_ am.heap.size) (3+v) (3+v)] 56);clear D ad;obtain⟨bL,aZ⟩:=nm_ ((am.alloc (.cells (madeCells #[.bool false,i_ 0] ((3+v)*2)) 38)).alloc (.cells #[i_ 2,.slice (j_ am.heap.size) (3+v) (3+v)] 56));rw[<-aZ]at y f m i hR I |-;clear aZ;obtain⟨H,z⟩:=nm_ (am.heap.size+1);rw[<-z]at m k |-;have N:H≠am.heap.size:=o_;clear z;generalize am.heap.size=a at*;have m0:bL.cell? (c_ a 0)=some (.bool false):=(y.f_ 0).trans (om _ _ 0 o_);have m1:bL.cell? (c_ a 1)=some (i_ 0):=(y.f_ 1).trans (om _ _ 1 o_);have br:=y.hH 0;have bH:=y.hH 1;have J:=m.f_ 1;have aS:(0:Int)<3+(v:Int):=o_
 go_upto_region 7 with fail
 have cv:=(y.hW 0 (.bool true)).hW 1 (i_ 0);have bB:=rr (2+v) ⟨true,0⟩ cv;have n:Gr [a] bL ((bL.setCell (c_ a 0) (.bool true)).setCell (c_ a 1) (i_ 0)):=((F_ [a] bL).setCell (p:=(c_ a 0)) (.inl s_) (.bool true)).setCell (p:=(c_ a 1)) (.inl s_) (i_ 0);replace f:=f.gr n (zu k.2.2.1);replace m:=m.gr n (zu N);replace hR:=hR.gr n (zu k.1)
 replace i:Vs ((bL.setCell (c_ a 0) (.bool true)).setCell (c_ a 1) (i_ 0)) (j_ d) (⟨true,2⟩::List.replicate 2 default):=Sl.iy i (λb off hb _=>by
  injection hb with hb;injection hb with hb
  exact n.block b (by assumption) (by rw[<-hb];simpa using k.2.2.2))
 replace I:=I.jL n bl;clear y cv m0 m1 br bH J n;obtain⟨o,bG⟩:=nm_ ((bL.setCell (c_ a 0) (.bool true)).setCell (c_ a 1) (i_ 0));rw[<-bG]at i bB f m hR I |-;clear bG;have p0:=f.f_ 0;have p1:=f.f_ 1;have bj:=m.f_ 0;have bn:=m.f_ 1;have aU:Gr [] o (o.alloc (.cells #[i_ 1,.slice (j_ d) 3 3,i_ 2,.slice (j_ a) (3+v) (3+v)] 56)):=(F_ [] o).alloc _;have hB:=P_ o 56 #[i_ 1,.slice (j_ d) 3 3,i_ 2,.slice (j_ a) (3+v) (3+v)]
 go_wp2_with (refine kQ (mF (.slice (j_ o.heap.size) 2 2) 3) (hR.hG aU) (nN _ _ _ _) ?_;intro X aw G)
 have O:Gr [] o X∨True:=.inr trivial;clear O
 have M:oa X [(⟨⟨1,⟨true,2⟩::List.replicate 2 default⟩,some (c_ d 0),3⟩:Rw),(⟨⟨2,⟨true,0⟩::List.replicate (2+v) default⟩,some (c_ a 0),3+v⟩:Rw)]:=by
  intro r hr;have hk:=(hR.hG aU)
  rcases L_.1 hr with rfl|hr
  .exact⟨Sl.iu (i.hG aU) hk d_ G,by show(3:Nat)<=1000000000;decide⟩
  .have:r=(⟨⟨2,⟨true,0⟩::List.replicate (2+v) default⟩,some (c_ a 0),3+v⟩:Rw):=zu hr
   subst this;exact⟨Sl.iu (bB.hG aU) hk d_ G,by show(⟨true,0⟩::List.replicate (2+v) (default:Vl)).length<=1000000000;simp;omega⟩
 have g:Os X (j_ o.heap.size) [(⟨⟨1,⟨true,2⟩::List.replicate 2 default⟩,some (c_ d 0),3⟩:Rw),(⟨⟨2,⟨true,0⟩::List.replicate (2+v) default⟩,some (c_ a 0),3+v⟩:Rw)]:=by
  have e:jl [(⟨⟨1,⟨true,2⟩::List.replicate 2 default⟩,some (c_ d 0),3⟩:Rw),(⟨⟨2,⟨true,0⟩::List.replicate (2+v) default⟩,some (c_ a 0),3+v⟩:Rw)]=(#[i_ 1,.slice (j_ d) 3 3,i_ 2,.slice (j_ a) (3+v) (3+v)]:Array Value).toList:=by
   simp[jl,Rw.E];omega
  have q:Sl (o.alloc (.cells #[i_ 1,.slice (j_ d) 3 3,i_ 2,.slice (j_ a) (3+v) (3+v)] 56)) 56 2 (j_ o.heap.size) 2 (jl [(⟨⟨1,⟨true,2⟩::List.replicate 2 default⟩,some (c_ d 0),3⟩:Rw),(⟨⟨2,⟨true,0⟩::List.replicate (2+v) default⟩,some (c_ a 0),3+v⟩:Rw)]):=by
   rw[e];exact⟨rfl,λ_=>⟨o.heap.size,0,_,(0,0),rfl,hB,λj u hu=>by rw[U_];simpa using hu⟩⟩
  exact Sl.iu q (hR.hG aU) d_ G
 exact lT (mF (.slice (j_ o.heap.size) 2 2) 3) (i_ 0) aw underlying154 ⟨some (c_ o.heap.size 0),2,[(⟨⟨1,⟨true,2⟩::List.replicate 2 default⟩,some (c_ d 0),3⟩:Rw),(⟨⟨2,⟨true,0⟩::List.replicate (2+v) default⟩,some (c_ a 0),3+v⟩:Rw)],rfl,⟨g,M,H_ _⟩,rfl,(I.trans aU).jL G bg⟩
theorem rx(h:Is w A l)(hn:l.length<=1000000000):
 Calls prog 91 #[.agg #[.slice A l.length c,i_ hI,i_ hF]] w (wn (ic l hI hF) hI w):=by
 cases hv:ic l hI hF with
 |false=>exact vk A c l hI hF w h hn hv
 |true=>
  have aV:=hv;unfold ic at aV;simp only[ES,Fr]at aV;obtain⟨v,rfl⟩:∃v:Nat,hI=v:=⟨hI.toNat,o_⟩;exact wN A c l v hF w h hn hv o_
structure Cm where
 h:Sv Rw
 hS:Int
 jp:Int
 h7:Sv Ac
 jH:Bool
 hZ:Bool
 v:Vl
 iR:Int
 hM:Int
def Cm.g_(s:Cm):Array Value:=#[.slice s.h.A s.h.l.length s.h.c,i_ s.hS,i_ s.jp,.slice s.h7.A s.h7.l.length s.h7.c,.bool s.jH,.bool s.hZ,.bool s.v.r,i_ s.v.n,i_ s.iR,i_ s.hM]
theorem Cm.one(s:Cm):s.g_.all (·.oneCell')=true:=by unfold Cm.g_;simp[Value.oneCell']
structure pY where
 h:List Ob
 hS:Int
 jp:Int
 h7:List Ac
 jH:Bool
 hZ:Bool
 v:Vl
 iR:Int
 hM:Int
def Cm.p(s:Cm):pY:=⟨hY s.h.l,s.hS,s.jp,s.h7.l,s.jH,s.hZ,s.v,s.iR,s.hM⟩
structure lX(w:World)(s:Cm):Prop where
 h:mj w s.h.A s.h.c s.h.l
 h7:As w s.h7.A s.h7.l
 pE:s.h7.ok
theorem lX.hG{w w':World}{s:Cm}(h:lX w s)(hg:Gr [] w w'):lX w' s:=⟨h.h.hG hg,h.h7.hG hg,h.pE⟩
theorem lX.iu{w w':World}{s:Cm}{ty:TypeId}{cs:Array Value}(h:lX w s)(hk:Bk w g ty cs)(ao:56≠ty/\38≠ty/\162≠ty)(hg:Gr [g] w w'):lX w' s:=⟨h.h.iu hk ao.1 ao.2.1 hg,Sl.iu h.h7 hk ao.2.2 hg,h.pE⟩
def Cm.zero:Cm:=⟨.nil,0,0,.nil,false,false,default,0,0⟩
theorem lX.zero(s:Cm)(h1:s.h=.nil)(h2:s.h7=.nil):lX w s:=by
 obtain⟨a1,G,a3,a4,a5,a,f,b,a9⟩:=s;simp only at h1 h2;subst h1;subst h2;exact⟨⟨Fm _ _ _ _,λr hr=>by simp[Sv.nil]at hr,H_ _⟩,Fm _ _ _ _,H_ _⟩
def uv(P:pY)(n:Int)(w:World)(e:Ending)(w':World):Prop:=∃s:Cm,e=.returned (.tuple #[.agg s.g_,i_ n])/\lX w' s/\s.p=P/\Gr [] w w'
def sk(ok:Bool)(hI:Int):pY:=if ok=true then{Cm.zero.p with h:=startHeap hI} else Cm.zero.p
theorem v8(h:Is w A l)(hn:l.length<=1000000000):
 Calls prog 47 #[.agg #[.slice A l.length c,i_ hI,i_ hF]] w (uv (sk (ic l hI hF) hI) (if ic l hI hF=true then 0 else 1) w):=by
 obtain⟨D,hR,I⟩:=qh w 26 #[.slice A l.length c,i_ hI,i_ hF] 40 #[n_,i_ 0,i_ 0,n_,.bool false,.bool false,.bool false,i_ 0,i_ 0,i_ 0]
 go_enter func47,ntmps47
 go_upto_region 1 with fail
 obtain⟨bp,aK⟩:=nm_ ((w.alloc (.cells #[.slice A l.length c,i_ hI,i_ hF] 26)).alloc (.cells #[n_,i_ 0,i_ 0,n_,.bool false,.bool false,.bool false,i_ 0,i_ 0,i_ 0] 40));rw[<-aK]at D hR I |-;clear aK;obtain⟨L,bC⟩:=nm_ w.heap.size;obtain⟨gr,Q⟩:=nm_ (w.heap.size+1);rw[<-Q]at hR;rw[<-bC]at D;rw[<-Q,<-bC];have bg:w.heap.size<=gr:=o_;clear bC Q;have U:=D.f_ 0;have ad:=D.f_ 1;have ar:=D.f_ 2
 cases hv:ic l hI hF with
 |false=>
  go_wp2_with (first|(go_at_call 91;have af:=rx A c l hI hF _ (h.hG I) hn;rw[hv]at af;refine af.mono ?_;unfold wn;rintro e w1⟨A1,c1,rs,a,u,d3,hg1⟩;have a:e=.returned (.tuple #[.agg (mF (.slice A1 rs.length c1) 0),i_ 1]):=a;subst a)|(refine kQ (mF (.slice A1 rs.length c1) 0) (P_ w1 154 #[n_,i_ 0,.bool false,i_ 0,.bool false,i_ 0,.bool false,i_ 0,.bool false,i_ 0,.bool false,i_ 0,.bool false,i_ 0,.bool false,i_ 0,.bool false,i_ 0,.bool false,i_ 0,.bool false,i_ 0,.bool false,i_ 0,.bool false,i_ 0,.bool false,i_ 0,.bool false,i_ 0,.bool false,i_ 0,.bool false,i_ 0,i_ 0,i_ 0,n_,.bool false,.bool false,.bool false,i_ 0,i_ 0]) (nN _ _ _ _) ?_;intro w2 bB az;have aQ:w2.cell? (c_ w1.heap.size 0)=some (.slice A1 rs.length c1):=(bB.f_ 0).trans rfl)|(refine ly rfl 40 _ _ rfl (gr) r_ (Cm.zero.g_) r_ 40 _ ((hR.hG hg1).hG (((F_ [] w1).alloc _).jL az (H_ _))) r_ k_ (Cm.one _) ?_;intro X aw G))
  all_goals (
   have c3:Gr [] w1 w2:=((F_ [] w1).alloc _).jL az (H_ _);have cf:=(hR.hG hg1).hG c3
   exact lT Cm.zero.g_ (i_ 1) aw underlying40 ⟨Cm.zero,rfl,lX.zero _ _ rfl rfl,rfl,((I.trans hg1).trans c3).jL G bg⟩)
 |true=>
  go_wp2_with (first|(go_at_call 91;have af:=rx A c l hI hF _ (h.hG I) hn;rw[hv]at af;refine af.mono ?_;unfold wn;rintro e w1⟨A1,c1,rs,a,u,d3,hg1⟩;have a:e=.returned (.tuple #[.agg (mF (.slice A1 rs.length c1) 3),i_ 0]):=a;subst a)|(refine kQ (mF (.slice A1 rs.length c1) 3) (P_ w1 154 #[n_,i_ 0,.bool false,i_ 0,.bool false,i_ 0,.bool false,i_ 0,.bool false,i_ 0,.bool false,i_ 0,.bool false,i_ 0,.bool false,i_ 0,.bool false,i_ 0,.bool false,i_ 0,.bool false,i_ 0,.bool false,i_ 0,.bool false,i_ 0,.bool false,i_ 0,.bool false,i_ 0,.bool false,i_ 0,.bool false,i_ 0,i_ 0,i_ 0,n_,.bool false,.bool false,.bool false,i_ 0,i_ 0]) (nN _ _ _ _) ?_;intro w2 bB az;have aQ:w2.cell? (c_ w1.heap.size 0)=some (.slice A1 rs.length c1):=(bB.f_ 0).trans rfl)|(refine ly rfl 40 _ _ rfl (gr) r_ (({Cm.zero with h:=⟨A1,c1,rs⟩}:Cm).g_) r_ 40 _ ((hR.hG hg1).hG (((F_ [] w1).alloc _).jL az (H_ _))) r_ k_ (Cm.one _) ?_;intro X aw G))
  all_goals (
   have c3:Gr [] w1 w2:=((F_ [] w1).alloc _).jL az (H_ _);have cf:=(hR.hG hg1).hG c3
   exact lT ({Cm.zero with h:=⟨A1,c1,rs⟩}:Cm).g_ (i_ 0) aw underlying40 ⟨({Cm.zero with h:=⟨A1,c1,rs⟩}:Cm),rfl,⟨(u.hG c3).iu cf d_ d_ G,Fm _ _ _ _,H_ _⟩,by unfold sk;rw[T_ rfl,<-show hY rs=startHeap hI from d3];rfl,((I.trans hg1).trans c3).jL G bg⟩)
theorem ms(c:List In)(hI hF:Int)(d:List Int)(t:i3)(view:List Ob):(jb c hI hF d t view).run=t.run:=by
 unfold jb;simp only;split
 .rfl
 split
 .rfl
 split
 .rfl
 .rename_i x hr
  have:=(lB hr).run
  split
  .exact this
  split
  .exact this
  .exact this
def n6(c:List In)(hI hF:Int)(d:List Int)(view:List Ob):Nat->i3->i3
 |0,t=>t
 |n+1,t=>if t.h8=0 then n6 c hI hF d view n (jb c hI hF d t view) else t
def zU(c:List In)(hI hF:Int)(d:List Int)(view:List Ob)(t:i3):i3:=n6 c hI hF d view (todo c t+1) t
theorem yw{c:List In}{hI hF:Int}{d:List Int}{view:List Ob}(n:Nat){t:i3}(h:t.h8≠0):n6 c hI hF d view n t=t:=by
 cases n with
 |zero=>rfl
 |succ n=>unfold n6;rw[Q_ h]
def Ap(w:World)(g i:Nat):Int:=match w.cell? (c_ g i)with
 |some (.int _ n)=>n
 |_=>0
theorem uK{w:World}{i:Nat}{k:IntKind}{n:Int}(h:w.cell? (c_ g i)=some (.int k n)):Ap w g i=n:=by unfold Ap;rw[h]
def left(l:List In)(g:Nat)(w:World):Nat:=if Ap w g 42=0 then(64-Ap w g 47).toNat*(l.length+3)+oY l (Ap w g 3)+1 else 0
theorem left_of{l:List In}{w:World}{t:Tk}(h:Bk w g 53 t.g_):left l g w=if t.h8=0 then todo l t.p+1 else 0:=by
 unfold left;rw[uK ((h.f_ 42).trans rfl),uK ((h.f_ 47).trans rfl),uK ((h.f_ 3).trans rfl)]
 rfl
theorem yx(B:OA)(cb:Nat)(d:List Int)(t:Tk)(cg:OA)(vc:Nat)(b:List Rw)(w:World)(N:Is w A l)(hn:l.length<=1000000000)(hD:Ns w 3 B d)(hd:d.length<=1000000000)(ht:lb w t)(hv:mj w cg vc b)(bq:qK l hI hF d=true)(cH:b.length<=99999999)(bD:0<=t.run)(bJ:t.run<=1099511627776)(aM:t.h8=0->Way l t.p):
 Calls prog 50 #[.agg #[.slice A l.length c,i_ hI,i_ hF],.agg #[.slice B d.length cb],.agg t.g_,.agg #[.slice cg b.length vc]] w (m7 (zU l hI hF d (hY b) t.p) 0 w):=by
 have Q:=by unfold qK at bq;simp only[ES]at bq;exact bq.2
 have cj:=K3;obtain⟨R,hR⟩:=mn_ (zU l hI hF d (hY b) t.p);rw[hR];unfold zU at hR;obtain⟨o,k,a,s,i,I⟩:=Ei w 26 #[.slice A l.length c,i_ hI,i_ hF] 32 #[.slice B d.length cb] 53 t.g_ 35 #[.slice cg b.length vc] 53 lv
 go_enter func50,ntmps50
 go_upto_region 1 with fail
 obtain⟨bp,aK⟩:=nm_ (((((w.alloc (.cells #[.slice A l.length c,i_ hI,i_ hF] 26)).alloc (.cells #[.slice B d.length cb] 32)).alloc (.cells t.g_ 53)).alloc (.cells #[.slice cg b.length vc] 35)).alloc (.cells lv 53));rw[<-aK]at o k a s i I |-;clear aK;obtain⟨L,bC⟩:=nm_ w.heap.size;obtain⟨a7,V⟩:=nm_ (w.heap.size+1);obtain⟨gt,av⟩:=nm_ (w.heap.size+1+1);obtain⟨aL,D⟩:=nm_ (w.heap.size+1+1+1);obtain⟨gr,F⟩:=nm_ (w.heap.size+1+1+1+1);rw[<-F]at i;rw[<-D]at s;rw[<-av]at a;rw[<-V]at k;rw[<-bC]at o;rw[<-F,<-D,<-av,<-V,<-bC];have bg:w.heap.size<=gr:=o_;have cN:w.heap.size<=gt:=o_;have ao:L≠gt/\a7≠gt/\aL≠gt/\gr≠gt:=o_;clear bC V av D F;go_wp2
 go_loopw [12] (λ_ wr=>∃(t1:Tk) (n:Nat),Bk wr L 26 #[.slice A l.length c,i_ hI,i_ hF]/\Bk wr a7 32 #[.slice B d.length cb]/\Bk wr gt 53 t1.g_/\Bk wr aL 35 #[.slice cg b.length vc]/\Bk wr gr 53 lv/\lb wr t1/\Gr [] w wr/\t1.run=t.run/\n6 l hI hF d (hY b) n t1.p=R/\(t1.h8=0->Way l t1.p/\todo l t1.p+1<=n)) (λ_ wr=>left l gt wr)
 case atStart=>exact⟨t,todo l t.p+1,o,k,a,s,i,ht.hG I,I,rfl,hR,λh=>⟨aM h,H_ _⟩⟩
 case round=>
  clear o k a s i I hR aM;obtain⟨t1,n,o,k,a,s,i,ai,F,aV,z,g⟩:=hrel;have v:=h_ (left_of (l:=l) a)
  by_cases bz:t1.h8=0
  .obtain⟨cT,K⟩:=g bz;have cw:wr.cell? (c_ gt 42)=some (i_ 0):=(a.f_ 42).trans (ED (λn=>some (Value.int .i64 n)) bz);have U:=o.f_ 0;have ad:=o.f_ 1;have ar:=o.f_ 2;have aQ:=k.f_ 0;have v0:=s.f_ 0
   have r:0<=t1.run:=by rw[aV];exact bD
   have u:t1.run<=1099511627776:=by rw[aV];exact bJ
   have bS:=cT.s1;have H:=cT.s0
   have E:t1.hM<=1000000:=by have e:t1.p.hM=t1.hM:=rfl;omega
   have C:128*t1.p.hM.toNat<=500000:=o_
   have p:t1.pc<=1000000:=by have h1:=cT.hi;have e:t1.p.pc=t1.pc:=rfl;omega
   have cQ: -1<=t1.pc:=cT.lo;have y:0<=t1.hM:=cT.s0;have f:=h_ z;have bY:=h_ bz;have b0:=h_ aV;clear z aV bS H
   go_wp2_with (first|(refine kT a underlying53 ?_)|(go_at_call 39;((with_reducible refine(t8 A c l hI hF B cb d t1 cg vc b _ (N.hG F) hn (hD.hG F) hd ai (hv.hG F) bq bz (cT.sm.mono C) cH cQ p r u y E).mono ?_);unfold m7;rintro e w2⟨af,rfl,M,aS,J⟩))|(refine kQ (af.g_) (P_ w2 53 lv) (Tk.one _) ?_;intro ae bu S)|(refine kT bu underlying53 ?_)|(refine ly rfl 53 _ _ rfl (gt) r_ (af.g_) r_ 53 _ ((a.hG J).hG (((F_ [] w2).alloc _).jL S (H_ _))) r_ k_ (Tk.one _) ?_;intro T bK Z))
   have bA:=J.trans (((F_ [] w2).alloc _).jL S (H_ _));have O:=((F_ [] w2).alloc _).jL S (H_ _);obtain⟨n1,n2,n3,n4⟩:=ao;obtain⟨sm,st0,st1,lo,hi,j⟩:=t7 Q cT bY.out (d:=d) (view:=hY b);rw[<-aS]at j;go_roundw
   case rel=>
    have x:∃(t1:Tk) (n:Nat),Bk T L 26 #[.slice A l.length c,i_ hI,i_ hF]/\Bk T a7 32 #[.slice B d.length cb]/\Bk T gt 53 t1.g_/\Bk T aL 35 #[.slice cg b.length vc]/\Bk T gr 53 lv/\lb T t1/\Gr [] w T/\t1.run=t.run/\n6 l hI hF d (hY b) n t1.p=R/\(t1.h8=0->Way l t1.p/\todo l t1.p+1<=n):=by
     refine⟨af,n-1,(o.hG bA).gr Z (zu n1),(k.hG bA).gr Z (zu n2),bK,(s.hG bA).gr Z (zu n3),(i.hG bA).gr Z (zu n4),(M.hG O).iu (a.hG bA) d_ Z,(F.trans bA).jL Z cN,?_,?_,?_⟩
     .have h1:af.p.run=af.run:=rfl;rw[<-h1,aS,ms];exact b0.out
     .obtain⟨m,rfl⟩:∃m,n=m+1:=⟨n-1,o_⟩;have h1:=f.out;unfold n6 at h1;rw[T_ (show t1.p.h8=0 from bY.out),<-aS]at h1;exact h1
     .intro h0;obtain⟨h1,h2⟩:=j h0;exact⟨h1,o_⟩
    repeat apply Exists.intro
    first|exact x|exact⟨x,rfl⟩
    all_goals exact undef
   case measure=>
    have h1:=v.out;rw[T_ bY.out]at h1;have h2:=left_of (l:=l) bK;rw[h1,h2];split
    .rename_i h0
     have:=(j h0).2
     omega
    .omega
  .have q:(t1.h8==0)=false:=zu bz;have cw:wr.cell? (c_ gt 42)=some (i_ t1.h8):=(a.f_ 42).trans rfl;have f:=h_ z;have bY:=h_ bz;clear bz z g
   go_wp2_with (first|(refine kT a underlying53 ?_)|(refine kQ (t1.g_) i (Tk.one _) ?_;intro X aw G))
   have HM:R=t1.p:=by rw[<-f.out];exact yw n bY.out
   rw[HM];exact lT t1.g_ (i_ 0) aw underlying53 ⟨t1,rfl,ai.iu i d_ G,rfl,F.jL G bg⟩
def Ts(w:World)(A:OA)(l:List Tk):Prop:=Sl w 53 48 A l.length (l.flatMap λt=>t.g_.toList)
structure xA(w:World)(A:OA)(l:List Tk):Prop where
 row:Ts w A l
 xH:∀t∈l,lb w t
theorem sG:(t.g_.toList).length=48:=rfl
theorem xA.hG{w w':World}{A:OA}{l:List Tk}(h:xA w A l)(hg:Gr [] w w'):xA w' A l:=⟨Sl.hG h.row hg,λt ht=>(h.xH t ht).hG hg⟩
theorem xA.at_{w:World}{A:OA}{l:List Tk}(h:xA w A l){k:Nat}(hk:k<l.length):∃b off,A=some (c_ b off)/\(∀j,j<48->w.cell? (c_ b (off+k*48+j))=(l[k]).g_[j]?):=by
 obtain⟨b,off,hA,hc⟩:=Sl.f_ h.row o_;refine⟨b,off,hA,λj hj=>?_⟩;have hg:=jh (λt:Tk=>t.g_.toList) 48 sG l k j hk hj
 have hs:j<(l[k]).g_.size:=by rw[Tk.size];exact hj
 have he:(l[k]).g_.toList[j]?=some (l[k]).g_[j]:=by simp[hs]
 rw[EH hs,Gd];exact hc _ _ (hg.trans he)
def nj(h:List Ob)(l:List i3)(k:Int):List Ob:=(l.take k.toNat).foldl lG h
theorem xS(h:List Ob)(t:i3):(lG h t).length<=h.length+t.nw.length:=by
 unfold lG;rw[nO,jT];exact oG t.nw h
theorem vb(l:List i3)(h:List Ob){n:Nat}(hs:∀t∈l,t.nw.length<=n):(l.foldl lG h).length<=h.length+l.length*n:=by
 induction l generalizing h with
 |nil=>simp
 |cons t l Z=>
  have h1:=Z (lG h t) (λu hu=>hs u (EQ _ hu));have h2:=xS h t;have h3:=hs t E6;rw[FY,Z_,FJ];omega
theorem zy(l:List Rw)(TA:OA)(tc:Nat)(ts:List Tk)(k:Int)(w:World)(h:mj w A c l)(hn:l.length<=10000000)(O:xA w TA ts)(cv:ts.length<=100)(ap:∀t∈ts,t.p.sm 500000)(b9:k<=1000000000):
 Calls prog 40 #[.agg #[.slice A l.length c],.slice TA ts.length tc,i_ k] w (mf (nj (hY l) (ts.map Tk.p) k) w):=by
 obtain⟨i1,bM,ca,ce,cp⟩:=info_parts infoOb
 have g:∀t∈ts,t.nw.l.length<=500000:=λt ht=>by have:=(ap t ht).nw;have e:t.p.nw.length=t.nw.l.length:=h9 _;omega
 obtain⟨hB,hR,I⟩:=qh w 35 #[.slice A l.length c] 35 #[n_]
 go_enter func40,ntmps40
 go_upto_region 1 with fail
 obtain⟨bp,aK⟩:=nm_ ((w.alloc (.cells #[.slice A l.length c] 35)).alloc (.cells #[n_] 35));rw[<-aK]at hB hR I |-;clear aK;obtain⟨a8,a2⟩:=nm_ w.heap.size;obtain⟨gr,Q⟩:=nm_ (w.heap.size+1);rw[<-Q]at hR;rw[<-a2]at hB;rw[<-Q,<-a2];have bg:w.heap.size<=gr:=o_;clear a2 Q;have U:=hB.f_ 0;have cN:Sl bp 56 2 A l.length (jl l):=(h.hG I).os;have r:=iV bp bp.heap.size 56 2
 go_upto_region 2 with(at_builtin;refine iL _ rfl (.const (n_)) (.tmp 10) 33 rfl bp.heap.size 56 i1 _ 2 32 underlying33 bM ca ce cp rfl d_ d_ none 0 0 _ rfl r A l.length c _ rfl cN (jZ l) o_ (H_ _) ?_;intro av ai w2 aq ao;simp only[U_,EO]at aq)
 have J:=ao.gr [] bp (H_ _) (F_ _ _);have B:mj w2 av ai l:=⟨Sl.iT aq,(h.hG (I.trans J)).kZ,jf aq⟩;have bz:=hB.hG J;have cf:=(hR.hG J).alloc (.cells #[.slice av l.length ai] 35);have D:=P_ w2 35 #[.slice av l.length ai];have y:=B.hG ((F_ [] w2).alloc (.cells #[.slice av l.length ai] 35));have a:=(I.trans J).alloc (.cells #[.slice av l.length ai] 35);have bD:=(I.trans J).size
 have N:gr≠w2.heap.size:=by have:=hR.lt;have:=J.size;omega
 obtain⟨am,bU⟩:=nm_ (w2.alloc (.cells #[.slice av l.length ai] 35));rw[<-bU]at cf D y a |-;clear bU;clear aq ao J B bz hB hR I U cN r;generalize w2.heap.size=be at*;go_wp2
 go_loopw [8] (λi wr=>∃(m:Nat) (A':OA) (c':Nat) (rs:List Rw),m<=ts.length/\((m:Int)<=k∨m=0)/\i=i_ m/\Bk wr be 35 #[.slice A' rs.length c']/\Bk wr gr 35 #[n_]/\mj wr A' c' rs/\hY rs=((ts.map Tk.p).take m).foldl lG (hY l)/\Gr [] w wr) (λi _=>ts.length-(intOf i).toNat)
 case atStart=>exact⟨0,av,ai,l,O_ _,.inr rfl,rfl,D,cf,y,rfl,a⟩
 case round=>
  clear D cf y a;obtain⟨m,A',c',rs,hm,cx,rfl,s,E,f,bw,F⟩:=hrel;have q:=h_ bw;clear bw
  by_cases bQ:(m:Int)<k
  .by_cases ag:m<ts.length
   .have R:(m:Int)<(ts.length:Int):=o_;obtain⟨bB,off,em,ew⟩:=(O.hG F).at_ ag;subst em
    have aV:rs.length<=100000000:=by
     have h1:=h9 rs
     have h2:=vb ((ts.map Tk.p).take m) (hY l) (n:=500000) (λu hu=>by
      obtain⟨t,ht,rfl⟩:=EM.1 (Ff hu)
      exact(ap t ht).nw)
     rw[q.out]at h1;rw[E1,E5,h9]at h2;have h3:min m ts.length*500000<=100*500000:=Gg _ o_;omega
    have z:=(O.hG F).xH ts[m] (N_ ag);have cH:=ap ts[m] (N_ ag);have o:=g ts[m] (N_ ag)
    have bL:=h_ (show((ts.map Tk.p).take (m+1)).foldl lG (hY l)=lG (hY rs) ts[m].p by
     rw[q.out,W_ (by rw[E5];exact ag),FZ,FR]
     rfl)
    generalize ts[m]=t at*
    go_upto_region 5 with fail
    refine hQ (λw'=>w'.cell? (c_ be 0)=some (.slice A' rs.length c')/\∀j,j<48->w'.cell? (c_ bB (off+m*48+j))=t.g_[j]?) 6 k_ ?_;have V:=(F_ [] wr).drew;replace s:=s.hG V;replace E:=E.hG V;replace f:=f.hG V;replace z:=z.hG V;replace F:=F.trans V;have C:wr.drew.cell? (c_ be 0)=some (.slice A' rs.length c')/\∀j,j<48->wr.drew.cell? (c_ bB (off+m*48+j))=t.g_[j]?:=⟨s.f_ 0,ew⟩;have aS:(0:Int)<=(m:Int):=o_
    (iterate 4 refine jW C ?_)
    refine iP 4 (v:=.agg t.g_) C ?_ (hy:=(Or.inl ⟨r_,λw' bR=>lL 53 _ rfl bB (off+m*48) r_ _ (λj hj=>bR.2 j hj) _ underlying53 rfl k_⟩))
    refine h4 5 λK H=>?_
    go_simp
    (go_at_call 84;((with_reducible refine(vC A' c' rs t _ z f o_ (G_ cH.ws d_) (G_ cH.ds d_)).mono ?_);unfold mf;rintro e T⟨aO,c4,r4,rfl,G,d,Z⟩))
    have x:=h_ d;clear d C
    have bE:∀j,j<48->T.cell? (c_ bB (off+m*48+j))=t.g_[j]?:=λj hj=>by
     have h1:=ew j hj
     have hs:j<t.g_.size:=by rw[Tk.size];exact hj
     rw[EH hs]at h1 |-;exact(V.trans Z).f_ h1 s_
    have bK:=s.hG Z
    refine h5 H ⟨bK.f_ 0,bE⟩ λC=>?_
    clear H K;have b:=E.hG Z;have aQ:=bK.f_ 0;have br:=bK.hH 0;have M:Gr [be] T (T.setCell (c_ be 0) (.slice aO r4.length c4)):=(F_ [be] T).setCell (.inl s_) _
    refine h4 6 λK H=>?_
    go_simp;refine H.out _ _ (λh=>EK h d_) ?_;clear H K;refine hN k_ ?_ _;clear C aQ br;go_wp2;go_roundw
    case rel=>exact⟨m+1,aO,c4,r4,o_,o_,gn,bK.hW 0 _,b.ih (zu N) _,G.iu bK d_ d_ M,by rw[x.out,bL.out],(F.trans Z).jL M bD⟩
    case measure=>exact mz
   .have R:¬(m:Int)<(ts.length:Int):=o_
    have aX:=h_ (show nj (hY l) (ts.map Tk.p) k=((ts.map Tk.p).take m).foldl lG (hY l) by
     unfold nj
     rw[EI (by rw[E5];omega),EI (by rw[E5];omega)])
    exact Ik
  .have aX:=h_ (show nj (hY l) (ts.map Tk.p) k=((ts.map Tk.p).take m).foldl lG (hY l) by
    unfold nj
    have:k.toNat=m:=o_
    rw[this])
   exact Ik
def lF(f:Fo)(dst:Int):Fo:=if f.dst=dst then⟨f.fr,f.dst,if 3<f.n+1 then 3 else f.n+1⟩ else if f.n-1<=0 then⟨f.fr,dst,1⟩ else⟨f.fr,f.dst,f.n-1⟩
def li(l:List Fo)(fr dst:Int):List Fo:=
 if o1 l fr=true then l.set (lq l fr) (lF (l.getD (lq l fr) default) dst) else l.take (lq l fr)++([⟨fr,dst,1⟩]++l.drop (lq l fr))
def x6(P:List Fo)(w:World)(e:Ending)(w':World):Prop:=∃(A:OA) (d:Nat),e=.returned (.agg #[.slice A P.length d])/\Fs w' A P/\P.length<=d/\Gr [] w w'
theorem ym(l:List Fo)(fr dst:Int)(w:World)(h:Fs w A l)(hn:l.length<=1000000000)(x:o1 l fr=false):
 Calls prog 51 #[.agg #[.slice A l.length c],i_ fr,i_ dst] w (x6 (li l fr dst) w):=by
 have aR:=h_ (show li l fr dst=l.take (lq l fr)++([⟨fr,dst,1⟩]++l.drop (lq l fr)) by unfold li;rw[x];rfl);obtain⟨k,D⟩:=nm_ (lq l fr)
 have hk:k<=l.length:=by rw[D];exact BN _ _
 have O:=h_ D;clear D;obtain⟨bF,bE,bt,a8,bo⟩:=info_parts infoFo;obtain⟨C,hR,I⟩:=qh w 96 #[.slice A l.length c] 96 #[n_]
 go_enter func51,ntmps51
 go_upto_region 1 with fail
 obtain⟨bp,aK⟩:=nm_ ((w.alloc (.cells #[.slice A l.length c] 96)).alloc (.cells #[n_] 96));rw[<-aK]at C hR I |-;clear aK;obtain⟨gs,E⟩:=nm_ w.heap.size;obtain⟨gr,Q⟩:=nm_ (w.heap.size+1);rw[<-Q]at hR;rw[<-E]at C;rw[<-Q,<-E];have bg:w.heap.size<=gr:=o_;clear E Q;have U:=C.f_ 0;have cN:Sl bp 168 3 A l.length (l.flatMap Fo.E):=h.hG I
 go_upto_region 2 with(at_builtin;refine iL _ rfl (.const (n_)) (.tmp 12) 94 rfl bp.heap.size 168 bF _ 3 24 underlying94 bE bt a8 bo rfl d_ d_ none 0 0 [] rfl (iV _ _ _ _) A l.length c _ rfl cN (uM l) o_ (H_ _) ?_;intro av ai w2 aq ao;simp only[U_,EO]at aq;have U:=(C.hG (ao.gr [] bp (H_ _) (F_ _ _))).f_ 0)
 have J:Gr [] bp w2:=ao.gr [] bp (H_ _) (F_ _ _);have aw:Fs w2 av l:=Sl.iT aq;have cj:=jf aq;have bB:=C.hG J;have cf:=hR.hG J;clear C hR
 go_upto_region 4 with(go_at_call 99;((with_reducible refine(qM A c l fr _ (h.hG (I.trans J)) hn).mono ?_);rw[x];rintro e ae⟨rfl,S⟩))
 rw[<-O.out];clear U;refine hQ (λ_=>True) 14 k_ ?_;have z:Gr [] ae ae.drew:=(F_ [] ae).drew;obtain⟨bL,ca⟩:=nm_ ae.drew;rw[<-ca]at z |-;clear ca;have C:True:=trivial;have aS:(0:Int)<=(k:Int):=o_;have aJ:(k:Int)<=(l.length:Int):=o_;have aG:(k:Int)<=(ai:Int):=o_;have Z:=h_ (show ∀u∈(#[i_ fr,i_ dst,i_ 1]:Array Value).toList++(l.drop k).flatMap Fo.E,u.oneCell'=true from λu hu=>uM (⟨fr,dst,1⟩::l.drop k) u hu)
 (iterate 3 refine jW C ?_)
 refine iP 3 (v:=.slice av k k) C ?_ (hy:=(Or.inl ⟨r_,(by intro w' bR;go_simp;try with_reducible rfl)⟩));refine iP 4 C ?_;refine iP 5 C ?_;refine iP 6 C ?_;refine iP 8 C ?_;refine iP 9 C ?_;refine iP 10 (v:=.slice (if ai=k then av else av.map (·.add (k*3))) (l.length-k) (ai-k)) C ?_ (hy:=(Or.inl ⟨r_,(by intro w' bR;go_simp;try with_reducible rfl)⟩))
 refine h4 7 λK H=>?_
 go_simp;have m:Gr [] ae (bL.alloc (.cells #[i_ fr,i_ dst,i_ 1] 168)):=z.alloc _;have bT:=kN (s:=3) (P_ bL 168 #[i_ fr,i_ dst,i_ 1]) rfl;have aU:=(Sl.x3 oO (aw.hG (S.trans m)) hk ai cj);refine H.out _ _ (λ_=>trivial) ?_;clear H K
 try simp only[a_]
 refine h4 11 λK H=>?_
 refine mr _ r_ (.tmp 29) (.tmp 32) 94 r_ 168 bF _ 3 24 underlying94 bE bt a8 bo rfl d_ d_ _ 1 _ r_ bT _ (l.length-k) _ _ r_ aU (uM _) o_ ?_;intro aY c5 Y G bN ah;have T:Gr [] ae Y:=m.trans ah;have aW:=(Sl.vh oO (aw.hG (S.trans T)) hk);refine H.out _ _ (λ_=>trivial) ?_;clear H K
 try simp only[a_]
 refine h4 12 λK H=>?_
 refine mr _ r_ (.tmp 25) (.tmp 33) 94 r_ 168 bF _ 3 24 underlying94 bE bt a8 bo rfl d_ d_ _ k _ r_ aW _ (1+(l.length-k)) _ _ r_ bN Z.out o_ ?_;intro aI aF ax bU bS aB;have a:Gr [] ae ax:=T.trans aB;refine H.out _ _ (λ_=>trivial) ?_;clear H K
 try simp only[a_]
 refine iP 13 C ?_;refine hN k_ ?_ _;have b:=cf.hG (S.trans a);have bW:=b.f_ 0;have br:=b.hH 0;go_wp2
 all_goals (
  have au:Gr [gr] ax (ax.setCell (c_ gr 0) (.slice aI (k+(1+(l.length-k))) aF)):=(F_ [gr] ax).setCell (.inl s_) _
  have iM:(li l fr dst).length=k+(1+(l.length-k)):=by rw[aR.out,<-O.out];simp;omega
  refine EX (v:=.agg #[.slice aI (k+(1+(l.length-k))) aF]) (FP rfl _ _ _ _ _ _ _ rfl (b.hW 0 (.slice aI (k+(1+(l.length-k))) aF)) underlying96 rfl k_) rfl ⟨aI,aF,by rw[iM],?_,by rw[iM];exact bU,((I.trans J).trans (S.trans a)).jL au bg⟩;unfold Fs;rw[iM,aR.out,<-O.out,EZ,EZ,Gs]
  exact Sl.iu bS b d_ au)
theorem yl(l:List Fo)(fr dst:Int)(w:World)(h:Fs w A l)(hn:l.length<=1000000000)(x:o1 l fr=true)(hb:∀f∈l, -1000<=f.n/\f.n<=1000):
 Calls prog 51 #[.agg #[.slice A l.length c],i_ fr,i_ dst] w (x6 (li l fr dst) w):=by
 have c8:=h_ (show li l fr dst=l.set (lq l fr) (lF (l.getD (lq l fr) default) dst) by unfold li;rw[x];rfl);obtain⟨k,D⟩:=nm_ (lq l fr)
 have az:k<l.length:=by rw[D];unfold o1 at x;simp at x;exact x.1
 have O:=h_ D
 have V:l.getD k default=l[k]:=by simp[List.getD,M_ az]
 have aR:Hid (li l fr dst=l.set k (lF l[k] dst)):=h_ (by rw[c8.out,<-O.out,V]);have Y:=hb l[k] (N_ az);clear D c8 V hb;obtain⟨bF,bE,bt,a8,bo⟩:=info_parts infoFo;obtain⟨C,hR,I⟩:=qh w 96 #[.slice A l.length c] 96 #[n_]
 go_enter func51,ntmps51
 go_upto_region 1 with fail
 obtain⟨bp,aK⟩:=nm_ ((w.alloc (.cells #[.slice A l.length c] 96)).alloc (.cells #[n_] 96));rw[<-aK]at C hR I |-;clear aK;obtain⟨gs,E⟩:=nm_ w.heap.size;obtain⟨gr,Q⟩:=nm_ (w.heap.size+1);rw[<-Q]at hR;rw[<-E]at C;rw[<-Q,<-E];have bg:w.heap.size<=gr:=o_;clear E Q;have U:=C.f_ 0;have cN:Sl bp 168 3 A l.length (l.flatMap Fo.E):=h.hG I
 go_upto_region 2 with(at_builtin;refine iL _ rfl (.const (n_)) (.tmp 12) 94 rfl bp.heap.size 168 bF _ 3 24 underlying94 bE bt a8 bo rfl d_ d_ none 0 0 [] rfl (iV _ _ _ _) A l.length c _ rfl cN (uM l) o_ (H_ _) ?_;intro av ai w2 aq ao;simp only[U_,EO]at aq;have U:=(C.hG (ao.gr [] bp (H_ _) (F_ _ _))).f_ 0)
 have J:Gr [] bp w2:=ao.gr [] bp (H_ _) (F_ _ _);have aw:Fs w2 av l:=Sl.iT aq;have cj:=jf aq;have bB:=C.hG J;have cf:=hR.hG J;clear C hR;obtain⟨g,cur,B,z,W,t⟩:=kA aq o_;subst B
 have m:=λj u(hu:(Fo.E l[k])[j]?=some u)=>t (k*3+j) u (by
  have hj:j<3:=by have:=(FX.1 hu).1;rw[oO]at this;exact this
  rw[jh Fo.E 3 oO l k j az hj]
  exact hu)
 go_upto_region 6 with(go_at_call 99;((with_reducible refine(qM A c l fr _ (h.hG (I.trans J)) hn).mono ?_);rw[x];rintro e ae⟨rfl,S⟩))
 rw[<-O.out];clear U;have F:=W.hG S;have Z:(k:Int)<(l.length:Int):=o_;obtain⟨f,cr⟩:=nm_ (l[k]);rw[<-cr]at m Y aR;have dk:=h_ cr;clear cr;have k0:ae.cell? (c_ g (k*3))=some (i_ f.fr):=(F.f_ _).trans (m 0 _ rfl);have bV:ae.cell? (c_ g (k*3+1))=some (i_ f.dst):=(F.f_ _).trans (m 1 _ rfl);have bz:ae.cell? (c_ g (k*3+2))=some (i_ f.n):=(F.f_ _).trans (m 2 _ rfl)
 go_upto_region 7 with fail
 have L:=P_ ae 168 #[i_ f.fr,i_ f.dst,i_ f.n];have H:=F.alloc (.cells #[i_ f.fr,i_ f.dst,i_ f.n] 168);have T:=(cf.hG S).alloc (.cells #[i_ f.fr,i_ f.dst,i_ f.n] 168);have bT:=((I.trans J).trans S).alloc (.cells #[i_ f.fr,i_ f.dst,i_ f.n] 168);have R:g≠ae.heap.size:=ov F.lt;have aE:gr≠ae.heap.size:=ov ((cf.hG S).lt);have bY:w.heap.size<=ae.heap.size:=((I.trans J).trans S).size;have r:gr≠g:=Bk.lZ cf W d_;have bA:w.heap.size<=g:=G_ I.size z;clear k0 bV bz F aq ao aw bB cf J S I cN W z;obtain⟨o,bG⟩:=nm_ (ae.alloc (.cells #[i_ f.fr,i_ f.dst,i_ f.n] 168));rw[<-bG]at L H T bT |-;clear bG;generalize ae.heap.size=gx at*
 by_cases hd:f.dst=dst
 .have q:(f.dst==dst)=true:=zu hd
  by_cases h3:3<f.n+1
  .have cp:=h_ (show lF f dst=⟨f.fr,f.dst,3⟩ by unfold lF;rw[T_ hd,T_ h3])
   have bN:(3<f.n+1)=True:=by simp[h3]
   clear hd;have aQ:=L.f_ 0;have bj:=L.f_ 1;have P:=L.f_ 2;have K:=L.hH 0;have M:=L.hH 1;have N:=L.hH 2
   go_upto_region 12 with fail
   have i:Bk (o.setCell (c_ gx 2) (i_ 3)) gx 168 #[i_ f.fr,i_ f.dst,i_ 3]:=(L).hW 2 (i_ 3);have a:=(H).ih (p:=(c_ gx 2)) R (i_ 3);have d:=(T).ih (p:=(c_ gx 2)) aE (i_ 3);have s:=(bT).setCell (p:=(c_ gx 2)) (.inr bY) (i_ 3);clear aQ bj P K M N;obtain⟨b,v⟩:=nm_ (o.setCell (c_ gx 2) (i_ 3));rw[<-v]at i a d s |-;clear v;have z0:=i.f_ 0;have aM:=i.f_ 1;have aV:=i.f_ 2;have k0:b.cell? (c_ g (k*3))=some (i_ f.fr):=(a.f_ _).trans (m 0 _ rfl);have bV:b.cell? (c_ g (k*3+1))=some (i_ f.dst):=(a.f_ _).trans (m 1 _ rfl);have bz:b.cell? (c_ g (k*3+2))=some (i_ f.n):=(a.f_ _).trans (m 2 _ rfl);have br:=a.hH (k*3);have bH:=a.hH (k*3+1);have b8:=a.hH (k*3+2);have bW:=d.f_ 0;have X:=d.hH 0
   have oN:Fs ((((b.setCell (c_ g (k*3)) (i_ f.fr)).setCell (c_ g (k*3+1)) (i_ f.dst)).setCell (c_ g (k*3+2)) (i_ 3))) (j_ g) (l.set k ⟨f.fr,f.dst,3⟩):=by
    unfold Fs;exact r7 Fo.E oO az ⟨f.fr,f.dst,3⟩ _ _ _ rfl a t _ s_
   have n:=((d.ih (p:=(c_ g (k*3))) r (i_ f.fr)).ih (p:=(c_ g (k*3+1))) r (i_ f.dst)).ih (p:=(c_ g (k*3+2))) r (i_ 3);have au:Gr [gr] _ _:=(F_ [gr] ((((b.setCell (c_ g (k*3)) (i_ f.fr)).setCell (c_ g (k*3+1)) (i_ f.dst)).setCell (c_ g (k*3+2)) (i_ 3)))).setCell (p:=(c_ gr 0)) (.inl s_) (.slice (j_ g) l.length ai);have y:=((s.setCell (p:=(c_ g (k*3))) (.inr bA) (i_ f.fr)).setCell (p:=(c_ g (k*3+1))) (.inr bA) (i_ f.dst)).setCell (p:=(c_ g (k*3+2))) (.inr bA) (i_ 3)
   have iM:(li l fr dst).length=l.length:=by rw[aR.out];simp
   go_wp2;refine rr_ #[.slice (j_ g) l.length ai] (n.hW 0 (.slice (j_ g) l.length ai)) underlying96 ⟨some (c_ g 0),ai,by rw[iM],?_,by rw[iM];exact cj,y.jL au bg⟩;rw[aR.out,cp.out];unfold Fs;rw[ER]
   have G:Sl ((((b.setCell (c_ g (k*3)) (i_ f.fr)).setCell (c_ g (k*3+1)) (i_ f.dst)).setCell (c_ g (k*3+2)) (i_ 3))) 168 3 (j_ g) l.length ((l.set k ⟨f.fr,f.dst,3⟩).flatMap Fo.E):=by have q:=oN;unfold Fs at q;rw[ER]at q;exact q
   exact Sl.iu G n d_ au
  .have cp:=h_ (show lF f dst=⟨f.fr,f.dst,f.n+1⟩ by unfold lF;rw[T_ hd,Q_ h3])
   have bN:(3<f.n+1)=False:=by simp[h3]
   clear hd;have aQ:=L.f_ 0;have bj:=L.f_ 1;have P:=L.f_ 2;have K:=L.hH 0;have M:=L.hH 1;have N:=L.hH 2
   go_upto_region 12 with fail
   have i:Bk (o.setCell (c_ gx 2) (i_ (f.n+1))) gx 168 #[i_ f.fr,i_ f.dst,i_ (f.n+1)]:=(L).hW 2 (i_ (f.n+1));have a:=(H).ih (p:=(c_ gx 2)) R (i_ (f.n+1));have d:=(T).ih (p:=(c_ gx 2)) aE (i_ (f.n+1));have s:=(bT).setCell (p:=(c_ gx 2)) (.inr bY) (i_ (f.n+1));clear aQ bj P K M N;obtain⟨b,v⟩:=nm_ (o.setCell (c_ gx 2) (i_ (f.n+1)));rw[<-v]at i a d s |-;clear v;have z0:=i.f_ 0;have aM:=i.f_ 1;have aV:=i.f_ 2;have k0:b.cell? (c_ g (k*3))=some (i_ f.fr):=(a.f_ _).trans (m 0 _ rfl);have bV:b.cell? (c_ g (k*3+1))=some (i_ f.dst):=(a.f_ _).trans (m 1 _ rfl);have bz:b.cell? (c_ g (k*3+2))=some (i_ f.n):=(a.f_ _).trans (m 2 _ rfl);have br:=a.hH (k*3);have bH:=a.hH (k*3+1);have b8:=a.hH (k*3+2);have bW:=d.f_ 0;have X:=d.hH 0
   have oN:Fs ((((b.setCell (c_ g (k*3)) (i_ f.fr)).setCell (c_ g (k*3+1)) (i_ f.dst)).setCell (c_ g (k*3+2)) (i_ (f.n+1)))) (j_ g) (l.set k ⟨f.fr,f.dst,f.n+1⟩):=by
    unfold Fs;exact r7 Fo.E oO az ⟨f.fr,f.dst,f.n+1⟩ _ _ _ rfl a t _ s_
   have n:=((d.ih (p:=(c_ g (k*3))) r (i_ f.fr)).ih (p:=(c_ g (k*3+1))) r (i_ f.dst)).ih (p:=(c_ g (k*3+2))) r (i_ (f.n+1));have au:Gr [gr] _ _:=(F_ [gr] ((((b.setCell (c_ g (k*3)) (i_ f.fr)).setCell (c_ g (k*3+1)) (i_ f.dst)).setCell (c_ g (k*3+2)) (i_ (f.n+1))))).setCell (p:=(c_ gr 0)) (.inl s_) (.slice (j_ g) l.length ai);have y:=((s.setCell (p:=(c_ g (k*3))) (.inr bA) (i_ f.fr)).setCell (p:=(c_ g (k*3+1))) (.inr bA) (i_ f.dst)).setCell (p:=(c_ g (k*3+2))) (.inr bA) (i_ (f.n+1))
   have iM:(li l fr dst).length=l.length:=by rw[aR.out];simp
   go_wp2;refine rr_ #[.slice (j_ g) l.length ai] (n.hW 0 (.slice (j_ g) l.length ai)) underlying96 ⟨some (c_ g 0),ai,by rw[iM],?_,by rw[iM];exact cj,y.jL au bg⟩;rw[aR.out,cp.out];unfold Fs;rw[ER]
   have G:Sl ((((b.setCell (c_ g (k*3)) (i_ f.fr)).setCell (c_ g (k*3+1)) (i_ f.dst)).setCell (c_ g (k*3+2)) (i_ (f.n+1)))) 168 3 (j_ g) l.length ((l.set k ⟨f.fr,f.dst,f.n+1⟩).flatMap Fo.E):=by have q:=oN;unfold Fs at q;rw[ER]at q;exact q
   exact Sl.iu G n d_ au
 .have q:(f.dst==dst)=false:=zu hd
  by_cases hz:f.n-1<=0
  .have cp:=h_ (show lF f dst=⟨f.fr,dst,1⟩ by unfold lF;rw[Q_ hd,T_ hz])
   have bI:(f.n-1<=0)=True:=by simp[hz]
   clear hd;have aQ:=L.f_ 0;have bj:=L.f_ 1;have P:=L.f_ 2;have K:=L.hH 0;have M:=L.hH 1;have N:=L.hH 2
   go_upto_region 12 with fail
   have i:Bk (((o.setCell (c_ gx 2) (i_ (f.n-1))).setCell (c_ gx 1) (i_ dst)).setCell (c_ gx 2) (i_ 1)) gx 168 #[i_ f.fr,i_ dst,i_ 1]:=(((L).hW 2 (i_ (f.n-1))).hW 1 (i_ dst)).hW 2 (i_ 1);have a:=(((H).ih (p:=(c_ gx 2)) R (i_ (f.n-1))).ih (p:=(c_ gx 1)) R (i_ dst)).ih (p:=(c_ gx 2)) R (i_ 1);have d:=(((T).ih (p:=(c_ gx 2)) aE (i_ (f.n-1))).ih (p:=(c_ gx 1)) aE (i_ dst)).ih (p:=(c_ gx 2)) aE (i_ 1);have s:=(((bT).setCell (p:=(c_ gx 2)) (.inr bY) (i_ (f.n-1))).setCell (p:=(c_ gx 1)) (.inr bY) (i_ dst)).setCell (p:=(c_ gx 2)) (.inr bY) (i_ 1);clear aQ bj P K M N;obtain⟨b,v⟩:=nm_ (((o.setCell (c_ gx 2) (i_ (f.n-1))).setCell (c_ gx 1) (i_ dst)).setCell (c_ gx 2) (i_ 1));rw[<-v]at i a d s |-;clear v;have z0:=i.f_ 0;have aM:=i.f_ 1;have aV:=i.f_ 2;have k0:b.cell? (c_ g (k*3))=some (i_ f.fr):=(a.f_ _).trans (m 0 _ rfl);have bV:b.cell? (c_ g (k*3+1))=some (i_ f.dst):=(a.f_ _).trans (m 1 _ rfl);have bz:b.cell? (c_ g (k*3+2))=some (i_ f.n):=(a.f_ _).trans (m 2 _ rfl);have br:=a.hH (k*3);have bH:=a.hH (k*3+1);have b8:=a.hH (k*3+2);have bW:=d.f_ 0;have X:=d.hH 0
   have oN:Fs ((((b.setCell (c_ g (k*3)) (i_ f.fr)).setCell (c_ g (k*3+1)) (i_ dst)).setCell (c_ g (k*3+2)) (i_ 1))) (j_ g) (l.set k ⟨f.fr,dst,1⟩):=by
    unfold Fs;exact r7 Fo.E oO az ⟨f.fr,dst,1⟩ _ _ _ rfl a t _ s_
   have n:=((d.ih (p:=(c_ g (k*3))) r (i_ f.fr)).ih (p:=(c_ g (k*3+1))) r (i_ dst)).ih (p:=(c_ g (k*3+2))) r (i_ 1);have au:Gr [gr] _ _:=(F_ [gr] ((((b.setCell (c_ g (k*3)) (i_ f.fr)).setCell (c_ g (k*3+1)) (i_ dst)).setCell (c_ g (k*3+2)) (i_ 1)))).setCell (p:=(c_ gr 0)) (.inl s_) (.slice (j_ g) l.length ai);have y:=((s.setCell (p:=(c_ g (k*3))) (.inr bA) (i_ f.fr)).setCell (p:=(c_ g (k*3+1))) (.inr bA) (i_ dst)).setCell (p:=(c_ g (k*3+2))) (.inr bA) (i_ 1)
   have iM:(li l fr dst).length=l.length:=by rw[aR.out];simp
   go_wp2;refine rr_ #[.slice (j_ g) l.length ai] (n.hW 0 (.slice (j_ g) l.length ai)) underlying96 ⟨some (c_ g 0),ai,by rw[iM],?_,by rw[iM];exact cj,y.jL au bg⟩;rw[aR.out,cp.out];unfold Fs;rw[ER]
   have G:Sl ((((b.setCell (c_ g (k*3)) (i_ f.fr)).setCell (c_ g (k*3+1)) (i_ dst)).setCell (c_ g (k*3+2)) (i_ 1))) 168 3 (j_ g) l.length ((l.set k ⟨f.fr,dst,1⟩).flatMap Fo.E):=by have q:=oN;unfold Fs at q;rw[ER]at q;exact q
   exact Sl.iu G n d_ au
  .have cp:=h_ (show lF f dst=⟨f.fr,f.dst,f.n-1⟩ by unfold lF;rw[Q_ hd,Q_ hz])
   have bI:(f.n-1<=0)=False:=by simp[hz]
   clear hd;have aQ:=L.f_ 0;have bj:=L.f_ 1;have P:=L.f_ 2;have K:=L.hH 0;have M:=L.hH 1;have N:=L.hH 2
   go_upto_region 12 with fail
   have i:Bk (o.setCell (c_ gx 2) (i_ (f.n-1))) gx 168 #[i_ f.fr,i_ f.dst,i_ (f.n-1)]:=(L).hW 2 (i_ (f.n-1));have a:=(H).ih (p:=(c_ gx 2)) R (i_ (f.n-1));have d:=(T).ih (p:=(c_ gx 2)) aE (i_ (f.n-1));have s:=(bT).setCell (p:=(c_ gx 2)) (.inr bY) (i_ (f.n-1));clear aQ bj P K M N;obtain⟨b,v⟩:=nm_ (o.setCell (c_ gx 2) (i_ (f.n-1)));rw[<-v]at i a d s |-;clear v;have z0:=i.f_ 0;have aM:=i.f_ 1;have aV:=i.f_ 2;have k0:b.cell? (c_ g (k*3))=some (i_ f.fr):=(a.f_ _).trans (m 0 _ rfl);have bV:b.cell? (c_ g (k*3+1))=some (i_ f.dst):=(a.f_ _).trans (m 1 _ rfl);have bz:b.cell? (c_ g (k*3+2))=some (i_ f.n):=(a.f_ _).trans (m 2 _ rfl);have br:=a.hH (k*3);have bH:=a.hH (k*3+1);have b8:=a.hH (k*3+2);have bW:=d.f_ 0;have X:=d.hH 0
   have oN:Fs ((((b.setCell (c_ g (k*3)) (i_ f.fr)).setCell (c_ g (k*3+1)) (i_ f.dst)).setCell (c_ g (k*3+2)) (i_ (f.n-1)))) (j_ g) (l.set k ⟨f.fr,f.dst,f.n-1⟩):=by
    unfold Fs;exact r7 Fo.E oO az ⟨f.fr,f.dst,f.n-1⟩ _ _ _ rfl a t _ s_
   have n:=((d.ih (p:=(c_ g (k*3))) r (i_ f.fr)).ih (p:=(c_ g (k*3+1))) r (i_ f.dst)).ih (p:=(c_ g (k*3+2))) r (i_ (f.n-1));have au:Gr [gr] _ _:=(F_ [gr] ((((b.setCell (c_ g (k*3)) (i_ f.fr)).setCell (c_ g (k*3+1)) (i_ f.dst)).setCell (c_ g (k*3+2)) (i_ (f.n-1))))).setCell (p:=(c_ gr 0)) (.inl s_) (.slice (j_ g) l.length ai);have y:=((s.setCell (p:=(c_ g (k*3))) (.inr bA) (i_ f.fr)).setCell (p:=(c_ g (k*3+1))) (.inr bA) (i_ f.dst)).setCell (p:=(c_ g (k*3+2))) (.inr bA) (i_ (f.n-1))
   have iM:(li l fr dst).length=l.length:=by rw[aR.out];simp
   go_wp2;refine rr_ #[.slice (j_ g) l.length ai] (n.hW 0 (.slice (j_ g) l.length ai)) underlying96 ⟨some (c_ g 0),ai,by rw[iM],?_,by rw[iM];exact cj,y.jL au bg⟩;rw[aR.out,cp.out];unfold Fs;rw[ER]
   have G:Sl ((((b.setCell (c_ g (k*3)) (i_ f.fr)).setCell (c_ g (k*3+1)) (i_ f.dst)).setCell (c_ g (k*3+2)) (i_ (f.n-1)))) 168 3 (j_ g) l.length ((l.set k ⟨f.fr,f.dst,f.n-1⟩).flatMap Fo.E):=by have q:=oN;unfold Fs at q;rw[ER]at q;exact q
   exact Sl.iu G n d_ au
theorem yn(l:List Fo)(fr dst:Int)(w:World)(h:Fs w A l)(hn:l.length<=1000000000)(hb:∀f∈l, -1000<=f.n/\f.n<=1000):
 Calls prog 51 #[.agg #[.slice A l.length c],i_ fr,i_ dst] w (x6 (li l fr dst) w):=by
 cases x:o1 l fr with
 |false=>exact ym A c l fr dst w h hn x
 |true=>exact yl A c l fr dst w h hn x hb
def CC(l:List In)(hI hF x:Int):Prop:=mO l x=true/\jB l hI hF x=false/\ -1000000000<=x/\x<=1000000000
def B_(l:List In)(hI hF:Int)(w:World)(e:Ending)(w':World):Prop:=∃(A:OA) (d:Nat) (xs:List Int),e=.returned (.slice A xs.length d)/\Ns w' 3 A xs/\xs.length<=16/\(∀x∈xs,CC l hI hF x)/\Gr [] w w'
def roomOf(v:Value):Nat:=match v with
 | .slice _ n _=>16-n
 |_=>0
theorem y4(sA:OA)(sc:Nat)(fl:List Fo)(hS n:Int)(w:World)(h:Is w A l)(hn:l.length<=1000000000)(aj:Fs w sA fl)(z:fl.length<=1000000000)(i:∀f∈fl, -1000000000<=f.dst/\f.dst<=1000000000)(H: -1000000000<=hS)(bS:hS<=1000000000):
 Calls prog 53 #[.agg #[.slice A l.length c,i_ hI,i_ hF],.agg #[.slice sA fl.length sc],i_ hS,i_ n] w (B_ l hI hF w):=by
 obtain⟨bF,bE,bt,a8,bo⟩:=info_parts infoInt;obtain⟨D,C,I⟩:=qh w 26 #[.slice A l.length c,i_ hI,i_ hF] 96 #[.slice sA fl.length sc]
 go_enter func53,ntmps53
 go_upto_region 1 with fail
 obtain⟨bp,aK⟩:=nm_ ((w.alloc (.cells #[.slice A l.length c,i_ hI,i_ hF] 26)).alloc (.cells #[.slice sA fl.length sc] 96));rw[<-aK]at D C I |-;clear aK;obtain⟨L,S⟩:=nm_ w.heap.size;obtain⟨gs,E⟩:=nm_ (w.heap.size+1);rw[<-E]at C;rw[<-S]at D;rw[<-E,<-S];clear E S;go_wp2
 go_loopw [9,10,11] (λo a b wr=>∃(O:OA) (n0 bD:Nat) (xs:List Int) (x:Int) (bB:Bool),o=.slice O n0 bD/\a=i_ x/\b=.bool bB/\n0=xs.length/\n0<=16/\(∀y∈xs,CC l hI hF y)/\ -1000000000<=x/\x<=1000000000/\wr.ownsRow w.heap.size 3 1 (.slice O n0 bD) n0 (xs.map (Value.int .i64))/\Bk wr L 26 #[.slice A l.length c,i_ hI,i_ hF]/\Bk wr gs 96 #[.slice sA fl.length sc]/\Gr [] w wr) (λo _ _ _=>roomOf o)
 case atStart=>exact⟨none,0,0,[],hS,true,rfl,rfl,rfl,rfl,O_ _,(λy hy=>by cases hy),H,bS,iV _ _ _ _,D,C,I⟩
 case round=>
  clear D C I;obtain⟨O,n0,bD,xs,x,bB,rfl,rfl,rfl,hn0,v,R,bP,ck,aF,D,C,F⟩:=hrel;have ae:=h_ hn0;clear hn0
  cases bB with
  |false=>
   exact Js
  |true=>
   by_cases h1:(n0:Int)<n
   .by_cases h2:(n0:Int)<16
    .have U:=D.f_ 0;have ad:=D.f_ 1;have ar:=D.f_ 2
     cases hbg:mO l x with
     |false=>
      go_wp2_with (go_at_call 97;have af:=lV A c l hI hF x _ (h.hG F) hn bP ck;rw[hbg]at af;refine af.mono ?_;rintro e w1⟨rfl,hg1⟩)
      all_goals go_ret
      all_goals exact⟨O,bD,xs,by rw[<-ae.out];rfl,(by unfold Ns;rw[<-ae.out];exact Sl.iT (iK aF hg1)),(ov ae.out),R,F.trans hg1⟩
     |true=>
      cases m:jB l hI hF x with
      |true=>
       go_wp2_with (first|(go_at_call 97;have af:=lV A c l hI hF x _ (h.hG F) hn bP ck;rw[hbg]at af;refine af.mono ?_;rintro e w1⟨rfl,hg1⟩;have z0:=(D.hG hg1).f_ 0;have aM:=(D.hG hg1).f_ 1;have aV:=(D.hG hg1).f_ 2)|(go_at_call 83;have af:=lr A c l hI hF x _ (h.hG (F.trans hg1)) hn;rw[m]at af;refine af.mono ?_;rintro e w2⟨rfl,J⟩))
       all_goals go_ret
       all_goals exact⟨O,bD,xs,by rw[<-ae.out];rfl,(by unfold Ns;rw[<-ae.out];exact Sl.iT (iK aF (hg1.trans J))),(ov ae.out),R,(F.trans hg1).trans J⟩
      |false=>
       have p:=h_ hbg;have k:=h_ m
       go_upto_region 4 with(first|(go_at_call 97;have af:=lV A c l hI hF x _ (h.hG F) hn bP ck;rw[hbg]at af;refine af.mono ?_;rintro e w1⟨rfl,hg1⟩;have z0:=(D.hG hg1).f_ 0;have aM:=(D.hG hg1).f_ 1;have aV:=(D.hG hg1).f_ 2)|(go_at_call 83;have af:=lr A c l hI hF x _ (h.hG (F.trans hg1)) hn;rw[m]at af;refine af.mono ?_;rintro e w2⟨rfl,J⟩))
       clear hbg m z0 aM aV U ad ar;have au:Gr [] wr (w2.alloc (.cells #[i_ x] 3)):=(hg1.trans J).alloc _;have aY:=iK aF au;have aQ:Sl (w2.alloc (.cells #[i_ x] 3)) 3 1 (j_ w2.heap.size) 1 [i_ x]:=kN (s:=1) (P_ w2 3 #[i_ x]) rfl;have t:=(F.trans au).size;have q:=D.hG au;have r:=C.hG au
       go_upto_region 5 with(at_builtin;refine iL _ rfl (.tmp 36) (.tmp 38) 30 rfl w.heap.size 3 bF _ 1 8 underlying30 bE bt a8 bo rfl d_ d_ O n0 bD _ rfl aY _ 1 1 _ rfl aQ (by intro u hu;simp at hu;subst hu;rfl) o_ t ?_;intro av ai T aq ao;have j:=ao.bk q d_;have d:=ao.bk r d_;have B:=d.f_ 0)
       have aP:=ao.gr [] w (H_ _) (F.trans au)
       go_wp2_with (go_at_call 101;((with_reducible refine(yV sA sc fl x _ (aj.hG aP) z).mono ?_);rintro e Y⟨rfl,ah⟩))
       go_roundw
       case rel=>
        have g: -1000000000<=(if o1 fl x=true then(fl.getD (lq fl x) default).dst else 0)/\(if o1 fl x=true then(fl.getD (lq fl x) default).dst else 0)<=1000000000:=by
         split
         .rename_i ay
          have ag:=by unfold o1 at ay;simp at ay;exact ay.1
          have hm:fl.getD (lq fl x) default∈fl:=by rw[List.getD,M_ ag];exact N_ ag
          exact i _ hm
         .omega
        exact⟨av,n0+1,ai,xs++[x],_,_,rfl,rfl,rfl,by rw[J_,<-ae.out];rfl,o_,(λy hy=>by
         rcases X_.1 hy with h3|h3
         .exact R y h3
         .have:y=x:=zu h3
          subst this
          exact⟨p.out,k.out,bP,ck⟩),g.1,g.2,by rw[EL];exact iK aq ah,j.hG ah,d.hG ah,aP.trans ah⟩
       case measure=>simp[roomOf];omega
    .exact Js
   .exact Js
theorem pK(l:List Rw)(id f:Int)(w:World)(h:Os w A l)(hr:oa w l)(hn:l.length<=1000000000)(ay:jx (hY l) id f=none):
 Calls prog 148 #[.agg #[.slice A l.length c],i_ id,i_ f] w λe w'=>e=.returned (.tuple #[.agg #[.bool false,i_ 0],.bool false])/\Gr [] w w':=by
 have q:=ky A c l id f w h hr hn;rw[ay]at q;exact q
theorem oh(l:List Rw)(id f:Int)(v:Vl)(w:World)(h:Os w A l)(hr:oa w l)(hn:l.length<=1000000000)(ay:jx (hY l) id f=some v):
 Calls prog 148 #[.agg #[.slice A l.length c],i_ id,i_ f] w λe w'=>e=.returned (.tuple #[.agg #[.bool v.r,i_ v.n],.bool true])/\Gr [] w w':=by
 have q:=ky A c l id f w h hr hn;rw[ay]at q;exact q
def yh(h:List Ob)(c:Cl):Bool:=match jx h c.id c.f with
 |none=>true
 |some v=> !(v.r==c.v.r&&v.n==c.v.n)
def kM(h:List Ob)(l:List Cl):Option Cl:=l.find? (yh h)
theorem tU(d:OA)(cc:Nat)(cl:List Cl)(w:World)(o:mj w hA hc hl)(aP:hl.length<=1000000000)(D:Cs w d cl)(b8:cl.length<=1000000000):
 Calls prog 181 #[.agg #[.slice hA hl.length hc],.slice d cl.length cc] w λe w'=>e=.returned (.tuple #[.agg #[i_ ((kM (hY hl) cl).getD default).id,i_ ((kM (hY hl) cl).getD default).f,.bool ((kM (hY hl) cl).getD default).v.r,i_ ((kM (hY hl) cl).getD default).v.n],.bool (kM (hY hl) cl).isSome])/\Gr [] w w':=by
 obtain⟨hB,hR,I⟩:=qh w 35 #[.slice hA hl.length hc] 116 #[i_ 0,i_ 0,.bool false,i_ 0];have j:=h_ (show cl.length=cl.length from rfl);obtain⟨n,hn⟩:=nm_ cl.length;have aW:=h_ hn;rw[<-hn];rw[<-hn]at b8;clear hn
 go_enter func181,ntmps181
 go_upto_region 1 with fail
 obtain⟨bp,aK⟩:=nm_ ((w.alloc (.cells #[.slice hA hl.length hc] 35)).alloc (.cells #[i_ 0,i_ 0,.bool false,i_ 0] 116));rw[<-aK]at hB hR I |-;clear aK;obtain⟨a8,a2⟩:=nm_ w.heap.size;obtain⟨gr,Q⟩:=nm_ (w.heap.size+1);rw[<-Q]at hR;rw[<-a2]at hB;rw[<-Q,<-a2];have bg:w.heap.size<=gr:=o_;clear a2 Q;go_wp2
 go_loopw [12] (λi wr=>∃k:Nat,k<=n/\i=i_ k/\kM (hY hl) cl=(cl.drop k).find? (yh (hY hl))/\Bk wr a8 35 #[.slice hA hl.length hc]/\Bk wr gr 116 #[i_ 0,i_ 0,.bool false,i_ 0]/\Gr [] w wr) (λi _=>n-(intOf i).toNat)
 case atStart=>exact⟨0,O_ _,rfl,rfl,hB,hR,I⟩
 case round=>
  clear hB hR I;obtain⟨k,hk,rfl,aM,s,E,F⟩:=hrel;have bP:=h_ aM;clear aM
  by_cases ag:k<n
  .have az:k<cl.length:=by rw[<-aW.out];exact ag
   obtain⟨b,off,aT,bi,bq,bK,bT⟩:=(D.hG F).at_ az;subst aT;have b6:=R_ az;generalize cl[k]=x at*;obtain⟨aj,aB,xr,a⟩:=x;simp only at bi bq bK bT;have am:=h_ b6;clear b6;have aE:=(F_ [] wr).alloc (.cells #[i_ aj,i_ aB,.bool xr,i_ a] 116);have L:Bk (wr.alloc (.cells #[i_ aj,i_ aB,.bool xr,i_ a] 116)) wr.heap.size 116 #[i_ aj,i_ aB,.bool xr,i_ a]:=P_ wr _ _;have U:=(s.hG aE).f_ 0;have z:=o.hG F
   cases y:jx (hY hl) aj aB with
   |none=>
    have aX:=h_ (show kM (hY hl) cl=some ⟨aj,aB,⟨xr,a⟩⟩ by rw[bP.out,am.out,G0];unfold yh;simp only[y])
    go_wp2_with (go_at_call 148;have af:=pK hA hc hl aj aB _ (z.hG aE).os (z.hG aE).kZ aP y;refine af.mono ?_;rintro e ae⟨rfl,S⟩;have B:=((L.hG S).alloc (.cells #[.bool false,i_ 0] 38));have aF:=((E.hG aE).hG S).alloc (.cells #[.bool false,i_ 0] 38);have aq:=P_ ae 38 #[.bool false,i_ 0];have v0:=B.f_ 0;have v1:=B.f_ 1;have ce:=B.f_ 2;have v3:=B.f_ 3;have aw:=aq.f_ 0;have J:=aq.f_ 1;have bW:=aF.f_ 0;have r1:=aF.f_ 1;have r2:=aF.f_ 2;have r3:=aF.f_ 3;have s0:=aF.hH 0;have s1:=aF.hH 1;have b0:=aF.hH 2;have cv:=aF.hH 3)
    exact H0
   |some v=>
    obtain⟨c,h⟩:=v;have a6:=h_ (show yh (hY hl) ⟨aj,aB,⟨xr,a⟩⟩= !(c==xr&&h==a) by unfold yh;simp only[y])
    cases bn:(c==xr)with
    |false=>
     have aX:=h_ (show kM (hY hl) cl=some ⟨aj,aB,⟨xr,a⟩⟩ by rw[bP.out,am.out,G0];rw[a6.out,bn];rfl);exact Hx
    |true=>
     cases bI:(h==a)with
     |false=>
      have aX:=h_ (show kM (hY hl) cl=some ⟨aj,aB,⟨xr,a⟩⟩ by rw[bP.out,am.out,G0];rw[a6.out,bn,bI];rfl);exact Hx
     |true=>
      have aX:=h_ (show kM (hY hl) cl=(cl.drop (k+1)).find? (yh (hY hl)) by rw[bP.out,am.out,List.find?_cons_of_neg];rw[a6.out,bn,bI];decide)
      go_wp2_with (go_at_call 148;have af:=oh hA hc hl aj aB ⟨c,h⟩ _ (z.hG aE).os (z.hG aE).kZ aP y;refine af.mono ?_;rintro e ae⟨rfl,S⟩;have B:=((L.hG S).alloc (.cells #[.bool c,i_ h] 38));have aF:=((E.hG aE).hG S).alloc (.cells #[.bool c,i_ h] 38);have aq:=P_ ae 38 #[.bool c,i_ h];have ce:=B.f_ 2;have v3:=B.f_ 3;have aw:=aq.f_ 0;have J:=aq.f_ 1)
      go_roundw
      case rel=>exact⟨k+1,o_,gn,aX.out,((s.hG aE).hG S).alloc _,aF,((F.trans aE).trans S).alloc _⟩
      case measure=>exact mz
  .have bS:k=n:=o_;have aX:=h_ (show kM (hY hl) cl=none by rw[bP.out,bS,aW.out,List.drop_length];rfl);have bW:=E.f_ 0;have r1:=E.f_ 1;have r2:=E.f_ 2;have r3:=E.f_ 3;have s0:=E.hH 0;have s1:=E.hH 1;have b0:=E.hH 2;have cv:=E.hH 3;go_wp2;refine EX (v:=.tuple #[.agg #[i_ 0,i_ 0,.bool false,i_ 0],.bool false]) (iC (p:=4) (u:=5) rfl _ _ _ _ _ _ _ rfl (((((E.hW 0 (i_ 0)).hW 1 (i_ 0)).hW 2 (.bool false)).hW 3 (i_ 0))) underlying116 rfl k_) rfl ?_;rw[aX.out];exact⟨rfl,(((F.setCell (p:=(c_ gr 0)) (.inr bg) _).setCell (p:=(c_ gr 1)) (.inr bg) _).setCell (p:=(c_ gr 2)) (.inr bg) _).setCell (p:=(c_ gr 3)) (.inr bg) _⟩
theorem rE(o:mj w hA hc hl)(aP:hl.length<=1000000000)(ht:lb w t)(b8:t.rs.l.length<=1000000000):
 Calls prog 150 #[.agg #[.slice hA hl.length hc],.agg t.g_] w λe w'=>∃(a b:Int) (r:Bool) (n:Int),e=.returned (.tuple #[.agg #[i_ a,i_ b,.bool r,i_ n],.bool (kM (hY hl) t.rs.l).isNone])/\Gr [] w w':=by
 obtain⟨hB,O,hR,I⟩:=wt w 35 #[.slice hA hl.length hc] 53 t.g_ 116 #[i_ 0,i_ 0,.bool false,i_ 0]
 go_enter func150,ntmps150
 go_upto_region 1 with fail
 obtain⟨bp,aK⟩:=nm_ (((w.alloc (.cells #[.slice hA hl.length hc] 35)).alloc (.cells t.g_ 53)).alloc (.cells #[i_ 0,i_ 0,.bool false,i_ 0] 116));rw[<-aK]at hB O hR I |-;clear aK;obtain⟨a8,a2⟩:=nm_ w.heap.size;obtain⟨gt,C⟩:=nm_ (w.heap.size+1);obtain⟨gr,Q⟩:=nm_ (w.heap.size+1+1);rw[<-Q]at hR;rw[<-C]at O;rw[<-a2]at hB;rw[<-Q,<-C,<-a2];have bg:w.heap.size<=gr:=o_;clear a2 Q C;have U:=hB.f_ 0;have c:bp.cell? (c_ gt 37)=some (.slice t.rs.A t.rs.l.length t.rs.c):=(O.f_ 37).trans rfl
 cases aT:kM (hY hl) t.rs.l with
 |none=>
  obtain⟨x,hx⟩:=mn_ ((none:Option Cl).getD default)
  go_wp2_with (go_at_call 181;((with_reducible refine(tU hA hc hl t.rs.A t.rs.c t.rs.l _ (o.hG I) aP (ht.hG I).rs b8).mono ?_);rw[aT,hx];rintro e ae⟨rfl,S⟩;have aF:=(hR.hG S).alloc (.cells #[i_ x.id,i_ x.f,.bool x.v.r,i_ x.v.n] 116);have aq:=P_ ae 116 #[i_ x.id,i_ x.f,.bool x.v.r,i_ x.v.n];have aw:=aq.f_ 0;have J:=aq.f_ 1;have d:=aq.f_ 2;have cU:=aq.f_ 3;have bW:=aF.f_ 0;have r1:=aF.f_ 1;have r2:=aF.f_ 2;have r3:=aF.f_ 3;have s0:=aF.hH 0;have s1:=aF.hH 1;have b0:=aF.hH 2;have cv:=aF.hH 3))
  refine EX (v:=.tuple #[.agg #[i_ x.id,i_ x.f,.bool x.v.r,i_ x.v.n],.bool true]) (iC (p:=4) (u:=5) rfl _ _ _ _ _ _ _ rfl (((((aF.hW 0 (i_ x.id)).hW 1 (i_ x.f)).hW 2 (.bool x.v.r)).hW 3 (i_ x.v.n))) underlying116 rfl k_) rfl ?_;exact IM
 |some y=>
  obtain⟨x,hx⟩:=mn_ ((some y:Option Cl).getD default)
  go_wp2_with (go_at_call 181;((with_reducible refine(tU hA hc hl t.rs.A t.rs.c t.rs.l _ (o.hG I) aP (ht.hG I).rs b8).mono ?_);rw[aT,hx];rintro e ae⟨rfl,S⟩;have aF:=(hR.hG S).alloc (.cells #[i_ x.id,i_ x.f,.bool x.v.r,i_ x.v.n] 116);have aq:=P_ ae 116 #[i_ x.id,i_ x.f,.bool x.v.r,i_ x.v.n];have aw:=aq.f_ 0;have J:=aq.f_ 1;have d:=aq.f_ 2;have cU:=aq.f_ 3;have bW:=aF.f_ 0;have r1:=aF.f_ 1;have r2:=aF.f_ 2;have r3:=aF.f_ 3;have s0:=aF.hH 0;have s1:=aF.hH 1;have b0:=aF.hH 2;have cv:=aF.hH 3))
  refine EX (v:=.tuple #[.agg #[i_ x.id,i_ x.f,.bool x.v.r,i_ x.v.n],.bool false]) (iC (p:=4) (u:=5) rfl _ _ _ _ _ _ _ rfl (((((aF.hW 0 (i_ x.id)).hW 1 (i_ x.f)).hW 2 (.bool x.v.r)).hW 3 (i_ x.v.n))) underlying116 rfl k_) rfl ?_;exact IM
end Go.Proofs.YtenbhdilndfaeaaGreat
