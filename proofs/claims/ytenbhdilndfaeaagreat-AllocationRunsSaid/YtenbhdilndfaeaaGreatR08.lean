import Derived.Test.YtenbhdilndfaeaaGreatR04
import Derived.Test.YtenbhdilndfaeaaGreatR07
set_option maxRecDepth 100000
set_option maxHeartbeats 0
set_option linter.all false
namespace Go.Proofs.YtenbhdilndfaeaaGreat
open Go.RowKit Go.Proofs.Tryz
variable{G:Prop}{w:World}{k:Nat}(A:OA)(c:Nat)(l:List Cl)(d:Dl)(h:List Ob)(t:Tk)
def IP(h:G:=by
 go_wp2_with (at_builtin;refine iJ _ rfl (.tmp 26) (.tmp 28) 50 rfl (w.heap.size+1) 116 bC _ 4 32 underlying50 bv bw aZ bg rfl I I A' n' c' _ rfl aQ _ 1 1 _ rfl ap (p9 [x]) X t ?_;intro aD am w2 aV V;have bE:=V.bk hB I)
 go_roundw
 case rel=>exact⟨k+1,aD,am,n'+1,X,gn,rfl,by rw[aO.out];simp[aW.out],by rw[aO.out];simpa[F2]using aV,bE,G_ t V.size,V.gr [] w X bP⟩
 case measure=>exact mz):G:=h
def I4(h:G:=by
 go_wp2;have hE:=M.hN 0 (.slice aK f.length aJ);refine rr_ #[.slice aK f.length aJ] hE underlying35 ⟨aK,aJ,f,rfl,?_,?_,?_⟩
 .exact a6.ir M I I ((H _ _).setCell (.inl s_) _)
 .rw[aW.out,j.out,q.out,aQ.out,bI.out,G9]
 .exact(K.trans az).setCell (.inr (by first|(simp;done)|(simp;omega)|omega)) _):G:=h
def J5(h:G:=by
 have hl:x*2+1<(jP t.nw.l).length:=by rw[nJ];omega
 have:=MM.out _ _ (L_ hl)
 rcases FO (x*2+1) f.size with h|h
 .exact h
 .exact MI):G:=h
def LT(h:G:=by
 show Sl c7 56 2 (j_ d) (t.nw.l.set x _).length _
 rw[FV];exact ap.ir k I aM):G:=h
def ui(P:i6)(w:World)(e:Ending)(w':World):Prop:=∃t:Tk,e=.returned (.agg t.g8)/\ln w' t/\t.p=P/\J [] w w'
def Bk.uy{p q:Nat}{t:TypeId}{cs:Array Value}(h:Bk w p t cs)(e:p≠q)(i f:Nat)(a b:Value):Bk ((w.setCell (Z q i) a).setCell (Z q f) b) p t cs:=(h.ib (p:=(Z q i)) e a).ib (p:=(Z q f)) e b
def J.two{b:List Nat}{a:World}(h:J b a w){q:Nat}(V:q∈b∨a.heap.size<=q)(i e:Nat)(x y:Value):J b a ((w.setCell (Z q i) x).setCell (Z q e) y):=(h.setCell (p:=(Z q i)) V x).setCell (p:=(Z q e)) V y
def tx:116≠53/\56≠53/\38≠53/\124≠53/\162≠53:=by decide
def xq(c:Cl)(w:World)(j:ln w t)(N:t.nw.l.length<=1000000000)(F:t.ws.l.length<=1000000000)(L:jn (hU t.nw.l) c.id<0):
 Calls prog 132 #[.agg t.g8,.agg #[Y c.id,Y c.f,.bool c.v.r,Y c.v.n]] w (ui (iO t.p c) w):=by
 obtain⟨f,b,r,v⟩:=xj w 53 t.g8 116 #[Y c.id,Y c.f,.bool c.v.r,Y c.v.n] 53 lK;have E:=O (show iO t.p c={t.p with ws:=ka t.ws.l c} by unfold iO;rw[O_ (by exact L)];rfl);have z:=O (show jn (hU t.nw.l) c.id= -1 by have:=nA (λS:Ob=>S.id==c.id) (hU t.nw.l) 0;unfold jn at L |-;omega);clear L;have U:=b.f_ 0
 go_enter func132,ntmps132
 go_wp2_with (first|(refine k5 y underlying53 ?_)|(refine k5 f underlying53 ?_)|(go_at_call 128;((with_reducible refine(o7 t c.id _ (j.g_ v) N).mono ?_);rintro P C⟨rfl,i⟩;rw[z.out];replace f:=f.g_ i;replace b:=b.g_ i;replace r:=r.g_ i;have W:=b.f_ 0;have c1:=b.f_ 1;have V:=b.f_ 2;have T:=b.f_ 3;have M:C.cell? (Z w.heap.size 38)=some (.slice t.ws.A t.ws.l.length t.ws.c):=(f.f_ 38).trans rfl;have s:=v.trans i))|(go_at_call 98;((with_reducible refine(rR t.ws.A t.ws.c t.ws.l c (j.g_ s).ws F).mono ?_);unfold sO;rintro P o⟨e,d,rfl,B,K,q⟩;have u:=s.trans q;have J:=j.g_ u;have g:=f.g_ q;have M:o.cell? (Z w.heap.size 38)=some (.slice t.ws.A t.ws.l.length t.ws.c):=(g.f_ 38).trans rfl;have X:=g.hm 38;have y:Bk (o.setCell (Z w.heap.size 38) (.slice e (ka t.ws.l c).length d)) w.heap.size 53 ({t with ws:=⟨e,d,ka t.ws.l c⟩}:Tk).g8:=g.hN 38 _;have m:=(r.g_ q).ib (p:=(Z w.heap.size 38)) sd_ (.slice e (ka t.ws.l c).length d)))|(refine kZ (({t with ws:=⟨e,d,ka t.ws.l c⟩}:Tk).g8) m (Tk.one _) ?_;intro D R n))
 refine rr_ ({t with ws:=⟨e,d,ka t.ws.l c⟩}:Tk).g8 R underlying53 ?_;unfold ui;rw[E.out];have x:=(H [w.heap.size] o).setCell (p:=(Z w.heap.size 38)) (.inl s_) (.slice e (ka t.ws.l c).length d);have Q:=(Sl.ir (Sl.ir B g I x) m I n:Cs D e (ka t.ws.l c));have a:=(J.ir g tx x).ir m tx n;refine⟨_,rfl,⟨a.gs,a.rs,Q,a.nw,a.nr,a.ds,a.hW,a.yK,a.lD,K,a.tN,a.sJ,a.qc⟩,rfl,?_⟩;exact(u.setCell (.inr s_) _).hA n p_
def xt(c:Cl)(x:Nat)(w:World)(N:ln w t)(bf:t.nw.l.length<=1000000000)(L:jn (hU t.nw.l) c.id=x):
 Calls prog 132 #[.agg t.g8,.agg #[Y c.id,Y c.f,.bool c.v.r,Y c.v.n]] w (ui (iO t.p c) w):=by
 obtain⟨bC,bv,bw,aZ,bg⟩:=info_parts infoVl;obtain⟨i1,bJ,bY,bZ,ca⟩:=info_parts infoOb;obtain⟨n,y,D,MR⟩:=xj w 53 t.g8 116 #[Y c.id,Y c.f,.bool c.v.r,Y c.v.n] 53 lK
 have U:=by have:=nA (λo:Ob=>o.id==c.id) (hU t.nw.l) 0;unfold jn at L;rw[L]at this;simpa[hU]using this
 have aQ:=O (show iO t.p c={t.p with nw:=(hU t.nw.l).set x (qz t.nw.l[x].o c.f c.v)} by
  unfold iO;have V:jn t.p.nw c.id=(x:Int):=L;rw[I_ X,V,F0];congr 1;apply HP;intro u
  show((hU t.nw.l).modify x _)[u]?=_
  rw[H3,HB]
  by_cases V:x=u
  .subst V
   have:x<(hU t.nw.l).length:=by rw[hZ];exact U
   simp[this];simp[hU]
  .simp[V])
 have al:=O L;clear L;have aJ:=N.nr;have ah:=M_ U;have bo:=(aJ _ ah).2;obtain⟨a,hr⟩:=mn_ (t.nw.l[x]);rw[hr]at aQ ah bo;have bA:=O hr;clear hr;have bK:Sl w 56 2 t.nw.A t.nw.l.length (jP t.nw.l):=N.nw;have bQ:(x:Int)<(t.nw.l.length:Int):=X;have aT:=y.f_ 0
 go_enter func132,ntmps132
 go_upto_region 8 with(first|(refine k5 n underlying53 ?_)|(go_at_call 128;((with_reducible refine(o7 t c.id _ (N.g_ MR) bf).mono ?_);rintro V an⟨rfl,S⟩;rw[al.out];replace n:=n.g_ S;replace y:=y.g_ S;replace D:=D.g_ S;have bT:an.cell? (Z w.heap.size 39)=some (.slice t.nw.A t.nw.l.length t.nw.c):=(n.f_ 39).trans rfl;have aA:=MR.trans S;have bh:=bK.g_ aA;have bm:=aA.size))|(at_builtin;refine iJ _ rfl (.const (n_)) (.tmp 20) 33 rfl w.heap.size 56 i1 _ 2 32 underlying33 bJ bY bZ ca rfl I I none 0 0 [] rfl (iY _ _ _ _) t.nw.A t.nw.l.length t.nw.c _ rfl bh (j7 _) X bm ?_;intro a7 b j R W;simp only[W_,FU]at R;obtain⟨d,f,au,MN,M,aW⟩:=kS R X;subst au;have bd:=W.gr [] w (H_ _) aA;replace n:=W.bk n I;replace y:=W.bk y I;replace D:=W.bk D I;have ay:=Bk.me M n I;have bU:=n.hm 39;replace bT:j.cell? (Z w.heap.size 39)=some (.slice t.nw.A t.nw.l.length t.nw.c):=(n.f_ 39).trans rfl;have bi:Sl j 56 2 (j_ d) t.nw.l.length (t.nw.l.flatMap Rw.E):=Sl.iQ R;have b5:Bk (j.setCell (Z w.heap.size 39) (.slice (j_ d) t.nw.l.length b)) w.heap.size 53 ({t with nw:=⟨some (Z d 0),b,t.nw.l⟩}:Tk).g8:=n.hN 39 _;have bO:=M.lt;replace M:=M.ib (p:=(Z w.heap.size 39)) ay (.slice (j_ d) t.nw.l.length b);have bk:=y.ib (p:=(Z w.heap.size 39)) sd_ (.slice (j_ d) t.nw.l.length b);have aL:=D.ib (p:=(Z w.heap.size 39)) sd_ (.slice (j_ d) t.nw.l.length b);have MS:=Sl.Cj xM (bi.ir n I ((H [w.heap.size] j).setCell (p:=(Z w.heap.size 39)) (.inl s_) (.slice (j_ d) t.nw.l.length b))) U;rw[bA.out]at MS;have r0:(j.setCell (Z w.heap.size 39) (.slice (j_ d) t.nw.l.length b)).cell? (Z d (x*2))=some (Y a.o.id):=MS 0 _ rfl;have r1:=MS 1 _ rfl;clear MS;have aq:(j.setCell (Z w.heap.size 39) (.slice (j_ d) t.nw.l.length b)).cell? (Z w.heap.size 39)=some (.slice (j_ d) t.nw.l.length b):=(b5.f_ 39).trans rfl;replace bd:=bd.setCell (p:=(Z w.heap.size 39)) (.inr s_) (.slice (j_ d) t.nw.l.length b);have az:Bk ((j.setCell (Z w.heap.size 39) (.slice (j_ d) t.nw.l.length b)).alloc (.cells #[Y a.o.id,.slice a.A a.o.fs.length a.c] 56)) j.heap.size 56 #[Y a.o.id,.slice a.A a.o.fs.length a.c]:=(by simpa[World.setCell]using Q_ (j.setCell (Z w.heap.size 39) (.slice (j_ d) t.nw.l.length b)) 56 #[Y a.o.id,.slice a.A a.o.fs.length a.c]);have ce:=bd.alloc (.cells #[Y a.o.id,.slice a.A a.o.fs.length a.c] 56);have o1:=az.f_ 1;have aR:=((aJ a ah).1.g_ ce:Sl _ 38 2 a.A a.o.fs.length (jd a.o.fs));have bn:=ce.size;clear aA bh bm S)|(at_builtin;refine iJ _ rfl (.const (n_)) (.tmp 29) 54 rfl w.heap.size 38 bC _ 2 16 underlying54 bv bw aZ bg rfl I I none 0 0 [] rfl (iY _ _ _ _) a.A a.o.fs.length a.c _ rfl aR (nE _) X bn ?_;intro g e aH bX v;simp only[W_,FU]at bX;have ag:=v.gr [] w (H_ _) ce;have a8:=v.bk (b5.alloc (.cells #[Y a.o.id,.slice a.A a.o.fs.length a.c] 56)) I;have cf:=v.bk (bk.alloc (.cells #[Y a.o.id,.slice a.A a.o.fs.length a.c] 56)) I;have br:=v.bk (aL.alloc (.cells #[Y a.o.id,.slice a.A a.o.fs.length a.c] 56)) I;have r:=v.bk (M.alloc (.cells #[Y a.o.id,.slice a.A a.o.fs.length a.c] 56)) I;have A:=v.bk az I;have o1:=A.f_ 1;have bB:=A.hm 1;have b9:=D.lt;have aF:=a8.ib (p:=(Z j.heap.size 1)) sd_ (.slice g a.o.fs.length e);have C:=cf.ib (p:=(Z j.heap.size 1)) sd_ (.slice g a.o.fs.length e);have ar:=br.ib (p:=(Z j.heap.size 1)) sd_ (.slice g a.o.fs.length e);have cF:=r.ib (p:=(Z j.heap.size 1)) sd_ (.slice g a.o.fs.length e);have K:=A.hN 1 (.slice g a.o.fs.length e);have bx:=ag.setCell (p:=(Z j.heap.size 1)) (.inr (show w.heap.size<=j.heap.size by omega)) (.slice g a.o.fs.length e);have aC:=C.f_ 1;have aw:=C.f_ 2;have bE:=C.f_ 3;have ai:=K.f_ 0;have aj:=K.f_ 1;have cb:=(H [j.heap.size] aH).setCell (p:=(Z j.heap.size 1)) (.inl s_) (.slice g a.o.fs.length e);clear bT bU b5 bk aL M az aR bn ce bd r0 r1 aq y D a8 cf br r))
 have b8:=kQ bX A I cb;have MM:=O (show ∀(u:Nat) (cc:Value),(jP t.nw.l)[u]?=some cc->f[u]?=some cc from aW);have ao:=jk R;clear aW bX v R W n ay bi ag MR cb A aJ ah bw aZ bg bv bJ bY bZ ca
 go_cut [6,42] (λch ci z=>∃(cj d b:Nat) (f:Array Value) (g:OA) (e:Nat),ch=q_ cj/\ci=.bool (decide (0<=c.f/\c.f<(a.o.fs.length:Int)))/\Bk z w.heap.size 53 ({t with nw:=⟨some (Z d 0),b,t.nw.l⟩}:Tk).g8/\Bk z (w.heap.size+1) 116 #[Y c.id,Y c.f,.bool c.v.r,Y c.v.n]/\Bk z (w.heap.size+1+1) 53 lK/\Bk z d 56 f/\(∀(u:Nat) (cc:Value),(jP t.nw.l)[u]?=some cc->f[u]?=some cc)/\Bk z cj 56 #[Y a.o.id,.slice g a.o.fs.length e]/\z.ownsRow w.heap.size 38 2 (.slice g a.o.fs.length e) a.o.fs.length (jd a.o.fs)/\w.heap.size+1+1<cj/\w.heap.size<=d/\d≠cj/\t.nw.l.length<=b/\J [] w z)
 case first=>
  have m:∀(i:Bool),i=decide (0<=c.f/\c.f<(a.o.fs.length:Int))->Value.bool i=.bool (decide (0<=c.f/\c.f<(a.o.fs.length:Int))):=λi s=>by rw[s]
  by_cases P:0<=c.f
  .by_cases ck:c.f<(a.o.fs.length:Int)
   .go_wp2;go_meet;exact⟨j.heap.size,d,b,f,g,e,rfl,m _ (by simp[P,ck]),aF,C,ar,cF,MM.out,K,b8,b9,MN,X,ao,bx⟩
   .have B:decide (c.f<(a.o.fs.length:Int))=false:=zu ck;go_wp2;go_meet;exact⟨j.heap.size,d,b,f,g,e,rfl,m _ (by simp[P]),aF,C,ar,cF,MM.out,K,b8,b9,MN,X,ao,bx⟩
  .have B:decide (0<=c.f)=false:=zu P;go_wp2;go_meet;exact⟨j.heap.size,d,b,f,g,e,rfl,m _ (s_),aF,C,ar,cF,MM.out,K,b8,b9,MN,X,ao,bx⟩
 case rest=>
  clear o1 bB aF C ar cF MM K b8 b9 MN ao bx bO aC aw bE ai aj aT;obtain⟨cj,d,b,f,g,e,rfl,rfl,l,cl,T,s,aY,F,cX,b3,ak,b6,aV,be⟩:=hcut;have MM:=O aY;clear aY;have bu:=Bk.me s l I;have bq:=(Bk.me s T I).symm
  by_cases jQ:0<=c.f/\c.f<(a.o.fs.length:Int)
  .have am:=FX jQ;rw[am];obtain⟨P,ck⟩:=jQ;obtain⟨m,b0,aN,bM,r,aX⟩:=kS cX X;subst aN;have cm:c.f.toNat<a.o.fs.length:=X;have bL:¬(a.o.fs.length:Int)<=c.f:=X;clear am;have bz:=O aX;clear aX;have aK:=Sl.Cj (E:=Vl.E) (λ_=>rfl) (Sl.iQ cX) cm;have v0:wc.cell? (Z m (c.f.toNat*2))=some _:=aK 0 _ rfl;have v1:wc.cell? (Z m (c.f.toNat*2+1))=some _:=aK 1 _ rfl;clear aK;have bH:=r.hm (c.f.toNat*2);have bI:=r.hm (c.f.toNat*2+1);have aC:=cl.f_ 1;have aw:=cl.f_ 2;have bE:=cl.f_ 3;have ai:=F.f_ 0;have aj:=F.f_ 1;have bV:=(Bk.me r l I).symm;have bS:=(Bk.me r T I).symm;have bW:=(Bk.me r F I).symm;have bR:=(Bk.me r s I).symm
   go_upto_region 10 with fail
   have aB:=l.uy bV (c.f.toNat*2) (c.f.toNat*2+1) (.bool c.v.r) (Y c.v.n);have aP:=T.uy bS (c.f.toNat*2) (c.f.toNat*2+1) (.bool c.v.r) (Y c.v.n);have av:=F.uy bW (c.f.toNat*2) (c.f.toNat*2+1) (.bool c.v.r) (Y c.v.n);have B:=s.uy bR (c.f.toNat*2) (c.f.toNat*2+1) (.bool c.v.r) (Y c.v.n);have aS:=qX Vl.E (λ_=>rfl) cm c.v _ _ rfl r bz.out _ rfl;have a2:=be.two (.inr bM) (c.f.toNat*2) (c.f.toNat*2+1) (.bool c.v.r) (Y c.v.n);obtain⟨ae,b4⟩:=nm_ ((wc.setCell (Z m (c.f.toNat*2)) (.bool c.v.r)).setCell (Z m (c.f.toNat*2+1)) (Y c.v.n));rw[<-b4]at aB aP av B aS a2 |-;clear b4 v0 v1 bH bI l T F s r cX cl aC aw bE ai aj;have aq:ae.cell? (Z w.heap.size 39)=some (.slice (j_ d) t.nw.l.length b):=(aB.f_ 39).trans rfl;have b7:=av.f_ 0;have cg:=av.f_ 1;have dC:x*2+1<f.size:=J5;have r0:ae.cell? (Z d (x*2))=some f[x*2]:=(B.f_ (x*2)).trans (FM X);have r1:ae.cell? (Z d (x*2+1))=some f[x*2+1]:=(B.f_ (x*2+1)).trans (FM X);have bD:=B.hm (x*2);have bF:=B.hm (x*2+1);have aD:=aB.uy bu.symm (x*2) (x*2+1) (Y a.o.id) (.slice (j_ m) a.o.fs.length e);have k:=aP.uy bq (x*2) (x*2+1) (Y a.o.id) (.slice (j_ m) a.o.fs.length e);have ap:=qX Rw.E xM U (⟨⟨a.o.id,(a.o.fs.set c.f.toNat c.v)⟩,(j_ m),e⟩:Rw) (Y a.o.id) (.slice (j_ m) a.o.fs.length e) (by simp[Rw.E]) B MM.out _ rfl;have aI:=aS.ir B I ((H [d] _).two (q:=d) (.inl s_) (x*2) (x*2+1) (Y a.o.id) (.slice (j_ m) a.o.fs.length e));have bt:=a2.two (.inr ak) (x*2) (x*2+1) (Y a.o.id) (.slice (j_ m) a.o.fs.length e)
   go_wp2_with (first|(refine k5 aD underlying53 ?_)|(refine kZ (({t with nw:=⟨some (Z d 0),b,t.nw.l⟩}:Tk).g8) k (Tk.one _) ?_;intro c7 G aM))
   have cn:({t with nw:=⟨some (Z d 0),b,t.nw.l.set x ⟨⟨a.o.id,(a.o.fs.set c.f.toNat c.v)⟩,(j_ m),e⟩⟩}:Tk).g8=({t with nw:=⟨some (Z d 0),b,t.nw.l⟩}:Tk).g8:=by simp[Tk.g8]
   rw[<-cn]at G;refine rr_ ({t with nw:=⟨some (Z d 0),b,t.nw.l.set x ⟨⟨a.o.id,(a.o.fs.set c.f.toNat c.v)⟩,(j_ m),e⟩⟩}:Tk).g8 G underlying53 ?_;unfold ui;rw[aQ.out];have Q:=bt.hA aM p_;have i:=N.g_ Q;have aG:=aI.ir k I aM;refine⟨({t with nw:=⟨some (Z d 0),b,t.nw.l.set x ⟨⟨a.o.id,(a.o.fs.set c.f.toNat c.v)⟩,(j_ m),e⟩⟩}:Tk),rfl,⟨i.gs,i.rs,i.ws,?_,?_,i.ds,i.hW,i.yK,i.lD,i.vU,?_,i.sJ,i.qc⟩,?_,Q⟩
   .exact LT
   .exact i.nr.hN (by have:=aG;unfold Vs;rw[FV];exact this) (by rw[FV];exact bo)
   .show(t.nw.l.set x _).length<=b
    rw[FV];exact aV
   .show({t.p with nw:=hU (t.nw.l.set x _)}:i6)=_
    rw[vu];unfold qz;rw[O_ ⟨P,ck⟩]
  .have am:=GH jQ;rw[am];have ai:=F.f_ 0;have aj:=F.f_ 1;have m:Vs wc g a.o.fs:=Sl.iQ cX;have aq:wc.cell? (Z w.heap.size 39)=some (.slice (j_ d) t.nw.l.length b):=(l.f_ 39).trans rfl;have dC:x*2+1<f.size:=J5;have r0:wc.cell? (Z d (x*2))=some f[x*2]:=(s.f_ (x*2)).trans (FM X);have r1:wc.cell? (Z d (x*2+1))=some f[x*2+1]:=(s.f_ (x*2+1)).trans (FM X);have bD:=s.hm (x*2);have bF:=s.hm (x*2+1);have aD:=l.uy bu.symm (x*2) (x*2+1) (Y a.o.id) (.slice g a.o.fs.length e);have k:=T.uy bq (x*2) (x*2+1) (Y a.o.id) (.slice g a.o.fs.length e);have ap:=qX Rw.E xM U (⟨⟨a.o.id,a.o.fs⟩,g,e⟩:Rw) (Y a.o.id) (.slice g a.o.fs.length e) (by simp[Rw.E]) s MM.out _ rfl;have aI:=m.ir s I ((H [d] _).two (q:=d) (.inl s_) (x*2) (x*2+1) (Y a.o.id) (.slice g a.o.fs.length e));have bt:=be.two (.inr ak) (x*2) (x*2+1) (Y a.o.id) (.slice g a.o.fs.length e)
   go_wp2_with (first|(refine k5 aD underlying53 ?_)|(refine kZ (({t with nw:=⟨some (Z d 0),b,t.nw.l⟩}:Tk).g8) k (Tk.one _) ?_;intro c7 G aM))
   have cn:({t with nw:=⟨some (Z d 0),b,t.nw.l.set x ⟨⟨a.o.id,a.o.fs⟩,g,e⟩⟩}:Tk).g8=({t with nw:=⟨some (Z d 0),b,t.nw.l⟩}:Tk).g8:=by simp[Tk.g8]
   rw[<-cn]at G;refine rr_ ({t with nw:=⟨some (Z d 0),b,t.nw.l.set x ⟨⟨a.o.id,a.o.fs⟩,g,e⟩⟩}:Tk).g8 G underlying53 ?_;unfold ui;rw[aQ.out];have Q:=bt.hA aM p_;have i:=N.g_ Q;have aG:=aI.ir k I aM;refine⟨({t with nw:=⟨some (Z d 0),b,t.nw.l.set x ⟨⟨a.o.id,a.o.fs⟩,g,e⟩⟩}:Tk),rfl,⟨i.gs,i.rs,i.ws,?_,?_,i.ds,i.hW,i.yK,i.lD,i.vU,?_,i.sJ,i.qc⟩,?_,Q⟩
   .exact LT
   .exact i.nr.hN (by exact aG) (by exact bo)
   .show(t.nw.l.set x _).length<=b
    rw[FV];exact aV
   .show({t.p with nw:=hU (t.nw.l.set x _)}:i6)=_
    rw[vu];unfold qz;rw[I_ jQ]
def sa(c:Cl)(a:ln w t)(b:t.nw.l.length<=1000000000)(f:t.ws.l.length<=1000000000):
 Calls prog 132 #[.agg t.g8,.agg #[Y c.id,Y c.f,.bool c.v.r,Y c.v.n]] w (ui (iO t.p c) w):=by
 by_cases e:jn (hU t.nw.l) c.id<0
 .exact xq t c w a b f e
 .exact xt t c (jn (hU t.nw.l) c.id).toNat w a b (GF X).symm
def vk(e:k<l.length)(b:Bool)(a:(l[k].id !=d.id||l[k].f !=d.f)=b):jB (l.take (k+1)) d=if b=true then jB (l.take k) d++[l[k]] else jB (l.take k) d:=by
 unfold jB;rw[X_ e,HM]
 cases b with
 |true=>rw[O_ rfl];simp[a]
 |false=>rw[I_ s_];simp[a]
def qC:(jB l d).length<=l.length:=F7 _ _
def sd(h:Cs w A l)(hn:l.length<=1000000000):
 Calls prog 127 #[.slice A l.length c,.agg #[Y d.id,Y d.f,Y d.op,.bool d.v.r,Y d.v.n]] w (sO (jB l d) w):=by
 obtain⟨bC,bv,bw,aZ,bg⟩:=info_parts infoCl;have hB:=Q_ w 124 #[Y d.id,Y d.f,Y d.op,.bool d.v.r,Y d.v.n];have o:=(H [] w).alloc (.cells #[Y d.id,Y d.f,Y d.op,.bool d.v.r,Y d.v.n] 124);have B:=O (show jB l d=jB (l.take l.length) d by rw[G9])
 go_enter func127,ntmps127
 go_wp2
 go_loopw [5,10] (λF m wr=>∃(k:Nat) (A':OA) (c' n':Nat),k<=l.length/\m=Y k/\F=.slice A' n' c'/\n'=(jB (l.take k) d).length/\wr.ownsRow (w.heap.size+1) 116 4 (.slice A' n' c') n' ((jB (l.take k) d).flatMap Cl.E)/\Bk wr w.heap.size 124 #[Y d.id,Y d.f,Y d.op,.bool d.v.r,Y d.v.n]/\w.heap.size+1<=wr.heap.size/\J [] w wr) (λ_ m _=>l.length-(intOf m).toNat)
 case atStart=>exact⟨0,none,0,0,P_ _,rfl,rfl,rfl,iY _ _ _ _,hB,s_,o⟩
 case round=>
  clear hB o;obtain⟨k,A',c',n',hk,rfl,rfl,v,f,hB,Z,b⟩:=hrel;have aW:=O v
  have T:n'<=1000000000:=by
   have:=qC (l.take k) d
   rw[Gd]at this;omega
  clear v
  by_cases p:k<l.length
  .have z:(k:Int)<(l.length:Int):=X;obtain⟨Q,off,y,U,W,R,S⟩:=(h.g_ b).at_ p;rw[y]
   have r:=λC D=>vk l d p C D
   have j:=O r;clear r;generalize l[k]=x at*;have E:=hB;have e:=Q_ wr 116 #[Y x.id,Y x.f,.bool x.v.r,Y x.v.n];replace hB:=hB.alloc (.cells #[Y x.id,Y x.f,.bool x.v.r,Y x.v.n] 116);have K:=e.f_ 0;have P:=e.f_ 1;have L:=e.f_ 2;have N:=e.f_ 3;have z0:=hB.f_ 0;have M:=hB.f_ 1;have aQ:=iF f ((((H [] wr).alloc (.cells #[Y x.id,Y x.f,.bool x.v.r,Y x.v.n] 116))).alloc (.cells #[Y x.id,Y x.f,.bool x.v.r,Y x.v.n] 116));have u:(wr.alloc (.cells #[Y x.id,Y x.f,.bool x.v.r,Y x.v.n] 116)).heap.size=wr.heap.size+1:=s_;have ap:Sl ((wr.alloc (.cells #[Y x.id,Y x.f,.bool x.v.r,Y x.v.n] 116)).alloc (.cells #[Y x.id,Y x.f,.bool x.v.r,Y x.v.n] 116)) 116 4 (j_ (wr.heap.size+1)) 1 ([x].flatMap Cl.E):=u▸kV (s:=4) (Q_ (wr.alloc (.cells #[Y x.id,Y x.f,.bool x.v.r,Y x.v.n] 116)) 116 #[Y x.id,Y x.f,.bool x.v.r,Y x.v.n]) rfl;clear u;have t:w.heap.size+1<=((wr.alloc (.cells #[Y x.id,Y x.f,.bool x.v.r,Y x.v.n] 116)).alloc (.cells #[Y x.id,Y x.f,.bool x.v.r,Y x.v.n] 116)).heap.size:=p_;replace hB:=hB.alloc (.cells #[Y x.id,Y x.f,.bool x.v.r,Y x.v.n] 116);have bP:=(b.alloc (.cells #[Y x.id,Y x.f,.bool x.v.r,Y x.v.n] 116)).alloc (.cells #[Y x.id,Y x.f,.bool x.v.r,Y x.v.n] 116)
   by_cases a:x.id=d.id
   .have g:(x.id !=d.id)=false:=zu a
    by_cases i:x.f=d.f
    .have n:(x.f !=d.f)=false:=zu i;have aO:=O (j.out false (by rw[g,n];rfl));clear a i;go_wp2;go_roundw
     case rel=>exact⟨k+1,A',c',n',X,gn,rfl,by rw[aO.out];simpa using aW.out,by rw[aO.out];exact iF f ((H [] wr).alloc _),E.alloc _,p_,b.alloc _⟩
     case measure=>exact mz
    .have n:(x.f !=d.f)=true:=zu i;have aO:=O (j.out true (by rw[g,n];rfl));clear a i;exact IP
   .have g:(x.id !=d.id)=true:=zu a;have aO:=O (j.out true (by rw[g];rfl));clear a;exact IP
  .have z:¬(k:Int)<(l.length:Int):=X;have a:=O (show k=l.length by omega);go_wp2;go_ret;unfold sO;rw[B.out,<-a.out,<-aW.out];refine⟨A',c',rfl,?_,jk f,b⟩
   have:=Sl.iQ f
   unfold Cs;rw[<-aW.out];exact this
def nu(t:i6):i6:={t with hT:=4,hw:=t.hw+1}
def ud(m:ln w t)(h0:0<=t.hw)(x:t.hw<=1000000000):
 Calls prog 80 #[.agg t.g8] w (ui (nu t.p) w):=by
 obtain⟨b,j,e⟩:=qL w 53 t.g8 53 lK
 go_enter func80,ntmps80
 go_upto_region 1 with fail
 obtain⟨g,i⟩:=nm_ ((w.alloc (.cells t.g8 53)).alloc (.cells lK 53));rw[<-i]at b j e |-;clear i;have c:Bk _ w.heap.size 53 ({t with hT:=4,hw:=t.hw+1}:Tk).g8:=(b.hN 42 (Y 4)).hN 47 (Y (t.hw+1));have o:=(j.ib (p:=(Z w.heap.size 42)) sd_ (Y 4)).ib (p:=(Z w.heap.size 47)) sd_ (Y (t.hw+1));have d:g.cell? (Z w.heap.size 42)=some (Y t.hT):=(b.f_ 42).trans rfl;have v:g.cell? (Z w.heap.size 47)=some (Y t.hw):=(b.f_ 47).trans rfl;have s:=b.hm 42;have u:=b.hm 47
 go_wp2_with (first|(refine k5 c underlying53 ?_)|(refine kZ (({t with hT:=4,hw:=t.hw+1}:Tk).g8) o (Tk.one _) ?_;intro r q n))
 refine rr_ ({t with hT:=4,hw:=t.hw+1}:Tk).g8 q underlying53 ?_;have f:=((e.setCell (.inr s_) _).setCell (.inr s_) _).hA n s_;have a:=m.g_ f;exact⟨({t with hT:=4,hw:=t.hw+1}:Tk),rfl,⟨a.gs,a.rs,a.ws,a.nw,a.nr,a.ds,a.hW,a.yK,a.lD,a.vU,a.tN,a.sJ,a.qc⟩,rfl,f⟩
def CD(a:Ob):(jY h a).length<=h.length+1:=by
 unfold jY;split
 .simp;omega
 .simp;omega
def oZ(l:List Ob)(h:List Ob):(l.foldl jY h).length<=h.length+l.length:=by
 induction l generalizing h with
 |nil=>simp
 |cons a l b=>rw[GT];have:=b (jY h a);have:=CD h a;simp;omega
def rQ{l:List Rw}{h:List Ob}(a:k<l.length):(hU (l.take (k+1))).foldl jY h=jY ((hU (l.take k)).foldl jY h) l[k].o:=by
 rw[X_ a];unfold hU;rw[FI,G3]
 rfl
def ww(l:List Rw)(t:Tk)(C:ln w t)(h:mB w A c l)(hn:l.length+t.nw.l.length<=999999999)(aX:t.ws.l.length<=1000000000)(cV:t.ds.l.length<=1000000000):
 Calls prog 84 #[.agg #[.slice A l.length c],.agg t.g8] w (mt (la (hU l) t.p) w):=by
 obtain⟨i1,bJ,bY,bZ,ca⟩:=info_parts infoOb;obtain⟨b,e,i,y⟩:=xj w 35 #[.slice A l.length c] 53 t.g8 35 #[n_];have m:=h.g_ y;have D:=b.f_ 0;have aQ:=O (show la (hU l) t.p=kg (it ((hU t.nw.l).foldl jY (hU l)) t.ws.l) t.ds.l from rfl);have ae:=O (show(hU l).length+t.nw.l.length<=999999999 by rw[hZ];exact hn)
 go_enter func84,ntmps84
 go_wp2_with (at_builtin;refine pA _ rfl (.const (n_)) (.tmp 8) 33 rfl 56 i1 _ 2 32 underlying33 bJ bY bZ ca rfl I I none 0 [] rfl (Gz _ _ _ _) A l.length c _ rfl m.os (j7 _) X ?_;intro v x w2 ap bR z;simp only[W_,FU]at bR ap;replace b:=b.g_ z;replace e:=e.g_ z;replace i:=i.g_ z;replace y:=y.trans z;replace D:=b.f_ 0;have f0:=b.hm 0;have aR:mB w2 v x l:=⟨bR,m.lD.g_ z,ap⟩;have af:=b.hN 0 (.slice v l.length x);have co:=e.ib (p:=(Z w.heap.size 0)) sd_ (.slice v l.length x);have au:=i.ib (p:=(Z w.heap.size 0)) sd_ (.slice v l.length x);have ag:=aR.ir b I I ((H _ _).setCell (p:=(Z w.heap.size 0)) (.inl s_) (.slice v l.length x));have ah:=y.setCell (p:=(Z w.heap.size 0)) (.inr s_) (.slice v l.length x);have bT:(w2.setCell (Z w.heap.size 0) (.slice v l.length x)).cell? (Z (w.heap.size+1) 39)=some (.slice t.nw.A t.nw.l.length t.nw.c):=(co.f_ 39).trans rfl)
 have e:=co;have i:=au;have b:=af;have m:=ag;have y:=ah
 go_loopw [14] (λS wr=>∃(k:Nat) (n:OA) (s:Nat) (g:List Rw),k<=t.nw.l.length/\S=Y k/\Bk wr (w.heap.size+1) 53 t.g8/\Bk wr (w.heap.size+1+1) 35 #[n_]/\Bk wr (w.heap.size) 35 #[.slice n g.length s]/\mB wr n s g/\hU g=(hU (t.nw.l.take k)).foldl jY (hU l)/\J [] w wr) (λS _=>t.nw.l.length-(intOf S).toNat)
 case atStart=>exact⟨0,v,x,l,P_ _,rfl,e,i,b,m,rfl,y⟩
 case round=>
  obtain⟨k,n,s,g,hk,rfl,e,i,b,m,bD,u⟩:=hrel;have q:=O bD
  have al:g.length<=999999999:=by
   have h1:=hZ g;have h2:=oZ (hU (t.nw.l.take k)) (hU l);rw[bD]at h1;rw[hZ (t.nw.l.take k),Gd]at h2;have h3:=ae.out;omega
  by_cases N:k<t.nw.l.length
  .obtain⟨an,off,V,bm,bu⟩:=(C.nw.g_ u).at_ N;rw[V];have bK:=O (show(hU (t.nw.l.take (k+1))).foldl jY (hU l)=jY (hU g) t.nw.l[k].o by rw[q.out];exact rQ N);have Q:=(C.nr.g_ (u.alloc (.cells #[Y t.nw.l[k].o.id,.slice t.nw.l[k].A t.nw.l[k].o.fs.length t.nw.l[k].c] 56))) t.nw.l[k] (M_ N);generalize t.nw.l[k]=a at*;have U:Sl (wr.alloc (.cells #[Y a.o.id,.slice a.A a.o.fs.length a.c] 56)) 38 2 a.A a.o.fs.length (jd a.o.fs):=Q.1;have aP:(k:Int)<(t.nw.l.length:Int):=X;replace e:=e.alloc (.cells #[Y a.o.id,.slice a.A a.o.fs.length a.c] 56);replace i:=i.alloc (.cells #[Y a.o.id,.slice a.A a.o.fs.length a.c] 56);replace b:=b.alloc (.cells #[Y a.o.id,.slice a.A a.o.fs.length a.c] 56);replace m:=m.alloc (.cells #[Y a.o.id,.slice a.A a.o.fs.length a.c] 56);replace u:=u.alloc (.cells #[Y a.o.id,.slice a.A a.o.fs.length a.c] 56);have D:=b.f_ 0;have P:=Q_ wr 56 #[Y a.o.id,.slice a.A a.o.fs.length a.c];have MN:=P.f_ 0;have ai:=P.f_ 1
   go_wp2_with (go_at_call 123;((with_reducible refine(vt n s g a.o.id a.A a.c a.o.fs m.os m.lD m.lO U Q.2 al).mono ?_);rintro ar E⟨F,R,B,rfl,W,T,L,d,r⟩;have j:=O d;replace e:=e.g_ r;replace i:=i.g_ r;replace b:=b.g_ r;replace u:=u.trans r;replace D:=b.f_ 0;have f0:=b.hm 0))
   go_roundw
   case rel=>exact⟨k+1,F,R,B,X,gn,e.ib sd_ _,i.ib sd_ _,b.hN 0 _,(mB.mk T L W).ir b I I ((H _ _).setCell (.inl s_) _),by rw[bK.out,j.out],u.setCell (.inr (by first|(simp;done)|(simp;omega)|omega)) _⟩
   case measure=>exact mz
  .have bI:=O (show k=t.nw.l.length by omega);have aP:¬(k:Int)<(t.nw.l.length:Int):=X;have D:=b.f_ 0;have bU:wr.cell? (Z (w.heap.size+1) 38)=some (.slice t.ws.A t.ws.l.length t.ws.c):=(e.f_ 38).trans rfl;have bq:wr.cell? (Z (w.heap.size+1) 40)=some (.slice t.ds.A t.ds.l.length t.ds.c):=(e.f_ 40).trans rfl;have av:=m.g_ (H [] wr).drew;have aq:=u.drew;have G:g.length<=1000000000:=X
   go_wp2_with fail
   go_region_held3 (λT=>T.cell? (Z w.heap.size 0)=some (.slice n g.length s)/\T.cell? (Z (w.heap.size+1) 38)=some (.slice t.ws.A t.ws.l.length t.ws.c)/\T.cell? (Z (w.heap.size+1) 40)=some (.slice t.ds.A t.ds.l.length t.ds.c)) (first|exact du|exact dE|exact bn|go_keep)
    (first
      |(go_at_call 125;((with_reducible refine(nX n s g t.ws.A t.ws.c t.ws.l _ av G (C.g_ aq).ws aX).mono ?_);unfold mt;rintro ar E⟨F,R,B,rfl,ax,d,r⟩;have j:=O d;have aA:B.length<=1000000000:=(by have:=hZ B;rw[d,jN,hZ]at this;omega);have P:=e.drew.g_ r;have V:=b.drew.g_ r;have L:=i.drew.g_ r;have K:=aq.trans r;have du:E.cell? (Z w.heap.size 0)=some (.slice n g.length s)/\E.cell? (Z (w.heap.size+1) 38)=some (.slice t.ws.A t.ws.l.length t.ws.c)/\E.cell? (Z (w.heap.size+1) 40)=some (.slice t.ds.A t.ds.l.length t.ds.c):=⟨V.f_ 0,(P.f_ 38).trans rfl,(P.f_ 40).trans rfl⟩))
      |(go_at_call 124;((with_reducible refine(sn F R B t.ds.A t.ds.c t.ds.l ax aA (C.g_ K).ds cV).mono ?_);unfold mt;rintro ar a⟨aK,aJ,f,rfl,a6,dj,az⟩;have aW:=O dj;have Q:=P.g_ az;have U:=V.g_ az;have M:=L.g_ az;have f6:=M.hm 0;have b6:=M.f_ 0;have dE:a.cell? (Z w.heap.size 0)=some (.slice n g.length s)/\a.cell? (Z (w.heap.size+1) 38)=some (.slice t.ws.A t.ws.l.length t.ws.c)/\a.cell? (Z (w.heap.size+1) 40)=some (.slice t.ds.A t.ds.l.length t.ds.c):=⟨U.f_ 0,(Q.f_ 38).trans rfl,(Q.f_ 40).trans rfl⟩;have aw:=U.ib (p:=(Z (w.heap.size+1+1) 0)) sd_ (.slice aK f.length aJ);have W:=Q.ib (p:=(Z (w.heap.size+1+1) 0)) sd_ (.slice aK f.length aJ);have bn:(a.setCell (Z (w.heap.size+1+1) 0) (.slice aK f.length aJ)).cell? (Z w.heap.size 0)=some (.slice n g.length s)/\(a.setCell (Z (w.heap.size+1+1) 0) (.slice aK f.length aJ)).cell? (Z (w.heap.size+1) 38)=some (.slice t.ws.A t.ws.l.length t.ws.c)/\(a.setCell (Z (w.heap.size+1+1) 0) (.slice aK f.length aJ)).cell? (Z (w.heap.size+1) 40)=some (.slice t.ds.A t.ds.l.length t.ds.c):=⟨aw.f_ 0,(W.f_ 38).trans rfl,(W.f_ 40).trans rfl⟩)))
   exact I4
def pD(A:OA)(c:Nat)(l:List Rw)(E:ln w t)(h:mB w A c l)(hn:l.length+t.nw.l.length<=999999999)(aX:t.ws.l.length<=1000000000)(cV:t.ds.l.length<=1000000000)(cZ:t.gs.l.length<=1000000000)(aI:t.rs.l.length<=1000000000):
 Calls prog 79 #[.agg t.g8,.agg #[.slice A l.length c]] w (mt (iu t.p (hU l)) w):=by
 obtain⟨i1,bJ,bY,bZ,ca⟩:=info_parts infoOb;obtain⟨e,av,i,u⟩:=xj w 53 t.g8 35 #[.slice A l.length c] 35 #[n_];have r:=h.g_ u;have U:=av.f_ 0;have hn1:l.length<=1000000000:=X;have aQ:=O (show iu t.p (hU l)=kg (it ((hU t.nw.l).foldl jY (before t.p (hU l))) t.ws.l) t.ds.l from rfl);have ae:=O (show(before t.p (hU l)).length+t.nw.l.length<=999999999 by rw[mQ,hZ];exact hn)
 go_enter func79,ntmps79
 go_wp2_with (first|(refine k5 e underlying53 ?_)|(go_at_call 122;((with_reducible refine(pk t A c l (E.g_ u) r hn1 cZ aI).mono ?_);unfold mt;rintro af m⟨C,D,g,rfl,Q,dZ,P⟩;have ag:=O dZ;have ah:=O (show g.length=l.length from(by have:=hZ g;rw[dZ,mQ,hZ]at this;exact this.symm));have al:=(i.g_ P).lt;have an:w.heap.size≠m.heap.size:=X;have R:w.heap.size+1+1≠m.heap.size:=X;replace e:=(e.g_ P).alloc (.cells #[.slice C g.length D] 35);replace i:=(i.g_ P).alloc (.cells #[.slice C g.length D] 35);have b:=Q_ m 35 #[.slice C g.length D];replace Q:=Q.alloc (.cells #[.slice C g.length D] 35);replace u:=(u.trans P).alloc (.cells #[.slice C g.length D] 35);have bi:=b.f_ 0))|(at_builtin;refine pA _ rfl (.const (n_)) (.tmp 12) 33 rfl 56 i1 _ 2 32 underlying33 bJ bY bZ ca rfl I I none 0 [] rfl (Gz _ _ _ _) C g.length D _ rfl Q.os (j7 _) (ov ah.out) ?_;intro z B w2 ap bR F;simp only[W_,FU]at bR ap;replace b:=b.g_ F;replace e:=e.g_ F;replace i:=i.g_ F;replace u:=u.trans F;replace bi:=b.f_ 0;have f1:=b.hm 0;have aR:mB w2 z B g:=⟨bR,Q.lD.g_ F,ap⟩;have ar:=b.hN 0 (.slice z g.length B);have co:=e.ib (p:=(Z m.heap.size 0)) an (.slice z g.length B);have au:=i.ib (p:=(Z m.heap.size 0)) R (.slice z g.length B);have ax:=aR.ir b I I ((H _ _).setCell (p:=(Z m.heap.size 0)) (.inl s_) (.slice z g.length B));have aA:=u.setCell (p:=(Z m.heap.size 0)) (.inr (show w.heap.size<=m.heap.size by omega)) (.slice z g.length B);have bT:(w2.setCell (Z m.heap.size 0) (.slice z g.length B)).cell? (Z w.heap.size 39)=some (.slice t.nw.A t.nw.l.length t.nw.c):=(co.f_ 39).trans rfl))
 have e:=co;have i:=au;have b:=ar;have r:=ax;have u:=aA
 go_loopw [18] (λaB wr=>∃(k:Nat) (s:OA) (x:Nat) (n:List Rw),k<=t.nw.l.length/\aB=Y k/\Bk wr (w.heap.size) 53 t.g8/\Bk wr (w.heap.size+1+1) 35 #[n_]/\Bk wr (m.heap.size) 35 #[.slice s n.length x]/\mB wr s x n/\hU n=(hU (t.nw.l.take k)).foldl jY (before t.p (hU l))/\J [] w wr) (λaB _=>t.nw.l.length-(intOf aB).toNat)
 case atStart=>exact⟨0,z,B,g,P_ _,rfl,e,i,b,r,ag.out,u⟩
 case round=>
  obtain⟨k,s,x,n,hk,rfl,e,i,b,r,bD,y⟩:=hrel;have q:=O bD
  have aC:n.length<=999999999:=by
   have h1:=hZ n;have h2:=oZ (hU (t.nw.l.take k)) (before t.p (hU l));rw[bD]at h1;rw[hZ (t.nw.l.take k),Gd]at h2;have h3:=ae.out;omega
  by_cases V:k<t.nw.l.length
  .obtain⟨aE,off,aG,bm,bu⟩:=(E.nw.g_ y).at_ V;rw[aG];have bK:=O (show(hU (t.nw.l.take (k+1))).foldl jY (before t.p (hU l))=jY (hU n) t.nw.l[k].o by rw[q.out];exact rQ V);have aF:=(E.nr.g_ (y.alloc (.cells #[Y t.nw.l[k].o.id,.slice t.nw.l[k].A t.nw.l[k].o.fs.length t.nw.l[k].c] 56))) t.nw.l[k] (M_ V);generalize t.nw.l[k]=a at*;have MM:Sl (wr.alloc (.cells #[Y a.o.id,.slice a.A a.o.fs.length a.c] 56)) 38 2 a.A a.o.fs.length (jd a.o.fs):=aF.1;have aP:(k:Int)<(t.nw.l.length:Int):=X;replace e:=e.alloc (.cells #[Y a.o.id,.slice a.A a.o.fs.length a.c] 56);replace i:=i.alloc (.cells #[Y a.o.id,.slice a.A a.o.fs.length a.c] 56);replace b:=b.alloc (.cells #[Y a.o.id,.slice a.A a.o.fs.length a.c] 56);replace r:=r.alloc (.cells #[Y a.o.id,.slice a.A a.o.fs.length a.c] 56);replace y:=y.alloc (.cells #[Y a.o.id,.slice a.A a.o.fs.length a.c] 56);have U:=b.f_ 0;have W:=Q_ wr 56 #[Y a.o.id,.slice a.A a.o.fs.length a.c];have MN:=W.f_ 0;have ai:=W.f_ 1
   go_wp2_with (go_at_call 123;((with_reducible refine(vt s x n a.o.id a.A a.c a.o.fs r.os r.lD r.lO MM aF.2 aC).mono ?_);rintro af N⟨S,c5,L,rfl,ao,aH,T,d,v⟩;have j:=O d;replace e:=e.g_ v;replace i:=i.g_ v;replace b:=b.g_ v;replace y:=y.trans v;replace U:=b.f_ 0;have f0:=b.hm 0))
   go_roundw
   case rel=>exact⟨k+1,S,c5,L,X,gn,e.ib an _,i.ib R _,b.hN 0 _,(mB.mk aH T ao).ir b I I ((H _ _).setCell (.inl s_) _),by rw[bK.out,j.out],y.setCell (.inr (show w.heap.size<=m.heap.size by omega)) _⟩
   case measure=>exact mz
  .have bI:=O (show k=t.nw.l.length by omega);have aP:¬(k:Int)<(t.nw.l.length:Int):=X;have U:=b.f_ 0;have bU:wr.cell? (Z w.heap.size 38)=some (.slice t.ws.A t.ws.l.length t.ws.c):=(e.f_ 38).trans rfl;have bq:wr.cell? (Z w.heap.size 40)=some (.slice t.ds.A t.ds.l.length t.ds.c):=(e.f_ 40).trans rfl;have aM:=r.g_ (H [] wr).drew;have aq:=y.drew;have G:n.length<=1000000000:=X
   go_wp2_with fail
   go_region_held3 (λw'=>w'.cell? (Z m.heap.size 0)=some (.slice s n.length x)/\w'.cell? (Z w.heap.size 38)=some (.slice t.ws.A t.ws.l.length t.ws.c)/\w'.cell? (Z w.heap.size 40)=some (.slice t.ds.A t.ds.l.length t.ds.c)) (first|exact du|exact dE|exact bn|go_keep)
    (first
      |(go_at_call 125;((with_reducible refine(nX s x n t.ws.A t.ws.c t.ws.l _ aM G (E.g_ aq).ws aX).mono ?_);unfold mt;rintro af N⟨S,c5,L,rfl,aN,d,v⟩;have j:=O d;have aO:L.length<=1000000000:=(by have:=hZ L;rw[d,jN,hZ]at this;omega);have W:=e.drew.g_ v;have aS:=b.drew.g_ v;have T:=i.drew.g_ v;have K:=aq.trans v;have du:N.cell? (Z m.heap.size 0)=some (.slice s n.length x)/\N.cell? (Z w.heap.size 38)=some (.slice t.ws.A t.ws.l.length t.ws.c)/\N.cell? (Z w.heap.size 40)=some (.slice t.ds.A t.ds.l.length t.ds.c):=⟨aS.f_ 0,(W.f_ 38).trans rfl,(W.f_ 40).trans rfl⟩))
      |(go_at_call 124;((with_reducible refine(sn S c5 L t.ds.A t.ds.c t.ds.l aN aO (E.g_ K).ds cV).mono ?_);unfold mt;rintro af a⟨aK,aJ,f,rfl,a6,dj,az⟩;have aW:=O dj;have bz:=W.g_ az;have aU:=aS.g_ az;have M:=T.g_ az;have f6:=M.hm 0;have b6:=M.f_ 0;have dE:a.cell? (Z m.heap.size 0)=some (.slice s n.length x)/\a.cell? (Z w.heap.size 38)=some (.slice t.ws.A t.ws.l.length t.ws.c)/\a.cell? (Z w.heap.size 40)=some (.slice t.ds.A t.ds.l.length t.ds.c):=⟨aU.f_ 0,(bz.f_ 38).trans rfl,(bz.f_ 40).trans rfl⟩;have aw:=aU.ib (p:=(Z (w.heap.size+1+1) 0)) R.symm (.slice aK f.length aJ);have a8:=bz.ib (p:=(Z (w.heap.size+1+1) 0)) sd_ (.slice aK f.length aJ);have bn:(a.setCell (Z (w.heap.size+1+1) 0) (.slice aK f.length aJ)).cell? (Z m.heap.size 0)=some (.slice s n.length x)/\(a.setCell (Z (w.heap.size+1+1) 0) (.slice aK f.length aJ)).cell? (Z w.heap.size 38)=some (.slice t.ws.A t.ws.l.length t.ws.c)/\(a.setCell (Z (w.heap.size+1+1) 0) (.slice aK f.length aJ)).cell? (Z w.heap.size 40)=some (.slice t.ds.A t.ds.l.length t.ds.c):=⟨aw.f_ 0,(a8.f_ 38).trans rfl,(a8.f_ 40).trans rfl⟩)))
   exact I4
