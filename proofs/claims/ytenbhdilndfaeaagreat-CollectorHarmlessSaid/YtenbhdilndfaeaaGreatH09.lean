import Derived.Test.YtenbhdilndfaeaaGreatH05
set_option maxRecDepth 100000
set_option maxHeartbeats 0
set_option linter.all false
namespace Go.Proofs.YtenbhdilndfaeaaGreat
open Go.RowKit Go.Proofs.Tryz
section
variable{G:Prop}{w:World}{k:Nat}(A:OA)(c:Nat)(l:QV)(d:Dl)(h:QQ)(t:Tk)
def JU(h:G:=by
 go_wp2_with (at_builtin;refine iQ _ rfl (.tmp 26) (.tmp 28) 50 rfl (w.heap.size+1) 116 bM _ 4 32 underlying50 bK bC be bu rfl I I A' n' c' _ rfl aR _ 1 1 _ rfl ap (qa [x]) X t ?_;intro aw ai w2 ar aq;have br:=aq.bk hB I);go_roundw;exact⟨k+1,aw,ai,n'+1,X,gn,rfl,by rw[aL.out];simp[aZ.out],by rw[aL.out];simpa[He]using ar,br,H_ t aq.size,aq.gr [] w X bT⟩;exact mz):G:=h
def J9(h:G:=by
 go_wp2;have hE:=M.hW 0<|.slice aL f.length aI;refine rr_ #[.slice aL f.length aI] hE underlying35 ⟨aL,aI,f,rfl,?_,?_,?_⟩;exact bT.iy M I I<|(G_ _ _).setCell (.inl s_) _;rw[aY.out,j.out,q.out,aQ.out,bO.out,HU];exact(aK.trans aD).setCell (.inr<|by first|(simp;done)|(simp;omega)|omega) _):G:=h
def Lg(h:G:=by
 have hl:x*2+1<(jw t.nw.l).length:=by rw[lC];omega
 have:=U.out _ _<|O_ hl;rcases GU (x*2+1) f.size with h|h
 exact h;exact NR):G:=h
def M7(h:G:=by
 show Sl c9 56 2 (j_ d) (t.nw.l.set x _).length _;rw[G3];exact au.iy l I aG):G:=h
def uv(P:iP)(w:World)(e:Ending)(w':World):Prop:=∃t:Tk,e=.returned (.agg t.g_)/\kV w' t/\t.p=P/\J [] w w'
def Bk.uL{p q:Nat}{t:TypeId}{cs:Array Value}(h:Bk w p t cs)(e:p≠q)(i f:Nat)(a b:Value):Bk ((w.setCell (Z q i) a).setCell (Z q f) b) p t cs:=(h.ir (p:=(Z q i)) e a).ir (p:=(Z q f)) e b
def J.two{M:QY}{a:World}(h:J M a w){q:Nat}(b:q∈M\/a.heap.size<=q)(i e:Nat)(x y:Value):J M a ((w.setCell (Z q i) x).setCell (Z q e) y):=(h.setCell (p:=(Z q i)) b x).setCell (p:=(Z q e)) b y
def oz:116≠53/\56≠53/\38≠53/\124≠53/\162≠53:=by decide
def xT(c:Cl)(w:World)(r:kV w t)(y:t.nw.l.length<=1000000000)(H:t.ws.l.length<=1000000000)(L:jx (hY t.nw.l) c.id<0):
 Calls prog 132 #[.agg t.g_,.agg #[Y c.id,Y c.f,.bool c.v.r,Y c.v.n]] w (uv (jt t.p c) w):=by
 obtain⟨f,e,q,u⟩:=xO w 53 t.g_ 116 #[Y c.id,Y c.f,.bool c.v.r,Y c.v.n] 53 ks;have E:=O (show jt t.p c={t.p with ws:=kc t.ws.l c} by unfold jt;rw[L_<|by exact L];rfl);have J:=O (show jx (hY t.nw.l) c.id= -1 by have:=nI (λR:Ob=>R.id==c.id) (hY t.nw.l) 0;unfold jx at L |-;omega);clear L;have T:=e.f_ 0;go_enter func132,ntmps132;go_wp2_with (first|(refine la z underlying53 ?_)|(refine la f underlying53 ?_)|(go_at_call 128;((with_reducible refine(pd t c.id _ (r.hF u) y).mono ?_);rintro N C⟨rfl,i⟩;rw[J.out];replace f:=f.hF i;replace e:=e.hF i;replace q:=q.hF i;have V:=e.f_ 0;have X:=e.f_ 1;have U:=e.f_ 2;have S:=e.f_ 3;have K:C.cell? (Z w.heap.size 38)=some (.slice t.ws.A t.ws.l.length t.ws.c):=(f.f_ 38).trans rfl;have s:=u.trans i))|(go_at_call 98;((with_reducible refine(rX t.ws.A t.ws.c t.ws.l c (r.hF s).ws H).mono ?_);unfold sU;rintro N j⟨b,d,rfl,B,M,o⟩;have v:=s.trans o;have F:=r.hF v;have g:=f.hF o;have K:j.cell? (Z w.heap.size 38)=some (.slice t.ws.A t.ws.l.length t.ws.c):=(g.f_ 38).trans rfl;have W:=g.hG 38;have z:Bk (j.setCell (Z w.heap.size 38)<|.slice b (kc t.ws.l c).length d) w.heap.size 53 ({t with ws:=⟨b,d,kc t.ws.l c⟩}:Tk).g_:=g.hW 38 _;have m:=(q.hF o).ir (p:=(Z w.heap.size 38)) sd_<|.slice b (kc t.ws.l c).length d))|(refine k6 (({t with ws:=⟨b,d,kc t.ws.l c⟩}:Tk).g_) m (Tk.one _) ?_;intro D Q n));refine rr_ ({t with ws:=⟨b,d,kc t.ws.l c⟩}:Tk).g_ Q underlying53 ?_;unfold uv;rw[E.out];have x:=(G_ [w.heap.size] j).setCell (p:=(Z w.heap.size 38)) (.inl s_)<|.slice b (kc t.ws.l c).length d;have P:=(Sl.iy (Sl.iy B g I x) m I n:Cs D b<|kc t.ws.l c);have a:=(F.iy g oz x).iy m oz n;refine⟨_,rfl,⟨a.gs,a.rs,P,a.nw,a.nr,a.ds,a.ia,a.zi,a.ll,M,a.tX,a.sQ,a.qf⟩,rfl,?_⟩;exact(v.setCell (.inr s_) _).hJ n p_
def xU(c:Cl)(x:Nat)(w:World)(ht:kV w t)(al:t.nw.l.length<=1000000000)(L:jx (hY t.nw.l) c.id=x):
 Calls prog 132 #[.agg t.g_,.agg #[Y c.id,Y c.f,.bool c.v.r,Y c.v.n]] w (uv (jt t.p c) w):=by
 obtain⟨bM,bK,bC,be,bu⟩:=info_parts infoVl;obtain⟨i1,bR,cf,cg,ct⟩:=info_parts infoOb;obtain⟨n,z,C,N2⟩:=xO w 53 t.g_ 116 #[Y c.id,Y c.f,.bool c.v.r,Y c.v.n] 53 ks;have V:=by have:=nI (λo:Ob=>o.id==c.id) (hY t.nw.l) 0;unfold jx at L;rw[L]at this;simpa[hY]using this
 have aQ:=O (show jt t.p c={t.p with nw:=(hY t.nw.l).set x (tU t.nw.l[x].o c.f c.v)} by
  unfold jt;have W:jx t.p.nw c.id=(x:Int):=L;rw[K_ X,W,Hh];congr 1;apply IK;intro u;show((hY t.nw.l).modify x _)[u]?=_;rw[Jc,IJ];by_cases W:x=u;subst W;have:x<(hY t.nw.l).length:=by rw[ib];exact V
  simp[this];simp[hY];simp[W])
 have bH:=O L;clear L;have aL:=ht.nr;have ae:=P_ V;have aJ:=(aL _ ae).2;obtain⟨a,hr⟩:=mn_<|t.nw.l[x];rw[hr]at aQ ae aJ;have bA:=O hr;clear hr;have bS:Sl w 56 2 t.nw.A t.nw.l.length (jw t.nw.l):=ht.nw;have bY:(x:Int)<(t.nw.l.length:Int):=X;have aR:=z.f_ 0;go_enter func132,ntmps132;go_upto_region 8 with(first|(refine la n underlying53 ?_)|(go_at_call 128;((with_reducible refine(pd t c.id _ (ht.hF N2) al).mono ?_);rintro W an⟨rfl,Q⟩;rw[bH.out];replace n:=n.hF Q;replace z:=z.hF Q;replace C:=C.hF Q;have bP:an.cell? (Z w.heap.size 39)=some (.slice t.nw.A t.nw.l.length t.nw.c):=(n.f_ 39).trans rfl;have aA:=N2.trans Q;have bE:=bS.hF aA;have bo:=aA.size))|(at_builtin;refine iQ _ rfl (.const<|n_) (.tmp 20) 33 rfl w.heap.size 56 i1 _ 2 32 underlying33 bR cf cg ct rfl I I none 0 0 [] rfl (i4 _ _ _ _) t.nw.A t.nw.l.length t.nw.c _ rfl bE (j9 _) X bo ?_;intro a6 b j R bd;simp only[U_,G0]at R;obtain⟨d,f,aO,bf,H,a7⟩:=kN R X;subst aO;have aK:=bd.gr [] w (I_ _) aA;replace n:=bd.bk n I;replace z:=bd.bk z I;replace C:=bd.bk C I;have ad:=Bk.mm H n I;have bJ:=n.hG 39;replace bP:j.cell? (Z w.heap.size 39)=some (.slice t.nw.A t.nw.l.length t.nw.c):=(n.f_ 39).trans rfl;have bn:Sl j 56 2 (j_ d) t.nw.l.length (t.nw.l.flatMap Rw.E):=Sl.iZ R;have cp:Bk (j.setCell (Z w.heap.size 39)<|.slice (j_ d) t.nw.l.length b) w.heap.size 53 ({t with nw:=⟨some<|Z d 0,b,t.nw.l⟩}:Tk).g_:=n.hW 39 _;have bW:=H.lt;replace H:=H.ir (p:=(Z w.heap.size 39)) ad<|.slice (j_ d) t.nw.l.length b;have bh:=z.ir (p:=(Z w.heap.size 39)) sd_<|.slice (j_ d) t.nw.l.length b;have aE:=C.ir (p:=(Z w.heap.size 39)) sd_<|.slice (j_ d) t.nw.l.length b;have a2:=Sl.C9 yf (bn.iy n I<|(G_ [w.heap.size] j).setCell (p:=(Z w.heap.size 39)) (.inl s_)<|.slice (j_ d) t.nw.l.length b) V;rw[bA.out]at a2;have bQ:(j.setCell (Z w.heap.size 39)<|.slice (j_ d) t.nw.l.length b).cell? (Z d<|x*2)=some (Y a.o.id):=a2 0 _ rfl;have r1:=a2 1 _ rfl;clear a2;have A:(j.setCell (Z w.heap.size 39)<|.slice (j_ d) t.nw.l.length b).cell? (Z w.heap.size 39)=some (.slice (j_ d) t.nw.l.length b):=(cp.f_ 39).trans rfl;replace aK:=aK.setCell (p:=(Z w.heap.size 39)) (.inr s_)<|.slice (j_ d) t.nw.l.length b;have ay:Bk ((j.setCell (Z w.heap.size 39)<|.slice (j_ d) t.nw.l.length b).alloc<|.cells #[Y a.o.id,.slice a.A a.o.fs.length a.c] 56) j.heap.size 56 #[Y a.o.id,.slice a.A a.o.fs.length a.c]:=(by simpa[World.setCell]using T_ (j.setCell (Z w.heap.size 39)<|.slice (j_ d) t.nw.l.length b) 56 #[Y a.o.id,.slice a.A a.o.fs.length a.c]);have aP:=aK.alloc<|.cells #[Y a.o.id,.slice a.A a.o.fs.length a.c] 56;have N3:=ay.f_ 1;have aU:=((aL a ae).1.hF aP:Sl _ 38 2 a.A a.o.fs.length<|jo a.o.fs);have bp:=aP.size;clear aA bE bo Q)|(at_builtin;refine iQ _ rfl (.const<|n_) (.tmp 29) 54 rfl w.heap.size 38 bM _ 2 16 underlying54 bK bC be bu rfl I I none 0 0 [] rfl (i4 _ _ _ _) a.A a.o.fs.length a.c _ rfl aU (nM _) X bp ?_;intro g e aH b8 v;simp only[U_,G0]at b8;have af:=v.gr [] w (I_ _) aP;have aW:=v.bk (cp.alloc<|.cells #[Y a.o.id,.slice a.A a.o.fs.length a.c] 56) I;have cv:=v.bk (bh.alloc<|.cells #[Y a.o.id,.slice a.A a.o.fs.length a.c] 56) I;have bk:=v.bk (aE.alloc<|.cells #[Y a.o.id,.slice a.A a.o.fs.length a.c] 56) I;have s:=v.bk (H.alloc<|.cells #[Y a.o.id,.slice a.A a.o.fs.length a.c] 56) I;have N:=v.bk ay I;have N3:=N.f_ 1;have bB:=N.hG 1;have ck:=C.lt;have ai:=aW.ir (p:=(Z j.heap.size 1)) sd_<|.slice g a.o.fs.length e;have D:=cv.ir (p:=(Z j.heap.size 1)) sd_<|.slice g a.o.fs.length e;have ap:=bk.ir (p:=(Z j.heap.size 1)) sd_<|.slice g a.o.fs.length e;have cN:=s.ir (p:=(Z j.heap.size 1)) sd_<|.slice g a.o.fs.length e;have F:=N.hW 1<|.slice g a.o.fs.length e;have bm:=af.setCell (p:=(Z j.heap.size 1)) (.inr (show w.heap.size<=j.heap.size by omega))<|.slice g a.o.fs.length e;have aC:=D.f_ 1;have av:=D.f_ 2;have bO:=D.f_ 3;have ag:=F.f_ 0;have am:=F.f_ 1;have bv:=(G_ [j.heap.size] aH).setCell (p:=(Z j.heap.size 1)) (.inl s_)<|.slice g a.o.fs.length e;clear bP bJ cp bh aE H ay aU bp aP aK bQ r1 A z C aW cv bk s));have cq:=kX b8 N I bv;have U:=O (show ∀(u:Nat) (bx:Value),(jw t.nw.l)[u]?=some bx->f[u]?=some bx from a7);have bg:=jq R;clear a7 b8 v R bd n ad bn af N2 bv N aL ae bC be bu bK bR cf cg ct;go_cut [6,42] (λcb cc y=>∃(G d b:Nat) (f:Array Value) (g:OA) (e:Nat),cb=q_ G/\cc=.bool (decide (0<=c.f/\c.f<(a.o.fs.length:Int)))/\Bk y w.heap.size 53 ({t with nw:=⟨some<|Z d 0,b,t.nw.l⟩}:Tk).g_/\Bk y (w.heap.size+1) 116 #[Y c.id,Y c.f,.bool c.v.r,Y c.v.n]/\Bk y (w.heap.size+1+1) 53 ks/\Bk y d 56 f/\(∀(u:Nat) (bx:Value),(jw t.nw.l)[u]?=some bx->f[u]?=some bx)/\Bk y G 56 #[Y a.o.id,.slice g a.o.fs.length e]/\y.ownsRow w.heap.size 38 2 (.slice g a.o.fs.length e) a.o.fs.length (jo a.o.fs)/\w.heap.size+1+1<G/\w.heap.size<=d/\d≠G/\t.nw.l.length<=b/\J [] w y)
 case first=>
  have m:∀(i:Bool),i=decide (0<=c.f/\c.f<(a.o.fs.length:Int))->Value.bool i=.bool (decide (0<=c.f/\c.f<(a.o.fs.length:Int))):=λi r=>by rw[r]
  by_cases M:0<=c.f
  .by_cases ce:c.f<(a.o.fs.length:Int)
   .go_wp2;go_meet;exact⟨j.heap.size,d,b,f,g,e,rfl,m _ (by simp[M,ce]),ai,D,ap,cN,U.out,F,cq,ck,bf,X,bg,bm⟩
   have B:decide (c.f<(a.o.fs.length:Int))=false:=zu ce;go_wp2;go_meet;exact⟨j.heap.size,d,b,f,g,e,rfl,m _ (by simp[M]),ai,D,ap,cN,U.out,F,cq,ck,bf,X,bg,bm⟩
  have B:decide (0<=c.f)=false:=zu M;go_wp2;go_meet;exact⟨j.heap.size,d,b,f,g,e,rfl,m _<|s_,ai,D,ap,cN,U.out,F,cq,ck,bf,X,bg,bm⟩
 clear N3 bB ai D ap cN U F cq ck bf bg bm bW aC av bO ag am aR;obtain⟨G,d,b,f,g,e,rfl,rfl,K,ch,T,r,bi,k,dg,b6,ah,b7,aZ,bl⟩:=hcut;have U:=O bi;clear bi;have bw:=Bk.mm r K I;have bt:=(Bk.mm r T I).symm;by_cases ky:0<=c.f/\c.f<(a.o.fs.length:Int)
 .have aq:=Hn ky;rw[aq];obtain⟨M,ce⟩:=ky;obtain⟨m,b5,ci,bU,s,a8⟩:=kN dg X;subst ci;have cj:c.f.toNat<a.o.fs.length:=X;have bT:¬(a.o.fs.length:Int)<=c.f:=X;clear aq;have bz:=O a8;clear a8;have aM:=Sl.C9 (E:=Vl.E) (λ_=>rfl) (Sl.iZ dg) cj;have v0:wc.cell? (Z m<|c.f.toNat*2)=some _:=aM 0 _ rfl;have v1:wc.cell? (Z m<|c.f.toNat*2+1)=some _:=aM 1 _ rfl;clear aM;have bL:=s.hG<|c.f.toNat*2;have bN:=s.hG<|c.f.toNat*2+1;have aC:=ch.f_ 1;have av:=ch.f_ 2;have bO:=ch.f_ 3;have ag:=k.f_ 0;have am:=k.f_ 1;have b0:=(Bk.mm s K I).symm;have bZ:=(Bk.mm s T I).symm;have b4:=(Bk.mm s k I).symm;have bX:=(Bk.mm s r I).symm;go_upto_region 10 with fail;have aB:=K.uL b0 (c.f.toNat*2) (c.f.toNat*2+1) (.bool c.v.r)<|Y c.v.n;have aS:=T.uL bZ (c.f.toNat*2) (c.f.toNat*2+1) (.bool c.v.r)<|Y c.v.n;have aw:=k.uL b4 (c.f.toNat*2) (c.f.toNat*2+1) (.bool c.v.r)<|Y c.v.n;have B:=r.uL bX (c.f.toNat*2) (c.f.toNat*2+1) (.bool c.v.r)<|Y c.v.n;have aV:=ql Vl.E (λ_=>rfl) cj c.v _ _ rfl s bz.out _ rfl;have bj:=bl.two (.inr bU) (c.f.toNat*2) (c.f.toNat*2+1) (.bool c.v.r)<|Y c.v.n;obtain⟨N0,cr⟩:=nm_<|(wc.setCell (Z m<|c.f.toNat*2)<|.bool c.v.r).setCell (Z m<|c.f.toNat*2+1)<|Y c.v.n;rw[<-cr]at aB aS aw B aV bj |-;clear cr v0 v1 bL bN K T k r s dg ch aC av bO ag am;have A:N0.cell? (Z w.heap.size 39)=some (.slice (j_ d) t.nw.l.length b):=(aB.f_ 39).trans rfl;have b9:=aw.f_ 0;have ca:=aw.f_ 1;have d3:x*2+1<f.size:=Lg;have bQ:N0.cell? (Z d<|x*2)=some f[x*2]:=(B.f_<|x*2).trans<|GQ X;have r1:N0.cell? (Z d<|x*2+1)=some f[x*2+1]:=(B.f_<|x*2+1).trans<|GQ X;have bD:=B.hG<|x*2;have bG:=B.hG<|x*2+1;have aD:=aB.uL bw.symm (x*2) (x*2+1) (Y a.o.id)<|.slice (j_ m) a.o.fs.length e;have l:=aS.uL bt (x*2) (x*2+1) (Y a.o.id)<|.slice (j_ m) a.o.fs.length e;have au:=ql Rw.E yf V (⟨⟨a.o.id,(a.o.fs.set c.f.toNat c.v)⟩,(j_ m),e⟩:Rw) (Y a.o.id) (.slice (j_ m) a.o.fs.length e) (by simp[Rw.E]) B U.out _ rfl;have aI:=aV.iy B I<|(G_ [d] _).two (q:=d) (.inl s_) (x*2) (x*2+1) (Y a.o.id)<|.slice (j_ m) a.o.fs.length e;have bI:=bj.two (.inr ah) (x*2) (x*2+1) (Y a.o.id) (.slice (j_ m) a.o.fs.length e)
  go_wp2_with (first|(refine la aD underlying53 ?_)|(refine k6 (({t with nw:=⟨some<|Z d 0,b,t.nw.l⟩}:Tk).g_) l (Tk.one _) ?_;intro c9 P aG));have ax:({t with nw:=⟨some<|Z d 0,b,t.nw.l.set x ⟨⟨a.o.id,(a.o.fs.set c.f.toNat c.v)⟩,(j_ m),e⟩⟩}:Tk).g_=({t with nw:=⟨some<|Z d 0,b,t.nw.l⟩}:Tk).g_:=by simp[Tk.g_]
  rw[<-ax]at P;refine rr_ ({t with nw:=⟨some<|Z d 0,b,t.nw.l.set x ⟨⟨a.o.id,(a.o.fs.set c.f.toNat c.v)⟩,(j_ m),e⟩⟩}:Tk).g_ P underlying53 ?_;unfold uv;rw[aQ.out];have S:=bI.hJ aG p_;have i:=ht.hF S;have aF:=aI.iy l I aG;refine⟨({t with nw:=⟨some<|Z d 0,b,t.nw.l.set x ⟨⟨a.o.id,(a.o.fs.set c.f.toNat c.v)⟩,(j_ m),e⟩⟩}:Tk),rfl,⟨i.gs,i.rs,i.ws,?_,?_,i.ds,i.ia,i.zi,i.ll,i.wy,?_,i.sQ,i.qf⟩,?_,S⟩;exact M7;exact i.nr.hW (by have:=aF;unfold Vs;rw[G3];exact this) (by rw[G3];exact aJ);show(t.nw.l.set x _).length<=b;rw[G3];exact aZ;show({t.p with nw:=hY (t.nw.l.set x _)}:iP)=_;rw[s8];unfold tU;rw[L_ ⟨M,ce⟩]
 have aq:=H4 ky;rw[aq];have ag:=k.f_ 0;have am:=k.f_ 1;have m:Vs wc g a.o.fs:=Sl.iZ dg;have A:wc.cell? (Z w.heap.size 39)=some (.slice (j_ d) t.nw.l.length b):=(K.f_ 39).trans rfl;have d3:x*2+1<f.size:=Lg;have bQ:wc.cell? (Z d<|x*2)=some f[x*2]:=(r.f_<|x*2).trans<|GQ X;have r1:wc.cell? (Z d<|x*2+1)=some f[x*2+1]:=(r.f_<|x*2+1).trans<|GQ X;have bD:=r.hG<|x*2;have bG:=r.hG<|x*2+1;have aD:=K.uL bw.symm (x*2) (x*2+1) (Y a.o.id)<|.slice g a.o.fs.length e;have l:=T.uL bt (x*2) (x*2+1) (Y a.o.id)<|.slice g a.o.fs.length e;have au:=ql Rw.E yf V (⟨⟨a.o.id,a.o.fs⟩,g,e⟩:Rw) (Y a.o.id) (.slice g a.o.fs.length e) (by simp[Rw.E]) r U.out _ rfl;have aI:=m.iy r I<|(G_ [d] _).two (q:=d) (.inl s_) (x*2) (x*2+1) (Y a.o.id)<|.slice g a.o.fs.length e;have bI:=bl.two (.inr ah) (x*2) (x*2+1) (Y a.o.id)<|.slice g a.o.fs.length e;go_wp2_with (first|(refine la aD underlying53 ?_)|(refine k6 (({t with nw:=⟨some<|Z d 0,b,t.nw.l⟩}:Tk).g_) l (Tk.one _) ?_;intro c9 P aG));have ax:({t with nw:=⟨some<|Z d 0,b,t.nw.l.set x ⟨⟨a.o.id,a.o.fs⟩,g,e⟩⟩}:Tk).g_=({t with nw:=⟨some<|Z d 0,b,t.nw.l⟩}:Tk).g_:=by simp[Tk.g_]
 rw[<-ax]at P;refine rr_ ({t with nw:=⟨some<|Z d 0,b,t.nw.l.set x ⟨⟨a.o.id,a.o.fs⟩,g,e⟩⟩}:Tk).g_ P underlying53 ?_;unfold uv;rw[aQ.out];have S:=bI.hJ aG p_;have i:=ht.hF S;have aF:=aI.iy l I aG;refine⟨({t with nw:=⟨some<|Z d 0,b,t.nw.l.set x ⟨⟨a.o.id,a.o.fs⟩,g,e⟩⟩}:Tk),rfl,⟨i.gs,i.rs,i.ws,?_,?_,i.ds,i.ia,i.zi,i.ll,i.wy,?_,i.sQ,i.qf⟩,?_,S⟩;exact M7;exact i.nr.hW (by exact aF) (by exact aJ);show(t.nw.l.set x _).length<=b;rw[G3];exact aZ;show({t.p with nw:=hY (t.nw.l.set x _)}:iP)=_;rw[s8];unfold tU;rw[K_ ky]
def si(c:Cl)(b:kV w t)(a:t.nw.l.length<=1000000000)(H:t.ws.l.length<=1000000000):
 Calls prog 132 #[.agg t.g_,.agg #[Y c.id,Y c.f,.bool c.v.r,Y c.v.n]] w (uv (jt t.p c) w):=by
 by_cases e:jx (hY t.nw.l) c.id<0;exact xT t c w b a H e;exact xU t c (jx (hY t.nw.l) c.id).toNat w b a (HQ X).symm
def vL(e:k<l.length)(b:Bool)(a:(l[k].id !=d.id||l[k].f !=d.f)=b):jj (l.take<|k+1) d=if b=true then jj (l.take k) d++[l[k]] else jj (l.take k) d:=by
 unfold jj;rw[Y_ e,IX];cases b with
 |true=>rw[L_ rfl];simp[a]
 |false=>rw[K_ s_];simp[a]
def qF:(jj l d).length<=l.length:=Hw _ _
def sj(h:Cs w A l)(Z:l.length<=1000000000):
 Calls prog 127 #[.slice A l.length c,.agg #[Y d.id,Y d.f,Y d.op,.bool d.v.r,Y d.v.n]] w (sU (jj l d) w):=by
 obtain⟨bM,bK,bC,be,bu⟩:=info_parts infoCl;have hB:=T_ w 124 #[Y d.id,Y d.f,Y d.op,.bool d.v.r,Y d.v.n];have p:=(G_ [] w).alloc<|.cells #[Y d.id,Y d.f,Y d.op,.bool d.v.r,Y d.v.n] 124;have C:=O (show jj l d=jj (l.take l.length) d by rw[HU]);go_enter func127,ntmps127;go_wp2;go_loopw [5,10] (λF n wr=>∃(k:Nat) (A':OA) (c' n':Nat),k<=l.length/\n=Y k/\F=.slice A' n' c'/\n'=(jj (l.take k) d).length/\wr.ownsRow (w.heap.size+1) 116 4 (.slice A' n' c') n' ((jj (l.take k) d).flatMap Cl.E)/\Bk wr w.heap.size 124 #[Y d.id,Y d.f,Y d.op,.bool d.v.r,Y d.v.n]/\w.heap.size+1<=wr.heap.size/\J [] w wr) (λ_ n _=>l.length-(intOf n).toNat)
 case atStart=>exact⟨0,none,0,0,R_ _,rfl,rfl,rfl,i4 _ _ _ _,hB,s_,p⟩
 clear hB p;obtain⟨k,A',c',n',W,rfl,rfl,o,f,hB,V,b⟩:=hrel;have aZ:=O o;have K:n'<=1000000000:=by
  have:=qF (l.take k) d;rw[Hj]at this;omega
 clear o;by_cases u:k<l.length
 .have y:(k:Int)<(l.length:Int):=X;obtain⟨Q,off,z,U,R,T,S⟩:=(h.hF b).at_ u;rw[z];have v:=λB E=>vL l d u B E;have m:=O v;clear v;generalize l[k]=x at*;have D:=hB;have e:=T_ wr 116 #[Y x.id,Y x.f,.bool x.v.r,Y x.v.n];replace hB:=hB.alloc<|.cells #[Y x.id,Y x.f,.bool x.v.r,Y x.v.n] 116;have H:=e.f_ 0;have N:=e.f_ 1;have P:=e.f_ 2;have M:=e.f_ 3;have z0:=hB.f_ 0;have L:=hB.f_ 1;have aR:=iO f<|(((G_ [] wr).alloc<|.cells #[Y x.id,Y x.f,.bool x.v.r,Y x.v.n] 116)).alloc<|.cells #[Y x.id,Y x.f,.bool x.v.r,Y x.v.n] 116;have r:(wr.alloc<|.cells #[Y x.id,Y x.f,.bool x.v.r,Y x.v.n] 116).heap.size=wr.heap.size+1:=s_;have ap:Sl ((wr.alloc<|.cells #[Y x.id,Y x.f,.bool x.v.r,Y x.v.n] 116).alloc<|.cells #[Y x.id,Y x.f,.bool x.v.r,Y x.v.n] 116) 116 4 (j_<|wr.heap.size+1) 1 ([x].flatMap Cl.E):=r▸k2 (s:=4) (T_ (wr.alloc<|.cells #[Y x.id,Y x.f,.bool x.v.r,Y x.v.n] 116) 116 #[Y x.id,Y x.f,.bool x.v.r,Y x.v.n]) rfl;clear r;have t:w.heap.size+1<=((wr.alloc<|.cells #[Y x.id,Y x.f,.bool x.v.r,Y x.v.n] 116).alloc<|.cells #[Y x.id,Y x.f,.bool x.v.r,Y x.v.n] 116).heap.size:=p_;replace hB:=hB.alloc<|.cells #[Y x.id,Y x.f,.bool x.v.r,Y x.v.n] 116;have bT:=(b.alloc<|.cells #[Y x.id,Y x.f,.bool x.v.r,Y x.v.n] 116).alloc<|.cells #[Y x.id,Y x.f,.bool x.v.r,Y x.v.n] 116;by_cases a:x.id=d.id
  .have g:(x.id !=d.id)=false:=zu a;by_cases i:x.f=d.f
   .have j:(x.f !=d.f)=false:=zu i;have aL:=O (m.out false<|by rw[g,j];rfl);clear a i;go_wp2;go_roundw;exact⟨k+1,A',c',n',X,gn,rfl,by rw[aL.out];simpa using aZ.out,by rw[aL.out];exact iO f<|(G_ [] wr).alloc _,D.alloc _,p_,b.alloc _⟩;exact mz
   have j:(x.f !=d.f)=true:=zu i;have aL:=O (m.out true<|by rw[g,j];rfl);clear a i;exact JU
  have g:(x.id !=d.id)=true:=zu a;have aL:=O (m.out true<|by rw[g];rfl);clear a;exact JU
 have y:¬(k:Int)<(l.length:Int):=X;have a:=O (show k=l.length by omega);go_wp2;go_ret;unfold sU;rw[C.out,<-a.out,<-aZ.out];refine⟨A',c',rfl,?_,jq f,b⟩;have:=Sl.iZ f;unfold Cs;rw[<-aZ.out];exact this
def nE(t:iP):iP:={t with h5:=4,hK:=t.hK+1}
def un(q:kV w t)(h0:0<=t.hK)(x:t.hK<=1000000000):
 Calls prog 80 #[.agg t.g_] w (uv (nE t.p) w):=by
 obtain⟨b,j,e⟩:=qU w 53 t.g_ 53 ks;go_enter func80,ntmps80;go_upto_region 1 with fail;obtain⟨g,f⟩:=nm_<|(w.alloc<|.cells t.g_ 53).alloc<|.cells ks 53;rw[<-f]at b j e |-;clear f;have c:Bk _ w.heap.size 53 ({t with h5:=4,hK:=t.hK+1}:Tk).g_:=(b.hW 42<|Y 4).hW 47<|Y<|t.hK+1;have n:=(j.ir (p:=(Z w.heap.size 42)) sd_<|Y 4).ir (p:=(Z w.heap.size 47)) sd_<|Y<|t.hK+1;have d:g.cell? (Z w.heap.size 42)=some (Y t.h5):=(b.f_ 42).trans rfl;have v:g.cell? (Z w.heap.size 47)=some (Y t.hK):=(b.f_ 47).trans rfl;have s:=b.hG 42;have u:=b.hG 47
 go_wp2_with (first|(refine la c underlying53 ?_)|(refine k6 (({t with h5:=4,hK:=t.hK+1}:Tk).g_) n (Tk.one _) ?_;intro r o m));refine rr_ ({t with h5:=4,hK:=t.hK+1}:Tk).g_ o underlying53 ?_;have i:=((e.setCell (.inr s_) _).setCell (.inr s_) _).hJ m s_;have a:=q.hF i;exact⟨({t with h5:=4,hK:=t.hK+1}:Tk),rfl,⟨a.gs,a.rs,a.ws,a.nw,a.nr,a.ds,a.ia,a.zi,a.ll,a.wy,a.tX,a.sQ,a.qf⟩,rfl,i⟩
def Dp(a:Ob):(kS h a).length<=h.length+1:=by
 unfold kS;split;simp;omega;simp;omega
def o7(l:QQ)(h:QQ):(l.foldl kS h).length<=h.length+l.length:=by
 induction l generalizing h with
 |nil=>simp
 |cons a l b=>rw[H7];have:=b<|kS h a;have:=Dp h a;simp;omega
def rW{l:QT}{h:QQ}(a:k<l.length):(hY<|l.take<|k+1).foldl kS h=kS ((hY<|l.take k).foldl kS h) l[k].o:=by
 rw[Y_ a];unfold hY;rw[GN,Ig];rfl
def w4(l:QT)(t:Tk)(E:kV w t)(h:mh w A c l)(hn:l.length+t.nw.l.length<=999999999)(bK:t.ws.l.length<=1000000000)(de:t.ds.l.length<=1000000000):
 Calls prog 84 #[.agg #[.slice A l.length c],.agg t.g_] w (lO (kG (hY l) t.p) w):=by
 obtain⟨i1,bR,cf,cg,ct⟩:=info_parts infoOb;obtain⟨b,e,i,y⟩:=xO w 35 #[.slice A l.length c] 53 t.g_ 35 #[n_];have m:=h.hF y;have D:=b.f_ 0;have aQ:=O (show kG (hY l) t.p=jz (iL ((hY t.nw.l).foldl kS<|hY l) t.ws.l) t.ds.l from rfl);have ad:=O (show(hY l).length+t.nw.l.length<=999999999 by rw[ib];exact hn);go_enter func84,ntmps84;go_wp2_with (at_builtin;refine pD _ rfl (.const<|n_) (.tmp 8) 33 rfl 56 i1 _ 2 32 underlying33 bR cf cg ct rfl I I none 0 [] rfl (HB _ _ _ _) A l.length c _ rfl m.os (j9 _) X ?_;intro x v w2 S b7 z;simp only[U_,G0]at b7 S;replace b:=b.hF z;replace e:=e.hF z;replace i:=i.hF z;replace y:=y.trans z;replace D:=b.f_ 0;have bE:=b.hG 0;have ax:mh w2 x v l:=⟨b7,m.ll.hF z,S⟩;have ae:=b.hW 0<|.slice x l.length v;have cO:=e.ir (p:=(Z w.heap.size 0)) sd_<|.slice x l.length v;have aG:=i.ir (p:=(Z w.heap.size 0)) sd_<|.slice x l.length v;have aj:=ax.iy b I I<|(G_ _ _).setCell (p:=(Z w.heap.size 0)) (.inl s_)<|.slice x l.length v;have ak:=y.setCell (p:=(Z w.heap.size 0)) (.inr s_)<|.slice x l.length v;have bP:(w2.setCell (Z w.heap.size 0)<|.slice x l.length v).cell? (Z (w.heap.size+1) 39)=some (.slice t.nw.A t.nw.l.length t.nw.c):=(cO.f_ 39).trans rfl);have e:=cO;have i:=aG;have b:=ae;have m:=aj;have y:=ak;go_loopw [14] (λQ wr=>∃(k:Nat) (n:OA) (s:Nat) (g:QT),k<=t.nw.l.length/\Q=Y k/\Bk wr (w.heap.size+1) 53 t.g_/\Bk wr (w.heap.size+1+1) 35 #[n_]/\Bk wr (w.heap.size) 35 #[.slice n g.length s]/\mh wr n s g/\hY g=(hY<|t.nw.l.take k).foldl kS (hY l)/\J [] w wr) (λQ _=>t.nw.l.length-(intOf Q).toNat)
 case atStart=>exact⟨0,x,v,l,R_ _,rfl,e,i,b,m,rfl,y⟩
 obtain⟨k,n,s,g,hk,rfl,e,i,b,m,bJ,u⟩:=hrel;have q:=O bJ;have al:g.length<=999999999:=by
  have h1:=ib g;have h2:=o7 (hY<|t.nw.l.take k)<|hY l;rw[bJ]at h1;rw[ib<|t.nw.l.take k,Hj]at h2;have h3:=ad.out;omega
 by_cases K:k<t.nw.l.length
 .obtain⟨am,off,T,bt,bA⟩:=(E.nw.hF u).at_ K;rw[T];have U:=O (show(hY<|t.nw.l.take<|k+1).foldl kS (hY l)=kS (hY g) t.nw.l[k].o by rw[q.out];exact rW K);have P:=(E.nr.hF<|u.alloc<|.cells #[Y t.nw.l[k].o.id,.slice t.nw.l[k].A t.nw.l[k].o.fs.length t.nw.l[k].c] 56) t.nw.l[k]<|P_ K;generalize t.nw.l[k]=a at*;have R:Sl (wr.alloc<|.cells #[Y a.o.id,.slice a.A a.o.fs.length a.c] 56) 38 2 a.A a.o.fs.length (jo a.o.fs):=P.1;have aC:(k:Int)<(t.nw.l.length:Int):=X;replace e:=e.alloc<|.cells #[Y a.o.id,.slice a.A a.o.fs.length a.c] 56;replace i:=i.alloc<|.cells #[Y a.o.id,.slice a.A a.o.fs.length a.c] 56;replace b:=b.alloc<|.cells #[Y a.o.id,.slice a.A a.o.fs.length a.c] 56;replace m:=m.alloc<|.cells #[Y a.o.id,.slice a.A a.o.fs.length a.c] 56;replace u:=u.alloc<|.cells #[Y a.o.id,.slice a.A a.o.fs.length a.c] 56;have D:=b.f_ 0;have L:=T_ wr 56 #[Y a.o.id,.slice a.A a.o.fs.length a.c];have an:=L.f_ 0;have af:=L.f_ 1;go_wp2_with (go_at_call 123;((with_reducible refine(vU n s g a.o.id a.A a.c a.o.fs m.os m.ll m.l6 R P.2 al).mono ?_);rintro ap C⟨F,N,B,rfl,V,W,H,d,r⟩;have j:=O d;replace e:=e.hF r;replace i:=i.hF r;replace b:=b.hF r;replace u:=u.trans r;replace D:=b.f_ 0;have bE:=b.hG 0));go_roundw;exact⟨k+1,F,N,B,X,gn,e.ir sd_ _,i.ir sd_ _,b.hW 0 _,(mh.mk W H V).iy b I I<|(G_ _ _).setCell (.inl s_) _,by rw[U.out,j.out],u.setCell (.inr<|by first|(simp;done)|(simp;omega)|omega) _⟩;exact mz
 have bO:=O (show k=t.nw.l.length by omega);have aC:¬(k:Int)<(t.nw.l.length:Int):=X;have D:=b.f_ 0;have bM:wr.cell? (Z (w.heap.size+1) 38)=some (.slice t.ws.A t.ws.l.length t.ws.c):=(e.f_ 38).trans rfl;have bl:wr.cell? (Z (w.heap.size+1) 40)=some (.slice t.ds.A t.ds.l.length t.ds.c):=(e.f_ 40).trans rfl;have aq:=m.hF (G_ [] wr).drew;have W:=u.drew;have ar:g.length<=1000000000:=X;go_wp2_with fail;go_region_held3 (λR=>R.cell? (Z w.heap.size 0)=some (.slice n g.length s)/\R.cell? (Z (w.heap.size+1) 38)=some (.slice t.ws.A t.ws.l.length t.ws.c)/\R.cell? (Z (w.heap.size+1) 40)=some (.slice t.ds.A t.ds.l.length t.ds.c)) (first|exact dI|exact dO|exact aZ|go_keep)
  (first
    |(go_at_call 125;((with_reducible refine(n9 n s g t.ws.A t.ws.c t.ws.l _ aq ar (E.hF W).ws bK).mono ?_);unfold lO;rintro ap C⟨F,N,B,rfl,au,d,r⟩;have j:=O d;have av:B.length<=1000000000:=(by have:=ib B;rw[d,j1,ib]at this;omega);have P:=e.drew.hF r;have T:=b.drew.hF r;have H:=i.drew.hF r;have aK:=W.trans r;have dI:C.cell? (Z w.heap.size 0)=some (.slice n g.length s)/\C.cell? (Z (w.heap.size+1) 38)=some (.slice t.ws.A t.ws.l.length t.ws.c)/\C.cell? (Z (w.heap.size+1) 40)=some (.slice t.ds.A t.ds.l.length t.ds.c):=⟨T.f_ 0,(P.f_ 38).trans rfl,(P.f_ 40).trans rfl⟩))
    |(go_at_call 124;((with_reducible refine(sy F N B t.ds.A t.ds.c t.ds.l au av (E.hF aK).ds de).mono ?_);unfold lO;rintro ap a⟨aL,aI,f,rfl,bT,dz,aD⟩;have aY:=O dz;have L:=P.hF aD;have U:=T.hF aD;have M:=H.hF aD;have dR:=M.hG 0;have cj:=M.f_ 0;have dO:a.cell? (Z w.heap.size 0)=some (.slice n g.length s)/\a.cell? (Z (w.heap.size+1) 38)=some (.slice t.ws.A t.ws.l.length t.ws.c)/\a.cell? (Z (w.heap.size+1) 40)=some (.slice t.ds.A t.ds.l.length t.ds.c):=⟨U.f_ 0,(L.f_ 38).trans rfl,(L.f_ 40).trans rfl⟩;have ay:=U.ir (p:=(Z (w.heap.size+1+1) 0)) sd_<|.slice aL f.length aI;have V:=L.ir (p:=(Z (w.heap.size+1+1) 0)) sd_<|.slice aL f.length aI;have aZ:(a.setCell (Z (w.heap.size+1+1) 0)<|.slice aL f.length aI).cell? (Z w.heap.size 0)=some (.slice n g.length s)/\(a.setCell (Z (w.heap.size+1+1) 0)<|.slice aL f.length aI).cell? (Z (w.heap.size+1) 38)=some (.slice t.ws.A t.ws.l.length t.ws.c)/\(a.setCell (Z (w.heap.size+1+1) 0)<|.slice aL f.length aI).cell? (Z (w.heap.size+1) 40)=some (.slice t.ds.A t.ds.l.length t.ds.c):=⟨ay.f_ 0,(V.f_ 38).trans rfl,(V.f_ 40).trans rfl⟩)))
 exact J9
def pH(A:OA)(c:Nat)(l:QT)(H:kV w t)(h:mh w A c l)(hn:l.length+t.nw.l.length<=999999999)(bK:t.ws.l.length<=1000000000)(de:t.ds.l.length<=1000000000)(df:t.gs.l.length<=1000000000)(V:t.rs.l.length<=1000000000):
 Calls prog 79 #[.agg t.g_,.agg #[.slice A l.length c]] w (lO (iR t.p<|hY l) w):=by
 obtain⟨i1,bR,cf,cg,ct⟩:=info_parts infoOb;obtain⟨e,a2,i,u⟩:=xO w 53 t.g_ 35 #[.slice A l.length c] 35 #[n_];have r:=h.hF u;have R:=a2.f_ 0;have hn1:l.length<=1000000000:=X;have aQ:=O (show iR t.p (hY l)=jz (iL ((hY t.nw.l).foldl kS<|before t.p<|hY l) t.ws.l) t.ds.l from rfl);have ad:=O (show(before t.p<|hY l).length+t.nw.l.length<=999999999 by rw[mT,ib];exact hn);go_enter func79,ntmps79;go_wp2_with (first|(refine la e underlying53 ?_)|(go_at_call 122;((with_reducible refine(pl t A c l (H.hF u) r hn1 df V).mono ?_);unfold lO;rintro aj m⟨C,D,g,rfl,N,d8,L⟩;have ak:=O d8;have ae:=O (show g.length=l.length from(by have:=ib g;rw[d8,mT,ib]at this;exact this.symm));have al:=(i.hF L).lt;have am:w.heap.size≠m.heap.size:=X;have G:w.heap.size+1+1≠m.heap.size:=X;replace e:=(e.hF L).alloc<|.cells #[.slice C g.length D] 35;replace i:=(i.hF L).alloc<|.cells #[.slice C g.length D] 35;have b:=T_ m 35 #[.slice C g.length D];replace N:=N.alloc<|.cells #[.slice C g.length D] 35;replace u:=(u.trans L).alloc<|.cells #[.slice C g.length D] 35;have bq:=b.f_ 0))|(at_builtin;refine pD _ rfl (.const<|n_) (.tmp 12) 33 rfl 56 i1 _ 2 32 underlying33 bR cf cg ct rfl I I none 0 [] rfl (HB _ _ _ _) C g.length D _ rfl N.os (j9 _) (ov ae.out) ?_;intro B z w2 an b7 E;simp only[U_,G0]at b7 an;replace b:=b.hF E;replace e:=e.hF E;replace i:=i.hF E;replace u:=u.trans E;replace bq:=b.f_ 0;have bz:=b.hG 0;have ax:mh w2 B z g:=⟨b7,N.ll.hF E,an⟩;have ap:=b.hW 0<|.slice B g.length z;have cO:=e.ir (p:=(Z m.heap.size 0)) am<|.slice B g.length z;have aG:=i.ir (p:=(Z m.heap.size 0)) G<|.slice B g.length z;have aq:=ax.iy b I I<|(G_ _ _).setCell (p:=(Z m.heap.size 0)) (.inl s_)<|.slice B g.length z;have ar:=u.setCell (p:=(Z m.heap.size 0)) (.inr (show w.heap.size<=m.heap.size by omega))<|.slice B g.length z;have bP:(w2.setCell (Z m.heap.size 0)<|.slice B g.length z).cell? (Z w.heap.size 39)=some (.slice t.nw.A t.nw.l.length t.nw.c):=(cO.f_ 39).trans rfl));have e:=cO;have i:=aG;have b:=ap;have r:=aq;have u:=ar;go_loopw [18] (λau wr=>∃(k:Nat) (s:OA) (x:Nat) (n:QT),k<=t.nw.l.length/\au=Y k/\Bk wr (w.heap.size) 53 t.g_/\Bk wr (w.heap.size+1+1) 35 #[n_]/\Bk wr (m.heap.size) 35 #[.slice s n.length x]/\mh wr s x n/\hY n=(hY<|t.nw.l.take k).foldl kS (before t.p<|hY l)/\J [] w wr) (λau _=>t.nw.l.length-(intOf au).toNat)
 case atStart=>exact⟨0,B,z,g,R_ _,rfl,e,i,b,r,ak.out,u⟩
 obtain⟨k,s,x,n,hk,rfl,e,i,b,r,bJ,y⟩:=hrel;have q:=O bJ;have av:n.length<=999999999:=by
  have h1:=ib n;have h2:=o7 (hY<|t.nw.l.take k)<|before t.p<|hY l;rw[bJ]at h1;rw[ib<|t.nw.l.take k,Hj]at h2;have h3:=ad.out;omega
 by_cases S:k<t.nw.l.length
 .obtain⟨ay,off,aU,bt,bA⟩:=(H.nw.hF y).at_ S;rw[aU];have bS:=O (show(hY<|t.nw.l.take<|k+1).foldl kS (before t.p<|hY l)=kS (hY n) t.nw.l[k].o by rw[q.out];exact rW S);have W:=(H.nr.hF<|y.alloc<|.cells #[Y t.nw.l[k].o.id,.slice t.nw.l[k].A t.nw.l[k].o.fs.length t.nw.l[k].c] 56) t.nw.l[k]<|P_ S;generalize t.nw.l[k]=a at*;have aF:Sl (wr.alloc<|.cells #[Y a.o.id,.slice a.A a.o.fs.length a.c] 56) 38 2 a.A a.o.fs.length (jo a.o.fs):=W.1;have aC:(k:Int)<(t.nw.l.length:Int):=X;replace e:=e.alloc<|.cells #[Y a.o.id,.slice a.A a.o.fs.length a.c] 56;replace i:=i.alloc<|.cells #[Y a.o.id,.slice a.A a.o.fs.length a.c] 56;replace b:=b.alloc<|.cells #[Y a.o.id,.slice a.A a.o.fs.length a.c] 56;replace r:=r.alloc<|.cells #[Y a.o.id,.slice a.A a.o.fs.length a.c] 56;replace y:=y.alloc<|.cells #[Y a.o.id,.slice a.A a.o.fs.length a.c] 56;have R:=b.f_ 0;have T:=T_ wr 56 #[Y a.o.id,.slice a.A a.o.fs.length a.c];have az:=T.f_ 0;have af:=T.f_ 1;go_wp2_with (go_at_call 123;((with_reducible refine(vU s x n a.o.id a.A a.c a.o.fs r.os r.ll r.l6 aF W.2 av).mono ?_);rintro aj K⟨P,U,F,rfl,bg,aA,Q,d,v⟩;have j:=O d;replace e:=e.hF v;replace i:=i.hF v;replace b:=b.hF v;replace y:=y.trans v;replace R:=b.f_ 0;have bE:=b.hG 0));go_roundw;exact⟨k+1,P,U,F,X,gn,e.ir am _,i.ir G _,b.hW 0 _,(mh.mk aA Q bg).iy b I I<|(G_ _ _).setCell (.inl s_) _,by rw[bS.out,j.out],y.setCell (.inr (show w.heap.size<=m.heap.size by omega)) _⟩;exact mz
 have bO:=O (show k=t.nw.l.length by omega);have aC:¬(k:Int)<(t.nw.l.length:Int):=X;have R:=b.f_ 0;have bM:wr.cell? (Z w.heap.size 38)=some (.slice t.ws.A t.ws.l.length t.ws.c):=(e.f_ 38).trans rfl;have bl:wr.cell? (Z w.heap.size 40)=some (.slice t.ds.A t.ds.l.length t.ds.c):=(e.f_ 40).trans rfl;have aH:=r.hF (G_ [] wr).drew;have ao:=y.drew;have aJ:n.length<=1000000000:=X;go_wp2_with fail;go_region_held3 (λw'=>w'.cell? (Z m.heap.size 0)=some (.slice s n.length x)/\w'.cell? (Z w.heap.size 38)=some (.slice t.ws.A t.ws.l.length t.ws.c)/\w'.cell? (Z w.heap.size 40)=some (.slice t.ds.A t.ds.l.length t.ds.c)) (first|exact dI|exact dO|exact aZ|go_keep)
  (first
    |(go_at_call 125;((with_reducible refine(n9 s x n t.ws.A t.ws.c t.ws.l _ aH aJ (H.hF ao).ws bK).mono ?_);unfold lO;rintro aj K⟨P,U,F,rfl,aN,d,v⟩;have j:=O d;have aO:F.length<=1000000000:=(by have:=ib F;rw[d,j1,ib]at this;omega);have W:=e.drew.hF v;have aP:=b.drew.hF v;have Q:=i.drew.hF v;have aK:=ao.trans v;have dI:K.cell? (Z m.heap.size 0)=some (.slice s n.length x)/\K.cell? (Z w.heap.size 38)=some (.slice t.ws.A t.ws.l.length t.ws.c)/\K.cell? (Z w.heap.size 40)=some (.slice t.ds.A t.ds.l.length t.ds.c):=⟨aP.f_ 0,(W.f_ 38).trans rfl,(W.f_ 40).trans rfl⟩))
    |(go_at_call 124;((with_reducible refine(sy P U F t.ds.A t.ds.c t.ds.l aN aO (H.hF aK).ds de).mono ?_);unfold lO;rintro aj a⟨aL,aI,f,rfl,bT,dz,aD⟩;have aY:=O dz;have T:=W.hF aD;have aM:=aP.hF aD;have M:=Q.hF aD;have dR:=M.hG 0;have cj:=M.f_ 0;have dO:a.cell? (Z m.heap.size 0)=some (.slice s n.length x)/\a.cell? (Z w.heap.size 38)=some (.slice t.ws.A t.ws.l.length t.ws.c)/\a.cell? (Z w.heap.size 40)=some (.slice t.ds.A t.ds.l.length t.ds.c):=⟨aM.f_ 0,(T.f_ 38).trans rfl,(T.f_ 40).trans rfl⟩;have aS:=aM.ir (p:=(Z (w.heap.size+1+1) 0)) G.symm<|.slice aL f.length aI;have aW:=T.ir (p:=(Z (w.heap.size+1+1) 0)) sd_<|.slice aL f.length aI;have aZ:(a.setCell (Z (w.heap.size+1+1) 0)<|.slice aL f.length aI).cell? (Z m.heap.size 0)=some (.slice s n.length x)/\(a.setCell (Z (w.heap.size+1+1) 0)<|.slice aL f.length aI).cell? (Z w.heap.size 38)=some (.slice t.ws.A t.ws.l.length t.ws.c)/\(a.setCell (Z (w.heap.size+1+1) 0)<|.slice aL f.length aI).cell? (Z w.heap.size 40)=some (.slice t.ds.A t.ds.l.length t.ds.c):=⟨aS.f_ 0,(aW.f_ 38).trans rfl,(aW.f_ 40).trans rfl⟩)))
 exact J9
end
variable{G:Prop}{w:World}{k:Nat}(l:QR)(A:OA)(hH hC:Int)
def J2(h:G:=by
 go_wp2_with ((go_at_call 147;have ad:=rx c l hH hC k g (h.hF hg1) (C.hF hg1) aF X;rw[hL,hf]at ad;refine ad.mono ?_;rintro e NY⟨rfl,hg⟩;replace t:=t.hF hg;have U:=t.f_ 0;have ak:=t.f_ 4;replace hg1:=hg1.trans hg;replace E:=hB.hF hg1;clear z0 aM aU;have z0:=E.f_ 0;have aM:=E.f_ 1;have aU:=E.f_ 2;clear hg));go_ret;exact⟨iJ bn.out.symm,N2.trans hg1⟩):G:=h
def J7(h:G:=by
 go_enter func97,ntmps97;go_wp2_with (go_at_call 133;refine(qM A c l hH hC _ (h.hF hg1) hn).mono ?_;rintro e NY⟨rfl,hg⟩;replace hg1:=hg1.trans hg;replace hB:=hB.hF hg;have z0:=hB.f_ 0;have aM:=hB.f_ 1;have aU:=hB.f_ 2;clear hg);exact Mg):G:=h
def KX(h:G:=by
 have aE:((n:Int)<1)=False:=p_;have z:(2048<(n:Int))=False:=p_;have y:(hH<0)=False:=p_;have o:(64<hH)=False:=p_;exact Nt):G:=h
def K3(h:G:=by
 have bH:=O (show rz l hH hC d=false by unfold rz;rw[HI.out,pm (p:=bad d hC) a<|by rw[It];exact aQ.out];rfl);clear HI aQ;go_wp2;go_ret;exact⟨iJ bH.out.symm,N2.trans F⟩):G:=h
def Mg(h:G:=by
 go_ret;exact⟨iJ (by first|exact bn.out.symm|(rw[bn.out];simp[a,d,e])|(rw[bn.out];simp[a])),hg1⟩):G:=h
def M5(h:G:=by
 go_enter func147,ntmps147;go_wp2;go_ret;exact⟨iJ ad.out.symm,N2.alloc _⟩):G:=h
def Nt(h:G:=by
 go_enter func92,ntmps92;go_wp2;go_ret;exact⟨iJ bn.out.symm,N2⟩):G:=h
def E3{g:Nat}(h:Sl w 274 4 (j_ g) 22 q6)(s:k<22):
 w.cell? (Z g<|k*4)=some (.bool (je.getD k default).a)/\w.cell? (Z g<|k*4+1)=some (.bool (je.getD k default).b)/\w.cell? (Z g<|k*4+2)=some (.bool (je.getD k default).c)/\w.cell? (Z g<|k*4+3)=some (Y (je.getD k default).n):=by
 obtain⟨b,u,f,q⟩:=Sl.f_ h X;injection f with f;injection f with o p;subst o;subst p;have i:k<je.length:=s;have m:je.getD k default=je[k]:=by simp[List.getD,O_ i]
 rw[m];have g:=λd r=>jr Sh.E 4 (λ_=>rfl) je k d i r;have e:=λd j(t:q6[d]?=some j)=>by have:=q d j t;rwa [U_]at this
 exact⟨e (k*4+0) _<|g 0 X,e (k*4+1) _<|g 1 X,e (k*4+2) _<|g 2 X,e (k*4+3) _<|g 3 X⟩
def Ca(c:Nat)(l:QR)(hH hC:Int)(i g:Nat)(w:World)(h:Is w A l)(b:i<l.length)(v:l.length<=1000000000)(a:l[i].op<0\/21<l[i].op):
 Calls prog 147 #[.agg #[.slice A l.length c,Y hH,Y hC],Y i,.slice (j_ g) 22 22] w λe w'=>e=.returned (.bool<|kU l i)/\J [] w w':=by
 have ad:=O (show kU l i=false by
  unfold kU jU;have e:l.getD i default=l[i]:=by simp[List.getD,O_ b]
  rw[e,L_ a])
 have N2:=(G_ [] w).alloc<|.cells #[.slice A l.length c,Y hH,Y hC] 26;obtain⟨t,y,rfl,n,d,m,j,f⟩:=(h.hF N2).at_ b;have r:(i:Int)<(l.length:Int):=X;generalize l[i]=p at*;obtain⟨op,q,s,u,x⟩:=p;simp only at a n d m j f;rcases a with o|o
 exact M5;exact M5
def Ev(h:G:=by first|(simp[r1];done)|(simp[r1,r2,e13,e10,h13,h10];done)|(simp[r1,r2,r3,e13,e10,h13,h10];done)|(simp[r1,r2,r3,e13,e10,h13,h10,m0];done)|(simp[r1,r2,r3,e13,e10,h13,h10,m1];done)|(simp[r1,r2,r3,e13,e10,h13,h10,mb];done)|(simp[r1,r2,r3,e13,e10,h13,h10,mb,m1];done)|(simp[r1,r2,r3,e13,e10,h13,h10,mb,m1,m2];done)|(simp[r1,r2,r3,e13,e10,h13,h10,m1,m2];done)|(simp[r1,r2,r3,e13,e10,h13,h10,m1,m2,m3];done)|(simp[r1,r2,r3,e13,e10,h13,h10,m1,m2,m3,m4];done)|(simp[r1,r2,r3,e13,e10,h13,h10,m0,m1];done)|(simp[r1,e13,e10,n1];done)|(simp[r1,e13,e10,n1,n2];done)|(simp[r1,e13,e10,n1,n2,n3];done)|(simp[r1,e13,e10,n1,n2,n3,n4];done)|(simp[r1,e13,e10,n1,n2,n3,n4,n5];done)|(simp[r1,e13,e10,n1,n2,n3,n4,n5,m1];done)|(simp[r1,r3,e13,e10];done)|(simp[r1,r3,e13,e10,r4];done)|(simp[r1,r3,e13,e10,r4,m1];done)|(simp[r1,r3,e13,e10,r4,m1,m2];done)|fail):G:=h
def kH(h:G:=by
 first|(have aL:Hid (NZ=false):=O<|by rw[<-HZ.out];unfold jU;dsimp only;rw[K_ X];exact Ev)|(have aL:Hid (NZ=true):=O<|by rw[<-HZ.out];unfold jU;dsimp only;rw[K_ X];exact Ev)
 go_wp2_with (first
  |(go_at_call 178;refine(vQ).mono ?_;rintro e w2⟨rfl,rfl⟩)
  |(go_at_call 133;refine(qM _ c l hH hC _ (h.hF f) hn).mono ?_;rintro e w2⟨rfl,hg⟩;have f:=f.trans hg;have bH:=bH.hF hg;have cO:=cO.hF hg;have c3:=c3.hF hg;have m:=bH.f_ 0;have q:=bH.f_ 1;have r:=bH.f_ 2;have u:=cO.f_ 0;have v:=cO.f_ 1;have y:=cO.f_ 2;have z:=cO.f_ 3;have D:=cO.f_ 4;have E:=c3.f_ 0;have F:=c3.f_ 1;have H:=c3.f_ 2;have N2:=c3.f_ 3)
  |(go_at_call 179;refine(vB _ _).mono ?_;rintro e w2⟨rfl,rfl⟩)
  |(go_at_call 180;refine(rk _).mono ?_;rintro e w2⟨⟨st,rfl⟩,hg⟩;have f:=f.trans hg;have bH:=bH.hF hg;have cO:=cO.hF hg;have c3:=c3.hF hg;have m:=bH.f_ 0;have q:=bH.f_ 1;have r:=bH.f_ 2;have u:=cO.f_ 0;have v:=cO.f_ 1;have y:=cO.f_ 2;have z:=cO.f_ 3;have D:=cO.f_ 4;have E:=c3.f_ 0;have F:=c3.f_ 1;have H:=c3.f_ 2;have N2:=c3.f_ 3))
 go_ret;exact⟨iJ (by first|exact aL.out.symm|(rw[aL.out];exact Ev)),f⟩):G:=h
def Eu(A:Option Addr)(c:Nat)(l:QR)(hH hC:Int)(i g:Nat)(w:World)(h:Is w A l)(C:Sl w 274 4 (j_ g) 22 q6)(U:i<l.length)(hn:l.length<=1000000000)(h0:0<=l[i].op)(t:l[i].op<=21):
 Calls prog 147 #[.agg #[.slice A l.length c,Y hH,Y hC],Y i,.slice (j_ g) 22 22] w λe w'=>e=.returned (.bool<|kU l i)/\J [] w w':=by
 have S:kU l i=jU l i l[i] (je.getD l[i].op.toNat default):=by
  unfold kU;have e:l.getD i default=l[i]:=by simp[List.getD,O_ U]
  rw[e]
 rw[S];clear S;have Q:=(((G_ [] w).alloc<|.cells #[.slice A l.length c,Y hH,Y hC] 26));obtain⟨x,B,rfl,bt,bA,bW,bL,bD⟩:=(h.hF Q).at_ U;have ag:(i:Int)<(l.length:Int):=X;have N:=C0 l[i].op.toNat X;have P:=Q.alloc<|.cells #[Y l[i].op,Y l[i].a,Y l[i].b,Y l[i].c,Y l[i].n] 189;obtain⟨W,b0,cg,cJ⟩:=E3 (C.hF P) (k:=l[i].op.toNat) X;have M:l[i].op=13->je.getD l[i].op.toNat default=⟨false,false,false,7⟩:=λh=>by rw[h];rfl
 have L:l[i].op=10->je.getD l[i].op.toNat default=⟨true,false,false,5⟩:=λh=>by rw[h];rfl
 generalize je.getD l[i].op.toNat default=ad at*;obtain⟨o,p,s,d⟩:=ad;generalize l[i]=ae at*;obtain⟨op,a,b,j,n⟩:=ae;obtain⟨k,hk⟩:∃k:Nat,op=k:=⟨op.toNat,(HQ h0).symm⟩;simp only at*;subst hk;simp only[Hh]at*;have di:(k:Int)<22:=X;obtain⟨NZ,R⟩:=mn_<|jU l i ⟨k,a,b,j,n⟩ ⟨o,p,s,d⟩;rw[R];have HZ:=O R;clear R;go_enter func147,ntmps147;go_wp2_with fail;go_quiet (fail);have T:=P.alloc<|.cells #[.bool o,.bool p,.bool s,Y d] 274;have r3:Bk _ w.heap.size 26 #[.slice (some<|Z x B) l.length c,Y hH,Y hC]:=((T_ w 26 #[.slice (some<|Z x B) l.length c,Y hH,Y hC]).alloc<|.cells #[Y (k:Int),Y a,Y b,Y j,Y n] 189).alloc<|.cells #[.bool o,.bool p,.bool s,Y d] 274;have V:Bk _ (w.heap.size+1) 189 #[Y (k:Int),Y a,Y b,Y j,Y n]:=(by simpa using(T_ (w.alloc<|.cells #[.slice (some<|Z x B) l.length c,Y hH,Y hC] 26) 189 #[Y (k:Int),Y a,Y b,Y j,Y n]).alloc (.cells #[.bool o,.bool p,.bool s,Y d] 274):Bk (((w.alloc<|.cells #[.slice (some<|Z x B) l.length c,Y hH,Y hC] 26).alloc<|.cells #[Y (k:Int),Y a,Y b,Y j,Y n] 189).alloc<|.cells #[.bool o,.bool p,.bool s,Y d] 274) (w.heap.size+1) 189 #[Y (k:Int),Y a,Y b,Y j,Y n]);obtain⟨-,-,G,-⟩:=xO w 26 #[.slice (some<|Z x B) l.length c,Y hH,Y hC] 189 #[Y (k:Int),Y a,Y b,Y j,Y n] 274 #[.bool o,.bool p,.bool s,Y d];have f:=T.drewN nq;have bH:=r3.drewN nq;have cO:=V.drewN nq;have c3:=G.drewN nq;clear W b0 cg cJ bt bA bW bL bD C P Q T r3 V G;generalize (((w.alloc<|.cells #[.slice (some<|Z x B) l.length c,Y hH,Y hC] 26).alloc<|.cells #[Y (k:Int),Y a,Y b,Y j,Y n] 189).alloc<|.cells #[.bool o,.bool p,.bool s,Y d] 274).drewN nq=w1 at*;have m:=bH.f_ 0;have q:=bH.f_ 1;have r:=bH.f_ 2;have u:=cO.f_ 0;have v:=cO.f_ 1;have y:=cO.f_ 2;have z:=cO.f_ 3;have D:=cO.f_ 4;have E:=c3.f_ 0;have F:=c3.f_ 1;have H:=c3.f_ 2;have N2:=c3.f_ 3;by_cases h13:(k:Int)=13
 .have I:=M h13;simp only[Sh.mk.injEq]at I;obtain⟨rfl,rfl,rfl,rfl⟩:=I;clear M L N;obtain rfl:k=13:=X;simp only[Int.cast_ofNat_Int]at*;have e13:((13:Int)==13)=true:=rfl;have e10:((13:Int)==10)=false:=rfl;cases r1:mC a false with
  |false=>exact kH
  |true=>
   by_cases n1:b<0;exact kH;by_cases n2:4<b
   .exact kH
   by_cases n3:j<b
   .exact kH
   by_cases n4:64<j
   .exact kH
   by_cases n5:iG l ((i:Int)+1)=21
   .by_cases m1:iG l n=21
    .exact kH
    exact kH
   exact kH
 have e13:((k:Int)==13)=false:=zu h13;by_cases h10:(k:Int)=10
 .have I:=L h10;simp only[Sh.mk.injEq]at I;obtain⟨rfl,rfl,rfl,rfl⟩:=I;clear M L N;obtain rfl:k=10:=X;simp only[Int.cast_ofNat_Int]at*;replace e13:((10:Int)==13)=false:=rfl;have e10:((10:Int)==10)=true:=rfl;cases r1:mC a true with
  |false=>exact kH
  |true=>
   cases r3:mC j false with
   |false=>exact kH
   |true=>
    cases r4:qV b with
    |false=>exact kH
    |true=>
     by_cases m1:0<=n;by_cases m2:n<64
     .exact kH
     exact kH;exact kH
 have e10:((k:Int)==10)=false:=zu h10;clear M L;have K:d=0\/d=1\/d=2\/d=3\/d=4\/d=5\/d=6\/d=7\/d=8\/d=9:=X;clear N;cases r1:mC a o with
 |false=>rcases K with rfl|rfl|rfl|rfl|rfl|rfl|rfl|rfl|rfl|rfl<;>exact kH
 |true=>
 cases r2:mC b p with
 |false=>rcases K with rfl|rfl|rfl|rfl|rfl|rfl|rfl|rfl|rfl|rfl<;>exact kH
 |true=>
 cases r3:mC j s with
 |false=>rcases K with rfl|rfl|rfl|rfl|rfl|rfl|rfl|rfl|rfl|rfl<;>exact kH
 |true=>
 rcases K with rfl|rfl|rfl|rfl|rfl|rfl|rfl|rfl|rfl|rfl
 by_cases m0:n=0
 .exact kH
 exact kH;exact kH
 .cases mb:pX n with
  |false=>exact kH
  |true=>
  by_cases m1:0<=n
  .by_cases m2:n<100
   .exact kH
   exact kH
  exact kH
 by_cases m1:0<=n
 .by_cases m2:n<16
  .exact kH
  exact kH
 exact kH;by_cases m1:0<=n
 .by_cases m2:n<=16
  .exact kH
  exact kH
 exact kH;by_cases m1:0<=n
 .by_cases m2:n<64
  .by_cases m3:(k:Int)=20
   .by_cases m4:iG l ((i:Int)-1)=21
    .exact kH
    exact kH
   exact kH
  exact kH
 exact kH;by_cases m1:0<=iG l n
 .by_cases m2:iG l n=20
  .exact kH
  by_cases m3:(i:Int)<n
  .exact kH
  by_cases m4:iG l n=21
  .exact kH
  exact kH
 exact kH;by_cases m1:iG l n=21
 .exact kH
 exact kH
 .by_cases m0:n=0
  .exact kH
  by_cases m1:iG l n=21
  .exact kH
  exact kH
 exact kH
def rx{A:OA}(c:Nat)(l:QR)(hH hC:Int)(i g:Nat)(h:Is w A l)(C:Sl w 274 4 (j_ g) 22 q6)(a:i<l.length)(b:l.length<=1000000000):
 Calls prog 147 #[.agg #[.slice A l.length c,Y hH,Y hC],Y i,.slice (j_ g) 22 22] w λe w'=>e=.returned (.bool<|kU l i)/\J [] w w':=by
 by_cases d:l[i].op<0\/21<l[i].op
 .exact Ca A c l hH hC i g w h a b d
 exact Eu A c l hH hC i g w h C a b X X
def nL(l:QR)(hC:Int):List In->Nat->Int->Bool
 |[],_,m=>hC==m
 |x::t,k,m=>kU l k&&(if x.op=21 then(x.n==m)&&nL l hC t (k+1) (m+1) else nL l hC t (k+1) m)
def Bd(t:QR):∀(k:Nat) (m:Int),
 ((List.range' k t.length).all (kU l)&&kx t m&&(hC==m+jM t))=nL l hC t k m:=by
 induction t with
 |nil=>intro k m;simp[nL,kx,jM]
 |cons a t d=>
  intro k m;have e:List.range' k (a::t).length=k::List.range' (k+1) t.length:=by simp[List.range'_succ]
  rw[e];by_cases b:a.op=21;have c:m+jM (a::t)=(m+1)+jM t:=by simp[jM,b];omega
  rw[c];simp only[nL,kx,b,if_true,List.all_cons,<-d];cases kU l k<;>cases(a.n==m)<;>simp
  have c:jM (a::t)=jM t:=by simp[jM,b]
  rw[c];simp only[nL,kx,b,if_false,List.all_cons,<-d];cases kU l k<;>simp
def zF{l:QR}{hC:Int}{m:Int}(h:l.length<=k):nL l hC (l.drop k) k m=(hC==m):=by
 rw[Hd h];rfl
def x2(k:Nat)(m:Int)(h:k<l.length):
 nL l hC (l.drop k) k m=(kU l k&&(if l[k].op=21 then(l[k].n==m)&&nL l hC (l.drop<|k+1) (k+1) (m+1) else nL l hC (l.drop<|k+1) (k+1) m)):=by
 rw[W_ h];rfl
def Bf:ih l hH hC=(decide (1<=l.length)&&decide (l.length<=2048)&&decide (0<=hH)&&decide (hH<=64)&&(iG l 0==21)&&
 (iG l ((l.length:Int)-1)==14||iG l ((l.length:Int)-1)==16||iG l ((l.length:Int)-1)==11)&&nL l hC (l.drop 0) 0 0):=by
 rw[List.drop_zero,<-Bd,<-List.range_eq_range',Int.zero_add];unfold ih nF;simp only[Bool.and_assoc]
def iY(c:Nat)(l:QR)(hH hC:Int)(h:Is w A l)(W:l.length<=1000000000):
 Calls prog 92 #[.agg #[.slice A l.length c,Y hH,Y hC]] w λe w'=>e=.returned (.bool<|ih l hH hC)/\J [] w w':=by
 have a:=O<|Bf l hH hC;have N2:=(G_ [] w).alloc<|.cells #[.slice A l.length c,Y hH,Y hC] 26;replace h:=h.hF N2;have hB:=T_ w 26 #[.slice A l.length c,Y hH,Y hC];have z0:=hB.f_ 0;have aM:=hB.f_ 1;have aU:=hB.f_ 2;by_cases h1:l.length<1
 .have bn:=O (show ih l hH hC=false by rw[a.out];simp[show ¬(1<=l.length) by omega]);exact Nt
 by_cases h2:2048<l.length
 .have bn:=O (show ih l hH hC=false by rw[a.out];simp[show ¬(l.length<=2048) by omega]);exact Nt
 by_cases h3:hH<0
 .have bn:=O (show ih l hH hC=false by rw[a.out];simp[show ¬(0<=hH) by omega]);exact Nt
 by_cases ar:64<hH
 .have bn:=O (show ih l hH hC=false by rw[a.out];simp[show ¬(hH<=64) by omega]);exact Nt
 obtain⟨b,K⟩:∃b,l.length=b+1:=⟨l.length-1,X⟩;have V:0<l.length:=X;have F:b<l.length:=X;have m:=O (show iG l 0=l[0].op by unfold iG;rw[K_ X];simp[List.getD,O_ V]);have s:=O (show iG l ((l.length:Int)-1)=l[b].op by
  have e:(l.length:Int)-1=b:=X;unfold iG;rw[e,K_ X];simp[List.getD,O_ F])
 obtain⟨bG,off,rfl,S, -, -, -, -⟩:=h.at_ V;obtain⟨ae,af,j,aY, -, -, -, -⟩:=h.at_ F;injection j with j;injection j with D H;subst D;subst H;rw[IA,Id]at S;generalize l[b].op=q at*;generalize l[0].op=u at*
 by_cases p:¬u=21
 .have i:(u==21)=false:=zu p;have bn:=O (show ih l hH hC=false by rw[a.out,m.out,i];simp);clear a m s;generalize hL:l.length=n at*;clear F aY i W hL h K;exact KX
 replace p:=Classical.not_not.mp p;have i:(u==21)=true:=zu p;by_cases I:q=14\/q=16\/q=11
 .have x:(q==14||q==16||q==11)=true:=by rcases I with rfl|rfl|rfl<;>rfl
  have R:=O (show ih l hH hC=nL l hC (l.drop 0) 0 (0:Nat) by rw[a.out,m.out,s.out,i,x];simp[show 1<=l.length by omega,show l.length<=2048 by omega,show 0<=hH by omega,show hH<=64 by omega]);clear a m s;generalize hL:l.length=n at*;have a:=R;clear R;have hm:(n:Int)-1=b:=X;clear K x i;subst p;have aE:((n:Int)<1)=False:=p_;have z:(2048<(n:Int))=False:=p_;have y:(hH<0)=False:=p_;have o:(64<hH)=False:=p_;rcases I with rfl|rfl|rfl
  all_goals
   go_enter func92,ntmps92;go_wp2_with (first
    |(go_at_call 146;refine(ya).mono ?_;rintro e N⟨g,rfl,C,hg⟩;replace N2:=N2.trans hg;replace h:=h.hF hg;replace hB:=hB.hF hg;have z0:=hB.f_ 0;have aM:=hB.f_ 1;have aU:=hB.f_ 2;clear hg))
   go_loopw [57,5] (λL Z w'=>∃(k:Nat) (d:Nat),k<=n/\d<=k/\L=Y k/\Z=Y d/\ih l hH hC=nL l hC (l.drop k) k d/\J [] N w') (λL _ _=>n-(intOf L).toNat)
   case atStart=>exact⟨0,0,R_ _,I_ _,rfl,rfl,a.out,G_ _ _⟩
   obtain⟨k,d,hk,hj,rfl,rfl,G,r⟩:=hrel;have HI:=O G;clear G a;clear z0 aM aU;have B:=hB.hF r;have z0:=B.f_ 0;have aM:=B.f_ 1;have aU:=B.f_ 2;by_cases ag:k<n
   .have aF:k<l.length:=X;have f:=O<|x2 l hC k d aF;obtain⟨b',af,j,S,bA,bW,bL,bD⟩:=(h.hF r).at_ aF;injection j with j;injection j with D H;subst D;subst H;generalize l[k]=ai at*;obtain⟨op,P,Q,T,v⟩:=ai;simp only at*;have hg1:=r.alloc<|.cells #[Y op,Y P,Y Q,Y T,Y v] 189;clear z0 aM aU B;have E:=hB.hF hg1;have z0:=E.f_ 0;have aM:=E.f_ 1;have aU:=E.f_ 2;have t:=(λ{N w':World}(_:J [] N w')=>T_ w' 189 #[Y op,Y P,Y Q,Y T,Y v]) r;cases hf:kU l k with
    |false=>
     have bn:=O (show ih l hH hC=false by rw[HI.out,f.out,hf];rfl);clear HI f;exact J2
    |true=>
     by_cases q:op=21
     .have u:(op==21)=true:=zu q;by_cases b:v=d
      .have M:(v==(d:Int))=true:=zu b;have bn:=O (show ih l hH hC=nL l hC (l.drop<|k+1) (k+1) ((d+1:Nat):Int) by rw[HI.out,f.out,hf,L_ q,M];rfl);clear HI f b q;go_wp2_with ((go_at_call 147;have ad:=rx c l hH hC k g (h.hF hg1) (C.hF hg1) aF X;rw[hL,hf]at ad;refine ad.mono ?_;rintro e NY⟨rfl,hg⟩;replace t:=t.hF hg;have U:=t.f_ 0;have ak:=t.f_ 4;replace hg1:=hg1.trans hg;replace E:=hB.hF hg1;clear z0 aM aU;have z0:=E.f_ 0;have aM:=E.f_ 1;have aU:=E.f_ 2;clear hg));go_roundw;exact⟨k+1,d+1,X,X,gn,gn,bn.out,hg1⟩;exact mz
      have M:(v==(d:Int))=false:=zu b;have bn:=O (show ih l hH hC=false by rw[HI.out,f.out,hf,L_ q,M];rfl);clear HI f b q;exact J2
     have u:(op==21)=false:=zu q;have bn:=O (show ih l hH hC=nL l hC (l.drop<|k+1) (k+1) (d:Int) by rw[HI.out,f.out,hf,K_ q];rfl);clear HI f q;go_wp2_with ((go_at_call 147;have ad:=rx c l hH hC k g (h.hF hg1) (C.hF hg1) aF X;rw[hL,hf]at ad;refine ad.mono ?_;rintro e NY⟨rfl,hg⟩;replace t:=t.hF hg;have U:=t.f_ 0;have ak:=t.f_ 4;replace hg1:=hg1.trans hg;replace E:=hB.hF hg1;clear z0 aM aU;have z0:=E.f_ 0;have aM:=E.f_ 1;have aU:=E.f_ 2;clear hg));go_roundw;exact⟨k+1,d,X,X,gn,rfl,bn.out,hg1⟩;exact mz
   go_wp2;go_ret;exact⟨iJ (by rw[HI.out,zF X]),N2.trans r⟩
 have x:(q==14||q==16||q==11)=false:=p_;have bn:=O (show ih l hH hC=false by rw[a.out,m.out,s.out,i,x];simp);have f:¬q=14:=X;have r:¬q=16:=X;have d:¬q=11:=X;have B:(q !=14)=true:=zu f;have L:(q !=16)=true:=zu r;have v:(q !=11)=true:=zu d;clear f r d;clear a m s x I;generalize hL:l.length=n at*;have hm:(n:Int)-1=b:=X;clear hL K h W i;subst p;exact KX
def jI(l:QR)(hH hC pc:Int):Bool:=ih l hH hC&&(iG l pc==20)
def ng(l:QR)(pc:Int):Bool:=
 (pc== -1)||(iG l pc==21)||(decide (0<=iG l pc)&&(iG l (pc-1)==21||iG l (pc-1)==20))
def lH(c:Nat)(l:QR)(hH hC pc:Int)(h:Is w A l)(j:l.length<=1000000000):
 Calls prog 83 #[.agg #[.slice A l.length c,Y hH,Y hC],Y pc] w λe w'=>e=.returned (.bool<|jI l hH hC pc)/\J [] w w':=by
 have a:=(G_ [] w).alloc<|.cells #[.slice A l.length c,Y hH,Y hC] 26;have d:=T_ w 26 #[.slice A l.length c,Y hH,Y hC];have p:=d.f_ 0;have n:=d.f_ 1;have o:=d.f_ 2;cases g:ih l hH hC with
 |false=>
  have i:=O (show jI l hH hC pc=false by unfold jI;rw[g];rfl);go_enter func83,ntmps83;go_wp2_with (go_at_call 92;have f:=iY A c l hH hC (h.hF a) j;rw[g]at f;refine f.mono ?_;rintro e m⟨rfl,b⟩;replace a:=a.trans b;clear b);go_ret;exact⟨iJ i.out.symm,a⟩
 |true=>
  have i:=O (show jI l hH hC pc=(iG l pc==20) by unfold jI;rw[g];rfl);go_enter func83,ntmps83;go_wp2_with (first
   |(go_at_call 92;have f:=iY A c l hH hC (h.hF a) j;rw[g]at f;refine f.mono ?_;rintro e m⟨rfl,b⟩;replace a:=a.trans b;replace d:=d.hF b;have p:=d.f_ 0;have n:=d.f_ 1;have o:=d.f_ 2;clear b)
   |(go_at_call 133;refine(qM A c l hH hC pc (h.hF a) j).mono ?_;rintro e m⟨rfl,b⟩;replace a:=a.trans b;clear b))
  go_ret;exact⟨iJ i.out.symm,a⟩
def mg(c:Nat)(l:QR)(hH hC pc:Int)(h:Is w A l)(hn:l.length<=1000000000)(i: -1000000000<=pc)(g:pc<=1000000000):
 Calls prog 97 #[.agg #[.slice A l.length c,Y hH,Y hC],Y pc] w λe w'=>e=.returned (.bool<|ng l pc)/\J [] w w':=by
 have hg1:=(G_ [] w).alloc<|.cells #[.slice A l.length c,Y hH,Y hC] 26;have hB:=T_ w 26 #[.slice A l.length c,Y hH,Y hC];have z0:=hB.f_ 0;have aM:=hB.f_ 1;have aU:=hB.f_ 2;by_cases f:pc= -1
 .have bn:=O (show ng l pc=true by unfold ng;simp[f]);go_enter func97,ntmps97;go_wp2;exact Mg
 by_cases a:iG l pc=21
 .skip;have bn:=O (show ng l pc=true by unfold ng;simp[a]);exact J7
 by_cases b:0<=iG l pc;by_cases d:iG l (pc-1)=21
 .skip;have bn:=O (show ng l pc=true by unfold ng;simp[b,d]);exact J7
 by_cases e:iG l (pc-1)=20;skip;have bn:=O (show ng l pc=true by unfold ng;simp[b,e]);exact J7;skip;have bn:=O (show ng l pc=false by unfold ng;simp[f,a,b,d,e]);exact J7;skip;have bn:=O (show ng l pc=false by unfold ng;simp[f,a,b]);exact J7
def bad(l:QS)(hC:Int)(k:Nat):Bool:=
 decide (l.getD k 0<0)||decide (hC<l.getD k 0)||(decide (0<k)&&decide (l.getD k 0<=l.getD (k-1) 0))
def rz(c:QR)(hH hC:Int)(d:QS):Bool:= !(i7 (bad d hC)<|List.range d.length)&&ih c hH hC
def wA(A f:Option Addr)(c g:Nat)(l:QR)(hH hC:Int)(d:QS)(o:Is w A l)(M:l.length<=1000000000)(h:Ns w 3 f d)(Z:d.length<=1000000000):
 Calls prog 77 #[.agg #[.slice A l.length c,Y hH,Y hC],.agg #[.slice f d.length g]] w λe w'=>e=.returned (.bool<|rz l hH hC d)/\J [] w w':=by
 have N2:=((G_ [] w).alloc<|.cells #[.slice A l.length c,Y hH,Y hC] 26).alloc<|.cells #[.slice f d.length g] 32;have j:=(T_ w 26 #[.slice A l.length c,Y hH,Y hC]).alloc<|.cells #[.slice f d.length g] 32;have B:Bk _ (w.heap.size+1) 32 #[.slice f d.length g]:=(by simpa using T_ (w.alloc<|.cells #[.slice A l.length c,Y hH,Y hC] 26) 32 #[.slice f d.length g]:Bk ((w.alloc<|.cells #[.slice A l.length c,Y hH,Y hC] 26).alloc<|.cells #[.slice f d.length g] 32) (w.heap.size+1) 32 #[.slice f d.length g]);replace h:=h.hF N2;replace o:=o.hF N2;have Q:=j.f_ 0;have E:=j.f_ 1;have I:=j.f_ 2;have H:=B.f_ 0;generalize W:d.length=m at*
 go_enter func77,ntmps77;go_wp2;generalize (w.alloc<|.cells #[.slice A l.length c,Y hH,Y hC] 26).alloc (.cells #[.slice f m g] 32)=N at*
 go_loopw [10] (λt w'=>∃k:Nat,k<=m/\t=Y k/\i7 (bad d hC) (List.range d.length)=i7 (bad d hC) ((List.range d.length).drop k)/\J [] N w') (λt _=>m-(intOf t).toNat)
 case atStart=>exact⟨0,R_ _,rfl,rfl,G_ _ _⟩
 obtain⟨k,hk,rfl,G,F⟩:=hrel;have HI:=O G;clear G;have u:=j.hF F;have C:=B.hF F;have Q:=u.f_ 0;have E:=u.f_ 1;have I:=u.f_ 2;have H:=C.f_ 0;by_cases T:k<m
 .have r:k<d.length:=X;have a:k<(List.range d.length).length:=zu r;have i:=O (show d.getD k 0=d[k] by simp[List.getD,O_ r]);obtain⟨U,off,rfl,L⟩:=(h.hF F).at_ r;generalize d[k]=x at*
  by_cases n:x<0
  .have aQ:=O (show bad d hC k=true by unfold bad;rw[i.out];simp[n]);exact K3
  by_cases v:hC<x
  .have aQ:=O (show bad d hC k=true by unfold bad;rw[i.out];simp[n,v]);exact K3
  cases k with
  |zero=>
   rw[Id]at L;have aQ:=O (show bad d hC 0=false by unfold bad;rw[i.out];simp[n,v]);have bH:=O (show i7 (bad d hC) (List.range d.length)=i7 (bad d hC) ((List.range d.length).drop<|0+1) by rw[HI.out];exact oU (p:=bad d hC) a<|by rw[It];exact aQ.out);clear HI aQ;go_wp2;go_roundw;exact⟨0+1,X,rfl,bH.out,F⟩;exact mz
  |succ b=>
   obtain⟨V,R,s,S⟩:=(h.hF F).at_ (k:=b) X;injection s with s;injection s with D K;subst D;subst K;have y:=O (show d.getD b 0=d[b] by simp[List.getD,O_ (show b<d.length by omega)]);generalize d[b]=P at*;have hm:((b:Int)+1-1)=b:=X;by_cases z:x<=P;have aQ:=O (show bad d hC (b+1)=true by unfold bad;rw[i.out,Nat.add_sub_cancel,y.out];simp[z]);exact K3;have aQ:=O (show bad d hC (b+1)=false by unfold bad;rw[i.out,Nat.add_sub_cancel,y.out];simp[n,v,z]);have bH:=O (show i7 (bad d hC) (List.range d.length)=i7 (bad d hC) ((List.range d.length).drop<|b+1+1) by rw[HI.out];exact oU (p:=bad d hC) a<|by rw[It];exact aQ.out);clear HI aQ;go_wp2;go_roundw;exact⟨b+1+1,X,gn,bH.out,F⟩;exact mz
 have bH:=O (show rz l hH hC d=ih l hH hC by unfold rz;rw[HI.out,rD (p:=bad d hC) p_];rfl);clear HI;go_wp2_with (go_at_call 92;refine(iY A c l hH hC (o.hF F) M).mono ?_;rintro e i⟨rfl,b⟩;replace F:=F.trans b;clear b);go_ret;exact⟨iJ bH.out.symm,N2.trans F⟩
