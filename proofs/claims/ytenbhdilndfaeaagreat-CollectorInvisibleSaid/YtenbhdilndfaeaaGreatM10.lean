import Derived.Test.YtenbhdilndfaeaaGreatM04
import Derived.Test.YtenbhdilndfaeaaGreatM09
set_option maxRecDepth 100000
set_option maxHeartbeats 0
set_option linter.all false
namespace Go.Proofs.YtenbhdilndfaeaaGreat
open Go.RowKit Go.Proofs.Tryz
variable{G:Prop}{w:World}{k:Nat}(A:OA)(c:Nat)(l:List Cl)(d:Dl)(h:List Ob)(t:Tk)
def I8(h:G:=by
 go_wp2_with (at_builtin;refine iJ _ rfl (.tmp 26) (.tmp 28) 50 rfl (w.heap.size+1) 116 bJ _ 4 32 underlying50 bG bA a6 be rfl O O A' n' c' _ rfl aS _ 1 1 _ rfl ao (pJ [x]) X t ?_;intro ap ai w2 av ar;have br:=ar.bk hB O)
 go_roundw
 case rel=>exact⟨k+1,ap,ai,n'+1,X,gn,rfl,by rw[az.out];simp[a2.out],by rw[az.out];simpa[F8]using av,br,G_ t ar.size,ar.gr [] w X bW⟩
 case measure=>exact mz):G:=h
def Jo(h:G:=by
 go_wp2;have hE:=V.hV 0 (.slice aH f.length aE);refine rr_ #[.slice aH f.length aE] hE underlying35 ⟨aH,aE,f,rfl,?_,?_,?_⟩
 .exact bZ.it V O O ((H _ _).setCell (.inl J) _)
 .rw[av.out,j.out,q.out,aS.out,bK.out,GR]
 .exact(n.trans ay).setCell (.inr (by first|(simp;done)|(simp;omega)|omega)) _):G:=h
def Kq(h:G:=by
 have hl:x*2+1<(iV t.nw.l).length:=by rw[ln];omega
 have:=MY.out _ _ (K_ hl)
 rcases FW (x*2+1) f.size with h|h
 .exact h
 .exact MM):G:=h
def L6(h:G:=by
 show Sl cQ 56 2 (j_ d) (t.nw.l.set x _).length _
 rw[F1];exact av.it l O am):G:=h
def tO(P:i3)(w:World)(e:Ending)(w':World):Prop:=∃t:Tk,e=.returned (.agg t.g_)/\lh w' t/\t.p=P/\I [] w w'
def Bk.ua{p q:Nat}{t:TypeId}{cs:Array Value}(h:Bk w p t cs)(c:p≠q)(i e:Nat)(a b:Value):Bk ((w.setCell (Z q i) a).setCell (Z q e) b) p t cs:=(h.ih (p:=(Z q i)) c a).ih (p:=(Z q e)) c b
def I.two{M:List Nat}{a:World}(h:I M a w){q:Nat}(b:q∈M∨a.heap.size<=q)(i e:Nat)(x y:Value):I M a ((w.setCell (Z q i) x).setCell (Z q e) y):=(h.setCell (p:=(Z q i)) b x).setCell (p:=(Z q e)) b y
def sS:116≠53/\56≠53/\38≠53/\124≠53/\162≠53:=by decide
def wO(c:Cl)(w:World)(r:lh w t)(y:t.nw.l.length<=1000000000)(I:t.ws.l.length<=1000000000)(M:jr (hX t.nw.l) c.id<0):
 Calls prog 132 #[.agg t.g_,.agg #[Y c.id,Y c.f,.bool c.v.r,Y c.v.n]] w (tO (j1 t.p c) w):=by
 obtain⟨f,b,q,u⟩:=wI w 53 t.g_ 116 #[Y c.id,Y c.f,.bool c.v.r,Y c.v.n] 53 lA;have E:=U (show j1 t.p c={t.p with ws:=kz t.ws.l c} by unfold j1;rw[U_ (by exact M)];rfl);have B:=U (show jr (hX t.nw.l) c.id= -1 by have:=mH (λS:Ob=>S.id==c.id) (hX t.nw.l) 0;unfold jr at M |-;omega);clear M;have W:=b.f_ 0
 go_enter func132,ntmps132
 go_wp2_with (first|(refine kV z underlying53 ?_)|(refine kV f underlying53 ?_)|(go_at_call 128;((with_reducible refine(oV t c.id _ (r.hF u) y).mono ?_);rintro P F⟨rfl,i⟩;rw[B.out];replace f:=f.hF i;replace b:=b.hF i;replace q:=q.hF i;have T:=b.f_ 0;have c1:=b.f_ 1;have X:=b.f_ 2;have V:=b.f_ 3;have L:F.cell? (Z w.heap.size 38)=some (.slice t.ws.A t.ws.l.length t.ws.c):=(f.f_ 38).trans rfl;have s:=u.trans i))|(go_at_call 98;((with_reducible refine(ri t.ws.A t.ws.c t.ws.l c (r.hF s).ws I).mono ?_);unfold se;rintro P j⟨e,d,rfl,C,N,o⟩;have v:=s.trans o;have K:=r.hF v;have g:=f.hF o;have L:j.cell? (Z w.heap.size 38)=some (.slice t.ws.A t.ws.l.length t.ws.c):=(g.f_ 38).trans rfl;have bQ:=g.hG 38;have z:Bk (j.setCell (Z w.heap.size 38) (.slice e (kz t.ws.l c).length d)) w.heap.size 53 ({t with ws:=⟨e,d,kz t.ws.l c⟩}:Tk).g_:=g.hV 38 _;have m:=(q.hF o).ih (p:=(Z w.heap.size 38)) sd_ (.slice e (kz t.ws.l c).length d)))|(refine kS (({t with ws:=⟨e,d,kz t.ws.l c⟩}:Tk).g_) m (Tk.one _) ?_;intro D R n))
 refine rr_ ({t with ws:=⟨e,d,kz t.ws.l c⟩}:Tk).g_ R underlying53 ?_;unfold tO;rw[E.out];have x:=(H [w.heap.size] j).setCell (p:=(Z w.heap.size 38)) (.inl J) (.slice e (kz t.ws.l c).length d);have Q:=(Sl.it (Sl.it C g O x) m O n:Cs D e (kz t.ws.l c));have a:=(K.it g sS x).it m sS n;refine⟨_,rfl,⟨a.gs,a.rs,Q,a.nw,a.nr,a.ds,a.h8,a.yi,a.k5,N,a.td,a.r8,a.pN⟩,rfl,?_⟩;exact(v.setCell (.inr J) _).hJ n p_
def wP(c:Cl)(x:Nat)(w:World)(ht:lh w t)(al:t.nw.l.length<=1000000000)(M:jr (hX t.nw.l) c.id=x):
 Calls prog 132 #[.agg t.g_,.agg #[Y c.id,Y c.f,.bool c.v.r,Y c.v.n]] w (tO (j1 t.p c) w):=by
 obtain⟨bJ,bG,bA,a6,be⟩:=info_parts infoVl;obtain⟨i1,bS,cj,co,cv⟩:=info_parts infoOb;obtain⟨n,v,D,MZ⟩:=wI w 53 t.g_ 116 #[Y c.id,Y c.f,.bool c.v.r,Y c.v.n] 53 lA
 have cw:=by have:=mH (λo:Ob=>o.id==c.id) (hX t.nw.l) 0;unfold jr at M;rw[M]at this;simpa[hX]using this
 have aS:=U (show j1 t.p c={t.p with nw:=(hX t.nw.l).set x (uz t.nw.l[x].o c.f c.v)} by
  unfold j1;have an:jr t.p.nw c.id=(x:Int):=M;rw[R_ X,an,Gs];congr 1;apply HK;intro u
  show((hX t.nw.l).modify x _)[u]?=_
  rw[Ig,H1]
  by_cases an:x=u
  .subst an
   have:x<(hX t.nw.l).length:=by rw[h7];exact cw
   simp[this];simp[hX]
  .simp[an])
 have aA:=U M;clear M;have aL:=ht.nr;have bd:=O_ cw;have bi:=(aL _ bd).2;obtain⟨a,hr⟩:=mn_ (t.nw.l[x]);rw[hr]at aS bd bi;have bD:=U hr;clear hr;have bP:Sl w 56 2 t.nw.A t.nw.l.length (iV t.nw.l):=ht.nw;have bY:(x:Int)<(t.nw.l.length:Int):=X;have aV:=v.f_ 0
 go_enter func132,ntmps132
 go_upto_region 8 with(first|(refine kV n underlying53 ?_)|(go_at_call 128;((with_reducible refine(oV t c.id _ (ht.hF MZ) al).mono ?_);rintro an ad⟨rfl,N⟩;rw[aA.out];replace n:=n.hF N;replace v:=v.hF N;replace D:=D.hF N;have bU:ad.cell? (Z w.heap.size 39)=some (.slice t.nw.A t.nw.l.length t.nw.c):=(n.f_ 39).trans rfl;have bf:=MZ.trans N;have bK:=bP.hF bf;have bn:=bf.size))|(at_builtin;refine iJ _ rfl (.const (n_)) (.tmp 20) 33 rfl w.heap.size 56 i1 _ 2 32 underlying33 bS cj co cv rfl O O none 0 0 [] rfl (iT _ _ _ _) t.nw.A t.nw.l.length t.nw.c _ rfl bK (jT _) X bn ?_;intro a8 b j W S;simp only[W_,FY]at W;obtain⟨d,f,ax,ag,K,aW⟩:=kE W X;subst ax;have bh:=S.gr [] w (H_ _) bf;replace n:=S.bk n O;replace v:=S.bk v O;replace D:=S.bk D O;have ay:=Bk.l8 K n O;have bM:=n.hG 39;replace bU:j.cell? (Z w.heap.size 39)=some (.slice t.nw.A t.nw.l.length t.nw.c):=(n.f_ 39).trans rfl;have bj:Sl j 56 2 (j_ d) t.nw.l.length (t.nw.l.flatMap Rw.E):=Sl.iR W;have bp:Bk (j.setCell (Z w.heap.size 39) (.slice (j_ d) t.nw.l.length b)) w.heap.size 53 ({t with nw:=⟨some (Z d 0),b,t.nw.l⟩}:Tk).g_:=n.hV 39 _;have bV:=K.lt;replace K:=K.ih (p:=(Z w.heap.size 39)) ay (.slice (j_ d) t.nw.l.length b);have bk:=v.ih (p:=(Z w.heap.size 39)) sd_ (.slice (j_ d) t.nw.l.length b);have aF:=D.ih (p:=(Z w.heap.size 39)) sd_ (.slice (j_ d) t.nw.l.length b);have M0:=Sl.Ck w_ (bj.it n O ((H [w.heap.size] j).setCell (p:=(Z w.heap.size 39)) (.inl J) (.slice (j_ d) t.nw.l.length b))) cw;rw[bD.out]at M0;have bW:(j.setCell (Z w.heap.size 39) (.slice (j_ d) t.nw.l.length b)).cell? (Z d (x*2))=some (Y a.o.id):=M0 0 _ rfl;have r1:=M0 1 _ rfl;clear M0;have bm:(j.setCell (Z w.heap.size 39) (.slice (j_ d) t.nw.l.length b)).cell? (Z w.heap.size 39)=some (.slice (j_ d) t.nw.l.length b):=(bp.f_ 39).trans rfl;replace bh:=bh.setCell (p:=(Z w.heap.size 39)) (.inr J) (.slice (j_ d) t.nw.l.length b);have aC:Bk ((j.setCell (Z w.heap.size 39) (.slice (j_ d) t.nw.l.length b)).alloc (.cells #[Y a.o.id,.slice a.A a.o.fs.length a.c] 56)) j.heap.size 56 #[Y a.o.id,.slice a.A a.o.fs.length a.c]:=(by simpa[World.setCell]using P_ (j.setCell (Z w.heap.size 39) (.slice (j_ d) t.nw.l.length b)) 56 #[Y a.o.id,.slice a.A a.o.fs.length a.c]);have aM:=bh.alloc (.cells #[Y a.o.id,.slice a.A a.o.fs.length a.c] 56);have bt:=aC.f_ 1;have aQ:=((aL a bd).1.hF aM:Sl _ 38 2 a.A a.o.fs.length (iO a.o.fs));have bw:=aM.size;clear bf bK bn N)|(at_builtin;refine iJ _ rfl (.const (n_)) (.tmp 29) 54 rfl w.heap.size 38 bJ _ 2 16 underlying54 bG bA a6 be rfl O O none 0 0 [] rfl (iT _ _ _ _) a.A a.o.fs.length a.c _ rfl aQ (nD _) X bw ?_;intro g e aJ b9 z;simp only[W_,FY]at b9;have ai:=z.gr [] w (H_ _) aM;have az:=z.bk (bp.alloc (.cells #[Y a.o.id,.slice a.A a.o.fs.length a.c] 56)) O;have cr:=z.bk (bk.alloc (.cells #[Y a.o.id,.slice a.A a.o.fs.length a.c] 56)) O;have bv:=z.bk (aF.alloc (.cells #[Y a.o.id,.slice a.A a.o.fs.length a.c] 56)) O;have r:=z.bk (K.alloc (.cells #[Y a.o.id,.slice a.A a.o.fs.length a.c] 56)) O;have P:=z.bk aC O;have bt:=P.f_ 1;have bE:=P.hG 1;have bN:=D.lt;have ao:=az.ih (p:=(Z j.heap.size 1)) sd_ (.slice g a.o.fs.length e);have C:=cr.ih (p:=(Z j.heap.size 1)) sd_ (.slice g a.o.fs.length e);have aq:=bv.ih (p:=(Z j.heap.size 1)) sd_ (.slice g a.o.fs.length e);have cU:=r.ih (p:=(Z j.heap.size 1)) sd_ (.slice g a.o.fs.length e);have F:=P.hV 1 (.slice g a.o.fs.length e);have bx:=ai.setCell (p:=(Z j.heap.size 1)) (.inr (show w.heap.size<=j.heap.size by omega)) (.slice g a.o.fs.length e);have aN:=C.f_ 1;have aK:=C.f_ 2;have bQ:=C.f_ 3;have ah:=F.f_ 0;have ak:=F.f_ 1;have cb:=(H [j.heap.size] aJ).setCell (p:=(Z j.heap.size 1)) (.inl J) (.slice g a.o.fs.length e);clear bU bM bp bk aF K aC aQ bw aM bh bW r1 bm v D az cr bv r))
 have cq:=kD b9 P O cb;have MY:=U (show ∀(u:Nat) (cc:Value),(iV t.nw.l)[u]?=some cc->f[u]?=some cc from aW);have G:=iY W;clear aW b9 z W S n ay bj ai MZ cb P aL bd bA a6 be bG bS cj co cv
 go_cut [6,42] (λcg ch y=>∃(Q d b:Nat) (f:Array Value) (g:OA) (e:Nat),cg=q_ Q/\ch=.bool (decide (0<=c.f/\c.f<(a.o.fs.length:Int)))/\Bk y w.heap.size 53 ({t with nw:=⟨some (Z d 0),b,t.nw.l⟩}:Tk).g_/\Bk y (w.heap.size+1) 116 #[Y c.id,Y c.f,.bool c.v.r,Y c.v.n]/\Bk y (w.heap.size+1+1) 53 lA/\Bk y d 56 f/\(∀(u:Nat) (cc:Value),(iV t.nw.l)[u]?=some cc->f[u]?=some cc)/\Bk y Q 56 #[Y a.o.id,.slice g a.o.fs.length e]/\y.ownsRow w.heap.size 38 2 (.slice g a.o.fs.length e) a.o.fs.length (iO a.o.fs)/\w.heap.size+1+1<Q/\w.heap.size<=d/\d≠Q/\t.nw.l.length<=b/\I [] w y)
 case first=>
  have m:∀(i:Bool),i=decide (0<=c.f/\c.f<(a.o.fs.length:Int))->Value.bool i=.bool (decide (0<=c.f/\c.f<(a.o.fs.length:Int))):=λi s=>by rw[s]
  by_cases L:0<=c.f
  .by_cases ci:c.f<(a.o.fs.length:Int)
   .go_wp2;go_meet;exact⟨j.heap.size,d,b,f,g,e,rfl,m _ (by simp[L,ci]),ao,C,aq,cU,MY.out,F,cq,bN,ag,X,G,bx⟩
   .have B:decide (c.f<(a.o.fs.length:Int))=false:=zu ci;go_wp2;go_meet;exact⟨j.heap.size,d,b,f,g,e,rfl,m _ (by simp[L]),ao,C,aq,cU,MY.out,F,cq,bN,ag,X,G,bx⟩
  .have B:decide (0<=c.f)=false:=zu L;go_wp2;go_meet;exact⟨j.heap.size,d,b,f,g,e,rfl,m _ (J),ao,C,aq,cU,MY.out,F,cq,bN,ag,X,G,bx⟩
 case rest=>
  clear bt bE ao C aq cU MY F cq bN ag G bx bV aN aK bQ ah ak aV;obtain⟨Q,d,b,f,g,e,rfl,rfl,A,af,V,s,aZ,k,de,b8,aj,ca,aU,bg⟩:=hcut;have MY:=U aZ;clear aZ;have bB:=Bk.l8 s A O;have bz:=(Bk.l8 s V O).symm
  by_cases km:0<=c.f/\c.f<(a.o.fs.length:Int)
  .have au:=Gd km;rw[au];obtain⟨L,ci⟩:=km;obtain⟨m,b7,bl,bT,r,aY⟩:=kE de X;subst bl;have ar:c.f.toNat<a.o.fs.length:=X;have bR:¬(a.o.fs.length:Int)<=c.f:=X;clear au;have bC:=U aY;clear aY;have aO:=Sl.Ck (E:=Vl.E) (λ_=>rfl) (Sl.iR de) ar;have v0:wc.cell? (Z m (c.f.toNat*2))=some _:=aO 0 _ rfl;have v1:wc.cell? (Z m (c.f.toNat*2+1))=some _:=aO 1 _ rfl;clear aO;have bL:=r.hG (c.f.toNat*2);have bO:=r.hG (c.f.toNat*2+1);have aN:=af.f_ 1;have aK:=af.f_ 2;have bQ:=af.f_ 3;have ah:=k.f_ 0;have ak:=k.f_ 1;have b5:=(Bk.l8 r A O).symm;have b4:=(Bk.l8 r V O).symm;have b6:=(Bk.l8 r k O).symm;have bZ:=(Bk.l8 r s O).symm
   go_upto_region 10 with fail
   have aD:=A.ua b5 (c.f.toNat*2) (c.f.toNat*2+1) (.bool c.v.r) (Y c.v.n);have aP:=V.ua b4 (c.f.toNat*2) (c.f.toNat*2+1) (.bool c.v.r) (Y c.v.n);have aw:=k.ua b6 (c.f.toNat*2) (c.f.toNat*2+1) (.bool c.v.r) (Y c.v.n);have B:=s.ua bZ (c.f.toNat*2) (c.f.toNat*2+1) (.bool c.v.r) (Y c.v.n);have aR:=pP Vl.E (λ_=>rfl) ar c.v _ _ rfl r bC.out _ rfl;have a2:=bg.two (.inr bT) (c.f.toNat*2) (c.f.toNat*2+1) (.bool c.v.r) (Y c.v.n);obtain⟨ae,cu⟩:=nm_ ((wc.setCell (Z m (c.f.toNat*2)) (.bool c.v.r)).setCell (Z m (c.f.toNat*2+1)) (Y c.v.n));rw[<-cu]at aD aP aw B aR a2 |-;clear cu v0 v1 bL bO A V k s r de af aN aK bQ ah ak;have bm:ae.cell? (Z w.heap.size 39)=some (.slice (j_ d) t.nw.l.length b):=(aD.f_ 39).trans rfl;have ce:=aw.f_ 0;have cf:=aw.f_ 1;have dn:x*2+1<f.size:=Kq;have bW:ae.cell? (Z d (x*2))=some f[x*2]:=(B.f_ (x*2)).trans (FR X);have r1:ae.cell? (Z d (x*2+1))=some f[x*2+1]:=(B.f_ (x*2+1)).trans (FR X);have bH:=B.hG (x*2);have bI:=B.hG (x*2+1);have aE:=aD.ua bB.symm (x*2) (x*2+1) (Y a.o.id) (.slice (j_ m) a.o.fs.length e);have l:=aP.ua bz (x*2) (x*2+1) (Y a.o.id) (.slice (j_ m) a.o.fs.length e);have av:=pP Rw.E w_ cw (⟨⟨a.o.id,(a.o.fs.set c.f.toNat c.v)⟩,(j_ m),e⟩:Rw) (Y a.o.id) (.slice (j_ m) a.o.fs.length e) (by simp[Rw.E]) B MY.out _ rfl;have aH:=aR.it B O ((H [d] _).two (q:=d) (.inl J) (x*2) (x*2+1) (Y a.o.id) (.slice (j_ m) a.o.fs.length e));have bF:=a2.two (.inr aj) (x*2) (x*2+1) (Y a.o.id) (.slice (j_ m) a.o.fs.length e)
   go_wp2_with (first|(refine kV aE underlying53 ?_)|(refine kS (({t with nw:=⟨some (Z d 0),b,t.nw.l⟩}:Tk).g_) l (Tk.one _) ?_;intro cQ T am))
   have ck:({t with nw:=⟨some (Z d 0),b,t.nw.l.set x ⟨⟨a.o.id,(a.o.fs.set c.f.toNat c.v)⟩,(j_ m),e⟩⟩}:Tk).g_=({t with nw:=⟨some (Z d 0),b,t.nw.l⟩}:Tk).g_:=by simp[Tk.g_]
   rw[<-ck]at T;refine rr_ ({t with nw:=⟨some (Z d 0),b,t.nw.l.set x ⟨⟨a.o.id,(a.o.fs.set c.f.toNat c.v)⟩,(j_ m),e⟩⟩}:Tk).g_ T underlying53 ?_;unfold tO;rw[aS.out];have R:=bF.hJ am p_;have i:=ht.hF R;have aG:=aH.it l O am;refine⟨({t with nw:=⟨some (Z d 0),b,t.nw.l.set x ⟨⟨a.o.id,(a.o.fs.set c.f.toNat c.v)⟩,(j_ m),e⟩⟩}:Tk),rfl,⟨i.gs,i.rs,i.ws,?_,?_,i.ds,i.h8,i.yi,i.k5,i.vp,?_,i.r8,i.pN⟩,?_,R⟩
   .exact L6
   .exact i.nr.hV (by have:=aG;unfold Vs;rw[F1];exact this) (by rw[F1];exact bi)
   .show(t.nw.l.set x _).length<=b
    rw[F1];exact aU
   .show({t.p with nw:=hX (t.nw.l.set x _)}:i3)=_
    rw[sv];unfold uz;rw[U_ ⟨L,ci⟩]
  .have au:=GX km;rw[au];have ah:=k.f_ 0;have ak:=k.f_ 1;have m:Vs wc g a.o.fs:=Sl.iR de;have bm:wc.cell? (Z w.heap.size 39)=some (.slice (j_ d) t.nw.l.length b):=(A.f_ 39).trans rfl;have dn:x*2+1<f.size:=Kq;have bW:wc.cell? (Z d (x*2))=some f[x*2]:=(s.f_ (x*2)).trans (FR X);have r1:wc.cell? (Z d (x*2+1))=some f[x*2+1]:=(s.f_ (x*2+1)).trans (FR X);have bH:=s.hG (x*2);have bI:=s.hG (x*2+1);have aE:=A.ua bB.symm (x*2) (x*2+1) (Y a.o.id) (.slice g a.o.fs.length e);have l:=V.ua bz (x*2) (x*2+1) (Y a.o.id) (.slice g a.o.fs.length e);have av:=pP Rw.E w_ cw (⟨⟨a.o.id,a.o.fs⟩,g,e⟩:Rw) (Y a.o.id) (.slice g a.o.fs.length e) (by simp[Rw.E]) s MY.out _ rfl;have aH:=m.it s O ((H [d] _).two (q:=d) (.inl J) (x*2) (x*2+1) (Y a.o.id) (.slice g a.o.fs.length e));have bF:=bg.two (.inr aj) (x*2) (x*2+1) (Y a.o.id) (.slice g a.o.fs.length e)
   go_wp2_with (first|(refine kV aE underlying53 ?_)|(refine kS (({t with nw:=⟨some (Z d 0),b,t.nw.l⟩}:Tk).g_) l (Tk.one _) ?_;intro cQ T am))
   have ck:({t with nw:=⟨some (Z d 0),b,t.nw.l.set x ⟨⟨a.o.id,a.o.fs⟩,g,e⟩⟩}:Tk).g_=({t with nw:=⟨some (Z d 0),b,t.nw.l⟩}:Tk).g_:=by simp[Tk.g_]
   rw[<-ck]at T;refine rr_ ({t with nw:=⟨some (Z d 0),b,t.nw.l.set x ⟨⟨a.o.id,a.o.fs⟩,g,e⟩⟩}:Tk).g_ T underlying53 ?_;unfold tO;rw[aS.out];have R:=bF.hJ am p_;have i:=ht.hF R;have aG:=aH.it l O am;refine⟨({t with nw:=⟨some (Z d 0),b,t.nw.l.set x ⟨⟨a.o.id,a.o.fs⟩,g,e⟩⟩}:Tk),rfl,⟨i.gs,i.rs,i.ws,?_,?_,i.ds,i.h8,i.yi,i.k5,i.vp,?_,i.r8,i.pN⟩,?_,R⟩
   .exact L6
   .exact i.nr.hV (by exact aG) (by exact bi)
   .show(t.nw.l.set x _).length<=b
    rw[F1];exact aU
   .show({t.p with nw:=hX (t.nw.l.set x _)}:i3)=_
    rw[sv];unfold uz;rw[R_ km]
def rD(c:Cl)(b:lh w t)(a:t.nw.l.length<=1000000000)(f:t.ws.l.length<=1000000000):
 Calls prog 132 #[.agg t.g_,.agg #[Y c.id,Y c.f,.bool c.v.r,Y c.v.n]] w (tO (j1 t.p c) w):=by
 by_cases e:jr (hX t.nw.l) c.id<0
 .exact wO t c w b a f e
 .exact wP t c (jr (hX t.nw.l) c.id).toNat w b a (GM X).symm
def uS(e:k<l.length)(b:Bool)(a:(l[k].id !=d.id||l[k].f !=d.f)=b):jJ (l.take (k+1)) d=if b=true then jJ (l.take k) d++[l[k]] else jJ (l.take k) d:=by
 unfold jJ;rw[T_ e,Hd]
 cases b with
 |true=>rw[U_ rfl];simp[a]
 |false=>rw[R_ J];simp[a]
def qd:(jJ l d).length<=l.length:=Gx _ _
def rE(h:Cs w A l)(hn:l.length<=1000000000):
 Calls prog 127 #[.slice A l.length c,.agg #[Y d.id,Y d.f,Y d.op,.bool d.v.r,Y d.v.n]] w (se (jJ l d) w):=by
 obtain⟨bJ,bG,bA,a6,be⟩:=info_parts infoCl;have hB:=P_ w 124 #[Y d.id,Y d.f,Y d.op,.bool d.v.r,Y d.v.n];have p:=(H [] w).alloc (.cells #[Y d.id,Y d.f,Y d.op,.bool d.v.r,Y d.v.n] 124);have C:=U (show jJ l d=jJ (l.take l.length) d by rw[GR])
 go_enter func127,ntmps127
 go_wp2
 go_loopw [5,10] (λF n wr=>∃(k:Nat) (A':OA) (c' n':Nat),k<=l.length/\n=Y k/\F=.slice A' n' c'/\n'=(jJ (l.take k) d).length/\wr.ownsRow (w.heap.size+1) 116 4 (.slice A' n' c') n' ((jJ (l.take k) d).flatMap Cl.E)/\Bk wr w.heap.size 124 #[Y d.id,Y d.f,Y d.op,.bool d.v.r,Y d.v.n]/\w.heap.size+1<=wr.heap.size/\I [] w wr) (λ_ n _=>l.length-(intOf n).toNat)
 case atStart=>exact⟨0,none,0,0,N_ _,rfl,rfl,rfl,iT _ _ _ _,hB,J,p⟩
 case round=>
  clear hB p;obtain⟨k,A',c',n',hk,rfl,rfl,o,f,hB,Z,b⟩:=hrel;have a2:=U o
  have W:n'<=1000000000:=by
   have:=qd (l.take k) d
   rw[Gj]at this;omega
  clear o
  by_cases u:k<l.length
  .have z:(k:Int)<(l.length:Int):=X;obtain⟨Q,off,y,T,V,R,S⟩:=(h.hF b).at_ u;rw[y]
   have v:=λB E=>uS l d u B E
   have m:=U v;clear v;generalize l[k]=x at*;have D:=hB;have e:=P_ wr 116 #[Y x.id,Y x.f,.bool x.v.r,Y x.v.n];replace hB:=hB.alloc (.cells #[Y x.id,Y x.f,.bool x.v.r,Y x.v.n] 116);have L:=e.f_ 0;have K:=e.f_ 1;have P:=e.f_ 2;have M:=e.f_ 3;have z0:=hB.f_ 0;have N:=hB.f_ 1;have aS:=iy f ((((H [] wr).alloc (.cells #[Y x.id,Y x.f,.bool x.v.r,Y x.v.n] 116))).alloc (.cells #[Y x.id,Y x.f,.bool x.v.r,Y x.v.n] 116));have r:(wr.alloc (.cells #[Y x.id,Y x.f,.bool x.v.r,Y x.v.n] 116)).heap.size=wr.heap.size+1:=J;have ao:Sl ((wr.alloc (.cells #[Y x.id,Y x.f,.bool x.v.r,Y x.v.n] 116)).alloc (.cells #[Y x.id,Y x.f,.bool x.v.r,Y x.v.n] 116)) 116 4 (j_ (wr.heap.size+1)) 1 ([x].flatMap Cl.E):=r▸kP (s:=4) (P_ (wr.alloc (.cells #[Y x.id,Y x.f,.bool x.v.r,Y x.v.n] 116)) 116 #[Y x.id,Y x.f,.bool x.v.r,Y x.v.n]) rfl;clear r;have t:w.heap.size+1<=((wr.alloc (.cells #[Y x.id,Y x.f,.bool x.v.r,Y x.v.n] 116)).alloc (.cells #[Y x.id,Y x.f,.bool x.v.r,Y x.v.n] 116)).heap.size:=p_;replace hB:=hB.alloc (.cells #[Y x.id,Y x.f,.bool x.v.r,Y x.v.n] 116);have bW:=(b.alloc (.cells #[Y x.id,Y x.f,.bool x.v.r,Y x.v.n] 116)).alloc (.cells #[Y x.id,Y x.f,.bool x.v.r,Y x.v.n] 116)
   by_cases a:x.id=d.id
   .have g:(x.id !=d.id)=false:=zu a
    by_cases i:x.f=d.f
    .have j:(x.f !=d.f)=false:=zu i;have az:=U (m.out false (by rw[g,j];rfl));clear a i;go_wp2;go_roundw
     case rel=>exact⟨k+1,A',c',n',X,gn,rfl,by rw[az.out];simpa using a2.out,by rw[az.out];exact iy f ((H [] wr).alloc _),D.alloc _,p_,b.alloc _⟩
     case measure=>exact mz
    .have j:(x.f !=d.f)=true:=zu i;have az:=U (m.out true (by rw[g,j];rfl));clear a i;exact I8
   .have g:(x.id !=d.id)=true:=zu a;have az:=U (m.out true (by rw[g];rfl));clear a;exact I8
  .have z:¬(k:Int)<(l.length:Int):=X;have a:=U (show k=l.length by omega);go_wp2;go_ret;unfold se;rw[C.out,<-a.out,<-a2.out];refine⟨A',c',rfl,?_,iY f,b⟩
   have:=Sl.iR f
   unfold Cs;rw[<-a2.out];exact this
def np(t:i3):i3:={t with h9:=4,hK:=t.hK+1}
def tI(r:lh w t)(h0:0<=t.hK)(x:t.hK<=1000000000):
 Calls prog 80 #[.agg t.g_] w (tO (np t.p) w):=by
 obtain⟨b,j,e⟩:=pZ w 53 t.g_ 53 lA
 go_enter func80,ntmps80
 go_upto_region 1 with fail
 obtain⟨g,i⟩:=nm_ ((w.alloc (.cells t.g_ 53)).alloc (.cells lA 53));rw[<-i]at b j e |-;clear i;have o:Bk _ w.heap.size 53 ({t with h9:=4,hK:=t.hK+1}:Tk).g_:=(b.hV 42 (Y 4)).hV 47 (Y (t.hK+1));have n:=(j.ih (p:=(Z w.heap.size 42)) sd_ (Y 4)).ih (p:=(Z w.heap.size 47)) sd_ (Y (t.hK+1));have d:g.cell? (Z w.heap.size 42)=some (Y t.h9):=(b.f_ 42).trans rfl;have c:g.cell? (Z w.heap.size 47)=some (Y t.hK):=(b.f_ 47).trans rfl;have u:=b.hG 42;have v:=b.hG 47
 go_wp2_with (first|(refine kV o underlying53 ?_)|(refine kS (({t with h9:=4,hK:=t.hK+1}:Tk).g_) n (Tk.one _) ?_;intro s q m))
 refine rr_ ({t with h9:=4,hK:=t.hK+1}:Tk).g_ q underlying53 ?_;have f:=((e.setCell (.inr J) _).setCell (.inr J) _).hJ m J;have a:=r.hF f;exact⟨({t with h9:=4,hK:=t.hK+1}:Tk),rfl,⟨a.gs,a.rs,a.ws,a.nw,a.nr,a.ds,a.h8,a.yi,a.k5,a.vp,a.td,a.r8,a.pN⟩,rfl,f⟩
def CE(o:Ob):(lv h o).length<=h.length+1:=by
 unfold lv;split
 .simp;omega
 .simp;omega
def oQ(l:List Ob)(h:List Ob):(l.foldl lv h).length<=h.length+l.length:=by
 induction l generalizing h with
 |nil=>simp
 |cons a l b=>rw[Hf];have:=b (lv h a);have:=CE h a;simp;omega
def rh{l:List Rw}{h:List Ob}(a:k<l.length):(hX (l.take (k+1))).foldl lv h=lv ((hX (l.take k)).foldl lv h) l[k].o:=by
 rw[T_ a];unfold hX;rw[FV,Hg]
 rfl
def vS(l:List Rw)(t:Tk)(F:lh w t)(h:my w A c l)(hn:l.length+t.nw.l.length<=999999999)(bF:t.ws.l.length<=1000000000)(c7:t.ds.l.length<=1000000000):
 Calls prog 84 #[.agg #[.slice A l.length c],.agg t.g_] w (mt (lL (hX l) t.p) w):=by
 obtain⟨i1,bS,cj,co,cv⟩:=info_parts infoOb;obtain⟨b,e,g,x⟩:=wI w 35 #[.slice A l.length c] 53 t.g_ 35 #[n_];have m:=h.hF x;have D:=b.f_ 0;have aS:=U (show lL (hX l) t.p=kj (ja ((hX t.nw.l).foldl lv (hX l)) t.ws.l) t.ds.l from rfl);have ad:=U (show(hX l).length+t.nw.l.length<=999999999 by rw[h7];exact hn)
 go_enter func84,ntmps84
 go_wp2_with (at_builtin;refine pi _ rfl (.const (n_)) (.tmp 8) 33 rfl 56 i1 _ 2 32 underlying33 bS cj co cv rfl O O none 0 [] rfl (Gw _ _ _ _) A l.length c _ rfl m.os (jT _) X ?_;intro z y w2 ag P B;simp only[W_,FY]at P ag;replace b:=b.hF B;replace e:=e.hF B;replace g:=g.hF B;replace x:=x.trans B;replace D:=b.f_ 0;have bB:=b.hG 0;have aO:my w2 z y l:=⟨P,m.k5.hF B,ag⟩;have ah:=b.hV 0 (.slice z l.length y);have T:=e.ih (p:=(Z w.heap.size 0)) sd_ (.slice z l.length y);have ae:=g.ih (p:=(Z w.heap.size 0)) sd_ (.slice z l.length y);have ak:=aO.it b O O ((H _ _).setCell (p:=(Z w.heap.size 0)) (.inl J) (.slice z l.length y));have al:=x.setCell (p:=(Z w.heap.size 0)) (.inr J) (.slice z l.length y);have bU:(w2.setCell (Z w.heap.size 0) (.slice z l.length y)).cell? (Z (w.heap.size+1) 39)=some (.slice t.nw.A t.nw.l.length t.nw.c):=(T.f_ 39).trans rfl)
 clear e g b m x D bB aO P B;have e:=T;have g:=ae;have b:=ah;have m:=ak;have x:=al;clear T ae ah ak al
 go_loopw [14] (λW wr=>∃(k:Nat) (r:OA) (u:Nat) (i:List Rw),k<=t.nw.l.length/\W=Y k/\Bk wr (w.heap.size+1) 53 t.g_/\Bk wr (w.heap.size+1+1) 35 #[n_]/\Bk wr (w.heap.size) 35 #[.slice r i.length u]/\my wr r u i/\hX i=(hX (t.nw.l.take k)).foldl lv (hX l)/\I [] w wr) (λW _=>t.nw.l.length-(intOf W).toNat)
 case atStart=>exact⟨0,z,y,l,N_ _,rfl,e,g,b,m,rfl,x⟩
 case round=>
  clear e g b m x bU;obtain⟨k,r,u,i,hk,rfl,e,g,b,m,N,v⟩:=hrel;have q:=U N
  have am:i.length<=999999999:=by
   have h1:=h7 i;have h2:=oQ (hX (t.nw.l.take k)) (hX l);rw[N]at h1;rw[h7 (t.nw.l.take k),Gj]at h2;have h3:=ad.out;omega
  clear N
  by_cases M:k<t.nw.l.length
  .obtain⟨an,off,aZ,bj,bz⟩:=(F.nw.hF v).at_ M;rw[aZ];have bR:=U (show(hX (t.nw.l.take (k+1))).foldl lv (hX l)=lv (hX i) t.nw.l[k].o by rw[q.out];exact rh M);have R:=(F.nr.hF (v.alloc (.cells #[Y t.nw.l[k].o.id,.slice t.nw.l[k].A t.nw.l[k].o.fs.length t.nw.l[k].c] 56))) t.nw.l[k] (O_ M);generalize t.nw.l[k]=a at*;have aD:Sl (wr.alloc (.cells #[Y a.o.id,.slice a.A a.o.fs.length a.c] 56)) 38 2 a.A a.o.fs.length (iO a.o.fs):=R.1;have aw:(k:Int)<(t.nw.l.length:Int):=X;replace e:=e.alloc (.cells #[Y a.o.id,.slice a.A a.o.fs.length a.c] 56);replace g:=g.alloc (.cells #[Y a.o.id,.slice a.A a.o.fs.length a.c] 56);replace b:=b.alloc (.cells #[Y a.o.id,.slice a.A a.o.fs.length a.c] 56);replace m:=m.alloc (.cells #[Y a.o.id,.slice a.A a.o.fs.length a.c] 56);replace v:=v.alloc (.cells #[Y a.o.id,.slice a.A a.o.fs.length a.c] 56);have D:=b.f_ 0;have Q:=P_ wr 56 #[Y a.o.id,.slice a.A a.o.fs.length a.c];have MV:=Q.f_ 0;have MU:=Q.f_ 1
   go_wp2_with (go_at_call 123;((with_reducible refine(uY r u i a.o.id a.A a.c a.o.fs m.os m.k5 m.l3 aD R.2 am).mono ?_);rintro ao E⟨K,S,C,rfl,G,aq,L,d,s⟩;have j:=U d;clear d;replace e:=e.hF s;replace g:=g.hF s;replace b:=b.hF s;replace v:=v.trans s;replace D:=b.f_ 0;have bB:=b.hG 0))
   go_roundw
   case rel=>exact⟨k+1,K,S,C,X,gn,e.ih sd_ _,g.ih sd_ _,b.hV 0 _,(my.mk aq L G).it b O O ((H _ _).setCell (.inl J) _),by rw[bR.out,j.out],v.setCell (.inr (by first|(simp;done)|(simp;omega)|omega)) _⟩
   case measure=>exact mz
  .have bK:=U (show k=t.nw.l.length by omega);have aw:¬(k:Int)<(t.nw.l.length:Int):=X;have D:=b.f_ 0;have bW:wr.cell? (Z (w.heap.size+1) 38)=some (.slice t.ws.A t.ws.l.length t.ws.c):=(e.f_ 38).trans rfl;have bE:wr.cell? (Z (w.heap.size+1) 40)=some (.slice t.ds.A t.ds.l.length t.ds.c):=(e.f_ 40).trans rfl;have ar:=m.hF (H [] wr).drew;have au:=v.drew;have MS:i.length<=1000000000:=X
   go_wp2_with fail
   go_region_held3 (λw'=>w'.cell? (Z w.heap.size 0)=some (.slice r i.length u)/\w'.cell? (Z (w.heap.size+1) 38)=some (.slice t.ws.A t.ws.l.length t.ws.c)/\w'.cell? (Z (w.heap.size+1) 40)=some (.slice t.ds.A t.ds.l.length t.ds.c)) (first|exact dP|exact dQ|exact aX|go_keep)
    (first
      |(go_at_call 125;((with_reducible refine(nU r u i t.ws.A t.ws.c t.ws.l _ ar MS (F.hF au).ws bF).mono ?_);unfold mt;rintro ao E⟨K,S,C,rfl,aA,d,s⟩;have j:=U d;have MY:C.length<=1000000000:=(by have:=h7 C;rw[d,jW,h7]at this;omega);clear d;have Q:=e.drew.hF s;have aB:=b.drew.hF s;have L:=g.drew.hF s;have n:=au.trans s;have dP:E.cell? (Z w.heap.size 0)=some (.slice r i.length u)/\E.cell? (Z (w.heap.size+1) 38)=some (.slice t.ws.A t.ws.l.length t.ws.c)/\E.cell? (Z (w.heap.size+1) 40)=some (.slice t.ds.A t.ds.l.length t.ds.c):=⟨aB.f_ 0,(Q.f_ 38).trans rfl,(Q.f_ 40).trans rfl⟩))
      |(go_at_call 124;((with_reducible refine(rM K S C t.ds.A t.ds.c t.ds.l aA MY (F.hF n).ds c7).mono ?_);unfold mt;rintro ao a⟨aH,aE,f,rfl,bZ,dm,ay⟩;have av:=U dm;clear dm;have R:=Q.hF ay;have aY:=aB.hF ay;have V:=L.hF ay;have dV:=V.hG 0;have cp:=V.f_ 0;have dQ:a.cell? (Z w.heap.size 0)=some (.slice r i.length u)/\a.cell? (Z (w.heap.size+1) 38)=some (.slice t.ws.A t.ws.l.length t.ws.c)/\a.cell? (Z (w.heap.size+1) 40)=some (.slice t.ds.A t.ds.l.length t.ds.c):=⟨aY.f_ 0,(R.f_ 38).trans rfl,(R.f_ 40).trans rfl⟩;have aC:=aY.ih (p:=(Z (w.heap.size+1+1) 0)) sd_ (.slice aH f.length aE);have az:=R.ih (p:=(Z (w.heap.size+1+1) 0)) sd_ (.slice aH f.length aE);have aX:(a.setCell (Z (w.heap.size+1+1) 0) (.slice aH f.length aE)).cell? (Z w.heap.size 0)=some (.slice r i.length u)/\(a.setCell (Z (w.heap.size+1+1) 0) (.slice aH f.length aE)).cell? (Z (w.heap.size+1) 38)=some (.slice t.ws.A t.ws.l.length t.ws.c)/\(a.setCell (Z (w.heap.size+1+1) 0) (.slice aH f.length aE)).cell? (Z (w.heap.size+1) 40)=some (.slice t.ds.A t.ds.l.length t.ds.c):=⟨aC.f_ 0,(az.f_ 38).trans rfl,(az.f_ 40).trans rfl⟩)))
   exact Jo
def pk(A:OA)(c:Nat)(l:List Rw)(M:lh w t)(h:my w A c l)(hn:l.length+t.nw.l.length<=999999999)(bF:t.ws.l.length<=1000000000)(c7:t.ds.l.length<=1000000000)(da:t.gs.l.length<=1000000000)(aK:t.rs.l.length<=1000000000):
 Calls prog 79 #[.agg t.g_,.agg #[.slice A l.length c]] w (mt (jq t.p (hX l)) w):=by
 obtain⟨i1,bS,cj,co,cv⟩:=info_parts infoOb;obtain⟨e,ao,g,u⟩:=wI w 53 t.g_ 35 #[.slice A l.length c] 35 #[n_];have s:=h.hF u;have Q:=ao.f_ 0;have hn1:l.length<=1000000000:=X;have aS:=U (show jq t.p (hX l)=kj (ja ((hX t.nw.l).foldl lv (before t.p (hX l))) t.ws.l) t.ds.l from rfl);have ad:=U (show(before t.p (hX l)).length+t.nw.l.length<=999999999 by rw[mJ,h7];exact hn)
 go_enter func79,ntmps79
 go_wp2_with (first|(refine kV e underlying53 ?_)|(go_at_call 122;((with_reducible refine(o1 t A c l (M.hF u) s hn1 da aK).mono ?_);unfold mt;rintro ag m⟨D,F,i,rfl,N,d5,L⟩;have ah:=U d5;have ak:=U (show i.length=l.length from(by have:=h7 i;rw[d5,mJ,h7]at this;exact this.symm));clear d5;have al:=(g.hF L).lt;have am:w.heap.size≠m.heap.size:=X;have R:w.heap.size+1+1≠m.heap.size:=X;replace e:=(e.hF L).alloc (.cells #[.slice D i.length F] 35);replace g:=(g.hF L).alloc (.cells #[.slice D i.length F] 35);have b:=P_ m 35 #[.slice D i.length F];replace N:=N.alloc (.cells #[.slice D i.length F] 35);replace u:=(u.trans L).alloc (.cells #[.slice D i.length F] 35);have bq:=b.f_ 0))|(at_builtin;refine pi _ rfl (.const (n_)) (.tmp 12) 33 rfl 56 i1 _ 2 32 underlying33 bS cj co cv rfl O O none 0 [] rfl (Gw _ _ _ _) D i.length F _ rfl N.os (jT _) (ov ak.out) ?_;intro C B w2 an bi E;simp only[W_,FY]at bi an;replace b:=b.hF E;replace e:=e.hF E;replace g:=g.hF E;replace u:=u.trans E;replace bq:=b.f_ 0;have bM:=b.hG 0;have aO:my w2 C B i:=⟨bi,N.k5.hF E,an⟩;have aq:=b.hV 0 (.slice C i.length B);have cy:=e.ih (p:=(Z m.heap.size 0)) am (.slice C i.length B);have ae:=g.ih (p:=(Z m.heap.size 0)) R (.slice C i.length B);have ar:=aO.it b O O ((H _ _).setCell (p:=(Z m.heap.size 0)) (.inl J) (.slice C i.length B));have au:=u.setCell (p:=(Z m.heap.size 0)) (.inr (show w.heap.size<=m.heap.size by omega)) (.slice C i.length B);have bU:(w2.setCell (Z m.heap.size 0) (.slice C i.length B)).cell? (Z w.heap.size 39)=some (.slice t.nw.A t.nw.l.length t.nw.c):=(cy.f_ 39).trans rfl))
 clear e g b s u Q bq bM aO bi E ao L N;have e:=cy;have g:=ae;have b:=aq;have s:=ar;have u:=au;clear cy ae aq ar au
 go_loopw [18] (λaA wr=>∃(k:Nat) (v:OA) (y:Nat) (r:List Rw),k<=t.nw.l.length/\aA=Y k/\Bk wr (w.heap.size) 53 t.g_/\Bk wr (w.heap.size+1+1) 35 #[n_]/\Bk wr (m.heap.size) 35 #[.slice v r.length y]/\my wr v y r/\hX r=(hX (t.nw.l.take k)).foldl lv (before t.p (hX l))/\I [] w wr) (λaA _=>t.nw.l.length-(intOf aA).toNat)
 case atStart=>exact⟨0,C,B,i,N_ _,rfl,e,g,b,s,ah.out,u⟩
 case round=>
  clear e g b s u bU;obtain⟨k,v,y,r,hk,rfl,e,g,b,s,bD,z⟩:=hrel;have q:=U bD
  have aB:r.length<=999999999:=by
   have h1:=h7 r;have h2:=oQ (hX (t.nw.l.take k)) (before t.p (hX l));rw[bD]at h1;rw[h7 (t.nw.l.take k),Gj]at h2;have h3:=ad.out;omega
  clear bD
  by_cases W:k<t.nw.l.length
  .obtain⟨aC,off,aZ,bj,bz⟩:=(M.nw.hF z).at_ W;rw[aZ];have bR:=U (show(hX (t.nw.l.take (k+1))).foldl lv (before t.p (hX l))=lv (hX r) t.nw.l[k].o by rw[q.out];exact rh W);have aG:=(M.nr.hF (z.alloc (.cells #[Y t.nw.l[k].o.id,.slice t.nw.l[k].A t.nw.l[k].o.fs.length t.nw.l[k].c] 56))) t.nw.l[k] (O_ W);generalize t.nw.l[k]=a at*;have aD:Sl (wr.alloc (.cells #[Y a.o.id,.slice a.A a.o.fs.length a.c] 56)) 38 2 a.A a.o.fs.length (iO a.o.fs):=aG.1;have aw:(k:Int)<(t.nw.l.length:Int):=X;replace e:=e.alloc (.cells #[Y a.o.id,.slice a.A a.o.fs.length a.c] 56);replace g:=g.alloc (.cells #[Y a.o.id,.slice a.A a.o.fs.length a.c] 56);replace b:=b.alloc (.cells #[Y a.o.id,.slice a.A a.o.fs.length a.c] 56);replace s:=s.alloc (.cells #[Y a.o.id,.slice a.A a.o.fs.length a.c] 56);replace z:=z.alloc (.cells #[Y a.o.id,.slice a.A a.o.fs.length a.c] 56);have Q:=b.f_ 0;have aI:=P_ wr 56 #[Y a.o.id,.slice a.A a.o.fs.length a.c];have MV:=aI.f_ 0;have MU:=aI.f_ 1
   go_wp2_with (go_at_call 123;((with_reducible refine(uY v y r a.o.id a.A a.c a.o.fs s.os s.k5 s.l3 aD aG.2 aB).mono ?_);rintro ag P⟨S,c5,K,rfl,G,aJ,T,d,x⟩;have j:=U d;clear d;replace e:=e.hF x;replace g:=g.hF x;replace b:=b.hF x;replace z:=z.trans x;replace Q:=b.f_ 0;have bB:=b.hG 0))
   go_roundw
   case rel=>exact⟨k+1,S,c5,K,X,gn,e.ih am _,g.ih R _,b.hV 0 _,(my.mk aJ T G).it b O O ((H _ _).setCell (.inl J) _),by rw[bR.out,j.out],z.setCell (.inr (show w.heap.size<=m.heap.size by omega)) _⟩
   case measure=>exact mz
  .have bK:=U (show k=t.nw.l.length by omega);have aw:¬(k:Int)<(t.nw.l.length:Int):=X;have Q:=b.f_ 0;have bW:wr.cell? (Z w.heap.size 38)=some (.slice t.ws.A t.ws.l.length t.ws.c):=(e.f_ 38).trans rfl;have bE:wr.cell? (Z w.heap.size 40)=some (.slice t.ds.A t.ds.l.length t.ds.c):=(e.f_ 40).trans rfl;have aL:=s.hF (H [] wr).drew;have aM:=z.drew;have MS:r.length<=1000000000:=X
   go_wp2_with fail
   go_region_held3 (λw'=>w'.cell? (Z m.heap.size 0)=some (.slice v r.length y)/\w'.cell? (Z w.heap.size 38)=some (.slice t.ws.A t.ws.l.length t.ws.c)/\w'.cell? (Z w.heap.size 40)=some (.slice t.ds.A t.ds.l.length t.ds.c)) (first|exact dP|exact dQ|exact aX|go_keep)
    (first
      |(go_at_call 125;((with_reducible refine(nU v y r t.ws.A t.ws.c t.ws.l _ aL MS (M.hF aM).ws bF).mono ?_);unfold mt;rintro ag P⟨S,c5,K,rfl,aN,d,x⟩;have j:=U d;have MY:K.length<=1000000000:=(by have:=h7 K;rw[d,jW,h7]at this;omega);clear d;have bp:=e.drew.hF x;have aP:=b.drew.hF x;have T:=g.drew.hF x;have n:=aM.trans x;have dP:P.cell? (Z m.heap.size 0)=some (.slice v r.length y)/\P.cell? (Z w.heap.size 38)=some (.slice t.ws.A t.ws.l.length t.ws.c)/\P.cell? (Z w.heap.size 40)=some (.slice t.ds.A t.ds.l.length t.ds.c):=⟨aP.f_ 0,(bp.f_ 38).trans rfl,(bp.f_ 40).trans rfl⟩))
      |(go_at_call 124;((with_reducible refine(rM S c5 K t.ds.A t.ds.c t.ds.l aN MY (M.hF n).ds c7).mono ?_);unfold mt;rintro ag a⟨aH,aE,f,rfl,bZ,dm,ay⟩;have av:=U dm;clear dm;have bw:=bp.hF ay;have aY:=aP.hF ay;have V:=T.hF ay;have dV:=V.hG 0;have cp:=V.f_ 0;have dQ:a.cell? (Z m.heap.size 0)=some (.slice v r.length y)/\a.cell? (Z w.heap.size 38)=some (.slice t.ws.A t.ws.l.length t.ws.c)/\a.cell? (Z w.heap.size 40)=some (.slice t.ds.A t.ds.l.length t.ds.c):=⟨aY.f_ 0,(bw.f_ 38).trans rfl,(bw.f_ 40).trans rfl⟩;have aQ:=aY.ih (p:=(Z (w.heap.size+1+1) 0)) R.symm (.slice aH f.length aE);have az:=bw.ih (p:=(Z (w.heap.size+1+1) 0)) sd_ (.slice aH f.length aE);have aX:(a.setCell (Z (w.heap.size+1+1) 0) (.slice aH f.length aE)).cell? (Z m.heap.size 0)=some (.slice v r.length y)/\(a.setCell (Z (w.heap.size+1+1) 0) (.slice aH f.length aE)).cell? (Z w.heap.size 38)=some (.slice t.ws.A t.ws.l.length t.ws.c)/\(a.setCell (Z (w.heap.size+1+1) 0) (.slice aH f.length aE)).cell? (Z w.heap.size 40)=some (.slice t.ds.A t.ds.l.length t.ds.c):=⟨aQ.f_ 0,(az.f_ 38).trans rfl,(az.f_ 40).trans rfl⟩)))
   exact Jo
