import Derived.Test.YtenbhdilndfaeaaGreatM04
import Derived.Test.YtenbhdilndfaeaaGreatM07
set_option maxRecDepth 100000
set_option maxHeartbeats 0
set_option linter.all false
namespace Go.Proofs.YtenbhdilndfaeaaGreat
open Go.RowKit Go.Proofs.Tryz
variable{G:Prop}{k:Nat}(A:OA)(t:Tk)(c:Nat)(l:List Cl)(d:Dl)(h:List Ob)(w:World)
theorem H2(h:G:=by
 go_wp2_with (at_builtin;refine iL _ rfl (.tmp 26) (.tmp 28) 50 rfl (w.heap.size+1) 116 bF _ 4 32 underlying50 bE bt a8 bo rfl d_ d_ A' n' c' _ rfl aY _ 1 1 _ rfl aQ (pA [x]) o_ t ?_;intro av ai w2 aq ao;have bz:=ao.bk hB d_)
 go_roundw
 case rel=>exact⟨k+1,av,ai,n'+1,o_,gn,rfl,by rw[ay.out];simp[aW.out],by rw[ay.out];simpa[EZ]using aq,bz,G_ t ao.size,ao.gr [] w o_ bR⟩
 case measure=>exact mz):G:=h
theorem Ii(h:G:=by
 go_wp2;have hE:=X.hW 0 (.slice aI f.length aF);refine rr_ #[.slice aI f.length aF] hE underlying35 ⟨aI,aF,f,rfl,?_,?_,?_⟩
 .exact aX.iu X d_ d_ ((F_ _ _).setCell (.inl s_) _)
 .rw[aP.out,j.out,q.out,aR.out,bQ.out,FD]
 .exact(K.trans aB).setCell (.inr (by first|(simp;done)|(simp;omega)|omega)) _):G:=h
theorem Jm(h:G:=by
 have hl:x*2+1<(jl t.nw.l).length:=by rw[lk];omega
 have:=Q.out _ _ (M_ hl)
 rcases EJ (x*2+1) f.size with h|h
 .exact h
 .exact LK):G:=h
theorem KZ(h:G:=by
 show Sl dh 56 2 (j_ d) (t.nw.l.set x _).length _
 rw[ER];exact aq.iu n d_ aC):G:=h
def tC(P:i3)(w:World)(e:Ending)(w':World):Prop:=∃t:Tk,e=.returned (.agg t.g_)/\lb w' t/\t.p=P/\Gr [] w w'
theorem Bk.tR{w:World}{p q:Nat}{t:TypeId}{cs:Array Value}(h:Bk w p t cs)(c:p≠q)(i j:Nat)(a b:Value):Bk ((w.setCell (c_ q i) a).setCell (c_ q j) b) p t cs:=(h.ih (p:=(c_ q i)) c a).ih (p:=(c_ q j)) c b
theorem Gr.two{M:List Nat}{a w:World}(h:Gr M a w){q:Nat}(am:q∈M∨a.heap.size<=q)(i j:Nat)(x y:Value):Gr M a ((w.setCell (c_ q i) x).setCell (c_ q j) y):=(h.setCell (p:=(c_ q i)) am x).setCell (p:=(c_ q j)) am y
theorem sE:116≠53/\56≠53/\38≠53/\124≠53/\162≠53:=by decide
theorem wz(c:Cl)(w:World)(ht:lb w t)(B:t.nw.l.length<=1000000000)(ak:t.ws.l.length<=1000000000)(L:jz (hY t.nw.l) c.id<0):
 Calls prog 132 #[.agg t.g_,.agg #[i_ c.id,i_ c.f,.bool c.v.r,i_ c.v.n]] w (tC (jX t.p c) w):=by
 obtain⟨O,D,hR,I⟩:=wt w 53 t.g_ 116 #[i_ c.id,i_ c.f,.bool c.v.r,i_ c.v.n] 53 lv;have aR:=h_ (show jX t.p c={t.p with ws:=kw t.ws.l c} by unfold jX;rw[T_ (by exact L)];rfl);have bl:=h_ (show jz (hY t.nw.l) c.id= -1 by have:=nf (λo:Ob=>o.id==c.id) (hY t.nw.l) 0;unfold jz at L |-;omega);clear L;have aQ:=D.f_ 0
 go_enter func132,ntmps132
 go_wp2_with (first|(refine kT C underlying53 ?_)|(refine kT O underlying53 ?_)|(go_at_call 128;((with_reducible refine(oL t c.id _ (ht.hG I) B).mono ?_);rintro e T⟨rfl,Z⟩;rw[bl.out];replace O:=O.hG Z;replace D:=D.hG Z;replace hR:=hR.hG Z;have aw:=D.f_ 0;have c1:=D.f_ 1;have ai:=D.f_ 2;have aC:=D.f_ 3;have bV:T.cell? (c_ w.heap.size 38)=some (.slice t.ws.A t.ws.l.length t.ws.c):=(O.f_ 38).trans rfl;have F:=I.trans Z))|(go_at_call 98;((with_reducible refine(q5 t.ws.A t.ws.c t.ws.l c _ (ht.hG F).ws ak).mono ?_);unfold rX;rintro e Y⟨aY,d,rfl,U,bO,ah⟩;have K:=F.trans ah;have b:=ht.hG K;have cn:=O.hG ah;have bV:Y.cell? (c_ w.heap.size 38)=some (.slice t.ws.A t.ws.l.length t.ws.c):=(cn.f_ 38).trans rfl;have bT:=cn.hH 38;have C:Bk (Y.setCell (c_ w.heap.size 38) (.slice aY (kw t.ws.l c).length d)) w.heap.size 53 ({t with ws:=⟨aY,d,kw t.ws.l c⟩}:Tk).g_:=cn.hW 38 _;have bI:=(hR.hG ah).ih (p:=(c_ w.heap.size 38)) sd_ (.slice aY (kw t.ws.l c).length d)))|(refine kQ (({t with ws:=⟨aY,d,kw t.ws.l c⟩}:Tk).g_) bI (Tk.one _) ?_;intro aD ar aN))
 refine rr_ ({t with ws:=⟨aY,d,kw t.ws.l c⟩}:Tk).g_ ar underlying53 ?_;unfold tC;rw[aR.out];have m:=(F_ [w.heap.size] Y).setCell (p:=(c_ w.heap.size 38)) (.inl s_) (.slice aY (kw t.ws.l c).length d);have k:=(Sl.iu (Sl.iu U cn d_ m) bI d_ aN:Cs aD aY (kw t.ws.l c));have a:=(b.iu cn sE m).iu bI sE aN;refine⟨_,rfl,⟨a.gs,a.rs,k,a.nw,a.nr,a.ds,a.h7,a.x0,a.kZ,bO,a.sY,a.rS,a.pE⟩,rfl,?_⟩;exact(K.setCell (.inr s_) _).hK aN p_
theorem wA(c:Cl)(x:Nat)(w:World)(ht:lb w t)(B:t.nw.l.length<=1000000000)(L:jz (hY t.nw.l) c.id=x):
 Calls prog 132 #[.agg t.g_,.agg #[i_ c.id,i_ c.f,.bool c.v.r,i_ c.v.n]] w (tC (jX t.p c) w):=by
 obtain⟨bF,bE,bt,a8,bo⟩:=info_parts infoVl;obtain⟨i1,bM,ca,ce,cp⟩:=info_parts infoOb;obtain⟨O,D,hR,I⟩:=wt w 53 t.g_ 116 #[i_ c.id,i_ c.f,.bool c.v.r,i_ c.v.n] 53 lv
 have cU:=by have:=nf (λo:Ob=>o.id==c.id) (hY t.nw.l) 0;unfold jz at L;rw[L]at this;simpa[hY]using this
 have aR:=h_ (show jX t.p c={t.p with nw:=(hY t.nw.l).set x (ug t.nw.l[x].o c.f c.v)} by
  unfold jX;have e:jz t.p.nw c.id=(x:Int):=L;rw[Q_ o_,e,Fi];congr 1;apply Gv;intro i
  show((hY t.nw.l).modify x _)[i]?=_
  rw[G9,GT]
  by_cases e:x=i
  .subst e
   have:x<(hY t.nw.l).length:=by rw[h9];exact cU
   simp[this];simp[hY]
  .simp[e])
 have bl:=h_ L;clear L;have aL:=ht.nr;have af:=N_ cU;have aE:=(aL _ af).2;obtain⟨r,hr⟩:=mn_ (t.nw.l[x]);rw[hr]at aR af aE;have bB:=h_ hr;clear hr;have bL:Sl w 56 2 t.nw.A t.nw.l.length (jl t.nw.l):=ht.nw;have bS:(x:Int)<(t.nw.l.length:Int):=o_;have aQ:=D.f_ 0
 go_enter func132,ntmps132
 go_upto_region 8 with(first|(refine kT O underlying53 ?_)|(go_at_call 128;((with_reducible refine(oL t c.id _ (ht.hG I) B).mono ?_);rintro e T⟨rfl,Z⟩;rw[bl.out];replace O:=O.hG Z;replace D:=D.hG Z;replace hR:=hR.hG Z;have bZ:T.cell? (c_ w.heap.size 39)=some (.slice t.nw.A t.nw.l.length t.nw.c):=(O.f_ 39).trans rfl;have F:=I.trans Z;have aV:=bL.hG F;have bq:=F.size))|(at_builtin;refine iL _ rfl (.const (n_)) (.tmp 20) 33 rfl w.heap.size 56 i1 _ 2 32 underlying33 bM ca ce cp rfl d_ d_ none 0 0 [] rfl (iV _ _ _ _) t.nw.A t.nw.l.length t.nw.c _ rfl aV (jZ _) o_ bq ?_;intro aY c5 Y am m;simp only[U_,EO]at am;obtain⟨d,f,ax,ae,cf,aU⟩:=kA am o_;subst ax;have K:=m.gr [] w (H_ _) F;replace O:=m.bk O d_;replace D:=m.bk D d_;replace hR:=m.bk hR d_;have az:=Bk.lZ cf O d_;have b0:=O.hH 39;replace bZ:Y.cell? (c_ w.heap.size 39)=some (.slice t.nw.A t.nw.l.length t.nw.c):=(O.f_ 39).trans rfl;have bi:Sl Y 56 2 (j_ d) t.nw.l.length (t.nw.l.flatMap Rw.E):=Sl.iT am;have cn:Bk (Y.setCell (c_ w.heap.size 39) (.slice (j_ d) t.nw.l.length c5)) w.heap.size 53 ({t with nw:=⟨some (c_ d 0),c5,t.nw.l⟩}:Tk).g_:=O.hW 39 _;have bR:=cf.lt;replace cf:=cf.ih (p:=(c_ w.heap.size 39)) az (.slice (j_ d) t.nw.l.length c5);have U:=D.ih (p:=(c_ w.heap.size 39)) sd_ (.slice (j_ d) t.nw.l.length c5);have bI:=hR.ih (p:=(c_ w.heap.size 39)) sd_ (.slice (j_ d) t.nw.l.length c5);have bu:=Sl.Bq wT (bi.iu O d_ ((F_ [w.heap.size] Y).setCell (p:=(c_ w.heap.size 39)) (.inl s_) (.slice (j_ d) t.nw.l.length c5))) cU;rw[bB.out]at bu;have bW:(Y.setCell (c_ w.heap.size 39) (.slice (j_ d) t.nw.l.length c5)).cell? (c_ d (x*2))=some (i_ r.o.id):=bu 0 _ rfl;have r1:=bu 1 _ rfl;clear bu;have V:(Y.setCell (c_ w.heap.size 39) (.slice (j_ d) t.nw.l.length c5)).cell? (c_ w.heap.size 39)=some (.slice (j_ d) t.nw.l.length c5):=(cn.f_ 39).trans rfl;replace K:=K.setCell (p:=(c_ w.heap.size 39)) (.inr s_) (.slice (j_ d) t.nw.l.length c5);have ay:Bk ((Y.setCell (c_ w.heap.size 39) (.slice (j_ d) t.nw.l.length c5)).alloc (.cells #[i_ r.o.id,.slice r.A r.o.fs.length r.c] 56)) Y.heap.size 56 #[i_ r.o.id,.slice r.A r.o.fs.length r.c]:=(by simpa[World.setCell]using P_ (Y.setCell (c_ w.heap.size 39) (.slice (j_ d) t.nw.l.length c5)) 56 #[i_ r.o.id,.slice r.A r.o.fs.length r.c]);have bT:=K.alloc (.cells #[i_ r.o.id,.slice r.A r.o.fs.length r.c] 56);have J:=ay.f_ 1;have aP:=((aL r af).1.hG bT:Sl _ 38 2 r.A r.o.fs.length (jd r.o.fs));have br:=bT.size;clear F aV bq Z)|(at_builtin;refine iL _ rfl (.const (n_)) (.tmp 29) 54 rfl w.heap.size 38 bF _ 2 16 underlying54 bE bt a8 bo rfl d_ d_ none 0 0 [] rfl (iV _ _ _ _) r.A r.o.fs.length r.c _ rfl aP (np _) o_ br ?_;intro be aZ aD b6 R;simp only[U_,EO]at b6;have ad:=R.gr [] w (H_ _) bT;have aH:=R.bk (cn.alloc (.cells #[i_ r.o.id,.slice r.A r.o.fs.length r.c] 56)) d_;have ck:=R.bk (U.alloc (.cells #[i_ r.o.id,.slice r.A r.o.fs.length r.c] 56)) d_;have ar:=R.bk (bI.alloc (.cells #[i_ r.o.id,.slice r.A r.o.fs.length r.c] 56)) d_;have bg:=R.bk (cf.alloc (.cells #[i_ r.o.id,.slice r.A r.o.fs.length r.c] 56)) d_;have M:=R.bk ay d_;have J:=M.f_ 1;have bC:=M.hH 1;have bU:=hR.lt;have ak:=aH.ih (p:=(c_ Y.heap.size 1)) sd_ (.slice be r.o.fs.length aZ);have k:=ck.ih (p:=(c_ Y.heap.size 1)) sd_ (.slice be r.o.fs.length aZ);have ap:=ar.ih (p:=(c_ Y.heap.size 1)) sd_ (.slice be r.o.fs.length aZ);have cT:=bg.ih (p:=(c_ Y.heap.size 1)) sd_ (.slice be r.o.fs.length aZ);have S:=M.hW 1 (.slice be r.o.fs.length aZ);have N:=ad.setCell (p:=(c_ Y.heap.size 1)) (.inr (show w.heap.size<=Y.heap.size by omega)) (.slice be r.o.fs.length aZ);have aJ:=k.f_ 1;have aG:=k.f_ 2;have bQ:=k.f_ 3;have ai:=S.f_ 0;have aj:=S.f_ 1;have a:=(F_ [Y.heap.size] aD).setCell (p:=(c_ Y.heap.size 1)) (.inl s_) (.slice be r.o.fs.length aZ);clear bZ b0 cn U bI cf ay aP br bT K bW r1 V D hR aH ck ar bg))
 have cj:=kH b6 M d_ a;have Q:=h_ (show ∀(i:Nat) (u:Value),(jl t.nw.l)[i]?=some u->f[i]?=some u from aU);have G:=jf am;clear aU b6 R am m O az bi ad I a M aL af bt a8 bo bE bM ca ce cp
 go_cut [6,42] (λy z aX=>∃(A d c5:Nat) (f:Array Value) (be:OA) (aZ:Nat),y=q_ A/\z=.bool (decide (0<=c.f/\c.f<(r.o.fs.length:Int)))/\Bk aX w.heap.size 53 ({t with nw:=⟨some (c_ d 0),c5,t.nw.l⟩}:Tk).g_/\Bk aX (w.heap.size+1) 116 #[i_ c.id,i_ c.f,.bool c.v.r,i_ c.v.n]/\Bk aX (w.heap.size+1+1) 53 lv/\Bk aX d 56 f/\(∀(i:Nat) (u:Value),(jl t.nw.l)[i]?=some u->f[i]?=some u)/\Bk aX A 56 #[i_ r.o.id,.slice be r.o.fs.length aZ]/\aX.ownsRow w.heap.size 38 2 (.slice be r.o.fs.length aZ) r.o.fs.length (jd r.o.fs)/\w.heap.size+1+1<A/\w.heap.size<=d/\d≠A/\t.nw.l.length<=c5/\Gr [] w aX)
 case first=>
  have cu:∀(b:Bool),b=decide (0<=c.f/\c.f<(r.o.fs.length:Int))->Value.bool b=.bool (decide (0<=c.f/\c.f<(r.o.fs.length:Int))):=λb hb=>by rw[hb]
  by_cases H:0<=c.f
  .by_cases C:c.f<(r.o.fs.length:Int)
   .go_wp2;go_meet;exact⟨Y.heap.size,d,c5,f,be,aZ,rfl,cu _ (by simp[H,C]),ak,k,ap,cT,Q.out,S,cj,bU,ae,o_,G,N⟩
   .have bn:decide (c.f<(r.o.fs.length:Int))=false:=zu C;go_wp2;go_meet;exact⟨Y.heap.size,d,c5,f,be,aZ,rfl,cu _ (by simp[H]),ak,k,ap,cT,Q.out,S,cj,bU,ae,o_,G,N⟩
  .have bj:decide (0<=c.f)=false:=zu H;go_wp2;go_meet;exact⟨Y.heap.size,d,c5,f,be,aZ,rfl,cu _ (s_),ak,k,ap,cT,Q.out,S,cj,bU,ae,o_,G,N⟩
 case rest=>
  clear J bC ak k ap cT Q S cj bU ae G N bR aJ aG bQ ai aj aQ;obtain⟨A,d,c5,f,be,aZ,rfl,rfl,s,W,aw,bp,a2,l,db,b7,ah,b8,aT,a7⟩:=hcut;have Q:=h_ a2;clear a2;have bz:=Bk.lZ bp s d_;have bw:=(Bk.lZ bp aw d_).symm
  by_cases kh:0<=c.f/\c.f<(r.o.fs.length:Int)
  .have ao:=E8 kh;rw[ao];obtain⟨H,C⟩:=kh;obtain⟨v,b5,aO,bN,bg,aW⟩:=kA db o_;subst aO;have ag:c.f.toNat<r.o.fs.length:=o_;have bO:¬(r.o.fs.length:Int)<=c.f:=o_;clear ao;have bP:=h_ aW;clear aW;have aM:=Sl.Bq (E:=Vl.E) (λ_=>rfl) (Sl.iT db) ag;have v0:wc.cell? (c_ v (c.f.toNat*2))=some _:=aM 0 _ rfl;have v1:wc.cell? (c_ v (c.f.toNat*2+1))=some _:=aM 1 _ rfl;clear aM;have bJ:=bg.hH (c.f.toNat*2);have bK:=bg.hH (c.f.toNat*2+1);have aJ:=W.f_ 1;have aG:=W.f_ 2;have bQ:=W.f_ 3;have ai:=l.f_ 0;have aj:=l.f_ 1;have bY:=(Bk.lZ bg s d_).symm;have bX:=(Bk.lZ bg aw d_).symm;have b4:=(Bk.lZ bg l d_).symm;have bV:=(Bk.lZ bg bp d_).symm
   go_upto_region 10 with fail
   have aB:=s.tR bY (c.f.toNat*2) (c.f.toNat*2+1) (.bool c.v.r) (i_ c.v.n);have aN:=aw.tR bX (c.f.toNat*2) (c.f.toNat*2+1) (.bool c.v.r) (i_ c.v.n);have au:=l.tR b4 (c.f.toNat*2) (c.f.toNat*2+1) (.bool c.v.r) (i_ c.v.n);have cC:=bp.tR bV (c.f.toNat*2) (c.f.toNat*2+1) (.bool c.v.r) (i_ c.v.n);have aS:=pI Vl.E (λ_=>rfl) ag c.v _ _ rfl bg bP.out _ rfl;have a6:=a7.two (.inr bN) (c.f.toNat*2) (c.f.toNat*2+1) (.bool c.v.r) (i_ c.v.n);obtain⟨X,co⟩:=nm_ ((wc.setCell (c_ v (c.f.toNat*2)) (.bool c.v.r)).setCell (c_ v (c.f.toNat*2+1)) (i_ c.v.n));rw[<-co]at aB aN au cC aS a6 |-;clear co v0 v1 bJ bK s aw l bp bg db W aJ aG bQ ai aj;have V:X.cell? (c_ w.heap.size 39)=some (.slice (j_ d) t.nw.l.length c5):=(aB.f_ 39).trans rfl;have b9:=au.f_ 0;have cg:=au.f_ 1;have d2:x*2+1<f.size:=Jm;have bW:X.cell? (c_ d (x*2))=some f[x*2]:=(cC.f_ (x*2)).trans (EH o_);have r1:X.cell? (c_ d (x*2+1))=some f[x*2+1]:=(cC.f_ (x*2+1)).trans (EH o_);have bG:=cC.hH (x*2);have bH:=cC.hH (x*2+1);have aF:=aB.tR bz.symm (x*2) (x*2+1) (i_ r.o.id) (.slice (j_ v) r.o.fs.length aZ);have n:=aN.tR bw (x*2) (x*2+1) (i_ r.o.id) (.slice (j_ v) r.o.fs.length aZ);have aq:=pI Rw.E wT cU (⟨⟨r.o.id,(r.o.fs.set c.f.toNat c.v)⟩,(j_ v),aZ⟩:Rw) (i_ r.o.id) (.slice (j_ v) r.o.fs.length aZ) (by simp[Rw.E]) cC Q.out _ rfl;have aK:=aS.iu cC d_ ((F_ [d] _).two (q:=d) (.inl s_) (x*2) (x*2+1) (i_ r.o.id) (.slice (j_ v) r.o.fs.length aZ));have bA:=a6.two (.inr ah) (x*2) (x*2+1) (i_ r.o.id) (.slice (j_ v) r.o.fs.length aZ)
   go_wp2_with (first|(refine kT aF underlying53 ?_)|(refine kQ (({t with nw:=⟨some (c_ d 0),c5,t.nw.l⟩}:Tk).g_) n (Tk.one _) ?_;intro dh P aC))
   have av:({t with nw:=⟨some (c_ d 0),c5,t.nw.l.set x ⟨⟨r.o.id,(r.o.fs.set c.f.toNat c.v)⟩,(j_ v),aZ⟩⟩}:Tk).g_=({t with nw:=⟨some (c_ d 0),c5,t.nw.l⟩}:Tk).g_:=by simp[Tk.g_]
   rw[<-av]at P;refine rr_ ({t with nw:=⟨some (c_ d 0),c5,t.nw.l.set x ⟨⟨r.o.id,(r.o.fs.set c.f.toNat c.v)⟩,(j_ v),aZ⟩⟩}:Tk).g_ P underlying53 ?_;unfold tC;rw[aR.out];have g:=bA.hK aC p_;have j:=ht.hG g;have aI:=aK.iu n d_ aC;refine⟨({t with nw:=⟨some (c_ d 0),c5,t.nw.l.set x ⟨⟨r.o.id,(r.o.fs.set c.f.toNat c.v)⟩,(j_ v),aZ⟩⟩}:Tk),rfl,⟨j.gs,j.rs,j.ws,?_,?_,j.ds,j.h7,j.x0,j.kZ,j.u_,?_,j.rS,j.pE⟩,?_,g⟩
   .exact KZ
   .exact j.nr.hW (by have:=aI;unfold Vs;rw[ER];exact this) (by rw[ER];exact aE)
   .show(t.nw.l.set x _).length<=c5
    rw[ER];exact aT
   .show({t.p with nw:=hY (t.nw.l.set x _)}:i3)=_
    rw[se];unfold ug;rw[T_ ⟨H,C⟩]
  .have ao:=FH kh;rw[ao];have ai:=l.f_ 0;have aj:=l.f_ 1;have bD:Vs wc be r.o.fs:=Sl.iT db;have V:wc.cell? (c_ w.heap.size 39)=some (.slice (j_ d) t.nw.l.length c5):=(s.f_ 39).trans rfl;have d2:x*2+1<f.size:=Jm;have bW:wc.cell? (c_ d (x*2))=some f[x*2]:=(bp.f_ (x*2)).trans (EH o_);have r1:wc.cell? (c_ d (x*2+1))=some f[x*2+1]:=(bp.f_ (x*2+1)).trans (EH o_);have bG:=bp.hH (x*2);have bH:=bp.hH (x*2+1);have aF:=s.tR bz.symm (x*2) (x*2+1) (i_ r.o.id) (.slice be r.o.fs.length aZ);have n:=aw.tR bw (x*2) (x*2+1) (i_ r.o.id) (.slice be r.o.fs.length aZ);have aq:=pI Rw.E wT cU (⟨⟨r.o.id,r.o.fs⟩,be,aZ⟩:Rw) (i_ r.o.id) (.slice be r.o.fs.length aZ) (by simp[Rw.E]) bp Q.out _ rfl;have aK:=bD.iu bp d_ ((F_ [d] _).two (q:=d) (.inl s_) (x*2) (x*2+1) (i_ r.o.id) (.slice be r.o.fs.length aZ));have bA:=a7.two (.inr ah) (x*2) (x*2+1) (i_ r.o.id) (.slice be r.o.fs.length aZ)
   go_wp2_with (first|(refine kT aF underlying53 ?_)|(refine kQ (({t with nw:=⟨some (c_ d 0),c5,t.nw.l⟩}:Tk).g_) n (Tk.one _) ?_;intro dh P aC))
   have av:({t with nw:=⟨some (c_ d 0),c5,t.nw.l.set x ⟨⟨r.o.id,r.o.fs⟩,be,aZ⟩⟩}:Tk).g_=({t with nw:=⟨some (c_ d 0),c5,t.nw.l⟩}:Tk).g_:=by simp[Tk.g_]
   rw[<-av]at P;refine rr_ ({t with nw:=⟨some (c_ d 0),c5,t.nw.l.set x ⟨⟨r.o.id,r.o.fs⟩,be,aZ⟩⟩}:Tk).g_ P underlying53 ?_;unfold tC;rw[aR.out];have g:=bA.hK aC p_;have j:=ht.hG g;have aI:=aK.iu n d_ aC;refine⟨({t with nw:=⟨some (c_ d 0),c5,t.nw.l.set x ⟨⟨r.o.id,r.o.fs⟩,be,aZ⟩⟩}:Tk),rfl,⟨j.gs,j.rs,j.ws,?_,?_,j.ds,j.h7,j.x0,j.kZ,j.u_,?_,j.rS,j.pE⟩,?_,g⟩
   .exact KZ
   .exact j.nr.hW (by exact aI) (by exact aE)
   .show(t.nw.l.set x _).length<=c5
    rw[ER];exact aT
   .show({t.p with nw:=hY (t.nw.l.set x _)}:i3)=_
    rw[se];unfold ug;rw[Q_ kh]
theorem rn(c:Cl)(w:World)(ht:lb w t)(B:t.nw.l.length<=1000000000)(ak:t.ws.l.length<=1000000000):
 Calls prog 132 #[.agg t.g_,.agg #[i_ c.id,i_ c.f,.bool c.v.r,i_ c.v.n]] w (tC (jX t.p c) w):=by
 by_cases L:jz (hY t.nw.l) c.id<0
 .exact wz t c w ht B ak L
 .exact wA t c (jz (hY t.nw.l) c.id).toNat w ht B (Fz o_).symm
theorem uB(hk:k<l.length)(b:Bool)(hb:(l[k].id !=d.id||l[k].f !=d.f)=b):jI (l.take (k+1)) d=if b=true then jI (l.take k) d++[l[k]] else jI (l.take k) d:=by
 unfold jI;rw[W_ hk,GM]
 cases b with
 |true=>rw[T_ rfl];simp[hb]
 |false=>rw[Q_ s_];simp[hb]
theorem p4:(jI l d).length<=l.length:=Fl _ _
theorem rp(h:Cs w A l)(hn:l.length<=1000000000):
 Calls prog 127 #[.slice A l.length c,.agg #[i_ d.id,i_ d.f,i_ d.op,.bool d.v.r,i_ d.v.n]] w (rX (jI l d) w):=by
 obtain⟨bF,bE,bt,a8,bo⟩:=info_parts infoCl;have hB:=P_ w 124 #[i_ d.id,i_ d.f,i_ d.op,.bool d.v.r,i_ d.v.n];have I:=(F_ [] w).alloc (.cells #[i_ d.id,i_ d.f,i_ d.op,.bool d.v.r,i_ d.v.n] 124);have bP:=h_ (show jI l d=jI (l.take l.length) d by rw[FD])
 go_enter func127,ntmps127
 go_wp2
 go_loopw [5,10] (λy i wr=>∃(k:Nat) (A':OA) (c' n':Nat),k<=l.length/\i=i_ k/\y=.slice A' n' c'/\n'=(jI (l.take k) d).length/\wr.ownsRow (w.heap.size+1) 116 4 (.slice A' n' c') n' ((jI (l.take k) d).flatMap Cl.E)/\Bk wr w.heap.size 124 #[i_ d.id,i_ d.f,i_ d.op,.bool d.v.r,i_ d.v.n]/\w.heap.size+1<=wr.heap.size/\Gr [] w wr) (λ_ i _=>l.length-(intOf i).toNat)
 case atStart=>exact⟨0,none,0,0,O_ _,rfl,rfl,rfl,iV _ _ _ _,hB,s_,I⟩
 case round=>
  clear hB I;obtain⟨k,A',c',n',hk,rfl,rfl,q,aF,hB,hbs,F⟩:=hrel;have aW:=h_ q
  have bC:n'<=1000000000:=by
   have:=p4 (l.take k) d
   rw[E1]at this;omega
  clear q
  by_cases ag:k<l.length
  .have aJ:(k:Int)<(l.length:Int):=o_;obtain⟨b,off,aT,bi,bq,bK,bT⟩:=(h.hG F).at_ ag;rw[aT]
   have bL:=λbB hb=>uB l d ag bB hb
   have g:=h_ bL;clear bL;generalize l[k]=x at*;have f:=hB;have L:=P_ wr 116 #[i_ x.id,i_ x.f,.bool x.v.r,i_ x.v.n];replace hB:=hB.alloc (.cells #[i_ x.id,i_ x.f,.bool x.v.r,i_ x.v.n] 116);have U:=L.f_ 0;have ad:=L.f_ 1;have ar:=L.f_ 2;have aL:=L.f_ 3;have z0:=hB.f_ 0;have aM:=hB.f_ 1;have aY:=iK aF ((((F_ [] wr).alloc (.cells #[i_ x.id,i_ x.f,.bool x.v.r,i_ x.v.n] 116))).alloc (.cells #[i_ x.id,i_ x.f,.bool x.v.r,i_ x.v.n] 116));have a:(wr.alloc (.cells #[i_ x.id,i_ x.f,.bool x.v.r,i_ x.v.n] 116)).heap.size=wr.heap.size+1:=s_;have aQ:Sl ((wr.alloc (.cells #[i_ x.id,i_ x.f,.bool x.v.r,i_ x.v.n] 116)).alloc (.cells #[i_ x.id,i_ x.f,.bool x.v.r,i_ x.v.n] 116)) 116 4 (j_ (wr.heap.size+1)) 1 ([x].flatMap Cl.E):=a▸kN (s:=4) (P_ (wr.alloc (.cells #[i_ x.id,i_ x.f,.bool x.v.r,i_ x.v.n] 116)) 116 #[i_ x.id,i_ x.f,.bool x.v.r,i_ x.v.n]) rfl;clear a;have t:w.heap.size+1<=((wr.alloc (.cells #[i_ x.id,i_ x.f,.bool x.v.r,i_ x.v.n] 116)).alloc (.cells #[i_ x.id,i_ x.f,.bool x.v.r,i_ x.v.n] 116)).heap.size:=p_;replace hB:=hB.alloc (.cells #[i_ x.id,i_ x.f,.bool x.v.r,i_ x.v.n] 116);have bR:=(F.alloc (.cells #[i_ x.id,i_ x.f,.bool x.v.r,i_ x.v.n] 116)).alloc (.cells #[i_ x.id,i_ x.f,.bool x.v.r,i_ x.v.n] 116)
   by_cases t0:x.id=d.id
   .have bj:(x.id !=d.id)=false:=zu t0
    by_cases t1:x.f=d.f
    .have bn:(x.f !=d.f)=false:=zu t1;have ay:=h_ (g.out false (by rw[bj,bn];rfl));clear t0 t1;go_wp2;go_roundw
     case rel=>exact⟨k+1,A',c',n',o_,gn,rfl,by rw[ay.out];simpa using aW.out,by rw[ay.out];exact iK aF ((F_ [] wr).alloc _),f.alloc _,p_,F.alloc _⟩
     case measure=>exact mz
    .have bn:(x.f !=d.f)=true:=zu t1;have ay:=h_ (g.out true (by rw[bj,bn];rfl));clear t0 t1;exact H2
   .have bj:(x.id !=d.id)=true:=zu t0;have ay:=h_ (g.out true (by rw[bj];rfl));clear t0;exact H2
  .have aJ:¬(k:Int)<(l.length:Int):=o_;have bQ:=h_ (show k=l.length by omega);go_wp2;go_ret;unfold rX;rw[bP.out,<-bQ.out,<-aW.out];refine⟨A',c',rfl,?_,jf aF,F⟩
   have:=Sl.iT aF
   unfold Cs;rw[<-aW.out];exact this
def m_(t:i3):i3:={t with h8:=4,hM:=t.hM+1}
theorem tu(ht:lb w t)(h0:0<=t.hM)(h1:t.hM<=1000000000):
 Calls prog 80 #[.agg t.g_] w (tC (m_ t.p) w):=by
 obtain⟨O,hR,I⟩:=qh w 53 t.g_ 53 lv
 go_enter func80,ntmps80
 go_upto_region 1 with fail
 obtain⟨W,aK⟩:=nm_ ((w.alloc (.cells t.g_ 53)).alloc (.cells lv 53));rw[<-aK]at O hR I |-;clear aK;have b:Bk _ w.heap.size 53 ({t with h8:=4,hM:=t.hM+1}:Tk).g_:=(O.hW 42 (i_ 4)).hW 47 (i_ (t.hM+1));have a:=(hR.ih (p:=(c_ w.heap.size 42)) sd_ (i_ 4)).ih (p:=(c_ w.heap.size 47)) sd_ (i_ (t.hM+1));have d:W.cell? (c_ w.heap.size 42)=some (i_ t.h8):=(O.f_ 42).trans rfl;have c:W.cell? (c_ w.heap.size 47)=some (i_ t.hM):=(O.f_ 47).trans rfl;have bF:=O.hH 42;have cA:=O.hH 47
 go_wp2_with (first|(refine kT b underlying53 ?_)|(refine kQ (({t with h8:=4,hM:=t.hM+1}:Tk).g_) a (Tk.one _) ?_;intro ae cz S))
 refine rr_ ({t with h8:=4,hM:=t.hM+1}:Tk).g_ cz underlying53 ?_;have g:=((I.setCell (.inr s_) _).setCell (.inr s_) _).hK S s_;have j:=ht.hG g;exact⟨({t with h8:=4,hM:=t.hM+1}:Tk),rfl,⟨j.gs,j.rs,j.ws,j.nw,j.nr,j.ds,j.h7,j.x0,j.kZ,j.u_,j.sY,j.rS,j.pE⟩,rfl,g⟩
theorem BH(o:Ob):(lp h o).length<=h.length+1:=by
 unfold lp;split
 .simp;omega
 .simp;omega
theorem oG(l:List Ob)(h:List Ob):(l.foldl lp h).length<=h.length+l.length:=by
 induction l generalizing h with
 |nil=>simp
 |cons o l Z=>rw[FY];have:=Z (lp h o);have:=BH h o;simp;omega
theorem q4(l:List Rw)(h:List Ob)(hk:k<l.length):(hY (l.take (k+1))).foldl lp h=lp ((hY (l.take k)).foldl lp h) l[k].o:=by
 rw[W_ hk];unfold hY;rw[EL,FZ]
 rfl
theorem vC(l:List Rw)(t:Tk)(w:World)(ht:lb w t)(h:mj w A c l)(hn:l.length+t.nw.l.length<=999999999)(az:t.ws.l.length<=1000000000)(da:t.ds.l.length<=1000000000):
 Calls prog 84 #[.agg #[.slice A l.length c],.agg t.g_] w (mf (lG (hY l) t.p) w):=by
 obtain⟨i1,bM,ca,ce,cp⟩:=info_parts infoOb;obtain⟨z,O,hR,I⟩:=wt w 35 #[.slice A l.length c] 53 t.g_ 35 #[n_];have N:=h.hG I;have aQ:=z.f_ 0;have aR:=h_ (show lG (hY l) t.p=kf (i7 ((hY t.nw.l).foldl lp (hY l)) t.ws.l) t.ds.l from rfl);have y:=h_ (show(hY l).length+t.nw.l.length<=999999999 by rw[h9];exact hn)
 go_enter func84,ntmps84
 go_wp2_with (at_builtin;refine o6 _ rfl (.const (n_)) (.tmp 8) 33 rfl 56 i1 _ 2 32 underlying33 bM ca ce cp rfl d_ d_ none 0 [] rfl (Fm _ _ _ _) A l.length c _ rfl N.os (jZ _) o_ ?_;intro av ai w2 aq bB J;simp only[U_,EO]at bB aq;replace z:=z.hG J;replace O:=O.hG J;replace hR:=hR.hG J;replace I:=I.trans J;replace aQ:=z.f_ 0;have br:=z.hH 0;have aM:mj w2 av ai l:=⟨bB,N.kZ.hG J,aq⟩;have C:=z.hW 0 (.slice av l.length ai);have cy:=O.ih (p:=(c_ w.heap.size 0)) sd_ (.slice av l.length ai);have a2:=hR.ih (p:=(c_ w.heap.size 0)) sd_ (.slice av l.length ai);have g:=aM.iu z d_ d_ ((F_ _ _).setCell (p:=(c_ w.heap.size 0)) (.inl s_) (.slice av l.length ai));have m:=I.setCell (p:=(c_ w.heap.size 0)) (.inr s_) (.slice av l.length ai);have bZ:(w2.setCell (c_ w.heap.size 0) (.slice av l.length ai)).cell? (c_ (w.heap.size+1) 39)=some (.slice t.nw.A t.nw.l.length t.nw.c):=(cy.f_ 39).trans rfl)
 clear O hR z N I aQ br aM bB J;have O:=cy;have hR:=a2;have z:=C;have N:=g;have I:=m;clear cy a2 C g m
 go_loopw [14] (λi wr=>∃(k:Nat) (A':OA) (c':Nat) (rs:List Rw),k<=t.nw.l.length/\i=i_ k/\Bk wr (w.heap.size+1) 53 t.g_/\Bk wr (w.heap.size+1+1) 35 #[n_]/\Bk wr (w.heap.size) 35 #[.slice A' rs.length c']/\mj wr A' c' rs/\hY rs=(hY (t.nw.l.take k)).foldl lp (hY l)/\Gr [] w wr) (λi _=>t.nw.l.length-(intOf i).toNat)
 case atStart=>exact⟨0,av,ai,l,O_ _,rfl,O,hR,z,N,rfl,I⟩
 case round=>
  clear O hR z N I bZ;obtain⟨k,A',c',rs,hk,rfl,O,hR,z,N,bw,F⟩:=hrel;have q:=h_ bw
  have v:rs.length<=999999999:=by
   have h1:=h9 rs;have h2:=oG (hY (t.nw.l.take k)) (hY l);rw[bw]at h1;rw[h9 (t.nw.l.take k),E1]at h2;have h3:=y.out;omega
  clear bw
  by_cases ag:k<t.nw.l.length
  .obtain⟨b,off,aT,bi,bq⟩:=(ht.nw.hG F).at_ ag;rw[aT];have bL:=h_ (show(hY (t.nw.l.take (k+1))).foldl lp (hY l)=lp (hY rs) t.nw.l[k].o by rw[q.out];exact q4 _ _ ag);have D:=(ht.nr.hG (F.alloc (.cells #[i_ t.nw.l[k].o.id,.slice t.nw.l[k].A t.nw.l[k].o.fs.length t.nw.l[k].c] 56))) t.nw.l[k] (N_ ag);generalize t.nw.l[k]=r at*;have ay:Sl (wr.alloc (.cells #[i_ r.o.id,.slice r.A r.o.fs.length r.c] 56)) 38 2 r.A r.o.fs.length (jd r.o.fs):=D.1;have aJ:(k:Int)<(t.nw.l.length:Int):=o_;replace O:=O.alloc (.cells #[i_ r.o.id,.slice r.A r.o.fs.length r.c] 56);replace hR:=hR.alloc (.cells #[i_ r.o.id,.slice r.A r.o.fs.length r.c] 56);replace z:=z.alloc (.cells #[i_ r.o.id,.slice r.A r.o.fs.length r.c] 56);replace N:=N.alloc (.cells #[i_ r.o.id,.slice r.A r.o.fs.length r.c] 56);replace F:=F.alloc (.cells #[i_ r.o.id,.slice r.A r.o.fs.length r.c] 56);have aQ:=z.f_ 0;have L:=P_ wr 56 #[i_ r.o.id,.slice r.A r.o.fs.length r.c];have U:=L.f_ 0;have ad:=L.f_ 1
   go_wp2_with (go_at_call 123;((with_reducible refine(uH A' c' rs r.o.id r.A r.c r.o.fs _ N.os N.kZ N.lW ay D.2 v).mono ?_);rintro e Y⟨aY,c5,a,rfl,G,P,bI,d,ah⟩;have j:=h_ d;clear d;replace O:=O.hG ah;replace hR:=hR.hG ah;replace z:=z.hG ah;replace F:=F.trans ah;replace aQ:=z.f_ 0;have br:=z.hH 0))
   go_roundw
   case rel=>exact⟨k+1,aY,c5,a,o_,gn,O.ih sd_ _,hR.ih sd_ _,z.hW 0 _,(mj.mk P bI G).iu z d_ d_ ((F_ _ _).setCell (.inl s_) _),by rw[bL.out,j.out],F.setCell (.inr (by first|(simp;done)|(simp;omega)|omega)) _⟩
   case measure=>exact mz
  .have bQ:=h_ (show k=t.nw.l.length by omega);have aJ:¬(k:Int)<(t.nw.l.length:Int):=o_;have aQ:=z.f_ 0;have bV:wr.cell? (c_ (w.heap.size+1) 38)=some (.slice t.ws.A t.ws.l.length t.ws.c):=(O.f_ 38).trans rfl;have bl:wr.cell? (c_ (w.heap.size+1) 40)=some (.slice t.ds.A t.ds.l.length t.ds.c):=(O.f_ 40).trans rfl;have B:=N.hG (F_ [] wr).drew;have V:=F.drew;have H:rs.length<=1000000000:=o_
   go_wp2_with fail
   go_region_held3 (λw'=>w'.cell? (c_ w.heap.size 0)=some (.slice A' rs.length c')/\w'.cell? (c_ (w.heap.size+1) 38)=some (.slice t.ws.A t.ws.l.length t.ws.c)/\w'.cell? (c_ (w.heap.size+1) 40)=some (.slice t.ds.A t.ds.l.length t.ds.c)) (first|exact dL|exact dM|exact E|go_keep)
    (first
      |(go_at_call 125;((with_reducible refine(nL A' c' rs t.ws.A t.ws.c t.ws.l _ B H (ht.hG V).ws az).mono ?_);unfold mf;rintro e Y⟨aY,c5,a,rfl,s,d,ah⟩;have j:=h_ d;have Q:a.length<=1000000000:=(by have:=h9 a;rw[d,jT,h9]at this;omega);clear d;have cn:=O.drew.hG ah;have n:=z.drew.hG ah;have bI:=hR.drew.hG ah;have K:=V.trans ah;have dL:Y.cell? (c_ w.heap.size 0)=some (.slice A' rs.length c')/\Y.cell? (c_ (w.heap.size+1) 38)=some (.slice t.ws.A t.ws.l.length t.ws.c)/\Y.cell? (c_ (w.heap.size+1) 40)=some (.slice t.ds.A t.ds.l.length t.ds.c):=⟨n.f_ 0,(cn.f_ 38).trans rfl,(cn.f_ 40).trans rfl⟩))
      |(go_at_call 124;((with_reducible refine(rB aY c5 a t.ds.A t.ds.c t.ds.l _ s Q (ht.hG K).ds da).mono ?_);unfold mf;rintro e ax⟨aI,aF,f,rfl,aX,dk,aB⟩;have aP:=h_ dk;clear dk;have bO:=cn.hG aB;have aU:=n.hG aB;have X:=bI.hG aB;have dS:=X.hH 0;have cg:=X.f_ 0;have dM:ax.cell? (c_ w.heap.size 0)=some (.slice A' rs.length c')/\ax.cell? (c_ (w.heap.size+1) 38)=some (.slice t.ws.A t.ws.l.length t.ws.c)/\ax.cell? (c_ (w.heap.size+1) 40)=some (.slice t.ds.A t.ds.l.length t.ds.c):=⟨aU.f_ 0,(bO.f_ 38).trans rfl,(bO.f_ 40).trans rfl⟩;have aL:=aU.ih (p:=(c_ (w.heap.size+1+1) 0)) sd_ (.slice aI f.length aF);have aH:=bO.ih (p:=(c_ (w.heap.size+1+1) 0)) sd_ (.slice aI f.length aF);have E:(ax.setCell (c_ (w.heap.size+1+1) 0) (.slice aI f.length aF)).cell? (c_ w.heap.size 0)=some (.slice A' rs.length c')/\(ax.setCell (c_ (w.heap.size+1+1) 0) (.slice aI f.length aF)).cell? (c_ (w.heap.size+1) 38)=some (.slice t.ws.A t.ws.l.length t.ws.c)/\(ax.setCell (c_ (w.heap.size+1+1) 0) (.slice aI f.length aF)).cell? (c_ (w.heap.size+1) 40)=some (.slice t.ds.A t.ds.l.length t.ds.c):=⟨aL.f_ 0,(aH.f_ 38).trans rfl,(aH.f_ 40).trans rfl⟩)))
   exact Ii
theorem o8(A:OA)(c:Nat)(l:List Rw)(w:World)(ht:lb w t)(h:mj w A c l)(hn:l.length+t.nw.l.length<=999999999)(az:t.ws.l.length<=1000000000)(da:t.ds.l.length<=1000000000)(dg:t.gs.l.length<=1000000000)(aV:t.rs.l.length<=1000000000):
 Calls prog 79 #[.agg t.g_,.agg #[.slice A l.length c]] w (mf (jr t.p (hY l)) w):=by
 obtain⟨i1,bM,ca,ce,cp⟩:=info_parts infoOb;obtain⟨O,aZ,hR,I⟩:=wt w 53 t.g_ 35 #[.slice A l.length c] 35 #[n_];have N:=h.hG I;have aQ:=aZ.f_ 0;have hn1:l.length<=1000000000:=o_;have aR:=h_ (show jr t.p (hY l)=kf (i7 ((hY t.nw.l).foldl lp (before t.p (hY l))) t.ws.l) t.ds.l from rfl);have y:=h_ (show(before t.p (hY l)).length+t.nw.l.length<=999999999 by rw[mB,h9];exact hn)
 go_enter func79,ntmps79
 go_wp2_with (first|(refine kT O underlying53 ?_)|(go_at_call 122;((with_reducible refine(oQ t A c l _ (ht.hG I) N hn1 dg aV).mono ?_);unfold mf;rintro e w1⟨A1,c1,l1,rfl,u,d3,hg1⟩;have x:=h_ d3;have T:=h_ (show l1.length=l.length from(by have:=h9 l1;rw[d3,mB,h9]at this;exact this.symm));clear d3;have S:=(hR.hG hg1).lt;have R:w.heap.size≠w1.heap.size:=o_;have M:w.heap.size+1+1≠w1.heap.size:=o_;replace O:=(O.hG hg1).alloc (.cells #[.slice A1 l1.length c1] 35);replace hR:=(hR.hG hg1).alloc (.cells #[.slice A1 l1.length c1] 35);have z:=P_ w1 35 #[.slice A1 l1.length c1];replace u:=u.alloc (.cells #[.slice A1 l1.length c1] 35);replace I:=(I.trans hg1).alloc (.cells #[.slice A1 l1.length c1] 35);have bj:=z.f_ 0))|(at_builtin;refine o6 _ rfl (.const (n_)) (.tmp 12) 33 rfl 56 i1 _ 2 32 underlying33 bM ca ce cp rfl d_ d_ none 0 [] rfl (Fm _ _ _ _) A1 l1.length c1 _ rfl u.os (jZ _) (ov T.out) ?_;intro av ai w2 aq bB J;simp only[U_,EO]at bB aq;replace z:=z.hG J;replace O:=O.hG J;replace hR:=hR.hG J;replace I:=I.trans J;replace bj:=z.f_ 0;have bH:=z.hH 0;have aM:mj w2 av ai l1:=⟨bB,u.kZ.hG J,aq⟩;have C:=z.hW 0 (.slice av l1.length ai);have cy:=O.ih (p:=(c_ w1.heap.size 0)) R (.slice av l1.length ai);have a2:=hR.ih (p:=(c_ w1.heap.size 0)) M (.slice av l1.length ai);have g:=aM.iu z d_ d_ ((F_ _ _).setCell (p:=(c_ w1.heap.size 0)) (.inl s_) (.slice av l1.length ai));have m:=I.setCell (p:=(c_ w1.heap.size 0)) (.inr (show w.heap.size<=w1.heap.size by omega)) (.slice av l1.length ai);have bZ:(w2.setCell (c_ w1.heap.size 0) (.slice av l1.length ai)).cell? (c_ w.heap.size 39)=some (.slice t.nw.A t.nw.l.length t.nw.c):=(cy.f_ 39).trans rfl))
 clear O hR z N I aQ bj bH aM bB J aZ hg1 u;have O:=cy;have hR:=a2;have z:=C;have N:=g;have I:=m;clear cy a2 C g m
 go_loopw [18] (λi wr=>∃(k:Nat) (A':OA) (c':Nat) (rs:List Rw),k<=t.nw.l.length/\i=i_ k/\Bk wr (w.heap.size) 53 t.g_/\Bk wr (w.heap.size+1+1) 35 #[n_]/\Bk wr (w1.heap.size) 35 #[.slice A' rs.length c']/\mj wr A' c' rs/\hY rs=(hY (t.nw.l.take k)).foldl lp (before t.p (hY l))/\Gr [] w wr) (λi _=>t.nw.l.length-(intOf i).toNat)
 case atStart=>exact⟨0,av,ai,l1,O_ _,rfl,O,hR,z,N,x.out,I⟩
 case round=>
  clear O hR z N I bZ;obtain⟨k,A',c',rs,hk,rfl,O,hR,z,N,bw,F⟩:=hrel;have q:=h_ bw
  have v:rs.length<=999999999:=by
   have h1:=h9 rs;have h2:=oG (hY (t.nw.l.take k)) (before t.p (hY l));rw[bw]at h1;rw[h9 (t.nw.l.take k),E1]at h2;have h3:=y.out;omega
  clear bw
  by_cases ag:k<t.nw.l.length
  .obtain⟨b,off,aT,bi,bq⟩:=(ht.nw.hG F).at_ ag;rw[aT];have bL:=h_ (show(hY (t.nw.l.take (k+1))).foldl lp (before t.p (hY l))=lp (hY rs) t.nw.l[k].o by rw[q.out];exact q4 _ _ ag);have D:=(ht.nr.hG (F.alloc (.cells #[i_ t.nw.l[k].o.id,.slice t.nw.l[k].A t.nw.l[k].o.fs.length t.nw.l[k].c] 56))) t.nw.l[k] (N_ ag);generalize t.nw.l[k]=r at*;have ay:Sl (wr.alloc (.cells #[i_ r.o.id,.slice r.A r.o.fs.length r.c] 56)) 38 2 r.A r.o.fs.length (jd r.o.fs):=D.1;have aJ:(k:Int)<(t.nw.l.length:Int):=o_;replace O:=O.alloc (.cells #[i_ r.o.id,.slice r.A r.o.fs.length r.c] 56);replace hR:=hR.alloc (.cells #[i_ r.o.id,.slice r.A r.o.fs.length r.c] 56);replace z:=z.alloc (.cells #[i_ r.o.id,.slice r.A r.o.fs.length r.c] 56);replace N:=N.alloc (.cells #[i_ r.o.id,.slice r.A r.o.fs.length r.c] 56);replace F:=F.alloc (.cells #[i_ r.o.id,.slice r.A r.o.fs.length r.c] 56);have aQ:=z.f_ 0;have L:=P_ wr 56 #[i_ r.o.id,.slice r.A r.o.fs.length r.c];have U:=L.f_ 0;have ad:=L.f_ 1
   go_wp2_with (go_at_call 123;((with_reducible refine(uH A' c' rs r.o.id r.A r.c r.o.fs _ N.os N.kZ N.lW ay D.2 v).mono ?_);rintro e Y⟨aY,c5,a,rfl,G,P,bI,d,ah⟩;have j:=h_ d;clear d;replace O:=O.hG ah;replace hR:=hR.hG ah;replace z:=z.hG ah;replace F:=F.trans ah;replace aQ:=z.f_ 0;have br:=z.hH 0))
   go_roundw
   case rel=>exact⟨k+1,aY,c5,a,o_,gn,O.ih R _,hR.ih M _,z.hW 0 _,(mj.mk P bI G).iu z d_ d_ ((F_ _ _).setCell (.inl s_) _),by rw[bL.out,j.out],F.setCell (.inr (show w.heap.size<=w1.heap.size by omega)) _⟩
   case measure=>exact mz
  .have bQ:=h_ (show k=t.nw.l.length by omega);have aJ:¬(k:Int)<(t.nw.l.length:Int):=o_;have aQ:=z.f_ 0;have bV:wr.cell? (c_ w.heap.size 38)=some (.slice t.ws.A t.ws.l.length t.ws.c):=(O.f_ 38).trans rfl;have bl:wr.cell? (c_ w.heap.size 40)=some (.slice t.ds.A t.ds.l.length t.ds.c):=(O.f_ 40).trans rfl;have B:=N.hG (F_ [] wr).drew;have V:=F.drew;have H:rs.length<=1000000000:=o_
   go_wp2_with fail
   go_region_held3 (λw'=>w'.cell? (c_ w1.heap.size 0)=some (.slice A' rs.length c')/\w'.cell? (c_ w.heap.size 38)=some (.slice t.ws.A t.ws.l.length t.ws.c)/\w'.cell? (c_ w.heap.size 40)=some (.slice t.ds.A t.ds.l.length t.ds.c)) (first|exact dL|exact dM|exact E|go_keep)
    (first
      |(go_at_call 125;((with_reducible refine(nL A' c' rs t.ws.A t.ws.c t.ws.l _ B H (ht.hG V).ws az).mono ?_);unfold mf;rintro e Y⟨aY,c5,a,rfl,s,d,ah⟩;have j:=h_ d;have Q:a.length<=1000000000:=(by have:=h9 a;rw[d,jT,h9]at this;omega);clear d;have cn:=O.drew.hG ah;have n:=z.drew.hG ah;have bI:=hR.drew.hG ah;have K:=V.trans ah;have dL:Y.cell? (c_ w1.heap.size 0)=some (.slice A' rs.length c')/\Y.cell? (c_ w.heap.size 38)=some (.slice t.ws.A t.ws.l.length t.ws.c)/\Y.cell? (c_ w.heap.size 40)=some (.slice t.ds.A t.ds.l.length t.ds.c):=⟨n.f_ 0,(cn.f_ 38).trans rfl,(cn.f_ 40).trans rfl⟩))
      |(go_at_call 124;((with_reducible refine(rB aY c5 a t.ds.A t.ds.c t.ds.l _ s Q (ht.hG K).ds da).mono ?_);unfold mf;rintro e ax⟨aI,aF,f,rfl,aX,dk,aB⟩;have aP:=h_ dk;clear dk;have bO:=cn.hG aB;have aU:=n.hG aB;have X:=bI.hG aB;have dS:=X.hH 0;have cg:=X.f_ 0;have dM:ax.cell? (c_ w1.heap.size 0)=some (.slice A' rs.length c')/\ax.cell? (c_ w.heap.size 38)=some (.slice t.ws.A t.ws.l.length t.ws.c)/\ax.cell? (c_ w.heap.size 40)=some (.slice t.ds.A t.ds.l.length t.ds.c):=⟨aU.f_ 0,(bO.f_ 38).trans rfl,(bO.f_ 40).trans rfl⟩;have aL:=aU.ih (p:=(c_ (w.heap.size+1+1) 0)) M.symm (.slice aI f.length aF);have aH:=bO.ih (p:=(c_ (w.heap.size+1+1) 0)) sd_ (.slice aI f.length aF);have E:(ax.setCell (c_ (w.heap.size+1+1) 0) (.slice aI f.length aF)).cell? (c_ w1.heap.size 0)=some (.slice A' rs.length c')/\(ax.setCell (c_ (w.heap.size+1+1) 0) (.slice aI f.length aF)).cell? (c_ w.heap.size 38)=some (.slice t.ws.A t.ws.l.length t.ws.c)/\(ax.setCell (c_ (w.heap.size+1+1) 0) (.slice aI f.length aF)).cell? (c_ w.heap.size 40)=some (.slice t.ds.A t.ds.l.length t.ds.c):=⟨aL.f_ 0,(aH.f_ 38).trans rfl,(aH.f_ 40).trans rfl⟩)))
   exact Ii
end Go.Proofs.YtenbhdilndfaeaaGreat
