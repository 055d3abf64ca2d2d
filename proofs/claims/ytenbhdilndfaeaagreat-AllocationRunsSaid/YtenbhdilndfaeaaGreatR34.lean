import Derived.Test.YtenbhdilndfaeaaGreatR33
set_option maxRecDepth 100000
set_option maxHeartbeats 0
set_option linter.all false
namespace Go.Proofs.YtenbhdilndfaeaaGreat
open Go.RowKit Go.Proofs.Tryz
variable{G:Prop}{k:Nat}{m:Md}{s:Cm}
def Ib(h:G:=by
 clear MT K
 refine hV 19 λK MT=>?_
 go_simp
 (go_at_call 39;((with_reducible refine(bN.out a7 vc b d0 aQ df c7).mono ?_));unfold np;rintro e ws⟨t1,rfl,bS,cF,M⟩)
 clear C
 refine hX MT (by
  have hx:=(z.g_ (aQ.trans M)).x
  exact⟨(hx.f_ 0).trans rfl,(hx.f_ 1).trans rfl,(hx.f_ 2).trans rfl,(hx.f_ 4).trans rfl,(hx.f_ 5).trans rfl,(by rw[<-a.out];exact(hx.f_ 15).trans rfl)⟩) λC=>?_
 clear MT K;refine iH 20 C ?_;refine iH 21 C ?_;refine iH 23 C ?_;refine jh 22 24 rfl rfl k_ (λK MT=>?_) (λK MT=>?_)
 .go_simp
  refine hX MT C λC=>?_
  clear MT K
  refine hV 24 λK MT=>?_
  rw[O_ r_];refine jz 53 _ _ rfl gb (i*48) r_ t1.g8 r_ 53 _ (hR.bk.g_ (aQ.trans M)) aB k_ (Tk.one _) ?_;intro bo cg av;clear C
  refine hX MT (by
   have hx:=(z.g_ (aQ.trans M)).x.gr av (zu (((hR.bk.g_ (aQ.trans M)).me (z.g_ (aQ.trans M)).x I).symm))
   exact⟨(hx.f_ 0).trans rfl,(hx.f_ 1).trans rfl,(hx.f_ 2).trans rfl,(hx.f_ 4).trans rfl,(hx.f_ 5).trans rfl,(by rw[<-a.out];exact(hx.f_ 15).trans rfl)⟩) λC=>?_
  exact II
 .rw[O_ r_];refine jz 53 _ _ rfl gb (i*48) r_ t1.g8 r_ 53 _ (hR.bk.g_ (aQ.trans M)) aB k_ (Tk.one _) ?_;intro bo cg av;clear C
  refine hX MT (by
   have hx:=(z.g_ (aQ.trans M)).x.gr av (zu (((hR.bk.g_ (aQ.trans M)).me (z.g_ (aQ.trans M)).x I).symm))
   exact⟨(hx.f_ 0).trans rfl,(hx.f_ 1).trans rfl,(hx.f_ 2).trans rfl,(hx.f_ 4).trans rfl,(hx.f_ 5).trans rfl,(by rw[<-a.out];exact(hx.f_ 15).trans rfl)⟩) λC=>?_
  clear MT K
  refine hV 22 λK MT=>?_
  go_simp
  refine hX MT C λC=>?_
  exact II):G:=h
def Ii(h:G:=by
 refine hV 8 λK MT=>?_
 go_simp
 (go_at_call 49;((with_reducible refine(ol m.A m.c m.l m.hq m.g9 xs[k] (m.run+k) h8 _ z.i.l X X X X X).mono ?_));unfold np;rintro e aH⟨t0,rfl,aJ,cx,aN⟩)
 replace z:=z.g_ aN;replace HG:J [g] wr aH:=HG.trans (aN.of_nil [g]);replace hb:=hb.g_ aN;clear C;have C:aH.cell? (Z gx 0)=some (.slice m.A m.l.length m.c)/\aH.cell? (Z gx 1)=some (Y m.hq)/\aH.cell? (Z gx 2)=some (Y m.g9)/\aH.cell? (Z gx 16)=some (Y (m.run+k)):=⟨(z.x.f_ 0).trans rfl,(z.x.f_ 1).trans rfl,(z.x.f_ 2).trans rfl,(z.x.f_ 16).trans rfl⟩;clear aN
 refine hX MT C λC=>?_
 clear MT K
 repeat refine jW C ?_
 exact Iv):G:=h
def Iv(h:G:=by
 refine hV 13 λK MT=>?_
 rw[O_ r_];refine ie 53 rfl x r_ t0.g8 r_ 53 hb rfl k_ (Tk.one _) ?_;intro bi bM o
 have bR:bi.cell? (Z gx 0)=some (.slice m.A m.l.length m.c)/\bi.cell? (Z gx 1)=some (Y m.hq)/\bi.cell? (Z gx 2)=some (Y m.g9)/\bi.cell? (Z gx 16)=some (Y (m.run+k)):=by
  have cf:=z.x.gr o (by have:=hb.me z.x I;simpa using this.symm);exact⟨(cf.f_ 0).trans rfl,(cf.f_ 1).trans rfl,(cf.f_ 2).trans rfl,(cf.f_ 16).trans rfl⟩
 clear C;have C:=bR;clear bR
 refine hX MT C λC=>?_
 clear MT K
 refine hV 14 λK MT=>?_
 go_simp
 refine hX MT C λC=>?_
 clear MT K;refine hC k_ ?_ _;go_wp2;go_meet;exact⟨t0,x,h8,rfl,bM,aJ.ir hb I o,cx,z.d.ib o (λy hy=>by rw[R_]at hy;rw[hy];exact G_ z.hB (G_ dS cK)),HG.hA o (λy hy=>.inr (by rw[R_]at hy;rw[hy];exact cK))⟩):G:=h
def IE(h:G:=by
 go_wp2_with (first|(refine k5 z.x underlying43 ?_)|(refine kZ (({m with run:=m.run+k,tA:=tA,tc:=tc,ts:=ts}:Md).g8) z.r (Md.one _) ?_;intro bo MN av))
 obtain⟨aR,aU,z3⟩:=z.fin av;exact rr_ ({m with run:=m.run+k,tA:=tA,tc:=tc,ts:=ts}:Md).g8 MN underlying43 (by rw[aI.out];exact⟨({m with run:=m.run+k,tA:=tA,tc:=tc,ts:=ts}:Md),rfl,aR,⟨bh.out.val,bh.out.dv,⟨c9,m.run,er,bh.out.cm,.inr ⟨dg.out,(by show m.run+(k:Int)=m.run+(ts.length:Int);rw[a.out]),j,X,dj.out⟩⟩,by show ts.length<=tc;rw[a.out];exact d3.out⟩,aU,z3⟩)):G:=h
def II(h:G:=by
 clear MT K;refine hC k_ ?_ _;have MN:=hR.set (w':=bo) hi t1 cg
 have cT:=((z.g_ (aQ.trans M)).row (hR.bk.g_ (aQ.trans M)) av o (ts:=ts.set i t1) s_ MN.sl (λt MO=>by
  rcases FW MO with MO|rfl
  .exact(z.i.ts.B_ t MO).g_ (aQ.trans M)
  .exact bS))
 have bJ:=O cF;clear z hR C cF bN dm dh b5 aB bS aQ M df c7 cg av;go_wp2;go_roundw
 case rel=>exact⟨n-1,j+1,ts.set i t1,rfl,X,X,by rw[FV];exact a.out,cT,cM.out t1 bJ.out,.inr ⟨gb,_,rfl,o,MN⟩⟩
 case measure=>exact mz):G:=h
def Ju(h:G:=by
 go_wp2_with (first|(refine k5 z.x underlying43 ?_)|(refine kZ (m.g8) z.r (Md.one _) ?_;intro bo MN av))
 obtain⟨aR,aU,z3⟩:=z.fin av;exact rr_ m.g8 MN underlying43 (by rw[aI.out];exact⟨m,rfl,aR,cz.out,aU,z3⟩)):G:=h
def infoTk:(prog.info? 53).map (λi=>(i.zero,i.size,i.bytes))=some (some (.agg Tk.zero.g8),48,480):=by kernel_rfl
structure L1(k:Nat)(m:Md):Prop where
 val:hY m.l m.hq m.g9=true
 dv:m.d.Sublist (kM m.l m.hq m.g9)
 ts:m.ts=[]
 tn:m.tA=none/\m.tc=0
 cm:um m.l m.hq m.g9 m.d m.kH k m.run m.s.p
def L1.m0(h:L1 k m):({m with run:=m.run+((0:Nat):Int),tA:=none,tc:=0,ts:=[]}:Md)=m:=by
 have a:=h.ts;obtain⟨b,c⟩:=h.tn;obtain⟨e,G,f,g,i,d,v,l,j,n,o,p,q,r,t,u⟩:=m;simp only at a b c;subst a;subst b;subst c;simp
def L1.ask(h:L1 k m)(a:m.s.jt=false)(h0:(ng m.l m.hq m.g9 m.kH m.s.p).2=0)(b:s.p=(ng m.l m.hq m.g9 m.kH m.s.p).1):L1 (k+1) {m with s:=s}:=
 ⟨h.val,h.dv,h.ts,h.tn,by show um _ _ _ _ _ (k+1) m.run s.p;rw[b];exact h.cm.ask a h0⟩
def L1.commit(h:L1 k m)(a:m.s.jt=false)(h0:(ng m.l m.hq m.g9 m.kH m.s.p).2≠0)(b:s.p=(kF true m.s.p (lN m.l m.hq m.g9 m.d m.s.p m.run)).1):L1 (k+1) {m with s:=s,run:=m.run+1}:=
 ⟨h.val,h.dv,h.ts,h.tn,by show um _ _ _ _ _ (k+1) (m.run+1) s.p;rw[b];exact h.cm.commit a h0⟩
def wE(B g:Nat)(w:World)(hd:iL w B g)(hB:B<=w.heap.size):
 Calls prog 11 #[q_ g] w (BW B g w):=by
 refine ig λal aI=>?_
 obtain⟨bC,bv,bw,aZ,bg⟩:=info_parts infoTk;obtain⟨u,gr,L,an,aX,hR⟩:=box1 w 43 #[n_,Y 0,Y 0,n_,n_,n_,Y 0,Y 0,n_,.bool false,.bool false,.bool false,Y 0,Y 0,Y 0,n_,Y 0]
 go_enter func11,ntmps11
 go_upto_region 2 with(first
  |(go_at_call 44;refine(BM B g (hd.g_ aX) (G_ hB aX.size)).mono ?_;unfold C9;rintro e r⟨bd,c,l,hq,g9,rfl,hl,hv,cC,bf,hg1⟩)
  |(go_at_call 45;refine(y4 B g bf (G_ hB (G_ aX.size hg1.size))).mono ?_;rintro e w2⟨aA,ac,kH,rfl,cO,ei,cI,MS⟩)
  |(refine wpList_build rfl rfl #[(0,.agg #[.slice bd l.length c,Y hq,Y g9]),(1,.agg #[.slice aA kH.length ac])] k_ (wX rfl) ?_))
 obtain⟨aK,gx,cw,aM,bk,br⟩:=box1 w2 43 #[.slice bd l.length c,Y hq,Y g9,.slice aA kH.length ac,n_,n_,Y 0,Y 0,n_,.bool false,.bool false,.bool false,Y 0,Y 0,Y 0,n_,Y 0];rw[cw,aM];obtain⟨m,MM⟩:=nm_ (⟨bd,c,l,hq,g9,aA,ac,kH,none,0,[],Cm.zero,none,0,[],0⟩:Md)
 have z:MW w B g gr gx m aK:=by
  obtain⟨dc,bI⟩:=bf.bk;have hbg:=bf.x0;have bQ:=aX.size;have bY:=hg1.size;have cp:=MS.size;have aj:=hR.lt;have n1:gr≠g:=X;have cj:=((hR.gr hg1 (zu n1)).gr MS (zu n1)).g_ bk;refine⟨cj,by rw[MM];exact br,?_,cI.g_ bk,((aX.of_nil [g]).trans (hg1.trans MS)).trans (bk.of_nil [g]),hB,X,X,X⟩;subst MM;exact⟨Sl.g_ (Sl.ir hl bI I MS) bk,Sl.g_ ei bk,cO,Gz _ _ _ _,H_ _,l9.zero _ _ rfl rfl,⟨Gz _ _ _ _,λt MO=>by cases MO⟩⟩
 have dW:hY m.l m.hq m.g9=true:=by rw[MM];exact hv
 have ew:m.ts=[]:=by rw[MM]
 have cY:m.run=0:=by rw[MM]
 have et:m.tA=none/\m.tc=0:=by rw[MM];exact⟨rfl,rfl⟩
 clear MM br aM bk hl cO ei cI MS cC bf hg1 hR an aX hd hv L;have b9:=ky dW
 go_upto_region 3 with(first
  |(refine iv rfl 26 _ rfl gx 0 r_ 43 m.g8 #[.slice m.A m.l.length m.c,Y m.hq,Y m.g9] z.x (m.code) _ underlying26 rfl k_ ?_)
  |(go_at_call 46;refine(vA B g m.A m.c m.l m.hq m.g9 z.i.l X z.d (G_ z.hB z.g.size)).mono ?_;unfold BY;rintro e cb⟨dA,dc,d,rfl,cV,dH,cW,cr,af⟩)
  |(refine jc rfl 32 _ _ rfl gx 4 r_ (#[.slice dA d.length dc]) r_ 43 m.g8 (z.dice af cr).x (by first|decide|(simp[Md.g8,Cm.g8])) k_ (by simp[Value.oneCell']) ?_;intro f eF dr))
 replace z:=z.dice af cr;have cS:MW w B g gr gx {m with dA:=dA,d:=d,dc:=dc} f:=z.set dr eF (λhi=>⟨hi.l,hi.kH,hi.al,Sl.ir cV z.x I dr,dH,hi.s,hi.ts⟩);clear z dr eF cV dH af cr;obtain⟨v,bm⟩:=nm_ ({m with dA:=dA,d:=d,dc:=dc});rw[<-bm]at cS
 have dJ:hY v.l v.hq v.g9=true:=by rw[bm];exact dW
 have ey:v.ts=[]:=by rw[bm];exact ew
 have ev:v.run=0:=by rw[bm];exact cY
 have eu:v.tA=none/\v.tc=0:=by rw[bm];exact et
 have ek:v.d.Sublist (kM v.l v.hq v.g9):=by rw[bm];exact cW
 clear bm dW ew cY et cW b9;have b9:=ky dJ
 go_upto_region 4 with(first
  |(refine iv rfl 26 _ rfl gx 0 r_ 43 v.g8 #[.slice v.A v.l.length v.c,Y v.hq,Y v.g9] cS.x (v.code) _ underlying26 rfl k_ ?_)
  |(go_at_call 47;refine(wZ v.A v.c v.l v.hq v.g9 cS.i.l X).mono ?_;unfold vg;rintro e ay⟨s,rfl,hs,c3,S⟩)
  |(refine jc rfl 40 _ _ rfl gx 5 r_ (s.g8) r_ 43 v.g8 (cS.g_ S).x (by first|decide|(simp[Md.g8,Cm.g8])) k_ (Cm.one _) ?_;intro aH dL da))
 replace cS:=cS.g_ S;have R:MW w B g gr gx {v with s:=s} aH:=cS.set da dL (λhi=>⟨hi.l,hi.kH,hi.al,hi.d,hi.dl,hs.ir cS.x I da,hi.ts⟩);obtain⟨db,dU⟩:=nm_ ({v with s:=s});rw[<-dU]at R
 have d7:L1 0 db:=by
  rw[dU];refine⟨dJ,ek,ey,eu,?_⟩
  show um _ _ _ _ _ 0 v.run s.p
  rw[ev,c3,dJ];exact .hG
 clear cS da dL hs c3 S dU dJ ey ev eu ek b9;have d4:=O d7;clear d7;obtain⟨bn,gq,eP,cQ,aY,ea⟩:=box1 aH 96 #[n_];have T:=R.g_ aY;have ed:MQ w gq none [] 0 bn:=⟨ea,Gz _ _ _ _,ov R.g.size⟩;clear R aY ea
 go_upto_region 6 with(go_at_call 19;refine(iq B g 9 T.d I I).mono ?_;rintro e D⟨n0,rfl,hn0,hn1,bl,G⟩)
 obtain⟨dn,ej⟩:=T.d.bk;have ap:=T.dice G bl;have eb:=ed.one ej I I G;clear T ed ej bl G
 go_loopw [5] (λaG wr=>∃(n:Int) (k:Nat) (m:Md) (sA:OA) (V:List Fo) (sc:Nat),aG=Y n/\0<=n/\n+k<=8/\MW w B g gr gx m wr/\MQ w gq sA V sc wr/\L1 k m/\Da k V) (λaG _=>(intOf aG).toNat)
 case atStart=>exact⟨n0,0,db,none,[],0,rfl,hn0,X,ap,eb,d4.out,⟨H_ _,λcc hf=>(by cases hf),λcc hf=>(by cases hf)⟩⟩
 case round=>
  clear ap eb d4 hn0 hn1;obtain⟨n,k,m,sA,V,sc,rfl,hn0,eA,z,r,N,ch⟩:=hrel;have au:wr.cell? (Z gx 9)=some (.bool m.s.jt):=(z.x.f_ 9).trans rfl
  cases aS:m.s.jt with
  |true=>
   rw[aS]at au;have cz:=O (show yo m from⟨N.val,N.dv,⟨k,m.run,X,N.cm,.inl ⟨aS,N.ts,rfl⟩⟩,by rw[N.ts];exact P_ _⟩);clear N ch aS
   by_cases W:0<n
   .have q1:(0<n)=True:=by simp[W]
    exact Ju
   .have q1:(0<n)=False:=by simp[W]
    exact Ju
  |false=>
   rw[aS]at au
   by_cases W:0<n
   .have q1:(0<n)=True:=by simp[W]
    have A:=N.cm.cb N.val;have b9:=ky N.val
    have b1:m.s.h.l.length<=4000002:=by have F:=A.1.h;have e:m.s.p.h.length=m.s.h.l.length:=hZ _;omega
    have b2:m.s.hW.l.length<=4000000:=by have F:=A.1.hW;have e:m.s.p.hW.length=m.s.hW.l.length:=rfl;omega
    have dB: -1<=m.s.hG:=A.1.st0;have dw:m.s.hG<=3000:=A.1.st1;have eh:0<=m.s.hw:=A.1.p0
    have dT:m.s.hw<=100000:=by have F:=A.1.p1;have e:m.s.p.hw=m.s.hw:=rfl;omega
    have dx:0<=m.s.jp:=A.1.a0
    have d8:m.s.jp<=8:=by have F:=A.1.a1;have e:m.s.p.jp=m.s.jp:=rfl;omega
    have eM:0<=m.s.iN:=A.1.t0
    have eK:m.s.iN<=8:=by have F:=A.1.t1;have e:m.s.p.iN=m.s.iN:=rfl;omega
    have dR:0<=m.run:=A.2.1
    have eL:m.run<=8:=by have F:=A.2.2;omega
    obtain⟨⟨ci,cl⟩,cN⟩:∃q,q=ng m.l m.hq m.g9 m.kH m.s.p:=⟨_,rfl⟩;have aW:=O cN;have bh:=O N;have dg:=O aS;clear cN A N aS
    go_upto_region 9 with(first|(refine iv rfl 26 _ rfl gx 0 r_ 43 m.g8 #[.slice m.A m.l.length m.c,Y m.hq,Y m.g9] z.x (m.code) _ underlying26 rfl k_ ?_)|(refine iv rfl 29 _ rfl gx 3 r_ 43 m.g8 #[.slice m.aA m.kH.length m.ac] z.x (m.world) _ underlying29 rfl k_ ?_)|(refine iv rfl 40 _ rfl gx 5 r_ 43 m.g8 m.s.g8 z.x (m.com) _ underlying40 rfl k_ ?_)|(go_at_call 48;have ag:=z7 m.A m.c m.l m.hq m.g9 m.aA m.ac m.kH m.s z.i.l X z.i.kH (ov z.i.al) z.i.s X X X X X X X X;rw[<-aW.out]at ag;refine ag.mono ?_;clear ag;unfold vg;rintro e cb⟨s,rfl,hs,c3,af⟩)|(refine kZ (s.g8) (Q_ cb 40 #[n_,Y 0,Y 0,n_,.bool false,.bool false,.bool false,Y 0,Y 0,Y 0]) (Cm.one _) ?_;intro f bU E))
    have b7:J [] cb f:=((H [] cb).alloc _).jE E (H_ _);replace z:=z.g_ (af.trans b7);replace r:=r.g_ (af.trans b7);replace hs:=hs.g_ b7;clear af b7 E au;generalize cb.heap.size=cm at*
    by_cases h0:cl=0
    .have q2:(cl==0)=true:=by simp[h0]
     have dP:=O (bh.out.ask dg.out (by rw[<-aW.out];exact h0) (s:=s) (by rw[<-aW.out];exact c3));clear h0 bh aW dg c3
     go_wp2_with (first|(refine k5 bU underlying40 ?_)|(refine jc rfl 40 _ _ rfl gx 5 r_ (s.g8) r_ 43 m.g8 z.x (by first|decide|(simp[Md.g8,Cm.g8])) k_ (Cm.one _) ?_;intro aH dL da))
     go_roundw
     case rel=>exact⟨n-1,k+1,{m with s:=s},sA,V,sc,rfl,X,X,z.set da dL (λhi=>⟨hi.l,hi.kH,hi.al,hi.d,hi.dl,hs.ir z.x I da,hi.ts⟩),r.one z.x I I da,dP.out,ch.mono X⟩
     case measure=>exact mz
    .have q2:(cl==0)=false:=by simp[h0]
     have ah:=O h0;clear h0 c3 hs bU;have aP:f.cell? (Z gx 6)=some (Y m.s.hG):=(z.x.f_ 6).trans rfl;have dM:f.cell? (Z gx 16)=some (Y m.run):=(z.x.f_ 16).trans rfl;have bK:=O (show lN m.l m.hq m.g9 m.d m.s.p m.run=zl m.l m.hq m.g9 m.d m.s.p.h (jf m.l m.hq m.g9 m.s.hG m.run true).1 from rfl)
     go_upto_region 12 with(first|(refine iv rfl 26 _ rfl gx 0 r_ 43 m.g8 #[.slice m.A m.l.length m.c,Y m.hq,Y m.g9] z.x (m.code) _ underlying26 rfl k_ ?_)|(go_at_call 49;((with_reducible refine(ol m.A m.c m.l m.hq m.g9 m.s.hG m.run true _ z.i.l X X X X X).mono ?_));unfold np;rintro e ay⟨t0,rfl,aJ,cx,S⟩)|(refine kZ (t0.g8) (Q_ ay 53 lK) (Tk.one _) ?_;intro aH Q aN))
     have eS:w.heap.size<=ay.heap.size:=G_ z.g.size S.size;have ck:J [] ay aH:=((H [] ay).alloc _).jE aN (H_ _);replace z:=z.g_ (S.trans ck);replace r:=r.g_ (S.trans ck);have bS:=aJ.g_ ck;have d1:=z.x.hm 16;replace dM:aH.cell? (Z gx 16)=some (Y m.run):=(z.x.f_ 16).trans rfl;clear S ck aN aJ aP;generalize ay.heap.size=cR at*
     go_upto_region 13 with fail
     have M:J [gx] aH (aH.setCell (Z gx 16) (Y (m.run+1))):=(H [gx] aH).setCell (.inl s_) _;have eo:cR≠gx:=Q.me z.x I;replace Q:=Q.gr M (zu eo);replace bS:=bS.ir z.x I M;replace r:=r.one z.x I I M;have T:MW w B g gr gx ({m with run:=m.run+1}:Md) (aH.setCell (Z gx 16) (Y (m.run+1))):=z.set M (z.x.hN 16 _) (λhi=>⟨hi.l,hi.kH,hi.al,hi.d,hi.dl,hi.s,hi.ts⟩);clear dM d1 z M eo;have z:=T;clear T;obtain⟨bH,c8⟩:=nm_ (aH.setCell (Z gx 16) (Y (m.run+1)));rw[<-c8]at z r bS Q |-;clear c8;have dN:=O (t_ bh.out.val bh.out.dv);have dH:=u_ bh.out.val bh.out.dv;have dD:=O cx;have bj:=mP m.l m.hq m.g9 m.s.hG m.run true;rw[<-cx]at bj
     have bp:0<=t0.run:=by have e:t0.p.run=t0.run:=rfl;omega
     have bA:t0.run<=1099511627776:=by have e:t0.p.run=t0.run:=rfl;omega
     have d6:=O (show t0.hT=0->Way m.l t0.p from λ_=>by rw[cx];exact nS);clear cx bj
     go_upto_region 14 with(first|(refine iv rfl 26 _ rfl gx 0 r_ 43 ({m with run:=m.run+1}:Md).g8 #[.slice m.A m.l.length m.c,Y m.hq,Y m.g9] z.x (Md.code _) _ underlying26 rfl k_ ?_)|(refine iv rfl 32 _ rfl gx 4 r_ 43 ({m with run:=m.run+1}:Md).g8 #[.slice m.dA m.d.length m.dc] z.x (Md.div _) _ underlying32 rfl k_ ?_)|(refine iv rfl 35 _ rfl gx 5 r_ 43 ({m with run:=m.run+1}:Md).g8 #[.slice m.s.h.A m.s.h.l.length m.s.h.c] z.x (Md.heap _) _ underlying35 rfl k_ ?_)|(refine k5 Q underlying53 ?_)|(go_at_call 50;((with_reducible refine(zn m.A m.c m.l m.hq m.g9 m.dA m.dc m.d t0 m.s.h.A m.s.h.c m.s.h.l z.i.l X z.i.d X bS z.i.s.h dN.out X bp bA d6.out).mono ?_));unfold np;rintro e D⟨t1,rfl,ar,cF,G⟩)|(refine kZ (t1.g8) (Q.g_ G) (Tk.one _) ?_;intro bB U aE))
     replace z:=(z.g_ G).one (Q.g_ G) I (.inr bh.out.ts) I eS aE;replace r:=(r.g_ G).one (Q.g_ G) I I aE;replace ar:=ar.ir (Q.g_ G) I aE;clear Q G aE bS d6 bp bA;have U:=U
     have dK:t1.p=lN m.l m.hq m.g9 m.d m.s.p m.run:=by rw[cF,bK.out,dD.out];rfl
     clear cF;have dk:=O bh.out.val;have bZ:=O (show TF t1.p by rw[dK];exact rY bh.out.val b9.2.1 _ _);have di:Hid (TG lk t1.p):=O (by rw[dK];exact ub bh.out.val b9.2.1 (bh.out.cm.DS bh.out.val X) dR X);have eH:=O (show ∀P∈t1.nw.l,lk P.o.id from λP hr=>(di.out.nw P.o (Z_.2 ⟨P,hr,rfl⟩)).1);have eJ:=O (show ∀c∈t1.ws.l,lk c.id from λc hc=>(di.out.ws c hc).1.elim id (λe=>e▸wf64_1));have eI:=O dK;clear dK di bK dD;have hn0: -1<=t1.next:=bZ.out.n0;have eV:t1.next<=3000:=bZ.out.n1;have ca:bB.cell? (Z cR 42)=some (Y t1.hT):=(U.f_ 42).trans rfl
     go_upto_if 89 with fail
     go_cut [7] (λ_ a6=>∃(dY:OA) (dE:List Fo) (dZ:Nat),MW w B g gr gx ({m with run:=m.run+1}:Md) a6/\MQ w gq dY dE dZ a6/\Da (k+1) dE/\Bk a6 cR 53 t1.g8/\ln a6 t1)
     case first=>
      by_cases bY:t1.hT=2
      .have q3:(t1.hT==2)=true:=by simp[bY]
       have z0:bB.cell? (Z cR 0)=some (Y t1.hG):=(U.f_ 0).trans rfl;have d2:bB.cell? (Z cR 43)=some (Y t1.next):=(U.f_ 43).trans rfl;have bG:bB.cell? (Z gq 0)=some (.slice sA V.length sc):=(r.q.f_ 0).trans rfl;clear bY
       go_wp2_with (first|(go_at_call 51;((with_reducible refine(zb sA sc V t1.hG t1.next r.f (ov ch.len) (λcc hf=>by have:=ch.n cc hf;omega)).mono ?_));unfold yS;rintro e bi⟨aD,bT,rfl,eN,cI,o⟩)|(refine kZ (#[.slice aD (lr V t1.hG t1.next).length bT]) (r.q.g_ o) (by simp[Value.oneCell']) ?_;intro wc CH bD))
       go_meet;have dF:=r.g_ o;exact⟨aD,lr V t1.hG t1.next,bT,(z.g_ o).one dF.q I (.inl I) I r.b bD,⟨CH,Sl.ir eN dF.q I bD,r.b⟩,ch.DU _ _ hn0 eV,(U.g_ o).gr bD (zu ((U.g_ o).me dF.q I)),(ar.g_ o).ir dF.q I bD⟩
      .have q3:(t1.hT==2)=false:=by simp[bY]
       clear bY;go_wp2;go_meet;exact⟨sA,V,sc,z,r,ch.mono X,U,ar⟩
     case rest=>
      obtain⟨dY,dE,dZ,b8,eO,dy,eR,cu⟩:=hcut;clear z r ch U ar ca;have z:=b8;have ar:=cu;clear b8 cu
      go_wp2_with (first|(refine iv rfl 26 _ rfl gx 0 r_ 43 ({m with run:=m.run+1}:Md).g8 #[.slice m.A m.l.length m.c,Y m.hq,Y m.g9] z.x (Md.code _) _ underlying26 rfl k_ ?_)|(refine iv rfl 40 _ rfl gx 5 r_ 43 ({m with run:=m.run+1}:Md).g8 m.s.g8 z.x (Md.com _) _ underlying40 rfl k_ ?_)|(refine k5 eR underlying53 ?_)|(go_at_call 52;have dO:=vC m.A m.c m.l m.hq m.g9 m.s t1 z.i.l X z.i.s ar bZ.out.sm X X eH.out eJ.out X X X X bZ.out.s0 (by have F:=bZ.out.s1;have e:t1.p.hw=t1.hw:=rfl;omega);rw[dk.out]at dO;refine dO.mono ?_;clear dO;unfold vg;rintro e dG⟨bV,rfl,bY,eX,aq⟩)|(refine jc rfl 40 _ _ rfl gx 5 r_ (bV.g8) r_ 43 ({m with run:=m.run+1}:Md).g8 (z.g_ aq).x (by simp[Md.g8,Cm.g8]) k_ (Cm.one _) ?_;intro e3 cq bt))
      have dP:=O (bh.out.commit dg.out (by rw[<-aW.out];exact ah.out) (s:=bV) (by rw[eX,eI.out]));go_roundw
      case rel=>exact⟨n-1,k+1,{m with s:=bV,run:=m.run+1},dY,dE,dZ,rfl,X,X,(z.g_ aq).set bt cq (λhi=>⟨hi.l,hi.kH,hi.al,hi.d,hi.dl,bY.ir (z.g_ aq).x I bt,hi.ts⟩),(eO.g_ aq).one (z.g_ aq).x I I bt,dP.out,dy⟩
      case measure=>exact mz
   .have q1:(0<n)=False:=by simp[W]
    have A:=N.cm.cb N.val;have b9:=ky N.val
    have b1:m.s.h.l.length<=4000002:=by have F:=A.1.h;have e:m.s.p.h.length=m.s.h.l.length:=hZ _;omega
    have b2:m.s.hW.l.length<=4000000:=by have F:=A.1.hW;have e:m.s.p.hW.length=m.s.hW.l.length:=rfl;omega
    have dB: -1<=m.s.hG:=A.1.st0;have dw:m.s.hG<=3000:=A.1.st1;have eh:0<=m.s.hw:=A.1.p0
    have dT:m.s.hw<=100000:=by have F:=A.1.p1;have e:m.s.p.hw=m.s.hw:=rfl;omega
    have dx:0<=m.s.jp:=A.1.a0
    have d8:m.s.jp<=8:=by have F:=A.1.a1;have e:m.s.p.jp=m.s.jp:=rfl;omega
    have eM:0<=m.s.iN:=A.1.t0
    have eK:m.s.iN<=8:=by have F:=A.1.t1;have e:m.s.p.iN=m.s.iN:=rfl;omega
    have dR:0<=m.run:=A.2.1
    have eL:m.run<=8:=by have F:=A.2.2;omega
    have aT:wr.cell? (Z gx 0)=some (.slice m.A m.l.length m.c):=(z.x.f_ 0).trans rfl;have bh:=O N;have dg:=O aS;clear A N aS aT
    go_upto_region 19 with fail
    refine hI (λw'=>w'.cell? (Z gx 0)=some (.slice m.A m.l.length m.c)/\w'.cell? (Z gx 1)=some (Y m.hq)/\w'.cell? (Z gx 2)=some (Y m.g9)/\w'.cell? (Z gq 0)=some (.slice sA V.length sc)/\w'.cell? (Z gx 6)=some (Y m.s.hG)) 11 k_ ?_;obtain⟨u,L⟩:=nm_ wr.drew;rw[<-L]
    replace z:MW w B g gr gx m u:=by rw[L];exact z.g_ (H [] wr).drew
    replace r:MQ w gq sA V sc u:=by rw[L];exact r.g_ (H [] wr).drew
    clear L
    refine nZ ⟨(z.x.f_ 0).trans rfl,(z.x.f_ 1).trans rfl,(z.x.f_ 2).trans rfl,(r.q.f_ 0).trans rfl,(z.x.f_ 6).trans rfl⟩ λC=>?_
    repeat refine jW C ?_
    refine hV 7 λK MT=>?_
    go_simp
    (go_at_call 19;refine(iq B g 5 z.d X X).mono ?_;rintro e f⟨P,rfl,bp,bA,Q,E⟩)
    obtain⟨dn,bI⟩:=z.d.bk;replace r:=r.one bI I I E;replace z:=z.dice E Q;clear C bI Q E
    refine hX MT ⟨(z.x.f_ 0).trans rfl,(z.x.f_ 1).trans rfl,(z.x.f_ 2).trans rfl,(r.q.f_ 0).trans rfl,(z.x.f_ 6).trans rfl⟩ λC=>?_
    clear MT K;have pr:IntKind.i64.wrap (1+P)=1+P:=F1 _ X;refine iH 8 C ?_
    refine hV 9 λK MT=>?_
    go_simp
    (go_at_call 53;((with_reducible refine(zY m.A m.c m.l m.hq m.g9 sA sc V m.s.hG (1+P) z.i.l X r.f (ov ch.len) (λcc hf=>by have:=ch.dst cc hf;omega) X X).mono ?_));unfold C8;rintro e ay⟨du,xc,xs,rfl,cs,cJ,bF,S⟩)
    replace z:=z.g_ S;replace r:=r.g_ S;clear C S pr bp bA
    refine hX MT ⟨(z.x.f_ 0).trans rfl,(z.x.f_ 1).trans rfl,(z.x.f_ 2).trans rfl,(r.q.f_ 0).trans rfl,(z.x.f_ 6).trans rfl⟩ λC=>?_
    clear MT K;refine iH 10 C ?_;refine hC k_ ?_ _;clear C r ch;clear au;go_wp2;have dN:=O (t_ bh.out.val bh.out.dv);have dH:=u_ bh.out.val bh.out.dv
    go_loopw [122] (λaG wr=>∃(k:Nat) (ts:List Tk) (tA:OA) (tc:Nat),aG=Y k/\k<=xs.length/\ts.length=k/\MW w B g gr gx ({m with run:=m.run+k,tA:=tA,tc:=tc,ts:=ts}:Md) wr/\wr.ownsRow w.heap.size 53 48 (.slice tA k tc) k (ts.flatMap λt:Tk=>t.g8.toList)/\Ns wr 3 du xs/\(∀(j:Nat) (hj:j<ts.length) (hx:j<xs.length),∃h8:Bool,ts[j].p=(jf m.l m.hq m.g9 xs[j] (m.run+j) h8).1)) (λaG _=>xs.length-(intOf aG).toNat)
    case atStart=>exact⟨0,[],none,0,gn,P_ _,rfl,(by rw[bh.out.m0];exact z),iY _ _ _ _,cs,λj hj=>by cases hj⟩
    case round=>
     obtain⟨c9,aO⟩:=nm_ k;rw[<-aO]at bh eA;have er:c9<=8:=X;clear z cs eA aO;obtain⟨k,ts,tA,tc,rfl,hk,c6,z,ao,cs,cy⟩:=hrel;have a:=O c6;have cM:=O cy;clear c6 cy
     by_cases aj:k<xs.length
     .obtain⟨bx,eG,eQ,dC⟩:=cs.at_ aj;have dX:=bF _ (M_ aj);have b5: -1000000000<=xs[k]:=dX.2.2.1;have b6:xs[k]<=1000000000:=dX.2.2.2;subst eQ
      go_upto_region 23 with fail
      go_cut [13] (λp a6=>∃(t0:Tk) (x:Nat) (h8:Bool),p=q_ x/\Bk a6 x 53 t0.g8/\ln a6 t0/\t0.p=(jf m.l m.hq m.g9 xs[k] (m.run+k) h8).1/\iL a6 B g/\J [g] wr a6)
      case first=>
       refine hI (λw'=>w'.cell? (Z gx 0)=some (.slice m.A m.l.length m.c)/\w'.cell? (Z gx 1)=some (Y m.hq)/\w'.cell? (Z gx 2)=some (Y m.g9)/\w'.cell? (Z gx 16)=some (Y (m.run+k))) 15 k_ ?_;obtain⟨u,L⟩:=nm_ wr.drew;rw[<-L];have dS:w.heap.size<=wr.heap.size:=z.g.size
       have HG:J [g] wr u:=by rw[L];exact(H [g] wr).drew
       replace z:MW w B g gr gx ({m with run:=m.run+k,tA:=tA,tc:=tc,ts:=ts}:Md) u:=by rw[L];exact z.g_ (H [] wr).drew
       clear L
       refine nZ ⟨(z.x.f_ 0).trans rfl,(z.x.f_ 1).trans rfl,(z.x.f_ 2).trans rfl,(z.x.f_ 16).trans rfl⟩ λC=>?_
       (repeat refine jW C ?_)
       refine jh 6 12 rfl rfl k_ (λK MT=>?_) (λK MT=>?_)
       .go_simp
        (go_at_call 19;refine(iq B g 3 z.d X X).mono ?_;rintro e f⟨P,rfl,bp,bA,Q,E⟩)
        replace z:=z.dice E Q;replace HG:J [g] wr f:=HG.trans E;clear C;have C:f.cell? (Z gx 0)=some (.slice m.A m.l.length m.c)/\f.cell? (Z gx 1)=some (Y m.hq)/\f.cell? (Z gx 2)=some (Y m.g9)/\f.cell? (Z gx 16)=some (Y (m.run+k)):=⟨(z.x.f_ 0).trans rfl,(z.x.f_ 1).trans rfl,(z.x.f_ 2).trans rfl,(z.x.f_ 16).trans rfl⟩;clear Q E
        refine hX MT C λC=>?_
        clear MT K;obtain⟨h8,bL⟩:=mn_ (P==0);refine iH 7 C ?_
        try simp only[bL]
        clear bL bp bA;refine jh 8 12 rfl rfl k_ (λK MT=>?_) (λK MT=>?_)
        .go_simp
         (go_at_call 49;((with_reducible refine(ol m.A m.c m.l m.hq m.g9 xs[k] (m.run+k) h8 _ z.i.l X X X X X).mono ?_));unfold np;rintro e aH⟨t0,rfl,aJ,cx,aN⟩)
         replace z:=z.g_ aN;replace HG:J [g] wr aH:=HG.trans (aN.of_nil [g]);clear C;have C:aH.cell? (Z gx 0)=some (.slice m.A m.l.length m.c)/\aH.cell? (Z gx 1)=some (Y m.hq)/\aH.cell? (Z gx 2)=some (Y m.g9)/\aH.cell? (Z gx 16)=some (Y (m.run+k)):=⟨(z.x.f_ 0).trans rfl,(z.x.f_ 1).trans rfl,(z.x.f_ 2).trans rfl,(z.x.f_ 16).trans rfl⟩;clear aN
         refine hX MT C λC=>?_
         clear MT K
         repeat refine jW C ?_
         refine hV 12 λK MT=>?_
         go_simp;have hb:Bk (aH.alloc (.cells lK 53)) aH.heap.size 53 lK:=Q_ aH _ _;have aF:aH.heap.size≠g:=ov z.d.lt;have cK:wr.heap.size<=aH.heap.size:=HG.size;replace z:=z.g_ ((H [] aH).alloc (.cells lK 53));replace HG:J [g] wr (aH.alloc (.cells lK 53)):=HG.alloc _;replace aJ:=aJ.g_ ((H [] aH).alloc (.cells lK 53));obtain⟨D,U⟩:=nm_ (aH.alloc (.cells lK 53));rw[<-U]at hb z HG aJ |-;clear C;have C:D.cell? (Z gx 0)=some (.slice m.A m.l.length m.c)/\D.cell? (Z gx 1)=some (Y m.hq)/\D.cell? (Z gx 2)=some (Y m.g9)/\D.cell? (Z gx 16)=some (Y (m.run+k)):=⟨(z.x.f_ 0).trans rfl,(z.x.f_ 1).trans rfl,(z.x.f_ 2).trans rfl,(z.x.f_ 16).trans rfl⟩;clear U;generalize aH.heap.size=x at*
         refine hX MT C λC=>?_
         clear MT K;exact Iv
        .go_simp;have hb:Bk (f.alloc (.cells lK 53)) f.heap.size 53 lK:=Q_ f _ _;have aF:f.heap.size≠g:=ov z.d.lt;have cK:wr.heap.size<=f.heap.size:=HG.size;replace z:=z.g_ ((H [] f).alloc (.cells lK 53));replace HG:J [g] wr (f.alloc (.cells lK 53)):=HG.alloc _;obtain⟨D,U⟩:=nm_ (f.alloc (.cells lK 53));rw[<-U]at hb z HG |-;clear C;have C:D.cell? (Z gx 0)=some (.slice m.A m.l.length m.c)/\D.cell? (Z gx 1)=some (Y m.hq)/\D.cell? (Z gx 2)=some (Y m.g9)/\D.cell? (Z gx 16)=some (Y (m.run+k)):=⟨(z.x.f_ 0).trans rfl,(z.x.f_ 1).trans rfl,(z.x.f_ 2).trans rfl,(z.x.f_ 16).trans rfl⟩;clear U;generalize f.heap.size=x at*
         refine hX MT C λC=>?_
         clear MT K;exact Ii
       .go_simp;have hb:Bk (u.alloc (.cells lK 53)) u.heap.size 53 lK:=Q_ u _ _;have aF:u.heap.size≠g:=ov z.d.lt;have cK:wr.heap.size<=u.heap.size:=HG.size;replace z:=z.g_ ((H [] u).alloc (.cells lK 53));replace HG:J [g] wr (u.alloc (.cells lK 53)):=HG.alloc _;obtain⟨D,U⟩:=nm_ (u.alloc (.cells lK 53));rw[<-U]at hb z HG |-;clear C;have C:D.cell? (Z gx 0)=some (.slice m.A m.l.length m.c)/\D.cell? (Z gx 1)=some (Y m.hq)/\D.cell? (Z gx 2)=some (Y m.g9)/\D.cell? (Z gx 16)=some (Y (m.run+k)):=⟨(z.x.f_ 0).trans rfl,(z.x.f_ 1).trans rfl,(z.x.f_ 2).trans rfl,(z.x.f_ 16).trans rfl⟩;clear U;generalize u.heap.size=x at*
        refine hX MT C λC=>?_
        clear MT K
        refine hV 6 λK MT=>?_
        go_simp
        (go_at_call 19;refine(iq B g 3 z.d X X).mono ?_;rintro e f⟨P,rfl,bp,bA,Q,E⟩)
        replace z:=z.dice E Q;replace HG:J [g] wr f:=HG.trans E;replace hb:=hb.gr E (zu aF);clear C;have C:f.cell? (Z gx 0)=some (.slice m.A m.l.length m.c)/\f.cell? (Z gx 1)=some (Y m.hq)/\f.cell? (Z gx 2)=some (Y m.g9)/\f.cell? (Z gx 16)=some (Y (m.run+k)):=⟨(z.x.f_ 0).trans rfl,(z.x.f_ 1).trans rfl,(z.x.f_ 2).trans rfl,(z.x.f_ 16).trans rfl⟩;clear Q E
        refine hX MT C λC=>?_
        clear MT K;obtain⟨h8,bL⟩:=mn_ (P==0);refine iH 7 C ?_
        try simp only[bL]
        clear bL bp bA;exact Ii
      case rest=>
       obtain⟨t0,x,h8,rfl,hb,aJ,cx,dq,aN⟩:=hcut;obtain⟨dn,bI⟩:=z.d.bk;have eD:Ns wc 3 (some (Z bx eG)) xs:=Sl.ir cs bI I aN;have bX:=kQ ao bI I aN;have R:=z.dice aN dq;have dD:=O cx;clear z ao cs bI aN dq dC cx dX b5 b6;have dM:wc.cell? (Z gx 16)=some (Y (m.run+k)):=(R.x.f_ 16).trans rfl;have d1:=R.x.hm 16
       go_upto_region 25 with fail
       have M:J [gx] wc (wc.setCell (Z gx 16) (Y (m.run+k+1))):=(H [gx] wc).setCell (.inl s_) _;have eC:x≠gx:=hb.me R.x I;replace hb:=hb.gr M (zu eC);replace aJ:=aJ.ir R.x I M;have eE:Ns (wc.setCell (Z gx 16) (Y (m.run+k+1))) 3 (some (Z bx eG)) xs:=Sl.ir eD R.x I M;replace bX:=kQ bX R.x I M;have T:MW w B g gr gx ({m with run:=m.run+k+1,tA:=tA,tc:=tc,ts:=ts}:Md) (wc.setCell (Z gx 16) (Y (m.run+k+1))):=R.set M (R.x.hN 16 _) (λhi=>⟨hi.l,hi.kH,hi.al,hi.d,hi.dl,hi.s,hi.ts⟩);clear R M eC dM d1 eD;obtain⟨bH,c8⟩:=nm_ (wc.setCell (Z gx 16) (Y (m.run+k+1)));rw[<-c8]at T eE bX aJ hb |-;clear c8
       have dt:bH.cell? (Z gx 15)=some (.slice tA k tc):=by rw[<-a.out];exact(T.x.f_ 15).trans rfl
       have aL:J [] bH (bH.alloc (.cells t0.g8 53)):=(H [] bH).alloc _;have ap:=T.g_ aL;have cX:=iF bX aL;have cA:Sl (bH.alloc (.cells t0.g8 53)) 53 48 (j_ bH.heap.size) 1 t0.g8.toList:=jj (n:=1) (s:=48) (Q_ bH 53 t0.g8) rfl;have hbs:w.heap.size<=(bH.alloc (.cells t0.g8 53)).heap.size:=G_ T.g.size aL.size;refine wp_region_lit ?_;refine Di rfl ?_
       try simp only[a_]
       refine Di rfl ?_
       try simp only[a_]
       refine k5 hb underlying53 ?_
       try simp only[a_]
       refine Great.wpList_buildSliceTo rfl 41 53 1 _ rfl bH.heap.size rfl _ rfl underlying41 t0.g8 k_ ?_
       try simp only[a_]
       refine iJ _ rfl (.tmp 143) (.tmp 145) 41 rfl w.heap.size 53 bC _ 48 480 underlying41 bv bw aZ bg r_ I I tA k tc _ rfl cX (j_ bH.heap.size) 1 1 t0.g8.toList rfl cA (Dk t0) X hbs ?_;intro aD am D aV U;have dt:D.cell? (Z gx 15)=some (.slice tA k tc):=(by rw[<-a.out];exact((U.bk ap.x I).f_ 15).trans rfl);have e4:=(U.bk ap.x I).hm 15
       try simp only[a_]
       refine Di rfl ?_
       try simp only[a_]
       refine nC rfl (λK MT=>?_);go_simp;refine MT.out _ _ ?_;clear MT K;refine wpList_nil ?_;go_wp2;go_roundw
       case rel=>
        have bz:D.ownsRow w.heap.size 53 48 (.slice aD (k+1) am) (k+1) ((ts++[t0]).flatMap λt:Tk=>t.g8.toList):=by
         simpa using aV
        have cG:(ts++[t0]).length=k+1:=by rw[K_,a.out];rfl
        have ax:Ts D aD (ts++[t0]):=by
         have h:=Sl.iQ bz
         show Sl D 53 48 aD (ts++[t0]).length _
         rw[cG];exact h
        have cT:=ap.append (c:=am) U cG ax (λt MO=>by
         rcases T_.1 MO with MO|MO
         .exact ap.i.ts.B_ t MO
         .rw[R_.1 MO]
          exact aJ.g_ aL)
        have ce:=U.bk ap.x I;have av:J [gx] D (D.setCell (Z gx 15) (.slice aD (k+1) am)):=(H [gx] D).setCell (.inl s_) _;refine⟨k+1,ts++[t0],aD,am,gn,X,cG,?_,kQ bz ce I av,Sl.ir (U.sl (Sl.g_ eE aL) I) ce I av,?_⟩
        .have e:m.run+((k+1:Nat):Int)=m.run+k+1:=X;rw[e];exact cT
        .intro j hj hx
         by_cases MR:j<ts.length
         .rw[Gi MR];exact cM.out j MR hx
         .have:j=k:=by rw[cG]at hj;have:=a.out;omega
          subst this;rw[Gu X];refine⟨h8,?_⟩;have e0:([t0]:List Tk)[j-ts.length]'(by have:=a.out;simp;omega)=t0:=s_;rw[e0];exact dD.out
       case measure=>exact mz
     .have dz:k=xs.length:=X
      have d5:=O (show vN m.l m.hq m.g9 m.d m.s.p.h m.run 0 (ts.map Tk.p) from .hG _ (by rw[F6,a.out];omega) (λj hj=>by
       have eU:j<ts.length:=zu hj;have ep:j<xs.length:=ov a.out;obtain⟨h8,W⟩:=cM.out j eU ep
       exact⟨xs[j],h8,bF _ (M_ ep),by rw[Gg];exact W⟩))
      have eZ:k<=16:=X;have e2:((k:Int)<(xs.length:Int))=False:=p_;clear hk aj cM cs bF dz;obtain⟨dn,bI⟩:=z.d.bk
      go_upto_region 28 with(go_at_call 19;refine(iq B g 40 z.d X X).mono ?_;rintro e f⟨n1,rfl,ez,eW,Q,E⟩)
      have ax:k=0∨∃gb U,tA=some (Z gb 0)/\w.heap.size<=gb/\pz f gb U ts:=by
       rcases GI k with h|h
       .exact .inl h
       .have eB:=kQ ao bI I E;rw[<-a.out]at eB;obtain⟨gb,U,F,h2,h3⟩:=pz.iQ eB (by rw[a.out];exact h);exact .inr ⟨gb,U,F,h2,h3⟩
      have d3:=O (jk ao);have d9:=z.dice E Q;clear z ao bI E Q
      go_loopw [15] (λaG wr=>∃(n:Int) (j:Nat) (ts:List Tk),aG=Y n/\0<=n/\n+j<=39/\ts.length=k/\MW w B g gr gx ({m with run:=m.run+k,tA:=tA,tc:=tc,ts:=ts}:Md) wr/\vN m.l m.hq m.g9 m.d m.s.p.h m.run j (ts.map Tk.p)/\(k=0∨∃gb U,tA=some (Z gb 0)/\w.heap.size<=gb/\pz wr gb U ts)) (λaG _=>(intOf aG).toNat)
      case atStart=>exact⟨n1,0,ts,rfl,ez,X,a.out,d9,d5.out,ax⟩
      case round=>
       clear d9 ax ez eW d5 a ts;obtain⟨n,j,ts,rfl,hn0,e1,c6,z,MP,ax⟩:=hrel;have a:=O c6;have dj:=O MP
       have dt:wr.cell? (Z gx 15)=some (.slice tA k tc):=by rw[<-c6];exact(z.x.f_ 15).trans rfl
       clear c6 MP
       by_cases W:0<n
       .have q1:(0<n)=True:=by simp[W]
        rcases GI k with b3|a2
        .have q2:((0:Int)<(k:Int))=False:=by simp[b3]
         have eY:(0<k)=False:=by simp[b3]
         clear b3 ax;exact IE
        .obtain⟨gb,U,cB,o,hR⟩:=ax.resolve_left X;clear ax;subst cB
         have q2:((0:Int)<(k:Int))=True:=by simp[a2]
         have eY:(0<k)=True:=by simp[a2]
         go_upto_region 31 with(go_at_call 19;refine(iq B g (k:Int) z.d X X).mono ?_;rintro e f⟨P,rfl,bp,bA,Q,E⟩)
         obtain⟨i,rfl⟩:∃i:Nat,P=i:=⟨P.toNat,X⟩;have dI:i<k:=X
         have hi:i<ts.length:=by rw[a.out];exact dI
         have cZ:gb≠g:=by have F:=z.d.x0;have h2:=z.hB;omega
         replace hR:pz f gb U ts:=⟨hR.bk.gr E (zu cZ),hR.row⟩;replace z:=z.dice E Q;clear E Q cZ dt bp bA
         have dt:f.cell? (Z gx 15)=some (.slice (j_ gb) k tc):=by rw[<-a.out];exact(z.x.f_ 15).trans rfl
         have ca:f.cell? (Z gb (i*48+42))=some (Y (ts[i]).hT):=(hR.f_ hi 42 I).trans rfl;have ef:=dj.out.tf bh.out.val b9.2.1;have bZ:=O (show ∀t∈ts,TF t.p/\(t.hT=0->Way m.l t.p) from λt MO=>ef _ (Z_.2 ⟨t,MO,rfl⟩));have eg:=dj.out.DS bh.out.val b9.2.1 (bh.out.cm.DS bh.out.val X) dR X;have di:=O (show ∀t∈ts,TG lk t.p/\0<=t.p.run/\t.p.run<=1000000016 from λt MO=>eg _ (Z_.2 ⟨t,MO,rfl⟩));clear ef eg;obtain⟨ay,ct⟩:=nm_ f;rw[<-ct]at z hR dt ca |-;clear ct
         by_cases bq:(ts[i]).hT=0
         .rw[bq]at ca;have dQ:=O bq;clear bq
          go_upto_region 32 with fail
          have cM:=O (show ∀t1:Tk,t1.p=ja m.l m.hq m.g9 m.d (ts[i]).p (nk (hU m.s.h.l) (ts.map Tk.p) i)->vN m.l m.hq m.g9 m.d m.s.p.h m.run (j+1) ((ts.set i t1).map Tk.p) from λt1 W=>by
           have co:=vN.step (l:=m.l) (hq:=m.hq) (g9:=m.g9) (d:=m.d) i (zu hi) dj.out (by rw[Gg];exact dQ.out);rw[List.map_set,W];rw[Gg]at co
           exact co)
          refine hI (λw'=>w'.cell? (Z gx 0)=some (.slice m.A m.l.length m.c)/\w'.cell? (Z gx 1)=some (Y m.hq)/\w'.cell? (Z gx 2)=some (Y m.g9)/\w'.cell? (Z gx 4)=some (.slice m.dA m.d.length m.dc)/\w'.cell? (Z gx 5)=some (.slice m.s.h.A m.s.h.l.length m.s.h.c)/\w'.cell? (Z gx 15)=some (.slice (j_ gb) k tc)) 25 k_ ?_;obtain⟨u,L⟩:=nm_ ay.drew;rw[<-L]
          replace z:MW w B g gr gx ({m with run:=m.run+k,tA:=(j_ gb),tc:=tc,ts:=ts}:Md) u:=by rw[L];exact z.g_ (H [] ay).drew
          replace hR:pz u gb U ts:=by rw[L];exact⟨hR.bk.g_ (H [] ay).drew,hR.row⟩
          clear L dt ca;have dh:=H [] u;have b5:=z.x;have C:u.cell? (Z gx 0)=some (.slice m.A m.l.length m.c)/\u.cell? (Z gx 1)=some (Y m.hq)/\u.cell? (Z gx 2)=some (Y m.g9)/\u.cell? (Z gx 4)=some (.slice m.dA m.d.length m.dc)/\u.cell? (Z gx 5)=some (.slice m.s.h.A m.s.h.l.length m.s.h.c)/\u.cell? (Z gx 15)=some (.slice (j_ gb) k tc):=⟨(b5.f_ 0).trans rfl,(b5.f_ 1).trans rfl,(b5.f_ 2).trans rfl,(b5.f_ 4).trans rfl,(b5.f_ 5).trans rfl,(by rw[<-a.out];exact(b5.f_ 15).trans rfl)⟩
          have dm:Hid (∀w',J [] u w'->Calls prog 40 #[.agg #[.slice m.s.h.A m.s.h.l.length m.s.h.c],.slice (j_ gb) k tc,Y i] w' (mt (nk (hU m.s.h.l) (ts.map Tk.p) i) w')):=O (by
           intro w' hg;have h:=Aw m.s.h.A m.s.h.c m.s.h.l (j_ gb) tc ts i w' (z.i.s.h.g_ hg) X (z.i.ts.g_ hg) (by rw[a.out];omega) (λt MO=>(bZ.out t MO).1.sm) X;rw[a.out]at h
           exact h)
          have bN:Hid (∀(a7:OA) (vc:Nat) (b:List Rw) (w':World),J [] u w'->mB w' a7 vc b->hU b=nk (hU m.s.h.l) (ts.map Tk.p) i->Calls prog 39 #[.agg #[.slice m.A m.l.length m.c,Y m.hq,Y m.g9],.agg #[.slice m.dA m.d.length m.dc],.agg (ts[i]).g8,.agg #[.slice a7 b.length vc]] w' (np (ja m.l m.hq m.g9 m.d (ts[i]).p (nk (hU m.s.h.l) (ts.map Tk.p) i)) 0 w')):=O (by
           intro a7 vc b w' hg hv ho;have dV:=M_ hi;obtain⟨f1,bW⟩:=bZ.out _ dV;have cH:=bW dQ.out;have cD:=cH.lo;have eT:=cH.hi;have a8:=cH.s0;have cp:=f1.s1;obtain⟨_,r0,r1⟩:=di.out _ dV
           have iG:b.length<=99999999:=by
            have aC:=hZ b;rw[ho]at aC
            have aw:=vW ((ts.map Tk.p).take (i:Int).toNat) (hU m.s.h.l) (n:=500000) (λt MO=>by
             obtain⟨cE,hu,rfl⟩:=Z_.1 (Gf MO)
             exact(bZ.out cE hu).1.sm.nw)
            have bE:=hZ m.s.h.l
            have bu:((ts.map Tk.p).take (i:Int).toNat).length<=16:=by
             rw[Gd,F6,a.out];omega
            unfold nk at aC;omega
           have h:=uO m.A m.c m.l m.hq m.g9 m.dA m.dc m.d (ts[i]) a7 vc b w' (Sl.g_ z.i.l hg) X (Sl.g_ z.i.d hg) X ((z.i.ts.B_ _ dV).g_ hg) hv dN.out dQ.out f1.sm iG cD (by have e:(ts[i]).p.pc=(ts[i]).pc:=rfl;omega) r0 (by have e:(ts[i]).p.run=(ts[i]).run:=rfl;omega) a8 (by have e:(ts[i]).p.hw=(ts[i]).hw:=rfl;omega);rw[ho]at h
           exact h)
          have aB:i*48+48<=U.size:=by
           have F:=hR.size;rw[a.out]at F;omega
          (iterate 11 refine jW C ?_)
          refine iH 12 C ?_;refine iH 13 C ?_;refine iH 14 C ?_;refine iH 15 C ?_;refine iH 16 C ?_;refine iH 17 C ?_;refine jh 11 18 rfl rfl k_ (λK MT=>?_) (λK MT=>?_)
          .rw[O_ r_];refine oV 53 _ rfl gb (i*48) r_ 53 U (ts[i]).g8 hR.bk (hR.at hi) _ underlying53 rfl k_ ?_
           refine hX MT C λC=>?_
           clear MT K
           refine hV 18 λK MT=>?_
           go_simp
           (go_at_call 40;((with_reducible refine(dm.out _ dh).mono ?_));unfold mt;rintro e d0⟨a7,vc,b,rfl,df,c7,aQ⟩)
           clear C
           refine hX MT (by
            have hx:=(z.g_ aQ).x
            exact⟨(hx.f_ 0).trans rfl,(hx.f_ 1).trans rfl,(hx.f_ 2).trans rfl,(hx.f_ 4).trans rfl,(hx.f_ 5).trans rfl,(by rw[<-a.out];exact(hx.f_ 15).trans rfl)⟩) λC=>?_
           exact Ib
          .go_simp
           (go_at_call 40;((with_reducible refine(dm.out _ dh).mono ?_));unfold mt;rintro e d0⟨a7,vc,b,rfl,df,c7,aQ⟩)
           clear C
           refine hX MT (by
            have hx:=(z.g_ aQ).x
            exact⟨(hx.f_ 0).trans rfl,(hx.f_ 1).trans rfl,(hx.f_ 2).trans rfl,(hx.f_ 4).trans rfl,(hx.f_ 5).trans rfl,(by rw[<-a.out];exact(hx.f_ 15).trans rfl)⟩) λC=>?_
           clear MT K
           refine hV 11 λK MT=>?_
           rw[O_ r_];refine oV 53 _ rfl gb (i*48) r_ 53 U (ts[i]).g8 (hR.bk.g_ aQ) (hR.at hi) _ underlying53 rfl k_ ?_
           refine hX MT C λC=>?_
           exact Ib
         .have q3:((ts[i]).hT==0)=false:=by simp[bq]
          obtain⟨st,de⟩:=mn_ ((ts[i]).hT);rw[de]at ca q3;clear bq de bZ di;go_wp2;go_roundw
          case rel=>exact⟨n-1,j,ts,rfl,X,X,a.out,z,dj.out,.inr ⟨gb,U,rfl,o,hR⟩⟩
          case measure=>exact mz
       .have q1:(0<n)=False:=by simp[W]
        clear ax;exact IE
