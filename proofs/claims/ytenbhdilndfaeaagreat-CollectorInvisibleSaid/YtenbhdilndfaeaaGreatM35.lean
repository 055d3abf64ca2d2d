import Derived.Test.YtenbhdilndfaeaaGreatM34
set_option maxRecDepth 100000
set_option maxHeartbeats 0
set_option linter.all false
namespace Go.Proofs.YtenbhdilndfaeaaGreat
open Go.RowKit Go.Proofs.Tryz
variable{G:Prop}{k:Nat}{m:Md}{s:Cm}
def Ip(h:G:=by
 clear MY K
 refine hZ 19 λK MY=>?_
 go_simp
 (go_at_call 39;((with_reducible refine(bE.out aH vc b d5 D dm c9).mono ?_));unfold ni;rintro e ws⟨t1,rfl,b0,cQ,T⟩)
 clear C
 refine h4 MY (by
  have hx:=(z.hF (D.trans T)).x
  exact⟨(hx.f_ 0).trans rfl,(hx.f_ 1).trans rfl,(hx.f_ 2).trans rfl,(hx.f_ 4).trans rfl,(hx.f_ 5).trans rfl,(by rw[<-a.out];exact(hx.f_ 15).trans rfl)⟩) λC=>?_
 clear MY K;refine iv 20 C ?_;refine iv 21 C ?_;refine iv 23 C ?_;refine ji 22 24 rfl rfl k_ (λK MY=>?_) (λK MY=>?_)
 .go_simp
  refine h4 MY C λC=>?_
  clear MY K
  refine hZ 24 λK MY=>?_
  rw[U_ r_];refine jE 53 _ _ rfl gb (i*48) r_ t1.g_ r_ 53 _ (hR.bk.hF (D.trans T)) aP k_ (Tk.one _) ?_;intro bu MZ V;clear C
  refine h4 MY (by
   have hx:=(z.hF (D.trans T)).x.gr V (zu (((hR.bk.hF (D.trans T)).l8 (z.hF (D.trans T)).x O).symm))
   exact⟨(hx.f_ 0).trans rfl,(hx.f_ 1).trans rfl,(hx.f_ 2).trans rfl,(hx.f_ 4).trans rfl,(hx.f_ 5).trans rfl,(by rw[<-a.out];exact(hx.f_ 15).trans rfl)⟩) λC=>?_
  exact I2
 .rw[U_ r_];refine jE 53 _ _ rfl gb (i*48) r_ t1.g_ r_ 53 _ (hR.bk.hF (D.trans T)) aP k_ (Tk.one _) ?_;intro bu MZ V;clear C
  refine h4 MY (by
   have hx:=(z.hF (D.trans T)).x.gr V (zu (((hR.bk.hF (D.trans T)).l8 (z.hF (D.trans T)).x O).symm))
   exact⟨(hx.f_ 0).trans rfl,(hx.f_ 1).trans rfl,(hx.f_ 2).trans rfl,(hx.f_ 4).trans rfl,(hx.f_ 5).trans rfl,(by rw[<-a.out];exact(hx.f_ 15).trans rfl)⟩) λC=>?_
  clear MY K
  refine hZ 22 λK MY=>?_
  go_simp
  refine h4 MY C λC=>?_
  exact I2):G:=h
def Iy(h:G:=by
 refine hZ 8 λK MY=>?_
 go_simp
 (go_at_call 49;((with_reducible refine(ob m.A m.c m.l m.hH m.hC xs[k] (m.run+k) ik _ z.i.l X X X X X).mono ?_));unfold ni;rintro e aJ⟨t0,rfl,cj,cK,aQ⟩)
 replace z:=z.hF aQ;replace HG:I [g] wr aJ:=HG.trans (aQ.of_nil [g]);replace hb:=hb.hF aQ;clear C;have C:aJ.cell? (Z gx 0)=some (.slice m.A m.l.length m.c)/\aJ.cell? (Z gx 1)=some (Y m.hH)/\aJ.cell? (Z gx 2)=some (Y m.hC)/\aJ.cell? (Z gx 16)=some (Y (m.run+k)):=⟨(z.x.f_ 0).trans rfl,(z.x.f_ 1).trans rfl,(z.x.f_ 2).trans rfl,(z.x.f_ 16).trans rfl⟩;clear aQ
 refine h4 MY C λC=>?_
 clear MY K
 repeat refine jQ C ?_
 exact IM):G:=h
def IM(h:G:=by
 refine hZ 13 λK MY=>?_
 rw[U_ r_];refine ia 53 rfl x r_ t0.g_ r_ 53 hb rfl k_ (Tk.one _) ?_;intro aS bT aM
 have bi:aS.cell? (Z gx 0)=some (.slice m.A m.l.length m.c)/\aS.cell? (Z gx 1)=some (Y m.hH)/\aS.cell? (Z gx 2)=some (Y m.hC)/\aS.cell? (Z gx 16)=some (Y (m.run+k)):=by
  have cx:=z.x.gr aM (by have:=hb.l8 z.x O;simpa using this.symm);exact⟨(cx.f_ 0).trans rfl,(cx.f_ 1).trans rfl,(cx.f_ 2).trans rfl,(cx.f_ 16).trans rfl⟩
 clear C;have C:=bi;clear bi
 refine h4 MY C λC=>?_
 clear MY K
 refine hZ 14 λK MY=>?_
 go_simp
 refine h4 MY C λC=>?_
 clear MY K;refine hM k_ ?_ _;go_wp2;go_meet;exact⟨t0,x,ik,rfl,bT,cj.it hb O aM,cK,z.d.ih aM (λy hy=>by rw[I_]at hy;rw[hy];exact G_ z.hB (G_ dY cS)),HG.hJ aM (λy hy=>.inr (by rw[I_]at hy;rw[hy];exact cS))⟩):G:=h
def IX(h:G:=by
 go_wp2_with (first|(refine kV z.x underlying43 ?_)|(refine kS (({m with run:=m.run+k,tA:=tA,tc:=tc,ts:=ts}:Md).g_) z.r (Md.one _) ?_;intro bu o V))
 obtain⟨aR,aZ,z3⟩:=z.fin V;exact rr_ ({m with run:=m.run+k,tA:=tA,tc:=tc,ts:=ts}:Md).g_ o underlying43 (by rw[aq.out];exact⟨({m with run:=m.run+k,tA:=tA,tc:=tc,ts:=ts}:Md),rfl,aR,⟨bl.out.val,bl.out.dv,⟨dg,m.run,ev,bl.out.cm,.inr ⟨dq.out,(by show m.run+(k:Int)=m.run+(ts.length:Int);rw[a.out]),j,X,du.out⟩⟩,by show ts.length<=tc;rw[a.out];exact d7.out⟩,aZ,z3⟩)):G:=h
def I2(h:G:=by
 clear MY K;refine hM k_ ?_ _;have o:=hR.set (w':=bu) hi t1 MZ
 have c3:=((z.hF (D.trans T)).row (hR.bk.hF (D.trans T)) V aM (ts:=ts.set i t1) J o.sl (λt ht=>by
  rcases F3 ht with ht|rfl
  .exact(z.i.ts.yO t ht).hF (D.trans T)
  .exact b0))
 have aO:=U cQ;clear z hR C cQ bE dx dr ck aP b0 D T dm c9 MZ V;go_wp2;go_roundw
 case rel=>exact⟨n-1,j+1,ts.set i t1,rfl,X,X,by rw[F1];exact a.out,c3,cU.out t1 aO.out,.inr ⟨gb,_,rfl,aM,o⟩⟩
 case measure=>exact mz):G:=h
def JP(h:G:=by
 go_wp2_with (first|(refine kV z.x underlying43 ?_)|(refine kS (m.g_) z.r (Md.one _) ?_;intro bu o V))
 obtain⟨aR,aZ,z3⟩:=z.fin V;exact rr_ m.g_ o underlying43 (by rw[aq.out];exact⟨m,rfl,aR,cM.out,aZ,z3⟩)):G:=h
def infoTk:(prog.info? 53).map (λi=>(i.zero,i.size,i.bytes))=some (some (.agg Tk.zero.g_),48,480):=by kernel_rfl
structure L1(k:Nat)(m:Md):Prop where
 val:ic m.l m.hH m.hC=true
 dv:m.d.Sublist (kI m.l m.hH m.hC)
 ts:m.ts=[]
 tn:m.tA=none/\m.tc=0
 cm:uO m.l m.hH m.hC m.d m.k7 k m.run m.s.p
def L1.m0(h:L1 k m):({m with run:=m.run+((0:Nat):Int),tA:=none,tc:=0,ts:=[]}:Md)=m:=by
 have a:=h.ts;obtain⟨b,c⟩:=h.tn;obtain⟨e,G,f,g,i,d,q,l,j,n,o,p,r,t,u,v⟩:=m;simp only at a b c;subst a;subst b;subst c;simp
def L1.ask(h:L1 k m)(a:m.s.jG=false)(h0:(nR m.l m.hH m.hC m.k7 m.s.p).2=0)(b:s.p=(nR m.l m.hH m.hC m.k7 m.s.p).1):L1 (k+1) {m with s:=s}:=
 ⟨h.val,h.dv,h.ts,h.tn,by show uO _ _ _ _ _ (k+1) m.run s.p;rw[b];exact h.cm.ask a h0⟩
def L1.commit(h:L1 k m)(a:m.s.jG=false)(h0:(nR m.l m.hH m.hC m.k7 m.s.p).2≠0)(b:s.p=(kK true m.s.p (na m.l m.hH m.hC m.d m.s.p m.run)).1):L1 (k+1) {m with s:=s,run:=m.run+1}:=
 ⟨h.val,h.dv,h.ts,h.tn,by show uO _ _ _ _ _ (k+1) (m.run+1) s.p;rw[b];exact h.cm.commit a h0⟩
def vX(B g:Nat)(w:World)(hd:iQ w B g)(hB:B<=w.heap.size):
 Calls prog 11 #[q_ g] w (BT B g w):=by
 refine h5 λal aq=>?_
 obtain⟨bJ,bG,bA,a6,be⟩:=info_parts infoTk;obtain⟨u,gr,M,an,bg,hR⟩:=box1 w 43 #[n_,Y 0,Y 0,n_,n_,n_,Y 0,Y 0,n_,.bool false,.bool false,.bool false,Y 0,Y 0,Y 0,n_,Y 0]
 go_enter func11,ntmps11
 go_upto_region 2 with(first
  |(go_at_call 44;refine(BD B g (hd.hF bg) (G_ hB bg.size)).mono ?_;unfold Dd;rintro e r⟨bd,c,l,hH,hC,rfl,hl,hv,cG,aU,hg1⟩)
  |(go_at_call 45;refine(yE B g aU (G_ hB (G_ bg.size hg1.size))).mono ?_;rintro e w2⟨aA,ac,k7,rfl,cW,eo,cT,M0⟩)
  |(refine wpList_build rfl rfl #[(0,.agg #[.slice bd l.length c,Y hH,Y hC]),(1,.agg #[.slice aA k7.length ac])] k_ (wt rfl) ?_))
 obtain⟨aI,gx,cf,aL,bf,bh⟩:=box1 w2 43 #[.slice bd l.length c,Y hH,Y hC,.slice aA k7.length ac,n_,n_,Y 0,Y 0,n_,.bool false,.bool false,.bool false,Y 0,Y 0,Y 0,n_,Y 0];rw[cf,aL];obtain⟨m,hm⟩:=nm_ (⟨bd,c,l,hH,hC,aA,ac,k7,none,0,[],Cm.zero,none,0,[],0⟩:Md)
 have z:MW w B g gr gx m aI:=by
  obtain⟨dc,bK⟩:=aU.bk;have hbg:=aU.xw;have bV:=bg.size;have b4:=hg1.size;have cH:=M0.size;have af:=hR.lt;have n1:gr≠g:=X;have cD:=((hR.gr hg1 (zu n1)).gr M0 (zu n1)).hF bf;refine⟨cD,by rw[hm];exact bh,?_,cT.hF bf,((bg.of_nil [g]).trans (hg1.trans M0)).trans (bf.of_nil [g]),hB,X,X,X⟩;subst hm;exact⟨Sl.hF (Sl.it hl bK O M0) bf,Sl.hF eo bf,cW,Gw _ _ _ _,H_ _,l6.zero _ _ rfl rfl,⟨Gw _ _ _ _,λt ht=>by cases ht⟩⟩
 have d1:ic m.l m.hH m.hC=true:=by rw[hm];exact hv
 have eB:m.ts=[]:=by rw[hm]
 have df:m.run=0:=by rw[hm]
 have ew:m.tA=none/\m.tc=0:=by rw[hm];exact⟨rfl,rfl⟩
 clear hm bh aL bf hl cW eo cT M0 cG aU hg1 hR an bg hd hv M;have MV:=ks d1
 go_upto_region 3 with(first
  |(refine iD rfl 26 _ rfl gx 0 r_ 43 m.g_ #[.slice m.A m.l.length m.c,Y m.hH,Y m.hC] z.x (m.code) _ underlying26 rfl k_ ?_)
  |(go_at_call 46;refine(u4 B g m.A m.c m.l m.hH m.hC z.i.l X z.d (G_ z.hB z.g.size)).mono ?_;unfold BW;rintro e ad⟨dA,dc,d,rfl,c7,dK,c8,cF,MS⟩)
  |(refine je rfl 32 _ _ rfl gx 4 r_ (#[.slice dA d.length dc]) r_ 43 m.g_ (z.dice MS cF).x (by first|decide|(simp[Md.g_,Cm.g_])) k_ (by simp[Value.oneCell']) ?_;intro f eJ dB))
 replace z:=z.dice MS cF;have cZ:MW w B g gr gx {m with dA:=dA,d:=d,dc:=dc} f:=z.set dB eJ (λhi=>⟨hi.l,hi.k7,hi.al,Sl.it c7 z.x O dB,dK,hi.s,hi.ts⟩);clear z dB eJ c7 dK MS cF;obtain⟨v,az⟩:=nm_ ({m with dA:=dA,d:=d,dc:=dc});rw[<-az]at cZ
 have dM:ic v.l v.hH v.hC=true:=by rw[az];exact d1
 have eC:v.ts=[]:=by rw[az];exact eB
 have eA:v.run=0:=by rw[az];exact df
 have ey:v.tA=none/\v.tc=0:=by rw[az];exact ew
 have er:v.d.Sublist (kI v.l v.hH v.hC):=by rw[az];exact c8
 clear az d1 eB df ew c8 MV;have MV:=ks dM
 go_upto_region 4 with(first
  |(refine iD rfl 26 _ rfl gx 0 r_ 43 v.g_ #[.slice v.A v.l.length v.c,Y v.hH,Y v.hC] cZ.x (v.code) _ underlying26 rfl k_ ?_)
  |(go_at_call 47;refine(wu v.A v.c v.l v.hH v.hC cZ.i.l X).mono ?_;unfold uM;rintro e ax⟨s,rfl,hs,dC,S⟩)
  |(refine je rfl 40 _ _ rfl gx 5 r_ (s.g_) r_ 43 v.g_ (cZ.hF S).x (by first|decide|(simp[Md.g_,Cm.g_])) k_ (Cm.one _) ?_;intro aJ dO dj))
 replace cZ:=cZ.hF S;have R:MW w B g gr gx {v with s:=s} aJ:=cZ.set dj dO (λhi=>⟨hi.l,hi.k7,hi.al,hi.d,hi.dl,hs.it cZ.x O dj,hi.ts⟩);obtain⟨dh,dZ⟩:=nm_ ({v with s:=s});rw[<-dZ]at R
 have ef:L1 0 dh:=by
  rw[dZ];refine⟨dM,er,eC,ey,?_⟩
  show uO _ _ _ _ _ 0 v.run s.p
  rw[eA,dC,dM];exact .hQ
 clear cZ dj dO hs dC S dZ dM eC eA ey er MV;have d9:=U ef;clear ef;obtain⟨bC,gq,dX,cX,bB,eh⟩:=box1 aJ 96 #[n_];have W:=R.hF bB;have ej:MQ w gq none [] 0 bC:=⟨eh,Gw _ _ _ _,ov R.g.size⟩;clear R bB eh
 go_upto_region 6 with(go_at_call 19;refine(iw B g 9 W.d O O).mono ?_;rintro e E⟨n0,rfl,hn0,hn1,aX,G⟩)
 obtain⟨dy,ep⟩:=W.d.bk;have am:=W.dice G aX;have ei:=ej.one ep O O G;clear W ej ep aX G
 go_loopw [5] (λah wr=>∃(n:Int) (k:Nat) (m:Md) (sA:OA) (fl:List Fo) (sc:Nat),ah=Y n/\0<=n/\n+k<=8/\MW w B g gr gx m wr/\MQ w gq sA fl sc wr/\L1 k m/\Df k fl) (λah _=>(intOf ah).toNat)
 case atStart=>exact⟨n0,0,dh,none,[],0,rfl,hn0,X,am,ei,d9.out,⟨H_ _,λbk hf=>(by cases hf),λbk hf=>(by cases hf)⟩⟩
 case round=>
  clear am ei d9 hn0 hn1;obtain⟨n,k,m,sA,fl,sc,rfl,hn0,eE,z,r,N,aY⟩:=hrel;have aw:wr.cell? (Z gx 9)=some (.bool m.s.jG):=(z.x.f_ 9).trans rfl
  cases bz:m.s.jG with
  |true=>
   rw[bz]at aw;have cM:=U (show CY m from⟨N.val,N.dv,⟨k,m.run,X,N.cm,.inl ⟨bz,N.ts,rfl⟩⟩,by rw[N.ts];exact N_ _⟩);clear N aY bz
   by_cases hp:0<n
   .have bo:(0<n)=True:=by simp[hp]
    exact JP
   .have bo:(0<n)=False:=by simp[hp]
    exact JP
  |false=>
   rw[bz]at aw
   by_cases hp:0<n
   .have bo:(0<n)=True:=by simp[hp]
    have A:=N.cm.cb N.val;have MV:=ks N.val
    have b1:m.s.h.l.length<=4000002:=by have L:=A.1.h;have e:m.s.p.h.length=m.s.h.l.length:=h7 _;omega
    have b2:m.s.h8.l.length<=4000000:=by have L:=A.1.h8;have e:m.s.p.h8.length=m.s.h8.l.length:=rfl;omega
    have b3: -1<=m.s.hQ:=A.1.st0;have dH:m.s.hQ<=3000:=A.1.st1;have ez:0<=m.s.hK:=A.1.p0
    have dW:m.s.hK<=100000:=by have L:=A.1.p1;have e:m.s.p.hK=m.s.hK:=rfl;omega
    have dE:0<=m.s.jo:=A.1.a0
    have ed:m.s.jo<=8:=by have L:=A.1.a1;have e:m.s.p.jo=m.s.jo:=rfl;omega
    have eR:0<=m.s.iS:=A.1.t0
    have eP:m.s.iS<=8:=by have L:=A.1.t1;have e:m.s.p.iS=m.s.iS:=rfl;omega
    have dV:0<=m.run:=A.2.1
    have eQ:m.run<=8:=by have L:=A.2.2;omega
    obtain⟨⟨bm,bv⟩,cV⟩:∃q,q=nR m.l m.hH m.hC m.k7 m.s.p:=⟨_,rfl⟩;have a2:=U cV;have bl:=U N;have dq:=U bz;clear cV A N bz
    go_upto_region 9 with(first|(refine iD rfl 26 _ rfl gx 0 r_ 43 m.g_ #[.slice m.A m.l.length m.c,Y m.hH,Y m.hC] z.x (m.code) _ underlying26 rfl k_ ?_)|(refine iD rfl 29 _ rfl gx 3 r_ 43 m.g_ #[.slice m.aA m.k7.length m.ac] z.x (m.world) _ underlying29 rfl k_ ?_)|(refine iD rfl 40 _ rfl gx 5 r_ 43 m.g_ m.s.g_ z.x (m.com) _ underlying40 rfl k_ ?_)|(go_at_call 48;have cb:=zI m.A m.c m.l m.hH m.hC m.aA m.ac m.k7 m.s z.i.l X z.i.k7 (ov z.i.al) z.i.s X X X X X X X X;rw[<-a2.out]at cb;refine cb.mono ?_;clear cb;unfold uM;rintro e ad⟨s,rfl,hs,dC,MS⟩)|(refine kS (s.g_) (P_ ad 40 #[n_,Y 0,Y 0,n_,.bool false,.bool false,.bool false,Y 0,Y 0,Y 0]) (Cm.one _) ?_;intro f b5 F))
    have co:I [] ad f:=((H [] ad).alloc _).jM F (H_ _);replace z:=z.hF (MS.trans co);replace r:=r.hF (MS.trans co);replace hs:=hs.hF co;clear MS co F aw;generalize ad.heap.size=aB at*
    by_cases h0:bv=0
    .have bN:(bv==0)=true:=by simp[h0]
     have dT:=U (bl.out.ask dq.out (by rw[<-a2.out];exact h0) (s:=s) (by rw[<-a2.out];exact dC));clear h0 bl a2 dq dC
     go_wp2_with (first|(refine kV b5 underlying40 ?_)|(refine je rfl 40 _ _ rfl gx 5 r_ (s.g_) r_ 43 m.g_ z.x (by first|decide|(simp[Md.g_,Cm.g_])) k_ (Cm.one _) ?_;intro aJ dO dj))
     go_roundw
     case rel=>exact⟨n-1,k+1,{m with s:=s},sA,fl,sc,rfl,X,X,z.set dj dO (λhi=>⟨hi.l,hi.k7,hi.al,hi.d,hi.dl,hs.it z.x O dj,hi.ts⟩),r.one z.x O O dj,dT.out,aY.mono X⟩
     case measure=>exact mz
    .have bN:(bv==0)=false:=by simp[h0]
     have ag:=U h0;clear h0 dC hs b5;have bp:f.cell? (Z gx 6)=some (Y m.s.hQ):=(z.x.f_ 6).trans rfl;have dP:f.cell? (Z gx 16)=some (Y m.run):=(z.x.f_ 16).trans rfl;have bR:=U (show na m.l m.hH m.hC m.d m.s.p m.run=AD m.l m.hH m.hC m.d m.s.p.h (jn m.l m.hH m.hC m.s.hQ m.run true).1 from rfl)
     go_upto_region 12 with(first|(refine iD rfl 26 _ rfl gx 0 r_ 43 m.g_ #[.slice m.A m.l.length m.c,Y m.hH,Y m.hC] z.x (m.code) _ underlying26 rfl k_ ?_)|(go_at_call 49;((with_reducible refine(ob m.A m.c m.l m.hH m.hC m.s.hQ m.run true _ z.i.l X X X X X).mono ?_));unfold ni;rintro e ax⟨t0,rfl,cj,cK,S⟩)|(refine kS (t0.g_) (P_ ax 53 lA) (Tk.one _) ?_;intro aJ Q aQ))
     have eW:w.heap.size<=ax.heap.size:=G_ z.g.size S.size;have cz:I [] ax aJ:=((H [] ax).alloc _).jM aQ (H_ _);replace z:=z.hF (S.trans cz);replace r:=r.hF (S.trans cz);have b0:=cj.hF cz;have d6:=z.x.hG 16;replace dP:aJ.cell? (Z gx 16)=some (Y m.run):=(z.x.f_ 16).trans rfl;clear S cz aQ cj bp;generalize ax.heap.size=cY at*
     go_upto_region 13 with fail
     have T:I [gx] aJ (aJ.setCell (Z gx 16) (Y (m.run+1))):=(H [gx] aJ).setCell (.inl J) _;have et:cY≠gx:=Q.l8 z.x O;replace Q:=Q.gr T (zu et);replace b0:=b0.it z.x O T;replace r:=r.one z.x O O T;have W:MW w B g gr gx ({m with run:=m.run+1}:Md) (aJ.setCell (Z gx 16) (Y (m.run+1))):=z.set T (z.x.hV 16 _) (λhi=>⟨hi.l,hi.k7,hi.al,hi.d,hi.dl,hi.s,hi.ts⟩);clear dP d6 z T et;have z:=W;clear W;obtain⟨bP,db⟩:=nm_ (aJ.setCell (Z gx 16) (Y (m.run+1)));rw[<-db]at z r b0 Q |-;clear db;have dQ:=U (tC bl.out.val bl.out.dv);have dK:=uF bl.out.val bl.out.dv;have dG:=U cK;have bw:=nQ m.l m.hH m.hC m.s.hQ m.run true;rw[<-cK]at bw
     have bL:0<=t0.run:=by have e:t0.p.run=t0.run:=rfl;omega
     have bO:t0.run<=1099511627776:=by have e:t0.p.run=t0.run:=rfl;omega
     have eb:=U (show t0.h9=0->Way m.l t0.p from λ_=>by rw[cK];exact nP);clear cK bw
     go_upto_region 14 with(first|(refine iD rfl 26 _ rfl gx 0 r_ 43 ({m with run:=m.run+1}:Md).g_ #[.slice m.A m.l.length m.c,Y m.hH,Y m.hC] z.x (Md.code _) _ underlying26 rfl k_ ?_)|(refine iD rfl 32 _ rfl gx 4 r_ 43 ({m with run:=m.run+1}:Md).g_ #[.slice m.dA m.d.length m.dc] z.x (Md.div _) _ underlying32 rfl k_ ?_)|(refine iD rfl 35 _ rfl gx 5 r_ 43 ({m with run:=m.run+1}:Md).g_ #[.slice m.s.h.A m.s.h.l.length m.s.h.c] z.x (Md.heap _) _ underlying35 rfl k_ ?_)|(refine kV Q underlying53 ?_)|(go_at_call 50;((with_reducible refine(y1 m.A m.c m.l m.hH m.hC m.dA m.dc m.d t0 m.s.h.A m.s.h.c m.s.h.l z.i.l X z.i.d X b0 z.i.s.h dQ.out X bL bO eb.out).mono ?_));unfold ni;rintro e E⟨t1,rfl,cc,cQ,G⟩)|(refine kS (t1.g_) (Q.hF G) (Tk.one _) ?_;intro bX c6 aC))
     replace z:=(z.hF G).one (Q.hF G) O (.inr bl.out.ts) O eW aC;replace r:=(r.hF G).one (Q.hF G) O O aC;replace cc:=cc.it (Q.hF G) O aC;clear Q G aC b0 eb bL bO;have c6:=c6
     have dN:t1.p=na m.l m.hH m.hC m.d m.s.p m.run:=by rw[cQ,bR.out,dG.out];rfl
     clear cQ;have dw:=U bl.out.val;have bS:=U (show TF t1.p by rw[dN];exact ru bl.out.val MV.2.1 _ _);have dt:Hid (TG mQ t1.p):=U (by rw[dN];exact tE bl.out.val MV.2.1 (bl.out.cm.EL bl.out.val X) dV X);have eL:=U (show ∀P∈t1.nw.l,mQ P.o.id from λP hr=>(dt.out.nw P.o (FQ.2 ⟨P,hr,rfl⟩)).1);have eN:=U (show ∀c∈t1.ws.l,mQ c.id from λc hc=>(dt.out.ws c hc).1.elim id (λe=>e▸wf64_1));have eM:=U dN;clear dN dt bR dG;have hn0: -1<=t1.next:=bS.out.n0;have eZ:t1.next<=3000:=bS.out.n1;have ct:bX.cell? (Z cY 42)=some (Y t1.h9):=(c6.f_ 42).trans rfl
     go_upto_if 89 with fail
     go_cut [7] (λ_ a7=>∃(d3:OA) (dI:List Fo) (d4:Nat),MW w B g gr gx ({m with run:=m.run+1}:Md) a7/\MQ w gq d3 dI d4 a7/\Df (k+1) dI/\Bk a7 cY 53 t1.g_/\lh a7 t1)
     case first=>
      by_cases b4:t1.h9=2
      .have bU:(t1.h9==2)=true:=by simp[b4]
       have z0:bX.cell? (Z cY 0)=some (Y t1.hQ):=(c6.f_ 0).trans rfl;have d8:bX.cell? (Z cY 43)=some (Y t1.next):=(c6.f_ 43).trans rfl;have bq:bX.cell? (Z gq 0)=some (.slice sA fl.length sc):=(r.q.f_ 0).trans rfl;clear b4
       go_wp2_with (first|(go_at_call 51;((with_reducible refine(yM sA sc fl t1.hQ t1.next r.f (ov aY.len) (λbk hf=>by have:=aY.n bk hf;omega)).mono ?_));unfold yt;rintro e aS⟨ap,bt,rfl,eS,cT,aM⟩)|(refine kS (#[.slice ap (lk fl t1.hQ t1.next).length bt]) (r.q.hF aM) (by simp[Value.oneCell']) ?_;intro wc CJ a8))
       go_meet;have dJ:=r.hF aM;exact⟨ap,lk fl t1.hQ t1.next,bt,(z.hF aM).one dJ.q O (.inl O) O r.b a8,⟨CJ,Sl.it eS dJ.q O a8,r.b⟩,aY.DY _ _ hn0 eZ,(c6.hF aM).gr a8 (zu ((c6.hF aM).l8 dJ.q O)),(cc.hF aM).it dJ.q O a8⟩
      .have bU:(t1.h9==2)=false:=by simp[b4]
       clear b4;go_wp2;go_meet;exact⟨sA,fl,sc,z,r,aY.mono X,c6,cc⟩
     case rest=>
      obtain⟨d3,dI,d4,cq,eT,au,eV,cJ⟩:=hcut;clear z r aY c6 cc ct;have z:=cq;have cc:=cJ;clear cq cJ
      go_wp2_with (first|(refine iD rfl 26 _ rfl gx 0 r_ 43 ({m with run:=m.run+1}:Md).g_ #[.slice m.A m.l.length m.c,Y m.hH,Y m.hC] z.x (Md.code _) _ underlying26 rfl k_ ?_)|(refine iD rfl 40 _ rfl gx 5 r_ 43 ({m with run:=m.run+1}:Md).g_ m.s.g_ z.x (Md.com _) _ underlying40 rfl k_ ?_)|(refine kV eV underlying53 ?_)|(go_at_call 52;have dS:=Go.Proofs.YtenbhdilndfaeaaGreat.u6 m.A m.c m.l m.hH m.hC m.s t1 z.i.l X z.i.s cc bS.out.sm X X eL.out eN.out X X X X bS.out.s0 (by have L:=bS.out.s1;have e:t1.p.hK=t1.hK:=rfl;omega);rw[dw.out]at dS;refine dS.mono ?_;clear dS;unfold uM;rintro e dR⟨b7,rfl,b4,e1,ch⟩)|(refine je rfl 40 _ _ rfl gx 5 r_ (b7.g_) r_ 43 ({m with run:=m.run+1}:Md).g_ (z.hF ch).x (by simp[Md.g_,Cm.g_]) k_ (Cm.one _) ?_;intro e6 ci bF))
      have dT:=U (bl.out.commit dq.out (by rw[<-a2.out];exact ag.out) (s:=b7) (by rw[e1,eM.out]));go_roundw
      case rel=>exact⟨n-1,k+1,{m with s:=b7,run:=m.run+1},d3,dI,d4,rfl,X,X,(z.hF ch).set bF ci (λhi=>⟨hi.l,hi.k7,hi.al,hi.d,hi.dl,b4.it (z.hF ch).x O bF,hi.ts⟩),(eT.hF ch).one (z.hF ch).x O O bF,dT.out,au⟩
      case measure=>exact mz
   .have bo:(0<n)=False:=by simp[hp]
    have A:=N.cm.cb N.val;have MV:=ks N.val
    have b1:m.s.h.l.length<=4000002:=by have L:=A.1.h;have e:m.s.p.h.length=m.s.h.l.length:=h7 _;omega
    have b2:m.s.h8.l.length<=4000000:=by have L:=A.1.h8;have e:m.s.p.h8.length=m.s.h8.l.length:=rfl;omega
    have b3: -1<=m.s.hQ:=A.1.st0;have dH:m.s.hQ<=3000:=A.1.st1;have ez:0<=m.s.hK:=A.1.p0
    have dW:m.s.hK<=100000:=by have L:=A.1.p1;have e:m.s.p.hK=m.s.hK:=rfl;omega
    have dE:0<=m.s.jo:=A.1.a0
    have ed:m.s.jo<=8:=by have L:=A.1.a1;have e:m.s.p.jo=m.s.jo:=rfl;omega
    have eR:0<=m.s.iS:=A.1.t0
    have eP:m.s.iS<=8:=by have L:=A.1.t1;have e:m.s.p.iS=m.s.iS:=rfl;omega
    have dV:0<=m.run:=A.2.1
    have eQ:m.run<=8:=by have L:=A.2.2;omega
    have aV:wr.cell? (Z gx 0)=some (.slice m.A m.l.length m.c):=(z.x.f_ 0).trans rfl;have bl:=U N;have dq:=U bz;clear A N bz aV
    go_upto_region 19 with fail
    refine hN (λw'=>w'.cell? (Z gx 0)=some (.slice m.A m.l.length m.c)/\w'.cell? (Z gx 1)=some (Y m.hH)/\w'.cell? (Z gx 2)=some (Y m.hC)/\w'.cell? (Z gq 0)=some (.slice sA fl.length sc)/\w'.cell? (Z gx 6)=some (Y m.s.hQ)) 11 k_ ?_;obtain⟨u,M⟩:=nm_ wr.drew;rw[<-M]
    replace z:MW w B g gr gx m u:=by rw[M];exact z.hF (H [] wr).drew
    replace r:MQ w gq sA fl sc u:=by rw[M];exact r.hF (H [] wr).drew
    clear M
    refine m5 ⟨(z.x.f_ 0).trans rfl,(z.x.f_ 1).trans rfl,(z.x.f_ 2).trans rfl,(r.q.f_ 0).trans rfl,(z.x.f_ 6).trans rfl⟩ λC=>?_
    repeat refine jQ C ?_
    refine hZ 7 λK MY=>?_
    go_simp
    (go_at_call 19;refine(iw B g 5 z.d X X).mono ?_;rintro e f⟨P,rfl,bL,bO,Q,F⟩)
    obtain⟨dy,bK⟩:=z.d.bk;replace r:=r.one bK O O F;replace z:=z.dice F Q;clear C bK Q F
    refine h4 MY ⟨(z.x.f_ 0).trans rfl,(z.x.f_ 1).trans rfl,(z.x.f_ 2).trans rfl,(r.q.f_ 0).trans rfl,(z.x.f_ 6).trans rfl⟩ λC=>?_
    clear MY K;have p7:IntKind.i64.wrap (1+P)=1+P:=F5 _ X;refine iv 8 C ?_
    refine hZ 9 λK MY=>?_
    go_simp
    (go_at_call 53;((with_reducible refine(zE m.A m.c m.l m.hH m.hC sA sc fl m.s.hQ (1+P) z.i.l X r.f (ov aY.len) (λbk hf=>by have:=aY.dst bk hf;omega) X X).mono ?_));unfold Dc;rintro e ax⟨eO,xc,xs,rfl,aE,cw,bH,S⟩)
    replace z:=z.hF S;replace r:=r.hF S;clear C S p7 bL bO
    refine h4 MY ⟨(z.x.f_ 0).trans rfl,(z.x.f_ 1).trans rfl,(z.x.f_ 2).trans rfl,(r.q.f_ 0).trans rfl,(z.x.f_ 6).trans rfl⟩ λC=>?_
    clear MY K;refine iv 10 C ?_;refine hM k_ ?_ _;clear C r aY;clear aw;go_wp2;have dQ:=U (tC bl.out.val bl.out.dv);have dK:=uF bl.out.val bl.out.dv
    go_loopw [122] (λah wr=>∃(k:Nat) (ts:List Tk) (tA:OA) (tc:Nat),ah=Y k/\k<=xs.length/\ts.length=k/\MW w B g gr gx ({m with run:=m.run+k,tA:=tA,tc:=tc,ts:=ts}:Md) wr/\wr.ownsRow w.heap.size 53 48 (.slice tA k tc) k (ts.flatMap λt:Tk=>t.g_.toList)/\Ns wr 3 eO xs/\(∀(j:Nat) (hj:j<ts.length) (hx:j<xs.length),∃ik:Bool,ts[j].p=(jn m.l m.hH m.hC xs[j] (m.run+j) ik).1)) (λah _=>xs.length-(intOf ah).toNat)
    case atStart=>exact⟨0,[],none,0,gn,N_ _,rfl,(by rw[bl.out.m0];exact z),iT _ _ _ _,aE,λj hj=>by cases hj⟩
    case round=>
     obtain⟨dg,cp⟩:=nm_ k;rw[<-cp]at bl eE;have ev:dg<=8:=X;clear z aE eE cp;obtain⟨k,ts,tA,tc,rfl,hk,di,z,ak,aE,cI⟩:=hrel;have a:=U di;have cU:=U cI;clear di cI
     by_cases af:k<xs.length
     .obtain⟨bx,eK,eU,dn⟩:=aE.at_ af;have d2:=bH _ (O_ af);have ck: -1000000000<=xs[k]:=d2.2.2.1;have cr:xs[k]<=1000000000:=d2.2.2.2;subst eU
      go_upto_region 23 with fail
      go_cut [13] (λp a7=>∃(t0:Tk) (x:Nat) (ik:Bool),p=q_ x/\Bk a7 x 53 t0.g_/\lh a7 t0/\t0.p=(jn m.l m.hH m.hC xs[k] (m.run+k) ik).1/\iQ a7 B g/\I [g] wr a7)
      case first=>
       refine hN (λw'=>w'.cell? (Z gx 0)=some (.slice m.A m.l.length m.c)/\w'.cell? (Z gx 1)=some (Y m.hH)/\w'.cell? (Z gx 2)=some (Y m.hC)/\w'.cell? (Z gx 16)=some (Y (m.run+k))) 15 k_ ?_;obtain⟨u,M⟩:=nm_ wr.drew;rw[<-M];have dY:w.heap.size<=wr.heap.size:=z.g.size
       have HG:I [g] wr u:=by rw[M];exact(H [g] wr).drew
       replace z:MW w B g gr gx ({m with run:=m.run+k,tA:=tA,tc:=tc,ts:=ts}:Md) u:=by rw[M];exact z.hF (H [] wr).drew
       clear M
       refine m5 ⟨(z.x.f_ 0).trans rfl,(z.x.f_ 1).trans rfl,(z.x.f_ 2).trans rfl,(z.x.f_ 16).trans rfl⟩ λC=>?_
       (repeat refine jQ C ?_)
       refine ji 6 12 rfl rfl k_ (λK MY=>?_) (λK MY=>?_)
       .go_simp
        (go_at_call 19;refine(iw B g 3 z.d X X).mono ?_;rintro e f⟨P,rfl,bL,bO,Q,F⟩)
        replace z:=z.dice F Q;replace HG:I [g] wr f:=HG.trans F;clear C;have C:f.cell? (Z gx 0)=some (.slice m.A m.l.length m.c)/\f.cell? (Z gx 1)=some (Y m.hH)/\f.cell? (Z gx 2)=some (Y m.hC)/\f.cell? (Z gx 16)=some (Y (m.run+k)):=⟨(z.x.f_ 0).trans rfl,(z.x.f_ 1).trans rfl,(z.x.f_ 2).trans rfl,(z.x.f_ 16).trans rfl⟩;clear Q F
        refine h4 MY C λC=>?_
        clear MY K;obtain⟨ik,bZ⟩:=mn_ (P==0);refine iv 7 C ?_
        try simp only[bZ]
        clear bZ bL bO;refine ji 8 12 rfl rfl k_ (λK MY=>?_) (λK MY=>?_)
        .go_simp
         (go_at_call 49;((with_reducible refine(ob m.A m.c m.l m.hH m.hC xs[k] (m.run+k) ik _ z.i.l X X X X X).mono ?_));unfold ni;rintro e aJ⟨t0,rfl,cj,cK,aQ⟩)
         replace z:=z.hF aQ;replace HG:I [g] wr aJ:=HG.trans (aQ.of_nil [g]);clear C;have C:aJ.cell? (Z gx 0)=some (.slice m.A m.l.length m.c)/\aJ.cell? (Z gx 1)=some (Y m.hH)/\aJ.cell? (Z gx 2)=some (Y m.hC)/\aJ.cell? (Z gx 16)=some (Y (m.run+k)):=⟨(z.x.f_ 0).trans rfl,(z.x.f_ 1).trans rfl,(z.x.f_ 2).trans rfl,(z.x.f_ 16).trans rfl⟩;clear aQ
         refine h4 MY C λC=>?_
         clear MY K
         repeat refine jQ C ?_
         refine hZ 12 λK MY=>?_
         go_simp;have hb:Bk (aJ.alloc (.cells lA 53)) aJ.heap.size 53 lA:=P_ aJ _ _;have aD:aJ.heap.size≠g:=ov z.d.lt;have cS:wr.heap.size<=aJ.heap.size:=HG.size;replace z:=z.hF ((H [] aJ).alloc (.cells lA 53));replace HG:I [g] wr (aJ.alloc (.cells lA 53)):=HG.alloc _;replace cj:=cj.hF ((H [] aJ).alloc (.cells lA 53));obtain⟨E,cu⟩:=nm_ (aJ.alloc (.cells lA 53));rw[<-cu]at hb z HG cj |-;clear C;have C:E.cell? (Z gx 0)=some (.slice m.A m.l.length m.c)/\E.cell? (Z gx 1)=some (Y m.hH)/\E.cell? (Z gx 2)=some (Y m.hC)/\E.cell? (Z gx 16)=some (Y (m.run+k)):=⟨(z.x.f_ 0).trans rfl,(z.x.f_ 1).trans rfl,(z.x.f_ 2).trans rfl,(z.x.f_ 16).trans rfl⟩;clear cu;generalize aJ.heap.size=x at*
         refine h4 MY C λC=>?_
         clear MY K;exact IM
        .go_simp;have hb:Bk (f.alloc (.cells lA 53)) f.heap.size 53 lA:=P_ f _ _;have aD:f.heap.size≠g:=ov z.d.lt;have cS:wr.heap.size<=f.heap.size:=HG.size;replace z:=z.hF ((H [] f).alloc (.cells lA 53));replace HG:I [g] wr (f.alloc (.cells lA 53)):=HG.alloc _;obtain⟨E,cu⟩:=nm_ (f.alloc (.cells lA 53));rw[<-cu]at hb z HG |-;clear C;have C:E.cell? (Z gx 0)=some (.slice m.A m.l.length m.c)/\E.cell? (Z gx 1)=some (Y m.hH)/\E.cell? (Z gx 2)=some (Y m.hC)/\E.cell? (Z gx 16)=some (Y (m.run+k)):=⟨(z.x.f_ 0).trans rfl,(z.x.f_ 1).trans rfl,(z.x.f_ 2).trans rfl,(z.x.f_ 16).trans rfl⟩;clear cu;generalize f.heap.size=x at*
         refine h4 MY C λC=>?_
         clear MY K;exact Iy
       .go_simp;have hb:Bk (u.alloc (.cells lA 53)) u.heap.size 53 lA:=P_ u _ _;have aD:u.heap.size≠g:=ov z.d.lt;have cS:wr.heap.size<=u.heap.size:=HG.size;replace z:=z.hF ((H [] u).alloc (.cells lA 53));replace HG:I [g] wr (u.alloc (.cells lA 53)):=HG.alloc _;obtain⟨E,cu⟩:=nm_ (u.alloc (.cells lA 53));rw[<-cu]at hb z HG |-;clear C;have C:E.cell? (Z gx 0)=some (.slice m.A m.l.length m.c)/\E.cell? (Z gx 1)=some (Y m.hH)/\E.cell? (Z gx 2)=some (Y m.hC)/\E.cell? (Z gx 16)=some (Y (m.run+k)):=⟨(z.x.f_ 0).trans rfl,(z.x.f_ 1).trans rfl,(z.x.f_ 2).trans rfl,(z.x.f_ 16).trans rfl⟩;clear cu;generalize u.heap.size=x at*
        refine h4 MY C λC=>?_
        clear MY K
        refine hZ 6 λK MY=>?_
        go_simp
        (go_at_call 19;refine(iw B g 3 z.d X X).mono ?_;rintro e f⟨P,rfl,bL,bO,Q,F⟩)
        replace z:=z.dice F Q;replace HG:I [g] wr f:=HG.trans F;replace hb:=hb.gr F (zu aD);clear C;have C:f.cell? (Z gx 0)=some (.slice m.A m.l.length m.c)/\f.cell? (Z gx 1)=some (Y m.hH)/\f.cell? (Z gx 2)=some (Y m.hC)/\f.cell? (Z gx 16)=some (Y (m.run+k)):=⟨(z.x.f_ 0).trans rfl,(z.x.f_ 1).trans rfl,(z.x.f_ 2).trans rfl,(z.x.f_ 16).trans rfl⟩;clear Q F
        refine h4 MY C λC=>?_
        clear MY K;obtain⟨ik,bZ⟩:=mn_ (P==0);refine iv 7 C ?_
        try simp only[bZ]
        clear bZ bL bO;exact Iy
      case rest=>
       obtain⟨t0,x,ik,rfl,hb,cj,cK,dz,aQ⟩:=hcut;obtain⟨dy,bK⟩:=z.d.bk;have eH:Ns wc 3 (some (Z bx eK)) xs:=Sl.it aE bK O aQ;have b9:=kD ak bK O aQ;have R:=z.dice aQ dz;have dG:=U cK;clear z ak aE bK aQ dz dn cK d2 ck cr;have dP:wc.cell? (Z gx 16)=some (Y (m.run+k)):=(R.x.f_ 16).trans rfl;have d6:=R.x.hG 16
       go_upto_region 25 with fail
       have T:I [gx] wc (wc.setCell (Z gx 16) (Y (m.run+k+1))):=(H [gx] wc).setCell (.inl J) _;have eG:x≠gx:=hb.l8 R.x O;replace hb:=hb.gr T (zu eG);replace cj:=cj.it R.x O T;have eI:Ns (wc.setCell (Z gx 16) (Y (m.run+k+1))) 3 (some (Z bx eK)) xs:=Sl.it eH R.x O T;replace b9:=kD b9 R.x O T;have W:MW w B g gr gx ({m with run:=m.run+k+1,tA:=tA,tc:=tc,ts:=ts}:Md) (wc.setCell (Z gx 16) (Y (m.run+k+1))):=R.set T (R.x.hV 16 _) (λhi=>⟨hi.l,hi.k7,hi.al,hi.d,hi.dl,hi.s,hi.ts⟩);clear R T eG dP d6 eH;obtain⟨bP,db⟩:=nm_ (wc.setCell (Z gx 16) (Y (m.run+k+1)));rw[<-db]at W eI b9 cj hb |-;clear db
       have dD:bP.cell? (Z gx 15)=some (.slice tA k tc):=by rw[<-a.out];exact(W.x.f_ 15).trans rfl
       have aF:I [] bP (bP.alloc (.cells t0.g_ 53)):=(H [] bP).alloc _;have am:=W.hF aF;have de:=iy b9 aF;have cN:Sl (bP.alloc (.cells t0.g_ 53)) 53 48 (j_ bP.heap.size) 1 t0.g_.toList:=jj (n:=1) (s:=48) (P_ bP 53 t0.g_) rfl;have hbs:w.heap.size<=(bP.alloc (.cells t0.g_ 53)).heap.size:=G_ W.g.size aF.size;refine wp_region_lit ?_;refine Dp rfl ?_
       try simp only[a_]
       refine Dp rfl ?_
       try simp only[a_]
       refine kV hb underlying53 ?_
       try simp only[a_]
       refine Great.wpList_buildSliceTo rfl 41 53 1 _ rfl bP.heap.size rfl _ rfl underlying41 t0.g_ k_ ?_
       try simp only[a_]
       refine iJ _ rfl (.tmp 143) (.tmp 145) 41 rfl w.heap.size 53 bJ _ 48 480 underlying41 bG bA a6 be r_ O O tA k tc _ rfl de (j_ bP.heap.size) 1 1 t0.g_.toList rfl cN (Du t0) X hbs ?_;intro ap ai E av ar;have dD:E.cell? (Z gx 15)=some (.slice tA k tc):=(by rw[<-a.out];exact((ar.bk am.x O).f_ 15).trans rfl);have e7:=(ar.bk am.x O).hG 15
       try simp only[a_]
       refine Dp rfl ?_
       try simp only[a_]
       refine nA rfl (λK MY=>?_);go_simp;refine MY.out _ _ ?_;clear MY K;refine wpList_nil ?_;go_wp2;go_roundw
       case rel=>
        have bY:E.ownsRow w.heap.size 53 48 (.slice ap (k+1) ai) (k+1) ((ts++[t0]).flatMap λt:Tk=>t.g_.toList):=by
         simpa using av
        have b6:(ts++[t0]).length=k+1:=by rw[J_,a.out];rfl
        have ao:Ts E ap (ts++[t0]):=by
         have h:=Sl.iR bY
         show Sl E 53 48 ap (ts++[t0]).length _
         rw[b6];exact h
        have c3:=am.append (c:=ai) ar b6 ao (λt ht=>by
         rcases X_.1 ht with ht|ht
         .exact am.i.ts.yO t ht
         .rw[I_.1 ht]
          exact cj.hF aF)
        have cv:=ar.bk am.x O;have V:I [gx] E (E.setCell (Z gx 15) (.slice ap (k+1) ai)):=(H [gx] E).setCell (.inl J) _;refine⟨k+1,ts++[t0],ap,ai,gn,X,b6,?_,kD bY cv O V,Sl.it (ar.sl (Sl.hF eI aF) O) cv O V,?_⟩
        .have e:m.run+((k+1:Nat):Int)=m.run+k+1:=X;rw[e];exact c3
        .intro j hj hx
         by_cases cA:j<ts.length
         .rw[Gq cA];exact cU.out j cA hx
         .have:j=k:=by rw[b6]at hj;have:=a.out;omega
          subst this;rw[GC X];refine⟨ik,?_⟩;have aT:([t0]:List Tk)[j-ts.length]'(by have:=a.out;simp;omega)=t0:=J;rw[aT];exact dG.out
       case measure=>exact mz
     .have dF:k=xs.length:=X
      have ea:=U (show wJ m.l m.hH m.hC m.d m.s.p.h m.run 0 (ts.map Tk.p) from .hQ _ (by rw[Ge,a.out];omega) (λj hj=>by
       have eY:j<ts.length:=zu hj;have eu:j<xs.length:=ov a.out;obtain⟨ik,hp⟩:=cU.out j eY eu
       exact⟨xs[j],ik,bH _ (O_ eu),by rw[G9];exact hp⟩))
      have e3:k<=16:=X;have e5:((k:Int)<(xs.length:Int))=False:=p_;clear hk af cU aE bH dF;obtain⟨dy,bK⟩:=z.d.bk
      go_upto_region 28 with(go_at_call 19;refine(iw B g 40 z.d X X).mono ?_;rintro e f⟨n1,rfl,eD,e0,Q,F⟩)
      have ao:k=0∨∃gb cur,tA=some (Z gb 0)/\w.heap.size<=gb/\pf f gb cur ts:=by
       rcases Gl k with h|h
       .exact .inl h
       .have eF:=kD ak bK O F;rw[<-a.out]at eF;obtain⟨gb,cur,L,h2,h3⟩:=pf.iR eF (by rw[a.out];exact h);exact .inr ⟨gb,cur,L,h2,h3⟩
      have d7:=U (iY ak);have eg:=z.dice F Q;clear z ak bK F Q
      go_loopw [15] (λah wr=>∃(n:Int) (j:Nat) (ts:List Tk),ah=Y n/\0<=n/\n+j<=39/\ts.length=k/\MW w B g gr gx ({m with run:=m.run+k,tA:=tA,tc:=tc,ts:=ts}:Md) wr/\wJ m.l m.hH m.hC m.d m.s.p.h m.run j (ts.map Tk.p)/\(k=0∨∃gb cur,tA=some (Z gb 0)/\w.heap.size<=gb/\pf wr gb cur ts)) (λah _=>(intOf ah).toNat)
      case atStart=>exact⟨n1,0,ts,rfl,eD,X,a.out,eg,ea.out,ao⟩
      case round=>
       clear eg ao eD e0 ea a ts;obtain⟨n,j,ts,rfl,hn0,e4,di,z,MX,ao⟩:=hrel;have a:=U di;have du:=U MX
       have dD:wr.cell? (Z gx 15)=some (.slice tA k tc):=by rw[<-di];exact(z.x.f_ 15).trans rfl
       clear di MX
       by_cases hp:0<n
       .have bo:(0<n)=True:=by simp[hp]
        rcases Gl k with cg|bD
        .have bN:((0:Int)<(k:Int))=False:=by simp[cg]
         have e2:(0<k)=False:=by simp[cg]
         clear cg ao;exact IX
        .obtain⟨gb,cur,hA,aM,hR⟩:=ao.resolve_left X;clear ao;subst hA
         have bN:((0:Int)<(k:Int))=True:=by simp[bD]
         have e2:(0<k)=True:=by simp[bD]
         go_upto_region 31 with(go_at_call 19;refine(iw B g (k:Int) z.d X X).mono ?_;rintro e f⟨P,rfl,bL,bO,Q,F⟩)
         obtain⟨i,rfl⟩:∃i:Nat,P=i:=⟨P.toNat,X⟩;have dL:i<k:=X
         have hi:i<ts.length:=by rw[a.out];exact dL
         have da:gb≠g:=by have L:=z.d.xw;have h2:=z.hB;omega
         replace hR:pf f gb cur ts:=⟨hR.bk.gr F (zu da),hR.row⟩;replace z:=z.dice F Q;clear F Q da dD bL bO
         have dD:f.cell? (Z gx 15)=some (.slice (j_ gb) k tc):=by rw[<-a.out];exact(z.x.f_ 15).trans rfl
         have ct:f.cell? (Z gb (i*48+42))=some (Y (ts[i]).h9):=(hR.f_ hi 42 O).trans rfl;have ek:=du.out.tf bl.out.val MV.2.1;have bS:=U (show ∀t∈ts,TF t.p/\(t.h9=0->Way m.l t.p) from λt ht=>ek _ (FQ.2 ⟨t,ht,rfl⟩));have em:=du.out.EL bl.out.val MV.2.1 (bl.out.cm.EL bl.out.val X) dV X;have dt:=U (show ∀t∈ts,TG mQ t.p/\0<=t.p.run/\t.p.run<=1000000016 from λt ht=>em _ (FQ.2 ⟨t,ht,rfl⟩));clear ek em;obtain⟨ax,cn⟩:=nm_ f;rw[<-cn]at z hR dD ct |-;clear cn
         by_cases bI:(ts[i]).h9=0
         .rw[bI]at ct;have dU:=U bI;clear bI
          go_upto_region 32 with fail
          have cU:=U (show ∀t1:Tk,t1.p=jd m.l m.hH m.hC m.d (ts[i]).p (nB (hX m.s.h.l) (ts.map Tk.p) i)->wJ m.l m.hH m.hC m.d m.s.p.h m.run (j+1) ((ts.set i t1).map Tk.p) from λt1 hp=>by
           have cy:=wJ.step (l:=m.l) (hH:=m.hH) (hC:=m.hC) (d:=m.d) i (zu hi) du.out (by rw[G9];exact dU.out);rw[List.map_set,hp];rw[G9]at cy
           exact cy)
          refine hN (λw'=>w'.cell? (Z gx 0)=some (.slice m.A m.l.length m.c)/\w'.cell? (Z gx 1)=some (Y m.hH)/\w'.cell? (Z gx 2)=some (Y m.hC)/\w'.cell? (Z gx 4)=some (.slice m.dA m.d.length m.dc)/\w'.cell? (Z gx 5)=some (.slice m.s.h.A m.s.h.l.length m.s.h.c)/\w'.cell? (Z gx 15)=some (.slice (j_ gb) k tc)) 25 k_ ?_;obtain⟨u,M⟩:=nm_ ax.drew;rw[<-M]
          replace z:MW w B g gr gx ({m with run:=m.run+k,tA:=(j_ gb),tc:=tc,ts:=ts}:Md) u:=by rw[M];exact z.hF (H [] ax).drew
          replace hR:pf u gb cur ts:=by rw[M];exact⟨hR.bk.hF (H [] ax).drew,hR.row⟩
          clear M dD ct;have dr:=H [] u;have ck:=z.x;have C:u.cell? (Z gx 0)=some (.slice m.A m.l.length m.c)/\u.cell? (Z gx 1)=some (Y m.hH)/\u.cell? (Z gx 2)=some (Y m.hC)/\u.cell? (Z gx 4)=some (.slice m.dA m.d.length m.dc)/\u.cell? (Z gx 5)=some (.slice m.s.h.A m.s.h.l.length m.s.h.c)/\u.cell? (Z gx 15)=some (.slice (j_ gb) k tc):=⟨(ck.f_ 0).trans rfl,(ck.f_ 1).trans rfl,(ck.f_ 2).trans rfl,(ck.f_ 4).trans rfl,(ck.f_ 5).trans rfl,(by rw[<-a.out];exact(ck.f_ 15).trans rfl)⟩
          have dx:Hid (∀w',I [] u w'->Calls prog 40 #[.agg #[.slice m.s.h.A m.s.h.l.length m.s.h.c],.slice (j_ gb) k tc,Y i] w' (mt (nB (hX m.s.h.l) (ts.map Tk.p) i) w')):=U (by
           intro w' hg;have h:=Ae m.s.h.A m.s.h.c m.s.h.l (j_ gb) tc ts i w' (z.i.s.h.hF hg) X (z.i.ts.hF hg) (by rw[a.out];omega) (λt ht=>(bS.out t ht).1.sm) X;rw[a.out]at h
           exact h)
          have bE:Hid (∀(aH:OA) (vc:Nat) (b:List Rw) (w':World),I [] u w'->my w' aH vc b->hX b=nB (hX m.s.h.l) (ts.map Tk.p) i->Calls prog 39 #[.agg #[.slice m.A m.l.length m.c,Y m.hH,Y m.hC],.agg #[.slice m.dA m.d.length m.dc],.agg (ts[i]).g_,.agg #[.slice aH b.length vc]] w' (ni (jd m.l m.hH m.hC m.d (ts[i]).p (nB (hX m.s.h.l) (ts.map Tk.p) i)) 0 w')):=U (by
           intro aH vc b w' hg hv ho;have d0:=O_ hi;obtain⟨bM,ce⟩:=bS.out _ d0;have cR:=ce dU.out;have cO:=cR.lo;have eX:=cR.hi;have bn:=cR.s0;have cH:=bM.s1;obtain⟨_,bW,r1⟩:=dt.out _ d0
           have iN:b.length<=99999999:=by
            have aN:=h7 b;rw[ho]at aN
            have aK:=vr ((ts.map Tk.p).take (i:Int).toNat) (hX m.s.h.l) (n:=500000) (λt ht=>by
             obtain⟨cl,hu,rfl⟩:=FQ.1 (Gp ht)
             exact(bS.out cl hu).1.sm.nw)
            have bQ:=h7 m.s.h.l
            have b8:((ts.map Tk.p).take (i:Int).toNat).length<=16:=by
             rw[Gj,Ge,a.out];omega
            unfold nB at aN;omega
           have h:=un m.A m.c m.l m.hH m.hC m.dA m.dc m.d (ts[i]) aH vc b w' (Sl.hF z.i.l hg) X (Sl.hF z.i.d hg) X ((z.i.ts.yO _ d0).hF hg) hv dQ.out dU.out bM.sm iN cO (by have e:(ts[i]).p.pc=(ts[i]).pc:=rfl;omega) bW (by have e:(ts[i]).p.run=(ts[i]).run:=rfl;omega) bn (by have e:(ts[i]).p.hK=(ts[i]).hK:=rfl;omega);rw[ho]at h
           exact h)
          have aP:i*48+48<=cur.size:=by
           have L:=hR.size;rw[a.out]at L;omega
          (iterate 11 refine jQ C ?_)
          refine iv 12 C ?_;refine iv 13 C ?_;refine iv 14 C ?_;refine iv 15 C ?_;refine iv 16 C ?_;refine iv 17 C ?_;refine ji 11 18 rfl rfl k_ (λK MY=>?_) (λK MY=>?_)
          .rw[U_ r_];refine oN 53 _ rfl gb (i*48) r_ 53 cur (ts[i]).g_ hR.bk (hR.at hi) _ underlying53 rfl k_ ?_
           refine h4 MY C λC=>?_
           clear MY K
           refine hZ 18 λK MY=>?_
           go_simp
           (go_at_call 40;((with_reducible refine(dx.out _ dr).mono ?_));unfold mt;rintro e d5⟨aH,vc,b,rfl,dm,c9,D⟩)
           clear C
           refine h4 MY (by
            have hx:=(z.hF D).x
            exact⟨(hx.f_ 0).trans rfl,(hx.f_ 1).trans rfl,(hx.f_ 2).trans rfl,(hx.f_ 4).trans rfl,(hx.f_ 5).trans rfl,(by rw[<-a.out];exact(hx.f_ 15).trans rfl)⟩) λC=>?_
           exact Ip
          .go_simp
           (go_at_call 40;((with_reducible refine(dx.out _ dr).mono ?_));unfold mt;rintro e d5⟨aH,vc,b,rfl,dm,c9,D⟩)
           clear C
           refine h4 MY (by
            have hx:=(z.hF D).x
            exact⟨(hx.f_ 0).trans rfl,(hx.f_ 1).trans rfl,(hx.f_ 2).trans rfl,(hx.f_ 4).trans rfl,(hx.f_ 5).trans rfl,(by rw[<-a.out];exact(hx.f_ 15).trans rfl)⟩) λC=>?_
           clear MY K
           refine hZ 11 λK MY=>?_
           rw[U_ r_];refine oN 53 _ rfl gb (i*48) r_ 53 cur (ts[i]).g_ (hR.bk.hF D) (hR.at hi) _ underlying53 rfl k_ ?_
           refine h4 MY C λC=>?_
           exact Ip
         .have bU:((ts[i]).h9==0)=false:=by simp[bI]
          obtain⟨st,dk⟩:=mn_ ((ts[i]).h9);rw[dk]at ct bU;clear bI dk bS dt;go_wp2;go_roundw
          case rel=>exact⟨n-1,j,ts,rfl,X,X,a.out,z,du.out,.inr ⟨gb,cur,rfl,aM,hR⟩⟩
          case measure=>exact mz
       .have bo:(0<n)=False:=by simp[hp]
        clear ao;exact IX
