import Derived.Test.YtenbhdilndfaeaaGreatM35
set_option maxRecDepth 100000
set_option maxHeartbeats 0
set_option linter.all false
namespace Go.Proofs.YtenbhdilndfaeaaGreat
open Go.RowKit Go.Proofs.Tryz
variable{G:Prop}{k:Nat}{m:Md}{s:Cm}
theorem Kx(h:G:=by
 clear H K
 refine hQ 19 λK H=>?_
 go_simp
 (go_at_call 39;((with_reducible refine(b3.out aQ vc b d1 fo dj cR).mono ?_));unfold mR;rintro e ws⟨t1,rfl,bQ,cQ,M⟩)
 clear C
 refine hS H (by
  have I:=(z.g_ (fo.trans M)).x
  exact⟨(I.f_ 0).trans rfl,(I.f_ 1).trans rfl,(I.f_ 2).trans rfl,(I.f_ 4).trans rfl,(I.f_ 5).trans rfl,(by rw[<-a.out];exact(I.f_ 15).trans rfl)⟩) λC=>?_
 clear H K;refine ih 20 C ?_;refine ih 21 C ?_;refine ih 23 C ?_;refine i6 22 24 rfl rfl k_ (λK H=>?_) (λK H=>?_)
 .go_simp
  refine hS H C λC=>?_
  clear H K
  refine hQ 24 λK H=>?_
  rw[Q_ r_];refine jq 53 _ _ rfl gb (i*48) r_ t1.g8 r_ 53 _ (hR.bk.g_ (fo.trans M)) au k_ (Tk.one _) ?_;intro bq cv aw;clear C
  refine hS H (by
   have I:=(z.g_ (fo.trans M)).x.gr aw (by simpa using((hR.bk.g_ (fo.trans M)).lF (z.g_ (fo.trans M)).x d_).symm)
   exact⟨(I.f_ 0).trans rfl,(I.f_ 1).trans rfl,(I.f_ 2).trans rfl,(I.f_ 4).trans rfl,(I.f_ 5).trans rfl,(by rw[<-a.out];exact(I.f_ 15).trans rfl)⟩) λC=>?_
  exact KG
 .rw[Q_ r_];refine jq 53 _ _ rfl gb (i*48) r_ t1.g8 r_ 53 _ (hR.bk.g_ (fo.trans M)) au k_ (Tk.one _) ?_;intro bq cv aw;clear C
  refine hS H (by
   have I:=(z.g_ (fo.trans M)).x.gr aw (by simpa using((hR.bk.g_ (fo.trans M)).lF (z.g_ (fo.trans M)).x d_).symm)
   exact⟨(I.f_ 0).trans rfl,(I.f_ 1).trans rfl,(I.f_ 2).trans rfl,(I.f_ 4).trans rfl,(I.f_ 5).trans rfl,(by rw[<-a.out];exact(I.f_ 15).trans rfl)⟩) λC=>?_
  clear H K
  refine hQ 22 λK H=>?_
  go_simp
  refine hS H C λC=>?_
  exact KG):G:=h
theorem Gl(h:G:=by
 refine hQ 8 λK H=>?_
 go_simp
 (go_at_call 49;((with_reducible refine(nR m.A m.c m.l m.hq m.g9 xs[k] (m.run+k) ia _ z.i.l o_ o_ o_ o_ o_).mono ?_));unfold mR;rintro e aG⟨t0,rfl,a6,cG,aO⟩)
 replace z:=z.g_ aO;replace HG:Gr [g] wr aG:=HG.trans (aO.of_nil [g]);replace hb:=hb.g_ aO;clear C;have C:aG.cell? (c_ gx 0)=some (.slice m.A m.l.length m.c)/\aG.cell? (c_ gx 1)=some (i_ m.hq)/\aG.cell? (c_ gx 2)=some (i_ m.g9)/\aG.cell? (c_ gx 16)=some (i_ (m.run+k)):=⟨(z.x.f_ 0).trans rfl,(z.x.f_ 1).trans rfl,(z.x.f_ 2).trans rfl,(z.x.f_ 16).trans rfl⟩;clear aO
 refine hS H C λC=>?_
 clear H K
 repeat refine jR C ?_
 exact Gy):G:=h
theorem Gy(h:G:=by
 refine hQ 13 λK H=>?_
 rw[Q_ r_];refine h4 53 _ _ rfl x r_ t0.g8 r_ 53 _ hb rfl k_ (Tk.one _) ?_;intro bn bB o
 have a8:bn.cell? (c_ gx 0)=some (.slice m.A m.l.length m.c)/\bn.cell? (c_ gx 1)=some (i_ m.hq)/\bn.cell? (c_ gx 2)=some (i_ m.g9)/\bn.cell? (c_ gx 16)=some (i_ (m.run+k)):=by
  have cp:=z.x.gr o (by have:=hb.lF z.x d_;simpa using this.symm);exact⟨(cp.f_ 0).trans rfl,(cp.f_ 1).trans rfl,(cp.f_ 2).trans rfl,(cp.f_ 16).trans rfl⟩
 clear C;have C:=a8;clear a8
 refine hS H C λC=>?_
 clear H K
 refine hQ 14 λK H=>?_
 go_simp
 refine hS H C λC=>?_
 clear H K;refine hA k_ ?_ _;go_wp2;go_meet;exact⟨t0,x,ia,rfl,bB,a6.ig hb d_ o,cG,z.d.h7 o (λy hy=>by rw[R_]at hy;rw[hy];exact F_ z.hB (F_ dU cT)),HG.hx o (λy hy=>.inr (by rw[R_]at hy;rw[hy];exact cT))⟩):G:=h
theorem KG(h:G:=by
 clear H K;refine hA k_ ?_ _;have v:=hR.set (w':=bq) hi t1 cv
 have cZ:=((z.g_ (fo.trans M)).row (hR.bk.g_ (fo.trans M)) aw o (ts:=ts.set i t1) s_ v.sl (λt X=>by
  rcases Ee X with X|rfl
  .exact(z.i.ts.AF t X).g_ (fo.trans M)
  .exact bQ))
 have az:=h_ cQ;clear z hR C cQ b3 dr dm bX au bQ fo M dj cR cv aw;go_wp2;go_roundw
 case rel=>exact⟨n-1,j+1,ts.set i t1,rfl,by omega,by omega,by rw[Eb];exact a.out,cZ,cU.out t1 az.out,.inr ⟨gb,_,rfl,o,v⟩⟩
 case measure=>simp[intOf];omega):G:=h
theorem GQ(h:G:=by
 go_wp2_with (first|(refine kJ z.x underlying43 ?_)|(refine kG (({m with run:=m.run+k,tA:=tA,tc:=tc,ts:=ts}:Md).g8) z.r (Md.one _) ?_;intro bq v aw))
 obtain⟨aS,aX,z3⟩:=z.fin aw;exact rr_ ({m with run:=m.run+k,tA:=tA,tc:=tc,ts:=ts}:Md).g8 v underlying43 (by rw[aD.out];exact⟨({m with run:=m.run+k,tA:=tA,tc:=tc,ts:=ts}:Md),rfl,aS,⟨bg.out.val,bg.out.dv,df,m.run,ep,bg.out.cm,.inr ⟨dk.out,(by show m.run+(k:Int)=m.run+(ts.length:Int);rw[a.out]),j,by omega,dq.out⟩⟩,aX,z3⟩)):G:=h
theorem HO(h:G:=by
 go_wp2_with (first|(refine kJ z.x underlying43 ?_)|(refine kG (m.g8) z.r (Md.one _) ?_;intro bq v aw))
 obtain⟨aS,aX,z3⟩:=z.fin aw;exact rr_ m.g8 v underlying43 (by rw[aD.out];exact⟨m,rfl,aS,cK.out,aX,z3⟩)):G:=h
theorem infoTk:(prog.info? 53).map (λi=>(i.zero,i.size,i.bytes))=some (some (.agg Tk.zero.g8),48,480):=by kernel_rfl
structure L1(k:Nat)(m:Md):Prop where
 val:hZ m.l m.hq m.g9=true
 dv:m.d.Sublist (ku m.l m.hq m.g9)
 ts:m.ts=[]
 tn:m.tA=none/\m.tc=0
 cm:vT m.l m.hq m.g9 m.d m.lr k m.run m.s.p
theorem L1.m0(h:L1 k m):({m with run:=m.run+((0:Nat):Int),tA:=none,tc:=0,ts:=[]}:Md)=m:=by
 have h1:=h.ts;obtain⟨h2,h3⟩:=h.tn;obtain⟨a1,f,a3,a4,a5,a,o,b,a9,c,d,e,g,i,j,l⟩:=m;simp only at h1 h2 h3;subst h1;subst h2;subst h3;simp
theorem L1.ask(h:L1 k m)(he:m.s.jt=false)(h0:(oN m.l m.hq m.g9 m.lr m.s.p).2=0)(hs:s.p=(oN m.l m.hq m.g9 m.lr m.s.p).1):L1 (k+1) {m with s:=s}:=
 ⟨h.val,h.dv,h.ts,h.tn,by show vT _ _ _ _ _ (k+1) m.run s.p;rw[hs];exact h.cm.ask he h0⟩
theorem L1.commit(h:L1 k m)(he:m.s.jt=false)(h0:(oN m.l m.hq m.g9 m.lr m.s.p).2≠0)(hs:s.p=(kW true m.s.p (p9 m.l m.hq m.g9 m.d m.s.p m.run)).1):L1 (k+1) {m with s:=s,run:=m.run+1}:=
 ⟨h.val,h.dv,h.ts,h.tn,by show vT _ _ _ _ _ (k+1) (m.run+1) s.p;rw[hs];exact h.cm.commit he h0⟩
theorem vk(B g:Nat)(w:World)(hd:iE w B g)(hB:B<=w.heap.size):
 Calls prog 11 #[q_ g] w (Ao B g w):=by
 refine hX λQ aD=>?_
 obtain⟨bz,bw,br,bi,bf⟩:=info_parts infoTk;obtain⟨W,gr,aZ,F,aV,hR⟩:=box1 w 43 #[n_,i_ 0,i_ 0,n_,n_,n_,i_ 0,i_ 0,n_,.bool false,.bool false,.bool false,i_ 0,i_ 0,i_ 0,n_,i_ 0]
 go_enter func11,ntmps11
 go_upto_region 2 with(first
  |(go_at_call 44;refine(z_ B g _ (hd.g_ aV) (F_ hB aV.size)).mono ?_;unfold BH;rintro e w1⟨A,c,l,hq,g9,rfl,hl,hv,Z,bh,hg1⟩)
  |(go_at_call 45;refine(xK B g _ bh (F_ hB (F_ aV.size hg1.size))).mono ?_;rintro e w2⟨aA,ac,lr,rfl,cW,eh,ct,ad⟩)
  |(refine wpList_build rfl _ _ rfl #[(0,.agg #[.slice A l.length c,i_ hq,i_ g9]),(1,.agg #[.slice aA lr.length ac])] k_ _ (vC _ _ _ _ _ rfl _) ?_))
 obtain⟨aJ,gx,ci,aM,S,L⟩:=box1 w2 43 #[.slice A l.length c,i_ hq,i_ g9,.slice aA lr.length ac,n_,n_,i_ 0,i_ 0,n_,.bool false,.bool false,.bool false,i_ 0,i_ 0,i_ 0,n_,i_ 0];rw[ci,aM];obtain⟨m,Y⟩:=nm_ (⟨A,c,l,hq,g9,aA,ac,lr,none,0,[],Cm.zero,none,0,[],0⟩:Md)
 have z:MW w B g gr gx m aJ:=by
  obtain⟨dc,bt⟩:=bh.bk;have hbg:=bh.vl;have bT:=aV.size;have b9:=hg1.size;have cy:=ad.size;have aj:=hR.lt
  have n1:gr≠g:=by omega
  have cr:=((hR.gr hg1 (by simpa using n1)).gr ad (by simpa using n1)).g_ S;refine⟨cr,by rw[Y];exact L,?_,ct.g_ S,((aV.of_nil [g]).trans (hg1.trans ad)).trans (S.of_nil [g]),hB,by omega,by omega,by omega⟩;subst Y;exact⟨Sl.g_ (Sl.ig hl bt d_ ad) S,Sl.g_ eh S,cW,EM _ _ _ _,G_ _,lN.zero _ _ rfl rfl,⟨EM _ _ _ _,λt X=>by cases X⟩⟩
 have dX:hZ m.l m.hq m.g9=true:=by rw[Y];exact hv
 have ew:m.ts=[]:=by rw[Y]
 have de:m.run=0:=by rw[Y]
 have er:m.tA=none/\m.tc=0:=by rw[Y];exact⟨rfl,rfl⟩
 clear Y L aM S hl cW eh ct ad Z bh hg1 hR F aV hd hv aZ;have J:=kO dX
 go_upto_region 3 with(first
  |(refine ip rfl 26 _ rfl gx 0 r_ 43 m.g8 #[.slice m.A m.l.length m.c,i_ m.hq,i_ m.g9] z.x (m.code) _ underlying26 rfl k_ ?_)
  |(go_at_call 46;refine(ux B g m.A m.c m.l m.hq m.g9 _ z.i.l o_ z.d (F_ z.hB z.g.size)).mono ?_;unfold Aq;rintro e T⟨dA,dc,d,rfl,c7,dH,c9,ce,af⟩)
  |(refine i0 rfl 32 _ _ rfl gx 4 r_ (#[.slice dA d.length dc]) r_ 43 m.g8 (z.dice af ce).x (by first|decide|(simp[Md.g8,Cm.g8])) k_ (by simp[Value.oneCell']) ?_;intro ae eF dt))
 replace z:=z.dice af ce;have cY:MW w B g gr gx {m with dA:=dA,d:=d,dc:=dc} ae:=z.set dt eF (λhi=>⟨hi.l,hi.lr,hi.al,Sl.ig c7 z.x d_ dt,dH,hi.s,hi.ts⟩);clear z dt eF c7 dH af ce;obtain⟨O,bo⟩:=nm_ ({m with dA:=dA,d:=d,dc:=dc});rw[<-bo]at cY
 have dK:hZ O.l O.hq O.g9=true:=by rw[bo];exact dX
 have ey:O.ts=[]:=by rw[bo];exact ew
 have ev:O.run=0:=by rw[bo];exact de
 have eu:O.tA=none/\O.tc=0:=by rw[bo];exact er
 have ej:O.d.Sublist (ku O.l O.hq O.g9):=by rw[bo];exact c9
 clear bo dX ew de er c9 J;have J:=kO dK
 go_upto_region 4 with(first
  |(refine ip rfl 26 _ rfl gx 0 r_ 43 O.g8 #[.slice O.A O.l.length O.c,i_ O.hq,i_ O.g9] cY.x (O.code) _ underlying26 rfl k_ ?_)
  |(go_at_call 47;refine(vD O.A O.c O.l O.hq O.g9 _ cY.i.l o_).mono ?_;unfold uf;rintro e aF⟨s,rfl,hs,du,aC⟩)
  |(refine i0 rfl 40 _ _ rfl gx 5 r_ (s.g8) r_ 43 O.g8 (cY.g_ aC).x (by first|decide|(simp[Md.g8,Cm.g8])) k_ (Cm.one _) ?_;intro aG dM dh))
 replace cY:=cY.g_ aC;have cx:MW w B g gr gx {O with s:=s} aG:=cY.set dh dM (λhi=>⟨hi.l,hi.lr,hi.al,hi.d,hi.dl,hs.ig cY.x d_ dh,hi.ts⟩);obtain⟨dg,dV⟩:=nm_ ({O with s:=s});rw[<-dV]at cx
 have d7:L1 0 dg:=by
  rw[dV];refine⟨dK,ej,ey,eu,?_⟩
  show vT _ _ _ _ _ 0 O.run s.p
  rw[ev,du,dK];exact .hG
 clear cY dh dM hs du aC dV dK ey ev eu ej J;have d4:=h_ d7;clear d7;obtain⟨bR,gq,dG,cl,aW,d9⟩:=box1 aG 96 #[n_];have bU:=cx.g_ aW;have eb:MQ w gq none [] 0 bR:=⟨d9,EM _ _ _ _,by have:=cx.g.size;omega⟩;clear cx aW d9
 go_upto_region 6 with(go_at_call 19;refine(h8 B g 9 _ bU.d d_ d_).mono ?_;rintro e ag⟨n0,rfl,hn0,hn1,aR,G⟩)
 obtain⟨da,ei⟩:=bU.d.bk;have aN:=bU.dice G aR;have ea:=eb.one ei d_ d_ G;clear bU eb ei aR G
 go_loopw [5] (λar wr=>∃(n:Int) (k:Nat) (m:Md) (sA:Option Addr) (fl:List Fo) (sc:Nat),ar=i_ n/\0<=n/\n+k<=8/\MW w B g gr gx m wr/\MQ w gq sA fl sc wr/\L1 k m/\BI k fl) (λar _=>(intOf ar).toNat)
 case atStart=>exact⟨n0,0,dg,none,[],0,rfl,hn0,by omega,aN,ea,d4.out,⟨G_ _,λf hf=>(by cases hf),λf hf=>(by cases hf)⟩⟩
 case round=>
  clear aN ea d4 hn0 hn1;obtain⟨n,k,m,sA,fl,sc,rfl,hn0,eA,z,ah,hL,ai⟩:=hrel;have ax:wr.cell? (c_ gx 9)=some (.bool m.s.jt):=(z.x.f_ 9).trans rfl
  cases bj:m.s.jt with
  |true=>
   rw[bj]at ax;have cK:=h_ (show Co m from⟨hL.val,hL.dv,k,m.run,by omega,hL.cm,.inl ⟨bj,hL.ts,rfl⟩⟩);clear hL ai bj
   by_cases hp:0<n
   .have bp:(0<n)=True:=by simp[hp]
    exact HO
   .have bp:(0<n)=False:=by simp[hp]
    exact HO
  |false=>
   rw[bj]at ax
   by_cases hp:0<n
   .have bp:(0<n)=True:=by simp[hp]
    have hcb:=hL.cm.cb hL.val;have J:=kO hL.val
    have b1:m.s.h.l.length<=4000002:=by have h1:=hcb.1.h;have e:m.s.p.h.length=m.s.h.l.length:=hW _;omega
    have b2:m.s.hU.l.length<=4000000:=by have h1:=hcb.1.hU;have e:m.s.p.hU.length=m.s.hU.l.length:=rfl;omega
    have dE: -1<=m.s.hG:=hcb.1.st0;have dx:m.s.hG<=3000:=hcb.1.st1;have et:0<=m.s.hw:=hcb.1.p0
    have dT:m.s.hw<=100000:=by have h1:=hcb.1.p1;have e:m.s.p.hw=m.s.hw:=rfl;omega
    have dy:0<=m.s.ja:=hcb.1.a0
    have eg:m.s.ja<=8:=by have h1:=hcb.1.a1;have e:m.s.p.ja=m.s.ja:=rfl;omega
    have eN:0<=m.s.iH:=hcb.1.t0
    have eL:m.s.iH<=8:=by have h1:=hcb.1.t1;have e:m.s.p.iH=m.s.iH:=rfl;omega
    have dS:0<=m.run:=hcb.2.1
    have eM:m.run<=8:=by have h1:=hcb.2.2;omega
    obtain⟨⟨P,N⟩,cV⟩:∃q,q=oN m.l m.hq m.g9 m.lr m.s.p:=⟨_,rfl⟩;have a2:=h_ cV;have bg:=h_ hL;have dk:=h_ bj;clear cV hcb hL bj
    go_upto_region 9 with(first|(refine ip rfl 26 _ rfl gx 0 r_ 43 m.g8 #[.slice m.A m.l.length m.c,i_ m.hq,i_ m.g9] z.x (m.code) _ underlying26 rfl k_ ?_)|(refine ip rfl 29 _ rfl gx 3 r_ 43 m.g8 #[.slice m.aA m.lr.length m.ac] z.x (m.world) _ underlying29 rfl k_ ?_)|(refine ip rfl 40 _ rfl gx 5 r_ 43 m.g8 m.s.g8 z.x (m.com) _ underlying40 rfl k_ ?_)|(go_at_call 48;have ak:=yD m.A m.c m.l m.hq m.g9 m.aA m.ac m.lr m.s _ z.i.l o_ z.i.lr (by have:=z.i.al;omega) z.i.s o_ o_ o_ o_ o_ o_ o_ o_;rw[<-a2.out]at ak;refine ak.mono ?_;clear ak;unfold uf;rintro e T⟨s,rfl,hs,du,af⟩)|(refine kG (s.g8) (L_ T 40 #[n_,i_ 0,i_ 0,n_,.bool false,.bool false,.bool false,i_ 0,i_ 0,i_ 0]) (Cm.one _) ?_;intro ae bO am))
    have ca:Gr [] T ae:=((D_ [] T).alloc _).jz am (G_ _);replace z:=z.g_ (af.trans ca);replace ah:=ah.g_ (af.trans ca);replace hs:=hs.g_ ca;clear af ca am ax;generalize T.heap.size=aT at*
    by_cases h0:N=0
    .have bI:(N==0)=true:=by simp[h0]
     have dQ:=h_ (bg.out.ask dk.out (by rw[<-a2.out];exact h0) (s:=s) (by rw[<-a2.out];exact du));clear h0 bg a2 dk du
     go_wp2_with (first|(refine kJ bO underlying40 ?_)|(refine i0 rfl 40 _ _ rfl gx 5 r_ (s.g8) r_ 43 m.g8 z.x (by first|decide|(simp[Md.g8,Cm.g8])) k_ (Cm.one _) ?_;intro aG dM dh))
     go_roundw
     case rel=>exact⟨n-1,k+1,{m with s:=s},sA,fl,sc,rfl,by omega,by omega,z.set dh dM (λhi=>⟨hi.l,hi.lr,hi.al,hi.d,hi.dl,hs.ig z.x d_ dh,hi.ts⟩),ah.one z.x d_ d_ dh,dQ.out,ai.mono o_⟩
     case measure=>simp[intOf];omega
    .have bI:(N==0)=false:=by simp[h0]
     have cf:=h_ h0;clear h0 du hs bO;have bl:ae.cell? (c_ gx 6)=some (i_ m.s.hG):=(z.x.f_ 6).trans rfl;have dN:ae.cell? (c_ gx 16)=some (i_ m.run):=(z.x.f_ 16).trans rfl;have bG:=h_ (show p9 m.l m.hq m.g9 m.d m.s.p m.run=zl m.l m.hq m.g9 m.d m.s.p.h (jJ m.l m.hq m.g9 m.s.hG m.run true).1 from rfl)
     go_upto_region 12 with(first|(refine ip rfl 26 _ rfl gx 0 r_ 43 m.g8 #[.slice m.A m.l.length m.c,i_ m.hq,i_ m.g9] z.x (m.code) _ underlying26 rfl k_ ?_)|(go_at_call 49;((with_reducible refine(nR m.A m.c m.l m.hq m.g9 m.s.hG m.run true _ z.i.l o_ o_ o_ o_ o_).mono ?_));unfold mR;rintro e aF⟨t0,rfl,a6,cG,aC⟩)|(refine kG (t0.g8) (L_ aF 53 lp) (Tk.one _) ?_;intro aG cn aO))
     have eS:w.heap.size<=aF.heap.size:=F_ z.g.size aC.size;have cw:Gr [] aF aG:=((D_ [] aF).alloc _).jz aO (G_ _);replace z:=z.g_ (aC.trans cw);replace ah:=ah.g_ (aC.trans cw);have bQ:=a6.g_ cw;have d2:=z.x.hm 16;replace dN:aG.cell? (c_ gx 16)=some (i_ m.run):=(z.x.f_ 16).trans rfl;clear aC cw aO a6 bl;generalize aF.heap.size=cX at*
     go_upto_region 13 with fail
     have M:Gr [gx] aG (aG.setCell (c_ gx 16) (i_ (m.run+1))):=(D_ [gx] aG).setCell (.inl s_) _;have ek:cX≠gx:=cn.lF z.x d_;replace cn:=cn.gr M (by simpa using ek);replace bQ:=bQ.ig z.x d_ M;replace ah:=ah.one z.x d_ d_ M;have bU:MW w B g gr gx ({m with run:=m.run+1}:Md) (aG.setCell (c_ gx 16) (i_ (m.run+1))):=z.set M (z.x.hJ 16 _) (λhi=>⟨hi.l,hi.lr,hi.al,hi.d,hi.dl,hi.s,hi.ts⟩);clear dN d2 z M ek;have z:=bU;clear bU;obtain⟨bJ,cI⟩:=nm_ (aG.setCell (c_ gx 16) (i_ (m.run+1)));rw[<-cI]at z ah bQ cn |-;clear cI;have dO:=h_ (s3 bg.out.val bg.out.dv);have dH:=t8 bg.out.val bg.out.dv;have dC:=h_ cG;have b5:=nC m.l m.hq m.g9 m.s.hG m.run true;rw[<-cG]at b5
     have bu:0<=t0.run:=by have e:t0.p.run=t0.run:=rfl;omega
     have bD:t0.run<=1099511627776:=by have e:t0.p.run=t0.run:=rfl;omega
     have d6:=h_ (show t0.hV=0->Way m.l t0.p from λ_=>by rw[cG];exact nB);clear cG b5
     go_upto_region 14 with(first|(refine ip rfl 26 _ rfl gx 0 r_ 43 ({m with run:=m.run+1}:Md).g8 #[.slice m.A m.l.length m.c,i_ m.hq,i_ m.g9] z.x (Md.code _) _ underlying26 rfl k_ ?_)|(refine ip rfl 32 _ rfl gx 4 r_ 43 ({m with run:=m.run+1}:Md).g8 #[.slice m.dA m.d.length m.dc] z.x (Md.div _) _ underlying32 rfl k_ ?_)|(refine ip rfl 35 _ rfl gx 5 r_ 43 ({m with run:=m.run+1}:Md).g8 #[.slice m.s.h.A m.s.h.l.length m.s.h.c] z.x (Md.heap _) _ underlying35 rfl k_ ?_)|(refine kJ cn underlying53 ?_)|(go_at_call 50;((with_reducible refine(x1 m.A m.c m.l m.hq m.g9 m.dA m.dc m.d t0 m.s.h.A m.s.h.c m.s.h.l _ z.i.l o_ z.i.d o_ bQ z.i.s.h dO.out o_ bu bD d6.out).mono ?_));unfold mR;rintro e ag⟨t1,rfl,E,cQ,G⟩)|(refine kG (t1.g8) (cn.g_ G) (Tk.one _) ?_;intro bS c6 aI))
     replace z:=(z.g_ G).one (cn.g_ G) d_ (.inr bg.out.ts) d_ eS aI;replace ah:=(ah.g_ G).one (cn.g_ G) d_ d_ aI;replace E:=E.ig (cn.g_ G) d_ aI;clear cn G aI bQ d6 bu bD;have c6:=c6
     have dL:t1.p=p9 m.l m.hq m.g9 m.d m.s.p m.run:=by rw[cQ,bG.out,dC.out];rfl
     clear cQ;have cM:=h_ bg.out.val;have bK:=h_ (show TF t1.p by rw[dL];exact ua bg.out.val J.2.1 _ _);have dn:Hid (TG j9 t1.p):=h_ (by rw[dL];exact s5 bg.out.val J.2.1 (bg.out.cm.Dc bg.out.val o_) dS o_);have eH:=h_ (show ∀r∈t1.nw.l,j9 r.o.id from λr hr=>(dn.out.nw r.o (D2.2 ⟨r,hr,rfl⟩)).1);have eJ:=h_ (show ∀c∈t1.ws.l,j9 c.id from λc hc=>(dn.out.ws c hc).1.elim id (λe=>e▸wf64_1));have eI:=h_ dL;clear dL dn bG dC;have hn0: -1<=t1.next:=bK.out.n0;have eV:t1.next<=3000:=bK.out.n1;have ck:bS.cell? (c_ cX 42)=some (i_ t1.hV):=(c6.f_ 42).trans rfl
     go_upto_if 89 with fail
     go_cut [7] (λ_ a7=>∃(dZ:Option Addr) (dD:List Fo) (d0:Nat),MW w B g gr gx ({m with run:=m.run+1}:Md) a7/\MQ w gq dZ dD d0 a7/\BI (k+1) dD/\Bk a7 cX 53 t1.g8/\kY a7 t1)
     case first=>
      by_cases b9:t1.hV=2
      .have bP:(t1.hV==2)=true:=by simp[b9]
       have z0:bS.cell? (c_ cX 0)=some (i_ t1.hG):=(c6.f_ 0).trans rfl;have d3:bS.cell? (c_ cX 43)=some (i_ t1.next):=(c6.f_ 43).trans rfl;have bM:bS.cell? (c_ gq 0)=some (.slice sA fl.length sc):=(ah.q.f_ 0).trans rfl;clear b9
       go_wp2_with (first|(go_at_call 51;((with_reducible refine(xS sA sc fl t1.hG t1.next _ ah.f (by have:=ai.len;omega) (λf hf=>by have:=ai.n f hf;omega)).mono ?_));unfold xz;rintro e bn⟨ay,bm,rfl,eO,ct,o⟩)|(refine kG (#[.slice ay (k2 fl t1.hG t1.next).length bm]) (ah.q.g_ o) (by simp[Value.oneCell']) ?_;intro wc Bd bF))
       go_meet;have dF:=ah.g_ o;exact⟨ay,k2 fl t1.hG t1.next,bm,(z.g_ o).one dF.q d_ (.inl d_) d_ ah.b bF,⟨Bd,Sl.ig eO dF.q d_ bF,ah.b⟩,ai.Ct _ _ hn0 eV,(c6.g_ o).gr bF (by simpa using(c6.g_ o).lF dF.q d_),(E.g_ o).ig dF.q d_ bF⟩
      .have bP:(t1.hV==2)=false:=by simp[b9]
       clear b9;go_wp2;go_meet;exact⟨sA,fl,sc,z,ah,ai.mono o_,c6,E⟩
     case rest=>
      obtain⟨dZ,dD,d0,cj,eP,dz,eR,cC⟩:=hcut;clear z ah ai c6 E ck;have z:=cj;have E:=cC;clear cj cC
      go_wp2_with (first|(refine ip rfl 26 _ rfl gx 0 r_ 43 ({m with run:=m.run+1}:Md).g8 #[.slice m.A m.l.length m.c,i_ m.hq,i_ m.g9] z.x (Md.code _) _ underlying26 rfl k_ ?_)|(refine ip rfl 40 _ rfl gx 5 r_ 43 ({m with run:=m.run+1}:Md).g8 m.s.g8 z.x (Md.com _) _ underlying40 rfl k_ ?_)|(refine kJ eR underlying53 ?_)|(go_at_call 52;have dP:=uz m.A m.c m.l m.hq m.g9 m.s t1 _ z.i.l o_ z.i.s E bK.out.sm o_ o_ eH.out eJ.out o_ o_ o_ o_ bK.out.s0 (by have h1:=bK.out.s1;have e:t1.p.hw=t1.hw:=rfl;omega);rw[cM.out]at dP;refine dP.mono ?_;clear dP;unfold uf;rintro e dJ⟨b6,rfl,b9,eX,ap⟩)|(refine i0 rfl 40 _ _ rfl gx 5 r_ (b6.g8) r_ 43 ({m with run:=m.run+1}:Md).g8 (z.g_ ap).x (by simp[Md.g8,Cm.g8]) k_ (Cm.one _) ?_;intro e3 cA bC))
      have dQ:=h_ (bg.out.commit dk.out (by rw[<-a2.out];exact cf.out) (s:=b6) (by rw[eX,eI.out]));go_roundw
      case rel=>exact⟨n-1,k+1,{m with s:=b6,run:=m.run+1},dZ,dD,d0,rfl,by omega,by omega,(z.g_ ap).set bC cA (λhi=>⟨hi.l,hi.lr,hi.al,hi.d,hi.dl,b9.ig (z.g_ ap).x d_ bC,hi.ts⟩),(eP.g_ ap).one (z.g_ ap).x d_ d_ bC,dQ.out,dz⟩
      case measure=>simp[intOf];omega
   .have bp:(0<n)=False:=by simp[hp]
    have hcb:=hL.cm.cb hL.val;have J:=kO hL.val
    have b1:m.s.h.l.length<=4000002:=by have h1:=hcb.1.h;have e:m.s.p.h.length=m.s.h.l.length:=hW _;omega
    have b2:m.s.hU.l.length<=4000000:=by have h1:=hcb.1.hU;have e:m.s.p.hU.length=m.s.hU.l.length:=rfl;omega
    have dE: -1<=m.s.hG:=hcb.1.st0;have dx:m.s.hG<=3000:=hcb.1.st1;have et:0<=m.s.hw:=hcb.1.p0
    have dT:m.s.hw<=100000:=by have h1:=hcb.1.p1;have e:m.s.p.hw=m.s.hw:=rfl;omega
    have dy:0<=m.s.ja:=hcb.1.a0
    have eg:m.s.ja<=8:=by have h1:=hcb.1.a1;have e:m.s.p.ja=m.s.ja:=rfl;omega
    have eN:0<=m.s.iH:=hcb.1.t0
    have eL:m.s.iH<=8:=by have h1:=hcb.1.t1;have e:m.s.p.iH=m.s.iH:=rfl;omega
    have dS:0<=m.run:=hcb.2.1
    have eM:m.run<=8:=by have h1:=hcb.2.2;omega
    have aU:wr.cell? (c_ gx 0)=some (.slice m.A m.l.length m.c):=(z.x.f_ 0).trans rfl;have bg:=h_ hL;have dk:=h_ bj;clear hcb hL bj aU
    go_upto_region 19 with fail
    refine hC (λw'=>w'.cell? (c_ gx 0)=some (.slice m.A m.l.length m.c)/\w'.cell? (c_ gx 1)=some (i_ m.hq)/\w'.cell? (c_ gx 2)=some (i_ m.g9)/\w'.cell? (c_ gq 0)=some (.slice sA fl.length sc)/\w'.cell? (c_ gx 6)=some (i_ m.s.hG)) 11 k_ ?_;obtain⟨W,aZ⟩:=nm_ wr.drew;rw[<-aZ]
    replace z:MW w B g gr gx m W:=by rw[aZ];exact z.g_ (D_ [] wr).drew
    replace ah:MQ w gq sA fl sc W:=by rw[aZ];exact ah.g_ (D_ [] wr).drew
    clear aZ
    refine nc ⟨(z.x.f_ 0).trans rfl,(z.x.f_ 1).trans rfl,(z.x.f_ 2).trans rfl,(ah.q.f_ 0).trans rfl,(z.x.f_ 6).trans rfl⟩ λC=>?_
    repeat refine jR C ?_
    refine hQ 7 λK H=>?_
    go_simp
    (go_at_call 19;refine(h8 B g 5 _ z.d o_ o_).mono ?_;rintro e ae⟨r,rfl,bu,bD,aB,am⟩)
    obtain⟨da,bt⟩:=z.d.bk;replace ah:=ah.one bt d_ d_ am;replace z:=z.dice am aB;clear C bt aB am
    refine hS H ⟨(z.x.f_ 0).trans rfl,(z.x.f_ 1).trans rfl,(z.x.f_ 2).trans rfl,(ah.q.f_ 0).trans rfl,(z.x.f_ 6).trans rfl⟩ λC=>?_
    clear H K;have rb:IntKind.i64.wrap (1+r)=1+r:=Eg _ o_;refine ih 8 C ?_
    refine hQ 9 λK H=>?_
    go_simp
    (go_at_call 53;((with_reducible refine(yz m.A m.c m.l m.hq m.g9 sA sc fl m.s.hG (1+r) _ z.i.l o_ ah.f (by have:=ai.len;omega) (λf hf=>by have:=ai.dst f hf;omega) o_ o_).mono ?_));unfold BG;rintro e aF⟨eK,xc,xs,rfl,R,cz,bL,aC⟩)
    replace z:=z.g_ aC;replace ah:=ah.g_ aC;clear C aC rb bu bD
    refine hS H ⟨(z.x.f_ 0).trans rfl,(z.x.f_ 1).trans rfl,(z.x.f_ 2).trans rfl,(ah.q.f_ 0).trans rfl,(z.x.f_ 6).trans rfl⟩ λC=>?_
    clear H K;refine ih 10 C ?_;refine hA k_ ?_ _;clear C ah ai;clear ax;go_wp2;have dO:=h_ (s3 bg.out.val bg.out.dv);have dH:=t8 bg.out.val bg.out.dv
    go_loopw [122] (λar wr=>∃(k:Nat) (ts:List Tk) (tA:Option Addr) (tc:Nat),ar=i_ k/\k<=xs.length/\ts.length=k/\MW w B g gr gx ({m with run:=m.run+k,tA:=tA,tc:=tc,ts:=ts}:Md) wr/\wr.ownsRow w.heap.size 53 48 (.slice tA k tc) k (ts.flatMap λt:Tk=>t.g8.toList)/\Ns wr 3 eK xs/\(∀(j:Nat) (hj:j<ts.length) (I:j<xs.length),∃ia:Bool,ts[j].p=(jJ m.l m.hq m.g9 xs[j] (m.run+j) ia).1)) (λar _=>xs.length-(intOf ar).toNat)
    case atStart=>exact⟨0,[],none,0,by go_num,N_ _,rfl,(by rw[bg.out.m0];exact z),iJ _ _ _ _,R,λj hj=>by cases hj⟩
    case round=>
     obtain⟨df,aK⟩:=nm_ k;rw[<-aK]at bg eA
     have ep:df<=8:=by omega
     clear z R eA aK;obtain⟨k,ts,tA,tc,rfl,hk,c8,z,ao,R,cH⟩:=hrel;have a:=h_ c8;have cU:=h_ cH;clear c8 cH
     by_cases aj:k<xs.length
     .obtain⟨bx,eG,eQ,cJ⟩:=R.at_ aj;have dY:=bL _ (J_ aj);have bX: -1000000000<=xs[k]:=dY.2.2.1;have cg:xs[k]<=1000000000:=dY.2.2.2;subst eQ
      go_upto_region 23 with fail
      go_cut [13] (λp a7=>∃(t0:Tk) (x:Nat) (ia:Bool),p=q_ x/\Bk a7 x 53 t0.g8/\kY a7 t0/\t0.p=(jJ m.l m.hq m.g9 xs[k] (m.run+k) ia).1/\iE a7 B g/\Gr [g] wr a7)
      case first=>
       refine hC (λw'=>w'.cell? (c_ gx 0)=some (.slice m.A m.l.length m.c)/\w'.cell? (c_ gx 1)=some (i_ m.hq)/\w'.cell? (c_ gx 2)=some (i_ m.g9)/\w'.cell? (c_ gx 16)=some (i_ (m.run+k))) 15 k_ ?_;obtain⟨W,aZ⟩:=nm_ wr.drew;rw[<-aZ];have dU:w.heap.size<=wr.heap.size:=z.g.size
       have HG:Gr [g] wr W:=by rw[aZ];exact(D_ [g] wr).drew
       replace z:MW w B g gr gx ({m with run:=m.run+k,tA:=tA,tc:=tc,ts:=ts}:Md) W:=by rw[aZ];exact z.g_ (D_ [] wr).drew
       clear aZ
       refine nc ⟨(z.x.f_ 0).trans rfl,(z.x.f_ 1).trans rfl,(z.x.f_ 2).trans rfl,(z.x.f_ 16).trans rfl⟩ λC=>?_
       (repeat refine jR C ?_)
       refine i6 6 12 rfl rfl k_ (λK H=>?_) (λK H=>?_)
       .go_simp
        (go_at_call 19;refine(h8 B g 3 _ z.d o_ o_).mono ?_;rintro e ae⟨r,rfl,bu,bD,aB,am⟩)
        replace z:=z.dice am aB;replace HG:Gr [g] wr ae:=HG.trans am;clear C;have C:ae.cell? (c_ gx 0)=some (.slice m.A m.l.length m.c)/\ae.cell? (c_ gx 1)=some (i_ m.hq)/\ae.cell? (c_ gx 2)=some (i_ m.g9)/\ae.cell? (c_ gx 16)=some (i_ (m.run+k)):=⟨(z.x.f_ 0).trans rfl,(z.x.f_ 1).trans rfl,(z.x.f_ 2).trans rfl,(z.x.f_ 16).trans rfl⟩;clear aB am
        refine hS H C λC=>?_
        clear H K;obtain⟨ia,bW⟩:=mn_ (r==0);refine ih 7 C ?_
        try simp only[bW]
        clear bW bu bD;refine i6 8 12 rfl rfl k_ (λK H=>?_) (λK H=>?_)
        .go_simp
         (go_at_call 49;((with_reducible refine(nR m.A m.c m.l m.hq m.g9 xs[k] (m.run+k) ia _ z.i.l o_ o_ o_ o_ o_).mono ?_));unfold mR;rintro e aG⟨t0,rfl,a6,cG,aO⟩)
         replace z:=z.g_ aO;replace HG:Gr [g] wr aG:=HG.trans (aO.of_nil [g]);clear C;have C:aG.cell? (c_ gx 0)=some (.slice m.A m.l.length m.c)/\aG.cell? (c_ gx 1)=some (i_ m.hq)/\aG.cell? (c_ gx 2)=some (i_ m.g9)/\aG.cell? (c_ gx 16)=some (i_ (m.run+k)):=⟨(z.x.f_ 0).trans rfl,(z.x.f_ 1).trans rfl,(z.x.f_ 2).trans rfl,(z.x.f_ 16).trans rfl⟩;clear aO
         refine hS H C λC=>?_
         clear H K
         repeat refine jR C ?_
         refine hQ 12 λK H=>?_
         go_simp;have hb:Bk (aG.alloc (.cells lp 53)) aG.heap.size 53 lp:=L_ aG _ _
         have aH:aG.heap.size≠g:=by have:=z.d.lt;omega
         have cT:wr.heap.size<=aG.heap.size:=HG.size;replace z:=z.g_ ((D_ [] aG).alloc (.cells lp 53));replace HG:Gr [g] wr (aG.alloc (.cells lp 53)):=HG.alloc _;replace a6:=a6.g_ ((D_ [] aG).alloc (.cells lp 53));obtain⟨ag,b4⟩:=nm_ (aG.alloc (.cells lp 53));rw[<-b4]at hb z HG a6 |-;clear C;have C:ag.cell? (c_ gx 0)=some (.slice m.A m.l.length m.c)/\ag.cell? (c_ gx 1)=some (i_ m.hq)/\ag.cell? (c_ gx 2)=some (i_ m.g9)/\ag.cell? (c_ gx 16)=some (i_ (m.run+k)):=⟨(z.x.f_ 0).trans rfl,(z.x.f_ 1).trans rfl,(z.x.f_ 2).trans rfl,(z.x.f_ 16).trans rfl⟩;clear b4;generalize aG.heap.size=x at*
         refine hS H C λC=>?_
         clear H K;exact Gy
        .go_simp;have hb:Bk (ae.alloc (.cells lp 53)) ae.heap.size 53 lp:=L_ ae _ _
         have aH:ae.heap.size≠g:=by have:=z.d.lt;omega
         have cT:wr.heap.size<=ae.heap.size:=HG.size;replace z:=z.g_ ((D_ [] ae).alloc (.cells lp 53));replace HG:Gr [g] wr (ae.alloc (.cells lp 53)):=HG.alloc _;obtain⟨ag,b4⟩:=nm_ (ae.alloc (.cells lp 53));rw[<-b4]at hb z HG |-;clear C;have C:ag.cell? (c_ gx 0)=some (.slice m.A m.l.length m.c)/\ag.cell? (c_ gx 1)=some (i_ m.hq)/\ag.cell? (c_ gx 2)=some (i_ m.g9)/\ag.cell? (c_ gx 16)=some (i_ (m.run+k)):=⟨(z.x.f_ 0).trans rfl,(z.x.f_ 1).trans rfl,(z.x.f_ 2).trans rfl,(z.x.f_ 16).trans rfl⟩;clear b4;generalize ae.heap.size=x at*
         refine hS H C λC=>?_
         clear H K;exact Gl
       .go_simp;have hb:Bk (W.alloc (.cells lp 53)) W.heap.size 53 lp:=L_ W _ _
        have aH:W.heap.size≠g:=by have:=z.d.lt;omega
        have cT:wr.heap.size<=W.heap.size:=HG.size;replace z:=z.g_ ((D_ [] W).alloc (.cells lp 53));replace HG:Gr [g] wr (W.alloc (.cells lp 53)):=HG.alloc _;obtain⟨ag,b4⟩:=nm_ (W.alloc (.cells lp 53));rw[<-b4]at hb z HG |-;clear C;have C:ag.cell? (c_ gx 0)=some (.slice m.A m.l.length m.c)/\ag.cell? (c_ gx 1)=some (i_ m.hq)/\ag.cell? (c_ gx 2)=some (i_ m.g9)/\ag.cell? (c_ gx 16)=some (i_ (m.run+k)):=⟨(z.x.f_ 0).trans rfl,(z.x.f_ 1).trans rfl,(z.x.f_ 2).trans rfl,(z.x.f_ 16).trans rfl⟩;clear b4;generalize W.heap.size=x at*
        refine hS H C λC=>?_
        clear H K
        refine hQ 6 λK H=>?_
        go_simp
        (go_at_call 19;refine(h8 B g 3 _ z.d o_ o_).mono ?_;rintro e ae⟨r,rfl,bu,bD,aB,am⟩)
        replace z:=z.dice am aB;replace HG:Gr [g] wr ae:=HG.trans am;replace hb:=hb.gr am (by simpa using aH);clear C;have C:ae.cell? (c_ gx 0)=some (.slice m.A m.l.length m.c)/\ae.cell? (c_ gx 1)=some (i_ m.hq)/\ae.cell? (c_ gx 2)=some (i_ m.g9)/\ae.cell? (c_ gx 16)=some (i_ (m.run+k)):=⟨(z.x.f_ 0).trans rfl,(z.x.f_ 1).trans rfl,(z.x.f_ 2).trans rfl,(z.x.f_ 16).trans rfl⟩;clear aB am
        refine hS H C λC=>?_
        clear H K;obtain⟨ia,bW⟩:=mn_ (r==0);refine ih 7 C ?_
        try simp only[bW]
        clear bW bu bD;exact Gl
      case rest=>
       obtain⟨t0,x,ia,rfl,hb,a6,cG,cD,aO⟩:=hcut;obtain⟨da,bt⟩:=z.d.bk;have eD:Ns wc 3 (some (c_ bx eG)) xs:=Sl.ig R bt d_ aO;have b7:=j1 ao bt d_ aO;have cx:=z.dice aO cD;have dC:=h_ cG;clear z ao R bt aO cD cJ cG dY bX cg;have dN:wc.cell? (c_ gx 16)=some (i_ (m.run+k)):=(cx.x.f_ 16).trans rfl;have d2:=cx.x.hm 16
       go_upto_region 25 with fail
       have M:Gr [gx] wc (wc.setCell (c_ gx 16) (i_ (m.run+k+1))):=(D_ [gx] wc).setCell (.inl s_) _;have eC:x≠gx:=hb.lF cx.x d_;replace hb:=hb.gr M (by simpa using eC);replace a6:=a6.ig cx.x d_ M;have eE:Ns (wc.setCell (c_ gx 16) (i_ (m.run+k+1))) 3 (some (c_ bx eG)) xs:=Sl.ig eD cx.x d_ M;replace b7:=j1 b7 cx.x d_ M;have bU:MW w B g gr gx ({m with run:=m.run+k+1,tA:=tA,tc:=tc,ts:=ts}:Md) (wc.setCell (c_ gx 16) (i_ (m.run+k+1))):=cx.set M (cx.x.hJ 16 _) (λhi=>⟨hi.l,hi.lr,hi.al,hi.d,hi.dl,hi.s,hi.ts⟩);clear cx M eC dN d2 eD;obtain⟨bJ,cI⟩:=nm_ (wc.setCell (c_ gx 16) (i_ (m.run+k+1)));rw[<-cI]at bU eE b7 a6 hb |-;clear cI
       have dw:bJ.cell? (c_ gx 15)=some (.slice tA k tc):=by rw[<-a.out];exact(bU.x.f_ 15).trans rfl
       have aE:Gr [] bJ (bJ.alloc (.cells t0.g8 53)):=(D_ [] bJ).alloc _;have aN:=bU.g_ aE;have c3:=iu b7 aE;have cN:Sl (bJ.alloc (.cells t0.g8 53)) 53 48 (j_ bJ.heap.size) 1 t0.g8.toList:=i5 (n:=1) (s:=48) (L_ bJ 53 t0.g8) rfl;have hbs:w.heap.size<=(bJ.alloc (.cells t0.g8 53)).heap.size:=F_ bU.g.size aE.size;refine wp_region_lit ?_;refine BQ rfl ?_
       try simp only[a_]
       refine BQ rfl ?_
       try simp only[a_]
       refine kJ hb underlying53 ?_
       try simp only[a_]
       refine Great.wpList_buildSliceTo rfl 41 53 1 _ rfl bJ.heap.size rfl _ rfl underlying41 t0.g8 k_ ?_
       try simp only[a_]
       refine iD _ rfl (.tmp 143) (.tmp 145) 41 rfl w.heap.size 53 bz _ 48 480 underlying41 bw br bi bf r_ d_ d_ tA k tc _ rfl c3 (j_ bJ.heap.size) 1 1 t0.g8.toList rfl cN (BS t0) o_ hbs ?_;intro ay an ag aY av;have dw:ag.cell? (c_ gx 15)=some (.slice tA k tc):=(by rw[<-a.out];exact((av.bk aN.x d_).f_ 15).trans rfl);have e4:=(av.bk aN.x d_).hm 15
       try simp only[a_]
       refine BQ rfl ?_
       try simp only[a_]
       refine m9 rfl (λK H=>?_);go_simp;refine H.out _ _ ?_;clear H K;refine wpList_nil ?_;go_wp2;go_roundw
       case rel=>
        have bE:ag.ownsRow w.heap.size 53 48 (.slice ay (k+1) an) (k+1) ((ts++[t0]).flatMap λt:Tk=>t.g8.toList):=by
         simpa using aY
        have cF:(ts++[t0]).length=k+1:=by rw[H_,a.out];rfl
        have aq:Ts ag ay (ts++[t0]):=by
         have h:=Sl.iG bE
         show Sl ag 53 48 ay (ts++[t0]).length _
         rw[cF];exact h
        have cZ:=aN.append (c:=an) av cF aq (λt X=>by
         rcases T_.1 X with X|X
         .exact aN.i.ts.AF t X
         .rw[R_.1 X]
          exact a6.g_ aE)
        have co:=av.bk aN.x d_;have aw:Gr [gx] ag (ag.setCell (c_ gx 15) (.slice ay (k+1) an)):=(D_ [gx] ag).setCell (.inl s_) _;refine⟨k+1,ts++[t0],ay,an,by go_num,by omega,cF,?_,j1 bE co d_ aw,Sl.ig (av.sl (Sl.g_ eE aE) d_) co d_ aw,?_⟩
        .have e:m.run+((k+1:Nat):Int)=m.run+k+1:=by omega
         rw[e];exact cZ
        .intro j hj I
         by_cases bv:j<ts.length
         .rw[EC bv];exact cU.out j bv I
         .have:j=k:=by rw[cF]at hj;have:=a.out;omega
          subst this;rw[EK o_];refine⟨ia,?_⟩
          have e0:([t0]:List Tk)[j-ts.length]'(by have:=a.out;simp;omega)=t0:=by simp
          rw[e0];exact dC.out
       case measure=>simp[intOf];omega
     .have dB:k=xs.length:=by omega
      have d5:=h_ (show vR m.l m.hq m.g9 m.d m.s.p.h m.run 0 (ts.map Tk.p) from .hG _ (by rw[Et,a.out];omega) (λj hj=>by
       have eU:j<ts.length:=by simpa using hj
       have eo:j<xs.length:=by have:=a.out;omega
       obtain⟨ia,hp⟩:=cU.out j eU eo
       exact⟨xs[j],ia,bL _ (J_ eo),by rw[E7];exact hp⟩))
      have eZ:k<=16:=by omega
      have e2:((k:Int)<(xs.length:Int))=False:=by simp;omega
      clear hk aj cU R bL dB;obtain⟨da,bt⟩:=z.d.bk
      go_upto_region 28 with(go_at_call 19;refine(h8 B g 40 _ z.d o_ o_).mono ?_;rintro e ae⟨n1,rfl,ez,eW,aB,am⟩)
      have aq:k=0∨∃gb cur,tA=some (c_ gb 0)/\w.heap.size<=gb/\oY ae gb cur ts:=by
       rcases EY k with h|h
       .exact .inl h
       .have eB:=j1 ao bt d_ am;rw[<-a.out]at eB;obtain⟨gb,cur,h1,h2,h3⟩:=oY.iG eB (by rw[a.out];exact h);exact .inr ⟨gb,cur,h1,h2,h3⟩
      have d8:=z.dice am aB;clear z ao bt am aB
      go_loopw [15] (λar wr=>∃(n:Int) (j:Nat) (ts:List Tk),ar=i_ n/\0<=n/\n+j<=39/\ts.length=k/\MW w B g gr gx ({m with run:=m.run+k,tA:=tA,tc:=tc,ts:=ts}:Md) wr/\vR m.l m.hq m.g9 m.d m.s.p.h m.run j (ts.map Tk.p)/\(k=0∨∃gb cur,tA=some (c_ gb 0)/\w.heap.size<=gb/\oY wr gb cur ts)) (λar _=>(intOf ar).toNat)
      case atStart=>exact⟨n1,0,ts,rfl,ez,by omega,a.out,d8,d5.out,aq⟩
      case round=>
       clear d8 aq ez eW d5 a ts;obtain⟨n,j,ts,rfl,hn0,e1,c8,z,V,aq⟩:=hrel;have a:=h_ c8;have dq:=h_ V
       have dw:wr.cell? (c_ gx 15)=some (.slice tA k tc):=by rw[<-c8];exact(z.x.f_ 15).trans rfl
       clear c8 V
       by_cases hp:0<n
       .have bp:(0<n)=True:=by simp[hp]
        rcases EY k with b8|b0
        .have bI:((0:Int)<(k:Int))=False:=by simp[b8]
         have eY:(0<k)=False:=by simp[b8]
         clear b8 aq;exact GQ
        .obtain⟨gb,cur,U,o,hR⟩:=aq.resolve_left o_;clear aq;subst U
         have bI:((0:Int)<(k:Int))=True:=by simp[b0]
         have eY:(0<k)=True:=by simp[b0]
         go_upto_region 31 with(go_at_call 19;refine(h8 B g (k:Int) _ z.d o_ o_).mono ?_;rintro e ae⟨r,rfl,bu,bD,aB,am⟩)
         obtain⟨i,rfl⟩:∃i:Nat,r=i:=⟨r.toNat,by omega⟩
         have dI:i<k:=by omega
         have hi:i<ts.length:=by rw[a.out];exact dI
         have db:gb≠g:=by have h1:=z.d.vl;have h2:=z.hB;omega
         replace hR:oY ae gb cur ts:=⟨hR.bk.gr am (by simpa using db),hR.row⟩;replace z:=z.dice am aB;clear am aB db dw bu bD
         have dw:ae.cell? (c_ gx 15)=some (.slice (j_ gb) k tc):=by rw[<-a.out];exact(z.x.f_ 15).trans rfl
         have ck:ae.cell? (c_ gb (i*48+42))=some (i_ (ts[i]).hV):=(hR.f_ hi 42 d_).trans rfl;have ed:=dq.out.tf bg.out.val J.2.1;have bK:=h_ (show ∀t∈ts,TF t.p/\(t.hV=0->Way m.l t.p) from λt X=>ed _ (D2.2 ⟨t,X,rfl⟩));have ef:=dq.out.Dc bg.out.val J.2.1 (bg.out.cm.Dc bg.out.val o_) dS o_;have dn:=h_ (show ∀t∈ts,TG j9 t.p/\0<=t.p.run/\t.p.run<=1000000016 from λt X=>ef _ (D2.2 ⟨t,X,rfl⟩));clear ed ef;obtain⟨aF,cq⟩:=nm_ ae;rw[<-cq]at z hR dw ck |-;clear cq
         by_cases bA:(ts[i]).hV=0
         .rw[bA]at ck;have dR:=h_ bA;clear bA
          go_upto_region 32 with fail
          have cU:=h_ (show ∀t1:Tk,t1.p=jh m.l m.hq m.g9 m.d (ts[i]).p (mP (hN m.s.h.l) (ts.map Tk.p) i)->vR m.l m.hq m.g9 m.d m.s.p.h m.run (j+1) ((ts.set i t1).map Tk.p) from λt1 hp=>by
           have cu:=vR.step (l:=m.l) (hq:=m.hq) (g9:=m.g9) (d:=m.d) i (by simpa using hi) dq.out (by rw[E7];exact dR.out);rw[List.map_set,hp];rw[E7]at cu
           exact cu)
          refine hC (λw'=>w'.cell? (c_ gx 0)=some (.slice m.A m.l.length m.c)/\w'.cell? (c_ gx 1)=some (i_ m.hq)/\w'.cell? (c_ gx 2)=some (i_ m.g9)/\w'.cell? (c_ gx 4)=some (.slice m.dA m.d.length m.dc)/\w'.cell? (c_ gx 5)=some (.slice m.s.h.A m.s.h.l.length m.s.h.c)/\w'.cell? (c_ gx 15)=some (.slice (j_ gb) k tc)) 25 k_ ?_;obtain⟨W,aZ⟩:=nm_ aF.drew;rw[<-aZ]
          replace z:MW w B g gr gx ({m with run:=m.run+k,tA:=(j_ gb),tc:=tc,ts:=ts}:Md) W:=by rw[aZ];exact z.g_ (D_ [] aF).drew
          replace hR:oY W gb cur ts:=by rw[aZ];exact⟨hR.bk.g_ (D_ [] aF).drew,hR.row⟩
          clear aZ dw ck;have dm:=D_ [] W;have bX:=z.x;have C:W.cell? (c_ gx 0)=some (.slice m.A m.l.length m.c)/\W.cell? (c_ gx 1)=some (i_ m.hq)/\W.cell? (c_ gx 2)=some (i_ m.g9)/\W.cell? (c_ gx 4)=some (.slice m.dA m.d.length m.dc)/\W.cell? (c_ gx 5)=some (.slice m.s.h.A m.s.h.l.length m.s.h.c)/\W.cell? (c_ gx 15)=some (.slice (j_ gb) k tc):=⟨(bX.f_ 0).trans rfl,(bX.f_ 1).trans rfl,(bX.f_ 2).trans rfl,(bX.f_ 4).trans rfl,(bX.f_ 5).trans rfl,(by rw[<-a.out];exact(bX.f_ 15).trans rfl)⟩
          have dr:Hid (∀w',Gr [] W w'->Calls prog 40 #[.agg #[.slice m.s.h.A m.s.h.l.length m.s.h.c],.slice (j_ gb) k tc,i_ i] w' (l0 (mP (hN m.s.h.l) (ts.map Tk.p) i) w')):=h_ (by
           intro w' hg;have h:=y1 m.s.h.A m.s.h.c m.s.h.l (j_ gb) tc ts i w' (z.i.s.h.g_ hg) o_ (z.i.ts.g_ hg) (by rw[a.out];omega) (λt X=>(bK.out t X).1.sm) o_;rw[a.out]at h
           exact h)
          have b3:Hid (∀(aQ:Option Addr) (vc:Nat) (b:List Rw) (w':World),Gr [] W w'->l5 w' aQ vc b->hN b=mP (hN m.s.h.l) (ts.map Tk.p) i->Calls prog 39 #[.agg #[.slice m.A m.l.length m.c,i_ m.hq,i_ m.g9],.agg #[.slice m.dA m.d.length m.dc],.agg (ts[i]).g8,.agg #[.slice aQ b.length vc]] w' (mR (jh m.l m.hq m.g9 m.d (ts[i]).p (mP (hN m.s.h.l) (ts.map Tk.p) i)) 0 w')):=h_ (by
           intro aQ vc b w' hg hv ho;have dW:=J_ hi;obtain⟨bH,bZ⟩:=bK.out _ dW;have cS:=bZ dR.out;have cO:=cS.lo;have eT:=cS.hi;have be:=cS.s0;have cy:=bH.s1;obtain⟨_,bV,r1⟩:=dn.out _ dW
           have iv:b.length<=99999999:=by
            have aP:=hW b;rw[ho]at aP
            have aL:=uS ((ts.map Tk.p).take (i:Int).toNat) (hN m.s.h.l) (n:=500000) (λt X=>by
             obtain⟨u,hu,rfl⟩:=D2.1 (Eu X)
             exact(bK.out u hu).1.sm.nw)
            have bN:=hW m.s.h.l
            have bY:((ts.map Tk.p).take (i:Int).toNat).length<=16:=by
             rw[Ey,Et,a.out];omega
            unfold mP at aP;omega
           have h:=tQ m.A m.c m.l m.hq m.g9 m.dA m.dc m.d (ts[i]) aQ vc b w' (Sl.g_ z.i.l hg) o_ (Sl.g_ z.i.d hg) o_ ((z.i.ts.AF _ dW).g_ hg) hv dO.out dR.out bH.sm iv cO (by have e:(ts[i]).p.pc=(ts[i]).pc:=rfl;omega) bV (by have e:(ts[i]).p.run=(ts[i]).run:=rfl;omega) be (by have e:(ts[i]).p.hw=(ts[i]).hw:=rfl;omega);rw[ho]at h
           exact h)
          have au:i*48+48<=cur.size:=by
           have h1:=hR.size;rw[a.out]at h1;omega
          (iterate 11 refine jR C ?_)
          refine ih 12 C ?_;refine ih 13 C ?_;refine ih 14 C ?_;refine ih 15 C ?_;refine ih 16 C ?_;refine ih 17 C ?_;refine i6 11 18 rfl rfl k_ (λK H=>?_) (λK H=>?_)
          .rw[Q_ r_];refine ox 53 _ rfl gb (i*48) r_ 53 cur (ts[i]).g8 hR.bk (hR.at hi) _ underlying53 rfl k_ ?_
           refine hS H C λC=>?_
           clear H K
           refine hQ 18 λK H=>?_
           go_simp
           (go_at_call 40;((with_reducible refine(dr.out _ dm).mono ?_));unfold l0;rintro e d1⟨aQ,vc,b,rfl,dj,cR,fo⟩)
           clear C
           refine hS H (by
            have I:=(z.g_ fo).x
            exact⟨(I.f_ 0).trans rfl,(I.f_ 1).trans rfl,(I.f_ 2).trans rfl,(I.f_ 4).trans rfl,(I.f_ 5).trans rfl,(by rw[<-a.out];exact(I.f_ 15).trans rfl)⟩) λC=>?_
           exact Kx
          .go_simp
           (go_at_call 40;((with_reducible refine(dr.out _ dm).mono ?_));unfold l0;rintro e d1⟨aQ,vc,b,rfl,dj,cR,fo⟩)
           clear C
           refine hS H (by
            have I:=(z.g_ fo).x
            exact⟨(I.f_ 0).trans rfl,(I.f_ 1).trans rfl,(I.f_ 2).trans rfl,(I.f_ 4).trans rfl,(I.f_ 5).trans rfl,(by rw[<-a.out];exact(I.f_ 15).trans rfl)⟩) λC=>?_
           clear H K
           refine hQ 11 λK H=>?_
           rw[Q_ r_];refine ox 53 _ rfl gb (i*48) r_ 53 cur (ts[i]).g8 (hR.bk.g_ fo) (hR.at hi) _ underlying53 rfl k_ ?_
           refine hS H C λC=>?_
           exact Kx
         .have bP:((ts[i]).hV==0)=false:=by simp[bA]
          obtain⟨st,di⟩:=mn_ ((ts[i]).hV);rw[di]at ck bP;clear bA di bK dn;go_wp2;go_roundw
          case rel=>exact⟨n-1,j,ts,rfl,by omega,by omega,a.out,z,dq.out,.inr ⟨gb,cur,rfl,o,hR⟩⟩
          case measure=>simp[intOf];omega
       .have bp:(0<n)=False:=by simp[hp]
        clear aq;exact GQ
end Go.Proofs.YtenbhdilndfaeaaGreat
