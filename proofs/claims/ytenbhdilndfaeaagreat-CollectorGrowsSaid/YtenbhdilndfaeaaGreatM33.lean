import Derived.Test.YtenbhdilndfaeaaGreatM32
set_option maxRecDepth 100000
set_option maxHeartbeats 0
set_option linter.all false
namespace Go.Proofs.YtenbhdilndfaeaaGreat
open Go.RowKit Go.Proofs.Tryz
variable{G:Prop}{k:Nat}{m:Md}{s:Cm}
theorem Hj(h:G:=by
 clear H K
 refine h4 19 λK H=>?_
 go_simp
 (go_at_call 39;((with_reducible refine(bY.out cg vc b d5 D dm df).mono ?_));unfold m7;rintro e ws⟨t1,rfl,ce,cR,M⟩)
 clear C
 refine h5 H (by
  have hx:=(z.hG (D.trans M)).x
  exact⟨(hx.f_ 0).trans rfl,(hx.f_ 1).trans rfl,(hx.f_ 2).trans rfl,(hx.f_ 4).trans rfl,(hx.f_ 5).trans rfl,(by rw[<-a.out];exact(hx.f_ 15).trans rfl)⟩) λC=>?_
 clear H K;refine iP 20 C ?_;refine iP 21 C ?_;refine iP 23 C ?_;refine ji 22 24 rfl rfl k_ (λK H=>?_) (λK H=>?_)
 .go_simp
  refine h5 H C λC=>?_
  clear H K
  refine h4 24 λK H=>?_
  rw[T_ r_];refine jF 53 _ _ rfl gb (i*48) r_ t1.g_ r_ 53 _ (hR.bk.hG (D.trans M)) aL k_ (Tk.one _) ?_;intro bu I au;clear C
  refine h5 H (by
   have hx:=(z.hG (D.trans M)).x.gr au (zu (((hR.bk.hG (D.trans M)).lZ (z.hG (D.trans M)).x d_).symm))
   exact⟨(hx.f_ 0).trans rfl,(hx.f_ 1).trans rfl,(hx.f_ 2).trans rfl,(hx.f_ 4).trans rfl,(hx.f_ 5).trans rfl,(by rw[<-a.out];exact(hx.f_ 15).trans rfl)⟩) λC=>?_
  exact HT
 .rw[T_ r_];refine jF 53 _ _ rfl gb (i*48) r_ t1.g_ r_ 53 _ (hR.bk.hG (D.trans M)) aL k_ (Tk.one _) ?_;intro bu I au;clear C
  refine h5 H (by
   have hx:=(z.hG (D.trans M)).x.gr au (zu (((hR.bk.hG (D.trans M)).lZ (z.hG (D.trans M)).x d_).symm))
   exact⟨(hx.f_ 0).trans rfl,(hx.f_ 1).trans rfl,(hx.f_ 2).trans rfl,(hx.f_ 4).trans rfl,(hx.f_ 5).trans rfl,(by rw[<-a.out];exact(hx.f_ 15).trans rfl)⟩) λC=>?_
  clear H K
  refine h4 22 λK H=>?_
  go_simp
  refine h5 H C λC=>?_
  exact HT):G:=h
theorem Hr(h:G:=by
 refine h4 8 λK H=>?_
 go_simp
 (go_at_call 49;((with_reducible refine(nW m.A m.c m.l m.hI m.hF xs[k] (m.run+k) ik _ z.i.l o_ o_ o_ o_ o_).mono ?_));unfold m7;rintro e aD⟨t0,rfl,cu,cK,aN⟩)
 replace z:=z.hG aN;replace HG:Gr [g] wr aD:=HG.trans (aN.of_nil [g]);replace hb:=hb.hG aN;clear C;have C:aD.cell? (c_ gx 0)=some (.slice m.A m.l.length m.c)/\aD.cell? (c_ gx 1)=some (i_ m.hI)/\aD.cell? (c_ gx 2)=some (i_ m.hF)/\aD.cell? (c_ gx 16)=some (i_ (m.run+k)):=⟨(z.x.f_ 0).trans rfl,(z.x.f_ 1).trans rfl,(z.x.f_ 2).trans rfl,(z.x.f_ 16).trans rfl⟩;clear aN
 refine h5 H C λC=>?_
 clear H K
 repeat refine jW C ?_
 exact HE):G:=h
theorem HE(h:G:=by
 refine h4 13 λK H=>?_
 rw[T_ r_];refine ij 53 _ _ rfl x r_ t0.g_ r_ 53 _ hb rfl k_ (Tk.one _) ?_;intro aR bU aU
 have bB:aR.cell? (c_ gx 0)=some (.slice m.A m.l.length m.c)/\aR.cell? (c_ gx 1)=some (i_ m.hI)/\aR.cell? (c_ gx 2)=some (i_ m.hF)/\aR.cell? (c_ gx 16)=some (i_ (m.run+k)):=by
  have ct:=z.x.gr aU (by have:=hb.lZ z.x d_;simpa using this.symm);exact⟨(ct.f_ 0).trans rfl,(ct.f_ 1).trans rfl,(ct.f_ 2).trans rfl,(ct.f_ 16).trans rfl⟩
 clear C;have C:=bB;clear bB
 refine h5 H C λC=>?_
 clear H K
 refine h4 14 λK H=>?_
 go_simp
 refine h5 H C λC=>?_
 clear H K;refine hN k_ ?_ _;go_wp2;go_meet;exact⟨t0,x,ik,rfl,bU,cu.iu hb d_ aU,cK,z.d.ih aU (λy hy=>by rw[I_]at hy;rw[hy];exact G_ z.hB (G_ dX cW)),HG.hK aU (λy hy=>.inr (by rw[I_]at hy;rw[hy];exact cW))⟩):G:=h
theorem HP(h:G:=by
 go_wp2_with (first|(refine kT z.x underlying43 ?_)|(refine kQ (({m with run:=m.run+k,tA:=tA,tc:=tc,ts:=ts}:Md).g_) z.r (Md.one _) ?_;intro bu o au))
 obtain⟨aM,aV,z3⟩:=z.fin au;exact rr_ ({m with run:=m.run+k,tA:=tA,tc:=tc,ts:=ts}:Md).g_ o underlying43 (by rw[ak.out];exact⟨({m with run:=m.run+k,tA:=tA,tc:=tc,ts:=ts}:Md),rfl,aM,⟨be.out.val,be.out.dv,⟨dj,m.run,eu,be.out.cm,.inr ⟨dn.out,(by show m.run+(k:Int)=m.run+(ts.length:Int);rw[a.out]),j,o_,dw.out⟩⟩,by show ts.length<=tc;rw[a.out];exact d8.out⟩,aV,z3⟩)):G:=h
theorem HT(h:G:=by
 clear H K;refine hN k_ ?_ _;have o:=hR.set (w':=bu) hi t1 I
 have c8:=((z.hG (D.trans M)).row (hR.bk.hG (D.trans M)) au aU (ts:=ts.set i t1) s_ o.sl (λt ht=>by
  rcases EU ht with ht|rfl
  .exact(z.i.ts.xH t ht).hG (D.trans M)
  .exact ce))
 have bG:=h_ cR;clear z hR C cR bY dy dr bP aL ce D M dm df I au;go_wp2;go_roundw
 case rel=>exact⟨n-1,j+1,ts.set i t1,rfl,o_,o_,by rw[ER];exact a.out,c8,cX.out t1 bG.out,.inr ⟨gb,_,rfl,aU,o⟩⟩
 case measure=>exact mz):G:=h
theorem IK(h:G:=by
 go_wp2_with (first|(refine kT z.x underlying43 ?_)|(refine kQ (m.g_) z.r (Md.one _) ?_;intro bu o au))
 obtain⟨aM,aV,z3⟩:=z.fin au;exact rr_ m.g_ o underlying43 (by rw[ak.out];exact⟨m,rfl,aM,cM.out,aV,z3⟩)):G:=h
theorem infoTk:(prog.info? 53).map (λi=>(i.zero,i.size,i.bytes))=some (some (.agg Tk.zero.g_),48,480):=by kernel_rfl
structure L1(k:Nat)(m:Md):Prop where
 val:ic m.l m.hI m.hF=true
 dv:m.d.Sublist (kF m.l m.hI m.hF)
 ts:m.ts=[]
 tn:m.tA=none/\m.tc=0
 cm:ux m.l m.hI m.hF m.d m.k2 k m.run m.s.p
theorem L1.m0(h:L1 k m):({m with run:=m.run+((0:Nat):Int),tA:=none,tc:=0,ts:=[]}:Md)=m:=by
 have h1:=h.ts;obtain⟨h2,h3⟩:=h.tn;obtain⟨a1,G,a3,a4,a5,a,f,b,a9,c,d,e,g,i,j,l⟩:=m;simp only at h1 h2 h3;subst h1;subst h2;subst h3;simp
theorem L1.ask(h:L1 k m)(he:m.s.jH=false)(h0:(nJ m.l m.hI m.hF m.k2 m.s.p).2=0)(hs:s.p=(nJ m.l m.hI m.hF m.k2 m.s.p).1):L1 (k+1) {m with s:=s}:=
 ⟨h.val,h.dv,h.ts,h.tn,by show ux _ _ _ _ _ (k+1) m.run s.p;rw[hs];exact h.cm.ask he h0⟩
theorem L1.commit(h:L1 k m)(he:m.s.jH=false)(h0:(nJ m.l m.hI m.hF m.k2 m.s.p).2≠0)(hs:s.p=(kI true m.s.p (mW m.l m.hI m.hF m.d m.s.p m.run)).1):L1 (k+1) {m with s:=s,run:=m.run+1}:=
 ⟨h.val,h.dv,h.ts,h.tn,by show ux _ _ _ _ _ (k+1) (m.run+1) s.p;rw[hs];exact h.cm.commit he h0⟩
theorem vH(B g:Nat)(w:World)(hd:iQ w B g)(hB:B<=w.heap.size):
 Calls prog 11 #[q_ g] w (A2 B g w):=by
 refine ia λQ ak=>?_
 obtain⟨bF,bE,bt,a8,bo⟩:=info_parts infoTk;obtain⟨W,gr,aT,F,a2,hR⟩:=box1 w 43 #[n_,i_ 0,i_ 0,n_,n_,n_,i_ 0,i_ 0,n_,.bool false,.bool false,.bool false,i_ 0,i_ 0,i_ 0,n_,i_ 0]
 go_enter func11,ntmps11
 go_upto_region 2 with(first
  |(go_at_call 44;refine(AK B g _ (hd.hG a2) (G_ hB a2.size)).mono ?_;unfold Ca;rintro e w1⟨A,c,l,hI,hF,rfl,hl,hv,cS,bg,hg1⟩)
  |(go_at_call 45;refine(yg B g _ bg (G_ hB (G_ a2.size hg1.size))).mono ?_;rintro e w2⟨aA,ac,k2,rfl,cZ,em,cO,J⟩)
  |(refine wpList_build rfl _ _ rfl #[(0,.agg #[.slice A l.length c,i_ hI,i_ hF]),(1,.agg #[.slice aA k2.length ac])] k_ _ (v6 _ _ _ _ _ rfl _) ?_))
 obtain⟨am,gx,cf,aE,S,L⟩:=box1 w2 43 #[.slice A l.length c,i_ hI,i_ hF,.slice aA k2.length ac,n_,n_,i_ 0,i_ 0,n_,.bool false,.bool false,.bool false,i_ 0,i_ 0,i_ 0,n_,i_ 0];rw[cf,aE];obtain⟨m,hm⟩:=nm_ (⟨A,c,l,hI,hF,aA,ac,k2,none,0,[],Cm.zero,none,0,[],0⟩:Md)
 have z:MW w B g gr gx m am:=by
  obtain⟨dc,bK⟩:=bg.bk;have hbg:=bg.xa;have bS:=a2.size;have cj:=hg1.size;have cG:=J.size;have ag:=hR.lt;have n1:gr≠g:=o_;have cz:=((hR.gr hg1 (zu n1)).gr J (zu n1)).hG S;refine⟨cz,by rw[hm];exact L,?_,cO.hG S,((a2.of_nil [g]).trans (hg1.trans J)).trans (S.of_nil [g]),hB,o_,o_,o_⟩;subst hm;exact⟨Sl.hG (Sl.iu hl bK d_ J) S,Sl.hG em S,cZ,Fm _ _ _ _,H_ _,lX.zero _ _ rfl rfl,⟨Fm _ _ _ _,λt ht=>by cases ht⟩⟩
 have d0:ic m.l m.hI m.hF=true:=by rw[hm];exact hv
 have eA:m.ts=[]:=by rw[hm]
 have dh:m.run=0:=by rw[hm]
 have ew:m.tA=none/\m.tc=0:=by rw[hm];exact⟨rfl,rfl⟩
 clear hm L aE S hl cZ em cO J cS bg hg1 hR F a2 hd hv aT;have U:=kl d0
 go_upto_region 3 with(first
  |(refine iB rfl 26 _ rfl gx 0 r_ 43 m.g_ #[.slice m.A m.l.length m.c,i_ m.hI,i_ m.hF] z.x (m.code) _ underlying26 rfl k_ ?_)
  |(go_at_call 46;refine(uN B g m.A m.c m.l m.hI m.hF _ z.i.l o_ z.d (G_ z.hB z.g.size)).mono ?_;unfold A4;rintro e T⟨dA,dc,d,rfl,da,dM,de,cF,Z⟩)
  |(refine jc rfl 32 _ _ rfl gx 4 r_ (#[.slice dA d.length dc]) r_ 43 m.g_ (z.dice Z cF).x (by first|decide|(simp[Md.g_,Cm.g_])) k_ (by simp[Value.oneCell']) ?_;intro Y eI dC))
 replace z:=z.dice Z cF;have c7:MW w B g gr gx {m with dA:=dA,d:=d,dc:=dc} Y:=z.set dC eI (λhi=>⟨hi.l,hi.k2,hi.al,Sl.iu da z.x d_ dC,dM,hi.s,hi.ts⟩);clear z dC eI da dM Z cF;obtain⟨bi,ay⟩:=nm_ ({m with dA:=dA,d:=d,dc:=dc});rw[<-ay]at c7
 have dP:ic bi.l bi.hI bi.hF=true:=by rw[ay];exact d0
 have eB:bi.ts=[]:=by rw[ay];exact eA
 have ez:bi.run=0:=by rw[ay];exact dh
 have ey:bi.tA=none/\bi.tc=0:=by rw[ay];exact ew
 have ep:bi.d.Sublist (kF bi.l bi.hI bi.hF):=by rw[ay];exact de
 clear ay d0 eA dh ew de U;have U:=kl dP
 go_upto_region 4 with(first
  |(refine iB rfl 26 _ rfl gx 0 r_ 43 bi.g_ #[.slice bi.A bi.l.length bi.c,i_ bi.hI,i_ bi.hF] c7.x (bi.code) _ underlying26 rfl k_ ?_)
  |(go_at_call 47;refine(v8 bi.A bi.c bi.l bi.hI bi.hF _ c7.i.l o_).mono ?_;unfold uv;rintro e ax⟨s,rfl,hs,dE,aB⟩)
  |(refine jc rfl 40 _ _ rfl gx 5 r_ (s.g_) r_ 43 bi.g_ (c7.hG aB).x (by first|decide|(simp[Md.g_,Cm.g_])) k_ (Cm.one _) ?_;intro aD dQ dk))
 replace c7:=c7.hG aB;have cD:MW w B g gr gx {bi with s:=s} aD:=c7.set dk dQ (λhi=>⟨hi.l,hi.k2,hi.al,hi.d,hi.dl,hs.iu c7.x d_ dk,hi.ts⟩);obtain⟨dq,dY⟩:=nm_ ({bi with s:=s});rw[<-dY]at cD
 have ed:L1 0 dq:=by
  rw[dY];refine⟨dP,ep,eB,ey,?_⟩
  show ux _ _ _ _ _ 0 bi.run s.p
  rw[ez,dE,dP];exact .hS
 clear c7 dk dQ hs dE aB dY dP eB ez ey ep U;have d9:=h_ ed;clear ed;obtain⟨bl,gq,eT,c3,br,eg⟩:=box1 aD 96 #[n_];have bT:=cD.hG br;have ei:MQ w gq none [] 0 bl:=⟨eg,Fm _ _ _ _,ov cD.g.size⟩;clear cD br eg
 go_upto_region 6 with(go_at_call 19;refine(iw B g 9 _ bT.d d_ d_).mono ?_;rintro e X⟨n0,rfl,hn0,hn1,aZ,G⟩)
 obtain⟨dz,eo⟩:=bT.d.bk;have aH:=bT.dice G aZ;have eh:=ei.one eo d_ d_ G;clear bT ei eo aZ G
 go_loopw [5] (λap wr=>∃(n:Int) (k:Nat) (m:Md) (sA:OA) (fl:List Fo) (sc:Nat),ap=i_ n/\0<=n/\n+k<=8/\MW w B g gr gx m wr/\MQ w gq sA fl sc wr/\L1 k m/\Cc k fl) (λap _=>(intOf ap).toNat)
 case atStart=>exact⟨n0,0,dq,none,[],0,rfl,hn0,o_,aH,eh,d9.out,⟨H_ _,λf hf=>(by cases hf),λf hf=>(by cases hf)⟩⟩
 case round=>
  clear aH eh d9 hn0 hn1;obtain⟨n,k,m,sA,fl,sc,rfl,hn0,eD,z,ad,hL,aj⟩:=hrel;have aI:wr.cell? (c_ gx 9)=some (.bool m.s.jH):=(z.x.f_ 9).trans rfl
  cases bR:m.s.jH with
  |true=>
   rw[bR]at aI;have cM:=h_ (show BX m from⟨hL.val,hL.dv,⟨k,m.run,o_,hL.cm,.inl ⟨bR,hL.ts,rfl⟩⟩,by rw[hL.ts];exact O_ _⟩);clear hL aj bR
   by_cases hp:0<n
   .have bn:(0<n)=True:=by simp[hp]
    exact IK
   .have bn:(0<n)=False:=by simp[hp]
    exact IK
  |false=>
   rw[bR]at aI
   by_cases hp:0<n
   .have bn:(0<n)=True:=by simp[hp]
    have hcb:=hL.cm.cb hL.val;have U:=kl hL.val
    have b1:m.s.h.l.length<=4000002:=by have h1:=hcb.1.h;have e:m.s.p.h.length=m.s.h.l.length:=h9 _;omega
    have b2:m.s.h7.l.length<=4000000:=by have h1:=hcb.1.h7;have e:m.s.p.h7.length=m.s.h7.l.length:=rfl;omega
    have b3: -1<=m.s.hS:=hcb.1.st0;have dJ:m.s.hS<=3000:=hcb.1.st1;have ev:0<=m.s.hM:=hcb.1.p0
    have dZ:m.s.hM<=100000:=by have h1:=hcb.1.p1;have e:m.s.p.hM=m.s.hM:=rfl;omega
    have bX:0<=m.s.jp:=hcb.1.a0
    have b7:m.s.jp<=8:=by have h1:=hcb.1.a1;have e:m.s.p.jp=m.s.jp:=rfl;omega
    have eQ:0<=m.s.iR:=hcb.1.t0
    have eO:m.s.iR<=8:=by have h1:=hcb.1.t1;have e:m.s.p.iR=m.s.iR:=rfl;omega
    have dW:0<=m.run:=hcb.2.1
    have eP:m.run<=8:=by have h1:=hcb.2.2;omega
    obtain⟨⟨P,N⟩,cY⟩:∃q,q=nJ m.l m.hI m.hF m.k2 m.s.p:=⟨_,rfl⟩;have aW:=h_ cY;have be:=h_ hL;have dn:=h_ bR;clear cY hcb hL bR
    go_upto_region 9 with(first|(refine iB rfl 26 _ rfl gx 0 r_ 43 m.g_ #[.slice m.A m.l.length m.c,i_ m.hI,i_ m.hF] z.x (m.code) _ underlying26 rfl k_ ?_)|(refine iB rfl 29 _ rfl gx 3 r_ 43 m.g_ #[.slice m.aA m.k2.length m.ac] z.x (m.world) _ underlying29 rfl k_ ?_)|(refine iB rfl 40 _ rfl gx 5 r_ 43 m.g_ m.s.g_ z.x (m.com) _ underlying40 rfl k_ ?_)|(go_at_call 48;have af:=y8 m.A m.c m.l m.hI m.hF m.aA m.ac m.k2 m.s _ z.i.l o_ z.i.k2 (ov z.i.al) z.i.s o_ o_ o_ o_ o_ o_ o_ o_;rw[<-aW.out]at af;refine af.mono ?_;clear af;unfold uv;rintro e T⟨s,rfl,hs,dE,Z⟩)|(refine kQ (s.g_) (P_ T 40 #[n_,i_ 0,i_ 0,n_,.bool false,.bool false,.bool false,i_ 0,i_ 0,i_ 0]) (Cm.one _) ?_;intro Y a6 ah))
    have bZ:Gr [] T Y:=((F_ [] T).alloc _).jL ah (H_ _);replace z:=z.hG (Z.trans bZ);replace ad:=ad.hG (Z.trans bZ);replace hs:=hs.hG bZ;clear Z bZ ah aI;generalize T.heap.size=aK at*
    by_cases h0:N=0
    .have bI:(N==0)=true:=by simp[h0]
     have dU:=h_ (be.out.ask dn.out (by rw[<-aW.out];exact h0) (s:=s) (by rw[<-aW.out];exact dE));clear h0 be aW dn dE
     go_wp2_with (first|(refine kT a6 underlying40 ?_)|(refine jc rfl 40 _ _ rfl gx 5 r_ (s.g_) r_ 43 m.g_ z.x (by first|decide|(simp[Md.g_,Cm.g_])) k_ (Cm.one _) ?_;intro aD dQ dk))
     go_roundw
     case rel=>exact⟨n-1,k+1,{m with s:=s},sA,fl,sc,rfl,o_,o_,z.set dk dQ (λhi=>⟨hi.l,hi.k2,hi.al,hi.d,hi.dl,hs.iu z.x d_ dk,hi.ts⟩),ad.one z.x d_ d_ dk,dU.out,aj.mono o_⟩
     case measure=>exact mz
    .have bI:(N==0)=false:=by simp[h0]
     have ae:=h_ h0;clear h0 dE hs a6;have aO:Y.cell? (c_ gx 6)=some (i_ m.s.hS):=(z.x.f_ 6).trans rfl;have dR:Y.cell? (c_ gx 16)=some (i_ m.run):=(z.x.f_ 16).trans rfl;have bL:=h_ (show mW m.l m.hI m.hF m.d m.s.p m.run=zU m.l m.hI m.hF m.d m.s.p.h (jo m.l m.hI m.hF m.s.hS m.run true).1 from rfl)
     go_upto_region 12 with(first|(refine iB rfl 26 _ rfl gx 0 r_ 43 m.g_ #[.slice m.A m.l.length m.c,i_ m.hI,i_ m.hF] z.x (m.code) _ underlying26 rfl k_ ?_)|(go_at_call 49;((with_reducible refine(nW m.A m.c m.l m.hI m.hF m.s.hS m.run true _ z.i.l o_ o_ o_ o_ o_).mono ?_));unfold m7;rintro e ax⟨t0,rfl,cu,cK,aB⟩)|(refine kQ (t0.g_) (P_ ax 53 lv) (Tk.one _) ?_;intro aD cI aN))
     have eW:w.heap.size<=ax.heap.size:=G_ z.g.size aB.size;have cA:Gr [] ax aD:=((F_ [] ax).alloc _).jL aN (H_ _);replace z:=z.hG (aB.trans cA);replace ad:=ad.hG (aB.trans cA);have ce:=cu.hG cA;have d6:=z.x.hH 16;replace dR:aD.cell? (c_ gx 16)=some (i_ m.run):=(z.x.f_ 16).trans rfl;clear aB cA aN cu aO;generalize ax.heap.size=c6 at*
     go_upto_region 13 with fail
     have M:Gr [gx] aD (aD.setCell (c_ gx 16) (i_ (m.run+1))):=(F_ [gx] aD).setCell (.inl s_) _;have er:c6≠gx:=cI.lZ z.x d_;replace cI:=cI.gr M (zu er);replace ce:=ce.iu z.x d_ M;replace ad:=ad.one z.x d_ d_ M;have bT:MW w B g gr gx ({m with run:=m.run+1}:Md) (aD.setCell (c_ gx 16) (i_ (m.run+1))):=z.set M (z.x.hW 16 _) (λhi=>⟨hi.l,hi.k2,hi.al,hi.d,hi.dl,hi.s,hi.ts⟩);clear dR d6 z M er;have z:=bT;clear bT;obtain⟨bq,di⟩:=nm_ (aD.setCell (c_ gx 16) (i_ (m.run+1)));rw[<-di]at z ad ce cI |-;clear di;have dS:=h_ (tk be.out.val be.out.dv);have dM:=un be.out.val be.out.dv;have dI:=h_ cK;have cq:=nI m.l m.hI m.hF m.s.hS m.run true;rw[<-cK]at cq
     have bD:0<=t0.run:=by have e:t0.p.run=t0.run:=rfl;omega
     have bJ:t0.run<=1099511627776:=by have e:t0.p.run=t0.run:=rfl;omega
     have eb:=h_ (show t0.h8=0->Way m.l t0.p from λ_=>by rw[cK];exact nH);clear cK cq
     go_upto_region 14 with(first|(refine iB rfl 26 _ rfl gx 0 r_ 43 ({m with run:=m.run+1}:Md).g_ #[.slice m.A m.l.length m.c,i_ m.hI,i_ m.hF] z.x (Md.code _) _ underlying26 rfl k_ ?_)|(refine iB rfl 32 _ rfl gx 4 r_ 43 ({m with run:=m.run+1}:Md).g_ #[.slice m.dA m.d.length m.dc] z.x (Md.div _) _ underlying32 rfl k_ ?_)|(refine iB rfl 35 _ rfl gx 5 r_ 43 ({m with run:=m.run+1}:Md).g_ #[.slice m.s.h.A m.s.h.l.length m.s.h.c] z.x (Md.heap _) _ underlying35 rfl k_ ?_)|(refine kT cI underlying53 ?_)|(go_at_call 50;((with_reducible refine(yx m.A m.c m.l m.hI m.hF m.dA m.dc m.d t0 m.s.h.A m.s.h.c m.s.h.l _ z.i.l o_ z.i.d o_ ce z.i.s.h dS.out o_ bD bJ eb.out).mono ?_));unfold m7;rintro e X⟨t1,rfl,E,cR,G⟩)|(refine kQ (t1.g_) (cI.hG G) (Tk.one _) ?_;intro aY c9 aC))
     replace z:=(z.hG G).one (cI.hG G) d_ (.inr be.out.ts) d_ eW aC;replace ad:=(ad.hG G).one (cI.hG G) d_ d_ aC;replace E:=E.iu (cI.hG G) d_ aC;clear cI G aC ce eb bD bJ;have c9:=c9
     have dF:t1.p=mW m.l m.hI m.hF m.d m.s.p m.run:=by rw[cR,bL.out,dI.out];rfl
     clear cR;have dx:=h_ be.out.val;have cp:=h_ (show TF t1.p by rw[dF];exact rf be.out.val U.2.1 _ _);have du:Hid (TG mJ t1.p):=h_ (by rw[dF];exact tp be.out.val U.2.1 (be.out.cm.DM be.out.val o_) dW o_);have eK:=h_ (show ∀r∈t1.nw.l,mJ r.o.id from λr hr=>(du.out.nw r.o (EM.2 ⟨r,hr,rfl⟩)).1);have eM:=h_ (show ∀c∈t1.ws.l,mJ c.id from λc hc=>(du.out.ws c hc).1.elim id (λe=>e▸wf64_1));have eL:=h_ dF;clear dF du bL dI;have hn0: -1<=t1.next:=cp.out.n0;have eZ:t1.next<=3000:=cp.out.n1;have cw:aY.cell? (c_ c6 42)=some (i_ t1.h8):=(c9.f_ 42).trans rfl
     go_upto_if 89 with fail
     go_cut [7] (λ_ aX=>∃(d3:OA) (dK:List Fo) (d4:Nat),MW w B g gr gx ({m with run:=m.run+1}:Md) aX/\MQ w gq d3 dK d4 aX/\Cc (k+1) dK/\Bk aX c6 53 t1.g_/\lb aX t1)
     case first=>
      by_cases cj:t1.h8=2
      .have bN:(t1.h8==2)=true:=by simp[cj]
       have z0:aY.cell? (c_ c6 0)=some (i_ t1.hS):=(c9.f_ 0).trans rfl;have d7:aY.cell? (c_ c6 43)=some (i_ t1.next):=(c9.f_ 43).trans rfl;have bj:aY.cell? (c_ gq 0)=some (.slice sA fl.length sc):=(ad.q.f_ 0).trans rfl;clear cj
       go_wp2_with (first|(go_at_call 51;((with_reducible refine(yn sA sc fl t1.hS t1.next _ ad.f (ov aj.len) (λf hf=>by have:=aj.n f hf;omega)).mono ?_));unfold x6;rintro e aR⟨av,bp,rfl,eR,cO,aU⟩)|(refine kQ (#[.slice av (li fl t1.hS t1.next).length bp]) (ad.q.hG aU) (by simp[Value.oneCell']) ?_;intro wc BK bC))
       go_meet;have dL:=ad.hG aU;exact⟨av,li fl t1.hS t1.next,bp,(z.hG aU).one dL.q d_ (.inl d_) d_ ad.b bC,⟨BK,Sl.iu eR dL.q d_ bC,ad.b⟩,aj.C2 _ _ hn0 eZ,(c9.hG aU).gr bC (zu ((c9.hG aU).lZ dL.q d_)),(E.hG aU).iu dL.q d_ bC⟩
      .have bN:(t1.h8==2)=false:=by simp[cj]
       clear cj;go_wp2;go_meet;exact⟨sA,fl,sc,z,ad,aj.mono o_,c9,E⟩
     case rest=>
      obtain⟨d3,dK,d4,cv,eS,ar,eV,cJ⟩:=hcut;clear z ad aj c9 E cw;have z:=cv;have E:=cJ;clear cv cJ
      go_wp2_with (first|(refine iB rfl 26 _ rfl gx 0 r_ 43 ({m with run:=m.run+1}:Md).g_ #[.slice m.A m.l.length m.c,i_ m.hI,i_ m.hF] z.x (Md.code _) _ underlying26 rfl k_ ?_)|(refine iB rfl 40 _ rfl gx 5 r_ 43 ({m with run:=m.run+1}:Md).g_ m.s.g_ z.x (Md.com _) _ underlying40 rfl k_ ?_)|(refine kT eV underlying53 ?_)|(go_at_call 52;have dT:=uP m.A m.c m.l m.hI m.hF m.s t1 _ z.i.l o_ z.i.s E cp.out.sm o_ o_ eK.out eM.out o_ o_ o_ o_ cp.out.s0 (by have h1:=cp.out.s1;have e:t1.p.hM=t1.hM:=rfl;omega);rw[dx.out]at dT;refine dT.mono ?_;clear dT;unfold uv;rintro e dO⟨b0,rfl,cj,e1,V⟩)|(refine jc rfl 40 _ _ rfl gx 5 r_ (b0.g_) r_ 43 ({m with run:=m.run+1}:Md).g_ (z.hG V).x (by simp[Md.g_,Cm.g_]) k_ (Cm.one _) ?_;intro e6 v bA))
      have dU:=h_ (be.out.commit dn.out (by rw[<-aW.out];exact ae.out) (s:=b0) (by rw[e1,eL.out]));go_roundw
      case rel=>exact⟨n-1,k+1,{m with s:=b0,run:=m.run+1},d3,dK,d4,rfl,o_,o_,(z.hG V).set bA v (λhi=>⟨hi.l,hi.k2,hi.al,hi.d,hi.dl,cj.iu (z.hG V).x d_ bA,hi.ts⟩),(eS.hG V).one (z.hG V).x d_ d_ bA,dU.out,ar⟩
      case measure=>exact mz
   .have bn:(0<n)=False:=by simp[hp]
    have hcb:=hL.cm.cb hL.val;have U:=kl hL.val
    have b1:m.s.h.l.length<=4000002:=by have h1:=hcb.1.h;have e:m.s.p.h.length=m.s.h.l.length:=h9 _;omega
    have b2:m.s.h7.l.length<=4000000:=by have h1:=hcb.1.h7;have e:m.s.p.h7.length=m.s.h7.l.length:=rfl;omega
    have b3: -1<=m.s.hS:=hcb.1.st0;have dJ:m.s.hS<=3000:=hcb.1.st1;have ev:0<=m.s.hM:=hcb.1.p0
    have dZ:m.s.hM<=100000:=by have h1:=hcb.1.p1;have e:m.s.p.hM=m.s.hM:=rfl;omega
    have bX:0<=m.s.jp:=hcb.1.a0
    have b7:m.s.jp<=8:=by have h1:=hcb.1.a1;have e:m.s.p.jp=m.s.jp:=rfl;omega
    have eQ:0<=m.s.iR:=hcb.1.t0
    have eO:m.s.iR<=8:=by have h1:=hcb.1.t1;have e:m.s.p.iR=m.s.iR:=rfl;omega
    have dW:0<=m.run:=hcb.2.1
    have eP:m.run<=8:=by have h1:=hcb.2.2;omega
    have aQ:wr.cell? (c_ gx 0)=some (.slice m.A m.l.length m.c):=(z.x.f_ 0).trans rfl;have be:=h_ hL;have dn:=h_ bR;clear hcb hL bR aQ
    go_upto_region 19 with fail
    refine hQ (λw'=>w'.cell? (c_ gx 0)=some (.slice m.A m.l.length m.c)/\w'.cell? (c_ gx 1)=some (i_ m.hI)/\w'.cell? (c_ gx 2)=some (i_ m.hF)/\w'.cell? (c_ gq 0)=some (.slice sA fl.length sc)/\w'.cell? (c_ gx 6)=some (i_ m.s.hS)) 11 k_ ?_;obtain⟨W,aT⟩:=nm_ wr.drew;rw[<-aT]
    replace z:MW w B g gr gx m W:=by rw[aT];exact z.hG (F_ [] wr).drew
    replace ad:MQ w gq sA fl sc W:=by rw[aT];exact ad.hG (F_ [] wr).drew
    clear aT
    refine nt ⟨(z.x.f_ 0).trans rfl,(z.x.f_ 1).trans rfl,(z.x.f_ 2).trans rfl,(ad.q.f_ 0).trans rfl,(z.x.f_ 6).trans rfl⟩ λC=>?_
    repeat refine jW C ?_
    refine h4 7 λK H=>?_
    go_simp
    (go_at_call 19;refine(iw B g 5 _ z.d o_ o_).mono ?_;rintro e Y⟨r,rfl,bD,bJ,bO,ah⟩)
    obtain⟨dz,bK⟩:=z.d.bk;replace ad:=ad.one bK d_ d_ ah;replace z:=z.dice ah bO;clear C bK bO ah
    refine h5 H ⟨(z.x.f_ 0).trans rfl,(z.x.f_ 1).trans rfl,(z.x.f_ 2).trans rfl,(ad.q.f_ 0).trans rfl,(z.x.f_ 6).trans rfl⟩ λC=>?_
    clear H K;have qF:IntKind.i64.wrap (1+r)=1+r:=E2 _ o_;refine iP 8 C ?_
    refine h4 9 λK H=>?_
    go_simp
    (go_at_call 53;((with_reducible refine(y4 m.A m.c m.l m.hI m.hF sA sc fl m.s.hS (1+r) _ z.i.l o_ ad.f (ov aj.len) (λf hf=>by have:=aj.dst f hf;omega) o_ o_).mono ?_));unfold B_;rintro e ax⟨eN,xc,xs,rfl,R,cU,bw,aB⟩)
    replace z:=z.hG aB;replace ad:=ad.hG aB;clear C aB qF bD bJ
    refine h5 H ⟨(z.x.f_ 0).trans rfl,(z.x.f_ 1).trans rfl,(z.x.f_ 2).trans rfl,(ad.q.f_ 0).trans rfl,(z.x.f_ 6).trans rfl⟩ λC=>?_
    clear H K;refine iP 10 C ?_;refine hN k_ ?_ _;clear C ad aj;clear aI;go_wp2;have dS:=h_ (tk be.out.val be.out.dv);have dM:=un be.out.val be.out.dv
    go_loopw [122] (λap wr=>∃(k:Nat) (ts:List Tk) (tA:OA) (tc:Nat),ap=i_ k/\k<=xs.length/\ts.length=k/\MW w B g gr gx ({m with run:=m.run+k,tA:=tA,tc:=tc,ts:=ts}:Md) wr/\wr.ownsRow w.heap.size 53 48 (.slice tA k tc) k (ts.flatMap λt:Tk=>t.g_.toList)/\Ns wr 3 eN xs/\(∀(j:Nat) (hj:j<ts.length) (hx:j<xs.length),∃ik:Bool,ts[j].p=(jo m.l m.hI m.hF xs[j] (m.run+j) ik).1)) (λap _=>xs.length-(intOf ap).toNat)
    case atStart=>exact⟨0,[],none,0,gn,O_ _,rfl,(by rw[be.out.m0];exact z),iV _ _ _ _,R,λj hj=>by cases hj⟩
    case round=>
     obtain⟨dj,cr⟩:=nm_ k;rw[<-cr]at be eD;have eu:dj<=8:=o_;clear z R eD cr;obtain⟨k,ts,tA,tc,rfl,hk,cV,z,aF,R,cH⟩:=hrel;have a:=h_ cV;have cX:=h_ cH;clear cV cH
     by_cases ag:k<xs.length
     .obtain⟨bx,eJ,eU,d2⟩:=R.at_ ag;have d1:=bw _ (N_ ag);have bP: -1000000000<=xs[k]:=d1.2.2.1;have ck:xs[k]<=1000000000:=d1.2.2.2;subst eU
      go_upto_region 23 with fail
      go_cut [13] (λp aX=>∃(t0:Tk) (x:Nat) (ik:Bool),p=q_ x/\Bk aX x 53 t0.g_/\lb aX t0/\t0.p=(jo m.l m.hI m.hF xs[k] (m.run+k) ik).1/\iQ aX B g/\Gr [g] wr aX)
      case first=>
       refine hQ (λw'=>w'.cell? (c_ gx 0)=some (.slice m.A m.l.length m.c)/\w'.cell? (c_ gx 1)=some (i_ m.hI)/\w'.cell? (c_ gx 2)=some (i_ m.hF)/\w'.cell? (c_ gx 16)=some (i_ (m.run+k))) 15 k_ ?_;obtain⟨W,aT⟩:=nm_ wr.drew;rw[<-aT];have dX:w.heap.size<=wr.heap.size:=z.g.size
       have HG:Gr [g] wr W:=by rw[aT];exact(F_ [g] wr).drew
       replace z:MW w B g gr gx ({m with run:=m.run+k,tA:=tA,tc:=tc,ts:=ts}:Md) W:=by rw[aT];exact z.hG (F_ [] wr).drew
       clear aT
       refine nt ⟨(z.x.f_ 0).trans rfl,(z.x.f_ 1).trans rfl,(z.x.f_ 2).trans rfl,(z.x.f_ 16).trans rfl⟩ λC=>?_
       (repeat refine jW C ?_)
       refine ji 6 12 rfl rfl k_ (λK H=>?_) (λK H=>?_)
       .go_simp
        (go_at_call 19;refine(iw B g 3 _ z.d o_ o_).mono ?_;rintro e Y⟨r,rfl,bD,bJ,bO,ah⟩)
        replace z:=z.dice ah bO;replace HG:Gr [g] wr Y:=HG.trans ah;clear C;have C:Y.cell? (c_ gx 0)=some (.slice m.A m.l.length m.c)/\Y.cell? (c_ gx 1)=some (i_ m.hI)/\Y.cell? (c_ gx 2)=some (i_ m.hF)/\Y.cell? (c_ gx 16)=some (i_ (m.run+k)):=⟨(z.x.f_ 0).trans rfl,(z.x.f_ 1).trans rfl,(z.x.f_ 2).trans rfl,(z.x.f_ 16).trans rfl⟩;clear bO ah
        refine h5 H C λC=>?_
        clear H K;obtain⟨ik,bV⟩:=mn_ (r==0);refine iP 7 C ?_
        try simp only[bV]
        clear bV bD bJ;refine ji 8 12 rfl rfl k_ (λK H=>?_) (λK H=>?_)
        .go_simp
         (go_at_call 49;((with_reducible refine(nW m.A m.c m.l m.hI m.hF xs[k] (m.run+k) ik _ z.i.l o_ o_ o_ o_ o_).mono ?_));unfold m7;rintro e aD⟨t0,rfl,cu,cK,aN⟩)
         replace z:=z.hG aN;replace HG:Gr [g] wr aD:=HG.trans (aN.of_nil [g]);clear C;have C:aD.cell? (c_ gx 0)=some (.slice m.A m.l.length m.c)/\aD.cell? (c_ gx 1)=some (i_ m.hI)/\aD.cell? (c_ gx 2)=some (i_ m.hF)/\aD.cell? (c_ gx 16)=some (i_ (m.run+k)):=⟨(z.x.f_ 0).trans rfl,(z.x.f_ 1).trans rfl,(z.x.f_ 2).trans rfl,(z.x.f_ 16).trans rfl⟩;clear aN
         refine h5 H C λC=>?_
         clear H K
         repeat refine jW C ?_
         refine h4 12 λK H=>?_
         go_simp;have hb:Bk (aD.alloc (.cells lv 53)) aD.heap.size 53 lv:=P_ aD _ _;have az:aD.heap.size≠g:=ov z.d.lt;have cW:wr.heap.size<=aD.heap.size:=HG.size;replace z:=z.hG ((F_ [] aD).alloc (.cells lv 53));replace HG:Gr [g] wr (aD.alloc (.cells lv 53)):=HG.alloc _;replace cu:=cu.hG ((F_ [] aD).alloc (.cells lv 53));obtain⟨X,co⟩:=nm_ (aD.alloc (.cells lv 53));rw[<-co]at hb z HG cu |-;clear C;have C:X.cell? (c_ gx 0)=some (.slice m.A m.l.length m.c)/\X.cell? (c_ gx 1)=some (i_ m.hI)/\X.cell? (c_ gx 2)=some (i_ m.hF)/\X.cell? (c_ gx 16)=some (i_ (m.run+k)):=⟨(z.x.f_ 0).trans rfl,(z.x.f_ 1).trans rfl,(z.x.f_ 2).trans rfl,(z.x.f_ 16).trans rfl⟩;clear co;generalize aD.heap.size=x at*
         refine h5 H C λC=>?_
         clear H K;exact HE
        .go_simp;have hb:Bk (Y.alloc (.cells lv 53)) Y.heap.size 53 lv:=P_ Y _ _;have az:Y.heap.size≠g:=ov z.d.lt;have cW:wr.heap.size<=Y.heap.size:=HG.size;replace z:=z.hG ((F_ [] Y).alloc (.cells lv 53));replace HG:Gr [g] wr (Y.alloc (.cells lv 53)):=HG.alloc _;obtain⟨X,co⟩:=nm_ (Y.alloc (.cells lv 53));rw[<-co]at hb z HG |-;clear C;have C:X.cell? (c_ gx 0)=some (.slice m.A m.l.length m.c)/\X.cell? (c_ gx 1)=some (i_ m.hI)/\X.cell? (c_ gx 2)=some (i_ m.hF)/\X.cell? (c_ gx 16)=some (i_ (m.run+k)):=⟨(z.x.f_ 0).trans rfl,(z.x.f_ 1).trans rfl,(z.x.f_ 2).trans rfl,(z.x.f_ 16).trans rfl⟩;clear co;generalize Y.heap.size=x at*
         refine h5 H C λC=>?_
         clear H K;exact Hr
       .go_simp;have hb:Bk (W.alloc (.cells lv 53)) W.heap.size 53 lv:=P_ W _ _;have az:W.heap.size≠g:=ov z.d.lt;have cW:wr.heap.size<=W.heap.size:=HG.size;replace z:=z.hG ((F_ [] W).alloc (.cells lv 53));replace HG:Gr [g] wr (W.alloc (.cells lv 53)):=HG.alloc _;obtain⟨X,co⟩:=nm_ (W.alloc (.cells lv 53));rw[<-co]at hb z HG |-;clear C;have C:X.cell? (c_ gx 0)=some (.slice m.A m.l.length m.c)/\X.cell? (c_ gx 1)=some (i_ m.hI)/\X.cell? (c_ gx 2)=some (i_ m.hF)/\X.cell? (c_ gx 16)=some (i_ (m.run+k)):=⟨(z.x.f_ 0).trans rfl,(z.x.f_ 1).trans rfl,(z.x.f_ 2).trans rfl,(z.x.f_ 16).trans rfl⟩;clear co;generalize W.heap.size=x at*
        refine h5 H C λC=>?_
        clear H K
        refine h4 6 λK H=>?_
        go_simp
        (go_at_call 19;refine(iw B g 3 _ z.d o_ o_).mono ?_;rintro e Y⟨r,rfl,bD,bJ,bO,ah⟩)
        replace z:=z.dice ah bO;replace HG:Gr [g] wr Y:=HG.trans ah;replace hb:=hb.gr ah (zu az);clear C;have C:Y.cell? (c_ gx 0)=some (.slice m.A m.l.length m.c)/\Y.cell? (c_ gx 1)=some (i_ m.hI)/\Y.cell? (c_ gx 2)=some (i_ m.hF)/\Y.cell? (c_ gx 16)=some (i_ (m.run+k)):=⟨(z.x.f_ 0).trans rfl,(z.x.f_ 1).trans rfl,(z.x.f_ 2).trans rfl,(z.x.f_ 16).trans rfl⟩;clear bO ah
        refine h5 H C λC=>?_
        clear H K;obtain⟨ik,bV⟩:=mn_ (r==0);refine iP 7 C ?_
        try simp only[bV]
        clear bV bD bJ;exact Hr
      case rest=>
       obtain⟨t0,x,ik,rfl,hb,cu,cK,dB,aN⟩:=hcut;obtain⟨dz,bK⟩:=z.d.bk;have eG:Ns wc 3 (some (c_ bx eJ)) xs:=Sl.iu R bK d_ aN;have b6:=kH aF bK d_ aN;have cD:=z.dice aN dB;have dI:=h_ cK;clear z aF R bK aN dB d2 cK d1 bP ck;have dR:wc.cell? (c_ gx 16)=some (i_ (m.run+k)):=(cD.x.f_ 16).trans rfl;have d6:=cD.x.hH 16
       go_upto_region 25 with fail
       have M:Gr [gx] wc (wc.setCell (c_ gx 16) (i_ (m.run+k+1))):=(F_ [gx] wc).setCell (.inl s_) _;have eF:x≠gx:=hb.lZ cD.x d_;replace hb:=hb.gr M (zu eF);replace cu:=cu.iu cD.x d_ M;have eH:Ns (wc.setCell (c_ gx 16) (i_ (m.run+k+1))) 3 (some (c_ bx eJ)) xs:=Sl.iu eG cD.x d_ M;replace b6:=kH b6 cD.x d_ M;have bT:MW w B g gr gx ({m with run:=m.run+k+1,tA:=tA,tc:=tc,ts:=ts}:Md) (wc.setCell (c_ gx 16) (i_ (m.run+k+1))):=cD.set M (cD.x.hW 16 _) (λhi=>⟨hi.l,hi.k2,hi.al,hi.d,hi.dl,hi.s,hi.ts⟩);clear cD M eF dR d6 eG;obtain⟨bq,di⟩:=nm_ (wc.setCell (c_ gx 16) (i_ (m.run+k+1)));rw[<-di]at bT eH b6 cu hb |-;clear di
       have dG:bq.cell? (c_ gx 15)=some (.slice tA k tc):=by rw[<-a.out];exact(bT.x.f_ 15).trans rfl
       have aP:Gr [] bq (bq.alloc (.cells t0.g_ 53)):=(F_ [] bq).alloc _;have aH:=bT.hG aP;have db:=iK b6 aP;have cN:Sl (bq.alloc (.cells t0.g_ 53)) 53 48 (j_ bq.heap.size) 1 t0.g_.toList:=jj (n:=1) (s:=48) (P_ bq 53 t0.g_) rfl;have hbs:w.heap.size<=(bq.alloc (.cells t0.g_ 53)).heap.size:=G_ bT.g.size aP.size;refine wp_region_lit ?_;refine Cn rfl ?_
       try simp only[a_]
       refine Cn rfl ?_
       try simp only[a_]
       refine kT hb underlying53 ?_
       try simp only[a_]
       refine Great.wpList_buildSliceTo rfl 41 53 1 _ rfl bq.heap.size rfl _ rfl underlying41 t0.g_ k_ ?_
       try simp only[a_]
       refine iL _ rfl (.tmp 143) (.tmp 145) 41 rfl w.heap.size 53 bF _ 48 480 underlying41 bE bt a8 bo r_ d_ d_ tA k tc _ rfl db (j_ bq.heap.size) 1 1 t0.g_.toList rfl cN (Cr t0) o_ hbs ?_;intro av ai X aq ao;have dG:X.cell? (c_ gx 15)=some (.slice tA k tc):=(by rw[<-a.out];exact((ao.bk aH.x d_).f_ 15).trans rfl);have e7:=(ao.bk aH.x d_).hH 15
       try simp only[a_]
       refine Cn rfl ?_
       try simp only[a_]
       refine ni rfl (λK H=>?_);go_simp;refine H.out _ _ ?_;clear H K;refine wpList_nil ?_;go_wp2;go_roundw
       case rel=>
        have b5:X.ownsRow w.heap.size 53 48 (.slice av (k+1) ai) (k+1) ((ts++[t0]).flatMap λt:Tk=>t.g_.toList):=by
         simpa using aq
        have ca:(ts++[t0]).length=k+1:=by rw[J_,a.out];rfl
        have aw:Ts X av (ts++[t0]):=by
         have h:=Sl.iT b5
         show Sl X 53 48 av (ts++[t0]).length _
         rw[ca];exact h
        have c8:=aH.append (c:=ai) ao ca aw (λt ht=>by
         rcases X_.1 ht with ht|ht
         .exact aH.i.ts.xH t ht
         .rw[I_.1 ht]
          exact cu.hG aP)
        have cx:=ao.bk aH.x d_;have au:Gr [gx] X (X.setCell (c_ gx 15) (.slice av (k+1) ai)):=(F_ [gx] X).setCell (.inl s_) _;refine⟨k+1,ts++[t0],av,ai,gn,o_,ca,?_,kH b5 cx d_ au,Sl.iu (ao.sl (Sl.hG eH aP) d_) cx d_ au,?_⟩
        .have e:m.run+((k+1:Nat):Int)=m.run+k+1:=o_;rw[e];exact c8
        .intro j hj hx
         by_cases cC:j<ts.length
         .rw[Fh cC];exact cX.out j cC hx
         .have:j=k:=by rw[ca]at hj;have:=a.out;omega
          subst this;rw[Fq o_];refine⟨ik,?_⟩;have aS:([t0]:List Tk)[j-ts.length]'(by have:=a.out;simp;omega)=t0:=s_;rw[aS];exact dI.out
       case measure=>exact mz
     .have dH:k=xs.length:=o_
      have ea:=h_ (show wu m.l m.hI m.hF m.d m.s.p.h m.run 0 (ts.map Tk.p) from .hS _ (by rw[E5,a.out];omega) (λj hj=>by
       have eY:j<ts.length:=zu hj;have et:j<xs.length:=ov a.out;obtain⟨ik,hp⟩:=cX.out j eY et
       exact⟨xs[j],ik,bw _ (N_ et),by rw[FR];exact hp⟩))
      have e3:k<=16:=o_;have e5:((k:Int)<(xs.length:Int))=False:=p_;clear hk ag cX R bw dH;obtain⟨dz,bK⟩:=z.d.bk
      go_upto_region 28 with(go_at_call 19;refine(iw B g 40 _ z.d o_ o_).mono ?_;rintro e Y⟨n1,rfl,eC,e0,bO,ah⟩)
      have aw:k=0∨∃gb cur,tA=some (c_ gb 0)/\w.heap.size<=gb/\o3 Y gb cur ts:=by
       rcases Fd k with h|h
       .exact .inl h
       .have eE:=kH aF bK d_ ah;rw[<-a.out]at eE;obtain⟨gb,cur,h1,h2,h3⟩:=o3.iT eE (by rw[a.out];exact h);exact .inr ⟨gb,cur,h1,h2,h3⟩
      have d8:=h_ (jf aF);have ef:=z.dice ah bO;clear z aF bK ah bO
      go_loopw [15] (λap wr=>∃(n:Int) (j:Nat) (ts:List Tk),ap=i_ n/\0<=n/\n+j<=39/\ts.length=k/\MW w B g gr gx ({m with run:=m.run+k,tA:=tA,tc:=tc,ts:=ts}:Md) wr/\wu m.l m.hI m.hF m.d m.s.p.h m.run j (ts.map Tk.p)/\(k=0∨∃gb cur,tA=some (c_ gb 0)/\w.heap.size<=gb/\o3 wr gb cur ts)) (λap _=>(intOf ap).toNat)
      case atStart=>exact⟨n1,0,ts,rfl,eC,o_,a.out,ef,ea.out,aw⟩
      case round=>
       clear ef aw eC e0 ea a ts;obtain⟨n,j,ts,rfl,hn0,e4,cV,z,O,aw⟩:=hrel;have a:=h_ cV;have dw:=h_ O
       have dG:wr.cell? (c_ gx 15)=some (.slice tA k tc):=by rw[<-cV];exact(z.x.f_ 15).trans rfl
       clear cV O
       by_cases hp:0<n
       .have bn:(0<n)=True:=by simp[hp]
        rcases Fd k with b9|bM
        .have bI:((0:Int)<(k:Int))=False:=by simp[b9]
         have e2:(0<k)=False:=by simp[b9]
         clear b9 aw;exact HP
        .obtain⟨gb,cur,hA,aU,hR⟩:=aw.resolve_left o_;clear aw;subst hA
         have bI:((0:Int)<(k:Int))=True:=by simp[bM]
         have e2:(0<k)=True:=by simp[bM]
         go_upto_region 31 with(go_at_call 19;refine(iw B g (k:Int) _ z.d o_ o_).mono ?_;rintro e Y⟨r,rfl,bD,bJ,bO,ah⟩)
         obtain⟨i,rfl⟩:∃i:Nat,r=i:=⟨r.toNat,o_⟩;have dN:i<k:=o_
         have hi:i<ts.length:=by rw[a.out];exact dN
         have dg:gb≠g:=by have h1:=z.d.xa;have h2:=z.hB;omega
         replace hR:o3 Y gb cur ts:=⟨hR.bk.gr ah (zu dg),hR.row⟩;replace z:=z.dice ah bO;clear ah bO dg dG bD bJ
         have dG:Y.cell? (c_ gx 15)=some (.slice (j_ gb) k tc):=by rw[<-a.out];exact(z.x.f_ 15).trans rfl
         have cw:Y.cell? (c_ gb (i*48+42))=some (i_ (ts[i]).h8):=(hR.f_ hi 42 d_).trans rfl;have ej:=dw.out.tf be.out.val U.2.1;have cp:=h_ (show ∀t∈ts,TF t.p/\(t.h8=0->Way m.l t.p) from λt ht=>ej _ (EM.2 ⟨t,ht,rfl⟩));have ek:=dw.out.DM be.out.val U.2.1 (be.out.cm.DM be.out.val o_) dW o_;have du:=h_ (show ∀t∈ts,TG mJ t.p/\0<=t.p.run/\t.p.run<=1000000016 from λt ht=>ek _ (EM.2 ⟨t,ht,rfl⟩));clear ej ek;obtain⟨ax,cn⟩:=nm_ Y;rw[<-cn]at z hR dG cw |-;clear cn
         by_cases bz:(ts[i]).h8=0
         .rw[bz]at cw;have dV:=h_ bz;clear bz
          go_upto_region 32 with fail
          have cX:=h_ (show ∀t1:Tk,t1.p=jb m.l m.hI m.hF m.d (ts[i]).p (nj (hY m.s.h.l) (ts.map Tk.p) i)->wu m.l m.hI m.hF m.d m.s.p.h m.run (j+1) ((ts.set i t1).map Tk.p) from λt1 hp=>by
           have cy:=wu.step (l:=m.l) (hI:=m.hI) (hF:=m.hF) (d:=m.d) i (zu hi) dw.out (by rw[FR];exact dV.out);rw[List.map_set,hp];rw[FR]at cy
           exact cy)
          refine hQ (λw'=>w'.cell? (c_ gx 0)=some (.slice m.A m.l.length m.c)/\w'.cell? (c_ gx 1)=some (i_ m.hI)/\w'.cell? (c_ gx 2)=some (i_ m.hF)/\w'.cell? (c_ gx 4)=some (.slice m.dA m.d.length m.dc)/\w'.cell? (c_ gx 5)=some (.slice m.s.h.A m.s.h.l.length m.s.h.c)/\w'.cell? (c_ gx 15)=some (.slice (j_ gb) k tc)) 25 k_ ?_;obtain⟨W,aT⟩:=nm_ ax.drew;rw[<-aT]
          replace z:MW w B g gr gx ({m with run:=m.run+k,tA:=(j_ gb),tc:=tc,ts:=ts}:Md) W:=by rw[aT];exact z.hG (F_ [] ax).drew
          replace hR:o3 W gb cur ts:=by rw[aT];exact⟨hR.bk.hG (F_ [] ax).drew,hR.row⟩
          clear aT dG cw;have dr:=F_ [] W;have bP:=z.x;have C:W.cell? (c_ gx 0)=some (.slice m.A m.l.length m.c)/\W.cell? (c_ gx 1)=some (i_ m.hI)/\W.cell? (c_ gx 2)=some (i_ m.hF)/\W.cell? (c_ gx 4)=some (.slice m.dA m.d.length m.dc)/\W.cell? (c_ gx 5)=some (.slice m.s.h.A m.s.h.l.length m.s.h.c)/\W.cell? (c_ gx 15)=some (.slice (j_ gb) k tc):=⟨(bP.f_ 0).trans rfl,(bP.f_ 1).trans rfl,(bP.f_ 2).trans rfl,(bP.f_ 4).trans rfl,(bP.f_ 5).trans rfl,(by rw[<-a.out];exact(bP.f_ 15).trans rfl)⟩
          have dy:Hid (∀w',Gr [] W w'->Calls prog 40 #[.agg #[.slice m.s.h.A m.s.h.l.length m.s.h.c],.slice (j_ gb) k tc,i_ i] w' (mf (nj (hY m.s.h.l) (ts.map Tk.p) i) w')):=h_ (by
           intro w' hg;have h:=zy m.s.h.A m.s.h.c m.s.h.l (j_ gb) tc ts i w' (z.i.s.h.hG hg) o_ (z.i.ts.hG hg) (by rw[a.out];omega) (λt ht=>(cp.out t ht).1.sm) o_;rw[a.out]at h
           exact h)
          have bY:Hid (∀(cg:OA) (vc:Nat) (b:List Rw) (w':World),Gr [] W w'->mj w' cg vc b->hY b=nj (hY m.s.h.l) (ts.map Tk.p) i->Calls prog 39 #[.agg #[.slice m.A m.l.length m.c,i_ m.hI,i_ m.hF],.agg #[.slice m.dA m.d.length m.dc],.agg (ts[i]).g_,.agg #[.slice cg b.length vc]] w' (m7 (jb m.l m.hI m.hF m.d (ts[i]).p (nj (hY m.s.h.l) (ts.map Tk.p) i)) 0 w')):=h_ (by
           intro cg vc b w' hg hv ho;have dD:=N_ hi;obtain⟨bH,b8⟩:=cp.out _ dD;have cT:=b8 dV.out;have cQ:=cT.lo;have eX:=cT.hi;have a7:=cT.s0;have cG:=bH.s1;obtain⟨_,bW,r1⟩:=du.out _ dD
           have iM:b.length<=99999999:=by
            have aJ:=h9 b;rw[ho]at aJ
            have aG:=vb ((ts.map Tk.p).take (i:Int).toNat) (hY m.s.h.l) (n:=500000) (λt ht=>by
             obtain⟨u,hu,rfl⟩:=EM.1 (Ff ht)
             exact(cp.out u hu).1.sm.nw)
            have bQ:=h9 m.s.h.l
            have b4:((ts.map Tk.p).take (i:Int).toNat).length<=16:=by
             rw[E1,E5,a.out];omega
            unfold nj at aJ;omega
           have h:=t8 m.A m.c m.l m.hI m.hF m.dA m.dc m.d (ts[i]) cg vc b w' (Sl.hG z.i.l hg) o_ (Sl.hG z.i.d hg) o_ ((z.i.ts.xH _ dD).hG hg) hv dS.out dV.out bH.sm iM cQ (by have e:(ts[i]).p.pc=(ts[i]).pc:=rfl;omega) bW (by have e:(ts[i]).p.run=(ts[i]).run:=rfl;omega) a7 (by have e:(ts[i]).p.hM=(ts[i]).hM:=rfl;omega);rw[ho]at h
           exact h)
          have aL:i*48+48<=cur.size:=by
           have h1:=hR.size;rw[a.out]at h1;omega
          (iterate 11 refine jW C ?_)
          refine iP 12 C ?_;refine iP 13 C ?_;refine iP 14 C ?_;refine iP 15 C ?_;refine iP 16 C ?_;refine iP 17 C ?_;refine ji 11 18 rfl rfl k_ (λK H=>?_) (λK H=>?_)
          .rw[T_ r_];refine oD 53 _ rfl gb (i*48) r_ 53 cur (ts[i]).g_ hR.bk (hR.at hi) _ underlying53 rfl k_ ?_
           refine h5 H C λC=>?_
           clear H K
           refine h4 18 λK H=>?_
           go_simp
           (go_at_call 40;((with_reducible refine(dy.out _ dr).mono ?_));unfold mf;rintro e d5⟨cg,vc,b,rfl,dm,df,D⟩)
           clear C
           refine h5 H (by
            have hx:=(z.hG D).x
            exact⟨(hx.f_ 0).trans rfl,(hx.f_ 1).trans rfl,(hx.f_ 2).trans rfl,(hx.f_ 4).trans rfl,(hx.f_ 5).trans rfl,(by rw[<-a.out];exact(hx.f_ 15).trans rfl)⟩) λC=>?_
           exact Hj
          .go_simp
           (go_at_call 40;((with_reducible refine(dy.out _ dr).mono ?_));unfold mf;rintro e d5⟨cg,vc,b,rfl,dm,df,D⟩)
           clear C
           refine h5 H (by
            have hx:=(z.hG D).x
            exact⟨(hx.f_ 0).trans rfl,(hx.f_ 1).trans rfl,(hx.f_ 2).trans rfl,(hx.f_ 4).trans rfl,(hx.f_ 5).trans rfl,(by rw[<-a.out];exact(hx.f_ 15).trans rfl)⟩) λC=>?_
           clear H K
           refine h4 11 λK H=>?_
           rw[T_ r_];refine oD 53 _ rfl gb (i*48) r_ 53 cur (ts[i]).g_ (hR.bk.hG D) (hR.at hi) _ underlying53 rfl k_ ?_
           refine h5 H C λC=>?_
           exact Hj
         .have bN:((ts[i]).h8==0)=false:=by simp[bz]
          obtain⟨st,dt⟩:=mn_ ((ts[i]).h8);rw[dt]at cw bN;clear bz dt cp du;go_wp2;go_roundw
          case rel=>exact⟨n-1,j,ts,rfl,o_,o_,a.out,z,dw.out,.inr ⟨gb,cur,rfl,aU,hR⟩⟩
          case measure=>exact mz
       .have bn:(0<n)=False:=by simp[hp]
        clear aw;exact HP
end Go.Proofs.YtenbhdilndfaeaaGreat
