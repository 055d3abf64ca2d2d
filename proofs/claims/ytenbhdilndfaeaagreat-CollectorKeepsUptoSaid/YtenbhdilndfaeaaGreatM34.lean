import Derived.Test.YtenbhdilndfaeaaGreatM33
set_option maxRecDepth 100000
set_option maxHeartbeats 0
set_option linter.all false
namespace Go.Proofs.YtenbhdilndfaeaaGreat
open Go.RowKit Go.Proofs.Tryz
variable{G:Prop}{k:Nat}{m:Md}{s:Cm}
def IL(h:G:=by
 clear Nu K;refine hY 19 λK Nu=>?_;go_simp;(go_at_call 39;((with_reducible refine(bT.out bp vc b d7 o dt c7).mono ?_));unfold ns;rintro e ws⟨t1,rfl,bU,cV,L⟩);clear C;refine h4 Nu (by
  have hx:=(z.hF (o.trans L)).x;exact⟨(hx.f_ 0).trans rfl,(hx.f_ 1).trans rfl,(hx.f_ 2).trans rfl,(hx.f_ 4).trans rfl,(hx.f_ 5).trans rfl,(by rw[<-a.out];exact(hx.f_ 15).trans rfl)⟩) λC=>?_
 clear Nu K;refine ir 20 C ?_;refine ir 21 C ?_;refine ir 23 C ?_;refine jj 22 24 rfl rfl k_ (λK Nu=>?_) (λK Nu=>?_)
 .go_simp;refine h4 Nu C λC=>?_;clear Nu K;refine hY 24 λK Nu=>?_;rw[U_ r_];refine jE 53 _ _ rfl gb (i*48) r_ t1.g_ r_ 53 _ (hR.bk.hF (o.trans L)) aS k_ (Tk.one _) ?_;intro bw cD am;clear C;refine h4 Nu (by
   have hx:=(z.hF (o.trans L)).x.gr am (zu (((hR.bk.hF (o.trans L)).l8 (z.hF (o.trans L)).x I).symm));exact⟨(hx.f_ 0).trans rfl,(hx.f_ 1).trans rfl,(hx.f_ 2).trans rfl,(hx.f_ 4).trans rfl,(hx.f_ 5).trans rfl,(by rw[<-a.out];exact(hx.f_ 15).trans rfl)⟩) λC=>?_
  exact Jk
 rw[U_ r_];refine jE 53 _ _ rfl gb (i*48) r_ t1.g_ r_ 53 _ (hR.bk.hF (o.trans L)) aS k_ (Tk.one _) ?_;intro bw cD am;clear C;refine h4 Nu (by
  have hx:=(z.hF (o.trans L)).x.gr am (zu (((hR.bk.hF (o.trans L)).l8 (z.hF (o.trans L)).x I).symm));exact⟨(hx.f_ 0).trans rfl,(hx.f_ 1).trans rfl,(hx.f_ 2).trans rfl,(hx.f_ 4).trans rfl,(hx.f_ 5).trans rfl,(by rw[<-a.out];exact(hx.f_ 15).trans rfl)⟩) λC=>?_
 clear Nu K;refine hY 22 λK Nu=>?_;go_simp;refine h4 Nu C λC=>?_;exact Jk):G:=h
def IU(h:G:=by
 refine hY 8 λK Nu=>?_;go_simp;(go_at_call 49;((with_reducible refine(og m.A m.c m.l m.hH m.hC xs[k] (m.run+k) ip _ z.i.l X X X X X).mono ?_));unfold ns;rintro e aF⟨t0,rfl,ct,cN,aP⟩);replace z:=z.hF aP;replace HG:J [g] wr aF:=HG.trans (aP.of_nil [g]);replace hb:=hb.hF aP;clear C;have C:aF.cell? (Z gx 0)=some (.slice m.A m.l.length m.c)/\aF.cell? (Z gx 1)=some (Y m.hH)/\aF.cell? (Z gx 2)=some (Y m.hC)/\aF.cell? (Z gx 16)=some (Y (m.run+k)):=⟨(z.x.f_ 0).trans rfl,(z.x.f_ 1).trans rfl,(z.x.f_ 2).trans rfl,(z.x.f_ 16).trans rfl⟩;clear aP;refine h4 Nu C λC=>?_;clear Nu K;repeat refine j2 C ?_
 exact I7):G:=h
def I7(h:G:=by
 refine hY 13 λK Nu=>?_;rw[U_ r_];refine ic 53 rfl x r_ t0.g_ r_ 53 hb rfl k_ (Tk.one _) ?_;intro aU bW aD;have bS:aU.cell? (Z gx 0)=some (.slice m.A m.l.length m.c)/\aU.cell? (Z gx 1)=some (Y m.hH)/\aU.cell? (Z gx 2)=some (Y m.hC)/\aU.cell? (Z gx 16)=some (Y (m.run+k)):=by
  have cz:=z.x.gr aD (by have:=hb.l8 z.x I;simpa using this.symm);exact⟨(cz.f_ 0).trans rfl,(cz.f_ 1).trans rfl,(cz.f_ 2).trans rfl,(cz.f_ 16).trans rfl⟩
 clear C;have C:=bS;clear bS;refine h4 Nu C λC=>?_;clear Nu K;refine hY 14 λK Nu=>?_;go_simp;refine h4 Nu C λC=>?_;clear Nu K;refine hM k_ ?_ _;go_wp2;go_meet;exact⟨t0,x,ip,rfl,bW,ct.iq hb I aD,cN,z.d.ih aD (λy hy=>by rw[J_]at hy;rw[hy];exact G_ z.hB (G_ dY cX)),HG.hI aD (λy hy=>.inr (by rw[J_]at hy;rw[hy];exact cX))⟩):G:=h
def Jg(h:G:=by
 go_wp2_with (first|(refine k2 z.x underlying43 ?_)|(refine kP (({m with run:=m.run+k,tA:=tA,tc:=tc,ts:=ts}:Md).g_) z.r (Md.one _) ?_;intro bw Nv am));obtain⟨aR,aZ,z3⟩:=z.fin am;exact rr_ ({m with run:=m.run+k,tA:=tA,tc:=tc,ts:=ts}:Md).g_ Nv underlying43 (by rw[ao.out];exact⟨({m with run:=m.run+k,tA:=tA,tc:=tc,ts:=ts}:Md),rfl,aR,⟨bg.out.val,bg.out.dv,⟨dj,m.run,ey,bg.out.cm,.inr ⟨dw.out,(by show m.run+(k:Int)=m.run+(ts.length:Int);rw[a.out]),j,X,dz.out⟩⟩,by show ts.length<=tc;rw[a.out];exact eb.out⟩,aZ,z3⟩)):G:=h
def Jk(h:G:=by
 clear Nu K;refine hM k_ ?_ _;have Nv:=hR.set (w':=bw) hi t1 cD;have c9:=((z.hF (o.trans L)).row (hR.bk.hF (o.trans L)) am aD (ts:=ts.set i t1) H Nv.sl (λt ht=>by
  rcases Gw ht with ht|rfl
  exact(z.i.ts.ye t ht).hF (o.trans L);exact bU))
 have be:=O cV;clear z hR C cV bT dB dx bV aS bU o L dt c7 cD am;go_wp2;go_roundw;exact⟨n-1,j+1,ts.set i t1,rfl,X,X,by rw[Gl];exact a.out,c9,cY.out t1 be.out,.inr ⟨gb,_,rfl,aD,Nv⟩⟩;exact mz):G:=h
def J9(h:G:=by
 go_wp2_with (first|(refine k2 z.x underlying43 ?_)|(refine kP (m.g_) z.r (Md.one _) ?_;intro bw Nv am));obtain⟨aR,aZ,z3⟩:=z.fin am;exact rr_ m.g_ Nv underlying43 (by rw[ao.out];exact⟨m,rfl,aR,cO.out,aZ,z3⟩)):G:=h
def infoTk:(prog.info? 53).map (λi=>(i.zero,i.size,i.bytes))=some (some (.agg Tk.zero.g_),48,480):=by kernel_rfl
structure L1(k:Nat)(m:Md):Prop where
 val:ia m.l m.hH m.hC=true
 dv:m.d.Sublist (kO m.l m.hH m.hC)
 ts:m.ts=[]
 tn:m.tA=none/\m.tc=0
 cm:uX m.l m.hH m.hC m.d m.lh k m.run m.s.p
def L1.m0(h:L1 k m):({m with run:=m.run+((0:Nat):Int),tA:=none,tc:=0,ts:=[]}:Md)=m:=by
 have a:=h.ts;obtain⟨b,c⟩:=h.tn;obtain⟨f,d,g,i,j,e,w,n,l,o,p,q,r,t,u,v⟩:=m;simp only at a b c;subst a;subst b;subst c;simp
def L1.ask(h:L1 k m)(a:m.s.jH=false)(h0:(ny m.l m.hH m.hC m.lh m.s.p).2=0)(b:s.p=(ny m.l m.hH m.hC m.lh m.s.p).1):L1 (k+1) {m with s:=s}:=
 ⟨h.val,h.dv,h.ts,h.tn,by show uX _ _ _ _ _ (k+1) m.run s.p;rw[b];exact h.cm.ask a h0⟩
def L1.commit(h:L1 k m)(a:m.s.jH=false)(h0:(ny m.l m.hH m.hC m.lh m.s.p).2≠0)(b:s.p=(kR true m.s.p (mP m.l m.hH m.hC m.d m.s.p m.run)).1):L1 (k+1) {m with s:=s,run:=m.run+1}:=
 ⟨h.val,h.dv,h.ts,h.tn,by show uX _ _ _ _ _ (k+1) (m.run+1) s.p;rw[b];exact h.cm.commit a h0⟩
def ww(B g:Nat)(w:World)(hd:iN w B g)(hB:B<=w.heap.size):
 Calls prog 11 #[q_ g] w (BW B g w):=by
 refine h6 λal ao=>?_;obtain⟨bu,bB,bt,a7,a6⟩:=info_parts infoTk;obtain⟨u,gr,M,an,aY,hR⟩:=box1 w 43 #[n_,Y 0,Y 0,n_,n_,n_,Y 0,Y 0,n_,.bool false,.bool false,.bool false,Y 0,Y 0,Y 0,n_,Y 0];go_enter func11,ntmps11;go_upto_region 2 with(first
  |(go_at_call 44;refine(BF B g (hd.hF aY) (G_ hB aY.size)).mono ?_;unfold Dj;rintro e r⟨bd,c,l,hH,hC,rfl,hl,hv,cj,a2,hg1⟩)
  |(go_at_call 45;refine(yQ B g a2 (G_ hB (G_ aY.size hg1.size))).mono ?_;rintro e w2⟨aA,ac,lh,rfl,c6,er,cM,Np⟩)
  |(refine wpList_build rfl rfl #[(0,.agg #[.slice bd l.length c,Y hH,Y hC]),(1,.agg #[.slice aA lh.length ac])] k_ (wP rfl) ?_))
 obtain⟨ar,gx,ce,aH,bf,G⟩:=box1 w2 43 #[.slice bd l.length c,Y hH,Y hC,.slice aA lh.length ac,n_,n_,Y 0,Y 0,n_,.bool false,.bool false,.bool false,Y 0,Y 0,Y 0,n_,Y 0];rw[ce,aH];obtain⟨m,hm⟩:=nm_ (⟨bd,c,l,hH,hC,aA,ac,lh,none,0,[],Cm.zero,none,0,[],0⟩:Md);have z:MW w B g gr gx m ar:=by
  obtain⟨dc,bH⟩:=a2.bk;have hbg:=a2.wx;have b5:=aY.size;have ca:=hg1.size;have cJ:=Np.size;have ag:=hR.lt;have n1:gr≠g:=X;have cG:=((hR.gr hg1 (zu n1)).gr Np (zu n1)).hF bf;refine⟨cG,by rw[hm];exact G,?_,cM.hF bf,((aY.of_nil [g]).trans (hg1.trans Np)).trans (bf.of_nil [g]),hB,X,X,X⟩;subst hm;exact⟨Sl.hF (Sl.iq hl bH I Np) bf,Sl.hF er bf,c6,GU _ _ _ _,H_ _,me.zero _ _ rfl rfl,⟨GU _ _ _ _,λt ht=>by cases ht⟩⟩
 have d1:ia m.l m.hH m.hC=true:=by rw[hm];exact hv
 have eC:m.ts=[]:=by rw[hm]
 have dh:m.run=0:=by rw[hm]
 have ez:m.tA=none/\m.tc=0:=by rw[hm];exact⟨rfl,rfl⟩
 clear hm G aH bf hl c6 er cM Np cj a2 hg1 hR an aY hd hv M;have bX:=kn d1;go_upto_region 3 with(first
  |(refine iC rfl 26 _ rfl gx 0 r_ 43 m.g_ #[.slice m.A m.l.length m.c,Y m.hH,Y m.hC] z.x (m.code) _ underlying26 rfl k_ ?_)
  |(go_at_call 46;refine(vu B g m.A m.c m.l m.hH m.hC z.i.l X z.d (G_ z.hB z.g.size)).mono ?_;unfold BZ;rintro e ae⟨dA,dc,d,rfl,db,dM,de,bh,ad⟩)
  |(refine jf rfl 32 _ _ rfl gx 4 r_ (#[.slice dA d.length dc]) r_ 43 m.g_ (z.dice ad bh).x (by first|decide|(simp[Md.g_,Cm.g_])) k_ (by simp[Value.oneCell']) ?_;intro f eK dE))
 replace z:=z.dice ad bh;have c8:MW w B g gr gx {m with dA:=dA,d:=d,dc:=dc} f:=z.set dE eK (λhi=>⟨hi.l,hi.lh,hi.al,Sl.iq db z.x I dE,dM,hi.s,hi.ts⟩);clear z dE eK db dM ad bh;obtain⟨v,bi⟩:=nm_ ({m with dA:=dA,d:=d,dc:=dc});rw[<-bi]at c8;have dO:ia v.l v.hH v.hC=true:=by rw[bi];exact d1
 have eD:v.ts=[]:=by rw[bi];exact eC
 have eB:v.run=0:=by rw[bi];exact dh
 have eA:v.tA=none/\v.tc=0:=by rw[bi];exact ez
 have eu:v.d.Sublist (kO v.l v.hH v.hC):=by rw[bi];exact de
 clear bi d1 eC dh ez de bX;have bX:=kn dO;go_upto_region 4 with(first
  |(refine iC rfl 26 _ rfl gx 0 r_ 43 v.g_ #[.slice v.A v.l.length v.c,Y v.hH,Y v.hC] c8.x (v.code) _ underlying26 rfl k_ ?_)
  |(go_at_call 47;refine(wQ v.A v.c v.l v.hH v.hC c8.i.l X).mono ?_;unfold uU;rintro e az⟨s,rfl,hs,dF,S⟩)
  |(refine jf rfl 40 _ _ rfl gx 5 r_ (s.g_) r_ 43 v.g_ (c8.hF S).x (by first|decide|(simp[Md.g_,Cm.g_])) k_ (Cm.one _) ?_;intro aF dR dr))
 replace c8:=c8.hF S;have R:MW w B g gr gx {v with s:=s} aF:=c8.set dr dR (λhi=>⟨hi.l,hi.lh,hi.al,hi.d,hi.dl,hs.iq c8.x I dr,hi.ts⟩);obtain⟨dk,dZ⟩:=nm_ ({v with s:=s});rw[<-dZ]at R;have eh:L1 0 dk:=by
  rw[dZ];refine⟨dO,eu,eD,eA,?_⟩;show uX _ _ _ _ _ 0 v.run s.p;rw[eB,dF,dO];exact .hQ
 clear c8 dr dR hs dF S dZ dO eD eB eA eu bX;have ed:=O eh;clear eh;obtain⟨bq,gq,eV,co,bA,ej⟩:=box1 aF 96 #[n_];have T:=R.hF bA;have em:MQ w gq none [] 0 bq:=⟨ej,GU _ _ _ _,ov R.g.size⟩;clear R bA ej;go_upto_region 6 with(go_at_call 19;refine(ij B g 9 T.d I I).mono ?_;rintro e D⟨n0,rfl,hn0,hn1,aI,bk⟩);obtain⟨df,et⟩:=T.d.bk;have aN:=T.dice bk aI;have ek:=em.one et I I bk;clear T em et aI bk;go_loopw [5] (λaq wr=>∃(n:Int) (k:Nat) (m:Md) (sA:OA) (V:QC) (sc:Nat),aq=Y n/\0<=n/\n+k<=8/\MW w B g gr gx m wr/\MQ w gq sA V sc wr/\L1 k m/\Dm k V) (λaq _=>(intOf aq).toNat)
 case atStart=>exact⟨n0,0,dk,none,[],0,rfl,hn0,X,aN,ek,ed.out,⟨H_ _,λbm hf=>(by cases hf),λbm hf=>(by cases hf)⟩⟩
 clear aN ek ed hn0 hn1;obtain⟨n,k,m,sA,V,sc,rfl,hn0,eF,z,r,N,au⟩:=hrel;have bv:wr.cell? (Z gx 9)=some (.bool m.s.jH):=(z.x.f_ 9).trans rfl;cases b8:m.s.jH with
 |true=>
  rw[b8]at bv;have cO:=O (show zT m from⟨N.val,N.dv,⟨k,m.run,X,N.cm,.inl ⟨b8,N.ts,rfl⟩⟩,by rw[N.ts];exact L_ _⟩);clear N au b8;by_cases W:0<n;have br:(0<n)=True:=by simp[W]
  exact J9;have br:(0<n)=False:=by simp[W]
  exact J9
 |false=>
  rw[b8]at bv;by_cases W:0<n
  .have br:(0<n)=True:=by simp[W]
   have A:=N.cm.cb N.val;have bX:=kn N.val;have b1:m.s.h.l.length<=4000002:=by have F:=A.1.h;have e:m.s.p.h.length=m.s.h.l.length:=h5 _;omega
   have b2:m.s.h8.l.length<=4000000:=by have F:=A.1.h8;have e:m.s.p.h8.length=m.s.h8.l.length:=rfl;omega
   have b3: -1<=m.s.hQ:=A.1.st0;have dC:m.s.hQ<=3000:=A.1.st1;have d9:0<=m.s.hK:=A.1.p0;have dG:m.s.hK<=100000:=by have F:=A.1.p1;have e:m.s.p.hK=m.s.hK:=rfl;omega
   have dD:0<=m.s.jn:=A.1.a0;have dJ:m.s.jn<=8:=by have F:=A.1.a1;have e:m.s.p.jn=m.s.jn:=rfl;omega
   have eS:0<=m.s.iU:=A.1.t0;have eQ:m.s.iU<=8:=by have F:=A.1.t1;have e:m.s.p.iU=m.s.iU:=rfl;omega
   have dX:0<=m.run:=A.2.1;have eR:m.run<=8:=by have F:=A.2.2;omega
   obtain⟨⟨cb,cc⟩,cZ⟩:∃q,q=ny m.l m.hH m.hC m.lh m.s.p:=⟨_,rfl⟩;have aX:=O cZ;have bg:=O N;have dw:=O b8;clear cZ A N b8;go_upto_region 9 with(first|(refine iC rfl 26 _ rfl gx 0 r_ 43 m.g_ #[.slice m.A m.l.length m.c,Y m.hH,Y m.hC] z.x (m.code) _ underlying26 rfl k_ ?_)|(refine iC rfl 29 _ rfl gx 3 r_ 43 m.g_ #[.slice m.aA m.lh.length m.ac] z.x (m.world) _ underlying29 rfl k_ ?_)|(refine iC rfl 40 _ rfl gx 5 r_ 43 m.g_ m.s.g_ z.x (m.com) _ underlying40 rfl k_ ?_)|(go_at_call 48;have ap:=zP m.A m.c m.l m.hH m.hC m.aA m.ac m.lh m.s z.i.l X z.i.lh (ov z.i.al) z.i.s X X X X X X X X;rw[<-aX.out]at ap;refine ap.mono ?_;clear ap;unfold uU;rintro e ae⟨s,rfl,hs,dF,ad⟩)|(refine kP (s.g_) (P_ ae 40 #[n_,Y 0,Y 0,n_,.bool false,.bool false,.bool false,Y 0,Y 0,Y 0]) (Cm.one _) ?_;intro f aO E));have cn:J [] ae f:=((F_ [] ae).alloc _).jN E (H_ _);replace z:=z.hF (ad.trans cn);replace r:=r.hF (ad.trans cn);replace hs:=hs.hF cn;clear ad cn E bv;generalize ae.heap.size=aK at*
   by_cases h0:cc=0
   .have bG:(cc==0)=true:=by simp[h0]
    have dV:=O (bg.out.ask dw.out (by rw[<-aX.out];exact h0) (s:=s) (by rw[<-aX.out];exact dF));clear h0 bg aX dw dF;go_wp2_with (first|(refine k2 aO underlying40 ?_)|(refine jf rfl 40 _ _ rfl gx 5 r_ (s.g_) r_ 43 m.g_ z.x (by first|decide|(simp[Md.g_,Cm.g_])) k_ (Cm.one _) ?_;intro aF dR dr));go_roundw;exact⟨n-1,k+1,{m with s:=s},sA,V,sc,rfl,X,X,z.set dr dR (λhi=>⟨hi.l,hi.lh,hi.al,hi.d,hi.dl,hs.iq z.x I dr,hi.ts⟩),r.one z.x I I dr,dV.out,au.mono X⟩;exact mz
   have bG:(cc==0)=false:=by simp[h0]
   have af:=O h0;clear h0 dF hs aO;have aL:f.cell? (Z gx 6)=some (Y m.s.hQ):=(z.x.f_ 6).trans rfl;have dS:f.cell? (Z gx 16)=some (Y m.run):=(z.x.f_ 16).trans rfl;have bl:=O (show mP m.l m.hH m.hC m.d m.s.p m.run=AN m.l m.hH m.hC m.d m.s.p.h (jm m.l m.hH m.hC m.s.hQ m.run true).1 from rfl);go_upto_region 12 with(first|(refine iC rfl 26 _ rfl gx 0 r_ 43 m.g_ #[.slice m.A m.l.length m.c,Y m.hH,Y m.hC] z.x (m.code) _ underlying26 rfl k_ ?_)|(go_at_call 49;((with_reducible refine(og m.A m.c m.l m.hH m.hC m.s.hQ m.run true _ z.i.l X X X X X).mono ?_));unfold ns;rintro e az⟨t0,rfl,ct,cN,S⟩)|(refine kP (t0.g_) (P_ az 53 lE) (Tk.one _) ?_;intro aF Q aP));have eY:w.heap.size<=az.heap.size:=G_ z.g.size S.size;have cF:J [] az aF:=((F_ [] az).alloc _).jN aP (H_ _);replace z:=z.hF (S.trans cF);replace r:=r.hF (S.trans cF);have bU:=ct.hF cF;have d8:=z.x.hG 16;replace dS:aF.cell? (Z gx 16)=some (Y m.run):=(z.x.f_ 16).trans rfl;clear S cF aP ct aL;generalize az.heap.size=cS at*
   go_upto_region 13 with fail;have L:J [gx] aF (aF.setCell (Z gx 16) (Y (m.run+1))):=(F_ [gx] aF).setCell (.inl H) _;have ev:cS≠gx:=Q.l8 z.x I;replace Q:=Q.gr L (zu ev);replace bU:=bU.iq z.x I L;replace r:=r.one z.x I I L;have T:MW w B g gr gx ({m with run:=m.run+1}:Md) (aF.setCell (Z gx 16) (Y (m.run+1))):=z.set L (z.x.hU 16 _) (λhi=>⟨hi.l,hi.lh,hi.al,hi.d,hi.dl,hi.s,hi.ts⟩);clear dS d8 z L ev;have z:=T;clear T;obtain⟨bN,di⟩:=nm_ (aF.setCell (Z gx 16) (Y (m.run+1)));rw[<-di]at z r bU Q |-;clear di;have dT:=O (tJ bg.out.val bg.out.dv);have dM:=uK bg.out.val bg.out.dv;have dI:=O cN;have cp:=nS m.l m.hH m.hC m.s.hQ m.run true;rw[<-cN]at cp
   have bC:0<=t0.run:=by have e:t0.p.run=t0.run:=rfl;omega
   have bJ:t0.run<=1099511627776:=by have e:t0.p.run=t0.run:=rfl;omega
   have eg:=O (show t0.h9=0->Way m.l t0.p from λ_=>by rw[cN];exact nR);clear cN cp;go_upto_region 14 with(first|(refine iC rfl 26 _ rfl gx 0 r_ 43 ({m with run:=m.run+1}:Md).g_ #[.slice m.A m.l.length m.c,Y m.hH,Y m.hC] z.x (Md.code _) _ underlying26 rfl k_ ?_)|(refine iC rfl 32 _ rfl gx 4 r_ 43 ({m with run:=m.run+1}:Md).g_ #[.slice m.dA m.d.length m.dc] z.x (Md.div _) _ underlying32 rfl k_ ?_)|(refine iC rfl 35 _ rfl gx 5 r_ 43 ({m with run:=m.run+1}:Md).g_ #[.slice m.s.h.A m.s.h.l.length m.s.h.c] z.x (Md.heap _) _ underlying35 rfl k_ ?_)|(refine k2 Q underlying53 ?_)|(go_at_call 50;((with_reducible refine(zb m.A m.c m.l m.hH m.hC m.dA m.dc m.d t0 m.s.h.A m.s.h.c m.s.h.l z.i.l X z.i.d X bU z.i.s.h dT.out X bC bJ eg.out).mono ?_));unfold ns;rintro e D⟨t1,rfl,av,cV,bk⟩)|(refine kP (t1.g_) (Q.hF bk) (Tk.one _) ?_;intro bQ U ch));replace z:=(z.hF bk).one (Q.hF bk) I (.inr bg.out.ts) I eY ch;replace r:=(r.hF bk).one (Q.hF bk) I I ch;replace av:=av.iq (Q.hF bk) I ch;clear Q bk ch bU eg bC bJ;have U:=U;have dP:t1.p=mP m.l m.hH m.hC m.d m.s.p m.run:=by rw[cV,bl.out,dI.out];rfl
   clear cV;have cR:=O bg.out.val;have b6:=O (show TF t1.p by rw[dP];exact ru bg.out.val bX.2.1 _ _);have dy:Hid (TG mH t1.p):=O (by rw[dP];exact tK bg.out.val bX.2.1 (bg.out.cm.ER bg.out.val X) dX X);have eM:=O (show ∀P∈t1.nw.l,mH P.o.id from λP hr=>(dy.out.nw P.o (Ge.2 ⟨P,hr,rfl⟩)).1);have eO:=O (show ∀c∈t1.ws.l,mH c.id from λc hc=>(dy.out.ws c hc).1.elim id (λe=>e▸wf64_1));have eN:=O dP;clear dP dy bl dI;have hn0: -1<=t1.next:=b6.out.n0;have e1:t1.next<=3000:=b6.out.n1;have cy:bQ.cell? (Z cS 42)=some (Y t1.h9):=(U.f_ 42).trans rfl;go_upto_if 89 with fail
   go_cut [7] (λ_ a8=>∃(d4:OA) (dK:QC) (d5:Nat),MW w B g gr gx ({m with run:=m.run+1}:Md) a8/\MQ w gq d4 dK d5 a8/\Dm (k+1) dK/\Bk a8 cS 53 t1.g_/\lm a8 t1)
   case first=>
    by_cases ca:t1.h9=2
    .have bP:(t1.h9==2)=true:=by simp[ca]
     have z0:bQ.cell? (Z cS 0)=some (Y t1.hQ):=(U.f_ 0).trans rfl;have ea:bQ.cell? (Z cS 43)=some (Y t1.next):=(U.f_ 43).trans rfl;have bz:bQ.cell? (Z gq 0)=some (.slice sA V.length sc):=(r.q.f_ 0).trans rfl;clear ca;go_wp2_with (first|(go_at_call 51;((with_reducible refine(yZ sA sc V t1.hQ t1.next r.f (ov au.len) (λbm hf=>by have:=au.n bm hf;omega)).mono ?_));unfold yF;rintro e aU⟨aw,bM,rfl,eT,cM,aD⟩)|(refine kP (#[.slice aw (lq V t1.hQ t1.next).length bM]) (r.q.hF aD) (by simp[Value.oneCell']) ?_;intro wc CM bI));go_meet;have dL:=r.hF aD;exact⟨aw,lq V t1.hQ t1.next,bM,(z.hF aD).one dL.q I (.inl I) I r.b bI,⟨CM,Sl.iq eT dL.q I bI,r.b⟩,au.D7 _ _ hn0 e1,(U.hF aD).gr bI (zu ((U.hF aD).l8 dL.q I)),(av.hF aD).iq dL.q I bI⟩
    have bP:(t1.h9==2)=false:=by simp[ca]
    clear ca;go_wp2;go_meet;exact⟨sA,V,sc,z,r,au.mono X,U,av⟩
   obtain⟨d4,dK,d5,cu,eU,ay,eX,cK⟩:=hcut;clear z r au U av cy;have z:=cu;have av:=cK;clear cu cK;go_wp2_with (first|(refine iC rfl 26 _ rfl gx 0 r_ 43 ({m with run:=m.run+1}:Md).g_ #[.slice m.A m.l.length m.c,Y m.hH,Y m.hC] z.x (Md.code _) _ underlying26 rfl k_ ?_)|(refine iC rfl 40 _ rfl gx 5 r_ 43 ({m with run:=m.run+1}:Md).g_ m.s.g_ z.x (Md.com _) _ underlying40 rfl k_ ?_)|(refine k2 eX underlying53 ?_)|(go_at_call 52;have dU:=vw m.A m.c m.l m.hH m.hC m.s t1 z.i.l X z.i.s av b6.out.sm X X eM.out eO.out X X X X b6.out.s0 (by have F:=b6.out.s1;have e:t1.p.hK=t1.hK:=rfl;omega);rw[cR.out]at dU;refine dU.mono ?_;clear dU;unfold uU;rintro e dQ⟨aW,rfl,ca,e3,Nw⟩)|(refine jf rfl 40 _ _ rfl gx 5 r_ (aW.g_) r_ 43 ({m with run:=m.run+1}:Md).g_ (z.hF Nw).x (by simp[Md.g_,Cm.g_]) k_ (Cm.one _) ?_;intro d6 ci bK));have dV:=O (bg.out.commit dw.out (by rw[<-aX.out];exact af.out) (s:=aW) (by rw[e3,eN.out]));go_roundw;exact⟨n-1,k+1,{m with s:=aW,run:=m.run+1},d4,dK,d5,rfl,X,X,(z.hF Nw).set bK ci (λhi=>⟨hi.l,hi.lh,hi.al,hi.d,hi.dl,ca.iq (z.hF Nw).x I bK,hi.ts⟩),(eU.hF Nw).one (z.hF Nw).x I I bK,dV.out,ay⟩;exact mz
  have br:(0<n)=False:=by simp[W]
  have A:=N.cm.cb N.val;have bX:=kn N.val;have b1:m.s.h.l.length<=4000002:=by have F:=A.1.h;have e:m.s.p.h.length=m.s.h.l.length:=h5 _;omega
  have b2:m.s.h8.l.length<=4000000:=by have F:=A.1.h8;have e:m.s.p.h8.length=m.s.h8.l.length:=rfl;omega
  have b3: -1<=m.s.hQ:=A.1.st0;have dC:m.s.hQ<=3000:=A.1.st1;have d9:0<=m.s.hK:=A.1.p0;have dG:m.s.hK<=100000:=by have F:=A.1.p1;have e:m.s.p.hK=m.s.hK:=rfl;omega
  have dD:0<=m.s.jn:=A.1.a0;have dJ:m.s.jn<=8:=by have F:=A.1.a1;have e:m.s.p.jn=m.s.jn:=rfl;omega
  have eS:0<=m.s.iU:=A.1.t0;have eQ:m.s.iU<=8:=by have F:=A.1.t1;have e:m.s.p.iU=m.s.iU:=rfl;omega
  have dX:0<=m.run:=A.2.1;have eR:m.run<=8:=by have F:=A.2.2;omega
  have aT:wr.cell? (Z gx 0)=some (.slice m.A m.l.length m.c):=(z.x.f_ 0).trans rfl;have bg:=O N;have dw:=O b8;clear A N b8 aT;go_upto_region 19 with fail;refine hN (λw'=>w'.cell? (Z gx 0)=some (.slice m.A m.l.length m.c)/\w'.cell? (Z gx 1)=some (Y m.hH)/\w'.cell? (Z gx 2)=some (Y m.hC)/\w'.cell? (Z gq 0)=some (.slice sA V.length sc)/\w'.cell? (Z gx 6)=some (Y m.s.hQ)) 11 k_ ?_;obtain⟨u,M⟩:=nm_ wr.drew;rw[<-M];replace z:MW w B g gr gx m u:=by rw[M];exact z.hF (F_ [] wr).drew
  replace r:MQ w gq sA V sc u:=by rw[M];exact r.hF (F_ [] wr).drew
  clear M;refine mC ⟨(z.x.f_ 0).trans rfl,(z.x.f_ 1).trans rfl,(z.x.f_ 2).trans rfl,(r.q.f_ 0).trans rfl,(z.x.f_ 6).trans rfl⟩ λC=>?_;repeat refine j2 C ?_
  refine hY 7 λK Nu=>?_;go_simp;(go_at_call 19;refine(ij B g 5 z.d X X).mono ?_;rintro e f⟨P,rfl,bC,bJ,Q,E⟩);obtain⟨df,bH⟩:=z.d.bk;replace r:=r.one bH I I E;replace z:=z.dice E Q;clear C bH Q E;refine h4 Nu ⟨(z.x.f_ 0).trans rfl,(z.x.f_ 1).trans rfl,(z.x.f_ 2).trans rfl,(r.q.f_ 0).trans rfl,(z.x.f_ 6).trans rfl⟩ λC=>?_;clear Nu K;have pe:IntKind.i64.wrap (1+P)=1+P:=Gm _ X;refine ir 8 C ?_;refine hY 9 λK Nu=>?_;go_simp;(go_at_call 53;((with_reducible refine(zM m.A m.c m.l m.hH m.hC sA sc V m.s.hQ (1+P) z.i.l X r.f (ov au.len) (λbm hf=>by have:=au.dst bm hf;omega) X X).mono ?_));unfold Di;rintro e az⟨eP,xc,xs,rfl,cm,cg,cs,S⟩);replace z:=z.hF S;replace r:=r.hF S;clear C S pe bC bJ;refine h4 Nu ⟨(z.x.f_ 0).trans rfl,(z.x.f_ 1).trans rfl,(z.x.f_ 2).trans rfl,(r.q.f_ 0).trans rfl,(z.x.f_ 6).trans rfl⟩ λC=>?_;clear Nu K;refine ir 10 C ?_;refine hM k_ ?_ _;clear C r au;clear bv;go_wp2;have dT:=O (tJ bg.out.val bg.out.dv);have dM:=uK bg.out.val bg.out.dv;go_loopw [122] (λaq wr=>∃(k:Nat) (ts:QB) (tA:OA) (tc:Nat),aq=Y k/\k<=xs.length/\ts.length=k/\MW w B g gr gx ({m with run:=m.run+k,tA:=tA,tc:=tc,ts:=ts}:Md) wr/\wr.ownsRow w.heap.size 53 48 (.slice tA k tc) k (ts.flatMap λt:Tk=>t.g_.toList)/\Ns wr 3 eP xs/\(∀(j:Nat) (hj:j<ts.length) (hx:j<xs.length),∃ip:Bool,ts[j].p=(jm m.l m.hH m.hC xs[j] (m.run+j) ip).1)) (λaq _=>xs.length-(intOf aq).toNat)
  case atStart=>exact⟨0,[],none,0,gn,L_ _,rfl,(by rw[bg.out.m0];exact z),iS _ _ _ _,cm,λj hj=>by cases hj⟩
  obtain⟨dj,bR⟩:=nm_ k;rw[<-bR]at bg eF;have ey:dj<=8:=X;clear z cm eF bR;obtain⟨k,ts,tA,tc,rfl,hk,dq,z,ak,cm,cA⟩:=hrel;have a:=O dq;have cY:=O cA;clear dq cA;by_cases ag:k<xs.length
  .obtain⟨bx,eL,eW,d3⟩:=cm.at_ ag;have d2:=cs _ (N_ ag);have bV: -1000000000<=xs[k]:=d2.2.2.1;have b9:xs[k]<=1000000000:=d2.2.2.2;subst eW;go_upto_region 23 with fail;go_cut [13] (λp a8=>∃(t0:Tk) (x:Nat) (ip:Bool),p=q_ x/\Bk a8 x 53 t0.g_/\lm a8 t0/\t0.p=(jm m.l m.hH m.hC xs[k] (m.run+k) ip).1/\iN a8 B g/\J [g] wr a8)
   case first=>
    refine hN (λw'=>w'.cell? (Z gx 0)=some (.slice m.A m.l.length m.c)/\w'.cell? (Z gx 1)=some (Y m.hH)/\w'.cell? (Z gx 2)=some (Y m.hC)/\w'.cell? (Z gx 16)=some (Y (m.run+k))) 15 k_ ?_;obtain⟨u,M⟩:=nm_ wr.drew;rw[<-M];have dY:w.heap.size<=wr.heap.size:=z.g.size;have HG:J [g] wr u:=by rw[M];exact(F_ [g] wr).drew
    replace z:MW w B g gr gx ({m with run:=m.run+k,tA:=tA,tc:=tc,ts:=ts}:Md) u:=by rw[M];exact z.hF (F_ [] wr).drew
    clear M;refine mC ⟨(z.x.f_ 0).trans rfl,(z.x.f_ 1).trans rfl,(z.x.f_ 2).trans rfl,(z.x.f_ 16).trans rfl⟩ λC=>?_;(repeat refine j2 C ?_);refine jj 6 12 rfl rfl k_ (λK Nu=>?_) (λK Nu=>?_)
    .go_simp;(go_at_call 19;refine(ij B g 3 z.d X X).mono ?_;rintro e f⟨P,rfl,bC,bJ,Q,E⟩);replace z:=z.dice E Q;replace HG:J [g] wr f:=HG.trans E;clear C;have C:f.cell? (Z gx 0)=some (.slice m.A m.l.length m.c)/\f.cell? (Z gx 1)=some (Y m.hH)/\f.cell? (Z gx 2)=some (Y m.hC)/\f.cell? (Z gx 16)=some (Y (m.run+k)):=⟨(z.x.f_ 0).trans rfl,(z.x.f_ 1).trans rfl,(z.x.f_ 2).trans rfl,(z.x.f_ 16).trans rfl⟩;clear Q E;refine h4 Nu C λC=>?_;clear Nu K;obtain⟨ip,bZ⟩:=mn_ (P==0);refine ir 7 C ?_;try simp only[bZ]
     clear bZ bC bJ;refine jj 8 12 rfl rfl k_ (λK Nu=>?_) (λK Nu=>?_)
     .go_simp;(go_at_call 49;((with_reducible refine(og m.A m.c m.l m.hH m.hC xs[k] (m.run+k) ip _ z.i.l X X X X X).mono ?_));unfold ns;rintro e aF⟨t0,rfl,ct,cN,aP⟩);replace z:=z.hF aP;replace HG:J [g] wr aF:=HG.trans (aP.of_nil [g]);clear C;have C:aF.cell? (Z gx 0)=some (.slice m.A m.l.length m.c)/\aF.cell? (Z gx 1)=some (Y m.hH)/\aF.cell? (Z gx 2)=some (Y m.hC)/\aF.cell? (Z gx 16)=some (Y (m.run+k)):=⟨(z.x.f_ 0).trans rfl,(z.x.f_ 1).trans rfl,(z.x.f_ 2).trans rfl,(z.x.f_ 16).trans rfl⟩;clear aP;refine h4 Nu C λC=>?_;clear Nu K;repeat refine j2 C ?_
      refine hY 12 λK Nu=>?_;go_simp;have hb:Bk (aF.alloc (.cells lE 53)) aF.heap.size 53 lE:=P_ aF _ _;have aE:aF.heap.size≠g:=ov z.d.lt;have cX:wr.heap.size<=aF.heap.size:=HG.size;replace z:=z.hF ((F_ [] aF).alloc (.cells lE 53));replace HG:J [g] wr (aF.alloc (.cells lE 53)):=HG.alloc _;replace ct:=ct.hF ((F_ [] aF).alloc (.cells lE 53));obtain⟨D,U⟩:=nm_ (aF.alloc (.cells lE 53));rw[<-U]at hb z HG ct |-;clear C;have C:D.cell? (Z gx 0)=some (.slice m.A m.l.length m.c)/\D.cell? (Z gx 1)=some (Y m.hH)/\D.cell? (Z gx 2)=some (Y m.hC)/\D.cell? (Z gx 16)=some (Y (m.run+k)):=⟨(z.x.f_ 0).trans rfl,(z.x.f_ 1).trans rfl,(z.x.f_ 2).trans rfl,(z.x.f_ 16).trans rfl⟩;clear U;generalize aF.heap.size=x at*
      refine h4 Nu C λC=>?_;clear Nu K;exact I7
     go_simp;have hb:Bk (f.alloc (.cells lE 53)) f.heap.size 53 lE:=P_ f _ _;have aE:f.heap.size≠g:=ov z.d.lt;have cX:wr.heap.size<=f.heap.size:=HG.size;replace z:=z.hF ((F_ [] f).alloc (.cells lE 53));replace HG:J [g] wr (f.alloc (.cells lE 53)):=HG.alloc _;obtain⟨D,U⟩:=nm_ (f.alloc (.cells lE 53));rw[<-U]at hb z HG |-;clear C;have C:D.cell? (Z gx 0)=some (.slice m.A m.l.length m.c)/\D.cell? (Z gx 1)=some (Y m.hH)/\D.cell? (Z gx 2)=some (Y m.hC)/\D.cell? (Z gx 16)=some (Y (m.run+k)):=⟨(z.x.f_ 0).trans rfl,(z.x.f_ 1).trans rfl,(z.x.f_ 2).trans rfl,(z.x.f_ 16).trans rfl⟩;clear U;generalize f.heap.size=x at*
     refine h4 Nu C λC=>?_;clear Nu K;exact IU
    go_simp;have hb:Bk (u.alloc (.cells lE 53)) u.heap.size 53 lE:=P_ u _ _;have aE:u.heap.size≠g:=ov z.d.lt;have cX:wr.heap.size<=u.heap.size:=HG.size;replace z:=z.hF ((F_ [] u).alloc (.cells lE 53));replace HG:J [g] wr (u.alloc (.cells lE 53)):=HG.alloc _;obtain⟨D,U⟩:=nm_ (u.alloc (.cells lE 53));rw[<-U]at hb z HG |-;clear C;have C:D.cell? (Z gx 0)=some (.slice m.A m.l.length m.c)/\D.cell? (Z gx 1)=some (Y m.hH)/\D.cell? (Z gx 2)=some (Y m.hC)/\D.cell? (Z gx 16)=some (Y (m.run+k)):=⟨(z.x.f_ 0).trans rfl,(z.x.f_ 1).trans rfl,(z.x.f_ 2).trans rfl,(z.x.f_ 16).trans rfl⟩;clear U;generalize u.heap.size=x at*
    refine h4 Nu C λC=>?_;clear Nu K;refine hY 6 λK Nu=>?_;go_simp;(go_at_call 19;refine(ij B g 3 z.d X X).mono ?_;rintro e f⟨P,rfl,bC,bJ,Q,E⟩);replace z:=z.dice E Q;replace HG:J [g] wr f:=HG.trans E;replace hb:=hb.gr E (zu aE);clear C;have C:f.cell? (Z gx 0)=some (.slice m.A m.l.length m.c)/\f.cell? (Z gx 1)=some (Y m.hH)/\f.cell? (Z gx 2)=some (Y m.hC)/\f.cell? (Z gx 16)=some (Y (m.run+k)):=⟨(z.x.f_ 0).trans rfl,(z.x.f_ 1).trans rfl,(z.x.f_ 2).trans rfl,(z.x.f_ 16).trans rfl⟩;clear Q E;refine h4 Nu C λC=>?_;clear Nu K;obtain⟨ip,bZ⟩:=mn_ (P==0);refine ir 7 C ?_;try simp only[bZ]
    clear bZ bC bJ;exact IU
   obtain⟨t0,x,ip,rfl,hb,ct,cN,cQ,aP⟩:=hcut;obtain⟨df,bH⟩:=z.d.bk;have eI:Ns wc 3 (some (Z bx eL)) xs:=Sl.iq cm bH I aP;have bY:=j9 ak bH I aP;have R:=z.dice aP cQ;have dI:=O cN;clear z ak cm bH aP cQ d3 cN d2 bV b9;have dS:wc.cell? (Z gx 16)=some (Y (m.run+k)):=(R.x.f_ 16).trans rfl;have d8:=R.x.hG 16;go_upto_region 25 with fail;have L:J [gx] wc (wc.setCell (Z gx 16) (Y (m.run+k+1))):=(F_ [gx] wc).setCell (.inl H) _;have eH:x≠gx:=hb.l8 R.x I;replace hb:=hb.gr L (zu eH);replace ct:=ct.iq R.x I L;have eJ:Ns (wc.setCell (Z gx 16) (Y (m.run+k+1))) 3 (some (Z bx eL)) xs:=Sl.iq eI R.x I L;replace bY:=j9 bY R.x I L;have T:MW w B g gr gx ({m with run:=m.run+k+1,tA:=tA,tc:=tc,ts:=ts}:Md) (wc.setCell (Z gx 16) (Y (m.run+k+1))):=R.set L (R.x.hU 16 _) (λhi=>⟨hi.l,hi.lh,hi.al,hi.d,hi.dl,hi.s,hi.ts⟩);clear R L eH dS d8 eI;obtain⟨bN,di⟩:=nm_ (wc.setCell (Z gx 16) (Y (m.run+k+1)));rw[<-di]at T eJ bY ct hb |-;clear di
   have dm:bN.cell? (Z gx 15)=some (.slice tA k tc):=by rw[<-a.out];exact(T.x.f_ 15).trans rfl
   have aM:J [] bN (bN.alloc (.cells t0.g_ 53)):=(F_ [] bN).alloc _;have aN:=T.hF aM;have dn:=iD bY aM;have cT:Sl (bN.alloc (.cells t0.g_ 53)) 53 48 (j_ bN.heap.size) 1 t0.g_.toList:=jh (n:=1) (s:=48) (P_ bN 53 t0.g_) rfl;have hbs:w.heap.size<=(bN.alloc (.cells t0.g_ 53)).heap.size:=G_ T.g.size aM.size;refine wp_region_lit ?_;refine Dv rfl ?_;try simp only[a_]
   refine Dv rfl ?_;try simp only[a_]
   refine k2 hb underlying53 ?_;try simp only[a_]
   refine Great.wpList_buildSliceTo rfl 41 53 1 _ rfl bN.heap.size rfl _ rfl underlying41 t0.g_ k_ ?_;try simp only[a_]
   refine iL _ rfl (.tmp 143) (.tmp 145) 41 rfl w.heap.size 53 bu _ 48 480 underlying41 bB bt a7 a6 r_ I I tA k tc _ rfl dn (j_ bN.heap.size) 1 1 t0.g_.toList rfl cT (DA t0) X hbs ?_;intro aw aj D ax U;have dm:D.cell? (Z gx 15)=some (.slice tA k tc):=(by rw[<-a.out];exact((U.bk aN.x I).f_ 15).trans rfl);have e8:=(U.bk aN.x I).hG 15;try simp only[a_]
   refine Dv rfl ?_;try simp only[a_]
   refine nF rfl (λK Nu=>?_);go_simp;refine Nu.out _ _ ?_;clear Nu K;refine wpList_nil ?_;go_wp2;go_roundw
   case rel=>
    have b7:D.ownsRow w.heap.size 53 48 (.slice aw (k+1) aj) (k+1) ((ts++[t0]).flatMap λt:Tk=>t.g_.toList):=by
     simpa using ax
    have bO:(ts++[t0]).length=k+1:=by rw[I_,a.out];rfl
    have aB:Ts D aw (ts++[t0]):=by
     have h:=Sl.iP b7;show Sl D 53 48 aw (ts++[t0]).length _;rw[bO];exact h
    have c9:=aN.append (c:=aj) U bO aB (λt ht=>by
     rcases W_.1 ht with ht|ht
     exact aN.i.ts.ye t ht;rw[J_.1 ht];exact ct.hF aM)
    have cC:=U.bk aN.x I;have am:J [gx] D (D.setCell (Z gx 15) (.slice aw (k+1) aj)):=(F_ [gx] D).setCell (.inl H) _;refine⟨k+1,ts++[t0],aw,aj,gn,X,bO,?_,j9 b7 cC I am,Sl.iq (U.sl (Sl.hF eJ aM) I) cC I am,?_⟩;have e:m.run+((k+1:Nat):Int)=m.run+k+1:=X;rw[e];exact c9;intro j hj hx;by_cases cx:j<ts.length;rw[GY cx];exact cY.out j cx hx;have:j=k:=by rw[bO]at hj;have:=a.out;omega
    subst this;rw[G5 X];refine⟨ip,?_⟩;have aQ:([t0]:QB)[j-ts.length]'(by have:=a.out;simp;omega)=t0:=H;rw[aQ];exact dI.out
   case measure=>exact mz
  have dH:k=xs.length:=X;have ef:=O (show w7 m.l m.hH m.hC m.d m.s.p.h m.run 0 (ts.map Tk.p) from .hQ _ (by rw[Gg,a.out];omega) (λj hj=>by
   have e0:j<ts.length:=zu hj;have ew:j<xs.length:=ov a.out;obtain⟨ip,W⟩:=cY.out j e0 ew;exact⟨xs[j],ip,cs _ (N_ ew),by rw[Hq];exact W⟩))
  have e5:k<=16:=X;have e7:((k:Int)<(xs.length:Int))=False:=p_;clear hk ag cY cm cs dH;obtain⟨df,bH⟩:=z.d.bk;go_upto_region 28 with(go_at_call 19;refine(ij B g 40 z.d X X).mono ?_;rintro e f⟨n1,rfl,eE,e2,Q,E⟩);have aB:k=0∨∃gb U,tA=some (Z gb 0)/\w.heap.size<=gb/\pk f gb U ts:=by
   rcases GR k with h|h
   exact .inl h;have eG:=j9 ak bH I E;rw[<-a.out]at eG;obtain⟨gb,U,F,h2,h3⟩:=pk.iP eG (by rw[a.out];exact h);exact .inr ⟨gb,U,F,h2,h3⟩
  have eb:=O (iY ak);have ei:=z.dice E Q;clear z ak bH E Q;go_loopw [15] (λaq wr=>∃(n:Int) (j:Nat) (ts:QB),aq=Y n/\0<=n/\n+j<=39/\ts.length=k/\MW w B g gr gx ({m with run:=m.run+k,tA:=tA,tc:=tc,ts:=ts}:Md) wr/\w7 m.l m.hH m.hC m.d m.s.p.h m.run j (ts.map Tk.p)/\(k=0∨∃gb U,tA=some (Z gb 0)/\w.heap.size<=gb/\pk wr gb U ts)) (λaq _=>(intOf aq).toNat)
  case atStart=>exact⟨n1,0,ts,rfl,eE,X,a.out,ei,ef.out,aB⟩
  clear ei aB eE e2 ef a ts;obtain⟨n,j,ts,rfl,hn0,e6,dq,z,Nt,aB⟩:=hrel;have a:=O dq;have dz:=O Nt;have dm:wr.cell? (Z gx 15)=some (.slice tA k tc):=by rw[<-dq];exact(z.x.f_ 15).trans rfl
  clear dq Nt;by_cases W:0<n
  .have br:(0<n)=True:=by simp[W]
   rcases GR k with cq|bo
   have bG:((0:Int)<(k:Int))=False:=by simp[cq]
   have e4:(0<k)=False:=by simp[cq]
   clear cq aB;exact Jg;obtain⟨gb,U,hA,aD,hR⟩:=aB.resolve_left X;clear aB;subst hA;have bG:((0:Int)<(k:Int))=True:=by simp[bo]
   have e4:(0<k)=True:=by simp[bo]
   go_upto_region 31 with(go_at_call 19;refine(ij B g (k:Int) z.d X X).mono ?_;rintro e f⟨P,rfl,bC,bJ,Q,E⟩);obtain⟨i,rfl⟩:∃i:Nat,P=i:=⟨P.toNat,X⟩;have dN:i<k:=X;have hi:i<ts.length:=by rw[a.out];exact dN
   have dg:gb≠g:=by have F:=z.d.wx;have h2:=z.hB;omega
   replace hR:pk f gb U ts:=⟨hR.bk.gr E (zu dg),hR.row⟩;replace z:=z.dice E Q;clear E Q dg dm bC bJ;have dm:f.cell? (Z gx 15)=some (.slice (j_ gb) k tc):=by rw[<-a.out];exact(z.x.f_ 15).trans rfl
   have cy:f.cell? (Z gb (i*48+42))=some (Y (ts[i]).h9):=(hR.f_ hi 42 I).trans rfl;have eo:=dz.out.tf bg.out.val bX.2.1;have b6:=O (show ∀t∈ts,TF t.p/\(t.h9=0->Way m.l t.p) from λt ht=>eo _ (Ge.2 ⟨t,ht,rfl⟩));have ep:=dz.out.ER bg.out.val bX.2.1 (bg.out.cm.ER bg.out.val X) dX X;have dy:=O (show ∀t∈ts,TG mH t.p/\0<=t.p.run/\t.p.run<=1000000016 from λt ht=>ep _ (Ge.2 ⟨t,ht,rfl⟩));clear eo ep;obtain⟨az,cw⟩:=nm_ f;rw[<-cw]at z hR dm cy |-;clear cw
   by_cases bF:(ts[i]).h9=0
   .rw[bF]at cy;have dW:=O bF;clear bF;go_upto_region 32 with fail;have cY:=O (show ∀t1:Tk,t1.p=je m.l m.hH m.hC m.d (ts[i]).p (nG (hX m.s.h.l) (ts.map Tk.p) i)->w7 m.l m.hH m.hC m.d m.s.p.h m.run (j+1) ((ts.set i t1).map Tk.p) from λt1 W=>by
     have cI:=w7.step (l:=m.l) (hH:=m.hH) (hC:=m.hC) (d:=m.d) i (zu hi) dz.out (by rw[Hq];exact dW.out);rw[List.map_set,W];rw[Hq]at cI;exact cI)
    refine hN (λw'=>w'.cell? (Z gx 0)=some (.slice m.A m.l.length m.c)/\w'.cell? (Z gx 1)=some (Y m.hH)/\w'.cell? (Z gx 2)=some (Y m.hC)/\w'.cell? (Z gx 4)=some (.slice m.dA m.d.length m.dc)/\w'.cell? (Z gx 5)=some (.slice m.s.h.A m.s.h.l.length m.s.h.c)/\w'.cell? (Z gx 15)=some (.slice (j_ gb) k tc)) 25 k_ ?_;obtain⟨u,M⟩:=nm_ az.drew;rw[<-M];replace z:MW w B g gr gx ({m with run:=m.run+k,tA:=(j_ gb),tc:=tc,ts:=ts}:Md) u:=by rw[M];exact z.hF (F_ [] az).drew
    replace hR:pk u gb U ts:=by rw[M];exact⟨hR.bk.hF (F_ [] az).drew,hR.row⟩
    clear M dm cy;have dx:=F_ [] u;have bV:=z.x;have C:u.cell? (Z gx 0)=some (.slice m.A m.l.length m.c)/\u.cell? (Z gx 1)=some (Y m.hH)/\u.cell? (Z gx 2)=some (Y m.hC)/\u.cell? (Z gx 4)=some (.slice m.dA m.d.length m.dc)/\u.cell? (Z gx 5)=some (.slice m.s.h.A m.s.h.l.length m.s.h.c)/\u.cell? (Z gx 15)=some (.slice (j_ gb) k tc):=⟨(bV.f_ 0).trans rfl,(bV.f_ 1).trans rfl,(bV.f_ 2).trans rfl,(bV.f_ 4).trans rfl,(bV.f_ 5).trans rfl,(by rw[<-a.out];exact(bV.f_ 15).trans rfl)⟩;have dB:Hid (∀w',J [] u w'->Calls prog 40 #[.agg #[.slice m.s.h.A m.s.h.l.length m.s.h.c],.slice (j_ gb) k tc,Y i] w' (my (nG (hX m.s.h.l) (ts.map Tk.p) i) w')):=O (by
     intro w' hg;have h:=Ak m.s.h.A m.s.h.c m.s.h.l (j_ gb) tc ts i w' (z.i.s.h.hF hg) X (z.i.ts.hF hg) (by rw[a.out];omega) (λt ht=>(b6.out t ht).1.sm) X;rw[a.out]at h;exact h)
    have bT:Hid (∀(bp:OA) (vc:Nat) (b:QT) (w':World),J [] u w'->mE w' bp vc b->hX b=nG (hX m.s.h.l) (ts.map Tk.p) i->Calls prog 39 #[.agg #[.slice m.A m.l.length m.c,Y m.hH,Y m.hC],.agg #[.slice m.dA m.d.length m.dc],.agg (ts[i]).g_,.agg #[.slice bp b.length vc]] w' (ns (je m.l m.hH m.hC m.d (ts[i]).p (nG (hX m.s.h.l) (ts.map Tk.p) i)) 0 w')):=O (by
     intro bp vc b w' hg hv ho;have d0:=N_ hi;obtain⟨bL,cf⟩:=b6.out _ d0;have cW:=cf dW.out;have cU:=cW.lo;have eZ:=cW.hi;have bn:=cW.s0;have cJ:=bL.s1;obtain⟨_,b0,r1⟩:=dy.out _ d0;have iF:b.length<=99999999:=by
      have aJ:=h5 b;rw[ho]at aJ;have aG:=vS ((ts.map Tk.p).take (i:Int).toNat) (hX m.s.h.l) (n:=500000) (λt ht=>by
       obtain⟨cB,hu,rfl⟩:=Ge.1 (GX ht);exact(b6.out cB hu).1.sm.nw)
      have bD:=h5 m.s.h.l;have b4:((ts.map Tk.p).take (i:Int).toNat).length<=16:=by
       rw[Gp,Gg,a.out];omega
      unfold nG at aJ;omega
     have h:=ut m.A m.c m.l m.hH m.hC m.dA m.dc m.d (ts[i]) bp vc b w' (Sl.hF z.i.l hg) X (Sl.hF z.i.d hg) X ((z.i.ts.ye _ d0).hF hg) hv dT.out dW.out bL.sm iF cU (by have e:(ts[i]).p.pc=(ts[i]).pc:=rfl;omega) b0 (by have e:(ts[i]).p.run=(ts[i]).run:=rfl;omega) bn (by have e:(ts[i]).p.hK=(ts[i]).hK:=rfl;omega);rw[ho]at h;exact h)
    have aS:i*48+48<=U.size:=by
     have F:=hR.size;rw[a.out]at F;omega
    (iterate 11 refine j2 C ?_)
    refine ir 12 C ?_;refine ir 13 C ?_;refine ir 14 C ?_;refine ir 15 C ?_;refine ir 16 C ?_;refine ir 17 C ?_;refine jj 11 18 rfl rfl k_ (λK Nu=>?_) (λK Nu=>?_)
    .rw[U_ r_];refine oN 53 _ rfl gb (i*48) r_ 53 U (ts[i]).g_ hR.bk (hR.at hi) _ underlying53 rfl k_ ?_;refine h4 Nu C λC=>?_;clear Nu K;refine hY 18 λK Nu=>?_;go_simp;(go_at_call 40;((with_reducible refine(dB.out _ dx).mono ?_));unfold my;rintro e d7⟨bp,vc,b,rfl,dt,c7,o⟩);clear C;refine h4 Nu (by
      have hx:=(z.hF o).x;exact⟨(hx.f_ 0).trans rfl,(hx.f_ 1).trans rfl,(hx.f_ 2).trans rfl,(hx.f_ 4).trans rfl,(hx.f_ 5).trans rfl,(by rw[<-a.out];exact(hx.f_ 15).trans rfl)⟩) λC=>?_
     exact IL
    go_simp;(go_at_call 40;((with_reducible refine(dB.out _ dx).mono ?_));unfold my;rintro e d7⟨bp,vc,b,rfl,dt,c7,o⟩);clear C;refine h4 Nu (by
     have hx:=(z.hF o).x;exact⟨(hx.f_ 0).trans rfl,(hx.f_ 1).trans rfl,(hx.f_ 2).trans rfl,(hx.f_ 4).trans rfl,(hx.f_ 5).trans rfl,(by rw[<-a.out];exact(hx.f_ 15).trans rfl)⟩) λC=>?_
    clear Nu K;refine hY 11 λK Nu=>?_;rw[U_ r_];refine oN 53 _ rfl gb (i*48) r_ 53 U (ts[i]).g_ (hR.bk.hF o) (hR.at hi) _ underlying53 rfl k_ ?_;refine h4 Nu C λC=>?_;exact IL
   have bP:((ts[i]).h9==0)=false:=by simp[bF]
   obtain⟨st,du⟩:=mn_ ((ts[i]).h9);rw[du]at cy bP;clear bF du b6 dy;go_wp2;go_roundw;exact⟨n-1,j,ts,rfl,X,X,a.out,z,dz.out,.inr ⟨gb,U,rfl,aD,hR⟩⟩;exact mz
  have br:(0<n)=False:=by simp[W]
  clear aB;exact Jg
