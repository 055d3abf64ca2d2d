import Derived.Test.YtenbhdilndfaeaaGreatM19
set_option maxRecDepth 100000
set_option maxHeartbeats 0
set_option linter.all false
namespace Go.Proofs.YtenbhdilndfaeaaGreat
open Go.RowKit Go.Proofs.Tryz
variable{e:TypeId}{A:OA}{xs:QW}{w':World}{V:QU}{t:ST}{R:Ending->World->Prop}{i m:Nat}{cur:Array Value}(v:Int)(l:QS)(k:Nat)
def A7{w:World}{base:Nat}{n c:Nat}{x:Value}(h:w.ownsRow base e 1 (.slice A (n+1) c) (n+1) (xs++[x])):w.ownsRow base e 1 (.slice A n c) n xs:=by
 have u:=by have:=h.1;simp at this;omega
 refine⟨X,?_⟩;rcases h.2 with⟨a,_⟩|⟨g,y,cur,a,j,o,r,b,d,f⟩
 cases a
 injection a with p _ q;subst p;subst q;refine .inr ⟨g,c,cur,rfl,j,o,X,b,d,?_⟩;have:=Z_ (List.take n) f;rw[List.take_take]at this;rw[Nat.mul_one];have e:min n ((n+1)*1)=n:=X;rw[e]at this;rw[this,List.take_append_of_le_length X,F7 X]
def xH{w:World}{base:Nat}{a:Nat}{n c:Nat}(h:w.ownsRow base e a (.slice A n c) n xs):n<=maxLen:=by
 rcases h.2 with⟨_,b⟩|⟨_,_,_,_,_,_,d,f,_⟩
 omega;omega
def ni.push{base g x:Nat}{w:World}{s:GS}(h:ni base w g s)(A':OA)(c':Nat)(G:Bk w x 30 #[n_])(D:base<=x)(C:∀a∈s.rt++s.os,a.box≠x)(r:w.grownBy w' (Value.slice s.OA s.os.length s.oc).ownBlock)(B:w'.ownsRow base 313 1 (.slice A' (s.os.length+1) c') (s.os.length+1) ((s.os.map λa=>q_ a.box)++[q_ x])):
 Bk w' g 210 s.g_/\ni base (w'.setCell (Z g 9) (.slice A' (s.os.length+1) c')) g {s with OA:=A',oc:=c',os:=s.os++[⟨x,none,0,[]⟩]}/\Gt base gT w (w'.setCell (Z g 9) (.slice A' (s.os.length+1) c')):=by
 have u:∀e,e≠313->mW e w w':=λe n=>.app r h.ho (Ne.symm n);have f:=(u _ I).bk h.hg;have y:∀e,e≠210->mW e w' (w'.setCell (Z g 9) (.slice A' (s.os.length+1) c')):=λe n=>.set f (Ne.symm n) _ _;have b:=λe E F=>(u e E).trans (y e F);have o:GS.rows {s with OA:=A',oc:=c',os:=s.os++[(⟨x,none,0,[]⟩:At)]}=s.rows++[(n_,[])]:=by
  unfold GS.rows;simp
 refine⟨f,⟨?_,h.hbg,(b _ I I).own h.hl,(b _ I I).own h.hc,?_,?_,?_,?_,?_,(b 9 I I).sl h.hv,G_ h.hz (b 9 I I).1⟩,(Gt.app r h.ho I).trans (.set f h.hbg I _ _)⟩;have:=f.hU 9 (.slice A' (s.os.length+1) c');exact Ni;rw[I_,Gd];exact(y _ I).own B;intro a c;have d:a∈s.rt++s.os∨a=⟨x,none,0,[]⟩:=by simpa[or_assoc]using c
 rcases d with c|rfl
 exact⟨(b 30 I I).bk (h.hb a c).1,(h.hb a c).2⟩;exact⟨(b 30 I I).bk G,D⟩;rw[<-GE,Gd,HJ];refine⟨h.hbn,H,λa c p j=>?_⟩;obtain⟨z,d,rfl⟩:=Ge.1 c;have:p=x:=zu j;subst this;exact C z d;intro z d;rw[o]at d;rcases W_.1 d with d|d
 exact(b 3 I I).own (h.hi z d);have:z=(n_,[]):=zu d;subst this;exact iS _ _ _ _;rw[o,kl];exact⟨h.ku,λp j=>by simp[Value.ownBlock]at j⟩
def ni.E2{base g:Nat}{w:World}{s:GS}(h:ni base w g s)(M:List At)(c:At)(f:s.os=M++[c]):
 ni base (w.setCell (Z g 9) (.slice s.OA M.length s.oc)) g {s with os:=M,rt:=s.rt++[c]}:=by
 have a:∀e,e≠210->mW e w (w.setCell (Z g 9) (.slice s.OA M.length s.oc)):=λe n=>.set h.hg (Ne.symm n) _ _;have b:((s.rt++[c])++M).Perm (s.rt++s.os):=by
  rw[f,GE];exact List.Perm.append_left _ (List.perm_append_comm)
 refine⟨?_,h.hbg,(a _ I).own h.hl,(a _ I).own h.hc,?_,?_,?_,?_,?_,(a _ I).sl h.hv,G_ h.hz (a 9 I).1⟩;exact h.hg.hU 9 (.slice s.OA M.length s.oc);have:=h.ho;rw[f]at this;simp only[I_,Id,Gd,Gx,Hf]at this;exact(a _ I).own (A7 this);intro j o;have d:=b.mem_iff.1 o;exact⟨(a 30 I).bk (h.hb j d).1,(h.hb j d).2⟩;exact(b.map At.box).nodup_iff.2 h.hbn;intro j d;refine(a 3 I).own (h.hi j ?_);unfold GS.rows at d |-;exact((((b.map _).cons _).cons _).mem_iff).1 d
 have:=h.ku;unfold GS.rows at this |-;exact((((b.map _).cons _).cons _).filterMap _).nodup_iff.2 this
def lM.drop{base g:Nat}{w:World}{v:iX}(h:lM base w g v)(r x:List (Nat × List Int))(p:v.rts=r++x):lM base w g (v.drop r):=by
 obtain⟨s,rfl,h⟩:=h;have j:s.rt.map (λb=>(b.box,b.is))=r++x:=p;obtain⟨c,f,q,n,y⟩:=List.map_eq_append_iff.1 j;have a:(c++s.os).Sublist (s.rt++s.os):=by rw[q];exact(List.sublist_append_left c f).append_right _
 refine⟨{s with rt:=c},?_,h.hg,h.hbg,h.hl,h.hc,h.ho,λb o=>h.hb b (a.subset o),(a.map At.box).nodup h.hbn,λu d=>h.hi u ?_,?_,h.hv,h.hz⟩;simp only[GS.lg,iX.drop,n];unfold GS.rows at d |-;exact(((a.map _).cons_cons _).cons_cons _).subset d
 have:=h.ku;unfold GS.rows at this |-;exact((((a.map _).cons_cons _).cons_cons _).filterMap _).nodup this
def yW(base g:Nat)(V:QU)(al:Nat)(x:ByteArray)(AE:OA)(cE:Nat)(es:QE)(W:OA)(cB:Nat)(y:QV)(AL:OA)(cL:Nat)(C:QV)(v:iX)(q:Int)(p:Nat->Prop)(w:World)(nb nl:Nat)(ca:uW base g V al)(cq:l4 V al nb y)(bK:l4 V al nl C)
 (aX:Sl w 229 8 W y.length (y.flatMap ST.E)) (cI:∀u∈y,jL p w u) (ct:Sl w 229 8 AL C.length (C.flatMap ST.E)) (cN:∀u∈C,jL p w u) (hP:nu w v.pv) (Nv:lM base w g v) (Nu:GK v q (al+1)) (iF:v.l.length+30*(1+nb+nl)<=100000):
 Calls prog 201 #[q_ g,.agg (ST.mk 9 x i6 0 0 AE cE es W cB y AL cL C).g_] w (oJ base g v (al+1) (30*(1+nb+nl)) w):=by
 refine h6 λan ao=>?_;obtain⟨bu,bB,bt,a7,a6⟩:=info_parts infoPI;obtain⟨E,gx,c,aV,hx,bA,N,B,aA⟩:=tP w 229 (ST.mk 9 x i6 0 0 AE cE es W cB y AL cL C).g_ 30 #[n_];replace B:Bk E gx 229 #[Y 9,.string x,.string i6,Y 0,Y 0,.slice AE es.length cE,.slice W y.length cB,.slice AL C.length cL]:=B;obtain⟨D,G,J,F,H,K,L,P⟩:=B.i4;have T:=hP.gt (.jD N:Gt base gT w E);have cx:=aX.hF N;have bL:=λu j=>(cI u j).hF N;have dM:=ct.hF N;have dy:=λu j=>(cN u j).hF N;obtain⟨s,hs,f⟩:=Nv;have bE:∀a∈s.rt++s.os,a.box≠c:=λa M he=>by
  have:=(f.hb a M).1.lt;omega
 have aG:base<=c:=ov f.hz;have bd:s.os.length<=20:=by
  have e:s.os.length=v.ats.length:=by rw[<-hs];simp[GS.lg]
  rw[e];have:=Nu.al;omega
 have bT:=f.hF N;have k:E.cell? (Z g 9)=some (.slice s.OA s.os.length s.oc):=bT.hg.f_ 9;obtain⟨a2,aD,bI,cz,bU,bH⟩:=box1 E 313 #[q_ c];have bf:Sl a2 313 1 (j_ aD) 1 [q_ c]:=jh (n:=1) (s:=1) bH rfl;have ap:=bT.hF bU;have bD:=O hs;clear aX ct hP cI cN f bT hs;go_enter func201,ntmps201;go_wp2_with (at_builtin;refine jZ rfl rfl base 313 bu 1 8 underlying208 bB bt a7 a6 rfl I I s.OA s.os.length s.oc _ rfl ap.ho _ 1 1 _ rfl bf (by intro u j;simp at j;subst j;rfl) X ap.hz ?_;intro aY c3 af b7 bg _;have ak:=ap.push aY c3 (aA.hF bU) aG bE bg b7;have au:=O ak;have ae:=ak.1.hG 9;have z9:af.cell? (Z g 9)=some (.slice s.OA s.os.length s.oc):=ak.1.f_ 9;clear ak);have bh:lM base (af.setCell (Z g 9) (.slice aY (s.os.length+1) c3)) g (v.push c):=⟨_,(by rw[<-bD.out];simp[GS.lg,iX.push]),au.out.2.1⟩;have ai:=(Gt.jD bU).trans au.out.2.2;have aj:=Nu.push c;have ar:=GP.refl (v.push c);have bG:(v.push c).l.length=v.l.length:=rfl;have bq:nu E (v.push c).pv:=T;obtain⟨dN,bM⟩:=nm_ (af.setCell (Z g 9) (.slice aY (s.os.length+1) c3));rw[<-bM]at bh ai |-;clear bM au ae z9 k ap bf aA bd bE;replace T:=bq;clear bq
 go_at_call 217;refine(oo base g bh (ov ar.len) (λa M=>by have:=aj.ok.sa a.2 (H0 M);have:=ar.len;omega) (ov aj.al)).mono ?_;rintro e dZ⟨rfl,t,cK⟩;have cy:=aj.protect;have cj:=ar.trans (GP.protect _);have U:=ai.trans cK;clear bh ai cK;clear D G J F H K L P;obtain⟨D,G,J,F,H,K,L,P⟩:=(B.gt U I).i4;go_wp2_with fail;go_at_call 137;refine(ca nb W _ cB y _ _ p _ rfl (ov cq.len) cq (cx.gt U I) (λu j=>(bL u j).gt U I I) (by rw[cj.pv];exact T.gt U) t (cy.le X) (ov cj.len)).mono ?_;rintro e S⟨rfl,b,dY,cX,cM,dj,aZ⟩;have bi:=GK.of cy aZ (dj.le (L_ _));have b0:=cj.trans aZ;have cv:=U.trans cM;clear t U cM dj;obtain⟨l,is,hl,bk⟩:=b0.D6;have bm:=bi.ok.p3 is (by rw[hl];simp);have dx:=bi.ok.sa is (by rw[hl];simp);obtain⟨h,aI,r⟩:=cX;have bv:h.os.map (λa=>(a.box,a.is))=l++[(c,is)]:=by rw[<-hl,<-aI];rfl
 obtain⟨Q,l1,Nr,aM,cH⟩:=List.map_eq_append_iff.1 bv;obtain⟨a,rfl⟩:∃a,l1=[a]:=by
  cases l1 with
  |nil=>simp at cH
  |cons a l1=>
   cases l1 with
   |nil=>exact⟨a,rfl⟩
   |cons bx l1=>simp at cH
 have Nq:h.os.length=Q.length+1:=by rw[Nr];simp
 have b8:=iY r.ho;have cb:=r.E2 Q a Nr;have cc:Gt base gT S (S.setCell (Z g 9) (.slice h.OA Q.length h.oc)):=r.zC 9 _;obtain⟨go,_,ch,_,_,_⟩:=kK r.ho X;rw[ch]at cb cc;have k:S.cell? (Z g 9)=some (.slice (j_ go) (Q.length+1) h.oc):=by have:=r.hg.f_ 9;unfold GS.g_ at this;rw[Nq,ch]at this;exact this
 have ae:=r.hg.hG 9;obtain⟨m,hm⟩:=nm_ Q.length;rw[Nq]at b8;have av:=xH r.ho;rw[<-hm]at k cb cc b8;have cD:IntKind.i64.wrap (m:Int)=m:=Gm _ (by unfold maxLen at av;omega);have dK:(m:Int)<=h.oc:=X;have Np:m<=h.oc:=X;have bV:=O aI;have bS:=O Nr;have dG:=O bk;clear aI Nr aM cH Nq ch hm bv hl bk r;go_upto_region 5 with fail
 go_region
 go_upto_region 6 with fail;clear k ae cD dK Np;have ag:lM base (S.setCell (Z g 9) (.slice (j_ go) m h.oc)).drew g b.pop:=⟨_,(by
  rw[<-bV.out];have aJ:h.lg.ats=Q.map (λa=>(a.box,a.is))++[(a.box,a.is)]:=(by show h.os.map _=_;rw[bS.out];simp);unfold iX.pop;rw[aJ];simp[GS.lg]),cb.hF (F_ [] _).drew⟩
 have R:=(cv.trans cc).trans (.jD (F_ [] (S.setCell (Z g 9) (.slice (j_ go) m h.oc))).drew:Gt base gT _ _);have am:=Nu.Eh b0 (bi.le (L_ _));have aw:=GP.refl b.pop;have dC:b.pop.l.length=b.l.length:=rfl;have dD:=b0.len;have dg:=b0.pv;replace T:nu E b.pop.pv:=(by show nu E b.pv;rw[dg];exact T);clear dg;have cR:∀i∈is,0<=i/\i<b.pop.l.length/\iB b.pop.l i=17:=bm;obtain⟨dO,bN⟩:=nm_ ((S.setCell (Z g 9) (.slice (j_ go) m h.oc)).drew);rw[<-bN]at ag R |-;clear bN cb cc bm;clear D G J F H K L P;obtain⟨D,G,J,F,H,K,L,P⟩:=(B.gt R I).i4
 go_wp2_with fail;go_at_call 217;refine(oo base g ag (ov aw.len) (λa M=>by have:=am.ok.sa a.2 (H0 M);have:=aw.len;omega) (ov am.al)).mono ?_;rintro e dP⟨rfl,bW,bF⟩;have cA:=am.protect;have aW:=aw.trans (GP.protect _);have cg:=R.trans bF;clear ag R bF;go_wp2_with fail;go_at_call 138;refine(iu base g _ bW (ov aW.len)).mono ?_;rintro e aK⟨rfl,bX,cU⟩;have aR:=cA.wz 11 (.inl rfl);have az:=aW.trans (GP.put _ ⟨11,0,0,0,0⟩);have ck:=cg.trans cU;have dT:iB (iX.put b.pop.protect ⟨11,0,0,0,0⟩).l b.pop.protect.l.length=11:=oB _;have ek:b.pop.protect.l.length<(iX.put b.pop.protect ⟨11,0,0,0,0⟩).l.length:=by simp[iX.put]
 have dq:(iX.put b.pop.protect ⟨11,0,0,0,0⟩).rts=v.rts++[(c,is)]:=dG.out;have aF:∀i∈is,0<=i/\i<(iX.put b.pop.protect ⟨11,0,0,0,0⟩).l.length/\iB (iX.put b.pop.protect ⟨11,0,0,0,0⟩).l i=17:=λi f=>by
  obtain⟨a1,ci,a3⟩:=cR i f;have hk:=az.kp;exact⟨a1,(ov hk.1),(hk.2 i ci).trans a3⟩
 generalize dF:b.pop.protect.l.length=o at*;generalize be:iX.put b.pop.protect ⟨11,0,0,0,0⟩=z at*;obtain⟨cp,ad,c9⟩:=bX;have dr:cp.rt.map (λa=>(a.box,a.is))=v.rts++[(c,is)]:=by rw[<-dq,<-ad];rfl
 obtain⟨d,br,bw⟩:∃d∈cp.rt,(d.box,d.is)=(c,is):=by
  have:(c,is)∈cp.rt.map (λa=>(a.box,a.is)):=by rw[dr];simp
  obtain⟨d,h1,h2⟩:=Ge.1 this;exact⟨d,h1,h2⟩
 have cT:d.box=c:=Z_ Prod.fst bw;have bz:d.is=is:=Z_ Prod.snd bw;have cr:=(c9.hb d (Gn _ br)).1;rw[cT,bz]at cr;have dn:=c9.hi d.row (by unfold GS.rows;simp only[O_];exact .inr (.inr (Ge.2 ⟨d,Gn _ br,rfl⟩)));have di:Ns aK 3 d.A is:=by
  have:=Sl.iP dn;unfold At.row at this;simp only[bz]at this;exact this
 have da:lM base aK g z:=⟨cp,ad,c9⟩;have dE:aK.cell? (Z c 0)=some (.slice d.A is.length d.c):=cr.f_ 0;go_wp2_with fail;go_at_call 205;refine(mO base g d.A is.length d.c is da (ov az.len) di rfl (λi f=>⟨(aF i f).1,(aF i f).2.1⟩) X).mono ?_;rintro e dQ⟨rfl,dH,cV⟩;have aB:=az.trans (GP.here _ is);have cn:=ck.trans cV;have aq:=aR.tE is (λi f=>(aF i f).2.2);have cS:=aR.sb;have dk:iB (z.here is).l o=11:=(ox _ _ _ _).trans dT;have dz:o<(z.here is).l.length:=by simp only[iX.here,i9];omega
 go_wp2_with fail;go_at_call 136;refine(mN base g dH (ov aB.len) cS.1 (by have:=cS.2;have:=aB.len;show z.hC<=100000;simp only[iX.here,i9]at this;omega)).mono ?_;rintro e dR⟨rfl,bZ,cW⟩;have aC:=aB.trans (GP.mark _);have aO:=cn.trans cW;have dU:=(((GP.mark (z.here is)).kp.2 _ X)).trans dk;have d2:o<(z.here is).mark.l.length:=ov ((GP.mark (z.here is)).kp.1);generalize aL:(z.here is).mark=A at*;obtain⟨D,G,J,F,H,K,L,P⟩:=(B.gt aO I).i4;go_wp2_with fail;go_at_call 217;refine(oo base g bZ (ov aC.len) (λa M=>by have:=aq.ok.sa a.2 (H0 M);have:=aC.len;omega) (ov aq.al)).mono ?_;rintro e dS⟨rfl,b4,cY⟩;have cC:=aq.protect;have bj:=aC.trans (GP.protect _);have co:=aO.trans cY;have dh:=(GP.protect A).kp;generalize bl:A.protect=cm at*
 go_wp2_with fail;go_at_call 138;refine(iu base g _ b4 (ov bj.len)).mono ?_;rintro e dV⟨rfl,aN,cZ⟩;have aT:=cC.simp (x:=⟨18,0,0,0,0⟩) I;have bn:=bj.trans (GP.put _ ⟨18,0,0,0,0⟩);have aQ:=co.trans cZ;obtain⟨D,G,J,F,H,K,L,P⟩:=(B.gt aQ I).i4;go_wp2_with fail;go_at_call 204;refine(lp base g _ aN aT.v1).mono ?_;rintro e w1⟨cs,bC,bJ,rfl,rfl⟩;go_wp2_with fail;go_at_call 138;refine(iu base g _ aN (ov bn.len)).mono ?_;rintro e dW⟨rfl,b5,c6⟩;have aU:=aT.simp (x:=⟨9,0,0,0,cs⟩) (lI 0 cs X X bC X);have aE:=bn.trans (GP.put _ ⟨9,0,0,0,cs⟩);have cP:=aQ.trans c6;have a8:q4 A.l (iX.put (iX.put cm ⟨18,0,0,0,0⟩) ⟨9,0,0,0,cs⟩).l:=(dh.trans (GP.put _ _).kp).trans (GP.put _ _).kp;generalize c7:iX.put (iX.put cm ⟨18,0,0,0,0⟩) ⟨9,0,0,0,cs⟩=dL at*;obtain⟨D,G,J,F,H,K,L,P⟩:=(B.gt cP I).i4;go_wp2_with fail;go_at_call 137;refine(ca nl AL _ cL C _ _ p _ rfl (ov bK.len) bK (dM.gt cP I) (λu j=>(dy u j).gt cP I I) (by rw[aE.pv];exact T.gt cP) b5 (aU.le X) (ov aE.len)).mono ?_;rintro e dw⟨rfl,du,dJ,b9,c8,df,aH⟩;have cJ:=GK.of aU aH (df.le (L_ _));have bo:=aE.trans aH;have cu:=cP.trans c8;have dc:=a8.trans aH.kp;have dm:=(dc.2 _ X).trans dU;have dB:o<du.l.length:=ov dc.1;obtain⟨bO,Nt,b6,dI,cF,bR⟩:=box1 dw 3 #[Y o];have cQ:Ns bO 3 (j_ Nt) [(o:Int)]:=jh (n:=1) (s:=1) bR rfl;have de:=b9.hF cF;go_wp2_with fail;go_at_call 205;refine(mO base g _ 1 1 [(o:Int)] de (ov bo.len) cQ rfl (by intro i f;simp at f;subst f;exact⟨X,X⟩) X).mono ?_;rintro e dX⟨rfl,ce,db⟩;have cO:=cJ.here o (.inl dm);have bp:=bo.trans (GP.here _ [(o:Int)]);have cw:=(cu.trans (.jD cF)).trans db;go_wp2;refine en_ ?_;rw[ao.out];have dt:=bp.rt.trans dG.out;exact⟨rfl,_,_,ce.drop v.rts _ dt,(Gt.jD N).trans cw,cO.Et _,(b0.Dz bp).le X⟩
def xp(base g:Nat)(w:World)(b:t.h7=9)(d:∀e w',R e w'->e=.returned vU)(h:∀W,J [] w W->Calls prog 201 #[q_ g,.agg t.g_] W R):Calls prog 175 #[q_ g,.agg t.g_] w R:=by
 refine h6 λy o=>?_;obtain⟨W,r,C,I,x,a⟩:=box1 w 229 t.g_;replace a:Bk W r 229 #[Y 9,.string t.name,.string t.fn,Y t.n,Y t.op,.slice t.AE t.es.length t.cE,.slice t.AB t.bs.length t.cB,.slice t.AL t.ls.length t.cL]:=by rw[<-b];exact a
 obtain⟨z,D,F,B,E,G,H,K⟩:=a.i4;have n:=O (h W x);have q:=O d;have f:t.g_=#[Y 9,.string t.name,.string t.fn,Y t.n,Y t.op,.slice t.AE t.es.length t.cE,.slice t.AB t.bs.length t.cB,.slice t.AL t.ls.length t.cL]:=by rw[<-b];rfl
 have p:=O f;clear b h d f;go_enter func175,ntmps175;go_wp2_with fail;go_at_call 201;rw[<-p.out];refine n.out.mono ?_;intro e w' c;have u:=q.out e w' c;subst u;have j:=O c;clear c;go_wp2;refine rn_ ?_;rw[o.out];exact j.out
def rI(base g:Nat)(k:Int)(w:World)(a:t.h7=k)(y:k=5∨k=6)(d:∀e w',R e w'->e=.returned vU)(h:∀W,J [] w W->Calls prog 202 #[q_ g,.agg t.g_] W R):Calls prog 175 #[q_ g,.agg t.g_] w R:=by
 refine h6 λz o=>?_;obtain⟨W,r,D,K,x,b⟩:=box1 w 229 t.g_;replace b:Bk W r 229 #[Y k,.string t.name,.string t.fn,Y t.n,Y t.op,.slice t.AE t.es.length t.cE,.slice t.AB t.bs.length t.cB,.slice t.AL t.ls.length t.cL]:=by rw[<-a];exact b
 obtain⟨B,E,G,C,F,H,I,L⟩:=b.i4;have n:=O (h W x);have q:=O d;have f:t.g_=#[Y k,.string t.name,.string t.fn,Y t.n,Y t.op,.slice t.AE t.es.length t.cE,.slice t.AB t.bs.length t.cB,.slice t.AL t.ls.length t.cL]:=by rw[<-a];rfl
 have p:=O f;clear a h d f;rcases y with rfl|rfl
 all_goals
  go_enter func175,ntmps175;go_wp2_with fail;go_at_call 202;rw[<-p.out];refine n.out.mono ?_;intro e w' c;have u:=q.out e w' c;subst u;have j:=O c;clear c;go_wp2;refine rn_ ?_;rw[o.out];exact j.out
def oJ.le{base g:Nat}{v:iX}{a n:Nat}{w:World}{e:Ending}(h:oJ base g v a n w e w')(o:n<=m):oJ base g v a m w e w':=by
 obtain⟨d,q,p,f,j,b,c⟩:=h;exact⟨d,q,p,f,j,b,c.le o⟩
def oJ.gr{base g:Nat}{v:iX}{a n:Nat}{w b:World}{e:Ending}(h:oJ base g v a n b e w')(p:J [] w b):oJ base g v a n w e w':=by
 obtain⟨f,r,q,j,o,c,d⟩:=h;exact⟨f,r,q,j,(Gt.jD p).trans o,c,d⟩
def m_.FQ{x f:ByteArray}{n o:Int}{a L:Bool}(h:m_ V 9 x f n o m a L):f=i6/\n=0/\o=0:=by cases h;exact⟨rfl,rfl,rfl⟩
def m_.FU{x f:ByteArray}{n o:Int}{a L:Bool}(h:m_ V 5 x f n o m a L):f=i6/\n=0/\o=0/\m=2:=by cases h;exact⟨rfl,rfl,rfl,rfl⟩
def m_.FR{x f:ByteArray}{n o:Int}{a L:Bool}(h:m_ V 6 x f n o m a L):x=i6/\f=i6/\n=0/\o=0/\m=1:=by cases h;exact⟨rfl,rfl,rfl,rfl,rfl⟩
def yh(base g:Nat)(V:QU):∀n,Dh base g V n
 |0=>by
  intro ad t v q p w T;obtain⟨r,_,_,_,_,h,_⟩:=T.one;omega
 |n+1=>by
  have M:=uD base g V n (yh base g V n);intro ad t v q p w T ku N H G iF;obtain⟨r,nb,nl,ae,af,hD,bt,o,hB,hL,O,z,Y⟩:=T.one;have ag:r=n:=X;subst ag;obtain⟨Q,F,B,y,W,S⟩:=ku.parts;obtain⟨k,Z,ah,ai,aj,D,K,j,C,J,I,E,L,P⟩:=t;simp only[ST.h7,ST.name,ST.fn,ST.n,ST.op,ST.es,ST.bs,ST.ls,ST.AE,ST.AB,ST.AL]at o hB hL O z Y Q F B y W S;by_cases aT:k=9;subst aT;have u:=o.FQ;obtain⟨rfl,rfl,rfl⟩:=u;refine xp base g w rfl (λe w' h=>h.1) λf a=>?_;refine(yW base g V r Z D K j C J I E L P v q p f nb nl M z Y (B.hF a) (λd c=>(y d c).hF a) (W.hF a) (λd c=>(S d c).hF a) (N.gt (.jD a:Gt base gT w f)) (H.hF a) G X).mono λe w' h=>(h.gr a).le X;by_cases au:k=5
  .subst au;have u:=o.FU;obtain⟨rfl,rfl,rfl,U⟩:=u;obtain⟨b,x,rfl⟩:∃b x,j=[b,x]:=by
    match j,U with
    |[b,x],_=>exact⟨b,x,rfl⟩
   refine rI base g 5 w rfl (.inl rfl) (λe w' h=>h.1) λf a=>?_;exact(Be base g V r Z D K b x C J I E L P v q p f nb M z (B.hF a) (λd c=>(y d c).hF a) O (Q.hF a) (λd c=>(F d c).hF a) (N.gt (.jD a:Gt base gT w f)) (H.hF a) G X).mono λe w' h=>(h.gr a).le X
  by_cases x:k=6
  .subst x;have u:=o.FR;obtain⟨rfl,rfl,rfl,rfl,U⟩:=u;obtain⟨b,rfl⟩:∃b,j=[b]:=by
    match j,U with
    |[b],_=>exact⟨b,rfl⟩
   refine rI base g 6 w rfl (.inr rfl) (λe w' h=>h.1) λf a=>?_;exact(xM base g V r i6 D K b C J I E L P v q p f nb M z (B.hF a) (λd c=>(y d c).hF a) O (Q.hF a) (λd c=>(F d c).hF a) (N.gt (.jD a:Gt base gT w f)) (H.hF a) G X).mono λe w' h=>(h.gr a).le X
  exact(vX base g V r k Z ah ai aj D K j C J I E L P v q p w ae af nb nl M z Y B y W S o aT x au O Q F N H G X).mono λe w' h=>h.le X
def xN(base g:Nat)(V:QU)(a:Nat):uW base g V a:=uD base g V a (yh base g V a)
def ni.Ch{base g:Nat}{w:World}{s:GS}(h:ni base w g s)(VA:OA)(vc:Nat)(vs:QU)(p:Bs w VA vs):
 ni base (((w.setCell (Z g 6) (.slice VA vs.length vc)).setCell (Z g 7) (Y 0)).setCell (Z g 8) (Y 0)) g {s with VA:=VA,vc:=vc,vs:=vs,hidden:=0,most:=0}/\Gt base gT w (((w.setCell (Z g 6) (.slice VA vs.length vc)).setCell (Z g 7) (Y 0)).setCell (Z g 8) (Y 0)):=by
 have b:=h.hg.hU 6 (.slice VA vs.length vc);have c:=b.hU 7 (Y 0);have n:=c.hU 8 (Y 0);have a:∀e,e≠210->mW e w (((w.setCell (Z g 6) (.slice VA vs.length vc)).setCell (Z g 7) (Y 0)).setCell (Z g 8) (Y 0)):=λe d=>((mW.set h.hg (Ne.symm d) _ _).trans (.set b (Ne.symm d) _ _)).trans (.set c (Ne.symm d) _ _);refine⟨⟨n,h.hbg,(a _ I).own h.hl,(a _ I).own h.hc,(a _ I).own h.ho,λf j=>⟨(a 30 I).bk (h.hb f j).1,(h.hb f j).2⟩,h.hbn,λq o=>(a 3 I).own (h.hi q o),h.ku,(a 9 I).sl p,G_ h.hz (a 9 I).1⟩,((Gt.set h.hg h.hbg I _ _).trans (.set b h.hbg I _ _)).trans (.set c h.hbg I _ _)⟩
def ni.Ep{base g:Nat}{w:World}{s:GS}(h:ni base w g s)(D:s.rt++s.os=[])(A':OA)(c':Nat)(i:Int)(o:w.grownBy w' (Value.slice s.EA s.es.length s.ec).ownBlock)(K:w'.ownsRow base 3 1 (.slice A' (s.es.length+1) c') (s.es.length+1) (s.es.map (Y)++[Y i]))(q:(Value.slice A' (s.es.length+1) c').ownBlock=(Value.slice s.EA s.es.length s.ec).ownBlock∨(Value.slice A' (s.es.length+1) c').ownBlock=some w.heap.size):
 Bk w' g 210 s.g_/\ni base (w'.setCell (Z g 3) (.slice A' (s.es.length+1) c')) g {s with EA:=A',ec:=c',es:=s.es++[i]}/\Gt base gT w (w'.setCell (Z g 3) (.slice A' (s.es.length+1) c')):=by
 have u:=h.hi (.slice s.EA s.es.length s.ec,s.es) (by simp[GS.rows]);have z:=h.hi (.slice s.FA s.fs.length s.fc,s.fs) (by simp[GS.rows]);have F:=h.ku;have L:s.rows=[(.slice s.EA s.es.length s.ec,s.es)]++[(.slice s.FA s.fs.length s.fc,s.fs)]:=by unfold GS.rows;rw[D];rfl
 rw[L,kl]at F;have x:∀c,(Value.slice s.FA s.fs.length s.fc).ownBlock=some c->(Value.slice s.EA s.es.length s.ec).ownBlock≠some c:=λc j=>F.2 c j (.slice s.EA s.es.length s.ec,s.es) H;have E:∀e,e≠3->mW e w w':=λe a=>.app o u (Ne.symm a);have f:=(E _ I).bk h.hg;have G:∀e,e≠210->mW e w' (w'.setCell (Z g 3) (.slice A' (s.es.length+1) c')):=λe a=>.set f (Ne.symm a) _ _;have d:=λe B M=>(E e B).trans (G e M);have y:GS.rows {s with EA:=A',ec:=c',es:=s.es++[i]}=[(.slice A' (s.es.length+1) c',s.es++[i])]++[(.slice s.FA s.fs.length s.fc,s.fs)]:=by unfold GS.rows;rw[D];simp
 refine⟨f,⟨?_,h.hbg,(d _ I I).own h.hl,(d _ I I).own h.hc,(d _ I I).own h.ho,λr C=>⟨(d 30 I I).bk (h.hb r C).1,(h.hb r C).2⟩,h.hbn,λn b=>?_,?_,(d 9 I I).sl h.hv,G_ h.hz (d 9 I I).1⟩,(Gt.app o u I).trans (.set f h.hbg I _ _)⟩;have:=f.hU 3 (.slice A' (s.es.length+1) c');exact Ni;rw[y]at b;refine(G 3 I).own ?_;rcases W_.1 b with b|b
 have:n=(.slice A' (s.es.length+1) c',s.es++[i]):=zu b;subst this;simpa using K;have:n=(.slice s.FA s.fs.length s.fc,s.fs):=zu b;subst this;exact n6 z (J.iR o) λN p a=>x N a (jK.1 p);rw[y,kl];refine⟨?_,λc j n b a=>?_⟩
 .simp only[List.filterMap_cons,List.filterMap_nil];split<;>simp
 have:n=(.slice A' (s.es.length+1) c',s.es++[i]):=zu b;subst this;rcases q with p|p
 exact x c j (p.symm.trans a);have B:=(kD z j).2;have:some w.heap.size=some c:=p.symm.trans a;injection this;omega
def ni.Eo{base g:Nat}{w:World}{s:GS}(h:ni base w g s)(E:s.rt++s.os=[])(A':OA)(c':Nat)(i:Int)(o:w.grownBy w' (Value.slice s.FA s.fs.length s.fc).ownBlock)(K:w'.ownsRow base 3 1 (.slice A' (s.fs.length+1) c') (s.fs.length+1) (s.fs.map (Y)++[Y i]))(q:(Value.slice A' (s.fs.length+1) c').ownBlock=(Value.slice s.FA s.fs.length s.fc).ownBlock∨(Value.slice A' (s.fs.length+1) c').ownBlock=some w.heap.size):
 Bk w' g 210 s.g_/\ni base (w'.setCell (Z g 4) (.slice A' (s.fs.length+1) c')) g {s with FA:=A',fc:=c',fs:=s.fs++[i]}/\Gt base gT w (w'.setCell (Z g 4) (.slice A' (s.fs.length+1) c')):=by
 have x:=h.hi (.slice s.FA s.fs.length s.fc,s.fs) (by simp[GS.rows]);have B:=h.hi (.slice s.EA s.es.length s.ec,s.es) (by simp[GS.rows]);have r:=h.ku;have L:s.rows=[(.slice s.EA s.es.length s.ec,s.es)]++[(.slice s.FA s.fs.length s.fc,s.fs)]:=by unfold GS.rows;rw[E];rfl
 rw[L,kl]at r;have y:∀c,(Value.slice s.FA s.fs.length s.fc).ownBlock=some c->(Value.slice s.EA s.es.length s.ec).ownBlock≠some c:=λc j=>r.2 c j (.slice s.EA s.es.length s.ec,s.es) H;have F:∀e,e≠3->mW e w w':=λe a=>.app o x (Ne.symm a);have f:=(F _ I).bk h.hg;have G:∀e,e≠210->mW e w' (w'.setCell (Z g 4) (.slice A' (s.fs.length+1) c')):=λe a=>.set f (Ne.symm a) _ _;have d:=λe C M=>(F e C).trans (G e M);have z:GS.rows {s with FA:=A',fc:=c',fs:=s.fs++[i]}=[(.slice s.EA s.es.length s.ec,s.es)]++[(.slice A' (s.fs.length+1) c',s.fs++[i])]:=by unfold GS.rows;rw[E];simp
 refine⟨f,⟨?_,h.hbg,(d _ I I).own h.hl,(d _ I I).own h.hc,(d _ I I).own h.ho,λu D=>⟨(d 30 I I).bk (h.hb u D).1,(h.hb u D).2⟩,h.hbn,λn b=>?_,?_,(d 9 I I).sl h.hv,G_ h.hz (d 9 I I).1⟩,(Gt.app o x I).trans (.set f h.hbg I _ _)⟩;have:=f.hU 4 (.slice A' (s.fs.length+1) c');exact Ni;rw[z]at b;refine(G 3 I).own ?_;rcases W_.1 b with b|b
 have:n=(.slice s.EA s.es.length s.ec,s.es):=zu b;subst this;exact n6 B (J.iR o) λN p a=>y N (jK.1 p) a;have:n=(.slice A' (s.fs.length+1) c',s.fs++[i]):=zu b;subst this;simpa using K;rw[z,kl];refine⟨r.1,λc j n b a=>?_⟩;have:n=(.slice s.EA s.es.length s.ec,s.es):=zu b;subst this;rcases q with p|p
 exact y c (p.symm.trans j) a;have C:=(kD B a).2;have:some w.heap.size=some c:=p.symm.trans j;injection this;omega
def pa.first:pa [⟨21,0,0,0,0⟩] 1 [] [] 0 where
 code:=⟨I,λi b=>by
  have:i=0:=zu b;subst this;show PF _ _ _ (⟨21,0,0,0,0⟩:In);unfold PF;rw[T_ I,T_ I];decide,I⟩
 xo:=by decide
 cs1:=λf d=>by cases d
 cs2:=λi b e=>by
  have:i=0:=zu b;subst this;simp at e
 p3:=λc a=>by cases a
 q:=by decide
 zZ:=by decide
 sa:=λc a=>by cases a
structure C1(k:Nat)(pv:Value)(n:Nat)(v:iX):Prop where
 pv:v.pv=pv
 el:v.es.length=k
 fl:v.fs.length=k
 e21:∀e∈v.es,0<=e/\e<v.l.length/\iB v.l e=21
 f64:∀f∈v.fs,2<=f/\f<=64
 len:v.l.length<=n
 ats:v.ats=[]
 rts:v.rts=[]
 ok:(k=0/\v.l=[]/\v.hC=0/\v.cs=[])∨∃q,pa v.l v.hC v.cs [] q/\q<v.l.length/\iB v.l ((v.l.length:Int)-1)=14
def C1.mark{k n:Nat}{pv:Value}{v:iX}(h:C1 k pv n v):pa v.mark.l v.mark.hC v.mark.cs [] v.l.length/\0<=v.hC/\v.hC<=n:=by
 rcases h.ok with⟨_,a,b,c⟩|⟨d,a,b,_⟩
 have:=pa.first;unfold iX.mark;rw[a,b,c];exact⟨this,X,X⟩;refine⟨a.mark,?_,?_⟩
 .rw[a.xo];unfold jG;omega
 rw[a.xo];unfold jG;have:=GC (λi:In=>i.op==21) v.l;have:=h.len;omega
def C1.next{k n n' p:Nat}{pv:Value}{v t a:iX}{q:Int}(h:C1 k pv n v)(E:q4 v.l t.l)(D:iB t.l v.l.length=21)(I:t.l.length=v.l.length+1)(f:t.es=v.es++[(v.l.length:Int)])(j:t.fs=v.fs)(C:t.pv=pv)(y:t.ats=[])(L:t.rts=[])(P:GP t a m)(r:GK a q p)(x:q<a.l.length)(B:iB a.l ((a.l.length:Int)-1)=14)(u:Int)(H:2<=u/\u<=64)(J:n+1+m<=n'):C1 (k+1) pv n' {a with fs:=a.fs++[u]}:=by
 have o:=by have d:=P.p3;rw[y]at d;simpa using d
 refine⟨P.pv.trans C,?_,?_,?_,?_,?_,o,P.rt.trans L,.inr ⟨q,?_,x,B⟩⟩;show a.es.length=k+1;rw[P.es,f,I_,h.el];rfl;show(a.fs++[u]).length=k+1;rw[I_,P.fs,j,h.fl];rfl;show ∀e∈a.es,0<=e/\e<a.l.length/\iB a.l e=21;rw[P.es,f];have c:=P.kp;intro e b;rcases W_.1 b with b|b
 obtain⟨d,F,G⟩:=h.e21 e b;have z:=c.1;exact⟨d,X,(c.2 e X).trans ((E.2 e F).trans G)⟩;have:e=(v.l.length:Int):=zu b;subst this;have z:=c.1;exact⟨X,X,(c.2 _ X).trans D⟩;show ∀c∈a.fs++[u],2<=c/\c<=64;intro c b;rcases W_.1 b with b|b
 rw[P.fs,j]at b;exact h.f64 c b;have:c=u:=zu b;subst this;exact H;show a.l.length<=n';have:=P.len;have:=h.len;omega;have:=r.ok;rw[o]at this;exact this
def pw(v:Int)(l:QS)(i:Nat):List In:=l.modify i λx=>⟨x.op,x.a,x.b,v,x.n⟩
def y8{v:Int}{l:QS}:(pw v l i).length=l.length:=by simp[pw]
def y7(h:k<l.length):pw v l k=l.set k ⟨l[k].op,l[k].a,l[k].b,v,l[k].n⟩:=by
 refine HU (by simp[pw]) λi d f=>?_;simp only[pw,G7,List.getElem_set];split;rename_i c;subst c;rfl;rfl
def vq(a:k<l.length):(l3 l).set (k*5+3) (Y v)=l3 (pw v l k):=by
 rw[y7 v l k a];exact pI In.E 5 (λ_=>rfl) l k 3 _ _ a X rfl
def zn(es fs:QR)(l:QS)(i f:Nat):pw (fs.getD f 0) (mm (es.getD f 0) l i) i=kc es fs l ((i:Int),(f:Int)):=by
 refine HU (by simp[pw,mm,kc]) λk a b=>?_;simp only[pw,mm,kc,G7,GZ];split<;>rfl
def ints_at(l:QR)(k:Nat)(h:k<l.length):(l.map (Value.int .i64))[k]?=some (Y (l.getD k 0)):=by
 simp[GF,h]
section
variable{base g:Nat}{w:World}{s:GS}
def ni.qm(h:ni base w g s){f:Nat}(D:s.l.length=m)(F:i<m)(B:s.es.length=3)(C:s.fs.length=3)(E:f<3):
 ∃a d b lc ec fc cur,s.L=some (Z a 0)/\base<=a/\Bk w a 189 cur/\w.cell? (Z g 1)=some (.slice (j_ a) m lc)/\w.cell? (Z g 3)=some (.slice (j_ d) 3 ec)/\w.cell? (Z g 4)=some (.slice (j_ b) 3 fc)/\
  w.cell? (Z d f)=some (Y (s.es.getD f 0))/\w.cell? (Z b f)=some (Y (s.fs.getD f 0))/\(∃o,w.cell? (Z a (i*5+4))=some (Y o))/\∃o,w.cell? (Z a (i*5+3))=some (Y o):=by
 obtain⟨a,cur,j,y,R,t⟩:=kK h.hl X;obtain⟨d,e,q,_,u,x⟩:=kK (h.hi (.slice s.EA s.es.length s.ec,s.es) (by simp[GS.rows])) X;obtain⟨b,G,p,_,r,z⟩:=kK (h.hi (.slice s.FA s.fs.length s.fc,s.fs) (by simp[GS.rows])) X;refine⟨a,d,b,s.lc,s.ec,s.fc,cur,j,y,R,?_,?_,?_,?_,?_,⟨(s.l[i]'X).n,?_⟩,⟨(s.l[i]'X).c,?_⟩⟩;exact(h.hg.f_ 1).trans (by show some (Value.slice s.L s.l.length s.lc)=_;rw[j,D]);exact(h.hg.f_ 3).trans (by show some (Value.slice s.EA s.es.length s.ec)=_;rw[q,B]);exact(h.hg.f_ 4).trans (by show some (Value.slice s.FA s.fs.length s.fc)=_;rw[p,C]);exact(u.f_ f).trans (x _ _ (ints_at s.es f X));exact(r.f_ f).trans (z _ _ (ints_at s.fs f X));exact(R.f_ _).trans (t _ _ ((ja In.E 5 (λ_=>rfl) s.l i 4 X X).trans rfl));exact(R.f_ _).trans (t _ _ ((ja In.E 5 (λ_=>rfl) s.l i 3 X X).trans rfl))
def ni.Aq(h:ni base w g s){a:Nat}(j:s.L=some (Z a 0))(n:Bk w a 189 cur){k:Nat}{u:Value}{l:QS}(iF:l.length=s.l.length)(e:(l3 s.l).set (i*5+k) u=l3 l):
 ni base (w.setCell (Z a (i*5+k)) u) g {s with l:=l}:=by
 have d:∀e,e≠189->mW e w (w.setCell (Z a (i*5+k)) u):=λe b=>.set n (Ne.symm b) _ _;have f:=h.hl;rw[j]at f;have c:=yo f (i*5+k) u;rw[e]at c;have o:s.g_=GS.g_ {s with l:=l}:=by unfold GS.g_;simp only[iF]
 exact h.r6 (L:=s.L) (lc:=s.lc) (l:=l) (hC:=s.hC) (hidden:=s.hidden) (most:=s.most) (by rw[<-o];exact(d _ I).bk h.hg) (by rw[j,iF];exact c) λe b=>d e (by rintro rfl;revert b;decide)
def ni.DB(h:ni base w g s){a:Nat}(c:s.L=some (Z a 0))(b:Bk w a 189 cur)(d:i<s.l.length)(u:Int):
 ni base (w.setCell (Z a (i*5+4)) (Y u)) g {s with l:=mm u s.l i}:=h.Aq c b (lJ _ _ _) (qO u s.l i d)
def ni.DC(h:ni base w g s){a:Nat}(c:s.L=some (Z a 0))(b:Bk w a 189 cur)(d:i<s.l.length)(u:Int):
 ni base (w.setCell (Z a (i*5+3)) (Y u)) g {s with l:=pw u s.l i}:=h.Aq c b (y8) (vq u s.l i d)
end
