import Derived.Test.YtenbhdilndfaeaaGreatM27
set_option maxRecDepth 100000
set_option maxHeartbeats 0
set_option linter.all false
namespace Go.Proofs.YtenbhdilndfaeaaGreat
open Go.RowKit Go.Proofs.Tryz
variable{e:TypeId}{A:OA}{xs:List Value}{w':World}{V:List ByteArray}{t:ST}{R:Ending->World->Prop}{i m:Nat}{cur:Array Value}(v:Int)(l:List In)(k:Nat)
def AZ{w:World}{base:Nat}{n c:Nat}{x:Value}(h:w.ownsRow base e 1 (.slice A (n+1) c) (n+1) (xs++[x])):w.ownsRow base e 1 (.slice A n c) n xs:=by
 have u:=by have:=h.1;simp at this;omega
 refine⟨X,?_⟩
 rcases h.2 with⟨a,_⟩|⟨g,y,cur,a,j,o,r,f,d,b⟩
 .cases a
 .injection a with p _ q;subst p;subst q;refine .inr ⟨g,c,cur,rfl,j,o,X,f,d,?_⟩
  have:=Z_ (List.take n) b
  rw[List.take_take]at this;rw[Nat.mul_one];have e:min n ((n+1)*1)=n:=X;rw[e]at this;rw[this,List.take_append_of_le_length X,FP X]
def xp{w:World}{base:Nat}{a:Nat}{n c:Nat}(h:w.ownsRow base e a (.slice A n c) n xs):n<=maxLen:=by
 rcases h.2 with⟨_,b⟩|⟨_,_,_,_,_,_,d,f,_⟩
 .omega
 .omega
def nc.push{base g x:Nat}{w:World}{s:GS}(h:nc base w g s)(A':OA)(c':Nat)(G:Bk w x 30 #[n_])(D:base<=x)(B:∀a∈s.rt++s.os,a.box≠x)(r:w.grownBy w' (Value.slice s.OA s.os.length s.oc).ownBlock)(C:w'.ownsRow base 313 1 (.slice A' (s.os.length+1) c') (s.os.length+1) ((s.os.map λa=>q_ a.box)++[q_ x])):
 Bk w' g 210 s.g_/\nc base (w'.setCell (Z g 9) (.slice A' (s.os.length+1) c')) g {s with OA:=A',oc:=c',os:=s.os++[⟨x,none,0,[]⟩]}/\Gt base gT w (w'.setCell (Z g 9) (.slice A' (s.os.length+1) c')):=by
 have u:∀e,e≠313->mO e w w':=λe n=>.app r h.ho (Ne.symm n)
 have f:=(u _ O).bk h.hg
 have z:∀e,e≠210->mO e w' (w'.setCell (Z g 9) (.slice A' (s.os.length+1) c')):=λe n=>.set f (Ne.symm n) _ _
 have b:=λe E F=>(u e E).trans (z e F)
 have o:GS.rows {s with OA:=A',oc:=c',os:=s.os++[(⟨x,none,0,[]⟩:At)]}=s.rows++[(n_,[])]:=by
  unfold GS.rows;simp
 refine⟨f,⟨?_,h.hbg,(b _ O O).own h.hl,(b _ O O).own h.hc,?_,?_,?_,?_,?_,(b 9 O O).sl h.hv,G_ h.hz (b 9 O O).1⟩,(Gt.app r h.ho O).trans (.set f h.hbg O _ _)⟩
 .have:=f.hV 9 (.slice A' (s.os.length+1) c')
  exact ML
 .rw[J_,FV];exact(z _ O).own C
 .intro a c
  have d:a∈s.rt++s.os∨a=⟨x,none,0,[]⟩:=by simpa[or_assoc]using c
  rcases d with c|rfl
  .exact⟨(b 30 O O).bk (h.hb a c).1,(h.hb a c).2⟩
  .exact⟨(b 30 O O).bk G,D⟩
 .rw[<-Gc,FV,Hv];refine⟨h.hbn,J,λa c p j=>?_⟩;obtain⟨y,d,rfl⟩:=FQ.1 c
  have:p=x:=zu j
  subst this;exact B y d
 .intro y d;rw[o]at d
  rcases X_.1 d with d|d
  .exact(b 3 O O).own (h.hi y d)
  .have:y=(n_,[]):=zu d
   subst this;exact iT _ _ _ _
 .rw[o,kf];exact⟨h.km,λp j=>by simp[Value.ownBlock]at j⟩
def nc.EW{base g:Nat}{w:World}{s:GS}(h:nc base w g s)(b:List At)(d:At)(j:s.os=b++[d]):
 nc base (w.setCell (Z g 9) (.slice s.OA b.length s.oc)) g {s with os:=b,rt:=s.rt++[d]}:=by
 have a:∀e,e≠210->mO e w (w.setCell (Z g 9) (.slice s.OA b.length s.oc)):=λe o=>.set h.hg (Ne.symm o) _ _
 have c:((s.rt++[d])++b).Perm (s.rt++s.os):=by
  rw[j,Gc];exact List.Perm.append_left _ (List.perm_append_comm)
 refine⟨?_,h.hbg,(a _ O).own h.hl,(a _ O).own h.hc,?_,?_,?_,?_,?_,(a _ O).sl h.hv,G_ h.hz (a 9 O).1⟩
 .exact h.hg.hV 9 (.slice s.OA b.length s.oc)
 .have:=h.ho
  rw[j]at this;simp only[J_,HL,FV,Gm,GZ]at this;exact(a _ O).own (AZ this)
 .intro n p;have f:=c.mem_iff.1 p;exact⟨(a 30 O).bk (h.hb n f).1,(h.hb n f).2⟩
 .exact(c.map At.box).nodup_iff.2 h.hbn
 .intro n f;refine(a 3 O).own (h.hi n ?_);unfold GS.rows at f |-;exact((((c.map _).cons _).cons _).mem_iff).1 f
 .have:=h.km
  unfold GS.rows at this |-;exact((((c.map _).cons _).cons _).filterMap _).nodup_iff.2 this
def lI.drop{base g:Nat}{w:World}{v:iX}(h:lI base w g v)(r x:List (Nat × List Int))(p:v.rts=r++x):lI base w g (v.drop r):=by
 obtain⟨s,rfl,h⟩:=h;have j:s.rt.map (λb=>(b.box,b.is))=r++x:=p;obtain⟨c,f,q,n,y⟩:=List.map_eq_append_iff.1 j
 have a:(c++s.os).Sublist (s.rt++s.os):=by rw[q];exact(List.sublist_append_left c f).append_right _
 refine⟨{s with rt:=c},?_,h.hg,h.hbg,h.hl,h.hc,h.ho,λb o=>h.hb b (a.subset o),(a.map At.box).nodup h.hbn,λu d=>h.hi u ?_,?_,h.hv,h.hz⟩
 .simp only[GS.lg,iX.drop,n]
 .unfold GS.rows at d |-;exact(((a.map _).cons_cons _).cons_cons _).subset d
 .have:=h.km
  unfold GS.rows at this |-;exact((((a.map _).cons_cons _).cons_cons _).filterMap _).nodup this
def yJ(base g:Nat)(V:List ByteArray)(al:Nat)(x:ByteArray)(AE:OA)(cE:Nat)(es:List ET)(AB:OA)(cB:Nat)(G:List ST)(AL:OA)(cL:Nat)(K:List ST)(v:iX)(q:Int)(p:Nat->Prop)(w:World)(nb nl:Nat)(a7:uN base g V al)(cw:lX V al nb G)(c6:lX V al nl K)
 (aU:Sl w 229 8 AB G.length (G.flatMap ST.E)) (cV:∀u∈G,jL p w u) (cp:Sl w 229 8 AL K.length (K.flatMap ST.E)) (cY:∀u∈K,jL p w u) (hP:nk w v.pv) (MZ:lI base w g v) (MY:GK v q (al+1)) (iN:v.l.length+30*(1+nb+nl)<=100000):
 Calls prog 201 #[q_ g,.agg (ST.mk 9 x i6 0 0 AE cE es AB cB G AL cL K).g_] w (oJ base g v (al+1) (30*(1+nb+nl)) w):=by
 refine h5 λan aq=>?_
 obtain⟨bJ,bG,bA,a6,be⟩:=info_parts infoPI;obtain⟨L,gx,c,aW,hx,bB,N,J,aA⟩:=tJ w 229 (ST.mk 9 x i6 0 0 AE cE es AB cB G AL cL K).g_ 30 #[n_];replace J:Bk L gx 229 #[Y 9,.string x,.string i6,Y 0,Y 0,.slice AE es.length cE,.slice AB G.length cB,.slice AL K.length cL]:=J;obtain⟨o,j,z,r,y,B,E,D⟩:=J.i5;have T:=hP.gt (.js N:Gt base gT w L);have cG:=aU.hF N
 have b0:=λu C=>(cV u C).hF N
 have dQ:=cp.hF N
 have cO:=λu C=>(cY u C).hF N
 obtain⟨s,hs,f⟩:=MZ
 have ct:∀a∈s.rt++s.os,a.box≠c:=λa M he=>by
  have:=(f.hb a M).1.lt
  omega
 have t:base<=c:=ov f.hz
 have MX:s.os.length<=20:=by
  have e:s.os.length=v.ats.length:=by rw[<-hs];simp[GS.lg]
  rw[e]
  have:=MY.al
  omega
 have bS:=f.hF N;have bd:L.cell? (Z g 9)=some (.slice s.OA s.os.length s.oc):=bS.hg.f_ 9;obtain⟨aX,aC,bE,cx,bW,br⟩:=box1 L 313 #[q_ c];have bf:Sl aX 313 1 (j_ aC) 1 [q_ c]:=jj (n:=1) (s:=1) br rfl;have R:=bS.hF bW;have bu:=U hs;clear aU cp hP cV cY f bS hs
 go_enter func201,ntmps201
 go_wp2_with (at_builtin;refine j7 rfl rfl base 313 bJ 1 8 underlying208 bG bA a6 be rfl O O s.OA s.os.length s.oc _ rfl R.ho _ 1 1 _ rfl bf (by intro u C;simp at C;subst C;rfl) X R.hz ?_;intro bg aO ag bY bp _;have aZ:=R.push bg aO (aA.hF bW) t ct bp bY;have ai:=U aZ;have am:=aZ.1.hG 9;have z9:ag.cell? (Z g 9)=some (.slice s.OA s.os.length s.oc):=aZ.1.f_ 9;clear aZ)
 have bh:lI base (ag.setCell (Z g 9) (.slice bg (s.os.length+1) aO)) g (v.push c):=⟨_,(by rw[<-bu.out];simp[GS.lg,iX.push]),ai.out.2.1⟩;have ay:=(Gt.js bW).trans ai.out.2.2;have aH:=MY.push c;have aR:=GP.refl (v.push c);have cU:(v.push c).l.length=v.l.length:=rfl;have ck:nk L (v.push c).pv:=T;obtain⟨dM,c7⟩:=nm_ (ag.setCell (Z g 9) (.slice bg (s.os.length+1) aO));rw[<-c7]at bh ay |-;clear c7 ai am z9 bd R bf aA MX ct;replace T:=ck;clear ck
 go_at_call 217
 refine(oh base g bh (ov aR.len) (λa M=>by have:=aH.ok.r9 a.2 (HR M);have:=aR.len;omega) (ov aH.al)).mono ?_;rintro e dZ⟨rfl,bk,co⟩;have cI:=aH.protect;have b4:=aR.trans (GP.protect _);have S:=ay.trans co;clear bh ay co;clear o j z r y B E D;obtain⟨o,j,z,r,y,B,E,D⟩:=(J.gt S O).i5
 go_wp2_with fail
 go_at_call 137
 refine(a7 nb AB _ cB G _ _ p _ rfl (ov cw.len) cw (cG.gt S O) (λu C=>(b0 u C).gt S O O) (by rw[b4.pv];exact T.gt S) bk (cI.le X) (ov b4.len)).mono ?_;rintro e W⟨rfl,b,dY,cz,cv,dg,aM⟩;have bi:=GK.of cI aM (dg.le (N_ _));have bw:=b4.trans aM;have cg:=S.trans cv;clear bk S cv dg;obtain⟨l,is,hl,bm⟩:=bw.DX;have bv:=bi.ok.pW is (by rw[hl];simp);have dE:=bi.ok.r9 is (by rw[hl];simp);obtain⟨h,bt,F⟩:=cz
 have aj:h.os.map (λa=>(a.box,a.is))=l++[(c,is)]:=by rw[<-hl,<-bt];rfl
 obtain⟨Q,l1,ak,aF,cF⟩:=List.map_eq_append_iff.1 aj
 obtain⟨a,rfl⟩:∃a,l1=[a]:=by
  cases l1 with
  |nil=>simp at cF
  |cons a l1=>
   cases l1 with
   |nil=>exact⟨a,rfl⟩
   |cons bx l1=>simp at cF
 have ax:h.os.length=Q.length+1:=by rw[ak];simp
 have aL:=iY F.ho;have cb:=F.EW Q a ak;have ah:Gt base gT W (W.setCell (Z g 9) (.slice h.OA Q.length h.oc)):=F.zp 9 _;obtain⟨go,_,A,_,_,_⟩:=kE F.ho X;rw[A]at cb ah
 have bd:W.cell? (Z g 9)=some (.slice (j_ go) (Q.length+1) h.oc):=by have:=F.hg.f_ 9;unfold GS.g_ at this;rw[ax,A]at this;exact this
 have am:=F.hg.hG 9;obtain⟨m,hm⟩:=nm_ Q.length;rw[ax]at aL;have cc:=xp F.ho;rw[<-hm]at bd cb ah aL;have a8:IntKind.i64.wrap (m:Int)=m:=F5 _ (by unfold maxLen at cc;omega);have dI:(m:Int)<=h.oc:=X;have ch:m<=h.oc:=X;have df:=U bt;have de:=U ak;have dD:=U bm;clear bt ak aF cF ax A hm aj hl bm F
 go_upto_region 5 with fail
 go_region
 go_upto_region 6 with fail
 clear bd am a8 dI ch
 have ap:lI base (W.setCell (Z g 9) (.slice (j_ go) m h.oc)).drew g b.pop:=⟨_,(by
  rw[<-df.out];have aN:h.lg.ats=Q.map (λa=>(a.box,a.is))++[(a.box,a.is)]:=(by show h.os.map _=_;rw[de.out];simp);unfold iX.pop;rw[aN]
  simp[GS.lg]),cb.hF (H [] _).drew⟩
 have ad:=(cg.trans ah).trans (.js (H [] (W.setCell (Z g 9) (.slice (j_ go) m h.oc))).drew:Gt base gT _ _);have aI:=MY.D9 bw (bi.le (N_ _));have aS:=GP.refl b.pop;have dH:b.pop.l.length=b.l.length:=rfl;have dJ:=bw.len;have c8:=bw.pv;replace T:nk L b.pop.pv:=(by show nk L b.pv;rw[c8];exact T);clear c8;have cn:∀i∈is,0<=i/\i<b.pop.l.length/\iB b.pop.l i=17:=bv;obtain⟨dN,db⟩:=nm_ ((W.setCell (Z g 9) (.slice (j_ go) m h.oc)).drew);rw[<-db]at ap ad |-;clear db cb ah bv;clear o j z r y B E D;obtain⟨o,j,z,r,y,B,E,D⟩:=(J.gt ad O).i5
 go_wp2_with fail
 go_at_call 217
 refine(oh base g ap (ov aS.len) (λa M=>by have:=aI.ok.r9 a.2 (HR M);have:=aS.len;omega) (ov aI.al)).mono ?_;rintro e dO⟨rfl,bF,cu⟩;have dk:=aI.protect;have b7:=aS.trans (GP.protect _);have bR:=ad.trans cu;clear ap ad cu
 go_wp2_with fail
 go_at_call 138
 refine(iq base g _ bF (ov b7.len)).mono ?_;rintro e bC⟨rfl,dh,cy⟩;have aJ:=dk.v6 11 (.inl rfl);have aT:=b7.trans (GP.put _ ⟨11,0,0,0,0⟩);have bT:=bR.trans cy;clear bF bR cy;have dV:iB (iX.put b.pop.protect ⟨11,0,0,0,0⟩).l b.pop.protect.l.length=11:=oy _
 have ek:b.pop.protect.l.length<(iX.put b.pop.protect ⟨11,0,0,0,0⟩).l.length:=by simp[iX.put]
 have dx:(iX.put b.pop.protect ⟨11,0,0,0,0⟩).rts=v.rts++[(c,is)]:=dD.out
 have af:∀i∈is,0<=i/\i<(iX.put b.pop.protect ⟨11,0,0,0,0⟩).l.length/\iB (iX.put b.pop.protect ⟨11,0,0,0,0⟩).l i=17:=λi f=>by
  obtain⟨a1,ci,a3⟩:=cn i f;have hk:=aT.kp;exact⟨a1,(ov hk.1),(hk.2 i ci).trans a3⟩
 generalize dz:b.pop.protect.l.length=k at*;generalize a2:iX.put b.pop.protect ⟨11,0,0,0,0⟩=I at*;clear dz a2 cn;obtain⟨cr,M0,cX⟩:=dh
 have c3:cr.rt.map (λa=>(a.box,a.is))=v.rts++[(c,is)]:=by rw[<-dx,<-M0];rfl
 obtain⟨d,bl,bn⟩:∃d∈cr.rt,(d.box,d.is)=(c,is):=by
  have:(c,is)∈cr.rt.map (λa=>(a.box,a.is)):=by rw[c3];simp
  obtain⟨d,h1,h2⟩:=FQ.1 this;exact⟨d,h1,h2⟩
 have cq:d.box=c:=Z_ Prod.fst bn;have bo:d.is=is:=Z_ Prod.snd bn;have aG:=(cX.hb d (F9 _ bl)).1;rw[cq,bo]at aG;have cW:=cX.hi d.row (by unfold GS.rows;simp only[M_];exact .inr (.inr (FQ.2 ⟨d,F9 _ bl,rfl⟩)))
 have cT:Ns bC 3 d.A is:=by
  have:=Sl.iR cW
  unfold At.row at this;simp only[bo]at this;exact this
 have da:lI base bC g I:=⟨cr,M0,cX⟩;have dr:bC.cell? (Z c 0)=some (.slice d.A is.length d.c):=aG.f_ 0;clear M0 cX c3 bl bn cq bo aG cW
 go_wp2_with fail
 go_at_call 205
 refine(mI base g d.A is.length d.c is da (ov aT.len) cT rfl (λi f=>⟨(af i f).1,(af i f).2.1⟩) X).mono ?_;rintro e dP⟨rfl,dt,cA⟩;have aV:=aT.trans (GP.here _ is);have bU:=bT.trans cA;have aK:=aJ.tv is (λi f=>(af i f).2.2);have cZ:=aJ.sb;have du:iB (I.here is).l k=11:=(oq _ _ _ _).trans dV
 have dF:k<(I.here is).l.length:=by simp only[iX.here,i9];omega
 clear da dr cT cA bT aJ af
 go_wp2_with fail
 go_at_call 136
 refine(mG base g dt (ov aV.len) cZ.1 (by have:=cZ.2;have:=aV.len;show I.hC<=100000;simp only[iX.here,i9]at this;omega)).mono ?_;rintro e dR⟨rfl,bH,cC⟩;have aY:=aV.trans (GP.mark _);have aD:=bU.trans cC;have dW:=(((GP.mark (I.here is)).kp.2 _ X)).trans du;have d7:k<(I.here is).mark.l.length:=ov ((GP.mark (I.here is)).kp.1);generalize MT:(I.here is).mark=cl at*;clear MT dt bU cC;clear o j z r y B E D;obtain⟨o,j,z,r,y,B,E,D⟩:=(J.gt aD O).i5
 go_wp2_with fail
 go_at_call 217
 refine(oh base g bH (ov aY.len) (λa M=>by have:=aK.ok.r9 a.2 (HR M);have:=aY.len;omega) (ov aK.al)).mono ?_;rintro e dS⟨rfl,bI,cD⟩;have dm:=aK.protect;have b8:=aY.trans (GP.protect _);have bV:=aD.trans cD;clear bH aD cD;have cS:=(GP.protect cl).kp;generalize bD:cl.protect=cm at*;clear bD
 go_wp2_with fail
 go_at_call 138
 refine(iq base g _ bI (ov b8.len)).mono ?_;rintro e dT⟨rfl,aw,cH⟩;have bZ:=dm.simp (x:=⟨18,0,0,0,0⟩) O;have ce:=b8.trans (GP.put _ ⟨18,0,0,0,0⟩);have aE:=bV.trans cH;clear bI bV cH;clear o j z r y B E D;obtain⟨o,j,z,r,y,B,E,D⟩:=(J.gt aE O).i5
 go_wp2_with fail
 go_at_call 204
 refine(lj base g _ aw bZ.v1).mono ?_;rintro e w1⟨cs,bL,bO,rfl,rfl⟩
 go_wp2_with fail
 go_at_call 138
 refine(iq base g _ aw (ov ce.len)).mono ?_;rintro e dU⟨rfl,bN,cJ⟩;have b5:=bZ.simp (x:=⟨9,0,0,0,cs⟩) (lE 0 cs X X bL X);have bj:=ce.trans (GP.put _ ⟨9,0,0,0,cs⟩);have P:=aE.trans cJ;clear aw aE cJ;have aB:q3 cl.l (iX.put (iX.put cm ⟨18,0,0,0,0⟩) ⟨9,0,0,0,cs⟩).l:=(cS.trans (GP.put _ _).kp).trans (GP.put _ _).kp;generalize c9:iX.put (iX.put cm ⟨18,0,0,0,0⟩) ⟨9,0,0,0,cs⟩=dL at*;clear c9 cS;clear o j z r y B E D;obtain⟨o,j,z,r,y,B,E,D⟩:=(J.gt P O).i5
 go_wp2_with fail
 go_at_call 137
 refine(a7 nl AL _ cL K _ _ p _ rfl (ov c6.len) c6 (dQ.gt P O) (λu C=>(cO u C).gt P O O) (by rw[bj.pv];exact T.gt P) bN (b5.le X) (ov bj.len)).mono ?_;rintro e dC⟨rfl,dB,dK,bP,cK,cR,bq⟩;have dn:=GK.of b5 bq (cR.le (N_ _));have cf:=bj.trans bq;have bX:=P.trans cK;clear bN P cK cR;have ae:=aB.trans bq.kp;have dw:=(ae.2 _ X).trans dW;have dG:k<dB.l.length:=ov ae.1;obtain⟨bK,ao,cP,av,b9,bQ⟩:=box1 dC 3 #[Y k];have b6:Ns bK 3 (j_ ao) [(k:Int)]:=jj (n:=1) (s:=1) bQ rfl;have cQ:=bP.hF b9
 go_wp2_with fail
 go_at_call 205
 refine(mI base g _ 1 1 [(k:Int)] cQ (ov cf.len) b6 rfl (by intro i f;simp at f;subst f;exact⟨X,X⟩) X).mono ?_;rintro e dX⟨rfl,di,cM⟩;have dq:=dn.here k (.inl dw);have cj:=cf.trans (GP.here _ [(k:Int)]);have dj:=(bX.trans (.js b9)).trans cM;clear bP bX cM cQ b6 cP av b9 bQ;go_wp2;refine en_ ?_;rw[aq.out];have dy:=cj.rt.trans dD.out;exact⟨rfl,_,_,di.drop v.rts _ dy,(Gt.js N).trans dj,dq.El _,(bw.Dt cj).le X⟩
def w3(base g:Nat)(w:World)(b:t.h6=9)(d:∀e w',R e w'->e=.returned vu)(h:∀W,I [] w W->Calls prog 201 #[q_ g,.agg t.g_] W R):Calls prog 175 #[q_ g,.agg t.g_] w R:=by
 refine h5 λB p=>?_
 obtain⟨W,r,D,H,x,a⟩:=box1 w 229 t.g_
 replace a:Bk W r 229 #[Y 9,.string t.name,.string t.fn,Y t.n,Y t.op,.slice t.AE t.es.length t.cE,.slice t.AB t.bs.length t.cB,.slice t.AL t.ls.length t.cL]:=by rw[<-b];exact a
 obtain⟨z,y,F,C,E,G,K,J⟩:=a.i5;have n:=U (h W x);have o:=U d
 have f:t.g_=#[Y 9,.string t.name,.string t.fn,Y t.n,Y t.op,.slice t.AE t.es.length t.cE,.slice t.AB t.bs.length t.cB,.slice t.AL t.ls.length t.cL]:=by rw[<-b];rfl
 have q:=U f;clear b h d f
 go_enter func175,ntmps175
 go_wp2_with fail
 go_at_call 201
 rw[<-q.out];refine n.out.mono ?_;intro e w' c;have u:=o.out e w' c;subst u;have j:=U c;clear c;go_wp2;refine rn_ ?_;rw[p.out];exact j.out
def rH(base g:Nat)(k:Int)(w:World)(a:t.h6=k)(y:k=5∨k=6)(d:∀e w',R e w'->e=.returned vu)(h:∀W,I [] w W->Calls prog 202 #[q_ g,.agg t.g_] W R):Calls prog 175 #[q_ g,.agg t.g_] w R:=by
 refine h5 λC p=>?_
 obtain⟨W,r,E,J,x,b⟩:=box1 w 229 t.g_
 replace b:Bk W r 229 #[Y k,.string t.name,.string t.fn,Y t.n,Y t.op,.slice t.AE t.es.length t.cE,.slice t.AB t.bs.length t.cB,.slice t.AL t.ls.length t.cL]:=by rw[<-a];exact b
 obtain⟨B,z,G,D,F,H,L,K⟩:=b.i5;have n:=U (h W x);have o:=U d
 have f:t.g_=#[Y k,.string t.name,.string t.fn,Y t.n,Y t.op,.slice t.AE t.es.length t.cE,.slice t.AB t.bs.length t.cB,.slice t.AL t.ls.length t.cL]:=by rw[<-a];rfl
 have q:=U f;clear a h d f
 rcases y with rfl|rfl
 all_goals
  go_enter func175,ntmps175
  go_wp2_with fail
  go_at_call 202
  rw[<-q.out];refine n.out.mono ?_;intro e w' c;have u:=o.out e w' c;subst u;have j:=U c;clear c;go_wp2;refine rn_ ?_;rw[p.out];exact j.out
def oJ.le{base g:Nat}{v:iX}{a n:Nat}{w:World}{e:Ending}(h:oJ base g v a n w e w')(o:n<=m):oJ base g v a m w e w':=by
 obtain⟨d,q,p,f,j,c,b⟩:=h;exact⟨d,q,p,f,j,c,b.le o⟩
def oJ.gr{base g:Nat}{v:iX}{a n:Nat}{w b:World}{e:Ending}(h:oJ base g v a n b e w')(p:I [] w b):oJ base g v a n w e w':=by
 obtain⟨f,r,q,j,o,d,c⟩:=h;exact⟨f,r,q,j,(Gt.js p).trans o,d,c⟩
def mY.Fy{x f:ByteArray}{n o:Int}{a L:Bool}(h:mY V 9 x f n o m a L):f=i6/\n=0/\o=0:=by cases h;exact⟨rfl,rfl,rfl⟩
def mY.FB{x f:ByteArray}{n o:Int}{a L:Bool}(h:mY V 5 x f n o m a L):f=i6/\n=0/\o=0/\m=2:=by cases h;exact⟨rfl,rfl,rfl,rfl⟩
def mY.Fz{x f:ByteArray}{n o:Int}{a L:Bool}(h:mY V 6 x f n o m a L):x=i6/\f=i6/\n=0/\o=0/\m=1:=by cases h;exact⟨rfl,rfl,rfl,rfl,rfl⟩
def x2(base g:Nat)(V:List ByteArray):∀n,Db base g V n
 |0=>by
  intro ad t v q p w Q;obtain⟨r,_,_,_,_,h,_⟩:=Q.one;omega
 |n+1=>by
  have H:=uA base g V n (x2 base g V n);intro ad t v q p w Q km M G F iN;obtain⟨r,nb,nl,ae,af,hD,bA,z,hB,hL,N,B,U⟩:=Q.one;have ag:r=n:=X;subst ag;obtain⟨P,l,u,x,S,R⟩:=km.parts;obtain⟨k,W,ah,ai,aj,D,K,j,C,J,I,E,L,O⟩:=t;simp only[ST.h6,ST.name,ST.fn,ST.n,ST.op,ST.es,ST.bs,ST.ls,ST.AE,ST.AB,ST.AL]at z hB hL N B U P l u x S R
  by_cases Y:k=9
  .subst Y;have o:=z.Fy;obtain⟨rfl,rfl,rfl⟩:=o
   refine w3 base g w rfl (λe w' h=>h.1) λf a=>?_
   refine(yJ base g V r W D K j C J I E L O v q p f nb nl H B U (u.hF a) (λd c=>(x d c).hF a) (S.hF a) (λd c=>(R d c).hF a) (M.gt (.js a:Gt base gT w f)) (G.hF a) F X).mono λe w' h=>(h.gr a).le X
  .by_cases Z:k=5
   .subst Z;have o:=z.FB;obtain⟨rfl,rfl,rfl,T⟩:=o
    obtain⟨b,y,rfl⟩:∃b y,j=[b,y]:=by
     match j,T with
     |[b,y],_=>exact⟨b,y,rfl⟩
    refine rH base g 5 w rfl (.inl rfl) (λe w' h=>h.1) λf a=>?_
    exact(A8 base g V r W D K b y C J I E L O v q p f nb H B (u.hF a) (λd c=>(x d c).hF a) N (P.hF a) (λd c=>(l d c).hF a) (M.gt (.js a:Gt base gT w f)) (G.hF a) F X).mono λe w' h=>(h.gr a).le X
   .by_cases y:k=6
    .subst y;have o:=z.Fz;obtain⟨rfl,rfl,rfl,rfl,T⟩:=o
     obtain⟨b,rfl⟩:∃b,j=[b]:=by
      match j,T with
      |[b],_=>exact⟨b,rfl⟩
     refine rH base g 6 w rfl (.inr rfl) (λe w' h=>h.1) λf a=>?_
     exact(xx base g V r i6 D K b C J I E L O v q p f nb H B (u.hF a) (λd c=>(x d c).hF a) N (P.hF a) (λd c=>(l d c).hF a) (M.gt (.js a:Gt base gT w f)) (G.hF a) F X).mono λe w' h=>(h.gr a).le X
    .exact(vx base g V r k W ah ai aj D K j C J I E L O v q p w ae af nb nl H B U u x S R z Y y Z N P l M G F X).mono λe w' h=>h.le X
def xy(base g:Nat)(V:List ByteArray)(a:Nat):uN base g V a:=uA base g V a (x2 base g V a)
def nc.Cg{base g:Nat}{w:World}{s:GS}(h:nc base w g s)(VA:OA)(vc:Nat)(vs:List ByteArray)(p:Bs w VA vs):
 nc base (((w.setCell (Z g 6) (.slice VA vs.length vc)).setCell (Z g 7) (Y 0)).setCell (Z g 8) (Y 0)) g {s with VA:=VA,vc:=vc,vs:=vs,hidden:=0,most:=0}/\Gt base gT w (((w.setCell (Z g 6) (.slice VA vs.length vc)).setCell (Z g 7) (Y 0)).setCell (Z g 8) (Y 0)):=by
 have b:=h.hg.hV 6 (.slice VA vs.length vc);have c:=b.hV 7 (Y 0);have n:=c.hV 8 (Y 0)
 have a:∀e,e≠210->mO e w (((w.setCell (Z g 6) (.slice VA vs.length vc)).setCell (Z g 7) (Y 0)).setCell (Z g 8) (Y 0)):=λe d=>((mO.set h.hg (Ne.symm d) _ _).trans (.set b (Ne.symm d) _ _)).trans (.set c (Ne.symm d) _ _)
 refine⟨⟨n,h.hbg,(a _ O).own h.hl,(a _ O).own h.hc,(a _ O).own h.ho,λf j=>⟨(a 30 O).bk (h.hb f j).1,(h.hb f j).2⟩,h.hbn,λq o=>(a 3 O).own (h.hi q o),h.km,(a 9 O).sl p,G_ h.hz (a 9 O).1⟩,((Gt.set h.hg h.hbg O _ _).trans (.set b h.hbg O _ _)).trans (.set c h.hbg O _ _)⟩
def nc.Ei{base g:Nat}{w:World}{s:GS}(h:nc base w g s)(E:s.rt++s.os=[])(A':OA)(c':Nat)(i:Int)(p:w.grownBy w' (Value.slice s.EA s.es.length s.ec).ownBlock)(K:w'.ownsRow base 3 1 (.slice A' (s.es.length+1) c') (s.es.length+1) (s.es.map (Y)++[Y i]))(o:(Value.slice A' (s.es.length+1) c').ownBlock=(Value.slice s.EA s.es.length s.ec).ownBlock∨(Value.slice A' (s.es.length+1) c').ownBlock=some w.heap.size):
 Bk w' g 210 s.g_/\nc base (w'.setCell (Z g 3) (.slice A' (s.es.length+1) c')) g {s with EA:=A',ec:=c',es:=s.es++[i]}/\Gt base gT w (w'.setCell (Z g 3) (.slice A' (s.es.length+1) c')):=by
 have x:=h.hi (.slice s.EA s.es.length s.ec,s.es) (by simp[GS.rows]);have B:=h.hi (.slice s.FA s.fs.length s.fc,s.fs) (by simp[GS.rows]);have G:=h.km
 have L:s.rows=[(.slice s.EA s.es.length s.ec,s.es)]++[(.slice s.FA s.fs.length s.fc,s.fs)]:=by unfold GS.rows;rw[E];rfl
 rw[L,kf]at G
 have y:∀c,(Value.slice s.FA s.fs.length s.fc).ownBlock=some c->(Value.slice s.EA s.es.length s.ec).ownBlock≠some c:=λc j=>G.2 c j (.slice s.EA s.es.length s.ec,s.es) J
 have F:∀e,e≠3->mO e w w':=λe a=>.app p x (Ne.symm a)
 have f:=(F _ O).bk h.hg
 have H:∀e,e≠210->mO e w' (w'.setCell (Z g 3) (.slice A' (s.es.length+1) c')):=λe a=>.set f (Ne.symm a) _ _
 have d:=λe C M=>(F e C).trans (H e M)
 have z:GS.rows {s with EA:=A',ec:=c',es:=s.es++[i]}=[(.slice A' (s.es.length+1) c',s.es++[i])]++[(.slice s.FA s.fs.length s.fc,s.fs)]:=by unfold GS.rows;rw[E];simp
 refine⟨f,⟨?_,h.hbg,(d _ O O).own h.hl,(d _ O O).own h.hc,(d _ O O).own h.ho,λu D=>⟨(d 30 O O).bk (h.hb u D).1,(h.hb u D).2⟩,h.hbn,λn b=>?_,?_,(d 9 O O).sl h.hv,G_ h.hz (d 9 O O).1⟩,(Gt.app p x O).trans (.set f h.hbg O _ _)⟩
 .have:=f.hV 3 (.slice A' (s.es.length+1) c')
  exact ML
 .rw[z]at b;refine(H 3 O).own ?_
  rcases X_.1 b with b|b
  .have:n=(.slice A' (s.es.length+1) c',s.es++[i]):=zu b
   subst this
   simpa using K
  .have:n=(.slice s.FA s.fs.length s.fc,s.fs):=zu b
   subst this
   exact ns B (I.iW p) λN r a=>y N a (jK.1 r)
 .rw[z,kf];refine⟨?_,λc j n b a=>?_⟩
  .simp only[List.filterMap_cons,List.filterMap_nil];split<;>simp
  .have:n=(.slice A' (s.es.length+1) c',s.es++[i]):=zu b
   subst this
   rcases o with r|r
   .exact y c j (r.symm.trans a)
   .have C:=(kk B j).2
    have:some w.heap.size=some c:=r.symm.trans a
    injection this;omega
def nc.Eh{base g:Nat}{w:World}{s:GS}(h:nc base w g s)(F:s.rt++s.os=[])(A':OA)(c':Nat)(i:Int)(p:w.grownBy w' (Value.slice s.FA s.fs.length s.fc).ownBlock)(K:w'.ownsRow base 3 1 (.slice A' (s.fs.length+1) c') (s.fs.length+1) (s.fs.map (Y)++[Y i]))(o:(Value.slice A' (s.fs.length+1) c').ownBlock=(Value.slice s.FA s.fs.length s.fc).ownBlock∨(Value.slice A' (s.fs.length+1) c').ownBlock=some w.heap.size):
 Bk w' g 210 s.g_/\nc base (w'.setCell (Z g 4) (.slice A' (s.fs.length+1) c')) g {s with FA:=A',fc:=c',fs:=s.fs++[i]}/\Gt base gT w (w'.setCell (Z g 4) (.slice A' (s.fs.length+1) c')):=by
 have y:=h.hi (.slice s.FA s.fs.length s.fc,s.fs) (by simp[GS.rows]);have C:=h.hi (.slice s.EA s.es.length s.ec,s.es) (by simp[GS.rows]);have u:=h.km
 have L:s.rows=[(.slice s.EA s.es.length s.ec,s.es)]++[(.slice s.FA s.fs.length s.fc,s.fs)]:=by unfold GS.rows;rw[F];rfl
 rw[L,kf]at u
 have z:∀c,(Value.slice s.FA s.fs.length s.fc).ownBlock=some c->(Value.slice s.EA s.es.length s.ec).ownBlock≠some c:=λc j=>u.2 c j (.slice s.EA s.es.length s.ec,s.es) J
 have G:∀e,e≠3->mO e w w':=λe a=>.app p y (Ne.symm a)
 have f:=(G _ O).bk h.hg
 have H:∀e,e≠210->mO e w' (w'.setCell (Z g 4) (.slice A' (s.fs.length+1) c')):=λe a=>.set f (Ne.symm a) _ _
 have d:=λe D M=>(G e D).trans (H e M)
 have B:GS.rows {s with FA:=A',fc:=c',fs:=s.fs++[i]}=[(.slice s.EA s.es.length s.ec,s.es)]++[(.slice A' (s.fs.length+1) c',s.fs++[i])]:=by unfold GS.rows;rw[F];simp
 refine⟨f,⟨?_,h.hbg,(d _ O O).own h.hl,(d _ O O).own h.hc,(d _ O O).own h.ho,λx E=>⟨(d 30 O O).bk (h.hb x E).1,(h.hb x E).2⟩,h.hbn,λn b=>?_,?_,(d 9 O O).sl h.hv,G_ h.hz (d 9 O O).1⟩,(Gt.app p y O).trans (.set f h.hbg O _ _)⟩
 .have:=f.hV 4 (.slice A' (s.fs.length+1) c')
  exact ML
 .rw[B]at b;refine(H 3 O).own ?_
  rcases X_.1 b with b|b
  .have:n=(.slice s.EA s.es.length s.ec,s.es):=zu b
   subst this
   exact ns C (I.iW p) λN r a=>z N (jK.1 r) a
  .have:n=(.slice A' (s.fs.length+1) c',s.fs++[i]):=zu b
   subst this
   simpa using K
 .rw[B,kf];refine⟨u.1,λc j n b a=>?_⟩
  have:n=(.slice s.EA s.es.length s.ec,s.es):=zu b
  subst this
  rcases o with r|r
  .exact z c (r.symm.trans j) a
  .have D:=(kk C a).2
   have:some w.heap.size=some c:=r.symm.trans j
   injection this;omega
def o6.first:o6 [⟨21,0,0,0,0⟩] 1 [] [] 0 where
 code:=⟨O,λi b=>by
  have:i=0:=zu b
  subst this
  show PF _ _ _ (⟨21,0,0,0,0⟩:In)
  unfold PF;rw[R_ O,R_ O]
  decide,O⟩
 wZ:=by decide
 cs1:=λf d=>by cases d
 cs2:=λi b e=>by
  have:i=0:=zu b
  subst this;simp at e
 pW:=λc a=>by cases a
 q:=by decide
 zR:=by decide
 r9:=λc a=>by cases a
structure CZ(k:Nat)(pv:Value)(n:Nat)(v:iX):Prop where
 pv:v.pv=pv
 el:v.es.length=k
 fl:v.fs.length=k
 e21:∀e∈v.es,0<=e/\e<v.l.length/\iB v.l e=21
 f64:∀f∈v.fs,2<=f/\f<=64
 len:v.l.length<=n
 ats:v.ats=[]
 rts:v.rts=[]
 ok:(k=0/\v.l=[]/\v.hC=0/\v.cs=[])∨∃q,o6 v.l v.hC v.cs [] q/\q<v.l.length/\iB v.l ((v.l.length:Int)-1)=14
def CZ.mark{k n:Nat}{pv:Value}{v:iX}(h:CZ k pv n v):o6 v.mark.l v.mark.hC v.mark.cs [] v.l.length/\0<=v.hC/\v.hC<=n:=by
 rcases h.ok with⟨_,a,b,c⟩|⟨d,a,b,_⟩
 .have:=o6.first
  unfold iX.mark;rw[a,b,c];exact⟨this,X,X⟩
 .refine⟨a.mark,?_,?_⟩
  .rw[a.wZ];unfold jF;omega
  .rw[a.wZ];unfold jF
   have:=Gx (λi:In=>i.op==21) v.l
   have:=h.len
   omega
def CZ.next{k n n' p:Nat}{pv:Value}{v t a:iX}{q:Int}(h:CZ k pv n v)(E:q3 v.l t.l)(D:iB t.l v.l.length=21)(J:t.l.length=v.l.length+1)(f:t.es=v.es++[(v.l.length:Int)])(j:t.fs=v.fs)(B:t.pv=pv)(I:t.ats=[])(r:t.rts=[])(P:GP t a m)(x:GK a q p)(y:q<a.l.length)(C:iB a.l ((a.l.length:Int)-1)=14)(u:Int)(H:2<=u/\u<=64)(K:n+1+m<=n'):CZ (k+1) pv n' {a with fs:=a.fs++[u]}:=by
 have o:=by have d:=P.pW;rw[I]at d;simpa using d
 refine⟨P.pv.trans B,?_,?_,?_,?_,?_,o,P.rt.trans r,.inr ⟨q,?_,y,C⟩⟩
 .show a.es.length=k+1
  rw[P.es,f,J_,h.el]
  rfl
 .show(a.fs++[u]).length=k+1
  rw[J_,P.fs,j,h.fl]
  rfl
 .show ∀e∈a.es,0<=e/\e<a.l.length/\iB a.l e=21
  rw[P.es,f];have c:=P.kp;intro e b
  rcases X_.1 b with b|b
  .obtain⟨d,F,G⟩:=h.e21 e b;have z:=c.1;exact⟨d,X,(c.2 e X).trans ((E.2 e F).trans G)⟩
  .have:e=(v.l.length:Int):=zu b
   subst this;have z:=c.1;exact⟨X,X,(c.2 _ X).trans D⟩
 .show ∀c∈a.fs++[u],2<=c/\c<=64
  intro c b
  rcases X_.1 b with b|b
  .rw[P.fs,j]at b;exact h.f64 c b
  .have:c=u:=zu b
   subst this;exact H
 .show a.l.length<=n'
  have:=P.len
  have:=h.len
  omega
 .have:=x.ok
  rw[o]at this;exact this
def pp(v:Int)(l:List In)(i:Nat):List In:=l.modify i λx=>⟨x.op,x.a,x.b,v,x.n⟩
def yX{v:Int}{l:List In}:(pp v l i).length=l.length:=by simp[pp]
def yW(h:k<l.length):pp v l k=l.set k ⟨l[k].op,l[k].a,l[k].b,v,l[k].n⟩:=by
 refine Hp (by simp[pp]) λi d f=>?_
 simp only[pp,GJ,List.getElem_set];split
 .rename_i c;subst c
  rfl
 .rfl
def u2(a:k<l.length):(lV l).set (k*5+3) (Y v)=lV (pp v l k):=by
 rw[yW v l k a];exact pE In.E 5 (λ_=>rfl) l k 3 _ _ a X rfl
def zb(es fs:List Int)(l:List In)(i f:Nat):pp (fs.getD f 0) (mg (es.getD f 0) l i) i=j8 es fs l ((i:Int),(f:Int)):=by
 refine Hp (by simp[pp,mg,j8]) λk a b=>?_
 simp only[pp,mg,j8,GJ,Gs];split<;>rfl
def ints_at(l:List Int)(k:Nat)(h:k<l.length):(l.map (Value.int .i64))[k]?=some (Y (l.getD k 0)):=by
 simp[Gf,h]
section
variable{base g:Nat}{w:World}{s:GS}
def nc.qm(h:nc base w g s){f:Nat}(D:s.l.length=m)(E:i<m)(B:s.es.length=3)(C:s.fs.length=3)(T:f<3):
 ∃a d b lc ec fc cur,s.L=some (Z a 0)/\base<=a/\Bk w a 189 cur/\w.cell? (Z g 1)=some (.slice (j_ a) m lc)/\w.cell? (Z g 3)=some (.slice (j_ d) 3 ec)/\w.cell? (Z g 4)=some (.slice (j_ b) 3 fc)/\
  w.cell? (Z d f)=some (Y (s.es.getD f 0))/\w.cell? (Z b f)=some (Y (s.fs.getD f 0))/\(∃o,w.cell? (Z a (i*5+4))=some (Y o))/\∃o,w.cell? (Z a (i*5+3))=some (Y o):=by
 obtain⟨a,cur,p,y,j,t⟩:=kE h.hl X;obtain⟨d,e,q,_,x,u⟩:=kE (h.hi (.slice s.EA s.es.length s.ec,s.es) (by simp[GS.rows])) X;obtain⟨b,F,k,_,r,z⟩:=kE (h.hi (.slice s.FA s.fs.length s.fc,s.fs) (by simp[GS.rows])) X;refine⟨a,d,b,s.lc,s.ec,s.fc,cur,p,y,j,?_,?_,?_,?_,?_,⟨(s.l[i]'X).n,?_⟩,⟨(s.l[i]'X).c,?_⟩⟩
 .exact(h.hg.f_ 1).trans (by show some (Value.slice s.L s.l.length s.lc)=_;rw[p,D])
 .exact(h.hg.f_ 3).trans (by show some (Value.slice s.EA s.es.length s.ec)=_;rw[q,B])
 .exact(h.hg.f_ 4).trans (by show some (Value.slice s.FA s.fs.length s.fc)=_;rw[k,C])
 .exact(x.f_ f).trans (u _ _ (ints_at s.es f X))
 .exact(r.f_ f).trans (z _ _ (ints_at s.fs f X))
 .exact(j.f_ _).trans (t _ _ ((jh In.E 5 (λ_=>rfl) s.l i 4 X X).trans rfl))
 .exact(j.f_ _).trans (t _ _ ((jh In.E 5 (λ_=>rfl) s.l i 3 X X).trans rfl))
def nc.Aj(h:nc base w g s){a:Nat}(j:s.L=some (Z a 0))(n:Bk w a 189 cur){k:Nat}{u:Value}{l:List In}(iN:l.length=s.l.length)(e:(lV s.l).set (i*5+k) u=lV l):
 nc base (w.setCell (Z a (i*5+k)) u) g {s with l:=l}:=by
 have d:∀e,e≠189->mO e w (w.setCell (Z a (i*5+k)) u):=λe b=>.set n (Ne.symm b) _ _
 have f:=h.hl;rw[j]at f;have c:=x_ f (i*5+k) u;rw[e]at c
 have o:s.g_=GS.g_ {s with l:=l}:=by unfold GS.g_;simp only[iN]
 exact h.r5 (L:=s.L) (lc:=s.lc) (l:=l) (hC:=s.hC) (hidden:=s.hidden) (most:=s.most) (by rw[<-o];exact(d _ O).bk h.hg) (by rw[j,iN];exact c) λe b=>d e (by rintro rfl;revert b;decide)
def nc.Dv(h:nc base w g s){a:Nat}(c:s.L=some (Z a 0))(b:Bk w a 189 cur)(d:i<s.l.length)(u:Int):
 nc base (w.setCell (Z a (i*5+4)) (Y u)) g {s with l:=mg u s.l i}:=h.Aj c b (lF _ _ _) (qO u s.l i d)
def nc.Dw(h:nc base w g s){a:Nat}(c:s.L=some (Z a 0))(b:Bk w a 189 cur)(d:i<s.l.length)(u:Int):
 nc base (w.setCell (Z a (i*5+3)) (Y u)) g {s with l:=pp u s.l i}:=h.Aj c b (yX) (u2 u s.l i d)
end
