import Derived.Test.YtenbhdilndfaeaaGreatR19
set_option maxRecDepth 100000
set_option maxHeartbeats 0
set_option linter.all false
namespace Go.Proofs.YtenbhdilndfaeaaGreat
open Go.RowKit Go.Proofs.Tryz
variable{e:TypeId}{A:OA}{xs:List Value}{w':World}{V:List ByteArray}{t:ST}{R:Ending->World->Prop}{i m:Nat}{cur:Array Value}(v:Int)(l:List In)(k:Nat)
def Be{w:World}{base:Nat}{n c:Nat}{x:Value}(h:w.ownsRow base e 1 (.slice A (n+1) c) (n+1) (xs++[x])):w.ownsRow base e 1 (.slice A n c) n xs:=by
 have u:=by have:=h.1;simp at this;omega
 refine⟨X,?_⟩
 rcases h.2 with⟨a,_⟩|⟨g,y,cur,a,o,p,r,f,j,d⟩
 .cases a
 .injection a with b _ q;subst b;subst q;refine .inr ⟨g,c,cur,rfl,o,p,X,f,j,?_⟩
  have:=FN (List.take n) d
  rw[List.take_take]at this;rw[Nat.mul_one];have e:min n ((n+1)*1)=n:=X;rw[e]at this;rw[this,List.take_append_of_le_length X,FK X]
def xU{w:World}{base:Nat}{a:Nat}{n c:Nat}(h:w.ownsRow base e a (.slice A n c) n xs):n<=maxLen:=by
 rcases h.2 with⟨_,b⟩|⟨_,_,_,_,_,_,d,f,_⟩
 .omega
 .omega
def nh.push{base g x:Nat}{w:World}{s:GS}(h:nh base w g s)(A':OA)(c':Nat)(G:Bk w x 30 #[n_])(D:base<=x)(B:∀a∈s.rt++s.os,a.box≠x)(r:w.grownBy w' (Value.slice s.OA s.os.length s.oc).ownBlock)(C:w'.ownsRow base 313 1 (.slice A' (s.os.length+1) c') (s.os.length+1) ((s.os.map λa=>q_ a.box)++[q_ x])):
 Bk w' g 210 s.g8/\nh base (w'.setCell (Z g 9) (.slice A' (s.os.length+1) c')) g {s with OA:=A',oc:=c',os:=s.os++[⟨x,none,0,[]⟩]}/\Gt base gT w (w'.setCell (Z g 9) (.slice A' (s.os.length+1) c')):=by
 have u:∀e,e≠313->mW e w w':=λe n=>.app r h.ho (Ne.symm n)
 have f:=(u _ I).bk h.hg
 have z:∀e,e≠210->mW e w' (w'.setCell (Z g 9) (.slice A' (s.os.length+1) c')):=λe n=>.set f (Ne.symm n) _ _
 have b:=λe E F=>(u e E).trans (z e F)
 have o:GS.rows {s with OA:=A',oc:=c',os:=s.os++[(⟨x,none,0,[]⟩:At)]}=s.rows++[(n_,[])]:=by
  unfold GS.rows;simp
 refine⟨f,⟨?_,h.hbg,(b _ I I).own h.hl,(b _ I I).own h.hc,?_,?_,?_,?_,?_,(b 9 I I).sl h.hv,G_ h.hz (b 9 I I).1⟩,(Gt.app r h.ho I).trans (.set f h.hbg I _ _)⟩
 .have:=f.hN 9 (.slice A' (s.os.length+1) c')
  exact MH
 .rw[K_,FI];exact(z _ I).own C
 .intro a c
  have d:a∈s.rt++s.os∨a=⟨x,none,0,[]⟩:=by simpa[or_assoc]using c
  rcases d with c|rfl
  .exact⟨(b 30 I I).bk (h.hb a c).1,(h.hb a c).2⟩
  .exact⟨(b 30 I I).bk G,D⟩
 .rw[<-Ge,FI,Gs];refine⟨h.hbn,s_,λa c p j=>?_⟩;obtain⟨y,d,rfl⟩:=Z_.1 c
  have:p=x:=zu j
  subst this;exact B y d
 .intro y d;rw[o]at d
  rcases T_.1 d with d|d
  .exact(b 3 I I).own (h.hi y d)
  .have:y=(n_,[]):=zu d
   subst this;exact iY _ _ _ _
 .rw[o,j9];exact⟨h.jQ,λp j=>by simp[Value.ownBlock]at j⟩
def nh.EV{base g:Nat}{w:World}{s:GS}(h:nh base w g s)(c:List At)(a:At)(j:s.os=c++[a]):
 nh base (w.setCell (Z g 9) (.slice s.OA c.length s.oc)) g {s with os:=c,rt:=s.rt++[a]}:=by
 have b:∀e,e≠210->mW e w (w.setCell (Z g 9) (.slice s.OA c.length s.oc)):=λe o=>.set h.hg (Ne.symm o) _ _
 have d:((s.rt++[a])++c).Perm (s.rt++s.os):=by
  rw[j,Ge];exact List.Perm.append_left _ (List.perm_append_comm)
 refine⟨?_,h.hbg,(b _ I).own h.hl,(b _ I).own h.hc,?_,?_,?_,?_,?_,(b _ I).sl h.hv,G_ h.hz (b 9 I).1⟩
 .exact h.hg.hN 9 (.slice s.OA c.length s.oc)
 .have:=h.ho
  rw[j]at this;simp only[K_,HC,FI,Gn,G1]at this;exact(b _ I).own (Be this)
 .intro n p;have f:=d.mem_iff.1 p;exact⟨(b 30 I).bk (h.hb n f).1,(h.hb n f).2⟩
 .exact(d.map At.box).nodup_iff.2 h.hbn
 .intro n f;refine(b 3 I).own (h.hi n ?_);unfold GS.rows at f |-;exact((((d.map _).cons _).cons _).mem_iff).1 f
 .have:=h.jQ
  unfold GS.rows at this |-;exact((((d.map _).cons _).cons _).filterMap _).nodup_iff.2 this
def lJ.drop{base g:Nat}{w:World}{v:iT}(h:lJ base w g v)(r x:List (Nat × List Int))(o:v.rts=r++x):lJ base w g (v.drop r):=by
 obtain⟨s,rfl,h⟩:=h;have f:s.rt.map (λb=>(b.box,b.is))=r++x:=o;obtain⟨c,d,p,j,u⟩:=List.map_eq_append_iff.1 f
 have a:(c++s.os).Sublist (s.rt++s.os):=by rw[p];exact(List.sublist_append_left c d).append_right _
 refine⟨{s with rt:=c},?_,h.hg,h.hbg,h.hl,h.hc,h.ho,λb n=>h.hb b (a.subset n),(a.map At.box).nodup h.hbn,λq V=>h.hi q ?_,?_,h.hv,h.hz⟩
 .simp only[GS.lg,iT.drop,j]
 .unfold GS.rows at V |-;exact(((a.map _).cons_cons _).cons_cons _).subset V
 .have:=h.jQ
  unfold GS.rows at this |-;exact((((a.map _).cons_cons _).cons_cons _).filterMap _).nodup this
def y9(base g:Nat)(V:List ByteArray)(al:Nat)(x:ByteArray)(AE:OA)(cE:Nat)(es:List ET)(W:OA)(cB:Nat)(r:List ST)(AL:OA)(cL:Nat)(B:List ST)(v:iT)(q:Int)(p:Nat->Prop)(w:World)(nb nl:Nat)(bY:vh base g V al)(ck:l3 V al nb r)(bM:l3 V al nl B)
 (aP:Sl w 229 8 W r.length (r.flatMap ST.E)) (cK:∀u∈r,jD p w u) (b7:Sl w 229 8 AL B.length (B.flatMap ST.E)) (cQ:∀u∈B,jD p w u) (hP:nt w v.pv) (MR:lJ base w g v) (MT:GK v q (al+1)) (iG:v.l.length+30*(1+nb+nl)<=100000):
 Calls prog 201 #[q_ g,.agg (ST.mk 9 x i4 0 0 AE cE es W cB r AL cL B).g8] w (oQ base g v (al+1) (30*(1+nb+nl)) w):=by
 refine ig λan aI=>?_
 obtain⟨bC,bv,bw,aZ,bg⟩:=info_parts infoPI;obtain⟨D,gx,c,be,hx,bO,M,z,aA⟩:=DC w 229 (ST.mk 9 x i4 0 0 AE cE es W cB r AL cL B).g8 30 #[n_];replace z:Bk D gx 229 #[Y 9,.string x,.string i4,Y 0,Y 0,.slice AE es.length cE,.slice W r.length cB,.slice AL B.length cL]:=z;obtain⟨C,J,E,F,G,K,P,N⟩:=z.i0;have S:=hP.gt (.jX M:Gt base gT w D);have cx:=aP.g_ M
 have cr:=λu j=>(cK u j).g_ M
 have dH:=b7.g_ M
 have dm:=λu j=>(cQ u j).g_ M
 obtain⟨s,hs,f⟩:=MR
 have bF:∀a∈s.rt++s.os,a.box≠c:=λa L he=>by
  have:=(f.hb a L).1.lt
  omega
 have bq:base<=c:=ov f.hz
 have R:s.os.length<=20:=by
  have e:s.os.length=v.ats.length:=by rw[<-hs];simp[GS.lg]
  rw[e]
  have:=MT.al
  omega
 have bJ:=f.g_ M;have bd:D.cell? (Z g 9)=some (.slice s.OA s.os.length s.oc):=bJ.hg.f_ 9;obtain⟨bf,bk,bD,cf,bP,bE⟩:=box1 D 313 #[q_ c];have br:Sl bf 313 1 (j_ bk) 1 [q_ c]:=jj (n:=1) (s:=1) bE rfl;have bx:=bJ.g_ bP;have aq:=O hs;clear aP b7 hP cK cQ f bJ hs
 go_enter func201,ntmps201
 go_wp2_with (at_builtin;refine j0 rfl rfl base 313 bC 1 8 underlying208 bv bw aZ bg rfl I I s.OA s.os.length s.oc _ rfl bx.ho _ 1 1 _ rfl br (by intro u j;simp at j;subst j;rfl) X bx.hz ?_;intro aw aO ah bz aQ _;have cp:=bx.push aw aO (aA.g_ bP) bq bF aQ bz;have am:=O cp;have ad:=cp.1.hm 9;have z9:ah.cell? (Z g 9)=some (.slice s.OA s.os.length s.oc):=cp.1.f_ 9;clear cp)
 have cb:lJ base (ah.setCell (Z g 9) (.slice aw (s.os.length+1) aO)) g (v.push c):=⟨_,(by rw[<-aq.out];simp[GS.lg,iT.push]),am.out.2.1⟩;have ag:=(Gt.jX bP).trans am.out.2.2;have aj:=MT.push c;have av:=GP.refl (v.push c);have bH:(v.push c).l.length=v.l.length:=rfl;have bj:nt D (v.push c).pv:=S;obtain⟨dL,bN⟩:=nm_ (ah.setCell (Z g 9) (.slice aw (s.os.length+1) aO));rw[<-bN]at cb ag |-;clear bN am ad z9 bd bx br aA R bF;replace S:=bj;clear bj
 go_at_call 217
 refine(ot base g cb (ov av.len) (λa L=>by have:=aj.ok.sK a.2 (H5 L);have:=av.len;omega) (ov aj.al)).mono ?_;rintro e dU⟨rfl,t,cM⟩;have cz:=aj.protect;have bR:=av.trans (GP.protect _);have U:=ag.trans cM;clear cb ag cM;clear C J E F G K P N;obtain⟨C,J,E,F,G,K,P,N⟩:=(z.gt U I).i0
 go_wp2_with fail
 go_at_call 137
 refine(bY nb W _ cB r _ _ p _ rfl (ov ck.len) ck (cx.gt U I) (λu j=>(cr u j).gt U I I) (by rw[bR.pv];exact S.gt U) t (cz.le X) (ov bR.len)).mono ?_;rintro e T⟨rfl,b,dT,cT,cN,de,aF⟩;have aW:=GK.of cz aF (de.le (P_ _));have bu:=bR.trans aF;have cy:=U.trans cN;clear t U cN de;obtain⟨l,is,hl,cc⟩:=bu.DT;have A:=aW.ok.qq is (by rw[hl];simp);have dz:=aW.ok.sK is (by rw[hl];simp);obtain⟨h,aL,o⟩:=cT
 have bL:h.os.map (λa=>(a.box,a.is))=l++[(c,is)]:=by rw[<-hl,<-aL];rfl
 obtain⟨Q,l1,ch,bW,cn⟩:=List.map_eq_append_iff.1 bL
 obtain⟨a,rfl⟩:∃a,l1=[a]:=by
  cases l1 with
  |nil=>simp at cn
  |cons a l1=>
   cases l1 with
   |nil=>exact⟨a,rfl⟩
   |cons ci l1=>simp at cn
 have ax:h.os.length=Q.length+1:=by rw[ch];simp
 have b0:=jk o.ho;have cl:=o.EV Q a ch;have cm:Gt base gT T (T.setCell (Z g 9) (.slice h.OA Q.length h.oc)):=o.zP 9 _;obtain⟨go,_,cq,_,_,_⟩:=kS o.ho X;rw[cq]at cl cm
 have bd:T.cell? (Z g 9)=some (.slice (j_ go) (Q.length+1) h.oc):=by have:=o.hg.f_ 9;unfold GS.g8 at this;rw[ax,cq]at this;exact this
 have ad:=o.hg.hm 9;obtain⟨m,MM⟩:=nm_ Q.length;rw[ax]at b0;have ap:=xU o.ho;rw[<-MM]at bd cl cm b0;have dk:IntKind.i64.wrap (m:Int)=m:=F1 _ (by unfold maxLen at ap;omega);have dn:(m:Int)<=h.oc:=X;have ae:m<=h.oc:=X;have bU:=O aL;have bS:=O ch;have du:=O cc;clear aL ch bW cn ax cq MM bL hl cc o
 go_upto_region 5 with fail
 go_region
 go_upto_region 6 with fail
 clear bd ad dk dn ae
 have af:lJ base (T.setCell (Z g 9) (.slice (j_ go) m h.oc)).drew g b.pop:=⟨_,(by
  rw[<-bU.out];have aC:h.lg.ats=Q.map (λa=>(a.box,a.is))++[(a.box,a.is)]:=(by show h.os.map _=_;rw[bS.out];simp);unfold iT.pop;rw[aC]
  simp[GS.lg]),cl.g_ (H [] _).drew⟩
 have cs:=(cy.trans cm).trans (.jX (H [] (T.setCell (Z g 9) (.slice (j_ go) m h.oc))).drew:Gt base gT _ _);have ao:=MT.D4 bu (aW.le (P_ _));have ay:=GP.refl b.pop;have dE:b.pop.l.length=b.l.length:=rfl;have dF:=bu.len;have db:=bu.pv;replace S:nt D b.pop.pv:=(by show nt D b.pv;rw[db];exact S);clear db;have cO:∀i∈is,0<=i/\i<b.pop.l.length/\h5 b.pop.l i=17:=A;obtain⟨dM,bQ⟩:=nm_ ((T.setCell (Z g 9) (.slice (j_ go) m h.oc)).drew);rw[<-bQ]at af cs |-;clear bQ cl cm A;clear C J E F G K P N;obtain⟨C,J,E,F,G,K,P,N⟩:=(z.gt cs I).i0
 go_wp2_with fail
 go_at_call 217
 refine(ot base g af (ov ay.len) (λa L=>by have:=ao.ok.sK a.2 (H5 L);have:=ay.len;omega) (ov ao.al)).mono ?_;rintro e dN⟨rfl,bV,bG⟩;have cA:=ao.protect;have a6:=ay.trans (GP.protect _);have ce:=cs.trans bG;clear af cs bG
 go_wp2_with fail
 go_at_call 138
 refine(ik base g _ bV (ov a6.len)).mono ?_;rintro e aN⟨rfl,bZ,cS⟩;have aV:=cA.wI 11 (.inl rfl);have az:=a6.trans (GP.put _ ⟨11,0,0,0,0⟩);have cg:=ce.trans cS;have dP:h5 (iT.put b.pop.protect ⟨11,0,0,0,0⟩).l b.pop.protect.l.length=11:=oG _
 have eh:b.pop.protect.l.length<(iT.put b.pop.protect ⟨11,0,0,0,0⟩).l.length:=by simp[iT.put]
 have dr:(iT.put b.pop.protect ⟨11,0,0,0,0⟩).rts=v.rts++[(c,is)]:=du.out
 have aJ:∀i∈is,0<=i/\i<(iT.put b.pop.protect ⟨11,0,0,0,0⟩).l.length/\h5 (iT.put b.pop.protect ⟨11,0,0,0,0⟩).l i=17:=λi f=>by
  obtain⟨a1,cP,a3⟩:=cO i f;have hk:=az.kp;exact⟨a1,(ov hk.1),(hk.2 i cP).trans a3⟩
 generalize dG:b.pop.protect.l.length=k at*;generalize bo:iT.put b.pop.protect ⟨11,0,0,0,0⟩=y at*;obtain⟨b6,MO,cZ⟩:=bZ
 have dt:b6.rt.map (λa=>(a.box,a.is))=v.rts++[(c,is)]:=by rw[<-dr,<-MO];rfl
 obtain⟨d,bl,bm⟩:∃d∈b6.rt,(d.box,d.is)=(c,is):=by
  have:(c,is)∈b6.rt.map (λa=>(a.box,a.is)):=by rw[dt];simp
  obtain⟨d,h1,h2⟩:=Z_.1 this;exact⟨d,h1,h2⟩
 have cR:d.box=c:=FN Prod.fst bm;have bt:d.is=is:=FN Prod.snd bm;have cv:=(cZ.hb d (FL _ bl)).1;rw[cR,bt]at cv;have dq:=cZ.hi d.row (by unfold GS.rows;simp only[N_];exact .inr (.inr (Z_.2 ⟨d,FL _ bl,rfl⟩)))
 have dh:Ns aN 3 d.A is:=by
  have:=Sl.iQ dq
  unfold At.row at this;simp only[bt]at this;exact this
 have c3:lJ base aN g y:=⟨b6,MO,cZ⟩;have df:aN.cell? (Z c 0)=some (.slice d.A is.length d.c):=cv.f_ 0
 go_wp2_with fail
 go_at_call 205
 refine(mO base g d.A is.length d.c is c3 (ov az.len) dh rfl (λi f=>⟨(aJ i f).1,(aJ i f).2.1⟩) X).mono ?_;rintro e dO⟨rfl,dB,cU⟩;have aD:=az.trans (GP.here _ is);have cj:=cg.trans cU;have ar:=aV.tY is (λi f=>(aJ i f).2.2);have ca:=aV.sb;have di:h5 (y.here is).l k=11:=(oB _ _ _ _).trans dP
 have dC:k<(y.here is).l.length:=by simp only[iT.here,i7];omega
 go_wp2_with fail
 go_at_call 136
 refine(mJ base g dB (ov aD.len) ca.1 (by have:=ca.2;have:=aD.len;show y.g9<=100000;simp only[iT.here,i7]at this;omega)).mono ?_;rintro e dR⟨rfl,b3,cV⟩;have aE:=aD.trans (GP.mark _);have aT:=cj.trans cV;have dQ:=(((GP.mark (y.here is)).kp.2 _ X)).trans di;have dY:k<(y.here is).mark.l.length:=ov ((GP.mark (y.here is)).kp.1);generalize aM:(y.here is).mark=dc at*;obtain⟨C,J,E,F,G,K,P,N⟩:=(z.gt aT I).i0
 go_wp2_with fail
 go_at_call 217
 refine(ot base g b3 (ov aE.len) (λa L=>by have:=ar.ok.sK a.2 (H5 L);have:=aE.len;omega) (ov ar.al)).mono ?_;rintro e dS⟨rfl,b4,cW⟩;have cG:=ar.protect;have a7:=aE.trans (GP.protect _);have co:=aT.trans cW;have dg:=(GP.protect dc).kp;generalize cF:dc.protect=dl at*
 go_wp2_with fail
 go_at_call 138
 refine(ik base g _ b4 (ov a7.len)).mono ?_;rintro e dV⟨rfl,aR,cX⟩;have aY:=cG.simp (x:=⟨18,0,0,0,0⟩) I;have a8:=a7.trans (GP.put _ ⟨18,0,0,0,0⟩);have aU:=co.trans cX;obtain⟨C,J,E,F,G,K,P,N⟩:=(z.gt aU I).i0
 go_wp2_with fail
 go_at_call 204
 refine(lq base g _ aR aY.v1).mono ?_;rintro e w1⟨dp,bp,bA,rfl,rfl⟩
 go_wp2_with fail
 go_at_call 138
 refine(ik base g _ aR (ov a8.len)).mono ?_;rintro e dW⟨rfl,b5,cY⟩;have a2:=aY.simp (x:=⟨9,0,0,0,dp⟩) (lG 0 dp X X bp X);have aH:=a8.trans (GP.put _ ⟨9,0,0,0,dp⟩);have MS:=aU.trans cY;have bn:rG dc.l (iT.put (iT.put dl ⟨18,0,0,0,0⟩) ⟨9,0,0,0,dp⟩).l:=(dg.trans (GP.put _ _).kp).trans (GP.put _ _).kp;generalize c7:iT.put (iT.put dl ⟨18,0,0,0,0⟩) ⟨9,0,0,0,dp⟩=dK at*;obtain⟨C,J,E,F,G,K,P,N⟩:=(z.gt MS I).i0
 go_wp2_with fail
 go_at_call 137
 refine(bY nl AL _ cL B _ _ p _ rfl (ov bM.len) bM (dH.gt MS I) (λu j=>(dm u j).gt MS I I) (by rw[aH.pv];exact S.gt MS) b5 (a2.le X) (ov aH.len)).mono ?_;rintro e dy⟨rfl,dx,dJ,b8,c6,da,aK⟩;have cH:=GK.of a2 aK (da.le (P_ _));have bh:=aH.trans aK;have ct:=MS.trans c6;have ak:=bn.trans aK.kp;have dj:=(ak.2 _ X).trans dQ;have dD:k<dx.l.length:=ov ak.1;obtain⟨bI,MP,cD,dI,cu,bT⟩:=box1 dy 3 #[Y k];have cJ:Ns bI 3 (j_ MP) [(k:Int)]:=jj (n:=1) (s:=1) bT rfl;have c9:=b8.g_ cu
 go_wp2_with fail
 go_at_call 205
 refine(mO base g _ 1 1 [(k:Int)] c9 (ov bh.len) cJ rfl (by intro i f;simp at f;subst f;exact⟨X,X⟩) X).mono ?_;rintro e dX⟨rfl,b9,c8⟩;have cI:=cH.here k (.inl dj);have bi:=bh.trans (GP.here _ [(k:Int)]);have cw:=(ct.trans (.jX cu)).trans c8;go_wp2;refine en_ ?_;rw[aI.out];have dw:=bi.rt.trans du.out;exact⟨rfl,_,_,b9.drop v.rts _ dw,(Gt.jX M).trans cw,cI.Eg _,(bu.Dj bi).le X⟩
def xF(base g:Nat)(w:World)(b:t.hS=9)(d:∀e w',R e w'->e=.returned vY)(h:∀W,J [] w W->Calls prog 201 #[q_ g,.agg t.g8] W R):Calls prog 175 #[q_ g,.agg t.g8] w R:=by
 refine ig λz o=>?_
 obtain⟨W,r,G,H,x,a⟩:=box1 w 229 t.g8
 replace a:Bk W r 229 #[Y 9,.string t.name,.string t.fn,Y t.n,Y t.op,.slice t.AE t.es.length t.cE,.slice t.AB t.bs.length t.cB,.slice t.AL t.ls.length t.cL]:=by rw[<-b];exact a
 obtain⟨y,E,B,C,D,F,K,I⟩:=a.i0;have p:=O (h W x);have j:=O d
 have f:t.g8=#[Y 9,.string t.name,.string t.fn,Y t.n,Y t.op,.slice t.AE t.es.length t.cE,.slice t.AB t.bs.length t.cB,.slice t.AL t.ls.length t.cL]:=by rw[<-b];rfl
 have q:=O f;clear b h d f
 go_enter func175,ntmps175
 go_wp2_with fail
 go_at_call 201
 rw[<-q.out];refine p.out.mono ?_;intro e w' c;have u:=j.out e w' c;subst u;have n:=O c;clear c;go_wp2;refine rn_ ?_;rw[o.out];exact n.out
def sh(base g:Nat)(k:Int)(w:World)(a:t.hS=k)(y:k=5∨k=6)(d:∀e w',R e w'->e=.returned vY)(h:∀W,J [] w W->Calls prog 202 #[q_ g,.agg t.g8] W R):Calls prog 175 #[q_ g,.agg t.g8] w R:=by
 refine ig λB o=>?_
 obtain⟨W,r,H,I,x,b⟩:=box1 w 229 t.g8
 replace b:Bk W r 229 #[Y k,.string t.name,.string t.fn,Y t.n,Y t.op,.slice t.AE t.es.length t.cE,.slice t.AB t.bs.length t.cB,.slice t.AL t.ls.length t.cL]:=by rw[<-a];exact b
 obtain⟨z,F,C,D,E,G,L,K⟩:=b.i0;have p:=O (h W x);have j:=O d
 have f:t.g8=#[Y k,.string t.name,.string t.fn,Y t.n,Y t.op,.slice t.AE t.es.length t.cE,.slice t.AB t.bs.length t.cB,.slice t.AL t.ls.length t.cL]:=by rw[<-a];rfl
 have q:=O f;clear a h d f
 rcases y with rfl|rfl
 all_goals
  go_enter func175,ntmps175
  go_wp2_with fail
  go_at_call 202
  rw[<-q.out];refine p.out.mono ?_;intro e w' c;have u:=j.out e w' c;subst u;have n:=O c;clear c;go_wp2;refine rn_ ?_;rw[o.out];exact n.out
def oQ.le{base g:Nat}{v:iT}{a n:Nat}{w:World}{e:Ending}(h:oQ base g v a n w e w')(o:n<=m):oQ base g v a m w e w':=by
 obtain⟨d,q,p,f,j,b,c⟩:=h;exact⟨d,q,p,f,j,b,c.le o⟩
def oQ.gr{base g:Nat}{v:iT}{a n:Nat}{w b:World}{e:Ending}(h:oQ base g v a n b e w')(p:J [] w b):oQ base g v a n w e w':=by
 obtain⟨f,r,q,j,o,c,d⟩:=h;exact⟨f,r,q,j,(Gt.jX p).trans o,c,d⟩
def m7.Ft{x f:ByteArray}{n a:Int}{B L:Bool}(h:m7 V 9 x f n a m B L):f=i4/\n=0/\a=0:=by cases h;exact⟨rfl,rfl,rfl⟩
def m7.Fv{x f:ByteArray}{n a:Int}{B L:Bool}(h:m7 V 5 x f n a m B L):f=i4/\n=0/\a=0/\m=2:=by cases h;exact⟨rfl,rfl,rfl,rfl⟩
def m7.Fu{x f:ByteArray}{n a:Int}{B L:Bool}(h:m7 V 6 x f n a m B L):x=i4/\f=i4/\n=0/\a=0/\m=1:=by cases h;exact⟨rfl,rfl,rfl,rfl,rfl⟩
def yx(base g:Nat)(V:List ByteArray):∀n,C7 base g V n
 |0=>by
  intro ad t v q p w T;obtain⟨r,_,_,_,_,h,_⟩:=T.one;omega
 |n+1=>by
  have H:=uW base g V n (yx base g V n);intro ad t v q p w T jQ M F G iG;obtain⟨r,nb,nl,ae,af,hD,bv,x,hB,hL,N,z,Y⟩:=T.one;have ag:r=n:=X;subst ag;obtain⟨P,Q,B,u,W,S⟩:=jQ.parts;obtain⟨k,Z,ah,ai,aj,D,K,j,C,J,I,E,L,O⟩:=t;simp only[ST.hS,ST.name,ST.fn,ST.n,ST.op,ST.es,ST.bs,ST.ls,ST.AE,ST.AB,ST.AL]at x hB hL N z Y P Q B u W S
  by_cases MP:k=9
  .subst MP;have y:=x.Ft;obtain⟨rfl,rfl,rfl⟩:=y
   refine xF base g w rfl (λe w' h=>h.1) λf a=>?_
   refine(y9 base g V r Z D K j C J I E L O v q p f nb nl H z Y (B.g_ a) (λd c=>(u d c).g_ a) (W.g_ a) (λd c=>(S d c).g_ a) (M.gt (.jX a:Gt base gT w f)) (F.g_ a) G X).mono λe w' h=>(h.gr a).le X
  .by_cases av:k=5
   .subst av;have y:=x.Fv;obtain⟨rfl,rfl,rfl,U⟩:=y
    obtain⟨b,o,rfl⟩:∃b o,j=[b,o]:=by
     match j,U with
     |[b,o],_=>exact⟨b,o,rfl⟩
    refine sh base g 5 w rfl (.inl rfl) (λe w' h=>h.1) λf a=>?_
    exact(Bv base g V r Z D K b o C J I E L O v q p f nb H z (B.g_ a) (λd c=>(u d c).g_ a) N (P.g_ a) (λd c=>(Q d c).g_ a) (M.gt (.jX a:Gt base gT w f)) (F.g_ a) G X).mono λe w' h=>(h.gr a).le X
   .by_cases o:k=6
    .subst o;have y:=x.Fu;obtain⟨rfl,rfl,rfl,rfl,U⟩:=y
     obtain⟨b,rfl⟩:∃b,j=[b]:=by
      match j,U with
      |[b],_=>exact⟨b,rfl⟩
     refine sh base g 6 w rfl (.inr rfl) (λe w' h=>h.1) λf a=>?_
     exact(x1 base g V r i4 D K b C J I E L O v q p f nb H z (B.g_ a) (λd c=>(u d c).g_ a) N (P.g_ a) (λd c=>(Q d c).g_ a) (M.gt (.jX a:Gt base gT w f)) (F.g_ a) G X).mono λe w' h=>(h.gr a).le X
    .exact(v7 base g V r k Z ah ai aj D K j C J I E L O v q p w ae af nb nl H z Y B u W S x MP o av N P Q M F G X).mono λe w' h=>h.le X
def x2(base g:Nat)(V:List ByteArray)(a:Nat):vh base g V a:=uW base g V a (yx base g V a)
def nh.Cg{base g:Nat}{w:World}{s:GS}(h:nh base w g s)(VA:OA)(vc:Nat)(vs:List ByteArray)(p:Bs w VA vs):
 nh base (((w.setCell (Z g 6) (.slice VA vs.length vc)).setCell (Z g 7) (Y 0)).setCell (Z g 8) (Y 0)) g {s with VA:=VA,vc:=vc,vs:=vs,hidden:=0,most:=0}/\Gt base gT w (((w.setCell (Z g 6) (.slice VA vs.length vc)).setCell (Z g 7) (Y 0)).setCell (Z g 8) (Y 0)):=by
 have b:=h.hg.hN 6 (.slice VA vs.length vc);have c:=b.hN 7 (Y 0);have n:=c.hN 8 (Y 0)
 have a:∀e,e≠210->mW e w (((w.setCell (Z g 6) (.slice VA vs.length vc)).setCell (Z g 7) (Y 0)).setCell (Z g 8) (Y 0)):=λe d=>((mW.set h.hg (Ne.symm d) _ _).trans (.set b (Ne.symm d) _ _)).trans (.set c (Ne.symm d) _ _)
 refine⟨⟨n,h.hbg,(a _ I).own h.hl,(a _ I).own h.hc,(a _ I).own h.ho,λf j=>⟨(a 30 I).bk (h.hb f j).1,(h.hb f j).2⟩,h.hbn,λq o=>(a 3 I).own (h.hi q o),h.jQ,(a 9 I).sl p,G_ h.hz (a 9 I).1⟩,((Gt.set h.hg h.hbg I _ _).trans (.set b h.hbg I _ _)).trans (.set c h.hbg I _ _)⟩
def nh.Eb{base g:Nat}{w:World}{s:GS}(h:nh base w g s)(E:s.rt++s.os=[])(A':OA)(c':Nat)(i:Int)(p:w.grownBy w' (Value.slice s.EA s.es.length s.ec).ownBlock)(K:w'.ownsRow base 3 1 (.slice A' (s.es.length+1) c') (s.es.length+1) (s.es.map (Y)++[Y i]))(f:(Value.slice A' (s.es.length+1) c').ownBlock=(Value.slice s.EA s.es.length s.ec).ownBlock∨(Value.slice A' (s.es.length+1) c').ownBlock=some w.heap.size):
 Bk w' g 210 s.g8/\nh base (w'.setCell (Z g 3) (.slice A' (s.es.length+1) c')) g {s with EA:=A',ec:=c',es:=s.es++[i]}/\Gt base gT w (w'.setCell (Z g 3) (.slice A' (s.es.length+1) c')):=by
 have y:=h.hi (.slice s.EA s.es.length s.ec,s.es) (by simp[GS.rows]);have B:=h.hi (.slice s.FA s.fs.length s.fc,s.fs) (by simp[GS.rows]);have G:=h.jQ
 have L:s.rows=[(.slice s.EA s.es.length s.ec,s.es)]++[(.slice s.FA s.fs.length s.fc,s.fs)]:=by unfold GS.rows;rw[E];rfl
 rw[L,j9]at G
 have x:∀c,(Value.slice s.FA s.fs.length s.fc).ownBlock=some c->(Value.slice s.EA s.es.length s.ec).ownBlock≠some c:=λc n=>G.2 c n (.slice s.EA s.es.length s.ec,s.es) s_
 have F:∀e,e≠3->mW e w w':=λe a=>.app p y (Ne.symm a)
 have j:=(F _ I).bk h.hg
 have H:∀e,e≠210->mW e w' (w'.setCell (Z g 3) (.slice A' (s.es.length+1) c')):=λe a=>.set j (Ne.symm a) _ _
 have d:=λe C M=>(F e C).trans (H e M)
 have z:GS.rows {s with EA:=A',ec:=c',es:=s.es++[i]}=[(.slice A' (s.es.length+1) c',s.es++[i])]++[(.slice s.FA s.fs.length s.fc,s.fs)]:=by unfold GS.rows;rw[E];simp
 refine⟨j,⟨?_,h.hbg,(d _ I I).own h.hl,(d _ I I).own h.hc,(d _ I I).own h.ho,λu D=>⟨(d 30 I I).bk (h.hb u D).1,(h.hb u D).2⟩,h.hbn,λo b=>?_,?_,(d 9 I I).sl h.hv,G_ h.hz (d 9 I I).1⟩,(Gt.app p y I).trans (.set j h.hbg I _ _)⟩
 .have:=j.hN 3 (.slice A' (s.es.length+1) c')
  exact MH
 .rw[z]at b;refine(H 3 I).own ?_
  rcases T_.1 b with b|b
  .have:o=(.slice A' (s.es.length+1) c',s.es++[i]):=zu b
   subst this
   simpa using K
  .have:o=(.slice s.FA s.fs.length s.fc,s.fs):=zu b
   subst this
   exact oa B (J.iW p) λN r a=>x N a (jC.1 r)
 .rw[z,j9];refine⟨?_,λc n o b a=>?_⟩
  .simp only[List.filterMap_cons,List.filterMap_nil];split<;>simp
  .have:o=(.slice A' (s.es.length+1) c',s.es++[i]):=zu b
   subst this
   rcases f with r|r
   .exact x c n (r.symm.trans a)
   .have C:=(kx B n).2
    have:some w.heap.size=some c:=r.symm.trans a
    injection this;omega
def nh.Ea{base g:Nat}{w:World}{s:GS}(h:nh base w g s)(F:s.rt++s.os=[])(A':OA)(c':Nat)(i:Int)(p:w.grownBy w' (Value.slice s.FA s.fs.length s.fc).ownBlock)(K:w'.ownsRow base 3 1 (.slice A' (s.fs.length+1) c') (s.fs.length+1) (s.fs.map (Y)++[Y i]))(f:(Value.slice A' (s.fs.length+1) c').ownBlock=(Value.slice s.FA s.fs.length s.fc).ownBlock∨(Value.slice A' (s.fs.length+1) c').ownBlock=some w.heap.size):
 Bk w' g 210 s.g8/\nh base (w'.setCell (Z g 4) (.slice A' (s.fs.length+1) c')) g {s with FA:=A',fc:=c',fs:=s.fs++[i]}/\Gt base gT w (w'.setCell (Z g 4) (.slice A' (s.fs.length+1) c')):=by
 have z:=h.hi (.slice s.FA s.fs.length s.fc,s.fs) (by simp[GS.rows]);have C:=h.hi (.slice s.EA s.es.length s.ec,s.es) (by simp[GS.rows]);have u:=h.jQ
 have L:s.rows=[(.slice s.EA s.es.length s.ec,s.es)]++[(.slice s.FA s.fs.length s.fc,s.fs)]:=by unfold GS.rows;rw[F];rfl
 rw[L,j9]at u
 have y:∀c,(Value.slice s.FA s.fs.length s.fc).ownBlock=some c->(Value.slice s.EA s.es.length s.ec).ownBlock≠some c:=λc n=>u.2 c n (.slice s.EA s.es.length s.ec,s.es) s_
 have G:∀e,e≠3->mW e w w':=λe a=>.app p z (Ne.symm a)
 have j:=(G _ I).bk h.hg
 have H:∀e,e≠210->mW e w' (w'.setCell (Z g 4) (.slice A' (s.fs.length+1) c')):=λe a=>.set j (Ne.symm a) _ _
 have d:=λe D M=>(G e D).trans (H e M)
 have B:GS.rows {s with FA:=A',fc:=c',fs:=s.fs++[i]}=[(.slice s.EA s.es.length s.ec,s.es)]++[(.slice A' (s.fs.length+1) c',s.fs++[i])]:=by unfold GS.rows;rw[F];simp
 refine⟨j,⟨?_,h.hbg,(d _ I I).own h.hl,(d _ I I).own h.hc,(d _ I I).own h.ho,λx E=>⟨(d 30 I I).bk (h.hb x E).1,(h.hb x E).2⟩,h.hbn,λo b=>?_,?_,(d 9 I I).sl h.hv,G_ h.hz (d 9 I I).1⟩,(Gt.app p z I).trans (.set j h.hbg I _ _)⟩
 .have:=j.hN 4 (.slice A' (s.fs.length+1) c')
  exact MH
 .rw[B]at b;refine(H 3 I).own ?_
  rcases T_.1 b with b|b
  .have:o=(.slice s.EA s.es.length s.ec,s.es):=zu b
   subst this
   exact oa C (J.iW p) λN r a=>y N (jC.1 r) a
  .have:o=(.slice A' (s.fs.length+1) c',s.fs++[i]):=zu b
   subst this
   simpa using K
 .rw[B,j9];refine⟨u.1,λc n o b a=>?_⟩
  have:o=(.slice s.EA s.es.length s.ec,s.es):=zu b
  subst this
  rcases f with r|r
  .exact y c (r.symm.trans n) a
  .have D:=(kx C a).2
   have:some w.heap.size=some c:=r.symm.trans n
   injection this;omega
def po.first:po [⟨21,0,0,0,0⟩] 1 [] [] 0 where
 code:=⟨I,λi b=>by
  have:i=0:=zu b
  subst this
  show PF _ _ _ (⟨21,0,0,0,0⟩:In)
  unfold PF;rw[I_ I,I_ I]
  decide,I⟩
 xE:=by decide
 cs1:=λf d=>by cases d
 cs2:=λi b e=>by
  have:i=0:=zu b
  subst this;simp at e
 qq:=λc a=>by cases a
 q:=by decide
 Af:=by decide
 sK:=λc a=>by cases a
structure CU(k:Nat)(pv:Value)(n:Nat)(v:iT):Prop where
 pv:v.pv=pv
 el:v.es.length=k
 fl:v.fs.length=k
 e21:∀e∈v.es,0<=e/\e<v.l.length/\h5 v.l e=21
 f64:∀f∈v.fs,2<=f/\f<=64
 len:v.l.length<=n
 ats:v.ats=[]
 rts:v.rts=[]
 ok:(k=0/\v.l=[]/\v.g9=0/\v.cs=[])∨∃q,po v.l v.g9 v.cs [] q/\q<v.l.length/\h5 v.l ((v.l.length:Int)-1)=14
def CU.mark{k n:Nat}{pv:Value}{v:iT}(h:CU k pv n v):po v.mark.l v.mark.g9 v.mark.cs [] v.l.length/\0<=v.g9/\v.g9<=n:=by
 rcases h.ok with⟨_,a,b,c⟩|⟨d,a,b,_⟩
 .have:=po.first
  unfold iT.mark;rw[a,b,c];exact⟨this,X,X⟩
 .refine⟨a.mark,?_,?_⟩
  .rw[a.xE];unfold jA;omega
  .rw[a.xE];unfold jA
   have:=F7 (λi:In=>i.op==21) v.l
   have:=h.len
   omega
def CU.next{k n n' p:Nat}{pv:Value}{v t a:iT}{q:Int}(h:CU k pv n v)(B:rG v.l t.l)(C:h5 t.l v.l.length=21)(G:t.l.length=v.l.length+1)(j:t.es=v.es++[(v.l.length:Int)])(f:t.fs=v.fs)(z:t.pv=pv)(A:t.ats=[])(K:t.rts=[])(P:GP t a m)(r:GK a q p)(V:q<a.l.length)(y:h5 a.l ((a.l.length:Int)-1)=14)(u:Int)(F:2<=u/\u<=64)(H:n+1+m<=n'):CU (k+1) pv n' {a with fs:=a.fs++[u]}:=by
 have o:=by have d:=P.qq;rw[A]at d;simpa using d
 refine⟨P.pv.trans z,?_,?_,?_,?_,?_,o,P.rt.trans K,.inr ⟨q,?_,V,y⟩⟩
 .show a.es.length=k+1
  rw[P.es,j,K_,h.el]
  rfl
 .show(a.fs++[u]).length=k+1
  rw[K_,P.fs,f,h.fl]
  rfl
 .show ∀e∈a.es,0<=e/\e<a.l.length/\h5 a.l e=21
  rw[P.es,j];have c:=P.kp;intro e b
  rcases T_.1 b with b|b
  .obtain⟨d,D,E⟩:=h.e21 e b;have x:=c.1;exact⟨d,X,(c.2 e X).trans ((B.2 e D).trans E)⟩
  .have:e=(v.l.length:Int):=zu b
   subst this;have x:=c.1;exact⟨X,X,(c.2 _ X).trans C⟩
 .show ∀c∈a.fs++[u],2<=c/\c<=64
  intro c b
  rcases T_.1 b with b|b
  .rw[P.fs,f]at b;exact h.f64 c b
  .have:c=u:=zu b
   subst this;exact F
 .show a.l.length<=n'
  have:=P.len
  have:=h.len
  omega
 .have:=r.ok
  rw[o]at this;exact this
def pK(v:Int)(l:List In)(i:Nat):List In:=l.modify i λx=>⟨x.op,x.a,x.b,v,x.n⟩
def zj{v:Int}{l:List In}:(pK v l i).length=l.length:=by simp[pK]
def zi(h:k<l.length):pK v l k=l.set k ⟨l[k].op,l[k].a,l[k].b,v,l[k].n⟩:=by
 refine GM (by simp[pK]) λi d f=>?_
 simp only[pK,Gw,List.getElem_set];split
 .rename_i c;subst c
  rfl
 .rfl
def vy(a:k<l.length):(lY l).set (k*5+3) (Y v)=lY (pK v l k):=by
 rw[zi v l k a];exact p6 In.E 5 (λ_=>rfl) l k 3 _ _ a X rfl
def zy(es fs:List Int)(l:List In)(i f:Nat):pK (fs.getD f 0) (mh (es.getD f 0) l i) i=j1 es fs l ((i:Int),(f:Int)):=by
 refine GM (by simp[pK,mh,j1]) λk a b=>?_
 simp only[pK,mh,j1,Gw,F0];split<;>rfl
def ints_at(l:List Int)(k:Nat)(h:k<l.length):(l.map (Value.int .i64))[k]?=some (Y (l.getD k 0)):=by
 simp[F4,h]
section
variable{base g:Nat}{w:World}{s:GS}
def nh.qI(h:nh base w g s){f:Nat}(E:s.l.length=m)(G:i<m)(C:s.es.length=3)(D:s.fs.length=3)(F:f<3):
 ∃a d b lc ec fc cur,s.L=some (Z a 0)/\base<=a/\Bk w a 189 cur/\w.cell? (Z g 1)=some (.slice (j_ a) m lc)/\w.cell? (Z g 3)=some (.slice (j_ d) 3 ec)/\w.cell? (Z g 4)=some (.slice (j_ b) 3 fc)/\
  w.cell? (Z d f)=some (Y (s.es.getD f 0))/\w.cell? (Z b f)=some (Y (s.fs.getD f 0))/\(∃o,w.cell? (Z a (i*5+4))=some (Y o))/\∃o,w.cell? (Z a (i*5+3))=some (Y o):=by
 obtain⟨a,cur,p,z,j,q⟩:=kS h.hl X;obtain⟨d,e,r,_,y,x⟩:=kS (h.hi (.slice s.EA s.es.length s.ec,s.es) (by simp[GS.rows])) X;obtain⟨b,H,k,_,u,B⟩:=kS (h.hi (.slice s.FA s.fs.length s.fc,s.fs) (by simp[GS.rows])) X;refine⟨a,d,b,s.lc,s.ec,s.fc,cur,p,z,j,?_,?_,?_,?_,?_,⟨(s.l[i]'X).n,?_⟩,⟨(s.l[i]'X).c,?_⟩⟩
 .exact(h.hg.f_ 1).trans (by show some (Value.slice s.L s.l.length s.lc)=_;rw[p,E])
 .exact(h.hg.f_ 3).trans (by show some (Value.slice s.EA s.es.length s.ec)=_;rw[r,C])
 .exact(h.hg.f_ 4).trans (by show some (Value.slice s.FA s.fs.length s.fc)=_;rw[k,D])
 .exact(y.f_ f).trans (x _ _ (ints_at s.es f X))
 .exact(u.f_ f).trans (B _ _ (ints_at s.fs f X))
 .exact(j.f_ _).trans (q _ _ ((jg In.E 5 (λ_=>rfl) s.l i 4 X X).trans rfl))
 .exact(j.f_ _).trans (q _ _ ((jg In.E 5 (λ_=>rfl) s.l i 3 X X).trans rfl))
def nh.AC(h:nh base w g s){a:Nat}(j:s.L=some (Z a 0))(n:Bk w a 189 cur){k:Nat}{u:Value}{l:List In}(iG:l.length=s.l.length)(e:(lY s.l).set (i*5+k) u=lY l):
 nh base (w.setCell (Z a (i*5+k)) u) g {s with l:=l}:=by
 have d:∀e,e≠189->mW e w (w.setCell (Z a (i*5+k)) u):=λe b=>.set n (Ne.symm b) _ _
 have f:=h.hl;rw[j]at f;have c:=yC f (i*5+k) u;rw[e]at c
 have o:s.g8=GS.g8 {s with l:=l}:=by unfold GS.g8;simp only[iG]
 exact h.sG (L:=s.L) (lc:=s.lc) (l:=l) (g9:=s.g9) (hidden:=s.hidden) (most:=s.most) (by rw[<-o];exact(d _ I).bk h.hg) (by rw[j,iG];exact c) λe b=>d e (by rintro rfl;revert b;decide)
def nh.Dm(h:nh base w g s){a:Nat}(c:s.L=some (Z a 0))(b:Bk w a 189 cur)(d:i<s.l.length)(u:Int):
 nh base (w.setCell (Z a (i*5+4)) (Y u)) g {s with l:=mh u s.l i}:=h.AC c b (lH _ _ _) (rl u s.l i d)
def nh.Dn(h:nh base w g s){a:Nat}(c:s.L=some (Z a 0))(b:Bk w a 189 cur)(d:i<s.l.length)(u:Int):
 nh base (w.setCell (Z a (i*5+3)) (Y u)) g {s with l:=pK u s.l i}:=h.AC c b (zj) (vy u s.l i d)
end
