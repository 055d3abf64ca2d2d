import Derived.Test.YtenbhdilndfaeaaGreatM19
set_option maxRecDepth 100000
set_option maxHeartbeats 0
set_option linter.all false
namespace Go.Proofs.YtenbhdilndfaeaaGreat
open Go.RowKit Go.Proofs.Tryz
variable{base m:Nat}{w w':World}{e:TypeId}{xs:List Value}
theorem lJ.split{V:List ByteArray}{D N:Nat}{t:ST}{l:List ST}(h:lJ V D N (t::l)):∃a b,N=a+b/\lJ V D a [t]/\lJ V D b l:=by
 cases h with
 |cons D a b nb nl t l B L h hB hL hes hb hl ha hr=>exact⟨a,b,rfl,.cons D a 0 nb nl t [] B L h hB hL hes hb hl ha (.nil _),hr⟩
theorem tX(base g:Nat)(V:List ByteArray)(D:Nat)(ap:BF base g V D):ug base g V D:=by
 intro N A n c ts v q p w hn bq bS be kb hP J H iv
 refine hX λQ aD=>?_
 have a2:=h_ hn;have b8:=h_ be;clear be;have e:lJ V D N (ts.drop 0):=bS
 go_enter func137,ntmps137
 go_wp2
 go_loopw [8] (λar w'=>∃k a b:Nat,k<=n/\ar=i_ k/\a+b=N/\lJ V D b (ts.drop k)/\DP base g v D (30*a) w w') (λar _=>n-(intOf ar).toNat)
 case atStart=>exact⟨0,0,N,N_ _,by go_num,by omega,e,v,q,J,.refl _ _ _,H,.refl _⟩
 case round=>
  obtain⟨k,a,b,hk,rfl,hab,d,v1,bp,ay,bM,F,a7⟩:=hrel;have o:=h_ hab
  have f:a+b<=N:=by omega
  have hl1:=a7.len;clear hab e
  by_cases aj:k<n
  .have aH:k<ts.length:=by have:=a2.out;omega
   obtain⟨bv,off,U,aI,c1,an,aN,c4,c5,aK,bo⟩:=ST.at_ (b8.out.gt bM d_) a2.out aH;subst U;rw[X_ aH]at d;obtain⟨a1,b1,aT,bT,b9⟩:=d.split;have j:=h_ aT;have bB:=aT;have aw:=(kb _ (J_ aH)).gt bM d_ d_
   have cy:mT wr v1.pv:=by rw[a7.pv];exact hP.gt bM
   clear aT d;generalize ts[k]=t at aI c1 an aN c4 c5 aK bo bT aw;obtain⟨R,bt,b5,hg1,E,hB⟩:=box1 wr 229 #[i_ t.hT,.string t.name,.string t.fn,i_ t.n,i_ t.op,.slice t.AE t.es.length t.cE,.slice t.AB t.bs.length t.cB,.slice t.AL t.ls.length t.cL];obtain⟨Z,ah,au,aQ,aV,aE,z,y⟩:=hB.iT;have aW:=h_ (ap a1 t v1 bp p R bT (aw.gt (.jQ E:Gt base gT wr R) d_ d_) (cy.gt (.jQ E:Gt base gT wr R)) (ay.g_ E) F o_);clear bT aw bB
   go_wp2_with fail
   refine aW.out.mono ?_;rintro aL w2⟨rfl,ao,bI,dw,S,cN,cv⟩;go_wp2;go_roundw
   case rel=>
    have aP:=o.out;have aL:=j.out;exact⟨k+1,a+a1,b1,by omega,by go_num,by omega,b9,ao,bI,dw,(bM.trans (.jQ E)).trans S,cN,(a7.trans cv).le o_⟩
   case measure=>simp[intOf];omega
  .go_wp2;refine en_ ?_;rw[aD.out];exact⟨rfl,v1,bp,ay,bM,F,a7.le o_⟩
theorem ET.ats{b off n:Nat}{l:List ET}(h:Sl w 226 5 (some (c_ b off)) n (l.flatMap ET.E))(hn:l.length=n)(k:Nat)(hk:k<l.length):w.cell? (c_ b (off+k*5))=some (i_ l[k].hT)/\w.cell? (c_ b (off+k*5+1))=some (i_ l[k].n)/\
 w.cell? (c_ b (off+k*5+2))=some (.string l[k].name)/\w.cell? (c_ b (off+k*5+3))=some (i_ l[k].op)/\w.cell? (c_ b (off+k*5+4))=some (.slice l[k].A l[k].l.length l[k].c):=by
 subst hn;obtain⟨b',z,U,h1⟩:=ET.at_ h hk;injection U with U;injection U with P m;subst P;subst m;exact h1
theorem Sl.addr{s n:Nat}{A:Option Addr}(h:Sl w e s A n xs)(hn:0<n):∃b off,A=some (c_ b off):=by
 obtain⟨b,off,h1,_⟩:=Sl.f_ h hn;exact⟨b,off,h1⟩
theorem zN(base g:Nat)(V:List ByteArray)(D:Nat)(x:ByteArray)(AE:Option Addr)(cE:Nat)(e0 aP:ET)(AB:Option Addr)(cB:Nat)(bs:List ST)(AL:Option Addr)(cL:Nat)(ls:List ST)(v:iK)(q:Int)(p:Nat->Prop)(w:World)(nb:Nat)(bN:ug base g V D)(cr:lJ V D nb bs)
 (a2:Sl w 229 8 AB bs.length (bs.flatMap ST.E)) (cQ:∀u∈bs,jx p w u) (hes:∀e∈[e0,aP],EG V 2 e) (be:Sl w 226 5 AE 2 ([e0,aP].flatMap ET.E)) (kb:∀u∈[e0,aP],kc p w u) (hP:mT w v.pv) (J:ln base w g v) (H:GK v q (D+1)) (iv:v.l.length+30*(1+nb)<=100000):
 Calls prog 202 #[q_ g,.agg (ST.mk 5 x iU 0 0 AE cE [e0,aP] AB cB bs AL cL ls).g8] w (oq base g v (D+1) (30*(1+nb)) w):=by
 refine hX λQ aD=>?_
 obtain⟨bv,off,F⟩:=be.addr o_;subst F;obtain⟨W,gx,aZ,I,hg,hB⟩:=box1 w 229 (ST.mk 5 x iU 0 0 (some (c_ bv off)) cE [e0,aP] AB cB bs AL cL ls).g8;replace hB:Bk W gx 229 #[i_ 5,.string x,.string iU,i_ 0,i_ 0,.slice (some (c_ bv off)) 2 cE,.slice AB bs.length cB,.slice AL ls.length cL]:=hB;obtain⟨Z,ah,au,aQ,aV,aE,z,y⟩:=hB.iT;have b3:=Gt.refl base gT W;have ay:=J.g_ hg;have b8:=h_ (be.g_ hg)
 replace kb:=λu hu=>(kb u hu).g_ hg
 have bS:=hP.gt (.jQ hg:Gt base gT w W);have cx:=a2.g_ hg
 have cw:=λu hu=>(cQ u hu).g_ hg
 have a7:=GP.refl v;clear be hP a2 J
 go_enter func202,ntmps202
 go_wp2_with fail
 go_at_call 204
 refine(k1 base g _ _ _ ay H.v1).mono ?_;rintro e w1⟨r,bu,bD,rfl,rfl⟩;obtain⟨aI,c1,an,aN,c4⟩:=ET.ats (b8.out.gt b3 d_) rfl 0 s_;simp only[FH,Fe,ES]at aI c1 an aN c4
 go_wp2_with fail
 go_at_call 203
 refine(oL base g V 2 e0 (hes _ s_) 0 _ _ _ p _ o_ o_ ((kb _ s_).gt b3 d_) ay H (by have:=a7.len;show _+7<=100000;omega)).mono ?_;rintro e dU⟨rfl,cO,cY,t,ck,cD,ad⟩;replace ad:GP _ cO 7:=ad;have b4:=a7.trans ad;have j:=b3.trans ck;clear ay b3 ck aI c1 an aN c4;clear Z ah au aQ aV aE z y;obtain⟨Z,ah,au,aQ,aV,aE,z,y⟩:=(hB.gt j d_).iT;obtain⟨aI,c1,an,aN,c4⟩:=ET.ats (b8.out.gt j d_) rfl 1 s_;simp only[F0,ES,Fv]at aI c1 an aN c4
 go_wp2_with fail
 go_at_call 203
 refine(oL base g V 2 aP (hes _ s_) 1 _ _ _ p _ o_ o_ ((kb _ s_).gt j d_) t cD (by have:=b4.len;show _+7<=100000;omega)).mono ?_;rintro e cI⟨rfl,v22,dT,ct,co,bB,bj⟩;replace bj:GP _ v22 7:=bj;have bR:=b4.trans bj;have b9:=j.trans co;clear t j co aI c1 an aN c4;clear Z ah au aQ aV aE z y;obtain⟨Z,ah,au,aQ,aV,aE,z,y⟩:=(hB.gt b9 d_).iT;have dO:=bB.h0;have ed:=bB.hD;have cA:=bB.m0;have bY:=bB.m1;have cf:=bB.v1
 go_wp2_with fail
 go_at_call 206
 refine(sS base g _ _ ct dO o_ cA o_ o_).mono ?_;rintro e c3⟨rfl,aj,bz⟩;have bZ:=h_ (show 0<=(v22.vs.length:Int)+v22.hidden/\(v22.vs.length:Int)+v22.hidden<64 by omega);have b5:=bB.more;have bf:=GP.refl v22.more;have cU:v22.more.l.length=v22.l.length:=rfl;have cX:=bR.len;have cV:=bR.pv;replace bS:mT W v22.more.pv:=(by show mT W v22.pv;rw[cV];exact bS);clear cV;have G:=b9.trans bz;generalize (v22.vs.length:Int)+v22.hidden=u at bZ |-;clear ct b9 bz;clear Z ah au aQ aV aE z y;obtain⟨Z,ah,au,aQ,aV,aE,z,y⟩:=(hB.gt G d_).iT
 go_wp2_with fail
 go_at_call 138
 refine(ic base g _ _ _ _ _ _ _ aj (by have:=bf.len;omega)).mono ?_;rintro e c6⟨rfl,am,bA⟩;have b6:=b5.simp (x:=⟨9,0,0,0,r⟩) (lj 0 r o_ o_ bu o_);have bh:=bf.trans (GP.put _ ⟨9,0,0,0,r⟩);have aH:=G.trans bA;clear aj G bA
 go_wp2_with fail
 go_at_call 138
 refine(ic base g _ _ _ _ _ _ _ am (by have:=bh.len;omega)).mono ?_;rintro e c7⟨rfl,ap,bC⟩;have P:=b6.simp (x:=⟨9,1,0,0,u⟩) (lj 1 u o_ o_ bZ.out.1 bZ.out.2);have S:=bh.trans (GP.put _ ⟨9,1,0,0,u⟩);have aK:=aH.trans bC;clear am aH bC
 go_wp2_with fail
 go_at_call 136
 refine(me base g _ _ ap (by have:=S.len;omega) P.sb.1 (by have:=P.sb.2;have:=S.len;omega)).mono ?_;rintro e c8⟨rfl,aq,bE⟩;have b7:=P.mark;have bi:=S.trans (GP.mark _);have K:=aK.trans bE;clear ap aK bE;have o:=lW (iK.put (iK.put v22.more ⟨9,0,0,0,r⟩) ⟨9,1,0,0,u⟩).l ⟨21,0,0,0,(iK.put (iK.put v22.more ⟨9,0,0,0,r⟩) ⟨9,1,0,0,u⟩).g9⟩ [];generalize cN:iK.put (iK.put v22.more ⟨9,0,0,0,r⟩) ⟨9,1,0,0,u⟩=a at*;have X:ij a.mark.l a.l.length=21:=o
 have f:a.l.length<a.mark.l.length:=by simp[iK.mark]
 generalize R:a.mark=A at*;clear cN R o;clear Z ah au aQ aV aE z y;obtain⟨Z,ah,au,aQ,aV,aE,z,y⟩:=(hB.gt K d_).iT
 go_wp2_with fail
 go_at_call 138
 refine(ic base g _ _ _ _ _ _ _ aq (by have:=bi.len;omega)).mono ?_;rintro e c9⟨rfl,ar,bF⟩;have ca:=b7.simp (x:=⟨8,0,0,0,r⟩) (o7 0 r o_ o_ bu o_);have bl:=bi.trans (GP.put _ ⟨8,0,0,0,r⟩);have aM:=K.trans bF;clear aq K bF
 go_wp2_with fail
 go_at_call 138
 refine(ic base g _ _ _ _ _ _ _ ar (by have:=bl.len;omega)).mono ?_;rintro e da⟨rfl,av,bG⟩;have ce:=ca.simp (x:=⟨8,1,0,0,u⟩) (o7 1 u o_ o_ bZ.out.1 bZ.out.2);have bm:=bl.trans (GP.put _ ⟨8,1,0,0,u⟩);have aO:=aM.trans bG;clear ar aM bG
 go_wp2_with fail
 go_at_call 138
 refine(ic base g _ _ _ _ _ _ _ av (by have:=bm.len;omega)).mono ?_;rintro e db⟨rfl,ak,bH⟩;have cg:=ce.simp (x:=⟨4,0,0,1,10⟩) d_;have bn:=bm.trans (GP.put _ ⟨4,0,0,1,10⟩);have aR:=aO.trans bH;clear av aO bH;generalize aL:iK.put (iK.put (iK.put A ⟨8,0,0,0,r⟩) ⟨8,1,0,0,u⟩) ⟨4,0,0,1,10⟩=c at*
 have du:qQ A.l c.l:=by rw[<-aL];exact((GP.put _ _).kp.trans (GP.put _ _).kp).trans (GP.put _ _).kp
 clear aL
 go_wp2_with fail
 go_at_call 138
 refine(ic base g _ _ _ _ _ _ _ ak (by have:=bn.len;omega)).mono ?_;rintro e de⟨rfl,ax,L⟩;have aY:=cg.vo 12 (.inr rfl);have T:=bn.trans (GP.put _ ⟨12,0,0,0,0⟩);have d:=aR.trans L;clear ak aR L;have dm:ij (iK.put c ⟨12,0,0,0,0⟩).l c.l.length=12:=oe c _
 have d3:c.l.length<(iK.put c ⟨12,0,0,0,0⟩).l.length:=by simp[iK.put]
 have aw:qQ A.l (iK.put c ⟨12,0,0,0,0⟩).l:=du.trans (GP.put _ _).kp;generalize ae:iK.put c ⟨12,0,0,0,0⟩=vc at*;clear ae du;clear Z ah au aQ aV aE z y;obtain⟨Z,ah,au,aQ,aV,aE,z,y⟩:=(hB.gt d d_).iT
 go_wp2_with fail
 go_at_call 137
 refine(bN nb AB _ cB bs _ _ p _ rfl (by have:=cr.len;omega) cr (cx.gt d d_) (λu hu=>(cw u hu).gt d d_ d_) (by rw[T.pv];exact bS.gt d) ax (aY.le o_) (by have:=T.len;omega)).mono ?_;rintro e df⟨rfl,ag,cZ,az,bI,bQ,B⟩;have cj:=GK.of aY B (bQ.le (N_ _));have bo:=T.trans B;have M:=d.trans bI;clear ax d bI bQ;have dn:=(B.kp.2 _ o_).trans dm
 have cF:c.l.length<ag.l.length:=by have:=B.kp.1;omega
 have E:=aw.trans B.kp;clear Z ah au aQ aV aE z y;obtain⟨Z,ah,au,aQ,aV,aE,z,y⟩:=(hB.gt M d_).iT
 go_wp2_with fail
 go_at_call 138
 refine(ic base g _ _ _ _ _ _ _ az (by have:=bo.len;omega)).mono ?_;rintro e dg⟨rfl,aB,bJ⟩;have cl:=cj.simp (x:=⟨8,0,0,0,r⟩) (o7 0 r o_ o_ bu o_);have bp:=bo.trans (GP.put _ ⟨8,0,0,0,r⟩);have aS:=M.trans bJ;clear az M bJ
 go_wp2_with fail
 go_at_call 138
 refine(ic base g _ _ _ _ _ _ _ aB (by have:=bp.len;omega)).mono ?_;rintro e dh⟨rfl,aC,bK⟩;have cp:=cl.simp (x:=⟨1,1,0,0,1⟩) d_;have bq:=bp.trans (GP.put _ ⟨1,1,0,0,1⟩);have aT:=aS.trans bK;clear aB aS bK
 go_wp2_with fail
 go_at_call 138
 refine(ic base g _ _ _ _ _ _ _ aC (by have:=bq.len;omega)).mono ?_;rintro e di⟨rfl,aF,bL⟩;have cq:=cp.simp (x:=⟨4,0,0,1,1⟩) d_;have br:=bq.trans (GP.put _ ⟨4,0,0,1,1⟩);have aU:=aT.trans bL;clear aC aT bL
 go_wp2_with fail
 go_at_call 138
 refine(ic base g _ _ _ _ _ _ _ aF (by have:=br.len;omega)).mono ?_;rintro e ai⟨rfl,bW,bM⟩;have a6:=cq.simp (x:=⟨9,0,0,0,r⟩) (lj 0 r o_ o_ bu o_);have k:=br.trans (GP.put _ ⟨9,0,0,0,r⟩);have aW:=aU.trans bM;clear aF aU bM;generalize bT:iK.put (iK.put (iK.put (iK.put ag ⟨8,0,0,0,r⟩) ⟨1,1,0,0,1⟩) ⟨4,0,0,1,1⟩) ⟨9,0,0,0,r⟩=b at*
 have dB:qQ ag.l b.l:=by rw[<-bT];exact(((GP.put _ _).kp.trans (GP.put _ _).kp).trans (GP.put _ _).kp).trans (GP.put _ _).kp
 clear bT;obtain⟨cz,bg,cn⟩:=bW;have dE:=h_ bg;have cW:cz.hidden=v22.hidden+1:=(show cz.lg.hidden=v22.more.hidden by rw[bg];exact k.hid)
 have cJ:ai.cell? (c_ g 7)=some (i_ (v22.hidden+1)):=by rw[<-cW];exact cn.hg.f_ 7
 have f7:=cn.hg.hm 7;have dC:=h_ cW;clear bg cW
 go_wp2_with fail
 have cS:=cn.set 7 (i_ v22.hidden) (g9:=cz.g9) (hidden:=v22.hidden) (most:=cz.most) rfl
 have C:ln base (ai.setCell (c_ g 7) (i_ v22.hidden)) g b.less:=⟨_,(by
  rw[<-dE.out];have cM:=dC.out;simp only[GS.lg,iK.less,cM];congr 1
  omega),cS⟩
 have cu:=GK.less bB (a6.le (N_ _)) (by have:=k.hid;exact this) (by have:=k.rM;exact this);have bt:=bR.trans (GP.more k);have O:=aW.trans (cn.yq 7 (i_ v22.hidden));have Y:ij b.less.l a.l.length=21:=(((E.trans dB).2 _ o_).trans X);have cH:ij b.less.l c.l.length=12:=(dB.2 _ o_).trans dn
 have cT:c.l.length<b.less.l.length:=by have:=dB.1;show _<b.l.length;omega
 obtain⟨dj,bU⟩:=nm_ (ai.setCell (c_ g 7) (i_ v22.hidden));rw[<-bU]at C O |-;generalize cK:b.less=bV at*;clear bU cn cS cJ f7 cK aW k a6
 go_at_call 138
 refine(ic base g _ _ _ _ _ _ _ C (by have:=bt.len;omega)).mono ?_;rintro e cR⟨rfl,aG,bO⟩;have cv:=cu.jump 11 _ (.inl rfl) Y;have bw:=bt.trans (GP.put _ ⟨11,0,0,0,a.l.length⟩);have aX:=O.trans bO;clear C O bO;have U:=((GP.put bV ⟨11,0,0,0,a.l.length⟩).kp.2 _ o_).trans cH
 have cG:c.l.length<(iK.put bV ⟨11,0,0,0,a.l.length⟩).l.length:=by simp[iK.put];omega
 obtain⟨aJ,ao,ci,af,N,a8⟩:=box1 cR 3 #[i_ c.l.length];have h:Ns aJ 3 (j_ ao) [(c.l.length:Int)]:=i5 (n:=1) (s:=1) a8 rfl;have m:=aG.g_ N
 go_wp2_with fail
 go_at_call 205
 refine(mh base g _ _ 1 1 [(c.l.length:Int)] _ m (by have:=bw.len;omega) h rfl (by intro i hi;simp at hi;subst hi;exact⟨by omega,by omega⟩) o_).mono ?_;rintro e dk⟨rfl,bX,bP⟩;have cy:=cv.here c.l.length (.inr U);have cC:=bw.trans (GP.here _ [(c.l.length:Int)]);have b0:=(aX.trans (.jQ N)).trans bP;clear aG aX bP m h ci af N a8;go_wp2;refine en_ ?_;rw[aD.out];exact⟨rfl,_,_,bX,(Gt.jQ hg).trans b0,cy,cC.le o_⟩
theorem wE(base g:Nat)(V:List ByteArray)(D:Nat)(x:ByteArray)(AE:Option Addr)(cE:Nat)(e0:ET)(AB:Option Addr)(cB:Nat)(bs:List ST)(AL:Option Addr)(cL:Nat)(ls:List ST)(v:iK)(q:Int)(p:Nat->Prop)(w:World)(nb:Nat)(bN:ug base g V D)(cr:lJ V D nb bs)
 (a2:Sl w 229 8 AB bs.length (bs.flatMap ST.E)) (cQ:∀u∈bs,jx p w u) (hes:∀e∈[e0],EG V 2 e) (be:Sl w 226 5 AE 1 ([e0].flatMap ET.E)) (kb:∀u∈[e0],kc p w u) (hP:mT w v.pv) (J:ln base w g v) (H:GK v q (D+1)) (iv:v.l.length+30*(1+nb)<=100000):
 Calls prog 202 #[q_ g,.agg (ST.mk 6 x iU 0 0 AE cE [e0] AB cB bs AL cL ls).g8] w (oq base g v (D+1) (30*(1+nb)) w):=by
 refine hX λQ aD=>?_
 obtain⟨bv,off,F⟩:=be.addr o_;subst F;obtain⟨W,gx,aZ,I,hg,hB⟩:=box1 w 229 (ST.mk 6 x iU 0 0 (some (c_ bv off)) cE [e0] AB cB bs AL cL ls).g8;replace hB:Bk W gx 229 #[i_ 6,.string x,.string iU,i_ 0,i_ 0,.slice (some (c_ bv off)) 1 cE,.slice AB bs.length cB,.slice AL ls.length cL]:=hB;obtain⟨Z,ah,au,aQ,aV,aE,z,y⟩:=hB.iT;have b3:=Gt.refl base gT W;have ay:=J.g_ hg;have b8:=h_ (be.g_ hg)
 replace kb:=λu hu=>(kb u hu).g_ hg
 have bS:=hP.gt (.jQ hg:Gt base gT w W);have cx:=a2.g_ hg
 have cw:=λu hu=>(cQ u hu).g_ hg
 have a7:=GP.refl v;clear be hP a2 J
 go_enter func202,ntmps202
 go_wp2_with fail
 go_at_call 204
 refine(k1 base g _ _ _ ay H.v1).mono ?_;rintro e w1⟨r,bu,bD,rfl,rfl⟩
 go_wp2_with fail
 go_at_call 136
 refine(me base g _ _ ay (by have:=a7.len;omega) H.sb.1 (by have:=H.sb.2;have:=a7.len;omega)).mono ?_;rintro e dU⟨rfl,t,ck⟩;have cD:=H.mark;have b4:=a7.trans (GP.mark _);have j:=b3.trans ck;clear ay b3 ck;have o:=lW v.l ⟨21,0,0,0,v.g9⟩ [];have X:ij v.mark.l v.l.length=21:=o
 have f:v.l.length<v.mark.l.length:=by simp[iK.mark]
 generalize R:v.mark=A at*;clear R o;clear Z ah au aQ aV aE z y;obtain⟨Z,ah,au,aQ,aV,aE,z,y⟩:=(hB.gt j d_).iT;obtain⟨aI,c1,an,aN,c4⟩:=ET.ats (b8.out.gt j d_) rfl 0 s_;simp only[FH,Fe,ES]at aI c1 an aN c4
 go_wp2_with fail
 go_at_call 203
 refine(oL base g V 2 e0 (hes _ s_) 0 _ _ _ p _ o_ o_ ((kb _ s_).gt j d_) t cD (by have:=b4.len;show _+7<=100000;omega)).mono ?_;rintro e cI⟨rfl,v22,dT,ct,co,bB,bj⟩;replace bj:GP _ v22 7:=bj;have bR:=b4.trans bj;have b9:=j.trans co;clear t j co aI c1 an aN c4;clear Z ah au aQ aV aE z y;obtain⟨Z,ah,au,aQ,aV,aE,z,y⟩:=(hB.gt b9 d_).iT
 go_wp2_with fail
 go_at_call 138
 refine(ic base g _ _ _ _ _ _ _ ct (by have:=bR.len;omega)).mono ?_;rintro e d7⟨rfl,c8,dh⟩;have dt:=bB.vo 12 (.inr rfl);have c3:=bR.trans (GP.put _ ⟨12,0,0,0,0⟩);have cC:=b9.trans dh;clear ct b9 dh;have dm:ij (iK.put v22 ⟨12,0,0,0,0⟩).l v22.l.length=12:=oe v22 _
 have d3:v22.l.length<(iK.put v22 ⟨12,0,0,0,0⟩).l.length:=by simp[iK.put]
 have aw:qQ A.l (iK.put v22 ⟨12,0,0,0,0⟩).l:=bj.kp.trans (GP.put _ _).kp;generalize ae:iK.put v22 ⟨12,0,0,0,0⟩=vc at*;clear ae;clear Z ah au aQ aV aE z y;obtain⟨Z,ah,au,aQ,aV,aE,z,y⟩:=(hB.gt cC d_).iT
 go_wp2_with fail
 go_at_call 137
 refine(bN nb AB _ cB bs _ _ p _ rfl (by have:=cr.len;omega) cr (cx.gt cC d_) (λu hu=>(cw u hu).gt cC d_ d_) (by rw[c3.pv];exact bS.gt cC) c8 (dt.le o_) (by have:=c3.len;omega)).mono ?_;rintro e ej⟨rfl,v24,d,c9,bG,b,a⟩;have du:=GK.of dt a (b.le (N_ _));have c6:=c3.trans a;have c:=cC.trans bG;clear c8 cC bG b;have dn:=(a.kp.2 _ o_).trans dm
 have cF:v22.l.length<v24.l.length:=by have:=a.kp.1;omega
 have E:=aw.trans a.kp;have Y:=(E.2 _ o_).trans X;clear Z ah au aQ aV aE z y;obtain⟨Z,ah,au,aQ,aV,aE,z,y⟩:=(hB.gt c d_).iT
 go_wp2_with fail
 go_at_call 138
 refine(ic base g _ _ _ _ _ _ _ c9 (by have:=c6.len;omega)).mono ?_;rintro e dB⟨rfl,cu,cR⟩;have dI:=du.jump 11 _ (.inl rfl) Y;have de:=c6.trans (GP.put _ ⟨11,0,0,0,v.l.length⟩);have da:=c.trans cR;clear c9 c cR;have U:=((GP.put v24 ⟨11,0,0,0,v.l.length⟩).kp.2 _ o_).trans dn
 have cG:v22.l.length<(iK.put v24 ⟨11,0,0,0,v.l.length⟩).l.length:=by simp[iK.put];omega
 obtain⟨aJ,ao,ci,af,N,a8⟩:=box1 dB 3 #[i_ v22.l.length];have h:Ns aJ 3 (j_ ao) [(v22.l.length:Int)]:=i5 (n:=1) (s:=1) a8 rfl;have m:=cu.g_ N
 go_wp2_with fail
 go_at_call 205
 refine(mh base g _ _ 1 1 [(v22.l.length:Int)] _ m (by have:=de.len;omega) h rfl (by intro i hi;simp at hi;subst hi;exact⟨by omega,by omega⟩) o_).mono ?_;rintro e eo⟨rfl,dF,di⟩;have dJ:=dI.here v22.l.length (.inr U);have dL:=de.trans (GP.here _ [(v22.l.length:Int)]);have dH:=(da.trans (.jQ N)).trans di;clear cu da di m h ci af N a8;exact Le
theorem zD{A:Option Addr}{n c:Nat}{x:Value}(h:w.ownsRow base e 1 (.slice A (n+1) c) (n+1) (xs++[x])):w.ownsRow base e 1 (.slice A n c) n xs:=by
 have hl:=by have:=h.1;simp at this;omega
 refine⟨by omega,?_⟩
 rcases h.2 with⟨hv,_⟩|⟨g,kX,cur,hv,h1,h2,h3,aw,ax,aY⟩
 .cases hv
 .injection hv with U _ hc;subst U;subst hc;refine .inr ⟨g,c,cur,rfl,h1,h2,by omega,aw,ax,?_⟩
  have:=D9 (List.take n) aY
  rw[List.take_take]at this;rw[Nat.mul_one]
  have e:min n ((n+1)*1)=n:=by omega
  rw[e]at this;rw[this,List.take_append_of_le_length o_,W_ o_]
theorem wy{size:Nat}{A:Option Addr}{n c:Nat}(h:w.ownsRow base e size (.slice A n c) n xs):n<=maxLen:=by
 rcases h.2 with⟨_,h0⟩|⟨_,_,_,_,_,_,h1,h2,_⟩
 .omega
 .omega
theorem mM.push{g x:Nat}{s:GS}(h:mM base w g s)(A':Option Addr)(c':Nat)(I:Bk w x 30 #[n_])(bH:base<=x)(aE:∀a∈s.rt++s.os,a.box≠x)(bE:w.grownBy w' (Value.slice s.OA s.os.length s.oc).ownBlock)(ao:w'.ownsRow base 313 1 (.slice A' (s.os.length+1) c') (s.os.length+1) ((s.os.map λa=>q_ a.box)++[q_ x])):
 Bk w' g 210 s.g8/\mM base (w'.setCell (c_ g 9) (.slice A' (s.os.length+1) c')) g {s with OA:=A',oc:=c',os:=s.os++[⟨x,none,0,[]⟩]}/\Gt base gT w (w'.setCell (c_ g 9) (.slice A' (s.os.length+1) c')):=by
 have j:∀e,e≠313->ms e w w':=λe he=>.app bE h.ho (Ne.symm he)
 have f:=(j _ d_).bk h.hg
 have u:∀e,e≠210->ms e w' (w'.setCell (c_ g 9) (.slice A' (s.os.length+1) c')):=λe he=>.set f (Ne.symm he) _ _
 have hk:=λe h1 h2=>(j e h1).trans (u e h2)
 have ax:GS.rows {s with OA:=A',oc:=c',os:=s.os++[(⟨x,none,0,[]⟩:At)]}=s.rows++[(n_,[])]:=by
  unfold GS.rows;simp
 refine⟨f,⟨?_,h.hbg,(hk _ d_ d_).own h.hl,(hk _ d_ d_).own h.hc,?_,?_,?_,?_,?_,(hk 9 d_ d_).sl h.hv,F_ h.hz (hk 9 d_ d_).1⟩,(Gt.app bE h.ho d_).trans (.set f h.hbg d_ _ _)⟩
 .have:=f.hJ 9 (.slice A' (s.os.length+1) c')
  exact Kt
 .rw[H_,Ed];exact(u _ d_).own ao
 .intro a ha
  have d:a∈s.rt++s.os∨a=⟨x,none,0,[]⟩:=by simpa[or_assoc]using ha
  rcases d with ha|rfl
  .exact⟨(hk 30 d_ d_).bk (h.hb a ha).1,(h.hb a ha).2⟩
  .exact⟨(hk 30 d_ d_).bk I,bH⟩
 .rw[<-Er,Ed,Fj];refine⟨h.hbn,by simp,λa ha b hb=>?_⟩;obtain⟨y,hy,rfl⟩:=D2.1 ha
  have:b=x:=by simpa using hb
  subst this;exact aE y hy
 .intro r hr;rw[ax]at hr
  rcases T_.1 hr with hr|hr
  .exact(hk 3 d_ d_).own (h.hi r hr)
  .have:r=(n_,[]):=by simpa using hr
   subst this;exact iJ _ _ _ _
 .rw[ax,j4];exact⟨h.kb,λb hb=>by simp[Value.ownBlock]at hb⟩
theorem mM.Dn{g:Nat}{s:GS}(h:mM base w g s)(F:List At)(a:At)(hs:s.os=F++[a]):
 mM base (w.setCell (c_ g 9) (.slice s.OA F.length s.oc)) g {s with os:=F,rt:=s.rt++[a]}:=by
 have u:∀e,e≠210->ms e w (w.setCell (c_ g 9) (.slice s.OA F.length s.oc)):=λe he=>.set h.hg (Ne.symm he) _ _
 have b:((s.rt++[a])++F).Perm (s.rt++s.os):=by
  rw[hs,Er];exact List.Perm.append_left _ (List.perm_append_comm)
 refine⟨?_,h.hbg,(u _ d_).own h.hl,(u _ d_).own h.hc,?_,?_,?_,?_,?_,(u _ d_).sl h.hv,F_ h.hz (u 9 d_).1⟩
 .exact h.hg.hJ 9 (.slice s.OA F.length s.oc)
 .have:=h.ho
  rw[hs]at this;simp only[H_,FP,Ed,E1,Ff]at this;exact(u _ d_).own (zD this)
 .intro x I;have f:=b.mem_iff.1 I;exact⟨(u 30 d_).bk (h.hb x f).1,(h.hb x f).2⟩
 .exact(b.map At.box).nodup_iff.2 h.hbn
 .intro r hr;refine(u 3 d_).own (h.hi r ?_);unfold GS.rows at hr |-;exact((((b.map _).cons _).cons _).mem_iff).1 hr
 .have:=h.kb
  unfold GS.rows at this |-;exact((((b.map _).cons _).cons _).filterMap _).nodup_iff.2 this
theorem ln.drop{g:Nat}{v:iK}(h:ln base w g v)(r x:List (Nat × List Int))(hr:v.rts=r++x):ln base w g (v.drop r):=by
 obtain⟨s,rfl,h⟩:=h;have dX:s.rt.map (λa=>(a.box,a.is))=r++x:=hr;obtain⟨bV,aU,hs,h1,h2⟩:=List.map_eq_append_iff.1 dX
 have L:(bV++s.os).Sublist (s.rt++s.os):=by rw[hs];exact(List.sublist_append_left bV aU).append_right _
 refine⟨{s with rt:=bV},?_,h.hg,h.hbg,h.hl,h.hc,h.ho,λa ha=>h.hb a (L.subset ha),(L.map At.box).nodup h.hbn,λq aq=>h.hi q ?_,?_,h.hv,h.hz⟩
 .simp only[GS.lg,iK.drop,h1]
 .unfold GS.rows at aq |-;exact(((L.map _).cons_cons _).cons_cons _).subset aq
 .have:=h.kb
  unfold GS.rows at this |-;exact((((L.map _).cons_cons _).cons_cons _).filterMap _).nodup this
theorem xP(base g:Nat)(V:List ByteArray)(D:Nat)(x:ByteArray)(AE:Option Addr)(cE:Nat)(es:List ET)(AB:Option Addr)(cB:Nat)(bs:List ST)(AL:Option Addr)(cL:Nat)(ls:List ST)(v:iK)(q:Int)(p:Nat->Prop)(w:World)(nb nl:Nat)(bN:ug base g V D)(cr:lJ V D nb bs)(cS:lJ V D nl ls)
 (a2:Sl w 229 8 AB bs.length (bs.flatMap ST.E)) (cQ:∀u∈bs,jx p w u) (ca:Sl w 229 8 AL ls.length (ls.flatMap ST.E)) (cT:∀u∈ls,jx p w u) (hP:mT w v.pv) (J:ln base w g v) (H:GK v q (D+1)) (iv:v.l.length+30*(1+nb+nl)<=100000):
 Calls prog 201 #[q_ g,.agg (ST.mk 9 x iU 0 0 AE cE es AB cB bs AL cL ls).g8] w (oq base g v (D+1) (30*(1+nb+nl)) w):=by
 refine hX λQ aD=>?_
 obtain⟨bz,bw,br,bi,bf⟩:=info_parts infoPI;obtain⟨W,gx,aI,aZ,I,bH,hg,hB,L⟩:=B9 w 229 (ST.mk 9 x iU 0 0 AE cE es AB cB bs AL cL ls).g8 30 #[n_];replace hB:Bk W gx 229 #[i_ 9,.string x,.string iU,i_ 0,i_ 0,.slice AE es.length cE,.slice AB bs.length cB,.slice AL ls.length cL]:=hB;obtain⟨Z,ah,au,aQ,aV,aE,z,y⟩:=hB.iT;have bS:=hP.gt (.jQ hg:Gt base gT w W);have cx:=a2.g_ hg
 have cw:=λu hu=>(cQ u hu).g_ hg
 have dK:=ca.g_ hg
 have dx:=λu hu=>(cT u hu).g_ hg
 obtain⟨s,hs,hi⟩:=J
 have b0:∀a∈s.rt++s.os,a.box≠aI:=λa ha he=>by
  have:=(hi.hb a ha).1.lt
  omega
 have bZ:base<=aI:=by have:=hi.hz;omega
 have M:s.os.length<=20:=by
  have e:s.os.length=v.ats.length:=by rw[<-hs];simp[GS.lg]
  rw[e]
  have:=H.al
  omega
 have bK:=hi.g_ hg;have E:W.cell? (c_ g 9)=some (.slice s.OA s.os.length s.oc):=bK.hg.f_ 9;obtain⟨bh,P,bF,cp,bV,bo⟩:=box1 W 313 #[q_ aI];have C:Sl bh 313 1 (j_ P) 1 [q_ aI]:=i5 (n:=1) (s:=1) bo rfl;have aM:=bK.g_ bV;have ap:=h_ hs;clear a2 ca hP cQ cT hi bK hs
 go_enter func201,ntmps201
 go_wp2_with (at_builtin;refine jU rfl _ _ _ rfl base 313 bz _ 1 8 underlying208 bw br bi bf rfl d_ d_ s.OA s.os.length s.oc _ rfl aM.ho _ 1 1 _ rfl C (by intro u hu;simp at hu;subst hu;rfl) o_ aM.hz ?_;intro a8 aN ai bE bg _;have cv:=aM.push a8 aN (L.g_ bV) bZ b0 bg bE;have an:=h_ cv;have ag:=cv.1.hm 9;have z9:ai.cell? (c_ g 9)=some (.slice s.OA s.os.length s.oc):=cv.1.f_ 9;clear cv)
 have d:ln base (ai.setCell (c_ g 9) (.slice a8 (s.os.length+1) aN)) g (v.push aI):=⟨_,(by rw[<-ap.out];simp[GS.lg,iK.push]),an.out.2.1⟩;have am:=(Gt.jQ bV).trans an.out.2.2;have ax:=H.push aI;have aF:=GP.refl (v.push aI);have cG:(v.push aI).l.length=v.l.length:=rfl;have bT:mT W (v.push aI).pv:=bS;obtain⟨dG,cW⟩:=nm_ (ai.setCell (c_ g 9) (.slice a8 (s.os.length+1) aN));rw[<-cW]at d am |-;clear cW an ag z9 E aM C L M b0;replace bS:=bT;clear bT
 go_at_call 217
 refine(nV base g _ _ d (by have:=aF.len;omega) (λa ha=>by have:=ax.ok.rM a.2 (Ga ha);have:=aF.len;omega) (by have:=ax.al;omega)).mono ?_;rintro e dU⟨rfl,t,ck⟩;have cD:=ax.protect;have b4:=aF.trans (GP.protect _);have j:=am.trans ck;clear d am ck;clear Z ah au aQ aV aE z y;obtain⟨Z,ah,au,aQ,aV,aE,z,y⟩:=(hB.gt j d_).iT
 go_wp2_with fail
 go_at_call 137
 refine(bN nb AB _ cB bs _ _ p _ rfl (by have:=cr.len;omega) cr (cx.gt j d_) (λu hu=>(cw u hu).gt j d_ d_) (by rw[b4.pv];exact bS.gt j) t (cD.le o_) (by have:=b4.len;omega)).mono ?_;rintro e cI⟨rfl,v22,dT,ct,co,c7,bj⟩;have bB:=GK.of cD bj (c7.le (N_ _));have bR:=b4.trans bj;have b9:=j.trans co;clear t j co c7;obtain⟨l,is,hl,N⟩:=bR.Cr;have B:=bB.ok.pI is (by rw[hl];simp);have dy:=bB.ok.rM is (by rw[hl];simp);obtain⟨b7,aW,av⟩:=ct
 have cK:b7.os.map (λa=>(a.box,a.is))=l++[(aI,is)]:=by rw[<-hl,<-aW];rfl
 obtain⟨F,l1,af,bY,cl⟩:=List.map_eq_append_iff.1 cK
 obtain⟨a,rfl⟩:∃a,l1=[a]:=by
  cases l1 with
  |nil=>simp at cl
  |cons a l1=>
   cases l1 with
   |nil=>exact⟨a,rfl⟩
   |cons b l1=>simp at cl
 have aC:b7.os.length=F.length+1:=by rw[af];simp
 have b6:=iQ av.ho;have T:=av.Dn F a af;have ae:Gt base gT cI (cI.setCell (c_ g 9) (.slice b7.OA F.length b7.oc)):=av.yq 9 _;obtain⟨go,_,G,_,_,_⟩:=ky av.ho o_;rw[G]at T ae
 have E:cI.cell? (c_ g 9)=some (.slice (j_ go) (F.length+1) b7.oc):=by have:=av.hg.f_ 9;unfold GS.g8 at this;rw[aC,G]at this;exact this
 have ag:=av.hg.hm 9;obtain⟨m,Y⟩:=nm_ F.length;rw[aC]at b6;have O:=wy av.ho;rw[<-Y]at E T ae b6;have de:IntKind.i64.wrap (m:Int)=m:=Eg _ (by unfold maxLen at O;omega)
 have db:(m:Int)<=b7.oc:=by omega
 have ad:m<=b7.oc:=by omega
 have cZ:=h_ aW;have cY:=h_ af;have dw:=h_ N;clear aW af bY cl aC G Y cK hl N av
 go_upto_region 5 with fail
 go_region
 go_upto_region 6 with fail
 clear E ag de db ad
 have aj:ln base (cI.setCell (c_ g 9) (.slice (j_ go) m b7.oc)).drew g v22.pop:=⟨_,(by
  rw[<-cZ.out];have aP:b7.lg.ats=F.map (λa=>(a.box,a.is))++[(a.box,a.is)]:=(by show b7.os.map _=_;rw[cY.out];simp);unfold iK.pop;rw[aP]
  simp[GS.lg]),T.g_ (D_ [] _).drew⟩
 have U:=(b9.trans ae).trans (.jQ (D_ [] (cI.setCell (c_ g 9) (.slice (j_ go) m b7.oc))).drew:Gt base gT _ _);have ay:=H.CH bR (bB.le (N_ _));have aG:=GP.refl v22.pop;have dC:v22.pop.l.length=v22.l.length:=rfl;have dD:=bR.len;have cV:=bR.pv;replace bS:mT W v22.pop.pv:=(by show mT W v22.pv;rw[cV];exact bS);clear cV;have bW:∀i∈is,0<=i/\i<v22.pop.l.length/\ij v22.pop.l i=17:=B;obtain⟨dH,cX⟩:=nm_ ((cI.setCell (c_ g 9) (.slice (j_ go) m b7.oc)).drew);rw[<-cX]at aj U |-;clear cX T ae B;clear Z ah au aQ aV aE z y;obtain⟨Z,ah,au,aQ,aV,aE,z,y⟩:=(hB.gt U d_).iT
 go_wp2_with fail
 go_at_call 217
 refine(nV base g _ _ aj (by have:=aG.len;omega) (λa ha=>by have:=ay.ok.rM a.2 (Ga ha);have:=aG.len;omega) (by have:=ay.al;omega)).mono ?_;rintro e dI⟨rfl,aY,b3⟩;have da:=ay.protect;have bJ:=aG.trans (GP.protect _);have bn:=U.trans b3;clear aj U b3
 go_wp2_with fail
 go_at_call 138
 refine(ic base g _ _ _ _ _ _ _ aY (by have:=bJ.len;omega)).mono ?_;rintro e aX⟨rfl,c3,b5⟩;have az:=da.vo 11 (.inl rfl);have aH:=bJ.trans (GP.put _ ⟨11,0,0,0,0⟩);have bp:=bn.trans b5;clear aY bn b5;have dQ:ij (iK.put v22.pop.protect ⟨11,0,0,0,0⟩).l v22.pop.protect.l.length=11:=oe _ _
 have ef:v22.pop.protect.l.length<(iK.put v22.pop.protect ⟨11,0,0,0,0⟩).l.length:=by simp[iK.put]
 have dm:(iK.put v22.pop.protect ⟨11,0,0,0,0⟩).rts=v.rts++[(aI,is)]:=dw.out
 have X:∀i∈is,0<=i/\i<(iK.put v22.pop.protect ⟨11,0,0,0,0⟩).l.length/\ij (iK.put v22.pop.protect ⟨11,0,0,0,0⟩).l i=17:=λi hi=>by
  obtain⟨a1,f,a3⟩:=bW i hi;have hk:=aH.kp;exact⟨a1,(by have:=hk.1;omega),(hk.2 i f).trans a3⟩
 generalize dq:v22.pop.protect.l.length=k at*;generalize aL:iK.put v22.pop.protect ⟨11,0,0,0,0⟩=c at*;clear dq aL bW;obtain⟨cg,S,cH⟩:=c3
 have cN:cg.rt.map (λa=>(a.box,a.is))=v.rts++[(aI,is)]:=by rw[<-dm,<-S];rfl
 obtain⟨o,aR,aS⟩:∃o∈cg.rt,(o.box,o.is)=(aI,is):=by
  have:(aI,is)∈cg.rt.map (λa=>(a.box,a.is)):=by rw[cN];simp
  obtain⟨o,h1,h2⟩:=D2.1 this;exact⟨o,h1,h2⟩
 have bX:o.box=aI:=D9 Prod.fst aS;have aT:o.is=is:=D9 Prod.snd aS;have cn:=(cH.hb o (D4 _ aR)).1;rw[bX,aT]at cn;have cM:=cH.hi o.row (by unfold GS.rows;simp only[M_];exact .inr (.inr (D2.2 ⟨o,D4 _ aR,rfl⟩)))
 have cJ:Ns aX 3 o.A is:=by
  have:=Sl.iG cM
  unfold At.row at this;simp only[aT]at this;exact this
 have cO:ln base aX g c:=⟨cg,S,cH⟩;have dg:aX.cell? (c_ aI 0)=some (.slice o.A is.length o.c):=cn.f_ 0;clear S cH cN aR aS bX aT cn cM
 go_wp2_with fail
 go_at_call 205
 refine(mh base g _ o.A is.length o.c is _ cO (by have:=aH.len;omega) cJ rfl (λi hi=>⟨(X i hi).1,(X i hi).2.1⟩) o_).mono ?_;rintro e dJ⟨rfl,c6,ce⟩;have aJ:=aH.trans (GP.here _ is);have bq:=bp.trans ce;have aB:=az.sY is (λi hi=>(X i hi).2.2);have cU:=az.sb;have dj:ij (c.here is).l k=11:=(n8 _ _ _ _).trans dQ
 have dz:k<(c.here is).l.length:=by simp only[iK.here,iV];omega
 clear cO dg cJ ce bp az X
 go_wp2_with fail
 go_at_call 136
 refine(me base g _ _ c6 (by have:=aJ.len;omega) cU.1 (by have:=cU.2;have:=aJ.len;show c.g9<=100000;simp only[iK.here,iV]at this;omega)).mono ?_;rintro e dL⟨rfl,a6,cf⟩;have aK:=aJ.trans (GP.mark _);have ao:=bq.trans cf;have dR:=(((GP.mark (c.here is)).kp.2 _ o_)).trans dj
 have d2:k<(c.here is).mark.l.length:=by have:=(GP.mark (c.here is)).kp.1;omega
 generalize R:(c.here is).mark=A at*;clear R c6 bq cf;clear Z ah au aQ aV aE z y;obtain⟨Z,ah,au,aQ,aV,aE,z,y⟩:=(hB.gt ao d_).iT
 go_wp2_with fail
 go_at_call 217
 refine(nV base g _ _ a6 (by have:=aK.len;omega) (λa ha=>by have:=aB.ok.rM a.2 (Ga ha);have:=aK.len;omega) (by have:=aB.al;omega)).mono ?_;rintro e dM⟨rfl,be,ci⟩;have df:=aB.protect;have bL:=aK.trans (GP.protect _);have bt:=ao.trans ci;clear a6 ao ci;have cF:=(GP.protect A).kp;generalize bO:A.protect=h at*;clear bO
 go_wp2_with fail
 go_at_call 138
 refine(ic base g _ _ _ _ _ _ _ be (by have:=bL.len;omega)).mono ?_;rintro e dN⟨rfl,ak,cj⟩;have bA:=df.simp (x:=⟨18,0,0,0,0⟩) d_;have bM:=bL.trans (GP.put _ ⟨18,0,0,0,0⟩);have aw:=bt.trans cj;clear be bt cj;clear Z ah au aQ aV aE z y;obtain⟨Z,ah,au,aQ,aV,aE,z,y⟩:=(hB.gt aw d_).iT
 go_wp2_with fail
 go_at_call 204
 refine(k1 base g _ _ _ ak bA.v1).mono ?_;rintro e w1⟨r,bu,bD,rfl,rfl⟩
 go_wp2_with fail
 go_at_call 138
 refine(ic base g _ _ _ _ _ _ _ ak (by have:=bM.len;omega)).mono ?_;rintro e dO⟨rfl,bl,cq⟩;have bC:=bA.simp (x:=⟨9,0,0,0,r⟩) (lj 0 r o_ o_ bu o_);have aO:=bM.trans (GP.put _ ⟨9,0,0,0,r⟩);have K:=aw.trans cq;clear ak aw cq;have a7:qQ A.l (iK.put (iK.put h ⟨18,0,0,0,0⟩) ⟨9,0,0,0,r⟩).l:=(cF.trans (GP.put _ _).kp).trans (GP.put _ _).kp;generalize cR:iK.put (iK.put h ⟨18,0,0,0,0⟩) ⟨9,0,0,0,r⟩=dF at*;clear cR cF;clear Z ah au aQ aV aE z y;obtain⟨Z,ah,au,aQ,aV,aE,z,y⟩:=(hB.gt K d_).iT
 go_wp2_with fail
 go_at_call 137
 refine(bN nl AL _ cL ls _ _ p _ rfl (by have:=cS.len;omega) cS (dK.gt K d_) (λu hu=>(dx u hu).gt K d_ d_) (by rw[aO.pv];exact bS.gt K) bl (bC.le o_) (by have:=aO.len;omega)).mono ?_;rintro e du⟨rfl,dt,dE,bm,cy,cC,aU⟩;have dh:=GK.of bC aU (cC.le (N_ _));have bP:=aO.trans aU;have bv:=K.trans cy;clear bl K cy cC;have ar:=a7.trans aU.kp;have dk:=(ar.2 _ o_).trans dR
 have dB:k<dt.l.length:=by have:=ar.1;omega
 obtain⟨bG,aq,cu,dr,b8,bU⟩:=box1 du 3 #[i_ k];have bI:Ns bG 3 (j_ aq) [(k:Int)]:=i5 (n:=1) (s:=1) bU rfl;have cA:=bm.g_ b8
 go_wp2_with fail
 go_at_call 205
 refine(mh base g _ _ 1 1 [(k:Int)] _ cA (by have:=bP.len;omega) bI rfl (by intro i hi;simp at hi;subst hi;exact⟨by omega,by omega⟩) o_).mono ?_;rintro e dP⟨rfl,c8,cz⟩;have di:=dh.here k (.inl dk);have bQ:=bP.trans (GP.here _ [(k:Int)]);have c9:=(bv.trans (.jQ b8)).trans cz;clear bm bv cz cA bI cu dr b8 bU;go_wp2;refine en_ ?_;rw[aD.out];have dn:=bQ.rt.trans dw.out;exact⟨rfl,_,_,c8.drop v.rts _ dn,(Gt.jQ hg).trans c9,di.CS _,(bR.BR bQ).le o_⟩
theorem wh(base g:Nat)(t:ST)(w:World)(R:Ending->World->Prop)(hk:t.hT=9)(hR:∀e w',R e w'->e=.returned uU)(h:∀W,Gr [] w W->Calls prog 201 #[q_ g,.agg t.g8] W R):Calls prog 175 #[q_ g,.agg t.g8] w R:=by
 refine hX λQ aD=>?_
 obtain⟨W,gx,aZ,I,hg,hB⟩:=box1 w 229 t.g8
 replace hB:Bk W gx 229 #[i_ 9,.string t.name,.string t.fn,i_ t.n,i_ t.op,.slice t.AE t.es.length t.cE,.slice t.AB t.bs.length t.cB,.slice t.AL t.ls.length t.cL]:=by rw[<-hk];exact hB
 obtain⟨Z,ah,au,aQ,aV,aE,z,y⟩:=hB.iT;have aW:=h_ (h W hg);have D:=h_ hR
 have hce:t.g8=#[i_ 9,.string t.name,.string t.fn,i_ t.n,i_ t.op,.slice t.AE t.es.length t.cE,.slice t.AB t.bs.length t.cB,.slice t.AL t.ls.length t.cL]:=by rw[<-hk];rfl
 have a8:=h_ hce;clear hk h hR hce
 go_enter func175,ntmps175
 go_wp2_with fail
 go_at_call 201
 rw[<-a8.out];refine aW.out.mono ?_;intro e w' hr;have he:=D.out e w' hr;subst he;have a:=h_ hr;clear hr;go_wp2;refine rn_ ?_;rw[aD.out];exact a.out
theorem rn(base g:Nat)(k:Int)(t:ST)(w:World)(R:Ending->World->Prop)(aK:t.hT=k)(hk:k=5∨k=6)(hR:∀e w',R e w'->e=.returned uU)(h:∀W,Gr [] w W->Calls prog 202 #[q_ g,.agg t.g8] W R):Calls prog 175 #[q_ g,.agg t.g8] w R:=by
 refine hX λQ aD=>?_
 obtain⟨W,gx,aZ,I,hg,hB⟩:=box1 w 229 t.g8
 replace hB:Bk W gx 229 #[i_ k,.string t.name,.string t.fn,i_ t.n,i_ t.op,.slice t.AE t.es.length t.cE,.slice t.AB t.bs.length t.cB,.slice t.AL t.ls.length t.cL]:=by rw[<-aK];exact hB
 obtain⟨Z,ah,au,aQ,aV,aE,z,y⟩:=hB.iT;have aW:=h_ (h W hg);have D:=h_ hR
 have hce:t.g8=#[i_ k,.string t.name,.string t.fn,i_ t.n,i_ t.op,.slice t.AE t.es.length t.cE,.slice t.AB t.bs.length t.cB,.slice t.AL t.ls.length t.cL]:=by rw[<-aK];rfl
 have a8:=h_ hce;clear aK h hR hce
 rcases hk with rfl|rfl
 all_goals
  go_enter func175,ntmps175
  go_wp2_with fail
  go_at_call 202
  rw[<-a8.out];refine aW.out.mono ?_;intro e w' hr;have he:=D.out e w' hr;subst he;have a:=h_ hr;clear hr;go_wp2;refine rn_ ?_;rw[aD.out];exact a.out
theorem oq.le{g:Nat}{v:iK}{D n:Nat}{e:Ending}(h:oq base g v D n w e w')(hn:n<=m):oq base g v D m w e w':=by
 obtain⟨h1,v',q',h2,h3,aw,ax⟩:=h;exact⟨h1,v',q',h2,h3,aw,ax.le hn⟩
theorem oq.gr{g:Nat}{v:iK}{D n:Nat}{w1:World}{e:Ending}(h:oq base g v D n w1 e w')(hg:Gr [] w w1):oq base g v D n w e w':=by
 obtain⟨h1,v',q',h2,h3,aw,ax⟩:=h;exact⟨h1,v',q',h2,(Gt.jQ hg).trans h3,aw,ax⟩
theorem mE.DT{V:List ByteArray}{x f:ByteArray}{n o:Int}{B L:Bool}(h:mE V 9 x f n o m B L):f=iU/\n=0/\o=0:=by cases h;exact⟨rfl,rfl,rfl⟩
theorem mE.DV{V:List ByteArray}{x f:ByteArray}{n o:Int}{B L:Bool}(h:mE V 5 x f n o m B L):f=iU/\n=0/\o=0/\m=2:=by cases h;exact⟨rfl,rfl,rfl,rfl⟩
theorem mE.DU{V:List ByteArray}{x f:ByteArray}{n o:Int}{B L:Bool}(h:mE V 6 x f n o m B L):x=iU/\f=iU/\n=0/\o=0/\m=1:=by cases h;exact⟨rfl,rfl,rfl,rfl,rfl⟩
theorem w_(base g:Nat)(V:List ByteArray):∀D,BF base g V D
 |0=>by
  intro N t v q p w bS;obtain⟨r,_,_,_,_,h,_⟩:=bS.one;omega
 |D+1=>by
  have bN:=tX base g V D (w_ base g V D);intro N t v q p w bS kb hP J H iv;obtain⟨r,nb,nl,B,L,hD,br,bL,hB,hL,hes,hb,hl⟩:=bS.one
  have d:r=D:=by omega
  subst d;obtain⟨p1,G,M,bi,cA,ak⟩:=kb.parts;obtain⟨k,x,f,n,o,AE,cE,es,AB,cB,bs,AL,cL,ls⟩:=t;simp only[ST.hT,ST.name,ST.fn,ST.n,ST.op,ST.es,ST.bs,ST.ls,ST.AE,ST.AB,ST.AL]at bL hB hL hes hb hl p1 G M bi cA ak
  by_cases aJ:k=9
  .subst aJ;have cy:=bL.DT;obtain⟨rfl,rfl,rfl⟩:=cy
   refine wh base g _ w _ rfl (λe w' h=>h.1) λW hg=>?_
   refine(xP base g V r x AE cE es AB cB bs AL cL ls v q p W nb nl bN hb hl (M.g_ hg) (λu hu=>(bi u hu).g_ hg) (cA.g_ hg) (λu hu=>(ak u hu).g_ hg) (hP.gt (.jQ hg:Gt base gT w W)) (J.g_ hg) H o_).mono λe w' h=>(h.gr hg).le o_
  .by_cases ax:k=5
   .subst ax;have cy:=bL.DV;obtain⟨rfl,rfl,rfl,c6⟩:=cy
    obtain⟨e0,aP,rfl⟩:∃e0 aP,es=[e0,aP]:=by
     match es,c6 with
     |[e0,aP],_=>exact⟨e0,aP,rfl⟩
    refine rn base g 5 _ w _ rfl (.inl rfl) (λe w' h=>h.1) λW hg=>?_
    exact(zN base g V r x AE cE e0 aP AB cB bs AL cL ls v q p W nb bN hb (M.g_ hg) (λu hu=>(bi u hu).g_ hg) hes (p1.g_ hg) (λu hu=>(G u hu).g_ hg) (hP.gt (.jQ hg:Gt base gT w W)) (J.g_ hg) H o_).mono λe w' h=>(h.gr hg).le o_
   .by_cases aY:k=6
    .subst aY;have cy:=bL.DU;obtain⟨rfl,rfl,rfl,rfl,c6⟩:=cy
     obtain⟨e0,rfl⟩:∃e0,es=[e0]:=by
      match es,c6 with
      |[e0],_=>exact⟨e0,rfl⟩
     refine rn base g 6 _ w _ rfl (.inr rfl) (λe w' h=>h.1) λW hg=>?_
     exact(wE base g V r iU AE cE e0 AB cB bs AL cL ls v q p W nb bN hb (M.g_ hg) (λu hu=>(bi u hu).g_ hg) hes (p1.g_ hg) (λu hu=>(G u hu).g_ hg) (hP.gt (.jQ hg:Gt base gT w W)) (J.g_ hg) H o_).mono λe w' h=>(h.gr hg).le o_
    .exact(uX base g V r k x f n o AE cE es AB cB bs AL cL ls v q p w B L nb nl bN hb hl M bi cA ak bL aJ aY ax hes p1 G hP J H o_).mono λe w' h=>h.le o_
theorem wF(base g:Nat)(V:List ByteArray)(D:Nat):ug base g V D:=tX base g V D (w_ base g V D)
end Go.Proofs.YtenbhdilndfaeaaGreat
