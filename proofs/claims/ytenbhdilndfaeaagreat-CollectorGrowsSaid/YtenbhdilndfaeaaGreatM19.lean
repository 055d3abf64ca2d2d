import Derived.Test.YtenbhdilndfaeaaGreatM18
set_option maxRecDepth 100000
set_option maxHeartbeats 0
set_option linter.all false
namespace Go.Proofs.YtenbhdilndfaeaaGreat
open Go.RowKit Go.Proofs.Tryz
variable{e:TypeId}{A:OA}{xs:List Value}{w':World}{V:List ByteArray}{i m:Nat}{cur:Array Value}(v:Int)(l:List In)(k:Nat)
theorem Af{w:World}{base:Nat}{n c:Nat}{x:Value}(h:w.ownsRow base e 1 (.slice A (n+1) c) (n+1) (xs++[x])):w.ownsRow base e 1 (.slice A n c) n xs:=by
 have hl:=by have:=h.1;simp at this;omega
 refine⟨o_,?_⟩
 rcases h.2 with⟨hv,_⟩|⟨g,lW,cur,hv,h1,h2,h3,au,aq,aU⟩
 .cases hv
 .injection hv with hA _ hc;subst hA;subst hc;refine .inr ⟨g,c,cur,rfl,h1,h2,o_,au,aq,?_⟩
  have:=ED (List.take n) aU
  rw[List.take_take]at this;rw[Nat.mul_one];have e:min n ((n+1)*1)=n:=o_;rw[e]at this;rw[this,List.take_append_of_le_length o_,EI o_]
theorem w6{w:World}{base:Nat}{size:Nat}{n c:Nat}(h:w.ownsRow base e size (.slice A n c) n xs):n<=maxLen:=by
 rcases h.2 with⟨_,h0⟩|⟨_,_,_,_,_,_,h1,h2,_⟩
 .omega
 .omega
theorem mX.push{base g x:Nat}{w:World}{s:GS}(h:mX base w g s)(A':OA)(c':Nat)(hx:Bk w x 30 #[n_])(bg:base<=x)(aZ:∀a∈s.rt++s.os,a.box≠x)(bC:w.grownBy w' (Value.slice s.OA s.os.length s.oc).ownBlock)(aF:w'.ownsRow base 313 1 (.slice A' (s.os.length+1) c') (s.os.length+1) ((s.os.map λa=>q_ a.box)++[q_ x])):
 Bk w' g 210 s.g_/\mX base (w'.setCell (c_ g 9) (.slice A' (s.os.length+1) c')) g {s with OA:=A',oc:=c',os:=s.os++[⟨x,none,0,[]⟩]}/\Gt base gT w (w'.setCell (c_ g 9) (.slice A' (s.os.length+1) c')):=by
 have j:∀e,e≠313->mH e w w':=λe he=>.app bC h.ho (Ne.symm he)
 have c:=(j _ d_).bk h.hg
 have u:∀e,e≠210->mH e w' (w'.setCell (c_ g 9) (.slice A' (s.os.length+1) c')):=λe he=>.set c (Ne.symm he) _ _
 have hk:=λe h1 h2=>(j e h1).trans (u e h2)
 have ay:GS.rows {s with OA:=A',oc:=c',os:=s.os++[(⟨x,none,0,[]⟩:At)]}=s.rows++[(n_,[])]:=by
  unfold GS.rows;simp
 refine⟨c,⟨?_,h.hbg,(hk _ d_ d_).own h.hl,(hk _ d_ d_).own h.hc,?_,?_,?_,?_,?_,(hk 9 d_ d_).sl h.hv,G_ h.hz (hk 9 d_ d_).1⟩,(Gt.app bC h.ho d_).trans (.set c h.hbg d_ _ _)⟩
 .have:=c.hW 9 (.slice A' (s.os.length+1) c')
  exact LJ
 .rw[J_,EL];exact(u _ d_).own aF
 .intro a ha
  have d:a∈s.rt++s.os∨a=⟨x,none,0,[]⟩:=by simpa[or_assoc]using ha
  rcases d with ha|rfl
  .exact⟨(hk 30 d_ d_).bk (h.hb a ha).1,(h.hb a ha).2⟩
  .exact⟨(hk 30 d_ d_).bk hx,bg⟩
 .rw[<-Fc,EL,Gu];refine⟨h.hbn,s_,λa ha b hb=>?_⟩;obtain⟨y,hy,rfl⟩:=EM.1 ha
  have:b=x:=zu hb
  subst this;exact aZ y hy
 .intro r hr;rw[ay]at hr
  rcases X_.1 hr with hr|hr
  .exact(hk 3 d_ d_).own (h.hi r hr)
  .have:r=(n_,[]):=zu hr
   subst this;exact iV _ _ _ _
 .rw[ay,kb];exact⟨h.kh,λb hb=>by simp[Value.ownBlock]at hb⟩
theorem mX.DU{base g:Nat}{w:World}{s:GS}(h:mX base w g s)(F:List At)(a:At)(hs:s.os=F++[a]):
 mX base (w.setCell (c_ g 9) (.slice s.OA F.length s.oc)) g {s with os:=F,rt:=s.rt++[a]}:=by
 have u:∀e,e≠210->mH e w (w.setCell (c_ g 9) (.slice s.OA F.length s.oc)):=λe he=>.set h.hg (Ne.symm he) _ _
 have b:((s.rt++[a])++F).Perm (s.rt++s.os):=by
  rw[hs,Fc];exact List.Perm.append_left _ (List.perm_append_comm)
 refine⟨?_,h.hbg,(u _ d_).own h.hl,(u _ d_).own h.hc,?_,?_,?_,?_,?_,(u _ d_).sl h.hv,G_ h.hz (u 9 d_).1⟩
 .exact h.hg.hW 9 (.slice s.OA F.length s.oc)
 .have:=h.ho
  rw[hs]at this;simp only[J_,Gw,EL,Fg,FN]at this;exact(u _ d_).own (Af this)
 .intro x hx;have f:=b.mem_iff.1 hx;exact⟨(u 30 d_).bk (h.hb x f).1,(h.hb x f).2⟩
 .exact(b.map At.box).nodup_iff.2 h.hbn
 .intro r hr;refine(u 3 d_).own (h.hi r ?_);unfold GS.rows at hr |-;exact((((b.map _).cons _).cons _).mem_iff).1 hr
 .have:=h.kh
  unfold GS.rows at this |-;exact((((b.map _).cons _).cons _).filterMap _).nodup_iff.2 this
theorem lD.drop{base g:Nat}{w:World}{v:iU}(h:lD base w g v)(r x:List (Nat × List Int))(hr:v.rts=r++x):lD base w g (v.drop r):=by
 obtain⟨s,rfl,h⟩:=h;have eA:s.rt.map (λa=>(a.box,a.is))=r++x:=hr;obtain⟨bW,aQ,hs,h1,h2⟩:=List.map_eq_append_iff.1 eA
 have L:(bW++s.os).Sublist (s.rt++s.os):=by rw[hs];exact(List.sublist_append_left bW aQ).append_right _
 refine⟨{s with rt:=bW},?_,h.hg,h.hbg,h.hl,h.hc,h.ho,λa ha=>h.hb a (L.subset ha),(L.map At.box).nodup h.hbn,λq am=>h.hi q ?_,?_,h.hv,h.hz⟩
 .simp only[GS.lg,iU.drop,h1]
 .unfold GS.rows at am |-;exact(((L.map _).cons_cons _).cons_cons _).subset am
 .have:=h.kh
  unfold GS.rows at this |-;exact((((L.map _).cons_cons _).cons_cons _).filterMap _).nodup this
theorem yk(base g:Nat)(V:List ByteArray)(D:Nat)(x:ByteArray)(AE:OA)(cE:Nat)(es:List ET)(AB:OA)(cB:Nat)(bs:List ST)(AL:OA)(cL:Nat)(ls:List ST)(v:iU)(q:Int)(p:Nat->Prop)(w:World)(nb nl:Nat)(b8:uw base g V D)(cx:lR V D nb bs)(cX:lR V D nl ls)
 (aO:Sl w 229 8 AB bs.length (bs.flatMap ST.E)) (cU:∀u∈bs,jK p w u) (cg:Sl w 229 8 AL ls.length (ls.flatMap ST.E)) (cW:∀u∈ls,jK p w u) (hP:m9 w v.pv) (I:lD base w g v) (H:GK v q (D+1)) (iM:v.l.length+30*(1+nb+nl)<=100000):
 Calls prog 201 #[q_ g,.agg (ST.mk 9 x i4 0 0 AE cE es AB cB bs AL cL ls).g_] w (oz base g v (D+1) (30*(1+nb+nl)) w):=by
 refine ia λQ ak=>?_
 obtain⟨bF,bE,bt,a8,bo⟩:=info_parts infoPI;obtain⟨W,gx,aN,aT,hx,bg,hg,hB,L⟩:=v7 w 229 (ST.mk 9 x i4 0 0 AE cE es AB cB bs AL cL ls).g_ 30 #[n_];replace hB:Bk W gx 229 #[i_ 9,.string x,.string i4,i_ 0,i_ 0,.slice AE es.length cE,.slice AB bs.length cB,.slice AL ls.length cL]:=hB;obtain⟨U,ad,ar,aL,ao,aP,z,y⟩:=hB.i0;have bH:=hP.gt (.jC hg:Gt base gT w W);have cG:=aO.hG hg
 have cC:=λu hu=>(cU u hu).hG hg
 have dQ:=cg.hG hg
 have dF:=λu hu=>(cW u hu).hG hg
 obtain⟨s,hs,hi⟩:=I
 have b9:∀a∈s.rt++s.os,a.box≠aN:=λa ha he=>by
  have:=(hi.hb a ha).1.lt
  omega
 have t:base<=aN:=ov hi.hz
 have R:s.os.length<=20:=by
  have e:s.os.length=v.ats.length:=by rw[<-hs];simp[GS.lg]
  rw[e]
  have:=H.al
  omega
 have bM:=hi.hG hg;have B:W.cell? (c_ g 9)=some (.slice s.OA s.os.length s.oc):=bM.hg.f_ 9;obtain⟨aH,P,bC,ct,bR,bz⟩:=box1 W 313 #[q_ aN];have C:Sl aH 313 1 (j_ P) 1 [q_ aN]:=jj (n:=1) (s:=1) bz rfl;have aE:=bM.hG bR;have bG:=h_ hs;clear aO cg hP cU cW hi bM hs
 go_enter func201,ntmps201
 go_wp2_with (at_builtin;refine j4 rfl _ _ _ rfl base 313 bF _ 1 8 underlying208 bE bt a8 bo rfl d_ d_ s.OA s.os.length s.oc _ rfl aE.ho _ 1 1 _ rfl C (by intro u hu;simp at hu;subst hu;rfl) o_ aE.hz ?_;intro aG aC ae b5 bw _;have aj:=aE.push aG aC (L.hG bR) t b9 bw b5;have ai:=h_ aj;have f9:=aj.1.hH 9;have z9:ae.cell? (c_ g 9)=some (.slice s.OA s.os.length s.oc):=aj.1.f_ 9;clear aj)
 have d:lD base (ae.setCell (c_ g 9) (.slice aG (s.os.length+1) aC)) g (v.push aN):=⟨_,(by rw[<-bG.out];simp[GS.lg,iU.push]),ai.out.2.1⟩;have av:=(Gt.jC bR).trans ai.out.2.2;have az:=H.push aN;have aM:=GP.refl (v.push aN);have cQ:(v.push aN).l.length=v.l.length:=rfl;have b0:m9 W (v.push aN).pv:=bH;obtain⟨dL,cZ⟩:=nm_ (ae.setCell (c_ g 9) (.slice aG (s.os.length+1) aC));rw[<-cZ]at d av |-;clear cZ ai f9 z9 B aE C L R b9;replace bH:=b0;clear b0
 go_at_call 217
 refine(n9 base g _ _ d (ov aM.len) (λa ha=>by have:=az.ok.rT a.2 (GD ha);have:=aM.len;omega) (ov az.al)).mono ?_;rintro e dZ⟨rfl,N,cr⟩;have cK:=az.protect;have bU:=aM.trans (GP.protect _);have ay:=av.trans cr;clear d av cr;clear U ad ar aL ao aP z y;obtain⟨U,ad,ar,aL,ao,aP,z,y⟩:=(hB.gt ay d_).i0
 go_wp2_with fail
 go_at_call 137
 refine(b8 nb AB _ cB bs _ _ p _ rfl (ov cx.len) cx (cG.gt ay d_) (λu hu=>(cC u hu).gt ay d_ d_) (by rw[bU.pv];exact bH.gt ay) N (cK.le o_) (ov bU.len)).mono ?_;rintro e cN⟨rfl,v22,dY,cz,cw,dg,aK⟩;have aQ:=GK.of cK aK (dg.le (O_ _));have aZ:=bU.trans aK;have co:=ay.trans cw;clear N ay cw dg;obtain⟨l,is,hl,M⟩:=aZ.C1;have j:=aQ.ok.pP is (by rw[hl];simp);have dB:=aQ.ok.rT is (by rw[hl];simp);obtain⟨b7,a7,E⟩:=cz
 have aB:b7.os.map (λa=>(a.box,a.is))=l++[(aN,is)]:=by rw[<-hl,<-a7];rfl
 obtain⟨F,l1,af,bN,cA⟩:=List.map_eq_append_iff.1 aB
 obtain⟨a,rfl⟩:∃a,l1=[a]:=by
  cases l1 with
  |nil=>simp at cA
  |cons a l1=>
   cases l1 with
   |nil=>exact⟨a,rfl⟩
   |cons b l1=>simp at cA
 have am:b7.os.length=F.length+1:=by rw[af];simp
 have cj:=jf E.ho;have T:=E.DU F a af;have Z:Gt base gT cN (cN.setCell (c_ g 9) (.slice b7.OA F.length b7.oc)):=E.yW 9 _;obtain⟨go,_,A,_,_,_⟩:=kA E.ho o_;rw[A]at T Z
 have B:cN.cell? (c_ g 9)=some (.slice (j_ go) (F.length+1) b7.oc):=by have:=E.hg.f_ 9;unfold GS.g_ at this;rw[am,A]at this;exact this
 have f9:=E.hg.hH 9;obtain⟨m,hm⟩:=nm_ F.length;rw[am]at cj;have aq:=w6 E.ho;rw[<-hm]at B T Z cj;have cJ:IntKind.i64.wrap (m:Int)=m:=E2 _ (by unfold maxLen at aq;omega);have dE:(m:Int)<=b7.oc:=o_;have au:m<=b7.oc:=o_;have c9:=h_ a7;have c8:=h_ af;have dD:=h_ M;clear a7 af bN cA am A hm aB hl M E
 go_upto_region 5 with fail
 go_region
 go_upto_region 6 with fail
 clear B f9 cJ dE au
 have ag:lD base (cN.setCell (c_ g 9) (.slice (j_ go) m b7.oc)).drew g v22.pop:=⟨_,(by
  rw[<-c9.out];have aJ:b7.lg.ats=F.map (λa=>(a.box,a.is))++[(a.box,a.is)]:=(by show b7.os.map _=_;rw[c8.out];simp);unfold iU.pop;rw[aJ]
  simp[GS.lg]),T.hG (F_ [] _).drew⟩
 have X:=(co.trans Z).trans (.jC (F_ [] (cN.setCell (c_ g 9) (.slice (j_ go) m b7.oc))).drew:Gt base gT _ _);have aD:=H.Dc aZ (aQ.le (O_ _));have aR:=GP.refl v22.pop;have dH:v22.pop.l.length=v22.l.length:=rfl;have dI:=aZ.len;have c3:=aZ.pv;replace bH:m9 W v22.pop.pv:=(by show m9 W v22.pv;rw[c3];exact bH);clear c3;have b4:∀i∈is,0<=i/\i<v22.pop.l.length/\iA v22.pop.l i=17:=j;obtain⟨dM,c6⟩:=nm_ ((cN.setCell (c_ g 9) (.slice (j_ go) m b7.oc)).drew);rw[<-c6]at ag X |-;clear c6 T Z j;clear U ad ar aL ao aP z y;obtain⟨U,ad,ar,aL,ao,aP,z,y⟩:=(hB.gt X d_).i0
 go_wp2_with fail
 go_at_call 217
 refine(n9 base g _ _ ag (ov aR.len) (λa ha=>by have:=aD.ok.rT a.2 (GD ha);have:=aR.len;omega) (ov aD.al)).mono ?_;rintro e dN⟨rfl,bi,ce⟩;have di:=aD.protect;have bV:=aR.trans (GP.protect _);have br:=X.trans ce;clear ag X ce
 go_wp2_with fail
 go_at_call 138
 refine(ir base g _ _ _ _ _ _ _ bi (ov bV.len)).mono ?_;rintro e be⟨rfl,da,cf⟩;have aF:=di.vL 11 (.inl rfl);have aS:=bV.trans (GP.put _ ⟨11,0,0,0,0⟩);have bu:=br.trans cf;clear bi br cf;have dV:iA (iU.put v22.pop.protect ⟨11,0,0,0,0⟩).l v22.pop.protect.l.length=11:=ol _ _
 have ek:v22.pop.protect.l.length<(iU.put v22.pop.protect ⟨11,0,0,0,0⟩).l.length:=by simp[iU.put]
 have dt:(iU.put v22.pop.protect ⟨11,0,0,0,0⟩).rts=v.rts++[(aN,is)]:=dD.out
 have Y:∀i∈is,0<=i/\i<(iU.put v22.pop.protect ⟨11,0,0,0,0⟩).l.length/\iA (iU.put v22.pop.protect ⟨11,0,0,0,0⟩).l i=17:=λi hi=>by
  obtain⟨a1,G,a3⟩:=b4 i hi;have hk:=aS.kp;exact⟨a1,(ov hk.1),(hk.2 i G).trans a3⟩
 generalize dw:v22.pop.protect.l.length=k at*;generalize bq:iU.put v22.pop.protect ⟨11,0,0,0,0⟩=c at*;clear dw bq b4;obtain⟨ck,S,cR⟩:=da
 have cV:ck.rt.map (λa=>(a.box,a.is))=v.rts++[(aN,is)]:=by rw[<-dt,<-S];rfl
 obtain⟨f,aX,aY⟩:∃f∈ck.rt,(f.box,f.is)=(aN,is):=by
  have:(aN,is)∈ck.rt.map (λa=>(a.box,a.is)):=by rw[cV];simp
  obtain⟨f,h1,h2⟩:=EM.1 this;exact⟨f,h1,h2⟩
 have b6:f.box=aN:=ED Prod.fst aY;have a2:f.is=is:=ED Prod.snd aY;have cI:=(cR.hb f (E4 _ aX)).1;rw[b6,a2]at cI;have cT:=cR.hi f.row (by unfold GS.rows;simp only[L_];exact .inr (.inr (EM.2 ⟨f,E4 _ aX,rfl⟩)))
 have cS:Ns be 3 f.A is:=by
  have:=Sl.iT cT
  unfold At.row at this;simp only[a2]at this;exact this
 have c7:lD base be g c:=⟨ck,S,cR⟩;have dq:be.cell? (c_ aN 0)=some (.slice f.A is.length f.c):=cI.f_ 0;clear S cR cV aX aY b6 a2 cI cT
 go_wp2_with fail
 go_at_call 205
 refine(mA base g _ f.A is.length f.c is _ c7 (ov aS.len) cS rfl (λi hi=>⟨(Y i hi).1,(Y i hi).2.1⟩) o_).mono ?_;rintro e dO⟨rfl,dh,cn⟩;have aU:=aS.trans (GP.here _ is);have bA:=bu.trans cn;have aI:=aF.td is (λi hi=>(Y i hi).2.2);have cY:=aF.sb;have dn:iA (c.here is).l k=11:=(oe _ _ _ _).trans dV
 have dC:k<(c.here is).l.length:=by simp only[iU.here,i6];omega
 clear c7 dq cS cn bu aF Y
 go_wp2_with fail
 go_at_call 136
 refine(mx base g _ _ dh (ov aU.len) cY.1 (by have:=cY.2;have:=aU.len;show c.hF<=100000;simp only[iU.here,i6]at this;omega)).mono ?_;rintro e dP⟨rfl,bj,cp⟩;have aV:=aU.trans (GP.mark _);have aw:=bA.trans cp;have dW:=(((GP.mark (c.here is)).kp.2 _ o_)).trans dn;have d7:k<(c.here is).mark.l.length:=ov ((GP.mark (c.here is)).kp.1);generalize K:(c.here is).mark=o at*;clear K dh bA cp;clear U ad ar aL ao aP z y;obtain⟨U,ad,ar,aL,ao,aP,z,y⟩:=(hB.gt aw d_).i0
 go_wp2_with fail
 go_at_call 217
 refine(n9 base g _ _ bj (ov aV.len) (λa ha=>by have:=aI.ok.rT a.2 (GD ha);have:=aV.len;omega) (ov aI.al)).mono ?_;rintro e dR⟨rfl,bl,cq⟩;have dj:=aI.protect;have bW:=aV.trans (GP.protect _);have bI:=aw.trans cq;clear bj aw cq;have cO:=(GP.protect o).kp;generalize bB:o.protect=h at*;clear bB
 go_wp2_with fail
 go_at_call 138
 refine(ir base g _ _ _ _ _ _ _ bl (ov bW.len)).mono ?_;rintro e dS⟨rfl,ap,cu⟩;have bP:=dj.simp (x:=⟨18,0,0,0,0⟩) d_;have bX:=bW.trans (GP.put _ ⟨18,0,0,0,0⟩);have ax:=bI.trans cu;clear bl bI cu;clear U ad ar aL ao aP z y;obtain⟨U,ad,ar,aL,ao,aP,z,y⟩:=(hB.gt ax d_).i0
 go_wp2_with fail
 go_at_call 204
 refine(lh base g _ _ _ ap bP.v1).mono ?_;rintro e w1⟨r,bD,bJ,rfl,rfl⟩
 go_wp2_with fail
 go_at_call 138
 refine(ir base g _ _ _ _ _ _ _ ap (ov bX.len)).mono ?_;rintro e dT⟨rfl,bn,cy⟩;have bQ:=bP.simp (x:=⟨9,0,0,0,r⟩) (lz 0 r o_ o_ bD o_);have aW:=bX.trans (GP.put _ ⟨9,0,0,0,r⟩);have J:=ax.trans cy;clear ap ax cy;have bS:qS o.l (iU.put (iU.put h ⟨18,0,0,0,0⟩) ⟨9,0,0,0,r⟩).l:=(cO.trans (GP.put _ _).kp).trans (GP.put _ _).kp;generalize df:iU.put (iU.put h ⟨18,0,0,0,0⟩) ⟨9,0,0,0,r⟩=dK at*;clear df cO;clear U ad ar aL ao aP z y;obtain⟨U,ad,ar,aL,ao,aP,z,y⟩:=(hB.gt J d_).i0
 go_wp2_with fail
 go_at_call 137
 refine(b8 nl AL _ cL ls _ _ p _ rfl (ov cX.len) cX (dQ.gt J d_) (λu hu=>(dF u hu).gt J d_ d_) (by rw[aW.pv];exact bH.gt J) bn (bQ.le o_) (ov aW.len)).mono ?_;rintro e dz⟨rfl,dy,dJ,bp,cD,cM,a6⟩;have dk:=GK.of bQ a6 (cM.le (O_ _));have bY:=aW.trans a6;have bO:=J.trans cD;clear bn J cD cM;have ah:=bS.trans a6.kp;have dr:=(ah.2 _ o_).trans dW;have dG:k<dy.l.length:=ov ah.1;obtain⟨bL,O,ca,dx,cv,bK⟩:=box1 dz 3 #[i_ k];have bT:Ns bL 3 (j_ O) [(k:Int)]:=jj (n:=1) (s:=1) bK rfl;have cH:=bp.hG cv
 go_wp2_with fail
 go_at_call 205
 refine(mA base g _ _ 1 1 [(k:Int)] _ cH (ov bY.len) bT rfl (by intro i hi;simp at hi;subst hi;exact⟨o_,o_⟩) o_).mono ?_;rintro e dU⟨rfl,db,cF⟩;have dm:=dk.here k (.inl dr);have bZ:=bY.trans (GP.here _ [(k:Int)]);have de:=(bO.trans (.jC cv)).trans cF;clear bp bO cF cH bT ca dx cv bK;go_wp2;refine en_ ?_;rw[ak.out];have du:=bZ.rt.trans dD.out;exact⟨rfl,_,_,db.drop v.rts _ du,(Gt.jC hg).trans de,dm.Do _,(aZ.Cq bZ).le o_⟩
theorem wM(base g:Nat)(t:ST)(w:World)(R:Ending->World->Prop)(hk:t.h6=9)(hR:∀e w',R e w'->e=.returned ve)(h:∀W,Gr [] w W->Calls prog 201 #[q_ g,.agg t.g_] W R):Calls prog 175 #[q_ g,.agg t.g_] w R:=by
 refine ia λQ ak=>?_
 obtain⟨W,gx,aT,hx,hg,hB⟩:=box1 w 229 t.g_
 replace hB:Bk W gx 229 #[i_ 9,.string t.name,.string t.fn,i_ t.n,i_ t.op,.slice t.AE t.es.length t.cE,.slice t.AB t.bs.length t.cB,.slice t.AL t.ls.length t.cL]:=by rw[<-hk];exact hB
 obtain⟨U,ad,ar,aL,ao,aP,z,y⟩:=hB.i0;have aK:=h_ (h W hg);have bg:=h_ hR
 have hce:t.g_=#[i_ 9,.string t.name,.string t.fn,i_ t.n,i_ t.op,.slice t.AE t.es.length t.cE,.slice t.AB t.bs.length t.cB,.slice t.AL t.ls.length t.cL]:=by rw[<-hk];rfl
 have bi:=h_ hce;clear hk h hR hce
 go_enter func175,ntmps175
 go_wp2_with fail
 go_at_call 201
 rw[<-bi.out];refine aK.out.mono ?_;intro e w' hr;have he:=bg.out e w' hr;subst he;have a:=h_ hr;clear hr;go_wp2;refine rn_ ?_;rw[ak.out];exact a.out
theorem ru(base g:Nat)(k:Int)(t:ST)(w:World)(R:Ending->World->Prop)(cr:t.h6=k)(hk:k=5∨k=6)(hR:∀e w',R e w'->e=.returned ve)(h:∀W,Gr [] w W->Calls prog 202 #[q_ g,.agg t.g_] W R):Calls prog 175 #[q_ g,.agg t.g_] w R:=by
 refine ia λQ ak=>?_
 obtain⟨W,gx,aT,hx,hg,hB⟩:=box1 w 229 t.g_
 replace hB:Bk W gx 229 #[i_ k,.string t.name,.string t.fn,i_ t.n,i_ t.op,.slice t.AE t.es.length t.cE,.slice t.AB t.bs.length t.cB,.slice t.AL t.ls.length t.cL]:=by rw[<-cr];exact hB
 obtain⟨U,ad,ar,aL,ao,aP,z,y⟩:=hB.i0;have aK:=h_ (h W hg);have bg:=h_ hR
 have hce:t.g_=#[i_ k,.string t.name,.string t.fn,i_ t.n,i_ t.op,.slice t.AE t.es.length t.cE,.slice t.AB t.bs.length t.cB,.slice t.AL t.ls.length t.cL]:=by rw[<-cr];rfl
 have bi:=h_ hce;clear cr h hR hce
 rcases hk with rfl|rfl
 all_goals
  go_enter func175,ntmps175
  go_wp2_with fail
  go_at_call 202
  rw[<-bi.out];refine aK.out.mono ?_;intro e w' hr;have he:=bg.out e w' hr;subst he;have a:=h_ hr;clear hr;go_wp2;refine rn_ ?_;rw[ak.out];exact a.out
theorem oz.le{base g:Nat}{v:iU}{D n:Nat}{w:World}{e:Ending}(h:oz base g v D n w e w')(hn:n<=m):oz base g v D m w e w':=by
 obtain⟨h1,v',q',h2,h3,au,aq⟩:=h;exact⟨h1,v',q',h2,h3,au,aq.le hn⟩
theorem oz.gr{base g:Nat}{v:iU}{D n:Nat}{w w1:World}{e:Ending}(h:oz base g v D n w1 e w')(hg:Gr [] w w1):oz base g v D n w e w':=by
 obtain⟨h1,v',q',h2,h3,au,aq⟩:=h;exact⟨h1,v',q',h2,(Gt.jC hg).trans h3,au,aq⟩
theorem mP.Eq{x f:ByteArray}{n o:Int}{B L:Bool}(h:mP V 9 x f n o m B L):f=i4/\n=0/\o=0:=by cases h;exact⟨rfl,rfl,rfl⟩
theorem mP.Et{x f:ByteArray}{n o:Int}{B L:Bool}(h:mP V 5 x f n o m B L):f=i4/\n=0/\o=0/\m=2:=by cases h;exact⟨rfl,rfl,rfl,rfl⟩
theorem mP.Er{x f:ByteArray}{n o:Int}{B L:Bool}(h:mP V 6 x f n o m B L):x=i4/\f=i4/\n=0/\o=0/\m=1:=by cases h;exact⟨rfl,rfl,rfl,rfl,rfl⟩
theorem xJ(base g:Nat)(V:List ByteArray):∀D,B9 base g V D
 |0=>by
  intro N t v q p w bO;obtain⟨r,_,_,_,_,h,_⟩:=bO.one;omega
 |D+1=>by
  have b8:=uh base g V D (xJ base g V D);intro N t v q p w bO kh hP I H iM;obtain⟨r,nb,nl,B,L,hD,bt,bw,hB,hL,hes,hb,hl⟩:=bO.one;have d:r=D:=o_;subst d;obtain⟨p1,l,M,am,cz,X⟩:=kh.parts;obtain⟨k,x,f,n,o,AE,cE,es,AB,cB,bs,AL,cL,ls⟩:=t;simp only[ST.h6,ST.name,ST.fn,ST.n,ST.op,ST.es,ST.bs,ST.ls,ST.AE,ST.AB,ST.AL]at bw hB hL hes hb hl p1 l M am cz X
  by_cases aM:k=9
  .subst aM;have aK:=bw.Eq;obtain⟨rfl,rfl,rfl⟩:=aK
   refine wM base g _ w _ rfl (λe w' h=>h.1) λW hg=>?_
   refine(yk base g V r x AE cE es AB cB bs AL cL ls v q p W nb nl b8 hb hl (M.hG hg) (λu hu=>(am u hu).hG hg) (cz.hG hg) (λu hu=>(X u hu).hG hg) (hP.gt (.jC hg:Gt base gT w W)) (I.hG hg) H o_).mono λe w' h=>(h.gr hg).le o_
  .by_cases aq:k=5
   .subst aq;have aK:=bw.Et;obtain⟨rfl,rfl,rfl,da⟩:=aK
    obtain⟨aS,aJ,rfl⟩:∃aS aJ,es=[aS,aJ]:=by
     match es,da with
     |[aS,aJ],_=>exact⟨aS,aJ,rfl⟩
    refine ru base g 5 _ w _ rfl (.inl rfl) (λe w' h=>h.1) λW hg=>?_
    exact(Am base g V r x AE cE aS aJ AB cB bs AL cL ls v q p W nb b8 hb (M.hG hg) (λu hu=>(am u hu).hG hg) hes (p1.hG hg) (λu hu=>(l u hu).hG hg) (hP.gt (.jC hg:Gt base gT w W)) (I.hG hg) H o_).mono λe w' h=>(h.gr hg).le o_
   .by_cases aU:k=6
    .subst aU;have aK:=bw.Er;obtain⟨rfl,rfl,rfl,rfl,da⟩:=aK
     obtain⟨aS,rfl⟩:∃aS,es=[aS]:=by
      match es,da with
      |[aS],_=>exact⟨aS,rfl⟩
     refine ru base g 6 _ w _ rfl (.inr rfl) (λe w' h=>h.1) λW hg=>?_
     exact(xb base g V r i4 AE cE aS AB cB bs AL cL ls v q p W nb b8 hb (M.hG hg) (λu hu=>(am u hu).hG hg) hes (p1.hG hg) (λu hu=>(l u hu).hG hg) (hP.gt (.jC hg:Gt base gT w W)) (I.hG hg) H o_).mono λe w' h=>(h.gr hg).le o_
    .exact(vi base g V r k x f n o AE cE es AB cB bs AL cL ls v q p w B L nb nl b8 hb hl M am cz X bw aM aU aq hes p1 l hP I H o_).mono λe w' h=>h.le o_
theorem xd(base g:Nat)(V:List ByteArray)(D:Nat):uw base g V D:=uh base g V D (xJ base g V D)
theorem mX.Bn{base g:Nat}{w:World}{s:GS}(h:mX base w g s)(VA:OA)(vc:Nat)(vs:List ByteArray)(hv:Bs w VA vs):
 mX base (((w.setCell (c_ g 6) (.slice VA vs.length vc)).setCell (c_ g 7) (i_ 0)).setCell (c_ g 8) (i_ 0)) g {s with VA:=VA,vc:=vc,vs:=vs,hidden:=0,most:=0}/\Gt base gT w (((w.setCell (c_ g 6) (.slice VA vs.length vc)).setCell (c_ g 7) (i_ 0)).setCell (c_ g 8) (i_ 0)):=by
 have b1:=h.hg.hW 6 (.slice VA vs.length vc);have b2:=b1.hW 7 (i_ 0);have b3:=b2.hW 8 (i_ 0)
 have hk:∀e,e≠210->mH e w (((w.setCell (c_ g 6) (.slice VA vs.length vc)).setCell (c_ g 7) (i_ 0)).setCell (c_ g 8) (i_ 0)):=λe he=>((mH.set h.hg (Ne.symm he) _ _).trans (.set b1 (Ne.symm he) _ _)).trans (.set b2 (Ne.symm he) _ _)
 refine⟨⟨b3,h.hbg,(hk _ d_).own h.hl,(hk _ d_).own h.hc,(hk _ d_).own h.ho,λa ha=>⟨(hk 30 d_).bk (h.hb a ha).1,(h.hb a ha).2⟩,h.hbn,λr hr=>(hk 3 d_).own (h.hi r hr),h.kh,(hk 9 d_).sl hv,G_ h.hz (hk 9 d_).1⟩,((Gt.set h.hg h.hbg d_ _ _).trans (.set b1 h.hbg d_ _ _)).trans (.set b2 h.hbg d_ _ _)⟩
theorem mX.Dk{base g:Nat}{w:World}{s:GS}(h:mX base w g s)(hs:s.rt++s.os=[])(A':OA)(c':Nat)(i:Int)(bC:w.grownBy w' (Value.slice s.EA s.es.length s.ec).ownBlock)(aF:w'.ownsRow base 3 1 (.slice A' (s.es.length+1) c') (s.es.length+1) (s.es.map (i_)++[i_ i]))(o:(Value.slice A' (s.es.length+1) c').ownBlock=(Value.slice s.EA s.es.length s.ec).ownBlock∨(Value.slice A' (s.es.length+1) c').ownBlock=some w.heap.size):
 Bk w' g 210 s.g_/\mX base (w'.setCell (c_ g 3) (.slice A' (s.es.length+1) c')) g {s with EA:=A',ec:=c',es:=s.es++[i]}/\Gt base gT w (w'.setCell (c_ g 3) (.slice A' (s.es.length+1) c')):=by
 have aw:=h.hi (.slice s.EA s.es.length s.ec,s.es) (by simp[GS.rows]);have dz:=h.hi (.slice s.FA s.fs.length s.fc,s.fs) (by simp[GS.rows]);have kh:=h.kh
 have bD:s.rows=[(.slice s.EA s.es.length s.ec,s.es)]++[(.slice s.FA s.fs.length s.fc,s.fs)]:=by unfold GS.rows;rw[hs];rfl
 rw[bD,kb]at kh
 have ao:∀b,(Value.slice s.FA s.fs.length s.fc).ownBlock=some b->(Value.slice s.EA s.es.length s.ec).ownBlock≠some b:=λb hb=>kh.2 b hb (.slice s.EA s.es.length s.ec,s.es) s_
 have j:∀e,e≠3->mH e w w':=λe he=>.app bC aw (Ne.symm he)
 have c:=(j _ d_).bk h.hg
 have u:∀e,e≠210->mH e w' (w'.setCell (c_ g 3) (.slice A' (s.es.length+1) c')):=λe he=>.set c (Ne.symm he) _ _
 have hk:=λe h1 h2=>(j e h1).trans (u e h2)
 have bJ:GS.rows {s with EA:=A',ec:=c',es:=s.es++[i]}=[(.slice A' (s.es.length+1) c',s.es++[i])]++[(.slice s.FA s.fs.length s.fc,s.fs)]:=by unfold GS.rows;rw[hs];simp
 refine⟨c,⟨?_,h.hbg,(hk _ d_ d_).own h.hl,(hk _ d_ d_).own h.hc,(hk _ d_ d_).own h.ho,λa ha=>⟨(hk 30 d_ d_).bk (h.hb a ha).1,(h.hb a ha).2⟩,h.hbn,λr hr=>?_,?_,(hk 9 d_ d_).sl h.hv,G_ h.hz (hk 9 d_ d_).1⟩,(Gt.app bC aw d_).trans (.set c h.hbg d_ _ _)⟩
 .have:=c.hW 3 (.slice A' (s.es.length+1) c')
  exact LJ
 .rw[bJ]at hr;refine(u 3 d_).own ?_
  rcases X_.1 hr with hr|hr
  .have:r=(.slice A' (s.es.length+1) c',s.es++[i]):=zu hr
   subst this
   simpa using aF
  .have:r=(.slice s.FA s.fs.length s.fc,s.fs):=zu hr
   subst this
   exact nP dz (Gr.iX bC) λx hx he=>ao x he (jJ.1 hx)
 .rw[bJ,kb];refine⟨?_,λb hb r hr he=>?_⟩
  .simp only[List.filterMap_cons,List.filterMap_nil];split<;>simp
  .have:r=(.slice A' (s.es.length+1) c',s.es++[i]):=zu hr
   subst this
   rcases o with ho|ho
   .exact ao b hb (ho.symm.trans he)
   .have h1:=(ku dz hb).2
    have:some w.heap.size=some b:=ho.symm.trans he
    injection this;omega
theorem mX.Dj{base g:Nat}{w:World}{s:GS}(h:mX base w g s)(hs:s.rt++s.os=[])(A':OA)(c':Nat)(i:Int)(bC:w.grownBy w' (Value.slice s.FA s.fs.length s.fc).ownBlock)(aF:w'.ownsRow base 3 1 (.slice A' (s.fs.length+1) c') (s.fs.length+1) (s.fs.map (i_)++[i_ i]))(o:(Value.slice A' (s.fs.length+1) c').ownBlock=(Value.slice s.FA s.fs.length s.fc).ownBlock∨(Value.slice A' (s.fs.length+1) c').ownBlock=some w.heap.size):
 Bk w' g 210 s.g_/\mX base (w'.setCell (c_ g 4) (.slice A' (s.fs.length+1) c')) g {s with FA:=A',fc:=c',fs:=s.fs++[i]}/\Gt base gT w (w'.setCell (c_ g 4) (.slice A' (s.fs.length+1) c')):=by
 have aw:=h.hi (.slice s.FA s.fs.length s.fc,s.fs) (by simp[GS.rows]);have dM:=h.hi (.slice s.EA s.es.length s.ec,s.es) (by simp[GS.rows]);have kh:=h.kh
 have bD:s.rows=[(.slice s.EA s.es.length s.ec,s.es)]++[(.slice s.FA s.fs.length s.fc,s.fs)]:=by unfold GS.rows;rw[hs];rfl
 rw[bD,kb]at kh
 have ao:∀b,(Value.slice s.FA s.fs.length s.fc).ownBlock=some b->(Value.slice s.EA s.es.length s.ec).ownBlock≠some b:=λb hb=>kh.2 b hb (.slice s.EA s.es.length s.ec,s.es) s_
 have j:∀e,e≠3->mH e w w':=λe he=>.app bC aw (Ne.symm he)
 have c:=(j _ d_).bk h.hg
 have u:∀e,e≠210->mH e w' (w'.setCell (c_ g 4) (.slice A' (s.fs.length+1) c')):=λe he=>.set c (Ne.symm he) _ _
 have hk:=λe h1 h2=>(j e h1).trans (u e h2)
 have bJ:GS.rows {s with FA:=A',fc:=c',fs:=s.fs++[i]}=[(.slice s.EA s.es.length s.ec,s.es)]++[(.slice A' (s.fs.length+1) c',s.fs++[i])]:=by unfold GS.rows;rw[hs];simp
 refine⟨c,⟨?_,h.hbg,(hk _ d_ d_).own h.hl,(hk _ d_ d_).own h.hc,(hk _ d_ d_).own h.ho,λa ha=>⟨(hk 30 d_ d_).bk (h.hb a ha).1,(h.hb a ha).2⟩,h.hbn,λr hr=>?_,?_,(hk 9 d_ d_).sl h.hv,G_ h.hz (hk 9 d_ d_).1⟩,(Gt.app bC aw d_).trans (.set c h.hbg d_ _ _)⟩
 .have:=c.hW 4 (.slice A' (s.fs.length+1) c')
  exact LJ
 .rw[bJ]at hr;refine(u 3 d_).own ?_
  rcases X_.1 hr with hr|hr
  .have:r=(.slice s.EA s.es.length s.ec,s.es):=zu hr
   subst this
   exact nP dM (Gr.iX bC) λx hx he=>ao x (jJ.1 hx) he
  .have:r=(.slice A' (s.fs.length+1) c',s.fs++[i]):=zu hr
   subst this
   simpa using aF
 .rw[bJ,kb];refine⟨kh.1,λb hb r hr he=>?_⟩
  have:r=(.slice s.EA s.es.length s.ec,s.es):=zu hr
  subst this
  rcases o with ho|ho
  .exact ao b (ho.symm.trans hb) he
  .have h1:=(ku dM he).2
   have:some w.heap.size=some b:=ho.symm.trans hb
   injection this;omega
theorem oU.first:oU [⟨21,0,0,0,0⟩] 1 [] [] 0 where
 code:=⟨d_,λi hi=>by
  have:i=0:=zu hi
  subst this
  show PF _ _ _ (⟨21,0,0,0,0⟩:In)
  unfold PF;rw[Q_ d_,Q_ d_]
  decide,d_⟩
 wL:=by decide
 cs1:=λp hp=>by cases hp
 cs2:=λi hi e=>by
  have:i=0:=zu hi
  subst this;simp at e
 pP:=λa ha=>by cases ha
 q:=by decide
 zh:=by decide
 rT:=λa ha=>by cases ha
structure BY(k:Nat)(pv:Value)(n:Nat)(v:iU):Prop where
 pv:v.pv=pv
 el:v.es.length=k
 fl:v.fs.length=k
 e21:∀e∈v.es,0<=e/\e<v.l.length/\iA v.l e=21
 f64:∀f∈v.fs,2<=f/\f<=64
 len:v.l.length<=n
 ats:v.ats=[]
 rts:v.rts=[]
 ok:(k=0/\v.l=[]/\v.hF=0/\v.cs=[])∨∃q,oU v.l v.hF v.cs [] q/\q<v.l.length/\iA v.l ((v.l.length:Int)-1)=14
theorem BY.mark{k n:Nat}{pv:Value}{v:iU}(h:BY k pv n v):oU v.mark.l v.mark.hF v.mark.cs [] v.l.length/\0<=v.hF/\v.hF<=n:=by
 rcases h.ok with⟨_,h1,h2,h3⟩|⟨q,h1,h2,_⟩
 .have:=oU.first
  unfold iU.mark;rw[h1,h2,h3];exact⟨this,o_,o_⟩
 .refine⟨h1.mark,?_,?_⟩
  .rw[h1.wL];unfold jG;omega
  .rw[h1.wL];unfold jG
   have:=Fl (λi:In=>i.op==21) v.l
   have:=h.len
   omega
theorem BY.next{k n n' D:Nat}{pv:Value}{v t a:iU}{q:Int}(h:BY k pv n v)(et:qS v.l t.l)(eA:iA t.l v.l.length=21)(eu:t.l.length=v.l.length+1)(dH:t.es=v.es++[(v.l.length:Int)])(dJ:t.fs=v.fs)(c7:t.pv=pv)(j:t.ats=[])(M:t.rts=[])(P:GP t a m)(H:GK a q D)(am:q<a.l.length)(cu:iA a.l ((a.l.length:Int)-1)=14)(u:Int)(hu:2<=u/\u<=64)(hn:n+1+m<=n'):BY (k+1) pv n' {a with fs:=a.fs++[u]}:=by
 have ha:=by have h1:=P.pP;rw[j]at h1;simpa using h1
 refine⟨P.pv.trans c7,?_,?_,?_,?_,?_,ha,P.rt.trans M,.inr ⟨q,?_,am,cu⟩⟩
 .show a.es.length=k+1
  rw[P.es,dH,J_,h.el]
  rfl
 .show(a.fs++[u]).length=k+1
  rw[J_,P.fs,dJ,h.fl]
  rfl
 .show ∀e∈a.es,0<=e/\e<a.l.length/\iA a.l e=21
  rw[P.es,dH];have bM:=P.kp;intro e he
  rcases X_.1 he with he|he
  .obtain⟨h1,h2,h3⟩:=h.e21 e he;have aq:=bM.1;exact⟨h1,o_,(bM.2 e o_).trans ((et.2 e h2).trans h3)⟩
  .have:e=(v.l.length:Int):=zu he
   subst this;have aq:=bM.1;exact⟨o_,o_,(bM.2 _ o_).trans eA⟩
 .show ∀f∈a.fs++[u],2<=f/\f<=64
  intro f hf
  rcases X_.1 hf with hf|hf
  .rw[P.fs,dJ]at hf;exact h.f64 f hf
  .have:f=u:=zu hf
   subst this;exact hu
 .show a.l.length<=n'
  have:=P.len
  have:=h.len
  omega
 .have:=H.ok
  rw[ha]at this;exact this
def pe(v:Int)(l:List In)(i:Nat):List In:=l.modify i λx=>⟨x.op,x.a,x.b,v,x.n⟩
theorem yv(i:Nat):(pe v l i).length=l.length:=by simp[pe]
theorem yu(hk:k<l.length):pe v l k=l.set k ⟨l[k].op,l[k].a,l[k].b,v,l[k].n⟩:=by
 refine F7 (by simp[pe]) λi h1 h2=>?_
 simp only[pe,Fy,List.getElem_set];split
 .rename_i h;subst h
  rfl
 .rfl
theorem uL(hk:k<l.length):(lP l).set (k*5+3) (i_ v)=lP (pe v l k):=by
 rw[yu v l k hk];exact pu In.E 5 (λ_=>rfl) l k 3 _ _ hk o_ rfl
theorem yJ(es fs:List Int)(l:List In)(i f:Nat):pe (fs.getD f 0) (l6 (es.getD f 0) l i) i=j5 es fs l ((i:Int),(f:Int)):=by
 refine F7 (by simp[pe,l6,j5]) λk h1 h2=>?_
 simp only[pe,l6,j5,Fy,Fi];split<;>rfl
theorem ints_at(l:List Int)(k:Nat)(h:k<l.length):(l.map (Value.int .i64))[k]?=some (i_ (l.getD k 0)):=by
 simp[E7,h]
section
variable{base g:Nat}{w:World}{s:GS}
theorem mX.qa(h:mX base w g s){f:Nat}(hl:s.l.length=m)(hi:i<m)(he:s.es.length=3)(hf:s.fs.length=3)(z:f<3):
 ∃G cI ao lc ec fc cur,s.L=some (c_ G 0)/\base<=G/\Bk w G 189 cur/\w.cell? (c_ g 1)=some (.slice (j_ G) m lc)/\w.cell? (c_ g 3)=some (.slice (j_ cI) 3 ec)/\w.cell? (c_ g 4)=some (.slice (j_ ao) 3 fc)/\
  w.cell? (c_ cI f)=some (i_ (s.es.getD f 0))/\w.cell? (c_ ao f)=some (i_ (s.fs.getD f 0))/\(∃o,w.cell? (c_ G (i*5+4))=some (i_ o))/\∃o,w.cell? (c_ G (i*5+3))=some (i_ o):=by
 obtain⟨G,cur,aL,cO,ae,t⟩:=kA h.hl o_;obtain⟨cI,e,a,_,be,b⟩:=kA (h.hi (.slice s.EA s.es.length s.ec,s.es) (by simp[GS.rows])) o_;obtain⟨ao,j,k,_,aI,d⟩:=kA (h.hi (.slice s.FA s.fs.length s.fc,s.fs) (by simp[GS.rows])) o_;refine⟨G,cI,ao,s.lc,s.ec,s.fc,cur,aL,cO,ae,?_,?_,?_,?_,?_,⟨(s.l[i]'o_).n,?_⟩,⟨(s.l[i]'o_).c,?_⟩⟩
 .exact(h.hg.f_ 1).trans (by show some (Value.slice s.L s.l.length s.lc)=_;rw[aL,hl])
 .exact(h.hg.f_ 3).trans (by show some (Value.slice s.EA s.es.length s.ec)=_;rw[a,he])
 .exact(h.hg.f_ 4).trans (by show some (Value.slice s.FA s.fs.length s.fc)=_;rw[k,hf])
 .exact(be.f_ f).trans (b _ _ (ints_at s.es f o_))
 .exact(aI.f_ f).trans (d _ _ (ints_at s.fs f o_))
 .exact(ae.f_ _).trans (t _ _ ((jh In.E 5 (λ_=>rfl) s.l i 4 o_ o_).trans rfl))
 .exact(ae.f_ _).trans (t _ _ ((jh In.E 5 (λ_=>rfl) s.l i 3 o_ o_).trans rfl))
theorem mX.zE(h:mX base w g s){G:Nat}(hL:s.L=some (c_ G 0))(hB:Bk w G 189 cur){k:Nat}{u:Value}{l:List In}(iM:l.length=s.l.length)(e:(lP s.l).set (i*5+k) u=lP l):
 mX base (w.setCell (c_ G (i*5+k)) u) g {s with l:=l}:=by
 have a:∀e,e≠189->mH e w (w.setCell (c_ G (i*5+k)) u):=λe he=>.set hB (Ne.symm he) _ _
 have a7:=h.hl;rw[hL]at a7;have C:=xR a7 (i*5+k) u;rw[e]at C
 have j:s.g_=GS.g_ {s with l:=l}:=by unfold GS.g_;simp only[iM]
 exact h.rP (L:=s.L) (lc:=s.lc) (l:=l) (hF:=s.hF) (hidden:=s.hidden) (most:=s.most) (by rw[<-j];exact(a _ d_).bk h.hg) (by rw[hL,iM];exact C) λe he=>a e (by rintro rfl;revert he;decide)
theorem mX.Ct(h:mX base w g s){G:Nat}(hL:s.L=some (c_ G 0))(hB:Bk w G 189 cur)(hi:i<s.l.length)(u:Int):
 mX base (w.setCell (c_ G (i*5+4)) (i_ u)) g {s with l:=l6 u s.l i}:=h.zE hL hB (lA _ _ _) (qE u s.l i hi)
theorem mX.Cu(h:mX base w g s){G:Nat}(hL:s.L=some (c_ G 0))(hB:Bk w G 189 cur)(hi:i<s.l.length)(u:Int):
 mX base (w.setCell (c_ G (i*5+3)) (i_ u)) g {s with l:=pe u s.l i}:=h.zE hL hB (yv _ _ _) (uL u s.l i hi)
end
end Go.Proofs.YtenbhdilndfaeaaGreat
