import Derived.Test.YtenbhdilndfaeaaGreatH20
import Derived.Test.YtenbhdilndfaeaaGreatH29
set_option maxRecDepth 100000
set_option maxHeartbeats 0
set_option linter.all false
namespace Go.Proofs.YtenbhdilndfaeaaGreat
open Go.RowKit Go.Proofs.Tryz
variable{G:Prop}{w:World}{n:Nat}{view:QQ}(PA:Option Addr)
def Lt(h:G:=by
 rcases hx with hb|hx
 have hk:(hO x).1.hM=true:=by unfold hO iv;simp[hb]
 exact⟨.inl hk,λh=>by rw[hk]at h;cases h⟩;exact hx.frame):G:=h
def LA(h:G:=by
 have hk:(hQ x id f).1.hM=true:=by
  unfold hQ;split;rfl;split<;>exact hb
 exact⟨.inl hk,λh=>by rw[hk]at h;cases h⟩):G:=h
def ML(h:G:=by
 cases hb:z.1.hM with
 |true=>exact .inl hb
 |false=>exact be.reg _ _ λ_=>(bu hb).2):G:=h
def MX(h:G:=by
 rcases h1 with h|h
 exact .inl h;exact .inr<|h.write _ _ _ (.inr rfl) hv):G:=h
def Nq(h:G:=by
 show((s.ia++t.ia).length:Int)<=((k+1:Nat):Int)*500000;rw[M_];omega):G:=h
def NG(h:G:=by
 exact⟨XO.fault (.inr hx) _,hx.zero⟩):G:=h
def NI(h:G:=by
 show s.hK+1<=((k+1:Nat):Int)*3001;omega):G:=h
def NP(h:G:=by
 show s.jC<=((k+1:Nat):Int);omega):G:=h
def Fz(w:World)(e:Ending)(w':World):Prop:=∃(A:OA) (c:Nat) (l:QR) (hH hC:Int),e=.returned (.tuple #[.agg #[.slice A l.length c,Y hH,Y hC],Y 0])/\Is w' A l/\ih l hH hC=true/\l.length<=c/\J [] w w'
def GS.zero(PA:Option Addr)(c:Nat):GS:=⟨.slice PA 3 c,none,0,[],none,0,[],0,none,0,[],none,0,[],none,0,[],0,0,none,0,[],[]⟩
def ny.new(w:World)(PA:Option Addr)(c:Nat):ny w.heap.size (w.alloc<|.cells #[.slice PA 3 c,n_,Y 0,n_,n_,n_,n_,Y 0,Y 0,n_] 210) w.heap.size (GS.zero PA c):=by
 refine⟨T_ w 210 #[.slice PA 3 c,n_,Y 0,n_,n_,n_,n_,Y 0,Y 0,n_],I_ _,i4 _ _ _ _,i4 _ _ _ _,i4 _ _ _ _,λf a=>(by cases a),IL,λe b=>?_,by simp[GS.zero,GS.rows,Value.ownBlock],HB _ _ _ _,by simp⟩;have:e=(n_,[]):=by simpa[GS.zero,GS.rows]using b
 subst this;exact i4 _ _ _ _
def DJ.zero(c:Nat):DJ 0 (.slice PA 3 c) 0 (GS.zero PA c).lg:=
 ⟨rfl,rfl,rfl,λb a=>(by cases a),λb a=>(by cases a),I_ _,rfl,rfl,.inl ⟨rfl,rfl,rfl,rfl⟩⟩
def uH(Ns:QY)(k:Nat):Nat:=30*(Ns.take k).sum+3*k
def Ak{q:Nat->Prop}{PA:OA}(c:Nat){fs:QG}(Ns:QY)(w:World)(ak:CG q w PA fs Ns):
 Calls prog 88 #[.agg #[.slice PA 3 c]] w (Fz w):=by
 refine ig λal ax=>?_;obtain⟨bM,bK,bC,be,bu⟩:=info_parts infoInt;obtain⟨an,gx,D,aW,hx,e2,hg,hB,hR⟩:=uN w 150 #[.slice PA 3 c] 26 #[n_,Y 0,Y 0];have aA:an.cell? (Z gx 0)=some (.slice PA 3 c):=hB.f_ 0;have L:=O<|ak.hF hg;clear ak;go_enter func88,ntmps88;go_wp2_with fail;go_at_call 134;refine(xq q PA c fs Ns an L.out).mono ?_;rintro e w2⟨rfl,W⟩;have af:w2.cell? (Z gx 0)=some (.slice PA 3 c):=(hB.hF W).f_ 0;have eM:=O<|ny.new w2 PA c;have bd:=(G_ [] w2).alloc<|.cells #[.slice PA 3 c,n_,Y 0,n_,n_,n_,n_,Y 0,Y 0,n_] 210;obtain⟨aj,b,cy,dT,_,_⟩:=box1 w2 210 #[.slice PA 3 c,n_,Y 0,n_,n_,n_,n_,Y 0,Y 0,n_];rw[cy,dT]at eM;rw[cy]at bd;have ay:aj.cell? (Z gx 0)=some (.slice PA 3 c):=(hB.hF<|W.trans bd).f_ 0;clear aA;go_upto_region 6 with fail;have dD:=L.out.pc;have eT:nD aj (.slice PA 3 c):=⟨PA,c,fs,rfl,dD.len,Sl.hF dD.hfs<|W.trans bd,dD.i1,dD.i2⟩;have fB:=O eT;have dx:=O<|L.out.hF<|W.trans bd;have bJ:=hB.hF<|W.trans bd;have cz:=hR.hF<|W.trans bd;have fM:=hg.trans<|W.trans bd;have f3:=O dT;have ek:w2.heap.size<=b:=by omega
 have e5:w.heap.size<=b/\w.heap.size<=D:=by have C:=hg.size;have y:=W.size;omega
 have f0:=O cy;clear dD eT af ay aW hx e2 cy dT hB hR hg W;have bH:lQ b aj b (GS.zero PA c).lg:=⟨_,rfl,eM.out⟩;go_loopw [25] (λap w'=>∃(g:Nat) (a:i3),g<=3/\ap=Y g/\lQ b w' b a/\DJ g (.slice PA 3 c) (uH Ns g) a/\Gt b gT aj w') (λap _=>3-(intOf ap).toNat)
 case atStart=>exact⟨0,_,X,gn,bH,DJ.zero PA c,.refl _ _ _⟩
 obtain⟨g,a,hk,rfl,N2,hL,N⟩:=hrel;clear bH;by_cases ag:g<3
 .have E:g<fs.length:=ov L.out.pg.len;have ai:g<Ns.length:=ov L.out.pg.nl;have hfs:=Sl.gt dx.out.pg.hfs N I;obtain⟨bf,off,hA,z0,aM,aU⟩:=CK.at_ hfs E;have bh:=(dx.out.pg.rd _<|P_ E).gt N I I I;obtain⟨_,aK,bV⟩:=L.out.pg.nm _<|P_ E;have bW:=L.out.pg.sg g E ai;have bj:=L.out.vs g E ai;obtain⟨d0,eG⟩:=pJ Ns g ai;have cD:=L.out.pg.sum;have ea:Ns[g]<=64:=X;have hls:uH Ns (g+1)=uH Ns g+30*Ns[g]+3:=by unfold uH;omega
  have gh:uH Ns (g+1)<=2048:=by unfold uH;omega
  obtain⟨f,hf⟩:=nm_<|fs[g];obtain⟨bm,bv⟩:=nm_<|Ns[g];rw[<-hf]at z0 aM aU bh aK bV bW bj;rw[<-bv]at bW bj ea hls;have iS:=hL.len;have bO:uH Ns g<=2048:=X;have em:decide ((g:Int)<3)=true:=p_;have ca:wr.cell? (Z gx 0)=some (.slice PA 3 c):=(bJ.gt N I).f_ 0;have bx:=O bh;have bB:=O aK;have cY:=O bW;have cq:=O bj;have t:=O hL;have eN:=O hls;have ad:=O hf;have fa:=O hA;obtain⟨a7,S,cx,bI,b5,bP⟩:=box1 wr 213 #[.string f.name,.slice f.AP f.ps.length f.cP,.slice f.A f.bs.length f.c];obtain⟨cG,az,eX⟩:=bP.nW;rw[hA];have aL:=O<|tB iq (by rw[sY];decide) 5 bm f q a7 (bx.out.hF b5) cY.out X bB.out X;obtain⟨s,u,z⟩:=N2;have ao:=O u;have fo:=O z;clear hf bv bh aK bW bj hL hls hA d0 eG cD hfs u z;go_wp2_with fail;refine aL.out.mono ?_;rintro e o⟨a6,c5,vs,rfl,bG,ew,eF,eB,ey,M⟩;have cp:vs.length<=9:=by have h:=lE vs iq ew eF;rw[sY]at h;exact h
  have ct:=b5.trans M;have K:=fo.out.hF ct;have aI:o.cell? (Z b 6)=some (.slice s.VA s.vs.length s.vc):=K.hg.f_ 6;have br:o.cell? (Z b 7)=some (Y s.hidden):=K.hg.f_ 7;have cM:o.cell? (Z b 8)=some (Y s.most):=K.hg.f_ 8;have dR:=K.hg.hG 6;have f7:=K.hg.hG 7;have f8:=K.hg.hG 8;clear cG az eX z0 aM aU ca;go_upto_region 9 with fail;obtain⟨U,aD⟩:=K.C1 a6 c5 vs bG;obtain⟨aB,cF⟩:=nm_<|((o.setCell (Z b 6)<|.slice a6 vs.length c5).setCell (Z b 7)<|Y 0).setCell (Z b 8)<|Y 0;rw[<-cF]at U aD |-;clear cF aI br cM dR f7 f8 K;obtain⟨j,eE⟩:=nm_<|{s with VA:=a6,vc:=c5,vs:=vs,hidden:=0,most:=0};rw[<-eE]at U
  have c7:j.lg={a with vs:=vs,hidden:=0,most:=0}:=by rw[eE,<-ao.out];rfl
  have cg:=(bP.hF M).gt aD I;have dm:=(N.trans<|.jS ct).trans aD;have fT:j.rt++j.os=[]:=by
   have C:j.os.map (λH=>(H.box,H.is))=[]:=(GG i3.ats c7).trans t.out.ats;have y:j.rt.map (λH=>(H.box,H.is))=[]:=(GG i3.rts c7).trans t.out.rts;rw[List.map_eq_nil_iff]at C y;rw[C,y];rfl
  have ev:j.l=a.l:=GG i3.l c7;have dZ:j.hC=a.hC:=GG i3.hC c7;have eh:j.es=a.es:=GG i3.es c7;have d5:=O t.out.mark;have e0:j.l.length<=100000:=by rw[ev];omega
  have fU:0<=j.hC:=by rw[dZ];exact d5.out.2.1
  have fV:j.hC<=100000:=by rw[dZ];have:=d5.out.2.2;omega
  have ga:j.es.length<=3:=by rw[eh,t.out.el];omega
  have fE:=O c7;have fA:=O ev;have fF:=O dZ;have fj:=O eh;clear eE c7 ev dZ eh;have z3:aB.cell? (Z b 3)=some (.slice j.EA j.es.length j.ec):=U.hg.f_ 3;refine hS (λw'=>w'.cell? (Z b 3)=some (.slice j.EA j.es.length j.ec)) 11 k_ ?_;refine m6 (z3) λm=>?_;repeat refine j8 m ?_
  refine h4 6 λr k=>?_;go_simp;go_at_call 136;refine(sG b b j aB.drew (U.hF (G_ [] _).drew) e0 fU fV).mono ?_;rintro e Q⟨fx,gk,rfl,c3,aO,eZ⟩;clear m;refine hZ k (c3.hg.f_ 3) λm=>?_;clear k r z3;try simp only[a_]
  refine h4 7 λr k=>?_;go_simp;refine k.out _ _ (λ_=>jJ m _) ?_;clear k r m;have bi:Sl (Q.alloc<|.cells #[Y j.l.length] 3) 3 1 (j_ Q.heap.size) 1 [Y j.l.length]:=jv (n:=1) (s:=1) (T_ Q 3 _) rfl;have cO:=c3.hF<|(G_ [] Q).alloc<|.cells #[Y j.l.length] 3;have dn:=((dm.trans<|.jS (G_ [] aB).drew).trans aO).trans<|.jS<|(G_ [] Q).alloc<|.cells #[Y j.l.length] 3;have NZ:=(cg.drew.gt aO I).alloc<|.cells #[Y j.l.length] 3;obtain⟨bA,dj⟩:=nm_<|Q.alloc<|.cells #[Y j.l.length] 3;rw[<-dj]at bi cO dn NZ |-;clear dj c3;have dK:=cO.hi (.slice j.EA j.es.length j.ec,j.es) (by simp[GS.rows])
  try simp only[a_]
  refine h4 8 λr k=>?_;refine oH rfl (.tmp 44) (.tmp 47) 30 rfl b 3 bM 1 8 underlying30 bK bC be bu rfl I I j.EA j.es.length j.ec rfl dK 1 1 rfl bi (by intro B hu;simp at hu;subst hu;rfl) X cO.hz ?_;intro cU cJ N0 dg dI eA;obtain⟨dP,cZ,cR⟩:=cO.Fg fT cU cJ _ dI dg eA;have bz:=(mZ.app (e:=213) dI dK I).bk NZ;refine hZ k (dP.f_ 3) λm=>?_;clear k r;(repeat refine j8 m ?_);have dt:=dP.hG 3;refine h4 11 λr k=>?_;go_simp;refine k.out _ _ (λh=>GR h I) ?_;clear k r dt;refine hN k_ ?_ _;have eO:=bz.ir (p:=(Z b 3)) (bz.mm dP I)<|.slice cU (j.es.length+1) cJ;obtain⟨cT,e3⟩:=nm_<|N0.setCell (Z b 3)<|.slice cU (j.es.length+1) cJ;rw[<-e3]at cZ cR eO |-;have ej:=dn.trans cR;clear e3 m dP cO U bz dn dm;obtain⟨F,v⟩:=nm_ ({a with vs:=vs,hidden:=0,most:=0,l:=a.l++[⟨21,0,0,0,a.hC⟩],hC:=a.hC+1,es:=a.es++[(a.l.length:Int)]}:i3)
  have h10:lQ b cT b F:=⟨_,(by
   rw[v,<-fA.out,<-fF.out,<-fj.out];have e:=fE.out;unfold GS.lg at e |-;simp only[i3.mk.injEq]at e |-
   exact⟨e.1,e.2.1,trivial,trivial,trivial,e.2.2.2.2.2.1,e.2.2.2.2.2.2.1,e.2.2.2.2.2.2.2.1,e.2.2.2.2.2.2.2.2⟩),cZ⟩
  obtain⟨cb,bF,bD,fL,dY,eb⟩:=cq.out;have fW:2<=vs.length:=H_ bD<|lE cb vs fL<|eb vs ey eB;have et:F.l.length=a.l.length+1:=by rw[v];simp
  have dN:F.ats=[]:=by rw[v];exact t.out.ats
  have e1:F.rts=[]:=by rw[v];exact t.out.rts
  have eC:F.pv=.slice PA 3 c:=by rw[v];exact t.out.pv
  have cw:GK F a.l.length 5:=⟨by rw[dN,v];exact d5.out.1,by rw[v];exact Hl _,(by rw[v];show(0:Int)+((5:Nat):Int)<=10;decide),by rw[v];exact Hl _,(by rw[v];show(0:Int)<=10;decide),by rw[v];exact fW,by rw[v];exact cp,by rw[dN];decide⟩;have er:rI a.l F.l:=by rw[v];exact rI.app _ _
  have ez:iG F.l a.l.length=21:=by rw[v];exact mD _ _ _
  have dE:F.es=a.es++[(a.l.length:Int)]:=by rw[v]
  have dG:F.fs=a.fs:=by rw[v]
  have dX:=(dx.out.pg.rd _<|P_ E).gt ej I I I;rw[<-ad.out]at dX;have hbl:=dY.len;obtain⟨aR,A,P⟩:=eO.nW;have fu:=O et;have eK:=O dN;have dz:=O e1;have fh:=O dE;have eL:=O dG;have db:=O eC;have eu:F.l.length+30*bm+2<=2048:=ov eN.out;have fy:=O<|yy b b cb 5 bm f.A _ f.c f.bs F _ q cT rfl X dY dX.hb dX.hs (by rw[eC];exact fB.out.gt ej) h10 cw X;clear v et dN e1 eC dE dG dX h10 cZ;go_wp2_with fail;go_at_call 137;refine fy.out.mono ?_;rintro e c9⟨rfl,e6,gm,ch,aG,fJ,eR⟩;have eP:=ej.trans aG;go_wp2_with fail;go_at_call 138;refine(iB b b _ ch<|ov eR.len).mono ?_;rintro e fY⟨rfl,cv,cC⟩;have fK:=fJ.simp (x:=⟨1,0,0,0,0⟩) I;have eS:=eR.trans<|GP.put _ ⟨1,0,0,0,0⟩;have eQ:=eP.trans cC;clear ch eP cC;go_wp2_with fail;go_at_call 138;refine(iB b b _ cv<|ov eS.len).mono ?_;rintro e V⟨rfl,h13,dk⟩;have dB:=fK.simp (x:=⟨14,0,0,0,0⟩) I;have dC:=eS.trans<|GP.put _ ⟨14,0,0,0,0⟩;have fI:=eQ.trans dk;clear cv eQ dk;obtain⟨d,c6,dJ⟩:=h13;have f9:=dC;have ed:d.os.map (λH=>(H.box,H.is))=[]:=by
   have C:=dC.qt;rw[eK.out]at C;have y:d.lg.ats.map (·.1)=[]:=by rw[c6];simpa using C
   have h3:d.lg.ats=[]:=zu y;exact h3
  have eD:d.rt.map (λH=>(H.box,H.is))=[]:=by
   have C:=dC.rt;rw[dz.out]at C;have y:d.lg.rts=[]:=by rw[c6];exact C
   exact y
  have fS:d.rt++d.os=[]:=by
   rw[List.map_eq_nil_iff]at ed eD;rw[ed,eD];rfl
  have b9:d.vs.length<=9/\2<=d.vs.length:=by
   have e:d.lg.vs=d.vs:=rfl;rw[<-e,c6];exact⟨dB.v1,dB.v0⟩
  have gj:0<=d.most/\d.most<=10:=by
   have e:d.lg.most=d.most:=rfl;rw[<-e,c6];exact⟨dB.m0,dB.m1⟩
  have co:d.fs.length<=3:=by
   have e:d.lg.fs=a.fs:=by rw[c6,dC.fs,eL.out]
   have av:d.fs=a.fs:=e;rw[av,t.out.fl];omega
  have fD:=O c6;have z4:V.cell? (Z b 4)=some (.slice d.FA d.fs.length d.fc):=dJ.hg.f_ 4;have cj:V.cell? (Z b 6)=some (.slice d.VA d.vs.length d.vc):=dJ.hg.f_ 6;have e7:V.cell? (Z b 8)=some (Y d.most):=dJ.hg.f_ 8;have dw:=dJ.hi (.slice d.FA d.fs.length d.fc,d.fs) (by simp[GS.rows]);have cD:IntKind.i64.wrap ((d.vs.length:Int)+d.most)=(d.vs.length:Int)+d.most:=G9 _ X;clear c6 ed eD aR A P;go_upto_region 13 with fail;refine hS (λw'=>w'.cell? (Z b 4)=some (.slice d.FA d.fs.length d.fc)/\w'.cell? (Z b 6)=some (.slice d.VA d.vs.length d.vc)/\w'.cell? (Z b 8)=some (Y d.most)) 19 k_ ?_;refine m6 ⟨z4,cj,e7⟩ λm=>?_;repeat refine j8 m ?_
  refine h4 15 λr k=>?_;go_simp;refine k.out _ _ (λ_=>⟨jJ m.1 _,jJ m.2.1 _,jJ m.2.2 _⟩) ?_;clear k r m z4 cj e7 cD;obtain⟨B,hu⟩:=nm_<|(d.vs.length:Int)+d.most;rw[<-hu];have dL:2<=B/\B<=64:=X;have b6:=O hu;clear hu;have bi:Sl (V.alloc<|.cells #[Y B] 3).drew 3 1 (j_ V.heap.size) 1 [Y B]:=(jv (n:=1) (s:=1) (T_ V 3 _) rfl:Sl (V.alloc<|.cells #[Y B] 3) 3 1 (j_ V.heap.size) 1 [Y B]).drew;have dU:=((G_ [] V).alloc<|.cells #[Y B] 3).drew;obtain⟨gp,e4⟩:=nm_<|(V.alloc<|.cells #[Y B] 3).drew;rw[<-e4]at bi dU |-;clear e4;have eY:=dJ.hF dU;have dw:=iO dw dU
  try simp only[a_]
  refine h4 16 λr k=>?_;refine oH rfl (.tmp 63) (.tmp 74) 30 rfl b 3 bM 1 8 underlying30 bK bC be bu rfl I I d.FA d.fs.length d.fc rfl dw 1 1 rfl bi (by intro B hu;simp at hu;subst hu;rfl) X eY.hz ?_;intro eJ d8 gu fR fN fQ;obtain⟨dO,fO,dS⟩:=eY.Ff fS eJ d8 _ fN fR fQ;refine hZ k ⟨dO.f_ 4,dO.f_ 6,dO.f_ 8⟩ λm=>?_;clear k r;(repeat refine j8 m ?_);have dQ:=dO.hG 4;have z4:=m.1;refine h4 19 λr k=>?_;go_simp;refine k.out _ _ (λh=>GR h I) ?_;clear k r dQ z4 m;refine hN k_ ?_ _;go_wp2;go_roundw
  case rel=>
   have ce:=((fI.trans<|.jS dU).trans dS);refine⟨g+1,_,X,gn,⟨_,rfl,fO⟩,?_,ce⟩;have fP:∀eI:GS,eI={d with FA:=eJ,fc:=d8,fs:=d.fs++[B]}->eI.lg={d.lg with fs:=d.lg.fs++[B]}:=λeI h=>by rw[h];rfl
   rw[fP _ rfl,fD.out];have gi:=eN.out;rw[<-fa.out];refine t.out.next (n':=uH Ns<|g+1) er ez fu.out fh.out eL.out db.out eK.out dz.out dC dB (by simp[i3.put]) ?_ B dL X;have cK:(((i3.put (i3.put e6 ⟨1,0,0,0,0⟩) ⟨14,0,0,0,0⟩).l.length:Int)-1)=((i3.put e6 ⟨1,0,0,0,0⟩).l.length:Int):=by simp[i3.put];omega
   rw[cK];exact oM _
  case measure=>exact mz
 have cf:g=3:=X;subst cf;have iS:=hL.len;have cD:=L.out.pg.sum;have cn:=L.out.pg.nl;have hls:uH Ns 3<=2048:=by
  have e:Ns.take 3=Ns:=GY X;unfold uH;rw[e];omega
 have bp:∃q,pp a.l a.hC a.cs [] q/\q<a.l.length/\iG a.l ((a.l.length:Int)-1)=14:=by
  rcases hL.ok with h|h
  exact GR h.1 I;exact h
 obtain⟨q',bp,dr,cu⟩:=bp;have eU:=bp.cs1;have hcl:=bp.AW;obtain⟨s,u,z⟩:=N2;have eV:s.cs=a.cs:=GG i3.cs u;obtain⟨CA,n,cc,aZ,bL,bt⟩:∃CA n cc,Hid (n=a.cs.length)/\wr.cell? (Z b 5)=some (.slice CA n cc)/\wr.ownsRow b 219 2 (.slice CA n cc) n (nt a.cs):=by
  rw[<-eV];exact⟨_,_,_,O rfl,z.hg.f_ 5,z.hc⟩
 have aK:n<=2048:=ov aZ.out;have d6:=O iS;have aX:=O hls;have t:=O hL;have cS:=O bp;have fC:=O dr;have fw:=O cu;have fd:=O eU;have bH:lQ b wr b {a with l:=(a.cs.take 0).foldl (kg a.es a.fs) a.l}:=⟨s,u,z⟩;clear iS hls hL bp dr cu eU hcl eV u z cD cn ag hk;go_wp2;go_loopw [84] (λap w'=>∃j:Nat,j<=n/\ap=Y j/\lQ b w' b {a with l:=(a.cs.take j).foldl (kg a.es a.fs) a.l}/\Gt b gT aj w'/\mZ 219 wr w') (λap _=>n-(intOf ap).toNat)
 case atStart=>exact⟨0,R_ _,gn,bH,N,.jS<|G_ [] _⟩
 obtain⟨j,hj,rfl,N2,N,dq⟩:=hrel;clear bH;obtain⟨s,u,z⟩:=N2;by_cases ag:j<n
 .have bw:j<a.cs.length:=ov aZ.out;obtain⟨fZ,f4,fH,_,cW,ef⟩:=kN (dq.own bt) X;obtain⟨C,y,h3,ar,au⟩:=fd.out a.cs[j]<|P_ bw;have z0:=(cW.f_<|j*2+0).trans<|ef _ _<|(jr (λp:Int × Int=>[Y p.1,Y p.2]) 2 (λ_=>rfl) a.cs j 0 bw X).trans rfl;have aM:=(cW.f_<|j*2+1).trans<|ef _ _<|(jr (λp:Int × Int=>[Y p.1,Y p.2]) 2 (λ_=>rfl) a.cs j 1 bw X).trans rfl;rw[Id]at z0;obtain⟨i,ae⟩:∃i:Nat,a.cs[j].1=i:=⟨a.cs[j].1.toNat,X⟩;obtain⟨f,di⟩:∃f:Nat,a.cs[j].2=f:=⟨a.cs[j].2.toNat,X⟩;have aQ:=O (show a.cs[j]=((i:Int),(f:Int)) from Prod.ext ae di);rw[ae]at z0 y;rw[di]at aM ar au;have cX:s.es=a.es:=GG i3.es u;have aJ:s.fs=a.fs:=GG i3.fs u;have bN:s.l=(a.cs.take j).foldl (kg a.es a.fs) a.l:=GG i3.l u;have ci:s.l.length=a.l.length:=by rw[bN,pa]
  have dF:s.es.length=3:=by rw[cX];exact t.out.el
  have co:s.fs.length=3:=by rw[aJ];exact t.out.fl
  obtain⟨v,hm⟩:=mn_ a.l.length;have dV:i<v:=X;have cA:v<=2048:=by have:=d6.out;have:=aX.out;omega
  have eW:f<3:=X;have ao:=O u;have de:=O<|ci.trans hm;have HM:=O hm;have fi:=O cX;have d1:=O aJ;have cV:=O bN;have bX:=O dF;have da:=O co;have ft:=O dq;have d3:=O N;clear u ci hm cX aJ bN dF co C y h3 ar au ae di ef cW dq N;subst fH;obtain⟨a7,S,cx,bI,b5,bP⟩:=box1 wr 219 #[Y i,Y f];go_upto_region 18 with fail;obtain⟨o,B⟩:=nm_ a7.drew;have M:J [] wr o:=by rw[B];exact b5.drew
  have b4:Bk o S 219 #[Y i,Y f]:=by rw[B];exact bP.hF (G_ [] _).drew
  have K:=z.hF M;obtain⟨G,cH,R,H,ec,fc,cur,aY,cN,N1,A,am,aq,aT,F,⟨gl,bS⟩,⟨c8,bo⟩⟩:=K.qL de.out dV bX.out da.out eW;obtain⟨V,ei⟩:=nm_<|s.es.getD f 0;rw[<-ei]at aT;have dy:=O aY;have fk:=O ei;have cG:o.cell? (Z S 0)=some (Y i):=b4.f_ 0;have az:o.cell? (Z S 1)=some (Y f):=b4.f_ 1;have fz:=N1.hG<|i*5+4;clear aY ei aq bo F;have dH:(f:Int)<3:=X;have gf:(i:Int)<v:=X;refine hS (λw'=>w'.cell? (Z S 0)=some (Y i)/\w'.cell? (Z S 1)=some (Y f)/\w'.cell? (Z b 1)=some (.slice (j_ G) v H)/\w'.cell? (Z b 3)=some (.slice (j_ cH) 3 ec)/\w'.cell? (Z cH f)=some (Y V)) 16 k_ ?_;rw[<-B];have f1:=O B;clear B;have m:=And.intro cG<|And.intro az<|And.intro A<|And.intro am aT;repeat refine j8 m ?_
  refine h4 16 λr k=>?_;go_simp;refine k.out _ _ (λh=>GR h I) ?_;clear k r fz A am bS aT m cG az;refine hN k_ ?_ _;have U:=(K.Eh dy.out N1 (by rw[de.out];exact dV) V).hF (G_ [] _).drew;have bR:∀e,e≠189->mZ e o (o.setCell (Z G<|i*5+4)<|Y V).drew:=λe he=>(mZ.set N1 (Ne.symm he) _ _).trans<|.jS (G_ [] _).drew;have dm:=(Gt.set (T:=gT) N1 cN I (i*5+4)<|Y V).trans<|.jS (G_ [] _).drew;go_upto_region 19 with fail;obtain⟨Q,cI⟩:=nm_<|(o.setCell (Z G<|i*5+4)<|Y V).drew;rw[<-cI]at U bR dm;have aS:=(bR 219 I).bk b4;obtain⟨e9,e8,R,fX,f6,fc,b0,d9,_,dM,A,am,aq,aT,F,_,⟨c8,bo⟩⟩:=U.qL ((lN _ _ _).trans de.out) dV bX.out da.out eW;obtain rfl:G=e9:=by have h:=dy.out.symm.trans d9;injection h with h;injection h
  obtain⟨b7,eg⟩:=nm_<|s.fs.getD f 0;have F:Q.cell? (Z R f)=some (Y b7):=by rw[eg];exact F
  have fg:=O eg;have fv:=O d9;have cG:Q.cell? (Z S 0)=some (Y i):=aS.f_ 0;have az:Q.cell? (Z S 1)=some (Y f):=aS.f_ 1;have fz:=dM.hG<|i*5+3;clear d9 eg am aT e8;refine hS (λw'=>w'.cell? (Z S 0)=some (Y i)/\w'.cell? (Z S 1)=some (Y f)/\w'.cell? (Z b 1)=some (.slice (j_ G) v fX)/\w'.cell? (Z b 4)=some (.slice (j_ R) 3 fc)/\w'.cell? (Z R f)=some (Y b7)) 16 k_ ?_;rw[<-cI];have f2:=O cI;clear cI;have m:=And.intro cG<|And.intro az<|And.intro A<|And.intro aq F;repeat refine j8 m ?_
  refine h4 16 λr k=>?_;go_simp;refine k.out _ _ (λh=>GR h I) ?_;clear k r fz A aq bo F m cG az;refine hN k_ ?_ _;have cO:=U.Ei fv.out dM (by rw[show({s with l:=my V s.l i}:GS).l.length=s.l.length from lN _ _ _,de.out];exact dV) b7;have eo:=(ft.out.trans<|.jS M).trans<|(bR 219 I).trans<|.set dM I (i*5+3)<|Y b7;have dn:=(d3.out.trans<|.jS M).trans<|dm.trans<|Gt.set (T:=gT) dM cN I (i*5+3)<|Y b7;have fp:=O cO;have fq:=O eo;have fm:=O dn;clear cO eo dn U bR dm K;go_wp2;go_roundw
  case rel=>
   refine⟨j+1,X,gn,⟨_,?_,fp.out⟩,fm.out,fq.out⟩;have aC:(a.cs.take<|j+1).foldl (kg a.es a.fs) a.l=pO b7 (my V s.l i) i:=by
    rw[Y_ bw,aQ.out,Ig,<-cV.out];show kg a.es a.fs s.l _=_;rw[<-Ad,fk.out,fg.out,fi.out,d1.out]
   rw[aC];have av:=ao.out;exact Ms
  case measure=>exact mz
 have dW:a.cs.take j=a.cs:=GY<|ov aZ.out;rw[dW]at u;have aJ:s.fs=a.fs:=GG i3.fs u;have bN:s.l=a.cs.foldl (kg a.es a.fs) a.l:=GG i3.l u;have bn:s.hC=a.hC:=GG i3.hC u;have ci:s.l.length=a.l.length:=by rw[bN,pa]
 have dF:s.es.length=3:=by rw[show s.es=a.es from GG i3.es u];exact t.out.el
 have co:s.fs.length=3:=by rw[aJ];exact t.out.fl
 have cl:=cS.out.code.pos;obtain⟨v,hm⟩:=mn_ s.l.length;have cA:v<=2048:=by have:=d6.out;have:=aX.out;omega
 obtain⟨G,cH,R,H,ec,fc,cur,aY,cN,N1,A,am,aq,aT,F,_,_⟩:=z.qL hm (i:=0) (f:=0) X dF co X;have P:wr.cell? (Z b 2)=some (Y s.hC):=z.hg.f_ 2;have hR:=cz.gt N I;obtain⟨cQ,eH⟩:=nm_<|s.fs.getD 0 0;rw[<-eH]at F;obtain⟨st,du⟩:=nm_ s.hC;rw[<-du]at P;have cm:Is wr (some<|Z G 0) s.l:=by rw[<-aY];exact Sl.iZ z.hl
 have bZ:s.l.length<=H:=by
  have h:=A.symm.trans<|z.hg.f_ 1;have y:(Value.slice (j_ G) v H)=.slice s.L s.l.length s.lc:=Option.some.inj h;injection y with _ _ h3;rw[h3];exact jq z.hl
 have d7:=O eH;have bY:=O du;have fG:=O bn;have HM:=O hm;have d1:=O aJ;have cV:=O bN;have HI:=O cm;have fb:=O bZ;have d3:=O N;have hd:decide ((2048:Int)<v)=false:=p_;clear u dW aJ bN bn du ci dF co cl hm aY cN N1 am aT eH cm bZ N;go_upto_region 23 with fail;obtain⟨o,B⟩:=nm_ wr.drew;have M:J [] wr o:=by rw[B];exact(G_ [] _).drew
 have V:=hR.hF M;have A:o.cell? (Z b 1)=some (.slice (j_ G) v H):=by rw[B];exact A
 have P:o.cell? (Z b 2)=some (Y st):=by rw[B];exact P
 have aq:o.cell? (Z b 4)=some (.slice (j_ R) 3 fc):=by rw[B];exact aq
 have F:o.cell? (Z R 0)=some (Y cQ):=by rw[B];exact F
 refine hS (λw'=>w'.cell? (Z b 1)=some (.slice (j_ G) v H)/\w'.cell? (Z b 2)=some (Y st)/\w'.cell? (Z b 4)=some (.slice (j_ R) 3 fc)/\w'.cell? (Z R 0)=some (Y cQ)) 15 k_ ?_;rw[<-B];clear B;have m:=And.intro A<|And.intro P<|And.intro aq F;(repeat refine j8 m ?_);have bQ:o.cell? (Z D 0)=some (n_):=V.f_ 0;have r1:o.cell? (Z D 1)=some (Y 0):=V.f_ 1;have r2:o.cell? (Z D 2)=some (Y 0):=V.f_ 2;have z0:=V.hG 0;have aM:=V.hG 1;have aU:=V.hG 2;refine h4 15 λr k=>?_;go_simp;refine k.out _ _ (λh=>GR h I) ?_;clear k r m;refine h4 16 λr k=>?_;go_simp;refine k.out _ _ (λh=>GR h I) ?_;clear k r;refine hN k_ ?_ _;have df:=V.hW 0<|.slice (j_ G) v H;have dh:=df.hW 1<|Y cQ;have a8:=dh.hW 2<|Y st;have bR:=((mZ.set (e:=189) V I 0<|.slice (j_ G) v H).trans<|.set df I 1<|Y cQ).trans<|.set dh I 2<|Y st;have bT:=bR.sl<|HI.out.hF M;have aP:J [D] o (((o.setCell (Z D 0)<|.slice (j_ G) v H).setCell (Z D 1)<|Y cQ).setCell (Z D 2)<|Y st):=(((G_ [D] o).setCell (.inl s_) _).setCell (.inl s_) _).setCell (.inl s_) _;have a2:=(((Gt.jS (base:=b) (T:=gT) fM).trans d3.out).gr e5.1).trans M;have cs:=J.jT a2 aP e5.2;obtain⟨aB,cF⟩:=nm_<|((o.setCell (Z D 0)<|.slice (j_ G) v H).setCell (Z D 1)<|Y cQ).setCell (Z D 2)<|Y st;rw[<-cF]at a8 bT cs |-;have d4:=O bT;have d2:=O cs;clear cF df dh bR aP a2 bT cs bQ r1 r2 z0 aM aU A P aq F hR V M;go_wp2;refine me #[.slice (j_ G) v H,Y cQ,Y st] (Y 0) a8 underlying26 ?_;rw[ax.out];refine⟨some<|Z G 0,H,s.l,cQ,st,by rw[HM.out],d4.out,?_,fb.out,d2.out⟩;rw[cV.out,bY.out,fG.out,d7.out,d1.out]
 have di:∀g,g<3->2<=a.fs.getD g 0/\a.fs.getD g 0<=64:=λg hk=>t.out.f64 _ (by
  have E:g<a.fs.length:=by rw[t.out.fl];exact hk
  have:a.fs.getD g 0=a.fs[g]:=by simp[E]
  rw[this];exact P_ E)
 have gd:=di 0 X;refine yK cS.out fC.out fw.out (by have:=d6.out;have:=aX.out;omega) (λg C y=>?_) (λg C y=>di g X) X X;have E:g<a.es.length:=by rw[t.out.el];omega
 have:a.es.getD g 0=a.es[g]:=by simp[E]
 rw[this];exact(t.out.e21 _<|P_ E).2.2
def n8.heads{L:QU}:∀{ss:QW} {r:QW},n8 L (ss++r)->(∀s∈ss,s.h7=1)->∀x∈ss.map ST.name,x∈L
 |[],_,_,_=>by simp
 |s::ss,r,h,b=>by
  cases h with
  |cons t l h f g c=>
   intro x a;rcases N_.1 (by simpa using a:x∈s.name::ss.map ST.name)with rfl|a
   exact h (by rw[b s s_];rfl);exact n8.heads c (λu e=>b u<|by simp[e]) x a
def wz:hV.Nodup:=by decide
def zE:iq.Nodup:=by decide
def yz(s:ByteArray)(f:FT)(l:QG)(k:Int):ux s (f::l) k=if(f.name.data.toList==s.data.toList)=true then k else ux s l (k+1):=by
 show(if(f.name.toList==s.toList)=true then k else ux s l (k+1))=_;rw[Il,Il]
def FT.In.rd{c a:Nat}{f:FT}(h:f.In c a w):DK (λ_=>True) w f:=⟨h.hp,h.wm,h.hb,λe b=>(h.hs e b).imp λ_ _=>trivial⟩
def CG.made{v u:Nat}{PA:OA}{p b n:FT}(C:Sl w 213 3 PA 3<|[p,b,n].flatMap FT.E)(h1:p.In v u w)(h2:b.In v u w)(h3:n.In v u w)(W:p.name=w5/\p.ps=[]/\CJ p.bs)(Q:b.name=qv/\b.ps=[py,Dh]/\Gp b.bs)(k3:n.name=pW/\n.ps=[nj]/\Gn n.bs):∃Ns,CG (λ_=>True) w PA [p,b,n] Ns:=by
 obtain⟨y,m,N2,ad,D,m3,m4,T,z,dr,de⟩:=W;obtain⟨s,j,⟨cn,ej,G,dt,Z,f5⟩,N,B,f7,f8⟩:=Q;obtain⟨r,o,cj,N3,ae,J,af,ag,d,V,ah,Y,ai,aj⟩:=k3;have x:∀k,ux k [p,b,n] 0=if(w5.data.toList==k.data.toList)=true then 0 else if(qv.data.toList==k.data.toList)=true then 1 else if(pW.data.toList==k.data.toList)=true then 2 else -1:=by
  intro k;rw[yz,yz,yz,y,s,r];rfl
 have O:ux w5 [p,b,n] 0=0:=by rw[x];rfl
 have K:ux qv [p,b,n] 0=1:=by rw[x];rfl
 have L:ux pW [p,b,n] 0=2:=by rw[x];rfl
 have M:∀e∈hV,e∈iq:=λe h=>Z_ _ h;have U:l8 iq 5 D p.bs:=z.sub M;have A:l8 hV 5 J n.bs:=Y.mono X;have q:∀{P:FT->Prop},P p->P b->P n->∀E∈[p,b,n],P E:=by
  intro P ak al am E F;simp only[N_,List.not_mem_nil,or_false]at F;rcases F with rfl|rfl|rfl<;>assumption
 have t:∀f,f<3->f=0\/f=1\/f=2:=λf hk=>by omega
 refine⟨[D,N,J],⟨C,rfl,q h1.rd h2.rd h3.rd,q ⟨by rw[y];exact zj.1,by rw[m];simp,by rw[m];simp⟩ ⟨by rw[s];exact zj.2.1,by rw[j];simp[iq,hV],by rw[j];simp⟩ ⟨by rw[r];exact zj.2.2,by rw[o];simp[iq,hV],by rw[o];simp⟩,rfl,λf a h'=>?_,p_⟩,
  ⟨C,rfl,K,L,λ_=>by show b.ps.length=2;rw[j];rfl,λ_=>by show n.ps.length=1;rw[o];rfl⟩,λf a=>?_,λ_=>m,q (by rw[m];exact IL) (by rw[j];decide) (by rw[o];decide),λf a h'=>?_⟩
 rcases t f a with rfl|rfl|rfl
 .exact U
 exact B;exact A.sub M;rcases t f a with rfl|rfl|rfl
 .show ux p.name _ 0=0;rw[y];exact O
 show ux b.name _ 0=1;rw[s];exact K;show ux n.name _ 0=2;rw[r];exact L;rcases t f a with rfl|rfl|rfl
 .refine⟨hV,I,I,wz,z,λi c g=>?_⟩;have c:n8 i p.bs:=c;rw[m3]at c;rw[<-m4];exact c.heads T
 refine⟨iq,I,I,zE,B,λi c g=>?_⟩;have c:n8 i b.bs:=c;have g:∀e∈b.ps,e∈i:=g;rw[dt]at c;have H:=c.heads f5;rw[Z]at H;rw[j]at g;intro e h;have S:∀e∈iq,e∈[w6,vW,wl,nj,oY,yt,yr]\/e∈[py,Dh]:=by
  intro e h;simp only[iq,hV,N_,List.not_mem_nil,or_false]at h |-
  rcases h with a|a|a|a|a|a|a|a|a<;>simp[a]
 rcases S e h with a|a
 exact H e a;exact g e a;refine⟨hV,I,I,wz,A,λi c g=>?_⟩;have c:n8 i n.bs:=c;rw[af]at c;rw[<-V];cases c with
 |cons an l a S hl H=>exact H.heads ah
def D1(B g:Nat)(w:World)(e:Ending)(w':World):Prop:=∃(A:OA) (c:Nat) (l:QR) (hH hC:Int),e=.returned (.agg #[.slice A l.length c,Y hH,Y hC])/\Is w' A l/\ih l hH hC=true/\l.length<=c/\iV w' B g/\J [g] w w'
def Cn(j g:Nat)(B:iV w j g)(hB:j<=w.heap.size):
 Calls prog 44 #[q_ g] w (D1 j g w):=by
 refine ig λad V=>?_;obtain⟨t,a,aW,e2,q,A⟩:=box1 w 26 #[n_,Y 0,Y 0];have S:=B.hF q;have aV:=B.yw;have ct:j<=t.heap.size:=H_ hB q.size;go_enter func44,ntmps44;go_wp2_with fail;go_at_call 89;refine(BO j g t S ct).mono ?_;rintro e D⟨af,ag,ah,n,rfl,E,h1,h2,h3,bo,F,k3,cX,s⟩;obtain⟨Ns,U⟩:=CG.made E h1 h2 h3 bo F k3;go_wp2_with fail;go_at_call 88;refine(Ak 3 Ns D U).mono ?_;rintro e T⟨c,h,l,hH,hC,rfl,K,hv,bZ,m⟩;have N:=O hv;have Q:=O bZ;have HI:=O K;obtain⟨i,C⟩:=mn_ l.length;rw[C];have HM:=O C;obtain⟨b,p,cx,ai,k,o⟩:=box1 T 26 #[.slice c i h,Y hH,Y hC];have cM:=(cX.hF m).hF k;have aq:a≠g:=X;have dR:=A.lt;have ck:Bk D a 26 #[n_,Y 0,Y 0]:=A.gr s p_;have f:=(ck.hF m).hF k;have r:∀{u x:World},J [] u x->J [g] u x:=λaj=>(G_ [g] _).hJ aj s_;have bg:J [g] w b:=(((r q).trans s).trans<|r m).trans<|r k;have M:Is b c l:=HI.out.hF<|k;have bq:w.heap.size<=a:=X;have y:=f.hW 0<|.slice c i h;have z:=y.hW 1<|Y hH;have L:=z.hW 2<|Y hC;have W:=((mZ.set (e:=189) f I 0<|.slice c i h).trans<|.set y I 1<|Y hH).trans<|.set z I 2<|Y hC;have bT:=W.sl M;have v:J [a] b (((b.setCell (Z a 0)<|.slice c i h).setCell (Z a 1)<|Y hH).setCell (Z a 2)<|Y hC):=(((G_ [a] b).setCell (.inl s_) _).setCell (.inl s_) _).setCell (.inl s_) _;have bS:=cM.ir v p_;have H:=bg.hJ v p_;have al:=O L;have d4:=O bT;have d:=O bS;have d2:=O H;have cG:b.cell? (Z p 0)=some (.slice c i h):=o.f_ 0;have az:b.cell? (Z p 1)=some (Y hH):=o.f_ 1;have eX:b.cell? (Z p 2)=some (Y hC):=o.f_ 2;have bQ:b.cell? (Z a 0)=some (n_):=f.f_ 0;have r1:b.cell? (Z a 1)=some (Y 0):=f.f_ 1;have r2:b.cell? (Z a 2)=some (Y 0):=f.f_ 2;have z0:=f.hG 0;have aM:=f.hG 1;have aU:=f.hG 2;go_wp2;refine rr_ #[.slice c i h,Y hH,Y hC] al.out underlying26 ?_;rw[V.out];exact⟨c,h,l,hH,hC,by rw[HM.out],d4.out,N.out,Q.out,d.out,d2.out⟩
section
variable(l:QR)(hH hC:Int)(d k8:QS)
def nu(s:qB)(run:Int):iP:=BC l hH hC d s.h (jm l hH hC s.hT run true).1
inductive vH:Nat->Int->qB->Prop
 |hT:vH 0 0<|th true hH
 |ask {k:Nat} {run:Int} {s:qB} (h:vH k run s) (he:s.jO=false) (h0:(n6 l hH hC k8 s).2=0):vH (k+1) run (n6 l hH hC k8 s).1
 |commit {k:Nat} {run:Int} {s:qB} (h:vH k run s) (he:s.jO=false) (h0:(n6 l hH hC k8 s).2≠0):vH (k+1) (run+1) (kY true s<|nu l hH hC d s run).1
inductive vD(h:QQ)(run:Int):Nat->List iP->Prop
 |hT (ts:QA) (hl:ts.length<=16) (hb:∀(k:Nat) (hk:k<ts.length),∃(x:Int) (ip:Bool),Eq l hH hC x/\ts[k]=(jm l hH hC x (run+k) ip).1):vD h run 0 ts
 |step {n:Nat} {ts:QA} (k:Nat) (hk:k<ts.length) (h1:vD h run n ts) (h2:ts[k].h5=0):vD h run (n+1)<|ts.set k<|iT l hH hC d ts[k]<|j3 h ts k
def vD.len{h:QQ}{run:Int}{ts:QA}(a:vD l hH hC d h run n ts):ts.length<=16:=by
 induction a with
 |hT ts b _=>exact b
 |step e c _ _ b=>simpa using b
end
structure Md where
 A:Option Addr
 c:Nat
 l:List In
 hH:Int
 hC:Int
 aA:Option Addr
 ac:Nat
 k8:List Int
 dA:Option Addr
 dc:Nat
 d:List Int
 s:Cm
 tA:Option Addr
 tc:Nat
 ts:List Tk
 run:Int
def Md.g_(m:Md):Array Value:=#[.slice m.A m.l.length m.c,Y m.hH,Y m.hC,.slice m.aA m.k8.length m.ac,.slice m.dA m.d.length m.dc,
 .slice m.s.h.A m.s.h.l.length m.s.h.c,Y m.s.hT,Y m.s.jC,.slice m.s.ia.A m.s.ia.l.length m.s.ia.c,.bool m.s.jO,.bool m.s.hX,.bool m.s.v.r,Y m.s.v.n,Y m.s.iW,Y m.s.hK,.slice m.tA m.ts.length m.tc,Y m.run]
structure sh(w:World)(m:Md):Prop where
 l:Is w m.A m.l
 k8:Ns w 2 m.aA m.k8
 al:m.k8.length<=5
 d:Ns w 3 m.dA m.d
 dl:m.d.length<=m.dc
 s:mi w m.s
 ts:xK w m.tA m.ts
def sh.hF{w':World}{m:Md}(h:sh w m)(a:J [] w w'):sh w' m:=⟨Sl.hF h.l a,Sl.hF h.k8 a,h.al,Sl.hF h.d a,h.dl,h.s.hF a,h.ts.hF a⟩
structure AO(m:Md):Prop where
 val:ih m.l m.hH m.hC=true
 dv:m.d.Sublist<|kT m.l m.hH m.hC
 cm:∃k run,k<=8/\vH m.l m.hH m.hC m.d m.k8 k run m.s.p/\((m.s.jO=true/\m.ts=[]/\m.run=run)\/(m.s.jO=false/\m.run=run+m.ts.length/\∃n,n<=39/\vD m.l m.hH m.hC m.d m.s.p.h run n (m.ts.map Tk.p)))
 tl:m.ts.length<=m.tc
def CE(B g:Nat)(w:World)(e:Ending)(w':World):Prop:=∃m:Md,e=.returned (.agg m.g_)/\sh w' m/\AO m/\iV w' B g/\J [g] w w'
structure TF(t:iP):Prop where
 sm:t.sm 500000
 s0:0<=t.hK
 s1:t.hK<=3000
 n0: -1<=t.next
 n1:t.next<=3000
def wF(c:QR)(hH hC:Int)(d:QS)(t:iP)(view:QQ):(iT c hH hC d t view).hT=t.hT:=by
 unfold iT;simp only;split
 .rfl
 split
 .rfl
 split;rfl;rename_i b a;have:=(li a).hT;split
 .exact this
 split;exact this;exact this
def tH(c:QR)(hH hC:Int)(d:QS)(t:iP)(view:QQ):(iT c hH hC d t view).next=t.next\/(iT c hH hC d t view).next=t.pc+1\/(iT c hH hC d t view).next=(iT c hH hC d t view).pc:=by
 unfold iT;simp only;split
 .exact .inl rfl
 split
 .exact .inr<|.inl rfl
 split;exact .inl rfl;rename_i b a;have:=(li a).next
 split
 .exact .inl this
 split;exact .inr<|.inr rfl;exact .inl this
def pL{l:QR}{hH hC:Int}{d:QS}{t:iP}(j:ih l hH hC=true)(s:l.length<=2048)(h:Way l t)(b:TF t)(i:t.h5=0):
 TF (iT l hH hC d t view)/\((iT l hH hC d t view).h5=0->Way l (iT l hH hC d t view)):=by
 obtain⟨e,G,k,f,m,c⟩:=vb (d:=d) (view:=view) j h i;have p:=h.s1;have q:=h.lo;have r:=h.hi;have o:=h.s0;refine⟨⟨e.mono X,G,X,?_,?_⟩,λg=>(c g).1⟩;rcases tH l hH hC d t view with a|a|a
 .rw[a];exact b.n0
 rw[a];omega;rw[a];exact f;rcases tH l hH hC d t view with a|a|a
 .rw[a];exact b.n1
 rw[a];omega;rw[a];omega
def y7{l:QR}{hH hC:Int}{d:QS}{view:QQ}(e:ih l hH hC=true)(b:l.length<=2048):∀(n:Nat) (t:iP),(t.h5=0->Way l t)->TF t->
 TF (oB l hH hC d view n t)/\(oB l hH hC d view n t).run=t.run/\(oB l hH hC d view n t).hT=t.hT
 |0,t,_,a=>⟨a,rfl,rfl⟩
 |n+1,t,g,a=>by
  unfold oB;split;rename_i c;obtain⟨i,j⟩:=pL (d:=d) (view:=view) e b (g c) a c;obtain⟨k,h,f⟩:=y7 (d:=d) (view:=view) e b n _ j i;exact⟨k,h.trans<|lu l hH hC d t view,f.trans<|wF l hH hC d t view⟩;exact⟨a,rfl,rfl⟩
def Cu{l:QR}{hH hC hT run:Int}{ip:Bool}(f:l.length<=2048)(h0: -1<=hT)(e:hT<=2049):
 TF (jm l hH hC hT run ip).1/\((jm l hH hC hT run ip).2=0->(jm l hH hC hT run ip).1.run=run/\(jm l hH hC hT run ip).1.hT=hT):=by
 have c:∀n,Tk.zero.p.sm n:=λn=>⟨R_ _,R_ _,R_ _,R_ _,R_ _,R_ _⟩;have b:TF Tk.zero.p:=⟨c _,I,I,I,I⟩;unfold jm;split
 .exact⟨b,λa=>by simp at a⟩
 split
 .exact⟨b,λa=>by simp at a⟩
 split;exact⟨⟨⟨R_ _,R_ _,R_ _,R_ _,R_ _,R_ _⟩,show(0:Int)<=0 by decide,show(0:Int)<=3000 by decide,by show -1<=hT+1;omega,by show hT+1<=3000;omega⟩,λ_=>⟨rfl,rfl⟩⟩;exact⟨⟨⟨R_ _,R_ _,R_ _,R_ _,R_ _,R_ _⟩,show(0:Int)<=0 by decide,show(0:Int)<=3000 by decide,show(-1:Int)<=0 by decide,show(0:Int)<=3000 by decide⟩,λ_=>⟨rfl,rfl⟩⟩
def vz{l:QR}{hH hC hT run:Int}{ip:Bool}(h0: -1<=hT)(f:hT<=l.length):Way l (jm l hH hC hT run ip).1:=by
 have b:∀a:iP,a.sm 0->a.hK=0-> -1<=a.pc->a.pc<=l.length->Way l a:=λa p r g i=>⟨g,i,X,ov<|s4 (l:=l) g,p.mono<|R_ _⟩;have e:∀a:iP,a.gs=[]->a.rs=[]->a.ws=[]->a.nw=[]->a.ds=[]->a.ia=[]->a.sm 0:=λa h j k d m o=>⟨by simp[h],by simp[j],by simp[k],by simp[d],by simp[m],by simp[o]⟩;have c:(-1:Int)<=0/\(0:Int)<=l.length:=X;unfold jm;split
 .exact b _ (e _ rfl rfl rfl rfl rfl rfl) rfl c.1 c.2
 split
 .exact b _ (e _ rfl rfl rfl rfl rfl rfl) rfl c.1 c.2
 split;exact b _ (e _ rfl rfl rfl rfl rfl rfl) rfl h0 f;exact b _ (e _ rfl rfl rfl rfl rfl rfl) rfl h0 f
def wd{l:QR}{pc:Int}(h:ng l pc=true): -1<=pc/\pc<=l.length:=by
 by_cases a:pc<0\/(l.length:Int)<=pc;have e:=kh a;unfold ng at h;exact NS;omega
def nY{l:QR}{hH hC hT run:Int}{ip:Bool}:Way l (jm l hH hC hT run ip).1:=by
 by_cases b:ng l hT=true;exact vz (wd b).1 (wd b).2;have b:ng l hT=false:=zu b;have a:(jm l hH hC hT run ip).1=(jm l hH hC 0 run ip).1\/(jm l hH hC hT run ip).1=Tk.zero.p:=by
  unfold jm;rw[L_ b];split<;>exact .inr rfl
 rcases a with a|a
 rw[a];exact vz X X;rw[a];exact⟨I,by show(0:Int)<=l.length;omega,I,by show(0:Int)+px l 0<=_;have:=s4 (l:=l) (pc:=0) X;omega,⟨R_ _,R_ _,R_ _,R_ _,R_ _,R_ _⟩⟩
def qs{l:QR}{hH hC hT run:Int}{ip:Bool}(c:l.length<=2048):TF (jm l hH hC hT run ip).1:=by
 by_cases a:ng l hT=true;have b:=wd a;exact(Cu c b.1 X).1;have a:ng l hT=false:=zu a;have b:(jm l hH hC hT run ip).1=Tk.zero.p:=by
  unfold jm;rw[L_ a];split<;>rfl
 rw[b];exact⟨⟨R_ _,R_ _,R_ _,R_ _,R_ _,R_ _⟩,I,I,I,I⟩
def r9{l:QR}{hH hC:Int}{d:QS}(b:ih l hH hC=true)(a:l.length<=2048)(s:qB)(run:Int):TF (nu l hH hC d s run):=
 (y7 b a _ _ (λ_=>nY)<|qs a).1
def vD.tf{l:QR}{hH hC:Int}{d:QS}{h:QQ}{run:Int}{ts:QA}(m:ih l hH hC=true)(f:l.length<=2048)(i:vD l hH hC d h run n ts):∀t∈ts,TF t/\(t.h5=0->Way l t):=by
 induction i with
 |hT ts _ e=>
  intro t a;obtain⟨g,b,rfl⟩:=HP a;obtain⟨k,j,_,c⟩:=e g b;rw[c];exact⟨qs f,λ_=>nY⟩
 |step g b o e c=>
  intro t a;rcases GX a with a|rfl
  exact c t a;obtain⟨j,k⟩:=c _<|P_ b;exact pL m f (k e) j e
structure CB(k:Nat)(s:qB):Prop where
 h:(s.h.length:Int)<=2+k*500000
 ia:(s.ia.length:Int)<=k*500000
 st0: -1<=s.hT
 st1:s.hT<=3000
 t0:0<=s.iW
 t1:s.iW<=k
 p0:0<=s.hK
 p1:s.hK<=k*3001
 a0:0<=s.jC
 a1:s.jC<=k
def CB.zero(k:Nat):CB k Cm.zero.p:=⟨by show(0:Int)<=2+k*500000;omega,by show(0:Int)<=k*500000;omega,by decide,by decide,by decide,by show(0:Int)<=k;omega,by decide,by show(0:Int)<=k*3001;omega,by decide,by show(0:Int)<=k;omega⟩
def CB.begin(hH:Int):CB 0 (th true hH):=⟨show(2:Int)<=2 by decide,show(0:Int)<=0 by decide,show(-1:Int)<=0 by decide,show(0:Int)<=3000 by decide,show(0:Int)<=0 by decide,show(0:Int)<=0 by decide,show(0:Int)<=0 by decide,show(0:Int)<=0 by decide,show(0:Int)<=0 by decide,show(0:Int)<=0 by decide⟩
def CB.ask{l:QR}{hH hC:Int}{k8:QS}{k:Nat}{s:qB}(o:ih l hH hC=true)(h:CB k s):CB (k+1) (n6 l hH hC k8 s).1:=by
 have F:=kq o;unfold n6;split
 .exact CB.zero _
 split;exact CB.zero _;rename_i i;have c:¬(s.jO=true\/jI l hH hC s.hT=false\/(kR l hH hC s.hT ja s.h 0).h7=4):=by unfold mF at i;simpa using i
 have e:jI l hH hC s.hT=true:=by
  cases b:jI l hH hC s.hT with
  |true=>rfl
  |false=>exact GR (.inr<|.inl b) c
 have m: -1<=s.hT/\s.hT<l.length:=by
  by_cases t:s.hT<0\/(l.length:Int)<=s.hT;unfold jI at e;rw[kh t]at e;simp at e;omega
 have j:=vn (hH:=hH) (hC:=hC) ja s.h 0 o m.1 m.2;have g:=s7 l hH hC s.hT ja s.h 0;obtain⟨a,b⟩:=nm_<|kR l hH hC s.hT ja s.h 0;rw[<-b]at c j g |-;clear b
 have r:¬a.h7=4:=λv=>c<|.inr<|.inr v;obtain⟨_,_,q,C,_⟩:=j.resolve_left r;have y:=g.nw;have z:=AM s.h a;obtain⟨A,I,x,u,d,B,E,D,p,H⟩:=h;have f:(s.ia.length:Int)<=((k+1:Nat):Int)*500000:=X;show CB (k+1) (oT l k8 s a);unfold oT;split
 .refine⟨?_,?_,?_,?_,d,?_,?_,?_,?_,?_⟩
  .show((mU l s.h s.hT _).length:Int)<=2+((k+1:Nat):Int)*500000;rw[yP];omega
  show((s.ia++[_]).length:Int)<=((k+1:Nat):Int)*500000;rw[M_,IM];omega;show -1<=s.hT+1;omega;show s.hT+1<=3000;omega;show s.iW<=((k+1:Nat):Int);omega;show 0<=s.hK+1;omega;exact NI;show 0<=s.jC+1;omega;show s.jC+1<=((k+1:Nat):Int);omega
 split;refine⟨?_,?_,x,u,d,?_,?_,?_,p,?_⟩
 .show((lk s.h a).length:Int)<=2+((k+1:Nat):Int)*500000;omega
 exact f;show s.iW<=((k+1:Nat):Int);omega;show 0<=s.hK+1;omega;exact NI;exact NP;refine⟨?_,?_,q,?_,d,?_,?_,?_,p,?_⟩
 .show((lk s.h a).length:Int)<=2+((k+1:Nat):Int)*500000;omega
 exact f;show a.pc<=3000;omega;show s.iW<=((k+1:Nat):Int);omega;show 0<=s.hK+1;omega;exact NI;exact NP
def CB.commit{k:Nat}{s:qB}{t:iP}(h:CB k s)(a:TF t)(ok:Bool):CB (k+1) (kY ok s t).1:=by
 unfold kY;split
 .exact CB.zero _
 split
 .exact CB.zero _
 split
 .exact CB.zero _
 obtain⟨j,y,g,f,d,o,q,p,b,x⟩:=h;have i:=zd s.h t;have r:=a.sm.nw;have u:=a.sm.ia;have v:=a.s0;have m:=a.s1;have e:=a.n0;have c:=a.n1;show CB (k+1) (l7 s t);unfold l7;split;refine⟨?_,?_,e,c,?_,?_,?_,?_,b,?_⟩
 .show((kG s.h t).length:Int)<=2+((k+1:Nat):Int)*500000;omega
 exact Nq;show 0<=s.iW+1;omega;show s.iW+1<=((k+1:Nat):Int);omega;show 0<=s.hK+t.hK;omega;show s.hK+t.hK<=((k+1:Nat):Int)*3001;omega;exact NP;refine⟨?_,?_,g,f,?_,?_,?_,?_,b,?_⟩
 .show((kG s.h t).length:Int)<=2+((k+1:Nat):Int)*500000;omega
 exact Nq;show 0<=s.iW+1;omega;show s.iW+1<=((k+1:Nat):Int);omega;show 0<=s.hK+t.hK;omega;show s.hK+t.hK<=((k+1:Nat):Int)*3001;omega;exact NP
def vH.cb{l:QR}{hH hC:Int}{d k8:QS}{k:Nat}{run:Int}{s:qB}(b:ih l hH hC=true)(h:vH l hH hC d k8 k run s):CB k s/\0<=run/\run<=k:=by
 have c:=kq b;induction h with
 |hT=>exact⟨CB.begin hH,I,I⟩
 |ask _ _ _ a=>exact⟨a.1.ask b,a.2.1,ov a.2.2⟩
 |commit _ _ _ a=>exact⟨a.1.commit (r9 b c.2.1 _ _) true,ov a.2.1,ov a.2.2⟩
section
def GV(P:Int->Prop)(v:Vl):Prop:=v.r=true->P v.n
def GO(P:Int->Prop)(o:Ob):Prop:=P o.id/\∀v∈o.fs,GV P v
structure XF(P:Int->Prop)(x:XP):Prop where
 zero:P 0
 h:∀o∈x.h,GO P o
 sr:∀i,GV P<|x.sr i
 r:∀i,GV P<|x.e.r i
 rs:∀c∈x.e.rs,(P c.id\/c.id=1)/\GV P c.v
 ws:∀c∈x.e.ws,(P c.id\/c.id=1)/\GV P c.v
 nw:x.e.nw=[]
 v:GV P x.e.v
def XO(P:Int->Prop)(x:XP):Prop:=x.hM=true\/XF P x
variable{P:Int->Prop}
def GV.num(n:Int):GV P ⟨false,n⟩:=λa=>by simp at a
def GV.default:GV P (default:Vl):=GV.num _
def uc{h:QQ}(c:∀i∈h,GO P i){id f:Int}{v:Vl}(e:iw h id f=some v):GV P v:=by
 obtain⟨j,g,_,_,_,b,a⟩:=mQ e;rw[<-a];exact(c _<|P_ g).2 _<|P_ b
def XF.read{x:XP}(b:XF P x)(id f:Int)(hid:P id\/id=1):XO P (hQ x id f).1/\GV P (hQ x id f).2:=by
 unfold hQ;split;exact⟨.inl rfl,GV.default⟩;rename_i h g;have c:=uc b.h g;split
 .exact⟨.inr b,c⟩
 refine⟨.inr {b with rs:=λe a=>?_},c⟩;rcases X_.1 a with a|a
 exact b.rs e a;rw[J_]at a;subst a;exact⟨hid,c⟩
def XF.write{x:XP}(b:XF P x)(id f:Int)(v:Vl)(hid:P id\/id=1)(e:GV P v):XF P (h6 x id f v):=by
 refine{b with ws:=λc a=>?_};rcases X_.1 a with a|a
 exact b.ws c a;rw[J_]at a;subst a;exact⟨hid,e⟩
def XF.brk{x:XP}(a:XF P x)(b:Bool):XF P {x with hM:=b}:={a with}
def XF.uF{x:XP}(c:XF P x)(k p s:Int)(t:Bool)(v:Vl)(r:Nat->Vl)(b:GV P v)(a:∀i,GV P<|r i):XF P {x with e:={x.e with h7:=k,pc:=p,kw:=s,hX:=t,v:=v,r:=r}}:={c with r:=a,v:=b}
def XF.root{x:XP}(a:XF P x):XF P (iv x):=a.brk _
def XO.read{x:XP}(a:XO P x)(id f:Int)(hid:x.hM=false->(P id\/id=1)):XO P (hQ x id f).1/\((hQ x id f).1.hM=false->x.hM=false/\GV P (hQ x id f).2):=by
 rcases a with hb|a
 exact LA;cases hb:x.hM with
 |true=>
  exact LA
 |false=>
  obtain⟨b,c⟩:=a.read id f<|hid hb;exact⟨b,λ_=>⟨rfl,c⟩⟩
def XO.write{x:XP}(b:XO P x)(id f:Int)(v:Vl)(hid:x.hM=false->(P id\/id=1))(c:x.hM=false->GV P v):XO P (h6 x id f v):=by
 rcases b with a|b
 exact .inl a;cases a:x.hM with
 |true=>exact .inl a
 |false=>exact .inr<|b.write id f v (hid a)<|c a
def XF.frame{x:XP}(f:XF P x):XO P (hO x).1/\((hO x).1.hM=false->P (hO x).2.1):=by
 unfold hO;simp only;split;rename_i b;exact⟨.inl b,λa=>by rw[b]at a;cases a⟩;obtain⟨b,c⟩:=XO.read (.inr f.root:XO P<|iv x) 1 0 λ_=>.inr rfl;refine⟨?_,λa=>?_⟩
 .rcases b with b|b
  .exact .inl (by simp[b])
  exact .inr<|b.brk _
 simp only[Bool.or_eq_false_iff]at a;have e:(hQ (iv x) 1 0).2.r=true:=by have:=a.2.1;simpa using this
 exact(c a.1).2 e
def XO.brk{x:XP}:XO P (kl x):=.inl rfl
def XO.Dj{x:XP}(a:XO P x)(k p s:Int)(t:Bool)(v:Vl)(r:Nat->Vl)(f:XF P x->GV P v)(c:XF P x->∀i,GV P<|r i):XO P {x with e:={x.e with h7:=k,pc:=p,kw:=s,hX:=t,v:=v,r:=r}}:=by
 rcases a with b|a
 exact .inl b;exact .inr<|a.uF k p s t v r (f a)<|c a
def GV.ja(i:Nat):GV P (ja i):=GV.default
def XO.frame{x:XP}(hx:XO P x):XO P (hO x).1/\((hO x).1.hM=false->P (hO x).2.1):=Lt
def XO.throw{x:XP}(hx:XO P x)(v:Vl)(hv:GV P v):XO P (iX x v):=by
 have o:XO P (hO x).1/\((hO x).1.hM=false->P (hO x).2.1):=Lt;unfold iX;simp only;generalize hO x=a at*;obtain⟨g,e⟩:=o;split;exact g;obtain⟨i,j⟩:=g.read a.2.1 2 λh=>.inl<|e h;generalize hQ a.1 a.2.1 2=c at*;split
 .exact XO.brk
 split;have h1:XO P (h6 c.1 a.2.1 2 default):=i.write _ _ _ (λh=>.inl<|e (j h).1) λ_=>GV.default;have f:XO P (h6 (h6 c.1 a.2.1 2 default) 1 2 v):=MX;exact f.Dj _ _ _ _ _ _ (λh=>h.v) λ_=>GV.ja;obtain⟨k,m⟩:=i.read a.2.1 0 λh=>.inl<|e (j h).1;generalize hQ c.1 a.2.1 0=b at*;split
 .exact XO.brk
 split;exact k.Dj _ _ _ _ _ _ (λ_=>hv) λh=>h.sr;have h1:XO P (h6 b.1 1 0 b.2):=by
  rcases k with h|h
  exact .inl h;cases hb:b.1.hM with
  |true=>exact .inl hb
  |false=>exact .inr<|h.write _ _ _ (.inr rfl) (m hb).2
 have f:XO P (h6 (h6 b.1 1 0 b.2) 1 2 v):=MX;exact f.Dj _ _ _ _ _ _ (λh=>h.v) λ_=>GV.ja
def XO.fault{x:XP}(a:XO P x)(n:Int):XO P (i9 x n):=a.throw _<|GV.num n
def XO.reg{x:XP}(a:XO P x)(b:Int)(v:Vl)(f:XF P x->GV P v):XO P (kJ x b v):=by
 rcases a with e|a
 exact .inl e;refine .inr {a with r:=λc=>?_};show GV P (pN x.e.r b v c);unfold pN;split;exact f a;exact a.r c
def XO.go{x:XP}(a:XO P x)(pc:Int):XO P (rM x pc):=by
 rcases a with b|a
 exact .inl b;exact .inr {a with}
def XF.object{x:XP}(hx:XF P x)(v:Vl)(f:Int)(b:GV P v):XO P (ik x v f).1/\P (ik x v f).2.1:=by
 unfold ik;split
 .exact NG
 split
 .exact NG
 split
 .exact⟨XO.brk,hx.zero⟩
 split;exact NG;rename_i a _ _ _ _ _;exact⟨.inr hx,b<|zu a⟩
def XO.variable{x:XP}(e:XO P x)(n:Int):XO P (hI x n).1/\((hI x n).1.hM=false->(hI x n).2.2.2=true->P (hI x n).2.1):=by
 obtain⟨b,c⟩:=e.frame;unfold hI;simp only;generalize hO x=f at*;split
 .exact⟨b,λ_ a=>by cases a⟩
 split;exact⟨b.fault _,λ_ a=>by cases a⟩;exact⟨b,λa _=>c a⟩
def l_{e:Int}{a b:Vl}:GV P (iA e a b).1:=by
 have f:(iA e a b).1.r=false:=by
  unfold iA;split
  .rfl
  split
  .rfl
  unfold qj
  repeat' split
  all_goals rfl
 intro c;rw[f]at c;cases c
def XF.ip{x y:XP}(b:XF P x)(i:In)(h:ji x i=some y):XO P y:=by
 have a:XO P x:=.inr b;unfold ji at h;refine ic (R:=XO P) h (λ_=>a) λ_ h=>?_;refine ic (R:=XO P) h (λ_=>a.reg _ _ λ_=>GV.num _) λ_ h=>?_;refine ic (R:=XO P) h (λ_=>a.reg _ _ λ_ _=>b.zero) λ_ h=>?_;refine ic (R:=XO P) h (λ_=>a.reg _ _ λ_=>b.r _) λ_ h=>?_;refine ic (R:=XO P) h (λ_=>?_) λ_ h=>?_
 .split
  .exact a.fault _
  exact a.reg _ _ λ_=>l_
 refine ic (R:=XO P) h (λ_=>a.go _) λ_ h=>?_;refine ic (R:=XO P) h (λ_=>?_) λ_ h=>?_
 .split
  .exact a
  exact a.go _
 refine ic (R:=XO P) h (λ_=>.inr {b with r:=GV.ja}) λ_ h=>?_;refine ic (R:=XO P) h (λ_=>a.throw _<|b.r _) λ_ h=>?_;refine ic (R:=XO P) h (λ_=>?_) λ_ h=>?_
 .split
  .exact a.fault _
  exact .inr {b with}
 cases h
def XF.hH{x y:XP}(t:XF P x)(i:In)(h:kb x i=some y):XO P y:=by
 have D:XO P x:=.inr t;have C:∀F,GV P (x.sr F):=t.sr;unfold kb at h;by_cases g:i.op≠8/\i.op≠9/\i.op≠10/\i.op≠20
 .rw[L_ g]at h;cases h
 rw[K_ g]at h;obtain⟨m,z⟩:=XO.variable D i.n;dsimp only at h;generalize hI x i.n=a at*
 by_cases b:a.2.2.2=false
 .rw[L_ b]at h;injection h with h;subst h;exact m
 rw[K_ b]at h;have k:a.1.hM=false->P a.2.1:=λh=>z h<|zu b;refine ic (R:=XO P) h (λ_=>m.write _ _ _ (λh=>.inl<|k h) λ_=>C _) λ_ h=>?_;obtain⟨f,p⟩:=m.read a.2.1 a.2.2.1 λh=>.inl<|k h;generalize hQ a.1 a.2.1 a.2.2.1=c at*
 have u:c.1.hM=false->GV P c.2:=λh=>(p h).2;have A:c.1.hM=false->P a.2.1:=λh=>k (p h).1;have o:∀{j:XP},(c.1.hM=true->j.hM=true)->(c.1.hM=false->XF P c.1->XO P j)->XO P j:=by
  intro j g B;cases b:c.1.hM with
  |true=>exact .inl<|g b
  |false=>exact B b (f.resolve_left<|by rw[b];simp)
 refine ic (R:=XO P) h (λ_=>o (λh=>h) λh e=>(XO.reg (.inr e) _ _ λ_=>u h)) λ_ h=>?_;by_cases s:i.op=10
 .rw[L_ s]at h;refine ic (R:=XO P) h (λ_=>f.fault _) λ_ h=>?_;injection h with h;subst h;have E:=f.write a.2.1 a.2.2.1 (iA i.b c.2<|x.sr i.a.toNat).1 (λh=>.inl<|A h) λ_=>l_;rcases E with b|e
  exact .inl b;exact .inr {e with}
 rw[K_ s]at h;refine ic (R:=XO P) h (λ_=>f.fault _) λ_ h=>?_;injection h with h;subst h;exact o (λh=>h) λh e=>.inr {e with r:=e.sr,v:=u h}
structure EF(P:Int->Prop)(e:pC):Prop where
 r:∀i,GV P<|e.r i
 rs:∀c∈e.rs,(P c.id\/c.id=1)/\GV P c.v
 ws:∀c∈e.ws,(P c.id\/c.id=1)/\GV P c.v
 nw:∀o∈e.nw,GO P o
 v:GV P e.v
def EN(P:Int->Prop)(nx:Int)(e:pC):Prop:=(EF P e/\e.nw=[])\/(EF (λn=>P n\/n=nx) e/\∃fs,e.nw=[⟨nx,fs⟩])
def XR(P:Int->Prop)(nx:Int)(y:XP):Prop:=y.hM=true\/EN P nx y.e
def GV.mono{P Q:Int->Prop}(h:∀n,P n->Q n){v:Vl}(b:GV P v):GV Q v:=λa=>h _<|b a
def GO.mono{P Q:Int->Prop}(h:∀n,P n->Q n){b:Ob}(a:GO P b):GO Q b:=⟨h _ a.1,λe c=>(a.2 e c).mono h⟩
def EF.mono{P Q:Int->Prop}(h:∀n,P n->Q n){e:pC}(a:EF P e):EF Q e:=
 ⟨λg=>(a.r g).mono h,λb c=>⟨(a.rs b c).1.imp_left<|h _,(a.rs b c).2.mono h⟩,λb c=>⟨(a.ws b c).1.imp_left<|h _,(a.ws b c).2.mono h⟩,λi f=>(a.nw i f).mono h,a.v.mono h⟩
def EN.all{a:Int}{e:pC}(h:EN P a e)(c:P a):EF P e:=by
 rcases h with h|h
 exact h.1;exact h.1.mono λn b=>b.elim id λe=>e▸c
def XF.en{x:XP}(a:XF P x)(c:Int):EN P c x.e:=.inl ⟨⟨a.r,a.rs,a.ws,λe b=>(by rw[a.nw]at b;cases b),a.v⟩,a.nw⟩
def XO.xr{x:XP}(c:XO P x)(a:Int):XR P a x:=c.elim .inl λb=>.inr<|b.en a
def A5(x:XP)(id f:Int):(hQ x id f).1.nx=x.nx:=NE
def uQ(x:XP):(hO x).1.nx=x.nx:=by
 unfold hO;simp only;split;rfl;show(hQ (iv x) 1 0).1.nx=_;rw[A5];rfl
def XF.rest{x:XP}(c:XF P x)(i:In):XR P x.nx (jH x i):=by
 have s:XO P x:=.inr c;have r:∀M,GV P (x.sr M):=c.sr;have h:∀n,P n->(P n\/n=x.nx):=λn g=>.inl g;unfold jH;dsimp only;by_cases B:i.op=5
 .rw[L_ B];refine XO.xr ?_ _;obtain⟨j,u⟩:=c.object (x.sr i.b.toNat) i.n<|r _;generalize ik x (x.sr i.b.toNat) i.n=a at*
  by_cases t:a.2.2=true;rw[L_ t];obtain⟨be,bu⟩:=j.read a.2.1 i.n λ_=>.inl u;generalize hQ a.1 a.2.1 i.n=z at*;exact ML;rw[K_ t];exact j
 rw[K_ B];by_cases A:i.op=6
 .rw[L_ A];refine XO.xr ?_ _;obtain⟨j,u⟩:=c.object (x.sr i.b.toNat) i.n<|r _;generalize ik x (x.sr i.b.toNat) i.n=a at*
  by_cases t:a.2.2=true;rw[L_ t];exact j.write _ _ _ (λ_=>.inl u) λ_=>r _;rw[K_ t];exact j
 rw[K_ A];by_cases C:i.op=7
 .rw[L_ C];refine .inr (.inr ⟨⟨λp=>?_,λf b=>⟨(c.rs f b).1.imp_left .inl,(c.rs f b).2.mono h⟩,λf b=>⟨(c.ws f b).1.imp_left .inl,(c.ws f b).2.mono h⟩,λy s=>?_,c.v.mono h⟩,_,rfl⟩)
  .show GV _ (pN x.e.r i.a ⟨true,x.nx⟩ p);unfold pN;split;exact λ_=>.inr rfl;exact(c.r p).mono h
  have e:y=⟨x.nx,List.replicate i.n.toNat default⟩:=J_.1 s;rw[e];exact⟨.inr rfl,λN hv=>by rw[(ID.1 hv).2];exact GV.default⟩
 rw[K_ C];by_cases E:i.op=13
 .rw[L_ E];obtain⟨m,o⟩:=c.frame;have v:=uQ x;generalize hO x=a at*
  cases hb:a.1.hM with
  |true=>exact .inl rfl
  |false=>
   have k:XF P a.1:=m.resolve_left (by rw[hb];simp);have D:=o hb;refine .inr<|.inr ⟨⟨λp=>(k.r p).mono h,λf b=>⟨(k.rs f b).1.imp_left .inl,(k.rs f b).2.mono h⟩,λf b=>?_,λy s=>?_,k.v.mono h⟩,_,by rw[<-v];rfl⟩;rcases X_.1 b with b|b
   .exact⟨(k.ws f b).1.imp_left .inl,(k.ws f b).2.mono h⟩
   have e:f=⟨1,0,⟨true,a.1.nx⟩⟩:=J_.1 b;rw[e];exact⟨.inr rfl,λ_=>.inr v⟩;have e:y=⟨a.1.nx,[⟨true,a.2.1⟩,⟨false,a.1.j4+1⟩,default]++((List.range i.b.toNat).map a.1.sr++List.replicate (i.c-i.b).toNat default)⟩:=J_.1 s;rw[e];refine⟨.inr v,λN hv=>?_⟩;rcases X_.1 hv with hv|hv
   rcases N_.1 hv with e|hv
   .rw[e];exact λ_=>.inl D
   exact MH;rcases X_.1 hv with hv|hv
   .obtain⟨p,_,e⟩:=GJ.1 hv;rw[<-e];exact(k.sr p).mono h
   exact NM
 rw[K_ E];refine XO.xr ?_ _;by_cases l:i.op=14
 .rw[L_ l];obtain⟨m,o⟩:=c.frame;generalize hO x=a at*
  by_cases hb:a.1.hM=true
  .rw[L_ hb];exact m
  rw[K_ hb];have hb:a.1.hM=false:=zu hb;obtain⟨D,v⟩:=m.read a.2.1 0 λg=>.inl<|o g;generalize hQ a.1 a.2.1 0=k at*
  by_cases j:k.2.r=true/\k.2.n=0
  .rw[L_ j];exact D.Dj _ _ _ _ _ _ (λ_=>r _) λg=>g.sr
  rw[K_ j];obtain⟨K,I⟩:=D.read a.2.1 1 λg=>.inl<|o (v g).1;generalize hQ k.1 a.2.1 1=F at*;split;exact XO.brk;have J:XO P (h6 F.1 1 0 k.2):=K.write _ _ _ (λ_=>.inr rfl) λg=>(v (I g).1).2;have L:XO P (h6 (h6 F.1 1 0 k.2) 1 1<|x.sr i.a.toNat):=J.write _ _ _ (λ_=>.inr rfl) λ_=>r _;exact L.go _
 rw[K_ l];by_cases q:i.op=15\/i.op=18
 .rw[L_ q];have k:=c.root;generalize iv x=a at*
  by_cases hb:a.hM=true
  .rw[L_ hb];exact .inl hb
  rw[K_ hb];obtain⟨be,bu⟩:=XO.read (.inr k:XO P a) 1 (if i.op=15 then 1 else 2) λ_=>.inr rfl;generalize hQ a 1 (if i.op=15 then 1 else 2)=z at*;exact ML
 rw[K_ q];by_cases H:i.op=17
 .rw[L_ H];obtain⟨m,o⟩:=c.frame;generalize hO x=a at*;exact m.write _ _ _ (λg=>.inl<|o g) λ_=>GV.num _
 rw[K_ H];exact s
def XF.FW{x:XP}(a:XF P x)(pc:Int):XR P x.nx (nk x pc):=by
 unfold nk;split
 .dsimp only;split
  .exact .inl ‹_›
  have f:=a.root;obtain⟨c,e⟩:=XO.read (.inr f:XO P<|iv x) 1 2 λ_=>.inr rfl;generalize hQ (iv x) 1 2=g at*
  cases b:g.1.hM with
  |true=>
   refine XO.xr ?_ _;unfold iX hO iv;dsimp only;simp only[b,Ja,if_true];exact .inl rfl
  |false=>exact(c.throw _ (e b).2).xr _
 dsimp only;split
 .rename_i c b;exact(a.ip _ b).xr _
 split
 .rename_i c b;exact(a.hH _ b).xr _
 exact a.rest _
def EF.hM:EF P jl:=⟨λ_=>GV.default,λb a=>(by cases a),λb a=>(by cases a),λb a=>(by cases a),GV.default⟩
def XF.E9{x:XP}(b:XF P x)(pc:Int)(e:pc≠ -1)(d:(x.ju.getD pc.toNat default).op=20):XO P (nk x pc):=by
 unfold nk;rw[K_ e];dsimp only;split;rename_i f a;exact b.ip _ a;split
 .rename_i f a;exact b.hH _ a
 rename_i a;exfalso;unfold kb at a;rw[K_ λc=>c.2.2.2 d]at a;dsimp only at a;split at a
 .cases a
 rw[K_ (by rw[d];decide),K_ (by rw[d];decide),K_<|by rw[d];decide]at a;split at a<;>cases a
def vV{h:QQ}{r:Nat->Vl}(c:QR)(hH hC pc b:Int)(h0:P 0)(g:∀m∈h,GO P m)(e:∀i,GV P<|r i):EN P b (kR c hH hC pc r h b):=by
 unfold kR;split;exact .inl ⟨EF.hM,rfl⟩;dsimp only;have k:XF P ⟨c,hH,hC,pc,r,h,b,{lm with pc:=pc+1,r:=r},false⟩:=⟨h0,g,e,e,λc a=>(by cases a),λc a=>(by cases a),rfl,GV.default⟩;have j:=k.FW pc;split
 .exact .inl ⟨EF.hM,rfl⟩
 rename_i f;exact j.resolve_left f
def vo{h:QQ}{r:Nat->Vl}(c:QR)(hH hC pc f:Int)(d:iG c pc=20)(h0:P 0)(m:∀j∈h,GO P j)(g:∀i,GV P<|r i):EF P (kR c hH hC pc r h f)/\(kR c hH hC pc r h f).nw=[]:=by
 have p:¬(pc<0\/(c.length:Int)<=pc):=by
  intro h;unfold iG at d;rw[L_ h]at d;cases d
 have d:(c.getD pc.toNat default).op=20:=by unfold iG at d;rw[K_ p]at d;exact d
 unfold kR;split;exact⟨EF.hM,rfl⟩;dsimp only;have o:XF P ⟨c,hH,hC,pc,r,h,f,{lm with pc:=pc+1,r:=r},false⟩:=⟨h0,m,g,g,λc e=>(by cases e),λc e=>(by cases e),rfl,GV.default⟩;have b:=o.E9 pc X d;split
 .exact⟨EF.hM,rfl⟩
 rename_i k;have a:=b.resolve_left k;exact⟨⟨a.r,a.rs,a.ws,λj b=>(by rw[a.nw]at b;cases b),a.v⟩,a.nw⟩
end
section
def HG(P:Int->Prop)(h:QQ):Prop:=∀o∈h,GO P o
variable{P:Int->Prop}
def HG.mono{P Q:Int->Prop}(h:∀n,P n->Q n){l:QQ}(a:HG P l):HG Q l:=λc b=>(a c b).mono h
def HG.nil:HG P []:=λb a=>by cases a
def HG.kC{h:QQ}(i:HG P h)(id f:Int){v:Vl}(j:GV P v):HG P (kC h id f v):=by
 intro o g;unfold Go.Proofs.YtenbhdilndfaeaaGreat.kC at g;obtain⟨m,e,b⟩:=HP g;rw[IE]at e;rw[Hy]at b;have c:=i _<|P_ e;split at b;rw[<-b];refine⟨c.1,λk a=>?_⟩;rcases GX a with a|a
 exact c.2 k a;rw[a];exact j;rw[<-b];exact c
def HG.put{h:QQ}(c:HG P h){g:Ob}(m:GO P g):HG P (kS h g):=by
 have i:∀(e f:QQ),(∀b∈e,GO P b)->(∀b∈f,GO P b)->HG P (e++[g]++f):=by
  intro e f j k b a;rcases X_.1 a with a|a
  rcases X_.1 a with a|a
  .exact j b a
  rw[J_.1 a];exact m;exact k b a
 unfold kS;split;exact i _ _ (λb a=>c b<|Hk a) λb a=>c b<|If a;exact i _ _ (λb a=>c b<|Hk a) λb a=>c b<|If a
def HG.puts:∀(l:QQ) {h:QQ},HG P h->HG P l->HG P (l.foldl kS h)
 |[],_,a,_=>a
 |e::l,_,a,b=>HG.puts l (a.put<|b e GT) λx c=>b x<|Z_ _ c
def HG.oi{h:QQ}(a:HG P h){c:Cl}(hc:GV P c.v):HG P (oi h c):=by
 unfold Go.Proofs.YtenbhdilndfaeaaGreat.oi;split;exact a;exact a.kC _ _ hc
def HG.iL:∀(l:QV) {h:QQ},HG P h->(∀c∈l,GV P c.v)->HG P (iL h l)
 |[],_,a,_=>a
 |c::l,_,a,b=>HG.iL l (a.oi<|b c GT) λx e=>b x<|Z_ _ e
def HG.na{h:QQ}(a:HG P h)(d:Dl):HG P (na h d):=by
 unfold Go.Proofs.YtenbhdilndfaeaaGreat.na;split;exact a;split
 .exact a.kC _ _<|l_
 exact a
def HG.jz:∀(l:QC) {h:QQ},HG P h->HG P (jz h l)
 |[],_,a=>a
 |d::l,_,a=>HG.jz l<|a.na d
structure TG(P:Int->Prop)(t:iP):Prop where
 gs:∀c∈t.gs,GV P c.v
 rs:∀c∈t.rs,(P c.id\/c.id=1)/\GV P c.v
 ws:∀c∈t.ws,(P c.id\/c.id=1)/\GV P c.v
 nw:HG P t.nw
 r:∀i,GV P<|t.r i
 v:GV P t.v
def TG.mono{P Q:Int->Prop}(h:∀n,P n->Q n){t:iP}(a:TG P t):TG Q t:=
 ⟨λb c=>(a.gs b c).mono h,λb c=>⟨(a.rs b c).1.imp_left<|h _,(a.rs b c).2.mono h⟩,λb c=>⟨(a.ws b c).1.imp_left<|h _,(a.ws b c).2.mono h⟩,a.nw.mono h,λe=>(a.r e).mono h,a.v.mono h⟩
def HG.xC{rs:QV}:∀(l:QV) {h:QQ},HG P h->(∀c∈l,GV P c.v)->HG P (l.foldl (j0 rs) h)
 |[],_,a,_=>a
 |c::l,h,a,e=>by
  refine HG.xC l ?_ λx b=>e x<|Z_ _ b;unfold j0;split;exact HG.iL [c] a (λx b=>by rw[J_.1 b];exact e c GT);exact a
def TG.before{t:iP}(a:TG P t)(e:HG P view):HG P (before t view):=
 HG.iL _ (HG.xC _ e a.gs) λb c=>(a.rs b c).2
def TG.iR{t:iP}(a:TG P t)(e:HG P view):HG P (iR t view):=
 HG.jz _ (HG.iL _ (HG.puts _ (a.before e) a.nw) λb c=>(a.ws b c).2)
def TG.kG{t:iP}(a:TG P t){h:QQ}(e:HG P h):HG P (kG h t):=
 HG.jz _ (HG.iL _ (HG.puts _ e a.nw) λb c=>(a.ws b c).2)
def nT{l:QV}{c x:Cl}(a:x∈kc l c):x∈l\/x=c:=by
 unfold kc at a;split at a;exact GX a;rcases X_.1 a with a|a
 .exact .inl<|Hk a
 rcases X_.1 a with a|a
 .exact .inr<|J_.1 a
 exact .inl<|If a
def TG.jt{t:iP}(f:TG P t){c:Cl}(i:P c.id\/c.id=1)(hc:GV P c.v):TG P (jt t c):=by
 unfold Go.Proofs.YtenbhdilndfaeaaGreat.jt;split;refine{f with ws:=λb a=>?_};rcases nT a with a|a
 exact f.ws b a;rw[a];exact⟨i,hc⟩;refine{f with nw:=λm j=>?_};obtain⟨k,g,b⟩:=HP j;rw[IE]at g;rw[Hy]at b;have e:=f.nw _<|P_ g;split at b
 .rw[<-b];refine⟨e.1,λh a=>?_⟩;unfold tU at a;dsimp only at a;split at a
  .rcases GX a with a|a
   .exact e.2 h a
   rw[a];exact hc
  exact e.2 h a
 rw[<-b];exact e
def o3{t:iP}{c:Cl}:(jt t c).nw.map Ob.id=t.nw.map Ob.id:=by
 unfold jt;split;rfl;exact Np
def TG.jb{t t':iP}(c:TG P t)(g:HG P view){id f:Int}(e:P id\/id=1)(a:jb t view id f=some t'):TG P t'/\t'.nw.map Ob.id=t.nw.map Ob.id:=by
 unfold Go.Proofs.YtenbhdilndfaeaaGreat.jb at a;split at a
 .injection a with a;subst a;exact⟨c,rfl⟩
 split at a;cases a
 rename_i j k;have h:=uc (c.before g) k;split at a
 .cases a
 injection a with a;subst a;have b:TG P {t with rs:=kc t.rs ⟨id,f,j⟩,ds:=t.ds.eraseIdx (pk t.ds id f).toNat}:=by
  refine{c with rs:=λm b=>?_};rcases nT b with b|b
  exact c.rs m b;rw[b];exact⟨e,h⟩
 refine⟨b.jt e ?_,o3⟩;show GV P ((iw (Go.Proofs.YtenbhdilndfaeaaGreat.iR t view) id f).getD default);cases i:iw (Go.Proofs.YtenbhdilndfaeaaGreat.iR t view) id f with
 |none=>exact GV.default
 |some o=>exact uc (c.iR g) i
def TG.take{t t':iP}(b:TG P t){d:Dl}(a:take t d=some t'):TG P t'/\t'.nw=t.nw:=by
 unfold Go.Proofs.YtenbhdilndfaeaaGreat.take at a;split at a
 .cases a
 split at a
 .injection a with a;subst a;exact⟨{b with},rfl⟩
 split at a;cases a
 injection a with a;subst a;exact⟨{b with},rfl⟩
def TG.jf:∀(l:QC) {t:iP} (rs ws:QV),TG P t->TG P (jf t rs ws l).1/\(jf t rs ws l).1.nw=t.nw/\(∀c∈(jf t rs ws l).2.1,c∈rs)/\(∀c∈(jf t rs ws l).2.2,c∈ws)
 |[],_,_,_,a=>⟨a,rfl,λ_ h=>h,λ_ h=>h⟩
 |d::l,t,rs,ws,a=>by
  unfold Go.Proofs.YtenbhdilndfaeaaGreat.jf;cases m:Go.Proofs.YtenbhdilndfaeaaGreat.take t d with
  |none=>exact TG.jf l rs ws a
  |some t'=>
   obtain⟨f,b⟩:=a.take m;obtain⟨j,i,g,k⟩:=TG.jf l (jj rs d) (jj ws d) f;exact⟨j,i.trans b,λc e=>(H6.1<|g c e).1,λc e=>(H6.1<|k c e).1⟩
def TG.jB{view:QQ}(j:HG P view):∀(l:QV) {t t':iP},TG P t->(∀c∈l,(P c.id\/c.id=1)/\GV P c.v)->jB view t l=some t'->TG P t'/\t'.nw.map Ob.id=t.nw.map Ob.id
 |[],t,t',f,_,b=>by injection b with b;subst b;exact⟨f,rfl⟩
 |c::l,t,t',f,i,b=>by
  unfold Go.Proofs.YtenbhdilndfaeaaGreat.jB at b;cases a:m8 view t c with
  |none=>rw[a]at b;cases b
  |some k=>
   rw[a]at b;have hc:=i c GT;have h:TG P k/\k.nw.map Ob.id=t.nw.map Ob.id:=by
    unfold m8 at a;split at a
    .injection a with a;subst a;exact⟨f,rfl⟩
    split at a;exact f.jb j hc.1 a;injection a with a;subst a;refine⟨{f with rs:=λg e=>?_},rfl⟩;rcases nT e with e|e
    exact f.rs g e;rw[e];exact hc
   obtain⟨m,o⟩:=TG.jB j l h.1 (λg e=>i g<|Z_ _ e) b;exact⟨m,o.trans h.2⟩
def TG.j6{view:QQ}(k:HG P view):∀(l:QV) {t t':iP},TG P t->(∀c∈l,(P c.id\/c.id=1)/\GV P c.v)->j6 view t l=some t'->TG P t'/\t'.nw.map Ob.id=t.nw.map Ob.id
 |[],t,t',h,_,b=>by injection b with b;subst b;exact⟨h,rfl⟩
 |c::l,t,t',h,j,b=>by
  unfold Go.Proofs.YtenbhdilndfaeaaGreat.j6 at b;cases a:pw view t c with
  |none=>rw[a]at b;cases b
  |some m=>
   rw[a]at b;have hc:=j c GT;have i:TG P m/\m.nw.map Ob.id=t.nw.map Ob.id:=by
    unfold pw at a;cases f:Go.Proofs.YtenbhdilndfaeaaGreat.jb t view c.id c.f with
    |none=>rw[f]at a;cases a
    |some q=>
     rw[f]at a;injection a with a;subst a;obtain⟨e,g⟩:=h.jb k hc.1 f;exact⟨e.jt hc.1 hc.2,(o3).trans g⟩
   obtain⟨e,g⟩:=TG.j6 k l i.1 (λp o=>j p<|Z_ _ o) b;exact⟨e,g.trans i.2⟩
def TG.record{t t':iP}(z:TG P t)(m:HG P view){e:pC}(j:EF P e)(a:record t view e=some t'):TG P t'/\t'.nw.map Ob.id=t.nw.map Ob.id++e.nw.map Ob.id:=by
 unfold Go.Proofs.YtenbhdilndfaeaaGreat.record at a;dsimp only at a;obtain⟨p,G,q,r⟩:=TG.jf e.ds e.rs e.ws z;generalize Go.Proofs.YtenbhdilndfaeaaGreat.jf t e.rs e.ws e.ds=f at*
 cases g:Go.Proofs.YtenbhdilndfaeaaGreat.jB view f.1 f.2.1 with
 |none=>rw[g]at a;cases a
 |some c=>
  rw[g]at a;dsimp only at a;obtain⟨k,v⟩:=TG.jB m _ p (λb i=>j.rs b<|q b i) g;have A:TG P {c with nw:=c.nw++e.nw}:={k with nw:=λo y=>(X_.1 y).elim (k.nw o) (j.nw o)};cases h:Go.Proofs.YtenbhdilndfaeaaGreat.j6 view {c with nw:=c.nw++e.nw} f.2.2 with
  |none=>rw[h]at a;cases a
  |some s=>
   rw[h]at a;injection a with a;subst a;obtain⟨x,u⟩:=TG.j6 m _ A (λb i=>j.ws b<|r b i) h;refine⟨{x with},?_⟩;show s.nw.map Ob.id=_;rw[u];show(c.nw++e.nw).map Ob.id=_;rw[GN,v,G]
def qN(t:iP):Int:=(t.run+1)*1048576+t.nw.length
def TG.step{t:iP}(g:TG P t)(k:HG P view)(h0:P 0)(c:QR)(hH hC:Int)(d:QS):
 (TG P (iT c hH hC d t view)/\(iT c hH hC d t view).nw.map Ob.id=t.nw.map Ob.id)\/
 (TG (λn=>P n\/n=qN t) (iT c hH hC d t view)/\(iT c hH hC d t view).nw.map Ob.id=t.nw.map Ob.id++[qN t]):=by
 have u:=vV c hH hC t.pc (qN t) h0 (g.iR k) g.r;have p:TG P (nE t):={g with};unfold iT;dsimp only;rw[show(t.run+1)*1048576+(t.nw.length:Int)=qN t from rfl];generalize kR c hH hC t.pc t.r (Go.Proofs.YtenbhdilndfaeaaGreat.iR t view) (qN t)=a at*;split
 .exact .inl ⟨p,rfl⟩
 split
 .exact .inl ⟨{g with},rfl⟩
 cases s:Go.Proofs.YtenbhdilndfaeaaGreat.record t view a with
 |none=>exact .inl ⟨p,rfl⟩
 |some b=>
  dsimp only;have o:∀{Q:Int->Prop} {l:QS},EF Q a->TG Q b/\b.nw.map Ob.id=l->TG Q (if a.h7=2 then{b with pc:=a.pc,r:=a.r,hK:=b.hK+1,h5:=3,hX:=a.hX,v:=a.v}
   else if a.h7=1/\(i7 (λm=>m==a.kw) d=true\/64<=b.hK+1\/jI c hH hC a.pc=true) then{b with pc:=a.pc,r:=a.r,hK:=b.hK+1,h5:=2,next:=a.pc}
   else{b with pc:=a.pc,r:=a.r,hK:=b.hK+1})/\(if a.h7=2 then{b with pc:=a.pc,r:=a.r,hK:=b.hK+1,h5:=3,hX:=a.hX,v:=a.v}
   else if a.h7=1/\(i7 (λm=>m==a.kw) d=true\/64<=b.hK+1\/jI c hH hC a.pc=true) then{b with pc:=a.pc,r:=a.r,hK:=b.hK+1,h5:=2,next:=a.pc}
   else{b with pc:=a.pc,r:=a.r,hK:=b.hK+1}:iP).nw.map Ob.id=l:=by
   intro Q l e⟨i,j⟩;split
   .exact⟨{i with r:=e.r,v:=e.v},j⟩
   split;exact⟨{i with r:=e.r},j⟩;exact⟨{i with r:=e.r},j⟩
  rcases u with⟨e,h⟩|⟨e,x,h⟩
  have f:=g.record k e s;rw[h]at f;exact .inl<|o e<|zu f;have f:=(g.mono (Q:=λn=>P n\/n=qN t) λn f=>.inl f).record (k.mono λn f=>.inl f) e s;rw[h]at f;exact .inr<|o e<|zu f
end
def wf64_0:m5 0:=WalkArith.wf_i64 X
def wf64_1:m5 1:=WalkArith.wf_i64 X
def wf64_2:m5 2:=WalkArith.wf_i64 X
def Dg{t:iP}(h0:0<=t.run)(a:t.run<=1099511627776)(b:t.nw.length<=500000):m5 (qN t):=by
 unfold qN;exact WalkArith.wf_i64 X
def TG.Bj{t:iP}(h:TG m5 t)(i:HG m5 view)(c:QR)(hH hC:Int)(d:QS)(h0:0<=t.run)(e:t.run<=1099511627776)(f:t.nw.length<=500000):TG m5 (iT c hH hC d t view):=by
 rcases h.step i wf64_0 c hH hC d with a|a
 exact a.1;exact a.1.mono λn g=>g.elim id λb=>b▸Dg h0 e f
def TG.BD{l:QR}{hH hC:Int}{d:QS}{view:QQ}(i:ih l hH hC=true)(f:l.length<=2048)(e:HG m5 view):∀(n:Nat) (t:iP),(t.h5=0->Way l t)->TF t->TG m5 t->0<=t.run->t.run<=1099511627776->TG m5 (oB l hH hC d view n t)
 |0,_,_,_,a,_,_=>a
 |n+1,t,j,c,a,h0,b=>by
  unfold oB;split;rename_i h;obtain⟨k,m⟩:=pL (d:=d) (view:=view) i f (j h) c h;have g:=lu l hH hC d t view;exact TG.BD i f e n _ m k (a.Bj e l hH hC d h0 b c.sm.nw) (by rw[g];exact h0) (by rw[g];exact b);exact a
def TG.begin{P:Int->Prop}(l:QR)(hH hC hT run:Int)(ip:Bool):TG P (jm l hH hC hT run ip).1:=by
 have z:∀b:iP,b.gs=[]->b.rs=[]->b.ws=[]->b.nw=[]->b.r=ja->b.v=default->TG P b:=λb e f g d h i=>
  ⟨λc a=>(by rw[e]at a;cases a),λc a=>(by rw[f]at a;cases a),λc a=>(by rw[g]at a;cases a),λc a=>(by rw[d]at a;cases a),λj=>by rw[h];exact GV.default,by rw[i];exact GV.default⟩
 exact KW
def nZ(l:QR)(hH hC hT run:Int)(ip:Bool):(jm l hH hC hT run ip).1.run=run\/(jm l hH hC hT run ip).1.run=0:=by
 unfold jm;split
 .exact .inr rfl
 split
 .exact .inr rfl
 split;exact .inl rfl;exact .inl rfl
def ul{l:QR}{hH hC:Int}{d:QS}(c:ih l hH hC=true)(a:l.length<=2048){s:qB}{run:Int}(b:HG m5 s.h)(h0:0<=run)(e:run<=1099511627776):TG m5 (nu l hH hC d s run):=by
 have f:=nZ l hH hC s.hT run true;exact TG.BD c a b _ _ (λ_=>nY) (qs a) (TG.begin _ _ _ _ _ _) X X
def HG.hT{P:Int->Prop}(hH:Int)(h0:P 0)(h:P 1)(c:P 2):HG P (startHeap hH):=by
 have g:∀(n:Int) (e:Nat),P n->∀f∈(⟨true,n⟩::List.replicate e default:QB),GV P f:=by
  intro n e i f hv;rcases N_.1 hv with b|hv
  rw[b];exact λ_=>i;exact NM
 intro j a;unfold startHeap at a;rcases N_.1 a with b|a
 rw[b];exact⟨h,g _ _ c⟩;rw[J_.1 a];exact⟨c,g _ _ h0⟩
def HG.lk{P:Int->Prop}{h:QQ}{e:pC}(f:HG P h)(a:EF P e):HG P (lk h e):=
 HG.iL _ (HG.puts _ f a.nw) λb c=>(a.ws b c).2
def HG.mU{P:Int->Prop}(l:QR){h:QQ}(pc a:Int)(b:HG P h):HG P (mU l h pc a):=b.oi<|GV.num _
def ur{l:QR}{hH hC:Int}{s:qB}{e:pC}(h:¬mF l hH hC s e=true):s.jO=false/\iG l s.hT=20/\e.h7≠4:=by
 unfold mF at h;have h:¬(s.jO=true\/jI l hH hC s.hT=false\/e.h7=4):=zu h;refine⟨by cases b:s.jO with|false=>rfl|true=>exact GR (.inl b) h,?_,λc=>h<|.inr<|.inr c⟩;cases a:jI l hH hC s.hT with
 |false=>exact GR (.inr<|.inl a) h
 |true=>
  unfold jI at a;rw[G4]at a;simpa using a.2
def HG.n6{P:Int->Prop}(l:QR)(hH hC:Int)(k8:QS){s:qB}(h0:P 0)(a:HG P s.h):HG P (n6 l hH hC k8 s).1.h:=by
 unfold Go.Proofs.YtenbhdilndfaeaaGreat.n6;split
 .exact HG.nil
 split;exact HG.nil;rename_i c;obtain⟨_,d,_⟩:=ur c;obtain⟨b,f⟩:=vo l hH hC s.hT 0 d h0 a (λ_=>GV.default:∀e,GV P<|ja e);unfold oT;split
 .exact a.mU _ _ _
 split;exact a.lk b;exact a.lk b
def HG.kY{P:Int->Prop}{s:qB}{t:iP}(a:HG P s.h)(b:TG P t)(ok:Bool):HG P (kY ok s t).1.h:=by
 unfold Go.Proofs.YtenbhdilndfaeaaGreat.kY;split
 .exact HG.nil
 split
 .exact HG.nil
 split;exact HG.nil;unfold l7;split
 .exact b.kG a
 exact b.kG a
def vH.EU{l:QR}{hH hC:Int}{d k8:QS}{k:Nat}{run:Int}{s:qB}(b:ih l hH hC=true)(h:vH l hH hC d k8 k run s)(f:k<=1000000):HG m5 s.h:=by
 have c:=kq b;induction h with
 |hT=>exact HG.hT _ wf64_0 wf64_1 wf64_2
 |ask _ _ _ a=>exact HG.n6 _ _ _ _ wf64_0<|a X
 |commit h _ _ a=>
  have e:=h.cb b;exact HG.kY (a X) (ul b c.2.1 (a X) e.2.1 X) true
def HG.j3{P:Int->Prop}{h:QQ}{ts:QA}(b:HG P h)(a:∀t∈ts,TG P t)(k:Int):HG P (j3 h ts k):=by
 unfold Go.Proofs.YtenbhdilndfaeaaGreat.j3;have a:∀t∈ts.take k.toNat,TG P t:=λt h=>a t<|Hk h;generalize ts.take k.toNat=l at*
 induction l generalizing h with
 |nil=>exact b
 |cons t l c=>exact c ((a t GT).kG b) λf e=>a f<|Z_ _ e
def vD.EU{l:QR}{hH hC:Int}{d:QS}{h:QQ}{run:Int}{ts:QA}(q:ih l hH hC=true)(p:l.length<=2048)(g:vD l hH hC d h run n ts)(o:HG m5 h)(h0:0<=run)(r:run<=1000000000):∀t∈ts,TG m5 t/\0<=t.run/\t.run<=1000000016:=by
 induction g with
 |hT ts iS f=>
  intro t a;obtain⟨e,b,rfl⟩:=HP a;obtain⟨j,i,_,c⟩:=f e b;have k:=nZ l hH hC j (run+e) i;rw[c];exact⟨TG.begin _ _ _ _ _ _,X,X⟩
 |step e b k s c=>
  intro t a;rcases GX a with a|rfl
  exact c t a;obtain⟨i,f,j⟩:=c _<|P_ b;have m:=(k.tf q p _<|P_ b).1;rw[lu];exact⟨i.Bj (o.j3 (λt a=>(c t a).1) _) l hH hC d f X m.sm.nw,f,j⟩
section
structure PX(P:Int->Prop)(R:Int):Prop where
 r:0<=R
 z:P 0
 o:P 1
 t:P 2
 nx:∀(run:Int) (k:Nat),0<=run->run<=R->k<=500000->P ((run+1)*1048576+k)
variable{P:Int->Prop}{R:Int}
def TG.E0(b:PX P R){t:iP}(i:TG P t)(j:HG P view)(c:QR)(hH hC:Int)(d:QS)(h0:0<=t.run)(f:t.run<=R)(g:t.nw.length<=500000):TG P (iT c hH hC d t view):=by
 rcases i.step j b.z c hH hC d with a|a
 exact a.1;exact a.1.mono λn h=>h.elim id λe=>e▸b.nx _ _ h0 f g
def TG.E4(j:PX P R){l:QR}{hH hC:Int}{d:QS}{view:QQ}(i:ih l hH hC=true)(f:l.length<=2048)(e:HG P view):∀(n:Nat) (t:iP),(t.h5=0->Way l t)->TF t->TG P t->0<=t.run->t.run<=R->TG P (oB l hH hC d view n t)
 |0,_,_,_,a,_,_=>a
 |n+1,t,k,c,a,h0,b=>by
  unfold oB;split;rename_i h;obtain⟨m,o⟩:=pL (d:=d) (view:=view) i f (k h) c h;have g:=lu l hH hC d t view;exact TG.E4 j i f e n _ o m (a.E0 j e l hH hC d h0 b c.sm.nw) (by rw[g];exact h0) (by rw[g];exact b);exact a
def AD(b:PX P R){l:QR}{hH hC:Int}{d:QS}(e:ih l hH hC=true)(a:l.length<=2048){s:qB}{run:Int}(c:HG P s.h)(h0:0<=run)(f:run<=R):TG P (nu l hH hC d s run):=by
 have g:=nZ l hH hC s.hT run true;exact TG.E4 b e a c _ _ (λ_=>nY) (qs a) (TG.begin _ _ _ _ _ _) X<|ov b.r
def vH.gX(a:PX P R){l:QR}{hH hC:Int}{d k8:QS}{k:Nat}{run:Int}{s:qB}(c:ih l hH hC=true)(h:vH l hH hC d k8 k run s)(g:(k:Int)<=R):HG P s.h:=by
 have e:=kq c;induction h with
 |hT=>exact HG.hT _ a.z a.o a.t
 |ask _ _ _ b=>exact HG.n6 _ _ _ _ a.z<|b X
 |commit h _ _ b=>
  have f:=h.cb c;exact HG.kY (b X) (AD a c e.2.1 (b X) f.2.1 X) true
def Sm(n:Int):Prop:=0<=n/\n<=40000000
def E7:PX Sm 32:=⟨by decide,⟨by decide,by decide⟩,⟨by decide,by decide⟩,⟨by decide,by decide⟩,λrun k h0 h1 hk=>⟨by omega,by omega⟩⟩
def HG.ids{h:QQ}(b:HG P h):∀a∈h,P a.id:=λa c=>(b a c).1
end
