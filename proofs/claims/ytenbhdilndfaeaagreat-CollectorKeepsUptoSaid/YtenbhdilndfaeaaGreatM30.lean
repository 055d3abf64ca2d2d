import Derived.Test.YtenbhdilndfaeaaGreatM20
import Derived.Test.YtenbhdilndfaeaaGreatM27
import Derived.Test.YtenbhdilndfaeaaGreatM29
set_option maxRecDepth 100000
set_option maxHeartbeats 0
set_option linter.all false
namespace Go.Proofs.YtenbhdilndfaeaaGreat
open Go.RowKit Go.Proofs.Tryz
variable{G:Prop}{w:World}{n:Nat}{view:QQ}(PA:Option Addr)
def KU(h:G:=by
 rcases hx with hb|hx
 have hk:(hT x).1.hO=true:=by unfold hT iJ;simp[hb]
 exact⟨.inl hk,λh=>by rw[hk]at h;cases h⟩;exact hx.frame):G:=h
def K5(h:G:=by
 have hk:(hW x id f).1.hO=true:=by
  unfold hW;split;rfl;split<;>exact hb
 exact⟨.inl hk,λh=>by rw[hk]at h;cases h⟩):G:=h
def Mj(h:G:=by
 cases hb:z.1.hO with
 |true=>exact .inl hb
 |false=>exact a7.reg _ _ λ_=>(a6 hb).2):G:=h
def Mr(h:G:=by
 rcases h1 with h|h
 exact .inl h;exact .inr (h.write _ _ _ (.inr rfl) hv)):G:=h
def MX(h:G:=by
 show((s.h8++t.h8).length:Int)<=((k+1:Nat):Int)*500000;rw[I_];omega):G:=h
def Na(h:G:=by
 exact⟨XO.fault (.inr hx) _,hx.zero⟩):G:=h
def Nb(h:G:=by
 show s.hK+1<=((k+1:Nat):Int)*3001;omega):G:=h
def Nf(h:G:=by
 exact z _ rfl rfl rfl rfl rfl rfl):G:=h
def Nh(h:G:=by
 show s.jn<=((k+1:Nat):Int);omega):G:=h
def EH(w:World)(e:Ending)(w':World):Prop:=∃(A:OA) (c:Nat) (l:QS) (hH hC:Int),e=.returned (.tuple #[.agg #[.slice A l.length c,Y hH,Y hC],Y 0])/\Is w' A l/\ia l hH hC=true/\l.length<=c/\J [] w w'
def GS.zero(PA:Option Addr)(c:Nat):GS:=⟨.slice PA 3 c,none,0,[],none,0,[],0,none,0,[],none,0,[],none,0,[],0,0,none,0,[],[]⟩
def ni.new(w:World)(PA:Option Addr)(c:Nat):ni w.heap.size (w.alloc (.cells #[.slice PA 3 c,n_,Y 0,n_,n_,n_,n_,Y 0,Y 0,n_] 210)) w.heap.size (GS.zero PA c):=by
 refine⟨P_ w 210 #[.slice PA 3 c,n_,Y 0,n_,n_,n_,n_,Y 0,Y 0,n_],H_ _,iS _ _ _ _,iS _ _ _ _,iS _ _ _ _,λf a=>(by cases a),ID,λe b=>?_,by simp[GS.zero,GS.rows,Value.ownBlock],GU _ _ _ _,by simp⟩;have:e=(n_,[]):=by simpa[GS.zero,GS.rows]using b
 subst this;exact iS _ _ _ _
def C1.zero(c:Nat):C1 0 (.slice PA 3 c) 0 (GS.zero PA c).lg:=
 ⟨rfl,rfl,rfl,λb a=>(by cases a),λb a=>(by cases a),H_ _,rfl,rfl,.inl ⟨rfl,rfl,rfl,rfl⟩⟩
def ub(Ns:QY)(k:Nat):Nat:=30*(Ns.take k).sum+3*k
def zv{q:Nat->Prop}{PA:OA}(c:Nat){fs:QF}(Ns:QY)(w:World)(al:CG q w PA fs Ns):
 Calls prog 88 #[.agg #[.slice PA 3 c]] w (EH w):=by
 refine h6 λan ao=>?_;obtain⟨bu,bB,bt,a7,a6⟩:=info_parts infoInt;obtain⟨aA,gx,L,aV,hx,e4,hg,hB,hR⟩:=tP w 150 #[.slice PA 3 c] 26 #[n_,Y 0,Y 0];have bd:aA.cell? (Z gx 0)=some (.slice PA 3 c):=hB.f_ 0;have M:=O (al.hF hg);clear al;go_enter func88,ntmps88;go_wp2_with fail;go_at_call 134;refine(wI q PA c fs Ns aA M.out).mono ?_;rintro e w2⟨rfl,W⟩;have ah:w2.cell? (Z gx 0)=some (.slice PA 3 c):=(hB.hF W).f_ 0;have eP:=O (ni.new w2 PA c);have bf:=(F_ [] w2).alloc (.cells #[.slice PA 3 c,n_,Y 0,n_,n_,n_,n_,Y 0,Y 0,n_] 210);obtain⟨ar,b,ce,dZ,_,_⟩:=box1 w2 210 #[.slice PA 3 c,n_,Y 0,n_,n_,n_,n_,Y 0,Y 0,n_];rw[ce,dZ]at eP;rw[ce]at bf;have ay:ar.cell? (Z gx 0)=some (.slice PA 3 c):=(hB.hF (W.trans bf)).f_ 0;clear bd;go_upto_region 6 with fail;have dJ:=M.out.pc;have eV:nu ar (.slice PA 3 c):=⟨PA,c,fs,rfl,dJ.len,Sl.hF dJ.hfs (W.trans bf),dJ.i1,dJ.i2⟩;have fD:=O eV;have dC:=O (M.out.hF (W.trans bf));have bq:=hB.hF (W.trans bf);have cG:=hR.hF (W.trans bf);have fO:=hg.trans (W.trans bf);have f4:=O dZ;have et:w2.heap.size<=b:=by omega
 have e7:w.heap.size<=b/\w.heap.size<=L:=by have C:=hg.size;have y:=W.size;omega
 have f1:=O ce;clear dJ eV ah ay aV hx e4 ce dZ hB hR hg W;have bJ:lM b ar b (GS.zero PA c).lg:=⟨_,rfl,eP.out⟩;go_loopw [25] (λaq w'=>∃(g:Nat) (a:iX),g<=3/\aq=Y g/\lM b w' b a/\C1 g (.slice PA 3 c) (ub Ns g) a/\Gt b gT ar w') (λaq _=>3-(intOf aq).toNat)
 case atStart=>exact⟨0,_,X,gn,bJ,C1.zero PA c,.refl _ _ _⟩
 obtain⟨g,a,hk,rfl,Nv,hL,Q⟩:=hrel;clear bJ;by_cases ag:g<3
 .have E:g<fs.length:=ov M.out.pg.len;have a8:g<Ns.length:=ov M.out.pg.nl;have hfs:=Sl.gt dC.out.pg.hfs Q I;obtain⟨bh,off,hA,z0,aR,aZ⟩:=B1.at_ hfs E;have bm:=(dC.out.pg.rd _ (N_ E)).gt Q I I I;obtain⟨_,bI,b4⟩:=M.out.pg.nm _ (N_ E);have bX:=M.out.pg.sg g E a8;have bG:=M.out.vs g E a8;obtain⟨d6,eJ⟩:=pq Ns g a8;have cR:=M.out.pg.sum;have eh:Ns[g]<=64:=X;have hls:ub Ns (g+1)=ub Ns g+30*Ns[g]+3:=by unfold ub;omega
  have gj:ub Ns (g+1)<=2048:=by unfold ub;omega
  obtain⟨f,hf⟩:=nm_ (fs[g]);obtain⟨bv,bx⟩:=nm_ (Ns[g]);rw[<-hf]at z0 aR aZ bm bI b4 bX bG;rw[<-bx]at bX bG eh hls;have iF:=hL.len;have b5:ub Ns g<=2048:=X;have dD:decide ((g:Int)<3)=true:=p_;have ck:wr.cell? (Z gx 0)=some (.slice PA 3 c):=(bq.gt Q I).f_ 0;have cb:=O bm;have br:=O bI;have cZ:=O bX;have cI:=O bG;have t:=O hL;have eQ:=O hls;have ap:=O hf;have fe:=O hA;obtain⟨bO,V,b6,bK,cF,bR⟩:=box1 wr 213 #[.string f.name,.slice f.AP f.ps.length f.cP,.slice f.A f.bs.length f.c];obtain⟨cS,aH,e1⟩:=bR.nQ;rw[hA];have av:=O (sO ig (by rw[sk];decide) 5 bv f q bO (cb.out.hF cF) cZ.out X br.out X);obtain⟨s,u,z⟩:=Nv;have bD:=O u;have fq:=O z;clear hf bx bm bI bX bG hL hls hA d6 eJ cR hfs u z;go_wp2_with fail;refine av.out.mono ?_;rintro e o⟨aW,c5,vs,rfl,aO,eA,eI,eE,eB,N⟩;have cr:vs.length<=9:=by have h:=ly vs ig eA eI;rw[sk]at h;exact h
  have cn:=cF.trans N;have D:=fq.out.hF cn;have aI:o.cell? (Z b 6)=some (.slice s.VA s.vs.length s.vc):=D.hg.f_ 6;have bi:o.cell? (Z b 7)=some (Y s.hidden):=D.hg.f_ 7;have cq:o.cell? (Z b 8)=some (Y s.most):=D.hg.f_ 8;have f6:=D.hg.hG 6;have f7:=D.hg.hG 7;have f8:=D.hg.hG 8;clear cS aH e1 z0 aR aZ ck;go_upto_region 9 with fail;obtain⟨U,aC⟩:=D.Ch aW c5 vs aO;obtain⟨az,cw⟩:=nm_ (((o.setCell (Z b 6) (.slice aW vs.length c5)).setCell (Z b 7) (Y 0)).setCell (Z b 8) (Y 0));rw[<-cw]at U aC |-;clear cw aI bi cq f6 f7 f8 D;obtain⟨j,eH⟩:=nm_ ({s with VA:=aW,vc:=c5,vs:=vs,hidden:=0,most:=0});rw[<-eH]at U
  have db:j.lg={a with vs:=vs,hidden:=0,most:=0}:=by rw[eH,<-bD.out];rfl
  have cC:=(bR.hF N).gt aC I;have dr:=(Q.trans (.jD cn)).trans aC;have fV:j.rt++j.os=[]:=by
   have C:j.os.map (λF=>(F.box,F.is))=[]:=(Z_ iX.ats db).trans t.out.ats;have y:j.rt.map (λF=>(F.box,F.is))=[]:=(Z_ iX.rts db).trans t.out.rts;rw[List.map_eq_nil_iff]at C y;rw[C,y];rfl
  have ey:j.l=a.l:=Z_ iX.l db;have d5:j.hC=a.hC:=Z_ iX.hC db;have eo:j.es=a.es:=Z_ iX.es db;have ea:=O t.out.mark;have e2:j.l.length<=100000:=by rw[ey];omega
  have fW:0<=j.hC:=by rw[d5];exact ea.out.2.1
  have fX:j.hC<=100000:=by rw[d5];have:=ea.out.2.2;omega
  have gf:j.es.length<=3:=by rw[eo,t.out.el];omega
  have fG:=O db;have fC:=O ey;have fH:=O d5;have fm:=O eo;clear eH db ey d5 eo;have z3:az.cell? (Z b 3)=some (.slice j.EA j.es.length j.ec):=U.hg.f_ 3;refine hN (λw'=>w'.cell? (Z b 3)=some (.slice j.EA j.es.length j.ec)) 11 k_ ?_;refine mC (z3) λm=>?_;repeat refine j2 m ?_
  refine hY 6 λr k=>?_;go_simp;go_at_call 136;refine(rU b b j az.drew (U.hF (F_ [] _).drew) e2 fW fX).mono ?_;rintro e S⟨fy,gm,rfl,c9,aP,e0⟩;clear m;refine h4 k (c9.hg.f_ 3) λm=>?_;clear k r z3;try simp only[a_]
  refine hY 7 λr k=>?_;go_simp;refine k.out _ _ (λ_=>jB m _) ?_;clear k r m;have bn:Sl (S.alloc (.cells #[Y j.l.length] 3)) 3 1 (j_ S.heap.size) 1 [Y j.l.length]:=jh (n:=1) (s:=1) (P_ S 3 _) rfl;have cV:=c9.hF ((F_ [] S).alloc (.cells #[Y j.l.length] 3));have dt:=((dr.trans (.jD (F_ [] az).drew)).trans aP).trans (.jD ((F_ [] S).alloc (.cells #[Y j.l.length] 3)));have bE:=(cC.drew.gt aP I).alloc (.cells #[Y j.l.length] 3);obtain⟨bN,di⟩:=nm_ (S.alloc (.cells #[Y j.l.length] 3));rw[<-di]at bn cV dt bE |-;clear di c9;have dQ:=cV.hi (.slice j.EA j.es.length j.ec,j.es) (by simp[GS.rows])
  try simp only[a_]
  refine hY 8 λr k=>?_;refine ot rfl (.tmp 44) (.tmp 47) 30 rfl b 3 bu 1 8 underlying30 bB bt a7 a6 rfl I I j.EA j.es.length j.ec rfl dQ 1 1 rfl bn (by intro v hu;simp at hu;subst hu;rfl) X cV.hz ?_;intro cy cK Nr dn dO eD;obtain⟨dX,c8,cp⟩:=cV.Ep fV cy cK _ dO dn eD;have bL:=(mW.app (e:=213) dO dQ I).bk bE;refine h4 k (dX.f_ 3) λm=>?_;clear k r;(repeat refine j2 m ?_);have dB:=dX.hG 3;refine hY 11 λr k=>?_;go_simp;refine k.out _ _ (λh=>Gc h I) ?_;clear k r dB;refine hM k_ ?_ _;have cY:=bL.ih (p:=(Z b 3)) (bL.l8 dX I) (.slice cy (j.es.length+1) cK);obtain⟨ct,e5⟩:=nm_ (Nr.setCell (Z b 3) (.slice cy (j.es.length+1) cK));rw[<-e5]at c8 cp cY |-;have er:=dt.trans cp;clear e5 m dX cV U bL dt dr;obtain⟨A,P⟩:=nm_ ({a with vs:=vs,hidden:=0,most:=0,l:=a.l++[⟨21,0,0,0,a.hC⟩],hC:=a.hC+1,es:=a.es++[(a.l.length:Int)]}:iX)
  have h10:lM b ct b A:=⟨_,(by
   rw[P,<-fC.out,<-fH.out,<-fm.out];have e:=fG.out;unfold GS.lg at e |-;simp only[iX.mk.injEq]at e |-
   exact⟨e.1,e.2.1,trivial,trivial,trivial,e.2.2.2.2.2.1,e.2.2.2.2.2.2.1,e.2.2.2.2.2.2.2.1,e.2.2.2.2.2.2.2.2⟩),c8⟩
  obtain⟨ch,ci,bH,fN,d4,ei⟩:=cI.out;have fY:2<=vs.length:=G_ bH (ly ch vs fN (ei vs eB eE));have ev:A.l.length=a.l.length+1:=by rw[P];simp
  have dV:A.ats=[]:=by rw[P];exact t.out.ats
  have e3:A.rts=[]:=by rw[P];exact t.out.rts
  have eF:A.pv=.slice PA 3 c:=by rw[P];exact t.out.pv
  have cJ:GK A a.l.length 5:=⟨by rw[dV,P];exact ea.out.1,by rw[P];exact GH _,(by rw[P];show(0:Int)+((5:Nat):Int)<=10;decide),by rw[P];exact GH _,(by rw[P];show(0:Int)<=10;decide),by rw[P];exact fY,by rw[P];exact cr,by rw[dV];decide⟩;have eu:q4 a.l A.l:=by rw[P];exact q4.app _ _
  have eC:iB A.l a.l.length=21:=by rw[P];exact ms _ _ _
  have dK:A.es=a.es++[(a.l.length:Int)]:=by rw[P]
  have dM:A.fs=a.fs:=by rw[P]
  have d3:=(dC.out.pg.rd _ (N_ E)).gt er I I I;rw[<-ap.out]at d3;have hbl:=d4.len;obtain⟨aT,B,aD⟩:=cY.nQ;have fw:=O ev;have eN:=O dV;have dG:=O e3;have fj:=O dK;have eO:=O dM;have dg:=O eF;have ew:A.l.length+30*bv+2<=2048:=ov eQ.out;have fB:=O (xN b b ch 5 bv f.A _ f.c f.bs A _ q ct rfl X d4 d3.hb d3.hs (by rw[eF];exact fD.out.gt er) h10 cJ X);clear P ev dV e3 eF dK dM d3 h10 c8;go_wp2_with fail;go_at_call 137;refine fB.out.mono ?_;rintro e cx⟨rfl,e8,gu,cm,aw,fL,eT⟩;have eR:=er.trans aw;go_wp2_with fail;go_at_call 138;refine(iu b b _ cm (ov eT.len)).mono ?_;rintro e d7⟨rfl,cu,cN⟩;have fM:=fL.simp (x:=⟨1,0,0,0,0⟩) I;have eU:=eT.trans (GP.put _ ⟨1,0,0,0,0⟩);have eS:=eR.trans cN;clear cm eR cN;go_wp2_with fail;go_at_call 138;refine(iu b b _ cu (ov eU.len)).mono ?_;rintro e K⟨rfl,h13,dq⟩;have dH:=fM.simp (x:=⟨14,0,0,0,0⟩) I;have dI:=eU.trans (GP.put _ ⟨14,0,0,0,0⟩);have fK:=eS.trans dq;clear cu eS dq;obtain⟨d,da,dP⟩:=h13;have gd:=dI;have ej:d.os.map (λF=>(F.box,F.is))=[]:=by
   have C:=dI.p3;rw[eN.out]at C;have y:d.lg.ats.map (·.1)=[]:=by rw[da];simpa using C
   have h3:d.lg.ats=[]:=zu y;exact h3
  have eG:d.rt.map (λF=>(F.box,F.is))=[]:=by
   have C:=dI.rt;rw[dG.out]at C;have y:d.lg.rts=[]:=by rw[da];exact C
   exact y
  have fU:d.rt++d.os=[]:=by
   rw[List.map_eq_nil_iff]at ej eG;rw[ej,eG];rfl
  have b9:d.vs.length<=9/\2<=d.vs.length:=by
   have e:d.lg.vs=d.vs:=rfl;rw[<-e,da];exact⟨dH.v1,dH.v0⟩
  have gl:0<=d.most/\d.most<=10:=by
   have e:d.lg.most=d.most:=rfl;rw[<-e,da];exact⟨dH.m0,dH.m1⟩
  have cA:d.fs.length<=3:=by
   have e:d.lg.fs=a.fs:=by rw[da,dI.fs,eO.out]
   have aG:d.fs=a.fs:=e;rw[aG,t.out.fl];omega
  have fF:=O da;have z4:K.cell? (Z b 4)=some (.slice d.FA d.fs.length d.fc):=dP.hg.f_ 4;have cv:K.cell? (Z b 6)=some (.slice d.VA d.vs.length d.vc):=dP.hg.f_ 6;have fa:K.cell? (Z b 8)=some (Y d.most):=dP.hg.f_ 8;have dy:=dP.hi (.slice d.FA d.fs.length d.fc,d.fs) (by simp[GS.rows]);have cR:IntKind.i64.wrap ((d.vs.length:Int)+d.most)=(d.vs.length:Int)+d.most:=Gm _ X;clear da ej eG aT B aD;go_upto_region 13 with fail;refine hN (λw'=>w'.cell? (Z b 4)=some (.slice d.FA d.fs.length d.fc)/\w'.cell? (Z b 6)=some (.slice d.VA d.vs.length d.vc)/\w'.cell? (Z b 8)=some (Y d.most)) 19 k_ ?_;refine mC ⟨z4,cv,fa⟩ λm=>?_;repeat refine j2 m ?_
  refine hY 15 λr k=>?_;go_simp;refine k.out _ _ (λ_=>⟨jB m.1 _,jB m.2.1 _,jB m.2.2 _⟩) ?_;clear k r m z4 cv fa cR;obtain⟨v,hu⟩:=nm_ ((d.vs.length:Int)+d.most);rw[<-hu];have dR:2<=v/\v<=64:=X;have aY:=O hu;clear hu;have bn:Sl (K.alloc (.cells #[Y v] 3)).drew 3 1 (j_ K.heap.size) 1 [Y v]:=(jh (n:=1) (s:=1) (P_ K 3 _) rfl:Sl (K.alloc (.cells #[Y v] 3)) 3 1 (j_ K.heap.size) 1 [Y v]).drew;have d0:=((F_ [] K).alloc (.cells #[Y v] 3)).drew;obtain⟨eL,e6⟩:=nm_ ((K.alloc (.cells #[Y v] 3)).drew);rw[<-e6]at bn d0 |-;clear e6;have eZ:=dP.hF d0;have dy:=iD dy d0
  try simp only[a_]
  refine hY 16 λr k=>?_;refine ot rfl (.tmp 63) (.tmp 74) 30 rfl b 3 bu 1 8 underlying30 bB bt a7 a6 rfl I I d.FA d.fs.length d.fc rfl dy 1 1 rfl bn (by intro v hu;simp at hu;subst hu;rfl) X eZ.hz ?_;intro eM ef e9 fT fP fS;obtain⟨dW,fQ,dY⟩:=eZ.Eo fU eM ef _ fP fT fS;refine h4 k ⟨dW.f_ 4,dW.f_ 6,dW.f_ 8⟩ λm=>?_;clear k r;(repeat refine j2 m ?_);have dU:=dW.hG 4;have z4:=m.1;refine hY 19 λr k=>?_;go_simp;refine k.out _ _ (λh=>Gc h I) ?_;clear k r dU z4 m;refine hM k_ ?_ _;go_wp2;go_roundw
  case rel=>
   have co:=((fK.trans (.jD d0)).trans dY);refine⟨g+1,_,X,gn,⟨_,rfl,fQ⟩,?_,co⟩;have fR:∀dS:GS,dS={d with FA:=eM,fc:=ef,fs:=d.fs++[v]}->dS.lg={d.lg with fs:=d.lg.fs++[v]}:=λdS h=>by rw[h];rfl
   rw[fR _ rfl,fF.out];have gk:=eQ.out;rw[<-fe.out];refine t.out.next (n':=ub Ns (g+1)) eu eC fw.out fj.out eO.out dg.out eN.out dG.out dI dH (by simp[iX.put]) ?_ v dR X;have cT:(((iX.put (iX.put e8 ⟨1,0,0,0,0⟩) ⟨14,0,0,0,0⟩).l.length:Int)-1)=((iX.put e8 ⟨1,0,0,0,0⟩).l.length:Int):=by simp[iX.put];omega
   rw[cT];exact oB _
  case measure=>exact mz
 have cg:g=3:=X;subst cg;have iF:=hL.len;have cR:=M.out.pg.sum;have cQ:=M.out.pg.nl;have hls:ub Ns 3<=2048:=by
  have e:Ns.take 3=Ns:=F7 X;unfold ub;rw[e];omega
 have cs:∃q,pa a.l a.hC a.cs [] q/\q<a.l.length/\iB a.l ((a.l.length:Int)-1)=14:=by
  rcases hL.ok with h|h
  exact Gc h.1 I;exact h
 obtain⟨q',cs,dx,cD⟩:=cs;have eW:=cs.cs1;have hcl:=cs.zZ;obtain⟨s,u,z⟩:=Nv;have eX:s.cs=a.cs:=Z_ iX.cs u;obtain⟨CA,n,cc,aX,bP,bj⟩:∃CA n cc,Hid (n=a.cs.length)/\wr.cell? (Z b 5)=some (.slice CA n cc)/\wr.ownsRow b 219 2 (.slice CA n cc) n (nh a.cs):=by
  rw[<-eX];exact⟨_,_,_,O rfl,z.hg.f_ 5,z.hc⟩
 have bI:n<=2048:=ov aX.out;have eb:=O iF;have ca:=O hls;have t:=O hL;have cO:=O cs;have fE:=O dx;have fA:=O cD;have fh:=O eW;have bJ:lM b wr b {a with l:=(a.cs.take 0).foldl (kc a.es a.fs) a.l}:=⟨s,u,z⟩;clear iF hls hL cs dx cD eW hcl eX u z cR cQ ag hk;go_wp2;go_loopw [84] (λaq w'=>∃j:Nat,j<=n/\aq=Y j/\lM b w' b {a with l:=(a.cs.take j).foldl (kc a.es a.fs) a.l}/\Gt b gT ar w'/\mW 219 wr w') (λaq _=>n-(intOf aq).toNat)
 case atStart=>exact⟨0,L_ _,gn,bJ,Q,.jD (F_ [] _)⟩
 obtain⟨j,hj,rfl,Nv,Q,dw⟩:=hrel;clear bJ;obtain⟨s,u,z⟩:=Nv;by_cases ag:j<n
 .have bC:j<a.cs.length:=ov aX.out;obtain⟨f0,f9,fJ,_,c6,ek⟩:=kK (dw.own bj) X;obtain⟨C,y,h3,am,au⟩:=fh.out a.cs[j] (N_ bC);have z0:=(c6.f_ (j*2+0)).trans (ek _ _ ((ja (λp:Int × Int=>[Y p.1,Y p.2]) 2 (λ_=>rfl) a.cs j 0 bC X).trans rfl));have aR:=(c6.f_ (j*2+1)).trans (ek _ _ ((ja (λp:Int × Int=>[Y p.1,Y p.2]) 2 (λ_=>rfl) a.cs j 1 bC X).trans rfl));rw[HC]at z0;obtain⟨i,af⟩:∃i:Nat,a.cs[j].1=i:=⟨a.cs[j].1.toNat,X⟩;obtain⟨f,dm⟩:∃f:Nat,a.cs[j].2=f:=⟨a.cs[j].2.toNat,X⟩;have aU:=O (show a.cs[j]=((i:Int),(f:Int)) from Prod.ext af dm);rw[af]at z0 y;rw[dm]at aR am au;have c7:s.es=a.es:=Z_ iX.es u;have bw:s.fs=a.fs:=Z_ iX.fs u;have be:s.l=(a.cs.take j).foldl (kc a.es a.fs) a.l:=Z_ iX.l u;have cB:s.l.length=a.l.length:=by rw[be,oV]
  have dL:s.es.length=3:=by rw[c7];exact t.out.el
  have cA:s.fs.length=3:=by rw[bw];exact t.out.fl
  obtain⟨v,hm⟩:=mn_ a.l.length;have d1:i<v:=X;have cH:v<=2048:=by have:=eb.out;have:=ca.out;omega
  have eY:f<3:=X;have bD:=O u;have dh:=O (cB.trans hm);have HM:=O hm;have fk:=O c7;have dE:=O bw;have cX:=O be;have cz:=O dL;have de:=O cA;have fv:=O dw;have d8:=O Q;clear u cB hm c7 bw be dL cA C y h3 am au af dm ek c6 dw Q;subst fJ;obtain⟨bO,V,b6,bK,cF,bR⟩:=box1 wr 219 #[Y i,Y f];go_upto_region 18 with fail;obtain⟨o,A⟩:=nm_ bO.drew;have N:J [] wr o:=by rw[A];exact cF.drew
  have bo:Bk o V 219 #[Y i,Y f]:=by rw[A];exact bR.hF (F_ [] _).drew
  have D:=z.hF N;obtain⟨G,cM,ae,K,ec,fc,cur,ax,cU,R,B,ak,Nt,aQ,F,⟨gp,bV⟩,⟨dz,aL⟩⟩:=D.qm dh.out d1 cz.out de.out eY;obtain⟨bS,ep⟩:=nm_ (s.es.getD f 0);rw[<-ep]at aQ;have dF:=O ax;have fo:=O ep;have cS:o.cell? (Z V 0)=some (Y i):=bo.f_ 0;have aH:o.cell? (Z V 1)=some (Y f):=bo.f_ 1;have fz:=R.hG (i*5+4);clear ax ep Nt aL F;have dN:(f:Int)<3:=X;have gi:(i:Int)<v:=X;refine hN (λw'=>w'.cell? (Z V 0)=some (Y i)/\w'.cell? (Z V 1)=some (Y f)/\w'.cell? (Z b 1)=some (.slice (j_ G) v K)/\w'.cell? (Z b 3)=some (.slice (j_ cM) 3 ec)/\w'.cell? (Z cM f)=some (Y bS)) 16 k_ ?_;rw[<-A];have f2:=O A;clear A;have m:=And.intro cS (And.intro aH (And.intro B (And.intro ak aQ)));repeat refine j2 m ?_
  refine hY 16 λr k=>?_;go_simp;refine k.out _ _ (λh=>Gc h I) ?_;clear k r fz B ak bV aQ m cS aH;refine hM k_ ?_ _;have U:=(D.DB dF.out R (by rw[dh.out];exact d1) bS).hF (F_ [] _).drew;have cj:∀e,e≠189->mW e o (o.setCell (Z G (i*5+4)) (Y bS)).drew:=λe he=>(mW.set R (Ne.symm he) _ _).trans (.jD (F_ [] _).drew);have dr:=(Gt.set (T:=gT) R cU I (i*5+4) (Y bS)).trans (.jD (F_ [] _).drew);go_upto_region 19 with fail;obtain⟨S,cf⟩:=nm_ ((o.setCell (Z G (i*5+4)) (Y bS)).drew);rw[<-cf]at U cj dr;have aj:=(cj 219 I).bk bo;obtain⟨fd,fb,ae,fZ,ga,fc,aS,eg,_,dT,B,ak,Nt,aQ,F,_,⟨dz,aL⟩⟩:=U.qm ((lJ _ _ _).trans dh.out) d1 cz.out de.out eY;obtain rfl:G=fd:=by have h:=dF.out.symm.trans eg;injection h with h;injection h
  obtain⟨aB,em⟩:=nm_ (s.fs.getD f 0);have F:S.cell? (Z ae f)=some (Y aB):=by rw[em];exact F
  have fi:=O em;have fx:=O eg;have cS:S.cell? (Z V 0)=some (Y i):=aj.f_ 0;have aH:S.cell? (Z V 1)=some (Y f):=aj.f_ 1;have fz:=dT.hG (i*5+3);clear eg em ak aQ fb;refine hN (λw'=>w'.cell? (Z V 0)=some (Y i)/\w'.cell? (Z V 1)=some (Y f)/\w'.cell? (Z b 1)=some (.slice (j_ G) v fZ)/\w'.cell? (Z b 4)=some (.slice (j_ ae) 3 fc)/\w'.cell? (Z ae f)=some (Y aB)) 16 k_ ?_;rw[<-cf];have f3:=O cf;clear cf;have m:=And.intro cS (And.intro aH (And.intro B (And.intro Nt F)));repeat refine j2 m ?_
  refine hY 16 λr k=>?_;go_simp;refine k.out _ _ (λh=>Gc h I) ?_;clear k r fz B Nt aL F m cS aH;refine hM k_ ?_ _;have cV:=U.DC fx.out dT (by rw[show({s with l:=mm bS s.l i}:GS).l.length=s.l.length from lJ _ _ _,dh.out];exact d1) aB;have ez:=(fv.out.trans (.jD N)).trans ((cj 219 I).trans (.set dT I (i*5+3) (Y aB)));have dt:=(d8.out.trans (.jD N)).trans (dr.trans (Gt.set (T:=gT) dT cU I (i*5+3) (Y aB)));have ft:=O cV;have fu:=O ez;have fp:=O dt;clear cV ez dt U cj dr D;go_wp2;go_roundw
  case rel=>
   refine⟨j+1,X,gn,⟨_,?_,ft.out⟩,fp.out,fu.out⟩;have aJ:(a.cs.take (j+1)).foldl (kc a.es a.fs) a.l=pw aB (mm bS s.l i) i:=by
    rw[Q_ bC,aU.out,HO,<-cX.out];show kc a.es a.fs s.l _=_;rw[<-zn,fo.out,fi.out,fk.out,dE.out]
   rw[aJ];have aG:=bD.out;exact LZ
  case measure=>exact mz
 have d2:a.cs.take j=a.cs:=F7 (ov aX.out);rw[d2]at u;have bw:s.fs=a.fs:=Z_ iX.fs u;have be:s.l=a.cs.foldl (kc a.es a.fs) a.l:=Z_ iX.l u;have bF:s.hC=a.hC:=Z_ iX.hC u;have cB:s.l.length=a.l.length:=by rw[be,oV]
 have dL:s.es.length=3:=by rw[show s.es=a.es from Z_ iX.es u];exact t.out.el
 have cA:s.fs.length=3:=by rw[bw];exact t.out.fl
 have ad:=cO.out.code.pos;obtain⟨v,hm⟩:=mn_ s.l.length;have cH:v<=2048:=by have:=eb.out;have:=ca.out;omega
 obtain⟨G,cM,ae,K,ec,fc,cur,ax,cU,R,B,ak,Nt,aQ,F,_,_⟩:=z.qm hm (i:=0) (f:=0) X dL cA X;have aD:wr.cell? (Z b 2)=some (Y s.hC):=z.hg.f_ 2;have hR:=cG.gt Q I;obtain⟨cW,eK⟩:=nm_ (s.fs.getD 0 0);rw[<-eK]at F;obtain⟨st,du⟩:=nm_ s.hC;rw[<-du]at aD;have cE:Is wr (some (Z G 0)) s.l:=by rw[<-ax];exact Sl.iP z.hl
 have b8:s.l.length<=K:=by
  have h:=B.symm.trans (z.hg.f_ 1);have y:(Value.slice (j_ G) v K)=.slice s.L s.l.length s.lc:=Option.some.inj h;injection y with _ _ h3;rw[h3];exact iY z.hl
 have ed:=O eK;have bT:=O du;have fI:=O bF;have HM:=O hm;have dE:=O bw;have cX:=O be;have aN:=O cE;have fg:=O b8;have d8:=O Q;have hd:decide ((2048:Int)<v)=false:=p_;clear u d2 bw be bF du cB dL cA ad hm ax cU R ak aQ eK cE b8 Q;go_upto_region 23 with fail;obtain⟨o,A⟩:=nm_ wr.drew;have N:J [] wr o:=by rw[A];exact(F_ [] _).drew
 have aM:=hR.hF N;have B:o.cell? (Z b 1)=some (.slice (j_ G) v K):=by rw[A];exact B
 have aD:o.cell? (Z b 2)=some (Y st):=by rw[A];exact aD
 have Nt:o.cell? (Z b 4)=some (.slice (j_ ae) 3 fc):=by rw[A];exact Nt
 have F:o.cell? (Z ae 0)=some (Y cW):=by rw[A];exact F
 refine hN (λw'=>w'.cell? (Z b 1)=some (.slice (j_ G) v K)/\w'.cell? (Z b 2)=some (Y st)/\w'.cell? (Z b 4)=some (.slice (j_ ae) 3 fc)/\w'.cell? (Z ae 0)=some (Y cW)) 15 k_ ?_;rw[<-A];clear A;have m:=And.intro B (And.intro aD (And.intro Nt F));(repeat refine j2 m ?_);have b0:o.cell? (Z L 0)=some (n_):=aM.f_ 0;have r1:o.cell? (Z L 1)=some (Y 0):=aM.f_ 1;have r2:o.cell? (Z L 2)=some (Y 0):=aM.f_ 2;have z0:=aM.hG 0;have aR:=aM.hG 1;have aZ:=aM.hG 2;refine hY 15 λr k=>?_;go_simp;refine k.out _ _ (λh=>Gc h I) ?_;clear k r m;refine hY 16 λr k=>?_;go_simp;refine k.out _ _ (λh=>Gc h I) ?_;clear k r;refine hM k_ ?_ _;have dj:=aM.hU 0 (.slice (j_ G) v K);have dk:=dj.hU 1 (Y cW);have bl:=dk.hU 2 (Y st);have cj:=((mW.set (e:=189) aM I 0 (.slice (j_ G) v K)).trans (.set dj I 1 (Y cW))).trans (.set dk I 2 (Y st));have bZ:=cj.sl (aN.out.hF N);have bQ:J [L] o (((o.setCell (Z L 0) (.slice (j_ G) v K)).setCell (Z L 1) (Y cW)).setCell (Z L 2) (Y st)):=(((F_ [L] o).setCell (.inl H) _).setCell (.inl H) _).setCell (.inl H) _;have bM:=(((Gt.jD (base:=b) (T:=gT) fO).trans d8.out).gr e7.1).trans N;have cL:=J.jN bM bQ e7.2;obtain⟨az,cw⟩:=nm_ (((o.setCell (Z L 0) (.slice (j_ G) v K)).setCell (Z L 1) (Y cW)).setCell (Z L 2) (Y st));rw[<-cw]at bl bZ cL |-;have d9:=O bZ;have df:=O cL;clear cw dj dk cj bQ bM bZ cL b0 r1 r2 z0 aR aZ B aD Nt F hR aM N;go_wp2;refine lW #[.slice (j_ G) v K,Y cW,Y st] (Y 0) bl underlying26 ?_;rw[ao.out];refine⟨some (Z G 0),K,s.l,cW,st,by rw[HM.out],d9.out,?_,fg.out,df.out⟩;rw[cX.out,bT.out,fI.out,ed.out,dE.out]
 have dm:∀g,g<3->2<=a.fs.getD g 0/\a.fs.getD g 0<=64:=λg hk=>t.out.f64 _ (by
  have E:g<a.fs.length:=by rw[t.out.fl];exact hk
  have:a.fs.getD g 0=a.fs[g]:=by simp[E]
  rw[this];exact N_ E)
 have gh:=dm 0 X;refine x1 cO.out fE.out fA.out (by have:=eb.out;have:=ca.out;omega) (λg C y=>?_) (λg C y=>dm g X) X X;have E:g<a.es.length:=by rw[t.out.el];omega
 have:a.es.getD g 0=a.es[g]:=by simp[E]
 rw[this];exact(t.out.e21 _ (N_ E)).2.2
def nU.heads{L:QU}:∀{ss:QV} {r:QV},nU L (ss++r)->(∀s∈ss,s.h7=1)->∀x∈ss.map ST.name,x∈L
 |[],_,_,_=>by simp
 |s::ss,r,h,b=>by
  cases h with
  |cons t l h f g c=>
   intro x a;rcases O_.1 (by simpa using a:x∈s.name::ss.map ST.name)with rfl|a
   exact h (by rw[b s H];rfl);exact nU.heads c (λu e=>b u (by simp[e])) x a
def vR:hV.Nodup:=by decide
def yS:ig.Nodup:=by decide
def xO(s:ByteArray)(f:FT)(l:QF)(k:Int):tX s (f::l) k=if(f.name.data.toList==s.data.toList)=true then k else tX s l (k+1):=by
 show(if(f.name.toList==s.toList)=true then k else tX s l (k+1))=_;rw[HS,HS]
def FT.In.rd{c a:Nat}{f:FT}(h:f.In c a w):C2 (λ_=>True) w f:=⟨h.hp,h.vJ,h.hb,λe b=>(h.hs e b).imp λ_ _=>trivial⟩
def CG.made{v u:Nat}{PA:OA}{r n p:FT}(C:Sl w 213 3 PA 3 ([r,n,p].flatMap FT.E))(h1:r.In v u w)(h2:n.In v u w)(h3:p.In v u w)(T:r.name=wq/\r.ps=[]/\B0 r.bs)(U:n.name=p4/\n.ps=[ph,Cw]/\FN n.bs)(k3:p.name=pD/\p.ps=[nc]/\FK p.bs):∃Ns,CG (λ_=>True) w PA [r,n,p] Ns:=by
 obtain⟨y,m,Nw,ad,D,m3,m4,S,z,dk,di⟩:=T;obtain⟨q,i,⟨cp,ew,ae,Y,Z,f5⟩,af,F,f7,f8⟩:=U;obtain⟨s,k,cx,Nu,G,J,d,ag,ah,Q,ai,W,aj,ak⟩:=k3;have x:∀j,tX j [r,n,p] 0=if(wq.data.toList==j.data.toList)=true then 0 else if(p4.data.toList==j.data.toList)=true then 1 else if(pD.data.toList==j.data.toList)=true then 2 else -1:=by
  intro j;rw[xO,xO,xO,y,q,s];rfl
 have N:tX wq [r,n,p] 0=0:=by rw[x];rfl
 have K:tX p4 [r,n,p] 0=1:=by rw[x];rfl
 have L:tX pD [r,n,p] 0=2:=by rw[x];rfl
 have M:∀c∈hV,c∈ig:=λc g=>Gj _ g;have V:l4 ig 5 D r.bs:=z.sub M;have B:l4 hV 5 J p.bs:=W.mono X;have o:∀{P:FT->Prop},P r->P n->P p->∀E∈[r,n,p],P E:=by
  intro P al am an E H;simp only[O_,List.not_mem_nil,or_false]at H;rcases H with rfl|rfl|rfl<;>assumption
 have t:∀e,e<3->e=0∨e=1∨e=2:=λe hk=>by omega
 refine⟨[D,af,J],⟨C,rfl,o h1.rd h2.rd h3.rd,o ⟨by rw[y];exact yz.1,by rw[m];simp,by rw[m];simp⟩ ⟨by rw[q];exact yz.2.1,by rw[i];simp[ig,hV],by rw[i];simp⟩ ⟨by rw[s];exact yz.2.2,by rw[k];simp[ig,hV],by rw[k];simp⟩,rfl,λe a ao=>?_,p_⟩,
  ⟨C,rfl,K,L,λ_=>by show n.ps.length=2;rw[i];rfl,λ_=>by show p.ps.length=1;rw[k];rfl⟩,λe a=>?_,λ_=>m,o (by rw[m];exact ID) (by rw[i];decide) (by rw[k];decide),λe a ao=>?_⟩
 rcases t e a with rfl|rfl|rfl
 .exact V
 exact F;exact B.sub M;rcases t e a with rfl|rfl|rfl
 .show tX r.name _ 0=0;rw[y];exact N
 show tX n.name _ 0=1;rw[q];exact K;show tX p.name _ 0=2;rw[s];exact L;rcases t e a with rfl|rfl|rfl
 .refine⟨hV,I,I,vR,z,λh b f=>?_⟩;have b:nU h r.bs:=b;rw[m3]at b;rw[<-m4];exact b.heads S
 refine⟨ig,I,I,yS,F,λh b f=>?_⟩;have b:nU h n.bs:=b;have f:∀c∈n.ps,c∈h:=f;rw[Y]at b;have A:=b.heads f5;rw[Z]at A;rw[i]at f;intro c g;have O:∀c∈ig,c∈[wt,vm,vI,nc,oL,xJ,xI]∨c∈[ph,Cw]:=by
  intro c g;simp only[ig,hV,O_,List.not_mem_nil,or_false]at g |-
  rcases g with a|a|a|a|a|a|a|a|a<;>simp[a]
 rcases O c g with a|a
 exact A c a;exact f c a;refine⟨hV,I,I,vR,B,λh b f=>?_⟩;have b:nU h p.bs:=b;rw[d]at b;rw[<-Q];cases b with
 |cons ap l a O hl A=>exact A.heads ai
def Dj(B g:Nat)(w:World)(e:Ending)(w':World):Prop:=∃(A:OA) (c:Nat) (l:QS) (hH hC:Int),e=.returned (.agg #[.slice A l.length c,Y hH,Y hC])/\Is w' A l/\ia l hH hC=true/\l.length<=c/\iN w' B g/\J [g] w w'
def BF(j g:Nat)(B:iN w j g)(hB:j<=w.heap.size):
 Calls prog 44 #[q_ g] w (Dj j g w):=by
 refine h6 λae V=>?_;obtain⟨t,b,aV,e4,q,A⟩:=box1 w 26 #[n_,Y 0,Y 0];have S:=B.hF q;have bq:=B.wx;have cx:j<=t.heap.size:=G_ hB q.size;go_enter func44,ntmps44;go_wp2_with fail;go_at_call 89;refine(A3 j g t S cx).mono ?_;rintro e D⟨ag,ah,n,ai,rfl,E,h1,h2,h3,bK,bj,k3,cM,s⟩;obtain⟨Ns,F⟩:=CG.made E h1 h2 h3 bK bj k3;go_wp2_with fail;go_at_call 88;refine(zv 3 Ns D F).mono ?_;rintro e T⟨c,h,l,hH,hC,rfl,L,hv,b8,m⟩;have W:=O hv;have N:=O b8;have Q:=O L;obtain⟨i,C⟩:=mn_ l.length;rw[C];have HM:=O C;obtain⟨a,p,b6,aG,k,o⟩:=box1 T 26 #[.slice c i h,Y hH,Y hC];have M:=(cM.hF m).hF k;have ax:b≠g:=X;have cG:=A.lt;have cg:Bk D b 26 #[n_,Y 0,Y 0]:=A.gr s p_;have f:=(cg.hF m).hF k;have r:∀{u v:World},J [] u v->J [g] u v:=λaj=>(F_ [g] _).hI aj H;have bw:J [g] w a:=(((r q).trans s).trans (r m)).trans (r k);have U:Is a c l:=Q.out.hF (k);have bC:w.heap.size<=b:=X;have y:=f.hU 0 (.slice c i h);have z:=y.hU 1 (Y hH);have bl:=z.hU 2 (Y hC);have cj:=((mW.set (e:=189) f I 0 (.slice c i h)).trans (.set y I 1 (Y hH))).trans (.set z I 2 (Y hC));have bZ:=cj.sl U;have x:J [b] a (((a.setCell (Z b 0) (.slice c i h)).setCell (Z b 1) (Y hH)).setCell (Z b 2) (Y hC)):=(((F_ [b] a).setCell (.inl H) _).setCell (.inl H) _).setCell (.inl H) _;have cv:=M.ih x p_;have K:=bw.hI x p_;have d:=O bl;have d9:=O bZ;have ak:=O cv;have df:=O K;have cS:a.cell? (Z p 0)=some (.slice c i h):=o.f_ 0;have aH:a.cell? (Z p 1)=some (Y hH):=o.f_ 1;have e1:a.cell? (Z p 2)=some (Y hC):=o.f_ 2;have b0:a.cell? (Z b 0)=some (n_):=f.f_ 0;have r1:a.cell? (Z b 1)=some (Y 0):=f.f_ 1;have r2:a.cell? (Z b 2)=some (Y 0):=f.f_ 2;have z0:=f.hG 0;have aR:=f.hG 1;have aZ:=f.hG 2;go_wp2;refine rr_ #[.slice c i h,Y hH,Y hC] d.out underlying26 ?_;rw[V.out];exact⟨c,h,l,hH,hC,by rw[HM.out],d9.out,W.out,N.out,ak.out,df.out⟩
section
variable(l:QS)(hH hC:Int)(d lh:QR)
def mP(s:qb)(run:Int):jb:=AN l hH hC d s.h (jm l hH hC s.hQ run true).1
inductive uX:Nat->Int->qb->Prop
 |hQ:uX 0 0 (qU true hH)
 |ask {k:Nat} {run:Int} {s:qb} (h:uX k run s) (he:s.jH=false) (h0:(ny l hH hC lh s).2=0):uX (k+1) run (ny l hH hC lh s).1
 |commit {k:Nat} {run:Int} {s:qb} (h:uX k run s) (he:s.jH=false) (h0:(ny l hH hC lh s).2≠0):uX (k+1) (run+1) (kR true s (mP l hH hC d s run)).1
inductive w7(h:QQ)(run:Int):Nat->List jb->Prop
 |hQ (ts:QG) (hl:ts.length<=16) (hb:∀(k:Nat) (hk:k<ts.length),∃(x:Int) (ip:Bool),DI l hH hC x/\ts[k]=(jm l hH hC x (run+k) ip).1):w7 h run 0 ts
 |step {n:Nat} {ts:QG} (k:Nat) (hk:k<ts.length) (h1:w7 h run n ts) (h2:ts[k].h9=0):w7 h run (n+1) (ts.set k (je l hH hC d ts[k] (nG h ts k)))
def w7.len{h:QQ}{run:Int}{ts:QG}(b:w7 l hH hC d h run n ts):ts.length<=16:=by
 induction b with
 |hQ ts a _=>exact a
 |step e c _ _ a=>simpa using a
end
structure Md where
 A:Option Addr
 c:Nat
 l:List In
 hH:Int
 hC:Int
 aA:Option Addr
 ac:Nat
 lh:List Int
 dA:Option Addr
 dc:Nat
 d:List Int
 s:Cm
 tA:Option Addr
 tc:Nat
 ts:List Tk
 run:Int
def Md.g_(m:Md):Array Value:=#[.slice m.A m.l.length m.c,Y m.hH,Y m.hC,.slice m.aA m.lh.length m.ac,.slice m.dA m.d.length m.dc,
 .slice m.s.h.A m.s.h.l.length m.s.h.c,Y m.s.hQ,Y m.s.jn,.slice m.s.h8.A m.s.h8.l.length m.s.h8.c,.bool m.s.jH,.bool m.s.hZ,.bool m.s.v.r,Y m.s.v.n,Y m.s.iU,Y m.s.hK,.slice m.tA m.ts.length m.tc,Y m.run]
structure qr(w:World)(m:Md):Prop where
 l:Is w m.A m.l
 lh:Ns w 2 m.aA m.lh
 al:m.lh.length<=5
 d:Ns w 3 m.dA m.d
 dl:m.d.length<=m.dc
 s:me w m.s
 ts:x7 w m.tA m.ts
def qr.hF{w':World}{m:Md}(h:qr w m)(a:J [] w w'):qr w' m:=⟨Sl.hF h.l a,Sl.hF h.lh a,h.al,Sl.hF h.d a,h.dl,h.s.hF a,h.ts.hF a⟩
structure zT(m:Md):Prop where
 val:ia m.l m.hH m.hC=true
 dv:m.d.Sublist (kO m.l m.hH m.hC)
 cm:∃k run,k<=8/\uX m.l m.hH m.hC m.d m.lh k run m.s.p/\((m.s.jH=true/\m.ts=[]/\m.run=run)∨(m.s.jH=false/\m.run=run+m.ts.length/\∃n,n<=39/\w7 m.l m.hH m.hC m.d m.s.p.h run n (m.ts.map Tk.p)))
 tl:m.ts.length<=m.tc
def BW(B g:Nat)(w:World)(e:Ending)(w':World):Prop:=∃m:Md,e=.returned (.agg m.g_)/\qr w' m/\zT m/\iN w' B g/\J [g] w w'
structure TF(t:jb):Prop where
 sm:t.sm 500000
 s0:0<=t.hK
 s1:t.hK<=3000
 n0: -1<=t.next
 n1:t.next<=3000
def vY(c:QS)(hH hC:Int)(d:QR)(t:jb)(view:QQ):(je c hH hC d t view).hQ=t.hQ:=by
 unfold je;simp only;split
 .rfl
 split
 .rfl
 split;rfl;rename_i b a;have:=(lK a).hQ;split
 .exact this
 split;exact this;exact this
def sW(c:QS)(hH hC:Int)(d:QR)(t:jb)(view:QQ):(je c hH hC d t view).next=t.next∨(je c hH hC d t view).next=t.pc+1∨(je c hH hC d t view).next=(je c hH hC d t view).pc:=by
 unfold je;simp only;split
 .exact .inl rfl
 split
 .exact .inr (.inl rfl)
 split;exact .inl rfl;rename_i b a;have:=(lK a).next
 split
 .exact .inl this
 split;exact .inr (.inr rfl);exact .inl this
def qA{l:QS}{hH hC:Int}{d:QR}{t:jb}(k:ia l hH hC=true)(u:l.length<=2048)(h:Way l t)(b:TF t)(j:t.h9=0):
 TF (je l hH hC d t view)/\((je l hH hC d t view).h9=0->Way l (je l hH hC d t view)):=by
 obtain⟨f,c,o,g,p,e⟩:=ur (d:=d) (view:=view) k h j;have q:=h.s1;have r:=h.lo;have s:=h.hi;have m:=h.s0;refine⟨⟨f.mono X,c,X,?_,?_⟩,λi=>(e i).1⟩;rcases sW l hH hC d t view with a|a|a
 .rw[a];exact b.n0
 rw[a];omega;rw[a];exact g;rcases sW l hH hC d t view with a|a|a
 .rw[a];exact b.n1
 rw[a];omega;rw[a];omega
def yk{l:QS}{hH hC:Int}{d:QR}{view:QQ}(e:ia l hH hC=true)(b:l.length<=2048):∀(n:Nat) (t:jb),(t.h9=0->Way l t)->TF t->
 TF (mX l hH hC d view n t)/\(mX l hH hC d view n t).run=t.run/\(mX l hH hC d view n t).hQ=t.hQ
 |0,t,_,a=>⟨a,rfl,rfl⟩
 |n+1,t,f,a=>by
  unfold mX;split;rename_i c;obtain⟨h,i⟩:=qA (d:=d) (view:=view) e b (f c) a c;obtain⟨c1,g,c3⟩:=yk (d:=d) (view:=view) e b n _ i h;exact⟨c1,g.trans (mK l hH hC d t view),c3.trans (vY l hH hC d t view)⟩;exact⟨a,rfl,rfl⟩
def BM{l:QS}{hH hC hQ run:Int}{ip:Bool}(f:l.length<=2048)(h0: -1<=hQ)(e:hQ<=2049):
 TF (jm l hH hC hQ run ip).1/\((jm l hH hC hQ run ip).2=0->(jm l hH hC hQ run ip).1.run=run/\(jm l hH hC hQ run ip).1.hQ=hQ):=by
 have c:∀n,Tk.zero.p.sm n:=λn=>⟨L_ _,L_ _,L_ _,L_ _,L_ _,L_ _⟩;have b:TF Tk.zero.p:=⟨c _,I,I,I,I⟩;unfold jm;split
 .exact⟨b,λa=>by simp at a⟩
 split
 .exact⟨b,λa=>by simp at a⟩
 split;exact⟨⟨⟨L_ _,L_ _,L_ _,L_ _,L_ _,L_ _⟩,show(0:Int)<=0 by decide,show(0:Int)<=3000 by decide,by show -1<=hQ+1;omega,by show hQ+1<=3000;omega⟩,λ_=>⟨rfl,rfl⟩⟩;exact⟨⟨⟨L_ _,L_ _,L_ _,L_ _,L_ _,L_ _⟩,show(0:Int)<=0 by decide,show(0:Int)<=3000 by decide,show(-1:Int)<=0 by decide,show(0:Int)<=3000 by decide⟩,λ_=>⟨rfl,rfl⟩⟩
def uN{l:QS}{hH hC hQ run:Int}{ip:Bool}(h0: -1<=hQ)(f:hQ<=l.length):Way l (jm l hH hC hQ run ip).1:=by
 have b:∀a:jb,a.sm 0->a.hK=0-> -1<=a.pc->a.pc<=l.length->Way l a:=λa p r g i=>⟨g,i,X,ov (sq (l:=l) g),p.mono (L_ _)⟩;have e:∀a:jb,a.gs=[]->a.rs=[]->a.ws=[]->a.nw=[]->a.ds=[]->a.h8=[]->a.sm 0:=λa h j k d m o=>⟨by simp[h],by simp[j],by simp[k],by simp[d],by simp[m],by simp[o]⟩;have c:(-1:Int)<=0/\(0:Int)<=l.length:=X;unfold jm;split
 .exact b _ (e _ rfl rfl rfl rfl rfl rfl) rfl c.1 c.2
 split
 .exact b _ (e _ rfl rfl rfl rfl rfl rfl) rfl c.1 c.2
 split;exact b _ (e _ rfl rfl rfl rfl rfl rfl) rfl h0 f;exact b _ (e _ rfl rfl rfl rfl rfl rfl) rfl h0 f
def vB{l:QS}{pc:Int}(h:m8 l pc=true): -1<=pc/\pc<=l.length:=by
 by_cases a:pc<0∨(l.length:Int)<=pc;have e:=kd a;unfold m8 at h;exact Nk;omega
def nR{l:QS}{hH hC hQ run:Int}{ip:Bool}:Way l (jm l hH hC hQ run ip).1:=by
 by_cases b:m8 l hQ=true;exact uN (vB b).1 (vB b).2;have b:m8 l hQ=false:=zu b;have a:(jm l hH hC hQ run ip).1=(jm l hH hC 0 run ip).1∨(jm l hH hC hQ run ip).1=Tk.zero.p:=by
  unfold jm;rw[U_ b];split<;>exact .inr rfl
 rcases a with a|a
 rw[a];exact uN X X;rw[a];exact⟨I,by show(0:Int)<=l.length;omega,I,by show(0:Int)+pf l 0<=_;have:=sq (l:=l) (pc:=0) X;omega,⟨L_ _,L_ _,L_ _,L_ _,L_ _,L_ _⟩⟩
def p2{l:QS}{hH hC hQ run:Int}{ip:Bool}(c:l.length<=2048):TF (jm l hH hC hQ run ip).1:=by
 by_cases a:m8 l hQ=true;have b:=vB a;exact(BM c b.1 X).1;have a:m8 l hQ=false:=zu a;have b:(jm l hH hC hQ run ip).1=Tk.zero.p:=by
  unfold jm;rw[U_ a];split<;>rfl
 rw[b];exact⟨⟨L_ _,L_ _,L_ _,L_ _,L_ _,L_ _⟩,I,I,I,I⟩
def ru{l:QS}{hH hC:Int}{d:QR}(b:ia l hH hC=true)(a:l.length<=2048)(s:qb)(run:Int):TF (mP l hH hC d s run):=
 (yk b a _ _ (λ_=>nR) (p2 a)).1
def w7.tf{l:QS}{hH hC:Int}{d:QR}{h:QQ}{run:Int}{ts:QG}(m:ia l hH hC=true)(f:l.length<=2048)(i:w7 l hH hC d h run n ts):∀t∈ts,TF t/\(t.h9=0->Way l t):=by
 induction i with
 |hQ ts _ e=>
  intro t a;obtain⟨g,b,rfl⟩:=Hu a;obtain⟨k,j,_,c⟩:=e g b;rw[c];exact⟨p2 f,λ_=>nR⟩
 |step g b o e c=>
  intro t a;rcases Gw a with a|rfl
  exact c t a;obtain⟨j,k⟩:=c _ (N_ b);exact qA m f (k e) j e
structure CB(k:Nat)(s:qb):Prop where
 h:(s.h.length:Int)<=2+k*500000
 h8:(s.h8.length:Int)<=k*500000
 st0: -1<=s.hQ
 st1:s.hQ<=3000
 t0:0<=s.iU
 t1:s.iU<=k
 p0:0<=s.hK
 p1:s.hK<=k*3001
 a0:0<=s.jn
 a1:s.jn<=k
def CB.zero(k:Nat):CB k Cm.zero.p:=⟨by show(0:Int)<=2+k*500000;omega,by show(0:Int)<=k*500000;omega,by decide,by decide,by decide,by show(0:Int)<=k;omega,by decide,by show(0:Int)<=k*3001;omega,by decide,by show(0:Int)<=k;omega⟩
def CB.begin(hH:Int):CB 0 (qU true hH):=⟨show(2:Int)<=2 by decide,show(0:Int)<=0 by decide,show(-1:Int)<=0 by decide,show(0:Int)<=3000 by decide,show(0:Int)<=0 by decide,show(0:Int)<=0 by decide,show(0:Int)<=0 by decide,show(0:Int)<=0 by decide,show(0:Int)<=0 by decide,show(0:Int)<=0 by decide⟩
def CB.ask{l:QS}{hH hC:Int}{lh:QR}{k:Nat}{s:qb}(p:ia l hH hC=true)(h:CB k s):CB (k+1) (ny l hH hC lh s).1:=by
 have F:=kn p;unfold ny;split
 .exact CB.zero _
 split;exact CB.zero _;rename_i j;have e:¬(s.jH=true∨jz l hH hC s.hQ=false∨(lx l hH hC s.hQ jp s.h 0).h7=4):=by unfold mv at j;simpa using j
 have f:jz l hH hC s.hQ=true:=by
  cases b:jz l hH hC s.hQ with
  |true=>rfl
  |false=>exact Gc (.inr (.inl b)) e
 have o: -1<=s.hQ/\s.hQ<l.length:=by
  by_cases v:s.hQ<0∨(l.length:Int)<=s.hQ;unfold jz at f;rw[kd v]at f;simp at f;omega
 have m:=uA (hH:=hH) (hC:=hC) jp s.h 0 p o.1 o.2;have i:=sv l hH hC s.hQ jp s.h 0;obtain⟨a,b⟩:=nm_ (lx l hH hC s.hQ jp s.h 0);rw[<-b]at e m i |-;clear b
 have t:¬a.h7=4:=λx=>e (.inr (.inr x));obtain⟨_,_,u,C,_⟩:=m.resolve_left t;have z:=i.nw;have y:=zR s.h a;obtain⟨D,B,d,r,c,A,H,E,q,I⟩:=h;have g:(s.h8.length:Int)<=((k+1:Nat):Int)*500000:=X;show CB (k+1) (oh l lh s a);unfold oh;split
 .refine⟨?_,?_,?_,?_,c,?_,?_,?_,?_,?_⟩
  .show((mS l s.h s.hQ _).length:Int)<=2+((k+1:Nat):Int)*500000;rw[x4];omega
  show((s.h8++[_]).length:Int)<=((k+1:Nat):Int)*500000;rw[I_,Id];omega;show -1<=s.hQ+1;omega;show s.hQ+1<=3000;omega;show s.iU<=((k+1:Nat):Int);omega;show 0<=s.hK+1;omega;exact Nb;show 0<=s.jn+1;omega;show s.jn+1<=((k+1:Nat):Int);omega
 split;refine⟨?_,?_,d,r,c,?_,?_,?_,q,?_⟩
 .show((ky s.h a).length:Int)<=2+((k+1:Nat):Int)*500000;omega
 exact g;show s.iU<=((k+1:Nat):Int);omega;show 0<=s.hK+1;omega;exact Nb;exact Nh;refine⟨?_,?_,u,?_,c,?_,?_,?_,q,?_⟩
 .show((ky s.h a).length:Int)<=2+((k+1:Nat):Int)*500000;omega
 exact g;show a.pc<=3000;omega;show s.iU<=((k+1:Nat):Int);omega;show 0<=s.hK+1;omega;exact Nb;exact Nh
def CB.commit{k:Nat}{s:qb}{t:jb}(h:CB k s)(a:TF t)(ok:Bool):CB (k+1) (kR ok s t).1:=by
 unfold kR;split
 .exact CB.zero _
 split
 .exact CB.zero _
 split
 .exact CB.zero _
 obtain⟨o,j,d,c,q,i,x,p,b,y⟩:=h;have g:=yp s.h t;have r:=a.sm.nw;have u:=a.sm.h8;have v:=a.s0;have m:=a.s1;have e:=a.n0;have f:=a.n1;show CB (k+1) (mx s t);unfold mx;split;refine⟨?_,?_,e,f,?_,?_,?_,?_,b,?_⟩
 .show((lP s.h t).length:Int)<=2+((k+1:Nat):Int)*500000;omega
 exact MX;show 0<=s.iU+1;omega;show s.iU+1<=((k+1:Nat):Int);omega;show 0<=s.hK+t.hK;omega;show s.hK+t.hK<=((k+1:Nat):Int)*3001;omega;exact Nh;refine⟨?_,?_,d,c,?_,?_,?_,?_,b,?_⟩
 .show((lP s.h t).length:Int)<=2+((k+1:Nat):Int)*500000;omega
 exact MX;show 0<=s.iU+1;omega;show s.iU+1<=((k+1:Nat):Int);omega;show 0<=s.hK+t.hK;omega;show s.hK+t.hK<=((k+1:Nat):Int)*3001;omega;exact Nh
def uX.cb{l:QS}{hH hC:Int}{d lh:QR}{k:Nat}{run:Int}{s:qb}(b:ia l hH hC=true)(h:uX l hH hC d lh k run s):CB k s/\0<=run/\run<=k:=by
 have c:=kn b;induction h with
 |hQ=>exact⟨CB.begin hH,I,I⟩
 |ask _ _ _ a=>exact⟨a.1.ask b,a.2.1,ov a.2.2⟩
 |commit _ _ _ a=>exact⟨a.1.commit (ru b c.2.1 _ _) true,ov a.2.1,ov a.2.2⟩
section
def GV(P:Int->Prop)(v:Vl):Prop:=v.r=true->P v.n
def GO(P:Int->Prop)(o:Ob):Prop:=P o.id/\∀v∈o.fs,GV P v
structure XF(P:Int->Prop)(x:XP):Prop where
 zero:P 0
 h:∀o∈x.h,GO P o
 sr:∀i,GV P (x.sr i)
 r:∀i,GV P (x.e.r i)
 rs:∀c∈x.e.rs,(P c.id∨c.id=1)/\GV P c.v
 ws:∀c∈x.e.ws,(P c.id∨c.id=1)/\GV P c.v
 nw:x.e.nw=[]
 v:GV P x.e.v
def XO(P:Int->Prop)(x:XP):Prop:=x.hO=true∨XF P x
variable{P:Int->Prop}
def GV.num(n:Int):GV P ⟨false,n⟩:=λa=>by simp at a
def GV.default:GV P (default:Vl):=GV.num _
def tD{h:QQ}(b:∀o∈h,GO P o){id f:Int}{v:Vl}(e:jw h id f=some v):GV P v:=by
 obtain⟨i,g,_,_,_,c,a⟩:=qq e;rw[<-a];exact(b _ (N_ g)).2 _ (N_ c)
def XF.read{x:XP}(b:XF P x)(id f:Int)(hid:P id∨id=1):XO P (hW x id f).1/\GV P (hW x id f).2:=by
 unfold hW;split;exact⟨.inl rfl,GV.default⟩;rename_i h g;have c:=tD b.h g;split
 .exact⟨.inr b,c⟩
 refine⟨.inr {b with rs:=λe a=>?_},c⟩;rcases W_.1 a with a|a
 exact b.rs e a;rw[J_]at a;subst a;exact⟨hid,c⟩
def XF.write{x:XP}(b:XF P x)(id f:Int)(v:Vl)(hid:P id∨id=1)(e:GV P v):XF P (ib x id f v):=by
 refine{b with ws:=λc a=>?_};rcases W_.1 a with a|a
 exact b.ws c a;rw[J_]at a;subst a;exact⟨hid,e⟩
def XF.brk{x:XP}(a:XF P x)(b:Bool):XF P {x with hO:=b}:={a with}
def XF.E0{x:XP}(c:XF P x)(k p s:Int)(t:Bool)(v:Vl)(r:Nat->Vl)(b:GV P v)(a:∀i,GV P (r i)):XF P {x with e:={x.e with h7:=k,pc:=p,kF:=s,hZ:=t,v:=v,r:=r}}:={c with r:=a,v:=b}
def XF.root{x:XP}(a:XF P x):XF P (iJ x):=a.brk _
def XO.read{x:XP}(a:XO P x)(id f:Int)(hid:x.hO=false->(P id∨id=1)):XO P (hW x id f).1/\((hW x id f).1.hO=false->x.hO=false/\GV P (hW x id f).2):=by
 rcases a with hb|a
 exact K5;cases hb:x.hO with
 |true=>
  exact K5
 |false=>
  obtain⟨b,c⟩:=a.read id f (hid hb);exact⟨b,λ_=>⟨rfl,c⟩⟩
def XO.write{x:XP}(b:XO P x)(id f:Int)(v:Vl)(hid:x.hO=false->(P id∨id=1))(c:x.hO=false->GV P v):XO P (ib x id f v):=by
 rcases b with a|b
 exact .inl a;cases a:x.hO with
 |true=>exact .inl a
 |false=>exact .inr (b.write id f v (hid a) (c a))
def XF.frame{x:XP}(f:XF P x):XO P (hT x).1/\((hT x).1.hO=false->P (hT x).2.1):=by
 unfold hT;simp only;split;rename_i b;exact⟨.inl b,λa=>by rw[b]at a;cases a⟩;obtain⟨b,c⟩:=XO.read (.inr f.root:XO P (iJ x)) 1 0 (λ_=>.inr rfl);refine⟨?_,λa=>?_⟩
 .rcases b with b|b
  .exact .inl (by simp[b])
  exact .inr (b.brk _)
 simp only[Bool.or_eq_false_iff]at a;have e:(hW (iJ x) 1 0).2.r=true:=by have:=a.2.1;simpa using this
 exact(c a.1).2 e
def XO.brk{x:XP}:XO P (kU x):=.inl rfl
def XO.Cz{x:XP}(a:XO P x)(k p s:Int)(t:Bool)(v:Vl)(r:Nat->Vl)(f:XF P x->GV P v)(c:XF P x->∀i,GV P (r i)):XO P {x with e:={x.e with h7:=k,pc:=p,kF:=s,hZ:=t,v:=v,r:=r}}:=by
 rcases a with b|a
 exact .inl b;exact .inr (a.E0 k p s t v r (f a) (c a))
def GV.jp(i:Nat):GV P (jp i):=GV.default
def XO.frame{x:XP}(hx:XO P x):XO P (hT x).1/\((hT x).1.hO=false->P (hT x).2.1):=KU
def XO.throw{x:XP}(hx:XO P x)(v:Vl)(hv:GV P v):XO P (jl x v):=by
 have m:XO P (hT x).1/\((hT x).1.hO=false->P (hT x).2.1):=KU;unfold jl;simp only;generalize hT x=a at*;obtain⟨d,e⟩:=m;split;exact d;obtain⟨g,j⟩:=d.read a.2.1 2 (λh=>.inl (e h));generalize hW a.1 a.2.1 2=c at*;split
 .exact XO.brk
 split;have h1:XO P (ib c.1 a.2.1 2 default):=g.write _ _ _ (λh=>.inl (e (j h).1)) (λ_=>GV.default);have f:XO P (ib (ib c.1 a.2.1 2 default) 1 2 v):=Mr;exact f.Cz _ _ _ _ _ _ (λh=>h.v) (λ_=>GV.jp);obtain⟨i,k⟩:=g.read a.2.1 0 (λh=>.inl (e (j h).1));generalize hW c.1 a.2.1 0=b at*;split
 .exact XO.brk
 split;exact i.Cz _ _ _ _ _ _ (λ_=>hv) (λh=>h.sr);have h1:XO P (ib b.1 1 0 b.2):=by
  rcases i with h|h
  exact .inl h;cases hb:b.1.hO with
  |true=>exact .inl hb
  |false=>exact .inr (h.write _ _ _ (.inr rfl) (k hb).2)
 have f:XO P (ib (ib b.1 1 0 b.2) 1 2 v):=Mr;exact f.Cz _ _ _ _ _ _ (λh=>h.v) (λ_=>GV.jp)
def XO.fault{x:XP}(a:XO P x)(n:Int):XO P (jk x n):=a.throw _ (GV.num n)
def XO.reg{x:XP}(a:XO P x)(b:Int)(v:Vl)(f:XF P x->GV P v):XO P (k6 x b v):=by
 rcases a with e|a
 exact .inl e;refine .inr {a with r:=λc=>?_};show GV P (rg x.e.r b v c);unfold rg;split;exact f a;exact a.r c
def XO.go{x:XP}(a:XO P x)(pc:Int):XO P (tV x pc):=by
 rcases a with b|a
 exact .inl b;exact .inr {a with}
def XF.object{x:XP}(hx:XF P x)(v:Vl)(f:Int)(b:GV P v):XO P (iz x v f).1/\P (iz x v f).2.1:=by
 unfold iz;split
 .exact Na
 split
 .exact Na
 split
 .exact⟨XO.brk,hx.zero⟩
 split;exact Na;rename_i a _ _ _ _ _;exact⟨.inr hx,b (zu a)⟩
def XO.variable{x:XP}(e:XO P x)(n:Int):XO P (hJ x n).1/\((hJ x n).1.hO=false->(hJ x n).2.2.2=true->P (hJ x n).2.1):=by
 obtain⟨b,c⟩:=e.frame;unfold hJ;simp only;generalize hT x=f at*;split
 .exact⟨b,λ_ a=>by cases a⟩
 split;exact⟨b.fault _,λ_ a=>by cases a⟩;exact⟨b,λa _=>c a⟩
def ra{e:Int}{a b:Vl}:GV P (iI e a b).1:=by
 have f:(iI e a b).1.r=false:=by
  unfold iI;split
  .rfl
  split
  .rfl
  unfold pQ
  repeat' split
  all_goals rfl
 intro c;rw[f]at c;cases c
def XF.ip{x y:XP}(b:XF P x)(i:In)(h:j0 x i=some y):XO P y:=by
 have a:XO P x:=.inr b;unfold j0 at h;refine iw (R:=XO P) h (λ_=>a) λ_ h=>?_;refine iw (R:=XO P) h (λ_=>a.reg _ _ λ_=>GV.num _) λ_ h=>?_;refine iw (R:=XO P) h (λ_=>a.reg _ _ λ_ _=>b.zero) λ_ h=>?_;refine iw (R:=XO P) h (λ_=>a.reg _ _ λ_=>b.r _) λ_ h=>?_;refine iw (R:=XO P) h (λ_=>?_) λ_ h=>?_
 .split
  .exact a.fault _
  exact a.reg _ _ λ_=>ra
 refine iw (R:=XO P) h (λ_=>a.go _) λ_ h=>?_;refine iw (R:=XO P) h (λ_=>?_) λ_ h=>?_
 .split
  .exact a
  exact a.go _
 refine iw (R:=XO P) h (λ_=>.inr {b with r:=GV.jp}) λ_ h=>?_;refine iw (R:=XO P) h (λ_=>a.throw _ (b.r _)) λ_ h=>?_;refine iw (R:=XO P) h (λ_=>?_) λ_ h=>?_
 .split
  .exact a.fault _
  exact .inr {b with}
 cases h
def XF.hH{x y:XP}(u:XF P x)(i:In)(h:kT x i=some y):XO P y:=by
 have C:XO P x:=.inr u;have B:∀E,GV P (x.sr E):=u.sr;unfold kT at h;by_cases g:i.op≠8/\i.op≠9/\i.op≠10/\i.op≠20
 .rw[U_ g]at h;cases h
 rw[T_ g]at h;obtain⟨m,z⟩:=XO.variable C i.n;dsimp only at h;generalize hJ x i.n=a at*
 by_cases b:a.2.2.2=false
 .rw[U_ b]at h;injection h with h;subst h;exact m
 rw[T_ b]at h;have k:a.1.hO=false->P a.2.1:=λh=>z h (zu b);refine iw (R:=XO P) h (λ_=>m.write _ _ _ (λh=>.inl (k h)) (λ_=>B _)) λ_ h=>?_;obtain⟨f,o⟩:=m.read a.2.1 a.2.2.1 (λh=>.inl (k h));generalize hW a.1 a.2.1 a.2.2.1=c at*
 have s:c.1.hO=false->GV P c.2:=λh=>(o h).2;have d:c.1.hO=false->P a.2.1:=λh=>k (o h).1;have p:∀{j:XP},(c.1.hO=true->j.hO=true)->(c.1.hO=false->XF P c.1->XO P j)->XO P j:=by
  intro j g A;cases b:c.1.hO with
  |true=>exact .inl (g b)
  |false=>exact A b (f.resolve_left (by rw[b];simp))
 refine iw (R:=XO P) h (λ_=>p (λh=>h) (λh e=>(XO.reg (.inr e) _ _ λ_=>s h))) λ_ h=>?_;by_cases t:i.op=10
 .rw[U_ t]at h;refine iw (R:=XO P) h (λ_=>f.fault _) λ_ h=>?_;injection h with h;subst h;have D:=f.write a.2.1 a.2.2.1 (iI i.b c.2 (x.sr i.a.toNat)).1 (λh=>.inl (d h)) (λ_=>ra);rcases D with b|e
  exact .inl b;exact .inr {e with}
 rw[T_ t]at h;refine iw (R:=XO P) h (λ_=>f.fault _) λ_ h=>?_;injection h with h;subst h;exact p (λh=>h) (λh e=>.inr {e with r:=e.sr,v:=s h})
structure EF(P:Int->Prop)(e:p7):Prop where
 r:∀i,GV P (e.r i)
 rs:∀c∈e.rs,(P c.id∨c.id=1)/\GV P c.v
 ws:∀c∈e.ws,(P c.id∨c.id=1)/\GV P c.v
 nw:∀o∈e.nw,GO P o
 v:GV P e.v
def EN(P:Int->Prop)(nx:Int)(e:p7):Prop:=(EF P e/\e.nw=[])∨(EF (λn=>P n∨n=nx) e/\∃fs,e.nw=[⟨nx,fs⟩])
def XR(P:Int->Prop)(nx:Int)(y:XP):Prop:=y.hO=true∨EN P nx y.e
def GV.mono{P Q:Int->Prop}(h:∀n,P n->Q n){v:Vl}(b:GV P v):GV Q v:=λa=>h _ (b a)
def GO.mono{P Q:Int->Prop}(h:∀n,P n->Q n){o:Ob}(a:GO P o):GO Q o:=⟨h _ a.1,λc b=>(a.2 c b).mono h⟩
def XF.en{x:XP}(a:XF P x)(c:Int):EN P c x.e:=.inl ⟨⟨a.r,a.rs,a.ws,λe b=>(by rw[a.nw]at b;cases b),a.v⟩,a.nw⟩
def XO.xr{x:XP}(c:XO P x)(a:Int):XR P a x:=c.elim .inl λb=>.inr (b.en a)
def Ab(x:XP)(id f:Int):(hW x id f).1.nx=x.nx:=by
 unfold hW;split;rfl;split<;>rfl
def yO(x:XP):(hT x).1.nx=x.nx:=by
 unfold hT;simp only;split;rfl;show(hW (iJ x) 1 0).1.nx=_;rw[Ab];rfl
def XF.rest{x:XP}(e:XF P x)(i:In):XR P x.nx (ka x i):=by
 have s:XO P x:=.inr e;have r:∀M,GV P (x.sr M):=e.sr;have j:∀n,P n->(P n∨n=x.nx):=λn h=>.inl h;unfold ka;dsimp only;by_cases C:i.op=5
 .rw[U_ C];refine XO.xr ?_ _;obtain⟨k,u⟩:=e.object (x.sr i.b.toNat) i.n (r _);generalize iz x (x.sr i.b.toNat) i.n=a at*
  by_cases t:a.2.2=true;rw[U_ t];obtain⟨a7,a6⟩:=k.read a.2.1 i.n (λ_=>.inl u);generalize hW a.1 a.2.1 i.n=z at*;exact Mj;rw[T_ t];exact k
 rw[T_ C];by_cases E:i.op=6
 .rw[U_ E];refine XO.xr ?_ _;obtain⟨k,u⟩:=e.object (x.sr i.b.toNat) i.n (r _);generalize iz x (x.sr i.b.toNat) i.n=a at*
  by_cases t:a.2.2=true;rw[U_ t];exact k.write _ _ _ (λ_=>.inl u) (λ_=>r _);rw[T_ t];exact k
 rw[T_ E];by_cases D:i.op=7
 .rw[U_ D];refine .inr (.inr ⟨⟨λp=>?_,λf b=>⟨(e.rs f b).1.imp_left .inl,(e.rs f b).2.mono j⟩,λf b=>⟨(e.ws f b).1.imp_left .inl,(e.ws f b).2.mono j⟩,λy s=>?_,e.v.mono j⟩,_,rfl⟩)
  .show GV _ (rg x.e.r i.a ⟨true,x.nx⟩ p);unfold rg;split;exact λ_=>.inr rfl;exact(e.r p).mono j
  have g:y=⟨x.nx,List.replicate i.n.toNat default⟩:=J_.1 s;rw[g];exact⟨.inr rfl,λN c=>by rw[(II.1 c).2];exact GV.default⟩
 rw[T_ D];by_cases F:i.op=13
 .rw[U_ F];obtain⟨d,o⟩:=e.frame;have v:=yO x;generalize hT x=a at*
  cases hb:a.1.hO with
  |true=>exact .inl rfl
  |false=>
   have m:XF P a.1:=d.resolve_left (by rw[hb];simp);have B:=o hb;refine .inr (.inr ⟨⟨λp=>(m.r p).mono j,λf b=>⟨(m.rs f b).1.imp_left .inl,(m.rs f b).2.mono j⟩,λf b=>?_,λy s=>?_,m.v.mono j⟩,_,by rw[<-v];rfl⟩);rcases W_.1 b with b|b
   .exact⟨(m.ws f b).1.imp_left .inl,(m.ws f b).2.mono j⟩
   have g:f=⟨1,0,⟨true,a.1.nx⟩⟩:=J_.1 b;rw[g];exact⟨.inr rfl,λ_=>.inr v⟩;have g:y=⟨a.1.nx,[⟨true,a.2.1⟩,⟨false,a.1.j6+1⟩,default]++((List.range i.b.toNat).map a.1.sr++List.replicate (i.c-i.b).toNat default)⟩:=J_.1 s;rw[g];refine⟨.inr v,λN c=>?_⟩;rcases W_.1 c with c|c
   rcases O_.1 c with g|c
   .rw[g];exact λ_=>.inl B
   rcases O_.1 c with g|c
   rw[g];exact GV.num _;rw[J_.1 c];exact GV.default;rcases W_.1 c with c|c
   .obtain⟨p,_,g⟩:=Ge.1 c;rw[<-g];exact(m.sr p).mono j
   rw[(II.1 c).2];exact GV.default
 rw[T_ F];refine XO.xr ?_ _;by_cases A:i.op=14
 .rw[U_ A];obtain⟨d,o⟩:=e.frame;generalize hT x=a at*
  by_cases hb:a.1.hO=true
  .rw[U_ hb];exact d
  rw[T_ hb];have hb:a.1.hO=false:=zu hb;obtain⟨B,v⟩:=d.read a.2.1 0 (λh=>.inl (o h));generalize hW a.1 a.2.1 0=m at*
  by_cases k:m.2.r=true/\m.2.n=0
  .rw[U_ k];exact B.Cz _ _ _ _ _ _ (λ_=>r _) (λh=>h.sr)
  rw[T_ k];obtain⟨K,q⟩:=B.read a.2.1 1 (λh=>.inl (o (v h).1));generalize hW m.1 a.2.1 1=H at*;split;exact XO.brk;have L:XO P (ib H.1 1 0 m.2):=K.write _ _ _ (λ_=>.inr rfl) (λh=>(v (q h).1).2);have J:XO P (ib (ib H.1 1 0 m.2) 1 1 (x.sr i.a.toNat)):=L.write _ _ _ (λ_=>.inr rfl) (λ_=>r _);exact J.go _
 rw[T_ A];by_cases l:i.op=15∨i.op=18
 .rw[U_ l];have m:=e.root;generalize iJ x=a at*
  by_cases hb:a.hO=true
  .rw[U_ hb];exact .inl hb
  rw[T_ hb];obtain⟨a7,a6⟩:=XO.read (.inr m:XO P a) 1 (if i.op=15 then 1 else 2) (λ_=>.inr rfl);generalize hW a 1 (if i.op=15 then 1 else 2)=z at*;exact Mj
 rw[T_ l];by_cases I:i.op=17
 .rw[U_ I];obtain⟨d,o⟩:=e.frame;generalize hT x=a at*;exact d.write _ _ _ (λh=>.inl (o h)) (λ_=>GV.num _)
 rw[T_ I];exact s
def XF.E4{x:XP}(a:XF P x)(pc:Int):XR P x.nx (qd x pc):=by
 unfold qd;split
 .dsimp only;split
  .exact .inl ‹_›
  have f:=a.root;obtain⟨e,c⟩:=XO.read (.inr f:XO P (iJ x)) 1 2 (λ_=>.inr rfl);generalize hW (iJ x) 1 2=g at*
  cases b:g.1.hO with
  |true=>
   refine XO.xr ?_ _;unfold jl hT iJ;dsimp only;simp only[b,Iy,if_true];exact .inl rfl
  |false=>exact(e.throw _ (c b).2).xr _
 dsimp only;split
 .rename_i c b;exact(a.ip _ b).xr _
 split
 .rename_i c b;exact(a.hH _ b).xr _
 exact a.rest _
def EF.hO:EF P ji:=⟨λ_=>GV.default,λb a=>(by cases a),λb a=>(by cases a),λb a=>(by cases a),GV.default⟩
def XF.Ei{x:XP}(b:XF P x)(pc:Int)(e:pc≠ -1)(f:(x.jo.getD pc.toNat default).op=20):XO P (qd x pc):=by
 unfold qd;rw[T_ e];dsimp only;split;rename_i g a;exact b.ip _ a;split
 .rename_i g a;exact b.hH _ a
 rename_i a;exfalso;unfold kT at a;rw[T_ (λc=>c.2.2.2 f)]at a;dsimp only at a;split at a
 .cases a
 rw[T_ (by rw[f];decide),T_ (by rw[f];decide),T_ (by rw[f];decide)]at a;split at a<;>cases a
def Ct{h:QQ}{r:Nat->Vl}(c:QS)(hH hC pc b:Int)(h0:P 0)(f:∀o∈h,GO P o)(e:∀i,GV P (r i)):EN P b (lx c hH hC pc r h b):=by
 unfold lx;split;exact .inl ⟨EF.hO,rfl⟩;dsimp only;have k:XF P ⟨c,hH,hC,pc,r,h,b,{mg with pc:=pc+1,r:=r},false⟩:=⟨h0,f,e,e,λc a=>(by cases a),λc a=>(by cases a),rfl,GV.default⟩;have j:=k.E4 pc;split
 .exact .inl ⟨EF.hO,rfl⟩
 rename_i g;exact j.resolve_left g
def uB{h:QQ}{r:Nat->Vl}(c:QS)(hH hC pc g:Int)(f:iB c pc=20)(h0:P 0)(k:∀o∈h,GO P o)(j:∀i,GV P (r i)):EF P (lx c hH hC pc r h g)/\(lx c hH hC pc r h g).nw=[]:=by
 have q:¬(pc<0∨(c.length:Int)<=pc):=by
  intro h;unfold iB at f;rw[U_ h]at f;cases f
 have f:(c.getD pc.toNat default).op=20:=by unfold iB at f;rw[T_ q]at f;exact f
 unfold lx;split;exact⟨EF.hO,rfl⟩;dsimp only;have p:XF P ⟨c,hH,hC,pc,r,h,g,{mg with pc:=pc+1,r:=r},false⟩:=⟨h0,k,j,j,λc e=>(by cases e),λc e=>(by cases e),rfl,GV.default⟩;have b:=p.Ei pc X f;split
 .exact⟨EF.hO,rfl⟩
 rename_i m;have a:=b.resolve_left m;exact⟨⟨a.r,a.rs,a.ws,λo b=>(by rw[a.nw]at b;cases b),a.v⟩,a.nw⟩
end
section
def HG(P:Int->Prop)(h:QQ):Prop:=∀o∈h,GO P o
variable{P:Int->Prop}
def HG.mono{P Q:Int->Prop}(h:∀n,P n->Q n){l:QQ}(a:HG P l):HG Q l:=λc b=>(a c b).mono h
def HG.nil:HG P []:=λb a=>by cases a
def HG.kk{h:QQ}(i:HG P h)(id f:Int){v:Vl}(j:GV P v):HG P (kk h id f v):=by
 intro o g;unfold Go.Proofs.YtenbhdilndfaeaaGreat.kk at g;obtain⟨m,e,b⟩:=Hu g;rw[H5]at e;rw[G7]at b;have c:=i _ (N_ e);split at b;rw[<-b];refine⟨c.1,λk a=>?_⟩;rcases Gw a with a|a
 exact c.2 k a;rw[a];exact j;rw[<-b];exact c
def HG.put{h:QQ}(av:HG P h){o:Ob}(ho:GO P o):HG P (ll h o):=by
 have hp:∀(a b:QQ),(∀x∈a,GO P x)->(∀x∈b,GO P x)->HG P (a++[o]++b):=K2;unfold ll;exact K3
def HG.puts:∀(l:QQ) {h:QQ},HG P h->HG P l->HG P (l.foldl ll h)
 |[],_,a,_=>a
 |o::l,_,a,b=>HG.puts l (a.put (b o GM)) (λx c=>b x (Gj _ c))
def HG.pe{h:QQ}(a:HG P h){c:Cl}(hc:GV P c.v):HG P (pe h c):=by
 unfold Go.Proofs.YtenbhdilndfaeaaGreat.pe;split;exact a;exact a.kk _ _ hc
def HG.iV:∀(l:QX) {h:QQ},HG P h->(∀c∈l,GV P c.v)->HG P (iV h l)
 |[],_,a,_=>a
 |c::l,_,a,b=>HG.iV l (a.pe (b c GM)) (λx e=>b x (Gj _ e))
def HG.nT{h:QQ}(a:HG P h)(d:Dl):HG P (nT h d):=by
 unfold Go.Proofs.YtenbhdilndfaeaaGreat.nT;split;exact a;split
 .exact a.kk _ _ (ra)
 exact a
def HG.jU:∀(l:QD) {h:QQ},HG P h->HG P (jU h l)
 |[],_,a=>a
 |d::l,_,a=>HG.jU l (a.nT d)
structure TG(P:Int->Prop)(t:jb):Prop where
 gs:∀c∈t.gs,GV P c.v
 rs:∀c∈t.rs,(P c.id∨c.id=1)/\GV P c.v
 ws:∀c∈t.ws,(P c.id∨c.id=1)/\GV P c.v
 nw:HG P t.nw
 r:∀i,GV P (t.r i)
 v:GV P t.v
def TG.mono{P Q:Int->Prop}(h:∀n,P n->Q n){t:jb}(a:TG P t):TG Q t:=
 ⟨λb c=>(a.gs b c).mono h,λb c=>⟨(a.rs b c).1.imp_left (h _),(a.rs b c).2.mono h⟩,λb c=>⟨(a.ws b c).1.imp_left (h _),(a.ws b c).2.mono h⟩,a.nw.mono h,λe=>(a.r e).mono h,a.v.mono h⟩
def HG.wT{rs:QX}:∀(l:QX) {h:QQ},HG P h->(∀c∈l,GV P c.v)->HG P (l.foldl (kM rs) h)
 |[],_,a,_=>a
 |c::l,h,a,e=>by
  refine HG.wT l ?_ (λx b=>e x (Gj _ b));unfold kM;split;exact HG.iV [c] a (λx b=>by rw[J_.1 b];exact e c GM);exact a
def TG.before{t:jb}(a:TG P t)(e:HG P view):HG P (before t view):=
 HG.iV _ (HG.wT _ e a.gs) (λb c=>(a.rs b c).2)
def TG.jq{t:jb}(a:TG P t)(e:HG P view):HG P (jq t view):=
 HG.jU _ (HG.iV _ (HG.puts _ (a.before e) a.nw) (λb c=>(a.ws b c).2))
def TG.lP{t:jb}(a:TG P t){h:QQ}(b:HG P h):HG P (lP h t):=
 HG.jU _ (HG.iV _ (HG.puts _ b a.nw) (λc e=>(a.ws c e).2))
def tu{l:QX}{c x:Cl}(a:x∈kE l c):x∈l∨x=c:=by
 unfold kE at a;split at a;exact Gw a;rcases W_.1 a with a|a
 .exact .inl (GX a)
 rcases W_.1 a with a|a
 .exact .inr (J_.1 a)
 exact .inl (Hs a)
def TG.j5{t:jb}(f:TG P t){c:Cl}(i:P c.id∨c.id=1)(hc:GV P c.v):TG P (j5 t c):=by
 unfold Go.Proofs.YtenbhdilndfaeaaGreat.j5;split;refine{f with ws:=λb a=>?_};rcases tu a with a|a
 exact f.ws b a;rw[a];exact⟨i,hc⟩;refine{f with nw:=λm j=>?_};obtain⟨k,g,b⟩:=Hu j;rw[H5]at g;rw[G7]at b;have e:=f.nw _ (N_ g);split at b
 .rw[<-b];refine⟨e.1,λh a=>?_⟩;unfold uC at a;dsimp only at a;split at a
  .rcases Gw a with a|a
   .exact e.2 h a
   rw[a];exact hc
  exact e.2 h a
 rw[<-b];exact e
def sP{t:jb}{c:Cl}:(j5 t c).nw.map Ob.id=t.nw.map Ob.id:=by
 unfold j5;split;rfl;exact MU
def TG.jv{t t':jb}(c:TG P t)(g:HG P view){id f:Int}(e:P id∨id=1)(a:jv t view id f=some t'):TG P t'/\t'.nw.map Ob.id=t.nw.map Ob.id:=by
 unfold Go.Proofs.YtenbhdilndfaeaaGreat.jv at a;split at a
 .injection a with a;subst a;exact⟨c,rfl⟩
 split at a;cases a
 rename_i j k;have h:=tD (c.before g) k;split at a
 .cases a
 injection a with a;subst a;have b:TG P {t with rs:=kE t.rs ⟨id,f,j⟩,ds:=t.ds.eraseIdx (pj t.ds id f).toNat}:=by
  refine{c with rs:=λm b=>?_};rcases tu b with b|b
  exact c.rs m b;rw[b];exact⟨e,h⟩
 refine⟨b.j5 e ?_,sP⟩;show GV P ((jw (Go.Proofs.YtenbhdilndfaeaaGreat.jq t view) id f).getD default);cases i:jw (Go.Proofs.YtenbhdilndfaeaaGreat.jq t view) id f with
 |none=>exact GV.default
 |some o=>exact tD (c.jq g) i
def TG.take{t t':jb}(b:TG P t){d:Dl}(a:take t d=some t'):TG P t'/\t'.nw=t.nw:=by
 unfold Go.Proofs.YtenbhdilndfaeaaGreat.take at a;split at a
 .cases a
 split at a
 .injection a with a;subst a;exact⟨{b with},rfl⟩
 split at a;cases a
 injection a with a;subst a;exact⟨{b with},rfl⟩
def TG.jP:∀(l:QD) {t:jb} (rs ws:QX),TG P t->TG P (jP t rs ws l).1/\(jP t rs ws l).1.nw=t.nw/\(∀c∈(jP t rs ws l).2.1,c∈rs)/\(∀c∈(jP t rs ws l).2.2,c∈ws)
 |[],_,_,_,a=>⟨a,rfl,λ_ h=>h,λ_ h=>h⟩
 |d::l,t,rs,ws,a=>by
  unfold Go.Proofs.YtenbhdilndfaeaaGreat.jP;cases j:Go.Proofs.YtenbhdilndfaeaaGreat.take t d with
  |none=>exact TG.jP l rs ws a
  |some t'=>
   obtain⟨f,b⟩:=a.take j;obtain⟨c1,g,c3,i⟩:=TG.jP l (jJ rs d) (jJ ws d) f;exact⟨c1,g.trans b,λc e=>(HK.1 (c3 c e)).1,λc e=>(HK.1 (i c e)).1⟩
def TG.j8{view:QQ}(j:HG P view):∀(l:QX) {t t':jb},TG P t->(∀c∈l,(P c.id∨c.id=1)/\GV P c.v)->j8 view t l=some t'->TG P t'/\t'.nw.map Ob.id=t.nw.map Ob.id
 |[],t,t',f,_,b=>by injection b with b;subst b;exact⟨f,rfl⟩
 |c::l,t,t',f,i,b=>by
  unfold Go.Proofs.YtenbhdilndfaeaaGreat.j8 at b;cases a:qk view t c with
  |none=>rw[a]at b;cases b
  |some k=>
   rw[a]at b;have hc:=i c GM;have h:TG P k/\k.nw.map Ob.id=t.nw.map Ob.id:=by
    unfold qk at a;split at a
    .injection a with a;subst a;exact⟨f,rfl⟩
    split at a;exact f.jv j hc.1 a;injection a with a;subst a;refine⟨{f with rs:=λg e=>?_},rfl⟩;rcases tu e with e|e
    exact f.rs g e;rw[e];exact hc
   obtain⟨m,o⟩:=TG.j8 j l h.1 (λg e=>i g (Gj _ e)) b;exact⟨m,o.trans h.2⟩
def TG.kx{view:QQ}(k:HG P view):∀(l:QX) {t t':jb},TG P t->(∀c∈l,(P c.id∨c.id=1)/\GV P c.v)->kx view t l=some t'->TG P t'/\t'.nw.map Ob.id=t.nw.map Ob.id
 |[],t,t',h,_,b=>by injection b with b;subst b;exact⟨h,rfl⟩
 |c::l,t,t',h,j,b=>by
  unfold Go.Proofs.YtenbhdilndfaeaaGreat.kx at b;cases a:r7 view t c with
  |none=>rw[a]at b;cases b
  |some m=>
   rw[a]at b;have hc:=j c GM;have i:TG P m/\m.nw.map Ob.id=t.nw.map Ob.id:=by
    unfold r7 at a;cases f:Go.Proofs.YtenbhdilndfaeaaGreat.jv t view c.id c.f with
    |none=>rw[f]at a;cases a
    |some q=>
     rw[f]at a;injection a with a;subst a;obtain⟨e,g⟩:=h.jv k hc.1 f;exact⟨e.j5 hc.1 hc.2,(sP).trans g⟩
   obtain⟨e,g⟩:=TG.kx k l i.1 (λp o=>j p (Gj _ o)) b;exact⟨e,g.trans i.2⟩
def TG.record{t t':jb}(z:TG P t)(m:HG P view){e:p7}(j:EF P e)(a:record t view e=some t'):TG P t'/\t'.nw.map Ob.id=t.nw.map Ob.id++e.nw.map Ob.id:=by
 unfold Go.Proofs.YtenbhdilndfaeaaGreat.record at a;dsimp only at a;obtain⟨r,q,s,u⟩:=TG.jP e.ds e.rs e.ws z;generalize Go.Proofs.YtenbhdilndfaeaaGreat.jP t e.rs e.ws e.ds=f at*
 cases g:Go.Proofs.YtenbhdilndfaeaaGreat.j8 view f.1 f.2.1 with
 |none=>rw[g]at a;cases a
 |some c=>
  rw[g]at a;dsimp only at a;obtain⟨k,x⟩:=TG.j8 m _ r (λb i=>j.rs b (s b i)) g;have A:TG P {c with nw:=c.nw++e.nw}:={k with nw:=λo y=>(W_.1 y).elim (k.nw o) (j.nw o)};cases h:Go.Proofs.YtenbhdilndfaeaaGreat.kx view {c with nw:=c.nw++e.nw} f.2.2 with
  |none=>rw[h]at a;cases a
  |some p=>
   rw[h]at a;injection a with a;subst a;obtain⟨c1,v⟩:=TG.kx m _ A (λb i=>j.ws b (u b i)) h;refine⟨{c1 with},?_⟩;show p.nw.map Ob.id=_;rw[v];show(c.nw++e.nw).map Ob.id=_;rw[Gd,x,q]
def vl(t:jb):Int:=(t.run+1)*1048576+t.nw.length
def TG.step{t:jb}(g:TG P t)(k:HG P view)(h0:P 0)(c:QS)(hH hC:Int)(d:QR):
 (TG P (je c hH hC d t view)/\(je c hH hC d t view).nw.map Ob.id=t.nw.map Ob.id)∨
 (TG (λn=>P n∨n=vl t) (je c hH hC d t view)/\(je c hH hC d t view).nw.map Ob.id=t.nw.map Ob.id++[vl t]):=by
 have u:=Ct c hH hC t.pc (vl t) h0 (g.jq k) g.r;have p:TG P (nv t):={g with};unfold je;dsimp only;rw[show(t.run+1)*1048576+(t.nw.length:Int)=vl t from rfl];generalize lx c hH hC t.pc t.r (Go.Proofs.YtenbhdilndfaeaaGreat.jq t view) (vl t)=a at*;split
 .exact .inl ⟨p,rfl⟩
 split
 .exact .inl ⟨{g with},rfl⟩
 cases s:Go.Proofs.YtenbhdilndfaeaaGreat.record t view a with
 |none=>exact .inl ⟨p,rfl⟩
 |some b=>
  dsimp only;have o:∀{Q:Int->Prop} {l:QR},EF Q a->TG Q b/\b.nw.map Ob.id=l->TG Q (if a.h7=2 then{b with pc:=a.pc,r:=a.r,hK:=b.hK+1,h9:=3,hZ:=a.hZ,v:=a.v}
   else if a.h7=1/\(i0 (λm=>m==a.kF) d=true∨64<=b.hK+1∨jz c hH hC a.pc=true) then{b with pc:=a.pc,r:=a.r,hK:=b.hK+1,h9:=2,next:=a.pc}
   else{b with pc:=a.pc,r:=a.r,hK:=b.hK+1})/\(if a.h7=2 then{b with pc:=a.pc,r:=a.r,hK:=b.hK+1,h9:=3,hZ:=a.hZ,v:=a.v}
   else if a.h7=1/\(i0 (λm=>m==a.kF) d=true∨64<=b.hK+1∨jz c hH hC a.pc=true) then{b with pc:=a.pc,r:=a.r,hK:=b.hK+1,h9:=2,next:=a.pc}
   else{b with pc:=a.pc,r:=a.r,hK:=b.hK+1}:jb).nw.map Ob.id=l:=by
   intro Q l e⟨i,j⟩;split
   .exact⟨{i with r:=e.r,v:=e.v},j⟩
   split;exact⟨{i with r:=e.r},j⟩;exact⟨{i with r:=e.r},j⟩
  rcases u with⟨e,h⟩|⟨e,x,h⟩
  have f:=g.record k e s;rw[h]at f;exact .inl (o e (zu f));have f:=(g.mono (Q:=λn=>P n∨n=vl t) (λn f=>.inl f)).record (k.mono (λn f=>.inl f)) e s;rw[h]at f;exact .inr (o e (zu f))
end
def wf64_0:mH 0:=WalkArith.wf_i64 X
def wf64_1:mH 1:=WalkArith.wf_i64 X
def wf64_2:mH 2:=WalkArith.wf_i64 X
def Cv{t:jb}(h0:0<=t.run)(a:t.run<=1099511627776)(b:t.nw.length<=500000):mH (vl t):=by
 unfold vl;exact WalkArith.wf_i64 X
def TG.Ar{t:jb}(h:TG mH t)(i:HG mH view)(c:QS)(hH hC:Int)(d:QR)(h0:0<=t.run)(e:t.run<=1099511627776)(f:t.nw.length<=500000):TG mH (je c hH hC d t view):=by
 rcases h.step i wf64_0 c hH hC d with a|a
 exact a.1;exact a.1.mono λn g=>g.elim id (λb=>b▸Cv h0 e f)
def TG.AO{l:QS}{hH hC:Int}{d:QR}{view:QQ}(i:ia l hH hC=true)(f:l.length<=2048)(b:HG mH view):∀(n:Nat) (t:jb),(t.h9=0->Way l t)->TF t->TG mH t->0<=t.run->t.run<=1099511627776->TG mH (mX l hH hC d view n t)
 |0,_,_,_,a,_,_=>a
 |n+1,t,j,e,a,h0,c=>by
  unfold mX;split;rename_i h;obtain⟨k,m⟩:=qA (d:=d) (view:=view) i f (j h) e h;have g:=mK l hH hC d t view;exact TG.AO i f b n _ m k (a.Ar b l hH hC d h0 c e.sm.nw) (by rw[g];exact h0) (by rw[g];exact c);exact a
def TG.begin{P:Int->Prop}(l:QS)(hH hC hQ run:Int)(ip:Bool):TG P (jm l hH hC hQ run ip).1:=by
 have z:∀b:jb,b.gs=[]->b.rs=[]->b.ws=[]->b.nw=[]->b.r=jp->b.v=default->TG P b:=λb e f g d h i=>
  ⟨λc a=>(by rw[e]at a;cases a),λc a=>(by rw[f]at a;cases a),λc a=>(by rw[g]at a;cases a),λc a=>(by rw[d]at a;cases a),λj=>by rw[h];exact GV.default,by rw[i];exact GV.default⟩
 unfold jm;split
 .exact Nf
 split
 .exact Nf
 split;exact Nf;exact Nf
def nS(l:QS)(hH hC hQ run:Int)(ip:Bool):(jm l hH hC hQ run ip).1.run=run∨(jm l hH hC hQ run ip).1.run=0:=by
 unfold jm;split
 .exact .inr rfl
 split
 .exact .inr rfl
 split;exact .inl rfl;exact .inl rfl
def tK{l:QS}{hH hC:Int}{d:QR}(c:ia l hH hC=true)(a:l.length<=2048){s:qb}{run:Int}(b:HG mH s.h)(h0:0<=run)(e:run<=1099511627776):TG mH (mP l hH hC d s run):=by
 have f:=nS l hH hC s.hQ run true;exact TG.AO c a b _ _ (λ_=>nR) (p2 a) (TG.begin _ _ _ _ _ _) X X
def HG.hQ{P:Int->Prop}(hH:Int)(h0:P 0)(i:P 1)(e:P 2):HG P (startHeap hH):=by
 have h:∀(n:Int) (f:Nat),P n->∀g∈(⟨true,n⟩::List.replicate f default:QA),GV P g:=by
  intro n f j g c;rcases O_.1 c with b|c
  rw[b];exact λ_=>j;rw[(II.1 c).2];exact GV.default
 intro k a;unfold startHeap at a;rcases O_.1 a with b|a
 rw[b];exact⟨i,h _ _ e⟩;rw[J_.1 a];exact⟨e,h _ _ h0⟩
def HG.ky{P:Int->Prop}{h:QQ}{e:p7}(b:HG P h)(a:EF P e):HG P (ky h e):=
 HG.iV _ (HG.puts _ b a.nw) (λc f=>(a.ws c f).2)
def HG.mS{P:Int->Prop}(l:QS){h:QQ}(pc a:Int)(b:HG P h):HG P (mS l h pc a):=b.pe (GV.num _)
def tS{l:QS}{hH hC:Int}{s:qb}{e:p7}(h:¬mv l hH hC s e=true):s.jH=false/\iB l s.hQ=20/\e.h7≠4:=by
 unfold mv at h;have h:¬(s.jH=true∨jz l hH hC s.hQ=false∨e.h7=4):=zu h;refine⟨by cases b:s.jH with|false=>rfl|true=>exact Gc (.inl b) h,?_,λc=>h (.inr (.inr c))⟩;cases a:jz l hH hC s.hQ with
 |false=>exact Gc (.inr (.inl a)) h
 |true=>
  unfold jz at a;rw[Gq]at a;simpa using a.2
def HG.ny{P:Int->Prop}(l:QS)(hH hC:Int)(lh:QR){s:qb}(h0:P 0)(a:HG P s.h):HG P (ny l hH hC lh s).1.h:=by
 unfold Go.Proofs.YtenbhdilndfaeaaGreat.ny;split
 .exact HG.nil
 split;exact HG.nil;rename_i e;obtain⟨_,c,_⟩:=tS e;obtain⟨b,g⟩:=uB l hH hC s.hQ 0 c h0 a (λ_=>GV.default:∀f,GV P (jp f));unfold oh;split
 .exact a.mS _ _ _
 split;exact a.ky b;exact a.ky b
def HG.kR{P:Int->Prop}{s:qb}{t:jb}(a:HG P s.h)(b:TG P t)(ok:Bool):HG P (kR ok s t).1.h:=by
 unfold Go.Proofs.YtenbhdilndfaeaaGreat.kR;split
 .exact HG.nil
 split
 .exact HG.nil
 split;exact HG.nil;unfold mx;split
 .exact b.lP a
 exact b.lP a
def uX.ER{l:QS}{hH hC:Int}{d lh:QR}{k:Nat}{run:Int}{s:qb}(b:ia l hH hC=true)(h:uX l hH hC d lh k run s)(f:k<=1000000):HG mH s.h:=by
 have c:=kn b;induction h with
 |hQ=>exact HG.hQ _ wf64_0 wf64_1 wf64_2
 |ask _ _ _ a=>exact HG.ny _ _ _ _ wf64_0 (a X)
 |commit h _ _ a=>
  have e:=h.cb b;exact HG.kR (a X) (tK b c.2.1 (a X) e.2.1 X) true
def HG.nG{P:Int->Prop}{h:QQ}{ts:QG}(b:HG P h)(a:∀t∈ts,TG P t)(k:Int):HG P (nG h ts k):=by
 unfold Go.Proofs.YtenbhdilndfaeaaGreat.nG;have a:∀t∈ts.take k.toNat,TG P t:=λt h=>a t (GX h);generalize ts.take k.toNat=l at*
 induction l generalizing h with
 |nil=>exact b
 |cons t l c=>exact c ((a t GM).lP b) (λf e=>a f (Gj _ e))
def w7.ER{l:QS}{hH hC:Int}{d:QR}{h:QQ}{run:Int}{ts:QG}(q:ia l hH hC=true)(p:l.length<=2048)(g:w7 l hH hC d h run n ts)(j:HG mH h)(h0:0<=run)(r:run<=1000000000):∀t∈ts,TG mH t/\0<=t.run/\t.run<=1000000016:=by
 induction g with
 |hQ ts iF f=>
  intro t a;obtain⟨e,b,rfl⟩:=Hu a;obtain⟨k,i,_,c⟩:=f e b;have m:=nS l hH hC k (run+e) i;rw[c];exact⟨TG.begin _ _ _ _ _ _,X,X⟩
 |step e b m s c=>
  intro t a;rcases Gw a with a|rfl
  exact c t a;obtain⟨i,f,k⟩:=c _ (N_ b);have o:=(m.tf q p _ (N_ b)).1;rw[mK];exact⟨i.Ar (j.nG (λt a=>(c t a).1) _) l hH hC d f X o.sm.nw,f,k⟩
section
structure PX(P:Int->Prop)(R:Int):Prop where
 r:0<=R
 z:P 0
 o:P 1
 t:P 2
 nx:∀(run:Int) (k:Nat),0<=run->run<=R->k<=500000->P ((run+1)*1048576+k)
variable{P:Int->Prop}{R:Int}
def TG.D9(b:PX P R){t:jb}(i:TG P t)(j:HG P view)(c:QS)(hH hC:Int)(d:QR)(h0:0<=t.run)(f:t.run<=R)(g:t.nw.length<=500000):TG P (je c hH hC d t view):=by
 rcases i.step j b.z c hH hC d with a|a
 exact a.1;exact a.1.mono λn h=>h.elim id (λe=>e▸b.nx _ _ h0 f g)
def TG.Ec(j:PX P R){l:QS}{hH hC:Int}{d:QR}{view:QQ}(i:ia l hH hC=true)(f:l.length<=2048)(b:HG P view):∀(n:Nat) (t:jb),(t.h9=0->Way l t)->TF t->TG P t->0<=t.run->t.run<=R->TG P (mX l hH hC d view n t)
 |0,_,_,_,a,_,_=>a
 |n+1,t,k,e,a,h0,c=>by
  unfold mX;split;rename_i h;obtain⟨m,o⟩:=qA (d:=d) (view:=view) i f (k h) e h;have g:=mK l hH hC d t view;exact TG.Ec j i f b n _ o m (a.D9 j b l hH hC d h0 c e.sm.nw) (by rw[g];exact h0) (by rw[g];exact c);exact a
def zL(b:PX P R){l:QS}{hH hC:Int}{d:QR}(e:ia l hH hC=true)(a:l.length<=2048){s:qb}{run:Int}(c:HG P s.h)(h0:0<=run)(f:run<=R):TG P (mP l hH hC d s run):=by
 have g:=nS l hH hC s.hQ run true;exact TG.Ec b e a c _ _ (λ_=>nR) (p2 a) (TG.begin _ _ _ _ _ _) X (ov b.r)
def uX.gX(a:PX P R){l:QS}{hH hC:Int}{d lh:QR}{k:Nat}{run:Int}{s:qb}(c:ia l hH hC=true)(h:uX l hH hC d lh k run s)(g:(k:Int)<=R):HG P s.h:=by
 have e:=kn c;induction h with
 |hQ=>exact HG.hQ _ a.z a.o a.t
 |ask _ _ _ b=>exact HG.ny _ _ _ _ a.z (b X)
 |commit h _ _ b=>
  have f:=h.cb c;exact HG.kR (b X) (zL a c e.2.1 (b X) f.2.1 X) true
def Sm(n:Int):Prop:=0<=n/\n<=40000000
def Eg:PX Sm 32:=⟨by decide,⟨by decide,by decide⟩,⟨by decide,by decide⟩,⟨by decide,by decide⟩,λrun k h0 h1 hk=>⟨by omega,by omega⟩⟩
def HG.ids{h:QQ}(a:HG P h):∀o∈h,P o.id:=λo b=>(a o b).1
end
