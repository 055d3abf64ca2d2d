import Derived.Test.YtenbhdilndfaeaaGreatM28
import Derived.Test.YtenbhdilndfaeaaGreatM29
set_option maxRecDepth 100000
set_option maxHeartbeats 0
set_option linter.all false
namespace Go.Proofs.YtenbhdilndfaeaaGreat
open Go.RowKit Go.Proofs.Tryz
variable{G:Prop}{w:World}{n:Nat}{view:List Ob}(PA:Option Addr)
def KA(h:G:=by
 rcases hx with hb|hx
 .have hk:(hT x).1.hO=true:=by unfold hT iL;simp[hb]
  exact⟨.inl hk,λh=>by rw[hk]at h;cases h⟩
 .exact hx.frame):G:=h
def KI(h:G:=by
 have hk:(hW x id f).1.hO=true:=by
  unfold hW;split
  .rfl
  .split<;>exact hb
 exact⟨.inl hk,λh=>by rw[hk]at h;cases h⟩):G:=h
def LN(h:G:=by
 cases hb:z.1.hO with
 |true=>exact .inl hb
 |false=>exact a6.reg _ _ λ_=>(be hb).2):G:=h
def LU(h:G:=by
 rcases h1 with h|h
 .exact .inl h
 .exact .inr (h.write _ _ _ (.inr rfl) hv)):G:=h
def Mq(h:G:=by
 show((s.h8++t.h8).length:Int)<=((k+1:Nat):Int)*500000
 rw[J_];omega):G:=h
def MD(h:G:=by
 exact⟨XO.fault (.inr hx) _,hx.zero⟩):G:=h
def MF(h:G:=by
 show s.hK+1<=((k+1:Nat):Int)*3001
 omega):G:=h
def MI(h:G:=by
 exact z _ rfl rfl rfl rfl rfl rfl):G:=h
def MJ(h:G:=by
 show s.jo<=((k+1:Nat):Int)
 omega):G:=h
def Ez(w:World)(e:Ending)(w':World):Prop:=∃(A:OA) (c:Nat) (l:List In) (hH hC:Int),e=.returned (.tuple #[.agg #[.slice A l.length c,Y hH,Y hC],Y 0])/\Is w' A l/\ic l hH hC=true/\l.length<=c/\I [] w w'
def GS.zero(PA:Option Addr)(c:Nat):GS:=⟨.slice PA 3 c,none,0,[],none,0,[],0,none,0,[],none,0,[],none,0,[],0,0,none,0,[],[]⟩
def nc.new(w:World)(PA:Option Addr)(c:Nat):nc w.heap.size (w.alloc (.cells #[.slice PA 3 c,n_,Y 0,n_,n_,n_,n_,Y 0,Y 0,n_] 210)) w.heap.size (GS.zero PA c):=by
 refine⟨P_ w 210 #[.slice PA 3 c,n_,Y 0,n_,n_,n_,n_,Y 0,Y 0,n_],H_ _,iT _ _ _ _,iT _ _ _ _,iT _ _ _ _,λf a=>(by cases a),HY,λe b=>?_,by simp[GS.zero,GS.rows,Value.ownBlock],Gw _ _ _ _,by simp⟩
 have:e=(n_,[]):=by simpa[GS.zero,GS.rows]using b
 subst this;exact iT _ _ _ _
def CZ.zero(c:Nat):CZ 0 (.slice PA 3 c) 0 (GS.zero PA c).lg:=
 ⟨rfl,rfl,rfl,λb a=>(by cases a),λb a=>(by cases a),H_ _,rfl,rfl,.inl ⟨rfl,rfl,rfl,rfl⟩⟩
def t2(Ns:List Nat)(k:Nat):Nat:=30*(Ns.take k).sum+3*k
def zi{q:Nat->Prop}{PA:OA}(c:Nat){fs:List FT}(Ns:List Nat)(w:World)(al:CG q w PA fs Ns):
 Calls prog 88 #[.agg #[.slice PA 3 c]] w (Ez w):=by
 refine h5 λan aq=>?_
 obtain⟨bJ,bG,bA,a6,be⟩:=info_parts infoInt;obtain⟨aA,gx,L,aW,hx,e2,hg,hB,hR⟩:=tJ w 150 #[.slice PA 3 c] 26 #[n_,Y 0,Y 0];have MV:aA.cell? (Z gx 0)=some (.slice PA 3 c):=hB.f_ 0;have M:=U (al.hF hg);clear al
 go_enter func88,ntmps88
 go_wp2_with fail
 go_at_call 134
 refine(wl q PA c fs Ns aA M.out).mono ?_;rintro e w2⟨rfl,M0⟩;have MU:w2.cell? (Z gx 0)=some (.slice PA 3 c):=(hB.hF M0).f_ 0;have eO:=U (nc.new w2 PA c);have bd:=(H [] w2).alloc (.cells #[.slice PA 3 c,n_,Y 0,n_,n_,n_,n_,Y 0,Y 0,n_] 210);obtain⟨aI,b,cf,dX,_,_⟩:=box1 w2 210 #[.slice PA 3 c,n_,Y 0,n_,n_,n_,n_,Y 0,Y 0,n_];rw[cf,dX]at eO;rw[cf]at bd;have au:aI.cell? (Z gx 0)=some (.slice PA 3 c):=(hB.hF (M0.trans bd)).f_ 0;clear MV
 go_upto_region 6 with fail
 have dH:=M.out.pc;have eT:nk aI (.slice PA 3 c):=⟨PA,c,fs,rfl,dH.len,Sl.hF dH.hfs (M0.trans bd),dH.i1,dH.i2⟩;have fy:=U eT;have dB:=U (M.out.hF (M0.trans bd));have bD:=hB.hF (M0.trans bd);have cD:=hR.hF (M0.trans bd);have fL:=hg.trans (M0.trans bd);have f2:=U dX
 have er:w2.heap.size<=b:=by omega
 have e5:w.heap.size<=b/\w.heap.size<=L:=by have C:=hg.size;have y:=M0.size;omega
 have fZ:=U cf;clear dH eT MU au aW hx e2 cf dX hB hR hg M0;have bC:lI b aI b (GS.zero PA c).lg:=⟨_,rfl,eO.out⟩
 go_loopw [25] (λah w'=>∃(g:Nat) (a:iX),g<=3/\ah=Y g/\lI b w' b a/\CZ g (.slice PA 3 c) (t2 Ns g) a/\Gt b gT aI w') (λah _=>3-(intOf ah).toNat)
 case atStart=>exact⟨0,_,X,gn,bC,CZ.zero PA c,.refl _ _ _⟩
 case round=>
  obtain⟨g,a,hk,rfl,MZ,hL,Q⟩:=hrel;clear bC
  by_cases af:g<3
  .have E:g<fs.length:=ov M.out.pg.len;have aB:g<Ns.length:=ov M.out.pg.nl;have hfs:=Sl.gt dB.out.pg.hfs Q O;obtain⟨bf,off,hA,z0,aR,aZ⟩:=BZ.at_ hfs E;have bh:=(dB.out.pg.rd _ (O_ E)).gt Q O O O;obtain⟨_,ca,b6⟩:=M.out.pg.nm _ (O_ E);have bX:=M.out.pg.sg g E aB;have aH:=M.out.vs g E aB;obtain⟨d5,eH⟩:=pm Ns g aB;have cA:=M.out.pg.sum;have eg:Ns[g]<=64:=X
   have hls:t2 Ns (g+1)=t2 Ns g+30*Ns[g]+3:=by unfold t2;omega
   have gf:t2 Ns (g+1)<=2048:=by unfold t2;omega
   obtain⟨f,hf⟩:=nm_ (fs[g]);obtain⟨bm,bv⟩:=nm_ (Ns[g]);rw[<-hf]at z0 aR aZ bh ca b6 bX aH;rw[<-bv]at bX aH eg hls;have iN:=hL.len;have bT:t2 Ns g<=2048:=X;have et:decide ((g:Int)<3)=true:=p_;have bY:wr.cell? (Z gx 0)=some (.slice PA 3 c):=(bD.gt Q O).f_ 0;have bx:=U bh;have ce:=U ca;have c9:=U bX;have cG:=U aH;have t:=U hL;have eP:=U hls;have R:=U hf;have fa:=U hA;obtain⟨bK,V,P,bF,b9,bQ⟩:=box1 wr 213 #[.string f.name,.slice f.AP f.ps.length f.cP,.slice f.A f.bs.length f.c];obtain⟨cO,bO,e1⟩:=bQ.nO;rw[hA];have az:=U (sN ig (by rw[sj];decide) 5 bm f q bK (bx.out.hF b9) c9.out X ce.out X);obtain⟨s,u,z⟩:=MZ;have bu:=U u;have fm:=U z;clear hf bv bh ca bX aH hL hls hA d5 eH cA hfs u z
   go_wp2_with fail
   refine az.out.mono ?_;rintro e o⟨a8,c5,vs,rfl,b5,ez,eG,eC,eA,N⟩
   have cu:vs.length<=9:=by have h:=lr vs ig ez eG;rw[sj]at h;exact h
   have co:=b9.trans N;have D:=fm.out.hF co;have aE:o.cell? (Z b 6)=some (.slice s.VA s.vs.length s.vc):=D.hg.f_ 6;have br:o.cell? (Z b 7)=some (Y s.hidden):=D.hg.f_ 7;have cg:o.cell? (Z b 8)=some (Y s.most):=D.hg.f_ 8;have dV:=D.hg.hG 6;have f7:=D.hg.hG 7;have f8:=D.hg.hG 8;clear cO bO e1 z0 aR aZ bY
   go_upto_region 9 with fail
   obtain⟨cj,ay⟩:=D.Cg a8 c5 vs b5;obtain⟨ax,cn⟩:=nm_ (((o.setCell (Z b 6) (.slice a8 vs.length c5)).setCell (Z b 7) (Y 0)).setCell (Z b 8) (Y 0));rw[<-cn]at cj ay |-;clear cn aE br cg dV f7 f8 D;obtain⟨j,eF⟩:=nm_ ({s with VA:=a8,vc:=c5,vs:=vs,hidden:=0,most:=0});rw[<-eF]at cj
   have dj:j.lg={a with vs:=vs,hidden:=0,most:=0}:=by rw[eF,<-bu.out];rfl
   have aX:=(bQ.hF N).gt ay O;have dt:=(Q.trans (.js co)).trans ay
   have fS:j.rt++j.os=[]:=by
    have C:j.os.map (λK=>(K.box,K.is))=[]:=(Z_ iX.ats dj).trans t.out.ats;have y:j.rt.map (λK=>(K.box,K.is))=[]:=(Z_ iX.rts dj).trans t.out.rts;rw[List.map_eq_nil_iff]at C y;rw[C,y]
    rfl
   have ey:j.l=a.l:=Z_ iX.l dj;have d4:j.hC=a.hC:=Z_ iX.hC dj;have em:j.es=a.es:=Z_ iX.es dj;have d9:=U t.out.mark
   have eZ:j.l.length<=100000:=by rw[ey];omega
   have fT:0<=j.hC:=by rw[d4];exact d9.out.2.1
   have fU:j.hC<=100000:=by rw[d4];have:=d9.out.2.2;omega
   have f9:j.es.length<=3:=by rw[em,t.out.el];omega
   have fD:=U dj;have fx:=U ey;have fE:=U d4;have fi:=U em;clear eF dj ey d4 em;have z3:ax.cell? (Z b 3)=some (.slice j.EA j.es.length j.ec):=cj.hg.f_ 3;refine hN (λw'=>w'.cell? (Z b 3)=some (.slice j.EA j.es.length j.ec)) 11 k_ ?_
   refine m5 (z3) λm=>?_
   repeat refine jQ m ?_
   refine hZ 6 λr k=>?_
   go_simp
   go_at_call 136
   refine(rS b b j ax.drew (cj.hF (H [] _).drew) eZ fT fU).mono ?_;rintro e S⟨fA,gj,rfl,cX,aQ,eY⟩;clear m
   refine h4 k (cX.hg.f_ 3) λm=>?_
   clear k r z3
   try simp only[a_]
   refine hZ 7 λr k=>?_
   go_simp;refine k.out _ _ (λ_=>jC m _) ?_;clear k r m;have bn:Sl (S.alloc (.cells #[Y j.l.length] 3)) 3 1 (j_ S.heap.size) 1 [Y j.l.length]:=jj (n:=1) (s:=1) (P_ S 3 _) rfl;have cY:=cX.hF ((H [] S).alloc (.cells #[Y j.l.length] 3));have dw:=((dt.trans (.js (H [] ax).drew)).trans aQ).trans (.js ((H [] S).alloc (.cells #[Y j.l.length] 3)));have bM:=(aX.drew.gt aQ O).alloc (.cells #[Y j.l.length] 3);obtain⟨bP,db⟩:=nm_ (S.alloc (.cells #[Y j.l.length] 3));rw[<-db]at bn cY dw bM |-;clear db cX;have dO:=cY.hi (.slice j.EA j.es.length j.ec,j.es) (by simp[GS.rows])
   try simp only[a_]
   refine hZ 8 λr k=>?_
   refine om rfl (.tmp 44) (.tmp 47) 30 rfl b 3 bJ 1 8 underlying30 bG bA a6 be rfl O O j.EA j.es.length j.ec rfl dO 1 1 rfl bn (by intro A hu;simp at hu;subst hu;rfl) X cY.hz ?_;intro ct cv ae de dL eB;obtain⟨dT,cW,aP⟩:=cY.Ei fS ct cv _ dL de eB;have b4:=(mO.app (e:=213) dL dO O).bk bM
   refine h4 k (dT.f_ 3) λm=>?_
   clear k r
   (repeat refine jQ m ?_)
   have du:=dT.hG 3
   refine hZ 11 λr k=>?_
   go_simp;refine k.out _ _ (λh=>FU h O) ?_;clear k r du;refine hM k_ ?_ _;have dE:=b4.ih (p:=(Z b 3)) (b4.l8 dT O) (.slice ct (j.es.length+1) cv);obtain⟨c3,e3⟩:=nm_ (ae.setCell (Z b 3) (.slice ct (j.es.length+1) cv));rw[<-e3]at cW aP dE |-;have ep:=dw.trans aP;clear e3 m dT cY cj b4 dw dt;obtain⟨F,v⟩:=nm_ ({a with vs:=vs,hidden:=0,most:=0,l:=a.l++[⟨21,0,0,0,a.hC⟩],hC:=a.hC+1,es:=a.es++[(a.l.length:Int)]}:iX)
   have h10:lI b c3 b F:=⟨_,(by
    rw[v,<-fx.out,<-fE.out,<-fi.out];have e:=fD.out;unfold GS.lg at e |-;simp only[iX.mk.injEq]at e |-
    exact⟨e.1,e.2.1,trivial,trivial,trivial,e.2.2.2.2.2.1,e.2.2.2.2.2.2.1,e.2.2.2.2.2.2.2.1,e.2.2.2.2.2.2.2.2⟩),cW⟩
   obtain⟨cb,b0,bL,fK,d3,eh⟩:=cG.out;have fV:2<=vs.length:=G_ bL (lr cb vs fK (eh vs eA eC))
   have ew:F.l.length=a.l.length+1:=by rw[v];simp
   have dR:F.ats=[]:=by rw[v];exact t.out.ats
   have e0:F.rts=[]:=by rw[v];exact t.out.rts
   have eD:F.pv=.slice PA 3 c:=by rw[v];exact t.out.pv
   have cI:GK F a.l.length 5:=⟨by rw[dR,v];exact d9.out.1,by rw[v];exact Gg _,(by rw[v];show(0:Int)+((5:Nat):Int)<=10;decide),by rw[v];exact Gg _,(by rw[v];show(0:Int)<=10;decide),by rw[v];exact fV,by rw[v];exact cu,by rw[dR];decide⟩
   have ev:q3 a.l F.l:=by rw[v];exact q3.app _ _
   have dN:iB F.l a.l.length=21:=by rw[v];exact mj _ _ _
   have dI:F.es=a.es++[(a.l.length:Int)]:=by rw[v]
   have dK:F.fs=a.fs:=by rw[v]
   have d2:=(dB.out.pg.rd _ (O_ E)).gt ep O O O;rw[<-R.out]at d2;have hbl:=d3.len;obtain⟨aV,B,aC⟩:=dE.nO;have ft:=U ew;have eM:=U dR;have dD:=U e0;have fg:=U dI;have eN:=U dK;have c8:=U eD;have d1:F.l.length+30*bm+2<=2048:=ov eP.out;have fw:=U (xy b b cb 5 bm f.A _ f.c f.bs F _ q c3 rfl X d3 d2.hb d2.hs (by rw[eD];exact fy.out.gt ep) h10 cI X);clear v ew dR e0 eD dI dK d2 h10 cW
   go_wp2_with fail
   go_at_call 137
   refine fw.out.mono ?_;rintro e cQ⟨rfl,e6,gl,ch,am,fI,eR⟩;have eQ:=ep.trans am
   go_wp2_with fail
   go_at_call 138
   refine(iq b b _ ch (ov eR.len)).mono ?_;rintro e fX⟨rfl,cH,aO⟩;have fJ:=fI.simp (x:=⟨1,0,0,0,0⟩) O;have eS:=eR.trans (GP.put _ ⟨1,0,0,0,0⟩);have cT:=eQ.trans aO;clear ch eQ aO
   go_wp2_with fail
   go_at_call 138
   refine(iq b b _ cH (ov eS.len)).mono ?_;rintro e W⟨rfl,h13,dr⟩;have dF:=fJ.simp (x:=⟨14,0,0,0,0⟩) O;have dG:=eS.trans (GP.put _ ⟨14,0,0,0,0⟩);have fH:=cT.trans dr;clear cH cT dr;obtain⟨d,di,dM⟩:=h13;have f6:=dG
   have ei:d.os.map (λK=>(K.box,K.is))=[]:=by
    have C:=dG.pW;rw[eM.out]at C
    have y:d.lg.ats.map (·.1)=[]:=by rw[di];simpa using C
    have h3:d.lg.ats=[]:=zu y;exact h3
   have eE:d.rt.map (λK=>(K.box,K.is))=[]:=by
    have C:=dG.rt;rw[dD.out]at C
    have y:d.lg.rts=[]:=by rw[di];exact C
    exact y
   have fR:d.rt++d.os=[]:=by
    rw[List.map_eq_nil_iff]at ei eE;rw[ei,eE]
    rfl
   have cN:d.vs.length<=9/\2<=d.vs.length:=by
    have e:d.lg.vs=d.vs:=rfl;rw[<-e,di];exact⟨dF.v1,dF.v0⟩
   have gi:0<=d.most/\d.most<=10:=by
    have e:d.lg.most=d.most:=rfl;rw[<-e,di];exact⟨dF.m0,dF.m1⟩
   have cy:d.fs.length<=3:=by
    have e:d.lg.fs=a.fs:=by rw[di,dG.fs,eN.out]
    have aK:d.fs=a.fs:=e;rw[aK,t.out.fl];omega
   have fC:=U di;have z4:W.cell? (Z b 4)=some (.slice d.FA d.fs.length d.fc):=dM.hg.f_ 4;have cp:W.cell? (Z b 6)=some (.slice d.VA d.vs.length d.vc):=dM.hg.f_ 6;have e7:W.cell? (Z b 8)=some (Y d.most):=dM.hg.f_ 8;have dy:=dM.hi (.slice d.FA d.fs.length d.fc,d.fs) (by simp[GS.rows]);have cA:IntKind.i64.wrap ((d.vs.length:Int)+d.most)=(d.vs.length:Int)+d.most:=F5 _ X;clear di ei eE aV B aC
   go_upto_region 13 with fail
   refine hN (λw'=>w'.cell? (Z b 4)=some (.slice d.FA d.fs.length d.fc)/\w'.cell? (Z b 6)=some (.slice d.VA d.vs.length d.vc)/\w'.cell? (Z b 8)=some (Y d.most)) 19 k_ ?_
   refine m5 ⟨z4,cp,e7⟩ λm=>?_
   repeat refine jQ m ?_
   refine hZ 15 λr k=>?_
   go_simp;refine k.out _ _ (λ_=>⟨jC m.1 _,jC m.2.1 _,jC m.2.2 _⟩) ?_;clear k r m z4 cp e7 cA;obtain⟨A,hu⟩:=nm_ ((d.vs.length:Int)+d.most);rw[<-hu];have dP:2<=A/\A<=64:=X;have bg:=U hu;clear hu;have bn:Sl (W.alloc (.cells #[Y A] 3)).drew 3 1 (j_ W.heap.size) 1 [Y A]:=(jj (n:=1) (s:=1) (P_ W 3 _) rfl:Sl (W.alloc (.cells #[Y A] 3)) 3 1 (j_ W.heap.size) 1 [Y A]).drew;have dY:=((H [] W).alloc (.cells #[Y A] 3)).drew;obtain⟨gm,e4⟩:=nm_ ((W.alloc (.cells #[Y A] 3)).drew);rw[<-e4]at bn dY |-;clear e4;have eX:=dM.hF dY;have dy:=iy dy dY
   try simp only[a_]
   refine hZ 16 λr k=>?_
   refine om rfl (.tmp 63) (.tmp 74) 30 rfl b 3 bJ 1 8 underlying30 bG bA a6 be rfl O O d.FA d.fs.length d.fc rfl dy 1 1 rfl bn (by intro A hu;simp at hu;subst hu;rfl) X eX.hz ?_;intro eL ed gp fQ fM fP;obtain⟨dS,fN,dW⟩:=eX.Eh fR eL ed _ fM fQ fP
   refine h4 k ⟨dS.f_ 4,dS.f_ 6,dS.f_ 8⟩ λm=>?_
   clear k r
   (repeat refine jQ m ?_)
   have dU:=dS.hG 4;have z4:=m.1
   refine hZ 19 λr k=>?_
   go_simp;refine k.out _ _ (λh=>FU h O) ?_;clear k r dU z4 m;refine hM k_ ?_ _;go_wp2;go_roundw
   case rel=>
    have cq:=((fH.trans (.js dY)).trans dW);refine⟨g+1,_,X,gn,⟨_,rfl,fN⟩,?_,cq⟩
    have fO:∀eK:GS,eK={d with FA:=eL,fc:=ed,fs:=d.fs++[A]}->eK.lg={d.lg with fs:=d.lg.fs++[A]}:=λeK h=>by rw[h];rfl
    rw[fO _ rfl,fC.out];have gh:=eP.out;rw[<-fa.out];refine t.out.next (n':=t2 Ns (g+1)) ev dN ft.out fg.out eN.out c8.out eM.out dD.out dG dF (by simp[iX.put]) ?_ A dP X
    have cS:(((iX.put (iX.put e6 ⟨1,0,0,0,0⟩) ⟨14,0,0,0,0⟩).l.length:Int)-1)=((iX.put e6 ⟨1,0,0,0,0⟩).l.length:Int):=by simp[iX.put];omega
    rw[cS];exact oy _
   case measure=>exact mz
  .have b7:g=3:=X;subst b7;have iN:=hL.len;have cA:=M.out.pg.sum;have cJ:=M.out.pg.nl
   have hls:t2 Ns 3<=2048:=by
    have e:Ns.take 3=Ns:=FP X;unfold t2;rw[e];omega
   have bH:∃q,o6 a.l a.hC a.cs [] q/\q<a.l.length/\iB a.l ((a.l.length:Int)-1)=14:=by
    rcases hL.ok with h|h
    .exact FU h.1 O
    .exact h
   obtain⟨q',bH,dz,cz⟩:=bH;have eU:=bH.cs1;have hcl:=bH.zR;obtain⟨s,u,z⟩:=MZ;have eV:s.cs=a.cs:=Z_ iX.cs u
   obtain⟨CA,n,cc,a2,bz,bj⟩:∃CA n cc,Hid (n=a.cs.length)/\wr.cell? (Z b 5)=some (.slice CA n cc)/\wr.ownsRow b 219 2 (.slice CA n cc) n (m9 a.cs):=by
    rw[<-eV];exact⟨_,_,_,U rfl,z.hg.f_ 5,z.hc⟩
   have ca:n<=2048:=ov a2.out;have ea:=U iN;have a7:=U hls;have t:=U hL;have cM:=U bH;have fB:=U dz;have fv:=U cz;have fd:=U eU;have bC:lI b wr b {a with l:=(a.cs.take 0).foldl (j8 a.es a.fs) a.l}:=⟨s,u,z⟩;clear iN hls hL bH dz cz eU hcl eV u z cA cJ af hk;go_wp2
   go_loopw [84] (λah w'=>∃j:Nat,j<=n/\ah=Y j/\lI b w' b {a with l:=(a.cs.take j).foldl (j8 a.es a.fs) a.l}/\Gt b gT aI w'/\mO 219 wr w') (λah _=>n-(intOf ah).toNat)
   case atStart=>exact⟨0,N_ _,gn,bC,Q,.js (H [] _)⟩
   case round=>
    obtain⟨j,hj,rfl,MZ,Q,dx⟩:=hrel;clear bC;obtain⟨s,u,z⟩:=MZ
    by_cases af:j<n
    .have bw:j<a.cs.length:=ov a2.out;obtain⟨fY,f3,fG,_,dg,ej⟩:=kE (dx.own bj) X;obtain⟨C,y,h3,aw,av⟩:=fd.out a.cs[j] (O_ bw);have z0:=(dg.f_ (j*2+0)).trans (ej _ _ ((jh (λp:Int × Int=>[Y p.1,Y p.2]) 2 (λ_=>rfl) a.cs j 0 bw X).trans rfl));have aR:=(dg.f_ (j*2+1)).trans (ej _ _ ((jh (λp:Int × Int=>[Y p.1,Y p.2]) 2 (λ_=>rfl) a.cs j 1 bw X).trans rfl));rw[Hb]at z0;obtain⟨i,bo⟩:∃i:Nat,a.cs[j].1=i:=⟨a.cs[j].1.toNat,X⟩;obtain⟨f,dq⟩:∃f:Nat,a.cs[j].2=f:=⟨a.cs[j].2.toNat,X⟩;have aS:=U (show a.cs[j]=((i:Int),(f:Int)) from Prod.ext bo dq);rw[bo]at z0 y;rw[dq]at aR aw av;have dh:s.es=a.es:=Z_ iX.es u;have bi:s.fs=a.fs:=Z_ iX.fs u;have ck:s.l=(a.cs.take j).foldl (j8 a.es a.fs) a.l:=Z_ iX.l u
     have ci:s.l.length=a.l.length:=by rw[ck,oT]
     have dJ:s.es.length=3:=by rw[dh];exact t.out.el
     have cy:s.fs.length=3:=by rw[bi];exact t.out.fl
     obtain⟨v,hm⟩:=mn_ a.l.length;have dZ:i<v:=X
     have cF:v<=2048:=by have:=ea.out;have:=a7.out;omega
     have eW:f<3:=X;have bu:=U u;have dn:=U (ci.trans hm);have HM:=U hm;have fh:=U dh;have c6:=U bi;have c7:=U ck;have cr:=U dJ;have dm:=U cy;have fq:=U dx;have d7:=U Q;clear u ci hm dh bi ck dJ cy C y h3 aw av bo dq ej dg dx Q;subst fG;obtain⟨bK,V,P,bF,b9,bQ⟩:=box1 wr 219 #[Y i,Y f]
     go_upto_region 18 with fail
     obtain⟨o,A⟩:=nm_ bK.drew
     have N:I [] wr o:=by rw[A];exact b9.drew
     have b8:Bk o V 219 #[Y i,Y f]:=by rw[A];exact bQ.hF (H [] _).drew
     have D:=z.hF N;obtain⟨G,cR,ai,K,ec,fc,cur,ar,cU,ag,B,ak,ao,aT,F,⟨gk,bR⟩,⟨eJ,bp⟩⟩:=D.qm dn.out dZ cr.out dm.out eW;obtain⟨W,eo⟩:=nm_ (s.es.getD f 0);rw[<-eo]at aT;have dC:=U ar;have fj:=U eo;have cO:o.cell? (Z V 0)=some (Y i):=b8.f_ 0;have bO:o.cell? (Z V 1)=some (Y f):=b8.f_ 1;have fz:=ag.hG (i*5+4);clear ar eo ao bp F;have cV:(f:Int)<3:=X;have gd:(i:Int)<v:=X;refine hN (λw'=>w'.cell? (Z V 0)=some (Y i)/\w'.cell? (Z V 1)=some (Y f)/\w'.cell? (Z b 1)=some (.slice (j_ G) v K)/\w'.cell? (Z b 3)=some (.slice (j_ cR) 3 ec)/\w'.cell? (Z cR f)=some (Y W)) 16 k_ ?_;rw[<-A];have f0:=U A;clear A;have m:=And.intro cO (And.intro bO (And.intro B (And.intro ak aT)))
     repeat refine jQ m ?_
     refine hZ 16 λr k=>?_
     go_simp;refine k.out _ _ (λh=>FU h O) ?_;clear k r fz B ak bR aT m cO bO;refine hM k_ ?_ _;have cj:=(D.Dv dC.out ag (by rw[dn.out];exact dZ) W).hF (H [] _).drew
     have bS:∀e,e≠189->mO e o (o.setCell (Z G (i*5+4)) (Y W)).drew:=λe he=>(mO.set ag (Ne.symm he) _ _).trans (.js (H [] _).drew)
     have dt:=(Gt.set (T:=gT) ag cU O (i*5+4) (Y W)).trans (.js (H [] _).drew)
     go_upto_region 19 with fail
     obtain⟨S,cK⟩:=nm_ ((o.setCell (Z G (i*5+4)) (Y W)).drew);rw[<-cK]at cj bS dt;have MX:=(bS 219 O).bk b8;obtain⟨e9,e8,ai,fW,f4,fc,cw,ef,_,dQ,B,ak,ao,aT,F,_,⟨eJ,bp⟩⟩:=cj.qm ((lF _ _ _).trans dn.out) dZ cr.out dm.out eW
     obtain rfl:G=e9:=by have h:=dC.out.symm.trans ef;injection h with h;injection h
     obtain⟨cx,ek⟩:=nm_ (s.fs.getD f 0)
     have F:S.cell? (Z ai f)=some (Y cx):=by rw[ek];exact F
     have fe:=U ek;have fu:=U ef;have cO:S.cell? (Z V 0)=some (Y i):=MX.f_ 0;have bO:S.cell? (Z V 1)=some (Y f):=MX.f_ 1;have fz:=dQ.hG (i*5+3);clear ef ek ak aT e8;refine hN (λw'=>w'.cell? (Z V 0)=some (Y i)/\w'.cell? (Z V 1)=some (Y f)/\w'.cell? (Z b 1)=some (.slice (j_ G) v fW)/\w'.cell? (Z b 4)=some (.slice (j_ ai) 3 fc)/\w'.cell? (Z ai f)=some (Y cx)) 16 k_ ?_;rw[<-cK];have f1:=U cK;clear cK;have m:=And.intro cO (And.intro bO (And.intro B (And.intro ao F)))
     repeat refine jQ m ?_
     refine hZ 16 λr k=>?_
     go_simp;refine k.out _ _ (λh=>FU h O) ?_;clear k r fz B ao bp F m cO bO;refine hM k_ ?_ _;have cY:=cj.Dw fu.out dQ (by rw[show({s with l:=mg W s.l i}:GS).l.length=s.l.length from lF _ _ _,dn.out];exact dZ) cx;have eu:=(fq.out.trans (.js N)).trans ((bS 219 O).trans (.set dQ O (i*5+3) (Y cx)));have dw:=(d7.out.trans (.js N)).trans (dt.trans (Gt.set (T:=gT) dQ cU O (i*5+3) (Y cx)));have fo:=U cY;have fp:=U eu;have fk:=U dw;clear cY eu dw cj bS dt D;go_wp2;go_roundw
     case rel=>
      refine⟨j+1,X,gn,⟨_,?_,fo.out⟩,fk.out,fp.out⟩
      have aN:(a.cs.take (j+1)).foldl (j8 a.es a.fs) a.l=pp cx (mg W s.l i) i:=by
       rw[T_ bw,aS.out,Hg,<-c7.out]
       show j8 a.es a.fs s.l _=_
       rw[<-zb,fj.out,fe.out,fh.out,c6.out]
      rw[aN];have aK:=bu.out;exact Ly
     case measure=>exact mz
    .have d0:a.cs.take j=a.cs:=FP (ov a2.out);rw[d0]at u;have bi:s.fs=a.fs:=Z_ iX.fs u;have ck:s.l=a.cs.foldl (j8 a.es a.fs) a.l:=Z_ iX.l u;have bI:s.hC=a.hC:=Z_ iX.hC u
     have ci:s.l.length=a.l.length:=by rw[ck,oT]
     have dJ:s.es.length=3:=by rw[show s.es=a.es from Z_ iX.es u];exact t.out.el
     have cy:s.fs.length=3:=by rw[bi];exact t.out.fl
     have MS:=cM.out.code.pos;obtain⟨v,hm⟩:=mn_ s.l.length
     have cF:v<=2048:=by have:=ea.out;have:=a7.out;omega
     obtain⟨G,cR,ai,K,ec,fc,cur,ar,cU,ag,B,ak,ao,aT,F,_,_⟩:=z.qm hm (i:=0) (f:=0) X dJ cy X;have aC:wr.cell? (Z b 2)=some (Y s.hC):=z.hg.f_ 2;have hR:=cD.gt Q O;obtain⟨cZ,eI⟩:=nm_ (s.fs.getD 0 0);rw[<-eI]at F;obtain⟨st,dk⟩:=nm_ s.hC;rw[<-dk]at aC
     have cl:Is wr (some (Z G 0)) s.l:=by rw[<-ar];exact Sl.iR z.hl
     have aL:s.l.length<=K:=by
      have h:=B.symm.trans (z.hg.f_ 1);have y:(Value.slice (j_ G) v K)=.slice s.L s.l.length s.lc:=Option.some.inj h;injection y with _ _ h3;rw[h3];exact iY z.hl
     have eb:=U eI;have bE:=U dk;have fF:=U bI;have HM:=U hm;have c6:=U bi;have c7:=U ck;have cm:=U cl;have fb:=U aL;have d7:=U Q;have hd:decide ((2048:Int)<v)=false:=p_;clear u d0 bi ck bI dk ci dJ cy MS hm ar cU ag ak aT eI cl aL Q
     go_upto_region 23 with fail
     obtain⟨o,A⟩:=nm_ wr.drew
     have N:I [] wr o:=by rw[A];exact(H [] _).drew
     have W:=hR.hF N
     have B:o.cell? (Z b 1)=some (.slice (j_ G) v K):=by rw[A];exact B
     have aC:o.cell? (Z b 2)=some (Y st):=by rw[A];exact aC
     have ao:o.cell? (Z b 4)=some (.slice (j_ ai) 3 fc):=by rw[A];exact ao
     have F:o.cell? (Z ai 0)=some (Y cZ):=by rw[A];exact F
     refine hN (λw'=>w'.cell? (Z b 1)=some (.slice (j_ G) v K)/\w'.cell? (Z b 2)=some (Y st)/\w'.cell? (Z b 4)=some (.slice (j_ ai) 3 fc)/\w'.cell? (Z ai 0)=some (Y cZ)) 15 k_ ?_;rw[<-A];clear A;have m:=And.intro B (And.intro aC (And.intro ao F))
     (repeat refine jQ m ?_)
     have bW:o.cell? (Z L 0)=some (n_):=W.f_ 0;have r1:o.cell? (Z L 1)=some (Y 0):=W.f_ 1;have r2:o.cell? (Z L 2)=some (Y 0):=W.f_ 2;have z0:=W.hG 0;have aR:=W.hG 1;have aZ:=W.hG 2
     refine hZ 15 λr k=>?_
     go_simp;refine k.out _ _ (λh=>FU h O) ?_;clear k r m
     refine hZ 16 λr k=>?_
     go_simp;refine k.out _ _ (λh=>FU h O) ?_;clear k r;refine hM k_ ?_ _;have da:=W.hV 0 (.slice (j_ G) v K);have df:=da.hV 1 (Y cZ);have aY:=df.hV 2 (Y st);have bS:=((mO.set (e:=189) W O 0 (.slice (j_ G) v K)).trans (.set da O 1 (Y cZ))).trans (.set df O 2 (Y st));have bZ:=bS.sl (cm.out.hF N);have aM:I [L] o (((o.setCell (Z L 0) (.slice (j_ G) v K)).setCell (Z L 1) (Y cZ)).setCell (Z L 2) (Y st)):=(((H [L] o).setCell (.inl J) _).setCell (.inl J) _).setCell (.inl J) _;have aU:=(((Gt.js (base:=b) (T:=gT) fL).trans d7.out).gr e5.1).trans N;have cs:=I.jM aU aM e5.2;obtain⟨ax,cn⟩:=nm_ (((o.setCell (Z L 0) (.slice (j_ G) v K)).setCell (Z L 1) (Y cZ)).setCell (Z L 2) (Y st));rw[<-cn]at aY bZ cs |-;have d8:=U bZ;have d6:=U cs;clear cn da df bS aM aU bZ cs bW r1 r2 z0 aR aZ B aC ao F hR W N;go_wp2;refine lO #[.slice (j_ G) v K,Y cZ,Y st] (Y 0) aY underlying26 ?_;rw[aq.out];refine⟨some (Z G 0),K,s.l,cZ,st,by rw[HM.out],d8.out,?_,fb.out,d6.out⟩;rw[c7.out,bE.out,fF.out,eb.out,c6.out]
     have dq:∀g,g<3->2<=a.fs.getD g 0/\a.fs.getD g 0<=64:=λg hk=>t.out.f64 _ (by
      have E:g<a.fs.length:=by rw[t.out.fl];exact hk
      have:a.fs.getD g 0=a.fs[g]:=by simp[E]
      rw[this]
      exact O_ E)
     have ga:=dq 0 X;refine xM cM.out fB.out fv.out (by have:=ea.out;have:=a7.out;omega) (λg C y=>?_) (λg C y=>dq g X) X X
     have E:g<a.es.length:=by rw[t.out.el];omega
     have:a.es.getD g 0=a.es[g]:=by simp[E]
     rw[this];exact(t.out.e21 _ (O_ E)).2.2
def nT.heads{L:List ByteArray}:∀{ss:List ST} {r:List ST},nT L (ss++r)->(∀s∈ss,s.h6=1)->∀x∈ss.map ST.name,x∈L
 |[],_,_,_=>by simp
 |s::ss,r,h,b=>by
  cases h with
  |cons t l h f g c=>
   intro x a
   rcases M_.1 (by simpa using a:x∈s.name::ss.map ST.name)with rfl|a
   .exact h (by rw[b s J];rfl)
   .exact nT.heads c (λu e=>b u (by simp[e])) x a
def vq:hU.Nodup:=by decide
def yG:ig.Nodup:=by decide
def xz(s:ByteArray)(f:FT)(l:List FT)(k:Int):tS s (f::l) k=if(f.name.data.toList==s.data.toList)=true then k else tS s l (k+1):=by
 show(if(f.name.toList==s.toList)=true then k else tS s l (k+1))=_
 rw[Hn,Hn]
def FT.In.rd{c a:Nat}{f:FT}(h:f.In c a w):C0 (λ_=>True) w f:=⟨h.hp,h.vj,h.hb,λe b=>(h.hs e b).imp λ_ _=>trivial⟩
def CG.made{x u:Nat}{PA:OA}{r n p:FT}(C:Sl w 213 3 PA 3 ([r,n,p].flatMap FT.E))(h1:r.In x u w)(h2:n.In x u w)(h3:p.In x u w)(V:r.name=vT/\r.ps=[]/\BX r.bs)(Q:n.name=pX/\n.ps=[pa,Cw]/\Ft n.bs)(k3:p.name=pz/\p.ps=[m6]/\Fr p.bs):∃Ns,CG (λ_=>True) w PA [r,n,p] Ns:=by
 obtain⟨y,m,M0,ad,E,m3,m4,T,z,dh,dm⟩:=V;obtain⟨t,i,⟨cr,ep,ae,Z,Y,f5⟩,af,D,f7,f8⟩:=Q;obtain⟨q,k,cz,MY,G,I,ag,ah,d,S,ai,W,aj,ak⟩:=k3
 have v:∀j,tS j [r,n,p] 0=if(vT.data.toList==j.data.toList)=true then 0 else if(pX.data.toList==j.data.toList)=true then 1 else if(pz.data.toList==j.data.toList)=true then 2 else -1:=by
  intro j;rw[xz,xz,xz,y,t,q]
  rfl
 have M:tS vT [r,n,p] 0=0:=by rw[v];rfl
 have J:tS pX [r,n,p] 0=1:=by rw[v];rfl
 have K:tS pz [r,n,p] 0=2:=by rw[v];rfl
 have L:∀c∈hU,c∈ig:=λc g=>FX _ g
 have U:lX ig 5 E r.bs:=z.sub L;have B:lX hU 5 I p.bs:=W.mono X
 have o:∀{P:FT->Prop},P r->P n->P p->∀F∈[r,n,p],P F:=by
  intro P al am an F H;simp only[M_,List.not_mem_nil,or_false]at H
  rcases H with rfl|rfl|rfl<;>assumption
 have s:∀e,e<3->e=0∨e=1∨e=2:=λe hk=>by omega
 refine⟨[E,af,I],⟨C,rfl,o h1.rd h2.rd h3.rd,o ⟨by rw[y];exact yl.1,by rw[m];simp,by rw[m];simp⟩ ⟨by rw[t];exact yl.2.1,by rw[i];simp[ig,hU],by rw[i];simp⟩ ⟨by rw[q];exact yl.2.2,by rw[k];simp[ig,hU],by rw[k];simp⟩,rfl,λe a ao=>?_,p_⟩,
  ⟨C,rfl,J,K,λ_=>by show n.ps.length=2;rw[i];rfl,λ_=>by show p.ps.length=1;rw[k];rfl⟩,λe a=>?_,λ_=>m,o (by rw[m];exact HY) (by rw[i];decide) (by rw[k];decide),λe a ao=>?_⟩
 .rcases s e a with rfl|rfl|rfl
  .exact U
  .exact D
  .exact B.sub L
 .rcases s e a with rfl|rfl|rfl
  .show tS r.name _ 0=0
   rw[y];exact M
  .show tS n.name _ 0=1
   rw[t];exact J
  .show tS p.name _ 0=2
   rw[q];exact K
 .rcases s e a with rfl|rfl|rfl
  .refine⟨hU,O,O,vq,z,λh b f=>?_⟩;have b:nT h r.bs:=b;rw[m3]at b;rw[<-m4];exact b.heads T
  .refine⟨ig,O,O,yG,D,λh b f=>?_⟩;have b:nT h n.bs:=b;have f:∀c∈n.ps,c∈h:=f;rw[Z]at b;have A:=b.heads f5;rw[Y]at A;rw[i]at f;intro c g
   have N:∀c∈ig,c∈[vU,u0,vi,m6,oL,xt,xq]∨c∈[pa,Cw]:=by
    intro c g;simp only[ig,hU,M_,List.not_mem_nil,or_false]at g |-
    rcases g with a|a|a|a|a|a|a|a|a<;>simp[a]
   rcases N c g with a|a
   .exact A c a
   .exact f c a
  .refine⟨hU,O,O,vq,B,λh b f=>?_⟩;have b:nT h p.bs:=b;rw[ag]at b;rw[<-S]
   cases b with
   |cons ap l a N hl A=>exact A.heads ai
def Dd(B g:Nat)(w:World)(e:Ending)(w':World):Prop:=∃(A:OA) (c:Nat) (l:List In) (hH hC:Int),e=.returned (.agg #[.slice A l.length c,Y hH,Y hC])/\Is w' A l/\ic l hH hC=true/\l.length<=c/\iQ w' B g/\I [g] w w'
def BD(j g:Nat)(hd:iQ w j g)(hB:j<=w.heap.size):
 Calls prog 44 #[q_ g] w (Dd j g w):=by
 refine h5 λad aq=>?_
 obtain⟨C,b,aW,e2,o,hR⟩:=box1 w 26 #[n_,Y 0,Y 0];have M:=hd.hF o;have bt:=hd.xw;have cG:j<=C.heap.size:=G_ hB o.size
 go_enter func44,ntmps44
 go_wp2_with fail
 go_at_call 89
 refine(AU j g C M cG).mono ?_;rintro e w2⟨ae,af,n,ah,rfl,y,h1,h2,h3,V,E,k3,cT,q⟩;obtain⟨Ns,z⟩:=CG.made y h1 h2 h3 V E k3;clear y h1 h2 h3 V E k3
 go_wp2_with fail
 go_at_call 88
 refine(zi 3 Ns w2 z).mono ?_;rintro e ag⟨c,h,l,hH,hC,rfl,B,hv,K,m⟩;have az:=U hv;have aG:=U K;have aj:=U B;obtain⟨i,x⟩:=mn_ l.length;rw[x];have HM:=U x;clear z hv K B x;obtain⟨a,t,P,ak,k,s⟩:=box1 ag 26 #[.slice c i h,Y hH,Y hC];have W:=(cT.hF m).hF k;have ar:b≠g:=X;have cD:=hR.lt;have ck:Bk w2 b 26 #[n_,Y 0,Y 0]:=hR.gr q p_;have f:=(ck.hF m).hF k
 have p:∀{D N:World},I [] D N->I [g] D N:=λal=>(H [g] _).hJ al J
 have Q:I [g] w a:=(((p o).trans q).trans (p m)).trans (p k);have F:Is a c l:=aj.out.hF (k);have bG:w.heap.size<=b:=X;have u:=f.hV 0 (.slice c i h);have v:=u.hV 1 (Y hH);have L:=v.hV 2 (Y hC);have S:=((mO.set (e:=189) f O 0 (.slice c i h)).trans (.set u O 1 (Y hH))).trans (.set v O 2 (Y hC));have T:=S.sl F;have r:I [b] a (((a.setCell (Z b 0) (.slice c i h)).setCell (Z b 1) (Y hH)).setCell (Z b 2) (Y hC)):=(((H [b] a).setCell (.inl J) _).setCell (.inl J) _).setCell (.inl J) _;have cM:=W.ih r p_;have A:=Q.hJ r p_;have d:=U L;have d8:=U T;have am:=U cM;have d6:=U A;have cO:a.cell? (Z t 0)=some (.slice c i h):=s.f_ 0;have bO:a.cell? (Z t 1)=some (Y hH):=s.f_ 1;have e1:a.cell? (Z t 2)=some (Y hC):=s.f_ 2;have bW:a.cell? (Z b 0)=some (n_):=f.f_ 0;have r1:a.cell? (Z b 1)=some (Y 0):=f.f_ 1;have r2:a.cell? (Z b 2)=some (Y 0):=f.f_ 2;have z0:=f.hG 0;have aR:=f.hG 1;have aZ:=f.hG 2;clear u v L S T r cM A Q F p o q m k M cT W;go_wp2;refine rr_ #[.slice c i h,Y hH,Y hC] d.out underlying26 ?_;rw[aq.out];exact⟨c,h,l,hH,hC,by rw[HM.out],d8.out,az.out,aG.out,am.out,d6.out⟩
section
variable(l:List In)(hH hC:Int)(d k7:List Int)
def na(s:p9)(run:Int):i3:=AD l hH hC d s.h (jn l hH hC s.hQ run true).1
inductive uO:Nat->Int->p9->Prop
 |hQ:uO 0 0 (sz true hH)
 |ask {k:Nat} {run:Int} {s:p9} (h:uO k run s) (he:s.jG=false) (h0:(nR l hH hC k7 s).2=0):uO (k+1) run (nR l hH hC k7 s).1
 |commit {k:Nat} {run:Int} {s:p9} (h:uO k run s) (he:s.jG=false) (h0:(nR l hH hC k7 s).2≠0):uO (k+1) (run+1) (kK true s (na l hH hC d s run)).1
inductive wJ(h:List Ob)(run:Int):Nat->List i3->Prop
 |hQ (ts:List i3) (hl:ts.length<=16) (hb:∀(k:Nat) (hk:k<ts.length),∃(x:Int) (ik:Bool),DC l hH hC x/\ts[k]=(jn l hH hC x (run+k) ik).1):wJ h run 0 ts
 |step {n:Nat} {ts:List i3} (k:Nat) (hk:k<ts.length) (h1:wJ h run n ts) (h2:ts[k].h9=0):wJ h run (n+1) (ts.set k (jd l hH hC d ts[k] (nB h ts k)))
def wJ.len{h:List Ob}{run:Int}{ts:List i3}(b:wJ l hH hC d h run n ts):ts.length<=16:=by
 induction b with
 |hQ ts a _=>exact a
 |step e c _ _ a=>simpa using a
end
structure Md where
 A:Option Addr
 c:Nat
 l:List In
 hH:Int
 hC:Int
 aA:Option Addr
 ac:Nat
 k7:List Int
 dA:Option Addr
 dc:Nat
 d:List Int
 s:Cm
 tA:Option Addr
 tc:Nat
 ts:List Tk
 run:Int
def Md.g_(m:Md):Array Value:=#[.slice m.A m.l.length m.c,Y m.hH,Y m.hC,.slice m.aA m.k7.length m.ac,.slice m.dA m.d.length m.dc,
 .slice m.s.h.A m.s.h.l.length m.s.h.c,Y m.s.hQ,Y m.s.jo,.slice m.s.h8.A m.s.h8.l.length m.s.h8.c,.bool m.s.jG,.bool m.s.hY,.bool m.s.v.r,Y m.s.v.n,Y m.s.iS,Y m.s.hK,.slice m.tA m.ts.length m.tc,Y m.run]
structure rC(w:World)(m:Md):Prop where
 l:Is w m.A m.l
 k7:Ns w 2 m.aA m.k7
 al:m.k7.length<=5
 d:Ns w 3 m.dA m.d
 dl:m.d.length<=m.dc
 s:l6 w m.s
 ts:xT w m.tA m.ts
def rC.hF{w':World}{m:Md}(h:rC w m)(a:I [] w w'):rC w' m:=⟨Sl.hF h.l a,Sl.hF h.k7 a,h.al,Sl.hF h.d a,h.dl,h.s.hF a,h.ts.hF a⟩
structure CY(m:Md):Prop where
 val:ic m.l m.hH m.hC=true
 dv:m.d.Sublist (kI m.l m.hH m.hC)
 cm:∃k run,k<=8/\uO m.l m.hH m.hC m.d m.k7 k run m.s.p/\((m.s.jG=true/\m.ts=[]/\m.run=run)∨(m.s.jG=false/\m.run=run+m.ts.length/\∃n,n<=39/\wJ m.l m.hH m.hC m.d m.s.p.h run n (m.ts.map Tk.p)))
 tl:m.ts.length<=m.tc
def BT(B g:Nat)(w:World)(e:Ending)(w':World):Prop:=∃m:Md,e=.returned (.agg m.g_)/\rC w' m/\CY m/\iQ w' B g/\I [g] w w'
structure TF(t:i3):Prop where
 sm:t.sm 500000
 s0:0<=t.hK
 s1:t.hK<=3000
 n0: -1<=t.next
 n1:t.next<=3000
def vy(c:List In)(hH hC:Int)(d:List Int)(t:i3)(view:List Ob):(jd c hH hC d t view).hQ=t.hQ:=by
 unfold jd;simp only;split
 .rfl
 split
 .rfl
 split
 .rfl
 .rename_i b a
  have:=(lG a).hQ
  split
  .exact this
  split
  .exact this
  .exact this
def sW(c:List In)(hH hC:Int)(d:List Int)(t:i3)(view:List Ob):(jd c hH hC d t view).next=t.next∨(jd c hH hC d t view).next=t.pc+1∨(jd c hH hC d t view).next=(jd c hH hC d t view).pc:=by
 unfold jd;simp only;split
 .exact .inl rfl
 split
 .exact .inr (.inl rfl)
 split
 .exact .inl rfl
 .rename_i b a
  have:=(lG a).next
  split
  .exact .inl this
  split
  .exact .inr (.inr rfl)
  .exact .inl this
def qA{l:List In}{hH hC:Int}{d:List Int}{t:i3}(j:ic l hH hC=true)(s:l.length<=2048)(h:Way l t)(b:TF t)(i:t.h9=0):
 TF (jd l hH hC d t view)/\((jd l hH hC d t view).h9=0->Way l (jd l hH hC d t view)):=by
 obtain⟨e,G,k,f,m,c⟩:=um (d:=d) (view:=view) j h i;have p:=h.s1;have q:=h.lo;have r:=h.hi;have o:=h.s0;refine⟨⟨e.mono X,G,X,?_,?_⟩,λg=>(c g).1⟩
 .rcases sW l hH hC d t view with a|a|a
  .rw[a];exact b.n0
  .rw[a];omega
  .rw[a];exact f
 .rcases sW l hH hC d t view with a|a|a
  .rw[a];exact b.n1
  .rw[a];omega
  .rw[a];omega
def x5{l:List In}{hH hC:Int}{d:List Int}{view:List Ob}(e:ic l hH hC=true)(b:l.length<=2048):∀(n:Nat) (t:i3),(t.h9=0->Way l t)->TF t->
 TF (og l hH hC d view n t)/\(og l hH hC d view n t).run=t.run/\(og l hH hC d view n t).hQ=t.hQ
 |0,t,_,a=>⟨a,rfl,rfl⟩
 |n+1,t,f,a=>by
  unfold og;split
  .rename_i c;obtain⟨i,j⟩:=qA (d:=d) (view:=view) e b (f c) a c;obtain⟨k,h,g⟩:=x5 (d:=d) (view:=view) e b n _ j i;exact⟨k,h.trans (mD l hH hC d t view),g.trans (vy l hH hC d t view)⟩
  .exact⟨a,rfl,rfl⟩
def BK{l:List In}{hH hC hQ run:Int}{ik:Bool}(f:l.length<=2048)(h0: -1<=hQ)(e:hQ<=2049):
 TF (jn l hH hC hQ run ik).1/\((jn l hH hC hQ run ik).2=0->(jn l hH hC hQ run ik).1.run=run/\(jn l hH hC hQ run ik).1.hQ=hQ):=by
 have c:∀n,Tk.zero.p.sm n:=λn=>⟨N_ _,N_ _,N_ _,N_ _,N_ _,N_ _⟩
 have b:TF Tk.zero.p:=⟨c _,O,O,O,O⟩;unfold jn;split
 .exact⟨b,λa=>by simp at a⟩
 split
 .exact⟨b,λa=>by simp at a⟩
 split
 .exact⟨⟨⟨N_ _,N_ _,N_ _,N_ _,N_ _,N_ _⟩,show(0:Int)<=0 by decide,show(0:Int)<=3000 by decide,by show -1<=hQ+1;omega,by show hQ+1<=3000;omega⟩,λ_=>⟨rfl,rfl⟩⟩
 .exact⟨⟨⟨N_ _,N_ _,N_ _,N_ _,N_ _,N_ _⟩,show(0:Int)<=0 by decide,show(0:Int)<=3000 by decide,show(-1:Int)<=0 by decide,show(0:Int)<=3000 by decide⟩,λ_=>⟨rfl,rfl⟩⟩
def uH{l:List In}{hH hC hQ run:Int}{ik:Bool}(h0: -1<=hQ)(f:hQ<=l.length):Way l (jn l hH hC hQ run ik).1:=by
 have b:∀a:i3,a.sm 0->a.hK=0-> -1<=a.pc->a.pc<=l.length->Way l a:=λa p r g i=>⟨g,i,X,ov (sp (l:=l) g),p.mono (N_ _)⟩
 have e:∀a:i3,a.gs=[]->a.rs=[]->a.ws=[]->a.nw=[]->a.ds=[]->a.h8=[]->a.sm 0:=λa h j k d m o=>⟨by simp[h],by simp[j],by simp[k],by simp[d],by simp[m],by simp[o]⟩
 have c:(-1:Int)<=0/\(0:Int)<=l.length:=X;unfold jn;split
 .exact b _ (e _ rfl rfl rfl rfl rfl rfl) rfl c.1 c.2
 split
 .exact b _ (e _ rfl rfl rfl rfl rfl rfl) rfl c.1 c.2
 split
 .exact b _ (e _ rfl rfl rfl rfl rfl rfl) rfl h0 f
 .exact b _ (e _ rfl rfl rfl rfl rfl rfl) rfl h0 f
def va{l:List In}{pc:Int}(h:mX l pc=true): -1<=pc/\pc<=l.length:=by
 by_cases a:pc<0∨(l.length:Int)<=pc
 .have e:=j9 a;unfold mX at h;exact MN
 .omega
def nP{l:List In}{hH hC hQ run:Int}{ik:Bool}:Way l (jn l hH hC hQ run ik).1:=by
 by_cases b:mX l hQ=true
 .exact uH (va b).1 (va b).2
 .have b:mX l hQ=false:=zu b
  have a:(jn l hH hC hQ run ik).1=(jn l hH hC 0 run ik).1∨(jn l hH hC hQ run ik).1=Tk.zero.p:=by
   unfold jn;rw[U_ b];split<;>exact .inr rfl
  rcases a with a|a
  .rw[a];exact uH X X
  .rw[a];exact⟨O,by show(0:Int)<=l.length;omega,O,by show(0:Int)+o9 l 0<=_;have:=sp (l:=l) (pc:=0) X;omega,⟨N_ _,N_ _,N_ _,N_ _,N_ _,N_ _⟩⟩
def pV{l:List In}{hH hC hQ run:Int}{ik:Bool}(c:l.length<=2048):TF (jn l hH hC hQ run ik).1:=by
 by_cases a:mX l hQ=true
 .have b:=va a;exact(BK c b.1 X).1
 .have a:mX l hQ=false:=zu a
  have b:(jn l hH hC hQ run ik).1=Tk.zero.p:=by
   unfold jn;rw[U_ a];split<;>rfl
  rw[b];exact⟨⟨N_ _,N_ _,N_ _,N_ _,N_ _,N_ _⟩,O,O,O,O⟩
def ru{l:List In}{hH hC:Int}{d:List Int}(b:ic l hH hC=true)(a:l.length<=2048)(s:p9)(run:Int):TF (na l hH hC d s run):=
 (x5 b a _ _ (λ_=>nP) (pV a)).1
def wJ.tf{l:List In}{hH hC:Int}{d:List Int}{h:List Ob}{run:Int}{ts:List i3}(m:ic l hH hC=true)(f:l.length<=2048)(i:wJ l hH hC d h run n ts):∀t∈ts,TF t/\(t.h9=0->Way l t):=by
 induction i with
 |hQ ts _ e=>
  intro t a;obtain⟨g,b,rfl⟩:=Hm a;obtain⟨k,j,_,c⟩:=e g b;rw[c];exact⟨pV f,λ_=>nP⟩
 |step g b o e c=>
  intro t a
  rcases F3 a with a|rfl
  .exact c t a
  .obtain⟨j,k⟩:=c _ (O_ b);exact qA m f (k e) j e
structure CB(k:Nat)(s:p9):Prop where
 h:(s.h.length:Int)<=2+k*500000
 h8:(s.h8.length:Int)<=k*500000
 st0: -1<=s.hQ
 st1:s.hQ<=3000
 t0:0<=s.iS
 t1:s.iS<=k
 p0:0<=s.hK
 p1:s.hK<=k*3001
 a0:0<=s.jo
 a1:s.jo<=k
def CB.zero(k:Nat):CB k Cm.zero.p:=⟨by show(0:Int)<=2+k*500000;omega,by show(0:Int)<=k*500000;omega,by decide,by decide,by decide,by show(0:Int)<=k;omega,by decide,by show(0:Int)<=k*3001;omega,by decide,by show(0:Int)<=k;omega⟩
def CB.begin(hH:Int):CB 0 (sz true hH):=⟨show(2:Int)<=2 by decide,show(0:Int)<=0 by decide,show(-1:Int)<=0 by decide,show(0:Int)<=3000 by decide,show(0:Int)<=0 by decide,show(0:Int)<=0 by decide,show(0:Int)<=0 by decide,show(0:Int)<=0 by decide,show(0:Int)<=0 by decide,show(0:Int)<=0 by decide⟩
def CB.ask{l:List In}{hH hC:Int}{k7:List Int}{k:Nat}{s:p9}(p:ic l hH hC=true)(h:CB k s):CB (k+1) (nR l hH hC k7 s).1:=by
 have F:=ks p;unfold nR;split
 .exact CB.zero _
 split
 .exact CB.zero _
 .rename_i j
  have c:¬(s.jG=true∨jB l hH hC s.hQ=false∨(lq l hH hC s.hQ jp s.h 0).h6=4):=by unfold ms at j;simpa using j
  have e:jB l hH hC s.hQ=true:=by
   cases b:jB l hH hC s.hQ with
   |true=>rfl
   |false=>exact FU (.inr (.inl b)) c
  have o: -1<=s.hQ/\s.hQ<l.length:=by
   by_cases u:s.hQ<0∨(l.length:Int)<=s.hQ
   .unfold jB at e;rw[j9 u]at e;simp at e
   .omega
  have m:=ux (hH:=hH) (hC:=hC) jp s.h 0 p o.1 o.2;have g:=su l hH hC s.hQ jp s.h 0;obtain⟨a,b⟩:=nm_ (lq l hH hC s.hQ jp s.h 0);rw[<-b]at c m g |-;clear b
  have r:¬a.h6=4:=λv=>c (.inr (.inr v))
  obtain⟨_,_,t,D,_⟩:=m.resolve_left r;have C:=g.nw;have y:=zK s.h a;obtain⟨B,A,x,q,d,z,I,E,i,H⟩:=h;have f:(s.h8.length:Int)<=((k+1:Nat):Int)*500000:=X
  show CB (k+1) (oH l k7 s a)
  unfold oH;split
  .refine⟨?_,?_,?_,?_,d,?_,?_,?_,?_,?_⟩
   .show((mK l s.h s.hQ _).length:Int)<=2+((k+1:Nat):Int)*500000
    rw[xP];omega
   .show((s.h8++[_]).length:Int)<=((k+1:Nat):Int)*500000
    rw[J_,HL];omega
   .show -1<=s.hQ+1
    omega
   .show s.hQ+1<=3000
    omega
   .show s.iS<=((k+1:Nat):Int)
    omega
   .show 0<=s.hK+1
    omega
   .exact MF
   .show 0<=s.jo+1
    omega
   .show s.jo+1<=((k+1:Nat):Int)
    omega
  split
  .refine⟨?_,?_,x,q,d,?_,?_,?_,i,?_⟩
   .show((k4 s.h a).length:Int)<=2+((k+1:Nat):Int)*500000
    omega
   .exact f
   .show s.iS<=((k+1:Nat):Int)
    omega
   .show 0<=s.hK+1
    omega
   .exact MF
   .exact MJ
  .refine⟨?_,?_,t,?_,d,?_,?_,?_,i,?_⟩
   .show((k4 s.h a).length:Int)<=2+((k+1:Nat):Int)*500000
    omega
   .exact f
   .show a.pc<=3000
    omega
   .show s.iS<=((k+1:Nat):Int)
    omega
   .show 0<=s.hK+1
    omega
   .exact MF
   .exact MJ
def CB.commit{k:Nat}{s:p9}{t:i3}(h:CB k s)(a:TF t)(ok:Bool):CB (k+1) (kK ok s t).1:=by
 unfold kK;split
 .exact CB.zero _
 split
 .exact CB.zero _
 split
 .exact CB.zero _
 obtain⟨o,m,g,c,d,j,y,q,b,x⟩:=h;have i:=ya s.h t;have r:=a.sm.nw;have u:=a.sm.h8;have v:=a.s0;have p:=a.s1;have f:=a.n0;have e:=a.n1
 show CB (k+1) (lW s t)
 unfold lW;split
 .refine⟨?_,?_,f,e,?_,?_,?_,?_,b,?_⟩
  .show((lL s.h t).length:Int)<=2+((k+1:Nat):Int)*500000
   omega
  .exact Mq
  .show 0<=s.iS+1
   omega
  .show s.iS+1<=((k+1:Nat):Int)
   omega
  .show 0<=s.hK+t.hK
   omega
  .show s.hK+t.hK<=((k+1:Nat):Int)*3001
   omega
  .exact MJ
 .refine⟨?_,?_,g,c,?_,?_,?_,?_,b,?_⟩
  .show((lL s.h t).length:Int)<=2+((k+1:Nat):Int)*500000
   omega
  .exact Mq
  .show 0<=s.iS+1
   omega
  .show s.iS+1<=((k+1:Nat):Int)
   omega
  .show 0<=s.hK+t.hK
   omega
  .show s.hK+t.hK<=((k+1:Nat):Int)*3001
   omega
  .exact MJ
def uO.cb{l:List In}{hH hC:Int}{d k7:List Int}{k:Nat}{run:Int}{s:p9}(b:ic l hH hC=true)(h:uO l hH hC d k7 k run s):CB k s/\0<=run/\run<=k:=by
 have c:=ks b
 induction h with
 |hQ=>exact⟨CB.begin hH,O,O⟩
 |ask _ _ _ a=>exact⟨a.1.ask b,a.2.1,ov a.2.2⟩
 |commit _ _ _ a=>exact⟨a.1.commit (ru b c.2.1 _ _) true,ov a.2.1,ov a.2.2⟩
section
def GV(P:Int->Prop)(v:Vl):Prop:=v.r=true->P v.n
def GO(P:Int->Prop)(o:Ob):Prop:=P o.id/\∀v∈o.fs,GV P v
structure XF(P:Int->Prop)(x:XP):Prop where
 zero:P 0
 h:∀o∈x.h,GO P o
 sr:∀i,GV P (x.sr i)
 r:∀i,GV P (x.e.r i)
 rs:∀c∈x.e.rs,(P c.id∨c.id=1)/\GV P c.v
 ws:∀c∈x.e.ws,(P c.id∨c.id=1)/\GV P c.v
 nw:x.e.nw=[]
 v:GV P x.e.v
def XO(P:Int->Prop)(x:XP):Prop:=x.hO=true∨XF P x
variable{P:Int->Prop}
def GV.num(n:Int):GV P ⟨false,n⟩:=λa=>by simp at a
def GV.default:GV P (default:Vl):=GV.num _
def tu{h:List Ob}(b:∀o∈h,GO P o){id f:Int}{v:Vl}(e:jy h id f=some v):GV P v:=by
 obtain⟨i,g,_,_,_,c,a⟩:=qq e;rw[<-a];exact(b _ (O_ g)).2 _ (O_ c)
def XF.read{x:XP}(b:XF P x)(id f:Int)(hid:P id∨id=1):XO P (hW x id f).1/\GV P (hW x id f).2:=by
 unfold hW;split
 .exact⟨.inl rfl,GV.default⟩
 .rename_i h g;have c:=tu b.h g;split
  .exact⟨.inr b,c⟩
  .refine⟨.inr {b with rs:=λe a=>?_},c⟩
   rcases X_.1 a with a|a
   .exact b.rs e a
   .rw[I_]at a;subst a;exact⟨hid,c⟩
def XF.write{x:XP}(b:XF P x)(id f:Int)(v:Vl)(hid:P id∨id=1)(e:GV P v):XF P (ib x id f v):=by
 refine{b with ws:=λc a=>?_}
 rcases X_.1 a with a|a
 .exact b.ws c a
 .rw[I_]at a;subst a;exact⟨hid,e⟩
def XF.brk{x:XP}(a:XF P x)(b:Bool):XF P {x with hO:=b}:={a with}
def XF.EU{x:XP}(c:XF P x)(k p s:Int)(t:Bool)(v:Vl)(r:Nat->Vl)(b:GV P v)(a:∀i,GV P (r i)):XF P {x with e:={x.e with h6:=k,pc:=p,kA:=s,hY:=t,v:=v,r:=r}}:={c with r:=a,v:=b}
def XF.root{x:XP}(a:XF P x):XF P (iL x):=a.brk _
def XO.read{x:XP}(a:XO P x)(id f:Int)(hid:x.hO=false->(P id∨id=1)):XO P (hW x id f).1/\((hW x id f).1.hO=false->x.hO=false/\GV P (hW x id f).2):=by
 rcases a with hb|a
 .exact KI
 .cases hb:x.hO with
  |true=>
   exact KI
  |false=>
   obtain⟨b,c⟩:=a.read id f (hid hb);exact⟨b,λ_=>⟨rfl,c⟩⟩
def XO.write{x:XP}(b:XO P x)(id f:Int)(v:Vl)(hid:x.hO=false->(P id∨id=1))(c:x.hO=false->GV P v):XO P (ib x id f v):=by
 rcases b with a|b
 .exact .inl a
 .cases a:x.hO with
  |true=>exact .inl a
  |false=>exact .inr (b.write id f v (hid a) (c a))
def XF.frame{x:XP}(f:XF P x):XO P (hT x).1/\((hT x).1.hO=false->P (hT x).2.1):=by
 unfold hT;simp only;split
 .rename_i b;exact⟨.inl b,λa=>by rw[b]at a;cases a⟩
 .obtain⟨b,c⟩:=XO.read (.inr f.root:XO P (iL x)) 1 0 (λ_=>.inr rfl);refine⟨?_,λa=>?_⟩
  .rcases b with b|b
   .exact .inl (by simp[b])
   .exact .inr (b.brk _)
  .simp only[Bool.or_eq_false_iff]at a
   have e:(hW (iL x) 1 0).2.r=true:=by have:=a.2.1;simpa using this
   exact(c a.1).2 e
def XO.brk{x:XP}:XO P (kN x):=.inl rfl
def XO.Cy{x:XP}(a:XO P x)(k p s:Int)(t:Bool)(v:Vl)(r:Nat->Vl)(f:XF P x->GV P v)(c:XF P x->∀i,GV P (r i)):XO P {x with e:={x.e with h6:=k,pc:=p,kA:=s,hY:=t,v:=v,r:=r}}:=by
 rcases a with b|a
 .exact .inl b
 .exact .inr (a.EU k p s t v r (f a) (c a))
def GV.jp(i:Nat):GV P (jp i):=GV.default
def XO.frame{x:XP}(hx:XO P x):XO P (hT x).1/\((hT x).1.hO=false->P (hT x).2.1):=KA
def XO.throw{x:XP}(hx:XO P x)(v:Vl)(hv:GV P v):XO P (jm x v):=by
 have m:XO P (hT x).1/\((hT x).1.hO=false->P (hT x).2.1):=KA;unfold jm;simp only;generalize hT x=a at*;obtain⟨f,d⟩:=m;split
 .exact f
 .obtain⟨g,i⟩:=f.read a.2.1 2 (λh=>.inl (d h));generalize hW a.1 a.2.1 2=c at*;split
  .exact XO.brk
  split
  .have h1:XO P (ib c.1 a.2.1 2 default):=g.write _ _ _ (λh=>.inl (d (i h).1)) (λ_=>GV.default);have e:XO P (ib (ib c.1 a.2.1 2 default) 1 2 v):=LU;exact e.Cy _ _ _ _ _ _ (λh=>h.v) (λ_=>GV.jp)
  .obtain⟨j,k⟩:=g.read a.2.1 0 (λh=>.inl (d (i h).1));generalize hW c.1 a.2.1 0=b at*;split
   .exact XO.brk
   split
   .exact j.Cy _ _ _ _ _ _ (λ_=>hv) (λh=>h.sr)
   .have h1:XO P (ib b.1 1 0 b.2):=by
     rcases j with h|h
     .exact .inl h
     .cases hb:b.1.hO with
      |true=>exact .inl hb
      |false=>exact .inr (h.write _ _ _ (.inr rfl) (k hb).2)
    have e:XO P (ib (ib b.1 1 0 b.2) 1 2 v):=LU;exact e.Cy _ _ _ _ _ _ (λh=>h.v) (λ_=>GV.jp)
def XO.fault{x:XP}(a:XO P x)(n:Int):XO P (jk x n):=a.throw _ (GV.num n)
def XO.reg{x:XP}(a:XO P x)(b:Int)(v:Vl)(f:XF P x->GV P v):XO P (kY x b v):=by
 rcases a with e|a
 .exact .inl e
 .refine .inr {a with r:=λc=>?_}
  show GV P (rf x.e.r b v c)
  unfold rf;split
  .exact f a
  .exact a.r c
def XO.go{x:XP}(a:XO P x)(pc:Int):XO P (tP x pc):=by
 rcases a with b|a
 .exact .inl b
 .exact .inr {a with}
def XF.object{x:XP}(hx:XF P x)(v:Vl)(f:Int)(b:GV P v):XO P (iA x v f).1/\P (iA x v f).2.1:=by
 unfold iA;split
 .exact MD
 split
 .exact MD
 split
 .exact⟨XO.brk,hx.zero⟩
 split
 .exact MD
 .rename_i a _ _ _ _ _;exact⟨.inr hx,b (zu a)⟩
def XO.variable{x:XP}(e:XO P x)(n:Int):XO P (hI x n).1/\((hI x n).1.hO=false->(hI x n).2.2.2=true->P (hI x n).2.1):=by
 obtain⟨b,c⟩:=e.frame;unfold hI;simp only;generalize hT x=f at*;split
 .exact⟨b,λ_ a=>by cases a⟩
 split
 .exact⟨b.fault _,λ_ a=>by cases a⟩
 .exact⟨b,λa _=>c a⟩
def q9{e:Int}{a b:Vl}:GV P (iK e a b).1:=by
 have f:(iK e a b).1.r=false:=by
  unfold iK;split
  .rfl
  split
  .rfl
  unfold pO
  repeat' split
  all_goals rfl
 intro c;rw[f]at c
 cases c
def XF.ik{x y:XP}(b:XF P x)(i:In)(h:jX x i=some y):XO P y:=by
 have a:XO P x:=.inr b;unfold jX at h
 refine iu (R:=XO P) h (λ_=>a) λ_ h=>?_
 refine iu (R:=XO P) h (λ_=>a.reg _ _ λ_=>GV.num _) λ_ h=>?_
 refine iu (R:=XO P) h (λ_=>a.reg _ _ λ_ _=>b.zero) λ_ h=>?_
 refine iu (R:=XO P) h (λ_=>a.reg _ _ λ_=>b.r _) λ_ h=>?_
 refine iu (R:=XO P) h (λ_=>?_) λ_ h=>?_
 .split
  .exact a.fault _
  .exact a.reg _ _ λ_=>q9
 refine iu (R:=XO P) h (λ_=>a.go _) λ_ h=>?_
 refine iu (R:=XO P) h (λ_=>?_) λ_ h=>?_
 .split
  .exact a
  .exact a.go _
 refine iu (R:=XO P) h (λ_=>.inr {b with r:=GV.jp}) λ_ h=>?_
 refine iu (R:=XO P) h (λ_=>a.throw _ (b.r _)) λ_ h=>?_
 refine iu (R:=XO P) h (λ_=>?_) λ_ h=>?_
 .split
  .exact a.fault _
  .exact .inr {b with}
 cases h
def XF.hH{x y:XP}(u:XF P x)(i:In)(h:kM x i=some y):XO P y:=by
 have C:XO P x:=.inr u;have B:∀E,GV P (x.sr E):=u.sr;unfold kM at h
 by_cases g:i.op≠8/\i.op≠9/\i.op≠10/\i.op≠20
 .rw[U_ g]at h
  cases h
 rw[R_ g]at h;obtain⟨m,z⟩:=XO.variable C i.n;dsimp only at h;generalize hI x i.n=a at*
 by_cases b:a.2.2.2=false
 .rw[U_ b]at h;injection h with h;subst h;exact m
 rw[R_ b]at h
 have k:a.1.hO=false->P a.2.1:=λh=>z h (zu b)
 refine iu (R:=XO P) h (λ_=>m.write _ _ _ (λh=>.inl (k h)) (λ_=>B _)) λ_ h=>?_
 obtain⟨f,p⟩:=m.read a.2.1 a.2.2.1 (λh=>.inl (k h));generalize hW a.1 a.2.1 a.2.2.1=c at*
 have s:c.1.hO=false->GV P c.2:=λh=>(p h).2
 have d:c.1.hO=false->P a.2.1:=λh=>k (p h).1
 have o:∀{j:XP},(c.1.hO=true->j.hO=true)->(c.1.hO=false->XF P c.1->XO P j)->XO P j:=by
  intro j g A
  cases b:c.1.hO with
  |true=>exact .inl (g b)
  |false=>exact A b (f.resolve_left (by rw[b];simp))
 refine iu (R:=XO P) h (λ_=>o (λh=>h) (λh e=>(XO.reg (.inr e) _ _ λ_=>s h))) λ_ h=>?_
 by_cases t:i.op=10
 .rw[U_ t]at h
  refine iu (R:=XO P) h (λ_=>f.fault _) λ_ h=>?_
  injection h with h;subst h;have D:=f.write a.2.1 a.2.2.1 (iK i.b c.2 (x.sr i.a.toNat)).1 (λh=>.inl (d h)) (λ_=>q9)
  rcases D with b|e
  .exact .inl b
  .exact .inr {e with}
 rw[R_ t]at h
 refine iu (R:=XO P) h (λ_=>f.fault _) λ_ h=>?_
 injection h with h;subst h;exact o (λh=>h) (λh e=>.inr {e with r:=e.sr,v:=s h})
structure EF(P:Int->Prop)(e:p8):Prop where
 r:∀i,GV P (e.r i)
 rs:∀c∈e.rs,(P c.id∨c.id=1)/\GV P c.v
 ws:∀c∈e.ws,(P c.id∨c.id=1)/\GV P c.v
 nw:∀o∈e.nw,GO P o
 v:GV P e.v
def EN(P:Int->Prop)(nx:Int)(e:p8):Prop:=(EF P e/\e.nw=[])∨(EF (λn=>P n∨n=nx) e/\∃fs,e.nw=[⟨nx,fs⟩])
def XR(P:Int->Prop)(nx:Int)(y:XP):Prop:=y.hO=true∨EN P nx y.e
def GV.mono{P Q:Int->Prop}(h:∀n,P n->Q n){v:Vl}(b:GV P v):GV Q v:=λa=>h _ (b a)
def GO.mono{P Q:Int->Prop}(h:∀n,P n->Q n){o:Ob}(a:GO P o):GO Q o:=⟨h _ a.1,λc b=>(a.2 c b).mono h⟩
def XF.en{x:XP}(a:XF P x)(c:Int):EN P c x.e:=.inl ⟨⟨a.r,a.rs,a.ws,λe b=>(by rw[a.nw]at b;cases b),a.v⟩,a.nw⟩
def XO.xr{x:XP}(c:XO P x)(a:Int):XR P a x:=c.elim .inl λb=>.inr (b.en a)
def z2(x:XP)(id f:Int):(hW x id f).1.nx=x.nx:=by
 unfold hW;split
 .rfl
 .split<;>rfl
def yC(x:XP):(hT x).1.nx=x.nx:=by
 unfold hT;simp only;split
 .rfl
 .show(hW (iL x) 1 0).1.nx=_
  rw[z2]
  rfl
def XF.rest{x:XP}(e:XF P x)(i:In):XR P x.nx (j5 x i):=by
 have s:XO P x:=.inr e;have r:∀M,GV P (x.sr M):=e.sr
 have j:∀n,P n->(P n∨n=x.nx):=λn h=>.inl h
 unfold j5;dsimp only
 by_cases B:i.op=5
 .rw[U_ B];refine XO.xr ?_ _;obtain⟨k,u⟩:=e.object (x.sr i.b.toNat) i.n (r _);generalize iA x (x.sr i.b.toNat) i.n=a at*
  by_cases t:a.2.2=true
  .rw[U_ t];obtain⟨a6,be⟩:=k.read a.2.1 i.n (λ_=>.inl u);generalize hW a.1 a.2.1 i.n=z at*;exact LN
  .rw[R_ t];exact k
 rw[R_ B]
 by_cases A:i.op=6
 .rw[U_ A];refine XO.xr ?_ _;obtain⟨k,u⟩:=e.object (x.sr i.b.toNat) i.n (r _);generalize iA x (x.sr i.b.toNat) i.n=a at*
  by_cases t:a.2.2=true
  .rw[U_ t];exact k.write _ _ _ (λ_=>.inl u) (λ_=>r _)
  .rw[R_ t];exact k
 rw[R_ A]
 by_cases C:i.op=7
 .rw[U_ C];refine .inr (.inr ⟨⟨λp=>?_,λf b=>⟨(e.rs f b).1.imp_left .inl,(e.rs f b).2.mono j⟩,λf b=>⟨(e.ws f b).1.imp_left .inl,(e.ws f b).2.mono j⟩,λy s=>?_,e.v.mono j⟩,_,rfl⟩)
  .show GV _ (rf x.e.r i.a ⟨true,x.nx⟩ p)
   unfold rf;split
   .exact λ_=>.inr rfl
   .exact(e.r p).mono j
  .have g:y=⟨x.nx,List.replicate i.n.toNat default⟩:=I_.1 s;rw[g];exact⟨.inr rfl,λN c=>by rw[(Ik.1 c).2];exact GV.default⟩
 rw[R_ C]
 by_cases E:i.op=13
 .rw[U_ E];obtain⟨o,d⟩:=e.frame;have v:=yC x;generalize hT x=a at*
  cases hb:a.1.hO with
  |true=>exact .inl rfl
  |false=>
   have m:XF P a.1:=o.resolve_left (by rw[hb];simp);have D:=d hb;refine .inr (.inr ⟨⟨λp=>(m.r p).mono j,λf b=>⟨(m.rs f b).1.imp_left .inl,(m.rs f b).2.mono j⟩,λf b=>?_,λy s=>?_,m.v.mono j⟩,_,by rw[<-v];rfl⟩)
   .rcases X_.1 b with b|b
    .exact⟨(m.ws f b).1.imp_left .inl,(m.ws f b).2.mono j⟩
    .have g:f=⟨1,0,⟨true,a.1.nx⟩⟩:=I_.1 b;rw[g];exact⟨.inr rfl,λ_=>.inr v⟩
   .have g:y=⟨a.1.nx,[⟨true,a.2.1⟩,⟨false,a.1.j2+1⟩,default]++((List.range i.b.toNat).map a.1.sr++List.replicate (i.c-i.b).toNat default)⟩:=I_.1 s;rw[g];refine⟨.inr v,λN c=>?_⟩
    rcases X_.1 c with c|c
    .rcases M_.1 c with g|c
     .rw[g]
      exact λ_=>.inl D
     rcases M_.1 c with g|c
     .rw[g];exact GV.num _
     .rw[I_.1 c];exact GV.default
    .rcases X_.1 c with c|c
     .obtain⟨p,_,g⟩:=FQ.1 c;rw[<-g];exact(m.sr p).mono j
     .rw[(Ik.1 c).2];exact GV.default
 rw[R_ E];refine XO.xr ?_ _
 by_cases l:i.op=14
 .rw[U_ l];obtain⟨o,d⟩:=e.frame;generalize hT x=a at*
  by_cases hb:a.1.hO=true
  .rw[U_ hb];exact o
  rw[R_ hb];have hb:a.1.hO=false:=zu hb;obtain⟨D,v⟩:=o.read a.2.1 0 (λh=>.inl (d h));generalize hW a.1 a.2.1 0=m at*
  by_cases k:m.2.r=true/\m.2.n=0
  .rw[U_ k];exact D.Cy _ _ _ _ _ _ (λ_=>r _) (λh=>h.sr)
  rw[R_ k];obtain⟨K,q⟩:=D.read a.2.1 1 (λh=>.inl (d (v h).1));generalize hW m.1 a.2.1 1=F at*;split
  .exact XO.brk
  .have L:XO P (ib F.1 1 0 m.2):=K.write _ _ _ (λ_=>.inr rfl) (λh=>(v (q h).1).2);have J:XO P (ib (ib F.1 1 0 m.2) 1 1 (x.sr i.a.toNat)):=L.write _ _ _ (λ_=>.inr rfl) (λ_=>r _);exact J.go _
 rw[R_ l]
 by_cases H:i.op=15∨i.op=18
 .rw[U_ H];have m:=e.root;generalize iL x=a at*
  by_cases hb:a.hO=true
  .rw[U_ hb];exact .inl hb
  rw[R_ hb];obtain⟨a6,be⟩:=XO.read (.inr m:XO P a) 1 (if i.op=15 then 1 else 2) (λ_=>.inr rfl);generalize hW a 1 (if i.op=15 then 1 else 2)=z at*;exact LN
 rw[R_ H]
 by_cases I:i.op=17
 .rw[U_ I];obtain⟨o,d⟩:=e.frame;generalize hT x=a at*;exact o.write _ _ _ (λh=>.inl (d h)) (λ_=>GV.num _)
 rw[R_ I];exact s
def XF.EY{x:XP}(a:XF P x)(pc:Int):XR P x.nx (qb x pc):=by
 unfold qb;split
 .dsimp only;split
  .exact .inl ‹_›
  .have f:=a.root;obtain⟨c,e⟩:=XO.read (.inr f:XO P (iL x)) 1 2 (λ_=>.inr rfl);generalize hW (iL x) 1 2=g at*
   cases b:g.1.hO with
   |true=>
    refine XO.xr ?_ _;unfold jm hT iL;dsimp only;simp only[b,Ie,if_true];exact .inl rfl
   |false=>exact(c.throw _ (e b).2).xr _
 .dsimp only;split
  .rename_i c b;exact(a.ik _ b).xr _
  .split
   .rename_i c b;exact(a.hH _ b).xr _
   .exact a.rest _
def EF.hO:EF P jg:=⟨λ_=>GV.default,λb a=>(by cases a),λb a=>(by cases a),λb a=>(by cases a),GV.default⟩
def XF.D_{x:XP}(b:XF P x)(pc:Int)(e:pc≠ -1)(d:(x.jt.getD pc.toNat default).op=20):XO P (qb x pc):=by
 unfold qb;rw[R_ e];dsimp only;split
 .rename_i f a;exact b.ik _ a
 .split
  .rename_i f a;exact b.hH _ a
  .rename_i a
   exfalso
   unfold kM at a;rw[R_ (λc=>c.2.2.2 d)]at a;dsimp only at a;split at a
   .cases a
   rw[R_ (by rw[d];decide),R_ (by rw[d];decide),R_ (by rw[d];decide)]at a;split at a<;>cases a
def Ct{h:List Ob}{r:Nat->Vl}(c:List In)(hH hC pc b:Int)(h0:P 0)(f:∀o∈h,GO P o)(e:∀i,GV P (r i)):EN P b (lq c hH hC pc r h b):=by
 unfold lq;split
 .exact .inl ⟨EF.hO,rfl⟩
 .dsimp only;have k:XF P ⟨c,hH,hC,pc,r,h,b,{l9 with pc:=pc+1,r:=r},false⟩:=⟨h0,f,e,e,λc a=>(by cases a),λc a=>(by cases a),rfl,GV.default⟩;have j:=k.EY pc;split
  .exact .inl ⟨EF.hO,rfl⟩
  .rename_i g;exact j.resolve_left g
def uy{h:List Ob}{r:Nat->Vl}(c:List In)(hH hC pc f:Int)(d:iB c pc=20)(h0:P 0)(j:∀o∈h,GO P o)(g:∀i,GV P (r i)):EF P (lq c hH hC pc r h f)/\(lq c hH hC pc r h f).nw=[]:=by
 have p:¬(pc<0∨(c.length:Int)<=pc):=by
  intro h;unfold iB at d;rw[U_ h]at d
  cases d
 have d:(c.getD pc.toNat default).op=20:=by unfold iB at d;rw[R_ p]at d;exact d
 unfold lq;split
 .exact⟨EF.hO,rfl⟩
 .dsimp only;have m:XF P ⟨c,hH,hC,pc,r,h,f,{l9 with pc:=pc+1,r:=r},false⟩:=⟨h0,j,g,g,λc e=>(by cases e),λc e=>(by cases e),rfl,GV.default⟩;have b:=m.D_ pc X d;split
  .exact⟨EF.hO,rfl⟩
  .rename_i k;have a:=b.resolve_left k;exact⟨⟨a.r,a.rs,a.ws,λo b=>(by rw[a.nw]at b;cases b),a.v⟩,a.nw⟩
end
section
def HG(P:Int->Prop)(h:List Ob):Prop:=∀o∈h,GO P o
variable{P:Int->Prop}
def HG.mono{P Q:Int->Prop}(h:∀n,P n->Q n){l:List Ob}(a:HG P l):HG Q l:=λc b=>(a c b).mono h
def HG.nil:HG P []:=λb a=>by cases a
def HG.kQ{h:List Ob}(i:HG P h)(id f:Int){v:Vl}(j:GV P v):HG P (kQ h id f v):=by
 intro o g;unfold Go.Proofs.YtenbhdilndfaeaaGreat.kQ at g;obtain⟨m,e,b⟩:=Hm g;rw[HW]at e;rw[GJ]at b;have c:=i _ (O_ e);split at b
 .rw[<-b];refine⟨c.1,λk a=>?_⟩
  rcases F3 a with a|a
  .exact c.2 k a
  .rw[a];exact j
 .rw[<-b];exact c
def HG.put{h:List Ob}(c:HG P h){o:Ob}(k:GO P o):HG P (lv h o):=by
 have g:∀(e f:List Ob),(∀b∈e,GO P b)->(∀b∈f,GO P b)->HG P (e++[o]++f):=by
  intro e f i j b a
  rcases X_.1 a with a|a
  .rcases X_.1 a with a|a
   .exact i b a
   .rw[I_.1 a];exact k
  .exact j b a
 unfold lv;split
 .exact g _ _ (λb a=>c b (Gp a)) (λb a=>c b (Hz a))
 .exact g _ _ (λb a=>c b (Gp a)) (λb a=>c b (Hz a))
def HG.puts:∀(l:List Ob) {h:List Ob},HG P h->HG P l->HG P (l.foldl lv h)
 |[],_,a,_=>a
 |o::l,_,a,b=>HG.puts l (a.put (b o Gi)) (λx c=>b x (FX _ c))
def HG.p7{h:List Ob}(a:HG P h){c:Cl}(hc:GV P c.v):HG P (p7 h c):=by
 unfold Go.Proofs.YtenbhdilndfaeaaGreat.p7;split
 .exact a
 .exact a.kQ _ _ hc
def HG.ja:∀(l:List Cl) {h:List Ob},HG P h->(∀c∈l,GV P c.v)->HG P (ja h l)
 |[],_,a,_=>a
 |c::l,_,a,b=>HG.ja l (a.p7 (b c Gi)) (λx e=>b x (FX _ e))
def HG.pb{h:List Ob}(a:HG P h)(d:Dl):HG P (pb h d):=by
 unfold Go.Proofs.YtenbhdilndfaeaaGreat.pb;split
 .exact a
 .split
  .exact a.kQ _ _ (q9)
  .exact a
def HG.kj:∀(l:List Dl) {h:List Ob},HG P h->HG P (kj h l)
 |[],_,a=>a
 |d::l,_,a=>HG.kj l (a.pb d)
structure TG(P:Int->Prop)(t:i3):Prop where
 gs:∀c∈t.gs,GV P c.v
 rs:∀c∈t.rs,(P c.id∨c.id=1)/\GV P c.v
 ws:∀c∈t.ws,(P c.id∨c.id=1)/\GV P c.v
 nw:HG P t.nw
 r:∀i,GV P (t.r i)
 v:GV P t.v
def TG.mono{P Q:Int->Prop}(h:∀n,P n->Q n){t:i3}(a:TG P t):TG Q t:=
 ⟨λb c=>(a.gs b c).mono h,λb c=>⟨(a.rs b c).1.imp_left (h _),(a.rs b c).2.mono h⟩,λb c=>⟨(a.ws b c).1.imp_left (h _),(a.ws b c).2.mono h⟩,a.nw.mono h,λe=>(a.r e).mono h,a.v.mono h⟩
def HG.wx{rs:List Cl}:∀(l:List Cl) {h:List Ob},HG P h->(∀c∈l,GV P c.v)->HG P (l.foldl (kG rs) h)
 |[],_,a,_=>a
 |c::l,h,a,e=>by
  refine HG.wx l ?_ (λx b=>e x (FX _ b));unfold kG;split
  .exact HG.ja [c] a (λx b=>by rw[I_.1 b];exact e c Gi)
  .exact a
def TG.before{t:i3}(a:TG P t)(e:HG P view):HG P (before t view):=
 HG.ja _ (HG.wx _ e a.gs) (λb c=>(a.rs b c).2)
def TG.jq{t:i3}(a:TG P t)(e:HG P view):HG P (jq t view):=
 HG.kj _ (HG.ja _ (HG.puts _ (a.before e) a.nw) (λb c=>(a.ws b c).2))
def TG.lL{t:i3}(a:TG P t){h:List Ob}(b:HG P h):HG P (lL h t):=
 HG.kj _ (HG.ja _ (HG.puts _ b a.nw) (λc e=>(a.ws c e).2))
def tj{l:List Cl}{c x:Cl}(a:x∈kz l c):x∈l∨x=c:=by
 unfold kz at a;split at a
 .exact F3 a
 .rcases X_.1 a with a|a
  .exact .inl (Gp a)
  .rcases X_.1 a with a|a
   .exact .inr (I_.1 a)
   .exact .inl (Hz a)
def TG.j1{t:i3}(f:TG P t){c:Cl}(i:P c.id∨c.id=1)(hc:GV P c.v):TG P (j1 t c):=by
 unfold Go.Proofs.YtenbhdilndfaeaaGreat.j1;split
 .refine{f with ws:=λb a=>?_}
  rcases tj a with a|a
  .exact f.ws b a
  .rw[a];exact⟨i,hc⟩
 .refine{f with nw:=λm j=>?_};obtain⟨k,g,b⟩:=Hm j;rw[HW]at g;rw[GJ]at b;have e:=f.nw _ (O_ g);split at b
  .rw[<-b];refine⟨e.1,λh a=>?_⟩;unfold uz at a;dsimp only at a;split at a
   .rcases F3 a with a|a
    .exact e.2 h a
    .rw[a];exact hc
   .exact e.2 h a
  .rw[<-b];exact e
def sO{t:i3}{c:Cl}:(j1 t c).nw.map Ob.id=t.nw.map Ob.id:=by
 unfold j1;split
 .rfl
 .exact Mo
def TG.jw{t t':i3}(c:TG P t)(g:HG P view){id f:Int}(e:P id∨id=1)(a:jw t view id f=some t'):TG P t'/\t'.nw.map Ob.id=t.nw.map Ob.id:=by
 unfold Go.Proofs.YtenbhdilndfaeaaGreat.jw at a;split at a
 .injection a with a;subst a;exact⟨c,rfl⟩
 split at a
 .cases a
 .rename_i j k;have h:=tu (c.before g) k;split at a
  .cases a
  .injection a with a;subst a
   have b:TG P {t with rs:=kz t.rs ⟨id,f,j⟩,ds:=t.ds.eraseIdx (pe t.ds id f).toNat}:=by
    refine{c with rs:=λm b=>?_}
    rcases tj b with b|b
    .exact c.rs m b
    .rw[b];exact⟨e,h⟩
   refine⟨b.j1 e ?_,sO⟩
   show GV P ((jy (Go.Proofs.YtenbhdilndfaeaaGreat.jq t view) id f).getD default)
   cases i:jy (Go.Proofs.YtenbhdilndfaeaaGreat.jq t view) id f with
   |none=>exact GV.default
   |some o=>exact tu (c.jq g) i
def TG.take{t t':i3}(b:TG P t){d:Dl}(a:take t d=some t'):TG P t'/\t'.nw=t.nw:=by
 unfold Go.Proofs.YtenbhdilndfaeaaGreat.take at a;split at a
 .cases a
 split at a
 .injection a with a;subst a;exact⟨{b with},rfl⟩
 split at a
 .cases a
 .injection a with a;subst a;exact⟨{b with},rfl⟩
def TG.jN:∀(l:List Dl) {t:i3} (rs ws:List Cl),TG P t->TG P (jN t rs ws l).1/\(jN t rs ws l).1.nw=t.nw/\(∀c∈(jN t rs ws l).2.1,c∈rs)/\(∀c∈(jN t rs ws l).2.2,c∈ws)
 |[],_,_,_,a=>⟨a,rfl,λ_ h=>h,λ_ h=>h⟩
 |d::l,t,rs,ws,a=>by
  unfold Go.Proofs.YtenbhdilndfaeaaGreat.jN
  cases m:Go.Proofs.YtenbhdilndfaeaaGreat.take t d with
  |none=>exact TG.jN l rs ws a
  |some t'=>
   obtain⟨f,b⟩:=a.take m;obtain⟨j,i,g,k⟩:=TG.jN l (jJ rs d) (jJ ws d) f;exact⟨j,i.trans b,λc e=>(GY.1 (g c e)).1,λc e=>(GY.1 (k c e)).1⟩
def TG.j4{view:List Ob}(j:HG P view):∀(l:List Cl) {t t':i3},TG P t->(∀c∈l,(P c.id∨c.id=1)/\GV P c.v)->j4 view t l=some t'->TG P t'/\t'.nw.map Ob.id=t.nw.map Ob.id
 |[],t,t',f,_,b=>by injection b with b;subst b;exact⟨f,rfl⟩
 |c::l,t,t',f,i,b=>by
  unfold Go.Proofs.YtenbhdilndfaeaaGreat.j4 at b
  cases a:qi view t c with
  |none=>rw[a]at b;cases b
  |some k=>
   rw[a]at b;have hc:=i c Gi
   have h:TG P k/\k.nw.map Ob.id=t.nw.map Ob.id:=by
    unfold qi at a;split at a
    .injection a with a;subst a;exact⟨f,rfl⟩
    split at a
    .exact f.jw j hc.1 a
    .injection a with a;subst a;refine⟨{f with rs:=λg e=>?_},rfl⟩
     rcases tj e with e|e
     .exact f.rs g e
     .rw[e];exact hc
   obtain⟨m,o⟩:=TG.j4 j l h.1 (λg e=>i g (FX _ e)) b;exact⟨m,o.trans h.2⟩
def TG.kt{view:List Ob}(k:HG P view):∀(l:List Cl) {t t':i3},TG P t->(∀c∈l,(P c.id∨c.id=1)/\GV P c.v)->kt view t l=some t'->TG P t'/\t'.nw.map Ob.id=t.nw.map Ob.id
 |[],t,t',h,_,b=>by injection b with b;subst b;exact⟨h,rfl⟩
 |c::l,t,t',h,j,b=>by
  unfold Go.Proofs.YtenbhdilndfaeaaGreat.kt at b
  cases a:r6 view t c with
  |none=>rw[a]at b;cases b
  |some m=>
   rw[a]at b;have hc:=j c Gi
   have i:TG P m/\m.nw.map Ob.id=t.nw.map Ob.id:=by
    unfold r6 at a
    cases f:Go.Proofs.YtenbhdilndfaeaaGreat.jw t view c.id c.f with
    |none=>rw[f]at a;cases a
    |some q=>
     rw[f]at a;injection a with a;subst a;obtain⟨e,g⟩:=h.jw k hc.1 f;exact⟨e.j1 hc.1 hc.2,(sO).trans g⟩
   obtain⟨e,g⟩:=TG.kt k l i.1 (λp o=>j p (FX _ o)) b;exact⟨e,g.trans i.2⟩
def TG.record{t t':i3}(z:TG P t)(m:HG P view){e:p8}(j:EF P e)(a:record t view e=some t'):TG P t'/\t'.nw.map Ob.id=t.nw.map Ob.id++e.nw.map Ob.id:=by
 unfold Go.Proofs.YtenbhdilndfaeaaGreat.record at a;dsimp only at a;obtain⟨p,G,q,r⟩:=TG.jN e.ds e.rs e.ws z;generalize Go.Proofs.YtenbhdilndfaeaaGreat.jN t e.rs e.ws e.ds=f at*
 cases g:Go.Proofs.YtenbhdilndfaeaaGreat.j4 view f.1 f.2.1 with
 |none=>rw[g]at a;cases a
 |some c=>
  rw[g]at a;dsimp only at a;obtain⟨k,v⟩:=TG.j4 m _ p (λb i=>j.rs b (q b i)) g;have A:TG P {c with nw:=c.nw++e.nw}:={k with nw:=λo y=>(X_.1 y).elim (k.nw o) (j.nw o)}
  cases h:Go.Proofs.YtenbhdilndfaeaaGreat.kt view {c with nw:=c.nw++e.nw} f.2.2 with
  |none=>rw[h]at a;cases a
  |some s=>
   rw[h]at a;injection a with a;subst a;obtain⟨x,u⟩:=TG.kt m _ A (λb i=>j.ws b (r b i)) h;refine⟨{x with},?_⟩
   show s.nw.map Ob.id=_
   rw[u]
   show(c.nw++e.nw).map Ob.id=_
   rw[FV,v,G]
def uZ(t:i3):Int:=(t.run+1)*1048576+t.nw.length
def TG.step{t:i3}(g:TG P t)(k:HG P view)(h0:P 0)(c:List In)(hH hC:Int)(d:List Int):
 (TG P (jd c hH hC d t view)/\(jd c hH hC d t view).nw.map Ob.id=t.nw.map Ob.id)∨
 (TG (λn=>P n∨n=uZ t) (jd c hH hC d t view)/\(jd c hH hC d t view).nw.map Ob.id=t.nw.map Ob.id++[uZ t]):=by
 have u:=Ct c hH hC t.pc (uZ t) h0 (g.jq k) g.r;have p:TG P (np t):={g with};unfold jd;dsimp only;rw[show(t.run+1)*1048576+(t.nw.length:Int)=uZ t from rfl];generalize lq c hH hC t.pc t.r (Go.Proofs.YtenbhdilndfaeaaGreat.jq t view) (uZ t)=a at*;split
 .exact .inl ⟨p,rfl⟩
 split
 .exact .inl ⟨{g with},rfl⟩
 cases s:Go.Proofs.YtenbhdilndfaeaaGreat.record t view a with
 |none=>exact .inl ⟨p,rfl⟩
 |some b=>
  dsimp only
  have o:∀{Q:Int->Prop} {l:List Int},EF Q a->TG Q b/\b.nw.map Ob.id=l->TG Q (if a.h6=2 then{b with pc:=a.pc,r:=a.r,hK:=b.hK+1,h9:=3,hY:=a.hY,v:=a.v}
   else if a.h6=1/\(i0 (λm=>m==a.kA) d=true∨64<=b.hK+1∨jB c hH hC a.pc=true) then{b with pc:=a.pc,r:=a.r,hK:=b.hK+1,h9:=2,next:=a.pc}
   else{b with pc:=a.pc,r:=a.r,hK:=b.hK+1})/\(if a.h6=2 then{b with pc:=a.pc,r:=a.r,hK:=b.hK+1,h9:=3,hY:=a.hY,v:=a.v}
   else if a.h6=1/\(i0 (λm=>m==a.kA) d=true∨64<=b.hK+1∨jB c hH hC a.pc=true) then{b with pc:=a.pc,r:=a.r,hK:=b.hK+1,h9:=2,next:=a.pc}
   else{b with pc:=a.pc,r:=a.r,hK:=b.hK+1}:i3).nw.map Ob.id=l:=by
   intro Q l e⟨i,j⟩;split
   .exact⟨{i with r:=e.r,v:=e.v},j⟩
   split
   .exact⟨{i with r:=e.r},j⟩
   .exact⟨{i with r:=e.r},j⟩
  rcases u with⟨e,h⟩|⟨e,x,h⟩
  .have f:=g.record k e s;rw[h]at f;exact .inl (o e (zu f))
  .have f:=(g.mono (Q:=λn=>P n∨n=uZ t) (λn f=>.inl f)).record (k.mono (λn f=>.inl f)) e s;rw[h]at f;exact .inr (o e (zu f))
end
def wf64_0:mQ 0:=WalkArith.wf_i64 X
def wf64_1:mQ 1:=WalkArith.wf_i64 X
def wf64_2:mQ 2:=WalkArith.wf_i64 X
def Cv{t:i3}(h0:0<=t.run)(a:t.run<=1099511627776)(b:t.nw.length<=500000):mQ (uZ t):=by
 unfold uZ;exact WalkArith.wf_i64 X
def TG.Ak{t:i3}(h:TG mQ t)(i:HG mQ view)(c:List In)(hH hC:Int)(d:List Int)(h0:0<=t.run)(e:t.run<=1099511627776)(f:t.nw.length<=500000):TG mQ (jd c hH hC d t view):=by
 rcases h.step i wf64_0 c hH hC d with a|a
 .exact a.1
 .exact a.1.mono λn g=>g.elim id (λb=>b▸Cv h0 e f)
def TG.AF{l:List In}{hH hC:Int}{d:List Int}{view:List Ob}(i:ic l hH hC=true)(f:l.length<=2048)(b:HG mQ view):∀(n:Nat) (t:i3),(t.h9=0->Way l t)->TF t->TG mQ t->0<=t.run->t.run<=1099511627776->TG mQ (og l hH hC d view n t)
 |0,_,_,_,a,_,_=>a
 |n+1,t,j,e,a,h0,c=>by
  unfold og;split
  .rename_i h;obtain⟨k,m⟩:=qA (d:=d) (view:=view) i f (j h) e h;have g:=mD l hH hC d t view;exact TG.AF i f b n _ m k (a.Ak b l hH hC d h0 c e.sm.nw) (by rw[g];exact h0) (by rw[g];exact c)
  .exact a
def TG.begin{P:Int->Prop}(l:List In)(hH hC hQ run:Int)(ik:Bool):TG P (jn l hH hC hQ run ik).1:=by
 have z:∀b:i3,b.gs=[]->b.rs=[]->b.ws=[]->b.nw=[]->b.r=jp->b.v=default->TG P b:=λb e f g d h i=>
  ⟨λc a=>(by rw[e]at a;cases a),λc a=>(by rw[f]at a;cases a),λc a=>(by rw[g]at a;cases a),λc a=>(by rw[d]at a;cases a),λj=>by rw[h];exact GV.default,by rw[i];exact GV.default⟩
 unfold jn;split
 .exact MI
 split
 .exact MI
 split
 .exact MI
 .exact MI
def nQ(l:List In)(hH hC hQ run:Int)(ik:Bool):(jn l hH hC hQ run ik).1.run=run∨(jn l hH hC hQ run ik).1.run=0:=by
 unfold jn;split
 .exact .inr rfl
 split
 .exact .inr rfl
 split
 .exact .inl rfl
 .exact .inl rfl
def tE{l:List In}{hH hC:Int}{d:List Int}(c:ic l hH hC=true)(a:l.length<=2048){s:p9}{run:Int}(b:HG mQ s.h)(h0:0<=run)(e:run<=1099511627776):TG mQ (na l hH hC d s run):=by
 have f:=nQ l hH hC s.hQ run true;exact TG.AF c a b _ _ (λ_=>nP) (pV a) (TG.begin _ _ _ _ _ _) X X
def HG.hQ{P:Int->Prop}(hH:Int)(h0:P 0)(i:P 1)(e:P 2):HG P (startHeap hH):=by
 have h:∀(n:Int) (f:Nat),P n->∀g∈(⟨true,n⟩::List.replicate f default:List Vl),GV P g:=by
  intro n f j g c
  rcases M_.1 c with b|c
  .rw[b]
   exact λ_=>j
  .rw[(Ik.1 c).2];exact GV.default
 intro k a;unfold startHeap at a
 rcases M_.1 a with b|a
 .rw[b];exact⟨i,h _ _ e⟩
 .rw[I_.1 a];exact⟨e,h _ _ h0⟩
def HG.k4{P:Int->Prop}{h:List Ob}{e:p8}(b:HG P h)(a:EF P e):HG P (k4 h e):=
 HG.ja _ (HG.puts _ b a.nw) (λc f=>(a.ws c f).2)
def HG.mK{P:Int->Prop}(l:List In){h:List Ob}(pc a:Int)(b:HG P h):HG P (mK l h pc a):=b.p7 (GV.num _)
def tM{l:List In}{hH hC:Int}{s:p9}{e:p8}(h:¬ms l hH hC s e=true):s.jG=false/\iB l s.hQ=20/\e.h6≠4:=by
 unfold ms at h;have h:¬(s.jG=true∨jB l hH hC s.hQ=false∨e.h6=4):=zu h;refine⟨by cases b:s.jG with|false=>rfl|true=>exact FU (.inl b) h,?_,λc=>h (.inr (.inr c))⟩
 cases a:jB l hH hC s.hQ with
 |false=>exact FU (.inr (.inl a)) h
 |true=>
  unfold jB at a;rw[F0]at a
  simpa using a.2
def HG.nR{P:Int->Prop}(l:List In)(hH hC:Int)(k7:List Int){s:p9}(h0:P 0)(a:HG P s.h):HG P (nR l hH hC k7 s).1.h:=by
 unfold Go.Proofs.YtenbhdilndfaeaaGreat.nR;split
 .exact HG.nil
 split
 .exact HG.nil
 .rename_i c;obtain⟨_,d,_⟩:=tM c;obtain⟨b,f⟩:=uy l hH hC s.hQ 0 d h0 a (λ_=>GV.default:∀e,GV P (jp e));unfold oH;split
  .exact a.mK _ _ _
  split
  .exact a.k4 b
  .exact a.k4 b
def HG.kK{P:Int->Prop}{s:p9}{t:i3}(a:HG P s.h)(b:TG P t)(ok:Bool):HG P (kK ok s t).1.h:=by
 unfold Go.Proofs.YtenbhdilndfaeaaGreat.kK;split
 .exact HG.nil
 split
 .exact HG.nil
 split
 .exact HG.nil
 .unfold lW;split
  .exact b.lL a
  .exact b.lL a
def uO.EL{l:List In}{hH hC:Int}{d k7:List Int}{k:Nat}{run:Int}{s:p9}(b:ic l hH hC=true)(h:uO l hH hC d k7 k run s)(f:k<=1000000):HG mQ s.h:=by
 have c:=ks b
 induction h with
 |hQ=>exact HG.hQ _ wf64_0 wf64_1 wf64_2
 |ask _ _ _ a=>exact HG.nR _ _ _ _ wf64_0 (a X)
 |commit h _ _ a=>
  have e:=h.cb b;exact HG.kK (a X) (tE b c.2.1 (a X) e.2.1 X) true
def HG.nB{P:Int->Prop}{h:List Ob}{ts:List i3}(b:HG P h)(a:∀t∈ts,TG P t)(k:Int):HG P (nB h ts k):=by
 unfold Go.Proofs.YtenbhdilndfaeaaGreat.nB
 have a:∀t∈ts.take k.toNat,TG P t:=λt h=>a t (Gp h)
 generalize ts.take k.toNat=l at*
 induction l generalizing h with
 |nil=>exact b
 |cons t l c=>exact c ((a t Gi).lL b) (λf e=>a f (FX _ e))
def wJ.EL{l:List In}{hH hC:Int}{d:List Int}{h:List Ob}{run:Int}{ts:List i3}(q:ic l hH hC=true)(p:l.length<=2048)(g:wJ l hH hC d h run n ts)(j:HG mQ h)(h0:0<=run)(r:run<=1000000000):∀t∈ts,TG mQ t/\0<=t.run/\t.run<=1000000016:=by
 induction g with
 |hQ ts iN f=>
  intro t a;obtain⟨e,b,rfl⟩:=Hm a;obtain⟨k,i,_,c⟩:=f e b;have m:=nQ l hH hC k (run+e) i;rw[c];exact⟨TG.begin _ _ _ _ _ _,X,X⟩
 |step e b m s c=>
  intro t a
  rcases F3 a with a|rfl
  .exact c t a
  .obtain⟨i,f,k⟩:=c _ (O_ b);have o:=(m.tf q p _ (O_ b)).1;rw[mD];exact⟨i.Ak (j.nB (λt a=>(c t a).1) _) l hH hC d f X o.sm.nw,f,k⟩
section
structure PX(P:Int->Prop)(R:Int):Prop where
 r:0<=R
 z:P 0
 o:P 1
 t:P 2
 nx:∀(run:Int) (k:Nat),0<=run->run<=R->k<=500000->P ((run+1)*1048576+k)
variable{P:Int->Prop}{R:Int}
def TG.D1(b:PX P R){t:i3}(i:TG P t)(j:HG P view)(c:List In)(hH hC:Int)(d:List Int)(h0:0<=t.run)(f:t.run<=R)(g:t.nw.length<=500000):TG P (jd c hH hC d t view):=by
 rcases i.step j b.z c hH hC d with a|a
 .exact a.1
 .exact a.1.mono λn h=>h.elim id (λe=>e▸b.nx _ _ h0 f g)
def TG.D5(j:PX P R){l:List In}{hH hC:Int}{d:List Int}{view:List Ob}(i:ic l hH hC=true)(f:l.length<=2048)(b:HG P view):∀(n:Nat) (t:i3),(t.h9=0->Way l t)->TF t->TG P t->0<=t.run->t.run<=R->TG P (og l hH hC d view n t)
 |0,_,_,_,a,_,_=>a
 |n+1,t,k,e,a,h0,c=>by
  unfold og;split
  .rename_i h;obtain⟨m,o⟩:=qA (d:=d) (view:=view) i f (k h) e h;have g:=mD l hH hC d t view;exact TG.D5 j i f b n _ o m (a.D1 j b l hH hC d h0 c e.sm.nw) (by rw[g];exact h0) (by rw[g];exact c)
  .exact a
def zD(b:PX P R){l:List In}{hH hC:Int}{d:List Int}(e:ic l hH hC=true)(a:l.length<=2048){s:p9}{run:Int}(c:HG P s.h)(h0:0<=run)(f:run<=R):TG P (na l hH hC d s run):=by
 have g:=nQ l hH hC s.hQ run true;exact TG.D5 b e a c _ _ (λ_=>nP) (pV a) (TG.begin _ _ _ _ _ _) X (ov b.r)
def uO.gX(a:PX P R){l:List In}{hH hC:Int}{d k7:List Int}{k:Nat}{run:Int}{s:p9}(c:ic l hH hC=true)(h:uO l hH hC d k7 k run s)(g:(k:Int)<=R):HG P s.h:=by
 have e:=ks c
 induction h with
 |hQ=>exact HG.hQ _ a.z a.o a.t
 |ask _ _ _ b=>exact HG.nR _ _ _ _ a.z (b X)
 |commit h _ _ b=>
  have f:=h.cb c;exact HG.kK (b X) (zD a c e.2.1 (b X) f.2.1 X) true
def Sm(n:Int):Prop:=0<=n/\n<=40000000
def D8:PX Sm 32:=⟨by decide,⟨by decide,by decide⟩,⟨by decide,by decide⟩,⟨by decide,by decide⟩,λrun k h0 h1 hk=>⟨by omega,by omega⟩⟩
def HG.ids{h:List Ob}(a:HG P h):∀o∈h,P o.id:=λo b=>(a o b).1
end
