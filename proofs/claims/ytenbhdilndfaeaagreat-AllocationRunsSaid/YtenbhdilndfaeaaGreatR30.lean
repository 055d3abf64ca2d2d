import Derived.Test.YtenbhdilndfaeaaGreatR20
import Derived.Test.YtenbhdilndfaeaaGreatR29
set_option maxRecDepth 100000
set_option maxHeartbeats 0
set_option linter.all false
namespace Go.Proofs.YtenbhdilndfaeaaGreat
open Go.RowKit Go.Proofs.Tryz
variable{G:Prop}{w:World}{k n:Nat}{view:List Ob}{o:Ob}(PA:Option Addr)
def Ki(h:G:=by
 rcases hx with hb|hx
 .have hk:(hF x).1.hH=true:=by unfold hF iB;simp[hb]
  exact⟨.inl hk,λh=>by rw[hk]at h;cases h⟩
 .exact hx.frame):G:=h
def Ku(h:G:=by
 have hk:(hJ x id f).1.hH=true:=by
  unfold hJ;split
  .rfl
  .split<;>exact hb
 exact⟨.inl hk,λh=>by rw[hk]at h;cases h⟩):G:=h
def LC(h:G:=by
 cases hb:z.1.hH with
 |true=>exact .inl hb
 |false=>exact aZ.reg _ _ λ_=>(bg hb).2):G:=h
def LJ(h:G:=by
 rcases h1 with h|h
 .exact .inl h
 .exact .inr (h.write _ _ _ (.inr rfl) hv)):G:=h
def Ml(h:G:=by
 show((s.hW++t.hW).length:Int)<=((k+1:Nat):Int)*500000
 rw[K_];omega):G:=h
def Mz(h:G:=by
 exact⟨XO.fault (.inr hx) _,hx.zero⟩):G:=h
def MB(h:G:=by
 show s.hw+1<=((k+1:Nat):Int)*3001
 omega):G:=h
def ME(h:G:=by
 exact z _ rfl rfl rfl rfl rfl rfl):G:=h
def MF(h:G:=by
 show s.jp<=((k+1:Nat):Int)
 omega):G:=h
def Et(w:World)(e:Ending)(w':World):Prop:=∃(A:OA) (c:Nat) (l:List In) (hq g9:Int),e=.returned (.tuple #[.agg #[.slice A l.length c,Y hq,Y g9],Y 0])/\Is w' A l/\hY l hq g9=true/\l.length<=c/\J [] w w'
def GS.zero(PA:Option Addr)(c:Nat):GS:=⟨.slice PA 3 c,none,0,[],none,0,[],0,none,0,[],none,0,[],none,0,[],0,0,none,0,[],[]⟩
def nh.new(w:World)(PA:Option Addr)(c:Nat):nh w.heap.size (w.alloc (.cells #[.slice PA 3 c,n_,Y 0,n_,n_,n_,n_,Y 0,Y 0,n_] 210)) w.heap.size (GS.zero PA c):=by
 refine⟨Q_ w 210 #[.slice PA 3 c,n_,Y 0,n_,n_,n_,n_,Y 0,Y 0,n_],H_ _,iY _ _ _ _,iY _ _ _ _,iY _ _ _ _,λf a=>(by cases a),HO,λe b=>?_,by simp[GS.zero,GS.rows,Value.ownBlock],Gz _ _ _ _,by simp⟩
 have:e=(n_,[]):=by simpa[GS.zero,GS.rows]using b
 subst this;exact iY _ _ _ _
def CU.zero(c:Nat):CU 0 (.slice PA 3 c) 0 (GS.zero PA c).lg:=
 ⟨rfl,rfl,rfl,λb a=>(by cases a),λb a=>(by cases a),H_ _,rfl,rfl,.inl ⟨rfl,rfl,rfl,rfl⟩⟩
def uw(Ns:List Nat)(k:Nat):Nat:=30*(Ns.take k).sum+3*k
def zF{q:Nat->Prop}{PA:OA}(c:Nat){fs:List FT}(Ns:List Nat)(w:World)(al:CG q w PA fs Ns):
 Calls prog 88 #[.agg #[.slice PA 3 c]] w (Et w):=by
 refine ig λan aI=>?_
 obtain⟨bC,bv,bw,aZ,bg⟩:=info_parts infoInt;obtain⟨aA,gx,o,be,hx,eW,hg,hB,hR⟩:=DC w 150 #[.slice PA 3 c] 26 #[n_,Y 0,Y 0];have MN:aA.cell? (Z gx 0)=some (.slice PA 3 c):=hB.f_ 0;have N:=O (al.g_ hg);clear al
 go_enter func88,ntmps88
 go_wp2_with fail
 go_at_call 134
 refine(wS q PA c fs Ns aA N.out).mono ?_;rintro e w2⟨rfl,W⟩;have ai:w2.cell? (Z gx 0)=some (.slice PA 3 c):=(hB.g_ W).f_ 0;have eF:=O (nh.new w2 PA c);have bd:=(H [] w2).alloc (.cells #[.slice PA 3 c,n_,Y 0,n_,n_,n_,n_,Y 0,Y 0,n_] 210);obtain⟨aK,b,cw,d8,_,_⟩:=box1 w2 210 #[.slice PA 3 c,n_,Y 0,n_,n_,n_,n_,Y 0,Y 0,n_];rw[cw,d8]at eF;rw[cw]at bd;have aB:aK.cell? (Z gx 0)=some (.slice PA 3 c):=(hB.g_ (W.trans bd)).f_ 0;clear MN
 go_upto_region 6 with fail
 have dy:=N.out.pc;have eN:nt aK (.slice PA 3 c):=⟨PA,c,fs,rfl,dy.len,Sl.g_ dy.hfs (W.trans bd),dy.i1,dy.i2⟩;have fu:=O eN;have dT:=O (N.out.g_ (W.trans bd));have bS:=hB.g_ (W.trans bd);have cj:=hR.g_ (W.trans bd);have fG:=hg.trans (W.trans bd);have fX:=O d8
 have gd:w2.heap.size<=b:=by omega
 have eZ:w.heap.size<=b/\w.heap.size<=o:=by have D:=hg.size;have z:=W.size;omega
 have fU:=O cw;clear dy eN ai aB be hx eW cw d8 hB hR hg W;have ah:lJ b aK b (GS.zero PA c).lg:=⟨_,rfl,eF.out⟩
 go_loopw [25] (λaG w'=>∃(k:Nat) (a:iT),k<=3/\aG=Y k/\lJ b w' b a/\CU k (.slice PA 3 c) (uw Ns k) a/\Gt b gT aK w') (λaG _=>3-(intOf aG).toNat)
 case atStart=>exact⟨0,_,X,gn,ah,CU.zero PA c,.refl _ _ _⟩
 case round=>
  obtain⟨k,a,hk,rfl,MR,hL,M⟩:=hrel;clear ah
  by_cases aj:k<3
  .have E:k<fs.length:=ov N.out.pg.len;have bn:k<Ns.length:=ov N.out.pg.nl;have hfs:=Sl.gt dT.out.pg.hfs M I;obtain⟨br,off,bx,z0,aR,aU⟩:=B2.at_ hfs E;have cb:=(dT.out.pg.rd _ (M_ E)).gt M I I I;obtain⟨_,bj,bR⟩:=N.out.pg.nm _ (M_ E);have aE:=N.out.pg.sg k E bn;have bM:=N.out.vs k E bn;obtain⟨dS,ew⟩:=pF Ns k bn;have cy:=N.out.pg.sum;have d2:Ns[k]<=64:=X
   have hls:uw Ns (k+1)=uw Ns k+30*Ns[k]+3:=by unfold uw;omega
   have gh:uw Ns (k+1)<=2048:=by unfold uw;omega
   obtain⟨f,hf⟩:=nm_ (fs[k]);obtain⟨ch,ci⟩:=nm_ (Ns[k]);rw[<-hf]at z0 aR aU cb bj bR aE bM;rw[<-ci]at aE bM d2 hls;have iG:=hL.len;have bQ:uw Ns k<=2048:=X;have ea:decide ((k:Int)<3)=true:=p_;have b4:wr.cell? (Z gx 0)=some (.slice PA 3 c):=(bS.gt M I).f_ 0;have cl:=O cb;have bA:=O bj;have cU:=O aE;have ck:=O bM;have u:=O hL;have eG:=O hls;have ag:=O hf;have e5:=O bx;obtain⟨bI,R,cD,bt,cu,bT⟩:=box1 wr 213 #[.string f.name,.slice f.AP f.ps.length f.cP,.slice f.A f.bs.length f.c];obtain⟨cG,cH,eM⟩:=bT.nQ;rw[bx];have aO:=O (tq ia (by rw[sU];decide) 5 ch f q bI (cl.out.g_ cu) cU.out X bA.out X);obtain⟨s,v,A⟩:=MR;have aq:=O v;have fg:=O A;clear hf ci cb bj aE bM hL hls bx dS ew cy hfs v A
   go_wp2_with fail
   refine aO.out.mono ?_;rintro e r⟨a7,c5,vs,rfl,bU,ei,ev,ep,ej,Q⟩
   have co:vs.length<=9:=by have h:=lx vs ia ei ev;rw[sU]at h;exact h
   have b7:=cu.trans Q;have F:=fg.out.g_ b7;have aJ:r.cell? (Z b 6)=some (.slice s.VA s.vs.length s.vc):=F.hg.f_ 6;have bl:r.cell? (Z b 7)=some (Y s.hidden):=F.hg.f_ 7;have cx:r.cell? (Z b 8)=some (Y s.most):=F.hg.f_ 8;have f6:=F.hg.hm 6;have f7:=F.hg.hm 7;have f8:=F.hg.hm 8;clear cG cH eM z0 aR aU b4
   go_upto_region 9 with fail
   obtain⟨U,az⟩:=F.Cg a7 c5 vs bU;obtain⟨ay,ct⟩:=nm_ (((r.setCell (Z b 6) (.slice a7 vs.length c5)).setCell (Z b 7) (Y 0)).setCell (Z b 8) (Y 0));rw[<-ct]at U az |-;clear ct aJ bl cx f6 f7 f8 F;obtain⟨g,eu⟩:=nm_ ({s with VA:=a7,vc:=c5,vs:=vs,hidden:=0,most:=0});rw[<-eu]at U
   have c6:g.lg={a with vs:=vs,hidden:=0,most:=0}:=by rw[eu,<-aq.out];rfl
   have bE:=(bT.g_ Q).gt az I;have dk:=(M.trans (.jX b7)).trans az
   have fN:g.rt++g.os=[]:=by
    have D:g.os.map (λL=>(L.box,L.is))=[]:=(FN iT.ats c6).trans u.out.ats;have z:g.rt.map (λL=>(L.box,L.is))=[]:=(FN iT.rts c6).trans u.out.rts;rw[List.map_eq_nil_iff]at D z;rw[D,z]
    rfl
   have eh:g.l=a.l:=FN iT.l c6;have dR:g.g9=a.g9:=FN iT.g9 c6;have d6:g.es=a.es:=FN iT.es c6;have dX:=O u.out.mark
   have eU:g.l.length<=100000:=by rw[eh];omega
   have fO:0<=g.g9:=by rw[dR];exact dX.out.2.1
   have fP:g.g9<=100000:=by rw[dR];have:=dX.out.2.2;omega
   have f3:g.es.length<=3:=by rw[d6,u.out.el];omega
   have fx:=O c6;have ft:=O eh;have fy:=O dR;have fb:=O d6;clear eu c6 eh dR d6;have z3:ay.cell? (Z b 3)=some (.slice g.EA g.es.length g.ec):=U.hg.f_ 3;refine hI (λw'=>w'.cell? (Z b 3)=some (.slice g.EA g.es.length g.ec)) 11 k_ ?_
   refine nZ (z3) λm=>?_
   repeat refine jW m ?_
   refine hV 6 λt j=>?_
   go_simp
   go_at_call 136
   refine(sx b b g ay.drew (U.g_ (H [] _).drew) eU fO fP).mono ?_;rintro e S⟨fj,gk,rfl,cZ,aN,eT⟩;clear m
   refine hX j (cZ.hg.f_ 3) λm=>?_
   clear j t z3
   try simp only[a_]
   refine hV 7 λt j=>?_
   go_simp;refine j.out _ _ (λ_=>jw m _) ?_;clear j t m;have a8:Sl (S.alloc (.cells #[Y g.l.length] 3)) 3 1 (j_ S.heap.size) 1 [Y g.l.length]:=jj (n:=1) (s:=1) (Q_ S 3 _) rfl;have cN:=cZ.g_ ((H [] S).alloc (.cells #[Y g.l.length] 3));have dm:=((dk.trans (.jX (H [] ay).drew)).trans aN).trans (.jX ((H [] S).alloc (.cells #[Y g.l.length] 3)));have af:=(bE.drew.gt aN I).alloc (.cells #[Y g.l.length] 3);obtain⟨bH,c8⟩:=nm_ (S.alloc (.cells #[Y g.l.length] 3));rw[<-c8]at a8 cN dm af |-;clear c8 cZ;have dF:=cN.hi (.slice g.EA g.es.length g.ec,g.es) (by simp[GS.rows])
   try simp only[a_]
   refine hV 8 λt j=>?_
   refine oz rfl (.tmp 44) (.tmp 47) 30 rfl b 3 bC 1 8 underlying30 bv bw aZ bg rfl I I g.EA g.es.length g.ec rfl dF 1 1 rfl a8 (by intro B hu;simp at hu;subst hu;rfl) X cN.hz ?_;intro cR cI ae cX dD eo;obtain⟨dK,cY,cM⟩:=cN.Eb fN cR cI _ dD cX eo;have bG:=(mW.app (e:=213) dD dF I).bk af
   refine hX j (dK.f_ 3) λm=>?_
   clear j t
   (repeat refine jW m ?_)
   have c9:=dK.hm 3
   refine hV 11 λt j=>?_
   go_simp;refine j.out _ _ (λh=>U_ h I) ?_;clear j t c9;refine hC k_ ?_ _;have eH:=bG.ib (p:=(Z b 3)) (bG.me dK I) (.slice cR (g.es.length+1) cI);obtain⟨cQ,eX⟩:=nm_ (ae.setCell (Z b 3) (.slice cR (g.es.length+1) cI));rw[<-eX]at cY cM eH |-;have d9:=dm.trans cM;clear eX m dK cN U bG dm dk;obtain⟨K,y⟩:=nm_ ({a with vs:=vs,hidden:=0,most:=0,l:=a.l++[⟨21,0,0,0,a.g9⟩],g9:=a.g9+1,es:=a.es++[(a.l.length:Int)]}:iT)
   have h10:lJ b cQ b K:=⟨_,(by
    rw[y,<-ft.out,<-fy.out,<-fb.out];have e:=fx.out;unfold GS.lg at e |-;simp only[iT.mk.injEq]at e |-
    exact⟨e.1,e.2.1,trivial,trivial,trivial,e.2.2.2.2.2.1,e.2.2.2.2.2.2.1,e.2.2.2.2.2.2.2.1,e.2.2.2.2.2.2.2.2⟩),cY⟩
   obtain⟨cm,bp,bu,fF,dQ,d3⟩:=ck.out;have fQ:2<=vs.length:=G_ bu (lx cm vs fF (d3 vs ej ep))
   have ef:K.l.length=a.l.length+1:=by rw[y];simp
   have dI:K.ats=[]:=by rw[y];exact u.out.ats
   have eV:K.rts=[]:=by rw[y];exact u.out.rts
   have er:K.pv=.slice PA 3 c:=by rw[y];exact u.out.pv
   have cp:GK K a.l.length 5:=⟨by rw[dI,y];exact dX.out.1,by rw[y];exact FR _,(by rw[y];show(0:Int)+((5:Nat):Int)<=10;decide),by rw[y];exact FR _,(by rw[y];show(0:Int)<=10;decide),by rw[y];exact fQ,by rw[y];exact co,by rw[dI];decide⟩
   have ed:rG a.l K.l:=by rw[y];exact rG.app _ _
   have ek:h5 K.l a.l.length=21:=by rw[y];exact mm _ _ _
   have dz:K.es=a.es++[(a.l.length:Int)]:=by rw[y]
   have dC:K.fs=a.fs:=by rw[y]
   have dP:=(dT.out.pg.rd _ (M_ E)).gt d9 I I I;rw[<-ag.out]at dP;have hbl:=dQ.len;obtain⟨aT,C,P⟩:=eH.nQ;have fm:=O ef;have eD:=O dI;have du:=O eV;have e9:=O dz;have eE:=O dC;have db:=O er;have eg:K.l.length+30*ch+2<=2048:=ov eG.out;have fq:=O (x2 b b cm 5 ch f.A _ f.c f.bs K _ q cQ rfl X dQ dP.hb dP.hs (by rw[er];exact fu.out.gt d9) h10 cp X);clear y ef dI eV er dz dC dP h10 cY
   go_wp2_with fail
   go_at_call 137
   refine fq.out.mono ?_;rintro e c7⟨rfl,e1,gm,cq,aM,fD,eK⟩;have eI:=d9.trans aM
   go_wp2_with fail
   go_at_call 138
   refine(ik b b _ cq (ov eK.len)).mono ?_;rintro e fS⟨rfl,b3,cr⟩;have fE:=fD.simp (x:=⟨1,0,0,0,0⟩) I;have eL:=eK.trans (GP.put _ ⟨1,0,0,0,0⟩);have eJ:=eI.trans cr;clear cq eI cr
   go_wp2_with fail
   go_at_call 138
   refine(ik b b _ b3 (ov eL.len)).mono ?_;rintro e V⟨rfl,h13,dj⟩;have dw:=fE.simp (x:=⟨14,0,0,0,0⟩) I;have dx:=eL.trans (GP.put _ ⟨14,0,0,0,0⟩);have fC:=eJ.trans dj;clear b3 eJ dj;obtain⟨d,c3,dE⟩:=h13;have f2:=dx
   have d4:d.os.map (λL=>(L.box,L.is))=[]:=by
    have D:=dx.qq;rw[eD.out]at D
    have z:d.lg.ats.map (·.1)=[]:=by rw[c3];simpa using D
    have h3:d.lg.ats=[]:=zu z;exact h3
   have et:d.rt.map (λL=>(L.box,L.is))=[]:=by
    have D:=dx.rt;rw[du.out]at D
    have z:d.lg.rts=[]:=by rw[c3];exact D
    exact z
   have fM:d.rt++d.os=[]:=by
    rw[List.map_eq_nil_iff]at d4 et;rw[d4,et]
    rfl
   have cA:d.vs.length<=9/\2<=d.vs.length:=by
    have e:d.lg.vs=d.vs:=rfl;rw[<-e,c3];exact⟨dw.v1,dw.v0⟩
   have gj:0<=d.most/\d.most<=10:=by
    have e:d.lg.most=d.most:=rfl;rw[<-e,c3];exact⟨dw.m0,dw.m1⟩
   have bO:d.fs.length<=3:=by
    have e:d.lg.fs=a.fs:=by rw[c3,dx.fs,eE.out]
    have aw:d.fs=a.fs:=e;rw[aw,u.out.fl];omega
   have fw:=O c3;have z4:V.cell? (Z b 4)=some (.slice d.FA d.fs.length d.fc):=dE.hg.f_ 4;have b6:V.cell? (Z b 6)=some (.slice d.VA d.vs.length d.vc):=dE.hg.f_ 6;have e2:V.cell? (Z b 8)=some (Y d.most):=dE.hg.f_ 8;have dr:=dE.hi (.slice d.FA d.fs.length d.fc,d.fs) (by simp[GS.rows]);have cy:IntKind.i64.wrap ((d.vs.length:Int)+d.most)=(d.vs.length:Int)+d.most:=F1 _ X;clear c3 d4 et aT C P
   go_upto_region 13 with fail
   refine hI (λw'=>w'.cell? (Z b 4)=some (.slice d.FA d.fs.length d.fc)/\w'.cell? (Z b 6)=some (.slice d.VA d.vs.length d.vc)/\w'.cell? (Z b 8)=some (Y d.most)) 19 k_ ?_
   refine nZ ⟨z4,b6,e2⟩ λm=>?_
   repeat refine jW m ?_
   refine hV 15 λt j=>?_
   go_simp;refine j.out _ _ (λ_=>⟨jw m.1 _,jw m.2.1 _,jw m.2.2 _⟩) ?_;clear j t m z4 b6 e2 cy;obtain⟨B,hu⟩:=nm_ ((d.vs.length:Int)+d.most);rw[<-hu];have ey:2<=B/\B<=64:=X;have bX:=O hu;clear hu;have a8:Sl (V.alloc (.cells #[Y B] 3)).drew 3 1 (j_ V.heap.size) 1 [Y B]:=(jj (n:=1) (s:=1) (Q_ V 3 _) rfl:Sl (V.alloc (.cells #[Y B] 3)) 3 1 (j_ V.heap.size) 1 [Y B]).drew;have dN:=((H [] V).alloc (.cells #[Y B] 3)).drew;obtain⟨gp,eY⟩:=nm_ ((V.alloc (.cells #[Y B] 3)).drew);rw[<-eY]at a8 dN |-;clear eY;have eR:=dE.g_ dN;have dr:=iF dr dN
   try simp only[a_]
   refine hV 16 λt j=>?_
   refine oz rfl (.tmp 63) (.tmp 74) 30 rfl b 3 bC 1 8 underlying30 bv bw aZ bg rfl I I d.FA d.fs.length d.fc rfl dr 1 1 rfl a8 (by intro B hu;simp at hu;subst hu;rfl) X eR.hz ?_;intro eC d0 gu fL fH fK;obtain⟨dJ,fI,dM⟩:=eR.Ea fM eC d0 _ fH fL fK
   refine hX j ⟨dJ.f_ 4,dJ.f_ 6,dJ.f_ 8⟩ λm=>?_
   clear j t
   (repeat refine jW m ?_)
   have f4:=dJ.hm 4;have z4:=m.1
   refine hV 19 λt j=>?_
   go_simp;refine j.out _ _ (λh=>U_ h I) ?_;clear j t f4 z4 m;refine hC k_ ?_ _;go_wp2;go_roundw
   case rel=>
    have cg:=((fC.trans (.jX dN)).trans dM);refine⟨k+1,_,X,gn,⟨_,rfl,fI⟩,?_,cg⟩
    have fJ:∀eB:GS,eB={d with FA:=eC,fc:=d0,fs:=d.fs++[B]}->eB.lg={d.lg with fs:=d.lg.fs++[B]}:=λeB h=>by rw[h];rfl
    rw[fJ _ rfl,fw.out];have gi:=eG.out;rw[<-e5.out];refine u.out.next (n':=uw Ns (k+1)) ed ek fm.out e9.out eE.out db.out eD.out du.out dx dw (by simp[iT.put]) ?_ B ey X
    have cJ:(((iT.put (iT.put e1 ⟨1,0,0,0,0⟩) ⟨14,0,0,0,0⟩).l.length:Int)-1)=((iT.put e1 ⟨1,0,0,0,0⟩).l.length:Int):=by simp[iT.put];omega
    rw[cJ];exact oG _
   case measure=>exact mz
  .have bV:k=3:=X;subst bV;have iG:=hL.len;have cy:=N.out.pg.sum;have cv:=N.out.pg.nl
   have hls:uw Ns 3<=2048:=by
    have e:Ns.take 3=Ns:=FK X;unfold uw;rw[e];omega
   have bF:∃q,po a.l a.g9 a.cs [] q/\q<a.l.length/\h5 a.l ((a.l.length:Int)-1)=14:=by
    rcases hL.ok with h|h
    .exact U_ h.1 I
    .exact h
   obtain⟨q',bF,dq,bP⟩:=bF;have eO:=bF.cs1;have hcl:=bF.Af;obtain⟨s,v,A⟩:=MR;have eP:s.cs=a.cs:=FN iT.cs v
   obtain⟨CA,n,cc,aW,bB,bm⟩:∃CA n cc,Hid (n=a.cs.length)/\wr.cell? (Z b 5)=some (.slice CA n cc)/\wr.ownsRow b 219 2 (.slice CA n cc) n (nf a.cs):=by
    rw[<-eP];exact⟨_,_,_,O rfl,A.hg.f_ 5,A.hc⟩
   have bj:n<=2048:=ov aW.out;have dY:=O iG;have bY:=O hls;have u:=O hL;have cz:=O bF;have fv:=O dq;have fp:=O bP;have e7:=O eO;have ah:lJ b wr b {a with l:=(a.cs.take 0).foldl (j1 a.es a.fs) a.l}:=⟨s,v,A⟩;clear iG hls hL bF dq bP eO hcl eP v A cy cv aj hk;go_wp2
   go_loopw [84] (λaG w'=>∃g:Nat,g<=n/\aG=Y g/\lJ b w' b {a with l:=(a.cs.take g).foldl (j1 a.es a.fs) a.l}/\Gt b gT aK w'/\mW 219 wr w') (λaG _=>n-(intOf aG).toNat)
   case atStart=>exact⟨0,P_ _,gn,ah,M,.jX (H [] _)⟩
   case round=>
    obtain⟨g,hj,rfl,MR,M,dn⟩:=hrel;clear ah;obtain⟨s,v,A⟩:=MR
    by_cases aj:g<n
    .have cs:g<a.cs.length:=ov aW.out;obtain⟨fT,fY,fB,_,cV,d5⟩:=kS (dn.own bm) X;obtain⟨D,z,h3,ar,av⟩:=e7.out a.cs[g] (M_ cs);have z0:=(cV.f_ (g*2+0)).trans (d5 _ _ ((jg (λp:Int × Int=>[Y p.1,Y p.2]) 2 (λ_=>rfl) a.cs g 0 cs X).trans rfl));have aR:=(cV.f_ (g*2+1)).trans (d5 _ _ ((jg (λp:Int × Int=>[Y p.1,Y p.2]) 2 (λ_=>rfl) a.cs g 1 cs X).trans rfl));rw[G0]at z0;obtain⟨i,aS⟩:∃i:Nat,a.cs[g].1=i:=⟨a.cs[g].1.toNat,X⟩;obtain⟨f,di⟩:∃f:Nat,a.cs[g].2=f:=⟨a.cs[g].2.toNat,X⟩;have aQ:=O (show a.cs[g]=((i:Int),(f:Int)) from Prod.ext aS di);rw[aS]at z0 z;rw[di]at aR ar av;have cW:s.es=a.es:=FN iT.es v;have bo:s.fs=a.fs:=FN iT.fs v;have ca:s.l=(a.cs.take g).foldl (j1 a.es a.fs) a.l:=FN iT.l v
     have bf:s.l.length=a.l.length:=by rw[ca,o4]
     have dB:s.es.length=3:=by rw[cW];exact u.out.el
     have bO:s.fs.length=3:=by rw[bo];exact u.out.fl
     obtain⟨y,MM⟩:=mn_ a.l.length;have dO:i<y:=X
     have cn:y<=2048:=by have:=dY.out;have:=bY.out;omega
     have eQ:f<3:=X;have aq:=O v;have df:=O (bf.trans MM);have ap:=O MM;have fa:=O cW;have dt:=O bo;have cS:=O ca;have bW:=O dB;have da:=O bO;have fk:=O dn;have dV:=O M;clear v bf MM cW bo ca dB bO D z h3 ar av aS di d5 cV dn M;subst fB;obtain⟨bI,R,cD,bt,cu,bT⟩:=box1 wr 219 #[Y i,Y f]
     go_upto_region 18 with fail
     obtain⟨r,B⟩:=nm_ bI.drew
     have Q:J [] wr r:=by rw[B];exact cu.drew
     have b5:Bk r R 219 #[Y i,Y f]:=by rw[B];exact bT.g_ (H [] _).drew
     have F:=A.g_ Q;obtain⟨G,cF,ax,L,ec,fc,cur,aX,cK,MO,C,ao,V,e0,K,⟨gl,bK⟩,⟨eA,aP⟩⟩:=F.qI df.out dO bW.out da.out eQ;obtain⟨cf,d7⟩:=nm_ (s.es.getD f 0);rw[<-d7]at e0;have cT:=O aX;have fd:=O d7;have cG:r.cell? (Z R 0)=some (Y i):=b5.f_ 0;have cH:r.cell? (Z R 1)=some (Y f):=b5.f_ 1;have fz:=MO.hm (i*5+4);clear aX d7 V aP K;have ga:(f:Int)<3:=X;have gf:(i:Int)<y:=X;refine hI (λw'=>w'.cell? (Z R 0)=some (Y i)/\w'.cell? (Z R 1)=some (Y f)/\w'.cell? (Z b 1)=some (.slice (j_ G) y L)/\w'.cell? (Z b 3)=some (.slice (j_ cF) 3 ec)/\w'.cell? (Z cF f)=some (Y cf)) 16 k_ ?_;rw[<-B];have fV:=O B;clear B;have m:=And.intro cG (And.intro cH (And.intro C (And.intro ao e0)))
     repeat refine jW m ?_
     refine hV 16 λt j=>?_
     go_simp;refine j.out _ _ (λh=>U_ h I) ?_;clear j t fz C ao bK e0 m cG cH;refine hC k_ ?_ _;have U:=(F.Dm cT.out MO (by rw[df.out];exact dO) cf).g_ (H [] _).drew
     have bD:∀e,e≠189->mW e r (r.setCell (Z G (i*5+4)) (Y cf)).drew:=λe he=>(mW.set MO (Ne.symm he) _ _).trans (.jX (H [] _).drew)
     have dk:=(Gt.set (T:=gT) MO cK I (i*5+4) (Y cf)).trans (.jX (H [] _).drew)
     go_upto_region 19 with fail
     obtain⟨S,cC⟩:=nm_ ((r.setCell (Z G (i*5+4)) (Y cf)).drew);rw[<-cC]at U bD dk;have am:=(bD 219 I).bk b5;obtain⟨e4,e3,ax,fR,fZ,fc,dG,d1,_,dH,C,ao,V,e0,K,_,⟨eA,aP⟩⟩:=U.qI ((lH _ _ _).trans df.out) dO bW.out da.out eQ
     obtain rfl:G=e4:=by have h:=cT.out.symm.trans d1;injection h with h;injection h
     obtain⟨bJ,dL⟩:=nm_ (s.fs.getD f 0)
     have K:S.cell? (Z ax f)=some (Y bJ):=by rw[dL];exact K
     have e8:=O dL;have fo:=O d1;have cG:S.cell? (Z R 0)=some (Y i):=am.f_ 0;have cH:S.cell? (Z R 1)=some (Y f):=am.f_ 1;have fz:=dH.hm (i*5+3);clear d1 dL ao e0 e3;refine hI (λw'=>w'.cell? (Z R 0)=some (Y i)/\w'.cell? (Z R 1)=some (Y f)/\w'.cell? (Z b 1)=some (.slice (j_ G) y fR)/\w'.cell? (Z b 4)=some (.slice (j_ ax) 3 fc)/\w'.cell? (Z ax f)=some (Y bJ)) 16 k_ ?_;rw[<-cC];have fW:=O cC;clear cC;have m:=And.intro cG (And.intro cH (And.intro C (And.intro V K)))
     repeat refine jW m ?_
     refine hV 16 λt j=>?_
     go_simp;refine j.out _ _ (λh=>U_ h I) ?_;clear j t fz C V aP K m cG cH;refine hC k_ ?_ _;have cN:=U.Dn fo.out dH (by rw[show({s with l:=mh cf s.l i}:GS).l.length=s.l.length from lH _ _ _,df.out];exact dO) bJ;have eb:=(fk.out.trans (.jX Q)).trans ((bD 219 I).trans (.set dH I (i*5+3) (Y bJ)));have dm:=(dV.out.trans (.jX Q)).trans (dk.trans (Gt.set (T:=gT) dH cK I (i*5+3) (Y bJ)));have fh:=O cN;have fi:=O eb;have fe:=O dm;clear cN eb dm U bD dk F;go_wp2;go_roundw
     case rel=>
      refine⟨g+1,X,gn,⟨_,?_,fh.out⟩,fe.out,fi.out⟩
      have aC:(a.cs.take (g+1)).foldl (j1 a.es a.fs) a.l=pK bJ (mh cf s.l i) i:=by
       rw[X_ cs,aQ.out,G3,<-cS.out]
       show j1 a.es a.fs s.l _=_
       rw[<-zy,fd.out,e8.out,fa.out,dt.out]
      rw[aC];have aw:=aq.out;exact Lh
     case measure=>exact mz
    .have eS:a.cs.take g=a.cs:=FK (ov aW.out);rw[eS]at v;have bo:s.fs=a.fs:=FN iT.fs v;have ca:s.l=a.cs.foldl (j1 a.es a.fs) a.l:=FN iT.l v;have bq:s.g9=a.g9:=FN iT.g9 v
     have bf:s.l.length=a.l.length:=by rw[ca,o4]
     have dB:s.es.length=3:=by rw[show s.es=a.es from FN iT.es v];exact u.out.el
     have bO:s.fs.length=3:=by rw[bo];exact u.out.fl
     have cB:=cz.out.code.pos;obtain⟨y,MM⟩:=mn_ s.l.length
     have cn:y<=2048:=by have:=dY.out;have:=bY.out;omega
     obtain⟨G,cF,ax,L,ec,fc,cur,aX,cK,MO,C,ao,V,e0,K,_,_⟩:=A.qI MM (i:=0) (f:=0) X dB bO X;have P:wr.cell? (Z b 2)=some (Y s.g9):=A.hg.f_ 2;have hR:=cj.gt M I;obtain⟨cO,ez⟩:=nm_ (s.fs.getD 0 0);rw[<-ez]at K;obtain⟨st,de⟩:=nm_ s.g9;rw[<-de]at P
     have cE:Is wr (some (Z G 0)) s.l:=by rw[<-aX];exact Sl.iQ A.hl
     have b0:s.l.length<=L:=by
      have h:=C.symm.trans (A.hg.f_ 1);have z:(Value.slice (j_ G) y L)=.slice s.L s.l.length s.lc:=Option.some.inj h;injection z with _ _ h3;rw[h3];exact jk A.hl
     have dZ:=O ez;have bN:=O de;have fA:=O bq;have ap:=O MM;have dt:=O bo;have cS:=O ca;have cL:=O cE;have e6:=O b0;have dV:=O M;have hd:decide ((2048:Int)<y)=false:=p_;clear v eS bo ca bq de bf dB bO cB MM aX cK MO ao e0 ez cE b0 M
     go_upto_region 23 with fail
     obtain⟨r,B⟩:=nm_ wr.drew
     have Q:J [] wr r:=by rw[B];exact(H [] _).drew
     have aL:=hR.g_ Q
     have C:r.cell? (Z b 1)=some (.slice (j_ G) y L):=by rw[B];exact C
     have P:r.cell? (Z b 2)=some (Y st):=by rw[B];exact P
     have V:r.cell? (Z b 4)=some (.slice (j_ ax) 3 fc):=by rw[B];exact V
     have K:r.cell? (Z ax 0)=some (Y cO):=by rw[B];exact K
     refine hI (λw'=>w'.cell? (Z b 1)=some (.slice (j_ G) y L)/\w'.cell? (Z b 2)=some (Y st)/\w'.cell? (Z b 4)=some (.slice (j_ ax) 3 fc)/\w'.cell? (Z ax 0)=some (Y cO)) 15 k_ ?_;rw[<-B];clear B;have m:=And.intro C (And.intro P (And.intro V K))
     (repeat refine jW m ?_)
     have r0:r.cell? (Z o 0)=some (n_):=aL.f_ 0;have r1:r.cell? (Z o 1)=some (Y 0):=aL.f_ 1;have r2:r.cell? (Z o 2)=some (Y 0):=aL.f_ 2;have z0:=aL.hm 0;have aR:=aL.hm 1;have aU:=aL.hm 2
     refine hV 15 λt j=>?_
     go_simp;refine j.out _ _ (λh=>U_ h I) ?_;clear j t m
     refine hV 16 λt j=>?_
     go_simp;refine j.out _ _ (λh=>U_ h I) ?_;clear j t;refine hC k_ ?_ _;have dg:=aL.hN 0 (.slice (j_ G) y L);have dh:=dg.hN 1 (Y cO);have aV:=dh.hN 2 (Y st);have bD:=((mW.set (e:=189) aL I 0 (.slice (j_ G) y L)).trans (.set dg I 1 (Y cO))).trans (.set dh I 2 (Y st));have a6:=bD.sl (cL.out.g_ Q);have ce:J [o] r (((r.setCell (Z o 0) (.slice (j_ G) y L)).setCell (Z o 1) (Y cO)).setCell (Z o 2) (Y st)):=(((H [o] r).setCell (.inl s_) _).setCell (.inl s_) _).setCell (.inl s_) _;have bz:=(((Gt.jX (base:=b) (T:=gT) fG).trans dV.out).gr eZ.1).trans Q;have cP:=J.jE bz ce eZ.2;obtain⟨ay,ct⟩:=nm_ (((r.setCell (Z o 0) (.slice (j_ G) y L)).setCell (Z o 1) (Y cO)).setCell (Z o 2) (Y st));rw[<-ct]at aV a6 cP |-;have dW:=O a6;have dU:=O cP;clear ct dg dh bD ce bz a6 cP r0 r1 r2 z0 aR aU C P V K hR aL Q;go_wp2;refine l5 #[.slice (j_ G) y L,Y cO,Y st] (Y 0) aV underlying26 ?_;rw[aI.out];refine⟨some (Z G 0),L,s.l,cO,st,by rw[ap.out],dW.out,?_,e6.out,dU.out⟩;rw[cS.out,bN.out,fA.out,dZ.out,dt.out]
     have di:∀k,k<3->2<=a.fs.getD k 0/\a.fs.getD k 0<=64:=λk hk=>u.out.f64 _ (by
      have E:k<a.fs.length:=by rw[u.out.fl];exact hk
      have:a.fs.getD k 0=a.fs[k]:=by simp[E]
      rw[this]
      exact M_ E)
     have f9:=di 0 X;refine ye cz.out fv.out fp.out (by have:=dY.out;have:=bY.out;omega) (λk D z=>?_) (λk D z=>di k X) X X
     have E:k<a.es.length:=by rw[u.out.el];omega
     have:a.es.getD k 0=a.es[k]:=by simp[E]
     rw[this];exact(u.out.e21 _ (M_ E)).2.2
def nW.heads{L:List ByteArray}:∀{a:List ST} {r:List ST},nW L (a++r)->(∀s∈a,s.hS=1)->∀x∈a.map ST.name,x∈L
 |[],_,_,_=>by simp
 |s::a,r,h,c=>by
  cases h with
  |cons t l h g i e=>
   intro x b
   rcases N_.1 (by simpa using b:x∈s.name::a.map ST.name)with rfl|b
   .exact h (by rw[c s s_];rfl)
   .exact nW.heads e (λu f=>c u (by simp[f])) x b
def vV:hM.Nodup:=by decide
def y6:ia.Nodup:=by decide
def x5(s:ByteArray)(f:FT)(l:List FT)(k:Int):ul s (f::l) k=if(f.name.data.toList==s.data.toList)=true then k else ul s l (k+1):=by
 show(if(f.name.toList==s.toList)=true then k else ul s l (k+1))=_
 rw[Hh,Hh]
def FT.In.rd{c b:Nat}{f:FT}(h:f.In c b w):CV (λ_=>True) w f:=⟨h.hp,h.s4,h.hb,λe a=>(h.hs e a).imp λ_ _=>trivial⟩
def CG.made{y x:Nat}{PA:OA}{p b n:FT}(C:Sl w 213 3 PA 3 ([p,b,n].flatMap FT.E))(h1:p.In y x w)(h2:b.In y x w)(h3:n.In y x w)(k1:p.name=wA/\p.ps=[]/\BZ p.bs)(U:b.name=qt/\b.ps=[pw,Cv]/\Fq b.bs)(k3:n.name=pV/\n.ps=[m9]/\Fp n.bs):∃Ns,CG (λ_=>True) w PA [p,b,n] Ns:=by
 obtain⟨z,q,MS,G,B,m3,m4,T,A,db,di⟩:=k1;obtain⟨u,i,⟨b6,d8,MT,V,Y,Z⟩,O,E,f7,f8⟩:=U;obtain⟨s,m,cr,ad,MR,J,ae,af,d,R,ag,W,ah,ai⟩:=k3
 have v:∀j,ul j [p,b,n] 0=if(wA.data.toList==j.data.toList)=true then 0 else if(qt.data.toList==j.data.toList)=true then 1 else if(pV.data.toList==j.data.toList)=true then 2 else -1:=by
  intro j;rw[x5,x5,x5,z,u,s]
  rfl
 have Q:ul wA [p,b,n] 0=0:=by rw[v];rfl
 have L:ul qt [p,b,n] 0=1:=by rw[v];rfl
 have M:ul pV [p,b,n] 0=2:=by rw[v];rfl
 have N:∀e∈hM,e∈ia:=λe g=>FQ _ g
 have q1:l3 ia 5 B p.bs:=A.sub N;have K:l3 hM 5 J n.bs:=W.mono X
 have r:∀{P:FT->Prop},P p->P b->P n->∀D∈[p,b,n],P D:=by
  intro P aj al am D F;simp only[N_,List.not_mem_nil,or_false]at F
  rcases F with rfl|rfl|rfl<;>assumption
 have t:∀k,k<3->k=0∨k=1∨k=2:=λk hk=>by omega
 refine⟨[B,O,J],⟨C,rfl,r h1.rd h2.rd h3.rd,r ⟨by rw[z];exact yL.1,by rw[q];simp,by rw[q];simp⟩ ⟨by rw[u];exact yL.2.1,by rw[i];simp[ia,hM],by rw[i];simp⟩ ⟨by rw[s];exact yL.2.2,by rw[m];simp[ia,hM],by rw[m];simp⟩,rfl,λk a o=>?_,p_⟩,
  ⟨C,rfl,L,M,λ_=>by show b.ps.length=2;rw[i];rfl,λ_=>by show n.ps.length=1;rw[m];rfl⟩,λk a=>?_,λ_=>q,r (by rw[q];exact HO) (by rw[i];decide) (by rw[m];decide),λk a o=>?_⟩
 .rcases t k a with rfl|rfl|rfl
  .exact q1
  .exact E
  .exact K.sub N
 .rcases t k a with rfl|rfl|rfl
  .show ul p.name _ 0=0
   rw[z];exact Q
  .show ul b.name _ 0=1
   rw[u];exact L
  .show ul n.name _ 0=2
   rw[s];exact M
 .rcases t k a with rfl|rfl|rfl
  .refine⟨hM,I,I,vV,A,λh c f=>?_⟩;have c:nW h p.bs:=c;rw[m3]at c;rw[<-m4];exact c.heads T
  .refine⟨ia,I,I,y6,E,λh c f=>?_⟩;have c:nW h b.bs:=c;have f:∀e∈b.ps,e∈h:=f;rw[V]at c;have H:=c.heads Z;rw[Y]at H;rw[i]at f;intro e g
   have S:∀e∈ia,e∈[wB,vv,vM,m9,oT,xX,xW]∨e∈[pw,Cv]:=by
    intro e g;simp only[ia,hM,N_,List.not_mem_nil,or_false]at g |-
    rcases g with a|a|a|a|a|a|a|a|a<;>simp[a]
   rcases S e g with a|a
   .exact H e a
   .exact f e a
  .refine⟨hM,I,I,vV,K,λh c f=>?_⟩;have c:nW h n.bs:=c;rw[ae]at c;rw[<-R]
   cases c with
   |cons an l a S hl H=>exact H.heads ag
def C9(B g:Nat)(w:World)(e:Ending)(w':World):Prop:=∃(A:OA) (c:Nat) (l:List In) (hq g9:Int),e=.returned (.agg #[.slice A l.length c,Y hq,Y g9])/\Is w' A l/\hY l hq g9=true/\l.length<=c/\iL w' B g/\J [g] w w'
def BM(B g:Nat)(D:iL w B g)(hB:B<=w.heap.size):
 Calls prog 44 #[q_ g] w (C9 B g w):=by
 refine ig λad S=>?_
 obtain⟨u,o,be,eW,q,C⟩:=box1 w 26 #[n_,Y 0,Y 0];have N:=D.g_ q;have a2:=D.x0;have cx:B<=u.heap.size:=G_ hB q.size
 go_enter func44,ntmps44
 go_wp2_with fail
 go_at_call 89
 refine(Bb B g u N cx).mono ?_;rintro e E⟨ae,ai,aj,n,rfl,F,h1,h2,h3,k1,bm,k3,cI,t⟩;obtain⟨Ns,K⟩:=CG.made F h1 h2 h3 k1 bm k3
 go_wp2_with fail
 go_at_call 88
 refine(zF 3 Ns E K).mono ?_;rintro e ah⟨b,f,l,hq,g9,rfl,Q,hv,b0,j⟩;have T:=O hv;have V:=O b0;have L:=O Q;obtain⟨h,s⟩:=mn_ l.length;rw[s];have ap:=O s;obtain⟨a,p,cD,bq,i,m⟩:=box1 ah 26 #[.slice b h f,Y hq,Y g9];have cr:=(cI.g_ j).g_ i;have au:o≠g:=X;have dV:=C.lt;have b9:Bk E o 26 #[n_,Y 0,Y 0]:=C.gr t p_;have c:=(b9.g_ j).g_ i
 have r:∀{v x:World},J [] v x->J [g] v x:=λak=>(H [g] _).hA ak s_
 have bo:J [g] w a:=(((r q).trans t).trans (r j)).trans (r i);have W:Is a b l:=L.out.g_ (i);have al:w.heap.size<=o:=X;have z:=c.hN 0 (.slice b h f);have A:=z.hN 1 (Y hq);have U:=A.hN 2 (Y g9);have bD:=((mW.set (e:=189) c I 0 (.slice b h f)).trans (.set z I 1 (Y hq))).trans (.set A I 2 (Y g9));have R:=bD.sl W;have y:J [o] a (((a.setCell (Z o 0) (.slice b h f)).setCell (Z o 1) (Y hq)).setCell (Z o 2) (Y g9)):=(((H [o] a).setCell (.inl s_) _).setCell (.inl s_) _).setCell (.inl s_) _;have cF:=cr.ib y p_;have M:=bo.hA y p_;have d:=O U;have dW:=O R;have am:=O cF;have dU:=O M;have cG:a.cell? (Z p 0)=some (.slice b h f):=m.f_ 0;have cH:a.cell? (Z p 1)=some (Y hq):=m.f_ 1;have eM:a.cell? (Z p 2)=some (Y g9):=m.f_ 2;have r0:a.cell? (Z o 0)=some (n_):=c.f_ 0;have r1:a.cell? (Z o 1)=some (Y 0):=c.f_ 1;have r2:a.cell? (Z o 2)=some (Y 0):=c.f_ 2;have z0:=c.hm 0;have aR:=c.hm 1;have aU:=c.hm 2;go_wp2;refine rr_ #[.slice b h f,Y hq,Y g9] d.out underlying26 ?_;rw[S.out];exact⟨b,f,l,hq,g9,by rw[ap.out],dW.out,T.out,V.out,am.out,dU.out⟩
section
variable(l:List In)(hq g9:Int)(d kH:List Int)
def lN(s:qs)(run:Int):i6:=zl l hq g9 d s.h (jf l hq g9 s.hG run true).1
inductive um:Nat->Int->qs->Prop
 |hG:um 0 0 (s7 true hq)
 |ask {k:Nat} {run:Int} {s:qs} (h:um k run s) (he:s.jt=false) (h0:(ng l hq g9 kH s).2=0):um (k+1) run (ng l hq g9 kH s).1
 |commit {k:Nat} {run:Int} {s:qs} (h:um k run s) (he:s.jt=false) (h0:(ng l hq g9 kH s).2≠0):um (k+1) (run+1) (kF true s (lN l hq g9 d s run)).1
inductive vN(h:List Ob)(run:Int):Nat->List i6->Prop
 |hG (ts:List i6) (hl:ts.length<=16) (hb:∀(k:Nat) (hk:k<ts.length),∃(x:Int) (h8:Bool),Dv l hq g9 x/\ts[k]=(jf l hq g9 x (run+k) h8).1):vN h run 0 ts
 |step {n:Nat} {ts:List i6} (k:Nat) (hk:k<ts.length) (h1:vN h run n ts) (h2:ts[k].hT=0):vN h run (n+1) (ts.set k (ja l hq g9 d ts[k] (nk h ts k)))
def vN.len{h:List Ob}{run:Int}{ts:List i6}(a:vN l hq g9 d h run n ts):ts.length<=16:=by
 induction a with
 |hG ts b _=>exact b
 |step k c _ _ b=>simpa using b
end
structure Md where
 A:Option Addr
 c:Nat
 l:List In
 hq:Int
 g9:Int
 aA:Option Addr
 ac:Nat
 kH:List Int
 dA:Option Addr
 dc:Nat
 d:List Int
 s:Cm
 tA:Option Addr
 tc:Nat
 ts:List Tk
 run:Int
def Md.g8(m:Md):Array Value:=#[.slice m.A m.l.length m.c,Y m.hq,Y m.g9,.slice m.aA m.kH.length m.ac,.slice m.dA m.d.length m.dc,
 .slice m.s.h.A m.s.h.l.length m.s.h.c,Y m.s.hG,Y m.s.jp,.slice m.s.hW.A m.s.hW.l.length m.s.hW.c,.bool m.s.jt,.bool m.s.hO,.bool m.s.v.r,Y m.s.v.n,Y m.s.iN,Y m.s.hw,.slice m.tA m.ts.length m.tc,Y m.run]
structure uj(w:World)(m:Md):Prop where
 l:Is w m.A m.l
 kH:Ns w 2 m.aA m.kH
 al:m.kH.length<=5
 d:Ns w 3 m.dA m.d
 dl:m.d.length<=m.dc
 s:l9 w m.s
 ts:yn w m.tA m.ts
def uj.g_{w':World}{b:Md}(h:uj w b)(a:J [] w w'):uj w' b:=⟨Sl.g_ h.l a,Sl.g_ h.kH a,h.al,Sl.g_ h.d a,h.dl,h.s.g_ a,h.ts.g_ a⟩
structure yo(m:Md):Prop where
 val:hY m.l m.hq m.g9=true
 dv:m.d.Sublist (kM m.l m.hq m.g9)
 cm:∃k run,k<=8/\um m.l m.hq m.g9 m.d m.kH k run m.s.p/\((m.s.jt=true/\m.ts=[]/\m.run=run)∨(m.s.jt=false/\m.run=run+m.ts.length/\∃n,n<=39/\vN m.l m.hq m.g9 m.d m.s.p.h run n (m.ts.map Tk.p)))
 tl:m.ts.length<=m.tc
def BW(B g:Nat)(w:World)(e:Ending)(w':World):Prop:=∃m:Md,e=.returned (.agg m.g8)/\uj w' m/\yo m/\iL w' B g/\J [g] w w'
structure TF(t:i6):Prop where
 sm:t.sm 500000
 s0:0<=t.hw
 s1:t.hw<=3000
 n0: -1<=t.next
 n1:t.next<=3000
def v8(c:List In)(hq g9:Int)(d:List Int)(t:i6)(view:List Ob):(ja c hq g9 d t view).hG=t.hG:=by
 unfold ja;simp only;split
 .rfl
 split
 .rfl
 split
 .rfl
 .rename_i b a
  have:=(kz a).hG
  split
  .exact this
  split
  .exact this
  .exact this
def tD(c:List In)(hq g9:Int)(d:List Int)(t:i6)(view:List Ob):(ja c hq g9 d t view).next=t.next∨(ja c hq g9 d t view).next=t.pc+1∨(ja c hq g9 d t view).next=(ja c hq g9 d t view).pc:=by
 unfold ja;simp only;split
 .exact .inl rfl
 split
 .exact .inr (.inl rfl)
 split
 .exact .inl rfl
 .rename_i b a
  have:=(kz a).next
  split
  .exact .inl this
  split
  .exact .inr (.inr rfl)
  .exact .inl this
def qV{l:List In}{hq g9:Int}{d:List Int}{t:i6}(j:hY l hq g9=true)(v:l.length<=2048)(h:Way l t)(b:TF t)(i:t.hT=0):
 TF (ja l hq g9 d t view)/\((ja l hq g9 d t view).hT=0->Way l (ja l hq g9 d t view)):=by
 obtain⟨e,G,p,f,q,c⟩:=rN (d:=d) (view:=view) j h i;have r:=h.s1;have s:=h.lo;have u:=h.hi;have m:=h.s0;refine⟨⟨e.mono X,G,X,?_,?_⟩,λg=>(c g).1⟩
 .rcases tD l hq g9 d t view with a|a|a
  .rw[a];exact b.n0
  .rw[a];omega
  .rw[a];exact f
 .rcases tD l hq g9 d t view with a|a|a
  .rw[a];exact b.n1
  .rw[a];omega
  .rw[a];omega
def vo{l:List In}{hq g9:Int}{d:List Int}{view:List Ob}(e:hY l hq g9=true)(b:l.length<=2048):∀(n:Nat) (t:i6),(t.hT=0->Way l t)->TF t->
 TF (na l hq g9 d view n t)/\(na l hq g9 d view n t).run=t.run/\(na l hq g9 d view n t).hG=t.hG
 |0,t,_,a=>⟨a,rfl,rfl⟩
 |n+1,t,f,a=>by
  unfold na;split
  .rename_i c;obtain⟨i,j⟩:=qV (d:=d) (view:=view) e b (f c) a c;obtain⟨m,h,g⟩:=vo (d:=d) (view:=view) e b n _ j i;exact⟨m,h.trans (lj l hq g9 d t view),g.trans (v8 l hq g9 d t view)⟩
  .exact⟨a,rfl,rfl⟩
def wY{l:List In}{hq g9 hG run:Int}{h8:Bool}(f:l.length<=2048)(h0: -1<=hG)(e:hG<=2049):
 TF (jf l hq g9 hG run h8).1/\((jf l hq g9 hG run h8).2=0->(jf l hq g9 hG run h8).1.run=run/\(jf l hq g9 hG run h8).1.hG=hG):=by
 have c:∀n,Tk.zero.p.sm n:=λn=>⟨P_ _,P_ _,P_ _,P_ _,P_ _,P_ _⟩
 have b:TF Tk.zero.p:=⟨c _,I,I,I,I⟩;unfold jf;split
 .exact⟨b,λa=>by simp at a⟩
 split
 .exact⟨b,λa=>by simp at a⟩
 split
 .exact⟨⟨⟨P_ _,P_ _,P_ _,P_ _,P_ _,P_ _⟩,show(0:Int)<=0 by decide,show(0:Int)<=3000 by decide,by show -1<=hG+1;omega,by show hG+1<=3000;omega⟩,λ_=>⟨rfl,rfl⟩⟩
 .exact⟨⟨⟨P_ _,P_ _,P_ _,P_ _,P_ _,P_ _⟩,show(0:Int)<=0 by decide,show(0:Int)<=3000 by decide,show(-1:Int)<=0 by decide,show(0:Int)<=3000 by decide⟩,λ_=>⟨rfl,rfl⟩⟩
def vb{l:List In}{hq g9 hG run:Int}{h8:Bool}(h0: -1<=hG)(f:hG<=l.length):Way l (jf l hq g9 hG run h8).1:=by
 have b:∀a:i6,a.sm 0->a.hw=0-> -1<=a.pc->a.pc<=l.length->Way l a:=λa s t g i=>⟨g,i,X,ov (ra (l:=l) g),s.mono (P_ _)⟩
 have e:∀a:i6,a.gs=[]->a.rs=[]->a.ws=[]->a.nw=[]->a.ds=[]->a.hW=[]->a.sm 0:=λa h j m d p r=>⟨by simp[h],by simp[j],by simp[m],by simp[d],by simp[p],by simp[r]⟩
 have c:(-1:Int)<=0/\(0:Int)<=l.length:=X;unfold jf;split
 .exact b _ (e _ rfl rfl rfl rfl rfl rfl) rfl c.1 c.2
 split
 .exact b _ (e _ rfl rfl rfl rfl rfl rfl) rfl c.1 c.2
 split
 .exact b _ (e _ rfl rfl rfl rfl rfl rfl) rfl h0 f
 .exact b _ (e _ rfl rfl rfl rfl rfl rfl) rfl h0 f
def vG{l:List In}{pc:Int}(h:kN l pc=true): -1<=pc/\pc<=l.length:=by
 by_cases a:pc<0∨(l.length:Int)<=pc
 .have e:=j2 a;unfold kN at h;exact MJ
 .omega
def nS{l:List In}{hq g9 hG run:Int}{h8:Bool}:Way l (jf l hq g9 hG run h8).1:=by
 by_cases b:kN l hG=true
 .exact vb (vG b).1 (vG b).2
 .have b:kN l hG=false:=zu b
  have a:(jf l hq g9 hG run h8).1=(jf l hq g9 0 run h8).1∨(jf l hq g9 hG run h8).1=Tk.zero.p:=by
   unfold jf;rw[O_ b];split<;>exact .inr rfl
  rcases a with a|a
  .rw[a];exact vb X X
  .rw[a];exact⟨I,by show(0:Int)<=l.length;omega,I,by show(0:Int)+oY l 0<=_;have:=ra (l:=l) (pc:=0) X;omega,⟨P_ _,P_ _,P_ _,P_ _,P_ _,P_ _⟩⟩
def qp{l:List In}{hq g9 hG run:Int}{h8:Bool}(c:l.length<=2048):TF (jf l hq g9 hG run h8).1:=by
 by_cases a:kN l hG=true
 .have b:=vG a;exact(wY c b.1 X).1
 .have a:kN l hG=false:=zu a
  have b:(jf l hq g9 hG run h8).1=Tk.zero.p:=by
   unfold jf;rw[O_ a];split<;>rfl
  rw[b];exact⟨⟨P_ _,P_ _,P_ _,P_ _,P_ _,P_ _⟩,I,I,I,I⟩
def rY{l:List In}{hq g9:Int}{d:List Int}(b:hY l hq g9=true)(a:l.length<=2048)(s:qs)(run:Int):TF (lN l hq g9 d s run):=
 (vo b a _ _ (λ_=>nS) (qp a)).1
def vN.tf{l:List In}{hq g9:Int}{d:List Int}{h:List Ob}{run:Int}{ts:List i6}(m:hY l hq g9=true)(f:l.length<=2048)(g:vN l hq g9 d h run n ts):∀t∈ts,TF t/\(t.hT=0->Way l t):=by
 induction g with
 |hG ts _ e=>
  intro t a;obtain⟨k,b,rfl⟩:=Hg a;obtain⟨j,i,_,c⟩:=e k b;rw[c];exact⟨qp f,λ_=>nS⟩
 |step k b p e c=>
  intro t a
  rcases FW a with a|rfl
  .exact c t a
  .obtain⟨i,j⟩:=c _ (M_ b);exact qV m f (j e) i e
structure CB(k:Nat)(s:qs):Prop where
 h:(s.h.length:Int)<=2+k*500000
 hW:(s.hW.length:Int)<=k*500000
 st0: -1<=s.hG
 st1:s.hG<=3000
 t0:0<=s.iN
 t1:s.iN<=k
 p0:0<=s.hw
 p1:s.hw<=k*3001
 a0:0<=s.jp
 a1:s.jp<=k
def CB.zero(k:Nat):CB k Cm.zero.p:=⟨by show(0:Int)<=2+k*500000;omega,by show(0:Int)<=k*500000;omega,by decide,by decide,by decide,by show(0:Int)<=k;omega,by decide,by show(0:Int)<=k*3001;omega,by decide,by show(0:Int)<=k;omega⟩
def CB.begin(hq:Int):CB 0 (s7 true hq):=⟨show(2:Int)<=2 by decide,show(0:Int)<=0 by decide,show(-1:Int)<=0 by decide,show(0:Int)<=3000 by decide,show(0:Int)<=0 by decide,show(0:Int)<=0 by decide,show(0:Int)<=0 by decide,show(0:Int)<=0 by decide,show(0:Int)<=0 by decide,show(0:Int)<=0 by decide⟩
def CB.ask{l:List In}{hq g9:Int}{kH:List Int}{s:qs}(p:hY l hq g9=true)(h:CB k s):CB (k+1) (ng l hq g9 kH s).1:=by
 have F:=ky p;unfold ng;split
 .exact CB.zero _
 split
 .exact CB.zero _
 .rename_i i
  have e:¬(s.jt=true∨jm l hq g9 s.hG=false∨(j8 l hq g9 s.hG i5 s.h 0).hS=4):=by unfold l0 at i;simpa using i
  have c:jm l hq g9 s.hG=true:=by
   cases b:jm l hq g9 s.hG with
   |true=>rfl
   |false=>exact U_ (.inr (.inl b)) e
  have m: -1<=s.hG/\s.hG<l.length:=by
   by_cases t:s.hG<0∨(l.length:Int)<=s.hG
   .unfold jm at c;rw[j2 t]at c;simp at c
   .omega
  have j:=oH (hq:=hq) (g9:=g9) i5 s.h 0 p m.1 m.2;have g:=sZ l hq g9 s.hG i5 s.h 0;obtain⟨a,b⟩:=nm_ (j8 l hq g9 s.hG i5 s.h 0);rw[<-b]at e j g |-;clear b
  have r:¬a.hS=4:=λv=>e (.inr (.inr v))
  obtain⟨_,_,u,I,_⟩:=j.resolve_left r;have A:=g.nw;have B:=z_ s.h a;obtain⟨C,D,x,y,d,z,J,E,q,H⟩:=h;have f:(s.hW.length:Int)<=((k+1:Nat):Int)*500000:=X
  show CB (k+1) (lB l kH s a)
  unfold lB;split
  .refine⟨?_,?_,?_,?_,d,?_,?_,?_,?_,?_⟩
   .show((lZ l s.h s.hG _).length:Int)<=2+((k+1:Nat):Int)*500000
    rw[yk];omega
   .show((s.hW++[_]).length:Int)<=((k+1:Nat):Int)*500000
    rw[K_,HC];omega
   .show -1<=s.hG+1
    omega
   .show s.hG+1<=3000
    omega
   .show s.iN<=((k+1:Nat):Int)
    omega
   .show 0<=s.hw+1
    omega
   .exact MB
   .show 0<=s.jp+1
    omega
   .show s.jp+1<=((k+1:Nat):Int)
    omega
  split
  .refine⟨?_,?_,x,y,d,?_,?_,?_,q,?_⟩
   .show((lb s.h a).length:Int)<=2+((k+1:Nat):Int)*500000
    omega
   .exact f
   .show s.iN<=((k+1:Nat):Int)
    omega
   .show 0<=s.hw+1
    omega
   .exact MB
   .exact MF
  .refine⟨?_,?_,u,?_,d,?_,?_,?_,q,?_⟩
   .show((lb s.h a).length:Int)<=2+((k+1:Nat):Int)*500000
    omega
   .exact f
   .show a.pc<=3000
    omega
   .show s.iN<=((k+1:Nat):Int)
    omega
   .show 0<=s.hw+1
    omega
   .exact MB
   .exact MF
def CB.commit{s:qs}{t:i6}(h:CB k s)(a:TF t)(ok:Bool):CB (k+1) (kF ok s t).1:=by
 unfold kF;split
 .exact CB.zero _
 split
 .exact CB.zero _
 split
 .exact CB.zero _
 obtain⟨j,m,f,g,d,i,y,q,b,x⟩:=h;have o:=yD s.h t;have r:=a.sm.nw;have u:=a.sm.hW;have v:=a.s0;have p:=a.s1;have e:=a.n0;have c:=a.n1
 show CB (k+1) (ko s t)
 unfold ko;split
 .refine⟨?_,?_,e,c,?_,?_,?_,?_,b,?_⟩
  .show((la s.h t).length:Int)<=2+((k+1:Nat):Int)*500000
   omega
  .exact Ml
  .show 0<=s.iN+1
   omega
  .show s.iN+1<=((k+1:Nat):Int)
   omega
  .show 0<=s.hw+t.hw
   omega
  .show s.hw+t.hw<=((k+1:Nat):Int)*3001
   omega
  .exact MF
 .refine⟨?_,?_,f,g,?_,?_,?_,?_,b,?_⟩
  .show((la s.h t).length:Int)<=2+((k+1:Nat):Int)*500000
   omega
  .exact Ml
  .show 0<=s.iN+1
   omega
  .show s.iN+1<=((k+1:Nat):Int)
   omega
  .show 0<=s.hw+t.hw
   omega
  .show s.hw+t.hw<=((k+1:Nat):Int)*3001
   omega
  .exact MF
def um.cb{l:List In}{hq g9:Int}{d kH:List Int}{run:Int}{s:qs}(b:hY l hq g9=true)(h:um l hq g9 d kH k run s):CB k s/\0<=run/\run<=k:=by
 have c:=ky b
 induction h with
 |hG=>exact⟨CB.begin hq,I,I⟩
 |ask _ _ _ a=>exact⟨a.1.ask b,a.2.1,ov a.2.2⟩
 |commit _ _ _ a=>exact⟨a.1.commit (rY b c.2.1 _ _) true,ov a.2.1,ov a.2.2⟩
section
def GV(P:Int->Prop)(v:Vl):Prop:=v.r=true->P v.n
def GO(P:Int->Prop)(o:Ob):Prop:=P o.id/\∀v∈o.fs,GV P v
structure XF(P:Int->Prop)(x:XP):Prop where
 zero:P 0
 h:∀o∈x.h,GO P o
 sr:∀i,GV P (x.sr i)
 r:∀i,GV P (x.e.r i)
 rs:∀c∈x.e.rs,(P c.id∨c.id=1)/\GV P c.v
 ws:∀c∈x.e.ws,(P c.id∨c.id=1)/\GV P c.v
 nw:x.e.nw=[]
 v:GV P x.e.v
def XO(P:Int->Prop)(x:XP):Prop:=x.hH=true∨XF P x
variable{P:Int->Prop}
def GV.num(n:Int):GV P ⟨false,n⟩:=λa=>by simp at a
def GV.default:GV P (default:Vl):=GV.num _
def tW{h:List Ob}(c:∀o∈h,GO P o){id f:Int}{v:Vl}(e:h6 h id f=some v):GV P v:=by
 obtain⟨k,g,_,_,_,b,a⟩:=mM e;rw[<-a];exact(c _ (M_ g)).2 _ (M_ b)
def XF.read{x:XP}(b:XF P x)(id f:Int)(hid:P id∨id=1):XO P (hJ x id f).1/\GV P (hJ x id f).2:=by
 unfold hJ;split
 .exact⟨.inl rfl,GV.default⟩
 .rename_i h g;have c:=tW b.h g;split
  .exact⟨.inr b,c⟩
  .refine⟨.inr {b with rs:=λe a=>?_},c⟩
   rcases T_.1 a with a|a
   .exact b.rs e a
   .rw[R_]at a;subst a;exact⟨hid,c⟩
def XF.write{x:XP}(b:XF P x)(id f:Int)(v:Vl)(hid:P id∨id=1)(e:GV P v):XF P (h4 x id f v):=by
 refine{b with ws:=λc a=>?_}
 rcases T_.1 a with a|a
 .exact b.ws c a
 .rw[R_]at a;subst a;exact⟨hid,e⟩
def XF.brk{x:XP}(a:XF P x)(b:Bool):XF P {x with hH:=b}:={a with}
def XF.zg{x:XP}(c:XF P x)(k p s:Int)(t:Bool)(v:Vl)(r:Nat->Vl)(b:GV P v)(a:∀i,GV P (r i)):XF P {x with e:={x.e with hS:=k,pc:=p,kw:=s,hO:=t,v:=v,r:=r}}:={c with r:=a,v:=b}
def XF.root{x:XP}(a:XF P x):XF P (iB x):=a.brk _
def XO.read{x:XP}(a:XO P x)(id f:Int)(hid:x.hH=false->(P id∨id=1)):XO P (hJ x id f).1/\((hJ x id f).1.hH=false->x.hH=false/\GV P (hJ x id f).2):=by
 rcases a with hb|a
 .exact Ku
 .cases hb:x.hH with
  |true=>
   exact Ku
  |false=>
   obtain⟨b,c⟩:=a.read id f (hid hb);exact⟨b,λ_=>⟨rfl,c⟩⟩
def XO.write{x:XP}(b:XO P x)(id f:Int)(v:Vl)(hid:x.hH=false->(P id∨id=1))(c:x.hH=false->GV P v):XO P (h4 x id f v):=by
 rcases b with a|b
 .exact .inl a
 .cases a:x.hH with
  |true=>exact .inl a
  |false=>exact .inr (b.write id f v (hid a) (c a))
def XF.frame{x:XP}(f:XF P x):XO P (hF x).1/\((hF x).1.hH=false->P (hF x).2.1):=by
 unfold hF;simp only;split
 .rename_i b;exact⟨.inl b,λa=>by rw[b]at a;cases a⟩
 .obtain⟨b,c⟩:=XO.read (.inr f.root:XO P (iB x)) 1 0 (λ_=>.inr rfl);refine⟨?_,λa=>?_⟩
  .rcases b with b|b
   .exact .inl (by simp[b])
   .exact .inr (b.brk _)
  .simp only[Bool.or_eq_false_iff]at a
   have e:(hJ (iB x) 1 0).2.r=true:=by have:=a.2.1;simpa using this
   exact(c a.1).2 e
def XO.brk{x:XP}:XO P (kU x):=.inl rfl
def XO.Cx{x:XP}(a:XO P x)(k p s:Int)(t:Bool)(v:Vl)(r:Nat->Vl)(f:XF P x->GV P v)(c:XF P x->∀i,GV P (r i)):XO P {x with e:={x.e with hS:=k,pc:=p,kw:=s,hO:=t,v:=v,r:=r}}:=by
 rcases a with b|a
 .exact .inl b
 .exact .inr (a.zg k p s t v r (f a) (c a))
def GV.i5(i:Nat):GV P (i5 i):=GV.default
def XO.frame{x:XP}(hx:XO P x):XO P (hF x).1/\((hF x).1.hH=false->P (hF x).2.1):=Ki
def XO.throw{x:XP}(hx:XO P x)(v:Vl)(hv:GV P v):XO P (iX x v):=by
 have p:XO P (hF x).1/\((hF x).1.hH=false->P (hF x).2.1):=Ki;unfold iX;simp only;generalize hF x=a at*;obtain⟨f,d⟩:=p;split
 .exact f
 .obtain⟨g,j⟩:=f.read a.2.1 2 (λh=>.inl (d h));generalize hJ a.1 a.2.1 2=c at*;split
  .exact XO.brk
  split
  .have h1:XO P (h4 c.1 a.2.1 2 default):=g.write _ _ _ (λh=>.inl (d (j h).1)) (λ_=>GV.default);have e:XO P (h4 (h4 c.1 a.2.1 2 default) 1 2 v):=LJ;exact e.Cx _ _ _ _ _ _ (λh=>h.v) (λ_=>GV.i5)
  .obtain⟨i,m⟩:=g.read a.2.1 0 (λh=>.inl (d (j h).1));generalize hJ c.1 a.2.1 0=b at*;split
   .exact XO.brk
   split
   .exact i.Cx _ _ _ _ _ _ (λ_=>hv) (λh=>h.sr)
   .have h1:XO P (h4 b.1 1 0 b.2):=by
     rcases i with h|h
     .exact .inl h
     .cases hb:b.1.hH with
      |true=>exact .inl hb
      |false=>exact .inr (h.write _ _ _ (.inr rfl) (m hb).2)
    have e:XO P (h4 (h4 b.1 1 0 b.2) 1 2 v):=LJ;exact e.Cx _ _ _ _ _ _ (λh=>h.v) (λ_=>GV.i5)
def XO.fault{x:XP}(a:XO P x)(n:Int):XO P (ji x n):=a.throw _ (GV.num n)
def XO.reg{x:XP}(b:XO P x)(a:Int)(v:Vl)(f:XF P x->GV P v):XO P (kY x a v):=by
 rcases b with e|b
 .exact .inl e
 .refine .inr {b with r:=λc=>?_}
  show GV P (pJ x.e.r a v c)
  unfold pJ;split
  .exact f b
  .exact b.r c
def XO.go{x:XP}(a:XO P x)(pc:Int):XO P (sD x pc):=by
 rcases a with b|a
 .exact .inl b
 .exact .inr {a with}
def XF.object{x:XP}(hx:XF P x)(v:Vl)(f:Int)(b:GV P v):XO P (ih x v f).1/\P (ih x v f).2.1:=by
 unfold ih;split
 .exact Mz
 split
 .exact Mz
 split
 .exact⟨XO.brk,hx.zero⟩
 split
 .exact Mz
 .rename_i a _ _ _ _ _;exact⟨.inr hx,b (zu a)⟩
def XO.variable{x:XP}(e:XO P x)(n:Int):XO P (ht x n).1/\((ht x n).1.hH=false->(ht x n).2.2.2=true->P (ht x n).2.1):=by
 obtain⟨b,c⟩:=e.frame;unfold ht;simp only;generalize hF x=f at*;split
 .exact⟨b,λ_ a=>by cases a⟩
 split
 .exact⟨b.fault _,λ_ a=>by cases a⟩
 .exact⟨b,λa _=>c a⟩
def rL{op:Int}{a b:Vl}:GV P (iz op a b).1:=Kj
def XF.h8{x y:XP}(b:XF P x)(i:In)(h:jb x i=some y):XO P y:=by
 have a:XO P x:=.inr b;unfold jb at h
 refine h7 (R:=XO P) h (λ_=>a) λ_ h=>?_
 refine h7 (R:=XO P) h (λ_=>a.reg _ _ λ_=>GV.num _) λ_ h=>?_
 refine h7 (R:=XO P) h (λ_=>a.reg _ _ λ_ _=>b.zero) λ_ h=>?_
 refine h7 (R:=XO P) h (λ_=>a.reg _ _ λ_=>b.r _) λ_ h=>?_
 refine h7 (R:=XO P) h (λ_=>?_) λ_ h=>?_
 .split
  .exact a.fault _
  .exact a.reg _ _ λ_=>rL
 refine h7 (R:=XO P) h (λ_=>a.go _) λ_ h=>?_
 refine h7 (R:=XO P) h (λ_=>?_) λ_ h=>?_
 .split
  .exact a
  .exact a.go _
 refine h7 (R:=XO P) h (λ_=>.inr {b with r:=GV.i5}) λ_ h=>?_
 refine h7 (R:=XO P) h (λ_=>a.throw _ (b.r _)) λ_ h=>?_
 refine h7 (R:=XO P) h (λ_=>?_) λ_ h=>?_
 .split
  .exact a.fault _
  .exact .inr {b with}
 cases h
def XF.hq{x y:XP}(A:XF P x)(i:In)(h:ki x i=some y):XO P y:=by
 have E:XO P x:=.inr A;have D:∀k,GV P (x.sr k):=A.sr;unfold ki at h
 by_cases g:i.op≠8/\i.op≠9/\i.op≠10/\i.op≠20
 .rw[O_ g]at h
  cases h
 rw[I_ g]at h;obtain⟨p,B⟩:=XO.variable E i.n;dsimp only at h;generalize ht x i.n=a at*
 by_cases b:a.2.2.2=false
 .rw[O_ b]at h;injection h with h;subst h;exact p
 rw[I_ b]at h
 have m:a.1.hH=false->P a.2.1:=λh=>B h (zu b)
 refine h7 (R:=XO P) h (λ_=>p.write _ _ _ (λh=>.inl (m h)) (λ_=>D _)) λ_ h=>?_
 obtain⟨f,t⟩:=p.read a.2.1 a.2.2.1 (λh=>.inl (m h));generalize hJ a.1 a.2.1 a.2.2.1=c at*
 have u:c.1.hH=false->GV P c.2:=λh=>(t h).2
 have d:c.1.hH=false->P a.2.1:=λh=>m (t h).1
 have s:∀{j:XP},(c.1.hH=true->j.hH=true)->(c.1.hH=false->XF P c.1->XO P j)->XO P j:=by
  intro j g C
  cases b:c.1.hH with
  |true=>exact .inl (g b)
  |false=>exact C b (f.resolve_left (by rw[b];simp))
 refine h7 (R:=XO P) h (λ_=>s (λh=>h) (λh e=>(XO.reg (.inr e) _ _ λ_=>u h))) λ_ h=>?_
 by_cases z:i.op=10
 .rw[O_ z]at h
  refine h7 (R:=XO P) h (λ_=>f.fault _) λ_ h=>?_
  injection h with h;subst h;have F:=f.write a.2.1 a.2.2.1 (iz i.b c.2 (x.sr i.a.toNat)).1 (λh=>.inl (d h)) (λ_=>rL)
  rcases F with b|e
  .exact .inl b
  .exact .inr {e with}
 rw[I_ z]at h
 refine h7 (R:=XO P) h (λ_=>f.fault _) λ_ h=>?_
 injection h with h;subst h;exact s (λh=>h) (λh e=>.inr {e with r:=e.sr,v:=u h})
structure EF(P:Int->Prop)(e:qr):Prop where
 r:∀i,GV P (e.r i)
 rs:∀c∈e.rs,(P c.id∨c.id=1)/\GV P c.v
 ws:∀c∈e.ws,(P c.id∨c.id=1)/\GV P c.v
 nw:∀o∈e.nw,GO P o
 v:GV P e.v
def EN(P:Int->Prop)(nx:Int)(e:qr):Prop:=(EF P e/\e.nw=[])∨(EF (λn=>P n∨n=nx) e/\∃fs,e.nw=[⟨nx,fs⟩])
def XR(P:Int->Prop)(nx:Int)(y:XP):Prop:=y.hH=true∨EN P nx y.e
def GV.mono{P Q:Int->Prop}(h:∀n,P n->Q n){v:Vl}(b:GV P v):GV Q v:=λa=>h _ (b a)
def GO.mono{P Q:Int->Prop}(h:∀n,P n->Q n)(a:GO P o):GO Q o:=⟨h _ a.1,λc b=>(a.2 c b).mono h⟩
def EF.mono{P Q:Int->Prop}(h:∀n,P n->Q n){e:qr}(a:EF P e):EF Q e:=
 ⟨λg=>(a.r g).mono h,λb c=>⟨(a.rs b c).1.imp_left (h _),(a.rs b c).2.mono h⟩,λb c=>⟨(a.ws b c).1.imp_left (h _),(a.ws b c).2.mono h⟩,λo f=>(a.nw o f).mono h,a.v.mono h⟩
def EN.all{nx:Int}{e:qr}(h:EN P nx e)(a:P nx):EF P e:=by
 rcases h with h|h
 .exact h.1
 .exact h.1.mono λn b=>b.elim id (λe=>e▸a)
def XF.en{x:XP}(a:XF P x)(nx:Int):EN P nx x.e:=.inl ⟨⟨a.r,a.rs,a.ws,λo b=>(by rw[a.nw]at b;cases b),a.v⟩,a.nw⟩
def XO.xr{x:XP}(b:XO P x)(nx:Int):XR P nx x:=b.elim .inl λa=>.inr (a.en nx)
def Am(x:XP)(id f:Int):(hJ x id f).1.nx=x.nx:=by
 unfold hJ;split
 .rfl
 .split<;>rfl
def uC(x:XP):(hF x).1.nx=x.nx:=by
 unfold hF;simp only;split
 .rfl
 .show(hJ (iB x) 1 0).1.nx=_
  rw[Am]
  rfl
def XF.rest{x:XP}(e:XF P x)(i:In):XR P x.nx (jH x i):=by
 have u:XO P x:=.inr e;have t:∀k,GV P (x.sr k):=e.sr
 have j:∀n,P n->(P n∨n=x.nx):=λn h=>.inl h
 unfold jH;dsimp only
 by_cases E:i.op=5
 .rw[O_ E];refine XO.xr ?_ _;obtain⟨m,y⟩:=e.object (x.sr i.b.toNat) i.n (t _);generalize ih x (x.sr i.b.toNat) i.n=a at*
  by_cases v:a.2.2=true
  .rw[O_ v];obtain⟨aZ,bg⟩:=m.read a.2.1 i.n (λ_=>.inl y);generalize hJ a.1 a.2.1 i.n=z at*;exact LC
  .rw[I_ v];exact m
 rw[I_ E]
 by_cases D:i.op=6
 .rw[O_ D];refine XO.xr ?_ _;obtain⟨m,y⟩:=e.object (x.sr i.b.toNat) i.n (t _);generalize ih x (x.sr i.b.toNat) i.n=a at*
  by_cases v:a.2.2=true
  .rw[O_ v];exact m.write _ _ _ (λ_=>.inl y) (λ_=>t _)
  .rw[I_ v];exact m
 rw[I_ D]
 by_cases H:i.op=7
 .rw[O_ H];refine .inr (.inr ⟨⟨λs=>?_,λf b=>⟨(e.rs f b).1.imp_left .inl,(e.rs f b).2.mono j⟩,λf b=>⟨(e.ws f b).1.imp_left .inl,(e.ws f b).2.mono j⟩,λo u=>?_,e.v.mono j⟩,_,rfl⟩)
  .show GV _ (pJ x.e.r i.a ⟨true,x.nx⟩ s)
   unfold pJ;split
   .exact λ_=>.inr rfl
   .exact(e.r s).mono j
  .have g:o=⟨x.nx,List.replicate i.n.toNat default⟩:=R_.1 u;rw[g];exact⟨.inr rfl,λQ c=>by rw[(Hm.1 c).2];exact GV.default⟩
 rw[I_ H]
 by_cases I:i.op=13
 .rw[O_ I];obtain⟨r,d⟩:=e.frame;have A:=uC x;generalize hF x=a at*
  cases hb:a.1.hH with
  |true=>exact .inl rfl
  |false=>
   have p:XF P a.1:=r.resolve_left (by rw[hb];simp);have F:=d hb;refine .inr (.inr ⟨⟨λs=>(p.r s).mono j,λf b=>⟨(p.rs f b).1.imp_left .inl,(p.rs f b).2.mono j⟩,λf b=>?_,λo u=>?_,p.v.mono j⟩,_,by rw[<-A];rfl⟩)
   .rcases T_.1 b with b|b
    .exact⟨(p.ws f b).1.imp_left .inl,(p.ws f b).2.mono j⟩
    .have g:f=⟨1,0,⟨true,a.1.nx⟩⟩:=R_.1 b;rw[g];exact⟨.inr rfl,λ_=>.inr A⟩
   .have g:o=⟨a.1.nx,[⟨true,a.2.1⟩,⟨false,a.1.js+1⟩,default]++((List.range i.b.toNat).map a.1.sr++List.replicate (i.c-i.b).toNat default)⟩:=R_.1 u;rw[g];refine⟨.inr A,λQ c=>?_⟩
    rcases T_.1 c with c|c
    .rcases N_.1 c with g|c
     .rw[g]
      exact λ_=>.inl F
     rcases N_.1 c with g|c
     .rw[g];exact GV.num _
     .rw[R_.1 c];exact GV.default
    .rcases T_.1 c with c|c
     .obtain⟨s,_,g⟩:=Z_.1 c;rw[<-g];exact(p.sr s).mono j
     .rw[(Hm.1 c).2];exact GV.default
 rw[I_ I];refine XO.xr ?_ _
 by_cases K:i.op=14
 .rw[O_ K];obtain⟨r,d⟩:=e.frame;generalize hF x=a at*
  by_cases hb:a.1.hH=true
  .rw[O_ hb];exact r
  rw[I_ hb];have hb:a.1.hH=false:=zu hb;obtain⟨F,A⟩:=r.read a.2.1 0 (λh=>.inl (d h));generalize hJ a.1 a.2.1 0=p at*
  by_cases m:p.2.r=true/\p.2.n=0
  .rw[O_ m];exact F.Cx _ _ _ _ _ _ (λ_=>t _) (λh=>h.sr)
  rw[I_ m];obtain⟨M,L⟩:=F.read a.2.1 1 (λh=>.inl (d (A h).1));generalize hJ p.1 a.2.1 1=J at*;split
  .exact XO.brk
  .have N:XO P (h4 J.1 1 0 p.2):=M.write _ _ _ (λ_=>.inr rfl) (λh=>(A (L h).1).2);have O:XO P (h4 (h4 J.1 1 0 p.2) 1 1 (x.sr i.a.toNat)):=N.write _ _ _ (λ_=>.inr rfl) (λ_=>t _);exact O.go _
 rw[I_ K]
 by_cases C:i.op=15∨i.op=18
 .rw[O_ C];have p:=e.root;generalize iB x=a at*
  by_cases hb:a.hH=true
  .rw[O_ hb];exact .inl hb
  rw[I_ hb];obtain⟨aZ,bg⟩:=XO.read (.inr p:XO P a) 1 (if i.op=15 then 1 else 2) (λ_=>.inr rfl);generalize hJ a 1 (if i.op=15 then 1 else 2)=z at*;exact LC
 rw[I_ C]
 by_cases B:i.op=17
 .rw[O_ B];obtain⟨r,d⟩:=e.frame;generalize hF x=a at*;exact r.write _ _ _ (λh=>.inl (d h)) (λ_=>GV.num _)
 rw[I_ B];exact u
def XF.EW{x:XP}(a:XF P x)(pc:Int):XR P x.nx (mx x pc):=by
 unfold mx;split
 .dsimp only;split
  .exact .inl ‹_›
  .have f:=a.root;obtain⟨c,e⟩:=XO.read (.inr f:XO P (iB x)) 1 2 (λ_=>.inr rfl);generalize hJ (iB x) 1 2=g at*
   cases b:g.1.hH with
   |true=>
    refine XO.xr ?_ _;unfold iX hF iB;dsimp only;simp only[b,HY,if_true];exact .inl rfl
   |false=>exact(c.throw _ (e b).2).xr _
 .dsimp only;split
  .rename_i c b;exact(a.h8 _ b).xr _
  .split
   .rename_i c b;exact(a.hq _ b).xr _
   .exact a.rest _
def EF.hH:EF P jl:=⟨λ_=>GV.default,λb a=>(by cases a),λb a=>(by cases a),λb a=>(by cases a),GV.default⟩
def XF.D5{x:XP}(a:XF P x)(pc:Int)(b:pc≠ -1)(f:(x.i3.getD pc.toNat default).op=20):XO P (mx x pc):=by
 unfold mx;rw[I_ b];dsimp only;split
 .rename_i c hy;exact a.h8 _ hy
 .split
  .rename_i c hy;exact a.hq _ hy
  .exact Jw
def Ct{h:List Ob}{r:Nat->Vl}(c:List In)(hq g9 pc nx:Int)(h0:P 0)(f:∀o∈h,GO P o)(b:∀i,GV P (r i)):EN P nx (j8 c hq g9 pc r h nx):=by
 unfold j8;split
 .exact .inl ⟨EF.hH,rfl⟩
 .dsimp only;have j:XF P ⟨c,hq,g9,pc,r,h,nx,{lP with pc:=pc+1,r:=r},false⟩:=⟨h0,f,b,b,λc a=>(by cases a),λc a=>(by cases a),rfl,GV.default⟩;have g:=j.EW pc;split
  .exact .inl ⟨EF.hH,rfl⟩
  .rename_i e;exact g.resolve_left e
def uV{h:List Ob}{r:Nat->Vl}(c:List In)(hq g9 pc nx:Int)(f:h5 c pc=20)(h0:P 0)(m:∀o∈h,GO P o)(g:∀i,GV P (r i)):EF P (j8 c hq g9 pc r h nx)/\(j8 c hq g9 pc r h nx).nw=[]:=by
 have q:¬(pc<0∨(c.length:Int)<=pc):=by
  intro h;unfold h5 at f;rw[O_ h]at f
  cases f
 have f:(c.getD pc.toNat default).op=20:=by unfold h5 at f;rw[I_ q]at f;exact f
 unfold j8;split
 .exact⟨EF.hH,rfl⟩
 .dsimp only;have p:XF P ⟨c,hq,g9,pc,r,h,nx,{lP with pc:=pc+1,r:=r},false⟩:=⟨h0,m,g,g,λc e=>(by cases e),λc e=>(by cases e),rfl,GV.default⟩;have b:=p.D5 pc X f;split
  .exact⟨EF.hH,rfl⟩
  .rename_i j;have a:=b.resolve_left j;exact⟨⟨a.r,a.rs,a.ws,λo b=>(by rw[a.nw]at b;cases b),a.v⟩,a.nw⟩
end
section
def HG(P:Int->Prop)(h:List Ob):Prop:=∀o∈h,GO P o
variable{P:Int->Prop}
def HG.mono{P Q:Int->Prop}(h:∀n,P n->Q n){l:List Ob}(a:HG P l):HG Q l:=λo b=>(a o b).mono h
def HG.nil:HG P []:=λo a=>by cases a
def HG.kL{h:List Ob}(i:HG P h)(id f:Int){v:Vl}(j:GV P v):HG P (kL h id f v):=by
 intro o g;unfold Go.Proofs.YtenbhdilndfaeaaGreat.kL at g;obtain⟨k,e,b⟩:=Hg g;rw[HL]at e;rw[Gw]at b;have c:=i _ (M_ e);split at b
 .rw[<-b];refine⟨c.1,λm a=>?_⟩
  rcases FW a with a|a
  .exact c.2 m a
  .rw[a];exact j
 .rw[<-b];exact c
def HG.put{h:List Ob}(c:HG P h)(m:GO P o):HG P (jY h o):=by
 have g:∀(e f:List Ob),(∀b∈e,GO P b)->(∀b∈f,GO P b)->HG P (e++[o]++f):=by
  intro e f i j b a
  rcases T_.1 a with a|a
  .rcases T_.1 a with a|a
   .exact i b a
   .rw[R_.1 a];exact m
  .exact j b a
 unfold jY;split
 .exact g _ _ (λb a=>c b (Gf a)) (λb a=>c b (GY a))
 .exact g _ _ (λb a=>c b (Gf a)) (λb a=>c b (GY a))
def HG.puts:∀(l:List Ob) {h:List Ob},HG P h->HG P l->HG P (l.foldl jY h)
 |[],_,a,_=>a
 |o::l,_,a,b=>HG.puts l (a.put (b o F9)) (λx c=>b x (FQ _ c))
def HG.pr{h:List Ob}(a:HG P h){c:Cl}(b:GV P c.v):HG P (pr h c):=by
 unfold Go.Proofs.YtenbhdilndfaeaaGreat.pr;split
 .exact a
 .exact a.kL _ _ b
def HG.it:∀(l:List Cl) {h:List Ob},HG P h->(∀c∈l,GV P c.v)->HG P (it h l)
 |[],_,a,_=>a
 |c::l,_,a,b=>HG.it l (a.pr (b c F9)) (λx e=>b x (FQ _ e))
def HG.px{h:List Ob}(a:HG P h)(d:Dl):HG P (px h d):=by
 unfold Go.Proofs.YtenbhdilndfaeaaGreat.px;split
 .exact a
 .split
  .exact a.kL _ _ (rL)
  .exact a
def HG.kg:∀(l:List Dl) {h:List Ob},HG P h->HG P (kg h l)
 |[],_,a=>a
 |d::l,_,a=>HG.kg l (a.px d)
structure TG(P:Int->Prop)(t:i6):Prop where
 gs:∀c∈t.gs,GV P c.v
 rs:∀c∈t.rs,(P c.id∨c.id=1)/\GV P c.v
 ws:∀c∈t.ws,(P c.id∨c.id=1)/\GV P c.v
 nw:HG P t.nw
 r:∀i,GV P (t.r i)
 v:GV P t.v
def TG.mono{P Q:Int->Prop}(h:∀n,P n->Q n){t:i6}(a:TG P t):TG Q t:=
 ⟨λb c=>(a.gs b c).mono h,λb c=>⟨(a.rs b c).1.imp_left (h _),(a.rs b c).2.mono h⟩,λb c=>⟨(a.ws b c).1.imp_left (h _),(a.ws b c).2.mono h⟩,a.nw.mono h,λe=>(a.r e).mono h,a.v.mono h⟩
def HG.w5{rs:List Cl}:∀(l:List Cl) {h:List Ob},HG P h->(∀c∈l,GV P c.v)->HG P (l.foldl (kG rs) h)
 |[],_,a,_=>a
 |c::l,h,a,e=>by
  refine HG.w5 l ?_ (λx b=>e x (FQ _ b));unfold kG;split
  .exact HG.it [c] a (λx b=>by rw[R_.1 b];exact e c F9)
  .exact a
def TG.before{t:i6}(a:TG P t)(e:HG P view):HG P (before t view):=
 HG.it _ (HG.w5 _ e a.gs) (λb c=>(a.rs b c).2)
def TG.iu{t:i6}(a:TG P t)(e:HG P view):HG P (iu t view):=
 HG.kg _ (HG.it _ (HG.puts _ (a.before e) a.nw) (λb c=>(a.ws b c).2))
def TG.la{t:i6}(a:TG P t){h:List Ob}(e:HG P h):HG P (la h t):=
 HG.kg _ (HG.it _ (HG.puts _ e a.nw) (λb c=>(a.ws b c).2))
def pX{l:List Cl}{c x:Cl}(a:x∈ka l c):x∈l∨x=c:=by
 unfold ka at a;split at a
 .exact FW a
 .rcases T_.1 a with a|a
  .exact .inl (Gf a)
  .rcases T_.1 a with a|a
   .exact .inr (R_.1 a)
   .exact .inl (GY a)
def TG.iO{t:i6}(e:TG P t){c:Cl}(j:P c.id∨c.id=1)(g:GV P c.v):TG P (iO t c):=by
 unfold Go.Proofs.YtenbhdilndfaeaaGreat.iO;split
 .refine{e with ws:=λb a=>?_}
  rcases pX a with a|a
  .exact e.ws b a
  .rw[a];exact⟨j,g⟩
 .refine{e with nw:=λo m=>?_};obtain⟨k,h,f⟩:=Hg m;rw[HL]at h;rw[Gw]at f;have b:=e.nw _ (M_ h);split at f
  .rw[<-f];refine⟨b.1,λi a=>?_⟩;unfold qz at a;dsimp only at a;split at a
   .rcases FW a with a|a
    .exact b.2 i a
    .rw[a];exact g
   .exact b.2 i a
  .rw[<-f];exact b
def tt{t:i6}{c:Cl}:(iO t c).nw.map Ob.id=t.nw.map Ob.id:=by
 unfold iO;split
 .rfl
 .exact Mj
def TG.jO{t t':i6}(c:TG P t)(g:HG P view){id f:Int}(e:P id∨id=1)(a:jO t view id f=some t'):TG P t'/\t'.nw.map Ob.id=t.nw.map Ob.id:=by
 unfold Go.Proofs.YtenbhdilndfaeaaGreat.jO at a;split at a
 .injection a with a;subst a;exact⟨c,rfl⟩
 split at a
 .cases a
 .rename_i j m;have i:=tW (c.before g) m;split at a
  .cases a
  .injection a with a;subst a
   have b:TG P {t with rs:=ka t.rs ⟨id,f,j⟩,ds:=t.ds.eraseIdx (pu t.ds id f).toNat}:=by
    refine{c with rs:=λp b=>?_}
    rcases pX b with b|b
    .exact c.rs p b
    .rw[b];exact⟨e,i⟩
   refine⟨b.iO e ?_,tt⟩
   show GV P ((h6 (Go.Proofs.YtenbhdilndfaeaaGreat.iu t view) id f).getD default)
   cases h:h6 (Go.Proofs.YtenbhdilndfaeaaGreat.iu t view) id f with
   |none=>exact GV.default
   |some q=>exact tW (c.iu g) h
def TG.take{t t':i6}(b:TG P t){d:Dl}(a:take t d=some t'):TG P t'/\t'.nw=t.nw:=by
 unfold Go.Proofs.YtenbhdilndfaeaaGreat.take at a;split at a
 .cases a
 split at a
 .injection a with a;subst a;exact⟨{b with},rfl⟩
 split at a
 .cases a
 .injection a with a;subst a;exact⟨{b with},rfl⟩
def TG.jK:∀(l:List Dl) {t:i6} (rs ws:List Cl),TG P t->TG P (jK t rs ws l).1/\(jK t rs ws l).1.nw=t.nw/\(∀c∈(jK t rs ws l).2.1,c∈rs)/\(∀c∈(jK t rs ws l).2.2,c∈ws)
 |[],_,_,_,e=>⟨e,rfl,λ_ h=>h,λ_ h=>h⟩
 |d::l,t,rs,ws,e=>by
  unfold Go.Proofs.YtenbhdilndfaeaaGreat.jK
  cases p:Go.Proofs.YtenbhdilndfaeaaGreat.take t d with
  |none=>exact TG.jK l rs ws e
  |some t'=>
   obtain⟨a,b⟩:=e.take p;obtain⟨j,i,g,m⟩:=TG.jK l (jB rs d) (jB ws d) a;exact⟨j,i.trans b,λc f=>(F5.1 (g c f)).1,λc f=>(F5.1 (m c f)).1⟩
def TG.kj{view:List Ob}(m:HG P view):∀(l:List Cl) {t t':i6},TG P t->(∀c∈l,(P c.id∨c.id=1)/\GV P c.v)->kj view t l=some t'->TG P t'/\t'.nw.map Ob.id=t.nw.map Ob.id
 |[],t,t',f,_,b=>by injection b with b;subst b;exact⟨f,rfl⟩
 |c::l,t,t',f,j,b=>by
  unfold Go.Proofs.YtenbhdilndfaeaaGreat.kj at b
  cases a:q9 view t c with
  |none=>rw[a]at b;cases b
  |some p=>
   rw[a]at b;have i:=j c F9
   have h:TG P p/\p.nw.map Ob.id=t.nw.map Ob.id:=by
    unfold q9 at a;split at a
    .injection a with a;subst a;exact⟨f,rfl⟩
    split at a
    .exact f.jO m i.1 a
    .injection a with a;subst a;refine⟨{f with rs:=λg e=>?_},rfl⟩
     rcases pX e with e|e
     .exact f.rs g e
     .rw[e];exact i
   obtain⟨q,r⟩:=TG.kj m l h.1 (λg e=>j g (FQ _ e)) b;exact⟨q,r.trans h.2⟩
def TG.kO{view:List Ob}(p:HG P view):∀(l:List Cl) {t t':i6},TG P t->(∀c∈l,(P c.id∨c.id=1)/\GV P c.v)->kO view t l=some t'->TG P t'/\t'.nw.map Ob.id=t.nw.map Ob.id
 |[],t,t',e,_,b=>by injection b with b;subst b;exact⟨e,rfl⟩
 |c::l,t,t',e,m,b=>by
  unfold Go.Proofs.YtenbhdilndfaeaaGreat.kO at b
  cases a:tH view t c with
  |none=>rw[a]at b;cases b
  |some q=>
   rw[a]at b;have i:=m c F9
   have j:TG P q/\q.nw.map Ob.id=t.nw.map Ob.id:=by
    unfold tH at a
    cases f:Go.Proofs.YtenbhdilndfaeaaGreat.jO t view c.id c.f with
    |none=>rw[f]at a;cases a
    |some u=>
     rw[f]at a;injection a with a;subst a;obtain⟨g,h⟩:=e.jO p i.1 f;exact⟨g.iO i.1 i.2,(tt).trans h⟩
   obtain⟨g,h⟩:=TG.kO p l j.1 (λs r=>m s (FQ _ r)) b;exact⟨g,h.trans j.2⟩
def TG.record{t t':i6}(q:TG P t)(p:HG P view){e:qr}(j:EF P e)(a:record t view e=some t'):TG P t'/\t'.nw.map Ob.id=t.nw.map Ob.id++e.nw.map Ob.id:=by
 unfold Go.Proofs.YtenbhdilndfaeaaGreat.record at a;dsimp only at a;obtain⟨r,G,s,u⟩:=TG.jK e.ds e.rs e.ws q;generalize Go.Proofs.YtenbhdilndfaeaaGreat.jK t e.rs e.ws e.ds=f at*
 cases g:Go.Proofs.YtenbhdilndfaeaaGreat.kj view f.1 f.2.1 with
 |none=>rw[g]at a;cases a
 |some c=>
  rw[g]at a;dsimp only at a;obtain⟨m,y⟩:=TG.kj p _ r (λb i=>j.rs b (s b i)) g;have B:TG P {c with nw:=c.nw++e.nw}:={m with nw:=λo A=>(T_.1 A).elim (m.nw o) (j.nw o)}
  cases h:Go.Proofs.YtenbhdilndfaeaaGreat.kO view {c with nw:=c.nw++e.nw} f.2.2 with
  |none=>rw[h]at a;cases a
  |some v=>
   rw[h]at a;injection a with a;subst a;obtain⟨z,x⟩:=TG.kO p _ B (λb i=>j.ws b (u b i)) h;refine⟨{z with},?_⟩
   show v.nw.map Ob.id=_
   rw[x]
   show(c.nw++e.nw).map Ob.id=_
   rw[FI,y,G]
def o9(t:i6):Int:=(t.run+1)*1048576+t.nw.length
def TG.step{t:i6}(g:TG P t)(m:HG P view)(h0:P 0)(c:List In)(hq g9:Int)(d:List Int):
 (TG P (ja c hq g9 d t view)/\(ja c hq g9 d t view).nw.map Ob.id=t.nw.map Ob.id)∨
 (TG (λn=>P n∨n=o9 t) (ja c hq g9 d t view)/\(ja c hq g9 d t view).nw.map Ob.id=t.nw.map Ob.id++[o9 t]):=by
 have y:=Ct c hq g9 t.pc (o9 t) h0 (g.iu m) g.r;have u:TG P (nu t):={g with};unfold ja;dsimp only;rw[show(t.run+1)*1048576+(t.nw.length:Int)=o9 t from rfl];generalize j8 c hq g9 t.pc t.r (Go.Proofs.YtenbhdilndfaeaaGreat.iu t view) (o9 t)=a at*;split
 .exact .inl ⟨u,rfl⟩
 split
 .exact .inl ⟨{g with},rfl⟩
 cases x:Go.Proofs.YtenbhdilndfaeaaGreat.record t view a with
 |none=>exact .inl ⟨u,rfl⟩
 |some b=>
  dsimp only
  have s:∀{Q:Int->Prop} {l:List Int},EF Q a->TG Q b/\b.nw.map Ob.id=l->TG Q (if a.hS=2 then{b with pc:=a.pc,r:=a.r,hw:=b.hw+1,hT:=3,hO:=a.hO,v:=a.v}
   else if a.hS=1/\(iS (λp=>p==a.kw) d=true∨64<=b.hw+1∨jm c hq g9 a.pc=true) then{b with pc:=a.pc,r:=a.r,hw:=b.hw+1,hT:=2,next:=a.pc}
   else{b with pc:=a.pc,r:=a.r,hw:=b.hw+1})/\(if a.hS=2 then{b with pc:=a.pc,r:=a.r,hw:=b.hw+1,hT:=3,hO:=a.hO,v:=a.v}
   else if a.hS=1/\(iS (λp=>p==a.kw) d=true∨64<=b.hw+1∨jm c hq g9 a.pc=true) then{b with pc:=a.pc,r:=a.r,hw:=b.hw+1,hT:=2,next:=a.pc}
   else{b with pc:=a.pc,r:=a.r,hw:=b.hw+1}:i6).nw.map Ob.id=l:=by
   intro Q l e⟨i,j⟩;split
   .exact⟨{i with r:=e.r,v:=e.v},j⟩
   split
   .exact⟨{i with r:=e.r},j⟩
   .exact⟨{i with r:=e.r},j⟩
  rcases y with⟨e,h⟩|⟨e,z,h⟩
  .have f:=g.record m e x;rw[h]at f;exact .inl (s e (zu f))
  .have f:=(g.mono (Q:=λn=>P n∨n=o9 t) (λn f=>.inl f)).record (m.mono (λn f=>.inl f)) e x;rw[h]at f;exact .inr (s e (zu f))
end
def wf64_0:lk 0:=WalkArith.wf_i64 X
def wf64_1:lk 1:=WalkArith.wf_i64 X
def wf64_2:lk 2:=WalkArith.wf_i64 X
def Cu{t:i6}(h0:0<=t.run)(a:t.run<=1099511627776)(b:t.nw.length<=500000):lk (o9 t):=by
 unfold o9;exact WalkArith.wf_i64 X
def TG.AD{t:i6}(b:TG lk t)(i:HG lk view)(c:List In)(hq g9:Int)(d:List Int)(h0:0<=t.run)(f:t.run<=1099511627776)(g:t.nw.length<=500000):TG lk (ja c hq g9 d t view):=by
 rcases b.step i wf64_0 c hq g9 d with a|a
 .exact a.1
 .exact a.1.mono λn h=>h.elim id (λe=>e▸Cu h0 f g)
def TG.AW{l:List In}{hq g9:Int}{d:List Int}{view:List Ob}(i:hY l hq g9=true)(f:l.length<=2048)(e:HG lk view):∀(n:Nat) (t:i6),(t.hT=0->Way l t)->TF t->TG lk t->0<=t.run->t.run<=1099511627776->TG lk (na l hq g9 d view n t)
 |0,_,_,_,a,_,_=>a
 |n+1,t,j,c,a,h0,b=>by
  unfold na;split
  .rename_i h;obtain⟨m,p⟩:=qV (d:=d) (view:=view) i f (j h) c h;have g:=lj l hq g9 d t view;exact TG.AW i f e n _ p m (a.AD e l hq g9 d h0 b c.sm.nw) (by rw[g];exact h0) (by rw[g];exact b)
  .exact a
def TG.begin{P:Int->Prop}(l:List In)(hq g9 hG run:Int)(h8:Bool):TG P (jf l hq g9 hG run h8).1:=by
 have z:∀b:i6,b.gs=[]->b.rs=[]->b.ws=[]->b.nw=[]->b.r=i5->b.v=default->TG P b:=λb e f g d h i=>
  ⟨λc a=>(by rw[e]at a;cases a),λc a=>(by rw[f]at a;cases a),λc a=>(by rw[g]at a;cases a),λc a=>(by rw[d]at a;cases a),λj=>by rw[h];exact GV.default,by rw[i];exact GV.default⟩
 unfold jf;split
 .exact ME
 split
 .exact ME
 split
 .exact ME
 .exact ME
def mP(l:List In)(hq g9 hG run:Int)(h8:Bool):(jf l hq g9 hG run h8).1.run=run∨(jf l hq g9 hG run h8).1.run=0:=by
 unfold jf;split
 .exact .inr rfl
 split
 .exact .inr rfl
 split
 .exact .inl rfl
 .exact .inl rfl
def ub{l:List In}{hq g9:Int}{d:List Int}(c:hY l hq g9=true)(a:l.length<=2048){s:qs}{run:Int}(b:HG lk s.h)(h0:0<=run)(e:run<=1099511627776):TG lk (lN l hq g9 d s run):=by
 have f:=mP l hq g9 s.hG run true;exact TG.AW c a b _ _ (λ_=>nS) (qp a) (TG.begin _ _ _ _ _ _) X X
def HG.hG{P:Int->Prop}(hq:Int)(h0:P 0)(h:P 1)(e:P 2):HG P (startHeap hq):=by
 have g:∀(n:Int) (k:Nat),P n->∀f∈(⟨true,n⟩::List.replicate k default:List Vl),GV P f:=by
  intro n k i f c
  rcases N_.1 c with b|c
  .rw[b]
   exact λ_=>i
  .rw[(Hm.1 c).2];exact GV.default
 intro o a;unfold startHeap at a
 rcases N_.1 a with b|a
 .rw[b];exact⟨h,g _ _ e⟩
 .rw[R_.1 a];exact⟨e,g _ _ h0⟩
def HG.lb{P:Int->Prop}{h:List Ob}{e:qr}(f:HG P h)(a:EF P e):HG P (lb h e):=
 HG.it _ (HG.puts _ f a.nw) (λb c=>(a.ws b c).2)
def HG.lZ{P:Int->Prop}(l:List In){h:List Ob}(pc a:Int)(b:HG P h):HG P (lZ l h pc a):=b.pr (GV.num _)
def qM{l:List In}{hq g9:Int}{s:qs}{e:qr}(h:¬l0 l hq g9 s e=true):s.jt=false/\h5 l s.hG=20/\e.hS≠4:=by
 unfold l0 at h;have h:¬(s.jt=true∨jm l hq g9 s.hG=false∨e.hS=4):=zu h;refine⟨by cases b:s.jt with|false=>rfl|true=>exact U_ (.inl b) h,?_,λc=>h (.inr (.inr c))⟩
 cases a:jm l hq g9 s.hG with
 |false=>exact U_ (.inr (.inl a)) h
 |true=>
  unfold jm at a;rw[FP]at a
  simpa using a.2
def HG.ng{P:Int->Prop}(l:List In)(hq g9:Int)(kH:List Int){s:qs}(h0:P 0)(a:HG P s.h):HG P (ng l hq g9 kH s).1.h:=by
 unfold Go.Proofs.YtenbhdilndfaeaaGreat.ng;split
 .exact HG.nil
 split
 .exact HG.nil
 .rename_i e;obtain⟨_,c,_⟩:=qM e;obtain⟨b,g⟩:=uV l hq g9 s.hG 0 c h0 a (λ_=>GV.default:∀f,GV P (i5 f));unfold lB;split
  .exact a.lZ _ _ _
  split
  .exact a.lb b
  .exact a.lb b
def HG.kF{P:Int->Prop}{s:qs}{t:i6}(b:HG P s.h)(a:TG P t)(ok:Bool):HG P (kF ok s t).1.h:=by
 unfold Go.Proofs.YtenbhdilndfaeaaGreat.kF;split
 .exact HG.nil
 split
 .exact HG.nil
 split
 .exact HG.nil
 .unfold ko;split
  .exact a.la b
  .exact a.la b
def um.DS{l:List In}{hq g9:Int}{d kH:List Int}{run:Int}{s:qs}(b:hY l hq g9=true)(h:um l hq g9 d kH k run s)(f:k<=1000000):HG lk s.h:=by
 have c:=ky b
 induction h with
 |hG=>exact HG.hG _ wf64_0 wf64_1 wf64_2
 |ask _ _ _ a=>exact HG.ng _ _ _ _ wf64_0 (a X)
 |commit h _ _ a=>
  have e:=h.cb b;exact HG.kF (a X) (ub b c.2.1 (a X) e.2.1 X) true
def HG.nk{P:Int->Prop}{h:List Ob}{ts:List i6}(b:HG P h)(a:∀t∈ts,TG P t)(k:Int):HG P (nk h ts k):=by
 unfold Go.Proofs.YtenbhdilndfaeaaGreat.nk
 have a:∀t∈ts.take k.toNat,TG P t:=λt h=>a t (Gf h)
 generalize ts.take k.toNat=l at*
 induction l generalizing h with
 |nil=>exact b
 |cons t l c=>exact c ((a t F9).la b) (λf e=>a f (FQ _ e))
def vN.DS{l:List In}{hq g9:Int}{d:List Int}{h:List Ob}{run:Int}{ts:List i6}(r:hY l hq g9=true)(q:l.length<=2048)(f:vN l hq g9 d h run n ts)(p:HG lk h)(h0:0<=run)(s:run<=1000000000):∀t∈ts,TG lk t/\0<=t.run/\t.run<=1000000016:=by
 induction f with
 |hG ts iG g=>
  intro t a;obtain⟨k,b,rfl⟩:=Hg a;obtain⟨i,e,_,c⟩:=g k b;have j:=mP l hq g9 i (run+k) e;rw[c];exact⟨TG.begin _ _ _ _ _ _,X,X⟩
 |step k b j u c=>
  intro t a
  rcases FW a with a|rfl
  .exact c t a
  .obtain⟨g,e,i⟩:=c _ (M_ b);have m:=(j.tf r q _ (M_ b)).1;rw[lj];exact⟨g.AD (p.nk (λt a=>(c t a).1) _) l hq g9 d e X m.sm.nw,e,i⟩
