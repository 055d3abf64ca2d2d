import Derived.Test.YtenbhdilndfaeaaGreatM19
import Derived.Test.YtenbhdilndfaeaaGreatM26
import Derived.Test.YtenbhdilndfaeaaGreatM28
set_option maxRecDepth 100000
set_option maxHeartbeats 0
set_option linter.all false
namespace Go.Proofs.YtenbhdilndfaeaaGreat
open Go.RowKit Go.Proofs.Tryz
variable{G:Prop}{n:Nat}{view:List Ob}(w:World)(PA:Option Addr)
theorem Jw(h:G:=by
 rcases hx with hb|hx
 .have hk:(hU x).1.hO=true:=by unfold hU iI;simp[hb]
  exact⟨.inl hk,λh=>by rw[hk]at h;cases h⟩
 .exact hx.frame):G:=h
theorem JD(h:G:=by
 have hk:(hX x id f).1.hO=true:=by
  unfold hX;split
  .rfl
  .split<;>exact hb
 exact⟨.inl hk,λh=>by rw[hk]at h;cases h⟩):G:=h
theorem KI(h:G:=by
 cases hb:z.1.hO with
 |true=>exact .inl hb
 |false=>exact a8.reg _ _ λ_=>(bo hb).2):G:=h
theorem KM(h:G:=by
 rcases h1 with h|h
 .exact .inl h
 .exact .inr (h.write _ _ _ (.inr rfl) hv)):G:=h
theorem Ll(h:G:=by
 show((s.h7++t.h7).length:Int)<=((k+1:Nat):Int)*500000
 rw[J_];omega):G:=h
theorem LA(h:G:=by
 exact⟨XO.fault (.inr hx) _,hx.zero⟩):G:=h
theorem LC(h:G:=by
 show s.hM+1<=((k+1:Nat):Int)*3001
 omega):G:=h
theorem LG(h:G:=by
 exact z _ rfl rfl rfl rfl rfl rfl):G:=h
theorem LH(h:G:=by
 show s.jp<=((k+1:Nat):Int)
 omega):G:=h
def DD(w:World)(e:Ending)(w':World):Prop:=∃(A:OA) (c:Nat) (l:List In) (hI hF:Int),e=.returned (.tuple #[.agg #[.slice A l.length c,i_ hI,i_ hF],i_ 0])/\Is w' A l/\ic l hI hF=true/\l.length<=c/\Gr [] w w'
def GS.zero(PA:Option Addr)(c:Nat):GS:=⟨.slice PA 3 c,none,0,[],none,0,[],0,none,0,[],none,0,[],none,0,[],0,0,none,0,[],[]⟩
theorem mX.new(c:Nat):mX w.heap.size (w.alloc (.cells #[.slice PA 3 c,n_,i_ 0,n_,n_,n_,n_,i_ 0,i_ 0,n_] 210)) w.heap.size (GS.zero PA c):=by
 refine⟨P_ w 210 #[.slice PA 3 c,n_,i_ 0,n_,n_,n_,n_,i_ 0,i_ 0,n_],H_ _,iV _ _ _ _,iV _ _ _ _,iV _ _ _ _,λa ha=>(by cases ha),List.nodup_nil,λr hr=>?_,by simp[GS.zero,GS.rows,Value.ownBlock],Fm _ _ _ _,by simp⟩
 have:r=(n_,[]):=by simpa[GS.zero,GS.rows]using hr
 subst this;exact iV _ _ _ _
theorem BY.zero(c:Nat):BY 0 (.slice PA 3 c) 0 (GS.zero PA c).lg:=
 ⟨rfl,rfl,rfl,λe h=>(by cases h),λe h=>(by cases h),H_ _,rfl,rfl,.inl ⟨rfl,rfl,rfl,rfl⟩⟩
def tN(Ns:List Nat)(k:Nat):Nat:=30*(Ns.take k).sum+3*k
theorem yP(q:Nat->Prop)(PA:OA)(c:Nat)(fs:List FT)(Ns:List Nat)(w:World)(D:CG q w PA fs Ns):
 Calls prog 88 #[.agg #[.slice PA 3 c]] w (DD w):=by
 refine ia λQ ak=>?_
 obtain⟨bF,bE,bt,a8,bo⟩:=info_parts infoInt;obtain⟨W,gx,o,aT,hx,e3,hg,hB,hR⟩:=v7 w 150 #[.slice PA 3 c] 26 #[n_,i_ 0,i_ 0];have U:W.cell? (c_ gx 0)=some (.slice PA 3 c):=hB.f_ 0;have aK:=h_ (D.hG hg);clear D
 go_enter func88,ntmps88
 go_wp2_with fail
 go_at_call 134
 refine(vW q PA c fs Ns W aK.out).mono ?_;rintro e w2⟨rfl,J⟩;have ad:w2.cell? (c_ gx 0)=some (.slice PA 3 c):=(hB.hG J).f_ 0;have eN:=h_ (mX.new w2 PA c);have S:=(F_ [] w2).alloc (.cells #[.slice PA 3 c,n_,i_ 0,n_,n_,n_,n_,i_ 0,i_ 0,n_] 210);obtain⟨am,g,cf,dV,_,_⟩:=box1 w2 210 #[.slice PA 3 c,n_,i_ 0,n_,n_,n_,n_,i_ 0,i_ 0,n_];rw[cf,dV]at eN;rw[cf]at S;have ar:am.cell? (c_ gx 0)=some (.slice PA 3 c):=(hB.hG (J.trans S)).f_ 0;clear U
 go_upto_region 6 with fail
 have dG:=aK.out.pc;have eU:m9 am (.slice PA 3 c):=⟨PA,c,fs,rfl,dG.len,Sl.hG dG.hfs (J.trans S),dG.i1,dG.i2⟩;have fB:=h_ eU;have dB:=h_ (aK.out.hG (J.trans S));have bu:=hB.hG (J.trans S);have cz:=hR.hG (J.trans S);have fM:=hg.trans (J.trans S);have f3:=h_ dV
 have er:w2.heap.size<=g:=by omega
 have e6:w.heap.size<=g/\w.heap.size<=o:=by have h1:=hg.size;have h2:=J.size;omega
 have f0:=h_ cf;clear dG eU ad ar aT hx e3 cf dV hB hR hg J;have bl:lD g am g (GS.zero PA c).lg:=⟨_,rfl,eN.out⟩
 go_loopw [25] (λap w'=>∃(k:Nat) (v:iU),k<=3/\ap=i_ k/\lD g w' g v/\BY k (.slice PA 3 c) (tN Ns k) v/\Gt g gT am w') (λap _=>3-(intOf ap).toNat)
 case atStart=>exact⟨0,_,o_,gn,bl,BY.zero PA c,.refl _ _ _⟩
 case round=>
  obtain⟨k,v,hk,rfl,I,hL,av⟩:=hrel;clear bl
  by_cases ag:k<3
  .have az:k<fs.length:=ov aK.out.pg.len;have bS:k<Ns.length:=ov aK.out.pg.nl;have hfs:=Sl.gt dB.out.pg.hfs av d_;obtain⟨b,off,hA,z0,aM,aV⟩:=A6.at_ hfs az;have y:=(dB.out.pg.rd _ (N_ az)).gt av d_ d_ d_;obtain⟨_,bC,bX⟩:=aK.out.pg.nm _ (N_ az);have bO:=aK.out.pg.sg k az bS;have bN:=aK.out.vs k az bS;obtain⟨d2,eH⟩:=pa Ns k bS;have cF:=aK.out.pg.sum;have ed:Ns[k]<=64:=o_
   have hls:tN Ns (k+1)=tN Ns k+30*Ns[k]+3:=by unfold tN;omega
   have gi:tN Ns (k+1)<=2048:=by unfold tN;omega
   obtain⟨f,hf⟩:=nm_ (fs[k]);obtain⟨M,z⟩:=nm_ (Ns[k]);rw[<-hf]at z0 aM aV y bC bX bO bN;rw[<-z]at bO bN ed hls;have iM:=hL.len;have bQ:tN Ns k<=2048:=o_;have eo:decide ((k:Int)<3)=true:=p_;have b6:wr.cell? (c_ gx 0)=some (.slice PA 3 c):=(bu.gt av d_).f_ 0;have r:=h_ y;have bn:=h_ bC;have c6:=h_ bO;have cx:=h_ bN;have be:=h_ hL;have eO:=h_ hls;have af:=h_ hf;have fb:=h_ hA;obtain⟨bL,a2,ca,bA,cv,bK⟩:=box1 wr 213 #[.string f.name,.slice f.AP f.ps.length f.cP,.slice f.A f.bs.length f.c];obtain⟨cJ,cK,eX⟩:=bK.nF;rw[hA];have ay:=h_ (sz ig (by rw[r5];decide) 5 M f q bL (r.out.hG cv) c6.out o_ bn.out o_);obtain⟨s,hs,hi⟩:=I;have bG:=h_ hs;have fm:=h_ hi;clear hf z y bC bO bN hL hls hA d2 eH cF hfs hs hi
   go_wp2_with fail
   refine ay.out.mono ?_;rintro e Y⟨aY,c5,vs,rfl,a6,ey,eG,eC,ez,ah⟩
   have cp:vs.length<=9:=by have h:=ln vs ig ey eG;rw[r5]at h;exact h
   have bZ:=cv.trans ah;have E:=fm.out.hG bZ;have aF:Y.cell? (c_ g 6)=some (.slice s.VA s.vs.length s.vc):=E.hg.f_ 6;have aZ:Y.cell? (c_ g 7)=some (i_ s.hidden):=E.hg.f_ 7;have cq:Y.cell? (c_ g 8)=some (i_ s.most):=E.hg.f_ 8;have dS:=E.hg.hH 6;have f7:=E.hg.hH 7;have f8:=E.hg.hH 8;clear cJ cK eX z0 aM aV b6
   go_upto_region 9 with fail
   obtain⟨b5,aB⟩:=E.Bn aY c5 vs a6;obtain⟨ax,cn⟩:=nm_ (((Y.setCell (c_ g 6) (.slice aY vs.length c5)).setCell (c_ g 7) (i_ 0)).setCell (c_ g 8) (i_ 0));rw[<-cn]at b5 aB |-;clear cn aF aZ cq dS f7 f8 E;obtain⟨bR,eF⟩:=nm_ ({s with VA:=aY,vc:=c5,vs:=vs,hidden:=0,most:=0});rw[<-eF]at b5
   have dg:bR.lg={v with vs:=vs,hidden:=0,most:=0}:=by rw[eF,<-bG.out];rfl
   have ct:=(bK.hG ah).gt aB d_;have du:=(av.trans (.jC bZ)).trans aB
   have fT:bR.rt++bR.os=[]:=by
    have h1:bR.os.map (λa=>(a.box,a.is))=[]:=(ED iU.ats dg).trans be.out.ats;have h2:bR.rt.map (λa=>(a.box,a.is))=[]:=(ED iU.rts dg).trans be.out.rts;rw[List.map_eq_nil_iff]at h1 h2;rw[h1,h2]
    rfl
   have ew:bR.l=v.l:=ED iU.l dg;have d1:bR.hF=v.hF:=ED iU.hF dg;have ej:bR.es=v.es:=ED iU.es dg;have d7:=h_ be.out.mark
   have e1:bR.l.length<=100000:=by rw[ew];omega
   have fU:0<=bR.hF:=by rw[d1];exact d7.out.2.1
   have fV:bR.hF<=100000:=by rw[d1];have:=d7.out.2.2;omega
   have gd:bR.es.length<=3:=by rw[ej,be.out.el];omega
   have fE:=h_ dg;have fA:=h_ ew;have fF:=h_ d1;have fj:=h_ ej;clear eF dg ew d1 ej;have z3:ax.cell? (c_ g 3)=some (.slice bR.EA bR.es.length bR.ec):=b5.hg.f_ 3;refine hQ (λw'=>w'.cell? (c_ g 3)=some (.slice bR.EA bR.es.length bR.ec)) 11 k_ ?_
   refine nt (z3) λC=>?_
   repeat refine jW C ?_
   refine h4 6 λK H=>?_
   go_simp
   go_at_call 136
   refine(rH g g bR ax.drew (b5.hG (F_ [] _).drew) e1 fU fV).mono ?_;rintro e aD⟨fv,gl,rfl,cR,aN,e0⟩;clear C
   refine h5 H (cR.hg.f_ 3) λC=>?_
   clear H K z3
   try simp only[a_]
   refine h4 7 λK H=>?_
   go_simp;refine H.out _ _ (λ_=>jD C _) ?_;clear H K C;have a7:Sl (aD.alloc (.cells #[i_ bR.l.length] 3)) 3 1 (j_ aD.heap.size) 1 [i_ bR.l.length]:=jj (n:=1) (s:=1) (P_ aD 3 _) rfl;have cT:=cR.hG ((F_ [] aD).alloc (.cells #[i_ bR.l.length] 3));have dw:=((du.trans (.jC (F_ [] ax).drew)).trans aN).trans (.jC ((F_ [] aD).alloc (.cells #[i_ bR.l.length] 3)));have Z:=(ct.drew.gt aN d_).alloc (.cells #[i_ bR.l.length] 3);obtain⟨bq,di⟩:=nm_ (aD.alloc (.cells #[i_ bR.l.length] 3));rw[<-di]at a7 cT dw Z |-;clear di cR;have dM:=cT.hi (.slice bR.EA bR.es.length bR.ec,bR.es) (by simp[GS.rows])
   try simp only[a_]
   refine h4 8 λK H=>?_
   refine od rfl (.tmp 44) (.tmp 47) 30 rfl g 3 bF _ 1 8 underlying30 bE bt a8 bo rfl d_ d_ bR.EA bR.es.length bR.ec _ rfl dM _ 1 1 _ rfl a7 (by intro u hu;simp at hu;subst hu;rfl) o_ cT.hz ?_;intro cY cN X db dK eB;obtain⟨dT,cV,cQ⟩:=cT.Dk fT cY cN _ dK db eB;have bH:=(mH.app (e:=213) dK dM d_).bk Z
   refine h5 H (dT.f_ 3) λC=>?_
   clear H K
   (repeat refine jW C ?_)
   have dr:=dT.hH 3
   refine h4 11 λK H=>?_
   go_simp;refine H.out _ _ (λh=>EK h d_) ?_;clear H K dr;refine hN k_ ?_ _;have eP:=bH.ih (p:=(c_ g 3)) (bH.lZ dT d_) (.slice cY (bR.es.length+1) cN);obtain⟨cX,e4⟩:=nm_ (X.setCell (c_ g 3) (.slice cY (bR.es.length+1) cN));rw[<-e4]at cV cQ eP |-;have em:=dw.trans cQ;clear e4 C dT cT b5 bH dw du;obtain⟨t,R⟩:=nm_ ({v with vs:=vs,hidden:=0,most:=0,l:=v.l++[⟨21,0,0,0,v.hF⟩],hF:=v.hF+1,es:=v.es++[(v.l.length:Int)]}:iU)
   have h10:lD g cX g t:=⟨_,(by
    rw[R,<-fA.out,<-fF.out,<-fj.out];have e:=fE.out;unfold GS.lg at e |-;simp only[iU.mk.injEq]at e |-
    exact⟨e.1,e.2.1,trivial,trivial,trivial,e.2.2.2.2.2.1,e.2.2.2.2.2.2.1,e.2.2.2.2.2.2.2.1,e.2.2.2.2.2.2.2.2⟩),cV⟩
   obtain⟨V,bD,bB,fL,d0,ef⟩:=cx.out;have fW:2<=vs.length:=G_ bB (ln V vs fL (ef vs ez eC))
   have eu:t.l.length=v.l.length+1:=by rw[R];simp
   have dP:t.ats=[]:=by rw[R];exact be.out.ats
   have e2:t.rts=[]:=by rw[R];exact be.out.rts
   have eD:t.pv=.slice PA 3 c:=by rw[R];exact be.out.pv
   have cC:GK t v.l.length 5:=⟨by rw[dP,R];exact d7.out.1,by rw[R];exact E9 _,(by rw[R];show(0:Int)+((5:Nat):Int)<=10;decide),by rw[R];exact E9 _,(by rw[R];show(0:Int)<=10;decide),by rw[R];exact fW,by rw[R];exact cp,by rw[dP];decide⟩
   have et:qS v.l t.l:=by rw[R];exact qS.app _ _
   have eA:iA t.l v.l.length=21:=by rw[R];exact l9 _ _ _
   have dH:t.es=v.es++[(v.l.length:Int)]:=by rw[R]
   have dJ:t.fs=v.fs:=by rw[R]
   have dZ:=(dB.out.pg.rd _ (N_ az)).gt em d_ d_ d_;rw[<-af.out]at dZ;have hbl:=d0.len;obtain⟨aQ,bj,P⟩:=eP.nF;have ft:=h_ eu;have eL:=h_ dP;have dD:=h_ e2;have fh:=h_ dH;have eM:=h_ dJ;have c3:=h_ eD;have ev:t.l.length+30*M+2<=2048:=ov eO.out;have fy:=h_ (xd g g V 5 M f.A _ f.c f.bs t _ q cX rfl o_ d0 dZ.hb dZ.hs (by rw[eD];exact fB.out.gt em) h10 cC o_);clear R eu dP e2 eD dH dJ dZ h10 cV
   go_wp2_with fail
   go_at_call 137
   refine fy.out.mono ?_;rintro e dh⟨rfl,e7,gp,A,aC,fJ,eS⟩;have eQ:=em.trans aC
   go_wp2_with fail
   go_at_call 138
   refine(ir g g _ _ _ _ _ _ _ A (ov eS.len)).mono ?_;rintro e fY⟨rfl,cy,cD⟩;have fK:=fJ.simp (x:=⟨1,0,0,0,0⟩) d_;have eT:=eS.trans (GP.put _ ⟨1,0,0,0,0⟩);have eR:=eQ.trans cD;clear A eQ cD
   go_wp2_with fail
   go_at_call 138
   refine(ir g g _ _ _ _ _ _ _ cy (ov eT.len)).mono ?_;rintro e cw⟨rfl,h13,dq⟩;have dE:=fK.simp (x:=⟨14,0,0,0,0⟩) d_;have dF:=eT.trans (GP.put _ ⟨14,0,0,0,0⟩);have fI:=eR.trans dq;clear cy eR dq;obtain⟨d,df,dL⟩:=h13;have ga:=dF
   have eg:d.os.map (λa=>(a.box,a.is))=[]:=by
    have h1:=dF.pP;rw[eL.out]at h1
    have h2:d.lg.ats.map (·.1)=[]:=by rw[df];simpa using h1
    have h3:d.lg.ats=[]:=zu h2;exact h3
   have eE:d.rt.map (λa=>(a.box,a.is))=[]:=by
    have h1:=dF.rt;rw[dD.out]at h1
    have h2:d.lg.rts=[]:=by rw[df];exact h1
    exact h2
   have fS:d.rt++d.os=[]:=by
    rw[List.map_eq_nil_iff]at eg eE;rw[eg,eE]
    rfl
   have cH:d.vs.length<=9/\2<=d.vs.length:=by
    have e:d.lg.vs=d.vs:=rfl;rw[<-e,df];exact⟨dE.v1,dE.v0⟩
   have gk:0<=d.most/\d.most<=10:=by
    have e:d.lg.most=d.most:=rfl;rw[<-e,df];exact⟨dE.m0,dE.m1⟩
   have cr:d.fs.length<=3:=by
    have e:d.lg.fs=v.fs:=by rw[df,dF.fs,eM.out]
    have aG:d.fs=v.fs:=e;rw[aG,be.out.fl];omega
   have fD:=h_ df;have z4:cw.cell? (c_ g 4)=some (.slice d.FA d.fs.length d.fc):=dL.hg.f_ 4;have cg:cw.cell? (c_ g 6)=some (.slice d.VA d.vs.length d.vc):=dL.hg.f_ 6;have e8:cw.cell? (c_ g 8)=some (i_ d.most):=dL.hg.f_ 8;have dz:=dL.hi (.slice d.FA d.fs.length d.fc,d.fs) (by simp[GS.rows]);have cF:IntKind.i64.wrap ((d.vs.length:Int)+d.most)=(d.vs.length:Int)+d.most:=E2 _ o_;clear df eg eE aQ bj P
   go_upto_region 13 with fail
   refine hQ (λw'=>w'.cell? (c_ g 4)=some (.slice d.FA d.fs.length d.fc)/\w'.cell? (c_ g 6)=some (.slice d.VA d.vs.length d.vc)/\w'.cell? (c_ g 8)=some (i_ d.most)) 19 k_ ?_
   refine nt ⟨z4,cg,e8⟩ λC=>?_
   repeat refine jW C ?_
   refine h4 15 λK H=>?_
   go_simp;refine H.out _ _ (λ_=>⟨jD C.1 _,jD C.2.1 _,jD C.2.2 _⟩) ?_;clear H K C z4 cg e8 cF;obtain⟨u,hu⟩:=nm_ ((d.vs.length:Int)+d.most);rw[<-hu];have dj:2<=u/\u<=64:=o_;have b7:=h_ hu;clear hu;have a7:Sl (cw.alloc (.cells #[i_ u] 3)).drew 3 1 (j_ cw.heap.size) 1 [i_ u]:=(jj (n:=1) (s:=1) (P_ cw 3 _) rfl:Sl (cw.alloc (.cells #[i_ u] 3)) 3 1 (j_ cw.heap.size) 1 [i_ u]).drew;have dW:=((F_ [] cw).alloc (.cells #[i_ u] 3)).drew;obtain⟨gu,e5⟩:=nm_ ((cw.alloc (.cells #[i_ u] 3)).drew);rw[<-e5]at a7 dW |-;clear e5;have eZ:=dL.hG dW;have dz:=iK dz dW
   try simp only[a_]
   refine h4 16 λK H=>?_
   refine od rfl (.tmp 63) (.tmp 74) 30 rfl g 3 bF _ 1 8 underlying30 bE bt a8 bo rfl d_ d_ d.FA d.fs.length d.fc _ rfl dz _ 1 1 _ rfl a7 (by intro u hu;simp at hu;subst hu;rfl) o_ eZ.hz ?_;intro eK ea gv fR fN fQ;obtain⟨dQ,fO,dU⟩:=eZ.Dj fS eK ea _ fN fR fQ
   refine h5 H ⟨dQ.f_ 4,dQ.f_ 6,dQ.f_ 8⟩ λC=>?_
   clear H K
   (repeat refine jW C ?_)
   have dR:=dQ.hH 4;have z4:=C.1
   refine h4 19 λK H=>?_
   go_simp;refine H.out _ _ (λh=>EK h d_) ?_;clear H K dR z4 C;refine hN k_ ?_ _;go_wp2;go_roundw
   case rel=>
    have b9:=((fI.trans (.jC dW)).trans dU);refine⟨k+1,_,o_,gn,⟨_,rfl,fO⟩,?_,b9⟩
    have fP:∀eJ:GS,eJ={d with FA:=eK,fc:=ea,fs:=d.fs++[u]}->eJ.lg={d.lg with fs:=d.lg.fs++[u]}:=λeJ h=>by rw[h];rfl
    rw[fP _ rfl,fD.out];have gj:=eO.out;rw[<-fb.out];refine be.out.next (n':=tN Ns (k+1)) et eA ft.out fh.out eM.out c3.out eL.out dD.out dF dE (by simp[iU.put]) ?_ u dj o_
    have cS:(((iU.put (iU.put e7 ⟨1,0,0,0,0⟩) ⟨14,0,0,0,0⟩).l.length:Int)-1)=((iU.put e7 ⟨1,0,0,0,0⟩).l.length:Int):=by simp[iU.put];omega
    rw[cS];exact ol _ _
   case measure=>exact mz
  .have b0:k=3:=o_;subst b0;have iM:=hL.len;have cF:=aK.out.pg.sum;have ce:=aK.out.pg.nl
   have hls:tN Ns 3<=2048:=by
    have e:Ns.take 3=Ns:=EI o_;unfold tN;rw[e];omega
   have bw:∃q,oU v.l v.hF v.cs [] q/\q<v.l.length/\iA v.l ((v.l.length:Int)-1)=14:=by
    rcases hL.ok with h|h
    .exact EK h.1 d_
    .exact h
   obtain⟨q',bw,dy,cu⟩:=bw;have eV:=bw.cs1;have hcl:=bw.zh;obtain⟨s,hs,hi⟩:=I;have eW:s.cs=v.cs:=ED iU.cs hs
   obtain⟨CA,n,cc,aW,aP,bi⟩:∃CA n cc,Hid (n=v.cs.length)/\wr.cell? (c_ g 5)=some (.slice CA n cc)/\wr.ownsRow g 219 2 (.slice CA n cc) n (mU v.cs):=by
    rw[<-eW];exact⟨_,_,_,h_ rfl,hi.hg.f_ 5,hi.hc⟩
   have bC:n<=2048:=ov aW.out;have d8:=h_ iM;have b8:=h_ hls;have be:=h_ hL;have cM:=h_ bw;have fC:=h_ dy;have fw:=h_ cu;have fe:=h_ eV;have bl:lD g wr g {v with l:=(v.cs.take 0).foldl (j5 v.es v.fs) v.l}:=⟨s,hs,hi⟩;clear iM hls hL bw dy cu eV hcl eW hs hi cF ce ag hk;go_wp2
   go_loopw [84] (λap w'=>∃j:Nat,j<=n/\ap=i_ j/\lD g w' g {v with l:=(v.cs.take j).foldl (j5 v.es v.fs) v.l}/\Gt g gT am w'/\mH 219 wr w') (λap _=>n-(intOf ap).toNat)
   case atStart=>exact⟨0,O_ _,gn,bl,av,.jC (F_ [] _)⟩
   case round=>
    obtain⟨j,hj,rfl,I,av,dx⟩:=hrel;clear bl;obtain⟨s,hs,hi⟩:=I
    by_cases ag:j<n
    .have bp:j<v.cs.length:=ov aW.out;obtain⟨fZ,f4,fH,_,c9,eh⟩:=kA (dx.own bi) o_;obtain⟨h1,h2,h3,au,aq⟩:=fe.out v.cs[j] (N_ bp);have z0:=(c9.f_ (j*2+0)).trans (eh _ _ ((jh (λp:Int × Int=>[i_ p.1,i_ p.2]) 2 (λ_=>rfl) v.cs j 0 bp o_).trans rfl));have aM:=(c9.f_ (j*2+1)).trans (eh _ _ ((jh (λp:Int × Int=>[i_ p.1,i_ p.2]) 2 (λ_=>rfl) v.cs j 1 bp o_).trans rfl));rw[FV]at z0;obtain⟨i,aw⟩:∃i:Nat,v.cs[j].1=i:=⟨v.cs[j].1.toNat,o_⟩;obtain⟨f,dn⟩:∃f:Nat,v.cs[j].2=f:=⟨v.cs[j].2.toNat,o_⟩;have aR:=h_ (show v.cs[j]=((i:Int),(f:Int)) from Prod.ext aw dn);rw[aw]at z0 h2;rw[dn]at aM au aq;have da:s.es=v.es:=ED iU.es hs;have aE:s.fs=v.fs:=ED iU.fs hs;have aH:s.l=(v.cs.take j).foldl (j5 v.es v.fs) v.l:=ED iU.l hs
     have B:s.l.length=v.l.length:=by rw[aH,oJ]
     have dI:s.es.length=3:=by rw[da];exact be.out.el
     have cr:s.fs.length=3:=by rw[aE];exact be.out.fl
     obtain⟨m,hm⟩:=mn_ v.l.length;have dX:i<m:=o_
     have cA:m<=2048:=by have:=d8.out;have:=b8.out;omega
     have eY:f<3:=o_;have bG:=h_ hs;have dm:=h_ (B.trans hm);have HM:=h_ hm;have fi:=h_ da;have d3:=h_ aE;have cZ:=h_ aH;have ck:=h_ dI;have dk:=h_ cr;have fq:=h_ dx;have d5:=h_ av;clear hs B hm da aE aH dI cr h1 h2 h3 au aq aw dn eh c9 dx av;subst fH;obtain⟨bL,a2,ca,bA,cv,bK⟩:=box1 wr 219 #[i_ i,i_ f]
     go_upto_region 18 with fail
     obtain⟨Y,bU⟩:=nm_ bL.drew
     have ah:Gr [] wr Y:=by rw[bU];exact cv.drew
     have b4:Bk Y a2 219 #[i_ i,i_ f]:=by rw[bU];exact bK.hG (F_ [] _).drew
     have E:=hi.hG ah;obtain⟨G,cI,ao,lc,ec,fc,cur,aL,cO,ae,bj,aj,O,aS,br,⟨gm,bP⟩,⟨cU,aO⟩⟩:=E.qa dm.out dX ck.out dk.out eY;obtain⟨co,ek⟩:=nm_ (s.es.getD f 0);rw[<-ek]at aS;have dC:=h_ aL;have fk:=h_ ek;have cJ:Y.cell? (c_ a2 0)=some (i_ i):=b4.f_ 0;have cK:Y.cell? (c_ a2 1)=some (i_ f):=b4.f_ 1;have fz:=ae.hH (i*5+4);clear aL ek O aO br;have de:(f:Int)<3:=o_;have gh:(i:Int)<m:=o_;refine hQ (λw'=>w'.cell? (c_ a2 0)=some (i_ i)/\w'.cell? (c_ a2 1)=some (i_ f)/\w'.cell? (c_ g 1)=some (.slice (j_ G) m lc)/\w'.cell? (c_ g 3)=some (.slice (j_ cI) 3 ec)/\w'.cell? (c_ cI f)=some (i_ co)) 16 k_ ?_;rw[<-bU];have f1:=h_ bU;clear bU;have C:=And.intro cJ (And.intro cK (And.intro bj (And.intro aj aS)))
     repeat refine jW C ?_
     refine h4 16 λK H=>?_
     go_simp;refine H.out _ _ (λh=>EK h d_) ?_;clear H K fz bj aj bP aS C cJ cK;refine hN k_ ?_ _;have b5:=(E.Ct dC.out ae (by rw[dm.out];exact dX) co).hG (F_ [] _).drew
     have bJ:∀e,e≠189->mH e Y (Y.setCell (c_ G (i*5+4)) (i_ co)).drew:=λe he=>(mH.set ae (Ne.symm he) _ _).trans (.jC (F_ [] _).drew)
     have du:=(Gt.set (T:=gT) ae cO d_ (i*5+4) (i_ co)).trans (.jC (F_ [] _).drew)
     go_upto_region 19 with fail
     obtain⟨aD,cG⟩:=nm_ ((Y.setCell (c_ G (i*5+4)) (i_ co)).drew);rw[<-cG]at b5 bJ du;have ai:=(bJ 219 d_).bk b4;obtain⟨fa,e9,ao,fX,f6,fc,bM,eb,_,dN,bj,aj,O,aS,br,_,⟨cU,aO⟩⟩:=b5.qa ((lA _ _ _).trans dm.out) dX ck.out dk.out eY
     obtain rfl:G=fa:=by have h:=dC.out.symm.trans eb;injection h with h;injection h
     obtain⟨bV,ei⟩:=nm_ (s.fs.getD f 0)
     have br:aD.cell? (c_ ao f)=some (i_ bV):=by rw[ei];exact br
     have fg:=h_ ei;have fu:=h_ eb;have cJ:aD.cell? (c_ a2 0)=some (i_ i):=ai.f_ 0;have cK:aD.cell? (c_ a2 1)=some (i_ f):=ai.f_ 1;have fz:=dN.hH (i*5+3);clear eb ei aj aS e9;refine hQ (λw'=>w'.cell? (c_ a2 0)=some (i_ i)/\w'.cell? (c_ a2 1)=some (i_ f)/\w'.cell? (c_ g 1)=some (.slice (j_ G) m fX)/\w'.cell? (c_ g 4)=some (.slice (j_ ao) 3 fc)/\w'.cell? (c_ ao f)=some (i_ bV)) 16 k_ ?_;rw[<-cG];have f2:=h_ cG;clear cG;have C:=And.intro cJ (And.intro cK (And.intro bj (And.intro O br)))
     repeat refine jW C ?_
     refine h4 16 λK H=>?_
     go_simp;refine H.out _ _ (λh=>EK h d_) ?_;clear H K fz bj O aO br C cJ cK;refine hN k_ ?_ _;have cT:=b5.Cu fu.out dN (by rw[show({s with l:=l6 co s.l i}:GS).l.length=s.l.length from lA _ _ _,dm.out];exact dX) bV;have ep:=(fq.out.trans (.jC ah)).trans ((bJ 219 d_).trans (.set dN d_ (i*5+3) (i_ bV)));have dw:=(d5.out.trans (.jC ah)).trans (du.trans (Gt.set (T:=gT) dN cO d_ (i*5+3) (i_ bV)));have fo:=h_ cT;have fp:=h_ ep;have dO:=h_ dw;clear cT ep dw b5 bJ du E;go_wp2;go_roundw
     case rel=>
      refine⟨j+1,o_,gn,⟨_,?_,fo.out⟩,dO.out,fp.out⟩
      have aJ:(v.cs.take (j+1)).foldl (j5 v.es v.fs) v.l=pe bV (l6 co s.l i) i:=by
       rw[W_ bp,aR.out,FZ,<-cZ.out]
       show j5 v.es v.fs s.l _=_
       rw[<-yJ,fk.out,fg.out,fi.out,d3.out]
      rw[aJ];have aG:=bG.out;exact Kt
     case measure=>exact mz
    .have dY:v.cs.take j=v.cs:=EI (ov aW.out);rw[dY]at hs;have aE:s.fs=v.fs:=ED iU.fs hs;have aH:s.l=v.cs.foldl (j5 v.es v.fs) v.l:=ED iU.l hs;have bz:s.hF=v.hF:=ED iU.hF hs
     have B:s.l.length=v.l.length:=by rw[aH,oJ]
     have dI:s.es.length=3:=by rw[show s.es=v.es from ED iU.es hs];exact be.out.el
     have cr:s.fs.length=3:=by rw[aE];exact be.out.fl
     have L:=cM.out.code.pos;obtain⟨m,hm⟩:=mn_ s.l.length
     have cA:m<=2048:=by have:=d8.out;have:=b8.out;omega
     obtain⟨G,cI,ao,lc,ec,fc,cur,aL,cO,ae,bj,aj,O,aS,br,_,_⟩:=hi.qa hm (i:=0) (f:=0) o_ dI cr o_;have P:wr.cell? (c_ g 2)=some (i_ s.hF):=hi.hg.f_ 2;have hR:=cz.gt av d_;obtain⟨cW,eI⟩:=nm_ (s.fs.getD 0 0);rw[<-eI]at br;obtain⟨st,dt⟩:=nm_ s.hF;rw[<-dt]at P
     have N:Is wr (some (c_ G 0)) s.l:=by rw[<-aL];exact Sl.iT hi.hl
     have cj:s.l.length<=lc:=by
      have h:=bj.symm.trans (hi.hg.f_ 1);have h2:(Value.slice (j_ G) m lc)=.slice s.L s.l.length s.lc:=Option.some.inj h;injection h2 with _ _ h3;rw[h3];exact jf hi.hl
     have d9:=h_ eI;have bY:=h_ dt;have fG:=h_ bz;have HM:=h_ hm;have d3:=h_ aE;have cZ:=h_ aH;have aI:=h_ N;have fd:=h_ cj;have d5:=h_ av;have hd:decide ((2048:Int)<m)=false:=p_;clear hs dY aE aH bz dt B dI cr L hm aL cO ae aj aS eI N cj av
     go_upto_region 23 with fail
     obtain⟨Y,bU⟩:=nm_ wr.drew
     have ah:Gr [] wr Y:=by rw[bU];exact(F_ [] _).drew
     have bI:=hR.hG ah
     have bj:Y.cell? (c_ g 1)=some (.slice (j_ G) m lc):=by rw[bU];exact bj
     have P:Y.cell? (c_ g 2)=some (i_ st):=by rw[bU];exact P
     have O:Y.cell? (c_ g 4)=some (.slice (j_ ao) 3 fc):=by rw[bU];exact O
     have br:Y.cell? (c_ ao 0)=some (i_ cW):=by rw[bU];exact br
     refine hQ (λw'=>w'.cell? (c_ g 1)=some (.slice (j_ G) m lc)/\w'.cell? (c_ g 2)=some (i_ st)/\w'.cell? (c_ g 4)=some (.slice (j_ ao) 3 fc)/\w'.cell? (c_ ao 0)=some (i_ cW)) 15 k_ ?_;rw[<-bU];clear bU;have C:=And.intro bj (And.intro P (And.intro O br))
     (repeat refine jW C ?_)
     have bW:Y.cell? (c_ o 0)=some (n_):=bI.f_ 0;have r1:Y.cell? (c_ o 1)=some (i_ 0):=bI.f_ 1;have r2:Y.cell? (c_ o 2)=some (i_ 0):=bI.f_ 2;have z0:=bI.hH 0;have aM:=bI.hH 1;have aV:=bI.hH 2
     refine h4 15 λK H=>?_
     go_simp;refine H.out _ _ (λh=>EK h d_) ?_;clear H K C
     refine h4 16 λK H=>?_
     go_simp;refine H.out _ _ (λh=>EK h d_) ?_;clear H K;refine hN k_ ?_ _;have c7:=bI.hW 0 (.slice (j_ G) m lc);have c8:=c7.hW 1 (i_ cW);have aU:=c8.hW 2 (i_ st);have bJ:=((mH.set (e:=189) bI d_ 0 (.slice (j_ G) m lc)).trans (.set c7 d_ 1 (i_ cW))).trans (.set c8 d_ 2 (i_ st));have aX:=bJ.sl (aI.out.hG ah);have bT:Gr [o] Y (((Y.setCell (c_ o 0) (.slice (j_ G) m lc)).setCell (c_ o 1) (i_ cW)).setCell (c_ o 2) (i_ st)):=(((F_ [o] Y).setCell (.inl s_) _).setCell (.inl s_) _).setCell (.inl s_) _;have bg:=(((Gt.jC (base:=g) (T:=gT) fM).trans d5.out).gr e6.1).trans ah;have F:=Gr.jL bg bT e6.2;obtain⟨ax,cn⟩:=nm_ (((Y.setCell (c_ o 0) (.slice (j_ G) m lc)).setCell (c_ o 1) (i_ cW)).setCell (c_ o 2) (i_ st));rw[<-cn]at aU aX F |-;have d6:=h_ aX;have d4:=h_ F;clear cn c7 c8 bJ bT bg aX F bW r1 r2 z0 aM aV bj P O br hR bI ah;go_wp2;refine lT #[.slice (j_ G) m lc,i_ cW,i_ st] (i_ 0) aU underlying26 ?_;rw[ak.out];refine⟨some (c_ G 0),lc,s.l,cW,st,by rw[HM.out],d6.out,?_,fd.out,d4.out⟩;rw[cZ.out,bY.out,fG.out,d9.out,d3.out]
     have dn:∀k,k<3->2<=v.fs.getD k 0/\v.fs.getD k 0<=64:=λk hk=>be.out.f64 _ (by
      have az:k<v.fs.length:=by rw[be.out.fl];exact hk
      have:v.fs.getD k 0=v.fs[k]:=by simp[az]
      rw[this]
      exact N_ az)
     have gf:=dn 0 o_;refine xt cM.out fC.out fw.out (by have:=d8.out;have:=b8.out;omega) (λk h1 h2=>?_) (λk h1 h2=>dn k o_) o_ o_
     have az:k<v.es.length:=by rw[be.out.el];omega
     have:v.es.getD k 0=v.es[k]:=by simp[az]
     rw[this];exact(be.out.e21 _ (N_ az)).2.2
theorem nK.heads{L:List ByteArray}:∀{ss:List ST} {r:List ST},nK L (ss++r)->(∀s∈ss,s.h6=1)->∀x∈ss.map ST.name,x∈L
 |[],_,_,_=>by simp
 |s::ss,r,h,hk=>by
  cases h with
  |cons t l h hb hl hr=>
   intro x hx
   rcases L_.1 (by simpa using hx:x∈s.name::ss.map ST.name)with rfl|hx
   .exact h (by rw[hk s s_];rfl)
   .exact nK.heads hr (λu hu=>hk u (by simp[hu])) x hx
theorem va:hV.Nodup:=by decide
theorem yi:ig.Nodup:=by decide
theorem xe(s:ByteArray)(f:FT)(l:List FT)(k:Int):tF s (f::l) k=if(f.name.data.toList==s.data.toList)=true then k else tF s l (k+1):=by
 show(if(f.name.toList==s.toList)=true then k else tF s l (k+1))=_
 rw[F4,F4]
theorem FT.In.rd{lo hi:Nat}{w:World}{f:FT}(h:f.In lo hi w):BZ (λ_=>True) w f:=⟨h.hp,h.u1,h.hb,λt ht=>(h.hs t ht).imp λ_ _=>trivial⟩
theorem CG.made{lo hi:Nat}{w:World}{PA:OA}{r n p:FT}(C:Sl w 213 3 PA 3 ([r,n,p].flatMap FT.E))(h1:r.In lo hi w)(h2:n.In lo hi w)(h3:p.In lo hi w)
 (bV:r.name=vD/\r.ps=[]/\A5 r.bs) (bz:n.name=pQ/\n.ps=[oZ,Bz]/\En n.bs) (k3:p.name=pm/\p.ps=[mR]/\Em p.bs):∃Ns,CG (λ_=>True) w PA [r,n,p] Ns:=by
 obtain⟨m1,m2,H,E,e,m3,m4,bi,ah,dq,df⟩:=bV;obtain⟨bH,b8,⟨ck,ek,F,dr,dR,f5⟩,A,dS,f7,f8⟩:=bz;obtain⟨bo,a2,cv,I,G,m,y,o,d,aK,v,c6,i,q⟩:=k3
 have g:∀s,tF s [r,n,p] 0=if(vD.data.toList==s.data.toList)=true then 0 else if(pQ.data.toList==s.data.toList)=true then 1 else if(pm.data.toList==s.data.toList)=true then 2 else -1:=by
  intro s;rw[xe,xe,xe,m1,bH,bo]
  rfl
 have D:tF vD [r,n,p] 0=0:=by rw[g];rfl
 have u:tF pQ [r,n,p] 0=1:=by rw[g];rfl
 have z:tF pm [r,n,p] 0=2:=by rw[g];rfl
 have v9:∀x∈hV,x∈ig:=λx hx=>EQ _ hx
 have bn:lR ig 5 e r.bs:=ah.sub v9;have bN:lR hV 5 m p.bs:=c6.mono o_
 have B:∀{P:FT->Prop},P r->P n->P p->∀f∈[r,n,p],P f:=by
  intro P a b c f hf;simp only[L_,List.not_mem_nil,or_false]at hf
  rcases hf with rfl|rfl|rfl<;>assumption
 have b0:∀k,k<3->k=0∨k=1∨k=2:=λk hk=>by omega
 refine⟨[e,A,m],⟨C,rfl,B h1.rd h2.rd h3.rd,B ⟨by rw[m1];exact x1.1,by rw[m2];simp,by rw[m2];simp⟩ ⟨by rw[bH];exact x1.2.1,by rw[b8];simp[ig,hV],by rw[b8];simp⟩ ⟨by rw[bo];exact x1.2.2,by rw[a2];simp[ig,hV],by rw[a2];simp⟩,rfl,λk h j=>?_,p_⟩,
  ⟨C,rfl,u,z,λ_=>by show n.ps.length=2;rw[b8];rfl,λ_=>by show p.ps.length=1;rw[a2];rfl⟩,λk h=>?_,λ_=>m2,B (by rw[m2];exact List.nodup_nil) (by rw[b8];decide) (by rw[a2];decide),λk h j=>?_⟩
 .rcases b0 k h with rfl|rfl|rfl
  .exact bn
  .exact dS
  .exact bN.sub v9
 .rcases b0 k h with rfl|rfl|rfl
  .show tF r.name _ 0=0
   rw[m1];exact D
  .show tF n.name _ 0=1
   rw[bH];exact u
  .show tF p.name _ 0=2
   rw[bo];exact z
 .rcases b0 k h with rfl|rfl|rfl
  .refine⟨hV,d_,d_,va,ah,λvs hn hp=>?_⟩;have hn:nK vs r.bs:=hn;rw[m3]at hn;rw[<-m4];exact hn.heads bi
  .refine⟨ig,d_,d_,yi,dS,λvs hn hp=>?_⟩;have hn:nK vs n.bs:=hn;have hp:∀x∈n.ps,x∈vs:=hp;rw[dr]at hn;have ay:=hn.heads f5;rw[dR]at ay;rw[b8]at hp;intro x hx
   have L:∀x∈ig,x∈[vE,uJ,u0,mR,oB,w8,w7]∨x∈[oZ,Bz]:=by
    intro x hx;simp only[ig,hV,L_,List.not_mem_nil,or_false]at hx |-
    rcases hx with h|h|h|h|h|h|h|h|h<;>simp[h]
   rcases L x hx with h|h
   .exact ay x h
   .exact hp x h
  .refine⟨hV,d_,d_,va,bN,λvs hn hp=>?_⟩;have hn:nK vs p.bs:=hn;rw[y]at hn;rw[<-aK]
   cases hn with
   |cons t l h hb hl hr=>exact hr.heads v
def Ca(B g:Nat)(w:World)(e:Ending)(w':World):Prop:=∃(A:OA) (c:Nat) (l:List In) (hI hF:Int),e=.returned (.agg #[.slice A l.length c,i_ hI,i_ hF])/\Is w' A l/\ic l hI hF=true/\l.length<=c/\iQ w' B g/\Gr [g] w w'
theorem AK(B g:Nat)(w:World)(hd:iQ w B g)(hB:B<=w.heap.size):
 Calls prog 44 #[q_ g] w (Ca B g w):=by
 refine ia λQ ak=>?_
 obtain⟨W,o,aT,e3,hg,hR⟩:=box1 w 26 #[n_,i_ 0,i_ 0];have ai:=hd.hG hg;have bl:=hd.xa;have cG:B<=W.heap.size:=G_ hB hg.size
 go_enter func44,ntmps44
 go_wp2_with fail
 go_at_call 89
 refine(Aa B g W ai cG).mono ?_;rintro e w2⟨x,r,n,p,rfl,C,h1,h2,h3,bV,bz,k3,cO,J⟩;obtain⟨Ns,D⟩:=CG.made C h1 h2 h3 bV bz k3;clear C h1 h2 h3 bV bz k3
 go_wp2_with fail
 go_at_call 88
 refine(yP _ _ 3 _ Ns w2 D).mono ?_;rintro e ae⟨A,c,l,hI,hF,rfl,N,hv,cj,S⟩;have ay:=h_ hv;have aK:=h_ cj;have aI:=h_ N;obtain⟨m,hm⟩:=mn_ l.length;rw[hm];have HM:=h_ hm;clear D hv cj N hm;obtain⟨bL,bx,ca,t,Z,bK⟩:=box1 ae 26 #[.slice A m c,i_ hI,i_ hF];have cF:=(cO.hG S).hG Z;have ao:o≠g:=o_;have dR:=hR.lt;have cf:Bk w2 o 26 #[n_,i_ 0,i_ 0]:=hR.gr J p_;have j:=(cf.hG S).hG Z
 have up:∀{a b:World},Gr [] a b->Gr [g] a b:=λh=>(F_ [g] _).hK h s_
 have bA:Gr [g] w bL:=(((up hg).trans J).trans (up S)).trans (up Z);have aE:Is bL A l:=aI.out.hG (Z);have bB:w.heap.size<=o:=o_;have c7:=j.hW 0 (.slice A m c);have c8:=c7.hW 1 (i_ hI);have aU:=c8.hW 2 (i_ hF);have bJ:=((mH.set (e:=189) j d_ 0 (.slice A m c)).trans (.set c7 d_ 1 (i_ hI))).trans (.set c8 d_ 2 (i_ hF));have aX:=bJ.sl aE;have bT:Gr [o] bL (((bL.setCell (c_ o 0) (.slice A m c)).setCell (c_ o 1) (i_ hI)).setCell (c_ o 2) (i_ hF)):=(((F_ [o] bL).setCell (.inl s_) _).setCell (.inl s_) _).setCell (.inl s_) _;have cI:=cF.ih bT p_;have F:=bA.hK bT p_;have d:=h_ aU;have d6:=h_ aX;have f:=h_ cI;have d4:=h_ F;have cJ:bL.cell? (c_ bx 0)=some (.slice A m c):=bK.f_ 0;have cK:bL.cell? (c_ bx 1)=some (i_ hI):=bK.f_ 1;have eX:bL.cell? (c_ bx 2)=some (i_ hF):=bK.f_ 2;have bW:bL.cell? (c_ o 0)=some (n_):=j.f_ 0;have r1:bL.cell? (c_ o 1)=some (i_ 0):=j.f_ 1;have r2:bL.cell? (c_ o 2)=some (i_ 0):=j.f_ 2;have z0:=j.hH 0;have aM:=j.hH 1;have aV:=j.hH 2;clear c7 c8 aU bJ aX bT cI F bA aE up hg J S Z ai cO cF;go_wp2;refine rr_ #[.slice A m c,i_ hI,i_ hF] d.out underlying26 ?_;rw[ak.out];exact⟨A,c,l,hI,hF,by rw[HM.out],d6.out,ay.out,aK.out,f.out,d4.out⟩
section
variable(l:List In)(hI hF:Int)(d k2:List Int)
def mW(s:pY)(run:Int):i3:=zU l hI hF d s.h (jo l hI hF s.hS run true).1
inductive ux:Nat->Int->pY->Prop
 |hS:ux 0 0 (sk true hI)
 |ask {k:Nat} {run:Int} {s:pY} (h:ux k run s) (he:s.jH=false) (h0:(nJ l hI hF k2 s).2=0):ux (k+1) run (nJ l hI hF k2 s).1
 |commit {k:Nat} {run:Int} {s:pY} (h:ux k run s) (he:s.jH=false) (h0:(nJ l hI hF k2 s).2≠0):ux (k+1) (run+1) (kI true s (mW l hI hF d s run)).1
inductive wu(h:List Ob)(run:Int):Nat->List i3->Prop
 |hS (ts:List i3) (hl:ts.length<=16) (hb:∀(k:Nat) (hk:k<ts.length),∃(x:Int) (ik:Bool),CC l hI hF x/\ts[k]=(jo l hI hF x (run+k) ik).1):wu h run 0 ts
 |step {n:Nat} {ts:List i3} (k:Nat) (hk:k<ts.length) (h1:wu h run n ts) (h2:ts[k].h8=0):wu h run (n+1) (ts.set k (jb l hI hF d ts[k] (nj h ts k)))
theorem wu.len{h:List Ob}{run:Int}{ts:List i3}(O:wu l hI hF d h run n ts):ts.length<=16:=by
 induction O with
 |hS ts hl _=>exact hl
 |step k hk _ _ Z=>simpa using Z
end
structure Md where
 A:Option Addr
 c:Nat
 l:List In
 hI:Int
 hF:Int
 aA:Option Addr
 ac:Nat
 k2:List Int
 dA:Option Addr
 dc:Nat
 d:List Int
 s:Cm
 tA:Option Addr
 tc:Nat
 ts:List Tk
 run:Int
def Md.g_(m:Md):Array Value:=#[.slice m.A m.l.length m.c,i_ m.hI,i_ m.hF,.slice m.aA m.k2.length m.ac,.slice m.dA m.d.length m.dc,
 .slice m.s.h.A m.s.h.l.length m.s.h.c,i_ m.s.hS,i_ m.s.jp,.slice m.s.h7.A m.s.h7.l.length m.s.h7.c,.bool m.s.jH,.bool m.s.hZ,.bool m.s.v.r,i_ m.s.v.n,i_ m.s.iR,i_ m.s.hM,.slice m.tA m.ts.length m.tc,i_ m.run]
structure rm(w:World)(m:Md):Prop where
 l:Is w m.A m.l
 k2:Ns w 2 m.aA m.k2
 al:m.k2.length<=5
 d:Ns w 3 m.dA m.d
 dl:m.d.length<=m.dc
 s:lX w m.s
 ts:xA w m.tA m.ts
theorem rm.hG{w w':World}{m:Md}(h:rm w m)(hg:Gr [] w w'):rm w' m:=⟨Sl.hG h.l hg,Sl.hG h.k2 hg,h.al,Sl.hG h.d hg,h.dl,h.s.hG hg,h.ts.hG hg⟩
structure BX(m:Md):Prop where
 val:ic m.l m.hI m.hF=true
 dv:m.d.Sublist (kF m.l m.hI m.hF)
 cm:∃k run,k<=8/\ux m.l m.hI m.hF m.d m.k2 k run m.s.p/\((m.s.jH=true/\m.ts=[]/\m.run=run)∨(m.s.jH=false/\m.run=run+m.ts.length/\∃n,n<=39/\wu m.l m.hI m.hF m.d m.s.p.h run n (m.ts.map Tk.p)))
 tl:m.ts.length<=m.tc
def A2(B g:Nat)(w:World)(e:Ending)(w':World):Prop:=∃m:Md,e=.returned (.agg m.g_)/\rm w' m/\BX m/\iQ w' B g/\Gr [g] w w'
structure TF(t:i3):Prop where
 sm:t.sm 500000
 s0:0<=t.hM
 s1:t.hM<=3000
 n0: -1<=t.next
 n1:t.next<=3000
theorem vj(c:List In)(hI hF:Int)(d:List Int)(t:i3)(view:List Ob):(jb c hI hF d t view).hS=t.hS:=by
 unfold jb;simp only;split
 .rfl
 split
 .rfl
 split
 .rfl
 .rename_i x hr
  have:=(lB hr).hS
  split
  .exact this
  split
  .exact this
  .exact this
theorem sJ(c:List In)(hI hF:Int)(d:List Int)(t:i3)(view:List Ob):(jb c hI hF d t view).next=t.next∨(jb c hI hF d t view).next=t.pc+1∨(jb c hI hF d t view).next=(jb c hI hF d t view).pc:=by
 unfold jb;simp only;split
 .exact .inl rfl
 split
 .exact .inr (.inl rfl)
 split
 .exact .inl rfl
 .rename_i x hr
  have:=(lB hr).next
  split
  .exact .inl this
  split
  .exact .inr (.inr rfl)
  .exact .inl this
theorem qp{l:List In}{hI hF:Int}{d:List Int}{t:i3}(hv:ic l hI hF=true)(hl:l.length<=2048)(h:Way l t)(hf:TF t)(hs:t.h8=0):
 TF (jb l hI hF d t view)/\((jb l hI hF d t view).h8=0->Way l (jb l hI hF d t view)):=by
 obtain⟨a1,G,a3,a4,a5,a⟩:=t7 (d:=d) (view:=view) hv h hs;have bS:=h.s1;have h0:=h.lo;have h1:=h.hi;have H:=h.s0;refine⟨⟨a1.mono o_,G,o_,?_,?_⟩,λay=>(a ay).1⟩
 .rcases sJ l hI hF d t view with e|e|e
  .rw[e];exact hf.n0
  .rw[e];omega
  .rw[e];exact a4
 .rcases sJ l hI hF d t view with e|e|e
  .rw[e];exact hf.n1
  .rw[e];omega
  .rw[e];omega
theorem xN{l:List In}{hI hF:Int}{d:List Int}{view:List Ob}(hv:ic l hI hF=true)(hl:l.length<=2048):∀(n:Nat) (t:i3),(t.h8=0->Way l t)->TF t->
 TF (n6 l hI hF d view n t)/\(n6 l hI hF d view n t).run=t.run/\(n6 l hI hF d view n t).hS=t.hS
 |0,t,_,hf=>⟨hf,rfl,rfl⟩
 |n+1,t,aM,hf=>by
  unfold n6;split
  .rename_i hs;obtain⟨b1,b2⟩:=qp (d:=d) (view:=view) hv hl (aM hs) hf hs;obtain⟨c1,ai,aC⟩:=xN (d:=d) (view:=view) hv hl n _ b2 b1;exact⟨c1,ai.trans (ms l hI hF d t view),aC.trans (vj l hI hF d t view)⟩
  .exact⟨hf,rfl,rfl⟩
theorem AS{l:List In}{hI hF hS run:Int}{ik:Bool}(hl:l.length<=2048)(h0: -1<=hS)(h1:hS<=2049):
 TF (jo l hI hF hS run ik).1/\((jo l hI hF hS run ik).2=0->(jo l hI hF hS run ik).1.run=run/\(jo l hI hF hS run ik).1.hS=hS):=by
 have z:∀n,Tk.zero.p.sm n:=λn=>⟨O_ _,O_ _,O_ _,O_ _,O_ _,O_ _⟩
 have z0:TF Tk.zero.p:=⟨z _,d_,d_,d_,d_⟩;unfold jo;split
 .exact⟨z0,λh=>by simp at h⟩
 split
 .exact⟨z0,λh=>by simp at h⟩
 split
 .exact⟨⟨⟨O_ _,O_ _,O_ _,O_ _,O_ _,O_ _⟩,show(0:Int)<=0 by decide,show(0:Int)<=3000 by decide,by show -1<=hS+1;omega,by show hS+1<=3000;omega⟩,λ_=>⟨rfl,rfl⟩⟩
 .exact⟨⟨⟨O_ _,O_ _,O_ _,O_ _,O_ _,O_ _⟩,show(0:Int)<=0 by decide,show(0:Int)<=3000 by decide,show(-1:Int)<=0 by decide,show(0:Int)<=3000 by decide⟩,λ_=>⟨rfl,rfl⟩⟩
theorem uo{l:List In}{hI hF hS run:Int}{ik:Bool}(h0: -1<=hS)(h1:hS<=l.length):Way l (jo l hI hF hS run ik).1:=by
 have fin:∀t:i3,t.sm 0->t.hM=0-> -1<=t.pc->t.pc<=l.length->Way l t:=λt hs h2 h3 au=>⟨h3,au,o_,ov (r9 (l:=l) h3),hs.mono (O_ _)⟩
 have z:∀t:i3,t.gs=[]->t.rs=[]->t.ws=[]->t.nw=[]->t.ds=[]->t.h7=[]->t.sm 0:=λt a b c d e f=>⟨by simp[a],by simp[b],by simp[c],by simp[d],by simp[e],by simp[f]⟩
 have g:(-1:Int)<=0/\(0:Int)<=l.length:=o_;unfold jo;split
 .exact fin _ (z _ rfl rfl rfl rfl rfl rfl) rfl g.1 g.2
 split
 .exact fin _ (z _ rfl rfl rfl rfl rfl rfl) rfl g.1 g.2
 split
 .exact fin _ (z _ rfl rfl rfl rfl rfl rfl) rfl h0 h1
 .exact fin _ (z _ rfl rfl rfl rfl rfl rfl) rfl h0 h1
theorem uT{l:List In}{pc:Int}(h:mO l pc=true): -1<=pc/\pc<=l.length:=by
 by_cases ho:pc<0∨(l.length:Int)<=pc
 .have e:=j6 ho;unfold mO at h;exact LL
 .omega
theorem nH{l:List In}{hI hF hS run:Int}{ik:Bool}:Way l (jo l hI hF hS run ik).1:=by
 by_cases h:mO l hS=true
 .exact uo (uT h).1 (uT h).2
 .have h:mO l hS=false:=zu h
  have e:(jo l hI hF hS run ik).1=(jo l hI hF 0 run ik).1∨(jo l hI hF hS run ik).1=Tk.zero.p:=by
   unfold jo;rw[T_ h];split<;>exact .inr rfl
  rcases e with e|e
  .rw[e];exact uo o_ o_
  .rw[e];exact⟨d_,by show(0:Int)<=l.length;omega,d_,by show(0:Int)+oY l 0<=_;have:=r9 (l:=l) (pc:=0) o_;omega,⟨O_ _,O_ _,O_ _,O_ _,O_ _,O_ _⟩⟩
theorem pO{l:List In}{hI hF hS run:Int}{ik:Bool}(hl:l.length<=2048):TF (jo l hI hF hS run ik).1:=by
 by_cases h:mO l hS=true
 .have hb:=uT h;exact(AS hl hb.1 o_).1
 .have h:mO l hS=false:=zu h
  have e:(jo l hI hF hS run ik).1=Tk.zero.p:=by
   unfold jo;rw[T_ h];split<;>rfl
  rw[e];exact⟨⟨O_ _,O_ _,O_ _,O_ _,O_ _,O_ _⟩,d_,d_,d_,d_⟩
theorem rf{l:List In}{hI hF:Int}{d:List Int}(hv:ic l hI hF=true)(hl:l.length<=2048)(s:pY)(run:Int):TF (mW l hI hF d s run):=
 (xN hv hl _ _ (λ_=>nH) (pO hl)).1
theorem wu.tf{l:List In}{hI hF:Int}{d:List Int}{h:List Ob}{run:Int}{ts:List i3}(hv:ic l hI hF=true)(hl:l.length<=2048)(O:wu l hI hF d h run n ts):∀t∈ts,TF t/\(t.h8=0->Way l t):=by
 induction O with
 |hS ts _ hb=>
  intro t ht;obtain⟨k,hk,rfl⟩:=F3 ht;obtain⟨x,ik,_,e⟩:=hb k hk;rw[e];exact⟨pO hl,λ_=>nH⟩
 |step k hk h1 h2 Z=>
  intro t ht
  rcases EU ht with ht|rfl
  .exact Z t ht
  .obtain⟨a,b⟩:=Z _ (N_ hk);exact qp hv hl (b h2) a h2
structure CB(k:Nat)(s:pY):Prop where
 h:(s.h.length:Int)<=2+k*500000
 h7:(s.h7.length:Int)<=k*500000
 st0: -1<=s.hS
 st1:s.hS<=3000
 t0:0<=s.iR
 t1:s.iR<=k
 p0:0<=s.hM
 p1:s.hM<=k*3001
 a0:0<=s.jp
 a1:s.jp<=k
theorem CB.zero(k:Nat):CB k Cm.zero.p:=⟨by show(0:Int)<=2+k*500000;omega,by show(0:Int)<=k*500000;omega,by decide,by decide,by decide,by show(0:Int)<=k;omega,by decide,by show(0:Int)<=k*3001;omega,by decide,by show(0:Int)<=k;omega⟩
theorem CB.begin(hI:Int):CB 0 (sk true hI):=⟨show(2:Int)<=2 by decide,show(0:Int)<=0 by decide,show(-1:Int)<=0 by decide,show(0:Int)<=3000 by decide,show(0:Int)<=0 by decide,show(0:Int)<=0 by decide,show(0:Int)<=0 by decide,show(0:Int)<=0 by decide,show(0:Int)<=0 by decide,show(0:Int)<=0 by decide⟩
theorem CB.ask{l:List In}{hI hF:Int}{k2:List Int}{k:Nat}{s:pY}(hv:ic l hI hF=true)(h:CB k s):CB (k+1) (nJ l hI hF k2 s).1:=by
 have hb:=kl hv;unfold nJ;split
 .exact CB.zero _
 split
 .exact CB.zero _
 .rename_i h2
  have hk:¬(s.jH=true∨jB l hI hF s.hS=false∨(lm l hI hF s.hS jq s.h 0).h6=4):=by unfold me at h2;simpa using h2
  have m:jB l hI hF s.hS=true:=by
   cases he:jB l hI hF s.hS with
   |true=>rfl
   |false=>exact EK (.inr (.inl he)) hk
  have hr: -1<=s.hS/\s.hS<l.length:=by
   by_cases ho:s.hS<0∨(l.length:Int)<=s.hS
   .unfold jB at m;rw[j6 ho]at m;simp at m
   .omega
  have hn:=ue (hI:=hI) (hF:=hF) jq s.h 0 hv hr.1 hr.2;have ap:=sd l hI hF s.hS jq s.h 0;obtain⟨e,he⟩:=nm_ (lm l hI hF s.hS jq s.h 0);rw[<-he]at hk hn ap |-;clear he
  have b7:¬e.h6=4:=λx=>hk (.inr (.inr x))
  obtain⟨_,_,bn,bI,_⟩:=hn.resolve_left b7;have g:=ap.nw;have a:=y_ s.h e;obtain⟨bo,a2,y,o,d,aK,v,c6,i,q⟩:=h;have V:(s.h7.length:Int)<=((k+1:Nat):Int)*500000:=o_
  show CB (k+1) (ox l k2 s e)
  unfold ox;split
  .refine⟨?_,?_,?_,?_,d,?_,?_,?_,?_,?_⟩
   .show((mC l s.h s.hS _).length:Int)<=2+((k+1:Nat):Int)*500000
    rw[xw];omega
   .show((s.h7++[_]).length:Int)<=((k+1:Nat):Int)*500000
    rw[J_,Gw];omega
   .show -1<=s.hS+1
    omega
   .show s.hS+1<=3000
    omega
   .show s.iR<=((k+1:Nat):Int)
    omega
   .show 0<=s.hM+1
    omega
   .exact LC
   .show 0<=s.jp+1
    omega
   .show s.jp+1<=((k+1:Nat):Int)
    omega
  split
  .refine⟨?_,?_,y,o,d,?_,?_,?_,i,?_⟩
   .show((kY s.h e).length:Int)<=2+((k+1:Nat):Int)*500000
    omega
   .exact V
   .show s.iR<=((k+1:Nat):Int)
    omega
   .show 0<=s.hM+1
    omega
   .exact LC
   .exact LH
  .refine⟨?_,?_,bn,?_,d,?_,?_,?_,i,?_⟩
   .show((kY s.h e).length:Int)<=2+((k+1:Nat):Int)*500000
    omega
   .exact V
   .show e.pc<=3000
    omega
   .show s.iR<=((k+1:Nat):Int)
    omega
   .show 0<=s.hM+1
    omega
   .exact LC
   .exact LH
theorem CB.commit{k:Nat}{s:pY}{t:i3}(h:CB k s)(ht:TF t)(ok:Bool):CB (k+1) (kI ok s t).1:=by
 unfold kI;split
 .exact CB.zero _
 split
 .exact CB.zero _
 split
 .exact CB.zero _
 obtain⟨bo,a2,y,o,d,aK,v,c6,i,q⟩:=h;have a:=xS s.h t;have h1:=ht.sm.nw;have h2:=ht.sm.h7;have h3:=ht.s0;have au:=ht.s1;have aq:=ht.n0;have aU:=ht.n1
 show CB (k+1) (lQ s t)
 unfold lQ;split
 .refine⟨?_,?_,aq,aU,?_,?_,?_,?_,i,?_⟩
  .show((lG s.h t).length:Int)<=2+((k+1:Nat):Int)*500000
   omega
  .exact Ll
  .show 0<=s.iR+1
   omega
  .show s.iR+1<=((k+1:Nat):Int)
   omega
  .show 0<=s.hM+t.hM
   omega
  .show s.hM+t.hM<=((k+1:Nat):Int)*3001
   omega
  .exact LH
 .refine⟨?_,?_,y,o,?_,?_,?_,?_,i,?_⟩
  .show((lG s.h t).length:Int)<=2+((k+1:Nat):Int)*500000
   omega
  .exact Ll
  .show 0<=s.iR+1
   omega
  .show s.iR+1<=((k+1:Nat):Int)
   omega
  .show 0<=s.hM+t.hM
   omega
  .show s.hM+t.hM<=((k+1:Nat):Int)*3001
   omega
  .exact LH
theorem ux.cb{l:List In}{hI hF:Int}{d k2:List Int}{k:Nat}{run:Int}{s:pY}(hv:ic l hI hF=true)(h:ux l hI hF d k2 k run s):CB k s/\0<=run/\run<=k:=by
 have hb:=kl hv
 induction h with
 |hS=>exact⟨CB.begin hI,d_,d_⟩
 |ask _ _ _ Z=>exact⟨Z.1.ask hv,Z.2.1,ov Z.2.2⟩
 |commit _ _ _ Z=>exact⟨Z.1.commit (rf hv hb.2.1 _ _) true,ov Z.2.1,ov Z.2.2⟩
section
def GV(P:Int->Prop)(v:Vl):Prop:=v.r=true->P v.n
def GO(P:Int->Prop)(o:Ob):Prop:=P o.id/\∀v∈o.fs,GV P v
structure XF(P:Int->Prop)(x:XP):Prop where
 zero:P 0
 h:∀o∈x.h,GO P o
 sr:∀i,GV P (x.sr i)
 r:∀i,GV P (x.e.r i)
 rs:∀c∈x.e.rs,(P c.id∨c.id=1)/\GV P c.v
 ws:∀c∈x.e.ws,(P c.id∨c.id=1)/\GV P c.v
 nw:x.e.nw=[]
 v:GV P x.e.v
def XO(P:Int->Prop)(x:XP):Prop:=x.hO=true∨XF P x
variable{P:Int->Prop}
theorem GV.num(n:Int):GV P ⟨false,n⟩:=λh=>by simp at h
theorem GV.default:GV P (default:Vl):=GV.num _
theorem s9{h:List Ob}(ay:∀o∈h,GO P o){id f:Int}{v:Vl}(e:jx h id f=some v):GV P v:=by
 obtain⟨k,hk,_,_,_,hf,aG⟩:=qe e;rw[<-aG];exact(ay _ (N_ hk)).2 _ (N_ hf)
theorem XF.read{x:XP}(hx:XF P x)(id f:Int)(hid:P id∨id=1):XO P (hX x id f).1/\GV P (hX x id f).2:=by
 unfold hX;split
 .exact⟨.inl rfl,GV.default⟩
 .rename_i v e;have hv:=s9 hx.h e;split
  .exact⟨.inr hx,hv⟩
  .refine⟨.inr {hx with rs:=λc hc=>?_},hv⟩
   rcases X_.1 hc with hc|hc
   .exact hx.rs c hc
   .rw[I_]at hc;subst hc;exact⟨hid,hv⟩
theorem XF.write{x:XP}(hx:XF P x)(id f:Int)(v:Vl)(hid:P id∨id=1)(hv:GV P v):XF P (ib x id f v):=by
 refine{hx with ws:=λc hc=>?_}
 rcases X_.1 hc with hc|hc
 .exact hx.ws c hc
 .rw[I_]at hc;subst hc;exact⟨hid,hv⟩
theorem XF.brk{x:XP}(hx:XF P x)(b:Bool):XF P {x with hO:=b}:={hx with}
theorem XF.DS{x:XP}(hx:XF P x)(k p s:Int)(t:Bool)(v:Vl)(r:Nat->Vl)(hv:GV P v)(hr:∀i,GV P (r i)):XF P {x with e:={x.e with h6:=k,pc:=p,kx:=s,hZ:=t,v:=v,r:=r}}:={hx with r:=hr,v:=hv}
theorem XF.root{x:XP}(hx:XF P x):XF P (iI x):=hx.brk _
theorem XO.read{x:XP}(hx:XO P x)(id f:Int)(hid:x.hO=false->(P id∨id=1)):XO P (hX x id f).1/\((hX x id f).1.hO=false->x.hO=false/\GV P (hX x id f).2):=by
 rcases hx with hb|hx
 .exact JD
 .cases hb:x.hO with
  |true=>
   exact JD
  |false=>
   obtain⟨a,b⟩:=hx.read id f (hid hb);exact⟨a,λ_=>⟨rfl,b⟩⟩
theorem XO.write{x:XP}(hx:XO P x)(id f:Int)(v:Vl)(hid:x.hO=false->(P id∨id=1))(hv:x.hO=false->GV P v):XO P (ib x id f v):=by
 rcases hx with hb|hx
 .exact .inl hb
 .cases hb:x.hO with
  |true=>exact .inl hb
  |false=>exact .inr (hx.write id f v (hid hb) (hv hb))
theorem XF.frame{x:XP}(hx:XF P x):XO P (hU x).1/\((hU x).1.hO=false->P (hU x).2.1):=by
 unfold hU;simp only;split
 .rename_i hb;exact⟨.inl hb,λh=>by rw[hb]at h;cases h⟩
 .obtain⟨a,b⟩:=XO.read (.inr hx.root:XO P (iI x)) 1 0 (λ_=>.inr rfl);refine⟨?_,λh=>?_⟩
  .rcases a with a|a
   .exact .inl (by simp[a])
   .exact .inr (a.brk _)
  .simp only[Bool.or_eq_false_iff]at h
   have hr:(hX (iI x) 1 0).2.r=true:=by have:=h.2.1;simpa using this
   exact(b h.1).2 hr
theorem XO.brk{x:XP}:XO P (kL x):=.inl rfl
theorem XO.BC{x:XP}(hx:XO P x)(k p s:Int)(t:Bool)(v:Vl)(r:Nat->Vl)(hv:XF P x->GV P v)(hr:XF P x->∀i,GV P (r i)):XO P {x with e:={x.e with h6:=k,pc:=p,kx:=s,hZ:=t,v:=v,r:=r}}:=by
 rcases hx with hb|hx
 .exact .inl hb
 .exact .inr (hx.DS k p s t v r (hv hx) (hr hx))
theorem GV.jq(i:Nat):GV P (jq i):=GV.default
theorem XO.frame{x:XP}(hx:XO P x):XO P (hU x).1/\((hU x).1.hO=false->P (hU x).2.1):=Jw
theorem XO.throw{x:XP}(hx:XO P x)(v:Vl)(hv:GV P v):XO P (jm x v):=by
 have hf:XO P (hU x).1/\((hU x).1.hO=false->P (hU x).2.1):=Jw;unfold jm;simp only;generalize hU x=a at*;obtain⟨C,d⟩:=hf;split
 .exact C
 .obtain⟨aQ,bU⟩:=C.read a.2.1 2 (λh=>.inl (d h));generalize hX a.1 a.2.1 2=b at*;split
  .exact XO.brk
  split
  .have h1:XO P (ib b.1 a.2.1 2 default):=aQ.write _ _ _ (λh=>.inl (d (bU h).1)) (λ_=>GV.default);have h2:XO P (ib (ib b.1 a.2.1 2 default) 1 2 v):=KM;exact h2.BC _ _ _ _ _ _ (λh=>h.v) (λ_=>GV.jq)
  .obtain⟨bE,aS⟩:=aQ.read a.2.1 0 (λh=>.inl (d (bU h).1));generalize hX b.1 a.2.1 0=p at*;split
   .exact XO.brk
   split
   .exact bE.BC _ _ _ _ _ _ (λ_=>hv) (λh=>h.sr)
   .have h1:XO P (ib p.1 1 0 p.2):=by
     rcases bE with h|h
     .exact .inl h
     .cases hb:p.1.hO with
      |true=>exact .inl hb
      |false=>exact .inr (h.write _ _ _ (.inr rfl) (aS hb).2)
    have h2:XO P (ib (ib p.1 1 0 p.2) 1 2 v):=KM;exact h2.BC _ _ _ _ _ _ (λh=>h.v) (λ_=>GV.jq)
theorem XO.fault{x:XP}(hx:XO P x)(n:Int):XO P (jk x n):=hx.throw _ (GV.num n)
theorem XO.reg{x:XP}(hx:XO P x)(a:Int)(v:Vl)(hv:XF P x->GV P v):XO P (kW x a v):=by
 rcases hx with hb|hx
 .exact .inl hb
 .refine .inr {hx with r:=λi=>?_}
  show GV P (q2 x.e.r a v i)
  unfold q2;split
  .exact hv hx
  .exact hx.r i
theorem XO.go{x:XP}(hx:XO P x)(pc:Int):XO P (tD x pc):=by
 rcases hx with hb|hx
 .exact .inl hb
 .exact .inr {hx with}
theorem XF.object{x:XP}(hx:XF P x)(v:Vl)(f:Int)(hv:GV P v):XO P (iz x v f).1/\P (iz x v f).2.1:=by
 unfold iz;split
 .exact LA
 split
 .exact LA
 split
 .exact⟨XO.brk,hx.zero⟩
 split
 .exact LA
 .rename_i h1 _ _ _ _ _;exact⟨.inr hx,hv (zu h1)⟩
theorem XO.variable{x:XP}(hx:XO P x)(n:Int):XO P (hJ x n).1/\((hJ x n).1.hO=false->(hJ x n).2.2.2=true->P (hJ x n).2.1):=by
 obtain⟨h1,h2⟩:=hx.frame;unfold hJ;simp only;generalize hU x=a at*;split
 .exact⟨h1,λ_ h=>by cases h⟩
 split
 .exact⟨h1.fault _,λ_ h=>by cases h⟩
 .exact⟨h1,λh _=>h2 h⟩
theorem qY(op:Int)(a b:Vl):GV P (iF op a b).1:=by
 have h:(iF op a b).1.r=false:=by
  unfold iF;split
  .rfl
  split
  .rfl
  unfold pG
  repeat' split
  all_goals rfl
 intro h2;rw[h]at h2
 cases h2
theorem XF.ik{x y:XP}(hx:XF P x)(i:In)(h:jU x i=some y):XO P y:=by
 have ho:XO P x:=.inr hx;unfold jU at h
 refine iv (R:=XO P) h (λ_=>ho) λ_ h=>?_
 refine iv (R:=XO P) h (λ_=>ho.reg _ _ λ_=>GV.num _) λ_ h=>?_
 refine iv (R:=XO P) h (λ_=>ho.reg _ _ λ_ _=>hx.zero) λ_ h=>?_
 refine iv (R:=XO P) h (λ_=>ho.reg _ _ λ_=>hx.r _) λ_ h=>?_
 refine iv (R:=XO P) h (λ_=>?_) λ_ h=>?_
 .split
  .exact ho.fault _
  .exact ho.reg _ _ λ_=>qY _ _ _
 refine iv (R:=XO P) h (λ_=>ho.go _) λ_ h=>?_
 refine iv (R:=XO P) h (λ_=>?_) λ_ h=>?_
 .split
  .exact ho
  .exact ho.go _
 refine iv (R:=XO P) h (λ_=>.inr {hx with r:=GV.jq}) λ_ h=>?_
 refine iv (R:=XO P) h (λ_=>ho.throw _ (hx.r _)) λ_ h=>?_
 refine iv (R:=XO P) h (λ_=>?_) λ_ h=>?_
 .split
  .exact ho.fault _
  .exact .inr {hx with}
 cases h
theorem XF.hI{x y:XP}(hx:XF P x)(i:In)(h:kK x i=some y):XO P y:=by
 have ho:XO P x:=.inr hx;have ha:∀k,GV P (x.sr k):=hx.sr;unfold kK at h
 by_cases h1:i.op≠8/\i.op≠9/\i.op≠10/\i.op≠20
 .rw[T_ h1]at h
  cases h
 rw[Q_ h1]at h;obtain⟨hv1,aV⟩:=XO.variable ho i.n;dsimp only at h;generalize hJ x i.n=a at*
 by_cases hb:a.2.2.2=false
 .rw[T_ hb]at h;injection h with h;subst h;exact hv1
 rw[Q_ hb]at h
 have hid:a.1.hO=false->P a.2.1:=λh=>aV h (zu hb)
 refine iv (R:=XO P) h (λ_=>hv1.write _ _ _ (λh=>.inl (hid h)) (λ_=>ha _)) λ_ h=>?_
 obtain⟨a8,bo⟩:=hv1.read a.2.1 a.2.2.1 (λh=>.inl (hid h));generalize hX a.1 a.2.1 a.2.2.1=z at*
 have c:z.1.hO=false->GV P z.2:=λh=>(bo h).2
 have d:z.1.hO=false->P a.2.1:=λh=>hid (bo h).1
 have b:∀{u:XP},(z.1.hO=true->u.hO=true)->(z.1.hO=false->XF P z.1->XO P u)->XO P u:=by
  intro u h1 h2
  cases hb:z.1.hO with
  |true=>exact .inl (h1 hb)
  |false=>exact h2 hb (a8.resolve_left (by rw[hb];simp))
 refine iv (R:=XO P) h (λ_=>b (λh=>h) (λh hf=>(XO.reg (.inr hf) _ _ λ_=>c h))) λ_ h=>?_
 by_cases h10:i.op=10
 .rw[T_ h10]at h
  refine iv (R:=XO P) h (λ_=>a8.fault _) λ_ h=>?_
  injection h with h;subst h;have hu:=a8.write a.2.1 a.2.2.1 (iF i.b z.2 (x.sr i.a.toNat)).1 (λh=>.inl (d h)) (λ_=>qY _ _ _)
  rcases hu with hb|hf
  .exact .inl hb
  .exact .inr {hf with}
 rw[Q_ h10]at h
 refine iv (R:=XO P) h (λ_=>a8.fault _) λ_ h=>?_
 injection h with h;subst h;exact b (λh=>h) (λh hf=>.inr {hf with r:=hf.sr,v:=c h})
structure EF(P:Int->Prop)(e:pX):Prop where
 r:∀i,GV P (e.r i)
 rs:∀c∈e.rs,(P c.id∨c.id=1)/\GV P c.v
 ws:∀c∈e.ws,(P c.id∨c.id=1)/\GV P c.v
 nw:∀o∈e.nw,GO P o
 v:GV P e.v
def EN(P:Int->Prop)(nx:Int)(e:pX):Prop:=(EF P e/\e.nw=[])∨(EF (λn=>P n∨n=nx) e/\∃fs,e.nw=[⟨nx,fs⟩])
def XR(P:Int->Prop)(nx:Int)(y:XP):Prop:=y.hO=true∨EN P nx y.e
theorem GV.mono{P Q:Int->Prop}(h:∀n,P n->Q n){v:Vl}(hv:GV P v):GV Q v:=λhr=>h _ (hv hr)
theorem GO.mono{P Q:Int->Prop}(h:∀n,P n->Q n){o:Ob}(ho:GO P o):GO Q o:=⟨h _ ho.1,λv hv=>(ho.2 v hv).mono h⟩
theorem XF.en{x:XP}(hx:XF P x)(nx:Int):EN P nx x.e:=.inl ⟨⟨hx.r,hx.rs,hx.ws,λo ho=>(by rw[hx.nw]at ho;cases ho),hx.v⟩,hx.nw⟩
theorem XO.xr{x:XP}(hx:XO P x)(nx:Int):XR P nx x:=hx.elim .inl λh=>.inr (h.en nx)
theorem zp(x:XP)(id f:Int):(hX x id f).1.nx=x.nx:=by
 unfold hX;split
 .rfl
 .split<;>rfl
theorem ye(x:XP):(hU x).1.nx=x.nx:=by
 unfold hU;simp only;split
 .rfl
 .show(hX (iI x) 1 0).1.nx=_
  rw[zp]
  rfl
theorem XF.rest{x:XP}(hx:XF P x)(i:In):XR P x.nx (j2 x i):=by
 have ho:XO P x:=.inr hx;have ha:∀k,GV P (x.sr k):=hx.sr
 have hP:∀n,P n->(P n∨n=x.nx):=λn h=>.inl h
 unfold j2;dsimp only
 by_cases aq:i.op=5
 .rw[T_ aq];refine XO.xr ?_ _;obtain⟨h1,h2⟩:=hx.object (x.sr i.b.toNat) i.n (ha _);generalize iz x (x.sr i.b.toNat) i.n=y at*
  by_cases hy:y.2.2=true
  .rw[T_ hy];obtain⟨a8,bo⟩:=h1.read y.2.1 i.n (λ_=>.inl h2);generalize hX y.1 y.2.1 i.n=z at*;exact KI
  .rw[Q_ hy];exact h1
 rw[Q_ aq]
 by_cases aU:i.op=6
 .rw[T_ aU];refine XO.xr ?_ _;obtain⟨h1,h2⟩:=hx.object (x.sr i.b.toNat) i.n (ha _);generalize iz x (x.sr i.b.toNat) i.n=y at*
  by_cases hy:y.2.2=true
  .rw[T_ hy];exact h1.write _ _ _ (λ_=>.inl h2) (λ_=>ha _)
  .rw[Q_ hy];exact h1
 rw[Q_ aU]
 by_cases bG:i.op=7
 .rw[T_ bG];refine .inr (.inr ⟨⟨λj=>?_,λc hc=>⟨(hx.rs c hc).1.imp_left .inl,(hx.rs c hc).2.mono hP⟩,λc hc=>⟨(hx.ws c hc).1.imp_left .inl,(hx.ws c hc).2.mono hP⟩,λo ho=>?_,hx.v.mono hP⟩,_,rfl⟩)
  .show GV _ (q2 x.e.r i.a ⟨true,x.nx⟩ j)
   unfold q2;split
   .exact λ_=>.inr rfl
   .exact(hx.r j).mono hP
  .have e:o=⟨x.nx,List.replicate i.n.toNat default⟩:=I_.1 ho;rw[e];exact⟨.inr rfl,λv hv=>by rw[(Hd.1 hv).2];exact GV.default⟩
 rw[Q_ bG]
 by_cases h13:i.op=13
 .rw[T_ h13];obtain⟨C,d⟩:=hx.frame;have hn:=ye x;generalize hU x=y at*
  cases hb:y.1.hO with
  |true=>exact .inl rfl
  |false=>
   have hf:XF P y.1:=C.resolve_left (by rw[hb];simp);have hk:=d hb;refine .inr (.inr ⟨⟨λj=>(hf.r j).mono hP,λc hc=>⟨(hf.rs c hc).1.imp_left .inl,(hf.rs c hc).2.mono hP⟩,λc hc=>?_,λo ho=>?_,hf.v.mono hP⟩,_,by rw[<-hn];rfl⟩)
   .rcases X_.1 hc with hc|hc
    .exact⟨(hf.ws c hc).1.imp_left .inl,(hf.ws c hc).2.mono hP⟩
    .have e:c=⟨1,0,⟨true,y.1.nx⟩⟩:=I_.1 hc;rw[e];exact⟨.inr rfl,λ_=>.inr hn⟩
   .have e:o=⟨y.1.nx,[⟨true,y.2.1⟩,⟨false,y.1.jY+1⟩,default]++((List.range i.b.toNat).map y.1.sr++List.replicate (i.c-i.b).toNat default)⟩:=I_.1 ho;rw[e];refine⟨.inr hn,λv hv=>?_⟩
    rcases X_.1 hv with hv|hv
    .rcases L_.1 hv with e|hv
     .rw[e]
      exact λ_=>.inl hk
     rcases L_.1 hv with e|hv
     .rw[e];exact GV.num _
     .rw[I_.1 hv];exact GV.default
    .rcases X_.1 hv with hv|hv
     .obtain⟨j,_,e⟩:=EM.1 hv;rw[<-e];exact(hf.sr j).mono hP
     .rw[(Hd.1 hv).2];exact GV.default
 rw[Q_ h13];refine XO.xr ?_ _
 by_cases q:i.op=14
 .rw[T_ q];obtain⟨C,d⟩:=hx.frame;generalize hU x=y at*
  by_cases hb:y.1.hO=true
  .rw[T_ hb];exact C
  rw[Q_ hb];have hb:y.1.hO=false:=zu hb;obtain⟨bE,aS⟩:=C.read y.2.1 0 (λh=>.inl (d h));generalize hX y.1 y.2.1 0=p at*
  by_cases h1:p.2.r=true/\p.2.n=0
  .rw[T_ h1];exact bE.BC _ _ _ _ _ _ (λ_=>ha _) (λh=>h.sr)
  rw[Q_ h1];obtain⟨bJ,f⟩:=bE.read y.2.1 1 (λh=>.inl (d (aS h).1));generalize hX p.1 y.2.1 1=r at*;split
  .exact XO.brk
  .have bn:XO P (ib r.1 1 0 p.2):=bJ.write _ _ _ (λ_=>.inr rfl) (λh=>(aS (f h).1).2);have bI:XO P (ib (ib r.1 1 0 p.2) 1 1 (x.sr i.a.toNat)):=bn.write _ _ _ (λ_=>.inr rfl) (λ_=>ha _);exact bI.go _
 rw[Q_ q]
 by_cases s:i.op=15∨i.op=18
 .rw[T_ s];have hr:=hx.root;generalize iI x=y at*
  by_cases hb:y.hO=true
  .rw[T_ hb];exact .inl hb
  rw[Q_ hb];obtain⟨a8,bo⟩:=XO.read (.inr hr:XO P y) 1 (if i.op=15 then 1 else 2) (λ_=>.inr rfl);generalize hX y 1 (if i.op=15 then 1 else 2)=z at*;exact KI
 rw[Q_ s]
 by_cases g:i.op=17
 .rw[T_ g];obtain⟨C,d⟩:=hx.frame;generalize hU x=y at*;exact C.write _ _ _ (λh=>.inl (d h)) (λ_=>GV.num _)
 rw[Q_ g];exact ho
theorem XF.DV{x:XP}(hx:XF P x)(pc:Int):XR P x.nx (p2 x pc):=by
 unfold p2;split
 .dsimp only;split
  .exact .inl ‹_›
  .have hr:=hx.root;obtain⟨a8,bo⟩:=XO.read (.inr hr:XO P (iI x)) 1 2 (λ_=>.inr rfl);generalize hX (iI x) 1 2=z at*
   cases hb:z.1.hO with
   |true=>
    refine XO.xr ?_ _;unfold jm hU iI;dsimp only;simp only[hb,G6,if_true];exact .inl rfl
   |false=>exact(a8.throw _ (bo hb).2).xr _
 .dsimp only;split
  .rename_i y hy;exact(hx.ik _ hy).xr _
  .split
   .rename_i y hy;exact(hx.hI _ hy).xr _
   .exact hx.rest _
theorem EF.hO:EF P jg:=⟨λ_=>GV.default,λc hc=>(by cases hc),λc hc=>(by cases hc),λc hc=>(by cases hc),GV.default⟩
theorem XF.Dd{x:XP}(hx:XF P x)(pc:Int)(hp:pc≠ -1)(d:(x.js.getD pc.toNat default).op=20):XO P (p2 x pc):=by
 unfold p2;rw[Q_ hp];dsimp only;split
 .rename_i y hy;exact hx.ik _ hy
 .split
  .rename_i y hy;exact hx.hI _ hy
  .rename_i hy
   exfalso
   unfold kK at hy;rw[Q_ (λh=>h.2.2.2 d)]at hy;dsimp only at hy;split at hy
   .cases hy
   rw[Q_ (by rw[d];decide),Q_ (by rw[d];decide),Q_ (by rw[d];decide)]at hy;split at hy<;>cases hy
theorem Bw{h:List Ob}{r:Nat->Vl}(c:List In)(hI hF pc nx:Int)(h0:P 0)(ay:∀o∈h,GO P o)(hr:∀i,GV P (r i)):EN P nx (lm c hI hF pc r h nx):=by
 unfold lm;split
 .exact .inl ⟨EF.hO,rfl⟩
 .dsimp only;have hx:XF P ⟨c,hI,hF,pc,r,h,nx,{l0 with pc:=pc+1,r:=r},false⟩:=⟨h0,ay,hr,hr,λc hc=>(by cases hc),λc hc=>(by cases hc),rfl,GV.default⟩;have ho:=hx.DV pc;split
  .exact .inl ⟨EF.hO,rfl⟩
  .rename_i hb;exact ho.resolve_left hb
theorem uf{h:List Ob}{r:Nat->Vl}(c:List In)(hI hF pc nx:Int)(d:iA c pc=20)(h0:P 0)(ay:∀o∈h,GO P o)(hr:∀i,GV P (r i)):EF P (lm c hI hF pc r h nx)/\(lm c hI hF pc r h nx).nw=[]:=by
 have u1:¬(pc<0∨(c.length:Int)<=pc):=by
  intro h;unfold iA at d;rw[T_ h]at d
  cases d
 have d:(c.getD pc.toNat default).op=20:=by unfold iA at d;rw[Q_ u1]at d;exact d
 unfold lm;split
 .exact⟨EF.hO,rfl⟩
 .dsimp only;have hx:XF P ⟨c,hI,hF,pc,r,h,nx,{l0 with pc:=pc+1,r:=r},false⟩:=⟨h0,ay,hr,hr,λc hc=>(by cases hc),λc hc=>(by cases hc),rfl,GV.default⟩;have ho:=hx.Dd pc o_ d;split
  .exact⟨EF.hO,rfl⟩
  .rename_i hb;have hf:=ho.resolve_left hb;exact⟨⟨hf.r,hf.rs,hf.ws,λo ho=>(by rw[hf.nw]at ho;cases ho),hf.v⟩,hf.nw⟩
end
section
def HG(P:Int->Prop)(h:List Ob):Prop:=∀o∈h,GO P o
variable{P:Int->Prop}
theorem HG.mono{P Q:Int->Prop}(h:∀n,P n->Q n){l:List Ob}(hl:HG P l):HG Q l:=λo ho=>(hl o ho).mono h
theorem HG.nil:HG P []:=λo ho=>by cases ho
theorem HG.kO{h:List Ob}(ay:HG P h)(id f:Int){v:Vl}(hv:GV P v):HG P (kO h id f v):=by
 intro o ho;unfold Go.Proofs.YtenbhdilndfaeaaGreat.kO at ho;obtain⟨k,hk,e⟩:=F3 ho;rw[GI]at hk;rw[Fy]at e;have hm:=ay _ (N_ hk);split at e
 .rw[<-e];refine⟨hm.1,λu hu=>?_⟩
  rcases EU hu with hu|hu
  .exact hm.2 u hu
  .rw[hu];exact hv
 .rw[<-e];exact hm
theorem HG.put{h:List Ob}(ay:HG P h){o:Ob}(ho:GO P o):HG P (lp h o):=by
 have hp:∀(a b:List Ob),(∀x∈a,GO P x)->(∀x∈b,GO P x)->HG P (a++[o]++b):=by
  intro a b ha hb x hx
  rcases X_.1 hx with hx|hx
  .rcases X_.1 hx with hx|hx
   .exact ha x hx
   .rw[I_.1 hx];exact ho
  .exact hb x hx
 unfold lp;split
 .exact hp _ _ (λx hx=>ay x (Ff hx)) (λx hx=>ay x (Gh hx))
 .exact hp _ _ (λx hx=>ay x (Ff hx)) (λx hx=>ay x (Gh hx))
theorem HG.puts:∀(l:List Ob) {h:List Ob},HG P h->HG P l->HG P (l.foldl lp h)
 |[],_,ay,_=>ay
 |o::l,_,ay,hl=>HG.puts l (ay.put (hl o E6)) (λx hx=>hl x (EQ _ hx))
theorem HG.qF{h:List Ob}(ay:HG P h){c:Cl}(hc:GV P c.v):HG P (qF h c):=by
 unfold Go.Proofs.YtenbhdilndfaeaaGreat.qF;split
 .exact ay
 .exact ay.kO _ _ hc
theorem HG.i7:∀(l:List Cl) {h:List Ob},HG P h->(∀c∈l,GV P c.v)->HG P (i7 h l)
 |[],_,ay,_=>ay
 |c::l,_,ay,hl=>HG.i7 l (ay.qF (hl c E6)) (λx hx=>hl x (EQ _ hx))
theorem HG.o0{h:List Ob}(ay:HG P h)(d:Dl):HG P (o0 h d):=by
 unfold Go.Proofs.YtenbhdilndfaeaaGreat.o0;split
 .exact ay
 .split
  .exact ay.kO _ _ (qY _ _ _)
  .exact ay
theorem HG.kf:∀(l:List Dl) {h:List Ob},HG P h->HG P (kf h l)
 |[],_,ay=>ay
 |d::l,_,ay=>HG.kf l (ay.o0 d)
structure TG(P:Int->Prop)(t:i3):Prop where
 gs:∀c∈t.gs,GV P c.v
 rs:∀c∈t.rs,(P c.id∨c.id=1)/\GV P c.v
 ws:∀c∈t.ws,(P c.id∨c.id=1)/\GV P c.v
 nw:HG P t.nw
 r:∀i,GV P (t.r i)
 v:GV P t.v
theorem TG.mono{P Q:Int->Prop}(h:∀n,P n->Q n){t:i3}(ht:TG P t):TG Q t:=
 ⟨λc hc=>(ht.gs c hc).mono h,λc hc=>⟨(ht.rs c hc).1.imp_left (h _),(ht.rs c hc).2.mono h⟩,λc hc=>⟨(ht.ws c hc).1.imp_left (h _),(ht.ws c hc).2.mono h⟩,ht.nw.mono h,λi=>(ht.r i).mono h,ht.v.mono h⟩
theorem HG.wb{rs:List Cl}:∀(l:List Cl) {h:List Ob},HG P h->(∀c∈l,GV P c.v)->HG P (l.foldl (kD rs) h)
 |[],_,ay,_=>ay
 |c::l,h,ay,hl=>by
  refine HG.wb l ?_ (λx hx=>hl x (EQ _ hx));unfold kD;split
  .exact HG.i7 [c] ay (λx hx=>by rw[I_.1 hx];exact hl c E6)
  .exact ay
theorem TG.before{t:i3}(ht:TG P t)(hv:HG P view):HG P (before t view):=
 HG.i7 _ (HG.wb _ hv ht.gs) (λc hc=>(ht.rs c hc).2)
theorem TG.jr{t:i3}(ht:TG P t)(hv:HG P view):HG P (jr t view):=
 HG.kf _ (HG.i7 _ (HG.puts _ (ht.before hv) ht.nw) (λc hc=>(ht.ws c hc).2))
theorem TG.lG{t:i3}(ht:TG P t){h:List Ob}(ay:HG P h):HG P (lG h t):=
 HG.kf _ (HG.i7 _ (HG.puts _ ay ht.nw) (λc hc=>(ht.ws c hc).2))
theorem s5{l:List Cl}{c x:Cl}(hx:x∈kw l c):x∈l∨x=c:=by
 unfold kw at hx;split at hx
 .exact EU hx
 .rcases X_.1 hx with hx|hx
  .exact .inl (Ff hx)
  .rcases X_.1 hx with hx|hx
   .exact .inr (I_.1 hx)
   .exact .inl (Gh hx)
theorem TG.jX{t:i3}(ht:TG P t){c:Cl}(hi:P c.id∨c.id=1)(hc:GV P c.v):TG P (jX t c):=by
 unfold Go.Proofs.YtenbhdilndfaeaaGreat.jX;split
 .refine{ht with ws:=λx hx=>?_}
  rcases s5 hx with hx|hx
  .exact ht.ws x hx
  .rw[hx];exact⟨hi,hc⟩
 .refine{ht with nw:=λo ho=>?_};obtain⟨k,hk,e⟩:=F3 ho;rw[GI]at hk;rw[Fy]at e;have hm:=ht.nw _ (N_ hk);split at e
  .rw[<-e];refine⟨hm.1,λu hu=>?_⟩;unfold ug at hu;dsimp only at hu;split at hu
   .rcases EU hu with hu|hu
    .exact hm.2 u hu
    .rw[hu];exact hc
   .exact hm.2 u hu
  .rw[<-e];exact hm
theorem sB(t:i3)(c:Cl):(jX t c).nw.map Ob.id=t.nw.map Ob.id:=by
 unfold jX;split
 .rfl
 .exact Lk
theorem TG.jw{t t':i3}(ht:TG P t)(hv:HG P view){id f:Int}(hi:P id∨id=1)(hs:jw t view id f=some t'):TG P t'/\t'.nw.map Ob.id=t.nw.map Ob.id:=by
 unfold Go.Proofs.YtenbhdilndfaeaaGreat.jw at hs;split at hs
 .injection hs with hs;subst hs;exact⟨ht,rfl⟩
 split at hs
 .cases hs
 .rename_i b hb;have ah:=s9 (ht.before hv) hb;split at hs
  .cases hs
  .injection hs with hs;subst hs
   have hx:TG P {t with rs:=kw t.rs ⟨id,f,b⟩,ds:=t.ds.eraseIdx (o2 t.ds id f).toNat}:=by
    refine{ht with rs:=λx hx=>?_}
    rcases s5 hx with hx|hx
    .exact ht.rs x hx
    .rw[hx];exact⟨hi,ah⟩
   refine⟨hx.jX hi ?_,sB _ _⟩
   show GV P ((jx (Go.Proofs.YtenbhdilndfaeaaGreat.jr t view) id f).getD default)
   cases am:jx (Go.Proofs.YtenbhdilndfaeaaGreat.jr t view) id f with
   |none=>exact GV.default
   |some q=>exact s9 (ht.jr hv) am
theorem TG.take{t t':i3}(ht:TG P t){d:Dl}(hs:take t d=some t'):TG P t'/\t'.nw=t.nw:=by
 unfold Go.Proofs.YtenbhdilndfaeaaGreat.take at hs;split at hs
 .cases hs
 split at hs
 .injection hs with hs;subst hs;exact⟨{ht with},rfl⟩
 split at hs
 .cases hs
 .injection hs with hs;subst hs;exact⟨{ht with},rfl⟩
theorem TG.jM:∀(l:List Dl) {t:i3} (rs ws:List Cl),TG P t->TG P (jM t rs ws l).1/\(jM t rs ws l).1.nw=t.nw/\(∀c∈(jM t rs ws l).2.1,c∈rs)/\(∀c∈(jM t rs ws l).2.2,c∈ws)
 |[],_,_,_,ht=>⟨ht,rfl,λ_ h=>h,λ_ h=>h⟩
 |d::l,t,rs,ws,ht=>by
  unfold Go.Proofs.YtenbhdilndfaeaaGreat.jM
  cases hk:Go.Proofs.YtenbhdilndfaeaaGreat.take t d with
  |none=>exact TG.jM l rs ws ht
  |some t'=>
   obtain⟨a,b⟩:=ht.take hk;obtain⟨c1,ai,aC,c4⟩:=TG.jM l (jI rs d) (jI ws d) a;exact⟨c1,ai.trans b,λc hc=>(Gm.1 (aC c hc)).1,λc hc=>(Gm.1 (c4 c hc)).1⟩
theorem TG.j1{view:List Ob}(hv:HG P view):∀(l:List Cl) {t t':i3},TG P t->(∀c∈l,(P c.id∨c.id=1)/\GV P c.v)->j1 view t l=some t'->TG P t'/\t'.nw.map Ob.id=t.nw.map Ob.id
 |[],t,t',ht,_,hs=>by injection hs with hs;subst hs;exact⟨ht,rfl⟩
 |c::l,t,t',ht,hl,hs=>by
  unfold Go.Proofs.YtenbhdilndfaeaaGreat.j1 at hs
  cases hr:p8 view t c with
  |none=>rw[hr]at hs;cases hs
  |some t1=>
   rw[hr]at hs;have hc:=hl c E6
   have h1:TG P t1/\t1.nw.map Ob.id=t.nw.map Ob.id:=by
    unfold p8 at hr;split at hr
    .injection hr with hr;subst hr;exact⟨ht,rfl⟩
    split at hr
    .exact ht.jw hv hc.1 hr
    .injection hr with hr;subst hr;refine⟨{ht with rs:=λx hx=>?_},rfl⟩
     rcases s5 hx with hx|hx
     .exact ht.rs x hx
     .rw[hx];exact hc
   obtain⟨a,b⟩:=TG.j1 hv l h1.1 (λx hx=>hl x (EQ _ hx)) hs;exact⟨a,b.trans h1.2⟩
theorem TG.km{view:List Ob}(hv:HG P view):∀(l:List Cl) {t t':i3},TG P t->(∀c∈l,(P c.id∨c.id=1)/\GV P c.v)->km view t l=some t'->TG P t'/\t'.nw.map Ob.id=t.nw.map Ob.id
 |[],t,t',ht,_,hs=>by injection hs with hs;subst hs;exact⟨ht,rfl⟩
 |c::l,t,t',ht,hl,hs=>by
  unfold Go.Proofs.YtenbhdilndfaeaaGreat.km at hs
  cases hr:rQ view t c with
  |none=>rw[hr]at hs;cases hs
  |some t1=>
   rw[hr]at hs;have hc:=hl c E6
   have h1:TG P t1/\t1.nw.map Ob.id=t.nw.map Ob.id:=by
    unfold rQ at hr
    cases am:Go.Proofs.YtenbhdilndfaeaaGreat.jw t view c.id c.f with
    |none=>rw[am]at hr;cases hr
    |some af=>
     rw[am]at hr;injection hr with hr;subst hr;obtain⟨a,b⟩:=ht.jw hv hc.1 am;exact⟨a.jX hc.1 hc.2,(sB _ _).trans b⟩
   obtain⟨a,b⟩:=TG.km hv l h1.1 (λx hx=>hl x (EQ _ hx)) hs;exact⟨a,b.trans h1.2⟩
theorem TG.record{t t':i3}(ht:TG P t)(hv:HG P view){e:pX}(he:EF P e)(hs:record t view e=some t'):TG P t'/\t'.nw.map Ob.id=t.nw.map Ob.id++e.nw.map Ob.id:=by
 unfold Go.Proofs.YtenbhdilndfaeaaGreat.record at hs;dsimp only at hs;obtain⟨a1,G,a3,a4⟩:=TG.jM e.ds e.rs e.ws ht;generalize Go.Proofs.YtenbhdilndfaeaaGreat.jM t e.rs e.ws e.ds=a at*
 cases h1:Go.Proofs.YtenbhdilndfaeaaGreat.j1 view a.1 a.2.1 with
 |none=>rw[h1]at hs;cases hs
 |some t1=>
  rw[h1]at hs;dsimp only at hs;obtain⟨b1,b2⟩:=TG.j1 hv _ a1 (λc hc=>he.rs c (a3 c hc)) h1;have hx:TG P {t1 with nw:=t1.nw++e.nw}:={b1 with nw:=λo ho=>(X_.1 ho).elim (b1.nw o) (he.nw o)}
  cases h2:Go.Proofs.YtenbhdilndfaeaaGreat.km view {t1 with nw:=t1.nw++e.nw} a.2.2 with
  |none=>rw[h2]at hs;cases hs
  |some af=>
   rw[h2]at hs;injection hs with hs;subst hs;obtain⟨c1,ai⟩:=TG.km hv _ hx (λc hc=>he.ws c (a4 c hc)) h2;refine⟨{c1 with},?_⟩
   show af.nw.map Ob.id=_
   rw[ai]
   show(t1.nw++e.nw).map Ob.id=_
   rw[EL,b2,G]
def uI(t:i3):Int:=(t.run+1)*1048576+t.nw.length
theorem TG.step{t:i3}(ht:TG P t)(hv:HG P view)(h0:P 0)(c:List In)(hI hF:Int)(d:List Int):
 (TG P (jb c hI hF d t view)/\(jb c hI hF d t view).nw.map Ob.id=t.nw.map Ob.id)∨
 (TG (λn=>P n∨n=uI t) (jb c hI hF d t view)/\(jb c hI hF d t view).nw.map Ob.id=t.nw.map Ob.id++[uI t]):=by
 have hn:=Bw c hI hF t.pc (uI t) h0 (ht.jr hv) ht.r;have hb:TG P (m_ t):={ht with};unfold jb;dsimp only;rw[show(t.run+1)*1048576+(t.nw.length:Int)=uI t from rfl];generalize lm c hI hF t.pc t.r (Go.Proofs.YtenbhdilndfaeaaGreat.jr t view) (uI t)=e at*;split
 .exact .inl ⟨hb,rfl⟩
 split
 .exact .inl ⟨{ht with},rfl⟩
 cases hr:Go.Proofs.YtenbhdilndfaeaaGreat.record t view e with
 |none=>exact .inl ⟨hb,rfl⟩
 |some x=>
  dsimp only
  have fin:∀{Q:Int->Prop} {l:List Int},EF Q e->TG Q x/\x.nw.map Ob.id=l->TG Q (if e.h6=2 then{x with pc:=e.pc,r:=e.r,hM:=x.hM+1,h8:=3,hZ:=e.hZ,v:=e.v}
   else if e.h6=1/\(iY (λz=>z==e.kx) d=true∨64<=x.hM+1∨jB c hI hF e.pc=true) then{x with pc:=e.pc,r:=e.r,hM:=x.hM+1,h8:=2,next:=e.pc}
   else{x with pc:=e.pc,r:=e.r,hM:=x.hM+1})/\(if e.h6=2 then{x with pc:=e.pc,r:=e.r,hM:=x.hM+1,h8:=3,hZ:=e.hZ,v:=e.v}
   else if e.h6=1/\(iY (λz=>z==e.kx) d=true∨64<=x.hM+1∨jB c hI hF e.pc=true) then{x with pc:=e.pc,r:=e.r,hM:=x.hM+1,h8:=2,next:=e.pc}
   else{x with pc:=e.pc,r:=e.r,hM:=x.hM+1}:i3).nw.map Ob.id=l:=by
   intro Q l he⟨h1,h2⟩;split
   .exact⟨{h1 with r:=he.r,v:=he.v},h2⟩
   split
   .exact⟨{h1 with r:=he.r},h2⟩
   .exact⟨{h1 with r:=he.r},h2⟩
  rcases hn with⟨he,g⟩|⟨he,fs,g⟩
  .have h:=ht.record hv he hr;rw[g]at h;exact .inl (fin he (zu h))
  .have h:=(ht.mono (Q:=λn=>P n∨n=uI t) (λn h=>.inl h)).record (hv.mono (λn h=>.inl h)) he hr;rw[g]at h;exact .inr (fin he (zu h))
end
theorem wf64_0:mJ 0:=WalkArith.wf_i64 o_
theorem wf64_1:mJ 1:=WalkArith.wf_i64 o_
theorem wf64_2:mJ 2:=WalkArith.wf_i64 o_
theorem By{t:i3}(h0:0<=t.run)(h1:t.run<=1099511627776)(h2:t.nw.length<=500000):mJ (uI t):=by
 unfold uI;exact WalkArith.wf_i64 o_
theorem TG.zF{t:i3}(ht:TG mJ t)(hv:HG mJ view)(c:List In)(hI hF:Int)(d:List Int)(h0:0<=t.run)(h1:t.run<=1099511627776)(h2:t.nw.length<=500000):TG mJ (jb c hI hF d t view):=by
 rcases ht.step hv wf64_0 c hI hF d with h|h
 .exact h.1
 .exact h.1.mono λn hn=>hn.elim id (λe=>e▸By h0 h1 h2)
theorem TG.zV{l:List In}{hI hF:Int}{d:List Int}{view:List Ob}(hv:ic l hI hF=true)(hl:l.length<=2048)(ay:HG mJ view):∀(n:Nat) (t:i3),(t.h8=0->Way l t)->TF t->TG mJ t->0<=t.run->t.run<=1099511627776->TG mJ (n6 l hI hF d view n t)
 |0,_,_,_,ht,_,_=>ht
 |n+1,t,aM,hf,ht,h0,h1=>by
  unfold n6;split
  .rename_i hs;obtain⟨b1,b2⟩:=qp (d:=d) (view:=view) hv hl (aM hs) hf hs;have hr:=ms l hI hF d t view;exact TG.zV hv hl ay n _ b2 b1 (ht.zF ay l hI hF d h0 h1 hf.sm.nw) (by rw[hr];exact h0) (by rw[hr];exact h1)
  .exact ht
theorem TG.begin{P:Int->Prop}(l:List In)(hI hF hS run:Int)(ik:Bool):TG P (jo l hI hF hS run ik).1:=by
 have z:∀t:i3,t.gs=[]->t.rs=[]->t.ws=[]->t.nw=[]->t.r=jq->t.v=default->TG P t:=λt a b c d e f=>
  ⟨λx hx=>(by rw[a]at hx;cases hx),λx hx=>(by rw[b]at hx;cases hx),λx hx=>(by rw[c]at hx;cases hx),λx hx=>(by rw[d]at hx;cases hx),λi=>by rw[e];exact GV.default,by rw[f];exact GV.default⟩
 unfold jo;split
 .exact LG
 split
 .exact LG
 split
 .exact LG
 .exact LG
theorem nI(l:List In)(hI hF hS run:Int)(ik:Bool):(jo l hI hF hS run ik).1.run=run∨(jo l hI hF hS run ik).1.run=0:=by
 unfold jo;split
 .exact .inr rfl
 split
 .exact .inr rfl
 split
 .exact .inl rfl
 .exact .inl rfl
theorem tp{l:List In}{hI hF:Int}{d:List Int}(hv:ic l hI hF=true)(hl:l.length<=2048){s:pY}{run:Int}(ay:HG mJ s.h)(h0:0<=run)(h1:run<=1099511627776):TG mJ (mW l hI hF d s run):=by
 have hb:=nI l hI hF s.hS run true;exact TG.zV hv hl ay _ _ (λ_=>nH) (pO hl) (TG.begin _ _ _ _ _ _) o_ o_
theorem HG.hS{P:Int->Prop}(hI:Int)(h0:P 0)(h1:P 1)(h2:P 2):HG P (startHeap hI):=by
 have z:∀(n:Int) (k:Nat),P n->∀v∈(⟨true,n⟩::List.replicate k default:List Vl),GV P v:=by
  intro n k hn v hv
  rcases L_.1 hv with e|hv
  .rw[e]
   exact λ_=>hn
  .rw[(Hd.1 hv).2];exact GV.default
 intro o ho;unfold startHeap at ho
 rcases L_.1 ho with e|ho
 .rw[e];exact⟨h1,z _ _ h2⟩
 .rw[I_.1 ho];exact⟨h2,z _ _ h0⟩
theorem HG.kY{P:Int->Prop}{h:List Ob}{e:pX}(ay:HG P h)(he:EF P e):HG P (kY h e):=
 HG.i7 _ (HG.puts _ ay he.nw) (λc hc=>(he.ws c hc).2)
theorem HG.mC{P:Int->Prop}(l:List In){h:List Ob}(pc a:Int)(ay:HG P h):HG P (mC l h pc a):=ay.qF (GV.num _)
theorem tx{l:List In}{hI hF:Int}{s:pY}{e:pX}(h:¬me l hI hF s e=true):s.jH=false/\iA l s.hS=20/\e.h6≠4:=by
 unfold me at h;have h:¬(s.jH=true∨jB l hI hF s.hS=false∨e.h6=4):=zu h;refine⟨by cases hs:s.jH with|false=>rfl|true=>exact EK (.inl hs) h,?_,λx=>h (.inr (.inr x))⟩
 cases ha:jB l hI hF s.hS with
 |false=>exact EK (.inr (.inl ha)) h
 |true=>
  unfold jB at ha;rw[ES]at ha
  simpa using ha.2
theorem HG.nJ{P:Int->Prop}(l:List In)(hI hF:Int)(k2:List Int){s:pY}(h0:P 0)(ay:HG P s.h):HG P (nJ l hI hF k2 s).1.h:=by
 unfold Go.Proofs.YtenbhdilndfaeaaGreat.nJ;split
 .exact HG.nil
 split
 .exact HG.nil
 .rename_i hb;obtain⟨_,d,_⟩:=tx hb;obtain⟨he,g⟩:=uf l hI hF s.hS 0 d h0 ay (λ_=>GV.default:∀i,GV P (jq i));unfold ox;split
  .exact ay.mC _ _ _
  split
  .exact ay.kY he
  .exact ay.kY he
theorem HG.kI{P:Int->Prop}{s:pY}{t:i3}(ay:HG P s.h)(ht:TG P t)(ok:Bool):HG P (kI ok s t).1.h:=by
 unfold Go.Proofs.YtenbhdilndfaeaaGreat.kI;split
 .exact HG.nil
 split
 .exact HG.nil
 split
 .exact HG.nil
 .unfold lQ;split
  .exact ht.lG ay
  .exact ht.lG ay
theorem ux.DM{l:List In}{hI hF:Int}{d k2:List Int}{k:Nat}{run:Int}{s:pY}(hv:ic l hI hF=true)(h:ux l hI hF d k2 k run s)(hk:k<=1000000):HG mJ s.h:=by
 have hb:=kl hv
 induction h with
 |hS=>exact HG.hS _ wf64_0 wf64_1 wf64_2
 |ask _ _ _ Z=>exact HG.nJ _ _ _ _ wf64_0 (Z o_)
 |commit h _ _ Z=>
  have hr:=h.cb hv;exact HG.kI (Z o_) (tp hv hb.2.1 (Z o_) hr.2.1 o_) true
theorem HG.nj{P:Int->Prop}{h:List Ob}{ts:List i3}(ay:HG P h)(ht:∀t∈ts,TG P t)(k:Int):HG P (nj h ts k):=by
 unfold Go.Proofs.YtenbhdilndfaeaaGreat.nj
 have ht:∀t∈ts.take k.toNat,TG P t:=λt h=>ht t (Ff h)
 generalize ts.take k.toNat=l at*
 induction l generalizing h with
 |nil=>exact ay
 |cons t l Z=>exact Z ((ht t E6).lG ay) (λx hx=>ht x (EQ _ hx))
theorem wu.DM{l:List In}{hI hF:Int}{d:List Int}{h:List Ob}{run:Int}{ts:List i3}(hv:ic l hI hF=true)(hl:l.length<=2048)(O:wu l hI hF d h run n ts)(ay:HG mJ h)(h0:0<=run)(h1:run<=1000000000):∀t∈ts,TG mJ t/\0<=t.run/\t.run<=1000000016:=by
 induction O with
 |hS ts iM hb=>
  intro t ht;obtain⟨k,hk,rfl⟩:=F3 ht;obtain⟨x,ik,_,e⟩:=hb k hk;have hr:=nI l hI hF x (run+k) ik;rw[e];exact⟨TG.begin _ _ _ _ _ _,o_,o_⟩
 |step k hk h1' h2 Z=>
  intro t ht
  rcases EU ht with ht|rfl
  .exact Z t ht
  .obtain⟨a,b,c⟩:=Z _ (N_ hk);have hf:=(h1'.tf hv hl _ (N_ hk)).1;rw[ms];exact⟨a.zF (ay.nj (λt ht=>(Z t ht).1) _) l hI hF d b o_ hf.sm.nw,b,c⟩
section
structure PX(P:Int->Prop)(R:Int):Prop where
 r:0<=R
 z:P 0
 o:P 1
 t:P 2
 nx:∀(run:Int) (k:Nat),0<=run->run<=R->k<=500000->P ((run+1)*1048576+k)
variable{P:Int->Prop}{R:Int}
theorem TG.C6(hx:PX P R){t:i3}(ht:TG P t)(hv:HG P view)(c:List In)(hI hF:Int)(d:List Int)(h0:0<=t.run)(h1:t.run<=R)(h2:t.nw.length<=500000):TG P (jb c hI hF d t view):=by
 rcases ht.step hv hx.z c hI hF d with h|h
 .exact h.1
 .exact h.1.mono λn hn=>hn.elim id (λe=>e▸hx.nx _ _ h0 h1 h2)
theorem TG.C9(hx:PX P R){l:List In}{hI hF:Int}{d:List Int}{view:List Ob}(hv:ic l hI hF=true)(hl:l.length<=2048)(ay:HG P view):∀(n:Nat) (t:i3),(t.h8=0->Way l t)->TF t->TG P t->0<=t.run->t.run<=R->TG P (n6 l hI hF d view n t)
 |0,_,_,_,ht,_,_=>ht
 |n+1,t,aM,hf,ht,h0,h1=>by
  unfold n6;split
  .rename_i hs;obtain⟨b1,b2⟩:=qp (d:=d) (view:=view) hv hl (aM hs) hf hs;have hr:=ms l hI hF d t view;exact TG.C9 hx hv hl ay n _ b2 b1 (ht.C6 hx ay l hI hF d h0 h1 hf.sm.nw) (by rw[hr];exact h0) (by rw[hr];exact h1)
  .exact ht
theorem y3(hx:PX P R){l:List In}{hI hF:Int}{d:List Int}(hv:ic l hI hF=true)(hl:l.length<=2048){s:pY}{run:Int}(ay:HG P s.h)(h0:0<=run)(h1:run<=R):TG P (mW l hI hF d s run):=by
 have hb:=nI l hI hF s.hS run true;exact TG.C9 hx hv hl ay _ _ (λ_=>nH) (pO hl) (TG.begin _ _ _ _ _ _) o_ (ov hx.r)
theorem ux.gX(hx:PX P R){l:List In}{hI hF:Int}{d k2:List Int}{k:Nat}{run:Int}{s:pY}(hv:ic l hI hF=true)(h:ux l hI hF d k2 k run s)(hk:(k:Int)<=R):HG P s.h:=by
 have hb:=kl hv
 induction h with
 |hS=>exact HG.hS _ hx.z hx.o hx.t
 |ask _ _ _ Z=>exact HG.nJ _ _ _ _ hx.z (Z o_)
 |commit h _ _ Z=>
  have hr:=h.cb hv;exact HG.kI (Z o_) (y3 hx hv hb.2.1 (Z o_) hr.2.1 o_) true
def Sm(n:Int):Prop:=0<=n/\n<=40000000
theorem Db:PX Sm 32:=⟨by decide,⟨by decide,by decide⟩,⟨by decide,by decide⟩,⟨by decide,by decide⟩,λrun k h0 h1 hk=>⟨by omega,by omega⟩⟩
theorem HG.ids{h:List Ob}(ay:HG P h):∀o∈h,P o.id:=λo ho=>(ay o ho).1
end
end Go.Proofs.YtenbhdilndfaeaaGreat
