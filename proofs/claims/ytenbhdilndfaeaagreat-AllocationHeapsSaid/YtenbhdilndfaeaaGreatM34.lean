import Derived.Test.YtenbhdilndfaeaaGreatM23
import Derived.Test.YtenbhdilndfaeaaGreatM33
set_option maxRecDepth 100000
set_option maxHeartbeats 0
set_option linter.all false
namespace Go.Proofs.YtenbhdilndfaeaaGreat
open Go.RowKit Go.Proofs.Tryz
variable{G:Prop}{k n:Nat}(PA:Option Addr)(w:World)
theorem Ix(h:G:=by
 rcases I with hb|I
 .have hk:(hK x).1.hF=true:=by unfold hK iA;simp[hb]
  exact⟨.inl hk,λh=>by rw[hk]at h;cases h⟩
 .exact I.frame):G:=h
theorem IE(h:G:=by
 have hk:(hM x id f).1.hF=true:=by
  unfold hM;split
  .rfl
  .split<;>exact hb
 exact⟨.inl hk,λh=>by rw[hk]at h;cases h⟩):G:=h
theorem JJ(h:G:=by
 cases hb:z.1.hF with
 |true=>exact .inl hb
 |false=>exact bi.reg _ _ λ_=>(bf hb).2):G:=h
theorem JP(h:G:=by
 rcases h1 with h|h
 .exact .inl h
 .exact .inr (h.write _ _ _ (.inr rfl) hv)):G:=h
theorem Ke(h:G:=by
 show((s.hU++t.hU).length:Int)<=((k+1:Nat):Int)*500000
 rw[H_];omega):G:=h
theorem Km(h:G:=by
 show s.hw+1<=((k+1:Nat):Int)*3001
 omega):G:=h
theorem Ks(h:G:=by
 show s.ja<=((k+1:Nat):Int)
 omega):G:=h
def C3(w:World)(e:Ending)(w':World):Prop:=∃(A:Option Addr) (c:Nat) (l:List In) (hq g9:Int),e=.returned (.tuple #[.agg #[.slice A l.length c,i_ hq,i_ g9],i_ 0])/\Is w' A l/\hZ l hq g9=true/\l.length<=c/\Gr [] w w'
def GS.zero(PA:Option Addr)(c:Nat):GS:=⟨.slice PA 3 c,none,0,[],none,0,[],0,none,0,[],none,0,[],none,0,[],0,0,none,0,[],[]⟩
theorem mM.new(PA:Option Addr)(c:Nat):mM w.heap.size (w.alloc (.cells #[.slice PA 3 c,n_,i_ 0,n_,n_,n_,n_,i_ 0,i_ 0,n_] 210)) w.heap.size (GS.zero PA c):=by
 refine⟨L_ w 210 #[.slice PA 3 c,n_,i_ 0,n_,n_,n_,n_,i_ 0,i_ 0,n_],G_ _,iJ _ _ _ _,iJ _ _ _ _,iJ _ _ _ _,λa ha=>(by cases ha),List.nodup_nil,λr hr=>?_,by simp[GS.zero,GS.rows,Value.ownBlock],EM _ _ _ _,by simp⟩
 have:r=(n_,[]):=by simpa[GS.zero,GS.rows]using hr
 subst this;exact iJ _ _ _ _
theorem Bo.zero(c:Nat):Bo 0 (.slice PA 3 c) 0 (GS.zero PA c).lg:=
 ⟨rfl,rfl,rfl,λe h=>(by cases h),λe h=>(by cases h),G_ _,rfl,rfl,.inl ⟨rfl,rfl,rfl,rfl⟩⟩
def tz(Ns:List Nat)(k:Nat):Nat:=30*(Ns.take k).sum+3*k
theorem yi(q:Nat->Prop)(PA:Option Addr)(c:Nat)(fs:List FT)(Ns:List Nat)(w:World)(D:CG q w PA fs Ns):
 Calls prog 88 #[.agg #[.slice PA 3 c]] w (C3 w):=by
 refine hX λQ aD=>?_
 obtain⟨bz,bw,br,bi,bf⟩:=info_parts infoInt;obtain⟨W,gx,o,aZ,I,eW,hg,hB,hR⟩:=B9 w 150 #[.slice PA 3 c] 26 #[n_,i_ 0,i_ 0];have Z:W.cell? (c_ gx 0)=some (.slice PA 3 c):=hB.f_ 0;have aW:=h_ (D.g_ hg);clear D
 go_enter func88,ntmps88
 go_wp2_with fail
 go_at_call 134
 refine(vx q PA c fs Ns W aW.out).mono ?_;rintro e w2⟨rfl,ad⟩;have ah:w2.cell? (c_ gx 0)=some (.slice PA 3 c):=(hB.g_ ad).f_ 0;have eF:=h_ (mM.new w2 PA c);have S:=(D_ [] w2).alloc (.cells #[.slice PA 3 c,n_,i_ 0,n_,n_,n_,n_,i_ 0,i_ 0,n_] 210);obtain⟨aJ,g,ci,d9,_,_⟩:=box1 w2 210 #[.slice PA 3 c,n_,i_ 0,n_,n_,n_,n_,i_ 0,i_ 0,n_];rw[ci,d9]at eF;rw[ci]at S;have au:aJ.cell? (c_ gx 0)=some (.slice PA 3 c):=(hB.g_ (ad.trans S)).f_ 0;clear Z
 go_upto_region 6 with fail
 have dz:=aW.out.pc;have eM:mT aJ (.slice PA 3 c):=⟨PA,c,fs,rfl,dz.len,Sl.g_ dz.hfs (ad.trans S),dz.i1,dz.i2⟩;have fq:=h_ eM;have dT:=h_ (aW.out.g_ (ad.trans S));have a8:=hB.g_ (ad.trans S);have cr:=hR.g_ (ad.trans S);have fF:=hg.trans (ad.trans S);have fW:=h_ d9
 have f3:w2.heap.size<=g:=by omega
 have eY:w.heap.size<=g/\w.heap.size<=o:=by have h1:=hg.size;have h2:=ad.size;omega
 have fT:=h_ ci;clear dz eM ah au aZ I eW ci d9 hB hR hg ad;have af:ln g aJ g (GS.zero PA c).lg:=⟨_,rfl,eF.out⟩
 go_loopw [25] (λar w'=>∃(k:Nat) (v:iK),k<=3/\ar=i_ k/\ln g w' g v/\Bo k (.slice PA 3 c) (tz Ns k) v/\Gt g gT aJ w') (λar _=>3-(intOf ar).toNat)
 case atStart=>exact⟨0,_,by omega,by go_num,af,Bo.zero PA c,.refl _ _ _⟩
 case round=>
  obtain⟨k,v,hk,rfl,J,hL,bM⟩:=hrel;clear af
  by_cases aj:k<3
  .have aH:k<fs.length:=by have:=aW.out.pg.len;omega
   have a7:k<Ns.length:=by have:=aW.out.pg.nl;omega
   have hfs:=Sl.gt dT.out.pg.hfs bM d_;obtain⟨b,off,U,z0,aS,aX⟩:=Au.at_ hfs aH;have y:=(dT.out.pg.rd _ (J_ aH)).gt bM d_ d_ d_;obtain⟨_,bq,bX⟩:=aW.out.pg.nm _ (J_ aH);have bS:=aW.out.pg.sg k aH a7;have bI:=aW.out.vs k aH a7;obtain⟨dS,ew⟩:=o4 Ns k a7;have cz:=aW.out.pg.sum
   have d2:Ns[k]<=64:=by omega
   have hls:tz Ns (k+1)=tz Ns k+30*Ns[k]+3:=by unfold tz;omega
   have f9:tz Ns (k+1)<=2048:=by unfold tz;omega
   obtain⟨f,hf⟩:=nm_ (fs[k]);obtain⟨M,z⟩:=nm_ (Ns[k]);rw[<-hf]at z0 aS aX y bq bX bS bI;rw[<-z]at bS bI d2 hls;have iv:=hL.len
   have aQ:tz Ns k<=2048:=by omega
   have dj:decide ((k:Int)<3)=true:=by simp;omega
   have b4:wr.cell? (c_ gx 0)=some (.slice PA 3 c):=(a8.gt bM d_).f_ 0;have r:=h_ y;have ai:=h_ bq;have cT:=h_ bS;have cv:=h_ bI;have bg:=h_ hL;have eG:=h_ hls;have ak:=h_ hf;have e4:=h_ U;obtain⟨bG,bt,cu,bC,b8,bU⟩:=box1 wr 213 #[.string f.name,.slice f.AP f.ps.length f.cP,.slice f.A f.bs.length f.c];obtain⟨cC,cD,eS⟩:=bU.nz;rw[U];have aB:=h_ (sn h6 (by rw[rT];decide) 5 M f q bG (r.out.g_ b8) cT.out o_ ai.out o_);obtain⟨s,hs,hi⟩:=J;have ap:=h_ hs;have fe:=h_ hi;clear hf z y bq bS bI hL hls U dS ew cz hfs hs hi
   go_wp2_with fail
   refine aB.out.mono ?_;rintro e ae⟨a6,c5,vs,rfl,bO,eh,ev,eo,ej,am⟩
   have cf:vs.length<=9:=by have h:=k6 vs h6 eh ev;rw[rT]at h;exact h
   have ca:=b8.trans am;have av:=fe.out.g_ ca;have aK:ae.cell? (c_ g 6)=some (.slice s.VA s.vs.length s.vc):=av.hg.f_ 6;have bo:ae.cell? (c_ g 7)=some (i_ s.hidden):=av.hg.f_ 7;have cA:ae.cell? (c_ g 8)=some (i_ s.most):=av.hg.f_ 8;have f6:=av.hg.hm 6;have f7:=av.hg.hm 7;have f8:=av.hg.hm 8;clear cC cD eS z0 aS aX b4
   go_upto_region 9 with fail
   obtain⟨ce,aC⟩:=av.AO a6 c5 vs bO;obtain⟨aF,cq⟩:=nm_ (((ae.setCell (c_ g 6) (.slice a6 vs.length c5)).setCell (c_ g 7) (i_ 0)).setCell (c_ g 8) (i_ 0));rw[<-cq]at ce aC |-;clear cq aK bo cA f6 f7 f8 av;obtain⟨bR,eu⟩:=nm_ ({s with VA:=a6,vc:=c5,vs:=vs,hidden:=0,most:=0});rw[<-eu]at ce
   have c8:bR.lg={v with vs:=vs,hidden:=0,most:=0}:=by rw[eu,<-ap.out];rfl
   have cn:=(bU.g_ am).gt aC d_;have dh:=(bM.trans (.jQ ca)).trans aC
   have fM:bR.rt++bR.os=[]:=by
    have h1:bR.os.map (λa=>(a.box,a.is))=[]:=(D9 iK.ats c8).trans bg.out.ats;have h2:bR.rt.map (λa=>(a.box,a.is))=[]:=(D9 iK.rts c8).trans bg.out.rts;rw[List.map_eq_nil_iff]at h1 h2;rw[h1,h2]
    rfl
   have eg:bR.l=v.l:=D9 iK.l c8;have dR:bR.g9=v.g9:=D9 iK.g9 c8;have d7:bR.es=v.es:=D9 iK.es c8;have dX:=h_ bg.out.mark
   have eU:bR.l.length<=100000:=by rw[eg];omega
   have fN:0<=bR.g9:=by rw[dR];exact dX.out.2.1
   have fO:bR.g9<=100000:=by rw[dR];have:=dX.out.2.2;omega
   have f0:bR.es.length<=3:=by rw[d7,bg.out.el];omega
   have fw:=h_ c8;have fp:=h_ eg;have fx:=h_ dR;have fa:=h_ d7;clear eu c8 eg dR d7;have z3:aF.cell? (c_ g 3)=some (.slice bR.EA bR.es.length bR.ec):=ce.hg.f_ 3;refine hC (λw'=>w'.cell? (c_ g 3)=some (.slice bR.EA bR.es.length bR.ec)) 11 k_ ?_
   refine nc (z3) λC=>?_
   repeat refine jR C ?_
   refine hQ 6 λK H=>?_
   go_simp
   go_at_call 136
   refine(rC g g bR aF.drew (ce.g_ (D_ [] _).drew) eU fN fO).mono ?_;rintro e aG⟨ft,gf,rfl,cH,aO,eT⟩;clear C
   refine hS H (cH.hg.f_ 3) λC=>?_
   clear H K z3
   try simp only[a_]
   refine hQ 7 λK H=>?_
   go_simp;refine H.out _ _ (λ_=>jo C _) ?_;clear H K C;have be:Sl (aG.alloc (.cells #[i_ bR.l.length] 3)) 3 1 (j_ aG.heap.size) 1 [i_ bR.l.length]:=i5 (n:=1) (s:=1) (L_ aG 3 _) rfl;have cJ:=cH.g_ ((D_ [] aG).alloc (.cells #[i_ bR.l.length] 3));have dk:=((dh.trans (.jQ (D_ [] aF).drew)).trans aO).trans (.jQ ((D_ [] aG).alloc (.cells #[i_ bR.l.length] 3)));have bv:=(cn.drew.gt aO d_).alloc (.cells #[i_ bR.l.length] 3);obtain⟨bJ,cI⟩:=nm_ (aG.alloc (.cells #[i_ bR.l.length] 3));rw[<-cI]at be cJ dk bv |-;clear cI cH;have dG:=cJ.hi (.slice bR.EA bR.es.length bR.ec,bR.es) (by simp[GS.rows])
   try simp only[a_]
   refine hQ 8 λK H=>?_
   refine nX rfl (.tmp 44) (.tmp 47) 30 rfl g 3 bz _ 1 8 underlying30 bw br bi bf rfl d_ d_ bR.EA bR.es.length bR.ec _ rfl dG _ 1 1 _ rfl be (by intro u hu;simp at hu;subst hu;rfl) o_ cJ.hz ?_;intro db cU ag c3 dE ep;obtain⟨cZ,cS,aV⟩:=cJ.CP fM db cU _ dE c3 ep;have aN:=(ms.app (e:=213) dE dG d_).bk bv
   refine hS H (cZ.f_ 3) λC=>?_
   clear H K
   (repeat refine jR C ?_)
   have dq:=cZ.hm 3
   refine hQ 11 λK H=>?_
   go_simp;refine H.out _ _ (λh=>D6 h d_) ?_;clear H K dq;refine hA k_ ?_ _;have eH:=aN.h7 (p:=(c_ g 3)) (aN.lF cZ d_) (.slice db (bR.es.length+1) cU);obtain⟨az,c9⟩:=nm_ (ag.setCell (c_ g 3) (.slice db (bR.es.length+1) cU));rw[<-c9]at cS aV eH |-;have ea:=dk.trans aV;clear c9 C cZ cJ ce aN dk dh;obtain⟨t,E⟩:=nm_ ({v with vs:=vs,hidden:=0,most:=0,l:=v.l++[⟨21,0,0,0,v.g9⟩],g9:=v.g9+1,es:=v.es++[(v.l.length:Int)]}:iK)
   have h10:ln g az g t:=⟨_,(by
    rw[E,<-fp.out,<-fx.out,<-fa.out];have e:=fw.out;unfold GS.lg at e |-;simp only[iK.mk.injEq]at e |-
    exact⟨e.1,e.2.1,trivial,trivial,trivial,e.2.2.2.2.2.1,e.2.2.2.2.2.2.1,e.2.2.2.2.2.2.2.1,e.2.2.2.2.2.2.2.2⟩),cS⟩
   obtain⟨V,bu,bK,fE,dQ,d3⟩:=cv.out;have fP:2<=vs.length:=F_ bK (k6 V vs fE (d3 vs ej eo))
   have ed:t.l.length=v.l.length+1:=by rw[E];simp
   have dJ:t.ats=[]:=by rw[E];exact bg.out.ats
   have eV:t.rts=[]:=by rw[E];exact bg.out.rts
   have er:t.pv=.slice PA 3 c:=by rw[E];exact bg.out.pv
   have cw:GK t v.l.length 5:=⟨by rw[dJ,E];exact dX.out.1,by rw[E];exact Ev _,(by rw[E];show(0:Int)+((5:Nat):Int)<=10;decide),by rw[E];exact Ev _,(by rw[E];show(0:Int)<=10;decide),by rw[E];exact fP,by rw[E];exact cf,by rw[dJ];decide⟩
   have eb:qQ v.l t.l:=by rw[E];exact qQ.app _ _
   have ek:ij t.l v.l.length=21:=by rw[E];exact lW _ _ _
   have dB:t.es=v.es++[(v.l.length:Int)]:=by rw[E]
   have dD:t.fs=v.fs:=by rw[E]
   have dP:=(dT.out.pg.rd _ (J_ aH)).gt ea d_ d_ d_;rw[<-ak.out]at dP;have hbl:=dQ.len;obtain⟨aU,bn,P⟩:=eH.nz;have fj:=h_ ed;have eD:=h_ dJ;have dw:=h_ eV;have e8:=h_ dB;have eE:=h_ dD;have cV:=h_ er
   have ef:t.l.length+30*M+2<=2048:=by have:=eG.out;omega
   have fo:=h_ (wF g g V 5 M f.A _ f.c f.bs t _ q az rfl o_ dQ dP.hb dP.hs (by rw[er];exact fq.out.gt ea) h10 cw o_);clear E ed dJ eV er dB dD dP h10 cS
   go_wp2_with fail
   go_at_call 137
   refine fo.out.mono ?_;rintro e cQ⟨rfl,eZ,gi,A,aM,fC,eK⟩;have eI:=ea.trans aM
   go_wp2_with fail
   go_at_call 138
   refine(ic g g _ _ _ _ _ _ _ A (by have:=eK.len;omega)).mono ?_;rintro e fR⟨rfl,bm,cx⟩;have fD:=fC.simp (x:=⟨1,0,0,0,0⟩) d_;have eL:=eK.trans (GP.put _ ⟨1,0,0,0,0⟩);have eJ:=eI.trans cx;clear A eI cx
   go_wp2_with fail
   go_at_call 138
   refine(ic g g _ _ _ _ _ _ _ bm (by have:=eL.len;omega)).mono ?_;rintro e cj⟨rfl,h13,dg⟩;have dx:=fD.simp (x:=⟨14,0,0,0,0⟩) d_;have dy:=eL.trans (GP.put _ ⟨14,0,0,0,0⟩);have fB:=eJ.trans dg;clear bm eJ dg;obtain⟨d,c7,dF⟩:=h13;have fZ:=dy
   have d4:d.os.map (λa=>(a.box,a.is))=[]:=by
    have h1:=dy.pI;rw[eD.out]at h1
    have h2:d.lg.ats.map (·.1)=[]:=by rw[c7];simpa using h1
    have h3:d.lg.ats=[]:=by simpa using h2
    exact h3
   have et:d.rt.map (λa=>(a.box,a.is))=[]:=by
    have h1:=dy.rt;rw[dw.out]at h1
    have h2:d.lg.rts=[]:=by rw[c7];exact h1
    exact h2
   have fL:d.rt++d.os=[]:=by
    rw[List.map_eq_nil_iff]at d4 et;rw[d4,et]
    rfl
   have cg:d.vs.length<=9/\2<=d.vs.length:=by
    have e:d.lg.vs=d.vs:=rfl
    rw[<-e,c7];exact⟨dx.v1,dx.v0⟩
   have gd:0<=d.most/\d.most<=10:=by
    have e:d.lg.most=d.most:=rfl
    rw[<-e,c7];exact⟨dx.m0,dx.m1⟩
   have bh:d.fs.length<=3:=by
    have e:d.lg.fs=v.fs:=by rw[c7,dy.fs,eE.out]
    have aL:d.fs=v.fs:=e;rw[aL,bg.out.fl];omega
   have fv:=h_ c7;have z4:cj.cell? (c_ g 4)=some (.slice d.FA d.fs.length d.fc):=dF.hg.f_ 4;have ck:cj.cell? (c_ g 6)=some (.slice d.VA d.vs.length d.vc):=dF.hg.f_ 6;have e1:cj.cell? (c_ g 8)=some (i_ d.most):=dF.hg.f_ 8;have dr:=dF.hi (.slice d.FA d.fs.length d.fc,d.fs) (by simp[GS.rows]);have cz:IntKind.i64.wrap ((d.vs.length:Int)+d.most)=(d.vs.length:Int)+d.most:=Eg _ o_;clear c7 d4 et aU bn P
   go_upto_region 13 with fail
   refine hC (λw'=>w'.cell? (c_ g 4)=some (.slice d.FA d.fs.length d.fc)/\w'.cell? (c_ g 6)=some (.slice d.VA d.vs.length d.vc)/\w'.cell? (c_ g 8)=some (i_ d.most)) 19 k_ ?_
   refine nc ⟨z4,ck,e1⟩ λC=>?_
   repeat refine jR C ?_
   refine hQ 15 λK H=>?_
   go_simp;refine H.out _ _ (λ_=>⟨jo C.1 _,jo C.2.1 _,jo C.2.2 _⟩) ?_;clear H K C z4 ck e1 cz;obtain⟨u,hu⟩:=nm_ ((d.vs.length:Int)+d.most);rw[<-hu]
   have ey:2<=u/\u<=64:=by omega
   have bZ:=h_ hu;clear hu;have be:Sl (cj.alloc (.cells #[i_ u] 3)).drew 3 1 (j_ cj.heap.size) 1 [i_ u]:=(i5 (n:=1) (s:=1) (L_ cj 3 _) rfl:Sl (cj.alloc (.cells #[i_ u] 3)) 3 1 (j_ cj.heap.size) 1 [i_ u]).drew;have dN:=((D_ [] cj).alloc (.cells #[i_ u] 3)).drew;obtain⟨gj,eX⟩:=nm_ ((cj.alloc (.cells #[i_ u] 3)).drew);rw[<-eX]at be dN |-;clear eX;have eQ:=dF.g_ dN;have dr:=iu dr dN
   try simp only[a_]
   refine hQ 16 λK H=>?_
   refine nX rfl (.tmp 63) (.tmp 74) 30 rfl g 3 bz _ 1 8 underlying30 bw br bi bf rfl d_ d_ d.FA d.fs.length d.fc _ rfl dr _ 1 1 _ rfl be (by intro u hu;simp at hu;subst hu;rfl) o_ eQ.hz ?_;intro eC d0 gk fK fG fJ;obtain⟨dK,fH,dL⟩:=eQ.CO fL eC d0 _ fG fK fJ
   refine hS H ⟨dK.f_ 4,dK.f_ 6,dK.f_ 8⟩ λC=>?_
   clear H K
   (repeat refine jR C ?_)
   have dM:=dK.hm 4;have z4:=C.1
   refine hQ 19 λK H=>?_
   go_simp;refine H.out _ _ (λh=>D6 h d_) ?_;clear H K dM z4 C;refine hA k_ ?_ _;go_wp2;go_roundw
   case rel=>
    have bH:=((fB.trans (.jQ dN)).trans dL);refine⟨k+1,_,by omega,by go_num,⟨_,rfl,fH⟩,?_,bH⟩
    have fI:∀eB:GS,eB={d with FA:=eC,fc:=d0,fs:=d.fs++[u]}->eB.lg={d.lg with fs:=d.lg.fs++[u]}:=λeB h=>by rw[h];rfl
    rw[fI _ rfl,fv.out];have ga:=eG.out;rw[<-e4.out];refine bg.out.next (n':=tz Ns (k+1)) eb ek fj.out e8.out eE.out cV.out eD.out dw.out dy dx (by simp[iK.put]) ?_ u ey o_
    have cM:(((iK.put (iK.put eZ ⟨1,0,0,0,0⟩) ⟨14,0,0,0,0⟩).l.length:Int)-1)=((iK.put eZ ⟨1,0,0,0,0⟩).l.length:Int):=by simp[iK.put];omega
    rw[cM];exact oe _ _
   case measure=>simp[intOf];omega
  .have b0:k=3:=by omega
   subst b0;have iv:=hL.len;have cz:=aW.out.pg.sum;have cy:=aW.out.pg.nl
   have hls:tz Ns 3<=2048:=by
    have e:Ns.take 3=Ns:=W_ o_;unfold tz;rw[e];omega
   have bL:∃q,oQ v.l v.g9 v.cs [] q/\q<v.l.length/\ij v.l ((v.l.length:Int)-1)=14:=by
    rcases hL.ok with h|h
    .exact D6 h.1 d_
    .exact h
   obtain⟨q',bL,dn,co⟩:=bL;have eN:=bL.cs1;have hcl:=bL.yN;obtain⟨s,hs,hi⟩:=J;have eO:s.cs=v.cs:=D9 iK.cs hs
   obtain⟨CA,n,cc,a2,aE,bj⟩:∃CA n cc,Hid (n=v.cs.length)/\wr.cell? (c_ g 5)=some (.slice CA n cc)/\wr.ownsRow g 219 2 (.slice CA n cc) n (mK v.cs):=by
    rw[<-eO];exact⟨_,_,_,h_ rfl,hi.hg.f_ 5,hi.hc⟩
   have bq:n<=2048:=by have:=a2.out;omega
   have dY:=h_ iv;have bN:=h_ hls;have bg:=h_ hL;have cK:=h_ bL;have fu:=h_ dn;have fm:=h_ co;have e6:=h_ eN;have af:ln g wr g {v with l:=(v.cs.take 0).foldl (jW v.es v.fs) v.l}:=⟨s,hs,hi⟩;clear iv hls hL bL dn co eN hcl eO hs hi cz cy aj hk;go_wp2
   go_loopw [84] (λar w'=>∃j:Nat,j<=n/\ar=i_ j/\ln g w' g {v with l:=(v.cs.take j).foldl (jW v.es v.fs) v.l}/\Gt g gT aJ w'/\ms 219 wr w') (λar _=>n-(intOf ar).toNat)
   case atStart=>exact⟨0,N_ _,by go_num,af,bM,.jQ (D_ [] _)⟩
   case round=>
    obtain⟨j,hj,rfl,J,bM,dm⟩:=hrel;clear af;obtain⟨s,hs,hi⟩:=J
    by_cases aj:j<n
    .have B:j<v.cs.length:=by have:=a2.out;omega
     obtain⟨fS,fX,fA,_,cY,d5⟩:=ky (dm.own bj) o_;obtain⟨h1,h2,h3,aw,ax⟩:=e6.out v.cs[j] (J_ B);have z0:=(cY.f_ (j*2+0)).trans (d5 _ _ ((iW (λp:Int × Int=>[i_ p.1,i_ p.2]) 2 (λ_=>rfl) v.cs j 0 B o_).trans rfl));have aS:=(cY.f_ (j*2+1)).trans (d5 _ _ ((iW (λp:Int × Int=>[i_ p.1,i_ p.2]) 2 (λ_=>rfl) v.cs j 1 B o_).trans rfl));rw[Fe]at z0;obtain⟨i,bF⟩:∃i:Nat,v.cs[j].1=i:=⟨v.cs[j].1.toNat,by omega⟩;obtain⟨f,df⟩:∃f:Nat,v.cs[j].2=f:=⟨v.cs[j].2.toNat,by omega⟩;have aT:=h_ (show v.cs[j]=((i:Int),(f:Int)) from Prod.ext bF df);rw[bF]at z0 h2;rw[df]at aS aw ax;have c6:s.es=v.es:=D9 iK.es hs;have aI:s.fs=v.fs:=D9 iK.fs hs;have cN:s.l=(v.cs.take j).foldl (jW v.es v.fs) v.l:=D9 iK.l hs
     have ay:s.l.length=v.l.length:=by rw[cN,oD]
     have dC:s.es.length=3:=by rw[c6];exact bg.out.el
     have bh:s.fs.length=3:=by rw[aI];exact bg.out.fl
     obtain⟨m,Y⟩:=mn_ v.l.length
     have dO:i<m:=by omega
     have cl:m<=2048:=by have:=dY.out;have:=bN.out;omega
     have eP:f<3:=by omega
     have ap:=h_ hs;have de:=h_ (ay.trans Y);have O:=h_ Y;have e9:=h_ c6;have dt:=h_ aI;have cR:=h_ cN;have bY:=h_ dC;have da:=h_ bh;have fi:=h_ dm;have dV:=h_ bM;clear hs ay Y c6 aI cN dC bh h1 h2 h3 aw ax bF df d5 cY dm bM;subst fA;obtain⟨bG,bt,cu,bC,b8,bU⟩:=box1 wr 219 #[i_ i,i_ f]
     go_upto_region 18 with fail
     obtain⟨ae,b9⟩:=nm_ bG.drew
     have am:Gr [] wr ae:=by rw[b9];exact b8.drew
     have b7:Bk ae bt 219 #[i_ i,i_ f]:=by rw[b9];exact bU.g_ (D_ [] _).drew
     have av:=hi.g_ am;obtain⟨G,cF,X,lc,ec,fc,cur,bW,cG,R,bn,ao,aq,e0,bB,⟨gh,bQ⟩,⟨eA,bl⟩⟩:=av.p3 de.out dO bY.out da.out eP;obtain⟨cp,d8⟩:=nm_ (s.es.getD f 0);rw[<-d8]at e0;have du:=h_ bW;have fb:=h_ d8;have cC:ae.cell? (c_ bt 0)=some (i_ i):=b7.f_ 0;have cD:ae.cell? (c_ bt 1)=some (i_ f):=b7.f_ 1;have fz:=R.hm (i*5+4);clear bW d8 aq bl bB
     have f2:(f:Int)<3:=by omega
     have f4:(i:Int)<m:=by omega
     refine hC (λw'=>w'.cell? (c_ bt 0)=some (i_ i)/\w'.cell? (c_ bt 1)=some (i_ f)/\w'.cell? (c_ g 1)=some (.slice (j_ G) m lc)/\w'.cell? (c_ g 3)=some (.slice (j_ cF) 3 ec)/\w'.cell? (c_ cF f)=some (i_ cp)) 16 k_ ?_;rw[<-b9];have fU:=h_ b9;clear b9;have C:=And.intro cC (And.intro cD (And.intro bn (And.intro ao e0)))
     repeat refine jR C ?_
     refine hQ 16 λK H=>?_
     go_simp;refine H.out _ _ (λh=>D6 h d_) ?_;clear H K fz bn ao bQ e0 C cC cD;refine hA k_ ?_ _;have ce:=(av.BT du.out R (by rw[de.out];exact dO) cp).g_ (D_ [] _).drew
     have b5:∀e,e≠189->ms e ae (ae.setCell (c_ G (i*5+4)) (i_ cp)).drew:=λe he=>(ms.set R (Ne.symm he) _ _).trans (.jQ (D_ [] _).drew)
     have dh:=(Gt.set (T:=gT) R cG d_ (i*5+4) (i_ cp)).trans (.jQ (D_ [] _).drew)
     go_upto_region 19 with fail
     obtain⟨aG,ct⟩:=nm_ ((ae.setCell (c_ G (i*5+4)) (i_ cp)).drew);rw[<-ct]at ce b5 dh;have an:=(b5 219 d_).bk b7;obtain⟨e3,e2,X,fQ,fY,fc,dH,d1,_,dI,bn,ao,aq,e0,bB,_,⟨eA,bl⟩⟩:=ce.p3 ((lk _ _ _).trans de.out) dO bY.out da.out eP
     obtain rfl:G=e3:=by have h:=du.out.symm.trans d1;injection h with h;injection h
     obtain⟨bp,d6⟩:=nm_ (s.fs.getD f 0)
     have bB:aG.cell? (c_ X f)=some (i_ bp):=by rw[d6];exact bB
     have e7:=h_ d6;have fk:=h_ d1;have cC:aG.cell? (c_ bt 0)=some (i_ i):=an.f_ 0;have cD:aG.cell? (c_ bt 1)=some (i_ f):=an.f_ 1;have fz:=dI.hm (i*5+3);clear d1 d6 ao e0 e2;refine hC (λw'=>w'.cell? (c_ bt 0)=some (i_ i)/\w'.cell? (c_ bt 1)=some (i_ f)/\w'.cell? (c_ g 1)=some (.slice (j_ G) m fQ)/\w'.cell? (c_ g 4)=some (.slice (j_ X) 3 fc)/\w'.cell? (c_ X f)=some (i_ bp)) 16 k_ ?_;rw[<-ct];have fV:=h_ ct;clear ct;have C:=And.intro cC (And.intro cD (And.intro bn (And.intro aq bB)))
     repeat refine jR C ?_
     refine hQ 16 λK H=>?_
     go_simp;refine H.out _ _ (λh=>D6 h d_) ?_;clear H K fz bn aq bl bB C cC cD;refine hA k_ ?_ _;have cJ:=ce.BU fk.out dI (by rw[show({s with l:=lR cp s.l i}:GS).l.length=s.l.length from lk _ _ _,de.out];exact dO) bp;have ei:=(fi.out.trans (.jQ am)).trans ((b5 219 d_).trans (.set dI d_ (i*5+3) (i_ bp)));have dk:=(dV.out.trans (.jQ am)).trans (dh.trans (Gt.set (T:=gT) dI cG d_ (i*5+3) (i_ bp)));have fg:=h_ cJ;have fh:=h_ ei;have fd:=h_ dk;clear cJ ei dk ce b5 dh av;go_wp2;go_roundw
     case rel=>
      refine⟨j+1,by omega,by go_num,⟨_,?_,fg.out⟩,fd.out,fh.out⟩
      have aP:(v.cs.take (j+1)).foldl (jW v.es v.fs) v.l=o8 bp (lR cp s.l i) i:=by
       rw[O_ B,aT.out,Fm,<-cR.out]
       show jW v.es v.fs s.l _=_
       rw[<-ya,fb.out,e7.out,e9.out,dt.out]
      rw[aP];have aL:=ap.out;exact Jt
     case measure=>simp[intOf];omega
    .have eR:v.cs.take j=v.cs:=W_ (by have:=a2.out;omega);rw[eR]at hs;have aI:s.fs=v.fs:=D9 iK.fs hs;have cN:s.l=v.cs.foldl (jW v.es v.fs) v.l:=D9 iK.l hs;have bA:s.g9=v.g9:=D9 iK.g9 hs
     have ay:s.l.length=v.l.length:=by rw[cN,oD]
     have dC:s.es.length=3:=by rw[show s.es=v.es from D9 iK.es hs];exact bg.out.el
     have bh:s.fs.length=3:=by rw[aI];exact bg.out.fl
     have L:=cK.out.code.pos;obtain⟨m,Y⟩:=mn_ s.l.length
     have cl:m<=2048:=by have:=dY.out;have:=bN.out;omega
     obtain⟨G,cF,X,lc,ec,fc,cur,bW,cG,R,bn,ao,aq,e0,bB,_,_⟩:=hi.p3 Y (i:=0) (f:=0) o_ dC bh o_;have P:wr.cell? (c_ g 2)=some (i_ s.g9):=hi.hg.f_ 2;have hR:=cr.gt bM d_;obtain⟨cO,ez⟩:=nm_ (s.fs.getD 0 0);rw[<-ez]at bB;obtain⟨st,di⟩:=nm_ s.g9;rw[<-di]at P
     have N:Is wr (some (c_ G 0)) s.l:=by rw[<-bW];exact Sl.iG hi.hl
     have b6:s.l.length<=lc:=by
      have h:=bn.symm.trans (hi.hg.f_ 1);have h2:(Value.slice (j_ G) m lc)=.slice s.L s.l.length s.lc:=Option.some.inj h;injection h2 with _ _ h3;rw[h3];exact iQ hi.hl
     have dZ:=h_ ez;have b3:=h_ di;have fy:=h_ bA;have O:=h_ Y;have dt:=h_ aI;have cR:=h_ cN;have aR:=h_ N;have e5:=h_ b6;have dV:=h_ bM
     have hd:decide ((2048:Int)<m)=false:=by simp;omega
     clear hs eR aI cN bA di ay dC bh L Y bW cG R ao e0 ez N b6 bM
     go_upto_region 23 with fail
     obtain⟨ae,b9⟩:=nm_ wr.drew
     have am:Gr [] wr ae:=by rw[b9];exact(D_ [] _).drew
     have bD:=hR.g_ am
     have bn:ae.cell? (c_ g 1)=some (.slice (j_ G) m lc):=by rw[b9];exact bn
     have P:ae.cell? (c_ g 2)=some (i_ st):=by rw[b9];exact P
     have aq:ae.cell? (c_ g 4)=some (.slice (j_ X) 3 fc):=by rw[b9];exact aq
     have bB:ae.cell? (c_ X 0)=some (i_ cO):=by rw[b9];exact bB
     refine hC (λw'=>w'.cell? (c_ g 1)=some (.slice (j_ G) m lc)/\w'.cell? (c_ g 2)=some (i_ st)/\w'.cell? (c_ g 4)=some (.slice (j_ X) 3 fc)/\w'.cell? (c_ X 0)=some (i_ cO)) 15 k_ ?_;rw[<-b9];clear b9;have C:=And.intro bn (And.intro P (And.intro aq bB))
     (repeat refine jR C ?_)
     have bV:ae.cell? (c_ o 0)=some (n_):=bD.f_ 0;have r1:ae.cell? (c_ o 1)=some (i_ 0):=bD.f_ 1;have r2:ae.cell? (c_ o 2)=some (i_ 0):=bD.f_ 2;have z0:=bD.hm 0;have aS:=bD.hm 1;have aX:=bD.hm 2
     refine hQ 15 λK H=>?_
     go_simp;refine H.out _ _ (λh=>D6 h d_) ?_;clear H K C
     refine hQ 16 λK H=>?_
     go_simp;refine H.out _ _ (λh=>D6 h d_) ?_;clear H K;refine hA k_ ?_ _;have cW:=bD.hJ 0 (.slice (j_ G) m lc);have cX:=cW.hJ 1 (i_ cO);have aY:=cX.hJ 2 (i_ st);have b5:=((ms.set (e:=189) bD d_ 0 (.slice (j_ G) m lc)).trans (.set cW d_ 1 (i_ cO))).trans (.set cX d_ 2 (i_ st));have bT:=b5.sl (aR.out.g_ am);have bP:Gr [o] ae (((ae.setCell (c_ o 0) (.slice (j_ G) m lc)).setCell (c_ o 1) (i_ cO)).setCell (c_ o 2) (i_ st)):=(((D_ [o] ae).setCell (.inl s_) _).setCell (.inl s_) _).setCell (.inl s_) _;have bE:=(((Gt.jQ (base:=g) (T:=gT) fF).trans dV.out).gr eY.1).trans am;have F:=Gr.jz bE bP eY.2;obtain⟨aF,cq⟩:=nm_ (((ae.setCell (c_ o 0) (.slice (j_ G) m lc)).setCell (c_ o 1) (i_ cO)).setCell (c_ o 2) (i_ st));rw[<-cq]at aY bT F |-;have dW:=h_ bT;have dU:=h_ F;clear cq cW cX b5 bP bE bT F bV r1 r2 z0 aS aX bn P aq bB hR bD am;go_wp2;refine lA #[.slice (j_ G) m lc,i_ cO,i_ st] (i_ 0) aY underlying26 ?_;rw[aD.out];refine⟨some (c_ G 0),lc,s.l,cO,st,by rw[O.out],dW.out,?_,e5.out,dU.out⟩;rw[cR.out,b3.out,fy.out,dZ.out,dt.out]
     have df:∀k,k<3->2<=v.fs.getD k 0/\v.fs.getD k 0<=64:=λk hk=>bg.out.f64 _ (by
      have aH:k<v.fs.length:=by rw[bg.out.fl];exact hk
      have:v.fs.getD k 0=v.fs[k]:=by simp[aH]
      rw[this]
      exact J_ aH)
     have f1:=df 0 o_;refine wR cK.out fu.out fm.out (by have:=dY.out;have:=bN.out;omega) (λk h1 h2=>?_) (λk h1 h2=>df k o_) o_ o_
     have aH:k<v.es.length:=by rw[bg.out.el];omega
     have:v.es.getD k 0=v.es[k]:=by simp[aH]
     rw[this];exact(bg.out.e21 _ (J_ aH)).2.2
theorem nF.heads{L:List ByteArray}:∀{Z:List ST} {r:List ST},nF L (Z++r)->(∀s∈Z,s.hT=1)->∀x∈Z.map ST.name,x∈L
 |[],_,_,_=>by simp
 |s::Z,r,h,hk=>by
  cases h with
  |cons t l h hb hl hr=>
   intro x I
   rcases M_.1 (by simpa using I:x∈s.name::Z.map ST.name)with rfl|I
   .exact h (by rw[hk s s_];rfl)
   .exact nF.heads hr (λu hu=>hk u (by simp[hu])) x I
theorem uR:hI.Nodup:=by decide
theorem xM:h6.Nodup:=by decide
theorem wH(s:ByteArray)(f:FT)(l:List FT)(k:Int):tk s (f::l) k=if(f.name.data.toList==s.data.toList)=true then k else tk s l (k+1):=by
 show(if(f.name.toList==s.toList)=true then k else tk s l (k+1))=_
 rw[Ft,Ft]
theorem FT.In.rd{lo hi:Nat}{w:World}{f:FT}(h:f.In lo hi w):Bp (λ_=>True) w f:=⟨h.hp,h.uK,h.hb,λt X=>(h.hs t X).imp λ_ _=>trivial⟩
theorem CG.made{lo hi:Nat}{w:World}{PA:Option Addr}{p j n:FT}(C:Sl w 213 3 PA 3 ([p,j,n].flatMap FT.E))(h1:p.In lo hi w)(h2:j.In lo hi w)(h3:n.In lo hi w)
 (bO:p.name=vg/\p.ps=[]/\Ar p.bs) (bl:j.name=pJ/\j.ps=[oW,A3]/\DR j.bs) (k3:n.name=pf/\n.ps=[mH]/\DQ n.bs):∃Ns,CG (λ_=>True) w PA [p,j,n] Ns:=by
 obtain⟨m1,m2,H,B,e,m3,m4,O,ae,dg,c3⟩:=bO;obtain⟨bH,bZ,⟨cg,eg,D,dq,dM,f5⟩,z,f6,f7,f8⟩:=bl;obtain⟨av,bf,cx,J,G,q,y,E,d,aT,g,cX,i,r⟩:=k3
 have m:∀s,tk s [p,j,n] 0=if(vg.data.toList==s.data.toList)=true then 0 else if(pJ.data.toList==s.data.toList)=true then 1 else if(pf.data.toList==s.data.toList)=true then 2 else -1:=by
  intro s;rw[wH,wH,wH,m1,bH,av]
  rfl
 have A:tk vg [p,j,n] 0=0:=by rw[m];rfl
 have u:tk pJ [p,j,n] 0=1:=by rw[m];rfl
 have v:tk pf [p,j,n] 0=2:=by rw[m];rfl
 have v9:∀x∈hI,x∈h6:=λx I=>Eo _ I
 have bp:lJ h6 5 e p.bs:=ae.sub v9;have bP:lJ hI 5 q n.bs:=cX.mono o_
 have F:∀{P:FT->Prop},P p->P j->P n->∀f∈[p,j,n],P f:=by
  intro P a b c f hf;simp only[M_,List.not_mem_nil,or_false]at hf
  rcases hf with rfl|rfl|rfl<;>assumption
 have b0:∀k,k<3->k=0∨k=1∨k=2:=λk hk=>by omega
 refine⟨[e,z,q],⟨C,rfl,F h1.rd h2.rd h3.rd,F ⟨by rw[m1];exact xt.1,by rw[m2];simp,by rw[m2];simp⟩ ⟨by rw[bH];exact xt.2.1,by rw[bZ];simp[h6,hI],by rw[bZ];simp⟩ ⟨by rw[av];exact xt.2.2,by rw[bf];simp[h6,hI],by rw[bf];simp⟩,rfl,λk h o=>?_,by simp;omega⟩,
  ⟨C,rfl,u,v,λ_=>by show j.ps.length=2;rw[bZ];rfl,λ_=>by show n.ps.length=1;rw[bf];rfl⟩,λk h=>?_,λ_=>m2,F (by rw[m2];exact List.nodup_nil) (by rw[bZ];decide) (by rw[bf];decide),λk h o=>?_⟩
 .rcases b0 k h with rfl|rfl|rfl
  .exact bp
  .exact f6
  .exact bP.sub v9
 .rcases b0 k h with rfl|rfl|rfl
  .show tk p.name _ 0=0
   rw[m1];exact A
  .show tk j.name _ 0=1
   rw[bH];exact u
  .show tk n.name _ 0=2
   rw[av];exact v
 .rcases b0 k h with rfl|rfl|rfl
  .refine⟨hI,by decide,by decide,uR,ae,λvs hn hp=>?_⟩;have hn:nF vs p.bs:=hn;rw[m3]at hn;rw[<-m4];exact hn.heads O
  .refine⟨h6,by decide,by decide,xM,f6,λvs hn hp=>?_⟩;have hn:nF vs j.bs:=hn;have hp:∀x∈j.ps,x∈vs:=hp;rw[dq]at hn;have aB:=hn.heads f5;rw[dM]at aB;rw[bZ]at hp;intro x I
   have L:∀x∈h6,x∈[vh,ur,uJ,mH,ou,wB,wA]∨x∈[oW,A3]:=by
    intro x I;simp only[h6,hI,M_,List.not_mem_nil,or_false]at I |-
    rcases I with h|h|h|h|h|h|h|h|h<;>simp[h]
   rcases L x I with h|h
   .exact aB x h
   .exact hp x h
  .refine⟨hI,by decide,by decide,uR,bP,λvs hn hp=>?_⟩;have hn:nF vs n.bs:=hn;rw[y]at hn;rw[<-aT]
   cases hn with
   |cons t l h hb hl hr=>exact hr.heads g
def BH(B g:Nat)(w:World)(e:Ending)(w':World):Prop:=∃(A:Option Addr) (c:Nat) (l:List In) (hq g9:Int),e=.returned (.agg #[.slice A l.length c,i_ hq,i_ g9])/\Is w' A l/\hZ l hq g9=true/\l.length<=c/\iE w' B g/\Gr [g] w w'
theorem z_(B g:Nat)(w:World)(hd:iE w B g)(hB:B<=w.heap.size):
 Calls prog 44 #[q_ g] w (BH B g w):=by
 refine hX λQ aD=>?_
 obtain⟨W,o,aZ,eW,hg,hR⟩:=box1 w 26 #[n_,i_ 0,i_ 0];have ao:=hd.g_ hg;have a8:=hd.vl;have cx:B<=W.heap.size:=F_ hB hg.size
 go_enter func44,ntmps44
 go_wp2_with fail
 go_at_call 89
 refine(zA B g W ao cx).mono ?_;rintro e w2⟨x,p,j,n,rfl,C,h1,h2,h3,bO,bl,k3,ct,ad⟩;obtain⟨Ns,D⟩:=CG.made C h1 h2 h3 bO bl k3;clear C h1 h2 h3 bO bl k3
 go_wp2_with fail
 go_at_call 88
 refine(yi _ _ 3 _ Ns w2 D).mono ?_;rintro e ai⟨A,c,l,hq,g9,rfl,N,hv,b6,S⟩;have aB:=h_ hv;have aW:=h_ b6;have aR:=h_ N;obtain⟨m,Y⟩:=mn_ l.length;rw[Y];have O:=h_ Y;clear D hv b6 N Y;obtain⟨bG,bx,cu,bZ,af,bU⟩:=box1 ai 26 #[.slice A m c,i_ hq,i_ g9];have ce:=(ct.g_ S).g_ af
 have av:o≠g:=by omega
 have dM:=hR.lt;have bX:Bk w2 o 26 #[n_,i_ 0,i_ 0]:=hR.gr ad p_;have q:=(bX.g_ S).g_ af
 have d:∀{a b:World},Gr [] a b->Gr [g] a b:=λh=>(D_ [g] _).hx h s_
 have bq:Gr [g] w bG:=(((d hg).trans ad).trans (d S)).trans (d af);have aw:Is bG A l:=aR.out.g_ (af)
 have k:w.heap.size<=o:=by omega
 have cW:=q.hJ 0 (.slice A m c);have cX:=cW.hJ 1 (i_ hq);have aY:=cX.hJ 2 (i_ g9);have b5:=((ms.set (e:=189) q d_ 0 (.slice A m c)).trans (.set cW d_ 1 (i_ hq))).trans (.set cX d_ 2 (i_ g9));have bT:=b5.sl aw;have bP:Gr [o] bG (((bG.setCell (c_ o 0) (.slice A m c)).setCell (c_ o 1) (i_ hq)).setCell (c_ o 2) (i_ g9)):=(((D_ [o] bG).setCell (.inl s_) _).setCell (.inl s_) _).setCell (.inl s_) _;have bM:=ce.h7 bP p_;have F:=bq.hx bP p_;have f:=h_ aY;have dW:=h_ bT;have i:=h_ bM;have dU:=h_ F;have cC:bG.cell? (c_ bx 0)=some (.slice A m c):=bU.f_ 0;have cD:bG.cell? (c_ bx 1)=some (i_ hq):=bU.f_ 1;have eS:bG.cell? (c_ bx 2)=some (i_ g9):=bU.f_ 2;have bV:bG.cell? (c_ o 0)=some (n_):=q.f_ 0;have r1:bG.cell? (c_ o 1)=some (i_ 0):=q.f_ 1;have r2:bG.cell? (c_ o 2)=some (i_ 0):=q.f_ 2;have z0:=q.hm 0;have aS:=q.hm 1;have aX:=q.hm 2;clear cW cX aY b5 bT bP bM F bq aw d hg ad S af ao ct ce;go_wp2;refine rr_ #[.slice A m c,i_ hq,i_ g9] f.out underlying26 ?_;rw[aD.out];exact⟨A,c,l,hq,g9,by rw[O.out],dW.out,aB.out,aW.out,i.out,dU.out⟩
section
variable(l:List In)(hq g9:Int)(d lr:List Int)
def p9(s:qR)(run:Int):jg:=zl l hq g9 d s.h (jJ l hq g9 s.hG run true).1
inductive vT:Nat->Int->qR->Prop
 |hG:vT 0 0 (r8 true hq)
 |ask {k:Nat} {run:Int} {s:qR} (h:vT k run s) (he:s.jt=false) (h0:(oN l hq g9 lr s).2=0):vT (k+1) run (oN l hq g9 lr s).1
 |commit {k:Nat} {run:Int} {s:qR} (h:vT k run s) (he:s.jt=false) (h0:(oN l hq g9 lr s).2≠0):vT (k+1) (run+1) (kW true s (p9 l hq g9 d s run)).1
inductive vR(h:List Ob)(run:Int):Nat->List jg->Prop
 |hG (ts:List jg) (hl:ts.length<=16) (hb:∀(k:Nat) (hk:k<ts.length),∃(x:Int) (ia:Bool),B1 l hq g9 x/\ts[k]=(jJ l hq g9 x (run+k) ia).1):vR h run 0 ts
 |step {n:Nat} {ts:List jg} (k:Nat) (hk:k<ts.length) (h1:vR h run n ts) (h2:ts[k].hV=0):vR h run (n+1) (ts.set k (jh l hq g9 d ts[k] (mP h ts k)))
theorem vR.len{h:List Ob}{run:Int}{ts:List jg}(V:vR l hq g9 d h run n ts):ts.length<=16:=by
 induction V with
 |hG ts hl _=>exact hl
 |step k hk _ _ ad=>simpa using ad
end
structure Md where
 A:Option Addr
 c:Nat
 l:List In
 hq:Int
 g9:Int
 aA:Option Addr
 ac:Nat
 lr:List Int
 dA:Option Addr
 dc:Nat
 d:List Int
 s:Cm
 tA:Option Addr
 tc:Nat
 ts:List Tk
 run:Int
def Md.g8(m:Md):Array Value:=#[.slice m.A m.l.length m.c,i_ m.hq,i_ m.g9,.slice m.aA m.lr.length m.ac,.slice m.dA m.d.length m.dc,
 .slice m.s.h.A m.s.h.l.length m.s.h.c,i_ m.s.hG,i_ m.s.ja,.slice m.s.hU.A m.s.hU.l.length m.s.hU.c,.bool m.s.jt,.bool m.s.hO,.bool m.s.v.r,i_ m.s.v.n,i_ m.s.iH,i_ m.s.hw,.slice m.tA m.ts.length m.tc,i_ m.run]
structure th(w:World)(m:Md):Prop where
 l:Is w m.A m.l
 lr:Ns w 2 m.aA m.lr
 al:m.lr.length<=5
 d:Ns w 3 m.dA m.d
 dl:m.d.length<=m.dc
 s:lN w m.s
 ts:wZ w m.tA m.ts
theorem th.g_{w w':World}{m:Md}(h:th w m)(hg:Gr [] w w'):th w' m:=⟨Sl.g_ h.l hg,Sl.g_ h.lr hg,h.al,Sl.g_ h.d hg,h.dl,h.s.g_ hg,h.ts.g_ hg⟩
structure Co(m:Md):Prop where
 val:hZ m.l m.hq m.g9=true
 dv:m.d.Sublist (ku m.l m.hq m.g9)
 cm:∃k run,k<=8/\vT m.l m.hq m.g9 m.d m.lr k run m.s.p/\((m.s.jt=true/\m.ts=[]/\m.run=run)∨(m.s.jt=false/\m.run=run+m.ts.length/\∃n,n<=39/\vR m.l m.hq m.g9 m.d m.s.p.h run n (m.ts.map Tk.p)))
def Ao(B g:Nat)(w:World)(e:Ending)(w':World):Prop:=∃m:Md,e=.returned (.agg m.g8)/\th w' m/\Co m/\iE w' B g/\Gr [g] w w'
structure TF(t:jg):Prop where
 sm:t.sm 500000
 s0:0<=t.hw
 s1:t.hw<=3000
 n0: -1<=t.next
 n1:t.next<=3000
theorem uY(c:List In)(hq g9:Int)(d:List Int)(t:jg)(view:List Ob):(jh c hq g9 d t view).hG=t.hG:=by
 unfold jh;simp only;split
 .rfl
 split
 .rfl
 split
 .rfl
 .rename_i x hr
  have:=(ll hr).hG
  split
  .exact this
  split
  .exact this
  .exact this
theorem sx(c:List In)(hq g9:Int)(d:List Int)(t:jg)(view:List Ob):(jh c hq g9 d t view).next=t.next∨(jh c hq g9 d t view).next=t.pc+1∨(jh c hq g9 d t view).next=(jh c hq g9 d t view).pc:=by
 unfold jh;simp only;split
 .exact .inl rfl
 split
 .exact .inr (.inl rfl)
 split
 .exact .inl rfl
 .rename_i x hr
  have:=(ll hr).next
  split
  .exact .inl this
  split
  .exact .inr (.inr rfl)
  .exact .inl this
theorem qk{l:List In}{hq g9:Int}{d:List Int}{t:jg}{view:List Ob}(hv:hZ l hq g9=true)(hl:l.length<=2048)(h:Way l t)(hf:TF t)(hs:t.hV=0):
 TF (jh l hq g9 d t view)/\((jh l hq g9 d t view).hV=0->Way l (jh l hq g9 d t view)):=by
 obtain⟨a1,f,a3,a4,a5,a⟩:=tP (d:=d) (view:=view) hv h hs;have bT:=h.s1;have h0:=h.lo;have h1:=h.hi;have H:=h.s0;refine⟨⟨a1.mono o_,f,by omega,?_,?_⟩,λaB=>(a aB).1⟩
 .rcases sx l hq g9 d t view with e|e|e
  .rw[e];exact hf.n0
  .rw[e];omega
  .rw[e];exact a4
 .rcases sx l hq g9 d t view with e|e|e
  .rw[e];exact hf.n1
  .rw[e];omega
  .rw[e];omega
theorem xd{l:List In}{hq g9:Int}{d:List Int}{view:List Ob}(hv:hZ l hq g9=true)(hl:l.length<=2048):∀(n:Nat) (t:jg),(t.hV=0->Way l t)->TF t->
 TF (pW l hq g9 d view n t)/\(pW l hq g9 d view n t).run=t.run/\(pW l hq g9 d view n t).hG=t.hG
 |0,t,_,hf=>⟨hf,rfl,rfl⟩
 |n+1,t,aK,hf=>by
  unfold pW;split
  .rename_i hs;obtain⟨b1,b2⟩:=qk (d:=d) (view:=view) hv hl (aK hs) hf hs;obtain⟨c1,an,aN⟩:=xd (d:=d) (view:=view) hv hl n _ b2 b1;exact⟨c1,an.trans (mZ l hq g9 d t view),aN.trans (uY l hq g9 d t view)⟩
  .exact⟨hf,rfl,rfl⟩
theorem Af{l:List In}{hq g9 hG run:Int}{ia:Bool}(hl:l.length<=2048)(h0: -1<=hG)(h1:hG<=2049):
 TF (jJ l hq g9 hG run ia).1/\((jJ l hq g9 hG run ia).2=0->(jJ l hq g9 hG run ia).1.run=run/\(jJ l hq g9 hG run ia).1.hG=hG):=by
 have z:∀n,Tk.zero.p.sm n:=λn=>⟨N_ _,N_ _,N_ _,N_ _,N_ _,N_ _⟩
 have z0:TF Tk.zero.p:=⟨z _,by decide,by decide,by decide,by decide⟩;unfold jJ;split
 .exact⟨z0,λh=>by simp at h⟩
 split
 .exact⟨z0,λh=>by simp at h⟩
 split
 .exact⟨⟨⟨N_ _,N_ _,N_ _,N_ _,N_ _,N_ _⟩,show(0:Int)<=0 by decide,show(0:Int)<=3000 by decide,by show -1<=hG+1;omega,by show hG+1<=3000;omega⟩,λ_=>⟨rfl,rfl⟩⟩
 .exact⟨⟨⟨N_ _,N_ _,N_ _,N_ _,N_ _,N_ _⟩,show(0:Int)<=0 by decide,show(0:Int)<=3000 by decide,show(-1:Int)<=0 by decide,show(0:Int)<=3000 by decide⟩,λ_=>⟨rfl,rfl⟩⟩
theorem ub{l:List In}{hq g9 hG run:Int}{ia:Bool}(h0: -1<=hG)(h1:hG<=l.length):Way l (jJ l hq g9 hG run ia).1:=by
 have fin:∀t:jg,t.sm 0->t.hw=0-> -1<=t.pc->t.pc<=l.length->Way l t:=λt hs h2 h3 aw=>⟨h3,aw,by omega,by have:=rY (l:=l) h3;omega,hs.mono (N_ _)⟩
 have z:∀t:jg,t.gs=[]->t.rs=[]->t.ws=[]->t.nw=[]->t.ds=[]->t.hU=[]->t.sm 0:=λt a b c d e f=>⟨by simp[a],by simp[b],by simp[c],by simp[d],by simp[e],by simp[f]⟩
 have g:(-1:Int)<=0/\(0:Int)<=l.length:=by omega
 unfold jJ;split
 .exact fin _ (z _ rfl rfl rfl rfl rfl rfl) rfl g.1 g.2
 split
 .exact fin _ (z _ rfl rfl rfl rfl rfl rfl) rfl g.1 g.2
 split
 .exact fin _ (z _ rfl rfl rfl rfl rfl rfl) rfl h0 h1
 .exact fin _ (z _ rfl rfl rfl rfl rfl rfl) rfl h0 h1
theorem uD{l:List In}{pc:Int}(h:mC l pc=true): -1<=pc/\pc<=l.length:=by
 by_cases ho:pc<0∨(l.length:Int)<=pc
 .have e:=jX ho;unfold mC at h;exact Kv
 .omega
theorem nB{l:List In}{hq g9 hG run:Int}{ia:Bool}:Way l (jJ l hq g9 hG run ia).1:=by
 by_cases h:mC l hG=true
 .exact ub (uD h).1 (uD h).2
 .have h:mC l hG=false:=by simpa using h
  have e:(jJ l hq g9 hG run ia).1=(jJ l hq g9 0 run ia).1∨(jJ l hq g9 hG run ia).1=Tk.zero.p:=by
   unfold jJ;rw[Q_ h];split<;>exact .inr rfl
  rcases e with e|e
  .rw[e];exact ub o_ o_
  .rw[e];exact⟨by decide,by show(0:Int)<=l.length;omega,by decide,by show(0:Int)+oV l 0<=_;have:=rY (l:=l) (pc:=0) o_;omega,⟨N_ _,N_ _,N_ _,N_ _,N_ _,N_ _⟩⟩
theorem pH{l:List In}{hq g9 hG run:Int}{ia:Bool}(hl:l.length<=2048):TF (jJ l hq g9 hG run ia).1:=by
 by_cases h:mC l hG=true
 .have hb:=uD h;exact(Af hl hb.1 o_).1
 .have h:mC l hG=false:=by simpa using h
  have e:(jJ l hq g9 hG run ia).1=Tk.zero.p:=by
   unfold jJ;rw[Q_ h];split<;>rfl
  rw[e];exact⟨⟨N_ _,N_ _,N_ _,N_ _,N_ _,N_ _⟩,by decide,by decide,by decide,by decide⟩
theorem ua{l:List In}{hq g9:Int}{d:List Int}(hv:hZ l hq g9=true)(hl:l.length<=2048)(s:qR)(run:Int):TF (p9 l hq g9 d s run):=
 (xd hv hl _ _ (λ_=>nB) (pH hl)).1
theorem vR.tf{l:List In}{hq g9:Int}{d:List Int}{h:List Ob}{run:Int}{ts:List jg}(hv:hZ l hq g9=true)(hl:l.length<=2048)(V:vR l hq g9 d h run n ts):∀t∈ts,TF t/\(t.hV=0->Way l t):=by
 induction V with
 |hG ts _ hb=>
  intro t X;obtain⟨k,hk,rfl⟩:=FF X;obtain⟨x,ia,_,e⟩:=hb k hk;rw[e];exact⟨pH hl,λ_=>nB⟩
 |step k hk h1 h2 ad=>
  intro t X
  rcases Ee X with X|rfl
  .exact ad t X
  .obtain⟨a,b⟩:=ad _ (J_ hk);exact qk hv hl (b h2) a h2
structure CB(k:Nat)(s:qR):Prop where
 h:(s.h.length:Int)<=2+k*500000
 hU:(s.hU.length:Int)<=k*500000
 st0: -1<=s.hG
 st1:s.hG<=3000
 t0:0<=s.iH
 t1:s.iH<=k
 p0:0<=s.hw
 p1:s.hw<=k*3001
 a0:0<=s.ja
 a1:s.ja<=k
theorem CB.zero(k:Nat):CB k Cm.zero.p:=⟨by show(0:Int)<=2+k*500000;omega,by show(0:Int)<=k*500000;omega,by decide,by decide,by decide,by show(0:Int)<=k;omega,by decide,by show(0:Int)<=k*3001;omega,by decide,by show(0:Int)<=k;omega⟩
theorem CB.begin(hq:Int):CB 0 (r8 true hq):=⟨show(2:Int)<=2 by decide,show(0:Int)<=0 by decide,show(-1:Int)<=0 by decide,show(0:Int)<=3000 by decide,show(0:Int)<=0 by decide,show(0:Int)<=0 by decide,show(0:Int)<=0 by decide,show(0:Int)<=0 by decide,show(0:Int)<=0 by decide,show(0:Int)<=0 by decide⟩
theorem CB.ask{l:List In}{hq g9:Int}{lr:List Int}{s:qR}(hv:hZ l hq g9=true)(h:CB k s):CB (k+1) (oN l hq g9 lr s).1:=by
 have hb:=kO hv;unfold oN;split
 .exact CB.zero _
 split
 .exact CB.zero _
 .rename_i h2
  have hk:¬(s.jt=true∨jm l hq g9 s.hG=false∨(lE l hq g9 s.hG jb s.h 0).hT=4):=by unfold lZ at h2;simpa using h2
  have j:jm l hq g9 s.hG=true:=by
   cases he:jm l hq g9 s.hG with
   |true=>rfl
   |false=>exact D6 (.inr (.inl he)) hk
  have hr: -1<=s.hG/\s.hG<l.length:=by
   by_cases ho:s.hG<0∨(l.length:Int)<=s.hG
   .unfold jm at j;rw[jX ho]at j;simp at j
   .omega
  have hn:=tW (hq:=hq) (g9:=g9) jb s.h 0 hv hr.1 hr.2;have ao:=r0 l hq g9 s.hG jb s.h 0;obtain⟨e,he⟩:=nm_ (lE l hq g9 s.hG jb s.h 0);rw[<-he]at hk hn ao |-;clear he
  have b0:¬e.hT=4:=λx=>hk (.inr (.inr x))
  obtain⟨_,_,bp,bI,_⟩:=hn.resolve_left b0;have a:=ao.nw;have b:=yF s.h e;obtain⟨av,bf,y,E,d,aT,g,cX,i,r⟩:=h
  have K:(s.hU.length:Int)<=((k+1:Nat):Int)*500000:=by omega
  show CB (k+1) (oU l lr s e)
  unfold oU;split
  .refine⟨?_,?_,?_,?_,d,?_,?_,?_,?_,?_⟩
   .show((mj l s.h s.hG _).length:Int)<=2+((k+1:Nat):Int)*500000
    rw[wV];omega
   .show((s.hU++[_]).length:Int)<=((k+1:Nat):Int)*500000
    rw[H_,FP];omega
   .show -1<=s.hG+1
    omega
   .show s.hG+1<=3000
    omega
   .show s.iH<=((k+1:Nat):Int)
    omega
   .show 0<=s.hw+1
    omega
   .exact Km
   .show 0<=s.ja+1
    omega
   .show s.ja+1<=((k+1:Nat):Int)
    omega
  split
  .refine⟨?_,?_,y,E,d,?_,?_,?_,i,?_⟩
   .show((lI s.h e).length:Int)<=2+((k+1:Nat):Int)*500000
    omega
   .exact K
   .show s.iH<=((k+1:Nat):Int)
    omega
   .show 0<=s.hw+1
    omega
   .exact Km
   .exact Ks
  .refine⟨?_,?_,bp,?_,d,?_,?_,?_,i,?_⟩
   .show((lI s.h e).length:Int)<=2+((k+1:Nat):Int)*500000
    omega
   .exact K
   .show e.pc<=3000
    omega
   .show s.iH<=((k+1:Nat):Int)
    omega
   .show 0<=s.hw+1
    omega
   .exact Km
   .exact Ks
theorem CB.commit{s:qR}{t:jg}(h:CB k s)(X:TF t)(ok:Bool):CB (k+1) (kW ok s t).1:=by
 unfold kW;split
 .exact CB.zero _
 split
 .exact CB.zero _
 split
 .exact CB.zero _
 obtain⟨av,bf,y,E,d,aT,g,cX,i,r⟩:=h;have a:=xi s.h t;have h1:=X.sm.nw;have h2:=X.sm.hU;have h3:=X.s0;have aw:=X.s1;have ax:=X.n0;have aY:=X.n1
 show CB (k+1) (nD s t)
 unfold nD;split
 .refine⟨?_,?_,ax,aY,?_,?_,?_,?_,i,?_⟩
  .show((mL s.h t).length:Int)<=2+((k+1:Nat):Int)*500000
   omega
  .exact Ke
  .show 0<=s.iH+1
   omega
  .show s.iH+1<=((k+1:Nat):Int)
   omega
  .show 0<=s.hw+t.hw
   omega
  .show s.hw+t.hw<=((k+1:Nat):Int)*3001
   omega
  .exact Ks
 .refine⟨?_,?_,y,E,?_,?_,?_,?_,i,?_⟩
  .show((mL s.h t).length:Int)<=2+((k+1:Nat):Int)*500000
   omega
  .exact Ke
  .show 0<=s.iH+1
   omega
  .show s.iH+1<=((k+1:Nat):Int)
   omega
  .show 0<=s.hw+t.hw
   omega
  .show s.hw+t.hw<=((k+1:Nat):Int)*3001
   omega
  .exact Ks
theorem vT.cb{l:List In}{hq g9:Int}{d lr:List Int}{run:Int}{s:qR}(hv:hZ l hq g9=true)(h:vT l hq g9 d lr k run s):CB k s/\0<=run/\run<=k:=by
 have hb:=kO hv
 induction h with
 |hG=>exact⟨CB.begin hq,by decide,by decide⟩
 |ask _ _ _ ad=>exact⟨ad.1.ask hv,ad.2.1,by have:=ad.2.2;omega⟩
 |commit _ _ _ ad=>exact⟨ad.1.commit (ua hv hb.2.1 _ _) true,by have:=ad.2.1;omega,by have:=ad.2.2;omega⟩
section
def GV(P:Int->Prop)(v:Vl):Prop:=v.r=true->P v.n
def GO(P:Int->Prop)(o:Ob):Prop:=P o.id/\∀v∈o.fs,GV P v
structure XF(P:Int->Prop)(x:XP):Prop where
 zero:P 0
 h:∀o∈x.h,GO P o
 sr:∀i,GV P (x.sr i)
 r:∀i,GV P (x.e.r i)
 rs:∀c∈x.e.rs,(P c.id∨c.id=1)/\GV P c.v
 ws:∀c∈x.e.ws,(P c.id∨c.id=1)/\GV P c.v
 nw:x.e.nw=[]
 v:GV P x.e.v
def XO(P:Int->Prop)(x:XP):Prop:=x.hF=true∨XF P x
variable{P:Int->Prop}
theorem GV.num(n:Int):GV P ⟨false,n⟩:=λh=>by simp at h
theorem GV.default:GV P (default:Vl):=GV.num _
theorem sX{h:List Ob}(aB:∀o∈h,GO P o){id f:Int}{v:Vl}(e:ji h id f=some v):GV P v:=by
 obtain⟨k,hk,_,_,_,hf,aL⟩:=p7 e;rw[<-aL];exact(aB _ (J_ hk)).2 _ (J_ hf)
theorem XF.read{x:XP}(I:XF P x)(id f:Int)(hid:P id∨id=1):XO P (hM x id f).1/\GV P (hM x id f).2:=by
 unfold hM;split
 .exact⟨.inl rfl,GV.default⟩
 .rename_i v e;have hv:=sX I.h e;split
  .exact⟨.inr I,hv⟩
  .refine⟨.inr {I with rs:=λc hc=>?_},hv⟩
   rcases T_.1 hc with hc|hc
   .exact I.rs c hc
   .rw[R_]at hc;subst hc;exact⟨hid,hv⟩
theorem XF.write{x:XP}(I:XF P x)(id f:Int)(v:Vl)(hid:P id∨id=1)(hv:GV P v):XF P (hY x id f v):=by
 refine{I with ws:=λc hc=>?_}
 rcases T_.1 hc with hc|hc
 .exact I.ws c hc
 .rw[R_]at hc;subst hc;exact⟨hid,hv⟩
theorem XF.brk{x:XP}(I:XF P x)(b:Bool):XF P {x with hF:=b}:={I with}
theorem XF.Dk{x:XP}(I:XF P x)(k p s:Int)(t:Bool)(v:Vl)(r:Nat->Vl)(hv:GV P v)(hr:∀i,GV P (r i)):XF P {x with e:={x.e with hT:=k,pc:=p,kl:=s,hO:=t,v:=v,r:=r}}:={I with r:=hr,v:=hv}
theorem XF.root{x:XP}(I:XF P x):XF P (iA x):=I.brk _
theorem XO.read{x:XP}(I:XO P x)(id f:Int)(hid:x.hF=false->(P id∨id=1)):XO P (hM x id f).1/\((hM x id f).1.hF=false->x.hF=false/\GV P (hM x id f).2):=by
 rcases I with hb|I
 .exact IE
 .cases hb:x.hF with
  |true=>
   exact IE
  |false=>
   obtain⟨a,b⟩:=I.read id f (hid hb);exact⟨a,λ_=>⟨rfl,b⟩⟩
theorem XO.write{x:XP}(I:XO P x)(id f:Int)(v:Vl)(hid:x.hF=false->(P id∨id=1))(hv:x.hF=false->GV P v):XO P (hY x id f v):=by
 rcases I with hb|I
 .exact .inl hb
 .cases hb:x.hF with
  |true=>exact .inl hb
  |false=>exact .inr (I.write id f v (hid hb) (hv hb))
theorem XF.frame{x:XP}(I:XF P x):XO P (hK x).1/\((hK x).1.hF=false->P (hK x).2.1):=by
 unfold hK;simp only;split
 .rename_i hb;exact⟨.inl hb,λh=>by rw[hb]at h;cases h⟩
 .obtain⟨a,b⟩:=XO.read (.inr I.root:XO P (iA x)) 1 0 (λ_=>.inr rfl);refine⟨?_,λh=>?_⟩
  .rcases a with a|a
   .exact .inl (by simp[a])
   .exact .inr (a.brk _)
  .simp only[Bool.or_eq_false_iff]at h
   have hr:(hM (iA x) 1 0).2.r=true:=by have:=h.2.1;simpa using this
   exact(b h.1).2 hr
theorem XO.brk{x:XP}:XO P (kA x):=.inl rfl
theorem XO.A5{x:XP}(I:XO P x)(k p s:Int)(t:Bool)(v:Vl)(r:Nat->Vl)(hv:XF P x->GV P v)(hr:XF P x->∀i,GV P (r i)):XO P {x with e:={x.e with hT:=k,pc:=p,kl:=s,hO:=t,v:=v,r:=r}}:=by
 rcases I with hb|I
 .exact .inl hb
 .exact .inr (I.Dk k p s t v r (hv I) (hr I))
theorem GV.jb(i:Nat):GV P (jb i):=GV.default
theorem XO.frame{x:XP}(I:XO P x):XO P (hK x).1/\((hK x).1.hF=false->P (hK x).2.1):=Ix
theorem XO.throw{x:XP}(I:XO P x)(v:Vl)(hv:GV P v):XO P (jc x v):=by
 have hf:XO P (hK x).1/\((hK x).1.hF=false->P (hK x).2.1):=Ix;unfold jc;simp only;generalize hK x=a at*;obtain⟨C,d⟩:=hf;split
 .exact C
 .obtain⟨aT,bB⟩:=C.read a.2.1 2 (λh=>.inl (d h));generalize hM a.1 a.2.1 2=b at*;split
  .exact XO.brk
  split
  .have h1:XO P (hY b.1 a.2.1 2 default):=aT.write _ _ _ (λh=>.inl (d (bB h).1)) (λ_=>GV.default);have h2:XO P (hY (hY b.1 a.2.1 2 default) 1 2 v):=JP;exact h2.A5 _ _ _ _ _ _ (λh=>h.v) (λ_=>GV.jb)
  .obtain⟨bo,aN⟩:=aT.read a.2.1 0 (λh=>.inl (d (bB h).1));generalize hM b.1 a.2.1 0=p at*;split
   .exact XO.brk
   split
   .exact bo.A5 _ _ _ _ _ _ (λ_=>hv) (λh=>h.sr)
   .have h1:XO P (hY p.1 1 0 p.2):=by
     rcases bo with h|h
     .exact .inl h
     .cases hb:p.1.hF with
      |true=>exact .inl hb
      |false=>exact .inr (h.write _ _ _ (.inr rfl) (aN hb).2)
    have h2:XO P (hY (hY p.1 1 0 p.2) 1 2 v):=JP;exact h2.A5 _ _ _ _ _ _ (λh=>h.v) (λ_=>GV.jb)
theorem XO.fault{x:XP}(I:XO P x)(n:Int):XO P (i9 x n):=I.throw _ (GV.num n)
theorem XO.reg{x:XP}(I:XO P x)(a:Int)(v:Vl)(hv:XF P x->GV P v):XO P (kL x a v):=by
 rcases I with hb|I
 .exact .inl hb
 .refine .inr {I with r:=λi=>?_}
  show GV P (pV x.e.r a v i)
  unfold pV;split
  .exact hv I
  .exact I.r i
theorem XO.go{x:XP}(I:XO P x)(pc:Int):XO P (ti x pc):=by
 rcases I with hb|I
 .exact .inl hb
 .exact .inr {I with}
theorem XF.object{x:XP}(I:XF P x)(v:Vl)(f:Int)(hv:GV P v):XO P (ik x v f).1/\P (ik x v f).2.1:=by
 unfold ik;split
 .exact⟨XO.fault (.inr I) _,I.zero⟩
 split
 .exact⟨XO.fault (.inr I) _,I.zero⟩
 split
 .exact⟨XO.brk,I.zero⟩
 split
 .exact⟨XO.fault (.inr I) _,I.zero⟩
 .rename_i h1 _ _ _ _ _;exact⟨.inr I,hv (by simpa using h1)⟩
theorem XO.variable{x:XP}(I:XO P x)(n:Int):XO P (ht x n).1/\((ht x n).1.hF=false->(ht x n).2.2.2=true->P (ht x n).2.1):=by
 obtain⟨h1,h2⟩:=I.frame;unfold ht;simp only;generalize hK x=a at*;split
 .exact⟨h1,λ_ h=>by cases h⟩
 split
 .exact⟨h1.fault _,λ_ h=>by cases h⟩
 .exact⟨h1,λh _=>h2 h⟩
theorem qW(op:Int)(a b:Vl):GV P (iy op a b).1:=by
 have h:(iy op a b).1.r=false:=by
  unfold iy;split
  .rfl
  split
  .rfl
  unfold py
  repeat' split
  all_goals rfl
 intro h2;rw[h]at h2
 cases h2
theorem XF.ia{x y:XP}(I:XF P x)(i:In)(h:jS x i=some y):XO P y:=by
 have ho:XO P x:=.inr I;unfold jS at h
 refine iC (R:=XO P) h (λ_=>ho) λ_ h=>?_
 refine iC (R:=XO P) h (λ_=>ho.reg _ _ λ_=>GV.num _) λ_ h=>?_
 refine iC (R:=XO P) h (λ_=>ho.reg _ _ λ_ _=>I.zero) λ_ h=>?_
 refine iC (R:=XO P) h (λ_=>ho.reg _ _ λ_=>I.r _) λ_ h=>?_
 refine iC (R:=XO P) h (λ_=>?_) λ_ h=>?_
 .split
  .exact ho.fault _
  .exact ho.reg _ _ λ_=>qW _ _ _
 refine iC (R:=XO P) h (λ_=>ho.go _) λ_ h=>?_
 refine iC (R:=XO P) h (λ_=>?_) λ_ h=>?_
 .split
  .exact ho
  .exact ho.go _
 refine iC (R:=XO P) h (λ_=>.inr {I with r:=GV.jb}) λ_ h=>?_
 refine iC (R:=XO P) h (λ_=>ho.throw _ (I.r _)) λ_ h=>?_
 refine iC (R:=XO P) h (λ_=>?_) λ_ h=>?_
 .split
  .exact ho.fault _
  .exact .inr {I with}
 cases h
theorem XF.hq{x y:XP}(I:XF P x)(i:In)(h:kN x i=some y):XO P y:=by
 have ho:XO P x:=.inr I;have ha:∀k,GV P (x.sr k):=I.sr;unfold kN at h
 by_cases h1:i.op≠8/\i.op≠9/\i.op≠10/\i.op≠20
 .rw[Q_ h1]at h
  cases h
 rw[P_ h1]at h;obtain⟨hv1,bX⟩:=XO.variable ho i.n;dsimp only at h;generalize ht x i.n=a at*
 by_cases hb:a.2.2.2=false
 .rw[Q_ hb]at h;injection h with h;subst h;exact hv1
 rw[P_ hb]at h
 have hid:a.1.hF=false->P a.2.1:=λh=>bX h (by simpa using hb)
 refine iC (R:=XO P) h (λ_=>hv1.write _ _ _ (λh=>.inl (hid h)) (λ_=>ha _)) λ_ h=>?_
 obtain⟨bi,bf⟩:=hv1.read a.2.1 a.2.2.1 (λh=>.inl (hid h));generalize hM a.1 a.2.1 a.2.2.1=z at*
 have c:z.1.hF=false->GV P z.2:=λh=>(bf h).2
 have d:z.1.hF=false->P a.2.1:=λh=>hid (bf h).1
 have b:∀{u:XP},(z.1.hF=true->u.hF=true)->(z.1.hF=false->XF P z.1->XO P u)->XO P u:=by
  intro u h1 h2
  cases hb:z.1.hF with
  |true=>exact .inl (h1 hb)
  |false=>exact h2 hb (bi.resolve_left (by rw[hb];simp))
 refine iC (R:=XO P) h (λ_=>b (λh=>h) (λh hf=>(XO.reg (.inr hf) _ _ λ_=>c h))) λ_ h=>?_
 by_cases h10:i.op=10
 .rw[Q_ h10]at h
  refine iC (R:=XO P) h (λ_=>bi.fault _) λ_ h=>?_
  injection h with h;subst h;have hu:=bi.write a.2.1 a.2.2.1 (iy i.b z.2 (x.sr i.a.toNat)).1 (λh=>.inl (d h)) (λ_=>qW _ _ _)
  rcases hu with hb|hf
  .exact .inl hb
  .exact .inr {hf with}
 rw[P_ h10]at h
 refine iC (R:=XO P) h (λ_=>bi.fault _) λ_ h=>?_
 injection h with h;subst h;exact b (λh=>h) (λh hf=>.inr {hf with r:=hf.sr,v:=c h})
structure EF(P:Int->Prop)(e:pQ):Prop where
 r:∀i,GV P (e.r i)
 rs:∀c∈e.rs,(P c.id∨c.id=1)/\GV P c.v
 ws:∀c∈e.ws,(P c.id∨c.id=1)/\GV P c.v
 nw:∀o∈e.nw,GO P o
 v:GV P e.v
def EN(P:Int->Prop)(nx:Int)(e:pQ):Prop:=(EF P e/\e.nw=[])∨(EF (λn=>P n∨n=nx) e/\∃fs,e.nw=[⟨nx,fs⟩])
def XR(P:Int->Prop)(nx:Int)(y:XP):Prop:=y.hF=true∨EN P nx y.e
theorem GV.mono{P Q:Int->Prop}(h:∀n,P n->Q n){v:Vl}(hv:GV P v):GV Q v:=λhr=>h _ (hv hr)
theorem GO.mono{P Q:Int->Prop}(h:∀n,P n->Q n){o:Ob}(ho:GO P o):GO Q o:=⟨h _ ho.1,λv hv=>(ho.2 v hv).mono h⟩
theorem EF.mono{P Q:Int->Prop}(h:∀n,P n->Q n){e:pQ}(he:EF P e):EF Q e:=
 ⟨λi=>(he.r i).mono h,λc hc=>⟨(he.rs c hc).1.imp_left (h _),(he.rs c hc).2.mono h⟩,λc hc=>⟨(he.ws c hc).1.imp_left (h _),(he.ws c hc).2.mono h⟩,λo ho=>(he.nw o ho).mono h,he.v.mono h⟩
theorem EN.all{nx:Int}{e:pQ}(h:EN P nx e)(hn:P nx):EF P e:=by
 rcases h with h|h
 .exact h.1
 .exact h.1.mono λn D=>D.elim id (λe=>e▸hn)
theorem XF.en{x:XP}(I:XF P x)(nx:Int):EN P nx x.e:=.inl ⟨⟨I.r,I.rs,I.ws,λo ho=>(by rw[I.nw]at ho;cases ho),I.v⟩,I.nw⟩
theorem XO.xr{x:XP}(I:XO P x)(nx:Int):XR P nx x:=I.elim .inl λh=>.inr (h.en nx)
theorem yU(x:XP)(id f:Int):(hM x id f).1.nx=x.nx:=by
 unfold hM;split
 .rfl
 .split<;>rfl
theorem xI(x:XP):(hK x).1.nx=x.nx:=by
 unfold hK;simp only;split
 .rfl
 .show(hM (iA x) 1 0).1.nx=_
  rw[yU]
  rfl
theorem XF.rest{x:XP}(I:XF P x)(i:In):XR P x.nx (j5 x i):=by
 have ho:XO P x:=.inr I;have ha:∀k,GV P (x.sr k):=I.sr
 have hP:∀n,P n->(P n∨n=x.nx):=λn h=>.inl h
 unfold j5;dsimp only
 by_cases ax:i.op=5
 .rw[Q_ ax];refine XO.xr ?_ _;obtain⟨h1,h2⟩:=I.object (x.sr i.b.toNat) i.n (ha _);generalize ik x (x.sr i.b.toNat) i.n=y at*
  by_cases hy:y.2.2=true
  .rw[Q_ hy];obtain⟨bi,bf⟩:=h1.read y.2.1 i.n (λ_=>.inl h2);generalize hM y.1 y.2.1 i.n=z at*;exact JJ
  .rw[P_ hy];exact h1
 rw[P_ ax]
 by_cases aY:i.op=6
 .rw[Q_ aY];refine XO.xr ?_ _;obtain⟨h1,h2⟩:=I.object (x.sr i.b.toNat) i.n (ha _);generalize ik x (x.sr i.b.toNat) i.n=y at*
  by_cases hy:y.2.2=true
  .rw[Q_ hy];exact h1.write _ _ _ (λ_=>.inl h2) (λ_=>ha _)
  .rw[P_ hy];exact h1
 rw[P_ aY]
 by_cases bA:i.op=7
 .rw[Q_ bA];refine .inr (.inr ⟨⟨λj=>?_,λc hc=>⟨(I.rs c hc).1.imp_left .inl,(I.rs c hc).2.mono hP⟩,λc hc=>⟨(I.ws c hc).1.imp_left .inl,(I.ws c hc).2.mono hP⟩,λo ho=>?_,I.v.mono hP⟩,_,rfl⟩)
  .show GV _ (pV x.e.r i.a ⟨true,x.nx⟩ j)
   unfold pV;split
   .exact λ_=>.inr rfl
   .exact(I.r j).mono hP
  .have e:o=⟨x.nx,List.replicate i.n.toNat default⟩:=R_.1 ho;rw[e];exact⟨.inr rfl,λv hv=>by rw[(Gb.1 hv).2];exact GV.default⟩
 rw[P_ bA]
 by_cases h13:i.op=13
 .rw[Q_ h13];obtain⟨C,d⟩:=I.frame;have hn:=xI x;generalize hK x=y at*
  cases hb:y.1.hF with
  |true=>exact .inl rfl
  |false=>
   have hf:XF P y.1:=C.resolve_left (by rw[hb];simp);have hk:=d hb;refine .inr (.inr ⟨⟨λj=>(hf.r j).mono hP,λc hc=>⟨(hf.rs c hc).1.imp_left .inl,(hf.rs c hc).2.mono hP⟩,λc hc=>?_,λo ho=>?_,hf.v.mono hP⟩,_,by rw[<-hn];rfl⟩)
   .rcases T_.1 hc with hc|hc
    .exact⟨(hf.ws c hc).1.imp_left .inl,(hf.ws c hc).2.mono hP⟩
    .have e:c=⟨1,0,⟨true,y.1.nx⟩⟩:=R_.1 hc;rw[e];exact⟨.inr rfl,λ_=>.inr hn⟩
   .have e:o=⟨y.1.nx,[⟨true,y.2.1⟩,⟨false,y.1.jN+1⟩,default]++((List.range i.b.toNat).map y.1.sr++List.replicate (i.c-i.b).toNat default)⟩:=R_.1 ho;rw[e];refine⟨.inr hn,λv hv=>?_⟩
    rcases T_.1 hv with hv|hv
    .rcases M_.1 hv with e|hv
     .rw[e]
      exact λ_=>.inl hk
     rcases M_.1 hv with e|hv
     .rw[e];exact GV.num _
     .rw[R_.1 hv];exact GV.default
    .rcases T_.1 hv with hv|hv
     .obtain⟨j,_,e⟩:=D2.1 hv;rw[<-e];exact(hf.sr j).mono hP
     .rw[(Gb.1 hv).2];exact GV.default
 rw[P_ h13];refine XO.xr ?_ _
 by_cases l:i.op=14
 .rw[Q_ l];obtain⟨C,d⟩:=I.frame;generalize hK x=y at*
  by_cases hb:y.1.hF=true
  .rw[Q_ hb];exact C
  rw[P_ hb]
  have hb:y.1.hF=false:=by simpa using hb
  obtain⟨bo,aN⟩:=C.read y.2.1 0 (λh=>.inl (d h));generalize hM y.1 y.2.1 0=p at*
  by_cases h1:p.2.r=true/\p.2.n=0
  .rw[Q_ h1];exact bo.A5 _ _ _ _ _ _ (λ_=>ha _) (λh=>h.sr)
  rw[P_ h1];obtain⟨bD,q⟩:=bo.read y.2.1 1 (λh=>.inl (d (aN h).1));generalize hM p.1 y.2.1 1=r at*;split
  .exact XO.brk
  .have bp:XO P (hY r.1 1 0 p.2):=bD.write _ _ _ (λ_=>.inr rfl) (λh=>(aN (q h).1).2);have bI:XO P (hY (hY r.1 1 0 p.2) 1 1 (x.sr i.a.toNat)):=bp.write _ _ _ (λ_=>.inr rfl) (λ_=>ha _);exact bI.go _
 rw[P_ l]
 by_cases s:i.op=15∨i.op=18
 .rw[Q_ s];have hr:=I.root;generalize iA x=y at*
  by_cases hb:y.hF=true
  .rw[Q_ hb];exact .inl hb
  rw[P_ hb];obtain⟨bi,bf⟩:=XO.read (.inr hr:XO P y) 1 (if i.op=15 then 1 else 2) (λ_=>.inr rfl);generalize hM y 1 (if i.op=15 then 1 else 2)=z at*;exact JJ
 rw[P_ s]
 by_cases f:i.op=17
 .rw[Q_ f];obtain⟨C,d⟩:=I.frame;generalize hK x=y at*;exact C.write _ _ _ (λh=>.inl (d h)) (λ_=>GV.num _)
 rw[P_ f];exact ho
theorem XF.Do{x:XP}(I:XF P x)(pc:Int):XR P x.nx (qb x pc):=by
 unfold qb;split
 .dsimp only;split
  .exact .inl ‹_›
  .have hr:=I.root;obtain⟨bi,bf⟩:=XO.read (.inr hr:XO P (iA x)) 1 2 (λ_=>.inr rfl);generalize hM (iA x) 1 2=z at*
   cases hb:z.1.hF with
   |true=>
    refine XO.xr ?_ _;unfold jc hK iA;dsimp only;simp only[hb,F7,if_true];exact .inl rfl
   |false=>exact(bi.throw _ (bf hb).2).xr _
 .dsimp only;split
  .rename_i y hy;exact(I.ia _ hy).xr _
  .split
   .rename_i y hy;exact(I.hq _ hy).xr _
   .exact I.rest _
theorem EF.hF:EF P i7:=⟨λ_=>GV.default,λc hc=>(by cases hc),λc hc=>(by cases hc),λc hc=>(by cases hc),GV.default⟩
theorem XF.CI{x:XP}(I:XF P x)(pc:Int)(hp:pc≠ -1)(d:(x.jd.getD pc.toNat default).op=20):XO P (qb x pc):=by
 unfold qb;rw[P_ hp];dsimp only;split
 .rename_i y hy;exact I.ia _ hy
 .split
  .rename_i y hy;exact I.hq _ hy
  .rename_i hy
   exfalso
   unfold kN at hy;rw[P_ (λh=>h.2.2.2 d)]at hy;dsimp only at hy;split at hy
   .cases hy
   rw[P_ (by rw[d];decide),P_ (by rw[d];decide),P_ (by rw[d];decide)]at hy;split at hy<;>cases hy
theorem AZ{h:List Ob}{r:Nat->Vl}(c:List In)(hq g9 pc nx:Int)(h0:P 0)(aB:∀o∈h,GO P o)(hr:∀i,GV P (r i)):EN P nx (lE c hq g9 pc r h nx):=by
 unfold lE;split
 .exact .inl ⟨EF.hF,rfl⟩
 .dsimp only;have I:XF P ⟨c,hq,g9,pc,r,h,nx,{mt with pc:=pc+1,r:=r},false⟩:=⟨h0,aB,hr,hr,λc hc=>(by cases hc),λc hc=>(by cases hc),rfl,GV.default⟩;have ho:=I.Do pc;split
  .exact .inl ⟨EF.hF,rfl⟩
  .rename_i hb;exact ho.resolve_left hb
theorem ye{h:List Ob}{r:Nat->Vl}(c:List In)(hq g9 pc nx:Int)(d:ij c pc=20)(h0:P 0)(aB:∀o∈h,GO P o)(hr:∀i,GV P (r i)):EF P (lE c hq g9 pc r h nx)/\(lE c hq g9 pc r h nx).nw=[]:=by
 have uK:¬(pc<0∨(c.length:Int)<=pc):=by
  intro h;unfold ij at d;rw[Q_ h]at d
  cases d
 have d:(c.getD pc.toNat default).op=20:=by unfold ij at d;rw[P_ uK]at d;exact d
 unfold lE;split
 .exact⟨EF.hF,rfl⟩
 .dsimp only;have I:XF P ⟨c,hq,g9,pc,r,h,nx,{mt with pc:=pc+1,r:=r},false⟩:=⟨h0,aB,hr,hr,λc hc=>(by cases hc),λc hc=>(by cases hc),rfl,GV.default⟩;have ho:=I.CI pc o_ d;split
  .exact⟨EF.hF,rfl⟩
  .rename_i hb;have hf:=ho.resolve_left hb;exact⟨⟨hf.r,hf.rs,hf.ws,λo ho=>(by rw[hf.nw]at ho;cases ho),hf.v⟩,hf.nw⟩
end
end Go.Proofs.YtenbhdilndfaeaaGreat
